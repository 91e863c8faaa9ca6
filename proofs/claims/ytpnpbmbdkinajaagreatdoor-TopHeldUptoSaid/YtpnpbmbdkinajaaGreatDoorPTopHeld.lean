/- For all batches, the tickets of a maker, a type and a content grow by  -/
import Derived.Test.YtpnpbmbdkinajaaGreatDoorTopBH
import Derived.WalkKit
import Derived.ProofKit
import Derived.OpenShut
import Derived.JoinedCond
set_option linter.all false
namespace Go.Proofs.YtpnpbmbdkinajaaGreatDoor.topHeld
open Go.ChangeShapes Go.WideShapes Go.ChangeAt Go.RowKit Go.cE
theorem c4:Tryz.f5.params.all (Tryz.prog.readableRec ·)=true:=by kernel_rfl
theorem vR:(Rows.topHeldUptoRow.inPlace==Tryz.prog.inPlace 5)=true:=by kernel_rfl
theorem CW:(Rows.topHeldUptoRow.unfollowed==Tryz.prog.unfollowed 5)=true:=by kernel_rfl
theorem CX:(Rows.topHeldUptoRow.recurses==Tryz.prog.recurses 5)=true:=by kernel_rfl
theorem CY:(Rows.topHeldUptoRow.named==Tryz.prog.varsNamed 5)=true:=by kernel_rfl
theorem c19:(Rows.topHeldUptoRow.plainKeys==Tryz.prog.plainKeys)=true:=by rw[Tryz.keys];rfl
theorem c21:(Rows.topHeldUptoRow.lifted==Tryz.prog.liftsFinal)=true:=by rw[Tryz.final];rfl
theorem c22:(Tryz.prog.make==some Rows.topHeldUptoRow.make)=true:=by rw[Tryz.make];rfl
theorem closed:joinedFacts Tryz.prog 5 Tryz.f5 (Rows.OpenSpec.upto Rows.topHeldSpec).bare Rows.topHeldUptoRow=true :=
 ED (by kernel_rfl) Tryz.laid Tryz.K9 c4 (by kernel_rfl) Z Tryz.stops Z Tryz.knobs vR CW CX CY (by kernel_rfl) (by kernel_rfl) (by kernel_rfl) c19 Z Tryz.heard Tryz.enter c21 c22 (by kernel_rfl) (by kernel_rfl) (by kernel_rfl) (by kernel_rfl)
theorem named:Tryz.prog.funcNamed Rows.topHeldUptoRow.func=some 5:=by kernel_rfl
set_option maxRecDepth 100000 in
theorem lifted(os:Os)(started:os.Started)(H:Type)(enc:TypeId×Value->H)(F:Stop.Interp) :
  ReturnsInHanded {} Tryz.checked os 5 .any ((Rows.OpenSpec.upto Rows.topHeldSpec).pre6 enc Tryz.prog Tryz.f5 Rows.topHeldUptoRow.domain false) (((Rows.OpenSpec.upto Rows.topHeldSpec).at F).post enc Tryz.prog Tryz.f5 false true false false):=by
 refine vD (C:=Tryz.checked) (s:=(Rows.OpenSpec.upto Rows.topHeldSpec)) (k:=Rows.uptoSmall) Z Tryz.own started (by kernel_rfl) Tryz.func5
  (OpenSpec.witness (enc:=enc) (C:=Tryz.checked) (s:=(Rows.OpenSpec.upto Rows.topHeldSpec)) (k:=Rows.uptoSmall) Z false ⟨#[],#[.slice none 0 0,.int .i64 0,.agg #[.int .i64 0,.slice none 0 0],.agg #[.int .i64 0,.int .i64 0,.int .i64 0,.string .empty,.slice none 0 0,.slice none 0 0,.slice none 0 0]],[]⟩ 8 (by kernel_rfl) (by kernel_rfl) (by kernel_rfl)
   (x:=([.nil,.lit (.int .i64 0),.agg [.lit (.int .i64 0),.nil],.agg [.lit (.int .i64 0),.lit (.int .i64 0),.lit (.int .i64 0),.lit (.string []),.nil,.nil,.nil]],[],[])) (by kernel_rfl) Z (by kernel_rfl)) ?_
 intro W hS base args ds gs before Q0 hW aiN hk _;have hval:∀(j:Nat) t v,Tryz.f5.params[j]?=some t->args[j]?=some v->Value.okWide Tryz.prog W .any base t v:=Q0;have hW':=hW;obtain⟨p,q,hA0,hV,rfl,hfz,hnd⟩:=hW;have hA:DataW.TrodAll enc Tryz.prog W 0 (λ_=>true) true Tryz.f5.params.toList args.toList ds p:=hA0;rw[Tryz.params5]at hA hval;obtain⟨v0,vs0,d0,ds0,p0,q0,hargs,rfl,rfl,h0,r0⟩:=trodAll_cons hA;obtain⟨v1,vs1,d1,ds1,p1,q1,rfl,rfl,rfl,h1,r1⟩:=trodAll_cons r0;obtain⟨v2,vs2,d2,ds2,p2,q2,rfl,rfl,rfl,h2,r2⟩:=trodAll_cons r1;obtain⟨v3,vs3,d3,ds3,p3,q3,rfl,rfl,rfl,h3,r3⟩:=trodAll_cons r2;obtain⟨rfl,rfl,rfl⟩:=trodAll_nil r3;obtain rfl:args = #[v0,v1,v2,v3]:=by cases args;simp_all
 obtain⟨rfl,rfl⟩:=trodVars_none hV;have O8:Rows.uptoBulkAll ([d0,d1,d2,d3]++[])<=1048576:=of_decide_eq_true hk;simp only[List.append_nil,Rows.uptoBulkAll]at O8;obtain⟨a0,e0,w0,b0⟩:=HL (hval 0 22 v0 rfl rfl) h0;obtain⟨a1,rfl,rfl,rfl,w1⟩:=open_int Tryz.underlying3 (hval 1 3 v1 rfl rfl) h1;have b1:=bounds_i64 w1;obtain⟨a2,e2,w2,b2⟩:=afO (hval 2 28 v2 rfl rfl) h2;obtain⟨a3,e3,w3,b3⟩:=afP (hval 3 32 v3 rfl rfl) h3;exact Eh (X:=Tryz.X) (Kx a0 (λx hx o ho=>qz (b0 x hx o ho) ai) a1 a2 a3) (by simp only[cy];exact⟨_,_,Z,e0,⟨_,_,Z,aeI,⟨_,_,Z,e2,⟨_,_,Z,e3,Z⟩⟩⟩⟩) (Tryz.Td hS) hW' Z Tryz.laid Tryz.K9 Tryz.full (by kernel_rfl) (by kernel_rfl) Tryz.underlying4 Z
theorem M3:Rows.topHeldUptoRow.holds Tryz.pinned (Rows.OpenSpec.upto Rows.topHeldSpec) :=
 OpenClaim.holds_of_cond 5 Tryz.f5 Z Z Z Z Z Z Z ⟨Z,Z,Z,Z,Z⟩ Z Z Z Z Z named Tryz.func5 closed
  (of_decide_eq_true (by kernel_rfl)) (by unfold Func.isWrapper;first|(rw[if_pos ael];kernel_rfl)|(rw[if_neg ael];exact⟨Z,Z⟩))
  (λQ Y H enc _ F=>lifted Q Y H enc F)
theorem proved:Rows.TopHeldUptoSaid:=M3
#print axioms proved
end Go.Proofs.YtpnpbmbdkinajaaGreatDoor.topHeld
