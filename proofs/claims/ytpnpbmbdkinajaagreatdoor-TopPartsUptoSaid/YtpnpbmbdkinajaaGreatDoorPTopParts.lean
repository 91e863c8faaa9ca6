/- TopParts: -/
import Derived.Test.YtpnpbmbdkinajaaGreatDoorTopYG
import Derived.WalkKit
import Derived.ProofKit
import Derived.OpenShut
import Derived.JoinedCond
set_option linter.all false
namespace Go.Proofs.YtpnpbmbdkinajaaGreatDoor.topParts
open Go.ChangeShapes Go.WideShapes Go.ChangeAt Go.RowKit Go.cE
theorem c4:Tryz.f3.params.all (Tryz.prog.readableRec ·)=true:=by kernel_rfl
theorem vR:(Rows.topPartsUptoRow.inPlace==Tryz.prog.inPlace 3)=true:=by kernel_rfl
theorem CW:(Rows.topPartsUptoRow.unfollowed==Tryz.prog.unfollowed 3)=true:=by kernel_rfl
theorem CX:(Rows.topPartsUptoRow.recurses==Tryz.prog.recurses 3)=true:=by kernel_rfl
theorem CY:(Rows.topPartsUptoRow.named==Tryz.prog.varsNamed 3)=true:=by kernel_rfl
theorem c19:(Rows.topPartsUptoRow.plainKeys==Tryz.prog.plainKeys)=true:=by rw[Tryz.keys];rfl
theorem c21:(Rows.topPartsUptoRow.lifted==Tryz.prog.liftsFinal)=true:=by rw[Tryz.final];rfl
theorem c22:(Tryz.prog.make==some Rows.topPartsUptoRow.make)=true:=by rw[Tryz.make];rfl
theorem closed:joinedFacts Tryz.prog 3 Tryz.f3 (Rows.OpenSpec.upto Rows.topPartsSpec).bare Rows.topPartsUptoRow=true :=
 ED (by kernel_rfl) Tryz.laid Tryz.K9 c4 (by kernel_rfl) Z Tryz.stops Z Tryz.knobs vR CW CX CY (by kernel_rfl) (by kernel_rfl) (by kernel_rfl) c19 Z Tryz.heard Tryz.enter c21 c22 (by kernel_rfl) (by kernel_rfl) (by kernel_rfl) (by kernel_rfl)
theorem named:Tryz.prog.funcNamed Rows.topPartsUptoRow.func=some 3:=by kernel_rfl
set_option maxRecDepth 100000 in
theorem lifted(os:Os)(started:os.Started)(H:Type)(enc:TypeId×Value->H)(F:Stop.Interp) :
  ReturnsInHanded {} Tryz.checked os 3 .any ((Rows.OpenSpec.upto Rows.topPartsSpec).pre6 enc Tryz.prog Tryz.f3 Rows.topPartsUptoRow.domain false) (((Rows.OpenSpec.upto Rows.topPartsSpec).at F).post enc Tryz.prog Tryz.f3 false true false false):=by
 refine vD (C:=Tryz.checked) (s:=(Rows.OpenSpec.upto Rows.topPartsSpec)) (k:=Rows.uptoSmall) Z Tryz.own started (by kernel_rfl) Tryz.func3
  (OpenSpec.witness (enc:=enc) (C:=Tryz.checked) (s:=(Rows.OpenSpec.upto Rows.topPartsSpec)) (k:=Rows.uptoSmall) Z false ⟨#[],#[.slice none 0 0,.agg #[.int .i64 0,.int .i64 0,.int .i64 0,.int .i64 0,.slice none 0 0]],[]⟩ 8 (by kernel_rfl) (by kernel_rfl) (by kernel_rfl)
   (x:=([.nil,.agg [.lit (.int .i64 0),.lit (.int .i64 0),.lit (.int .i64 0),.lit (.int .i64 0),.nil]],[],[])) (by kernel_rfl) Z (by kernel_rfl)) ?_
 intro W hS base args ds gs before Q0 hW aiN hk _;have hval:∀(j:Nat) t v,Tryz.f3.params[j]?=some t->args[j]?=some v->Value.okWide Tryz.prog W .any base t v:=Q0;have hW':=hW;obtain⟨p,q,hA0,hV,rfl,hfz,hnd⟩:=hW;have hA:DataW.TrodAll enc Tryz.prog W 0 (λ_=>true) true Tryz.f3.params.toList args.toList ds p:=hA0;rw[Tryz.params3]at hA hval;obtain⟨v0,vs0,d0,ds0,p0,q0,hargs,rfl,rfl,h0,r0⟩:=trodAll_cons hA;obtain⟨v1,vs1,d1,ds1,p1,q1,rfl,rfl,rfl,h1,r1⟩:=trodAll_cons r0;obtain⟨rfl,rfl,rfl⟩:=trodAll_nil r1;obtain rfl:args = #[v0,v1]:=by cases args;simp_all
 obtain⟨rfl,rfl⟩:=trodVars_none hV;have O8:Rows.uptoBulkAll ([d0,d1]++[])<=1048576:=of_decide_eq_true hk;simp only[List.append_nil,Rows.uptoBulkAll]at O8;obtain⟨a0,e0,w0,b0⟩:=HL (hval 0 22 v0 rfl rfl) h0;obtain⟨a1,e1,w1,b1⟩:=acS (hval 1 25 v1 rfl rfl) h1;exact Eh (X:=Tryz.X) (I1 a0 (λx hx o ho=>qz (b0 x hx o ho) ai) a1 (λo ho=>qz (b1 o ho) ai)) (by simp only[cy];exact⟨_,_,Z,e0,⟨_,_,Z,e1,Z⟩⟩) (Tryz.Td hS) hW' Z Tryz.laid Tryz.K9 Tryz.full (by kernel_rfl) (by kernel_rfl) Tryz.underlying4 Z
theorem M3:Rows.topPartsUptoRow.holds Tryz.pinned (Rows.OpenSpec.upto Rows.topPartsSpec) :=
 OpenClaim.holds_of_cond 3 Tryz.f3 Z Z Z Z Z Z Z ⟨Z,Z,Z,Z,Z⟩ Z Z Z Z Z named Tryz.func3 closed
  (of_decide_eq_true (by kernel_rfl)) (by unfold Func.isWrapper;first|(rw[if_pos ael];kernel_rfl)|(rw[if_neg ael];exact⟨Z,Z⟩))
  (λQ Y H enc _ F=>lifted Q Y H enc F)
theorem proved:Rows.TopPartsUptoSaid:=M3
#print axioms proved
end Go.Proofs.YtpnpbmbdkinajaaGreatDoor.topParts
