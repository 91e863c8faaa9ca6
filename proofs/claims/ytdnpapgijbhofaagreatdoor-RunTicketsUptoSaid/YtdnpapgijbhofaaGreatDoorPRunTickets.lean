/- For all code, types, values and bounds whose readings are of bulk at m -/
import Derived.Test.YtdnpapgijbhofaaGreatDoorHeadRt
import Derived.Test.YtdnpapgijbhofaaGreatDoorKeepURt
import Derived.Test.YtdnpapgijbhofaaGreatDoorGlobRt
import Derived.WalkKit
import Derived.ProofKit
import Derived.OpenShut
import Derived.JoinedCond
set_option linter.unusedVariables false
set_option linter.unusedSimpArgs false
namespace Go.Proofs.YtdnpapgijbhofaaGreatDoor.runTickets
open Go.ChangeShapes Go.WideShapes Go.ChangeAt Go.RowKit Go.cB
theorem c4:Tryz.f12.params.all (Tryz.prog.readableRec ·)=true:=by kernel_rfl
theorem vv:(Rows.runTicketsUptoRow.inPlace==Tryz.prog.inPlace 12)=true:=by kernel_rfl
theorem En:(Rows.runTicketsUptoRow.unfollowed==Tryz.prog.unfollowed 12)=true:=by kernel_rfl
theorem Eo:(Rows.runTicketsUptoRow.recurses==Tryz.prog.recurses 12)=true:=by kernel_rfl
theorem Ep:(Rows.runTicketsUptoRow.named==Tryz.prog.varsNamed 12)=true:=by kernel_rfl
theorem c19:(Rows.runTicketsUptoRow.plainKeys==Tryz.prog.plainKeys)=true:=by rw[Tryz.keys];rfl
theorem c21:(Rows.runTicketsUptoRow.lifted==Tryz.prog.liftsFinal)=true:=by rw[Tryz.final];rfl
theorem c22:(Tryz.prog.make==some Rows.runTicketsUptoRow.make)=true:=by rw[Tryz.make];rfl
theorem closed:joinedFacts Tryz.prog 12 Tryz.f12 (Rows.OpenSpec.upto Rows.runTicketsSpec).bare Rows.runTicketsUptoRow=true :=
 PC (by kernel_rfl) Tryz.laid Tryz.V8 c4 (by kernel_rfl) Z Tryz.stops Z Tryz.knobs vv En Eo Ep (by kernel_rfl) (by kernel_rfl) (by kernel_rfl) c19 Z Tryz.heard Tryz.enter c21 c22 (by kernel_rfl) (by kernel_rfl) (by kernel_rfl) (by kernel_rfl)
theorem named:Tryz.prog.funcNamed Rows.runTicketsUptoRow.func=some 12:=by kernel_rfl
set_option maxRecDepth 100000 in
theorem lifted(os:Os)(started:os.Started)(H:Type)(enc:TypeId×Value->H)(F:Stop.Interp) :
  ReturnsInHanded {} Tryz.checked os 12 .any ((Rows.OpenSpec.upto Rows.runTicketsSpec).pre6 enc Tryz.prog Tryz.f12 Rows.runTicketsUptoRow.domain false) (((Rows.OpenSpec.upto Rows.runTicketsSpec).at F).post enc Tryz.prog Tryz.f12 false true false false):=by
 refine EA (C:=Tryz.checked) (s:=(Rows.OpenSpec.upto Rows.runTicketsSpec)) (k:=Rows.uptoSmall) Z Tryz.own started (by kernel_rfl) Tryz.func12
  (OpenSpec.witness (enc:=enc) (C:=Tryz.checked) (s:=(Rows.OpenSpec.upto Rows.runTicketsSpec)) (k:=Rows.uptoSmall) Z false ⟨#[],#[.agg #[.int .i64 0,.int .i64 0,.int .i64 0,.int .i64 0],.agg #[.int .i64 0,.int .i64 0,.int .i64 0,.string .empty,.slice none 0 0],.slice none 0 0,.slice none 0 0,.int .i64 0],[]⟩ 8 (by kernel_rfl) (by kernel_rfl) (by kernel_rfl)
   (x:=([.agg [.lit (.int .i64 0),.lit (.int .i64 0),.lit (.int .i64 0),.lit (.int .i64 0)],.agg [.lit (.int .i64 0),.lit (.int .i64 0),.lit (.int .i64 0),.lit (.string []),.nil],.nil,.nil,.lit (.int .i64 0)],[],[])) (by kernel_rfl) Z (by kernel_rfl)) ?_
 intro W hS base args ds gs before ZR hW ae6 hk _;have hval:∀(j:Nat) t v,Tryz.f12.params[j]?=some t->args[j]?=some v->Value.okWide Tryz.prog W .any base t v:=ZR;have hW':=hW;obtain⟨p,q,hA0,hV,rfl,hfz,hnd⟩:=hW;have hA:DataW.TrodAll enc Tryz.prog W 0 (λ_=>true) true Tryz.f12.params.toList args.toList ds p:=hA0;rw[Tryz.params12]at hA hval;obtain⟨v0,vs0,d0,ds0,p0,q0,hargs,rfl,rfl,h0,r0⟩:=trodAll_cons hA;obtain⟨v1,vs1,d1,ds1,p1,q1,rfl,rfl,rfl,h1,r1⟩:=trodAll_cons r0;obtain⟨v2,vs2,d2,ds2,p2,q2,rfl,rfl,rfl,h2,r2⟩:=trodAll_cons r1;obtain⟨v3,vs3,d3,ds3,p3,q3,rfl,rfl,rfl,h3,r3⟩:=trodAll_cons r2;obtain⟨v4,vs4,d4,ds4,p4,q4,rfl,rfl,rfl,h4,r4⟩:=trodAll_cons r3;obtain⟨rfl,rfl,rfl⟩:=trodAll_nil r4;obtain rfl:args = #[v0,v1,v2,v3,v4]:=by cases args;simp_all
 obtain⟨rfl,rfl⟩:=trodVars_none hV;have W3:Rows.uptoBulkAll ([d0,d1,d2,d3,d4]++[])<=1048576:=of_decide_eq_true hk;simp only[List.append_nil,Rows.uptoBulkAll]at W3;obtain⟨x0,y0,z0,t0,e0⟩:=UW (hval 0 63 v0 rfl rfl) h0;obtain⟨a1,e1,w1,b1⟩:=W9 (hval 1 47 v1 rfl rfl) h1;obtain⟨a2,e2,w2,b2⟩:=UT (hval 2 23 v2 rfl rfl) h2;obtain⟨a3,e3,w3,b3⟩:=UU (hval 3 27 v3 rfl rfl) h3;obtain⟨a4,rfl,rfl,rfl,w4⟩:=open_int Tryz.underlying3 (hval 4 3 v4 rfl rfl) h4;have b4:=bounds_i64 w4;exact Pj (X:=Tryz.X) (zW x0 y0 z0 t0 a1 w1 bn a2 w2 bn a3 w3 bn a4 b4) (by simp only[bT];exact⟨_,_,Z,e0,⟨_,_,Z,e1,⟨_,_,Z,e2,⟨_,_,Z,e3,⟨_,_,Z,X3,Z⟩⟩⟩⟩⟩) (Tryz.Xc hS) hW' Z Tryz.laid Tryz.V8 Tryz.full (by kernel_rfl) (by kernel_rfl) Tryz.underlying4 Z
theorem R8:Rows.runTicketsUptoRow.holds Tryz.pinned (Rows.OpenSpec.upto Rows.runTicketsSpec) :=
 OpenClaim.holds_of_cond 12 Tryz.f12 Z Z Z Z Z Z Z ⟨Z,Z,Z,Z,Z⟩ Z Z Z Z Z named Tryz.func12 closed
  (of_decide_eq_true (by kernel_rfl)) (by unfold Func.isWrapper;first|(rw[if_pos (by decide +kernel)];kernel_rfl)|(rw[if_neg (by decide +kernel)];exact⟨Z,Z⟩))
  (λu Y H enc _ F=>lifted u Y H enc F)
theorem proved:Rows.RunTicketsUptoSaid:=R8
#print axioms proved
end Go.Proofs.YtdnpapgijbhofaaGreatDoor.runTickets
