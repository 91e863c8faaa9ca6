/- TopMoney: -/
import Derived.Test.YteanleefnjknoaaGreatDoorHead
import Derived.Test.YteanleefnjknoaaGreatDoorGlob
import Derived.WalkKit
import Derived.ProofKit
import Derived.OpenShut
import Derived.JoinedCond
set_option linter.unusedVariables false
set_option linter.unusedSimpArgs false
namespace Go.Proofs.YteanleefnjknoaaGreatDoor.topMoney
open Go.ChangeShapes Go.WideShapes Go.ChangeAt Go.RowKit Go.cK
theorem c4:Tryz.f3.params.all (Tryz.prog.readableRec ·)=true:=by kernel_rfl
theorem OI:(Rows.topMoneyUptoRow.inPlace==Tryz.prog.inPlace 3)=true:=by kernel_rfl
theorem Tj:(Rows.topMoneyUptoRow.unfollowed==Tryz.prog.unfollowed 3)=true:=by kernel_rfl
theorem Tk:(Rows.topMoneyUptoRow.recurses==Tryz.prog.recurses 3)=true:=by kernel_rfl
theorem Tl:(Rows.topMoneyUptoRow.named==Tryz.prog.varsNamed 3)=true:=by kernel_rfl
theorem c19:(Rows.topMoneyUptoRow.plainKeys==Tryz.prog.plainKeys)=true:=by rw[Tryz.keys];rfl
theorem c21:(Rows.topMoneyUptoRow.lifted==Tryz.prog.liftsFinal)=true:=by rw[Tryz.final];rfl
theorem c22:(Tryz.prog.make==some Rows.topMoneyUptoRow.make)=true:=by rw[Tryz.make];rfl
theorem closed:joinedFacts Tryz.prog 3 Tryz.f3 (Rows.OpenSpec.upto Rows.topMoneySpec).bare Rows.topMoneyUptoRow=true :=
 Tz (by kernel_rfl) Tryz.laid Tryz.Z3 c4 (by kernel_rfl) Z Tryz.stops Z Tryz.knobs OI Tj Tk Tl (by kernel_rfl) (by kernel_rfl) (by kernel_rfl) c19 Z Tryz.heard Tryz.enter c21 c22 (by kernel_rfl) (by kernel_rfl) (by kernel_rfl) (by kernel_rfl)
theorem named:Tryz.prog.funcNamed Rows.topMoneyUptoRow.func=some 3:=by kernel_rfl
set_option maxRecDepth 100000 in
theorem lifted(os:Os)(started:os.Started)(H:Type)(enc:TypeId×Value->H)(F:Stop.Interp) :
  ReturnsInHanded {} Tryz.checked os 3 .any ((Rows.OpenSpec.upto Rows.topMoneySpec).pre6 enc Tryz.prog Tryz.f3 Rows.topMoneyUptoRow.domain false) (((Rows.OpenSpec.upto Rows.topMoneySpec).at F).post enc Tryz.prog Tryz.f3 false true false false):=by
 refine G8 (C:=Tryz.checked) (s:=(Rows.OpenSpec.upto Rows.topMoneySpec)) (k:=Rows.uptoSmall) Z Tryz.own started (by kernel_rfl) Tryz.func3
  (OpenSpec.witness (enc:=enc) (C:=Tryz.checked) (s:=(Rows.OpenSpec.upto Rows.topMoneySpec)) (k:=Rows.uptoSmall) Z false ⟨#[],#[.slice none 0 0],[]⟩ 8 (by kernel_rfl) (by kernel_rfl) (by kernel_rfl)
   (x:=([.nil],[],[])) (by kernel_rfl) Z (by kernel_rfl)) ?_
 intro W hS base args ds gs before ad6 hW ajj hk _;have hval:∀(j:Nat) t v,Tryz.f3.params[j]?=some t->args[j]?=some v->Value.okWide Tryz.prog W .any base t v:=ad6;have hW':=hW;obtain⟨p,q,hA0,hV,rfl,hfz,hnd⟩:=hW;have hA:DataW.TrodAll enc Tryz.prog W 0 (λ_=>true) true Tryz.f3.params.toList args.toList ds p:=hA0;rw[Tryz.params3]at hA hval;obtain⟨v0,vs0,d0,ds0,p0,q0,hargs,rfl,rfl,h0,r0⟩:=trodAll_cons hA;obtain⟨rfl,rfl,rfl⟩:=trodAll_nil r0;obtain rfl:args = #[v0]:=by cases args;simp_all
 obtain⟨rfl,rfl⟩:=trodVars_none hV;have Tg:Rows.uptoBulkAll ([d0]++[])<=1048576:=of_decide_eq_true hk;simp only[List.append_nil,Rows.uptoBulkAll]at Tg;obtain⟨a0,e0,w0,b0⟩:=VN (hval 0 22 v0 rfl rfl) h0;exact Tr (X:=Tryz.X) (E5 a0 (λx hx o ho=>zozo (b0 x hx o ho) bn)) (by simp only[bR];exact⟨_,_,Z,e0,Z⟩) (Tryz.abb hS) hW' Z Tryz.laid Tryz.Z3 Tryz.full (by kernel_rfl) (by kernel_rfl) Tryz.underlying4 Z
theorem V7:Rows.topMoneyUptoRow.holds Tryz.pinned (Rows.OpenSpec.upto Rows.topMoneySpec) :=
 OpenClaim.holds_of_cond 3 Tryz.f3 Z Z Z Z Z Z Z ⟨Z,Z,Z,Z,Z⟩ Z Z Z Z Z named Tryz.func3 closed
  (of_decide_eq_true (by kernel_rfl)) (by unfold Func.isWrapper;first|(rw[if_pos (by decide +kernel)];kernel_rfl)|(rw[if_neg (by decide +kernel)];exact⟨Z,Z⟩))
  (λM Y H enc _ F=>lifted M Y H enc F)
theorem proved:Rows.TopMoneyUptoSaid:=V7
#print axioms proved
end Go.Proofs.YteanleefnjknoaaGreatDoor.topMoney
