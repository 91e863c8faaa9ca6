/- TopRuns: -/
import Derived.Test.YtdnpapgijbhofaaGreatDoorHead
import Derived.Test.YtdnpapgijbhofaaGreatDoorTopU
import Derived.Test.YtdnpapgijbhofaaGreatDoorGlob
import Derived.WalkKit
import Derived.ProofKit
import Derived.OpenShut
import Derived.JoinedCond
set_option linter.unusedVariables false
set_option linter.unusedSimpArgs false
namespace Go.Proofs.YtdnpapgijbhofaaGreatDoor.topRuns
open Go.ChangeShapes Go.WideShapes Go.ChangeAt Go.RowKit Go.cw
theorem c4:Tryz.f9.params.all (Tryz.prog.readableRec ·)=true:=by kernel_rfl
theorem CA:(Rows.topRunsUptoRow.inPlace==Tryz.prog.inPlace 9)=true:=by kernel_rfl
theorem EJ:(Rows.topRunsUptoRow.unfollowed==Tryz.prog.unfollowed 9)=true:=by kernel_rfl
theorem EK:(Rows.topRunsUptoRow.recurses==Tryz.prog.recurses 9)=true:=by kernel_rfl
theorem EL:(Rows.topRunsUptoRow.named==Tryz.prog.varsNamed 9)=true:=by kernel_rfl
theorem U6:(Rows.topRunsUptoRow.plainKeys==Tryz.prog.plainKeys)=true:=by rw[Tryz.keys];rfl
theorem U7:(Rows.topRunsUptoRow.lifted==Tryz.prog.liftsFinal)=true:=by rw[Tryz.final];rfl
theorem U8:(Tryz.prog.make==some Rows.topRunsUptoRow.make)=true:=by rw[Tryz.make];rfl
theorem closed:joinedFacts Tryz.prog 9 Tryz.f9 (Rows.OpenSpec.upto Rows.topRunsSpec).bare Rows.topRunsUptoRow=true :=
 pL (by kernel_rfl) Tryz.laid Tryz.th c4 (by kernel_rfl) Z Tryz.stops Z Tryz.knobs CA EJ EK EL (by kernel_rfl) (by kernel_rfl) (by kernel_rfl) U6 Z Tryz.heard Tryz.enter U7 U8 (by kernel_rfl) (by kernel_rfl) (by kernel_rfl) (by kernel_rfl)
theorem named:Tryz.prog.funcNamed Rows.topRunsUptoRow.func=some 9:=by kernel_rfl
set_option maxRecDepth 100000 in
theorem lifted(os:Os)(started:os.Started)(H:Type)(enc:TypeId×Value->H)(F:Stop.Interp) :
  ReturnsInHanded {} Tryz.checked os 9 .any ((Rows.OpenSpec.upto Rows.topRunsSpec).pre6 enc Tryz.prog Tryz.f9 Rows.topRunsUptoRow.domain false) (((Rows.OpenSpec.upto Rows.topRunsSpec).at F).post enc Tryz.prog Tryz.f9 false true false false):=by
 refine jS (C:=Tryz.checked) (s:=(Rows.OpenSpec.upto Rows.topRunsSpec)) (k:=Rows.uptoSmall) Z Tryz.own started (by kernel_rfl) Tryz.func9
  (OpenSpec.witness (enc:=enc) (C:=Tryz.checked) (s:=(Rows.OpenSpec.upto Rows.topRunsSpec)) (k:=Rows.uptoSmall) Z false ⟨#[],#[.slice none 0 0],[]⟩ 8 (by kernel_rfl) (by kernel_rfl) (by kernel_rfl)
   (x:=([.nil],[],[])) (by kernel_rfl) Z (by kernel_rfl)) ?_
 intro W hS base args ds gs before vj hW U9 hk _;have hval:∀(j:Nat) t v,Tryz.f9.params[j]?=some t->args[j]?=some v->Value.okWide Tryz.prog W .any base t v:=vj;have Va:=hW;obtain⟨p,q,Vb,hV,rfl,hfz,ZI⟩:=hW;have hA:DataW.TrodAll enc Tryz.prog W 0 (λ_=>true) true Tryz.f9.params.toList args.toList ds p:=Vb;rw[Tryz.params9]at hA hval;obtain⟨v0,vs0,d0,ds0,p0,q0,hargs,rfl,rfl,h0,r0⟩:=trodAll_cons hA;obtain⟨rfl,rfl,rfl⟩:=trodAll_nil r0;obtain rfl:args = #[v0]:=by cases args;simp_all
 obtain⟨rfl,rfl⟩:=trodVars_none hV;have EH:Rows.uptoBulkAll ([d0]++[])<=1048576:=of_decide_eq_true hk;simp only[List.append_nil,Rows.uptoBulkAll]at EH;obtain⟨a0,e0,w0,b0⟩:=rW (hval 0 22 v0 rfl rfl) h0;exact pI (X:=Tryz.X) (IS a0 (λx hx o ho=>mK (b0 x hx o ho) ai)) nw (Tryz.AH hS) Va Z Tryz.laid Tryz.th Tryz.full (by kernel_rfl) (by kernel_rfl) Tryz.underlying4 Z
theorem ya:Rows.topRunsUptoRow.holds Tryz.pinned (Rows.OpenSpec.upto Rows.topRunsSpec) :=
 OpenClaim.holds_of_cond 9 Tryz.f9 Z Z Z Z Z Z Z ⟨Z,Z,Z,Z,Z⟩ Z Z Z Z Z named Tryz.func9 closed
  (of_decide_eq_true (by kernel_rfl)) (by unfold Func.isWrapper;first|(rw[if_pos rj];kernel_rfl)|(rw[if_neg rj];exact⟨Z,Z⟩))
  (λM Y H enc _ F=>lifted M Y H enc F)
theorem proved:Rows.TopRunsUptoSaid:=ya
#print axioms proved
end Go.Proofs.YtdnpapgijbhofaaGreatDoor.topRuns
