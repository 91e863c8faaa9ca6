/- For all batches, no ticket of a maker comes up but where the maker's c -/
import Derived.Test.YtpnpbmbdkinajaaGreatDoorTckFG
import Derived.WalkKit
import Derived.ProofKit
import Derived.OpenShut
import Derived.JoinedCond
set_option linter.all false
namespace Go.Proofs.YtpnpbmbdkinajaaGreatDoor.topTickets
open Go.ChangeShapes Go.WideShapes Go.ChangeAt Go.RowKit Go.cE
theorem c4:Tryz.f4.params.all (Tryz.prog.readableRec ·)=true:=by kernel_rfl
theorem vR:(Rows.topTicketsUptoRow.inPlace==Tryz.prog.inPlace 4)=true:=by kernel_rfl
theorem CW:(Rows.topTicketsUptoRow.unfollowed==Tryz.prog.unfollowed 4)=true:=by kernel_rfl
theorem CX:(Rows.topTicketsUptoRow.recurses==Tryz.prog.recurses 4)=true:=by kernel_rfl
theorem CY:(Rows.topTicketsUptoRow.named==Tryz.prog.varsNamed 4)=true:=by kernel_rfl
theorem c19:(Rows.topTicketsUptoRow.plainKeys==Tryz.prog.plainKeys)=true:=by rw[Tryz.keys];rfl
theorem c21:(Rows.topTicketsUptoRow.lifted==Tryz.prog.liftsFinal)=true:=by rw[Tryz.final];rfl
theorem c22:(Tryz.prog.make==some Rows.topTicketsUptoRow.make)=true:=by rw[Tryz.make];rfl
theorem closed:joinedFacts Tryz.prog 4 Tryz.f4 (Rows.OpenSpec.upto Rows.topTicketsSpec).bare Rows.topTicketsUptoRow=true :=
 ED (by kernel_rfl) Tryz.laid Tryz.K9 c4 (by kernel_rfl) Z Tryz.stops Z Tryz.knobs vR CW CX CY (by kernel_rfl) (by kernel_rfl) (by kernel_rfl) c19 Z Tryz.heard Tryz.enter c21 c22 (by kernel_rfl) (by kernel_rfl) (by kernel_rfl) (by kernel_rfl)
theorem named:Tryz.prog.funcNamed Rows.topTicketsUptoRow.func=some 4:=by kernel_rfl
set_option maxRecDepth 100000 in
theorem lifted(os:Os)(started:os.Started)(H:Type)(enc:TypeId×Value->H)(F:Stop.Interp) :
  ReturnsInHanded {} Tryz.checked os 4 .any ((Rows.OpenSpec.upto Rows.topTicketsSpec).pre6 enc Tryz.prog Tryz.f4 Rows.topTicketsUptoRow.domain false) (((Rows.OpenSpec.upto Rows.topTicketsSpec).at F).post enc Tryz.prog Tryz.f4 false true false false):=by
 refine vD (C:=Tryz.checked) (s:=(Rows.OpenSpec.upto Rows.topTicketsSpec)) (k:=Rows.uptoSmall) Z Tryz.own started (by kernel_rfl) Tryz.func4
  (OpenSpec.witness (enc:=enc) (C:=Tryz.checked) (s:=(Rows.OpenSpec.upto Rows.topTicketsSpec)) (k:=Rows.uptoSmall) Z false ⟨#[],#[.slice none 0 0],[]⟩ 8 (by kernel_rfl) (by kernel_rfl) (by kernel_rfl)
   (x:=([.nil],[],[])) (by kernel_rfl) Z (by kernel_rfl)) ?_
 intro W hS base args ds gs before Q0 hW aiN hk _;have hval:∀(j:Nat) t v,Tryz.f4.params[j]?=some t->args[j]?=some v->Value.okWide Tryz.prog W .any base t v:=Q0;have hW':=hW;obtain⟨p,q,hA0,hV,rfl,hfz,hnd⟩:=hW;have hA:DataW.TrodAll enc Tryz.prog W 0 (λ_=>true) true Tryz.f4.params.toList args.toList ds p:=hA0;rw[Tryz.params4]at hA hval;obtain⟨v0,vs0,d0,ds0,p0,q0,hargs,rfl,rfl,h0,r0⟩:=trodAll_cons hA;obtain⟨rfl,rfl,rfl⟩:=trodAll_nil r0;obtain rfl:args = #[v0]:=by cases args;simp_all
 obtain⟨rfl,rfl⟩:=trodVars_none hV;have O8:Rows.uptoBulkAll ([d0]++[])<=1048576:=of_decide_eq_true hk;simp only[List.append_nil,Rows.uptoBulkAll]at O8;obtain⟨a0,e0,w0,b0⟩:=HL (hval 0 22 v0 rfl rfl) h0;exact Eh (X:=Tryz.X) (EU a0 (λx hx o ho=>qz (b0 x hx o ho) ai)) (by simp only[cy];exact⟨_,_,Z,e0,Z⟩) (Tryz.Td hS) hW' Z Tryz.laid Tryz.K9 Tryz.full (by kernel_rfl) (by kernel_rfl) Tryz.underlying4 Z
theorem M3:Rows.topTicketsUptoRow.holds Tryz.pinned (Rows.OpenSpec.upto Rows.topTicketsSpec) :=
 OpenClaim.holds_of_cond 4 Tryz.f4 Z Z Z Z Z Z Z ⟨Z,Z,Z,Z,Z⟩ Z Z Z Z Z named Tryz.func4 closed
  (of_decide_eq_true (by kernel_rfl)) (by unfold Func.isWrapper;first|(rw[if_pos ael];kernel_rfl)|(rw[if_neg ael];exact⟨Z,Z⟩))
  (λQ Y H enc _ F=>lifted Q Y H enc F)
theorem proved:Rows.TopTicketsUptoSaid:=M3
#print axioms proved
end Go.Proofs.YtpnpbmbdkinajaaGreatDoor.topTickets
