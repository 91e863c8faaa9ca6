/- For all code, types, values and bounds whose readings are of bulk at most 1048576 a call of touchstonekeep.RunParts returns true and leaves its arguments as they were. -/
import Derived.Test.YtlohbilpimjmmaaGreatDoorHead
import Derived.Test.YtlohbilpimjmmaaGreatDoorGlob
import Derived.WalkKit
import Derived.ProofKit
import Derived.OpenShut
import Derived.JoinedCond
set_option linter.unusedVariables false
set_option linter.unusedSimpArgs false
namespace Go.Proofs.YtlohbilpimjmmaaGreatDoor.runParts
open Go.ChangeShapes Go.WideShapes Go.ChangeAt Go.RowKit Go.cu
theorem c4:Tryz.f6.params.all (Tryz.prog.readableRec ·)=true:=by kernel_rfl
theorem Lk:(Rows.runPartsUptoRow.inPlace==Tryz.prog.inPlace 6)=true:=by kernel_rfl
theorem PV:(Rows.runPartsUptoRow.unfollowed==Tryz.prog.unfollowed 6)=true:=by kernel_rfl
theorem PW:(Rows.runPartsUptoRow.recurses==Tryz.prog.recurses 6)=true:=by kernel_rfl
theorem PX:(Rows.runPartsUptoRow.named==Tryz.prog.varsNamed 6)=true:=by kernel_rfl
theorem c19:(Rows.runPartsUptoRow.plainKeys==Tryz.prog.plainKeys)=true:=by rw[Tryz.keys];rfl
theorem c21:(Rows.runPartsUptoRow.lifted==Tryz.prog.liftsFinal)=true:=by rw[Tryz.final];rfl
theorem c22:(Tryz.prog.make==some Rows.runPartsUptoRow.make)=true:=by rw[Tryz.make];rfl
theorem closed:joinedFacts Tryz.prog 6 Tryz.f6 (Rows.OpenSpec.upto Rows.runPartsSpec).bare Rows.runPartsUptoRow=true :=
 PJ (by kernel_rfl) Tryz.laid Tryz.V3 c4 (by kernel_rfl) rfl Tryz.stops rfl Tryz.knobs Lk PV PW PX (by kernel_rfl) (by kernel_rfl) (by kernel_rfl) c19 rfl Tryz.heard Tryz.enter c21 c22 (by kernel_rfl) (by kernel_rfl) (by kernel_rfl) (by kernel_rfl)
theorem named:Tryz.prog.funcNamed Rows.runPartsUptoRow.func=some 6:=by kernel_rfl
set_option maxRecDepth 100000 in
theorem lifted (os:Os) (started:os.Started) (H:Type) (enc:TypeId×Value->H) (F:Stop.Interp) :
  ReturnsInHanded {} Tryz.checked os 6 .any ((Rows.OpenSpec.upto Rows.runPartsSpec).pre6 enc Tryz.prog Tryz.f6 Rows.runPartsUptoRow.domain false) (((Rows.OpenSpec.upto Rows.runPartsSpec).at F).post enc Tryz.prog Tryz.f6 false true false false):=by
 refine EG (C:=Tryz.checked) (s:=(Rows.OpenSpec.upto Rows.runPartsSpec)) (k:=Rows.uptoSmall) rfl Tryz.own started (by kernel_rfl) Tryz.func6
  (OpenSpec.witness (enc:=enc) (C:=Tryz.checked) (s:=(Rows.OpenSpec.upto Rows.runPartsSpec)) (k:=Rows.uptoSmall) rfl false ⟨#[],#[.agg #[.int .i64 0,.int .i64 0,.int .i64 0,.int .i64 0],.agg #[.int .i64 0,.int .i64 0,.int .i64 0,.string .empty,.slice none 0 0],.agg #[.int .i64 0,.int .i64 0,.int .i64 0,.string .empty,.slice none 0 0],.slice none 0 0,.slice none 0 0,.int .i64 0],[]⟩ 8 (by kernel_rfl) (by kernel_rfl) (by kernel_rfl)
   (x:=([.agg [.lit (.int .i64 0),.lit (.int .i64 0),.lit (.int .i64 0),.lit (.int .i64 0)],.agg [.lit (.int .i64 0),.lit (.int .i64 0),.lit (.int .i64 0),.lit (.string []),.nil],.agg [.lit (.int .i64 0),.lit (.int .i64 0),.lit (.int .i64 0),.lit (.string []),.nil],.nil,.nil,.lit (.int .i64 0)],[],[])) (by kernel_rfl) rfl (by kernel_rfl)) ?_
 intro W hS base args ds gs before Z2 hW afz hk _;have hval:∀(j:Nat) t v,Tryz.f6.params[j]?=some t->args[j]?=some v->Value.okWide Tryz.prog W .any base t v:=Z2;have hW':=hW;obtain⟨p,q,hA0,hV,rfl,hfz,hnd⟩:=hW;have hA:DataW.TrodAll enc Tryz.prog W 0 (fun _=>true) true Tryz.f6.params.toList args.toList ds p:=hA0;rw[Tryz.params6]at hA hval;obtain⟨v0,vs0,d0,ds0,p0,q0,hargs,rfl,rfl,h0,r0⟩:=trodAll_cons hA;obtain⟨v1,vs1,d1,ds1,p1,q1,rfl,rfl,rfl,h1,r1⟩:=trodAll_cons r0;obtain⟨v2,vs2,d2,ds2,p2,q2,rfl,rfl,rfl,h2,r2⟩:=trodAll_cons r1;obtain⟨v3,vs3,d3,ds3,p3,q3,rfl,rfl,rfl,h3,r3⟩:=trodAll_cons r2;obtain⟨v4,vs4,d4,ds4,p4,q4,rfl,rfl,rfl,h4,r4⟩:=trodAll_cons r3;obtain⟨v5,vs5,d5,ds5,p5,q5,rfl,rfl,rfl,h5,r5⟩:=trodAll_cons r4;obtain⟨rfl,rfl,rfl⟩:=trodAll_nil r5;obtain rfl:args = #[v0,v1,v2,v3,v4,v5]:=by cases args;simp_all
 obtain⟨rfl,rfl⟩:=trodVars_none hV;have YQ:Rows.uptoBulkAll ([d0,d1,d2,d3,d4,d5]++[])<=1048576:=of_decide_eq_true hk;simp only[List.append_nil,Rows.uptoBulkAll]at YQ;obtain⟨x0,y0,z0,t0,e0⟩:=UH (hval 0 23 v0 rfl rfl) h0;obtain⟨a1,e1,w1,b1⟩:=RL (hval 1 26 v1 rfl rfl) h1;obtain⟨a2,e2,w2,b2⟩:=RL (hval 2 26 v2 rfl rfl) h2;obtain⟨a3,e3,w3,b3⟩:=UF (hval 3 27 v3 rfl rfl) h3;obtain⟨a4,e4,w4,b4⟩:=UG (hval 4 28 v4 rfl rfl) h4;obtain⟨a5,rfl,rfl,rfl,w5⟩:=open_int Tryz.underlying3 (hval 5 3 v5 rfl rfl) h5;have b5:=bounds_i64 w5;exact Py (X:=Tryz.X) (CN x0 y0 z0 t0 a1 w1 bn a2 w2 bn a3 w3 bn a4 w4 bn a5 b5) (by simp only[bO];exact⟨_,_,rfl,e0,⟨_,_,rfl,e1,⟨_,_,rfl,e2,⟨_,_,rfl,e3,⟨_,_,rfl,e4,⟨_,_,rfl,TS,rfl⟩⟩⟩⟩⟩⟩) (Tryz.W6 hS) hW' rfl Tryz.laid Tryz.V3 Tryz.full (by kernel_rfl) (by kernel_rfl) Tryz.underlying4 rfl
theorem zO:Rows.runPartsUptoRow.holds Tryz.pinned (Rows.OpenSpec.upto Rows.runPartsSpec) :=
 OpenClaim.holds_of_cond 6 Tryz.f6 rfl rfl rfl rfl rfl rfl rfl ⟨rfl,rfl,rfl,rfl,rfl⟩ rfl rfl rfl rfl rfl named Tryz.func6 closed
  (of_decide_eq_true (by kernel_rfl)) (by unfold Func.isWrapper;first|(rw[if_pos (by decide +kernel)];kernel_rfl)|(rw[if_neg (by decide +kernel)];exact⟨rfl,rfl⟩))
  (fun u Y H enc _ F=>lifted u Y H enc F)
theorem proved:Rows.RunPartsUptoSaid:=zO
#print axioms proved
end Go.Proofs.YtlohbilpimjmmaaGreatDoor.runParts
