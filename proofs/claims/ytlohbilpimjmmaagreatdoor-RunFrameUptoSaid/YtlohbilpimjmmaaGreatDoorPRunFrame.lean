/- For all code, types, values and bounds whose readings are of bulk at most 1048576 a call of touchstonekeep.RunFrame returns true and leaves its arguments as they were. -/
import Derived.Test.YtlohbilpimjmmaaGreatDoorHead
import Derived.Test.YtlohbilpimjmmaaGreatDoorKeepG
import Derived.Test.YtlohbilpimjmmaaGreatDoorGlob
import Derived.WalkKit
import Derived.ProofKit
import Derived.OpenShut
import Derived.JoinedCond
set_option linter.unusedVariables false
set_option linter.unusedSimpArgs false
namespace Go.Proofs.YtlohbilpimjmmaaGreatDoor.runFrame
open Go.ChangeShapes Go.WideShapes Go.ChangeAt Go.RowKit Go.cq
theorem c4:Tryz.f5.params.all (Tryz.prog.readableRec ·)=true:=by kernel_rfl
theorem IV:(Rows.runFrameUptoRow.inPlace==Tryz.prog.inPlace 5)=true:=by kernel_rfl
theorem Mx:(Rows.runFrameUptoRow.unfollowed==Tryz.prog.unfollowed 5)=true:=by kernel_rfl
theorem My:(Rows.runFrameUptoRow.recurses==Tryz.prog.recurses 5)=true:=by kernel_rfl
theorem Mz:(Rows.runFrameUptoRow.named==Tryz.prog.varsNamed 5)=true:=by kernel_rfl
theorem c19:(Rows.runFrameUptoRow.plainKeys==Tryz.prog.plainKeys)=true:=by rw[Tryz.keys];rfl
theorem c21:(Rows.runFrameUptoRow.lifted==Tryz.prog.liftsFinal)=true:=by rw[Tryz.final];rfl
theorem c22:(Tryz.prog.make==some Rows.runFrameUptoRow.make)=true:=by rw[Tryz.make];rfl
theorem closed:joinedFacts Tryz.prog 5 Tryz.f5 (Rows.OpenSpec.upto Rows.runFrameSpec).bare Rows.runFrameUptoRow=true :=
 FZ (by kernel_rfl) Tryz.laid Tryz.Oe c4 (by kernel_rfl) rfl Tryz.stops rfl Tryz.knobs IV Mx My Mz (by kernel_rfl) (by kernel_rfl) (by kernel_rfl) c19 rfl Tryz.heard Tryz.enter c21 c22 (by kernel_rfl) (by kernel_rfl) (by kernel_rfl) (by kernel_rfl)
theorem named:Tryz.prog.funcNamed Rows.runFrameUptoRow.func=some 5:=by kernel_rfl
set_option maxRecDepth 100000 in
theorem lifted (os:Os) (started:os.Started) (H:Type) (enc:TypeId×Value->H) (F:Stop.Interp) :
  ReturnsInHanded {} Tryz.checked os 5 .any ((Rows.OpenSpec.upto Rows.runFrameSpec).pre6 enc Tryz.prog Tryz.f5 Rows.runFrameUptoRow.domain false) (((Rows.OpenSpec.upto Rows.runFrameSpec).at F).post enc Tryz.prog Tryz.f5 false true false false):=by
 refine w9 (C:=Tryz.checked) (s:=(Rows.OpenSpec.upto Rows.runFrameSpec)) (k:=Rows.uptoSmall) rfl Tryz.own started (by kernel_rfl) Tryz.func5
  (OpenSpec.witness (enc:=enc) (C:=Tryz.checked) (s:=(Rows.OpenSpec.upto Rows.runFrameSpec)) (k:=Rows.uptoSmall) rfl false ⟨#[],#[.agg #[.int .i64 0,.int .i64 0,.int .i64 0,.int .i64 0],.agg #[.int .i64 0,.int .i64 0,.int .i64 0,.string .empty,.slice none 0 0],.slice none 0 0,.slice none 0 0,.slice none 0 0,.slice none 0 0,.int .i64 0],[]⟩ 8 (by kernel_rfl) (by kernel_rfl) (by kernel_rfl)
   (x:=([.agg [.lit (.int .i64 0),.lit (.int .i64 0),.lit (.int .i64 0),.lit (.int .i64 0)],.agg [.lit (.int .i64 0),.lit (.int .i64 0),.lit (.int .i64 0),.lit (.string []),.nil],.nil,.nil,.nil,.nil,.lit (.int .i64 0)],[],[])) (by kernel_rfl) rfl (by kernel_rfl)) ?_
 intro W hS base args ds gs before Te hW acT hk _;have hval:∀(j:Nat) t v,Tryz.f5.params[j]?=some t->args[j]?=some v->Value.okWide Tryz.prog W .any base t v:=Te;have hW':=hW;obtain⟨p,q,hA0,hV,rfl,hfz,Zz⟩:=hW;have hA:DataW.TrodAll enc Tryz.prog W 0 (fun _=>true) true Tryz.f5.params.toList args.toList ds p:=hA0;rw[Tryz.params5]at hA hval;obtain⟨v0,vs0,d0,ds0,p0,q0,hargs,rfl,rfl,h0,r0⟩:=trodAll_cons hA;obtain⟨v1,vs1,d1,ds1,p1,q1,rfl,rfl,rfl,h1,r1⟩:=trodAll_cons r0;obtain⟨v2,vs2,d2,ds2,p2,q2,rfl,rfl,rfl,h2,r2⟩:=trodAll_cons r1;obtain⟨v3,vs3,d3,ds3,p3,q3,rfl,rfl,rfl,h3,r3⟩:=trodAll_cons r2;obtain⟨v4,vs4,d4,ds4,p4,q4,rfl,rfl,rfl,h4,r4⟩:=trodAll_cons r3;obtain⟨v5,vs5,d5,ds5,p5,q5,rfl,rfl,rfl,h5,r5⟩:=trodAll_cons r4;obtain⟨v6,vs6,d6,ds6,p6,q6,rfl,rfl,rfl,h6,r6⟩:=trodAll_cons r5;obtain⟨rfl,rfl,rfl⟩:=trodAll_nil r6;obtain rfl:args = #[v0,v1,v2,v3,v4,v5,v6]:=by cases args;simp_all
 obtain⟨rfl,rfl⟩:=trodVars_none hV;have Xd:Rows.uptoBulkAll ([d0,d1,d2,d3,d4,d5,d6]++[])<=1048576:=of_decide_eq_true hk;simp only[List.append_nil,Rows.uptoBulkAll]at Xd;obtain⟨x0,y0,z0,t0,e0⟩:=Od (hval 0 23 v0 rfl rfl) h0;obtain⟨a1,e1,w1,b1⟩:=RT (hval 1 26 v1 rfl rfl) h1;obtain⟨a2,e2,w2,b2⟩:=G4 (hval 2 27 v2 rfl rfl) h2;obtain⟨a3,e3,w3,b3⟩:=G4 (hval 3 27 v3 rfl rfl) h3;obtain⟨a4,e4,w4,b4⟩:=G5 (hval 4 28 v4 rfl rfl) h4;obtain⟨a5,e5,w5,b5⟩:=G5 (hval 5 28 v5 rfl rfl) h5;obtain⟨a6,rfl,rfl,rfl,w6⟩:=open_int Tryz.underlying3 (hval 6 3 v6 rfl rfl) h6;have b6:=bounds_i64 w6;exact Fz (X:=Tryz.X) (CZ x0 y0 z0 t0 a1 w1 bn a2 w2 bn a3 w3 bn a4 w4 bn a5 w5 bn a6 b6) (by simp only[bL];exact⟨_,_,rfl,e0,⟨_,_,rfl,e1,⟨_,_,rfl,e2,⟨_,_,rfl,e3,⟨_,_,rfl,e4,⟨_,_,rfl,e5,⟨_,_,rfl,Og,rfl⟩⟩⟩⟩⟩⟩⟩) (Tryz.RV hS) hW' rfl Tryz.laid Tryz.Oe Tryz.full (by kernel_rfl) (by kernel_rfl) Tryz.underlying4 rfl
theorem xC:Rows.runFrameUptoRow.holds Tryz.pinned (Rows.OpenSpec.upto Rows.runFrameSpec) :=
 OpenClaim.holds_of_cond 5 Tryz.f5 rfl rfl rfl rfl rfl rfl rfl ⟨rfl,rfl,rfl,rfl,rfl⟩ rfl rfl rfl rfl rfl named Tryz.func5 closed
  (of_decide_eq_true (by kernel_rfl)) (by unfold Func.isWrapper;first|(rw[if_pos Uu];kernel_rfl)|(rw[if_neg Uu];exact⟨rfl,rfl⟩))
  (fun W Y H enc _ F=>lifted W Y H enc F)
theorem proved:Rows.RunFrameUptoSaid:=xC
#print axioms proved
end Go.Proofs.YtlohbilpimjmmaaGreatDoor.runFrame
