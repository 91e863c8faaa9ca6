/- What the small functions of package touchstonekeep about run answer. -/
import Derived.Test.YtlohbilpimjmmaaGreatDoorRunJ
import Derived.Test.YtlohbilpimjmmaaGreatDoorKeepD
import Derived.Test.YtlohbilpimjmmaaGreatDoorRPure
set_option maxHeartbeats 0
set_option linter.unusedVariables false
set_option linter.unusedSimpArgs false
set_option maxRecDepth 100000
namespace Go.Proofs
open Go.cq
theorem Sd (l:List Vl):kC [] l=true:=rfl
theorem Se (x y:Vl) (a b:List Vl):gN (x::a) (y::b)=(oO x y&&gN a b):=rfl
def JB (s:List Ty) (l:List Vl) (a b c d:Int):Bool:=(bif (bif (bif (bif (bif (bif (bif (bif ((((aq s).length:Nat):Int) != (((aa l).length:Nat):Int))then true else decide (a<0))then true else decide (a>=12))then true else decide (b<0))then true else decide (b>=12))then true else decide (c<0))then true else decide (c>1152921504606846976))then true else decide (d<0))then true else decide (d>1152921504606846976))
attribute [local irreducible] AK ai bh bt dI dS iP jV kC
theorem qZ (l:List Vl) (A:l.length<=549755813888):fG 10 [.v (.c (.sl 7 (aa l)))] [.own 7 (aa l)] []:=by
 cases l with
 | nil =>
  refine bt.tQ Tryz.func10 rfl (fun args w=>Tryz.call10 args w) (Nat.le_of_ble_eq_true rfl) [(0,.c (.sl 7 []))] [] [] [] rfl rfl fun β=>?_;have hf:=Tryz.func10
  repeat' (first|refine sK ?_|refine zr ?_ ?_|(refine uA rfl ?_ ?_<;>(try (show(_:Nat)*_<=_;dsimp only))))
  all_goals first|exact rfl|(show _<=_;decide)
 | cons x l =>
  have h1:=az l;simp only[aac]at A;refine bt.tQ Tryz.func10 rfl (fun args w=>Tryz.call10 args w) (Nat.le_of_ble_eq_true rfl) [(0,.c (.sl 7 (bM x::aa l)))] [] [] [] rfl rfl fun β=>?_;have hf:=Tryz.func10
  repeat' (first|refine sK ?_|refine zr ?_ ?_|(refine uA rfl ?_ ?_<;>(try (show(_:Nat)*_<=_;dsimp only))))
  all_goals first|exact rfl|(show _<=_;simp only[aac,aad];omega)
theorem uK (k:Int) (W : -9223372036854775808<=k) (B:k<=9223372036854775807):∃r:Nat,r<3000/\ag 11 [.int .i64 k] (.int .i64 r):=by
 obtain⟨r,I,hq⟩:=L6 k 3000 W B cc cc;refine⟨r,I,?_⟩;have h2:ag 25 [.int .i64 k,.int .i64 3000] (.int .i64 r):=hq;clear hq;refine qn Tryz.func11 Tryz.call11 fun β hf=>?_;exact dw
theorem yP (a b:List Vl) (hl:a.length<=1099511627775) (G:∀t∈a,aM t<=1099511627776):ag 14 [.sl 7 (aa a),.sl 7 (aa b)] (.bool (gN a b)):=by
 have D:=az a;have C:=az b;by_cases Y:a.length=b.length;rotate_left
 ·rw[C0 a b Y];have I:((((aa a).length:Nat):Int) != (((aa b).length:Nat):Int))=true:=by rw[bne_iff_ne];omega
  refine qn Tryz.func14 Tryz.call14 fun β hf=>?_;exact dw
 have I:((((aa a).length:Nat):Int) != (((aa b).length:Nat):Int))=false:=by rw[D,C,Y];exact bne_self_eq_false _
 refine qn Tryz.func14 Tryz.call14 fun β hf=>?_
 repeat' (first|refine sK ?_|(refine zc ?_ ?_<;>intro h<;>first|(cases h;done)|rw[h]|skip))
 refine AK.eK (α:=Nat) (fun j=>j<=a.length/\gN a b=gN (a.drop j) (b.drop j)) (fun j=>a.length-j)
  (fun j=>[(13,.c (.int .i64 j)),(12,.c (.int .i64 (aa a).length)),(0,.c (.sl 7 (aa a))),(1,.c (.sl 7 (aa b)))])
  (fun j=>[]) (fun _=>[]) [] 0
  ⟨bn,rfl⟩ ⟨.inl rfl,.inl rfl,.inl rfl,.inl rfl,trivial⟩ trivial trivial rfl rfl rfl ?_
 rintro j ⟨Q,T⟩ jh;rcases fT a j Q with ⟨y,N,P⟩|U
 ·have M:=xD N;have W:=bB N;rcases fT b j bn with ⟨w,O,K⟩|J
  rotate_left
  ·omega
  have V:=uL y w (G y P);rw[dV N,dV O,Se]at T;obtain⟨H,E,B,A,u,p,p7⟩:=y;obtain⟨r1,r2,r3,r4,r5,r6,r7⟩:=w;cases S:oO (.mk H E B A u p p7) (.mk r1 r2 r3 r4 r5 r6 r7)with
  | false =>
   rw[S]at V T;rw[Bool.false_and]at T;rw[T];clear jh;have ug:=ez N;have BJ:=ez O;exact dw
  | true =>
   rw[S]at V T;rw[Bool.true_and]at T
   repeat' (first|refine sK ?_|(refine zc ?_ ?_<;>intro h<;>first|(cases h;done)|rw[h]|skip)|refine uI rfl (j) rfl (ez N) rfl ?_|refine uI rfl (j) rfl (ez O) rfl ?_|refine uC rfl V ?_)
   exact AK.again (jh (j+1) ⟨W,T⟩ bn) ⟨.inl (iE (i:=j) bn),.inl rfl,.inl rfl,.inl rfl,trivial⟩ trivial trivial rfl rfl rfl
 ·have M:=sU U;have q:gN a b=true:=by rw[T,U,List.drop_length,Y,List.drop_length];rfl
  rw[q];clear jh;exact dw
theorem Jz (a b c d:Int) (s:List Ty) (hs:aY s<=8589934593) (l:List Vl) (D:∀v∈l,aM v<=8589934593):ag 12 [.agg [aF a,aF b,aF c,aF d],.sl 2 (aq s),.sl 7 (aa l)] (.bool (bif JB s l a b c d then false else kC s l)):=by
 have z1:=aQ s;have z2:=az l;have z3:=gn s;unfold JB;cases u:((((aq s).length:Nat):Int) != (((aa l).length:Nat):Int))with
 | true =>
  show bh _ _ _ _ (.bool false);refine qn Tryz.func12 Tryz.call12 fun β hf=>?_;exact dw
 | false =>
 cases P:decide (a<0)with
 | true =>
  have C:(bif ((((aq s).length:Nat):Int) != (((aa l).length:Nat):Int))then true else decide (a<0))=true:=by rw[u,P];rfl
  show bh _ _ _ _ (.bool false);refine qn Tryz.func12 Tryz.call12 fun β hf=>?_;exact dw
 | false =>
 have C:(bif ((((aq s).length:Nat):Int) != (((aa l).length:Nat):Int))then true else decide (a<0))=false:=by rw[u,P];rfl
 cases I:decide (a>=12)with
 | true =>
  have B:(bif (bif ((((aq s).length:Nat):Int) != (((aa l).length:Nat):Int))then true else decide (a<0))then true else decide (a>=12))=true:=by rw[u,P,I];rfl
  show bh _ _ _ _ (.bool false);refine qn Tryz.func12 Tryz.call12 fun β hf=>?_;exact dw
 | false =>
 have B:(bif (bif ((((aq s).length:Nat):Int) != (((aa l).length:Nat):Int))then true else decide (a<0))then true else decide (a>=12))=false:=by rw[u,P,I];rfl
 cases q:decide (b<0)with
 | true =>
  have p:(bif (bif (bif ((((aq s).length:Nat):Int) != (((aa l).length:Nat):Int))then true else decide (a<0))then true else decide (a>=12))then true else decide (b<0))=true:=by rw[u,P,I,q];rfl
  show bh _ _ _ _ (.bool false);refine qn Tryz.func12 Tryz.call12 fun β hf=>?_;exact dw
 | false =>
 have p:(bif (bif (bif ((((aq s).length:Nat):Int) != (((aa l).length:Nat):Int))then true else decide (a<0))then true else decide (a>=12))then true else decide (b<0))=false:=by rw[u,P,I,q];rfl
 cases Y:decide (b>=12)with
 | true =>
  have n4:(bif (bif (bif (bif ((((aq s).length:Nat):Int) != (((aa l).length:Nat):Int))then true else decide (a<0))then true else decide (a>=12))then true else decide (b<0))then true else decide (b>=12))=true:=by rw[u,P,I,q,Y];rfl
  show bh _ _ _ _ (.bool false);refine qn Tryz.func12 Tryz.call12 fun β hf=>?_;exact dw
 | false =>
 have n4:(bif (bif (bif (bif ((((aq s).length:Nat):Int) != (((aa l).length:Nat):Int))then true else decide (a<0))then true else decide (a>=12))then true else decide (b<0))then true else decide (b>=12))=false:=by rw[u,P,I,q,Y];rfl
 cases W:decide (c<0)with
 | true =>
  have n5:(bif (bif (bif (bif (bif ((((aq s).length:Nat):Int) != (((aa l).length:Nat):Int))then true else decide (a<0))then true else decide (a>=12))then true else decide (b<0))then true else decide (b>=12))then true else decide (c<0))=true:=by rw[u,P,I,q,Y,W];rfl
  show bh _ _ _ _ (.bool false);refine qn Tryz.func12 Tryz.call12 fun β hf=>?_;exact dw
 | false =>
 have n5:(bif (bif (bif (bif (bif ((((aq s).length:Nat):Int) != (((aa l).length:Nat):Int))then true else decide (a<0))then true else decide (a>=12))then true else decide (b<0))then true else decide (b>=12))then true else decide (c<0))=false:=by rw[u,P,I,q,Y,W];rfl
 cases V:decide (c>1152921504606846976)with
 | true =>
  have n6:(bif (bif (bif (bif (bif (bif ((((aq s).length:Nat):Int) != (((aa l).length:Nat):Int))then true else decide (a<0))then true else decide (a>=12))then true else decide (b<0))then true else decide (b>=12))then true else decide (c<0))then true else decide (c>1152921504606846976))=true:=by rw[u,P,I,q,Y,W,V];rfl
  show bh _ _ _ _ (.bool false);refine qn Tryz.func12 Tryz.call12 fun β hf=>?_;exact dw
 | false =>
 have n6:(bif (bif (bif (bif (bif (bif ((((aq s).length:Nat):Int) != (((aa l).length:Nat):Int))then true else decide (a<0))then true else decide (a>=12))then true else decide (b<0))then true else decide (b>=12))then true else decide (c<0))then true else decide (c>1152921504606846976))=false:=by rw[u,P,I,q,Y,W,V];rfl
 cases S:decide (d<0)with
 | true =>
  have n7:(bif (bif (bif (bif (bif (bif (bif ((((aq s).length:Nat):Int) != (((aa l).length:Nat):Int))then true else decide (a<0))then true else decide (a>=12))then true else decide (b<0))then true else decide (b>=12))then true else decide (c<0))then true else decide (c>1152921504606846976))then true else decide (d<0))=true:=by rw[u,P,I,q,Y,W,V,S];rfl
  show bh _ _ _ _ (.bool false);refine qn Tryz.func12 Tryz.call12 fun β hf=>?_;exact dw
 | false =>
 have n7:(bif (bif (bif (bif (bif (bif (bif ((((aq s).length:Nat):Int) != (((aa l).length:Nat):Int))then true else decide (a<0))then true else decide (a>=12))then true else decide (b<0))then true else decide (b>=12))then true else decide (c<0))then true else decide (c>1152921504606846976))then true else decide (d<0))=false:=by rw[u,P,I,q,Y,W,V,S];rfl
 cases M:decide (d>1152921504606846976)with
 | true =>
  have n8:(bif (bif (bif (bif (bif (bif (bif (bif ((((aq s).length:Nat):Int) != (((aa l).length:Nat):Int))then true else decide (a<0))then true else decide (a>=12))then true else decide (b<0))then true else decide (b>=12))then true else decide (c<0))then true else decide (c>1152921504606846976))then true else decide (d<0))then true else decide (d>1152921504606846976))=true:=by rw[u,P,I,q,Y,W,V,S,M];rfl
  show bh _ _ _ _ (.bool false);refine qn Tryz.func12 Tryz.call12 fun β hf=>?_;exact dw
 | false =>
 have n8:(bif (bif (bif (bif (bif (bif (bif (bif ((((aq s).length:Nat):Int) != (((aa l).length:Nat):Int))then true else decide (a<0))then true else decide (a>=12))then true else decide (b<0))then true else decide (b>=12))then true else decide (c<0))then true else decide (c>1152921504606846976))then true else decide (d<0))then true else decide (d>1152921504606846976))=false:=by rw[u,P,I,q,Y,W,V,S,M];rfl
 have A:s.length=l.length:=by
  by_cases A:s.length=l.length
  ·exact A
  ·have:((((aq s).length:Nat):Int) != (((aa l).length:Nat):Int))=true:=by rw[bne_iff_ne];omega
   rw[this]at u;cases u
 show bh _ _ _ _ (.bool (kC s l));refine qn Tryz.func12 Tryz.call12 fun β hf=>?_
 repeat' (first|refine sK ?_|(refine zc ?_ ?_<;>intro h<;>first|(cases h;done)|rw[h]|skip)|((first|refine zt ?_|refine zu ?_ ?_)<;>intro h<;>(fail_if_success (cases h;done))<;>rw[h]))
 refine AK.eK (α:=Nat) (fun j=>j<=s.length/\kC s l=kC (s.drop j) (l.drop j)) (fun j=>s.length-j)
  (fun j=>[(55,.c (.int .i64 j)),(54,.c (.int .i64 (aq s).length)),(1,.c (.sl 2 (aq s))),(2,.c (.sl 7 (aa l)))])
  (fun j=>[]) (fun _=>[]) [] 0
  ⟨bn,rfl⟩ ⟨.inl rfl,.inl rfl,.inl rfl,.inl rfl,trivial⟩ trivial trivial rfl rfl rfl ?_
 rintro j ⟨hj,T⟩ jh;rcases fT s j hj with ⟨y,N,K⟩|H
 ·have U8:=Cu N;have Q:=bB N;rcases fT l j bn with ⟨w,G,U⟩|hwe
  rotate_left
  ·omega
  have O:=C2 y w (by have:=cz K;omega) (D w U);rw[FD N G]at T;have Wq:=fH N;have Xm:=ez G;clear K U;obtain⟨p1,p2⟩:=y;obtain⟨r1,r2,r3,r4,r5,r6,r7⟩:=w;cases E:jV (.mk p1 p2) (.mk r1 r2 r3 r4 r5 r6 r7)with
  | false =>
   rw[E]at O T;rw[Bool.false_and]at T;rw[T];clear jh;exact dw
  | true =>
   rw[E]at O T;rw[Bool.true_and]at T
   repeat' (first|refine sK ?_|(refine zc ?_ ?_<;>intro h<;>first|(cases h;done)|rw[h]|skip)|refine uI rfl (j) rfl (Wq) rfl ?_|refine uI rfl (j) rfl (Xm) rfl ?_|refine uC rfl O ?_|((first|refine zt ?_|refine zu ?_ ?_)<;>intro h<;>(fail_if_success (cases h;done))<;>rw[h]))
   exact AK.again (jh (j+1) ⟨Q,T⟩ bn) ⟨.inl (iE (i:=j) bn),.inl rfl,.inl rfl,.inl rfl,trivial⟩ trivial trivial rfl rfl rfl
 ·have U8:=yu H;have J:kC s l=true:=by rw[T,H,List.drop_length];exact Sd _
  rw[J];clear jh;exact dw
theorem PO:iP (.mk 3 0 0 [] [.mk 2 0 40 [] []]) [.mk 4 []]=ee []:=by
 have h1:dG (.mk 3 0 0 [] [.mk 2 0 40 [] []])=0:=by decide +kernel
 have h2:List.all [Ty.mk 4 []] bw=true:=by decide +kernel
 rw[N3 h1 rfl,if_neg cc,if_pos h2];show cA [.mk 2 0 40 [] []] ([.mk 4 []],false)=_;rfl
def v3:Vl := .mk 4 3 0 [] [] [] []
theorem PR:kE 3 ⟨0,0,0,0,[v3],[⟨[.mk 2 0 40 [] []],0,0,[]⟩],9,0,0,oL⟩ (0,⟨0,0,0,0,[],[],9,1,0,oL⟩):=by
 refine kE.step (F:=⟨[.mk 2 0 40 [] []],0,0,[]⟩) (t:=[]) (S':=⟨0,0,0,0,[],[⟨[.mk 2 0 40 [] []],1,0,[]⟩],9,1,0,oL⟩) (e:=0) rfl rfl cc cc cc cc cc ?_ (fun h=>absurd rfl h) fun _=>?_
 ·exact o9 _ _ 2 0 40 [] [] [v3] [] 0 cc (by rw[show bO 40=1 from by decide +kernel];rfl) (by show(1:Nat)<=_;omega) (FE _ 0 [] [v3])
 refine kE.fin (F:=⟨[.mk 2 0 40 [] []],1,0,[]⟩) (t:=[]) (S':=⟨0,0,0,0,[],[],9,1,0,oL⟩) (e:=0) rfl rfl cc ?_ (fun h=>absurd rfl h) fun _=>?_
 ·exact yR ⟨0,0,0,0,[],[⟨[.mk 2 0 40 [] []],1,0,[]⟩],9,1,0,oL⟩ ⟨[.mk 2 0 40 [] []],1,0,[]⟩ [] rfl rfl cc
 exact kE.done rfl
theorem A9:ag 13 [] (.bool true):=by
 have U:=Oj 0 0 0 0 9 (.mk 3 0 0 [] [.mk 2 0 40 [] []]) cc [.mk 4 []] cc [v3] cc (by rw[PO];rfl) rfl Uu 0 [] oL 1 0 (fun _=>Bb 0 0 0 0 9 [.mk 2 0 40 [] []] v3 [] ⟨0,0,0,0,[],[],9,1,0,oL⟩ cc cc (C3 3 _ _ PR));have e:kC [.mk 4 []] [v3]=true:=by decide +kernel
 rw[e]at U;have h1:ag 9 [.agg [.int .i64 0,.int .i64 0,.int .i64 0,.int .i64 0],.agg [.int .i64 3,.int .i64 0,.int .i64 0,.str [],.sl 5 [.agg [.int .i64 2,.int .i64 0,.int .i64 40,.str [],.sl 5 []]]],.sl 2 [.agg [.int .i64 4,.sl 2 []]],.sl 7 [.agg [.int .i64 4,.int .i64 3,.int .i64 0,.str [],.sl 7 [],.sl 2 [],.sl 5 []]],.int .i64 9] (iF 0 [] oL 1 0):=U;have V:=L3 [.agg [.int .i64 2,.int .i64 0,.int .i64 40,.str [],.sl 5 []]];clear U e;refine qn Tryz.func13 Tryz.call13 fun β hf=>?_;exact dw
end Go.Proofs
