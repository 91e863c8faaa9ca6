/- What shape of package run's machine does. What control of package run's machine does. What math/bits.Mul64 answers for small numbers, and num.Mul for all numbers. What reckon and divide of package run's machine do. -/
import Derived.Test.YtlohbilpimjmmaaGreatDoorKindLaw
import Derived.Test.YtlohbilpimjmmaaGreatDoorChkC
import Derived.Test.YtlohbilpimjmmaaGreatDoorKind5
set_option maxHeartbeats 0
set_option linter.unusedVariables false
set_option linter.unusedSimpArgs false
set_option maxRecDepth 100000
namespace Go.Proofs
open Go.cu
theorem fM (S:bT) (v:Vl) (Y:aM v<=8589934593) (C:S.st.length<=1000000000):iC 107 S [.c (.sl 7 (aa [v]))] (bg S [v]) :=
 pP S [v] (by intro x O;simp at O;subst O;exact Y) cn zH
theorem XM (S:bT) (v w:Vl) (Y:aM v<=8589934593) (B:aM w<=8589934593) (C:S.st.length<=1000000000):iC 107 S [.c (.sl 7 (aa [v,w]))] (bg S [v,w]) :=
 pP S [v,w] (by intro x O;simp at O;rcases O with rfl|rfl<;>assumption) cn zH
theorem DO (x:Nd) (O:bN x<=8589934593):bC (aZ x).1<=8589934593:=by
 rcases uN x with ⟨t,h,_,_,D⟩|h
 ·rw[h];exact Nat.le_trans D O
 ·rw[h];decide
attribute [local irreducible] AK ai bw bz dJ dN nA aZ iB
theorem Mr (S:bT) (N:Int) (G:List UInt8) (x y:Nd) (O:bN x<=8589934593) (A:bN y<=8589934593) (P:(iB (aZ x).1 y).2=0) (B:aM ((iB (aZ x).1 y).1)<=8589934593) (C:S.st.length<=1000000000):iC 84 S [.c (aW (.mk 2 N 45 G [x,y])),.c (.sl 7 (aa []))] (bg S [(iB (aZ x).1 y).1]):=by
 have V:=fM S ((iB (aZ x).1 y).1) B C;have hq:=ki x O;have Y:bC (aZ x).1<=8589934593:=DO x O;have I:=sM (aZ x).1 y Y A;rw[P]at I;generalize U:(iB (aZ x).1 y).1=w at V I ⊢;clear P;generalize aZ x=tp at hq I Y;obtain⟨⟨T,us⟩,e⟩:=tp;obtain⟨Q,K,u,q,W,M,H⟩:=w;obtain⟨J,D,E,p,i5⟩:=x;obtain⟨j1,j2,j3,j4,j5⟩:=y;refine mn Tryz.func84 Tryz.call84 fun β hf=>?_;exact dm
theorem Ms (S:bT) (J:Int) (G:List UInt8) (a b:Vl) (B:aM (bB a b)<=8589934593) (C:S.st.length<=1000000000):iC 84 S [.c (aW (.mk 2 J 46 G [])),.c (.sl 7 (aa [a,b]))] (bg S [bB a b]):=by
 have T:=fM S (bB a b) B C;have hq:=iy a b;obtain⟨Y,K,u,q,W,O,H⟩:=a;obtain⟨D,V,I,E,N,U,A⟩:=b;refine mn Tryz.func84 Tryz.call84 fun β hf=>?_;exact dm
theorem Mt (S:bT) (N:Int) (G:List UInt8) (x:Nd) (a:Vl) (B:aM (.mk 12 (50-50) 0 [] [a] [] [])<=8589934593) (C:S.st.length<=1000000000):iC 84 S [.c (aW (.mk 2 N 50 G [x])),.c (.sl 7 (aa [a]))] (bg S [.mk 12 (50-50) 0 [] [a] [] []]):=by
 have T:=fM S (.mk 12 (50-50) 0 [] [a] [] []) B C;obtain⟨Y,K,u,q,W,O,H⟩:=a;refine mn Tryz.func84 Tryz.call84 fun β hf=>?_;exact dm
theorem Mu (S:bT) (N:Int) (G:List UInt8) (x:Nd) (a:Vl) (B:aM (.mk 12 (51-50) 0 [] [a] [] [])<=8589934593) (C:S.st.length<=1000000000):iC 84 S [.c (aW (.mk 2 N 51 G [x])),.c (.sl 7 (aa [a]))] (bg S [.mk 12 (51-50) 0 [] [a] [] []]):=by
 have T:=fM S (.mk 12 (51-50) 0 [] [a] [] []) B C;obtain⟨Y,K,u,q,W,O,H⟩:=a;refine mn Tryz.func84 Tryz.call84 fun β hf=>?_;exact dm
theorem Mv (S:bT) (N:Int) (G:List UInt8) (a:Vl) (B:aM (cx [a])<=8589934593) (C:S.st.length<=1000000000):iC 84 S [.c (aW (.mk 2 N 53 G [])),.c (.sl 7 (aa [a]))] (bg S [cx [a]]):=by
 have T:=fM S (cx [a]) B C;have hq:=fO [a];obtain⟨Y,K,u,q,W,O,H⟩:=a;refine mn Tryz.func84 Tryz.call84 fun β hf=>?_;exact dm
theorem Mw (S:bT) (N:Int) (G:List UInt8) (x:Nd) (B:aM (cx [])<=8589934593) (C:S.st.length<=1000000000):iC 84 S [.c (aW (.mk 2 N 54 G [x])),.c (.sl 7 (aa []))] (bg S [cx []]):=by
 have T:=fM S (cx []) B C;refine mn Tryz.func84 Tryz.call84 fun β hf=>?_;have Y:=fq;exact dm
theorem PY (S:bT) (N:Int) (G:List UInt8) (x:Nd) (B:aM (.mk 10 0 0 [] [] [] [])<=8589934593) (C:S.st.length<=1000000000):iC 84 S [.c (aW (.mk 2 N 56 G [x])),.c (.sl 7 (aa []))] (bg S [.mk 10 0 0 [] [] [] []]):=by
 have T:=fM S (.mk 10 0 0 [] [] [] []) B C;refine mn Tryz.func84 Tryz.call84 fun β hf=>?_;exact dm
theorem Mx (S:bT) (J:Int) (G:List UInt8) (k n c:Int) (s:List UInt8) (a b:Vl) (H:List Ty) (B:List Nd) (A:aM (b)<=8589934593) (h1:aM (a)<=8589934593) (C:S.st.length<=1000000000):iC 84 S [.c (aW (.mk 2 J 47 G [])),.c (.sl 7 (aa [.mk k n c s [a,b] H B]))] (bg S [b,a]):=by
 have T:=XM S (b) (a) A h1 C;obtain⟨Y,K,u,q,W,O,V⟩:=a;obtain⟨D,U,I,E,N,Q,P⟩:=b;refine mn Tryz.func84 Tryz.call84 fun β hf=>?_;exact dm
theorem My (S:bT) (J:Int) (G:List UInt8) (k n c:Int) (s:List UInt8) (a b:Vl) (H:List Ty) (B:List Nd) (A:aM (a)<=8589934593) (C:S.st.length<=1000000000):iC 84 S [.c (aW (.mk 2 J 48 G [])),.c (.sl 7 (aa [.mk k n c s [a,b] H B]))] (bg S [a]):=by
 have T:=fM S (a) A C;obtain⟨Y,K,u,q,W,O,V⟩:=a;obtain⟨D,U,I,E,N,Q,P⟩:=b;refine mn Tryz.func84 Tryz.call84 fun β hf=>?_;exact dm
theorem Mz (S:bT) (J:Int) (G:List UInt8) (k n c:Int) (s:List UInt8) (a b:Vl) (H:List Ty) (B:List Nd) (A:aM (b)<=8589934593) (C:S.st.length<=1000000000):iC 84 S [.c (aW (.mk 2 J 49 G [])),.c (.sl 7 (aa [.mk k n c s [a,b] H B]))] (bg S [b]):=by
 have T:=fM S (b) A C;obtain⟨Y,K,u,q,W,O,V⟩:=a;obtain⟨D,U,I,E,N,Q,P⟩:=b;refine mn Tryz.func84 Tryz.call84 fun β hf=>?_;exact dm
end Go.Proofs
namespace Go.Proofs
open Go.cu
theorem J2 (f:eO) (t:List eO) (j:Nat) (P:j<4) (v:CV):dL (0+t.length*4+j) [.c v] (ag (fR (f::t)))=some (ag (fR t)++(ag [rF f]).set j (.c v)):=by
 have h:=B8 t;have e:(ag (fR t)).length=t.length*4:=by rw[ag,List.length_map];exact h
 have C:0+t.length*4+j<(ag (fR (f::t))).length:=by rw[lO,aax,e];show _<_+4;omega
 rw[Bl C,lO,Nat.zero_add,List.set_append_right _ _ bn,e,Nat.add_sub_cancel_left]
theorem DP (f:eO) (t:List eO) (n:Nat):dL (0+t.length*4+1) [.c (aF (n:Nat))] (ag (fR (f::t)))=some (ag (fR ({f with pos:=n}::t))):=by
 rw[J2 f t 1 cc,lO];rfl
theorem S5 (f:eO) (t:List eO) (l:List Vl):dL (0+t.length*4+3) [.c (.sl 7 (aa l))] (ag (fR (f::t)))=some (ag (fR ({f with aside:=l}::t))):=by
 rw[J2 f t 3 cc,lO];rfl
theorem S6 (B:List Nd) (fin:Int) (T:List Vl) (t:List eO):dL (0+t.length*4+1) [.c (aF ((aH B).length:Nat))] (ag (fR (⟨B,0,fin,T⟩::t)))=some (ag (fR (⟨B,B.length,fin,T⟩::t))):=by
 rw[bq];exact DP _ _ _
attribute [local irreducible] AK ai bw bz dJ dN nA aZ iB
theorem EM (S:bT) (N:Int) (G:List UInt8) (O q1:Int) (D:List UInt8) (Y:List Nd) (A q:Int) (Q:List UInt8) (E:List Nd) (k c:Int) (s:List UInt8) (H:List Ty) (B:List Nd) (x:Vl) (V:aM x<=8589934593) (C:S.st.length<=1000000000) (J:S.fr.length<=1099511627776):iC 85 S [.c (aW (.mk 2 N 52 G [.mk 3 O q1 D Y,.mk 3 A q Q E])),.c (.sl 7 (aa [.mk k 0 c s [x] H B]))] (bg (dr S Y 0 []) [x]):=by
 have P:=gP S Y 0 J;have T:=fM (dr S Y 0 []) x V C;obtain⟨U,K,u,M,W,I,p⟩:=x;refine mn Tryz.func85 Tryz.call85 fun β hf=>?_;exact dm
theorem EN (S:bT) (N:Int) (G:List UInt8) (O q1:Int) (Y:List UInt8) (V:List Nd) (A q:Int) (Q:List UInt8) (J:List Nd) (k c:Int) (s:List UInt8) (H:List Ty) (B:List Nd) (x:Vl) (U:aM x<=8589934593) (C:S.st.length<=1000000000) (D:S.fr.length<=1099511627776):iC 85 S [.c (aW (.mk 2 N 52 G [.mk 3 O q1 Y V,.mk 3 A q Q J])),.c (.sl 7 (aa [.mk k 1 c s [x] H B]))] (bg (dr S J 0 []) [x]):=by
 have P:=gP S J 0 D;have T:=fM (dr S J 0 []) x U C;obtain⟨M,K,u,I,W,E,p⟩:=x;refine mn Tryz.func85 Tryz.call85 fun β hf=>?_;exact dm
theorem EO (S:bT) (N:Int) (G:List UInt8) (O q1:Int) (D:List UInt8) (Y:List Nd) (A q:Int) (Q:List UInt8) (E:List Nd) (k c:Int) (s:List UInt8) (H:List Ty) (B:List Nd) (n:Int) (C:S.st.length<=1000000000) (J:S.fr.length<=1099511627776):iC 85 S [.c (aW (.mk 2 N 55 G [.mk 3 O q1 D Y,.mk 3 A q Q E])),.c (.sl 7 (aa [.mk k n c s [] H B]))] (bg (dr S Y 0 []) []):=by
 have P:=gP S Y 0 J;have T:=pP (dr S Y 0 []) [] (fun _ h=>by simp at h) cn (by show S.st.length+0<=_;omega);refine mn Tryz.func85 Tryz.call85 fun β hf=>?_;exact dm
theorem EP (S:bT) (N:Int) (G:List UInt8) (O q1:Int) (Y:List UInt8) (V:List Nd) (A q:Int) (Q:List UInt8) (J:List Nd) (k c:Int) (s:List UInt8) (H:List Ty) (B:List Nd) (n:Int) (x:Vl) (U:aM x<=8589934593) (C:S.st.length<=1000000000) (D:S.fr.length<=1099511627776):iC 85 S [.c (aW (.mk 2 N 55 G [.mk 3 O q1 Y V,.mk 3 A q Q J])),.c (.sl 7 (aa [.mk k n c s [x] H B]))] (bg (dr S J 0 []) [x]):=by
 have P:=gP S J 0 D;have T:=fM (dr S J 0 []) x U C;obtain⟨M,K,u,I,W,E,p⟩:=x;refine mn Tryz.func85 Tryz.call85 fun β hf=>?_;exact dm
theorem ES (S:bT) (N:Int) (G:List UInt8) (O q1:Int) (Y:List UInt8) (W:List Nd) (A q:Int) (Q:List UInt8) (J:List Nd) (k c:Int) (s:List UInt8) (H:List Ty) (B:List Nd) (n:Int) (C:S.st.length<=1000000000) (D:S.fr.length<=1099511627776):iC 85 S [.c (aW (.mk 2 N 58 G [.mk 3 O q1 Y W,.mk 3 A q Q J])),.c (.sl 7 (aa [.mk k n c s [] H B]))] (((0,dr S J 0 []):MR)):=by
 have P:=gP S J 0 D;refine mn Tryz.func85 Tryz.call85 fun β hf=>?_;exact dm
theorem ET (S:bT) (N:Int) (G:List UInt8) (O q1:Int) (D:List UInt8) (Y:List Nd) (A q:Int) (Q:List UInt8) (E:List Nd) (k c:Int) (s:List UInt8) (H:List Ty) (B:List Nd) (n:Int) (x:Vl) (xs:List Vl) (U:aM x<=8589934593) (W:aM (.mk 10 0 0 [] xs [] [])<=8589934593) (C:S.st.length<=1000000000) (J:S.fr.length<=1099511627776):iC 85 S [.c (aW (.mk 2 N 58 G [.mk 3 O q1 D Y,.mk 3 A q Q E])),.c (.sl 7 (aa [.mk k n c s (x::xs) H B]))] (bg (dr S Y 0 []) [.mk 10 0 0 [] xs [] [],x]):=by
 have P:=gP S Y 0 J;have T:=XM (dr S Y 0 []) (.mk 10 0 0 [] xs [] []) x W U C;have K:((((aa (x::xs)).length:Nat):Int)==0)=false:=by simp only[aa,aaa];exact beq_eq_false_iff_ne.2 bn
 obtain⟨M,I,u,p,V,af,aA⟩:=x;refine mn Tryz.func85 Tryz.call85 fun β hf=>?_;exact dm
theorem Hx (S:bT) (N:Int) (G:List UInt8) (O q1:Int) (D:List UInt8) (W:List Nd) (k c:Int) (s:List UInt8) (H:List Ty) (B:List Nd) (n:Int) (xs:List Vl) (C:S.st.length<=1000000000) (J:S.fr.length<=1099511627776):iC 85 S [.c (aW (.mk 2 N 60 G [.mk 3 O q1 D W])),.c (.sl 7 (aa [.mk k n c s xs H B]))] (((0,vU S W 3 xs):MR)):=by
 have P:=uL S W 3 xs J;have Q:IntKind.i64.wrap (((S.fr.length+1:Nat):Int)-1)=(S.fr.length:Nat):=by rw[gZ bn bn];omega
 have Y:=S6 W 3 xs S.fr;refine mn Tryz.func85 Tryz.call85 fun β hf=>?_
 repeat' (first|refine mY ?_|(refine zc ?_ ?_<;>intro h<;>first|(cases h;done)|rw[h]|skip)|refine uI rfl (0) rfl (rfl) rfl ?_|refine sY ?_ (hq:=P)|refine ai.jg Tryz.hX kn rfl rfl rfl rfl rfl rfl rfl rfl rfl S.fr.length Q (Nat.lt_succ_self _) ?_|refine ai.store Tryz.hX kn rfl rfl rfl rfl rfl rfl rfl rfl rfl Y rfl ?_|(refine uA rfl ?_ ?_<;>(try (show(_:Nat)*_<=_;dsimp only)))|((first|refine zt ?_|refine zu ?_ ?_)<;>intro h<;>(fail_if_success (cases h;done))<;>rw[h]))
 all_goals rfl
theorem J3 (S:bT) (N:Int) (G:List UInt8) (O q1:Int) (Y:List UInt8) (W:List Nd) (A q:Int) (Q:List UInt8) (J:List Nd) (k c:Int) (s:List UInt8) (H:List Ty) (B:List Nd) (xs:List Vl) (C:S.st.length<=1000000000) (D:S.fr.length<=1099511627776):iC 85 S [.c (aW (.mk 2 N 64 G [.mk 3 O q1 Y W,.mk 3 A q Q J])),.c (.sl 7 (aa [.mk k 0 c s xs H B]))] (((0,dr S J 0 []):MR)):=by
 have P:=gP S J 0 D;refine mn Tryz.func85 Tryz.call85 fun β hf=>?_
 repeat' (first|refine mY ?_|(refine zc ?_ ?_<;>intro h<;>first|(cases h;done)|rw[h]|skip)|refine uI rfl (0) rfl (rfl) rfl ?_|refine uI rfl 1 rfl rfl rfl ?_|refine sY ?_ (hq:=P)|(refine uA rfl ?_ ?_<;>(try (show(_:Nat)*_<=_;dsimp only)))|((first|refine zt ?_|refine zu ?_ ?_)<;>intro h<;>(fail_if_success (cases h;done))<;>rw[h]))
 all_goals rfl
theorem J4 (S:bT) (N:Int) (G:List UInt8) (O q1:Int) (D:List UInt8) (Y:List Nd) (A q:Int) (Q:List UInt8) (E:List Nd) (k c:Int) (s:List UInt8) (H:List Ty) (B:List Nd) (xs:List Vl) (C:S.st.length<=1000000000) (J:S.fr.length<=1099511627776):iC 85 S [.c (aW (.mk 2 N 64 G [.mk 3 O q1 D Y,.mk 3 A q Q E])),.c (.sl 7 (aa [.mk k 1 c s xs H B]))] (((0,dr S Y 0 []):MR)):=by
 have P:=gP S Y 0 J;refine mn Tryz.func85 Tryz.call85 fun β hf=>?_
 repeat' (first|refine mY ?_|(refine zc ?_ ?_<;>intro h<;>first|(cases h;done)|rw[h]|skip)|refine uI rfl (0) rfl (rfl) rfl ?_|refine uI rfl 0 rfl rfl rfl ?_|refine sY ?_ (hq:=P)|(refine uA rfl ?_ ?_<;>(try (show(_:Nat)*_<=_;dsimp only)))|((first|refine zt ?_|refine zu ?_ ?_)<;>intro h<;>(fail_if_success (cases h;done))<;>rw[h]))
 all_goals rfl
theorem Hy (S:bT) (N:Int) (G:List UInt8) (O q1:Int) (D:List UInt8) (V:List Nd) (x:Vl) (C:S.st.length<=1000000000) (J:S.fr.length<=1099511627776):iC 85 S [.c (aW (.mk 2 N 65 G [.mk 3 O q1 D V])),.c (.sl 7 (aa [x]))] (((0,{vU S V 4 []with st:=x::S.st}):MR)):=by
 have P:=gP S V 4 J;have Q:IntKind.i64.wrap (((S.fr.length+1:Nat):Int)-1)=(S.fr.length:Nat):=by rw[gZ bn bn];omega
 have Y:=S6 V 4 [] S.fr;obtain⟨U,K,u,q,W,T,H⟩:=x;have M:=Mo U K u q W T H S.st;refine mn Tryz.func85 Tryz.call85 fun β hf=>?_
 repeat' (first|refine mY ?_|(refine zc ?_ ?_<;>intro h<;>first|(cases h;done)|rw[h]|skip)|refine uI rfl (0) rfl (rfl) rfl ?_|refine sY ?_ (hq:=P)|refine ai.jg Tryz.hX kn rfl rfl rfl rfl rfl rfl rfl rfl rfl S.fr.length Q (Nat.lt_succ_self _) ?_|refine ai.store Tryz.hX kn rfl rfl rfl rfl rfl rfl rfl rfl rfl Y rfl ?_|refine ai.mG Tryz.hX kn rfl rfl rfl rfl rfl rfl rfl rfl rfl rfl rfl rfl rfl rfl rfl (sR S.st) [] (List.append_nil _).symm (iR _).symm (sZ _) rfl rfl rfl rfl rfl rfl rfl (show((sR S.st).length+1)*112<=_ by rw[iR];omega) rfl (m:=S.st.length+1) (by rw[aax,iR];rfl) rfl ?_|refine ai.jg Tryz.hX kn rfl rfl rfl rfl rfl rfl rfl rfl rfl S.st.length rfl (Nat.lt_succ_self _) ?_|refine ai.store Tryz.hX kn rfl rfl rfl rfl rfl rfl rfl rfl rfl (M _ rfl) rfl ?_|(refine uA rfl ?_ ?_<;>(try (show(_:Nat)*_<=_;dsimp only)))|((first|refine zt ?_|refine zu ?_ ?_)<;>intro h<;>(fail_if_success (cases h;done))<;>rw[h]))
 all_goals rfl
theorem J5 (S:bT) (N:Int) (G:List UInt8) (O q1:Int) (D:List UInt8) (Y:List Nd) (x:Vl) (C:S.st.length<=1000000000) (J:S.fr.length<=1099511627776):iC 85 S [.c (aW (.mk 2 N 68 G [.mk 3 O q1 D Y])),.c (.sl 7 (aa [x]))] (((0,dr S Y 1 [x]):MR)):=by
 have P:=uL S Y 1 [x] J;obtain⟨V,K,u,q,W,U,H⟩:=x;refine mn Tryz.func85 Tryz.call85 fun β hf=>?_;exact dm
theorem DQ (S:bT) (N:Int) (G:List UInt8) (x y:Nd) (O q1:Int) (D:List UInt8) (Y:List Nd) (q:bN x<=8589934593) (V:bN y<=8589934593) (W:aM (.mk 14 0 0 [] [] [(aZ x).1,(aZ y).1] Y)<=8589934593) (C:S.st.length<=1000000000) (J:S.fr.length<=1099511627776):iC 85 S [.c (aW (.mk 2 N 66 G [x,y,.mk 3 O q1 D Y])),.c (.sl 7 (aa []))] (bg S [.mk 14 0 0 [] [] [(aZ x).1,(aZ y).1] Y]):=by
 have A:=fM S (.mk 14 0 0 [] [] [(aZ x).1,(aZ y).1] Y) W C;have U:=ki x q;have Q:=ki y V;clear W;generalize aZ x=tp at A U ⊢;generalize aZ y=tq at A Q ⊢;obtain⟨⟨T,us⟩,e⟩:=tp;obtain⟨⟨M,P⟩,e2⟩:=tq;obtain⟨u,K,B,I,H⟩:=x;obtain⟨E,p,j3,j4,j5⟩:=y;refine mn Tryz.func85 Tryz.call85 fun β hf=>?_;exact dm
theorem Hz (S:bT) (N:Int) (G:List UInt8) (x:Vl) (k c:Int) (s:List UInt8) (H:List Ty) (B:List Nd) (n:Int) (xs:List Vl) (C:S.st.length<=1000000000) (J:S.fr.length<=1099511627776):iC 85 S [.c (aW (.mk 2 N 67 G [])),.c (.sl 7 (aa [x,.mk k n c s xs H B]))] (((0,{dr S B 2 S.st.reverse with st:=[x]}):MR)):=by
 have P:=Hw S B 2 S.st.reverse J;obtain⟨Y,K,u,q,W,O,V⟩:=x;refine mn Tryz.func85 Tryz.call85 fun β hf=>?_;refine BY S rfl rfl rfl rfl rfl rfl rfl [] (fun _=>trivial) rfl (env':=[(0,.ptr 1000000 0),(1,.c (aW (.mk 2 N 67 G []))),(2,.c (.sl 7 (aa [.mk Y K u q W O V,.mk k n c s xs H B])))]) (ts':=[]) ⟨⟨_,rfl,.inl rfl⟩,⟨_,rfl,.inl rfl⟩,⟨_,rfl,.inl rfl⟩,trivial⟩ trivial ?_
 repeat' (first|refine ai.iL Tryz.hX kn rfl rfl rfl rfl rfl rfl rfl rfl rfl rfl rfl rfl rfl rfl ?_|refine mY ?_|(refine zc ?_ ?_<;>intro h<;>first|(cases h;done)|rw[h]|skip)|refine uI rfl (0) rfl (rfl) rfl ?_|refine uI rfl (1) rfl (rfl) rfl ?_|refine XH ?_ (hq:=P)|(refine uA rfl ?_ ?_<;>(try (show(_:Nat)*_<=_;dsimp only)))|((first|refine zt ?_|refine zu ?_ ?_)<;>intro h<;>(fail_if_success (cases h;done))<;>rw[h]))
 all_goals rfl
end Go.Proofs
namespace Go.Proofs
open Go.cu
attribute [local irreducible] AK ai bw
theorem DR {n:Int} (h1:0<=n) (h2:n<=18446744073709551615):IntKind.u64.wrap n=n:=by
 simp[IntKind.wrap,IntKind.bits,IntKind.signed];omega
theorem MA (x:Int) (B:0<=x) (h1:x<=18446744073709551615):IntKind.u64.wrap ((BitVec.ofInt (IntKind.bits .u64) x&&&BitVec.ofInt (IntKind.bits .u64) 4294967295).toNat:Nat)=x%4294967296:=by
 have e:((BitVec.ofInt (IntKind.bits .u64) x&&&BitVec.ofInt (IntKind.bits .u64) 4294967295).toNat)=x.toNat%4294967296:=by
  rw[BitVec.toNat_and,BitVec.toNat_ofInt,BitVec.toNat_ofInt];have A:((4294967295:Int)%((2^IntKind.bits .u64:Nat):Int)).toNat=2^32-1:=by decide
  have E:(x%((2^IntKind.bits .u64:Nat):Int)).toNat=x.toNat:=by
   have:((2^IntKind.bits .u64:Nat):Int)=18446744073709551616:=by decide
   rw[this,Int.emod_eq_of_lt B bn]
  rw[A,E,Nat.and_two_pow_sub_one_eq_mod]
 rw[e,DR bn bn];omega
theorem Z5 (V W U Y:Int) (h:0<=Y):V+(W+Y/4294967296)/4294967296+((W+Y/4294967296)%4294967296+U)/4294967296=(V*18446744073709551616+(W+U)*4294967296+Y)/18446744073709551616:=by omega
theorem Ve (u P H Y:Int):(u*4294967296+P)*(H*4294967296+Y)=(u*H)*18446744073709551616+(u*Y+P*H)*4294967296+P*Y:=by
 simp only[Int.add_mul,Int.mul_add];have A:u*4294967296*(H*4294967296)=u*H*18446744073709551616:=by
  rw[<- Int.mul_assoc,Int.mul_right_comm u 4294967296 H,Int.mul_assoc];rfl
 rw[Int.mul_right_comm u 4294967296 Y,A,<- Int.mul_assoc P H];omega
theorem oA {a b c d:Int} (h1:0<=a) (h2:a<=c) (V:0<=b) (D:b<=d):0<=a*b/\a*b<=c*d :=
 ⟨Int.mul_nonneg h1 V,Int.mul_le_mul h2 D V bn⟩
theorem J6 (x y:Int) (B:0<=x/\x<=1152921504606846976) (A:0<=y/\y<=1152921504606846976) :
  ah 138 [.int .u64 x,.int .u64 y] (.gB [.int .u64 (x*y/18446744073709551616),.int .u64 (x*y%18446744073709551616)]):=by
 refine qn Tryz.func138 Tryz.call138 fun β hf=>?_;refine dn ?_;have W:∀n:Int,n.fdiv (2^min 32 (IntKind.bits .u64))=n/4294967296:=fun n=>by
  rw[show(2:Int)^(min 32 (IntKind.bits .u64))=4294967296 from by decide];exact Int.fdiv_eq_ediv_of_nonneg n cc
 have M:∀n:Int,IntKind.u64.wrap n=n%18446744073709551616:=fun n=>by simp[IntKind.wrap,IntKind.bits,IntKind.signed]
 simp only[W,MA x bn bn,MA y bn bn];obtain⟨u,P,K,V,h1,h2,S,D,q⟩:∃u P:Int,x/4294967296=u/\x%4294967296=P/\0<=u/\u<=268435456/\0<=P/\P<=4294967295/\x=u*4294967296+P:=⟨_,_,rfl,rfl,bn,bn,bn,bn,bn⟩
 obtain⟨H,Y,J,U,g1,p,Q,O,I⟩:∃H Y:Int,y/4294967296=H/\y%4294967296=Y/\0<=H/\H<=268435456/\0<=Y/\Y<=4294967295/\y=H*4294967296+Y:=⟨_,_,rfl,rfl,bn,bn,bn,bn,bn⟩
 rw[M (x*y)];rw[K,V,J,U];have e:=Ve u P H Y;rw[<- q,<- I]at e;have G:=oA h1 h2 g1 p;have E:=oA h1 h2 Q O;have C:=oA S D g1 p;have T:=oA S D Q O;have N:=Z5 (u*H) (u*Y) (P*H) (P*Y) T.1;rw[<- e]at N;rw[<- N];generalize u*H=Wi at *;generalize u*Y=XN at *;generalize P*H=Z6 at *;generalize P*Y=Wj at *;rw[DR (n:=Wj) bn bn,DR (n:=XN) bn bn,DR (n:=Z6) bn bn,DR (n:=Wi) bn bn];rw[DR (n:=XN+Wj/4294967296) bn bn,MA _ bn bn];rw[DR (n:=Wi+_) bn bn,DR (n:=(XN+Wj/4294967296)%4294967296+Z6) bn bn,DR bn bn]
theorem wz (a:Int):0<=(ng a).1/\(ng a).1<=1152921504606846976:=by
 unfold ng;split
 ·rename_i h;have:=lR.1 h;dsimp only;split<;>omega
 ·simp
theorem Wm (a:Int):0<=IntKind.u64.wrap (ng a).1/\IntKind.u64.wrap (ng a).1<=1152921504606846976:=by
 have:=wz a;rw[DR bn bn];exact this
theorem S8 (a:Int):IntKind.u64.wrap (ng a).1=(ng a).1:=by
 have:=wz a;exact DR bn bn
theorem S9 (a:Int):((ng a).2 != 0) = !tY a:=by
 unfold ng;split
 ·rename_i h;simp[h]
 ·rename_i h;simp[h]
theorem Ta (a b:Int) (p:tY a=true) (Y:tY b=true):((!(decide (a<0)==decide (b<0)))=false->(ng a).1*(ng b).1=a*b)/\((!(decide (a<0)==decide (b<0)))=true->(ng a).1*(ng b).1 = -(a*b)):=by
 by_cases h1:a<0<;>by_cases h2:b<0<;>simp[ng,p,Y,h1,h2,Int.neg_mul_neg,Int.neg_mul,Int.mul_neg]
theorem F7 (a b:Int):ah 117 [.int .i64 a,.int .i64 b] (two (qY a b)):=by
 refine qn Tryz.func117 Tryz.call117 fun β hf=>?_
 repeat' (first|refine sz ?_|(refine zc ?_ ?_<;>intro h<;>first|(cases h;done)|rw[h]|skip)|refine uC rfl (zZ a) ?_|refine uC rfl (zZ b) ?_|refine uC rfl (J6 _ _ (Wm _) (Wm _)) ?_|((first|refine zt ?_|refine zu ?_ ?_)<;>intro h<;>(fail_if_success (cases h;done))<;>rw[h]))
 all_goals simp only[S9,S8]at *
 ·simp_all [qY,two]
 ·simp_all [qY,two]
 all_goals
  obtain⟨h1,h2⟩:tY a=true/\tY b=true:=by simp_all
  obtain⟨Y,J⟩:=Ta a b h1 h2;have E:=oA (wz a).1 (wz a).2 (wz b).1 (wz b).2;rw[show qY a b=lA (a*b)from by simp[qY,h1,h2]];generalize (ng a).1*(ng b).1=q at *;generalize a*b=r at *
 ·have V:q/18446744073709551616≠0:=by simp_all
  have D:¬(tY r=true):=by rw[lR];cases W:(!(decide (a<0)==decide (b<0)))<;>simp only[W,true_implies,reduceCtorEq,false_implies]at Y J<;>omega
  simp[lA,D,two]
 ·have V:q/18446744073709551616=0:=by simp_all
  have U:q%18446744073709551616>1152921504606846976:=by simp_all
  have D:¬(tY r=true):=by rw[lR];cases W:(!(decide (a<0)==decide (b<0)))<;>simp only[W,true_implies,reduceCtorEq,false_implies]at Y J<;>omega
  simp[lA,D,two]
 ·have V:q/18446744073709551616=0:=by simp_all
  have U:q%18446744073709551616<=1152921504606846976:=by simp_all
  have T:=J (by assumption);have D:tY r=true:=lR.2 bn;rw[gZ (n:=q%18446744073709551616) bn bn,gZ bn bn];simp only[lA,D,two,if_true];exact R4 bn rfl
 ·have V:q/18446744073709551616=0:=by simp_all
  have U:q%18446744073709551616<=1152921504606846976:=by simp_all
  have T:=Y (by assumption);have D:tY r=true:=lR.2 bn;rw[gZ (n:=q%18446744073709551616) bn bn];simp only[lA,D,two,if_true];exact R4 bn rfl
end Go.Proofs
namespace Go.Proofs
open Go.cu
theorem fm (k n:Int):aM (aO k n)=1:=rfl
theorem eH (l:List Vl):aM (cx l)=aL l+1:=by simp only[cx,aM,br,aQ,aab];omega
theorem dR (a b:Vl):aM (bB a b)=aM a+aM b+1:=by simp only[bB,aM,aL,br,aQ,aab];omega
attribute [local irreducible] AK ai bw bz dJ dN nA sV jR qY gF ng ofM
theorem MB (S:bT) (k:Int) (Y K u:Int) (J:List UInt8) (W:List Vl) (O:List Ty) (H:List Nd) (D G C:Int) (E:List UInt8) (N:List Vl) (V:List Ty) (A:List Nd) (q r e:Int) (P:e≠0) (T:gF K G=(q,r,e)) (I:S.st.length<=1000000000):iC 119 S [.c (aF k),.c (bP (.mk Y K u J W O H)),.c (bP (.mk D G C E N V A))] (bg S [cx []]):=by
 have hq:=sW K G;rw[T]at hq;have U:(e != 0)=true:=by simpa using P
 have Q:=fM S (cx []) fA I;refine mn Tryz.func119 Tryz.call119 fun β hf=>?_;have M:=fq;exact dm
theorem PZ (S:bT) (k:Int) (Y K u:Int) (J:List UInt8) (W:List Vl) (O:List Ty) (H:List Nd) (D G C:Int) (E:List UInt8) (N:List Vl) (V:List Ty) (A:List Nd) (q r:Int) (U:k=5) (p:D=5) (T:gF K G=(q,r,0)) (I:S.st.length<=1000000000):iC 119 S [.c (aF k),.c (bP (.mk Y K u J W O H)),.c (bP (.mk D G C E N V A))] (bg S [cx [bB (aO (4) q) (aO 5 r)]]):=by
 have hq:=sW K G;rw[T]at hq;have Q:(k==5)=true:=by simpa using U
 have P:(D==5)=true:=by simpa using p
 have h1:=cJ (4) q;have h2:=cJ 5 r;have M:=iy (aO (4) q) (aO 5 r);have B:=fO [bB (aO (4) q) (aO 5 r)];have hp:=fM S (cx [bB (aO (4) q) (aO 5 r)]) fA I;refine mn Tryz.func119 Tryz.call119 fun β hf=>?_;exact dm
theorem Tb (S:bT) (k:Int) (Y K u:Int) (J:List UInt8) (W:List Vl) (O:List Ty) (H:List Nd) (D G C:Int) (E:List UInt8) (N:List Vl) (V:List Ty) (A:List Nd) (q r:Int) (U:k=5) (p:D≠5) (T:gF K G=(q,r,0)) (I:S.st.length<=1000000000):iC 119 S [.c (aF k),.c (bP (.mk Y K u J W O H)),.c (bP (.mk D G C E N V A))] (bg S [cx [bB (aO (k) q) (aO 5 r)]]):=by
 have hq:=sW K G;rw[T]at hq;have Q:(k==5)=true:=by simpa using U
 have P:(D==5)=false:=by simpa using p
 have h1:=cJ (k) q;have h2:=cJ 5 r;have M:=iy (aO (k) q) (aO 5 r);have B:=fO [bB (aO (k) q) (aO 5 r)];have hp:=fM S (cx [bB (aO (k) q) (aO 5 r)]) fA I;refine mn Tryz.func119 Tryz.call119 fun β hf=>?_;exact dm
theorem zh (S:bT) (k:Int) (Y K u:Int) (J:List UInt8) (W:List Vl) (O:List Ty) (H:List Nd) (D G C:Int) (E:List UInt8) (N:List Vl) (V:List Ty) (A:List Nd) (q r:Int) (U:k≠5) (T:gF K G=(q,r,0)) (I:S.st.length<=1000000000):iC 119 S [.c (aF k),.c (bP (.mk Y K u J W O H)),.c (bP (.mk D G C E N V A))] (bg S [cx [bB (aO (k) q) (aO 4 r)]]):=by
 have hq:=sW K G;rw[T]at hq;have Q:(k==5)=false:=by simpa using U
 have h1:=cJ (k) q;have h2:=cJ 4 r;have P:=iy (aO (k) q) (aO 4 r);have M:=fO [bB (aO (k) q) (aO 4 r)];have B:=fM S (cx [bB (aO (k) q) (aO 4 r)]) fA I;refine mn Tryz.func119 Tryz.call119 fun β hf=>?_;exact dm
theorem MD (S:bT) (Y K u:Int) (q:List UInt8) (W:List Vl) (O:List Ty) (H:List Nd) (C:S.st.length<=1000000000):iC 87 S [.c (aF 93),.c (.sl 7 (aa [.mk Y K u q W O H]))] (bg S [aO 4 (ng K).1]):=by
 have hq:=zZ K;have T:=fM S (aO 4 (ng K).1) fA C;generalize ng K=r at hq T ⊢;obtain⟨r,e⟩:=r;have h1:=cJ 4 r;refine mn Tryz.func87 Tryz.call87 fun β hf=>?_;exact dm
theorem J7 (S:bT) (Y K u:Int) (q:List UInt8) (W:List Vl) (O:List Ty) (H:List Nd) (N:K<0) (C:S.st.length<=1000000000):iC 87 S [.c (aF 94),.c (.sl 7 (aa [.mk Y K u q W O H]))] (bg S [cx []]):=by
 have E:decide (K<0)=true:=aan N;have T:=fM S (cx []) fA C;refine mn Tryz.func87 Tryz.call87 fun β hf=>?_;have V:=fq;exact dm
theorem J8 (S:bT) (Y K u:Int) (q:List UInt8) (W:List Vl) (O:List Ty) (H:List Nd) (N:¬K<0) (C:S.st.length<=1000000000):iC 87 S [.c (aF 94),.c (.sl 7 (aa [.mk Y K u q W O H]))] (bg S [cx [aO 4 K]]):=by
 have E:decide (K<0)=false:=aaw N;have h1:=cJ 4 K;have h2:=fO [aO 4 K];have T:=fM S (cx [aO 4 K]) fA C;refine mn Tryz.func87 Tryz.call87 fun β hf=>?_;exact dm
theorem ME (S:bT) (Y K u:Int) (q:List UInt8) (W:List Vl) (O:List Ty) (H:List Nd) (C:S.st.length<=1000000000):iC 87 S [.c (aF 95),.c (.sl 7 (aa [.mk Y K u q W O H]))] (bg S [aO 3 K]):=by
 have h1:=cJ 3 K;have T:=fM S (aO 3 K) fA C;refine mn Tryz.func87 Tryz.call87 fun β hf=>?_;exact dm
theorem EU (S:bT) (Y K u:Int) (q:List UInt8) (W:List Vl) (O:List Ty) (H:List Nd) (D G C:Int) (E:List UInt8) (N:List Vl) (V:List Ty) (A:List Nd) (r:Int) (T:sV K G=(r,0)) (I:S.st.length<=1000000000):iC 87 S [.c (aF 69),.c (.sl 7 (aa [.mk Y K u q W O H,.mk D G C E N V A]))] (bg S [aO (ofM 69 Y D) r]):=by
 have hq:=Fz K G;rw[T]at hq;have U:=mF 69 Y D;have h1:=cJ (ofM 69 Y D) r;have Q:=fM S (aO (ofM 69 Y D) r) fA I;refine mn Tryz.func87 Tryz.call87 fun β hf=>?_;exact dm
theorem DS (S:bT) (Y K u:Int) (q:List UInt8) (W:List Vl) (O:List Ty) (H:List Nd) (D G C:Int) (E:List UInt8) (N:List Vl) (V:List Ty) (A:List Nd) (r e:Int) (P:e≠0) (T:sV K G=(r,e)) (I:S.st.length<=1000000000):iC 87 S [.c (aF 69),.c (.sl 7 (aa [.mk Y K u q W O H,.mk D G C E N V A]))] (((e,S):MR)):=by
 have hq:=Fz K G;rw[T]at hq;have U:=mF 69 Y D;have Q:(e != 0)=true:=by simpa using P
 refine mn Tryz.func87 Tryz.call87 fun β hf=>?_;exact dm
theorem EV (S:bT) (Y K u:Int) (q:List UInt8) (W:List Vl) (O:List Ty) (H:List Nd) (D G C:Int) (E:List UInt8) (N:List Vl) (V:List Ty) (A:List Nd) (r:Int) (T:qY K G=(r,0)) (I:S.st.length<=1000000000):iC 87 S [.c (aF 71),.c (.sl 7 (aa [.mk Y K u q W O H,.mk D G C E N V A]))] (bg S [aO (ofM 71 Y D) r]):=by
 have hq:=F7 K G;rw[T]at hq;have U:=mF 71 Y D;have h1:=cJ (ofM 71 Y D) r;have Q:=fM S (aO (ofM 71 Y D) r) fA I;refine mn Tryz.func87 Tryz.call87 fun β hf=>?_;exact dm
theorem DT (S:bT) (Y K u:Int) (q:List UInt8) (W:List Vl) (O:List Ty) (H:List Nd) (D G C:Int) (E:List UInt8) (N:List Vl) (V:List Ty) (A:List Nd) (r e:Int) (P:e≠0) (T:qY K G=(r,e)) (I:S.st.length<=1000000000):iC 87 S [.c (aF 71),.c (.sl 7 (aa [.mk Y K u q W O H,.mk D G C E N V A]))] (((e,S):MR)):=by
 have hq:=F7 K G;rw[T]at hq;have U:=mF 71 Y D;have Q:(e != 0)=true:=by simpa using P
 refine mn Tryz.func87 Tryz.call87 fun β hf=>?_;exact dm
theorem DU (S:bT) (Y K u:Int) (q:List UInt8) (W:List Vl) (O:List Ty) (H:List Nd) (D G C:Int) (E:List UInt8) (N:List Vl) (V:List Ty) (A:List Nd) (r e:Int) (P:e≠0) (T:jR K G=(r,e)) (I:S.st.length<=1000000000):iC 87 S [.c (aF 70),.c (.sl 7 (aa [.mk Y K u q W O H,.mk D G C E N V A]))] (((e,S):MR)):=by
 have hq:=vT K G;rw[T]at hq;have Q:=mF 70 Y D;have M:(e != 0)=true:=by simpa using P
 have U:(e==0)=false:=by simpa using P
 have J:(bif (ofM 70 Y D==5)then(e==0)else false)=false:=by rw[U];cases(ofM 70 Y D==5)<;>rfl
 refine mn Tryz.func87 Tryz.call87 fun β hf=>?_;exact dm
theorem DV (S:bT) (Y K u:Int) (q:List UInt8) (W:List Vl) (O:List Ty) (H:List Nd) (D G C:Int) (E:List UInt8) (N:List Vl) (V:List Ty) (A:List Nd) (r:Int) (U:ofM 70 Y D=5) (I:r<0) (T:jR K G=(r,0)) (Q:S.st.length<=1000000000):iC 87 S [.c (aF 70),.c (.sl 7 (aa [.mk Y K u q W O H,.mk D G C E N V A]))] (bg S [cx []]):=by
 have hq:=vT K G;rw[T]at hq;have P:=mF 70 Y D;have M:(ofM 70 Y D==5)=true:=by simpa using U
 have J:decide (r<0)=true:=aan I;have B:=fM S (cx []) fA Q;refine mn Tryz.func87 Tryz.call87 fun β hf=>?_;have p:=fq;exact dm
theorem DW (S:bT) (Y K u:Int) (q:List UInt8) (W:List Vl) (O:List Ty) (H:List Nd) (D G C:Int) (E:List UInt8) (N:List Vl) (V:List Ty) (A:List Nd) (r:Int) (U:ofM 70 Y D=5) (I:¬r<0) (T:jR K G=(r,0)) (Q:S.st.length<=1000000000):iC 87 S [.c (aF 70),.c (.sl 7 (aa [.mk Y K u q W O H,.mk D G C E N V A]))] (bg S [cx [aO (ofM 70 Y D) r]]):=by
 have hq:=vT K G;rw[T]at hq;have P:=mF 70 Y D;have M:(ofM 70 Y D==5)=true:=by simpa using U
 have J:decide (r<0)=false:=aaw I;have h1:=cJ (ofM 70 Y D) r;have h2:=fO [aO (ofM 70 Y D) r];have B:=fM S (cx [aO (ofM 70 Y D) r]) fA Q;refine mn Tryz.func87 Tryz.call87 fun β hf=>?_;exact dm
theorem DX (S:bT) (Y K u:Int) (q:List UInt8) (W:List Vl) (O:List Ty) (H:List Nd) (D G C:Int) (E:List UInt8) (N:List Vl) (V:List Ty) (A:List Nd) (r:Int) (U:ofM 70 Y D≠5) (T:jR K G=(r,0)) (I:S.st.length<=1000000000):iC 87 S [.c (aF 70),.c (.sl 7 (aa [.mk Y K u q W O H,.mk D G C E N V A]))] (bg S [aO (ofM 70 Y D) r]):=by
 have hq:=vT K G;rw[T]at hq;have Q:=mF 70 Y D;have P:(ofM 70 Y D==5)=false:=by simpa using U
 have h1:=cJ (ofM 70 Y D) r;have M:=fM S (aO (ofM 70 Y D) r) fA I;refine mn Tryz.func87 Tryz.call87 fun β hf=>?_;exact dm
theorem lW (S:bT) (Y K u:Int) (q:List UInt8) (W:List Vl) (O:List Ty) (H:List Nd) (D G C:Int) (E:List UInt8) (N:List Vl) (V:List Ty) (A:List Nd) (r:MR) (U:cE 119 S [.c (aF (ofM 72 Y D)),.c (bP (.mk Y K u q W O H)),.c (bP (.mk D G C E N V A))] (aF r.1) r.2):cE 87 S [.c (aF 72),.c (.sl 7 (aa [.mk Y K u q W O H,.mk D G C E N V A]))] (aF r.1) r.2:=by
 have T:=mF 72 Y D;refine mn Tryz.func87 Tryz.call87 fun β hf=>?_;exact dm
end Go.Proofs
