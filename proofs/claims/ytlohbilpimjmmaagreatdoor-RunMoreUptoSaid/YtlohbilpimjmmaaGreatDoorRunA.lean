/- What shape of package run's machine does. What control of package run's machine does. What math/bits.Mul64 answers for small numbers, and num.Mul for all numbers. What reckon and divide of package run's machine do. -/
import Derived.Test.YtlohbilpimjmmaaGreatDoorKindLaw
import Derived.Test.YtlohbilpimjmmaaGreatDoorChkC
import Derived.Test.YtlohbilpimjmmaaGreatDoorKind5
set_option maxHeartbeats 0
set_option linter.unusedVariables false
set_option linter.unusedSimpArgs false
set_option maxRecDepth 100000
namespace Go.Proofs
open Go.cq
theorem fJ (S:bT) (v:Vl) (Y:aM v<=8589934593) (A:S.st.length<=1000000000):iD 107 S [.c (.sl 7 (aa [v]))] (bl S [v]) :=
 pR S [v] (by intro x O;simp at O;subst O;exact Y) c9 EV
theorem XY (S:bT) (v w:Vl) (Y:aM v<=8589934593) (T:aM w<=8589934593) (A:S.st.length<=1000000000):iD 107 S [.c (.sl 7 (aa [v,w]))] (bl S [v,w]) :=
 pR S [v,w] (by intro x O;simp at O;rcases O with rfl|rfl<;>assumption) c9 EV
theorem DR (x:Nd) (O:b8 x<=8589934593):bA (aZ x).1<=8589934593:=by
 rcases uX x with ⟨t,h,_,_,Y⟩|h
 ·rw[h];exact Nat.le_trans Y O
 ·rw[h];decide
attribute [local irreducible] AK ai bh bt dI dS lI aZ iC
theorem MF (S:bT) (N:Int) (V:List UInt8) (x y:Nd) (O:b8 x<=8589934593) (J:b8 y<=8589934593) (P:(iC (aZ x).1 y).2=0) (U:aM ((iC (aZ x).1 y).1)<=8589934593) (A:S.st.length<=1000000000):iD 84 S [.c (aX (.mk 2 N 45 V [x,y])),.c (.sl 7 (aa []))] (bl S [(iC (aZ x).1 y).1]):=by
 have Q:=fJ S ((iC (aZ x).1 y).1) U A;have hq:=ko x O;have Y:bA (aZ x).1<=8589934593:=DR x O;have I:=sW (aZ x).1 y Y J;rw[P]at I;generalize M:(iC (aZ x).1 y).1=w at Q I ⊢;clear P;generalize aZ x=tp at hq I Y;obtain⟨⟨T,us⟩,e⟩:=tp;obtain⟨D,K,u,H,W,G,E⟩:=w;obtain⟨C,B,q,p,i5⟩:=x;obtain⟨j1,j2,j3,j4,j5⟩:=y;refine mn Tryz.func84 Tryz.call84 fun β hf=>?_;exact dm
theorem MG (S:bT) (N:Int) (Y:List UInt8) (a b:Vl) (U:aM (bz a b)<=8589934593) (A:S.st.length<=1000000000):iD 84 S [.c (aX (.mk 2 N 46 Y [])),.c (.sl 7 (aa [a,b]))] (bl S [bz a b]):=by
 have T:=fJ S (bz a b) U A;have hq:=iw a b;obtain⟨D,K,u,Q,W,H,P⟩:=a;obtain⟨O,q,B,G,V,E,M⟩:=b;refine mn Tryz.func84 Tryz.call84 fun β hf=>?_;exact dm
theorem MH (S:bT) (N:Int) (V:List UInt8) (x:Nd) (a:Vl) (U:aM (.mk 12 (50-50) 0 [] [a] [] [])<=8589934593) (A:S.st.length<=1000000000):iD 84 S [.c (aX (.mk 2 N 50 V [x])),.c (.sl 7 (aa [a]))] (bl S [.mk 12 (50-50) 0 [] [a] [] []]):=by
 have Y:=fJ S (.mk 12 (50-50) 0 [] [a] [] []) U A;obtain⟨D,K,u,T,W,H,Q⟩:=a;refine mn Tryz.func84 Tryz.call84 fun β hf=>?_;exact dm
theorem MI (S:bT) (N:Int) (V:List UInt8) (x:Nd) (a:Vl) (U:aM (.mk 12 (51-50) 0 [] [a] [] [])<=8589934593) (A:S.st.length<=1000000000):iD 84 S [.c (aX (.mk 2 N 51 V [x])),.c (.sl 7 (aa [a]))] (bl S [.mk 12 (51-50) 0 [] [a] [] []]):=by
 have Y:=fJ S (.mk 12 (51-50) 0 [] [a] [] []) U A;obtain⟨D,K,u,T,W,H,Q⟩:=a;refine mn Tryz.func84 Tryz.call84 fun β hf=>?_;exact dm
theorem MJ (S:bT) (N:Int) (V:List UInt8) (a:Vl) (U:aM (cB [a])<=8589934593) (A:S.st.length<=1000000000):iD 84 S [.c (aX (.mk 2 N 53 V [])),.c (.sl 7 (aa [a]))] (bl S [cB [a]]):=by
 have Y:=fJ S (cB [a]) U A;have hq:=fL [a];obtain⟨D,K,u,T,W,H,Q⟩:=a;refine mn Tryz.func84 Tryz.call84 fun β hf=>?_;exact dm
theorem MK (S:bT) (N:Int) (V:List UInt8) (x:Nd) (U:aM (cB [])<=8589934593) (A:S.st.length<=1000000000):iD 84 S [.c (aX (.mk 2 N 54 V [x])),.c (.sl 7 (aa []))] (bl S [cB []]):=by
 have Y:=fJ S (cB []) U A;refine mn Tryz.func84 Tryz.call84 fun β hf=>?_;have W:=fj;exact dm
theorem P7 (S:bT) (N:Int) (V:List UInt8) (x:Nd) (U:aM (.mk 10 0 0 [] [] [] [])<=8589934593) (A:S.st.length<=1000000000):iD 84 S [.c (aX (.mk 2 N 56 V [x])),.c (.sl 7 (aa []))] (bl S [.mk 10 0 0 [] [] [] []]):=by
 have Y:=fJ S (.mk 10 0 0 [] [] [] []) U A;refine mn Tryz.func84 Tryz.call84 fun β hf=>?_;exact dm
theorem ML (S:bT) (N:Int) (Y:List UInt8) (k n c:Int) (s:List UInt8) (a b:Vl) (B:List Ty) (H:List Nd) (U:aM (b)<=8589934593) (h1:aM (a)<=8589934593) (A:S.st.length<=1000000000):iD 84 S [.c (aX (.mk 2 N 47 Y [])),.c (.sl 7 (aa [.mk k n c s [a,b] B H]))] (bl S [b,a]):=by
 have T:=XY S (b) (a) U h1 A;obtain⟨D,K,u,Q,W,P,O⟩:=a;obtain⟨M,q,J,G,V,E,I⟩:=b;refine mn Tryz.func84 Tryz.call84 fun β hf=>?_;exact dm
theorem MM (S:bT) (N:Int) (Y:List UInt8) (k n c:Int) (s:List UInt8) (a b:Vl) (B:List Ty) (H:List Nd) (U:aM (a)<=8589934593) (A:S.st.length<=1000000000):iD 84 S [.c (aX (.mk 2 N 48 Y [])),.c (.sl 7 (aa [.mk k n c s [a,b] B H]))] (bl S [a]):=by
 have T:=fJ S (a) U A;obtain⟨D,K,u,Q,W,P,O⟩:=a;obtain⟨M,q,J,G,V,E,I⟩:=b;refine mn Tryz.func84 Tryz.call84 fun β hf=>?_;exact dm
theorem MN (S:bT) (N:Int) (Y:List UInt8) (k n c:Int) (s:List UInt8) (a b:Vl) (B:List Ty) (H:List Nd) (U:aM (b)<=8589934593) (A:S.st.length<=1000000000):iD 84 S [.c (aX (.mk 2 N 49 Y [])),.c (.sl 7 (aa [.mk k n c s [a,b] B H]))] (bl S [b]):=by
 have T:=fJ S (b) U A;obtain⟨D,K,u,Q,W,P,O⟩:=a;obtain⟨M,q,J,G,V,E,I⟩:=b;refine mn Tryz.func84 Tryz.call84 fun β hf=>?_;exact dm
end Go.Proofs
namespace Go.Proofs
open Go.cq
theorem Kf (f:fO) (t:List fO) (j:Nat) (Y:j<4) (v:CV):dK (0+t.length*4+j) [.c v] (ah (fR (f::t)))=some (ah (fR t)++(ah [rH f]).set j (.c v)):=by
 have h:=Ce t;have e:(ah (fR t)).length=t.length*4:=by rw[ah,List.length_map];exact h
 have A:0+t.length*4+j<(ah (fR (f::t))).length:=by rw[lS,aas,e];show _<_+4;omega
 rw[Br A,lS,Nat.zero_add,List.set_append_right _ _ bn,e,Nat.add_sub_cancel_left]
theorem DS (f:fO) (t:List fO) (n:Nat):dK (0+t.length*4+1) [.c (aF (n:Nat))] (ah (fR (f::t)))=some (ah (fR ({f with pos:=n}::t))):=by
 rw[Kf f t 1 cc,lS];rfl
theorem Tn (f:fO) (t:List fO) (l:List Vl):dK (0+t.length*4+3) [.c (.sl 7 (aa l))] (ah (fR (f::t)))=some (ah (fR ({f with aside:=l}::t))):=by
 rw[Kf f t 3 cc,lS];rfl
theorem To (H:List Nd) (fin:Int) (u:List Vl) (t:List fO):dK (0+t.length*4+1) [.c (aF ((aI H).length:Nat))] (ah (fR (⟨H,0,fin,u⟩::t)))=some (ah (fR (⟨H,H.length,fin,u⟩::t))):=by
 rw[br];exact DS _ _ _
attribute [local irreducible] AK ai bh bt dI dS lI aZ iC
theorem EW (S:bT) (N:Int) (Y:List UInt8) (U q1:Int) (D:List UInt8) (q:List Nd) (T A:Int) (Q:List UInt8) (J:List Nd) (k c:Int) (s:List UInt8) (B:List Ty) (H:List Nd) (x:Vl) (O:aM x<=8589934593) (p:S.st.length<=1000000000) (V:S.fr.length<=1099511627776):iD 85 S [.c (aX (.mk 2 N 52 Y [.mk 3 U q1 D q,.mk 3 T A Q J])),.c (.sl 7 (aa [.mk k 0 c s [x] B H]))] (bl (cO S q 0 []) [x]):=by
 have P:=gJ S q 0 V;have M:=fJ (cO S q 0 []) x O p;obtain⟨K,I,u,G,W,E,C⟩:=x;refine mn Tryz.func85 Tryz.call85 fun β hf=>?_;exact dm
theorem EX (S:bT) (N:Int) (Y:List UInt8) (U q1:Int) (D:List UInt8) (q:List Nd) (T A:Int) (Q:List UInt8) (J:List Nd) (k c:Int) (s:List UInt8) (B:List Ty) (H:List Nd) (x:Vl) (O:aM x<=8589934593) (p:S.st.length<=1000000000) (V:S.fr.length<=1099511627776):iD 85 S [.c (aX (.mk 2 N 52 Y [.mk 3 U q1 D q,.mk 3 T A Q J])),.c (.sl 7 (aa [.mk k 1 c s [x] B H]))] (bl (cO S J 0 []) [x]):=by
 have P:=gJ S J 0 V;have M:=fJ (cO S J 0 []) x O p;obtain⟨K,I,u,G,W,E,C⟩:=x;refine mn Tryz.func85 Tryz.call85 fun β hf=>?_;exact dm
theorem EY (S:bT) (N:Int) (Y:List UInt8) (W q1:Int) (D:List UInt8) (q:List Nd) (U A:Int) (T:List UInt8) (J:List Nd) (k c:Int) (s:List UInt8) (B:List Ty) (H:List Nd) (n:Int) (p:S.st.length<=1000000000) (V:S.fr.length<=1099511627776):iD 85 S [.c (aX (.mk 2 N 55 Y [.mk 3 W q1 D q,.mk 3 U A T J])),.c (.sl 7 (aa [.mk k n c s [] B H]))] (bl (cO S q 0 []) []):=by
 have P:=gJ S q 0 V;have Q:=pR (cO S q 0 []) [] (fun _ h=>by simp at h) c9 (by show S.st.length+0<=_;omega);refine mn Tryz.func85 Tryz.call85 fun β hf=>?_;exact dm
theorem EZ (S:bT) (N:Int) (Y:List UInt8) (U q1:Int) (D:List UInt8) (q:List Nd) (T A:Int) (Q:List UInt8) (J:List Nd) (k c:Int) (s:List UInt8) (B:List Ty) (H:List Nd) (n:Int) (x:Vl) (O:aM x<=8589934593) (p:S.st.length<=1000000000) (V:S.fr.length<=1099511627776):iD 85 S [.c (aX (.mk 2 N 55 Y [.mk 3 U q1 D q,.mk 3 T A Q J])),.c (.sl 7 (aa [.mk k n c s [x] B H]))] (bl (cO S J 0 []) [x]):=by
 have P:=gJ S J 0 V;have M:=fJ (cO S J 0 []) x O p;obtain⟨K,I,u,G,W,E,C⟩:=x;refine mn Tryz.func85 Tryz.call85 fun β hf=>?_;exact dm
theorem E0 (S:bT) (N:Int) (Y:List UInt8) (W q1:Int) (D:List UInt8) (q:List Nd) (U A:Int) (T:List UInt8) (J:List Nd) (k c:Int) (s:List UInt8) (B:List Ty) (H:List Nd) (n:Int) (p:S.st.length<=1000000000) (V:S.fr.length<=1099511627776):iD 85 S [.c (aX (.mk 2 N 58 Y [.mk 3 W q1 D q,.mk 3 U A T J])),.c (.sl 7 (aa [.mk k n c s [] B H]))] (((0,cO S J 0 []):MR)):=by
 have P:=gJ S J 0 V;refine mn Tryz.func85 Tryz.call85 fun β hf=>?_;exact dm
theorem E1 (S:bT) (N:Int) (U:List UInt8) (T q1:Int) (D:List UInt8) (q:List Nd) (Q A:Int) (P:List UInt8) (J:List Nd) (k c:Int) (s:List UInt8) (B:List Ty) (H:List Nd) (n:Int) (x:Vl) (xs:List Vl) (O:aM x<=8589934593) (Y:aM (.mk 10 0 0 [] xs [] [])<=8589934593) (p:S.st.length<=1000000000) (V:S.fr.length<=1099511627776):iD 85 S [.c (aX (.mk 2 N 58 U [.mk 3 T q1 D q,.mk 3 Q A P J])),.c (.sl 7 (aa [.mk k n c s (x::xs) B H]))] (bl (cO S q 0 []) [.mk 10 0 0 [] xs [] [],x]):=by
 have M:=gJ S q 0 V;have K:=XY (cO S q 0 []) (.mk 10 0 0 [] xs [] []) x Y O p;have E:((((aa (x::xs)).length:Nat):Int)==0)=false:=by simp only[aa,aac];exact beq_eq_false_iff_ne.2 bn
 obtain⟨I,G,u,C,W,af,aB⟩:=x;refine mn Tryz.func85 Tryz.call85 fun β hf=>?_;exact dm
theorem HI (S:bT) (N:Int) (W:List UInt8) (U q1:Int) (D:List UInt8) (q:List Nd) (k c:Int) (s:List UInt8) (B:List Ty) (H:List Nd) (n:Int) (xs:List Vl) (A:S.st.length<=1000000000) (V:S.fr.length<=1099511627776):iD 85 S [.c (aX (.mk 2 N 60 W [.mk 3 U q1 D q])),.c (.sl 7 (aa [.mk k n c s xs B H]))] (((0,v8 S q 3 xs):MR)):=by
 have P:=uV S q 3 xs V;have O:IntKind.i64.wrap (((S.fr.length+1:Nat):Int)-1)=(S.fr.length:Nat):=by rw[gW bn bn];omega
 have Y:=To q 3 xs S.fr;refine mn Tryz.func85 Tryz.call85 fun β hf=>?_
 repeat' (first|refine nj ?_|(refine zc ?_ ?_<;>intro h<;>first|(cases h;done)|rw[h]|skip)|refine uI rfl (0) rfl (rfl) rfl ?_|refine tc ?_ (hq:=P)|refine ai.jf Tryz.hX kn rfl rfl rfl rfl rfl rfl rfl rfl rfl S.fr.length O (Nat.lt_succ_self _) ?_|refine ai.store Tryz.hX kn rfl rfl rfl rfl rfl rfl rfl rfl rfl Y rfl ?_|(refine uA rfl ?_ ?_<;>(try (show(_:Nat)*_<=_;dsimp only)))|((first|refine zt ?_|refine zu ?_ ?_)<;>intro h<;>(fail_if_success (cases h;done))<;>rw[h]))
 all_goals rfl
theorem Kg (S:bT) (N:Int) (Y:List UInt8) (W q1:Int) (D:List UInt8) (q:List Nd) (U A:Int) (T:List UInt8) (J:List Nd) (k c:Int) (s:List UInt8) (B:List Ty) (H:List Nd) (xs:List Vl) (p:S.st.length<=1000000000) (V:S.fr.length<=1099511627776):iD 85 S [.c (aX (.mk 2 N 64 Y [.mk 3 W q1 D q,.mk 3 U A T J])),.c (.sl 7 (aa [.mk k 0 c s xs B H]))] (((0,cO S J 0 []):MR)):=by
 have P:=gJ S J 0 V;refine mn Tryz.func85 Tryz.call85 fun β hf=>?_
 repeat' (first|refine nj ?_|(refine zc ?_ ?_<;>intro h<;>first|(cases h;done)|rw[h]|skip)|refine uI rfl (0) rfl (rfl) rfl ?_|refine uI rfl 1 rfl rfl rfl ?_|refine tc ?_ (hq:=P)|(refine uA rfl ?_ ?_<;>(try (show(_:Nat)*_<=_;dsimp only)))|((first|refine zt ?_|refine zu ?_ ?_)<;>intro h<;>(fail_if_success (cases h;done))<;>rw[h]))
 all_goals rfl
theorem Kh (S:bT) (N:Int) (Y:List UInt8) (W q1:Int) (D:List UInt8) (q:List Nd) (U A:Int) (T:List UInt8) (J:List Nd) (k c:Int) (s:List UInt8) (B:List Ty) (H:List Nd) (xs:List Vl) (p:S.st.length<=1000000000) (V:S.fr.length<=1099511627776):iD 85 S [.c (aX (.mk 2 N 64 Y [.mk 3 W q1 D q,.mk 3 U A T J])),.c (.sl 7 (aa [.mk k 1 c s xs B H]))] (((0,cO S q 0 []):MR)):=by
 have P:=gJ S q 0 V;refine mn Tryz.func85 Tryz.call85 fun β hf=>?_
 repeat' (first|refine nj ?_|(refine zc ?_ ?_<;>intro h<;>first|(cases h;done)|rw[h]|skip)|refine uI rfl (0) rfl (rfl) rfl ?_|refine uI rfl 0 rfl rfl rfl ?_|refine tc ?_ (hq:=P)|(refine uA rfl ?_ ?_<;>(try (show(_:Nat)*_<=_;dsimp only)))|((first|refine zt ?_|refine zu ?_ ?_)<;>intro h<;>(fail_if_success (cases h;done))<;>rw[h]))
 all_goals rfl
theorem HJ (S:bT) (N:Int) (V:List UInt8) (U q1:Int) (D:List UInt8) (q:List Nd) (x:Vl) (A:S.st.length<=1000000000) (B:S.fr.length<=1099511627776):iD 85 S [.c (aX (.mk 2 N 65 V [.mk 3 U q1 D q])),.c (.sl 7 (aa [x]))] (((0,{v8 S q 4 []with st:=x::S.st}):MR)):=by
 have P:=gJ S q 4 B;have O:IntKind.i64.wrap (((S.fr.length+1:Nat):Int)-1)=(S.fr.length:Nat):=by rw[gW bn bn];omega
 have Y:=To q 4 [] S.fr;obtain⟨T,K,u,Q,W,H,M⟩:=x;have J:=MB T K u Q W H M S.st;refine mn Tryz.func85 Tryz.call85 fun β hf=>?_
 repeat' (first|refine nj ?_|(refine zc ?_ ?_<;>intro h<;>first|(cases h;done)|rw[h]|skip)|refine uI rfl (0) rfl (rfl) rfl ?_|refine tc ?_ (hq:=P)|refine ai.jf Tryz.hX kn rfl rfl rfl rfl rfl rfl rfl rfl rfl S.fr.length O (Nat.lt_succ_self _) ?_|refine ai.store Tryz.hX kn rfl rfl rfl rfl rfl rfl rfl rfl rfl Y rfl ?_|refine ai.mL Tryz.hX kn rfl rfl rfl rfl rfl rfl rfl rfl rfl rfl rfl rfl rfl rfl rfl (sR S.st) [] (List.append_nil _).symm (iS _).symm (td _) rfl rfl rfl rfl rfl rfl rfl (show((sR S.st).length+1)*112<=_ by rw[iS];omega) rfl (m:=S.st.length+1) (by rw[aas,iS];rfl) rfl ?_|refine ai.jf Tryz.hX kn rfl rfl rfl rfl rfl rfl rfl rfl rfl S.st.length rfl (Nat.lt_succ_self _) ?_|refine ai.store Tryz.hX kn rfl rfl rfl rfl rfl rfl rfl rfl rfl (J _ rfl) rfl ?_|(refine uA rfl ?_ ?_<;>(try (show(_:Nat)*_<=_;dsimp only)))|((first|refine zt ?_|refine zu ?_ ?_)<;>intro h<;>(fail_if_success (cases h;done))<;>rw[h]))
 all_goals rfl
theorem Ki (S:bT) (N:Int) (V:List UInt8) (Y q1:Int) (D:List UInt8) (q:List Nd) (x:Vl) (A:S.st.length<=1000000000) (B:S.fr.length<=1099511627776):iD 85 S [.c (aX (.mk 2 N 68 V [.mk 3 Y q1 D q])),.c (.sl 7 (aa [x]))] (((0,cO S q 1 [x]):MR)):=by
 have P:=uV S q 1 [x] B;obtain⟨U,K,u,T,W,H,Q⟩:=x;refine mn Tryz.func85 Tryz.call85 fun β hf=>?_;exact dm
theorem DT (S:bT) (N:Int) (V:List UInt8) (x y:Nd) (W q1:Int) (D:List UInt8) (q:List Nd) (O:b8 x<=8589934593) (J:b8 y<=8589934593) (Y:aM (.mk 14 0 0 [] [] [(aZ x).1,(aZ y).1] q)<=8589934593) (p:S.st.length<=1000000000) (B:S.fr.length<=1099511627776):iD 85 S [.c (aX (.mk 2 N 66 V [x,y,.mk 3 W q1 D q])),.c (.sl 7 (aa []))] (bl S [.mk 14 0 0 [] [] [(aZ x).1,(aZ y).1] q]):=by
 have A:=fJ S (.mk 14 0 0 [] [] [(aZ x).1,(aZ y).1] q) Y p;have U:=ko x O;have Q:=ko y J;clear Y;generalize aZ x=tp at A U ⊢;generalize aZ y=tq at A Q ⊢;obtain⟨⟨T,us⟩,e⟩:=tp;obtain⟨⟨M,P⟩,e2⟩:=tq;obtain⟨K,I,H,G,E⟩:=x;obtain⟨C,u,j3,j4,j5⟩:=y;refine mn Tryz.func85 Tryz.call85 fun β hf=>?_;exact dm
theorem HK (S:bT) (N:Int) (Y:List UInt8) (x:Vl) (k c:Int) (s:List UInt8) (B:List Ty) (H:List Nd) (n:Int) (xs:List Vl) (A:S.st.length<=1000000000) (V:S.fr.length<=1099511627776):iD 85 S [.c (aX (.mk 2 N 67 Y [])),.c (.sl 7 (aa [x,.mk k n c s xs B H]))] (((0,{cO S H 2 S.st.reverse with st:=[x]}):MR)):=by
 have P:=HH S H 2 S.st.reverse V;obtain⟨D,K,u,U,W,T,Q⟩:=x;refine mn Tryz.func85 Tryz.call85 fun β hf=>?_;refine B4 S rfl rfl rfl rfl rfl rfl rfl [] (fun _=>trivial) rfl (env':=[(0,.ptr 1000000 0),(1,.c (aX (.mk 2 N 67 Y []))),(2,.c (.sl 7 (aa [.mk D K u U W T Q,.mk k n c s xs B H])))]) (ts':=[]) ⟨⟨_,rfl,.inl rfl⟩,⟨_,rfl,.inl rfl⟩,⟨_,rfl,.inl rfl⟩,trivial⟩ trivial ?_
 repeat' (first|refine ai.iL Tryz.hX kn rfl rfl rfl rfl rfl rfl rfl rfl rfl rfl rfl rfl rfl rfl ?_|refine nj ?_|(refine zc ?_ ?_<;>intro h<;>first|(cases h;done)|rw[h]|skip)|refine uI rfl (0) rfl (rfl) rfl ?_|refine uI rfl (1) rfl (rfl) rfl ?_|refine XT ?_ (hq:=P)|(refine uA rfl ?_ ?_<;>(try (show(_:Nat)*_<=_;dsimp only)))|((first|refine zt ?_|refine zu ?_ ?_)<;>intro h<;>(fail_if_success (cases h;done))<;>rw[h]))
 all_goals rfl
end Go.Proofs
namespace Go.Proofs
open Go.cq
attribute [local irreducible] AK ai bh
theorem DU {n:Int} (h1:0<=n) (h2:n<=18446744073709551615):IntKind.u64.wrap n=n:=by
 simp[IntKind.wrap,IntKind.bits,IntKind.signed];omega
theorem MO (x:Int) (U:0<=x) (h1:x<=18446744073709551615):IntKind.u64.wrap ((BitVec.ofInt (IntKind.bits .u64) x&&&BitVec.ofInt (IntKind.bits .u64) 4294967295).toNat:Nat)=x%4294967296:=by
 have e:((BitVec.ofInt (IntKind.bits .u64) x&&&BitVec.ofInt (IntKind.bits .u64) 4294967295).toNat)=x.toNat%4294967296:=by
  rw[BitVec.toNat_and,BitVec.toNat_ofInt,BitVec.toNat_ofInt];have C:((4294967295:Int)%((2^IntKind.bits .u64:Nat):Int)).toNat=2^32-1:=by decide
  have K:(x%((2^IntKind.bits .u64:Nat):Int)).toNat=x.toNat:=by
   have:((2^IntKind.bits .u64:Nat):Int)=18446744073709551616:=by decide
   rw[this,Int.emod_eq_of_lt U bn]
  rw[C,K,Nat.and_two_pow_sub_one_eq_mod]
 rw[e,DU bn bn];omega
theorem aaf (U V Y W:Int) (h:0<=W):U+(V+W/4294967296)/4294967296+((V+W/4294967296)%4294967296+Y)/4294967296=(U*18446744073709551616+(V+Y)*4294967296+W)/18446744073709551616:=by omega
theorem Vz (u p Y H:Int):(u*4294967296+p)*(Y*4294967296+H)=(u*Y)*18446744073709551616+(u*H+p*Y)*4294967296+p*H:=by
 simp only[Int.add_mul,Int.mul_add];have C:u*4294967296*(Y*4294967296)=u*Y*18446744073709551616:=by
  rw[<- Int.mul_assoc,Int.mul_right_comm u 4294967296 Y,Int.mul_assoc];rfl
 rw[Int.mul_right_comm u 4294967296 H,C,<- Int.mul_assoc p Y];omega
theorem oD {a b c d:Int} (h1:0<=a) (h2:a<=c) (V:0<=b) (Y:b<=d):0<=a*b/\a*b<=c*d :=
 ⟨Int.mul_nonneg h1 V,Int.mul_le_mul h2 Y V bn⟩
theorem Kj (x y:Int) (q:0<=x/\x<=1152921504606846976) (A:0<=y/\y<=1152921504606846976) :
  ag 138 [.int .u64 x,.int .u64 y] (.gy [.int .u64 (x*y/18446744073709551616),.int .u64 (x*y%18446744073709551616)]):=by
 refine qn Tryz.func138 Tryz.call138 fun β hf=>?_;refine dn ?_;have W:∀n:Int,n.fdiv (2^min 32 (IntKind.bits .u64))=n/4294967296:=fun n=>by
  rw[show(2:Int)^(min 32 (IntKind.bits .u64))=4294967296 from by decide];exact Int.fdiv_eq_ediv_of_nonneg n cc
 have K:∀n:Int,IntKind.u64.wrap n=n%18446744073709551616:=fun n=>by simp[IntKind.wrap,IntKind.bits,IntKind.signed]
 simp only[W,MO x bn bn,MO y bn bn];obtain⟨u,p,J,V,h1,h2,P,S,I⟩:∃u p:Int,x/4294967296=u/\x%4294967296=p/\0<=u/\u<=268435456/\0<=p/\p<=4294967295/\x=u*4294967296+p:=⟨_,_,rfl,rfl,bn,bn,bn,bn,bn⟩
 obtain⟨Y,H,G,U,g1,Q,N,O,E⟩:∃Y H:Int,y/4294967296=Y/\y%4294967296=H/\0<=Y/\Y<=268435456/\0<=H/\H<=4294967295/\y=Y*4294967296+H:=⟨_,_,rfl,rfl,bn,bn,bn,bn,bn⟩
 rw[K (x*y)];rw[J,V,G,U];have e:=Vz u p Y H;rw[<- I,<- E]at e;have D:=oD h1 h2 g1 Q;have C:=oD h1 h2 N O;have B:=oD P S g1 Q;have T:=oD P S N O;have M:=aaf (u*Y) (u*H) (p*Y) (p*H) T.1;rw[<- e]at M;rw[<- M];generalize u*Y=WC at *;generalize u*H=XZ at *;generalize p*Y=p01 at *;generalize p*H=WD at *;rw[DU (n:=WD) bn bn,DU (n:=XZ) bn bn,DU (n:=p01) bn bn,DU (n:=WC) bn bn];rw[DU (n:=XZ+WD/4294967296) bn bn,MO _ bn bn];rw[DU (n:=WC+_) bn bn,DU (n:=(XZ+WD/4294967296)%4294967296+p01) bn bn,DU bn bn]
theorem wG (a:Int):0<=(nq a).1/\(nq a).1<=1152921504606846976:=by
 unfold nq;split
 ·rename_i h;have:=lU.1 h;dsimp only;split<;>omega
 ·simp
theorem WE (a:Int):0<=IntKind.u64.wrap (nq a).1/\IntKind.u64.wrap (nq a).1<=1152921504606846976:=by
 have:=wG a;rw[DU bn bn];exact this
theorem Tq (a:Int):IntKind.u64.wrap (nq a).1=(nq a).1:=by
 have:=wG a;exact DU bn bn
theorem Tr (a:Int):((nq a).2 != 0) = !uh a:=by
 unfold nq;split
 ·rename_i h;simp[h]
 ·rename_i h;simp[h]
theorem Ts (a b:Int) (u:uh a=true) (G:uh b=true):((!(decide (a<0)==decide (b<0)))=false->(nq a).1*(nq b).1=a*b)/\((!(decide (a<0)==decide (b<0)))=true->(nq a).1*(nq b).1 = -(a*b)):=by
 by_cases h1:a<0<;>by_cases h2:b<0<;>simp[nq,u,G,h1,h2,Int.neg_mul_neg,Int.neg_mul,Int.mul_neg]
theorem Gg (a b:Int):ag 117 [.int .i64 a,.int .i64 b] (two (q8 a b)):=by
 refine qn Tryz.func117 Tryz.call117 fun β hf=>?_
 repeat' (first|refine sz ?_|(refine zc ?_ ?_<;>intro h<;>first|(cases h;done)|rw[h]|skip)|refine uC rfl (Ac a) ?_|refine uC rfl (Ac b) ?_|refine uC rfl (Kj _ _ (WE _) (WE _)) ?_|((first|refine zt ?_|refine zu ?_ ?_)<;>intro h<;>(fail_if_success (cases h;done))<;>rw[h]))
 all_goals simp only[Tr,Tq]at *
 ·simp_all [q8,two]
 ·simp_all [q8,two]
 all_goals
  obtain⟨h1,h2⟩:uh a=true/\uh b=true:=by simp_all
  obtain⟨P,I⟩:=Ts a b h1 h2;have W:=oD (wG a).1 (wG a).2 (wG b).1 (wG b).2;rw[show q8 a b=lH (a*b)from by simp[q8,h1,h2]];generalize (nq a).1*(nq b).1=q at *;generalize a*b=r at *
 ·have V:q/18446744073709551616≠0:=by simp_all
  have Y:¬(uh r=true):=by rw[lU];cases G:(!(decide (a<0)==decide (b<0)))<;>simp only[G,true_implies,reduceCtorEq,false_implies]at P I<;>omega
  simp[lH,Y,two]
 ·have V:q/18446744073709551616=0:=by simp_all
  have p:q%18446744073709551616>1152921504606846976:=by simp_all
  have Y:¬(uh r=true):=by rw[lU];cases G:(!(decide (a<0)==decide (b<0)))<;>simp only[G,true_implies,reduceCtorEq,false_implies]at P I<;>omega
  simp[lH,Y,two]
 ·have V:q/18446744073709551616=0:=by simp_all
  have p:q%18446744073709551616<=1152921504606846976:=by simp_all
  have B:=I (by assumption);have Y:uh r=true:=lU.2 bn;rw[gW (n:=q%18446744073709551616) bn bn,gW bn bn];simp only[lH,Y,two,if_true];exact Sj bn rfl
 ·have V:q/18446744073709551616=0:=by simp_all
  have p:q%18446744073709551616<=1152921504606846976:=by simp_all
  have B:=P (by assumption);have Y:uh r=true:=lU.2 bn;rw[gW (n:=q%18446744073709551616) bn bn];simp only[lH,Y,two,if_true];exact Sj bn rfl
end Go.Proofs
namespace Go.Proofs
open Go.cq
theorem ff (k n:Int):aM (aO k n)=1:=rfl
theorem eG (l:List Vl):aM (cB l)=aJ l+1:=by simp only[cB,aM,aY,aU,aad];omega
theorem dP (a b:Vl):aM (bz a b)=aM a+aM b+1:=by simp only[bz,aM,aJ,aY,aU,aad];omega
attribute [local irreducible] AK ai bh bt dI dS lI s8 jP q8 gD nq ofM
theorem MP (S:bT) (k:Int) (D K u:Int) (U:List UInt8) (W:List Vl) (H:List Ty) (Q:List Nd) (T Y B:Int) (G:List UInt8) (V:List Vl) (E:List Ty) (P:List Nd) (q r e:Int) (O:e≠0) (C:gD K Y=(q,r,e)) (A:S.st.length<=1000000000):iD 119 S [.c (aF k),.c (bM (.mk D K u U W H Q)),.c (bM (.mk T Y B G V E P))] (bl S [cB []]):=by
 have hq:=s9 K Y;rw[C]at hq;have N:(e != 0)=true:=by simpa using O
 have M:=fJ S (cB []) gC A;refine mn Tryz.func119 Tryz.call119 fun β hf=>?_;have J:=fj;exact dm
theorem P8 (S:bT) (k:Int) (U K u:Int) (T:List UInt8) (W:List Vl) (H:List Ty) (Q:List Nd) (D Y B:Int) (G:List UInt8) (V:List Vl) (E:List Ty) (P:List Nd) (q r:Int) (O:k=5) (N:D=5) (C:gD K Y=(q,r,0)) (A:S.st.length<=1000000000):iD 119 S [.c (aF k),.c (bM (.mk U K u T W H Q)),.c (bM (.mk D Y B G V E P))] (bl S [cB [bz (aO (4) q) (aO 5 r)]]):=by
 have hq:=s9 K Y;rw[C]at hq;have M:(k==5)=true:=by simpa using O
 have J:(D==5)=true:=by simpa using N
 have h1:=cH (4) q;have h2:=cH 5 r;have I:=iw (aO (4) q) (aO 5 r);have p:=fL [bz (aO (4) q) (aO 5 r)];have hp:=fJ S (cB [bz (aO (4) q) (aO 5 r)]) gC A;refine mn Tryz.func119 Tryz.call119 fun β hf=>?_;exact dm
theorem Tt (S:bT) (k:Int) (U K u:Int) (T:List UInt8) (W:List Vl) (H:List Ty) (Q:List Nd) (D Y B:Int) (G:List UInt8) (V:List Vl) (E:List Ty) (P:List Nd) (q r:Int) (O:k=5) (N:D≠5) (C:gD K Y=(q,r,0)) (A:S.st.length<=1000000000):iD 119 S [.c (aF k),.c (bM (.mk U K u T W H Q)),.c (bM (.mk D Y B G V E P))] (bl S [cB [bz (aO (k) q) (aO 5 r)]]):=by
 have hq:=s9 K Y;rw[C]at hq;have M:(k==5)=true:=by simpa using O
 have J:(D==5)=false:=by simpa using N
 have h1:=cH (k) q;have h2:=cH 5 r;have I:=iw (aO (k) q) (aO 5 r);have p:=fL [bz (aO (k) q) (aO 5 r)];have hp:=fJ S (cB [bz (aO (k) q) (aO 5 r)]) gC A;refine mn Tryz.func119 Tryz.call119 fun β hf=>?_;exact dm
theorem zq (S:bT) (k:Int) (D K u:Int) (U:List UInt8) (W:List Vl) (H:List Ty) (Q:List Nd) (T Y B:Int) (G:List UInt8) (V:List Vl) (E:List Ty) (P:List Nd) (q r:Int) (O:k≠5) (C:gD K Y=(q,r,0)) (A:S.st.length<=1000000000):iD 119 S [.c (aF k),.c (bM (.mk D K u U W H Q)),.c (bM (.mk T Y B G V E P))] (bl S [cB [bz (aO (k) q) (aO 4 r)]]):=by
 have hq:=s9 K Y;rw[C]at hq;have N:(k==5)=false:=by simpa using O
 have h1:=cH (k) q;have h2:=cH 4 r;have M:=iw (aO (k) q) (aO 4 r);have J:=fL [bz (aO (k) q) (aO 4 r)];have I:=fJ S (cB [bz (aO (k) q) (aO 4 r)]) gC A;refine mn Tryz.func119 Tryz.call119 fun β hf=>?_;exact dm
theorem MQ (S:bT) (D K u:Int) (Y:List UInt8) (W:List Vl) (H:List Ty) (Q:List Nd) (A:S.st.length<=1000000000):iD 87 S [.c (aF 93),.c (.sl 7 (aa [.mk D K u Y W H Q]))] (bl S [aO 4 (nq K).1]):=by
 have hq:=Ac K;have V:=fJ S (aO 4 (nq K).1) gC A;generalize nq K=r at hq V ⊢;obtain⟨r,e⟩:=r;have h1:=cH 4 r;refine mn Tryz.func87 Tryz.call87 fun β hf=>?_;exact dm
theorem Kk (S:bT) (D K u:Int) (Y:List UInt8) (W:List Vl) (H:List Ty) (Q:List Nd) (V:K<0) (A:S.st.length<=1000000000):iD 87 S [.c (aF 94),.c (.sl 7 (aa [.mk D K u Y W H Q]))] (bl S [cB []]):=by
 have E:decide (K<0)=true:=aam V;have U:=fJ S (cB []) gC A;refine mn Tryz.func87 Tryz.call87 fun β hf=>?_;have T:=fj;exact dm
theorem Kl (S:bT) (D K u:Int) (Y:List UInt8) (W:List Vl) (H:List Ty) (Q:List Nd) (V:¬K<0) (A:S.st.length<=1000000000):iD 87 S [.c (aF 94),.c (.sl 7 (aa [.mk D K u Y W H Q]))] (bl S [cB [aO 4 K]]):=by
 have E:decide (K<0)=false:=aan V;have h1:=cH 4 K;have h2:=fL [aO 4 K];have U:=fJ S (cB [aO 4 K]) gC A;refine mn Tryz.func87 Tryz.call87 fun β hf=>?_;exact dm
theorem MS (S:bT) (D K u:Int) (Y:List UInt8) (W:List Vl) (H:List Ty) (Q:List Nd) (A:S.st.length<=1000000000):iD 87 S [.c (aF 95),.c (.sl 7 (aa [.mk D K u Y W H Q]))] (bl S [aO 3 K]):=by
 have h1:=cH 3 K;have V:=fJ S (aO 3 K) gC A;refine mn Tryz.func87 Tryz.call87 fun β hf=>?_;exact dm
theorem E2 (S:bT) (D K u:Int) (U:List UInt8) (W:List Vl) (H:List Ty) (Q:List Nd) (Y q B:Int) (G:List UInt8) (V:List Vl) (E:List Ty) (T:List Nd) (r:Int) (C:s8 K q=(r,0)) (A:S.st.length<=1000000000):iD 87 S [.c (aF 69),.c (.sl 7 (aa [.mk D K u U W H Q,.mk Y q B G V E T]))] (bl S [aO (ofM 69 D Y) r]):=by
 have hq:=FF K q;rw[C]at hq;have p:=mK 69 D Y;have h1:=cH (ofM 69 D Y) r;have P:=fJ S (aO (ofM 69 D Y) r) gC A;refine mn Tryz.func87 Tryz.call87 fun β hf=>?_;exact dm
theorem DV (S:bT) (D K u:Int) (U:List UInt8) (W:List Vl) (H:List Ty) (Q:List Nd) (Y q B:Int) (G:List UInt8) (V:List Vl) (E:List Ty) (T:List Nd) (r e:Int) (P:e≠0) (C:s8 K q=(r,e)) (A:S.st.length<=1000000000):iD 87 S [.c (aF 69),.c (.sl 7 (aa [.mk D K u U W H Q,.mk Y q B G V E T]))] (((e,S):MR)):=by
 have hq:=FF K q;rw[C]at hq;have p:=mK 69 D Y;have O:(e != 0)=true:=by simpa using P
 refine mn Tryz.func87 Tryz.call87 fun β hf=>?_;exact dm
theorem E3 (S:bT) (D K u:Int) (U:List UInt8) (W:List Vl) (H:List Ty) (Q:List Nd) (Y q B:Int) (G:List UInt8) (V:List Vl) (E:List Ty) (T:List Nd) (r:Int) (C:q8 K q=(r,0)) (A:S.st.length<=1000000000):iD 87 S [.c (aF 71),.c (.sl 7 (aa [.mk D K u U W H Q,.mk Y q B G V E T]))] (bl S [aO (ofM 71 D Y) r]):=by
 have hq:=Gg K q;rw[C]at hq;have p:=mK 71 D Y;have h1:=cH (ofM 71 D Y) r;have P:=fJ S (aO (ofM 71 D Y) r) gC A;refine mn Tryz.func87 Tryz.call87 fun β hf=>?_;exact dm
theorem DW (S:bT) (D K u:Int) (U:List UInt8) (W:List Vl) (H:List Ty) (Q:List Nd) (Y q B:Int) (G:List UInt8) (V:List Vl) (E:List Ty) (T:List Nd) (r e:Int) (P:e≠0) (C:q8 K q=(r,e)) (A:S.st.length<=1000000000):iD 87 S [.c (aF 71),.c (.sl 7 (aa [.mk D K u U W H Q,.mk Y q B G V E T]))] (((e,S):MR)):=by
 have hq:=Gg K q;rw[C]at hq;have p:=mK 71 D Y;have O:(e != 0)=true:=by simpa using P
 refine mn Tryz.func87 Tryz.call87 fun β hf=>?_;exact dm
theorem DX (S:bT) (D K u:Int) (U:List UInt8) (W:List Vl) (H:List Ty) (Q:List Nd) (Y q B:Int) (G:List UInt8) (V:List Vl) (E:List Ty) (T:List Nd) (r e:Int) (P:e≠0) (C:jP K q=(r,e)) (A:S.st.length<=1000000000):iD 87 S [.c (aF 70),.c (.sl 7 (aa [.mk D K u U W H Q,.mk Y q B G V E T]))] (((e,S):MR)):=by
 have hq:=vZ K q;rw[C]at hq;have p:=mK 70 D Y;have N:(e != 0)=true:=by simpa using P
 have O:(e==0)=false:=by simpa using P
 have J:(bif (ofM 70 D Y==5)then(e==0)else false)=false:=by rw[O];cases(ofM 70 D Y==5)<;>rfl
 refine mn Tryz.func87 Tryz.call87 fun β hf=>?_;exact dm
theorem DY (S:bT) (D K u:Int) (U:List UInt8) (W:List Vl) (H:List Ty) (Q:List Nd) (Y q B:Int) (G:List UInt8) (V:List Vl) (E:List Ty) (T:List Nd) (r:Int) (P:ofM 70 D Y=5) (I:r<0) (C:jP K q=(r,0)) (A:S.st.length<=1000000000):iD 87 S [.c (aF 70),.c (.sl 7 (aa [.mk D K u U W H Q,.mk Y q B G V E T]))] (bl S [cB []]):=by
 have hq:=vZ K q;rw[C]at hq;have p:=mK 70 D Y;have O:(ofM 70 D Y==5)=true:=by simpa using P
 have J:decide (r<0)=true:=aam I;have N:=fJ S (cB []) gC A;refine mn Tryz.func87 Tryz.call87 fun β hf=>?_;have M:=fj;exact dm
theorem DZ (S:bT) (D K u:Int) (U:List UInt8) (W:List Vl) (H:List Ty) (Q:List Nd) (Y q B:Int) (G:List UInt8) (V:List Vl) (E:List Ty) (T:List Nd) (r:Int) (P:ofM 70 D Y=5) (I:¬r<0) (C:jP K q=(r,0)) (A:S.st.length<=1000000000):iD 87 S [.c (aF 70),.c (.sl 7 (aa [.mk D K u U W H Q,.mk Y q B G V E T]))] (bl S [cB [aO (ofM 70 D Y) r]]):=by
 have hq:=vZ K q;rw[C]at hq;have p:=mK 70 D Y;have O:(ofM 70 D Y==5)=true:=by simpa using P
 have J:decide (r<0)=false:=aan I;have h1:=cH (ofM 70 D Y) r;have h2:=fL [aO (ofM 70 D Y) r];have N:=fJ S (cB [aO (ofM 70 D Y) r]) gC A;refine mn Tryz.func87 Tryz.call87 fun β hf=>?_;exact dm
theorem D0 (S:bT) (D K u:Int) (U:List UInt8) (W:List Vl) (H:List Ty) (Q:List Nd) (Y q B:Int) (G:List UInt8) (V:List Vl) (E:List Ty) (T:List Nd) (r:Int) (P:ofM 70 D Y≠5) (C:jP K q=(r,0)) (A:S.st.length<=1000000000):iD 87 S [.c (aF 70),.c (.sl 7 (aa [.mk D K u U W H Q,.mk Y q B G V E T]))] (bl S [aO (ofM 70 D Y) r]):=by
 have hq:=vZ K q;rw[C]at hq;have p:=mK 70 D Y;have O:(ofM 70 D Y==5)=false:=by simpa using P
 have h1:=cH (ofM 70 D Y) r;have N:=fJ S (aO (ofM 70 D Y) r) gC A;refine mn Tryz.func87 Tryz.call87 fun β hf=>?_;exact dm
theorem l8 (S:bT) (D K u:Int) (U:List UInt8) (W:List Vl) (H:List Ty) (Q:List Nd) (Y q B:Int) (G:List UInt8) (V:List Vl) (E:List Ty) (T:List Nd) (r:MR) (p:cC 119 S [.c (aF (ofM 72 D Y)),.c (bM (.mk D K u U W H Q)),.c (bM (.mk Y q B G V E T))] (aF r.1) r.2):cC 87 S [.c (aF 72),.c (.sl 7 (aa [.mk D K u U W H Q,.mk Y q B G V E T]))] (aF r.1) r.2:=by
 have P:=mK 72 D Y;refine mn Tryz.func87 Tryz.call87 fun β hf=>?_;exact dm
end Go.Proofs
