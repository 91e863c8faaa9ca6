/- What data of package run's machine does. What world of package run's machine does. What value.Search answers in a map that is in order. -/
import Derived.Test.YtlohbilpimjmmaaGreatDoorRunA
set_option maxHeartbeats 0
set_option linter.unusedVariables false
set_option linter.unusedSimpArgs false
set_option maxRecDepth 100000
namespace Go.Proofs
open Go.cu
theorem hD (b:Bool):aM (iw b)=1:=rfl
theorem iE (k n a:Int) (s:List UInt8):aM (.mk k n a s [] [] [])=s.length+1:=by simp only[aM,aL,br,aQ]
attribute [local irreducible] AK ai bw bz dJ dN nA dA tJ gC aZ
theorem zk (v w:Vl) (t:Ty) (p:gq t=false) (h1:bL v t=true) (h2:bL w t=true) (Y:aM v<=1099511627776):ah 120 [bP v,bP w] (aF (dA v w)):=by
 have hq:=nV v w t p h1 h2 Y;obtain⟨V,K,u,q,W,O,H⟩:=v;obtain⟨D,G,C,E,N,S,A⟩:=w;refine qn Tryz.func120 Tryz.call120 fun β hf=>?_;exact dq
theorem Tr (S:bT) (J:Int) (P:List UInt8) (Y K u:Int) (q:List UInt8) (W:List Vl) (O:List Ty) (H:List Nd) (D G C:Int) (E:List UInt8) (N:List Vl) (V:List Ty) (A:List Nd) (hq:ah 120 [bP (.mk Y K u q W O H),bP (.mk D G C E N V A)] (aF (dA (.mk Y K u q W O H) (.mk D G C E N V A)))) (I:S.st.length<=1000000000):iC 88 S [.c (aW (.mk 2 J 73 P [])),.c (.sl 7 (aa [.mk Y K u q W O H,.mk D G C E N V A]))] (bg S [aO 3 (dA (.mk Y K u q W O H) (.mk D G C E N V A))]):=by
 generalize dA (.mk Y K u q W O H) (.mk D G C E N V A)=r at hq ⊢;have h1:=cJ 3 r;have T:=fM S (aO 3 r) ek I;refine mn Tryz.func88 Tryz.call88 fun β hf=>?_;exact dm
theorem Vq (S:bT) (N:Int) (G:List UInt8) (Y K u:Int) (q:List UInt8) (W:List Vl) (O:List Ty) (H:List Nd) (C:S.st.length<=1000000000):iC 88 S [.c (aW (.mk 2 N 74 G [])),.c (.sl 7 (aa [.mk Y K u q W O H]))] (bg S [iw (K==0)]):=by
 have h1:=js (K==0);have T:=fM S (iw (K==0)) ek C;refine mn Tryz.func88 Tryz.call88 fun β hf=>?_;exact dm
theorem Vr (S:bT) (N:Int) (G:List UInt8) (Y K u:Int) (q:List UInt8) (W:List Vl) (O:List Ty) (H:List Nd) (C:S.st.length<=1000000000):iC 88 S [.c (aW (.mk 2 N 75 G [])),.c (.sl 7 (aa [.mk Y K u q W O H]))] (bg S [iw (decide (K<0))]):=by
 have h1:=js (decide (K<0));have T:=fM S (iw (decide (K<0))) ek C;refine mn Tryz.func88 Tryz.call88 fun β hf=>?_;exact dm
theorem Vs (S:bT) (N:Int) (G:List UInt8) (Y K u:Int) (q:List UInt8) (W:List Vl) (O:List Ty) (H:List Nd) (C:S.st.length<=1000000000):iC 88 S [.c (aW (.mk 2 N 76 G [])),.c (.sl 7 (aa [.mk Y K u q W O H]))] (bg S [iw (decide (K>0))]):=by
 have h1:=js (decide (K>0));have T:=fM S (iw (decide (K>0))) ek C;refine mn Tryz.func88 Tryz.call88 fun β hf=>?_;exact dm
theorem Vt (S:bT) (N:Int) (G:List UInt8) (Y K u:Int) (q:List UInt8) (W:List Vl) (O:List Ty) (H:List Nd) (C:S.st.length<=1000000000):iC 88 S [.c (aW (.mk 2 N 77 G [])),.c (.sl 7 (aa [.mk Y K u q W O H]))] (bg S [iw (K==0)]):=by
 have h1:=js (K==0);have T:=fM S (iw (K==0)) ek C;refine mn Tryz.func88 Tryz.call88 fun β hf=>?_;exact dm
theorem Ts (S:bT) (J:Int) (P:List UInt8) (Y K u:Int) (q:List UInt8) (W:List Vl) (O:List Ty) (H:List Nd) (D G C:Int) (E:List UInt8) (N:List Vl) (V:List Ty) (A:List Nd) (h:K=1) (I:S.st.length<=1000000000):iC 88 S [.c (aW (.mk 2 J 78 P [])),.c (.sl 7 (aa [.mk Y K u q W O H,.mk D G C E N V A]))] (bg S [iw (G==1)]):=by
 have U:(K==1)=true:=by simpa using h
 clear h;have h1:=js (G==1);have T:=fM S (iw (G==1)) ek I;refine mn Tryz.func88 Tryz.call88 fun β hf=>?_;exact dm
theorem Tt (S:bT) (J:Int) (G:List UInt8) (Y K u:Int) (q:List UInt8) (W:List Vl) (O:List Ty) (H:List Nd) (D V C:Int) (E:List UInt8) (N:List Vl) (U:List Ty) (A:List Nd) (h:K≠1) (I:S.st.length<=1000000000):iC 88 S [.c (aW (.mk 2 J 78 G [])),.c (.sl 7 (aa [.mk Y K u q W O H,.mk D V C E N U A]))] (bg S [iw false]):=by
 have T:(K==1)=false:=by simpa using h
 clear h;have h1:=js false;have Q:=fM S (iw false) ek I;refine mn Tryz.func88 Tryz.call88 fun β hf=>?_;exact dm
theorem Tu (S:bT) (J:Int) (G:List UInt8) (Y K u:Int) (q:List UInt8) (W:List Vl) (O:List Ty) (H:List Nd) (D V C:Int) (E:List UInt8) (N:List Vl) (U:List Ty) (A:List Nd) (h:K=1) (I:S.st.length<=1000000000):iC 88 S [.c (aW (.mk 2 J 79 G [])),.c (.sl 7 (aa [.mk Y K u q W O H,.mk D V C E N U A]))] (bg S [iw true]):=by
 have T:(K==1)=true:=by simpa using h
 clear h;have h1:=js true;have Q:=fM S (iw true) ek I;refine mn Tryz.func88 Tryz.call88 fun β hf=>?_;exact dm
theorem Tv (S:bT) (J:Int) (P:List UInt8) (Y K u:Int) (q:List UInt8) (W:List Vl) (O:List Ty) (H:List Nd) (D G C:Int) (E:List UInt8) (N:List Vl) (V:List Ty) (A:List Nd) (h:K≠1) (I:S.st.length<=1000000000):iC 88 S [.c (aW (.mk 2 J 79 P [])),.c (.sl 7 (aa [.mk Y K u q W O H,.mk D G C E N V A]))] (bg S [iw (G==1)]):=by
 have U:(K==1)=false:=by simpa using h
 clear h;have h1:=js (G==1);have T:=fM S (iw (G==1)) ek I;refine mn Tryz.func88 Tryz.call88 fun β hf=>?_;exact dm
theorem Qo (S:bT) (J:Int) (G:List UInt8) (Y K u:Int) (q:List UInt8) (W:List Vl) (O:List Ty) (H:List Nd) (D V C:Int) (E:List UInt8) (N:List Vl) (U:List Ty) (A:List Nd) (h:200<q.length+E.length) (p:q.length+E.length<=1000000000) (I:S.st.length<=1000000000):iC 88 S [.c (aW (.mk 2 J 80 G [])),.c (.sl 7 (aa [.mk Y K u q W O H,.mk D V C E N U A]))] (((13,S):MR)):=by
 have Q:IntKind.i64.wrap (((q.length:Nat):Int)+(E.length:Nat))=((q.length:Nat):Int)+(E.length:Nat):=gZ bn bn;have T:decide (IntKind.i64.wrap (((q.length:Nat):Int)+(E.length:Nat))>200)=true:=by rw[Q];exact aan bn
 clear h;refine mn Tryz.func88 Tryz.call88 fun β hf=>?_;exact dm
theorem Qp (S:bT) (J:Int) (G:List UInt8) (Y K u:Int) (q:List UInt8) (W:List Vl) (O:List Ty) (H:List Nd) (D V C:Int) (E:List UInt8) (N:List Vl) (U:List Ty) (A:List Nd) (h:¬200<q.length+E.length) (I:S.st.length<=1000000000):iC 88 S [.c (aW (.mk 2 J 80 G [])),.c (.sl 7 (aa [.mk Y K u q W O H,.mk D V C E N U A]))] (bg S [.mk 6 0 0 (q++E) [] [] []]):=by
 have Q:IntKind.i64.wrap (((q.length:Nat):Int)+(E.length:Nat))=((q.length:Nat):Int)+(E.length:Nat):=gZ bn bn;have P:decide (IntKind.i64.wrap (((q.length:Nat):Int)+(E.length:Nat))>200)=false:=by rw[Q];exact aaw bn
 have T:=fM S (.mk 6 0 0 (q++E) [] [] []) (by simp only[iE,aax];omega) I;have p:q.length+E.length<=9223372036854775807:=by omega
 clear h;refine mn Tryz.func88 Tryz.call88 fun β hf=>?_
 repeat' (first|refine mY ?_|(refine zc ?_ ?_<;>intro h<;>first|(cases h;done)|rw[h]|skip)|refine uI rfl (0) rfl (rfl) rfl ?_|refine uI rfl (1) rfl (rfl) rfl ?_|refine uI rfl (2) rfl (rfl) rfl ?_|refine ai.concat Tryz.hX kn rfl rfl rfl rfl rfl p ?_|refine sY ?_ (hq:=T)|((first|refine zt ?_|refine zu ?_ ?_)<;>intro h<;>(fail_if_success (cases h;done))<;>rw[h]))
 all_goals rfl
theorem Nn (S:bT) (N:Int) (G:List UInt8) (Y K u:Int) (q:List UInt8) (W:List Vl) (O:List Ty) (H:List Nd) (s:List UInt8) (e:Int) (hq:ah 122 [bP (.mk Y K u q W O H)] (.gB [.str s,aF e])) (h:e≠0) (C:S.st.length<=1000000000):iC 88 S [.c (aW (.mk 2 N 81 G [])),.c (.sl 7 (aa [.mk Y K u q W O H]))] (((13,S):MR)):=by
 have E:(e != 0)=true:=by simpa using h
 clear h;refine mn Tryz.func88 Tryz.call88 fun β hf=>?_;exact dm
theorem No (S:bT) (N:Int) (G:List UInt8) (Y K u:Int) (q:List UInt8) (W:List Vl) (O:List Ty) (H:List Nd) (s:List UInt8) (hq:ah 122 [bP (.mk Y K u q W O H)] (.gB [.str s,aF 0])) (V:s.length<=1000000000) (C:S.st.length<=1000000000):iC 88 S [.c (aW (.mk 2 N 81 G [])),.c (.sl 7 (aa [.mk Y K u q W O H]))] (bg S [.mk 6 0 0 s [] [] []]):=by
 have T:=fM S (.mk 6 0 0 s [] [] []) (by simp only[iE];omega) C;clear V;refine mn Tryz.func88 Tryz.call88 fun β hf=>?_;exact dm
theorem Tw (S:bT) (N:Int) (G:List UInt8) (V K u:Int) (q:List UInt8) (W:List Vl) (U:List Ty) (H:List Nd) (x:Nd) (O:bN x<=8589934593) (v:Vl) (e:Int) (Y:gC (aZ x).1 q=(v,e)) (h:e≠0) (C:S.st.length<=1000000000):iC 88 S [.c (aW (.mk 2 N 82 G [x])),.c (.sl 7 (aa [.mk V K u q W U H]))] (bg S [cx []]):=by
 have E:(e != 0)=true:=by simpa using h
 clear h;have A:=fM S (cx []) ek C;have hq:=ki x O;have I:=yz (aZ x).1 q (DO x O);rw[Y]at I;clear Y;generalize aZ x=tp at hq I;obtain⟨⟨T,us⟩,e0⟩:=tp;obtain⟨Q,P,M,J,D⟩:=x;obtain⟨B,p,a3,s3,fz,cM,dg⟩:=v;refine mn Tryz.func88 Tryz.call88 fun β hf=>?_;have tW:=fq;exact dm
theorem Tx (S:bT) (N:Int) (G:List UInt8) (V K u:Int) (q:List UInt8) (W:List Vl) (U:List Ty) (H:List Nd) (x:Nd) (O:bN x<=8589934593) (v:Vl) (Y:gC (aZ x).1 q=(v,0)) (Q:aM v<=8589934000) (C:S.st.length<=1000000000):iC 88 S [.c (aW (.mk 2 N 82 G [x])),.c (.sl 7 (aa [.mk V K u q W U H]))] (bg S [cx [v]]):=by
 have A:=fM S (cx [v]) (by simp only[eH,aL];omega) C;clear Q;have h2:=fO [v];have hq:=ki x O;have I:=yz (aZ x).1 q (DO x O);rw[Y]at I;clear Y;generalize aZ x=tp at hq I;obtain⟨⟨T,us⟩,e0⟩:=tp;obtain⟨P,M,J,E,D⟩:=x;obtain⟨B,p,a3,s3,fz,cM,dg⟩:=v;refine mn Tryz.func88 Tryz.call88 fun β hf=>?_;exact dm
theorem Qq (S:bT) (N:Int) (G:List UInt8) (Y K u:Int) (q:List UInt8) (W:List Vl) (O:List Ty) (H:List Nd) (C:S.st.length<=1000000000):iC 88 S [.c (aW (.mk 2 N 83 G [])),.c (.sl 7 (aa [.mk Y K u q W O H]))] (((10,{S with said := .mk Y K u q W O H}):MR)):=by
 refine mn Tryz.func88 Tryz.call88 fun β hf=>?_;exact dm
end Go.Proofs
namespace Go.Proofs
open Go.cu
attribute [local irreducible] AK ai bw bz dJ dN nA dA aZ
theorem MI (S:bT) (N:Int) (G:List UInt8) (C:S.st.length<=1000000000):iC 89 S [.c (aW (.mk 2 N 89 G [])),.c (.sl 7 (aa []))] (bg S [aO 7 S.self]):=by
 have h1:=cJ 7 S.self;have T:=fM S (aO 7 S.self) ek C;refine mn Tryz.func89 Tryz.call89 fun β hf=>?_;exact dm
theorem HC (S:bT) (N:Int) (G:List UInt8) (C:S.st.length<=1000000000):iC 89 S [.c (aW (.mk 2 N 90 G [])),.c (.sl 7 (aa []))] (bg S [aO 7 S.gU]):=by
 have h1:=cJ 7 S.gU;have T:=fM S (aO 7 S.gU) ek C;refine mn Tryz.func89 Tryz.call89 fun β hf=>?_;exact dm
theorem HE (S:bT) (N:Int) (G:List UInt8) (C:S.st.length<=1000000000):iC 89 S [.c (aW (.mk 2 N 91 G [])),.c (.sl 7 (aa []))] (bg S [aO 5 S.gV]):=by
 have h1:=cJ 5 S.gV;have T:=fM S (aO 5 S.gV) ek C;refine mn Tryz.func89 Tryz.call89 fun β hf=>?_;exact dm
theorem EX (S:bT) (N:Int) (G:List UInt8) (C:S.st.length<=1000000000):iC 89 S [.c (aW (.mk 2 N 92 G [])),.c (.sl 7 (aa []))] (bg S [aO 5 S.balance]):=by
 have h1:=cJ 5 S.balance;have T:=fM S (aO 5 S.balance) ek C;refine mn Tryz.func89 Tryz.call89 fun β hf=>?_;exact dm
theorem J9 (S:bT) (J:Int) (P:List UInt8) (Y K u:Int) (q:List UInt8) (W:List Vl) (O:List Ty) (H:List Nd) (D G C:Int) (E:List UInt8) (N:List Vl) (V:List Ty) (A:List Nd) (h:G=0) (I:S.st.length<=1000000000):iC 89 S [.c (aW (.mk 2 J 84 P [])),.c (.sl 7 (aa [.mk Y K u q W O H,.mk D G C E N V A]))] (bg S [cx []]):=by
 have U:(G==0)=true:=by simpa using h
 clear h;have T:=fM S (cx []) ek I;refine mn Tryz.func89 Tryz.call89 fun β hf=>?_;have Q:=fq;exact dm
theorem Ka (S:bT) (J:Int) (P:List UInt8) (Y K u:Int) (q:List UInt8) (W:List Vl) (O:List Ty) (H:List Nd) (D G C:Int) (E:List UInt8) (N:List Vl) (V:List Ty) (A:List Nd) (B:G≠0) (T:0<=G/\G<=1152921504606846976) (h:S.aU>1152921504606846976-G) (I:S.st.length<=1000000000):iC 89 S [.c (aW (.mk 2 J 84 P [])),.c (.sl 7 (aa [.mk Y K u q W O H,.mk D G C E N V A]))] (((11,S):MR)):=by
 have U:(G==0)=false:=by simpa using B
 have Q:IntKind.i64.wrap (1152921504606846976-G)=1152921504606846976-G:=gZ bn bn;have M:decide (S.aU>IntKind.i64.wrap (1152921504606846976-G))=true:=by rw[Q];exact aan h
 clear h B;refine mn Tryz.func89 Tryz.call89 fun β hf=>?_;exact dm
theorem Kb (S:bT) (J:Int) (P:List UInt8) (Y K u:Int) (q:List UInt8) (W:List Vl) (O:List Ty) (H:List Nd) (D G C:Int) (E:List UInt8) (N:List Vl) (U:List Ty) (A:List Nd) (B:G≠0) (hn:0<=G/\G<=1152921504606846976) (h:¬S.aU>1152921504606846976-G) (hm:0<=S.aU) (T:aM (.mk Y K u q W O H)<=8589934000) (I:S.st.length<=1000000000):iC 89 S [.c (aW (.mk 2 J 84 P [])),.c (.sl 7 (aa [.mk Y K u q W O H,.mk D G C E N U A]))] (bg {S with aU:=S.aU+G} [cx [.mk 15 G S.self [] [.mk Y K u q W O H] [] []]]):=by
 have Q:(G==0)=false:=by simpa using B
 have M:IntKind.i64.wrap (1152921504606846976-G)=1152921504606846976-G:=gZ bn bn;have V:IntKind.i64.wrap (S.aU+G)=S.aU+G:=gZ bn bn;have hc:decide (S.aU>IntKind.i64.wrap (1152921504606846976-G))=false:=by rw[M];exact aaw h
 have h2:=fO [.mk 15 G S.self [] [.mk Y K u q W O H] [] []];have p:=fM {S with aU:=S.aU+G} (cx [.mk 15 G S.self [] [.mk Y K u q W O H] [] []]) (by simp only[aM]at T;simp only[eH,aM,aL,br,aQ,aab];omega) I;rw[<- V]at p ⊢;clear h B T V;refine mn Tryz.func89 Tryz.call89 fun β hf=>?_;exact dm
theorem DZ (S:bT) (J:Int) (P:List UInt8) (Y K u:Int) (q:List UInt8) (W:List Vl) (O:List Ty) (H:List Nd) (D G C:Int) (U:List UInt8) (N:List Vl) (Q:List Ty) (A:List Nd) (M E I:Int) (B:List UInt8) (p:List Vl) (cM:List Ty) (dg:List Nd) (x:Nd) (hx:bN x<=8589934593) (V:aM (.mk 8 G E [] [.mk Y K u q W O H] [(aZ x).1] [])<=8589934593) (hl:S.st.length<=1000000000):iC 89 S [.c (aW (.mk 2 J 88 P [x])),.c (.sl 7 (aa [.mk Y K u q W O H,.mk D G C U N Q A,.mk M E I B p cM dg]))] (bg S [.mk 8 G E [] [.mk Y K u q W O H] [(aZ x).1] []]):=by
 have hp:=fM S (.mk 8 G E [] [.mk Y K u q W O H] [(aZ x).1] []) V hl;have hq:=ki x hx;clear V;generalize aZ x=tp at hq hp ⊢;obtain⟨⟨T,us⟩,e0⟩:=tp;obtain⟨j1,j2,j3,j4,j5⟩:=x;refine mn Tryz.func89 Tryz.call89 fun β hf=>?_;exact dm
theorem MK (S:bT) (N:Int) (J:List UInt8) (Q K u:Int) (q:List UInt8) (W:List Vl) (O:List Ty) (H:List Nd) (Y E G:Int) (V:List UInt8) (U:List Vl) (M:List Ty) (T:List Nd) (P:aM (.mk Q K u q (.mk Y E G V U M T::W) O H)<=8589934000) (C:S.st.length<=1000000000):iC 89 S [.c (aW (.mk 2 N 85 J [])),.c (.sl 7 (aa [.mk Q K u q (.mk Y E G V U M T::W) O H]))] (bg S [.mk Q K u q (.mk Y E G V U M T::W) O H,bB (aO 7 u) (bB (.mk Y E G V U M T) (aO 4 K))]):=by
 have h1:=cJ 7 u;have h2:=cJ 4 K;have I:=iy (.mk Y E G V U M T) (aO 4 K);have D:=iy (aO 7 u) (bB (.mk Y E G V U M T) (aO 4 K));have A:=XM S (.mk Q K u q (.mk Y E G V U M T::W) O H) (bB (aO 7 u) (bB (.mk Y E G V U M T) (aO 4 K))) bn (by simp only[aM,aL]at P;simp only[dR,fm,aM];omega) C;clear P;refine mn Tryz.func89 Tryz.call89 fun β hf=>?_;exact dm
theorem EY (S:bT) (J:Int) (G:List UInt8) (V K u:Int) (q:List UInt8) (W:List Vl) (O:List Ty) (H:List Nd) (D U C:Int) (T:List UInt8) (N:List Vl) (Q:List Ty) (A:List Nd) (P E M:Int) (I:List UInt8) (B:List Vl) (p:List Ty) (dg:List Nd) (k4 Y a4:Int) (s4:List UInt8) (oM:List Vl) (lC:List Ty) (oN:List Nd) (h3:0<=E/\E<=1152921504606846976) (h4:0<=Y/\Y<=1152921504606846976) (h:E<1) (hl:S.st.length<=1000000000):iC 89 S [.c (aW (.mk 2 J 86 G [])),.c (.sl 7 (aa [.mk V K u q W O H,.mk D U C T [.mk P E M I B p dg,.mk k4 Y a4 s4 oM lC oN] Q A]))] (bg S [cx []]):=by
 have hw:IntKind.i64.wrap (E+Y)=E+Y:=gZ bn bn;have zY:decide (E<1)=true:=aan h;clear h;have hp:=fM S (cx []) ek hl;refine mn Tryz.func89 Tryz.call89 fun β hf=>?_;have BD:=fq;exact dm
theorem EZ (S:bT) (J:Int) (G:List UInt8) (V K u:Int) (q:List UInt8) (Y:List Vl) (O:List Ty) (H:List Nd) (D U C:Int) (T:List UInt8) (N:List Vl) (Q:List Ty) (A:List Nd) (P E M:Int) (I:List UInt8) (B:List Vl) (p:List Ty) (dg:List Nd) (k4 W a4:Int) (s4:List UInt8) (oM:List Vl) (lC:List Ty) (oN:List Nd) (h3:0<=E/\E<=1152921504606846976) (h4:0<=W/\W<=1152921504606846976) (h:¬E<1) (h2:W<1) (hl:S.st.length<=1000000000):iC 89 S [.c (aW (.mk 2 J 86 G [])),.c (.sl 7 (aa [.mk V K u q Y O H,.mk D U C T [.mk P E M I B p dg,.mk k4 W a4 s4 oM lC oN] Q A]))] (bg S [cx []]):=by
 have hw:IntKind.i64.wrap (E+W)=E+W:=gZ bn bn;have zY:decide (E<1)=false:=aaw h;have vW:decide (W<1)=true:=aan h2;have WW:(bif decide (E<1)then true else decide (W<1))=true:=by rw[zY,vW];rfl
 clear h h2;have hp:=fM S (cx []) ek hl;refine mn Tryz.func89 Tryz.call89 fun β hf=>?_;have GH:=fq;exact dm
theorem E0 (S:bT) (J:Int) (G:List UInt8) (V K u:Int) (U:List UInt8) (Y:List Vl) (O:List Ty) (H:List Nd) (D T C:Int) (Q:List UInt8) (N:List Vl) (P:List Ty) (A:List Nd) (M E I:Int) (B:List UInt8) (p:List Vl) (cM:List Ty) (dg:List Nd) (k4 W a4:Int) (s4:List UInt8) (oM:List Vl) (lC:List Ty) (oN:List Nd) (h3:0<=E/\E<=1152921504606846976) (h4:0<=W/\W<=1152921504606846976) (h:¬E<1) (h2:¬W<1) (q:E+W≠K) (hl:S.st.length<=1000000000):iC 89 S [.c (aW (.mk 2 J 86 G [])),.c (.sl 7 (aa [.mk V K u U Y O H,.mk D T C Q [.mk M E I B p cM dg,.mk k4 W a4 s4 oM lC oN] P A]))] (bg S [cx []]):=by
 have hw:IntKind.i64.wrap (E+W)=E+W:=gZ bn bn;have zY:decide (E<1)=false:=aaw h;have vW:decide (W<1)=false:=aaw h2;have Ws:(IntKind.i64.wrap (E+W) != K)=true:=by rw[hw];simpa using q
 have WW:(bif decide (E<1)then true else decide (W<1))=false:=by rw[zY,vW];rfl
 clear h h2 q;have hp:=fM S (cx []) ek hl;refine mn Tryz.func89 Tryz.call89 fun β hf=>?_;have IU:=fq;exact dm
theorem HH (S:bT) (J:Int) (G:List UInt8) (V K u:Int) (q:List UInt8) (W:List Vl) (O:List Ty) (H:List Nd) (D U C:Int) (Q:List UInt8) (N:List Vl) (P:List Ty) (A:List Nd) (M E I:Int) (B:List UInt8) (p:List Vl) (cM:List Ty) (dg:List Nd) (k4 Y a4:Int) (s4:List UInt8) (oM:List Vl) (lC:List Ty) (oN:List Nd) (h3:0<=E/\E<=1152921504606846976) (h4:0<=Y/\Y<=1152921504606846976) (h:¬(E<1\/Y<1\/E+Y≠K)) (T:aM (.mk V K u q W O H)<=4294967000) (hl:S.st.length<=1000000000):iC 89 S [.c (aW (.mk 2 J 86 G [])),.c (.sl 7 (aa [.mk V K u q W O H,.mk D U C Q [.mk M E I B p cM dg,.mk k4 Y a4 s4 oM lC oN] P A]))] (bg S [cx [bB (.mk V E u q W O H) (.mk V Y u q W O H)]]):=by
 have hw:IntKind.i64.wrap (E+Y)=E+Y:=gZ bn bn;have zY:decide (E<1)=false:=aaw bn;have vW:decide (Y<1)=false:=aaw bn;have Ws:(IntKind.i64.wrap (E+Y) != K)=false:=by rw[hw];simpa using (show E+Y=K by omega)
 have WW:(bif decide (E<1)then true else decide (Y<1))=false:=by rw[zY,vW];rfl
 have hg2:(bif (bif decide (E<1)then true else decide (Y<1))then true else(IntKind.i64.wrap (E+Y) != K))=false:=by rw[WW,Ws];rfl
 have h1:=iy (.mk V E u q W O H) (.mk V Y u q W O H);have h2:=fO [bB (.mk V E u q W O H) (.mk V Y u q W O H)];have hp:=fM S (cx [bB (.mk V E u q W O H) (.mk V Y u q W O H)]) (by simp only[aM]at T;simp only[eH,dR,aM,aL];omega) hl;clear h T;refine mn Tryz.func89 Tryz.call89 fun β hf=>?_;exact dm
theorem Kd (S:bT) (J:Int) (G:List UInt8) (Y V u:Int) (q:List UInt8) (W:List Vl) (O:List Ty) (H:List Nd) (D U C:Int) (E:List UInt8) (N:List Vl) (T:List Ty) (A:List Nd) (Q P M:Int) (I:List UInt8) (B:List Vl) (p:List Ty) (dg:List Nd) (k4 n4 K:Int) (s4:List UInt8) (oM:List Vl) (lC:List Ty) (oN:List Nd) (k5 n5 a5:Int) (s5:List UInt8) (j6:List Vl) (ig:List Ty) (j7:List Nd) (h:C≠K) (hl:S.st.length<=1000000000):iC 89 S [.c (aW (.mk 2 J 87 G [])),.c (.sl 7 (aa [.mk Y V u q [.mk D U C E (.mk Q P M I B p dg::N) T A,.mk k4 n4 K s4 (.mk k5 n5 a5 s5 j6 ig j7::oM) lC oN] O H]))] (bg S [cx []]):=by
 have hc:(C != K)=true:=by simpa using h
 clear h;have hp:=fM S (cx []) ek hl;refine mn Tryz.func89 Tryz.call89 fun β hf=>?_;have IV:=fq;exact dm
theorem Ke (S:bT) (H:Int) (D:List UInt8) (u q p:Int) (s1:List UInt8) (W:List Vl) (af:List Ty) (aA:List Nd) (k2 n2 C:Int) (s2:List UInt8) (N:List Vl) (bt:List Ty) (bI:List Nd) (Y E G:Int) (V:List UInt8) (U:List Vl) (M:List Ty) (T:List Nd) (k4 n4 K:Int) (s4:List UInt8) (oM:List Vl) (lC:List Ty) (oN:List Nd) (A B Q:Int) (O:List UInt8) (P:List Vl) (J:List Ty) (I:List Nd) (r:Int) (hq:ah 120 [bP (.mk Y E G V U M T),bP (.mk A B Q O P J I)] (aF r)) (h:C=K) (h2:r≠0) (hl:S.st.length<=1000000000):iC 89 S [.c (aW (.mk 2 H 87 D [])),.c (.sl 7 (aa [.mk u q p s1 [.mk k2 n2 C s2 (.mk Y E G V U M T::N) bt bI,.mk k4 n4 K s4 (.mk A B Q O P J I::oM) lC oN] af aA]))] (bg S [cx []]):=by
 have hc:(C != K)=false:=by simpa using h
 have vW:(r != 0)=true:=by simpa using h2
 clear h h2;have hp:=fM S (cx []) ek hl;refine mn Tryz.func89 Tryz.call89 fun β hf=>?_;have LB:=fq;exact dm
theorem Kf (S:bT) (u:Int) (p:List UInt8) (k1 n1 a1:Int) (s1:List UInt8) (Y:List Vl) (af:List Ty) (aA:List Nd) (k2 G C:Int) (s2:List UInt8) (N:List Vl) (bt:List Ty) (bI:List Nd) (V E U:Int) (T:List UInt8) (Q:List Vl) (M:List Ty) (P:List Nd) (k4 W K:Int) (s4:List UInt8) (oM:List Vl) (lC:List Ty) (oN:List Nd) (A B O:Int) (q:List UInt8) (J:List Vl) (I:List Ty) (H:List Nd) (hq:ah 120 [bP (.mk V E U T Q M P),bP (.mk A B O q J I H)] (aF 0)) (h:C=K) (hn2:0<=G/\G<=1152921504606846976) (hn4:0<=W/\W<=1152921504606846976) (D:G>1152921504606846976-W) (hl:S.st.length<=1000000000):iC 89 S [.c (aW (.mk 2 u 87 p [])),.c (.sl 7 (aa [.mk k1 n1 a1 s1 [.mk k2 G C s2 (.mk V E U T Q M P::N) bt bI,.mk k4 W K s4 (.mk A B O q J I H::oM) lC oN] af aA]))] (((11,S):MR)):=by
 have hw:IntKind.i64.wrap (1152921504606846976-W)=1152921504606846976-W:=gZ bn bn;have hc:(C != K)=false:=by simpa using h
 have vW:((0:Int) != 0)=false:=rfl;have hg:(bif (C != K)then true else((0:Int) != 0))=false:=by rw[hc];rfl
 have Ws:decide (G>IntKind.i64.wrap (1152921504606846976-W))=true:=by rw[hw];exact aan D
 clear h D;refine mn Tryz.func89 Tryz.call89 fun β hf=>?_;exact dm
theorem Kg (S:bT) (nN:Int) (nS:List UInt8) (k1 n1 a1:Int) (s1:List UInt8) (J:List Vl) (af:List Ty) (aA:List Nd) (D G C:Int) (Q:List UInt8) (N:List Vl) (P:List Ty) (A:List Nd) (Y E V:Int) (K:List UInt8) (U:List Vl) (M:List Ty) (T:List Nd) (k4 W O:Int) (s4:List UInt8) (oM:List Vl) (lC:List Ty) (oN:List Nd) (I B H:Int) (q:List UInt8) (u:List Vl) (p:List Ty) (j7:List Nd) (hq:ah 120 [bP (.mk Y E V K U M T),bP (.mk I B H q u p j7)] (aF 0)) (h:C=O) (hn2:0<=G/\G<=1152921504606846976) (hn4:0<=W/\W<=1152921504606846976) (h3:¬G>1152921504606846976-W) (hv:aM (.mk D G C Q (.mk Y E V K U M T::N) P A)<=8589934000) (hl:S.st.length<=1000000000):iC 89 S [.c (aW (.mk 2 nN 87 nS [])),.c (.sl 7 (aa [.mk k1 n1 a1 s1 [.mk D G C Q (.mk Y E V K U M T::N) P A,.mk k4 W O s4 (.mk I B H q u p j7::oM) lC oN] af aA]))] (bg S [cx [.mk D (G+W) C Q (.mk Y E V K U M T::N) P A]]):=by
 have hw:IntKind.i64.wrap (1152921504606846976-W)=1152921504606846976-W:=gZ bn bn;have hc:(C != O)=false:=by simpa using h
 have vW:((0:Int) != 0)=false:=rfl;have hg:(bif (C != O)then true else((0:Int) != 0))=false:=by rw[hc];rfl
 have Fm:IntKind.i64.wrap (G+W)=G+W:=gZ bn bn;have Ws:decide (G>IntKind.i64.wrap (1152921504606846976-W))=false:=by rw[hw];exact aaw h3
 have h2:=fO [.mk D (G+W) C Q (.mk Y E V K U M T::N) P A];have hp:=fM S (cx [.mk D (G+W) C Q (.mk Y E V K U M T::N) P A]) (by simp only[aM,aL]at hv;simp only[eH,aM,aL];omega) hl;rw[<- Fm]at h2 hp ⊢;clear h h3 hv Fm;refine mn Tryz.func89 Tryz.call89 fun β hf=>?_;exact dm
end Go.Proofs
namespace Go.Proofs
open Go.cu
theorem D2:∀(l:List Vl) (k:Vl),cq l k<=l.length
 | [],_=>aam _
 | x::l,k=>by
  simp only[cq];split
  ·have:=D2 l k;simp only[aaa];omega
  ·omega
theorem KK:∀{l:List Vl} {k:Vl} {i:Nat} {x:Vl},i<cq l k->l[i]?=some x->dA (lB x) k<0
 | [],_,i,x,h,e=>by simp at e
 | y::l,k,i,x,h,e=>by
  simp only[cq]at h;split at h
  ·rename_i E;cases i with
   | zero=>simp at e;subst e;exact E
   | succ i=>simp at e;exact KK bn e
  ·omega
attribute [local irreducible] AK ai bw bz dJ dN dA
theorem E1 (x k y:Vl) (t:Ty) (O:(eo x)[0]?=some y) (hq:ah 76 [bP y,bP k] (aF (dA y k))):ah 136 [bP x,bP k] (aF (dA (lB x) k)):=by
 have D:lB x=y:=by unfold lB;rw[List.getD_eq_getElem?_getD,O];rfl
 rw[D];have M:(aa (eo x))[0]?=some (bP y):=by rw[jz,O];rfl
 clear D O;generalize dA y k=r at hq ⊢;obtain⟨Y,K,u,q,W,V,H⟩:=x;obtain⟨U,G,C,E,N,S,A⟩:=k;obtain⟨T,Q,P,J,I,B,p⟩:=y;refine qn Tryz.func136 Tryz.call136 fun β hf=>?_;exact dq
theorem XS (S W:Nat) (h:S+W<=4000000000):IntKind.i64.wrap ((IntKind.u64.wrap (IntKind.i64.wrap ((S:Nat)+(W:Nat)))).fdiv (2^(min 1 IntKind.u64.bits)))=(((S+W)/2:Nat):Int):=by
 rw[gZ (n:=(S:Int)+W) bn bn];have h1:IntKind.u64.wrap ((S:Int)+W)=((S+W:Nat):Int):=by
  rw[IntKind.wrap_u64];omega
 rw[h1];have h2:((S+W:Nat):Int).fdiv (2^(min 1 IntKind.u64.bits))=(((S+W)/2:Nat):Int):=by
  rw[show(min 1 IntKind.u64.bits)=1 from rfl];rw[Int.fdiv_eq_ediv_of_nonneg _ cc];omega
 rw[h2,gZ bn bn]
theorem E7 (m:List Vl) (k:Vl) (hl:m.length<=1000000000) (hq:∀x∈m,ah 136 [bP x,bP k] (aF (dA (lB x) k)))
  (u:∀(i:Nat) x,cq m k<=i->m[i]?=some x->¬dA (lB x) k<0) :
  ah 135 [.sl 7 (aa m),bP k,.rK 136 []] (.gB [aF (cq m k:Nat),.bool (eP m k)]):=by
 have B:=D2 m k;have T:∀{i:Nat} {x:Vl},i<cq m k->m[i]?=some x->dA (lB x) k<0:=fun h e=>KK h e;have U:eP m k=match m[cq m k]? with|some x=>decide (dA (lB x) k=0)|none=>false:=rfl
 generalize cq m k=p at B T u U ⊢;generalize eP m k=fd at U ⊢;have q:=az m;obtain⟨D,G,C,E,N,K,A⟩:=k;refine qn Tryz.func135 Tryz.call135 fun β hf=>?_;refine dn ?_;refine AK.eM (α:=Nat×Nat) (fun z=>z.1<=p/\p<=z.2/\z.2<=m.length) (fun z=>z.2-z.1)
  (fun z=>[(0,.c (.sl 7 (aa m))),(2,.c (.rK 136 [])),(4,.ptr 4 0),(8,.c (aF ((aa m).length:Nat))),(9,.c (aF (z.1:Nat))),(10,.c (aF (z.2:Nat)))])
  (fun z=>[(4,[.c (aF D),.c (aF G),.c (aF C),.c (.str E),.c (.sl 7 (aa N)),.c (.sl 2 (aE K)),.c (.sl 5 (aH A))])]) (fun _=>[]) [4] (0,(aa m).length)
  ⟨Nat.zero_le _,by show p<=(aa m).length;omega,by show(aa m).length<=_;omega⟩ ⟨.inl rfl,.inl rfl,.inl rfl,.inl rfl,.inl rfl,.inl rfl,trivial⟩ ⟨rfl,trivial⟩ trivial rfl rfl rfl ?_
 rintro⟨S,W⟩ ⟨h1,h2,h3⟩ ih;simp only at h1 h2 h3;by_cases hlt:S<W
 ·have hc:decide (((S:Nat):Int)<((W:Nat):Int))=true:=aan bn;have Y:=XS S W bn;obtain⟨x,O⟩:∃x,m[(S+W)/2]?=some x:=⟨_,List.getElem?_eq_getElem bn⟩
  have V:=hq x (aaz O);have M:(aa m)[(S+W)/2]?=some (bP x):=by rw[jz,O];rfl
  have J := @u ((S+W)/2) x;have H := @T ((S+W)/2) x;clear hq;generalize dA (lB x) (.mk D G C E N K A)=r at V J H;obtain⟨k1,n1,a1,s1,Q,af,aA⟩:=x;by_cases I:r<0
  ·have vW:decide (r<0)=true:=aan I;have hw:IntKind.i64.wrap ((((S+W)/2:Nat):Int)+1)=(((S+W)/2+1:Nat):Int):=by rw[gZ bn bn];omega
   have P:(S+W)/2+1<=p:=by
    rcases Nat.lt_or_ge ((S+W)/2) p with h|h
    ·omega
    ·exact absurd I (J h O)
   repeat' (first|refine sz ?_|(refine zc ?_ ?_<;>intro h<;>first|(cases h;done)|rw[h]|skip)|refine uI rfl ((S+W)/2) Y M rfl ?_|refine uC rfl V ?_|((first|refine zt ?_|refine zu ?_ ?_)<;>intro h<;>(fail_if_success (cases h;done))<;>rw[h]))
   refine AK.fY [(4,4)] [] (env':=[(0,.c (.sl 7 (aa m))),(2,.c (.rK 136 [])),(4,.ptr 4 0),(8,.c (aF ((aa m).length:Nat))),(9,.c (aF (((S+W)/2+1:Nat):Int))),(10,.c (aF ((W:Nat):Int)))])
    (bs':=[(4,[.c (aF D),.c (aF G),.c (aF C),.c (.str E),.c (.sl 7 (aa N)),.c (.sl 2 (aE K)),.c (.sl 5 (aH A))])]) (ts':=[]) (us':=[4])
    ⟨⟨_,rfl,.inl rfl⟩,⟨_,rfl,.inl rfl⟩,⟨_,rfl,⟨_,rfl,rfl⟩⟩,⟨_,rfl,.inl rfl⟩,⟨_,rfl,.inl (congrArg (fun z=>AV.c (.int .i64 z)) (by rw[Y];exact hw))⟩,⟨_,rfl,.inl rfl⟩,trivial⟩ ⟨⟨_,_,rfl,rfl,⟨_,_,rfl,.inl rfl,_,_,rfl,.inl rfl,_,_,rfl,.inl rfl,_,_,rfl,.inl rfl,_,_,rfl,.inl rfl,_,_,rfl,.inl rfl,_,_,rfl,.inl rfl,rfl⟩⟩,trivial⟩ rfl ?_
   exact ih ((S+W)/2+1,W) ⟨by show _<=p;omega,by show p<=_;omega,by show _<=m.length;omega⟩ (by show _-_<W-S;omega)
  ·have vW:decide (r<0)=false:=aaw I;have P:p<=(S+W)/2:=by
    rcases Nat.lt_or_ge ((S+W)/2) p with h|h
    ·exact absurd (H h O) I
    ·exact h
   repeat' (first|refine sz ?_|(refine zc ?_ ?_<;>intro h<;>first|(cases h;done)|rw[h]|skip)|refine uI rfl ((S+W)/2) Y M rfl ?_|refine uC rfl V ?_|((first|refine zt ?_|refine zu ?_ ?_)<;>intro h<;>(fail_if_success (cases h;done))<;>rw[h]))
   refine AK.fY [(4,4)] [] (env':=[(0,.c (.sl 7 (aa m))),(2,.c (.rK 136 [])),(4,.ptr 4 0),(8,.c (aF ((aa m).length:Nat))),(9,.c (aF ((S:Nat):Int))),(10,.c (aF (((S+W)/2:Nat):Int)))])
    (bs':=[(4,[.c (aF D),.c (aF G),.c (aF C),.c (.str E),.c (.sl 7 (aa N)),.c (.sl 2 (aE K)),.c (.sl 5 (aH A))])]) (ts':=[]) (us':=[4])
    ⟨⟨_,rfl,.inl rfl⟩,⟨_,rfl,.inl rfl⟩,⟨_,rfl,⟨_,rfl,rfl⟩⟩,⟨_,rfl,.inl rfl⟩,⟨_,rfl,.inl rfl⟩,⟨_,rfl,.inl (congrArg (fun z=>AV.c (.int .i64 z)) Y)⟩,trivial⟩ ⟨⟨_,_,rfl,rfl,⟨_,_,rfl,.inl rfl,_,_,rfl,.inl rfl,_,_,rfl,.inl rfl,_,_,rfl,.inl rfl,_,_,rfl,.inl rfl,_,_,rfl,.inl rfl,_,_,rfl,.inl rfl,rfl⟩⟩,trivial⟩ rfl ?_
   exact ih (S,(S+W)/2) ⟨by show _<=p;omega,by show p<=_;omega,by show _<=m.length;omega⟩ (by show _-_<W-S;omega)
 ·have hc:decide (((S:Nat):Int)<((W:Nat):Int))=false:=aaw bn;have he:S=p:=by omega
  subst he;clear ih T u;by_cases hn:S<m.length
  ·have Ws:decide (((S:Nat):Int)<(((aa m).length:Nat):Int))=true:=aan bn;obtain⟨x,O⟩:∃x,m[S]?=some x:=⟨_,List.getElem?_eq_getElem hn⟩
   rw[O]at U;have V:=hq x (aaz O);have M:(aa m)[S]?=some (bP x):=by rw[jz,O];rfl
   clear hq;simp only at U;subst U;generalize dA (lB x) (.mk D G C E N K A)=r at V ⊢;obtain⟨k1,n1,a1,s1,Q,af,aA⟩:=x;exact dq
  ·have Ws:decide (((S:Nat):Int)<(((aa m).length:Nat):Int))=false:=aaw bn;rw[List.getElem?_eq_none bn]at U;simp only at U;subst U;clear hq;exact dq
theorem HI (m:List Vl) (k:Vl) (C:m.length<=1000000000) (hq:∀x∈m,ah 136 [bP x,bP k] (aF (dA (lB x) k)))
  (u:∀(i:Nat) x,cq m k<=i->m[i]?=some x->¬dA (lB x) k<0) :
  ah 113 [.sl 7 (aa m),bP k] (.gB [aF (cq m k:Nat),.bool (eP m k)]):=by
 have p:=E7 m k C hq u;clear hq u;obtain⟨D,G,I,E,N,K,A⟩:=k;refine qn Tryz.func113 Tryz.call113 fun β hf=>?_;exact dq
end Go.Proofs
