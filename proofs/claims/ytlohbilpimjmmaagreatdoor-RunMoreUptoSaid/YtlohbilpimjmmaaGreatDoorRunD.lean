/- What data of package run's machine does. What world of package run's machine does. What value.Search answers in a map that is in order. -/
import Derived.Test.YtlohbilpimjmmaaGreatDoorRunA
set_option maxHeartbeats 0
set_option linter.unusedVariables false
set_option linter.unusedSimpArgs false
set_option maxRecDepth 100000
namespace Go.Proofs
open Go.cq
theorem gU (b:Bool):aM (iu b)=1:=rfl
theorem iG (k n a:Int) (s:List UInt8):aM (.mk k n a s [] [] [])=s.length+1:=by simp only[aM,aJ,aY,aU]
attribute [local irreducible] AK ai bh bt dI dS lI dx tU gA aZ
theorem zy (v w:Vl) (t:Ty) (G:gm t=false) (h1:bK v t=true) (h2:bK w t=true) (Y:aM v<=1099511627776):ag 120 [bM v,bM w] (aF (dx v w)):=by
 have hq:=nY v w t G h1 h2 Y;obtain⟨D,K,u,U,W,H,Q⟩:=v;obtain⟨T,q,B,S,V,E,P⟩:=w;refine qn Tryz.func120 Tryz.call120 fun β hf=>?_;exact dq
theorem TN (S:bT) (N:Int) (P:List UInt8) (D K u:Int) (Y:List UInt8) (W:List Vl) (H:List Ty) (Q:List Nd) (U q B:Int) (G:List UInt8) (V:List Vl) (E:List Ty) (T:List Nd) (hq:ag 120 [bM (.mk D K u Y W H Q),bM (.mk U q B G V E T)] (aF (dx (.mk D K u Y W H Q) (.mk U q B G V E T)))) (A:S.st.length<=1000000000):iD 88 S [.c (aX (.mk 2 N 73 P [])),.c (.sl 7 (aa [.mk D K u Y W H Q,.mk U q B G V E T]))] (bl S [aO 3 (dx (.mk D K u Y W H Q) (.mk U q B G V E T))]):=by
 generalize dx (.mk D K u Y W H Q) (.mk U q B G V E T)=r at hq ⊢;have h1:=cH 3 r;have O:=fJ S (aO 3 r) ek A;refine mn Tryz.func88 Tryz.call88 fun β hf=>?_;exact dm
theorem VJ (S:bT) (N:Int) (V:List UInt8) (D K u:Int) (Y:List UInt8) (W:List Vl) (H:List Ty) (Q:List Nd) (A:S.st.length<=1000000000):iD 88 S [.c (aX (.mk 2 N 74 V [])),.c (.sl 7 (aa [.mk D K u Y W H Q]))] (bl S [iu (K==0)]):=by
 have h1:=jq (K==0);have U:=fJ S (iu (K==0)) ek A;refine mn Tryz.func88 Tryz.call88 fun β hf=>?_;exact dm
theorem VK (S:bT) (N:Int) (V:List UInt8) (D K u:Int) (Y:List UInt8) (W:List Vl) (H:List Ty) (Q:List Nd) (A:S.st.length<=1000000000):iD 88 S [.c (aX (.mk 2 N 75 V [])),.c (.sl 7 (aa [.mk D K u Y W H Q]))] (bl S [iu (decide (K<0))]):=by
 have h1:=jq (decide (K<0));have U:=fJ S (iu (decide (K<0))) ek A;refine mn Tryz.func88 Tryz.call88 fun β hf=>?_;exact dm
theorem VL (S:bT) (N:Int) (V:List UInt8) (D K u:Int) (Y:List UInt8) (W:List Vl) (H:List Ty) (Q:List Nd) (A:S.st.length<=1000000000):iD 88 S [.c (aX (.mk 2 N 76 V [])),.c (.sl 7 (aa [.mk D K u Y W H Q]))] (bl S [iu (decide (K>0))]):=by
 have h1:=jq (decide (K>0));have U:=fJ S (iu (decide (K>0))) ek A;refine mn Tryz.func88 Tryz.call88 fun β hf=>?_;exact dm
theorem VM (S:bT) (N:Int) (V:List UInt8) (D K u:Int) (Y:List UInt8) (W:List Vl) (H:List Ty) (Q:List Nd) (A:S.st.length<=1000000000):iD 88 S [.c (aX (.mk 2 N 77 V [])),.c (.sl 7 (aa [.mk D K u Y W H Q]))] (bl S [iu (K==0)]):=by
 have h1:=jq (K==0);have U:=fJ S (iu (K==0)) ek A;refine mn Tryz.func88 Tryz.call88 fun β hf=>?_;exact dm
theorem TO (S:bT) (N:Int) (Y:List UInt8) (D K u:Int) (U:List UInt8) (W:List Vl) (H:List Ty) (Q:List Nd) (T q B:Int) (G:List UInt8) (V:List Vl) (E:List Ty) (P:List Nd) (h:K=1) (A:S.st.length<=1000000000):iD 88 S [.c (aX (.mk 2 N 78 Y [])),.c (.sl 7 (aa [.mk D K u U W H Q,.mk T q B G V E P]))] (bl S [iu (q==1)]):=by
 have O:(K==1)=true:=by simpa using h
 clear h;have h1:=jq (q==1);have M:=fJ S (iu (q==1)) ek A;refine mn Tryz.func88 Tryz.call88 fun β hf=>?_;exact dm
theorem TP (S:bT) (N:Int) (Y:List UInt8) (D K u:Int) (U:List UInt8) (W:List Vl) (H:List Ty) (Q:List Nd) (T q B:Int) (G:List UInt8) (V:List Vl) (E:List Ty) (P:List Nd) (h:K≠1) (A:S.st.length<=1000000000):iD 88 S [.c (aX (.mk 2 N 78 Y [])),.c (.sl 7 (aa [.mk D K u U W H Q,.mk T q B G V E P]))] (bl S [iu false]):=by
 have O:(K==1)=false:=by simpa using h
 clear h;have h1:=jq false;have M:=fJ S (iu false) ek A;refine mn Tryz.func88 Tryz.call88 fun β hf=>?_;exact dm
theorem TQ (S:bT) (N:Int) (Y:List UInt8) (D K u:Int) (U:List UInt8) (W:List Vl) (H:List Ty) (Q:List Nd) (T q B:Int) (G:List UInt8) (V:List Vl) (E:List Ty) (P:List Nd) (h:K=1) (A:S.st.length<=1000000000):iD 88 S [.c (aX (.mk 2 N 79 Y [])),.c (.sl 7 (aa [.mk D K u U W H Q,.mk T q B G V E P]))] (bl S [iu true]):=by
 have O:(K==1)=true:=by simpa using h
 clear h;have h1:=jq true;have M:=fJ S (iu true) ek A;refine mn Tryz.func88 Tryz.call88 fun β hf=>?_;exact dm
theorem TR (S:bT) (N:Int) (Y:List UInt8) (D K u:Int) (U:List UInt8) (W:List Vl) (H:List Ty) (Q:List Nd) (T q B:Int) (G:List UInt8) (V:List Vl) (E:List Ty) (P:List Nd) (h:K≠1) (A:S.st.length<=1000000000):iD 88 S [.c (aX (.mk 2 N 79 Y [])),.c (.sl 7 (aa [.mk D K u U W H Q,.mk T q B G V E P]))] (bl S [iu (q==1)]):=by
 have O:(K==1)=false:=by simpa using h
 clear h;have h1:=jq (q==1);have M:=fJ S (iu (q==1)) ek A;refine mn Tryz.func88 Tryz.call88 fun β hf=>?_;exact dm
theorem Qy (S:bT) (N:Int) (U:List UInt8) (D K u:Int) (Y:List UInt8) (W:List Vl) (H:List Ty) (T:List Nd) (P q B:Int) (Q:List UInt8) (V:List Vl) (E:List Ty) (G:List Nd) (h:200<Y.length+Q.length) (M:Y.length+Q.length<=1000000000) (A:S.st.length<=1000000000):iD 88 S [.c (aX (.mk 2 N 80 U [])),.c (.sl 7 (aa [.mk D K u Y W H T,.mk P q B Q V E G]))] (((13,S):MR)):=by
 have O:IntKind.i64.wrap (((Y.length:Nat):Int)+(Q.length:Nat))=((Y.length:Nat):Int)+(Q.length:Nat):=gW bn bn;have J:decide (IntKind.i64.wrap (((Y.length:Nat):Int)+(Q.length:Nat))>200)=true:=by rw[O];exact aam bn
 clear h;refine mn Tryz.func88 Tryz.call88 fun β hf=>?_;exact dm
theorem Qz (S:bT) (N:Int) (T:List UInt8) (D K u:Int) (Y:List UInt8) (W:List Vl) (H:List Ty) (P:List Nd) (O q B:Int) (Q:List UInt8) (V:List Vl) (E:List Ty) (G:List Nd) (h:¬200<Y.length+Q.length) (A:S.st.length<=1000000000):iD 88 S [.c (aX (.mk 2 N 80 T [])),.c (.sl 7 (aa [.mk D K u Y W H P,.mk O q B Q V E G]))] (bl S [.mk 6 0 0 (Y++Q) [] [] []]):=by
 have M:IntKind.i64.wrap (((Y.length:Nat):Int)+(Q.length:Nat))=((Y.length:Nat):Int)+(Q.length:Nat):=gW bn bn;have I:decide (IntKind.i64.wrap (((Y.length:Nat):Int)+(Q.length:Nat))>200)=false:=by rw[M];exact aan bn
 have J:=fJ S (.mk 6 0 0 (Y++Q) [] [] []) (by simp only[iG,aas];omega) A;have U:Y.length+Q.length<=9223372036854775807:=by omega
 clear h;refine mn Tryz.func88 Tryz.call88 fun β hf=>?_
 repeat' (first|refine nj ?_|(refine zc ?_ ?_<;>intro h<;>first|(cases h;done)|rw[h]|skip)|refine uI rfl (0) rfl (rfl) rfl ?_|refine uI rfl (1) rfl (rfl) rfl ?_|refine uI rfl (2) rfl (rfl) rfl ?_|refine ai.concat Tryz.hX kn rfl rfl rfl rfl rfl U ?_|refine tc ?_ (hq:=J)|((first|refine zt ?_|refine zu ?_ ?_)<;>intro h<;>(fail_if_success (cases h;done))<;>rw[h]))
 all_goals rfl
theorem ND (S:bT) (N:Int) (V:List UInt8) (D K u:Int) (Y:List UInt8) (W:List Vl) (H:List Ty) (Q:List Nd) (s:List UInt8) (e:Int) (hq:ag 122 [bM (.mk D K u Y W H Q)] (.gy [.str s,aF e])) (h:e≠0) (A:S.st.length<=1000000000):iD 88 S [.c (aX (.mk 2 N 81 V [])),.c (.sl 7 (aa [.mk D K u Y W H Q]))] (((13,S):MR)):=by
 have E:(e != 0)=true:=by simpa using h
 clear h;refine mn Tryz.func88 Tryz.call88 fun β hf=>?_;exact dm
theorem NG (S:bT) (N:Int) (V:List UInt8) (D K u:Int) (Y:List UInt8) (W:List Vl) (H:List Ty) (Q:List Nd) (s:List UInt8) (hq:ag 122 [bM (.mk D K u Y W H Q)] (.gy [.str s,aF 0])) (G:s.length<=1000000000) (A:S.st.length<=1000000000):iD 88 S [.c (aX (.mk 2 N 81 V [])),.c (.sl 7 (aa [.mk D K u Y W H Q]))] (bl S [.mk 6 0 0 s [] [] []]):=by
 have U:=fJ S (.mk 6 0 0 s [] [] []) (by simp only[iG];omega) A;clear G;refine mn Tryz.func88 Tryz.call88 fun β hf=>?_;exact dm
theorem TS (S:bT) (N:Int) (U:List UInt8) (D K u:Int) (Y:List UInt8) (W:List Vl) (H:List Ty) (Q:List Nd) (x:Nd) (O:b8 x<=8589934593) (v:Vl) (e:Int) (V:gA (aZ x).1 Y=(v,e)) (h:e≠0) (A:S.st.length<=1000000000):iD 88 S [.c (aX (.mk 2 N 82 U [x])),.c (.sl 7 (aa [.mk D K u Y W H Q]))] (bl S [cB []]):=by
 have E:(e != 0)=true:=by simpa using h
 clear h;have P:=fJ S (cB []) ek A;have hq:=ko x O;have I:=yK (aZ x).1 Y (DR x O);rw[V]at I;clear V;generalize aZ x=tp at hq I;obtain⟨⟨T,us⟩,e0⟩:=tp;obtain⟨M,J,G,C,B⟩:=x;obtain⟨q,p,a3,s3,fy,cK,dH⟩:=v;refine mn Tryz.func88 Tryz.call88 fun β hf=>?_;have ug:=fj;exact dm
theorem TT (S:bT) (N:Int) (U:List UInt8) (D K u:Int) (Y:List UInt8) (W:List Vl) (H:List Ty) (Q:List Nd) (x:Nd) (O:b8 x<=8589934593) (v:Vl) (V:gA (aZ x).1 Y=(v,0)) (P:aM v<=8589934000) (A:S.st.length<=1000000000):iD 88 S [.c (aX (.mk 2 N 82 U [x])),.c (.sl 7 (aa [.mk D K u Y W H Q]))] (bl S [cB [v]]):=by
 have M:=fJ S (cB [v]) (by simp only[eG,aJ];omega) A;clear P;have h2:=fL [v];have hq:=ko x O;have I:=yK (aZ x).1 Y (DR x O);rw[V]at I;clear V;generalize aZ x=tp at hq I;obtain⟨⟨T,us⟩,e0⟩:=tp;obtain⟨J,G,E,C,B⟩:=x;obtain⟨q,p,a3,s3,fy,cK,dH⟩:=v;refine mn Tryz.func88 Tryz.call88 fun β hf=>?_;exact dm
theorem QA (S:bT) (N:Int) (V:List UInt8) (D K u:Int) (Y:List UInt8) (W:List Vl) (H:List Ty) (Q:List Nd) (A:S.st.length<=1000000000):iD 88 S [.c (aX (.mk 2 N 83 V [])),.c (.sl 7 (aa [.mk D K u Y W H Q]))] (((10,{S with said := .mk D K u Y W H Q}):MR)):=by
 refine mn Tryz.func88 Tryz.call88 fun β hf=>?_;exact dm
end Go.Proofs
namespace Go.Proofs
open Go.cq
attribute [local irreducible] AK ai bh bt dI dS lI dx aZ
theorem MV (S:bT) (N:Int) (V:List UInt8) (A:S.st.length<=1000000000):iD 89 S [.c (aX (.mk 2 N 89 V [])),.c (.sl 7 (aa []))] (bl S [aO 7 S.self]):=by
 have h1:=cH 7 S.self;have Y:=fJ S (aO 7 S.self) ek A;refine mn Tryz.func89 Tryz.call89 fun β hf=>?_;exact dm
theorem HN (S:bT) (N:Int) (V:List UInt8) (A:S.st.length<=1000000000):iD 89 S [.c (aX (.mk 2 N 90 V [])),.c (.sl 7 (aa []))] (bl S [aO 7 S.gO]):=by
 have h1:=cH 7 S.gO;have Y:=fJ S (aO 7 S.gO) ek A;refine mn Tryz.func89 Tryz.call89 fun β hf=>?_;exact dm
theorem HP (S:bT) (N:Int) (V:List UInt8) (A:S.st.length<=1000000000):iD 89 S [.c (aX (.mk 2 N 91 V [])),.c (.sl 7 (aa []))] (bl S [aO 5 S.gP]):=by
 have h1:=cH 5 S.gP;have Y:=fJ S (aO 5 S.gP) ek A;refine mn Tryz.func89 Tryz.call89 fun β hf=>?_;exact dm
theorem E5 (S:bT) (N:Int) (V:List UInt8) (A:S.st.length<=1000000000):iD 89 S [.c (aX (.mk 2 N 92 V [])),.c (.sl 7 (aa []))] (bl S [aO 5 S.balance]):=by
 have h1:=cH 5 S.balance;have Y:=fJ S (aO 5 S.balance) ek A;refine mn Tryz.func89 Tryz.call89 fun β hf=>?_;exact dm
theorem Km (S:bT) (N:Int) (Y:List UInt8) (D K u:Int) (U:List UInt8) (W:List Vl) (H:List Ty) (Q:List Nd) (T q B:Int) (G:List UInt8) (V:List Vl) (E:List Ty) (P:List Nd) (h:q=0) (A:S.st.length<=1000000000):iD 89 S [.c (aX (.mk 2 N 84 Y [])),.c (.sl 7 (aa [.mk D K u U W H Q,.mk T q B G V E P]))] (bl S [cB []]):=by
 have O:(q==0)=true:=by simpa using h
 clear h;have M:=fJ S (cB []) ek A;refine mn Tryz.func89 Tryz.call89 fun β hf=>?_;have J:=fj;exact dm
theorem Kn (S:bT) (N:Int) (Y:List UInt8) (D K u:Int) (T:List UInt8) (W:List Vl) (H:List Ty) (Q:List Nd) (P q B:Int) (G:List UInt8) (V:List Vl) (E:List Ty) (O:List Nd) (U:q≠0) (I:0<=q/\q<=1152921504606846976) (h:S.bE>1152921504606846976-q) (A:S.st.length<=1000000000):iD 89 S [.c (aX (.mk 2 N 84 Y [])),.c (.sl 7 (aa [.mk D K u T W H Q,.mk P q B G V E O]))] (((11,S):MR)):=by
 have M:(q==0)=false:=by simpa using U
 have J:IntKind.i64.wrap (1152921504606846976-q)=1152921504606846976-q:=gW bn bn;have C:decide (S.bE>IntKind.i64.wrap (1152921504606846976-q))=true:=by rw[J];exact aam h
 clear h U;refine mn Tryz.func89 Tryz.call89 fun β hf=>?_;exact dm
theorem Ko (S:bT) (N:Int) (O:List UInt8) (D K u:Int) (Y:List UInt8) (W:List Vl) (H:List Ty) (Q:List Nd) (M q B:Int) (G:List UInt8) (V:List Vl) (E:List Ty) (J:List Nd) (U:q≠0) (hn:0<=q/\q<=1152921504606846976) (h:¬S.bE>1152921504606846976-q) (hm:0<=S.bE) (T:aM (.mk D K u Y W H Q)<=8589934000) (A:S.st.length<=1000000000):iD 89 S [.c (aX (.mk 2 N 84 O [])),.c (.sl 7 (aa [.mk D K u Y W H Q,.mk M q B G V E J]))] (bl {S with bE:=S.bE+q} [cB [.mk 15 q S.self [] [.mk D K u Y W H Q] [] []]]):=by
 have I:(q==0)=false:=by simpa using U
 have C:IntKind.i64.wrap (1152921504606846976-q)=1152921504606846976-q:=gW bn bn;have P:IntKind.i64.wrap (S.bE+q)=S.bE+q:=gW bn bn;have hc:decide (S.bE>IntKind.i64.wrap (1152921504606846976-q))=false:=by rw[C];exact aan h
 have h2:=fL [.mk 15 q S.self [] [.mk D K u Y W H Q] [] []];have p:=fJ {S with bE:=S.bE+q} (cB [.mk 15 q S.self [] [.mk D K u Y W H Q] [] []]) (by simp only[aM]at T;simp only[eG,aM,aJ,aY,aU,aad];omega) A;rw[<- P]at p ⊢;clear h U T P;refine mn Tryz.func89 Tryz.call89 fun β hf=>?_;exact dm
theorem D2 (S:bT) (N:Int) (P:List UInt8) (D K u:Int) (Y:List UInt8) (W:List Vl) (H:List Ty) (Q:List Nd) (O q B:Int) (G:List UInt8) (V:List Vl) (E:List Ty) (M:List Nd) (I J p:Int) (C:List UInt8) (A:List Vl) (cK:List Ty) (dH:List Nd) (x:Nd) (hx:b8 x<=8589934593) (U:aM (.mk 8 q J [] [.mk D K u Y W H Q] [(aZ x).1] [])<=8589934593) (hl:S.st.length<=1000000000):iD 89 S [.c (aX (.mk 2 N 88 P [x])),.c (.sl 7 (aa [.mk D K u Y W H Q,.mk O q B G V E M,.mk I J p C A cK dH]))] (bl S [.mk 8 q J [] [.mk D K u Y W H Q] [(aZ x).1] []]):=by
 have hp:=fJ S (.mk 8 q J [] [.mk D K u Y W H Q] [(aZ x).1] []) U hl;have hq:=ko x hx;clear U;generalize aZ x=tp at hq hp ⊢;obtain⟨⟨T,us⟩,e0⟩:=tp;obtain⟨j1,j2,j3,j4,j5⟩:=x;refine mn Tryz.func89 Tryz.call89 fun β hf=>?_;exact dm
theorem MX (S:bT) (N:Int) (P:List UInt8) (D K u:Int) (Y:List UInt8) (W:List Vl) (H:List Ty) (U:List Nd) (Q J p:Int) (M:List UInt8) (V:List Vl) (I:List Ty) (E:List Nd) (T:aM (.mk D K u Y (.mk Q J p M V I E::W) H U)<=8589934000) (A:S.st.length<=1000000000):iD 89 S [.c (aX (.mk 2 N 85 P [])),.c (.sl 7 (aa [.mk D K u Y (.mk Q J p M V I E::W) H U]))] (bl S [.mk D K u Y (.mk Q J p M V I E::W) H U,bz (aO 7 u) (bz (.mk Q J p M V I E) (aO 4 K))]):=by
 have h1:=cH 7 u;have h2:=cH 4 K;have O:=iw (.mk Q J p M V I E) (aO 4 K);have G:=iw (aO 7 u) (bz (.mk Q J p M V I E) (aO 4 K));have C:=XY S (.mk D K u Y (.mk Q J p M V I E::W) H U) (bz (aO 7 u) (bz (.mk Q J p M V I E) (aO 4 K))) bn (by simp only[aM,aJ]at T;simp only[dP,ff,aM];omega) A;clear T;refine mn Tryz.func89 Tryz.call89 fun β hf=>?_;exact dm
theorem E6 (S:bT) (N:Int) (Y:List UInt8) (D K u:Int) (U:List UInt8) (W:List Vl) (H:List Ty) (Q:List Nd) (P q B:Int) (G:List UInt8) (V:List Vl) (E:List Ty) (O:List Nd) (M J p:Int) (I:List UInt8) (C:List Vl) (A:List Ty) (dH:List Nd) (k4 T a4:Int) (s4:List UInt8) (oP:List Vl) (lK:List Ty) (oQ:List Nd) (h3:0<=J/\J<=1152921504606846976) (h4:0<=T/\T<=1152921504606846976) (h:J<1) (hl:S.st.length<=1000000000):iD 89 S [.c (aX (.mk 2 N 86 Y [])),.c (.sl 7 (aa [.mk D K u U W H Q,.mk P q B G [.mk M J p I C A dH,.mk k4 T a4 s4 oP lK oQ] E O]))] (bl S [cB []]):=by
 have hw:IntKind.i64.wrap (J+T)=J+T:=gW bn bn;have BR:decide (J<1)=true:=aam h;clear h;have hp:=fJ S (cB []) ek hl;refine mn Tryz.func89 Tryz.call89 fun β hf=>?_;have BJ:=fj;exact dm
theorem E7 (S:bT) (N:Int) (Y:List UInt8) (D K u:Int) (U:List UInt8) (W:List Vl) (H:List Ty) (Q:List Nd) (P q B:Int) (G:List UInt8) (V:List Vl) (E:List Ty) (O:List Nd) (M J p:Int) (I:List UInt8) (C:List Vl) (A:List Ty) (dH:List Nd) (k4 T a4:Int) (s4:List UInt8) (oP:List Vl) (lK:List Ty) (oQ:List Nd) (h3:0<=J/\J<=1152921504606846976) (h4:0<=T/\T<=1152921504606846976) (h:¬J<1) (h2:T<1) (hl:S.st.length<=1000000000):iD 89 S [.c (aX (.mk 2 N 86 Y [])),.c (.sl 7 (aa [.mk D K u U W H Q,.mk P q B G [.mk M J p I C A dH,.mk k4 T a4 s4 oP lK oQ] E O]))] (bl S [cB []]):=by
 have hw:IntKind.i64.wrap (J+T)=J+T:=gW bn bn;have BR:decide (J<1)=false:=aan h;have wg:decide (T<1)=true:=aam h2;have U4:(bif decide (J<1)then true else decide (T<1))=true:=by rw[BR,wg];rfl
 clear h h2;have hp:=fJ S (cB []) ek hl;refine mn Tryz.func89 Tryz.call89 fun β hf=>?_;have GU:=fj;exact dm
theorem E8 (S:bT) (N:Int) (Y:List UInt8) (D K u:Int) (U:List UInt8) (W:List Vl) (H:List Ty) (Q:List Nd) (P q B:Int) (G:List UInt8) (V:List Vl) (E:List Ty) (O:List Nd) (M J I:Int) (C:List UInt8) (A:List Vl) (cK:List Ty) (dH:List Nd) (k4 T a4:Int) (s4:List UInt8) (oP:List Vl) (lK:List Ty) (oQ:List Nd) (h3:0<=J/\J<=1152921504606846976) (h4:0<=T/\T<=1152921504606846976) (h:¬J<1) (h2:¬T<1) (p:J+T≠K) (hl:S.st.length<=1000000000):iD 89 S [.c (aX (.mk 2 N 86 Y [])),.c (.sl 7 (aa [.mk D K u U W H Q,.mk P q B G [.mk M J I C A cK dH,.mk k4 T a4 s4 oP lK oQ] E O]))] (bl S [cB []]):=by
 have hw:IntKind.i64.wrap (J+T)=J+T:=gW bn bn;have BR:decide (J<1)=false:=aan h;have wg:decide (T<1)=false:=aan h2;have WK:(IntKind.i64.wrap (J+T) != K)=true:=by rw[hw];simpa using p
 have U4:(bif decide (J<1)then true else decide (T<1))=false:=by rw[BR,wg];rfl
 clear h h2 p;have hp:=fJ S (cB []) ek hl;refine mn Tryz.func89 Tryz.call89 fun β hf=>?_;have Jd:=fj;exact dm
theorem HT (S:bT) (N:Int) (P:List UInt8) (D K u:Int) (Y:List UInt8) (W:List Vl) (H:List Ty) (Q:List Nd) (O q B:Int) (G:List UInt8) (V:List Vl) (E:List Ty) (M:List Nd) (I J p:Int) (C:List UInt8) (A:List Vl) (cK:List Ty) (dH:List Nd) (k4 T a4:Int) (s4:List UInt8) (oP:List Vl) (lK:List Ty) (oQ:List Nd) (h3:0<=J/\J<=1152921504606846976) (h4:0<=T/\T<=1152921504606846976) (h:¬(J<1\/T<1\/J+T≠K)) (U:aM (.mk D K u Y W H Q)<=4294967000) (hl:S.st.length<=1000000000):iD 89 S [.c (aX (.mk 2 N 86 P [])),.c (.sl 7 (aa [.mk D K u Y W H Q,.mk O q B G [.mk I J p C A cK dH,.mk k4 T a4 s4 oP lK oQ] E M]))] (bl S [cB [bz (.mk D J u Y W H Q) (.mk D T u Y W H Q)]]):=by
 have hw:IntKind.i64.wrap (J+T)=J+T:=gW bn bn;have BR:decide (J<1)=false:=aan bn;have wg:decide (T<1)=false:=aan bn;have WK:(IntKind.i64.wrap (J+T) != K)=false:=by rw[hw];simpa using (show J+T=K by omega)
 have U4:(bif decide (J<1)then true else decide (T<1))=false:=by rw[BR,wg];rfl
 have R6:(bif (bif decide (J<1)then true else decide (T<1))then true else(IntKind.i64.wrap (J+T) != K))=false:=by rw[U4,WK];rfl
 have h1:=iw (.mk D J u Y W H Q) (.mk D T u Y W H Q);have h2:=fL [bz (.mk D J u Y W H Q) (.mk D T u Y W H Q)];have hp:=fJ S (cB [bz (.mk D J u Y W H Q) (.mk D T u Y W H Q)]) (by simp only[aM]at U;simp only[eG,dP,aM,aJ];omega) hl;clear h U;refine mn Tryz.func89 Tryz.call89 fun β hf=>?_;exact dm
theorem Kr (S:bT) (N:Int) (U:List UInt8) (D K u:Int) (T:List UInt8) (W:List Vl) (Q:List Ty) (P:List Nd) (O q H:Int) (G:List UInt8) (V:List Vl) (E:List Ty) (M:List Nd) (J I p:Int) (C:List UInt8) (B:List Vl) (A:List Ty) (dH:List Nd) (k4 n4 Y:Int) (s4:List UInt8) (oP:List Vl) (lK:List Ty) (oQ:List Nd) (k5 n5 a5:Int) (s5:List UInt8) (jZ:List Vl) (hD:List Ty) (j6:List Nd) (h:H≠Y) (hl:S.st.length<=1000000000):iD 89 S [.c (aX (.mk 2 N 87 U [])),.c (.sl 7 (aa [.mk D K u T [.mk O q H G (.mk J I p C B A dH::V) E M,.mk k4 n4 Y s4 (.mk k5 n5 a5 s5 jZ hD j6::oP) lK oQ] Q P]))] (bl S [cB []]):=by
 have hc:(H != Y)=true:=by simpa using h
 clear h;have hp:=fJ S (cB []) ek hl;refine mn Tryz.func89 Tryz.call89 fun β hf=>?_;have Je:=fj;exact dm
theorem Ks (S:bT) (G:Int) (C:List UInt8) (A u q:Int) (s1:List UInt8) (W:List Vl) (af:List Ty) (aB:List Nd) (k2 n2 H:Int) (s2:List UInt8) (V:List Vl) (bq:List Ty) (bJ:List Nd) (Q J p:Int) (M:List UInt8) (U:List Vl) (I:List Ty) (E:List Nd) (k4 n4 Y:Int) (s4:List UInt8) (oP:List Vl) (lK:List Ty) (oQ:List Nd) (N T D:Int) (B:List UInt8) (P:List Vl) (O:List Ty) (K:List Nd) (r:Int) (hq:ag 120 [bM (.mk Q J p M U I E),bM (.mk N T D B P O K)] (aF r)) (h:H=Y) (h2:r≠0) (hl:S.st.length<=1000000000):iD 89 S [.c (aX (.mk 2 G 87 C [])),.c (.sl 7 (aa [.mk A u q s1 [.mk k2 n2 H s2 (.mk Q J p M U I E::V) bq bJ,.mk k4 n4 Y s4 (.mk N T D B P O K::oP) lK oQ] af aB]))] (bl S [cB []]):=by
 have hc:(H != Y)=false:=by simpa using h
 have wg:(r != 0)=true:=by simpa using h2
 clear h h2;have hp:=fJ S (cB []) ek hl;refine mn Tryz.func89 Tryz.call89 fun β hf=>?_;have LR:=fj;exact dm
theorem Kt (S:bT) (A:Int) (u:List UInt8) (k1 n1 a1:Int) (s1:List UInt8) (W:List Vl) (af:List Ty) (aB:List Nd) (k2 q H:Int) (s2:List UInt8) (V:List Vl) (bq:List Ty) (bJ:List Nd) (Q J p:Int) (M:List UInt8) (U:List Vl) (I:List Ty) (E:List Nd) (k4 T Y:Int) (s4:List UInt8) (oP:List Vl) (lK:List Ty) (oQ:List Nd) (N P D:Int) (B:List UInt8) (O:List Vl) (K:List Ty) (G:List Nd) (hq:ag 120 [bM (.mk Q J p M U I E),bM (.mk N P D B O K G)] (aF 0)) (h:H=Y) (hn2:0<=q/\q<=1152921504606846976) (hn4:0<=T/\T<=1152921504606846976) (C:q>1152921504606846976-T) (hl:S.st.length<=1000000000):iD 89 S [.c (aX (.mk 2 A 87 u [])),.c (.sl 7 (aa [.mk k1 n1 a1 s1 [.mk k2 q H s2 (.mk Q J p M U I E::V) bq bJ,.mk k4 T Y s4 (.mk N P D B O K G::oP) lK oQ] af aB]))] (((11,S):MR)):=by
 have hw:IntKind.i64.wrap (1152921504606846976-T)=1152921504606846976-T:=gW bn bn;have hc:(H != Y)=false:=by simpa using h
 have wg:((0:Int) != 0)=false:=rfl;have hg:(bif (H != Y)then true else((0:Int) != 0))=false:=by rw[hc];rfl
 have WK:decide (q>IntKind.i64.wrap (1152921504606846976-T))=true:=by rw[hw];exact aam C
 clear h C;refine mn Tryz.func89 Tryz.call89 fun β hf=>?_;exact dm
theorem Ku (S:bT) (nN:Int) (nS:List UInt8) (k1 n1 a1:Int) (s1:List UInt8) (O:List Vl) (af:List Ty) (aB:List Nd) (D q H:Int) (G:List UInt8) (V:List Vl) (U:List Ty) (W:List Nd) (Q J p:Int) (M:List UInt8) (Y:List Vl) (I:List Ty) (E:List Nd) (k4 T P:Int) (s4:List UInt8) (oP:List Vl) (lK:List Ty) (oQ:List Nd) (N K C:Int) (B:List UInt8) (A:List Vl) (u:List Ty) (j6:List Nd) (hq:ag 120 [bM (.mk Q J p M Y I E),bM (.mk N K C B A u j6)] (aF 0)) (h:H=P) (hn2:0<=q/\q<=1152921504606846976) (hn4:0<=T/\T<=1152921504606846976) (h3:¬q>1152921504606846976-T) (hv:aM (.mk D q H G (.mk Q J p M Y I E::V) U W)<=8589934000) (hl:S.st.length<=1000000000):iD 89 S [.c (aX (.mk 2 nN 87 nS [])),.c (.sl 7 (aa [.mk k1 n1 a1 s1 [.mk D q H G (.mk Q J p M Y I E::V) U W,.mk k4 T P s4 (.mk N K C B A u j6::oP) lK oQ] af aB]))] (bl S [cB [.mk D (q+T) H G (.mk Q J p M Y I E::V) U W]]):=by
 have hw:IntKind.i64.wrap (1152921504606846976-T)=1152921504606846976-T:=gW bn bn;have hc:(H != P)=false:=by simpa using h
 have wg:((0:Int) != 0)=false:=rfl;have hg:(bif (H != P)then true else((0:Int) != 0))=false:=by rw[hc];rfl
 have QZ:IntKind.i64.wrap (q+T)=q+T:=gW bn bn;have WK:decide (q>IntKind.i64.wrap (1152921504606846976-T))=false:=by rw[hw];exact aan h3
 have h2:=fL [.mk D (q+T) H G (.mk Q J p M Y I E::V) U W];have hp:=fJ S (cB [.mk D (q+T) H G (.mk Q J p M Y I E::V) U W]) (by simp only[aM,aJ]at hv;simp only[eG,aM,aJ];omega) hl;rw[<- QZ]at h2 hp ⊢;clear h h3 hv QZ;refine mn Tryz.func89 Tryz.call89 fun β hf=>?_;exact dm
end Go.Proofs
namespace Go.Proofs
open Go.cq
theorem D5:∀(l:List Vl) (k:Vl),cg l k<=l.length
 | [],_=>aak _
 | x::l,k=>by
  simp only[cg];split
  ·have:=D5 l k;simp only[aac];omega
  ·omega
theorem K3:∀{l:List Vl} {k:Vl} {i:Nat} {x:Vl},i<cg l k->l[i]?=some x->dx (lJ x) k<0
 | [],_,i,x,h,e=>by simp at e
 | y::l,k,i,x,h,e=>by
  simp only[cg]at h;split at h
  ·rename_i E;cases i with
   | zero=>simp at e;subst e;exact E
   | succ i=>simp at e;exact K3 bn e
  ·omega
attribute [local irreducible] AK ai bh bt dI dS dx
theorem E9 (x k y:Vl) (t:Ty) (O:(eC x)[0]?=some y) (hq:ag 76 [bM y,bM k] (aF (dx y k))):ag 136 [bM x,bM k] (aF (dx (lJ x) k)):=by
 have D:lJ x=y:=by unfold lJ;rw[List.getD_eq_getElem?_getD,O];rfl
 rw[D];have Y:(aa (eC x))[0]?=some (bM y):=by rw[jx,O];rfl
 clear D O;generalize dx y k=r at hq ⊢;obtain⟨U,K,u,T,W,H,Q⟩:=x;obtain⟨S,q,B,G,V,E,P⟩:=k;obtain⟨N,J,p,M,I,C,A⟩:=y;refine qn Tryz.func136 Tryz.call136 fun β hf=>?_;exact dq
theorem X8 (S W:Nat) (h:S+W<=4000000000):IntKind.i64.wrap ((IntKind.u64.wrap (IntKind.i64.wrap ((S:Nat)+(W:Nat)))).fdiv (2^(min 1 IntKind.u64.bits)))=(((S+W)/2:Nat):Int):=by
 rw[gW (n:=(S:Int)+W) bn bn];have h1:IntKind.u64.wrap ((S:Int)+W)=((S+W:Nat):Int):=by
  rw[IntKind.wrap_u64];omega
 rw[h1];have h2:((S+W:Nat):Int).fdiv (2^(min 1 IntKind.u64.bits))=(((S+W)/2:Nat):Int):=by
  rw[show(min 1 IntKind.u64.bits)=1 from rfl];rw[Int.fdiv_eq_ediv_of_nonneg _ cc];omega
 rw[h2,gW bn bn]
theorem Fg (m:List Vl) (k:Vl) (hl:m.length<=1000000000) (hq:∀x∈m,ag 136 [bM x,bM k] (aF (dx (lJ x) k)))
  (M:∀(i:Nat) x,cg m k<=i->m[i]?=some x->¬dx (lJ x) k<0) :
  ag 135 [.sl 7 (aa m),bM k,.rM 136 []] (.gy [aF (cg m k:Nat),.bool (eM m k)]):=by
 have A:=D5 m k;have Q:∀{i:Nat} {x:Vl},i<cg m k->m[i]?=some x->dx (lJ x) k<0:=fun h e=>K3 h e;have T:eM m k=match m[cg m k]? with|some x=>decide (dx (lJ x) k=0)|none=>false:=rfl
 generalize cg m k=p at A Q M T ⊢;generalize eM m k=fd at T ⊢;have u:=az m;obtain⟨D,q,H,G,V,E,N⟩:=k;refine qn Tryz.func135 Tryz.call135 fun β hf=>?_;refine dn ?_;refine AK.eK (α:=Nat×Nat) (fun z=>z.1<=p/\p<=z.2/\z.2<=m.length) (fun z=>z.2-z.1)
  (fun z=>[(0,.c (.sl 7 (aa m))),(2,.c (.rM 136 [])),(4,.ptr 4 0),(8,.c (aF ((aa m).length:Nat))),(9,.c (aF (z.1:Nat))),(10,.c (aF (z.2:Nat)))])
  (fun z=>[(4,[.c (aF D),.c (aF q),.c (aF H),.c (.str G),.c (.sl 7 (aa V)),.c (.sl 2 (aq E)),.c (.sl 5 (aI N))])]) (fun _=>[]) [4] (0,(aa m).length)
  ⟨Nat.zero_le _,by show p<=(aa m).length;omega,by show(aa m).length<=_;omega⟩ ⟨.inl rfl,.inl rfl,.inl rfl,.inl rfl,.inl rfl,.inl rfl,trivial⟩ ⟨rfl,trivial⟩ trivial rfl rfl rfl ?_
 rintro⟨S,W⟩ ⟨h1,h2,h3⟩ ih;simp only at h1 h2 h3;by_cases hlt:S<W
 ·have hc:decide (((S:Nat):Int)<((W:Nat):Int))=true:=aam bn;have Y:=X8 S W bn;obtain⟨x,O⟩:∃x,m[(S+W)/2]?=some x:=⟨_,List.getElem?_eq_getElem bn⟩
  have U:=hq x (aaw O);have K:(aa m)[(S+W)/2]?=some (bM x):=by rw[jx,O];rfl
  have C := @M ((S+W)/2) x;have B := @Q ((S+W)/2) x;clear hq;generalize dx (lJ x) (.mk D q H G V E N)=r at U C B;obtain⟨k1,n1,a1,s1,P,af,aB⟩:=x;by_cases I:r<0
  ·have wg:decide (r<0)=true:=aam I;have hw:IntKind.i64.wrap ((((S+W)/2:Nat):Int)+1)=(((S+W)/2+1:Nat):Int):=by rw[gW bn bn];omega
   have J:(S+W)/2+1<=p:=by
    rcases Nat.lt_or_ge ((S+W)/2) p with h|h
    ·omega
    ·exact absurd I (C h O)
   repeat' (first|refine sz ?_|(refine zc ?_ ?_<;>intro h<;>first|(cases h;done)|rw[h]|skip)|refine uI rfl ((S+W)/2) Y K rfl ?_|refine uC rfl U ?_|((first|refine zt ?_|refine zu ?_ ?_)<;>intro h<;>(fail_if_success (cases h;done))<;>rw[h]))
   refine AK.fW [(4,4)] [] (env':=[(0,.c (.sl 7 (aa m))),(2,.c (.rM 136 [])),(4,.ptr 4 0),(8,.c (aF ((aa m).length:Nat))),(9,.c (aF (((S+W)/2+1:Nat):Int))),(10,.c (aF ((W:Nat):Int)))])
    (bs':=[(4,[.c (aF D),.c (aF q),.c (aF H),.c (.str G),.c (.sl 7 (aa V)),.c (.sl 2 (aq E)),.c (.sl 5 (aI N))])]) (ts':=[]) (us':=[4])
    ⟨⟨_,rfl,.inl rfl⟩,⟨_,rfl,.inl rfl⟩,⟨_,rfl,⟨_,rfl,rfl⟩⟩,⟨_,rfl,.inl rfl⟩,⟨_,rfl,.inl (congrArg (fun z=>AV.c (.int .i64 z)) (by rw[Y];exact hw))⟩,⟨_,rfl,.inl rfl⟩,trivial⟩ ⟨⟨_,_,rfl,rfl,⟨_,_,rfl,.inl rfl,_,_,rfl,.inl rfl,_,_,rfl,.inl rfl,_,_,rfl,.inl rfl,_,_,rfl,.inl rfl,_,_,rfl,.inl rfl,_,_,rfl,.inl rfl,rfl⟩⟩,trivial⟩ rfl ?_
   exact ih ((S+W)/2+1,W) ⟨by show _<=p;omega,by show p<=_;omega,by show _<=m.length;omega⟩ (by show _-_<W-S;omega)
  ·have wg:decide (r<0)=false:=aan I;have J:p<=(S+W)/2:=by
    rcases Nat.lt_or_ge ((S+W)/2) p with h|h
    ·exact absurd (B h O) I
    ·exact h
   repeat' (first|refine sz ?_|(refine zc ?_ ?_<;>intro h<;>first|(cases h;done)|rw[h]|skip)|refine uI rfl ((S+W)/2) Y K rfl ?_|refine uC rfl U ?_|((first|refine zt ?_|refine zu ?_ ?_)<;>intro h<;>(fail_if_success (cases h;done))<;>rw[h]))
   refine AK.fW [(4,4)] [] (env':=[(0,.c (.sl 7 (aa m))),(2,.c (.rM 136 [])),(4,.ptr 4 0),(8,.c (aF ((aa m).length:Nat))),(9,.c (aF ((S:Nat):Int))),(10,.c (aF (((S+W)/2:Nat):Int)))])
    (bs':=[(4,[.c (aF D),.c (aF q),.c (aF H),.c (.str G),.c (.sl 7 (aa V)),.c (.sl 2 (aq E)),.c (.sl 5 (aI N))])]) (ts':=[]) (us':=[4])
    ⟨⟨_,rfl,.inl rfl⟩,⟨_,rfl,.inl rfl⟩,⟨_,rfl,⟨_,rfl,rfl⟩⟩,⟨_,rfl,.inl rfl⟩,⟨_,rfl,.inl rfl⟩,⟨_,rfl,.inl (congrArg (fun z=>AV.c (.int .i64 z)) Y)⟩,trivial⟩ ⟨⟨_,_,rfl,rfl,⟨_,_,rfl,.inl rfl,_,_,rfl,.inl rfl,_,_,rfl,.inl rfl,_,_,rfl,.inl rfl,_,_,rfl,.inl rfl,_,_,rfl,.inl rfl,_,_,rfl,.inl rfl,rfl⟩⟩,trivial⟩ rfl ?_
   exact ih (S,(S+W)/2) ⟨by show _<=p;omega,by show p<=_;omega,by show _<=m.length;omega⟩ (by show _-_<W-S;omega)
 ·have hc:decide (((S:Nat):Int)<((W:Nat):Int))=false:=aan bn;have he:S=p:=by omega
  subst he;clear ih Q M;by_cases hn:S<m.length
  ·have WK:decide (((S:Nat):Int)<(((aa m).length:Nat):Int))=true:=aam bn;obtain⟨x,O⟩:∃x,m[S]?=some x:=⟨_,List.getElem?_eq_getElem hn⟩
   rw[O]at T;have U:=hq x (aaw O);have K:(aa m)[S]?=some (bM x):=by rw[jx,O];rfl
   clear hq;simp only at T;subst T;generalize dx (lJ x) (.mk D q H G V E N)=r at U ⊢;obtain⟨k1,n1,a1,s1,P,af,aB⟩:=x;exact dq
  ·have WK:decide (((S:Nat):Int)<(((aa m).length:Nat):Int))=false:=aan bn;rw[List.getElem?_eq_none bn]at T;simp only at T;subst T;clear hq;exact dq
theorem HU (m:List Vl) (k:Vl) (A:m.length<=1000000000) (hq:∀x∈m,ag 136 [bM x,bM k] (aF (dx (lJ x) k)))
  (M:∀(i:Nat) x,cg m k<=i->m[i]?=some x->¬dx (lJ x) k<0) :
  ag 113 [.sl 7 (aa m),bM k] (.gy [aF (cg m k:Nat),.bool (eM m k)]):=by
 have G:=Fg m k A hq M;clear hq M;obtain⟨D,q,H,Q,V,E,Y⟩:=k;refine qn Tryz.func113 Tryz.call113 fun β hf=>?_;exact dq
end Go.Proofs
