/- What reckon and divide of package run's machine do. -/
import Derived.Test.YtdnpapgijbhofaaGreatDoorNum2Rt
open Go.IntKind
open Go.Proofs.Tryz
set_option linter.defProp false
set_option maxHeartbeats 0
set_option linter.unusedVariables false
set_option linter.unusedSimpArgs false
set_option maxRecDepth 100000
namespace Go.Proofs
open Go.cB
def eS(k n:Int):aE (aI k n)=1:=rfl
def eE(l:L Vl):aE (bN l)=aB l+1:=by simp only[bN,aE,aU,aM,aab];omega
def dN(a b:Vl):aE (aY a b)=aE a+aE b+1:=by simp only[aY,aE,aB,aU,aM,aab];omega
attribute [local irreducible] AK ai aR bW dG dR lF sQ jE qT gk mS ofM
def Nu(S:bE)(k:Int)(J K W:Int)(u:L UInt8)(p:L Vl)(V:L Ty)(U:L Nd)(I Y B:Int)(H:L UInt8)(G:L Vl)(T:L Ty)(Q:L Nd)(q r e:Int)(A:e≠0)(E:gk K Y=(q,r,e))(P:S.st.length<=1000000000):hJ 164 S [.c (aA k),.c (bA (.mk J K W u p V U)),.c (bA (.mk I Y B H G T Q))] (aQ S [bN []]):=by
 have hq:=sS K Y;rw[E]at hq;have D:(e != 0)=true:=by simpa using A
 have O:=fA S (bN []) gF P;refine mn func164 call164 λβ hf=>?_;have N:=eU;exact dm
def Qc(S:bE)(k:Int)(J K W:Int)(u:L UInt8)(p:L Vl)(V:L Ty)(U:L Nd)(I Y B:Int)(H:L UInt8)(G:L Vl)(T:L Ty)(Q:L Nd)(q r:Int)(E:k=5)(A:I=5)(P:gk K Y=(q,r,0))(O:S.st.length<=1000000000):hJ 164 S [.c (aA k),.c (bA (.mk J K W u p V U)),.c (bA (.mk I Y B H G T Q))] (aQ S [bN [aY (aI (4) q) (aI 5 r)]]):=by
 have hq:=sS K Y;rw[P]at hq;have N:(k==5)=true:=by simpa using E
 have M:(I==5)=true:=by simpa using A
 have h1:=cu (4) q;have h2:=cu 5 r;have D:=gV (aI (4) q) (aI 5 r);have C:=fC [aY (aI (4) q) (aI 5 r)];have hp:=fA S (bN [aY (aI (4) q) (aI 5 r)]) gF O;exact mdm func164 call164
def TD(S:bE)(k:Int)(J K W:Int)(u:L UInt8)(p:L Vl)(V:L Ty)(U:L Nd)(I Y B:Int)(H:L UInt8)(G:L Vl)(T:L Ty)(Q:L Nd)(q r:Int)(E:k=5)(A:I≠5)(P:gk K Y=(q,r,0))(O:S.st.length<=1000000000):hJ 164 S [.c (aA k),.c (bA (.mk J K W u p V U)),.c (bA (.mk I Y B H G T Q))] (aQ S [bN [aY (aI (k) q) (aI 5 r)]]):=by
 have hq:=sS K Y;rw[P]at hq;have N:(k==5)=true:=by simpa using E
 have M:(I==5)=false:=by simpa using A
 have h1:=cu (k) q;have h2:=cu 5 r;have D:=gV (aI (k) q) (aI 5 r);have C:=fC [aY (aI (k) q) (aI 5 r)];have hp:=fA S (bN [aY (aI (k) q) (aI 5 r)]) gF O;exact mdm func164 call164
def zi(S:bE)(k:Int)(J K W:Int)(u:L UInt8)(p:L Vl)(V:L Ty)(U:L Nd)(I Y B:Int)(H:L UInt8)(G:L Vl)(T:L Ty)(Q:L Nd)(q r:Int)(E:k≠5)(P:gk K Y=(q,r,0))(O:S.st.length<=1000000000):hJ 164 S [.c (aA k),.c (bA (.mk J K W u p V U)),.c (bA (.mk I Y B H G T Q))] (aQ S [bN [aY (aI (k) q) (aI 4 r)]]):=by
 have hq:=sS K Y;rw[P]at hq;have N:(k==5)=false:=by simpa using E
 have h1:=cu (k) q;have h2:=cu 4 r;have M:=gV (aI (k) q) (aI 4 r);have D:=fC [aY (aI (k) q) (aI 4 r)];have C:=fA S (bN [aY (aI (k) q) (aI 4 r)]) gF O;exact mdm func164 call164
def Nv(S:bE)(q K W:Int)(u:L UInt8)(p:L Vl)(Y:L Ty)(V:L Nd)(U:S.st.length<=1000000000):hJ 138 S [.c (aA 93),.c (.sl 7 (aa [.mk q K W u p Y V]))] (aQ S [aI 4 (mS K).1]):=by have hq:=zX K;have D:=fA S (aI 4 (mS K).1) gF U;generalize mS K=r at hq D ⊢;obtain⟨r,e⟩:=r;have h1:=cu 4 r;exact mdm func138 call138
def KW(S:bE)(q K W:Int)(u:L UInt8)(p:L Vl)(Y:L Ty)(V:L Nd)(O:K<0)(U:S.st.length<=1000000000):hJ 138 S [.c (aA 94),.c (.sl 7 (aa [.mk q K W u p Y V]))] (aQ S [bN []]):=by have D:decide (K<0)=true:=aam O;have T:=fA S (bN []) gF U;refine mn func138 call138 λβ hf=>?_;have Q:=eU;exact dm
def KX(S:bE)(q K W:Int)(u:L UInt8)(p:L Vl)(Y:L Ty)(V:L Nd)(O:¬K<0)(U:S.st.length<=1000000000):hJ 138 S [.c (aA 94),.c (.sl 7 (aa [.mk q K W u p Y V]))] (aQ S [bN [aI 4 K]]):=by have D:decide (K<0)=false:=aan O;have h1:=cu 4 K;have h2:=fC [aI 4 K];have T:=fA S (bN [aI 4 K]) gF U;exact mdm func138 call138
def Nw(S:bE)(q K W:Int)(u:L UInt8)(p:L Vl)(Y:L Ty)(V:L Nd)(U:S.st.length<=1000000000):hJ 138 S [.c (aA 95),.c (.sl 7 (aa [.mk q K W u p Y V]))] (aQ S [aI 3 K]):=by have h1:=cu 3 K;have D:=fA S (aI 3 K) gF U;exact mdm func138 call138
def E1(S:bE)(q K W:Int)(u:L UInt8)(p:L Vl)(V:L Ty)(U:L Nd)(I Y B:Int)(H:L UInt8)(G:L Vl)(T:L Ty)(Q:L Nd)(r:Int)(E:sQ K Y=(r,0))(P:S.st.length<=1000000000):hJ 138 S [.c (aA 69),.c (.sl 7 (aa [.mk q K W u p V U,.mk I Y B H G T Q]))] (aQ S [aI (ofM 69 q I) r]):=by have hq:=Fs K Y;rw[E]at hq;have O:=mE 69 q I;have h1:=cu (ofM 69 q I) r;have D:=fA S (aI (ofM 69 q I) r) gF P;exact mdm func138 call138
def DW(S:bE)(q K W:Int)(u:L UInt8)(p:L Vl)(V:L Ty)(U:L Nd)(I Y B:Int)(H:L UInt8)(G:L Vl)(T:L Ty)(Q:L Nd)(r e:Int)(A:e≠0)(E:sQ K Y=(r,e))(P:S.st.length<=1000000000):hJ 138 S [.c (aA 69),.c (.sl 7 (aa [.mk q K W u p V U,.mk I Y B H G T Q]))] (((e,S):MR)):=by
 have hq:=Fs K Y;rw[E]at hq;have O:=mE 69 q I;have D:(e != 0)=true:=by simpa using A
 exact mdm func138 call138
def E2(S:bE)(q K W:Int)(u:L UInt8)(p:L Vl)(V:L Ty)(U:L Nd)(I Y B:Int)(H:L UInt8)(G:L Vl)(T:L Ty)(Q:L Nd)(r:Int)(E:qT K Y=(r,0))(P:S.st.length<=1000000000):hJ 138 S [.c (aA 71),.c (.sl 7 (aa [.mk q K W u p V U,.mk I Y B H G T Q]))] (aQ S [aI (ofM 71 q I) r]):=by have hq:=FP K Y;rw[E]at hq;have O:=mE 71 q I;have h1:=cu (ofM 71 q I) r;have D:=fA S (aI (ofM 71 q I) r) gF P;exact mdm func138 call138
def DX(S:bE)(q K W:Int)(u:L UInt8)(p:L Vl)(V:L Ty)(U:L Nd)(I Y B:Int)(H:L UInt8)(G:L Vl)(T:L Ty)(Q:L Nd)(r e:Int)(A:e≠0)(E:qT K Y=(r,e))(P:S.st.length<=1000000000):hJ 138 S [.c (aA 71),.c (.sl 7 (aa [.mk q K W u p V U,.mk I Y B H G T Q]))] (((e,S):MR)):=by
 have hq:=FP K Y;rw[E]at hq;have O:=mE 71 q I;have D:(e != 0)=true:=by simpa using A
 exact mdm func138 call138
def DY(S:bE)(q K W:Int)(u:L UInt8)(p:L Vl)(V:L Ty)(U:L Nd)(I Y B:Int)(H:L UInt8)(G:L Vl)(T:L Ty)(Q:L Nd)(r e:Int)(A:e≠0)(E:jE K Y=(r,e))(O:S.st.length<=1000000000):hJ 138 S [.c (aA 70),.c (.sl 7 (aa [.mk q K W u p V U,.mk I Y B H G T Q]))] (((e,S):MR)):=by
 have hq:=vC K Y;rw[E]at hq;have N:=mE 70 q I;have D:(e != 0)=true:=by simpa using A
 have P:(e==0)=false:=by simpa using A
 have M:(bif (ofM 70 q I==5)then(e==0)else false)=false:=by rw[P];cases(ofM 70 q I==5)<;>rfl
 exact mdm func138 call138
def DZ(S:bE)(q K W:Int)(u:L UInt8)(p:L Vl)(V:L Ty)(U:L Nd)(I Y B:Int)(H:L UInt8)(G:L Vl)(T:L Ty)(Q:L Nd)(r:Int)(E:ofM 70 q I=5)(A:r<0)(P:jE K Y=(r,0))(O:S.st.length<=1000000000):hJ 138 S [.c (aA 70),.c (.sl 7 (aa [.mk q K W u p V U,.mk I Y B H G T Q]))] (aQ S [bN []]):=by
 have hq:=vC K Y;rw[P]at hq;have N:=mE 70 q I;have M:(ofM 70 q I==5)=true:=by simpa using E
 have J:decide (r<0)=true:=aam A;have D:=fA S (bN []) gF O;refine mn func138 call138 λβ hf=>?_;have C:=eU;exact dm
def D0(S:bE)(q K W:Int)(u:L UInt8)(p:L Vl)(V:L Ty)(U:L Nd)(I Y B:Int)(H:L UInt8)(G:L Vl)(T:L Ty)(Q:L Nd)(r:Int)(E:ofM 70 q I=5)(A:¬r<0)(P:jE K Y=(r,0))(O:S.st.length<=1000000000):hJ 138 S [.c (aA 70),.c (.sl 7 (aa [.mk q K W u p V U,.mk I Y B H G T Q]))] (aQ S [bN [aI (ofM 70 q I) r]]):=by
 have hq:=vC K Y;rw[P]at hq;have N:=mE 70 q I;have M:(ofM 70 q I==5)=true:=by simpa using E
 have J:decide (r<0)=false:=aan A;have h1:=cu (ofM 70 q I) r;have h2:=fC [aI (ofM 70 q I) r];have D:=fA S (bN [aI (ofM 70 q I) r]) gF O;exact mdm func138 call138
def D1(S:bE)(q K W:Int)(u:L UInt8)(p:L Vl)(V:L Ty)(U:L Nd)(I Y B:Int)(H:L UInt8)(G:L Vl)(T:L Ty)(Q:L Nd)(r:Int)(E:ofM 70 q I≠5)(P:jE K Y=(r,0))(O:S.st.length<=1000000000):hJ 138 S [.c (aA 70),.c (.sl 7 (aa [.mk q K W u p V U,.mk I Y B H G T Q]))] (aQ S [aI (ofM 70 q I) r]):=by
 have hq:=vC K Y;rw[P]at hq;have N:=mE 70 q I;have M:(ofM 70 q I==5)=false:=by simpa using E
 have h1:=cu (ofM 70 q I) r;have D:=fA S (aI (ofM 70 q I) r) gF O;exact mdm func138 call138
def lM(S:bE)(q K W:Int)(u:L UInt8)(p:L Vl)(Y:L Ty)(V:L Nd)(I U B:Int)(H:L UInt8)(G:L Vl)(T:L Ty)(Q:L Nd)(r:MR)(J:b8 164 S [.c (aA (ofM 72 q I)),.c (bA (.mk q K W u p Y V)),.c (bA (.mk I U B H G T Q))] (aA r.1) r.2):b8 138 S [.c (aA 72),.c (.sl 7 (aa [.mk q K W u p Y V,.mk I U B H G T Q]))] (aA r.1) r.2:=by have P:=mE 72 q I;exact mdm func138 call138
end Go.Proofs
namespace Go.Proofs
open Go.cB
def gI(b:Bool):aE (gU b)=1:=rfl
def ie(k n a:Int)(s:L UInt8):aE (.mk k n a s [] [] [])=s.length+1:=by simp only[aE,aB,aU,aM]
attribute [local irreducible] AK ai aR bW dG dR lF de tw gu aO
def y9(v w:Vl)(t:Ty)(A:fY t=false)(h1:bz v t=true)(h2:bz w t=true)(C:aE v<=1099511627776):af 165 [bA v,bA w] (aA (de v w)):=by have hq:=nK v w t A h1 h2 C;obtain⟨q,K,W,u,p,Y,V⟩:=v;obtain⟨I,U,B,H,G,T,S⟩:=w;exact qdq func165 call165
def TE(S:bE)(P:Int)(O:L UInt8)(q K W:Int)(u:L UInt8)(p:L Vl)(Y:L Ty)(V:L Nd)(I U B:Int)(H:L UInt8)(G:L Vl)(T:L Ty)(Q:L Nd)(hq:af 165 [bA (.mk q K W u p Y V),bA (.mk I U B H G T Q)] (aA (de (.mk q K W u p Y V) (.mk I U B H G T Q))))(N:S.st.length<=1000000000):hJ 139 S [.c (aS (.mk 2 P 73 O [])),.c (.sl 7 (aa [.mk q K W u p Y V,.mk I U B H G T Q]))] (aQ S [aI 3 (de (.mk q K W u p Y V) (.mk I U B H G T Q))]):=by generalize de (.mk q K W u p Y V) (.mk I U B H G T Q)=r at hq ⊢;have h1:=cu 3 r;have D:=fA S (aI 3 r) fc N;exact mdm func139 call139
def VD(S:bE)(G:Int)(Y:L UInt8)(q K W:Int)(u:L UInt8)(p:L Vl)(V:L Ty)(U:L Nd)(T:S.st.length<=1000000000):hJ 139 S [.c (aS (.mk 2 G 74 Y [])),.c (.sl 7 (aa [.mk q K W u p V U]))] (aQ S [gU (K==0)]):=by have h1:=je (K==0);have D:=fA S (gU (K==0)) fc T;exact mdm func139 call139
def VE(S:bE)(G:Int)(Y:L UInt8)(q K W:Int)(u:L UInt8)(p:L Vl)(V:L Ty)(U:L Nd)(T:S.st.length<=1000000000):hJ 139 S [.c (aS (.mk 2 G 75 Y [])),.c (.sl 7 (aa [.mk q K W u p V U]))] (aQ S [gU (decide (K<0))]):=by have h1:=je (decide (K<0));have D:=fA S (gU (decide (K<0))) fc T;exact mdm func139 call139
def VF(S:bE)(G:Int)(Y:L UInt8)(q K W:Int)(u:L UInt8)(p:L Vl)(V:L Ty)(U:L Nd)(T:S.st.length<=1000000000):hJ 139 S [.c (aS (.mk 2 G 76 Y [])),.c (.sl 7 (aa [.mk q K W u p V U]))] (aQ S [gU (decide (K>0))]):=by have h1:=je (decide (K>0));have D:=fA S (gU (decide (K>0))) fc T;exact mdm func139 call139
def VG(S:bE)(G:Int)(Y:L UInt8)(q K W:Int)(u:L UInt8)(p:L Vl)(V:L Ty)(U:L Nd)(T:S.st.length<=1000000000):hJ 139 S [.c (aS (.mk 2 G 77 Y [])),.c (.sl 7 (aa [.mk q K W u p V U]))] (aQ S [gU (K==0)]):=by have h1:=je (K==0);have D:=fA S (gU (K==0)) fc T;exact mdm func139 call139
def TF(S:bE)(T:Int)(W:L UInt8)(q K V:Int)(u:L UInt8)(p:L Vl)(U:L Ty)(Q:L Nd)(I Y B:Int)(H:L UInt8)(G:L Vl)(P:L Ty)(O:L Nd)(h:K=1)(N:S.st.length<=1000000000):hJ 139 S [.c (aS (.mk 2 T 78 W [])),.c (.sl 7 (aa [.mk q K V u p U Q,.mk I Y B H G P O]))] (aQ S [gU (Y==1)]):=by
 have D:(K==1)=true:=by simpa using h
 clear h;have h1:=je (Y==1);have M:=fA S (gU (Y==1)) fc N;exact mdm func139 call139
def TG(S:bE)(T:Int)(Y:L UInt8)(q K W:Int)(u:L UInt8)(p:L Vl)(V:L Ty)(U:L Nd)(I Q B:Int)(H:L UInt8)(G:L Vl)(P:L Ty)(O:L Nd)(h:K≠1)(N:S.st.length<=1000000000):hJ 139 S [.c (aS (.mk 2 T 78 Y [])),.c (.sl 7 (aa [.mk q K W u p V U,.mk I Q B H G P O]))] (aQ S [gU false]):=by
 have D:(K==1)=false:=by simpa using h
 clear h;have h1:=je false;have M:=fA S (gU false) fc N;exact mdm func139 call139
def TH(S:bE)(T:Int)(Y:L UInt8)(q K W:Int)(u:L UInt8)(p:L Vl)(V:L Ty)(U:L Nd)(I Q B:Int)(H:L UInt8)(G:L Vl)(P:L Ty)(O:L Nd)(h:K=1)(N:S.st.length<=1000000000):hJ 139 S [.c (aS (.mk 2 T 79 Y [])),.c (.sl 7 (aa [.mk q K W u p V U,.mk I Q B H G P O]))] (aQ S [gU true]):=by
 have D:(K==1)=true:=by simpa using h
 clear h;have h1:=je true;have M:=fA S (gU true) fc N;exact mdm func139 call139
def TJ(S:bE)(T:Int)(W:L UInt8)(q K V:Int)(u:L UInt8)(p:L Vl)(U:L Ty)(Q:L Nd)(I Y B:Int)(H:L UInt8)(G:L Vl)(P:L Ty)(O:L Nd)(h:K≠1)(N:S.st.length<=1000000000):hJ 139 S [.c (aS (.mk 2 T 79 W [])),.c (.sl 7 (aa [.mk q K V u p U Q,.mk I Y B H G P O]))] (aQ S [gU (Y==1)]):=by
 have D:(K==1)=false:=by simpa using h
 clear h;have h1:=je (Y==1);have M:=fA S (gU (Y==1)) fc N;exact mdm func139 call139
def Qd(S:bE)(T:Int)(Y:L UInt8)(q K W:Int)(u:L UInt8)(p:L Vl)(V:L Ty)(U:L Nd)(I Q B:Int)(H:L UInt8)(G:L Vl)(P:L Ty)(O:L Nd)(h:200<u.length+H.length)(A:u.length+H.length<=1000000000)(M:S.st.length<=1000000000):hJ 139 S [.c (aS (.mk 2 T 80 Y [])),.c (.sl 7 (aa [.mk q K W u p V U,.mk I Q B H G P O]))] (((13,S):MR)):=by
 have N:i64.wrap (((u.length:Nat):Int)+(H.length:Nat))=((u.length:Nat):Int)+(H.length:Nat):=gM bn bn;have D:decide (i64.wrap (((u.length:Nat):Int)+(H.length:Nat))>200)=true:=by rw[N];exact aam bn
 clear h;exact mdm func139 call139
def Qe(S:bE)(Y:Int)(W:L UInt8)(q K V:Int)(u:L UInt8)(p:L Vl)(U:L Ty)(Q:L Nd)(I P B:Int)(H:L UInt8)(G:L Vl)(O:L Ty)(N:L Nd)(h:¬200<u.length+H.length)(M:S.st.length<=1000000000):hJ 139 S [.c (aS (.mk 2 Y 80 W [])),.c (.sl 7 (aa [.mk q K V u p U Q,.mk I P B H G O N]))] (aQ S [.mk 6 0 0 (u++H) [] [] []]):=by
 have J:i64.wrap (((u.length:Nat):Int)+(H.length:Nat))=((u.length:Nat):Int)+(H.length:Nat):=gM bn bn;have E:decide (i64.wrap (((u.length:Nat):Int)+(H.length:Nat))>200)=false:=by rw[J];exact aan bn
 have D:=fA S (.mk 6 0 0 (u++H) [] [] []) (by simp only[ie,aao];omega) M;have T:u.length+H.length<=9223372036854775807:=by omega
 clear h;refine mn func139 call139 λβ hf=>?_
 repeat' (first|refine mQ ?_|refine zc ?_ ?_|(intro h;first|(cases h;done)|rw[h]|skip)|refine uI Z (0) Z (Z) Z ?_|refine uI Z (1) Z (Z) Z ?_|refine uI Z (2) Z (Z) Z ?_|refine ai.concat hX kn Z Z Z Z Z T ?_|refine s9 ?_ (hq:=D))
 all_goals rfl
def Nx(S:bE)(G:Int)(U:L UInt8)(q K W:Int)(u:L UInt8)(p:L Vl)(Y:L Ty)(V:L Nd)(s:L UInt8)(e:Int)(hq:af 167 [bA (.mk q K W u p Y V)] (.fG [.str s,aA e]))(h:e≠0)(T:S.st.length<=1000000000):hJ 139 S [.c (aS (.mk 2 G 81 U [])),.c (.sl 7 (aa [.mk q K W u p Y V]))] (((13,S):MR)):=by
 have D:(e != 0)=true:=by simpa using h
 clear h;exact mdm func139 call139
def Ny(S:bE)(G:Int)(U:L UInt8)(q K W:Int)(u:L UInt8)(p:L Vl)(Y:L Ty)(V:L Nd)(s:L UInt8)(hq:af 167 [bA (.mk q K W u p Y V)] (.fG [.str s,aA 0]))(C:s.length<=1000000000)(T:S.st.length<=1000000000):hJ 139 S [.c (aS (.mk 2 G 81 U [])),.c (.sl 7 (aa [.mk q K W u p Y V]))] (aQ S [.mk 6 0 0 s [] [] []]):=by have D:=fA S (.mk 6 0 0 s [] [] []) (by simp only[ie];omega) T;clear C;exact mdm func139 call139
def TL(S:bE)(G:Int)(Y:L UInt8)(q K W:Int)(u:L UInt8)(p:L Vl)(V:L Ty)(U:L Nd)(x:Nd)(O:bR x<=8589934593)(v:Vl)(e:Int)(I:gu (aO x).1 u=(v,e))(h:e≠0)(Q:S.st.length<=1000000000):hJ 139 S [.c (aS (.mk 2 G 82 Y [x])),.c (.sl 7 (aa [.mk q K W u p V U]))] (aQ S [bN []]):=by
 have D:(e != 0)=true:=by simpa using h
 clear h;have P:=fA S (bN []) fc Q;have hq:=jT x O;have A:=yg (aO x).1 u (MB x O);rw[I]at A;clear I;generalize aO x=tp at hq A;obtain⟨⟨T,us⟩,e0⟩:=tp;obtain⟨N,M,J,H,E⟩:=x;obtain⟨C,B,a3,s3,eY,cA,dF⟩:=v;refine mn func139 call139 λβ hf=>?_;have wq:=eU;exact dm
def TM(S:bE)(G:Int)(Y:L UInt8)(q K W:Int)(u:L UInt8)(p:L Vl)(V:L Ty)(U:L Nd)(x:Nd)(O:bR x<=8589934593)(v:Vl)(I:gu (aO x).1 u=(v,0))(Q:aE v<=8589934000)(P:S.st.length<=1000000000):hJ 139 S [.c (aS (.mk 2 G 82 Y [x])),.c (.sl 7 (aa [.mk q K W u p V U]))] (aQ S [bN [v]]):=by have D:=fA S (bN [v]) (by simp only[eE,aB];omega) P;clear Q;have h2:=fC [v];have hq:=jT x O;have A:=yg (aO x).1 u (MB x O);rw[I]at A;clear I;generalize aO x=tp at hq A;obtain⟨⟨T,us⟩,e0⟩:=tp;obtain⟨N,M,J,H,E⟩:=x;obtain⟨C,B,a3,s3,eY,cA,dF⟩:=v;exact mdm func139 call139
def Qf(S:bE)(G:Int)(U:L UInt8)(q K W:Int)(u:L UInt8)(p:L Vl)(Y:L Ty)(V:L Nd)(T:S.st.length<=1000000000):hJ 139 S [.c (aS (.mk 2 G 83 U [])),.c (.sl 7 (aa [.mk q K W u p Y V]))] (((10,{S with said := .mk q K W u p Y V}):MR)):=by exact mdm func139 call139
end Go.Proofs
namespace Go.Proofs
open Go.cB
attribute [local irreducible] AK ai aR bW dG dR lF de aO
def MU(S:bE)(G:Int)(Y:L UInt8)(V:S.st.length<=1000000000):hJ 140 S [.c (aS (.mk 2 G 89 Y [])),.c (.sl 7 (aa []))] (aQ S [aI 7 S.self]):=by have h1:=cu 7 S.self;have D:=fA S (aI 7 S.self) fc V;exact mdm func140 call140
def HI(S:bE)(G:Int)(Y:L UInt8)(V:S.st.length<=1000000000):hJ 140 S [.c (aS (.mk 2 G 90 Y [])),.c (.sl 7 (aa []))] (aQ S [aI 7 S.gC]):=by have h1:=cu 7 S.gC;have D:=fA S (aI 7 S.gC) fc V;exact mdm func140 call140
def HK(S:bE)(G:Int)(Y:L UInt8)(V:S.st.length<=1000000000):hJ 140 S [.c (aS (.mk 2 G 91 Y [])),.c (.sl 7 (aa []))] (aQ S [aI 5 S.gD]):=by have h1:=cu 5 S.gD;have D:=fA S (aI 5 S.gD) fc V;exact mdm func140 call140
def ET(S:bE)(G:Int)(Y:L UInt8)(V:S.st.length<=1000000000):hJ 140 S [.c (aS (.mk 2 G 92 Y [])),.c (.sl 7 (aa []))] (aQ S [aI 5 S.balance]):=by have h1:=cu 5 S.balance;have D:=fA S (aI 5 S.balance) fc V;exact mdm func140 call140
def Km(S:bE)(T:Int)(W:L UInt8)(q K V:Int)(u:L UInt8)(p:L Vl)(U:L Ty)(Q:L Nd)(I Y B:Int)(H:L UInt8)(G:L Vl)(P:L Ty)(O:L Nd)(h:Y=0)(N:S.st.length<=1000000000):hJ 140 S [.c (aS (.mk 2 T 84 W [])),.c (.sl 7 (aa [.mk q K V u p U Q,.mk I Y B H G P O]))] (aQ S [bN []]):=by
 have D:(Y==0)=true:=by simpa using h
 clear h;have M:=fA S (bN []) fc N;refine mn func140 call140 λβ hf=>?_;have J:=eU;exact dm
def Kn(S:bE)(T:Int)(W:L UInt8)(q K V:Int)(u:L UInt8)(p:L Vl)(U:L Ty)(Q:L Nd)(I Y B:Int)(H:L UInt8)(G:L Vl)(P:L Ty)(O:L Nd)(M:Y≠0)(E:0<=Y/\Y<=1152921504606846976)(h:S.aZ>1152921504606846976-Y)(D:S.st.length<=1000000000):hJ 140 S [.c (aS (.mk 2 T 84 W [])),.c (.sl 7 (aa [.mk q K V u p U Q,.mk I Y B H G P O]))] (((11,S):MR)):=by
 have N:(Y==0)=false:=by simpa using M
 have J:i64.wrap (1152921504606846976-Y)=1152921504606846976-Y:=gM bn bn;have C:decide (S.aZ>i64.wrap (1152921504606846976-Y))=true:=by rw[J];exact aam h
 clear h M;exact mdm func140 call140
def Ko(S:bE)(P:Int)(O:L UInt8)(q K W:Int)(u:L UInt8)(p:L Vl)(V:L Ty)(U:L Nd)(I Y B:Int)(H:L UInt8)(G:L Vl)(N:L Ty)(J:L Nd)(M:Y≠0)(hn:0<=Y/\Y<=1152921504606846976)(h:¬S.aZ>1152921504606846976-Y)(hm:0<=S.aZ)(T:aE (.mk q K W u p V U)<=8589934000)(E:S.st.length<=1000000000):hJ 140 S [.c (aS (.mk 2 P 84 O [])),.c (.sl 7 (aa [.mk q K W u p V U,.mk I Y B H G N J]))] (aQ {S with aZ:=S.aZ+Y} [bN [.mk 15 Y S.self [] [.mk q K W u p V U] [] []]]):=by
 have D:(Y==0)=false:=by simpa using M
 have C:i64.wrap (1152921504606846976-Y)=1152921504606846976-Y:=gM bn bn;have Q:i64.wrap (S.aZ+Y)=S.aZ+Y:=gM bn bn;have hc:decide (S.aZ>i64.wrap (1152921504606846976-Y))=false:=by rw[C];exact aan h
 have h2:=fC [.mk 15 Y S.self [] [.mk q K W u p V U] [] []];have A:=fA {S with aZ:=S.aZ+Y} (bN [.mk 15 Y S.self [] [.mk q K W u p V U] [] []]) (by simp only[aE]at T;simp only[eE,aE,aB,aU,aM,aab];omega) E;rw[<- Q]at A ⊢;clear h M T Q;exact mdm func140 call140
def DI(S:bE)(P:Int)(O:L UInt8)(q K W:Int)(u:L UInt8)(p:L Vl)(Y:L Ty)(V:L Nd)(I U B:Int)(H:L UInt8)(G:L Vl)(N:L Ty)(M:L Nd)(J D E:Int)(C:L UInt8)(A:L Vl)(cA:L Ty)(dF:L Nd)(x:Nd)(hx:bR x<=8589934593)(Q:aE (.mk 8 U D [] [.mk q K W u p Y V] [(aO x).1] [])<=8589934593)(hl:S.st.length<=1000000000):hJ 140 S [.c (aS (.mk 2 P 88 O [x])),.c (.sl 7 (aa [.mk q K W u p Y V,.mk I U B H G N M,.mk J D E C A cA dF]))] (aQ S [.mk 8 U D [] [.mk q K W u p Y V] [(aO x).1] []]):=by have hp:=fA S (.mk 8 U D [] [.mk q K W u p Y V] [(aO x).1] []) Q hl;have hq:=jT x hx;clear Q;generalize aO x=tp at hq hp ⊢;obtain⟨⟨T,us⟩,e0⟩:=tp;obtain⟨j1,j2,j3,j4,j5⟩:=x;exact mdm func140 call140
def MX(S:bE)(N:Int)(M:L UInt8)(q K W:Int)(u:L UInt8)(p:L Vl)(Q:L Ty)(P:L Nd)(Y D V:Int)(T:L UInt8)(G:L Vl)(B:L Ty)(U:L Nd)(O:aE (.mk q K W u (.mk Y D V T G B U::p) Q P)<=8589934000)(J:S.st.length<=1000000000):hJ 140 S [.c (aS (.mk 2 N 85 M [])),.c (.sl 7 (aa [.mk q K W u (.mk Y D V T G B U::p) Q P]))] (aQ S [.mk q K W u (.mk Y D V T G B U::p) Q P,aY (aI 7 W) (aY (.mk Y D V T G B U) (aI 4 K))]):=by have h1:=cu 7 W;have h2:=cu 4 K;have I:=gV (.mk Y D V T G B U) (aI 4 K);have H:=gV (aI 7 W) (aY (.mk Y D V T G B U) (aI 4 K));have E:=XQ S (.mk q K W u (.mk Y D V T G B U::p) Q P) (aY (aI 7 W) (aY (.mk Y D V T G B U) (aI 4 K))) bn (by simp only[aE,aB]at O;simp only[dN,eS,aE];omega) J;clear O;exact mdm func140 call140
def EU(S:bE)(T:Int)(Y:L UInt8)(q K W:Int)(u:L UInt8)(p:L Vl)(V:L Ty)(U:L Nd)(I Q B:Int)(H:L UInt8)(G:L Vl)(P:L Ty)(O:L Nd)(N D J:Int)(E:L UInt8)(C:L Vl)(A:L Ty)(dF:L Nd)(k4 M a4:Int)(s4:L UInt8)(oI:L Vl)(kU:L Ty)(oJ:L Nd)(h3:0<=D/\D<=1152921504606846976)(h4:0<=M/\M<=1152921504606846976)(h:D<1)(hl:S.st.length<=1000000000):hJ 140 S [.c (aS (.mk 2 T 86 Y [])),.c (.sl 7 (aa [.mk q K W u p V U,.mk I Q B H [.mk N D J E C A dF,.mk k4 M a4 s4 oI kU oJ] P O]))] (aQ S [bN []]):=by have hw:i64.wrap (D+M)=D+M:=gM bn bn;have BN:decide (D<1)=true:=aam h;clear h;have hp:=fA S (bN []) fc hl;refine mn func140 call140 λβ hf=>?_;have Eu:=eU;exact dm
def EV(S:bE)(T:Int)(Y:L UInt8)(q K W:Int)(u:L UInt8)(p:L Vl)(V:L Ty)(U:L Nd)(I Q B:Int)(H:L UInt8)(G:L Vl)(P:L Ty)(O:L Nd)(N D J:Int)(E:L UInt8)(C:L Vl)(A:L Ty)(dF:L Nd)(k4 M a4:Int)(s4:L UInt8)(oI:L Vl)(kU:L Ty)(oJ:L Nd)(h3:0<=D/\D<=1152921504606846976)(h4:0<=M/\M<=1152921504606846976)(h:¬D<1)(h2:M<1)(hl:S.st.length<=1000000000):hJ 140 S [.c (aS (.mk 2 T 86 Y [])),.c (.sl 7 (aa [.mk q K W u p V U,.mk I Q B H [.mk N D J E C A dF,.mk k4 M a4 s4 oI kU oJ] P O]))] (aQ S [bN []]):=by
 have hw:i64.wrap (D+M)=D+M:=gM bn bn;have BN:decide (D<1)=false:=aan h;have vT:decide (M<1)=true:=aam h2;have Xj:(bif decide (D<1)then true else decide (M<1))=true:=by rw[BN,vT];rfl
 clear h h2;have hp:=fA S (bN []) fc hl;refine mn func140 call140 λβ hf=>?_;have LL:=eU;exact dm
def EW(S:bE)(T:Int)(Y:L UInt8)(q K W:Int)(u:L UInt8)(p:L Vl)(V:L Ty)(U:L Nd)(I P B:Int)(H:L UInt8)(G:L Vl)(O:L Ty)(N:L Nd)(J D E:Int)(C:L UInt8)(A:L Vl)(cA:L Ty)(dF:L Nd)(k4 M a4:Int)(s4:L UInt8)(oI:L Vl)(kU:L Ty)(oJ:L Nd)(h3:0<=D/\D<=1152921504606846976)(h4:0<=M/\M<=1152921504606846976)(h:¬D<1)(h2:¬M<1)(Q:D+M≠K)(hl:S.st.length<=1000000000):hJ 140 S [.c (aS (.mk 2 T 86 Y [])),.c (.sl 7 (aa [.mk q K W u p V U,.mk I P B H [.mk J D E C A cA dF,.mk k4 M a4 s4 oI kU oJ] O N]))] (aQ S [bN []]):=by
 have hw:i64.wrap (D+M)=D+M:=gM bn bn;have BN:decide (D<1)=false:=aan h;have vT:decide (M<1)=false:=aan h2;have Wz:(i64.wrap (D+M) != K)=true:=by rw[hw];simpa using Q
 have Xj:(bif decide (D<1)then true else decide (M<1))=false:=by rw[BN,vT];rfl
 clear h h2 Q;have hp:=fA S (bN []) fc hl;refine mn func140 call140 λβ hf=>?_;have QV:=eU;exact dm
def HN(S:bE)(T:Int)(Q:L UInt8)(q K W:Int)(u:L UInt8)(p:L Vl)(Y:L Ty)(V:L Nd)(I P B:Int)(H:L UInt8)(G:L Vl)(O:L Ty)(N:L Nd)(J D E:Int)(C:L UInt8)(A:L Vl)(cA:L Ty)(dF:L Nd)(k4 M a4:Int)(s4:L UInt8)(oI:L Vl)(kU:L Ty)(oJ:L Nd)(h3:0<=D/\D<=1152921504606846976)(h4:0<=M/\M<=1152921504606846976)(h:¬(D<1\/M<1\/D+M≠K))(U:aE (.mk q K W u p Y V)<=4294967000)(hl:S.st.length<=1000000000):hJ 140 S [.c (aS (.mk 2 T 86 Q [])),.c (.sl 7 (aa [.mk q K W u p Y V,.mk I P B H [.mk J D E C A cA dF,.mk k4 M a4 s4 oI kU oJ] O N]))] (aQ S [bN [aY (.mk q D W u p Y V) (.mk q M W u p Y V)]]):=by
 have hw:i64.wrap (D+M)=D+M:=gM bn bn;have BN:decide (D<1)=false:=aan bn;have vT:decide (M<1)=false:=aan bn;have Wz:(i64.wrap (D+M) != K)=false:=by rw[hw];simpa using (show D+M=K by omega)
 have Xj:(bif decide (D<1)then true else decide (M<1))=false:=by rw[BN,vT];rfl
 have hg2:(bif (bif decide (D<1)then true else decide (M<1))then true else(i64.wrap (D+M) != K))=false:=by rw[Xj,Wz];rfl
 have h1:=gV (.mk q D W u p Y V) (.mk q M W u p Y V);have h2:=fC [aY (.mk q D W u p Y V) (.mk q M W u p Y V)];have hp:=fA S (bN [aY (.mk q D W u p Y V) (.mk q M W u p Y V)]) (by simp only[aE]at U;simp only[eE,dN,aE,aB];omega) hl;clear h U;exact mdm func140 call140
def Kr(S:bE)(T:Int)(Y:L UInt8)(q K W:Int)(u:L UInt8)(p:L Vl)(V:L Ty)(U:L Nd)(I P B:Int)(H:L UInt8)(G:L Vl)(O:L Ty)(N:L Nd)(M D J:Int)(E:L UInt8)(C:L Vl)(A:L Ty)(dF:L Nd)(k4 n4 Q:Int)(s4:L UInt8)(oI:L Vl)(kU:L Ty)(oJ:L Nd)(k5 n5 a5:Int)(s5:L UInt8)(jP:L Vl)(gP:L Ty)(jQ:L Nd)(h:B≠Q)(hl:S.st.length<=1000000000):hJ 140 S [.c (aS (.mk 2 T 87 Y [])),.c (.sl 7 (aa [.mk q K W u [.mk I P B H (.mk M D J E C A dF::G) O N,.mk k4 n4 Q s4 (.mk k5 n5 a5 s5 jP gP jQ::oI) kU oJ] V U]))] (aQ S [bN []]):=by
 have hc:(B != Q)=true:=by simpa using h
 clear h;have hp:=fA S (bN []) fc hl;refine mn func140 call140 λβ hf=>?_;have QW:=eU;exact dm
def Ks(S:bE)(E:Int)(C:L UInt8)(q A u:Int)(s1:L UInt8)(p:L Vl)(ag:L Ty)(au:L Nd)(k2 n2 B:Int)(s2:L UInt8)(G:L Vl)(aV:L Ty)(bC:L Nd)(Y D W:Int)(T:L UInt8)(V:L Vl)(U:L Ty)(P:L Nd)(k4 n4 Q:Int)(s4:L UInt8)(oI:L Vl)(kU:L Ty)(oJ:L Nd)(O N J:Int)(M:L UInt8)(K:L Vl)(I:L Ty)(H:L Nd)(r:Int)(hq:af 165 [bA (.mk Y D W T V U P),bA (.mk O N J M K I H)] (aA r))(h:B=Q)(h2:r≠0)(hl:S.st.length<=1000000000):hJ 140 S [.c (aS (.mk 2 E 87 C [])),.c (.sl 7 (aa [.mk q A u s1 [.mk k2 n2 B s2 (.mk Y D W T V U P::G) aV bC,.mk k4 n4 Q s4 (.mk O N J M K I H::oI) kU oJ] ag au]))] (aQ S [bN []]):=by
 have hc:(B != Q)=false:=by simpa using h
 have vT:(r != 0)=true:=by simpa using h2
 clear h h2;have hp:=fA S (bN []) fc hl;refine mn func140 call140 λβ hf=>?_;have Uy:=eU;exact dm
def Kt(S:bE)(u:Int)(q:L UInt8)(k1 n1 a1:Int)(s1:L UInt8)(p:L Vl)(ag:L Ty)(au:L Nd)(k2 Y B:Int)(s2:L UInt8)(G:L Vl)(aV:L Ty)(bC:L Nd)(W D V:Int)(T:L UInt8)(U:L Vl)(P:L Ty)(O:L Nd)(k4 M Q:Int)(s4:L UInt8)(oI:L Vl)(kU:L Ty)(oJ:L Nd)(N K J:Int)(I:L UInt8)(H:L Vl)(E:L Ty)(C:L Nd)(hq:af 165 [bA (.mk W D V T U P O),bA (.mk N K J I H E C)] (aA 0))(h:B=Q)(hn2:0<=Y/\Y<=1152921504606846976)(ZU:0<=M/\M<=1152921504606846976)(A:Y>1152921504606846976-M)(hl:S.st.length<=1000000000):hJ 140 S [.c (aS (.mk 2 u 87 q [])),.c (.sl 7 (aa [.mk k1 n1 a1 s1 [.mk k2 Y B s2 (.mk W D V T U P O::G) aV bC,.mk k4 M Q s4 (.mk N K J I H E C::oI) kU oJ] ag au]))] (((11,S):MR)):=by
 have hw:i64.wrap (1152921504606846976-M)=1152921504606846976-M:=gM bn bn;have hc:(B != Q)=false:=by simpa using h
 have vT:((0:Int) != 0)=false:=rfl;have hg:(bif (B != Q)then true else((0:Int) != 0))=false:=by rw[hc];rfl
 have Wz:decide (Y>i64.wrap (1152921504606846976-M))=true:=by rw[hw];exact aam A
 clear h A;exact mdm func140 call140
def Ku(S:bE)(nN:Int)(nS:L UInt8)(k1 n1 a1:Int)(s1:L UInt8)(p:L Vl)(ag:L Ty)(au:L Nd)(I Y B:Int)(H:L UInt8)(G:L Vl)(O:L Ty)(N:L Nd)(W D V:Int)(T:L UInt8)(U:L Vl)(Q:L Ty)(P:L Nd)(k4 M K:Int)(s4:L UInt8)(oI:L Vl)(kU:L Ty)(oJ:L Nd)(J E C:Int)(A:L UInt8)(u:L Vl)(q:L Ty)(jQ:L Nd)(hq:af 165 [bA (.mk W D V T U Q P),bA (.mk J E C A u q jQ)] (aA 0))(h:B=K)(hn2:0<=Y/\Y<=1152921504606846976)(ZU:0<=M/\M<=1152921504606846976)(h3:¬Y>1152921504606846976-M)(hv:aE (.mk I Y B H (.mk W D V T U Q P::G) O N)<=8589934000)(hl:S.st.length<=1000000000):hJ 140 S [.c (aS (.mk 2 nN 87 nS [])),.c (.sl 7 (aa [.mk k1 n1 a1 s1 [.mk I Y B H (.mk W D V T U Q P::G) O N,.mk k4 M K s4 (.mk J E C A u q jQ::oI) kU oJ] ag au]))] (aQ S [bN [.mk I (Y+M) B H (.mk W D V T U Q P::G) O N]]):=by
 have hw:i64.wrap (1152921504606846976-M)=1152921504606846976-M:=gM bn bn;have hc:(B != K)=false:=by simpa using h
 have vT:((0:Int) != 0)=false:=rfl;have hg:(bif (B != K)then true else((0:Int) != 0))=false:=by rw[hc];rfl
 have Uh:i64.wrap (Y+M)=Y+M:=gM bn bn;have Wz:decide (Y>i64.wrap (1152921504606846976-M))=false:=by rw[hw];exact aan h3
 have h2:=fC [.mk I (Y+M) B H (.mk W D V T U Q P::G) O N];have hp:=fA S (bN [.mk I (Y+M) B H (.mk W D V T U Q P::G) O N]) (by simp only[aE,aB]at hv;simp only[eE,aE,aB];omega) hl;rw[<- Uh]at h2 hp ⊢;clear h h3 hv Uh;exact mdm func140 call140
end Go.Proofs
namespace Go.Proofs
open Go.cB
def DL:∀(l:L Vl)(k:Vl),bJ l k<=l.length
 |[],_=>aal _
 |x::l,k=>by simp only[bJ];split;have:=DL l k;simp only[aaa];omega;omega
def KY:∀{l:L Vl}{k:Vl}{i:Nat}{x:Vl},i<bJ l k->l[i]?=some x->de (lH x) k<0
 |[],_,i,x,h,e=>by simp at e
 |y::l,k,i,x,h,e=>by
  simp only[bJ]at h;split at h
  ·rename_i D;cases i with
   |zero=>simp at e;subst e;exact D
   |succ i=>simp at e;exact KY bn e
  omega
attribute [local irreducible] AK ai aR bW dG dR de
def EX(x k y:Vl)(t:Ty)(O:(di x)[0]?=some y)(hq:af 95 [bA y,bA k] (aA (de y k))):af 178 [bA x,bA k] (aA (de (lH x) k)):=by
 have E:lH x=y:=by unfold lH;rw[abV,O];rfl
 rw[E];have Y:(aa (di x))[0]?=some (bA y):=by rw[jl,O];rfl
 clear E O;generalize de y k=r at hq ⊢;obtain⟨q,K,W,u,p,V,U⟩:=x;obtain⟨I,T,B,H,G,S,Q⟩:=k;obtain⟨P,D,N,M,J,C,A⟩:=y;exact qdq func178 call178
def X2(Q W:Nat)(h:Q+W<=4000000000):i64.wrap ((IntKind.u64.wrap (i64.wrap ((Q:Nat)+(W:Nat)))).fdiv (2^(min 1 IntKind.u64.bits)))=(((Q+W)/2:Nat):Int):=by
 rw[gM (n:=(Q:Int)+W) bn bn];have h1:IntKind.u64.wrap ((Q:Int)+W)=((Q+W:Nat):Int):=by rw[IntKind.wrap_u64];omega
 rw[h1];have h2:((Q+W:Nat):Int).fdiv (2^(min 1 IntKind.u64.bits))=(((Q+W)/2:Nat):Int):=by rw[show(min 1 IntKind.u64.bits)=1 from rfl];rw[ado _ cc];omega
 rw[h2,gM bn bn]
def E3(m:L Vl)(k:Vl)(hl:m.length<=1000000000)(hq:∀x∈m,af 178 [bA x,bA k] (aA (de (lH x) k)))
  (u:∀(i:Nat) x,bJ m k<=i->m[i]?=some x->¬de (lH x) k<0) :
  af 177 [.sl 7 (aa m),bA k,.tO 178 []] (.fG [aA (bJ m k:Nat),.bool (dX m k)]):=by
 have C:=DL m k;have U:∀{i:Nat}{x:Vl},i<bJ m k->m[i]?=some x->de (lH x) k<0:=λh e=>KY h e;have V:dX m k=match m[bJ m k]? with|some x=>decide (de (lH x) k=0)|none=>false:=rfl
 generalize bJ m k=p at C U u V ⊢;generalize dX m k=fd at V ⊢;have q:=az m;obtain⟨I,S,B,H,G,P,N⟩:=k;refine qn func177 call177 λβ hf=>?_;refine dn ?_;refine AK.dI (α:=Nat×Nat) (λz=>z.1<=p/\p<=z.2/\z.2<=m.length) (λz=>z.2-z.1)
  (λz=>[(0,.c (.sl 7 (aa m))),(2,.c (.tO 178 [])),(4,.ptr 4 0),(8,.c (aA ((aa m).length:Nat))),(9,.c (aA (z.1:Nat))),(10,.c (aA (z.2:Nat)))])
  (λz=>[(4,[.c (aA I),.c (aA S),.c (aA B),.c (.str H),.c (.sl 7 (aa G)),.c (.sl 2 (aj P)),.c (.sl 5 (aD N))])]) (λ_=>[]) [4] (0,(aa m).length)
  ⟨abG _,by show p<=(aa m).length;omega,by show(aa m).length<=_;omega⟩ ce ⟨Z,trivial⟩ trivial Z Z Z ?_
 rintro⟨Q,W⟩ ⟨h1,h2,h3⟩ ih;simp only at h1 h2 h3;by_cases hlt:Q<W
 ·have hc:decide (((Q:Nat):Int)<((W:Nat):Int))=true:=aam bn;have Y:=X2 Q W bn;obtain⟨x,O⟩:∃x,m[(Q+W)/2]?=some x:=⟨_,abe bn⟩;have M:=hq x (aap O);have K:(aa m)[(Q+W)/2]?=some (bA x):=by rw[jl,O];rfl
  have E := @u ((Q+W)/2) x;have D := @U ((Q+W)/2) x;clear hq;generalize de (lH x) (.mk I S B H G P N)=r at M E D;obtain⟨k1,n1,a1,s1,T,ag,au⟩:=x;by_cases A:r<0
  ·have vT:decide (r<0)=true:=aam A;have hw:i64.wrap ((((Q+W)/2:Nat):Int)+1)=(((Q+W)/2+1:Nat):Int):=(by rw[gM bn bn];omega);have J:(Q+W)/2+1<=p:=by
    rcases acC ((Q+W)/2) p with h|h
    omega;exact absurd A (E h O)
   repeat' (first|refine sz ?_|refine zc ?_ ?_|(intro h;first|(cases h;done)|rw[h]|skip)|refine uI Z ((Q+W)/2) Y K Z ?_|refine uC Z M ?_)
   refine AK.fQ [(4,4)] [] (env':=[(0,.c (.sl 7 (aa m))),(2,.c (.tO 178 [])),(4,.ptr 4 0),(8,.c (aA ((aa m).length:Nat))),(9,.c (aA (((Q+W)/2+1:Nat):Int))),(10,.c (aA ((W:Nat):Int)))])
    (bs':=[(4,[.c (aA I),.c (aA S),.c (aA B),.c (.str H),.c (.sl 7 (aa G)),.c (.sl 2 (aj P)),.c (.sl 5 (aD N))])]) (ts':=[]) (us':=[4])
    ⟨⟨_,Z,.inl Z⟩,⟨_,Z,.inl Z⟩,⟨_,Z,⟨_,Z,Z⟩⟩,⟨_,Z,.inl Z⟩,⟨_,Z,.inl (aaZ (λz=>AV.c (.int .i64 z)) (by rw[Y];exact hw))⟩,⟨_,Z,.inl Z⟩,trivial⟩ ce Z ?_
   exact ih ((Q+W)/2+1,W) ⟨by show _<=p;omega,by show p<=_;omega,by show _<=m.length;omega⟩ (by show _-_<W-Q;omega)
  have vT:decide (r<0)=false:=aan A;have J:p<=(Q+W)/2:=by
   rcases acC ((Q+W)/2) p with h|h
   exact absurd (D h O) A;exact h
  repeat' (first|refine sz ?_|refine zc ?_ ?_|(intro h;first|(cases h;done)|rw[h]|skip)|refine uI Z ((Q+W)/2) Y K Z ?_|refine uC Z M ?_)
  refine AK.fQ [(4,4)] [] (env':=[(0,.c (.sl 7 (aa m))),(2,.c (.tO 178 [])),(4,.ptr 4 0),(8,.c (aA ((aa m).length:Nat))),(9,.c (aA ((Q:Nat):Int))),(10,.c (aA (((Q+W)/2:Nat):Int)))])
   (bs':=[(4,[.c (aA I),.c (aA S),.c (aA B),.c (.str H),.c (.sl 7 (aa G)),.c (.sl 2 (aj P)),.c (.sl 5 (aD N))])]) (ts':=[]) (us':=[4])
   ⟨⟨_,Z,.inl Z⟩,⟨_,Z,.inl Z⟩,⟨_,Z,⟨_,Z,Z⟩⟩,⟨_,Z,.inl Z⟩,⟨_,Z,.inl Z⟩,⟨_,Z,.inl (aaZ (λz=>AV.c (.int .i64 z)) Y)⟩,trivial⟩ ce Z ?_
  exact ih (Q,(Q+W)/2) ⟨by show _<=p;omega,by show p<=_;omega,by show _<=m.length;omega⟩ (by show _-_<W-Q;omega)
 have hc:decide (((Q:Nat):Int)<((W:Nat):Int))=false:=aan bn;have he:Q=p:=by omega
 subst he;clear ih U u;by_cases hn:Q<m.length
 ·have Wz:decide (((Q:Nat):Int)<(((aa m).length:Nat):Int))=true:=aam bn;obtain⟨x,O⟩:∃x,m[Q]?=some x:=⟨_,abe hn⟩;rw[O]at V;have M:=hq x (aap O);have K:(aa m)[Q]?=some (bA x):=by rw[jl,O];rfl
  clear hq;simp only at V;subst V;generalize de (lH x) (.mk I S B H G P N)=r at M ⊢;obtain⟨k1,n1,a1,s1,T,ag,au⟩:=x;exact dq
 have Wz:decide (((Q:Nat):Int)<(((aa m).length:Nat):Int))=false:=aan bn;rw[acm bn]at V;simp only at V;subst V;clear hq;exact dq
def HS(m:L Vl)(k:Vl)(V:m.length<=1000000000)(hq:∀x∈m,af 178 [bA x,bA k] (aA (de (lH x) k)))
  (T:∀(i:Nat) x,bJ m k<=i->m[i]?=some x->¬de (lH x) k<0) :
  af 158 [.sl 7 (aa m),bA k] (.fG [aA (bJ m k:Nat),.bool (dX m k)]):=by
 have A:=E3 m k V hq T;clear hq T;obtain⟨I,Y,B,H,G,W,U⟩:=k;exact qdq func158 call158
end Go.Proofs
