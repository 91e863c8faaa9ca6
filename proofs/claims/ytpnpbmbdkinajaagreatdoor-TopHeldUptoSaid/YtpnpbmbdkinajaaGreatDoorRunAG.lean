/- A part of the proof. -/
import Derived.Test.YtpnpbmbdkinajaaGreatDoorVal9G
set_option linter.all false
set_option maxHeartbeats 0
set_option maxRecDepth 100000
open Go.IntKind Go.Proofs.Tryz
namespace Go.Proofs
open Go.cE
def gF(k n:Int):aG (aO k n)=1:=rfl
def fV(l:Ξ):aG (cr l)=aH l+1:=by simp only[cr,aG,bf,aP,aav];omega
def eY(a b:Vl):aG (aU a b)=aG a+aG b+1:=by simp only[aU,aG,aH,bf,aP,aav];omega
attribute [local irreducible] AK ag aZ bS cA de nQ xV mo vI jb pU ofM
def UE(S:bM)(k:Int)(T U Q:Int)(P:Δ)(Y:Ξ)(H:Γ)(B:Θ)(E V I:Int)(p:Δ)(W:Ξ)(u:Γ)(O:Θ)(q r e:Int)(N:e≠0)(A:jb U V=(q,r,e))(M:S.st.length<=1000000000):jT 141 S [.c (ah k),.c (bz (.mk T U Q P Y H B)),.c (bz (.mk E V I p W u O))] (bg S [cr []]):=by
 have F:=xW U V;rw[A]at F;have D:(e != 0):=by simpa using N
 have K:=gY S (cr []) gr M;refine mn func141 call141 λC hf=>?_;have J:=gI;exact dm
def XM(S:bM)(k:Int)(T U Q:Int)(P:Δ)(Y:Ξ)(H:Γ)(B:Θ)(E V F:Int)(p:Δ)(W:Ξ)(u:Γ)(O:Θ)(q r:Int)(I:k=5)(N:E=5)(A:jb U V=(q,r,0))(M:S.st.length<=1000000000):jT 141 S [.c (ah k),.c (bz (.mk T U Q P Y H B)),.c (bz (.mk E V F p W u O))] (bg S [cr [aU (aO (4) q) (aO 5 r)]]):=by
 have z:=xW U V;rw[A]at z;have K:(k==5):=by simpa using I
 have J:(E==5):=by simpa using N
 have y:=cR (4) q;have x:=cR 5 r;have G:=jM (aO (4) q) (aO 5 r);have D:=hJ [aU (aO (4) q) (aO 5 r)];have C:=gY S (cr [aU (aO (4) q) (aO 5 r)]) gr M;exact mdm func141 call141
def aaL(S:bM)(k:Int)(T U Q:Int)(P:Δ)(Y:Ξ)(H:Γ)(B:Θ)(E V F:Int)(p:Δ)(W:Ξ)(u:Γ)(O:Θ)(q r:Int)(I:k=5)(N:E≠5)(A:jb U V=(q,r,0))(M:S.st.length<=1000000000):jT 141 S [.c (ah k),.c (bz (.mk T U Q P Y H B)),.c (bz (.mk E V F p W u O))] (bg S [cr [aU (aO (k) q) (aO 5 r)]]):=by
 have z:=xW U V;rw[A]at z;have K:(k==5):=by simpa using I
 have J:(E==5)=false:=by simpa using N
 have y:=cR (k) q;have x:=cR 5 r;have G:=jM (aO (k) q) (aO 5 r);have D:=hJ [aU (aO (k) q) (aO 5 r)];have C:=gY S (cr [aU (aO (k) q) (aO 5 r)]) gr M;exact mdm func141 call141
def Dy(S:bM)(k:Int)(T U Q:Int)(P:Δ)(Y:Ξ)(H:Γ)(B:Θ)(E V F:Int)(p:Δ)(W:Ξ)(u:Γ)(O:Θ)(q r:Int)(I:k≠5)(A:jb U V=(q,r,0))(N:S.st.length<=1000000000):jT 141 S [.c (ah k),.c (bz (.mk T U Q P Y H B)),.c (bz (.mk E V F p W u O))] (bg S [cr [aU (aO (k) q) (aO 4 r)]]):=by
 have D:=xW U V;rw[A]at D;have M:(k==5)=false:=by simpa using I
 have C:=cR (k) q;have z:=cR 4 r;have K:=jM (aO (k) q) (aO 4 r);have J:=hJ [aU (aO (k) q) (aO 4 r)];have G:=gY S (cr [aU (aO (k) q) (aO 4 r)]) gr N;exact mdm func141 call141
def UF(S:bM)(W U T:Int)(P:Δ)(Y:Ξ)(H:Γ)(B:Θ)(E:S.st.length<=1000000000):jT 118 S [.c (ah 93),.c (.sl 7 (aa [.mk W U T P Y H B]))] (bg S [aO 4 (pU U).1]):=by have V:=ES U;have M:=gY S (aO 4 (pU U).1) gr E;generalize pU U=r at V M ⊢;obtain⟨r,e⟩:=r;have Q:=cR 4 r;exact mdm func118 call118
def RI(S:bM)(W U T:Int)(P:Δ)(Y:Ξ)(H:Γ)(B:Θ)(I:U<0)(E:S.st.length<=1000000000):jT 118 S [.c (ah 94),.c (.sl 7 (aa [.mk W U T P Y H B]))] (bg S [cr []]):=by have D:decide (U<0):=ace I;have M:=gY S (cr []) gr E;refine mn func118 call118 λQ hf=>?_;have V:=gI;exact dm
def RJ(S:bM)(W U T:Int)(P:Δ)(Y:Ξ)(H:Γ)(B:Θ)(I:¬U<0)(E:S.st.length<=1000000000):jT 118 S [.c (ah 94),.c (.sl 7 (aa [.mk W U T P Y H B]))] (bg S [cr [aO 4 U]]):=by have D:decide (U<0)=false:=acf I;have V:=cR 4 U;have Q:=hJ [aO 4 U];have M:=gY S (cr [aO 4 U]) gr E;exact mdm func118 call118
def UG(S:bM)(W U T:Int)(P:Δ)(Y:Ξ)(H:Γ)(B:Θ)(E:S.st.length<=1000000000):jT 118 S [.c (ah 95),.c (.sl 7 (aa [.mk W U T P Y H B]))] (bg S [aO 3 U]):=by have V:=cR 3 U;have M:=gY S (aO 3 U) gr E;exact mdm func118 call118
def KG(S:bM)(V U Q:Int)(P:Δ)(Y:Ξ)(H:Γ)(B:Θ)(E T J:Int)(p:Δ)(W:Ξ)(u:Γ)(O:Θ)(r:Int)(A:xV U T=(r,0))(N:S.st.length<=1000000000):jT 118 S [.c (ah 69),.c (.sl 7 (aa [.mk V U Q P Y H B,.mk E T J p W u O]))] (bg S [aO (ofM 69 V E) r]):=by have I:=LB U T;rw[A]at I;have M:=pE 69 V E;have F:=cR (ofM 69 V E) r;have K:=gY S (aO (ofM 69 V E) r) gr N;exact mdm func118 call118
def Ji(S:bM)(T U Q:Int)(P:Δ)(Y:Ξ)(H:Γ)(B:Θ)(E V J:Int)(p:Δ)(W:Ξ)(u:Γ)(O:Θ)(r e:Int)(N:e≠0)(A:xV U V=(r,e))(M:S.st.length<=1000000000):jT 118 S [.c (ah 69),.c (.sl 7 (aa [.mk T U Q P Y H B,.mk E V J p W u O]))] (((e,S):MR)):=by
 have I:=LB U V;rw[A]at I;have K:=pE 69 T E;have D:(e != 0):=by simpa using N
 exact mdm func118 call118
def KH(S:bM)(V U Q:Int)(P:Δ)(Y:Ξ)(H:Γ)(B:Θ)(E T J:Int)(p:Δ)(W:Ξ)(u:Γ)(O:Θ)(r:Int)(A:vI U T=(r,0))(N:S.st.length<=1000000000):jT 118 S [.c (ah 71),.c (.sl 7 (aa [.mk V U Q P Y H B,.mk E T J p W u O]))] (bg S [aO (ofM 71 V E) r]):=by have I:=LH U T;rw[A]at I;have M:=pE 71 V E;have F:=cR (ofM 71 V E) r;have K:=gY S (aO (ofM 71 V E) r) gr N;exact mdm func118 call118
def Jj(S:bM)(T U Q:Int)(P:Δ)(Y:Ξ)(H:Γ)(B:Θ)(E V J:Int)(p:Δ)(W:Ξ)(u:Γ)(O:Θ)(r e:Int)(N:e≠0)(A:vI U V=(r,e))(M:S.st.length<=1000000000):jT 118 S [.c (ah 71),.c (.sl 7 (aa [.mk T U Q P Y H B,.mk E V J p W u O]))] (((e,S):MR)):=by
 have I:=LH U V;rw[A]at I;have K:=pE 71 T E;have D:(e != 0):=by simpa using N
 exact mdm func118 call118
def Jk(S:bM)(V U P:Int)(H:Δ)(Y:Ξ)(O:Γ)(B:Θ)(E T F:Int)(p:Δ)(W:Ξ)(u:Γ)(N:Θ)(r e:Int)(Q:e≠0)(A:mo U T=(r,e))(K:S.st.length<=1000000000):jT 118 S [.c (ah 70),.c (.sl 7 (aa [.mk V U P H Y O B,.mk E T F p W u N]))] (((e,S):MR)):=by
 have C:=AT U T;rw[A]at C;have J:=pE 70 V E;have D:(e != 0):=by simpa using Q
 have M:(e==0)=false:=by simpa using Q
 have I:(bif (ofM 70 V E==5)then(e==0)else false)=false:=by rw[M];cases(ofM 70 V E==5)<;>rfl
 exact mdm func118 call118
def Jl(S:bM)(V U Q:Int)(P:Δ)(Y:Ξ)(H:Γ)(B:Θ)(E T F:Int)(p:Δ)(W:Ξ)(u:Γ)(O:Θ)(r:Int)(I:ofM 70 V E=5)(G:r<0)(A:mo U T=(r,0))(N:S.st.length<=1000000000):jT 118 S [.c (ah 70),.c (.sl 7 (aa [.mk V U Q P Y H B,.mk E T F p W u O]))] (bg S [cr []]):=by
 have z:=AT U T;rw[A]at z;have M:=pE 70 V E;have K:(ofM 70 V E==5):=by simpa using I
 have J:decide (r<0):=ace G;have D:=gY S (cr []) gr N;refine mn func118 call118 λy hf=>?_;have C:=gI;exact dm
def Jm(S:bM)(Y U T:Int)(P:Δ)(I:Ξ)(H:Γ)(B:Θ)(E V F:Int)(p:Δ)(W:Ξ)(u:Γ)(Q:Θ)(r:Int)(M:ofM 70 Y E=5)(G:¬r<0)(A:mo U V=(r,0))(O:S.st.length<=1000000000):jT 118 S [.c (ah 70),.c (.sl 7 (aa [.mk Y U T P I H B,.mk E V F p W u Q]))] (bg S [cr [aO (ofM 70 Y E) r]]):=by
 have C:=AT U V;rw[A]at C;have N:=pE 70 Y E;have K:(ofM 70 Y E==5):=by simpa using M
 have J:decide (r<0)=false:=acf G;have z:=cR (ofM 70 Y E) r;have y:=hJ [aO (ofM 70 Y E) r];have D:=gY S (cr [aO (ofM 70 Y E) r]) gr O;exact mdm func118 call118
def Jn(S:bM)(Y U T:Int)(P:Δ)(I:Ξ)(H:Γ)(B:Θ)(E V F:Int)(p:Δ)(W:Ξ)(u:Γ)(Q:Θ)(r:Int)(M:ofM 70 Y E≠5)(A:mo U V=(r,0))(O:S.st.length<=1000000000):jT 118 S [.c (ah 70),.c (.sl 7 (aa [.mk Y U T P I H B,.mk E V F p W u Q]))] (bg S [aO (ofM 70 Y E) r]):=by
 have D:=AT U V;rw[A]at D;have N:=pE 70 Y E;have K:(ofM 70 Y E==5)=false:=by simpa using M
 have C:=cR (ofM 70 Y E) r;have J:=gY S (aO (ofM 70 Y E) r) gr O;exact mdm func118 call118
def ov(S:bM)(V U T:Int)(P:Δ)(Y:Ξ)(H:Γ)(B:Θ)(E Q M:Int)(p:Δ)(W:Ξ)(u:Γ)(O:Θ)(r:MR)(A:cM 141 S [.c (ah (ofM 72 V E)),.c (bz (.mk V U T P Y H B)),.c (bz (.mk E Q M p W u O))] (ah r.1) r.2):cM 118 S [.c (ah 72),.c (.sl 7 (aa [.mk V U T P Y H B,.mk E Q M p W u O]))] (ah r.1) r.2:=by have N:=pE 72 V E;exact mdm func118 call118
end Go.Proofs
namespace Go.Proofs
open Go.cE
def jy(b:Bool):aG (jL b)=1:=rfl
def jZ(k n a:Int)(s:Δ):aG (.mk k n a s [] [] [])=s.length+1:=by simp only[aG,aH,bf,aP]
attribute [local irreducible] AK ag aZ bS cA de nQ ee yl jg aM
def Dn(v w:Vl)(t:Ty)(U:iS t=false)(O:bJ v t)(N:bJ w t)(I:aG v<=1099511627776):af 142 [bz v,bz w] (ah (ee v w)):=by have M:=qH v w t U O N I;obtain⟨V,q,T,P,Y,H,B⟩:=v;obtain⟨E,S,K,p,W,u,Q⟩:=w;exact qdq func142 call142
def aaM(S:bM)(A:Int)(K:Δ)(V U T:Int)(P:Δ)(Y:Ξ)(H:Γ)(B:Θ)(E Q J:Int)(p:Δ)(W:Ξ)(u:Γ)(O:Θ)(I:af 142 [bz (.mk V U T P Y H B),bz (.mk E Q J p W u O)] (ah (ee (.mk V U T P Y H B) (.mk E Q J p W u O))))(N:S.st.length<=1000000000):jT 119 S [.c (aV (.mk 2 A 73 K [])),.c (.sl 7 (aa [.mk V U T P Y H B,.mk E Q J p W u O]))] (bg S [aO 3 (ee (.mk V U T P Y H B) (.mk E Q J p W u O))]):=by generalize ee (.mk V U T P Y H B) (.mk E Q J p W u O)=r at I ⊢;have F:=cR 3 r;have M:=gY S (aO 3 r) fc N;exact mdm func119 call119
def adC(S:bM)(T:Int)(p:Δ)(W U V:Int)(P:Δ)(Y:Ξ)(H:Γ)(B:Θ)(E:S.st.length<=1000000000):jT 119 S [.c (aV (.mk 2 T 74 p [])),.c (.sl 7 (aa [.mk W U V P Y H B]))] (bg S [jL (U==0)]):=by have Q:=lH (U==0);have M:=gY S (jL (U==0)) fc E;exact mdm func119 call119
def adD(S:bM)(T:Int)(p:Δ)(W U V:Int)(P:Δ)(Y:Ξ)(H:Γ)(B:Θ)(E:S.st.length<=1000000000):jT 119 S [.c (aV (.mk 2 T 75 p [])),.c (.sl 7 (aa [.mk W U V P Y H B]))] (bg S [jL (decide (U<0))]):=by have Q:=lH (decide (U<0));have M:=gY S (jL (decide (U<0))) fc E;exact mdm func119 call119
def adE(S:bM)(T:Int)(p:Δ)(W U V:Int)(P:Δ)(Y:Ξ)(H:Γ)(B:Θ)(E:S.st.length<=1000000000):jT 119 S [.c (aV (.mk 2 T 76 p [])),.c (.sl 7 (aa [.mk W U V P Y H B]))] (bg S [jL (decide (U>0))]):=by have Q:=lH (decide (U>0));have M:=gY S (jL (decide (U>0))) fc E;exact mdm func119 call119
def adF(S:bM)(T:Int)(p:Δ)(W U V:Int)(P:Δ)(Y:Ξ)(H:Γ)(B:Θ)(E:S.st.length<=1000000000):jT 119 S [.c (aV (.mk 2 T 77 p [])),.c (.sl 7 (aa [.mk W U V P Y H B]))] (bg S [jL (U==0)]):=by have Q:=lH (U==0);have M:=gY S (jL (U==0)) fc E;exact mdm func119 call119
def aaN(S:bM)(T:Int)(p:Δ)(Q U P:Int)(H:Δ)(Y:Ξ)(O:Γ)(B:Θ)(E V I:Int)(N:Δ)(W:Ξ)(u:Γ)(M:Θ)(h:U=1)(K:S.st.length<=1000000000):jT 119 S [.c (aV (.mk 2 T 78 p [])),.c (.sl 7 (aa [.mk Q U P H Y O B,.mk E V I N W u M]))] (bg S [jL (V==1)]):=by
 have D:(U==1):=by simpa using h
 clear h;have F:=lH (V==1);have J:=gY S (jL (V==1)) fc K;exact mdm func119 call119
def aaO(S:bM)(T:Int)(p:Δ)(V U Q:Int)(P:Δ)(Y:Ξ)(H:Γ)(B:Θ)(E O I:Int)(N:Δ)(W:Ξ)(u:Γ)(M:Θ)(h:U≠1)(K:S.st.length<=1000000000):jT 119 S [.c (aV (.mk 2 T 78 p [])),.c (.sl 7 (aa [.mk V U Q P Y H B,.mk E O I N W u M]))] (bg S [jL false]):=by
 have D:(U==1)=false:=by simpa using h
 clear h;have F:=lH false;have J:=gY S (jL false) fc K;exact mdm func119 call119
def aaP(S:bM)(T:Int)(p:Δ)(V U Q:Int)(P:Δ)(Y:Ξ)(H:Γ)(B:Θ)(E O I:Int)(N:Δ)(W:Ξ)(u:Γ)(M:Θ)(h:U=1)(K:S.st.length<=1000000000):jT 119 S [.c (aV (.mk 2 T 79 p [])),.c (.sl 7 (aa [.mk V U Q P Y H B,.mk E O I N W u M]))] (bg S [jL true]):=by
 have D:(U==1):=by simpa using h
 clear h;have F:=lH true;have J:=gY S (jL true) fc K;exact mdm func119 call119
def aaQ(S:bM)(T:Int)(p:Δ)(Q U P:Int)(H:Δ)(Y:Ξ)(O:Γ)(B:Θ)(E V I:Int)(N:Δ)(W:Ξ)(u:Γ)(M:Θ)(h:U≠1)(K:S.st.length<=1000000000):jT 119 S [.c (aV (.mk 2 T 79 p [])),.c (.sl 7 (aa [.mk Q U P H Y O B,.mk E V I N W u M]))] (bg S [jL (V==1)]):=by
 have D:(U==1)=false:=by simpa using h
 clear h;have F:=lH (V==1);have J:=gY S (jL (V==1)) fc K;exact mdm func119 call119
def XN(S:bM)(T:Int)(K:Δ)(V U Q:Int)(P:Δ)(Y:Ξ)(H:Γ)(B:Θ)(E O I:Int)(p:Δ)(W:Ξ)(u:Γ)(N:Θ)(h:200<P.length+p.length)(M:P.length+p.length<=1000000000)(J:S.st.length<=1000000000):jT 119 S [.c (aV (.mk 2 T 80 K [])),.c (.sl 7 (aa [.mk V U Q P Y H B,.mk E O I p W u N]))] (((13,S):MR)):=by
 have q:i64.wrap ((P.length:Int)+(p.length:Nat))=(P.length:Int)+(p.length:Nat):=gW ai ai;have D:decide (i64.wrap ((P.length:Int)+(p.length:Nat))>200):=by rw[q];exact ace ai
 clear h;exact mdm func119 call119
def XO(S:bM)(A:Int)(K:Δ)(V U Q:Int)(P:Δ)(Y:Ξ)(H:Γ)(B:Θ)(E O I:Int)(p:Δ)(W:Ξ)(u:Γ)(N:Θ)(h:¬200<P.length+p.length)(M:S.st.length<=1000000000):jT 119 S [.c (aV (.mk 2 A 80 K [])),.c (.sl 7 (aa [.mk V U Q P Y H B,.mk E O I p W u N]))] (bg S [.mk 6 0 0 (P++p) [] [] []]):=by
 have q:i64.wrap ((P.length:Int)+(p.length:Nat))=(P.length:Int)+(p.length:Nat):=gW ai ai;have D:decide (i64.wrap ((P.length:Int)+(p.length:Nat))>200)=false:=by rw[q];exact acf ai
 have J:=gY S (.mk 6 0 0 (P++p) [] [] []) (by simp only[jZ,acg];omega) M;have T:P.length+p.length<=9223372036854775807:=by omega
 clear h;refine mn func119 call119 λF hf=>?_
 repeat' (first|refine pS ?_|refine zc ?_ ?_|(intro h;first|(cases h;done)|rw[h]|skip)|refine uI Z (0) Z (Z) Z ?_|refine uI Z (1) Z (Z) Z ?_|refine uI Z (2) Z (Z) Z ?_|refine ag.concat hX kn Z Z Z Z Z T ?_|refine xY ?_ (hq:=J))
 all_goals rfl
def UH(S:bM)(A:Int)(p:Δ)(W U T:Int)(P:Δ)(Y:Ξ)(H:Γ)(B:Θ)(s:Δ)(e:Int)(V:af 144 [bz (.mk W U T P Y H B)] (.eK [.str s,ah e]))(h:e≠0)(E:S.st.length<=1000000000):jT 119 S [.c (aV (.mk 2 A 81 p [])),.c (.sl 7 (aa [.mk W U T P Y H B]))] (((13,S):MR)):=by
 have D:(e != 0):=by simpa using h
 clear h;exact mdm func119 call119
def UI(S:bM)(A:Int)(p:Δ)(W U T:Int)(P:Δ)(Y:Ξ)(H:Γ)(B:Θ)(s:Δ)(V:af 144 [bz (.mk W U T P Y H B)] (.eK [.str s,ah 0]))(I:s.length<=1000000000)(E:S.st.length<=1000000000):jT 119 S [.c (aV (.mk 2 A 81 p [])),.c (.sl 7 (aa [.mk W U T P Y H B]))] (bg S [.mk 6 0 0 s [] [] []]):=by have M:=gY S (.mk 6 0 0 s [] [] []) (by simp only[jZ];omega) E;clear I;exact mdm func119 call119
def aaR(S:bM)(A:Int)(p:Δ)(U q Q:Int)(P:Δ)(Y:Ξ)(H:Γ)(B:Θ)(x:Nd)(O:bE x<=8589934593)(v:Vl)(e:Int)(W:jg (aM x).1 P=(v,e))(h:e≠0)(E:S.st.length<=1000000000):jT 119 S [.c (aV (.mk 2 A 82 p [x])),.c (.sl 7 (aa [.mk U q Q P Y H B]))] (bg S [cr []]):=by
 have D:(e != 0):=by simpa using h
 clear h;have M:=gY S (cr []) fc E;have F:=ke x O;have V:=CT (aM x).1 P (TQ x O);rw[W]at V;clear W;generalize aM x=tp at F V;obtain⟨⟨T,z⟩,e0⟩:=tp;obtain⟨N,K,J,I,G⟩:=x;obtain⟨C,n3,u,y,t,r,o⟩:=v;refine mn func119 call119 λm hf=>?_;have j:=gI;exact dm
def aaS(S:bM)(A:Int)(p:Δ)(U q Q:Int)(P:Δ)(Y:Ξ)(H:Γ)(B:Θ)(x:Nd)(O:bE x<=8589934593)(v:Vl)(W:jg (aM x).1 P=(v,0))(u:aG v<=8589934000)(E:S.st.length<=1000000000):jT 119 S [.c (aV (.mk 2 A 82 p [x])),.c (.sl 7 (aa [.mk U q Q P Y H B]))] (bg S [cr [v]]):=by have M:=gY S (cr [v]) (by simp only[fV,aH];omega) E;clear u;have z:=hJ [v];have F:=ke x O;have V:=CT (aM x).1 P (TQ x O);rw[W]at V;clear W;generalize aM x=tp at F V;obtain⟨⟨T,y⟩,e0⟩:=tp;obtain⟨N,K,J,I,G⟩:=x;obtain⟨D,n3,C,t,r,o,m⟩:=v;exact mdm func119 call119
def XP(S:bM)(A:Int)(p:Δ)(W U T:Int)(P:Δ)(Y:Ξ)(H:Γ)(B:Θ)(E:S.st.length<=1000000000):jT 119 S [.c (aV (.mk 2 A 83 p [])),.c (.sl 7 (aa [.mk W U T P Y H B]))] (((10,{S with said := .mk W U T P Y H B}):MR)):=by exact mdm func119 call119
end Go.Proofs
namespace Go.Proofs
open Go.cE
attribute [local irreducible] AK ag aZ bS cA de nQ ee aM
def T7(S:bM)(T:Int)(p:Δ)(E:S.st.length<=1000000000):jT 120 S [.c (aV (.mk 2 T 89 p [])),.c (.sl 7 (aa []))] (bg S [aO 7 S.self]):=by have Y:=cR 7 S.self;have M:=gY S (aO 7 S.self) fc E;exact mdm func120 call120
def NG(S:bM)(T:Int)(p:Δ)(E:S.st.length<=1000000000):jT 120 S [.c (aV (.mk 2 T 90 p [])),.c (.sl 7 (aa []))] (bg S [aO 7 S.jr]):=by have Y:=cR 7 S.jr;have M:=gY S (aO 7 S.jr) fc E;exact mdm func120 call120
def NI(S:bM)(T:Int)(p:Δ)(E:S.st.length<=1000000000):jT 120 S [.c (aV (.mk 2 T 91 p [])),.c (.sl 7 (aa []))] (bg S [aO 5 S.js]):=by have Y:=cR 5 S.js;have M:=gY S (aO 5 S.js) fc E;exact mdm func120 call120
def Kz(S:bM)(T:Int)(p:Δ)(E:S.st.length<=1000000000):jT 120 S [.c (aV (.mk 2 T 92 p [])),.c (.sl 7 (aa []))] (bg S [aO 5 S.balance]):=by have Y:=cR 5 S.balance;have M:=gY S (aO 5 S.balance) fc E;exact mdm func120 call120
def Q1(S:bM)(T:Int)(p:Δ)(U q Q:Int)(P:Δ)(Y:Ξ)(H:Γ)(B:Θ)(E V I:Int)(O:Δ)(W:Ξ)(u:Γ)(N:Θ)(h:V=0)(M:S.st.length<=1000000000):jT 120 S [.c (aV (.mk 2 T 84 p [])),.c (.sl 7 (aa [.mk U q Q P Y H B,.mk E V I O W u N]))] (bg S [cr []]):=by
 have D:(V==0):=by simpa using h
 clear h;have K:=gY S (cr []) fc M;refine mn func120 call120 λF hf=>?_;have J:=gI;exact dm
def Q2(S:bM)(T:Int)(p:Δ)(U q Q:Int)(P:Δ)(Y:Ξ)(H:Γ)(B:Θ)(E W F:Int)(O:Δ)(V:Ξ)(u:Γ)(N:Θ)(C:W≠0)(I:0<=W/\W<=1152921504606846976)(h:S.aj>1152921504606846976-W)(K:S.st.length<=1000000000):jT 120 S [.c (aV (.mk 2 T 84 p [])),.c (.sl 7 (aa [.mk U q Q P Y H B,.mk E W F O V u N]))] (((11,S):MR)):=by
 have M:(W==0)=false:=by simpa using C
 have D:i64.wrap (1152921504606846976-W)=1152921504606846976-W:=gW ai ai;have J:decide (S.aj>i64.wrap (1152921504606846976-W)):=by rw[D];exact ace h
 clear h C;exact mdm func120 call120
def Q3(S:bM)(A:Int)(p:Δ)(U q T:Int)(P:Δ)(Y:Ξ)(H:Γ)(B:Θ)(E W F:Int)(O:Δ)(V:Ξ)(N:Γ)(M:Θ)(C:W≠0)(G:0<=W/\W<=1152921504606846976)(h:¬S.aj>1152921504606846976-W)(z:0<=S.aj)(u:aG (.mk U q T P Y H B)<=8589934000)(K:S.st.length<=1000000000):jT 120 S [.c (aV (.mk 2 A 84 p [])),.c (.sl 7 (aa [.mk U q T P Y H B,.mk E W F O V N M]))] (bg {S with aj:=S.aj+W} [cr [.mk 15 W S.self [] [.mk U q T P Y H B] [] []]]):=by
 have J:(W==0)=false:=by simpa using C
 have D:i64.wrap (1152921504606846976-W)=1152921504606846976-W:=gW ai ai;have Q:i64.wrap (S.aj+W)=S.aj+W:=gW ai ai;have y:decide (S.aj>i64.wrap (1152921504606846976-W))=false:=by rw[D];exact acf h
 have x:=hJ [.mk 15 W S.self [] [.mk U q T P Y H B] [] []];have I:=gY {S with aj:=S.aj+W} (cr [.mk 15 W S.self [] [.mk U q T P Y H B] [] []]) (by simp only[aG]at u;simp only[fV,aG,aH,bf,aP,aav];omega) K;rw[<- Q]at I ⊢;clear h C u Q;exact mdm func120 call120
def I3(S:bM)(A:Int)(p:Δ)(V U Q:Int)(P:Δ)(Y:Ξ)(H:Γ)(B:Θ)(E O F:Int)(N:Δ)(W:Ξ)(M:Γ)(K:Θ)(J n3 I:Int)(G:Δ)(D:Ξ)(C:Γ)(q:Θ)(x:Nd)(z:bE x<=8589934593)(u:aG (.mk 8 O n3 [] [.mk V U Q P Y H B] [(aM x).1] [])<=8589934593)(y:S.st.length<=1000000000):jT 120 S [.c (aV (.mk 2 A 88 p [x])),.c (.sl 7 (aa [.mk V U Q P Y H B,.mk E O F N W M K,.mk J n3 I G D C q]))] (bg S [.mk 8 O n3 [] [.mk V U Q P Y H B] [(aM x).1] []]):=by have t:=gY S (.mk 8 O n3 [] [.mk V U Q P Y H B] [(aM x).1] []) u y;have r:=ke x z;clear u;generalize aM x=tp at r t ⊢;obtain⟨⟨T,o⟩,e0⟩:=tp;obtain⟨m,j,i,f,d⟩:=x;exact mdm func120 call120
def T9(S:bM)(A:Int)(p:Δ)(O U T:Int)(H:Δ)(Y:Ξ)(N:Γ)(B:Θ)(V n3 I:Int)(M:Δ)(W:Ξ)(Q:Γ)(P:Θ)(u:aG (.mk O U T H (.mk V n3 I M W Q P::Y) N B)<=8589934000)(E:S.st.length<=1000000000):jT 120 S [.c (aV (.mk 2 A 85 p [])),.c (.sl 7 (aa [.mk O U T H (.mk V n3 I M W Q P::Y) N B]))] (bg S [.mk O U T H (.mk V n3 I M W Q P::Y) N B,aU (aO 7 T) (aU (.mk V n3 I M W Q P) (aO 4 U))]):=by have F:=cR 7 T;have D:=cR 4 U;have K:=jM (.mk V n3 I M W Q P) (aO 4 U);have J:=jM (aO 7 T) (aU (.mk V n3 I M W Q P) (aO 4 U));have G:=agv S (.mk O U T H (.mk V n3 I M W Q P::Y) N B) (aU (aO 7 T) (aU (.mk V n3 I M W Q P) (aO 4 U))) ai (by simp only[aG,aH]at u;simp only[eY,gF,aG];omega) E;clear u;exact mdm func120 call120
def KA(S:bM)(T:Int)(p:Δ)(V U Q:Int)(P:Δ)(Y:Ξ)(H:Γ)(B:Θ)(E O F:Int)(N:Δ)(W:Ξ)(u:Γ)(M:Θ)(K n3 I:Int)(J:Δ)(G:Ξ)(D:Γ)(C:Θ)(q A z:Int)(y:Δ)(x:Ξ)(t:Γ)(r:Θ)(m:0<=n3/\n3<=1152921504606846976)(j:0<=A/\A<=1152921504606846976)(h:n3<1)(o:S.st.length<=1000000000):jT 120 S [.c (aV (.mk 2 T 86 p [])),.c (.sl 7 (aa [.mk V U Q P Y H B,.mk E O F N [.mk K n3 I J G D C,.mk q A z y x t r] u M]))] (bg S [cr []]):=by have i:i64.wrap (n3+A)=n3+A:=gW ai ai;have f:decide (n3<1):=ace h;clear h;have d:=gY S (cr []) fc o;refine mn func120 call120 λb hf=>?_;have a:=gI;exact dm
def KB(S:bM)(T:Int)(p:Δ)(V U Q:Int)(P:Δ)(Y:Ξ)(H:Γ)(B:Θ)(E O z:Int)(N:Δ)(W:Ξ)(u:Γ)(M:Θ)(K n3 I:Int)(J:Δ)(G:Ξ)(D:Γ)(C:Θ)(q A y:Int)(x:Δ)(t:Ξ)(r:Γ)(o:Θ)(d:0<=n3/\n3<=1152921504606846976)(b:0<=A/\A<=1152921504606846976)(h:¬n3<1)(F:A<1)(m:S.st.length<=1000000000):jT 120 S [.c (aV (.mk 2 T 86 p [])),.c (.sl 7 (aa [.mk V U Q P Y H B,.mk E O z N [.mk K n3 I J G D C,.mk q A y x t r o] u M]))] (bg S [cr []]):=by
 have a:i64.wrap (n3+A)=n3+A:=gW ai ai;have j:decide (n3<1)=false:=acf h;have i:decide (A<1):=ace F;have f:(bif decide (n3<1)then true else decide (A<1))=true:=by rw[j,i];rfl
 clear h F;have hp:=gY S (cr []) fc m;refine mn func120 call120 λβ hf=>?_;have WM:=gI;exact dm
def KC(S:bM)(T:Int)(p:Δ)(Q U P:Int)(H:Δ)(Y:Ξ)(O:Γ)(B:Θ)(E N z:Int)(M:Δ)(W:Ξ)(u:Γ)(K:Θ)(J n3 I:Int)(G:Δ)(D:Ξ)(C:Γ)(q:Θ)(y A x:Int)(t:Δ)(r:Ξ)(o:Γ)(m:Θ)(h3:0<=n3/\n3<=1152921504606846976)(h4:0<=A/\A<=1152921504606846976)(h:¬n3<1)(F:¬A<1)(V:n3+A≠U)(j:S.st.length<=1000000000):jT 120 S [.c (aV (.mk 2 T 86 p [])),.c (.sl 7 (aa [.mk Q U P H Y O B,.mk E N z M [.mk J n3 I G D C q,.mk y A x t r o m] u K]))] (bg S [cr []]):=by
 have i:i64.wrap (n3+A)=n3+A:=gW ai ai;have f:decide (n3<1)=false:=acf h;have d:decide (A<1)=false:=acf F;have b:(i64.wrap (n3+A) != U):=by rw[i];simpa using V
 have a:(bif decide (n3<1)then true else decide (A<1))=false:=by rw[f,d];rfl
 clear h F V;have hp:=gY S (cr []) fc j;refine mn func120 call120 λβ hf=>?_;have ω:=gI;exact dm
def NN(S:bM)(N:Int)(p:Δ)(W U T:Int)(P:Δ)(Y:Ξ)(H:Γ)(B:Θ)(E M F:Int)(K:Δ)(V:Ξ)(J:Γ)(I:Θ)(G n3 D:Int)(C:Δ)(q:Ξ)(z:Γ)(y:Θ)(x A t:Int)(r:Δ)(o:Ξ)(m:Γ)(j:Θ)(h3:0<=n3/\n3<=1152921504606846976)(h4:0<=A/\A<=1152921504606846976)(h:¬(n3<1\/A<1\/n3+A≠U))(u:aG (.mk W U T P Y H B)<=4294967000)(i:S.st.length<=1000000000):jT 120 S [.c (aV (.mk 2 N 86 p [])),.c (.sl 7 (aa [.mk W U T P Y H B,.mk E M F K [.mk G n3 D C q z y,.mk x A t r o m j] J I]))] (bg S [cr [aU (.mk W n3 T P Y H B) (.mk W A T P Y H B)]]):=by
 have f:i64.wrap (n3+A)=n3+A:=gW ai ai;have d:decide (n3<1)=false:=acf ai;have b:decide (A<1)=false:=acf ai;have Q:(i64.wrap (n3+A) != U)=false:=by rw[f];simpa using (show n3+A=U by omega)
 have O:(bif decide (n3<1)then true else decide (A<1))=false:=by rw[d,b];rfl
 have a:(bif (bif decide (n3<1)then true else decide (A<1))then true else(i64.wrap (n3+A) != U))=false:=by rw[O,Q];rfl
 have h1:=jM (.mk W n3 T P Y H B) (.mk W A T P Y H B);have h2:=hJ [aU (.mk W n3 T P Y H B) (.mk W A T P Y H B)];have hp:=gY S (cr [aU (.mk W n3 T P Y H B) (.mk W A T P Y H B)]) (by simp only[aG]at u;simp only[fV,eY,aG,aH];omega) i;clear h u;exact mdm func120 call120
def Q7(S:bM)(T:Int)(p:Δ)(W U V:Int)(P:Δ)(I:Ξ)(H:Γ)(B:Θ)(E Q F:Int)(O:Δ)(Y:Ξ)(u:Γ)(M:Θ)(K n3 J:Int)(G:Δ)(D:Ξ)(C:Γ)(A:Θ)(q z N:Int)(y:Δ)(x:Ξ)(t:Γ)(r:Θ)(o n5 m:Int)(j:Δ)(i:Ξ)(f:Γ)(d:Θ)(h:F≠N)(b:S.st.length<=1000000000):jT 120 S [.c (aV (.mk 2 T 87 p [])),.c (.sl 7 (aa [.mk W U V P [.mk E Q F O (.mk K n3 J G D C A::Y) u M,.mk q z N y (.mk o n5 m j i f d::x) t r] H B]))] (bg S [cr []]):=by
 have hc:(F != N):=by simpa using h
 clear h;have hp:=gY S (cr []) fc b;refine mn func120 call120 λβ hf=>?_;have a:=gI;exact dm
def Q8(S:bM)(A:Int)(p:Δ)(G q D:Int)(C:Δ)(I:Ξ)(B:Γ)(u:Θ)(y x F:Int)(t:Δ)(Y:Ξ)(o:Γ)(m:Θ)(V n3 P:Int)(M:Δ)(W:Ξ)(U:Γ)(Q:Θ)(j i N:Int)(f:Δ)(d:Ξ)(b:Γ)(a:Θ)(T n5 E:Int)(O:Δ)(K:Ξ)(J:Γ)(H:Θ)(r:Int)(hq:af 142 [bz (.mk V n3 P M W U Q),bz (.mk T n5 E O K J H)] (ah r))(h:F=N)(z:r≠0)(hl:S.st.length<=1000000000):jT 120 S [.c (aV (.mk 2 A 87 p [])),.c (.sl 7 (aa [.mk G q D C [.mk y x F t (.mk V n3 P M W U Q::Y) o m,.mk j i N f (.mk T n5 E O K J H::d) b a] B u]))] (bg S [cr []]):=by
 have hc:(F != N)=false:=by simpa using h
 have AU:(r != 0):=by simpa using z
 clear h z;have hp:=gY S (cr []) fc hl;refine mn func120 call120 λβ hf=>?_;have ω:=gI;exact dm
def Q9(S:bM)(D:Int)(p:Δ)(C q u:Int)(z:Δ)(I:Ξ)(y:Γ)(x:Θ)(t W F:Int)(r:Δ)(Y:Ξ)(o:Γ)(m:Θ)(V n3 P:Int)(M:Δ)(U:Ξ)(T:Γ)(Q:Θ)(j A N:Int)(i:Δ)(f:Ξ)(d:Γ)(b:Θ)(O n5 E:Int)(K:Δ)(J:Ξ)(H:Γ)(G:Θ)(hq:af 142 [bz (.mk V n3 P M U T Q),bz (.mk O n5 E K J H G)] (ah 0))(h:F=N)(a:0<=W/\W<=1152921504606846976)(ω:0<=A/\A<=1152921504606846976)(B:W>1152921504606846976-A)(hl:S.st.length<=1000000000):jT 120 S [.c (aV (.mk 2 D 87 p [])),.c (.sl 7 (aa [.mk C q u z [.mk t W F r (.mk V n3 P M U T Q::Y) o m,.mk j A N i (.mk O n5 E K J H G::f) d b] y x]))] (((11,S):MR)):=by
 have hw:i64.wrap (1152921504606846976-A)=1152921504606846976-A:=gW ai ai;have hc:(F != N)=false:=by simpa using h
 have AU:((0:Int) != 0)=false:=rfl;have hg:(bif (F != N)then true else((0:Int) != 0))=false:=by rw[hc];rfl
 have ψ:decide (W>i64.wrap (1152921504606846976-A)):=by rw[hw];exact ace B
 clear h B;exact mdm func120 call120
def Ra(S:bM)(y:Int)(x:Δ)(t r o:Int)(m:Δ)(O:Ξ)(j:Γ)(i:Θ)(E W F:Int)(p:Δ)(Y:Ξ)(u:Γ)(P:Θ)(V n3 I:Int)(M:Δ)(U:Ξ)(T:Γ)(Q:Θ)(f A N:Int)(d:Δ)(b:Ξ)(a:Γ)(sj:Θ)(K n5 J:Int)(H:Δ)(G:Ξ)(D:Γ)(C:Θ)(hq:af 142 [bz (.mk V n3 I M U T Q),bz (.mk K n5 J H G D C)] (ah 0))(h:F=N)(ω:0<=W/\W<=1152921504606846976)(ψ:0<=A/\A<=1152921504606846976)(B:¬W>1152921504606846976-A)(q:aG (.mk E W F p (.mk V n3 I M U T Q::Y) u P)<=8589934000)(hl:S.st.length<=1000000000):jT 120 S [.c (aV (.mk 2 y 87 x [])),.c (.sl 7 (aa [.mk t r o m [.mk E W F p (.mk V n3 I M U T Q::Y) u P,.mk f A N d (.mk K n5 J H G D C::b) a sj] j i]))] (bg S [cr [.mk E (W+A) F p (.mk V n3 I M U T Q::Y) u P]]):=by
 have hw:i64.wrap (1152921504606846976-A)=1152921504606846976-A:=gW ai ai;have hc:(F != N)=false:=by simpa using h
 have AU:((0:Int) != 0)=false:=rfl;have hg:(bif (F != N)then true else((0:Int) != 0))=false:=by rw[hc];rfl
 have z:i64.wrap (W+A)=W+A:=gW ai ai;have χ:decide (W>i64.wrap (1152921504606846976-A))=false:=by rw[hw];exact acf B
 have h2:=hJ [.mk E (W+A) F p (.mk V n3 I M U T Q::Y) u P];have hp:=gY S (cr [.mk E (W+A) F p (.mk V n3 I M U T Q::Y) u P]) (by simp only[aG,aH]at q;simp only[fV,aG,aH];omega) hl;rw[<- z]at h2 hp ⊢;clear h B q z;exact mdm func120 call120
end Go.Proofs
