/- What reckon and divide of package run's machine do. -/
import Derived.Test.YtdnpapgijbhofaaGreatDoorNum2
open Go.IntKind
open Go.Proofs.Tryz
set_option linter.defProp false
set_option maxHeartbeats 0
set_option linter.unusedVariables false
set_option linter.unusedSimpArgs false
set_option maxRecDepth 100000
namespace Go.Proofs
open Go.cM
def eS(k n:Int):aO (aL k n)=1:=rfl
def ez(l:L Vl):aO (cw l)=aK l+1:=by simp only[cw,aO,bg,aS,aad];omega
def dN(a b:Vl):aO (bt a b)=aO a+aO b+1:=by simp only[bt,aO,aK,bg,aS,aad];omega
attribute [local irreducible] AK ah aZ cx dM dV mB rF jn qd gf mh ofM
def Lw(S:b9)(k:Int)(u U W:Int)(V:L UInt8)(Y:L Vl)(T:L Ty)(Q:L Nd)(A J P:Int)(O:L UInt8)(G:L Vl)(K:L Ty)(I:L Nd)(q r e:Int)(N:e≠0)(M:gf U J=(q,r,e))(B:S.st.length<=1000000000):gR 164 S [.c (aE k),.c (bO (.mk u U W V Y T Q)),.c (bO (.mk A J P O G K I))] (bp S [cw []]):=by
 have hq:=rG U J;rw[M]at hq;have p:(e != 0)=true:=by simpa using N
 have D:=fC S (cw []) jS B;refine mn func164 call164 λβ hf=>?_;have H:=eU;exact dm
def Ou(S:b9)(k:Int)(u U W:Int)(V:L UInt8)(Y:L Vl)(T:L Ty)(Q:L Nd)(A J P:Int)(O:L UInt8)(G:L Vl)(K:L Ty)(I:L Nd)(q r:Int)(D:k=5)(N:A=5)(M:gf U J=(q,r,0))(B:S.st.length<=1000000000):gR 164 S [.c (aE k),.c (bO (.mk u U W V Y T Q)),.c (bO (.mk A J P O G K I))] (bp S [cw [bt (aL (4) q) (aL 5 r)]]):=by
 have hq:=rG U J;rw[M]at hq;have H:(k==5)=true:=by simpa using D
 have E:(A==5)=true:=by simpa using N
 have h1:=cE (4) q;have h2:=cE 5 r;have C:=gN (aL (4) q) (aL 5 r);have p:=fE [bt (aL (4) q) (aL 5 r)];have hp:=fC S (cw [bt (aL (4) q) (aL 5 r)]) jS B;refine mn func164 call164 λβ hf=>?_;exact dm
def Rr(S:b9)(k:Int)(u U W:Int)(V:L UInt8)(Y:L Vl)(T:L Ty)(Q:L Nd)(A J P:Int)(O:L UInt8)(G:L Vl)(K:L Ty)(I:L Nd)(q r:Int)(D:k=5)(N:A≠5)(M:gf U J=(q,r,0))(B:S.st.length<=1000000000):gR 164 S [.c (aE k),.c (bO (.mk u U W V Y T Q)),.c (bO (.mk A J P O G K I))] (bp S [cw [bt (aL (k) q) (aL 5 r)]]):=by
 have hq:=rG U J;rw[M]at hq;have H:(k==5)=true:=by simpa using D
 have E:(A==5)=false:=by simpa using N
 have h1:=cE (k) q;have h2:=cE 5 r;have C:=gN (aL (k) q) (aL 5 r);have p:=fE [bt (aL (k) q) (aL 5 r)];have hp:=fC S (cw [bt (aL (k) q) (aL 5 r)]) jS B;refine mn func164 call164 λβ hf=>?_;exact dm
def xU(S:b9)(k:Int)(u U W:Int)(V:L UInt8)(Y:L Vl)(T:L Ty)(Q:L Nd)(A J P:Int)(O:L UInt8)(G:L Vl)(K:L Ty)(I:L Nd)(q r:Int)(D:k≠5)(N:gf U J=(q,r,0))(B:S.st.length<=1000000000):gR 164 S [.c (aE k),.c (bO (.mk u U W V Y T Q)),.c (bO (.mk A J P O G K I))] (bp S [cw [bt (aL (k) q) (aL 4 r)]]):=by
 have hq:=rG U J;rw[N]at hq;have M:(k==5)=false:=by simpa using D
 have h1:=cE (k) q;have h2:=cE 4 r;have H:=gN (aL (k) q) (aL 4 r);have E:=fE [bt (aL (k) q) (aL 4 r)];have C:=fC S (cw [bt (aL (k) q) (aL 4 r)]) jS B;refine mn func164 call164 λβ hf=>?_;exact dm
def Lx(S:b9)(u U W:Int)(V:L UInt8)(Y:L Vl)(T:L Ty)(Q:L Nd)(B:S.st.length<=1000000000):gR 138 S [.c (aE 93),.c (.sl 7 (aa [.mk u U W V Y T Q]))] (bp S [aL 4 (mh U).1]):=by
 have hq:=yx U;have q:=fC S (aL 4 (mh U).1) jS B;generalize mh U=r at hq q ⊢;obtain⟨r,e⟩:=r;have h1:=cE 4 r;refine mn func138 call138 λβ hf=>?_;exact dm
def Jb(S:b9)(u U W:Int)(V:L UInt8)(Y:L Vl)(T:L Ty)(Q:L Nd)(E:U<0)(B:S.st.length<=1000000000):gR 138 S [.c (aE 94),.c (.sl 7 (aa [.mk u U W V Y T Q]))] (bp S [cw []]):=by
 have A:decide (U<0)=true:=aaw E;have q:=fC S (cw []) jS B;refine mn func138 call138 λβ hf=>?_;have P:=eU;exact dm
def Jc(S:b9)(u U W:Int)(V:L UInt8)(Y:L Vl)(T:L Ty)(Q:L Nd)(E:¬U<0)(B:S.st.length<=1000000000):gR 138 S [.c (aE 94),.c (.sl 7 (aa [.mk u U W V Y T Q]))] (bp S [cw [aL 4 U]]):=by
 have A:decide (U<0)=false:=aax E;have h1:=cE 4 U;have h2:=fE [aL 4 U];have q:=fC S (cw [aL 4 U]) jS B;refine mn func138 call138 λβ hf=>?_;exact dm
def Ly(S:b9)(u U W:Int)(V:L UInt8)(Y:L Vl)(T:L Ty)(Q:L Nd)(B:S.st.length<=1000000000):gR 138 S [.c (aE 95),.c (.sl 7 (aa [.mk u U W V Y T Q]))] (bp S [aL 3 U]):=by
 have h1:=cE 3 U;have q:=fC S (aL 3 U) jS B;refine mn func138 call138 λβ hf=>?_;exact dm
def DL(S:b9)(u U W:Int)(V:L UInt8)(Y:L Vl)(T:L Ty)(Q:L Nd)(A J P:Int)(q:L UInt8)(G:L Vl)(K:L Ty)(I:L Nd)(r:Int)(O:rF U J=(r,0))(B:S.st.length<=1000000000):gR 138 S [.c (aE 69),.c (.sl 7 (aa [.mk u U W V Y T Q,.mk A J P q G K I]))] (bp S [aL (ofM 69 u A) r]):=by
 have hq:=DZ U J;rw[O]at hq;have N:=lS 69 u A;have h1:=cE (ofM 69 u A) r;have D:=fC S (aL (ofM 69 u A) r) jS B;refine mn func138 call138 λβ hf=>?_;exact dm
def CJ(S:b9)(u U W:Int)(V:L UInt8)(Y:L Vl)(T:L Ty)(Q:L Nd)(A J P:Int)(q:L UInt8)(G:L Vl)(K:L Ty)(I:L Nd)(r e:Int)(O:e≠0)(N:rF U J=(r,e))(B:S.st.length<=1000000000):gR 138 S [.c (aE 69),.c (.sl 7 (aa [.mk u U W V Y T Q,.mk A J P q G K I]))] (((e,S):MR)):=by
 have hq:=DZ U J;rw[N]at hq;have M:=lS 69 u A;have p:(e != 0)=true:=by simpa using O
 refine mn func138 call138 λβ hf=>?_;exact dm
def DM(S:b9)(u U W:Int)(V:L UInt8)(Y:L Vl)(T:L Ty)(Q:L Nd)(A J P:Int)(q:L UInt8)(G:L Vl)(K:L Ty)(I:L Nd)(r:Int)(O:qd U J=(r,0))(B:S.st.length<=1000000000):gR 138 S [.c (aE 71),.c (.sl 7 (aa [.mk u U W V Y T Q,.mk A J P q G K I]))] (bp S [aL (ofM 71 u A) r]):=by
 have hq:=Er U J;rw[O]at hq;have N:=lS 71 u A;have h1:=cE (ofM 71 u A) r;have D:=fC S (aL (ofM 71 u A) r) jS B;refine mn func138 call138 λβ hf=>?_;exact dm
def CK(S:b9)(u U W:Int)(V:L UInt8)(Y:L Vl)(T:L Ty)(Q:L Nd)(A J P:Int)(q:L UInt8)(G:L Vl)(K:L Ty)(I:L Nd)(r e:Int)(O:e≠0)(N:qd U J=(r,e))(B:S.st.length<=1000000000):gR 138 S [.c (aE 71),.c (.sl 7 (aa [.mk u U W V Y T Q,.mk A J P q G K I]))] (((e,S):MR)):=by
 have hq:=Er U J;rw[N]at hq;have M:=lS 71 u A;have p:(e != 0)=true:=by simpa using O
 refine mn func138 call138 λβ hf=>?_;exact dm
def CL(S:b9)(u U W:Int)(V:L UInt8)(Y:L Vl)(Q:L Ty)(P:L Nd)(A J O:Int)(q:L UInt8)(G:L Vl)(K:L Ty)(I:L Nd)(r e:Int)(T:e≠0)(N:jn U J=(r,e))(B:S.st.length<=1000000000):gR 138 S [.c (aE 70),.c (.sl 7 (aa [.mk u U W V Y Q P,.mk A J O q G K I]))] (((e,S):MR)):=by
 have hq:=uv U J;rw[N]at hq;have H:=lS 70 u A;have p:(e != 0)=true:=by simpa using T
 have M:(e==0)=false:=by simpa using T
 have D:(bif (ofM 70 u A==5)then(e==0)else false)=false:=by rw[M];cases(ofM 70 u A==5)<;>rfl
 refine mn func138 call138 λβ hf=>?_;exact dm
def CM(S:b9)(u U W:Int)(V:L UInt8)(Y:L Vl)(T:L Ty)(Q:L Nd)(A J P:Int)(q:L UInt8)(G:L Vl)(K:L Ty)(I:L Nd)(r:Int)(D:ofM 70 u A=5)(E:r<0)(O:jn U J=(r,0))(B:S.st.length<=1000000000):gR 138 S [.c (aE 70),.c (.sl 7 (aa [.mk u U W V Y T Q,.mk A J P q G K I]))] (bp S [cw []]):=by
 have hq:=uv U J;rw[O]at hq;have N:=lS 70 u A;have M:(ofM 70 u A==5)=true:=by simpa using D
 have H:decide (r<0)=true:=aaw E;have C:=fC S (cw []) jS B;refine mn func138 call138 λβ hf=>?_;have p:=eU;exact dm
def CN(S:b9)(u U W:Int)(V:L UInt8)(Y:L Vl)(T:L Ty)(Q:L Nd)(A J P:Int)(q:L UInt8)(G:L Vl)(K:L Ty)(I:L Nd)(r:Int)(D:ofM 70 u A=5)(E:¬r<0)(O:jn U J=(r,0))(B:S.st.length<=1000000000):gR 138 S [.c (aE 70),.c (.sl 7 (aa [.mk u U W V Y T Q,.mk A J P q G K I]))] (bp S [cw [aL (ofM 70 u A) r]]):=by
 have hq:=uv U J;rw[O]at hq;have N:=lS 70 u A;have M:(ofM 70 u A==5)=true:=by simpa using D
 have H:decide (r<0)=false:=aax E;have h1:=cE (ofM 70 u A) r;have h2:=fE [aL (ofM 70 u A) r];have C:=fC S (cw [aL (ofM 70 u A) r]) jS B;refine mn func138 call138 λβ hf=>?_;exact dm
def CO(S:b9)(u U W:Int)(V:L UInt8)(Y:L Vl)(T:L Ty)(Q:L Nd)(A J P:Int)(q:L UInt8)(G:L Vl)(K:L Ty)(I:L Nd)(r:Int)(D:ofM 70 u A≠5)(O:jn U J=(r,0))(B:S.st.length<=1000000000):gR 138 S [.c (aE 70),.c (.sl 7 (aa [.mk u U W V Y T Q,.mk A J P q G K I]))] (bp S [aL (ofM 70 u A) r]):=by
 have hq:=uv U J;rw[O]at hq;have N:=lS 70 u A;have M:(ofM 70 u A==5)=false:=by simpa using D
 have h1:=cE (ofM 70 u A) r;have H:=fC S (aL (ofM 70 u A) r) jS B;refine mn func138 call138 λβ hf=>?_;exact dm
def kX(S:b9)(u U W:Int)(V:L UInt8)(Y:L Vl)(T:L Ty)(Q:L Nd)(A J P:Int)(q:L UInt8)(G:L Vl)(K:L Ty)(I:L Nd)(r:MR)(O:cz 164 S [.c (aE (ofM 72 u A)),.c (bO (.mk u U W V Y T Q)),.c (bO (.mk A J P q G K I))] (aE r.1) r.2):cz 138 S [.c (aE 72),.c (.sl 7 (aa [.mk u U W V Y T Q,.mk A J P q G K I]))] (aE r.1) r.2:=by
 have N:=lS 72 u A;refine mn func138 call138 λβ hf=>?_;exact dm
end Go.Proofs
namespace Go.Proofs
open Go.cM
def gC(b:Bool):aO (gM b)=1:=rfl
def gS(k n a:Int)(s:L UInt8):aO (.mk k n a s [] [] [])=s.length+1:=by simp only[aO,aK,bg,aS]
attribute [local irreducible] AK ah aZ cx dM dV mB dj su gd aW
def xO(v w:Vl)(t:Ty)(A:fV t=false)(h1:bE v t=true)(h2:bE w t=true)(V:aO v<=1099511627776):aj 165 [bO v,bO w] (aE (dj v w)):=by
 have hq:=mW v w t A h1 h2 V;obtain⟨u,U,W,T,Y,S,Q⟩:=v;obtain⟨p,J,P,q,G,K,I⟩:=w;refine qn func165 call165 λβ hf=>?_;exact dq
def Rt(S:b9)(O:Int)(N:L UInt8)(u U W:Int)(V:L UInt8)(Y:L Vl)(T:L Ty)(Q:L Nd)(A J P:Int)(q:L UInt8)(G:L Vl)(K:L Ty)(I:L Nd)(hq:aj 165 [bO (.mk u U W V Y T Q),bO (.mk A J P q G K I)] (aE (dj (.mk u U W V Y T Q) (.mk A J P q G K I))))(B:S.st.length<=1000000000):gR 139 S [.c (aY (.mk 2 O 73 N [])),.c (.sl 7 (aa [.mk u U W V Y T Q,.mk A J P q G K I]))] (bp S [aL 3 (dj (.mk u U W V Y T Q) (.mk A J P q G K I))]):=by
 generalize dj (.mk u U W V Y T Q) (.mk A J P q G K I)=r at hq ⊢;have h1:=cE 3 r;have D:=fC S (aL 3 r) fe B;refine mn func139 call139 λβ hf=>?_;exact dm
def Tk(S:b9)(G:Int)(P:L UInt8)(u U W:Int)(V:L UInt8)(Y:L Vl)(T:L Ty)(Q:L Nd)(B:S.st.length<=1000000000):gR 139 S [.c (aY (.mk 2 G 74 P [])),.c (.sl 7 (aa [.mk u U W V Y T Q]))] (bp S [gM (U==0)]):=by
 have h1:=iR (U==0);have q:=fC S (gM (U==0)) fe B;refine mn func139 call139 λβ hf=>?_;exact dm
def Tl(S:b9)(G:Int)(P:L UInt8)(u U W:Int)(V:L UInt8)(Y:L Vl)(T:L Ty)(Q:L Nd)(B:S.st.length<=1000000000):gR 139 S [.c (aY (.mk 2 G 75 P [])),.c (.sl 7 (aa [.mk u U W V Y T Q]))] (bp S [gM (decide (U<0))]):=by
 have h1:=iR (decide (U<0));have q:=fC S (gM (decide (U<0))) fe B;refine mn func139 call139 λβ hf=>?_;exact dm
def Tm(S:b9)(G:Int)(P:L UInt8)(u U W:Int)(V:L UInt8)(Y:L Vl)(T:L Ty)(Q:L Nd)(B:S.st.length<=1000000000):gR 139 S [.c (aY (.mk 2 G 76 P [])),.c (.sl 7 (aa [.mk u U W V Y T Q]))] (bp S [gM (decide (U>0))]):=by
 have h1:=iR (decide (U>0));have q:=fC S (gM (decide (U>0))) fe B;refine mn func139 call139 λβ hf=>?_;exact dm
def Tn(S:b9)(G:Int)(P:L UInt8)(u U W:Int)(V:L UInt8)(Y:L Vl)(T:L Ty)(Q:L Nd)(B:S.st.length<=1000000000):gR 139 S [.c (aY (.mk 2 G 77 P [])),.c (.sl 7 (aa [.mk u U W V Y T Q]))] (bp S [gM (U==0)]):=by
 have h1:=iR (U==0);have q:=fC S (gM (U==0)) fe B;refine mn func139 call139 λβ hf=>?_;exact dm
def Ru(S:b9)(T:Int)(P:L UInt8)(u U W:Int)(V:L UInt8)(Y:L Vl)(Q:L Ty)(O:L Nd)(A J N:Int)(q:L UInt8)(G:L Vl)(K:L Ty)(I:L Nd)(h:U=1)(B:S.st.length<=1000000000):gR 139 S [.c (aY (.mk 2 T 78 P [])),.c (.sl 7 (aa [.mk u U W V Y Q O,.mk A J N q G K I]))] (bp S [gM (J==1)]):=by
 have p:(U==1)=true:=by simpa using h
 clear h;have h1:=iR (J==1);have D:=fC S (gM (J==1)) fe B;refine mn func139 call139 λβ hf=>?_;exact dm
def Rv(S:b9)(T:Int)(P:L UInt8)(u U W:Int)(V:L UInt8)(Y:L Vl)(Q:L Ty)(O:L Nd)(A J N:Int)(q:L UInt8)(G:L Vl)(K:L Ty)(I:L Nd)(h:U≠1)(B:S.st.length<=1000000000):gR 139 S [.c (aY (.mk 2 T 78 P [])),.c (.sl 7 (aa [.mk u U W V Y Q O,.mk A J N q G K I]))] (bp S [gM false]):=by
 have p:(U==1)=false:=by simpa using h
 clear h;have h1:=iR false;have D:=fC S (gM false) fe B;refine mn func139 call139 λβ hf=>?_;exact dm
def Rw(S:b9)(T:Int)(P:L UInt8)(u U W:Int)(V:L UInt8)(Y:L Vl)(Q:L Ty)(O:L Nd)(A J N:Int)(q:L UInt8)(G:L Vl)(K:L Ty)(I:L Nd)(h:U=1)(B:S.st.length<=1000000000):gR 139 S [.c (aY (.mk 2 T 79 P [])),.c (.sl 7 (aa [.mk u U W V Y Q O,.mk A J N q G K I]))] (bp S [gM true]):=by
 have p:(U==1)=true:=by simpa using h
 clear h;have h1:=iR true;have D:=fC S (gM true) fe B;refine mn func139 call139 λβ hf=>?_;exact dm
def Rx(S:b9)(T:Int)(P:L UInt8)(u U W:Int)(V:L UInt8)(Y:L Vl)(Q:L Ty)(O:L Nd)(A J N:Int)(q:L UInt8)(G:L Vl)(K:L Ty)(I:L Nd)(h:U≠1)(B:S.st.length<=1000000000):gR 139 S [.c (aY (.mk 2 T 79 P [])),.c (.sl 7 (aa [.mk u U W V Y Q O,.mk A J N q G K I]))] (bp S [gM (J==1)]):=by
 have p:(U==1)=false:=by simpa using h
 clear h;have h1:=iR (J==1);have D:=fC S (gM (J==1)) fe B;refine mn func139 call139 λβ hf=>?_;exact dm
def Ov(S:b9)(T:Int)(P:L UInt8)(C U W:Int)(u:L UInt8)(Y:L Vl)(V:L Ty)(O:L Nd)(A J N:Int)(Q:L UInt8)(G:L Vl)(K:L Ty)(I:L Nd)(h:200<u.length+Q.length)(M:u.length+Q.length<=1000000000)(B:S.st.length<=1000000000):gR 139 S [.c (aY (.mk 2 T 80 P [])),.c (.sl 7 (aa [.mk C U W u Y V O,.mk A J N Q G K I]))] (((13,S):MR)):=by
 have D:i64.wrap (((u.length:Nat):Int)+(Q.length:Nat))=((u.length:Nat):Int)+(Q.length:Nat):=gF bn bn;have p:decide (i64.wrap (((u.length:Nat):Int)+(Q.length:Nat))>200)=true:=by rw[D];exact aaw bn
 clear h;refine mn func139 call139 λβ hf=>?_;exact dm
def Ow(S:b9)(T:Int)(P:L UInt8)(C U V:Int)(u:L UInt8)(Y:L Vl)(O:L Ty)(N:L Nd)(A J M:Int)(Q:L UInt8)(G:L Vl)(K:L Ty)(I:L Nd)(h:¬200<u.length+Q.length)(B:S.st.length<=1000000000):gR 139 S [.c (aY (.mk 2 T 80 P [])),.c (.sl 7 (aa [.mk C U V u Y O N,.mk A J M Q G K I]))] (bp S [.mk 6 0 0 (u++Q) [] [] []]):=by
 have D:i64.wrap (((u.length:Nat):Int)+(Q.length:Nat))=((u.length:Nat):Int)+(Q.length:Nat):=gF bn bn;have p:decide (i64.wrap (((u.length:Nat):Int)+(Q.length:Nat))>200)=false:=by rw[D];exact aax bn
 have q:=fC S (.mk 6 0 0 (u++Q) [] [] []) (by simp only[gS,aay];omega) B;have W:u.length+Q.length<=9223372036854775807:=by omega
 clear h;refine mn func139 call139 λβ hf=>?_
 repeat' (first|refine me ?_|refine zc ?_ ?_|(intro h;first|(cases h;done)|rw[h]|skip)|refine uI Z (0) Z (Z) Z ?_|refine uI Z (1) Z (Z) Z ?_|refine uI Z (2) Z (Z) Z ?_|refine ah.concat hX kn Z Z Z Z Z W ?_|refine rT ?_ (hq:=q))
 all_goals rfl
def Lz(S:b9)(G:Int)(P:L UInt8)(u U W:Int)(V:L UInt8)(Y:L Vl)(T:L Ty)(Q:L Nd)(s:L UInt8)(e:Int)(hq:aj 167 [bO (.mk u U W V Y T Q)] (.gb [.str s,aE e]))(h:e≠0)(B:S.st.length<=1000000000):gR 139 S [.c (aY (.mk 2 G 81 P [])),.c (.sl 7 (aa [.mk u U W V Y T Q]))] (((13,S):MR)):=by
 have A:(e != 0)=true:=by simpa using h
 clear h;refine mn func139 call139 λβ hf=>?_;exact dm
def LA(S:b9)(G:Int)(P:L UInt8)(u U W:Int)(V:L UInt8)(Y:L Vl)(T:L Ty)(Q:L Nd)(s:L UInt8)(hq:aj 167 [bO (.mk u U W V Y T Q)] (.gb [.str s,aE 0]))(O:s.length<=1000000000)(B:S.st.length<=1000000000):gR 139 S [.c (aY (.mk 2 G 81 P [])),.c (.sl 7 (aa [.mk u U W V Y T Q]))] (bp S [.mk 6 0 0 s [] [] []]):=by
 have q:=fC S (.mk 6 0 0 s [] [] []) (by simp only[gS];omega) B;clear O;refine mn func139 call139 λβ hf=>?_;exact dm
def Ry(S:b9)(G:Int)(P:L UInt8)(C U V:Int)(u:L UInt8)(Y:L Vl)(Q:L Ty)(O:L Nd)(x:Nd)(I:bZ x<=8589934593)(v:Vl)(e:Int)(W:gd (aW x).1 u=(v,e))(h:e≠0)(B:S.st.length<=1000000000):gR 139 S [.c (aY (.mk 2 G 82 P [x])),.c (.sl 7 (aa [.mk C U V u Y Q O]))] (bp S [cw []]):=by
 have A:(e != 0)=true:=by simpa using h
 clear h;have q:=fC S (cw []) fe B;have hq:=jF x I;have E:=wX (aW x).1 u (Cf x I);rw[W]at E;clear W;generalize aW x=tp at hq E;obtain⟨⟨T,us⟩,e0⟩:=tp;obtain⟨N,M,K,J,H⟩:=x;obtain⟨D,p,a3,s3,eZ,cI,dF⟩:=v;refine mn func139 call139 λβ hf=>?_;have sQ:=eU;exact dm
def Rz(S:b9)(G:Int)(P:L UInt8)(C U V:Int)(u:L UInt8)(Y:L Vl)(Q:L Ty)(O:L Nd)(x:Nd)(I:bZ x<=8589934593)(v:Vl)(W:gd (aW x).1 u=(v,0))(B:aO v<=8589934000)(N:S.st.length<=1000000000):gR 139 S [.c (aY (.mk 2 G 82 P [x])),.c (.sl 7 (aa [.mk C U V u Y Q O]))] (bp S [cw [v]]):=by
 have q:=fC S (cw [v]) (by simp only[ez,aK];omega) N;clear B;have h2:=fE [v];have hq:=jF x I;have E:=wX (aW x).1 u (Cf x I);rw[W]at E;clear W;generalize aW x=tp at hq E;obtain⟨⟨T,us⟩,e0⟩:=tp;obtain⟨M,K,J,H,D⟩:=x;obtain⟨A,p,a3,s3,eZ,cI,dF⟩:=v;refine mn func139 call139 λβ hf=>?_;exact dm
def Ox(S:b9)(G:Int)(P:L UInt8)(u U W:Int)(V:L UInt8)(Y:L Vl)(T:L Ty)(Q:L Nd)(B:S.st.length<=1000000000):gR 139 S [.c (aY (.mk 2 G 83 P [])),.c (.sl 7 (aa [.mk u U W V Y T Q]))] (((10,{S with said := .mk u U W V Y T Q}):MR)):=by
 refine mn func139 call139 λβ hf=>?_;exact dm
end Go.Proofs
namespace Go.Proofs
open Go.cM
attribute [local irreducible] AK ah aZ cx dM dV mB dj aW
def KY(S:b9)(G:Int)(P:L UInt8)(B:S.st.length<=1000000000):gR 140 S [.c (aY (.mk 2 G 89 P [])),.c (.sl 7 (aa []))] (bp S [aL 7 S.self]):=by
 have h1:=cE 7 S.self;have q:=fC S (aL 7 S.self) fe B;refine mn func140 call140 λβ hf=>?_;exact dm
def F4(S:b9)(G:Int)(P:L UInt8)(B:S.st.length<=1000000000):gR 140 S [.c (aY (.mk 2 G 90 P [])),.c (.sl 7 (aa []))] (bp S [aL 7 S.gv]):=by
 have h1:=cE 7 S.gv;have q:=fC S (aL 7 S.gv) fe B;refine mn func140 call140 λβ hf=>?_;exact dm
def F6(S:b9)(G:Int)(P:L UInt8)(B:S.st.length<=1000000000):gR 140 S [.c (aY (.mk 2 G 91 P [])),.c (.sl 7 (aa []))] (bp S [aL 5 S.gw]):=by
 have h1:=cE 5 S.gw;have q:=fC S (aL 5 S.gw) fe B;refine mn func140 call140 λβ hf=>?_;exact dm
def DE(S:b9)(G:Int)(P:L UInt8)(B:S.st.length<=1000000000):gR 140 S [.c (aY (.mk 2 G 92 P [])),.c (.sl 7 (aa []))] (bp S [aL 5 S.balance]):=by
 have h1:=cE 5 S.balance;have q:=fC S (aL 5 S.balance) fe B;refine mn func140 call140 λβ hf=>?_;exact dm
def IE(S:b9)(T:Int)(P:L UInt8)(u U W:Int)(V:L UInt8)(Y:L Vl)(Q:L Ty)(O:L Nd)(A J N:Int)(q:L UInt8)(G:L Vl)(K:L Ty)(I:L Nd)(h:J=0)(B:S.st.length<=1000000000):gR 140 S [.c (aY (.mk 2 T 84 P [])),.c (.sl 7 (aa [.mk u U W V Y Q O,.mk A J N q G K I]))] (bp S [cw []]):=by
 have p:(J==0)=true:=by simpa using h
 clear h;have D:=fC S (cw []) fe B;refine mn func140 call140 λβ hf=>?_;have M:=eU;exact dm
def IF(S:b9)(T:Int)(P:L UInt8)(u U W:Int)(V:L UInt8)(Y:L Vl)(Q:L Ty)(O:L Nd)(A J N:Int)(q:L UInt8)(G:L Vl)(K:L Ty)(I:L Nd)(p:J≠0)(E:0<=J/\J<=1152921504606846976)(h:S.bG>1152921504606846976-J)(B:S.st.length<=1000000000):gR 140 S [.c (aY (.mk 2 T 84 P [])),.c (.sl 7 (aa [.mk u U W V Y Q O,.mk A J N q G K I]))] (((11,S):MR)):=by
 have M:(J==0)=false:=by simpa using p
 have D:i64.wrap (1152921504606846976-J)=1152921504606846976-J:=gF bn bn;have H:decide (S.bG>i64.wrap (1152921504606846976-J))=true:=by rw[D];exact aaw h
 clear h p;refine mn func140 call140 λβ hf=>?_;exact dm
def IG(S:b9)(O:Int)(N:L UInt8)(u U W:Int)(V:L UInt8)(Y:L Vl)(T:L Ty)(Q:L Nd)(A J M:Int)(q:L UInt8)(G:L Vl)(K:L Ty)(I:L Nd)(p:J≠0)(hn:0<=J/\J<=1152921504606846976)(h:¬S.bG>1152921504606846976-J)(hm:0<=S.bG)(B:aO (.mk u U W V Y T Q)<=8589934000)(H:S.st.length<=1000000000):gR 140 S [.c (aY (.mk 2 O 84 N [])),.c (.sl 7 (aa [.mk u U W V Y T Q,.mk A J M q G K I]))] (bp {S with bG:=S.bG+J} [cw [.mk 15 J S.self [] [.mk u U W V Y T Q] [] []]]):=by
 have E:(J==0)=false:=by simpa using p
 have D:i64.wrap (1152921504606846976-J)=1152921504606846976-J:=gF bn bn;have P:i64.wrap (S.bG+J)=S.bG+J:=gF bn bn;have hc:decide (S.bG>i64.wrap (1152921504606846976-J))=false:=by rw[D];exact aax h
 have h2:=fE [.mk 15 J S.self [] [.mk u U W V Y T Q] [] []];have C:=fC {S with bG:=S.bG+J} (cw [.mk 15 J S.self [] [.mk u U W V Y T Q] [] []]) (by simp only[aO]at B;simp only[ez,aO,aK,bg,aS,aad];omega) H;rw[<- P]at C ⊢;clear h p B P;refine mn func140 call140 λβ hf=>?_;exact dm
def CA(S:b9)(O:Int)(N:L UInt8)(u U W:Int)(V:L UInt8)(Y:L Vl)(Q:L Ty)(P:L Nd)(A J M:Int)(q:L UInt8)(G:L Vl)(K:L Ty)(H:L Nd)(D I E:Int)(p:L UInt8)(C:L Vl)(cI:L Ty)(dF:L Nd)(x:Nd)(hx:bZ x<=8589934593)(B:aO (.mk 8 J I [] [.mk u U W V Y Q P] [(aW x).1] [])<=8589934593)(hl:S.st.length<=1000000000):gR 140 S [.c (aY (.mk 2 O 88 N [x])),.c (.sl 7 (aa [.mk u U W V Y Q P,.mk A J M q G K H,.mk D I E p C cI dF]))] (bp S [.mk 8 J I [] [.mk u U W V Y Q P] [(aW x).1] []]):=by
 have hp:=fC S (.mk 8 J I [] [.mk u U W V Y Q P] [(aW x).1] []) B hl;have hq:=jF x hx;clear B;generalize aW x=tp at hq hp ⊢;obtain⟨⟨T,us⟩,e0⟩:=tp;obtain⟨j1,j2,j3,j4,j5⟩:=x;refine mn func140 call140 λβ hf=>?_;exact dm
def K1(S:b9)(G:Int)(O:L UInt8)(u U W:Int)(V:L UInt8)(Y:L Vl)(T:L Ty)(P:L Nd)(J I q:Int)(A:L UInt8)(Q:L Vl)(D:L Ty)(M:L Nd)(B:aO (.mk u U W V (.mk J I q A Q D M::Y) T P)<=8589934000)(N:S.st.length<=1000000000):gR 140 S [.c (aY (.mk 2 G 85 O [])),.c (.sl 7 (aa [.mk u U W V (.mk J I q A Q D M::Y) T P]))] (bp S [.mk u U W V (.mk J I q A Q D M::Y) T P,bt (aL 7 W) (bt (.mk J I q A Q D M) (aL 4 U))]):=by
 have h1:=cE 7 W;have h2:=cE 4 U;have K:=gN (.mk J I q A Q D M) (aL 4 U);have H:=gN (aL 7 W) (bt (.mk J I q A Q D M) (aL 4 U));have E:=Vo S (.mk u U W V (.mk J I q A Q D M::Y) T P) (bt (aL 7 W) (bt (.mk J I q A Q D M) (aL 4 U))) bn (by simp only[aO,aK]at B;simp only[dN,eS,aO];omega) N;clear B;refine mn func140 call140 λβ hf=>?_;exact dm
def DF(S:b9)(T:Int)(P:L UInt8)(u W V:Int)(Q:L UInt8)(Y:L Vl)(O:L Ty)(N:L Nd)(A J M:Int)(q:L UInt8)(G:L Vl)(K:L Ty)(H:L Nd)(D I E:Int)(p:L UInt8)(C:L Vl)(B:L Ty)(dF:L Nd)(k4 U a4:Int)(s4:L UInt8)(nK:L Vl)(kD:L Ty)(nL:L Nd)(h3:0<=I/\I<=1152921504606846976)(h4:0<=U/\U<=1152921504606846976)(h:I<1)(hl:S.st.length<=1000000000):gR 140 S [.c (aY (.mk 2 T 86 P [])),.c (.sl 7 (aa [.mk u W V Q Y O N,.mk A J M q [.mk D I E p C B dF,.mk k4 U a4 s4 nK kD nL] K H]))] (bp S [cw []]):=by
 have hw:i64.wrap (I+U)=I+U:=gF bn bn;have AD:decide (I<1)=true:=aaw h;clear h;have hp:=fC S (cw []) fe hl;refine mn func140 call140 λβ hf=>?_;have Bf:=eU;exact dm
def DG(S:b9)(T:Int)(P:L UInt8)(u W V:Int)(Q:L UInt8)(Y:L Vl)(O:L Ty)(N:L Nd)(A J M:Int)(q:L UInt8)(G:L Vl)(K:L Ty)(H:L Nd)(D I E:Int)(p:L UInt8)(C:L Vl)(B:L Ty)(dF:L Nd)(k4 U a4:Int)(s4:L UInt8)(nK:L Vl)(kD:L Ty)(nL:L Nd)(h3:0<=I/\I<=1152921504606846976)(h4:0<=U/\U<=1152921504606846976)(h:¬I<1)(h2:U<1)(hl:S.st.length<=1000000000):gR 140 S [.c (aY (.mk 2 T 86 P [])),.c (.sl 7 (aa [.mk u W V Q Y O N,.mk A J M q [.mk D I E p C B dF,.mk k4 U a4 s4 nK kD nL] K H]))] (bp S [cw []]):=by
 have hw:i64.wrap (I+U)=I+U:=gF bn bn;have AD:decide (I<1)=false:=aax h;have uU:decide (U<1)=true:=aaw h2;have Vu:(bif decide (I<1)then true else decide (U<1))=true:=by rw[AD,uU];rfl
 clear h h2;have hp:=fC S (cw []) fe hl;refine mn func140 call140 λβ hf=>?_;have E4:=eU;exact dm
def DH(S:b9)(T:Int)(P:L UInt8)(u W Q:Int)(O:L UInt8)(Y:L Vl)(N:L Ty)(M:L Nd)(A J K:Int)(q:L UInt8)(G:L Vl)(H:L Ty)(E:L Nd)(D I C:Int)(p:L UInt8)(B:L Vl)(cI:L Ty)(dF:L Nd)(k4 U a4:Int)(s4:L UInt8)(nK:L Vl)(kD:L Ty)(nL:L Nd)(h3:0<=I/\I<=1152921504606846976)(h4:0<=U/\U<=1152921504606846976)(h:¬I<1)(h2:¬U<1)(V:I+U≠W)(hl:S.st.length<=1000000000):gR 140 S [.c (aY (.mk 2 T 86 P [])),.c (.sl 7 (aa [.mk u W Q O Y N M,.mk A J K q [.mk D I C p B cI dF,.mk k4 U a4 s4 nK kD nL] H E]))] (bp S [cw []]):=by
 have hw:i64.wrap (I+U)=I+U:=gF bn bn;have AD:decide (I<1)=false:=aax h;have uU:decide (U<1)=false:=aax h2;have Uh:(i64.wrap (I+U) != W)=true:=by rw[hw];simpa using V
 have Vu:(bif decide (I<1)then true else decide (U<1))=false:=by rw[AD,uU];rfl
 clear h h2 V;have hp:=fC S (cw []) fe hl;refine mn func140 call140 λβ hf=>?_;have G5:=eU;exact dm
def F9(S:b9)(O:Int)(N:L UInt8)(u P W:Int)(V:L UInt8)(Y:L Vl)(T:L Ty)(Q:L Nd)(A J M:Int)(q:L UInt8)(G:L Vl)(K:L Ty)(H:L Nd)(D I E:Int)(p:L UInt8)(C:L Vl)(cI:L Ty)(dF:L Nd)(k4 U a4:Int)(s4:L UInt8)(nK:L Vl)(kD:L Ty)(nL:L Nd)(h3:0<=I/\I<=1152921504606846976)(h4:0<=U/\U<=1152921504606846976)(h:¬(I<1\/U<1\/I+U≠P))(B:aO (.mk u P W V Y T Q)<=4294967000)(hl:S.st.length<=1000000000):gR 140 S [.c (aY (.mk 2 O 86 N [])),.c (.sl 7 (aa [.mk u P W V Y T Q,.mk A J M q [.mk D I E p C cI dF,.mk k4 U a4 s4 nK kD nL] K H]))] (bp S [cw [bt (.mk u I W V Y T Q) (.mk u U W V Y T Q)]]):=by
 have hw:i64.wrap (I+U)=I+U:=gF bn bn;have AD:decide (I<1)=false:=aax bn;have uU:decide (U<1)=false:=aax bn;have Uh:(i64.wrap (I+U) != P)=false:=by rw[hw];simpa using (show I+U=P by omega)
 have Vu:(bif decide (I<1)then true else decide (U<1))=false:=by rw[AD,uU];rfl
 have YA:(bif (bif decide (I<1)then true else decide (U<1))then true else(i64.wrap (I+U) != P))=false:=by rw[Vu,Uh];rfl
 have h1:=gN (.mk u I W V Y T Q) (.mk u U W V Y T Q);have h2:=fE [bt (.mk u I W V Y T Q) (.mk u U W V Y T Q)];have hp:=fC S (cw [bt (.mk u I W V Y T Q) (.mk u U W V Y T Q)]) (by simp only[aO]at B;simp only[ez,dN,aO,aK];omega) hl;clear h B;refine mn func140 call140 λβ hf=>?_;exact dm
def IJ(S:b9)(T:Int)(P:L UInt8)(u U V:Int)(Q:L UInt8)(Y:L Vl)(O:L Ty)(N:L Nd)(p J W:Int)(q:L UInt8)(G:L Vl)(K:L Ty)(I:L Nd)(D M H:Int)(E:L UInt8)(C:L Vl)(B:L Ty)(dF:L Nd)(k4 n4 A:Int)(s4:L UInt8)(nK:L Vl)(kD:L Ty)(nL:L Nd)(k5 n5 a5:Int)(s5:L UInt8)(jy:L Vl)(gI:L Ty)(jz:L Nd)(h:W≠A)(hl:S.st.length<=1000000000):gR 140 S [.c (aY (.mk 2 T 87 P [])),.c (.sl 7 (aa [.mk u U V Q [.mk p J W q (.mk D M H E C B dF::G) K I,.mk k4 n4 A s4 (.mk k5 n5 a5 s5 jy gI jz::nK) kD nL] O N]))] (bp S [cw []]):=by
 have hc:(W != A)=true:=by simpa using h
 clear h;have hp:=fC S (cw []) fe hl;refine mn func140 call140 λβ hf=>?_;have G6:=eU;exact dm
def IK(S:b9)(P:Int)(O:L UInt8)(C K B:Int)(s1:L UInt8)(Y:L Vl)(af:L Ty)(az:L Nd)(k2 n2 W:Int)(s2:L UInt8)(G:L Vl)(bl:L Ty)(bH:L Nd)(J I q:Int)(p:L UInt8)(Q:L Vl)(D:L Ty)(M:L Nd)(k4 n4 A:Int)(s4:L UInt8)(nK:L Vl)(kD:L Ty)(nL:L Nd)(u E H:Int)(N:L UInt8)(V:L Vl)(U:L Ty)(T:L Nd)(r:Int)(hq:aj 165 [bO (.mk J I q p Q D M),bO (.mk u E H N V U T)] (aE r))(h:W=A)(h2:r≠0)(hl:S.st.length<=1000000000):gR 140 S [.c (aY (.mk 2 P 87 O [])),.c (.sl 7 (aa [.mk C K B s1 [.mk k2 n2 W s2 (.mk J I q p Q D M::G) bl bH,.mk k4 n4 A s4 (.mk u E H N V U T::nK) kD nL] af az]))] (bp S [cw []]):=by
 have hc:(W != A)=false:=by simpa using h
 have uU:(r != 0)=true:=by simpa using h2
 clear h h2;have hp:=fC S (cw []) fe hl;refine mn func140 call140 λβ hf=>?_;have JW:=eU;exact dm
def IL(S:b9)(C:Int)(B:L UInt8)(k1 n1 a1:Int)(s1:L UInt8)(W:L Vl)(af:L Ty)(az:L Nd)(k2 J Y:Int)(s2:L UInt8)(G:L Vl)(bl:L Ty)(bH:L Nd)(D I q:Int)(p:L UInt8)(Q:L Vl)(V:L Ty)(M:L Nd)(k4 U A:Int)(s4:L UInt8)(nK:L Vl)(kD:L Ty)(nL:L Nd)(u E H:Int)(N:L UInt8)(T:L Vl)(P:L Ty)(O:L Nd)(hq:aj 165 [bO (.mk D I q p Q V M),bO (.mk u E H N T P O)] (aE 0))(h:Y=A)(hn2:0<=J/\J<=1152921504606846976)(YF:0<=U/\U<=1152921504606846976)(K:J>1152921504606846976-U)(hl:S.st.length<=1000000000):gR 140 S [.c (aY (.mk 2 C 87 B [])),.c (.sl 7 (aa [.mk k1 n1 a1 s1 [.mk k2 J Y s2 (.mk D I q p Q V M::G) bl bH,.mk k4 U A s4 (.mk u E H N T P O::nK) kD nL] af az]))] (((11,S):MR)):=by
 have hw:i64.wrap (1152921504606846976-U)=1152921504606846976-U:=gF bn bn;have hc:(Y != A)=false:=by simpa using h
 have uU:((0:Int) != 0)=false:=rfl;have hg:(bif (Y != A)then true else((0:Int) != 0))=false:=by rw[hc];rfl
 have Uh:decide (J>i64.wrap (1152921504606846976-U))=true:=by rw[hw];exact aaw K
 clear h K;refine mn func140 call140 λβ hf=>?_;exact dm
def IM(S:b9)(nN:Int)(nS:L UInt8)(k1 n1 a1:Int)(s1:L UInt8)(O:L Vl)(af:L Ty)(az:L Nd)(p J Y:Int)(V:L UInt8)(G:L Vl)(K:L Ty)(T:L Nd)(D I q:Int)(A:L UInt8)(Q:L Vl)(W:L Ty)(M:L Nd)(k4 U P:Int)(s4:L UInt8)(nK:L Vl)(kD:L Ty)(nL:L Nd)(u E H:Int)(N:L UInt8)(C:L Vl)(B:L Ty)(jz:L Nd)(hq:aj 165 [bO (.mk D I q A Q W M),bO (.mk u E H N C B jz)] (aE 0))(h:Y=P)(hn2:0<=J/\J<=1152921504606846976)(YF:0<=U/\U<=1152921504606846976)(h3:¬J>1152921504606846976-U)(hv:aO (.mk p J Y V (.mk D I q A Q W M::G) K T)<=8589934000)(hl:S.st.length<=1000000000):gR 140 S [.c (aY (.mk 2 nN 87 nS [])),.c (.sl 7 (aa [.mk k1 n1 a1 s1 [.mk p J Y V (.mk D I q A Q W M::G) K T,.mk k4 U P s4 (.mk u E H N C B jz::nK) kD nL] af az]))] (bp S [cw [.mk p (J+U) Y V (.mk D I q A Q W M::G) K T]]):=by
 have hw:i64.wrap (1152921504606846976-U)=1152921504606846976-U:=gF bn bn;have hc:(Y != P)=false:=by simpa using h
 have uU:((0:Int) != 0)=false:=rfl;have hg:(bif (Y != P)then true else((0:Int) != 0))=false:=by rw[hc];rfl
 have OR:i64.wrap (J+U)=J+U:=gF bn bn;have Uh:decide (J>i64.wrap (1152921504606846976-U))=false:=by rw[hw];exact aax h3
 have h2:=fE [.mk p (J+U) Y V (.mk D I q A Q W M::G) K T];have hp:=fC S (cw [.mk p (J+U) Y V (.mk D I q A Q W M::G) K T]) (by simp only[aO,aK]at hv;simp only[ez,aO,aK];omega) hl;rw[<- OR]at h2 hp ⊢;clear h h3 hv OR;refine mn func140 call140 λβ hf=>?_;exact dm
end Go.Proofs
namespace Go.Proofs
open Go.cM
def CD:∀(l:L Vl)(k:Vl),bY l k<=l.length
 |[],_=>aav _
 |x::l,k=>by
  simp only[bY];split
  ·have:=CD l k;simp only[aac];omega
  ·omega
def Jd:∀{l:L Vl}{k:Vl}{i:Nat}{x:Vl},i<bY l k->l[i]?=some x->dj (kC x) k<0
 |[],_,i,x,h,e=>by simp at e
 |y::l,k,i,x,h,e=>by
  simp only[bY]at h;split at h
  ·rename_i A;cases i with
   |zero=>simp at e;subst e;exact A
   |succ i=>simp at e;exact Jd bn e
  ·omega
attribute [local irreducible] AK ah aZ cx dM dV dj
def DI(x k y:Vl)(t:Ty)(I:(fh x)[0]?=some y)(hq:aj 95 [bO y,bO k] (aE (dj y k))):aj 178 [bO x,bO k] (aE (dj (kC x) k)):=by
 have D:kC x=y:=by unfold kC;rw[aaS,I];rfl
 rw[D];have O:(aa (fh x))[0]?=some (bO y):=by rw[ja,I];rfl
 clear D I;generalize dj y k=r at hq ⊢;obtain⟨u,U,W,V,Y,T,S⟩:=x;obtain⟨A,J,Q,q,G,K,P⟩:=k;obtain⟨E,M,N,p,H,C,B⟩:=y;refine qn func178 call178 λβ hf=>?_;exact dq
def VH(H K:Nat)(h:H+K<=4000000000):i64.wrap ((IntKind.u64.wrap (i64.wrap ((H:Nat)+(K:Nat)))).fdiv (2^(min 1 IntKind.u64.bits)))=(((H+K)/2:Nat):Int):=by
 rw[gF (n:=(H:Int)+K) bn bn];have h1:IntKind.u64.wrap ((H:Int)+K)=((H+K:Nat):Int):=by
  rw[IntKind.wrap_u64];omega
 rw[h1];have h2:((H+K:Nat):Int).fdiv (2^(min 1 IntKind.u64.bits))=(((H+K)/2:Nat):Int):=by
  rw[show(min 1 IntKind.u64.bits)=1 from rfl];rw[abQ _ cc];omega
 rw[h2,gF bn bn]
def DN(m:L Vl)(k:Vl)(hl:m.length<=1000000000)(hq:∀x∈m,aj 178 [bO x,bO k] (aE (dj (kC x) k)))
  (O:∀(i:Nat) x,bY m k<=i->m[i]?=some x->¬dj (kC x) k<0) :
  aj 177 [.sl 7 (aa m),bO k,.sH 178 []] (.gb [aE (bY m k:Nat),.bool (eE m k)]):=by
 have q:=CD m k;have N:∀{i:Nat}{x:Vl},i<bY m k->m[i]?=some x->dj (kC x) k<0:=λh e=>Jd h e;have W:eE m k=match m[bY m k]? with|some x=>decide (dj (kC x) k=0)|none=>false:=rfl
 generalize bY m k=p at q N O W ⊢;generalize eE m k=fd at W ⊢;have B:=aB m;obtain⟨A,J,U,Q,G,T,S⟩:=k;refine qn func177 call177 λβ hf=>?_;refine dn ?_;refine AK.eX (α:=Nat×Nat) (λz=>z.1<=p/\p<=z.2/\z.2<=m.length) (λz=>z.2-z.1)
  (λz=>[(0,.c (.sl 7 (aa m))),(2,.c (.sH 178 [])),(4,.ptr 4 0),(8,.c (aE ((aa m).length:Nat))),(9,.c (aE (z.1:Nat))),(10,.c (aE (z.2:Nat)))])
  (λz=>[(4,[.c (aE A),.c (aE J),.c (aE U),.c (.str Q),.c (.sl 7 (aa G)),.c (.sl 2 (au T)),.c (.sl 5 (aG S))])]) (λ_=>[]) [4] (0,(aa m).length)
  ⟨aaF _,by show p<=(aa m).length;omega,by show(aa m).length<=_;omega⟩ ce ⟨Z,trivial⟩ trivial Z Z Z ?_
 rintro⟨H,K⟩ ⟨h1,h2,u⟩ ih;simp only at h1 h2 u;by_cases hlt:H<K
 ·have hc:decide (((H:Nat):Int)<((K:Nat):Int))=true:=aaw bn;have Y:=VH H K bn;obtain⟨x,I⟩:∃x,m[(H+K)/2]?=some x:=⟨_,Zn bn⟩
  have P:=hq x (aaA I);have M:(aa m)[(H+K)/2]?=some (bO x):=by rw[ja,I];rfl
  have D := @O ((H+K)/2) x;have C := @N ((H+K)/2) x;clear hq;generalize dj (kC x) (.mk A J U Q G T S)=r at P D C;obtain⟨k1,n1,a1,s1,V,af,az⟩:=x;by_cases E:r<0
  ·have uU:decide (r<0)=true:=aaw E;have hw:i64.wrap ((((H+K)/2:Nat):Int)+1)=(((H+K)/2+1:Nat):Int):=by rw[gF bn bn];omega
   have Z6:(H+K)/2+1<=p:=by
    rcases abn ((H+K)/2) p with h|h
    ·omega
    ·exact absurd E (D h I)
   repeat' (first|refine sz ?_|refine zc ?_ ?_|(intro h;first|(cases h;done)|rw[h]|skip)|refine uI Z ((H+K)/2) Y M Z ?_|refine uC Z P ?_)
   refine AK.fL [(4,4)] [] (env':=[(0,.c (.sl 7 (aa m))),(2,.c (.sH 178 [])),(4,.ptr 4 0),(8,.c (aE ((aa m).length:Nat))),(9,.c (aE (((H+K)/2+1:Nat):Int))),(10,.c (aE ((K:Nat):Int)))])
    (bs':=[(4,[.c (aE A),.c (aE J),.c (aE U),.c (.str Q),.c (.sl 7 (aa G)),.c (.sl 2 (au T)),.c (.sl 5 (aG S))])]) (ts':=[]) (us':=[4])
    ⟨⟨_,Z,.inl Z⟩,⟨_,Z,.inl Z⟩,⟨_,Z,⟨_,Z,Z⟩⟩,⟨_,Z,.inl Z⟩,⟨_,Z,.inl (Zb (λz=>AV.c (.int .i64 z)) (by rw[Y];exact hw))⟩,⟨_,Z,.inl Z⟩,trivial⟩ ce Z ?_
   exact ih ((H+K)/2+1,K) ⟨by show _<=p;omega,by show p<=_;omega,by show _<=m.length;omega⟩ (by show _-_<K-H;omega)
  ·have uU:decide (r<0)=false:=aax E;have Z6:p<=(H+K)/2:=by
    rcases abn ((H+K)/2) p with h|h
    ·exact absurd (C h I) E
    ·exact h
   repeat' (first|refine sz ?_|refine zc ?_ ?_|(intro h;first|(cases h;done)|rw[h]|skip)|refine uI Z ((H+K)/2) Y M Z ?_|refine uC Z P ?_)
   refine AK.fL [(4,4)] [] (env':=[(0,.c (.sl 7 (aa m))),(2,.c (.sH 178 [])),(4,.ptr 4 0),(8,.c (aE ((aa m).length:Nat))),(9,.c (aE ((H:Nat):Int))),(10,.c (aE (((H+K)/2:Nat):Int)))])
    (bs':=[(4,[.c (aE A),.c (aE J),.c (aE U),.c (.str Q),.c (.sl 7 (aa G)),.c (.sl 2 (au T)),.c (.sl 5 (aG S))])]) (ts':=[]) (us':=[4])
    ⟨⟨_,Z,.inl Z⟩,⟨_,Z,.inl Z⟩,⟨_,Z,⟨_,Z,Z⟩⟩,⟨_,Z,.inl Z⟩,⟨_,Z,.inl Z⟩,⟨_,Z,.inl (Zb (λz=>AV.c (.int .i64 z)) Y)⟩,trivial⟩ ce Z ?_
   exact ih (H,(H+K)/2) ⟨by show _<=p;omega,by show p<=_;omega,by show _<=m.length;omega⟩ (by show _-_<K-H;omega)
 ·have hc:decide (((H:Nat):Int)<((K:Nat):Int))=false:=aax bn;have he:H=p:=by omega
  subst he;clear ih N O;by_cases hn:H<m.length
  ·have Uh:decide (((H:Nat):Int)<(((aa m).length:Nat):Int))=true:=aaw bn;obtain⟨x,I⟩:∃x,m[H]?=some x:=⟨_,Zn hn⟩
   rw[I]at W;have P:=hq x (aaA I);have M:(aa m)[H]?=some (bO x):=by rw[ja,I];rfl
   clear hq;simp only at W;subst W;generalize dj (kC x) (.mk A J U Q G T S)=r at P ⊢;obtain⟨k1,n1,a1,s1,V,af,az⟩:=x;exact dq
  ·have Uh:decide (((H:Nat):Int)<(((aa m).length:Nat):Int))=false:=aax bn;rw[abh bn]at W;simp only at W;subst W;clear hq;exact dq
def Ga(m:L Vl)(k:Vl)(B:m.length<=1000000000)(hq:∀x∈m,aj 178 [bO x,bO k] (aE (dj (kC x) k)))
  (Y:∀(i:Nat) x,bY m k<=i->m[i]?=some x->¬dj (kC x) k<0) :
  aj 158 [.sl 7 (aa m),bO k] (.gb [aE (bY m k:Nat),.bool (eE m k)]):=by
 have A:=DN m k B hq Y;clear hq Y;obtain⟨p,J,W,Q,G,K,U⟩:=k;refine qn func158 call158 λβ hf=>?_;exact dq
end Go.Proofs
