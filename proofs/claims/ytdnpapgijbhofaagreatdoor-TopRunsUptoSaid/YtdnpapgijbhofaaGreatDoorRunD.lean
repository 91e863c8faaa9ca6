/- What reckon and divide of package run's machine do. -/
import Derived.Test.YtdnpapgijbhofaaGreatDoorNum2
open Go.IntKind
open Go.Proofs.Tryz
set_option linter.defProp false
set_option maxHeartbeats 0
set_option linter.unusedVariables false
set_option linter.unusedSimpArgs false
set_option maxRecDepth 100000
namespace Go.Proofs
open Go.cw
def fT(k n:Int):aH (aK k n)=1:=rfl
def fz(l:L Vl):aH (cD l)=aI l+1:=by simp only[cD,aH,bp,aO,aay];omega
def eD(a b:Vl):aH (bh a b)=aH a+aH b+1:=by simp only[bh,aH,aI,bp,aO,aay];omega
attribute [local irreducible] AK ah aR bM cn cX oK wg lH ud iH pg ofM
def Se(S:bZ)(k:Int)(u W U:Int)(T:L UInt8)(O:L Vl)(E:L Ty)(A:L Nd)(M V a2:Int)(K:L UInt8)(Y:L Vl)(Q:L Ty)(P:L Nd)(q r e:Int)(N:e≠0)(J:iH W V=(q,r,e))(I:S.st.length<=1000000000):jv 164 S [.c (ag k),.c (bA (.mk u W U T O E A)),.c (bA (.mk M V a2 K Y Q P))] (aY S [cD []]):=by
 have hq:=wu W V;rw[J]at hq;have H:(e != 0)=true:=by simpa using N
 have B:=gA S (cD []) gM I;refine mn func164 call164 λβ hf=>?_;have G:=fV;exact dm
def VA(S:bZ)(k:Int)(u W U:Int)(T:L UInt8)(O:L Vl)(E:L Ty)(A:L Nd)(M V a2:Int)(K:L UInt8)(Y:L Vl)(Q:L Ty)(P:L Nd)(q r:Int)(N:k=5)(J:M=5)(I:iH W V=(q,r,0))(H:S.st.length<=1000000000):jv 164 S [.c (ag k),.c (bA (.mk u W U T O E A)),.c (bA (.mk M V a2 K Y Q P))] (aY S [cD [bh (aK (4) q) (aK 5 r)]]):=by
 have hq:=wu W V;rw[I]at hq;have G:(k==5)=true:=by simpa using N
 have D:(M==5)=true:=by simpa using J
 have h1:=cL (4) q;have h2:=cL 5 r;have C:=jn (aK (4) q) (aK 5 r);have B:=gD [bh (aK (4) q) (aK 5 r)];have hp:=gA S (cD [bh (aK (4) q) (aK 5 r)]) gM H;exact mdm func164 call164
def YS(S:bZ)(k:Int)(u W U:Int)(T:L UInt8)(O:L Vl)(E:L Ty)(A:L Nd)(M V a2:Int)(K:L UInt8)(Y:L Vl)(Q:L Ty)(P:L Nd)(q r:Int)(N:k=5)(J:M≠5)(I:iH W V=(q,r,0))(H:S.st.length<=1000000000):jv 164 S [.c (ag k),.c (bA (.mk u W U T O E A)),.c (bA (.mk M V a2 K Y Q P))] (aY S [cD [bh (aK (k) q) (aK 5 r)]]):=by
 have hq:=wu W V;rw[I]at hq;have G:(k==5)=true:=by simpa using N
 have D:(M==5)=false:=by simpa using J
 have h1:=cL (k) q;have h2:=cL 5 r;have C:=jn (aK (k) q) (aK 5 r);have B:=gD [bh (aK (k) q) (aK 5 r)];have hp:=gA S (cD [bh (aK (k) q) (aK 5 r)]) gM H;exact mdm func164 call164
def Cl(S:bZ)(k:Int)(u W U:Int)(T:L UInt8)(O:L Vl)(E:L Ty)(A:L Nd)(M V a2:Int)(K:L UInt8)(Y:L Vl)(Q:L Ty)(P:L Nd)(q r:Int)(N:k≠5)(J:iH W V=(q,r,0))(I:S.st.length<=1000000000):jv 164 S [.c (ag k),.c (bA (.mk u W U T O E A)),.c (bA (.mk M V a2 K Y Q P))] (aY S [cD [bh (aK (k) q) (aK 4 r)]]):=by
 have hq:=wu W V;rw[J]at hq;have H:(k==5)=false:=by simpa using N
 have h1:=cL (k) q;have h2:=cL 4 r;have G:=jn (aK (k) q) (aK 4 r);have D:=gD [bh (aK (k) q) (aK 4 r)];have B:=gA S (cD [bh (aK (k) q) (aK 4 r)]) gM I;exact mdm func164 call164
def Sf(S:bZ)(u W Y:Int)(V:L UInt8)(O:L Vl)(E:L Ty)(A:L Nd)(I:S.st.length<=1000000000):jv 138 S [.c (ag 93),.c (.sl 7 (aa [.mk u W Y V O E A]))] (aY S [aK 4 (pg W).1]):=by have hq:=Dt W;have B:=gA S (aK 4 (pg W).1) gM I;generalize pg W=r at hq B ⊢;obtain⟨r,e⟩:=r;have h1:=cL 4 r;exact mdm func138 call138
def Pn(S:bZ)(u W Y:Int)(V:L UInt8)(O:L Vl)(E:L Ty)(A:L Nd)(B:W<0)(I:S.st.length<=1000000000):jv 138 S [.c (ag 94),.c (.sl 7 (aa [.mk u W Y V O E A]))] (aY S [cD []]):=by have U:decide (W<0)=true:=aaX B;have T:=gA S (cD []) gM I;refine mn func138 call138 λβ hf=>?_;have Q:=fV;exact dm
def Po(S:bZ)(u W Y:Int)(V:L UInt8)(O:L Vl)(E:L Ty)(A:L Nd)(B:¬W<0)(I:S.st.length<=1000000000):jv 138 S [.c (ag 94),.c (.sl 7 (aa [.mk u W Y V O E A]))] (aY S [cD [aK 4 W]]):=by have U:decide (W<0)=false:=aaY B;have h1:=cL 4 W;have h2:=gD [aK 4 W];have T:=gA S (cD [aK 4 W]) gM I;exact mdm func138 call138
def Sg(S:bZ)(u W Y:Int)(V:L UInt8)(O:L Vl)(E:L Ty)(A:L Nd)(I:S.st.length<=1000000000):jv 138 S [.c (ag 95),.c (.sl 7 (aa [.mk u W Y V O E A]))] (aY S [aK 3 W]):=by have h1:=cL 3 W;have B:=gA S (aK 3 W) gM I;exact mdm func138 call138
def I1(S:bZ)(u W U:Int)(T:L UInt8)(O:L Vl)(E:L Ty)(A:L Nd)(M V a2:Int)(K:L UInt8)(Y:L Vl)(Q:L Ty)(P:L Nd)(r:Int)(N:wg W V=(r,0))(I:S.st.length<=1000000000):jv 138 S [.c (ag 69),.c (.sl 7 (aa [.mk u W U T O E A,.mk M V a2 K Y Q P]))] (aY S [aK (ofM 69 u M) r]):=by have hq:=Ka W V;rw[N]at hq;have J:=oJ 69 u M;have h1:=cL (ofM 69 u M) r;have B:=gA S (aK (ofM 69 u M) r) gM I;exact mdm func138 call138
def HA(S:bZ)(u W U:Int)(T:L UInt8)(O:L Vl)(E:L Ty)(A:L Nd)(M V a2:Int)(K:L UInt8)(Y:L Vl)(Q:L Ty)(P:L Nd)(r e:Int)(N:e≠0)(J:wg W V=(r,e))(I:S.st.length<=1000000000):jv 138 S [.c (ag 69),.c (.sl 7 (aa [.mk u W U T O E A,.mk M V a2 K Y Q P]))] (((e,S):MR)):=by
 have hq:=Ka W V;rw[J]at hq;have H:=oJ 69 u M;have G:(e != 0)=true:=by simpa using N
 exact mdm func138 call138
def I2(S:bZ)(u W U:Int)(T:L UInt8)(O:L Vl)(E:L Ty)(A:L Nd)(M V a2:Int)(K:L UInt8)(Y:L Vl)(Q:L Ty)(P:L Nd)(r:Int)(N:ud W V=(r,0))(I:S.st.length<=1000000000):jv 138 S [.c (ag 71),.c (.sl 7 (aa [.mk u W U T O E A,.mk M V a2 K Y Q P]))] (aY S [aK (ofM 71 u M) r]):=by have hq:=JX W V;rw[N]at hq;have J:=oJ 71 u M;have h1:=cL (ofM 71 u M) r;have B:=gA S (aK (ofM 71 u M) r) gM I;exact mdm func138 call138
def HB(S:bZ)(u W U:Int)(T:L UInt8)(O:L Vl)(E:L Ty)(A:L Nd)(M V a2:Int)(K:L UInt8)(Y:L Vl)(Q:L Ty)(P:L Nd)(r e:Int)(N:e≠0)(J:ud W V=(r,e))(I:S.st.length<=1000000000):jv 138 S [.c (ag 71),.c (.sl 7 (aa [.mk u W U T O E A,.mk M V a2 K Y Q P]))] (((e,S):MR)):=by
 have hq:=JX W V;rw[J]at hq;have H:=oJ 71 u M;have G:(e != 0)=true:=by simpa using N
 exact mdm func138 call138
def HC(S:bZ)(u W T:Int)(Q:L UInt8)(O:L Vl)(E:L Ty)(A:L Nd)(M V a2:Int)(K:L UInt8)(Y:L Vl)(P:L Ty)(N:L Nd)(r e:Int)(U:e≠0)(J:lH W V=(r,e))(H:S.st.length<=1000000000):jv 138 S [.c (ag 70),.c (.sl 7 (aa [.mk u W T Q O E A,.mk M V a2 K Y P N]))] (((e,S):MR)):=by
 have hq:=zI W V;rw[J]at hq;have G:=oJ 70 u M;have D:(e != 0)=true:=by simpa using U
 have I:(e==0)=false:=by simpa using U
 have C:(bif (ofM 70 u M==5)then(e==0)else false)=false:=by rw[I];cases(ofM 70 u M==5)<;>rfl
 exact mdm func138 call138
def HD(S:bZ)(u W U:Int)(T:L UInt8)(O:L Vl)(E:L Ty)(A:L Nd)(M V a2:Int)(K:L UInt8)(Y:L Vl)(Q:L Ty)(P:L Nd)(r:Int)(N:ofM 70 u M=5)(B:r<0)(J:lH W V=(r,0))(I:S.st.length<=1000000000):jv 138 S [.c (ag 70),.c (.sl 7 (aa [.mk u W U T O E A,.mk M V a2 K Y Q P]))] (aY S [cD []]):=by
 have hq:=zI W V;rw[J]at hq;have H:=oJ 70 u M;have G:(ofM 70 u M==5)=true:=by simpa using N
 have D:decide (r<0)=true:=aaX B;have C:=gA S (cD []) gM I;refine mn func138 call138 λβ hf=>?_;have q:=fV;exact dm
def HE(S:bZ)(u W U:Int)(T:L UInt8)(O:L Vl)(E:L Ty)(A:L Nd)(M V a2:Int)(K:L UInt8)(Y:L Vl)(Q:L Ty)(P:L Nd)(r:Int)(N:ofM 70 u M=5)(B:¬r<0)(J:lH W V=(r,0))(I:S.st.length<=1000000000):jv 138 S [.c (ag 70),.c (.sl 7 (aa [.mk u W U T O E A,.mk M V a2 K Y Q P]))] (aY S [cD [aK (ofM 70 u M) r]]):=by
 have hq:=zI W V;rw[J]at hq;have H:=oJ 70 u M;have G:(ofM 70 u M==5)=true:=by simpa using N
 have D:decide (r<0)=false:=aaY B;have h1:=cL (ofM 70 u M) r;have h2:=gD [aK (ofM 70 u M) r];have C:=gA S (cD [aK (ofM 70 u M) r]) gM I;exact mdm func138 call138
def HF(S:bZ)(u W U:Int)(T:L UInt8)(O:L Vl)(E:L Ty)(A:L Nd)(M V a2:Int)(K:L UInt8)(Y:L Vl)(Q:L Ty)(P:L Nd)(r:Int)(N:ofM 70 u M≠5)(J:lH W V=(r,0))(I:S.st.length<=1000000000):jv 138 S [.c (ag 70),.c (.sl 7 (aa [.mk u W U T O E A,.mk M V a2 K Y Q P]))] (aY S [aK (ofM 70 u M) r]):=by
 have hq:=zI W V;rw[J]at hq;have H:=oJ 70 u M;have G:(ofM 70 u M==5)=false:=by simpa using N
 have h1:=cL (ofM 70 u M) r;have B:=gA S (aK (ofM 70 u M) r) gM I;exact mdm func138 call138
def nI(S:bZ)(u W V:Int)(U:L UInt8)(O:L Vl)(E:L Ty)(A:L Nd)(M T a2:Int)(K:L UInt8)(Y:L Vl)(Q:L Ty)(P:L Nd)(r:MR)(I:cH 164 S [.c (ag (ofM 72 u M)),.c (bA (.mk u W V U O E A)),.c (bA (.mk M T a2 K Y Q P))] (ag r.1) r.2):cH 138 S [.c (ag 72),.c (.sl 7 (aa [.mk u W V U O E A,.mk M T a2 K Y Q P]))] (ag r.1) r.2:=by have N:=oJ 72 u M;exact mdm func138 call138
end Go.Proofs
namespace Go.Proofs
open Go.cw
def iV(b:Bool):aH (jm b)=1:=rfl
def jB(k n a:Int)(s:L UInt8):aH (.mk k n a s [] [] [])=s.length+1:=by simp only[aH,aI,bp,aO]
attribute [local irreducible] AK ah aR bM cn cX oK dS wL iK aJ
def Cd(v w:Vl)(t:Ty)(U:iC t=false)(h1:bE v t=true)(h2:bE w t=true)(C:aH v<=1099511627776):af 165 [bA v,bA w] (ag (dS v w)):=by have hq:=qe v w t U h1 h2 C;obtain⟨u,W,V,S,O,E,A⟩:=v;obtain⟨M,T,a2,K,Y,Q,P⟩:=w;exact qdq func165 call165
def YT(S:bZ)(N:Int)(J:L UInt8)(u W V:Int)(U:L UInt8)(O:L Vl)(E:L Ty)(A:L Nd)(M T a2:Int)(K:L UInt8)(Y:L Vl)(Q:L Ty)(P:L Nd)(hq:af 165 [bA (.mk u W V U O E A),bA (.mk M T a2 K Y Q P)] (ag (dS (.mk u W V U O E A) (.mk M T a2 K Y Q P))))(I:S.st.length<=1000000000):jv 139 S [.c (aM (.mk 2 N 73 J [])),.c (.sl 7 (aa [.mk u W V U O E A,.mk M T a2 K Y Q P]))] (aY S [aK 3 (dS (.mk u W V U O E A) (.mk M T a2 K Y Q P))]):=by generalize dS (.mk u W V U O E A) (.mk M T a2 K Y Q P)=r at hq ⊢;have h1:=cL 3 r;have B:=gA S (aK 3 r) fc I;exact mdm func139 call139
def abh(S:bZ)(A:Int)(K:L UInt8)(u W Y:Int)(V:L UInt8)(O:L Vl)(E:L Ty)(U:L Nd)(I:S.st.length<=1000000000):jv 139 S [.c (aM (.mk 2 A 74 K [])),.c (.sl 7 (aa [.mk u W Y V O E U]))] (aY S [jm (W==0)]):=by have h1:=kJ (W==0);have B:=gA S (jm (W==0)) fc I;exact mdm func139 call139
def abi(S:bZ)(A:Int)(K:L UInt8)(u W Y:Int)(V:L UInt8)(O:L Vl)(E:L Ty)(U:L Nd)(I:S.st.length<=1000000000):jv 139 S [.c (aM (.mk 2 A 75 K [])),.c (.sl 7 (aa [.mk u W Y V O E U]))] (aY S [jm (decide (W<0))]):=by have h1:=kJ (decide (W<0));have B:=gA S (jm (decide (W<0))) fc I;exact mdm func139 call139
def abj(S:bZ)(A:Int)(K:L UInt8)(u W Y:Int)(V:L UInt8)(O:L Vl)(E:L Ty)(U:L Nd)(I:S.st.length<=1000000000):jv 139 S [.c (aM (.mk 2 A 76 K [])),.c (.sl 7 (aa [.mk u W Y V O E U]))] (aY S [jm (decide (W>0))]):=by have h1:=kJ (decide (W>0));have B:=gA S (jm (decide (W>0))) fc I;exact mdm func139 call139
def abk(S:bZ)(A:Int)(K:L UInt8)(u W Y:Int)(V:L UInt8)(O:L Vl)(E:L Ty)(U:L Nd)(I:S.st.length<=1000000000):jv 139 S [.c (aM (.mk 2 A 77 K [])),.c (.sl 7 (aa [.mk u W Y V O E U]))] (aY S [jm (W==0)]):=by have h1:=kJ (W==0);have B:=gA S (jm (W==0)) fc I;exact mdm func139 call139
def YU(S:bZ)(A:Int)(K:L UInt8)(u E V:Int)(U:L UInt8)(O:L Vl)(T:L Ty)(Q:L Nd)(M W a2:Int)(P:L UInt8)(Y:L Vl)(N:L Ty)(J:L Nd)(h:E=1)(I:S.st.length<=1000000000):jv 139 S [.c (aM (.mk 2 A 78 K [])),.c (.sl 7 (aa [.mk u E V U O T Q,.mk M W a2 P Y N J]))] (aY S [jm (W==1)]):=by
 have H:(E==1)=true:=by simpa using h
 clear h;have h1:=kJ (W==1);have B:=gA S (jm (W==1)) fc I;exact mdm func139 call139
def YV(S:bZ)(A:Int)(K:L UInt8)(u W V:Int)(U:L UInt8)(O:L Vl)(E:L Ty)(T:L Nd)(M Q a2:Int)(P:L UInt8)(Y:L Vl)(N:L Ty)(J:L Nd)(h:W≠1)(I:S.st.length<=1000000000):jv 139 S [.c (aM (.mk 2 A 78 K [])),.c (.sl 7 (aa [.mk u W V U O E T,.mk M Q a2 P Y N J]))] (aY S [jm false]):=by
 have H:(W==1)=false:=by simpa using h
 clear h;have h1:=kJ false;have B:=gA S (jm false) fc I;exact mdm func139 call139
def YW(S:bZ)(A:Int)(K:L UInt8)(u W V:Int)(U:L UInt8)(O:L Vl)(E:L Ty)(T:L Nd)(M Q a2:Int)(P:L UInt8)(Y:L Vl)(N:L Ty)(J:L Nd)(h:W=1)(I:S.st.length<=1000000000):jv 139 S [.c (aM (.mk 2 A 79 K [])),.c (.sl 7 (aa [.mk u W V U O E T,.mk M Q a2 P Y N J]))] (aY S [jm true]):=by
 have H:(W==1)=true:=by simpa using h
 clear h;have h1:=kJ true;have B:=gA S (jm true) fc I;exact mdm func139 call139
def YX(S:bZ)(A:Int)(K:L UInt8)(u E V:Int)(U:L UInt8)(O:L Vl)(T:L Ty)(Q:L Nd)(M W a2:Int)(P:L UInt8)(Y:L Vl)(N:L Ty)(J:L Nd)(h:E≠1)(I:S.st.length<=1000000000):jv 139 S [.c (aM (.mk 2 A 79 K [])),.c (.sl 7 (aa [.mk u E V U O T Q,.mk M W a2 P Y N J]))] (aY S [jm (W==1)]):=by
 have H:(E==1)=false:=by simpa using h
 clear h;have h1:=kJ (W==1);have B:=gA S (jm (W==1)) fc I;exact mdm func139 call139
def VB(S:bZ)(A:Int)(V:L UInt8)(u E U:Int)(W:L UInt8)(O:L Vl)(T:L Ty)(Q:L Nd)(M P a2:Int)(K:L UInt8)(Y:L Vl)(N:L Ty)(J:L Nd)(h:200<W.length+K.length)(q:W.length+K.length<=1000000000)(H:S.st.length<=1000000000):jv 139 S [.c (aM (.mk 2 A 80 V [])),.c (.sl 7 (aa [.mk u E U W O T Q,.mk M P a2 K Y N J]))] (((13,S):MR)):=by
 have I:i64.wrap (((W.length:Nat):Int)+(K.length:Nat))=((W.length:Nat):Int)+(K.length:Nat):=iB ai ai;have G:decide (i64.wrap (((W.length:Nat):Int)+(K.length:Nat))>200)=true:=by rw[I];exact aaX ai
 clear h;exact mdm func139 call139
def VC(S:bZ)(A:Int)(V:L UInt8)(u E U:Int)(Y:L UInt8)(O:L Vl)(T:L Ty)(Q:L Nd)(M P a2:Int)(K:L UInt8)(W:L Vl)(N:L Ty)(J:L Nd)(h:¬200<Y.length+K.length)(I:S.st.length<=1000000000):jv 139 S [.c (aM (.mk 2 A 80 V [])),.c (.sl 7 (aa [.mk u E U Y O T Q,.mk M P a2 K W N J]))] (aY S [.mk 6 0 0 (Y++K) [] [] []]):=by
 have H:i64.wrap (((Y.length:Nat):Int)+(K.length:Nat))=((Y.length:Nat):Int)+(K.length:Nat):=iB ai ai;have D:decide (i64.wrap (((Y.length:Nat):Int)+(K.length:Nat))>200)=false:=by rw[H];exact aaY ai
 have G:=gA S (.mk 6 0 0 (Y++K) [] [] []) (by simp only[jB,aaZ];omega) I;have B:Y.length+K.length<=9223372036854775807:=by omega
 clear h;refine mn func139 call139 λβ hf=>?_
 repeat' (first|refine o9 ?_|refine zc ?_ ?_|(intro h;first|(cases h;done)|rw[h]|skip)|refine uI Z (0) Z (Z) Z ?_|refine uI Z (1) Z (Z) Z ?_|refine uI Z (2) Z (Z) Z ?_|refine ah.concat hX kn Z Z Z Z Z B ?_|refine v8 ?_ (hq:=G))
 all_goals rfl
def Sh(S:bZ)(U:Int)(K:L UInt8)(u W Y:Int)(V:L UInt8)(O:L Vl)(E:L Ty)(A:L Nd)(s:L UInt8)(e:Int)(hq:af 167 [bA (.mk u W Y V O E A)] (.eF [.str s,ag e]))(h:e≠0)(I:S.st.length<=1000000000):jv 139 S [.c (aM (.mk 2 U 81 K [])),.c (.sl 7 (aa [.mk u W Y V O E A]))] (((13,S):MR)):=by
 have T:(e != 0)=true:=by simpa using h
 clear h;exact mdm func139 call139
def Si(S:bZ)(U:Int)(K:L UInt8)(u W Y:Int)(V:L UInt8)(O:L Vl)(E:L Ty)(A:L Nd)(s:L UInt8)(hq:af 167 [bA (.mk u W Y V O E A)] (.eF [.str s,ag 0]))(C:s.length<=1000000000)(I:S.st.length<=1000000000):jv 139 S [.c (aM (.mk 2 U 81 K [])),.c (.sl 7 (aa [.mk u W Y V O E A]))] (aY S [.mk 6 0 0 s [] [] []]):=by have B:=gA S (.mk 6 0 0 s [] [] []) (by simp only[jB];omega) I;clear C;exact mdm func139 call139
def YY(S:bZ)(A:Int)(K:L UInt8)(u E V:Int)(Y:L UInt8)(O:L Vl)(U:L Ty)(Q:L Nd)(x:Nd)(D:bD x<=8589934593)(v:Vl)(e:Int)(W:iK (aJ x).1 Y=(v,e))(h:e≠0)(I:S.st.length<=1000000000):jv 139 S [.c (aM (.mk 2 A 82 K [x])),.c (.sl 7 (aa [.mk u E V Y O U Q]))] (aY S [cD []]):=by
 have P:(e != 0)=true:=by simpa using h
 clear h;have N:=gA S (cD []) fc I;have hq:=jE x D;have B:=BF (aJ x).1 Y (Rh x D);rw[W]at B;clear W;generalize aJ x=tp at hq B;obtain⟨⟨T,us⟩,e0⟩:=tp;obtain⟨M,J,H,G,C⟩:=x;obtain⟨q,n3,a3,s3,gf,cR,eu⟩:=v;refine mn func139 call139 λβ hf=>?_;have As:=fV;exact dm
def YZ(S:bZ)(A:Int)(K:L UInt8)(u E V:Int)(Y:L UInt8)(O:L Vl)(U:L Ty)(Q:L Nd)(x:Nd)(D:bD x<=8589934593)(v:Vl)(W:iK (aJ x).1 Y=(v,0))(N:aH v<=8589934000)(I:S.st.length<=1000000000):jv 139 S [.c (aM (.mk 2 A 82 K [x])),.c (.sl 7 (aa [.mk u E V Y O U Q]))] (aY S [cD [v]]):=by have P:=gA S (cD [v]) (by simp only[fz,aI];omega) I;clear N;have h2:=gD [v];have hq:=jE x D;have B:=BF (aJ x).1 Y (Rh x D);rw[W]at B;clear W;generalize aJ x=tp at hq B;obtain⟨⟨T,us⟩,e0⟩:=tp;obtain⟨M,J,H,G,C⟩:=x;obtain⟨q,n3,a3,s3,gf,cR,eu⟩:=v;exact mdm func139 call139
def VD(S:bZ)(U:Int)(K:L UInt8)(u W Y:Int)(V:L UInt8)(O:L Vl)(E:L Ty)(A:L Nd)(I:S.st.length<=1000000000):jv 139 S [.c (aM (.mk 2 U 83 K [])),.c (.sl 7 (aa [.mk u W Y V O E A]))] (((10,{S with said := .mk u W Y V O E A}):MR)):=by exact mdm func139 call139
end Go.Proofs
namespace Go.Proofs
open Go.cw
attribute [local irreducible] AK ah aR bM cn cX oK dS aJ
def RA(S:bZ)(A:Int)(K:L UInt8)(I:S.st.length<=1000000000):jv 140 S [.c (aM (.mk 2 A 89 K [])),.c (.sl 7 (aa []))] (aY S [aK 7 S.self]):=by have h1:=cL 7 S.self;have B:=gA S (aK 7 S.self) fc I;exact mdm func140 call140
def LG(S:bZ)(A:Int)(K:L UInt8)(I:S.st.length<=1000000000):jv 140 S [.c (aM (.mk 2 A 90 K [])),.c (.sl 7 (aa []))] (aY S [aK 7 S.iY]):=by have h1:=cL 7 S.iY;have B:=gA S (aK 7 S.iY) fc I;exact mdm func140 call140
def LI(S:bZ)(A:Int)(K:L UInt8)(I:S.st.length<=1000000000):jv 140 S [.c (aM (.mk 2 A 91 K [])),.c (.sl 7 (aa []))] (aY S [aK 5 S.iZ]):=by have h1:=cL 5 S.iZ;have B:=gA S (aK 5 S.iZ) fc I;exact mdm func140 call140
def IU(S:bZ)(A:Int)(K:L UInt8)(I:S.st.length<=1000000000):jv 140 S [.c (aM (.mk 2 A 92 K [])),.c (.sl 7 (aa []))] (aY S [aK 5 S.balance]):=by have h1:=cL 5 S.balance;have B:=gA S (aK 5 S.balance) fc I;exact mdm func140 call140
def OJ(S:bZ)(A:Int)(K:L UInt8)(u E V:Int)(U:L UInt8)(O:L Vl)(T:L Ty)(Q:L Nd)(M W a2:Int)(P:L UInt8)(Y:L Vl)(N:L Ty)(J:L Nd)(h:W=0)(I:S.st.length<=1000000000):jv 140 S [.c (aM (.mk 2 A 84 K [])),.c (.sl 7 (aa [.mk u E V U O T Q,.mk M W a2 P Y N J]))] (aY S [cD []]):=by
 have H:(W==0)=true:=by simpa using h
 clear h;have B:=gA S (cD []) fc I;refine mn func140 call140 λβ hf=>?_;have G:=fV;exact dm
def OK(S:bZ)(A:Int)(K:L UInt8)(u E V:Int)(U:L UInt8)(O:L Vl)(T:L Ty)(Q:L Nd)(M Y a2:Int)(P:L UInt8)(W:L Vl)(N:L Ty)(J:L Nd)(C:Y≠0)(B:0<=Y/\Y<=1152921504606846976)(h:S.au>1152921504606846976-Y)(G:S.st.length<=1000000000):jv 140 S [.c (aM (.mk 2 A 84 K [])),.c (.sl 7 (aa [.mk u E V U O T Q,.mk M Y a2 P W N J]))] (((11,S):MR)):=by
 have I:(Y==0)=false:=by simpa using C
 have H:i64.wrap (1152921504606846976-Y)=1152921504606846976-Y:=iB ai ai;have D:decide (S.au>i64.wrap (1152921504606846976-Y))=true:=by rw[H];exact aaX h
 clear h C;exact mdm func140 call140
def OL(S:bZ)(P:Int)(K:L UInt8)(u E V:Int)(U:L UInt8)(O:L Vl)(T:L Ty)(A:L Nd)(M Y a2:Int)(J:L UInt8)(W:L Vl)(I:L Ty)(H:L Nd)(C:Y≠0)(hn:0<=Y/\Y<=1152921504606846976)(h:¬S.au>1152921504606846976-Y)(hm:0<=S.au)(N:aH (.mk u E V U O T A)<=8589934000)(G:S.st.length<=1000000000):jv 140 S [.c (aM (.mk 2 P 84 K [])),.c (.sl 7 (aa [.mk u E V U O T A,.mk M Y a2 J W I H]))] (aY {S with au:=S.au+Y} [cD [.mk 15 Y S.self [] [.mk u E V U O T A] [] []]]):=by
 have D:(Y==0)=false:=by simpa using C
 have B:i64.wrap (1152921504606846976-Y)=1152921504606846976-Y:=iB ai ai;have Q:i64.wrap (S.au+Y)=S.au+Y:=iB ai ai;have hc:decide (S.au>i64.wrap (1152921504606846976-Y))=false:=by rw[B];exact aaY h
 have h2:=gD [.mk 15 Y S.self [] [.mk u E V U O T A] [] []];have q:=gA {S with au:=S.au+Y} (cD [.mk 15 Y S.self [] [.mk u E V U O T A] [] []]) (by simp only[aH]at N;simp only[fz,aH,aI,bp,aO,aay];omega) G;rw[<- Q]at q ⊢;clear h C N Q;exact mdm func140 call140
def Hj(S:bZ)(P:Int)(K:L UInt8)(u W V:Int)(U:L UInt8)(O:L Vl)(E:L Ty)(A:L Nd)(M Q a2:Int)(J:L UInt8)(Y:L Vl)(I:L Ty)(H:L Nd)(G n3 D:Int)(C:L UInt8)(B:L Vl)(q:L Ty)(eu:L Nd)(x:Nd)(hx:bD x<=8589934593)(N:aH (.mk 8 Q n3 [] [.mk u W V U O E A] [(aJ x).1] [])<=8589934593)(hl:S.st.length<=1000000000):jv 140 S [.c (aM (.mk 2 P 88 K [x])),.c (.sl 7 (aa [.mk u W V U O E A,.mk M Q a2 J Y I H,.mk G n3 D C B q eu]))] (aY S [.mk 8 Q n3 [] [.mk u W V U O E A] [(aJ x).1] []]):=by have hp:=gA S (.mk 8 Q n3 [] [.mk u W V U O E A] [(aJ x).1] []) N hl;have hq:=jE x hx;clear N;generalize aJ x=tp at hq hp ⊢;obtain⟨⟨T,us⟩,e0⟩:=tp;obtain⟨j1,j2,j3,j4,j5⟩:=x;exact mdm func140 call140
def RC(S:bZ)(P:Int)(K:L UInt8)(u W Y:Int)(T:L UInt8)(O:L Vl)(E:L Ty)(Q:L Nd)(V n3 A:Int)(H:L UInt8)(U:L Vl)(M:L Ty)(B:L Nd)(N:aH (.mk u W Y T (.mk V n3 A H U M B::O) E Q)<=8589934000)(I:S.st.length<=1000000000):jv 140 S [.c (aM (.mk 2 P 85 K [])),.c (.sl 7 (aa [.mk u W Y T (.mk V n3 A H U M B::O) E Q]))] (aY S [.mk u W Y T (.mk V n3 A H U M B::O) E Q,bh (aK 7 Y) (bh (.mk V n3 A H U M B) (aK 4 W))]):=by have h1:=cL 7 Y;have h2:=cL 4 W;have J:=jn (.mk V n3 A H U M B) (aK 4 W);have G:=jn (aK 7 Y) (bh (.mk V n3 A H U M B) (aK 4 W));have D:=adP S (.mk u W Y T (.mk V n3 A H U M B::O) E Q) (bh (aK 7 Y) (bh (.mk V n3 A H U M B) (aK 4 W))) ai (by simp only[aH,aI]at N;simp only[eD,fT,aH];omega) I;clear N;exact mdm func140 call140
def IV(S:bZ)(A:Int)(K:L UInt8)(u W V:Int)(U:L UInt8)(O:L Vl)(E:L Ty)(T:L Nd)(Q P a2:Int)(N:L UInt8)(Y:L Vl)(J:L Ty)(I:L Nd)(H n3 G:Int)(D:L UInt8)(C:L Vl)(B:L Ty)(q:L Nd)(k4 M a4:Int)(s4:L UInt8)(qQ:L Vl)(m9:L Ty)(qR:L Nd)(h3:0<=n3/\n3<=1152921504606846976)(h4:0<=M/\M<=1152921504606846976)(h:n3<1)(hl:S.st.length<=1000000000):jv 140 S [.c (aM (.mk 2 A 86 K [])),.c (.sl 7 (aa [.mk u W V U O E T,.mk Q P a2 N [.mk H n3 G D C B q,.mk k4 M a4 s4 qQ m9 qR] J I]))] (aY S [cD []]):=by have hw:i64.wrap (n3+M)=n3+M:=iB ai ai;have B4:decide (n3<1)=true:=aaX h;clear h;have hp:=gA S (cD []) fc hl;refine mn func140 call140 λβ hf=>?_;have KB:=fV;exact dm
def IW(S:bZ)(A:Int)(K:L UInt8)(u W V:Int)(U:L UInt8)(O:L Vl)(E:L Ty)(T:L Nd)(Q P a2:Int)(N:L UInt8)(Y:L Vl)(J:L Ty)(I:L Nd)(H n3 G:Int)(D:L UInt8)(C:L Vl)(B:L Ty)(q:L Nd)(k4 M a4:Int)(s4:L UInt8)(qQ:L Vl)(m9:L Ty)(qR:L Nd)(h3:0<=n3/\n3<=1152921504606846976)(h4:0<=M/\M<=1152921504606846976)(h:¬n3<1)(h2:M<1)(hl:S.st.length<=1000000000):jv 140 S [.c (aM (.mk 2 A 86 K [])),.c (.sl 7 (aa [.mk u W V U O E T,.mk Q P a2 N [.mk H n3 G D C B q,.mk k4 M a4 s4 qQ m9 qR] J I]))] (aY S [cD []]):=by
 have hw:i64.wrap (n3+M)=n3+M:=iB ai ai;have B4:decide (n3<1)=false:=aaY h;have zD:decide (M<1)=true:=aaX h2;have hg1:(bif decide (n3<1)then true else decide (M<1))=true:=by rw[B4,zD];rfl
 clear h h2;have hp:=gA S (cD []) fc hl;refine mn func140 call140 λβ hf=>?_;have Uk:=fV;exact dm
def IX(S:bZ)(A:Int)(K:L UInt8)(u W U:Int)(T:L UInt8)(O:L Vl)(E:L Ty)(Q:L Nd)(P N a2:Int)(J:L UInt8)(Y:L Vl)(I:L Ty)(H:L Nd)(G n3 D:Int)(C:L UInt8)(B:L Vl)(q:L Ty)(eu:L Nd)(k4 M a4:Int)(s4:L UInt8)(qQ:L Vl)(m9:L Ty)(qR:L Nd)(h3:0<=n3/\n3<=1152921504606846976)(h4:0<=M/\M<=1152921504606846976)(h:¬n3<1)(h2:¬M<1)(V:n3+M≠W)(hl:S.st.length<=1000000000):jv 140 S [.c (aM (.mk 2 A 86 K [])),.c (.sl 7 (aa [.mk u W U T O E Q,.mk P N a2 J [.mk G n3 D C B q eu,.mk k4 M a4 s4 qQ m9 qR] I H]))] (aY S [cD []]):=by
 have hw:i64.wrap (n3+M)=n3+M:=iB ai ai;have B4:decide (n3<1)=false:=aaY h;have zD:decide (M<1)=false:=aaY h2;have hc3:(i64.wrap (n3+M) != W)=true:=by rw[hw];simpa using V
 have hg1:(bif decide (n3<1)then true else decide (M<1))=false:=by rw[B4,zD];rfl
 clear h h2 V;have hp:=gA S (cD []) fc hl;refine mn func140 call140 λβ hf=>?_;have ZU:=fV;exact dm
def LL(S:bZ)(P:Int)(K:L UInt8)(u V W:Int)(Y:L UInt8)(O:L Vl)(E:L Ty)(A:L Nd)(J I a2:Int)(H:L UInt8)(U:L Vl)(G:L Ty)(D:L Nd)(C n3 B:Int)(q:L UInt8)(gf:L Vl)(cR:L Ty)(eu:L Nd)(k4 M a4:Int)(s4:L UInt8)(qQ:L Vl)(m9:L Ty)(qR:L Nd)(h3:0<=n3/\n3<=1152921504606846976)(h4:0<=M/\M<=1152921504606846976)(h:¬(n3<1\/M<1\/n3+M≠V))(N:aH (.mk u V W Y O E A)<=4294967000)(hl:S.st.length<=1000000000):jv 140 S [.c (aM (.mk 2 P 86 K [])),.c (.sl 7 (aa [.mk u V W Y O E A,.mk J I a2 H [.mk C n3 B q gf cR eu,.mk k4 M a4 s4 qQ m9 qR] G D]))] (aY S [cD [bh (.mk u n3 W Y O E A) (.mk u M W Y O E A)]]):=by
 have hw:i64.wrap (n3+M)=n3+M:=iB ai ai;have B4:decide (n3<1)=false:=aaY ai;have zD:decide (M<1)=false:=aaY ai;have T:(i64.wrap (n3+M) != V)=false:=by rw[hw];simpa using (show n3+M=V by omega)
 have Q:(bif decide (n3<1)then true else decide (M<1))=false:=by rw[B4,zD];rfl
 have hg2:(bif (bif decide (n3<1)then true else decide (M<1))then true else(i64.wrap (n3+M) != V))=false:=by rw[Q,T];rfl
 have h1:=jn (.mk u n3 W Y O E A) (.mk u M W Y O E A);have h2:=gD [bh (.mk u n3 W Y O E A) (.mk u M W Y O E A)];have hp:=gA S (cD [bh (.mk u n3 W Y O E A) (.mk u M W Y O E A)]) (by simp only[aH]at N;simp only[fz,eD,aH,aI];omega) hl;clear h N;exact mdm func140 call140
def OO(S:bZ)(A:Int)(K:L UInt8)(u W V:Int)(U:L UInt8)(O:L Vl)(E:L Ty)(T:L Nd)(M Q a2:Int)(N:L UInt8)(Y:L Vl)(J:L Ty)(I:L Nd)(H n3 G:Int)(D:L UInt8)(C:L Vl)(B:L Ty)(q:L Nd)(k4 n4 P:Int)(s4:L UInt8)(qQ:L Vl)(m9:L Ty)(qR:L Nd)(k5 n5 a5:Int)(s5:L UInt8)(lT:L Vl)(je:L Ty)(lU:L Nd)(h:a2≠P)(hl:S.st.length<=1000000000):jv 140 S [.c (aM (.mk 2 A 87 K [])),.c (.sl 7 (aa [.mk u W V U [.mk M Q a2 N (.mk H n3 G D C B q::Y) J I,.mk k4 n4 P s4 (.mk k5 n5 a5 s5 lT je lU::qQ) m9 qR] E T]))] (aY S [cD []]):=by
 have hc:(a2 != P)=true:=by simpa using h
 clear h;have hp:=gA S (cD []) fc hl;refine mn func140 call140 λβ hf=>?_;have ZV:=fV;exact dm
def OP(S:bZ)(J:Int)(I:L UInt8)(u E D:Int)(C:L UInt8)(O:L Vl)(q:L Ty)(aA:L Nd)(k2 n2 a2:Int)(s2:L UInt8)(Y:L Vl)(aX:L Ty)(bK:L Nd)(W n3 A:Int)(H:L UInt8)(V:L Vl)(M:L Ty)(B:L Nd)(k4 n4 P:Int)(s4:L UInt8)(qQ:L Vl)(m9:L Ty)(qR:L Nd)(N n5 G:Int)(T:L UInt8)(U:L Vl)(Q:L Ty)(K:L Nd)(r:Int)(hq:af 165 [bA (.mk W n3 A H V M B),bA (.mk N n5 G T U Q K)] (ag r))(h:a2=P)(h2:r≠0)(hl:S.st.length<=1000000000):jv 140 S [.c (aM (.mk 2 J 87 I [])),.c (.sl 7 (aa [.mk u E D C [.mk k2 n2 a2 s2 (.mk W n3 A H V M B::Y) aX bK,.mk k4 n4 P s4 (.mk N n5 G T U Q K::qQ) m9 qR] q aA]))] (aY S [cD []]):=by
 have hc:(a2 != P)=false:=by simpa using h
 have zD:(r != 0)=true:=by simpa using h2
 clear h h2;have hp:=gA S (cD []) fc hl;refine mn func140 call140 λβ hf=>?_;have acK:=fV;exact dm
def OQ(S:bZ)(D:Int)(C:L UInt8)(u q a1:Int)(s1:L UInt8)(O:L Vl)(an:L Ty)(aA:L Nd)(k2 W a2:Int)(s2:L UInt8)(Y:L Vl)(aX:L Ty)(bK:L Nd)(V n3 A:Int)(H:L UInt8)(U:L Vl)(T:L Ty)(B:L Nd)(k4 M P:Int)(s4:L UInt8)(qQ:L Vl)(m9:L Ty)(qR:L Nd)(N n5 G:Int)(Q:L UInt8)(K:L Vl)(J:L Ty)(I:L Nd)(hq:af 165 [bA (.mk V n3 A H U T B),bA (.mk N n5 G Q K J I)] (ag 0))(h:a2=P)(hn2:0<=W/\W<=1152921504606846976)(hn4:0<=M/\M<=1152921504606846976)(E:W>1152921504606846976-M)(hl:S.st.length<=1000000000):jv 140 S [.c (aM (.mk 2 D 87 C [])),.c (.sl 7 (aa [.mk u q a1 s1 [.mk k2 W a2 s2 (.mk V n3 A H U T B::Y) aX bK,.mk k4 M P s4 (.mk N n5 G Q K J I::qQ) m9 qR] an aA]))] (((11,S):MR)):=by
 have hw:i64.wrap (1152921504606846976-M)=1152921504606846976-M:=iB ai ai;have hc:(a2 != P)=false:=by simpa using h
 have zD:((0:Int) != 0)=false:=rfl;have hg:(bif (a2 != P)then true else((0:Int) != 0))=false:=by rw[hc];rfl
 have hc3:decide (W>i64.wrap (1152921504606846976-M))=true:=by rw[hw];exact aaX E
 clear h E;exact mdm func140 call140
def OR(S:bZ)(nN:Int)(nS:L UInt8)(k1 n1 a1:Int)(s1:L UInt8)(u:L Vl)(an:L Ty)(aA:L Nd)(Q W a2:Int)(K:L UInt8)(Y:L Vl)(T:L Ty)(P:L Nd)(O n3 A:Int)(H:L UInt8)(V:L Vl)(U:L Ty)(B:L Nd)(k4 M N:Int)(s4:L UInt8)(qQ:L Vl)(m9:L Ty)(qR:L Nd)(q n5 G:Int)(J:L UInt8)(I:L Vl)(E:L Ty)(D:L Nd)(hq:af 165 [bA (.mk O n3 A H V U B),bA (.mk q n5 G J I E D)] (ag 0))(h:a2=N)(hn2:0<=W/\W<=1152921504606846976)(hn4:0<=M/\M<=1152921504606846976)(C:¬W>1152921504606846976-M)(hv:aH (.mk Q W a2 K (.mk O n3 A H V U B::Y) T P)<=8589934000)(hl:S.st.length<=1000000000):jv 140 S [.c (aM (.mk 2 nN 87 nS [])),.c (.sl 7 (aa [.mk k1 n1 a1 s1 [.mk Q W a2 K (.mk O n3 A H V U B::Y) T P,.mk k4 M N s4 (.mk q n5 G J I E D::qQ) m9 qR] an aA]))] (aY S [cD [.mk Q (W+M) a2 K (.mk O n3 A H V U B::Y) T P]]):=by
 have hw:i64.wrap (1152921504606846976-M)=1152921504606846976-M:=iB ai ai;have hc:(a2 != N)=false:=by simpa using h
 have zD:((0:Int) != 0)=false:=rfl;have hg:(bif (a2 != N)then true else((0:Int) != 0))=false:=by rw[hc];rfl
 have Up:i64.wrap (W+M)=W+M:=iB ai ai;have hc3:decide (W>i64.wrap (1152921504606846976-M))=false:=by rw[hw];exact aaY C
 have h2:=gD [.mk Q (W+M) a2 K (.mk O n3 A H V U B::Y) T P];have hp:=gA S (cD [.mk Q (W+M) a2 K (.mk O n3 A H V U B::Y) T P]) (by simp only[aH,aI]at hv;simp only[fz,aH,aI];omega) hl;rw[<- Up]at h2 hp ⊢;clear h C hv Up;exact mdm func140 call140
end Go.Proofs
namespace Go.Proofs
open Go.cw
def Hp:∀(l:L Vl)(k:Vl),cC l k<=l.length
 |[],_=>aaV _
 |x::l,k=>by simp only[cC];split;have:=Hp l k;simp only[aag];omega;omega
def Pp:∀{l:L Vl}{k:Vl}{i:Nat}{x:Vl},i<cC l k->l[i]?=some x->dS (nH x) k<0
 |[],_,i,x,h,e=>by simp at e
 |y::l,k,i,x,h,e=>by
  simp only[cC]at h;split at h
  ·rename_i Y;cases i with
   |zero=>simp at e;subst e;exact Y
   |succ i=>simp at e;exact Pp ai e
  omega
attribute [local irreducible] AK ah aR bM cn cX dS
def IY(x k y:Vl)(t:Ty)(D:(ez x)[0]?=some y)(hq:af 95 [bA y,bA k] (ag (dS y k))):af 178 [bA x,bA k] (ag (dS (nH x) k)):=by
 have A:nH x=y:=by unfold nH;rw[agl,D];rfl
 rw[A];have M:(aa (ez x))[0]?=some (bA y):=by rw[kV,D];rfl
 clear A D;generalize dS y k=r at hq ⊢;obtain⟨u,W,V,S,O,E,U⟩:=x;obtain⟨Q,T,a2,K,Y,P,N⟩:=k;obtain⟨J,n3,I,H,G,C,B⟩:=y;exact qdq func178 call178
def ad3(J U:Nat)(h:J+U<=4000000000):i64.wrap ((IntKind.u64.wrap (i64.wrap ((J:Nat)+(U:Nat)))).fdiv (2^(min 1 IntKind.u64.bits)))=(((J+U)/2:Nat):Int):=by
 rw[iB (n:=(J:Int)+U) ai ai];have h1:IntKind.u64.wrap ((J:Int)+U)=((J+U:Nat):Int):=by rw[IntKind.wrap_u64];omega
 rw[h1];have h2:((J+U:Nat):Int).fdiv (2^(min 1 IntKind.u64.bits))=(((J+U)/2:Nat):Int):=by rw[show(min 1 IntKind.u64.bits)=1 from rfl];rw[ahM _ bn];omega
 rw[h2,iB ai ai]
def I3(m:L Vl)(k:Vl)(hl:m.length<=1000000000)(hq:∀x∈m,af 178 [bA x,bA k] (ag (dS (nH x) k)))
  (q:∀(i:Nat) x,cC m k<=i->m[i]?=some x->¬dS (nH x) k<0) :
  af 177 [.sl 7 (aa m),bA k,.sU 178 []] (.eF [ag (cC m k:Nat),.bool (fS m k)]):=by
 have A:=Hp m k;have S:∀{i:Nat}{x:Vl},i<cC m k->m[i]?=some x->dS (nH x) k<0:=λh e=>Pp h e;have W:fS m k=match m[cC m k]? with|some x=>decide (dS (nH x) k=0)|none=>false:=rfl
 generalize cC m k=p at A S q W ⊢;generalize fS m k=fd at W ⊢;have u:=aB m;obtain⟨M,Q,a2,K,Y,P,N⟩:=k;refine qn func177 call177 λβ hf=>?_;refine dn ?_;refine AK.dN (α:=Nat×Nat) (λz=>z.1<=p/\p<=z.2/\z.2<=m.length) (λz=>z.2-z.1)
  (λz=>[(0,.c (.sl 7 (aa m))),(2,.c (.sU 178 [])),(4,.ptr 4 0),(8,.c (ag ((aa m).length:Nat))),(9,.c (ag (z.1:Nat))),(10,.c (ag (z.2:Nat)))])
  (λz=>[(4,[.c (ag M),.c (ag Q),.c (ag a2),.c (.str K),.c (.sl 7 (aa Y)),.c (.sl 2 (az P)),.c (.sl 5 (aD N))])]) (λ_=>[]) [4] (0,(aa m).length)
  ⟨aeW _,by show p<=(aa m).length;omega,by show(aa m).length<=_;omega⟩ ce ⟨Z,trivial⟩ trivial Z Z Z ?_
 rintro⟨J,U⟩ ⟨h1,h2,h3⟩ ih;simp only at h1 h2 h3;by_cases hlt:J<U
 ·have hc:decide (((J:Nat):Int)<((U:Nat):Int))=true:=aaX ai;have V:=ad3 J U ai;obtain⟨x,D⟩:∃x,m[(J+U)/2]?=some x:=⟨_,aeL ai⟩;have T:=hq x (abz D);have I:(aa m)[(J+U)/2]?=some (bA x):=by rw[kV,D];rfl
  have E := @q ((J+U)/2) x;have C := @S ((J+U)/2) x;clear hq;generalize dS (nH x) (.mk M Q a2 K Y P N)=r at T E C;obtain⟨k1,n1,a1,s1,O,an,aA⟩:=x;by_cases B:r<0
  ·have zD:decide (r<0)=true:=aaX B;have hw:i64.wrap ((((J+U)/2:Nat):Int)+1)=(((J+U)/2+1:Nat):Int):=(by rw[iB ai ai];omega);have H:(J+U)/2+1<=p:=by
    rcases agW ((J+U)/2) p with h|h
    omega;exact absurd B (E h D)
   repeat' (first|refine sz ?_|refine zc ?_ ?_|(intro h;first|(cases h;done)|rw[h]|skip)|refine uI Z ((J+U)/2) V I Z ?_|refine uC Z T ?_)
   refine AK.fY [(4,4)] [] (env':=[(0,.c (.sl 7 (aa m))),(2,.c (.sU 178 [])),(4,.ptr 4 0),(8,.c (ag ((aa m).length:Nat))),(9,.c (ag (((J+U)/2+1:Nat):Int))),(10,.c (ag ((U:Nat):Int)))])
    (bs':=[(4,[.c (ag M),.c (ag Q),.c (ag a2),.c (.str K),.c (.sl 7 (aa Y)),.c (.sl 2 (az P)),.c (.sl 5 (aD N))])]) (ts':=[]) (us':=[4])
    ⟨⟨_,Z,.inl Z⟩,⟨_,Z,.inl Z⟩,⟨_,Z,⟨_,Z,Z⟩⟩,⟨_,Z,.inl Z⟩,⟨_,Z,.inl (aeM (λz=>AV.c (.int .i64 z)) (by rw[V];exact hw))⟩,⟨_,Z,.inl Z⟩,trivial⟩ ce Z ?_
   exact ih ((J+U)/2+1,U) ⟨by show _<=p;omega,by show p<=_;omega,by show _<=m.length;omega⟩ (by show _-_<U-J;omega)
  have zD:decide (r<0)=false:=aaY B;have H:p<=(J+U)/2:=by
   rcases agW ((J+U)/2) p with h|h
   exact absurd (C h D) B;exact h
  repeat' (first|refine sz ?_|refine zc ?_ ?_|(intro h;first|(cases h;done)|rw[h]|skip)|refine uI Z ((J+U)/2) V I Z ?_|refine uC Z T ?_)
  refine AK.fY [(4,4)] [] (env':=[(0,.c (.sl 7 (aa m))),(2,.c (.sU 178 [])),(4,.ptr 4 0),(8,.c (ag ((aa m).length:Nat))),(9,.c (ag ((J:Nat):Int))),(10,.c (ag (((J+U)/2:Nat):Int)))])
   (bs':=[(4,[.c (ag M),.c (ag Q),.c (ag a2),.c (.str K),.c (.sl 7 (aa Y)),.c (.sl 2 (az P)),.c (.sl 5 (aD N))])]) (ts':=[]) (us':=[4])
   ⟨⟨_,Z,.inl Z⟩,⟨_,Z,.inl Z⟩,⟨_,Z,⟨_,Z,Z⟩⟩,⟨_,Z,.inl Z⟩,⟨_,Z,.inl Z⟩,⟨_,Z,.inl (aeM (λz=>AV.c (.int .i64 z)) V)⟩,trivial⟩ ce Z ?_
  exact ih (J,(J+U)/2) ⟨by show _<=p;omega,by show p<=_;omega,by show _<=m.length;omega⟩ (by show _-_<U-J;omega)
 have hc:decide (((J:Nat):Int)<((U:Nat):Int))=false:=aaY ai;have he:J=p:=by omega
 subst he;clear ih S q;by_cases hn:J<m.length
 ·have G:decide (((J:Nat):Int)<(((aa m).length:Nat):Int))=true:=aaX ai;obtain⟨x,D⟩:∃x,m[J]?=some x:=⟨_,aeL hn⟩;rw[D]at W;have T:=hq x (abz D);have I:(aa m)[J]?=some (bA x):=by rw[kV,D];rfl
  clear hq;simp only at W;subst W;generalize dS (nH x) (.mk M Q a2 K Y P N)=r at T ⊢;obtain⟨k1,n1,a1,s1,O,an,aA⟩:=x;exact dq
 have G:decide (((J:Nat):Int)<(((aa m).length:Nat):Int))=false:=aaY ai;rw[agM ai]at W;simp only at W;subst W;clear hq;exact dq
def LM(m:L Vl)(k:Vl)(I:m.length<=1000000000)(hq:∀x∈m,af 178 [bA x,bA k] (ag (dS (nH x) k)))
  (q:∀(i:Nat) x,cC m k<=i->m[i]?=some x->¬dS (nH x) k<0) :
  af 158 [.sl 7 (aa m),bA k] (.eF [ag (cC m k:Nat),.bool (fS m k)]):=by
 have U:=I3 m k I hq q;clear hq q;obtain⟨M,W,a2,K,Y,V,T⟩:=k;exact qdq func158 call158
end Go.Proofs
