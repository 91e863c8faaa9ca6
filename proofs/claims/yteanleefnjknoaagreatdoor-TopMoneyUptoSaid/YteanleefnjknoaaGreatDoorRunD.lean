/- What reckon and divide of package run's machine do. -/
import Derived.Test.YteanleefnjknoaaGreatDoorNum2
set_option maxRecDepth 100000
open Go.IntKind
open Go.Proofs.Tryz
set_option linter.defProp false
set_option maxHeartbeats 0
set_option linter.unusedVariables false
set_option linter.unusedSimpArgs false
namespace Go.Proofs
open Go.cK
def fO(k n:Int):aM (aQ k n)=1:=rfl
def fm(l:L Vl):aM (cG l)=aO l+1:=by simp only[cG,aM,bz,aU,aad];omega
def eD(a b:Vl):aM (bA a b)=aM a+aM b+1:=by simp only[bA,aM,aO,bz,aU,aad];omega
attribute [local irreducible] AK af bg cn cP dP nI vg kW sU iz oz ofM
def QH(S:ct)(k:Int)(J W U:Int)(P:L UInt8)(Y:L Vl)(E:L Ty)(M:L Nd)(A D a2:Int)(T:L UInt8)(u:L Vl)(V:L Ty)(G:L Nd)(q r e:Int)(B:e≠0)(Q:iz W D=(q,r,e))(O:S.st.length<=1000000000):je 130 S [.c (ag k),.c (bH (.mk J W U P Y E M)),.c (bH (.mk A D a2 T u V G))] (bq S [cG []]):=by
 have hq:=vk W D;rw[Q]at hq;have N:(e != 0)=true:=by simpa using B
 have K:=gr S (cG []) gb O;refine mn func130 call130 λβ hf=>?_;have I:=fQ;exact dm
def Ub(S:ct)(k:Int)(J W U:Int)(P:L UInt8)(Y:L Vl)(E:L Ty)(M:L Nd)(A D a2:Int)(T:L UInt8)(u:L Vl)(V:L Ty)(G:L Nd)(q r:Int)(Q:k=5)(O:A=5)(N:iz W D=(q,r,0))(K:S.st.length<=1000000000):je 130 S [.c (ag k),.c (bH (.mk J W U P Y E M)),.c (bH (.mk A D a2 T u V G))] (bq S [cG [bA (aQ (4) q) (aQ 5 r)]]):=by
 have hq:=vk W D;rw[N]at hq;have I:(k==5)=true:=by simpa using Q
 have H:(A==5)=true:=by simpa using O
 have h1:=cR (4) q;have h2:=cR 5 r;have C:=ja (aQ (4) q) (aQ 5 r);have B:=gv [bA (aQ (4) q) (aQ 5 r)];have p:=gr S (cG [bA (aQ (4) q) (aQ 5 r)]) gb K;refine mn func130 call130 λβ hf=>?_;exact dm
def Xk(S:ct)(k:Int)(J W U:Int)(P:L UInt8)(Y:L Vl)(E:L Ty)(M:L Nd)(A D a2:Int)(T:L UInt8)(u:L Vl)(V:L Ty)(G:L Nd)(q r:Int)(Q:k=5)(O:A≠5)(N:iz W D=(q,r,0))(K:S.st.length<=1000000000):je 130 S [.c (ag k),.c (bH (.mk J W U P Y E M)),.c (bH (.mk A D a2 T u V G))] (bq S [cG [bA (aQ (k) q) (aQ 5 r)]]):=by
 have hq:=vk W D;rw[N]at hq;have I:(k==5)=true:=by simpa using Q
 have H:(A==5)=false:=by simpa using O
 have h1:=cR (k) q;have h2:=cR 5 r;have C:=ja (aQ (k) q) (aQ 5 r);have B:=gv [bA (aQ (k) q) (aQ 5 r)];have p:=gr S (cG [bA (aQ (k) q) (aQ 5 r)]) gb K;refine mn func130 call130 λβ hf=>?_;exact dm
def Bi(S:ct)(k:Int)(J W U:Int)(P:L UInt8)(Y:L Vl)(E:L Ty)(M:L Nd)(A D a2:Int)(T:L UInt8)(u:L Vl)(V:L Ty)(G:L Nd)(q r:Int)(Q:k≠5)(O:iz W D=(q,r,0))(N:S.st.length<=1000000000):je 130 S [.c (ag k),.c (bH (.mk J W U P Y E M)),.c (bH (.mk A D a2 T u V G))] (bq S [cG [bA (aQ (k) q) (aQ 4 r)]]):=by
 have hq:=vk W D;rw[O]at hq;have K:(k==5)=false:=by simpa using Q
 have h1:=cR (k) q;have h2:=cR 4 r;have I:=ja (aQ (k) q) (aQ 4 r);have H:=gv [bA (aQ (k) q) (aQ 4 r)];have C:=gr S (cG [bA (aQ (k) q) (aQ 4 r)]) gb N;refine mn func130 call130 λβ hf=>?_;exact dm
def QI(S:ct)(u W U:Int)(P:L UInt8)(Y:L Vl)(J:L Ty)(M:L Nd)(E:S.st.length<=1000000000):je 95 S [.c (ag 93),.c (.sl 7 (aa [.mk u W U P Y J M]))] (bq S [aQ 4 (oz W).1]):=by
 have hq:=Cm W;have V:=gr S (aQ 4 (oz W).1) gb E;generalize oz W=r at hq V ⊢;obtain⟨r,e⟩:=r;have h1:=cR 4 r;refine mn func95 call95 λβ hf=>?_;exact dm
def N5(S:ct)(u W U:Int)(P:L UInt8)(Y:L Vl)(J:L Ty)(M:L Nd)(B:W<0)(E:S.st.length<=1000000000):je 95 S [.c (ag 94),.c (.sl 7 (aa [.mk u W U P Y J M]))] (bq S [cG []]):=by
 have A:decide (W<0)=true:=aak B;have V:=gr S (cG []) gb E;refine mn func95 call95 λβ hf=>?_;have T:=fQ;exact dm
def N6(S:ct)(u W U:Int)(P:L UInt8)(Y:L Vl)(J:L Ty)(M:L Nd)(B:¬W<0)(E:S.st.length<=1000000000):je 95 S [.c (ag 94),.c (.sl 7 (aa [.mk u W U P Y J M]))] (bq S [cG [aQ 4 W]]):=by
 have A:decide (W<0)=false:=aap B;have h1:=cR 4 W;have h2:=gv [aQ 4 W];have V:=gr S (cG [aQ 4 W]) gb E;refine mn func95 call95 λβ hf=>?_;exact dm
def QJ(S:ct)(u W U:Int)(P:L UInt8)(Y:L Vl)(J:L Ty)(M:L Nd)(E:S.st.length<=1000000000):je 95 S [.c (ag 95),.c (.sl 7 (aa [.mk u W U P Y J M]))] (bq S [aQ 3 W]):=by
 have h1:=cR 3 W;have V:=gr S (aQ 3 W) gb E;refine mn func95 call95 λβ hf=>?_;exact dm
def Hz(S:ct)(J W U:Int)(P:L UInt8)(Y:L Vl)(D:L Ty)(M:L Nd)(A q a2:Int)(T:L UInt8)(u:L Vl)(V:L Ty)(G:L Nd)(r:Int)(Q:vg W q=(r,0))(E:S.st.length<=1000000000):je 95 S [.c (ag 69),.c (.sl 7 (aa [.mk J W U P Y D M,.mk A q a2 T u V G]))] (bq S [aQ (ofM 69 J A) r]):=by
 have hq:=IX W q;rw[Q]at hq;have p:=nR 69 J A;have h1:=cR (ofM 69 J A) r;have O:=gr S (aQ (ofM 69 J A) r) gb E;refine mn func95 call95 λβ hf=>?_;exact dm
def Gi(S:ct)(J W U:Int)(P:L UInt8)(Y:L Vl)(D:L Ty)(M:L Nd)(A q a2:Int)(T:L UInt8)(u:L Vl)(V:L Ty)(G:L Nd)(r e:Int)(B:e≠0)(Q:vg W q=(r,e))(E:S.st.length<=1000000000):je 95 S [.c (ag 69),.c (.sl 7 (aa [.mk J W U P Y D M,.mk A q a2 T u V G]))] (((e,S):MR)):=by
 have hq:=IX W q;rw[Q]at hq;have p:=nR 69 J A;have O:(e != 0)=true:=by simpa using B
 refine mn func95 call95 λβ hf=>?_;exact dm
def HA(S:ct)(J W U:Int)(P:L UInt8)(Y:L Vl)(D:L Ty)(M:L Nd)(A q a2:Int)(T:L UInt8)(u:L Vl)(V:L Ty)(G:L Nd)(r:Int)(Q:sU W q=(r,0))(E:S.st.length<=1000000000):je 95 S [.c (ag 71),.c (.sl 7 (aa [.mk J W U P Y D M,.mk A q a2 T u V G]))] (bq S [aQ (ofM 71 J A) r]):=by
 have hq:=IL W q;rw[Q]at hq;have p:=nR 71 J A;have h1:=cR (ofM 71 J A) r;have O:=gr S (aQ (ofM 71 J A) r) gb E;refine mn func95 call95 λβ hf=>?_;exact dm
def Gj(S:ct)(J W U:Int)(P:L UInt8)(Y:L Vl)(D:L Ty)(M:L Nd)(A q a2:Int)(T:L UInt8)(u:L Vl)(V:L Ty)(G:L Nd)(r e:Int)(B:e≠0)(Q:sU W q=(r,e))(E:S.st.length<=1000000000):je 95 S [.c (ag 71),.c (.sl 7 (aa [.mk J W U P Y D M,.mk A q a2 T u V G]))] (((e,S):MR)):=by
 have hq:=IL W q;rw[Q]at hq;have p:=nR 71 J A;have O:(e != 0)=true:=by simpa using B
 refine mn func95 call95 λβ hf=>?_;exact dm
def Gk(S:ct)(J W U:Int)(P:L UInt8)(Y:L Vl)(D:L Ty)(M:L Nd)(A q a2:Int)(T:L UInt8)(u:L Vl)(V:L Ty)(G:L Nd)(r e:Int)(B:e≠0)(Q:kW W q=(r,e))(E:S.st.length<=1000000000):je 95 S [.c (ag 70),.c (.sl 7 (aa [.mk J W U P Y D M,.mk A q a2 T u V G]))] (((e,S):MR)):=by
 have hq:=yu W q;rw[Q]at hq;have p:=nR 70 J A;have N:(e != 0)=true:=by simpa using B
 have O:(e==0)=false:=by simpa using B
 have K:(bif (ofM 70 J A==5)then(e==0)else false)=false:=by rw[O];cases(ofM 70 J A==5)<;>rfl
 refine mn func95 call95 λβ hf=>?_;exact dm
def Gl(S:ct)(J W U:Int)(P:L UInt8)(Y:L Vl)(D:L Ty)(M:L Nd)(A q a2:Int)(T:L UInt8)(u:L Vl)(V:L Ty)(G:L Nd)(r:Int)(Q:ofM 70 J A=5)(C:r<0)(O:kW W q=(r,0))(E:S.st.length<=1000000000):je 95 S [.c (ag 70),.c (.sl 7 (aa [.mk J W U P Y D M,.mk A q a2 T u V G]))] (bq S [cG []]):=by
 have hq:=yu W q;rw[O]at hq;have p:=nR 70 J A;have N:(ofM 70 J A==5)=true:=by simpa using Q
 have K:decide (r<0)=true:=aak C;have I:=gr S (cG []) gb E;refine mn func95 call95 λβ hf=>?_;have H:=fQ;exact dm
def Gm(S:ct)(u V U:Int)(P:L UInt8)(Y:L Vl)(J:L Ty)(M:L Nd)(A q a2:Int)(T:L UInt8)(W:L Vl)(Q:L Ty)(G:L Nd)(r:Int)(D:ofM 70 u A=5)(C:¬r<0)(O:kW V q=(r,0))(E:S.st.length<=1000000000):je 95 S [.c (ag 70),.c (.sl 7 (aa [.mk u V U P Y J M,.mk A q a2 T W Q G]))] (bq S [cG [aQ (ofM 70 u A) r]]):=by
 have hq:=yu V q;rw[O]at hq;have p:=nR 70 u A;have N:(ofM 70 u A==5)=true:=by simpa using D
 have K:decide (r<0)=false:=aap C;have h1:=cR (ofM 70 u A) r;have h2:=gv [aQ (ofM 70 u A) r];have I:=gr S (cG [aQ (ofM 70 u A) r]) gb E;refine mn func95 call95 λβ hf=>?_;exact dm
def Gn(S:ct)(u V U:Int)(P:L UInt8)(Y:L Vl)(J:L Ty)(M:L Nd)(A q a2:Int)(T:L UInt8)(W:L Vl)(Q:L Ty)(G:L Nd)(r:Int)(D:ofM 70 u A≠5)(O:kW V q=(r,0))(E:S.st.length<=1000000000):je 95 S [.c (ag 70),.c (.sl 7 (aa [.mk u V U P Y J M,.mk A q a2 T W Q G]))] (bq S [aQ (ofM 70 u A) r]):=by
 have hq:=yu V q;rw[O]at hq;have p:=nR 70 u A;have N:(ofM 70 u A==5)=false:=by simpa using D
 have h1:=cR (ofM 70 u A) r;have K:=gr S (aQ (ofM 70 u A) r) gb E;refine mn func95 call95 λβ hf=>?_;exact dm
def mY(S:ct)(J W U:Int)(P:L UInt8)(Y:L Vl)(D:L Ty)(M:L Nd)(A q a2:Int)(T:L UInt8)(u:L Vl)(V:L Ty)(G:L Nd)(r:MR)(O:cJ 130 S [.c (ag (ofM 72 J A)),.c (bH (.mk J W U P Y D M)),.c (bH (.mk A q a2 T u V G))] (ag r.1) r.2):cJ 95 S [.c (ag 72),.c (.sl 7 (aa [.mk J W U P Y D M,.mk A q a2 T u V G]))] (ag r.1) r.2:=by
 have p:=nR 72 J A;refine mn func95 call95 λβ hf=>?_;exact dm
end Go.Proofs
namespace Go.Proofs
open Go.cK
def iM(b:Bool):aM (iZ b)=1:=rfl
def ji(k n a:Int)(s:L UInt8):aM (.mk k n a s [] [] [])=s.length+1:=by simp only[aM,aO,bz,aU]
attribute [local irreducible] AK af bg cn cP dP nI dR vw iw aP
def Bd(v w:Vl)(t:Ty)(Q:ig t=false)(h1:bL v t=true)(h2:bL w t=true)(G:aM v<=1099511627776):ah 131 [bH v,bH w] (ag (dR v w)):=by
 have hq:=oV v w t Q h1 h2 G;obtain⟨J,W,U,P,Y,D,M⟩:=v;obtain⟨A,q,a2,T,u,V,p⟩:=w;refine qn func131 call131 λβ hf=>?_;exact dq
def Xl(S:ct)(Q:Int)(O:L UInt8)(J W U:Int)(P:L UInt8)(Y:L Vl)(D:L Ty)(M:L Nd)(A q a2:Int)(T:L UInt8)(u:L Vl)(V:L Ty)(G:L Nd)(hq:ah 131 [bH (.mk J W U P Y D M),bH (.mk A q a2 T u V G)] (ag (dR (.mk J W U P Y D M) (.mk A q a2 T u V G))))(E:S.st.length<=1000000000):je 96 S [.c (aW (.mk 2 Q 73 O [])),.c (.sl 7 (aa [.mk J W U P Y D M,.mk A q a2 T u V G]))] (bq S [aQ 3 (dR (.mk J W U P Y D M) (.mk A q a2 T u V G))]):=by
 generalize dR (.mk J W U P Y D M) (.mk A q a2 T u V G)=r at hq ⊢;have h1:=cR 3 r;have N:=gr S (aQ 3 r) fc E;refine mn func96 call96 λβ hf=>?_;exact dm
def Zs(S:ct)(V:Int)(T:L UInt8)(u W U:Int)(P:L UInt8)(Y:L Vl)(J:L Ty)(M:L Nd)(E:S.st.length<=1000000000):je 96 S [.c (aW (.mk 2 V 74 T [])),.c (.sl 7 (aa [.mk u W U P Y J M]))] (bq S [iZ (W==0)]):=by
 have h1:=kj (W==0);have Q:=gr S (iZ (W==0)) fc E;refine mn func96 call96 λβ hf=>?_;exact dm
def Zt(S:ct)(V:Int)(T:L UInt8)(u W U:Int)(P:L UInt8)(Y:L Vl)(J:L Ty)(M:L Nd)(E:S.st.length<=1000000000):je 96 S [.c (aW (.mk 2 V 75 T [])),.c (.sl 7 (aa [.mk u W U P Y J M]))] (bq S [iZ (decide (W<0))]):=by
 have h1:=kj (decide (W<0));have Q:=gr S (iZ (decide (W<0))) fc E;refine mn func96 call96 λβ hf=>?_;exact dm
def Zu(S:ct)(V:Int)(T:L UInt8)(u W U:Int)(P:L UInt8)(Y:L Vl)(J:L Ty)(M:L Nd)(E:S.st.length<=1000000000):je 96 S [.c (aW (.mk 2 V 76 T [])),.c (.sl 7 (aa [.mk u W U P Y J M]))] (bq S [iZ (decide (W>0))]):=by
 have h1:=kj (decide (W>0));have Q:=gr S (iZ (decide (W>0))) fc E;refine mn func96 call96 λβ hf=>?_;exact dm
def Zv(S:ct)(V:Int)(T:L UInt8)(u W U:Int)(P:L UInt8)(Y:L Vl)(J:L Ty)(M:L Nd)(E:S.st.length<=1000000000):je 96 S [.c (aW (.mk 2 V 77 T [])),.c (.sl 7 (aa [.mk u W U P Y J M]))] (bq S [iZ (W==0)]):=by
 have h1:=kj (W==0);have Q:=gr S (iZ (W==0)) fc E;refine mn func96 call96 λβ hf=>?_;exact dm
def Xm(S:ct)(V:Int)(T:L UInt8)(J W U:Int)(P:L UInt8)(Y:L Vl)(D:L Ty)(M:L Nd)(A q a2:Int)(Q:L UInt8)(u:L Vl)(O:L Ty)(G:L Nd)(h:W=1)(E:S.st.length<=1000000000):je 96 S [.c (aW (.mk 2 V 78 T [])),.c (.sl 7 (aa [.mk J W U P Y D M,.mk A q a2 Q u O G]))] (bq S [iZ (q==1)]):=by
 have N:(W==1)=true:=by simpa using h
 clear h;have h1:=kj (q==1);have K:=gr S (iZ (q==1)) fc E;refine mn func96 call96 λβ hf=>?_;exact dm
def Xn(S:ct)(V:Int)(T:L UInt8)(J W U:Int)(P:L UInt8)(Y:L Vl)(D:L Ty)(M:L Nd)(A q a2:Int)(Q:L UInt8)(u:L Vl)(O:L Ty)(G:L Nd)(h:W≠1)(E:S.st.length<=1000000000):je 96 S [.c (aW (.mk 2 V 78 T [])),.c (.sl 7 (aa [.mk J W U P Y D M,.mk A q a2 Q u O G]))] (bq S [iZ false]):=by
 have N:(W==1)=false:=by simpa using h
 clear h;have h1:=kj false;have K:=gr S (iZ false) fc E;refine mn func96 call96 λβ hf=>?_;exact dm
def Xo(S:ct)(V:Int)(T:L UInt8)(J W U:Int)(P:L UInt8)(Y:L Vl)(D:L Ty)(M:L Nd)(A q a2:Int)(Q:L UInt8)(u:L Vl)(O:L Ty)(G:L Nd)(h:W=1)(E:S.st.length<=1000000000):je 96 S [.c (aW (.mk 2 V 79 T [])),.c (.sl 7 (aa [.mk J W U P Y D M,.mk A q a2 Q u O G]))] (bq S [iZ true]):=by
 have N:(W==1)=true:=by simpa using h
 clear h;have h1:=kj true;have K:=gr S (iZ true) fc E;refine mn func96 call96 λβ hf=>?_;exact dm
def Xp(S:ct)(V:Int)(T:L UInt8)(J W U:Int)(P:L UInt8)(Y:L Vl)(D:L Ty)(M:L Nd)(A q a2:Int)(Q:L UInt8)(u:L Vl)(O:L Ty)(G:L Nd)(h:W≠1)(E:S.st.length<=1000000000):je 96 S [.c (aW (.mk 2 V 79 T [])),.c (.sl 7 (aa [.mk J W U P Y D M,.mk A q a2 Q u O G]))] (bq S [iZ (q==1)]):=by
 have N:(W==1)=false:=by simpa using h
 clear h;have h1:=kj (q==1);have K:=gr S (iZ (q==1)) fc E;refine mn func96 call96 λβ hf=>?_;exact dm
def Uc(S:ct)(W:Int)(A:L UInt8)(J V U:Int)(P:L UInt8)(Y:L Vl)(D:L Ty)(M:L Nd)(Q q a2:Int)(T:L UInt8)(u:L Vl)(O:L Ty)(G:L Nd)(h:200<P.length+T.length)(K:P.length+T.length<=1000000000)(E:S.st.length<=1000000000):je 96 S [.c (aW (.mk 2 W 80 A [])),.c (.sl 7 (aa [.mk J V U P Y D M,.mk Q q a2 T u O G]))] (((13,S):MR)):=by
 have N:i64.wrap (((P.length:Nat):Int)+(T.length:Nat))=((P.length:Nat):Int)+(T.length:Nat):=iy bn bn;have I:decide (i64.wrap (((P.length:Nat):Int)+(T.length:Nat))>200)=true:=by rw[N];exact aak bn
 clear h;refine mn func96 call96 λβ hf=>?_;exact dm
def Ud(S:ct)(W:Int)(A:L UInt8)(J V U:Int)(P:L UInt8)(Y:L Vl)(D:L Ty)(M:L Nd)(Q q a2:Int)(T:L UInt8)(u:L Vl)(O:L Ty)(G:L Nd)(h:¬200<P.length+T.length)(E:S.st.length<=1000000000):je 96 S [.c (aW (.mk 2 W 80 A [])),.c (.sl 7 (aa [.mk J V U P Y D M,.mk Q q a2 T u O G]))] (bq S [.mk 6 0 0 (P++T) [] [] []]):=by
 have N:i64.wrap (((P.length:Nat):Int)+(T.length:Nat))=((P.length:Nat):Int)+(T.length:Nat):=iy bn bn;have I:decide (i64.wrap (((P.length:Nat):Int)+(T.length:Nat))>200)=false:=by rw[N];exact aap bn
 have K:=gr S (.mk 6 0 0 (P++T) [] [] []) (by simp only[ji,aaz];omega) E;have p:P.length+T.length<=9223372036854775807:=by omega
 clear h;refine mn func96 call96 λβ hf=>?_
 repeat' (first|refine om ?_|refine zc ?_ ?_|(intro h;first|(cases h;done)|rw[h]|skip)|refine uI Z (0) Z (Z) Z ?_|refine uI Z (1) Z (Z) Z ?_|refine uI Z (2) Z (Z) Z ?_|refine af.concat hX kn Z Z Z Z Z p ?_|refine ve ?_ (hq:=K))
 all_goals rfl
def QK(S:ct)(V:Int)(T:L UInt8)(u W U:Int)(P:L UInt8)(Y:L Vl)(J:L Ty)(M:L Nd)(s:L UInt8)(e:Int)(hq:ah 133 [bH (.mk u W U P Y J M)] (.eY [.str s,ag e]))(h:e≠0)(E:S.st.length<=1000000000):je 96 S [.c (aW (.mk 2 V 81 T [])),.c (.sl 7 (aa [.mk u W U P Y J M]))] (((13,S):MR)):=by
 have A:(e != 0)=true:=by simpa using h
 clear h;refine mn func96 call96 λβ hf=>?_;exact dm
def QL(S:ct)(V:Int)(T:L UInt8)(u W U:Int)(P:L UInt8)(Y:L Vl)(J:L Ty)(M:L Nd)(s:L UInt8)(hq:ah 133 [bH (.mk u W U P Y J M)] (.eY [.str s,ag 0]))(G:s.length<=1000000000)(E:S.st.length<=1000000000):je 96 S [.c (aW (.mk 2 V 81 T [])),.c (.sl 7 (aa [.mk u W U P Y J M]))] (bq S [.mk 6 0 0 s [] [] []]):=by
 have Q:=gr S (.mk 6 0 0 s [] [] []) (by simp only[ji];omega) E;clear G;refine mn func96 call96 λβ hf=>?_;exact dm
def Xq(S:ct)(W:Int)(A:L UInt8)(u V U:Int)(P:L UInt8)(Y:L Vl)(J:L Ty)(M:L Nd)(x:Nd)(O:bM x<=8589934593)(v:Vl)(e:Int)(p:iw (aP x).1 P=(v,e))(h:e≠0)(E:S.st.length<=1000000000):je 96 S [.c (aW (.mk 2 W 82 A [x])),.c (.sl 7 (aa [.mk u V U P Y J M]))] (bq S [cG []]):=by
 have Q:(e != 0)=true:=by simpa using h
 clear h;have N:=gr S (cG []) fc E;have hq:=jm x O;have C:=AH (aP x).1 P (FX x O);rw[p]at C;clear p;generalize aP x=tp at hq C;obtain⟨⟨T,us⟩,e0⟩:=tp;obtain⟨K,I,H,G,D⟩:=x;obtain⟨B,n3,q,s3,fW,cX,eo⟩:=v;refine mn func96 call96 λβ hf=>?_;have vV:=fQ;exact dm
def Xr(S:ct)(W:Int)(A:L UInt8)(u V U:Int)(P:L UInt8)(Y:L Vl)(J:L Ty)(M:L Nd)(x:Nd)(O:bM x<=8589934593)(v:Vl)(p:iw (aP x).1 P=(v,0))(Q:aM v<=8589934000)(E:S.st.length<=1000000000):je 96 S [.c (aW (.mk 2 W 82 A [x])),.c (.sl 7 (aa [.mk u V U P Y J M]))] (bq S [cG [v]]):=by
 have N:=gr S (cG [v]) (by simp only[fm,aO];omega) E;clear Q;have h2:=gv [v];have hq:=jm x O;have C:=AH (aP x).1 P (FX x O);rw[p]at C;clear p;generalize aP x=tp at hq C;obtain⟨⟨T,us⟩,e0⟩:=tp;obtain⟨K,I,H,G,D⟩:=x;obtain⟨B,n3,q,s3,fW,cX,eo⟩:=v;refine mn func96 call96 λβ hf=>?_;exact dm
def Ue(S:ct)(V:Int)(T:L UInt8)(u W U:Int)(P:L UInt8)(Y:L Vl)(J:L Ty)(M:L Nd)(E:S.st.length<=1000000000):je 96 S [.c (aW (.mk 2 V 83 T [])),.c (.sl 7 (aa [.mk u W U P Y J M]))] (((10,{S with said := .mk u W U P Y J M}):MR)):=by
 refine mn func96 call96 λβ hf=>?_;exact dm
end Go.Proofs
namespace Go.Proofs
open Go.cK
attribute [local irreducible] AK af bg cn cP dP nI dR aP
def Qb(S:ct)(Y:Int)(T:L UInt8)(E:S.st.length<=1000000000):je 97 S [.c (aW (.mk 2 Y 89 T [])),.c (.sl 7 (aa []))] (bq S [aQ 7 S.self]):=by
 have h1:=cR 7 S.self;have W:=gr S (aQ 7 S.self) fc E;refine mn func97 call97 λβ hf=>?_;exact dm
def Kr(S:ct)(Y:Int)(T:L UInt8)(E:S.st.length<=1000000000):je 97 S [.c (aW (.mk 2 Y 90 T [])),.c (.sl 7 (aa []))] (bq S [aQ 7 S.iE]):=by
 have h1:=cR 7 S.iE;have W:=gr S (aQ 7 S.iE) fc E;refine mn func97 call97 λβ hf=>?_;exact dm
def Kt(S:ct)(Y:Int)(T:L UInt8)(E:S.st.length<=1000000000):je 97 S [.c (aW (.mk 2 Y 91 T [])),.c (.sl 7 (aa []))] (bq S [aQ 5 S.iF]):=by
 have h1:=cR 5 S.iF;have W:=gr S (aQ 5 S.iF) fc E;refine mn func97 call97 λβ hf=>?_;exact dm
def Hs(S:ct)(Y:Int)(T:L UInt8)(E:S.st.length<=1000000000):je 97 S [.c (aW (.mk 2 Y 92 T [])),.c (.sl 7 (aa []))] (bq S [aQ 5 S.balance]):=by
 have h1:=cR 5 S.balance;have W:=gr S (aQ 5 S.balance) fc E;refine mn func97 call97 λβ hf=>?_;exact dm
def Nw(S:ct)(W:Int)(T:L UInt8)(J V U:Int)(P:L UInt8)(Y:L Vl)(D:L Ty)(M:L Nd)(A q a2:Int)(Q:L UInt8)(u:L Vl)(O:L Ty)(G:L Nd)(h:q=0)(E:S.st.length<=1000000000):je 97 S [.c (aW (.mk 2 W 84 T [])),.c (.sl 7 (aa [.mk J V U P Y D M,.mk A q a2 Q u O G]))] (bq S [cG []]):=by
 have N:(q==0)=true:=by simpa using h
 clear h;have K:=gr S (cG []) fc E;refine mn func97 call97 λβ hf=>?_;have I:=fQ;exact dm
def Nx(S:ct)(W:Int)(T:L UInt8)(J V U:Int)(P:L UInt8)(Y:L Vl)(D:L Ty)(M:L Nd)(A q a2:Int)(O:L UInt8)(u:L Vl)(N:L Ty)(G:L Nd)(Q:q≠0)(B:0<=q/\q<=1152921504606846976)(h:S.az>1152921504606846976-q)(E:S.st.length<=1000000000):je 97 S [.c (aW (.mk 2 W 84 T [])),.c (.sl 7 (aa [.mk J V U P Y D M,.mk A q a2 O u N G]))] (((11,S):MR)):=by
 have K:(q==0)=false:=by simpa using Q
 have I:i64.wrap (1152921504606846976-q)=1152921504606846976-q:=iy bn bn;have H:decide (S.az>i64.wrap (1152921504606846976-q))=true:=by rw[I];exact aak h
 clear h Q;refine mn func97 call97 λβ hf=>?_;exact dm
def Ny(S:ct)(O:Int)(A:L UInt8)(J W U:Int)(P:L UInt8)(Y:L Vl)(D:L Ty)(M:L Nd)(N q a2:Int)(K:L UInt8)(u:L Vl)(I:L Ty)(G:L Nd)(Q:q≠0)(p:0<=q/\q<=1152921504606846976)(h:¬S.az>1152921504606846976-q)(hm:0<=S.az)(V:aM (.mk J W U P Y D M)<=8589934000)(E:S.st.length<=1000000000):je 97 S [.c (aW (.mk 2 O 84 A [])),.c (.sl 7 (aa [.mk J W U P Y D M,.mk N q a2 K u I G]))] (bq {S with az:=S.az+q} [cG [.mk 15 q S.self [] [.mk J W U P Y D M] [] []]]):=by
 have H:(q==0)=false:=by simpa using Q
 have C:i64.wrap (1152921504606846976-q)=1152921504606846976-q:=iy bn bn;have T:i64.wrap (S.az+q)=S.az+q:=iy bn bn;have hc:decide (S.az>i64.wrap (1152921504606846976-q))=false:=by rw[C];exact aap h
 have h2:=gv [.mk 15 q S.self [] [.mk J W U P Y D M] [] []];have B:=gr {S with az:=S.az+q} (cG [.mk 15 q S.self [] [.mk J W U P Y D M] [] []]) (by simp only[aM]at V;simp only[fm,aM,aO,bz,aU,aad];omega) E;rw[<- T]at B ⊢;clear h Q V T;refine mn func97 call97 λβ hf=>?_;exact dm
def F8(S:ct)(Q:Int)(A:L UInt8)(J W U:Int)(P:L UInt8)(Y:L Vl)(D:L Ty)(M:L Nd)(O q a2:Int)(N:L UInt8)(u:L Vl)(K:L Ty)(G:L Nd)(I n3 H:Int)(B:L UInt8)(E:L Vl)(C:L Ty)(p:L Nd)(x:Nd)(hx:bM x<=8589934593)(V:aM (.mk 8 q n3 [] [.mk J W U P Y D M] [(aP x).1] [])<=8589934593)(hl:S.st.length<=1000000000):je 97 S [.c (aW (.mk 2 Q 88 A [x])),.c (.sl 7 (aa [.mk J W U P Y D M,.mk O q a2 N u K G,.mk I n3 H B E C p]))] (bq S [.mk 8 q n3 [] [.mk J W U P Y D M] [(aP x).1] []]):=by
 have hp:=gr S (.mk 8 q n3 [] [.mk J W U P Y D M] [(aP x).1] []) V hl;have hq:=jm x hx;clear V;generalize aP x=tp at hq hp ⊢;obtain⟨⟨T,us⟩,e0⟩:=tp;obtain⟨j1,j2,j3,j4,j5⟩:=x;refine mn func97 call97 λβ hf=>?_;exact dm
def Qd(S:ct)(N:Int)(A:L UInt8)(J W U:Int)(P:L UInt8)(Y:L Vl)(E:L Ty)(Q:L Nd)(O n3 D:Int)(B:L UInt8)(M:L Vl)(u:L Ty)(V:L Nd)(T:aM (.mk J W U P (.mk O n3 D B M u V::Y) E Q)<=8589934000)(K:S.st.length<=1000000000):je 97 S [.c (aW (.mk 2 N 85 A [])),.c (.sl 7 (aa [.mk J W U P (.mk O n3 D B M u V::Y) E Q]))] (bq S [.mk J W U P (.mk O n3 D B M u V::Y) E Q,bA (aQ 7 U) (bA (.mk O n3 D B M u V) (aQ 4 W))]):=by
 have h1:=cR 7 U;have h2:=cR 4 W;have I:=ja (.mk O n3 D B M u V) (aQ 4 W);have H:=ja (aQ 7 U) (bA (.mk O n3 D B M u V) (aQ 4 W));have G:=abH S (.mk J W U P (.mk O n3 D B M u V::Y) E Q) (bA (aQ 7 U) (bA (.mk O n3 D B M u V) (aQ 4 W))) bn (by simp only[aM,aO]at T;simp only[eD,fO,aM];omega) K;clear T;refine mn func97 call97 λβ hf=>?_;exact dm
def Ht(S:ct)(W:Int)(T:L UInt8)(J V U:Int)(P:L UInt8)(Y:L Vl)(D:L Ty)(M:L Nd)(A q a2:Int)(Q:L UInt8)(u:L Vl)(O:L Ty)(G:L Nd)(N n3 K:Int)(B:L UInt8)(I:L Vl)(H:L Ty)(C:L Nd)(p E a4:Int)(s4:L UInt8)(pX:L Vl)(mE:L Ty)(pY:L Nd)(h3:0<=n3/\n3<=1152921504606846976)(h4:0<=E/\E<=1152921504606846976)(h:n3<1)(hl:S.st.length<=1000000000):je 97 S [.c (aW (.mk 2 W 86 T [])),.c (.sl 7 (aa [.mk J V U P Y D M,.mk A q a2 Q [.mk N n3 K B I H C,.mk p E a4 s4 pX mE pY] O G]))] (bq S [cG []]):=by
 have hw:i64.wrap (n3+E)=n3+E:=iy bn bn;have DJ:decide (n3<1)=true:=aak h;clear h;have hp:=gr S (cG []) fc hl;refine mn func97 call97 λβ hf=>?_;have Ep:=fQ;exact dm
def Hu(S:ct)(W:Int)(T:L UInt8)(J V U:Int)(P:L UInt8)(Y:L Vl)(D:L Ty)(M:L Nd)(A q a2:Int)(Q:L UInt8)(u:L Vl)(O:L Ty)(G:L Nd)(N n3 K:Int)(B:L UInt8)(I:L Vl)(H:L Ty)(C:L Nd)(p E a4:Int)(s4:L UInt8)(pX:L Vl)(mE:L Ty)(pY:L Nd)(h3:0<=n3/\n3<=1152921504606846976)(h4:0<=E/\E<=1152921504606846976)(h:¬n3<1)(h2:E<1)(hl:S.st.length<=1000000000):je 97 S [.c (aW (.mk 2 W 86 T [])),.c (.sl 7 (aa [.mk J V U P Y D M,.mk A q a2 Q [.mk N n3 K B I H C,.mk p E a4 s4 pX mE pY] O G]))] (bq S [cG []]):=by
 have hw:i64.wrap (n3+E)=n3+E:=iy bn bn;have DJ:decide (n3<1)=false:=aap h;have yl:decide (E<1)=true:=aak h2;have hg1:(bif decide (n3<1)then true else decide (E<1))=true:=by rw[DJ,yl];rfl
 clear h h2;have hp:=gr S (cG []) fc hl;refine mn func97 call97 λβ hf=>?_;have Ji:=fQ;exact dm
def Hv(S:ct)(V:Int)(T:L UInt8)(J W U:Int)(P:L UInt8)(Y:L Vl)(D:L Ty)(M:L Nd)(A q a2:Int)(Q:L UInt8)(u:L Vl)(O:L Ty)(G:L Nd)(N n3 I:Int)(B:L UInt8)(H:L Vl)(C:L Ty)(p:L Nd)(k4 E a4:Int)(s4:L UInt8)(pX:L Vl)(mE:L Ty)(pY:L Nd)(h3:0<=n3/\n3<=1152921504606846976)(h4:0<=E/\E<=1152921504606846976)(h:¬n3<1)(h2:¬E<1)(K:n3+E≠W)(hl:S.st.length<=1000000000):je 97 S [.c (aW (.mk 2 V 86 T [])),.c (.sl 7 (aa [.mk J W U P Y D M,.mk A q a2 Q [.mk N n3 I B H C p,.mk k4 E a4 s4 pX mE pY] O G]))] (bq S [cG []]):=by
 have hw:i64.wrap (n3+E)=n3+E:=iy bn bn;have DJ:decide (n3<1)=false:=aap h;have yl:decide (E<1)=false:=aap h2;have hc3:(i64.wrap (n3+E) != W)=true:=by rw[hw];simpa using K
 have hg1:(bif decide (n3<1)then true else decide (E<1))=false:=by rw[DJ,yl];rfl
 clear h h2 K;have hp:=gr S (cG []) fc hl;refine mn func97 call97 λβ hf=>?_;have Lr:=fQ;exact dm
def Kw(S:ct)(N:Int)(A:L UInt8)(u W U:Int)(P:L UInt8)(Y:L Vl)(J:L Ty)(M:L Nd)(K q a2:Int)(I:L UInt8)(V:L Vl)(H:L Ty)(G:L Nd)(D n3 C:Int)(B:L UInt8)(p:L Vl)(cX:L Ty)(eo:L Nd)(k4 E a4:Int)(s4:L UInt8)(pX:L Vl)(mE:L Ty)(pY:L Nd)(h3:0<=n3/\n3<=1152921504606846976)(h4:0<=E/\E<=1152921504606846976)(h:¬(n3<1\/E<1\/n3+E≠W))(O:aM (.mk u W U P Y J M)<=4294967000)(hl:S.st.length<=1000000000):je 97 S [.c (aW (.mk 2 N 86 A [])),.c (.sl 7 (aa [.mk u W U P Y J M,.mk K q a2 I [.mk D n3 C B p cX eo,.mk k4 E a4 s4 pX mE pY] H G]))] (bq S [cG [bA (.mk u n3 U P Y J M) (.mk u E U P Y J M)]]):=by
 have hw:i64.wrap (n3+E)=n3+E:=iy bn bn;have DJ:decide (n3<1)=false:=aap bn;have yl:decide (E<1)=false:=aap bn;have T:(i64.wrap (n3+E) != W)=false:=by rw[hw];simpa using (show n3+E=W by omega)
 have Q:(bif decide (n3<1)then true else decide (E<1))=false:=by rw[DJ,yl];rfl
 have hg2:(bif (bif decide (n3<1)then true else decide (E<1))then true else(i64.wrap (n3+E) != W))=false:=by rw[Q,T];rfl
 have h1:=ja (.mk u n3 U P Y J M) (.mk u E U P Y J M);have h2:=gv [bA (.mk u n3 U P Y J M) (.mk u E U P Y J M)];have hp:=gr S (cG [bA (.mk u n3 U P Y J M) (.mk u E U P Y J M)]) (by simp only[aM]at O;simp only[fm,eD,aM,aO];omega) hl;clear h O;refine mn func97 call97 λβ hf=>?_;exact dm
def NB(S:ct)(W:Int)(T:L UInt8)(J V U:Int)(Q:L UInt8)(Y:L Vl)(D:L Ty)(M:L Nd)(A q a2:Int)(O:L UInt8)(u:L Vl)(N:L Ty)(G:L Nd)(K n3 I:Int)(B:L UInt8)(H:L Vl)(E:L Ty)(C:L Nd)(p n4 P:Int)(s4:L UInt8)(pX:L Vl)(mE:L Ty)(pY:L Nd)(k5 n5 a5:Int)(s5:L UInt8)(lu:L Vl)(iU:L Ty)(lz:L Nd)(h:a2≠P)(hl:S.st.length<=1000000000):je 97 S [.c (aW (.mk 2 W 87 T [])),.c (.sl 7 (aa [.mk J V U Q [.mk A q a2 O (.mk K n3 I B H E C::u) N G,.mk p n4 P s4 (.mk k5 n5 a5 s5 lu iU lz::pX) mE pY] D M]))] (bq S [cG []]):=by
 have hc:(a2 != P)=true:=by simpa using h
 clear h;have hp:=gr S (cG []) fc hl;refine mn func97 call97 λβ hf=>?_;have Ls:=fQ;exact dm
def NC(S:ct)(J:Int)(A:L UInt8)(I H G:Int)(E:L UInt8)(Y:L Vl)(q:L Ty)(p:L Nd)(k2 n2 a2:Int)(s2:L UInt8)(u:L Vl)(bp:L Ty)(bQ:L Nd)(O n3 D:Int)(B:L UInt8)(M:L Vl)(W:L Ty)(V:L Nd)(k4 n4 P:Int)(s4:L UInt8)(pX:L Vl)(mE:L Ty)(pY:L Nd)(Q n5 C:Int)(U:L UInt8)(T:L Vl)(N:L Ty)(K:L Nd)(r:Int)(hq:ah 131 [bH (.mk O n3 D B M W V),bH (.mk Q n5 C U T N K)] (ag r))(h:a2=P)(h2:r≠0)(hl:S.st.length<=1000000000):je 97 S [.c (aW (.mk 2 J 87 A [])),.c (.sl 7 (aa [.mk I H G E [.mk k2 n2 a2 s2 (.mk O n3 D B M W V::u) bp bQ,.mk k4 n4 P s4 (.mk Q n5 C U T N K::pX) mE pY] q p]))] (bq S [cG []]):=by
 have hc:(a2 != P)=false:=by simpa using h
 have yl:(r != 0)=true:=by simpa using h2
 clear h h2;have hp:=gr S (cG []) fc hl;refine mn func97 call97 λβ hf=>?_;have OT:=fQ;exact dm
def ND(S:ct)(I:Int)(A:L UInt8)(H G p:Int)(s1:L UInt8)(Y:L Vl)(aj:L Ty)(aB:L Nd)(k2 q a2:Int)(s2:L UInt8)(u:L Vl)(bp:L Ty)(bQ:L Nd)(O n3 D:Int)(B:L UInt8)(M:L Vl)(W:L Ty)(V:L Nd)(k4 E P:Int)(s4:L UInt8)(pX:L Vl)(mE:L Ty)(pY:L Nd)(Q n5 C:Int)(U:L UInt8)(T:L Vl)(N:L Ty)(K:L Nd)(hq:ah 131 [bH (.mk O n3 D B M W V),bH (.mk Q n5 C U T N K)] (ag 0))(h:a2=P)(hn2:0<=q/\q<=1152921504606846976)(hn4:0<=E/\E<=1152921504606846976)(J:q>1152921504606846976-E)(hl:S.st.length<=1000000000):je 97 S [.c (aW (.mk 2 I 87 A [])),.c (.sl 7 (aa [.mk H G p s1 [.mk k2 q a2 s2 (.mk O n3 D B M W V::u) bp bQ,.mk k4 E P s4 (.mk Q n5 C U T N K::pX) mE pY] aj aB]))] (((11,S):MR)):=by
 have hw:i64.wrap (1152921504606846976-E)=1152921504606846976-E:=iy bn bn;have hc:(a2 != P)=false:=by simpa using h
 have yl:((0:Int) != 0)=false:=rfl;have hg:(bif (a2 != P)then true else((0:Int) != 0))=false:=by rw[hc];rfl
 have hc3:decide (q>i64.wrap (1152921504606846976-E))=true:=by rw[hw];exact aak J
 clear h J;refine mn func97 call97 λβ hf=>?_;exact dm
def NG(S:ct)(nN:Int)(nS:L UInt8)(k1 n1 a1:Int)(s1:L UInt8)(U:L Vl)(aj:L Ty)(aB:L Nd)(A q a2:Int)(T:L UInt8)(u:L Vl)(V:L Ty)(G:L Nd)(O n3 D:Int)(B:L UInt8)(M:L Vl)(Y:L Ty)(W:L Nd)(k4 E P:Int)(s4:L UInt8)(pX:L Vl)(mE:L Ty)(pY:L Nd)(Q n5 C:Int)(N:L UInt8)(K:L Vl)(J:L Ty)(I:L Nd)(hq:ah 131 [bH (.mk O n3 D B M Y W),bH (.mk Q n5 C N K J I)] (ag 0))(h:a2=P)(hn2:0<=q/\q<=1152921504606846976)(hn4:0<=E/\E<=1152921504606846976)(H:¬q>1152921504606846976-E)(p:aM (.mk A q a2 T (.mk O n3 D B M Y W::u) V G)<=8589934000)(hl:S.st.length<=1000000000):je 97 S [.c (aW (.mk 2 nN 87 nS [])),.c (.sl 7 (aa [.mk k1 n1 a1 s1 [.mk A q a2 T (.mk O n3 D B M Y W::u) V G,.mk k4 E P s4 (.mk Q n5 C N K J I::pX) mE pY] aj aB]))] (bq S [cG [.mk A (q+E) a2 T (.mk O n3 D B M Y W::u) V G]]):=by
 have hw:i64.wrap (1152921504606846976-E)=1152921504606846976-E:=iy bn bn;have hc:(a2 != P)=false:=by simpa using h
 have yl:((0:Int) != 0)=false:=rfl;have hg:(bif (a2 != P)then true else((0:Int) != 0))=false:=by rw[hc];rfl
 have Ux:i64.wrap (q+E)=q+E:=iy bn bn;have hc3:decide (q>i64.wrap (1152921504606846976-E))=false:=by rw[hw];exact aap H
 have h2:=gv [.mk A (q+E) a2 T (.mk O n3 D B M Y W::u) V G];have hp:=gr S (cG [.mk A (q+E) a2 T (.mk O n3 D B M Y W::u) V G]) (by simp only[aM,aO]at p;simp only[fm,aM,aO];omega) hl;rw[<- Ux]at h2 hp ⊢;clear h H p Ux;refine mn func97 call97 λβ hf=>?_;exact dm
end Go.Proofs
namespace Go.Proofs
open Go.cK
def Gb:∀(l:L Vl)(k:Vl),cw l k<=l.length
 |[],_=>aaj _
 |x::l,k=>by
  simp only[cw];split
  ·have:=Gb l k;simp only[aac];omega
  ·omega
def N7:∀{l:L Vl}{k:Vl}{i:Nat}{x:Vl},i<cw l k->l[i]?=some x->dR (mD x) k<0
 |[],_,i,x,h,e=>by simp at e
 |y::l,k,i,x,h,e=>by
  simp only[cw]at h;split at h
  ·rename_i A;cases i with
   |zero=>simp at e;subst e;exact A
   |succ i=>simp at e;exact N7 bn e
  ·omega
attribute [local irreducible] AK af bg cn cP dP dR
def Hw(x k y:Vl)(t:Ty)(O:(eC x)[0]?=some y)(hq:ah 82 [bH y,bH k] (ag (dR y k))):ah 149 [bH x,bH k] (ag (dR (mD x) k)):=by
 have D:mD x=y:=by unfold mD;rw[afa,O];rfl
 rw[D];have W:(aa (eC x))[0]?=some (bH y):=by rw[kK,O];rfl
 clear D O;generalize dR y k=r at hq ⊢;obtain⟨J,V,U,P,Y,E,M⟩:=x;obtain⟨A,q,a2,T,u,S,G⟩:=k;obtain⟨Q,n3,N,B,K,I,H⟩:=y;refine qn func149 call149 λβ hf=>?_;exact dq
def abU(H K:Nat)(h:H+K<=4000000000):i64.wrap ((IntKind.u64.wrap (i64.wrap ((H:Nat)+(K:Nat)))).fdiv (2^(min 1 IntKind.u64.bits)))=(((H+K)/2:Nat):Int):=by
 rw[iy (n:=(H:Int)+K) bn bn];have h1:IntKind.u64.wrap ((H:Int)+K)=((H+K:Nat):Int):=by
  rw[IntKind.wrap_u64];omega
 rw[h1];have h2:((H+K:Nat):Int).fdiv (2^(min 1 IntKind.u64.bits))=(((H+K)/2:Nat):Int):=by
  rw[show(min 1 IntKind.u64.bits)=1 from rfl];rw[agF _ bT];omega
 rw[h2,iy bn bn]
def HB(m:L Vl)(k:Vl)(hl:m.length<=1000000000)(hq:∀x∈m,ah 149 [bH x,bH k] (ag (dR (mD x) k)))
  (P:∀(i:Nat) x,cw m k<=i->m[i]?=some x->¬dR (mD x) k<0) :
  ah 148 [.sl 7 (aa m),bH k,.rR 149 []] (.eY [ag (cw m k:Nat),.bool (fB m k)]):=by
 have D:=Gb m k;have U:∀{i:Nat}{x:Vl},i<cw m k->m[i]?=some x->dR (mD x) k<0:=λh e=>N7 h e;have Y:fB m k=match m[cw m k]? with|some x=>decide (dR (mD x) k=0)|none=>false:=rfl
 generalize cw m k=p at D U P Y ⊢;generalize fB m k=fd at Y ⊢;have B:=aG m;obtain⟨A,q,a2,S,u,Q,G⟩:=k;refine qn func148 call148 λβ hf=>?_;refine dn ?_;refine AK.eL (α:=Nat×Nat) (λz=>z.1<=p/\p<=z.2/\z.2<=m.length) (λz=>z.2-z.1)
  (λz=>[(0,.c (.sl 7 (aa m))),(2,.c (.rR 149 [])),(4,.ptr 4 0),(8,.c (ag ((aa m).length:Nat))),(9,.c (ag (z.1:Nat))),(10,.c (ag (z.2:Nat)))])
  (λz=>[(4,[.c (ag A),.c (ag q),.c (ag a2),.c (.str S),.c (.sl 7 (aa u)),.c (.sl 2 (aA Q)),.c (.sl 5 (aH G))])]) (λ_=>[]) [4] (0,(aa m).length)
  ⟨aeE _,by show p<=(aa m).length;omega,by show(aa m).length<=_;omega⟩ ce ⟨Z,trivial⟩ trivial Z Z Z ?_
 rintro⟨H,K⟩ ⟨h1,h2,h3⟩ ih;simp only at h1 h2 h3;by_cases hlt:H<K
 ·have hc:decide (((H:Nat):Int)<((K:Nat):Int))=true:=aak bn;have W:=abU H K bn;obtain⟨x,O⟩:∃x,m[(H+K)/2]?=some x:=⟨_,aea bn⟩
  have V:=hq x (aaB O);have N:(aa m)[(H+K)/2]?=some (bH x):=by rw[kK,O];rfl
  have I := @P ((H+K)/2) x;have E := @U ((H+K)/2) x;clear hq;generalize dR (mD x) (.mk A q a2 S u Q G)=r at V I E;obtain⟨k1,n1,a1,s1,T,aj,aB⟩:=x;by_cases C:r<0
  ·have yl:decide (r<0)=true:=aak C;have hw:i64.wrap ((((H+K)/2:Nat):Int)+1)=(((H+K)/2+1:Nat):Int):=by rw[iy bn bn];omega
   have M:(H+K)/2+1<=p:=by
    rcases afN ((H+K)/2) p with h|h
    ·omega
    ·exact absurd C (I h O)
   repeat' (first|refine sz ?_|refine zc ?_ ?_|(intro h;first|(cases h;done)|rw[h]|skip)|refine uI Z ((H+K)/2) W N Z ?_|refine uC Z V ?_)
   refine AK.fV [(4,4)] [] (env':=[(0,.c (.sl 7 (aa m))),(2,.c (.rR 149 [])),(4,.ptr 4 0),(8,.c (ag ((aa m).length:Nat))),(9,.c (ag (((H+K)/2+1:Nat):Int))),(10,.c (ag ((K:Nat):Int)))])
    (bs':=[(4,[.c (ag A),.c (ag q),.c (ag a2),.c (.str S),.c (.sl 7 (aa u)),.c (.sl 2 (aA Q)),.c (.sl 5 (aH G))])]) (ts':=[]) (us':=[4])
    ⟨⟨_,Z,.inl Z⟩,⟨_,Z,.inl Z⟩,⟨_,Z,⟨_,Z,Z⟩⟩,⟨_,Z,.inl Z⟩,⟨_,Z,.inl (aeb (λz=>AV.c (.int .i64 z)) (by rw[W];exact hw))⟩,⟨_,Z,.inl Z⟩,trivial⟩ ce Z ?_
   exact ih ((H+K)/2+1,K) ⟨by show _<=p;omega,by show p<=_;omega,by show _<=m.length;omega⟩ (by show _-_<K-H;omega)
  ·have yl:decide (r<0)=false:=aap C;have M:p<=(H+K)/2:=by
    rcases afN ((H+K)/2) p with h|h
    ·exact absurd (E h O) C
    ·exact h
   repeat' (first|refine sz ?_|refine zc ?_ ?_|(intro h;first|(cases h;done)|rw[h]|skip)|refine uI Z ((H+K)/2) W N Z ?_|refine uC Z V ?_)
   refine AK.fV [(4,4)] [] (env':=[(0,.c (.sl 7 (aa m))),(2,.c (.rR 149 [])),(4,.ptr 4 0),(8,.c (ag ((aa m).length:Nat))),(9,.c (ag ((H:Nat):Int))),(10,.c (ag (((H+K)/2:Nat):Int)))])
    (bs':=[(4,[.c (ag A),.c (ag q),.c (ag a2),.c (.str S),.c (.sl 7 (aa u)),.c (.sl 2 (aA Q)),.c (.sl 5 (aH G))])]) (ts':=[]) (us':=[4])
    ⟨⟨_,Z,.inl Z⟩,⟨_,Z,.inl Z⟩,⟨_,Z,⟨_,Z,Z⟩⟩,⟨_,Z,.inl Z⟩,⟨_,Z,.inl Z⟩,⟨_,Z,.inl (aeb (λz=>AV.c (.int .i64 z)) W)⟩,trivial⟩ ce Z ?_
   exact ih (H,(H+K)/2) ⟨by show _<=p;omega,by show p<=_;omega,by show _<=m.length;omega⟩ (by show _-_<K-H;omega)
 ·have hc:decide (((H:Nat):Int)<((K:Nat):Int))=false:=aap bn;have he:H=p:=by omega
  subst he;clear ih U P;by_cases hn:H<m.length
  ·have J:decide (((H:Nat):Int)<(((aa m).length:Nat):Int))=true:=aak bn;obtain⟨x,O⟩:∃x,m[H]?=some x:=⟨_,aea hn⟩
   rw[O]at Y;have V:=hq x (aaB O);have N:(aa m)[H]?=some (bH x):=by rw[kK,O];rfl
   clear hq;simp only at Y;subst Y;generalize dR (mD x) (.mk A q a2 S u Q G)=r at V ⊢;obtain⟨k1,n1,a1,s1,T,aj,aB⟩:=x;exact dq
  ·have J:decide (((H:Nat):Int)<(((aa m).length:Nat):Int))=false:=aap bn;rw[afu bn]at Y;simp only at Y;subst Y;clear hq;exact dq
def Kx(m:L Vl)(k:Vl)(E:m.length<=1000000000)(hq:∀x∈m,ah 149 [bH x,bH k] (ag (dR (mD x) k)))
  (C:∀(i:Nat) x,cw m k<=i->m[i]?=some x->¬dR (mD x) k<0) :
  ah 124 [.sl 7 (aa m),bH k] (.eY [ag (cw m k:Nat),.bool (fB m k)]):=by
 have Q:=HB m k E hq C;clear hq C;obtain⟨A,q,a2,T,u,V,G⟩:=k;refine qn func124 call124 λβ hf=>?_;exact dq
end Go.Proofs
