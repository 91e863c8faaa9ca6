/- A part of the proof. -/
import Derived.Test.YtpnpbmbdkinajaaGreatDoorChkCG
import Derived.Test.YtpnpbmbdkinajaaGreatDoorRunAG
set_option linter.all false
set_option maxHeartbeats 0
set_option maxRecDepth 100000
open Go.IntKind Go.Proofs.Tryz
namespace Go.Proofs
open Go.cE
def mX{P:Program}{X:Ctx}{f:FuncId}{n:Nat}{V:lu}{R:Ending->World->Prop}{K:L Item}{env:Env}{σ:St}{ops:tal}{Y:Bool}(id:Nat)(h:AK P X f n V R (.code (.region id ops Y)::K) env σ):AK P X f n V R (.code (.region id ops Y)::K) env σ:=h
def A2{f:FuncId}{n:Nat}{N:lu}{R:Ending->World->Prop}{K:L Item}{env:Env}(S:bM)(l:Ξ)(v:Nat){Y a b m:Nat}{M:Ω}{F:tad}{O:tab}{cells U E J:Φ}(W:au 0 env=some (.ptr 1000000 0))(V:au v env=some (.iI Y 0 7 m))(I:au Y O=some cells)(D:cells=aq (aa l))
  (C:au 1000000 O=some U)(A:U=mC S a b)(B:au a O=some E)(q1:E=aq (sR S.st))(z:au b O=some J)(Q:J=aq (fR S.fr))(T:(!Nat.beq 1000000 Y&&(!Nat.beq a Y && !Nat.beq b Y)))(P:m=l.length)
  (h:CI f n N R K [(0,.ptr 1000000 0),(v,.c (.sl 7 (aa l)))] ⟨[(1000000,mC S a b),(a,aq (sR S.st)),(b,aq (fR S.fr))],[],M⟩):CI f n N R K env ⟨O,F,M⟩:=by
 subst D A q1 Q;have G:∀x,Ym Y 7 (aa l) x x:=λ_ => .inl Z;refine AK.CF Y 7 (aa l) (tail:=[]) (env':=[(0,.ptr 1000000 0),(v,.c (.sl 7 (aa l)))]) (ts':=[]) (bs':=[(1000000,mC S a b),(a,aq (sR S.st)),(b,aq (fR S.fr))]) I (ahq _).symm (iQ _) ⟨⟨_,W,.inl Z⟩,⟨_,V,.inr ⟨_,Z,by rw[aE];exact P,Z⟩⟩,trivial⟩ ⟨⟨_,C,yy G _⟩,⟨_,B,yy G _⟩,⟨_,z,yy G _⟩,trivial⟩ ?_ trivial h;simp only[aiK,List.all_nil,ajy];exact T
attribute [local irreducible] AK ag aZ bS cA de nQ ee bY fB
def UJ(x:Vl):qL 131 (some []) (.iI 1000000 0 7 0::[CV.int .i64 0,CV.sl 7 (aa [x])].map AV.c) (.iI 999999 0 7 1) (some (bD (aa [x]))):=by
 obtain⟨W,U,T,P,Y,H,B⟩:=x;refine de.of func131 Z (λV w=>call131 V w) (ahw Z) [(0,.iI 1000000 0 7 0),(1,.c (ah 0)),(2,.c (.sl 7 (aa [.mk W U T P Y H B])))] ⟨[(1000000,[])],[],[1000000]⟩ Z Z λS=>?_;have hf:=func131
 repeat' (first|refine sz ?_|refine ze ?_ ?_|(intro h;first|(cases h;done)|rw[h]|skip)|refine AK.sY Z ?_ ?_|refine ag.od hX kn Z Z Z Z Z Z Z Z Z Z Z Z Z Z Z [] [] Z Z Z Z Z Z Z Z Z Z (show(0+1)*112<=140737488355328 by decide) Z (m:=1) Z Z ?_|refine ag.sliceB hX kn Z Z Z Z Z Z Z Z (l:=some 0) (h:=none) Z Z (acd _) (ahp _) ?_|(refine uA Z ?_ ?_<;>(try (show(_:Nat)*_<=_;dsimp only))))
 exact AK.afo hX hf Z Z Z
def Rb(S:bM)(T:Int)(p:Δ)(W U V:Int)(P:Δ)(I:Ξ)(H:Γ)(B:Θ)(E Q K:Int)(O:Δ)(Y:Ξ)(u:Γ)(N:Θ)(h:24<=Y.length)(M:S.st.length<=1000000000):jT 117 S [.c (aV (.mk 2 T 57 p [])),.c (.sl 7 (aa [.mk W U V P I H B,.mk E Q K O Y u N]))] (((13,S):MR)):=by
 have D:decide ((((aa Y).length:Nat):Int)>=24):=by rw[aE];exact ace ai
 exact mdm func117 call117
def Rc(S:bM)(A:Int)(p:Δ)(W U T:Int)(P:Δ)(I:Ξ)(H:Γ)(B:Θ)(E Q F:Int)(O:Δ)(Y:Ξ)(N:Γ)(M:Θ)(h:¬24<=Y.length)(u:aG (.mk 10 0 0 [] (.mk W U T P I H B::Y) [] [])<=8589934593)(K:S.st.length<=1000000000):jT 117 S [.c (aV (.mk 2 A 57 p [])),.c (.sl 7 (aa [.mk W U T P I H B,.mk E Q F O Y N M]))] (bg S [.mk 10 0 0 [] (.mk W U T P I H B::Y) [] []]):=by
 have D:decide ((((aa Y).length:Nat):Int)>=24)=false:=by rw[aE];exact acf ai
 have V:=aE Y;have J:=gY S (.mk 10 0 0 [] (.mk W U T P I H B::Y) [] []) u K;clear u;refine mn func117 call117 λC hf=>?_
 repeat' (first|refine pS ?_|refine zc ?_ ?_|(intro h;first|(cases h;done)|rw[h]|skip)|refine uI Z (0) Z (Z) Z ?_|refine uI Z (1) Z (Z) Z ?_|refine uI Z (2) Z (Z) Z ?_|refine xY ?_ (hq:=J)|(refine uA Z ?_ ?_<;>(try (show(_:Nat)*_<=_;dsimp only))))
 show(_:Nat)<=_;simp only[aat,aav];omega;rfl
def Ue(S:bM)(A:Int)(p:Δ)(W U V:Int)(P:Δ)(Y:Ξ)(H:Γ)(B:Θ)(Q:P.length+Y.length<=1000000000)(E:S.st.length<=1000000000):jT 117 S [.c (aV (.mk 2 A 59 p [])),.c (.sl 7 (aa [.mk W U V P Y H B]))] (bg S [aO 4 ((P.length+Y.length:Nat):Int)]):=by
 have T:=aE Y;have q:i64.wrap ((P.length:Int)+((aa Y).length:Nat))=((P.length+Y.length:Nat):Int):=by rw[gW ai ai];omega
 have O:=cR 4 ((P.length+Y.length:Nat):Int);have M:=gY S (aO 4 ((P.length+Y.length:Nat):Int)) (by simp only[gF];omega) E;rw[<- q]at O M ⊢;exact mdm func117 call117
def Rf(S:bM)(T:Int)(p:Δ)(x y:Nd)(E:S.st.length<=1000000000):jT 117 S [.c (aV (.mk 2 T 61 p [x,y])),.c (.sl 7 (aa []))] (bg S [.mk 13 0 0 [] [] [] []]):=by have M:=gY S (.mk 13 0 0 [] [] [] []) bn E;exact mdm func117 call117
def Ui(S:bM)(A:Int)(p:Δ)(V U T:Int)(P:Δ)(Y:Ξ)(H:Γ)(B:Θ)(E Q I:Int)(O:Δ)(W:Ξ)(u:Γ)(N:Θ)(i:Nat)(F:af 135 [.sl 7 (aa W),bz (.mk V U T P Y H B)] (.eK [ah (i:Nat),.bool false]))(M:S.st.length<=1000000000):jT 117 S [.c (aV (.mk 2 A 62 p [])),.c (.sl 7 (aa [.mk V U T P Y H B,.mk E Q I O W u N]))] (bg S [cr []]):=by have K:=gY S (cr []) bn M;refine mn func117 call117 λD hf=>?_;have J:=gI;exact dm
def Uh(S:bM)(A:Int)(p:Δ)(V U T:Int)(P:Δ)(I:Ξ)(H:Γ)(B:Θ)(E K F:Int)(J:Δ)(Y:Ξ)(G:Γ)(D:Θ)(i:Nat)(t:af 135 [.sl 7 (aa Y),bz (.mk V U T P I H B)] (.eK [ah (i:Nat),.bool true]))(x y z:Vl)(W:Γ)(Q n3 M:Int)(O:Δ)(N:Θ)(u:Y[i]?=some (.mk Q n3 M O [y,z] W N))(C:aG z<=8589934000)(q:S.st.length<=1000000000):jT 117 S [.c (aV (.mk 2 A 62 p [])),.c (.sl 7 (aa [.mk V U T P I H B,.mk E K F J Y G D]))] (bg S [cr [z]]):=by
 have r:(aa Y)[i]?=some (bz (.mk Q n3 M O [y,z] W N)):=by rw[lR,u];rfl
 have o:=hJ [z];have m:=gY S (cr [z]) (by simp only[fV,aH];omega) q;clear u C;obtain⟨j,f,d,b,a,nR,sj⟩:=z;exact mdm func117 call117
def Ri(S:bM)(A:Int)(p:Δ)(W U T:Int)(P:Δ)(Y:Ξ)(H:Γ)(B:Θ)(E V F:Int)(Q:Δ)(u:Γ)(O:Θ)(N n3 I:Int)(M:Δ)(K:Γ)(J:Θ)(i:Nat)(hq:af 135 [.sl 7 (aa []),bz (.mk W U T P Y H B)] (.eK [ah (i:Nat),.bool false]))(G:S.st.length<=1000000000):jT 117 S [.c (aV (.mk 2 A 63 p [])),.c (.sl 7 (aa [.mk W U T P Y H B,.mk E V F Q [] u O,.mk N n3 I M [] K J]))] (bg S [.mk 13 0 0 [] ([]) [] []]):=by
 have D:=gY S (.mk 13 0 0 [] ([]) [] []) bn G;refine mn func117 call117 λC hf=>?_
 repeat' (first|refine pS ?_|refine zc ?_ ?_|(intro h;first|(cases h;done)|rw[h]|skip)|refine uI Z (0) Z (Z) Z ?_|refine uI Z (1) Z (Z) Z ?_|refine uI Z (2) Z (Z) Z ?_|refine uC Z hq ?_|refine ag.B5 kn Z Z (lS 7) Z Z (λ_=>⟨_,_,Z,.inr Z,Z⟩) Z Z ?_|refine xY ?_ (hq:=D)|(refine uA Z ?_ ?_<;>(try (show(_:Nat)*_<=_;dsimp only))))
 all_goals rfl
def Rk(S:bM)(V:Int)(p:Δ)(W U T:Int)(P:Δ)(Y:Ξ)(H:Γ)(B:Θ)(E Q F:Int)(O:Δ)(N:Γ)(M:Θ)(K n3 I:Int)(J:Δ)(G:Γ)(D:Θ)(y:Vl)(z:af 135 [.sl 7 (aa []),bz (.mk W U T P Y H B)] (.eK [ah 0,.bool false]))(u:aG (.mk 13 0 0 [] ([aU (.mk W U T P Y H B) y]) [] [])<=8589934593)(C:S.st.length<=1000000000):jT 117 S [.c (aV (.mk 2 V 63 p [])),.c (.sl 7 (aa [.mk W U T P Y H B,.mk E Q F O [y] N M,.mk K n3 I J [] G D]))] (bg S [.mk 13 0 0 [] ([aU (.mk W U T P Y H B) y]) [] []]):=by
 have f:=gY S (.mk 13 0 0 [] ([aU (.mk W U T P Y H B) y]) [] []) u C;have q:=jM (.mk W U T P Y H B) y;have A:=IX (aU (.mk W U T P Y H B) y);clear u;obtain⟨x,n5,t,o,m,j,i⟩:=y;refine mn func117 call117 λd hf=>?_
 repeat' ((fail_if_success (refine mX 23 ?_));first|refine pS ?_|refine zc ?_ ?_|(intro h;first|(cases h;done)|rw[h]|skip)|refine uI Z (0) Z (Z) Z ?_|refine uI Z (1) Z (Z) Z ?_|refine uI Z (2) Z (Z) Z ?_|refine uC Z z ?_|refine ag.B5 kn Z Z (lS 7) Z Z (λ_=>⟨_,_,Z,.inr Z,Z⟩) Z Z ?_|refine uC Z q ?_|refine ag.aac kn Z Z A Z Z Z Z (λ_=>⟨_,_,Z,Z,_,_,Z,.inl Z,_,_,Z,.inr Z,Z⟩) ?_|(refine uA Z ?_ ?_<;>(try (show(_:Nat)*_<=_;dsimp only))))
 refine A2 S ([aU (.mk W U T P Y H B) (.mk x n5 t o m j i)]) 11 Z Z Z Z Z Z Z Z Z Z Z Z ?_;exact dm
def Rj(S:bM)(A:Int)(p:Δ)(W U T:Int)(P:Δ)(Y:Ξ)(H:Γ)(B:Θ)(E V F:Int)(Q:Δ)(O:Γ)(N:Θ)(M n3 I:Int)(K:Δ)(J:Γ)(G:Θ)(x:Vl)(q:Ξ)(pR:q.length<=1000000000)(i:Nat)(z:af 135 [.sl 7 (aa (x::q)),bz (.mk W U T P Y H B)] (.eK [ah (i:Nat),.bool false]))(u:aG (.mk 13 0 0 [] (x::q) [] [])<=8589934593)(D:S.st.length<=1000000000):jT 117 S [.c (aV (.mk 2 A 63 p [])),.c (.sl 7 (aa [.mk W U T P Y H B,.mk E V F Q [] O N,.mk M n3 I K (x::q) J G]))] (bg S [.mk 13 0 0 [] (x::q) [] []]):=by
 have hp:=gY S (.mk 13 0 0 [] (x::q) [] []) u D;have C:=gH x q ai;clear u;obtain⟨y,t,o,m,j,f,d⟩:=x;refine mn func117 call117 λβ hf=>?_
 repeat' ((fail_if_success (refine mX 23 ?_));first|refine pS ?_|refine zc ?_ ?_|(intro h;first|(cases h;done)|rw[h]|skip)|refine uI Z (0) Z (Z) Z ?_|refine uI Z (1) Z (Z) Z ?_|refine uI Z (2) Z (Z) Z ?_|refine uC Z z ?_|refine ag.nJ kn Z Z Z Z Z Z C Z ?_|(refine uA Z ?_ ?_<;>(try (show(_:Nat)*_<=_;dsimp only))))
 refine A2 S (.mk y t o m j f d::q) 11 Z Z Z Z Z Z Z Z Z Z Z Z ?_;exact dm
def Rm(S:bM)(A:Int)(p:Δ)(W U T:Int)(P:Δ)(Y:Ξ)(H:Γ)(B:Θ)(E D F:Int)(C:Δ)(z:Γ)(t:Θ)(o n3 m:Int)(j:Δ)(f:Γ)(d:Θ)(x:Vl)(q:Ξ)(pR:q.length<=1000000000)(y:Vl)(i:Nat)(hi:i<=q.length+1)(ω:¬24<=q.length+1)(hq:af 135 [.sl 7 (aa (x::q)),bz (.mk W U T P Y H B)] (.eK [ah (i:Nat),.bool false]))(u:aG (.mk 13 0 0 [] (((x::q).take i++aU (.mk W U T P Y H B) y::(x::q).drop i)) [] [])<=8589934593)(hl:S.st.length<=1000000000):jT 117 S [.c (aV (.mk 2 A 63 p [])),.c (.sl 7 (aa [.mk W U T P Y H B,.mk E D F C [y] z t,.mk o n3 m j (x::q) f d]))] (bg S [.mk 13 0 0 [] (((x::q).take i++aU (.mk W U T P Y H B) y::(x::q).drop i)) [] []]):=by
 have hp:=gY S (.mk 13 0 0 [] (((x::q).take i++aU (.mk W U T P Y H B) y::(x::q).drop i)) [] []) u hl;have kO:=gH x q ai;have ψ:decide (((q.length+1:Nat):Int)>=24)=false:=acf ai;have NV:=jM (.mk W U T P Y H B) y;have Q:=zY (x::q) (aU (.mk W U T P Y H B) y) i cS (by simpa using hi) ek;have V:(aa ((x::q).take i++aU (.mk W U T P Y H B) y::(x::q).drop i)).length=((x::q).take i++aU (.mk W U T P Y H B) y::(x::q).drop i).length:=aE _;rw[V]at Q;clear V;have TF:(AV.iI 1000000 0 7 (x::q).length::List.map AV.c [CV.int .i64 (i:Nat),CV.sl 7 (aa [aU (.mk W U T P Y H B) y])]) = .iI 1000000 0 7 (q.length+1)::[CV.int .i64 (i:Nat),CV.sl 7 (aa [aU (.mk W U T P Y H B) y])].map AV.c:=rfl;clear u;obtain⟨K,O,N,M,J,I,G⟩:=x;obtain⟨k5,n5,a5,s5,mB,jB,mD⟩:=y;refine mn func117 call117 λβ hf=>?_
 repeat' ((fail_if_success (refine mX 23 ?_));first|refine pS ?_|refine zc ?_ ?_|(intro h;first|(cases h;done)|rw[h]|skip)|refine uI Z (0) Z (Z) Z ?_|refine uI Z (1) Z (Z) Z ?_|refine uI Z (2) Z (Z) Z ?_|refine uC Z hq ?_|refine ag.nJ kn Z Z Z Z Z Z kO Z ?_|refine uC Z NV ?_|refine ag.vH kn Z Z Z Z Z Z Z Z Z Q TF Z ?_|(refine uA Z ?_ ?_<;>(try (show(_:Nat)*_<=_;dsimp only))))
 refine A2 S (((.mk K O N M J I G::q).take i++aU (.mk W U T P Y H B) (.mk k5 n5 a5 s5 mB jB mD)::(.mk K O N M J I G::q).drop i)) 11 Z Z Z Z Z Z Z Z Z Z Z Z ?_;exact dm
def NY(S:bM)(A:Int)(p:Δ)(W U T:Int)(P:Δ)(Y:Ξ)(H:Γ)(B:Θ)(E V F:Int)(Q:Δ)(u:Γ)(O:Θ)(N n3 I:Int)(M:Δ)(K:Γ)(J:Θ)(x:Vl)(q:Ξ)(t:q.length<=1000000000)(y:Vl)(i:Nat)(G:24<=q.length+1)(z:af 135 [.sl 7 (aa (x::q)),bz (.mk W U T P Y H B)] (.eK [ah (i:Nat),.bool false]))(o:S.st.length<=1000000000):jT 117 S [.c (aV (.mk 2 A 63 p [])),.c (.sl 7 (aa [.mk W U T P Y H B,.mk E V F Q [y] u O,.mk N n3 I M (x::q) K J]))] (((13,S):MR)):=by
 have D:=gH x q ai;have C:decide (((q.length+1:Nat):Int)>=24):=ace ai;obtain⟨m,j,f,d,vh,pI,vi⟩:=x;obtain⟨k5,n5,a5,s5,mB,jB,mD⟩:=y;refine mn func117 call117 λβ hf=>?_
 repeat' (first|refine pS ?_|refine zc ?_ ?_|(intro h;first|(cases h;done)|rw[h]|skip)|refine uI Z (0) Z (Z) Z ?_|refine uI Z (1) Z (Z) Z ?_|refine uI Z (2) Z (Z) Z ?_|refine uC Z z ?_|refine ag.nJ kn Z Z Z Z Z Z D Z ?_|(refine uA Z ?_ ?_<;>(try (show(_:Nat)*_<=_;dsimp only))))
 all_goals rfl
def Rh(S:bM)(A:Int)(p:Δ)(V U T:Int)(P:Δ)(Y:Ξ)(H:Γ)(B:Θ)(C F z:Int)(y:Δ)(t:Γ)(o:Θ)(m n3 j:Int)(f:Δ)(d:Γ)(eH:Θ)(x:Vl)(q:Ξ)(pR:q.length<=1000000000)(i:Nat)(hi:i<q.length+1)(hq:af 135 [.sl 7 (aa (x::q)),bz (.mk V U T P Y H B)] (.eK [ah (i:Nat),.bool true]))(u:aG (.mk 13 0 0 [] (((x::q).take i++(x::q).drop (i+1))) [] [])<=8589934593)(hl:S.st.length<=1000000000):jT 117 S [.c (aV (.mk 2 A 63 p [])),.c (.sl 7 (aa [.mk V U T P Y H B,.mk C F z y [] t o,.mk m n3 j f (x::q) d eH]))] (bg S [.mk 13 0 0 [] (((x::q).take i++(x::q).drop (i+1))) [] []]):=by
 have hp:=gY S (.mk 13 0 0 [] (((x::q).take i++(x::q).drop (i+1))) [] []) u hl;have kO:=gH x q ai;have Q:=u9 (x::q) i ek ek;have O:(aa ((x::q).take i++(x::q).drop (i+1))).length=((x::q).take i++(x::q).drop (i+1)).length:=aE _;rw[O]at Q;clear O;have J:i64.wrap ((i:Int)+1)=((i+1:Nat):Int):=by rw[gW ai ai];omega
 have W:(AV.iI 1000000 0 7 (x::q).length::List.map AV.c [CV.int .i64 (i:Nat),CV.int .i64 ((i+1:Nat):Int)]) = .iI 1000000 0 7 (q.length+1)::[CV.int .i64 (i:Nat),CV.int .i64 (i64.wrap ((i:Int)+1))].map AV.c:=by rw[J];rfl
 have ω:((x::q).take i++(x::q).drop (i+1)).length=q.length:=by simp only[acg,ahZ,aih,aat];omega
 clear u;obtain⟨K,N,M,I,G,E,D⟩:=x;refine mn func117 call117 λβ hf=>?_
 repeat' ((fail_if_success (refine mX 23 ?_));first|refine pS ?_|refine zc ?_ ?_|(intro h;first|(cases h;done)|rw[h]|skip)|refine uI Z (0) Z (Z) Z ?_|refine uI Z (1) Z (Z) Z ?_|refine uI Z (2) Z (Z) Z ?_|refine uC Z hq ?_|refine ag.nJ kn Z Z Z Z Z Z kO Z ?_|refine ag.vH kn Z Z Z Z Z Z Z Z Z Q W Z ?_|(refine uA Z ?_ ?_<;>(try (show(_:Nat)*_<=_;dsimp only))))
 refine A2 S (((.mk K N M I G E D::q).take i++(.mk K N M I G E D::q).drop (i+1))) 11 Z Z Z Z Z Z Z Z Z Z Z Z ?_;exact dm
def NX(S:bM)(F:Int)(z:Δ)(W U T:Int)(P:Δ)(Y:Ξ)(H:Γ)(B:Θ)(t o m:Int)(j:Δ)(f:Γ)(d:Θ)(k3 n3 a3:Int)(s3:Δ)(cW:Γ)(eH:Θ)(x:Vl)(q:Ξ)(pR:q.length<=1000000000)(y:Vl)(i:Nat)(hi:i<q.length+1)(hd:0<q.length)(ω:¬24<=q.length)(hq:af 135 [.sl 7 (aa (x::q)),bz (.mk W U T P Y H B)] (.eK [ah (i:Nat),.bool true]))(u:aG (.mk 13 0 0 [] ((((x::q).take i++(x::q).drop (i+1)).take i++aU (.mk W U T P Y H B) y::((x::q).take i++(x::q).drop (i+1)).drop i)) [] [])<=8589934593)(hl:S.st.length<=1000000000):jT 117 S [.c (aV (.mk 2 F 63 z [])),.c (.sl 7 (aa [.mk W U T P Y H B,.mk t o m j [y] f d,.mk k3 n3 a3 s3 (x::q) cW eH]))] (bg S [.mk 13 0 0 [] ((((x::q).take i++(x::q).drop (i+1)).take i++aU (.mk W U T P Y H B) y::((x::q).take i++(x::q).drop (i+1)).drop i)) [] []]):=by
 have hp:=gY S (.mk 13 0 0 [] ((((x::q).take i++(x::q).drop (i+1)).take i++aU (.mk W U T P Y H B) y::((x::q).take i++(x::q).drop (i+1)).drop i)) [] []) u hl;have kO:=gH x q ai;have NV:=jM (.mk W U T P Y H B) y;have C:=u9 (x::q) i ek ek;have A:(aa ((x::q).take i++(x::q).drop (i+1))).length=((x::q).take i++(x::q).drop (i+1)).length:=aE _;rw[A]at C;clear A;have D:i64.wrap ((i:Int)+1)=((i+1:Nat):Int):=by rw[gW ai ai];omega
 have G:(AV.iI 1000000 0 7 (x::q).length::List.map AV.c [CV.int .i64 (i:Nat),CV.int .i64 ((i+1:Nat):Int)]) = .iI 1000000 0 7 (q.length+1)::[CV.int .i64 (i:Nat),CV.int .i64 (i64.wrap ((i:Int)+1))].map AV.c:=by rw[D];rfl
 have E:((x::q).take i++(x::q).drop (i+1)).length=q.length:=by simp only[acg,ahZ,aih,aat];omega
 have ψ:decide (((((x::q).take i++(x::q).drop (i+1)).length:Nat):Int)>=24)=false:=by rw[E];exact acf ai
 have p:=zY ((x::q).take i++(x::q).drop (i+1)) (aU (.mk W U T P Y H B) y) i ai ai ai;have V:(aa (((x::q).take i++(x::q).drop (i+1)).take i++aU (.mk W U T P Y H B) y::((x::q).take i++(x::q).drop (i+1)).drop i)).length=(((x::q).take i++(x::q).drop (i+1)).take i++aU (.mk W U T P Y H B) y::((x::q).take i++(x::q).drop (i+1)).drop i).length:=aE _;rw[V]at p;clear V;have TF:(AV.iI 1000000 0 7 ((x::q).take i++(x::q).drop (i+1)).length::List.map AV.c [CV.int .i64 (i:Nat),CV.sl 7 (aa [aU (.mk W U T P Y H B) y])]) = .iI 1000000 0 7 ((x::q).take i++(x::q).drop (i+1)).length::[CV.int .i64 (i:Nat),CV.sl 7 (aa [aU (.mk W U T P Y H B) y])].map AV.c:=rfl;clear u;obtain⟨K,Q,O,N,M,J,I⟩:=x;obtain⟨k5,n5,a5,s5,mB,jB,mD⟩:=y;refine mn func117 call117 λβ hf=>?_
 repeat' ((fail_if_success (refine mX 23 ?_));first|refine pS ?_|refine zc ?_ ?_|(intro h;first|(cases h;done)|rw[h]|skip)|refine uI Z (0) Z (Z) Z ?_|refine uI Z (1) Z (Z) Z ?_|refine uI Z (2) Z (Z) Z ?_|refine uC Z hq ?_|refine ag.nJ kn Z Z Z Z Z Z kO Z ?_|refine ag.vH kn Z Z Z Z Z Z Z Z Z C G Z ?_|refine uC Z NV ?_|refine ag.vH kn Z Z Z Z Z Z Z Z Z p TF Z ?_|(refine uA Z ?_ ?_<;>(try (show(_:Nat)*_<=_;dsimp only))))
 refine A2 S ((((.mk K Q O N M J I::q).take i++(.mk K Q O N M J I::q).drop (i+1)).take i++aU (.mk W U T P Y H B) (.mk k5 n5 a5 s5 mB jB mD)::((.mk K Q O N M J I::q).take i++(.mk K Q O N M J I::q).drop (i+1)).drop i)) 11 Z Z Z Z Z Z Z Z Z Z Z Z ?_;exact dm
def NW(S:bM)(A:Int)(p:Δ)(W U T:Int)(P:Δ)(Y:Ξ)(H:Γ)(B:Θ)(E Q F:Int)(O:Δ)(N:Γ)(M:Θ)(K n3 I:Int)(G:Δ)(D:Γ)(C:Θ)(x y:Vl)(z:af 135 [.sl 7 (aa [x]),bz (.mk W U T P Y H B)] (.eK [ah 0,.bool true]))(u:aG (.mk 13 0 0 [] [aU (.mk W U T P Y H B) y] [] [])<=8589934593)(q:S.st.length<=1000000000):jT 117 S [.c (aV (.mk 2 A 63 p [])),.c (.sl 7 (aa [.mk W U T P Y H B,.mk E Q F O [y] N M,.mk K n3 I G [x] D C]))] (bg S [.mk 13 0 0 [] [aU (.mk W U T P Y H B) y] [] []]):=by
 have hp:=gY S (.mk 13 0 0 [] [aU (.mk W U T P Y H B) y] [] []) u q;have t:=gH x [] cS;have o:=jM (.mk W U T P Y H B) y;have m:qL 130 (some (bD (aa [x]))) (.iI 1000000 0 7 1::[CV.int .i64 0,CV.int .i64 1].map AV.c) (.iI 999999 0 7 0) (some []):=u9 [x] 0 cS cS;have J:i64.wrap (0+1)=1:=by decide
 have V:(AV.iI 1000000 0 7 1::List.map AV.c [CV.int .i64 0,CV.int .i64 1]) = .iI 1000000 0 7 1::[CV.int .i64 0,CV.int .i64 (i64.wrap (0+1))].map AV.c:=by rw[J]
 have j:=UJ (aU (.mk W U T P Y H B) y);have i:(AV.iI 1000000 0 7 0::List.map AV.c [CV.int .i64 0,CV.sl 7 (aa [aU (.mk W U T P Y H B) y])]) = .iI 1000000 0 7 0::[CV.int .i64 0,CV.sl 7 (aa [aU (.mk W U T P Y H B) y])].map AV.c:=rfl;clear u;obtain⟨k6,n6,a6,s6,vh,pI,vi⟩:=x;obtain⟨f,n5,d,s5,mB,jB,mD⟩:=y;refine mn func117 call117 λβ hf=>?_
 repeat' ((fail_if_success (refine mX 23 ?_));first|refine pS ?_|refine zc ?_ ?_|(intro h;first|(cases h;done)|rw[h]|skip)|refine uI Z (0) Z (Z) Z ?_|refine uI Z (1) Z (Z) Z ?_|refine uI Z (2) Z (Z) Z ?_|refine uC Z z ?_|refine ag.nJ kn Z Z Z Z Z Z t Z ?_|refine ag.vH kn Z Z Z Z Z Z Z Z Z m V Z ?_|refine uC Z o ?_|refine ag.vH kn Z Z Z Z Z Z Z Z Z j i Z ?_|(refine uA Z ?_ ?_<;>(try (show(_:Nat)*_<=_;dsimp only))))
 refine A2 S [aU (.mk W U T P Y H B) (.mk f n5 d s5 mB jB mD)] 11 Z Z Z Z Z Z Z Z Z Z Z Z ?_;exact dm
end Go.Proofs
namespace Go.Proofs
open Go.cE
def nK(c:Int)(st:Ξ)(K:Vl)(g mt:Int):CV := .agg [ah c,.sl 7 (aa st),ah (vK K),ah (vN K),ah (xA K),.str (vS K),.sl 7 (aa (cP K)),.sl 2 (az (Gg K)),.sl 5 (aD (Dz K)),ah g,ah mt]
attribute [local irreducible] AK ag aZ bS cA de
def mCz(S:bM)(b:Nat):Φ:=[.c (ah S.self),.c (ah S.jr),.c (ah S.js),.c (ah S.balance),.c (.sl 7 (aa S.st)),.iI b 0 4 S.fr.length,.c (ah S.bC),.c (ah S.used),.c (ah S.aj),
 .c (ah (vK S.said)),.c (ah (vN S.said)),.c (ah (xA S.said)),.c (.str (vS S.said)),.c (.sl 7 (aa (cP S.said))),.c (.sl 2 (az (Gg S.said))),.c (.sl 5 (aD (Dz S.said)))]
def PE(a b c d g)(code:Θ)(x)(q:Ξ)(u)(hq:q.length<=1000000000)(S:u.st.length<=1000000000)
  (D:cM 83 ⟨a,b,c,d,x::q,[⟨code,0,0,[]⟩],g,0,0,jl⟩ [] (ah 0) u) :
  af 62 [.agg [ah a,ah b,ah c,ah d],.sl 5 (aD code),.sl 7 (aa (x::q)),ah g] (nK 0 u.st jl u.used u.aj):=by
 have T:=gH x q ai;have W:=lG (x::q) ek;have Y:=lG u.st.reverse ac1;rw[acy,ajI]at Y;have V:∀x,Ym 100027 7 (aa u.st) x x:=λ_ => .inl Z;refine qn func62 call62 λU hf=>?_
 repeat' ((fail_if_success (refine mX 3 ?_));first|refine ag.ku hX kn Z Z Z Z Z Z Z Z Z Z Z Z Z Z ?_|refine sz ?_|refine zc ?_ ?_|(intro h;first|(cases h;done)|rw[h]|skip)|refine ag.nJ kn Z Z Z Z Z Z T Z ?_|refine ag.tX kn Z Z Z Z Z Z Z W Z ?_)
 refine AK.gK [(8,8),(3000,20),(3001,14),(3002,18)] [] (env':=[(8,.ptr 8 0),(9,.ptr 3000 0)]) (bs':=[(8,[.c (ah 0),.c (.sl 7 (aa [])),.c (ah 0),.c (ah 0),.c (ah 0),.c (.str []),.c (.sl 7 (aa [])),.c (.sl 2 (az [])),.c (.sl 5 (aD [])),.c (ah 0),.c (ah 0)]),(3000,mC ⟨a,b,c,d,(x::q),[⟨code,0,0,[]⟩],g,0,0,jl⟩ 3001 3002),(3001,aq (sR (x::q))),(3002,aq (fR [⟨code,0,0,[]⟩]))]) (ts':=[]) (us':=[8,3000,3001,3002]) ce ⟨ce,ce,⟨_,_,Z,Z,cO _⟩,⟨_,_,Z,Z,cO _⟩,trivial⟩ Z ?_
 repeat' ((fail_if_success (refine mX 8 ?_));first|refine sz ?_|refine zc ?_ ?_|(intro h;first|(cases h;done)|rw[h]|skip)|refine xY ?_ (hq:=D)|refine ag.tX kn Z Z Z Z Z Z Z Y Z ?_)
 refine AK.CF 100027 7 (aa u.st) (tail:=[]) (env':=[(8,.ptr 8 0),(9,.ptr 3000 0),(10,.c (ah 0)),(11,.ptr 11 0)]) (ts':=[])
  (bs':=[(8,[.c (ah 0),.c (.sl 7 (aa [])),.c (ah 0),.c (ah 0),.c (ah 0),.c (.str []),.c (.sl 7 (aa [])),.c (.sl 2 (az [])),.c (.sl 5 (aD [])),.c (ah 0),.c (ah 0)]),(11,[.c (ah 0),.own .exact 7 [],.c (ah 0),.c (ah 0),.c (ah 0),.c (.str []),.own .exact 7 [],.own .exact 2 [],.own .exact 5 [],.c (ah u.used),.c (ah u.aj)]),(3000,mCz u 200027)]) Z (ahq _).symm (iQ _) ce ⟨⟨_,Z,yy V _⟩,⟨_,Z,yy V _⟩,⟨_,Z,⟨V _,V _,V _,V _,.inr ⟨_,Z,(aE _).symm,Z⟩,yy V _⟩⟩,trivial⟩ Z trivial ?_
 exact dq
def Kd(a b c d g)(code:Θ)(x)(q:Ξ)(u)(hq:q.length<=1000000000)
  (D:cM 83 ⟨a,b,c,d,x::q,[⟨code,0,0,[]⟩],g,0,0,jl⟩ [] (ah 10) u) :
  af 62 [.agg [ah a,ah b,ah c,ah d],.sl 5 (aD code),.sl 7 (aa (x::q)),ah g] (nK 10 [] u.said u.used 0):=by
 have T:=gH x q ai;have Y:=lG (x::q) ek;refine qn func62 call62 λV hf=>?_
 repeat' ((fail_if_success (refine mX 3 ?_));first|refine ag.ku hX kn Z Z Z Z Z Z Z Z Z Z Z Z Z Z ?_|refine sz ?_|refine zc ?_ ?_|(intro h;first|(cases h;done)|rw[h]|skip)|refine ag.nJ kn Z Z Z Z Z Z T Z ?_|refine ag.tX kn Z Z Z Z Z Z Z Y Z ?_)
 refine AK.gK [(8,8),(3000,20),(3001,14),(3002,18)] [] (env':=[(8,.ptr 8 0),(9,.ptr 3000 0)]) (bs':=[(8,[.c (ah 0),.c (.sl 7 (aa [])),.c (ah 0),.c (ah 0),.c (ah 0),.c (.str []),.c (.sl 7 (aa [])),.c (.sl 2 (az [])),.c (.sl 5 (aD [])),.c (ah 0),.c (ah 0)]),(3000,mC ⟨a,b,c,d,(x::q),[⟨code,0,0,[]⟩],g,0,0,jl⟩ 3001 3002),(3001,aq (sR (x::q))),(3002,aq (fR [⟨code,0,0,[]⟩]))]) (ts':=[]) (us':=[8,3000,3001,3002]) ce ⟨ce,ce,⟨_,_,Z,Z,cO _⟩,⟨_,_,Z,Z,cO _⟩,trivial⟩ Z ?_
 repeat' (first|refine sz ?_|refine zc ?_ ?_|(intro h;first|(cases h;done)|rw[h]|skip)|refine xY ?_ (hq:=D))
 all_goals rfl
def Mz(a b c d g e)(code:Θ)(x)(q:Ξ)(u)(hq:q.length<=1000000000)(H:e≠0)(A:e≠10)
  (D:cM 83 ⟨a,b,c,d,x::q,[⟨code,0,0,[]⟩],g,0,0,jl⟩ [] (ah e) u) :
  af 62 [.agg [ah a,ah b,ah c,ah d],.sl 5 (aD code),.sl 7 (aa (x::q)),ah g] (nK e [] jl u.used 0):=by
 have T:=gH x q ai;have Y:=lG (x::q) ek;have G:(e==0)=false:=beq_eq_false_iff_ne.2 H;have W:(e==10)=false:=beq_eq_false_iff_ne.2 A;have B:(e != 0):=by simpa using H
 refine qn func62 call62 λV hf=>?_
 repeat' ((fail_if_success (refine mX 3 ?_));first|refine ag.ku hX kn Z Z Z Z Z Z Z Z Z Z Z Z Z Z ?_|refine sz ?_|refine zc ?_ ?_|(intro h;first|(cases h;done)|rw[h]|skip)|refine ag.nJ kn Z Z Z Z Z Z T Z ?_|refine ag.tX kn Z Z Z Z Z Z Z Y Z ?_)
 refine AK.gK [(8,8),(3000,20),(3001,14),(3002,18)] [] (env':=[(8,.ptr 8 0),(9,.ptr 3000 0)]) (bs':=[(8,[.c (ah 0),.c (.sl 7 (aa [])),.c (ah 0),.c (ah 0),.c (ah 0),.c (.str []),.c (.sl 7 (aa [])),.c (.sl 2 (az [])),.c (.sl 5 (aD [])),.c (ah 0),.c (ah 0)]),(3000,mC ⟨a,b,c,d,(x::q),[⟨code,0,0,[]⟩],g,0,0,jl⟩ 3001 3002),(3001,aq (sR (x::q))),(3002,aq (fR [⟨code,0,0,[]⟩]))]) (ts':=[]) (us':=[8,3000,3001,3002]) ce ⟨ce,ce,⟨_,_,Z,Z,cO _⟩,⟨_,_,Z,Z,cO _⟩,trivial⟩ Z ?_
 repeat' (first|refine sz ?_|refine zc ?_ ?_|(intro h;first|(cases h;done)|rw[h]|skip)|refine xY ?_ (hq:=D))
 all_goals rfl
def PD(a b c d g)(code:Θ)(u)(S:u.st.length<=1000000000)
  (q:cM 83 ⟨a,b,c,d,[],[⟨code,0,0,[]⟩],g,0,0,jl⟩ [] (ah 0) u) :
  af 62 [.agg [ah a,ah b,ah c,ah d],.sl 5 (aD code),.sl 7 (aa ([])),ah g] (nK 0 u.st jl u.used u.aj):=by
 have W:=lG [] (ahp _);have Y:=lG u.st.reverse ac1;rw[acy,ajI]at Y;have V:∀x,Ym 100027 7 (aa u.st) x x:=λ_ => .inl Z;refine qn func62 call62 λU hf=>?_
 repeat' ((fail_if_success (refine mX 2 ?_));first|refine ag.ku hX kn Z Z Z Z Z Z Z Z Z Z Z Z Z Z ?_|refine sz ?_|refine zc ?_ ?_|(intro h;first|(cases h;done)|rw[h]|skip)|refine ag.B5 kn Z Z (lS 7) Z Z (λ_=>⟨_,_,Z,.inr Z,Z⟩) Z Z ?_|refine ag.tX kn Z Z Z Z Z Z Z W Z ?_)
 refine AK.empty 20 4 7 [.c (ah a),.c (ah b),.c (ah c),.c (ah d)] _ Z Z Z Z ?_;refine AK.zU 4 [] _ Z (aiR _).symm Z ?_
 repeat' ((fail_if_success (refine mX 3 ?_));first|refine sz ?_|refine zc ?_ ?_|(intro h;first|(cases h;done)|rw[h]|skip)|refine ag.tX kn Z Z Z Z Z Z Z W Z ?_)
 refine AK.gK [(8,8),(3000,20),(3001,4),(3002,18)] [] (env':=[(8,.ptr 8 0),(9,.ptr 3000 0)]) (bs':=[(8,[.c (ah 0),.c (.sl 7 (aa [])),.c (ah 0),.c (ah 0),.c (ah 0),.c (.str []),.c (.sl 7 (aa [])),.c (.sl 2 (az [])),.c (.sl 5 (aD [])),.c (ah 0),.c (ah 0)]),(3000,mC ⟨a,b,c,d,[],[⟨code,0,0,[]⟩],g,0,0,jl⟩ 3001 3002),(3001,aq (sR [])),(3002,aq (fR [⟨code,0,0,[]⟩]))]) (ts':=[]) (us':=[8,3000,3001,3002]) ce ⟨ce,ce,⟨_,_,Z,Z,cO _⟩,⟨_,_,Z,Z,cO _⟩,trivial⟩ Z ?_
 repeat' ((fail_if_success (refine mX 8 ?_));first|refine sz ?_|refine zc ?_ ?_|(intro h;first|(cases h;done)|rw[h]|skip)|refine xY ?_ (hq:=q)|refine ag.tX kn Z Z Z Z Z Z Z Y Z ?_)
 refine AK.CF 100027 7 (aa u.st) (tail:=[]) (env':=[(8,.ptr 8 0),(9,.ptr 3000 0),(10,.c (ah 0)),(11,.ptr 11 0)]) (ts':=[])
  (bs':=[(8,[.c (ah 0),.c (.sl 7 (aa [])),.c (ah 0),.c (ah 0),.c (ah 0),.c (.str []),.c (.sl 7 (aa [])),.c (.sl 2 (az [])),.c (.sl 5 (aD [])),.c (ah 0),.c (ah 0)]),(11,[.c (ah 0),.own .exact 7 [],.c (ah 0),.c (ah 0),.c (ah 0),.c (.str []),.own .exact 7 [],.own .exact 2 [],.own .exact 5 [],.c (ah u.used),.c (ah u.aj)]),(3000,mCz u 200027)]) Z (ahq _).symm (iQ _) ce ⟨⟨_,Z,yy V _⟩,⟨_,Z,yy V _⟩,⟨_,Z,⟨V _,V _,V _,V _,.inr ⟨_,Z,(aE _).symm,Z⟩,yy V _⟩⟩,trivial⟩ Z trivial ?_
 exact dq
def Kc(a b c d g)(code:Θ)(u)
  (q:cM 83 ⟨a,b,c,d,[],[⟨code,0,0,[]⟩],g,0,0,jl⟩ [] (ah 10) u) :
  af 62 [.agg [ah a,ah b,ah c,ah d],.sl 5 (aD code),.sl 7 (aa ([])),ah g] (nK 10 [] u.said u.used 0):=by
 have Y:=lG [] (ahp _);refine qn func62 call62 λV hf=>?_
 repeat' ((fail_if_success (refine mX 2 ?_));first|refine ag.ku hX kn Z Z Z Z Z Z Z Z Z Z Z Z Z Z ?_|refine sz ?_|refine zc ?_ ?_|(intro h;first|(cases h;done)|rw[h]|skip)|refine ag.B5 kn Z Z (lS 7) Z Z (λ_=>⟨_,_,Z,.inr Z,Z⟩) Z Z ?_|refine ag.tX kn Z Z Z Z Z Z Z Y Z ?_)
 refine AK.empty 20 4 7 [.c (ah a),.c (ah b),.c (ah c),.c (ah d)] _ Z Z Z Z ?_;refine AK.zU 4 [] _ Z (aiR _).symm Z ?_
 repeat' ((fail_if_success (refine mX 3 ?_));first|refine sz ?_|refine zc ?_ ?_|(intro h;first|(cases h;done)|rw[h]|skip)|refine ag.tX kn Z Z Z Z Z Z Z Y Z ?_)
 refine AK.gK [(8,8),(3000,20),(3001,4),(3002,18)] [] (env':=[(8,.ptr 8 0),(9,.ptr 3000 0)]) (bs':=[(8,[.c (ah 0),.c (.sl 7 (aa [])),.c (ah 0),.c (ah 0),.c (ah 0),.c (.str []),.c (.sl 7 (aa [])),.c (.sl 2 (az [])),.c (.sl 5 (aD [])),.c (ah 0),.c (ah 0)]),(3000,mC ⟨a,b,c,d,[],[⟨code,0,0,[]⟩],g,0,0,jl⟩ 3001 3002),(3001,aq (sR [])),(3002,aq (fR [⟨code,0,0,[]⟩]))]) (ts':=[]) (us':=[8,3000,3001,3002]) ce ⟨ce,ce,⟨_,_,Z,Z,cO _⟩,⟨_,_,Z,Z,cO _⟩,trivial⟩ Z ?_
 repeat' (first|refine sz ?_|refine zc ?_ ?_|(intro h;first|(cases h;done)|rw[h]|skip)|refine xY ?_ (hq:=q))
 all_goals rfl
def My(a b c d g e)(code:Θ)(u)(H:e≠0)(A:e≠10)
  (q:cM 83 ⟨a,b,c,d,[],[⟨code,0,0,[]⟩],g,0,0,jl⟩ [] (ah e) u) :
  af 62 [.agg [ah a,ah b,ah c,ah d],.sl 5 (aD code),.sl 7 (aa ([])),ah g] (nK e [] jl u.used 0):=by
 have Y:=lG [] (ahp _);have G:(e==0)=false:=beq_eq_false_iff_ne.2 H;have W:(e==10)=false:=beq_eq_false_iff_ne.2 A;have B:(e != 0):=by simpa using H
 refine qn func62 call62 λV hf=>?_
 repeat' ((fail_if_success (refine mX 2 ?_));first|refine ag.ku hX kn Z Z Z Z Z Z Z Z Z Z Z Z Z Z ?_|refine sz ?_|refine zc ?_ ?_|(intro h;first|(cases h;done)|rw[h]|skip)|refine ag.B5 kn Z Z (lS 7) Z Z (λ_=>⟨_,_,Z,.inr Z,Z⟩) Z Z ?_|refine ag.tX kn Z Z Z Z Z Z Z Y Z ?_)
 refine AK.empty 20 4 7 [.c (ah a),.c (ah b),.c (ah c),.c (ah d)] _ Z Z Z Z ?_;refine AK.zU 4 [] _ Z (aiR _).symm Z ?_
 repeat' ((fail_if_success (refine mX 3 ?_));first|refine sz ?_|refine zc ?_ ?_|(intro h;first|(cases h;done)|rw[h]|skip)|refine ag.tX kn Z Z Z Z Z Z Z Y Z ?_)
 refine AK.gK [(8,8),(3000,20),(3001,4),(3002,18)] [] (env':=[(8,.ptr 8 0),(9,.ptr 3000 0)]) (bs':=[(8,[.c (ah 0),.c (.sl 7 (aa [])),.c (ah 0),.c (ah 0),.c (ah 0),.c (.str []),.c (.sl 7 (aa [])),.c (.sl 2 (az [])),.c (.sl 5 (aD [])),.c (ah 0),.c (ah 0)]),(3000,mC ⟨a,b,c,d,[],[⟨code,0,0,[]⟩],g,0,0,jl⟩ 3001 3002),(3001,aq (sR [])),(3002,aq (fR [⟨code,0,0,[]⟩]))]) (ts':=[]) (us':=[8,3000,3001,3002]) ce ⟨ce,ce,⟨_,_,Z,Z,cO _⟩,⟨_,_,Z,Z,cO _⟩,trivial⟩ Z ?_
 repeat' (first|refine sz ?_|refine zc ?_ ?_|(intro h;first|(cases h;done)|rw[h]|skip)|refine xY ?_ (hq:=q))
 all_goals rfl
end Go.Proofs
namespace Go.Proofs
open Go.cE
def MH(n:Int):Bool:=bif decide (n>=0)then decide (n<=1152921504606846976)else false
def MG(n:Int):Bool:=bif decide (n>=0)then decide (n<12)else false
def qP(a b c d:Int):Bool:=bif (bif (bif MG a then MG b else false)then MH c else false)then MH d else false
attribute [local irreducible] AK ag aZ bS cA de
def LQ(n):af 79 [ah n] (.bool (MH n)):=by
 unfold MH;cases D:decide (n>=0)with
 |false =>
  exact qdq func79 call79
 |true =>
  exact qdq func79 call79
def LR(n):af 80 [ah n] (.bool (MG n)):=by
 unfold MG;cases D:decide (n>=0)with
 |false =>
  exact qdq func80 call80
 |true =>
  exact qdq func80 call80
def F3(a b c d):af 61 [.agg [ah a,ah b,ah c,ah d]] (.bool (qP a b c d)):=by have V:=LR a;have T:=LR b;have B:=LQ c;have Y:=LQ d;unfold qP;generalize MG a=U at *;generalize MG b=C at *;generalize MH c=M at *;generalize MH d=x4 at *;cases U;exact qdq func61 call61;cases C;exact qdq func61 call61;cases M;exact qdq func61 call61;exact qdq func61 call61
def zf:Γ->Ξ->Bool
 |t::s,v::l=>fK t v&&zf s l
 |_,_=>true
def XR{s:Γ}{l:Ξ}{j t v}(Y:s[j]?=some t)(V:l[j]?=some v):zf (s.drop j) (l.drop j)=(fK t v&&zf (s.drop (j+1)) (l.drop (j+1))):=by rw[cT Y,cT V];rfl
attribute [local irreducible] jR fK
def acD(a b c d g n)(I:bE n<=8589934593)(s)(W:bf s<=8589934593)(l)(h:¬((jR n s).2=0/\s.length=l.length/\qP a b c d)) :
  af 48 [.agg [ah a,ah b,ah c,ah d],aV n,.sl 2 (az s),.sl 7 (aa l),ah g] (nK 14 [] jl 0 0):=by
 have O:=xK n s I W;have P:=F3 a b c d;have V:=aY s;have C:=aE l;generalize qP a b c d=U at *;generalize jR n s=r at *;obtain⟨⟨t,f⟩,e⟩:=r;obtain⟨T,S,Q,q,M⟩:=n;simp only at h;by_cases Y:e=0;rotate_left
 ·have G:(e != 0):=by simpa using Y
  clear h P;exact qdq func48 call48
 subst Y;by_cases E:s.length=l.length;rotate_left
 ·have G:((((az s).length:Nat):Int) != (((aa l).length:Nat):Int)):=by rw[aln];omega
  clear h P;exact qdq func48 call48
 have G:((((az s).length:Nat):Int) != (((aa l).length:Nat):Int))=false:=by rw[V,C,E];exact aks _
 cases U with
 |true=>exact absurd ⟨Z,E,Z⟩ h
 |false =>
  clear h;exact qdq func48 call48
def acE(a b c d g n)(B:bE n<=8589934593)(s)(A:bf s<=8589934593)(l)(hv:aH l<=8589934593)(D:(jR n s).2=0)(E:s.length=l.length)(hf:qP a b c d)(I z H G C)
  (Q:zf s l->af 62 [.agg [ah a,ah b,ah c,ah d],.sl 5 (aD (cw n)),.sl 7 (aa l),ah g] (nK I z H G C)) :
  af 48 [.agg [ah a,ah b,ah c,ah d],aV n,.sl 2 (az s),.sl 7 (aa l),ah g] (bif zf s l then nK I z H G C else nK 14 [] jl 0 0):=by
 have x:=xK n s B A;have y:=F3 a b c d;have u:=aY s;have q:=aE l;have z3:=iT l;rw[hf]at y;generalize jR n s=r at *;obtain⟨⟨t,f⟩,e⟩:=r;obtain⟨p,o,m,k4,k5⟩:=n;simp only at D;subst D;have c1:((((az s).length:Nat):Int) != (((aa l).length:Nat):Int))=false:=by rw[u,q,E];exact aks _
 refine qn func48 call48 λβ hf=>?_
 repeat' (first|refine sz ?_|refine zc ?_ ?_|(intro h;first|(cases h;done)|rw[h]|skip)|refine uC Z x ?_|refine uC Z y ?_)
 refine AK.dg (α:=Nat) (λj=>j<=l.length/\zf s l=zf (s.drop j) (l.drop j)) (λj=>l.length-j)
  (λj=>[(38,Υ j),(37,Υ (aa l).length),(36,.c (.sl 7 (aa l))),(2,.c (.sl 2 (az s))),(3,.c (.sl 7 (aa l))),(4,.c (ah g)),(5,.ptr 5 0),(6,.ptr 6 0),(10,.ptr 10 0)])
  (λ_=>[(5,[.c (ah a),.c (ah b),.c (ah c),.c (ah d)]),(6,[.c (ah p),.c (ah o),.c (ah m),.c (.str k4),.c (.sl 5 (aD k5))]),(10,[.c (ah 0),.own .exact 7 [],.c (ah 0),.c (ah 0),.c (ah 0),.c (.str []),.own .exact 7 [],.own .exact 2 [],.own .exact 5 [],.c (ah 0),.c (ah 0)])]) (λ_=>[]) [5,6,10] 0
  ⟨ahp _,Z⟩ ce ⟨Z,Z,Z,trivial⟩ trivial Z Z Z ?_
 rintro j ⟨hj,W⟩ jh;rcases fU l j hj with ⟨v,Y,P⟩|U
 ·have O:=nM Y;have N:=bp Y;obtain⟨t0,V⟩:∃t0,s[j]?=some t0:=⟨_,ahl ai⟩;have M:=cN (acm V);have K:=dV P;have F:=Ib t0 v ai ai;rw[XR V Y]at W;have Yn:=eV Y;have J:=ij V;clear M K Q;obtain⟨x1,x2,x3,x4,x5,x6,x7⟩:=v;obtain⟨y1,y2⟩:=t0;cases S:fK (.mk y1 y2) (.mk x1 x2 x3 x4 x5 x6 x7)with
  |false =>
   rw[S]at F W;rw[ahT]at W;rw[W];clear jh;exact dq
  |true =>
   rw[S]at F W;rw[aiM]at W
   repeat' (first|refine sz ?_|refine zc ?_ ?_|(intro h;first|(cases h;done)|rw[h]|skip)|refine uI Z (j) Z (Yn) Z ?_|refine uI Z (j) Z (J) Z ?_|refine uC Z F ?_)
   exact AK.again (jh (j+1) ⟨N,W⟩ ai) ⟨.inl (dz (i:=j) ai),.inl Z,.inl Z,.inl Z,.inl Z,.inl Z,.inl Z,.inl Z,.inl Z,trivial⟩ ⟨Z,Z,Z,trivial⟩ trivial Z Z Z
 have O:=kP U;have T:zf s l:=by rw[W,U,<- E,aho,E,aho];rfl
 have ω:=Q T;rw[T];clear jh Q;exact dq
end Go.Proofs
