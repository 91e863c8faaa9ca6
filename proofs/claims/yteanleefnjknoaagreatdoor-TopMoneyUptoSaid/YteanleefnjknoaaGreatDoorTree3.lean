/- What row and parse of package value answer. -/
import Derived.Test.YteanleefnjknoaaGreatDoorVal4
import Derived.Test.YteanleefnjknoaaGreatDoorVPar
import Derived.Test.YteanleefnjknoaaGreatDoorChk3
open Go.IntKind
open Go.Proofs.Tryz
set_option linter.defProp false
set_option maxHeartbeats 0
set_option linter.unusedVariables false
set_option linter.unusedSimpArgs false
set_option maxRecDepth 100000
namespace Go.Proofs
open Go.cK
def iV:∀(a:L Vl)(b:L Vl),aa (a++b)=aa a++aa b
 |[],b=>rfl
 |x::a,b=>by simp only[adU,aa,iV a b]
def Uk(x:Nd)(l:L Nd)(t:Ty)(r:L Ty):eW (x::l) (t::r)=if(dV x t).2=true then glue [(dV x t).1] (eW l r)else([],false):=by simp only[eW]
def XA:eW [] []=([],true):=by simp only[eW]
def Ul(acc:L Vl)(x:Vl)(z:L Vl×Bool):glue acc (glue [x] z)=glue (acc++[x]) z:=Um acc [x] z
def ZA(acc:L Vl):glue acc ([],false)=([],false):=rfl
def XB(acc:L Vl):glue acc ([],true)=(acc,true):=by simp[glue]
def K4(x:Nd)(l:L Nd)(t:Ty):eU (x::l) t=((dV x t).1::(eU l t).1,(dV x t).2&&(eU l t).2):=by simp only[eU]
def Oh(t:Ty):eU [] t=([],true):=by simp only[eU]
def K5(T N P:Int)(S:L UInt8)(xs:L Nd)(l:L Nd)(ts:L Ty):ew (.mk T N P S xs::l) ts=(.mk 11 0 0 [] (eW xs ts).1 [] []::(ew l ts).1,((eW xs ts).2&&decide (T=2/\P=28))&&(ew l ts).2):=by simp only[ew]
def Oi(ts:L Ty):ew [] ts=([],true):=by simp only[ew]
def aeh(T N P:Int)(S:L UInt8)(J:L Nd)(ts:L Ty):dV (.mk T N P S J) (.mk 1 ts)=(qe 1,decide (T=2/\P=20/\J.length=0)):=by simp[dV,bS]
def aei(T N P:Int)(S:L UInt8)(J:L Nd)(ts:L Ty):dV (.mk T N P S J) (.mk 2 ts)=(.mk 2 (i64.wrap (22-P)) 0 [] [] [] [],decide (T=2/\(P=21\/P=22)/\J.length=0)):=by simp[dV,bS]
def SL(T Y N P:Int)(V:T=3\/T=4\/T=5\/T=7)(S:L UInt8)(J:L Nd)(ts:L Ty):dV (.mk Y N P S J) (.mk T ts)=(.mk T N 0 [] [] [] [],decide (Y=0)):=by
 rcases V with rfl|rfl|rfl|rfl<;>simp[dV,bS]
def aej(T N P:Int)(S:L UInt8)(J:L Nd)(ts:L Ty):dV (.mk T N P S J) (.mk 6 ts)=(.mk 6 0 0 S [] [] [],decide (T=1)):=by simp[dV,bS]
def abY(N:Int)(S:L UInt8)(J:L Nd)(ts:L Ty):dV (.mk 2 N 27 S J) (.mk 9 ts)=(qe 9,decide (J.length=0)):=by simp[dV,bS]
def abZ(N:Int)(S:L UInt8)(J:L Nd)(ts:L Ty):dV (.mk 2 N 26 S J) (.mk 9 ts)=(.mk 9 0 0 [] (eW J ts).1 [] [],(eW J ts).2):=by simp[dV,bS,au]
def ab0(T N P:Int)(S:L UInt8)(J:L Nd)(ts:L Ty)(h1:¬(T=2/\P=27))(h2:¬(T=2/\P=26)):dV (.mk T N P S J) (.mk 9 ts)=(qe 9,false):=by simp[dV,bS,h1,h2]
def ZB(N:Int)(S:L UInt8)(J:L Nd)(ts:L Ty):dV (.mk 2 N 23 S J) (.mk 11 ts)=(.mk 11 0 0 [] (eW J ts).1 [] [],(eW J ts).2):=by simp[dV,bS,au]
def ZC(T N P:Int)(S:L UInt8)(J:L Nd)(ts:L Ty)(h1:¬(T=2/\P=23)):dV (.mk T N P S J) (.mk 11 ts)=(qe 11,false):=by simp[dV,bS,h1]
def ZD(N:Int)(S:L UInt8)(J:L Nd)(u V:Ty):dV (.mk 2 N 24 S J) (.mk 12 [u,V])=(.mk 12 0 0 [] (eW J [u]).1 [] [],(eW J [u]).2):=by simp[dV,bS,aE,au]
def ZE(N:Int)(S:L UInt8)(J:L Nd)(u V:Ty):dV (.mk 2 N 25 S J) (.mk 12 [u,V])=(.mk 12 1 0 [] (eW J [V]).1 [] [],(eW J [V]).2):=by simp[dV,bS,aE,au]
def ZF(T N P:Int)(S:L UInt8)(J:L Nd)(ts:L Ty)(h1:¬(T=2/\P=24))(h2:¬(T=2/\P=25)):dV (.mk T N P S J) (.mk 12 ts)=(qe 12,false):=by simp[dV,bS,h1,h2]
def ab1(T N P:Int)(S:L UInt8)(J:L Nd)(u:Ty):dV (.mk T N P S J) (.mk 10 [u])=(.mk 10 0 0 [] (eU J u).1 [] [],decide (T=3)&&(eU J u).2):=by simp[dV,bS,aE,au]
def ab2(T N P:Int)(S:L UInt8)(J:L Nd)(ts:L Ty):dV (.mk T N P S J) (.mk 13 ts)=(.mk 13 0 0 [] (ew J ts).1 [] [],decide (T=3)&&(ew J ts).2):=by simp[dV,bS,au]
def aek(T Y N P:Int)(V:T=8\/T=14\/T=15)(S:L UInt8)(J:L Nd)(ts:L Ty):dV (.mk Y N P S J) (.mk T ts)=(qe T,false):=by
 rcases V with rfl|rfl|rfl<;>simp[dV,bS]
attribute [local irreducible] AK af bg cn dV eW eU ew
def bg.weaken{P:Program}{X:Ctx}{f:FuncId}{J:L CV}{r C:CV}(h:∀G v,Rel G r v->Rel G C v)(q:bg P X f J r):bg P X f J C:=by
 unfold bg at q ⊢;refine⟨q.1,λG w vs h1 h2 V=>?_⟩;exact Calls.mono (q.2 G w vs h1 h2 V) λe w' ⟨u,O,I,W,Y⟩=>⟨u,O,I,h O u W,Y⟩
def JB{G:j8}{s t:Nat}{v:Value}(h:Rel G (.sl s []) v):Rel G (.sl t []) v:=by
 rw[Rel]at h ⊢;obtain⟨base,p,V,I,W,Y,_⟩:=h;exact⟨base,p,V,I,W,Y,.inl Z⟩
def XC{G:j8}{s t:Nat}{b:Bool}{v:Value}(h:Rel G (.eY [.sl s [],.bool b]) v):Rel G (.eY [.sl t [],.bool b]) v:=by
 rw[Rel]at h ⊢;obtain⟨vs,I,W,V⟩:=h;refine⟨vs,I,?_,cS⟩;rw[bR]at W ⊢;obtain⟨u,us,P,Y,B⟩:=W;exact⟨u,us,P,JB Y,B⟩
def ael:L Vl×Bool->CV
 |(q,true) => .eY [.sl 7 (aa q),.bool true]
 |(_,false) => .eY [.sl 0 [],.bool false]
def gu(T N P q:Int)(S:L UInt8)(J:L Nd):ah 143 [.int .i64 q,.ip [.int .i64 T,.int .i64 N,.int .i64 P,.str S,.sl 5 (aH J)]] (.bool (decide (T=2/\P=q))):=by
 refine qn func143 call143 λβ hf=>?_
 repeat' (first|refine sz ?_|refine zc ?_ ?_|(intro h;first|(cases h;done)|rw[h]|skip))
 all_goals
  show(_:CV)=_;clear hf;refine aeb CV.bool ?_;rw[aeV]
  (try simp_all)<;>(try omega)
def QW(ts:L Ty)(l:L Nd)(D:l.length<=1099511627776)(J:∀x∈l,∀t∈ts,ah 109 [dg t,aW x] (.eY [bH (dV x t).1,.bool (dV x t).2])) :
  ah 144 [.sl 2 (aA ts),.sl 5 (aH l)] (ael (eW l ts)):=by
 by_cases p:l.length=ts.length;rotate_left
 ·have E:((((aA ts).length:Nat):Int) != (((aH l).length:Nat):Int))=true:=by rw[aZ,bt];simp;omega
  rw[Oj l ts p];refine qn func144 call144 λβ hf=>?_;exact dq
 have E:((((aA ts).length:Nat):Int) != (((aH l).length:Nat):Int))=false:=by rw[aZ,bt];simp;omega
 refine qn func144 call144 λβ hf=>?_
 repeat' (first|refine sz ?_|refine zc ?_ ?_|(intro h;first|(cases h;done)|rw[h]|skip)|(refine uA Z ?_ ?_<;>(try (show(_:Nat)*_<=_;dsimp only))))
 refine AK.fV [] [(6000,(0,none))] (env':=[(17,.c (.int .i64 (0:Nat))),(16,.c (.int .i64 (aH l).length)),(0,.c (.sl 2 (aA ts))),(1,.c (.sl 5 (aH l))),(6,.own (.tok 6000 0) 7 [])])
  (bs':=[]) (ts':=[(6000,0)]) (us':=[6000])
  ce  trivial Z ?_
 refine AK.eL (α:=Nat×L Vl) (λz=>z.1<=l.length/\z.1=z.2.length/\eW l ts=glue z.2 (eW (l.drop z.1) (ts.drop z.1))) (λz=>l.length-z.1)
  (λz=>[(17,.c (.int .i64 z.1)),(16,.c (.int .i64 (aH l).length)),(0,.c (.sl 2 (aA ts))),(1,.c (.sl 5 (aH l))),(6,.own (.tok 6000 0) 7 (aa z.2))]) (λ_=>[]) (λ_=>[(6000,0)]) [6000] (0,[])
  ⟨bn,Z,by rw[XD _ (Gy _ _)];rfl⟩ ce trivial ⟨Z,trivial⟩ Z Z Z ?_
 rintro⟨i,acc⟩ ⟨K,P,N⟩ ih;simp only at K P N;rcases iq l i K with ⟨x,O,C⟩|B
 ·have A:=mT O;have h2:=bD O;obtain⟨t,I⟩:∃t,ts[i]?=some t:=⟨ts[i]' bn,cS⟩
  have hq:=J x C t (aaB I);rw[dZ O,dZ I,Uk]at N;rcases H:dV x t with ⟨⟨V,Q,M,u,W,Y,T⟩,b⟩
  rw[H]at hq N;obtain⟨q,xn,xp,xs,xa⟩:=x;obtain⟨U,us⟩:=t;cases b with
  |false =>
   rw[if_neg cS,ZA]at N;rw[N];clear ih N;have vV:=gA I;have Ep:=eO O;exact dq
  |true =>
   rw[if_pos Z,Ul]at N
   repeat' (first|refine sz ?_|refine zc ?_ ?_|(intro h;first|(cases h;done)|rw[h]|skip)|refine uI Z (i) Z (gA I) Z ?_|refine uI Z (i) Z (eO O) Z ?_|refine uC Z hq ?_|(refine uA Z ?_ ?_<;>(try (show(_:Nat)*_<=_;dsimp only))))
   ·have h1:=aG acc;simp only[aac,aad];omega
   ·have S:aa acc++[bH (.mk V Q M u W Y T)]=aa (acc++[Vl.mk V Q M u W Y T]):=(iV acc [_]).symm;refine AK.fV [] [(6000,(0,some 6000))] (env':=[(17,.c (.int .i64 ((i+1:Nat):Int))),(16,.c (.int .i64 (aH l).length)),(0,.c (.sl 2 (aA ts))),(1,.c (.sl 5 (aH l))),(6,.own (.tok 6000 0) 7 (aa (acc++[Vl.mk V Q M u W Y T])))])
     (bs':=[]) (ts':=[(6000,0)]) (us':=[6000])
     ⟨⟨_,Z,.inl (ku (i:=i) bn)⟩,⟨_,Z,.inl Z⟩,⟨_,Z,.inl Z⟩,⟨_,Z,.inl Z⟩,⟨_,Z,⟨_,Z,.inr ⟨_,_,Z,Z,aeb (AV.own (.tok 6000 1) 7) S⟩⟩⟩,trivial⟩ trivial Z ?_
    exact ih (i+1,acc++[Vl.mk V Q M u W Y T]) ⟨h2,by simp[P],N⟩ Hg
 ·have A:=kr B;have G:eW l ts=(acc,true):=by rw[N,B,p,aex,<- p,aex,XA,XB]
  rw[G];clear ih N;exact dq
def yB(ts:L Ty)(l:L Nd)(E:l.length<=1099511627776)(Y:∀x∈l,∀t∈ts,ah 109 [dg t,aW x] (.eY [bH (dV x t).1,.bool (dV x t).2])) :
  ah 144 [.sl 2 (aA ts),.sl 5 (aH l)] (.eY [.sl 7 (aa (eW l ts).1),.bool (eW l ts).2]):=by
 have h:=QW ts l E Y;have hf:=Gy l ts;rcases C:eW l ts with ⟨q,b⟩
 rw[C]at h hf;cases b with
 |true=>exact h
 |false =>
  obtain rfl:=hf rfl;exact bg.weaken (λG v M=>XC M) h
end Go.Proofs
namespace Go.Proofs
open Go.cK
def K6(l:L Nd)(b:Prop)[Decidable b](h:b↔l.length=0):((((aH l).length:Nat):Int)==0)=decide b:=by
 rw[bt,aeV];simp[h]
def int_eq(a b:Int):(a==b)=decide (a=b):=by rw[aeV];simp
attribute [local irreducible] AK af bg cn dV eW eU ew
def uK:∀(n:Nd)(t:Ty),ig t=false->bM n<=8589934593->bw t<=8589934593->ah 109 [dg t,aW n] (.eY [bH (dV n t).1,.bool (dV n t).2])
 |.mk Y N P S J,.mk T ts,hb,hn,ht=>by
  simp only[bM]at hn;simp only[bw]at ht;have Lb:=gG J;have H:∀x∈J,∀u,ig u=false->bw u<=8589934593->ah 109 [dg u,aW x] (.eY [bH (dV x u).1,.bool (dV x u).2]):=λx O u h1 h2=>uK x u h1 ach h2;have aaY:∀k n p s G,Nd.mk k n p s G∈J->∀y∈G,∀u,ig u=false->bw u<=8589934593->ah 109 [dg u,aW y] (.eY [bH (dV y u).1,.bool (dV y u).2]):=λk n p s G O y hy u h1 h2=>uK y u h1 (by have h3:=eX O;have h4:=eX hy;simp only[bM]at h3;omega) h2;obtain⟨OH,jG⟩:=jk hb;simp only[bS,au]at OH jG;have C:ah 144 [.sl 2 (aA ts),.sl 5 (aH J)] (.eY [.sl 7 (aa (eW J ts).1),.bool (eW J ts).2]) :=
   yB ts J bn λx O u hu=>H x O u (dQ jG hu) (by have:=cL hu;omega)
  by_cases c:T=1
  ·subst c;rw[aeh];by_cases K:Y=2/\P=20
   ·obtain⟨rfl,rfl⟩:=K;have h1:=gu 2 N 20 20 S J;rw[show decide ((2:Int)=2/\(20:Int)=20)=true from rfl]at h1;have e:=K6 J ((2:Int)=2/\(20:Int)=20/\J.length=0) cS;refine qn func109 call109 λβ hf=>?_;refine AK.seq ?_;refine AK.region mixed Z ?_
    repeat' (first|refine so ?_|refine zu ?_ ?_|(intro h;first|(cases h;done)|rw[h]|skip)|(refine uA Z ?_ ?_<;>(try (show(_:Nat)*_<=_;dsimp only))))
    refine AK.freeze 3 Z Z Z Z ?_
    repeat' (first|refine sz ?_|refine zc ?_ ?_|(intro h;first|(cases h;done)|rw[h]|skip)|refine uC Z h1 ?_|(refine uA Z ?_ ?_<;>(try (show(_:Nat)*_<=_;dsimp only))))
    all_goals exact aeb (λb=>CV.eY [bH (qe 1),CV.bool b]) e
   ·have h1:=gu Y N P 20 S J;rw[show decide (Y=2/\P=20)=false from aap K]at h1;rw[show decide (Y=2/\P=20/\J.length=0)=false from aap (λh=>K ⟨h.1,h.2.1⟩)];refine qn func109 call109 λβ hf=>?_;refine AK.seq ?_;refine AK.region mixed Z ?_
    repeat' (first|refine so ?_|refine zu ?_ ?_|(intro h;first|(cases h;done)|rw[h]|skip)|(refine uA Z ?_ ?_<;>(try (show(_:Nat)*_<=_;dsimp only))))
    refine AK.freeze 3 Z Z Z Z ?_;exact dq
  by_cases c:T=2
  ·subst c;rw[aei];by_cases K:Y=2/\P=21
   ·obtain⟨rfl,rfl⟩:=K;have h1:=gu 2 N 21 21 S J;have h2:=gu 2 N 21 22 S J;rw[show decide ((2:Int)=2/\(21:Int)=21)=true from rfl]at h1;rw[show decide ((2:Int)=2/\(21:Int)=22)=false from rfl]at h2;have e:=K6 J ((2:Int)=2/\((21:Int)=21\/(21:Int)=22)/\J.length=0) cS;refine qn func109 call109 λβ hf=>?_;refine AK.seq ?_;refine AK.region mixed Z ?_
    repeat' (first|refine so ?_|refine zu ?_ ?_|(intro h;first|(cases h;done)|rw[h]|skip)|(refine uA Z ?_ ?_<;>(try (show(_:Nat)*_<=_;dsimp only))))
    refine AK.freeze 3 Z Z Z Z ?_
    repeat' (first|refine sz ?_|refine zc ?_ ?_|(intro h;first|(cases h;done)|rw[h]|skip)|refine uC Z h1 ?_|refine uC Z h2 ?_|(refine uA Z ?_ ?_<;>(try (show(_:Nat)*_<=_;dsimp only))))
    all_goals exact aeb (λb=>CV.eY [bH (.mk 2 (i64.wrap (22-21)) 0 [] [] [] []),CV.bool b]) e
   by_cases I:Y=2/\P=22
   ·obtain⟨rfl,rfl⟩:=I;have h1:=gu 2 N 22 21 S J;have h2:=gu 2 N 22 22 S J;rw[show decide ((2:Int)=2/\(22:Int)=21)=false from rfl]at h1;rw[show decide ((2:Int)=2/\(22:Int)=22)=true from rfl]at h2;have e:=K6 J ((2:Int)=2/\((22:Int)=21\/(22:Int)=22)/\J.length=0) cS;refine qn func109 call109 λβ hf=>?_;refine AK.seq ?_;refine AK.region mixed Z ?_
    repeat' (first|refine so ?_|refine zu ?_ ?_|(intro h;first|(cases h;done)|rw[h]|skip)|(refine uA Z ?_ ?_<;>(try (show(_:Nat)*_<=_;dsimp only))))
    refine AK.freeze 3 Z Z Z Z ?_
    repeat' (first|refine sz ?_|refine zc ?_ ?_|(intro h;first|(cases h;done)|rw[h]|skip)|refine uC Z h1 ?_|refine uC Z h2 ?_|(refine uA Z ?_ ?_<;>(try (show(_:Nat)*_<=_;dsimp only))))
    all_goals exact aeb (λb=>CV.eY [bH (.mk 2 (i64.wrap (22-22)) 0 [] [] [] []),CV.bool b]) e
   have h1:=gu Y N P 21 S J;have h2:=gu Y N P 22 S J;rw[aap K]at h1;rw[aap I]at h2;rw[show decide (Y=2/\(P=21\/P=22)/\J.length=0)=false from aap (λh=>h.2.1.elim (λg=>K ⟨h.1,g⟩) (λg=>I ⟨h.1,g⟩))];refine qn func109 call109 λβ hf=>?_;refine AK.seq ?_;refine AK.region mixed Z ?_
   repeat' (first|refine so ?_|refine zu ?_ ?_|(intro h;first|(cases h;done)|rw[h]|skip)|(refine uA Z ?_ ?_<;>(try (show(_:Nat)*_<=_;dsimp only))))
   refine AK.freeze 3 Z Z Z Z ?_;exact dq
  by_cases c:T=3
  ·subst c;rw[SL 3 Y N P bT,<- int_eq];refine qn func109 call109 λβ hf=>?_;refine AK.seq ?_;refine AK.region mixed Z ?_
   repeat' (first|refine so ?_|refine zu ?_ ?_|(intro h;first|(cases h;done)|rw[h]|skip)|(refine uA Z ?_ ?_<;>(try (show(_:Nat)*_<=_;dsimp only))))
   refine AK.freeze 3 Z Z Z Z ?_;exact dq
  by_cases c:T=4
  ·subst c;rw[SL 4 Y N P bT,<- int_eq];refine qn func109 call109 λβ hf=>?_;refine AK.seq ?_;refine AK.region mixed Z ?_
   repeat' (first|refine so ?_|refine zu ?_ ?_|(intro h;first|(cases h;done)|rw[h]|skip)|(refine uA Z ?_ ?_<;>(try (show(_:Nat)*_<=_;dsimp only))))
   refine AK.freeze 3 Z Z Z Z ?_;exact dq
  by_cases c:T=5
  ·subst c;rw[SL 5 Y N P bT,<- int_eq];refine qn func109 call109 λβ hf=>?_;refine AK.seq ?_;refine AK.region mixed Z ?_
   repeat' (first|refine so ?_|refine zu ?_ ?_|(intro h;first|(cases h;done)|rw[h]|skip)|(refine uA Z ?_ ?_<;>(try (show(_:Nat)*_<=_;dsimp only))))
   refine AK.freeze 3 Z Z Z Z ?_;exact dq
  by_cases c:T=7
  ·subst c;rw[SL 7 Y N P bT,<- int_eq];refine qn func109 call109 λβ hf=>?_;refine AK.seq ?_;refine AK.region mixed Z ?_
   repeat' (first|refine so ?_|refine zu ?_ ?_|(intro h;first|(cases h;done)|rw[h]|skip)|(refine uA Z ?_ ?_<;>(try (show(_:Nat)*_<=_;dsimp only))))
   refine AK.freeze 3 Z Z Z Z ?_;exact dq
  by_cases c:T=6
  ·subst c;rw[aej,<- int_eq];refine qn func109 call109 λβ hf=>?_;refine AK.seq ?_;refine AK.region mixed Z ?_
   repeat' (first|refine so ?_|refine zu ?_ ?_|(intro h;first|(cases h;done)|rw[h]|skip)|(refine uA Z ?_ ?_<;>(try (show(_:Nat)*_<=_;dsimp only))))
   refine AK.freeze 3 Z Z Z Z ?_;exact dq
  by_cases c:T=9
  ·subst c;by_cases K:Y=2/\P=27
   ·obtain⟨rfl,rfl⟩:=K;rw[abY];have h1:=gu 2 N 27 27 S J;rw[show decide ((2:Int)=2/\(27:Int)=27)=true from rfl]at h1;have e:=K6 J (J.length=0) Iff.rfl;refine qn func109 call109 λβ hf=>?_;refine AK.seq ?_;refine AK.region mixed Z ?_
    repeat' (first|refine so ?_|refine zu ?_ ?_|(intro h;first|(cases h;done)|rw[h]|skip)|(refine uA Z ?_ ?_<;>(try (show(_:Nat)*_<=_;dsimp only))))
    refine AK.freeze 3 Z Z Z Z ?_
    repeat' (first|refine sz ?_|refine zc ?_ ?_|(intro h;first|(cases h;done)|rw[h]|skip)|refine uC Z h1 ?_|(refine uA Z ?_ ?_<;>(try (show(_:Nat)*_<=_;dsimp only))))
    all_goals exact aeb (λb=>CV.eY [bH (qe 9),CV.bool b]) e
   by_cases I:Y=2/\P=26
   ·obtain⟨rfl,rfl⟩:=I;rw[abZ];have h1:=gu 2 N 26 27 S J;rw[show decide ((2:Int)=2/\(26:Int)=27)=false from rfl]at h1;have h2:=gu 2 N 26 26 S J;rw[show decide ((2:Int)=2/\(26:Int)=26)=true from rfl]at h2;generalize eW J ts=z at C;refine qn func109 call109 λβ hf=>?_;refine AK.seq ?_;refine AK.region mixed Z ?_
    repeat' (first|refine so ?_|refine zu ?_ ?_|(intro h;first|(cases h;done)|rw[h]|skip)|(refine uA Z ?_ ?_<;>(try (show(_:Nat)*_<=_;dsimp only))))
    refine AK.freeze 3 Z Z Z Z ?_;exact dq
   rw[ab0 _ _ _ _ _ _ K I];have h1:=gu Y N P 27 S J;have h2:=gu Y N P 26 S J;rw[aap K]at h1;rw[aap I]at h2;refine qn func109 call109 λβ hf=>?_;refine AK.seq ?_;refine AK.region mixed Z ?_
   repeat' (first|refine so ?_|refine zu ?_ ?_|(intro h;first|(cases h;done)|rw[h]|skip)|(refine uA Z ?_ ?_<;>(try (show(_:Nat)*_<=_;dsimp only))))
   refine AK.freeze 3 Z Z Z Z ?_;exact dq
  by_cases c:T=11
  ·subst c;by_cases K:Y=2/\P=23
   ·obtain⟨rfl,rfl⟩:=K;rw[ZB];have h1:=gu 2 N 23 23 S J;rw[show decide ((2:Int)=2/\(23:Int)=23)=true from rfl]at h1;generalize eW J ts=z at C;refine qn func109 call109 λβ hf=>?_;refine AK.seq ?_;refine AK.region mixed Z ?_
    repeat' (first|refine so ?_|refine zu ?_ ?_|(intro h;first|(cases h;done)|rw[h]|skip)|(refine uA Z ?_ ?_<;>(try (show(_:Nat)*_<=_;dsimp only))))
    refine AK.freeze 3 Z Z Z Z ?_;exact dq
   rw[ZC _ _ _ _ _ _ K];have h1:=gu Y N P 23 S J;rw[aap K]at h1;refine qn func109 call109 λβ hf=>?_;refine AK.seq ?_;refine AK.region mixed Z ?_
   repeat' (first|refine so ?_|refine zu ?_ ?_|(intro h;first|(cases h;done)|rw[h]|skip)|(refine uA Z ?_ ?_<;>(try (show(_:Nat)*_<=_;dsimp only))))
   refine AK.freeze 3 Z Z Z Z ?_;exact dq
  by_cases c:T=12
  ·subst c;obtain⟨u,u',rfl⟩:=CM (show ts.length=2 by(have:arity 12=2:=by decide);omega);by_cases K:Y=2/\P=24
   ·obtain⟨rfl,rfl⟩:=K;rw[ZD];have h1:=gu 2 N 24 24 S J;rw[show decide ((2:Int)=2/\(24:Int)=24)=true from rfl]at h1;have h2:=gu 2 N 24 25 S J;rw[show decide ((2:Int)=2/\(24:Int)=25)=false from rfl]at h2;have hr:=yB [u] J bn λx O w E=>H x O w (dQ jG acf) Vw;generalize eW J [u]=z at hr;refine qn func109 call109 λβ hf=>?_;refine AK.seq ?_;refine AK.region mixed Z ?_
    repeat' (first|refine so ?_|refine zu ?_ ?_|(intro h;first|(cases h;done)|rw[h]|skip)|(refine uA Z ?_ ?_<;>(try (show(_:Nat)*_<=_;dsimp only))))
    refine AK.freeze 3 Z Z Z Z ?_;exact dq
   by_cases I:Y=2/\P=25
   ·obtain⟨rfl,rfl⟩:=I;rw[ZE];have h1:=gu 2 N 25 24 S J;rw[show decide ((2:Int)=2/\(25:Int)=24)=false from rfl]at h1;have h2:=gu 2 N 25 25 S J;rw[show decide ((2:Int)=2/\(25:Int)=25)=true from rfl]at h2;have hr:=yB [u'] J bn λx O w E=>H x O w (dQ jG acf) Vw;generalize eW J [u']=z at hr;refine qn func109 call109 λβ hf=>?_;refine AK.seq ?_;refine AK.region mixed Z ?_
    repeat' (first|refine so ?_|refine zu ?_ ?_|(intro h;first|(cases h;done)|rw[h]|skip)|(refine uA Z ?_ ?_<;>(try (show(_:Nat)*_<=_;dsimp only))))
    refine AK.freeze 3 Z Z Z Z ?_;exact dq
   rw[ZF _ _ _ _ _ _ K I];have h1:=gu Y N P 24 S J;have h2:=gu Y N P 25 S J;rw[aap K]at h1;rw[aap I]at h2;refine qn func109 call109 λβ hf=>?_;refine AK.seq ?_;refine AK.region mixed Z ?_
   repeat' (first|refine so ?_|refine zu ?_ ?_|(intro h;first|(cases h;done)|rw[h]|skip)|(refine uA Z ?_ ?_<;>(try (show(_:Nat)*_<=_;dsimp only))))
   refine AK.freeze 3 Z Z Z Z ?_;exact dq
  by_cases c:T=10
  ·subst c;obtain⟨u,rfl⟩:=Ok (show ts.length=1 by(have:arity 10=1:=by decide);omega);rw[ab1,<- int_eq];have hu:ig u=false:=dQ jG cS;have vI:bw u<=8589934593:=by have:=cL (l:=[u]) (x:=u) cS;omega
   have g1:[u][0]?=some u:=rfl;obtain⟨U,us⟩:=u;refine qn func109 call109 λβ hf=>?_;refine AK.seq ?_;refine AK.region mixed Z ?_
   repeat' (first|refine so ?_|refine zu ?_ ?_|(intro h;first|(cases h;done)|rw[h]|skip)|(refine uA Z ?_ ?_<;>(try (show(_:Nat)*_<=_;dsimp only))))
   refine AK.freeze 3 Z Z Z Z ?_
   repeat' (first|refine sz ?_|refine zc ?_ ?_|(intro h;first|(cases h;done)|rw[h]|skip)|(refine uA Z ?_ ?_<;>(try (show(_:Nat)*_<=_;dsimp only))))
   refine AK.fV [(2,2),(4,4),(6,6)] [(6004,(0,none))] (env':=[(139,.c (.int .i64 (0:Nat))),(138,.c (.int .i64 (aH J).length)),(137,.c (.sl 5 (aH J))),(7,.c (.bool (Y==3))),(2,.ptr 2 0),(4,.ptr 4 0),(6,.ptr 6 0)])
    (bs':=[(2,[.c (.int .i64 10),.c (.sl 2 (aA [.mk U us]))]),(4,[.c (.int .i64 0),.c (.int .i64 0),.c (.int .i64 0),.c (.str []),.own .exact 7 [],.own .exact 2 [],.own .exact 5 []]),(6,[.c (.int .i64 10),.c (.int .i64 0),.c (.int .i64 0),.c (.str []),.own (.tok 6004 0) 7 [],.own .exact 2 [],.own .exact 5 []])]) (ts':=[(6004,0)]) (us':=[2,4,6,6004])
    ce ce Z ?_
   refine AK.eL (α:=Nat×L Vl×Bool) (λz=>z.1<=J.length/\z.1=z.2.1.length/\(eU J (.mk U us)).1=z.2.1++(eU (J.drop z.1) (.mk U us)).1/\((Y==3)&&(eU J (.mk U us)).2)=(z.2.2&&(eU (J.drop z.1) (.mk U us)).2)) (λz=>J.length-z.1)
    (λz=>[(139,.c (.int .i64 z.1)),(138,.c (.int .i64 (aH J).length)),(137,.c (.sl 5 (aH J))),(7,.c (.bool z.2.2)),(2,.ptr 2 0),(4,.ptr 4 0),(6,.ptr 6 0)]) (λz=>[(2,[.c (.int .i64 10),.c (.sl 2 (aA [.mk U us]))]),(4,[.c (.int .i64 0),.c (.int .i64 0),.c (.int .i64 0),.c (.str []),.own .exact 7 [],.own .exact 2 [],.own .exact 5 []]),(6,[.c (.int .i64 10),.c (.int .i64 0),.c (.int .i64 0),.c (.str []),.own (.tok 6004 0) 7 (aa z.2.1),.own .exact 2 [],.own .exact 5 []])]) (λ_=>[(6004,0)]) [2,4,6,6004] (0,[],(Y==3))
    ⟨bn,Z,cS,Z⟩ ce ⟨Z,Z,Z,trivial⟩ ⟨Z,trivial⟩ Z Z Z ?_
   rintro⟨i,acc,okb⟩ ⟨K,D,W,V⟩ ih;simp only at K D W V;rcases iq J i K with ⟨x,O,hm⟩|he
   rotate_left
   ·have hc:=kr he;rw[he,aex,Oh]at W V;simp only[aec,afl]at W V;rw[W,V];clear ih W V;exact dq
   have hc:=mT O;have h2:=bD O;have hq:=H x hm (.mk U us) hu vI;rw[dZ O,K4]at W V;rcases hr:dV x (.mk U us)with ⟨⟨B,A,y3,y4,y5,y6,y7⟩,M⟩
   rw[hr]at hq W V;simp only at hq W V;rw[show ∀(a:L Vl)(b:Vl)(c:L Vl),a++b::c=a++[b]++c from λa b c=>by simp]at W;obtain⟨xk,xn,xp,xs,G⟩:=x;cases okb with
   |false =>
    repeat' (first|refine sz ?_|refine zc ?_ ?_|(intro h;first|(cases h;done)|rw[h]|skip)|refine uI Z (i) Z (eO O) Z ?_|refine uI Z (0) Z (gA g1) Z ?_|refine uC Z hq ?_|(refine uA Z ?_ ?_<;>(try (show(_:Nat)*_<=_;dsimp only))))
    ·have h1:=aG acc;simp only[aac,aad];omega
    ·have Q:aa acc++[bH (Vl.mk B A y3 y4 y5 y6 y7)]=aa (acc++[(Vl.mk B A y3 y4 y5 y6 y7)]):=(iV acc [_]).symm;refine AK.fV [(2,2),(4,4),(6,6)] [(6004,(0,some 6004))] (env':=[(139,.c (.int .i64 ((i+1:Nat):Int))),(138,.c (.int .i64 (aH J).length)),(137,.c (.sl 5 (aH J))),(7,.c (.bool false)),(2,.ptr 2 0),(4,.ptr 4 0),(6,.ptr 6 0)])
      (bs':=[(2,[.c (.int .i64 10),.c (.sl 2 (aA [.mk U us]))]),(4,[.c (.int .i64 0),.c (.int .i64 0),.c (.int .i64 0),.c (.str []),.own .exact 7 [],.own .exact 2 [],.own .exact 5 []]),(6,[.c (.int .i64 10),.c (.int .i64 0),.c (.int .i64 0),.c (.str []),.own (.tok 6004 0) 7 (aa (acc++[(Vl.mk B A y3 y4 y5 y6 y7)])),.own .exact 2 [],.own .exact 5 []])]) (ts':=[(6004,0)]) (us':=[2,4,6,6004])
      ⟨⟨_,Z,.inl (ku (i:=i) bn)⟩,⟨_,Z,.inl Z⟩,⟨_,Z,.inl Z⟩,⟨_,Z,.inl Z⟩,⟨_,Z,⟨_,Z,Z⟩⟩,⟨_,Z,⟨_,Z,Z⟩⟩,⟨_,Z,⟨_,Z,Z⟩⟩,trivial⟩ ⟨ce,ce,⟨_,_,Z,Z,⟨_,_,Z,.inl Z,⟨_,_,Z,.inl Z,⟨_,_,Z,.inl Z,⟨_,_,Z,.inl Z,⟨_,_,Z,⟨_,Z,.inr ⟨_,_,Z,Z,aeb (AV.own (.tok 6004 1) 7) Q⟩⟩,ce⟩⟩⟩⟩⟩⟩,trivial⟩ Z ?_
     exact ih (i+1,acc++[(Vl.mk B A y3 y4 y5 y6 y7)],false) ⟨h2,adj,W,adu⟩ fo
   |true =>
    repeat' (first|refine sz ?_|refine zc ?_ ?_|(intro h;first|(cases h;done)|rw[h]|skip)|refine uI Z (i) Z (eO O) Z ?_|refine uI Z (0) Z (gA g1) Z ?_|refine uC Z hq ?_|(refine uA Z ?_ ?_<;>(try (show(_:Nat)*_<=_;dsimp only))))
    ·have h1:=aG acc;simp only[aac,aad];omega
    ·have Q:aa acc++[bH (Vl.mk B A y3 y4 y5 y6 y7)]=aa (acc++[(Vl.mk B A y3 y4 y5 y6 y7)]):=(iV acc [_]).symm;refine AK.fV [(2,2),(4,4),(6,6)] [(6004,(0,some 6004))] (env':=[(139,.c (.int .i64 ((i+1:Nat):Int))),(138,.c (.int .i64 (aH J).length)),(137,.c (.sl 5 (aH J))),(7,.c (.bool M)),(2,.ptr 2 0),(4,.ptr 4 0),(6,.ptr 6 0)])
      (bs':=[(2,[.c (.int .i64 10),.c (.sl 2 (aA [.mk U us]))]),(4,[.c (.int .i64 0),.c (.int .i64 0),.c (.int .i64 0),.c (.str []),.own .exact 7 [],.own .exact 2 [],.own .exact 5 []]),(6,[.c (.int .i64 10),.c (.int .i64 0),.c (.int .i64 0),.c (.str []),.own (.tok 6004 0) 7 (aa (acc++[(Vl.mk B A y3 y4 y5 y6 y7)])),.own .exact 2 [],.own .exact 5 []])]) (ts':=[(6004,0)]) (us':=[2,4,6,6004])
      ⟨⟨_,Z,.inl (ku (i:=i) bn)⟩,⟨_,Z,.inl Z⟩,⟨_,Z,.inl Z⟩,⟨_,Z,.inl Z⟩,⟨_,Z,⟨_,Z,Z⟩⟩,⟨_,Z,⟨_,Z,Z⟩⟩,⟨_,Z,⟨_,Z,Z⟩⟩,trivial⟩ ⟨ce,ce,⟨_,_,Z,Z,⟨_,_,Z,.inl Z,⟨_,_,Z,.inl Z,⟨_,_,Z,.inl Z,⟨_,_,Z,.inl Z,⟨_,_,Z,⟨_,Z,.inr ⟨_,_,Z,Z,aeb (AV.own (.tok 6004 1) 7) Q⟩⟩,ce⟩⟩⟩⟩⟩⟩,trivial⟩ Z ?_
     exact ih (i+1,acc++[(Vl.mk B A y3 y4 y5 y6 y7)],M) ⟨h2,adj,W,adu⟩ fo
  by_cases c:T=13
  ·subst c;rw[ab2,<- int_eq];refine qn func109 call109 λβ hf=>?_;refine AK.seq ?_;refine AK.region mixed Z ?_
   repeat' (first|refine so ?_|refine zu ?_ ?_|(intro h;first|(cases h;done)|rw[h]|skip)|(refine uA Z ?_ ?_<;>(try (show(_:Nat)*_<=_;dsimp only))))
   refine AK.freeze 3 Z Z Z Z ?_
   repeat' (first|refine sz ?_|refine zc ?_ ?_|(intro h;first|(cases h;done)|rw[h]|skip)|(refine uA Z ?_ ?_<;>(try (show(_:Nat)*_<=_;dsimp only))))
   refine AK.fV [(2,2),(4,4),(6,6)] [(6004,(0,none))] (env':=[(171,.c (.int .i64 (0:Nat))),(170,.c (.int .i64 (aH J).length)),(169,.c (.sl 5 (aH J))),(7,.c (.bool (Y==3))),(2,.ptr 2 0),(4,.ptr 4 0),(6,.ptr 6 0)])
    (bs':=[(2,[.c (.int .i64 13),.c (.sl 2 (aA ts))]),(4,[.c (.int .i64 0),.c (.int .i64 0),.c (.int .i64 0),.c (.str []),.own .exact 7 [],.own .exact 2 [],.own .exact 5 []]),(6,[.c (.int .i64 13),.c (.int .i64 0),.c (.int .i64 0),.c (.str []),.own (.tok 6004 0) 7 [],.own .exact 2 [],.own .exact 5 []])]) (ts':=[(6004,0)]) (us':=[2,4,6,6004])
    ce ce Z ?_
   refine AK.eL (α:=Nat×L Vl×Bool) (λz=>z.1<=J.length/\z.1=z.2.1.length/\(ew J ts).1=z.2.1++(ew (J.drop z.1) ts).1/\((Y==3)&&(ew J ts).2)=(z.2.2&&(ew (J.drop z.1) ts).2)) (λz=>J.length-z.1)
    (λz=>[(171,.c (.int .i64 z.1)),(170,.c (.int .i64 (aH J).length)),(169,.c (.sl 5 (aH J))),(7,.c (.bool z.2.2)),(2,.ptr 2 0),(4,.ptr 4 0),(6,.ptr 6 0)]) (λz=>[(2,[.c (.int .i64 13),.c (.sl 2 (aA ts))]),(4,[.c (.int .i64 0),.c (.int .i64 0),.c (.int .i64 0),.c (.str []),.own .exact 7 [],.own .exact 2 [],.own .exact 5 []]),(6,[.c (.int .i64 13),.c (.int .i64 0),.c (.int .i64 0),.c (.str []),.own (.tok 6004 0) 7 (aa z.2.1),.own .exact 2 [],.own .exact 5 []])]) (λ_=>[(6004,0)]) [2,4,6,6004] (0,[],(Y==3))
    ⟨bn,Z,cS,Z⟩ ce ⟨Z,Z,Z,trivial⟩ ⟨Z,trivial⟩ Z Z Z ?_
   rintro⟨i,acc,okb⟩ ⟨K,D,W,V⟩ ih;simp only at K D W V;rcases iq J i K with ⟨x,O,hm⟩|he
   rotate_left
   ·have hc:=kr he;rw[he,aex,Oi]at W V;simp only[aec,afl]at W V;rw[W,V];clear ih W V;exact dq
   have hc:=mT O;have h2:=bD O;obtain⟨xk,xn,xp,xs,G⟩:=x;have hxs:=eX hm;simp only[bM]at hxs;have XW:=gG G;have hq:=yB ts G bn λy hy u hu=>aaY xk xn xp xs G hm y hy u (dQ jG hu) (by have:=cL hu;omega);rw[dZ O,K5]at W V;rcases hr:eW G ts with ⟨q,M⟩
   rw[hr]at hq W V;simp only at hq W V;rw[show ∀(a:L Vl)(b:Vl)(c:L Vl),a++b::c=a++[b]++c from λa b c=>by simp]at W;cases okb with
   |false =>
    repeat' (first|refine sz ?_|refine zc ?_ ?_|(intro h;first|(cases h;done)|rw[h]|skip)|refine uI Z (i) Z (eO O) Z ?_|refine uC Z hq ?_|(refine uA Z ?_ ?_<;>(try (show(_:Nat)*_<=_;dsimp only))))
    ·have h1:=aG acc;simp only[aac,aad];omega
    ·have Q:aa acc++[bH (Vl.mk 11 0 0 [] q [] [])]=aa (acc++[(Vl.mk 11 0 0 [] q [] [])]):=(iV acc [_]).symm;refine AK.fV [(2,2),(4,4),(6,6)] [(6004,(0,some 6004))] (env':=[(171,.c (.int .i64 ((i+1:Nat):Int))),(170,.c (.int .i64 (aH J).length)),(169,.c (.sl 5 (aH J))),(7,.c (.bool false)),(2,.ptr 2 0),(4,.ptr 4 0),(6,.ptr 6 0)])
      (bs':=[(2,[.c (.int .i64 13),.c (.sl 2 (aA ts))]),(4,[.c (.int .i64 0),.c (.int .i64 0),.c (.int .i64 0),.c (.str []),.own .exact 7 [],.own .exact 2 [],.own .exact 5 []]),(6,[.c (.int .i64 13),.c (.int .i64 0),.c (.int .i64 0),.c (.str []),.own (.tok 6004 0) 7 (aa (acc++[(Vl.mk 11 0 0 [] q [] [])])),.own .exact 2 [],.own .exact 5 []])]) (ts':=[(6004,0)]) (us':=[2,4,6,6004])
      ⟨⟨_,Z,.inl (ku (i:=i) bn)⟩,⟨_,Z,.inl Z⟩,⟨_,Z,.inl Z⟩,⟨_,Z,.inl Z⟩,⟨_,Z,⟨_,Z,Z⟩⟩,⟨_,Z,⟨_,Z,Z⟩⟩,⟨_,Z,⟨_,Z,Z⟩⟩,trivial⟩ ⟨ce,ce,⟨_,_,Z,Z,⟨_,_,Z,.inl Z,⟨_,_,Z,.inl Z,⟨_,_,Z,.inl Z,⟨_,_,Z,.inl Z,⟨_,_,Z,⟨_,Z,.inr ⟨_,_,Z,Z,aeb (AV.own (.tok 6004 1) 7) Q⟩⟩,ce⟩⟩⟩⟩⟩⟩,trivial⟩ Z ?_
     exact adD
   |true =>
    cases M with
    |false =>
     repeat' (first|refine sz ?_|refine zc ?_ ?_|(intro h;first|(cases h;done)|rw[h]|skip)|refine uI Z (i) Z (eO O) Z ?_|refine uC Z hq ?_|(refine uA Z ?_ ?_<;>(try (show(_:Nat)*_<=_;dsimp only))))
     ·have h1:=aG acc;simp only[aac,aad];omega
     ·have Q:aa acc++[bH (Vl.mk 11 0 0 [] q [] [])]=aa (acc++[(Vl.mk 11 0 0 [] q [] [])]):=(iV acc [_]).symm;refine AK.fV [(2,2),(4,4),(6,6)] [(6004,(0,some 6004))] (env':=[(171,.c (.int .i64 ((i+1:Nat):Int))),(170,.c (.int .i64 (aH J).length)),(169,.c (.sl 5 (aH J))),(7,.c (.bool false)),(2,.ptr 2 0),(4,.ptr 4 0),(6,.ptr 6 0)])
       (bs':=[(2,[.c (.int .i64 13),.c (.sl 2 (aA ts))]),(4,[.c (.int .i64 0),.c (.int .i64 0),.c (.int .i64 0),.c (.str []),.own .exact 7 [],.own .exact 2 [],.own .exact 5 []]),(6,[.c (.int .i64 13),.c (.int .i64 0),.c (.int .i64 0),.c (.str []),.own (.tok 6004 0) 7 (aa (acc++[(Vl.mk 11 0 0 [] q [] [])])),.own .exact 2 [],.own .exact 5 []])]) (ts':=[(6004,0)]) (us':=[2,4,6,6004])
       ⟨⟨_,Z,.inl (ku (i:=i) bn)⟩,⟨_,Z,.inl Z⟩,⟨_,Z,.inl Z⟩,⟨_,Z,.inl Z⟩,⟨_,Z,⟨_,Z,Z⟩⟩,⟨_,Z,⟨_,Z,Z⟩⟩,⟨_,Z,⟨_,Z,Z⟩⟩,trivial⟩ ⟨ce,ce,⟨_,_,Z,Z,⟨_,_,Z,.inl Z,⟨_,_,Z,.inl Z,⟨_,_,Z,.inl Z,⟨_,_,Z,.inl Z,⟨_,_,Z,⟨_,Z,.inr ⟨_,_,Z,Z,aeb (AV.own (.tok 6004 1) 7) Q⟩⟩,ce⟩⟩⟩⟩⟩⟩,trivial⟩ Z ?_
      exact adD
    |true =>
     by_cases k2:xk=2;rotate_left
     ·have e2:(xk==2)=false:=by simpa using k2
      have hb':((Y==3)&&(ew J ts).2)=(false&&(ew (J.drop (i+1)) ts).2):=by rw[V];simp[k2]
      repeat' (first|refine sz ?_|refine zc ?_ ?_|(intro h;first|(cases h;done)|rw[h]|skip)|refine uI Z (i) Z (eO O) Z ?_|refine uC Z hq ?_|(refine uA Z ?_ ?_<;>(try (show(_:Nat)*_<=_;dsimp only))))
      ·have h1:=aG acc;simp only[aac,aad];omega
      ·have Q:aa acc++[bH (Vl.mk 11 0 0 [] q [] [])]=aa (acc++[(Vl.mk 11 0 0 [] q [] [])]):=(iV acc [_]).symm;refine AK.fV [(2,2),(4,4),(6,6)] [(6004,(0,some 6004))] (env':=[(171,.c (.int .i64 ((i+1:Nat):Int))),(170,.c (.int .i64 (aH J).length)),(169,.c (.sl 5 (aH J))),(7,.c (.bool false)),(2,.ptr 2 0),(4,.ptr 4 0),(6,.ptr 6 0)])
        (bs':=[(2,[.c (.int .i64 13),.c (.sl 2 (aA ts))]),(4,[.c (.int .i64 0),.c (.int .i64 0),.c (.int .i64 0),.c (.str []),.own .exact 7 [],.own .exact 2 [],.own .exact 5 []]),(6,[.c (.int .i64 13),.c (.int .i64 0),.c (.int .i64 0),.c (.str []),.own (.tok 6004 0) 7 (aa (acc++[(Vl.mk 11 0 0 [] q [] [])])),.own .exact 2 [],.own .exact 5 []])]) (ts':=[(6004,0)]) (us':=[2,4,6,6004])
        ⟨⟨_,Z,.inl (ku (i:=i) bn)⟩,⟨_,Z,.inl Z⟩,⟨_,Z,.inl Z⟩,⟨_,Z,.inl Z⟩,⟨_,Z,⟨_,Z,Z⟩⟩,⟨_,Z,⟨_,Z,Z⟩⟩,⟨_,Z,⟨_,Z,Z⟩⟩,trivial⟩ ⟨ce,ce,⟨_,_,Z,Z,⟨_,_,Z,.inl Z,⟨_,_,Z,.inl Z,⟨_,_,Z,.inl Z,⟨_,_,Z,.inl Z,⟨_,_,Z,⟨_,Z,.inr ⟨_,_,Z,Z,aeb (AV.own (.tok 6004 1) 7) Q⟩⟩,ce⟩⟩⟩⟩⟩⟩,trivial⟩ Z ?_
       exact ih (i+1,acc++[(Vl.mk 11 0 0 [] q [] [])],false) ⟨h2,adj,W,hb'⟩ fo
     subst k2;have hb':((Y==3)&&(ew J ts).2)=((xp==28)&&(ew (J.drop (i+1)) ts).2):=by rw[V,int_eq];simp
     repeat' (first|refine sz ?_|refine zc ?_ ?_|(intro h;first|(cases h;done)|rw[h]|skip)|refine uI Z (i) Z (eO O) Z ?_|refine uC Z hq ?_|(refine uA Z ?_ ?_<;>(try (show(_:Nat)*_<=_;dsimp only))))
     ·have h1:=aG acc;simp only[aac,aad];omega
     ·have Q:aa acc++[bH (Vl.mk 11 0 0 [] q [] [])]=aa (acc++[(Vl.mk 11 0 0 [] q [] [])]):=(iV acc [_]).symm;refine AK.fV [(2,2),(4,4),(6,6)] [(6004,(0,some 6004))] (env':=[(171,.c (.int .i64 ((i+1:Nat):Int))),(170,.c (.int .i64 (aH J).length)),(169,.c (.sl 5 (aH J))),(7,.c (.bool (xp==28))),(2,.ptr 2 0),(4,.ptr 4 0),(6,.ptr 6 0)])
       (bs':=[(2,[.c (.int .i64 13),.c (.sl 2 (aA ts))]),(4,[.c (.int .i64 0),.c (.int .i64 0),.c (.int .i64 0),.c (.str []),.own .exact 7 [],.own .exact 2 [],.own .exact 5 []]),(6,[.c (.int .i64 13),.c (.int .i64 0),.c (.int .i64 0),.c (.str []),.own (.tok 6004 0) 7 (aa (acc++[(Vl.mk 11 0 0 [] q [] [])])),.own .exact 2 [],.own .exact 5 []])]) (ts':=[(6004,0)]) (us':=[2,4,6,6004])
       ⟨⟨_,Z,.inl (ku (i:=i) bn)⟩,⟨_,Z,.inl Z⟩,⟨_,Z,.inl Z⟩,⟨_,Z,.inl Z⟩,⟨_,Z,⟨_,Z,Z⟩⟩,⟨_,Z,⟨_,Z,Z⟩⟩,⟨_,Z,⟨_,Z,Z⟩⟩,trivial⟩ ⟨ce,ce,⟨_,_,Z,Z,⟨_,_,Z,.inl Z,⟨_,_,Z,.inl Z,⟨_,_,Z,.inl Z,⟨_,_,Z,.inl Z,⟨_,_,Z,⟨_,Z,.inr ⟨_,_,Z,Z,aeb (AV.own (.tok 6004 1) 7) Q⟩⟩,ce⟩⟩⟩⟩⟩⟩,trivial⟩ Z ?_
      exact ih (i+1,acc++[(Vl.mk 11 0 0 [] q [] [])],(xp==28)) ⟨h2,adj,W,hb'⟩ fo
  have hT:T=8\/T=14\/T=15:=by have:=Ol OH;omega
  rw[aek T Y N P hT];rcases hT with rfl|rfl|rfl
  ·refine qn func109 call109 λβ hf=>?_;refine AK.seq ?_;refine AK.region mixed Z ?_
   repeat' (first|refine so ?_|refine zu ?_ ?_|(intro h;first|(cases h;done)|rw[h]|skip)|(refine uA Z ?_ ?_<;>(try (show(_:Nat)*_<=_;dsimp only))))
   refine AK.freeze 3 Z Z Z Z ?_;exact dq
  ·refine qn func109 call109 λβ hf=>?_;refine AK.seq ?_;refine AK.region mixed Z ?_
   repeat' (first|refine so ?_|refine zu ?_ ?_|(intro h;first|(cases h;done)|rw[h]|skip)|(refine uA Z ?_ ?_<;>(try (show(_:Nat)*_<=_;dsimp only))))
   refine AK.freeze 3 Z Z Z Z ?_;exact dq
  ·refine qn func109 call109 λβ hf=>?_;refine AK.seq ?_;refine AK.region mixed Z ?_
   repeat' (first|refine so ?_|refine zu ?_ ?_|(intro h;first|(cases h;done)|rw[h]|skip)|(refine uA Z ?_ ?_<;>(try (show(_:Nat)*_<=_;dsimp only))))
   refine AK.freeze 3 Z Z Z Z ?_;exact dq
termination_by n=>SizeOf.sizeOf n
decreasing_by
 ·have h1:=aee O;simp at h1 ⊢;omega
 ·have h1:=aee O;have h2:=aee hy;simp at h1 h2 ⊢;omega
end Go.Proofs
namespace Go.Proofs
open Go.cK
def cq(rows:L CV)(l:L UInt8)(b:UInt8)(z:Int)(h:z=(b.toNat:Int)):rows++cO l++[CV.int .u8 z]=rows++cO (l++[b]):=by
 subst h;simp[cO]
def Gz:∀(k m c:Nat),m<128^k->(Ct c m).length<=k+1
 |0,m,c,h=>by
  obtain rfl:m=0:=by simpa using h
  rw[nA];simp
 |k+1,m,c,h=>by
  by_cases C:m=0
  ·subst C;rw[nA];simp
  ·rw[oL _ _ C];have:=Gz k (m/128) (m%128) (by rw[Nat.pow_succ]at h;omega);simp only[aac];omega
def rI{n:Int}(h1 : -bN<=n)(h2:n<=bN):(jU n).length<=10:=by
 unfold jU;refine Gz 9 _ _ ?_;unfold bN at h1 h2;omega
attribute [local irreducible] AK af bg cn
def Om{rows:L CV}{acc:L UInt8}{c:Nat}(h:c<128):rows++cO acc++[CV.int .u8 (IntKind.u8.wrap (((BitVec.ofInt 8 (c:Int))|||(BitVec.ofInt 8 128)).toNat))]=rows++cO (acc++[Go.cK.byteOf ((c+128:Nat):Int)]):=by
 refine cq rows acc _ _ ?_;rw[acq h,jy _ bn]
def ZG{n:Int}(h1 : -bN<=n)(h2:n<=bN)(B:n<0):IntKind.u8.wrap (((BitVec.ofInt 8 64)|||(BitVec.ofInt 8 (IntKind.u8.wrap (i64.wrap (((BitVec.ofInt 64 (i64.wrap (0-n)))&&&(BitVec.ofInt 64 63)).toNat))))).toNat)=((64+n.natAbs%64:Nat):Int):=by
 unfold bN at h1 h2;rw[iy (n:=0-n) bn bn,show 0-n=((n.natAbs:Nat):Int)from by omega,Lm bn,OM (a:=n.natAbs%64) bn];exact X3 ⟨n.natAbs%64,bn⟩
def XE{n:Int}(h1 : -bN<=n)(h2:n<=bN)(B:n<0):(i64.wrap (0-n)).fdiv (2^(min 6 64))=((n.natAbs/64:Nat):Int):=by
 unfold bN at h1 h2;rw[iy (n:=0-n) bn bn,show 0-n=((n.natAbs:Nat):Int)from by omega];exact DM n.natAbs 6
def ZH{n:Int}(h1 : -bN<=n)(h2:n<=bN)(B:¬n<0):IntKind.u8.wrap (((BitVec.ofInt 8 0)|||(BitVec.ofInt 8 (IntKind.u8.wrap (i64.wrap (((BitVec.ofInt 64 n)&&&(BitVec.ofInt 64 63)).toNat))))).toNat)=((0+n.natAbs%64:Nat):Int):=by
 unfold bN at h1 h2;obtain⟨a,rfl⟩:∃a:Nat,n=a:=⟨n.toNat,bn⟩
 rw[Lm bn,OM (a:=a%64) bn];exact or_none ⟨a%64,bn⟩
def XF{n:Int}(h1 : -bN<=n)(h2:n<=bN)(B:¬n<0):n.fdiv (2^(min 6 64))=((n.natAbs/64:Nat):Int):=by
 obtain⟨a,rfl⟩:∃a:Nat,n=a:=⟨n.toNat,bn⟩
 exact DM a 6
def XG{m:Nat}(h:m<9223372036854775808):IntKind.u8.wrap (i64.wrap (((BitVec.ofInt 64 (m:Int))&&&(BitVec.ofInt 64 127)).toNat))=((m%128:Nat):Int):=by
 rw[UI h,OM bn]
def yC(rows:L CV)(n:Int)(h1 : -bN<=n)(h2:n<=bN)(E:rows.length<=1099511627776) :
  gT 167 [.v (.own 1 rows),.v (.c (.int .i64 n))] [.own 1 (rows++cO (jU n))] []:=by
 have H:n.natAbs<=1152921504606846976:=by unfold bN at h1 h2;omega
 by_cases B:n<0
 ·have I:decide (n<0)=true:=aak B;refine en func167 call167 [(0,.own (.tok 1000000 0) 1 (rows)),(1,.c (.int .i64 n))] [] [(1000000,0)] [1000000] λβ hf=>?_
  repeat' (first|refine pJ ?_|refine ze ?_ ?_|(intro h;first|(cases h;done)|rw[h]|skip)|(refine uA Z ?_ ?_<;>(try (show(_:Nat)*_<=_;dsimp only))))
  refine AK.eL (α:=Nat×Nat×L UInt8) (λz=>z.1<128/\z.2.1<=1152921504606846976/\z.2.2.length<=10/\jU n=z.2.2++Ct z.1 z.2.1) (λz=>z.2.1)
   (λz=>[(5,.c (.int .u8 z.1)),(1,.c (.int .i64 z.2.1)),(0,.own (.tok 1000000 0) 1 (rows++cO z.2.2))]) (λ_=>[]) (λ_=>[(1000000,0)]) [1000000] (64+n.natAbs%64,n.natAbs/64,[])
   ⟨by show 64+n.natAbs%64<128;omega,by show n.natAbs/64<=_;omega,cS,by unfold jU;rw[if_pos B];rfl⟩ ⟨.inl (aeb (λz=>some (AV.c (CV.int .u8 z))) (ZG h1 h2 B)),.inl (aeb (λz=>some (AV.c (CV.int .i64 z))) (XE h1 h2 B)),.inl (aeb (λl=>some (AV.own (.tok 1000000 0) 1 l)) (aec rows).symm),trivial⟩ trivial ⟨Z,trivial⟩ Z Z Z ?_
  rintro⟨c,m,acc⟩ ⟨A,C,V,N⟩ ih;simp only at A C V N;by_cases Y:m=0
  ·have u:decide ((m:Int)>0)=false:=aap bn;rw[Y,nA]at N;clear ih
   repeat' (first|refine pJ ?_|refine ze ?_ ?_|(intro h;first|(cases h;done)|rw[h]|skip)|(refine uA Z ?_ ?_<;>(try (show(_:Nat)*_<=_;dsimp only))))
   ·simp only[aaz,aeA,aac,aad];omega
   ·show(_:L LV)=_;rw[N];exact adQ
  ·have u:decide ((m:Int)>0)=true:=aak bn;rw[oL _ _ Y]at N;have W:=rI h1 h2;rw[N]at W;simp only[aaz,aac]at W
   repeat' (first|refine pJ ?_|refine ze ?_ ?_|(intro h;first|(cases h;done)|rw[h]|skip)|(refine uA Z ?_ ?_<;>(try (show(_:Nat)*_<=_;dsimp only))))
   ·simp only[aaz,aeA,aac,aad];omega
   ·refine AK.fV [] [(1000000,(0,some 1000000))] (env':=[(5,.c (.int .u8 ((m%128:Nat):Int))),(1,.c (.int .i64 ((m/128:Nat):Int))),(0,.own (.tok 1000000 0) 1 (rows++cO (acc++[Go.cK.byteOf ((c+128:Nat):Int)])))])
     (bs':=[]) (ts':=[(1000000,0)]) (us':=[1000000])
     ⟨⟨_,Z,.inl (aeb (λz=>AV.c (CV.int .u8 z)) (XG (m:=m) bn))⟩,⟨_,Z,.inl (aeb (λz=>AV.c (CV.int .i64 z)) (DM m 7))⟩,⟨_,Z,⟨_,Z,.inr ⟨_,_,Z,Z,aeb (AV.own (.tok 1000000 1) 1) (Om A)⟩⟩⟩,trivial⟩ trivial Z ?_
    refine ih (m%128,m/128,acc++[Go.cK.byteOf ((c+128:Nat):Int)]) ⟨by show m%128<128;omega,by show m/128<=_;omega,zw,by show jU n=_;rw[N];simp⟩ (by show m/128<m;omega)
 ·have I:decide (n<0)=false:=aap B;refine en func167 call167 [(0,.own (.tok 1000000 0) 1 (rows)),(1,.c (.int .i64 n))] [] [(1000000,0)] [1000000] λβ hf=>?_
  repeat' (first|refine pJ ?_|refine ze ?_ ?_|(intro h;first|(cases h;done)|rw[h]|skip)|(refine uA Z ?_ ?_<;>(try (show(_:Nat)*_<=_;dsimp only))))
  refine AK.eL (α:=Nat×Nat×L UInt8) (λz=>z.1<128/\z.2.1<=1152921504606846976/\z.2.2.length<=10/\jU n=z.2.2++Ct z.1 z.2.1) (λz=>z.2.1)
   (λz=>[(5,.c (.int .u8 z.1)),(1,.c (.int .i64 z.2.1)),(0,.own (.tok 1000000 0) 1 (rows++cO z.2.2))]) (λ_=>[]) (λ_=>[(1000000,0)]) [1000000] (0+n.natAbs%64,n.natAbs/64,[])
   ⟨by show 0+n.natAbs%64<128;omega,by show n.natAbs/64<=_;omega,cS,by unfold jU;rw[if_neg B];rfl⟩ ⟨.inl (aeb (λz=>some (AV.c (CV.int .u8 z))) (ZH h1 h2 B)),.inl (aeb (λz=>some (AV.c (CV.int .i64 z))) (XF h1 h2 B)),.inl (aeb (λl=>some (AV.own (.tok 1000000 0) 1 l)) (aec rows).symm),trivial⟩ trivial ⟨Z,trivial⟩ Z Z Z ?_
  rintro⟨c,m,acc⟩ ⟨A,C,V,N⟩ ih;simp only at A C V N;by_cases Y:m=0
  ·have u:decide ((m:Int)>0)=false:=aap bn;rw[Y,nA]at N;clear ih
   repeat' (first|refine pJ ?_|refine ze ?_ ?_|(intro h;first|(cases h;done)|rw[h]|skip)|(refine uA Z ?_ ?_<;>(try (show(_:Nat)*_<=_;dsimp only))))
   ·simp only[aaz,aeA,aac,aad];omega
   ·show(_:L LV)=_;rw[N];exact adQ
  ·have u:decide ((m:Int)>0)=true:=aak bn;rw[oL _ _ Y]at N;have W:=rI h1 h2;rw[N]at W;simp only[aaz,aac]at W
   repeat' (first|refine pJ ?_|refine ze ?_ ?_|(intro h;first|(cases h;done)|rw[h]|skip)|(refine uA Z ?_ ?_<;>(try (show(_:Nat)*_<=_;dsimp only))))
   ·simp only[aaz,aeA,aac,aad];omega
   ·refine AK.fV [] [(1000000,(0,some 1000000))] (env':=[(5,.c (.int .u8 ((m%128:Nat):Int))),(1,.c (.int .i64 ((m/128:Nat):Int))),(0,.own (.tok 1000000 0) 1 (rows++cO (acc++[Go.cK.byteOf ((c+128:Nat):Int)])))])
     (bs':=[]) (ts':=[(1000000,0)]) (us':=[1000000])
     ⟨⟨_,Z,.inl (aeb (λz=>AV.c (CV.int .u8 z)) (XG (m:=m) bn))⟩,⟨_,Z,.inl (aeb (λz=>AV.c (CV.int .i64 z)) (DM m 7))⟩,⟨_,Z,⟨_,Z,.inr ⟨_,_,Z,Z,aeb (AV.own (.tok 1000000 1) 1) (Om A)⟩⟩⟩,trivial⟩ trivial Z ?_
    refine ih (m%128,m/128,acc++[Go.cK.byteOf ((c+128:Nat):Int)]) ⟨by show m%128<128;omega,by show m/128<=_;omega,zw,by show jU n=_;rw[N];simp⟩ (by show m/128<m;omega)
end Go.Proofs
