/- What row and parse of package value answer. -/
import Derived.Test.YtdnpapgijbhofaaGreatDoorVal4
import Derived.Test.YtdnpapgijbhofaaGreatDoorVPar
import Derived.Test.YtdnpapgijbhofaaGreatDoorChk3
open Go.IntKind
open Go.Proofs.Tryz
set_option linter.defProp false
set_option maxHeartbeats 0
set_option linter.unusedVariables false
set_option linter.unusedSimpArgs false
set_option maxRecDepth 100000
namespace Go.Proofs
open Go.cM
def gJ:∀(a:L Vl)(b:L Vl),aa (a++b)=aa a++aa b
 |[],b=>rfl
 |x::a,b=>by simp only[Zy,aa,gJ a b]
def OD(x:Nd)(l:L Nd)(t:Ty)(r:L Ty):ew (x::l) (t::r)=if(dB x t).2=true then glue [(dB x t).1] (ew l r)else([],false):=by simp only[ew]
def RI:ew [] []=([],true):=by simp only[ew]
def OE(acc:L Vl)(x:Vl)(z:L Vl×Bool):glue acc (glue [x] z)=glue (acc++[x]) z:=OF acc [x] z
def Ts(acc:L Vl):glue acc ([],false)=([],false):=rfl
def RJ(acc:L Vl):glue acc ([],true)=(acc,true):=by simp[glue]
def GH(x:Nd)(l:L Nd)(t:Ty):eL (x::l) t=((dB x t).1::(eL l t).1,(dB x t).2&&(eL l t).2):=by simp only[eL]
def Jn(t:Ty):eL [] t=([],true):=by simp only[eL]
def GI(Y N P:Int)(S:L UInt8)(xs:L Nd)(l:L Nd)(ts:L Ty):dZ (.mk Y N P S xs::l) ts=(.mk 11 0 0 [] (ew xs ts).1 [] []::(dZ l ts).1,((ew xs ts).2&&decide (Y=2/\P=28))&&(dZ l ts).2):=by simp only[dZ]
def Jo(ts:L Ty):dZ [] ts=([],true):=by simp only[dZ]
def XR(Y N P:Int)(S:L UInt8)(J:L Nd)(ts:L Ty):dB (.mk Y N P S J) (.mk 1 ts)=(o8 1,decide (Y=2/\P=20/\J.length=0)):=by simp[dB,bM]
def XS(Y N P:Int)(S:L UInt8)(J:L Nd)(ts:L Ty):dB (.mk Y N P S J) (.mk 2 ts)=(.mk 2 (i64.wrap (22-P)) 0 [] [] [] [],decide (Y=2/\(P=21\/P=22)/\J.length=0)):=by simp[dB,bM]
def Nk(T Y N P:Int)(V:T=3\/T=4\/T=5\/T=7)(S:L UInt8)(J:L Nd)(ts:L Ty):dB (.mk Y N P S J) (.mk T ts)=(.mk T N 0 [] [] [] [],decide (Y=0)):=by
 rcases V with rfl|rfl|rfl|rfl<;>simp[dB,bM]
def XT(Y N P:Int)(S:L UInt8)(J:L Nd)(ts:L Ty):dB (.mk Y N P S J) (.mk 6 ts)=(.mk 6 0 0 S [] [] [],decide (Y=1)):=by simp[dB,bM]
def VL(N:Int)(S:L UInt8)(J:L Nd)(ts:L Ty):dB (.mk 2 N 27 S J) (.mk 9 ts)=(o8 9,decide (J.length=0)):=by simp[dB,bM]
def VM(N:Int)(S:L UInt8)(J:L Nd)(ts:L Ty):dB (.mk 2 N 26 S J) (.mk 9 ts)=(.mk 9 0 0 [] (ew J ts).1 [] [],(ew J ts).2):=by simp[dB,bM,aq]
def VN(Y N P:Int)(S:L UInt8)(J:L Nd)(ts:L Ty)(h1:¬(Y=2/\P=27))(h2:¬(Y=2/\P=26)):dB (.mk Y N P S J) (.mk 9 ts)=(o8 9,false):=by simp[dB,bM,h1,h2]
def Tt(N:Int)(S:L UInt8)(J:L Nd)(ts:L Ty):dB (.mk 2 N 23 S J) (.mk 11 ts)=(.mk 11 0 0 [] (ew J ts).1 [] [],(ew J ts).2):=by simp[dB,bM,aq]
def Tu(Y N P:Int)(S:L UInt8)(J:L Nd)(ts:L Ty)(h1:¬(Y=2/\P=23)):dB (.mk Y N P S J) (.mk 11 ts)=(o8 11,false):=by simp[dB,bM,h1]
def Tv(N:Int)(S:L UInt8)(J:L Nd)(u M:Ty):dB (.mk 2 N 24 S J) (.mk 12 [u,M])=(.mk 12 0 0 [] (ew J [u]).1 [] [],(ew J [u]).2):=by simp[dB,bM,aD,aq]
def Tw(N:Int)(S:L UInt8)(J:L Nd)(u M:Ty):dB (.mk 2 N 25 S J) (.mk 12 [u,M])=(.mk 12 1 0 [] (ew J [M]).1 [] [],(ew J [M]).2):=by simp[dB,bM,aD,aq]
def Tx(Y N P:Int)(S:L UInt8)(J:L Nd)(ts:L Ty)(h1:¬(Y=2/\P=24))(h2:¬(Y=2/\P=25)):dB (.mk Y N P S J) (.mk 12 ts)=(o8 12,false):=by simp[dB,bM,h1,h2]
def VO(Y N P:Int)(S:L UInt8)(J:L Nd)(u:Ty):dB (.mk Y N P S J) (.mk 10 [u])=(.mk 10 0 0 [] (eL J u).1 [] [],decide (Y=3)&&(eL J u).2):=by simp[dB,bM,aD,aq]
def VP(Y N P:Int)(S:L UInt8)(J:L Nd)(ts:L Ty):dB (.mk Y N P S J) (.mk 13 ts)=(.mk 13 0 0 [] (dZ J ts).1 [] [],decide (Y=3)&&(dZ J ts).2):=by simp[dB,bM,aq]
def XU(T Y N P:Int)(V:T=8\/T=14\/T=15)(S:L UInt8)(J:L Nd)(ts:L Ty):dB (.mk Y N P S J) (.mk T ts)=(o8 T,false):=by
 rcases V with rfl|rfl|rfl<;>simp[dB,bM]
attribute [local irreducible] AK ah aZ cx dB ew eL dZ
def aZ.weaken{P:Program}{X:Ctx}{f:FuncId}{J:L CV}{r O:CV}(h:∀G v,Rel G r v->Rel G O v)(q:aZ P X f J r):aZ P X f J O:=by
 unfold aZ at q ⊢;refine⟨q.1,λG w vs h1 h2 K=>?_⟩;exact Calls.mono (q.2 G w vs h1 h2 K) λe w' ⟨u,Y,C,Q,V⟩=>⟨u,Y,C,h Y u Q,V⟩
def L3{G:iJ}{s t:Nat}{v:Value}(h:Rel G (.sl s []) v):Rel G (.sl t []) v:=by
 rw[Rel]at h ⊢;obtain⟨base,K,D,C,Q,V,_⟩:=h;exact⟨base,K,D,C,Q,V,.inl Z⟩
def RK{G:iJ}{s t:Nat}{b:Bool}{v:Value}(h:Rel G (.gb [.sl s [],.bool b]) v):Rel G (.gb [.sl t [],.bool b]) v:=by
 rw[Rel]at h ⊢;obtain⟨vs,C,Q,V⟩:=h;refine⟨vs,C,?_,ek⟩;rw[bI]at Q ⊢;obtain⟨u,us,M,p,S⟩:=Q;exact⟨u,us,M,L3 p,S⟩
def XV:L Vl×Bool->CV
 |(q,true) => .gb [.sl 7 (aa q),.bool true]
 |(_,false) => .gb [.sl 0 [],.bool false]
def fD(Y N P q:Int)(S:L UInt8)(J:L Nd):aj 170 [.int .i64 q,.ip [.int .i64 Y,.int .i64 N,.int .i64 P,.str S,.sl 5 (aG J)]] (.bool (decide (Y=2/\P=q))):=by
 refine qn func170 call170 λβ hf=>?_
 repeat' (first|refine sz ?_|refine zc ?_ ?_|(intro h;first|(cases h;done)|rw[h]|skip))
 all_goals
  show(_:CV)=_;clear hf;refine Zb CV.bool ?_;rw[aaO]
  (try simp_all)<;>(try omega)
def LI(ts:L Ty)(l:L Nd)(B:l.length<=1099511627776)(O:∀x∈l,∀t∈ts,aj 143 [er t,aY x] (.gb [bO (dB x t).1,.bool (dB x t).2])) :
  aj 171 [.sl 2 (au ts),.sl 5 (aG l)] (XV (ew l ts)):=by
 by_cases W:l.length=ts.length;rotate_left
 ·have N:((((au ts).length:Nat):Int) != (((aG l).length:Nat):Int))=true:=by rw[aR,bq];simp;omega
  rw[Jp l ts W];refine qn func171 call171 λβ hf=>?_;exact dq
 have N:((((au ts).length:Nat):Int) != (((aG l).length:Nat):Int))=false:=by rw[aR,bq];simp;omega
 refine qn func171 call171 λβ hf=>?_
 repeat' (first|refine sz ?_|refine zc ?_ ?_|(intro h;first|(cases h;done)|rw[h]|skip)|(refine uA Z ?_ ?_<;>(try (show(_:Nat)*_<=_;dsimp only))))
 refine AK.fL [] [(6000,(0,none))] (env':=[(17,.c (.int .i64 (0:Nat))),(16,.c (.int .i64 (aG l).length)),(0,.c (.sl 2 (au ts))),(1,.c (.sl 5 (aG l))),(6,.own (.tok 6000 0) 7 [])])
  (bs':=[]) (ts':=[(6000,0)]) (us':=[6000])
  ce  trivial Z ?_
 refine AK.eX (α:=Nat×L Vl) (λz=>z.1<=l.length/\z.1=z.2.length/\ew l ts=glue z.2 (ew (l.drop z.1) (ts.drop z.1))) (λz=>l.length-z.1)
  (λz=>[(17,.c (.int .i64 z.1)),(16,.c (.int .i64 (aG l).length)),(0,.c (.sl 2 (au ts))),(1,.c (.sl 5 (aG l))),(6,.own (.tok 6000 0) 7 (aa z.2))]) (λ_=>[]) (λ_=>[(6000,0)]) [6000] (0,[])
  ⟨bn,Z,by rw[RL _ (C0 _ _)];rfl⟩ ce trivial ⟨Z,trivial⟩ Z Z Z ?_
 rintro⟨i,acc⟩ ⟨q,P,Y⟩ ih;simp only at q P Y;rcases gr l i q with ⟨x,I,J⟩|u
 ·have A:=lE I;have h2:=bQ I;obtain⟨t,M⟩:∃t,ts[i]?=some t:=⟨ts[i]' bn,ek⟩
  have hq:=O x J t (aaA M);rw[eG I,eG M,OD]at Y;rcases H:dB x t with ⟨⟨C,K,D,V,E,T,S⟩,b⟩
  rw[H]at hq Y;obtain⟨G,xn,xp,xs,xa⟩:=x;obtain⟨U,us⟩:=t;cases b with
  |false =>
   rw[if_neg ek,Ts]at Y;rw[Y];clear ih Y;have sQ:=fB M;have Bf:=eo I;exact dq
  |true =>
   rw[if_pos Z,OE]at Y
   repeat' (first|refine sz ?_|refine zc ?_ ?_|(intro h;first|(cases h;done)|rw[h]|skip)|refine uI Z (i) Z (fB M) Z ?_|refine uI Z (i) Z (eo I) Z ?_|refine uC Z hq ?_|(refine uA Z ?_ ?_<;>(try (show(_:Nat)*_<=_;dsimp only))))
   ·have h1:=aB acc;simp only[aac,aad];omega
   ·have Q:aa acc++[bO (.mk C K D V E T S)]=aa (acc++[Vl.mk C K D V E T S]):=(gJ acc [_]).symm;refine AK.fL [] [(6000,(0,some 6000))] (env':=[(17,.c (.int .i64 ((i+1:Nat):Int))),(16,.c (.int .i64 (aG l).length)),(0,.c (.sl 2 (au ts))),(1,.c (.sl 5 (aG l))),(6,.own (.tok 6000 0) 7 (aa (acc++[Vl.mk C K D V E T S])))])
     (bs':=[]) (ts':=[(6000,0)]) (us':=[6000])
     ⟨⟨_,Z,.inl (jV (i:=i) bn)⟩,⟨_,Z,.inl Z⟩,⟨_,Z,.inl Z⟩,⟨_,Z,.inl Z⟩,⟨_,Z,⟨_,Z,.inr ⟨_,_,Z,Z,Zb (AV.own (.tok 6000 1) 7) Q⟩⟩⟩,trivial⟩ trivial Z ?_
    exact ih (i+1,acc++[Vl.mk C K D V E T S]) ⟨h2,by simp[P],Y⟩ HE
 ·have A:=js u;have p:ew l ts=(acc,true):=by rw[Y,u,W,Zx,<- W,Zx,RI,RJ]
  rw[p];clear ih Y;exact dq
def vi(ts:L Ty)(l:L Nd)(B:l.length<=1099511627776)(D:∀x∈l,∀t∈ts,aj 143 [er t,aY x] (.gb [bO (dB x t).1,.bool (dB x t).2])) :
  aj 171 [.sl 2 (au ts),.sl 5 (aG l)] (.gb [.sl 7 (aa (ew l ts).1),.bool (ew l ts).2]):=by
 have h:=LI ts l B D;have hf:=C0 l ts;rcases E:ew l ts with ⟨q,b⟩
 rw[E]at h hf;cases b with
 |true=>exact h
 |false =>
  obtain rfl:=hf rfl;exact aZ.weaken (λG v A=>RK A) h
end Go.Proofs
namespace Go.Proofs
open Go.cM
def GJ(l:L Nd)(b:Prop)[Decidable b](h:b↔l.length=0):((((aG l).length:Nat):Int)==0)=decide b:=by
 rw[bq,aaO];simp[h]
def int_eq(a b:Int):(a==b)=decide (a=b):=by rw[aaO];simp
attribute [local irreducible] AK ah aZ cx dB ew eL dZ
def rC:∀(n:Nd)(t:Ty),fV t=false->bZ n<=8589934593->bw t<=8589934593->aj 143 [er t,aY n] (.gb [bO (dB n t).1,.bool (dB n t).2])
 |.mk Y N P S J,.mk T ts,hb,hn,ht=>by
  simp only[bZ]at hn;simp only[bw]at ht;have JI:=gu J;have E:∀x∈J,∀u,fV u=false->bw u<=8589934593->aj 143 [er u,aY x] (.gb [bO (dB x u).1,.bool (dB x u).2]):=λx I u h1 h2=>rC x u h1 (by have:=eM I;omega) h2;have UH:∀k n p s O,Nd.mk k n p s O∈J->∀y∈O,∀u,fV u=false->bw u<=8589934593->aj 143 [er u,aY y] (.gb [bO (dB y u).1,.bool (dB y u).2]):=λk n p s O I y hy u h1 h2=>rC y u h1 (by have h3:=eM I;have h4:=eM hy;simp only[bZ]at h3;omega) h2;obtain⟨JJ,jC⟩:=gT hb;simp only[bM,aq]at JJ jC;have G:aj 171 [.sl 2 (au ts),.sl 5 (aG J)] (.gb [.sl 7 (aa (ew J ts).1),.bool (ew J ts).2]) :=
   vi ts J bn λx I u hu=>E x I u (di jC hu) (by have:=cA hu;omega)
  by_cases c:T=1
  ·subst c;rw[XR];by_cases K:Y=2/\P=20
   ·obtain⟨rfl,rfl⟩:=K;have h1:=fD 2 N 20 20 S J;rw[show decide ((2:Int)=2/\(20:Int)=20)=true from rfl]at h1;have e:=GJ J ((2:Int)=2/\(20:Int)=20/\J.length=0) ek;refine qn func143 call143 λβ hf=>?_;refine AK.seq ?_;refine AK.region mixed Z ?_
    repeat' (first|refine so ?_|refine zu ?_ ?_|(intro h;first|(cases h;done)|rw[h]|skip)|(refine uA Z ?_ ?_<;>(try (show(_:Nat)*_<=_;dsimp only))))
    refine AK.freeze 3 Z Z Z Z ?_
    repeat' (first|refine sz ?_|refine zc ?_ ?_|(intro h;first|(cases h;done)|rw[h]|skip)|refine uC Z h1 ?_|(refine uA Z ?_ ?_<;>(try (show(_:Nat)*_<=_;dsimp only))))
    all_goals exact Zb (λb=>CV.gb [bO (o8 1),CV.bool b]) e
   ·have h1:=fD Y N P 20 S J;rw[show decide (Y=2/\P=20)=false from aax K]at h1;rw[show decide (Y=2/\P=20/\J.length=0)=false from aax (λh=>K ⟨h.1,h.2.1⟩)];refine qn func143 call143 λβ hf=>?_;refine AK.seq ?_;refine AK.region mixed Z ?_
    repeat' (first|refine so ?_|refine zu ?_ ?_|(intro h;first|(cases h;done)|rw[h]|skip)|(refine uA Z ?_ ?_<;>(try (show(_:Nat)*_<=_;dsimp only))))
    refine AK.freeze 3 Z Z Z Z ?_;exact dq
  by_cases c:T=2
  ·subst c;rw[XS];by_cases K:Y=2/\P=21
   ·obtain⟨rfl,rfl⟩:=K;have h1:=fD 2 N 21 21 S J;have h2:=fD 2 N 21 22 S J;rw[show decide ((2:Int)=2/\(21:Int)=21)=true from rfl]at h1;rw[show decide ((2:Int)=2/\(21:Int)=22)=false from rfl]at h2;have e:=GJ J ((2:Int)=2/\((21:Int)=21\/(21:Int)=22)/\J.length=0) ek;refine qn func143 call143 λβ hf=>?_;refine AK.seq ?_;refine AK.region mixed Z ?_
    repeat' (first|refine so ?_|refine zu ?_ ?_|(intro h;first|(cases h;done)|rw[h]|skip)|(refine uA Z ?_ ?_<;>(try (show(_:Nat)*_<=_;dsimp only))))
    refine AK.freeze 3 Z Z Z Z ?_
    repeat' (first|refine sz ?_|refine zc ?_ ?_|(intro h;first|(cases h;done)|rw[h]|skip)|refine uC Z h1 ?_|refine uC Z h2 ?_|(refine uA Z ?_ ?_<;>(try (show(_:Nat)*_<=_;dsimp only))))
    all_goals exact Zb (λb=>CV.gb [bO (.mk 2 (i64.wrap (22-21)) 0 [] [] [] []),CV.bool b]) e
   by_cases C:Y=2/\P=22
   ·obtain⟨rfl,rfl⟩:=C;have h1:=fD 2 N 22 21 S J;have h2:=fD 2 N 22 22 S J;rw[show decide ((2:Int)=2/\(22:Int)=21)=false from rfl]at h1;rw[show decide ((2:Int)=2/\(22:Int)=22)=true from rfl]at h2;have e:=GJ J ((2:Int)=2/\((22:Int)=21\/(22:Int)=22)/\J.length=0) ek;refine qn func143 call143 λβ hf=>?_;refine AK.seq ?_;refine AK.region mixed Z ?_
    repeat' (first|refine so ?_|refine zu ?_ ?_|(intro h;first|(cases h;done)|rw[h]|skip)|(refine uA Z ?_ ?_<;>(try (show(_:Nat)*_<=_;dsimp only))))
    refine AK.freeze 3 Z Z Z Z ?_
    repeat' (first|refine sz ?_|refine zc ?_ ?_|(intro h;first|(cases h;done)|rw[h]|skip)|refine uC Z h1 ?_|refine uC Z h2 ?_|(refine uA Z ?_ ?_<;>(try (show(_:Nat)*_<=_;dsimp only))))
    all_goals exact Zb (λb=>CV.gb [bO (.mk 2 (i64.wrap (22-22)) 0 [] [] [] []),CV.bool b]) e
   have h1:=fD Y N P 21 S J;have h2:=fD Y N P 22 S J;rw[aax K]at h1;rw[aax C]at h2;rw[show decide (Y=2/\(P=21\/P=22)/\J.length=0)=false from aax (λh=>h.2.1.elim (λg=>K ⟨h.1,g⟩) (λg=>C ⟨h.1,g⟩))];refine qn func143 call143 λβ hf=>?_;refine AK.seq ?_;refine AK.region mixed Z ?_
   repeat' (first|refine so ?_|refine zu ?_ ?_|(intro h;first|(cases h;done)|rw[h]|skip)|(refine uA Z ?_ ?_<;>(try (show(_:Nat)*_<=_;dsimp only))))
   refine AK.freeze 3 Z Z Z Z ?_;exact dq
  by_cases c:T=3
  ·subst c;rw[Nk 3 Y N P cc,<- int_eq];refine qn func143 call143 λβ hf=>?_;refine AK.seq ?_;refine AK.region mixed Z ?_
   repeat' (first|refine so ?_|refine zu ?_ ?_|(intro h;first|(cases h;done)|rw[h]|skip)|(refine uA Z ?_ ?_<;>(try (show(_:Nat)*_<=_;dsimp only))))
   refine AK.freeze 3 Z Z Z Z ?_;exact dq
  by_cases c:T=4
  ·subst c;rw[Nk 4 Y N P cc,<- int_eq];refine qn func143 call143 λβ hf=>?_;refine AK.seq ?_;refine AK.region mixed Z ?_
   repeat' (first|refine so ?_|refine zu ?_ ?_|(intro h;first|(cases h;done)|rw[h]|skip)|(refine uA Z ?_ ?_<;>(try (show(_:Nat)*_<=_;dsimp only))))
   refine AK.freeze 3 Z Z Z Z ?_;exact dq
  by_cases c:T=5
  ·subst c;rw[Nk 5 Y N P cc,<- int_eq];refine qn func143 call143 λβ hf=>?_;refine AK.seq ?_;refine AK.region mixed Z ?_
   repeat' (first|refine so ?_|refine zu ?_ ?_|(intro h;first|(cases h;done)|rw[h]|skip)|(refine uA Z ?_ ?_<;>(try (show(_:Nat)*_<=_;dsimp only))))
   refine AK.freeze 3 Z Z Z Z ?_;exact dq
  by_cases c:T=7
  ·subst c;rw[Nk 7 Y N P cc,<- int_eq];refine qn func143 call143 λβ hf=>?_;refine AK.seq ?_;refine AK.region mixed Z ?_
   repeat' (first|refine so ?_|refine zu ?_ ?_|(intro h;first|(cases h;done)|rw[h]|skip)|(refine uA Z ?_ ?_<;>(try (show(_:Nat)*_<=_;dsimp only))))
   refine AK.freeze 3 Z Z Z Z ?_;exact dq
  by_cases c:T=6
  ·subst c;rw[XT,<- int_eq];refine qn func143 call143 λβ hf=>?_;refine AK.seq ?_;refine AK.region mixed Z ?_
   repeat' (first|refine so ?_|refine zu ?_ ?_|(intro h;first|(cases h;done)|rw[h]|skip)|(refine uA Z ?_ ?_<;>(try (show(_:Nat)*_<=_;dsimp only))))
   refine AK.freeze 3 Z Z Z Z ?_;exact dq
  by_cases c:T=9
  ·subst c;by_cases K:Y=2/\P=27
   ·obtain⟨rfl,rfl⟩:=K;rw[VL];have h1:=fD 2 N 27 27 S J;rw[show decide ((2:Int)=2/\(27:Int)=27)=true from rfl]at h1;have e:=GJ J (J.length=0) Iff.rfl;refine qn func143 call143 λβ hf=>?_;refine AK.seq ?_;refine AK.region mixed Z ?_
    repeat' (first|refine so ?_|refine zu ?_ ?_|(intro h;first|(cases h;done)|rw[h]|skip)|(refine uA Z ?_ ?_<;>(try (show(_:Nat)*_<=_;dsimp only))))
    refine AK.freeze 3 Z Z Z Z ?_
    repeat' (first|refine sz ?_|refine zc ?_ ?_|(intro h;first|(cases h;done)|rw[h]|skip)|refine uC Z h1 ?_|(refine uA Z ?_ ?_<;>(try (show(_:Nat)*_<=_;dsimp only))))
    all_goals exact Zb (λb=>CV.gb [bO (o8 9),CV.bool b]) e
   by_cases C:Y=2/\P=26
   ·obtain⟨rfl,rfl⟩:=C;rw[VM];have h1:=fD 2 N 26 27 S J;rw[show decide ((2:Int)=2/\(26:Int)=27)=false from rfl]at h1;have h2:=fD 2 N 26 26 S J;rw[show decide ((2:Int)=2/\(26:Int)=26)=true from rfl]at h2;generalize ew J ts=z at G;refine qn func143 call143 λβ hf=>?_;refine AK.seq ?_;refine AK.region mixed Z ?_
    repeat' (first|refine so ?_|refine zu ?_ ?_|(intro h;first|(cases h;done)|rw[h]|skip)|(refine uA Z ?_ ?_<;>(try (show(_:Nat)*_<=_;dsimp only))))
    refine AK.freeze 3 Z Z Z Z ?_;exact dq
   rw[VN _ _ _ _ _ _ K C];have h1:=fD Y N P 27 S J;have h2:=fD Y N P 26 S J;rw[aax K]at h1;rw[aax C]at h2;refine qn func143 call143 λβ hf=>?_;refine AK.seq ?_;refine AK.region mixed Z ?_
   repeat' (first|refine so ?_|refine zu ?_ ?_|(intro h;first|(cases h;done)|rw[h]|skip)|(refine uA Z ?_ ?_<;>(try (show(_:Nat)*_<=_;dsimp only))))
   refine AK.freeze 3 Z Z Z Z ?_;exact dq
  by_cases c:T=11
  ·subst c;by_cases K:Y=2/\P=23
   ·obtain⟨rfl,rfl⟩:=K;rw[Tt];have h1:=fD 2 N 23 23 S J;rw[show decide ((2:Int)=2/\(23:Int)=23)=true from rfl]at h1;generalize ew J ts=z at G;refine qn func143 call143 λβ hf=>?_;refine AK.seq ?_;refine AK.region mixed Z ?_
    repeat' (first|refine so ?_|refine zu ?_ ?_|(intro h;first|(cases h;done)|rw[h]|skip)|(refine uA Z ?_ ?_<;>(try (show(_:Nat)*_<=_;dsimp only))))
    refine AK.freeze 3 Z Z Z Z ?_;exact dq
   rw[Tu _ _ _ _ _ _ K];have h1:=fD Y N P 23 S J;rw[aax K]at h1;refine qn func143 call143 λβ hf=>?_;refine AK.seq ?_;refine AK.region mixed Z ?_
   repeat' (first|refine so ?_|refine zu ?_ ?_|(intro h;first|(cases h;done)|rw[h]|skip)|(refine uA Z ?_ ?_<;>(try (show(_:Nat)*_<=_;dsimp only))))
   refine AK.freeze 3 Z Z Z Z ?_;exact dq
  by_cases c:T=12
  ·subst c;obtain⟨u,u',rfl⟩:=zF (show ts.length=2 by(have:arity 12=2:=by decide);omega);by_cases K:Y=2/\P=24
   ·obtain⟨rfl,rfl⟩:=K;rw[Tv];have h1:=fD 2 N 24 24 S J;rw[show decide ((2:Int)=2/\(24:Int)=24)=true from rfl]at h1;have h2:=fD 2 N 24 25 S J;rw[show decide ((2:Int)=2/\(24:Int)=25)=false from rfl]at h2;have hr:=vi [u] J bn λx I w D=>E x I w (di jC UT) OT;generalize ew J [u]=z at hr;refine qn func143 call143 λβ hf=>?_;refine AK.seq ?_;refine AK.region mixed Z ?_
    repeat' (first|refine so ?_|refine zu ?_ ?_|(intro h;first|(cases h;done)|rw[h]|skip)|(refine uA Z ?_ ?_<;>(try (show(_:Nat)*_<=_;dsimp only))))
    refine AK.freeze 3 Z Z Z Z ?_;exact dq
   by_cases C:Y=2/\P=25
   ·obtain⟨rfl,rfl⟩:=C;rw[Tw];have h1:=fD 2 N 25 24 S J;rw[show decide ((2:Int)=2/\(25:Int)=24)=false from rfl]at h1;have h2:=fD 2 N 25 25 S J;rw[show decide ((2:Int)=2/\(25:Int)=25)=true from rfl]at h2;have hr:=vi [u'] J bn λx I w D=>E x I w (di jC UT) OT;generalize ew J [u']=z at hr;refine qn func143 call143 λβ hf=>?_;refine AK.seq ?_;refine AK.region mixed Z ?_
    repeat' (first|refine so ?_|refine zu ?_ ?_|(intro h;first|(cases h;done)|rw[h]|skip)|(refine uA Z ?_ ?_<;>(try (show(_:Nat)*_<=_;dsimp only))))
    refine AK.freeze 3 Z Z Z Z ?_;exact dq
   rw[Tx _ _ _ _ _ _ K C];have h1:=fD Y N P 24 S J;have h2:=fD Y N P 25 S J;rw[aax K]at h1;rw[aax C]at h2;refine qn func143 call143 λβ hf=>?_;refine AK.seq ?_;refine AK.region mixed Z ?_
   repeat' (first|refine so ?_|refine zu ?_ ?_|(intro h;first|(cases h;done)|rw[h]|skip)|(refine uA Z ?_ ?_<;>(try (show(_:Nat)*_<=_;dsimp only))))
   refine AK.freeze 3 Z Z Z Z ?_;exact dq
  by_cases c:T=10
  ·subst c;obtain⟨u,rfl⟩:=Jq (show ts.length=1 by(have:arity 10=1:=by decide);omega);rw[VO,<- int_eq];have hu:fV u=false:=di jC ek;have sI:bw u<=8589934593:=by have:=cA (l:=[u]) (x:=u) ek;omega
   have g1:[u][0]?=some u:=rfl;obtain⟨U,us⟩:=u;refine qn func143 call143 λβ hf=>?_;refine AK.seq ?_;refine AK.region mixed Z ?_
   repeat' (first|refine so ?_|refine zu ?_ ?_|(intro h;first|(cases h;done)|rw[h]|skip)|(refine uA Z ?_ ?_<;>(try (show(_:Nat)*_<=_;dsimp only))))
   refine AK.freeze 3 Z Z Z Z ?_
   repeat' (first|refine sz ?_|refine zc ?_ ?_|(intro h;first|(cases h;done)|rw[h]|skip)|(refine uA Z ?_ ?_<;>(try (show(_:Nat)*_<=_;dsimp only))))
   refine AK.fL [(2,2),(4,4),(6,6)] [(6004,(0,none))] (env':=[(139,.c (.int .i64 (0:Nat))),(138,.c (.int .i64 (aG J).length)),(137,.c (.sl 5 (aG J))),(7,.c (.bool (Y==3))),(2,.ptr 2 0),(4,.ptr 4 0),(6,.ptr 6 0)])
    (bs':=[(2,[.c (.int .i64 10),.c (.sl 2 (au [.mk U us]))]),(4,[.c (.int .i64 0),.c (.int .i64 0),.c (.int .i64 0),.c (.str []),.own .exact 7 [],.own .exact 2 [],.own .exact 5 []]),(6,[.c (.int .i64 10),.c (.int .i64 0),.c (.int .i64 0),.c (.str []),.own (.tok 6004 0) 7 [],.own .exact 2 [],.own .exact 5 []])]) (ts':=[(6004,0)]) (us':=[2,4,6,6004])
    ce ce Z ?_
   refine AK.eX (α:=Nat×L Vl×Bool) (λz=>z.1<=J.length/\z.1=z.2.1.length/\(eL J (.mk U us)).1=z.2.1++(eL (J.drop z.1) (.mk U us)).1/\((Y==3)&&(eL J (.mk U us)).2)=(z.2.2&&(eL (J.drop z.1) (.mk U us)).2)) (λz=>J.length-z.1)
    (λz=>[(139,.c (.int .i64 z.1)),(138,.c (.int .i64 (aG J).length)),(137,.c (.sl 5 (aG J))),(7,.c (.bool z.2.2)),(2,.ptr 2 0),(4,.ptr 4 0),(6,.ptr 6 0)]) (λz=>[(2,[.c (.int .i64 10),.c (.sl 2 (au [.mk U us]))]),(4,[.c (.int .i64 0),.c (.int .i64 0),.c (.int .i64 0),.c (.str []),.own .exact 7 [],.own .exact 2 [],.own .exact 5 []]),(6,[.c (.int .i64 10),.c (.int .i64 0),.c (.int .i64 0),.c (.str []),.own (.tok 6004 0) 7 (aa z.2.1),.own .exact 2 [],.own .exact 5 []])]) (λ_=>[(6004,0)]) [2,4,6,6004] (0,[],(Y==3))
    ⟨bn,Z,ek,Z⟩ ce ⟨Z,Z,Z,trivial⟩ ⟨Z,trivial⟩ Z Z Z ?_
   rintro⟨i,acc,okb⟩ ⟨K,H,W,V⟩ ih;simp only at K H W V;rcases gr J i K with ⟨x,I,hm⟩|he
   rotate_left
   ·have hc:=js he;rw[he,Zx,Jn]at W V;simp only[Zc,abe]at W V;rw[W,V];clear ih W V;exact dq
   have hc:=lE I;have h2:=bQ I;have hq:=E x hm (.mk U us) hu sI;rw[eG I,GH]at W V;rcases hr:dB x (.mk U us)with ⟨⟨B,A,y3,y4,y5,y6,y7⟩,Q⟩
   rw[hr]at hq W V;simp only at hq W V;rw[show ∀(a:L Vl)(b:Vl)(c:L Vl),a++b::c=a++[b]++c from λa b c=>by simp]at W;obtain⟨xk,xn,xp,xs,O⟩:=x;cases okb with
   |false =>
    repeat' (first|refine sz ?_|refine zc ?_ ?_|(intro h;first|(cases h;done)|rw[h]|skip)|refine uI Z (i) Z (eo I) Z ?_|refine uI Z (0) Z (fB g1) Z ?_|refine uC Z hq ?_|(refine uA Z ?_ ?_<;>(try (show(_:Nat)*_<=_;dsimp only))))
    ·have h1:=aB acc;simp only[aac,aad];omega
    ·have M:aa acc++[bO (Vl.mk B A y3 y4 y5 y6 y7)]=aa (acc++[(Vl.mk B A y3 y4 y5 y6 y7)]):=(gJ acc [_]).symm;refine AK.fL [(2,2),(4,4),(6,6)] [(6004,(0,some 6004))] (env':=[(139,.c (.int .i64 ((i+1:Nat):Int))),(138,.c (.int .i64 (aG J).length)),(137,.c (.sl 5 (aG J))),(7,.c (.bool false)),(2,.ptr 2 0),(4,.ptr 4 0),(6,.ptr 6 0)])
      (bs':=[(2,[.c (.int .i64 10),.c (.sl 2 (au [.mk U us]))]),(4,[.c (.int .i64 0),.c (.int .i64 0),.c (.int .i64 0),.c (.str []),.own .exact 7 [],.own .exact 2 [],.own .exact 5 []]),(6,[.c (.int .i64 10),.c (.int .i64 0),.c (.int .i64 0),.c (.str []),.own (.tok 6004 0) 7 (aa (acc++[(Vl.mk B A y3 y4 y5 y6 y7)])),.own .exact 2 [],.own .exact 5 []])]) (ts':=[(6004,0)]) (us':=[2,4,6,6004])
      ⟨⟨_,Z,.inl (jV (i:=i) bn)⟩,⟨_,Z,.inl Z⟩,⟨_,Z,.inl Z⟩,⟨_,Z,.inl Z⟩,⟨_,Z,⟨_,Z,Z⟩⟩,⟨_,Z,⟨_,Z,Z⟩⟩,⟨_,Z,⟨_,Z,Z⟩⟩,trivial⟩ ⟨ce,ce,⟨_,_,Z,Z,⟨_,_,Z,.inl Z,⟨_,_,Z,.inl Z,⟨_,_,Z,.inl Z,⟨_,_,Z,.inl Z,⟨_,_,Z,⟨_,Z,.inr ⟨_,_,Z,Z,Zb (AV.own (.tok 6004 1) 7) M⟩⟩,ce⟩⟩⟩⟩⟩⟩,trivial⟩ Z ?_
     exact ih (i+1,acc++[(Vl.mk B A y3 y4 y5 y6 y7)],false) ⟨h2,Ya,W,Ys⟩ fk
   |true =>
    repeat' (first|refine sz ?_|refine zc ?_ ?_|(intro h;first|(cases h;done)|rw[h]|skip)|refine uI Z (i) Z (eo I) Z ?_|refine uI Z (0) Z (fB g1) Z ?_|refine uC Z hq ?_|(refine uA Z ?_ ?_<;>(try (show(_:Nat)*_<=_;dsimp only))))
    ·have h1:=aB acc;simp only[aac,aad];omega
    ·have M:aa acc++[bO (Vl.mk B A y3 y4 y5 y6 y7)]=aa (acc++[(Vl.mk B A y3 y4 y5 y6 y7)]):=(gJ acc [_]).symm;refine AK.fL [(2,2),(4,4),(6,6)] [(6004,(0,some 6004))] (env':=[(139,.c (.int .i64 ((i+1:Nat):Int))),(138,.c (.int .i64 (aG J).length)),(137,.c (.sl 5 (aG J))),(7,.c (.bool Q)),(2,.ptr 2 0),(4,.ptr 4 0),(6,.ptr 6 0)])
      (bs':=[(2,[.c (.int .i64 10),.c (.sl 2 (au [.mk U us]))]),(4,[.c (.int .i64 0),.c (.int .i64 0),.c (.int .i64 0),.c (.str []),.own .exact 7 [],.own .exact 2 [],.own .exact 5 []]),(6,[.c (.int .i64 10),.c (.int .i64 0),.c (.int .i64 0),.c (.str []),.own (.tok 6004 0) 7 (aa (acc++[(Vl.mk B A y3 y4 y5 y6 y7)])),.own .exact 2 [],.own .exact 5 []])]) (ts':=[(6004,0)]) (us':=[2,4,6,6004])
      ⟨⟨_,Z,.inl (jV (i:=i) bn)⟩,⟨_,Z,.inl Z⟩,⟨_,Z,.inl Z⟩,⟨_,Z,.inl Z⟩,⟨_,Z,⟨_,Z,Z⟩⟩,⟨_,Z,⟨_,Z,Z⟩⟩,⟨_,Z,⟨_,Z,Z⟩⟩,trivial⟩ ⟨ce,ce,⟨_,_,Z,Z,⟨_,_,Z,.inl Z,⟨_,_,Z,.inl Z,⟨_,_,Z,.inl Z,⟨_,_,Z,.inl Z,⟨_,_,Z,⟨_,Z,.inr ⟨_,_,Z,Z,Zb (AV.own (.tok 6004 1) 7) M⟩⟩,ce⟩⟩⟩⟩⟩⟩,trivial⟩ Z ?_
     exact ih (i+1,acc++[(Vl.mk B A y3 y4 y5 y6 y7)],Q) ⟨h2,Ya,W,Ys⟩ fk
  by_cases c:T=13
  ·subst c;rw[VP,<- int_eq];refine qn func143 call143 λβ hf=>?_;refine AK.seq ?_;refine AK.region mixed Z ?_
   repeat' (first|refine so ?_|refine zu ?_ ?_|(intro h;first|(cases h;done)|rw[h]|skip)|(refine uA Z ?_ ?_<;>(try (show(_:Nat)*_<=_;dsimp only))))
   refine AK.freeze 3 Z Z Z Z ?_
   repeat' (first|refine sz ?_|refine zc ?_ ?_|(intro h;first|(cases h;done)|rw[h]|skip)|(refine uA Z ?_ ?_<;>(try (show(_:Nat)*_<=_;dsimp only))))
   refine AK.fL [(2,2),(4,4),(6,6)] [(6004,(0,none))] (env':=[(171,.c (.int .i64 (0:Nat))),(170,.c (.int .i64 (aG J).length)),(169,.c (.sl 5 (aG J))),(7,.c (.bool (Y==3))),(2,.ptr 2 0),(4,.ptr 4 0),(6,.ptr 6 0)])
    (bs':=[(2,[.c (.int .i64 13),.c (.sl 2 (au ts))]),(4,[.c (.int .i64 0),.c (.int .i64 0),.c (.int .i64 0),.c (.str []),.own .exact 7 [],.own .exact 2 [],.own .exact 5 []]),(6,[.c (.int .i64 13),.c (.int .i64 0),.c (.int .i64 0),.c (.str []),.own (.tok 6004 0) 7 [],.own .exact 2 [],.own .exact 5 []])]) (ts':=[(6004,0)]) (us':=[2,4,6,6004])
    ce ce Z ?_
   refine AK.eX (α:=Nat×L Vl×Bool) (λz=>z.1<=J.length/\z.1=z.2.1.length/\(dZ J ts).1=z.2.1++(dZ (J.drop z.1) ts).1/\((Y==3)&&(dZ J ts).2)=(z.2.2&&(dZ (J.drop z.1) ts).2)) (λz=>J.length-z.1)
    (λz=>[(171,.c (.int .i64 z.1)),(170,.c (.int .i64 (aG J).length)),(169,.c (.sl 5 (aG J))),(7,.c (.bool z.2.2)),(2,.ptr 2 0),(4,.ptr 4 0),(6,.ptr 6 0)]) (λz=>[(2,[.c (.int .i64 13),.c (.sl 2 (au ts))]),(4,[.c (.int .i64 0),.c (.int .i64 0),.c (.int .i64 0),.c (.str []),.own .exact 7 [],.own .exact 2 [],.own .exact 5 []]),(6,[.c (.int .i64 13),.c (.int .i64 0),.c (.int .i64 0),.c (.str []),.own (.tok 6004 0) 7 (aa z.2.1),.own .exact 2 [],.own .exact 5 []])]) (λ_=>[(6004,0)]) [2,4,6,6004] (0,[],(Y==3))
    ⟨bn,Z,ek,Z⟩ ce ⟨Z,Z,Z,trivial⟩ ⟨Z,trivial⟩ Z Z Z ?_
   rintro⟨i,acc,okb⟩ ⟨K,H,W,V⟩ ih;simp only at K H W V;rcases gr J i K with ⟨x,I,hm⟩|he
   rotate_left
   ·have hc:=js he;rw[he,Zx,Jo]at W V;simp only[Zc,abe]at W V;rw[W,V];clear ih W V;exact dq
   have hc:=lE I;have h2:=bQ I;obtain⟨xk,xn,xp,xs,O⟩:=x;have hxs:=eM hm;simp only[bZ]at hxs;have R3:=gu O;have hq:=vi ts O bn λy hy u hu=>UH xk xn xp xs O hm y hy u (di jC hu) (by have:=cA hu;omega);rw[eG I,GI]at W V;rcases hr:ew O ts with ⟨q,Q⟩
   rw[hr]at hq W V;simp only at hq W V;rw[show ∀(a:L Vl)(b:Vl)(c:L Vl),a++b::c=a++[b]++c from λa b c=>by simp]at W;cases okb with
   |false =>
    repeat' (first|refine sz ?_|refine zc ?_ ?_|(intro h;first|(cases h;done)|rw[h]|skip)|refine uI Z (i) Z (eo I) Z ?_|refine uC Z hq ?_|(refine uA Z ?_ ?_<;>(try (show(_:Nat)*_<=_;dsimp only))))
    ·have h1:=aB acc;simp only[aac,aad];omega
    ·have M:aa acc++[bO (Vl.mk 11 0 0 [] q [] [])]=aa (acc++[(Vl.mk 11 0 0 [] q [] [])]):=(gJ acc [_]).symm;refine AK.fL [(2,2),(4,4),(6,6)] [(6004,(0,some 6004))] (env':=[(171,.c (.int .i64 ((i+1:Nat):Int))),(170,.c (.int .i64 (aG J).length)),(169,.c (.sl 5 (aG J))),(7,.c (.bool false)),(2,.ptr 2 0),(4,.ptr 4 0),(6,.ptr 6 0)])
      (bs':=[(2,[.c (.int .i64 13),.c (.sl 2 (au ts))]),(4,[.c (.int .i64 0),.c (.int .i64 0),.c (.int .i64 0),.c (.str []),.own .exact 7 [],.own .exact 2 [],.own .exact 5 []]),(6,[.c (.int .i64 13),.c (.int .i64 0),.c (.int .i64 0),.c (.str []),.own (.tok 6004 0) 7 (aa (acc++[(Vl.mk 11 0 0 [] q [] [])])),.own .exact 2 [],.own .exact 5 []])]) (ts':=[(6004,0)]) (us':=[2,4,6,6004])
      ⟨⟨_,Z,.inl (jV (i:=i) bn)⟩,⟨_,Z,.inl Z⟩,⟨_,Z,.inl Z⟩,⟨_,Z,.inl Z⟩,⟨_,Z,⟨_,Z,Z⟩⟩,⟨_,Z,⟨_,Z,Z⟩⟩,⟨_,Z,⟨_,Z,Z⟩⟩,trivial⟩ ⟨ce,ce,⟨_,_,Z,Z,⟨_,_,Z,.inl Z,⟨_,_,Z,.inl Z,⟨_,_,Z,.inl Z,⟨_,_,Z,.inl Z,⟨_,_,Z,⟨_,Z,.inr ⟨_,_,Z,Z,Zb (AV.own (.tok 6004 1) 7) M⟩⟩,ce⟩⟩⟩⟩⟩⟩,trivial⟩ Z ?_
     exact YD
   |true =>
    cases Q with
    |false =>
     repeat' (first|refine sz ?_|refine zc ?_ ?_|(intro h;first|(cases h;done)|rw[h]|skip)|refine uI Z (i) Z (eo I) Z ?_|refine uC Z hq ?_|(refine uA Z ?_ ?_<;>(try (show(_:Nat)*_<=_;dsimp only))))
     ·have h1:=aB acc;simp only[aac,aad];omega
     ·have M:aa acc++[bO (Vl.mk 11 0 0 [] q [] [])]=aa (acc++[(Vl.mk 11 0 0 [] q [] [])]):=(gJ acc [_]).symm;refine AK.fL [(2,2),(4,4),(6,6)] [(6004,(0,some 6004))] (env':=[(171,.c (.int .i64 ((i+1:Nat):Int))),(170,.c (.int .i64 (aG J).length)),(169,.c (.sl 5 (aG J))),(7,.c (.bool false)),(2,.ptr 2 0),(4,.ptr 4 0),(6,.ptr 6 0)])
       (bs':=[(2,[.c (.int .i64 13),.c (.sl 2 (au ts))]),(4,[.c (.int .i64 0),.c (.int .i64 0),.c (.int .i64 0),.c (.str []),.own .exact 7 [],.own .exact 2 [],.own .exact 5 []]),(6,[.c (.int .i64 13),.c (.int .i64 0),.c (.int .i64 0),.c (.str []),.own (.tok 6004 0) 7 (aa (acc++[(Vl.mk 11 0 0 [] q [] [])])),.own .exact 2 [],.own .exact 5 []])]) (ts':=[(6004,0)]) (us':=[2,4,6,6004])
       ⟨⟨_,Z,.inl (jV (i:=i) bn)⟩,⟨_,Z,.inl Z⟩,⟨_,Z,.inl Z⟩,⟨_,Z,.inl Z⟩,⟨_,Z,⟨_,Z,Z⟩⟩,⟨_,Z,⟨_,Z,Z⟩⟩,⟨_,Z,⟨_,Z,Z⟩⟩,trivial⟩ ⟨ce,ce,⟨_,_,Z,Z,⟨_,_,Z,.inl Z,⟨_,_,Z,.inl Z,⟨_,_,Z,.inl Z,⟨_,_,Z,.inl Z,⟨_,_,Z,⟨_,Z,.inr ⟨_,_,Z,Z,Zb (AV.own (.tok 6004 1) 7) M⟩⟩,ce⟩⟩⟩⟩⟩⟩,trivial⟩ Z ?_
      exact YD
    |true =>
     by_cases k2:xk=2;rotate_left
     ·have e2:(xk==2)=false:=by simpa using k2
      have hb':((Y==3)&&(dZ J ts).2)=(false&&(dZ (J.drop (i+1)) ts).2):=by rw[V];simp[k2]
      repeat' (first|refine sz ?_|refine zc ?_ ?_|(intro h;first|(cases h;done)|rw[h]|skip)|refine uI Z (i) Z (eo I) Z ?_|refine uC Z hq ?_|(refine uA Z ?_ ?_<;>(try (show(_:Nat)*_<=_;dsimp only))))
      ·have h1:=aB acc;simp only[aac,aad];omega
      ·have M:aa acc++[bO (Vl.mk 11 0 0 [] q [] [])]=aa (acc++[(Vl.mk 11 0 0 [] q [] [])]):=(gJ acc [_]).symm;refine AK.fL [(2,2),(4,4),(6,6)] [(6004,(0,some 6004))] (env':=[(171,.c (.int .i64 ((i+1:Nat):Int))),(170,.c (.int .i64 (aG J).length)),(169,.c (.sl 5 (aG J))),(7,.c (.bool false)),(2,.ptr 2 0),(4,.ptr 4 0),(6,.ptr 6 0)])
        (bs':=[(2,[.c (.int .i64 13),.c (.sl 2 (au ts))]),(4,[.c (.int .i64 0),.c (.int .i64 0),.c (.int .i64 0),.c (.str []),.own .exact 7 [],.own .exact 2 [],.own .exact 5 []]),(6,[.c (.int .i64 13),.c (.int .i64 0),.c (.int .i64 0),.c (.str []),.own (.tok 6004 0) 7 (aa (acc++[(Vl.mk 11 0 0 [] q [] [])])),.own .exact 2 [],.own .exact 5 []])]) (ts':=[(6004,0)]) (us':=[2,4,6,6004])
        ⟨⟨_,Z,.inl (jV (i:=i) bn)⟩,⟨_,Z,.inl Z⟩,⟨_,Z,.inl Z⟩,⟨_,Z,.inl Z⟩,⟨_,Z,⟨_,Z,Z⟩⟩,⟨_,Z,⟨_,Z,Z⟩⟩,⟨_,Z,⟨_,Z,Z⟩⟩,trivial⟩ ⟨ce,ce,⟨_,_,Z,Z,⟨_,_,Z,.inl Z,⟨_,_,Z,.inl Z,⟨_,_,Z,.inl Z,⟨_,_,Z,.inl Z,⟨_,_,Z,⟨_,Z,.inr ⟨_,_,Z,Z,Zb (AV.own (.tok 6004 1) 7) M⟩⟩,ce⟩⟩⟩⟩⟩⟩,trivial⟩ Z ?_
       exact ih (i+1,acc++[(Vl.mk 11 0 0 [] q [] [])],false) ⟨h2,Ya,W,hb'⟩ fk
     subst k2;have hb':((Y==3)&&(dZ J ts).2)=((xp==28)&&(dZ (J.drop (i+1)) ts).2):=by rw[V,int_eq];simp
     repeat' (first|refine sz ?_|refine zc ?_ ?_|(intro h;first|(cases h;done)|rw[h]|skip)|refine uI Z (i) Z (eo I) Z ?_|refine uC Z hq ?_|(refine uA Z ?_ ?_<;>(try (show(_:Nat)*_<=_;dsimp only))))
     ·have h1:=aB acc;simp only[aac,aad];omega
     ·have M:aa acc++[bO (Vl.mk 11 0 0 [] q [] [])]=aa (acc++[(Vl.mk 11 0 0 [] q [] [])]):=(gJ acc [_]).symm;refine AK.fL [(2,2),(4,4),(6,6)] [(6004,(0,some 6004))] (env':=[(171,.c (.int .i64 ((i+1:Nat):Int))),(170,.c (.int .i64 (aG J).length)),(169,.c (.sl 5 (aG J))),(7,.c (.bool (xp==28))),(2,.ptr 2 0),(4,.ptr 4 0),(6,.ptr 6 0)])
       (bs':=[(2,[.c (.int .i64 13),.c (.sl 2 (au ts))]),(4,[.c (.int .i64 0),.c (.int .i64 0),.c (.int .i64 0),.c (.str []),.own .exact 7 [],.own .exact 2 [],.own .exact 5 []]),(6,[.c (.int .i64 13),.c (.int .i64 0),.c (.int .i64 0),.c (.str []),.own (.tok 6004 0) 7 (aa (acc++[(Vl.mk 11 0 0 [] q [] [])])),.own .exact 2 [],.own .exact 5 []])]) (ts':=[(6004,0)]) (us':=[2,4,6,6004])
       ⟨⟨_,Z,.inl (jV (i:=i) bn)⟩,⟨_,Z,.inl Z⟩,⟨_,Z,.inl Z⟩,⟨_,Z,.inl Z⟩,⟨_,Z,⟨_,Z,Z⟩⟩,⟨_,Z,⟨_,Z,Z⟩⟩,⟨_,Z,⟨_,Z,Z⟩⟩,trivial⟩ ⟨ce,ce,⟨_,_,Z,Z,⟨_,_,Z,.inl Z,⟨_,_,Z,.inl Z,⟨_,_,Z,.inl Z,⟨_,_,Z,.inl Z,⟨_,_,Z,⟨_,Z,.inr ⟨_,_,Z,Z,Zb (AV.own (.tok 6004 1) 7) M⟩⟩,ce⟩⟩⟩⟩⟩⟩,trivial⟩ Z ?_
      exact ih (i+1,acc++[(Vl.mk 11 0 0 [] q [] [])],(xp==28)) ⟨h2,Ya,W,hb'⟩ fk
  have hT:T=8\/T=14\/T=15:=by have:=Jr JJ;omega
  rw[XU T Y N P hT];rcases hT with rfl|rfl|rfl
  ·refine qn func143 call143 λβ hf=>?_;refine AK.seq ?_;refine AK.region mixed Z ?_
   repeat' (first|refine so ?_|refine zu ?_ ?_|(intro h;first|(cases h;done)|rw[h]|skip)|(refine uA Z ?_ ?_<;>(try (show(_:Nat)*_<=_;dsimp only))))
   refine AK.freeze 3 Z Z Z Z ?_;exact dq
  ·refine qn func143 call143 λβ hf=>?_;refine AK.seq ?_;refine AK.region mixed Z ?_
   repeat' (first|refine so ?_|refine zu ?_ ?_|(intro h;first|(cases h;done)|rw[h]|skip)|(refine uA Z ?_ ?_<;>(try (show(_:Nat)*_<=_;dsimp only))))
   refine AK.freeze 3 Z Z Z Z ?_;exact dq
  ·refine qn func143 call143 λβ hf=>?_;refine AK.seq ?_;refine AK.region mixed Z ?_
   repeat' (first|refine so ?_|refine zu ?_ ?_|(intro h;first|(cases h;done)|rw[h]|skip)|(refine uA Z ?_ ?_<;>(try (show(_:Nat)*_<=_;dsimp only))))
   refine AK.freeze 3 Z Z Z Z ?_;exact dq
termination_by n=>SizeOf.sizeOf n
decreasing_by
 ·have h1:=Zp I;simp at h1 ⊢;omega
 ·have h1:=Zp I;have h2:=Zp hy;simp at h1 h2 ⊢;omega
end Go.Proofs
namespace Go.Proofs
open Go.cM
def bV(rows:L CV)(l:L UInt8)(b:UInt8)(z:Int)(h:z=(b.toNat:Int)):rows++cB l++[CV.int .u8 z]=rows++cB (l++[b]):=by
 subst h;simp[cB]
def C2:∀(k m c:Nat),m<128^k->(zn c m).length<=k+1
 |0,m,c,h=>by
  obtain rfl:m=0:=by simpa using h
  rw[lD];simp
 |k+1,m,c,h=>by
  by_cases Y:m=0
  ·subst Y;rw[lD];simp
  ·rw[mM _ _ Y];have:=C2 k (m/128) (m%128) (by rw[Nat.pow_succ]at h;omega);simp only[aac];omega
def o9{n:Int}(h1 : -bL<=n)(h2:n<=bL):(iC n).length<=10:=by
 unfold iC;refine C2 9 _ _ ?_;unfold bL at h1 h2;omega
attribute [local irreducible] AK ah aZ cx
def Js{rows:L CV}{acc:L UInt8}{c:Nat}(h:c<128):rows++cB acc++[CV.int .u8 (IntKind.u8.wrap (((BitVec.ofInt 8 (c:Int))|||(BitVec.ofInt 8 128)).toNat))]=rows++cB (acc++[Go.cM.byteOf ((c+128:Nat):Int)]):=by
 refine bV rows acc _ _ ?_;rw[Wd h,hM _ bn]
def Tz{n:Int}(h1 : -bL<=n)(h2:n<=bL)(E:n<0):IntKind.u8.wrap (((BitVec.ofInt 8 64)|||(BitVec.ofInt 8 (IntKind.u8.wrap (i64.wrap (((BitVec.ofInt 64 (i64.wrap (0-n)))&&&(BitVec.ofInt 64 63)).toNat))))).toNat)=((64+n.natAbs%64:Nat):Int):=by
 unfold bL at h1 h2;rw[gF (n:=0-n) bn bn,show 0-n=((n.natAbs:Nat):Int)from by omega,G0 bn,JP (a:=n.natAbs%64) bn];exact Sb ⟨n.natAbs%64,bn⟩
def RM{n:Int}(h1 : -bL<=n)(h2:n<=bL)(E:n<0):(i64.wrap (0-n)).fdiv (2^(min 6 64))=((n.natAbs/64:Nat):Int):=by
 unfold bL at h1 h2;rw[gF (n:=0-n) bn bn,show 0-n=((n.natAbs:Nat):Int)from by omega];exact AF n.natAbs 6
def TA{n:Int}(h1 : -bL<=n)(h2:n<=bL)(E:¬n<0):IntKind.u8.wrap (((BitVec.ofInt 8 0)|||(BitVec.ofInt 8 (IntKind.u8.wrap (i64.wrap (((BitVec.ofInt 64 n)&&&(BitVec.ofInt 64 63)).toNat))))).toNat)=((0+n.natAbs%64:Nat):Int):=by
 unfold bL at h1 h2;obtain⟨a,rfl⟩:∃a:Nat,n=a:=⟨n.toNat,bn⟩
 rw[G0 bn,JP (a:=a%64) bn];exact or_none ⟨a%64,bn⟩
def RN{n:Int}(h1 : -bL<=n)(h2:n<=bL)(E:¬n<0):n.fdiv (2^(min 6 64))=((n.natAbs/64:Nat):Int):=by
 obtain⟨a,rfl⟩:∃a:Nat,n=a:=⟨n.toNat,bn⟩
 exact AF a 6
def RO{m:Nat}(h:m<9223372036854775808):IntKind.u8.wrap (i64.wrap (((BitVec.ofInt 64 (m:Int))&&&(BitVec.ofInt 64 127)).toNat))=((m%128:Nat):Int):=by
 rw[O0 h,JP bn]
def vj(rows:L CV)(n:Int)(h1 : -bL<=n)(h2:n<=bL)(B:rows.length<=1099511627776) :
  fA 195 [.v (.own 1 rows),.v (.c (.int .i64 n))] [.own 1 (rows++cB (iC n))] []:=by
 have H:n.natAbs<=1152921504606846976:=by unfold bL at h1 h2;omega
 by_cases E:n<0
 ·have C:decide (n<0)=true:=aaw E;refine en func195 call195 [(0,.own (.tok 1000000 0) 1 (rows)),(1,.c (.int .i64 n))] [] [(1000000,0)] [1000000] λβ hf=>?_
  repeat' (first|refine pe ?_|refine ze ?_ ?_|(intro h;first|(cases h;done)|rw[h]|skip)|(refine uA Z ?_ ?_<;>(try (show(_:Nat)*_<=_;dsimp only))))
  refine AK.eX (α:=Nat×Nat×L UInt8) (λz=>z.1<128/\z.2.1<=1152921504606846976/\z.2.2.length<=10/\iC n=z.2.2++zn z.1 z.2.1) (λz=>z.2.1)
   (λz=>[(5,.c (.int .u8 z.1)),(1,.c (.int .i64 z.2.1)),(0,.own (.tok 1000000 0) 1 (rows++cB z.2.2))]) (λ_=>[]) (λ_=>[(1000000,0)]) [1000000] (64+n.natAbs%64,n.natAbs/64,[])
   ⟨by show 64+n.natAbs%64<128;omega,by show n.natAbs/64<=_;omega,ek,by unfold iC;rw[if_pos E];rfl⟩ ⟨.inl (Zb (λz=>some (AV.c (CV.int .u8 z))) (Tz h1 h2 E)),.inl (Zb (λz=>some (AV.c (CV.int .i64 z))) (RM h1 h2 E)),.inl (Zb (λl=>some (AV.own (.tok 1000000 0) 1 l)) (Zc rows).symm),trivial⟩ trivial ⟨Z,trivial⟩ Z Z Z ?_
  rintro⟨c,m,acc⟩ ⟨A,U,T,Y⟩ ih;simp only at A U T Y;by_cases W:m=0
  ·have S:decide ((m:Int)>0)=false:=aax bn;rw[W,lD]at Y;clear ih
   repeat' (first|refine pe ?_|refine ze ?_ ?_|(intro h;first|(cases h;done)|rw[h]|skip)|(refine uA Z ?_ ?_<;>(try (show(_:Nat)*_<=_;dsimp only))))
   ·simp only[aay,aap,aac,aad];omega
   ·show(_:L LV)=_;rw[Y];exact Y3
  ·have S:decide ((m:Int)>0)=true:=aaw bn;rw[mM _ _ W]at Y;have V:=o9 h1 h2;rw[Y]at V;simp only[aay,aac]at V
   repeat' (first|refine pe ?_|refine ze ?_ ?_|(intro h;first|(cases h;done)|rw[h]|skip)|(refine uA Z ?_ ?_<;>(try (show(_:Nat)*_<=_;dsimp only))))
   ·simp only[aay,aap,aac,aad];omega
   ·refine AK.fL [] [(1000000,(0,some 1000000))] (env':=[(5,.c (.int .u8 ((m%128:Nat):Int))),(1,.c (.int .i64 ((m/128:Nat):Int))),(0,.own (.tok 1000000 0) 1 (rows++cB (acc++[Go.cM.byteOf ((c+128:Nat):Int)])))])
     (bs':=[]) (ts':=[(1000000,0)]) (us':=[1000000])
     ⟨⟨_,Z,.inl (Zb (λz=>AV.c (CV.int .u8 z)) (RO (m:=m) bn))⟩,⟨_,Z,.inl (Zb (λz=>AV.c (CV.int .i64 z)) (AF m 7))⟩,⟨_,Z,⟨_,Z,.inr ⟨_,_,Z,Z,Zb (AV.own (.tok 1000000 1) 1) (Js A)⟩⟩⟩,trivial⟩ trivial Z ?_
    refine ih (m%128,m/128,acc++[Go.cM.byteOf ((c+128:Nat):Int)]) ⟨by show m%128<128;omega,by show m/128<=_;omega,u7,by show iC n=_;rw[Y];simp⟩ (by show m/128<m;omega)
 ·have C:decide (n<0)=false:=aax E;refine en func195 call195 [(0,.own (.tok 1000000 0) 1 (rows)),(1,.c (.int .i64 n))] [] [(1000000,0)] [1000000] λβ hf=>?_
  repeat' (first|refine pe ?_|refine ze ?_ ?_|(intro h;first|(cases h;done)|rw[h]|skip)|(refine uA Z ?_ ?_<;>(try (show(_:Nat)*_<=_;dsimp only))))
  refine AK.eX (α:=Nat×Nat×L UInt8) (λz=>z.1<128/\z.2.1<=1152921504606846976/\z.2.2.length<=10/\iC n=z.2.2++zn z.1 z.2.1) (λz=>z.2.1)
   (λz=>[(5,.c (.int .u8 z.1)),(1,.c (.int .i64 z.2.1)),(0,.own (.tok 1000000 0) 1 (rows++cB z.2.2))]) (λ_=>[]) (λ_=>[(1000000,0)]) [1000000] (0+n.natAbs%64,n.natAbs/64,[])
   ⟨by show 0+n.natAbs%64<128;omega,by show n.natAbs/64<=_;omega,ek,by unfold iC;rw[if_neg E];rfl⟩ ⟨.inl (Zb (λz=>some (AV.c (CV.int .u8 z))) (TA h1 h2 E)),.inl (Zb (λz=>some (AV.c (CV.int .i64 z))) (RN h1 h2 E)),.inl (Zb (λl=>some (AV.own (.tok 1000000 0) 1 l)) (Zc rows).symm),trivial⟩ trivial ⟨Z,trivial⟩ Z Z Z ?_
  rintro⟨c,m,acc⟩ ⟨A,U,T,Y⟩ ih;simp only at A U T Y;by_cases W:m=0
  ·have S:decide ((m:Int)>0)=false:=aax bn;rw[W,lD]at Y;clear ih
   repeat' (first|refine pe ?_|refine ze ?_ ?_|(intro h;first|(cases h;done)|rw[h]|skip)|(refine uA Z ?_ ?_<;>(try (show(_:Nat)*_<=_;dsimp only))))
   ·simp only[aay,aap,aac,aad];omega
   ·show(_:L LV)=_;rw[Y];exact Y3
  ·have S:decide ((m:Int)>0)=true:=aaw bn;rw[mM _ _ W]at Y;have V:=o9 h1 h2;rw[Y]at V;simp only[aay,aac]at V
   repeat' (first|refine pe ?_|refine ze ?_ ?_|(intro h;first|(cases h;done)|rw[h]|skip)|(refine uA Z ?_ ?_<;>(try (show(_:Nat)*_<=_;dsimp only))))
   ·simp only[aay,aap,aac,aad];omega
   ·refine AK.fL [] [(1000000,(0,some 1000000))] (env':=[(5,.c (.int .u8 ((m%128:Nat):Int))),(1,.c (.int .i64 ((m/128:Nat):Int))),(0,.own (.tok 1000000 0) 1 (rows++cB (acc++[Go.cM.byteOf ((c+128:Nat):Int)])))])
     (bs':=[]) (ts':=[(1000000,0)]) (us':=[1000000])
     ⟨⟨_,Z,.inl (Zb (λz=>AV.c (CV.int .u8 z)) (RO (m:=m) bn))⟩,⟨_,Z,.inl (Zb (λz=>AV.c (CV.int .i64 z)) (AF m 7))⟩,⟨_,Z,⟨_,Z,.inr ⟨_,_,Z,Z,Zb (AV.own (.tok 1000000 1) 1) (Js A)⟩⟩⟩,trivial⟩ trivial Z ?_
    refine ih (m%128,m/128,acc++[Go.cM.byteOf ((c+128:Nat):Int)]) ⟨by show m%128<128;omega,by show m/128<=_;omega,u7,by show iC n=_;rw[Y];simp⟩ (by show m/128<m;omega)
end Go.Proofs
