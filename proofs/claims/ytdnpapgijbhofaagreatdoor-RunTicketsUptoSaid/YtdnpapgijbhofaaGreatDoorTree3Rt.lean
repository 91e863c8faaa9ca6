/- What row and parse of package value answer. -/
import Derived.Test.YtdnpapgijbhofaaGreatDoorVal4Rt
import Derived.Test.YtdnpapgijbhofaaGreatDoorVParRt
import Derived.Test.YtdnpapgijbhofaaGreatDoorChk3Rt
open Go.IntKind
open Go.Proofs.Tryz
set_option linter.defProp false
set_option maxHeartbeats 0
set_option linter.unusedVariables false
set_option linter.unusedSimpArgs false
set_option maxRecDepth 100000
namespace Go.Proofs
open Go.cB
def gQ:∀(a:L Vl)(b:L Vl),aa (a++b)=aa a++aa b
 |[],b=>rfl
 |x::a,b=>by simp only[abh,aa,gQ a b]
def Ql(x:Nd)(l:L Nd)(t:Ty)(r:L Ty):eD (x::l) (t::r)=if(dz x t).2=true then glue [(dz x t).1] (eD l r)else([],false):=by simp only[eD]
def TU:eD [] []=([],true):=by simp only[eD]
def Qm(acc:L Vl)(x:Vl)(z:L Vl×Bool):glue acc (glue [x] z)=glue (acc++[x]) z:=Qn acc [x] z
def VL(acc:L Vl):glue acc ([],false)=([],false):=rfl
def TV(acc:L Vl):glue acc ([],true)=(acc,true):=by simp[glue]
def IL(x:Nd)(l:L Nd)(t:Ty):eO (x::l) t=((dz x t).1::(eO l t).1,(dz x t).2&&(eO l t).2):=by simp only[eO]
def K9(t:Ty):eO [] t=([],true):=by simp only[eO]
def IM(u N P:Int)(S:L UInt8)(xs:L Nd)(l:L Nd)(ts:L Ty):eo (.mk u N P S xs::l) ts=(.mk 11 0 0 [] (eD xs ts).1 [] []::(eo l ts).1,((eD xs ts).2&&decide (u=2/\P=28))&&(eo l ts).2):=by simp only[eo]
def La(ts:L Ty):eo [] ts=([],true):=by simp only[eo]
def Z2(u N P:Int)(S:L UInt8)(args:L Nd)(ts:L Ty):dz (.mk u N P S args) (.mk 1 ts)=(qe 1,decide (u=2/\P=20/\args.length=0)):=by simp[dz,cq]
def Z3(u N P:Int)(S:L UInt8)(args:L Nd)(ts:L Ty):dz (.mk u N P S args) (.mk 2 ts)=(.mk 2 (i64.wrap (22-P)) 0 [] [] [] [],decide (u=2/\(P=21\/P=22)/\args.length=0)):=by simp[dz,cq]
def O2(T u N P:Int)(q:T=3\/T=4\/T=5\/T=7)(S:L UInt8)(args:L Nd)(ts:L Ty):dz (.mk u N P S args) (.mk T ts)=(.mk T N 0 [] [] [] [],decide (u=0)):=by rcases q with rfl|rfl|rfl|rfl<;>simp[dz,cq]
def Z4(u N P:Int)(S:L UInt8)(args:L Nd)(ts:L Ty):dz (.mk u N P S args) (.mk 6 ts)=(.mk 6 0 0 S [] [] [],decide (u=1)):=by simp[dz,cq]
def X6(N:Int)(S:L UInt8)(args:L Nd)(ts:L Ty):dz (.mk 2 N 27 S args) (.mk 9 ts)=(qe 9,decide (args.length=0)):=by simp[dz,cq]
def X7(N:Int)(S:L UInt8)(args:L Nd)(ts:L Ty):dz (.mk 2 N 26 S args) (.mk 9 ts)=(.mk 9 0 0 [] (eD args ts).1 [] [],(eD args ts).2):=by simp[dz,cq,aK]
def X8(u N P:Int)(S:L UInt8)(args:L Nd)(ts:L Ty)(h1:¬(u=2/\P=27))(h2:¬(u=2/\P=26)):dz (.mk u N P S args) (.mk 9 ts)=(qe 9,false):=by simp[dz,cq,h1,h2]
def VM(N:Int)(S:L UInt8)(args:L Nd)(ts:L Ty):dz (.mk 2 N 23 S args) (.mk 11 ts)=(.mk 11 0 0 [] (eD args ts).1 [] [],(eD args ts).2):=by simp[dz,cq,aK]
def VN(u N P:Int)(S:L UInt8)(args:L Nd)(ts:L Ty)(h1:¬(u=2/\P=23)):dz (.mk u N P S args) (.mk 11 ts)=(qe 11,false):=by simp[dz,cq,h1]
def VO(N:Int)(S:L UInt8)(args:L Nd)(u M:Ty):dz (.mk 2 N 24 S args) (.mk 12 [u,M])=(.mk 12 0 0 [] (eD args [u]).1 [] [],(eD args [u]).2):=by simp[dz,cq,aG,aK]
def VP(N:Int)(S:L UInt8)(args:L Nd)(u M:Ty):dz (.mk 2 N 25 S args) (.mk 12 [u,M])=(.mk 12 1 0 [] (eD args [M]).1 [] [],(eD args [M]).2):=by simp[dz,cq,aG,aK]
def VQ(u N P:Int)(S:L UInt8)(args:L Nd)(ts:L Ty)(h1:¬(u=2/\P=24))(h2:¬(u=2/\P=25)):dz (.mk u N P S args) (.mk 12 ts)=(qe 12,false):=by simp[dz,cq,h1,h2]
def X9(H N P:Int)(S:L UInt8)(args:L Nd)(u:Ty):dz (.mk H N P S args) (.mk 10 [u])=(.mk 10 0 0 [] (eO args u).1 [] [],decide (H=3)&&(eO args u).2):=by simp[dz,cq,aG,aK]
def Ya(u N P:Int)(S:L UInt8)(args:L Nd)(ts:L Ty):dz (.mk u N P S args) (.mk 13 ts)=(.mk 13 0 0 [] (eo args ts).1 [] [],decide (u=3)&&(eo args ts).2):=by simp[dz,cq,aK]
def Z5(T u N P:Int)(q:T=8\/T=14\/T=15)(S:L UInt8)(args:L Nd)(ts:L Ty):dz (.mk u N P S args) (.mk T ts)=(qe T,false):=by rcases q with rfl|rfl|rfl<;>simp[dz,cq]
attribute [local irreducible] AK ai aR bW dz eD eO eo
def aR.weaken{P:Program}{X:Ctx}{f:FuncId}{args:L CV}{r Y:CV}(h:∀G v,Rel G r v->Rel G Y v)(q:aR P X f args r):aR P X f args Y:=by unfold aR at q ⊢;refine⟨q.1,λG w vs h1 h2 U=>?_⟩;exact Calls.mono (q.2 G w vs h1 h2 U) λe w' ⟨u,W,B,V,T⟩=>⟨u,W,B,h W u V,T⟩
def N9{G:ja}{s t:Nat}{v:Value}(h:Rel G (.sl s []) v):Rel G (.sl t []) v:=by obtain⟨base,B,E,Y,W,U,_⟩:=h;exact⟨base,B,E,Y,W,U,.inl rfl⟩
def TW{G:ja}{s t:Nat}{b:Bool}{v:Value}(h:Rel G (.fG [.sl s [],.bool b]) v):Rel G (.fG [.sl t [],.bool b]) v:=by obtain⟨vs,Y,B,U⟩:=h;refine⟨vs,Y,?_,c9⟩;obtain⟨u,us,O,A,p⟩:=B;exact⟨u,us,O,N9 A,p⟩
def Z6:L Vl×Bool->CV
 |(q,true) => .fG [.sl 7 (aa q),.bool true]
 |(_,false) => .fG [.sl 0 [],.bool false]
def fB(u N P q:Int)(S:L UInt8)(args:L Nd):af 170 [.int .i64 q,.ip [.int .i64 u,.int .i64 N,.int .i64 P,.str S,.sl 5 (aD args)]] (.bool (decide (u=2/\P=q))):=by
 refine qn func170 call170 λβ hf=>?_
 repeat' (first|refine sz ?_|refine zc ?_ ?_|(intro h;first|(cases h;done)|rw[h]|skip))
 all_goals
  show(_:CV)=_;clear hf;refine aaZ CV.bool ?_;rw[abP]
  (try simp_all)<;>(try omega)
def NH(ts:L Ty)(l:L Nd)(H:l.length<=1099511627776)(D:∀x∈l,∀t∈ts,af 143 [dA t,aS x] (.fG [bA (dz x t).1,.bool (dz x t).2])) :
  af 171 [.sl 2 (aj ts),.sl 5 (aD l)] (Z6 (eD l ts)):=by
 by_cases T:l.length=ts.length;rotate_left
 ·have q:((((aj ts).length:Nat):Int) != (((aD l).length:Nat):Int))=true:=by rw[aL,bf];simp;omega
  rw[Lb l ts T];exact qdq func171 call171
 have q:((((aj ts).length:Nat):Int) != (((aD l).length:Nat):Int))=false:=by rw[aL,bf];simp;omega
 refine qn func171 call171 λβ hf=>?_
 repeat' (first|refine sz ?_|refine zc ?_ ?_|(intro h;first|(cases h;done)|rw[h]|skip)|(refine uA Z ?_ ?_<;>(try (show(_:Nat)*_<=_;dsimp only))))
 refine AK.fQ [] [(6000,(0,none))] (env':=[(17,.c (.int .i64 (0:Nat))),(16,.c (.int .i64 (aD l).length)),(0,.c (.sl 2 (aj ts))),(1,.c (.sl 5 (aD l))),(6,.own (.tok 6000 0) 7 [])])
  (bs':=[]) (ts':=[(6000,0)]) (us':=[6000])
  ce  trivial Z ?_
 refine AK.dI (α:=Nat×L Vl) (λz=>z.1<=l.length/\z.1=z.2.length/\eD l ts=glue z.2 (eD (l.drop z.1) (ts.drop z.1))) (λz=>l.length-z.1)
  (λz=>[(17,.c (.int .i64 z.1)),(16,.c (.int .i64 (aD l).length)),(0,.c (.sl 2 (aj ts))),(1,.c (.sl 5 (aD l))),(6,.own (.tok 6000 0) 7 (aa z.2))]) (λ_=>[]) (λ_=>[(6000,0)]) [6000] (0,[])
  ⟨bn,Z,by rw[TX _ (Ea _ _)];rfl⟩ ce trivial ⟨Z,trivial⟩ Z Z Z ?_
 rintro⟨i,acc⟩ ⟨E,Q,Y⟩ ih;simp only at E Q Y;rcases eI l i E with ⟨x,O,u⟩|P
 ·have M:=l8 O;have h2:=bh O;obtain⟨t,A⟩:∃t,ts[i]?=some t:=⟨ts[i]' bn,c9⟩;have hq:=D x u t (aap A);rw[cQ O,cQ A,Ql]at Y;rcases K:dz x t with ⟨⟨W,N,p,B,C,V,S⟩,b⟩
  rw[K]at hq Y;obtain⟨G,xn,xp,xs,xa⟩:=x;obtain⟨U,us⟩:=t;cases b with
  |false =>
   rw[if_neg c9,VL]at Y;rw[Y];clear ih Y;have wq:=eZ A;have Eu:=ew O;exact dq
  |true =>
   rw[if_pos Z,Qm]at Y
   repeat' (first|refine sz ?_|refine zc ?_ ?_|(intro h;first|(cases h;done)|rw[h]|skip)|refine uI Z (i) Z (eZ A) Z ?_|refine uI Z (i) Z (ew O) Z ?_|refine uC Z hq ?_|(refine uA Z ?_ ?_<;>(try (show(_:Nat)*_<=_;dsimp only))))
   have h1:=az acc;simp only[aaa,aab];omega;have I:aa acc++[bA (.mk W N p B C V S)]=aa (acc++[Vl.mk W N p B C V S]):=(gQ acc [_]).symm;refine AK.fQ [] [(6000,(0,some 6000))] (env':=[(17,.c (.int .i64 ((i+1:Nat):Int))),(16,.c (.int .i64 (aD l).length)),(0,.c (.sl 2 (aj ts))),(1,.c (.sl 5 (aD l))),(6,.own (.tok 6000 0) 7 (aa (acc++[Vl.mk W N p B C V S])))])
    (bs':=[]) (ts':=[(6000,0)]) (us':=[6000])
    ⟨⟨_,Z,.inl (ku (i:=i) bn)⟩,⟨_,Z,.inl Z⟩,⟨_,Z,.inl Z⟩,⟨_,Z,.inl Z⟩,⟨_,Z,⟨_,Z,.inr ⟨_,_,Z,Z,aaZ (AV.own (.tok 6000 1) 7) I⟩⟩⟩,trivial⟩ trivial Z ?_
   exact ih (i+1,acc++[Vl.mk W N p B C V S]) ⟨h2,by simp[Q],Y⟩ nu
 have M:=jH P;have J:eD l ts=(acc,true):=by rw[Y,P,T,aaW,<- T,aaW,TU,TV]
 rw[J];clear ih Y;exact dq
def wh(ts:L Ty)(l:L Nd)(V:l.length<=1099511627776)(D:∀x∈l,∀t∈ts,af 143 [dA t,aS x] (.fG [bA (dz x t).1,.bool (dz x t).2])) :
  af 171 [.sl 2 (aj ts),.sl 5 (aD l)] (.fG [.sl 7 (aa (eD l ts).1),.bool (eD l ts).2]):=by
 have h:=NH ts l V D;have hf:=Ea l ts;rcases A:eD l ts with ⟨q,b⟩
 rw[A]at h hf;cases b with
 |true=>exact h
 |false =>
  obtain rfl:=hf rfl;exact aR.weaken (λG v Y=>TW Y) h
end Go.Proofs
namespace Go.Proofs
open Go.cB
def IN(l:L Nd)(b:Prop)[Decidable b](h:b↔l.length=0):((((aD l).length:Nat):Int)==0)=decide b:=by rw[bf,abP];simp[h]
def int_eq(a b:Int):(a==b)=decide (a=b):=by rw[abP];simp
attribute [local irreducible] AK ai aR bW dz eD eO eo
def sK:∀(n:Nd)(t:Ty),fY t=false->bR n<=8589934593->bp t<=8589934593->af 143 [dA t,aS n] (.fG [bA (dz n t).1,.bool (dz n t).2])
 |.mk H N P S args,.mk T ts,hb,hn,ht=>by
  simp only[bR]at hn;simp only[bp]at ht;have Cf:=gA args;have M:∀x∈args,∀u,fY u=false->bp u<=8589934593->af 143 [dA u,aS x] (.fG [bA (dz x u).1,.bool (dz x u).2]):=λx O u h1 h2=>sK x u h1 (by have:=eR O;omega) h2;have W0:∀k n p s J,Nd.mk k n p s J∈args->∀y∈J,∀u,fY u=false->bp u<=8589934593->af 143 [dA u,aS y] (.fG [bA (dz y u).1,.bool (dz y u).2]):=λk n p s J O y hy u h1 h2=>sK y u h1 (by have h3:=eR O;have h4:=eR hy;simp only[bR]at h3;omega) h2;obtain⟨Lu,jS⟩:=gH hb;simp only[cq,aK]at Lu jS;have B:af 171 [.sl 2 (aj ts),.sl 5 (aD args)] (.fG [.sl 7 (aa (eD args ts).1),.bool (eD args ts).2]) :=
   wh ts args bn λx O u hu=>M x O u (cN jS hu) (by have:=b9 hu;omega)
  by_cases c:T=1
  ·subst c;rw[Z2];by_cases W:H=2/\P=20
   ·obtain⟨rfl,rfl⟩:=W;have h1:=fB 2 N 20 20 S args;rw[show decide ((2:Int)=2/\(20:Int)=20)=true from rfl]at h1;have e:=IN args ((2:Int)=2/\(20:Int)=20/\args.length=0) c9;refine qn func143 call143 λβ hf=>?_;refine AK.seq ?_;refine AK.region mixed Z ?_
    repeat' (first|refine so ?_|refine zu ?_ ?_|(intro h;first|(cases h;done)|rw[h]|skip)|(refine uA Z ?_ ?_<;>(try (show(_:Nat)*_<=_;dsimp only))))
    refine AK.freeze 3 Z Z Z Z ?_
    repeat' (first|refine sz ?_|refine zc ?_ ?_|(intro h;first|(cases h;done)|rw[h]|skip)|refine uC Z h1 ?_|(refine uA Z ?_ ?_<;>(try (show(_:Nat)*_<=_;dsimp only))))
    all_goals exact aaZ (λb=>CV.fG [bA (qe 1),CV.bool b]) e
   have h1:=fB H N P 20 S args;rw[show decide (H=2/\P=20)=false from aan W]at h1;rw[show decide (H=2/\P=20/\args.length=0)=false from aan (λh=>W ⟨h.1,h.2.1⟩)];refine qn func143 call143 λβ hf=>?_;refine AK.seq ?_;refine AK.region mixed Z ?_
   repeat' (first|refine so ?_|refine zu ?_ ?_|(intro h;first|(cases h;done)|rw[h]|skip)|(refine uA Z ?_ ?_<;>(try (show(_:Nat)*_<=_;dsimp only))))
   refine AK.freeze 3 Z Z Z Z ?_;exact dq
  by_cases c:T=2
  ·subst c;rw[Z3];by_cases W:H=2/\P=21
   ·obtain⟨rfl,rfl⟩:=W;have h1:=fB 2 N 21 21 S args;have h2:=fB 2 N 21 22 S args;rw[show decide ((2:Int)=2/\(21:Int)=21)=true from rfl]at h1;rw[show decide ((2:Int)=2/\(21:Int)=22)=false from rfl]at h2;have e:=IN args ((2:Int)=2/\((21:Int)=21\/(21:Int)=22)/\args.length=0) c9;refine qn func143 call143 λβ hf=>?_;refine AK.seq ?_;refine AK.region mixed Z ?_
    repeat' (first|refine so ?_|refine zu ?_ ?_|(intro h;first|(cases h;done)|rw[h]|skip)|(refine uA Z ?_ ?_<;>(try (show(_:Nat)*_<=_;dsimp only))))
    refine AK.freeze 3 Z Z Z Z ?_
    repeat' (first|refine sz ?_|refine zc ?_ ?_|(intro h;first|(cases h;done)|rw[h]|skip)|refine uC Z h1 ?_|refine uC Z h2 ?_|(refine uA Z ?_ ?_<;>(try (show(_:Nat)*_<=_;dsimp only))))
    all_goals exact aaZ (λb=>CV.fG [bA (.mk 2 (i64.wrap (22-21)) 0 [] [] [] []),CV.bool b]) e
   by_cases K:H=2/\P=22
   ·obtain⟨rfl,rfl⟩:=K;have h1:=fB 2 N 22 21 S args;have h2:=fB 2 N 22 22 S args;rw[show decide ((2:Int)=2/\(22:Int)=21)=false from rfl]at h1;rw[show decide ((2:Int)=2/\(22:Int)=22)=true from rfl]at h2;have e:=IN args ((2:Int)=2/\((22:Int)=21\/(22:Int)=22)/\args.length=0) c9;refine qn func143 call143 λβ hf=>?_;refine AK.seq ?_;refine AK.region mixed Z ?_
    repeat' (first|refine so ?_|refine zu ?_ ?_|(intro h;first|(cases h;done)|rw[h]|skip)|(refine uA Z ?_ ?_<;>(try (show(_:Nat)*_<=_;dsimp only))))
    refine AK.freeze 3 Z Z Z Z ?_
    repeat' (first|refine sz ?_|refine zc ?_ ?_|(intro h;first|(cases h;done)|rw[h]|skip)|refine uC Z h1 ?_|refine uC Z h2 ?_|(refine uA Z ?_ ?_<;>(try (show(_:Nat)*_<=_;dsimp only))))
    all_goals exact aaZ (λb=>CV.fG [bA (.mk 2 (i64.wrap (22-22)) 0 [] [] [] []),CV.bool b]) e
   have h1:=fB H N P 21 S args;have h2:=fB H N P 22 S args;rw[aan W]at h1;rw[aan K]at h2;rw[show decide (H=2/\(P=21\/P=22)/\args.length=0)=false from aan (λh=>h.2.1.elim (λg=>W ⟨h.1,g⟩) (λg=>K ⟨h.1,g⟩))];refine qn func143 call143 λβ hf=>?_;refine AK.seq ?_;refine AK.region mixed Z ?_
   repeat' (first|refine so ?_|refine zu ?_ ?_|(intro h;first|(cases h;done)|rw[h]|skip)|(refine uA Z ?_ ?_<;>(try (show(_:Nat)*_<=_;dsimp only))))
   refine AK.freeze 3 Z Z Z Z ?_;exact dq
  by_cases c:T=3
  ·subst c;rw[O2 3 H N P cc,<- int_eq];refine qn func143 call143 λβ hf=>?_;refine AK.seq ?_;refine AK.region mixed Z ?_
   repeat' (first|refine so ?_|refine zu ?_ ?_|(intro h;first|(cases h;done)|rw[h]|skip)|(refine uA Z ?_ ?_<;>(try (show(_:Nat)*_<=_;dsimp only))))
   refine AK.freeze 3 Z Z Z Z ?_;exact dq
  by_cases c:T=4
  ·subst c;rw[O2 4 H N P cc,<- int_eq];refine qn func143 call143 λβ hf=>?_;refine AK.seq ?_;refine AK.region mixed Z ?_
   repeat' (first|refine so ?_|refine zu ?_ ?_|(intro h;first|(cases h;done)|rw[h]|skip)|(refine uA Z ?_ ?_<;>(try (show(_:Nat)*_<=_;dsimp only))))
   refine AK.freeze 3 Z Z Z Z ?_;exact dq
  by_cases c:T=5
  ·subst c;rw[O2 5 H N P cc,<- int_eq];refine qn func143 call143 λβ hf=>?_;refine AK.seq ?_;refine AK.region mixed Z ?_
   repeat' (first|refine so ?_|refine zu ?_ ?_|(intro h;first|(cases h;done)|rw[h]|skip)|(refine uA Z ?_ ?_<;>(try (show(_:Nat)*_<=_;dsimp only))))
   refine AK.freeze 3 Z Z Z Z ?_;exact dq
  by_cases c:T=7
  ·subst c;rw[O2 7 H N P cc,<- int_eq];refine qn func143 call143 λβ hf=>?_;refine AK.seq ?_;refine AK.region mixed Z ?_
   repeat' (first|refine so ?_|refine zu ?_ ?_|(intro h;first|(cases h;done)|rw[h]|skip)|(refine uA Z ?_ ?_<;>(try (show(_:Nat)*_<=_;dsimp only))))
   refine AK.freeze 3 Z Z Z Z ?_;exact dq
  by_cases c:T=6
  ·subst c;rw[Z4,<- int_eq];refine qn func143 call143 λβ hf=>?_;refine AK.seq ?_;refine AK.region mixed Z ?_
   repeat' (first|refine so ?_|refine zu ?_ ?_|(intro h;first|(cases h;done)|rw[h]|skip)|(refine uA Z ?_ ?_<;>(try (show(_:Nat)*_<=_;dsimp only))))
   refine AK.freeze 3 Z Z Z Z ?_;exact dq
  by_cases c:T=9
  ·subst c;by_cases W:H=2/\P=27
   ·obtain⟨rfl,rfl⟩:=W;rw[X6];have h1:=fB 2 N 27 27 S args;rw[show decide ((2:Int)=2/\(27:Int)=27)=true from rfl]at h1;have e:=IN args (args.length=0) Iff.rfl;refine qn func143 call143 λβ hf=>?_;refine AK.seq ?_;refine AK.region mixed Z ?_
    repeat' (first|refine so ?_|refine zu ?_ ?_|(intro h;first|(cases h;done)|rw[h]|skip)|(refine uA Z ?_ ?_<;>(try (show(_:Nat)*_<=_;dsimp only))))
    refine AK.freeze 3 Z Z Z Z ?_
    repeat' (first|refine sz ?_|refine zc ?_ ?_|(intro h;first|(cases h;done)|rw[h]|skip)|refine uC Z h1 ?_|(refine uA Z ?_ ?_<;>(try (show(_:Nat)*_<=_;dsimp only))))
    all_goals exact aaZ (λb=>CV.fG [bA (qe 9),CV.bool b]) e
   by_cases K:H=2/\P=26
   ·obtain⟨rfl,rfl⟩:=K;rw[X7];have h1:=fB 2 N 26 27 S args;rw[show decide ((2:Int)=2/\(26:Int)=27)=false from rfl]at h1;have h2:=fB 2 N 26 26 S args;rw[show decide ((2:Int)=2/\(26:Int)=26)=true from rfl]at h2;generalize eD args ts=z at B;refine qn func143 call143 λβ hf=>?_;refine AK.seq ?_;refine AK.region mixed Z ?_
    repeat' (first|refine so ?_|refine zu ?_ ?_|(intro h;first|(cases h;done)|rw[h]|skip)|(refine uA Z ?_ ?_<;>(try (show(_:Nat)*_<=_;dsimp only))))
    refine AK.freeze 3 Z Z Z Z ?_;exact dq
   rw[X8 _ _ _ _ _ _ W K];have h1:=fB H N P 27 S args;have h2:=fB H N P 26 S args;rw[aan W]at h1;rw[aan K]at h2;refine qn func143 call143 λβ hf=>?_;refine AK.seq ?_;refine AK.region mixed Z ?_
   repeat' (first|refine so ?_|refine zu ?_ ?_|(intro h;first|(cases h;done)|rw[h]|skip)|(refine uA Z ?_ ?_<;>(try (show(_:Nat)*_<=_;dsimp only))))
   refine AK.freeze 3 Z Z Z Z ?_;exact dq
  by_cases c:T=11
  ·subst c;by_cases W:H=2/\P=23
   ·obtain⟨rfl,rfl⟩:=W;rw[VM];have h1:=fB 2 N 23 23 S args;rw[show decide ((2:Int)=2/\(23:Int)=23)=true from rfl]at h1;generalize eD args ts=z at B;refine qn func143 call143 λβ hf=>?_;refine AK.seq ?_;refine AK.region mixed Z ?_
    repeat' (first|refine so ?_|refine zu ?_ ?_|(intro h;first|(cases h;done)|rw[h]|skip)|(refine uA Z ?_ ?_<;>(try (show(_:Nat)*_<=_;dsimp only))))
    refine AK.freeze 3 Z Z Z Z ?_;exact dq
   rw[VN _ _ _ _ _ _ W];have h1:=fB H N P 23 S args;rw[aan W]at h1;refine qn func143 call143 λβ hf=>?_;refine AK.seq ?_;refine AK.region mixed Z ?_
   repeat' (first|refine so ?_|refine zu ?_ ?_|(intro h;first|(cases h;done)|rw[h]|skip)|(refine uA Z ?_ ?_<;>(try (show(_:Nat)*_<=_;dsimp only))))
   refine AK.freeze 3 Z Z Z Z ?_;exact dq
  by_cases c:T=12
  ·subst c;obtain⟨u,u',rfl⟩:=AW (show ts.length=2 by(have:arity 12=2:=by decide);omega);by_cases W:H=2/\P=24
   ·obtain⟨rfl,rfl⟩:=W;rw[VO];have h1:=fB 2 N 24 24 S args;rw[show decide ((2:Int)=2/\(24:Int)=24)=true from rfl]at h1;have h2:=fB 2 N 24 25 S args;rw[show decide ((2:Int)=2/\(24:Int)=25)=false from rfl]at h2;have hr:=wh [u] args bn λx O w G=>M x O w (cN jS WA) MO;generalize eD args [u]=z at hr;refine qn func143 call143 λβ hf=>?_;refine AK.seq ?_;refine AK.region mixed Z ?_
    repeat' (first|refine so ?_|refine zu ?_ ?_|(intro h;first|(cases h;done)|rw[h]|skip)|(refine uA Z ?_ ?_<;>(try (show(_:Nat)*_<=_;dsimp only))))
    refine AK.freeze 3 Z Z Z Z ?_;exact dq
   by_cases K:H=2/\P=25
   ·obtain⟨rfl,rfl⟩:=K;rw[VP];have h1:=fB 2 N 25 24 S args;rw[show decide ((2:Int)=2/\(25:Int)=24)=false from rfl]at h1;have h2:=fB 2 N 25 25 S args;rw[show decide ((2:Int)=2/\(25:Int)=25)=true from rfl]at h2;have hr:=wh [u'] args bn λx O w G=>M x O w (cN jS WA) MO;generalize eD args [u']=z at hr;refine qn func143 call143 λβ hf=>?_;refine AK.seq ?_;refine AK.region mixed Z ?_
    repeat' (first|refine so ?_|refine zu ?_ ?_|(intro h;first|(cases h;done)|rw[h]|skip)|(refine uA Z ?_ ?_<;>(try (show(_:Nat)*_<=_;dsimp only))))
    refine AK.freeze 3 Z Z Z Z ?_;exact dq
   rw[VQ _ _ _ _ _ _ W K];have h1:=fB H N P 24 S args;have h2:=fB H N P 25 S args;rw[aan W]at h1;rw[aan K]at h2;refine qn func143 call143 λβ hf=>?_;refine AK.seq ?_;refine AK.region mixed Z ?_
   repeat' (first|refine so ?_|refine zu ?_ ?_|(intro h;first|(cases h;done)|rw[h]|skip)|(refine uA Z ?_ ?_<;>(try (show(_:Nat)*_<=_;dsimp only))))
   refine AK.freeze 3 Z Z Z Z ?_;exact dq
  by_cases c:T=10
  ·subst c;obtain⟨u,rfl⟩:=Lc (show ts.length=1 by(have:arity 10=1:=by decide);omega);rw[X9,<- int_eq];have hu:fY u=false:=cN jS c9;have tP:bp u<=8589934593:=by have:=b9 (l:=[u]) (x:=u) c9;omega
   have g1:[u][0]?=some u:=rfl;obtain⟨U,us⟩:=u;refine qn func143 call143 λβ hf=>?_;refine AK.seq ?_;refine AK.region mixed Z ?_
   repeat' (first|refine so ?_|refine zu ?_ ?_|(intro h;first|(cases h;done)|rw[h]|skip)|(refine uA Z ?_ ?_<;>(try (show(_:Nat)*_<=_;dsimp only))))
   refine AK.freeze 3 Z Z Z Z ?_
   repeat' (first|refine sz ?_|refine zc ?_ ?_|(intro h;first|(cases h;done)|rw[h]|skip)|(refine uA Z ?_ ?_<;>(try (show(_:Nat)*_<=_;dsimp only))))
   refine AK.fQ [(2,2),(4,4),(6,6)] [(6004,(0,none))] (env':=[(139,.c (.int .i64 (0:Nat))),(138,.c (.int .i64 (aD args).length)),(137,.c (.sl 5 (aD args))),(7,.c (.bool (H==3))),(2,.ptr 2 0),(4,.ptr 4 0),(6,.ptr 6 0)])
    (bs':=[(2,[.c (.int .i64 10),.c (.sl 2 (aj [.mk U us]))]),(4,[.c (.int .i64 0),.c (.int .i64 0),.c (.int .i64 0),.c (.str []),.own .exact 7 [],.own .exact 2 [],.own .exact 5 []]),(6,[.c (.int .i64 10),.c (.int .i64 0),.c (.int .i64 0),.c (.str []),.own (.tok 6004 0) 7 [],.own .exact 2 [],.own .exact 5 []])]) (ts':=[(6004,0)]) (us':=[2,4,6,6004])
    ce ce Z ?_
   refine AK.dI (α:=Nat×L Vl×Bool) (λz=>z.1<=args.length/\z.1=z.2.1.length/\(eO args (.mk U us)).1=z.2.1++(eO (args.drop z.1) (.mk U us)).1/\((H==3)&&(eO args (.mk U us)).2)=(z.2.2&&(eO (args.drop z.1) (.mk U us)).2)) (λz=>args.length-z.1)
    (λz=>[(139,.c (.int .i64 z.1)),(138,.c (.int .i64 (aD args).length)),(137,.c (.sl 5 (aD args))),(7,.c (.bool z.2.2)),(2,.ptr 2 0),(4,.ptr 4 0),(6,.ptr 6 0)]) (λz=>[(2,[.c (.int .i64 10),.c (.sl 2 (aj [.mk U us]))]),(4,[.c (.int .i64 0),.c (.int .i64 0),.c (.int .i64 0),.c (.str []),.own .exact 7 [],.own .exact 2 [],.own .exact 5 []]),(6,[.c (.int .i64 10),.c (.int .i64 0),.c (.int .i64 0),.c (.str []),.own (.tok 6004 0) 7 (aa z.2.1),.own .exact 2 [],.own .exact 5 []])]) (λ_=>[(6004,0)]) [2,4,6,6004] (0,[],(H==3))
    ⟨bn,Z,c9,Z⟩ ce ⟨Z,Z,Z,trivial⟩ ⟨Z,trivial⟩ Z Z Z ?_
   rintro⟨i,acc,okb⟩ ⟨W,E,Y,V⟩ ih;simp only at W E Y V;rcases eI args i W with ⟨x,O,hm⟩|he
   rotate_left;have hc:=jH he;rw[he,aaW,K9]at Y V;simp only[aba,acs]at Y V;rw[Y,V];clear ih Y V;exact dq;have hc:=l8 O;have h2:=bh O;have hq:=M x hm (.mk U us) hu tP;rw[cQ O,IL]at Y V;rcases hr:dz x (.mk U us)with ⟨⟨A,D,C,y4,y5,y6,y7⟩,Q⟩
   rw[hr]at hq Y V;simp only at hq Y V;rw[show ∀(a:L Vl)(b:Vl)(c:L Vl),a++b::c=a++[b]++c from λa b c=>by simp]at Y;obtain⟨xk,xn,xp,xs,J⟩:=x;cases okb with
   |false =>
    repeat' (first|refine sz ?_|refine zc ?_ ?_|(intro h;first|(cases h;done)|rw[h]|skip)|refine uI Z (i) Z (ew O) Z ?_|refine uI Z (0) Z (eZ g1) Z ?_|refine uC Z hq ?_|(refine uA Z ?_ ?_<;>(try (show(_:Nat)*_<=_;dsimp only))))
    have h1:=az acc;simp only[aaa,aab];omega;have I:aa acc++[bA (Vl.mk A D C y4 y5 y6 y7)]=aa (acc++[(Vl.mk A D C y4 y5 y6 y7)]):=(gQ acc [_]).symm;refine AK.fQ [(2,2),(4,4),(6,6)] [(6004,(0,some 6004))] (env':=[(139,.c (.int .i64 ((i+1:Nat):Int))),(138,.c (.int .i64 (aD args).length)),(137,.c (.sl 5 (aD args))),(7,.c (.bool false)),(2,.ptr 2 0),(4,.ptr 4 0),(6,.ptr 6 0)])
     (bs':=[(2,[.c (.int .i64 10),.c (.sl 2 (aj [.mk U us]))]),(4,[.c (.int .i64 0),.c (.int .i64 0),.c (.int .i64 0),.c (.str []),.own .exact 7 [],.own .exact 2 [],.own .exact 5 []]),(6,[.c (.int .i64 10),.c (.int .i64 0),.c (.int .i64 0),.c (.str []),.own (.tok 6004 0) 7 (aa (acc++[(Vl.mk A D C y4 y5 y6 y7)])),.own .exact 2 [],.own .exact 5 []])]) (ts':=[(6004,0)]) (us':=[2,4,6,6004])
     ⟨⟨_,Z,.inl (ku (i:=i) bn)⟩,⟨_,Z,.inl Z⟩,⟨_,Z,.inl Z⟩,⟨_,Z,.inl Z⟩,⟨_,Z,⟨_,Z,Z⟩⟩,⟨_,Z,⟨_,Z,Z⟩⟩,⟨_,Z,⟨_,Z,Z⟩⟩,trivial⟩ ⟨ce,ce,⟨_,_,Z,Z,⟨_,_,Z,.inl Z,⟨_,_,Z,.inl Z,⟨_,_,Z,.inl Z,⟨_,_,Z,.inl Z,⟨_,_,Z,⟨_,Z,.inr ⟨_,_,Z,Z,aaZ (AV.own (.tok 6004 1) 7) I⟩⟩,ce⟩⟩⟩⟩⟩⟩,trivial⟩ Z ?_
    exact ih (i+1,acc++[(Vl.mk A D C y4 y5 y6 y7)],false) ⟨h2,aay,Y,ZZ⟩ fe
   |true =>
    repeat' (first|refine sz ?_|refine zc ?_ ?_|(intro h;first|(cases h;done)|rw[h]|skip)|refine uI Z (i) Z (ew O) Z ?_|refine uI Z (0) Z (eZ g1) Z ?_|refine uC Z hq ?_|(refine uA Z ?_ ?_<;>(try (show(_:Nat)*_<=_;dsimp only))))
    have h1:=az acc;simp only[aaa,aab];omega;have I:aa acc++[bA (Vl.mk A D C y4 y5 y6 y7)]=aa (acc++[(Vl.mk A D C y4 y5 y6 y7)]):=(gQ acc [_]).symm;refine AK.fQ [(2,2),(4,4),(6,6)] [(6004,(0,some 6004))] (env':=[(139,.c (.int .i64 ((i+1:Nat):Int))),(138,.c (.int .i64 (aD args).length)),(137,.c (.sl 5 (aD args))),(7,.c (.bool Q)),(2,.ptr 2 0),(4,.ptr 4 0),(6,.ptr 6 0)])
     (bs':=[(2,[.c (.int .i64 10),.c (.sl 2 (aj [.mk U us]))]),(4,[.c (.int .i64 0),.c (.int .i64 0),.c (.int .i64 0),.c (.str []),.own .exact 7 [],.own .exact 2 [],.own .exact 5 []]),(6,[.c (.int .i64 10),.c (.int .i64 0),.c (.int .i64 0),.c (.str []),.own (.tok 6004 0) 7 (aa (acc++[(Vl.mk A D C y4 y5 y6 y7)])),.own .exact 2 [],.own .exact 5 []])]) (ts':=[(6004,0)]) (us':=[2,4,6,6004])
     ⟨⟨_,Z,.inl (ku (i:=i) bn)⟩,⟨_,Z,.inl Z⟩,⟨_,Z,.inl Z⟩,⟨_,Z,.inl Z⟩,⟨_,Z,⟨_,Z,Z⟩⟩,⟨_,Z,⟨_,Z,Z⟩⟩,⟨_,Z,⟨_,Z,Z⟩⟩,trivial⟩ ⟨ce,ce,⟨_,_,Z,Z,⟨_,_,Z,.inl Z,⟨_,_,Z,.inl Z,⟨_,_,Z,.inl Z,⟨_,_,Z,.inl Z,⟨_,_,Z,⟨_,Z,.inr ⟨_,_,Z,Z,aaZ (AV.own (.tok 6004 1) 7) I⟩⟩,ce⟩⟩⟩⟩⟩⟩,trivial⟩ Z ?_
    exact ih (i+1,acc++[(Vl.mk A D C y4 y5 y6 y7)],Q) ⟨h2,aay,Y,ZZ⟩ fe
  by_cases c:T=13
  ·subst c;rw[Ya,<- int_eq];refine qn func143 call143 λβ hf=>?_;refine AK.seq ?_;refine AK.region mixed Z ?_
   repeat' (first|refine so ?_|refine zu ?_ ?_|(intro h;first|(cases h;done)|rw[h]|skip)|(refine uA Z ?_ ?_<;>(try (show(_:Nat)*_<=_;dsimp only))))
   refine AK.freeze 3 Z Z Z Z ?_
   repeat' (first|refine sz ?_|refine zc ?_ ?_|(intro h;first|(cases h;done)|rw[h]|skip)|(refine uA Z ?_ ?_<;>(try (show(_:Nat)*_<=_;dsimp only))))
   refine AK.fQ [(2,2),(4,4),(6,6)] [(6004,(0,none))] (env':=[(171,.c (.int .i64 (0:Nat))),(170,.c (.int .i64 (aD args).length)),(169,.c (.sl 5 (aD args))),(7,.c (.bool (H==3))),(2,.ptr 2 0),(4,.ptr 4 0),(6,.ptr 6 0)])
    (bs':=[(2,[.c (.int .i64 13),.c (.sl 2 (aj ts))]),(4,[.c (.int .i64 0),.c (.int .i64 0),.c (.int .i64 0),.c (.str []),.own .exact 7 [],.own .exact 2 [],.own .exact 5 []]),(6,[.c (.int .i64 13),.c (.int .i64 0),.c (.int .i64 0),.c (.str []),.own (.tok 6004 0) 7 [],.own .exact 2 [],.own .exact 5 []])]) (ts':=[(6004,0)]) (us':=[2,4,6,6004])
    ce ce Z ?_
   refine AK.dI (α:=Nat×L Vl×Bool) (λz=>z.1<=args.length/\z.1=z.2.1.length/\(eo args ts).1=z.2.1++(eo (args.drop z.1) ts).1/\((H==3)&&(eo args ts).2)=(z.2.2&&(eo (args.drop z.1) ts).2)) (λz=>args.length-z.1)
    (λz=>[(171,.c (.int .i64 z.1)),(170,.c (.int .i64 (aD args).length)),(169,.c (.sl 5 (aD args))),(7,.c (.bool z.2.2)),(2,.ptr 2 0),(4,.ptr 4 0),(6,.ptr 6 0)]) (λz=>[(2,[.c (.int .i64 13),.c (.sl 2 (aj ts))]),(4,[.c (.int .i64 0),.c (.int .i64 0),.c (.int .i64 0),.c (.str []),.own .exact 7 [],.own .exact 2 [],.own .exact 5 []]),(6,[.c (.int .i64 13),.c (.int .i64 0),.c (.int .i64 0),.c (.str []),.own (.tok 6004 0) 7 (aa z.2.1),.own .exact 2 [],.own .exact 5 []])]) (λ_=>[(6004,0)]) [2,4,6,6004] (0,[],(H==3))
    ⟨bn,Z,c9,Z⟩ ce ⟨Z,Z,Z,trivial⟩ ⟨Z,trivial⟩ Z Z Z ?_
   rintro⟨i,acc,okb⟩ ⟨W,E,Y,V⟩ ih;simp only at W E Y V;rcases eI args i W with ⟨x,O,hm⟩|he
   rotate_left;have hc:=jH he;rw[he,aaW,La]at Y V;simp only[aba,acs]at Y V;rw[Y,V];clear ih Y V;exact dq;have hc:=l8 O;have h2:=bh O;obtain⟨xk,xn,xp,xs,J⟩:=x;have hxs:=eR hm;simp only[bR]at hxs;have W2:=gA J;have hq:=wh ts J bn λy hy u hu=>W0 xk xn xp xs J hm y hy u (cN jS hu) (by have:=b9 hu;omega);rw[cQ O,IM]at Y V;rcases hr:eD J ts with ⟨q,Q⟩
   rw[hr]at hq Y V;simp only at hq Y V;rw[show ∀(a:L Vl)(b:Vl)(c:L Vl),a++b::c=a++[b]++c from λa b c=>by simp]at Y;cases okb with
   |false =>
    repeat' (first|refine sz ?_|refine zc ?_ ?_|(intro h;first|(cases h;done)|rw[h]|skip)|refine uI Z (i) Z (ew O) Z ?_|refine uC Z hq ?_|(refine uA Z ?_ ?_<;>(try (show(_:Nat)*_<=_;dsimp only))))
    have h1:=az acc;simp only[aaa,aab];omega;have I:aa acc++[bA (Vl.mk 11 0 0 [] q [] [])]=aa (acc++[(Vl.mk 11 0 0 [] q [] [])]):=(gQ acc [_]).symm;refine AK.fQ [(2,2),(4,4),(6,6)] [(6004,(0,some 6004))] (env':=[(171,.c (.int .i64 ((i+1:Nat):Int))),(170,.c (.int .i64 (aD args).length)),(169,.c (.sl 5 (aD args))),(7,.c (.bool false)),(2,.ptr 2 0),(4,.ptr 4 0),(6,.ptr 6 0)])
     (bs':=[(2,[.c (.int .i64 13),.c (.sl 2 (aj ts))]),(4,[.c (.int .i64 0),.c (.int .i64 0),.c (.int .i64 0),.c (.str []),.own .exact 7 [],.own .exact 2 [],.own .exact 5 []]),(6,[.c (.int .i64 13),.c (.int .i64 0),.c (.int .i64 0),.c (.str []),.own (.tok 6004 0) 7 (aa (acc++[(Vl.mk 11 0 0 [] q [] [])])),.own .exact 2 [],.own .exact 5 []])]) (ts':=[(6004,0)]) (us':=[2,4,6,6004])
     ⟨⟨_,Z,.inl (ku (i:=i) bn)⟩,⟨_,Z,.inl Z⟩,⟨_,Z,.inl Z⟩,⟨_,Z,.inl Z⟩,⟨_,Z,⟨_,Z,Z⟩⟩,⟨_,Z,⟨_,Z,Z⟩⟩,⟨_,Z,⟨_,Z,Z⟩⟩,trivial⟩ ⟨ce,ce,⟨_,_,Z,Z,⟨_,_,Z,.inl Z,⟨_,_,Z,.inl Z,⟨_,_,Z,.inl Z,⟨_,_,Z,.inl Z,⟨_,_,Z,⟨_,Z,.inr ⟨_,_,Z,Z,aaZ (AV.own (.tok 6004 1) 7) I⟩⟩,ce⟩⟩⟩⟩⟩⟩,trivial⟩ Z ?_
    exact aaL
   |true =>
    cases Q with
    |false =>
     repeat' (first|refine sz ?_|refine zc ?_ ?_|(intro h;first|(cases h;done)|rw[h]|skip)|refine uI Z (i) Z (ew O) Z ?_|refine uC Z hq ?_|(refine uA Z ?_ ?_<;>(try (show(_:Nat)*_<=_;dsimp only))))
     have h1:=az acc;simp only[aaa,aab];omega;have I:aa acc++[bA (Vl.mk 11 0 0 [] q [] [])]=aa (acc++[(Vl.mk 11 0 0 [] q [] [])]):=(gQ acc [_]).symm;refine AK.fQ [(2,2),(4,4),(6,6)] [(6004,(0,some 6004))] (env':=[(171,.c (.int .i64 ((i+1:Nat):Int))),(170,.c (.int .i64 (aD args).length)),(169,.c (.sl 5 (aD args))),(7,.c (.bool false)),(2,.ptr 2 0),(4,.ptr 4 0),(6,.ptr 6 0)])
      (bs':=[(2,[.c (.int .i64 13),.c (.sl 2 (aj ts))]),(4,[.c (.int .i64 0),.c (.int .i64 0),.c (.int .i64 0),.c (.str []),.own .exact 7 [],.own .exact 2 [],.own .exact 5 []]),(6,[.c (.int .i64 13),.c (.int .i64 0),.c (.int .i64 0),.c (.str []),.own (.tok 6004 0) 7 (aa (acc++[(Vl.mk 11 0 0 [] q [] [])])),.own .exact 2 [],.own .exact 5 []])]) (ts':=[(6004,0)]) (us':=[2,4,6,6004])
      ⟨⟨_,Z,.inl (ku (i:=i) bn)⟩,⟨_,Z,.inl Z⟩,⟨_,Z,.inl Z⟩,⟨_,Z,.inl Z⟩,⟨_,Z,⟨_,Z,Z⟩⟩,⟨_,Z,⟨_,Z,Z⟩⟩,⟨_,Z,⟨_,Z,Z⟩⟩,trivial⟩ ⟨ce,ce,⟨_,_,Z,Z,⟨_,_,Z,.inl Z,⟨_,_,Z,.inl Z,⟨_,_,Z,.inl Z,⟨_,_,Z,.inl Z,⟨_,_,Z,⟨_,Z,.inr ⟨_,_,Z,Z,aaZ (AV.own (.tok 6004 1) 7) I⟩⟩,ce⟩⟩⟩⟩⟩⟩,trivial⟩ Z ?_
     exact aaL
    |true =>
     by_cases k2:xk=2;rotate_left
     ·have e2:(xk==2)=false:=(by simpa using k2);have hb':((H==3)&&(eo args ts).2)=(false&&(eo (args.drop (i+1)) ts).2):=by rw[V];simp[k2]
      repeat' (first|refine sz ?_|refine zc ?_ ?_|(intro h;first|(cases h;done)|rw[h]|skip)|refine uI Z (i) Z (ew O) Z ?_|refine uC Z hq ?_|(refine uA Z ?_ ?_<;>(try (show(_:Nat)*_<=_;dsimp only))))
      have h1:=az acc;simp only[aaa,aab];omega;have I:aa acc++[bA (Vl.mk 11 0 0 [] q [] [])]=aa (acc++[(Vl.mk 11 0 0 [] q [] [])]):=(gQ acc [_]).symm;refine AK.fQ [(2,2),(4,4),(6,6)] [(6004,(0,some 6004))] (env':=[(171,.c (.int .i64 ((i+1:Nat):Int))),(170,.c (.int .i64 (aD args).length)),(169,.c (.sl 5 (aD args))),(7,.c (.bool false)),(2,.ptr 2 0),(4,.ptr 4 0),(6,.ptr 6 0)])
       (bs':=[(2,[.c (.int .i64 13),.c (.sl 2 (aj ts))]),(4,[.c (.int .i64 0),.c (.int .i64 0),.c (.int .i64 0),.c (.str []),.own .exact 7 [],.own .exact 2 [],.own .exact 5 []]),(6,[.c (.int .i64 13),.c (.int .i64 0),.c (.int .i64 0),.c (.str []),.own (.tok 6004 0) 7 (aa (acc++[(Vl.mk 11 0 0 [] q [] [])])),.own .exact 2 [],.own .exact 5 []])]) (ts':=[(6004,0)]) (us':=[2,4,6,6004])
       ⟨⟨_,Z,.inl (ku (i:=i) bn)⟩,⟨_,Z,.inl Z⟩,⟨_,Z,.inl Z⟩,⟨_,Z,.inl Z⟩,⟨_,Z,⟨_,Z,Z⟩⟩,⟨_,Z,⟨_,Z,Z⟩⟩,⟨_,Z,⟨_,Z,Z⟩⟩,trivial⟩ ⟨ce,ce,⟨_,_,Z,Z,⟨_,_,Z,.inl Z,⟨_,_,Z,.inl Z,⟨_,_,Z,.inl Z,⟨_,_,Z,.inl Z,⟨_,_,Z,⟨_,Z,.inr ⟨_,_,Z,Z,aaZ (AV.own (.tok 6004 1) 7) I⟩⟩,ce⟩⟩⟩⟩⟩⟩,trivial⟩ Z ?_
      exact ih (i+1,acc++[(Vl.mk 11 0 0 [] q [] [])],false) ⟨h2,aay,Y,hb'⟩ fe
     subst k2;have hb':((H==3)&&(eo args ts).2)=((xp==28)&&(eo (args.drop (i+1)) ts).2):=by rw[V,int_eq];simp
     repeat' (first|refine sz ?_|refine zc ?_ ?_|(intro h;first|(cases h;done)|rw[h]|skip)|refine uI Z (i) Z (ew O) Z ?_|refine uC Z hq ?_|(refine uA Z ?_ ?_<;>(try (show(_:Nat)*_<=_;dsimp only))))
     have h1:=az acc;simp only[aaa,aab];omega;have I:aa acc++[bA (Vl.mk 11 0 0 [] q [] [])]=aa (acc++[(Vl.mk 11 0 0 [] q [] [])]):=(gQ acc [_]).symm;refine AK.fQ [(2,2),(4,4),(6,6)] [(6004,(0,some 6004))] (env':=[(171,.c (.int .i64 ((i+1:Nat):Int))),(170,.c (.int .i64 (aD args).length)),(169,.c (.sl 5 (aD args))),(7,.c (.bool (xp==28))),(2,.ptr 2 0),(4,.ptr 4 0),(6,.ptr 6 0)])
      (bs':=[(2,[.c (.int .i64 13),.c (.sl 2 (aj ts))]),(4,[.c (.int .i64 0),.c (.int .i64 0),.c (.int .i64 0),.c (.str []),.own .exact 7 [],.own .exact 2 [],.own .exact 5 []]),(6,[.c (.int .i64 13),.c (.int .i64 0),.c (.int .i64 0),.c (.str []),.own (.tok 6004 0) 7 (aa (acc++[(Vl.mk 11 0 0 [] q [] [])])),.own .exact 2 [],.own .exact 5 []])]) (ts':=[(6004,0)]) (us':=[2,4,6,6004])
      ⟨⟨_,Z,.inl (ku (i:=i) bn)⟩,⟨_,Z,.inl Z⟩,⟨_,Z,.inl Z⟩,⟨_,Z,.inl Z⟩,⟨_,Z,⟨_,Z,Z⟩⟩,⟨_,Z,⟨_,Z,Z⟩⟩,⟨_,Z,⟨_,Z,Z⟩⟩,trivial⟩ ⟨ce,ce,⟨_,_,Z,Z,⟨_,_,Z,.inl Z,⟨_,_,Z,.inl Z,⟨_,_,Z,.inl Z,⟨_,_,Z,.inl Z,⟨_,_,Z,⟨_,Z,.inr ⟨_,_,Z,Z,aaZ (AV.own (.tok 6004 1) 7) I⟩⟩,ce⟩⟩⟩⟩⟩⟩,trivial⟩ Z ?_
     exact ih (i+1,acc++[(Vl.mk 11 0 0 [] q [] [])],(xp==28)) ⟨h2,aay,Y,hb'⟩ fe
  have hT:T=8\/T=14\/T=15:=by have:=Ld Lu;omega
  rw[Z5 T H N P hT];rcases hT with rfl|rfl|rfl
  ·refine qn func143 call143 λβ hf=>?_;refine AK.seq ?_;refine AK.region mixed Z ?_
   repeat' (first|refine so ?_|refine zu ?_ ?_|(intro h;first|(cases h;done)|rw[h]|skip)|(refine uA Z ?_ ?_<;>(try (show(_:Nat)*_<=_;dsimp only))))
   refine AK.freeze 3 Z Z Z Z ?_;exact dq
  ·refine qn func143 call143 λβ hf=>?_;refine AK.seq ?_;refine AK.region mixed Z ?_
   repeat' (first|refine so ?_|refine zu ?_ ?_|(intro h;first|(cases h;done)|rw[h]|skip)|(refine uA Z ?_ ?_<;>(try (show(_:Nat)*_<=_;dsimp only))))
   refine AK.freeze 3 Z Z Z Z ?_;exact dq
  refine qn func143 call143 λβ hf=>?_;refine AK.seq ?_;refine AK.region mixed Z ?_
  repeat' (first|refine so ?_|refine zu ?_ ?_|(intro h;first|(cases h;done)|rw[h]|skip)|(refine uA Z ?_ ?_<;>(try (show(_:Nat)*_<=_;dsimp only))))
  refine AK.freeze 3 Z Z Z Z ?_;exact dq
termination_by n=>SizeOf.sizeOf n
decreasing_by
 have h1:=abg O;simp at h1 ⊢;omega;have h1:=abg O;have h2:=abg hy;simp at h1 h2 ⊢;omega
end Go.Proofs
namespace Go.Proofs
open Go.cB
def bL(rows:L CV)(l:L UInt8)(b:UInt8)(z:Int)(h:z=(b.toNat:Int)):rows++cx l++[CV.int .u8 z]=rows++cx (l++[b]):=by simp_all
def Eb:∀(k m c:Nat),m<128^k->(AG c m).length<=k+1
 |0,m,c,h=>by
  obtain rfl:m=0:=by simpa using h
  rw[lZ];simp
 |k+1,m,c,h=>by by_cases T:m=0;subst T;rw[lZ];simp;rw[nB _ _ T];have:=Eb k (m/128) (m%128) (by rw[Nat.pow_succ]at h;omega);simp_all
def qf{n:Int}(h1 : -bF<=n)(h2:n<=bF):(jb n).length<=10:=by refine Eb 9 _ _ ?_;grind
attribute [local irreducible] AK ai aR bW
def Le{rows:L CV}{acc:L UInt8}{c:Nat}(h:c<128):rows++cx acc++[CV.int .u8 (IntKind.u8.wrap (((BitVec.ofInt 8 (c:Int))|||(BitVec.ofInt 8 128)).toNat))]=rows++cx (acc++[Go.cB.byteOf ((c+128:Nat):Int)]):=by refine bL rows acc _ _ ?_;rw[Yx h,iA _ bn]
def VR{n:Int}(h1 : -bF<=n)(h2:n<=bF)(O:n<0):IntKind.u8.wrap (((BitVec.ofInt 8 64)|||(BitVec.ofInt 8 (IntKind.u8.wrap (i64.wrap (((BitVec.ofInt 64 (i64.wrap (0-n)))&&&(BitVec.ofInt 64 63)).toNat))))).toNat)=((64+n.natAbs%64:Nat):Int):=by unfold bF at h1 h2;rw[gM (n:=0-n) bn bn,show 0-n=((n.natAbs:Nat):Int)from by omega,I2 bn,LC (a:=n.natAbs%64) bn];exact Ut ⟨n.natAbs%64,bn⟩
def TY{n:Int}(h1 : -bF<=n)(h2:n<=bF)(O:n<0):(i64.wrap (0-n)).fdiv (2^(min 6 64))=((n.natAbs/64:Nat):Int):=by unfold bF at h1 h2;rw[gM (n:=0-n) bn bn,show 0-n=((n.natAbs:Nat):Int)from by omega];grind
def VS{n:Int}(h1 : -bF<=n)(h2:n<=bF)(O:¬n<0):IntKind.u8.wrap (((BitVec.ofInt 8 0)|||(BitVec.ofInt 8 (IntKind.u8.wrap (i64.wrap (((BitVec.ofInt 64 n)&&&(BitVec.ofInt 64 63)).toNat))))).toNat)=((0+n.natAbs%64:Nat):Int):=by unfold bF at h1 h2;obtain⟨a,rfl⟩:∃a:Nat,n=a:=⟨n.toNat,bn⟩;rw[I2 bn,LC (a:=a%64) bn];exact or_none ⟨a%64,bn⟩
def TZ{n:Int}(h1 : -bF<=n)(h2:n<=bF)(O:¬n<0):n.fdiv (2^(min 6 64))=((n.natAbs/64:Nat):Int):=by grind
def T4{m:Nat}(h:m<9223372036854775808):IntKind.u8.wrap (i64.wrap (((BitVec.ofInt 64 (m:Int))&&&(BitVec.ofInt 64 127)).toNat))=((m%128:Nat):Int):=by rw[QJ h,LC bn]
def wj(rows:L CV)(n:Int)(h1 : -bF<=n)(h2:n<=bF)(Q:rows.length<=1099511627776) :
  fz 195 [.v (.own 1 rows),.v (.c (.int .i64 n))] [.own 1 (rows++cx (jb n))] []:=by
 have S:n.natAbs<=1152921504606846976:=by unfold bF at h1 h2;omega
 by_cases O:n<0
 ·have B:decide (n<0)=true:=aam O;refine en func195 call195 [(0,.own (.tok 1000000 0) 1 (rows)),(1,.c (.int .i64 n))] [] [(1000000,0)] [1000000] λβ hf=>?_
  repeat' (first|refine qg ?_|refine ze ?_ ?_|(intro h;first|(cases h;done)|rw[h]|skip)|(refine uA Z ?_ ?_<;>(try (show(_:Nat)*_<=_;dsimp only))))
  refine AK.dI (α:=Nat×Nat×L UInt8) (λz=>z.1<128/\z.2.1<=1152921504606846976/\z.2.2.length<=10/\jb n=z.2.2++AG z.1 z.2.1) (λz=>z.2.1)
   (λz=>[(5,.c (.int .u8 z.1)),(1,.c (.int .i64 z.2.1)),(0,.own (.tok 1000000 0) 1 (rows++cx z.2.2))]) (λ_=>[]) (λ_=>[(1000000,0)]) [1000000] (64+n.natAbs%64,n.natAbs/64,[])
   ⟨by show 64+n.natAbs%64<128;omega,by show n.natAbs/64<=_;omega,c9,by unfold jb;rw[if_pos O];rfl⟩ ⟨.inl (aaZ (λz=>some (AV.c (CV.int .u8 z))) (VR h1 h2 O)),.inl (aaZ (λz=>some (AV.c (CV.int .i64 z))) (TY h1 h2 O)),.inl (aaZ (λl=>some (AV.own (.tok 1000000 0) 1 l)) (aba rows).symm),trivial⟩ trivial ⟨Z,trivial⟩ Z Z Z ?_
  rintro⟨c,m,acc⟩ ⟨D,T,V,U⟩ ih;simp only at D T V U;by_cases Y:m=0
  ·have p:decide ((m:Int)>0)=false:=aan bn;rw[Y,lZ]at U;clear ih
   repeat' (first|refine qg ?_|refine ze ?_ ?_|(intro h;first|(cases h;done)|rw[h]|skip)|(refine uA Z ?_ ?_<;>(try (show(_:Nat)*_<=_;dsimp only))))
   simp only[aao,abB,aaa,aab];omega;show(_:L LV)=_;rw[U];exact aaR
  have p:decide ((m:Int)>0)=true:=aam bn;rw[nB _ _ Y]at U;have W:=qf h1 h2;rw[U]at W;simp only[aao,aaa]at W
  repeat' (first|refine qg ?_|refine ze ?_ ?_|(intro h;first|(cases h;done)|rw[h]|skip)|(refine uA Z ?_ ?_<;>(try (show(_:Nat)*_<=_;dsimp only))))
  simp only[aao,abB,aaa,aab];omega;refine AK.fQ [] [(1000000,(0,some 1000000))] (env':=[(5,.c (.int .u8 ((m%128:Nat):Int))),(1,.c (.int .i64 ((m/128:Nat):Int))),(0,.own (.tok 1000000 0) 1 (rows++cx (acc++[Go.cB.byteOf ((c+128:Nat):Int)])))])
   (bs':=[]) (ts':=[(1000000,0)]) (us':=[1000000])
   ⟨⟨_,Z,.inl (aaZ (λz=>AV.c (CV.int .u8 z)) (T4 (m:=m) bn))⟩,⟨_,Z,.inl (aaZ (λz=>AV.c (CV.int .i64 z)) (N1 m 7))⟩,⟨_,Z,⟨_,Z,.inr ⟨_,_,Z,Z,aaZ (AV.own (.tok 1000000 1) 1) (Le D)⟩⟩⟩,trivial⟩ trivial Z ?_
  refine ih (m%128,m/128,acc++[Go.cB.byteOf ((c+128:Nat):Int)]) ⟨by show m%128<128;omega,by show m/128<=_;omega,sy,by show jb n=_;rw[U];simp⟩ (by show m/128<m;omega)
 have B:decide (n<0)=false:=aan O;refine en func195 call195 [(0,.own (.tok 1000000 0) 1 (rows)),(1,.c (.int .i64 n))] [] [(1000000,0)] [1000000] λβ hf=>?_
 repeat' (first|refine qg ?_|refine ze ?_ ?_|(intro h;first|(cases h;done)|rw[h]|skip)|(refine uA Z ?_ ?_<;>(try (show(_:Nat)*_<=_;dsimp only))))
 refine AK.dI (α:=Nat×Nat×L UInt8) (λz=>z.1<128/\z.2.1<=1152921504606846976/\z.2.2.length<=10/\jb n=z.2.2++AG z.1 z.2.1) (λz=>z.2.1)
  (λz=>[(5,.c (.int .u8 z.1)),(1,.c (.int .i64 z.2.1)),(0,.own (.tok 1000000 0) 1 (rows++cx z.2.2))]) (λ_=>[]) (λ_=>[(1000000,0)]) [1000000] (0+n.natAbs%64,n.natAbs/64,[])
  ⟨by show 0+n.natAbs%64<128;omega,by show n.natAbs/64<=_;omega,c9,by unfold jb;rw[if_neg O];rfl⟩ ⟨.inl (aaZ (λz=>some (AV.c (CV.int .u8 z))) (VS h1 h2 O)),.inl (aaZ (λz=>some (AV.c (CV.int .i64 z))) (TZ h1 h2 O)),.inl (aaZ (λl=>some (AV.own (.tok 1000000 0) 1 l)) (aba rows).symm),trivial⟩ trivial ⟨Z,trivial⟩ Z Z Z ?_
 rintro⟨c,m,acc⟩ ⟨D,T,V,U⟩ ih;simp only at D T V U;by_cases Y:m=0
 ·have p:decide ((m:Int)>0)=false:=aan bn;rw[Y,lZ]at U;clear ih
  repeat' (first|refine qg ?_|refine ze ?_ ?_|(intro h;first|(cases h;done)|rw[h]|skip)|(refine uA Z ?_ ?_<;>(try (show(_:Nat)*_<=_;dsimp only))))
  simp only[aao,abB,aaa,aab];omega;show(_:L LV)=_;rw[U];exact aaR
 have p:decide ((m:Int)>0)=true:=aam bn;rw[nB _ _ Y]at U;have W:=qf h1 h2;rw[U]at W;simp only[aao,aaa]at W
 repeat' (first|refine qg ?_|refine ze ?_ ?_|(intro h;first|(cases h;done)|rw[h]|skip)|(refine uA Z ?_ ?_<;>(try (show(_:Nat)*_<=_;dsimp only))))
 simp only[aao,abB,aaa,aab];omega;refine AK.fQ [] [(1000000,(0,some 1000000))] (env':=[(5,.c (.int .u8 ((m%128:Nat):Int))),(1,.c (.int .i64 ((m/128:Nat):Int))),(0,.own (.tok 1000000 0) 1 (rows++cx (acc++[Go.cB.byteOf ((c+128:Nat):Int)])))])
  (bs':=[]) (ts':=[(1000000,0)]) (us':=[1000000])
  ⟨⟨_,Z,.inl (aaZ (λz=>AV.c (CV.int .u8 z)) (T4 (m:=m) bn))⟩,⟨_,Z,.inl (aaZ (λz=>AV.c (CV.int .i64 z)) (N1 m 7))⟩,⟨_,Z,⟨_,Z,.inr ⟨_,_,Z,Z,aaZ (AV.own (.tok 1000000 1) 1) (Le D)⟩⟩⟩,trivial⟩ trivial Z ?_
 refine ih (m%128,m/128,acc++[Go.cB.byteOf ((c+128:Nat):Int)]) ⟨by show m%128<128;omega,by show m/128<=_;omega,sy,by show jb n=_;rw[U];simp⟩ (by show m/128<m;omega)
end Go.Proofs
