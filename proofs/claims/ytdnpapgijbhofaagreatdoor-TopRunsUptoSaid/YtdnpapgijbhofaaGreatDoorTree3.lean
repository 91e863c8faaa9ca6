/- What row and parse of package value answer. -/
import Derived.Test.YtdnpapgijbhofaaGreatDoorVal4
import Derived.Test.YtdnpapgijbhofaaGreatDoorVPar
import Derived.Test.YtdnpapgijbhofaaGreatDoorChk3
open Go.IntKind
open Go.Proofs.Tryz
set_option linter.defProp false
set_option maxHeartbeats 0
set_option linter.unusedVariables false
set_option linter.unusedSimpArgs false
set_option maxRecDepth 100000
namespace Go.Proofs
open Go.cw
def jf:∀(a:L Vl)(b:L Vl),aa (a++b)=aa a++aa b
 |[],b=>rfl
 |x::a,b=>by simp only[aeN,aa,jf a b]
def VR(x:Nd)(l:L Nd)(t:Ty)(r:L Ty):eY (x::l) (t::r)=if(dR x t).2=true then glue [(dR x t).1] (eY l r)else([],false):=by simp only[eY]
def Zj:eY [] []=([],true):=by simp only[eY]
def VS(acc:L Vl)(x:Vl)(z:L Vl×Bool):glue acc (glue [x] z)=glue (acc++[x]) z:=VT acc [x] z
def abE(acc:L Vl):glue acc ([],false)=([],false):=rfl
def Zk(acc:L Vl):glue acc ([],true)=(acc,true):=by simp[glue]
def Mu(x:Nd)(l:L Nd)(t:Ty):eV (x::l) t=((dR x t).1::(eV l t).1,(dR x t).2&&(eV l t).2):=by simp only[eV]
def PL(t:Ty):eV [] t=([],true):=by simp only[eV]
def Mv(Y N P:Int)(S:L UInt8)(xs:L Nd)(l:L Nd)(ts:L Ty):ey (.mk Y N P S xs::l) ts=(.mk 11 0 0 [] (eY xs ts).1 [] []::(ey l ts).1,((eY xs ts).2&&decide (Y=2/\P=28))&&(ey l ts).2):=by simp only[ey]
def PM(ts:L Ty):ey [] ts=([],true):=by simp only[ey]
def ags(Y N P:Int)(S:L UInt8)(M:L Nd)(ts:L Ty):dR (.mk Y N P S M) (.mk 1 ts)=(qW 1,decide (Y=2/\P=20/\M.length=0)):=by simp[dR,dD]
def agt(Y N P:Int)(S:L UInt8)(M:L Nd)(ts:L Ty):dR (.mk Y N P S M) (.mk 2 ts)=(.mk 2 (i64.wrap (22-P)) 0 [] [] [] [],decide (Y=2/\(P=21\/P=22)/\M.length=0)):=by simp[dR,dD]
def Uf(T Y N P:Int)(C:T=3\/T=4\/T=5\/T=7)(S:L UInt8)(M:L Nd)(ts:L Ty):dR (.mk Y N P S M) (.mk T ts)=(.mk T N 0 [] [] [] [],decide (Y=0)):=by rcases C with rfl|rfl|rfl|rfl<;>simp[dR,dD]
def agu(Y N P:Int)(S:L UInt8)(M:L Nd)(ts:L Ty):dR (.mk Y N P S M) (.mk 6 ts)=(.mk 6 0 0 S [] [] [],decide (Y=1)):=by simp[dR,dD]
def ad8(N:Int)(S:L UInt8)(M:L Nd)(ts:L Ty):dR (.mk 2 N 27 S M) (.mk 9 ts)=(qW 9,decide (M.length=0)):=by simp[dR,dD]
def ad9(N:Int)(S:L UInt8)(M:L Nd)(ts:L Ty):dR (.mk 2 N 26 S M) (.mk 9 ts)=(.mk 9 0 0 [] (eY M ts).1 [] [],(eY M ts).2):=by simp[dR,dD,aV]
def aea(Y N P:Int)(S:L UInt8)(M:L Nd)(ts:L Ty)(h1:¬(Y=2/\P=27))(h2:¬(Y=2/\P=26)):dR (.mk Y N P S M) (.mk 9 ts)=(qW 9,false):=by simp[dR,dD,h1,h2]
def abF(N:Int)(S:L UInt8)(M:L Nd)(ts:L Ty):dR (.mk 2 N 23 S M) (.mk 11 ts)=(.mk 11 0 0 [] (eY M ts).1 [] [],(eY M ts).2):=by simp[dR,dD,aV]
def abG(Y N P:Int)(S:L UInt8)(M:L Nd)(ts:L Ty)(h1:¬(Y=2/\P=23)):dR (.mk Y N P S M) (.mk 11 ts)=(qW 11,false):=by simp[dR,dD,h1]
def abH(N:Int)(S:L UInt8)(M:L Nd)(u Y:Ty):dR (.mk 2 N 24 S M) (.mk 12 [u,Y])=(.mk 12 0 0 [] (eY M [u]).1 [] [],(eY M [u]).2):=by simp[dR,dD,aU,aV]
def abI(N:Int)(S:L UInt8)(M:L Nd)(u Y:Ty):dR (.mk 2 N 25 S M) (.mk 12 [u,Y])=(.mk 12 1 0 [] (eY M [Y]).1 [] [],(eY M [Y]).2):=by simp[dR,dD,aU,aV]
def abJ(Y N P:Int)(S:L UInt8)(M:L Nd)(ts:L Ty)(h1:¬(Y=2/\P=24))(h2:¬(Y=2/\P=25)):dR (.mk Y N P S M) (.mk 12 ts)=(qW 12,false):=by simp[dR,dD,h1,h2]
def aeb(Y N P:Int)(S:L UInt8)(M:L Nd)(u:Ty):dR (.mk Y N P S M) (.mk 10 [u])=(.mk 10 0 0 [] (eV M u).1 [] [],decide (Y=3)&&(eV M u).2):=by simp[dR,dD,aU,aV]
def aec(Y N P:Int)(S:L UInt8)(M:L Nd)(ts:L Ty):dR (.mk Y N P S M) (.mk 13 ts)=(.mk 13 0 0 [] (ey M ts).1 [] [],decide (Y=3)&&(ey M ts).2):=by simp[dR,dD,aV]
def agv(T Y N P:Int)(C:T=8\/T=14\/T=15)(S:L UInt8)(M:L Nd)(ts:L Ty):dR (.mk Y N P S M) (.mk T ts)=(qW T,false):=by rcases C with rfl|rfl|rfl<;>simp[dR,dD]
attribute [local irreducible] AK ah aR bM dR eY eV ey
def aR.weaken{P:Program}{X:Ctx}{f:FuncId}{M:L CV}{r O:CV}(h:∀G v,Rel G r v->Rel G O v)(q:aR P X f M r):aR P X f M O:=by unfold aR at q ⊢;refine⟨q.1,λG w vs h1 h2 K=>?_⟩;exact Calls.mono (q.2 G w vs h1 h2 K) λe w' ⟨u,V,E,N,H⟩=>⟨u,V,E,h V u N,H⟩
def KT{G:kE}{s t:Nat}{v:Value}(h:Rel G (.sl s []) v):Rel G (.sl t []) v:=by obtain⟨base,u,N,E,q,H,_⟩:=h;exact⟨base,u,N,E,q,H,.inl rfl⟩
def Zl{G:kE}{s t:Nat}{b:Bool}{v:Value}(h:Rel G (.eF [.sl s [],.bool b]) v):Rel G (.eF [.sl t [],.bool b]) v:=by obtain⟨vs,E,N,H⟩:=h;refine⟨vs,E,?_,cc⟩;obtain⟨u,us,D,Y,U⟩:=N;exact⟨u,us,D,KT Y,U⟩
def agw:L Vl×Bool->CV
 |(q,true) => .eF [.sl 7 (aa q),.bool true]
 |(_,false) => .eF [.sl 0 [],.bool false]
def gB(Y N P q:Int)(S:L UInt8)(M:L Nd):af 170 [.int .i64 q,.ip [.int .i64 Y,.int .i64 N,.int .i64 P,.str S,.sl 5 (aD M)]] (.bool (decide (Y=2/\P=q))):=by
 refine qn func170 call170 λβ hf=>?_
 repeat' (first|refine sz ?_|refine zc ?_ ?_|(intro h;first|(cases h;done)|rw[h]|skip))
 all_goals
  show(_:CV)=_;clear hf;refine aeM CV.bool ?_;rw[afT]
  (try simp_all)<;>(try omega)
def Sy(ts:L Ty)(l:L Nd)(u:l.length<=1099511627776)(B:∀x∈l,∀t∈ts,af 143 [cU t,aM x] (.eF [bA (dR x t).1,.bool (dR x t).2])) :
  af 171 [.sl 2 (az ts),.sl 5 (aD l)] (agw (eY l ts)):=by
 by_cases S:l.length=ts.length;rotate_left
 ·have N:((((az ts).length:Nat):Int) != (((aD l).length:Nat):Int))=true:=by rw[aQ,aZ];simp;omega
  rw[PN l ts S];exact qdq func171 call171
 have N:((((az ts).length:Nat):Int) != (((aD l).length:Nat):Int))=false:=by rw[aQ,aZ];simp;omega
 refine qn func171 call171 λβ hf=>?_
 repeat' (first|refine sz ?_|refine zc ?_ ?_|(intro h;first|(cases h;done)|rw[h]|skip)|(refine uA Z ?_ ?_<;>(try (show(_:Nat)*_<=_;dsimp only))))
 refine AK.fY [] [(6000,(0,none))] (env':=[(17,.c (.int .i64 (0:Nat))),(16,.c (.int .i64 (aD l).length)),(0,.c (.sl 2 (az ts))),(1,.c (.sl 5 (aD l))),(6,.own (.tok 6000 0) 7 [])])
  (bs':=[]) (ts':=[(6000,0)]) (us':=[6000])
  ce  trivial Z ?_
 refine AK.dN (α:=Nat×L Vl) (λz=>z.1<=l.length/\z.1=z.2.length/\eY l ts=glue z.2 (eY (l.drop z.1) (ts.drop z.1))) (λz=>l.length-z.1)
  (λz=>[(17,.c (.int .i64 z.1)),(16,.c (.int .i64 (aD l).length)),(0,.c (.sl 2 (az ts))),(1,.c (.sl 5 (aD l))),(6,.own (.tok 6000 0) 7 (aa z.2))]) (λ_=>[]) (λ_=>[(6000,0)]) [6000] (0,[])
  ⟨ai,Z,by rw[Zm _ (HU _ _)];rfl⟩ ce trivial ⟨Z,trivial⟩ Z Z Z ?_
 rintro⟨i,acc⟩ ⟨Q,P,H⟩ ih;simp only at Q P H;rcases ie l i Q with ⟨x,D,M⟩|O
 ·have J:=mT D;have h2:=bt D;obtain⟨t,C⟩:∃t,ts[i]?=some t:=⟨ts[i]' ai,cc⟩;have hq:=B x M t (abz C);rw[dK D,dK C,VR]at H;rcases G:dR x t with ⟨⟨Y,A,I,K,q,W,V⟩,b⟩
  rw[G]at hq H;obtain⟨xk,xn,xp,xs,xa⟩:=x;obtain⟨U,us⟩:=t;cases b with
  |false =>
   rw[if_neg cc,abE]at H;rw[H];clear ih H;have As:=gG C;have KB:=eK D;exact dq
  |true =>
   rw[if_pos Z,VS]at H
   repeat' (first|refine sz ?_|refine zc ?_ ?_|(intro h;first|(cases h;done)|rw[h]|skip)|refine uI Z (i) Z (gG C) Z ?_|refine uI Z (i) Z (eK D) Z ?_|refine uC Z hq ?_|(refine uA Z ?_ ?_<;>(try (show(_:Nat)*_<=_;dsimp only))))
   have h1:=aB acc;simp only[aag,aay];omega;have T:aa acc++[bA (.mk Y A I K q W V)]=aa (acc++[Vl.mk Y A I K q W V]):=(jf acc [_]).symm;refine AK.fY [] [(6000,(0,some 6000))] (env':=[(17,.c (.int .i64 ((i+1:Nat):Int))),(16,.c (.int .i64 (aD l).length)),(0,.c (.sl 2 (az ts))),(1,.c (.sl 5 (aD l))),(6,.own (.tok 6000 0) 7 (aa (acc++[Vl.mk Y A I K q W V])))])
    (bs':=[]) (ts':=[(6000,0)]) (us':=[6000])
    ⟨⟨_,Z,.inl (kL (i:=i) ai)⟩,⟨_,Z,.inl Z⟩,⟨_,Z,.inl Z⟩,⟨_,Z,.inl Z⟩,⟨_,Z,⟨_,Z,.inr ⟨_,_,Z,Z,aeM (AV.own (.tok 6000 1) 7) T⟩⟩⟩,trivial⟩ trivial Z ?_
   exact ih (i+1,acc++[Vl.mk Y A I K q W V]) ⟨h2,by simp[P],H⟩ N2
 have J:=jZ O;have E:eY l ts=(acc,true):=by rw[H,O,S,aeT,<- S,aeT,Zj,Zk]
 rw[E];clear ih H;exact dq
def zQ(ts:L Ty)(l:L Nd)(I:l.length<=1099511627776)(S:∀x∈l,∀t∈ts,af 143 [cU t,aM x] (.eF [bA (dR x t).1,.bool (dR x t).2])) :
  af 171 [.sl 2 (az ts),.sl 5 (aD l)] (.eF [.sl 7 (aa (eY l ts).1),.bool (eY l ts).2]):=by
 have h:=Sy ts l I S;have hf:=HU l ts;rcases B:eY l ts with ⟨q,b⟩
 rw[B]at h hf;cases b with
 |true=>exact h
 |false =>
  obtain rfl:=hf rfl;exact aR.weaken (λG v N=>Zl N) h
end Go.Proofs
namespace Go.Proofs
open Go.cw
def Mw(l:L Nd)(b:Prop)[Decidable b](h:b↔l.length=0):((((aD l).length:Nat):Int)==0)=decide b:=by rw[aZ,afT];simp[h]
def int_eq(a b:Int):(a==b)=decide (a=b):=by rw[afT];simp
attribute [local irreducible] AK ah aR bM dR eY eV ey
def vP:∀(n:Nd)(t:Ty),iC t=false->bD n<=8589934593->bf t<=8589934593->af 143 [cU t,aM n] (.eF [bA (dR n t).1,.bool (dR n t).2])
 |.mk Y N P S M,.mk T ts,hb,hn,ht=>by
  simp only[bD]at hn;simp only[bf]at ht;have Kz:=gu M;have J:∀x∈M,∀u,iC u=false->bf u<=8589934593->af 143 [cU u,aM x] (.eF [bA (dR x u).1,.bool (dR x u).2]):=λx D u h1 h2=>vP x u h1 aaM h2;have adb:∀k n p s I,Nd.mk k n p s I∈M->∀y∈I,∀u,iC u=false->bf u<=8589934593->af 143 [cU u,aM y] (.eF [bA (dR y u).1,.bool (dR y u).2]):=λk n p s I D y hy u h1 h2=>vP y u h1 (by have h3:=eO D;have h4:=eO hy;simp only[bD]at h3;omega) h2;obtain⟨Qb,iU⟩:=jD hb;simp only[dD,aV]at Qb iU;have C:af 171 [.sl 2 (az ts),.sl 5 (aD M)] (.eF [.sl 7 (aa (eY M ts).1),.bool (eY M ts).2]) :=
   zQ ts M ai λx D u hu=>J x D u (dO iU hu) (by have:=cI hu;omega)
  by_cases c:T=1
  ·subst c;rw[ags];by_cases W:Y=2/\P=20
   ·obtain⟨rfl,rfl⟩:=W;have h1:=gB 2 N 20 20 S M;rw[show decide ((2:Int)=2/\(20:Int)=20)=true from rfl]at h1;have e:=Mw M ((2:Int)=2/\(20:Int)=20/\M.length=0) cc;refine qn func143 call143 λβ hf=>?_;refine AK.seq ?_;refine AK.region mixed Z ?_
    repeat' (first|refine so ?_|refine zu ?_ ?_|(intro h;first|(cases h;done)|rw[h]|skip)|(refine uA Z ?_ ?_<;>(try (show(_:Nat)*_<=_;dsimp only))))
    refine AK.freeze 3 Z Z Z Z ?_
    repeat' (first|refine sz ?_|refine zc ?_ ?_|(intro h;first|(cases h;done)|rw[h]|skip)|refine uC Z h1 ?_|(refine uA Z ?_ ?_<;>(try (show(_:Nat)*_<=_;dsimp only))))
    all_goals exact aeM (λb=>CV.eF [bA (qW 1),CV.bool b]) e
   have h1:=gB Y N P 20 S M;rw[show decide (Y=2/\P=20)=false from aaY W]at h1;rw[show decide (Y=2/\P=20/\M.length=0)=false from aaY (λh=>W ⟨h.1,h.2.1⟩)];refine qn func143 call143 λβ hf=>?_;refine AK.seq ?_;refine AK.region mixed Z ?_
   repeat' (first|refine so ?_|refine zu ?_ ?_|(intro h;first|(cases h;done)|rw[h]|skip)|(refine uA Z ?_ ?_<;>(try (show(_:Nat)*_<=_;dsimp only))))
   refine AK.freeze 3 Z Z Z Z ?_;exact dq
  by_cases c:T=2
  ·subst c;rw[agt];by_cases W:Y=2/\P=21
   ·obtain⟨rfl,rfl⟩:=W;have h1:=gB 2 N 21 21 S M;have h2:=gB 2 N 21 22 S M;rw[show decide ((2:Int)=2/\(21:Int)=21)=true from rfl]at h1;rw[show decide ((2:Int)=2/\(21:Int)=22)=false from rfl]at h2;have e:=Mw M ((2:Int)=2/\((21:Int)=21\/(21:Int)=22)/\M.length=0) cc;refine qn func143 call143 λβ hf=>?_;refine AK.seq ?_;refine AK.region mixed Z ?_
    repeat' (first|refine so ?_|refine zu ?_ ?_|(intro h;first|(cases h;done)|rw[h]|skip)|(refine uA Z ?_ ?_<;>(try (show(_:Nat)*_<=_;dsimp only))))
    refine AK.freeze 3 Z Z Z Z ?_
    repeat' (first|refine sz ?_|refine zc ?_ ?_|(intro h;first|(cases h;done)|rw[h]|skip)|refine uC Z h1 ?_|refine uC Z h2 ?_|(refine uA Z ?_ ?_<;>(try (show(_:Nat)*_<=_;dsimp only))))
    all_goals exact aeM (λb=>CV.eF [bA (.mk 2 (i64.wrap (22-21)) 0 [] [] [] []),CV.bool b]) e
   by_cases K:Y=2/\P=22
   ·obtain⟨rfl,rfl⟩:=K;have h1:=gB 2 N 22 21 S M;have h2:=gB 2 N 22 22 S M;rw[show decide ((2:Int)=2/\(22:Int)=21)=false from rfl]at h1;rw[show decide ((2:Int)=2/\(22:Int)=22)=true from rfl]at h2;have e:=Mw M ((2:Int)=2/\((22:Int)=21\/(22:Int)=22)/\M.length=0) cc;refine qn func143 call143 λβ hf=>?_;refine AK.seq ?_;refine AK.region mixed Z ?_
    repeat' (first|refine so ?_|refine zu ?_ ?_|(intro h;first|(cases h;done)|rw[h]|skip)|(refine uA Z ?_ ?_<;>(try (show(_:Nat)*_<=_;dsimp only))))
    refine AK.freeze 3 Z Z Z Z ?_
    repeat' (first|refine sz ?_|refine zc ?_ ?_|(intro h;first|(cases h;done)|rw[h]|skip)|refine uC Z h1 ?_|refine uC Z h2 ?_|(refine uA Z ?_ ?_<;>(try (show(_:Nat)*_<=_;dsimp only))))
    all_goals exact aeM (λb=>CV.eF [bA (.mk 2 (i64.wrap (22-22)) 0 [] [] [] []),CV.bool b]) e
   have h1:=gB Y N P 21 S M;have h2:=gB Y N P 22 S M;rw[aaY W]at h1;rw[aaY K]at h2;rw[show decide (Y=2/\(P=21\/P=22)/\M.length=0)=false from aaY (λh=>h.2.1.elim (λg=>W ⟨h.1,g⟩) (λg=>K ⟨h.1,g⟩))];refine qn func143 call143 λβ hf=>?_;refine AK.seq ?_;refine AK.region mixed Z ?_
   repeat' (first|refine so ?_|refine zu ?_ ?_|(intro h;first|(cases h;done)|rw[h]|skip)|(refine uA Z ?_ ?_<;>(try (show(_:Nat)*_<=_;dsimp only))))
   refine AK.freeze 3 Z Z Z Z ?_;exact dq
  by_cases c:T=3
  ·subst c;rw[Uf 3 Y N P bn,<- int_eq];refine qn func143 call143 λβ hf=>?_;refine AK.seq ?_;refine AK.region mixed Z ?_
   repeat' (first|refine so ?_|refine zu ?_ ?_|(intro h;first|(cases h;done)|rw[h]|skip)|(refine uA Z ?_ ?_<;>(try (show(_:Nat)*_<=_;dsimp only))))
   refine AK.freeze 3 Z Z Z Z ?_;exact dq
  by_cases c:T=4
  ·subst c;rw[Uf 4 Y N P bn,<- int_eq];refine qn func143 call143 λβ hf=>?_;refine AK.seq ?_;refine AK.region mixed Z ?_
   repeat' (first|refine so ?_|refine zu ?_ ?_|(intro h;first|(cases h;done)|rw[h]|skip)|(refine uA Z ?_ ?_<;>(try (show(_:Nat)*_<=_;dsimp only))))
   refine AK.freeze 3 Z Z Z Z ?_;exact dq
  by_cases c:T=5
  ·subst c;rw[Uf 5 Y N P bn,<- int_eq];refine qn func143 call143 λβ hf=>?_;refine AK.seq ?_;refine AK.region mixed Z ?_
   repeat' (first|refine so ?_|refine zu ?_ ?_|(intro h;first|(cases h;done)|rw[h]|skip)|(refine uA Z ?_ ?_<;>(try (show(_:Nat)*_<=_;dsimp only))))
   refine AK.freeze 3 Z Z Z Z ?_;exact dq
  by_cases c:T=7
  ·subst c;rw[Uf 7 Y N P bn,<- int_eq];refine qn func143 call143 λβ hf=>?_;refine AK.seq ?_;refine AK.region mixed Z ?_
   repeat' (first|refine so ?_|refine zu ?_ ?_|(intro h;first|(cases h;done)|rw[h]|skip)|(refine uA Z ?_ ?_<;>(try (show(_:Nat)*_<=_;dsimp only))))
   refine AK.freeze 3 Z Z Z Z ?_;exact dq
  by_cases c:T=6
  ·subst c;rw[agu,<- int_eq];refine qn func143 call143 λβ hf=>?_;refine AK.seq ?_;refine AK.region mixed Z ?_
   repeat' (first|refine so ?_|refine zu ?_ ?_|(intro h;first|(cases h;done)|rw[h]|skip)|(refine uA Z ?_ ?_<;>(try (show(_:Nat)*_<=_;dsimp only))))
   refine AK.freeze 3 Z Z Z Z ?_;exact dq
  by_cases c:T=9
  ·subst c;by_cases W:Y=2/\P=27
   ·obtain⟨rfl,rfl⟩:=W;rw[ad8];have h1:=gB 2 N 27 27 S M;rw[show decide ((2:Int)=2/\(27:Int)=27)=true from rfl]at h1;have e:=Mw M (M.length=0) Iff.rfl;refine qn func143 call143 λβ hf=>?_;refine AK.seq ?_;refine AK.region mixed Z ?_
    repeat' (first|refine so ?_|refine zu ?_ ?_|(intro h;first|(cases h;done)|rw[h]|skip)|(refine uA Z ?_ ?_<;>(try (show(_:Nat)*_<=_;dsimp only))))
    refine AK.freeze 3 Z Z Z Z ?_
    repeat' (first|refine sz ?_|refine zc ?_ ?_|(intro h;first|(cases h;done)|rw[h]|skip)|refine uC Z h1 ?_|(refine uA Z ?_ ?_<;>(try (show(_:Nat)*_<=_;dsimp only))))
    all_goals exact aeM (λb=>CV.eF [bA (qW 9),CV.bool b]) e
   by_cases K:Y=2/\P=26
   ·obtain⟨rfl,rfl⟩:=K;rw[ad9];have h1:=gB 2 N 26 27 S M;rw[show decide ((2:Int)=2/\(26:Int)=27)=false from rfl]at h1;have h2:=gB 2 N 26 26 S M;rw[show decide ((2:Int)=2/\(26:Int)=26)=true from rfl]at h2;generalize eY M ts=z at C;refine qn func143 call143 λβ hf=>?_;refine AK.seq ?_;refine AK.region mixed Z ?_
    repeat' (first|refine so ?_|refine zu ?_ ?_|(intro h;first|(cases h;done)|rw[h]|skip)|(refine uA Z ?_ ?_<;>(try (show(_:Nat)*_<=_;dsimp only))))
    refine AK.freeze 3 Z Z Z Z ?_;exact dq
   rw[aea _ _ _ _ _ _ W K];have h1:=gB Y N P 27 S M;have h2:=gB Y N P 26 S M;rw[aaY W]at h1;rw[aaY K]at h2;refine qn func143 call143 λβ hf=>?_;refine AK.seq ?_;refine AK.region mixed Z ?_
   repeat' (first|refine so ?_|refine zu ?_ ?_|(intro h;first|(cases h;done)|rw[h]|skip)|(refine uA Z ?_ ?_<;>(try (show(_:Nat)*_<=_;dsimp only))))
   refine AK.freeze 3 Z Z Z Z ?_;exact dq
  by_cases c:T=11
  ·subst c;by_cases W:Y=2/\P=23
   ·obtain⟨rfl,rfl⟩:=W;rw[abF];have h1:=gB 2 N 23 23 S M;rw[show decide ((2:Int)=2/\(23:Int)=23)=true from rfl]at h1;generalize eY M ts=z at C;refine qn func143 call143 λβ hf=>?_;refine AK.seq ?_;refine AK.region mixed Z ?_
    repeat' (first|refine so ?_|refine zu ?_ ?_|(intro h;first|(cases h;done)|rw[h]|skip)|(refine uA Z ?_ ?_<;>(try (show(_:Nat)*_<=_;dsimp only))))
    refine AK.freeze 3 Z Z Z Z ?_;exact dq
   rw[abG _ _ _ _ _ _ W];have h1:=gB Y N P 23 S M;rw[aaY W]at h1;refine qn func143 call143 λβ hf=>?_;refine AK.seq ?_;refine AK.region mixed Z ?_
   repeat' (first|refine so ?_|refine zu ?_ ?_|(intro h;first|(cases h;done)|rw[h]|skip)|(refine uA Z ?_ ?_<;>(try (show(_:Nat)*_<=_;dsimp only))))
   refine AK.freeze 3 Z Z Z Z ?_;exact dq
  by_cases c:T=12
  ·subst c;obtain⟨u,u',rfl⟩:=DW (show ts.length=2 by(have:arity 12=2:=by decide);omega);by_cases W:Y=2/\P=24
   ·obtain⟨rfl,rfl⟩:=W;rw[abH];have h1:=gB 2 N 24 24 S M;rw[show decide ((2:Int)=2/\(24:Int)=24)=true from rfl]at h1;have h2:=gB 2 N 24 25 S M;rw[show decide ((2:Int)=2/\(24:Int)=25)=false from rfl]at h2;have hr:=zQ [u] M ai λx D w G=>J x D w (dO iU acz) WA;generalize eY M [u]=z at hr;refine qn func143 call143 λβ hf=>?_;refine AK.seq ?_;refine AK.region mixed Z ?_
    repeat' (first|refine so ?_|refine zu ?_ ?_|(intro h;first|(cases h;done)|rw[h]|skip)|(refine uA Z ?_ ?_<;>(try (show(_:Nat)*_<=_;dsimp only))))
    refine AK.freeze 3 Z Z Z Z ?_;exact dq
   by_cases K:Y=2/\P=25
   ·obtain⟨rfl,rfl⟩:=K;rw[abI];have h1:=gB 2 N 25 24 S M;rw[show decide ((2:Int)=2/\(25:Int)=24)=false from rfl]at h1;have h2:=gB 2 N 25 25 S M;rw[show decide ((2:Int)=2/\(25:Int)=25)=true from rfl]at h2;have hr:=zQ [u'] M ai λx D w G=>J x D w (dO iU acz) WA;generalize eY M [u']=z at hr;refine qn func143 call143 λβ hf=>?_;refine AK.seq ?_;refine AK.region mixed Z ?_
    repeat' (first|refine so ?_|refine zu ?_ ?_|(intro h;first|(cases h;done)|rw[h]|skip)|(refine uA Z ?_ ?_<;>(try (show(_:Nat)*_<=_;dsimp only))))
    refine AK.freeze 3 Z Z Z Z ?_;exact dq
   rw[abJ _ _ _ _ _ _ W K];have h1:=gB Y N P 24 S M;have h2:=gB Y N P 25 S M;rw[aaY W]at h1;rw[aaY K]at h2;refine qn func143 call143 λβ hf=>?_;refine AK.seq ?_;refine AK.region mixed Z ?_
   repeat' (first|refine so ?_|refine zu ?_ ?_|(intro h;first|(cases h;done)|rw[h]|skip)|(refine uA Z ?_ ?_<;>(try (show(_:Nat)*_<=_;dsimp only))))
   refine AK.freeze 3 Z Z Z Z ?_;exact dq
  by_cases c:T=10
  ·subst c;obtain⟨u,rfl⟩:=PO (show ts.length=1 by(have:arity 10=1:=by decide);omega);rw[aeb,<- int_eq];have hu:iC u=false:=dO iU cc;have wY:bf u<=8589934593:=by have:=cI (l:=[u]) (x:=u) cc;omega
   have g1:[u][0]?=some u:=rfl;obtain⟨U,us⟩:=u;refine qn func143 call143 λβ hf=>?_;refine AK.seq ?_;refine AK.region mixed Z ?_
   repeat' (first|refine so ?_|refine zu ?_ ?_|(intro h;first|(cases h;done)|rw[h]|skip)|(refine uA Z ?_ ?_<;>(try (show(_:Nat)*_<=_;dsimp only))))
   refine AK.freeze 3 Z Z Z Z ?_
   repeat' (first|refine sz ?_|refine zc ?_ ?_|(intro h;first|(cases h;done)|rw[h]|skip)|(refine uA Z ?_ ?_<;>(try (show(_:Nat)*_<=_;dsimp only))))
   refine AK.fY [(2,2),(4,4),(6,6)] [(6004,(0,none))] (env':=[(139,.c (.int .i64 (0:Nat))),(138,.c (.int .i64 (aD M).length)),(137,.c (.sl 5 (aD M))),(7,.c (.bool (Y==3))),(2,.ptr 2 0),(4,.ptr 4 0),(6,.ptr 6 0)])
    (bs':=[(2,[.c (.int .i64 10),.c (.sl 2 (az [.mk U us]))]),(4,[.c (.int .i64 0),.c (.int .i64 0),.c (.int .i64 0),.c (.str []),.own .exact 7 [],.own .exact 2 [],.own .exact 5 []]),(6,[.c (.int .i64 10),.c (.int .i64 0),.c (.int .i64 0),.c (.str []),.own (.tok 6004 0) 7 [],.own .exact 2 [],.own .exact 5 []])]) (ts':=[(6004,0)]) (us':=[2,4,6,6004])
    ce ce Z ?_
   refine AK.dN (α:=Nat×L Vl×Bool) (λz=>z.1<=M.length/\z.1=z.2.1.length/\(eV M (.mk U us)).1=z.2.1++(eV (M.drop z.1) (.mk U us)).1/\((Y==3)&&(eV M (.mk U us)).2)=(z.2.2&&(eV (M.drop z.1) (.mk U us)).2)) (λz=>M.length-z.1)
    (λz=>[(139,.c (.int .i64 z.1)),(138,.c (.int .i64 (aD M).length)),(137,.c (.sl 5 (aD M))),(7,.c (.bool z.2.2)),(2,.ptr 2 0),(4,.ptr 4 0),(6,.ptr 6 0)]) (λz=>[(2,[.c (.int .i64 10),.c (.sl 2 (az [.mk U us]))]),(4,[.c (.int .i64 0),.c (.int .i64 0),.c (.int .i64 0),.c (.str []),.own .exact 7 [],.own .exact 2 [],.own .exact 5 []]),(6,[.c (.int .i64 10),.c (.int .i64 0),.c (.int .i64 0),.c (.str []),.own (.tok 6004 0) 7 (aa z.2.1),.own .exact 2 [],.own .exact 5 []])]) (λ_=>[(6004,0)]) [2,4,6,6004] (0,[],(Y==3))
    ⟨ai,Z,cc,Z⟩ ce ⟨Z,Z,Z,trivial⟩ ⟨Z,trivial⟩ Z Z Z ?_
   rintro⟨i,acc,okb⟩ ⟨W,E,H,V⟩ ih;simp only at W E H V;rcases ie M i W with ⟨x,D,hm⟩|he
   rotate_left;have hc:=jZ he;rw[he,aeT,PL]at H V;simp only[aeO,agO]at H V;rw[H,V];clear ih H V;exact dq;have hc:=mT D;have h2:=bt D;have hq:=J x hm (.mk U us) hu wY;rw[dK D,Mu]at H V;rcases hr:dR x (.mk U us)with ⟨⟨B,A,y3,y4,y5,y6,y7⟩,O⟩
   rw[hr]at hq H V;simp only at hq H V;rw[show ∀(a:L Vl)(b:Vl)(c:L Vl),a++b::c=a++[b]++c from λa b c=>by simp]at H;obtain⟨xk,xn,xp,xs,I⟩:=x;cases okb with
   |false =>
    repeat' (first|refine sz ?_|refine zc ?_ ?_|(intro h;first|(cases h;done)|rw[h]|skip)|refine uI Z (i) Z (eK D) Z ?_|refine uI Z (0) Z (gG g1) Z ?_|refine uC Z hq ?_|(refine uA Z ?_ ?_<;>(try (show(_:Nat)*_<=_;dsimp only))))
    have h1:=aB acc;simp only[aag,aay];omega;have Q:aa acc++[bA (Vl.mk B A y3 y4 y5 y6 y7)]=aa (acc++[(Vl.mk B A y3 y4 y5 y6 y7)]):=(jf acc [_]).symm;refine AK.fY [(2,2),(4,4),(6,6)] [(6004,(0,some 6004))] (env':=[(139,.c (.int .i64 ((i+1:Nat):Int))),(138,.c (.int .i64 (aD M).length)),(137,.c (.sl 5 (aD M))),(7,.c (.bool false)),(2,.ptr 2 0),(4,.ptr 4 0),(6,.ptr 6 0)])
     (bs':=[(2,[.c (.int .i64 10),.c (.sl 2 (az [.mk U us]))]),(4,[.c (.int .i64 0),.c (.int .i64 0),.c (.int .i64 0),.c (.str []),.own .exact 7 [],.own .exact 2 [],.own .exact 5 []]),(6,[.c (.int .i64 10),.c (.int .i64 0),.c (.int .i64 0),.c (.str []),.own (.tok 6004 0) 7 (aa (acc++[(Vl.mk B A y3 y4 y5 y6 y7)])),.own .exact 2 [],.own .exact 5 []])]) (ts':=[(6004,0)]) (us':=[2,4,6,6004])
     ⟨⟨_,Z,.inl (kL (i:=i) ai)⟩,⟨_,Z,.inl Z⟩,⟨_,Z,.inl Z⟩,⟨_,Z,.inl Z⟩,⟨_,Z,⟨_,Z,Z⟩⟩,⟨_,Z,⟨_,Z,Z⟩⟩,⟨_,Z,⟨_,Z,Z⟩⟩,trivial⟩ ⟨ce,ce,⟨_,_,Z,Z,⟨_,_,Z,.inl Z,⟨_,_,Z,.inl Z,⟨_,_,Z,.inl Z,⟨_,_,Z,.inl Z,⟨_,_,Z,⟨_,Z,.inr ⟨_,_,Z,Z,aeM (AV.own (.tok 6004 1) 7) Q⟩⟩,ce⟩⟩⟩⟩⟩⟩,trivial⟩ Z ?_
    exact ih (i+1,acc++[(Vl.mk B A y3 y4 y5 y6 y7)],false) ⟨h2,aek,H,adZ⟩ fo
   |true =>
    repeat' (first|refine sz ?_|refine zc ?_ ?_|(intro h;first|(cases h;done)|rw[h]|skip)|refine uI Z (i) Z (eK D) Z ?_|refine uI Z (0) Z (gG g1) Z ?_|refine uC Z hq ?_|(refine uA Z ?_ ?_<;>(try (show(_:Nat)*_<=_;dsimp only))))
    have h1:=aB acc;simp only[aag,aay];omega;have Q:aa acc++[bA (Vl.mk B A y3 y4 y5 y6 y7)]=aa (acc++[(Vl.mk B A y3 y4 y5 y6 y7)]):=(jf acc [_]).symm;refine AK.fY [(2,2),(4,4),(6,6)] [(6004,(0,some 6004))] (env':=[(139,.c (.int .i64 ((i+1:Nat):Int))),(138,.c (.int .i64 (aD M).length)),(137,.c (.sl 5 (aD M))),(7,.c (.bool O)),(2,.ptr 2 0),(4,.ptr 4 0),(6,.ptr 6 0)])
     (bs':=[(2,[.c (.int .i64 10),.c (.sl 2 (az [.mk U us]))]),(4,[.c (.int .i64 0),.c (.int .i64 0),.c (.int .i64 0),.c (.str []),.own .exact 7 [],.own .exact 2 [],.own .exact 5 []]),(6,[.c (.int .i64 10),.c (.int .i64 0),.c (.int .i64 0),.c (.str []),.own (.tok 6004 0) 7 (aa (acc++[(Vl.mk B A y3 y4 y5 y6 y7)])),.own .exact 2 [],.own .exact 5 []])]) (ts':=[(6004,0)]) (us':=[2,4,6,6004])
     ⟨⟨_,Z,.inl (kL (i:=i) ai)⟩,⟨_,Z,.inl Z⟩,⟨_,Z,.inl Z⟩,⟨_,Z,.inl Z⟩,⟨_,Z,⟨_,Z,Z⟩⟩,⟨_,Z,⟨_,Z,Z⟩⟩,⟨_,Z,⟨_,Z,Z⟩⟩,trivial⟩ ⟨ce,ce,⟨_,_,Z,Z,⟨_,_,Z,.inl Z,⟨_,_,Z,.inl Z,⟨_,_,Z,.inl Z,⟨_,_,Z,.inl Z,⟨_,_,Z,⟨_,Z,.inr ⟨_,_,Z,Z,aeM (AV.own (.tok 6004 1) 7) Q⟩⟩,ce⟩⟩⟩⟩⟩⟩,trivial⟩ Z ?_
    exact ih (i+1,acc++[(Vl.mk B A y3 y4 y5 y6 y7)],O) ⟨h2,aek,H,adZ⟩ fo
  by_cases c:T=13
  ·subst c;rw[aec,<- int_eq];refine qn func143 call143 λβ hf=>?_;refine AK.seq ?_;refine AK.region mixed Z ?_
   repeat' (first|refine so ?_|refine zu ?_ ?_|(intro h;first|(cases h;done)|rw[h]|skip)|(refine uA Z ?_ ?_<;>(try (show(_:Nat)*_<=_;dsimp only))))
   refine AK.freeze 3 Z Z Z Z ?_
   repeat' (first|refine sz ?_|refine zc ?_ ?_|(intro h;first|(cases h;done)|rw[h]|skip)|(refine uA Z ?_ ?_<;>(try (show(_:Nat)*_<=_;dsimp only))))
   refine AK.fY [(2,2),(4,4),(6,6)] [(6004,(0,none))] (env':=[(171,.c (.int .i64 (0:Nat))),(170,.c (.int .i64 (aD M).length)),(169,.c (.sl 5 (aD M))),(7,.c (.bool (Y==3))),(2,.ptr 2 0),(4,.ptr 4 0),(6,.ptr 6 0)])
    (bs':=[(2,[.c (.int .i64 13),.c (.sl 2 (az ts))]),(4,[.c (.int .i64 0),.c (.int .i64 0),.c (.int .i64 0),.c (.str []),.own .exact 7 [],.own .exact 2 [],.own .exact 5 []]),(6,[.c (.int .i64 13),.c (.int .i64 0),.c (.int .i64 0),.c (.str []),.own (.tok 6004 0) 7 [],.own .exact 2 [],.own .exact 5 []])]) (ts':=[(6004,0)]) (us':=[2,4,6,6004])
    ce ce Z ?_
   refine AK.dN (α:=Nat×L Vl×Bool) (λz=>z.1<=M.length/\z.1=z.2.1.length/\(ey M ts).1=z.2.1++(ey (M.drop z.1) ts).1/\((Y==3)&&(ey M ts).2)=(z.2.2&&(ey (M.drop z.1) ts).2)) (λz=>M.length-z.1)
    (λz=>[(171,.c (.int .i64 z.1)),(170,.c (.int .i64 (aD M).length)),(169,.c (.sl 5 (aD M))),(7,.c (.bool z.2.2)),(2,.ptr 2 0),(4,.ptr 4 0),(6,.ptr 6 0)]) (λz=>[(2,[.c (.int .i64 13),.c (.sl 2 (az ts))]),(4,[.c (.int .i64 0),.c (.int .i64 0),.c (.int .i64 0),.c (.str []),.own .exact 7 [],.own .exact 2 [],.own .exact 5 []]),(6,[.c (.int .i64 13),.c (.int .i64 0),.c (.int .i64 0),.c (.str []),.own (.tok 6004 0) 7 (aa z.2.1),.own .exact 2 [],.own .exact 5 []])]) (λ_=>[(6004,0)]) [2,4,6,6004] (0,[],(Y==3))
    ⟨ai,Z,cc,Z⟩ ce ⟨Z,Z,Z,trivial⟩ ⟨Z,trivial⟩ Z Z Z ?_
   rintro⟨i,acc,okb⟩ ⟨W,E,H,V⟩ ih;simp only at W E H V;rcases ie M i W with ⟨x,D,hm⟩|he
   rotate_left;have hc:=jZ he;rw[he,aeT,PM]at H V;simp only[aeO,agO]at H V;rw[H,V];clear ih H V;exact dq;have hc:=mT D;have h2:=bt D;obtain⟨xk,xn,xp,xs,I⟩:=x;have hxs:=eO hm;simp only[bD]at hxs;have ZH:=gu I;have hq:=zQ ts I ai λy hy u hu=>adb xk xn xp xs I hm y hy u (dO iU hu) (by have:=cI hu;omega);rw[dK D,Mv]at H V;rcases hr:eY I ts with ⟨q,O⟩
   rw[hr]at hq H V;simp only at hq H V;rw[show ∀(a:L Vl)(b:Vl)(c:L Vl),a++b::c=a++[b]++c from λa b c=>by simp]at H;cases okb with
   |false =>
    repeat' (first|refine sz ?_|refine zc ?_ ?_|(intro h;first|(cases h;done)|rw[h]|skip)|refine uI Z (i) Z (eK D) Z ?_|refine uC Z hq ?_|(refine uA Z ?_ ?_<;>(try (show(_:Nat)*_<=_;dsimp only))))
    have h1:=aB acc;simp only[aag,aay];omega;have Q:aa acc++[bA (Vl.mk 11 0 0 [] q [] [])]=aa (acc++[(Vl.mk 11 0 0 [] q [] [])]):=(jf acc [_]).symm;refine AK.fY [(2,2),(4,4),(6,6)] [(6004,(0,some 6004))] (env':=[(171,.c (.int .i64 ((i+1:Nat):Int))),(170,.c (.int .i64 (aD M).length)),(169,.c (.sl 5 (aD M))),(7,.c (.bool false)),(2,.ptr 2 0),(4,.ptr 4 0),(6,.ptr 6 0)])
     (bs':=[(2,[.c (.int .i64 13),.c (.sl 2 (az ts))]),(4,[.c (.int .i64 0),.c (.int .i64 0),.c (.int .i64 0),.c (.str []),.own .exact 7 [],.own .exact 2 [],.own .exact 5 []]),(6,[.c (.int .i64 13),.c (.int .i64 0),.c (.int .i64 0),.c (.str []),.own (.tok 6004 0) 7 (aa (acc++[(Vl.mk 11 0 0 [] q [] [])])),.own .exact 2 [],.own .exact 5 []])]) (ts':=[(6004,0)]) (us':=[2,4,6,6004])
     ⟨⟨_,Z,.inl (kL (i:=i) ai)⟩,⟨_,Z,.inl Z⟩,⟨_,Z,.inl Z⟩,⟨_,Z,.inl Z⟩,⟨_,Z,⟨_,Z,Z⟩⟩,⟨_,Z,⟨_,Z,Z⟩⟩,⟨_,Z,⟨_,Z,Z⟩⟩,trivial⟩ ⟨ce,ce,⟨_,_,Z,Z,⟨_,_,Z,.inl Z,⟨_,_,Z,.inl Z,⟨_,_,Z,.inl Z,⟨_,_,Z,.inl Z,⟨_,_,Z,⟨_,Z,.inr ⟨_,_,Z,Z,aeM (AV.own (.tok 6004 1) 7) Q⟩⟩,ce⟩⟩⟩⟩⟩⟩,trivial⟩ Z ?_
    exact aew
   |true =>
    cases O with
    |false =>
     repeat' (first|refine sz ?_|refine zc ?_ ?_|(intro h;first|(cases h;done)|rw[h]|skip)|refine uI Z (i) Z (eK D) Z ?_|refine uC Z hq ?_|(refine uA Z ?_ ?_<;>(try (show(_:Nat)*_<=_;dsimp only))))
     have h1:=aB acc;simp only[aag,aay];omega;have Q:aa acc++[bA (Vl.mk 11 0 0 [] q [] [])]=aa (acc++[(Vl.mk 11 0 0 [] q [] [])]):=(jf acc [_]).symm;refine AK.fY [(2,2),(4,4),(6,6)] [(6004,(0,some 6004))] (env':=[(171,.c (.int .i64 ((i+1:Nat):Int))),(170,.c (.int .i64 (aD M).length)),(169,.c (.sl 5 (aD M))),(7,.c (.bool false)),(2,.ptr 2 0),(4,.ptr 4 0),(6,.ptr 6 0)])
      (bs':=[(2,[.c (.int .i64 13),.c (.sl 2 (az ts))]),(4,[.c (.int .i64 0),.c (.int .i64 0),.c (.int .i64 0),.c (.str []),.own .exact 7 [],.own .exact 2 [],.own .exact 5 []]),(6,[.c (.int .i64 13),.c (.int .i64 0),.c (.int .i64 0),.c (.str []),.own (.tok 6004 0) 7 (aa (acc++[(Vl.mk 11 0 0 [] q [] [])])),.own .exact 2 [],.own .exact 5 []])]) (ts':=[(6004,0)]) (us':=[2,4,6,6004])
      ⟨⟨_,Z,.inl (kL (i:=i) ai)⟩,⟨_,Z,.inl Z⟩,⟨_,Z,.inl Z⟩,⟨_,Z,.inl Z⟩,⟨_,Z,⟨_,Z,Z⟩⟩,⟨_,Z,⟨_,Z,Z⟩⟩,⟨_,Z,⟨_,Z,Z⟩⟩,trivial⟩ ⟨ce,ce,⟨_,_,Z,Z,⟨_,_,Z,.inl Z,⟨_,_,Z,.inl Z,⟨_,_,Z,.inl Z,⟨_,_,Z,.inl Z,⟨_,_,Z,⟨_,Z,.inr ⟨_,_,Z,Z,aeM (AV.own (.tok 6004 1) 7) Q⟩⟩,ce⟩⟩⟩⟩⟩⟩,trivial⟩ Z ?_
     exact aew
    |true =>
     by_cases k2:xk=2;rotate_left
     ·have e2:(xk==2)=false:=(by simpa using k2);have hb':((Y==3)&&(ey M ts).2)=(false&&(ey (M.drop (i+1)) ts).2):=by rw[V];simp[k2]
      repeat' (first|refine sz ?_|refine zc ?_ ?_|(intro h;first|(cases h;done)|rw[h]|skip)|refine uI Z (i) Z (eK D) Z ?_|refine uC Z hq ?_|(refine uA Z ?_ ?_<;>(try (show(_:Nat)*_<=_;dsimp only))))
      have h1:=aB acc;simp only[aag,aay];omega;have Q:aa acc++[bA (Vl.mk 11 0 0 [] q [] [])]=aa (acc++[(Vl.mk 11 0 0 [] q [] [])]):=(jf acc [_]).symm;refine AK.fY [(2,2),(4,4),(6,6)] [(6004,(0,some 6004))] (env':=[(171,.c (.int .i64 ((i+1:Nat):Int))),(170,.c (.int .i64 (aD M).length)),(169,.c (.sl 5 (aD M))),(7,.c (.bool false)),(2,.ptr 2 0),(4,.ptr 4 0),(6,.ptr 6 0)])
       (bs':=[(2,[.c (.int .i64 13),.c (.sl 2 (az ts))]),(4,[.c (.int .i64 0),.c (.int .i64 0),.c (.int .i64 0),.c (.str []),.own .exact 7 [],.own .exact 2 [],.own .exact 5 []]),(6,[.c (.int .i64 13),.c (.int .i64 0),.c (.int .i64 0),.c (.str []),.own (.tok 6004 0) 7 (aa (acc++[(Vl.mk 11 0 0 [] q [] [])])),.own .exact 2 [],.own .exact 5 []])]) (ts':=[(6004,0)]) (us':=[2,4,6,6004])
       ⟨⟨_,Z,.inl (kL (i:=i) ai)⟩,⟨_,Z,.inl Z⟩,⟨_,Z,.inl Z⟩,⟨_,Z,.inl Z⟩,⟨_,Z,⟨_,Z,Z⟩⟩,⟨_,Z,⟨_,Z,Z⟩⟩,⟨_,Z,⟨_,Z,Z⟩⟩,trivial⟩ ⟨ce,ce,⟨_,_,Z,Z,⟨_,_,Z,.inl Z,⟨_,_,Z,.inl Z,⟨_,_,Z,.inl Z,⟨_,_,Z,.inl Z,⟨_,_,Z,⟨_,Z,.inr ⟨_,_,Z,Z,aeM (AV.own (.tok 6004 1) 7) Q⟩⟩,ce⟩⟩⟩⟩⟩⟩,trivial⟩ Z ?_
      exact ih (i+1,acc++[(Vl.mk 11 0 0 [] q [] [])],false) ⟨h2,aek,H,hb'⟩ fo
     subst k2;have hb':((Y==3)&&(ey M ts).2)=((xp==28)&&(ey (M.drop (i+1)) ts).2):=by rw[V,int_eq];simp
     repeat' (first|refine sz ?_|refine zc ?_ ?_|(intro h;first|(cases h;done)|rw[h]|skip)|refine uI Z (i) Z (eK D) Z ?_|refine uC Z hq ?_|(refine uA Z ?_ ?_<;>(try (show(_:Nat)*_<=_;dsimp only))))
     have h1:=aB acc;simp only[aag,aay];omega;have Q:aa acc++[bA (Vl.mk 11 0 0 [] q [] [])]=aa (acc++[(Vl.mk 11 0 0 [] q [] [])]):=(jf acc [_]).symm;refine AK.fY [(2,2),(4,4),(6,6)] [(6004,(0,some 6004))] (env':=[(171,.c (.int .i64 ((i+1:Nat):Int))),(170,.c (.int .i64 (aD M).length)),(169,.c (.sl 5 (aD M))),(7,.c (.bool (xp==28))),(2,.ptr 2 0),(4,.ptr 4 0),(6,.ptr 6 0)])
      (bs':=[(2,[.c (.int .i64 13),.c (.sl 2 (az ts))]),(4,[.c (.int .i64 0),.c (.int .i64 0),.c (.int .i64 0),.c (.str []),.own .exact 7 [],.own .exact 2 [],.own .exact 5 []]),(6,[.c (.int .i64 13),.c (.int .i64 0),.c (.int .i64 0),.c (.str []),.own (.tok 6004 0) 7 (aa (acc++[(Vl.mk 11 0 0 [] q [] [])])),.own .exact 2 [],.own .exact 5 []])]) (ts':=[(6004,0)]) (us':=[2,4,6,6004])
      ⟨⟨_,Z,.inl (kL (i:=i) ai)⟩,⟨_,Z,.inl Z⟩,⟨_,Z,.inl Z⟩,⟨_,Z,.inl Z⟩,⟨_,Z,⟨_,Z,Z⟩⟩,⟨_,Z,⟨_,Z,Z⟩⟩,⟨_,Z,⟨_,Z,Z⟩⟩,trivial⟩ ⟨ce,ce,⟨_,_,Z,Z,⟨_,_,Z,.inl Z,⟨_,_,Z,.inl Z,⟨_,_,Z,.inl Z,⟨_,_,Z,.inl Z,⟨_,_,Z,⟨_,Z,.inr ⟨_,_,Z,Z,aeM (AV.own (.tok 6004 1) 7) Q⟩⟩,ce⟩⟩⟩⟩⟩⟩,trivial⟩ Z ?_
     exact ih (i+1,acc++[(Vl.mk 11 0 0 [] q [] [])],(xp==28)) ⟨h2,aek,H,hb'⟩ fo
  have hT:T=8\/T=14\/T=15:=by have:=PR Qb;omega
  rw[agv T Y N P hT];rcases hT with rfl|rfl|rfl
  ·refine qn func143 call143 λβ hf=>?_;refine AK.seq ?_;refine AK.region mixed Z ?_
   repeat' (first|refine so ?_|refine zu ?_ ?_|(intro h;first|(cases h;done)|rw[h]|skip)|(refine uA Z ?_ ?_<;>(try (show(_:Nat)*_<=_;dsimp only))))
   refine AK.freeze 3 Z Z Z Z ?_;exact dq
  ·refine qn func143 call143 λβ hf=>?_;refine AK.seq ?_;refine AK.region mixed Z ?_
   repeat' (first|refine so ?_|refine zu ?_ ?_|(intro h;first|(cases h;done)|rw[h]|skip)|(refine uA Z ?_ ?_<;>(try (show(_:Nat)*_<=_;dsimp only))))
   refine AK.freeze 3 Z Z Z Z ?_;exact dq
  refine qn func143 call143 λβ hf=>?_;refine AK.seq ?_;refine AK.region mixed Z ?_
  repeat' (first|refine so ?_|refine zu ?_ ?_|(intro h;first|(cases h;done)|rw[h]|skip)|(refine uA Z ?_ ?_<;>(try (show(_:Nat)*_<=_;dsimp only))))
  refine AK.freeze 3 Z Z Z Z ?_;exact dq
termination_by n=>SizeOf.sizeOf n
decreasing_by
 have h1:=aeQ D;simp at h1 ⊢;omega;have h1:=aeQ D;have h2:=aeQ hy;simp at h1 h2 ⊢;omega
end Go.Proofs
namespace Go.Proofs
open Go.cw
def bV(rows:L CV)(l:L UInt8)(b:UInt8)(z:Int)(h:z=(b.toNat:Int)):rows++cO l++[CV.int .u8 z]=rows++cO (l++[b]):=by simp_all
def HV:∀(k m c:Nat),m<128^k->(DC c m).length<=k+1
 |0,m,c,h=>by
  obtain rfl:m=0:=by simpa using h
  rw[nW];simp
 |k+1,m,c,h=>by by_cases q:m=0;subst q;rw[nW];simp;rw[pR _ _ q];have:=HV k (m/128) (m%128) (by rw[Nat.pow_succ]at h;omega);simp_all
def sK{n:Int}(h1 : -bJ<=n)(h2:n<=bJ):(kF n).length<=10:=by refine HV 9 _ _ ?_;grind
attribute [local irreducible] AK ah aR bM
def PS{rows:L CV}{acc:L UInt8}{c:Nat}(h:c<128):rows++cO acc++[CV.int .u8 (IntKind.u8.wrap (((BitVec.ofInt 8 (c:Int))|||(BitVec.ofInt 8 128)).toNat))]=rows++cO (acc++[Go.cw.byteOf ((c+128:Nat):Int)]):=by refine bV rows acc _ _ ?_;rw[aeD h,jN _ ai]
def abK{n:Int}(h1 : -bJ<=n)(h2:n<=bJ)(B:n<0):IntKind.u8.wrap (((BitVec.ofInt 8 64)|||(BitVec.ofInt 8 (IntKind.u8.wrap (i64.wrap (((BitVec.ofInt 64 (i64.wrap (0-n)))&&&(BitVec.ofInt 64 63)).toNat))))).toNat)=((64+n.natAbs%64:Nat):Int):=by unfold bJ at h1 h2;rw[iB (n:=0-n) ai ai,show 0-n=((n.natAbs:Nat):Int)from by omega,MN ai,Qg (a:=n.natAbs%64) ai];exact ZO ⟨n.natAbs%64,ai⟩
def Zn{n:Int}(h1 : -bJ<=n)(h2:n<=bJ)(B:n<0):(i64.wrap (0-n)).fdiv (2^(min 6 64))=((n.natAbs/64:Nat):Int):=by unfold bJ at h1 h2;rw[iB (n:=0-n) ai ai,show 0-n=((n.natAbs:Nat):Int)from by omega];grind
def abL{n:Int}(h1 : -bJ<=n)(h2:n<=bJ)(B:¬n<0):IntKind.u8.wrap (((BitVec.ofInt 8 0)|||(BitVec.ofInt 8 (IntKind.u8.wrap (i64.wrap (((BitVec.ofInt 64 n)&&&(BitVec.ofInt 64 63)).toNat))))).toNat)=((0+n.natAbs%64:Nat):Int):=by unfold bJ at h1 h2;obtain⟨a,rfl⟩:∃a:Nat,n=a:=⟨n.toNat,ai⟩;rw[MN ai,Qg (a:=a%64) ai];exact or_none ⟨a%64,ai⟩
def Zo{n:Int}(h1 : -bJ<=n)(h2:n<=bJ)(B:¬n<0):n.fdiv (2^(min 6 64))=((n.natAbs/64:Nat):Int):=by grind
def Zp{m:Nat}(h:m<9223372036854775808):IntKind.u8.wrap (i64.wrap (((BitVec.ofInt 64 (m:Int))&&&(BitVec.ofInt 64 127)).toNat))=((m%128:Nat):Int):=by rw[Wg h,Qg ai]
def zS(rows:L CV)(n:Int)(h1 : -bJ<=n)(h2:n<=bJ)(P:rows.length<=1099511627776) :
  hJ 195 [.v (.own 1 rows),.v (.c (.int .i64 n))] [.own 1 (rows++cO (kF n))] []:=by
 have M:n.natAbs<=1152921504606846976:=by unfold bJ at h1 h2;omega
 by_cases B:n<0
 ·have E:decide (n<0)=true:=aaX B;refine en func195 call195 [(0,.own (.tok 1000000 0) 1 (rows)),(1,.c (.int .i64 n))] [] [(1000000,0)] [1000000] λβ hf=>?_
  repeat' (first|refine qz ?_|refine ze ?_ ?_|(intro h;first|(cases h;done)|rw[h]|skip)|(refine uA Z ?_ ?_<;>(try (show(_:Nat)*_<=_;dsimp only))))
  refine AK.dN (α:=Nat×Nat×L UInt8) (λz=>z.1<128/\z.2.1<=1152921504606846976/\z.2.2.length<=10/\kF n=z.2.2++DC z.1 z.2.1) (λz=>z.2.1)
   (λz=>[(5,.c (.int .u8 z.1)),(1,.c (.int .i64 z.2.1)),(0,.own (.tok 1000000 0) 1 (rows++cO z.2.2))]) (λ_=>[]) (λ_=>[(1000000,0)]) [1000000] (64+n.natAbs%64,n.natAbs/64,[])
   ⟨by show 64+n.natAbs%64<128;omega,by show n.natAbs/64<=_;omega,cc,by unfold kF;rw[if_pos B];rfl⟩ ⟨.inl (aeM (λz=>some (AV.c (CV.int .u8 z))) (abK h1 h2 B)),.inl (aeM (λz=>some (AV.c (CV.int .i64 z))) (Zn h1 h2 B)),.inl (aeM (λl=>some (AV.own (.tok 1000000 0) 1 l)) (aeO rows).symm),trivial⟩ trivial ⟨Z,trivial⟩ Z Z Z ?_
  rintro⟨c,m,acc⟩ ⟨I,q,V,H⟩ ih;simp only at I q V H;by_cases Y:m=0
  ·have u:decide ((m:Int)>0)=false:=aaY ai;rw[Y,nW]at H;clear ih
   repeat' (first|refine qz ?_|refine ze ?_ ?_|(intro h;first|(cases h;done)|rw[h]|skip)|(refine uA Z ?_ ?_<;>(try (show(_:Nat)*_<=_;dsimp only))))
   simp only[aaZ,aeU,aag,aay];omega;show(_:L LV)=_;rw[H];exact aeB
  have u:decide ((m:Int)>0)=true:=aaX ai;rw[pR _ _ Y]at H;have W:=sK h1 h2;rw[H]at W;simp only[aaZ,aag]at W
  repeat' (first|refine qz ?_|refine ze ?_ ?_|(intro h;first|(cases h;done)|rw[h]|skip)|(refine uA Z ?_ ?_<;>(try (show(_:Nat)*_<=_;dsimp only))))
  simp only[aaZ,aeU,aag,aay];omega;refine AK.fY [] [(1000000,(0,some 1000000))] (env':=[(5,.c (.int .u8 ((m%128:Nat):Int))),(1,.c (.int .i64 ((m/128:Nat):Int))),(0,.own (.tok 1000000 0) 1 (rows++cO (acc++[Go.cw.byteOf ((c+128:Nat):Int)])))])
   (bs':=[]) (ts':=[(1000000,0)]) (us':=[1000000])
   ⟨⟨_,Z,.inl (aeM (λz=>AV.c (CV.int .u8 z)) (Zp (m:=m) ai))⟩,⟨_,Z,.inl (aeM (λz=>AV.c (CV.int .i64 z)) (SR m 7))⟩,⟨_,Z,⟨_,Z,.inr ⟨_,_,Z,Z,aeM (AV.own (.tok 1000000 1) 1) (PS I)⟩⟩⟩,trivial⟩ trivial Z ?_
  refine ih (m%128,m/128,acc++[Go.cw.byteOf ((c+128:Nat):Int)]) ⟨by show m%128<128;omega,by show m/128<=_;omega,Aq,by show kF n=_;rw[H];simp⟩ (by show m/128<m;omega)
 have E:decide (n<0)=false:=aaY B;refine en func195 call195 [(0,.own (.tok 1000000 0) 1 (rows)),(1,.c (.int .i64 n))] [] [(1000000,0)] [1000000] λβ hf=>?_
 repeat' (first|refine qz ?_|refine ze ?_ ?_|(intro h;first|(cases h;done)|rw[h]|skip)|(refine uA Z ?_ ?_<;>(try (show(_:Nat)*_<=_;dsimp only))))
 refine AK.dN (α:=Nat×Nat×L UInt8) (λz=>z.1<128/\z.2.1<=1152921504606846976/\z.2.2.length<=10/\kF n=z.2.2++DC z.1 z.2.1) (λz=>z.2.1)
  (λz=>[(5,.c (.int .u8 z.1)),(1,.c (.int .i64 z.2.1)),(0,.own (.tok 1000000 0) 1 (rows++cO z.2.2))]) (λ_=>[]) (λ_=>[(1000000,0)]) [1000000] (0+n.natAbs%64,n.natAbs/64,[])
  ⟨by show 0+n.natAbs%64<128;omega,by show n.natAbs/64<=_;omega,cc,by unfold kF;rw[if_neg B];rfl⟩ ⟨.inl (aeM (λz=>some (AV.c (CV.int .u8 z))) (abL h1 h2 B)),.inl (aeM (λz=>some (AV.c (CV.int .i64 z))) (Zo h1 h2 B)),.inl (aeM (λl=>some (AV.own (.tok 1000000 0) 1 l)) (aeO rows).symm),trivial⟩ trivial ⟨Z,trivial⟩ Z Z Z ?_
 rintro⟨c,m,acc⟩ ⟨I,q,V,H⟩ ih;simp only at I q V H;by_cases Y:m=0
 ·have u:decide ((m:Int)>0)=false:=aaY ai;rw[Y,nW]at H;clear ih
  repeat' (first|refine qz ?_|refine ze ?_ ?_|(intro h;first|(cases h;done)|rw[h]|skip)|(refine uA Z ?_ ?_<;>(try (show(_:Nat)*_<=_;dsimp only))))
  simp only[aaZ,aeU,aag,aay];omega;show(_:L LV)=_;rw[H];exact aeB
 have u:decide ((m:Int)>0)=true:=aaX ai;rw[pR _ _ Y]at H;have W:=sK h1 h2;rw[H]at W;simp only[aaZ,aag]at W
 repeat' (first|refine qz ?_|refine ze ?_ ?_|(intro h;first|(cases h;done)|rw[h]|skip)|(refine uA Z ?_ ?_<;>(try (show(_:Nat)*_<=_;dsimp only))))
 simp only[aaZ,aeU,aag,aay];omega;refine AK.fY [] [(1000000,(0,some 1000000))] (env':=[(5,.c (.int .u8 ((m%128:Nat):Int))),(1,.c (.int .i64 ((m/128:Nat):Int))),(0,.own (.tok 1000000 0) 1 (rows++cO (acc++[Go.cw.byteOf ((c+128:Nat):Int)])))])
  (bs':=[]) (ts':=[(1000000,0)]) (us':=[1000000])
  ⟨⟨_,Z,.inl (aeM (λz=>AV.c (CV.int .u8 z)) (Zp (m:=m) ai))⟩,⟨_,Z,.inl (aeM (λz=>AV.c (CV.int .i64 z)) (SR m 7))⟩,⟨_,Z,⟨_,Z,.inr ⟨_,_,Z,Z,aeM (AV.own (.tok 1000000 1) 1) (PS I)⟩⟩⟩,trivial⟩ trivial Z ?_
 refine ih (m%128,m/128,acc++[Go.cw.byteOf ((c+128:Nat):Int)]) ⟨by show m%128<128;omega,by show m/128<=_;omega,Aq,by show kF n=_;rw[H];simp⟩ (by show m/128<m;omega)
end Go.Proofs
