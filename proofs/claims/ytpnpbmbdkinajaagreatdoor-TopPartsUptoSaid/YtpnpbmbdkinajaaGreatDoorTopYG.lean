/- A part of the proof. -/
import Derived.Test.YtpnpbmbdkinajaaGreatDoorChn11G
set_option linter.all false
set_option maxHeartbeats 0
set_option maxRecDepth 100000
open Go.Proofs.Tryz
namespace Go.Proofs
open Go.cE
def R3(t:Ty):cx t t:=(eD t t).2 rfl
def R4(v:Vl):oF v v:=(L5 v v).2 rfl
attribute [local irreducible] AK ag aZ bS de cA cq di gL eF.cF eF.iZ wB wF gl
def Bx:∀(t:Nd),bE t<=1099511627776->af 34 [aV t,aV t] (.bool true)
 |.mk T z I N F,C=>by
  simp only[bE]at C;have P:=gB F;have A:∀x∈F,af 34 [aV x,aV x] (.bool true):=λx O=>Bx x ab8;have q:(T != T)=false:=by simp
  have W:(z != z)=false:=by simp
  have M:(bif false then true else(z != z))=false:=W;have n3:(I != I)=false:=by simp
  have K:(bif false then true else(I != I))=false:=n3;have Y:(!(N==N))=false:=by simp
  have J:(bif false then true else !(N==N))=false:=Y;have n5:((((aD F).length:Nat):Int) != (((aD F).length:Nat):Int))=false:=by simp
  have G:(bif false then true else((((aD F).length:Nat):Int) != (((aD F).length:Nat):Int)))=false:=n5;refine qn func34 call34 λy hf=>?_
  repeat' (first|exact wq|refine wz ?_|(intro h;rw[h]))
  refine AK.dg (α:=Nat) (λi=>i<=F.length) (λi=>F.length-i)
   (λi=>[(44,Υ i),(43,Υ (aD F).length),(2,.ptr 2 0),(3,.ptr 3 0)])
   (λ_=>[(2,[Υ T,Υ z,Υ I,.c (.str N),.c (.sl 5 (aD F))]),(3,[Υ T,Υ z,Υ I,.c (.str N),.c (.sl 5 (aD F))])]) (λ_=>[]) [2,3] 0
   (ahp _) ce ⟨Z,Z,trivial⟩ trivial Z Z Z ?_
  intro i H S;rcases fU F i H with ⟨x,O,V⟩|U
  ·have Q:=mG O;have r:=A x V;have B:=ff O;have D:=S (i+1) (bp O) qv;clear S;obtain⟨E,u,p,o,j⟩:=x
   repeat' (first|exact wq|refine wz ?_|(intro h;rw[h]))
   exact AK.again D ⟨.inl (dz qv),.inl Z,.inl Z,.inl Z,trivial⟩ ⟨Z,Z,trivial⟩ trivial Z Z Z
  have Q:=j9 U;clear S
  repeat' (first|exact wq|refine wz ?_|(intro h;rw[h]))
termination_by t=>SizeOf.sizeOf t
decreasing_by
 have:=ahx O;simp at this ⊢;omega
def Gy{a b:Acc}(h:b.is=a.is/\b.param=a.param/\b.store=a.store/\b.code=a.code)(I:Pr a):af 24 [.agg (zi a),.agg (zi b)] (.bool true):=by
 obtain⟨M,cK,S,⟨V,T⟩,⟨sT,C⟩,code,⟨K,E,J,q,H,G,D⟩⟩:=a;obtain⟨W,U,Q,A,u,Y,⟨q1,p,y,x,t,r,o⟩⟩:=b;simp only at h;obtain⟨F,z,B,P⟩:=h;subst F z B P;obtain⟨O,N,_⟩:=I;simp only at O N;have F:=gC (.mk V T) (.mk V T) ai;have z:=gC (.mk sT C) (.mk sT C) ai;have B:=Bx (.mk 0 0 0 [] Y) afu;rw[R3]at F z;have j:(W==W):=by simp
 refine qn func24 call24 λi hf=>?_
 repeat' (first|exact wq|refine wz ?_|(intro h;rw[h]))
def OT(a:Acc)(Y:Pr a):af 19 [.agg (zi a),.agg (zi a)] (.bool true):=by
 have F:=Gy (a:=a) (b:=a) ⟨Z,Z,Z,Z⟩ Y;have I:=vj a.keep a.keep (by have:=Y.2.2;omega);rw[R4]at I;obtain⟨W,cK,S,⟨V,T⟩,⟨sT,C⟩,code,⟨U,E,P,q,M,K,O⟩⟩:=a;have A:(cK==cK):=by simp
 have N:(bif true then(cK==cK)else false)=true:=A;have Q:(S==S):=by simp
 have J:(bif true then(S==S)else false)=true:=Q;refine qn func19 call19 λD hf=>?_
 repeat' (first|exact wq|refine wz ?_|(intro h;rw[h]))
def OU{l:eF}(E:pQ l):af 9 [.agg (di l),.agg (di l)] (.bool true):=by
 have V:=E.h12;have U:=y8 V;refine qn func9 call9 λF hf=>?_
 repeat' (first|exact wq|refine wz ?_|(intro h;rw[h]))
 refine AK.dg (α:=Nat) (λi=>i<=12) (λi=>12-i) (λi=>[(6,.c (ah (i:Nat))),(2,.ptr 2 0),(3,.ptr 3 0)]) (λ_=>[(2,cq l),(3,cq l)]) (λ_=>[]) [2,3] 0
  (ahp _) ce ⟨Z,Z,trivial⟩ trivial Z (gh Z (fD _ _) (gh Z (fD _ _) Z)) Z ?_
 intro i H S;by_cases T:i<12
 ·have A:decide ((i:Int)<12):=ace ai;have p:Nat.blt i 12:=by rw[ajd];omega
  have W:=gm (l:=l) (i:=i) V ai ai;rw[acn]at W;have z:=OT (aR l i) (E.size _ (acm W));have D:=S (i+1) ai ai;clear S;generalize aR l i=a at *;obtain⟨P,cK,O,⟨N,M⟩,⟨sT,C⟩,cd,⟨K,J,I,q,G,B,u⟩⟩:=a;obtain⟨y,Y⟩:=oM W;have d1:=Y 0 _ Z;clear Y
  repeat' (first|exact wq|refine wz ?_|(intro h;rw[h]))
  exact AK.again D ⟨.inl (dz (i:=i) ai),.inl Z,.inl Z,trivial⟩ ⟨Z,Z,trivial⟩ trivial Z (gh Z (fD _ _) (gh Z (fD _ _) Z)) Z
 obtain rfl:i=12:=by omega
 have A:decide (((12:Nat):Int)<12)=false:=by decide
 have Q:(l.fu==l.fu):=by simp
 clear S
 repeat' (first|exact wq|refine wz ?_|refine ag.dy hX kn Z Z Z Z Z Z U Z ?_)
 exact uQ hf Z Z (ahm CV.bool Q)
end Go.Proofs
namespace Go.Proofs
open Go.cE
def L7:∀(k:Nat)(w:Wk)(q:List ur),rY w->(w.made.length:Int)<=w.done->(∀x∈q,sn x)->(allM k w q).1=0->w.done+(if q=[]then 0 else 1)<=(allM k w q).2.done
 |k,w,[],D,hm,U,h=>by rw[allM_nil];simp
 |0,w,x::q,D,hm,U,h=>by simp[allM]at h
 |k+1,w,x::q,D,hm,U,h=>by
  have h1:=qy D hm (U x cS);unfold allM at h ⊢;split at h;simp at h;rename_i c;rw[if_neg c];split at h;rename_i u;exact absurd h u;rename_i u;rw[if_neg u];have T:rY {(dG w x).2 with done:=(dG w x).2.done+1}:=⟨h1.ok.qw,h1.ok.bC,h1.ok.aj,ot,mY⟩
  have B:=L7 k _ (q++(dG w x).1.1) T h1.ok.Fs (λy V=>by
   rcases List.mem_append.1 V with V|V
   exact U y agc
   exact h1.items y V) h
  have Y:(dG w x).2.done+1+(if q++(dG w x).1.1=[]then 0 else 1)<=(allM k {(dG w x).2 with done:=(dG w x).2.done+1} (q++(dG w x).1.1)).2.done:=B;have W:=h1.done;rw[if_neg cS];split at Y<;>omega
def L8{src:Int}:∀(l:List uz)(w:Wk),rY w->(w.made.length:Int)<=w.done->(∀o∈l,vw o)->(jd src w l).1=0->w.done+l.length<=(jd src w l).2.done
 |[],w,hw,hm,hl,h=>by show w.done+((0:Nat):Int)<=w.done;omega
 |o::r,w,hw,hm,hl,h=>by
  have O:∀x∈[(⟨src,some o,jl⟩:ur)],sn x:=λx O=>by rw[ait]at O;subst O;exact hl o cS
  have Y:=xy 25 w [⟨src,some o,jl⟩] hw hm O;unfold jd at h ⊢;split at h;rename_i c;exact absurd h c;rename_i c;rw[if_neg c];simp only[ne_eq,ahI]at c;have V:=L8 r _ Y.ok (Y.made c) (λx O=>hl x Ko) h;have B:=L7 25 w [⟨src,some o,jl⟩] hw hm O c;rw[if_neg cS]at B;simp only[aat]
  push_cast
  omega
def whole{l:eF}{b:sK}(E:pQ l)(N:b.bC<=3000)(U:∀o∈b.ops,vw o):((iV l b).2.code=0->(b.ops.length:Int)<=(iV l b).2.done/\(iV l b).2.done<=24) /\
  ((iV l b).2.code≠0->(∃c,c≠0/\iV l b=(l,⟨c,0,0,0,[]⟩))\/(xu l b=0/\∃c g,c≠0/\iV l b=(yZ l b,⟨c,0,g,0,[]⟩))):=by
 unfold iV;split;rename_i c;exact⟨λh=>absurd h c,λ_ => .inl ⟨_,c,Z⟩⟩;rename_i c;simp only[ne_eq,ahI]at c;split;rename_i u;exact⟨λh=>absurd h u,λ_ => .inr ⟨c,_,_,u,Z⟩⟩;rename_i u;simp only[ne_eq,ahI]at u;have V:=L8 b.ops (mF l b) (uE E c N) (ahS _) U u;have Y:=(MJ b.src b.ops _ (uE E c N) (ahS _) U).ok.done;have e:(mF l b).done=0:=rfl;exact⟨λ_=>⟨by show(b.ops.length:Int)<=(jd b.src (mF l b) b.ops).2.done;omega,Y.2⟩,λh=>absurd Z h⟩
def eE(l:eF)(s:Nat)(n:Int):eF:=l.iZ s {aR l s with cnt:=n}
def ya{l m:eF}(Y:l.aI.length=12)(V:m.aI.length=12)(hf:l.fu=m.fu)(h:∀i:Nat,i<12->aR l i=aR m i):l=m:=by
 obtain⟨a,f⟩:=l;obtain⟨b,g⟩:=m;simp only at Y V hf;subst hf;have:a=b:=by apply List.ext_getElem?;intro i;by_cases H:i<12;have A:=zm (l:=a) (i:=i) ai;have Q:=zm (l:=b) (i:=i) ai;have:=h i H;rw[JO,JO]at this;simp only at this;rw[A,Q,this];rw[aiL ai,aiL ai]
 rw[this]
def jz{l:eF}{s:Nat}{n:Int}(h:l.aI.length=12):(eE l s n).aI.length=12:=oO h
def jt{l:eF}{s:Nat}{n:Int}(h:l.aI.length=12){i:Nat}(H:i<12):aR (eE l s n) i=if s=i then {aR l i with cnt:=n}else aR l i:=by unfold eE;rw[qo ai];by_cases c:s=i;subst c;rw[if_pos rfl];rw[if_neg c,if_neg c]
def L9{l:eF}{F:Int}(h:l.aI.length<=F.toNat):aR l F=s9:=by unfold aR;rw[List.getD,aiL h];rfl
def A5{l:eF}{s:Nat}{n:Int}(h:l.aI.length=12)(F:Int):(aR (eE l s n) F).is=(aR l F).is/\(aR (eE l s n) F).cK=(aR l F).cK/\(aR (eE l s n) F).param=(aR l F).param/\(aR (eE l s n) F).store=(aR l F).store/\(aR (eE l s n) F).code=(aR l F).code/\(aR (eE l s n) F).keep=(aR l F).keep:=by
 by_cases C:F.toNat<12
 ·have A:aR (eE l s n) F=aR (eE l s n) (F.toNat:Nat):=by unfold aR;rw[acn]
  have Q:aR l F=aR l (F.toNat:Nat):=by unfold aR;rw[acn]
  rw[A,Q,jt h C];split<;>exact⟨Z,Z,Z,Z,Z,Z⟩
 rw[L9 (by rw[jz h];omega),L9 (by rw[h];omega)];exact⟨Z,Z,Z,Z,Z,Z⟩
def E8{l:eF}{s:Nat}{n:Int}(h:l.aI.length=12)(F T k:Int):jm (eE l s n) F T k=jm l F T k:=by unfold jm;rw[(A5 h F).1,(A5 h T).1,(A5 h F).2.1]
def R8{l:eF}{s:Nat}{n F T k:Int}(E:pQ l)(u:pQ (eE l s n))(e:jm l F T k=0):rI (eE l s n) F T k=eE (rI l F T k) s n:=by
 have Q:=E.h12;have Y:jm (eE l s n) F T k=0:=by rw[E8 Q];exact e
 have V:=(xD E e).1.h12;have U:=(xD u Y).1.h12;refine ya U (jz V) Z λi H=>?_;rw[OR u Y H,jt V H,OR E e H,jt Q H];split;rfl;rfl
def JP{l:eF}{s j:Nat}{n:Int}{a b:Acc}(Q:l.aI.length=12)(G:j<12)(h:b=if s=j then {a with cnt:=n}else a):(eE l s n).iZ j b=eE (l.iZ j a) s n:=by have Y:(l.iZ j a).aI.length=12:=oO Q;refine ya (oO (jz Q)) (jz Y) rfl λi H=>?_;rw[qo (by rw[jz Q];exact H),jt Y H,jt Q H,qo ai,h];by_cases c:j=i;subst c;rw[if_pos rfl,if_pos rfl];rw[if_neg c,if_neg c]
structure Sim(s:Nat)(n d u m:Int)(w v:Wk):Prop where
 l:v.l=eE w.l s n
 bC:v.bC=w.bC
 done:v.done=w.done-d
 used:v.used=w.used-u
 aj:v.aj=w.aj-m
section
variable {s:Nat}{n d u m:Int}
def Wy{w v:Wk}{x:ur}{to k:Int}(O:0<=m)(q:rY w)(J:rY v)(h:Sim s n d u m w v)(D:(zh w x to k).1.2=0):(zh v x to k).1=(zh w x to k).1/\Sim s n d u m (zh w x to k).2 (zh v x to k).2:=by
 have Q:=q.qw.h12;have W:pQ (eE w.l s n):=by rw[<- h.l];exact J.qw
 unfold zh at D ⊢;rw[h.l,E8 Q];split at D;rename_i c;exact absurd D c;rename_i e;rw[if_neg e,if_neg e];simp only[ne_eq,ahI]at e;rw[R8 q.qw W e];obtain⟨M,j,rfl,V,U⟩:=xD q.qw e;obtain⟨T,K,I,N,E,S⟩:=A5 (s:=s) (n:=n) M.h12 (j:Int);have P:=jt (s:=s) (n:=n) M.h12 V;rw[T,I];split at D
 ·rename_i c;rw[if_pos c,if_pos c];split at D;rename_i Y;exact absurd D Y;rename_i Y;rw[if_neg Y,if_neg Y];exact⟨Z,Z,h.bC,h.done,h.used,h.aj⟩
 rename_i c;rw[if_neg c,if_neg c];split at D;rename_i Y;exact absurd D Y;rename_i Y;rw[if_neg Y,if_neg Y];have C:tf v x j k (aR (eE (rI w.l x.dX j k) s n) j) (jY x (aR (rI w.l x.dX j k) j).param).1=tf w x j k (aR (rI w.l x.dX j k) j) (jY x (aR (rI w.l x.dX j k) j).param).1:=by unfold tf;rw[K,I,N,E,S,h.bC]
 rw[C];generalize tf w x j k (aR (rI w.l x.dX j k) j) (jY x (aR (rI w.l x.dX j k) j).param).1=r at *;unfold Fo at D ⊢;dsimp only at D ⊢;split at D;rename_i G;exact absurd D G;rename_i G;rw[if_neg G,if_neg G];split at D;simp at D;rename_i c4;rw[if_neg c4,if_neg (by rw[h.aj];omega)];refine⟨Z,?_,by show v.bC-r.bC=w.bC-r.bC;rw[h.bC],by show v.done=w.done-d;exact h.done,by show v.used+r.bC=w.used+r.bC-u;rw[h.used];omega,by show v.aj+r.aj=w.aj+r.aj-m;rw[h.aj];omega⟩;show(eE (rI w.l x.dX j k) s n).iZ (j:Int).toNat _=eE ((rI w.l x.dX j k).iZ (j:Int).toNat _) s n;rw[acn];refine JP M.h12 V ?_;rw[P];split<;>rfl
def Co{l:eF}(Q:l.aI.length=12)(Y:s<4):fJ ((eE l s n).aI.drop 4) 4=fJ (l.aI.drop 4) 4:=by unfold eE eF.iZ;rw[List.drop_set,if_pos Y]
def adZ{w v:Wk}{o:uz}(I:s<4)(q:rY w)(J:rY v)(V:vw o)(h:Sim s n d u m w v)(D:(orM w s o).1=0):(orM v s o).1=0/\Sim s n d u m (orM w s o).2 (orM v s o).2:=by
 have Q:=q.qw.h12;have U:pQ (eE w.l s n):=by rw[<- h.l];exact J.qw
 unfold orM at D ⊢;rw[h.l,Co Q I];split at D;simp at D;rename_i G;rw[if_neg G,if_neg G];split at D;rename_i c;exact absurd D c;rename_i Y;rw[if_neg Y,if_neg Y];simp only[ne_eq,ahI]at Y;split at D;simp at D;rename_i B;rw[if_neg B,if_neg B];split at D;simp at D;rename_i c4;rw[if_neg c4,if_neg c4];have O:=we q.qw V G Y B c4;obtain⟨T,S,C⟩:=v9 q.qw;have P:=we J.qw V G Y B (by rw[h.l,Co Q I];exact c4);rw[h.l,Co Q I]at P;have W:(eE w.l s n).iZ (fJ (w.l.aI.drop 4) 4) (newAcc o)=eE (w.l.iZ (fJ (w.l.aI.drop 4) 4) (newAcc o)) s n:=JP Q ai (by rw[if_neg ai]);rw[W]at P ⊢;rw[E8 O.h12];split at D;rename_i c;exact absurd D c;rename_i p;rw[if_neg p,if_neg p];simp only[ne_eq,ahI]at p;exact⟨Z,R8 O P p,h.bC,h.done,h.used,h.aj⟩
def abA{w v:Wk}{x:ur}(I:s<4)(Y:0<=m)(q:rY w)(J:rY v)(O:sn x)(hf:∀o,x.op=some o->x.dX=s)(h:Sim s n d u m w v)(D:(dG w x).1.2=0):(dG v x).1=(dG w x).1/\Sim s n d u m (dG w x).2 (dG v x).2:=by
 obtain⟨dX,N,y⟩:=x;unfold dG at D ⊢;cases N with
 |none=>exact Wy Y q J h D
 |some o =>
  have P:dX=s:=hf o Z;subst P;dsimp only at D ⊢;split at D;rename_i c;rw[if_pos c,if_pos c];exact Wy Y q J h D;rename_i c;rw[if_neg c,if_neg c];split at D;rename_i W;rw[if_pos W,if_pos W];obtain⟨A,Q⟩:=adZ I q J O h D;exact⟨by show(([]:List ur),(orM v _ o).1)=([],(orM w _ o).1);rw[A];exact ahm _ D.symm,Q⟩;simp at D
def R9(I:s<4)(A:0<=d)(U:0<=m):∀(k:Nat)(w v:Wk)(q:List ur),rY w->rY v->(w.made.length:Int)<=w.done->(v.made.length:Int)<=v.done->(∀x∈q,sn x/\∀o,x.op=some o->x.dX=s)->Sim s n d u m w v->(allM k w q).1=0->(allM k v q).1=0/\Sim s n d u m (allM k w q).2 (allM k v q).2
 |k,w,v,[],Y,J,yI,hm2,hq,h,D=>by rw[allM_nil,allM_nil];exact⟨Z,h⟩
 |0,w,v,x::q,Y,J,yI,hm2,hq,h,D=>by simp[allM]at D
 |k+1,w,v,x::q,Y,J,yI,hm2,hq,h,D=>by
  obtain⟨O,hf⟩:=hq x cS;have h1:=qy Y yI O;have N:=qy J hm2 O;unfold allM at D ⊢;split at D;simp at D;rename_i c;rw[if_neg c,if_neg (by rw[h.done];omega)];split at D;rename_i W;exact absurd D W;rename_i W;have G:(dG w x).1.2=0:=by simpa using W
  obtain⟨S,Q⟩:=abA I U Y J O hf h G;rw[if_neg W,S,if_neg W];have P:rY {(dG w x).2 with done:=(dG w x).2.done+1}:=⟨h1.ok.qw,h1.ok.bC,h1.ok.aj,by have:=h1.done;have:=Y.done;show 0<=(dG w x).2.done+1/\(dG w x).2.done+1<=24;omega,mY⟩;have E:rY {(dG v x).2 with done:=(dG v x).2.done+1}:=⟨N.ok.qw,N.ok.bC,N.ok.aj,by have:=N.done;have:=J.done;have:=h.done;show 0<=(dG v x).2.done+1/\(dG v x).2.done+1<=24;omega,by have:=N.ok.Fs;show((dG v x).2.made.length:Int)<=(dG v x).2.done+1+1;omega⟩
  exact R9 I A U k _ _ (q++(dG w x).1.1) P E h1.ok.Fs N.ok.Fs (λy V=>by
   rcases List.mem_append.1 V with V|V
   exact hq y agc
   exact⟨h1.items y V,λo T=>by rw[wY y V]at T;cases T⟩) ⟨Q.l,Q.bC,by show(dG v x).2.done+1=(dG w x).2.done+1-d;rw[Q.done];omega,Q.used,Q.aj⟩ D
end
def F6{l:eF}{s:Nat}{c n:Int}(Q:l.aI.length=12)(Y:s<12):eE (eE l s c) s n=eE l s n:=by refine ya (jz (jz Q)) (jz Q) rfl λi H=>?_;rw[jt (jz Q) H,jt Q H,jt Q H];split<;>rfl
def X6{w:Wk}{s:Nat}{c:Int}{o:uz}(I:s<4)(q:rY w)(N:(w.made.length:Int)<=w.done)(M:vw o)(E:pQ (eE w.l s c))(C:c<bL)(h:(allM 25 w [⟨s,some o,jl⟩]).1=0) :
  ∃K J,iV (eE w.l s c) ⟨s,c+1,0,w.bC,[o]⟩=(eE (allM 25 w [⟨s,some o,jl⟩]).2.l s (c+1),⟨0,(allM 25 w [⟨s,some o,jl⟩]).2.done-w.done,(allM 25 w [⟨s,some o,jl⟩]).2.used-w.used,K,J⟩):=by
 have Q:=q.qw.h12;have B:=q.bC;have W:(aR (eE w.l s c) s).cnt=c:=by rw[jt Q ai,if_pos rfl]
 have p:=E.cK _ (acm (gm E.h12 (i:=s) ai ai));have Y:xu (eE w.l s c) ⟨s,c+1,0,w.bC,[o]⟩=0:=by unfold xu;rw[if_neg (by rw[E.good];decide)];dsimp only;rw[if_neg ai,W,if_neg ai,if_neg ai,if_neg cS,if_neg ai]
 have V:yZ (eE w.l s c) ⟨s,c+1,0,w.bC,[o]⟩=eE w.l s (c+1):=by refine ya (GH E Y).h12 (jz Q) (by show(eE w.l s c).fu+0=_;rw[Int.add_zero];rfl) λi H=>?_;rw[OV E Y H,jt Q H,jt Q H];dsimp only;by_cases e:s=i;subst e;rw[if_pos Z,if_pos Z,if_pos rfl];dsimp only;rw[Int.sub_zero];rw[if_neg ai,if_neg e,if_neg e]
 have S:=uE E Y af0;have P:mF (eE w.l s c) ⟨s,c+1,0,w.bC,[o]⟩=⟨eE w.l s (c+1),w.bC,0,0,0,[]⟩:=by unfold mF;rw[V]
 rw[P]at S;have U:=q.done;have G:=q.aj
 obtain⟨A,T⟩:=R9 (s:=s) (n:=c+1) (d:=w.done) (u:=w.used) (m:=w.aj) I U.1 G.1 25 w ⟨eE w.l s (c+1),w.bC,0,0,0,[]⟩ [⟨s,some o,jl⟩] q S N (ahS _) (λx O=>by
  rw[ait]at O;subst O;exact⟨M,λ_ _=>rfl⟩) ⟨Z,Z,by show(0:Int)=w.done-w.done;omega,by show(0:Int)=w.used-w.used;omega,by show(0:Int)=w.aj-w.aj;omega⟩ h
 have D:jd (s:Int) ⟨eE w.l s (c+1),w.bC,0,0,0,[]⟩ [o]=(0,(allM 25 ⟨eE w.l s (c+1),w.bC,0,0,0,[]⟩ [⟨s,some o,jl⟩]).2):=by unfold jd;rw[if_neg (by rw[A];decide)];rfl
 unfold iV;rw[if_neg (by rw[Y];decide),P];dsimp only;rw[D,if_neg (λh=>h Z)];dsimp only;rw[<- T.l,<- T.done,<- T.used];exact⟨_,_,Z⟩
def Wz:∀(n:Nat){l:eF}{bs:List sK}{c:Int},pQ l->(∀b∈bs,yB b)->(∀i:Nat,i<12->(aR l i).cnt<=c)->∀i:Nat,i<12->(aR (O4 n l bs) i).cnt<=c+n
 |0,l,bs,c,V,U,h,i,hi=>by have:=h i hi;show(aR l i).cnt<=_;omega
 |n+1,l,[],c,V,U,h,i,hi=>by have:=h i hi;show(aR l i).cnt<=_;push_cast;omega
 |n+1,l,b::r,c,V,U,h,i,hi=>by
  obtain⟨Y,E⟩:=CG (U b cS)
  have T:=Wz n (l:=(iV l (BG b)).1) (bs:=r) (c:=c+1) (oP V Y E) (λx O=>U x Ko) (λj G=>by
   have S:=(agU V E Y j G).2;have:=h j G
   omega) i hi
  show(aR (O4 n (iV l (BG b)).1 r) i).cnt<=_
  push_cast
  omega
end Go.Proofs
open Go.IntKind Go.Proofs.Tryz
namespace Go.Proofs
open Go.cE
section
variable {P:Program}{X:Ctx}{ops:tal}{o:Oper}{rest:L Oper}{env:Env}{acc:L Fp}{Q:Env->St->L Fp->Prop}{σ:St}
def abB(hX:cI P X)(kn:Ω)(N:cZ ops.toList kn env o=some true){t:TypeId}{x D W:Operand}(U:o.op = .slice t x (some D) (some W) none){d:Nat}(A:o.dst=some d){i j:TI}{e:Nat}(H:X.ti t=some i)(I:i.kind = .slice e)(G:X.ti e=some j)
  {s:Nat}{F:Ψ}(O:aJ X env x=some (.c (.sl s F)))(T:Nat.beq s j.size){k E:IntKind}{z C:Int}(S:aJ X env D=some (.c (.int k z)))(M:aJ X env W=some (.c (.int E C))){m V:Nat}(K:z=m)(Y:C=V)(f:m<=V)(r:V<=F.length)
  {y:Ψ}(J:(F.take V).drop m=y)(k:ag P X ops rest ((d,.c (.sl s y))::env) σ (⟨[],[]⟩::acc) Q):ag P X ops (o::rest) env σ acc Q:=by
 subst K Y J;refine ag.look hX kn N A ?_ (by rw[U];rfl) k;rw[U];have B:∀(q:IntKind)(n:Nat),asNat (.c (.int q (n:Int)))=some n:=λ_ _=>rfl;have u:eB m (F.take V)=some ((F.take V).drop m):=xT aeR;simp only[gX,H,O,bound,S,M,B,I,G,Et,T,FF,xS r,u]
end
def U6{l:List uz}{k:Nat}{o:uz}(h:l[k]?=some o):((fz l).take (k+1)).drop k=[.agg (WR o)]:=by have Y:=BF l k o h;have E:k<(fz l).length:=(List.getElem?_eq_some_iff.1 Y).1;rw[List.take_add_one,Y,List.drop_append_of_le_length aeR,aiJ aeR];rfl
def ad0{W:eF}{s:Nat}{c n:Int}(Q:W.aI.length=12)(V:s<12)(I:(aR W s).cnt=n):∃r,eB (0+s*15+2) (cq W)=some (.c (ah n)::r)/\bQ (0+s*15+2) [.c (ah n)] (cq (eE W s c))=some (cq W):=by
 have U:=gm (l:=W) (i:=s) Q ai ai;rw[acn]at U;have D:=gm (l:=eE W s c) (i:=s) (jz Q) ai ai;rw[acn,jt Q V,if_pos rfl]at D;have Y:eE (eE W s c) s n=W:=by rw[F6 Q V];refine ya (jz Q) Q Z λi H=>?_;rw[jt Q H];by_cases e:s=i;subst e;rw[if_pos Z,<- I];rw[if_neg e]
 have Y:(eE W s c).iZ s {aR (eE W s c) s with cnt:=n}=W:=Y;rw[ja D]at Y;generalize aR W s=a at *;obtain⟨T,cK,cnt,⟨S,P⟩,⟨sT,C⟩,cd,⟨O,E,N,M,K,J,G⟩⟩:=a;simp only at I D Y;subst I;obtain⟨q,B⟩:=oM U;refine⟨_,B 2 _ Z,?_⟩;have:=D1 D (b:=⟨T,cK,cnt,⟨S,P⟩,⟨sT,C⟩,cd,⟨O,E,N,M,K,J,G⟩⟩) (k:=2) (cs:=[.c (ah cnt)]) Z;rw[Y]at this;exact this
def agV{src:Int}{w:Wk}{o:uz}{r:List uz}(h:(jd src w (o::r)).1=0):(allM 25 w [⟨src,some o,jl⟩]).1=0/\jd src w (o::r)=jd src (allM 25 w [⟨src,some o,jl⟩]).2 r:=by
 have e:jd src w (o::r)=if(allM 25 w [⟨src,some o,jl⟩]).1≠0 then allM 25 w [⟨src,some o,jl⟩]else jd src (allM 25 w [⟨src,some o,jl⟩]).2 r:=rfl
 rw[e]at h ⊢;split at h;rename_i c;exact absurd h c;rename_i c;rw[if_neg c];exact⟨afr,Z⟩
def agW{l:eF}{b:sK}(h:(iV l b).2.code=0):xu l b=0/\(jd b.src (mF l b) b.ops).1=0/\iV l b=((jd b.src (mF l b) b.ops).2.l,⟨0,(jd b.src (mF l b) b.ops).2.done,(jd b.src (mF l b) b.ops).2.used,(jd b.src (mF l b) b.ops).2.aj,(jd b.src (mF l b) b.ops).2.made⟩):=by unfold iV at h ⊢;split at h;rename_i c;exact absurd h c;rename_i c;rw[if_neg c];split at h;rename_i u;exact absurd h u;rename_i u;rw[if_neg u];exact⟨afr,afl,rfl⟩
def agX{l:eF}{s:Nat}{g:Int}{ops:List uz}(E:pQ l)(Y:s<4)(h:xu l ⟨s,(aR l s).cnt+1,0,g,ops⟩=0):mF l ⟨s,(aR l s).cnt+1,0,g,ops⟩=⟨eE l s ((aR l s).cnt+1),g,0,0,0,[]⟩/\l=eE (eE l s ((aR l s).cnt+1)) s (aR l s).cnt:=by
 have Q:=E.h12;constructor
 ·have hf:yZ l ⟨s,(aR l s).cnt+1,0,g,ops⟩=eE l s ((aR l s).cnt+1):=by refine ya (GH E h).h12 (jz Q) (by show l.fu+0=_;rw[Int.add_zero];rfl) λi H=>?_;rw[OV E h H,jt Q H];dsimp only;by_cases e:s=i;subst e;rw[if_pos Z,if_pos Z,Int.sub_zero];rw[if_neg ai,if_neg e]
  unfold mF;rw[hf]
 rw[F6 Q ai];refine ya Q (jz Q) Z λi H=>?_;rw[jt Q H];split;rename_i e;subst e;rfl;rfl
attribute [local irreducible] AK ag aZ bS de cA cq di gL eF.cF eF.iZ wB wF gl eE
def U7(l:eF)(b:sK)(E:pQ l)(U:yB b)(N:b.bC<=3000):af 7 [.agg (di l),.agg (di (iV l b).1),qc b,yY (iV l b).2] (.bool true):=by
 generalize iV l b=x at *;obtain⟨Ll,⟨code,done,W,V,O⟩⟩:=x;obtain⟨src,S,T,Y,ops⟩:=b;refine qn func7 call7 λM hf=>?_
 repeat' (first|exact wq|refine wz ?_)
def I1(bs:List sK)(jN:∀b∈bs,yB b)(x:sK)(hx:yB x):af 3 [.sl 5 (hD bs),qc x] (.bool true):=by
 have pR:=Hs U7 bs jN;have q:=SQ 40 uF jN
 have hcn:=Wz 40 (c:=0) uF jN (λi hi=>by
  have:∀i:Fin 12,(aR vz (i:Nat)).cnt<=0:=by decide
  exact this ⟨i,hi⟩)
 generalize O4 40 vz bs=S at *;have zl0:=q.h12;obtain⟨src,apj,apk,O,ops⟩:=x;have YO:=xq ops;have Qp:∀o∈ops,vw o:=hx;have hE:0<=(if 3000<(if 0>O then 0 else O)then 3000 else(if 0>O then 0 else O))/\(if 3000<(if 0>O then 0 else O)then 3000 else(if 0>O then 0 else O))<=3000:=by constructor<;>(repeat' split)<;>omega
 by_cases c1:src<0
 ·have e1:decide (src<0):=ace c1;refine qn func3 call3 λβ hf=>?_
  repeat' (first|exact wq|refine wz ?_|refine ag.store Tryz.hX kn Z Z Z Z Z Z Z (iw _) (gT ew Z) (eN ew (gp ew)) Z ?_|(intro h;rw[h]))
 have e1:decide (src<0)=false:=acf c1;by_cases c2:4<=src
 ·have J:decide (src>=4):=ace c2;have n2:(bif false then true else decide (src>=4))=true:=J;refine qn func3 call3 λβ hf=>?_
  repeat' (first|exact wq|refine wz ?_|refine ag.store Tryz.hX kn Z Z Z Z Z Z Z (iw _) (gT ew Z) (eN ew (gp ew)) Z ?_|(intro h;rw[h]))
 have J:decide (src>=4)=false:=acf c2;have n2:(bif false then true else decide (src>=4))=false:=J;by_cases c3:ops.length<2
 ·have e3:decide ((((fz ops).length:Nat):Int)<2):=ace ai;have n3:(bif false then true else decide ((((fz ops).length:Nat):Int)<2))=true:=e3;refine qn func3 call3 λβ hf=>?_
  repeat' (first|exact wq|refine wz ?_|refine ag.store Tryz.hX kn Z Z Z Z Z Z Z (iw _) (gT ew Z) (eN ew (gp ew)) Z ?_|(intro h;rw[h]))
 have e3:decide ((((fz ops).length:Nat):Int)<2)=false:=acf ai;have n3:(bif false then true else decide ((((fz ops).length:Nat):Int)<2))=false:=e3;obtain⟨s,rfl⟩:=aiV (show 0<=src by omega);have hs:s<4:=by omega
 have n2b:(bif decide ((s:Int)<0)then true else decide ((s:Int)>=4))=false:=by rw[e1];exact J
 have n3b:(bif (bif decide ((s:Int)<0)then true else decide ((s:Int)>=4))then true else decide ((((fz ops).length:Nat):Int)<2))=false:=by rw[n2b];exact e3
 have lj:Nat.blt s 12:=by rw[ajd];omega
 have ha:=gm (l:=S) (i:=s) zl0 ai ai;rw[acn]at ha;have hc0:0<=(aR S s).cnt/\(aR S s).cnt<=40:=by have h:=q.get ha;unfold vv Ho at h;simp at h;have:=hcn s ai;omega
 have hcw:i64.wrap ((aR S s).cnt+1)=(aR S s).cnt+1:=gW ai ai;have J5:=qN q ⟨s,i64.wrap ((aR S s).cnt+1),0,(if 3000<(if 0>O then 0 else O)then 3000 else(if 0>O then 0 else O)),ops⟩ hE.2 Qp;have hA:=oP q (b:=⟨s,i64.wrap ((aR S s).cnt+1),0,(if 3000<(if 0>O then 0 else O)then 3000 else(if 0>O then 0 else O)),ops⟩) Qp hE.2;have hz:(iV S ⟨s,i64.wrap ((aR S s).cnt+1),0,(if 3000<(if 0>O then 0 else O)then 3000 else(if 0>O then 0 else O)),ops⟩).2.code=0->∃M:Wk,rY M/\(M.made.length:Int)<=M.done/\M.bC+M.used=(if 3000<(if 0>O then 0 else O)then 3000 else(if 0>O then 0 else O))/\M.done=0/\M.used=0/\S=eE M.l s ((aR S s).cnt+((0:Nat):Int))/\∃F:Wk,jd s M ops=(0,F)/\ops.length<=8/\∃mi md,iV S ⟨s,i64.wrap ((aR S s).cnt+1),0,(if 3000<(if 0>O then 0 else O)then 3000 else(if 0>O then 0 else O)),ops⟩=(F.l,⟨0,F.done,F.used,mi,md⟩):=by intro hc;rw[hcw]at hc ⊢;obtain⟨h1,h2,h3⟩:=agW hc;obtain⟨h4,h5⟩:=agX q hs h1;have h6:=uE q h1 hE.2;rw[h4]at h2 h3 h6;refine⟨⟨eE S s ((aR S s).cnt+1),(if 3000<(if 0>O then 0 else O)then 3000 else(if 0>O then 0 else O)),0,0,0,[]⟩,h6,ahS _,Int.add_zero _,Z,Z,?_,(jd s ⟨eE S s ((aR S s).cnt+1),(if 3000<(if 0>O then 0 else O)then 3000 else(if 0>O then 0 else O)),0,0,0,[]⟩ ops).2,?_,(xx h1).2.2.2.2.1.2,_,_,h3⟩;show S=eE (eE S s ((aR S s).cnt+1)) s ((aR S s).cnt+0);rw[Int.add_zero];exact h5;exact Prod.ext h2 Z
 generalize iV S ⟨s,i64.wrap ((aR S s).cnt+1),0,(if 3000<(if 0>O then 0 else O)then 3000 else(if 0>O then 0 else O)),ops⟩=y at *;obtain⟨A,⟨code,done,gs,aj,I⟩⟩:=y;simp only at J5 hA hz;have zA:=hA.h12;have V:=OU hA;generalize WK:(aR S s).cnt=Y at *;have d0:∃r,eB (0+s*15+2) (cq S)=some (.c (ah Y)::r):=by generalize aR S s=a at *;obtain⟨is,cK,CE,⟨pT,pA⟩,⟨sT,sA⟩,cd,⟨k1,k2,k3,k4,k5,k6,k7⟩⟩:=a;simp only at WK;subst WK;obtain⟨r1,P⟩:=oM ha;exact⟨_,P 2 _ Z⟩
 obtain⟨r0,d0⟩:=d0;by_cases c4:code≠0
 ·have e4:(code != 0):=by simpa using c4
  clear hz;refine qn func3 call3 λβ hf=>?_
  repeat' (first|exact wq|refine wz ?_|refine ag.store Tryz.hX kn Z Z Z Z Z Z Z (iw _) (gT ew Z) (eN ew (gp ew)) Z ?_|(intro h;rw[h]))
 have e4:(code != 0)=false:=by simpa using c4
 obtain⟨M,hw0,hm0,hg0,Pc,hu0,hl0,F,hF,h8,mi,md,hR⟩:=hz (by simpa using c4);simp only[ajP,Rcp.mk.injEq]at hR;obtain⟨k1,k2,k3,k4,k5,k6⟩:=hR;subst k1 k2 k3 k4 k5 k6;clear hz;refine qn func3 call3 λβ hf=>?_
 repeat' (first|exact wq|refine wz ?_|refine ag.store Tryz.hX kn Z Z Z Z Z Z Z (iw _) (gT ew Z) (eN ew (gp ew)) Z ?_|(intro h;rw[h]))
 have hcx:=hc0;generalize hGq:(if 3000<(if 0>O then 0 else O)then 3000 else(if 0>O then 0 else O))=H at *;refine AK.dg (α:=Nat×Wk×eF) (λz=>z.1<=ops.length/\rY z.2.1/\(z.2.1.made.length:Int)<=z.2.1.done/\z.2.1.bC+z.2.1.used=H/\jd s z.2.1 (ops.drop z.1)=(0,F)/\pQ z.2.2/\z.2.2=eE z.2.1.l s (Y+(z.1:Nat))) (λz=>ops.length-z.1)
  (λz=>[(61,.c (ah (z.1:Nat))),(60,.c (ah ((fz ops).length:Nat))),(9,.c (ah z.2.1.done)),(10,.c (ah z.2.1.used)),(3,.ptr 3 0),(5,.ptr 5 0),(7,.ptr 7 0),(8,.ptr 8 0)])
  (λz=>[(3,[.c (ah s),.c (ah (i64.wrap (Y+1))),.c (ah 0),.c (ah H),.c (.sl 23 (fz ops))]),(5,cq z.2.2),(7,cq F.l),(8,[.c (ah 0),.c (ah F.done),.c (ah F.used),.c (ah aj),.c (.sl 1 (ez I))])]) (λ_=>[]) [3,5,7,8] (0,M,S)
  ⟨ahp _,hw0,hm0,hg0,hF,q,hl0⟩ ⟨.inl Z,.inl Z,.inl (by rw[Pc];rfl),.inl (by rw[hu0];rfl),.inl Z,.inl Z,.inl Z,.inl Z,trivial⟩ ce trivial Z (gh Z Z (gh Z (fD _ _) (gh Z (fD _ _) Z))) Z ?_
 rintro⟨k,w,l⟩ ⟨hk,D,yI,hgu,U,E,T⟩ ih;simp only at hk D yI hgu U E T ih;have zl:=E.h12;have zW:=D.qw.h12;have hdn:=D.done;have Kf:=D.bC;by_cases hk2:k<ops.length
 ·obtain⟨o,ho⟩:∃o,ops[k]?=some o:=⟨_,ahl hk2⟩;have N:=Qp o (acm ho);rw[cT ho]at U;obtain⟨h1,h2⟩:=agV (by rw[U]);rw[h2]at U;have hK:=xy 25 w [⟨s,some o,jl⟩] D yI (λx Hp=>by rw[ait]at Hp;subst Hp;exact N);have G:∀o2∈[o],vw o2:=λo2 h=>by rw[ait]at h;subst h;exact N
  have p:=X6 hs D yI N (T▸E) (show Y+(k:Nat)<bL by unfold bL;omega) h1;rw[<- T]at p;have b1:=hcx.1;have hG:H-w.used=w.bC:=by omega
  have w1:i64.wrap (Y+(k:Nat)+1)=Y+(k:Nat)+1:=gW ai ai;have w2:i64.wrap (H-w.used)=w.bC:=by rw[hG];exact gW ai ai
  have C:∀Ll R,iV l ⟨s,Y+(k:Nat)+1,0,w.bC,[o]⟩=(Ll,R)->af 8 [.agg (di l),qc ⟨s,i64.wrap (Y+(k:Nat)+1),0,i64.wrap (H-w.used),[o]⟩] (.eK [.agg (di Ll),yY R]):=by intro Ll R h;rw[w1,w2];have:=qN E ⟨s,Y+(k:Nat)+1,0,w.bC,[o]⟩ af0 G;rw[h]at this;exact this
  have Kg:=oP E (b:=⟨s,Y+(k:Nat)+1,0,w.bC,[o]⟩) G af0;obtain⟨mi,md,p⟩:=p;have hq:=C _ _ p;rw[p]at Kg;clear C;obtain⟨Q,_,hKg,hKu,_,K⟩:=hK;have K:=K h1;generalize (allM 25 w [⟨s,some o,jl⟩]).2=v at *;have zv:=Q.qw.h12;have hvd:=Q.done;have hvg:=Q.bC;have rZ:i64.wrap ((k:Int)+1)=((k+1:Nat):Int):=gW ai ai;have hk3:k+1<=(fz ops).length:=by omega
  have B:((fz ops).take (k+1)).drop k=fz [o]:=U6 ho;have e1:decide ((k:Int)<(((fz ops).length:Nat):Int)):=ace ai;have Yn:=gm (l:=l) (i:=s) zl ai ai;rw[acn]at Yn;have u:(aR l s).cnt=Y+(k:Nat):=by rw[T,jt zW ai,if_pos rfl]
  obtain⟨r1,d1⟩:∃r,eB (0+s*15+2) (cq l)=some (.c (ah (Y+(k:Nat)))::r):=by clear ih hq pR J5 V;generalize aR l s=a at *;obtain⟨is,cK,CE,⟨pT,pA⟩,⟨sT,sA⟩,cd,⟨k1,k2,k3,k4,k5,k6,k7⟩⟩:=a;simp only at u;subst u;obtain⟨r1,P⟩:=oM Yn;exact⟨_,P 2 _ Z⟩
  have J:((0:Int) != 0)=false:=rfl;have zl2:=Kg.h12;have ET:Y+((k+1:Nat):Int)=Y+(k:Nat)+1:=by omega
  have s1:i64.wrap (w.done+(v.done-w.done))=v.done:=by rw[show w.done+(v.done-w.done)=v.done by omega];exact gW ai ai
  have s2:i64.wrap (w.used+(v.used-w.used))=v.used:=by rw[show w.used+(v.used-w.used)=v.used by omega];exact gW ai ai
  have ih2:=ih (k+1,v,eE v.l s (Y+(k:Nat)+1)) ⟨by show k+1<=_;omega,Q,K,by show v.bC+v.used=_;omega,U,Kg,by show _=eE v.l s (Y+((k+1:Nat):Int));rw[ET]⟩ (by show _-(k+1)<_-k;omega);clear ih pR J5 V p
  repeat' (first|exact wq|refine wz ?_|refine ag.store Tryz.hX kn Z Z Z Z Z Z Z (iw _) (gT ew Z) (eN ew (gp ew)) Z ?_|refine abB Tryz.hX kn Z Z Z Z Z Z Z Z Z Z Z rZ (ajT k) hk3 B ?_|(intro h;rw[h]))
  clear hq;exact AK.again ih2 ⟨.inl (dz (i:=k) ai),.inl Z,.inl (ahm (λz=>some (AV.c (ah z))) s1),.inl (ahm (λz=>some (AV.c (ah z))) s2),.inl Z,.inl Z,.inl Z,.inl Z,trivial⟩ ce trivial Z (gh Z Z (gh Z (fD _ _) (gh Z (fD _ _) Z))) Z
 obtain rfl:k=ops.length:=by omega
 rw[aho]at U;obtain rfl:w=F:=ahm Prod.snd U;clear ih pR J5;have e1:decide (((ops.length:Int))<(((fz ops).length:Nat):Int))=false:=acf ai;subst T;obtain⟨r1,d1,p1⟩:=ad0 (W:=w.l) (s:=s) (c:=Y+(ops.length:Int)) zW ai rfl;have e5:(w.done==w.done):=by simp
 have e6:(w.used==w.used):=by simp
 have n5:(bif true then w.done==w.done else false)=true:=e5;have n6:(bif true then w.used==w.used else false)=true:=e6
 repeat' (first|exact wq|refine wz ?_|refine ag.store Tryz.hX kn Z Z Z Z Z Z Z (iw _) (gT ew Z) (eN ew (gp ew)) Z ?_|refine ag.KU kn Z Z Z (kT Z (kT Z Z)) V ?_|(intro h;rw[h]))
 rw[n6];exact wq
end Go.Proofs
