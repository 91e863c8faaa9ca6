/- A part of the proof. -/
import Derived.Test.YtpnpbmbdkinajaaGreatDoorChn11H
import Derived.Test.YtpnpbmbdkinajaaGreatDoorTckAG
set_option linter.all false
set_option maxHeartbeats 0
set_option maxRecDepth 100000
namespace Go.Proofs
open Go.cE
section
variable {φ:Int->Ty->Vl->Bool}
def Wq{l t}(h:l.length<=1):eP φ l t=cD φ l [t]:=by
 rcases l with _|⟨x,_|⟨y,l⟩⟩
 simp[eP,cD];simp[eP,cD];simp at h
def RW(l t):(eL l [t]).1.length<=1:=by
 rcases l with _|⟨x,_|⟨y,l⟩⟩
 simp[eL]
 ·simp only[eL];split<;>simp[glue]
 rw[HO _ _ cS];simp
mutual
def UW:∀(n:Nd)(t:Ty),mN t->(dW n t).2->wT φ (dW n t).1 t=0
 |.mk Y N P S J,.mk T F,ok,h=>by
  have H:=λx O=>L1 J x O;have I:=λr V=>UX J r V;have M:=λV=>L2 J F V;have W:=(sM ok).2;rw[lX];simp only[dW,cL,aL,aQ]at h ⊢;by_cases U:T=15;subst U;simp at h;by_cases Q:T=9
  ·subst Q;obtain⟨x,rfl,O⟩:=dD ok bn;have V:=I [x] (by simpa using O);rw[<- Wq (RW _ _)]at V;simp only[show ¬(9:Int)=1 from by decide,show ¬(9:Int)=2 from by decide,show ¬(9:Int)=6 from by decide,show ¬((9:Int)=3\/(9:Int)=4\/(9:Int)=5\/(9:Int)=7)from by decide,aiQ,if_true]at h ⊢
   repeat' split
   all_goals first|rfl|exact V|simp_all
  by_cases vR:T=10;subst vR;obtain⟨x,rfl,O⟩:=dD ok bn;simp at h ⊢;exact H x O h.2;by_cases CW:T=11
  ·subst CW;have V:=I F W;simp at h ⊢;split<;>simp_all [cP,qQ,cD]
  by_cases CX:T=12
  ·subst CX;obtain⟨x,y,rfl,O,G⟩:=dr ok bn;have E:=I [x] (by simpa using O);have D:=I [y] Rl;rw[<- Wq (RW _ _)]at E D;simp at h ⊢;split;simp_all [cP,vN];split<;>simp_all [cP,vN,qQ,eP]
  by_cases CY:T=13;subst CY;have K:=M W;simp at h ⊢;simpa[cP]using K;by_cases p:T=8;subst p;simp at h;simp[U,Q,vR,CW,CX,CY,p]
def UX:∀(l:Θ)(r:Γ),(∀x∈r,mN x)->cD φ (eL l r).1 r=0
 |[],[],_=>by simp[eL,cD]
 |[],_::_,_=>by simp[eL,cD]
 |_::_,[],_=>by simp[eL,cD]
 |x::l,t::r,ok=>by have Y:=UW x t (ok t cS);have V:=UX l r λy G=>ok y aga;simp only[eL];split;rename_i c;generalize eL l r=q at *;obtain⟨q,b⟩:=q;cases b;simp[glue,cD];simp only[glue,ahk,aiR,cD,Y c,V];simp[cD]
def L1:∀(l:Θ)(t:Ty),mN t->(eM l t).2->eP φ (eM l t).1 t=0
 |[],t,_,_=>rfl
 |x::l,t,ok,h=>by simp only[eM,aaI]at h;simp only[eM,eP,UW x t ok h.1,L1 l t ok h.2]
def L2:∀(l:Θ)(V:Γ),(∀x∈V,mN x)->eP φ (eC l V).1 (.mk 11 V)=0
 |[],V,_=>rfl
 |.mk Y n P s U::l,V,ok=>by
  have T:=UX U V ok;have S:=L2 l V ok;have e:wT φ (.mk 11 0 0 [] (eL U V).1 [] []) (.mk 11 V)=cD φ (eL U V).1 V:=by rw[lX];rfl
  simp only[eC,eP,e,T,S]
end
def abn{t n}(h:(gV t n).2=0):wT φ (gV t n).1 t=0:=by unfold gV at h ⊢;split at h;rename_i c;rw[if_pos c];exact UW n t (bw c.1) c.2.2.1;cases h
def aW(φ:Int->Ty->Vl->Bool)(a:Acc):Nat:=if a.is=2 then wT φ a.keep a.store else 0
def sW(φ:Int->Ty->Vl->Bool):L Acc->Nat
 |[]=>0
 |a::l=>aW φ a+sW φ l
def iW(φ:Int->Ty->Vl->Bool)(x:ur):Nat:=match x.op with
 |none=>wT φ x.val (.mk 8 [])
 |some _=>0
def qW(φ:Int->Ty->Vl->Bool):List ur->Nat
 |[]=>0
 |x::l=>iW φ x+qW φ l
def abo:∀a b,qW φ (a++b)=qW φ a+qW φ b
 |[],b=>by simp[qW]
 |x::a,b=>by simp only[ahk,qW,abo a b];omega
def OQ:∀l i a b,l[i]?=some a->sW φ (l.set i b)+aW φ a=sW φ l+aW φ b
 |[],i,a,b,h=>by simp at h
 |x::l,0,a,b,h=>by simp at h;subst h;simp only[List.set_cons_zero,sW];omega
 |x::l,i+1,a,b,h=>by have:=OQ l i a b nu;simp only[ajY,sW];omega
def UY:∀l i z,sW φ (kW l i z)=sW φ l
 |[],_,_=>rfl
 |a::l,0,z=>rfl
 |a::l,i+1,z=>by simp only[kW,sW,UY l i z]
def aeZ l(F T n):sW φ (rI l F T n).aI=sW φ l.aI:=by unfold rI;show sW φ (kW (kW _ _ _) _ _)=_;rw[UY,UY]
def agR{x}(O:sn x){t}(h:(jY x t).2=0):wT φ (jY x t).1 t<=iW φ x:=by
 obtain⟨dX,N,v⟩:=x;cases N with
 |none =>
  obtain⟨n,a,u,Y,y,rfl,_,_,_,_⟩:=Hx O.1;unfold jY at h ⊢;simp only[Gg,cP,aaw]at h ⊢;split at h;rename_i c;rw[if_pos c];obtain rfl:=(eD _ _).1 c;show wT φ y u<=wT φ (.mk 8 n a [] [y] (u::Y) []) (.mk 8 []);rw[lX (.mk 8 n a [] [y] (u::Y) [])];exact Nat.le_add_right _ _;cases h
 |some o =>
  unfold jY at h ⊢;dsimp only at h ⊢;split at h;rename_i c;rw[if_pos c];simp only[abn c];exact ahp _;cases h
def adR{to dX n cK k}{code:Θ}{param store v keep g}(h1:0<=to/\to<12)(h2:0<=dX/\dX<12)(B:0<=n/\n<=bL)(h4:0<=cK/\cK<=4000000)
  (I:iY param store (.mk 3 0 0 [] code)=0)(G:fK param v)(E:fK store keep)(zv:aG v<=12400000)(zk:aG keep<=12400000)(hg:0<=g/\g<=3000)
  (D:k=1\/k=0/\((∀t v,φ to t v=false)\/dH code=false))(C:(oh to dX n cK (.mk 3 0 0 [] code) [.mk 11 [param,store]] [.mk 11 0 0 [] [v,keep] [] []] g).code=0) :
  0<=(oh to dX n cK (.mk 3 0 0 [] code) [.mk 11 [param,store]] [.mk 11 0 0 [] [v,keep] [] []] g).aj/\(cD φ (oh to dX n cK (.mk 3 0 0 [] code) [.mk 11 [param,store]] [.mk 11 0 0 [] [v,keep] [] []] g).st [.mk 11 [.mk 10 [.mk 8 []],store]]:Nat)-k*(oh to dX n cK (.mk 3 0 0 [] code) [.mk 11 [param,store]] [.mk 11 0 0 [] [v,keep] [] []] g).aj<=(wT φ v param+wT φ keep store:Nat):=by
 unfold iY at I;split at I;cases I;rename_i c1;split at I;rename_i c;exact absurd I c;rename_i u;simp only[ne_eq,ahI]at u;split at I;cases I;rename_i A;obtain⟨f1,q,f3⟩:=bW G;obtain⟨k1,r,o⟩:=bW E;obtain⟨q1,q2,q3,N,q5⟩:=sr u;have M:=kX (x:=v) (y:=keep) ⟨q,f3⟩ ⟨r,o⟩;have T:fK (.mk 11 [param,store]) (aU v keep):=by unfold fK oJ;simp only[aiK,List.all_nil,ajy]at N;rw[N,M.1,M.2];rfl
 have F:WU to dX n cK (.mk 3 0 0 [] code) [.mk 11 [param,store]] [aU v keep]:=by refine sq.2 ⟨u,Z,?_,?_⟩;have Yp:n<=1152921504606846976:=B.2;unfold qP MG MH;simp;omega;simp only[zf,T,akE]
 have P:VlS [aU v keep]:=λx K=>by rw[ait]at K;subst K;simp only[aU,aG,aH,bf,aP,aav];omega
 have S:0<=g/\g<=1000000:=by omega
 obtain⟨w1,p⟩:=Mx F P S;have J:oh to dX n cK (.mk 3 0 0 [] code) [.mk 11 [param,store]] [aU v keep] g=oQ (pW to dX n cK (.mk 3 0 0 [] code) [aU v keep] g):=by unfold oh;exact if_pos F
 have H:(pW to dX n cK (.mk 3 0 0 [] code) [aU v keep] g).1=0:=by have W:(oh to dX n cK (.mk 3 0 0 [] code) [.mk 11 [param,store]] [aU v keep] g).code=0:=C;rw[J]at W;exact W
 have m:(jR (.mk 3 0 0 [] code) [.mk 11 [param,store]]).1.1=[.mk 11 [.mk 10 [.mk 8 []],store]]:=by
  obtain⟨_,_,_,w⟩:=p;rcases w with ⟨_,_,_,j⟩|w|w|⟨w,_⟩|⟨w,_⟩
  ·have Q:gS (jR (.mk 3 0 0 [] code) [.mk 11 [param,store]]).1.1 [.mk 11 [.mk 10 [.mk 8 []],store]]:=by
    cases i:gS (jR (.mk 3 0 0 [] code) [.mk 11 [param,store]]).1.1 [.mk 11 [.mk 10 [.mk 8 []],store]]with
    |true=>rfl
    |false=>exact absurd ⟨j,i⟩ A
   exact(lE _ _).1 Q
  all_goals (rw[H]at w;cases w)
 have V:0<=(oh to dX n cK (.mk 3 0 0 [] code) [.mk 11 [param,store]] [aU v keep] g).aj:=by rw[J];simp only[oQ,if_pos H];exact p.2.2.1.1
 have f:cD φ [aU v keep] [.mk 11 [param,store]]=wT φ v param+wT φ keep store:=by show wT φ (aU v keep) (.mk 11 [param,store])+0=_;rw[rV];rfl
 have Y:∀z,MC φ to z->((cD φ (oh to dX n cK (.mk 3 0 0 [] code) [.mk 11 [param,store]] [aU v keep] g).st [.mk 11 [.mk 10 [.mk 8 []],store]]:Nat):Int)-z*(oh to dX n cK (.mk 3 0 0 [] code) [.mk 11 [param,store]] [aU v keep] g).aj<=(wT φ v param+wT φ keep store:Nat):=λz d=>by have:=agQ (φ:=φ) F P S d C;rw[m,f]at this;exact this
 refine⟨V,?_⟩;rcases D with rfl|⟨rfl,O|O⟩
 exact Y 1 (.inl Z);exact Y 0 (.inr ⟨Z,O⟩);have b:=Y 1 (.inl Z);have a:=adQ F P S O;have U:(oh to dX n cK (.mk 3 0 0 [] code) [.mk 11 [param,store]] [aU v keep] g).aj=0:=a;rw[U]at b;show((cD φ (oh to dX n cK (.mk 3 0 0 [] code) [.mk 11 [param,store]] [aU v keep] g).st _:Nat):Int)-0*(oh to dX n cK (.mk 3 0 0 [] code) [.mk 11 [param,store]] [aU v keep] g).aj<=_;rw[U];omega
def NoM(φ:Int->Ty->Vl->Bool)(j:Nat)(a:Acc):Prop:=a.is=2->(∀t v,φ j t v=false)\/dH a.code=false
def JG{j a b}(h:JH a b)(U:NoM φ j b):NoM φ j a:=λY=>by obtain⟨A,_,_,V⟩:=h.2 ai;rw[<- V];exact U ai
def Wr:∀l to,qW φ (l.map (td to))=eP φ l (.mk 8 [])
 |[],_=>rfl
 |x::l,to=>by simp only[ahM,qW,eP,Wr l to];rfl
def ae0{k w x to n}(q:rY w)(O:sn x)(I:k=1\/k=0/\∀j,j<12->NoM φ j (aR w.l j))(h:(zh w x to n).1.2=0) :
  w.aj<=(zh w x to n).2.aj/\(sW φ (zh w x to n).2.l.aI+qW φ (zh w x to n).1.1:Nat)-k*(zh w x to n).2.aj<=(sW φ w.l.aI+iW φ x:Nat)-k*w.aj:=by
 have hg:=q.bC;unfold zh at h ⊢;split at h;rename_i c;exact absurd h c;rename_i e;rw[if_neg e];simp only[ne_eq,ahI]at e;obtain⟨F,j,rfl,N,D⟩:=xD q.qw e;obtain⟨i,_,aF,_,z,_,o,_,_,_,W,V,_⟩:=AD q.qw.h12 e;have hi:i<12:=by have:=(List.getElem?_eq_some_iff.1 o).1;have:=q.qw.h12;omega
 have U:=aeZ (φ:=φ) w.l x.dX j n;have m:=OR q.qw e N;split at h;rename_i c;rw[if_pos c];split at h;rename_i u;exact absurd h u;rename_i u;rw[if_neg u];refine⟨ahS _,?_⟩;show((sW φ (rI w.l x.dX j n).aI+0:Nat):Int)-k*w.aj<=_;rw[U];omega;rename_i f;rw[if_neg f];have S:=gm (l:=rI w.l x.dX j n) (i:=j) F.h12 ai ai;rw[acn]at S;have M:=F.get S;have T:(aR (rI w.l x.dX j n) j).is=2:=by rcases xE M with h|h|h<;>omega
 split at h;rename_i u;exact absurd h u;rename_i u;rw[if_neg u];simp only[ne_eq,ahI]at u;obtain⟨C,b2,b3,A,J,d⟩:=zy M T;have p:=F.size _ (acm S);have W0:=agR (φ:=φ) O u;have Y:fK (aR (rI w.l x.dX j n) j).param (jY x (aR (rI w.l x.dX j n) j).param).1/\aG (jY x (aR (rI w.l x.dX j n) j).param).1<=12400000:=by
  rcases AE O (aR (rI w.l x.dX j n) j).param with h|h
  exact h.2;omega
 have Q:k=1\/k=0/\((∀t v,φ j t v=false)\/dH (aR (rI w.l x.dX j n) j).code=false):=by
  rcases I with I|⟨I,b⟩
  exact .inl I;have P:=b j N;rw[m]at T ⊢;exact .inr ⟨I,P T⟩
 generalize aR (rI w.l x.dX j n) j=a at *;unfold Fo at h ⊢;dsimp only at h ⊢;have H:YY (tf w x j n a (jY x a.param).1) w.bC a.store:=S0 ⟨ai,ai⟩ ⟨ai,ai⟩ ⟨W,V⟩ C A Y.1 J Y.2 p.2.2 d ai;have B:(tf w x j n a (jY x a.param).1).code=0->0<=(tf w x j n a (jY x a.param).1).aj/\((cD φ (tf w x j n a (jY x a.param).1).st [.mk 11 [.mk 10 [.mk 8 []],a.store]]:Nat):Int)-k*(tf w x j n a (jY x a.param).1).aj<=(wT φ (jY x a.param).1 a.param+wT φ a.keep a.store:Nat) :=
  λh0=>adR ⟨ai,ai⟩ ⟨ai,ai⟩ ⟨W,V⟩ C A Y.1 J Y.2 p.2.2 ai Q h0
 generalize tf w x j n a (jY x a.param).1=r at H B h ⊢;split at h;rename_i G;exact absurd h G;rename_i G;rw[if_neg G];simp only[ne_eq,ahI]at G;split at h;simp at h;rename_i c4;rw[if_neg c4];obtain⟨K,y,e1,_,_,_,_⟩:=H.ends G;obtain⟨m0,E⟩:=B G;rw[e1]at E ⊢;have e2:cD φ [aU K y] [.mk 11 [.mk 10 [.mk 8 []],a.store]]=eP φ (cP K) (.mk 8 [])+wT φ y a.store:=by show wT φ (aU K y) (.mk 11 [.mk 10 [.mk 8 []],a.store])+0=_;rw[rV,lX K];rfl
 rw[e2]at E;simp only[aaw,aay,aU,cP];refine⟨by show w.aj<=w.aj+r.aj;omega,?_⟩;have e3:=OQ (φ:=φ) _ _ _ {a with keep:=y} S;have e4:aW φ a=wT φ a.keep a.store:=by unfold aW;exact if_pos T
 have e5:aW φ {a with keep:=y}=wT φ y a.store:=by unfold aW;exact if_pos T
 have e6:sW φ ((rI w.l x.dX j n).iZ j {a with keep:=y}).aI+wT φ a.keep a.store=sW φ w.l.aI+wT φ y a.store:=by rw[<- e4,<- e5,<- U];exact e3
 show((sW φ ((rI w.l x.dX j n).iZ (j:Int).toNat {a with keep:=y}).aI+qW φ ((cP K).map (td j)):Nat):Int)-k*(w.aj+r.aj)<=_;rw[acn,Wr];rcases I with rfl|⟨rfl,_⟩<;>omega
def abp{o}(h:(gV (aM o.t1).1 o.arg).2=0):aW φ (newAcc o)=0:=by unfold aW newAcc;dsimp only;rw[if_pos rfl,abn h]
def ai2{w o dX}(q:rY w)(h:(orM w dX o).1=0):sW φ (orM w dX o).2.l.aI=sW φ w.l.aI/\(orM w dX o).2.aj=w.aj:=by
 unfold orM at h ⊢;split at h;simp at h;rename_i G;rw[if_neg G];split at h;rename_i c;exact absurd h c;rename_i u;rw[if_neg u];split at h;simp at h;rename_i B;rw[if_neg B];split at h;simp at h;rename_i c4;rw[if_neg c4];split at h;rename_i c;exact absurd h c;rename_i p;rw[if_neg p];obtain⟨V,W,C⟩:=v9 q.qw;obtain⟨a,Y,A⟩:=C ai;have K:=OQ (φ:=φ) _ _ _ (newAcc o) Y;have U:aW φ a=0:=by unfold aW;rw[A];rfl
 have T:=abp (φ:=φ) (o:=o) ai;refine⟨?_,Z⟩;show sW φ (rI _ _ _ _).aI=_;rw[aeZ];show sW φ (w.l.aI.set _ _)=_;omega
def abq{k w x}(q:rY w)(O:sn x)(I:k=1\/k=0/\∀j,j<12->NoM φ j (aR w.l j))(h:(dG w x).1.2=0) :
  w.aj<=(dG w x).2.aj/\(sW φ (dG w x).2.l.aI+qW φ (dG w x).1.1:Nat)-k*(dG w x).2.aj<=(sW φ w.l.aI+iW φ x:Nat)-k*w.aj:=by
 obtain⟨dX,N,v⟩:=x;unfold dG at h ⊢;cases N with
 |none=>exact ae0 (x:=⟨dX,none,v⟩) q O I h
 |some o =>
  dsimp only at h ⊢;split at h;rename_i c;rw[if_pos c];exact ae0 (x:=⟨dX,some o,v⟩) q O I h;rename_i c;rw[if_neg c];split at h;rename_i u;rw[if_pos u];obtain⟨J,K⟩:=ai2 (φ:=φ) q h;dsimp only;rw[J,K];refine⟨ahS _,?_⟩;show((sW φ w.l.aI+0:Nat):Int)-_<=((sW φ w.l.aI+0:Nat):Int)-_;omega;simp at h
def Wt{k src:Int}(C:0<=src)(W:src<4):∀f w q,rY w->w.made.length<=w.done->(∀x∈q,sn x/\x.op=none)->(k=1\/k=0/\∀j,j<12->NoM φ j (aR (allM f w q).2.l j))->(allM f w q).1=0 ->
  w.aj<=(allM f w q).2.aj/\(sW φ (allM f w q).2.l.aI:Nat)-k*(allM f w q).2.aj<=(sW φ w.l.aI+qW φ q:Nat)-k*w.aj
 |f,w,[],D,hm,hq,I,h=>by rw[allM_nil];exact⟨ahS _,by show((sW φ w.l.aI:Nat):Int)-k*w.aj<=((sW φ w.l.aI+0:Nat):Int)-k*w.aj;omega⟩
 |0,w,x::q,D,hm,hq,I,h=>by simp[allM]at h
 |f+1,w,x::q,D,hm,hq,I,h=>by
  obtain⟨O,M⟩:=hq x cS;have h1:=qy D hm O;have T:=E7 (adS src) C W (f+1) w (x::q) D hm hq h;have S:k=1\/k=0/\∀j:Nat,j<12->NoM φ j (aR w.l j):=I.imp id λI=>⟨I.1,λj G=>JG (T j G) (I.2 j G)⟩;clear T;unfold allM at h I ⊢;split at h;simp at h;rename_i c;rw[if_neg c]at I ⊢;split at h;rename_i u;exact absurd h u;rename_i u;rw[if_neg u]at I ⊢;simp only[ne_eq,ahI]at u;have J:rY {(dG w x).2 with done:=(dG w x).2.done+1}:=⟨h1.ok.qw,h1.ok.bC,h1.ok.aj,ot,mY⟩
  obtain⟨Q,U⟩:=Wt C W f _ (q++(dG w x).1.1) J h1.ok.Fs (λy V=>by
   rcases List.mem_append.1 V with V|V
   exact hq y agc
   exact⟨h1.items y V,wY y V⟩) I h
  obtain⟨P,K⟩:=abq (φ:=φ) D O S u;rw[abo]at U;have Y:(dG w x).2.aj<=_:=Q;have N:_<=((sW φ (dG w x).2.l.aI+(qW φ q+qW φ (dG w x).1.1):Nat):Int)-k*(dG w x).2.aj:=U;exact⟨Int.le_trans P Y,by show _<=((sW φ w.l.aI+(iW φ x+qW φ q):Nat):Int)-k*w.aj;omega⟩
def agS{k src}(C:0<=src)(W:src<4){f w o}(q:rY w)(V:w.made.length<=w.done)(U:vw o)(I:k=1\/k=0/\∀j,j<12->NoM φ j (aR (allM (f+1) w [⟨src,some o,jl⟩]).2.l j))(h:(allM (f+1) w [⟨src,some o,jl⟩]).1=0) :
  w.aj<=(allM (f+1) w [⟨src,some o,jl⟩]).2.aj/\(sW φ (allM (f+1) w [⟨src,some o,jl⟩]).2.l.aI:Nat)-k*(allM (f+1) w [⟨src,some o,jl⟩]).2.aj<=(sW φ w.l.aI)-k*w.aj:=by
 have O:sn ⟨src,some o,jl⟩:=U;have h1:=qy q V O;have T:=RY (adS src) C W q V U h;have Q:k=1\/k=0/\∀j:Nat,j<12->NoM φ j (aR w.l j):=I.imp id λI=>⟨I.1,λj G=>JG (T j G) (I.2 j G)⟩;clear T;unfold allM at h I ⊢;split at h;simp at h;rename_i c;rw[if_neg c]at I ⊢;split at h;rename_i u;exact absurd h u;rename_i u;rw[if_neg u]at I ⊢;simp only[ne_eq,ahI]at u;have F:rY {(dG w ⟨src,some o,jl⟩).2 with done:=(dG w ⟨src,some o,jl⟩).2.done+1}:=⟨h1.ok.qw,h1.ok.bC,h1.ok.aj,p8,sx⟩;obtain⟨P,N⟩:=Wt C W f _ ([]++(dG w ⟨src,some o,jl⟩).1.1) F h1.ok.Fs (λy S=>⟨h1.items y ags,wY y ags⟩) I h;obtain⟨M,K⟩:=abq (φ:=φ) q O Q u;have Y:(dG w ⟨src,some o,jl⟩).2.aj<=_:=P;have J:_<=((sW φ (dG w ⟨src,some o,jl⟩).2.l.aI+qW φ (dG w ⟨src,some o,jl⟩).1.1:Nat):Int)-k*(dG w ⟨src,some o,jl⟩).2.aj:=N;have H:_<=((sW φ w.l.aI+0:Nat):Int)-k*w.aj:=K;exact⟨Int.le_trans M Y,ai⟩
def abr{k src}(C:0<=src)(Y:src<4):∀l w,rY w->w.made.length<=w.done->(∀o∈l,vw o)->(k=1\/k=0/\∀j,j<12->NoM φ j (aR (jd src w l).2.l j))->(jd src w l).1=0 ->
  w.aj<=(jd src w l).2.aj/\(sW φ (jd src w l).2.l.aI:Nat)-k*(jd src w l).2.aj<=(sW φ w.l.aI)-k*w.aj
 |[],w,hw,hm,N,I,h=>⟨ahS _,ahS _⟩
 |o::r,w,hw,hm,N,I,h=>by
  have M:=xy 25 w [⟨src,some o,jl⟩] hw hm λx O=>by rw[ait]at O;subst O;exact N o cS
  unfold jd at h I ⊢;split at h;rename_i c;exact absurd h c;rename_i c;rw[if_neg c]at I ⊢;simp only[ne_eq,ahI]at c;have T:=JI (adS src) C Y r _ M.ok (M.made c) (λx O=>N x Ko) h;obtain⟨S,P⟩:=abr C Y r _ M.ok (M.made c) (λx O=>N x Ko) I h;obtain⟨U,V⟩:=agS (φ:=φ) (k:=k) C Y hw hm (N o cS) (I.imp id λI=>⟨I.1,λj G=>JG (T j G) (I.2 j G)⟩) c;have W:w.aj<=(allM 25 w [⟨src,some o,jl⟩]).2.aj:=U;have Q:((sW φ (allM 25 w [⟨src,some o,jl⟩]).2.l.aI:Nat):Int)-k*(allM 25 w [⟨src,some o,jl⟩]).2.aj<=(sW φ w.l.aI:Nat)-k*w.aj:=V;exact⟨Int.le_trans W S,ai⟩
def ae1{k l b}(E:pQ l)(N:b.bC<=3000)(T:∀o∈b.ops,vw o)(I:k=1\/k=0/\∀j,j<12->NoM φ j (aR (iV l b).1 j)) :
  0<=(iV l b).2.aj/\(sW φ (iV l b).1.aI:Nat)<=(sW φ l.aI)+k*(iV l b).2.aj:=by
 have P:∀x:Int,x+k*0=x:=λx=>by rw[Int.mul_zero,Int.add_zero]
 unfold iV at I ⊢;split at I;rename_i c;rw[if_pos c];exact⟨ahS _,Int.le_of_eq (P _).symm⟩;rename_i c;rw[if_neg c];simp only[ne_eq,ahI]at c;obtain⟨_,U,_,hf,K,S⟩:=xx c;have Y:sW φ (yZ l b).aI=sW φ l.aI:=by have Q:=gm E.h12 (i:=b.src) ai ai;have:=OQ (φ:=φ) l.aI b.src.toNat _ {aR l b.src with cnt:=(aR l b.src).cnt+1,cK:=(aR l b.src).cK-b.rH} Q;have e:aW φ {aR l b.src with cnt:=(aR l b.src).cnt+1,cK:=(aR l b.src).cK-b.rH}=aW φ (aR l b.src):=rfl;show sW φ (l.aI.set _ _)=_;omega
 split at I;rename_i u;rw[if_pos u];exact⟨ahS _,by show((sW φ (yZ l b).aI:Nat):Int)<=_+k*0;rw[Y,P];exact ahS _⟩;rename_i u;rw[if_neg u];simp only[ne_eq,ahI]at u;obtain⟨O,M⟩:=abr (φ:=φ) (k:=k) U.1 U.2 b.ops (mF l b) (uE E c N) (ahS _) T I u;have V:(0:Int)<=_:=O;have W:_<=((sW φ (yZ l b).aI:Nat):Int)-k*0:=M;rw[Y]at W;refine⟨V,?_⟩;show((sW φ (jd b.src (mF l b) b.ops).2.l.aI:Nat):Int)<=(sW φ l.aI:Nat)+k*(jd b.src (mF l b) b.ops).2.aj;rw[Int.mul_zero]at W;omega
end
end Go.Proofs
open Go.IntKind Go.Proofs.Tryz
namespace Go.Proofs
open Go.cE
def fM(m:Int):Int->Ty->Vl->Bool:=λa _ _=>decide (a=m)
def mx(a b:Int):Int:=if b>a then b else a
mutual
def tT(m:Int):Vl->Ty->Int×Int
 |.mk k n a s Y V code,t =>
  if cL t=15 then(if a=m then n else 0,n)
  else if cL t=9\/cL t=10 then kC m 0 0 Y (aL t 0)
  else if cL t=11 then Cm m 0 0 Y (aQ t)
  else if cL t=12 then kC m 0 0 Y (aL t n.toNat)
  else if cL t=13 then kC m 0 0 Y (.mk 11 (aQ t))
  else(0,0)
def kC(m:Int):Int->Int->Ξ->Ty->Int×Int
 |c,g,[],_=>(c,g)
 |c,g,x::l,t=>kC m (i64.wrap (c+(tT m x t).1)) (mx g (tT m x t).2) l t
def Cm(m:Int):Int->Int->Ξ->Γ->Int×Int
 |c,g,x::l,t::r=>Cm m (i64.wrap (c+(tT m x t).1)) (mx g (tT m x t).2) l r
 |c,g,_,_=>(c,g)
end
section
variable {m:Int}
def vm v(t):tT m v t=(if cL t=15 then(if xA v=m then vN v else 0,vN v)
  else if cL t=9\/cL t=10 then kC m 0 0 (cP v) (aL t 0)
  else if cL t=11 then Cm m 0 0 (cP v) (aQ t)
  else if cL t=12 then kC m 0 0 (cP v) (aL t (vN v).toNat)
  else if cL t=13 then kC m 0 0 (cP v) (.mk 11 (aQ t))
  else(0,0)):=by cases v;rw[tT];rfl
def Am{c g x}{l:Ξ}{t}:kC m c g (x::l) t=kC m (i64.wrap (c+(tT m x t).1)) (mx g (tT m x t).2) l t:=by rw[kC]
def Cn{c g t}:kC m c g [] t=(c,g):=by rw[kC]
structure PF(m:Int)(v:Vl)(t:Ty):Prop where
 nn:0<=(tT m v t).2
 ex:(tT m v t).2<=1073741824->(tT m v t).1=(wT (fM m) v t:Nat)/\wT (fM m) v t<=1073741824*aG v
def OS(a b):a<=mx a b/\b<=mx a b:=by unfold mx;split<;>omega
def G4{t}:∀l c g,g<=(kC m c g l t).2
 |[],c,g=>by rw[Cn];exact ahS _
 |x::l,c,g=>by rw[Am];exact Int.le_trans (OS _ _).1 (G4 l _ _)
def abx{t}:∀{l}(c g),(∀x∈l,PF m x t)->0<=c->(kC m c g l t).2<=1073741824->c+1073741824*aH l<=4611686018427387904->(kC m c g l t).1=c+(eP (fM m) l t)/\eP (fM m) l t<=1073741824*aH l
 |[],c,g,_,hc,_,_=>by rw[Cn];exact⟨by simp[eP],ahp _⟩
 |x::l,c,g,h,hc,hb,hz=>by obtain⟨T,U⟩:=h x cS;rw[Am]at hb ⊢;simp only[eP,aH]at hz ⊢;have p:=G4 (m:=m) (t:=t) l (i64.wrap (c+(tT m x t).1)) (mx g (tT m x t).2);have O:=(OS g (tT m x t).2).2;obtain⟨A,Q⟩:=U ai;have Y:i64.wrap (c+(tT m x t).1)=c+(tT m x t).1:=gW ai ai;rw[Y]at hb ⊢;obtain⟨C,u⟩:=abx (l:=l) (c+(tT m x t).1) (mx g (tT m x t).2) (λy V=>h y agc) ai hb ai;exact⟨ai,ai⟩
def j8:∀{l}(i),mg xF l->gk (l.getD i kg)=true
 |[],i,_=>by simp only[alr];decide
 |t::l,0,h=>by simp only[mg,aaI]at h;exact h.1
 |t::l,i+1,h=>by simp only[mg,aaI]at h;exact j8 (l:=l) i h.2
def R2{T}{V:Γ}(h:gk (.mk T V))(Y:T≠14):T≠8/\mg xF V:=by
 have E:xF T/\mg xF V:=by simpa[gk,v8,Y]using h
 exact⟨by rintro rfl;exact absurd E.1 bn,E.2⟩
end
def Ww{T}{U:Γ}{v}(vR:T=9\/T=10)(N:bA (.mk T U))(p:bJ v (.mk T U))(Y:fE v):∃t0 l,U=[t0]/\v = .mk T 0 0 [] l [] []/\∀x∈l,fK t0 x:=by
 rcases vR with rfl|rfl
 ·obtain⟨t0,rfl,_⟩:=dD (bw N) bn;rcases Ds p Y with rfl|⟨x,rfl,O⟩
  exact⟨t0,[],Z,Z,λx O=>by simp at O⟩;exact⟨t0,[x],Z,Z,λy V=>by rw[List.mem_singleton.1 V];exact eX (fQ N _ cS) O⟩
 obtain⟨t0,rfl,_⟩:=dD (bw N) bn;obtain⟨l,rfl,_,S,Q⟩:=oT p Y;exact⟨t0,l,Z,Z,λx O=>eX (fQ N _ cS) ⟨(eI _ l).1 S x O,rq Q O⟩⟩
def R7{v T}{J:Γ}(P:T≠8/\T≠9/\T≠10/\T≠11/\T≠12/\T≠13/\T≠15)(h:bJ v (.mk T J)):cP v=[]:=by
 obtain⟨k,n,a,s,N,K,code⟩:=v;obtain⟨I,M,_⟩:=jn h;simp only[cL]at I;subst I;show N=[];obtain⟨H,O,W,V,Q,U,S⟩:=P;by_cases Y:k=14;subst Y;simp[cG]at M;exact M.2.2.2.2;unfold bJ at h;rw[if_neg (by rw[M];simp[cL];omega)]at h;rw[if_neg O,if_neg W,if_neg V,if_neg Q,if_neg U,if_neg Y,if_neg S,if_neg H]at h
 repeat' split at h
 all_goals first|(cases h;done)|(have:=ahG h;exact List.length_eq_zero_iff.1 ai)
attribute [local irreducible] AK ag aZ bS de cA wT eP cD tT kC Cm fK gk cq di gL dH
def qp(m):∀k,k<=12400000->∀v t,aG v<=k->fK t v->gk t->af 20 [ct t,bz v,.int .i64 m] (.eK [.int .i64 (tT m v t).1,.int .i64 (tT m v t).2])/\PF m v t
 |0,_,.mk ..,_,hv,_,_=>by simp only[aG]at hv;omega
 |k+1,hk,v,.mk T ts,hv,ru,hst=>by
  obtain⟨N,p,J⟩:=bW ru;by_cases Gr:T=15
  ·subst Gr;obtain⟨t0,rfl,_⟩:=dD (bw N) bn;obtain⟨n,a,x,rfl,hn,_⟩:=pF p J;have e:tT m (.mk 15 n a [] [x] [] []) (.mk 15 [t0])=(if a=m then n else 0,n):=(by rw[vm];rfl);have D:wT (fM m) (.mk 15 n a [] [x] [] []) (.mk 15 [t0])=if decide (a=m)=true then n.toNat else 0:=JC
   refine⟨?_,⟨by rw[e];show 0<=n;omega,λf=>?_⟩⟩;rw[e];clear ru N p J hst;by_cases c:a=m;have e1:(a != m)=false:=(by simpa using c);rw[if_pos c];exact qdw func20 call20;have e1:(a != m):=(by simpa using c);rw[if_neg c];exact qdw func20 call20;rw[e]at f ⊢;rw[D];have C:n<=1073741824:=f;simp only[aG];by_cases c:a=m;rw[if_pos c,if_pos (ace c)];omega;rw[if_neg c,if_neg afr];exact⟨Z,ahp _⟩
  by_cases J3:T=14
  ·subst J3;have hA:=R7 bn p;have e:tT m v (.mk 14 ts)=(0,0):=(by rw[vm];rfl);refine⟨?_,⟨by rw[e];exact ahS _,λ_=>by rw[e,lU cS];exact⟨Z,ahp _⟩⟩⟩;rw[e];obtain⟨y1,y2,y3,y4,y5,y6,y7⟩:=v;obtain rfl:y5=[]:=hA;have e0:decide (((0:Nat):Int)<((0:Nat):Int))=false:=by decide
   clear ru N p J hst;refine qn func20 call20 λβ hf=>?_
   repeat' (first|refine ju ?_|refine zc ?_ ?_|(intro h;first|(cases h;done)|rw[h]|skip))
   refine AK.dg (α:=Unit) (λ_=>True) (λ_=>0) (λ_=>[(31,Υ ((0:Nat):Int)),(30,Υ ((0:Nat):Int)),(8,Υ 0),(9,Υ 0)]) (λ_=>[]) (λ_=>[]) [] ()
    trivial ce trivial trivial Z Z Z ?_
   rintro _ _ S;clear S;exact dw
  obtain⟨c8,G⟩:=R2 hst J3;have Y:∀{l:Ξ}{U:Ty}(hP:∀x∈l,PF m x U)(hz:aH l<=12400000)(e:tT m v (.mk T ts)=kC m 0 0 l U)(D:wT (fM m) v (.mk T ts)=eP (fM m) l U)(χ:aH l<=aG v),PF m v (.mk T ts):=λ{l U} hP hz e D χ=>by refine⟨by rw[e];exact G4 l 0 0,λf=>?_⟩;rw[e]at f ⊢;rw[D];obtain⟨b1,b2⟩:=abx (m:=m) (t:=U) (l:=l) 0 0 hP (ahS _) f ai;exact⟨ai,ai⟩
  by_cases CX:T=12
  ·subst CX;obtain⟨t0,t1,rfl,_⟩:=dr (bw N) bn;obtain⟨y,⟨rfl,d⟩|⟨rfl,d⟩,B⟩:=N7 p J
   ·simp only[aG,aH]at hv;have Q:∀x∈[y],af 20 [ct t0,bz x,.int .i64 m] (.eK [.int .i64 (tT m x t0).1,.int .i64 (tT m x t0).2])/\PF m x t0:=λx O=>by obtain rfl:=List.mem_singleton.1 O;exact qp m k ai x t0 ai (eX (fQ N _ cS) ⟨d,B⟩) (j8 (l:=[t0,t1]) 0 G)
    have e:tT m (.mk 12 0 0 [] [y] [] []) (.mk 12 [t0,t1])=kC m 0 0 [y] t0:=(by rw[vm];rfl);refine⟨?_,Y (λx O=>(Q x O).2) (by simp only[aH];omega) e (by rw[lX];rfl) aeo⟩;rw[e];have V:=λx O=>(Q x O).1;have Fg:[y].length<=1:=acd _;clear ru N p J d B hv Q e Y hst G;generalize [y]=l at *;obtain⟨E,A⟩:=t0;obtain⟨P,o⟩:=t1;refine qn func20 call20 λβ hf=>?_
    repeat' (first|refine ju ?_|refine zc ?_ ?_|(intro h;first|(cases h;done)|rw[h]|skip))
    refine AK.dg (α:=Nat×Int×Int) (λz=>z.1<=l.length/\kC m 0 0 l (.mk E A)=kC m z.2.1 z.2.2 (l.drop z.1) (.mk E A)) (λz=>l.length-z.1)
     (λz=>[(31,Υ z.1),(30,Υ (aa l).length),(29,.c (.sl 7 (aa l))),(8,Υ z.2.1),(9,Υ z.2.2),(2,Υ m),(3,.ptr 3 0),(4,.ptr 4 0)])
     (λ_=>[(3,[Υ 12,.c (.sl 2 (az [.mk E A,.mk P o]))]),(4,[Υ 12,Υ 0,Υ 0,.c (.str []),.c (.sl 7 (aa l)),.c (.sl 2 (az [])),.c (.sl 5 (aD []))])]) (λ_=>[]) [3,4] (0,0,0)
     ⟨ai,Z⟩ ce ⟨Z,Z,trivial⟩ trivial Z Z Z ?_
    rintro⟨i,I,M⟩ ⟨H,W⟩ S;simp only at H W;rcases fU l i H with ⟨x,O,u⟩|K
    ·have q:=nM O;have F:=V x u;have h2:=bp O;rw[cT O,Am]at W;generalize tT m x (.mk E A)=r at F W;obtain⟨rc,rg⟩:=r;simp only at F W;obtain⟨x1,x2,x3,x4,x5,x6,x7⟩:=x
     repeat' (first|refine ju ?_|refine zc ?_ ?_|(intro h;first|(cases h;done)|rw[h]|skip)|refine uI Z (i) Z (eV O) Z ?_|refine uC Z F ?_|refine uI Z (0) Z (Z) Z ?_|refine uI Z (1) Z (Z) Z ?_)
     exact agy
    have q:=kP K;have j:kC m 0 0 l (.mk E A)=(I,M):=(by rw[W,K,aho,Cn]);clear S;rw[j];exact dw
   simp only[aG,aH]at hv;have Q:∀x∈[y],af 20 [ct t1,bz x,.int .i64 m] (.eK [.int .i64 (tT m x t1).1,.int .i64 (tT m x t1).2])/\PF m x t1:=λx O=>by obtain rfl:=List.mem_singleton.1 O;exact qp m k ai x t1 ai (eX (fQ N _ cS) ⟨d,B⟩) (j8 (l:=[t0,t1]) 1 G)
   have e:tT m (.mk 12 1 0 [] [y] [] []) (.mk 12 [t0,t1])=kC m 0 0 [y] t1:=(by rw[vm];rfl);refine⟨?_,Y (λx O=>(Q x O).2) (by simp only[aH];omega) e (by rw[lX];rfl) aeo⟩;rw[e];have V:=λx O=>(Q x O).1;have Fg:[y].length<=1:=acd _;clear ru N p J d B hv Q e Y hst G;generalize [y]=l at *;obtain⟨E,A⟩:=t0;obtain⟨P,o⟩:=t1;refine qn func20 call20 λβ hf=>?_
   repeat' (first|refine ju ?_|refine zc ?_ ?_|(intro h;first|(cases h;done)|rw[h]|skip))
   refine AK.dg (α:=Nat×Int×Int) (λz=>z.1<=l.length/\kC m 0 0 l (.mk P o)=kC m z.2.1 z.2.2 (l.drop z.1) (.mk P o)) (λz=>l.length-z.1)
    (λz=>[(31,Υ z.1),(30,Υ (aa l).length),(29,.c (.sl 7 (aa l))),(8,Υ z.2.1),(9,Υ z.2.2),(2,Υ m),(3,.ptr 3 0),(4,.ptr 4 0)])
    (λ_=>[(3,[Υ 12,.c (.sl 2 (az [.mk E A,.mk P o]))]),(4,[Υ 12,Υ 1,Υ 0,.c (.str []),.c (.sl 7 (aa l)),.c (.sl 2 (az [])),.c (.sl 5 (aD []))])]) (λ_=>[]) [3,4] (0,0,0)
    ⟨ai,Z⟩ ce ⟨Z,Z,trivial⟩ trivial Z Z Z ?_
   rintro⟨i,I,M⟩ ⟨H,W⟩ S;simp only at H W;rcases fU l i H with ⟨x,O,u⟩|K
   ·have q:=nM O;have F:=V x u;have h2:=bp O;rw[cT O,Am]at W;generalize tT m x (.mk P o)=r at F W;obtain⟨rc,rg⟩:=r;simp only at F W;obtain⟨x1,x2,x3,x4,x5,x6,x7⟩:=x
    repeat' (first|refine ju ?_|refine zc ?_ ?_|(intro h;first|(cases h;done)|rw[h]|skip)|refine uI Z (i) Z (eV O) Z ?_|refine uC Z F ?_|refine uI Z (0) Z (Z) Z ?_|refine uI Z (1) Z (Z) Z ?_)
    exact agy
   have q:=kP K;have j:kC m 0 0 l (.mk P o)=(I,M):=(by rw[W,K,aho,Cn]);clear S;rw[j];exact dw
  by_cases vR:T=9\/T=10
  ·obtain⟨t0,l,rfl,rfl,hl⟩:=Ww vR N p J;simp only[aG]at hv;have Q:∀x∈l,af 20 [ct t0,bz x,.int .i64 m] (.eK [.int .i64 (tT m x t0).1,.int .i64 (tT m x t0).2])/\PF m x t0:=λx O=>qp m k ai x t0 sy (hl x O) (j8 (l:=[t0]) 0 G);have e:tT m (.mk T 0 0 [] l [] []) (.mk T [t0])=kC m 0 0 l t0:=by rw[vm];rcases vR with rfl|rfl<;>rfl
   refine⟨?_,Y (λx O=>(Q x O).2) ai e (by rw[lX];rcases vR with rfl|rfl<;>rfl) acT⟩;rw[e];have V:=λx O=>(Q x O).1;have Fg:=iT l;clear hl p J ru N Q e Y hst G;obtain⟨E,A⟩:=t0;rcases vR with rfl|rfl
   ·refine qn func20 call20 λβ hf=>?_
    repeat' (first|refine ju ?_|refine zc ?_ ?_|(intro h;first|(cases h;done)|rw[h]|skip))
    refine AK.dg (α:=Nat×Int×Int) (λz=>z.1<=l.length/\kC m 0 0 l (.mk E A)=kC m z.2.1 z.2.2 (l.drop z.1) (.mk E A)) (λz=>l.length-z.1)
     (λz=>[(31,Υ z.1),(30,Υ (aa l).length),(29,.c (.sl 7 (aa l))),(8,Υ z.2.1),(9,Υ z.2.2),(2,Υ m),(3,.ptr 3 0),(4,.ptr 4 0)])
     (λ_=>[(3,[Υ 9,.c (.sl 2 (az [.mk E A]))]),(4,[Υ 9,Υ 0,Υ 0,.c (.str []),.c (.sl 7 (aa l)),.c (.sl 2 (az [])),.c (.sl 5 (aD []))])]) (λ_=>[]) [3,4] (0,0,0)
     ⟨ai,Z⟩ ce ⟨Z,Z,trivial⟩ trivial Z Z Z ?_
    rintro⟨i,I,M⟩ ⟨H,W⟩ S;simp only at H W;rcases fU l i H with ⟨x,O,u⟩|K
    ·have q:=nM O;have F:=V x u;have h2:=bp O;rw[cT O,Am]at W;generalize tT m x (.mk E A)=r at F W;obtain⟨rc,rg⟩:=r;simp only at F W;obtain⟨x1,x2,x3,x4,x5,x6,x7⟩:=x
     repeat' (first|refine ju ?_|refine zc ?_ ?_|(intro h;first|(cases h;done)|rw[h]|skip)|refine uI Z (i) Z (eV O) Z ?_|refine uC Z F ?_|refine uI Z (0) Z (Z) Z ?_)
     exact agy
    have q:=kP K;have j:kC m 0 0 l (.mk E A)=(I,M):=(by rw[W,K,aho,Cn]);clear S;rw[j];exact dw
   refine qn func20 call20 λβ hf=>?_
   repeat' (first|refine ju ?_|refine zc ?_ ?_|(intro h;first|(cases h;done)|rw[h]|skip))
   refine AK.dg (α:=Nat×Int×Int) (λz=>z.1<=l.length/\kC m 0 0 l (.mk E A)=kC m z.2.1 z.2.2 (l.drop z.1) (.mk E A)) (λz=>l.length-z.1)
    (λz=>[(31,Υ z.1),(30,Υ (aa l).length),(29,.c (.sl 7 (aa l))),(8,Υ z.2.1),(9,Υ z.2.2),(2,Υ m),(3,.ptr 3 0),(4,.ptr 4 0)])
    (λ_=>[(3,[Υ 10,.c (.sl 2 (az [.mk E A]))]),(4,[Υ 10,Υ 0,Υ 0,.c (.str []),.c (.sl 7 (aa l)),.c (.sl 2 (az [])),.c (.sl 5 (aD []))])]) (λ_=>[]) [3,4] (0,0,0)
    ⟨ai,Z⟩ ce ⟨Z,Z,trivial⟩ trivial Z Z Z ?_
   rintro⟨i,I,M⟩ ⟨H,W⟩ S;simp only at H W;rcases fU l i H with ⟨x,O,u⟩|K
   ·have q:=nM O;have F:=V x u;have h2:=bp O;rw[cT O,Am]at W;generalize tT m x (.mk E A)=r at F W;obtain⟨rc,rg⟩:=r;simp only at F W;obtain⟨x1,x2,x3,x4,x5,x6,x7⟩:=x
    repeat' (first|refine ju ?_|refine zc ?_ ?_|(intro h;first|(cases h;done)|rw[h]|skip)|refine uI Z (i) Z (eV O) Z ?_|refine uC Z F ?_|refine uI Z (0) Z (Z) Z ?_)
    exact agy
   have q:=kP K;have j:kC m 0 0 l (.mk E A)=(I,M):=(by rw[W,K,aho,Cn]);clear S;rw[j];exact dw
  by_cases CW:T=11
  ·subst CW;obtain⟨t0,t1,rfl,_⟩:=dr (bw N) bn;obtain⟨y,z,rfl,d,hz⟩:=mL p J;simp only[aU,aG,aH]at hv;obtain⟨J5,p1⟩:=qp m k ai y t0 ai (eX (fQ N _ cS) d) (j8 (l:=[t0,t1]) 0 G);obtain⟨GC,p2⟩:=qp m k ai z t1 ai (eX (fQ N _ cS) hz) (j8 (l:=[t0,t1]) 1 G);have e:tT m (aU y z) (.mk 11 [t0,t1])=(i64.wrap (i64.wrap (0+(tT m y t0).1)+(tT m z t1).1),mx (mx 0 (tT m y t0).2) (tT m z t1).2):=(by rw[vm];show Cm m 0 0 [y,z] [t0,t1]=_;rw[Cm,Cm,Cm]<;>simp);have D:wT (fM m) (aU y z) (.mk 11 [t0,t1])=wT (fM m) y t0+wT (fM m) z t1:=rV;obtain⟨n1,x1⟩:=p1;obtain⟨n2,x2⟩:=p2;have υ:aG y+aG z<=12400000:=(by omega);have ω:aG (aU y z)=0+(aG y+(aG z+0))+0+0+1:=rfl;generalize tT m y t0=r1 at *;generalize tT m z t1=r2 at *;obtain⟨a1,b1⟩:=r1;obtain⟨a2,b2⟩:=r2;simp only at n1 x1 n2 x2 e J5 GC;refine⟨?_,⟨by rw[e];show 0<=mx (mx 0 b1) b2;unfold mx;split<;>split<;>omega,λf=>?_⟩⟩;rotate_left;rw[e]at f ⊢;rw[D,ω];have C:mx (mx 0 b1) b2<=1073741824:=f;have DW:b1<=1073741824/\b2<=1073741824:=(by unfold mx at C;split at C<;>split at C<;>omega);obtain⟨u1,u2⟩:=x1 DW.1;obtain⟨w1,w2⟩:=x2 DW.2;show i64.wrap (i64.wrap (0+a1)+a2)=_/\_;rw[gW (n:=0+a1) ai ai,gW ai ai];omega;rw[e];clear ru N p J d hz Y hst G e D ω n1 x1 n2 x2 hv υ;obtain⟨E,A⟩:=t0;obtain⟨P,o⟩:=t1;obtain⟨y1,y2,y3,y4,y5,y6,y7⟩:=y;obtain⟨z1,z2,z3,z4,z5,z6,z7⟩:=z;have e0:decide (((0:Nat):Int)<((2:Nat):Int)):=(by decide);have e1:decide (((1:Nat):Int)<((2:Nat):Int)):=(by decide);have e2:decide (((2:Nat):Int)<((2:Nat):Int))=false:=(by decide);refine qn func20 call20 λβ hf=>?_
   repeat' (first|refine ju ?_|refine zc ?_ ?_|(intro h;first|(cases h;done)|rw[h]|skip))
   refine AK.dg (α:=Nat×Int×Int) (λz=>z=(0,0,0)\/z=(1,i64.wrap (0+a1),mx 0 b1)\/z=(2,i64.wrap (i64.wrap (0+a1)+a2),mx (mx 0 b1) b2)) (λz=>2-z.1)
    (λz=>[(31,Υ z.1),(30,Υ ((2:Nat):Int)),(29,.c (.sl 7 (aa [.mk y1 y2 y3 y4 y5 y6 y7,.mk z1 z2 z3 z4 z5 z6 z7]))),(8,Υ z.2.1),(9,Υ z.2.2),(2,Υ m),(3,.ptr 3 0),(4,.ptr 4 0)])
    (λ_=>[(3,[Υ 11,.c (.sl 2 (az [.mk E A,.mk P o]))]),(4,[Υ 11,Υ 0,Υ 0,.c (.str []),.c (.sl 7 (aa [.mk y1 y2 y3 y4 y5 y6 y7,.mk z1 z2 z3 z4 z5 z6 z7])),.c (.sl 2 (az [])),.c (.sl 5 (aD []))])]) (λ_=>[]) [3,4] (0,0,0)
    (.inl Z) ce ⟨Z,Z,trivial⟩ trivial Z Z Z ?_
   rintro⟨i,I,M⟩ H S;rcases H with H|H|H
   ·cases H
    repeat' (first|refine ju ?_|refine zc ?_ ?_|(intro h;first|(cases h;done)|rw[h]|skip)|refine uI Z (0) Z (Z) Z ?_|refine uC Z J5 ?_)
    exact AK.again (S (1,_,_) (.inr (.inl Z)) (by show 2-1<2-0;omega)) ⟨.inl (dz (i:=0) ai),.inl Z,.inl Z,.inl Z,.inl Z,.inl Z,.inl Z,.inl Z,trivial⟩ ⟨Z,Z,trivial⟩ trivial Z Z Z
   ·cases H
    repeat' (first|refine ju ?_|refine zc ?_ ?_|(intro h;first|(cases h;done)|rw[h]|skip)|refine uI Z (1) Z (Z) Z ?_|refine uC Z GC ?_)
    exact AK.again (S (2,_,_) (.inr (.inr Z)) (by show 2-2<2-1;omega)) ⟨.inl (dz (i:=1) ai),.inl Z,.inl Z,.inl Z,.inl Z,.inl Z,.inl Z,.inl Z,trivial⟩ ⟨Z,Z,trivial⟩ trivial Z Z Z
   cases H;clear S;exact dw
  by_cases CY:T=13
  ·subst CY;obtain⟨t0,t1,rfl,_⟩:=dr (bw N) bn;obtain⟨l,rfl,_,h1,_,h3⟩:=va p J;simp only[aG]at hv;have ψ:gk (.mk 11 [t0,t1]):=(by have:xF 11:=(by decide);simpa[gk,v8,this]using G);have Q:∀x∈l,af 20 [ct (.mk 11 [t0,t1]),bz x,.int .i64 m] (.eK [.int .i64 (tT m x (.mk 11 [t0,t1])).1,.int .i64 (tT m x (.mk 11 [t0,t1])).2])/\PF m x (.mk 11 [t0,t1]):=λx O=>qp m k ai x _ sy (eX (Ca N) ⟨(eI _ l).1 h1 x O,rq h3 O⟩) ψ;have e:tT m (.mk 13 0 0 [] l [] []) (.mk 13 [t0,t1])=kC m 0 0 l (.mk 11 [t0,t1]):=by rw[vm];rfl
   refine⟨?_,Y (λx O=>(Q x O).2) ai e (by rw[lX];rfl) acT⟩;rw[e];have V:=λx O=>(Q x O).1;have Fg:=iT l;clear p J ru N h1 h3 Q e Y hst G ψ;obtain⟨E,A⟩:=t0;obtain⟨P,o⟩:=t1;refine qn func20 call20 λβ hf=>?_
   repeat' (first|refine ju ?_|refine zc ?_ ?_|(intro h;first|(cases h;done)|rw[h]|skip))
   refine AK.dg (α:=Nat×Int×Int) (λz=>z.1<=l.length/\kC m 0 0 l (.mk 11 [.mk E A,.mk P o])=kC m z.2.1 z.2.2 (l.drop z.1) (.mk 11 [.mk E A,.mk P o])) (λz=>l.length-z.1)
    (λz=>[(31,Υ z.1),(30,Υ (aa l).length),(29,.c (.sl 7 (aa l))),(8,Υ z.2.1),(9,Υ z.2.2),(2,Υ m),(3,.ptr 3 0),(4,.ptr 4 0)])
    (λ_=>[(3,[Υ 13,.c (.sl 2 (az [.mk E A,.mk P o]))]),(4,[Υ 13,Υ 0,Υ 0,.c (.str []),.c (.sl 7 (aa l)),.c (.sl 2 (az [])),.c (.sl 5 (aD []))])]) (λ_=>[]) [3,4] (0,0,0)
    ⟨ai,Z⟩ ce ⟨Z,Z,trivial⟩ trivial Z Z Z ?_
   rintro⟨i,I,M⟩ ⟨H,W⟩ S;simp only at H W;rcases fU l i H with ⟨x,O,u⟩|K
   ·have q:=nM O;have F:=V x u;have h2:=bp O;rw[cT O,Am]at W;generalize tT m x (.mk 11 [.mk E A,.mk P o])=r at F W;obtain⟨rc,rg⟩:=r;simp only at F W;obtain⟨x1,x2,x3,x4,x5,x6,x7⟩:=x
    repeat' (first|refine ju ?_|refine zc ?_ ?_|(intro h;first|(cases h;done)|rw[h]|skip)|refine uI Z (i) Z (eV O) Z ?_|refine uC Z F ?_)
    exact agy
   have q:=kP K;have j:kC m 0 0 l (.mk 11 [.mk E A,.mk P o])=(I,M):=(by rw[W,K,aho,Cn]);clear S;rw[j];exact dw
  have hA:=R7 ⟨c8,λh=>vR (.inl h),λh=>vR (.inr h),CW,CX,CY,Gr⟩ p;have e:tT m v (.mk T ts)=(0,0):=by rw[vm];simp only[cL,Gr,CW,CX,CY,aiQ];rw[if_neg vR]
  have D:wT (fM m) v (.mk T ts)=0:=by rw[lX];simp only[cL,Gr,CW,CX,CY,c8,aiQ];rw[if_neg vR]
  refine⟨?_,⟨by rw[e];exact ahS _,λ_=>by rw[e,D];exact⟨Z,ahp _⟩⟩⟩;rw[e];clear Y;obtain⟨y1,y2,y3,y4,y5,y6,y7⟩:=v;obtain rfl:y5=[]:=hA;have e1:(T==15)=false:=by simpa using Gr
  have e0:decide (((0:Nat):Int)<((0:Nat):Int))=false:=by decide
  clear ru N p J hst;refine qn func20 call20 λβ hf=>?_
  repeat' (first|refine ju ?_|refine zc ?_ ?_|(intro h;first|(cases h;done)|rw[h]|skip))
  refine AK.dg (α:=Unit) (λ_=>True) (λ_=>0) (λ_=>[(31,Υ ((0:Nat):Int)),(30,Υ ((0:Nat):Int)),(8,Υ 0),(9,Υ 0)]) (λ_=>[]) (λ_=>[]) [] ()
   trivial ce trivial trivial Z Z Z ?_
  rintro _ _ S;clear S;exact dw
def R1(m v t)(hf:fK t v)(Y:gk t)(u:aG v<=12400000):af 20 [ct t,bz v,.int .i64 m] (.eK [.int .i64 (tT m v t).1,.int .i64 (tT m v t).2])/\PF m v t:=qp m _ u v t (acd _) hf Y
end Go.Proofs
namespace Go.Proofs
open Go.cE
def sT(m:Int):Int->Int->L Acc->Int×Int
 |c,g,[]=>(c,g)
 |c,g,a::l=>if a.is=2 then sT m (i64.wrap (c+(tT m a.keep a.store).1)) (mx g (tT m a.keep a.store).2) l else sT m c g l
section
variable {m:Int}
def adU{c g a}{l:L Acc}:sT m c g (a::l)=if a.is=2 then sT m (i64.wrap (c+(tT m a.keep a.store).1)) (mx g (tT m a.keep a.store).2) l else sT m c g l:=rfl
def Wu:∀l c g,g<=(sT m c g l).2
 |[],c,g=>ahS _
 |a::l,c,g=>by rw[adU];split;exact Int.le_trans (OS _ _).1 (Wu l _ _);exact Wu l _ _
def ai3:∀l c g,(∀a∈l,a.is=2->PF m a.keep a.store/\aG a.keep<=12400000)->0<=c->(sT m c g l).2<=1073741824->c+13314398617600000*l.length<=4611686018427387904->(sT m c g l).1=c+(sW (fM m) l)/\sW (fM m) l<=13314398617600000*l.length
 |[],c,g,_,hc,_,_=>⟨by simp[sT,sW],ahp _⟩
 |a::l,c,g,h,hc,U,hz=>by rw[adU]at U ⊢;simp only[sW,aat]at hz ⊢;have V:=λT S=>ai3 l T S (λy G=>h y aga);split at U;rename_i u;rw[if_pos u];obtain⟨⟨N,P⟩,h3⟩:=h a cS u;have p:=Wu (m:=m) l (i64.wrap (c+(tT m a.keep a.store).1)) (mx g (tT m a.keep a.store).2);have O:=(OS g (tT m a.keep a.store).2).2;obtain⟨A,Q⟩:=P ai;have Y:i64.wrap (c+(tT m a.keep a.store).1)=c+(tT m a.keep a.store).1:=gW ai ai;rw[Y]at U ⊢;have W:aW (fM m) a=wT (fM m) a.keep a.store:=if_pos u;obtain⟨C,J⟩:=V (c+(tT m a.keep a.store).1) (mx g (tT m a.keep a.store).2) ai U ai;exact⟨ai,ai⟩;rename_i u;rw[if_neg u];have W:aW (fM m) a=0:=if_neg u;obtain⟨C,J⟩:=V c g hc U ai;exact⟨ai,ai⟩
end
def fL(i:Nat):Int->Ty->Vl->Bool:=λa _ _=>decide (0<=a/\a<i)
section
variable {φ ψ χ:Int->Ty->Vl->Bool}(h:∀ a t v, ∀ n:Nat, (if χ a t v = true then n else 0) = (if φ a t v = true then n else 0) + (if ψ a t v = true then n else 0))
include h
end
def DH{p s n}(h:iY p s n=0):gk s:=by unfold iY at h;split at h;cases h;rename_i c;simp only[aku,aaI]at c;exact c.2
attribute [local irreducible] AK ag aZ bS de cA cq di gL eF.cF eF.iZ wB wF gl tT kC Cm wT eP cD sT sW dH
def vl(Ll)(q:pQ Ll)(m):af 11 [.agg (di Ll),.int .i64 m] (.eK [.int .i64 (sT m 0 0 Ll.aI).1,.int .i64 (sT m 0 0 Ll.aI).2])/\((sT m 0 0 Ll.aI).2<=1073741824->(sT m 0 0 Ll.aI).1=(sW (fM m) Ll.aI)/\sW (fM m) Ll.aI<=159772783411200000):=by
 have U:=q.h12;have Y:∀(i:Nat)(a:Acc),Ll.aI[i]?=some a->a.is=2->af 20 [ct a.store,bz a.keep,.int .i64 m] (.eK [.int .i64 (tT m a.keep a.store).1,.int .i64 (tT m a.keep a.store).2])/\PF m a.keep a.store/\aG a.keep<=12400000:=λi a V F=>by obtain⟨o,j,b3,f,d,b6⟩:=zy (q.get V) F;have p:=(q.size a (acm V)).2.2;obtain⟨q1,Q⟩:=R1 m a.keep a.store d (DH f) p;exact⟨q1,Q,p⟩
 refine⟨?_,λb=>?_⟩;rotate_left
 ·obtain⟨o,j⟩:=ai3 (m:=m) Ll.aI 0 0 (λa V F=>by
   obtain⟨i,H⟩:=List.mem_iff_getElem?.1 V
   exact(Y i a H F).2) (ahS _) b ai
  exact⟨ai,ai⟩
 have T:∀(i:Nat)(a:Acc),Ll.aI[i]?=some a->a.is=2->af 20 [ct a.store,bz a.keep,.int .i64 m] (.eK [.int .i64 (tT m a.keep a.store).1,.int .i64 (tT m a.keep a.store).2]):=λi a V F=>(Y i a V F).1;clear Y;refine qn func11 call11 λβ hf=>?_
 repeat' (first|exact wq|refine wz ?_|refine ag.dy hX kn Z Z Z Z Z Z Z (ud ew Z Z) ?_)
 refine AK.dg (α:=Nat×Int×Int) (λz=>z.1<=12/\sT m 0 0 Ll.aI=sT m z.2.1 z.2.2 (Ll.aI.drop z.1)) (λz=>12-z.1) (λz=>[(14,.c (ah (z.1:Nat))),(13,.agg (gL Ll)),(6,Υ z.2.1),(7,Υ z.2.2),(1,Υ m)]) (λ_=>[]) (λ_=>[]) [] (0,0,0)
  ⟨ahp _,Z⟩ ce trivial trivial ac9 Z Z ?_
 rintro⟨i,I,S⟩ ⟨H,W⟩ ih;simp only at H W;by_cases ω:i<12
 ·have e1:decide ((i:Int)<12):=ace ai;have x:Nat.blt i 12:=by rw[ajd];omega
  have P:=gm (l:=Ll) (i:=i) U ai ai;rw[acn]at P;have y:=T i _ P;rw[cT P,adU]at W;generalize aR Ll i=A at *;by_cases u:A.is=2
  ·rw[if_pos u]at W;have y:=y u;have O:(A.is==2):=(by simpa using u);have D:=ih (i+1,i64.wrap (I+(tT m A.keep A.store).1),mx S (tT m A.keep A.store).2) ⟨ae3,W⟩ adv;clear ih W T;generalize tT m A.keep A.store=r at *;obtain⟨rc,rg⟩:=r;obtain⟨N,M,Wv,⟨K,J⟩,⟨G,E⟩,cd',⟨q1,Q,q3,q4,q5,q6,q7⟩⟩:=A;obtain⟨r3,C,B⟩:=xL U P;simp only at O y D
   repeat' (first|exact wq|refine wz ?_|refine ag.eW hX kn Z Z Z Z Z Z Z Z Z x C (eJ Z Z B) ?_|(intro h;rw[h]))
   exact agY
  rw[if_neg u]at W;have O:(A.is==2)=false:=by simpa using u
  have D:=ih (i+1,I,S) ⟨ae3,W⟩ adv;clear ih W T y;obtain⟨N,M,Wv,⟨K,J⟩,⟨G,E⟩,cd',⟨q1,Q,q3,q4,q5,q6,q7⟩⟩:=A;obtain⟨r3,C,B⟩:=xL U P;simp only at O D
  repeat' (first|exact wq|refine wz ?_|refine ag.eW hX kn Z Z Z Z Z Z Z Z Z x C (eJ Z Z B) ?_|(intro h;rw[h]))
  exact agY
 obtain rfl:i=12:=by omega
 have e1:decide (((12:Nat):Int)<12)=false:=by decide
 have h0:sT m 0 0 Ll.aI=(I,S):=by rw[W,List.drop_of_length_le ai];unfold sT;rfl
 rw[h0];clear ih T
 repeat' (first|exact wq|refine wz ?_)
end Go.Proofs
