/- Package value as plain functions: -/
import Derived.Test.YteanleefnjknoaaGreatDoorTPure
set_option linter.defProp false
set_option linter.unusedVariables false
set_option linter.unusedSimpArgs false
namespace Go.cK
def bS:Ty->Int | .mk T _=>T
def au:Ty->L Ty | .mk _ l=>l
def aE(t:Ty)(i:Nat):Ty:=(au t).getD i kX
def vK:Vl->Int | .mk k _ _ _ _ _ _=>k
def vN:Vl->Int | .mk _ n _ _ _ _ _=>n
def vS:Vl->L UInt8 | .mk _ _ _ s _ _ _=>s
def eC:Vl->L Vl | .mk _ _ _ _ l _ _=>l
def ou:Vl := .mk 0 0 0 [] [] [] []
mutual
def gQ:Vl->Nat
 |.mk _ _ _ s J _ _=>1+s.length/8+iP J
def iP:L Vl->Nat
 |[]=>0
 |x::l=>gQ x+iP l
end
mutual
def vA:Vl->Vl->Bool
 |.mk k n a s l t c,.mk k' W A Q O G c'=>k==k'&&n==W&&a==A&&s==Q&&xG l O&&gJ t G&&pZ c c'
def xG:L Vl->L Vl->Bool
 |[],[]=>true
 |t::l,u::r=>vA t u&&xG l r
 |_,_=>false
end
def vG(a b:Int):Int:=if a<b then -1 else if a>b then 1 else 0
def fh(a b:L UInt8):Int:=if Op.bytesLess a b then -1 else if Op.bytesLess b a then 1 else 0
mutual
def dR:Vl->Vl->Int
 |.mk k n a s J B code,.mk k' W A Q C Y V =>
  if k=6 then fh s Q
  else if k=9 then(if vG J.length C.length=0 then jK J C else vG J.length C.length)
  else if k=11 then jK J C
  else if k=12 then(if vG n W=0 then jK J C else vG n W)
  else vG n W
def jK:L Vl->L Vl->Int
 |x::l,y::r=>if dR x y=0 then jK l r else dR x y
 |_,_=>0
end
def cz:Vl->Bool
 |.mk k n a s J B code =>
  if k=15 then decide (B.length=0/\code.length=0/\s=[])
  else if k=8 then decide (B.length=1/\code.length=0/\s=[])
  else if k=14 then decide (B.length=2/\a=0/\n=0/\s=[]/\J.length=0)
  else if k=6 then decide (B.length=0/\code.length=0/\a=0/\n=0/\J.length=0)
  else decide (B.length=0/\code.length=0/\a=0/\s=[])
def mD(x:Vl):Vl:=(eC x).getD 0 ou
def y8:L Vl->Bool
 |[]=>true
 |x::l=>match l with
  |[]=>true
  |y::_=>decide (dR (mD x) (mD y)<0)&&y8 l
mutual
def bL:Vl->Ty->Bool
 |.mk k n a s J B code,t =>
  if k≠bS t\/cz (.mk k n a s J B code)=false\/200<s.length then false
  else if k=1\/k=6 then decide (n=0/\J.length=0)
  else if k=2 then decide (0<=n/\n<=1/\J.length=0)
  else if k=3 then decide (-bN<=n/\n<=bN/\J.length=0)
  else if k=4\/k=5 then decide (0<=n/\n<=bN/\J.length=0)
  else if k=7 then decide (0<=n/\n<12/\J.length=0)
  else if k=9 then decide (n=0/\J.length<=1)&&aS J (aE t 0)
  else if k=10 then decide (n=0/\J.length<=24)&&aS J (aE t 0)
  else if k=11 then decide (n=0/\J.length=2)&&dL J (au t)
  else if k=12 then decide (0<=n/\n<=1/\J.length=1)&&aS J (aE t n.toNat)
  else if k=13 then decide (n=0/\J.length<=24)&&aS J (.mk 11 (au t))&&y8 J
  else if k=14 then dh (aE t 0) (B.getD 0 kX)&&dh (aE t 1) (B.getD 1 kX)
  else if k=15 then decide (1<=n/\n<=bN/\0<=a/\a<12/\J.length=1)&&aS J (aE t 0)
  else if k=8 then decide (0<=n/\n<=bN/\0<=a/\a<12/\J.length=1)&&bB (B.getD 0 kX)&&aS J (B.getD 0 kX)
  else false
def aS:L Vl->Ty->Bool
 |[],_=>true
 |x::l,t=>bL x t&&aS l t
def dL:L Vl->L Ty->Bool
 |x::l,t::r=>bL x t&&dL l r
 |_,_=>true
end
def nG(t:Ty)(v:Vl):Bool:=bB t&&bL v t
def fN(t:Ty):∀(l:L Vl),aS l t=true↔∀x∈l,bL x t=true
 |[]=>by simp[aS]
 |x::l=>by simp[aS,fN t l]
def aer(t:Ty)(a b:Vl):Int×Int:=if nG t a=true/\nG t b=true/\fY t=true then(dR a b,0)else(0,5)
def ZK(a b:Int):vG a b = -vG b a:=by unfold vG;split<;>split<;>(try split)<;>omega
def yx(a b:Int) : -1<=vG a b/\vG a b<=1:=by unfold vG;split<;>(try split)<;>omega
def oh{a b:Int}:vG a b=0↔a=b:=by unfold vG;split<;>(try split)<;>omega
def Ou(x y z:Int):Prop:=(x<=0->y<=0->z<=0/\(z=0↔x=0/\y=0))/\(x>=0->y>=0->z>=0/\(z=0↔x=0/\y=0))
def XL(a b c:Int):Ou (vG a b) (vG b c) (vG a c):=by
 unfold Ou vG;constructor<;>intro h1 h2<;>split at h1<;>split at h2<;>split<;>(try split at h1)<;>(try split at h2)<;>(try split)<;>omega
def Di:∀(a:L UInt8),Op.bytesLess a a=false
 |[]=>rfl
 |x::a=>by simp[Op.bytesLess,Di a]
def GB:∀(a b:L UInt8),Op.bytesLess a b=true->Op.bytesLess b a=false
 |[],[],h=>by simp[Op.bytesLess]at h
 |[],_::_,_=>rfl
 |_::_,[],h=>by simp[Op.bytesLess]at h
 |x::a,y::b,h=>by
  simp only[Op.bytesLess,aaA,aeH,aai,agA]at h;simp only[Op.bytesLess,aeQ,afQ,Bool.and_eq_false_iff];rw[ahc]at *;rcases h with h|⟨rfl,h⟩
  ·grind
  ·exact⟨bn,.inr (GB a b h)⟩
def GC:∀(a b:L UInt8),Op.bytesLess a b=false->Op.bytesLess b a=false->a=b
 |[],[],_,_=>rfl
 |[],_::_,h,_=>by simp[Op.bytesLess]at h
 |_::_,[],_,h=>by simp[Op.bytesLess]at h
 |x::a,y::b,h,h'=>by
  simp only[Op.bytesLess,aeQ,afQ,Bool.and_eq_false_iff,afs,ahc]at h h';have e:x=y:=UInt8.toNat_inj.1 bn;subst e;rw[GC a b (by simpa using h.2) (by simpa using h'.2)]
def GD:∀(a b c:L UInt8),Op.bytesLess a b=true->Op.bytesLess b c=true->Op.bytesLess a c=true
 |_,[],[],_,h=>by simp[Op.bytesLess]at h
 |_,_::_,[],_,h=>by simp[Op.bytesLess]at h
 |_,[],_::_,h,_=>by simp[Op.bytesLess]at h
 |[],_::_,_::_,_,_=>rfl
 |x::a,y::b,z::c,h,C=>by
  simp only[Op.bytesLess,aaA,aeH,aai,agA,ahc]at h C ⊢;rcases h with h|⟨rfl,h⟩
  ·grind
  ·rcases C with C|⟨rfl,C⟩
   ·left;exact C
   ·right;exact⟨Z,GD a b c h C⟩
def oM(a b:L UInt8):fh a b = -fh b a:=by
 unfold fh;cases h:Op.bytesLess a b
 ·grind
 ·rw[GB a b h];simp
def Bo(a b:L UInt8) : -1<=fh a b/\fh a b<=1:=by unfold fh;split<;>(try split)<;>omega
def xH{a b:L UInt8}:fh a b=0↔a=b:=by
 constructor
 ·intro h;unfold fh at h;cases h1:Op.bytesLess a b
  ·cases h2:Op.bytesLess b a
   ·exact GC a b h1 h2
   ·simp_all
  ·simp_all
 ·rintro rfl;simp[fh,Di]
def Cv{a b:L UInt8}:fh a b<0↔Op.bytesLess a b=true:=by
 unfold fh;cases h:Op.bytesLess a b<;>simp;split<;>omega
def Ov(a b c:L UInt8):Ou (fh a b) (fh b c) (fh a c):=by
 have Y:∀a b c,fh a b<=0->fh b c<=0->fh a c<=0/\(fh a c=0↔fh a b=0/\fh b c=0):=by
  intro a b c h1 h2;by_cases I:fh a b=0
  ·obtain rfl:=xH.1 I;exact⟨h2,by simp[I]⟩
  ·by_cases W:fh b c=0
   ·obtain rfl:=xH.1 W;exact⟨h1,by simp[W]⟩
   ·have V:=Cv.1 (show fh a b<0 by omega);have U:=Cv.1 (show fh b c<0 by omega);have T:=Cv.2 (GD _ _ _ V U);exact⟨bn,by simp[I];omega⟩
 refine⟨Y a b c,λh1 h2=>?_⟩;have:=Y c b a (by rw[oM];omega) (by rw[oM];omega);have S:=oM a b;have q:=oM b c;have n3:=oM a c;refine⟨bn,?_⟩;constructor
 ·omega
 ·omega
def Ur{x y z K Y W:Int}(h:Ou x y z)(C:x=0->y=0->Ou K Y W):Ou (if x=0 then K else x) (if y=0 then Y else y) (if z=0 then W else z):=by
 unfold Ou at *;by_cases ex:x=0
 ·omega
 ·omega
def K7:L Vl->L Ty->Prop
 |[],_=>True
 |x::l,t::r=>bL x t=true/\fY t=true/\ig t=false/\K7 l r
 |_::_,[]=>False
def dQ:∀{l:L Ty}{x:Ty},nY l=false->x∈l->ig x=false
 |[],_,_,h=>by simp at h
 |t::l,x,hb,h=>by
  simp only[nY,aeQ]at hb;rcases List.mem_cons.1 h with rfl|h
  ·exact hb.1
  ·exact dQ hb.2 h
def uh{p:Int->Bool}:∀{l:L Ty}{x:Ty},pg p l=true->x∈l->uO p x=true
 |[],_,_,h=>by simp at h
 |t::l,x,hb,h=>by
  simp only[pg,aai]at hb;rcases List.mem_cons.1 h with rfl|h
  ·exact hb.1
  ·exact uh hb.2 h
def l8{t:Ty}{i:Nat}(h:i<(au t).length):aE t i∈au t:=by
 unfold aE;rw[afa,aea h];exact ags h
def jk{t:Ty}(h:ig t=false):arity (bS t)=(au t).length/\nY (au t)=false:=by
 cases t with|mk T l=>simpa[ig,bS,au]using h
def Ab{t:Ty}(h:fY t=true):AM (bS t)=true/\pg AM (au t)=true:=by
 cases t with|mk T l=>simpa[fY,uO,bS,au]using h
def Ow{t:Ty}(A:fY t=true)(Q:ig t=false){i:Nat}(h:(i:Int)<arity (bS t)):fY (aE t i)=true/\ig (aE t i)=false:=by
 have h1:=jk Q;have h2:=Ab A;have C:aE t i∈au t:=l8 bn;exact⟨uh h2.2 C,dQ h1.2 C⟩
def Ox{l:L Vl}{t:Ty}(E:l.length<=1)(h:aS l t=true)(A:fY t=true)(Q:ig t=false):K7 l [t]:=by
 cases l with
 |nil=>trivial
 |cons x l =>
  cases l with
  |nil=>simp only[aS,aai]at h;exact⟨h.1,A,Q,trivial⟩
  |cons y l=>simp at E
def Oy:∀{l:L Vl}{ts:L Ty},l.length=ts.length->dL l ts=true->pg AM ts=true->nY ts=false->K7 l ts
 |[],_,_,_,_,_=>trivial
 |x::l,[],h,_,_,_=>by simp at h
 |x::l,t::ts,h,C,A,Q=>by
  simp only[dL,aai]at C;simp only[pg,aai]at A;simp only[nY,aeQ]at Q;exact⟨C.1,A.1,Q.1,Oy oy C.2 A.2 Q.2⟩
def Oz{T:Int}(h:AM T=true):T=1\/T=2\/T=3\/T=4\/T=5\/T=6\/T=7\/T=9\/T=11\/T=12:=by
 have h1:T≠8/\T≠10/\T≠13/\T≠14/\T≠15/\arity T>=0:=by
  simp only[AM,aai,ahd,aeH,ne_eq]at h;exact⟨h.1.1.1.1.1,h.1.1.1.1.2,h.1.1.1.2,h.1.1.2,h.1.2,h.2⟩
 have h2:=h1.2.2.2.2.2;unfold arity at h2;split at h2
 ·omega
 ·omega
def qm{k n a:Int}{s:L UInt8}{J:L Vl}{B:L Ty}{code:L Nd}{t:Ty}(h:bL (.mk k n a s J B code) t=true):k=bS t/\cz (.mk k n a s J B code)=true/\s.length<=200:=by
 by_cases A:k≠bS t\/cz (.mk k n a s J B code)=false\/200<s.length
 ·simp only[bL,if_pos A]at h;simp at h
 ·grind
def Cw{k n a:Int}{s:L UInt8}{J:L Vl}{B:L Ty}{code:L Nd}{t:Ty}(h:bL (.mk k n a s J B code) t=true)(A:fY t=true)(Q:ig t=false) :
  k=bS t/\a=0/\B=[]/\code=[]/\(k=6/\n=0/\J=[]\/(k≠6/\k≠9/\k≠11/\k≠12)/\s=[]/\J=[]\/k=9/\n=0/\s=[]/\J.length<=1/\K7 J [aE t 0] \/
   k=11/\n=0/\s=[]/\J.length=2/\K7 J (au t)\/k=12/\s=[]/\J.length=1/\K7 J [aE t n.toNat]):=by
 obtain⟨h1,h2,O⟩:=qm h;have T:=Oz (Ab A).1;rw[<- h1]at T;have S:¬(k≠bS t\/cz (.mk k n a s J B code)=false\/200<s.length):=by simp_all
 simp only[bL,if_neg S]at h;have P:=(jk Q).1;rw[<- h1]at P;simp only[cz]at h2;rcases T with rfl|rfl|rfl|rfl|rfl|rfl|rfl|rfl|rfl|rfl
 all_goals simp at h h2
 ·grind
 ·grind
 ·grind
 ·grind
 ·grind
 ·simp_all
 ·grind
 ·obtain⟨W,D,V,U⟩:=h2;have Y:=Ow A Q (i:=0) (by rw[<- h1];decide);exact⟨h1,V,W,D,.inr (.inr (.inl ⟨Z,h.1.1,U,h.1.2,Ox h.1.2 h.2 Y.1 Y.2⟩))⟩
 ·obtain⟨W,D,V,U⟩:=h2;have e:(au t).length=2:=by(have:arity 11=2:=by decide);omega
  exact⟨h1,V,W,D,.inr (.inr (.inr (.inl ⟨Z,h.1.1,U,h.1.2,Oy bn h.2 (Ab A).2 (jk Q).2⟩)))⟩
 ·obtain⟨W,D,V,U⟩:=h2;have Y:=Ow A Q (i:=n.toNat) (by(rw[<- h1];have:arity 12=2:=by decide);omega);exact⟨h1,V,W,D,.inr (.inr (.inr (.inr ⟨Z,U,h.1.2.2,Ox bn h.2 Y.1 Y.2⟩)))⟩
structure sF(x u y z:Int)(e:Prop):Prop where
 neg:x = -u
 lo : -1<=x
 hi:x<=1
 zero:x=0↔e
 ab4:Ou x y z
def sF.vG(a b c:Int){e:Prop}(S:a=b↔e):sF (vG a b) (Go.cK.vG b a) (Go.cK.vG b c) (Go.cK.vG a c) e:=⟨ZK a b,(yx a b).1,(yx a b).2,oh.trans S,XL a b c⟩
def sF.then{x u y z K V U T:Int}{e e' Y:Prop}(h:sF x u y z e)(C:x=0->y=0->sF K V U T e')(h2:x=0->K = -V /\ -1<=K/\K<=1/\(K=0↔e'))(S:e/\e'↔Y) :
  sF (if x=0 then K else x) (if u=0 then V else u) (if y=0 then U else y) (if z=0 then T else z) Y:=by
 have B:=h.neg;refine⟨?_,?_,?_,?_,Ur h.ab4 λh1 Q=>(C h1 Q).ab4⟩
 ·by_cases O:x=0
  ·rw[if_pos O,if_pos bn];exact(h2 O).1
  ·rw[if_neg O,if_neg bn];exact B
 ·by_cases O:x=0
  ·rw[if_pos O];exact(h2 O).2.1
  ·rw[if_neg O];exact h.lo
 ·by_cases O:x=0
  ·rw[if_pos O];exact(h2 O).2.2.1
  ·rw[if_neg O];exact h.hi
 ·by_cases O:x=0
  ·rw[if_pos O,(h2 O).2.2.2,<- S];simp[h.zero.1 O]
  ·rw[if_neg O,<- S];constructor
   ·intro W;exact absurd W O
   ·intro W;exact absurd (h.zero.2 W.1) O
mutual
def Bf:∀(a b c:Vl)(t:Ty),fY t=true->ig t=false->bL a t=true->bL b t=true->bL c t=true->sF (dR a b) (dR b a) (dR b c) (dR a c) (a=b)
 |.mk k n a s J K code,.mk k' n' a' s' C M D,.mk k2 n2 a2 s2 u bp bQ,t,A,Q,h1,h2,h3=>by
  obtain⟨e1,rfl,rfl,rfl,f1⟩:=Cw h1 A Q;obtain⟨e2,rfl,rfl,rfl,T⟩:=Cw h2 A Q;obtain⟨e3,rfl,rfl,rfl,B⟩:=Cw h3 A Q;obtain rfl:k'=k:=by rw[e1,e2]
  obtain rfl:k2=k':=by rw[e2,e3]
  rcases f1 with ⟨g0,g1,W⟩|⟨g0,g1,W⟩|⟨g0,g1,W,g3,S⟩|⟨g0,g1,W,g3,S⟩|⟨g0,W,g3,S⟩
  ·rcases T with ⟨H,E,p⟩|⟨H,_⟩|⟨H,_⟩|⟨H,_⟩|⟨H,_⟩<;>first|omega|skip
   rcases B with ⟨_,V,U⟩|⟨Y,_⟩|⟨Y,_⟩|⟨Y,_⟩|⟨Y,_⟩<;>first|omega|skip
   subst g1 W E p V U;simp only[dR,if_pos g0];exact⟨oM _ _,(Bo _ _).1,(Bo _ _).2,by simp[xH],Ov _ _ _⟩
  ·rcases T with ⟨H,_⟩|⟨H,E,p⟩|⟨H,_⟩|⟨H,_⟩|⟨H,_⟩<;>first|omega|skip
   rcases B with ⟨Y,_⟩|⟨Y,V,U⟩|⟨Y,_⟩|⟨Y,_⟩|⟨Y,_⟩<;>first|omega|skip
   subst g1 W E p V U;simp only[dR,if_neg g0.1,if_neg g0.2.1,if_neg g0.2.2.1,if_neg g0.2.2.2];exact sF.vG n n' n2 cS
  ·rcases T with ⟨H,_⟩|⟨H,_⟩|⟨H,E,p,m3,G⟩|⟨H,_⟩|⟨H,_⟩<;>first|omega|skip
   rcases B with ⟨Y,_⟩|⟨Y,_⟩|⟨Y,V,U,l3,P⟩|⟨Y,_⟩|⟨Y,_⟩<;>first|omega|skip
   subst g1 W E p V U g0;simp only[dR,show ¬((9:Int)=6)from by omega,aft,if_true];refine sF.then (sF.vG _ _ _ (Iff.rfl)) (λN q=>?_) (λN=>?_) (e':=J=C) ?_
   ·have O:=oh.1 N;have y2:=oh.1 q;exact uj J C u _ S G P bn bn
   ·have O:=oh.1 N;have:=uj J C C _ S G G bn Z;exact⟨this.neg,this.lo,this.hi,this.zero⟩
   ·constructor
    ·rintro⟨_,rfl⟩;rfl
    ·intro h;simp at h;exact⟨by rw[h],h⟩
  ·rcases T with ⟨H,_⟩|⟨H,_⟩|⟨H,_⟩|⟨H,E,p,m3,G⟩|⟨H,_⟩<;>first|omega|skip
   rcases B with ⟨Y,_⟩|⟨Y,_⟩|⟨Y,_⟩|⟨Y,V,U,l3,P⟩|⟨Y,_⟩<;>first|omega|skip
   subst g1 W E p V U g0;simp only[dR,show ¬((11:Int)=6)from by omega,show ¬((11:Int)=9)from by omega,aft,if_true];have:=uj J C u _ S G P bn bn;exact⟨this.neg,this.lo,this.hi,by rw[this.zero];simp,this.ab4⟩
  ·rcases T with ⟨H,_⟩|⟨H,_⟩|⟨H,_⟩|⟨H,_⟩|⟨H,p,m3,G⟩<;>first|omega|skip
   rcases B with ⟨Y,_⟩|⟨Y,_⟩|⟨Y,_⟩|⟨Y,_⟩|⟨Y,U,l3,P⟩<;>first|omega|skip
   subst W p U g0;simp only[dR,show ¬((12:Int)=6)from by omega,show ¬((12:Int)=9)from by omega,show ¬((12:Int)=11)from by omega,aft,if_true];refine sF.then (sF.vG _ _ _ (Iff.rfl)) (λN q=>?_) (λN=>?_) (e':=J=C) ?_
   ·have O:=oh.1 N;have y2:=oh.1 q;subst O y2;exact uj J C u _ S G P bn bn
   ·have O:=oh.1 N;subst O;have:=uj J C C _ S G G bn Z;exact⟨this.neg,this.lo,this.hi,this.zero⟩
   ·simp
def uj:∀(a b c:L Vl)(ts:L Ty),K7 a ts->K7 b ts->K7 c ts->a.length=b.length->b.length=c.length->sF (jK a b) (jK b a) (jK b c) (jK a c) (a=b)
 |[],[],[],ts,_,_,_,_,_=>by simp only[jK];exact⟨Z,bn,bn,cS,⟨λ_ _=>by simp,λ_ _=>by simp⟩⟩
 |[],_::_,_,_,_,_,_,h,_=>by simp at h
 |_::_,[],_,_,_,_,_,h,_=>by simp at h
 |[],[],_::_,_,_,_,_,_,h=>by simp at h
 |_::_,_::_,[],_,_,_,_,_,h=>by simp at h
 |x::a,y::b,z::c,[],h,_,_,_,_=>h.elim
 |x::a,y::b,z::c,t::ts,ha,Q,A,h1,h2=>by
  have hx:=Bf x y z t ha.2.1 ha.2.2.1 ha.1 Q.1 A.1;have I:=uj a b c ts ha.2.2.2 Q.2.2.2 A.2.2.2 acA K0;simp only[jK];refine sF.then hx (λ_ _=>I) (λ_=>⟨I.neg,I.lo,I.hi,I.zero⟩) cS
end
mutual
def aes:Vl->Vl->Int
 |.mk k n a s J B code,.mk k' q A Q C Y W =>
  if(if k=9 then(J.length:Int)else n)<(if k=9 then(C.length:Int)else q)\/Op.bytesLess s Q=true then -1
  else if(if k=9 then(J.length:Int)else n)>(if k=9 then(C.length:Int)else q)\/Op.bytesLess Q s=true then 1
  else aaq J C
def aaq:L Vl->L Vl->Int
 |x::l,y::r=>if aes x y=0 then aaq l r else aes x y
 |_,_=>0
end
mutual
def NM:Ty->Bool
 |.mk T J=>(if T=13\/T=15 then lD J else true)&&K8 J
def K8:L Ty->Bool
 |[]=>true
 |t::l=>NM t&&K8 l
end
mutual
def Ja:∀(t:Ty)(d n:Int),(fC t d n).1=true->NM t=true
 |.mk T J,d,n,h=>by
  simp only[fC]at h;split at h
  ·cases h
  ·rcases C:ey J (d+1) (n+1)with ⟨b,m⟩
   rw[C]at h;cases b
   ·cases h
   ·have:=GF J (d+1) (n+1) (by rw[C]);simp only[NM,this,afl];exact h
def GF:∀(l:L Ty)(d n:Int),(ey l d n).1=true->K8 l=true
 |[],_,_,_=>rfl
 |t::l,d,n,h=>by
  simp only[ey]at h;rcases C:fC t d n with ⟨b,m⟩
  rw[C]at h;cases b
  ·cases h
  ·have h1:=Ja t d n (by rw[C]);have h2:=GF l d m h;simp[K8,h1,h2]
end
def Qk{t:Ty}(h:bB t=true):NM t=true:=Ja t 1 0 h
def oB(k n a:Int)(J:L Vl)(B:L Ty)(t:Ty):Bool :=
  if k=1\/k=6 then decide (n=0/\J.length=0)
  else if k=2 then decide (0<=n/\n<=1/\J.length=0)
  else if k=3 then decide (-bN<=n/\n<=bN/\J.length=0)
  else if k=4\/k=5 then decide (0<=n/\n<=bN/\J.length=0)
  else if k=7 then decide (0<=n/\n<12/\J.length=0)
  else if k=9 then decide (n=0/\J.length<=1)&&aS J (aE t 0)
  else if k=10 then decide (n=0/\J.length<=24)&&aS J (aE t 0)
  else if k=11 then decide (n=0/\J.length=2)&&dL J (au t)
  else if k=12 then decide (0<=n/\n<=1/\J.length=1)&&aS J (aE t n.toNat)
  else if k=13 then decide (n=0/\J.length<=24)&&aS J (.mk 11 (au t))&&y8 J
  else if k=14 then dh (aE t 0) (B.getD 0 kX)&&dh (aE t 1) (B.getD 1 kX)
  else if k=15 then decide (1<=n/\n<=bN/\0<=a/\a<12/\J.length=1)&&aS J (aE t 0)
  else if k=8 then decide (0<=n/\n<=bN/\0<=a/\a<12/\J.length=1)&&bB (B.getD 0 kX)&&aS J (B.getD 0 kX)
  else false
def ZL(k n a:Int)(s:L UInt8)(J:L Vl)(B:L Ty)(code:L Nd)(t:Ty):bL (.mk k n a s J B code) t=((k==bS t)&&(cz (.mk k n a s J B code)&&(decide (s.length<=200)&&oB k n a J B t))):=by
 by_cases h:k≠bS t\/cz (.mk k n a s J B code)=false\/200<s.length
 ·simp only[bL,if_pos h];rcases h with h|h|h
  ·simp_all
  ·rw[h];simp
  ·grind
 ·simp only[bL,if_neg h];simp only[not_or,ne_eq,aey,agQ,Nat.not_lt]at h;rw[h.2.1,show(k==bS t)=true from by simpa using h.1,show decide (s.length<=200)=true from by simpa using h.2.2];rfl
def ahH(v:Vl)(Y W bs:Bool)(J B:Int)(V:Bool):Bool:=match v with
 |.mk _ n a s l ts code=>(Y||n==0)&&((W||a==0)&&((bs||s.isEmpty)&&(decide ((l.length:Int)=J)&&(decide ((ts.length:Int)=B)&&(V||decide (code.length=0))))))
mutual
def eV:Vl->Nd
 |.mk k n _ s J _ _ =>
  if k=1 then .mk 2 0 20 [] []
  else if k=2 then .mk 2 0 (22-n) [] []
  else if k=6 then .mk 1 0 0 s []
  else if k=9 then .mk 2 0 (27-J.length) [] (eS J)
  else if k=10 then .mk 3 0 0 [] (eS J)
  else if k=11 then .mk 2 0 23 [] (eS J)
  else if k=12 then .mk 2 0 (24+n) [] (eS J)
  else if k=13 then .mk 3 0 0 [] (nJ J)
  else .mk 0 n 0 [] []
def eS:L Vl->L Nd
 |[]=>[]
 |x::l=>eV x::eS l
def nJ:L Vl->L Nd
 |[]=>[]
 |.mk _ _ _ _ J _ _::l => .mk 2 0 28 [] (eS J)::nJ l
end
def glue(acc:L Vl):L Vl×Bool->L Vl×Bool
 |(q,true)=>(acc++q,true)
 |(_,false)=>([],false)
def qe(T:Int):Vl := .mk T 0 0 [] [] [] []
mutual
def dV:Nd->Ty->Vl×Bool
 |.mk T N P S J,t =>
  if bS t=1 then(qe 1,decide (T=2/\P=20/\J.length=0))
  else if bS t=2 then(.mk 2 (IntKind.i64.wrap (22-P)) 0 [] [] [] [],decide (T=2/\(P=21\/P=22)/\J.length=0))
  else if bS t=3\/bS t=4\/bS t=5\/bS t=7 then(.mk (bS t) N 0 [] [] [] [],decide (T=0))
  else if bS t=6 then(.mk 6 0 0 S [] [] [],decide (T=1))
  else if bS t=9 then
   if T=2/\P=27 then(qe 9,decide (J.length=0))
   else if T=2/\P=26 then(.mk 9 0 0 [] (eW J (au t)).1 [] [],(eW J (au t)).2)
   else(qe 9,false)
  else if bS t=11 then
   if T=2/\P=23 then(.mk 11 0 0 [] (eW J (au t)).1 [] [],(eW J (au t)).2)
   else(qe 11,false)
  else if bS t=12 then
   if T=2/\P=24 then(.mk 12 0 0 [] (eW J [aE t 0]).1 [] [],(eW J [aE t 0]).2)
   else if T=2/\P=25 then(.mk 12 1 0 [] (eW J [aE t 1]).1 [] [],(eW J [aE t 1]).2)
   else(qe 12,false)
  else if bS t=10 then(.mk 10 0 0 [] (eU J (aE t 0)).1 [] [],decide (T=3)&&(eU J (aE t 0)).2)
  else if bS t=13 then(.mk 13 0 0 [] (ew J (au t)).1 [] [],decide (T=3)&&(ew J (au t)).2)
  else(qe (bS t),false)
def eW:L Nd->L Ty->L Vl×Bool
 |[],[]=>([],true)
 |x::l,t::r=>if(dV x t).2=true then glue [(dV x t).1] (eW l r)else([],false)
 |[],_::_=>([],false)
 |_::_,[]=>([],false)
def eU:L Nd->Ty->L Vl×Bool
 |[],_=>([],true)
 |x::l,t=>((dV x t).1::(eU l t).1,(dV x t).2&&(eU l t).2)
def ew:L Nd->L Ty->L Vl×Bool
 |[],_=>([],true)
 |.mk T _ P _ xs::l,ts=>(.mk 11 0 0 [] (eW xs ts).1 [] []::(ew l ts).1,((eW xs ts).2&&decide (T=2/\P=28))&&(ew l ts).2)
end
def Um(a b:L Vl)(x:L Vl×Bool):glue a (glue b x)=glue (a++b) x:=by
 obtain⟨q,c⟩:=x;cases c<;>simp[glue]
def XD(x:L Vl×Bool)(h:x.2=false->x.1=[]):glue [] x=x:=by
 obtain⟨q,c⟩:=x;cases c
 ·simp at h;subst h;rfl
 ·simp[glue]
def Gy:∀(l:L Nd)(r:L Ty),(eW l r).2=false->(eW l r).1=[]
 |[],[],h=>by simp[eW]at h
 |[],_::_,_=>by simp[eW]
 |_::_,[],_=>by simp[eW]
 |x::l,t::r,h=>by
  simp only[eW]at h ⊢;by_cases O:(dV x t).2=true
  ·rw[if_pos O]at h ⊢;cases C:eW l r with
   |mk q c =>
    cases c with
    |false=>rfl
    |true=>rw[C]at h;cases h
  ·rw[if_neg O]
def Oj:∀(l:L Nd)(r:L Ty),l.length≠r.length->eW l r=([],false)
 |[],[],h=>by simp at h
 |[],_::_,_=>by simp[eW]
 |_::_,[],_=>by simp[eW]
 |x::l,t::r,h=>by
  simp only[eW,Oj l r oy];split<;>rfl
mutual
def EW:∀(v:Vl),bM (eV v)<=aM v
 |.mk k n a s J B code=>by
  have h1:=xI J;have h2:=GG J;simp only[eV,aM]
  repeat' split
  all_goals simp only[bM,aU,aad];omega
def xI:∀(l:L Vl),aU (eS l)<=aO l
 |[]=>by simp[eS,aU,aO]
 |x::l=>by
  have h1:=EW x;have h2:=xI l;simp only[eS,aU,aO];omega
def GG:∀(l:L Vl),aU (nJ l)<=aO l
 |[]=>by simp[nJ,aU,aO]
 |.mk k n a s J B code::l=>by
  have h1:=xI J;have h2:=GG l;simp only[nJ,aU,bM,aO,aM,aad];omega
end
def Us(a:L Vl)(x:L Vl×Bool):aO (glue a x).1<=aO a+aO x.1:=by
 obtain⟨q,c⟩:=x;cases c
 ·simp[glue,aO]
 ·simp only[glue];have:∀a b:L Vl,aO (a++b)=aO a+aO b:=by
   intro a b
   induction a with
   |nil=>simp[aO]
   |cons x a Y=>simp only[adU,aO,Y];omega
  rw[this];omega
mutual
def xZ:∀(n:Nd)(t:Ty),aM (dV n t).1<=bM n
 |.mk T N P S J,t=>by
  have h1:=uk J (au t);have h2:=Bp J (aE t 0);have V:=Bq J (au t);have Y:=uk J [aE t 0];have K:=uk J [aE t 1];simp only[dV,bM,qe]
  repeat' split
  all_goals simp only[aM,aO,bz,aU,aad];omega
def uk:∀(l:L Nd)(r:L Ty),aO (eW l r).1<=aU l
 |[],[]=>by simp[eW,aO]
 |[],_::_=>by simp[eW,aO]
 |_::_,[]=>by simp[eW,aO]
 |x::l,t::r=>by
  have h1:=xZ x t;have h2:=uk l r;simp only[eW,aU];split
  ·have:=Us [(dV x t).1] (eW l r);simp only[aO]at this;omega
  ·simp[aO]
def Bp:∀(l:L Nd)(t:Ty),aO (eU l t).1<=aU l
 |[],_=>by simp[eU,aO]
 |x::l,t=>by
  have h1:=xZ x t;have h2:=Bp l t;simp only[eU,aU,aO];omega
def Bq:∀(l:L Nd)(ts:L Ty),aO (ew l ts).1<=aU l
 |[],_=>by simp[ew,aO]
 |.mk T N P S xs::l,ts=>by
  have h1:=uk xs ts;have h2:=Bq l ts;simp only[ew,aU,bM,aO,aM,bz,aad];omega
end
def l7{k n a:Int}{s:L UInt8}{J:L Vl}{B:L Ty}{code:L Nd}{t:Ty}(h:bL (.mk k n a s J B code) t=true):oB k n a J B t=true:=by
 rw[ZL]at h;simp only[aai]at h;exact h.2.2.2
def XN{T:Int}(h:tM T=true):T≠8/\T≠14/\T≠15:=by
 simp only[tM,aai,ahd,ne_eq]at h;refine⟨?_,?_,?_⟩<;>(rintro rfl;simp at h)
def Jb{t:Ty}(h:uO tM t=true):tM (bS t)=true/\pg tM (au t)=true:=by
 cases t with|mk T l=>simpa[uO,bS,au]using h
def YA{l:L Vl}{ts:L Ty}(h1:l.length=2)(h2:ts.length=2)(h:dL l ts=true):∃x y u w,l=[x,y]/\ts=[u,w]/\bL x u=true/\bL y w=true:=by
 match l,ts,h1,h2 with
 |[x,y],[u,w],_,_ =>
  simp only[dL,aai]at h;exact⟨x,y,u,w,Z,Z,h.1,h.2.1⟩
def Ut{k:Int}{m:Nat}(h:arity k=(m:Int)):1<=k/\k<=15:=by
 unfold arity at h;split at h<;>omega
def ab5{x:Nd}{l:L Nd}{t:Ty}{r:L Ty}(h:(eW (x::l) (t::r)).2=true):(dV x t).2=true/\(eW l r).2=true/\(eW (x::l) (t::r)).1=(dV x t).1::(eW l r).1:=by
 simp only[eW]at h ⊢;by_cases O:(dV x t).2=true
 ·rw[if_pos O]at h ⊢;rcases C:eW l r with ⟨q,c⟩
  rw[C]at h;cases c
  ·simp[glue]at h
  ·exact⟨O,Z,by simp[glue]⟩
 ·simp_all
def Ac{x:Nd}{l:L Nd}{d:Int}(h:dI (x::l) d=0):eR x d=0/\dI l d=0:=by
 simp only[dI]at h;by_cases O:eR x d=0
 ·omega
 ·omega
mutual
def GH:∀(n:Nd)(t:Ty)(d:Int),uO tM t=true->ig t=false->(dV n t).2=true->bL (dV n t).1 t=true->eR n d=0->eV (dV n t).1=n
 |.mk T N P S J,t,d,U,G,hok,h,E=>by
  obtain⟨K,D⟩:=jT E;obtain⟨_,hkd,O,p,W,A,_,_,_⟩:=ni K;have H:=GI J;have iha:=Dj J;have ihm:=Dk J;obtain⟨OH,jG⟩:=jk G;have Q:=(Jb U).2;have hrg:=Ut OH;have hpn:=XN (Jb U).1;clear E K U G;rcases(by omega:bS t=1\/bS t=2\/bS t=3\/bS t=4\/bS t=5\/bS t=6\/bS t=7\/bS t=9\/bS t=10\/bS t=11\/bS t=12\/bS t=13)with V|V|V|V|V|V|V|V|V|V|V|V
  all_goals rw[V]at OH
  ·simp[dV,V]at hok;obtain⟨rfl,rfl,rfl⟩:=hok;obtain rfl:=O bT;obtain rfl:=W bT;simp[dV,V,eV,qe]
  ·simp[dV,V]at hok;obtain⟨rfl,SQ,rfl⟩:=hok;obtain rfl:=O bT;obtain rfl:=W bT;rcases SQ with rfl|rfl<;>simp[dV,V,eV,qe]<;>decide
  ·simp[dV,V]at hok;subst hok;obtain rfl:=p bT;obtain rfl:=W bT;obtain rfl:=List.length_eq_zero_iff.1 (A bT);simp[dV,V,eV,qe]
  ·simp[dV,V]at hok;subst hok;obtain rfl:=p bT;obtain rfl:=W bT;obtain rfl:=List.length_eq_zero_iff.1 (A bT);simp[dV,V,eV,qe]
  ·simp[dV,V]at hok;subst hok;obtain rfl:=p bT;obtain rfl:=W bT;obtain rfl:=List.length_eq_zero_iff.1 (A bT);simp[dV,V,eV,qe]
  ·simp[dV,V]at hok;subst hok;obtain rfl:=O bT;obtain rfl:=p bT;obtain rfl:=List.length_eq_zero_iff.1 (A bT);simp[dV,V,eV,qe]
  ·simp[dV,V]at hok;subst hok;obtain rfl:=p bT;obtain rfl:=W bT;obtain rfl:=List.length_eq_zero_iff.1 (A bT);simp[dV,V,eV,qe]
  ·by_cases C:T=2/\P=27
   ·obtain⟨rfl,rfl⟩:=C;simp[dV,V]at hok;subst hok;obtain rfl:=O bT;obtain rfl:=W bT;simp[dV,V,eV,qe,eS]
   ·by_cases c2:T=2/\P=26
    ·obtain⟨rfl,rfl⟩:=c2;obtain rfl:=O bT;obtain rfl:=W bT;simp[dV,V]at hok h ⊢;have Y:=l7 h;simp[oB]at Y;have ha9:arity 9=1:=by decide
     have hts:au t=[aE t 0]:=by
      match hh:au t,(show(au t).length=1 by omega)with
      |[u],_=>simp[aE,hh]
     have I:dL (eW J (au t)).1 (au t)=true:=by
      generalize eW J (au t)=q at Y;rw[hts]
      match hq:q.1,Y with
      |[],_=>simp[dL]
      |[x],Y=>simp[aS,hq]at Y;simp[dL,Y]
      |x::y::l,Y=>simp[hq]at Y
     obtain⟨M,e2,e3⟩:=H (au t) (d+1) Q jG hok I D;simp only[eV];simp only[M,e2];simp;omega
    ·simp[dV,V,C,c2]at hok
  ·simp[dV,V]at hok;obtain⟨rfl,hok⟩:=hok;obtain rfl:=O bT;obtain rfl:=p bT;obtain rfl:=W bT;simp[dV,V]at h ⊢;have Y:=l7 h;simp[oB]at Y;have ha:arity 10=1:=by decide
   have B:aE t 0∈au t:=l8 bn;have M:=iha (aE t 0) (d+1) (uh Q B) (dQ jG B) hok Y.2 D;simp[eV,M]
  ·by_cases C:T=2/\P=23
   ·obtain⟨rfl,rfl⟩:=C;obtain rfl:=O bT;obtain rfl:=W bT;simp[dV,V]at hok h ⊢;have Y:=l7 h;simp[oB]at Y;obtain⟨M,e2,e3⟩:=H (au t) (d+1) Q jG hok Y.2 D;simp[eV,M]
   ·simp[dV,V,C]at hok
  ·by_cases C:T=2/\P=24
   ·obtain⟨rfl,rfl⟩:=C;obtain rfl:=O bT;obtain rfl:=W bT;simp[dV,V]at hok h ⊢;have Y:=l7 h;simp[oB]at Y;have ha:arity 12=2:=by decide
    have B:aE t 0∈au t:=l8 bn;have I:dL (eW J [aE t 0]).1 [aE t 0]=true:=by
     generalize eW J [aE t 0]=q at Y
     match hq:q.1,Y with
     |[],_=>simp[dL]
     |[x],Y=>simp[aS,hq]at Y;simp[dL,Y]
     |x::y::l,Y=>simp[hq]at Y
    obtain⟨M,e2,e3⟩:=H [aE t 0] (d+1) (by simp only[pg,afl];exact uh Q B) ack hok I D;simp[eV,M]
   ·by_cases c2:T=2/\P=25
    ·obtain⟨rfl,rfl⟩:=c2;obtain rfl:=O bT;obtain rfl:=W bT;simp[dV,V]at hok h ⊢;have Y:=l7 h;simp[oB]at Y;have ha:arity 12=2:=by decide
     have B:aE t 1∈au t:=l8 bn;have I:dL (eW J [aE t 1]).1 [aE t 1]=true:=by
      generalize eW J [aE t 1]=q at Y
      match hq:q.1,Y with
      |[],_=>simp[dL]
      |[x],Y=>simp[aS,hq]at Y;simp[dL,Y]
      |x::y::l,Y=>simp[hq]at Y
     obtain⟨M,e2,e3⟩:=H [aE t 1] (d+1) (by simp only[pg,afl];exact uh Q B) ack hok I D;simp[eV,M]
    ·simp[dV,V,C,c2]at hok
  ·simp[dV,V]at hok;obtain⟨rfl,hok⟩:=hok;obtain rfl:=O bT;obtain rfl:=p bT;obtain rfl:=W bT;simp[dV,V]at h ⊢;have Y:=l7 h;simp[oB]at Y;have ha:arity 13=2:=by decide
   have M:=ihm (au t) (d+1) Q jG bn hok Y.1.2 D;simp[eV,M]
def GI:∀(l:L Nd)(ts:L Ty)(d:Int),pg tM ts=true->nY ts=false->(eW l ts).2=true->dL (eW l ts).1 ts=true->dI l d=0->eS (eW l ts).1=l/\(eW l ts).1.length=l.length/\l.length=ts.length
 |[],[],_,_,_,_,_,_=>by simp[eW,eS]
 |[],_::_,_,_,_,h,_,_=>by simp[eW]at h
 |_::_,[],_,_,_,h,_,_=>by simp[eW]at h
 |x::l,t::ts,d,U,G,hok,h,E=>by
  simp only[pg,aai]at U;simp only[nY,aeQ]at G;obtain⟨o1,o2,o3⟩:=ab5 hok;obtain⟨w1,w2⟩:=Ac E;rw[o3]at h ⊢;simp only[dL,aai]at h;have h1:=GH x t d U.1 G.1 o1 h.1 w1;have h2:=GI l ts d U.2 G.2 o2 h.2 w2;simp[eS,h1,h2]
def Dj:∀(l:L Nd)(t:Ty)(d:Int),uO tM t=true->ig t=false->(eU l t).2=true->aS (eU l t).1 t=true->dI l d=0->eS (eU l t).1=l
 |[],_,_,_,_,_,_,_=>by simp[eU,eS]
 |x::l,t,d,U,G,hok,h,E=>by
  obtain⟨w1,w2⟩:=Ac E;simp only[eU,aai]at hok;simp only[eU,aS,aai]at h;have h1:=GH x t d U G hok.1 h.1 w1;have h2:=Dj l t d U G hok.2 h.2 w2;simp[eU,eS,h1,h2]
def Dk:∀(l:L Nd)(ts:L Ty)(d:Int),pg tM ts=true->nY ts=false->ts.length=2->(ew l ts).2=true->aS (ew l ts).1 (.mk 11 ts)=true->dI l d=0->nJ (ew l ts).1=l
 |[],_,_,_,_,_,_,_,_=>by simp[ew,nJ]
 |.mk T N P S xs::l,ts,d,U,G,h2l,hok,h,E=>by
  obtain⟨w1,w2⟩:=Ac E;obtain⟨K,D⟩:=jT w1;obtain⟨_,hkd,O,p,W,A,_,_,_⟩:=ni K;simp only[ew,aai,aeH]at hok;obtain⟨⟨MW,rfl,rfl⟩,PB⟩:=hok;obtain rfl:=O bT;obtain rfl:=W bT;simp only[ew,aS,aai]at h;have Y:=l7 h.1;simp[oB,au]at Y;have h1:=GI xs ts (d+1) U G MW Y.2 D;have h2:=Dk l ts d U G h2l PB h.2 w2;simp[ew,nJ,h1,h2]
end
def gD(t:Ty)(n:Nd):Vl×Int:=if bB t=true/\dY n=0/\(dV n t).2=true/\bL (dV n t).1 t=true then((dV n t).1,0)else(ou,1)
def agU(t:Ty)(v:Vl):Nd×Int:=if nG t v=true/\gW t=true then(if dY (eV v)=0 then(eV v,0)else(uo,dY (eV v)))else(uo,5)
def vw(v:Vl):L UInt8×Int:=if dY (eV v)=0 then(if 200<=(eI (eV v)).length then([],4)else(5::eI (eV v),0))else([],dY (eV v))
def agV(t:Ty)(v:Vl):L UInt8×Int:=if nG t v=true/\gW t=true then vw v else([],5)
def iw(t:Ty)(s:L UInt8):Vl×Int:=match s with
 |[]=>(ou,1)
 |c::r=>if c=5/\(c::r).length<=200/\gW t=true/\(fF r).2=0 then gD t (fF r).1 else(ou,1)
def BK{t:Ty}{n:Nd}(h:(gD t n).2=0):nG t (gD t n).1=true/\dY n=0/\(gW t=true->eV (gD t n).1=n):=by
 unfold gD at h ⊢;split at h
 ·rename_i A;rw[if_pos A];have Q:ig t=false:=by
   cases Q:ig t with
   |false=>rfl
   |true =>
    have h1:=Gv t 24 300 Q;rw[I2,A.1]at h1;cases h1
  refine⟨by unfold nG;simp only[A.1,A.2.2.2];rfl,A.2.1,λY=>?_⟩;exact GH n t 1 Y Q A.2.2.1 A.2.2.2 (kf.1 A.2.1).1
 ·cases h
def xS(t:Ty)(n:Nd):aM (gD t n).1<=bM n:=by
 unfold gD;split
 ·exact xZ n t
 ·exact Gt n
end Go.cK
