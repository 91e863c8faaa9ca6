/- Package value as plain functions: size, has, compare, same; and their laws. What has of touchstoneref says, as plain functions. -/
import Derived.Test.YtlohbilpimjmmaaGreatDoorTPure
set_option linter.unusedVariables false
set_option linter.unusedSimpArgs false
namespace Go.cq
def bR:Ty->Int | .mk T _=>T
def aA:Ty->List Ty | .mk _ l=>l
def aE (t:Ty) (i:Nat):Ty:=(aA t).getD i lA
def vK:Vl->Int | .mk k _ _ _ _ _ _=>k
def vN:Vl->Int | .mk _ n _ _ _ _ _=>n
def vS:Vl->List UInt8 | .mk _ _ _ s _ _ _=>s
def eC:Vl->List Vl | .mk _ _ _ _ l _ _=>l
def oL:Vl := .mk 0 0 0 [] [] [] []
mutual
def lB:Vl->Nat
 | .mk _ _ _ s args _ _=>1+s.length/8+jj args
def jj:List Vl->Nat
 | []=>0
 | x::l=>lB x+jj l
end
mutual
def oO:Vl->Vl->Bool
 | .mk k n a s l t c,.mk k' H q P p Y W=>k==k'&&n==H&&a==q&&s==P&&gN l p&&gI t Y&&jS c W
def gN:List Vl->List Vl->Bool
 | [],[]=>true
 | t::l,u::r=>oO t u&&gN l r
 | _,_=>false
end
mutual
theorem FB:∀(t u:Vl),oO t u=true↔t=u
 | .mk k n a s l t c,.mk k' H q P p Y W=>by simp[oO,xH l p,mA t Y,vJ c W,and_assoc]
theorem xH:∀(t u:List Vl),gN t u=true↔t=u
 | [],[]=>by simp[gN]
 | [],_::_=>by simp[gN]
 | _::_,[]=>by simp[gN]
 | t::l,u::r=>by simp[gN,FB t u,xH l r]
end
theorem C0:∀(t u:List Vl),t.length≠u.length->gN t u=false
 | [],[],h=>by simp at h
 | [],_::_,_=>by simp[gN]
 | _::_,[],_=>by simp[gN]
 | t::l,u::r,h=>by simp[gN,C0 l r nu]
def ud (a b:Int):Int:=if a<b then -1 else if a>b then 1 else 0
def eA (a b:List UInt8):Int:=if Op.bytesLess a b then -1 else if Op.bytesLess b a then 1 else 0
mutual
def dx:Vl->Vl->Int
 | .mk k n a s args B V,.mk k' H q U P Y W =>
  if k=6 then eA s U
  else if k=9 then(if ud args.length P.length=0 then iY args P else ud args.length P.length)
  else if k=11 then iY args P
  else if k=12 then(if ud n H=0 then iY args P else ud n H)
  else ud n H
def iY:List Vl->List Vl->Int
 | x::l,y::r=>if dx x y=0 then iY l r else dx x y
 | _,_=>0
end
def cw:Vl->Bool
 | .mk k n a s args B H =>
  if k=15 then decide (B.length=0/\H.length=0/\s=[])
  else if k=8 then decide (B.length=1/\H.length=0/\s=[])
  else if k=14 then decide (B.length=2/\a=0/\n=0/\s=[]/\args.length=0)
  else if k=6 then decide (B.length=0/\H.length=0/\a=0/\n=0/\args.length=0)
  else decide (B.length=0/\H.length=0/\a=0/\s=[])
def lJ (x:Vl):Vl:=(eC x).getD 0 oL
def xo:List Vl->Bool
 | []=>true
 | x::l=>match l with
  | []=>true
  | y::_=>decide (dx (lJ x) (lJ y)<0)&&xo l
mutual
def bK:Vl->Ty->Bool
 | .mk k n a s args B H,t =>
  if k≠bR t\/cw (.mk k n a s args B H)=false\/200<s.length then false
  else if k=1\/k=6 then decide (n=0/\args.length=0)
  else if k=2 then decide (0<=n/\n<=1/\args.length=0)
  else if k=3 then decide (-bP<=n/\n<=bP/\args.length=0)
  else if k=4\/k=5 then decide (0<=n/\n<=bP/\args.length=0)
  else if k=7 then decide (0<=n/\n<12/\args.length=0)
  else if k=9 then decide (n=0/\args.length<=1)&&aR args (aE t 0)
  else if k=10 then decide (n=0/\args.length<=24)&&aR args (aE t 0)
  else if k=11 then decide (n=0/\args.length=2)&&cW args (aA t)
  else if k=12 then decide (0<=n/\n<=1/\args.length=1)&&aR args (aE t n.toNat)
  else if k=13 then decide (n=0/\args.length<=24)&&aR args (.mk 11 (aA t))&&xo args
  else if k=14 then cP (aE t 0) (B.getD 0 lA)&&cP (aE t 1) (B.getD 1 lA)
  else if k=15 then decide (1<=n/\n<=bP/\0<=a/\a<12/\args.length=1)&&aR args (aE t 0)
  else if k=8 then decide (0<=n/\n<=bP/\0<=a/\a<12/\args.length=1)&&bw (B.getD 0 lA)&&aR args (B.getD 0 lA)
  else false
def aR:List Vl->Ty->Bool
 | [],_=>true
 | x::l,t=>bK x t&&aR l t
def cW:List Vl->List Ty->Bool
 | x::l,t::r=>bK x t&&cW l r
 | _,_=>true
end
def pL (t:Ty) (v:Vl):Bool:=bw t&&bK v t
theorem eY (t:Ty):∀(l:List Vl),aR l t=true↔∀x∈l,bK x t=true
 | []=>by simp[aR]
 | x::l=>by simp[aR,eY t l]
def aau (t:Ty) (a b:Vl):Int×Int:=if pL t a=true/\pL t b=true/\fC t=true then(dx a b,0)else(0,5)
theorem V1 (a b:Int):ud a b = -ud b a:=by unfold ud;split<;>split<;>(try split)<;>omega
theorem wO (a b:Int) : -1<=ud a b/\ud a b<=1:=by unfold ud;split<;>(try split)<;>omega
theorem ni {a b:Int}:ud a b=0↔a=b:=by unfold ud;split<;>(try split)<;>omega
def Lj (x y z:Int):Prop:=(x<=0->y<=0->z<=0/\(z=0↔x=0/\y=0))/\(x>=0->y>=0->z>=0/\(z=0↔x=0/\y=0))
theorem Ud (a b c:Int):Lj (ud a b) (ud b c) (ud a c):=by
 unfold Lj ud;constructor<;>intro h1 h2<;>split at h1<;>split at h2<;>split<;>(try split at h1)<;>(try split at h2)<;>(try split)<;>omega
theorem BE:∀(a:List UInt8),Op.bytesLess a a=false
 | []=>rfl
 | x::a=>by simp[Op.bytesLess,BE a]
theorem Ew:∀(a b:List UInt8),Op.bytesLess a b=true->Op.bytesLess b a=false
 | [],[],h=>by simp[Op.bytesLess]at h
 | [],_::_,_=>rfl
 | _::_,[],h=>by simp[Op.bytesLess]at h
 | x::a,y::b,h=>by
  simp only[Op.bytesLess,aat,decide_eq_true_eq,aai,beq_iff_eq]at h;simp only[Op.bytesLess,Bool.or_eq_false_iff,decide_eq_false_iff_not,Bool.and_eq_false_iff];rw[UInt8.lt_iff_toNat_lt]at *;rcases h with h|⟨rfl,h⟩
  ·grind
  ·exact⟨bn,.inr (Ew a b h)⟩
theorem Ex:∀(a b:List UInt8),Op.bytesLess a b=false->Op.bytesLess b a=false->a=b
 | [],[],_,_=>rfl
 | [],_::_,h,_=>by simp[Op.bytesLess]at h
 | _::_,[],_,h=>by simp[Op.bytesLess]at h
 | x::a,y::b,h,h'=>by
  simp only[Op.bytesLess,Bool.or_eq_false_iff,decide_eq_false_iff_not,Bool.and_eq_false_iff,beq_eq_false_iff_ne,UInt8.lt_iff_toNat_lt]at h h';have e:x=y:=UInt8.toNat_inj.1 bn;subst e;rw[Ex a b (by simpa using h.2) (by simpa using h'.2)]
theorem Ey:∀(a b c:List UInt8),Op.bytesLess a b=true->Op.bytesLess b c=true->Op.bytesLess a c=true
 | _,[],[],_,h=>by simp[Op.bytesLess]at h
 | _,_::_,[],_,h=>by simp[Op.bytesLess]at h
 | _,[],_::_,h,_=>by simp[Op.bytesLess]at h
 | [],_::_,_::_,_,_=>rfl
 | x::a,y::b,z::c,h,E=>by
  simp only[Op.bytesLess,aat,decide_eq_true_eq,aai,beq_iff_eq,UInt8.lt_iff_toNat_lt]at h E ⊢;rcases h with h|⟨rfl,h⟩
  ·grind
  ·rcases E with E|⟨rfl,E⟩
   ·left;exact E
   ·right;exact⟨rfl,Ey a b c h E⟩
theorem nO (a b:List UInt8):eA a b = -eA b a:=by
 unfold eA;cases h:Op.bytesLess a b
 ·grind
 ·rw[Ew a b h];simp
theorem zN (a b:List UInt8) : -1<=eA a b/\eA a b<=1:=by unfold eA;split<;>(try split)<;>omega
theorem vL {a b:List UInt8}:eA a b=0↔a=b:=by
 constructor
 ·intro h;unfold eA at h;cases h1:Op.bytesLess a b
  ·cases h2:Op.bytesLess b a
   ·exact Ex a b h1 h2
   ·simp_all
  ·simp_all
 ·rintro rfl;simp[eA,BE]
theorem AW {a b:List UInt8}:eA a b<0↔Op.bytesLess a b=true:=by
 unfold eA;cases h:Op.bytesLess a b<;>simp;split<;>omega
theorem Lk (a b c:List UInt8):Lj (eA a b) (eA b c) (eA a c):=by
 have Y:∀a b c,eA a b<=0->eA b c<=0->eA a c<=0/\(eA a c=0↔eA a b=0/\eA b c=0):=by
  intro a b c h1 h2;by_cases C:eA a b=0
  ·obtain rfl:=vL.1 C;exact⟨h2,by simp[C]⟩
  ·by_cases U:eA b c=0
   ·obtain rfl:=vL.1 U;exact⟨h1,by simp[U]⟩
   ·have P:=AW.1 (show eA a b<0 by omega);have q:=AW.1 (show eA b c<0 by omega);have O:=AW.2 (Ey _ _ _ P q);exact⟨bn,by simp[C];omega⟩
 refine⟨Y a b c,fun h1 h2=>?_⟩;have:=Y c b a (by rw[nO];omega) (by rw[nO];omega);have K:=nO a b;have W:=nO b c;have J:=nO a c;refine⟨bn,?_⟩;constructor
 ·omega
 ·omega
theorem QO {x y z P Y W:Int} (h:Lj x y z) (E:x=0->y=0->Lj P Y W):Lj (if x=0 then P else x) (if y=0 then Y else y) (if z=0 then W else z):=by
 unfold Lj at *;by_cases ex:x=0
 ·omega
 ·omega
def IJ:List Vl->List Ty->Prop
 | [],_=>True
 | x::l,t::r=>bK x t=true/\fC t=true/\gm t=false/\IJ l r
 | _::_,[]=>False
theorem dr:∀{l:List Ty} {x:Ty},mD l=false->x∈l->gm x=false
 | [],_,_,h=>by simp at h
 | t::l,x,hb,h=>by
  simp only[mD,Bool.or_eq_false_iff]at hb;rcases List.mem_cons.1 h with rfl|h
  ·exact hb.1
  ·exact dr hb.2 h
theorem rP {p:Int->Bool}:∀{l:List Ty} {x:Ty},oa p l=true->x∈l->sL p x=true
 | [],_,_,h=>by simp at h
 | t::l,x,hb,h=>by
  simp only[oa,aai]at hb;rcases List.mem_cons.1 h with rfl|h
  ·exact hb.1
  ·exact rP hb.2 h
theorem kS {t:Ty} {i:Nat} (h:i<(aA t).length):aE t i∈aA t:=by
 unfold aE;rw[List.getD_eq_getElem?_getD,List.getElem?_eq_getElem h];exact List.getElem_mem h
theorem iH {t:Ty} (h:gm t=false):arity (bR t)=(aA t).length/\mD (aA t)=false:=by
 cases t with|mk T l=>simpa[gm,bR,aA]using h
theorem yj {t:Ty} (h:fC t=true):yS (bR t)=true/\oa yS (aA t)=true:=by
 cases t with|mk T l=>simpa[fC,sL,bR,aA]using h
theorem Ll {t:Ty} (E:fC t=true) (G:gm t=false) {i:Nat} (h:(i:Int)<arity (bR t)):fC (aE t i)=true/\gm (aE t i)=false:=by
 have h1:=iH G;have h2:=yj E;have M:aE t i∈aA t:=kS bn;exact⟨rP h2.2 M,dr h1.2 M⟩
theorem Lm {l:List Vl} {t:Ty} (A:l.length<=1) (h:aR l t=true) (E:fC t=true) (G:gm t=false):IJ l [t]:=by
 cases l with
 | nil=>trivial
 | cons x l =>
  cases l with
  | nil=>simp only[aR,aai]at h;exact⟨h.1,E,G,trivial⟩
  | cons y l=>simp at A
theorem Ln:∀{l:List Vl} {ts:List Ty},l.length=ts.length->cW l ts=true->oa yS ts=true->mD ts=false->IJ l ts
 | [],_,_,_,_,_=>trivial
 | x::l,[],h,_,_,_=>by simp at h
 | x::l,t::ts,h,I,E,G=>by
  simp only[cW,aai]at I;simp only[oa,aai]at E;simp only[mD,Bool.or_eq_false_iff]at G;exact⟨I.1,E.1,G.1,Ln nu I.2 E.2 G.2⟩
theorem Lo {T:Int} (h:yS T=true):T=1\/T=2\/T=3\/T=4\/T=5\/T=6\/T=7\/T=9\/T=11\/T=12:=by
 have h1:T≠8/\T≠10/\T≠13/\T≠14/\T≠15/\arity T>=0:=by
  simp only[yS,aai,bne_iff_ne,decide_eq_true_eq,ne_eq]at h;exact⟨h.1.1.1.1.1,h.1.1.1.1.2,h.1.1.1.2,h.1.1.2,h.1.2,h.2⟩
 have h2:=h1.2.2.2.2.2;unfold arity at h2;split at h2
 ·omega
 ·omega
theorem oZ {k n a:Int} {s:List UInt8} {args:List Vl} {B:List Ty} {H:List Nd} {t:Ty} (h:bK (.mk k n a s args B H) t=true):k=bR t/\cw (.mk k n a s args B H)=true/\s.length<=200:=by
 by_cases E:k≠bR t\/cw (.mk k n a s args B H)=false\/200<s.length
 ·simp only[bK,if_pos E]at h;simp at h
 ·grind
theorem AX {k n a:Int} {s:List UInt8} {args:List Vl} {B:List Ty} {H:List Nd} {t:Ty} (h:bK (.mk k n a s args B H) t=true) (E:fC t=true) (G:gm t=false) :
  k=bR t/\a=0/\B=[]/\H=[]/\(k=6/\n=0/\args=[]\/(k≠6/\k≠9/\k≠11/\k≠12)/\s=[]/\args=[]\/k=9/\n=0/\s=[]/\args.length<=1/\IJ args [aE t 0] \/
   k=11/\n=0/\s=[]/\args.length=2/\IJ args (aA t)\/k=12/\s=[]/\args.length=1/\IJ args [aE t n.toNat]):=by
 obtain⟨h1,h2,P⟩:=oZ h;have D:=Lo (yj E).1;rw[<- h1]at D;have T:¬(k≠bR t\/cw (.mk k n a s args B H)=false\/200<s.length):=by simp_all
 simp only[bK,if_neg T]at h;have Q:=(iH G).1;rw[<- h1]at Q;simp only[cw]at h2;rcases D with rfl|rfl|rfl|rfl|rfl|rfl|rfl|rfl|rfl|rfl
 all_goals simp at h h2
 ·grind
 ·grind
 ·grind
 ·grind
 ·grind
 ·simp_all
 ·grind
 ·obtain⟨S,U,W,V⟩:=h2;have Y:=Ll E G (i:=0) (by rw[<- h1];decide);exact⟨h1,W,S,U,.inr (.inr (.inl ⟨rfl,h.1.1,V,h.1.2,Lm h.1.2 h.2 Y.1 Y.2⟩))⟩
 ·obtain⟨S,U,W,V⟩:=h2;have e:(aA t).length=2:=by(have:arity 11=2:=by decide);omega
  exact⟨h1,W,S,U,.inr (.inr (.inr (.inl ⟨rfl,h.1.1,V,h.1.2,Ln bn h.2 (yj E).2 (iH G).2⟩)))⟩
 ·obtain⟨S,U,W,V⟩:=h2;have Y:=Ll E G (i:=n.toNat) (by(rw[<- h1];have:arity 12=2:=by decide);omega);exact⟨h1,W,S,U,.inr (.inr (.inr (.inr ⟨rfl,V,h.1.2.2,Lm bn h.2 Y.1 Y.2⟩)))⟩
structure qU (x u y z:Int) (e:Prop):Prop where
 neg:x = -u
 lo : -1<=x
 hi:x<=1
 zero:x=0↔e
 VB:Lj x y z
theorem qU.ud (a b c:Int) {e:Prop} (P:a=b↔e):qU (ud a b) (Go.cq.ud b a) (Go.cq.ud b c) (Go.cq.ud a c) e:=⟨V1 a b,(wO a b).1,(wO a b).2,ni.trans P,Ud a b c⟩
theorem qU.then {x u y z P W U T:Int} {e e' Y:Prop} (h:qU x u y z e) (E:x=0->y=0->qU P W U T e') (h2:x=0->P = -W /\ -1<=P/\P<=1/\(P=0↔e')) (S:e/\e'↔Y) :
  qU (if x=0 then P else x) (if u=0 then W else u) (if y=0 then U else y) (if z=0 then T else z) Y:=by
 have Q:=h.neg;refine⟨?_,?_,?_,?_,QO h.VB fun h1 N=>(E h1 N).VB⟩
 ·by_cases O:x=0
  ·rw[if_pos O,if_pos bn];exact(h2 O).1
  ·rw[if_neg O,if_neg bn];exact Q
 ·by_cases O:x=0
  ·rw[if_pos O];exact(h2 O).2.1
  ·rw[if_neg O];exact h.lo
 ·by_cases O:x=0
  ·rw[if_pos O];exact(h2 O).2.2.1
  ·rw[if_neg O];exact h.hi
 ·by_cases O:x=0
  ·rw[if_pos O,(h2 O).2.2.2,<- S];simp[h.zero.1 O]
  ·rw[if_neg O,<- S];constructor
   ·intro V;exact absurd V O
   ·intro V;exact absurd (h.zero.2 V.1) O
mutual
theorem zB:∀(a b c:Vl) (t:Ty),fC t=true->gm t=false->bK a t=true->bK b t=true->bK c t=true->qU (dx a b) (dx b a) (dx b c) (dx a c) (a=b)
 | .mk k n a s args D p,.mk k' n' a' s' P H C,.mk k2 n2 a2 s2 V bq bJ,t,E,G,h1,h2,h3=>by
  obtain⟨e1,rfl,rfl,rfl,f1⟩:=AX h1 E G;obtain⟨e2,rfl,rfl,rfl,Q⟩:=AX h2 E G;obtain⟨e3,rfl,rfl,rfl,N⟩:=AX h3 E G;obtain rfl:k'=k:=by rw[e1,e2]
  obtain rfl:k2=k':=by rw[e2,e3]
  rcases f1 with ⟨g0,g1,Y⟩|⟨g0,g1,Y⟩|⟨g0,g1,Y,g3,S⟩|⟨g0,g1,Y,g3,S⟩|⟨g0,Y,g3,S⟩
  ·rcases Q with ⟨u,U,I⟩|⟨u,_⟩|⟨u,_⟩|⟨u,_⟩|⟨u,_⟩<;>first|omega|skip
   rcases N with ⟨_,T,q⟩|⟨M,_⟩|⟨M,_⟩|⟨M,_⟩|⟨M,_⟩<;>first|omega|skip
   subst g1 Y U I T q;simp only[dx,if_pos g0];exact⟨nO _ _,(zN _ _).1,(zN _ _).2,by simp[vL],Lk _ _ _⟩
  ·rcases Q with ⟨u,_⟩|⟨u,U,I⟩|⟨u,_⟩|⟨u,_⟩|⟨u,_⟩<;>first|omega|skip
   rcases N with ⟨M,_⟩|⟨M,T,q⟩|⟨M,_⟩|⟨M,_⟩|⟨M,_⟩<;>first|omega|skip
   subst g1 Y U I T q;simp only[dx,if_neg g0.1,if_neg g0.2.1,if_neg g0.2.2.1,if_neg g0.2.2.2];exact qU.ud n n' n2 c9
  ·rcases Q with ⟨u,_⟩|⟨u,_⟩|⟨u,U,I,m3,W⟩|⟨u,_⟩|⟨u,_⟩<;>first|omega|skip
   rcases N with ⟨M,_⟩|⟨M,_⟩|⟨M,T,q,l3,K⟩|⟨M,_⟩|⟨M,_⟩<;>first|omega|skip
   subst g1 Y U I T q g0;simp only[dx,show ¬((9:Int)=6)from by omega,if_false,if_true];refine qU.then (qU.ud _ _ _ (Iff.rfl)) (fun O A=>?_) (fun O=>?_) (e':=args=P) ?_
   ·have B:=ni.1 O;have y2:=ni.1 A;exact sJ args P V _ S W K bn bn
   ·have B:=ni.1 O;have:=sJ args P P _ S W W bn rfl;exact⟨this.neg,this.lo,this.hi,this.zero⟩
   ·constructor
    ·rintro⟨_,rfl⟩;rfl
    ·intro h;simp at h;exact⟨by rw[h],h⟩
  ·rcases Q with ⟨u,_⟩|⟨u,_⟩|⟨u,_⟩|⟨u,U,I,m3,W⟩|⟨u,_⟩<;>first|omega|skip
   rcases N with ⟨M,_⟩|⟨M,_⟩|⟨M,_⟩|⟨M,T,q,l3,K⟩|⟨M,_⟩<;>first|omega|skip
   subst g1 Y U I T q g0;simp only[dx,show ¬((11:Int)=6)from by omega,show ¬((11:Int)=9)from by omega,if_false,if_true];have:=sJ args P V _ S W K bn bn;exact⟨this.neg,this.lo,this.hi,by rw[this.zero];simp,this.VB⟩
  ·rcases Q with ⟨u,_⟩|⟨u,_⟩|⟨u,_⟩|⟨u,_⟩|⟨u,I,m3,W⟩<;>first|omega|skip
   rcases N with ⟨M,_⟩|⟨M,_⟩|⟨M,_⟩|⟨M,_⟩|⟨M,q,l3,K⟩<;>first|omega|skip
   subst Y I q g0;simp only[dx,show ¬((12:Int)=6)from by omega,show ¬((12:Int)=9)from by omega,show ¬((12:Int)=11)from by omega,if_false,if_true];refine qU.then (qU.ud _ _ _ (Iff.rfl)) (fun O A=>?_) (fun O=>?_) (e':=args=P) ?_
   ·have B:=ni.1 O;have y2:=ni.1 A;subst B y2;exact sJ args P V _ S W K bn bn
   ·have B:=ni.1 O;subst B;have:=sJ args P P _ S W W bn rfl;exact⟨this.neg,this.lo,this.hi,this.zero⟩
   ·simp
theorem sJ:∀(a b c:List Vl) (ts:List Ty),IJ a ts->IJ b ts->IJ c ts->a.length=b.length->b.length=c.length->qU (iY a b) (iY b a) (iY b c) (iY a c) (a=b)
 | [],[],[],ts,_,_,_,_,_=>by simp only[iY];exact⟨rfl,bn,bn,c9,⟨fun _ _=>by simp,fun _ _=>by simp⟩⟩
 | [],_::_,_,_,_,_,_,h,_=>by simp at h
 | _::_,[],_,_,_,_,_,h,_=>by simp at h
 | [],[],_::_,_,_,_,_,_,h=>by simp at h
 | _::_,_::_,[],_,_,_,_,_,h=>by simp at h
 | x::a,y::b,z::c,[],h,_,_,_,_=>h.elim
 | x::a,y::b,z::c,t::ts,ha,G,E,h1,h2=>by
  have hx:=zB x y z t ha.2.1 ha.2.2.1 ha.1 G.1 E.1;have J:=sJ a b c ts ha.2.2.2 G.2.2.2 E.2.2.2 Um Ab;simp only[iY];refine qU.then hx (fun _ _=>J) (fun _=>⟨J.neg,J.lo,J.hi,J.zero⟩) c9
end
mutual
def aav:Vl->Vl->Int
 | .mk k n a s args B H,.mk k' V q U P Y W =>
  if(if k=9 then(args.length:Int)else n)<(if k=9 then(P.length:Int)else V)\/Op.bytesLess s U=true then -1
  else if(if k=9 then(args.length:Int)else n)>(if k=9 then(P.length:Int)else V)\/Op.bytesLess U s=true then 1
  else WR args P
def WR:List Vl->List Vl->Int
 | x::l,y::r=>if aav x y=0 then WR l r else aav x y
 | _,_=>0
end
end Go.cq
namespace Go.cq
mutual
def Kz:Ty->Bool
 | .mk T args=>(if T=13\/T=15 then kj args else true)&&IK args
def IK:List Ty->Bool
 | []=>true
 | t::l=>Kz t&&IK l
end
mutual
theorem GH:∀(t:Ty) (d n:Int),(eN t d n).1=true->Kz t=true
 | .mk T args,d,n,h=>by
  simp only[eN]at h;split at h
  ·cases h
  ·rcases I:dL args (d+1) (n+1)with ⟨b,m⟩
   rw[I]at h;cases b
   ·cases h
   ·have:=Ez args (d+1) (n+1) (by rw[I]);simp only[Kz,this,Bool.and_true];exact h
theorem Ez:∀(l:List Ty) (d n:Int),(dL l d n).1=true->IK l=true
 | [],_,_,_=>rfl
 | t::l,d,n,h=>by
  simp only[dL]at h;rcases I:eN t d n with ⟨b,m⟩
  rw[I]at h;cases b
  ·cases h
  ·have h1:=GH t d n (by rw[I]);have h2:=Ez l d m h;simp[IK,h1,h2]
end
theorem M5 {t:Ty} (h:bw t=true):Kz t=true:=GH t 1 0 h
def nr (k n a:Int) (args:List Vl) (B:List Ty) (t:Ty):Bool :=
  if k=1\/k=6 then decide (n=0/\args.length=0)
  else if k=2 then decide (0<=n/\n<=1/\args.length=0)
  else if k=3 then decide (-bP<=n/\n<=bP/\args.length=0)
  else if k=4\/k=5 then decide (0<=n/\n<=bP/\args.length=0)
  else if k=7 then decide (0<=n/\n<12/\args.length=0)
  else if k=9 then decide (n=0/\args.length<=1)&&aR args (aE t 0)
  else if k=10 then decide (n=0/\args.length<=24)&&aR args (aE t 0)
  else if k=11 then decide (n=0/\args.length=2)&&cW args (aA t)
  else if k=12 then decide (0<=n/\n<=1/\args.length=1)&&aR args (aE t n.toNat)
  else if k=13 then decide (n=0/\args.length<=24)&&aR args (.mk 11 (aA t))&&xo args
  else if k=14 then cP (aE t 0) (B.getD 0 lA)&&cP (aE t 1) (B.getD 1 lA)
  else if k=15 then decide (1<=n/\n<=bP/\0<=a/\a<12/\args.length=1)&&aR args (aE t 0)
  else if k=8 then decide (0<=n/\n<=bP/\0<=a/\a<12/\args.length=1)&&bw (B.getD 0 lA)&&aR args (B.getD 0 lA)
  else false
theorem UB (k n a:Int) (s:List UInt8) (args:List Vl) (B:List Ty) (H:List Nd) (t:Ty):bK (.mk k n a s args B H) t=((k==bR t)&&(cw (.mk k n a s args B H)&&(decide (s.length<=200)&&nr k n a args B t))):=by
 by_cases h:k≠bR t\/cw (.mk k n a s args B H)=false\/200<s.length
 ·simp only[bK,if_pos h];rcases h with h|h|h
  ·simp_all
  ·rw[h];simp
  ·grind
 ·simp only[bK,if_neg h];simp only[not_or,ne_eq,Decidable.not_not,Bool.not_eq_false,Nat.not_lt]at h;rw[h.2.1,show(k==bR t)=true from by simpa using h.1,show decide (s.length<=200)=true from by simpa using h.2.2];rfl
def aej (v:Vl) (Y W bs:Bool) (args B:Int) (V:Bool):Bool:=match v with
 | .mk _ n a s l ts H=>(Y||n==0)&&((W||a==0)&&((bs||s.isEmpty)&&(decide ((l.length:Int)=args)&&(decide ((ts.length:Int)=B)&&(V||decide (H.length=0))))))
end Go.cq
