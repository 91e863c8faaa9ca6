/- Package value as plain functions: -/
import Derived.Test.YtdnpapgijbhofaaGreatDoorTPureRt
set_option linter.defProp false
set_option linter.unusedVariables false
set_option linter.unusedSimpArgs false
namespace Go.cB
def cq:Ty->Int | .mk T _=>T
def aK:Ty->L Ty | .mk _ l=>l
def aG(t:Ty)(i:Nat):Ty:=(aK t).getD i iY
def vK:Vl->Int | .mk k _ _ _ _ _ _=>k
def vN:Vl->Int | .mk _ n _ _ _ _ _=>n
def vS:Vl->L UInt8 | .mk _ _ _ s _ _ _=>s
def di:Vl->L Vl | .mk _ _ _ _ l _ _=>l
def qp:Vl := .mk 0 0 0 [] [] [] []
mutual
def lp:Vl->Nat
 |.mk _ _ _ s args _ _=>1+s.length/8+iU args
def iU:L Vl->Nat
 |[]=>0
 |x::l=>lp x+iU l
end
mutual
def O4:Vl->Vl->Bool
 |.mk k n a s l t c,.mk k' K p Y V W U=>k==k'&&n==K&&a==p&&s==Y&&IP l V&&gO t W&&zj c U
def IP:L Vl->L Vl->Bool
 |[],[]=>true
 |t::l,u::r=>O4 t u&&IP l r
 |_,_=>false
end
def tN(a b:Int):Int:=if a<b then -1 else if a>b then 1 else 0
def eA(a b:L UInt8):Int:=if Op.bytesLess a b then -1 else if Op.bytesLess b a then 1 else 0
mutual
def de:Vl->Vl->Int
 |.mk k n a s args types H,.mk k' K p A M Y W =>
  if k=6 then eA s A
  else if k=9 then(if tN args.length M.length=0 then iL args M else tN args.length M.length)
  else if k=11 then iL args M
  else if k=12 then(if tN n K=0 then iL args M else tN n K)
  else tN n K
def iL:L Vl->L Vl->Int
 |x::l,y::r=>if de x y=0 then iL l r else de x y
 |_,_=>0
end
def bX:Vl->Bool
 |.mk k n a s args types H =>
  if k=15 then decide (types.length=0/\H.length=0/\s=[])
  else if k=8 then decide (types.length=1/\H.length=0/\s=[])
  else if k=14 then decide (types.length=2/\a=0/\n=0/\s=[]/\args.length=0)
  else if k=6 then decide (types.length=0/\H.length=0/\a=0/\n=0/\args.length=0)
  else decide (types.length=0/\H.length=0/\a=0/\s=[])
def lH(x:Vl):Vl:=(di x).getD 0 qp
def xX:L Vl->Bool
 |[]=>true
 |x::l=>match l with
  |[]=>true
  |y::_=>decide (de (lH x) (lH y)<0)&&xX l
mutual
def bz:Vl->Ty->Bool
 |.mk k n a s args types H,t =>
  if k≠cq t\/bX (.mk k n a s args types H)=false\/200<s.length then false
  else if k=1\/k=6 then decide (n=0/\args.length=0)
  else if k=2 then decide (0<=n/\n<=1/\args.length=0)
  else if k=3 then decide (-bF<=n/\n<=bF/\args.length=0)
  else if k=4\/k=5 then decide (0<=n/\n<=bF/\args.length=0)
  else if k=7 then decide (0<=n/\n<12/\args.length=0)
  else if k=9 then decide (n=0/\args.length<=1)&&aJ args (aG t 0)
  else if k=10 then decide (n=0/\args.length<=24)&&aJ args (aG t 0)
  else if k=11 then decide (n=0/\args.length=2)&&cL args (aK t)
  else if k=12 then decide (0<=n/\n<=1/\args.length=1)&&aJ args (aG t n.toNat)
  else if k=13 then decide (n=0/\args.length<=24)&&aJ args (.mk 11 (aK t))&&xX args
  else if k=14 then cw (aG t 0) (types.getD 0 iY)&&cw (aG t 1) (types.getD 1 iY)
  else if k=15 then decide (1<=n/\n<=bF/\0<=a/\a<12/\args.length=1)&&aJ args (aG t 0)
  else if k=8 then decide (0<=n/\n<=bF/\0<=a/\a<12/\args.length=1)&&bg (types.getD 0 iY)&&aJ args (types.getD 0 iY)
  else false
def aJ:L Vl->Ty->Bool
 |[],_=>true
 |x::l,t=>bz x t&&aJ l t
def cL:L Vl->L Ty->Bool
 |x::l,t::r=>bz x t&&cL l r
 |_,_=>true
end
def pF(t:Ty)(v:Vl):Bool:=bg t&&bz v t
def dM(t:Ty):∀(l:L Vl),aJ l t=true↔∀x∈l,bz x t=true
 |[]=>by simp[aJ]
 |x::l=>by simp[aJ,dM t l]
def aac(t:Ty)(a b:Vl):Int×Int:=if pF t a=true/\pF t b=true/\eJ t=true then(de a b,0)else(0,5)
def VV(a b:Int):tN a b = -tN b a:=by unfold tN;split<;>split<;>(try split)<;>omega
def v8(a b:Int) : -1<=tN a b/\tN a b<=1:=by unfold tN;split<;>(try split)<;>omega
def mP{a b:Int}:tN a b=0↔a=b:=by unfold tN;split<;>(try split)<;>omega
def Lj(x y z:Int):Prop:=(x<=0->y<=0->z<=0/\(z=0↔x=0/\y=0))/\(x>=0->y>=0->z>=0/\(z=0↔x=0/\y=0))
def T9(a b c:Int):Lj (tN a b) (tN b c) (tN a c):=by unfold Lj tN;constructor<;>intro h1 h2<;>split at h1<;>split at h2<;>split<;>(try split at h1)<;>(try split at h2)<;>(try split)<;>omega
def Br:∀(a:L UInt8),Op.bytesLess a a=false
 |[]=>rfl
 |x::a=>by simp[Op.bytesLess,Br a]
def Ed:∀(a b:L UInt8),Op.bytesLess a b=true->Op.bytesLess b a=false
 |[],[],h=>by simp[Op.bytesLess]at h
 |[],_::_,_=>rfl
 |_::_,[],h=>by simp[Op.bytesLess]at h
 |x::a,y::b,h=>by
  simp only[Op.bytesLess,Bool.or_eq_true,abU,aak,beq_iff_eq]at h;simp only[Op.bytesLess,abW,ada,Bool.and_eq_false_iff];rw[adC]at *;rcases h with h|⟨rfl,h⟩
  grind;exact⟨bn,.inr (Ed a b h)⟩
def Ee:∀(a b:L UInt8),Op.bytesLess a b=false->Op.bytesLess b a=false->a=b
 |[],[],_,_=>rfl
 |[],_::_,h,_=>by simp[Op.bytesLess]at h
 |_::_,[],_,h=>by simp[Op.bytesLess]at h
 |x::a,y::b,h,h'=>by simp only[Op.bytesLess,abW,ada,adC]at h h';have e:x=y:=UInt8.toNat_inj.1 bn;subst e;rw[Ee a b (by simpa using h.2) (by simpa using h'.2)]
def Ef:∀(a b c:L UInt8),Op.bytesLess a b=true->Op.bytesLess b c=true->Op.bytesLess a c=true
 |_,[],[],_,h=>by simp[Op.bytesLess]at h
 |_,_::_,[],_,h=>by simp[Op.bytesLess]at h
 |_,[],_::_,h,_=>by simp[Op.bytesLess]at h
 |[],_::_,_::_,_,_=>rfl
 |x::a,y::b,z::c,h,O=>by
  simp only[Op.bytesLess,Bool.or_eq_true,abU,aak,beq_iff_eq,adC]at h O ⊢;rcases h with h|⟨rfl,h⟩
  grind;rcases O with O|⟨rfl,O⟩
  omega;right;exact⟨Z,Ef a b c h O⟩
def nC(a b:L UInt8):eA a b = -eA b a:=by unfold eA;cases h:Op.bytesLess a b;grind;rw[Ed a b h];simp
def zq(a b:L UInt8) : -1<=eA a b/\eA a b<=1:=by unfold eA;split<;>(try split)<;>omega
def vi{a b:L UInt8}:eA a b=0↔a=b:=by constructor;intro h;unfold eA at h;cases h1:Op.bytesLess a b;cases h2:Op.bytesLess b a;exact Ee a b h1 h2;grind;grind;rintro rfl;simp[eA,Br]
def AI{a b:L UInt8}:eA a b<0↔Op.bytesLess a b=true:=by unfold eA;grind
def Lk(a b c:L UInt8):Lj (eA a b) (eA b c) (eA a c):=by
 have Y:∀a b c,eA a b<=0->eA b c<=0->eA a c<=0/\(eA a c=0↔eA a b=0/\eA b c=0):=by intro a b c h1 h2;by_cases B:eA a b=0;obtain rfl:=vi.1 B;omega;by_cases W:eA b c=0;obtain rfl:=vi.1 W;omega;have K:=AI.1 (show eA a b<0 by omega);have E:=AI.1 (show eA b c<0 by omega);have V:=AI.2 (Ef _ _ _ K E);omega
 refine⟨Y a b c,λh1 h2=>?_⟩;have:=Y c b a (by rw[nC];omega) (by rw[nC];omega);have I:=nC a b;have U:=nC b c;have D:=nC a c;omega
def Qs{x y z u Y W:Int}(h:Lj x y z)(O:x=0->y=0->Lj u Y W):Lj (if x=0 then u else x) (if y=0 then Y else y) (if z=0 then W else z):=by unfold Lj at *;by_cases ex:x=0;omega;omega
def IQ:L Vl->L Ty->Prop
 |[],_=>True
 |x::l,t::r=>bz x t=true/\eJ t=true/\fY t=false/\IQ l r
 |_::_,[]=>False
def cN:∀{l:L Ty}{x:Ty},mJ l=false->x∈l->fY x=false
 |[],_,_,h=>by simp at h
 |t::l,x,hb,h=>by
  simp only[mJ,abW]at hb;rcases List.mem_cons.1 h with rfl|h
  grind;exact cN hb.2 h
def su{p:Int->Bool}:∀{l:L Ty}{x:Ty},mo p l=true->x∈l->qU p x=true
 |[],_,_,h=>by simp at h
 |t::l,x,hb,h=>by
  simp only[mo,aak]at hb;rcases List.mem_cons.1 h with rfl|h
  grind;exact su hb.2 h
def kG{t:Ty}{i:Nat}(h:i<(aK t).length):aG t i∈aK t:=by unfold aG;rw[abV,abe h];exact adw h
def gH{t:Ty}(h:fY t=false):arity (cq t)=(aK t).length/\mJ (aK t)=false:=by cases t with|mk T l=>simpa[fY,cq,aK]using h
def xS{t:Ty}(h:eJ t=true):wG (cq t)=true/\mo wG (aK t)=true:=by cases t with|mk T l=>simpa[eJ,qU,cq,aK]using h
def Ll{t:Ty}(D:eJ t=true)(A:fY t=false){i:Nat}(h:(i:Int)<arity (cq t)):eJ (aG t i)=true/\fY (aG t i)=false:=by have h1:=gH A;have h2:=xS D;have T:aG t i∈aK t:=kG bn;exact⟨su h2.2 T,cN h1.2 T⟩
def Lm{l:L Vl}{t:Ty}(V:l.length<=1)(h:aJ l t=true)(D:eJ t=true)(A:fY t=false):IQ l [t]:=by
 cases l with
 |nil=>trivial
 |cons x l =>
  cases l with
  |nil=>simp only[aJ,aak]at h;exact⟨h.1,D,A,trivial⟩
  |cons y l=>simp at V
def Ln:∀{l:L Vl}{ts:L Ty},l.length=ts.length->cL l ts=true->mo wG ts=true->mJ ts=false->IQ l ts
 |[],_,_,_,_,_=>trivial
 |x::l,[],h,_,_,_=>by simp at h
 |x::l,t::ts,h,A,D,Y=>by simp only[cL,aak]at A;simp only[mo,aak]at D;simp only[mJ,abW]at Y;exact⟨A.1,D.1,Y.1,Ln nW A.2 D.2 Y.2⟩
def Lo{T:Int}(h:wG T=true):T=1\/T=2\/T=3\/T=4\/T=5\/T=6\/T=7\/T=9\/T=11\/T=12:=by
 have h1:T≠8/\T≠10/\T≠13/\T≠14/\T≠15/\arity T>=0:=by simp only[wG,aak,adL,abU]at h;omega
 have h2:=h1.2.2.2.2.2;unfold arity at h2;omega
def oS{k n a:Int}{s:L UInt8}{args:L Vl}{types:L Ty}{H:L Nd}{t:Ty}(h:bz (.mk k n a s args types H) t=true):k=cq t/\bX (.mk k n a s args types H)=true/\s.length<=200:=by by_cases D:k≠cq t\/bX (.mk k n a s args types H)=false\/200<s.length;simp only[bz,if_pos D]at h;simp at h;grind
def AJ{k n a:Int}{s:L UInt8}{args:L Vl}{types:L Ty}{H:L Nd}{t:Ty}(h:bz (.mk k n a s args types H) t=true)(D:eJ t=true)(A:fY t=false) :
  k=cq t/\a=0/\types=[]/\H=[]/\(k=6/\n=0/\args=[]\/(k≠6/\k≠9/\k≠11/\k≠12)/\s=[]/\args=[]\/k=9/\n=0/\s=[]/\args.length<=1/\IQ args [aG t 0] \/
   k=11/\n=0/\s=[]/\args.length=2/\IQ args (aK t)\/k=12/\s=[]/\args.length=1/\IQ args [aG t n.toNat]):=by
 obtain⟨h1,h2,Q⟩:=oS h;have E:=Lo (xS D).1;rw[<- h1]at E;have T:¬(k≠cq t\/bX (.mk k n a s args types H)=false\/200<s.length):=by simp_all
 simp only[bz,if_neg T]at h;have S:=(gH A).1;rw[<- h1]at S;simp only[bX]at h2;rcases E with rfl|rfl|rfl|rfl|rfl|rfl|rfl|rfl|rfl|rfl
 all_goals simp at h h2
 grind;grind;grind;grind;grind;simp_all;grind;obtain⟨W,J,V,U⟩:=h2;have Y:=Ll D A (i:=0) (by rw[<- h1];decide);exact⟨h1,V,W,J,.inr (.inr (.inl ⟨Z,h.1.1,U,h.1.2,Lm h.1.2 h.2 Y.1 Y.2⟩))⟩
 ·obtain⟨W,J,V,U⟩:=h2;have e:(aK t).length=2:=by(have:arity 11=2:=by decide);omega
  exact⟨h1,V,W,J,.inr (.inr (.inr (.inl ⟨Z,h.1.1,U,h.1.2,Ln bn h.2 (xS D).2 (gH A).2⟩)))⟩
 obtain⟨W,J,V,U⟩:=h2;have Y:=Ll D A (i:=n.toNat) (by(rw[<- h1];have:arity 12=2:=by decide);omega);exact⟨h1,V,W,J,.inr (.inr (.inr (.inr ⟨Z,U,h.1.2.2,Lm bn h.2 Y.1 Y.2⟩)))⟩
structure qO(x u y z:Int)(e:Prop):Prop where
 neg:x = -u
 lo : -1<=x
 hi:x<=1
 zero:x=0↔e
 Yc:Lj x y z
def qO.tN(a b c:Int){e:Prop}(Y:a=b↔e):qO (tN a b) (Go.cB.tN b a) (Go.cB.tN b c) (Go.cB.tN a c) e:=⟨VV a b,(v8 a b).1,(v8 a b).2,mP.trans Y,T9 a b c⟩
def qO.then{x u y z C M W V:Int}{e e' Y:Prop}(h:qO x u y z e)(N:x=0->y=0->qO C M W V e')(h2:x=0->C = -M /\ -1<=C/\C<=1/\(C=0↔e'))(A:e/\e'↔Y) :
  qO (if x=0 then C else x) (if u=0 then M else u) (if y=0 then W else y) (if z=0 then V else z) Y:=by
 have q:=h.neg;refine⟨?_,?_,?_,?_,Qs h.Yc λh1 U=>(N h1 U).Yc⟩;by_cases O:x=0;rw[if_pos O,if_pos bn];exact(h2 O).1;rw[if_neg O,if_neg bn];exact q;by_cases O:x=0;rw[if_pos O];exact(h2 O).2.1;rw[if_neg O];exact h.lo;by_cases O:x=0;rw[if_pos O];exact(h2 O).2.2.1;rw[if_neg O];exact h.hi;by_cases O:x=0;rw[if_pos O,(h2 O).2.2.2,<- A];simp[h.zero.1 O];rw[if_neg O,<- A];constructor;intro S;exact absurd S O;intro S;exact absurd (h.zero.2 S.1) O
mutual
def vX:∀(a b c:Vl)(t:Ty),eJ t=true->fY t=false->bz a t=true->bz b t=true->bz c t=true->qO (de a b) (de b a) (de b c) (de a c) (a=b)
 |.mk k n a s args types u,.mk k' n' a' s' M E C,.mk k2 n2 a2 s2 G aV bC,t,D,A,h1,h2,h3=>by
  obtain⟨e1,rfl,rfl,rfl,f1⟩:=AJ h1 D A;obtain⟨q,rfl,rfl,rfl,Q⟩:=AJ h2 D A;obtain⟨e3,rfl,rfl,rfl,O⟩:=AJ h3 D A;obtain rfl:k'=k:=by rw[e1,q]
  obtain rfl:k2=k':=by rw[q,e3]
  rcases f1 with ⟨g0,g1,I⟩|⟨g0,g1,I⟩|⟨g0,g1,I,g3,U⟩|⟨g0,g1,I,g3,U⟩|⟨g0,I,g3,U⟩
  ·rcases Q with ⟨Y,T,P⟩|⟨Y,_⟩|⟨Y,_⟩|⟨Y,_⟩|⟨Y,_⟩<;>first|omega|skip
   rcases O with ⟨_,K,W⟩|⟨p,_⟩|⟨p,_⟩|⟨p,_⟩|⟨p,_⟩<;>first|omega|skip
   subst g1 I T P K W;simp only[de,if_pos g0];exact⟨nC _ _,(zq _ _).1,(zq _ _).2,by simp[vi],Lk _ _ _⟩
  ·rcases Q with ⟨Y,_⟩|⟨Y,T,P⟩|⟨Y,_⟩|⟨Y,_⟩|⟨Y,_⟩<;>first|omega|skip
   rcases O with ⟨p,_⟩|⟨p,K,W⟩|⟨p,_⟩|⟨p,_⟩|⟨p,_⟩<;>first|omega|skip
   subst g1 I T P K W;simp only[de,if_neg g0.1,if_neg g0.2.1,if_neg g0.2.2.1,if_neg g0.2.2.2];exact qO.tN n n' n2 c9
  ·rcases Q with ⟨Y,_⟩|⟨Y,_⟩|⟨Y,T,P,m3,V⟩|⟨Y,_⟩|⟨Y,_⟩<;>first|omega|skip
   rcases O with ⟨p,_⟩|⟨p,_⟩|⟨p,K,W,l3,N⟩|⟨p,_⟩|⟨p,_⟩<;>first|omega|skip
   subst g1 I T P K W g0;simp only[de,show ¬((9:Int)=6)from by omega,acd,if_true];refine qO.then (qO.tN _ _ _ (Iff.rfl)) (λS B=>?_) (λS=>?_) (e':=args=M) ?_
   have J:=mP.1 S;have y2:=mP.1 B;exact sv args M G _ U V N bn bn;have J:=mP.1 S;have:=sv args M M _ U V V bn Z;exact⟨this.neg,this.lo,this.hi,this.zero⟩;constructor;rintro⟨_,rfl⟩;rfl;intro h;simp at h;exact⟨by rw[h],h⟩
  ·rcases Q with ⟨Y,_⟩|⟨Y,_⟩|⟨Y,_⟩|⟨Y,T,P,m3,V⟩|⟨Y,_⟩<;>first|omega|skip
   rcases O with ⟨p,_⟩|⟨p,_⟩|⟨p,_⟩|⟨p,K,W,l3,N⟩|⟨p,_⟩<;>first|omega|skip
   subst g1 I T P K W g0;simp only[de,show ¬((11:Int)=6)from by omega,show ¬((11:Int)=9)from by omega,acd,if_true];have:=sv args M G _ U V N bn bn;exact⟨this.neg,this.lo,this.hi,by rw[this.zero];simp,this.Yc⟩
  rcases Q with ⟨Y,_⟩|⟨Y,_⟩|⟨Y,_⟩|⟨Y,_⟩|⟨Y,P,m3,V⟩<;>first|omega|skip
  rcases O with ⟨p,_⟩|⟨p,_⟩|⟨p,_⟩|⟨p,_⟩|⟨p,W,l3,N⟩<;>first|omega|skip
  subst I P W g0;simp only[de,show ¬((12:Int)=6)from by omega,show ¬((12:Int)=9)from by omega,show ¬((12:Int)=11)from by omega,acd,if_true];refine qO.then (qO.tN _ _ _ (Iff.rfl)) (λS B=>?_) (λS=>?_) (e':=args=M) ?_
  have J:=mP.1 S;have y2:=mP.1 B;subst J y2;exact sv args M G _ U V N bn bn;have J:=mP.1 S;subst J;have:=sv args M M _ U V V bn Z;exact⟨this.neg,this.lo,this.hi,this.zero⟩;simp
def sv:∀(a b c:L Vl)(ts:L Ty),IQ a ts->IQ b ts->IQ c ts->a.length=b.length->b.length=c.length->qO (iL a b) (iL b a) (iL b c) (iL a c) (a=b)
 |[],[],[],ts,_,_,_,_,_=>by simp only[iL];exact⟨Z,bn,bn,c9,⟨λ_ _=>by simp,λ_ _=>by simp⟩⟩
 |[],_::_,_,_,_,_,_,h,_=>by simp at h
 |_::_,[],_,_,_,_,_,h,_=>by simp at h
 |[],[],_::_,_,_,_,_,_,h=>by simp at h
 |_::_,_::_,[],_,_,_,_,_,h=>by simp at h
 |x::a,y::b,z::c,[],h,_,_,_,_=>h.elim
 |x::a,y::b,z::c,t::ts,ha,A,D,h1,h2=>by have hx:=vX x y z t ha.2.1 ha.2.2.1 ha.1 A.1 D.1;have H:=sv a b c ts ha.2.2.2 A.2.2.2 D.2.2.2 Y7 K0;simp only[iL];refine qO.then hx (λ_ _=>H) (λ_=>⟨H.neg,H.lo,H.hi,H.zero⟩) c9
end
mutual
def aad:Vl->Vl->Int
 |.mk k n a s args types H,.mk k' K p A M Y W =>
  if(if k=9 then(args.length:Int)else n)<(if k=9 then(M.length:Int)else K)\/Op.bytesLess s A=true then -1
  else if(if k=9 then(args.length:Int)else n)>(if k=9 then(M.length:Int)else K)\/Op.bytesLess A s=true then 1
  else WG args M
def WG:L Vl->L Vl->Int
 |x::l,y::r=>if aad x y=0 then WG l r else aad x y
 |_,_=>0
end
mutual
def DK:Ty->Bool
 |.mk T args=>(if T=13\/T=15 then gS args else true)&&DV args
def DV:L Ty->Bool
 |[]=>true
 |t::l=>DK t&&DV l
end
mutual
def Gm:∀(t:Ty)(d n:Int),(eP t d n).1=true->DK t=true
 |.mk T args,d,n,h=>by
  simp only[eP]at h;split at h;cases h;rcases A:dW args (d+1) (n+1)with ⟨b,m⟩
  rw[A]at h;cases b;cases h;have:=Eg args (d+1) (n+1) (by rw[A]);simp only[DK,this,acs];exact h
def Eg:∀(l:L Ty)(d n:Int),(dW l d n).1=true->DV l=true
 |[],_,_,_=>rfl
 |t::l,d,n,h=>by
  simp only[dW]at h;rcases A:eP t d n with ⟨b,m⟩
  rw[A]at h;cases b;cases h;have h1:=Gm t d n (by rw[A]);have h2:=Eg l d m h;simp[DV,h1,h2]
end
def xK{t:Ty}(h:bg t=true):DK t=true:=Gm t 1 0 h
def mU(k n a:Int)(args:L Vl)(types:L Ty)(t:Ty):Bool :=
  if k=1\/k=6 then decide (n=0/\args.length=0)
  else if k=2 then decide (0<=n/\n<=1/\args.length=0)
  else if k=3 then decide (-bF<=n/\n<=bF/\args.length=0)
  else if k=4\/k=5 then decide (0<=n/\n<=bF/\args.length=0)
  else if k=7 then decide (0<=n/\n<12/\args.length=0)
  else if k=9 then decide (n=0/\args.length<=1)&&aJ args (aG t 0)
  else if k=10 then decide (n=0/\args.length<=24)&&aJ args (aG t 0)
  else if k=11 then decide (n=0/\args.length=2)&&cL args (aK t)
  else if k=12 then decide (0<=n/\n<=1/\args.length=1)&&aJ args (aG t n.toNat)
  else if k=13 then decide (n=0/\args.length<=24)&&aJ args (.mk 11 (aK t))&&xX args
  else if k=14 then cw (aG t 0) (types.getD 0 iY)&&cw (aG t 1) (types.getD 1 iY)
  else if k=15 then decide (1<=n/\n<=bF/\0<=a/\a<12/\args.length=1)&&aJ args (aG t 0)
  else if k=8 then decide (0<=n/\n<=bF/\0<=a/\a<12/\args.length=1)&&bg (types.getD 0 iY)&&aJ args (types.getD 0 iY)
  else false
def VW(k n a:Int)(s:L UInt8)(args:L Vl)(types:L Ty)(H:L Nd)(t:Ty):bz (.mk k n a s args types H) t=((k==cq t)&&(bX (.mk k n a s args types H)&&(decide (s.length<=200)&&mU k n a args types t))):=by
 by_cases h:k≠cq t\/bX (.mk k n a s args types H)=false\/200<s.length
 ·simp only[bz,if_pos h];rcases h with h|h|h
  simp_all;rw[h];simp;grind
 simp only[bz,if_neg h];simp only[not_or,ne_eq,adg,Bool.not_eq_false,Nat.not_lt]at h;rw[h.2.1,show(k==cq t)=true from by simpa using h.1,show decide (s.length<=200)=true from by simpa using h.2.2];rfl
def adA(v:Vl)(Y W bs:Bool)(args types:Int)(V:Bool):Bool:=match v with
 |.mk _ n a s l ts H=>(Y||n==0)&&((W||a==0)&&((bs||s.isEmpty)&&(decide ((l.length:Int)=args)&&(decide ((ts.length:Int)=types)&&(V||decide (H.length=0))))))
mutual
def ej:Vl->Nd
 |.mk k n _ s args _ _ =>
  if k=1 then .mk 2 0 20 [] []
  else if k=2 then .mk 2 0 (22-n) [] []
  else if k=6 then .mk 1 0 0 s []
  else if k=9 then .mk 2 0 (27-args.length) [] (ef args)
  else if k=10 then .mk 3 0 0 [] (ef args)
  else if k=11 then .mk 2 0 23 [] (ef args)
  else if k=12 then .mk 2 0 (24+n) [] (ef args)
  else if k=13 then .mk 3 0 0 [] (mg args)
  else .mk 0 n 0 [] []
def ef:L Vl->L Nd
 |[]=>[]
 |x::l=>ej x::ef l
def mg:L Vl->L Nd
 |[]=>[]
 |.mk _ _ _ _ args _ _::l => .mk 2 0 28 [] (ef args)::mg l
end
def glue(acc:L Vl):L Vl×Bool->L Vl×Bool
 |(q,true)=>(acc++q,true)
 |(_,false)=>([],false)
def qe(T:Int):Vl := .mk T 0 0 [] [] [] []
mutual
def dz:Nd->Ty->Vl×Bool
 |.mk u N P S args,t =>
  if cq t=1 then(qe 1,decide (u=2/\P=20/\args.length=0))
  else if cq t=2 then(.mk 2 (IntKind.i64.wrap (22-P)) 0 [] [] [] [],decide (u=2/\(P=21\/P=22)/\args.length=0))
  else if cq t=3\/cq t=4\/cq t=5\/cq t=7 then(.mk (cq t) N 0 [] [] [] [],decide (u=0))
  else if cq t=6 then(.mk 6 0 0 S [] [] [],decide (u=1))
  else if cq t=9 then
   if u=2/\P=27 then(qe 9,decide (args.length=0))
   else if u=2/\P=26 then(.mk 9 0 0 [] (eD args (aK t)).1 [] [],(eD args (aK t)).2)
   else(qe 9,false)
  else if cq t=11 then
   if u=2/\P=23 then(.mk 11 0 0 [] (eD args (aK t)).1 [] [],(eD args (aK t)).2)
   else(qe 11,false)
  else if cq t=12 then
   if u=2/\P=24 then(.mk 12 0 0 [] (eD args [aG t 0]).1 [] [],(eD args [aG t 0]).2)
   else if u=2/\P=25 then(.mk 12 1 0 [] (eD args [aG t 1]).1 [] [],(eD args [aG t 1]).2)
   else(qe 12,false)
  else if cq t=10 then(.mk 10 0 0 [] (eO args (aG t 0)).1 [] [],decide (u=3)&&(eO args (aG t 0)).2)
  else if cq t=13 then(.mk 13 0 0 [] (eo args (aK t)).1 [] [],decide (u=3)&&(eo args (aK t)).2)
  else(qe (cq t),false)
def eD:L Nd->L Ty->L Vl×Bool
 |[],[]=>([],true)
 |x::l,t::r=>if(dz x t).2=true then glue [(dz x t).1] (eD l r)else([],false)
 |[],_::_=>([],false)
 |_::_,[]=>([],false)
def eO:L Nd->Ty->L Vl×Bool
 |[],_=>([],true)
 |x::l,t=>((dz x t).1::(eO l t).1,(dz x t).2&&(eO l t).2)
def eo:L Nd->L Ty->L Vl×Bool
 |[],_=>([],true)
 |.mk u _ P _ xs::l,ts=>(.mk 11 0 0 [] (eD xs ts).1 [] []::(eo l ts).1,((eD xs ts).2&&decide (u=2/\P=28))&&(eo l ts).2)
end
def Qn(a b:L Vl)(x:L Vl×Bool):glue a (glue b x)=glue (a++b) x:=by obtain⟨q,c⟩:=x;cases c<;>simp[glue]
def TX(x:L Vl×Bool)(h:x.2=false->x.1=[]):glue [] x=x:=by obtain⟨q,c⟩:=x;cases c;simp at h;subst h;rfl;rfl
def Ea:∀(l:L Nd)(r:L Ty),(eD l r).2=false->(eD l r).1=[]
 |[],[],h=>by simp[eD]at h
 |[],_::_,_=>by simp[eD]
 |_::_,[],_=>by simp[eD]
 |x::l,t::r,h=>by
  simp only[eD]at h ⊢;by_cases O:(dz x t).2=true
  ·rw[if_pos O]at h ⊢;cases A:eD l r with
   |mk q c =>
    cases c with
    |false=>rfl
    |true=>rw[A]at h;cases h
  simp_all
def Lb:∀(l:L Nd)(r:L Ty),l.length≠r.length->eD l r=([],false)
 |[],[],h=>by simp at h
 |[],_::_,_=>by simp[eD]
 |_::_,[],_=>by simp[eD]
 |x::l,t::r,h=>by simp only[eD,Lb l r nW];split<;>rfl
mutual
def Ct:∀(v:Vl),bR (ej v)<=aE v
 |.mk k n a s args types H=>by
  have h1:=vj args;have h2:=Eh args;simp only[ej,aE]
  repeat' split
  all_goals simp only[bR,aM,aab];omega
def vj:∀(l:L Vl),aM (ef l)<=aB l
 |[]=>by simp[ef,aM,aB]
 |x::l=>by have h1:=Ct x;have h2:=vj l;simp only[ef,aM,aB];omega
def Eh:∀(l:L Vl),aM (mg l)<=aB l
 |[]=>by simp[mg,aM,aB]
 |.mk k n a s args types H::l=>by have h1:=vj args;have h2:=Eh l;simp only[mg,aM,bR,aB,aE,aab];omega
end
def Qt(a:L Vl)(x:L Vl×Bool):aB (glue a x).1<=aB a+aB x.1:=by
 obtain⟨q,c⟩:=x;cases c;simp[glue,aB];simp only[glue];have:∀a b:L Vl,aB (a++b)=aB a+aB b:=by
  intro a b
  induction a with
  |nil=>simp[aB]
  |cons x a S=>simp only[abh,aB];omega
 rw[this];omega
mutual
def vu:∀(n:Nd)(t:Ty),aE (dz n t).1<=bR n
 |.mk u N P S args,t=>by
  have h1:=sw args (aK t);have h2:=zw args (aG t 0);have U:=zx args (aK t);have Y:=sw args [aG t 0];have Q:=sw args [aG t 1];simp only[dz,bR,qe]
  repeat' split
  all_goals simp only[aE,aB,aU,aM,aab];omega
def sw:∀(l:L Nd)(r:L Ty),aB (eD l r).1<=aM l
 |[],[]=>by simp[eD,aB]
 |[],_::_=>by simp[eD,aB]
 |_::_,[]=>by simp[eD,aB]
 |x::l,t::r=>by have h1:=vu x t;have h2:=sw l r;simp only[eD,aM];split;have:=Qt [(dz x t).1] (eD l r);simp only[aB]at this;omega;simp[aB]
def zw:∀(l:L Nd)(t:Ty),aB (eO l t).1<=aM l
 |[],_=>by simp[eO,aB]
 |x::l,t=>by have h1:=vu x t;have h2:=zw l t;simp only[eO,aM,aB];omega
def zx:∀(l:L Nd)(ts:L Ty),aB (eo l ts).1<=aM l
 |[],_=>by simp[eo,aB]
 |.mk u N P S xs::l,ts=>by have h1:=sw xs ts;have h2:=zx l ts;simp only[eo,aM,bR,aB,aE,aU,aab];omega
end
def kF{k n a:Int}{s:L UInt8}{args:L Vl}{types:L Ty}{H:L Nd}{t:Ty}(h:bz (.mk k n a s args types H) t=true):mU k n a args types t=true:=by rw[VW]at h;simp at h;exact h.2.2.2
def Ub{T:Int}(h:qz T=true):T≠8/\T≠14/\T≠15:=by simp only[qz,aak,adL]at h;omega
def Gn{t:Ty}(h:qU qz t=true):qz (cq t)=true/\mo qz (aK t)=true:=by cases t with|mk T l=>simpa[qU,cq,aK]using h
def UD{l:L Vl}{ts:L Ty}(h1:l.length=2)(h2:ts.length=2)(h:cL l ts=true):∃x y u w,l=[x,y]/\ts=[u,w]/\bz x u=true/\bz y w=true:=by
 match l,ts,h1,h2 with
 |[x,y],[u,w],_,_ =>
  simp only[cL]at h;grind
def Qu{k:Int}{m:Nat}(h:arity k=(m:Int)):1<=k/\k<=15:=by unfold arity at h;split at h<;>omega
def Yd{x:Nd}{l:L Nd}{t:Ty}{r:L Ty}(h:(eD (x::l) (t::r)).2=true):(dz x t).2=true/\(eD l r).2=true/\(eD (x::l) (t::r)).1=(dz x t).1::(eD l r).1:=by
 simp only[eD]at h ⊢;by_cases O:(dz x t).2=true
 ·rw[if_pos O]at h ⊢;rcases A:eD l r with ⟨q,c⟩
  rw[A]at h;cases c;simp[glue]at h;exact⟨O,Z,by simp[glue]⟩
 grind
def xT{x:Nd}{l:L Nd}{d:Int}(h:cS (x::l) d=0):eC x d=0/\cS l d=0:=by simp only[cS]at h;omega
mutual
def Ei:∀(n:Nd)(t:Ty)(d:Int),qU qz t=true->fY t=false->(dz n t).2=true->bz (dz n t).1 t=true->eC n d=0->ej (dz n t).1=n
 |.mk H N P S args,t,d,D,A,hok,h,O=>by
  obtain⟨C,K⟩:=jr O;obtain⟨_,hkd,U,J,M,G,_,_,_⟩:=lR C;have Q:=Ej args;have iha:=Bs args;have ihm:=Bt args;obtain⟨Lu,E⟩:=gH A;have V:=(Gn D).2;have hrg:=Qu Lu;have hpn:=Ub (Gn D).1;clear O C D A;rcases(by omega:cq t=1\/cq t=2\/cq t=3\/cq t=4\/cq t=5\/cq t=6\/cq t=7\/cq t=9\/cq t=10\/cq t=11\/cq t=12\/cq t=13)with W|W|W|W|W|W|W|W|W|W|W|W
  all_goals rw[W]at Lu
  simp[dz,W]at hok;obtain⟨rfl,rfl,rfl⟩:=hok;obtain rfl:=U cc;obtain rfl:=M cc;simp[dz,W,ej,qe]
  ·simp[dz,W]at hok;obtain⟨rfl,O9,rfl⟩:=hok;obtain rfl:=U cc;obtain rfl:=M cc;rcases O9 with rfl|rfl<;>simp[dz,W,ej,qe]<;>decide
  simp[dz,W]at hok;subst hok;obtain rfl:=J cc;obtain rfl:=M cc;obtain rfl:=List.length_eq_zero_iff.1 (G cc);simp[dz,W,ej,qe];simp[dz,W]at hok;subst hok;obtain rfl:=J cc;obtain rfl:=M cc;obtain rfl:=List.length_eq_zero_iff.1 (G cc);simp[dz,W,ej,qe];simp[dz,W]at hok;subst hok;obtain rfl:=J cc;obtain rfl:=M cc;obtain rfl:=List.length_eq_zero_iff.1 (G cc);simp[dz,W,ej,qe];simp[dz,W]at hok;subst hok;obtain rfl:=U cc;obtain rfl:=J cc;obtain rfl:=List.length_eq_zero_iff.1 (G cc);simp[dz,W,ej,qe];simp[dz,W]at hok;subst hok;obtain rfl:=J cc;obtain rfl:=M cc;obtain rfl:=List.length_eq_zero_iff.1 (G cc);simp[dz,W,ej,qe]
  ·by_cases p:H=2/\P=27;obtain⟨rfl,rfl⟩:=p;simp[dz,W]at hok;subst hok;obtain rfl:=U cc;obtain rfl:=M cc;simp[dz,W,ej,qe,ef];by_cases c2:H=2/\P=26
   ·obtain⟨rfl,rfl⟩:=c2;obtain rfl:=U cc;obtain rfl:=M cc;simp[dz,W]at hok h ⊢;have Y:=kF h;simp[mU]at Y;have ha9:arity 9=1:=(by decide);have hts:aK t=[aG t 0]:=by
     match hh:aK t,(show(aK t).length=1 by omega)with
     |[u],_=>simp[aG,hh]
    have B:cL (eD args (aK t)).1 (aK t)=true:=by
     generalize eD args (aK t)=q at Y;rw[hts]
     match hq:q.1,Y with
     |[],_=>simp[cL]
     |[x],Y=>simp[aJ,hq]at Y;simp[cL,Y]
     |x::y::l,Y=>simp[hq]at Y
    obtain⟨T,e2,e3⟩:=Q (aK t) (d+1) V E hok B K;simp only[ej];simp only[T,e2];simp;omega
   simp[dz,W,p,c2]at hok
  simp[dz,W]at hok;obtain⟨rfl,hok⟩:=hok;obtain rfl:=U cc;obtain rfl:=J cc;obtain rfl:=M cc;simp[dz,W]at h ⊢;have Y:=kF h;simp[mU]at Y;have ha:arity 10=1:=(by decide);have I:aG t 0∈aK t:=kG bn;have T:=iha (aG t 0) (d+1) (su V I) (cN E I) hok Y.2 K;simp[ej,T];by_cases p:H=2/\P=23;obtain⟨rfl,rfl⟩:=p;obtain rfl:=U cc;obtain rfl:=M cc;simp[dz,W]at hok h ⊢;have Y:=kF h;simp[mU]at Y;obtain⟨T,e2,e3⟩:=Q (aK t) (d+1) V E hok Y.2 K;simp[ej,T];simp[dz,W,p]at hok
  ·by_cases p:H=2/\P=24
   ·obtain⟨rfl,rfl⟩:=p;obtain rfl:=U cc;obtain rfl:=M cc;simp[dz,W]at hok h ⊢;have Y:=kF h;simp[mU]at Y;have ha:arity 12=2:=(by decide);have I:aG t 0∈aK t:=kG bn;have B:cL (eD args [aG t 0]).1 [aG t 0]=true:=by
     generalize eD args [aG t 0]=q at Y
     match hq:q.1,Y with
     |[],_=>simp[cL]
     |[x],Y=>simp[aJ,hq]at Y;simp[cL,Y]
     |x::y::l,Y=>simp[hq]at Y
    obtain⟨T,e2,e3⟩:=Q [aG t 0] (d+1) (by simp only[mo,acs];exact su V I) (by simp only[mJ,Bool.or_false];exact cN E I) hok B K;simp[ej,T]
   by_cases c2:H=2/\P=25
   ·obtain⟨rfl,rfl⟩:=c2;obtain rfl:=U cc;obtain rfl:=M cc;simp[dz,W]at hok h ⊢;have Y:=kF h;simp[mU]at Y;have ha:arity 12=2:=(by decide);have I:aG t 1∈aK t:=kG bn;have B:cL (eD args [aG t 1]).1 [aG t 1]=true:=by
     generalize eD args [aG t 1]=q at Y
     match hq:q.1,Y with
     |[],_=>simp[cL]
     |[x],Y=>simp[aJ,hq]at Y;simp[cL,Y]
     |x::y::l,Y=>simp[hq]at Y
    obtain⟨T,e2,e3⟩:=Q [aG t 1] (d+1) (by simp only[mo,acs];exact su V I) (by simp only[mJ,Bool.or_false];exact cN E I) hok B K;simp[ej,T]
   simp[dz,W,p,c2]at hok
  simp[dz,W]at hok;obtain⟨rfl,hok⟩:=hok;obtain rfl:=U cc;obtain rfl:=J cc;obtain rfl:=M cc;simp[dz,W]at h ⊢;have Y:=kF h;simp[mU]at Y;have ha:arity 13=2:=by decide
  have T:=ihm (aK t) (d+1) V E bn hok Y.1.2 K;simp[ej,T]
def Ej:∀(l:L Nd)(ts:L Ty)(d:Int),mo qz ts=true->mJ ts=false->(eD l ts).2=true->cL (eD l ts).1 ts=true->cS l d=0->ef (eD l ts).1=l/\(eD l ts).1.length=l.length/\l.length=ts.length
 |[],[],_,_,_,_,_,_=>by simp[eD,ef]
 |[],_::_,_,_,_,h,_,_=>by simp[eD]at h
 |_::_,[],_,_,_,h,_,_=>by simp[eD]at h
 |x::l,t::ts,d,D,A,hok,h,O=>by simp only[mo,aak]at D;simp only[mJ,abW]at A;obtain⟨o1,o2,o3⟩:=Yd hok;obtain⟨w1,w2⟩:=xT O;rw[o3]at h ⊢;simp only[cL,aak]at h;have h1:=Ei x t d D.1 A.1 o1 h.1 w1;have h2:=Ej l ts d D.2 A.2 o2 h.2 w2;simp[ef,h1,h2]
def Bs:∀(l:L Nd)(t:Ty)(d:Int),qU qz t=true->fY t=false->(eO l t).2=true->aJ (eO l t).1 t=true->cS l d=0->ef (eO l t).1=l
 |[],_,_,_,_,_,_,_=>by simp[eO,ef]
 |x::l,t,d,D,A,hok,h,O=>by obtain⟨w1,w2⟩:=xT O;simp only[eO,aak]at hok;simp only[eO,aJ,aak]at h;have h1:=Ei x t d D A hok.1 h.1 w1;have h2:=Bs l t d D A hok.2 h.2 w2;simp[eO,ef,h1,h2]
def Bt:∀(l:L Nd)(ts:L Ty)(d:Int),mo qz ts=true->mJ ts=false->ts.length=2->(eo l ts).2=true->aJ (eo l ts).1 (.mk 11 ts)=true->cS l d=0->mg (eo l ts).1=l
 |[],_,_,_,_,_,_,_,_=>by simp[eo,mg]
 |.mk H N P S xs::l,ts,d,D,A,h2l,hok,h,O=>by obtain⟨w1,w2⟩:=xT O;obtain⟨C,K⟩:=jr w1;obtain⟨_,hkd,U,J,M,G,_,_,_⟩:=lR C;simp only[eo,aak,abU]at hok;obtain⟨⟨JQ,rfl,rfl⟩,Mj⟩:=hok;obtain rfl:=U cc;obtain rfl:=M cc;simp only[eo,aJ,aak]at h;have Y:=kF h.1;simp[mU,aK]at Y;have h1:=Ej xs ts (d+1) D A JQ Y.2 K;have h2:=Bt l ts d D A h2l Mj h.2 w2;simp[eo,mg,h1,h2]
end
def gZ(t:Ty)(n:Nd):Vl×Int:=if bg t=true/\dD n=0/\(dz n t).2=true/\bz (dz n t).1 t=true then((dz n t).1,0)else(qp,1)
def acD(t:Ty)(v:Vl):Nd×Int:=if pF t v=true/\fN t=true then(if dD (ej v)=0 then(ej v,0)else(oF,dD (ej v)))else(oF,5)
def tw(v:Vl):L UInt8×Int:=if dD (ej v)=0 then(if 200<=(dS (ej v)).length then([],4)else(5::dS (ej v),0))else([],dD (ej v))
def acE(t:Ty)(v:Vl):L UInt8×Int:=if pF t v=true/\fN t=true then tw v else([],5)
def gu(t:Ty)(s:L UInt8):Vl×Int:=match s with
 |[]=>(qp,1)
 |c::r=>if c=5/\(c::r).length<=200/\fN t=true/\(eL r).2=0 then gZ t (eL r).1 else(qp,1)
def F9{t:Ty}{n:Nd}(h:(gZ t n).2=0):pF t (gZ t n).1=true/\dD n=0/\(fN t=true->ej (gZ t n).1=n):=by
 unfold gZ at h ⊢;split at h
 ·rename_i D;rw[if_pos D];have A:fY t=false:=by
   cases A:fY t with
   |false=>rfl
   |true =>
    have h1:=D7 t 24 300 A;rw[Gd,D.1]at h1;cases h1
  refine⟨by unfold pF;simp only[D.1,D.2.2.2];rfl,D.2.1,λY=>?_⟩;exact Ei n t 1 Y A D.2.2.1 D.2.2.2 (jV.1 D.2.1).1
 cases h
def Ga(t:Ty)(n:Nd):aE (gZ t n).1<=bR n:=by unfold gZ;split;exact vu n t;exact D5 n
end Go.cB
