/- Package chain: -/
import Derived.Test.YteanleefnjknoaaGreatDoorChn4
import Derived.Test.YteanleefnjknoaaGreatDoorChnG
set_option maxRecDepth 100000
open Go.IntKind
open Go.Proofs.Tryz
set_option linter.defProp false
set_option linter.unusedVariables false
set_option linter.unusedSimpArgs false
set_option maxHeartbeats 0
namespace Go.Proofs
open Go.cK
section
variable {ops : Array Oper}{o : Oper}{rest : L Oper}{env : Env}{acc : L Fp}{Q : Env -> St -> L Fp -> Prop}{bs : L (Nat × L AV)}{ts : L (Nat × Nat)}{us : L Nat}
def Yq(G:dj ops.toList kn env o=some true){f:FuncId}{args:Array Operand}{K:Array TypeId}(V:o.op = .call {callee := .value (.func f),args:=args,argTypes:=K}){w w':Wk}{W:L AV}{r:CV}(hq:gh f w W r w')(C:wO w=none){d:Nat}(O:o.dst=some d)
  {l:L AV}(E:gE (aK Tryz.X env) args.toList=some l){km:Nat}{J:L AV}(Y:l = .ptr km 0::J){p:L AV}(h1:an km bs=some p)(I:p=wB w 0)(U:∀ts,eF ⟨λk=>an k [(1000000,km)],λ_=>none⟩ ts W J)(T:SY us km (200000+d)=true)
  {bs':L (Nat×L AV)}(S:kD [km] bs=bs')
  (D:wO w'=none->lI ops rest ((d,.c r)::env) ⟨(km,wB w' 0)::bs',ts,km::us⟩ (⟨[],[km,km,km]⟩::acc) Q)
  (u:∀f',wO w'=some f'->lI ops rest ((d,.c r)::env) ⟨(km,wB w' (200000+d))::(200000+d,f'.map AV.c)::bs',ts,km::(200000+d)::us⟩ (⟨[],[km,km,200000+d,km,200000+d]⟩::acc) Q) :
  lI ops (o::rest) env ⟨bs,ts,us⟩ acc Q:=by
 unfold gh at hq;rw[C]at hq;have A:=mo w;rw[C]at A;subst Y;exact af.aaK kn G V hq A (mo w') O E h1 I (λts=>⟨_,_,Z,⟨_,fe,Z⟩,U ts⟩) T S D u
def Yr(G:dj ops.toList kn env o=some true){f:FuncId}{args:Array Operand}{K:Array TypeId}(O:o.op = .call {callee := .value (.func f),args:=args,argTypes:=K}){w w':Wk}{U:L AV}{r:CV}(hq:gh f w U r w'){T S:L CV}(C:wO w=some T)(Y:wO w'=some S){d:Nat}(u:o.dst=some d)
  {l:L AV}(E:gE (aK Tryz.X env) args.toList=some l){km fk:Nat}{J:L AV}(W:l = .ptr km 0::J){p P:L AV}(h1:an km bs=some p)(I:p=wB w fk)(M:an fk bs=some P)(H:P=T.map AV.c)(D:∀ts,eF ⟨λk=>an k [(1000000,km),(1000002,fk)],λ_=>none⟩ ts U J)(B:SY us km (200000+d)=true)(V:Nat.beq km fk=false)
  {bs':L (Nat×L AV)}(q:kD [km,fk] bs=bs')
  (k1:lI ops rest ((d,.c r)::env) ⟨(km,wB w' (200000+d))::(200000+d,S.map AV.c)::bs',ts,km::(200000+d)::us⟩ (⟨[],[km,fk,km,200000+d,km,200000+d]⟩::acc) Q) :
  lI ops (o::rest) env ⟨bs,ts,us⟩ acc Q:=by
 unfold gh at hq;rw[C,Y]at hq;have A:=mo w;rw[C]at A;have N:=mo w';rw[Y]at N;subst W;exact af.aaL kn G O hq A N u E h1 I M H (λts=>⟨_,_,Z,⟨_,fe,Z⟩,D ts⟩) B V q k1
end
def Ys{w:Wk}(h:w.made≠[]):wO w=some (bC (eJ w.made)):=by
 unfold wO;cases C:w.made with
 |nil=>exact absurd C h
 |cons x r=>rfl
def acN{w:Wk}{q:L CV}(h:wO w=some q):w.made≠[]:=by
 intro C;unfold wO at h;rw[C]at h;cases h
def Ay(w:Wk)(x:Au)(to n:Int):(LO w x to n).2.made=w.made:=by
 unfold LO Rm;dsimp only
 repeat' split
 all_goals rfl
def wA{w:Wk}{x:Au}(hw:Ld w)(hx:Dw x)(to n:Int):gh 62 w [.c (kE x),.c (ag to),.c (ag n)] (yR (LO w x to n).1) (LO w x to n).2:=by
 have Vg:=hw.Dx.dr;have h12:=hw.Dx.h12;have J:=EB w.l h12 Vg x.fT to n;have zg:=hw.cC;have ld:=hw.az;have hA1:=wj x (.mk 1 []) bT hx;have hO1:=Az hx (.mk 1 []);unfold LO;by_cases e:jH w.l x.fT to n≠0
 ·rw[if_pos e];rw[if_neg e]at J;obtain⟨l,E,done,K,W,I⟩:=w;have hx1:=x.fT;obtain⟨fT,V,⟨U,M,T,Q,N,S,P⟩⟩:=x;exact cP.imp (LY _) (LZ l E done K W I fT V U M T Q N S P to n _ h12 e J)
 rw[if_neg e];simp only[ne_eq,aey]at e;rw[if_pos e,e]at J;obtain⟨h1,j,rfl,hj,his⟩:=Jz hw.Dx e;obtain⟨i,_,aF,_,hfi,_,xR,_,_,_,h0,hM,_⟩:=DP h12 e;have hi:i<12:=by have:=(List.getElem?_eq_some_iff.1 xR).1;omega
 have ha:=ng (l:=GY w.l x.fT j n) (i:=j) h1.h12 bn bn;rw[aaC]at ha;generalize GY w.l x.fT j n=Ll at *;generalize iG Ll j=a at *;have lj:Nat.blt j 12=true:=by rw[afj];exact hj
 have S6:=h1.get ha;have A:=h1.size a (aaB ha);have L4:=wj x a.param (by have:=A.1;omega) hx;have hO2:=Az hx a.param;obtain⟨l,E,done,K,W,I⟩:=w;simp only at *;by_cases H:a.is=1
 ·rw[if_pos H];by_cases c:(ov x (.mk 1 [])).2≠0
  ·rw[if_pos c];generalize ov x (.mk 1 [])=r at *;obtain⟨⟨q,G,C,B,p,r6,r7⟩,er⟩:=r;obtain⟨fT,V,⟨U,M,T,Q,N,S,P⟩⟩:=x;obtain⟨D,dr,Y,⟨pT,pA⟩,⟨sT,sA⟩,code,⟨k1,k2,k3,k4,k5,k6,k7⟩⟩:=a;exact cP.imp (LY _) (L1 l E done K W I fT V U M T Q N S P n h12 Ll h1.h12 j lj D dr Y pT pA sT sA code k1 k2 k3 k4 k5 k6 k7 ha aa0 q G C B p r6 r7 er (by simpa using c) J hA1)
  ·rw[if_neg c];simp only[ne_eq,aey]at c;generalize ov x (.mk 1 [])=r at *;obtain⟨⟨q,G,C,B,p,r6,r7⟩,er⟩:=r;obtain⟨fT,V,⟨U,M,T,Q,N,S,P⟩⟩:=x;obtain⟨D,dr,Y,⟨pT,pA⟩,⟨sT,sA⟩,code,⟨k1,k2,k3,k4,k5,k6,k7⟩⟩:=a;simp only at c;subst c;exact cP.imp (LY _) (L2 l E done K W I fT V U M T Q N S P n h12 Ll h1.h12 j lj D dr Y pT pA sT sA code k1 k2 k3 k4 k5 k6 k7 ha aa0 q G C B p r6 r7 J hA1)
 rw[if_neg H];have is2:a.is=2:=by rcases DR S6 with h|h|h<;>omega
 obtain⟨b1,b2,b3,b4,b5,b6⟩:=L5 S6 is2;by_cases c:(ov x a.param).2≠0
 ·rw[if_pos c];generalize ov x a.param=r at *;obtain⟨⟨q,G,C,B,p,r6,r7⟩,er⟩:=r;obtain⟨fT,V,⟨U,M,T,Q,N,S,P⟩⟩:=x;obtain⟨D,dr,Y,⟨pT,pA⟩,⟨sT,sA⟩,code,⟨k1,k2,k3,k4,k5,k6,k7⟩⟩:=a;exact cP.imp (LY _) (O2 l E done K W I fT V U M T Q N S P n h12 Ll h1.h12 j lj D dr Y pT pA sT sA code k1 k2 k3 k4 k5 k6 k7 ha aa0 q G C B p r6 r7 er (by simpa using c) J L4)
 rw[if_neg c];simp only[ne_eq,aey]at c;rcases hO2 with ⟨_,hf,hz⟩|h
 rotate_left
 ·omega
 have hr:=Vh (to:=j) (fT:=x.fT) (n:=n) (dr:=a.dr) (code:=a.code) (param:=a.param) (store:=a.store) (v:=(ov x a.param).1) (keep:=a.keep) (g:=E) ⟨bn,bn⟩ ⟨bn,bn⟩ ⟨h0,hM⟩ b1 b4 hf b5 hz A.2.2 b6 bn
 have u:=SX j x.fT n a.dr E (.mk 3 0 0 [] a.code) (by simp only[bM,aad];have:=A.2.1;omega) [.mk 11 [a.param,a.store]] (by simp only[bz,bw];have:=A.1;omega) [.mk 11 0 0 [] [(ov x a.param).1,a.keep] [] []] (λv hv=>by
  rw[afD]at hv;subst hv;have:=A.2.2
  simp only[aM,aO,bz,aU,aad];omega) bn
 have e9:Rk ⟨l,E,done,K,W,I⟩ x j n a (ov x a.param).1=GS j x.fT n a.dr (.mk 3 0 0 [] a.code) [.mk 11 [a.param,a.store]] [.mk 11 0 0 [] [(ov x a.param).1,a.keep] [] []] E:=rfl;rw[e9];generalize GS j x.fT n a.dr (.mk 3 0 0 [] a.code) [.mk 11 [a.param,a.store]] [.mk 11 0 0 [] [(ov x a.param).1,a.keep] [] []] E=r at hr u ⊢;generalize ov x a.param=v at *;obtain⟨⟨q,G,C,B,p,r6,r7⟩,er⟩:=v;simp only at c;subst c;obtain⟨fT,V,⟨U,M,T,Q,N,S,P⟩⟩:=x;obtain⟨D,dr,Y,⟨pT,pA⟩,⟨sT,sA⟩,code,⟨k1,k2,k3,k4,k5,k6,k7⟩⟩:=a;obtain⟨rc,st,O,g,m⟩:=r;obtain⟨q1,q2,q3,q4⟩:=hr;simp only at q1 q2 q3 q4 H is2;have q3':m<=1152921504606846976:=q3.2;have afq:W<=1152921504606846976:=ld.2;have w1:i64.wrap (E-g)=E-g:=iy bn bn;have w2:i64.wrap (K+g)=K+g:=iy bn bn;have w3:i64.wrap (1152921504606846976-m)=1152921504606846976-m:=iy bn bn;unfold Rm;dsimp only;by_cases c0:rc≠0
 ·rw[if_pos c0];have hh:=O3 l E done K W I fT V U M T Q N S P n h12 Ll h1.h12 j lj D dr Y pT pA sT sA code k1 k2 k3 k4 k5 k6 k7 ha aa0 q G C B p r6 r7 J L4 rc g m st O u (by simpa using c0);rw[w1,w2]at hh;exact cP.imp (LY _) hh
 rw[if_neg c0];simp only[ne_eq,aey]at c0;subst c0;by_cases cm:W>bN-m
 ·rw[if_pos cm];have hh:=O4 l E done K W I fT V U M T Q N S P n h12 Ll h1.h12 j lj D dr Y pT pA sT sA code k1 k2 k3 k4 k5 k6 k7 ha aa0 q G C B p r6 r7 J L4 0 g m st O u Z (by rw[w3];exact aak cm);rw[w1,w2]at hh;exact cP.imp (LY _) hh
 rw[if_neg cm];obtain⟨x',y,e1,e2,e3,e4,e5⟩:=q4 rfl;subst e1;obtain⟨p1,p2,p3,p4,p5,p6,p7⟩:=x';obtain⟨y1,y2,y3,y4,y5,y6,y7⟩:=y;have cm':¬(W>1152921504606846976-m):=cm;have w4:i64.wrap (W+m)=W+m:=iy bn bn;simp only[eC]at e4;have hh:=L3 l E done K W I fT V U M T Q N S P n h12 Ll h1.h12 j lj D dr Y pT pA sT sA code k1 k2 k3 k4 k5 k6 k7 ha aa0 q G C B p r6 r7 J L4 0 g m [] O 11 0 0 [] [] [] p1 p2 p3 p4 p5 p6 p7 y1 y2 y3 y4 y5 y6 y7 bn u Z (by rw[w3];exact aap cm);rw[w1,w2,w4]at hh;exact hh
def Dz{w:Wk}{o:BD}(hw:Ld w)(ho:LS o)(fT:Int):gh 63 w [.c (ag fT),.c (.ip (Uz o))] (ag (orM w fT o).1) (orM w fT o).2:=by
 have hP:=jm o.t0 (by have:=ho.2.1;omega);have hS:=jm o.t1 (by have:=ho.2.2.1;omega);have h12:=hw.Dx.h12;have ah4:=hw.UA;have ahb:=hw.done;have k1:=jo (n:=o.t0);have k2:=jo (n:=o.t1);have A:=λp c2 c3 c4=>HS (w:=w) (o:=o) hw.Dx ho p c2 c3 c4;have hfree:=L6 hw.Dx;unfold newAcc at A;unfold orM newAcc;generalize aP o.t0=P at *;generalize aP o.t1=S at *;obtain⟨⟨W,M⟩,e0⟩:=P;obtain⟨⟨C,B⟩,e1⟩:=S;simp only at *;obtain⟨l,cC,done,K,az,I⟩:=w;obtain⟨T,to,Q,⟨O,a2,D,N,J⟩,⟨b1,b2,b3,b4,b5⟩,⟨p,c2,c3,c4,c5⟩,⟨H,G,u,E,U⟩⟩:=o;simp only at *;by_cases x0:e0≠0\/e1≠0
 ·rw[if_pos x0];refine aaN l cC done K az I fT h12 T to Q O a2 D N J b1 b2 b3 b4 b5 p c2 c3 c4 c5 H G u E U W M C B e0 e1 hP hS ?_ (e0 != 0) Z ?_
  ·rcases x0 with h|h
   ·rw[show(e0 != 0)=true by simpa using h];rfl
   ·rw[show(e1 != 0)=true by simpa using h];cases(e0 != 0)<;>rfl
  ·intro h;rcases x0 with h'|h'
   ·rw[show(e0 != 0)=true by simpa using h']at h;cases h
   ·simpa using h'
 rw[if_neg x0];have y0:e0=0/\e1=0:=by omega
 obtain⟨rfl,rfl⟩:=y0;have z1:=(cH (k1 Z)).2;have z2:=(cH (k2 Z)).2;have zn:=AA (.mk W M) (.mk C B) (.mk H G u E U) bn (by have:=ho.2.2.2;simp only at this;omega);by_cases x1:jb (.mk W M) (.mk C B) (.mk H G u E U)≠0
 ·rw[if_pos x1];exact aaO l cC done K az I fT h12 T to Q O a2 D N J b1 b2 b3 b4 b5 p c2 c3 c4 c5 H G u E U W M C B 0 0 hP hS Z Z _ zn (by simpa using x1)
 rw[if_neg x1];simp only[ne_eq,aey]at x1;rw[x1]at zn;have Y:=nH (.mk C B) (.mk O a2 D N J) bn (by have:=ho.1;simp only at this;omega);have zv:=xS (.mk C B) (.mk O a2 D N J);have hsz:=uF (gD (.mk C B) (.mk O a2 D N J)).1 (by have:=ho.1;simp only at this;omega);generalize gD (.mk C B) (.mk O a2 D N J)=V at *;obtain⟨⟨r1,r2,r3,r4,r5,r6,r7⟩,ev⟩:=V;simp only at *;by_cases x2:ev≠0
 ·rw[if_pos (.inl x2)];exact Yo l cC done K az I fT h12 T to Q O a2 D N J b1 b2 b3 b4 b5 p c2 c3 c4 c5 H G u E U W M C B 0 0 hP hS Z Z 0 zn Z r1 r2 r3 r4 r5 r6 r7 ev _ Y hsz (by simpa using x2)
 have y2:ev=0:=by omega
 subst y2;by_cases x3:200<gQ (.mk r1 r2 r3 r4 r5 r6 r7)
 ·rw[if_pos (.inr x3)];exact Yp l cC done K az I fT h12 T to Q O a2 D N J b1 b2 b3 b4 b5 p c2 c3 c4 c5 H G u E U W M C B 0 0 hP hS Z Z 0 zn Z r1 r2 r3 r4 r5 r6 r7 0 _ Y hsz Z (aak bn)
 rw[if_neg bn];refine aaP l cC done K az I fT h12 bn T to Q O a2 D N J b1 b2 b3 b4 b5 p c2 c3 c4 c5 H G u E U W M C B 0 0 hP hS Z Z 0 zn Z r1 r2 r3 r4 r5 r6 r7 0 _ Y hsz Z (aap bn) _ _ ?_ ?_
 ·intro h;rw[if_pos h];exact⟨Z,Z⟩
 ·intro i hi hi2;rw[if_neg bn];have hl:=A bn x1 bn bn;rw[hi]at hl ⊢;have hm:=EB _ hl.h12 hl.dr fT i Q;by_cases x4:jH (l.lB i ⟨2,0,0,.mk W M,.mk C B,U,.mk r1 r2 r3 r4 r5 r6 r7⟩) fT i Q=0
  ·have q:jH (l.lB i ⟨2,0,0,.mk W M,.mk C B,cI (.mk H G u E U),.mk r1 r2 r3 r4 r5 r6 r7⟩) fT i Q=0:=x4;rw[if_pos q,q]at hm;rw[if_neg (by rw[q];decide)];exact⟨_,0,(Jz hl q).1.h12,hm,.inr ⟨Z,Z,Z⟩⟩
  ·have q:jH (l.lB i ⟨2,0,0,.mk W M,.mk C B,cI (.mk H G u E U),.mk r1 r2 r3 r4 r5 r6 r7⟩) fT i Q≠0:=x4;rw[if_neg q]at hm;rw[if_pos q];exact⟨_,_,hl.h12,hm,.inl ⟨q,Z,Z⟩⟩
end Go.Proofs
set_option maxHeartbeats 0
namespace Go.Proofs
open Go.cK
def L7{w:Wk}{o:BD}(fT:Int)(h:w.made≠[]):(orM w fT o).2.made≠[]:=by
 unfold orM
 repeat' split
 all_goals first|exact h|(show w.made++_≠[];simp)
def xT{w w':Wk}(h:w.made≠[]->w'.made≠[]):(∃z,wO w=some z)->∃z,wO w'=some z:=λ⟨z,D⟩=>⟨_,Ys (h (acN D))⟩
def Rn.imp{f:FuncId}{w w':Wk}{J:L AV}{r C:CV}(I:∀g u,aL g (.c r) u->aL g (.c C) u)(q:gh f w J r w'):gh f w J C w':=cP.imp I q
attribute [local irreducible] AK af bg cn dP cP cU eG iO gm.de gm.lB wB gh
def EF{w:Wk}{x:Au}(O:Ld w)(K:Dw x):gh 44 w [.c (kE x)] (yR (nB w x).1) (nB w x).2:=by
 obtain⟨fT,op,⟨V,M,A,Q,N,U,P⟩⟩:=x;cases op with
 |none =>
  have hq:=wA O K A M;have Y:=xT (w:=w) (w':=(LO w ⟨fT,none,.mk V M A Q N U P⟩ A M).2) (λh=>by rw[Ay];exact h);show gh _ w _ (yR (LO w ⟨fT,none,.mk V M A Q N U P⟩ A M).1) (LO w ⟨fT,none,.mk V M A Q N U P⟩ A M).2;generalize LO w ⟨fT,none,.mk V M A Q N U P⟩ A M=R at *;obtain⟨⟨more,e⟩,w'⟩:=R;cases C:wO w with
  |none =>
   refine Le C func44 call44 λβ hf=>?_
   repeat' (first|exact wr|refine wz ?_|refine Yq Z Z hq C Z Z Z Z Z (λ_=>by repeat' (first|exact Z|refine GZ Z ?_|refine G0 Z ?_)) Z Z (λh=>?_) (λf h=>?_))
  |some z =>
   obtain⟨J,W⟩:=Y ⟨z,C⟩;refine Lf C func44 call44 λβ hf=>?_
   repeat' (first|exact wr|refine wz ?_|refine Yr Z Z hq C W Z Z Z Z Z Z Z (λ_=>by repeat' (first|exact Z|refine GZ Z ?_|refine G0 Z ?_)) Z Z Z ?_)
 |some o =>
  by_cases u:o.kind=1
  ·have hq:=wA O K o.to o.vu;have Y:=xT (w:=w) (w':=(LO w ⟨fT,some o,.mk V M A Q N U P⟩ o.to o.vu).2) (λh=>by rw[Ay];exact h);have S:nB w ⟨fT,some o,.mk V M A Q N U P⟩=LO w ⟨fT,some o,.mk V M A Q N U P⟩ o.to o.vu:=by unfold nB;exact if_pos u
   rw[S];generalize LO w ⟨fT,some o,.mk V M A Q N U P⟩ o.to o.vu=R at *;obtain⟨⟨more,e⟩,w'⟩:=R;obtain⟨T,to,I,⟨G,a2,D,E,B⟩,⟨q,p,b3,b4,b5⟩,⟨u,H,c3,c4,c5⟩,⟨d1,d2,d3,d4,d5⟩⟩:=o;simp only at *;have k1:(T==1)=true:=by simpa using ‹T=1›
   cases C:wO w with
   |none =>
    refine Le C func44 call44 λβ hf=>?_
    repeat' (first|exact wr|refine wz ?_|refine Yq Z Z hq C Z Z Z Z Z (λ_=>by repeat' (first|exact Z|refine GZ Z ?_|refine G0 Z ?_)) Z Z (λh=>?_) (λf h=>?_))
   |some z =>
    obtain⟨J,W⟩:=Y ⟨z,C⟩;refine Lf C func44 call44 λβ hf=>?_
    repeat' (first|exact wr|refine wz ?_|refine Yr Z Z hq C W Z Z Z Z Z Z Z (λ_=>by repeat' (first|exact Z|refine GZ Z ?_|refine G0 Z ?_)) Z Z Z ?_)
  have e1:(o.kind==1)=false:=by simpa using u
  by_cases H:o.kind=2
  ·have hq:=Dz O K fT;have Y:=xT (w:=w) (w':=(orM w fT o).2) (λh=>L7 fT h);have S:nB w ⟨fT,some o,.mk V M A Q N U P⟩=(([],(orM w fT o).1),(orM w fT o).2):=by unfold nB;dsimp only;rw[if_neg u,if_pos H]
   rw[S];generalize orM w fT o=R at *;obtain⟨e,w'⟩:=R;obtain⟨T,to,I,⟨G,a2,D,E,B⟩,⟨q,p,b3,b4,b5⟩,⟨u,H,c3,c4,c5⟩,⟨d1,d2,d3,d4,d5⟩⟩:=o;simp only at *;have k2:(T==2)=true:=by simpa using ‹T=2›
   refine Rn.imp (LY e) ?_;cases C:wO w with
   |none =>
    refine Le C func44 call44 λβ hf=>?_
    repeat' (first|exact wr|refine wz ?_|refine Yq Z Z hq C Z Z Z Z Z (λ_=>by repeat' (first|exact Z|refine GZ Z ?_|refine G0 Z ?_)) Z Z (λh=>?_) (λf h=>?_))
   |some z =>
    obtain⟨J,W⟩:=Y ⟨z,C⟩;refine Lf C func44 call44 λβ hf=>?_
    repeat' (first|exact wr|refine wz ?_|refine Yr Z Z hq C W Z Z Z Z Z Z Z (λ_=>by repeat' (first|exact Z|refine GZ Z ?_|refine G0 Z ?_)) Z Z Z ?_)
  have S:nB w ⟨fT,some o,.mk V M A Q N U P⟩=(([],3),w):=by unfold nB;dsimp only;rw[if_neg u,if_neg H]
  rw[S];obtain⟨T,to,I,⟨G,a2,D,E,B⟩,⟨q,p,b3,b4,b5⟩,⟨u,H,c3,c4,c5⟩,⟨d1,d2,d3,d4,d5⟩⟩:=o;simp only at *;have k2:(T==2)=false:=by simpa using ‹¬T=2›
  refine Rn.imp (LY 3) ?_;cases C:wO w with
  |none =>
   refine Le C func44 call44 λβ hf=>?_
   repeat' (first|exact wr|refine wz ?_)
  |some z =>
   refine Lf C func44 call44 λβ hf=>?_
   repeat' (first|exact wr|refine wz ?_)
end Go.Proofs
set_option maxHeartbeats 0
namespace Go.Proofs
open Go.cK
def Vi(w:Wk):L (Nat×L AV):=match wO w with
 |none=>[(1000000,wB w 0)]
 |some f=>[(1000000,wB w 900002),(900002,f.map AV.c)]
def wC{w:Wk}(h:wO w=none):Vi w=[(1000000,wB w 0)]:=by unfold Vi;rw[h]
def tw{w:Wk}{f:L CV}(h:wO w=some f):Vi w=[(1000000,wB w 900002),(900002,f.map AV.c)]:=by unfold Vi;rw[h]
def Ro(w:Wk):okB [1000000,900002,6000] (Vi w)=true:=by
 unfold Vi;cases h:wO w with
 |none=>exact wu (λO=>absurd h O) Z
 |some f=>exact wu (λ_=>rfl) (LX Z)
def Rp(w:Wk):O5 (Vi w) (Vi w):=by
 unfold Vi;cases h:wO w with
 |none=>exact⟨Z,trivial⟩
 |some f=>exact⟨Z,Z,trivial⟩
def wD(w:Wk):wO w=none\/∃z,wO w=some z:=by
 cases wO w with
 |none=>exact .inl Z
 |some z=>exact .inr ⟨z,Z⟩
def allM_nil(k:Nat)(w:Wk):allM k w []=(0,w):=by cases k<;>rfl
def xU{w:Wk}{x:Au}(h:w.made≠[]):(nB w x).2.made≠[]:=by
 unfold nB;obtain⟨fT,K,v⟩:=x;cases K with
 |none=>rw[Ay];exact h
 |some o =>
  dsimp only;split
  ·rw[Ay];exact h
  ·split
   ·exact L7 _ h
   ·exact h
attribute [local irreducible] AK af bg cn dP cP cU eG iO gm.de gm.lB wB gh
def O6{W:Wk}{A:Au}(U:Ld W)(p:(W.made.length:Int)<=W.done)(hx0:Dw A):gh 31 W [.c (kE A)] (ag (allM 25 W [A]).1) (allM 25 W [A]).2:=by
 obtain⟨R,hR⟩:∃R,R=allM 25 W [A]:=⟨_,rfl⟩
 rw[<- hR];obtain⟨Yt,M,⟨v1,v2,v3,v4,v5,v6,v7⟩⟩:=A;cases hm:wO W with
 |none =>
  refine Le hm func31 call31 λβ hf=>?_
  repeat' (first|exact wr|refine wz ?_)
  refine AK.fV [(1000000,1000000)] [(6000,(0,none))] (env':=[(0,.ptr 1000000 0),(5,.own (.tok 6000 0) 9 (dU [⟨Yt,M,.mk v1 v2 v3 v4 v5 v6 v7⟩]))]) (bs':=[(1000000,wB W 0)]) (ts':=[(6000,0)]) (us':=[1000000,900002,6000])
   ce  ⟨⟨_,_,Z,Z,(mo W).conv _ _ _ _ (λh=>absurd hm h)⟩,trivial⟩ Z ?_
  rw[<- wC hm];refine AK.eL (α:=Nat×Wk×L Au) (λz=>Ld z.2.1/\(z.2.1.made.length:Int)<=z.2.1.done/\(∀x∈z.2.2,Dw x)/\R=allM z.1 z.2.1 z.2.2/\(25:Int)<=z.1+z.2.1.done/\(z.2.2.length:Int)<=25+24*z.2.1.done) (λz=>(25-z.2.1.done).toNat)
   (λz=>[(0,.ptr 1000000 0),(5,.own (.tok 6000 0) 9 (dU z.2.2))]) (λz=>Vi z.2.1) (λ_=>[(6000,0)]) [1000000,900002,6000] (25,W,[⟨Yt,M,.mk v1 v2 v3 v4 v5 v6 v7⟩])
   ⟨U,p,λx O=>by rw[afD]at O;subst O;exact hx0,hR,Yz,abf⟩
   ce  (Rp W) ⟨Z,trivial⟩ Z (Ro W) Z ?_
  rintro⟨k,w,q⟩ ⟨N,Bt,C,I,hk,E⟩ ih;simp only at N Bt C I hk E ih;have hdn:=N.done;have h12:=N.Dx.h12;cases q with
  |nil =>
   rw[allM_nil]at I;subst I;clear ih;have e1:decide (((dU []).length:Int)>0)=false:=by decide
   rcases wD w with D|⟨z,D⟩
   ·rw[wC D]
    repeat' (first|exact wr|refine wz ?_)
   ·rw[tw D]
    repeat' (first|exact wr|refine wz ?_)
  |cons x q =>
   have e1:decide (((dU (x::q)).length:Int)>0)=true:=by rw[iH];exact aak dG
   cases k with
   |zero=>exfalso;omega
   |succ k =>
   simp only[allM]at I;by_cases u:24<=w.done
   ·rw[if_pos u]at I;subst I;clear ih;have e2:decide (w.done>=24)=true:=aak u;rcases wD w with D|⟨z,D⟩
    ·rw[wC D]
     repeat' (first|exact wr|refine wz ?_)
    ·rw[tw D]
     repeat' (first|exact wr|refine wz ?_)
   rw[if_neg u]at I;have e2:decide (w.done>=24)=false:=aap u;have O:=C x cS;have hq:=EF N O;have pK:=JD N Bt O;have Y:=xT (w:=w) (w':=(nB w x).2) (λh=>xU h);have hlen:=iH;generalize nB w x=S at *;obtain⟨⟨more,e⟩,w'⟩:=S;obtain⟨V,s2,s3,s4,s5,s6,s7,s8⟩:=pK;simp only at V s2 s3 s4 s5 s6 s7 s8 hq I Y;obtain⟨fT,op,⟨y1,y2,y3,y4,y5,y6,y7⟩⟩:=x;by_cases H:e≠0
   ·rw[if_pos H]at I;subst I;clear ih;have e3:(e != 0)=true:=by simpa using H
    have Q:=V.Dx.h12;rcases wD w with D|⟨z,D⟩
    ·rw[wC D]
     repeat' (first|exact wr|refine wz ?_|refine Yq Z Z hq D Z Z Z Z Z (λ_=>by repeat' (first|exact Z|refine GZ Z ?_|refine G0 Z ?_)) Z Z (λh=>?_) (λf h=>?_)|refine af.qH hX kn Z Z Z Z Z Z Z Z (l:=1) Z (afy (aeE _)) ?_)
    ·obtain⟨z',J⟩:=Y ⟨z,D⟩;rw[tw D]
     repeat' (first|exact wr|refine wz ?_|refine Yr Z Z hq D J Z Z Z Z Z Z Z (λ_=>by repeat' (first|exact Z|refine GZ Z ?_|refine G0 Z ?_)) Z Z Z ?_|refine af.qH hX kn Z Z Z Z Z Z Z Z (l:=1) Z (afy (aeE _)) ?_)
   rw[if_neg H]at I;have e3:(e != 0)=false:=by simpa using H
   have B:i64.wrap (w'.done+1)=w'.done+1:=iy bn bn;have Q:=V.Dx.h12;have afr:({w' with done:=i64.wrap (w'.done+1)}:Wk).l.br.length=12:=Q;have P:dU q++dU more=dU (q++more):=(rU _ _).symm
   have K:=ih (k,{w' with done:=w'.done+1},q++more) ⟨⟨V.Dx,V.cC,V.az,by show 0<=w'.done+1/\w'.done+1<=24;omega,ZY⟩,V.UA,λy G=>by
    rcases List.mem_append.1 G with G|G
    ·exact C y adw
    ·exact s2 y G,I,XM,aaR⟩ abh
   clear ih;rw[<- B]at K;have T:((dU q).length+(dU more).length)*128<=140737488355328:=by
    rw[iH,iH];simp only[aac]at E;omega
   rcases wD w with D|⟨z,D⟩
   ·rw[wC D]
    repeat' (first|exact wr|refine wz ?_|refine Yq Z Z hq D Z Z Z Z Z (λ_=>by repeat' (first|exact Z|refine GZ Z ?_|refine G0 Z ?_)) Z Z (λh=>?_) (λf h=>?_)|refine af.qH hX kn Z Z Z Z Z Z Z Z (l:=1) Z (afy (aeE _)) ?_|(refine uA Z ?_ ?_<;>(try (show(_:Nat)*_<=_;dsimp only))))
    ·exact T
    ·refine AK.fV [(1000000,1000000)] [(6000,(0,some 6000))] (env':=[(0,.ptr 1000000 0),(5,.own (.tok 6000 0) 9 (dU (q++more)))]) (bs':=[(1000000,wB {w' with done:=i64.wrap (w'.done+1)} 0)]) (ts':=[(6000,0)]) (us':=[1000000,900002,6000])
      ⟨⟨_,rfl,⟨_,rfl,rfl⟩⟩,⟨_,rfl,⟨_,rfl,.inr ⟨_,_,rfl,rfl,aeb (AV.own (.tok 6000 1) 9) P⟩⟩⟩,trivial⟩ ⟨⟨_,_,rfl,rfl,(mo {w' with done:=i64.wrap (w'.done+1)}).conv _ _ _ _ (λhh=>absurd h hh)⟩,trivial⟩ rfl ?_
     rw[<- wC (w:={w' with done:=i64.wrap (w'.done+1)}) h];exact K
    ·exact T
    ·refine AK.fV [(1000000,1000000),(900002,200028)] [(6000,(0,some 6000))] (env':=[(0,.ptr 1000000 0),(5,.own (.tok 6000 0) 9 (dU (q++more)))]) (bs':=[(1000000,wB {w' with done:=i64.wrap (w'.done+1)} 900002),(900002,f.map AV.c)]) (ts':=[(6000,0)]) (us':=[1000000,900002,6000])
      ⟨⟨_,rfl,⟨_,rfl,rfl⟩⟩,⟨_,rfl,⟨_,rfl,.inr ⟨_,_,rfl,rfl,aeb (AV.own (.tok 6000 1) 9) P⟩⟩⟩,trivial⟩ ⟨⟨_,_,rfl,rfl,(mo {w' with done:=i64.wrap (w'.done+1)}).conv _ _ _ _ (λ_=>rfl)⟩,⟨_,_,rfl,rfl,cN _⟩,trivial⟩ rfl ?_
     rw[<- tw (w:={w' with done:=i64.wrap (w'.done+1)}) h];exact K
   ·obtain⟨z',J⟩:=Y ⟨z,D⟩;rw[tw D]
    repeat' (first|exact wr|refine wz ?_|refine Yr Z Z hq D J Z Z Z Z Z Z Z (λ_=>by repeat' (first|exact Z|refine GZ Z ?_|refine G0 Z ?_)) Z Z Z ?_|refine af.qH hX kn Z Z Z Z Z Z Z Z (l:=1) Z (afy (aeE _)) ?_|(refine uA Z ?_ ?_<;>(try (show(_:Nat)*_<=_;dsimp only))))
    ·exact T
    ·refine AK.fV [(1000000,1000000),(900002,200028)] [(6000,(0,some 6000))] (env':=[(0,.ptr 1000000 0),(5,.own (.tok 6000 0) 9 (dU (q++more)))]) (bs':=[(1000000,wB {w' with done:=i64.wrap (w'.done+1)} 900002),(900002,z'.map AV.c)]) (ts':=[(6000,0)]) (us':=[1000000,900002,6000])
      ⟨⟨_,rfl,⟨_,rfl,rfl⟩⟩,⟨_,rfl,⟨_,rfl,.inr ⟨_,_,rfl,rfl,aeb (AV.own (.tok 6000 1) 9) P⟩⟩⟩,trivial⟩ ⟨⟨_,_,rfl,rfl,(mo {w' with done:=i64.wrap (w'.done+1)}).conv _ _ _ _ (λ_=>rfl)⟩,⟨_,_,rfl,rfl,cN _⟩,trivial⟩ rfl ?_
     rw[<- tw (w:={w' with done:=i64.wrap (w'.done+1)}) J];exact K
 |some z0 =>
  refine Lf hm func31 call31 λβ hf=>?_
  repeat' (first|exact wr|refine wz ?_)
  refine AK.fV [(1000000,1000000),(900002,1000002)] [(6000,(0,none))] (env':=[(0,.ptr 1000000 0),(5,.own (.tok 6000 0) 9 (dU [⟨Yt,M,.mk v1 v2 v3 v4 v5 v6 v7⟩]))]) (bs':=[(1000000,wB W 900002),(900002,z0.map AV.c)]) (ts':=[(6000,0)]) (us':=[1000000,900002,6000])
   ce  ⟨⟨_,_,Z,Z,(mo W).conv _ _ _ _ (λ_=>rfl)⟩,⟨_,_,Z,Z,cN _⟩,trivial⟩ Z ?_
  rw[<- tw hm];refine AK.eL (α:=Nat×Wk×L Au) (λz=>Ld z.2.1/\(z.2.1.made.length:Int)<=z.2.1.done/\(∀x∈z.2.2,Dw x)/\R=allM z.1 z.2.1 z.2.2/\(25:Int)<=z.1+z.2.1.done/\(z.2.2.length:Int)<=25+24*z.2.1.done) (λz=>(25-z.2.1.done).toNat)
   (λz=>[(0,.ptr 1000000 0),(5,.own (.tok 6000 0) 9 (dU z.2.2))]) (λz=>Vi z.2.1) (λ_=>[(6000,0)]) [1000000,900002,6000] (25,W,[⟨Yt,M,.mk v1 v2 v3 v4 v5 v6 v7⟩])
   ⟨U,p,λx O=>by rw[afD]at O;subst O;exact hx0,hR,Yz,abf⟩
   ce  (Rp W) ⟨Z,trivial⟩ Z (Ro W) Z ?_
  rintro⟨k,w,q⟩ ⟨N,Bt,C,I,hk,E⟩ ih;simp only at N Bt C I hk E ih;have hdn:=N.done;have h12:=N.Dx.h12;cases q with
  |nil =>
   rw[allM_nil]at I;subst I;clear ih;have e1:decide (((dU []).length:Int)>0)=false:=by decide
   rcases wD w with D|⟨z,D⟩
   ·rw[wC D]
    repeat' (first|exact wr|refine wz ?_)
   ·rw[tw D]
    repeat' (first|exact wr|refine wz ?_)
  |cons x q =>
   have e1:decide (((dU (x::q)).length:Int)>0)=true:=by rw[iH];exact aak dG
   cases k with
   |zero=>exfalso;omega
   |succ k =>
   simp only[allM]at I;by_cases u:24<=w.done
   ·rw[if_pos u]at I;subst I;clear ih;have e2:decide (w.done>=24)=true:=aak u;rcases wD w with D|⟨z,D⟩
    ·rw[wC D]
     repeat' (first|exact wr|refine wz ?_)
    ·rw[tw D]
     repeat' (first|exact wr|refine wz ?_)
   rw[if_neg u]at I;have e2:decide (w.done>=24)=false:=aap u;have O:=C x cS;have hq:=EF N O;have pK:=JD N Bt O;have Y:=xT (w:=w) (w':=(nB w x).2) (λh=>xU h);have hlen:=iH;generalize nB w x=S at *;obtain⟨⟨more,e⟩,w'⟩:=S;obtain⟨V,s2,s3,s4,s5,s6,s7,s8⟩:=pK;simp only at V s2 s3 s4 s5 s6 s7 s8 hq I Y;obtain⟨fT,op,⟨y1,y2,y3,y4,y5,y6,y7⟩⟩:=x;by_cases H:e≠0
   ·rw[if_pos H]at I;subst I;clear ih;have e3:(e != 0)=true:=by simpa using H
    have Q:=V.Dx.h12;rcases wD w with D|⟨z,D⟩
    ·rw[wC D]
     repeat' (first|exact wr|refine wz ?_|refine Yq Z Z hq D Z Z Z Z Z (λ_=>by repeat' (first|exact Z|refine GZ Z ?_|refine G0 Z ?_)) Z Z (λh=>?_) (λf h=>?_)|refine af.qH hX kn Z Z Z Z Z Z Z Z (l:=1) Z (afy (aeE _)) ?_)
    ·obtain⟨z',J⟩:=Y ⟨z,D⟩;rw[tw D]
     repeat' (first|exact wr|refine wz ?_|refine Yr Z Z hq D J Z Z Z Z Z Z Z (λ_=>by repeat' (first|exact Z|refine GZ Z ?_|refine G0 Z ?_)) Z Z Z ?_|refine af.qH hX kn Z Z Z Z Z Z Z Z (l:=1) Z (afy (aeE _)) ?_)
   rw[if_neg H]at I;have e3:(e != 0)=false:=by simpa using H
   have B:i64.wrap (w'.done+1)=w'.done+1:=iy bn bn;have Q:=V.Dx.h12;have afr:({w' with done:=i64.wrap (w'.done+1)}:Wk).l.br.length=12:=Q;have P:dU q++dU more=dU (q++more):=(rU _ _).symm
   have K:=ih (k,{w' with done:=w'.done+1},q++more) ⟨⟨V.Dx,V.cC,V.az,by show 0<=w'.done+1/\w'.done+1<=24;omega,ZY⟩,V.UA,λy G=>by
    rcases List.mem_append.1 G with G|G
    ·exact C y adw
    ·exact s2 y G,I,XM,aaR⟩ abh
   clear ih;rw[<- B]at K;have T:((dU q).length+(dU more).length)*128<=140737488355328:=by
    rw[iH,iH];simp only[aac]at E;omega
   rcases wD w with D|⟨z,D⟩
   ·rw[wC D]
    repeat' (first|exact wr|refine wz ?_|refine Yq Z Z hq D Z Z Z Z Z (λ_=>by repeat' (first|exact Z|refine GZ Z ?_|refine G0 Z ?_)) Z Z (λh=>?_) (λf h=>?_)|refine af.qH hX kn Z Z Z Z Z Z Z Z (l:=1) Z (afy (aeE _)) ?_|(refine uA Z ?_ ?_<;>(try (show(_:Nat)*_<=_;dsimp only))))
    ·exact T
    ·refine AK.fV [(1000000,1000000)] [(6000,(0,some 6000))] (env':=[(0,.ptr 1000000 0),(5,.own (.tok 6000 0) 9 (dU (q++more)))]) (bs':=[(1000000,wB {w' with done:=i64.wrap (w'.done+1)} 0)]) (ts':=[(6000,0)]) (us':=[1000000,900002,6000])
      ⟨⟨_,rfl,⟨_,rfl,rfl⟩⟩,⟨_,rfl,⟨_,rfl,.inr ⟨_,_,rfl,rfl,aeb (AV.own (.tok 6000 1) 9) P⟩⟩⟩,trivial⟩ ⟨⟨_,_,rfl,rfl,(mo {w' with done:=i64.wrap (w'.done+1)}).conv _ _ _ _ (λhh=>absurd h hh)⟩,trivial⟩ rfl ?_
     rw[<- wC (w:={w' with done:=i64.wrap (w'.done+1)}) h];exact K
    ·exact T
    ·refine AK.fV [(1000000,1000000),(900002,200028)] [(6000,(0,some 6000))] (env':=[(0,.ptr 1000000 0),(5,.own (.tok 6000 0) 9 (dU (q++more)))]) (bs':=[(1000000,wB {w' with done:=i64.wrap (w'.done+1)} 900002),(900002,f.map AV.c)]) (ts':=[(6000,0)]) (us':=[1000000,900002,6000])
      ⟨⟨_,rfl,⟨_,rfl,rfl⟩⟩,⟨_,rfl,⟨_,rfl,.inr ⟨_,_,rfl,rfl,aeb (AV.own (.tok 6000 1) 9) P⟩⟩⟩,trivial⟩ ⟨⟨_,_,rfl,rfl,(mo {w' with done:=i64.wrap (w'.done+1)}).conv _ _ _ _ (λ_=>rfl)⟩,⟨_,_,rfl,rfl,cN _⟩,trivial⟩ rfl ?_
     rw[<- tw (w:={w' with done:=i64.wrap (w'.done+1)}) h];exact K
   ·obtain⟨z',J⟩:=Y ⟨z,D⟩;rw[tw D]
    repeat' (first|exact wr|refine wz ?_|refine Yr Z Z hq D J Z Z Z Z Z Z Z (λ_=>by repeat' (first|exact Z|refine GZ Z ?_|refine G0 Z ?_)) Z Z Z ?_|refine af.qH hX kn Z Z Z Z Z Z Z Z (l:=1) Z (afy (aeE _)) ?_|(refine uA Z ?_ ?_<;>(try (show(_:Nat)*_<=_;dsimp only))))
    ·exact T
    ·refine AK.fV [(1000000,1000000),(900002,200028)] [(6000,(0,some 6000))] (env':=[(0,.ptr 1000000 0),(5,.own (.tok 6000 0) 9 (dU (q++more)))]) (bs':=[(1000000,wB {w' with done:=i64.wrap (w'.done+1)} 900002),(900002,z'.map AV.c)]) (ts':=[(6000,0)]) (us':=[1000000,900002,6000])
      ⟨⟨_,rfl,⟨_,rfl,rfl⟩⟩,⟨_,rfl,⟨_,rfl,.inr ⟨_,_,rfl,rfl,aeb (AV.own (.tok 6000 1) 9) P⟩⟩⟩,trivial⟩ ⟨⟨_,_,rfl,rfl,(mo {w' with done:=i64.wrap (w'.done+1)}).conv _ _ _ _ (λ_=>rfl)⟩,⟨_,_,rfl,rfl,cN _⟩,trivial⟩ rfl ?_
     rw[<- tw (w:={w' with done:=i64.wrap (w'.done+1)}) J];exact K
end Go.Proofs
set_option maxHeartbeats 0
namespace Go.Proofs
open Go.cK
def wo.um{l:gm}(h:wo l):ah 43 [.agg (eG l)] (.bool true):=by
 have h1:=S7 l h.h12 (λa ha=>by have:=h.size a ha;unfold S3 at this;unfold xV;omega);rw[h.good]at h1;exact h1
def zo:∀l:L BD,(ir l).length=l.length
 |[]=>rfl
 |x::l=>by simp only[ir,aac,zo l]
attribute [local irreducible] AK af bg cn dP cP cU eG iO gm.de gm.lB wB gh
def wq{p:Prop}(h:p:=by exact uQ hf Z Z Z):p:=h
def EG{a b:Bool}(h:a=true):(bif a then true else b)=true:=by rw[h];rfl
def tC{a b c:Bool}(h:a=false)(h2:b=c):(bif a then true else b)=c:=by rw[h,h2];rfl
def wE{b c:Bool}(h2:b=c):(bif false then true else b)=c:=h2
def S8{l:gm}(T:wo l)(b:yJ):ah 30 [.agg (eG l),zj b] (ag (Dv l b)):=by
 have hG:=T.um;have h12:=T.h12;obtain⟨S,G,D,E,ops⟩:=b;have zl:=zo ops;unfold Dv;rw[if_neg (by rw[T.good];decide)];simp only;by_cases p:S<0\/4<=S
 ·rw[if_pos p];by_cases O:S<0
  ·have I:=aak O;have n1:=EG (b:=decide (S>=4)) I;refine qn func30 call30 λβ hf=>?_
   repeat' (first|exact wq|refine wz ?_|(intro h;rw[h]))
  ·have I:=aap O;have Q:decide (S>=4)=true:=aak bn;have n1:=tC I Q;have n2:=wE Q;refine qn func30 call30 λβ hf=>?_
   repeat' (first|exact wq|refine wz ?_|(intro h;rw[h]))
 rw[if_neg p];have I:decide (S<0)=false:=aap bn;have Q:decide (S>=4)=false:=aap bn;have n1:=tC I Q;have n2:=wE Q;obtain⟨i,rfl⟩:=afz (show 0<=S by omega);have hi:i<12:=by omega
 have lj:Nat.blt i 12=true:=by rw[afj];exact hi
 have ha:=ng (l:=l) (i:=i) h12 bn bn;rw[aaC]at ha;have hb:=T.dr _ (aaB ha);have hc:0<=(iG l i).cnt/\(iG l i).cnt<=1152921504606846976:=by
  have h:=T.get ha;unfold tD G1 at h;simp at h;omega
 generalize iG l i=a at *;obtain⟨is,dr,Y,⟨pT,pA⟩,⟨sT,sA⟩,code,⟨k1,k2,k3,k4,k5,k6,k7⟩⟩:=a;simp only at hb hc ⊢;obtain⟨qq,A⟩:=sL ha;have d1:=A 1 _ Z;have d2:=A 2 _ Z;clear A;have P:i64.wrap (Y+1)=Y+1:=iy bn bn;by_cases H:bN<=Y\/G≠Y+1
 ·rw[if_pos H];by_cases O:bN<=Y
  ·have N:decide (Y>=1152921504606846976)=true:=aak O;have n3:=EG (b:=(G != i64.wrap (Y+1))) N;refine qn func30 call30 λβ hf=>?_
   repeat' (first|exact wq|refine wz ?_|(intro h;rw[h]))
  ·have N:decide (Y>=1152921504606846976)=false:=aap O;have M:(G != i64.wrap (Y+1))=true:=by rw[P];simpa using H.resolve_left O
   have n3:=tC N M;have n4:=wE M;refine qn func30 call30 λβ hf=>?_
   repeat' (first|exact wq|refine wz ?_|(intro h;rw[h]))
 rw[if_neg H];have N:decide (Y>=1152921504606846976)=false:=aap (λh=>H (.inl h));have M:(G != i64.wrap (Y+1))=false:=by rw[P];simpa using λh=>H (.inr h)
 have n3:=tC N M;have n4:=wE M;by_cases c3:D<0\/E<0\/1048576<E
 ·rw[if_pos c3];by_cases c4:D<0
  ·have q:=aak c4;have n5:=EG (b:=decide (E<0)) q;have u:=EG (b:=decide (E>1048576)) n5;have n7:(bif true then true else decide (E>1048576))=true:=rfl;refine qn func30 call30 λβ hf=>?_
   repeat' (first|exact wq|refine wz ?_|(intro h;rw[h]))
  have q:=aap c4;by_cases c5:E<0
  ·have V:=aak c5;have n5:=tC q V;have W:=wE V;have u:=EG (b:=decide (E>1048576)) n5;have K:=EG (b:=decide (E>1048576)) W;refine qn func30 call30 λβ hf=>?_
   repeat' (first|exact wq|refine wz ?_|(intro h;rw[h]))
  have V:=aap c5;have U:decide (E>1048576)=true:=aak bn;have n5:=tC q V;have W:=wE V;have u:=tC n5 U;have K:=tC W U;have n7:=wE U;refine qn func30 call30 λβ hf=>?_
  repeat' (first|exact wq|refine wz ?_|(intro h;rw[h]))
 rw[if_neg c3];have q:decide (D<0)=false:=aap bn;have V:decide (E<0)=false:=aap bn;have U:decide (E>1048576)=false:=aap bn;have n5:=tC q V;have W:=wE V;have u:=tC n5 U;have K:=tC W U;have n7:=wE U;by_cases c6:ops.length=0\/8<ops.length
 ·rw[if_pos c6];by_cases c7:ops.length=0
  ·have J:((((ir ops).length:Nat):Int)==0)=true:=by rw[agA];omega
   have n8:=EG (b:=decide ((((ir ops).length:Nat):Int)>8)) J;refine qn func30 call30 λβ hf=>?_
   repeat' (first|exact wq|refine wz ?_|(intro h;rw[h]))
  ·have J:((((ir ops).length:Nat):Int)==0)=false:=by rw[afs];omega
   have C:decide ((((ir ops).length:Nat):Int)>8)=true:=aak bn;have n8:=tC J C;have n9:=wE C;refine qn func30 call30 λβ hf=>?_
   repeat' (first|exact wq|refine wz ?_|(intro h;rw[h]))
 rw[if_neg c6];have J:((((ir ops).length:Nat):Int)==0)=false:=by rw[afs];omega
 have C:decide ((((ir ops).length:Nat):Int)>8)=false:=aap bn;have n8:=tC J C;have n9:=wE C;by_cases B:dr<D
 ·rw[if_pos B];have ea:decide (D>dr)=true:=aak B;refine qn func30 call30 λβ hf=>?_
  repeat' (first|exact wq|refine wz ?_|(intro h;rw[h]))
 ·rw[if_neg B];have ea:decide (D>dr)=false:=aap B;refine qn func30 call30 λβ hf=>?_
  repeat' (first|exact wq|refine wz ?_|(intro h;rw[h]))
end Go.Proofs
set_option maxHeartbeats 0
namespace Go.Proofs
open Go.cK
def CD:∀(a b:L AV),a.length<=b.length->bV 0 a b=some (a++b.drop a.length)
 |[],b,_=>by rw[wg];rfl
 |x::a,[],h=>by simp at h
 |x::a,y::b,h=>by
  simp only[bV,CD a b oy,adU,aac,afB]
def Yu{X:Ctx}{bs:L (Nat×L AV)}{ρ:Operand->Option AV}{t N S:Nat}{i Y W:TI}{Q:L (Nat×Nat)}{z:L AV}{x y:Operand}{Ll:gm}{g:Int}(K:X.ti t=some i)(D:i.kind = .struct Q)(P:i.zero=some (.agg z))(O:nth Q 0=some (0,N))(V:nth Q 1=some (181,S))
  (U:X.ti N=some Y)(A:Y.size=181)(T:X.ti S=some W)(M:W.size=1)(u:ρ x=some (.agg (cU Ll)))(J:Ll.br.length=12)(G:ρ y=some (.c (ag g)))(I:z.length=187)(H:z.drop 181=[.c (ag 0),.c (ag 0),.c (ag 0),.c (ag 0),.c (ag 0),.own .exact 1 []]) :
  gy X bs ρ (.build t #[(0,x),(1,y)])=some (.agg (wB ⟨Ll,g,0,0,0,[]⟩ 0)):=by
 have E:=jR J;have h1:=CD (cU Ll) z (by rw[E,I];decide);rw[E,H]at h1;have h2:=nF (cU Ll) 0 [.c (ag g)] [.c (ag 0),.c (ag 0),.c (ag 0),.c (ag 0),.c (ag 0),.own .exact 1 []] _ Z;rw[E]at h2;have B:Nat.beq (cU Ll).length Y.size=true:=by rw[E,A];rfl
 have q:Nat.beq [AV.c (ag g)].length W.size=true:=by rw[M];rfl
 have C:jA (.agg (cU Ll))=some (cU Ll):=rfl;have p:jA (.c (ag g))=some [.c (ag g)]:=rfl;simp only[gy,K,D,P,rW,O,V,u,G,U,T,C,p,B,q,h1,h2];rfl
def G2{X:Ctx}{bs:L (Nat×L AV)}{env:Env}{t ty T W:Nat}{i P:TI}{p off V Y:Nat}{cells r O u:L AV}{v M:AV}(K:X.ti ty=some i)(N:aK X env (.tmp t)=some (.ptr p off))(G:an p bs=some cells)(J:eu off cells=some r)(I:lH i r=some v)
  (U:X.ti W=some P)(H:aK X env (.tmp T)=some (.ptr V Y))(E:an V bs=some O)(S:eu Y O=some u)(Q:lH P u=some M):lZ X bs env [.cell t ty,.cell T W]=some (.eY [v,M]):=by
 have h1:gy X bs (aK X env) (.load ty (.tmp t))=some v:=by simp only[gy,K,N,G,J,I]
 have h2:gy X bs (aK X env) (.load W (.tmp T))=some M:=by simp only[gy,U,H,E,S,Q]
 simp only[lZ,qF,h1,h2]
def EI(l:gm){v:AV}{c:CV}(h:close v=some c):close (.eY [.agg (cU l),v])=some (.eY [.agg (eG l),c]):=by
 simp only[close,pO,xW l,h];rw[show pO (cU l)=some (eG l)from xX _]
end Go.Proofs
