/- A part of the proof. -/
import Derived.Test.YtpnpbmbdkinajaaGreatDoorChn4G
import Derived.Test.YtpnpbmbdkinajaaGreatDoorChnFG
set_option linter.all false
set_option maxHeartbeats 0
set_option maxRecDepth 100000
open Go.IntKind Go.Proofs.Tryz
namespace Go.Proofs
open Go.cE
section
variable {ops:tal}{o:Oper}{rest:L Oper}{env:Env}{acc:L Fp}{Q:Env->St->L Fp->Prop}{bs:tab}{ts:tad}{us:Ω}
def uWn(N:cZ ops.toList kn env o=some true){f:FuncId}{args:tam}{T:Array TypeId}(S:o.op = .call {callee := .value (.func f),args:=args,argTypes:=T}){w C:Wk}{U:Φ}{r:CV}(B:gl f w U r C)(W:wO w=none){d:Nat}(A:o.dst=some d)
  {l:Φ}(E:ir (aJ Tryz.X env) args.toList=some l){I:Nat}{V:Φ}(Y:l = .ptr I 0::V){K:Φ}(y:au I bs=some K)(P:K=wB w 0)(q:∀ts,fT ⟨λk=>au k [(1000000,I)],λ_=>none⟩ ts U V)(O:WW us I (200000+d))
  {F:tab}(M:lK [I] bs=F)
  (G:wO C=none->mM ops rest ((d,.c r)::env) ⟨(I,wB C 0)::F,ts,I::us⟩ (⟨[],[I,I,I]⟩::acc) Q)
  (J:∀z,wO C=some z->mM ops rest ((d,.c r)::env) ⟨(I,wB C (200000+d))::(200000+d,z.map AV.c)::F,ts,I::(200000+d)::us⟩ (⟨[],[I,I,200000+d,I,200000+d]⟩::acc) Q) :
  mM ops (o::rest) env ⟨bs,ts,us⟩ acc Q:=by
 unfold gl at B;rw[W]at B;have D:=nI w;rw[W]at D;subst Y;exact ag.afx kn N S B D (nI C) A E y P (λts=>⟨_,_,Z,⟨_,fo,Z⟩,q ts⟩) O M G J
def uWs(q:cZ ops.toList kn env o=some true){f:FuncId}{args:tam}{T:Array TypeId}(M:o.op = .call {callee := .value (.func f),args:=args,argTypes:=T}){w x:Wk}{U:Φ}{r:CV}(t:gl f w U r x){V S:Ψ}(P:wO w=some V)(Y:wO x=some S){d:Nat}(A:o.dst=some d)
  {l:Φ}(E:ir (aJ Tryz.X env) args.toList=some l){F z:Nat}{O:Φ}(W:l = .ptr F 0::O){N J:Φ}(m:au F bs=some N)(I:N=wB w z)(B:au z bs=some J)(H:J=V.map AV.c)(G:∀ts,fT ⟨λk=>au k [(1000000,F),(1000002,z)],λ_=>none⟩ ts U O)(C:WW us F (200000+d))(K:Nat.beq F z=false)
  {y:tab}(p:lK [F,z] bs=y)
  (j:mM ops rest ((d,.c r)::env) ⟨(F,wB x (200000+d))::(200000+d,S.map AV.c)::y,ts,F::(200000+d)::us⟩ (⟨[],[F,z,F,200000+d,F,200000+d]⟩::acc) Q) :
  mM ops (o::rest) env ⟨bs,ts,us⟩ acc Q:=by
 unfold gl at t;rw[P,Y]at t;have D:=nI w;rw[P]at D;have u:=nI x;rw[Y]at u;subst W;exact ag.afy kn q M t D u A E m I B H (λts=>⟨_,_,Z,⟨_,fo,Z⟩,G ts⟩) C K p j
end
def acO{w:Wk}(h:w.made≠[]):wO w=some (bD (ez w.made)):=by
 unfold wO;cases Y:w.made with
 |nil=>exact absurd Y h
 |cons x r=>rfl
def ahH{w:Wk}{q:Ψ}(h:wO w=some q):w.made≠[]:=by intro Y;unfold wO at h;rw[Y]at h;cases h
def CK(w:Wk)(x:ur)(to n:Int):(zh w x to n).2.made=w.made:=by
 unfold zh Fo;dsimp only
 repeat' split
 all_goals rfl
def zz{w:Wk}{x:ur}(hw:rY w)(hx:sn x)(to n:Int):gl 32 w [.c (lM x),.c (ah to),.c (ah n)] (Bn (zh w x to n).1) (zh w x to n).2:=by
 have W8:=hw.qw.cK;have Q:=hw.qw.h12;have T:=Hu w.l Q W8 x.dX to n;have BJ:=hw.bC;have jV:=hw.aj;have ω:=zp x (.mk 1 []) bn hx;have χ:=AE hx (.mk 1 []);unfold zh;by_cases e:jm w.l x.dX to n≠0
 ·rw[if_pos e];rw[if_neg e]at T;obtain⟨l,W,done,S,V,O⟩:=w;have υ:=x.dX;obtain⟨dX,N,⟨u,I,P,M,A,H,U⟩⟩:=x;exact cA.imp (PK _) (PL l W done S V O dX N u I P M A H U to n _ Q e T)
 rw[if_neg e];simp only[ne_eq,ahI]at e;rw[if_pos e,e]at T;obtain⟨F,j,rfl,hj,τ⟩:=xD hw.qw e;obtain⟨i,_,aF,_,ρ,_,yG,_,_,_,h0,hM,_⟩:=AD Q e;have hi:i<12:=by have:=(List.getElem?_eq_some_iff.1 yG).1;omega
 have J:=gm (l:=rI w.l x.dX j n) (i:=j) F.h12 ai ai;rw[acn]at J;generalize rI w.l x.dX j n=Ll at *;generalize aR Ll j=a at *;have lj:Nat.blt j 12:=by rw[ajd];exact hj
 have Kf:=F.get J;have p:=F.size a (acm J);have Kg:=zp x a.param (by have:=p.1;omega) hx;have ψ:=AE hx a.param;obtain⟨l,W,done,S,V,O⟩:=w;simp only at *;by_cases G:a.is=1
 ·rw[if_pos G];by_cases c:(jY x (.mk 1 [])).2≠0
  ·rw[if_pos c];generalize jY x (.mk 1 [])=r at *;obtain⟨⟨D,B,q,z,t,f,d⟩,er⟩:=r;obtain⟨dX,N,⟨u,I,P,M,A,H,U⟩⟩:=x;obtain⟨E,cK,Y,⟨b,pA⟩,⟨sT,sA⟩,code,⟨k1,k2,k3,k4,k5,k6,k7⟩⟩:=a;exact cA.imp (PK _) (PM l W done S V O dX N u I P M A H U n Q Ll F.h12 j lj E cK Y b pA sT sA code k1 k2 k3 k4 k5 k6 k7 J Rl D B q z t f d er afr T ω)
  rw[if_neg c];simp only[ne_eq,ahI]at c;generalize jY x (.mk 1 [])=r at *;obtain⟨⟨D,B,q,z,t,f,d⟩,er⟩:=r;obtain⟨dX,N,⟨u,I,P,M,A,H,U⟩⟩:=x;obtain⟨E,cK,Y,⟨b,pA⟩,⟨sT,sA⟩,code,⟨k1,k2,k3,k4,k5,k6,k7⟩⟩:=a;simp only at c;subst c;exact cA.imp (PK _) (PN l W done S V O dX N u I P M A H U n Q Ll F.h12 j lj E cK Y b pA sT sA code k1 k2 k3 k4 k5 k6 k7 J Rl D B q z t f d T ω)
 rw[if_neg G];have W4:a.is=2:=by rcases xE Kf with h|h|h<;>omega
 obtain⟨b1,b2,b3,b4,b5,b6⟩:=zy Kf W4;by_cases c:(jY x a.param).2≠0
 ·rw[if_pos c];generalize jY x a.param=r at *;obtain⟨⟨D,B,q,z,t,f,d⟩,er⟩:=r;obtain⟨dX,N,⟨u,I,P,M,A,H,U⟩⟩:=x;obtain⟨E,cK,Y,⟨b,pA⟩,⟨sT,sA⟩,code,⟨k1,k2,k3,k4,k5,k6,k7⟩⟩:=a;exact cA.imp (PK _) (SX l W done S V O dX N u I P M A H U n Q Ll F.h12 j lj E cK Y b pA sT sA code k1 k2 k3 k4 k5 k6 k7 J Rl D B q z t f d er afr T Kg)
 rw[if_neg c];simp only[ne_eq,ahI]at c;rcases ψ with ⟨_,hf,hz⟩|h
 rotate_left;omega;have hr:=S0 (to:=j) (dX:=x.dX) (n:=n) (cK:=a.cK) (code:=a.code) (param:=a.param) (store:=a.store) (v:=(jY x a.param).1) (keep:=a.keep) (g:=W) ⟨ai,ai⟩ ⟨ai,ai⟩ ⟨h0,hM⟩ b1 b4 hf b5 hz p.2.2 b6 ai
 have C:=WV j x.dX n a.cK W (.mk 3 0 0 [] a.code) (by simp only[bE,aav];have:=p.2.1;omega) [.mk 11 [a.param,a.store]] (by simp only[bf,bh];have:=p.1;omega) [.mk 11 0 0 [] [(jY x a.param).1,a.keep] [] []] (λv hv=>by
  rw[ait]at hv;subst hv;have:=p.2.2
  simp only[aG,aH,bf,aP,aav];omega) ai
 have e9:tf ⟨l,W,done,S,V,O⟩ x j n a (jY x a.param).1=oh j x.dX n a.cK (.mk 3 0 0 [] a.code) [.mk 11 [a.param,a.store]] [.mk 11 0 0 [] [(jY x a.param).1,a.keep] [] []] W:=rfl;rw[e9];generalize oh j x.dX n a.cK (.mk 3 0 0 [] a.code) [.mk 11 [a.param,a.store]] [.mk 11 0 0 [] [(jY x a.param).1,a.keep] [] []] W=r at hr C ⊢;generalize jY x a.param=v at *;obtain⟨⟨D,B,q,z,t,f,d⟩,er⟩:=v;simp only at c;subst c;obtain⟨dX,N,⟨u,I,P,M,A,H,U⟩⟩:=x;obtain⟨E,cK,Y,⟨b,pA⟩,⟨sT,sA⟩,code,⟨k1,k2,k3,k4,k5,k6,k7⟩⟩:=a;obtain⟨rc,st,K,g,m⟩:=r;obtain⟨q1,q2,q3,q4⟩:=hr;simp only at q1 q2 q3 q4 G W4;have π:m<=1152921504606846976:=q3.2;have ο:V<=1152921504606846976:=jV.2;have w1:i64.wrap (W-g)=W-g:=gW ai ai;have w2:i64.wrap (S+g)=S+g:=gW ai ai;have w3:i64.wrap (1152921504606846976-m)=1152921504606846976-m:=gW ai ai;unfold Fo;dsimp only;by_cases c0:rc≠0
 ·rw[if_pos c0];have hh:=SY l W done S V O dX N u I P M A H U n Q Ll F.h12 j lj E cK Y b pA sT sA code k1 k2 k3 k4 k5 k6 k7 J Rl D B q z t f d T Kg rc g m st K C (by simpa using c0);rw[w1,w2]at hh;exact cA.imp (PK _) hh
 rw[if_neg c0];simp only[ne_eq,ahI]at c0;subst c0;by_cases cm:V>bL-m
 ·rw[if_pos cm];have hh:=SZ l W done S V O dX N u I P M A H U n Q Ll F.h12 j lj E cK Y b pA sT sA code k1 k2 k3 k4 k5 k6 k7 J Rl D B q z t f d T Kg 0 g m st K C Z (by rw[w3];exact ace cm);rw[w1,w2]at hh;exact cA.imp (PK _) hh
 rw[if_neg cm];obtain⟨x',y,e1,e2,e3,e4,e5⟩:=q4 rfl;subst e1;obtain⟨p1,p2,p3,p4,p5,p6,p7⟩:=x';obtain⟨y1,y2,y3,y4,y5,y6,y7⟩:=y;have ξ:¬(V>1152921504606846976-m):=cm;have w4:i64.wrap (V+m)=V+m:=gW ai ai;simp only[cP]at e4;have hh:=PO l W done S V O dX N u I P M A H U n Q Ll F.h12 j lj E cK Y b pA sT sA code k1 k2 k3 k4 k5 k6 k7 J Rl D B q z t f d T Kg 0 g m [] K 11 0 0 [] [] [] p1 p2 p3 p4 p5 p6 p7 y1 y2 y3 y4 y5 y6 y7 ai C Z (by rw[w3];exact acf cm);rw[w1,w2,w4]at hh;exact hh
def Gj{w:Wk}{o:uz}(hw:rY w)(ho:vw o)(dX:Int):gl 33 w [.c (ah dX),.c (.ip (WR o))] (ah (orM w dX o).1) (orM w dX o).2:=by
 have hP:=ke o.t0 (by have:=ho.2.1;omega);have hS:=ke o.t1 (by have:=ho.2.2.1;omega);have Q:=hw.qw.h12;have ψ:=hw.Fs;have χ:=hw.done;have k1:=ki (n:=o.t0);have k2:=ki (n:=o.t1);have B:=λp z y c4=>we (w:=w) (o:=o) hw.qw ho p z y c4;have ω:=v9 hw.qw;unfold newAcc at B;unfold orM newAcc;generalize aM o.t0=P at *;generalize aM o.t1=S at *;obtain⟨⟨N,M⟩,x⟩:=P;obtain⟨⟨sT,C⟩,e1⟩:=S;simp only at *;obtain⟨l,bC,done,O,aj,Y⟩:=w;obtain⟨T,to,K,⟨J,F,I,q,E⟩,⟨b1,b2,b3,b4,b5⟩,⟨p,z,y,c4,c5⟩,⟨G,H,u,D,A⟩⟩:=o;simp only at *;by_cases x0:x≠0\/e1≠0
 ·rw[if_pos x0];refine afA l bC done O aj Y dX Q T to K J F I q E b1 b2 b3 b4 b5 p z y c4 c5 G H u D A N M sT C x e1 hP hS ?_ (x != 0) Z ?_
  ·rcases x0 with h|h
   rw[show(x != 0) by simpa using h];rfl;rw[show(e1 != 0) by simpa using h];cases(x != 0)<;>rfl
  intro h;rcases x0 with h'|h'
  rw[show(x != 0) by simpa using h']at h;cases h;simpa using h'
 rw[if_neg x0];have y0:x=0/\e1=0:=by omega
 obtain⟨rfl,rfl⟩:=y0;have z1:=(bw (k1 Z)).2;have z2:=(bw (k2 Z)).2;have BH:=CL (.mk N M) (.mk sT C) (.mk G H u D A) ai (by have:=ho.2.2.2;simp only at this;omega);by_cases x1:iY (.mk N M) (.mk sT C) (.mk G H u D A)≠0
 ·rw[if_pos x1];exact afB l bC done O aj Y dX Q T to K J F I q E b1 b2 b3 b4 b5 p z y c4 c5 G H u D A N M sT C 0 0 hP hS Z Z _ BH (by simpa using x1)
 rw[if_neg x1];simp only[ne_eq,ahI]at x1;rw[x1]at BH;have U:=oS (.mk sT C) (.mk J F I q E) ai (by have:=ho.1;simp only at this;omega);have zv:=AF (.mk sT C) (.mk J F I q E);have t:=xG (gV (.mk sT C) (.mk J F I q E)).1 (by have:=ho.1;simp only at this;omega);generalize gV (.mk sT C) (.mk J F I q E)=V at *;obtain⟨⟨r,m,j,f,d,b,a⟩,ev⟩:=V;simp only at *;by_cases x2:ev≠0
 ·rw[if_pos (.inl x2)];exact acL l bC done O aj Y dX Q T to K J F I q E b1 b2 b3 b4 b5 p z y c4 c5 G H u D A N M sT C 0 0 hP hS Z Z 0 BH Z r m j f d b a ev _ U t (by simpa using x2)
 have y2:ev=0:=by omega
 subst y2;by_cases x3:200<iG (.mk r m j f d b a)
 ·rw[if_pos (.inr x3)];exact acM l bC done O aj Y dX Q T to K J F I q E b1 b2 b3 b4 b5 p z y c4 c5 G H u D A N M sT C 0 0 hP hS Z Z 0 BH Z r m j f d b a 0 _ U t Z (ace ai)
 rw[if_neg ai];refine afC l bC done O aj Y dX Q ai T to K J F I q E b1 b2 b3 b4 b5 p z y c4 c5 G H u D A N M sT C 0 0 hP hS Z Z 0 BH Z r m j f d b a 0 _ U t Z (acf ai) _ _ ?_ ?_;intro h;rw[if_pos h];exact⟨Z,Z⟩;intro i hi υ;rw[if_neg ai];have hl:=B ai x1 ai ai;rw[hi]at hl ⊢;have hm:=Hu _ hl.h12 hl.cK dX i K;by_cases x4:jm (l.iZ i ⟨2,0,0,.mk N M,.mk sT C,A,.mk r m j f d b a⟩) dX i K=0;have W:jm (l.iZ i ⟨2,0,0,.mk N M,.mk sT C,cw (.mk G H u D A),.mk r m j f d b a⟩) dX i K=0:=x4;rw[if_pos W,W]at hm;rw[if_neg (by rw[W];decide)];exact⟨_,0,(xD hl W).1.h12,hm,.inr ⟨Z,Z,Z⟩⟩;have W:jm (l.iZ i ⟨2,0,0,.mk N M,.mk sT C,cw (.mk G H u D A),.mk r m j f d b a⟩) dX i K≠0:=x4;rw[if_neg W]at hm;rw[if_pos W];exact⟨_,_,hl.h12,hm,.inl ⟨W,Z,Z⟩⟩
def PX{w:Wk}{o:uz}(dX:Int)(h:w.made≠[]):(orM w dX o).2.made≠[]:=by
 unfold orM
 repeat' split
 all_goals first|exact h|(show w.made++_≠[];simp)
def Az{w w':Wk}(h:w.made≠[]->w'.made≠[]):(∃z,wO w=some z)->∃z,wO w'=some z:=λ⟨z,P⟩=>⟨_,acO (h (ahH P))⟩
def Vz.imp{f:FuncId}{w U:Wk}{Y:Φ}{r H:CV}(V:∀g u,aX g (.c r) u->aX g (.c H) u)(q:gl f w Y r U):gl f w Y H U:=cA.imp V q
attribute [local irreducible] AK ag aZ bS de cA cq di gL eF.cF eF.iZ wB gl
def HF{w:Wk}{x:ur}(q:rY w)(N:sn x):gl 23 w [.c (lM x)] (Bn (dG w x).1) (dG w x).2:=by
 obtain⟨dX,op,⟨u,I,P,M,C,H,O⟩⟩:=x;cases op with
 |none =>
  have F:=zz q N P I;have Y:=Az (w:=w) (w':=(zh w ⟨dX,none,.mk u I P M C H O⟩ P I).2) (λh=>by rw[CK];exact h);show gl _ w _ (Bn (zh w ⟨dX,none,.mk u I P M C H O⟩ P I).1) (zh w ⟨dX,none,.mk u I P M C H O⟩ P I).2;generalize zh w ⟨dX,none,.mk u I P M C H O⟩ P I=R at *;obtain⟨⟨more,e⟩,w'⟩:=R;cases W:wO w with
  |none =>
   refine O5 W func23 call23 λy hf=>?_
   repeat' (first|exact wr|refine wz ?_|refine uWn Z Z F W Z Z Z Z Z (λ_=>by repeat' (first|exact Z|refine J8 Z ?_|refine J9 Z ?_)) Z Z (λh=>?_) (λf h=>?_))
  |some z =>
   obtain⟨Q,V⟩:=Y ⟨z,W⟩;refine O6 W func23 call23 λy hf=>?_
   repeat' (first|exact wr|refine wz ?_|refine uWs Z Z F W V Z Z Z Z Z Z Z (λ_=>by repeat' (first|exact Z|refine J8 Z ?_|refine J9 Z ?_)) Z Z Z ?_)
 |some o =>
  by_cases G:o.kind=1
  ·have F:=zz q N o.to o.vQ;have Y:=Az (w:=w) (w':=(zh w ⟨dX,some o,.mk u I P M C H O⟩ o.to o.vQ).2) (λh=>by rw[CK];exact h);have U:dG w ⟨dX,some o,.mk u I P M C H O⟩=zh w ⟨dX,some o,.mk u I P M C H O⟩ o.to o.vQ:=(by unfold dG;exact if_pos G);rw[U];generalize zh w ⟨dX,some o,.mk u I P M C H O⟩ o.to o.vQ=R at *;obtain⟨⟨more,e⟩,w'⟩:=R;obtain⟨T,to,K,⟨J,t,E,D,B⟩,⟨A,p,r,j,i⟩,⟨G,S,d,c4,b⟩,⟨d1,d2,d3,d4,a⟩⟩:=o;simp only at *;have k1:(T==1):=(by simpa using ‹T=1›);cases W:wO w with
   |none =>
    refine O5 W func23 call23 λy hf=>?_
    repeat' (first|exact wr|refine wz ?_|refine uWn Z Z F W Z Z Z Z Z (λ_=>by repeat' (first|exact Z|refine J8 Z ?_|refine J9 Z ?_)) Z Z (λh=>?_) (λf h=>?_))
   |some z =>
    obtain⟨Q,V⟩:=Y ⟨z,W⟩;refine O6 W func23 call23 λy hf=>?_
    repeat' (first|exact wr|refine wz ?_|refine uWs Z Z F W V Z Z Z Z Z Z Z (λ_=>by repeat' (first|exact Z|refine J8 Z ?_|refine J9 Z ?_)) Z Z Z ?_)
  have e1:(o.kind==1)=false:=by simpa using G
  by_cases S:o.kind=2
  ·have F:=Gj q N dX;have Y:=Az (w:=w) (w':=(orM w dX o).2) (λh=>PX dX h);have U:dG w ⟨dX,some o,.mk u I P M C H O⟩=(([],(orM w dX o).1),(orM w dX o).2):=(by unfold dG;dsimp only;rw[if_neg G,if_pos S]);rw[U];generalize orM w dX o=R at *;obtain⟨e,w'⟩:=R;obtain⟨T,to,K,⟨J,t,E,D,B⟩,⟨A,p,r,j,i⟩,⟨G,S,d,c4,b⟩,⟨d1,d2,d3,d4,a⟩⟩:=o;simp only at *;have k2:(T==2):=(by simpa using ‹T=2›);refine Vz.imp (PK e) ?_;cases W:wO w with
   |none =>
    refine O5 W func23 call23 λy hf=>?_
    repeat' (first|exact wr|refine wz ?_|refine uWn Z Z F W Z Z Z Z Z (λ_=>by repeat' (first|exact Z|refine J8 Z ?_|refine J9 Z ?_)) Z Z (λh=>?_) (λf h=>?_))
   |some z =>
    obtain⟨Q,V⟩:=Y ⟨z,W⟩;refine O6 W func23 call23 λy hf=>?_
    repeat' (first|exact wr|refine wz ?_|refine uWs Z Z F W V Z Z Z Z Z Z Z (λ_=>by repeat' (first|exact Z|refine J8 Z ?_|refine J9 Z ?_)) Z Z Z ?_)
  have U:dG w ⟨dX,some o,.mk u I P M C H O⟩=(([],3),w):=by unfold dG;dsimp only;rw[if_neg G,if_neg S]
  rw[U];obtain⟨T,to,K,⟨J,t,E,D,B⟩,⟨A,p,r,j,i⟩,⟨G,S,d,c4,b⟩,⟨d1,d2,d3,d4,a⟩⟩:=o;simp only at *;have k2:(T==2)=false:=by simpa using ‹¬T=2›
  refine Vz.imp (PK 3) ?_;cases W:wO w with
  |none =>
   refine O5 W func23 call23 λy hf=>?_
   repeat' (first|exact wr|refine wz ?_)
  |some z =>
   refine O6 W func23 call23 λy hf=>?_
   repeat' (first|exact wr|refine wz ?_)
end Go.Proofs
namespace Go.Proofs
open Go.cE
def Y4(w:Wk):tab:=match wO w with
 |none=>[(1000000,wB w 0)]
 |some f=>[(1000000,wB w 900002),(900002,f.map AV.c)]
def zB{w:Wk}(h:wO w=none):Y4 w=[(1000000,wB w 0)]:=by unfold Y4;rw[h]
def wg{w:Wk}{f:Ψ}(h:wO w=some f):Y4 w=[(1000000,wB w 900002),(900002,f.map AV.c)]:=by unfold Y4;rw[h]
def VA(w:Wk):okB [1000000,900002,6000] (Y4 w):=by
 unfold Y4;cases h:wO w with
 |none=>exact zq (λp=>absurd h p) Z
 |some f=>exact zq (λ_=>rfl) (Px Z)
def VB(w:Wk):SO (Y4 w) (Y4 w):=by
 unfold Y4;cases h:wO w with
 |none=>exact⟨Z,trivial⟩
 |some f=>exact⟨Z,Z,trivial⟩
def y9(w:Wk):wO w=none\/∃z,wO w=some z:=by
 cases wO w with
 |none=>exact .inl Z
 |some z=>exact .inr ⟨z,Z⟩
def allM_nil(k:Nat)(w:Wk):allM k w []=(0,w):=by cases k<;>rfl
def Ay{w:Wk}{x:ur}(h:w.made≠[]):(dG w x).2.made≠[]:=by
 unfold dG;obtain⟨dX,N,v⟩:=x;cases N with
 |none=>rw[CK];exact h
 |some o =>
  dsimp only;split;rw[CK];exact h;split;exact PX _ h;exact h
attribute [local irreducible] AK ag aZ bS de cA cq di gL eF.cF eF.iZ wB gl
def SP{M:Wk}{A:ur}(W:rY M)(hm0:(M.made.length:Int)<=M.done)(hx0:sn A):gl 18 M [.c (lM A)] (ah (allM 25 M [A]).1) (allM 25 M [A]).2:=by
 obtain⟨R,hR⟩:∃R,R=allM 25 M [A]:=⟨_,rfl⟩;rw[<- hR];obtain⟨T,Q,⟨v1,v2,v3,v4,v5,v6,v7⟩⟩:=A;cases hm:wO M with
 |none =>
  refine O5 hm func18 call18 λβ hf=>?_
  repeat' (first|exact wr|refine wz ?_)
  refine AK.gK [(1000000,1000000)] [(6000,(0,none))] (env':=[(0,.ptr 1000000 0),(5,.own (.tok 6000 0) 9 (ej [⟨T,Q,.mk v1 v2 v3 v4 v5 v6 v7⟩]))]) (bs':=[(1000000,wB M 0)]) (ts':=[(6000,0)]) (us':=[1000000,900002,6000])
   ce  ⟨⟨_,_,Z,Z,(nI M).conv _ _ _ _ (λh=>absurd hm h)⟩,trivial⟩ Z ?_
  rw[<- zB hm];refine AK.dg (α:=Nat×Wk×List ur) (λz=>rY z.2.1/\(z.2.1.made.length:Int)<=z.2.1.done/\(∀x∈z.2.2,sn x)/\R=allM z.1 z.2.1 z.2.2/\(25:Int)<=z.1+z.2.1.done/\(z.2.2.length:Int)<=25+24*z.2.1.done) (λz=>(25-z.2.1.done).toNat)
   (λz=>[(0,.ptr 1000000 0),(5,.own (.tok 6000 0) 9 (ej z.2.2))]) (λz=>Y4 z.2.1) (λ_=>[(6000,0)]) [1000000,900002,6000] (25,M,[⟨T,Q,.mk v1 v2 v3 v4 v5 v6 v7⟩])
   ⟨W,hm0,λx O=>by rw[ait]at O;subst O;exact hx0,hR,aaV,adh⟩
   ce  (VB M) ⟨Z,trivial⟩ Z (VA M) Z ?_
  rintro⟨k,w,q⟩ ⟨V,yI,J,G,hk,E⟩ ih;simp only at V yI J G hk E ih;have hdn:=V.done;have h12:=V.qw.h12;cases q with
  |nil =>
   rw[allM_nil]at G;subst G;clear ih;have e1:decide (((ej []).length:Int)>0)=false:=(by decide);rcases y9 w with P|⟨z,P⟩
   ·rw[zB P]
    repeat' (first|exact wr|refine wz ?_)
   rw[wg P]
   repeat' (first|exact wr|refine wz ?_)
  |cons x q =>
   have e1:decide (((ej (x::q)).length:Int)>0):=(by rw[jo];exact ace ek);cases k with
   |zero=>exfalso;omega
   |succ k =>
   simp only[allM]at G;by_cases N:24<=w.done
   ·rw[if_pos N]at G;subst G;clear ih;have e2:decide (w.done>=24):=ace N;rcases y9 w with P|⟨z,P⟩
    ·rw[zB P]
     repeat' (first|exact wr|refine wz ?_)
    rw[wg P]
    repeat' (first|exact wr|refine wz ?_)
   rw[if_neg N]at G;have e2:decide (w.done>=24)=false:=acf N;have O:=J x cS;have hq:=HF V O;have rZ:=qy V yI O;have Y:=Az (w:=w) (w':=(dG w x).2) (λh=>Ay h);have hlen:=jo;generalize dG w x=S at *;obtain⟨⟨more,e⟩,w'⟩:=S;obtain⟨H,s2,s3,s4,s5,s6,s7,s8⟩:=rZ;simp only at H s2 s3 s4 s5 s6 s7 s8 hq G Y;obtain⟨dX,op,⟨y1,y2,y3,y4,y5,y6,y7⟩⟩:=x;by_cases u:e≠0
   ·rw[if_pos u]at G;subst G;clear ih;have e3:(e != 0):=(by simpa using u);have U:=H.qw.h12;rcases y9 w with P|⟨z,P⟩
    ·rw[zB P]
     repeat' (first|exact wr|refine wz ?_|refine uWn Z Z hq P Z Z Z Z Z (λ_=>by repeat' (first|exact Z|refine J8 Z ?_|refine J9 Z ?_)) Z Z (λh=>?_) (λf h=>?_)|refine ag.tu hX kn Z Z Z Z Z Z Z Z (l:=1) Z (ajz (ahp _)) ?_)
    obtain⟨z',K⟩:=Y ⟨z,P⟩;rw[wg P]
    repeat' (first|exact wr|refine wz ?_|refine uWs Z Z hq P K Z Z Z Z Z Z Z (λ_=>by repeat' (first|exact Z|refine J8 Z ?_|refine J9 Z ?_)) Z Z Z ?_|refine ag.tu hX kn Z Z Z Z Z Z Z Z (l:=1) Z (ajz (ahp _)) ?_)
   rw[if_neg u]at G;have e3:(e != 0)=false:=(by simpa using u);have I:i64.wrap (w'.done+1)=w'.done+1:=gW ai ai;have U:=H.qw.h12;have akL:({w' with done:=i64.wrap (w'.done+1)}:Wk).l.aI.length=12:=U;have B:ej q++ej more=ej (q++more):=(uJ _ _).symm
   have D:=ih (k,{w' with done:=w'.done+1},q++more) ⟨⟨H.qw,H.bC,H.aj,by show 0<=w'.done+1/\w'.done+1<=24;omega,ab0⟩,H.Fs,λy C=>by
    rcases List.mem_append.1 C with C|C
    exact J y afv
    exact s2 y C,G,aaT,acz⟩ adl
   clear ih;rw[<- I]at D;have p:((ej q).length+(ej more).length)*128<=140737488355328:=(by rw[jo,jo];simp only[aat]at E;omega);rcases y9 w with P|⟨z,P⟩
   ·rw[zB P]
    repeat' (first|exact wr|refine wz ?_|refine uWn Z Z hq P Z Z Z Z Z (λ_=>by repeat' (first|exact Z|refine J8 Z ?_|refine J9 Z ?_)) Z Z (λh=>?_) (λf h=>?_)|refine ag.tu hX kn Z Z Z Z Z Z Z Z (l:=1) Z (ajz (ahp _)) ?_|(refine uA Z ?_ ?_<;>(try (show(_:Nat)*_<=_;dsimp only))))
    exact p
    ·refine AK.gK [(1000000,1000000)] [(6000,(0,some 6000))] (env':=[(0,.ptr 1000000 0),(5,.own (.tok 6000 0) 9 (ej (q++more)))]) (bs':=[(1000000,wB {w' with done:=i64.wrap (w'.done+1)} 0)]) (ts':=[(6000,0)]) (us':=[1000000,900002,6000])
      ⟨⟨_,rfl,⟨_,rfl,rfl⟩⟩,⟨_,rfl,⟨_,rfl,.inr ⟨_,_,rfl,rfl,ahm (AV.own (.tok 6000 1) 9) B⟩⟩⟩,trivial⟩ ⟨⟨_,_,rfl,rfl,(nI {w' with done:=i64.wrap (w'.done+1)}).conv _ _ _ _ (λhh=>absurd h hh)⟩,trivial⟩ rfl ?_
     rw[<- zB (w:={w' with done:=i64.wrap (w'.done+1)}) h];exact D
    exact p;refine AK.gK [(1000000,1000000),(900002,200028)] [(6000,(0,some 6000))] (env':=[(0,.ptr 1000000 0),(5,.own (.tok 6000 0) 9 (ej (q++more)))]) (bs':=[(1000000,wB {w' with done:=i64.wrap (w'.done+1)} 900002),(900002,f.map AV.c)]) (ts':=[(6000,0)]) (us':=[1000000,900002,6000])
     ⟨⟨_,rfl,⟨_,rfl,rfl⟩⟩,⟨_,rfl,⟨_,rfl,.inr ⟨_,_,rfl,rfl,ahm (AV.own (.tok 6000 1) 9) B⟩⟩⟩,trivial⟩ ⟨⟨_,_,rfl,rfl,(nI {w' with done:=i64.wrap (w'.done+1)}).conv _ _ _ _ (λ_=>rfl)⟩,⟨_,_,rfl,rfl,cO _⟩,trivial⟩ rfl ?_
    rw[<- wg (w:={w' with done:=i64.wrap (w'.done+1)}) h];exact D
   obtain⟨z',K⟩:=Y ⟨z,P⟩;rw[wg P]
   repeat' (first|exact wr|refine wz ?_|refine uWs Z Z hq P K Z Z Z Z Z Z Z (λ_=>by repeat' (first|exact Z|refine J8 Z ?_|refine J9 Z ?_)) Z Z Z ?_|refine ag.tu hX kn Z Z Z Z Z Z Z Z (l:=1) Z (ajz (ahp _)) ?_|(refine uA Z ?_ ?_<;>(try (show(_:Nat)*_<=_;dsimp only))))
   exact p;refine AK.gK [(1000000,1000000),(900002,200028)] [(6000,(0,some 6000))] (env':=[(0,.ptr 1000000 0),(5,.own (.tok 6000 0) 9 (ej (q++more)))]) (bs':=[(1000000,wB {w' with done:=i64.wrap (w'.done+1)} 900002),(900002,z'.map AV.c)]) (ts':=[(6000,0)]) (us':=[1000000,900002,6000])
    ⟨⟨_,rfl,⟨_,rfl,rfl⟩⟩,⟨_,rfl,⟨_,rfl,.inr ⟨_,_,rfl,rfl,ahm (AV.own (.tok 6000 1) 9) B⟩⟩⟩,trivial⟩ ⟨⟨_,_,rfl,rfl,(nI {w' with done:=i64.wrap (w'.done+1)}).conv _ _ _ _ (λ_=>rfl)⟩,⟨_,_,rfl,rfl,cO _⟩,trivial⟩ rfl ?_
   rw[<- wg (w:={w' with done:=i64.wrap (w'.done+1)}) K];exact D
 |some z0 =>
  refine O6 hm func18 call18 λβ hf=>?_
  repeat' (first|exact wr|refine wz ?_)
  refine AK.gK [(1000000,1000000),(900002,1000002)] [(6000,(0,none))] (env':=[(0,.ptr 1000000 0),(5,.own (.tok 6000 0) 9 (ej [⟨T,Q,.mk v1 v2 v3 v4 v5 v6 v7⟩]))]) (bs':=[(1000000,wB M 900002),(900002,z0.map AV.c)]) (ts':=[(6000,0)]) (us':=[1000000,900002,6000])
   ce  ⟨⟨_,_,Z,Z,(nI M).conv _ _ _ _ (λ_=>rfl)⟩,⟨_,_,Z,Z,cO _⟩,trivial⟩ Z ?_
  rw[<- wg hm];refine AK.dg (α:=Nat×Wk×List ur) (λz=>rY z.2.1/\(z.2.1.made.length:Int)<=z.2.1.done/\(∀x∈z.2.2,sn x)/\R=allM z.1 z.2.1 z.2.2/\(25:Int)<=z.1+z.2.1.done/\(z.2.2.length:Int)<=25+24*z.2.1.done) (λz=>(25-z.2.1.done).toNat)
   (λz=>[(0,.ptr 1000000 0),(5,.own (.tok 6000 0) 9 (ej z.2.2))]) (λz=>Y4 z.2.1) (λ_=>[(6000,0)]) [1000000,900002,6000] (25,M,[⟨T,Q,.mk v1 v2 v3 v4 v5 v6 v7⟩])
   ⟨W,hm0,λx O=>by rw[ait]at O;subst O;exact hx0,hR,aaV,adh⟩
   ce  (VB M) ⟨Z,trivial⟩ Z (VA M) Z ?_
  rintro⟨k,w,q⟩ ⟨V,yI,J,G,hk,E⟩ ih;simp only at V yI J G hk E ih;have hdn:=V.done;have h12:=V.qw.h12;cases q with
  |nil =>
   rw[allM_nil]at G;subst G;clear ih;have e1:decide (((ej []).length:Int)>0)=false:=(by decide);rcases y9 w with P|⟨z,P⟩
   ·rw[zB P]
    repeat' (first|exact wr|refine wz ?_)
   rw[wg P]
   repeat' (first|exact wr|refine wz ?_)
  |cons x q =>
   have e1:decide (((ej (x::q)).length:Int)>0):=(by rw[jo];exact ace ek);cases k with
   |zero=>exfalso;omega
   |succ k =>
   simp only[allM]at G;by_cases N:24<=w.done
   ·rw[if_pos N]at G;subst G;clear ih;have e2:decide (w.done>=24):=ace N;rcases y9 w with P|⟨z,P⟩
    ·rw[zB P]
     repeat' (first|exact wr|refine wz ?_)
    rw[wg P]
    repeat' (first|exact wr|refine wz ?_)
   rw[if_neg N]at G;have e2:decide (w.done>=24)=false:=acf N;have O:=J x cS;have hq:=HF V O;have rZ:=qy V yI O;have Y:=Az (w:=w) (w':=(dG w x).2) (λh=>Ay h);have hlen:=jo;generalize dG w x=S at *;obtain⟨⟨more,e⟩,w'⟩:=S;obtain⟨H,s2,s3,s4,s5,s6,s7,s8⟩:=rZ;simp only at H s2 s3 s4 s5 s6 s7 s8 hq G Y;obtain⟨dX,op,⟨y1,y2,y3,y4,y5,y6,y7⟩⟩:=x;by_cases u:e≠0
   ·rw[if_pos u]at G;subst G;clear ih;have e3:(e != 0):=(by simpa using u);have U:=H.qw.h12;rcases y9 w with P|⟨z,P⟩
    ·rw[zB P]
     repeat' (first|exact wr|refine wz ?_|refine uWn Z Z hq P Z Z Z Z Z (λ_=>by repeat' (first|exact Z|refine J8 Z ?_|refine J9 Z ?_)) Z Z (λh=>?_) (λf h=>?_)|refine ag.tu hX kn Z Z Z Z Z Z Z Z (l:=1) Z (ajz (ahp _)) ?_)
    obtain⟨z',K⟩:=Y ⟨z,P⟩;rw[wg P]
    repeat' (first|exact wr|refine wz ?_|refine uWs Z Z hq P K Z Z Z Z Z Z Z (λ_=>by repeat' (first|exact Z|refine J8 Z ?_|refine J9 Z ?_)) Z Z Z ?_|refine ag.tu hX kn Z Z Z Z Z Z Z Z (l:=1) Z (ajz (ahp _)) ?_)
   rw[if_neg u]at G;have e3:(e != 0)=false:=(by simpa using u);have I:i64.wrap (w'.done+1)=w'.done+1:=gW ai ai;have U:=H.qw.h12;have akL:({w' with done:=i64.wrap (w'.done+1)}:Wk).l.aI.length=12:=U;have B:ej q++ej more=ej (q++more):=(uJ _ _).symm
   have D:=ih (k,{w' with done:=w'.done+1},q++more) ⟨⟨H.qw,H.bC,H.aj,by show 0<=w'.done+1/\w'.done+1<=24;omega,ab0⟩,H.Fs,λy C=>by
    rcases List.mem_append.1 C with C|C
    exact J y afv
    exact s2 y C,G,aaT,acz⟩ adl
   clear ih;rw[<- I]at D;have p:((ej q).length+(ej more).length)*128<=140737488355328:=(by rw[jo,jo];simp only[aat]at E;omega);rcases y9 w with P|⟨z,P⟩
   ·rw[zB P]
    repeat' (first|exact wr|refine wz ?_|refine uWn Z Z hq P Z Z Z Z Z (λ_=>by repeat' (first|exact Z|refine J8 Z ?_|refine J9 Z ?_)) Z Z (λh=>?_) (λf h=>?_)|refine ag.tu hX kn Z Z Z Z Z Z Z Z (l:=1) Z (ajz (ahp _)) ?_|(refine uA Z ?_ ?_<;>(try (show(_:Nat)*_<=_;dsimp only))))
    exact p
    ·refine AK.gK [(1000000,1000000)] [(6000,(0,some 6000))] (env':=[(0,.ptr 1000000 0),(5,.own (.tok 6000 0) 9 (ej (q++more)))]) (bs':=[(1000000,wB {w' with done:=i64.wrap (w'.done+1)} 0)]) (ts':=[(6000,0)]) (us':=[1000000,900002,6000])
      ⟨⟨_,rfl,⟨_,rfl,rfl⟩⟩,⟨_,rfl,⟨_,rfl,.inr ⟨_,_,rfl,rfl,ahm (AV.own (.tok 6000 1) 9) B⟩⟩⟩,trivial⟩ ⟨⟨_,_,rfl,rfl,(nI {w' with done:=i64.wrap (w'.done+1)}).conv _ _ _ _ (λhh=>absurd h hh)⟩,trivial⟩ rfl ?_
     rw[<- zB (w:={w' with done:=i64.wrap (w'.done+1)}) h];exact D
    exact p;refine AK.gK [(1000000,1000000),(900002,200028)] [(6000,(0,some 6000))] (env':=[(0,.ptr 1000000 0),(5,.own (.tok 6000 0) 9 (ej (q++more)))]) (bs':=[(1000000,wB {w' with done:=i64.wrap (w'.done+1)} 900002),(900002,f.map AV.c)]) (ts':=[(6000,0)]) (us':=[1000000,900002,6000])
     ⟨⟨_,rfl,⟨_,rfl,rfl⟩⟩,⟨_,rfl,⟨_,rfl,.inr ⟨_,_,rfl,rfl,ahm (AV.own (.tok 6000 1) 9) B⟩⟩⟩,trivial⟩ ⟨⟨_,_,rfl,rfl,(nI {w' with done:=i64.wrap (w'.done+1)}).conv _ _ _ _ (λ_=>rfl)⟩,⟨_,_,rfl,rfl,cO _⟩,trivial⟩ rfl ?_
    rw[<- wg (w:={w' with done:=i64.wrap (w'.done+1)}) h];exact D
   obtain⟨z',K⟩:=Y ⟨z,P⟩;rw[wg P]
   repeat' (first|exact wr|refine wz ?_|refine uWs Z Z hq P K Z Z Z Z Z Z Z (λ_=>by repeat' (first|exact Z|refine J8 Z ?_|refine J9 Z ?_)) Z Z Z ?_|refine ag.tu hX kn Z Z Z Z Z Z Z Z (l:=1) Z (ajz (ahp _)) ?_|(refine uA Z ?_ ?_<;>(try (show(_:Nat)*_<=_;dsimp only))))
   exact p;refine AK.gK [(1000000,1000000),(900002,200028)] [(6000,(0,some 6000))] (env':=[(0,.ptr 1000000 0),(5,.own (.tok 6000 0) 9 (ej (q++more)))]) (bs':=[(1000000,wB {w' with done:=i64.wrap (w'.done+1)} 900002),(900002,z'.map AV.c)]) (ts':=[(6000,0)]) (us':=[1000000,900002,6000])
    ⟨⟨_,rfl,⟨_,rfl,rfl⟩⟩,⟨_,rfl,⟨_,rfl,.inr ⟨_,_,rfl,rfl,ahm (AV.own (.tok 6000 1) 9) B⟩⟩⟩,trivial⟩ ⟨⟨_,_,rfl,rfl,(nI {w' with done:=i64.wrap (w'.done+1)}).conv _ _ _ _ (λ_=>rfl)⟩,⟨_,_,rfl,rfl,cO _⟩,trivial⟩ rfl ?_
   rw[<- wg (w:={w' with done:=i64.wrap (w'.done+1)}) K];exact D
end Go.Proofs
namespace Go.Proofs
open Go.cE
structure Clo(src:Int)(R:Int->eF->List Int->eF->List Int->Prop):Prop where
 refl:∀{l m},R 0 l m l m
 trans:∀{c d a m b n e q},R c a m b n->R d b n e q->R (c+d) a m e q
 move:∀{l m F T n},pQ l->jm l F T n=0->(F=src\/4<=F)->R (if F=src then n else 0) l m (rI l F T n) m
 keep:∀{l m}{j:Nat}{v},pQ l->j<12->(aR l j).is=2->R 0 l m (l.iZ j {aR l j with keep:=v}) m
 new:∀{l m}{a:Acc},pQ l->fJ (l.aI.drop 4) 4<12->a.is=2->a.cnt=0->a.cK=0->R 0 l m (l.iZ (fJ (l.aI.drop 4) 4) a) (m++[((fJ (l.aI.drop 4) 4:Nat):Int)])
section
variable {src:Int}{R:Int->eF->L Int->eF->L Int->Prop}(hR:Clo src R)
include hR
def Wx{w x to n}(q:rY w)(hf:x.dX=src\/4<=x.dX)(h:(zh w x to n).1.2=0):R (if x.dX=src then n else 0) w.l w.made (zh w x to n).2.l (zh w x to n).2.made:=by
 unfold zh at h ⊢;split at h;simp_all;rename_i e;rw[if_neg e];simp at e;obtain⟨Q,j,rfl,G,Y⟩:=xD q.qw e;have W:=hR.move (m:=w.made) q.qw e hf;split at h;grind;rename_i V;rw[if_neg V];have U:=gm (l:=rI w.l x.dX j n) (i:=j) Q.h12 ai ai;have T:=Q.get U;have S:(aR (rI w.l x.dX j n) j).is=2:=by rcases xE T with h|h|h<;>omega
 split at h;simp_all;rename_i u;rw[if_neg u];unfold Fo at h ⊢;dsimp only at h ⊢;split at h;simp_all;rename_i B;rw[if_neg B];split at h;grind;rename_i c4;rw[if_neg c4];have I:=hR.trans W (hR.keep (v:=(cP ((tf w x j n (aR (rI w.l x.dX j n) j) (jY x (aR (rI w.l x.dX j n) j).param).1).st.getD 0 jl)).getD 1 jl) Q G S);rw[Int.add_zero]at I;exact I
def adW{w o}(q:rY w)(W:vw o)(C:0<=src)(h:(orM w src o).1=0):R o.vQ w.l w.made (orM w src o).2.l (orM w src o).2.made:=by unfold orM at h ⊢;split at h;omega;rename_i G;rw[if_neg G];split at h;omega;rename_i u;rw[if_neg u];simp at u;split at h;omega;rename_i B;rw[if_neg B];split at h;omega;rename_i c4;rw[if_neg c4];have S:=we q.qw W G u B c4;split at h;omega;rename_i p;rw[if_neg p];simp at p;obtain⟨V,U,T⟩:=v9 q.qw;have P:=hR.new (m:=w.made) (a:=newAcc o) q.qw ai rfl rfl rfl;have Y:=hR.move (m:=w.made++[((fJ (w.l.aI.drop 4) 4:Nat):Int)]) S p (.inl rfl);rw[if_pos rfl]at Y;have I:=hR.trans P Y;rw[Int.zero_add]at I;exact I
def R6{w x}(q:rY w)(O:sn x)(C:0<=src)(W:src<4)(hf:∀o,x.op=some o->x.dX=src)(h:(dG w x).1.2=0):R (match x.op with|some o=>o.vQ|none=>0) w.l w.made (dG w x).2.l (dG w x).2.made:=by
 obtain⟨dX,N,v⟩:=x;unfold dG at h ⊢;cases N with
 |none =>
  have Y:4<=dX:=O.2.2;have:=Wx hR (x:=⟨dX,none,v⟩) q (.inr Y) h;grind
 |some o =>
  have I:dX=src:=hf o Z;subst I;dsimp only at h ⊢;split at h;rename_i c;rw[if_pos c];have:=Wx hR (x:=⟨dX,some o,v⟩) q (.inl Z) h;simp_all;rename_i c;rw[if_neg c];split at h;rename_i u;rw[if_pos u];exact adW hR q O C h;grind
omit hR in
def wY{w:Wk}{x:ur}:∀y∈(dG w x).1.1,y.op=none:=by
 have C:∀to n,∀y∈(zh w x to n).1.1,y.op=none:=by
  intro to n y V;unfold zh Fo at V;dsimp only at V
  repeat' split at V
  all_goals first|(simp at V;done)|skip
  obtain⟨o,_,rfl⟩:=List.mem_map.1 V;rfl
 unfold dG;cases x.op with
 |none=>exact C _ _
 |some o =>
  grind
def E7(C:0<=src)(Y:src<4):∀k w q,rY w->w.made.length<=w.done->(∀x∈q,sn x/\x.op=none)->(allM k w q).1=0->R 0 w.l w.made (allM k w q).2.l (allM k w q).2.made
 |k,w,[],D,hm,hq,h=>by rw[allM_nil];exact hR.refl
 |0,w,x::q,D,hm,hq,h=>by simp[allM]at h
 |k+1,w,x::q,D,hm,hq,h=>by
  obtain⟨O,I⟩:=hq x cS;have h1:=qy D hm O;unfold allM at h ⊢;split at h;omega;rename_i c;rw[if_neg c];split at h;omega;rename_i u;rw[if_neg u];have T:rY {(dG w x).2 with done:=(dG w x).2.done+1}:=⟨h1.ok.qw,h1.ok.bC,h1.ok.aj,ot,mY⟩
  have B:=E7 C Y k _ (q++(dG w x).1.1) T h1.ok.Fs (λy V=>by
   rcases List.mem_append.1 V with V|V
   simp_all
   exact⟨h1.items y V,wY y V⟩) h
  have W:=R6 hR D O C Y (λo U=>by rw[I]at U;cases U) afl;rw[I]at W;have:=hR.trans W B;exact this
def RY(C:0<=src)(Y:src<4){k w o}(q:rY w)(W:w.made.length<=w.done)(U:vw o)(h:(allM (k+1) w [⟨src,some o,jl⟩]).1=0):R o.vQ w.l w.made (allM (k+1) w [⟨src,some o,jl⟩]).2.l (allM (k+1) w [⟨src,some o,jl⟩]).2.made:=by have O:sn ⟨src,some o,jl⟩:=U;have h1:=qy q W O;unfold allM at h ⊢;split at h;omega;rename_i c;rw[if_neg c];split at h;omega;rename_i u;rw[if_neg u];have S:rY {(dG w ⟨src,some o,jl⟩).2 with done:=(dG w ⟨src,some o,jl⟩).2.done+1}:=⟨h1.ok.qw,h1.ok.bC,h1.ok.aj,p8,sx⟩;have B:=E7 hR C Y k _ ([]++(dG w ⟨src,some o,jl⟩).1.1) S h1.ok.Fs (λy V=>⟨h1.items y aeE,wY y aeE⟩) h;have T:=R6 hR q O C Y (λ_ _=>rfl) afl;have:=hR.trans T B;simp_all
omit hR in
def ai9:List uz->Int
 |[]=>0
 |o::r=>o.vQ+ai9 r
def JI(C:0<=src)(Y:src<4):∀l w,rY w->w.made.length<=w.done->(∀o∈l,vw o)->(jd src w l).1=0->R (ai9 l) w.l w.made (jd src w l).2.l (jd src w l).2.made
 |[],w,hw,hm,V,h=>hR.refl
 |o::r,w,hw,hm,V,h=>by
  have U:=xy 25 w [⟨src,some o,jl⟩] hw hm λx O=>by rw[ait]at O;subst O;exact V o cS
  unfold jd at h ⊢;split at h;omega;rename_i c;rw[if_neg c];simp at c;have T:=JI C Y r _ U.ok (U.made c) (λx O=>V x Ko) h;exact hR.trans (RY hR C Y hw hm (V o cS) c) T
end
def JH(a b:Acc):Prop:=b.cnt=a.cnt/\(a.is≠0->b.is=a.is/\b.param=a.param/\b.store=a.store/\b.code=a.code)
def al4(_:Int)(l:eF)(_:L Int)(m:eF)(_:L Int):Prop:=∀i:Nat,i<12->JH (aR l i) (aR m i)
def JH.refl(a):JH a a:=⟨Z,λ_=>⟨Z,Z,Z,Z⟩⟩
def JH.trans{a b c}(U:JH a b)(T:JH b c):JH a c:=by refine⟨T.1.trans U.1,λh=>?_⟩;obtain⟨A,Q,K,V⟩:=U.2 h;obtain⟨Y,G,C,M⟩:=T.2 (by rw[A];exact h);simp_all
def adS(src):Clo src al4 where
 refl:=λi _=>JH.refl _
 trans:=λS U i H=>(S i H).trans (U i H)
 move:=λ{l m F T n} V e hf i H=>by rw[OR V e H];exact⟨Z,λ_=>⟨Z,Z,Z,Z⟩⟩
 keep:=λ{l m j v} V hj U i H=>by rw[qo (by have:=V.h12;omega)];by_cases c:j=i;subst c;rw[if_pos rfl];exact⟨Z,λ_=>⟨Z,Z,Z,Z⟩⟩;rw[if_neg c];exact JH.refl _
 new:=λ{l m a} V hf U hc _ i H=>by
  obtain⟨x,O,C⟩:=(v9 V).2.2 hf;rw[qo (by have:=V.h12;omega)];by_cases c:fJ (l.aI.drop 4) 4=i
  ·rw[if_pos c];rw[c]at O;have Y:=V.get O;rw[ja O];refine⟨?_,λh=>absurd C h⟩;rcases xE Y with h|h|h<;>omega
  rw[if_neg c];exact JH.refl _
structure L6(_c:Int)(l:eF)(m:List Int)(l':eF)(m':List Int):Prop where
 ex:∃t:List Int,m'=m++t/\t.Pairwise (· < ·)/\(∀x∈t,∃i:Nat,x=i/\4<=i/\i<12/\(aR l i).is=0/\(aR l' i).is=2)/\(∀i:Nat,i<12->(aR l i).is≠(aR l' i).is->(i:Int)∈t)
 stay:∀i:Nat,i<12->(aR l i).is≠0->(aR l' i).is=(aR l i).is
 low:∀i j:Nat,4<=i->i<j->j<12->(aR l' i).is=0->(aR l' j).is=(aR l j).is
def L6.same{c l p}{m:L Int}(h:∀i:Nat,i<12->(aR p i).is=(aR l i).is):L6 c l m p m :=
 ⟨⟨[],cS,.nil,λx O=>by simp at O,λi H I=>absurd (h i H).symm I⟩,λi H _=>h i H,λi j _ _ G _=>h j G⟩
def L6.trans{c d e a b x}{m n q:L Int}(z:L6 c a m b n)(y:L6 d b n x q):L6 e a m x q:=by
 obtain⟨⟨t1,rfl,M,P,B⟩,F,l1⟩:=z;obtain⟨⟨K,rfl,C,T,J⟩,U,l2⟩:=y;refine⟨⟨t1++K,by rw[aie],?_,?_,?_⟩,λi H I=>?_,λi j H W G A=>?_⟩
 ·rw[ake];refine⟨M,C,λu p v E=>?_⟩;obtain⟨i,rfl,V,H,S,Q⟩:=P u p;obtain⟨j,rfl,Y,G,O,N⟩:=T v E;rcases Nat.lt_trichotomy i j with h|h|h
  omega;simp_all;have:=l1 j i Y h H O;omega
 ·intro u p;rcases List.mem_append.1 p with p|p
  obtain⟨i,rfl,V,H,S,Q⟩:=P u p;exact⟨i,Z,V,H,S,by rw[U i H ai];exact Q⟩;obtain⟨j,rfl,Y,G,O,N⟩:=T u p;refine⟨j,Z,Y,G,?_,N⟩;by_cases h:(aR a j).is=0;exact h;have:=F j G h;omega
 intro i H I;by_cases h:(aR a i).is=(aR b i).is;exact List.mem_append.2 (.inr (J i H (by rw[<- h];exact I)));exact List.mem_append.2 (.inl (B i H h));rw[U i H (by rw[F i H I];exact I),F i H I];have D:(aR b i).is=0:=by by_cases h:(aR b i).is=0;exact h;have:=U i ai h;omega
 rw[l2 i j H W G A,l1 i j H W G D]
def ajb(s n:Int)(_:Int)(l:eF)(_:L Int)(m:eF)(_:L Int):Prop:=∀i:Nat,i<12->((aR l i).is≠0->(aR m i).is=(aR l i).is/\(aR m i).param=(aR l i).param/\(aR m i).store=(aR l i).store/\(aR m i).code=(aR l i).code) /\
 ((aR m i).cnt=(aR l i).cnt\/((aR m i).cnt=(aR l i).cnt+1/\(i:Int)=s/\(aR m i).cnt=n))
def adY{l b}(E:pQ l)(h:xu l b=0):ajb b.src b.cnt 0 l [] (yZ l b) []:=by intro i H;rw[OV E h H];by_cases c:(i:Int)=b.src;rw[if_pos c];refine⟨λ_=>⟨rfl,rfl,rfl,rfl⟩,.inr ⟨rfl,c,?_⟩⟩;have:=(xx h).2.2.1.2;simp_all;simp_all
def agU{l b}(E:pQ l)(N:b.bC<=3000)(U:∀o∈b.ops,vw o):ajb b.src b.cnt 0 l [] (iV l b).1 []:=by unfold iV;split;exact λi H=>⟨λ_=>⟨rfl,rfl,rfl,rfl⟩,.inl rfl⟩;rename_i c;simp at c;obtain⟨_,Y,_⟩:=xx c;have hf:=adY E c;split;omega;rename_i u;simp at u;have T:=JI (adS b.src) Y.1 Y.2 b.ops (mF l b) (uE E c N) (ahS _) U u;intro i H;obtain⟨V,G⟩:=hf i H;obtain⟨S,M⟩:=T i H;have e:aR (mF l b).l i=aR (yZ l b) i:=rfl;simp_all
end Go.Proofs
