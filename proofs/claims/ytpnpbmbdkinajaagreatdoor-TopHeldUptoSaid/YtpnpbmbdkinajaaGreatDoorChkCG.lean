/- A part of the proof. -/
import Derived.Test.YtpnpbmbdkinajaaGreatDoorChk4G
import Derived.Test.YtpnpbmbdkinajaaGreatDoorChk5G
import Derived.Test.YtpnpbmbdkinajaaGreatDoorChk7G
import Derived.Test.YtpnpbmbdkinajaaGreatDoorChk9G
import Derived.Test.YtpnpbmbdkinajaaGreatDoorVal9G
set_option linter.all false
set_option maxHeartbeats 0
set_option maxRecDepth 100000
open Go.IntKind Go.Proofs.Tryz
namespace Go.Proofs
open Go.cE
def mP(r:CR):∃x y e,iD r = .eK [.agg [x,y],.int .i64 e]/\x.one/\y.one:=by unfold iD;split;exact⟨_,_,_,rfl,rfl,rfl⟩;exact⟨_,_,_,rfl,rfl,rfl⟩
attribute [local irreducible] AK ag aZ bS de aM fZ jI iF gk bA ey bU gf b8 dH gV iK dh jc dY eU kj iL bB iD
def MS(P T:Int)(W:Δ)(z:Θ)(F s:Γ)(f:40<=P)(hf:bB P z=some F)(Y:um s)(E:s.length<=9999999990)(p:aP z<=8589934593)
  (B:∀a∈z,∀D:Γ,um D->D.length<=s.length+1->af 55 [.sl 5 (aD (cw a)),.sl 2 (az D)] (yg (bU (cw a) (D,false)))) :
  af 90 [aV (.mk 2 T P W z),.sl 2 (az F),.sl 2 (az s)] (iD (mJ P z (b8 z) F s)):=by
 unfold mJ;by_cases I:P<=44;rw[if_pos I];have d:decide (P<=44):=ace I;have r:=Pq P T W z F s ⟨f,I⟩ hf Y E;obtain⟨x,y,e,O,J,K⟩:=mP (iK P z s);rw[O]at r ⊢;exact qdw func90 call90;rw[if_neg I];have d:decide (P<=44)=false:=acf I;by_cases A:P=45
 ·subst A;rw[if_pos rfl];obtain⟨b,C,t,rfl,rfl,ht⟩:=Zu hf rfl;clear hf B;have ω:=ht.2;have U:=oS t C ai (by simp only[aP]at p;omega);have S:=oZ t ai;rw[show [t].getD 0 kg=t from Z,show [b,C].getD 1 rX=C from rfl];obtain⟨V,u⟩:=t;obtain⟨y1,y2,y3,y4,y5⟩:=C;rcases hr:gV (.mk V u) (.mk y1 y2 y3 y4 y5)with ⟨⟨v1,v2,v3,v4,v5,v6,v7⟩,e⟩
  rw[hr]at U;simp only at U ⊢;by_cases q:e=0;rotate_left;rw[if_neg (λh=>q h.1),dU bn];have e2:(e != 0):=(by simpa using q);exact qdw func90 call90;subst q;cases Q:iF (.mk V u)with
  |false =>
   rw[Q]at S;rw[if_neg (λh=>by simp at h),dU bn];exact qdw func90 call90
  |true =>
   rw[Q]at S;have hp:=qa s [.mk V u];rw[fN]at hp;rw[if_pos ⟨Z,Z⟩,fN];exact qdw func90 call90
 rw[if_neg A];have e2:(P==45)=false:=by simpa using A
 by_cases N:P<=58;rw[if_pos N];have e3:decide (P<=58):=ace N;have r:=H6 P T W z F s ⟨ai,N⟩ hf Y E p B;obtain⟨x,y,e,O,J,K⟩:=mP (dh P (b8 z) F s);rw[O]at r ⊢;exact qdw func90 call90;rw[if_neg N];have e3:decide (P<=58)=false:=acf N;by_cases M:P<=63;rw[if_pos M];have e4:decide (P<=63):=ace M;have r:=MU P T W z F s ⟨ai,M⟩ hf Y E p B;obtain⟨x,y,e,O,J,K⟩:=mP (jc P (b8 z) F s);rw[O]at r ⊢;exact qdw func90 call90;rw[if_neg M];have e4:decide (P<=63)=false:=acf M;by_cases H:P<=68;rw[if_pos H];have e5:decide (P<=68):=ace H;have r:=H7 P T W z F s ⟨ai,H⟩ hf Y E p B;obtain⟨x,y,e,O,J,K⟩:=mP (dY P z (b8 z) F s);rw[O]at r ⊢;exact qdw func90 call90;rw[if_neg H];have e5:decide (P<=68)=false:=acf H;by_cases o:P<=72\/P>=93;rw[if_pos o];have r:=Hj P s ai E;obtain⟨x,y,e,O,J,K⟩:=mP (eU P s);rw[O]at r ⊢;by_cases m:P<=72;have j:decide (P<=72):=ace m;exact qdw func90 call90;have j:decide (P<=72)=false:=acf m;have e7:decide (P>=93):=ace ai;exact qdw func90 call90;rw[if_neg o];have j:decide (P<=72)=false:=acf ai;have e7:decide (P>=93)=false:=acf ai;by_cases G:P<=83;rw[if_pos G];have e8:decide (P<=83):=ace G;have r:=Qf P z F s ⟨ai,G⟩ hf Y E;obtain⟨x,y,e,O,J,K⟩:=mP (kj P F s);rw[O]at r ⊢;exact qdw func90 call90;rw[if_neg G];have e8:decide (P<=83)=false:=acf G;have r:=MV P z F s ⟨ai,ai⟩ hf Y E;obtain⟨x,y,e,O,J,K⟩:=mP (iL P F s);rw[O]at r ⊢;exact qdw func90 call90
def Qg(n:Nd)(s:Γ)(I:um s)(U:s.length<=9999999990)(p:bE n<=8589934593)
  (Y:af 55 [.sl 5 (aD (cw n)),.sl 2 (az s)] (yg (bU (cw n) (s,false))))
  (B:∀a∈cw n,∀W:Γ,um W->W.length<=s.length+1->af 55 [.sl 5 (aD (cw a)),.sl 2 (az W)] (yg (bU (cw a) (W,false)))) :
  af 70 [aV n,.sl 2 (az s)] (iD (gf n s)):=by
 obtain⟨T,N,P,S,F⟩:=n;simp only[cw]at Y B;simp only[bE]at p;by_cases V:T=3;subst V;rw[show gf (.mk 3 N P S F) s=bU F (s,false)from by simp only[gf,if_true]];generalize bU F (s,false)=r at Y;obtain⟨⟨t,b⟩,e⟩:=r;clear B;exact qdw func70 call70;have K:(T==3)=false:=by simpa using V
 by_cases E:T=2;rotate_left
 ·have J:(T != 2):=by simpa using E
  rw[show gf (.mk T N P S F) s=br 1 from by simp only[gf,if_neg V,if_pos E],dU bn];clear Y B;exact qdw func70 call70
 subst E;have M:=Pf 2 N P S F ai;cases hf:bB P F with
 |none =>
  rw[show gf (.mk 2 N P S F) s=br 1 from by simp only[gf,hf];rfl,dU bn];rw[hf]at M;clear Y B;exact qdw func70 call70
 |some C =>
  have Q:40<=P:=by unfold bB at hf;split at hf;cases hf;omega
  rw[show gf (.mk 2 N P S F) s=mJ P F (b8 F) C s from by simp only[gf,hf];rfl];have A:=MS P N S F C s Q hf I U ai B;rw[hf]at M;obtain⟨x,y,e,O,D,H⟩:=mP (mJ P F (b8 F) C s);rw[O]at A ⊢;clear Y B;exact qdw func70 call70
end Go.Proofs
namespace Go.Proofs
open Go.cE
def Zy{t:Γ}{f:Bool}{e:Int}(h:e≠0):iD ((t,f),e) = .eK [.agg [.any,.any],.int .i64 e]:=by unfold iD;rw[if_neg h]
def zE(n:Nd):aP (cw n)+1<=bE n:=by cases n;simp only[cw,bE];omega
def Le(n:Nd):SizeOf.sizeOf (cw n)<SizeOf.sizeOf n:=by cases n;simp only[cw,Nd.mk.sizeOf_spec];omega
def ac2(x:Nd)(l:Θ)(o:Γ):bU (x::l) (o,true)=br 1:=by simp only[bU,if_true]
def ac3(x:Nd)(l:Θ)(o:Γ):bU (x::l) (o,false)=if(nH (gf x o)).2≠0 then br (nH (gf x o)).2 else bU l (nH (gf x o)).1:=by simp only[bU];rfl
def afV(o:Γ×Bool):bU [] o=(o,0):=by simp only[bU]
def ac4{t:Γ}{f:Bool}{e:Int}(h:e≠0):nH ((t,f),e)=br e:=by unfold nH;rw[if_pos h]
def ac5{t:Γ}{f:Bool}(h:40<t.length):nH ((t,f),0)=br 7:=by unfold nH;rw[if_neg (by simp),if_pos h]
def ac6{t:Γ}{f:Bool}(h:¬40<t.length)(N:t.all bA=false):nH ((t,f),0)=br 4:=by unfold nH;rw[if_neg (by simp),if_neg h,if_neg (by rw[N];decide)]
def ac7{t:Γ}{f:Bool}(h:¬40<t.length)(N:t.all bA):nH ((t,f),0)=((t,f),0):=by unfold nH;rw[if_neg (by simp),if_neg h,if_pos N]
attribute [local irreducible] AK ag aZ bS de aM bA ey bU gf iD
def BS:∀(l:Θ)(s:Γ)(B:Nat),um s->s.length<=B->40<=B->B+aP l<=9000000000->aP l<=8589934593 ->
  af 55 [.sl 5 (aD l),.sl 2 (az s)] (yg (bU l (s,false)))
 |l,s,B,d,hB,J,ω,hl=>by
  have M:∀x∈l,∀o:Γ,um o->o.length<=B->af 70 [aV x,.sl 2 (az o)] (iD (gf x o)):=by intro x O o Q K;have ψ:=eS O;have χ:=zE x;refine Qg x o Q ai ai (BS (cw x) o B Q K J ai ai) (λa A s' I υ=>?_);have τ:=eS A;have ρ:=zE a;exact BS (cw a) s' (B+1) I ai ai ai ai
  have SJ:=gB l;refine qn func55 call55 λβ hf=>?_;refine dnw ?_;refine AK.dg (α:=Nat×(Γ×Bool)) (λz=>z.1<=l.length/\um z.2.1/\z.2.1.length<=B/\bU l (s,false)=bU (l.drop z.1) z.2) (λz=>l.length-z.1)
   (λz=>[(16,Υ z.1),(15,Υ (aD l).length),(14,.c (.sl 5 (aD l))),(6,.ptr 6 0),(4,.ptr 4 0)])
   (λz=>[(6,[.c (.sl 2 (az z.2.1)),.c (.bool z.2.2)]),(4,[.own .exact 2 [],.c (.bool false)])]) (λ_=>[]) [6,4] (0,(s,false))
   ⟨ai,d,hB,Z⟩ ce ⟨Z,Z,trivial⟩ trivial Z Z Z ?_
  rintro⟨i,⟨o,b⟩⟩ ⟨u,Q,K,W⟩ ih;simp only at u Q K W;rcases fU l i u with ⟨x,O,hm⟩|Y
  ·have hc:=mG O;have t:=bp O;rw[cT O]at W;cases b with
   |true =>
    rw[ac2]at W;rw[W,kS];clear ih M W;obtain⟨k1,k2,k3,k4,k5⟩:=x;have BB:=ff O;exact dw
   |false =>
    rw[ac3]at W;have F:=M x hm o Q K;have p:=acr x o Q;clear M;generalize gf x o=r at F p W;obtain⟨⟨E,m⟩,e⟩:=r;obtain⟨k1,k2,k3,k4,k5⟩:=x;by_cases Y:e=0;rotate_left
    ·rw[ac4 Y,if_pos (show(br e).2≠0 from Y)]at W;rw[Zy Y]at F;rw[W,kS];have f:(e != 0):=by simpa using Y
     clear ih W;have Mp:=ff O;exact dw
    subst Y;rw[Pd]at F;have z1:=aY E;by_cases T:40<E.length;rw[ac5 T,if_pos (show(br 7).2≠0 from by decide)]at W;rw[W,kS];have f:decide ((((az E).length:Nat):Int)>40):=ace ai;clear ih W;have WM:=ff O;exact dw;have f:decide ((((az E).length:Nat):Int)>40)=false:=acf ai
    repeat' (first|refine ju ?_|refine zc ?_ ?_|(intro h;first|(cases h;done)|rw[h]|skip)|refine uI Z (i) Z (ff O) Z ?_|refine uC Z F ?_)
    refine AK.dg (α:=Nat) (λj=>j<=E.length/\E.all bA=(E.drop j).all bA) (λj=>E.length-j)
     (λj=>[(42,Υ j),(41,Υ (az E).length),(40,.c (.sl 2 (az E))),(16,Υ i),(15,Υ (aD l).length),(14,.c (.sl 5 (aD l))),(6,.ptr 6 0),(4,.ptr 4 0)])
     (λj=>[(6,[.c (.sl 2 (az E)),.c (.bool m)]),(4,[.own .exact 2 [],.c (.bool false)])]) (λ_=>[]) [6,4] 0
     ⟨ai,Z⟩ ce ⟨Z,Z,trivial⟩ trivial Z Z Z ?_
    rintro j ⟨hj,V⟩ jh;rcases fU E j hj with ⟨y,G,H⟩|P
    ·have D:=Mo G;have C:=bp G;have π:bh y<=2000:=p y H;have q:=mH y ai;rw[cT G,aiK]at V;obtain⟨U,us⟩:=y;cases N:bA (.mk U us)with
     |false =>
      rw[N]at q V;rw[ahT]at V;rw[ac6 T V,if_pos (show(br 4).2≠0 from by decide)]at W;rw[W,kS];clear ih jh W;have ο:=ij G;exact dw
     |true =>
      rw[N]at q V;rw[aiM]at V
      repeat' (first|refine ju ?_|refine zc ?_ ?_|(intro h;first|(cases h;done)|rw[h]|skip)|refine uI Z (j) Z (ij G) Z ?_|refine uC Z q ?_)
      exact AK.again (jh (j+1) ⟨C,V⟩ ai) ⟨.inl (dz (i:=j) ai),.inl Z,.inl Z,.inl Z,.inl Z,.inl Z,.inl Z,.inl Z,trivial⟩ ⟨Z,Z,trivial⟩ trivial Z Z Z
    have D:=Gz P;have S:E.all bA:=(by rw[V,P,aho];rfl);rw[ac7 T S,if_neg cS]at W;clear jh
    repeat' (first|refine ju ?_|refine zc ?_ ?_|(intro h;first|(cases h;done)|rw[h]|skip))
    exact AK.again (ih (i+1,(E,m)) ⟨t,vX S,by show E.length<=B;omega,W⟩ ga) ⟨.inl (dz (i:=i) ai),.inl Z,.inl Z,.inl Z,.inl Z,trivial⟩ ⟨Z,Z,trivial⟩ trivial Z Z Z
  have hc:=j9 Y;have h0:bU l (s,false)=((o,b),0):=by rw[W,Y,aho,afV]
  rw[h0];clear ih W M;exact dw
termination_by l=>SizeOf.sizeOf l
decreasing_by
 all_goals
  have h1:=ahx O;have t:=Le x
  first
   |omega
   |((have h3:=ahx A);have h4:=Le a;omega)
def xK(n:Nd)(s:Γ)(C:bE n<=8589934593)(d:bf s<=8589934593):af 41 [aV n,.sl 2 (az s)] (yg (jR n s)):=by
 have F:=tE n C;have zl:=lD s;have z1:=aY s;unfold jR;by_cases N:ey n≠0
 ·rw[if_pos N,kS];have A:(ey n != 0):=by simpa using N
  generalize ey n=z at F A;obtain⟨Q,E,G,q,M⟩:=n;exact qdw func41 call41
 rw[if_neg N];have P:ey n=0:=by simpa using N
 rw[P]at F;have B:=zE n;obtain⟨Q,E,G,q,M⟩:=n;simp only[cw]at B;by_cases I:Q≠3
 ·simp only[if_pos I];rw[kS];have A:(Q != 3):=by simpa using I
  exact qdw func41 call41
 obtain rfl:Q=3:=by simpa using I
 simp only[if_neg (show ¬((3:Int)≠3)from by simp)];by_cases D:40<s.length;rw[if_pos D,kS];have A:decide ((((az s).length:Nat):Int)>40):=ace ai;exact qdw func41 call41;rw[if_neg D];have A:decide ((((az s).length:Nat):Int)>40)=false:=acf ai;refine qn func41 call41 λβ hf=>?_
 repeat' (first|refine ju ?_|refine zc ?_ ?_|(intro h;first|(cases h;done)|rw[h]|skip)|refine uC Z F ?_)
 refine AK.dg (α:=Nat) (λj=>j<=s.length/\s.all bA=(s.drop j).all bA) (λj=>s.length-j)
  (λj=>[(25,Υ j),(24,Υ (az s).length),(23,.c (.sl 2 (az s))),(1,.c (.sl 2 (az s))),(2,.ptr 2 0),(4,.ptr 4 0)])
  (λj=>[(2,[Υ 3,Υ E,Υ G,.c (.str q),.c (.sl 5 (aD M))]),(4,[.own .exact 2 [],.c (.bool false)])]) (λ_=>[]) [2,4] 0
  ⟨ai,Z⟩ ce ⟨Z,Z,trivial⟩ trivial Z Z Z ?_
 rintro j ⟨u,Y⟩ jh;rcases fU s j u with ⟨y,V,O⟩|W
 ·have K:=Mo V;have J:=bp V;have p:=cN O;have H:=mH y ai;rw[cT V,aiK]at Y;obtain⟨U,x⟩:=y;cases S:bA (.mk U x)with
  |false =>
   rw[S]at H Y;rw[ahT]at Y;rw[if_neg (by rw[Y];decide),kS];clear jh;have o:=ij V;exact dw
  |true =>
   rw[S]at H Y;rw[aiM]at Y
   repeat' (first|refine ju ?_|refine zc ?_ ?_|(intro h;first|(cases h;done)|rw[h]|skip)|refine uI Z (j) Z (ij V) Z ?_|refine uC Z H ?_)
   exact AK.again (jh (j+1) ⟨J,Y⟩ ai) ⟨.inl (dz (i:=j) ai),.inl Z,.inl Z,.inl Z,.inl Z,.inl Z,trivial⟩ ⟨Z,Z,trivial⟩ trivial Z Z Z
 have K:=Gz W;have T:s.all bA:=by rw[Y,W,aho];rfl
 rw[if_pos T];have kO:=fX s ai;have m:=BS M s 40 (vX T) ai ai ai ai;generalize bU M (s,false)=r at m;obtain⟨⟨t,f⟩,e⟩:=r;clear jh;exact dw
end Go.Proofs
namespace Go.cE
mutual
def fE:Vl->Bool
 |.mk k _ _ _ V Y code =>
  if k=14 then decide ((jR (.mk 3 0 0 [] code) (Y.take 1)).2=0)&&((jR (.mk 3 0 0 [] code) (Y.take 1)).1.2||gS (jR (.mk 3 0 0 [] code) (Y.take 1)).1.1 (Y.drop 1)) && !dH code
  else eo V
def eo:Ξ->Bool
 |[]=>true
 |x::l=>fE x&&eo l
end
def fK(t:Ty)(v:Vl):Bool:=oJ t v&&fE v
def iY(p s:Ty)(n:Nd):Int :=
 if(bA p&&bA s&&gk p&&gk s)=false then 5
 else if(jR n [.mk 11 [p,s]]).2≠0 then(jR n [.mk 11 [p,s]]).2
 else if(jR n [.mk 11 [p,s]]).1.2=false/\gS (jR n [.mk 11 [p,s]]).1.1 [.mk 11 [.mk 10 [.mk 8 []],s]]=false then 5 else 0
mutual
def vL2:Vl->Bool
 |.mk k _ _ _ V Y _=>(if k=14 then decide (Y.length=2)else true)&&MX V
def MX:Ξ->Bool
 |[]=>true
 |x::l=>vL2 x&&MX l
end
mutual
def MY:∀(v:Vl)(t:Ty),mN t->bJ v t->vL2 v
 |.mk k n a s F E code,.mk T r,ok,h=>by
  have P:=H8 F;have o:=H9 F;have C:F.length=0->MX F:=λh=>by rw[List.length_eq_zero_iff.1 h];rfl
  have S:=sM ok;unfold bJ at h;by_cases Y:k≠cL (.mk T r)\/cG (.mk k n a s F E code)=false\/200<s.length;rw[if_pos Y]at h;cases h;rw[if_neg Y]at h;have J:cG (.mk k n a s F E code):=by
   cases m:cG (.mk k n a s F E code)with
   |true=>rfl
   |false=>exact absurd (.inr (.inl m)) Y
  have I:k=T:=aip λK=>Y (.inl K);subst I;clear Y;have D:∀{p q:Prop}[Decidable (p/\q)],decide (p/\q)->q:=λh=>(ahG h).2;simp only[vL2,aaI];by_cases W:k=14;subst W;have Q:E.length=2/\a=0/\n=0/\s=[]/\F.length=0:=(by simpa[cG]using J);exact⟨by simp[Q.1],C Q.2.2.2.2⟩;rw[if_neg W];refine⟨Z,?_⟩;by_cases G:k=1\/k=6;rw[if_pos G]at h;exact C (ahG h).2;rw[if_neg G]at h;by_cases u:k=2;rw[if_pos u]at h;exact C (ahG h).2.2;rw[if_neg u]at h;by_cases B:k=3;rw[if_pos B]at h;exact C (ahG h).2.2;rw[if_neg B]at h;by_cases c4:k=4\/k=5;rw[if_pos c4]at h;exact C (ahG h).2.2;rw[if_neg c4]at h;by_cases N:k=7;rw[if_pos N]at h;exact C (ahG h).2.2;rw[if_neg N]at h;by_cases V:k=9;rw[if_pos V,aaI]at h;subst V;obtain⟨x,rfl,O⟩:=dD ok bn;exact P x O h.2;rw[if_neg V]at h;by_cases vR:k=10;rw[if_pos vR,aaI]at h;subst vR;obtain⟨x,rfl,O⟩:=dD ok bn;exact P x O h.2;rw[if_neg vR]at h;by_cases CW:k=11;rw[if_pos CW,aaI]at h;subst CW;have z:=S.1;rw[show arity 11=2 from by decide]at z;exact o r (λx O=>S.2 x O) h.2 aab;rw[if_neg CW]at h;by_cases CX:k=12
  ·rw[if_pos CX,aaI]at h;subst CX;obtain⟨x,y,rfl,O,H⟩:=dr ok bn;have A:=ahG h.1;rcases(show n=0\/n=1 by omega)with rfl|rfl
   exact P x O h.2;exact P y H h.2
  rw[if_neg CX]at h;by_cases CY:k=13;rw[if_pos CY,aaI,aaI]at h;subst CY;exact P _ (CQ ok bn) h.1.2;rw[if_neg CY,if_neg W]at h;by_cases U:k=15;rw[if_pos U,aaI]at h;subst U;obtain⟨x,rfl,O⟩:=dD ok bn;exact P x O h.2;rw[if_neg U]at h;by_cases M:k=8;rw[if_pos M,aaI,aaI]at h;exact P _ (bw h.1.2) h.2;rw[if_neg M]at h;cases h
def H8:∀(l:Ξ)(t:Ty),mN t->aS l t->MX l
 |[],_,_,_=>rfl
 |x::l,t,ok,h=>by simp only[aS,aaI]at h;simp only[MX,aaI];exact⟨MY x t ok h.1,H8 l t ok h.2⟩
def H9:∀(l:Ξ)(r:Γ),(∀x∈r,mN x)->dM l r->l.length<=r.length->MX l
 |[],_,_,_,_=>rfl
 |x::l,[],_,_,h=>by simp at h
 |x::l,t::r,ok,h,E=>by simp only[dM,aaI]at h;simp only[MX,aaI];exact⟨MY x t (ok t cS) h.1,H9 l r (λx O=>ok x Ko) h.2 (by simpa using E)⟩
end
def ac8{t:Ty}{v:Vl}(h:oJ t v):vL2 v:=by unfold oJ at h;rw[aaI]at h;exact MY v t (bw h.1) h.2
def Qh:∀{l:Ξ}{x:Vl},MX l->x∈l->vL2 x
 |y::l,x,h,O=>by
  simp only[MX,aaI]at h;rcases List.mem_cons.1 O with rfl|O
  exact h.1;exact Qh h.2 O
def Lf:∀l:Ξ,eo l = !(l.any λx => !fE x)
 |[]=>rfl
 |x::l=>by simp only[eo,akx,Lf l,Bool.not_or,Bool.not_not]
end Go.cE
namespace Go.Proofs
open Go.cE
def Ia(k n a:Int)(s:Δ)(Y:Ξ)(p q:Ty)(code:Θ)(I:k=14):fE (.mk k n a s Y [p,q] code) =
  (decide ((jR (.mk 3 0 0 [] code) [p]).2=0)&&((jR (.mk 3 0 0 [] code) [p]).1.2||gS (jR (.mk 3 0 0 [] code) [p]).1.1 [q]) && !dH code):=by
 unfold fE;rw[if_pos I];rfl
def Tl(k n a:Int)(s:Δ)(Y:Ξ)(V:Γ)(code:Θ)(I:k≠14):fE (.mk k n a s Y V code)=eo Y:=by rw[fE,if_neg I]
attribute [local irreducible] AK ag aZ bS de aM bA ey bU gf jR dH fE eo oJ fZ gk
def FD:∀(v:Vl),vL2 v->aG v<=8589934593->af 45 [bz v] (.bool (fE v))
 |.mk k n a s Q J code,F,u=>by
  simp only[aG]at u;simp only[vL2,aaI]at F;by_cases I:k=14
  ·rw[if_pos I]at F;obtain⟨p,q,rfl⟩:=FE (ahG F.1);rw[Ia k n a s Q p q code I];subst I;simp only[bf]at u;have D:=xK (.mk 3 0 0 [] code) [p] afu (by simp only[bf];omega);have V:=yO code ai;have N := @D3 (.mk 3 0 0 [] code) [p];generalize jR (.mk 3 0 0 [] code) [p]=r at D N;obtain⟨⟨t,f⟩,e⟩:=r;simp only at N ⊢;by_cases Y:e=0;rotate_left;have A:(e==0)=false:=(by simpa using Y);rw[acf Y,ahT,ahT];exact qdw func45 call45;subst Y;rw[ace Z,aiM];have W:=yM t [q] (vX (N Z).1) (by have:=(N Z).2.1;omega);cases f with
   |true =>
    rw[Bool.true_or,aiM];exact qdw func45 call45
   |false =>
    rw[ajV];cases z:gS t [q]with
    |false =>
     rw[z]at W;rw[ahT];exact qdw func45 call45
    |true =>
     rw[z]at W;rw[aiM];exact qdw func45 call45
  rw[Tl k n a s Q J code I,Lf];have A:(k==14)=false:=by simpa using I
  have C:∀x∈Q,af 60 (bz x::[]) (.bool (!fE x)):=λx O=>by have V:=dV O;have z:=FD x (Qh F.2 O) ai;obtain⟨U,B,M,E,T,K,S⟩:=x;exact qdw func60 call60
  have P:=iT Q;have z:=wA Q (λx => !fE x) 60 [] C ai;clear C;exact qdw func45 call45
termination_by v=>SizeOf.sizeOf v
decreasing_by
 have:=ahx O;simp at this ⊢;omega
def Ib(t:Ty)(v:Vl)(C:bh t<=8589934593)(u:aG v<=8589934593):af 29 [ct t,bz v] (.bool (fK t v)):=by
 have Y:=Xf t v C u;unfold fK;cases p:oJ t v with
 |false =>
  rw[p]at Y;rw[ahT];obtain⟨T,V⟩:=t;obtain⟨U,B,M,W,q,K,O⟩:=v;exact qdw func29 call29
 |true =>
  have S:=FD v (ac8 p) u;rw[p]at Y;rw[aiM];obtain⟨T,V⟩:=t;obtain⟨U,B,M,W,q,K,O⟩:=v;exact qdw func29 call29
end Go.Proofs
