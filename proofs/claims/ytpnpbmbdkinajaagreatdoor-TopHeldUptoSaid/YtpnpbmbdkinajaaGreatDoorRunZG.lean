/- A part of the proof. -/
import Derived.Test.YtpnpbmbdkinajaaGreatDoorRunVG
set_option linter.all false
set_option maxHeartbeats 0
set_option maxRecDepth 100000
open Go.IntKind Go.Proofs.Tryz
namespace Go.Proofs
open Go.cE
mutual
def Jr:∀(v:Vl)(t:Ty),mN t->bJ v t->iF t->fE v
 |.mk k n a s F D code,.mk T r,ok,h,Y=>by
  have P:=F0 F;have o:=F1 F;have C:F.length=0->eo F:=λh=>by rw[List.length_eq_zero_iff.1 h];rfl
  have S:=sM ok;simp only[iF,vE,aaI]at Y;have W:∀x∈r,iF x:=λx O=>RN Y.2 O;unfold bJ at h;by_cases V:k≠cL (.mk T r)\/cG (.mk k n a s F D code)=false\/200<s.length;rw[if_pos V]at h;cases h;rw[if_neg V]at h;have A:cG (.mk k n a s F D code):=by
   cases m:cG (.mk k n a s F D code)with
   |true=>rfl
   |false=>exact absurd (.inr (.inl m)) V
  have I:k=T:=aip λK=>V (.inl K);subst I;clear V;have d1:∀{p q:Prop}[Decidable (p/\q)],decide (p/\q)->q:=λh=>(ahG h).2;have Q:k≠14:=by rintro rfl;exact absurd Y.1 bn
  have J:k≠15:=by rintro rfl;exact absurd Y.1 bn
  have H:k≠8:=by rintro rfl;exact absurd Y.1 bn
  suffices E:eo F by simpa[fE,Q]using E
  by_cases B:k=1\/k=6;rw[if_pos B]at h;exact C (ahG h).2;rw[if_neg B]at h;by_cases u:k=2;rw[if_pos u]at h;exact C (ahG h).2.2;rw[if_neg u]at h;by_cases N:k=3;rw[if_pos N]at h;exact C (ahG h).2.2;rw[if_neg N]at h;by_cases c4:k=4\/k=5;rw[if_pos c4]at h;exact C (ahG h).2.2;rw[if_neg c4]at h;by_cases M:k=7;rw[if_pos M]at h;exact C (ahG h).2.2;rw[if_neg M]at h;by_cases U:k=9;rw[if_pos U,aaI]at h;subst U;obtain⟨x,rfl,O⟩:=dD ok bn;exact P x O h.2 (W x cS);rw[if_neg U]at h;by_cases vR:k=10;rw[if_pos vR,aaI]at h;subst vR;obtain⟨x,rfl,O⟩:=dD ok bn;exact P x O h.2 (W x cS);rw[if_neg vR]at h;by_cases CW:k=11;rw[if_pos CW,aaI]at h;subst CW;have z:=S.1;rw[show arity 11=2 from by decide]at z;exact o r (λx O=>S.2 x O) h.2 aab W;rw[if_neg CW]at h;by_cases CX:k=12
  ·rw[if_pos CX,aaI]at h;subst CX;obtain⟨x,y,rfl,O,G⟩:=dr ok bn;have j:=ahG h.1;rcases(show n=0\/n=1 by omega)with rfl|rfl
   exact P x O h.2 (W x cS);exact P y G h.2 (W y cS)
  rw[if_neg CX]at h;by_cases CY:k=13;rw[if_pos CY,aaI,aaI]at h;subst CY;exact P _ (CQ ok bn) h.1.2 (by simp only[iF,vE,Y.2,ajy];decide);rw[if_neg CY,if_neg Q,if_neg J,if_neg H]at h;cases h
def F0:∀(l:Ξ)(t:Ty),mN t->aS l t->iF t->eo l
 |[],_,_,_,_=>rfl
 |x::l,t,ok,h,Y=>by simp only[aS,aaI]at h;simp only[eo,aaI];exact⟨Jr x t ok h.1 Y,F0 l t ok h.2 Y⟩
def F1:∀(l:Ξ)(r:Γ),(∀x∈r,mN x)->dM l r->l.length<=r.length->(∀x∈r,iF x)->eo l
 |[],_,_,_,_,_=>rfl
 |x::l,[],_,_,h,_=>by simp at h
 |x::l,t::r,ok,h,D,Y=>by simp only[dM,aaI]at h;simp only[eo,aaI];exact⟨Jr x t (ok t cS) h.1 (Y t cS),F1 l r (λy G=>ok y aga) h.2 (by simpa using D) (λy G=>Y y aga)⟩
end
def RO{t n}(h:(gV t n).2=0)(Y:iF t):bA t/\bJ (gV t n).1 t/\fE (gV t n).1:=by have V:=(D7 h).1;unfold oJ at V;rw[aaI]at V;exact⟨V.1,V.2,Jr _ t (bw V.1) V.2 Y⟩
def adH{P O Q}(h:bB P O=some Q)(I:iq P=[116,118]):∃x y,O=[x,y]/\(aM x).2=0/\Q=[(aM x).1]:=by
 obtain⟨M,K⟩:=l8 h;rw[I]at M K;rcases O with _|⟨x,_|⟨y,_|⟨z,r⟩⟩⟩
 simp at M;simp at M;obtain⟨T,N,p,q,J⟩:=x;obtain⟨Y,V,U,S,W⟩:=y;have B:(if(aM (.mk T N p q J)).2=0 then some ([]++[(aM (.mk T N p q J)).1])else none)=some Q:=K;split at B;simp_all;cases B;simp at M
def Oz:bP 45=0:=by decide +kernel
def Uw(S T p J)(P:aP J<=8589934593)(M s)(r:Γ×Bool)(hf:bB 45 J=some M)(Y:dj s S.st)(E:s.length<=340)(N:r.1.all bA)(D:(if(gV (M.getD 0 kg) (J.getD 1 rX)).2=0/\iF (M.getD 0 kg)=true then fO (M.getD 0 kg::s)else br 5)=(r,0)):bt T p 45 J S/\bV S r (aA 45 J S):=by
 obtain⟨a,b,c,d,q,C,g,u,m,K⟩:=S;obtain⟨x,y,rfl,Q,rfl⟩:=adH hf bn;have V:=bH Y;simp only at Y V;have O:(if(gV (aM x).1 y).2=0/\iF (aM x).1 then fO ((aM x).1::s)else br 5)=(r,0):=D;split at O;rotate_left;cases O;rename_i G;cases O;have W:=RO G.1 G.2;have U:=AF (aM x).1 y;simp only[aP]at P;unfold bt;have e:aA 45 [x,y] ⟨a,b,c,d,q,C,g,u,m,K⟩=bg ⟨a,b,c,d,q,C,g,u,m,K⟩ [(gV (aM x).1 y).1]:=by unfold aA;rw[Oz];rfl
 rw[e];exact⟨kM _ _ 2 T 45 p _ [] q _ bn (by rw[Oz];rfl) bT (TR ⟨a,b,c,d,q,C,g,u,m,K⟩ T p x y ai ai G.1 ai bT),cu (S:=⟨a,b,c,d,q,C,g,u,m,K⟩) (eX W.1 W.2) Y⟩
def RP{t s}(Y:iF t)(h:(jg t s).2=0):aG (jg t s).1<=60300/\bJ (jg t s).1 t/\fE (jg t s).1:=by
 cases s with
 |nil=>cases h
 |cons c r =>
  by_cases u:c=5/\(c::r).length<=200/\iF t/\(gu r).2=0;have e:jg t (c::r)=gV t (gu r).1:=if_pos u;rw[e]at h ⊢;have V:=RO h Y;have U:=Cc (D7 h).2.1;exact⟨aiq (AF _ _) U,V.2⟩;have e:jg t (c::r)=(jl,1):=if_neg u;rw[e]at h;cases h
def N0(S A Y F)(U:aP F<=8589934593)(z s)(r:Γ×Bool)(hf:bB 82 F=some z)(I:dj s S.st)(E:s.length<=340)(N:r.1.all bA)(D:kj 82 z s=(r,0)):bt A Y 82 F S/\bV S r (aA 82 F S):=by
 obtain⟨a,b,c,d,st,C,g,u,m,K⟩:=S;obtain⟨x,rfl,f,rfl⟩:=B7 hf bn;have W:=bH I;simp only at I W;cases s with
 |nil=>cases D
 |cons t s =>
 obtain⟨v,q,rfl,J,y⟩:=aK I;have Q:=bW J.1;obtain⟨T,ts⟩:=t;simp only[aat]at W E;have O:(if T=6/\iF (aM x).1 then fO (.mk 9 [(aM x).1]::s)else br 5)=(r,0):=D;split at O;rotate_left;cases O;rename_i B;cases O;obtain⟨rfl,H⟩:=B;obtain⟨P,rfl,g1⟩:=AX Q.2.1;simp only[aP]at U;unfold bt;have e:aA 82 [x] ⟨a,b,c,d,.mk 6 0 0 P [] [] []::q,C,g,u,m,K⟩=(if(jg (aM x).1 P).2≠0 then bg ⟨a,b,c,d,q,C,g,u,m,K⟩ [cr []]else bg ⟨a,b,c,d,q,C,g,u,m,K⟩ [cr [(jg (aM x).1 P).1]]):=by unfold aA;rw[Oy];rfl
 rw[e];have o:=λh=>RP (t:=(aM x).1) (s:=P) H h;generalize M:jg (aM x).1 P=p at *;obtain⟨V,G⟩:=p;by_cases h:G=0;subst h;obtain⟨j,i⟩:=o rfl;rw[if_neg (λh=>h Z)];exact⟨iR _ _ 2 A 82 Y _ [_] q _ bn (by rw[Oy];rfl) QH (aaS ⟨a,b,c,d,q,C,g,u,m,K⟩ A Y 6 0 0 P [] [] [] x ai V M (by simp only at j;omega) bT),cu (S:=⟨a,b,c,d,q,C,g,u,m,K⟩) (eX (bK N) (kz i)) y⟩;rw[if_pos h];exact⟨iR _ _ 2 A 82 Y _ [_] q _ bn (by rw[Oy];rfl) QH (aaR ⟨a,b,c,d,q,C,g,u,m,K⟩ A Y 6 0 0 P [] [] [] x ai V G M h bT),cu (S:=⟨a,b,c,d,q,C,g,u,m,K⟩) (eX (bK N) pH) y⟩
def Dr:bP 63=3:=by decide +kernel
def NU(S A I F)(ω:L (Γ->CR))(o s)(r:Γ×Bool)(hf:bB 63 F=some o)(f:dj s S.st)(hl:s.length<=340)(hg:r.1.all bA)(j:jc 63 ω o s=(r,0)):bt A I 63 F S/\bV S r (aA 63 F S):=by
 obtain⟨a,b,c,d,st,C,g,u,m,K⟩:=S;obtain⟨rfl,rfl⟩:=cQ hf bn;have fY:=bH f;simp only at f fY;rcases s with _|⟨t1,_|⟨t2,_|⟨t3,s⟩⟩⟩
 cases j;cases j;cases j;obtain⟨v,q0,rfl,hv,pR⟩:=aK f;obtain⟨w,q1,rfl,hw,J5⟩:=aK pR;obtain⟨z,q,rfl,hz,hq⟩:=aK J5;have f1:=bW hv.1;have f2:=bW hw.1;have f3:=bW hz.1;obtain⟨T2,Bw⟩:=t2;obtain⟨T3,ψ⟩:=t3;simp only[aat]at fY hl;have bX:(if T2=9/\T3=13/\cx t1 (aL (.mk T3 ψ) 0)/\cx (aL (.mk T2 Bw) 0) (aL (.mk T3 ψ) 1) then fO (.mk T3 ψ::s)else br 5)=(r,0):=j;split at bX;rotate_left;cases bX;rename_i c1;cases bX;obtain⟨rfl,rfl,c2,c3⟩:=c1;obtain⟨t0,rfl,ι⟩:=dD (bw f2.1) bn;obtain⟨t,t',rfl,FW,Q6⟩:=dr (bw f3.1) bn;have et:t1=t:=(eD _ _).1 c2;have ο:t0=t':=(eD _ _).1 c3;subst et ο;obtain⟨l,rfl,yF,U,Q,χ⟩:=va f3.2.1 f3.2.2;have ξ:=hz.2;simp only[aG,bf,aP,aav]at ξ;have θ:=hv.2;have G:=NT f3.1;have O:=I4 G.1 G.2 U Q f1.2.1 yF ai;have ν:=I6 l v;have Tm:=Ab l (bY l v);have Rg:=Ab l (bY l v+1);have i:=Aa U (bY l v);have Pt:=Aa U (bY l v+1);have W:=EV χ (bY l v);have T:=EV χ (bY l v+1);have D:∀(e:Int)(S':bM),cM 117 ⟨a,b,c,d,q,C,g,u,m,K⟩ [.c (aV (.mk 2 A 63 I [])),.c (.sl 7 (aa [v,w,.mk 13 0 0 [] l [] []]))] (ah e) S'->cM 98 ⟨a,b,c,d,v::w :: .mk 13 0 0 [] l [] []::q,C,g,u,m,K⟩ [.c (aV (.mk 2 A 63 I []))] (ah e) S':=λe S' h =>
  tZ _ _ 2 A 63 I _ [_,_,_] q _ bn (by rw[Dr];rfl) (by show List.length (v::w::Vl.mk 13 0 0 [] l [] []::q)<=_;simp only[aat];omega) h
 unfold bt;rcases Ds f2.2.1 f2.2.2 with rfl|⟨y,rfl,hy⟩
 ·have e:aA 63 [] ⟨a,b,c,d,v::cr [] :: .mk 13 0 0 [] l [] []::q,C,g,u,m,K⟩=bg ⟨a,b,c,d,q,C,g,u,m,K⟩ [.mk 13 0 0 [] (if fB l v=true then l.take (bY l v)++l.drop (bY l v+1)else l) [] []]:=by unfold aA;rw[Dr];rfl
  rw[e];by_cases h:fB l v
  ·rw[if_pos h];have V:=Uk G.1 G.2 l (bY l v) U Q;rw[h]at O;have hi:bY l v<l.length:=by
    unfold fB at h;cases hh:l[bY l v]? with
    |none=>rw[hh]at h;cases h
    |some x=>exact(List.getElem?_eq_some_iff.1 hh).1
   have I7:=Dp (l:=l.take (bY l v)++l.drop (bY l v+1)) (t:=t1) (u:=t0) adB (by rw[oG,i.1,Pt.2];rfl) V (by rw[sS,W.1,T.2];rfl);have p:aG (.mk 13 0 0 [] (l.take (bY l v)++l.drop (bY l v+1)) [] [])<=8589934593:=(by simp only[aG,oH,bf,aP,aav];omega);refine⟨D _ _ ?_,cu (S:=⟨a,b,c,d,q,C,g,u,m,K⟩) (eX (bK hg) I7) hq⟩;clear D e hv f j Tm Rg i Pt W T I7 V;obtain⟨P,N,M,H,Y,J,B⟩:=v;cases l with
   |nil=>simp at hi
   |cons x l=>exact Rh ⟨a,b,c,d,q,C,g,u,m,K⟩ A I P N M H Y J B 9 0 0 [] [] [] 13 0 0 [] [] [] x l ab9 _ (by simpa using hi) O p bT
  rw[if_neg h];rw[show fB l v=false by simpa using h]at O;refine⟨D _ _ ?_,cu (S:=⟨a,b,c,d,q,C,g,u,m,K⟩) (eX (bK hg) (Dp yF U Q χ)) hq⟩;have p:aG (.mk 13 0 0 [] l [] [])<=8589934593:=by simp only[aG,bf,aP,aav];omega
  clear D e hv f j Tm Rg i Pt W T;obtain⟨P,N,M,H,Y,J,B⟩:=v;cases l with
  |nil=>exact Ri ⟨a,b,c,d,q,C,g,u,m,K⟩ A I P N M H Y J B 9 0 0 [] [] [] 13 0 0 [] [] [] _ O bT
  |cons x l=>exact Rj ⟨a,b,c,d,q,C,g,u,m,K⟩ A I P N M H Y J B 9 0 0 [] [] [] 13 0 0 [] [] [] x l ab9 _ O p bT
 have e:aA 63 [] ⟨a,b,c,d,v::cr [y] :: .mk 13 0 0 [] l [] []::q,C,g,u,m,K⟩=(if 24<=((if fB l v=true then l.take (bY l v)++l.drop (bY l v+1)else l)).length then((13,⟨a,b,c,d,q,C,g,u,m,K⟩):MR)else bg ⟨a,b,c,d,q,C,g,u,m,K⟩ [.mk 13 0 0 [] (((if fB l v=true then l.take (bY l v)++l.drop (bY l v+1)else l)).take (bY l v)++aU v y::((if fB l v=true then l.take (bY l v)++l.drop (bY l v+1)else l)).drop (bY l v)) [] []]):=by unfold aA;rw[Dr];rfl
 have μ:=hw.2;simp only[cr,aG,aH,bf,aP,aav]at μ;have NV:=kX f1.2 hy;by_cases h:fB l v
 ·rw[if_pos h]at e;have hi:bY l v<l.length:=by
   unfold fB at h;cases hh:l[bY l v]? with
   |none=>rw[hh]at h;cases h
   |some x=>exact(List.getElem?_eq_some_iff.1 hh).1
  have η:(l.take (bY l v)++l.drop (bY l v+1)).length+1=l.length:=by rw[acg,ahZ,aih];omega
  have υ:aS (l.take (bY l v)++l.drop (bY l v+1)) (.mk 11 [t1,t0]):=by rw[oG,i.1,Pt.2];rfl
  have ρ:eo (l.take (bY l v)++l.drop (bY l v+1)):=by rw[sS,W.1,T.2];rfl
  have π:=Uk G.1 G.2 l (bY l v) U Q;have τ:=VS G.1 G.2 f1.2.1 l U Q h;have V:=Uj G.1 G.2 f1.2.1 y _ υ π τ.2;rw[τ.1]at V;have κ:aH (l.take (bY l v)++l.drop (bY l v+1))<=2000000000:=by rw[oH];omega
  rw[if_neg ai]at e;rw[e];rw[h]at O;generalize hX:l.take (bY l v)++l.drop (bY l v+1)=X at *;have c1:=Aa υ (bY l v);have c2:=EV ρ (bY l v);have c3:=Ab X (bY l v);have I7:=Dp (t:=t1) (u:=t0) acB (show aS (X.take (bY l v)++aU v y::X.drop (bY l v)) _ by rw[oG,c1.1,aS,NV.1,c1.2];rfl) V (by rw[sS,c2.1,eo,NV.2,c2.2];rfl);have p:aG (.mk 13 0 0 [] (X.take (bY l v)++aU v y::X.drop (bY l v)) [] [])<=8589934593:=by simp only[aU,aG,oH,aH,bf,aP,aav];omega
  refine⟨D _ _ ?_,cu (S:=⟨a,b,c,d,q,C,g,u,m,K⟩) (eX (bK hg) I7) hq⟩;subst hX;clear D e hv f j Tm Rg i Pt W T I7 V c1 c2 c3 υ ρ π τ κ NV;obtain⟨P,N,M,H,Y,J,B⟩:=v;rcases l with _|⟨x,_|⟨x2,l⟩⟩
  simp at hi;have h0:bY [x] (.mk P N M H Y J B)=0:=(by simpa using hi);rw[h0]at O p ⊢;exact NW ⟨a,b,c,d,q,C,g,u,m,K⟩ A I P N M H Y J B 9 0 0 [] [] [] 13 0 0 [] [] [] x y O p bT;exact NX ⟨a,b,c,d,q,C,g,u,m,K⟩ A I P N M H Y J B 9 0 0 [] [] [] 13 0 0 [] [] [] x (x2::l) (by simp only[aat]at yF ⊢;omega) y _ (by simpa using hi) cS (by simp only[aat]at yF ⊢;omega) O p bT
 rw[if_neg h]at e;have h':fB l v=false:=by simpa using h
 rw[h']at O;rw[e];by_cases E:24<=l.length
 ·rw[if_pos E];refine⟨D _ _ ?_,.inr (.inr Z)⟩;clear D e hv f j Tm Rg i Pt W T NV;obtain⟨P,N,M,H,Y,J,B⟩:=v;cases l with
  |nil=>simp at E
  |cons x l=>exact NY ⟨a,b,c,d,q,C,g,u,m,K⟩ A I P N M H Y J B 9 0 0 [] [] [] 13 0 0 [] [] [] x l ab9 y _ (by simpa using E) O bT
 rw[if_neg E];have V:=Uj G.1 G.2 f1.2.1 y l U Q h';have I7:=Dp (t:=t1) (u:=t0) acB (show aS (l.take (bY l v)++aU v y::l.drop (bY l v)) _ by rw[oG,i.1,aS,NV.1,i.2];rfl) V (by rw[sS,W.1,eo,NV.2,W.2];rfl);have p:aG (.mk 13 0 0 [] (l.take (bY l v)++aU v y::l.drop (bY l v)) [] [])<=8589934593:=by simp only[aU,aG,oH,aH,bf,aP,aav];omega
 refine⟨D _ _ ?_,cu (S:=⟨a,b,c,d,q,C,g,u,m,K⟩) (eX (bK hg) I7) hq⟩;clear D e hv f j Tm Rg i Pt W T I7 V NV;obtain⟨P,N,M,H,Y,J,B⟩:=v;cases l with
 |nil=>exact Rk ⟨a,b,c,d,q,C,g,u,m,K⟩ A I P N M H Y J B 9 0 0 [] [] [] 13 0 0 [] [] [] y O p bT
 |cons x l=>exact Rm ⟨a,b,c,d,q,C,g,u,m,K⟩ A I P N M H Y J B 9 0 0 [] [] [] 13 0 0 [] [] [] x l ab9 y _ (by simpa using ν) (by simpa using E) O p bT
end Go.Proofs
