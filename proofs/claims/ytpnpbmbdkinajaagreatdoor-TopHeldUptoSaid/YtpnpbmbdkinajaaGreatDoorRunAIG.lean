/- A part of the proof. -/
import Derived.Test.YtpnpbmbdkinajaaGreatDoorRunAAG
import Derived.Test.YtpnpbmbdkinajaaGreatDoorRunAKG
import Derived.Test.YtpnpbmbdkinajaaGreatDoorRunZG
set_option linter.all false
set_option maxHeartbeats 0
set_option maxRecDepth 100000
namespace Go.Proofs
open Go.cE
def KE(P)(W:P=69\/P=70\/P=71\/P=72\/P=93\/P=94\/P=95)(S T p U)(V:aP U<=8589934593)(O:L (Γ->CR))(Q s)(r:Γ×Bool)(hf:bB P U=some Q)(Y:dj s S.st)(E:s.length<=340)(N:r.1.all bA)(D:eU P s=(r,0)):bt T p P U S/\bV S r (aA P U S):=by
 rcases W with rfl|rfl|rfl|rfl|rfl|rfl|rfl
 exact Xu S T p U Q s r hf Y E N D;exact Xv S T p U Q s r hf Y E N D;exact Xw S T p U Q s r hf Y E N D;exact Xx S T p U Q s r hf Y E N D;exact Xy S T p U Q s r hf Y E N D;exact Xz S T p U Q s r hf Y E N D;exact XA S T p U Q s r hf Y E N D
def Ul(P)(W:P=73\/P=74\/P=75\/P=76\/P=77\/P=78\/P=79\/P=80\/P=81\/P=82)(S T p Q)(V:aP Q<=8589934593)(O:L (Γ->CR))(U s)(r:Γ×Bool)(hf:bB P Q=some U)(Y:dj s S.st)(E:s.length<=340)(N:r.1.all bA)(D:kj P U s=(r,0)):bt T p P Q S/\bV S r (aA P Q S):=by
 rcases W with rfl|rfl|rfl|rfl|rfl|rfl|rfl|rfl|rfl|rfl
 exact XB S T p Q U s r hf Y E N D;exact Rn S T p Q U s r hf Y E N D;exact Ro S T p Q U s r hf Y E N D;exact Rp S T p Q U s r hf Y E N D;exact XC S T p Q U s r hf Y E N D;exact XD S T p Q U s r hf Y E N D;exact aaz S T p Q U s r hf Y E N D;exact NZ S T p Q U s r hf Y E N D;exact Um S T p Q U s r hf Y E N D;exact N0 S T p Q V U s r hf Y E N D
def Rq(P)(V:P=84\/P=85\/P=86\/P=87\/P=88\/P=89\/P=90\/P=91\/P=92)(S)(A:qP S.self S.jr S.js S.balance)(Y:0<=S.aj/\S.aj<=bL)(T p Q)(W:aP Q<=8589934593)(O:L (Γ->CR))(U s)(r:Γ×Bool)(hf:bB P Q=some U)(I:dj s S.st)(E:s.length<=340)(N:r.1.all bA)(D:iL P U s=(r,0)):bt T p P Q S/\bV S r (aA P Q S):=by
 rcases V with rfl|rfl|rfl|rfl|rfl|rfl|rfl|rfl|rfl
 exact NJ S A Y T p Q W U s r hf I E N D;exact T8 S A Y T p Q W U s r hf I E N D;exact Q5 S A Y T p Q W U s r hf I E N D;exact Ub S A Y T p Q W U s r hf I E N D;exact I2 S A Y T p Q W U s r hf I E N D;exact T6 S A Y T p Q W U s r hf I E N D;exact ND S A Y T p Q W U s r hf I E N D;exact NH S A Y T p Q W U s r hf I E N D;exact Ky S A Y T p Q W U s r hf I E N D
def Rr(P)(W:P=59\/P=61\/P=62\/P=63)(S T p Q)(V:aP Q<=8589934593)(O:L (Γ->CR))(U s)(r:Γ×Bool)(hf:bB P Q=some U)(Y:dj s S.st)(E:s.length<=340)(N:r.1.all bA)(D:jc P O U s=(r,0)):bt T p P Q S/\bV S r (aA P Q S):=by
 rcases W with rfl|rfl|rfl|rfl
 exact Ud S T p Q O U s r hf Y E N D;exact Re S T p Q O U s r hf Y E N D;exact Xt S T p Q O U s r hf Y E N D;exact NU S T p Q O U s r hf Y E N D
def KF(P)(W:P=46\/P=47\/P=48\/P=49\/P=50\/P=51\/P=53\/P=54\/P=56\/P=57)(S T p O)(V:aP O<=8589934593)(Q:L (Γ->CR))(U s)(r:Γ×Bool)(hf:bB P O=some U)(Y:dj s S.st)(E:s.length<=340)(N:r.1.all bA)(D:dh P Q U s=(r,0)):bt T p P O S/\bV S r (aA P O S):=by
 rcases W with rfl|rfl|rfl|rfl|rfl|rfl|rfl|rfl|rfl|rfl
 exact Un S T p O Q U s r hf Y E N D;exact N1 S T p O Q U s r hf Y E N D;exact XE S T p O Q U s r hf Y E N D;exact XF S T p O Q U s r hf Y E N D;exact Uo S T p O Q U s r hf Y E N D;exact Rt S T p O Q U s r hf Y E N D;exact Up S T p O Q U s r hf Y E N D;exact Uq S T p O Q U s r hf Y E N D;exact XG S T p O Q U s r hf Y E N D;exact Uc S T p O Q U s r hf Y E N D
def Jb(y P S)(A:qP S.self S.jr S.js S.balance)(I:0<=S.aj/\S.aj<=bL)(T K F)(C:lg F)(z s)(r:Γ×Bool)(hf:bB P F=some z)(Y:dj s S.st)(E:s.length+cV F<=339)(u:S.fr.length<=1099511627776)(N:r.1.all bA)(D:mJ P F (b8 F) z s=(r,0)):bt T K P F S/\Comes y S r (aA P F S):=by
 have V:aP F<=8589934593:=aiq (Cb C) ai;have W:s.length<=340:=by omega
 have x:¬P<40:=by intro h;unfold bB at hf;rw[if_pos (.inl h)]at hf;cases hf
 have st:∀{p q:Prop},bt T K P F S/\bV S r (aA P F S)->bt T K P F S/\Comes y S r (aA P F S):=λh=>⟨h.1,.inl h.2⟩;unfold mJ at D;by_cases B:P<=44;rw[if_pos B]at D;exact st (p:=True) (q:=True) (Uv P ai S T K F z s r hf Y W D);rw[if_neg B]at D;by_cases U:P=45;rw[if_pos U]at D;subst U;exact st (p:=True) (q:=True) (Uw S T K F V z s r hf Y W N D);rw[if_neg U]at D;by_cases Q:P<=58;rw[if_pos Q]at D;by_cases G:P=52;subst G;exact N6 y S T K F C z s r hf Y E u D;by_cases H:P=55;subst H;exact N8 y S T K F C z s r hf Y E u D;by_cases d3:P=58;subst d3;exact N9 y S T K F C z s r hf Y E u D;exact st (p:=True) (q:=True) (KF P ai S T K F V (b8 F) z s r hf Y W N D);rw[if_neg Q]at D;by_cases c4:P<=63;rw[if_pos c4]at D;by_cases G:P=60;subst G;exact Us y S T K F C z s r hf Y E u D;exact st (p:=True) (q:=True) (Rr P ai S T K F V (b8 F) z s r hf Y W N D);rw[if_neg c4]at D;by_cases O:P<=68
 ·rw[if_pos O]at D;rcases(show P=64\/P=65\/P=66\/P=67\/P=68 by omega)with rfl|rfl|rfl|rfl|rfl
  exact aaC y S T K F C z s r hf Y E u D;exact Ut y S T K F C z s r hf Y E u D;exact Oa y S T K F C z s r hf Y E u N D;exact Uu y S T K F z s r hf Y E u D;exact XH y S T K F C z s r hf Y E u D
 rw[if_neg O]at D;by_cases M:P<=72\/P>=93
 ·rw[if_pos M]at D;have:P<=95:=by apply aip;intro h;unfold eU at D;rw[if_neg ai,if_neg ai,if_neg ai,if_pos ai]at D;cases D
  exact st (p:=True) (q:=True) (KE P ai S T K F V (b8 F) z s r hf Y W N D)
 rw[if_neg M]at D;by_cases J:P<=83;rw[if_pos J]at D;by_cases G:P=83;subst G;have h:=Ux S T K F z s r hf Y W D;exact⟨h.1,.inr (.inr h.2)⟩;exact st (p:=True) (q:=True) (Ul P ai S T K F V (b8 F) z s r hf Y W N D);rw[if_neg J]at D;exact st (p:=True) (q:=True) (Rq P ai S A I T K F V (b8 F) z s r hf Y W N D)
def FY(S u:bM):Prop:=u.self=S.self/\u.jr=S.jr/\u.js=S.js/\u.balance=S.balance/\u.bC=S.bC/\u.used=S.used
def Uy(S l):FY S (bg S l).2/\(bg S l).2.aj=S.aj:=⟨⟨Z,Z,Z,Z,Z,Z⟩,Z⟩
def Jc{c}[Decidable c]{Q:MR->Prop}{a b}(Y:Q a)(V:Q b):Q (if c then a else b):=by grind
def KM(S:bM)(o:MR):Prop:=FY S o.2/\o.2.aj=S.aj
def Ae(S l):KM S (bg S l):=Uy S l
def Af(S u e)(h:FY S u/\u.aj=S.aj):KM S (e,u):=h
def aaD(P Y l S):KM S (Rx P Y l S):=by repeat' (first|exact Ae _ _|exact Af _ _ _ ⟨⟨rfl,rfl,rfl,rfl,rfl,rfl⟩,rfl⟩|refine Jc ?_ ?_)
def XI(P Y l S):KM S (Jd P Y l S):=by repeat' (first|exact Ae _ _|exact Af _ _ _ ⟨⟨rfl,rfl,rfl,rfl,rfl,rfl⟩,rfl⟩|refine Jc ?_ ?_)
def Ry(P Y l S):KM S (wU P Y l S):=by
 unfold wU;have V:∀(c:Θ)(f:Int)(a:Ξ)(q:Ξ),KM S (bg (dZ S c f a) q):=λc f a q=>⟨⟨Z,Z,Z,Z,Z,Z⟩,Z⟩;cases cP (lV l 0)<;>dsimp only <;>
 repeat' (first|exact V _ _ _ _|exact Ae _ _|exact Af _ _ _ ⟨⟨Z,Z,Z,Z,Z,Z⟩,Z⟩|refine Jc ?_ ?_)
def XJ(P Y l S):KM S (Ag P Y l S):=by
 unfold Ag;cases cP (lV l 1)<;>dsimp only <;>
 repeat' (first|exact Ae _ _|exact Af _ _ _ ⟨⟨Z,Z,Z,Z,Z,Z⟩,Z⟩|refine Jc ?_ ?_)
def Uz(P l S):KM S (vf P l S):=by
 unfold vf;dsimp only
 repeat' (first|exact Ae _ _|exact Af _ _ _ ⟨⟨Z,Z,Z,Z,Z,Z⟩,Z⟩|refine Jc ?_ ?_)
def aaE(P Y l S):KM S (FZ P Y l S):=by
 unfold FZ;dsimp only
 repeat' (first|exact Ae _ _|exact Af _ _ _ ⟨⟨Z,Z,Z,Z,Z,Z⟩,Z⟩|refine Jc ?_ ?_)
def XK(P Y l S):FY S (Ah P Y l S).2/\((Ah P Y l S).2.aj=S.aj\/P=84/\S.aj<=bL-vN (lV l 1)/\(Ah P Y l S).2.aj=S.aj+vN (lV l 1)):=by
 have C:∀{o:MR},KM S o->FY S o.2/\(o.2.aj=S.aj\/P=84/\S.aj<=bL-vN (lV l 1)/\o.2.aj=S.aj+vN (lV l 1)):=λh=>⟨h.1,.inl h.2⟩;unfold Ah;dsimp only;by_cases c:P=84;subst c;rw[if_neg bn,if_neg bn,if_neg bn,if_neg bn,if_pos rfl];by_cases G:vN (lV l 1)=0;rw[if_pos G];exact C (Ae _ _);rw[if_neg G];by_cases u:S.aj>bL-vN (lV l 1);rw[if_pos u];exact C (Af _ _ _ ⟨⟨Z,Z,Z,Z,Z,Z⟩,Z⟩);rw[if_neg u];exact⟨⟨Z,Z,Z,Z,Z,Z⟩,.inr ⟨Z,ai,Z⟩⟩;rw[if_neg (c:=P=84) c];refine C ?_
 repeat' (first|exact Ae _ _|exact Af _ _ _ ⟨⟨Z,Z,Z,Z,Z,Z⟩,Z⟩|refine Jc ?_ ?_)
def LK(P V l S):FY S (rU P V l S).2/\((rU P V l S).2.aj=S.aj\/P=84/\S.aj<=bL-vN (lV l 1)/\(rU P V l S).2.aj=S.aj+vN (lV l 1)):=by have C:∀{o:MR},KM S o->FY S o.2/\(o.2.aj=S.aj\/P=84/\S.aj<=bL-vN (lV l 1)/\o.2.aj=S.aj+vN (lV l 1)):=λh=>⟨h.1,.inl h.2⟩;unfold rU;by_cases G:P<=44;rw[if_pos G];exact C (aaD ..);rw[if_neg G];by_cases u:P<=56/\P≠52/\P≠55;rw[if_pos u];exact C (XI ..);rw[if_neg u];by_cases B:P=52\/P=55\/P=58\/P=60\/64<=P/\P<=68;rw[if_pos B];exact C (Ry ..);rw[if_neg B];by_cases c4:P<=63;rw[if_pos c4];exact C (XJ ..);rw[if_neg c4];by_cases p:P<=72\/P>=93;rw[if_pos p];exact C (Uz ..);rw[if_neg p];by_cases Y:P<=83;rw[if_pos Y];exact C (aaE ..);rw[if_neg Y];exact XK ..
def aaF(P F S z s)(r:Γ×Bool)(Y:0<=S.aj/\S.aj<=bL)(U:dj s S.st)(hf:bB P F=some z)(D:mJ P F (b8 F) z s=(r,0)):FY S (aA P F S).2/\0<=(aA P F S).2.aj/\(aA P F S).2.aj<=bL/\S.aj<=(aA P F S).2.aj:=by
 unfold aA;cases C:jx (bP P) S.st with
 |none=>exact⟨⟨Z,Z,Z,Z,Z,Z⟩,Y.1,Y.2,ahS _⟩
 |some Q =>
  obtain⟨l,q⟩:=Q;obtain⟨x,y⟩:=LK P F l {S with st:=q};refine⟨x,?_⟩;simp only at y ⊢;rcases y with y|⟨rfl,y,B⟩
  omega;rw[B];have I:0<=vN (lV l 1):=by
   have O:iL 84 z s=(r,0):=D;rcases s with _|⟨t1,_|⟨W,s⟩⟩
   cases O;cases O;obtain⟨v,H,A,u,E⟩:=aK U;obtain⟨w,q1,rfl,N,t⟩:=aK E;rw[A]at C;have M:l=[v,w]:=(by have K:some ([v,w],q1)=some (l,q):=C;cases K;rfl);subst M;have V:(if cL W=4/\fZ t1 then fO (.mk 9 [.mk 15 [t1]]::s)else br 5)=(r,0):=O;split at V;rename_i c4;have G:=bW N.1;obtain⟨T,o⟩:=W;have:T=4:=c4.1;subst this;obtain⟨n,rfl,I⟩:=gN (.inr (.inr (.inl rfl))) G.2.1;have J:=(Ua I).2.2.1 Z;exact J.1;cases V
  omega
def RA{n}{l:Θ}{s Y V}(h:Ad (n::l) s Y V):∃r,gf n s=(r,0)/\r.1.length<=40/\r.1.all bA/\bU l r=((Y,V),0):=by unfold Ad at h;simp only[bU]at h;rw[if_neg bn]at h;split at h;rename_i c;exact absurd (ahm Prod.snd h) c;rename_i c;simp at c;obtain⟨U,T,B,W⟩:=vW c;grind
def A1{Q F t s n}(h:FT Q (F::t) s)(I:F.code[F.pos]?=some n):∃r,gf n s=(r,0)/\r.1.all bA/\(r.2=false->FT Q ({F with pos:=F.pos+1}::t) r.1)/\n∈F.code:=by
 obtain⟨V,G,C,Y,P,M,W⟩:=h;obtain⟨T,O⟩:=List.getElem?_eq_some_iff.1 I;have e:F.code.drop F.pos=n::F.code.drop (F.pos+1):=by rw[ajF T,O]
 rw[e]at M;obtain⟨r,N,K,B,U⟩:=RA M;refine⟨r,N,B,λS=>?_,acm I⟩;have J:=om G;refine⟨by show r.1.length+cV F.code<=340;omega,G,by show F.pos+1<=F.code.length;omega,Y,P,?_,W⟩;show bU (F.code.drop (F.pos+1)) (r.1,false)=_;grind
def RB{z:Γ×Bool}{S}{s:Γ}{F t N P}{V:Δ}{D:Θ}(U:MT z S s)(h:S.fr=F::t)(I:F.code[F.pos]?=some (.mk 3 N P V D)):Je S (dZ (gU S F t) D 0 [])/\MT z (dZ (gU S F t) D 0 []) s/\left (dZ (gU S F t) D 0 [])<left S:=by obtain⟨M,Y,Q,T,O,K⟩:=U;rw[h]at Y;have W:=Y;obtain⟨H,G,C,_⟩:=W;obtain⟨r,A,x,B,J⟩:=A1 Y I;obtain⟨y,E⟩:=qk G J;simp only[gf,if_true]at A;refine⟨⟨rfl,rfl,rfl,rfl,rfl⟩,⟨M,?_,Q,T,O,K⟩,?_⟩;exact N3 (r:=r) (by rw[A]) (λ_=>by rw[A]) ai y B;have e:=Rz I;simp only[many]at e;show left {gU S F t with fr:=⟨D,0,0,[]⟩::{F with pos:=F.pos+1}::t}<left S;simp only[left];rw[h];simp only[Bf,frW,ajS];omega
def LL{m:Γ×Bool}{S}{s:Γ}{F t N P}{V:Δ}{z:Θ}(hT:MT m S s)(h:S.fr=F::t)(u:F.code[F.pos]?=some (.mk 2 N P V z))(hg:S.used<S.bC)(hW:left S<=1000000000) :
  bt N V P z {gU S F t with used:=S.used+1}/\UA m S (aA P z {gU S F t with used:=S.used+1})/\(aA P z {gU S F t with used:=S.used+1}).1≠12:=by
 obtain⟨M,U,q,j,mW,i⟩:=hT;rw[h]at U;have Q:=U;obtain⟨f1,f2,f3,_⟩:=Q;obtain⟨r,x,h2,f,h4⟩:=A1 U u;obtain⟨g1,g2⟩:=qk f2 h4;have T:=Dt S.fr;have O:left S=(S.bC-S.used).toNat*900+Bf S.fr:=rfl;rw[h]at T O;simp only[aat]at T;simp only[gf]at x;rw[if_neg bn,if_neg bn]at x;cases hf:bB P z with
 |none=>rw[hf]at x;cases x
 |some y =>
 rw[hf]at x;have d:mJ P z (b8 z) y s=(r,0):=x;obtain⟨k1,b⟩:=Jb m P {gU S F t with used:=S.used+1} q j N V z g1 y s r hf M ai (by show({F with pos:=F.pos+1}::t).length<=_;simp only[aat];omega) h2 d;obtain⟨⟨q1,I,H,G,D,W⟩,E,C,m3⟩:=aaF P z {gU S F t with used:=S.used+1} y s r j M hf d;refine⟨k1,?_,by rcases b with (⟨J,_⟩|J|J)|⟨J,_⟩|⟨J,_⟩<;>rw[J]<;>decide⟩;generalize aA P z {gU S F t with used:=S.used+1}=o at *;simp only at q1 I H G D W;have p:0<=o.2.used/\o.2.used<=o.2.bC:=by rw[D,W];omega
 have Y:qP o.2.self o.2.jr o.2.js o.2.balance:=by rw[q1,I,H,G];exact q
 refine⟨⟨q1,I,H,G,D⟩,p,⟨E,C⟩,?_⟩;have e:=Rz u;simp only[many]at e;rcases b with (⟨J,K,B,A⟩|J|J)|⟨J,a,s2,K,B,A,o5⟩|⟨J,K⟩
 refine .inl ⟨J,r.1,⟨B,by rw[K];exact f A,Y,⟨E,C⟩,p,by rw[D];exact i⟩,?_⟩;rw[O];simp only[left,D,W,K];simp only[Bf,frW];omega;exact .inr (.inl J);omega;refine .inl ⟨J,s2,⟨A,by rw[K];exact o5 f,Y,⟨E,C⟩,p,by rw[D];exact i⟩,?_⟩;rw[O];have g3:=om B;have g4:=aaH a.code a.pos;simp only[left,D,W,K];simp only[Bf,frW];omega;omega
def YR(Y:Γ×Bool)(S:bM)(o:MR):Prop :=
 Je S o.2/\(0<=o.2.used/\o.2.used<=o.2.bC)/\(0<=o.2.aj/\o.2.aj<=bL) /\
 ((o.1=0/\o.2.fr=[]/\dj Y.1 o.2.st/\Y.2=false)\/o.1=11\/o.1=13\/(o.1=12/\o.2.used=o.2.bC)\/(o.1=10/\vK o.2.said≠0/\aG o.2.said<=25000000))
def RC{S T U}(V:Je S T)(P:Je T U):Je S U:=by obtain⟨Y,O,I,N,W⟩:=V;obtain⟨C,u,E,A,Q⟩:=P;exact⟨by rw[C,Y],by rw[u,O],by rw[E,I],by rw[A,N],by rw[Q,W]⟩
def On{Y S T o}(U:Je S T)(V:YR Y T o):YR Y S o:=⟨RC U V.1,V.2⟩
def LM{V S o}(h:UA V S o)(C:o.1≠0):YR V S o:=by obtain⟨U,T,B,Y⟩:=h;exact⟨U,T,B,Y.elim (λh=>absurd h.1 C) .inr⟩
def xB(y:Γ×Bool):∀(k)(S)(s:Γ),MT y S s->left S<k->left S<=1000000000->oR k S (kU k S)/\YR y S (kU k S)
 |0,S,s,_,h,_=>absurd h (Nat.not_lt_zero _)
 |k+1,S,s,Y,hk,hW=>by
  have V:=Dt S.fr;have fY:=bH Y.fit;have U:=Y.used;have BJ:=Y.bC;have E:VY S.bC:=⟨ai,ai⟩;have i:left S=(S.bC-S.used).toNat*900+Bf S.fr:=rfl;cases u:S.fr with
  |nil =>
   have e:kU (k+1) S=(0,S):=(by simp only[kU,u]);rw[e];have M:=Y.ft;rw[u]at M;have f:y=(s,false):=M;subst f;exact⟨oR.done u,⟨Z,Z,Z,Z,Z⟩,U,Y.aaG,.inl ⟨Z,u,Y.fit,Z⟩⟩
  |cons F t =>
   rw[u]at V i;simp only[aat]at V;have Q:=Y.ft;rw[u]at Q;obtain⟨f1,p,f3,_⟩:=Q;have g0:=om p;have g1:=Cb p;have J:F.code.length<=8589934593:=by
    have:∀l:Θ,l.length<=cV l:=by
     intro l
     induction l with
     |nil=>exact acd _
     |cons x l W=>cases x;simp only[aat,cV,many];omega
    have:=this F.code;omega
   by_cases M:F.pos=F.code.length
   ·obtain⟨G,d,O⟩:=Dw Y u M;have m:=Ob S F t u G ai d ai E U.1;have e:kU (k+1) S=if(jP S F t).1=0 then kU k (jP S F t).2 else jP S F t:=(by simp only[kU,u];rw[if_pos M])
    by_cases H:(jP S F t).1=0
    ·rw[e,if_pos H];obtain⟨t1,b,a,D⟩:=O;rcases D with ⟨_,C,K,j⟩|h|h|h|h
     have W:=xB y k _ C K ai ai;exact⟨oR.fin u M ai m (λh=>absurd H h) (λ_=>W.1),On t1 W.2⟩;rw[H]at h;cases h;rw[H]at h;cases h;omega;omega
    rw[e,if_neg H];exact⟨oR.fin u M ai m (λ_=>rfl) (λh=>absurd h H),LM O H⟩
   have B:F.pos<F.code.length:=(by omega);have I:F.code[F.pos]?=some F.code[F.pos]:=ahl B;generalize F.code[F.pos]=n at I;obtain⟨T,N,P,sg,z⟩:=n
   have e:kU (k+1) S=(if T=3 then kU k (dZ (gU S F t) z 0 [])
    else if T≠2 then(14,gU S F t)
    else if S.bC<=S.used then(12,gU S F t)
    else if(aA P z {gU S F t with used:=S.used+1}).1=0 then kU k (aA P z {gU S F t with used:=S.used+1}).2 else aA P z {gU S F t with used:=S.used+1}):=by
    simp only[kU,u,I];rw[if_neg M]
   rw[e];by_cases A:T=3;subst A;rw[if_pos rfl];obtain⟨s1,K,j⟩:=RB Y u I;have W:=xB y k _ s K ai ai;exact⟨oR.seq u I ai J W.1,On s1 W.2⟩;rw[if_neg A];have c2:T=2:=(by have Q:=Y.ft;rw[u]at Q;obtain⟨r,o,_⟩:=A1 Q I;simp only[gf]at o;rw[if_neg A]at o;apply aip;intro c;rw[if_pos c]at o;cases o);subst c2;rw[if_neg bn];by_cases q:S.bC<=S.used;rw[if_pos q];exact⟨oR.aiT u I ai J q,⟨Z,Z,Z,Z,Z⟩,U,Y.aaG,.inr (.inr (.inr (.inl ⟨Z,by show S.used=S.bC;omega⟩)))⟩;rw[if_neg q];obtain⟨G,O,_⟩:=LL Y u I ai hW;by_cases H:(aA P z {gU S F t with used:=S.used+1}).1=0
   ·rw[if_pos H];obtain⟨t1,b,a,D⟩:=O;rcases D with ⟨_,C,K,j⟩|h|h|h|h
    have W:=xB y k _ C K ai ai;exact⟨oR.step u I ai J ai E U.1 G (λh=>absurd H h) (λ_=>W.1),On t1 W.2⟩;rw[H]at h;cases h;rw[H]at h;cases h;omega;omega
   rw[if_neg H];exact⟨oR.step u I ai J ai E U.1 G (λ_=>rfl) (λh=>absurd h H),LM O H⟩
end Go.Proofs
open Go.IntKind Go.Proofs.Tryz
namespace Go.Proofs
open Go.cE
structure SR where
 code:Int
 st:List Vl
 said:Vl
 bC:Int
 aj:Int
def YQ(r:SR):CV:=nK r.code r.st r.said r.bC r.aj
def yh(a b c d:Int)(code:Θ)(l:Ξ)(g:Int):bM:=⟨a,b,c,d,l,[⟨code,0,0,[]⟩],g,0,0,jl⟩
def oQ(o:MR):SR:=⟨o.1,if o.1=0 then o.2.st else [],if o.1=10 then o.2.said else jl,o.2.used,if o.1=0 then o.2.aj else 0⟩
def WU(a b c d:Int)(n:Nd)(s:Γ)(l:Ξ):Bool:=decide ((jR n s).2=0)&&decide (s.length=l.length)&&qP a b c d&&zf s l
def afw:SR:=⟨14,[],jl,0,0⟩
def pW(a b c d:Int)(n:Nd)(l:Ξ)(g:Int):MR:=kU (left (yh a b c d (cw n) l g)+1) (yh a b c d (cw n) l g)
def oh(a b c d:Int)(n:Nd)(s:Γ)(l:Ξ)(g:Int):SR:=if WU a b c d n s l=true then oQ (pW a b c d n l g)else afw
theorem sq{a b c d n s l}:WU a b c d n s l↔(jR n s).2=0/\s.length=l.length/\qP a b c d/\zf s l:=by unfold WU;grind
abbrev VlS(l:L Vl):Prop:=∀v∈l,aG v<=25000000
def Pz:∀{l:Ξ},VlS l->aH l<=l.length*25000000
 |[],_=>acd _
 |v::l,h=>by have Y:=h v cS;have V:=Pz (l:=l) λw q=>h w (by simp[q]);simp only[aH,aat];omega
def PB:∀{s l},s.length=l.length->zf s l->VlS l->dj s l
 |[],[],_,_,_=>trivial
 |t::s,v::l,h,Y,B=>by simp only[zf,aaI]at Y;simp at h;exact⟨⟨Y.1,B v cS⟩,PB h Y.2 λw q=>B w (by simp[q])⟩
 |[],_::_,h,_,_=>by simp at h
 |_::_,[],h,_,_=>by simp at h
theorem xz{a b c d n s l g}(h:WU a b c d n s l)(u:VlS l)(N:0<=g/\g<=1000000):MT (jR n s).1 (yh a b c d (cw n) l g) s:=by obtain⟨S,O,B,W⟩:=sq.1 h;obtain⟨K,M,G,U,V⟩:=sr S;have Y:=PC K;have T:=om Y;rw[V]at S ⊢;refine⟨PB O W u,⟨by show s.length+cV (cw n)<=340;omega,Y,ahp _,_,_,rM S,λhf => .inl ⟨rfl,?_⟩⟩,B,⟨ahS _,by show(0:Int)<=bL;decide⟩,⟨ahS _,N.1⟩,N.2⟩;show(bU (cw n) (s,false)).1=(_,false);grind
def AA{a b c d n s l g}(h:WU a b c d n s l)(N:0<=g/\g<=1000000):left (yh a b c d (cw n) l g)<=1000000000:=by obtain⟨V,U,B,Y⟩:=sq.1 h;have W:=om (PC (sr V).1);simp only[left,yh,Bf,frW,ajS];omega
def Mx{a b c d n s l g}(h:WU a b c d n s l)(u:VlS l)(N:0<=g/\g<=1000000):oR (left (yh a b c d (cw n) l g)+1) (yh a b c d (cw n) l g) (pW a b c d n l g)/\YR (jR n s).1 (yh a b c d (cw n) l g) (pW a b c d n l g) :=
 xB _ _ _ s (xz h u N) (aid _) (AA h N)
def Kb(a b c d g code l o)(Y:l.length<=1000000000)(S:o.2.st.length<=1000000000\/o.1≠0)(D:cM 83 (yh a b c d code l g) [] (ah o.1) o.2) :
  af 62 [.agg [ah a,ah b,ah c,ah d],.sl 5 (aD code),.sl 7 (aa l),ah g] (YQ (oQ o)):=by
 obtain⟨e,u⟩:=o;unfold oQ YQ;simp only;by_cases H:e=0
 ·subst H;cases l with
  |nil=>exact PD a b c d g code u (S.resolve_right λh=>h Z) D
  |cons x q=>exact PE a b c d g code x q u (by simp at Y;omega) (S.resolve_right λh=>h Z) D
 rw[if_neg H,if_neg H];by_cases A:e=10
 ·subst A;cases l with
  |nil=>exact Kc a b c d g code u D
  |cons x q=>exact Kd a b c d g code x q u (by simp at Y;omega) D
 rw[if_neg A];cases l with
 |nil=>exact My a b c d g e code u H A D
 |cons x q=>exact Mz a b c d g e code x q u (by simp at Y;omega) H A D
def WV(a b c d g n)(I:bE n<=8589934593)(s)(W:bf s<=8589934593)(l:Ξ)(u:VlS l)(N:0<=g/\g<=1000000) :
  af 48 [.agg [ah a,ah b,ah c,ah d],aV n,.sl 2 (az s),.sl 7 (aa l),ah g] (YQ (oh a b c d n s l g)):=by
 by_cases B:(jR n s).2=0/\s.length=l.length/\qP a b c d;rotate_left
 ·have e:WU a b c d n s l=false:=by
   cases p:WU a b c d n s l with
   |false=>rfl
   |true =>
    obtain⟨O,J,Y,_⟩:=sq.1 p;simp_all
  unfold oh;rw[if_neg (by rw[e];decide)];exact acD a b c d g n I s W l B
 obtain⟨O,J,Y⟩:=B;have S:l.length<=40:=by have:=(sr O).2.2.1;omega
 have Q:=Pz u;have V:zf s l->af 62 [.agg [ah a,ah b,ah c,ah d],.sl 5 (aD (cw n)),.sl 7 (aa l),ah g] (YQ (oQ (pW a b c d n l g))):=by
  intro p;have ok:WU a b c d n s l:=sq.2 ⟨O,J,Y,p⟩;obtain⟨G,K⟩:=Mx ok u N;refine Kb a b c d g (cw n) l _ ai ?_ (SS _ _ _ G);obtain⟨_,_,_,U⟩:=K;rcases U with ⟨_,_,T,_⟩|w|w|w|w
  left;have:=bH T;have:=(D3 O).2.1;omega
  all_goals right
  omega;omega;omega;omega
 have M:=acE a b c d g n I s W l ai O J Y _ _ _ _ _ V;have e:(bif zf s l then nK (oQ (pW a b c d n l g)).code (oQ (pW a b c d n l g)).st (oQ (pW a b c d n l g)).said (oQ (pW a b c d n l g)).bC (oQ (pW a b c d n l g)).aj else nK 14 [] jl 0 0)=YQ (oh a b c d n s l g):=by
  unfold oh;cases p:zf s l with
  |true =>
   rw[if_pos (sq.2 ⟨O,J,Y,p⟩)];rfl
  |false =>
   rw[if_neg (λh=>by have:=(sq.1 h).2.2.2;rw[p]at this;cases this)];rfl
 rw[<- e];exact M
end Go.Proofs
namespace Go.cE
def eF.iZ(l:eF)(i:Nat)(a:Acc):eF:=⟨l.aI.set i a,l.fu⟩
end Go.cE
namespace Go.Proofs
open Go.cE
structure uz where
 kind:Int
 to:Int
 vQ:Int
 arg:Nd
 t0:Nd
 t1:Nd
 code:Nd
structure ur where
 dX:Int
 op:Option uz
 val:Vl
structure sK where
 src:Int
 cnt:Int
 rH:Int
 bC:Int
 ops:List uz
structure Rcp where
 code:Int
 done:Int
 bC:Int
 aj:Int
 made:List Int
structure Wk where
 l:eF
 bC:Int
 done:Int
 used:Int
 aj:Int
 made:List Int
def jY(x:ur)(t:Ty):Vl×Int:=match x.op with
 |none=>if cx ((Gg x.val).getD 0 kg) t=true then((cP x.val).getD 0 jl,0)else(jl,5)
 |some o=>if(gV t o.arg).2=0 then((gV t o.arg).1,0)else(jl,5)
def td(to:Int)(o:Vl):ur:=⟨to,none,o⟩
def tf(w:Wk)(x:ur)(to n:Int)(a:Acc)(v:Vl):SR :=
 oh to x.dX n a.cK (.mk 3 0 0 [] a.code) [.mk 11 [a.param,a.store]] [.mk 11 0 0 [] [v,a.keep] [] []] w.bC
def Fo(w:Wk)(l:eF)(to:Int)(a:Acc)(r:SR):(List ur×Int)×Wk :=
 let G:={w with bC:=w.bC-r.bC,used:=w.used+r.bC}
 if r.code≠0 then(([],r.code),G)
 else if G.aj>bL-r.aj then(([],11),G)
 else(((cP ((cP (r.st.getD 0 jl)).getD 0 jl)).map (td to),0),{G with aj:=G.aj+r.aj,l:=l.iZ to.toNat {a with keep:=(cP (r.st.getD 0 jl)).getD 1 jl}})
def zh(w:Wk)(x:ur)(to n:Int):(List ur×Int)×Wk :=
 if jm w.l x.dX to n≠0 then(([],jm w.l x.dX to n),w)
 else if(aR (rI w.l x.dX to n) to).is=1 then
  if(jY x (.mk 1 [])).2≠0 then(([],(jY x (.mk 1 [])).2),w)else(([],0),{w with l:=rI w.l x.dX to n})
 else if(jY x (aR (rI w.l x.dX to n) to).param).2≠0 then(([],(jY x (aR (rI w.l x.dX to n) to).param).2),w)
 else Fo w (rI w.l x.dX to n) to (aR (rI w.l x.dX to n) to) (tf w x to n (aR (rI w.l x.dX to n) to) (jY x (aR (rI w.l x.dX to n) to).param).1)
def fJ:L Acc->Nat->Nat
 |[],k=>k
 |a::l,k=>if a.is=0 then k else fJ l (k+1)
def newAcc(o:uz):Acc:=⟨2,0,0,(aM o.t0).1,(aM o.t1).1,cw o.code,(gV (aM o.t1).1 o.arg).1⟩
def orM(w:Wk)(dX:Int)(o:uz):Int×Wk :=
 if(aM o.t0).2≠0\/(aM o.t1).2≠0 then(5,w)
 else if iY (aM o.t0).1 (aM o.t1).1 o.code≠0 then(iY (aM o.t0).1 (aM o.t1).1 o.code,w)
 else if(gV (aM o.t1).1 o.arg).2≠0\/200<iG (gV (aM o.t1).1 o.arg).1 then(5,w)
 else if fJ (w.l.aI.drop 4) 4=12 then(7,w)
 else if jm (w.l.iZ (fJ (w.l.aI.drop 4) 4) (newAcc o)) dX (fJ (w.l.aI.drop 4) 4) o.vQ≠0 then(jm (w.l.iZ (fJ (w.l.aI.drop 4) 4) (newAcc o)) dX (fJ (w.l.aI.drop 4) 4) o.vQ,w)
 else(0,{w with l:=rI (w.l.iZ (fJ (w.l.aI.drop 4) 4) (newAcc o)) dX (fJ (w.l.aI.drop 4) 4) o.vQ,made:=w.made++[((fJ (w.l.aI.drop 4) 4:Nat):Int)]})
def dG(w:Wk)(x:ur):(List ur×Int)×Wk:=match x.op with
 |none=>zh w x (xA x.val) (vN x.val)
 |some o=>if o.kind=1 then zh w x o.to o.vQ else if o.kind=2 then(([],(orM w x.dX o).1),(orM w x.dX o).2)else(([],3),w)
def allM:Nat->Wk->List ur->Int×Wk
 |_,w,[]=>(0,w)
 |0,w,_::_=>(7,w)
 |k+1,w,x::q=>if 24<=w.done then(7,w)else if(dG w x).1.2≠0 then((dG w x).1.2,(dG w x).2)
  else allM k {(dG w x).2 with done:=(dG w x).2.done+1} (q++(dG w x).1.1)
def jd(src:Int):Wk->List uz->Int×Wk
 |w,[]=>(0,w)
 |w,o::r=>if(allM 25 w [⟨src,some o,jl⟩]).1≠0 then allM 25 w [⟨src,some o,jl⟩]else jd src (allM 25 w [⟨src,some o,jl⟩]).2 r
def xu(l:eF)(b:sK):Int :=
 if tg l=false then 2 else if b.src<0\/4<=b.src then 6
 else if bL<=(aR l b.src).cnt\/b.cnt≠(aR l b.src).cnt+1 then 9
 else if b.rH<0\/b.bC<0\/1048576<b.bC then 2
 else if b.ops.length=0\/8<b.ops.length then 7
 else if(aR l b.src).cK<b.rH then 8 else 0
def yZ(l:eF)(b:sK):eF:=⟨l.aI.set b.src.toNat {aR l b.src with cnt:=(aR l b.src).cnt+1,cK:=(aR l b.src).cK-b.rH},l.fu+b.rH⟩
def mF(l:eF)(b:sK):Wk:=⟨yZ l b,b.bC,0,0,0,[]⟩
def iV(l:eF)(b:sK):eF×Rcp :=
 if xu l b≠0 then(l,⟨xu l b,0,0,0,[]⟩)
 else if(jd b.src (mF l b) b.ops).1≠0 then(yZ l b,⟨(jd b.src (mF l b) b.ops).1,0,(jd b.src (mF l b) b.ops).2.used,0,[]⟩)
 else((jd b.src (mF l b) b.ops).2.l,⟨0,(jd b.src (mF l b) b.ops).2.done,(jd b.src (mF l b) b.ops).2.used,(jd b.src (mF l b) b.ops).2.aj,(jd b.src (mF l b) b.ops).2.made⟩)
def WR:uz->Ψ
 |⟨T,to,Y,.mk W a2 I N E,.mk C u U A Q,.mk G V B c4 p,.mk S P O J M⟩ =>
  [ah T,ah to,ah Y,ah W,ah a2,ah I,.str N,.sl 5 (aD E),ah C,ah u,ah U,.str A,.sl 5 (aD Q),ah G,ah V,ah B,.str c4,.sl 5 (aD p),ah S,ah P,ah O,.str J,.sl 5 (aD M)]
def fz:List uz->Ψ
 |[]=>[]
 |o::l => .agg (WR o)::fz l
def opP:Option uz->CV
 |none => .nL
 |some o => .ip (WR o)
def lM:ur->CV
 |⟨dX,N,.mk k n a s V Y code⟩ => .agg [ah dX,opP N,ah k,ah n,ah a,.str s,.sl 7 (aa V),.sl 2 (az Y),.sl 5 (aD code)]
def ej:List ur->Ψ
 |[]=>[]
 |x::l=>lM x::ej l
def qc(b:sK):CV := .agg [ah b.src,ah b.cnt,ah b.rH,ah b.bC,.sl 23 (fz b.ops)]
def yY(r:Rcp):CV := .agg [ah r.code,ah r.done,ah r.bC,ah r.aj,.sl 1 (ez r.made)]
def uG(w:Wk)(b:Nat):AV:=match w.made with
 |[] => .own .exact 1 []
 |_::_ => .iI b 0 1 w.made.length
def wB(w:Wk)(b:Nat):Φ:=cq w.l++[.c (ah w.bC),.c (ah 0),.c (ah w.done),.c (ah w.used),.c (ah w.aj),uG w b]
def wO(w:Wk):Option (Ψ):=match w.made with
 |[]=>none
 |_::_=>some (bD (ez w.made))
def nI(w):MB (wB w) (wO w):=by
 obtain⟨l,W,done,Y,U,O⟩:=w;have A:∀(N:Ren)(ts:tad)(T:Ψ){p q:Φ},fT N ts p q->fT N ts (T.map AV.c++p) (T.map AV.c++q):=by
  intro N ts T p q h
  induction T with
  |nil=>exact h
  |cons c T S=>exact⟨_,_,Z,.inl Z,S⟩
 have Q:∀(M:Nat->Nat)(T:Ψ)(p:Φ),SB M (T.map AV.c++p)=T.map AV.c++SB M p:=by
  intro M T p
  induction T with
  |nil=>rfl
  |cons c T S=>simp only[ahM,ahk,SB,AV.rn,S]
 have K:∀(us:Ω)(T:Ψ)(p:Φ),xC us p->xC us (T.map AV.c++p):=by
  intro us T p h
  induction T with
  |nil=>exact h
  |cons c T S=>simp only[ahM,ahk,xC,WX,both,S]
 cases O with
 |nil =>
  exact⟨λN ts b V _=>A N ts _ ce,
   λM b V _=>Q M _ _,λus b _=>K us _ _ Z⟩
 |cons x r =>
  refine⟨λN ts b V h=>A N ts _ ⟨_,_,Z,.inl Z,_,_,Z,.inl Z,_,_,Z,.inl Z,_,_,Z,.inl Z,_,_,Z,.inl Z,_,_,Z,⟨_,h (by simp[wO]),Z⟩,Z⟩,λM b V h=>?_,λus b h=>K us _ _ ?_⟩;rw[<- h (by simp[wO])];exact Q M _ _;have:=h (by simp[wO]);simp only[uG,xC,WX,both,this]
def gl(f:FuncId)(w:Wk)(Y:Φ)(r:CV)(V:Wk):Prop :=
 th f (bI (wB w) (wO w)) (.ptr 1000000 0::Y) (.c r) (bO (wB V) (wO V))
def BE{Y}:∀(k)(a r b:List Y),takeN k a=some r->takeN k (a++b)=some r
 |0,a,r,b,h=>by simp only[takeN]at h ⊢;exact h
 |k+1,[],r,b,h=>by simp only[takeN]at h;cases h
 |k+1,x::a,r,b,h=>by
  simp only[ahk,takeN]at h ⊢;cases C:takeN k a with
  |none=>rw[C]at h;cases h
  |some q=>rw[C]at h;rw[BE k a q b C];exact h
def yU k(l):bQ k [] l=some l:=by cases k<;>cases l<;>rfl
def sv:∀k Y a r b,bQ k Y a=some r->bQ k Y (a++b)=some (r++b)
 |k,[],a,r,b,h=>by rw[yU]at h ⊢;cases h;rfl
 |0,v::vs,[],r,b,h=>by simp only[bQ]at h;cases h
 |0,v::vs,x::a,r,b,h=>by
  simp only[ahk,bQ]at h ⊢;cases C:bQ 0 vs a with
  |none=>rw[C]at h;cases h
  |some q=>rw[C]at h;rw[sv 0 vs a q b C];cases h;rfl
 |k+1,v::vs,[],r,b,h=>by simp only[bQ]at h;cases h
 |k+1,v::vs,x::a,r,b,h=>by
  simp only[ahk,bQ]at h ⊢;cases C:bQ k (v::vs) a with
  |none=>rw[C]at h;cases h
  |some q=>rw[C]at h;rw[sv k (v::vs) a q b C];cases h;rfl
def oN:∀p k Y a r,bQ k Y a=some r->bQ (p.length+k) Y (p++a)=some (p++r)
 |[],k,Y,a,r,h=>by simpa using h
 |x::p,k,[],a,r,h=>by rw[yU]at h ⊢;cases h;rfl
 |x::p,k,v::vs,a,r,h=>by rw[show(x::p).length+k=(p.length+k)+1 by simp;omega];simp only[ahk,bQ,oN p k (v::vs) a r h]
def KR:∀(l:L Acc)(i)(a b),l[i]?=some a->jU (l.set i b)=jU (l.take i)++(zi b++jU (l.drop (i+1)))
 |[],i,a,b,h=>by simp at h
 |x::l,0,a,b,h=>by simp[jU]
 |x::l,i+1,a,b,h=>by simp only[ajY,jU,ajL,aje,aie,KR l i a b h]
section
variable {l:eF}{i:Nat}{a:Acc}
def MA(Y:l.aI[i]?=some a):∃p q,p.length=i*15/\cq l=p++(zj a++q)/\∀b,cq (l.iZ i b)=p++(zj b++q):=by have H:i<l.aI.length:=(List.getElem?_eq_some_iff.1 Y).1;refine⟨(jU (l.aI.take i)).map AV.c,(jU (l.aI.drop (i+1))++[CV.int .i64 l.fu]).map AV.c,?_,?_,λb=>?_⟩;rw[ahY,AB,ahZ];omega;show(jU l.aI++[CV.int .i64 l.fu]).map AV.c=_;rw[uH _ _ _ Y];simp only[aib,aie,zj];show(jU (l.aI.set i b)++[CV.int .i64 l.fu]).map AV.c=_;rw[KR _ _ _ _ Y];simp only[aib,aie,zj]
def oM(Y:l.aI[i]?=some a):∃q,∀k r,eB k (zj a++q)=some r->eB (0+i*15+k) (cq l)=some r:=by obtain⟨p,q,V,U,_⟩:=MA Y;refine⟨q,λk r h=>?_⟩;rw[U,ahr,<- V];exact ni _ _ _ _ _ (j6 p _) h
def D1(Y:l.aI[i]?=some a){b k cs}(h:bQ k cs (zj a)=some (zj b)):bQ (0+i*15+k) cs (cq l)=some (cq (l.iZ i b)):=by obtain⟨p,q,V,U,B⟩:=MA Y;rw[U,B,ahr,<- V];exact oN p k cs _ _ (sv _ _ _ _ _ h)
end
section
variable (w:Wk)(b:Nat)
def akH(Q:w.l.aI.length=12){i}(Y:i.isAgg)(V:i.size=181):mK i (wB w b)=some (.agg (cq w.l)):=by unfold mK wB;rw[Y,V];simp only[BE _ _ _ _ (Hr Q)]
def KS(Q:w.l.aI.length=12)(k){r:Φ}(h:eB k [AV.c (ah w.bC),.c (ah 0),.c (ah w.done),.c (ah w.used),.c (ah w.aj),uG w b]=some r):eB (181+k) (wB w b)=some r:=by have Y:=j6 (cq w.l) [AV.c (ah w.bC),.c (ah 0),.c (ah w.done),.c (ah w.used),.c (ah w.aj),uG w b];rw[gp Q]at Y;exact ni _ _ _ _ _ Y h
def D4(Q:w.l.aI.length=12)(k U){Y V}(E:Y.l=w.l){r}(h:bQ k U [AV.c (ah w.bC),.c (ah 0),.c (ah w.done),.c (ah w.used),.c (ah w.aj),uG w b]=some r)
  (G:r=[AV.c (ah Y.bC),.c (ah 0),.c (ah Y.done),.c (ah Y.used),.c (ah Y.aj),uG Y V]):bQ (181+k) U (wB w b)=some (wB Y V):=by
 have T:=oN (cq w.l) k U _ _ h;rw[gp Q]at T;unfold wB;rw[T,G,E]
def ahC(Q:w.l.aI.length=12){p}(E:p.aI.length=12):bQ 0 (cq p) (wB w b)=some (wB {w with l:=p} b) :=
 sv 0 _ _ _ _ (eN E (gp Q))
def afz(Q:w.l.aI.length=12):eB 181 (wB w b)=some [AV.c (ah w.bC),.c (ah 0),.c (ah w.done),.c (ah w.used),.c (ah w.aj),uG w b]:=KS w b Q 0 rfl
def ahD(Q:w.l.aI.length=12):eB 182 (wB w b)=some [.c (ah 0),.c (ah w.done),.c (ah w.used),.c (ah w.aj),uG w b]:=KS w b Q 1 rfl
def acF(Q:w.l.aI.length=12):eB 183 (wB w b)=some [.c (ah w.done),.c (ah w.used),.c (ah w.aj),uG w b]:=KS w b Q 2 rfl
def acG(Q:w.l.aI.length=12):eB 184 (wB w b)=some [.c (ah w.used),.c (ah w.aj),uG w b]:=KS w b Q 3 rfl
def WY(Q:w.l.aI.length=12):eB 185 (wB w b)=some [.c (ah w.aj),uG w b]:=KS w b Q 4 rfl
def acH(Q:w.l.aI.length=12):eB 186 (wB w b)=some [uG w b]:=KS w b Q 5 rfl
def acI(Q:w.l.aI.length=12)(z):bQ 181 [.c (ah z)] (wB w b)=some (wB {w with bC:=z} b):=D4 w b Q 0 _ rfl rfl rfl
def YT(Q:w.l.aI.length=12)(z):bQ 183 [.c (ah z)] (wB w b)=some (wB {w with done:=z} b):=D4 w b Q 2 _ rfl rfl rfl
def YU(Q:w.l.aI.length=12)(z):bQ 184 [.c (ah z)] (wB w b)=some (wB {w with used:=z} b):=D4 w b Q 3 _ rfl rfl rfl
def SU(Q:w.l.aI.length=12)(z):bQ 185 [.c (ah z)] (wB w b)=some (wB {w with aj:=z} b):=D4 w b Q 4 _ rfl rfl rfl
def YV(w b){i a}(Y:w.l.aI[i]?=some a):∃q,∀k r,eB k (zj a++q)=some r->eB (0+i*15+k) (wB w b)=some r:=by obtain⟨p,q,V,U,_⟩:=MA Y;refine⟨q++[AV.c (ah w.bC),.c (ah 0),.c (ah w.done),.c (ah w.used),.c (ah w.aj),uG w b],λk r h=>?_⟩;unfold wB;rw[U,ahr,<- V,aie,aie];exact ni _ _ _ _ _ (j6 p _) h
end
def zm{l:L Acc}{i}(h:i<l.length):l[i]?=some (l.getD i s9):=by simp[List.getD,ahl h]
def gm{l}(Q:l.aI.length=12){i}(C:0<=i)(Y:i<12):l.aI[i.toNat]?=some (aR l i):=zm (by omega)
def ahE{f n T}{K:L Item}{env Y}(hf:Tryz.prog.funcs[f]?=some Y){bs}{ts:tad}{us:Ω}{l}(V:sZ Tryz.X bs env Y.results.toList=some l)
  {v}(u:close (Bh l)=some v){w}{cells:Φ}(S:au 1000000 bs=some cells)(A:cells=wB w 0)(W:wO w=none){r}(U:v=r) :
  CI f n T (HR T (.c r) (bO (wB w) (wO w))) (.code .ret::K) env ⟨bs,ts,us⟩:=by
 subst A U;rw[W];refine AK.Bh Tryz.hX hf V [(1000000,1000000)] Z (.inr u) ⟨⟨_,_,Z,S,?_⟩,trivial⟩;have:=nI w;rw[W]at this;exact this.conv _ _ _ _ (λh=>absurd Z h)
def ahF{f n S}{K:L Item}{env Y}(hf:Tryz.prog.funcs[f]?=some Y){bs}{ts:tad}{us:Ω}{l}(V:sZ Tryz.X bs env Y.results.toList=some l)
  {v}(u:close (Bh l)=some v){w b}{cells J:Φ}{q}(O:au 1000000 bs=some cells)(A:cells=wB w b)(W:wO w=some q)(N:au b bs=some J)(Q:J=q.map AV.c)(U:Go.cE.distinct [1000000,b]){r}(T:v=r) :
  CI f n S (HR S (.c r) (bO (wB w) (wO w))) (.code .ret::K) env ⟨bs,ts,us⟩:=by
 subst A Q T;rw[W];have:=nI w;rw[W]at this;refine AK.Bh Tryz.hX hf V [(1000000,1000000),(999992,b)] ?_ (.inr u) ⟨⟨_,_,Z,O,this.conv _ _ _ _ (λ_=>rfl)⟩,⟨_,_,Z,N,cO _⟩,trivial⟩;unfold zn;rw[show([(1000000,1000000),(999992,b)]:tad).map (·.2)=[1000000,b]from Z,U];rfl
def KT{l:eF}(U:∀a∈l.aI,0<=a.cK/\a.cK<=4000000){i:Nat}{a}(h:l.aI[i]?=some a):0<=a.cK/\a.cK<=4000000:=U a (acm h)
def AD{l F T n}(Q:l.aI.length=12)(h:jm l F T n=0) :
  ∃(i j:Nat) (D aT:Acc),F=i/\T=j/\l.aI[i]?=some D/\l.aI[j]?=some aT/\D.is≠0/\aT.is≠0/\0<=n/\n<=1152921504606846976/\n<=D.cK:=by
 unfold jm at h;split at h;simp at h;rename_i G;split at h;simp at h;rename_i u;split at h;simp at h;rename_i B;have Y:=gm (l:=l) (i:=F) Q ai ai;have V:=gm (l:=l) (i:=T) Q ai ai;exact⟨F.toNat,T.toNat,_,_,ai,ai,Y,V,ai,ai,ai,ai,ai⟩
def YW{l}{F T n:Int}{i j:Nat}{D aT}(Q:l.aI.length=12)(A:F=i)(Y:T=j)(K:l.aI[i]?=some D)(V:l.aI[j]?=some aT)(U:D.is≠0)(M:aT.is≠0)(W:0<=n)(S:n<=1152921504606846976)(P:n<=D.cK):jm l F T n=0:=by have O:=(List.getElem?_eq_some_iff.1 K).1;have N:=(List.getElem?_eq_some_iff.1 V).1;subst A Y;unfold jm;rw[ja K,ja V,if_neg ai,if_neg ai,if_neg ai]
def tj{l:eF}{k z}(h:l.aI.length=12):(l.cF k z).aI.length=12:=by show(kW l.aI k z).length=12;rw[PI];exact h
def Hu(l)(Q:l.aI.length=12)(M:∀a∈l.aI,0<=a.cK/\a.cK<=4000000)(F T n) :
  af 46 [.agg (di l),ah F,ah T,ah n] (.eK [.agg (di (if jm l F T n=0 then rI l F T n else l)),ah (jm l F T n)]):=by
 by_cases e:jm l F T n=0
 ·rw[if_pos e,e];obtain⟨i,j,D,aT,rfl,rfl,V,W,U,S,C,J,I⟩:=AD Q e;have m:=KT M V;have G:i64.wrap (D.cK-n)=D.cK-n:=gW ai ai;have P:=tj (k:=i) (z:=D.cK-n) Q;obtain⟨Y,O⟩:∃a,(l.cF i (D.cK-n)).aI[j]?=some a:=⟨_,ahl (by rw[P];have:=(List.getElem?_eq_some_iff.1 W).1;omega)⟩;have K:0<=Y.cK/\Y.cK<=4000000:=by have y:(kW l.aI i (D.cK-n))[j]?=some Y:=O;rw[zo,W]at y;have K:=KT M W;split at y;simp only[aki,ajB]at y;subst y;exact⟨by show 0<=D.cK-n;omega,by show D.cK-n<=_;omega⟩;simp only[ajB]at y;subst y;exact K
  have p:i64.wrap (Y.cK+n)=Y.cK+n:=gW ai ai;have x:=acJ l Q i j D aT Y V W n (by rw[G];exact O) (by rw[G];exact P) (by rw[G,p];exact tj P) U S C J I;rw[G,p]at x;have N:rI l i j n=(l.cF i (D.cK-n)).cF j (Y.cK+n):=by unfold rI;rw[ja V,acn,acn,ja O]
  rw[N];exact x
 rw[if_neg e];obtain⟨d,⟨_,rfl⟩,x⟩:=acK l Q F T n (λi j D aT A N H E q B u t r=>e (YW Q A N H E q B u t r));exact x
attribute [local irreducible] AK ag aZ bS de cA cq di gL eF.cF eF.iZ wB
def wz{p q:Prop}(k:q)(h:q->p:=by first|exact λk=>uP Z k|exact λk=>AK.D5 Z Hw k|exact λk=>AK.D6 Z Hw k|exact λk=>uR Z k|exact λk=>ag.done k|exact λk=>uS Z k|exact λk=>uB Z k|exact λk=>SV Z Z k|exact λk=>ag.drawn (by kernel_rfl) k|exact λk=>ag.tr Tryz.hX kn Z Z Z Z Z Z Z Z Z (by assumption) k|exact λk=>ag.dy Tryz.hX kn Z Z Z Z Z Z (by assumption) (by rfl) k|exact λk=>ag.dy Tryz.hX kn Z Z Z Z Z Z Z (fq (by assumption) Z Z) k|exact λk=>ag.dy Tryz.hX kn Z Z Z Z Z Z Z (akH _ _ (by assumption) Z Z) k|exact λk=>ag.dy Tryz.hX kn Z Z Z Z Z Z (by first|exact afz _ _ (by assumption)|exact ahD _ _ (by assumption)|exact acF _ _ (by assumption)|exact acG _ _ (by assumption)|exact WY _ _ (by assumption)|exact acH _ _ (by assumption)) (by rfl) k|exact λk=>ag.store Tryz.hX kn Z Z Z Z Z Z Z Z Z (by first|exact acI _ _ (by assumption) _|exact YT _ _ (by assumption) _|exact YU _ _ (by assumption) _|exact SU _ _ (by assumption) _) Z k|exact λk=>ag.store Tryz.hX kn Z Z Z Z Z Z Z Z (gT (by assumption) Z) (ahC _ _ (by assumption) (by assumption)) Z k|exact λk=>ag.store Tryz.hX kn Z Z Z Z Z Z Z Z Z (by assumption) (by rfl) k|exact λk=>ag.store Tryz.hX kn Z Z Z Z Z Z Z (iw _) (gT (by assumption) Z) (eN (by assumption) Z) Z k|exact λk=>ag.store Tryz.hX kn Z Z Z Z Z Z Z (iw _) (gT (by assumption) Z) (eN (by assumption) (gp (by assumption))) Z k|exact λk=>ag.store Tryz.hX kn Z Z Z Z Z Z Z Z (gT (by assumption) Z) (eN (by assumption) Z) Z k|exact λk=>ag.store Tryz.hX kn Z Z Z Z Z Z Z Z (gT (by assumption) Z) (by assumption) Z k|exact λk=>ag.box kn Z Z Z Z (iw _) Z k|exact λk=>ag.KU kn Z Z Z (kT Z Z) (by assumption) k|exact λk=>uC Z (by assumption) k|exact λk=>ag.GD Tryz.hX kn Z Z Z Z Z Z Z Z (m:=0) Z (by decide) Z k|exact λk=>ag.GD Tryz.hX kn Z Z Z Z Z Z Z Z (m:=1) Z (by decide) Z k|exact λk=>uI Z 0 Z Z Z k|exact λk=>uI Z 1 Z Z Z k|exact λk=>uI Z _ Z (by assumption) Z k|exact λk=>AK.skip k|exact λk=>AK.seq k|exact λk=>AK.block k|exact λk=>AK.exit Z k|exact λk=>ag.rN Z Z Z asl k|exact λk=>ag.rO Z Z Z asl k):p:=h k
def wr{p:Prop}(h:p:=by first|exact ahE hf Z Z Z Z (by assumption) Z|exact ahF hf Z Z Z Z (by assumption) Z Z Z Z):p:=h
def vw(o:uz):Prop:=bE o.arg<=1048576/\bE o.t0<=1048576/\bE o.t1<=1048576/\bE o.code<=1048576
def sn(x:ur):Prop:=match x.op with
 |none=>fK (.mk 8 []) x.val=true/\aG x.val<=12400000/\4<=x.dX
 |some o=>vw o
def Hx{v}(h:fK (.mk 8 []) v):∃n a t ts y,v = .mk 8 n a [] [y] (t::ts) []/\0<=n/\n<=bL/\bA t/\fK t y:=by
 unfold fK oJ at h;simp only[aaI]at h;obtain⟨⟨_,p⟩,hs⟩:=h;obtain⟨k,n,a,s,U,V,code⟩:=v;obtain⟨I,M,_⟩:=jn p;simp only[cL]at I;subst I;simp[cG]at M;obtain⟨T,rfl,rfl⟩:=M;rcases V with _|⟨t,_|⟨Y,ts⟩⟩
 simp at T
 ·simp[bJ,cG,cL]at p;rcases U with _|⟨y,_|⟨z,r⟩⟩
  simp at p;simp[aS,fE,eo]at p hs;refine⟨n,a,t,[],y,Z,ai,p.1.1.2.1,p.1.2,?_⟩;unfold fK oJ;simp[p,hs];simp at p
 simp at T
def zp(x t)(C:bh t<=8589934593)(O:sn x):af 47 [lM x,ct t] (.eK [bz (jY x t).1,ah (jY x t).2]):=by
 obtain⟨dX,N,v⟩:=x;obtain⟨T,ts⟩:=t;cases N with
 |none =>
  obtain⟨n,a,⟨U,us⟩,r,⟨G,S,Q,K,D,J,H⟩,rfl,_⟩:=Hx O.1;have P:=O.2.1;have F:=gC (.mk U us) (.mk T ts) (by simp only[aG,aH,bf,bh]at P ⊢;omega);unfold jY;simp only[Gg,cP,aaw];cases I:cx (.mk U us) (.mk T ts)with
  |true =>
   rw[I]at F;rw[if_pos rfl];refine qn func47 call47 λz hf=>?_
   repeat' (first|refine sz ?_|refine zc ?_ ?_|(intro h;first|(cases h;done)|rw[h]|skip)|refine uC Z F ?_)
   all_goals rfl
  |false =>
   rw[I]at F;rw[if_neg bn];refine qn func47 call47 λz hf=>?_
   repeat' (first|refine sz ?_|refine zc ?_ ?_|(intro h;first|(cases h;done)|rw[h]|skip)|refine uC Z F ?_)
   all_goals rfl
 |some o =>
  have F:=oS (.mk T ts) o.arg C (by have:=O.1;omega);obtain⟨W,to,B,⟨V,a2,M,q,E⟩,⟨A,u,p,y,m⟩,⟨j,d,c3,c4,c5⟩,⟨d1,d2,d3,d4,d5⟩⟩:=o;obtain⟨v1,v2,v3,v4,v5,v6,v7⟩:=v;unfold jY;simp only at F ⊢;generalize gV (.mk T ts) (.mk V a2 M q E)=r at F ⊢;obtain⟨⟨r1,r2,r3,r4,r5,r6,r7⟩,e⟩:=r;by_cases Y:e=0
  ·subst Y;rw[if_pos rfl];refine qn func47 call47 λz hf=>?_
   repeat' (first|refine sz ?_|refine zc ?_ ?_|(intro h;first|(cases h;done)|rw[h]|skip)|refine uC Z F ?_)
   all_goals rfl
  rw[if_neg Y];have e1:(e != 0):=by simpa using Y
  refine qn func47 call47 λz hf=>?_
  repeat' (first|refine sz ?_|refine zc ?_ ?_|(intro h;first|(cases h;done)|rw[h]|skip)|refine uC Z F ?_)
  all_goals rfl
end Go.Proofs
namespace Go.Proofs
open Go.cE
def r9(S:bM)(F:iH)(t:List iH):MR :=
 if F.pos=F.code.length then jP S F t
 else match F.code[F.pos]? with
  |none=>(14,S)
  |some (.mk T N P s Y) =>
   if T=3 then(0,dZ (gU S F t) Y 0 [])
   else if T≠2 then(14,gU S F t)
   else if S.bC<=S.used then(12,gU S F t)
   else aA P Y {gU S F t with used:=S.used+1}
def EX{S:bM}(k:Nat)(h:S.fr=[]):kU (k+1) S=(0,S):=by simp only[kU,h]
def alO(k:Nat)(o:MR):MR:=if o.1=0 then kU k o.2 else o
def UC{S:bM}{F:iH}{t:List iH}(k:Nat)(h:S.fr=F::t):kU (k+1) S=alO k (r9 S F t):=by
 simp only[kU,h];unfold r9;by_cases M:F.pos=F.code.length;rw[if_pos M,if_pos M];rfl;rw[if_neg M,if_neg M];cases I:F.code[F.pos]? with
 |none=>rfl
 |some n =>
  obtain⟨T,N,P,s,Y⟩:=n;dsimp only;by_cases G:T=3;rw[if_pos G,if_pos G];rfl;rw[if_neg G,if_neg G];by_cases u:T≠2;rw[if_pos u,if_pos u];rfl;rw[if_neg u,if_neg u];by_cases q:S.bC<=S.used;rw[if_pos q,if_pos q];rfl;rw[if_neg q,if_neg q];rfl
def Cg{S:bM}{F:iH}{t:List iH}(k:Nat)(h:S.fr=F::t):kU (k+1) S=if(r9 S F t).1=0 then kU k (r9 S F t).2 else r9 S F t:=UC k h
def Ch{z:Γ×Bool}{S:bM}{s:Γ}{F:iH}{t:List iH}(Y:MT z S s)(h:S.fr=F::t)(Q:left S<=1000000000):UA z S (r9 S F t):=by
 unfold r9;by_cases M:F.pos=F.code.length;rw[if_pos M];exact(Dw Y h M).2.2;rw[if_neg M];have W:=Y.ft;rw[h]at W;have V:=W;obtain⟨J,E,C,_⟩:=V;have U:F.pos<F.code.length:=by omega
 have I:F.code[F.pos]?=some F.code[F.pos]:=ahl U;generalize F.code[F.pos]=n at I;obtain⟨T,N,P,D,y⟩:=n;rw[I];dsimp only;by_cases G:T=3;rw[if_pos G];subst G;obtain⟨H,O,K⟩:=RB Y h I;exact⟨H,Y.used,Y.aaG,.inl ⟨Z,s,O,K⟩⟩;have u:T=2:=by obtain⟨r,A,_⟩:=A1 W I;simp only[gf]at A;rw[if_neg G]at A;apply aip;intro c;rw[if_pos c]at A;cases A
 subst u;have B:=Y.used;by_cases q:S.bC<=S.used;rw[if_pos q];exact⟨⟨Z,Z,Z,Z,Z⟩,Y.used,Y.aaG,.inr (.inr (.inr (.inl ⟨Z,by show S.used=S.bC;omega⟩)))⟩;rw[if_neg q];exact(LL Y h I ai Q).2.1
def Oo{V:Γ×Bool}{S:bM}{o:MR}(h:UA V S o)(C:o.1=0):∃Y,MT V o.2 Y/\left o.2<left S:=by obtain⟨_,_,_,W⟩:=h;simp_all
abbrev alP(g:Int)(S:bM):bM:={S with bC:=g}
abbrev ao2(g:Int)(o:MR):MR:=(o.1,alP g o.2)
def BI:∀{l x},x∈l->iG x<=jA l
 |y::l,x,h=>by
  simp only[jA];rcases List.mem_cons.1 h with rfl|h
  omega;have:=BI h;omega
def Ci(z v:Vl):Prop:=iG v<=200\/v=z
def QS(z:Vl)(S:bM):Prop:=(∀v∈S.st,Ci z v)/\∀F∈S.fr,∀v∈F.aside,Ci z v
section
variable {z:Vl}
def aiU:Ci z jl := .inl (by decide)
def Jf{l}(h:∀v∈l,Ci z v)(i):Ci z (lV l i):=by
 unfold lV List.getD;cases O:l[i]? with
 |none=>exact aiU
 |some x=>exact h x (acm O)
def RE:∀l st,(∀v∈st,Ci z v)->∀v∈(nQ l st).2,Ci z v
 |[],st,h=>h
 |x::l,st,h=>by
  unfold nQ;split;exact h;refine RE l (x::st) λv u=>?_;rcases List.mem_cons.1 u with rfl|u
  exact .inl ai;simp_all
def Jg{S}l(h:QS z S):QS z (bg S l).2:=⟨RE _ _ h.1,h.2⟩
def wV{S code fin P}(h:QS z S)(Y:∀v∈P,Ci z v):QS z (dZ S code fin P):=by
 refine⟨h.1,λF C=>?_⟩;rcases List.mem_cons.1 C with rfl|C
 omega;exact h.2 F C
def Jh{S code fin P}(h:QS z S)(Y:∀v∈P,Ci z v):QS z (sE S code fin P):=by
 refine⟨h.1,λF C=>?_⟩;rcases List.mem_cons.1 C with rfl|C
 omega;exact h.2 F C
def EY{S}{l:Ξ}(h:QS z S)(E:∀v∈l,Ci z v):QS z {S with st:=l}:=⟨E,h.2⟩
theorem uc{x}{l:Ξ}(O:Ci z x)(h:∀v∈l,Ci z v):∀v∈x::l,Ci z v:=λv u=>by grind
theorem Oq{a b:Ξ}(Y:∀v∈a,Ci z v)(V:∀v∈b,Ci z v):∀v∈a++b,Ci z v:=λv u=>by grind
def RF{a:Ξ}(n)(Y:∀v∈a,Ci z v):∀v∈a.take n,Ci z v:=λv u=>Y v (ajR u)
def RG{a:Ξ}(n)(Y:∀v∈a,Ci z v):∀v∈a.drop n,Ci z v:=λv u=>Y v (aiW u)
def vg:∀v∈([]),Ci z v:=λv u=>by simp at u
def Ot{a:Ξ}(Y:∀v∈a,Ci z v):∀v∈a.reverse,Ci z v:=λv u=>Y v (List.mem_reverse.1 u)
theorem Aj{c}[Decidable c]{a b:MR}(Y:c->QS z a.2)(U:¬c->QS z b.2):QS z (if c then a else b).2:=by grind
def UD{P V l S}(h:QS z S)(E:∀v∈l,Ci z v)(Y:P=60->∀v∈cP (lV l 0),Ci z v):QS z (rU P V l S).2:=by
 have W:QS z {S with aj:=S.aj+vN (lV l 1)}:=h;unfold rU Rx Jd wU Ag vf FZ Ah;dsimp only
 repeat' (first|exact Jg _ h|exact h|exact Jg _ W|exact Jg _ (wV h vg)|exact wV h vg|exact EY h (uc (Jf h.1 _) (Oq (RF _ h.1) (RG _ h.1)))|exact EY h (Oq (RF _ h.1) (uc (Jf E 0) (RG _ h.1)))|exact Jh h (Y ‹_›)|exact EY (Jh h vg) (uc (Jf E 0) h.1)|exact wV h (uc (Jf E 0) vg)|exact EY (wV h (Ot h.1)) (uc (Jf E 0) vg)|refine Aj (λ_=>?_) (λ_=>?_)|split)
def LN:∀n s l r,jx n s=some (l,r)->(∀v∈s,Ci z v)->(∀v∈l,Ci z v)/\∀v∈r,Ci z v
 |0,s,l,r,h,Y=>by simp only[jx]at h;cases h;exact⟨vg,Y⟩
 |n+1,[],l,r,h,Y=>by simp only[jx]at h;cases h
 |n+1,v::s,l,r,h,Y=>by
  simp only[jx]at h;cases C:jx n s with
  |none=>rw[C]at h;cases h
  |some p =>
   obtain⟨W,H⟩:=p;rw[C]at h;cases h;obtain⟨V,U⟩:=LN n s W r C λv u=>Y v (aix _ u);simp_all
def XL{P V S}(h:QS z S)(W:P=60->∀v q,S.st=v::q->∀y∈cP v,Ci z y):QS z (aA P V S).2:=by
 unfold aA;cases C:jx (bP P) S.st with
 |none=>exact EY h vg
 |some p =>
  obtain⟨U,T⟩:=LN _ _ _ _ C h.1;refine UD (EY h T) U λe=>?_;subst e;have A:bP 60=1:=by decide +kernel
  cases Y:S.st with
  |nil=>rw[Y]at C;cases C
  |cons v q=>rw[Y]at C;cases C;exact W rfl v _ Y
def RH{S F t}(hf:S.fr=F::t)(h:QS z S):QS z (jP S F t).2:=by
 obtain⟨Y,V⟩:=h;rw[hf]at V;have A:=V F cS;have C:∀G∈t,∀v∈G.aside,Ci z v:=λG K=>V G (by simp[K]);have p:QS z S:=⟨Y,by rw[hf];exact V⟩;refine Aj (λ_=>⟨Oq (Ot A) Y,C⟩) (λ_=>Aj (λ_=>?_) (λ_=>Aj (λ_=>?_) (λ_=>Aj (λ_=>?_) (λ_=>⟨Y,C⟩))))
 ·cases e:S.st with
  |nil=>exact p
  |cons v q=>rw[e]at Y;exact⟨uc (Y v cS) (Ot A),C⟩
 ·cases e:F.aside with
  |nil=>exact⟨Y,C⟩
  |cons x q =>
   rw[e]at A;refine Aj (λ_=>p) (λ_=>⟨uc (A x cS) Y,λG K=>?_⟩);grind
 cases e:S.st with
 |nil=>exact p
 |cons v q =>
  rw[e]at Y;have u:∀w∈q,Ci z w:=λw D=>Y w (aix _ D);refine Aj (λ_=>Aj (λ_=>⟨u,by rw[hf];exact V⟩) (λ_=>⟨u,λG K=>?_⟩)) (λ_=>⟨u,C⟩);grind
theorem Dx{S F t}(hf:S.fr=F::t)(h:QS z S):QS z (gU S F t):=by obtain⟨Y,V⟩:=h;rw[hf]at V;refine⟨Y,λG K=>?_⟩;grind
def adA{m:Γ×Bool}{S}{s:Γ}{F t N}{W:Δ}{y:Θ}(V:MT m S s)(h:S.fr=F::t)(I:F.code[F.pos]?=some (.mk 2 N 60 W y)){v}{q:Ξ}(p:S.st=v::q):vK v=10\/vK v=13:=by
 obtain⟨M,Y,Q,T,P,K⟩:=V;rw[h]at Y;obtain⟨r,o,j,B,J⟩:=A1 Y I;simp only[gf]at o;cases hf:bB 60 y with
 |none=>rw[hf]at o;cases o
 |some x =>
 rw[hf]at o;have D:jc 60 (b8 y) x s=(r,0):=o;rw[p]at M;cases s with
 |nil=>exact M.elim
 |cons t s =>
  have U:=bW M.1.1;obtain⟨H,q1,E,G,rfl,rfl⟩:=Cd hf bn;have O:(if cL t=10\/cL t=13 then cJ (bU G ((if cL t=13 then .mk 11 (aQ t)else aL t 0)::s,false)) (fO s)else br 5)=(r,0):=D;split at O;rename_i c;obtain⟨k,n,a,C,A,i,u⟩:=v;have:=(jn U.2.1).1;show k=10\/k=13;omega;cases O
def aaK{D:Γ×Bool}{S}{s:Γ}{F t}(M:vK z≠10/\vK z≠13)(V:MT D S s)(h:S.fr=F::t)(J:QS z S):QS z (r9 S F t).2:=by
 unfold r9;split;exact RH h J;split;omega;rename_i T N P Q E I;split;exact wV (Dx h J) vg;split;exact Dx h J;rename_i u;split;exact Dx h J;obtain rfl:T=2:=by omega
 have W:QS z (gU S F t):=Dx h J;refine XL (S:={gU S F t with used:=S.used+1}) W λe v q p=>?_;subst e;have Y:S.st=v::q:=p;have B:=adA V h I Y;rcases J.1 v (by rw[Y];simp)with C|rfl
 intro y G;left;obtain⟨k,n,a,O,U,A,K⟩:=v;have:=BI (show y∈U from G);simp only[iG]at C;omega;omega
def PT{U:Γ×Bool}(I:vK z≠10/\vK z≠13):∀(k)(S)(s:Γ),MT U S s->left S<=1000000000->QS z S->QS z (kU k S).2
 |0,S,s,_,_,hq=>hq
 |k+1,S,s,V,T,hq=>by
  cases u:S.fr with
  |nil=>rw[EX _ u];exact hq
  |cons F t =>
   rw[Cg k u];have Q:=aaK I V u hq;by_cases C:(r9 S F t).1=0;rw[if_pos C];obtain⟨Y,W,M⟩:=Oo (Ch V u T) C;exact PT I k _ Y W ai Q;simp_all
end
def Fl:∀a b,a.length<=b.length->bQ 0 a b=some (a++b.drop a.length)
 |[],b,_=>by rw[yU];rfl
 |x::a,[],h=>by simp at h
 |x::a,y::b,h=>by simp only[bQ,Fl a b nu,ahk,aat,aje]
def acv{X m}{F:Operand->Option AV}{t O Q:Nat}{i Y W}{A:tad}{z:Φ}{x y Ll g}(H:X.ti t=some i)(I:i.kind = .struct A)(P:i.zero=some (.agg z))(V:nth A 0=some (0,O))(U:nth A 1=some (181,Q))
  (T:X.ti O=some Y)(N:Y.size=181)(S:X.ti Q=some W)(M:W.size=1)(u:F x=some (.agg (cq Ll)))(K:Ll.aI.length=12)(G:F y=some (.c (ah g)))(J:z.length=187)(D:z.drop 181=[.c (ah 0),.c (ah 0),.c (ah 0),.c (ah 0),.c (ah 0),.own .exact 1 []]) :
  gX X m F (.build t #[(0,x),(1,y)])=some (.agg (wB ⟨Ll,g,0,0,0,[]⟩ 0)):=by
 have E:=gp K;have r:=Fl (cq Ll) z (by rw[E,J];decide);rw[E,D]at r;have o:=oN (cq Ll) 0 [.c (ah g)] [.c (ah 0),.c (ah 0),.c (ah 0),.c (ah 0),.c (ah 0),.own .exact 1 []] _ Z;rw[E]at o;have C:Nat.beq (cq Ll).length Y.size:=by rw[E,N];rfl
 have B:Nat.beq [AV.c (ah g)].length W.size:=by rw[M];rfl
 have q:kG (.agg (cq Ll))=some (cq Ll):=rfl;have p:kG (.c (ah g))=some [.c (ah g)]:=rfl;simp only[gX,H,I,P,uD,V,U,u,G,T,S,q,p,C,B,r,o];rfl
def J7{X}{F:tab}{env:Env}{t B I W:Nat}{i P K C V Y}{cells r O H:Φ}{v U}(N:X.ti B=some i)(u:aJ X env (.tmp t)=some (.ptr K C))(M:au K F=some cells)(J:eB C cells=some r)(G:mK i r=some v)
  (T:X.ti W=some P)(E:aJ X env (.tmp I)=some (.ptr V Y))(D:au V F=some O)(S:eB Y O=some H)(Q:mK P H=some U):nh X F env [.cell t B,.cell I W]=some (.eK [v,U]):=by
 have A:gX X F (aJ X env) (.load B (.tmp t))=some v:=by simp only[gX,N,u,M,J,G]
 have z:gX X F (aJ X env) (.load W (.tmp I))=some U:=by simp only[gX,T,E,D,S,Q]
 simp only[nh,sZ,A,z]
def Hq(l){v c}(h:close v=some c):close (.eK [.agg (cq l),v])=some (.eK [.agg (di l),c]):=by simp only[close,rL,D0 l,h];rw[show rL (cq l)=some (di l)from Ax _]
end Go.Proofs
