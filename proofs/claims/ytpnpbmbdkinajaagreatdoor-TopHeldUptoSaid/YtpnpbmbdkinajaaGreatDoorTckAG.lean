/- A part of the proof. -/
import Derived.Test.YtpnpbmbdkinajaaGreatDoorChnFG
set_option linter.all false
set_option maxHeartbeats 0
set_option maxRecDepth 100000
namespace Go.Proofs
open Go.cE
section
variable (φ:Int->Ty->Vl->Bool)
mutual
def wT:Vl->Ty->Nat
 |.mk k n a s Y V code,t =>
  if cL t=15 then(if φ a (aL t 0) (lV Y 0)=true then n.toNat else 0)
  else if cL t=9\/cL t=10 then eP Y (aL t 0)
  else if cL t=11 then cD Y (aQ t)
  else if cL t=12 then eP Y (aL t n.toNat)
  else if cL t=13 then eP Y (.mk 11 (aQ t))
  else if cL t=8 then eP Y (V.getD 0 kg)
  else 0
def eP:Ξ->Ty->Nat
 |[],_=>0
 |x::l,t=>wT x t+eP l t
def cD:Ξ->Γ->Nat
 |x::l,t::r=>wT x t+cD l r
 |_,_=>0
end
end
section
variable {φ:Int->Ty->Vl->Bool}
def lX v(t):wT φ v t=(if cL t=15 then(if φ (xA v) (aL t 0) (lV (cP v) 0)=true then(vN v).toNat else 0)
  else if cL t=9\/cL t=10 then eP φ (cP v) (aL t 0)
  else if cL t=11 then cD φ (cP v) (aQ t)
  else if cL t=12 then eP φ (cP v) (aL t (vN v).toNat)
  else if cL t=13 then eP φ (cP v) (.mk 11 (aQ t))
  else if cL t=8 then eP φ (cP v) ((Gg v).getD 0 kg)
  else 0):=by cases v;rw[wT];rfl
def LW:∀{l}(i),mg wv l->jI (l.getD i kg)=true
 |[],i,_=>by simp only[alr];decide
 |t::l,0,h=>by simp only[mg,aaI]at h;exact h.1
 |t::l,i+1,h=>by simp only[mg,aaI]at h;exact LW (l:=l) i h.2
mutual
def Cl:∀(v:Vl)(t:Ty),jI t->wT φ v t=0
 |.mk k n a s U Q code,.mk T S,h=>by
  unfold wT;by_cases W:T=14;subst W;simp[cL];have E:wv T/\mg wv S:=by simpa[jI,v8,W]using h
  have Y:T≠15:=by rintro rfl;exact absurd E.1 bn
  have M:T≠8:=by rintro rfl;exact absurd E.1 bn
  have P:∀i,eP φ U (S.getD i kg)=0:=λi=>E3 U _ (LW i E.2);have V:=E3 U (.mk 11 S) (by simpa[jI,v8,E.2]using (by decide:wv 11));have O:=LX U S E.2;simp only[cL,aQ,aL,P,O,V,Y,M,aiQ,ite_self]
def E3:∀(l:Ξ)(t:Ty),jI t->eP φ l t=0
 |[],_,_=>rfl
 |x::l,t,h=>by simp only[eP,Cl x t h,E3 l t h]
def LX:∀(l:Ξ)(r:Γ),mg wv r->cD φ l r=0
 |[],_,_=>by simp only[cD]
 |_::_,[],_=>by simp only[cD]
 |x::l,t::r,h=>by simp only[mg,aaI]at h;simp only[cD,Cl x t h.1,LX l r h.2]
end
mutual
def E4{p:Int->Bool}(M:∀T,p T->wv T):∀t,vE p t->jI t
 |.mk T l,h=>by simp only[vE,aaI]at h;unfold jI v8;split;rfl;rw[M T h.1,Jy M l h.2];rfl
def Jy{p:Int->Bool}(M:∀T,p T->wv T):∀l,oW p l->mg wv l
 |[],_=>rfl
 |t::l,h=>by simp only[oW,aaI]at h;have Y:=E4 M t h.1;unfold jI at Y;simp only[mg,Y,Jy M l h.2,akE]
end
def aa6{t}(h:iF t)(v):wT φ v t=0:=Cl v t (E4 (λT h=>by simp[uK]at h;simp[wv,h]) t h)
def aa7{t}(h:fZ t)(v):wT φ v t=0:=Cl v t (E4 (λT h=>by simp[Bq]at h;simp[wv,h]) t h)
def lU{T}{Y:Γ}(h:T=2\/T=3\/T=4\/T=5\/T=6\/T=7\/T=14)(v):wT φ v (.mk T Y)=0:=by rw[lX];rcases h with rfl|rfl|rfl|rfl|rfl|rfl|rfl<;>simp[cL]
def aa8{t}(h:∀v,wT φ v t=0):∀l,eP φ l t=0
 |[]=>rfl
 |x::l=>by simp only[eP,h x,aa8 h l]
def Wm{t}(h:∀v,wT φ v t=0)v:wT φ v (.mk 9 [t])=0:=by rw[lX];simp[cL,aL,aQ,aa8 h]
def DF:∀l m s r,l.length=s.length->cD φ (l++m) (s++r)=cD φ l s+cD φ m r
 |[],_,[],_,_=>by simp[cD]
 |x::l,m,t::s,r,h=>by simp only[ahk,cD,DF l m s r nu];omega
 |[],_,_::_,_,h=>by simp at h
 |_::_,_,[],_,h=>by simp at h
def aa9 l(s)n(h:l.length=s.length):cD φ (l.take n) (s.take n)+cD φ (l.drop n) (s.drop n)=cD φ l s:=by rw[<- DF _ _ _ _ ri,aiD,aiD]
def DG:∀l m t,eP φ (l++m) t=eP φ l t+eP φ m t
 |[],_,_=>by simp[eP]
 |x::l,m,t=>by simp only[ahk,eP,DG l m t];omega
def Jz l(t)n:eP φ (l.take n) t+eP φ (l.drop n) t=eP φ l t:=by rw[<- DG,aiD]
def XY(l:Ξ)(t n m)(h:n<=m):eP φ (l.drop m) t<=eP φ (l.drop n) t:=by have:=Jz (φ:=φ) (l.drop n) t (m-n);rw[List.drop_drop,show n+(m-n)=m from by omega]at this;omega
def SW(φ:Int->Ty->Vl->Bool)(s:Γ)(st:Ξ)(r:Γ)(o:MR):Prop:=o.1=0->cD φ o.2.st r<=cD φ st s
def x8{S x t q s st}(h:wT φ x t+cD φ S.st q<=cD φ st s):SW φ s st (t::q) (bg S [x]):=by
 intro C;rcases sF [x] S.st with h1|⟨_,Y,_⟩
 exact ahb;show cD φ (nQ [x] S.st).2 _<=_;rw[Y];exact h
def agL{S x y t u q s st}(h:wT φ y u+(wT φ x t+cD φ S.st q)<=cD φ st s):SW φ s st (u::t::q) (bg S [x,y]):=by
 intro C;rcases sF [x,y] S.st with h1|⟨_,Y,_⟩
 exact ahb;show cD φ (nQ [x,y] S.st).2 _<=_;rw[Y];exact h
def adN{S e s r st}(h:e≠0):SW φ s st r (e,S):=λC=>absurd C h
def LY:∀n l s,cD φ (l.drop n) (s.drop n)<=cD φ l s
 |0,l,s=>by simp
 |n+1,[],s=>by simp[cD]
 |n+1,x::l,[]=>by simp[cD]
 |n+1,x::l,t::s=>by have:=LY n l s;simp only[aje,cD];omega
def JA:∀{n s l q},jx n s=some (l,q)->q=s.drop n
 |0,s,l,q,h=>by cases h;rfl
 |n+1,[],l,q,h=>by cases h
 |n+1,v::s,l,q,h=>by
  simp only[jx]at h;cases e:jx n s with
  |none=>rw[e]at h;cases h
  |some p=>obtain⟨a,b⟩:=p;rw[e]at h;cases h;simpa using JA e
def sG(S:bM)(o:MR):Prop:=o.1=0->∃x,o.2.st=x::S.st
def ue(S x):sG S (bg S [x]):=λC=>by
 rcases sF [x] S.st with h1|⟨_,Y,_⟩
 exact ahb;exact⟨x,Y⟩
theorem OL{S c}[Decidable c]{a b}(Y:c->sG S a)(V:¬c->sG S b):sG S (if c then a else b):=by grind
def aba(P l S):sG S (vf P l S):=by
 unfold vf;dsimp only
 repeat' (first|exact ue _ _|exact λh=>absurd h ‹_› | refine OL (λ_=>?_) (λ_=>?_))
def agM(P Y l S):sG S (FZ P Y l S):=by
 unfold FZ;dsimp only
 repeat' (first|exact ue _ _|(intro h;cases h;done)|refine OL (λ_=>?_) (λ_=>?_))
def Wn{P}(p:P=59\/P=62)(Y l S):sG S (Ag P Y l S):=by
 unfold Ag;rcases p with rfl|rfl
 exact ue _ _;show sG S (if fB (cP (lV l 1)) (lV l 0)=true then _ else _);exact OL (λ_=>ue _ _) (λ_=>ue _ _)
def UQ(φ:Int->Ty->Vl->Bool)(s:Γ)(n:Nat)(r:Γ×Bool):Prop:=∃u,(∀v,wT φ v u=0)/\r.1=u::s.drop n
def qI{P V S s r}(U:∀l Y,sG Y (rU P V l Y))(T:UQ φ s (bP P) r):SW φ s S.st r.1 (aA P V S):=by
 unfold aA;cases C:jx (bP P) S.st with
 |none=>exact adN bn
 |some p =>
  obtain⟨l,q⟩:=p;intro A;obtain⟨x,O⟩:=U l {S with st:=q} A;obtain⟨u,K,e⟩:=T;dsimp only at O ⊢;rw[O,e];have:=LY (φ:=φ) (bP P) S.st s;rw[<- JA C]at this;simp only[cD,K];omega
def XZ{p a b}(h:nU p a b≠0)(v):wT φ v (.mk (nU p a b) [])=0:=by
 refine lU ?_ v;revert h;unfold nU
 repeat' split
 all_goals simp
def abb{P s}{r:Γ×Bool}(D:eU P s=(r,0)):UQ φ s (if P>=93 then 1 else 2) r:=by
 have M:∀a b:Int,a=5\/a=4\/a=3->b=5\/b=4->∀v,wT φ v (.mk 9 [.mk 11 [.mk a [],.mk b []]])=0:=λa b T S v=>Cl v _ (by rcases T with rfl|rfl|rfl<;>rcases S with rfl|rfl<;>decide);unfold eU at D;by_cases Y:P=93
 ·subst Y;rcases s with _|⟨t,s⟩
  cases D;simp only[if_true]at D;split at D;cases D;exact⟨_,lU cS,Z⟩;cases D
 rw[if_neg Y]at D;by_cases W:P=94
 ·subst W;rcases s with _|⟨t,s⟩
  cases D;simp only[if_true]at D;split at D;cases D;exact⟨_,Wm (lU cS),Z⟩;cases D
 rw[if_neg W]at D;by_cases V:P=95
 ·subst V;rcases s with _|⟨t,s⟩
  cases D;simp only[if_true]at D;split at D;cases D;exact⟨_,lU cS,Z⟩;cases D
 rw[if_neg V]at D;by_cases c:P>=93;rw[if_pos c]at D;cases D;rw[if_neg c]at D ⊢;rcases s with _|⟨t,_|⟨u,s⟩⟩
 cases D;cases D;dsimp only at D;split at D;cases D;rename_i U;split at D;cases D;exact⟨_,Wm (lU cS),Z⟩;split at D;cases D;exact⟨_,XZ U,Z⟩;cases D;refine⟨_,M _ _ ?_ ?_,Z⟩
 ·split;simp;revert U;unfold nU
  repeat' split
  all_goals simp
 split<;>simp
def X0{P V s}{r:Γ×Bool}(hf:r.2=false)(D:kj P V s=(r,0)):UQ φ s (bP P) r:=by
 unfold kj at D;rcases s with _|⟨t,s⟩
 cases D;dsimp only at D;have G:∀p:Int,p=74\/p=75\/p=76\/p=77\/p=81\/p=82->bP p=1:=by intro p M;rcases M with rfl|rfl|rfl|rfl|rfl|rfl<;>decide +kernel
 have K:∀p:Int,p=73\/p=78\/p=79\/p=80->bP p=2:=by intro p M;rcases M with rfl|rfl|rfl|rfl<;>decide +kernel
 have Y:∀{u:Ty}{T:Int},cL u=T->T=2\/T=3\/T=4\/T=5\/T=6\/T=7\/T=14->∀v,wT φ v u=0:=λ{u T} h h2 v=>by cases u;subst h;exact lU h2 v
 split at D
 ·subst_vars;rcases s with _|⟨u,s⟩
  cases D;dsimp only at D;split at D;cases D;rw[K 73 cS];exact⟨_,lU cS,Z⟩;cases D
 split at D;rename_i c;rw[G P ai];split at D;cases D;exact⟨_,lU cS,Z⟩;cases D;split at D;subst_vars;rw[G 77 cS];split at D;rename_i c;cases D;exact⟨_,Y c cS,Z⟩;cases D;split at D
 ·rename_i c;rw[K P ai];rcases s with _|⟨u,s⟩
  cases D;dsimp only at D;split at D;rename_i c;cases D;exact⟨_,Y c.2 cS,Z⟩;cases D
 split at D
 ·subst_vars;rw[K 80 cS];rcases s with _|⟨u,s⟩
  cases D;dsimp only at D;split at D;rename_i c;cases D;exact⟨_,Y c.2 cS,Z⟩;cases D
 split at D;subst_vars;rw[G 81 cS];split at D;cases D;exact⟨_,lU cS,Z⟩;cases D;split at D;subst_vars;rw[G 82 cS];split at D;rename_i c;cases D;exact⟨_,Wm (aa6 c.2),Z⟩;cases D;split at D;split at D;cases D;cases hf;cases D;cases D
def JB{t}:wT φ (cr []) (.mk 9 [t])=0:=by rw[lX];rfl
def E5{x t}:wT φ (cr [x]) (.mk 9 [t])=wT φ x t:=by rw[lX];rfl
def rV{x y t u}:wT φ (aU x y) (.mk 11 [t,u])=wT φ x t+wT φ y u:=by rw[lX];rfl
def aeW{x t u}:wT φ (.mk 12 0 0 [] [x] [] []) (.mk 12 [t,u])=wT φ x t:=by rw[lX];rfl
def aeX{x t u}:wT φ (.mk 12 1 0 [] [x] [] []) (.mk 12 [t,u])=wT φ x u:=by rw[lX];rfl
def OM{l:Ξ}{t}:wT φ (.mk 10 0 0 [] l [] []) (.mk 10 [t])=eP φ l t:=by rw[lX];rfl
def Wo{l:Ξ}{t u}:wT φ (.mk 13 0 0 [] l [] []) (.mk 13 [t,u])=eP φ l (.mk 11 [t,u]):=by rw[lX];rfl
def JC{n a x t}:wT φ (.mk 15 n a [] [x] [] []) (.mk 15 [t])=if φ a t x=true then n.toNat else 0:=by rw[lX];rfl
def agN{n a x t}{Y:Γ}:wT φ (.mk 8 n a [] [x] [t] []) (.mk 8 Y)=wT φ x t:=by rw[lX];rfl
def aeY:∀(l)(s:Γ)(n),l.length=s.length->n<s.length->wT φ (lV l n) (s.getD n kg)+cD φ (l.take n++l.drop (n+1)) (s.take n++s.drop (n+1))=cD φ l s
 |x::l,t::s,0,_,_=>by simp[lV,cD]
 |x::l,t::s,n+1,h,Y=>by
  have:=aeY l s n nu (by simpa using Y);simp only[ajL,aje,ahk,cD];have A:lV (x::l) (n+1)=lV l n:=by simp[lV]
  have Q:(t::s).getD (n+1) kg=s.getD n kg:=by simp
  rw[A,Q];omega
 |[],[],n,_,Y=>by simp at Y
 |[],_::_,_,h,_=>by simp at h
 |_::_,[],_,h,_=>by simp at h
def adO{P S F s}{r:Γ×Bool}{z}(p:40<=P/\P<=44)(hf:bB P F=some z)(Y:dj s S.st)(D:iK P F s=(r,0)):SW φ s S.st r.1 (aA P F S):=by
 obtain⟨a,b,c,d,st,C,g,u,m,K⟩:=S;have W:=bH Y;simp only at Y W;rcases(show P=40\/P=41\/P=42\/P=43\/P=44 by omega)with rfl|rfl|rfl|rfl|rfl
 ·rcases s with _|⟨t,s⟩
  cases D;obtain⟨v,q,rfl,J,o⟩:=aK Y;cases D;unfold aA;rw[Wc];exact λ_=>by show cD φ q s<=cD φ (v::q) (t::s);simp[cD]
 have O:(if 1<=DX (F.getD 0 rX)/\DX (F.getD 0 rX)<=s.length/\jI (s.getD (DX (F.getD 0 rX)-1).toNat kg)=true then fO (s.getD (DX (F.getD 0 rX)-1).toNat kg::s)else br 5)=(r,0):=D;split at O;rename_i V;cases O;exact qI (λl U=>ue U _) ⟨_,λv=>Cl v _ V.2.2,by rw[Wd];rfl⟩;cases O
 ·rcases s with _|⟨t,_|⟨T,s⟩⟩
  cases D;cases D;obtain⟨v,A,rfl,J,E⟩:=aK Y;obtain⟨w,q,rfl,Q,o⟩:=aK E;cases D;unfold aA;rw[We];exact agL (S:=⟨a,b,c,d,q,C,g,u,m,K⟩) (x:=v) (y:=w) (by simp only[cD];omega)
 obtain⟨N,M,B,H,rfl,I,rfl⟩:=DC hf bn;have O:(if(N:Int)<s.length then fO (s.getD (N:Int).toNat kg::(s.take (N:Int).toNat++s.drop ((N:Int).toNat+1)))else br 5)=(r,0):=D;split at O;rename_i V;cases O;unfold aA;rw[Wf];intro _;show cD φ (lV st (N:Int).toNat::(st.take (N:Int).toNat++st.drop ((N:Int).toNat+1))) _<=cD φ st s;simp only[cD];exact Nat.le_of_eq (aeY st s (N:Int).toNat W.symm ai);cases O;rcases s with _|⟨t,s⟩
 cases D;obtain⟨v,q,rfl,J,o⟩:=aK Y;simp only[aat]at W;have O:(if DX (F.getD 0 rX)<s.length+1 then fO (s.take (DX (F.getD 0 rX)).toNat++t::s.drop (DX (F.getD 0 rX)).toNat)else br 5)=(r,0):=D;have e:aA 44 F ⟨a,b,c,d,v::q,C,g,u,m,K⟩=(0,⟨a,b,c,d,q.take (DX (F.getD 0 rX)).toNat++v::q.drop (DX (F.getD 0 rX)).toNat,C,g,u,m,K⟩):=by unfold aA;rw[Wg];rfl
 rw[e];generalize DX (F.getD 0 rX)=N at *;split at O;cases O;intro _;show cD φ (q.take N.toNat++v::q.drop N.toNat) (s.take N.toNat++t::s.drop N.toNat)<=_;rw[DF _ _ _ _ oe];have:=aa9 (φ:=φ) q s N.toNat ai;simp only[cD];omega;cases O
def abc{P S F}{B:L (Γ->CR)}{z s}{r:Γ×Bool}(p:P=46\/P=50\/P=51\/P=53\/P=54\/P=56\/P=57)(Y:dj s S.st)(D:dh P B z s=(r,0)):SW φ s S.st r.1 (aA P F S):=by
 obtain⟨a,b,c,d,st,C,g,u,m,K⟩:=S;simp only at Y;rcases p with rfl|rfl|rfl|rfl|rfl|rfl|rfl
 case inr.inr.inr.inr.inl =>
  cases D;unfold aA;rw[OI];exact x8 (S:=⟨a,b,c,d,st,C,g,u,m,K⟩) (x:=cr []) (by rw[JB];simp)
 case inr.inr.inr.inr.inr.inl =>
  cases D;unfold aA;rw[OJ];exact x8 (S:=⟨a,b,c,d,st,C,g,u,m,K⟩) (x := .mk 10 0 0 [] [] [] []) (by rw[OM];simp[eP])
 all_goals
  rcases s with _|⟨t,s⟩
  cases D;obtain⟨v,q,rfl,J,y⟩:=aK Y;have M:=bW J.1
 ·rcases s with _|⟨E,s⟩
  cases D;obtain⟨w,q,rfl,W,y⟩:=aK y;cases D;unfold aA;rw[OB];exact x8 (S:=⟨a,b,c,d,q,C,g,u,m,K⟩) (x:=aU v w) (by rw[rV];simp only[cD];omega)
 cases D;unfold aA;rw[OF];exact x8 (S:=⟨a,b,c,d,q,C,g,u,m,K⟩) (x := .mk 12 0 0 [] [v] [] []) (by rw[aeW];exact acd _);cases D;unfold aA;rw[OG];exact x8 (S:=⟨a,b,c,d,q,C,g,u,m,K⟩) (x := .mk 12 1 0 [] [v] [] []) (by rw[aeX];exact acd _);cases D;unfold aA;rw[OH];exact x8 (S:=⟨a,b,c,d,q,C,g,u,m,K⟩) (x:=cr [v]) (by rw[E5];exact acd _);rcases s with _|⟨⟨T,o⟩,s⟩
 cases D;obtain⟨w,q,rfl,W,y⟩:=aK y;have O:(if T=10/\cx t (aL (.mk T o) 0) then fO (.mk T o::s)else br 5)=(r,0):=D;split at O
 ·rename_i V;obtain⟨rfl,U⟩:=V;cases O;have G:=bW W.1;obtain⟨t1,rfl,I⟩:=dD (bw G.1) bn;obtain rfl:t=t1:=(eD _ _).1 U;obtain⟨l,rfl,A,Q,N⟩:=oT G.2.1 G.2.2;have e:aA 57 F ⟨a,b,c,d,v :: .mk 10 0 0 [] l [] []::q,C,g,u,m,K⟩=(if 24<=l.length then(13,⟨a,b,c,d,q,C,g,u,m,K⟩)else bg ⟨a,b,c,d,q,C,g,u,m,K⟩ [.mk 10 0 0 [] (v::l) [] []]):=by unfold aA;rw[NO];rfl
  rw[e];split;exact adN bn;exact x8 (by simp only[OM,cD,eP];omega)
 cases O
def abd{P S F}{N:L (Γ->CR)}{M s}{r:Γ×Bool}(p:P=47\/P=48\/P=49)(I:dj s S.st)(D:dh P N M s=(r,0)):SW φ s S.st r.1 (aA P F S):=by
 obtain⟨a,b,c,d,st,C,g,u,m,K⟩:=S;simp only at I;rcases s with _|⟨⟨T,E⟩,s⟩
 ·rcases p with rfl|rfl|rfl<;>cases D
 obtain⟨v,q,rfl,J,B⟩:=aK I;have V:=bW J.1;have W:T=11:=by apply aip;intro h;rcases p with rfl|rfl|rfl<;>simp[dh,cL,h,br]at D
 subst W;obtain⟨t1,Y,rfl,U,Q⟩:=dr (bw V.1) bn;obtain⟨x,y,rfl,O,G⟩:=mL V.2.1 V.2.2;have H:cD φ (aU x y::q) (.mk 11 [t1,Y]::s)=wT φ x t1+wT φ y Y+cD φ q s:=by rw[cD,rV]
 rcases p with rfl|rfl|rfl
 cases D;unfold aA;rw[OC];exact agL (S:=⟨a,b,c,d,q,C,g,u,m,K⟩) (x:=y) (y:=x) (u:=t1) (t:=Y) (q:=s) (by show _<=cD φ (aU x y::q) (.mk 11 [t1,Y]::s);rw[H];show wT φ x t1+(wT φ y Y+cD φ q s)<=_;omega);cases D;unfold aA;rw[OD];exact x8 (S:=⟨a,b,c,d,q,C,g,u,m,K⟩) (x:=x) (t:=t1) (q:=s) (by show _<=cD φ (aU x y::q) (.mk 11 [t1,Y]::s);rw[H];show wT φ x t1+cD φ q s<=_;omega);cases D;unfold aA;rw[OE];exact x8 (S:=⟨a,b,c,d,q,C,g,u,m,K⟩) (x:=y) (t:=Y) (q:=s) (by show _<=cD φ (aU x y::q) (.mk 11 [t1,Y]::s);rw[H];show wT φ y Y+cD φ q s<=_;omega)
def abe{P S F}{j:L (Γ->CR)}{o s}{r:Γ×Bool}(p:P=59\/P=61\/P=62\/P=63)(hf:bB P F=some o)(I:dj s S.st)(D:jc P j o s=(r,0)):SW φ s S.st r.1 (aA P F S):=by
 rcases p with rfl|rfl|rfl|rfl
 ·rcases s with _|⟨t,s⟩
  cases D;have O:(if cL t=6\/cL t=10\/cL t=13 then fO (.mk 4 []::s)else br 5)=(r,0):=D;split at O;cases O;exact qI (λl U=>Wn (.inl Z) F l U) ⟨.mk 4 [],lU cS,by rw[NP];rfl⟩;cases O
 obtain⟨x,y,rfl,hx,N,rfl⟩:=VQ hf bn;have O:(if fZ (aM x).1=true then fO (.mk 13 [(aM x).1,(aM y).1]::s)else br 5)=(r,0):=D;split at O;cases O;unfold aA;rw[NQ];exact x8 (S:=S) (x := .mk 13 0 0 [] [] [] []) (by rw[Wo];simp[eP]);cases O
 ·rcases s with _|⟨t,_|⟨W,s⟩⟩
  cases D;cases D;have O:(if cL W=13/\cx t (aL W 0)/\jI (aL W 1) then fO (.mk 9 [aL W 1]::s)else br 5)=(r,0):=D;split at O;rename_i M;cases O;exact qI (λl U=>Wn (.inr Z) F l U) ⟨_,Wm λv=>Cl v _ M.2.2,by rw[NS];rfl⟩;cases O
 obtain⟨a,b,c,d,st,C,g,u,m,K⟩:=S;simp only at I;rcases s with _|⟨t1,_|⟨⟨T,E⟩,_|⟨⟨V,Y⟩,s⟩⟩⟩
 cases D;cases D;cases D;obtain⟨v,q,rfl,hv,f⟩:=aK I;obtain⟨w,q,rfl,J,f⟩:=aK f;obtain⟨z,q,rfl,H,f⟩:=aK f;have G:=bW J.1;have B:=bW H.1;have O:(if T=9/\V=13/\cx t1 (aL (.mk V Y) 0)/\cx (aL (.mk T E) 0) (aL (.mk V Y) 1) then fO (.mk V Y::s)else br 5)=(r,0):=D;split at O;rotate_left;cases O;rename_i A;cases O;obtain⟨rfl,rfl,c2,c3⟩:=A;obtain⟨t0,rfl,ω⟩:=dD (bw G.1) bn;obtain⟨t,W,rfl,FW,Q6⟩:=dr (bw B.1) bn;obtain rfl:t1=t:=(eD _ _).1 c2;obtain rfl:t0=W:=(eD _ _).1 c3;obtain⟨l,rfl,yF,ψ,χ,υ⟩:=va B.2.1 B.2.2;have Q:∀i,eP φ (l.take i++l.drop (i+1)) (.mk 11 [t1,t0])<=eP φ l (.mk 11 [t1,t0]):=λi=>by rw[DG];have h1:=Jz (φ:=φ) l (.mk 11 [t1,t0]) i;have h2:=XY (φ:=φ) l (.mk 11 [t1,t0]) i (i+1) ai;omega
 have k2:∀(x:Ξ)(i:Nat)(y:Vl),eP φ (x.take i++aU v y::x.drop i) (.mk 11 [t1,t0])=eP φ x (.mk 11 [t1,t0])+(wT φ v t1+wT φ y t0):=λx i y=>by rw[DG];have h1:=Jz (φ:=φ) x (.mk 11 [t1,t0]) i;simp only[eP,rV];omega
 rcases Ds G.2.1 G.2.2 with rfl|⟨y,rfl,N⟩
 ·have e:aA 63 F ⟨a,b,c,d,v::cr [] :: .mk 13 0 0 [] l [] []::q,C,g,u,m,K⟩=bg ⟨a,b,c,d,q,C,g,u,m,K⟩ [.mk 13 0 0 [] (if fB l v=true then l.take (bY l v)++l.drop (bY l v+1)else l) [] []]:=by unfold aA;rw[Dr];rfl
  rw[e];refine x8 ?_;simp only[Wo,cD,JB];have:=Q (bY l v);split<;>omega
 have e:aA 63 F ⟨a,b,c,d,v::cr [y] :: .mk 13 0 0 [] l [] []::q,C,g,u,m,K⟩=(if 24<=(if fB l v=true then l.take (bY l v)++l.drop (bY l v+1)else l).length then(13,⟨a,b,c,d,q,C,g,u,m,K⟩)else bg ⟨a,b,c,d,q,C,g,u,m,K⟩ [.mk 13 0 0 [] ((if fB l v=true then l.take (bY l v)++l.drop (bY l v+1)else l).take (bY l v)++aU v y::(if fB l v=true then l.take (bY l v)++l.drop (bY l v+1)else l).drop (bY l v)) [] []]):=by unfold aA;rw[Dr];rfl
 have hX:eP φ (if fB l v=true then l.take (bY l v)++l.drop (bY l v+1)else l) (.mk 11 [t1,t0])<=eP φ l (.mk 11 [t1,t0]):=by have:=Q (bY l v);split<;>omega
 rw[e];generalize (if fB l v=true then l.take (bY l v)++l.drop (bY l v+1)else l)=X at *;split;exact adN bn;refine x8 ?_;simp only[Wo,cD,E5,k2];omega
def X1{S args M s}{r:Γ×Bool}(Y:dj s S.st)(D:iL 84 M s=(r,0))(C:(aA 84 args S).1=0) :
  S.aj<=(aA 84 args S).2.aj/\(cD φ (aA 84 args S).2.st r.1)<=cD φ S.st s+((aA 84 args S).2.aj-S.aj)/\((∀t v,φ S.self t v=false)->cD φ (aA 84 args S).2.st r.1<=cD φ S.st s):=by
 obtain⟨a,b,c,d,st,B,g,u,m,K⟩:=S;simp only at Y;rcases s with _|⟨t1,_|⟨⟨W,E⟩,s⟩⟩
 cases D;cases D;obtain⟨v,q,rfl,J,I⟩:=aK Y;obtain⟨w,q,rfl,V,I⟩:=aK I;have O:(if W=4/\fZ t1 then fO (.mk 9 [.mk 15 [t1]]::s)else br 5)=(r,0):=D;split at O;rotate_left;cases O;rename_i U;cases O;obtain⟨rfl,N⟩:=U;obtain⟨n,rfl,T⟩:=gN bn (bW V.1).2.1;have n0:=(kQ bn T).2 bn;have e:aA 84 args ⟨a,b,c,d,v::aO 4 n::q,B,g,u,m,K⟩=(if n=0 then bg ⟨a,b,c,d,q,B,g,u,m,K⟩ [cr []]else if m>bL-n then(11,⟨a,b,c,d,q,B,g,u,m,K⟩)else bg ⟨a,b,c,d,q,B,g,u,m+n,K⟩ [cr [.mk 15 n a [] [v] [] []]]):=by unfold aA;rw[Nu];rfl
 rw[e]at C ⊢;by_cases G:n=0;rw[if_pos G]at C ⊢;have:=x8 (φ:=φ) (S:=⟨a,b,c,d,q,B,g,u,m,K⟩) (x:=cr []) (t := .mk 9 [.mk 15 [t1]]) (q:=s) (s:=t1 :: .mk 4 E::s) (st:=v::aO 4 n::q) aeQ C;exact⟨ahS _,by show _<=_+(m-m);rw[Int.sub_self,Int.add_zero];exact Int.ofNat_le.2 this,λ_=>this⟩;rw[if_neg G]at C ⊢;by_cases c4:m>bL-n;rw[if_pos c4]at C;cases C;rw[if_neg c4]at C ⊢;rcases sF [cr [.mk 15 n a [] [v] [] []]] q with h1|⟨_,F,_⟩
 exact ahb;have Q:(bg ⟨a,b,c,d,q,B,g,u,m+n,K⟩ [cr [.mk 15 n a [] [v] [] []]]).2.st=cr [.mk 15 n a [] [v] [] []]::q:=F;rw[Q];simp only[cD,E5,JC];refine⟨by show m<=m+n;omega,?_,λP=>?_⟩
 ·show _<=_+(m+n-m);split<;>omega
 rw[P];simp only[Bool.false_eq_true,aiQ];omega
def abf{P S F o s}{r:Γ×Bool}(hP:P=85\/P=86\/P=87\/P=88\/P=89\/P=90\/P=91\/P=92)(hf:bB P F=some o)(B:dj s S.st)(D:iL P o s=(r,0)):SW φ s S.st r.1 (aA P F S):=by
 rcases hP with rfl|rfl|rfl|rfl|rfl|rfl|rfl|rfl
 case inr.inr.inr.inr.inl=>cases D;exact qI (λl U=>ue U _) ⟨.mk 7 [],lU cS,by rw[Nz];rfl⟩
 case inr.inr.inr.inr.inr.inl=>cases D;exact qI (λl U=>ue U _) ⟨.mk 7 [],lU cS,by rw[NA];rfl⟩
 case inr.inr.inr.inr.inr.inr.inl=>cases D;exact qI (λl U=>ue U _) ⟨.mk 5 [],lU cS,by rw[NB];rfl⟩
 case inr.inr.inr.inr.inr.inr.inr=>cases D;exact qI (λl U=>ue U _) ⟨.mk 5 [],lU cS,by rw[NC];rfl⟩
 all_goals
  obtain⟨a,b,c,d,st,C,g,u,m,K⟩:=S;simp only at B;rcases s with _|⟨⟨W,j⟩,s⟩
  cases D;obtain⟨v,q,rfl,hv,i⟩:=aK B;have V:=bW hv.1
 ·have O:(if W=15 then fO (.mk 11 [.mk 7 [],.mk 11 [aL (.mk W j) 0,.mk 4 []]] :: .mk W j::s)else br 5)=(r,0):=D;split at O;rotate_left;cases O;rename_i G;cases O;subst G;obtain⟨t,rfl,p⟩:=dD (bw V.1) bn;have I:fZ t:=by have f:=B8 V.1;simp only[I5,aaI]at f;have h2:jG [t]:=(by simpa using f.1);simpa[jG]using h2
  unfold aA;rw[Nv];exact agL (S:=⟨a,b,c,d,q,C,g,u,m,K⟩) (x:=v) (y:=aU (aO 7 (xA v)) (aU (lV (cP v) 0) (aO 4 (vN v)))) (by rw[rV,rV,show aL (.mk 15 [t]) 0=t from Z,aa7 I,lU cS,lU cS];simp only[cD];omega)
 ·rcases s with _|⟨⟨T,E⟩,s⟩
  cases D;obtain⟨w,q,rfl,hw,i⟩:=aK i;have f2:=bW hw.1;have O:(if W=15/\T=11/\cL (aL (.mk T E) 0)=4/\cL (aL (.mk T E) 1)=4 then fO (.mk 9 [.mk 11 [.mk W j,.mk W j]]::s)else br 5)=(r,0):=D;split at O;rotate_left;cases O;rename_i G;cases O;obtain⟨rfl,rfl,c3,c4⟩:=G;obtain⟨t,rfl,p⟩:=dD (bw V.1) bn;obtain⟨n,N,x,rfl,hn,ha,Q⟩:=pF V.2.1 V.2.2;have e:aA 86 F ⟨a,b,c,d,.mk 15 n N [] [x] [] []::w::q,C,g,u,m,K⟩=(if vN (lV (cP w) 0)<1\/vN (lV (cP w) 1)<1\/vN (lV (cP w) 0)+vN (lV (cP w) 1)≠n then bg ⟨a,b,c,d,q,C,g,u,m,K⟩ [cr []]else bg ⟨a,b,c,d,q,C,g,u,m,K⟩ [cr [aU (.mk 15 (vN (lV (cP w) 0)) N [] [x] [] []) (.mk 15 (vN (lV (cP w) 1)) N [] [x] [] [])]]):=by unfold aA;rw[Nw];rfl
  rw[e];split;exact x8 aeQ;refine x8 ?_;simp only[E5,rV,JC,cD];split<;>omega
 ·have O:(if W=11/\cL (aL (.mk W j) 0)=15/\cx (aL (.mk W j) 0) (aL (.mk W j) 1) then fO (.mk 9 [aL (.mk W j) 0]::s)else br 5)=(r,0):=D;split at O;rotate_left;cases O;rename_i G;obtain⟨rfl,c2,c3⟩:=G;obtain⟨⟨U1,tc⟩,t2,rfl,Q6,ok3⟩:=dr (bw V.1) bn;cases O;have M:U1=15:=c2;subst M;obtain rfl:Ty.mk 15 tc=t2:=(eD _ _).1 c3;obtain⟨t,rfl,p⟩:=dD Q6 bn;obtain⟨X,Y,rfl,hX,hY⟩:=mL V.2.1 V.2.2;obtain⟨J,a2,x,rfl,ω,ψ,Q⟩:=pF hX.1 hX.2;obtain⟨A,H,y,rfl,χ,υ,hy⟩:=pF hY.1 hY.2;have DW:=dP (jw (nw V.1)).2 (show Ty.mk 15 [t]∈aQ (.mk 11 [.mk 15 [t],.mk 15 [t]])by simp[aQ]);have SA:=dP (jw DW).2 (show t∈aQ (.mk 15 [t])by simp[aQ]);have I:fZ t:=by have f:=B8 V.1;simp only[I5,JD,aaI]at f;have h2:jG [t]:=(by simpa using f.2.1.1);simpa[jG]using h2
  have e:aA 87 F ⟨a,b,c,d,aU (.mk 15 J a2 [] [x] [] []) (.mk 15 A H [] [y] [] [])::q,C,g,u,m,K⟩=(if a2≠H\/ee x y≠0 then bg ⟨a,b,c,d,q,C,g,u,m,K⟩ [cr []]else if J>bL-A then(11,⟨a,b,c,d,q,C,g,u,m,K⟩)else bg ⟨a,b,c,d,q,C,g,u,m,K⟩ [cr [.mk 15 (J+A) a2 [] [x] [] []]]):=by unfold aA;rw[Nx];rfl
  rw[e];split;exact x8 aeQ;rename_i c5;split;exact adN bn;refine x8 ?_;obtain rfl:a2=H:=by omega
  obtain rfl:x=y:=(AZ x y y t I SA Q.1 hy.1 hy.1).zero.1 ai;simp only[E5,rV,JC,cD,show aL (.mk 11 [.mk 15 [t],.mk 15 [t]]) 0=Ty.mk 15 [t]from rfl];split<;>omega
 rcases s with _|⟨⟨T,E⟩,_|⟨⟨T3,τ⟩,s⟩⟩
 cases D;cases D;obtain⟨w,q,rfl,hw,i⟩:=aK i;obtain⟨z,q,rfl,hz,i⟩:=aK i;obtain⟨x,rfl,Q,rfl⟩:=B7 hf bn;have O:(if T=5/\T3=7/\cx (.mk W j) (aM x).1/\gk (.mk W j) then fO (.mk 8 []::s)else br 5)=(r,0):=D;split at O;rotate_left;cases O;rename_i G;cases O;have et:=(eD _ _).1 G.2.2.1;unfold aA;rw[Ny];exact x8 (S:=⟨a,b,c,d,q,C,g,u,m,K⟩) (x := .mk 8 (vN w) (vN z) [] [v] [(aM x).1] []) (by rw[agN,<- et];simp only[cD];omega)
def RV{P S N}{K:L (Γ->CR)}{M s}{r:Γ×Bool}(p:P<=63/\P≠52/\P≠55/\P≠58/\P≠60\/69<=P/\P≠84)(hf:bB P N=some M)(Y:dj s S.st)(C:r.2=false)(D:mJ P N K M s=(r,0)):SW φ s S.st r.1 (aA P N S):=by
 have T:¬P<40:=by intro h;unfold bB at hf;rw[if_pos (.inl h)]at hf;cases hf
 unfold mJ at D;by_cases G:P<=44;rw[if_pos G]at D;exact adO ai hf Y D;rw[if_neg G]at D;by_cases u:P=45;rw[if_pos u]at D;split at D;rename_i Q;subst u;cases D;exact qI (λl W=>ue W _) ⟨_,aa6 Q.2,by rw[Oz];rfl⟩;cases D;rw[if_neg u]at D;by_cases U:P<=58;rw[if_pos U]at D;by_cases c4:P=47\/P=48\/P=49;exact abd c4 Y D;exact abc ai Y D;rw[if_neg U]at D;by_cases c4:P<=63;rw[if_pos c4]at D;exact abe ai hf Y D;rw[if_neg c4,if_neg (show ¬P<=68 by omega)]at D;by_cases B:P<=72\/P>=93
 ·rw[if_pos B]at D;have O:P<=95:=by apply aip;intro h;unfold eU at D;rw[if_neg ai,if_neg ai,if_neg ai,if_pos ai]at D;cases D
  have e:(if P>=93 then 1 else 2)=bP P:=by rcases(show P=69\/P=70\/P=71\/P=72\/P=93\/P=94\/P=95 by omega)with rfl|rfl|rfl|rfl|rfl|rfl|rfl<;>decide +kernel
  have J:=abb (φ:=φ) D;rw[e]at J;refine qI (λl W=>?_) J;unfold rU;rw[if_neg G,if_neg ai,if_neg ai,if_neg c4,if_pos B];exact aba _ _ _
 rw[if_neg B]at D;by_cases V:P<=83;rw[if_pos V]at D;refine qI (λl W=>?_) (X0 C D);unfold rU;rw[if_neg G,if_neg ai,if_neg ai,if_neg c4,if_neg B,if_pos V];exact agM _ _ _ _;rw[if_neg V]at D;exact abf ai hf Y D
end
section
variable {φ:Int->Ty->Vl->Bool}{pr:Γ×Bool}
def Yu(φ:Int->Ty->Vl->Bool)(pr:Γ×Bool):List iH->Γ->Nat->Prop
 |[],s,_=>pr=(s,false)
 |F::t,s,w=>∃Y U,Ad (F.code.drop F.pos) s Y U/\(U=false ->
   (F.fin=0/\Yu φ pr t Y w) \/
   (F.fin=1/\∃u V,dj u F.aside.reverse/\cD φ F.aside.reverse u+V<=w/\Yu φ pr t (u++Y) V) \/
   (F.fin=2/\∃t0 u V,Y=[t0]/\dj u F.aside.reverse/\cD φ F.aside.reverse u+V<=w/\Yu φ pr t (t0::u) V) \/
   (F.fin=3/\∃e V,(∀x∈F.aside,Fit e x)/\eP φ F.aside e+V<=w/\(∃M C,Ad F.code (e::Y) M C/\(C=false->M=Y))/\Yu φ pr t Y V) \/
   (F.fin=4/\∃a O,Y=a::O/\(∃M C,Ad F.code O M C/\(C=false->M=a::O))/\Yu φ pr t O w))
def abg{F t s n w}(h:Yu φ pr (F::t) s w)(I:F.code[F.pos]?=some n):∃r,gf n s=(r,0)/\r.1.all bA/\(r.2=false->Yu φ pr ({F with pos:=F.pos+1}::t) r.1 w):=by
 obtain⟨Y,U,M,W⟩:=h;obtain⟨T,O⟩:=List.getElem?_eq_some_iff.1 I;have e:F.code.drop F.pos=n::F.code.drop (F.pos+1):=by rw[ajF T,O]
 rw[e]at M;obtain⟨r,S,Q,B,V⟩:=RA M;refine⟨r,S,B,λG=>⟨Y,U,?_,W⟩⟩;show bU (F.code.drop (F.pos+1)) (r.1,false)=_;rw[<- G];exact V
def JE{C c p}{r:Γ×Bool}{w}(U:(bU c (p,false)).2=0)(V:(bU c (p,false)).1.2=false->r=(bU c (p,false)).1)(h:r.2=false->Yu φ pr C r.1 w):Yu φ pr (⟨c,0,0,[]⟩::C) p w:=by refine⟨_,_,rM U,λhf => .inl ⟨rfl,?_⟩⟩;rw[V hf]at h;exact h hf
def uf(φ:Int->Ty->Vl->Bool)(C:List iH)(st:Ξ)(s:Γ)(r:Γ×Bool)(o:MR):Prop :=
 o.1=0->∃F p K,o.2.fr=F::C/\dj p o.2.st/\cD φ o.2.st p+K<=cD φ st s/\∀pr w,(r.2=false->Yu φ pr C r.1 w)->Yu φ pr (F::C) p (K+w)
def rD{S:bM}{st s c}{l:Ξ}{p}{r:Γ×Bool}(U:(bU c (p,false)).2=0)(V:(bU c (p,false)).1.2=false->r=(bU c (p,false)).1)
  (M:dj p (l.reverse++S.st))(q:cD φ (l.reverse++S.st) p<=cD φ st s):uf φ S.fr st s r (bg (dZ S c 0 []) l):=by
 intro C;rcases sF l S.st with h1|⟨h1,Y,B⟩
 exact ahb;refine⟨⟨c,0,0,[]⟩,p,0,Z,?_,?_,λpr w h=>by rw[ahr];exact JE U V h⟩;show dj _ (nQ l S.st).2;rw[Y];exact M;show cD φ (nQ l S.st).2 _+0<=_;rw[Y];exact q
def x9{S st s c p}{r:Γ×Bool}(U:(bU c (p,false)).2=0)(V:(bU c (p,false)).1.2=false->r=(bU c (p,false)).1)
  (M:dj p S.st)(q:cD φ S.st p<=cD φ st s):uf φ S.fr st s r (0,dZ S c 0 []) :=
 λ_=>⟨⟨c,0,0,[]⟩,p,0,Z,M,q,λpr w h=>by rw[ahr];exact JE U V h⟩
def ON{S F z s}{r:Γ×Bool}(hf:bB 52 F=some z)(I:dj s S.st)(D:dh 52 (b8 F) z s=(r,0)):uf φ S.fr S.st s r (aA 52 F S):=by
 obtain⟨a,b,c,d,st,C,g,u,m,K⟩:=S;simp only at I;obtain⟨B,q1,A,G,p,o,j,U,rfl,rfl⟩:=ve hf bn;cases s with
 |nil=>cases D
 |cons t s =>
 obtain⟨v,q,rfl,J,y⟩:=aK I;have V:=bW J.1;have N:(if cL t=12 then cJ (bU G (aL t 0::s,false)) (bU U (aL t 1::s,false))else br 5)=(r,0):=D;split at N;rotate_left;cases N;rename_i W;obtain⟨T,i⟩:=t;simp only[cL]at W;subst W;obtain⟨t1,f,rfl,FW,Q6⟩:=dr (bw V.1) bn;obtain⟨x,O,Y⟩:=N7 V.2.1 V.2.2;obtain⟨Q,P⟩:=nD N;obtain⟨M,H⟩:=nE N;have E:=J.2;rcases O with ⟨rfl,O⟩|⟨rfl,O⟩
 all_goals simp only[aG,aH,bf,aP,aav]at E
 unfold aA;rw[Du];exact rD (S:=⟨a,b,c,d,q,C,g,u,m,K⟩) (l:=[x]) Q P ⟨⟨eX (fQ V.1 _ adq) ⟨O,Y⟩,ai⟩,y⟩ (by rw[cD,aeW];exact acd _);unfold aA;rw[Du];exact rD (S:=⟨a,b,c,d,q,C,g,u,m,K⟩) (l:=[x]) M H ⟨⟨eX (fQ V.1 _ adq) ⟨O,Y⟩,ai⟩,y⟩ (by rw[cD,aeX];exact acd _)
def OO{S F z s}{r:Γ×Bool}(hf:bB 55 F=some z)(I:dj s S.st)(D:dh 55 (b8 F) z s=(r,0)):uf φ S.fr S.st s r (aA 55 F S):=by
 obtain⟨a,b,c,d,st,C,g,u,m,K⟩:=S;simp only at I;obtain⟨B,q1,A,G,p,o,j,U,rfl,rfl⟩:=ve hf bn;cases s with
 |nil=>cases D
 |cons t s =>
 obtain⟨v,q,rfl,J,y⟩:=aK I;have V:=bW J.1;have O:(if cL t=9 then cJ (bU G (s,false)) (bU U (aL t 0::s,false))else br 5)=(r,0):=D;split at O;rotate_left;cases O;rename_i W;obtain⟨T,i⟩:=t;simp only[cL]at W;subst W;obtain⟨t1,rfl,f⟩:=dD (bw V.1) bn;obtain⟨Q,P⟩:=nD O;obtain⟨N,M⟩:=nE O;have H:=J.2;rcases Ds V.2.1 V.2.2 with rfl|⟨x,rfl,E,Y⟩
 unfold aA;rw[GW];exact rD (S:=⟨a,b,c,d,q,C,g,u,m,K⟩) (l:=[]) Q P y Gq;simp only[cr,aG,aH,bf,aP,aav]at H;unfold aA;rw[GW];exact rD (S:=⟨a,b,c,d,q,C,g,u,m,K⟩) (l:=[x]) N M ⟨⟨eX (fQ V.1 _ adq) ⟨E,Y⟩,ai⟩,y⟩ (by rw[cD,E5];exact acd _)
def OP{S F z s}{r:Γ×Bool}(hf:bB 58 F=some z)(I:dj s S.st)(D:dh 58 (b8 F) z s=(r,0)):uf φ S.fr S.st s r (aA 58 F S):=by
 obtain⟨a,b,c,d,st,C,g,u,m,K⟩:=S;simp only at I;obtain⟨B,q1,p,G,j,i,f,Q,rfl,rfl⟩:=ve hf bn;cases s with
 |nil=>cases D
 |cons t s =>
 obtain⟨v,q,rfl,J,y⟩:=aK I;have V:=bW J.1;have O:(if cL t=10 then cJ (bU G (aL t 0::t::s,false)) (bU Q (s,false))else br 5)=(r,0):=D;split at O;rotate_left;cases O;rename_i U;obtain⟨T,ts⟩:=t;simp only[cL]at U;subst U;obtain⟨t1,rfl,FW⟩:=dD (bw V.1) bn;obtain⟨P,N⟩:=nD O;obtain⟨M,H⟩:=nE O;have E:=J.2;obtain⟨l,rfl,A,Y,W⟩:=oT V.2.1 V.2.2;cases l with
 |nil =>
  unfold aA;rw[Dv];exact x9 (S:=⟨a,b,c,d,q,C,g,u,m,K⟩) M H y Gq
 |cons x o =>
  simp only[aG,aH,bf,aP,aav]at E;simp only[aS,aaI]at Y;simp only[eo,aaI]at W;simp only[aat]at A;unfold aA;rw[Dv];exact rD (S:=⟨a,b,c,d,q,C,g,u,m,K⟩) (l:=[.mk 10 0 0 [] o [] [],x]) P N ⟨⟨eX (fQ V.1 _ adq) ⟨Y.1,W.1⟩,ai⟩,⟨eX V.1 (Dq ai Y.2 W.2),aet⟩,y⟩ (by show wT φ x t1+(wT φ (.mk 10 0 0 [] o [] []) (.mk 10 [t1])+cD φ q s)<=_;simp only[cD,OM,eP];omega)
def abh{S F z s}{r:Γ×Bool}(hf:bB 64 F=some z)(Y:dj s S.st)(D:dY 64 F (b8 F) z s=(r,0)):uf φ S.fr S.st s r (aA 64 F S):=by
 obtain⟨a,b,c,d,st,C,g,u,m,K⟩:=S;simp only at Y;obtain⟨I,q1,E,G,H,B,A,V,rfl,rfl⟩:=ve hf bn;cases s with
 |nil=>cases D
 |cons t s =>
 obtain⟨v,q,rfl,J,y⟩:=aK Y;have U:=bW J.1;have O:(if cL t=2 then cJ (bU G (s,false)) (bU V (s,false))else br 5)=(r,0):=D;split at O;rotate_left;cases O;rename_i W;obtain⟨T,x⟩:=t;simp only[cL]at W;subst W;obtain⟨Q,P⟩:=nD O;obtain⟨N,M⟩:=nE O;rcases Rw U.2.1 with rfl|rfl
 unfold aA;rw[GX];exact x9 (S:=⟨a,b,c,d,q,C,g,u,m,K⟩) N M y Gq;unfold aA;rw[GX];exact x9 (S:=⟨a,b,c,d,q,C,g,u,m,K⟩) Q P y Gq
def UR{S F z s}{r:Γ×Bool}(hf:bB 60 F=some z)(I:dj s S.st)(D:jc 60 (b8 F) z s=(r,0)):uf φ S.fr S.st s r (aA 60 F S):=by
 obtain⟨a,b,c,d,st,C,g,u,m,K⟩:=S;simp only at I;obtain⟨p,q1,o,G,rfl,rfl⟩:=Cd hf bn;cases s with
 |nil=>cases D
 |cons t s =>
 obtain⟨v,q,rfl,J,j⟩:=aK I;have V:=bW J.1;have N:(if cL t=10\/cL t=13 then cJ (bU G ((if cL t=13 then .mk 11 (aQ t)else aL t 0)::s,false)) (fO s)else br 5)=(r,0):=D;split at N;rotate_left;cases N;rename_i M;obtain⟨H,E⟩:=nD N;obtain⟨m3,i⟩:=nE N;have f:r=(s,false):=i Z;subst f;have U:∃k y e,v = .mk k 0 0 [] y [] []/\(∀x∈y,Fit e x)/\(if cL t=13 then .mk 11 (aQ t)else aL t 0)=e/\wT φ v t=eP φ y e:=by
  obtain⟨T,ts⟩:=t;simp only[cL]at M;have B:=J.2;rcases M with rfl|rfl
  obtain⟨t1,rfl,FW⟩:=dD (bw V.1) bn;obtain⟨l,rfl,yF,Y,W⟩:=oT V.2.1 V.2.2;simp only[aG,bf,aP,aav]at B;exact⟨10,l,t1,Z,λx O=>⟨eX (fQ V.1 _ cS) ⟨(eI _ l).1 Y x O,rq W O⟩,sy⟩,Z,OM⟩;obtain⟨t1,t2,rfl,FW,Q6⟩:=dr (bw V.1) bn;obtain⟨l,rfl,yF,Y,ω,W⟩:=va V.2.1 V.2.2;simp only[aG,bf,aP,aav]at B;exact⟨13,l,.mk 11 [t1,t2],Z,λx O=>⟨eX (Ca V.1) ⟨(eI _ l).1 Y x O,rq W O⟩,sy⟩,Z,Wo⟩
 obtain⟨k,y,A,rfl,Q,he,P⟩:=U;rw[he]at H E;have e:aA 60 [.mk 3 p q1 o G] ⟨a,b,c,d,.mk k 0 0 [] y [] []::q,C,g,u,m,K⟩=(0,sE ⟨a,b,c,d,q,C,g,u,m,K⟩ G 3 y):=by unfold aA;rw[VT];rfl
 rw[e];refine λ_=>⟨⟨G,G.length,3,y⟩,s,eP φ y A,Z,j,by show cD φ q s+_<=wT φ _ t+cD φ q s;rw[P];omega,λpr w h=>⟨s,false,adz,λ_ => .inr (.inr (.inr (.inl ⟨Z,A,w,Q,acd _,⟨_,_,rM H,λhf=>?_⟩,h Z⟩)))⟩⟩;have:=E hf;rw[<- this]
def US{S M F s}{r:Γ×Bool}(hf:bB 65 M=some F)(I:dj s S.st)(D:dY 65 M (b8 M) F s=(r,0)):uf φ S.fr S.st s r (aA 65 M S):=by
 obtain⟨a,b,c,d,st,fr,g,u,m,K⟩:=S;simp only at I;obtain⟨W,q1,E,G,rfl,rfl⟩:=Cd hf bn;cases s with
 |nil=>cases D
 |cons t s =>
 obtain⟨v,q,rfl,J,B⟩:=aK I;have Q:=bW J.1;have O:(if cL t=2 then(if(cJ (bU G (s,false)) (fO (t::s))).2≠0 then br (cJ (bU G (s,false)) (fO (t::s))).2 else fO s)else br 5)=(r,0):=D;split at O;rotate_left;cases O;rename_i P;split at O;rename_i Y;exact absurd (ahm Prod.snd O) Y;rename_i Y;simp only[ne_eq,ahI]at Y;cases O;obtain⟨U,V⟩:=nD (a:=bU G (s,false)) (b:=fO (t::s)) (r:=(cJ (bU G (s,false)) (fO (t::s))).1) agu;obtain⟨N,T⟩:=nE (a:=bU G (s,false)) (b:=fO (t::s)) (r:=(cJ (bU G (s,false)) (fO (t::s))).1) agu;have C:=T Z;rw[C]at V;have e:aA 65 [.mk 3 W q1 E G] ⟨a,b,c,d,v::q,fr,g,u,m,K⟩=(0,{sE ⟨a,b,c,d,q,fr,g,u,m,K⟩ G 4 []with st:=v::q}):=by unfold aA;rw[VU];rfl
 rw[e];refine λ_=>⟨⟨G,G.length,4,[]⟩,t::s,0,Z,⟨J,B⟩,acd _,λpr w h=>⟨t::s,false,acC,λ_ => .inr (.inr (.inr (.inr ⟨Z,t,s,Z,⟨_,_,rM U,λhf=>?_⟩,by rw[ahr];exact h Z⟩)))⟩⟩;have:=V hf;rw[<- this];rfl
def X2{S U T s}{r:Γ×Bool}(hf:bB 68 U=some T)(I:dj s S.st)(D:dY 68 U (b8 U) T s=(r,0)):uf φ S.fr S.st s r (aA 68 U S):=by
 obtain⟨a,b,c,d,st,C,g,u,m,K⟩:=S;simp only at I;obtain⟨W,q1,E,G,rfl,rfl⟩:=Cd hf bn;cases s with
 |nil=>cases D
 |cons t s =>
 obtain⟨v,q,rfl,J,Q⟩:=aK I;have V:=bW J.1;have O:(if(bU G (s,false)).2≠0 then br (bU G (s,false)).2 else if(bU G (s,false)).1.2=true then br 1 else fO (t::(bU G (s,false)).1.1))=(r,0):=D;split at O;rename_i Y;exact absurd (ahm Prod.snd O) Y;rename_i Y;simp only[ne_eq,ahI]at Y;split at O;cases O;cases O;unfold aA;rw[VW];exact λ_=>⟨⟨G,0,1,[v]⟩,s,wT φ v t,Z,Q,by show cD φ q s+_<=wT φ v t+cD φ q s;omega,λpr w h=>⟨_,_,rM Y,λ_ => .inr (.inl ⟨Z,[t],w,⟨J,trivial⟩,by show wT φ v t+0+w<=_;omega,h Z⟩)⟩⟩
def UT{S F z s}{r:Γ×Bool}(hf:bB 67 F=some z)(I:dj s S.st)(D:dY 67 F (b8 F) z s=(r,0)):uf φ S.fr S.st s r (aA 67 F S):=by
 obtain⟨a,b,c,d,st,C,g,u,m,K⟩:=S;simp only at I;rcases s with _|⟨t1,_|⟨⟨T,y⟩,s⟩⟩
 cases D;cases D;obtain⟨v,A,rfl,J,E⟩:=aK I;obtain⟨w,q,rfl,W,hq⟩:=aK E;have G:=bW W.1;have O:(if T=14/\cx t1 (aL (.mk T y) 0) then fO (aL (.mk T y) 1::s)else br 5)=(r,0):=D;split at O;rotate_left;cases O;rename_i B;obtain⟨rfl,V⟩:=B;obtain⟨t,U,rfl,P,N⟩:=dr (bw G.1) bn;cases O;obtain rfl:t1=t:=(eD _ _).1 V;obtain⟨code,rfl,M,Q,Y,H⟩:=N5 G.2.1 G.2.2;unfold aA;rw[N4];exact λ_=>⟨⟨code,0,2,q.reverse⟩,[t1],cD φ q s,Z,⟨J,trivial⟩,by show wT φ v t1+0+_<=wT φ v t1+(_+cD φ q s);omega,λpr x h=>⟨_,_,rM Q,λhf => .inr (.inr (.inl ⟨Z,U,s,x,Y hf,WT,by show cD φ q.reverse.reverse s+x<=_;rw[ajI];exact acd _,h Z⟩))⟩⟩
def Flat(P:Int):Prop:=P≠52/\P≠55/\P≠58/\P≠60/\P≠64/\P≠65/\P≠67/\P≠68
theorem aiZ{S:bM}{c}[Decidable c]{a b:MR}(Y:c->a.2.fr=S.fr)(V:¬c->b.2.fr=S.fr):(if c then a else b).2.fr=S.fr:=by grind
def abi{P args S}(Y:Flat P):(aA P args S).2.fr=S.fr:=by
 obtain⟨W,V,U,T,Q,O,N,M⟩:=Y;unfold aA;cases jx (bP P) S.st with
 |none=>rfl
 |some p =>
  obtain⟨l,q⟩:=p;unfold rU Rx Jd wU Ag vf FZ Ah;dsimp only
  repeat' (first|rfl|(exfalso;omega)|refine aiZ (S:=S) (λ_=>?_) (λ_=>?_)|split)
def X3{S U}{codes:L (Γ->CR)}{types s}{r:Γ×Bool}(D:dY 66 U codes types s=(r,0)):SW φ s S.st r.1 (aA 66 U S):=by
 have V:r.1 = .mk 14 types::s:=by have O:(if dH (cw (U.getD 2 rX))=true then br 5 else if(cJ (dQ codes 2 [types.getD 0 kg]) (fO [types.getD 1 kg])).2≠0 then br (cJ (dQ codes 2 [types.getD 0 kg]) (fO [types.getD 1 kg])).2 else fO (.mk 14 types::s))=(r,0):=D;split at O;cases O;split at O;rename_i Y;exact absurd (ahm Prod.snd O) Y;cases O;rfl
 rw[V];unfold aA;rw[VV];exact x8 (S:=S) (x := .mk 14 0 0 [] [] [aT U 0,aT U 1] (aC U 2)) (by rw[lU cS];omega)
def JF(P Y S):(aA P Y S).2.aj=S.aj\/P=84:=by
 unfold aA;cases jx (bP P) S.st with
 |none=>exact .inl Z
 |some p=>exact(LK P Y p.1 {S with st:=p.2}).2.imp id (·.1)
def MW(φ:Int->Ty->Vl->Bool)(pr:Γ×Bool)(c B:Int)(S:bM):Prop:=∃s w,dj s S.st/\Yu φ pr S.fr s w/\((cD φ S.st s+w:Nat):Int)-c*S.aj<=B
def MC(φ:Int->Ty->Vl->Bool)(p c:Int):Prop:=c=1\/c=0/\∀t v,φ p t v=false
def abj{c B S F t}(i:MW φ pr c B S)(h:S.fr=F::t)(f:F.pos=F.code.length)(C:(jP S F t).1=0):MW φ pr c B (jP S F t).2:=by
 obtain⟨s,w,M,ru,Q⟩:=i;obtain⟨a,b,r,d,Y,fr,g,u,m,K⟩:=S;obtain⟨code,pos,fin,P⟩:=F;simp only at *;subst h;subst f;obtain⟨s',f',G,f5⟩:=ru;simp only[ua]at G;have A:((s,false),(0:Int))=((s',f'),0):=G;simp only[ajP,akb]at A;obtain⟨rfl,rfl⟩:=A;rcases f5 rfl with ⟨rfl,k⟩|⟨rfl,x,z,V,E,k⟩|⟨rfl,t0,x,z,V,E,T,k⟩|⟨rfl,e,z,V,E,⟨H,W,T,D⟩,k⟩|⟨rfl,a0,O,V,⟨H,W,D,p⟩,k⟩
 exact⟨s,w,M,k,Q⟩;refine⟨x++s,z,Ai V M,k,?_⟩;show((cD φ (P.reverse++Y) (x++s)+z:Nat):Int)-c*m<=B;rw[DF _ _ _ _ (bH V).symm];have ω:cD φ P.reverse x+z<=w:=E;omega;subst V;obtain⟨v,q,rfl,j,o⟩:=aK M;refine⟨t0::x,z,⟨j,E⟩,k,?_⟩;show((wT φ v t0+cD φ P.reverse x+z:Nat):Int)-c*m<=B;simp only[cD]at T Q;omega
 ·cases P with
  |nil =>
   refine⟨s,z,M,k,?_⟩;show((cD φ Y s+z:Nat):Int)-c*m<=B;simp only[eP]at E;omega
  |cons x q =>
   have N:jP ⟨a,b,r,d,Y,⟨code,code.length,3,x::q⟩::t,g,u,m,K⟩ ⟨code,code.length,3,x::q⟩ t=(if g<=u then(12,⟨a,b,r,d,Y,⟨code,code.length,3,x::q⟩::t,g,u,m,K⟩)else(0,⟨a,b,r,d,x::Y,⟨code,0,3,q⟩::t,g,u+1,m,K⟩)):=rfl;rw[N]at C ⊢;split at C;cases C;rename_i J;rw[if_neg J];refine⟨e::s,eP φ q e+z,⟨V x cS,M⟩,⟨H,W,T,λhf=>?_⟩,?_⟩;rw[D hf];exact .inr (.inr (.inr (.inl ⟨Z,e,z,λy hy=>V y (by simp[hy]),acd _,⟨H,W,T,D⟩,k⟩)));show((wT φ x e+cD φ Y s+(eP φ q e+z):Nat):Int)-c*m<=B;simp only[eP]at E;omega
 subst V;obtain⟨v,q,rfl,j,o⟩:=aK M;have N:jP ⟨a,b,r,d,v::q,⟨code,code.length,4,P⟩::t,g,u,m,K⟩ ⟨code,code.length,4,P⟩ t=(if vN v=1 then(if g<=u then(12,⟨a,b,r,d,q,⟨code,code.length,4,P⟩::t,g,u,m,K⟩)else(0,⟨a,b,r,d,q,⟨code,0,4,P⟩::t,g,u+1,m,K⟩))else(0,⟨a,b,r,d,q,t,g,u,m,K⟩)):=rfl;rw[N]at C ⊢;have U:((cD φ q O+w:Nat):Int)-c*m<=B:=by simp only[cD]at Q;omega
 split at C;rename_i I;rw[if_pos I];split at C;cases C;rename_i J;rw[if_neg J];exact⟨O,w,o,⟨H,W,D,λhf => .inr (.inr (.inr (.inr ⟨Z,a0,O,p hf,⟨H,W,D,p⟩,k⟩)))⟩,U⟩;rename_i I;rw[if_neg I];exact⟨O,w,o,k,U⟩
def agO{c B S}{s:Γ}{F t}(hc:MC φ S.self c)(hW:MW φ pr c B S)(I:MT pr S s)(h:S.fr=F::t)(hL:left S<=1000000000)(C:(r9 S F t).1=0):MW φ pr c B (r9 S F t).2:=by
 unfold r9 at C ⊢;by_cases q:F.pos=F.code.length;rw[if_pos q]at C ⊢;exact abj hW h q C;rw[if_neg q]at C ⊢;have ru:=I.ft;rw[h]at ru;obtain⟨f1,f2,f3,_⟩:=ru;have p:F.pos<F.code.length:=by omega
 have G:F.code[F.pos]?=some F.code[F.pos]:=ahl p;generalize F.code[F.pos]=n at G;obtain⟨T,N,P,sg,args⟩:=n;rw[G]at C ⊢;dsimp only at C ⊢;obtain⟨H,w,M,V,E⟩:=hW;rw[h]at V;obtain⟨r,y,h2,x⟩:=abg V G;by_cases D:T=3;rw[if_pos D];subst D;simp only[gf,if_true]at y;exact⟨H,w,M,JE (r:=r) (by rw[y]) (λ_=>by rw[y]) x,E⟩;rw[if_neg D]at C ⊢;by_cases o:T≠2;rw[if_pos o]at C;cases C;rw[if_neg o]at C ⊢;by_cases hg:S.bC<=S.used;rw[if_pos hg]at C;cases C;rw[if_neg hg]at C ⊢;simp only[gf]at y;rw[if_neg D,if_neg o]at y;cases hf:bB P args with
 |none=>rw[hf]at y;cases y
 |some types =>
 rw[hf]at y;have u:mJ P args (b8 args) types H=(r,0):=y;have Y:=Dt S.fr;have Ka:left S=(S.bC-S.used).toNat*900+Bf S.fr:=rfl;rw[h]at Y Ka;simp only[aat]at Y;obtain⟨g1,g2⟩:=qk f2 (acm G);have ψ:H.length=s.length:=(bH M).trans (bH I.fit).symm;have W:({gU S F t with used:=S.used+1}:bM).fr={F with pos:=F.pos+1}::t:=rfl;have U:({gU S F t with used:=S.used+1}:bM).st=S.st:=rfl;have Q:({gU S F t with used:=S.used+1}:bM).aj=S.aj:=rfl;have m:({gU S F t with used:=S.used+1}:bM).self=S.self:=rfl;have j:qP ({gU S F t with used:=S.used+1}:bM).self ({gU S F t with used:=S.used+1}:bM).jr ({gU S F t with used:=S.used+1}:bM).js ({gU S F t with used:=S.used+1}:bM).balance:=I.env;generalize ({gU S F t with used:=S.used+1}:bM)=z at *;have O:=I.aaG;rw[<- U,<- Q]at E;rw[<- U]at M;rw[<- Q]at O;rw[<- m]at hc;have k2:=(Jb pr P z j O N sg args g1 types H r hf M ai (by rw[W];simp only[aat];omega) h2 u).2;have K:=(JF P args z).resolve_right;by_cases A:Flat P
 ·
  have hfr:=abi (args:=args) (S:=z) A;obtain⟨o1,i,f,d⟩:(aA P args z).1=0/\(aA P args z).2.fr=z.fr/\dj r.1 (aA P args z).2.st/\r.2=false:=by
   rcases k2 with (k|k|k)|⟨_,F2,s2,k,_⟩|⟨k,_⟩
   exact k;rw[C]at k;cases k;rw[C]at k;cases k;rw[hfr]at k;exact absurd (ahm List.length k) cS;rw[C]at k;cases k
  refine⟨r.1,w,f,by rw[i,W];exact x d,?_⟩;by_cases J:P=84
  ·subst J;obtain⟨t1,t2,t3⟩:=X1 (φ:=φ) (S:=z) (args:=args) M u C;rcases hc with rfl|⟨rfl,hz⟩
   rw[Int.one_mul]at E ⊢;omega;have:=t3 hz;rw[Int.zero_mul]at E ⊢;omega
  have b:(aA P args z).2.aj=z.aj:=K λk=>J k;rw[b];have:SW φ H z.st r.1 (aA P args z):=by by_cases a:P=66;subst a;exact X3 (codes:=b8 args) (types:=types) u;obtain⟨e1,e2,e3,e4,e5,e6,e7,e8⟩:=A;exact RV ai hf M d u
  have:=this C;omega
 have ω:uf φ z.fr z.st H r (aA P args z):=by
  have hP:P=52\/P=55\/P=58\/P=60\/P=64\/P=65\/P=67\/P=68:=by unfold Flat at A;omega
  rcases hP with rfl|rfl|rfl|rfl|rfl|rfl|rfl|rfl
  exact ON hf M u;exact OO hf M u;exact OP hf M u;exact UR hf M u;exact abh hf M u;exact US hf M u;exact UT hf M u;exact X2 hf M u
 obtain⟨F2,s2,w2,i,f,d,o5⟩:=ω C;refine⟨s2,w2+w,f,by rw[i];exact o5 pr w (by rw[W];exact x),?_⟩;have b:(aA P args z).2.aj=z.aj:=K λk=>A (by subst k;unfold Flat;omega);rw[b];omega
def abk{c B}:∀(k)(S)(s:Γ),MC φ S.self c->MW φ pr c B S->MT pr S s->left S<k->left S<=1000000000->(kU k S).1=0->(cD φ (kU k S).2.st pr.1:Nat)-c*(kU k S).2.aj<=B
 |0,S,s,_,_,_,h,_,_=>absurd h (Nat.not_lt_zero _)
 |k+1,S,s,N,K,J,hk,I,C=>by
  cases u:S.fr with
  |nil =>
   rw[EX _ u];obtain⟨P,w,M,Y,T⟩:=K;rw[u]at Y;have e:pr=(P,false):=Y;rw[e];show((cD φ S.st P:Nat):Int)-c*S.aj<=B;omega
  |cons F t =>
   rw[Cg k u]at C ⊢;split at C;rename_i O;rw[if_pos O];have W:=Ch J u I;obtain⟨V,U,Q⟩:=Oo W O;exact abk k _ V (by rw[W.1.1];exact N) (agO N K J u I O) U ai ai C;rename_i O;exact absurd C O
end
def agQ{φ:Int->Ty->Vl->Bool}{a b c d k n s l g}(h:WU a b c d n s l)(u:VlS l)(N:0<=g/\g<=1000000)(D:MC φ a k)(C:(oh a b c d n s l g).code=0) :
  (cD φ (oh a b c d n s l g).st (jR n s).1.1:Nat)-k*(oh a b c d n s l g).aj<=(cD φ l s):=by
 have e:oh a b c d n s l g=oQ (pW a b c d n l g):=by unfold oh;exact if_pos h
 rw[e]at C ⊢;have Y:(pW a b c d n l g).1=0:=C;simp only[oQ,if_pos Y];have W:=xz h u N;obtain⟨Q,P,U,T⟩:=sq.1 h;obtain⟨O,M,G,S,V⟩:=sr Q;refine abk (φ:=φ) (pr:=(jR n s).1) (c:=k) (B:=(cD φ l s:Nat)) _ (yh a b c d (cw n) l g) s D ⟨s,0,W.fit,?_,by show((cD φ l s+0:Nat):Int)-k*0<=_;omega⟩ W (aid _) (AA h N) Y;rw[V]at Q ⊢;refine⟨_,_,rM Q,λhf => .inl ⟨Z,?_⟩⟩;show(bU (cw n) (s,false)).1=(_,false);rw[Prod.ext_iff];exact⟨Z,hf⟩
def NM(S:bM):Prop:=∀F∈S.fr,dH F.code=false
def E6:∀{l x},dH l=false->x∈l->Fi x=false
 |y::l,x,h,O=>by
  simp only[dH,aiw]at h;rcases List.mem_cons.1 O with rfl|O
  exact h.1;exact E6 h.2 O
def LZ{k N P}{S:Δ}{Y:Θ}(h:Fi (.mk k N P S Y)=false):¬(k=2/\P=84)/\dH Y=false:=by simp only[Fi,aiw,ajA]at h;exact h
def rE{Y}(h:dH Y=false)(i):dH (aC Y i)=false:=by
 unfold aC;cases H:Y[i]? with
 |none=>rw[aiC,H];rfl
 |some x =>
  rw[aiC,H];obtain⟨k,N,P,S,a⟩:=x;exact(LZ (E6 h (acm H))).2
def ug{c}[Decidable c]{a b:MR}(Y:c->NM a.2)(V:¬c->NM b.2):NM (if c then a else b).2:=by grind
def abl{S}(l)(h:NM S):NM (bg S l).2:=h
def qJ{S u F}(h:NM S)(e:u.fr=F::S.fr)(C:dH F.code=false):NM u:=λG K=>by
 rw[e]at K;rcases List.mem_cons.1 K with rfl|K
 exact C;exact h G K
def abm{P U S}(h:NM S)(W:dH U=false)(V:P=67->∀v w q,S.st=v::w::q->dH (Dz w)=false):NM (aA P U S).2:=by
 unfold aA;cases C:jx (bP P) S.st with
 |none=>exact h
 |some p =>
  obtain⟨l,q⟩:=p;have E:NM {S with st:=q}:=h;unfold rU;refine ug (λ_=>?_) (λG=>ug (λ_=>?_) (λu=>ug (λc=>?_) (λ_=>ug (λ_=>?_) (λ_=>ug (λ_=>?_) (λ_=>ug (λ_=>?_) (λ_=>?_))))))
  case refine_3 =>
   unfold wU;refine ug (λ_=>qJ E Z (rE W _)) (λ_=>ug (λ_=>qJ E Z (rE W _)) (λ_=>ug (λ_=>?_) (λ_=>ug (λ_=>qJ E Z (rE W _)) (λ_=>ug (λ_=>qJ E Z (rE W _)) (λ_=>ug (λ_=>qJ E Z (rE W _)) (λ_=>ug (λ_=>qJ E Z (rE W _)) (λ_=>ug (λ_=>abl _ E) (λ_=>?_))))))))
   ·cases cP (lV l 0)with
    |nil=>exact qJ E Z (rE W _)
    |cons x T=>exact qJ E Z (rE W _)
   obtain rfl:P=67:=(by omega);rw[N4]at C;rcases Y:S.st with _|⟨v,_|⟨w,r⟩⟩
   rw[Y]at C;cases C;rw[Y]at C;cases C;rw[Y]at C;cases C;exact qJ E Z (V Z v w _ Y)
  all_goals
   first|unfold Rx|unfold Jd|unfold Ag|unfold vf|unfold FZ|unfold Ah
   try dsimp only
   repeat' (first|exact abl _ E|exact E|refine ug (λ_=>?_) (λ_=>?_)|split)
def UU{S F t}(hf:S.fr=F::t)(h:NM S):NM (jP S F t).2/\(jP S F t).2.aj=S.aj:=by
 have A:dH F.code=false:=h F (by rw[hf];simp);have C:∀G∈t,dH G.code=false:=λG K=>h G (by rw[hf];simp[K]);have D:∀a b c,∀G∈(⟨F.code,a,b,c⟩::t:List iH),dH G.code=false:=λa b c G K=>by
  rcases List.mem_cons.1 K with rfl|K
  exact A;exact C G K
 unfold jP
 repeat' split
 all_goals exact⟨by first|exact C|exact h|exact D _ _ _,Z⟩
def adP{m:Γ×Bool}{S}{s:Γ}{F t}(W:NM S)(Q:MT m S s)(h:S.fr=F::t):NM (r9 S F t).2/\(r9 S F t).2.aj=S.aj:=by
 unfold r9;split;exact UU h W;have C:dH F.code=false:=W F (by rw[h];simp);have I:NM (gU S F t):=λG K=>by
  rcases List.mem_cons.1 K with rfl|K
  exact C;exact W G (by rw[h];simp[K])
 split;exact⟨W,Z⟩;rename_i Y N P j z O;obtain⟨E,J⟩:=LZ (E6 C (acm O));split;exact⟨qJ I Z J,Z⟩;split;exact⟨I,Z⟩;rename_i i;split;exact⟨I,Z⟩;refine⟨abm (S:={gU S F t with used:=S.used+1}) I J λe v w q p=>?_,(JF P z _).resolve_right λe=>E ⟨ai,e⟩⟩;subst e;obtain rfl:Y=2:=by omega
 have V:S.st=v::w::q:=p;have H:=Q.ft;rw[h]at H;obtain⟨r,x,_⟩:=A1 H O;simp only[gf]at x;rw[if_neg bn,if_neg bn]at x;cases hf:bB 67 z with
 |none=>rw[hf]at x;cases x
 |some y =>
 rw[hf]at x;have D:dY 67 z (b8 z) y s=(r,0):=x;have M:=Q.fit;rw[V]at M;rcases s with _|⟨t1,_|⟨⟨T,o⟩,s⟩⟩
 cases D;cases D;have u:(if T=14/\cx t1 (aL (.mk T o) 0) then fO (aL (.mk T o) 1::s)else br 5)=(r,0):=D;split at u;rename_i B;obtain⟨rfl,_⟩:=B;have U:=bW M.2.1.1;obtain⟨f,d,rfl,_,_⟩:=dr (bw U.1) bn;obtain⟨code,rfl,_,_,_,A⟩:=N5 U.2.1 U.2.2;exact A;cases u
def Wp{Q:Γ×Bool}:∀(k)(S)(s:Γ),NM S->MT Q S s->left S<=1000000000->(kU k S).2.aj=S.aj
 |0,S,s,_,_,_=>rfl
 |k+1,S,s,hN,T,P=>by
  cases u:S.fr with
  |nil=>rw[EX _ u]
  |cons F t =>
   rw[Cg k u];obtain⟨U,W⟩:=adP hN T u;split;rename_i O;obtain⟨Y,V,M⟩:=Oo (Ch T u P) O;rw[Wp k _ Y U V ai,W];exact W
def adQ{a b c d n s l g}(h:WU a b c d n s l)(u:VlS l)(N:0<=g/\g<=1000000)(I:dH (cw n)=false):(oh a b c d n s l g).aj=0:=by
 have e:oh a b c d n s l g=oQ (pW a b c d n l g):=by unfold oh;exact if_pos h
 rw[e];have Y:(pW a b c d n l g).2.aj=0:=Wp _ (yh a b c d (cw n) l g) s (λF C=>by rw[List.mem_singleton.1 C];exact I) (xz h u N) (AA h N);simp only[oQ,Y,ite_self]
end Go.Proofs
