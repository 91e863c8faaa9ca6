/- Tickets: -/
import Derived.Test.YtdnpapgijbhofaaGreatDoorRunANRt
import Derived.Test.YtdnpapgijbhofaaGreatDoorRunABRt
set_option linter.defProp false
set_option linter.unusedVariables false
set_option linter.unusedSimpArgs false
set_option maxHeartbeats 0
set_option maxRecDepth 100000
namespace Go.Proofs
open Go.cB
section
variable (φ : Int -> Ty -> Vl -> Bool)
mutual
def wT:Vl->Ty->Nat
 |.mk k n a s args types H,t =>
  if cq t=15 then(if φ a (aG t 0) (lV args 0)=true then n.toNat else 0)
  else if cq t=9\/cq t=10 then eW args (aG t 0)
  else if cq t=11 then cr args (aK t)
  else if cq t=12 then eW args (aG t n.toNat)
  else if cq t=13 then eW args (.mk 11 (aK t))
  else if cq t=8 then eW args (types.getD 0 iY)
  else 0
def eW:L Vl->Ty->Nat
 |[],_=>0
 |x::l,t=>wT x t+eW l t
def cr:L Vl->L Ty->Nat
 |x::l,t::r=>wT x t+cr l r
 |_,_=>0
end
end
section
variable {φ : Int -> Ty -> Vl -> Bool}
def rP(v:Vl)(t:Ty):wT φ v t=(if cq t=15 then(if φ (xA v) (aG t 0) (lV (di v) 0)=true then(vN v).toNat else 0)
  else if cq t=9\/cq t=10 then eW φ (di v) (aG t 0)
  else if cq t=11 then cr φ (di v) (aK t)
  else if cq t=12 then eW φ (di v) (aG t (vN v).toNat)
  else if cq t=13 then eW φ (di v) (.mk 11 (aK t))
  else if cq t=8 then eW φ (di v) ((GQ v).getD 0 iY)
  else 0):=by cases v;rw[wT];rfl
def F4:∀{l:L Ty}(i:Nat),oB rQ l=true->gT (l.getD i iY)=true
 |[],i,_=>by simp only[List.getD_nil];decide
 |t::l,0,h=>by simp only[oB,aak]at h;exact h.1
 |t::l,i+1,h=>by simp only[oB,aak]at h;exact F4 (l:=l) i h.2
mutual
def xP:∀(v:Vl)(t:Ty),gT t=true->wT φ v t=0
 |.mk k n a s args types H,.mk T ts,h=>by
  unfold wT;by_cases W:T=14;subst W;simp[cq];have O:rQ T=true/\oB rQ ts=true:=by simpa[gT,wH,W]using h
  have Y:T≠15:=by rintro rfl;exact absurd O.1 cc
  have V:T≠8:=by rintro rfl;exact absurd O.1 cc
  have I:∀i,eW φ args (ts.getD i iY)=0:=λi=>AA args _ (F4 i O.2);have U:=AA args (.mk 11 ts) (by simpa[gT,wH,O.2]using (by decide:rQ 11=true));have S:=F5 args ts O.2;simp only[cq,aK,aG,I,S,U,Y,V,acd,ite_self]
def AA:∀(l:L Vl)(t:Ty),gT t=true->eW φ l t=0
 |[],_,_=>rfl
 |x::l,t,h=>by simp only[eW,xP x t h,AA l t h]
def F5:∀(l:L Vl)(r:L Ty),oB rQ r=true->cr φ l r=0
 |[],_,_=>by simp only[cr]
 |_::_,[],_=>by simp only[cr]
 |x::l,t::r,h=>by simp only[oB,aak]at h;simp only[cr,xP x t h.1,F5 l r h.2]
end
mutual
def AB{p:Int->Bool}(D:∀T,p T=true->rQ T=true):∀t,qU p t=true->gT t=true
 |.mk T l,h=>by simp only[qU,aak]at h;unfold gT wH;split;rfl;rw[D T h.1,DR D l h.2];rfl
def DR{p:Int->Bool}(D:∀T,p T=true->rQ T=true):∀l,mo p l=true->oB rQ l=true
 |[],_=>rfl
 |t::l,h=>by simp only[mo,aak]at h;have h1:=AB D t h.1;unfold gT at h1;simp only[oB,h1,DR D l h.2,Bool.and_self]
end
def Ts{t:Ty}(h:fN t=true)(v:Vl):wT φ v t=0:=xP v t (AB (λT h=>by simp[qz]at h;simp[rQ,h]) t h)
def RY{t:Ty}(h:eJ t=true)(v:Vl):wT φ v t=0:=xP v t (AB (λT h=>by simp[wG]at h;simp[rQ,h]) t h)
def jX{T:Int}{ts:L Ty}(h:T=2\/T=3\/T=4\/T=5\/T=6\/T=7\/T=14)(v:Vl):wT φ v (.mk T ts)=0:=by rw[rP];rcases h with rfl|rfl|rfl|rfl|rfl|rfl|rfl<;>simp[cq]
def Tt{t:Ty}(h:∀v,wT φ v t=0):∀l,eW φ l t=0
 |[]=>rfl
 |x::l=>by simp only[eW,h x,Tt h l]
def OH{t:Ty}(h:∀v,wT φ v t=0)(v:Vl):wT φ v (.mk 9 [t])=0:=by rw[rP];simp[cq,aG,aK,Tt h]
def yw:∀(l m:L Vl)(s r:L Ty),l.length=s.length->cr φ (l++m) (s++r)=cr φ l s+cr φ m r
 |[],_,[],_,_=>by simp[cr]
 |x::l,m,t::s,r,h=>by simp only[abh,cr,yw l m s r nW];omega
 |[],_,_::_,_,h=>by simp at h
 |_::_,_,[],_,h=>by simp at h
def Tu(l:L Vl)(s:L Ty)(n:Nat)(h:l.length=s.length):cr φ (l.take n) (s.take n)+cr φ (l.drop n) (s.drop n)=cr φ l s:=by rw[<- yw _ _ _ _ oy,abK,abK]
def zg:∀(l m:L Vl)(t:Ty),eW φ (l++m) t=eW φ l t+eW φ m t
 |[],_,_=>by simp[eW]
 |x::l,m,t=>by simp only[abh,eW,zg l m t];omega
def DS(l:L Vl)(t:Ty)(n:Nat):eW φ (l.take n) t+eW φ (l.drop n) t=eW φ l t:=by rw[<- zg,abK]
def P9(l:L Vl)(t:Ty)(n m:Nat)(h:n<=m):eW φ (l.drop m) t<=eW φ (l.drop n) t:=by have:=DS (φ:=φ) (l.drop n) t (m-n);rw[List.drop_drop,show n+(m-n)=m from by omega]at this;omega
def SW(φ:Int->Ty->Vl->Bool)(s:L Ty)(st:L Vl)(r:L Ty)(o:MR):Prop:=o.1=0->cr φ o.2.st r<=cr φ st s
def sO{S:bE}{x:Vl}{t:Ty}{q s:L Ty}{st:L Vl}(h:wT φ x t+cr φ S.st q<=cr φ st s):SW φ s st (t::q) (aQ S [x]):=by
 intro M;rcases oM [x] S.st with h1|⟨_,h2,_⟩
 exact aaO;show cr φ (lF [x] S.st).2 _<=_;rw[h2];exact h
def X0{S:bE}{x y:Vl}{t u:Ty}{q s:L Ty}{st:L Vl}(h:wT φ y u+(wT φ x t+cr φ S.st q)<=cr φ st s):SW φ s st (u::t::q) (aQ S [x,y]):=by
 intro M;rcases oM [x,y] S.st with h1|⟨_,h2,_⟩
 exact aaO;show cr φ (lF [x,y] S.st).2 _<=_;rw[h2];exact h
def VB{S:bE}{e:Int}{s r:L Ty}{st:L Vl}(h:e≠0):SW φ s st r (e,S):=λM=>absurd M h
end
end Go.Proofs
namespace Go.Proofs
open Go.cB
section
variable {φ : Int -> Ty -> Vl -> Bool}
def F6:∀(n:Nat)(l:L Vl)(s:L Ty),cr φ (l.drop n) (s.drop n)<=cr φ l s
 |0,l,s=>by simp
 |n+1,[],s=>by simp[cr]
 |n+1,x::l,[]=>by simp[cr]
 |n+1,x::l,t::s=>by have:=F6 n l s;simp only[acW,cr];omega
def DT:∀{n:Nat}{s l q:L Vl},iQ n s=some (l,q)->q=s.drop n
 |0,s,l,q,h=>by cases h;rfl
 |n+1,[],l,q,h=>by cases h
 |n+1,v::s,l,q,h=>by
  simp only[iQ]at h;cases e:iQ n s with
  |none=>rw[e]at h;cases h
  |some p=>obtain⟨a,b⟩:=p;rw[e]at h;cases h;simpa using DT e
def oP(S:bE)(o:MR):Prop:=o.1=0->∃x,o.2.st=x::S.st
def qc(S:bE)(x:Vl):oP S (aQ S [x]):=λM=>by
 rcases oM [x] S.st with h1|⟨_,h2,_⟩
 exact aaO;exact⟨x,h2⟩
def Ir{S:bE}{c:Prop}[Decidable c]{a b:MR}(h1:c->oP S a)(h2:¬c->oP S b):oP S (if c then a else b):=by grind
def Tv(P:Int)(l:L Vl)(S:bE):oP S (vw P l S):=by
 unfold vw;dsimp only
 repeat' (first|exact qc _ _|exact λh=>absurd h ‹_› | refine Ir (λ_=>?_) (λ_=>?_))
def X1(P:Int)(args:L Nd)(l:L Vl)(S:bE):oP S (Fh P args l S):=by
 unfold Fh;dsimp only
 repeat' (first|exact qc _ _|(intro h;cases h;done)|refine Ir (λ_=>?_) (λ_=>?_))
def OI{P:Int}(T:P=59\/P=62)(args:L Nd)(l:L Vl)(S:bE):oP S (zS P args l S):=by
 unfold zS;rcases T with rfl|rfl
 exact qc _ _;show oP S (if dX (di (lV l 1)) (lV l 0)=true then _ else _);exact Ir (λ_=>qc _ _) (λ_=>qc _ _)
def Ns(φ:Int->Ty->Vl->Bool)(s:L Ty)(n:Nat)(r:L Ty×Bool):Prop:=∃u,(∀v,wT φ v u=0)/\r.1=u::s.drop n
def nL{P:Int}{args:L Nd}{S:bE}{s:L Ty}{r:L Ty×Bool}(h1:∀l S',oP S' (sN P args l S'))(h2:Ns φ s (bD P) r):SW φ s S.st r.1 (aq P args S):=by
 unfold aq;cases A:iQ (bD P) S.st with
 |none=>exact VB cc
 |some p =>
  obtain⟨l,q⟩:=p;intro M;obtain⟨x,O⟩:=h1 l {S with st:=q} M;obtain⟨u,W,e⟩:=h2;dsimp only at O ⊢;rw[O,e];have:=F6 (φ:=φ) (bD P) S.st s;rw[<- DT A]at this;simp only[cr,W];omega
def Qa{p a b:Int}(h:kY p a b≠0)(v:Vl):wT φ v (.mk (kY p a b) [])=0:=by
 refine jX ?_ v;revert h;unfold kY
 repeat' split
 all_goals simp
def Tw{P:Int}{s:L Ty}{r:L Ty×Bool}(D:dV P s=(r,0)):Ns φ s (if P>=93 then 1 else 2) r:=by
 have U:∀a b:Int,a=5\/a=4\/a=3->b=5\/b=4->∀v,wT φ v (.mk 9 [.mk 11 [.mk a [],.mk b []]])=0:=λa b T A v=>xP v _ (by rcases T with rfl|rfl|rfl<;>rcases A with rfl|rfl<;>decide);unfold dV at D;by_cases Y:P=93
 ·subst Y;rcases s with _|⟨t,s⟩
  cases D;simp only[if_true]at D;split at D;cases D;exact⟨_,jX c9,Z⟩;cases D
 rw[if_neg Y]at D;by_cases W:P=94
 ·subst W;rcases s with _|⟨t,s⟩
  cases D;simp only[if_true]at D;split at D;cases D;exact⟨_,OH (jX c9),Z⟩;cases D
 rw[if_neg W]at D;by_cases V:P=95
 ·subst V;rcases s with _|⟨t,s⟩
  cases D;simp only[if_true]at D;split at D;cases D;exact⟨_,jX c9,Z⟩;cases D
 rw[if_neg V]at D;by_cases c:P>=93;rw[if_pos c]at D;cases D;rw[if_neg c]at D ⊢;rcases s with _|⟨t,_|⟨u,s⟩⟩
 cases D;cases D;dsimp only at D;split at D;cases D;rename_i B;split at D;cases D;exact⟨_,OH (jX c9),Z⟩;split at D;cases D;exact⟨_,Qa B,Z⟩;cases D;refine⟨_,U _ _ ?_ ?_,Z⟩
 ·split;simp;revert B;unfold kY
  repeat' split
  all_goals simp
 split<;>simp
def Qb{P:Int}{types s:L Ty}{r:L Ty×Bool}(hf:r.2=false)(D:iJ P types s=(r,0)):Ns φ s (bD P) r:=by
 unfold iJ at D;rcases s with _|⟨t,s⟩
 cases D;dsimp only at D;have N:∀p:Int,p=74\/p=75\/p=76\/p=77\/p=81\/p=82->bD p=1:=by intro p Y;rcases Y with rfl|rfl|rfl|rfl|rfl|rfl<;>decide +kernel
 have W:∀p:Int,p=73\/p=78\/p=79\/p=80->bD p=2:=by intro p Y;rcases Y with rfl|rfl|rfl|rfl<;>decide +kernel
 have V:∀{u:Ty}{T:Int},cq u=T->T=2\/T=3\/T=4\/T=5\/T=6\/T=7\/T=14->∀v,wT φ v u=0:=λ{u T} h h2 v=>by cases u;subst h;exact jX h2 v
 split at D
 ·subst_vars;rcases s with _|⟨u,s⟩
  cases D;dsimp only at D;split at D;cases D;rw[W 73 c9];exact⟨_,jX c9,Z⟩;cases D
 split at D;rename_i c;rw[N P bn];split at D;cases D;exact⟨_,jX c9,Z⟩;cases D;split at D;subst_vars;rw[N 77 c9];split at D;rename_i c;cases D;exact⟨_,V c c9,Z⟩;cases D;split at D
 ·rename_i c;rw[W P bn];rcases s with _|⟨u,s⟩
  cases D;dsimp only at D;split at D;rename_i c;cases D;exact⟨_,V c.2 c9,Z⟩;cases D
 split at D
 ·subst_vars;rw[W 80 c9];rcases s with _|⟨u,s⟩
  cases D;dsimp only at D;split at D;rename_i c;cases D;exact⟨_,V c.2 c9,Z⟩;cases D
 split at D;subst_vars;rw[N 81 c9];split at D;cases D;exact⟨_,jX c9,Z⟩;cases D;split at D;subst_vars;rw[N 82 c9];split at D;rename_i c;cases D;exact⟨_,OH (Ts c.2),Z⟩;cases D;split at D;split at D;cases D;cases hf;cases D;cases D
def DU{t:Ty}:wT φ (bN []) (.mk 9 [t])=0:=by rw[rP];rfl
def zQ{x:Vl}{t:Ty}:wT φ (bN [x]) (.mk 9 [t])=wT φ x t:=by rw[rP];rfl
def sP{x y:Vl}{t u:Ty}:wT φ (aY x y) (.mk 11 [t,u])=wT φ x t+wT φ y u:=by rw[rP];rfl
def RA{x:Vl}{t u:Ty}:wT φ (.mk 12 0 0 [] [x] [] []) (.mk 12 [t,u])=wT φ x t:=by rw[rP];rfl
def RB{x:Vl}{t u:Ty}:wT φ (.mk 12 1 0 [] [x] [] []) (.mk 12 [t,u])=wT φ x u:=by rw[rP];rfl
def GN{l:L Vl}{t:Ty}:wT φ (.mk 10 0 0 [] l [] []) (.mk 10 [t])=eW φ l t:=by rw[rP];rfl
def Jt{l:L Vl}{t u:Ty}:wT φ (.mk 13 0 0 [] l [] []) (.mk 13 [t,u])=eW φ l (.mk 11 [t,u]):=by rw[rP];rfl
def GS{n a:Int}{x:Vl}{t:Ty}:wT φ (.mk 15 n a [] [x] [] []) (.mk 15 [t])=if φ a t x=true then n.toNat else 0:=by rw[rP];rfl
def RU{n a:Int}{x:Vl}{t:Ty}{ts:L Ty}:wT φ (.mk 8 n a [] [x] [t] []) (.mk 8 ts)=wT φ x t:=by rw[rP];rfl
def Wy:∀(l:L Vl)(s:L Ty)(n:Nat),l.length=s.length->n<s.length->wT φ (lV l n) (s.getD n iY)+cr φ (l.take n++l.drop (n+1)) (s.take n++s.drop (n+1))=cr φ l s
 |x::l,t::s,0,_,_=>by simp[lV,cr]
 |x::l,t::s,n+1,h,hn=>by
  have:=Wy l s n nW (by simpa using hn);simp only[adF,acW,abh,cr];have Y:lV (x::l) (n+1)=lV l n:=by simp[lV]
  have B:(t::s).getD (n+1) iY=s.getD n iY:=by simp
  rw[Y,B];omega
 |[],[],n,_,hn=>by simp at hn
 |[],_::_,_,h,_=>by simp at h
 |_::_,[],_,h,_=>by simp at h
def VC{P:Int}{S:bE}{args:L Nd}{s:L Ty}{r:L Ty×Bool}{types:L Ty}(T:40<=P/\P<=44)(hf:br P args=some types)(C:cD s S.st)(D:fZ P args s=(r,0)):SW φ s S.st r.1 (aq P args S):=by
 obtain⟨a,b,c,d,st,I,g,u,m,B⟩:=S;have O:=bq C;simp only at C O;rcases(show P=40\/P=41\/P=42\/P=43\/P=44 by omega)with rfl|rfl|rfl|rfl|rfl
 ·rcases s with _|⟨t,s⟩
  cases D;obtain⟨v,q,rfl,W,hq⟩:=aF C;cases D;unfold aq;rw[OJ];exact λ_=>by show cr φ q s<=cr φ (v::q) (t::s);simp[cr]
 have Y:(if 1<=zD (args.getD 0 oF)/\zD (args.getD 0 oF)<=s.length/\gT (s.getD (zD (args.getD 0 oF)-1).toNat iY)=true then eB (s.getD (zD (args.getD 0 oF)-1).toNat iY::s)else aX 5)=(r,0):=D;split at Y;rename_i V;cases Y;exact nL (λl S'=>qc S' _) ⟨_,λv=>xP v _ V.2.2,by rw[OK];rfl⟩;cases Y
 ·rcases s with _|⟨t,_|⟨p,s⟩⟩
  cases D;cases D;obtain⟨v,M,rfl,W,E⟩:=aF C;obtain⟨w,q,rfl,U,hq⟩:=aF E;cases D;unfold aq;rw[OL];exact X0 (S:=⟨a,b,c,d,q,I,g,u,m,B⟩) (x:=v) (y:=w) (by simp only[cr];omega)
 obtain⟨N,Q,K,J,rfl,H,rfl⟩:=zh hf cc;have Y:(if(N:Int)<s.length then eB (s.getD (N:Int).toNat iY::(s.take (N:Int).toNat++s.drop ((N:Int).toNat+1)))else aX 5)=(r,0):=D;split at Y;rename_i V;cases Y;unfold aq;rw[OM];intro _;show cr φ (lV st (N:Int).toNat::(st.take (N:Int).toNat++st.drop ((N:Int).toNat+1))) _<=cr φ st s;simp only[cr];exact Nat.le_of_eq (Wy st s (N:Int).toNat O.symm bn);cases Y;rcases s with _|⟨t,s⟩
 cases D;obtain⟨v,q,rfl,W,hq⟩:=aF C;simp only[aaa]at O;have Y:(if zD (args.getD 0 oF)<s.length+1 then eB (s.take (zD (args.getD 0 oF)).toNat++t::s.drop (zD (args.getD 0 oF)).toNat)else aX 5)=(r,0):=D;have e:aq 44 args ⟨a,b,c,d,v::q,I,g,u,m,B⟩=(0,⟨a,b,c,d,q.take (zD (args.getD 0 oF)).toNat++v::q.drop (zD (args.getD 0 oF)).toNat,I,g,u,m,B⟩):=by unfold aq;rw[ON];rfl
 rw[e];generalize zD (args.getD 0 oF)=N at *;split at Y;cases Y;intro _;show cr φ (q.take N.toNat++v::q.drop N.toNat) (s.take N.toNat++t::s.drop N.toNat)<=_;rw[yw _ _ _ _ ob];have:=Tu (φ:=φ) q s N.toNat bn;simp only[cr];omega;cases Y
end
end Go.Proofs
namespace Go.Proofs
open Go.cB
section
variable {φ : Int -> Ty -> Vl -> Bool}
def Tx{P:Int}{S:bE}{args:L Nd}{codes:L (L Ty->CR)}{types s:L Ty}{r:L Ty×Bool}(K:P=46\/P=50\/P=51\/P=53\/P=54\/P=56\/P=57)(C:cD s S.st)(D:cF P codes types s=(r,0)):SW φ s S.st r.1 (aq P args S):=by
 obtain⟨a,b,c,d,st,I,g,u,m,B⟩:=S;simp only at C;rcases K with rfl|rfl|rfl|rfl|rfl|rfl|rfl
 case inr.inr.inr.inr.inl =>
  cases D;unfold aq;rw[Is];exact sO (S:=⟨a,b,c,d,st,I,g,u,m,B⟩) (x:=bN []) (by rw[DU];simp)
 case inr.inr.inr.inr.inr.inl =>
  cases D;unfold aq;rw[Iu];exact sO (S:=⟨a,b,c,d,st,I,g,u,m,B⟩) (x := .mk 10 0 0 [] [] [] []) (by rw[GN];simp[eW])
 all_goals
  rcases s with _|⟨t,s⟩
  cases D;obtain⟨v,q,rfl,W,hq⟩:=aF C;have N:=bO W.1
 ·rcases s with _|⟨p,s⟩
  cases D;obtain⟨w,q,rfl,V,hq⟩:=aF hq;cases D;unfold aq;rw[Iv];exact sO (S:=⟨a,b,c,d,q,I,g,u,m,B⟩) (x:=aY v w) (by rw[sP];simp only[cr];omega)
 cases D;unfold aq;rw[Iw];exact sO (S:=⟨a,b,c,d,q,I,g,u,m,B⟩) (x := .mk 12 0 0 [] [v] [] []) (by rw[RA];exact aal _);cases D;unfold aq;rw[Ix];exact sO (S:=⟨a,b,c,d,q,I,g,u,m,B⟩) (x := .mk 12 1 0 [] [v] [] []) (by rw[RB];exact aal _);cases D;unfold aq;rw[Iy];exact sO (S:=⟨a,b,c,d,q,I,g,u,m,B⟩) (x:=bN [v]) (by rw[zQ];exact aal _);rcases s with _|⟨⟨T,ts⟩,s⟩
 cases D;obtain⟨w,q,rfl,V,hq⟩:=aF hq;have Y:(if T=10/\cw t (aG (.mk T ts) 0)=true then eB (.mk T ts::s)else aX 5)=(r,0):=D;split at Y
 ·rename_i U;obtain⟨rfl,M⟩:=U;cases Y;have A:=bO V.1;obtain⟨Q,rfl,J⟩:=cO (bl A.1) cc;obtain rfl:t=Q:=(eg _ _).1 M;obtain⟨l,rfl,H,O,E⟩:=nU A.2.1 A.2.2;have e:aq 57 args ⟨a,b,c,d,v :: .mk 10 0 0 [] l [] []::q,I,g,u,m,B⟩=(if 24<=l.length then(13,⟨a,b,c,d,q,I,g,u,m,B⟩)else aQ ⟨a,b,c,d,q,I,g,u,m,B⟩ [.mk 10 0 0 [] (v::l) [] []]):=by unfold aq;rw[HO];rfl
  rw[e];split;exact VB cc;exact sO (by simp only[GN,cr,eW];omega)
 cases Y
def Tz{P:Int}{S:bE}{args:L Nd}{codes:L (L Ty->CR)}{types s:L Ty}{r:L Ty×Bool}(K:P=47\/P=48\/P=49)(Y:cD s S.st)(D:cF P codes types s=(r,0)):SW φ s S.st r.1 (aq P args S):=by
 obtain⟨a,b,c,d,st,I,g,u,m,B⟩:=S;simp only at Y;rcases s with _|⟨⟨T,ts⟩,s⟩
 ·rcases K with rfl|rfl|rfl<;>cases D
 obtain⟨v,q,rfl,W,hq⟩:=aF Y;have O:=bO W.1;have V:T=11:=by apply abH;intro h;rcases K with rfl|rfl|rfl<;>simp[cF,cq,h,aX]at D
 subst V;obtain⟨U,C,rfl,M,Q⟩:=cJ (bl O.1) cc;obtain⟨x,y,rfl,N,G⟩:=lg O.2.1 O.2.2;have J:cr φ (aY x y::q) (.mk 11 [U,C]::s)=wT φ x U+wT φ y C+cr φ q s:=by rw[cr,sP]
 rcases K with rfl|rfl|rfl
 cases D;unfold aq;rw[Iz];exact X0 (S:=⟨a,b,c,d,q,I,g,u,m,B⟩) (x:=y) (y:=x) (u:=U) (t:=C) (q:=s) (by show _<=cr φ (aY x y::q) (.mk 11 [U,C]::s);rw[J];show wT φ x U+(wT φ y C+cr φ q s)<=_;omega);cases D;unfold aq;rw[IA];exact sO (S:=⟨a,b,c,d,q,I,g,u,m,B⟩) (x:=x) (t:=U) (q:=s) (by show _<=cr φ (aY x y::q) (.mk 11 [U,C]::s);rw[J];show wT φ x U+cr φ q s<=_;omega);cases D;unfold aq;rw[IB];exact sO (S:=⟨a,b,c,d,q,I,g,u,m,B⟩) (x:=y) (t:=C) (q:=s) (by show _<=cr φ (aY x y::q) (.mk 11 [U,C]::s);rw[J];show wT φ y C+cr φ q s<=_;omega)
def TA{P:Int}{S:bE}{args:L Nd}{codes:L (L Ty->CR)}{types s:L Ty}{r:L Ty×Bool}(K:P=59\/P=61\/P=62\/P=63)(hf:br P args=some types)(C:cD s S.st)(D:gK P codes types s=(r,0)):SW φ s S.st r.1 (aq P args S):=by
 rcases K with rfl|rfl|rfl|rfl
 ·rcases s with _|⟨t,s⟩
  cases D;have Y:(if cq t=6\/cq t=10\/cq t=13 then eB (.mk 4 []::s)else aX 5)=(r,0):=D;split at Y;cases Y;exact nL (λl S'=>OI (.inl Z) args l S') ⟨.mk 4 [],jX c9,by rw[HP];rfl⟩;cases Y
 obtain⟨x,y,rfl,hx,G,rfl⟩:=OD hf cc;have Y:(if eJ (aO x).1=true then eB (.mk 13 [(aO x).1,(aO y).1]::s)else aX 5)=(r,0):=D;split at Y;cases Y;unfold aq;rw[HQ];exact sO (S:=S) (x := .mk 13 0 0 [] [] [] []) (by rw[Jt];simp[eW]);cases Y
 ·rcases s with _|⟨t,_|⟨p,s⟩⟩
  cases D;cases D;have Y:(if cq p=13/\cw t (aG p 0)=true/\gT (aG p 1)=true then eB (.mk 9 [aG p 1]::s)else aX 5)=(r,0):=D;split at Y;rename_i N;cases Y;exact nL (λl S'=>OI (.inr Z) args l S') ⟨_,OH λv=>xP v _ N.2.2,by rw[HT];rfl⟩;cases Y
 obtain⟨a,b,c,d,st,I,g,u,m,B⟩:=S;simp only at C;rcases s with _|⟨U,_|⟨⟨O,E⟩,_|⟨⟨V,T⟩,s⟩⟩⟩
 cases D;cases D;cases D;obtain⟨v,q,rfl,hv,hq⟩:=aF C;obtain⟨w,q,rfl,M,hq⟩:=aF hq;obtain⟨z,q,rfl,H,hq⟩:=aF hq;have A:=bO M.1;have Q:=bO H.1;have Y:(if O=9/\V=13/\cw U (aG (.mk V T) 0)=true/\cw (aG (.mk O E) 0) (aG (.mk V T) 1)=true then eB (.mk V T::s)else aX 5)=(r,0):=D;split at Y;rotate_left;cases Y;rename_i c1;cases Y;obtain⟨rfl,rfl,c2,c3⟩:=c1;obtain⟨W,rfl,ok0⟩:=cO (bl A.1) cc;obtain⟨t,p,rfl,AY,Jr⟩:=cJ (bl Q.1) cc;obtain rfl:U=t:=(eg _ _).1 c2;obtain rfl:W=p:=(eg _ _).1 c3;obtain⟨l,rfl,tV,hla,RE,hls⟩:=qu Q.2.1 Q.2.2;have J:∀i,eW φ (l.take i++l.drop (i+1)) (.mk 11 [U,W])<=eW φ l (.mk 11 [U,W]):=λi=>by rw[zg];have h1:=DS (φ:=φ) l (.mk 11 [U,W]) i;have h2:=P9 (φ:=φ) l (.mk 11 [U,W]) i (i+1) bn;omega
 have k2:∀(x:L Vl)(i:Nat)(y:Vl),eW φ (x.take i++aY v y::x.drop i) (.mk 11 [U,W])=eW φ x (.mk 11 [U,W])+(wT φ v U+wT φ y W):=λx i y=>by rw[zg];have h1:=DS (φ:=φ) x (.mk 11 [U,W]) i;simp only[eW,sP];omega
 rcases yo A.2.1 A.2.2 with rfl|⟨y,rfl,G⟩
 ·have e:aq 63 args ⟨a,b,c,d,v::bN [] :: .mk 13 0 0 [] l [] []::q,I,g,u,m,B⟩=aQ ⟨a,b,c,d,q,I,g,u,m,B⟩ [.mk 13 0 0 [] (if dX l v=true then l.take (bJ l v)++l.drop (bJ l v+1)else l) [] []]:=by unfold aq;rw[zd];rfl
  rw[e];refine sO ?_;simp only[Jt,cr,DU];have:=J (bJ l v);split<;>omega
 have e:aq 63 args ⟨a,b,c,d,v::bN [y] :: .mk 13 0 0 [] l [] []::q,I,g,u,m,B⟩=(if 24<=(if dX l v=true then l.take (bJ l v)++l.drop (bJ l v+1)else l).length then(13,⟨a,b,c,d,q,I,g,u,m,B⟩)else aQ ⟨a,b,c,d,q,I,g,u,m,B⟩ [.mk 13 0 0 [] ((if dX l v=true then l.take (bJ l v)++l.drop (bJ l v+1)else l).take (bJ l v)++aY v y::(if dX l v=true then l.take (bJ l v)++l.drop (bJ l v+1)else l).drop (bJ l v)) [] []]):=by unfold aq;rw[zd];rfl
 have hX:eW φ (if dX l v=true then l.take (bJ l v)++l.drop (bJ l v+1)else l) (.mk 11 [U,W])<=eW φ l (.mk 11 [U,W]):=by have:=J (bJ l v);split<;>omega
 rw[e];generalize (if dX l v=true then l.take (bJ l v)++l.drop (bJ l v+1)else l)=X at *;split;exact VB cc;refine sO ?_;simp only[Jt,cr,zQ,k2];omega
def Pn{S:bE}{args:L Nd}{types s:L Ty}{r:L Ty×Bool}(C:cD s S.st)(D:gd 84 types s=(r,0))(M:(aq 84 args S).1=0) :
  S.aZ<=(aq 84 args S).2.aZ/\(cr φ (aq 84 args S).2.st r.1:Int)<=cr φ S.st s+((aq 84 args S).2.aZ-S.aZ)/\((∀t v,φ S.self t v=false)->cr φ (aq 84 args S).2.st r.1<=cr φ S.st s):=by
 obtain⟨a,b,c,d,st,I,g,u,m,B⟩:=S;simp only at C;rcases s with _|⟨U,_|⟨⟨V,J⟩,s⟩⟩
 cases D;cases D;obtain⟨v,q,rfl,N,hq⟩:=aF C;obtain⟨w,q,rfl,T,hq⟩:=aF hq;have Y:(if V=4/\eJ U=true then eB (.mk 9 [.mk 15 [U]]::s)else aX 5)=(r,0):=D;split at Y;rotate_left;cases Y;rename_i p;cases Y;obtain⟨rfl,H⟩:=p;obtain⟨n,rfl,Q⟩:=fh cc (bO T.1).2.1;have K:=(iM cc Q).2 cc;have e:aq 84 args ⟨a,b,c,d,v::aI 4 n::q,I,g,u,m,B⟩=(if n=0 then aQ ⟨a,b,c,d,q,I,g,u,m,B⟩ [bN []]else if m>bF-n then(11,⟨a,b,c,d,q,I,g,u,m,B⟩)else aQ ⟨a,b,c,d,q,I,g,u,m+n,B⟩ [bN [.mk 15 n a [] [v] [] []]]):=by unfold aq;rw[Hy];rfl
 rw[e]at M ⊢;by_cases W:n=0;rw[if_pos W]at M ⊢;have:=sO (φ:=φ) (S:=⟨a,b,c,d,q,I,g,u,m,B⟩) (x:=bN []) (t := .mk 9 [.mk 15 [U]]) (q:=s) (s:=U :: .mk 4 J::s) (st:=v::aI 4 n::q) Yw M;exact⟨adQ _,by show _<=_+(m-m);rw[Int.sub_self,Int.add_zero];exact Int.ofNat_le.2 this,λ_=>this⟩;rw[if_neg W]at M ⊢;by_cases c4:m>bF-n;rw[if_pos c4]at M;cases M;rw[if_neg c4]at M ⊢;rcases oM [bN [.mk 15 n a [] [v] [] []]] q with h1|⟨_,h2,_⟩
 exact aaO;have P:(aQ ⟨a,b,c,d,q,I,g,u,m+n,B⟩ [bN [.mk 15 n a [] [v] [] []]]).2.st=bN [.mk 15 n a [] [v] [] []]::q:=h2;rw[P];simp only[cr,zQ,GS];refine⟨by show m<=m+n;omega,?_,λO=>?_⟩
 ·show _<=_+(m+n-m);split<;>omega
 rw[O];simp only[Bool.false_eq_true,acd];omega
def TB{P:Int}{S:bE}{args:L Nd}{types s:L Ty}{r:L Ty×Bool}(hP:P=85\/P=86\/P=87\/P=88\/P=89\/P=90\/P=91\/P=92)(hf:br P args=some types)(C:cD s S.st)(D:gd P types s=(r,0)):SW φ s S.st r.1 (aq P args S):=by
 rcases hP with rfl|rfl|rfl|rfl|rfl|rfl|rfl|rfl
 case inr.inr.inr.inr.inl=>cases D;exact nL (λl S'=>qc S' _) ⟨.mk 7 [],jX c9,by rw[HD];rfl⟩
 case inr.inr.inr.inr.inr.inl=>cases D;exact nL (λl S'=>qc S' _) ⟨.mk 7 [],jX c9,by rw[HE];rfl⟩
 case inr.inr.inr.inr.inr.inr.inl=>cases D;exact nL (λl S'=>qc S' _) ⟨.mk 5 [],jX c9,by rw[HF];rfl⟩
 case inr.inr.inr.inr.inr.inr.inr=>cases D;exact nL (λl S'=>qc S' _) ⟨.mk 5 [],jX c9,by rw[HG];rfl⟩
 all_goals
  obtain⟨a,b,c,d,st,I,g,u,m,B⟩:=S;simp only at C;rcases s with _|⟨⟨Q,xz⟩,s⟩
  cases D;obtain⟨v,q,rfl,hv,hq⟩:=aF C;have O:=bO hv.1
 ·have W:(if Q=15 then eB (.mk 11 [.mk 7 [],.mk 11 [aG (.mk Q xz) 0,.mk 4 []]] :: .mk Q xz::s)else aX 5)=(r,0):=D;split at W;rotate_left;cases W;rename_i p;cases W;subst p;obtain⟨t,rfl,H⟩:=cO (bl O.1) cc;have E:eJ t=true:=by have h1:=xK O.1;simp only[DK,aak]at h1;have h2:gS [t]=true:=(by simpa using h1.1);simpa[gS]using h2
  unfold aq;rw[Hz];exact X0 (S:=⟨a,b,c,d,q,I,g,u,m,B⟩) (x:=v) (y:=aY (aI 7 (xA v)) (aY (lV (di v) 0) (aI 4 (vN v)))) (by rw[sP,sP,show aG (.mk 15 [t]) 0=t from Z,RY E,jX c9,jX c9];simp only[cr];omega)
 ·rcases s with _|⟨⟨V,J⟩,s⟩
  cases D;obtain⟨w,q,rfl,A,hq⟩:=aF hq;have f2:=bO A.1;have W:(if Q=15/\V=11/\cq (aG (.mk V J) 0)=4/\cq (aG (.mk V J) 1)=4 then eB (.mk 9 [.mk 11 [.mk Q xz,.mk Q xz]]::s)else aX 5)=(r,0):=D;split at W;rotate_left;cases W;rename_i p;cases W;obtain⟨rfl,rfl,c3,c4⟩:=p;obtain⟨t,rfl,H⟩:=cO (bl O.1) cc;obtain⟨n,M,x,rfl,hn,ha,N⟩:=mj O.2.1 O.2.2;have e:aq 86 args ⟨a,b,c,d,.mk 15 n M [] [x] [] []::w::q,I,g,u,m,B⟩=(if vN (lV (di w) 0)<1\/vN (lV (di w) 1)<1\/vN (lV (di w) 0)+vN (lV (di w) 1)≠n then aQ ⟨a,b,c,d,q,I,g,u,m,B⟩ [bN []]else aQ ⟨a,b,c,d,q,I,g,u,m,B⟩ [bN [aY (.mk 15 (vN (lV (di w) 0)) M [] [x] [] []) (.mk 15 (vN (lV (di w) 1)) M [] [x] [] [])]]):=by unfold aq;rw[HA];rfl
  rw[e];split;exact sO Yw;refine sO ?_;simp only[zQ,sP,GS,cr];split<;>omega
 ·have W:(if Q=11/\cq (aG (.mk Q xz) 0)=15/\cw (aG (.mk Q xz) 0) (aG (.mk Q xz) 1)=true then eB (.mk 9 [aG (.mk Q xz) 0]::s)else aX 5)=(r,0):=D;split at W;rotate_left;cases W;rename_i p;obtain⟨rfl,c2,c3⟩:=p;obtain⟨⟨U1,sB⟩,t2,rfl,Jr,ok3⟩:=cJ (bl O.1) cc;cases W;have Xz:U1=15:=c2;subst Xz;obtain rfl:Ty.mk 15 sB=t2:=(eg _ _).1 c3;obtain⟨t,rfl,H⟩:=cO Jr cc;obtain⟨X,Y,rfl,hX,hY⟩:=lg O.2.1 O.2.2;obtain⟨T,U,x,rfl,hn2,Wa,N⟩:=mj hX.1 hX.2;obtain⟨K,G,y,rfl,ZU,ha4,hy⟩:=mj hY.1 hY.2;have Co:=cN (gH (kH O.1)).2 (show Ty.mk 15 [t]∈aK (.mk 11 [.mk 15 [t],.mk 15 [t]])by simp[aK]);have N4:=cN (gH Co).2 (show t∈aK (.mk 15 [t])by simp[aK]);have E:eJ t=true:=by have h1:=xK O.1;simp only[DK,DV,aak]at h1;have h2:gS [t]=true:=(by simpa using h1.2.1.1);simpa[gS]using h2
  have e:aq 87 args ⟨a,b,c,d,aY (.mk 15 T U [] [x] [] []) (.mk 15 K G [] [y] [] [])::q,I,g,u,m,B⟩=(if U≠G\/de x y≠0 then aQ ⟨a,b,c,d,q,I,g,u,m,B⟩ [bN []]else if T>bF-K then(11,⟨a,b,c,d,q,I,g,u,m,B⟩)else aQ ⟨a,b,c,d,q,I,g,u,m,B⟩ [bN [.mk 15 (T+K) U [] [x] [] []]]):=by unfold aq;rw[HB];rfl
  rw[e];split;exact sO Yw;rename_i c5;split;exact VB cc;refine sO ?_;obtain rfl:U=G:=by omega
  obtain rfl:x=y:=(vX x y y t E N4 N.1 hy.1 hy.1).zero.1 bn;simp only[zQ,sP,GS,cr,show aG (.mk 11 [.mk 15 [t],.mk 15 [t]]) 0=Ty.mk 15 [t]from rfl];split<;>omega
 rcases s with _|⟨⟨V,J⟩,_|⟨⟨T3,Vy⟩,s⟩⟩
 cases D;cases D;obtain⟨w,q,rfl,A,hq⟩:=aF hq;obtain⟨z,q,rfl,hz,hq⟩:=aF hq;obtain⟨x,rfl,N,rfl⟩:=xJ hf cc;have W:(if V=5/\T3=7/\cw (.mk Q xz) (aO x).1=true/\iP (.mk Q xz)=true then eB (.mk 8 []::s)else aX 5)=(r,0):=D;split at W;rotate_left;cases W;rename_i p;cases W;have et:=(eg _ _).1 p.2.2.1;unfold aq;rw[HC];exact sO (S:=⟨a,b,c,d,q,I,g,u,m,B⟩) (x := .mk 8 (vN w) (vN z) [] [v] [(aO x).1] []) (by rw[RU,<- et];simp only[cr];omega)
def Ju{P:Int}{S:bE}{args:L Nd}{codes:L (L Ty->CR)}{types s:L Ty}{r:L Ty×Bool}(K:P<=63/\P≠52/\P≠55/\P≠58/\P≠60\/69<=P/\P≠84)(hf:br P args=some types)(C:cD s S.st)(A:r.2=false)(D:lD P args codes types s=(r,0)):SW φ s S.st r.1 (aq P args S):=by
 have U:¬P<40:=by intro h;unfold br at hf;rw[if_pos (.inl h)]at hf;cases hf
 unfold lD at D;by_cases p:P<=44;rw[if_pos p]at D;exact VC bn hf C D;rw[if_neg p]at D;by_cases M:P=45;rw[if_pos M]at D;split at D;rename_i T;subst M;cases D;exact nL (λl S'=>qc S' _) ⟨_,Ts T.2,by rw[IC];rfl⟩;cases D;rw[if_neg M]at D;by_cases V:P<=58;rw[if_pos V]at D;by_cases c4:P=47\/P=48\/P=49;exact Tz c4 C D;exact Tx bn C D;rw[if_neg V]at D;by_cases c4:P<=63;rw[if_pos c4]at D;exact TA bn hf C D;rw[if_neg c4,if_neg (show ¬P<=68 by omega)]at D;by_cases W:P<=72\/P>=93
 ·rw[if_pos W]at D;have Q:P<=95:=by apply abH;intro h;unfold dV at D;rw[if_neg bn,if_neg bn,if_neg bn,if_pos bn]at D;cases D
  have e:(if P>=93 then 1 else 2)=bD P:=by rcases(show P=69\/P=70\/P=71\/P=72\/P=93\/P=94\/P=95 by omega)with rfl|rfl|rfl|rfl|rfl|rfl|rfl<;>decide +kernel
  have h2:=Tw (φ:=φ) D;rw[e]at h2;refine nL (λl S'=>?_) h2;unfold sN;rw[if_neg p,if_neg bn,if_neg bn,if_neg c4,if_pos W];exact Tv _ _ _
 rw[if_neg W]at D;by_cases Y:P<=83;rw[if_pos Y]at D;refine nL (λl S'=>?_) (Qb A D);unfold sN;rw[if_neg p,if_neg bn,if_neg bn,if_neg c4,if_neg W,if_pos Y];exact X1 _ _ _ _;rw[if_neg Y]at D;exact TB bn hf C D
end
end Go.Proofs
namespace Go.Proofs
open Go.cB
structure Ma where
 code:Int
 st:List Vl
 said:Vl
 nV:Int
 aZ:Int
def TC(r:Ma):CV:=lG r.code r.st r.said r.nV r.aZ
def wF(a b c d:Int)(H:L Nd)(l:L Vl)(g:Int):bE:=⟨a,b,c,d,l,[⟨H,0,0,[]⟩],g,0,0,qp⟩
def tD(o:MR):Ma:=⟨o.1,if o.1=0 then o.2.st else [],if o.1=10 then o.2.said else qp,o.2.used,if o.1=0 then o.2.aZ else 0⟩
def Pp(a b c d:Int)(n:Nd)(s:L Ty)(l:L Vl):Bool:=decide ((iq n s).2=0)&&decide (s.length=l.length)&&mR a b c d&&ni s l
def R1:Ma:=⟨14,[],qp,0,0⟩
def qw(a b c d:Int)(n:Nd)(l:L Vl)(g:Int):MR:=js (left (wF a b c d (cy n) l g)+1) (wF a b c d (cy n) l g)
def yy(a b c d:Int)(n:Nd)(s:L Ty)(l:L Vl)(g:Int):Ma:=if Pp a b c d n s l=true then tD (qw a b c d n l g)else R1
def qx{a b c d:Int}{n:Nd}{s:L Ty}{l:L Vl}:Pp a b c d n s l=true↔(iq n s).2=0/\s.length=l.length/\mR a b c d=true/\ni s l=true:=by unfold Pp;grind
abbrev Xh(l:L Vl):Prop:=∀v∈l,aE v<=25000000
def GW{l:L Vl}(h:aB l<=25000000):Xh l:=λv q=>by have:=cI q;omega
def KV:∀{l:L Vl},Xh l->aB l<=l.length*25000000
 |[],_=>aal _
 |v::l,h=>by have h1:=h v c9;have h2:=KV (l:=l) λw V=>h w aaH;simp only[aB,aaa];omega
def CN:∀{s:L Ty}{l:L Vl},s.length=l.length->ni s l=true->Xh l->cD s l
 |[],[],_,_,_=>trivial
 |t::s,v::l,h,h2,U=>by simp only[ni,aak]at h2;simp at h;exact⟨⟨h2.1,U v c9⟩,CN h h2.2 λw V=>U w aaH⟩
 |[],_::_,h,_,_=>by simp at h
 |_::_,[],h,_,_=>by simp at h
def CJ{a b c d:Int}{n:Nd}{s:L Ty}{l:L Vl}{g:Int}(h:Pp a b c d n s l=true)(q:Xh l)(Q:0<=g/\g<=1000000):MT (iq n s).1 (wF a b c d (cy n) l g) s:=by obtain⟨h1,h2,U,P⟩:=qx.1 h;obtain⟨g1,I,V,T,W⟩:=vz h1;have Y:=KQ g1;have S:=lK Y;rw[W]at h1 ⊢;refine⟨CN h2 P q,⟨by show s.length+cz (cy n)<=340;omega,Y,abG _,_,_,oA h1,λhf => .inl ⟨rfl,?_⟩⟩,U,⟨adQ _,by show(0:Int)<=bF;decide⟩,⟨adQ _,Q.1⟩,Q.2⟩;show(bH (cy n) (s,false)).1=(_,false);grind
def Fj{a b c d:Int}{n:Nd}{s:L Ty}{l:L Vl}{g:Int}(h:Pp a b c d n s l=true)(Q:0<=g/\g<=1000000):left (wF a b c d (cy n) l g)<=1000000000:=by obtain⟨h1,h2,U,P⟩:=qx.1 h;have Y:=lK (KQ (vz h1).1);simp only[left,wF,wz,VA,ack];omega
def Om{a b c d:Int}{n:Nd}{s:L Ty}{l:L Vl}{g:Int}(h:Pp a b c d n s l=true)(q:Xh l)(Q:0<=g/\g<=1000000):jY (left (wF a b c d (cy n) l g)+1) (wF a b c d (cy n) l g) (qw a b c d n l g)/\Tr (iq n s).1 (wF a b c d (cy n) l g) (qw a b c d n l g) :=
 td _ _ _ s (CJ h q Q) (abl _) (Fj h Q)
def E0(a b c d g:Int)(H:L Nd)(l:L Vl)(o:MR)(hq:l.length<=1000000000)(M:o.2.st.length<=1000000000\/o.1≠0)(V:b8 85 (wF a b c d H l g) [] (aA o.1) o.2) :
  af 62 [.agg [aA a,aA b,aA c,aA d],.sl 5 (aD H),.sl 7 (aa l),aA g] (TC (tD o)):=by
 obtain⟨e,S'⟩:=o;unfold tD TC;simp only;by_cases J:e=0
 ·subst J;cases l with
  |nil=>exact Kl a b c d g H S' (M.resolve_right λh=>h Z) V
  |cons x q=>exact AZ a b c d g H x q S' (by simp at hq;omega) (M.resolve_right λh=>h Z) V
 rw[if_neg J,if_neg J];by_cases Y:e=10
 ·subst Y;cases l with
  |nil=>exact EP a b c d g H S' V
  |cons x q=>exact EO a b c d g H x q S' (by simp at hq;omega) V
 rw[if_neg Y];cases l with
 |nil=>exact Hx a b c d g e H S' J Y V
 |cons x q=>exact Hw a b c d g e H x q S' (by simp at hq;omega) J Y V
def Pt(a b c d g:Int)(n:Nd)(O:bR n<=8589934593)(s:L Ty)(C:aU s<=8589934593)(l:L Vl)(q:Xh l)(Q:0<=g/\g<=1000000) :
  af 33 [.agg [aA a,aA b,aA c,aA d],aS n,.sl 2 (aj s),.sl 7 (aa l),aA g] (TC (yy a b c d n s l g)):=by
 by_cases U:(iq n s).2=0/\s.length=l.length/\mR a b c d=true;rotate_left
 ·have e:Pp a b c d n s l=false:=by
   cases S:Pp a b c d n s l with
   |false=>rfl
   |true =>
    obtain⟨h1,h2,P,_⟩:=qx.1 S;simp_all
  unfold yy;rw[if_neg (by rw[e];decide)];exact Vx a b c d g n O s C l U
 obtain⟨h1,h2,P⟩:=U;have K:l.length<=40:=by have:=(vz h1).2.2.1;omega
 have J:=KV q;have Y:ni s l=true->af 62 [.agg [aA a,aA b,aA c,aA d],.sl 5 (aD (cy n)),.sl 7 (aa l),aA g] (TC (tD (qw a b c d n l g))):=by
  intro S;have ok:Pp a b c d n s l=true:=qx.2 ⟨h1,h2,P,S⟩;obtain⟨N,W⟩:=Om ok q Q;refine E0 a b c d g (cy n) l _ bn ?_ (CK _ _ _ N);obtain⟨_,_,_,V⟩:=W;rcases V with ⟨_,_,T,_⟩|w|w|w|w
  left;have:=bq T;have:=(zM h1).2.1;omega
  all_goals right
  omega;omega;omega;omega
 have M:=Oj a b c d g n O s C l bn h1 h2 P _ _ _ _ _ Y;have e:(bif ni s l then lG (tD (qw a b c d n l g)).code (tD (qw a b c d n l g)).st (tD (qw a b c d n l g)).said (tD (qw a b c d n l g)).nV (tD (qw a b c d n l g)).aZ else lG 14 [] qp 0 0)=TC (yy a b c d n s l g):=by
  unfold yy;cases S:ni s l with
  |true =>
   rw[if_pos (qx.2 ⟨h1,h2,P,S⟩)];rfl
  |false =>
   rw[if_neg (λh=>by have:=(qx.1 h).2.2.2;rw[S]at this;cases this)];rfl
 rw[<- e];exact M
def wE(S:bE)(F:gB)(t:List gB):MR :=
 if F.pos=F.code.length then jL S F t
 else match F.code[F.pos]? with
  |none=>(14,S)
  |some (.mk u N P s args) =>
   if u=3 then(0,dh (fU S F t) args 0 [])
   else if u≠2 then(14,fU S F t)
   else if S.nV<=S.used then(12,fU S F t)
   else aq P args {fU S F t with used:=S.used+1}
def Po{S:bE}(k:Nat)(h:S.fr=[]):js (k+1) S=(0,S):=by simp only[js,h]
def acn(k:Nat)(o:MR):MR:=if o.1=0 then js k o.2 else o
def Nt{S:bE}{F:gB}{t:List gB}(k:Nat)(h:S.fr=F::t):js (k+1) S=acn k (wE S F t):=by
 simp only[js,h];unfold wE;by_cases D:F.pos=F.code.length;rw[if_pos D,if_pos D];rfl;rw[if_neg D,if_neg D];cases O:F.code[F.pos]? with
 |none=>rfl
 |some n =>
  obtain⟨u,N,P,s,args⟩:=n;dsimp only;by_cases Y:u=3;rw[if_pos Y,if_pos Y];rfl;rw[if_neg Y,if_neg Y];by_cases M:u≠2;rw[if_pos M,if_pos M];rfl;rw[if_neg M,if_neg M];by_cases Q:S.nV<=S.used;rw[if_pos Q,if_pos Q];rfl;rw[if_neg Q,if_neg Q];rfl
def L4{S:bE}{F:gB}{t:List gB}(k:Nat)(h:S.fr=F::t):js (k+1) S=if(wE S F t).1=0 then js k (wE S F t).2 else wE S F t:=Nt k h
def L5{pr:L Ty×Bool}{S:bE}{s:L Ty}{F:gB}{t:List gB}(q:MT pr S s)(h:S.fr=F::t)(E:left S<=1000000000):Nq pr S (wE S F t):=by
 unfold wE;by_cases D:F.pos=F.code.length;rw[if_pos D];exact(zf q h D).2.2;rw[if_neg D];have Y:=q.ft;rw[h]at Y;have V:=Y;obtain⟨K,A,p,_⟩:=V;have H:F.pos<F.code.length:=by omega
 have O:F.code[F.pos]?=some F.code[F.pos]:=abe H;generalize F.code[F.pos]=n at O;obtain⟨u,N,P,J,args⟩:=n;rw[O];dsimp only;by_cases W:u=3;rw[if_pos W];subst W;obtain⟨C,U,T⟩:=KT q h O;exact⟨C,q.used,q.RJ,.inl ⟨Z,s,U,T⟩⟩;have M:u=2:=by obtain⟨r,h1,_⟩:=B6 Y O;simp only[eX]at h1;rw[if_neg W]at h1;apply abH;intro c;rw[if_pos c]at h1;cases h1
 subst M;have I:=q.used;by_cases Q:S.nV<=S.used;rw[if_pos Q];exact⟨⟨Z,Z,Z,Z,Z⟩,q.used,q.RJ,.inr (.inr (.inr (.inl ⟨Z,by show S.used=S.nV;omega⟩)))⟩;rw[if_neg Q];exact(F1 q h O bn E).2.1
def U3{pr:L Ty×Bool}{S:bE}{o:MR}(h:Nq pr S o)(M:o.1=0):∃Y,MT pr o.2 Y/\left o.2<left S:=by obtain⟨_,_,_,P⟩:=h;simp_all
abbrev aco(g:Int)(S:bE):bE:={S with nV:=g}
abbrev afq(g:Int)(o:MR):MR:=(o.1,aco g o.2)
end Go.Proofs
