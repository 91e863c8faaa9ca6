/- Package run: -/
import Derived.Test.YteanleefnjknoaaGreatDoorChn1
import Derived.Test.YteanleefnjknoaaGreatDoorChn4
import Derived.Test.YteanleefnjknoaaGreatDoorFits
set_option maxRecDepth 100000
set_option linter.defProp false
set_option linter.unusedVariables false
set_option linter.unusedSimpArgs false
namespace Go.Proofs
open Go.cK
def yS(S:ct)(F:iJ)(t:List iJ):MR :=
 if F.pos=F.code.length then mQ S F t
 else match F.code[F.pos]? with
  |none=>(14,S)
  |some (.mk T N P s J) =>
   if T=3 then(0,dX (iQ S F t) J 0 [])
   else if T≠2 then(14,iQ S F t)
   else if S.cC<=S.used then(12,iQ S F t)
   else aJ P J {iQ S F t with used:=S.used+1}
def S9{S:ct}(k:Nat)(h:S.fr=[]):lG (k+1) S=(0,S):=by simp only[lG,h]
def afv(k:Nat)(o:MR):MR:=if o.1=0 then lG k o.2 else o
def O7{S:ct}{F:iJ}{t:List iJ}(k:Nat)(h:S.fr=F::t):lG (k+1) S=afv k (yS S F t):=by
 simp only[lG,h];unfold yS;by_cases Y:F.pos=F.code.length
 ·rw[if_pos Y,if_pos Y];rfl
 ·rw[if_neg Y,if_neg Y];cases B:F.code[F.pos]? with
  |none=>rfl
  |some n =>
   obtain⟨T,N,P,s,J⟩:=n;dsimp only;by_cases p:T=3
   ·rw[if_pos p,if_pos p];rfl
   rw[if_neg p,if_neg p];by_cases H:T≠2
   ·rw[if_pos H,if_pos H];rfl
   rw[if_neg H,if_neg H];by_cases G:S.cC<=S.used
   ·rw[if_pos G,if_pos G];rfl
   rw[if_neg G,if_neg G];rfl
def O8{S:ct}{F:iJ}{t:List iJ}(k:Nat)(h:S.fr=F::t):lG (k+1) S=if(yS S F t).1=0 then lG k (yS S F t).2 else yS S F t:=O7 k h
def O9{I:L Ty×Bool}{S:ct}{s:L Ty}{F:iJ}{t:List iJ}(V:MT I S s)(h:S.fr=F::t)(U:left S<=1000000000):OV I S (yS S F t):=by
 unfold yS;by_cases Y:F.pos=F.code.length
 ·rw[if_pos Y];exact(As V h Y).2.2
 rw[if_neg Y];have W:=V.ft;rw[h]at W;have Q:=W;obtain⟨D,C,A,_⟩:=Q;have K:F.pos<F.code.length:=by omega
 have B:F.code[F.pos]?=some F.code[F.pos]:=aea K;generalize F.code[F.pos]=n at B;obtain⟨T,N,P,u,J⟩:=n;rw[B];dsimp only;by_cases p:T=3
 ·rw[if_pos p];subst p;obtain⟨O,E,M⟩:=LD V h B;exact⟨O,V.used,V.Yf,.inl ⟨Z,s,E,M⟩⟩
 rw[if_neg p];have H:T=2:=by
  obtain⟨r,h1,_⟩:=Ar W B;simp only[fD]at h1;rw[if_neg p]at h1;apply afe;intro c;rw[if_pos c]at h1;cases h1
 subst H;rw[if_neg bT];have q:=V.used;by_cases G:S.cC<=S.used
 ·rw[if_pos G];exact⟨⟨Z,Z,Z,Z,Z⟩,V.used,V.Yf,.inr (.inr (.inr (.inl ⟨Z,by show S.used=S.cC;omega⟩)))⟩
 rw[if_neg G];exact(HJ V h B bn U).2.1
def Yv{I:L Ty×Bool}{S:ct}{o:MR}(h:OV I S o)(Y:o.1=0):∃Q,MT I o.2 Q/\left o.2<left S:=by
 obtain⟨_,_,_,T⟩:=h;rcases T with ⟨_,Q,K,q⟩|h|h|h|h
 ·exact⟨Q,K,q⟩
 ·rw[Y]at h;cases h
 ·rw[Y]at h;cases h
 ·omega
 ·omega
abbrev afw(g:Int)(S:ct):ct:={S with cC:=g}
abbrev ah6(g:Int)(o:MR):MR:=(o.1,afw g o.2)
end Go.Proofs
set_option maxHeartbeats 0
namespace Go.Proofs
open Go.cK
def zp:∀{l:L Vl}{x:Vl},x∈l->gQ x<=iP l
 |y::l,x,h=>by
  simp only[iP];rcases List.mem_cons.1 h with rfl|h
  ·omega
  ·have:=zp h;omega
def zq(z v:Vl):Prop:=gQ v<=200\/v=z
def QS(z:Vl)(S:ct):Prop:=(∀v∈S.st,zq z v)/\∀F∈S.fr,∀v∈F.aside,zq z v
section
variable {z : Vl}
def acS:zq z ou := .inl (by decide)
def EJ{l:L Vl}(h:∀v∈l,zq z v)(i:Nat):zq z (lV l i):=by
 unfold lV List.getD;cases O:l[i]? with
 |none=>exact acS
 |some x=>exact h x (aaB O)
def L8:∀(l st:L Vl),(∀v∈st,zq z v)->∀v∈(nI l st).2,zq z v
 |[],st,h=>h
 |x::l,st,h=>by
  unfold nI;split
  ·exact h
  ·refine L8 l (x::st) λv M=>?_;rcases List.mem_cons.1 M with rfl|M
   ·exact .inl bn
   ·exact h v M
def EK{S:ct}(l:L Vl)(h:QS z S):QS z (bq S l).2:=⟨L8 _ _ h.1,h.2⟩
def tE{S:ct}{code:L Nd}{fin:Int}{P:L Vl}(h:QS z S)(ha:∀v∈P,zq z v):QS z (dX S code fin P):=by
 refine⟨h.1,λF Y=>?_⟩;rcases List.mem_cons.1 Y with rfl|Y
 ·exact ha
 ·exact h.2 F Y
def EL{S:ct}{code:L Nd}{fin:Int}{P:L Vl}(h:QS z S)(ha:∀v∈P,zq z v):QS z (uG S code fin P):=by
 refine⟨h.1,λF Y=>?_⟩;rcases List.mem_cons.1 Y with rfl|Y
 ·exact ha
 ·exact h.2 F Y
def BI{S:ct}{l:L Vl}(h:QS z S)(E:∀v∈l,zq z v):QS z {S with st:=l}:=⟨E,h.2⟩
def pe{x:Vl}{l:L Vl}(O:zq z x)(h:∀v∈l,zq z v):∀v∈x::l,zq z v:=λv M=>by
 rcases List.mem_cons.1 M with rfl|M
 ·exact O
 ·exact h v M
def JE{a b:L Vl}(h1:∀v∈a,zq z v)(h2:∀v∈b,zq z v):∀v∈a++b,zq z v:=λv M=>by
 rcases List.mem_append.1 M with M|M
 ·exact h1 v M
 ·exact h2 v M
def L9{a:L Vl}(n:Nat)(h1:∀v∈a,zq z v):∀v∈a.take n,zq z v:=λv M=>h1 v (afT M)
def Ma{a:L Vl}(n:Nat)(h1:∀v∈a,zq z v):∀v∈a.drop n,zq z v:=λv M=>h1 v (afb M)
def rX:∀v∈([]:L Vl),zq z v:=λv M=>by simp at M
def JF{a:L Vl}(h1:∀v∈a,zq z v):∀v∈a.reverse,zq z v:=λv M=>h1 v (List.mem_reverse.1 M)
def wG{c:Prop}[Decidable c]{a b:MR}(ha:c->QS z a.2)(Q:¬c->QS z b.2):QS z (if c then a else b).2:=by
 split
 ·exact ha ‹_›
 ·exact Q ‹_›
def Pa{P:Int}{J:L Nd}{l:L Vl}{S:ct}(h:QS z S)(E:∀v∈l,zq z v)(Y:P=60->∀v∈eC (lV l 0),zq z v):QS z (zx P J l S).2:=by
 have C:QS z {S with az:=S.az+vN (lV l 1)}:=h;unfold zx Rq JG AB JH DS Rr BJ;dsimp only
 repeat' (first|exact EK _ h|exact h|exact EK _ C|exact EK _ (tE h rX)|exact tE h rX|exact BI h (pe (EJ h.1 _) (JE (L9 _ h.1) (Ma _ h.1)))|exact BI h (JE (L9 _ h.1) (pe (EJ E 0) (Ma _ h.1)))|exact EL h (Y ‹_›)|exact BI (EL h rX) (pe (EJ E 0) h.1)|exact tE h (pe (EJ E 0) rX)|exact BI (tE h (JF h.1)) (pe (EJ E 0) rX)|refine wG (λ_=>?_) (λ_=>?_)|split)
def HT:∀(n:Nat)(s l r:L Vl),jS n s=some (l,r)->(∀v∈s,zq z v)->(∀v∈l,zq z v)/\∀v∈r,zq z v
 |0,s,l,r,h,Y=>by simp only[jS]at h;cases h;exact⟨rX,Y⟩
 |n+1,[],l,r,h,Y=>by simp only[jS]at h;cases h
 |n+1,v::s,l,r,h,Y=>by
  simp only[jS]at h;cases I:jS n s with
  |none=>rw[I]at h;cases h
  |some p =>
   obtain⟨O,C⟩:=p;rw[I]at h;cases h;obtain⟨h1,h2⟩:=HT n s O r I λv M=>Y v (aeM _ M);exact⟨pe (Y v cS) h1,h2⟩
def Ta{P:Int}{J:L Nd}{S:ct}(h:QS z S)(Y:P=60->∀v q,S.st=v::q->∀y∈eC v,zq z y):QS z (aJ P J S).2:=by
 unfold aJ;cases I:jS (cr P) S.st with
 |none=>exact BI h rX
 |some p =>
  obtain⟨l,r⟩:=p;obtain⟨h1,h2⟩:=HT _ _ _ _ I h.1;refine Pa (BI h h2) h1 λe=>?_;subst e;have M:cr 60=1:=by decide +kernel
  rw[M]at I;cases O:S.st with
  |nil=>rw[O]at I;cases I
  |cons v q=>rw[O]at I;cases I;exact Y rfl v _ O
def Mb{S:ct}{F:iJ}{t:List iJ}(hf:S.fr=F::t)(h:QS z S):QS z (mQ S F t).2:=by
 obtain⟨h1,h2⟩:=h;rw[hf]at h2;have W:=h2 F cS;have I:∀G∈t,∀v∈G.aside,zq z v:=λG Y=>h2 G (by simp[Y]);have O:QS z S:=⟨h1,by rw[hf];exact h2⟩
 unfold mQ;refine wG (λ_=>⟨JE (JF W) h1,I⟩) (λ_=>wG (λ_=>?_) (λ_=>wG (λ_=>?_) (λ_=>wG (λ_=>?_) (λ_=>⟨h1,I⟩))))
 ·cases e:S.st with
  |nil=>exact O
  |cons v q=>rw[e]at h1;exact⟨pe (h1 v cS) (JF W),I⟩
 ·cases e:F.aside with
  |nil=>exact⟨h1,I⟩
  |cons x q =>
   rw[e]at W;refine wG (λ_=>O) (λ_=>⟨pe (W x cS) h1,λG Y=>?_⟩);rcases List.mem_cons.1 Y with rfl|Y
   ·exact λv M=>W v (aeM _ M)
   ·exact I G Y
 ·cases e:S.st with
  |nil=>exact O
  |cons v q =>
   rw[e]at h1;have p:∀w∈q,zq z w:=λw N=>h1 w (aeM _ N);refine wG (λ_=>wG (λ_=>⟨p,by rw[hf];exact h2⟩) (λ_=>⟨p,λG Y=>?_⟩)) (λ_=>⟨p,I⟩);rcases List.mem_cons.1 Y with rfl|Y
   ·exact W
   ·exact I G Y
def AD{S:ct}{F:iJ}{t:List iJ}(hf:S.fr=F::t)(h:QS z S):QS z (iQ S F t):=by
 obtain⟨h1,h2⟩:=h;rw[hf]at h2;refine⟨h1,λG Y=>?_⟩;rcases List.mem_cons.1 Y with rfl|Y
 ·exact h2 F cS
 ·exact h2 G (by simp[Y])
def Yw{I:L Ty×Bool}{S:ct}{s:L Ty}{F:iJ}{t:List iJ}{N:Int}{U:L UInt8}{J:L Nd}(T:MT I S s)(h:S.fr=F::t)(Q:F.code[F.pos]?=some (.mk 2 N 60 U J)){v:Vl}{q:L Vl}(O:S.st=v::q):vK v=10\/vK v=13:=by
 obtain⟨B,Y,D,M,K,H⟩:=T;rw[h]at Y;obtain⟨r,h1,h2,G,E⟩:=Ar Y Q;simp only[fD]at h1;rw[if_neg bT,if_neg bT]at h1;cases hf:bW 60 J with
 |none=>rw[hf]at h1;cases h1
 |some V =>
 rw[hf]at h1;have A:cT 60 (bf J) V s=(r,0):=h1;rw[O]at B;cases s with
 |nil=>exact B.elim
 |cons t s =>
  have P:=cW B.1.1;obtain⟨C,q1,p,u,rfl,rfl⟩:=JI hf bT;have W:(if bS t=10\/bS t=13 then di (cE u ((if bS t=13 then .mk 11 (au t)else aE t 0)::s,false)) (eT s)else aR 5)=(r,0):=A;split at W
  ·rename_i c;obtain⟨k,n,a,sx,ar,ty,co⟩:=v;have:=(iS P.2.1).1;show k=10\/k=13;omega
  ·cases W
def Vk{I:L Ty×Bool}{S:ct}{s:L Ty}{F:iJ}{t:List iJ}(D:vK z≠10/\vK z≠13)(V:MT I S s)(h:S.fr=F::t)(hq:QS z S):QS z (yS S F t).2:=by
 unfold yS;split
 ·exact Mb h hq
 split
 ·exact hq
 ·rename_i T N P M J B;split
  ·exact tE (AD h hq) rX
  ·split
   ·exact AD h hq
   ·rename_i H;split
    ·exact AD h hq
    ·obtain rfl:T=2:=by omega
     have W:QS z (iQ S F t):=AD h hq;refine Ta (S:={iQ S F t with used:=S.used+1}) W λe v q O=>?_;subst e;have Y:S.st=v::q:=O;have h1:=Yw V h B Y;rcases hq.1 v (by rw[Y];simp)with h2|rfl
     ·intro y Q;left;obtain⟨k,n,a,K,U,ty,G⟩:=v;have:=zp (show y∈U from Q);simp only[gQ]at h2;omega
     ·omega
def Mc{I:L Ty×Bool}(D:vK z≠10/\vK z≠13):∀(k:Nat)(S:ct)(s:L Ty),MT I S s->left S<=1000000000->QS z S->QS z (lG k S).2
 |0,S,s,_,_,hq=>hq
 |k+1,S,s,hT,hW,hq=>by
  cases Y:S.fr with
  |nil=>rw[S9 _ Y];exact hq
  |cons F t =>
   rw[O8 k Y];have h1:=Vk D hT Y hq;by_cases Q:(yS S F t).1=0
   ·rw[if_pos Q];obtain⟨W,K,q⟩:=Yv (O9 hT Y hW) Q;exact Mc D k _ W K bn h1
   ·rw[if_neg Q];exact h1
end
end Go.Proofs
namespace Go.Proofs
open Go.cK
mutual
def EM:∀(n:Nd)(t:Ty),(dV n t).2=true->eP (dV n t).1=true
 |.mk T N P S J,t,h=>by
  have K:=CE J (aE t 0);have Y:=CF J (au t);have W:=EN J;simp only[dV]at h ⊢
  repeat' split at h
  all_goals simp_all [eP,eg,qe]
  all_goals omega
def EN:∀(l:L Nd)(r:L Ty),eg (eW l r).1=true
 |[],[]=>rfl
 |[],_::_=>rfl
 |_::_,[]=>rfl
 |x::l,t::r=>by
  have h1:=EM x t;have h2:=EN l r;simp only[eW];split
  ·rename_i c;generalize eW l r=q at *;obtain⟨q,b⟩:=q;cases b
   ·rfl
   ·simp only[glue,adU,aeU,eg,h1 c,h2,ahC]
  ·rfl
def CE:∀(l:L Nd)(t:Ty),(eU l t).2=true->eg (eU l t).1=true
 |[],t,_=>rfl
 |x::l,t,h=>by
  simp only[eU,aai]at h;simp only[eU,eg,EM x t h.1,CE l t h.2,ahC]
def CF:∀(l:L Nd)(ts:L Ty),(ew l ts).2=true->eg (ew l ts).1=true
 |[],ts,_=>rfl
 |.mk T n P s xs::l,ts,h=>by
  simp only[ew,aai]at h;simp[ew,eg,eP,EN xs ts,CF l ts h.2]
end
def HU{t:Ty}{n:Nd}(h:(gD t n).2=0):gH t (gD t n).1=true:=by
 have h1:=(BK h).1;have h2:eP (gD t n).1=true:=by
  unfold gD at h ⊢
  repeat' split at h
  all_goals simp_all [EM]
 unfold gH;rw[h1,h2];rfl
def HV:∀(l:L Acc)(k i:Nat)(a:Acc),fE k l=true->l[i]?=some a->tD (k+i) a=true
 |[],k,i,a,_,h=>by simp at h
 |x::l,k,0,a,hg,h=>by
  simp at h;subst h;simp only[fE,aai]at hg;exact hg.1
 |x::l,k,i+1,a,hg,h=>by
  simp only[aeF]at h;simp only[fE,aai]at hg;have:=HV l (k+1) i a hg.2 h;rw[show k+(i+1)=k+1+i by omega];exact this
def EO:∀(l:L Acc)(k i:Nat)(b:Acc),fE k l=true->tD (k+i) b=true->fE k (l.set i b)=true
 |[],k,i,b,h,_=>by simpa using h
 |x::l,k,0,b,G,h=>by
  simp only[fE,aai]at G;simp only[List.set_cons_zero,fE,aai];exact⟨h,G.2⟩
 |x::l,k,i+1,b,G,h=>by
  simp only[fE,aai]at G;simp only[agI,fE,aai];exact⟨G.1,EO l (k+1) i b G.2 (by rw[show k+1+i=k+(i+1)by omega];exact h)⟩
def HW:∀(l:L Acc)(i:Nat)(a b:Acc),l[i]?=some a->j6 (l.set i b)=j6 l-a.dr+b.dr
 |[],i,a,b,h=>by simp at h
 |x::l,0,a,b,h=>by
  simp at h;subst h;simp only[List.set_cons_zero,j6];omega
 |x::l,i+1,a,b,h=>by
  simp only[aeF]at h;simp only[agI,j6,HW l i a b h];omega
def wo.get{l:gm}(h:wo l){i:Nat}{a:Acc}(ha:l.br[i]?=some a):tD i a=true:=by
 have:=HV l.br 0 i a (iL.1 h.good).2.1 ha;rwa[aeq]at this
def wo.set{l:gm}{i:Nat}{a b:Acc}{f:Int}(h:wo l)(ha:l.br[i]?=some a)(Q:tD i b=true)(Y:S3 b)(hf:f+b.dr=l.ez+a.dr)(W:0<=f):wo ⟨l.br.set i b,f⟩:=by
 obtain⟨g1,H,V⟩:=iL.1 h.good;have h1:fE 0 (l.br.set i b)=true:=EO _ _ _ _ H (by rw[aeq];exact Q);have h2:=HW l.br i a b ha;have U:=wH (l.br.set i b) λx O=>(ql _ _ h1 x O).1;unfold G3 at V;refine⟨by show(l.br.set i b).length=12;rw[agD];exact h.h12,iL.2 ⟨⟨W,?_⟩,h1,?_⟩,λx O=>?_⟩
 ·show f<=4000000;omega
 ·show f+j6 (l.br.set i b)=4000000;omega
 ·rcases List.mem_or_eq_of_mem_set O with h|rfl
  ·exact wo.size ‹_› x h
  ·exact Y
def HX{p s:Ty}{c:L Nd}{v:Vl}{i b n:Int}{t:Ty}(h1:bw p+bw s<=2097152)(h2:aU c<=1048576)(hf:gH t v=true)(Y:gQ v<=200):S3 ⟨i,b,n,p,s,c,v⟩:=by
 refine⟨h1,h2,?_⟩;have:=BL hf;show aM v<=12400000;omega
def L5{j:Nat}{a:Acc}(h:tD j a=true)(h2:a.is=2):(0<=a.dr/\a.dr<=4000000)/\4<=j/\a.cnt=0/\jb a.param a.store (.mk 3 0 0 [] a.code)=0/\gH a.store a.keep=true/\gQ a.keep<=200:=by
 unfold tD G1 gIn at h;rw[h2]at h;simp at h;exact⟨bn,bn,bn,bn,h.2.1.2,bn⟩
def Md{j:Nat}{a:Acc}(h2:a.is=2)(Q:0<=a.dr/\a.dr<=4000000)(Y:4<=j)(A:a.cnt=0)(V:jb a.param a.store (.mk 3 0 0 [] a.code)=0)(S:gH a.store a.keep=true)(K:gQ a.keep<=200):tD j a=true:=by
 unfold tD G1 gIn;rw[h2,A,V,S];simp;omega
def DR{j:Nat}{a:Acc}(h:tD j a=true):(a.is=0/\a.dr=0/\a.cnt=0/\4<=j)\/(a.is=1/\j<4)\/(a.is=2/\4<=j):=by
 unfold tD G1 gIn at h;by_cases h1:a.is=1
 ·simp[h1]at h;omega
 ·by_cases Q:a.is=0
  ·simp[Q]at h;omega
  ·by_cases h2:a.is=2
   ·simp[h2]at h;omega
   ·simp[h1,Q,h2]at h
def EP{t:Ty}:∀{l:L Vl}{x:Vl},aS l t=true->x∈l->bL x t=true
 |y::l,x,h,O=>by
  simp only[aS,aai]at h;rcases List.mem_cons.1 O with rfl|O
  ·exact h.1
  ·exact EP h.2 O
def ES:∀{l:L Vl}{x:Vl},eg l=true->x∈l->eP x=true
 |y::l,x,h,O=>by
  simp only[eg,aai]at h;rcases List.mem_cons.1 O with rfl|O
  ·exact h.1
  ·exact ES h.2 O
def Vm{p:Ty}{v:Vl}(S:iT p=true)(h1:bL v p=true)(h2:bL v (.mk 10 [.mk 8 []])=true):eC v=[]:=by
 obtain⟨k,n,a,s,J,B,code⟩:=v;obtain⟨T,ts⟩:=p;have D:=(iS h2).1;have G:=(iS h1).1;simp only[bS]at D G;subst D;subst G;rcases J with _|⟨x,r⟩
 ·rfl
 exfalso;simp[bL,bS,aE,au]at h1 h2;have I:bL x (.mk 8 [])=true:=by
  have:=h2.2;simp[aS]at this;exact this.2.1
 have q:bL x (ts.getD 0 kX)=true:=by
  have:=h1.2;simp[aS]at this;exact this.2.1
 obtain⟨k,Q,A,O,C,Y,W⟩:=x;have P:=(iS I).1;have V:=(iS q).1;rcases ts with _|⟨u,ts⟩
 ·simp only[ahz,kX,bS]at P V;omega
 ·obtain⟨U,us⟩:=u;simp only[aaf,bS]at P V;have:U=8:=by omega
  subst this;simp[iT,CG,ET,JJ]at S
structure ZZ(r:OY)(g:Int)(store:Ty):Prop where
 code:r.code=0\/r.code=10\/r.code=11\/r.code=12\/r.code=13
 cC:0<=r.cC/\r.cC<=g
 az:0<=r.az/\r.az<=bN
 ends:r.code=0->∃x y,r.st=[bA x y]/\gH store y=true/\gQ y<=200/\(eC x).length<=24/\∀o∈eC x,gH (.mk 8 []) o=true/\gQ o<=200
def Vh{to fT n dr:Int}{code:L Nd}{param store:Ty}{v keep:Vl}{g:Int}(h1:0<=to/\to<12)(h2:0<=fT/\fT<12)(B:0<=n/\n<=bN)(h4:0<=dr/\dr<=4000000)
  (Y:jb param store (.mk 3 0 0 [] code)=0)(A:gH param v=true)(hk:gH store keep=true)(zv:aM v<=12400000)(zk:aM keep<=12400000)(sk:gQ keep<=200)(hg:0<=g/\g<=3000) :
  ZZ (GS to fT n dr (.mk 3 0 0 [] code) [.mk 11 [param,store]] [.mk 11 0 0 [] [v,keep] [] []] g) g store:=by
 unfold jb at Y;split at Y
 ·cases Y
 rename_i N;simp only[agQ,aai]at N;split at Y
 ·rename_i c;exact absurd Y c
 rename_i H;simp only[ne_eq,aey]at H;split at Y
 ·cases Y
 rename_i c3;obtain⟨f1,M,f3⟩:=cW A;obtain⟨k1,k2,k3⟩:=cW hk;obtain⟨q1,q2,q3,K,q5⟩:=uz H;have G:=kO (x:=v) (y:=keep) ⟨M,f3⟩ ⟨k2,k3⟩;have S:gH (.mk 11 [param,store]) (bA v keep)=true:=by
  unfold gH nG;simp only[aeL,List.all_nil,afl]at K;rw[K,G.1,G.2];rfl
 have hok:XT to fT n dr (.mk 3 0 0 [] code) [.mk 11 [param,store]] [bA v keep]=true:=by
  refine uy.2 ⟨H,Z,?_,?_⟩
  ·have Vn:n<=1152921504606846976:=B.2;unfold qb Me Mf;simp;omega
  ·simp only[yH,S,ahC]
 have U:VlS [bA v keep]:=λx O=>by
  rw[afD]at O;subst O;simp only[bA,aM,aO,bz,aU,aad];omega
 have W:0<=g/\g<=1000000:=by omega
 obtain⟨w1,E⟩:=Ri hok U W
 have wb:=Mc (z:=bA v keep) ⟨by show(11:Int)≠10;decide,by show(11:Int)≠13;decide⟩ (left (yP to fT n dr code [bA v keep] g)+1) _ _ (Ey hok U W) (HL hok W) ⟨λx O => .inr (List.mem_singleton.1 O),λF hF x O=>by
  rw[List.mem_singleton.1 hF]at O;simp at O⟩
 have e:GS to fT n dr (.mk 3 0 0 [] code) [.mk 11 [param,store]] [.mk 11 0 0 [] [v,keep] [] []] g=th (vt to fT n dr (.mk 3 0 0 [] code) [bA v keep] g):=by
  unfold GS;exact if_pos hok
 rw[e];have V:QS (bA v keep) (vt to fT n dr (.mk 3 0 0 [] code) [bA v keep] g).2:=wb;generalize vt to fT n dr (.mk 3 0 0 [] code) [bA v keep] g=o at E V;obtain⟨⟨s1,s2,s3,s4,s5⟩,u,m,w⟩:=E;have sg:o.2.cC=g:=s5;refine⟨?_,⟨u.1,by rw[<- sg];exact u.2⟩,?_,?_⟩
 ·rcases w with ⟨w,_⟩|w|w|⟨w,_⟩|⟨w,_⟩<;>simp only[th]<;>omega
 ·simp only[th];split
  ·exact m
  ·exact⟨bn,ga⟩
 ·intro h0;have Yx:o.1=0:=h0;rcases w with ⟨_,_,D,w4⟩|w|w|⟨w,_⟩|⟨w,_⟩
  rotate_left
  ·omega
  ·omega
  ·omega
  ·omega
  have Q:gJ (jP (.mk 3 0 0 [] code) [.mk 11 [param,store]]).1.1 [.mk 11 [.mk 10 [.mk 8 []],store]]=true:=by
   cases hh:gJ (jP (.mk 3 0 0 [] code) [.mk 11 [param,store]]).1.1 [.mk 11 [.mk 10 [.mk 8 []],store]]with
   |true=>rfl
   |false=>exact absurd ⟨w4,hh⟩ c3
  rw[(nh _ _).1 Q]at D;obtain⟨out,q,I,e2,e3⟩:=bl D;obtain rfl:=Vo e3;obtain⟨g1,g2,g3⟩:=cW e2.1;obtain⟨x,y,rfl,⟨C,x2⟩,y1,y2⟩:=tF g2 g3;obtain⟨xs,rfl,xl,xa,xb⟩:=wI C x2;have P:∀o∈xs,gH (.mk 8 []) o=true:=λo p=>by
   unfold gH nG;rw[EP xa p,ES xb p];rfl
  refine⟨.mk 10 0 0 [] xs [] [],y,by simp only[th];rw[if_pos Yx,I],by unfold gH nG;rw[k1,y1,y2];rfl,?_,(show xs.length<=24 from xl),λo p=>⟨P o p,?_⟩⟩
  ·rcases V.1 (bA (.mk 10 0 0 [] xs [] []) y) (by rw[I];simp)with h|h
   ·simp only[bA,gQ,iP]at h;omega
   ·simp only[bA,Vl.mk.injEq,List.cons.injEq]at h;rw[h.2.2.2.2.1.2.1];exact sk
  ·rcases V.1 (bA (.mk 10 0 0 [] xs [] []) y) (by rw[I];simp)with h|h
   ·simp only[bA,gQ,iP]at h;have:gQ o<=iP xs:=zp p;omega
   ·simp only[bA,Vl.mk.injEq,List.cons.injEq]at h;have J:=Vm N.1.2 M (by rw[<- h.2.2.2.2.1.1];exact C);rw[<- h.2.2.2.2.1.1]at J;simp only[eC]at J;have T:o∈xs:=p;rw[J]at T;simp at T
def Mg(l:gm)(F T n:Int):jH l F T n≠14:=by
 unfold jH
 repeat' split
 all_goals decide
def Az{x:Au}(O:Dw x)(t:Ty):((ov x t).2=0/\gH t (ov x t).1=true/\aM (ov x t).1<=12400000)\/(ov x t).2=5:=by
 obtain⟨fT,K,v⟩:=x;cases K with
 |none =>
  obtain⟨h1,h2,_⟩:gH (.mk 8 []) v=true/\aM v<=12400000/\4<=fT:=O;obtain⟨n,a,u,us,y,rfl,_,_,_,V⟩:=LU h1;unfold ov;simp only[GX,eC,aaf];split
  ·rename_i c;rw[(gF _ _).1 c]at V;refine .inl ⟨Z,V,?_⟩;simp only[aM,aO]at h2;show aM y<=_;omega
  ·exact .inr Z
 |some o =>
  unfold ov;dsimp only;split
  ·rename_i c;refine .inl ⟨Z,HU c,?_⟩;have h1:=xS t o.arg;have h2:bM o.arg<=1048576:=O.1;show aM (gD t o.arg).1<=_;omega
  ·exact .inr Z
structure Mh(w:Wk)(r:List Au×Int)(w':Wk):Prop where
 ok:Ld w'
 items:∀y∈r.1,Dw y
 UA:r.1.length<=24
 code:r.2≠14
 cC:w'.cC+w'.used=w.cC+w.used
 used:w.used<=w'.used
 done:w'.done=w.done
 ez:w'.l.ez=w.l.ez
def iI{w:Wk}(h:Ld w){e:Int}(S:e≠14):Mh w ([],e) w:=⟨h,λy Q=>by simp at Q,by simp,S,Z,aeX _,Z,Z⟩
def Tb{w:Wk}(h:Ld w){l:gm}(E:wo l)(hf:l.ez=w.l.ez):Mh w ([],0) {w with l:=l}:=⟨⟨E,h.cC,h.az,h.done,h.UA⟩,λy Q=>by simp at Q,by simp,by decide,Z,aeX _,Z,hf⟩
def Vp{w:Wk}{x:Au}(N:Ld w)(O:Dw x)(to n:Int):Mh w (LO w x to n).1 (LO w x to n).2:=by
 have hg:=N.cC;unfold LO;split
 ·exact iI N (Mg _ _ _ _)
 rename_i e;simp only[ne_eq,aey]at e;obtain⟨h1,j,rfl,hj,I⟩:=Jz N.Dx e;obtain⟨i,_,aF,_,H,_,E,_,_,_,B,A,_⟩:=DP N.Dx.h12 e;have hi:i<12:=by have:=(List.getElem?_eq_some_iff.1 E).1;have:=N.Dx.h12;omega
 have ha:=ng (l:=GY w.l x.fT j n) (i:=j) h1.h12 bn bn;rw[aaC]at ha;have Y:(GY w.l x.fT j n).ez=w.l.ez:=rfl;generalize GY w.l x.fT j n=Ll at *;generalize iG Ll j=a at *;split
 ·split
  ·rename_i c;rcases Az O (.mk 1 [])with h|h
   ·exact absurd h.1 c
   ·rw[h];exact iI N bT
  ·exact Tb N h1 Y
 rename_i OG;have U:=h1.get ha;have W:a.is=2:=by rcases DR U with h|h|h<;>omega
 obtain⟨S,u,p,P,b5,b6⟩:=L5 U W;have T:=h1.size a (aaB ha);split
 ·rename_i c;rcases Az O a.param with h|h
  ·exact absurd h.1 c
  ·rw[h];exact iI N bT
 rename_i c;rcases Az O a.param with ⟨h,hf,D⟩|h
 rotate_left
 ·omega
 have C:ZZ (Rk w x j n a (ov x a.param).1) w.cC a.store:=Vh ⟨bn,bn⟩ ⟨bn,bn⟩ ⟨B,A⟩ S P hf b5 D T.2.2 b6 bn;generalize Rk w x j n a (ov x a.param).1=r at C;obtain⟨r1,r2,r3,r4⟩:=C;have M:=N.az;unfold Rm;dsimp only;split
 ·exact⟨⟨N.Dx,⟨by show 0<=w.cC-r.cC;omega,by show 0<=w.used+r.cC;omega,by show w.cC-r.cC+(w.used+r.cC)<=3000;omega⟩,M,N.done,N.UA⟩,λy Q=>by simp at Q,cS,by show r.code≠14;omega,XS,abQ,Z,Z⟩
 rename_i K;simp only[ne_eq,aey]at K;have V:0<=w.cC-r.cC/\0<=w.used+r.cC/\w.cC-r.cC+(w.used+r.cC)<=3000:=by omega
 split
 ·exact⟨⟨N.Dx,V,M,N.done,N.UA⟩,λy Q=>by simp at Q,cS,by show(11:Int)≠14;decide,XS,abQ,Z,Z⟩
 rename_i cm;obtain⟨x',y,e1,q,G,e4,e5⟩:=r4 K;rw[e1];simp only[aaf,aag,bA,eC];refine⟨⟨?_,V,⟨by show 0<=w.az+r.az;omega,by show w.az+r.az<=bN;omega⟩,N.done,N.UA⟩,λz D=>?_,by rw[aeA];exact e4,T1,XS,abQ,Z,Y⟩
 ·show wo ⟨Ll.br.set j {a with keep:=y},Ll.ez⟩;exact h1.set ha (Md W S u p P q G) (HX T.1 T.2.1 q G) Z (iL.1 h1.good).1.1
 ·obtain⟨o,ho,rfl⟩:=List.mem_map.1 D;obtain⟨J,f2⟩:=e5 o ho;have:=BL J;exact⟨J,by show aM o<=12400000;omega,by show(4:Int)<=(j:Int);omega⟩
def Pb(s:L Ty):(eT s).2≠14:=by show(0:Int)≠14;decide
def EU:(aR 1).2≠14:=by decide
def Pc:(aR 5).2≠14:=by decide
def JK{e:Int}(h:e≠14):(aR e).2≠14:=h
def aaT{c:Prop}[Decidable c]{a b:CR}(ha:a.2≠14)(Q:b.2≠14):(if c then a else b).2≠14:=by split<;>assumption
def BM{a b:CR}(ha:a.2≠14)(Q:b.2≠14):(di a b).2≠14:=by
 unfold di
 repeat' split
 all_goals first|exact ha|exact Q|exact Pc|(show(0:Int)≠14;decide)
section
variable {codes : L (L Ty -> CR)}
def Vq(A:∀f∈codes,∀s,(f s).2≠14)(i:Nat)(s:L Ty):(aV codes i s).2≠14:=by
 unfold aV List.getD;cases h:codes[i]? with
 |none=>exact EU
 |some f=>exact A f (aaB h) s
def Tc(A:∀f∈codes,∀s,(f s).2≠14)(P:Int)(J:L Nd)(B s:L Ty):(mU P J codes B s).2≠14:=by
 have h1:=Vq A;unfold mU gV aX cT cM bX cx cg
 repeat' (first|exact Pb _|exact Pc|exact EU|exact BM (h1 _ _) (h1 _ _)|exact BM (h1 _ _) (Pb _)|exact JK (BM (h1 _ _) (Pb _))|exact JK (h1 _ _)|(show(0:Int)≠14;decide)|refine aaT ?_ ?_|split)
end
def Vr{r:CR}(h:r.2≠14):(mm r).2≠14:=by
 unfold mm
 repeat' split
 all_goals first|exact h|(show(0:Int)≠14;decide)|(show(7:Int)≠14;decide)|(show(4:Int)≠14;decide)
mutual
def DT:∀(l:L Nd)(o:L Ty×Bool),(cE l o).2≠14
 |[],o=>by simp only[cE];decide
 |n::l,o=>by
  have h1:=Vr (Vs n o.1);have h2:=DT l;simp only[cE]
  repeat' split
  all_goals first|exact EU|exact h1|exact h2 _
def Vs:∀(n:Nd)(s:L Ty),(fD n s).2≠14
 |.mk T N P S J,s=>by
  have h1:=DT J (s,false);have h2:=HY J;simp only[fD]
  repeat' split
  all_goals first|exact h1|exact EU|exact Tc h2 _ _ _ _
def HY:∀(l:L Nd),∀f∈bf l,∀s,(f s).2≠14
 |[],f,h,s=>by simp[bf]at h
 |.mk k n p z a::l,f,h,s=>by
  simp only[bf,aeB]at h;rcases h with rfl|h
  ·exact DT a (s,false)
  ·exact HY l f h s
end
def Td(T n p:Int)(s:L UInt8)(k:Nat)(d:Int):gp T n p s k d≠14:=by
 unfold gp
 repeat' split
 all_goals decide
mutual
def Mi:∀(n:Nd)(d:Int),eR n d≠14
 |.mk T n p s J,d=>by
  have h1:=Td T n p s J.length d;have h2:=HZ J (d+1);simp only[eR];split
  ·exact h2
  ·exact h1
def HZ:∀(l:L Nd)(d:Int),dI l d≠14
 |[],d=>by simp only[dI];decide
 |x::l,d=>by
  have h1:=Mi x d;have h2:=HZ l d;simp only[dI];split
  ·exact h2
  ·exact h1
end
def Te(n:Nd):dY n≠14:=by
 have:=Mi n 1;unfold dY
 repeat' split
 all_goals first|exact this|decide
def Pd{p s:Ty}{n:Nd}:jb p s n≠14:=by
 have h:∀s,(jP n s).2≠14:=λs=>by
  unfold jP
  repeat' split
  all_goals first|exact JK (Te _)|exact EU|exact Pc|exact DT _ _|(show(7:Int)≠14;decide)
 unfold jb
 repeat' split
 all_goals first|exact h _|decide
end Go.Proofs
namespace Go.Proofs
open Go.cK
def n0:(0:Int)≠14:=by decide
def n3:(3:Int)≠14:=by decide
def n5:(5:Int)≠14:=by decide
def n7:(7:Int)≠14:=by decide
def H6:∀(l:L Acc)(k:Nat),k<=gf l k/\gf l k<=k+l.length/\(gf l k<k+l.length->∃a,l[gf l k-k]?=some a/\a.is=0)
 |[],k=>⟨aaj _,aaj _,λh=>by simp[gf]at h⟩
 |a::l,k=>by
  obtain⟨h1,h2,V⟩:=H6 l (k+1);unfold gf;split
  ·rename_i h;exact⟨aaj _,cS,λ_=>⟨a,cS,h⟩⟩
  ·refine⟨bn,dG,λh=>?_⟩;obtain⟨b,I,W⟩:=V (by simp only[aac]at h;omega);exact⟨b,by rw[show gf l (k+1)-k=gf l (k+1)-(k+1)+1 by omega,aeF];exact I,W⟩
def L6{l:gm}(h:wo l):4<=gf (l.br.drop 4) 4/\gf (l.br.drop 4) 4<=12/\(gf (l.br.drop 4) 4<12->∃a,l.br[gf (l.br.drop 4) 4]?=some a/\a.is=0):=by
 have h12:=h.h12;obtain⟨h1,h2,V⟩:=H6 (l.br.drop 4) 4;rw[aeI]at h2 V;refine⟨h1,bn,λO=>?_⟩;obtain⟨a,I,W⟩:=V bn;rw[agk]at I;exact⟨a,by rw[<- I];congr 1;omega,W⟩
def Pe{p s:Ty}{n:Nd}(h:jb p s n=0):n = .mk 3 0 0 [] (cI n)/\bB p=true/\bB s=true:=by
 unfold jb at h;split at h
 ·cases h
 rename_i u;simp only[agQ,aai]at u;split at h
 ·rename_i c;exact absurd h c
 rename_i H;simp only[ne_eq,aey]at H;obtain⟨q1,Y,_⟩:=uz H;obtain⟨T,N,P,S,J⟩:=n;simp only[ndK]at Y;subst Y;have h1:=(jT (kf.1 q1).1).1;unfold gp at h1;have h2:N=0/\P=0/\S=[]:=by
  by_cases I:N=0
  ·by_cases W:P=0
   ·by_cases G:S=[]
    ·exact⟨I,W,G⟩
    ·simp[G]at h1
   ·simp[W]at h1
  ·simp[I]at h1
 obtain⟨rfl,rfl,rfl⟩:=h2;exact⟨Z,u.1.1.1,u.1.1.2⟩
def HS{w:Wk}{o:BD}(N:wo w.l)(K:LS o)(h1:¬((aP o.t0).2≠0\/(aP o.t1).2≠0))(h2:jb (aP o.t0).1 (aP o.t1).1 o.code=0)(S:¬((gD (aP o.t1).1 o.arg).2≠0\/200<gQ (gD (aP o.t1).1 o.arg).1))(O:gf (w.l.br.drop 4) 4≠12) :
  wo (w.l.lB (gf (w.l.br.drop 4) 4) (newAcc o)):=by
 obtain⟨P,M,B⟩:=L6 N;obtain⟨a,ha,I⟩:=B bn;have W:=N.get ha;have Q:a.dr=0:=by rcases DR W with h|h|h<;>omega
 obtain⟨V,T,U⟩:=Pe h2;have Y:(gD (aP o.t1).1 o.arg).2=0/\gQ (gD (aP o.t1).1 o.arg).1<=200:=by omega
 have hf:=HU Y.1;have G:=(cH T).2;have H:=(cH U).2;have E:aU (cI o.code)<=bM o.code:=by
  obtain⟨k,n,p,s,J⟩:=o.code;simp only[cI,bM];omega
 have D:=K.2.2.2;show wo ⟨w.l.br.set _ (newAcc o),w.l.ez⟩;refine N.set ha (Md Z ⟨aeX _,by show(0:Int)<=4000000;decide⟩ P Z ?_ hf Y.2) (HX bn bn hf Y.2) (by rw[Q];rfl) (iL.1 N.good).1.1;show jb (aP o.t0).1 (aP o.t1).1 (.mk 3 0 0 [] (cI o.code))=0;rw[<- V];exact h2
def aaU{w:Wk}{o:BD}(N:Ld w)(C:(w.made.length:Int)<=w.done)(p:LS o)(fT:Int):Mh w ([],(orM w fT o).1) (orM w fT o).2:=by
 unfold orM;split
 ·first|exact iI N n5|exact iI N n7|exact iI N n3
 rename_i u;split
 ·exact iI N Pd
 rename_i H;simp only[ne_eq,aey]at H;split
 ·first|exact iI N n5|exact iI N n7|exact iI N n3
 rename_i W;split
 ·first|exact iI N n5|exact iI N n7|exact iI N n3
 rename_i c4;have h1:=HS N.Dx p u H W c4;split
 ·exact iI N (Mg _ _ _ _)
 rename_i Y;simp only[ne_eq,aey]at Y;exact⟨⟨(Jz h1 Y).1,N.cC,N.az,N.done,by show((w.made++[_]).length:Int)<=w.done+1;simp only[aaz,aac,aad];omega⟩,λy Q=>by simp at Q,cS,n0,Z,aeX _,Z,Z⟩
def JD{w:Wk}{x:Au}(N:Ld w)(C:(w.made.length:Int)<=w.done)(O:Dw x):Mh w (nB w x).1 (nB w x).2:=by
 unfold nB;obtain⟨fT,K,v⟩:=x;cases K with
 |none=>exact Vp N O _ _
 |some o =>
  dsimp only;split
  ·exact Vp N O _ _
  split
  ·exact aaU N C O fT
  ·first|exact iI N n5|exact iI N n7|exact iI N n3
structure Z0(w:Wk)(o:Int×Wk):Prop where
 ok:Ld o.2
 code:o.1≠14
 cC:o.2.cC+o.2.used=w.cC+w.used
 used:w.used<=o.2.used
 ez:o.2.l.ez=w.l.ez
 made:o.1=0->(o.2.made.length:Int)<=o.2.done
def JL:∀(k:Nat)(w:Wk)(q:L Au),Ld w->(w.made.length:Int)<=w.done->(∀x∈q,Dw x)->Z0 w (allM k w q)
 |0,w,[],N,C,hq=>⟨N,T1,Z,aeX _,Z,λ_=>C⟩
 |k+1,w,[],N,C,hq=>⟨N,T1,Z,aeX _,Z,λ_=>C⟩
 |0,w,x::q,N,C,hq=>⟨N,by show(7:Int)≠14;decide,rfl,aeX _,rfl,λh=>by cases h⟩
 |k+1,w,x::q,N,C,hq=>by
  have h:=JD N C (hq x cS);unfold allM;split
  ·exact⟨N,n7,rfl,aeX _,rfl,λh=>by cases h⟩
  rename_i c;split
  ·rename_i H;exact⟨h.ok,h.code,h.cC,h.used,h.ez,λh=>absurd h H⟩
  ·have h2:Ld {(nB w x).2 with done:=(nB w x).2.done+1}:=⟨h.ok.Dx,h.ok.cC,h.ok.az,by have:=h.done;have:=N.done;show 0<=(nB w x).2.done+1/\(nB w x).2.done+1<=24;omega,by have:=h.ok.UA;show((nB w x).2.made.length:Int)<=(nB w x).2.done+1+1;omega⟩
   have V:=JL k _ (q++(nB w x).1.1) h2 h.ok.UA λy Q=>by
    rcases List.mem_append.1 Q with Q|Q
    ·exact hq y (by simp[Q])
    ·exact h.items y Q
   exact⟨V.ok,V.code,V.cC.trans h.cC,Int.le_trans h.used V.used,V.ez.trans h.ez,V.made⟩
def Rt(S:Int):∀(l:L BD)(w:Wk),Ld w->(w.made.length:Int)<=w.done->(∀o∈l,LS o)->Z0 w (qB S w l)
 |[],w,N,C,hl=>⟨N,T1,Z,aeX _,Z,λ_=>C⟩
 |o::r,w,N,C,hl=>by
  have h:=JL 25 w [⟨S,some o,ou⟩] N C λx O=>by
   rw[afD]at O;subst O;exact hl o cS
  unfold qB;split
  ·exact h
  ·rename_i c;simp only[ne_eq,aey]at c;have h2:=Rt S r _ h.ok (h.made c) λx O=>hl x abB;exact⟨h2.ok,h2.code,h2.cC.trans h.cC,Int.le_trans h.used h2.used,h2.ez.trans h.ez,h2.made⟩
def JM{l:gm}{b:yJ}(h:Dv l b=0):qC l=true/\(0<=b.src/\b.src<4)/\((iG l b.src).cnt<bN/\b.cnt=(iG l b.src).cnt+1)/\(0<=b.rO/\0<=b.cC)/\(b.ops.length≠0/\b.ops.length<=8)/\b.rO<=(iG l b.src).dr:=by
 unfold Dv at h
 repeat' split at h
 all_goals first|(simp at h;done)|skip
 rename_i u H p c4 Y O;simp only[agQ]at u;refine⟨u,bn,bn,bn,bn,bn⟩
def Yy(l:gm)(b:yJ):Dv l b≠14:=by
 unfold Dv
 repeat' split
 all_goals decide
def Ru{l:gm}{b:yJ}(E:wo l)(h:Dv l b=0):wo (SZ l b):=by
 obtain⟨_,h2,V,S,K,q⟩:=JM h;have ha:=ng E.h12 (i:=b.src) bn bn;have Y:=E.get ha;have G:=E.size _ (aaB ha);have Q:=E.dr _ (aaB ha);have U:=(iL.1 E.good).1;unfold SZ;generalize iG l b.src=a at *;refine E.set (b:={a with cnt:=a.cnt+1,dr:=a.dr-b.rO}) ha ?_ G (by show l.ez+b.rO+(a.dr-b.rO)=_;omega) bn;have h1:a.is=1:=by rcases DR Y with h|h|h<;>omega
 unfold tD G1 gIn at Y ⊢;simp only[h1]at Y ⊢;simp at Y ⊢;unfold bN at V;refine⟨⟨⟨bn,bn⟩,bn⟩,?_⟩;have W:=Y.2;unfold AE at W ⊢;exact W
def Rv{l:gm}{b:yJ}(E:wo l)(h:Dv l b=0)(G:b.cC<=3000):Ld (vJ l b):=by
 have S:=(JM h).2.2.2.1;exact⟨Ru E h,⟨S.2,aeX _,by show b.cC+0<=3000;omega⟩,⟨aeX _,by show(0:Int)<=bN;decide⟩,⟨aeX _,by show(0:Int)<=24;decide⟩,by show((0:Nat):Int)<=0+1;decide⟩
def Rw{l:gm}{b:yJ}(E:wo l)(G:b.cC<=3000)(Q:∀o∈b.ops,LS o):wo (qD l b).1/\(0<=(qD l b).2.cC/\(qD l b).2.cC<=max b.cC 0)/\(qD l b).2.code≠14/\(l.ez<=(qD l b).1.ez/\(qD l b).1.ez-l.ez<=max b.rO 0):=by
 unfold qD;split
 ·exact⟨E,⟨aeX _,by show(0:Int)<=max b.cC 0;omega⟩,Yy _ _,aeX _,by show l.ez-l.ez<=_;omega⟩
 rename_i c;simp only[ne_eq,aey]at c;have S:=(JM c).2.2.2.1;have h:=Rt b.src b.ops _ (Rv E c G) (aeX _) Q;have h1:(qB b.src (vJ l b) b.ops).2.cC+(qB b.src (vJ l b) b.ops).2.used=b.cC+0:=h.cC;have h2:0<=(qB b.src (vJ l b) b.ops).2.used:=h.used;have V:=h.ok.cC;have Y:(qB b.src (vJ l b) b.ops).2.l.ez=l.ez+b.rO:=h.ez;split
 ·exact⟨Ru E c,⟨h2,ab7⟩,h.code,by show l.ez<=l.ez+b.rO;omega,by show l.ez+b.rO-l.ez<=_;omega⟩
 ·exact⟨h.ok.Dx,⟨h2,ab7⟩,T1,by show l.ez<=(qB b.src (vJ l b) b.ops).2.l.ez;omega,by show(qB b.src (vJ l b) b.ops).2.l.ez-l.ez<=_;omega⟩
end Go.Proofs
