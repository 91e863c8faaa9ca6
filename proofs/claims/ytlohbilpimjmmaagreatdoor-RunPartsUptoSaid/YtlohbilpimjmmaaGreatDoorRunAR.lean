/- Package run: a typed machine works until it ends, as a plain function says. Package run: a typed machine works until it ends, as a plain function says: the whole. Package run: Run is a plain function. Package run: turns of the machine; work does not hang on the fuel. Package run: who pays for more t -/
import Derived.Test.YtlohbilpimjmmaaGreatDoorRunAL
import Derived.Test.YtlohbilpimjmmaaGreatDoorRunJ
set_option linter.unusedVariables false
set_option linter.unusedSimpArgs false
namespace Go.Proofs
open Go.cu
def jy (S:bT) (F:eO) (t:List eO):MR :=
 if F.fin=1 then(0,{S with st:=F.aside.reverse++S.st,fr:=t})
 else if F.fin=2 then(match S.st with
  | []=>(14,S)
  | v::_=>(0,{S with st:=v::F.aside.reverse,fr:=t}))
 else if F.fin=3 then(match F.aside with
  | []=>(0,{S with fr:=t})
  | x::q=>if S.gS<=S.used then(12,S)else(0,{S with st:=x::S.st,fr:=⟨F.code,0,3,q⟩::t,used:=S.used+1}))
 else if F.fin=4 then(match S.st with
  | []=>(14,S)
  | v::q=>if vN v=1 then(if S.gS<=S.used then(12,{S with st:=q})else(0,{S with st:=q,fr:=⟨F.code,0,4,F.aside⟩::t,used:=S.used+1}))else(0,{S with st:=q,fr:=t}))
 else(0,{S with fr:=t})
def gL:Nat->bT->MR
 | 0,S=>(12,S)
 | k+1,S=>match S.fr with
  | []=>(0,S)
  | F::t=>if F.pos=F.code.length then(if(jy S F t).1=0 then gL k (jy S F t).2 else jy S F t)
   else match F.code[F.pos]? with
    | none=>(14,S)
    | some (.mk kind N P s args) =>
     if kind=3 then gL k (dr (fL S F t) args 0 [])
     else if kind≠2 then(14,fL S F t)
     else if S.gS<=S.used then(12,fL S F t)
     else if(aI P args {fL S F t with used:=S.used+1}).1=0 then gL k (aI P args {fL S F t with used:=S.used+1}).2 else aI P args {fL S F t with used:=S.used+1}
structure MT (pr:List Ty×Bool) (S:bT) (s:List Ty):Prop where
 fit:dK s S.st
 ft:FT pr S.fr s
 env:qk S.self S.gU S.gV S.balance=true
 Vn:0<=S.aU/\S.aU<=bM
 used:0<=S.used/\S.used<=S.gS
 gS:S.gS<=1000000
def left (S:bT):Nat:=(S.gS-S.used).toNat*900+xX S.fr
def D9 (S S':bT):Prop:=S'.self=S.self/\S'.gU=S.gU/\S'.gV=S.gV/\S'.balance=S.balance/\S'.gS=S.gS
def Nk (T:List Ty×Bool) (S:bT) (o:MR):Prop :=
 D9 S o.2/\(0<=o.2.used/\o.2.used<=o.2.gS)/\(0<=o.2.aU/\o.2.aU<=bM) /\
 ((o.1=0/\∃P,MT T o.2 P/\left o.2<left S)\/o.1=11\/o.1=13\/(o.1=12/\o.2.used=o.2.gS)\/(o.1=10/\vK o.2.said≠0/\aM o.2.said<=25000000))
theorem KE {l:List Nd} {i:Nat} {x:Nd} (h:l[i]?=some x):cr (l.drop i)=many x+cr (l.drop (i+1)):=by
 have e:l.drop i=x::l.drop (i+1):=by
  obtain⟨h1,h2⟩:=List.getElem?_eq_some_iff.1 h;rw[List.drop_eq_getElem_cons h1,h2]
 rw[e];rfl
theorem Tm (l:List Nd) (i:Nat):cr (l.drop i)<=cr l:=by
 induction i generalizing l with
 | zero=>exact aam _
 | succ i S=>cases l with
  | nil=>exact aam _
  | cons x l=>have:=S l;simp only[List.drop_succ_cons,cr];omega
theorem xZ {c:Prop} [Decidable c] {Q:MR->Prop} {a b:MR} (h1:c->Q a) (h2:¬c->Q b):Q (if c then a else b):=by grind
theorem HX (S:bT) (F:eO) (t:List eO) (h:S.fr=F::t) (hf:F.fin=0\/F.fin=1\/F.fin=2\/F.fin=3\/F.fin=4) (V:S.st.length<=500000000) (p:F.fin=1\/F.fin=2->F.aside.length<=500000000) (C:t.length<=1099511627776) (I:Og S.gS) (A:0<=S.used) :
  iC 54 S [.ptr 1000002 (0+t.length*4)] (jy S F t):=by
 obtain⟨a,b,c,d,E,fr,g,u,m,said⟩:=S;obtain⟨B,Y,fin,T⟩:=F;simp only at h hf V p I A;subst h;rcases hf with rfl|rfl|rfl|rfl|rfl
 ·exact yH ⟨a,b,c,d,E,⟨B,Y,0,T⟩::t,g,u,m,said⟩ ⟨B,Y,0,T⟩ t rfl rfl C
 ·exact Nl a b c d E g u m said B Y T t V (p (.inl rfl)) C
 ·cases E with
  | nil=>exact HY a b c d [] g u m said B Y T t C
  | cons v E =>
   simp only[aaa]at V;cases T with
   | nil=>exact HZ a b c d v E g u m said B Y t bn C
   | cons x q=>exact H6 a b c d v E g u m said B Y x q t bn (by have:=p (.inr rfl);simp only[aaa]at this;omega) C
 ·cases T with
  | nil=>exact H7 a b c d E g u m said B Y t C
  | cons x q =>
   show iC _ _ _ (if g<=u then _ else _:MR);by_cases Q:g<=u
   ·rw[if_pos Q];exact H8 a b c d E g u m said B Y x q t Q C
   ·rw[if_neg Q];exact H9 a b c d E g u m said B Y x q t bn I A V C
 ·cases E with
  | nil=>exact Ia a b c d [] g u m said B Y T t cn C
  | cons v E =>
   obtain⟨U,K,P,J,W,O,H⟩:=v;simp only[aaa]at V;show iC _ _ _ (if K=1 then(if g<=u then _ else _)else _:MR);by_cases N:K=1
   ·subst N;rw[if_pos rfl];by_cases Q:g<=u
    ·rw[if_pos Q];exact Ib a b c d U P J W O H E g u m said B Y T t Q bn C
    ·rw[if_neg Q];exact Ic a b c d U P J W O H E g u m said B Y T t bn I A bn C
   ·rw[if_neg N];exact Ie a b c d U K P J W O H N E g u m said B Y T t bn C
theorem zq {H:List Ty×Bool} {S:bT} {s:List Ty} {F:eO} {t:List eO} (hT:MT H S s) (h:S.fr=F::t) (hp:F.pos=F.code.length):(F.fin=0\/F.fin=1\/F.fin=2\/F.fin=3\/F.fin=4)/\(F.fin=1\/F.fin=2->F.aside.length<=500000000)/\Nk H S (jy S F t):=by
 obtain⟨Y,Ey,J,W,V,P⟩:=hT;obtain⟨a,b,c,d,E,fr,g,u,m,said⟩:=S;obtain⟨B,pos,fin,T⟩:=F;simp only at *;subst h;subst hp;obtain⟨f1,G,f3,s',f',N,p⟩:=Ey;simp only at f1 G f3 N p;have e4:(s,false)=(s',f'):=by
  unfold Br at N;rw[zp]at N;simp only[cw,Prod.mk.injEq,and_true]at N;rw[Prod.mk.injEq];exact N
 simp only[Prod.mk.injEq]at e4;obtain⟨rfl,rfl⟩:=e4;have g0:=lX G;have O:xX (⟨B,B.length,fin,T⟩::t)=1+xX t:=by
  simp only[xX,Vk,zp,cr]
 have hz:cr (B.drop 0)=cr B:=rfl;rcases p rfl with ⟨rfl,k⟩|⟨rfl,k0,w,Q,k⟩|⟨rfl,k0,t0,w,Q,D,k⟩|⟨rfl,e,Q,D,⟨K,U,M,I⟩,k⟩|⟨rfl,a0,C,Q,D,M,⟨K,U,I,k5⟩,k⟩
 ·refine⟨.inl rfl,(fun h=>by rcases h with h|h<;>cases h),⟨rfl,rfl,rfl,rfl,rfl⟩,V,W,.inl ⟨rfl,s,⟨Y,k,J,W,V,P⟩,?_⟩⟩;show left ⟨a,b,c,d,E,t,g,u,m,said⟩<left ⟨a,b,c,d,E,⟨B,B.length,0,T⟩::t,g,u,m,said⟩;simp only[left,O];omega
 ·refine⟨.inr (.inl rfl),fun _=>by omega,⟨rfl,rfl,rfl,rfl,rfl⟩,V,W,.inl ⟨rfl,w++s,⟨zw Q Y,k,J,W,V,P⟩,?_⟩⟩;show left ⟨a,b,c,d,T.reverse++E,t,g,u,m,said⟩<left ⟨a,b,c,d,E,⟨B,B.length,1,T⟩::t,g,u,m,said⟩;simp only[left,O];omega
 ·refine⟨.inr (.inr (.inl rfl)),fun _=>by omega,?_⟩;subst Q;obtain⟨v,q,rfl,hv,hq⟩:=bp Y;refine⟨⟨rfl,rfl,rfl,rfl,rfl⟩,V,W,.inl ⟨rfl,t0::w,⟨⟨hv,D⟩,k,J,W,V,P⟩,?_⟩⟩;show left ⟨a,b,c,d,v::T.reverse,t,g,u,m,said⟩<left ⟨a,b,c,d,v::q,⟨B,B.length,2,T⟩::t,g,u,m,said⟩;simp only[left,O];omega
 ·refine⟨.inr (.inr (.inr (.inl rfl))),(fun h=>by rcases h with h|h<;>cases h),?_⟩;cases T with
  | nil =>
   refine⟨⟨rfl,rfl,rfl,rfl,rfl⟩,V,W,.inl ⟨rfl,s,⟨Y,k,J,W,V,P⟩,?_⟩⟩;show left ⟨a,b,c,d,E,t,g,u,m,said⟩<left ⟨a,b,c,d,E,⟨B,B.length,3,[]⟩::t,g,u,m,said⟩;simp only[left,O];omega
  | cons x q =>
   show Nk H _ (if g<=u then _ else _:MR);refine xZ (fun A=>?_) (fun A=>?_)
   ·exact⟨⟨rfl,rfl,rfl,rfl,rfl⟩,V,W,.inr (.inr (.inr (.inl ⟨rfl,by show u=g;omega⟩)))⟩
   ·refine⟨⟨rfl,rfl,rfl,rfl,rfl⟩,⟨V9,Wl⟩,W,.inl ⟨rfl,e::s,⟨⟨Q x cn,Y⟩,?_,J,W,⟨V9,Wl⟩,P⟩,?_⟩⟩
    ·refine⟨by show s.length+1+cr B<=340;exact D,G,Nat.zero_le _,K,U,M,fun hf=>?_⟩;have e3:=I hf;rw[e3];refine .inr (.inr (.inr (.inl ⟨rfl,e,fun y hy=>Q y (by simp[hy]),D,⟨K,U,M,I⟩,k⟩)))
    ·show left ⟨a,b,c,d,x::E,⟨B,0,3,q⟩::t,g,u+1,m,said⟩<left ⟨a,b,c,d,E,⟨B,B.length,3,x::q⟩::t,g,u,m,said⟩;simp only[left,O];simp only[xX,Vk,List.drop_zero];omega
 ·refine⟨.inr (.inr (.inr (.inr rfl))),(fun h=>by rcases h with h|h<;>cases h),?_⟩;subst Q;obtain⟨v,q,rfl,hv,hq⟩:=bp Y;show Nk H _ (if vN v=1 then(if g<=u then _ else _)else _:MR);refine xZ (fun hn=>xZ (fun A=>?_) (fun A=>?_)) (fun hn=>?_)
  ·exact⟨⟨rfl,rfl,rfl,rfl,rfl⟩,V,W,.inr (.inr (.inr (.inl ⟨rfl,by show u=g;omega⟩)))⟩
  ·refine⟨⟨rfl,rfl,rfl,rfl,rfl⟩,⟨V9,Wl⟩,W,.inl ⟨rfl,C,⟨hq,?_,J,W,⟨V9,Wl⟩,P⟩,?_⟩⟩
   ·refine⟨M,G,Nat.zero_le _,K,U,I,fun hf => .inr (.inr (.inr (.inr ⟨rfl,a0,C,k5 hf,D,M,⟨K,U,I,k5⟩,k⟩)))⟩
   ·show left ⟨a,b,c,d,q,⟨B,0,4,T⟩::t,g,u+1,m,said⟩<left ⟨a,b,c,d,v::q,⟨B,B.length,4,T⟩::t,g,u,m,said⟩;simp only[left,O];simp only[xX,Vk,List.drop_zero];omega
  ·refine⟨⟨rfl,rfl,rfl,rfl,rfl⟩,V,W,.inl ⟨rfl,C,⟨hq,k,J,W,V,P⟩,?_⟩⟩;show left ⟨a,b,c,d,q,t,g,u,m,said⟩<left ⟨a,b,c,d,v::q,⟨B,B.length,4,T⟩::t,g,u,m,said⟩;simp only[left,O];omega
end Go.Proofs
set_option maxRecDepth 100000
namespace Go.Proofs
open Go.cu
theorem Tn {n:Nd} {l:List Nd} {s P:List Ty} {G:Bool} (h:Br (n::l) s P G):∃r,eX n s=(r,0)/\r.1.length<=40/\r.1.all bA=true/\cw l r=((P,G),0):=by
 unfold Br at h;simp only[cw]at h;rw[if_neg cc]at h;split at h
 ·rename_i c;exact absurd (congrArg Prod.snd h) c
 rename_i c;simp only[ne_eq,Decidable.not_not]at c;obtain⟨h1,h2,V,D⟩:=rO c;rw[h2]at h;exact⟨(eX n s).1,by rw[<- h1],V,D,h⟩
theorem Cg {T:List Ty×Bool} {F:eO} {t:List eO} {s:List Ty} {n:Nd} (h:FT T (F::t) s) (O:F.code[F.pos]?=some n):∃r,eX n s=(r,0)/\r.1.all bA=true/\(r.2=false->FT T ({F with pos:=F.pos+1}::t) r.1)/\n∈F.code:=by
 obtain⟨U,P,S,Y,G,q,W⟩:=h;obtain⟨H,N⟩:=List.getElem?_eq_some_iff.1 O;have e:F.code.drop F.pos=n::F.code.drop (F.pos+1):=by rw[List.drop_eq_getElem_cons H,N]
 rw[e]at q;obtain⟨r,h1,h2,V,D⟩:=Tn q;refine⟨r,h1,V,fun I=>?_,aaz O⟩;have g0:=lX P;refine⟨by show r.1.length+cr F.code<=340;omega,P,by show F.pos+1<=F.code.length;omega,Y,G,?_,W⟩;show cw (F.code.drop (F.pos+1)) (r.1,false)=_;rw[<- I];exact D
theorem KF {T:List Ty×Bool} {S:bT} {s:List Ty} {F:eO} {t:List eO} {N P:Int} {V:List UInt8} {args:List Nd} (K:MT T S s) (h:S.fr=F::t) (O:F.code[F.pos]?=some (.mk 3 N P V args)):D9 S (dr (fL S F t) args 0 [])/\MT T (dr (fL S F t) args 0 []) s/\left (dr (fL S F t) args 0 [])<left S:=by
 obtain⟨Y,W,q,U,Q,M⟩:=K;rw[h]at W;have J:=W;obtain⟨G,I,E,_⟩:=J;obtain⟨r,h1,h2,H,D⟩:=Cg W O;obtain⟨g1,p⟩:=pz I D;simp only[eX,if_true]at h1;refine⟨⟨rfl,rfl,rfl,rfl,rfl⟩,⟨Y,?_,q,U,Q,M⟩,?_⟩
 ·exact HS (r:=r) (by rw[h1]) (fun _=>by rw[h1]) bn g1 H
 ·have e:=KE O;simp only[many]at e;show left {fL S F t with fr:=⟨args,0,0,[]⟩::{F with pos:=F.pos+1}::t}<left S;simp only[left];rw[h];simp only[xX,Vk,List.drop_zero];omega
theorem Ga {T:List Ty×Bool} {S:bT} {s:List Ty} {F:eO} {t:List eO} {N P:Int} {Q:List UInt8} {args:List Nd} (hT:MT T S s) (h:S.fr=F::t) (B:F.code[F.pos]?=some (.mk 2 N P Q args)) (hg:S.used<S.gS) (hW:left S<=1000000000) :
  bl N Q P args {fL S F t with used:=S.used+1}/\Nk T S (aI P args {fL S F t with used:=S.used+1})/\(aI P args {fL S F t with used:=S.used+1}).1≠12:=by
 obtain⟨W,O,u,lQ,lg,AH⟩:=hT;rw[h]at O;have To:=O;obtain⟨f1,f2,f3,_⟩:=To;obtain⟨r,h1,h2,h3,h4⟩:=Cg O B;obtain⟨g1,g2⟩:=pz f2 h4;have p:=uF S.fr;have M:left S=(S.gS-S.used).toNat*900+xX S.fr:=rfl;rw[h]at p M;simp only[aaa]at p;simp only[eX]at h1;rw[if_neg cc,if_neg cc]at h1;cases hf:bQ P args with
 | none=>rw[hf]at h1;cases h1
 | some H =>
 rw[hf]at h1;have yW:nv P args (bf args) H s=(r,0):=h1;obtain⟨k1,k2⟩:=Nc T P {fL S F t with used:=S.used+1} u lQ N Q args g1 H s r hf W bn (by show({F with pos:=F.pos+1}::t).length<=_;simp only[aaa];omega) h2 yW;obtain⟨⟨q1,q,K,I,V,U⟩,D,G,m3⟩:=Tl P args {fL S F t with used:=S.used+1} H s r lQ W hf yW;refine⟨k1,?_,by rcases k2 with (⟨Y,_⟩|Y|Y)|⟨Y,_⟩|⟨Y,_⟩<;>rw[Y]<;>decide⟩;generalize aI P args {fL S F t with used:=S.used+1}=o at *;simp only at q1 q K I V U;have A:0<=o.2.used/\o.2.used<=o.2.gS:=by rw[V,U];omega
 have Wq:qk o.2.self o.2.gU o.2.gV o.2.balance=true:=by rw[q1,q,K,I];exact u
 refine⟨⟨q1,q,K,I,V⟩,A,⟨D,G⟩,?_⟩;have e:=KE B;simp only[many]at e;rcases k2 with (⟨Y,J,E,C⟩|Y|Y)|⟨Y,F2,s2,J,E,C,o5⟩|⟨Y,J⟩
 ·refine .inl ⟨Y,r.1,⟨E,by rw[J];exact h3 C,Wq,⟨D,G⟩,A,by rw[V];exact AH⟩,?_⟩;rw[M];simp only[left,V,U,J];simp only[xX,Vk];omega
 ·exact .inr (.inl Y)
 ·omega
 ·refine .inl ⟨Y,s2,⟨C,by rw[J];exact o5 h3,Wq,⟨D,G⟩,A,by rw[V];exact AH⟩,?_⟩;rw[M];have g3:=lX E;have g4:=Tm F2.code F2.pos;simp only[left,V,U,J];simp only[xX,Vk];omega
 ·omega
def Tp (T:List Ty×Bool) (S:bT) (o:MR):Prop :=
 D9 S o.2/\(0<=o.2.used/\o.2.used<=o.2.gS)/\(0<=o.2.aU/\o.2.aU<=bM) /\
 ((o.1=0/\o.2.fr=[]/\dK T.1 o.2.st/\T.2=false)\/o.1=11\/o.1=13\/(o.1=12/\o.2.used=o.2.gS)\/(o.1=10/\vK o.2.said≠0/\aM o.2.said<=25000000))
theorem KG {S T U:bT} (h1:D9 S T) (h2:D9 T U):D9 S U:=by
 obtain⟨u,C,G,K,Y⟩:=h1;obtain⟨H,W,N,V,Q⟩:=h2;exact⟨by rw[H,u],by rw[W,C],by rw[N,G],by rw[V,K],by rw[Q,Y]⟩
theorem Ig {Y:List Ty×Bool} {S T:bT} {o:MR} (h1:D9 S T) (h2:Tp Y T o):Tp Y S o:=⟨KG h1 h2.1,h2.2⟩
theorem Gb {T:List Ty×Bool} {S:bT} {o:MR} (h:Nk T S o) (B:o.1≠0):Tp T S o:=by
 obtain⟨h1,h2,V,D⟩:=h;exact⟨h1,h2,V,D.elim (fun h=>absurd h.1 B) .inr⟩
theorem tC (W:List Ty×Bool):∀(k:Nat) (S:bT) (s:List Ty),MT W S s->left S<k->left S<=1000000000->ku k S (gL k S)/\Tp W S (gL k S)
 | 0,S,s,_,h,_=>absurd h (Nat.not_lt_zero _)
 | k+1,S,s,K,hk,hW=>by
  have p:=uF S.fr;have eD:=bJ K.fit;have V:=K.used;have AH:=K.gS;have I:Og S.gS:=⟨bn,bn⟩
  have NY:left S=(S.gS-S.used).toNat*900+xX S.fr:=rfl;cases J:S.fr with
  | nil =>
   have e:gL (k+1) S=(0,S):=by simp only[gL,J]
   rw[e];have T:=K.ft;rw[J]at T;have yG:W=(s,false):=T;subst yG;exact⟨ku.done J,⟨rfl,rfl,rfl,rfl,rfl⟩,V,K.Vn,.inl ⟨rfl,J,K.fit,rfl⟩⟩
  | cons F t =>
   rw[J]at p NY;simp only[aaa]at p;have U:=K.ft;rw[J]at U;obtain⟨f1,f2,f3,_⟩:=U;have g0:=lX f2;have g1:=xV f2;have u:F.code.length<=8589934593:=by
    have:∀l:List Nd,l.length<=cr l:=by
     intro l
     induction l with
     | nil=>exact aam _
     | cons x l Y=>cases x;simp only[aaa,cr,many];omega
    have:=this F.code;omega
   by_cases T:F.pos=F.code.length
   ·obtain⟨M,k2,Q⟩:=zq K J T;have k4:=HX S F t J M bn k2 bn I V.1;have e:gL (k+1) S=if(jy S F t).1=0 then gL k (jy S F t).2 else jy S F t:=by
     simp only[gL,J];rw[if_pos T]
    by_cases O:(jy S F t).1=0
    ·rw[e,if_pos O];obtain⟨H,t2,t3,G⟩:=Q;rcases G with ⟨_,E,D,m2⟩|h|h|h|h
     ·have Y:=tC W k _ E D bn bn;exact⟨ku.fin J T bn k4 (fun h=>absurd O h) (fun _=>Y.1),Ig H Y.2⟩
     ·rw[O]at h;cases h
     ·rw[O]at h;cases h
     ·omega
     ·omega
    ·rw[e,if_neg O];exact⟨ku.fin J T bn k4 (fun _=>rfl) (fun h=>absurd h O),Gb Q O⟩
   ·have B:F.pos<F.code.length:=by omega
    have q:F.code[F.pos]?=some F.code[F.pos]:=List.getElem?_eq_getElem B;generalize F.code[F.pos]=n at q;obtain⟨kind,N,P,sg,args⟩:=n
    have e:gL (k+1) S=(if kind=3 then gL k (dr (fL S F t) args 0 [])
     else if kind≠2 then(14,fL S F t)
     else if S.gS<=S.used then(12,fL S F t)
     else if(aI P args {fL S F t with used:=S.used+1}).1=0 then gL k (aI P args {fL S F t with used:=S.used+1}).2 else aI P args {fL S F t with used:=S.used+1}):=by
     simp only[gL,J,q];rw[if_neg T]
    rw[e];by_cases C:kind=3
    ·subst C;rw[if_pos rfl];obtain⟨s1,D,m2⟩:=KF K J q;have Y:=tC W k _ s D bn bn;exact⟨ku.seq J q bn u Y.1,Ig s1 Y.2⟩
    rw[if_neg C];have c2:kind=2:=by
     have U:=K.ft;rw[J]at U;obtain⟨r,h1,_⟩:=Cg U q;simp only[eX]at h1;rw[if_neg C]at h1;apply Decidable.byContradiction;intro c;rw[if_pos c]at h1;cases h1
    subst c2;rw[if_neg cc];by_cases A:S.gS<=S.used
    ·rw[if_pos A];exact⟨ku.aac J q bn u A,⟨rfl,rfl,rfl,rfl,rfl⟩,V,K.Vn,.inr (.inr (.inr (.inl ⟨rfl,by show S.used=S.gS;omega⟩)))⟩
    rw[if_neg A];obtain⟨M,Q,_⟩:=Ga K J q bn hW;by_cases O:(aI P args {fL S F t with used:=S.used+1}).1=0
    ·rw[if_pos O];obtain⟨H,t2,t3,G⟩:=Q;rcases G with ⟨_,E,D,m2⟩|h|h|h|h
     ·have Y:=tC W k _ E D bn bn;exact⟨ku.step J q bn u bn I V.1 M (fun h=>absurd O h) (fun _=>Y.1),Ig H Y.2⟩
     ·rw[O]at h;cases h
     ·rw[O]at h;cases h
     ·omega
     ·omega
    ·rw[if_neg O];exact⟨ku.step J q bn u bn I V.1 M (fun _=>rfl) (fun h=>absurd h O),Gb Q O⟩
end Go.Proofs
namespace Go.Proofs
open Go.cu
structure Vo where
 code:Int
 st:List Vl
 said:Vl
 gS:Int
 aU:Int
def Tq (r:Vo):CV:=kr r.code r.st r.said r.gS r.aU
def nj (a b c d:Int) (B:List Nd) (l:List Vl) (g:Int):bT:=⟨a,b,c,d,l,[⟨B,0,0,[]⟩],g,0,0,oO⟩
def od (o:MR):Vo:=⟨o.1,if o.1=0 then o.2.st else [],if o.1=10 then o.2.said else oO,o.2.used,if o.1=0 then o.2.aU else 0⟩
def GS (a b c d:Int) (n:Nd) (s:List Ty) (l:List Vl):Bool:=decide ((fK n s).2=0)&&decide (s.length=l.length)&&qk a b c d&&oQ s l
def RJ:Vo:=⟨14,[],oO,0,0⟩
def me (a b c d:Int) (n:Nd) (l:List Vl) (g:Int):MR:=gL (left (nj a b c d (bh n) l g)+1) (nj a b c d (bh n) l g)
def gO (a b c d:Int) (n:Nd) (s:List Ty) (l:List Vl) (g:Int):Vo:=if GS a b c d n s l=true then od (me a b c d n l g)else RJ
theorem nM {a b c d:Int} {n:Nd} {s:List Ty} {l:List Vl}:GS a b c d n s l=true↔(fK n s).2=0/\s.length=l.length/\qk a b c d=true/\oQ s l=true:=by
 unfold GS;simp only[aaj,decide_eq_true_eq,and_assoc]
abbrev Jd (l:List Vl):Prop:=∀v∈l,aM v<=25000000
theorem WX {l:List Vl} (h:aL l<=25000000):Jd l:=fun v T=>by have:=ew T;omega
theorem KH:∀{l:List Vl},Jd l->aL l<=l.length*25000000
 | [],_=>aam _
 | v::l,h=>by
  have h1:=h v cn;have h2:=KH (l:=l) fun w Q=>h w (by simp[Q]);simp only[aL,aaa];omega
theorem KI:∀{s:List Ty} {l:List Vl},s.length=l.length->oQ s l=true->Jd l->dK s l
 | [],[],_,_,_=>trivial
 | t::s,v::l,h,h2,V=>by
  simp only[oQ,aaj]at h2;simp only[aaa,Nat.add_right_cancel_iff]at h;exact⟨⟨h2.1,V v cn⟩,KI h h2.2 fun w Q=>V w (by simp[Q])⟩
 | [],_::_,h,_,_=>by simp at h
 | _::_,[],h,_,_=>by simp at h
theorem Jq:∀{s:List Ty} {l:List Vl},dK s l->oQ s l=true
 | [],[],_=>rfl
 | t::s,v::l,h=>by
  simp only[oQ,aaj];exact⟨h.1.1,Jq h.2⟩
 | [],_::_,h=>h.elim
 | _::_,[],h=>h.elim
theorem sS {a b c d:Int} {n:Nd} {s:List Ty} {l:List Vl} {g:Int} (h:GS a b c d n s l=true) (T:Jd l) (Q:0<=g/\g<=1000000):MT (fK n s).1 (nj a b c d (bh n) l g) s:=by
 obtain⟨h1,h2,V,D⟩:=nM.1 h;obtain⟨g1,p,U,P,W⟩:=sF h1;have Y:=KC g1;have S:=lX Y;rw[W]at h1 ⊢;refine⟨KI h2 D T,⟨by show s.length+cr (bh n)<=340;omega,Y,Nat.zero_le _,_,_,AG h1,fun hf => .inl ⟨rfl,?_⟩⟩,V,⟨Int.le_refl _,by show(0:Int)<=bM;decide⟩,⟨Int.le_refl _,Q.1⟩,Q.2⟩;show(cw (bh n) (s,false)).1=(_,false)
 rw[Prod.ext_iff];exact⟨rfl,hf⟩
theorem oY {a b c d:Int} {n:Nd} {s:List Ty} {l:List Vl} {g:Int} (h:GS a b c d n s l=true) (Q:0<=g/\g<=1000000):left (nj a b c d (bh n) l g)<=1000000000:=by
 obtain⟨h1,h2,V,D⟩:=nM.1 h;have Y:=lX (KC (sF h1).1);simp only[left,nj,xX,Vk,List.drop_zero];omega
theorem sP {a b c d:Int} {n:Nd} {s:List Ty} {l:List Vl} {g:Int} (h:GS a b c d n s l=true) (T:Jd l) (Q:0<=g/\g<=1000000):ku (left (nj a b c d (bh n) l g)+1) (nj a b c d (bh n) l g) (me a b c d n l g)/\Tp (fK n s).1 (nj a b c d (bh n) l g) (me a b c d n l g) :=
 tC _ _ _ s (sS h T Q) (Nat.lt_succ_self _) (oY h Q)
theorem E4 (a b c d g:Int) (B:List Nd) (l:List Vl) (o:MR) (hq:l.length<=1000000000) (Y:o.2.st.length<=1000000000\/o.1≠0) (Q:cE 43 (nj a b c d B l g) [] (aF o.1) o.2) :
  ah 24 [.agg [aF a,aF b,aF c,aF d],.sl 5 (aH B),.sl 7 (aa l),aF g] (Tq (od o)):=by
 obtain⟨e,S'⟩:=o;simp only at Y Q;unfold od Tq;simp only;by_cases S:e=0
 ·subst S;rw[if_pos rfl,if_neg cc,if_pos rfl];cases l with
  | nil=>exact KJ a b c d g B S' (Y.resolve_right fun h=>h rfl) Q
  | cons x q=>exact A5 a b c d g B x q S' UQ (Y.resolve_right fun h=>h rfl) Q
 rw[if_neg S,if_neg S];by_cases A:e=10
 ·subst A;rw[if_pos rfl];cases l with
  | nil=>exact E5 a b c d g B S' Q
  | cons x q=>exact E6 a b c d g B x q S' UQ Q
 rw[if_neg A];cases l with
 | nil=>exact Ih a b c d g e B S' S A Q
 | cons x q=>exact Ii a b c d g e B x q S' UQ S A Q
theorem zV (a b c d g:Int) (n:Nd) (O:bN n<=8589934593) (s:List Ty) (W:br s<=8589934593) (l:List Vl) (T:Jd l) (Q:0<=g/\g<=1000000) :
  ah 9 [.agg [aF a,aF b,aF c,aF d],aW n,.sl 2 (aE s),.sl 7 (aa l),aF g] (Tq (gO a b c d n s l g)):=by
 by_cases V:(fK n s).2=0/\s.length=l.length/\qk a b c d=true;rotate_left
 ·have e:GS a b c d n s l=false:=by
   cases Y:GS a b c d n s l with
   | false=>rfl
   | true =>
    obtain⟨h1,h2,D,_⟩:=nM.1 Y;exact absurd ⟨h1,h2,D⟩ V
  unfold gO;rw[if_neg (by rw[e];decide)];exact Vp a b c d g n O s W l V
 obtain⟨h1,h2,D⟩:=V;have M:l.length<=40:=by have:=(sF h1).2.2.1;omega
 have K:=KH T;have q:oQ s l=true->ah 24 [.agg [aF a,aF b,aF c,aF d],.sl 5 (aH (bh n)),.sl 7 (aa l),aF g] (Tq (od (me a b c d n l g))):=by
  intro Y;have ok:GS a b c d n s l=true:=nM.2 ⟨h1,h2,D,Y⟩;obtain⟨H,U⟩:=sP ok T Q;refine E4 a b c d g (bh n) l _ bn ?_ (C0 _ _ _ H);obtain⟨_,_,_,S⟩:=U;rcases S with ⟨_,_,P,_⟩|w|w|w|w
  ·left;have:=bJ P;have:=(rP h1).2.1;omega
  all_goals right
  ·rw[w];decide
  ·rw[w];decide
  ·rw[w.1];decide
  ·rw[w.1];decide
 have N:=N0 a b c d g n O s W l bn h1 h2 D _ _ _ _ _ q;have e:(bif oQ s l then kr (od (me a b c d n l g)).code (od (me a b c d n l g)).st (od (me a b c d n l g)).said (od (me a b c d n l g)).gS (od (me a b c d n l g)).aU else kr 14 [] oO 0 0)=Tq (gO a b c d n s l g):=by
  unfold gO;cases Y:oQ s l with
  | true =>
   rw[if_pos (nM.2 ⟨h1,h2,D,Y⟩)];rfl
  | false =>
   rw[if_neg (fun h=>by have:=(nM.1 h).2.2.2;rw[Y]at this;cases this)];rfl
 rw[<- e];exact N
end Go.Proofs
namespace Go.Proofs
open Go.cu
def gK (S:bT) (F:eO) (t:List eO):MR :=
 if F.pos=F.code.length then jy S F t
 else match F.code[F.pos]? with
  | none=>(14,S)
  | some (.mk kind N P s args) =>
   if kind=3 then(0,dr (fL S F t) args 0 [])
   else if kind≠2 then(14,fL S F t)
   else if S.gS<=S.used then(12,fL S F t)
   else aI P args {fL S F t with used:=S.used+1}
theorem mg {S:bT} (k:Nat) (h:S.fr=[]):gL (k+1) S=(0,S):=by simp only[gL,h]
def acS (k:Nat) (o:MR):MR:=if o.1=0 then gL k o.2 else o
theorem Nm {S:bT} {F:eO} {t:List eO} (k:Nat) (h:S.fr=F::t):gL (k+1) S=acS k (gK S F t):=by
 simp only[gL,h];unfold gK;by_cases T:F.pos=F.code.length
 ·rw[if_pos T,if_pos T];rfl
 ·rw[if_neg T,if_neg T];cases O:F.code[F.pos]? with
  | none=>rfl
  | some n =>
   obtain⟨kind,N,P,s,args⟩:=n;dsimp only;by_cases Y:kind=3
   ·rw[if_pos Y,if_pos Y];rfl
   rw[if_neg Y,if_neg Y];by_cases J:kind≠2
   ·rw[if_pos J,if_pos J];rfl
   rw[if_neg J,if_neg J];by_cases Q:S.gS<=S.used
   ·rw[if_pos Q,if_pos Q];rfl
   rw[if_neg Q,if_neg Q];rfl
theorem iQ {S:bT} {F:eO} {t:List eO} (k:Nat) (h:S.fr=F::t):gL (k+1) S=if(gK S F t).1=0 then gL k (gK S F t).2 else gK S F t:=Nm k h
theorem xy {V:List Ty×Bool} {S:bT} {s:List Ty} {F:eO} {t:List eO} (K:MT V S s) (h:S.fr=F::t) (U:left S<=1000000000):Nk V S (gK S F t):=by
 unfold gK;by_cases T:F.pos=F.code.length
 ·rw[if_pos T];exact(zq K h T).2.2
 rw[if_neg T];have W:=K.ft;rw[h]at W;have M:=W;obtain⟨I,G,C,_⟩:=M;have H:F.pos<F.code.length:=by omega
 have O:F.code[F.pos]?=some F.code[F.pos]:=List.getElem?_eq_getElem H;generalize F.code[F.pos]=n at O;obtain⟨kind,N,P,B,args⟩:=n;rw[O];dsimp only;by_cases Y:kind=3
 ·rw[if_pos Y];subst Y;obtain⟨q,D,J⟩:=KF K h O;exact⟨q,K.used,K.Vn,.inl ⟨rfl,s,D,J⟩⟩
 rw[if_neg Y];have E:kind=2:=by
  obtain⟨r,h1,_⟩:=Cg W O;simp only[eX]at h1;rw[if_neg Y]at h1;apply Decidable.byContradiction;intro c;rw[if_pos c]at h1;cases h1
 subst E;rw[if_neg cc];have A:=K.used;by_cases Q:S.gS<=S.used
 ·rw[if_pos Q];exact⟨⟨rfl,rfl,rfl,rfl,rfl⟩,K.used,K.Vn,.inr (.inr (.inr (.inl ⟨rfl,by show S.used=S.gS;omega⟩)))⟩
 rw[if_neg Q];exact(Ga K h O bn U).2.1
theorem GZ {T:List Ty×Bool} {S:bT} {o:MR} (h:Nk T S o) (B:o.1=0):∃P,MT T o.2 P/\left o.2<left S:=by
 obtain⟨_,_,_,D⟩:=h;rcases D with ⟨_,P,q,Y⟩|h|h|h|h
 ·exact⟨P,q,Y⟩
 ·rw[B]at h;cases h
 ·rw[B]at h;cases h
 ·omega
 ·omega
theorem Ea (T:List Ty×Bool):∀(k:Nat) (S:bT) (s:List Ty),MT T S s->left S<k->left S<=1000000000->∀k',left S<k'->gL k' S=gL k S
 | 0,S,s,_,h,_,_,_=>absurd h (Nat.not_lt_zero _)
 | k+1,S,s,hT,hk,hW,0,h=>absurd h (Nat.not_lt_zero _)
 | k+1,S,s,hT,hk,hW,k'+1,hk'=>by
  cases J:S.fr with
  | nil=>rw[mg _ J,mg _ J]
  | cons F t =>
   rw[iQ k J,iQ k' J];by_cases B:(gK S F t).1=0
   ·rw[if_pos B,if_pos B];obtain⟨P,q,Y⟩:=GZ (xy hT J hW) B;exact Ea T k _ P q bn bn k' bn
   ·simp_all
theorem xz {a b c d:Int} {n:Nd} {s:List Ty} {l:List Vl} {g:Int} (h:GS a b c d n s l=true) (T:Jd l) (Q:0<=g/\g<=1000000) (k:Nat) (D:1000000000<k):gL k (nj a b c d (bh n) l g)=me a b c d n l g:=by
 have h2:=oY h Q;exact Ea _ _ _ s (sS h T Q) (Nat.lt_succ_self _) h2 k bn
abbrev UK (g:Int) (S:bT):bT:={S with gS:=g}
abbrev RZ (g:Int) (o:MR):MR:=(o.1,UK g o.2)
theorem kY {c:Prop} [Decidable c] {g:Int} {a b p M:MR} (h1:p=RZ g a) (h2:M=RZ g b):(if c then p else M)=RZ g (if c then a else b):=by grind
theorem LQ (P:Int) (args:List Nd) (l:List Vl) (S:bT) (g:Int):gT P args l (UK g S)=RZ g (gT P args l S):=by
 unfold gT;refine kY ?_ (kY ?_ (kY ?_ (kY ?_ (kY ?_ (kY ?_ ?_)))))
 ·unfold A1
  repeat' (first|rfl|refine kY ?_ ?_)
 ·unfold uD
  repeat' (first|rfl|refine kY ?_ ?_)
 ·unfold og;cases eo (lV l 0)<;>dsimp only <;>
  repeat' (first|rfl|refine kY ?_ ?_)
 ·unfold uE;cases eo (lV l 1)<;>dsimp only <;>
  repeat' (first|rfl|refine kY ?_ ?_)
 ·unfold qC;dsimp only
  repeat' (first|rfl|refine kY ?_ ?_)
 ·unfold A2;dsimp only
  repeat' (first|rfl|refine kY ?_ ?_)
 ·unfold qX;dsimp only
  repeat' (first|rfl|refine kY ?_ ?_)
end Go.Proofs
namespace Go.Proofs
open Go.cu
theorem NV {a b c d:Int} {n:Nd} {s:List Ty} {l:List Vl} {g:Int} (T:Jd l) (Q:0<=g/\g<=1000000):0<=(gO a b c d n s l g).gS/\(gO a b c d n s l g).gS<=g:=by
 unfold gO;by_cases h:GS a b c d n s l=true
 ·rw[if_pos h];obtain⟨_,h1,h2,V,D⟩:=sP h T Q;have q:(me a b c d n l g).2.gS=g:=h1.2.2.2.2;rw[q]at h2;exact h2
 ·rw[if_neg h];exact⟨Int.le_refl _,Q.1⟩
end Go.Proofs
namespace Go.Proofs
open Go.cu
def Wr (Y:List Vl):List eO->Option (List eO)
 | []=>none
 | F::t=>match Wr Y t with
  | some S=>some (F::S)
  | none=>if F.fin=2 then some (⟨F.code,F.pos,F.fin,Y.reverse++F.aside⟩::t)else none
def acT (Y:List Vl) (S:bT):bT:=match Wr Y S.fr with
 | some fr=>{S with fr:=fr}
 | none=>{S with st:=S.st++Y}
abbrev afU (Y:List Vl) (o:MR):MR:=(o.1,acT Y o.2)
abbrev RY (x:List eO) (S:bT):bT:={S with fr:=x}
def vB (o:List eO->MR) (P:Int):Prop:=∃pre e T,(∀x,o x=(e,RY (pre++x) T))/\(P≠67->∀G∈pre,G.fin≠2)
theorem jG {c:Prop} [Decidable c] {P:Int} {a b:List eO->MR} (h1:vB a P) (h2:vB b P):vB (fun x=>if c then a x else b x) P:=by
 by_cases h:c
 ·simpa only[if_pos h]using h1
 ·simpa only[if_neg h]using h2
theorem mU {c:Prop} [Decidable c] {P:Int} {a b:List eO->MR} (h1:c->vB a P) (h2:¬c->vB b P):vB (fun x=>if c then a x else b x) P:=by
 by_cases h:c
 ·simpa only[if_pos h]using h1 h
 ·simpa only[if_neg h]using h2 h
theorem oT (S:bT) (l:List Vl) (P:Int):vB (fun x=>bg (RY x S) l) P:=⟨[],(bg S l).1,(bg S l).2,fun x=>rfl,fun _ G h=>by simp at h⟩
theorem nW (S:bT) (e:Int) (P:Int):vB (fun x=>(e,RY x S)) P:=⟨[],e,S,fun x=>rfl,fun _ G h=>by simp at h⟩
theorem pE (S:bT) (c:List Nd) (p:Nat) (f:Int) (a:List Vl) (P:Int) (hf:P≠67->f≠2):vB (fun x=>(0,RY (⟨c,p,f,a⟩::x) S)) P :=
 ⟨[⟨c,p,f,a⟩],0,S,fun x=>rfl,fun h G C=>by simp at C;subst C;exact hf h⟩
theorem Eb (S:bT) (c:List Nd) (f:Int) (a:List Vl) (l:List Vl) (P:Int) (hf:P≠67->f≠2):vB (fun x=>bg (dr (RY x S) c f a) l) P :=
 ⟨[⟨c,0,f,a⟩],(bg S l).1,(bg S l).2,fun x=>rfl,fun h G C=>by simp at C;subst C;exact hf h⟩
theorem CX (P:Int) (args:List Nd) (l:List Vl) (S:bT):vB (fun x=>gT P args l (RY x S)) P:=by
 unfold gT;refine jG ?_ (jG ?_ (mU (fun N=>?_) fun _=>(jG ?_ (jG ?_ (jG ?_ ?_)))))
 ·unfold A1;exact jG (oT S _ P) (jG (oT S [lV S.st (aN args 0-1)] P) (jG (nW {S with st:=lV S.st (aN args 0)::(S.st.take (aN args 0)++S.st.drop (aN args 0+1))} 0 P) (jG (nW {S with st:=S.st.take (aN args 0)++lV l 0::S.st.drop (aN args 0)} 0 P) (nW S 0 P))))
 ·unfold uD
  repeat' (first|exact oT _ _ _|exact nW _ _ _|refine jG ?_ ?_)
 ·unfold og;refine mU (fun _=>Eb S _ _ _ _ _ fun _=>by decide) fun K=>mU (fun _=>Eb S _ _ _ _ _ fun _=>by decide) fun G=>mU (fun _=>?_) fun E=>mU (fun _=>pE S _ _ _ _ _ fun _=>by decide) fun W=>mU (fun _=>pE S _ _ _ _ _ fun _=>by decide) fun B=>mU (fun _=>pE {S with st:=lV l 0::S.st} (aC args 0) (aC args 0).length 4 [] P fun _=>by decide) fun Y=>mU (fun _=>pE S _ _ _ _ _ fun _=>by decide) fun V=>mU (fun _=>oT _ _ _) fun U=>?_
  ·cases eo (lV l 0)
   ·exact pE S _ _ _ _ _ fun _=>by decide
   ·exact Eb S _ _ _ _ _ fun _=>by decide
  ·exact pE {S with st:=[lV l 0]} (yI (lV l 1)) 0 2 S.st.reverse P fun O=>absurd (show P=67 by omega) O
 ·unfold uE;cases eo (lV l 1)<;>dsimp only <;>
  repeat' (first|exact oT _ _ _|exact nW _ _ _|refine jG ?_ ?_)
 ·unfold qC;dsimp only
  repeat' (first|exact oT _ _ _|exact nW _ _ _|refine jG ?_ ?_)
 ·unfold A2;dsimp only
  repeat' (first|exact oT _ _ _|exact nW _ _ _|exact nW {S with said:=lV l 0} 10 P|refine jG ?_ ?_)
 ·unfold qX;dsimp only
  repeat' (first|exact oT _ _ _|exact nW _ _ _|exact jG (c:=S.aU>bM-vN (lV l 1)) (nW S 11 P) (oT {S with aU:=S.aU+vN (lV l 1)} _ P)|refine jG ?_ ?_)
abbrev stM (Y:List Vl) (S:bT):bT:={S with st:=S.st++Y}
abbrev stR (Y:List Vl) (o:MR):MR:=(o.1,stM Y o.2)
end Go.Proofs
