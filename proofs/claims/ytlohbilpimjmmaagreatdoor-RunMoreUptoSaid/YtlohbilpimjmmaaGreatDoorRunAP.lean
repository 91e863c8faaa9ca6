/- Package run: a typed machine works until it ends, as a plain function says. Package run: a typed machine works until it ends, as a plain function says: the whole. Package run: Run is a plain function. Package run: turns of the machine; work does not hang on the fuel. -/
import Derived.Test.YtlohbilpimjmmaaGreatDoorRunAL
import Derived.Test.YtlohbilpimjmmaaGreatDoorRunJ
set_option linter.unusedVariables false
set_option linter.unusedSimpArgs false
namespace Go.Proofs
open Go.cq
def gB (S:bT) (F:fO) (t:List fO):MR :=
 if F.fin=1 then(0,{S with st:=F.aside.reverse++S.st,fr:=t})
 else if F.fin=2 then(match S.st with
  | []=>(14,S)
  | v::_=>(0,{S with st:=v::F.aside.reverse,fr:=t}))
 else if F.fin=3 then(match F.aside with
  | []=>(0,{S with fr:=t})
  | x::q=>if S.gX<=S.used then(12,S)else(0,{S with st:=x::S.st,fr:=⟨F.code,0,3,q⟩::t,used:=S.used+1}))
 else if F.fin=4 then(match S.st with
  | []=>(14,S)
  | v::q=>if vN v=1 then(if S.gX<=S.used then(12,{S with st:=q})else(0,{S with st:=q,fr:=⟨F.code,0,4,F.aside⟩::t,used:=S.used+1}))else(0,{S with st:=q,fr:=t}))
 else(0,{S with fr:=t})
def gT:Nat->bT->MR
 | 0,S=>(12,S)
 | k+1,S=>match S.fr with
  | []=>(0,S)
  | F::t=>if F.pos=F.code.length then(if(gB S F t).1=0 then gT k (gB S F t).2 else gB S F t)
   else match F.code[F.pos]? with
    | none=>(14,S)
    | some (.mk kind N P s args) =>
     if kind=3 then gT k (cO (eD S F t) args 0 [])
     else if kind≠2 then(14,eD S F t)
     else if S.gX<=S.used then(12,eD S F t)
     else if(aH P args {eD S F t with used:=S.used+1}).1=0 then gT k (aH P args {eD S F t with used:=S.used+1}).2 else aH P args {eD S F t with used:=S.used+1}
structure MT (pr:List Ty×Bool) (S:bT) (s:List Ty):Prop where
 fit:dJ s S.st
 ft:FT pr S.fr s
 env:nD S.self S.gO S.gP S.balance=true
 TF:0<=S.bE/\S.bE<=bP
 used:0<=S.used/\S.used<=S.gX
 gX:S.gX<=1000000
def left (S:bT):Nat:=(S.gX-S.used).toNat*900+yc S.fr
def Ed (S S':bT):Prop:=S'.self=S.self/\S'.gO=S.gO/\S'.gP=S.gP/\S'.balance=S.balance/\S'.gX=S.gX
def Nv (N:List Ty×Bool) (S:bT) (o:MR):Prop :=
 Ed S o.2/\(0<=o.2.used/\o.2.used<=o.2.gX)/\(0<=o.2.bE/\o.2.bE<=bP) /\
 ((o.1=0/\∃P,MT N o.2 P/\left o.2<left S)\/o.1=11\/o.1=13\/(o.1=12/\o.2.used=o.2.gX)\/(o.1=10/\vK o.2.said≠0/\aM o.2.said<=25000000))
theorem KT {l:List Nd} {i:Nat} {x:Nd} (h:l[i]?=some x):cI (l.drop i)=many x+cI (l.drop (i+1)):=by
 have e:l.drop i=x::l.drop (i+1):=by
  obtain⟨h1,h2⟩:=List.getElem?_eq_some_iff.1 h;rw[List.drop_eq_getElem_cons h1,h2]
 rw[e];rfl
theorem TG (l:List Nd) (i:Nat):cI (l.drop i)<=cI l:=by
 induction i generalizing l with
 | zero=>exact aak _
 | succ i S=>cases l with
  | nil=>exact aak _
  | cons x l=>have:=S l;simp only[List.drop_succ_cons,cI];omega
theorem ye {c:Prop} [Decidable c] {Q:MR->Prop} {a b:MR} (h1:c->Q a) (h2:¬c->Q b):Q (if c then a else b):=by grind
theorem Ig (S:bT) (F:fO) (t:List fO) (h:S.fr=F::t) (hf:F.fin=0\/F.fin=1\/F.fin=2\/F.fin=3\/F.fin=4) (G:S.st.length<=500000000) (V:F.fin=1\/F.fin=2->F.aside.length<=500000000) (A:t.length<=1099511627776) (I:OB S.gX) (p:0<=S.used) :
  iD 54 S [.ptr 1000002 (0+t.length*4)] (gB S F t):=by
 obtain⟨a,b,c,d,T,fr,g,u,m,said⟩:=S;obtain⟨H,C,fin,Y⟩:=F;simp only at h hf G V I p;subst h;rcases hf with rfl|rfl|rfl|rfl|rfl
 ·exact yR ⟨a,b,c,d,T,⟨H,C,0,Y⟩::t,g,u,m,said⟩ ⟨H,C,0,Y⟩ t rfl rfl A
 ·exact Nw a b c d T g u m said H C Y t G (V (.inl rfl)) A
 ·cases T with
  | nil=>exact Ih a b c d [] g u m said H C Y t A
  | cons v T =>
   simp only[aac]at G;cases Y with
   | nil=>exact Ii a b c d v T g u m said H C t bn A
   | cons x q=>exact Ij a b c d v T g u m said H C x q t bn (by have:=V (.inr rfl);simp only[aac]at this;omega) A
 ·cases Y with
  | nil=>exact Ik a b c d T g u m said H C t A
  | cons x q =>
   show iD _ _ _ (if g<=u then _ else _:MR);by_cases E:g<=u
   ·rw[if_pos E];exact Il a b c d T g u m said H C x q t E A
   ·rw[if_neg E];exact Im a b c d T g u m said H C x q t bn I p G A
 ·cases T with
  | nil=>exact Io a b c d [] g u m said H C Y t c9 A
  | cons v T =>
   obtain⟨D,K,U,Q,W,P,O⟩:=v;simp only[aac]at G;show iD _ _ _ (if K=1 then(if g<=u then _ else _)else _:MR);by_cases N:K=1
   ·subst N;rw[if_pos rfl];by_cases E:g<=u
    ·rw[if_pos E];exact Ip a b c d D U Q W P O T g u m said H C Y t E bn A
    ·rw[if_neg E];exact Iq a b c d D U Q W P O T g u m said H C Y t bn I p bn A
   ·rw[if_neg N];exact Ir a b c d D K U Q W P O N T g u m said H C Y t bn A
theorem zD {G:List Ty×Bool} {S:bT} {s:List Ty} {F:fO} {t:List fO} (hT:MT G S s) (h:S.fr=F::t) (hp:F.pos=F.code.length):(F.fin=0\/F.fin=1\/F.fin=2\/F.fin=3\/F.fin=4)/\(F.fin=1\/F.fin=2->F.aside.length<=500000000)/\Nv G S (gB S F t):=by
 obtain⟨Q,yq,U,W,V,P⟩:=hT;obtain⟨a,b,c,d,T,fr,g,u,m,said⟩:=S;obtain⟨H,pos,fin,Y⟩:=F;simp only at *;subst h;subst hp;obtain⟨f1,C,f3,s',f',M,p⟩:=yq;simp only at f1 C f3 M p;have e4:(s,false)=(s',f'):=by
  unfold zC at M;rw[vE]at M;simp only[cA,Prod.mk.injEq,and_true]at M;rw[Prod.mk.injEq];exact M
 simp only[Prod.mk.injEq]at e4;obtain⟨rfl,rfl⟩:=e4;have g0:=l9 C;have O:yc (⟨H,H.length,fin,Y⟩::t)=1+yc t:=by
  simp only[yc,VF,vE,cI]
 have hz:cI (H.drop 0)=cI H:=rfl;rcases p rfl with ⟨rfl,k⟩|⟨rfl,k0,w,D,k⟩|⟨rfl,k0,t0,w,D,N,k⟩|⟨rfl,e,D,N,⟨K,J,I,E⟩,k⟩|⟨rfl,a0,B,D,N,I,⟨K,J,E,k5⟩,k⟩
 ·refine⟨.inl rfl,(fun h=>by rcases h with h|h<;>cases h),⟨rfl,rfl,rfl,rfl,rfl⟩,V,W,.inl ⟨rfl,s,⟨Q,k,U,W,V,P⟩,?_⟩⟩;show left ⟨a,b,c,d,T,t,g,u,m,said⟩<left ⟨a,b,c,d,T,⟨H,H.length,0,Y⟩::t,g,u,m,said⟩;simp only[left,O];omega
 ·refine⟨.inr (.inl rfl),fun _=>by omega,⟨rfl,rfl,rfl,rfl,rfl⟩,V,W,.inl ⟨rfl,w++s,⟨zE D Q,k,U,W,V,P⟩,?_⟩⟩;show left ⟨a,b,c,d,Y.reverse++T,t,g,u,m,said⟩<left ⟨a,b,c,d,T,⟨H,H.length,1,Y⟩::t,g,u,m,said⟩;simp only[left,O];omega
 ·refine⟨.inr (.inr (.inl rfl)),fun _=>by omega,?_⟩;subst D;obtain⟨v,q,rfl,hv,hq⟩:=bg Q;refine⟨⟨rfl,rfl,rfl,rfl,rfl⟩,V,W,.inl ⟨rfl,t0::w,⟨⟨hv,N⟩,k,U,W,V,P⟩,?_⟩⟩;show left ⟨a,b,c,d,v::Y.reverse,t,g,u,m,said⟩<left ⟨a,b,c,d,v::q,⟨H,H.length,2,Y⟩::t,g,u,m,said⟩;simp only[left,O];omega
 ·refine⟨.inr (.inr (.inr (.inl rfl))),(fun h=>by rcases h with h|h<;>cases h),?_⟩;cases Y with
  | nil =>
   refine⟨⟨rfl,rfl,rfl,rfl,rfl⟩,V,W,.inl ⟨rfl,s,⟨Q,k,U,W,V,P⟩,?_⟩⟩;show left ⟨a,b,c,d,T,t,g,u,m,said⟩<left ⟨a,b,c,d,T,⟨H,H.length,3,[]⟩::t,g,u,m,said⟩;simp only[left,O];omega
  | cons x q =>
   show Nv G _ (if g<=u then _ else _:MR);refine ye (fun A=>?_) (fun A=>?_)
   ·exact⟨⟨rfl,rfl,rfl,rfl,rfl⟩,V,W,.inr (.inr (.inr (.inl ⟨rfl,by show u=g;omega⟩)))⟩
   ·refine⟨⟨rfl,rfl,rfl,rfl,rfl⟩,⟨VA,VE⟩,W,.inl ⟨rfl,e::s,⟨⟨D x c9,Q⟩,?_,U,W,⟨VA,VE⟩,P⟩,?_⟩⟩
    ·refine⟨by show s.length+1+cI H<=340;exact N,C,Nat.zero_le _,K,J,I,fun hf=>?_⟩;have e3:=E hf;rw[e3];refine .inr (.inr (.inr (.inl ⟨rfl,e,fun y hy=>D y (by simp[hy]),N,⟨K,J,I,E⟩,k⟩)))
    ·show left ⟨a,b,c,d,x::T,⟨H,0,3,q⟩::t,g,u+1,m,said⟩<left ⟨a,b,c,d,T,⟨H,H.length,3,x::q⟩::t,g,u,m,said⟩;simp only[left,O];simp only[yc,VF,List.drop_zero];omega
 ·refine⟨.inr (.inr (.inr (.inr rfl))),(fun h=>by rcases h with h|h<;>cases h),?_⟩;subst D;obtain⟨v,q,rfl,hv,hq⟩:=bg Q;show Nv G _ (if vN v=1 then(if g<=u then _ else _)else _:MR);refine ye (fun hn=>ye (fun A=>?_) (fun A=>?_)) (fun hn=>?_)
  ·exact⟨⟨rfl,rfl,rfl,rfl,rfl⟩,V,W,.inr (.inr (.inr (.inl ⟨rfl,by show u=g;omega⟩)))⟩
  ·refine⟨⟨rfl,rfl,rfl,rfl,rfl⟩,⟨VA,VE⟩,W,.inl ⟨rfl,B,⟨hq,?_,U,W,⟨VA,VE⟩,P⟩,?_⟩⟩
   ·refine⟨I,C,Nat.zero_le _,K,J,E,fun hf => .inr (.inr (.inr (.inr ⟨rfl,a0,B,k5 hf,N,I,⟨K,J,E,k5⟩,k⟩)))⟩
   ·show left ⟨a,b,c,d,q,⟨H,0,4,Y⟩::t,g,u+1,m,said⟩<left ⟨a,b,c,d,v::q,⟨H,H.length,4,Y⟩::t,g,u,m,said⟩;simp only[left,O];simp only[yc,VF,List.drop_zero];omega
  ·refine⟨⟨rfl,rfl,rfl,rfl,rfl⟩,V,W,.inl ⟨rfl,B,⟨hq,k,U,W,V,P⟩,?_⟩⟩;show left ⟨a,b,c,d,q,t,g,u,m,said⟩<left ⟨a,b,c,d,v::q,⟨H,H.length,4,Y⟩::t,g,u,m,said⟩;simp only[left,O];omega
end Go.Proofs
set_option maxRecDepth 100000
namespace Go.Proofs
open Go.cq
theorem TH {n:Nd} {l:List Nd} {s P:List Ty} {N:Bool} (h:zC (n::l) s P N):∃r,fq n s=(r,0)/\r.1.length<=40/\r.1.all bw=true/\cA l r=((P,N),0):=by
 unfold zC at h;simp only[cA]at h;rw[if_neg cc]at h;split at h
 ·rename_i c;exact absurd (congrArg Prod.snd h) c
 rename_i c;simp only[ne_eq,Decidable.not_not]at c;obtain⟨h1,h2,V,Y⟩:=rQ c;rw[h2]at h;exact⟨(fq n s).1,by rw[<- h1],V,Y,h⟩
theorem zF {N:List Ty×Bool} {F:fO} {t:List fO} {s:List Ty} {n:Nd} (h:FT N (F::t) s) (Y:F.code[F.pos]?=some n):∃r,fq n s=(r,0)/\r.1.all bw=true/\(r.2=false->FT N ({F with pos:=F.pos+1}::t) r.1)/\n∈F.code:=by
 obtain⟨S,V,M,P,J,Q,W⟩:=h;obtain⟨C,O⟩:=List.getElem?_eq_some_iff.1 Y;have e:F.code.drop F.pos=n::F.code.drop (F.pos+1):=by rw[List.drop_eq_getElem_cons C,O]
 rw[e]at Q;obtain⟨r,h1,h2,U,T⟩:=TH Q;refine⟨r,h1,U,fun I=>?_,aaw Y⟩;have g0:=l9 V;refine⟨by show r.1.length+cI F.code<=340;omega,V,by show F.pos+1<=F.code.length;omega,P,J,?_,W⟩;show cA (F.code.drop (F.pos+1)) (r.1,false)=_;rw[<- I];exact T
theorem KU {J:List Ty×Bool} {S:bT} {s:List Ty} {F:fO} {t:List fO} {N P:Int} {W:List UInt8} {args:List Nd} (E:MT J S s) (h:S.fr=F::t) (Y:F.code[F.pos]?=some (.mk 3 N P W args)):Ed S (cO (eD S F t) args 0 [])/\MT J (cO (eD S F t) args 0 []) s/\left (cO (eD S F t) args 0 [])<left S:=by
 obtain⟨Q,p,V,U,T,O⟩:=E;rw[h]at p;have M:=p;obtain⟨G,K,D,_⟩:=M;obtain⟨r,h1,h2,I,H⟩:=zF p Y;obtain⟨g1,C⟩:=pF K H;simp only[fq,if_true]at h1;refine⟨⟨rfl,rfl,rfl,rfl,rfl⟩,⟨Q,?_,V,U,T,O⟩,?_⟩
 ·exact H9 (r:=r) (by rw[h1]) (fun _=>by rw[h1]) bn g1 I
 ·have e:=KT Y;simp only[many]at e;show left {eD S F t with fr:=⟨args,0,0,[]⟩::{F with pos:=F.pos+1}::t}<left S;simp only[left];rw[h];simp only[yc,VF,List.drop_zero];omega
theorem wK {J:List Ty×Bool} {S:bT} {s:List Ty} {F:fO} {t:List fO} {N P:Int} {O:List UInt8} {args:List Nd} (hT:MT J S s) (h:S.fr=F::t) (u:F.code[F.pos]?=some (.mk 2 N P O args)) (hg:S.used<S.gX) (hW:left S<=1000000000) :
  bp N O P args {eD S F t with used:=S.used+1}/\Nv J S (aH P args {eD S F t with used:=S.used+1})/\(aH P args {eD S F t with used:=S.used+1}).1≠12:=by
 obtain⟨Q,p,q,j7,jJ,oT⟩:=hT;rw[h]at p;have TJ:=p;obtain⟨f1,f2,f3,_⟩:=TJ;obtain⟨r,h1,h2,h3,h4⟩:=zF p u;obtain⟨g1,g2⟩:=pF f2 h4;have W:=D9 S.fr;have M:left S=(S.gX-S.used).toNat*900+yc S.fr:=rfl;rw[h]at W M;simp only[aac]at W;simp only[fq]at h1;rw[if_neg cc,if_neg cc]at h1;cases hf:bN P args with
 | none=>rw[hf]at h1;cases h1
 | some B =>
 rw[hf]at h1;have xb:mE P args (bf args) B s=(r,0):=h1;obtain⟨k1,k2⟩:=Np J P {eD S F t with used:=S.used+1} q j7 N O args g1 B s r hf Q bn (by show({F with pos:=F.pos+1}::t).length<=_;simp only[aac];omega) h2 xb;obtain⟨⟨q1,A,K,I,V,T⟩,H,G,m3⟩:=TE P args {eD S F t with used:=S.used+1} B s r j7 Q hf xb;refine⟨k1,?_,by rcases k2 with (⟨Y,_⟩|Y|Y)|⟨Y,_⟩|⟨Y,_⟩<;>rw[Y]<;>decide⟩;generalize aH P args {eD S F t with used:=S.used+1}=o at *;simp only at q1 A K I V T;have E:0<=o.2.used/\o.2.used<=o.2.gX:=by rw[V,T];omega
 have WJ:nD o.2.self o.2.gO o.2.gP o.2.balance=true:=by rw[q1,A,K,I];exact q
 refine⟨⟨q1,A,K,I,V⟩,E,⟨H,G⟩,?_⟩;have e:=KT u;simp only[many]at e;rcases k2 with (⟨Y,U,D,C⟩|Y|Y)|⟨Y,F2,s2,U,D,C,o5⟩|⟨Y,U⟩
 ·refine .inl ⟨Y,r.1,⟨D,by rw[U];exact h3 C,WJ,⟨H,G⟩,E,by rw[V];exact oT⟩,?_⟩;rw[M];simp only[left,V,T,U];simp only[yc,VF];omega
 ·exact .inr (.inl Y)
 ·omega
 ·refine .inl ⟨Y,s2,⟨C,by rw[U];exact o5 h3,WJ,⟨H,G⟩,E,by rw[V];exact oT⟩,?_⟩;rw[M];have g3:=l9 D;have g4:=TG F2.code F2.pos;simp only[left,V,T,U];simp only[yc,VF];omega
 ·omega
def TL (N:List Ty×Bool) (S:bT) (o:MR):Prop :=
 Ed S o.2/\(0<=o.2.used/\o.2.used<=o.2.gX)/\(0<=o.2.bE/\o.2.bE<=bP) /\
 ((o.1=0/\o.2.fr=[]/\dJ N.1 o.2.st/\N.2=false)\/o.1=11\/o.1=13\/(o.1=12/\o.2.used=o.2.gX)\/(o.1=10/\vK o.2.said≠0/\aM o.2.said<=25000000))
theorem KV {S T U:bT} (h1:Ed S T) (h2:Ed T U):Ed S U:=by
 obtain⟨u,H,p,Y,J⟩:=h1;obtain⟨W,P,V,Q,O⟩:=h2;exact⟨by rw[W,u],by rw[P,H],by rw[V,p],by rw[Q,Y],by rw[O,J]⟩
theorem Is {N:List Ty×Bool} {S T:bT} {o:MR} (h1:Ed S T) (h2:TL N T o):TL N S o:=⟨KV h1 h2.1,h2.2⟩
theorem Gl {N:List Ty×Bool} {S:bT} {o:MR} (h:Nv N S o) (U:o.1≠0):TL N S o:=by
 obtain⟨h1,h2,V,Y⟩:=h;exact⟨h1,h2,V,Y.elim (fun h=>absurd h.1 U) .inr⟩
theorem tI (J:List Ty×Bool):∀(k:Nat) (S:bT) (s:List Ty),MT J S s->left S<k->left S<=1000000000->kE k S (gT k S)/\TL J S (gT k S)
 | 0,S,s,_,h,_=>absurd h (Nat.not_lt_zero _)
 | k+1,S,s,E,hk,hW=>by
  have V:=D9 S.fr;have ey:=bH E.fit;have U:=E.used;have oT:=E.gX;have M:OB S.gX:=⟨bn,bn⟩
  have Ut:left S=(S.gX-S.used).toNat*900+yc S.fr:=rfl;cases B:S.fr with
  | nil =>
   have e:gT (k+1) S=(0,S):=by simp only[gT,B]
   rw[e];have A:=E.ft;rw[B]at A;have Af:J=(s,false):=A;subst Af;exact⟨kE.done B,⟨rfl,rfl,rfl,rfl,rfl⟩,U,E.TF,.inl ⟨rfl,B,E.fit,rfl⟩⟩
  | cons F t =>
   rw[B]at V Ut;simp only[aac]at V;have p:=E.ft;rw[B]at p;obtain⟨f1,f2,f3,_⟩:=p;have g0:=l9 f2;have g1:=ya f2;have O:F.code.length<=8589934593:=by
    have:∀l:List Nd,l.length<=cI l:=by
     intro l
     induction l with
     | nil=>exact aak _
     | cons x l Y=>cases x;simp only[aac,cI,many];omega
    have:=this F.code;omega
   by_cases A:F.pos=F.code.length
   ·obtain⟨D,k2,Q⟩:=zD E B A;have k4:=Ig S F t B D bn k2 bn M U.1;have e:gT (k+1) S=if(gB S F t).1=0 then gT k (gB S F t).2 else gB S F t:=by
     simp only[gT,B];rw[if_pos A]
    by_cases u:(gB S F t).1=0
    ·rw[e,if_pos u];obtain⟨K,t2,t3,I⟩:=Q;rcases I with ⟨_,H,T,m2⟩|h|h|h|h
     ·have Y:=tI J k _ H T bn bn;exact⟨kE.fin B A bn k4 (fun h=>absurd u h) (fun _=>Y.1),Is K Y.2⟩
     ·rw[u]at h;cases h
     ·rw[u]at h;cases h
     ·omega
     ·omega
    ·rw[e,if_neg u];exact⟨kE.fin B A bn k4 (fun _=>rfl) (fun h=>absurd h u),Gl Q u⟩
   ·have C:F.pos<F.code.length:=by omega
    have W:F.code[F.pos]?=some F.code[F.pos]:=List.getElem?_eq_getElem C;generalize F.code[F.pos]=n at W;obtain⟨kind,N,P,sg,args⟩:=n
    have e:gT (k+1) S=(if kind=3 then gT k (cO (eD S F t) args 0 [])
     else if kind≠2 then(14,eD S F t)
     else if S.gX<=S.used then(12,eD S F t)
     else if(aH P args {eD S F t with used:=S.used+1}).1=0 then gT k (aH P args {eD S F t with used:=S.used+1}).2 else aH P args {eD S F t with used:=S.used+1}):=by
     simp only[gT,B,W];rw[if_neg A]
    rw[e];by_cases G:kind=3
    ·subst G;rw[if_pos rfl];obtain⟨s1,T,m2⟩:=KU E B W;have Y:=tI J k _ s T bn bn;exact⟨kE.seq B W bn O Y.1,Is s1 Y.2⟩
    rw[if_neg G];have c2:kind=2:=by
     have p:=E.ft;rw[B]at p;obtain⟨r,h1,_⟩:=zF p W;simp only[fq]at h1;rw[if_neg G]at h1;apply Decidable.byContradiction;intro c;rw[if_pos c]at h1;cases h1
    subst c2;rw[if_neg cc];by_cases q:S.gX<=S.used
    ·rw[if_pos q];exact⟨kE.aal B W bn O q,⟨rfl,rfl,rfl,rfl,rfl⟩,U,E.TF,.inr (.inr (.inr (.inl ⟨rfl,by show S.used=S.gX;omega⟩)))⟩
    rw[if_neg q];obtain⟨D,Q,_⟩:=wK E B W bn hW;by_cases u:(aH P args {eD S F t with used:=S.used+1}).1=0
    ·rw[if_pos u];obtain⟨K,t2,t3,I⟩:=Q;rcases I with ⟨_,H,T,m2⟩|h|h|h|h
     ·have Y:=tI J k _ H T bn bn;exact⟨kE.step B W bn O bn M U.1 D (fun h=>absurd u h) (fun _=>Y.1),Is K Y.2⟩
     ·rw[u]at h;cases h
     ·rw[u]at h;cases h
     ·omega
     ·omega
    ·rw[if_neg u];exact⟨kE.step B W bn O bn M U.1 D (fun _=>rfl) (fun h=>absurd h u),Gl Q u⟩
end Go.Proofs
namespace Go.Proofs
open Go.cq
structure Qs where
 code:Int
 st:List Vl
 said:Vl
 gX:Int
 bE:Int
def G8 (r:Qs):CV:=iF r.code r.st r.said r.gX r.bE
def qP (a b c d:Int) (H:List Nd) (l:List Vl) (g:Int):bT:=⟨a,b,c,d,l,[⟨H,0,0,[]⟩],g,0,0,oL⟩
def rX (o:MR):Qs:=⟨o.1,if o.1=0 then o.2.st else [],if o.1=10 then o.2.said else oL,o.2.used,if o.1=0 then o.2.bE else 0⟩
def EM (a b c d:Int) (n:Nd) (s:List Ty) (l:List Vl):Bool:=decide ((iP n s).2=0)&&decide (s.length=l.length)&&nD a b c d&&kC s l
def Sa:Qs:=⟨14,[],oL,0,0⟩
def rY (a b c d:Int) (n:Nd) (l:List Vl) (g:Int):MR:=gT (left (qP a b c d (cF n) l g)+1) (qP a b c d (cF n) l g)
def gY (a b c d:Int) (n:Nd) (s:List Ty) (l:List Vl) (g:Int):Qs:=if EM a b c d n s l=true then rX (rY a b c d n l g)else Sa
theorem oS {a b c d:Int} {n:Nd} {s:List Ty} {l:List Vl}:EM a b c d n s l=true↔(iP n s).2=0/\s.length=l.length/\nD a b c d=true/\kC s l=true:=by
 unfold EM;simp only[aai,decide_eq_true_eq,and_assoc]
abbrev LA (l:List Vl):Prop:=∀v∈l,aM v<=25000000
theorem sZ {l:List Vl} (h:aJ l<=25000000):LA l:=fun v Y=>by have:=dO Y;omega
theorem KW:∀{l:List Vl},LA l->aJ l<=l.length*25000000
 | [],_=>aak _
 | v::l,h=>by
  have h1:=h v c9;have h2:=KW (l:=l) fun w O=>h w (by simp[O]);simp only[aJ,aac];omega
theorem KX:∀{s:List Ty} {l:List Vl},s.length=l.length->kC s l=true->LA l->dJ s l
 | [],[],_,_,_=>trivial
 | t::s,v::l,h,h2,V=>by
  simp only[kC,aai]at h2;simp only[aac,Nat.add_right_cancel_iff]at h;exact⟨⟨h2.1,V v c9⟩,KX h h2.2 fun w O=>V w (by simp[O])⟩
 | [],_::_,h,_,_=>by simp at h
 | _::_,[],h,_,_=>by simp at h
theorem tJ {a b c d:Int} {n:Nd} {s:List Ty} {l:List Vl} {g:Int} (h:EM a b c d n s l=true) (W:LA l) (E:0<=g/\g<=1000000):MT (iP n s).1 (qP a b c d (cF n) l g) s:=by
 obtain⟨h1,h2,V,U⟩:=oS.1 h;obtain⟨g1,S,N,O,T⟩:=yB h1;have Y:=KR g1;have Q:=l9 Y;rw[T]at h1 ⊢;refine⟨KX h2 U W,⟨by show s.length+cI (cF n)<=340;omega,Y,Nat.zero_le _,_,_,AP h1,fun hf => .inl ⟨rfl,?_⟩⟩,V,⟨Int.le_refl _,by show(0:Int)<=bP;decide⟩,⟨Int.le_refl _,E.1⟩,E.2⟩;show(cA (cF n) (s,false)).1=(_,false)
 rw[Prod.ext_iff];exact⟨rfl,hf⟩
theorem pG {a b c d:Int} {n:Nd} {s:List Ty} {l:List Vl} {g:Int} (h:EM a b c d n s l=true) (E:0<=g/\g<=1000000):left (qP a b c d (cF n) l g)<=1000000000:=by
 obtain⟨h1,h2,V,Y⟩:=oS.1 h;have W:=l9 (KR (yB h1).1);simp only[left,qP,yc,VF,List.drop_zero];omega
theorem B2 {a b c d:Int} {n:Nd} {s:List Ty} {l:List Vl} {g:Int} (h:EM a b c d n s l=true) (Y:LA l) (E:0<=g/\g<=1000000):kE (left (qP a b c d (cF n) l g)+1) (qP a b c d (cF n) l g) (rY a b c d n l g)/\TL (iP n s).1 (qP a b c d (cF n) l g) (rY a b c d n l g) :=
 tI _ _ _ s (tJ h Y E) (Nat.lt_succ_self _) (pG h E)
theorem Fc (a b c d g:Int) (H:List Nd) (l:List Vl) (o:MR) (hq:l.length<=1000000000) (Q:o.2.st.length<=1000000000\/o.1≠0) (O:cC 43 (qP a b c d H l g) [] (aF o.1) o.2) :
  ag 24 [.agg [aF a,aF b,aF c,aF d],.sl 5 (aI H),.sl 7 (aa l),aF g] (G8 (rX o)):=by
 obtain⟨e,S'⟩:=o;simp only at Q O;unfold rX G8;simp only;by_cases u:e=0
 ·subst u;rw[if_pos rfl,if_neg cc,if_pos rfl];cases l with
  | nil=>exact KY a b c d g H S' (Q.resolve_right fun h=>h rfl) O
  | cons x q=>exact Bb a b c d g H x q S' Ue (Q.resolve_right fun h=>h rfl) O
 rw[if_neg u,if_neg u];by_cases C:e=10
 ·subst C;rw[if_pos rfl];cases l with
  | nil=>exact Fe a b c d g H S' O
  | cons x q=>exact Ff a b c d g H x q S' Ue O
 rw[if_neg C];cases l with
 | nil=>exact Iu a b c d g e H S' u C O
 | cons x q=>exact Iv a b c d g e H x q S' Ue u C O
theorem rW (a b c d g:Int) (n:Nd) (U:b8 n<=8589934593) (s:List Ty) (G:aY s<=8589934593) (l:List Vl) (T:LA l) (E:0<=g/\g<=1000000) :
  ag 9 [.agg [aF a,aF b,aF c,aF d],aX n,.sl 2 (aq s),.sl 7 (aa l),aF g] (G8 (gY a b c d n s l g)):=by
 by_cases V:(iP n s).2=0/\s.length=l.length/\nD a b c d=true;rotate_left
 ·have e:EM a b c d n s l=false:=by
   cases Y:EM a b c d n s l with
   | false=>rfl
   | true =>
    obtain⟨h1,h2,W,_⟩:=oS.1 Y;exact absurd ⟨h1,h2,W⟩ V
  unfold gY;rw[if_neg (by rw[e];decide)];exact VH a b c d g n U s G l V
 obtain⟨h1,h2,W⟩:=V;have P:l.length<=40:=by have:=(yB h1).2.2.1;omega
 have N:=KW T;have p:kC s l=true->ag 24 [.agg [aF a,aF b,aF c,aF d],.sl 5 (aI (cF n)),.sl 7 (aa l),aF g] (G8 (rX (rY a b c d n l g))):=by
  intro Y;have ok:EM a b c d n s l=true:=oS.2 ⟨h1,h2,W,Y⟩;obtain⟨O,J⟩:=B2 ok T E;refine Fc a b c d g (cF n) l _ bn ?_ (C3 _ _ _ O);obtain⟨_,_,_,S⟩:=J;rcases S with ⟨_,_,Q,_⟩|w|w|w|w
  ·left;have:=bH Q;have:=(zR h1).2.1;omega
  all_goals right
  ·rw[w];decide
  ·rw[w];decide
  ·rw[w.1];decide
  ·rw[w.1];decide
 have B:=Oj a b c d g n U s G l bn h1 h2 W _ _ _ _ _ p;have e:(bif kC s l then iF (rX (rY a b c d n l g)).code (rX (rY a b c d n l g)).st (rX (rY a b c d n l g)).said (rX (rY a b c d n l g)).gX (rX (rY a b c d n l g)).bE else iF 14 [] oL 0 0)=G8 (gY a b c d n s l g):=by
  unfold gY;cases Y:kC s l with
  | true =>
   rw[if_pos (oS.2 ⟨h1,h2,W,Y⟩)];rfl
  | false =>
   rw[if_neg (fun h=>by have:=(oS.1 h).2.2.2;rw[Y]at this;cases this)];rfl
 rw[<- e];exact B
end Go.Proofs
namespace Go.Proofs
open Go.cq
def hM (S:bT) (F:fO) (t:List fO):MR :=
 if F.pos=F.code.length then gB S F t
 else match F.code[F.pos]? with
  | none=>(14,S)
  | some (.mk kind N P s args) =>
   if kind=3 then(0,cO (eD S F t) args 0 [])
   else if kind≠2 then(14,eD S F t)
   else if S.gX<=S.used then(12,eD S F t)
   else aH P args {eD S F t with used:=S.used+1}
theorem nK {S:bT} (k:Nat) (h:S.fr=[]):gT (k+1) S=(0,S):=by simp only[gT,h]
def ac7 (k:Nat) (o:MR):MR:=if o.1=0 then gT k o.2 else o
theorem Nx {S:bT} {F:fO} {t:List fO} (k:Nat) (h:S.fr=F::t):gT (k+1) S=ac7 k (hM S F t):=by
 simp only[gT,h];unfold hM;by_cases A:F.pos=F.code.length
 ·rw[if_pos A,if_pos A];rfl
 ·rw[if_neg A,if_neg A];cases Y:F.code[F.pos]? with
  | none=>rfl
  | some n =>
   obtain⟨kind,N,P,s,args⟩:=n;dsimp only;by_cases H:kind=3
   ·rw[if_pos H,if_pos H];rfl
   rw[if_neg H,if_neg H];by_cases J:kind≠2
   ·rw[if_pos J,if_pos J];rfl
   rw[if_neg J,if_neg J];by_cases E:S.gX<=S.used
   ·rw[if_pos E,if_pos E];rfl
   rw[if_neg E,if_neg E];rfl
theorem mb {S:bT} {F:fO} {t:List fO} (k:Nat) (h:S.fr=F::t):gT (k+1) S=if(hM S F t).1=0 then gT k (hM S F t).2 else hM S F t:=Nx k h
theorem qo {J:List Ty×Bool} {S:bT} {s:List Ty} {F:fO} {t:List fO} (E:MT J S s) (h:S.fr=F::t) (W:left S<=1000000000):Nv J S (hM S F t):=by
 unfold hM;by_cases A:F.pos=F.code.length
 ·rw[if_pos A];exact(zD E h A).2.2
 rw[if_neg A];have p:=E.ft;rw[h]at p;have V:=p;obtain⟨O,M,K,_⟩:=V;have C:F.pos<F.code.length:=by omega
 have Y:F.code[F.pos]?=some F.code[F.pos]:=List.getElem?_eq_getElem C;generalize F.code[F.pos]=n at Y;obtain⟨kind,N,P,G,args⟩:=n;rw[Y];dsimp only;by_cases H:kind=3
 ·rw[if_pos H];subst H;obtain⟨T,Q,I⟩:=KU E h Y;exact⟨T,E.used,E.TF,.inl ⟨rfl,s,Q,I⟩⟩
 rw[if_neg H];have D:kind=2:=by
  obtain⟨r,h1,_⟩:=zF p Y;simp only[fq]at h1;rw[if_neg H]at h1;apply Decidable.byContradiction;intro c;rw[if_pos c]at h1;cases h1
 subst D;rw[if_neg cc];have B:=E.used;by_cases U:S.gX<=S.used
 ·rw[if_pos U];exact⟨⟨rfl,rfl,rfl,rfl,rfl⟩,E.used,E.TF,.inr (.inr (.inr (.inl ⟨rfl,by show S.used=S.gX;omega⟩)))⟩
 rw[if_neg U];exact(wK E h Y bn W).2.1
theorem wL {N:List Ty×Bool} {S:bT} {o:MR} (h:Nv N S o) (U:o.1=0):∃P,MT N o.2 P/\left o.2<left S:=by
 obtain⟨_,_,_,Y⟩:=h;rcases Y with ⟨_,P,p,B⟩|h|h|h|h
 ·exact⟨P,p,B⟩
 ·rw[U]at h;cases h
 ·rw[U]at h;cases h
 ·omega
 ·omega
theorem Ee (N:List Ty×Bool):∀(k:Nat) (S:bT) (s:List Ty),MT N S s->left S<k->left S<=1000000000->∀k',left S<k'->gT k' S=gT k S
 | 0,S,s,_,h,_,_,_=>absurd h (Nat.not_lt_zero _)
 | k+1,S,s,hT,hk,hW,0,h=>absurd h (Nat.not_lt_zero _)
 | k+1,S,s,hT,hk,hW,k'+1,hk'=>by
  cases B:S.fr with
  | nil=>rw[nK _ B,nK _ B]
  | cons F t =>
   rw[mb k B,mb k' B];by_cases U:(hM S F t).1=0
   ·rw[if_pos U,if_pos U];obtain⟨P,p,V⟩:=wL (qo hT B hW) U;exact Ee N k _ P p bn bn k' bn
   ·simp_all
theorem tK {a b c d:Int} {n:Nd} {s:List Ty} {l:List Vl} {g:Int} (h:EM a b c d n s l=true) (Y:LA l) (E:0<=g/\g<=1000000) (k:Nat) (D:1000000000<k):gT k (qP a b c d (cF n) l g)=rY a b c d n l g:=by
 have h2:=pG h E;exact Ee _ _ _ s (tJ h Y E) (Nat.lt_succ_self _) h2 k bn
abbrev wY (g:Int) (S:bT):bT:={S with gX:=g}
abbrev Iw (g:Int) (o:MR):MR:=(o.1,wY g o.2)
theorem lp {c:Prop} [Decidable c] {g:Int} {a b q P:MR} (h1:q=Iw g a) (h2:P=Iw g b):(if c then q else P)=Iw g (if c then a else b):=by grind
theorem Ny (P:Int) (args:List Nd) (l:List Vl) (S:bT) (g:Int):iR P args l (wY g S)=Iw g (iR P args l S):=by
 unfold iR;refine lp ?_ (lp ?_ (lp ?_ (lp ?_ (lp ?_ (lp ?_ ?_)))))
 ·unfold FG
  repeat' (first|rfl|refine lp ?_ ?_)
 ·unfold Ad
  repeat' (first|rfl|refine lp ?_ ?_)
 ·unfold r8;cases eC (lV l 0)<;>dsimp only <;>
  repeat' (first|rfl|refine lp ?_ ?_)
 ·unfold Ae;cases eC (lV l 1)<;>dsimp only <;>
  repeat' (first|rfl|refine lp ?_ ?_)
 ·unfold v9;dsimp only
  repeat' (first|rfl|refine lp ?_ ?_)
 ·unfold FH;dsimp only
  repeat' (first|rfl|refine lp ?_ ?_)
 ·unfold uN;dsimp only
  repeat' (first|rfl|refine lp ?_ ?_)
theorem Qt (P:Int) (args:List Nd) (S:bT) (g:Int):aH P args (wY g S)=Iw g (aH P args S):=by
 unfold aH;show(match gb (bO P) S.st with|some (l,r)=>iR P args l {wY g S with st:=r}|none=>_)=_;cases gb (bO P) S.st with
 | none=>rfl
 | some Y=>obtain⟨l,r⟩:=Y;exact Ny P args l {S with st:=r} g
theorem KZ (S:bT) (F:fO) (t:List fO) (g:Int) (E:S.gX<=g) (A:S.used<=S.gX):(gB S F t).1≠12->gB (wY g S) F t=Iw g (gB S F t):=by
 unfold gB;intro h;by_cases q:F.fin=1
 ·simp_all
 rw[if_neg q]at h ⊢;rw[if_neg q];by_cases J:F.fin=2
 ·grind
 rw[if_neg J]at h ⊢;rw[if_neg J];by_cases H:F.fin=3
 ·grind
 rw[if_neg H]at h ⊢;rw[if_neg H];by_cases c4:F.fin=4
 ·grind
 rw[if_neg c4,if_neg c4]
theorem Qu (S:bT) (F:fO) (t:List fO) (g:Int) (E:S.gX<=g) (p:S.used<=S.gX) (h:(hM S F t).1≠12):hM (wY g S) F t=Iw g (hM S F t):=by
 unfold hM at h ⊢;by_cases A:F.pos=F.code.length
 ·rw[if_pos A]at h ⊢;rw[if_pos A];exact KZ S F t g E p h
 rw[if_neg A]at h ⊢;rw[if_neg A];cases Y:F.code[F.pos]? with
 | none=>rfl
 | some n =>
  obtain⟨kind,N,P,s,args⟩:=n;rw[Y]at h;dsimp only at h ⊢;by_cases H:kind=3
  ·rw[if_pos H,if_pos H];try rfl
  rw[if_neg H]at h ⊢;rw[if_neg H];by_cases J:kind≠2
  ·simp_all
  rw[if_neg J]at h ⊢;rw[if_neg J];by_cases K:S.gX<=S.used
  ·simp_all
  rw[if_neg K,if_neg (show ¬g<=S.used by omega)];exact Qt P args {eD S F t with used:=S.used+1} g
theorem Ef {J:List Ty×Bool} {S:bT} {s:List Ty} {F:fO} {t:List fO} (E:MT J S s) (h:S.fr=F::t):S.used<=(hM S F t).2.used:=by
 unfold hM;by_cases A:F.pos=F.code.length
 ·rw[if_pos A];unfold gB;split
  ·exact Int.le_refl _
  split
  ·grind
  split
  ·grind
  split
  ·grind
  ·exact Int.le_refl _
 rw[if_neg A];cases W:F.code[F.pos]? with
 | none=>exact Int.le_refl _
 | some n =>
  obtain⟨kind,N,P,s,args⟩:=n;dsimp only;split
  ·exact Int.le_refl _
  split
  ·exact Int.le_refl _
  split
  ·exact Int.le_refl _
  ·have h1:(aH P args {eD S F t with used:=S.used+1}).2.used=S.used+1:=by
    unfold aH;cases gb (bO P) {eD S F t with used:=S.used+1}.st with
    | none=>rfl
    | some Y=>exact(Gk P args Y.1 {eD S F t with used:=S.used+1,st:=Y.2}).1.2.2.2.2.2
   rw[h1];omega
theorem Eg (N:List Ty×Bool):∀(k:Nat) (S:bT) (s:List Ty),MT N S s->left S<=1000000000->S.used<=(gT k S).2.used
 | 0,S,s,_,_=>Int.le_refl _
 | k+1,S,s,hT,hW=>by
  cases B:S.fr with
  | nil=>rw[nK _ B];exact Int.le_refl _
  | cons F t =>
   rw[mb k B];have h1:=Ef hT B;by_cases U:(hM S F t).1=0
   ·rw[if_pos U];obtain⟨P,p,V⟩:=wL (qo hT B hW) U;exact Int.le_trans h1 (Eg N k _ P p bn)
   ·simp_all
theorem X5 {N:List Ty×Bool} {S:bT} {s:List Ty} (g:Int) (E:MT N S s) (U:S.gX<=g) (Y:g<=1000000):MT N (wY g S) s :=
 ⟨E.fit,E.ft,E.env,E.TF,⟨E.used.1,Int.le_trans E.used.2 U⟩,Y⟩
theorem Gm (W:List Ty×Bool) (g:Int) (Q:g<=1000000):∀(k:Nat) (S:bT) (s:List Ty),MT W S s->S.gX<=g->left S<=1000000000->left (wY g S)<=1000000000->((gT k S).1≠12->gT k (wY g S)=Iw g (gT k S))/\((gT k S).1=12->(gT k S).2.used<=(gT k (wY g S)).2.used)
 | 0,S,s,_,_,_,_=>⟨fun h=>absurd rfl h,fun _=>Int.le_refl _⟩
 | k+1,S,s,hT,hg,hW,hW2=>by
  cases B:S.fr with
  | nil =>
   rw[nK _ B,nK k (S:=wY g S) B];exact⟨fun _=>rfl,fun h=>by cases h⟩
  | cons F t =>
   have M:=qo hT B hW;have O:=X5 g hT hg Q;have K:=qo (S:=wY g S) O B hW2;have E:=Ef (S:=wY g S) O B;rw[mb k B,mb k (S:=wY g S) B];by_cases U:(hM S F t).1=12
   ·rw[if_neg (by rw[U];decide)];refine⟨fun h=>absurd U h,fun _=>?_⟩;have u:(hM S F t).2.used<=S.gX:=by
     have:=M.2.1.2;have p:(hM S F t).2.gX=S.gX:=M.1.2.2.2.2;omega
    have D:(hM S F t).2.used=S.used:=by
     unfold hM at U ⊢;by_cases A:F.pos=F.code.length
     ·rw[if_pos A]at U ⊢;unfold gB at U ⊢;split at U
      ·cases U
      rename_i q;rw[if_neg q];split at U
      ·grind
      rename_i J;rw[if_neg J];split at U
      ·grind
      rename_i H;rw[if_neg H];split at U
      ·grind
      ·cases U
     rw[if_neg A]at U ⊢;cases I:F.code[F.pos]? with
     | none=>rfl
     | some n =>
      obtain⟨kind,N,P,s,args⟩:=n;rw[I]at U;dsimp only at U ⊢;split at U
      ·cases U
      rename_i H;rw[if_neg H];split at U
      ·cases U
      rename_i J;rw[if_neg J];split at U
      ·simp_all
      ·rename_i c;exfalso;have V:=wK hT B (by rw[I,show kind=2 from by simpa using J]) bn hW;exact V.2.2 U
    rw[D];by_cases Y:(hM (wY g S) F t).1=0
    ·rw[if_pos Y];obtain⟨T,p,C⟩:=wL K Y;exact Int.le_trans E (Eg W k _ T p bn)
    ·simp_all
   ·have e:=Qu S F t g hg hT.used.2 U;rw[e];by_cases Y:(hM S F t).1=0
    ·rw[if_pos Y,if_pos Y];obtain⟨T,p,C⟩:=wL M Y;obtain⟨s2,h7,G⟩:=wL K (by rw[e];exact Y);rw[e]at G;exact Gm W g Q k _ T p (by rw[show(hM S F t).2.gX=S.gX from M.1.2.2.2.2];exact hg) bn (Nat.le_trans (Nat.le_of_lt G) hW2)
    ·simp_all
end Go.Proofs
