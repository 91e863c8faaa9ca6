/- Package run: a typed machine makes typed steps. Package run: what a value of a type is. Package run: typed steps of class shape. -/
import Derived.Test.YtlohbilpimjmmaaGreatDoorRunS
import Derived.Test.YtlohbilpimjmmaaGreatDoorRunG
set_option linter.unusedVariables false
set_option linter.unusedSimpArgs false
namespace Go.Proofs
open Go.cq
def Fit (t:Ty) (v:Vl):Prop:=jV t v=true/\aM v<=25000000
def dJ:List Ty->List Vl->Prop
 | [],[]=>True
 | t::s,v::l=>Fit t v/\dJ s l
 | _,_=>False
theorem bH:∀{s:List Ty} {l:List Vl},dJ s l->s.length=l.length
 | [],[],_=>rfl
 | t::s,v::l,h=>by simp only[aac,bH h.2]
 | [],_::_,h=>h.elim
 | _::_,[],h=>h.elim
theorem bg {t:Ty} {s:List Ty} {l:List Vl} (h:dJ (t::s) l):∃v q,l=v::q/\Fit t v/\dJ s q:=by
 cases l with
 | nil=>exact h.elim
 | cons v q=>exact⟨v,q,rfl,h.1,h.2⟩
theorem Er:∀{s:List Ty} {l:List Vl} {i:Nat} {t:Ty},dJ s l->s[i]?=some t->∃v,l[i]?=some v/\Fit t v
 | t::s,v::l,0,u,h,e=>⟨v,rfl,by simp at e;subst e;exact h.1⟩
 | t::s,v::l,i+1,u,h,e=>Er (i:=i) h.2 (by simpa using e)
 | [],_,_,_,_,e=>by simp at e
 | _::_,[],_,_,h,_=>h.elim
theorem AS:∀{s:List Ty} {l:List Vl} (i:Nat),dJ s l->dJ (s.take i) (l.take i)
 | _,_,0,_=>trivial
 | t::s,v::l,i+1,h=>⟨h.1,AS i h.2⟩
 | [],[],i+1,_=>trivial
 | [],_::_,_+1,h=>h.elim
 | _::_,[],_+1,h=>h.elim
theorem AT:∀{s:List Ty} {l:List Vl} (i:Nat),dJ s l->dJ (s.drop i) (l.drop i)
 | _,_,0,h=>h
 | t::s,v::l,i+1,h=>AT (s:=s) (l:=l) i h.2
 | [],[],i+1,_=>trivial
 | [],_::_,_+1,h=>h.elim
 | _::_,[],_+1,h=>h.elim
theorem zE:∀{s r:List Ty} {l m:List Vl},dJ s l->dJ r m->dJ (s++r) (l++m)
 | [],_,[],_,_,h=>h
 | t::s,_,v::l,_,h,h2=>⟨h.1,zE h.2 h2⟩
 | [],_,_::_,_,h,_=>h.elim
 | _::_,_,[],_,h,_=>h.elim
def aH (P:Int) (args:List Nd) (S:bT):MR:=match gb (bO P) S.st with
 | some (l,r)=>iR P args l {S with st:=r}
 | none=>(14,{S with st:=[]})
def bQ (S:bT) (r:List Ty×Bool) (o:MR):Prop :=
 (o.1=0/\o.2.fr=S.fr/\dJ r.1 o.2.st/\r.2=false)\/o.1=11\/o.1=13
def bp (N:Int) (V:List UInt8) (P:Int) (args:List Nd) (S:bT):Prop:=cC 57 S [.c (aX (.mk 2 N P V args))] (aF (aH P args S).1) (aH P args S).2
theorem Cl:∀(l st:List Vl),(lI l st).1=13\/((lI l st).1=0/\(lI l st).2=l.reverse++st/\∀v∈l,lB v<=200)
 | [],st => .inr ⟨rfl,rfl,fun v h=>by simp at h⟩
 | x::l,st=>by
  unfold lI;by_cases h:lB x>200
  ·simp_all
  ·rw[if_neg h];rcases Cl l (x::st)with h1|⟨h1,h2,V⟩
   ·exact .inl h1
   ·simp_all
theorem IC {t:Ty} {v:Vl} (h:jV t v=true) (Y:lB v<=200):Fit t v:=⟨h,by have:=QE h;omega⟩
theorem b9 {S:bT} {s:List Ty} {t:Ty} {v:Vl} (h:jV t v=true) (Y:dJ s S.st):bQ S (t::s,false) (bl S [v]):=by
 rcases Cl [v] S.st with h1|⟨h1,h2,V⟩
 ·exact .inr (.inr h1)
 ·refine .inl ⟨h1,rfl,?_,rfl⟩;show dJ _ (lI [v] S.st).2;rw[h2];exact⟨IC h (V v c9),Y⟩
theorem HS {S:bT} {s:List Ty} {t u:Ty} {v w:Vl} (h:jV t v=true) (E:jV u w=true) (Y:dJ s S.st):bQ S (t::u::s,false) (bl S [w,v]):=by
 rcases Cl [w,v] S.st with h1|⟨h1,h2,V⟩
 ·exact .inr (.inr h1)
 ·refine .inl ⟨h1,rfl,?_,rfl⟩;show dJ _ (lI [w,v] S.st).2;rw[h2];exact⟨IC h (V v c9),IC E (V w c9),Y⟩
theorem jL {P:Int} {args:List Nd} {B:List Ty} (h:bN P args=some B):args.length=(fN P).length/\jc (fN P) args []=some B:=by
 unfold bN at h;split at h
 ·cases h
 ·simp_all
theorem cE {P:Int} {args:List Nd} {B:List Ty} (h:bN P args=some B) (Y:fN P=[]):args=[]/\B=[]:=by
 obtain⟨h1,h2⟩:=jL h;rw[Y]at h1 h2;obtain rfl:=List.length_eq_zero_iff.1 h1;simp only[jc]at h2;cases h2;exact⟨rfl,rfl⟩
theorem sH {P:Int} {args:List Nd} {B:List Ty} (h:bN P args=some B) (Y:fN P=[110]):∃N p q x,args=[.mk 0 (N:Nat) p q x]/\N<=40/\B=[]:=by
 obtain⟨h1,h2⟩:=jL h;rw[Y]at h1 h2;obtain⟨y,rfl⟩:=List.length_eq_one_iff.1 h1;obtain⟨kind,N,p,q,x⟩:=y;simp only[jc,if_true]at h2;split at h2
 ·rename_i c;obtain⟨rfl,J,D⟩:=c;cases h2;exact⟨N.toNat,p,q,x,by rw[Int.toNat_of_nonneg J],bn,rfl⟩
 ·cases h2
theorem O4:bO 40=1:=by decide +kernel
theorem Ix:bO 41=0:=by decide +kernel
theorem O5:bO 42=2:=by decide +kernel
theorem Iy:bO 43=0:=by decide +kernel
theorem Iz:bO 44=1:=by decide +kernel
theorem NJ (S:bT) (N:Int) (V:List UInt8) (args:List Nd) (B s:List Ty) (r:List Ty×Bool) (hf:bN 40 args=some B) (Y:dJ s S.st) (A:s.length<=340) (E:gq 40 args s=(r,0)):bp N V 40 args S/\bQ S r (aH 40 args S):=by
 obtain⟨a,b,c,d,st,fr,g,u,m,said⟩:=S;obtain⟨rfl,rfl⟩:=cE hf cc;have M:=bH Y;cases s with
 | nil=>cases E
 | cons t s =>
  obtain⟨v,q,rfl,W,hq⟩:=bg Y;cases E;have e:aH 40 [] ⟨a,b,c,d,v::q,fr,g,u,m,said⟩=(0,⟨a,b,c,d,q,fr,g,u,m,said⟩):=by unfold aH;rw[O4];rfl
  unfold bp;rw[e];exact⟨o9 _ _ 2 N 40 V [] [v] q 0 cc (by rw[O4];rfl) (by simp only[aac]at *;omega) (FE _ N V [v]),.inl ⟨rfl,rfl,hq,rfl⟩⟩
theorem NK (S:bT) (N:Int) (V:List UInt8) (args:List Nd) (B s:List Ty) (r:List Ty×Bool) (hf:bN 42 args=some B) (Y:dJ s S.st) (A:s.length<=340) (E:gq 42 args s=(r,0)):bp N V 42 args S/\bQ S r (aH 42 args S):=by
 obtain⟨a,b,c,d,st,fr,g,u,m,said⟩:=S;obtain⟨rfl,rfl⟩:=cE hf cc;have M:=bH Y;rcases s with _|⟨U,_|⟨T,s⟩⟩
 ·cases E
 ·cases E
 ·obtain⟨v,D,rfl,W,P⟩:=bg Y;obtain⟨w,q,rfl,O,hq⟩:=bg P;cases E;have e:aH 42 [] ⟨a,b,c,d,v::w::q,fr,g,u,m,said⟩=bl ⟨a,b,c,d,q,fr,g,u,m,said⟩ [v,w]:=by unfold aH;rw[O5];rfl
  unfold bp;rw[e];simp only[aac]at M A;exact⟨o9 _ _ 2 N 42 V [] [v,w] q _ cc (by rw[O5];rfl) dZ (PS ⟨a,b,c,d,q,fr,g,u,m,said⟩ N V v w (by have:=W.2;omega) (by have:=O.2;omega) (by show q.length<=_;omega)),HS (S:=⟨a,b,c,d,q,fr,g,u,m,said⟩) O.1 W.1 hq⟩
theorem O6 {α:Type} {l:List α} {i:Nat} {d:α} (h:i<l.length):l[i]?=some (l.getD i d):=by simp_all
theorem QF (S:bT) (J:Int) (V:List UInt8) (args:List Nd) (B s:List Ty) (r:List Ty×Bool) (hf:bN 41 args=some B) (Y:dJ s S.st) (A:s.length<=340) (E:gq 41 args s=(r,0)):bp J V 41 args S/\bQ S r (aH 41 args S):=by
 obtain⟨a,b,c,d,st,fr,g,u,m,said⟩:=S;obtain⟨N,p,q,x,rfl,D,rfl⟩:=sH hf cc;have M:=bH Y;simp only at Y M;have U:(if 1<=(N:Int)/\(N:Int)<=s.length/\lz (s.getD ((N:Int)-1).toNat lA)=true then ee (s.getD ((N:Int)-1).toNat lA::s)else aP 5)=(r,0):=E;split at U
 ·rename_i Q;obtain⟨O,K,H⟩:=Q;cases U;rw[show((N:Int)-1).toNat=N-1 from by omega];have P:=O6 (l:=s) (i:=N-1) (d:=lA) bn;obtain⟨v,W,T⟩:=Er Y P;have e:aH 41 [.mk 0 (N:Nat) p q x] ⟨a,b,c,d,st,fr,g,u,m,said⟩=bl ⟨a,b,c,d,st,fr,g,u,m,said⟩ [v]:=by
   unfold aH;rw[Ix];show bl _ [lV st ((N:Int).toNat-1)]=_;rw[aax,Sn W]
  unfold bp;rw[e];exact⟨o9 _ _ 2 J 41 V _ [] st _ cc (by rw[Ix];rfl) Hh (So ⟨a,b,c,d,st,fr,g,u,m,said⟩ J V N p q x [] v bn W (by have:=T.2;omega) Hh),b9 (S:=⟨a,b,c,d,st,fr,g,u,m,said⟩) T.1 Y⟩
 ·cases U
theorem QG (S:bT) (J:Int) (V:List UInt8) (args:List Nd) (B s:List Ty) (r:List Ty×Bool) (hf:bN 43 args=some B) (Y:dJ s S.st) (A:s.length<=340) (E:gq 43 args s=(r,0)):bp J V 43 args S/\bQ S r (aH 43 args S):=by
 obtain⟨a,b,c,d,st,fr,g,u,m,said⟩:=S;obtain⟨N,p,q,x,rfl,D,rfl⟩:=sH hf cc;have M:=bH Y;simp only at Y M;have U:(if(N:Int)<s.length then ee (s.getD (N:Int).toNat lA::(s.take (N:Int).toNat++s.drop ((N:Int).toNat+1)))else aP 5)=(r,0):=E;split at U
 ·rename_i P;cases U;rw[aax];have T:=O6 (l:=s) (i:=N) (d:=lA) bn;obtain⟨v,W,Q⟩:=Er Y T;have e:aH 43 [.mk 0 (N:Nat) p q x] ⟨a,b,c,d,st,fr,g,u,m,said⟩=(0,⟨a,b,c,d,v::(st.take N++st.drop (N+1)),fr,g,u,m,said⟩):=by
   unfold aH;rw[Iy];show((0,{self:=a,gO:=b,gP:=c,balance:=d,st:=lV st (N:Int).toNat::(st.take (N:Int).toNat++st.drop ((N:Int).toNat+1)),fr:=fr,gX:=g,used:=u,bE:=m,said:=said}):MR)=_;rw[aax,Sn W]
  unfold bp;rw[e];exact⟨o9 _ _ 2 J 43 V _ [] st _ cc (by rw[Iy];rfl) Hh (Sq ⟨a,b,c,d,st,fr,g,u,m,said⟩ J V N p q x [] v W Hh),.inl ⟨rfl,rfl,⟨Q,zE (AS N Y) (AT (N+1) Y)⟩,rfl⟩⟩
 ·cases U
theorem QH (S:bT) (J:Int) (V:List UInt8) (args:List Nd) (B s:List Ty) (r:List Ty×Bool) (hf:bN 44 args=some B) (Y:dJ s S.st) (A:s.length<=340) (E:gq 44 args s=(r,0)):bp J V 44 args S/\bQ S r (aH 44 args S):=by
 obtain⟨a,b,c,d,st,fr,g,u,m,said⟩:=S;obtain⟨N,p,q,x,rfl,D,rfl⟩:=sH hf cc;have M:=bH Y;simp only at Y M;cases s with
 | nil=>cases E
 | cons t s =>
  obtain⟨v,st,rfl,W,hq⟩:=bg Y;simp only[aac]at M A;have U:(if(N:Int)<s.length+1 then ee (s.take (N:Int).toNat++t::s.drop (N:Int).toNat)else aP 5)=(r,0):=E;split at U
  ·rename_i T;cases U;rw[aax];have e:aH 44 [.mk 0 (N:Nat) p q x] ⟨a,b,c,d,v::st,fr,g,u,m,said⟩=(0,⟨a,b,c,d,st.take N++v::st.drop N,fr,g,u,m,said⟩):=by
    unfold aH;rw[Iz];show((0,{self:=a,gO:=b,gP:=c,balance:=d,st:=st.take (N:Int).toNat++v::st.drop (N:Int).toNat,fr:=fr,gX:=g,used:=u,bE:=m,said:=said}):MR)=_;rw[aax]
   unfold bp;rw[e];exact⟨o9 _ _ 2 J 44 V _ [v] st _ cc (by rw[Iz];rfl) (by show(v::st).length<=_;simp only[aac];omega) (Ss ⟨a,b,c,d,st,fr,g,u,m,said⟩ J V N p q x v (by show N<=st.length;omega) Hh),.inl ⟨rfl,rfl,zE (AS N hq) ⟨W,AT N hq⟩,rfl⟩⟩
  ·cases U
theorem Nq (P:Int) (C:40<=P/\P<=44) (S:bT) (N:Int) (V:List UInt8) (args:List Nd) (B s:List Ty) (r:List Ty×Bool) (hf:bN P args=some B) (Y:dJ s S.st) (A:s.length<=340) (E:gq P args s=(r,0)):bp N V P args S/\bQ S r (aH P args S):=by
 rcases(show P=40\/P=41\/P=42\/P=43\/P=44 by omega)with rfl|rfl|rfl|rfl|rfl
 ·exact NJ S N V args B s r hf Y A E
 ·exact QF S N V args B s r hf Y A E
 ·exact NK S N V args B s r hf Y A E
 ·exact QG S N V args B s r hf Y A E
 ·exact QH S N V args B s r hf Y A E
end Go.Proofs
namespace Go.Proofs
open Go.cq
theorem lT {k n a:Int} {s:List UInt8} {args:List Vl} {B:List Ty} {H:List Nd} {t:Ty} (h:bK (.mk k n a s args B H) t=true):k=bR t/\cw (.mk k n a s args B H)=true/\s.length<=200:=by
 unfold bK at h;by_cases p:k≠bR t\/cw (.mk k n a s args B H)=false\/200<s.length
 ·simp_all
 refine⟨Decidable.byContradiction fun q=>p (.inl q),?_,bn⟩;cases hq:cw (.mk k n a s args B H)with
 | true=>rfl
 | false=>exact absurd (.inr (.inl hq)) p
theorem fD {v:Vl} {T:Int} {ts:List Ty} (E:T=2\/T=3\/T=4\/T=5\/T=7) (h:bK v (.mk T ts)=true):∃n,v=aO T n/\bK (aO T n) (.mk T ts)=true:=by
 obtain⟨k,n,a,s,args,B,H⟩:=v;obtain⟨D,A,Y⟩:=lT h;simp only[bR]at D;subst D;have:args=[]/\a=0/\s=[]/\B=[]/\H=[]:=by
  rcases E with rfl|rfl|rfl|rfl|rfl<;>simp[bK,cw]at h A<;>simp_all
 obtain⟨rfl,rfl,rfl,rfl,rfl⟩:=this;exact⟨n,rfl,h⟩
theorem TB {v:Vl} {ts:List Ty} (h:bK v (.mk 2 ts)=true):v=aO 2 0\/v=aO 2 1:=by
 obtain⟨n,rfl,h⟩:=fD (.inl rfl) h;have:0<=n/\n<=1:=by simpa[bK,cw,aO,bR]using h
 rcases(show n=0\/n=1 by omega)with rfl|rfl
 ·exact .inl rfl
 ·exact .inr rfl
theorem mX {T n:Int} {ts:List Ty} (h:(T=2/\0<=n/\n<=1)\/(T=3 /\ -bP<=n/\n<=bP)\/(T=4/\0<=n/\n<=bP)\/(T=5/\0<=n/\n<=bP)\/(T=7/\0<=n/\n<12)):bK (aO T n) (.mk T ts)=true/\eJ (aO T n)=true:=by
 rcases h with ⟨rfl,h⟩|⟨rfl,h⟩|⟨rfl,h⟩|⟨rfl,h⟩|⟨rfl,h⟩
 all_goals simp[bK,cw,aO,bR,eJ,eu,h]
theorem MY {T n:Int} {ts:List Ty} (h:bK (aO T n) (.mk T ts)=true):(T=2->0<=n/\n<=1)/\(T=3 -> -bP<=n/\n<=bP)/\(T=4->0<=n/\n<=bP)/\(T=5->0<=n/\n<=bP)/\(T=7->0<=n/\n<12):=by
 refine⟨?_,?_,?_,?_,?_⟩<;>(rintro rfl;simpa[bK,cw,aO,bR]using h)
theorem vA {v:Vl} {t u:Ty} (h:bK v (.mk 11 [t,u])=true) (Y:eJ v=true):∃x y,v=bz x y/\(bK x t=true/\eJ x=true)/\(bK y u=true/\eJ y=true):=by
 obtain⟨k,n,a,s,args,B,H⟩:=v;obtain⟨D,A,_⟩:=lT h;simp only[bR]at D;subst D;simp[cw]at A;simp[bK,cw,bR,aA]at h;obtain⟨rfl,rfl,rfl,rfl⟩:=A;rcases args with _|⟨x,_|⟨y,_|⟨z,r⟩⟩⟩
 ·simp at h
 ·simp at h
 ·simp[cW,eJ,eu]at h Y;exact⟨x,y,by rw[h.1];rfl,⟨h.2.1,Y.1⟩,⟨h.2.2,Y.2⟩⟩
 ·simp at h
theorem kL {x y:Vl} {t u:Ty} (h1:bK x t=true/\eJ x=true) (h2:bK y u=true/\eJ y=true):bK (bz x y) (.mk 11 [t,u])=true/\eJ (bz x y)=true:=by
 simp[bz,bK,cw,bR,aA,cW,eJ,eu,h1,h2]
theorem OR {v:Vl} {t:Ty} (h:bK v (.mk 9 [t])=true) (Y:eJ v=true):v=cB []\/∃x,v=cB [x]/\bK x t=true/\eJ x=true:=by
 obtain⟨k,n,a,s,args,B,H⟩:=v;obtain⟨D,A,_⟩:=lT h;simp only[bR]at D;subst D;simp[cw]at A;simp[bK,cw,bR,aE,aA]at h;obtain⟨rfl,rfl,rfl,rfl⟩:=A;rcases args with _|⟨x,_|⟨y,r⟩⟩
 ·exact .inl (by simp at h;rw[h.1];rfl)
 ·simp[aR,eJ,eu]at h Y;exact .inr ⟨x,by rw[h.1];rfl,h.2,Y⟩
 ·simp at h
theorem mY {t:Ty}:bK (cB []) (.mk 9 [t])=true/\eJ (cB [])=true:=by simp[cB,bK,cw,bR,aR,eJ,eu]
theorem iM {x:Vl} {t:Ty} (h:bK x t=true/\eJ x=true):bK (cB [x]) (.mk 9 [t])=true/\eJ (cB [x])=true:=by simp[cB,bK,cw,bR,aE,aA,aR,eJ,eu,h]
theorem zA {v:Vl} {t:Ty} (h:bK v (.mk 10 [t])=true) (Y:eJ v=true):∃l,v = .mk 10 0 0 [] l [] []/\l.length<=24/\aR l t=true/\eu l=true:=by
 obtain⟨k,n,a,s,args,B,H⟩:=v;obtain⟨D,A,_⟩:=lT h;simp only[bR]at D;subst D;simp[cw]at A;simp[bK,cw,bR,aE,aA]at h;obtain⟨rfl,rfl,rfl,rfl⟩:=A;simp[eJ]at Y;exact⟨args,by rw[h.2.1.1],h.2.1.2,h.2.2,Y⟩
theorem D3 {l:List Vl} {t:Ty} (A:l.length<=24) (h:aR l t=true) (Y:eu l=true):bK (.mk 10 0 0 [] l [] []) (.mk 10 [t])=true/\eJ (.mk 10 0 0 [] l [] [])=true:=by simp[bK,cw,bR,aE,aA,eJ,h,Y,A]
theorem X3 {v:Vl} {t u:Ty} (h:bK v (.mk 12 [t,u])=true) (Y:eJ v=true):∃x,(v = .mk 12 0 0 [] [x] [] []/\bK x t=true\/v = .mk 12 1 0 [] [x] [] []/\bK x u=true)/\eJ x=true:=by
 obtain⟨k,n,a,s,args,B,H⟩:=v;obtain⟨D,A,_⟩:=lT h;simp only[bR]at D;subst D;simp[cw]at A;simp[bK,cw,bR]at h;obtain⟨rfl,rfl,rfl,rfl⟩:=A;rcases args with _|⟨x,_|⟨y,r⟩⟩
 ·simp at h
 ·simp[aR,eJ,eu]at h Y;rcases(show n=0\/n=1 by omega)with rfl|rfl
  ·exact⟨x,.inl ⟨rfl,by simpa[aE,aA]using h.2⟩,Y⟩
  ·exact⟨x,.inr ⟨rfl,by simpa[aE,aA]using h.2⟩,Y⟩
 ·simp at h
theorem VU {x:Vl} {t u:Ty} (h:bK x t=true/\eJ x=true):bK (.mk 12 0 0 [] [x] [] []) (.mk 12 [t,u])=true/\eJ (.mk 12 0 0 [] [x] [] [])=true:=by simp[bK,cw,bR,aE,aA,aR,eJ,eu,h]
theorem VV {x:Vl} {t u:Ty} (h:bK x u=true/\eJ x=true):bK (.mk 12 1 0 [] [x] [] []) (.mk 12 [t,u])=true/\eJ (.mk 12 1 0 [] [x] [] [])=true:=by simp[bK,cw,bR,aE,aA,aR,eJ,eu,h]
end Go.Proofs
namespace Go.Proofs
open Go.cq
theorem AN {P:Int} {args:List Nd} {B:List Ty} (h:bN P args=some B) (Y:fN P=[116]):∃x,args=[x]/\(aZ x).2=0/\B=[(aZ x).1]:=by
 obtain⟨h1,h2⟩:=jL h;rw[Y]at h1 h2;obtain⟨y,rfl⟩:=List.length_eq_one_iff.1 h1;obtain⟨kind,N,p,q,x⟩:=y;have V:(if(aZ (.mk kind N p q x)).2=0 then some ([]++[(aZ (.mk kind N p q x)).1])else none)=some B:=h2;split at V
 ·simp_all
 ·cases V
theorem fo {t:Ty} {v:Vl} (E:bw t=true) (h:bK v t=true/\eJ v=true):jV t v=true:=by
 unfold jV pL;rw[E,h.1,h.2];rfl
theorem cQ {t:Ty} {v:Vl} (h:jV t v=true):bw t=true/\bK v t=true/\eJ v=true:=by
 unfold jV pL at h;simp only[aai]at h;exact⟨h.1.1,h.1.2,h.2⟩
theorem bG {t:Ty} {s:List Ty} (h:(t::s).all bw=true):bw t=true:=by simp_all
theorem Kp {t:Ty} {s:List Ty} (h:(t::s).all bw=true):s.all bw=true:=by simp_all
theorem O7:bO 46=2:=by decide +kernel
theorem O8:bO 47=1:=by decide +kernel
theorem O9:bO 48=1:=by decide +kernel
theorem Pa:bO 49=1:=by decide +kernel
theorem Pb:bO 50=1:=by decide +kernel
theorem Pc:bO 51=1:=by decide +kernel
theorem Pd:bO 53=1:=by decide +kernel
theorem Pe:bO 54=0:=by decide +kernel
theorem Pf:bO 56=0:=by decide +kernel
theorem Nf (S:bT) (N:Int) (V:List UInt8) (args:List Nd) (O:List (List Ty->CR)) (B s:List Ty) (r:List Ty×Bool) (hf:bN 46 args=some B) (Y:dJ s S.st) (A:s.length<=340) (T:r.1.all bw=true) (E:aW 46 O B s=(r,0)):bp N V 46 args S/\bQ S r (aH 46 args S):=by
 obtain⟨a,b,c,d,st,fr,g,u,m,said⟩:=S;obtain⟨rfl,rfl⟩:=cE hf cc;have M:=bH Y;simp only at Y M;rcases s with _|⟨J,_|⟨I,s⟩⟩
 ·cases E
 ·cases E
 obtain⟨v,D,rfl,W,P⟩:=bg Y;obtain⟨w,q,rfl,U,hq⟩:=bg P;cases E;have Q:=cQ W.1;have K:=cQ U.1;have e:aH 46 [] ⟨a,b,c,d,v::w::q,fr,g,u,m,said⟩=bl ⟨a,b,c,d,q,fr,g,u,m,said⟩ [bz v w]:=by unfold aH;rw[O7];rfl
 unfold bp;rw[e]
 try simp only[aac]at M A
 exact⟨iV _ _ 2 N 46 V _ [v,w] q _ cc (by rw[O7];rfl) (by show List.length (v::w::q)<=_;simp only[aac];omega) (MG ⟨a,b,c,d,q,fr,g,u,m,said⟩ N V v w (by have:=W.2;have:=U.2;simp only[bz,aM,aJ,aY,aU,aad];omega) cm),b9 (S:=⟨a,b,c,d,q,fr,g,u,m,said⟩) (fo (bG T) (kL Q.2 K.2)) hq⟩
theorem H8 (S:bT) (N:Int) (V:List UInt8) (args:List Nd) (O:List (List Ty->CR)) (B s:List Ty) (r:List Ty×Bool) (hf:bN 47 args=some B) (Y:dJ s S.st) (A:s.length<=340) (E:r.1.all bw=true) (K:aW 47 O B s=(r,0)):bp N V 47 args S/\bQ S r (aH 47 args S):=by
 obtain⟨a,b,c,d,st,fr,g,u,m,said⟩:=S;obtain⟨rfl,rfl⟩:=cE hf cc;have M:=bH Y;simp only at Y M;cases s with
 | nil=>cases K
 | cons t s =>
 obtain⟨v,q,rfl,Q,hq⟩:=bg Y;have W:=cQ Q.1;have U:(if bR t=11 then ee (aA t++s)else aP 5)=(r,0):=K;split at U;rotate_left
 ·cases U
 rename_i J;obtain⟨T,ts⟩:=t;simp only[bR]at J;subst J;obtain⟨G,D,rfl,C,p⟩:=eL (cL W.1) cc;obtain⟨x,y,rfl,P,I⟩:=vA W.2.1 W.2.2;cases U;have H:=Q.2;simp only[bz,aM,aJ,aY,aU,aad]at H;have e:aH 47 [] ⟨a,b,c,d,bz x y::q,fr,g,u,m,said⟩=bl ⟨a,b,c,d,q,fr,g,u,m,said⟩ [y,x]:=by unfold aH;rw[O8];rfl
 unfold bp;rw[e]
 try simp only[aac]at M A
 exact⟨iV _ _ 2 N 47 V _ [bz x y] q _ cc (by rw[O8];rfl) u5 (ML ⟨a,b,c,d,q,fr,g,u,m,said⟩ N V 11 0 0 [] x y [] [] bn bn cm),HS (S:=⟨a,b,c,d,q,fr,g,u,m,said⟩) (fo (bG E) P) (fo (bG (Kp E)) I) hq⟩
theorem Ql (S:bT) (N:Int) (V:List UInt8) (args:List Nd) (O:List (List Ty->CR)) (B s:List Ty) (r:List Ty×Bool) (hf:bN 48 args=some B) (Y:dJ s S.st) (A:s.length<=340) (P:r.1.all bw=true) (E:aW 48 O B s=(r,0)):bp N V 48 args S/\bQ S r (aH 48 args S):=by
 obtain⟨a,b,c,d,st,fr,g,u,m,said⟩:=S;obtain⟨rfl,rfl⟩:=cE hf cc;have M:=bH Y;simp only at Y M;cases s with
 | nil=>cases E
 | cons t s =>
 obtain⟨v,q,rfl,Q,hq⟩:=bg Y;have W:=cQ Q.1;have U:(if bR t=11 then ee (aE t 0::s)else aP 5)=(r,0):=E;split at U;rotate_left
 ·cases U
 rename_i J;obtain⟨T,ts⟩:=t;simp only[bR]at J;subst J;obtain⟨H,G,rfl,D,C⟩:=eL (cL W.1) cc;obtain⟨x,y,rfl,K,p⟩:=vA W.2.1 W.2.2;cases U;have I:=Q.2;simp only[bz,aM,aJ,aY,aU,aad]at I;have e:aH 48 [] ⟨a,b,c,d,bz x y::q,fr,g,u,m,said⟩=bl ⟨a,b,c,d,q,fr,g,u,m,said⟩ [x]:=by unfold aH;rw[O9];rfl
 unfold bp;rw[e]
 try simp only[aac]at M A
 exact⟨iV _ _ 2 N 48 V _ [bz x y] q _ cc (by rw[O9];rfl) u5 (MM ⟨a,b,c,d,q,fr,g,u,m,said⟩ N V 11 0 0 [] x y [] [] bn cm),b9 (S:=⟨a,b,c,d,q,fr,g,u,m,said⟩) (fo (bG P) K) hq⟩
theorem Qm (S:bT) (N:Int) (V:List UInt8) (args:List Nd) (O:List (List Ty->CR)) (B s:List Ty) (r:List Ty×Bool) (hf:bN 49 args=some B) (Y:dJ s S.st) (A:s.length<=340) (P:r.1.all bw=true) (E:aW 49 O B s=(r,0)):bp N V 49 args S/\bQ S r (aH 49 args S):=by
 obtain⟨a,b,c,d,st,fr,g,u,m,said⟩:=S;obtain⟨rfl,rfl⟩:=cE hf cc;have M:=bH Y;simp only at Y M;cases s with
 | nil=>cases E
 | cons t s =>
 obtain⟨v,q,rfl,Q,hq⟩:=bg Y;have W:=cQ Q.1;have U:(if bR t=11 then ee (aE t 1::s)else aP 5)=(r,0):=E;split at U;rotate_left
 ·cases U
 rename_i J;obtain⟨T,ts⟩:=t;simp only[bR]at J;subst J;obtain⟨H,G,rfl,D,C⟩:=eL (cL W.1) cc;obtain⟨x,y,rfl,p,K⟩:=vA W.2.1 W.2.2;cases U;have I:=Q.2;simp only[bz,aM,aJ,aY,aU,aad]at I;have e:aH 49 [] ⟨a,b,c,d,bz x y::q,fr,g,u,m,said⟩=bl ⟨a,b,c,d,q,fr,g,u,m,said⟩ [y]:=by unfold aH;rw[Pa];rfl
 unfold bp;rw[e]
 try simp only[aac]at M A
 exact⟨iV _ _ 2 N 49 V _ [bz x y] q _ cc (by rw[Pa];rfl) u5 (MN ⟨a,b,c,d,q,fr,g,u,m,said⟩ N V 11 0 0 [] x y [] [] bn cm),b9 (S:=⟨a,b,c,d,q,fr,g,u,m,said⟩) (fo (bG P) K) hq⟩
theorem Nh (S:bT) (N:Int) (V:List UInt8) (args:List Nd) (O:List (List Ty->CR)) (B s:List Ty) (r:List Ty×Bool) (hf:bN 53 args=some B) (Y:dJ s S.st) (A:s.length<=340) (U:r.1.all bw=true) (E:aW 53 O B s=(r,0)):bp N V 53 args S/\bQ S r (aH 53 args S):=by
 obtain⟨a,b,c,d,st,fr,g,u,m,said⟩:=S;obtain⟨rfl,rfl⟩:=cE hf cc;have M:=bH Y;simp only at Y M;cases s with
 | nil=>cases E
 | cons t s =>
 obtain⟨v,q,rfl,W,hq⟩:=bg Y;cases E;have T:=cQ W.1;have e:aH 53 [] ⟨a,b,c,d,v::q,fr,g,u,m,said⟩=bl ⟨a,b,c,d,q,fr,g,u,m,said⟩ [cB [v]]:=by unfold aH;rw[Pd];rfl
 unfold bp;rw[e]
 try simp only[aac]at M A
 exact⟨iV _ _ 2 N 53 V _ [v] q _ cc (by rw[Pd];rfl) nt (MJ ⟨a,b,c,d,q,fr,g,u,m,said⟩ N V v B9 cm),b9 (S:=⟨a,b,c,d,q,fr,g,u,m,said⟩) (fo (bG U) (iM T.2)) hq⟩
theorem Ng (S:bT) (N:Int) (V:List UInt8) (args:List Nd) (O:List (List Ty->CR)) (B s:List Ty) (r:List Ty×Bool) (hf:bN 50 args=some B) (Y:dJ s S.st) (A:s.length<=340) (U:r.1.all bw=true) (E:aW 50 O B s=(r,0)):bp N V 50 args S/\bQ S r (aH 50 args S):=by
 obtain⟨a,b,c,d,st,fr,g,u,m,said⟩:=S;obtain⟨x,rfl,Q,rfl⟩:=AN hf cc;have M:=bH Y;simp only at Y M;cases s with
 | nil=>cases E
 | cons t s =>
 obtain⟨v,q,rfl,W,hq⟩:=bg Y;cases E;have T:=cQ W.1;have e:aH 50 [x] ⟨a,b,c,d,v::q,fr,g,u,m,said⟩=bl ⟨a,b,c,d,q,fr,g,u,m,said⟩ [.mk 12 (50-50) 0 [] [v] [] []]:=by unfold aH;rw[Pb];rfl
 unfold bp;rw[e]
 try simp only[aac]at M A
 exact⟨iV _ _ 2 N 50 V _ [v] q _ cc (by rw[Pb];rfl) nt (MH ⟨a,b,c,d,q,fr,g,u,m,said⟩ N V x v B9 cm),b9 (S:=⟨a,b,c,d,q,fr,g,u,m,said⟩) (fo (bG U) (VU T.2)) hq⟩
theorem KO (S:bT) (N:Int) (V:List UInt8) (args:List Nd) (O:List (List Ty->CR)) (B s:List Ty) (r:List Ty×Bool) (hf:bN 51 args=some B) (Y:dJ s S.st) (A:s.length<=340) (U:r.1.all bw=true) (E:aW 51 O B s=(r,0)):bp N V 51 args S/\bQ S r (aH 51 args S):=by
 obtain⟨a,b,c,d,st,fr,g,u,m,said⟩:=S;obtain⟨x,rfl,Q,rfl⟩:=AN hf cc;have M:=bH Y;simp only at Y M;cases s with
 | nil=>cases E
 | cons t s =>
 obtain⟨v,q,rfl,W,hq⟩:=bg Y;cases E;have T:=cQ W.1;have e:aH 51 [x] ⟨a,b,c,d,v::q,fr,g,u,m,said⟩=bl ⟨a,b,c,d,q,fr,g,u,m,said⟩ [.mk 12 (51-50) 0 [] [v] [] []]:=by unfold aH;rw[Pc];rfl
 unfold bp;rw[e]
 try simp only[aac]at M A
 exact⟨iV _ _ 2 N 51 V _ [v] q _ cc (by rw[Pc];rfl) nt (MI ⟨a,b,c,d,q,fr,g,u,m,said⟩ N V x v B9 cm),b9 (S:=⟨a,b,c,d,q,fr,g,u,m,said⟩) (fo (bG U) (VV T.2)) hq⟩
theorem Ni (S:bT) (N:Int) (V:List UInt8) (args:List Nd) (O:List (List Ty->CR)) (B s:List Ty) (r:List Ty×Bool) (hf:bN 54 args=some B) (Y:dJ s S.st) (A:s.length<=340) (E:r.1.all bw=true) (K:aW 54 O B s=(r,0)):bp N V 54 args S/\bQ S r (aH 54 args S):=by
 obtain⟨a,b,c,d,st,fr,g,u,m,said⟩:=S;obtain⟨x,rfl,q,rfl⟩:=AN hf cc;have M:=bH Y;simp only at Y M;cases K;have e:aH 54 [x] ⟨a,b,c,d,st,fr,g,u,m,said⟩=bl ⟨a,b,c,d,st,fr,g,u,m,said⟩ [cB []]:=by unfold aH;rw[Pe];rfl
 unfold bp;rw[e]
 try simp only[aac]at M A
 exact⟨iV _ _ 2 N 54 V _ [] st _ cc (by rw[Pe];rfl) MD (MK ⟨a,b,c,d,st,fr,g,u,m,said⟩ N V x cc MD),b9 (S:=⟨a,b,c,d,st,fr,g,u,m,said⟩) (fo (bG E) mY) Y⟩
theorem Qn (S:bT) (N:Int) (V:List UInt8) (args:List Nd) (O:List (List Ty->CR)) (B s:List Ty) (r:List Ty×Bool) (hf:bN 56 args=some B) (Y:dJ s S.st) (A:s.length<=340) (E:r.1.all bw=true) (K:aW 56 O B s=(r,0)):bp N V 56 args S/\bQ S r (aH 56 args S):=by
 obtain⟨a,b,c,d,st,fr,g,u,m,said⟩:=S;obtain⟨x,rfl,q,rfl⟩:=AN hf cc;have M:=bH Y;simp only at Y M;cases K;have e:aH 56 [x] ⟨a,b,c,d,st,fr,g,u,m,said⟩=bl ⟨a,b,c,d,st,fr,g,u,m,said⟩ [.mk 10 0 0 [] [] [] []]:=by unfold aH;rw[Pf];rfl
 unfold bp;rw[e]
 try simp only[aac]at M A
 exact⟨iV _ _ 2 N 56 V _ [] st _ cc (by rw[Pf];rfl) MD (P7 ⟨a,b,c,d,st,fr,g,u,m,said⟩ N V x cc MD),b9 (S:=⟨a,b,c,d,st,fr,g,u,m,said⟩) (fo (bG E) (D3 cc rfl rfl)) Y⟩
end Go.Proofs
