/- Package run: a typed machine makes typed steps. Package run: what a value of a type is. Package run: typed steps of class shape. -/
import Derived.Test.YtlohbilpimjmmaaGreatDoorRunS
import Derived.Test.YtlohbilpimjmmaaGreatDoorRunG
set_option linter.unusedVariables false
set_option linter.unusedSimpArgs false
namespace Go.Proofs
open Go.cu
def Fit (t:Ty) (v:Vl):Prop:=ld t v=true/\aM v<=25000000
def dK:List Ty->List Vl->Prop
 | [],[]=>True
 | t::s,v::l=>Fit t v/\dK s l
 | _,_=>False
theorem bJ:∀{s:List Ty} {l:List Vl},dK s l->s.length=l.length
 | [],[],_=>rfl
 | t::s,v::l,h=>by simp only[aaa,bJ h.2]
 | [],_::_,h=>h.elim
 | _::_,[],h=>h.elim
theorem R0 {l:List Vl} (h:dK [] l):l=[]:=by
 cases l with
 | nil=>rfl
 | cons _ _=>exact h.elim
theorem bp {t:Ty} {s:List Ty} {l:List Vl} (h:dK (t::s) l):∃v q,l=v::q/\Fit t v/\dK s q:=by
 cases l with
 | nil=>exact h.elim
 | cons v q=>exact⟨v,q,rfl,h.1,h.2⟩
theorem Eg:∀{s:List Ty} {l:List Vl} {i:Nat} {t:Ty},dK s l->s[i]?=some t->∃v,l[i]?=some v/\Fit t v
 | t::s,v::l,0,u,h,e=>⟨v,rfl,by simp at e;subst e;exact h.1⟩
 | t::s,v::l,i+1,u,h,e=>Eg (i:=i) h.2 (by simpa using e)
 | [],_,_,_,_,e=>by simp at e
 | _::_,[],_,_,h,_=>h.elim
theorem AL:∀{s:List Ty} {l:List Vl} (i:Nat),dK s l->dK (s.take i) (l.take i)
 | _,_,0,_=>trivial
 | t::s,v::l,i+1,h=>⟨h.1,AL i h.2⟩
 | [],[],i+1,_=>trivial
 | [],_::_,_+1,h=>h.elim
 | _::_,[],_+1,h=>h.elim
theorem AM:∀{s:List Ty} {l:List Vl} (i:Nat),dK s l->dK (s.drop i) (l.drop i)
 | _,_,0,h=>h
 | t::s,v::l,i+1,h=>AM (s:=s) (l:=l) i h.2
 | [],[],i+1,_=>trivial
 | [],_::_,_+1,h=>h.elim
 | _::_,[],_+1,h=>h.elim
theorem zw:∀{s r:List Ty} {l m:List Vl},dK s l->dK r m->dK (s++r) (l++m)
 | [],_,[],_,_,h=>h
 | t::s,_,v::l,_,h,h2=>⟨h.1,zw h.2 h2⟩
 | [],_,_::_,_,h,_=>h.elim
 | _::_,_,[],_,h,_=>h.elim
def aI (P:Int) (args:List Nd) (S:bT):MR:=match je (bV P) S.st with
 | some (l,r)=>gT P args l {S with st:=r}
 | none=>(14,{S with st:=[]})
def bR (S:bT) (r:List Ty×Bool) (o:MR):Prop :=
 (o.1=0/\o.2.fr=S.fr/\dK r.1 o.2.st/\r.2=false)\/o.1=11\/o.1=13
def bl (N:Int) (G:List UInt8) (P:Int) (args:List Nd) (S:bT):Prop:=cE 57 S [.c (aW (.mk 2 N P G args))] (aF (aI P args S).1) (aI P args S).2
theorem Cf:∀(l st:List Vl),(nA l st).1=13\/((nA l st).1=0/\(nA l st).2=l.reverse++st/\∀v∈l,lJ v<=200)
 | [],st => .inr ⟨rfl,rfl,fun v h=>by simp at h⟩
 | x::l,st=>by
  unfold nA;by_cases h:lJ x>200
  ·simp_all
  ·rw[if_neg h];rcases Cf l (x::st)with h1|⟨h1,h2,V⟩
   ·exact .inl h1
   ·simp_all
theorem Il {t:Ty} {v:Vl} (h:ld t v=true) (Y:lJ v<=200):Fit t v:=⟨h,by have:=Qv h;omega⟩
theorem cg {S:bT} {s:List Ty} {t:Ty} {v:Vl} (h:ld t v=true) (Y:dK s S.st):bR S (t::s,false) (bg S [v]):=by
 rcases Cf [v] S.st with h1|⟨h1,h2,V⟩
 ·exact .inr (.inr h1)
 ·refine .inl ⟨h1,rfl,?_,rfl⟩;show dK _ (nA [v] S.st).2;rw[h2];exact⟨Il h (V v cn),Y⟩
theorem HG {S:bT} {s:List Ty} {t u:Ty} {v w:Vl} (h:ld t v=true) (Y:ld u w=true) (W:dK s S.st):bR S (t::u::s,false) (bg S [w,v]):=by
 rcases Cf [w,v] S.st with h1|⟨h1,h2,V⟩
 ·exact .inr (.inr h1)
 ·refine .inl ⟨h1,rfl,?_,rfl⟩;show dK _ (nA [w,v] S.st).2;rw[h2];exact⟨Il h (V v cn),Il Y (V w cn),W⟩
theorem jN {P:Int} {args:List Nd} {H:List Ty} (h:bQ P args=some H):args.length=(fS P).length/\ja (fS P) args []=some H:=by
 unfold bQ at h;split at h
 ·cases h
 ·simp_all
theorem cH {P:Int} {args:List Nd} {H:List Ty} (h:bQ P args=some H) (Y:fS P=[]):args=[]/\H=[]:=by
 obtain⟨h1,h2⟩:=jN h;rw[Y]at h1 h2;obtain rfl:=List.length_eq_zero_iff.1 h1;simp only[ja]at h2;cases h2;exact⟨rfl,rfl⟩
theorem Eh {P:Int} {args:List Nd} {H:List Ty} (h:bQ P args=some H) (Y:fS P=[110]):∃N p q x,args=[.mk 0 (N:Nat) p q x]/\N<=40/\H=[]:=by
 obtain⟨h1,h2⟩:=jN h;rw[Y]at h1 h2;obtain⟨y,rfl⟩:=List.length_eq_one_iff.1 h1;obtain⟨kind,N,p,q,x⟩:=y;simp only[ja,if_true]at h2;split at h2
 ·rename_i c;obtain⟨rfl,W,J⟩:=c;cases h2;exact⟨N.toNat,p,q,x,by rw[Int.toNat_of_nonneg W],bn,rfl⟩
 ·cases h2
theorem ON:bV 40=1:=by decide +kernel
theorem OO:bV 41=0:=by decide +kernel
theorem OP:bV 42=2:=by decide +kernel
theorem OQ:bV 43=0:=by decide +kernel
theorem OR:bV 44=1:=by decide +kernel
theorem Ns (S:bT) (N:Int) (G:List UInt8) (args:List Nd) (H s:List Ty) (r:List Ty×Bool) (hf:bQ 40 args=some H) (Y:dK s S.st) (C:s.length<=340) (E:gu 40 args s=(r,0)):bl N G 40 args S/\bR S r (aI 40 args S):=by
 obtain⟨a,b,c,d,st,fr,g,u,m,said⟩:=S;obtain⟨rfl,rfl⟩:=cH hf cc;have B:=bJ Y;cases s with
 | nil=>cases E
 | cons t s =>
  obtain⟨v,q,rfl,T,hq⟩:=bp Y;cases E;have e:aI 40 [] ⟨a,b,c,d,v::q,fr,g,u,m,said⟩=(0,⟨a,b,c,d,q,fr,g,u,m,said⟩):=by unfold aI;rw[ON];rfl
  unfold bl;rw[e];exact⟨oZ _ _ 2 N 40 G [] [v] q 0 cc (by rw[ON];rfl) (by simp only[aaa]at *;omega) (Fy _ N G [v]),.inl ⟨rfl,rfl,hq,rfl⟩⟩
theorem Nt (S:bT) (N:Int) (G:List UInt8) (args:List Nd) (H s:List Ty) (r:List Ty×Bool) (hf:bQ 42 args=some H) (Y:dK s S.st) (C:s.length<=340) (E:gu 42 args s=(r,0)):bl N G 42 args S/\bR S r (aI 42 args S):=by
 obtain⟨a,b,c,d,st,fr,g,u,m,said⟩:=S;obtain⟨rfl,rfl⟩:=cH hf cc;have B:=bJ Y;rcases s with _|⟨U,_|⟨W,s⟩⟩
 ·cases E
 ·cases E
 ·obtain⟨v,V,rfl,T,D⟩:=bp Y;obtain⟨w,q,rfl,Q,hq⟩:=bp D;cases E;have e:aI 42 [] ⟨a,b,c,d,v::w::q,fr,g,u,m,said⟩=bg ⟨a,b,c,d,q,fr,g,u,m,said⟩ [v,w]:=by unfold aI;rw[OP];rfl
  unfold bl;rw[e];simp only[aaa]at B C;exact⟨oZ _ _ 2 N 42 G [] [v,w] q _ cc (by rw[OP];rfl) eg (PD ⟨a,b,c,d,q,fr,g,u,m,said⟩ N G v w (by have:=T.2;omega) (by have:=Q.2;omega) (by show q.length<=_;omega)),HG (S:=⟨a,b,c,d,q,fr,g,u,m,said⟩) Q.1 T.1 hq⟩
theorem OS {α:Type} {l:List α} {i:Nat} {d:α} (h:i<l.length):l[i]?=some (l.getD i d):=by simp_all
theorem Qw (S:bT) (J:Int) (G:List UInt8) (args:List Nd) (H s:List Ty) (r:List Ty×Bool) (hf:bQ 41 args=some H) (Y:dK s S.st) (C:s.length<=340) (E:gu 41 args s=(r,0)):bl J G 41 args S/\bR S r (aI 41 args S):=by
 obtain⟨a,b,c,d,st,fr,g,u,m,said⟩:=S;obtain⟨N,p,q,x,rfl,U,rfl⟩:=Eh hf cc;have B:=bJ Y;simp only at Y B;have Q:(if 1<=(N:Int)/\(N:Int)<=s.length/\lE (s.getD ((N:Int)-1).toNat lF)=true then ep (s.getD ((N:Int)-1).toNat lF::s)else aP 5)=(r,0):=E;split at Q
 ·rename_i V;obtain⟨P,D,O⟩:=V;cases Q;rw[show((N:Int)-1).toNat=N-1 from by omega];have M:=OS (l:=s) (i:=N-1) (d:=lF) bn;obtain⟨v,T,W⟩:=Eg Y M;have e:aI 41 [.mk 0 (N:Nat) p q x] ⟨a,b,c,d,st,fr,g,u,m,said⟩=bg ⟨a,b,c,d,st,fr,g,u,m,said⟩ [v]:=by
   unfold aI;rw[OO];show bg _ [lV st ((N:Int).toNat-1)]=_;rw[aaA,R7 T]
  unfold bl;rw[e];exact⟨oZ _ _ 2 J 41 G _ [] st _ cc (by rw[OO];rfl) DJ (R8 ⟨a,b,c,d,st,fr,g,u,m,said⟩ J G N p q x [] v bn T (by have:=W.2;omega) DJ),cg (S:=⟨a,b,c,d,st,fr,g,u,m,said⟩) W.1 Y⟩
 ·cases Q
theorem Qx (S:bT) (J:Int) (G:List UInt8) (args:List Nd) (H s:List Ty) (r:List Ty×Bool) (hf:bQ 43 args=some H) (Y:dK s S.st) (C:s.length<=340) (E:gu 43 args s=(r,0)):bl J G 43 args S/\bR S r (aI 43 args S):=by
 obtain⟨a,b,c,d,st,fr,g,u,m,said⟩:=S;obtain⟨N,p,q,x,rfl,V,rfl⟩:=Eh hf cc;have B:=bJ Y;simp only at Y B;have Q:(if(N:Int)<s.length then ep (s.getD (N:Int).toNat lF::(s.take (N:Int).toNat++s.drop ((N:Int).toNat+1)))else aP 5)=(r,0):=E;split at Q
 ·rename_i U;cases Q;rw[aaA];have M:=OS (l:=s) (i:=N) (d:=lF) bn;obtain⟨v,T,W⟩:=Eg Y M;have e:aI 43 [.mk 0 (N:Nat) p q x] ⟨a,b,c,d,st,fr,g,u,m,said⟩=(0,⟨a,b,c,d,v::(st.take N++st.drop (N+1)),fr,g,u,m,said⟩):=by
   unfold aI;rw[OQ];show((0,{self:=a,gU:=b,gV:=c,balance:=d,st:=lV st (N:Int).toNat::(st.take (N:Int).toNat++st.drop ((N:Int).toNat+1)),fr:=fr,gS:=g,used:=u,aU:=m,said:=said}):MR)=_;rw[aaA,R7 T]
  unfold bl;rw[e];exact⟨oZ _ _ 2 J 43 G _ [] st _ cc (by rw[OQ];rfl) DJ (Sa ⟨a,b,c,d,st,fr,g,u,m,said⟩ J G N p q x [] v T DJ),.inl ⟨rfl,rfl,⟨W,zw (AL N Y) (AM (N+1) Y)⟩,rfl⟩⟩
 ·cases Q
theorem Qy (S:bT) (J:Int) (G:List UInt8) (args:List Nd) (H s:List Ty) (r:List Ty×Bool) (hf:bQ 44 args=some H) (Y:dK s S.st) (C:s.length<=340) (E:gu 44 args s=(r,0)):bl J G 44 args S/\bR S r (aI 44 args S):=by
 obtain⟨a,b,c,d,st,fr,g,u,m,said⟩:=S;obtain⟨N,p,q,x,rfl,W,rfl⟩:=Eh hf cc;have B:=bJ Y;simp only at Y B;cases s with
 | nil=>cases E
 | cons t s =>
  obtain⟨v,st,rfl,T,hq⟩:=bp Y;simp only[aaa]at B C;have Q:(if(N:Int)<s.length+1 then ep (s.take (N:Int).toNat++t::s.drop (N:Int).toNat)else aP 5)=(r,0):=E;split at Q
  ·rename_i V;cases Q;rw[aaA];have e:aI 44 [.mk 0 (N:Nat) p q x] ⟨a,b,c,d,v::st,fr,g,u,m,said⟩=(0,⟨a,b,c,d,st.take N++v::st.drop N,fr,g,u,m,said⟩):=by
    unfold aI;rw[OR];show((0,{self:=a,gU:=b,gV:=c,balance:=d,st:=st.take (N:Int).toNat++v::st.drop (N:Int).toNat,fr:=fr,gS:=g,used:=u,aU:=m,said:=said}):MR)=_;rw[aaA]
   unfold bl;rw[e];exact⟨oZ _ _ 2 J 44 G _ [v] st _ cc (by rw[OR];rfl) (by show(v::st).length<=_;simp only[aaa];omega) (Sc ⟨a,b,c,d,st,fr,g,u,m,said⟩ J G N p q x v (by show N<=st.length;omega) DJ),.inl ⟨rfl,rfl,zw (AL N hq) ⟨T,AM N hq⟩,rfl⟩⟩
  ·cases Q
theorem Nf (P:Int) (O:40<=P/\P<=44) (S:bT) (N:Int) (G:List UInt8) (args:List Nd) (H s:List Ty) (r:List Ty×Bool) (hf:bQ P args=some H) (Y:dK s S.st) (C:s.length<=340) (E:gu P args s=(r,0)):bl N G P args S/\bR S r (aI P args S):=by
 rcases(show P=40\/P=41\/P=42\/P=43\/P=44 by omega)with rfl|rfl|rfl|rfl|rfl
 ·exact Ns S N G args H s r hf Y C E
 ·exact Qw S N G args H s r hf Y C E
 ·exact Nt S N G args H s r hf Y C E
 ·exact Qx S N G args H s r hf Y C E
 ·exact Qy S N G args H s r hf Y C E
end Go.Proofs
namespace Go.Proofs
open Go.cu
theorem lP {k n a:Int} {s:List UInt8} {args:List Vl} {H:List Ty} {B:List Nd} {t:Ty} (h:bL (.mk k n a s args H B) t=true):k=bS t/\cB (.mk k n a s args H B)=true/\s.length<=200:=by
 unfold bL at h;by_cases I:k≠bS t\/cB (.mk k n a s args H B)=false\/200<s.length
 ·simp_all
 refine⟨Decidable.byContradiction fun T=>I (.inl T),?_,bn⟩;cases hq:cB (.mk k n a s args H B)with
 | true=>rfl
 | false=>exact absurd (.inr (.inl hq)) I
theorem fH {v:Vl} {T:Int} {ts:List Ty} (K:T=2\/T=3\/T=4\/T=5\/T=7) (h:bL v (.mk T ts)=true):∃n,v=aO T n/\bL (aO T n) (.mk T ts)=true:=by
 obtain⟨k,n,a,s,args,H,B⟩:=v;obtain⟨D,A,Y⟩:=lP h;simp only[bS]at D;subst D;have:args=[]/\a=0/\s=[]/\H=[]/\B=[]:=by
  rcases K with rfl|rfl|rfl|rfl|rfl<;>simp[bL,cB]at h A<;>simp_all
 obtain⟨rfl,rfl,rfl,rfl,rfl⟩:=this;exact⟨n,rfl,h⟩
theorem Ti {v:Vl} {ts:List Ty} (h:bL v (.mk 2 ts)=true):v=aO 2 0\/v=aO 2 1:=by
 obtain⟨n,rfl,h⟩:=fH (.inl rfl) h;have:0<=n/\n<=1:=by simpa[bL,cB,aO,bS]using h
 rcases(show n=0\/n=1 by omega)with rfl|rfl
 ·exact .inl rfl
 ·exact .inr rfl
theorem mS {T n:Int} {ts:List Ty} (h:(T=2/\0<=n/\n<=1)\/(T=3 /\ -bM<=n/\n<=bM)\/(T=4/\0<=n/\n<=bM)\/(T=5/\0<=n/\n<=bM)\/(T=7/\0<=n/\n<12)):bL (aO T n) (.mk T ts)=true/\eK (aO T n)=true:=by
 rcases h with ⟨rfl,h⟩|⟨rfl,h⟩|⟨rfl,h⟩|⟨rfl,h⟩|⟨rfl,h⟩
 all_goals simp[bL,cB,aO,bS,eK,ey,h]
theorem ML {T n:Int} {ts:List Ty} (h:bL (aO T n) (.mk T ts)=true):(T=2->0<=n/\n<=1)/\(T=3 -> -bM<=n/\n<=bM)/\(T=4->0<=n/\n<=bM)/\(T=5->0<=n/\n<=bM)/\(T=7->0<=n/\n<12):=by
 refine⟨?_,?_,?_,?_,?_⟩<;>(rintro rfl;simpa[bL,cB,aO,bS]using h)
theorem vt {v:Vl} {t u:Ty} (h:bL v (.mk 11 [t,u])=true) (Y:eK v=true):∃x y,v=bB x y/\(bL x t=true/\eK x=true)/\(bL y u=true/\eK y=true):=by
 obtain⟨k,n,a,s,args,H,B⟩:=v;obtain⟨D,T,_⟩:=lP h;simp only[bS]at D;subst D;simp[cB]at T;simp[bL,cB,bS,au]at h;obtain⟨rfl,rfl,rfl,rfl⟩:=T;rcases args with _|⟨x,_|⟨y,_|⟨z,r⟩⟩⟩
 ·simp at h
 ·simp at h
 ·simp[cX,eK,ey]at h Y;exact⟨x,y,by rw[h.1];rfl,⟨h.2.1,Y.1⟩,⟨h.2.2,Y.2⟩⟩
 ·simp at h
theorem kH {x y:Vl} {t u:Ty} (h1:bL x t=true/\eK x=true) (h2:bL y u=true/\eK y=true):bL (bB x y) (.mk 11 [t,u])=true/\eK (bB x y)=true:=by
 simp[bB,bL,cB,bS,au,cX,eK,ey,h1,h2]
theorem OA {v:Vl} {t:Ty} (h:bL v (.mk 9 [t])=true) (Y:eK v=true):v=cx []\/∃x,v=cx [x]/\bL x t=true/\eK x=true:=by
 obtain⟨k,n,a,s,args,H,B⟩:=v;obtain⟨D,T,_⟩:=lP h;simp only[bS]at D;subst D;simp[cB]at T;simp[bL,cB,bS,aD,au]at h;obtain⟨rfl,rfl,rfl,rfl⟩:=T;rcases args with _|⟨x,_|⟨y,r⟩⟩
 ·exact .inl (by simp at h;rw[h.1];rfl)
 ·simp[aR,eK,ey]at h Y;exact .inr ⟨x,by rw[h.1];rfl,h.2,Y⟩
 ·simp at h
theorem mT {t:Ty}:bL (cx []) (.mk 9 [t])=true/\eK (cx [])=true:=by simp[cx,bL,cB,bS,aR,eK,ey]
theorem iM {x:Vl} {t:Ty} (h:bL x t=true/\eK x=true):bL (cx [x]) (.mk 9 [t])=true/\eK (cx [x])=true:=by simp[cx,bL,cB,bS,aD,au,aR,eK,ey,h]
theorem zn {v:Vl} {t:Ty} (h:bL v (.mk 10 [t])=true) (Y:eK v=true):∃l,v = .mk 10 0 0 [] l [] []/\l.length<=24/\aR l t=true/\ey l=true:=by
 obtain⟨k,n,a,s,args,H,B⟩:=v;obtain⟨D,T,_⟩:=lP h;simp only[bS]at D;subst D;simp[cB]at T;simp[bL,cB,bS,aD,au]at h;obtain⟨rfl,rfl,rfl,rfl⟩:=T;simp[eK]at Y;exact⟨args,by rw[h.2.1.1],h.2.1.2,h.2.2,Y⟩
theorem D0 {l:List Vl} {t:Ty} (C:l.length<=24) (h:aR l t=true) (Y:ey l=true):bL (.mk 10 0 0 [] l [] []) (.mk 10 [t])=true/\eK (.mk 10 0 0 [] l [] [])=true:=by simp[bL,cB,bS,aD,au,eK,h,Y,C]
theorem XR {v:Vl} {t u:Ty} (h:bL v (.mk 12 [t,u])=true) (Y:eK v=true):∃x,(v = .mk 12 0 0 [] [x] [] []/\bL x t=true\/v = .mk 12 1 0 [] [x] [] []/\bL x u=true)/\eK x=true:=by
 obtain⟨k,n,a,s,args,H,B⟩:=v;obtain⟨D,T,_⟩:=lP h;simp only[bS]at D;subst D;simp[cB]at T;simp[bL,cB,bS]at h;obtain⟨rfl,rfl,rfl,rfl⟩:=T;rcases args with _|⟨x,_|⟨y,r⟩⟩
 ·simp at h
 ·simp[aR,eK,ey]at h Y;rcases(show n=0\/n=1 by omega)with rfl|rfl
  ·exact⟨x,.inl ⟨rfl,by simpa[aD,au]using h.2⟩,Y⟩
  ·exact⟨x,.inr ⟨rfl,by simpa[aD,au]using h.2⟩,Y⟩
 ·simp at h
theorem VB {x:Vl} {t u:Ty} (h:bL x t=true/\eK x=true):bL (.mk 12 0 0 [] [x] [] []) (.mk 12 [t,u])=true/\eK (.mk 12 0 0 [] [x] [] [])=true:=by simp[bL,cB,bS,aD,au,aR,eK,ey,h]
theorem VC {x:Vl} {t u:Ty} (h:bL x u=true/\eK x=true):bL (.mk 12 1 0 [] [x] [] []) (.mk 12 [t,u])=true/\eK (.mk 12 1 0 [] [x] [] [])=true:=by simp[bL,cB,bS,aD,au,aR,eK,ey,h]
end Go.Proofs
namespace Go.Proofs
open Go.cu
theorem AE {P:Int} {args:List Nd} {H:List Ty} (h:bQ P args=some H) (Y:fS P=[116]):∃x,args=[x]/\(aZ x).2=0/\H=[(aZ x).1]:=by
 obtain⟨h1,h2⟩:=jN h;rw[Y]at h1 h2;obtain⟨y,rfl⟩:=List.length_eq_one_iff.1 h1;obtain⟨kind,N,p,q,x⟩:=y;have V:(if(aZ (.mk kind N p q x)).2=0 then some ([]++[(aZ (.mk kind N p q x)).1])else none)=some H:=h2;split at V
 ·simp_all
 ·cases V
theorem fu {t:Ty} {v:Vl} (Q:bA t=true) (h:bL v t=true/\eK v=true):ld t v=true:=by
 unfold ld pI;rw[Q,h.1,h.2];rfl
theorem cQ {t:Ty} {v:Vl} (h:ld t v=true):bA t=true/\bL v t=true/\eK v=true:=by
 unfold ld pI at h;simp only[aaj]at h;exact⟨h.1.1,h.1.2,h.2⟩
theorem bE {t:Ty} {s:List Ty} (h:(t::s).all bA=true):bA t=true:=by simp_all
theorem CK {t:Ty} {s:List Ty} (h:(t::s).all bA=true):s.all bA=true:=by simp_all
theorem OT:bV 46=2:=by decide +kernel
theorem OU:bV 47=1:=by decide +kernel
theorem OV:bV 48=1:=by decide +kernel
theorem OW:bV 49=1:=by decide +kernel
theorem OX:bV 50=1:=by decide +kernel
theorem OY:bV 51=1:=by decide +kernel
theorem OZ:bV 53=1:=by decide +kernel
theorem O0:bV 54=0:=by decide +kernel
theorem O1:bV 56=0:=by decide +kernel
theorem M1 (S:bT) (N:Int) (G:List UInt8) (args:List Nd) (p:List (List Ty->CR)) (H s:List Ty) (r:List Ty×Bool) (hf:bQ 46 args=some H) (Y:dK s S.st) (C:s.length<=340) (W:r.1.all bA=true) (E:aX 46 p H s=(r,0)):bl N G 46 args S/\bR S r (aI 46 args S):=by
 obtain⟨a,b,c,d,st,fr,g,u,m,said⟩:=S;obtain⟨rfl,rfl⟩:=cH hf cc;have B:=bJ Y;simp only at Y B;rcases s with _|⟨U,_|⟨O,s⟩⟩
 ·cases E
 ·cases E
 obtain⟨v,M,rfl,T,D⟩:=bp Y;obtain⟨w,q,rfl,Q,hq⟩:=bp D;cases E;have V:=cQ T.1;have P:=cQ Q.1;have e:aI 46 [] ⟨a,b,c,d,v::w::q,fr,g,u,m,said⟩=bg ⟨a,b,c,d,q,fr,g,u,m,said⟩ [bB v w]:=by unfold aI;rw[OT];rfl
 unfold bl;rw[e]
 try simp only[aaa]at B C
 exact⟨iT _ _ 2 N 46 G _ [v,w] q _ cc (by rw[OT];rfl) (by show List.length (v::w::q)<=_;simp only[aaa];omega) (Ms ⟨a,b,c,d,q,fr,g,u,m,said⟩ N G v w (by have:=T.2;have:=Q.2;simp only[bB,aM,aL,br,aQ,aab];omega) cm),cg (S:=⟨a,b,c,d,q,fr,g,u,m,said⟩) (fu (bE W) (kH V.2 P.2)) hq⟩
theorem HQ (S:bT) (N:Int) (G:List UInt8) (args:List Nd) (p:List (List Ty->CR)) (H s:List Ty) (r:List Ty×Bool) (hf:bQ 47 args=some H) (Y:dK s S.st) (C:s.length<=340) (V:r.1.all bA=true) (E:aX 47 p H s=(r,0)):bl N G 47 args S/\bR S r (aI 47 args S):=by
 obtain⟨a,b,c,d,st,fr,g,u,m,said⟩:=S;obtain⟨rfl,rfl⟩:=cH hf cc;have B:=bJ Y;simp only at Y B;cases s with
 | nil=>cases E
 | cons t s =>
 obtain⟨v,q,rfl,U,hq⟩:=bp Y;have W:=cQ U.1;have Q:(if bS t=11 then ep (au t++s)else aP 5)=(r,0):=E;split at Q;rotate_left
 ·cases Q
 rename_i P;obtain⟨T,ts⟩:=t;simp only[bS]at P;subst P;obtain⟨K,J,rfl,I,D⟩:=eN (cL W.1) cc;obtain⟨x,y,rfl,O,A⟩:=vt W.2.1 W.2.2;cases Q;have M:=U.2;simp only[bB,aM,aL,br,aQ,aab]at M;have e:aI 47 [] ⟨a,b,c,d,bB x y::q,fr,g,u,m,said⟩=bg ⟨a,b,c,d,q,fr,g,u,m,said⟩ [y,x]:=by unfold aI;rw[OU];rfl
 unfold bl;rw[e]
 try simp only[aaa]at B C
 exact⟨iT _ _ 2 N 47 G _ [bB x y] q _ cc (by rw[OU];rfl) sy (Mx ⟨a,b,c,d,q,fr,g,u,m,said⟩ N G 11 0 0 [] x y [] [] bn bn cm),HG (S:=⟨a,b,c,d,q,fr,g,u,m,said⟩) (fu (bE V) O) (fu (bE (CK V)) A) hq⟩
theorem Qh (S:bT) (N:Int) (G:List UInt8) (args:List Nd) (p:List (List Ty->CR)) (H s:List Ty) (r:List Ty×Bool) (hf:bQ 48 args=some H) (Y:dK s S.st) (C:s.length<=340) (P:r.1.all bA=true) (E:aX 48 p H s=(r,0)):bl N G 48 args S/\bR S r (aI 48 args S):=by
 obtain⟨a,b,c,d,st,fr,g,u,m,said⟩:=S;obtain⟨rfl,rfl⟩:=cH hf cc;have B:=bJ Y;simp only at Y B;cases s with
 | nil=>cases E
 | cons t s =>
 obtain⟨v,q,rfl,V,hq⟩:=bp Y;have W:=cQ V.1;have Q:(if bS t=11 then ep (aD t 0::s)else aP 5)=(r,0):=E;split at Q;rotate_left
 ·cases Q
 rename_i U;obtain⟨T,ts⟩:=t;simp only[bS]at U;subst U;obtain⟨K,J,rfl,I,D⟩:=eN (cL W.1) cc;obtain⟨x,y,rfl,O,A⟩:=vt W.2.1 W.2.2;cases Q;have M:=V.2;simp only[bB,aM,aL,br,aQ,aab]at M;have e:aI 48 [] ⟨a,b,c,d,bB x y::q,fr,g,u,m,said⟩=bg ⟨a,b,c,d,q,fr,g,u,m,said⟩ [x]:=by unfold aI;rw[OV];rfl
 unfold bl;rw[e]
 try simp only[aaa]at B C
 exact⟨iT _ _ 2 N 48 G _ [bB x y] q _ cc (by rw[OV];rfl) sy (My ⟨a,b,c,d,q,fr,g,u,m,said⟩ N G 11 0 0 [] x y [] [] bn cm),cg (S:=⟨a,b,c,d,q,fr,g,u,m,said⟩) (fu (bE P) O) hq⟩
theorem Qi (S:bT) (N:Int) (G:List UInt8) (args:List Nd) (p:List (List Ty->CR)) (H s:List Ty) (r:List Ty×Bool) (hf:bQ 49 args=some H) (Y:dK s S.st) (C:s.length<=340) (P:r.1.all bA=true) (E:aX 49 p H s=(r,0)):bl N G 49 args S/\bR S r (aI 49 args S):=by
 obtain⟨a,b,c,d,st,fr,g,u,m,said⟩:=S;obtain⟨rfl,rfl⟩:=cH hf cc;have B:=bJ Y;simp only at Y B;cases s with
 | nil=>cases E
 | cons t s =>
 obtain⟨v,q,rfl,V,hq⟩:=bp Y;have W:=cQ V.1;have Q:(if bS t=11 then ep (aD t 1::s)else aP 5)=(r,0):=E;split at Q;rotate_left
 ·cases Q
 rename_i U;obtain⟨T,ts⟩:=t;simp only[bS]at U;subst U;obtain⟨M,K,rfl,J,I⟩:=eN (cL W.1) cc;obtain⟨x,y,rfl,D,A⟩:=vt W.2.1 W.2.2;cases Q;have O:=V.2;simp only[bB,aM,aL,br,aQ,aab]at O;have e:aI 49 [] ⟨a,b,c,d,bB x y::q,fr,g,u,m,said⟩=bg ⟨a,b,c,d,q,fr,g,u,m,said⟩ [y]:=by unfold aI;rw[OW];rfl
 unfold bl;rw[e]
 try simp only[aaa]at B C
 exact⟨iT _ _ 2 N 49 G _ [bB x y] q _ cc (by rw[OW];rfl) sy (Mz ⟨a,b,c,d,q,fr,g,u,m,said⟩ N G 11 0 0 [] x y [] [] bn cm),cg (S:=⟨a,b,c,d,q,fr,g,u,m,said⟩) (fu (bE P) A) hq⟩
theorem M4 (S:bT) (N:Int) (G:List UInt8) (args:List Nd) (p:List (List Ty->CR)) (H s:List Ty) (r:List Ty×Bool) (hf:bQ 53 args=some H) (Y:dK s S.st) (C:s.length<=340) (Q:r.1.all bA=true) (E:aX 53 p H s=(r,0)):bl N G 53 args S/\bR S r (aI 53 args S):=by
 obtain⟨a,b,c,d,st,fr,g,u,m,said⟩:=S;obtain⟨rfl,rfl⟩:=cH hf cc;have B:=bJ Y;simp only at Y B;cases s with
 | nil=>cases E
 | cons t s =>
 obtain⟨v,q,rfl,T,hq⟩:=bp Y;cases E;have W:=cQ T.1;have e:aI 53 [] ⟨a,b,c,d,v::q,fr,g,u,m,said⟩=bg ⟨a,b,c,d,q,fr,g,u,m,said⟩ [cx [v]]:=by unfold aI;rw[OZ];rfl
 unfold bl;rw[e]
 try simp only[aaa]at B C
 exact⟨iT _ _ 2 N 53 G _ [v] q _ cc (by rw[OZ];rfl) lf (Mv ⟨a,b,c,d,q,fr,g,u,m,said⟩ N G v u5 cm),cg (S:=⟨a,b,c,d,q,fr,g,u,m,said⟩) (fu (bE Q) (iM W.2)) hq⟩
theorem M3 (S:bT) (N:Int) (G:List UInt8) (args:List Nd) (p:List (List Ty->CR)) (H s:List Ty) (r:List Ty×Bool) (hf:bQ 50 args=some H) (Y:dK s S.st) (C:s.length<=340) (Q:r.1.all bA=true) (E:aX 50 p H s=(r,0)):bl N G 50 args S/\bR S r (aI 50 args S):=by
 obtain⟨a,b,c,d,st,fr,g,u,m,said⟩:=S;obtain⟨x,rfl,O,rfl⟩:=AE hf cc;have B:=bJ Y;simp only at Y B;cases s with
 | nil=>cases E
 | cons t s =>
 obtain⟨v,q,rfl,T,hq⟩:=bp Y;cases E;have W:=cQ T.1;have e:aI 50 [x] ⟨a,b,c,d,v::q,fr,g,u,m,said⟩=bg ⟨a,b,c,d,q,fr,g,u,m,said⟩ [.mk 12 (50-50) 0 [] [v] [] []]:=by unfold aI;rw[OX];rfl
 unfold bl;rw[e]
 try simp only[aaa]at B C
 exact⟨iT _ _ 2 N 50 G _ [v] q _ cc (by rw[OX];rfl) lf (Mt ⟨a,b,c,d,q,fr,g,u,m,said⟩ N G x v u5 cm),cg (S:=⟨a,b,c,d,q,fr,g,u,m,said⟩) (fu (bE Q) (VB W.2)) hq⟩
theorem Kz (S:bT) (N:Int) (G:List UInt8) (args:List Nd) (p:List (List Ty->CR)) (H s:List Ty) (r:List Ty×Bool) (hf:bQ 51 args=some H) (Y:dK s S.st) (C:s.length<=340) (Q:r.1.all bA=true) (E:aX 51 p H s=(r,0)):bl N G 51 args S/\bR S r (aI 51 args S):=by
 obtain⟨a,b,c,d,st,fr,g,u,m,said⟩:=S;obtain⟨x,rfl,O,rfl⟩:=AE hf cc;have B:=bJ Y;simp only at Y B;cases s with
 | nil=>cases E
 | cons t s =>
 obtain⟨v,q,rfl,T,hq⟩:=bp Y;cases E;have W:=cQ T.1;have e:aI 51 [x] ⟨a,b,c,d,v::q,fr,g,u,m,said⟩=bg ⟨a,b,c,d,q,fr,g,u,m,said⟩ [.mk 12 (51-50) 0 [] [v] [] []]:=by unfold aI;rw[OY];rfl
 unfold bl;rw[e]
 try simp only[aaa]at B C
 exact⟨iT _ _ 2 N 51 G _ [v] q _ cc (by rw[OY];rfl) lf (Mu ⟨a,b,c,d,q,fr,g,u,m,said⟩ N G x v u5 cm),cg (S:=⟨a,b,c,d,q,fr,g,u,m,said⟩) (fu (bE Q) (VC W.2)) hq⟩
theorem M5 (S:bT) (N:Int) (G:List UInt8) (args:List Nd) (p:List (List Ty->CR)) (H s:List Ty) (r:List Ty×Bool) (hf:bQ 54 args=some H) (Y:dK s S.st) (C:s.length<=340) (Q:r.1.all bA=true) (E:aX 54 p H s=(r,0)):bl N G 54 args S/\bR S r (aI 54 args S):=by
 obtain⟨a,b,c,d,st,fr,g,u,m,said⟩:=S;obtain⟨x,rfl,O,rfl⟩:=AE hf cc;have B:=bJ Y;simp only at Y B;cases E;have e:aI 54 [x] ⟨a,b,c,d,st,fr,g,u,m,said⟩=bg ⟨a,b,c,d,st,fr,g,u,m,said⟩ [cx []]:=by unfold aI;rw[O0];rfl
 unfold bl;rw[e]
 try simp only[aaa]at B C
 exact⟨iT _ _ 2 N 54 G _ [] st _ cc (by rw[O0];rfl) K0 (Mw ⟨a,b,c,d,st,fr,g,u,m,said⟩ N G x cc K0),cg (S:=⟨a,b,c,d,st,fr,g,u,m,said⟩) (fu (bE Q) mT) Y⟩
theorem Qj (S:bT) (N:Int) (G:List UInt8) (args:List Nd) (p:List (List Ty->CR)) (H s:List Ty) (r:List Ty×Bool) (hf:bQ 56 args=some H) (Y:dK s S.st) (C:s.length<=340) (Q:r.1.all bA=true) (E:aX 56 p H s=(r,0)):bl N G 56 args S/\bR S r (aI 56 args S):=by
 obtain⟨a,b,c,d,st,fr,g,u,m,said⟩:=S;obtain⟨x,rfl,O,rfl⟩:=AE hf cc;have B:=bJ Y;simp only at Y B;cases E;have e:aI 56 [x] ⟨a,b,c,d,st,fr,g,u,m,said⟩=bg ⟨a,b,c,d,st,fr,g,u,m,said⟩ [.mk 10 0 0 [] [] [] []]:=by unfold aI;rw[O1];rfl
 unfold bl;rw[e]
 try simp only[aaa]at B C
 exact⟨iT _ _ 2 N 56 G _ [] st _ cc (by rw[O1];rfl) K0 (PY ⟨a,b,c,d,st,fr,g,u,m,said⟩ N G x cc K0),cg (S:=⟨a,b,c,d,st,fr,g,u,m,said⟩) (fu (bE Q) (D0 cc rfl rfl)) Y⟩
end Go.Proofs
