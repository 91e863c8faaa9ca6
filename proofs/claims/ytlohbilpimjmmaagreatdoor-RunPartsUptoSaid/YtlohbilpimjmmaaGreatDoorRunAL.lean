/- Package run: typed steps of class control. Package run: one turn of a typed machine. -/
import Derived.Test.YtlohbilpimjmmaaGreatDoorRunAJ
set_option linter.unusedVariables false
set_option linter.unusedSimpArgs false
namespace Go.Proofs
open Go.cu
theorem sA {T:List Ty×Bool} {S:bT} {c:List Nd} {l:List Vl} {E:List Ty} {r:List Ty×Bool} (p:(cw c (E,false)).2=0) (I:(cw c (E,false)).1.2=false->r=(cw c (E,false)).1) (C:E.length+cr c<=340) (u:jj c)
  (Y:dK E (l.reverse++S.st)):Comes T S r (bg (dr S c 0 []) l):=by
 rcases Cf l S.st with h1|⟨h1,h2,V⟩
 ·exact .inl (.inr (.inr h1))
 ·refine .inr (.inl ⟨h1,⟨c,0,0,[]⟩,E,rfl,u,?_,fun h=>HS p I C u h⟩);show dK _ (nA l S.st).2;rw[h2];exact Y
theorem xY {T:List Ty×Bool} {S:bT} {c:List Nd} {E:List Ty} {r:List Ty×Bool} (p:(cw c (E,false)).2=0) (I:(cw c (E,false)).1.2=false->r=(cw c (E,false)).1) (C:E.length+cr c<=340) (u:jj c)
  (Y:dK E S.st):Comes T S r (0,dr S c 0 []) :=
 .inr (.inl ⟨rfl,⟨c,0,0,[]⟩,E,rfl,u,Y,fun h=>HS p I C u h⟩)
theorem OG {S q1:Int} {D:List UInt8} {Y:List Nd} {B O:Int} {Q:List UInt8} {J:List Nd} (h:jj [.mk 3 S q1 D Y,.mk 3 B O Q J]):jj Y/\jj J/\cr [.mk 3 S q1 D Y,.mk 3 B O Q J]=cr Y+cr J+2 :=
 ⟨(pz h (List.mem_cons_self ..)).1,(pz h (List.mem_cons_of_mem _ (List.mem_cons_self ..))).1,by simp only[cr,many];try omega⟩
theorem Tg {S q1:Int} {D:List UInt8} {Y:List Nd} (h:jj [.mk 3 S q1 D Y]):jj Y/\cr [.mk 3 S q1 D Y]=cr Y+1 :=
 ⟨(pz h (List.mem_cons_self ..)).1,by simp only[cr,many];try omega⟩
theorem HT (pr:List Ty×Bool) (S:bT) (N:Int) (G:List UInt8) (args:List Nd) (w8:jj args) (H s:List Ty) (r:List Ty×Bool) (hf:bQ 52 args=some H) (I:dK s S.st) (A:s.length+cr args<=339) (D:S.fr.length<=1099511627776) (p:aX 52 (bf args) H s=(r,0)):bl N G 52 args S/\Comes pr S r (aI 52 args S):=by
 obtain⟨a,b,c,d,st,fr,g,u,m,said⟩:=S;obtain⟨U,q1,Q,Y,B,P,M,J,rfl,rfl⟩:=Ca hf cc;obtain⟨g1,g2,gz⟩:=OG w8;rw[gz]at A;have eD:=bJ I;simp only at I eD;cases s with
 | nil=>cases p
 | cons t s =>
 obtain⟨v,q,rfl,E,hq⟩:=bp I;have W:=cQ E.1;simp only[aaa]at eD A;have K:(if bS t=12 then cT (cw Y (aD t 0::s,false)) (cw J (aD t 1::s,false))else aP 5)=(r,0):=p;split at K;rotate_left
 ·cases K
 rename_i Ll;obtain⟨T,ts⟩:=t;simp only[bS]at Ll;subst Ll;obtain⟨t1,t2,rfl,Oq,Ub⟩:=eN (cL W.1) cc;obtain⟨x,O,V⟩:=XR W.2.1 W.2.2;obtain⟨m1,m2⟩:=tv K;obtain⟨m3,m4⟩:=tw K;unfold bl;rcases O with ⟨rfl,O⟩|⟨rfl,O⟩
 ·have C:=E.2;simp only[aM,aL,br,aQ,aab]at C;have e:aI 52 [.mk 3 U q1 Q Y,.mk 3 B P M J] ⟨a,b,c,d,.mk 12 0 0 [] [x] [] []::q,fr,g,u,m,said⟩=bg (dr ⟨a,b,c,d,q,fr,g,u,m,said⟩ Y 0 []) [x]:=by unfold aI;rw[Cb];rfl
  rw[e]
  exact⟨fD _ _ 2 N 52 G _ [_] q _ cc (by rw[Cb];rfl) (by show List.length (Vl.mk 12 0 0 [] [x] [] []::q)<=_;simp only[aaa];omega) (EM ⟨a,b,c,d,q,fr,g,u,m,said⟩ N G U q1 Q Y B P M J 12 0 [] [] [] x bn cm D),
   sA (S:=⟨a,b,c,d,q,fr,g,u,m,said⟩) m1 m2 eg g1 ⟨⟨fu (pq W.1 _ (by simp[aD,au])) ⟨O,V⟩,bn⟩,hq⟩⟩
 ·have C:=E.2;simp only[aM,aL,br,aQ,aab]at C;have e:aI 52 [.mk 3 U q1 Q Y,.mk 3 B P M J] ⟨a,b,c,d,.mk 12 1 0 [] [x] [] []::q,fr,g,u,m,said⟩=bg (dr ⟨a,b,c,d,q,fr,g,u,m,said⟩ J 0 []) [x]:=by unfold aI;rw[Cb];rfl
  rw[e]
  exact⟨fD _ _ 2 N 52 G _ [_] q _ cc (by rw[Cb];rfl) (by show List.length (Vl.mk 12 1 0 [] [x] [] []::q)<=_;simp only[aaa];omega) (EN ⟨a,b,c,d,q,fr,g,u,m,said⟩ N G U q1 Q Y B P M J 12 0 [] [] [] x bn cm D),
   sA (S:=⟨a,b,c,d,q,fr,g,u,m,said⟩) m3 m4 eg g2 ⟨⟨fu (pq W.1 _ (by simp[aD,au])) ⟨O,V⟩,bn⟩,hq⟩⟩
theorem HU (pr:List Ty×Bool) (S:bT) (N:Int) (G:List UInt8) (args:List Nd) (w8:jj args) (H s:List Ty) (r:List Ty×Bool) (hf:bQ 55 args=some H) (M:dK s S.st) (C:s.length+cr args<=339) (D:S.fr.length<=1099511627776) (E:aX 55 (bf args) H s=(r,0)):bl N G 55 args S/\Comes pr S r (aI 55 args S):=by
 obtain⟨a,b,c,d,st,fr,g,u,m,said⟩:=S;obtain⟨O,q1,W,Y,B,V,Q,J,rfl,rfl⟩:=Ca hf cc;obtain⟨g1,g2,gz⟩:=OG w8;rw[gz]at C;have A:=bJ M;simp only at M A;cases s with
 | nil=>cases E
 | cons t s =>
 obtain⟨v,q,rfl,I,hq⟩:=bp M;have U:=cQ I.1;simp only[aaa]at A C;have P:(if bS t=9 then cT (cw Y (s,false)) (cw J (aD t 0::s,false))else aP 5)=(r,0):=E;split at P;rotate_left
 ·cases P
 rename_i p;obtain⟨T,ts⟩:=t;simp only[bS]at p;subst p;obtain⟨t1,rfl,Oq⟩:=eY (cL U.1) cc;obtain⟨m1,m2⟩:=tv P;obtain⟨m3,m4⟩:=tw P;unfold bl;rcases OA U.2.1 U.2.2 with rfl|⟨x,rfl,hx,K⟩
 ·have e:aI 55 [.mk 3 O q1 W Y,.mk 3 B V Q J] ⟨a,b,c,d,cx []::q,fr,g,u,m,said⟩=bg (dr ⟨a,b,c,d,q,fr,g,u,m,said⟩ Y 0 []) []:=by unfold aI;rw[Cc];rfl
  rw[e]
  exact⟨fD _ _ 2 N 55 G _ [_] q _ cc (by rw[Cc];rfl) (by show List.length (cx []::q)<=_;simp only[aaa];omega) (EO ⟨a,b,c,d,q,fr,g,u,m,said⟩ N G O q1 W Y B V Q J 9 0 [] [] [] 0 cm D),
   sA (S:=⟨a,b,c,d,q,fr,g,u,m,said⟩) m1 m2 bn g1 hq⟩
 ·have hz:=I.2;simp only[cx,aM,aL,br,aQ,aab]at hz;have e:aI 55 [.mk 3 O q1 W Y,.mk 3 B V Q J] ⟨a,b,c,d,cx [x]::q,fr,g,u,m,said⟩=bg (dr ⟨a,b,c,d,q,fr,g,u,m,said⟩ J 0 []) [x]:=by unfold aI;rw[Cc];rfl
  rw[e]
  exact⟨fD _ _ 2 N 55 G _ [_] q _ cc (by rw[Cc];rfl) (by show List.length (cx [x]::q)<=_;simp only[aaa];omega) (EP ⟨a,b,c,d,q,fr,g,u,m,said⟩ N G O q1 W Y B V Q J 9 0 [] [] [] 0 x bn cm D),
   sA (S:=⟨a,b,c,d,q,fr,g,u,m,said⟩) m3 m4 eg g2 ⟨⟨fu (pq U.1 _ (by simp[aD,au])) ⟨hx,K⟩,bn⟩,hq⟩⟩
theorem HV (pr:List Ty×Bool) (S:bT) (N:Int) (G:List UInt8) (args:List Nd) (w8:jj args) (H s:List Ty) (r:List Ty×Bool) (hf:bQ 58 args=some H) (I:dK s S.st) (C:s.length+cr args<=339) (D:S.fr.length<=1099511627776) (E:aX 58 (bf args) H s=(r,0)):bl N G 58 args S/\Comes pr S r (aI 58 args S):=by
 obtain⟨a,b,c,d,st,fr,g,u,m,said⟩:=S;obtain⟨O,q1,Q,V,B,P,M,J,rfl,rfl⟩:=Ca hf cc;obtain⟨g1,g2,gz⟩:=OG w8;rw[gz]at C;have A:=bJ I;simp only at I A;cases s with
 | nil=>cases E
 | cons t s =>
 obtain⟨v,q,rfl,p,hq⟩:=bp I;have U:=cQ p.1;simp only[aaa]at A C;have K:(if bS t=10 then cT (cw V (aD t 0::t::s,false)) (cw J (s,false))else aP 5)=(r,0):=E;split at K;rotate_left
 ·cases K
 rename_i Ll;obtain⟨T,ts⟩:=t;simp only[bS]at Ll;subst Ll;obtain⟨t1,rfl,Oq⟩:=eY (cL U.1) cc;obtain⟨m1,m2⟩:=tv K;obtain⟨m3,m4⟩:=tw K;unfold bl;obtain⟨l,rfl,yc,Y,W⟩:=zn U.2.1 U.2.2;cases l with
 | nil =>
  have e:aI 58 [.mk 3 O q1 Q V,.mk 3 B P M J] ⟨a,b,c,d,.mk 10 0 0 [] [] [] []::q,fr,g,u,m,said⟩=(0,dr ⟨a,b,c,d,q,fr,g,u,m,said⟩ J 0 []):=by unfold aI;rw[Cd];rfl
  rw[e]
  exact⟨fD _ _ 2 N 58 G _ [_] q _ cc (by rw[Cd];rfl) (by show List.length (Vl.mk 10 0 0 [] [] [] []::q)<=_;simp only[aaa];omega) (ES ⟨a,b,c,d,q,fr,g,u,m,said⟩ N G O q1 Q V B P M J 10 0 [] [] [] 0 cm D),
   xY (S:=⟨a,b,c,d,q,fr,g,u,m,said⟩) m3 m4 bn g2 hq⟩
 | cons x xs =>
  have hz:=p.2;simp only[aM,aL,br,aQ,aab]at hz;have e:aI 58 [.mk 3 O q1 Q V,.mk 3 B P M J] ⟨a,b,c,d,.mk 10 0 0 [] (x::xs) [] []::q,fr,g,u,m,said⟩=bg (dr ⟨a,b,c,d,q,fr,g,u,m,said⟩ V 0 []) [.mk 10 0 0 [] xs [] [],x]:=by unfold aI;rw[Cd];rfl
  rw[e];simp only[aR,aaj]at Y;simp only[ey,aaj]at W;simp only[aaa]at yc
  exact⟨fD _ _ 2 N 58 G _ [_] q _ cc (by rw[Cd];rfl) (by show List.length (Vl.mk 10 0 0 [] (x::xs) [] []::q)<=_;simp only[aaa];omega) (ET ⟨a,b,c,d,q,fr,g,u,m,said⟩ N G O q1 Q V B P M J 10 0 [] [] [] 0 x xs bn (by simp only[aM,br,aQ,aab];omega) cm D),
   sA (S:=⟨a,b,c,d,q,fr,g,u,m,said⟩) m1 m2 eg g1 ⟨⟨fu (pq U.1 _ (by simp[aD,au])) ⟨Y.1,W.1⟩,bn⟩,⟨fu U.1 (D0 bn Y.2 W.2),by simp only[aM,br,aQ,aab];omega⟩,hq⟩⟩
theorem Th (K:List Ty×Bool) (S:bT) (N:Int) (G:List UInt8) (args:List Nd) (I:jj args) (H s:List Ty) (r:List Ty×Bool) (hf:bQ 64 args=some H) (P:dK s S.st) (C:s.length+cr args<=339) (D:S.fr.length<=1099511627776) (E:cI 64 args (bf args) H s=(r,0)):bl N G 64 args S/\Comes K S r (aI 64 args S):=by
 obtain⟨a,b,c,d,st,fr,g,u,m,said⟩:=S;obtain⟨O,q1,W,Y,B,V,Q,J,rfl,rfl⟩:=Ca hf cc;obtain⟨g1,p,gz⟩:=OG I;rw[gz]at C;have A:=bJ P;simp only at P A;cases s with
 | nil=>cases E
 | cons t s =>
 obtain⟨v,q,rfl,hv,hq⟩:=bp P;have f1:=cQ hv.1;simp only[aaa]at A C;have U:(if bS t=2 then cT (cw Y (s,false)) (cw J (s,false))else aP 5)=(r,0):=E;split at U;rotate_left
 ·cases U
 rename_i M;obtain⟨T,ts⟩:=t;simp only[bS]at M;subst M;obtain⟨m1,m2⟩:=tv U;obtain⟨m3,m4⟩:=tw U;unfold bl;rcases Ti f1.2.1 with rfl|rfl
 ·have e:aI 64 [.mk 3 O q1 W Y,.mk 3 B V Q J] ⟨a,b,c,d,aO 2 0::q,fr,g,u,m,said⟩=(0,dr ⟨a,b,c,d,q,fr,g,u,m,said⟩ J 0 []):=by unfold aI;rw[Ce];rfl
  rw[e]
  exact⟨fD _ _ 2 N 64 G _ [_] q _ cc (by rw[Ce];rfl) (by show List.length (aO 2 0::q)<=_;simp only[aaa];omega) (J3 ⟨a,b,c,d,q,fr,g,u,m,said⟩ N G O q1 W Y B V Q J 2 0 [] [] [] [] cm D),
   xY (S:=⟨a,b,c,d,q,fr,g,u,m,said⟩) m3 m4 bn p hq⟩
 ·have e:aI 64 [.mk 3 O q1 W Y,.mk 3 B V Q J] ⟨a,b,c,d,aO 2 1::q,fr,g,u,m,said⟩=(0,dr ⟨a,b,c,d,q,fr,g,u,m,said⟩ Y 0 []):=by unfold aI;rw[Ce];rfl
  rw[e]
  exact⟨fD _ _ 2 N 64 G _ [_] q _ cc (by rw[Ce];rfl) (by show List.length (aO 2 1::q)<=_;simp only[aaa];omega) (J4 ⟨a,b,c,d,q,fr,g,u,m,said⟩ N G O q1 W Y B V Q J 2 0 [] [] [] [] cm D),
   xY (S:=⟨a,b,c,d,q,fr,g,u,m,said⟩) m1 m2 bn g1 hq⟩
theorem zp {α:Type} (l:List α):l.drop l.length=[]:=List.drop_length
theorem M9 (pr:List Ty×Bool) (S:bT) (N:Int) (G:List UInt8) (args:List Nd) (w8:jj args) (H s:List Ty) (r:List Ty×Bool) (hf:bQ 60 args=some H) (P:dK s S.st) (C:s.length+cr args<=339) (J:S.fr.length<=1099511627776) (E:cK 60 (bf args) H s=(r,0)):bl N G 60 args S/\Comes pr S r (aI 60 args S):=by
 obtain⟨a,b,c,d,st,fr,g,u,m,said⟩:=S;obtain⟨D,q1,B,Y,rfl,rfl⟩:=M8 hf cc;obtain⟨g1,gz⟩:=Tg w8;rw[gz]at C;have A:=bJ P;simp only at P A;cases s with
 | nil=>cases E
 | cons t s =>
 obtain⟨v,q,rfl,p,hq⟩:=bp P;have W:=cQ p.1;simp only[aaa]at A C;have Q:(if bS t=10\/bS t=13 then cT (cw Y ((if bS t=13 then .mk 11 (au t)else aD t 0)::s,false)) (ep s)else aP 5)=(r,0):=E;split at Q;rotate_left
 ·cases Q
 rename_i Ll;obtain⟨m1,m2⟩:=tv Q;obtain⟨m3,m4⟩:=tw Q;have hr:r=(s,false):=m4 rfl;subst hr;have M:∃k xs e,v = .mk k 0 0 [] xs [] []/\(∀x∈xs,Fit e x)/\(if bS t=13 then .mk 11 (au t)else aD t 0)=e:=by
  obtain⟨T,ts⟩:=t;simp only[bS]at Ll;have hz:=p.2;rcases Ll with rfl|rfl
  ·obtain⟨K,rfl,Oq⟩:=eY (cL W.1) cc;obtain⟨l,rfl,yc,V,U⟩:=zn W.2.1 W.2.2;simp only[aM,br,aQ,aab]at hz;exact⟨10,l,K,rfl,fun x O=>⟨fu (pq W.1 _ cn) ⟨(fh _ l).1 V x O,D6 U O⟩,C1⟩,rfl⟩
  ·obtain⟨K,t2,rfl,Oq,Ub⟩:=eN (cL W.1) cc;obtain⟨l,rfl,yc,V,Vi,U⟩:=B9 W.2.1 W.2.2;simp only[aM,br,aQ,aab]at hz;exact⟨13,l,.mk 11 [K,t2],rfl,fun x O=>⟨fu (M6 W.1) ⟨(fh _ l).1 V x O,D6 U O⟩,C1⟩,rfl⟩
 obtain⟨k,xs,e0,rfl,I,he⟩:=M;rw[he]at m1 m2;have e:aI 60 [.mk 3 D q1 B Y] ⟨a,b,c,d,.mk k 0 0 [] xs [] []::q,fr,g,u,m,said⟩=(0,vU ⟨a,b,c,d,q,fr,g,u,m,said⟩ Y 3 xs):=by unfold aI;rw[OB];rfl
 unfold bl;rw[e]
 refine⟨fD _ _ 2 N 60 G _ [_] q _ cc (by rw[OB];rfl) (by show List.length (Vl.mk k 0 0 [] xs [] []::q)<=_;simp only[aaa];omega) (Hx ⟨a,b,c,d,q,fr,g,u,m,said⟩ N G D q1 B Y k 0 [] [] [] 0 xs cm J),
  .inr (.inl ⟨rfl,⟨Y,Y.length,3,xs⟩,s,rfl,g1,hq,fun h=>?_⟩)⟩
 refine⟨Sk,g1,aam _,s,false,by show cw (Y.drop Y.length) (s,false)=_;rw[zp];rfl,fun _ => .inr (.inr (.inr (.inl ⟨rfl,e0,I,by show s.length+1+cr Y<=340;omega,⟨_,_,AG m1,fun hf=>?_⟩,h rfl⟩)))⟩;have:=m2 hf;rw[<- this]
theorem Na (T:List Ty×Bool) (S:bT) (N:Int) (G:List UInt8) (args:List Nd) (U:jj args) (H s:List Ty) (r:List Ty×Bool) (hf:bQ 65 args=some H) (W:dK s S.st) (C:s.length+cr args<=339) (J:S.fr.length<=1099511627776) (E:cI 65 args (bf args) H s=(r,0)):bl N G 65 args S/\Comes T S r (aI 65 args S):=by
 obtain⟨a,b,c,d,st,fr,g,u,m,said⟩:=S;obtain⟨O,q1,D,Y,rfl,rfl⟩:=M8 hf cc;obtain⟨g1,P⟩:=Tg U;rw[P]at C;have B:=bJ W;simp only at W B;cases s with
 | nil=>cases E
 | cons t s =>
 obtain⟨v,q,rfl,M,hq⟩:=bp W;simp only[aaa]at B C;have Q:(if bS t=2 then(if(cT (cw Y (s,false)) (ep (t::s))).2≠0 then aP (cT (cw Y (s,false)) (ep (t::s))).2 else ep s)else aP 5)=(r,0):=E;split at Q;rotate_left
 ·cases Q
 rename_i K;split at Q
 ·rename_i I;exact absurd (congrArg Prod.snd Q) I
 rename_i I;simp only[ne_eq,Decidable.not_not]at I;cases Q;obtain⟨A,V⟩:=tv (a:=cw Y (s,false)) (b:=ep (t::s)) (r:=(cT (cw Y (s,false)) (ep (t::s))).1) (by rw[<- I]);obtain⟨m3,p⟩:=tw (a:=cw Y (s,false)) (b:=ep (t::s)) (r:=(cT (cw Y (s,false)) (ep (t::s))).1) (by rw[<- I]);have hr:=p rfl;rw[hr]at V;have e:aI 65 [.mk 3 O q1 D Y] ⟨a,b,c,d,v::q,fr,g,u,m,said⟩=(0,{vU ⟨a,b,c,d,q,fr,g,u,m,said⟩ Y 4 []with st:=v::q}):=by unfold aI;rw[OC];rfl
 unfold bl;rw[e]
 refine⟨fD _ _ 2 N 65 G _ [_] q _ cc (by rw[OC];rfl) lf (Hy ⟨a,b,c,d,q,fr,g,u,m,said⟩ N G O q1 D Y v cm J),
  .inr (.inl ⟨rfl,⟨Y,Y.length,4,[]⟩,t::s,rfl,g1,⟨M,hq⟩,fun h=>?_⟩)⟩
 refine⟨by show(t::s).length+cr Y<=340;simp only[aaa];omega,g1,aam _,t::s,false,by show cw (Y.drop Y.length) (t::s,false)=_;rw[zp];rfl,fun _ => .inr (.inr (.inr (.inr ⟨rfl,t,s,rfl,K,Sk,⟨_,_,AG A,fun hf=>?_⟩,h rfl⟩)))⟩;have:=V hf;rw[<- this];rfl
theorem Qk (T:List Ty×Bool) (S:bT) (N:Int) (G:List UInt8) (args:List Nd) (V:jj args) (H s:List Ty) (r:List Ty×Bool) (hf:bQ 68 args=some H) (W:dK s S.st) (C:s.length+cr args<=339) (J:S.fr.length<=1099511627776) (E:cI 68 args (bf args) H s=(r,0)):bl N G 68 args S/\Comes T S r (aI 68 args S):=by
 obtain⟨a,b,c,d,st,fr,g,u,m,said⟩:=S;obtain⟨O,q1,D,Y,rfl,rfl⟩:=M8 hf cc;obtain⟨g1,U⟩:=Tg V;rw[U]at C;have B:=bJ W;simp only at W B;cases s with
 | nil=>cases E
 | cons t s =>
 obtain⟨v,q,rfl,P,hq⟩:=bp W;simp only[aaa]at B C;have Q:(if(cw Y (s,false)).2≠0 then aP (cw Y (s,false)).2 else if(cw Y (s,false)).1.2=true then aP 1 else ep (t::(cw Y (s,false)).1.1))=(r,0):=E;split at Q
 ·rename_i I;exact absurd (congrArg Prod.snd Q) I
 rename_i I;simp only[ne_eq,Decidable.not_not]at I;split at Q
 ·cases Q
 rename_i M;cases Q;have e:aI 68 [.mk 3 O q1 D Y] ⟨a,b,c,d,v::q,fr,g,u,m,said⟩=(0,dr ⟨a,b,c,d,q,fr,g,u,m,said⟩ Y 1 [v]):=by unfold aI;rw[OF];rfl
 unfold bl;rw[e]
 refine⟨fD _ _ 2 N 68 G _ [_] q _ cc (by rw[OF];rfl) lf (J5 ⟨a,b,c,d,q,fr,g,u,m,said⟩ N G O q1 D Y v cm J),
  .inr (.inl ⟨rfl,⟨Y,0,1,[v]⟩,s,rfl,g1,hq,fun h=>?_⟩)⟩
 exact⟨Sk,g1,Nat.zero_le _,_,_,AG I,fun _ => .inr (.inl ⟨rfl,aam _,[t],⟨P,trivial⟩,h rfl⟩)⟩
theorem Nb (I:List Ty×Bool) (S:bT) (N:Int) (G:List UInt8) (args:List Nd) (H s:List Ty) (r:List Ty×Bool) (hf:bQ 67 args=some H) (Q:dK s S.st) (C:s.length+cr args<=339) (J:S.fr.length<=1099511627776) (E:cI 67 args (bf args) H s=(r,0)):bl N G 67 args S/\Comes I S r (aI 67 args S):=by
 obtain⟨a,b,c,d,st,fr,g,u,m,said⟩:=S;obtain⟨rfl,rfl⟩:=cH hf cc;have A:=bJ Q;simp only at Q A;rcases s with _|⟨U,_|⟨W,s⟩⟩
 ·cases E
 ·cases E
 obtain⟨v,q0,rfl,D,p⟩:=bp Q;obtain⟨w,q,rfl,hw,hq⟩:=bp p;have P:=cQ hw.1;simp only[aaa]at A C;have O:(if bS W=14/\cP U (aD W 0)=true then ep (aD W 1::s)else aP 5)=(r,0):=E;split at O;rotate_left
 ·cases O
 rename_i c1;obtain⟨T,ts⟩:=W;obtain⟨Y,c2⟩:=c1;simp only[bS]at Y;subst Y;obtain⟨t,V,rfl,Oq,Ub⟩:=eN (cL P.1) cc;cases O;have et:U=t:=(gm _ _).1 c2;subst et;obtain⟨B,rfl,M,Ua,K,Yc⟩:=Vm P.2.1 P.2.2;have hmc:=lX M;have e:aI 67 [] ⟨a,b,c,d,v :: .mk 14 0 0 [] [] [U,V] B::q,fr,g,u,m,said⟩=(0,{dr ⟨a,b,c,d,q,fr,g,u,m,said⟩ B 2 q.reverse with st:=[v]}):=by unfold aI;rw[OE];rfl
 unfold bl;rw[e]
 refine⟨fD _ _ 2 N 67 G _ [_,_] q _ cc (by rw[OE];rfl) (by show List.length (v::Vl.mk 14 0 0 [] [] [U,V] B::q)<=_;simp only[aaa];omega) (Hz ⟨a,b,c,d,q,fr,g,u,m,said⟩ N G v 14 0 [] [U,V] B 0 [] cm J),
  .inr (.inl ⟨rfl,⟨B,0,2,q.reverse⟩,[U],rfl,M,⟨D,trivial⟩,fun h=>?_⟩)⟩
 refine⟨by show List.length [U]+cr B<=340;simp only[aaa,aab];omega,M,Nat.zero_le _,_,_,AG Ua,fun hf => .inr (.inr (.inl ⟨rfl,by show q.reverse.length<=340;rw[aaB];omega,V,s,K hf,by show dK s q.reverse.reverse;rw[List.reverse_reverse];exact hq,h rfl⟩))⟩
theorem HW (M:List Ty×Bool) (S:bT) (N:Int) (G:List UInt8) (args:List Nd) (V:jj args) (H s:List Ty) (r:List Ty×Bool) (hf:bQ 66 args=some H) (W:dK s S.st) (hl:s.length+cr args<=339) (J:S.fr.length<=1099511627776) (U:r.1.all bA=true) (E:cI 66 args (bf args) H s=(r,0)):bl N G 66 args S/\Comes M S r (aI 66 args S):=by
 obtain⟨a,b,c,d,q,fr,g,u,m,said⟩:=S;have K:=xV V;obtain⟨x,y,O,q1,D,Y,rfl,hx,hy,rfl⟩:=Tf hf cc;obtain⟨g1,gz⟩:=pz V (show Nd.mk 3 O q1 D Y∈_ from List.mem_cons_of_mem _ (List.mem_cons_of_mem _ (List.mem_cons_self ..)));have B:=bJ W;simp only at W B;have Q:(if ju Y=true then aP 5 else if(cT (cw Y ([(aZ x).1],false)) (ep [(aZ y).1])).2≠0 then aP (cT (cw Y ([(aZ x).1],false)) (ep [(aZ y).1])).2 else ep (.mk 14 [(aZ x).1,(aZ y).1]::s))=(r,0):=by
  obtain⟨kx,nx,px,C,ax⟩:=x;obtain⟨ky,ny,py,A,ay⟩:=y;exact E
 split at Q
 ·cases Q
 rename_i p;split at Q
 ·rename_i I;exact absurd (congrArg Prod.snd Q) I
 rename_i I;simp only[ne_eq,Decidable.not_not]at I;cases Q;obtain⟨T,P⟩:=tv (a:=cw Y ([(aZ x).1],false)) (b:=ep [(aZ y).1]) (r:=(cT (cw Y ([(aZ x).1],false)) (ep [(aZ y).1])).1) (by rw[<- I]);obtain⟨m3,m4⟩:=tw (a:=cw Y ([(aZ x).1],false)) (b:=ep [(aZ y).1]) (r:=(cT (cw Y ([(aZ x).1],false)) (ep [(aZ y).1])).1) (by rw[<- I]);have hr:=m4 rfl;rw[hr]at P;simp only[aQ,bN]at K;have s1:=DO x bn;have s2:=DO y bn;have C:bC (aZ x).1<=1000000:=by
  rcases uN x with ⟨t,h1,_,_,h4⟩|h1
  ·grind
  ·rw[h1];decide
 have A:bC (aZ y).1<=1000000:=by
  rcases uN y with ⟨t,h1,_,_,h4⟩|h1
  ·grind
  ·rw[h1];decide
 have gx:bA (aZ x).1=true:=pq (bE U) _ cn;have e:aI 66 [x,y,.mk 3 O q1 D Y] ⟨a,b,c,d,q,fr,g,u,m,said⟩=bg ⟨a,b,c,d,q,fr,g,u,m,said⟩ [.mk 14 0 0 [] [] [(aZ x).1,(aZ y).1] Y]:=by unfold aI;rw[OD];rfl
 have hv:bL (.mk 14 0 0 [] [] [(aZ x).1,(aZ y).1] Y) (.mk 14 [(aZ x).1,(aZ y).1])=true/\eK (.mk 14 0 0 [] [] [(aZ x).1,(aZ y).1] Y)=true:=by
  constructor
  ·unfold bL;simp[cB,bS,aD,au,(gm _ _).2 rfl]
  ·rw[D7 14 0 0 [] [] _ _ Y rfl];rw[GB g1 rfl,if_neg cn,if_pos (by simp[gx])];simp only[bh,aaj,aay,decide_eq_true_eq,Bool.not_eq_true'];refine⟨⟨by first|exact T|exact aan T,?_⟩,by simpa using p⟩;cases hb:(cw Y ([(aZ x).1],false)).1.2 with
   | true=>exact .inl rfl
   | false =>
    right;rw[<- P hb];exact(mu _ _).2 rfl
 unfold bl;rw[e]
 exact⟨fD _ _ 2 N 66 G _ [] q _ cc (by rw[OD];rfl) cm (DQ ⟨a,b,c,d,q,fr,g,u,m,said⟩ N G x y O q1 D Y bn bn (by simp only[aM,aL,br,aab];omega) cm J),
  .inl (cg (S:=⟨a,b,c,d,q,fr,g,u,m,said⟩) (fu (bE U) hv) W)⟩
end Go.Proofs
namespace Go.Proofs
open Go.cu
theorem Nc (T:List Ty×Bool) (P:Int) (S:bT) (u:qk S.self S.gU S.gV S.balance=true) (hm:0<=S.aU/\S.aU<=bM) (N:Int) (G:List UInt8) (args:List Nd) (Q:jj args) (H s:List Ty) (r:List Ty×Bool) (hf:bQ P args=some H) (Y:dK s S.st) (C:s.length+cr args<=339) (J:S.fr.length<=1099511627776) (V:r.1.all bA=true) (E:nv P args (bf args) H s=(r,0)):bl N G P args S/\Comes T S r (aI P args S):=by
 have U:aQ args<=8589934593:=Nat.le_trans (xV Q) bn;have W:s.length<=340:=by omega
 have hP:¬P<40:=by
  intro h;unfold bQ at hf;rw[if_pos (.inl h)]at hf;cases hf
 have st:∀{p q:Prop},bl N G P args S/\bR S r (aI P args S)->bl N G P args S/\Comes T S r (aI P args S):=fun h=>⟨h.1,.inl h.2⟩
 unfold nv at E;by_cases M:P<=44
 ·rw[if_pos M]at E;exact st (p:=True) (q:=True) (Nf P bn S N G args H s r hf Y W E)
 rw[if_neg M]at E;by_cases D:P=45
 ·rw[if_pos D]at E;subst D;exact st (p:=True) (q:=True) (Ng S N G args U H s r hf Y W V E)
 rw[if_neg D]at E;by_cases K:P<=58
 ·rw[if_pos K]at E;by_cases O:P=52
  ·subst O;exact HT T S N G args Q H s r hf Y C J E
  by_cases d2:P=55
  ·subst d2;exact HU T S N G args Q H s r hf Y C J E
  by_cases d3:P=58
  ·subst d3;exact HV T S N G args Q H s r hf Y C J E
  exact st (p:=True) (q:=True) (E3 P bn S N G args U (bf args) H s r hf Y W V E)
 rw[if_neg K]at E;by_cases c4:P<=63
 ·rw[if_pos c4]at E;by_cases O:P=60
  ·subst O;exact M9 T S N G args Q H s r hf Y C J E
  exact st (p:=True) (q:=True) (Ky P bn S N G args U (bf args) H s r hf Y W V E)
 rw[if_neg c4]at E;by_cases A:P<=68
 ·rw[if_pos A]at E;rcases(show P=64\/P=65\/P=66\/P=67\/P=68 by omega)with rfl|rfl|rfl|rfl|rfl
  ·exact Th T S N G args Q H s r hf Y C J E
  ·exact Na T S N G args Q H s r hf Y C J E
  ·exact HW T S N G args Q H s r hf Y C J V E
  ·exact Nb T S N G args H s r hf Y C J E
  ·exact Qk T S N G args Q H s r hf Y C J E
 rw[if_neg A]at E;by_cases I:P<=72\/P>=93
 ·rw[if_pos I]at E;have:P<=95:=by
   apply Decidable.byContradiction;intro h;unfold bU at E;rw[if_neg bn,if_neg bn,if_neg bn,if_pos bn]at E;cases E
  exact st (p:=True) (q:=True) (E2 P bn S N G args U (bf args) H s r hf Y W V E)
 rw[if_neg I]at E;by_cases B:P<=83
 ·rw[if_pos B]at E;by_cases O:P=83
  ·subst O;have h:=Nh S N G args H s r hf Y W E;exact⟨h.1,.inr (.inr h.2)⟩
  exact st (p:=True) (q:=True) (MZ P bn S N G args U (bf args) H s r hf Y W V E)
 rw[if_neg B]at E;exact st (p:=True) (q:=True) (Kx P bn S u hm N G args U (bf args) H s r hf Y W V E)
def Bs (S S':bT):Prop:=S'.self=S.self/\S'.gU=S.gU/\S'.gV=S.gV/\S'.balance=S.balance/\S'.gS=S.gS/\S'.used=S.used
theorem Ni (S:bT) (l:List Vl):Bs S (bg S l).2/\(bg S l).2.aU=S.aU:=⟨⟨rfl,rfl,rfl,rfl,rfl,rfl⟩,rfl⟩
theorem D8 {c:Prop} [Decidable c] {Q:MR->Prop} {a b:MR} (h1:Q a) (h2:Q b):Q (if c then a else b):=by grind
def KM (S:bT) (o:MR):Prop:=Bs S o.2/\o.2.aU=S.aU
theorem vz (S:bT) (l:List Vl):KM S (bg S l):=Ni S l
theorem vA (S S':bT) (e:Int) (h:Bs S S'/\S'.aU=S.aU):KM S (e,S'):=h
theorem Tj (P:Int) (args:List Nd) (l:List Vl) (S:bT):KM S (A1 P args l S):=by
 unfold A1
 repeat' (first|exact vz _ _|exact vA _ _ _ ⟨⟨rfl,rfl,rfl,rfl,rfl,rfl⟩,rfl⟩|refine D8 ?_ ?_)
theorem Ql (P:Int) (args:List Nd) (l:List Vl) (S:bT):KM S (uD P args l S):=by
 unfold uD
 repeat' (first|exact vz _ _|exact vA _ _ _ ⟨⟨rfl,rfl,rfl,rfl,rfl,rfl⟩,rfl⟩|refine D8 ?_ ?_)
theorem KD (P:Int) (args:List Nd) (l:List Vl) (S:bT):KM S (og P args l S):=by
 unfold og;have h1:∀(c:List Nd) (f:Int) (a:List Vl) (q:List Vl),KM S (bg (dr S c f a) q):=fun c f a q=>⟨⟨rfl,rfl,rfl,rfl,rfl,rfl⟩,rfl⟩
 cases eo (lV l 0)<;>dsimp only <;>
 repeat' (first|exact h1 _ _ _ _|exact vz _ _|exact vA _ _ _ ⟨⟨rfl,rfl,rfl,rfl,rfl,rfl⟩,rfl⟩|refine D8 ?_ ?_)
theorem Qm (P:Int) (args:List Nd) (l:List Vl) (S:bT):KM S (uE P args l S):=by
 unfold uE;cases eo (lV l 1)<;>dsimp only <;>
 repeat' (first|exact vz _ _|exact vA _ _ _ ⟨⟨rfl,rfl,rfl,rfl,rfl,rfl⟩,rfl⟩|refine D8 ?_ ?_)
theorem Nj (P:Int) (l:List Vl) (S:bT):KM S (qC P l S):=by
 unfold qC;dsimp only
 repeat' (first|exact vz _ _|exact vA _ _ _ ⟨⟨rfl,rfl,rfl,rfl,rfl,rfl⟩,rfl⟩|refine D8 ?_ ?_)
theorem Tk (P:Int) (args:List Nd) (l:List Vl) (S:bT):KM S (A2 P args l S):=by
 unfold A2;dsimp only
 repeat' (first|exact vz _ _|exact vA _ _ _ ⟨⟨rfl,rfl,rfl,rfl,rfl,rfl⟩,rfl⟩|refine D8 ?_ ?_)
theorem Qn (P:Int) (args:List Nd) (l:List Vl) (S:bT):Bs S (qX P args l S).2/\((qX P args l S).2.aU=S.aU\/P=84/\S.aU<=bM-vN (lV l 1)/\(qX P args l S).2.aU=S.aU+vN (lV l 1)):=by
 have B:∀{o:MR},KM S o->Bs S o.2/\(o.2.aU=S.aU\/P=84/\S.aU<=bM-vN (lV l 1)/\o.2.aU=S.aU+vN (lV l 1)):=fun h=>⟨h.1,.inl h.2⟩
 unfold qX;dsimp only;by_cases c:P=84
 ·subst c;rw[if_neg cc,if_neg cc,if_neg cc,if_neg cc,if_pos rfl];by_cases Y:vN (lV l 1)=0
  ·rw[if_pos Y];exact B (vz _ _)
  rw[if_neg Y];by_cases J:S.aU>bM-vN (lV l 1)
  ·rw[if_pos J];exact B (vA _ _ _ ⟨⟨rfl,rfl,rfl,rfl,rfl,rfl⟩,rfl⟩)
  rw[if_neg J];exact⟨⟨rfl,rfl,rfl,rfl,rfl,rfl⟩,.inr ⟨rfl,bn,rfl⟩⟩
 ·rw[if_neg (c:=P=84) c];refine B ?_
  repeat' (first|exact vz _ _|exact vA _ _ _ ⟨⟨rfl,rfl,rfl,rfl,rfl,rfl⟩,rfl⟩|refine D8 ?_ ?_)
theorem Fw (P:Int) (args:List Nd) (l:List Vl) (S:bT):Bs S (gT P args l S).2/\((gT P args l S).2.aU=S.aU\/P=84/\S.aU<=bM-vN (lV l 1)/\(gT P args l S).2.aU=S.aU+vN (lV l 1)):=by
 have B:∀{o:MR},KM S o->Bs S o.2/\(o.2.aU=S.aU\/P=84/\S.aU<=bM-vN (lV l 1)/\o.2.aU=S.aU+vN (lV l 1)):=fun h=>⟨h.1,.inl h.2⟩
 unfold gT;by_cases Y:P<=44
 ·rw[if_pos Y];exact B (Tj ..)
 rw[if_neg Y];by_cases J:P<=56/\P≠52/\P≠55
 ·rw[if_pos J];exact B (Ql ..)
 rw[if_neg J];by_cases W:P=52\/P=55\/P=58\/P=60\/64<=P/\P<=68
 ·rw[if_pos W];exact B (KD ..)
 rw[if_neg W];by_cases c4:P<=63
 ·rw[if_pos c4];exact B (Qm ..)
 rw[if_neg c4];by_cases T:P<=72\/P>=93
 ·rw[if_pos T];exact B (Nj ..)
 rw[if_neg T];by_cases V:P<=83
 ·rw[if_pos V];exact B (Tk ..)
 rw[if_neg V];exact Qn ..
theorem Tl (P:Int) (args:List Nd) (S:bT) (H s:List Ty) (r:List Ty×Bool) (u:0<=S.aU/\S.aU<=bM) (W:dK s S.st) (hf:bQ P args=some H) (E:nv P args (bf args) H s=(r,0)):Bs S (aI P args S).2/\0<=(aI P args S).2.aU/\(aI P args S).2.aU<=bM/\S.aU<=(aI P args S).2.aU:=by
 unfold aI;cases M:je (bV P) S.st with
 | none=>exact⟨⟨rfl,rfl,rfl,rfl,rfl,rfl⟩,u.1,u.2,Int.le_refl _⟩
 | some V =>
  obtain⟨l,q⟩:=V;obtain⟨h1,h2⟩:=Fw P args l {S with st:=q};refine⟨h1,?_⟩;simp only at h2 ⊢;rcases h2 with h2|⟨rfl,h2,N⟩
  ·omega
  ·rw[N];have O:0<=vN (lV l 1):=by
    rw[HA]at M;have Q:b8 84 H s=(r,0):=E;rcases s with _|⟨U,_|⟨Y,s⟩⟩
    ·cases Q
    ·cases Q
    obtain⟨v,p,A,hv,D⟩:=bp W;obtain⟨w,q1,rfl,K,hq⟩:=bp D;rw[A]at M;have J:l=[v,w]:=by
     have I:some ([v,w],q1)=some (l,q):=M;cases I;rfl
    subst J;have G:(if bS Y=4/\fG U=true then ep (.mk 9 [.mk 15 [U]]::s)else aP 5)=(r,0):=Q;split at G
    ·rename_i c4;have C:=cQ K.1;obtain⟨T,ts⟩:=Y;have:T=4:=c4.1;subst this;obtain⟨n,rfl,O⟩:=fH (.inr (.inr (.inl rfl))) C.2.1;have B:=(ML O).2.2.1 rfl;show 0<=n;exact B.1
    ·cases G
   omega
end Go.Proofs
