/- Package run: typed steps of class control. Package run: one turn of a typed machine. -/
import Derived.Test.YtlohbilpimjmmaaGreatDoorRunAJ
set_option linter.unusedVariables false
set_option linter.unusedSimpArgs false
namespace Go.Proofs
open Go.cq
theorem sG {N:List Ty×Bool} {S:bT} {c:List Nd} {l:List Vl} {Q:List Ty} {r:List Ty×Bool} (T:(cA c (Q,false)).2=0) (I:(cA c (Q,false)).1.2=false->r=(cA c (Q,false)).1) (A:Q.length+cI c<=340) (M:ji c)
  (G:dJ Q (l.reverse++S.st)):Comes N S r (bl (cO S c 0 []) l):=by
 rcases Cl l S.st with h1|⟨h1,h2,V⟩
 ·exact .inl (.inr (.inr h1))
 ·refine .inr (.inl ⟨h1,⟨c,0,0,[]⟩,Q,rfl,M,?_,fun h=>H9 T I A M h⟩);show dJ _ (lI l S.st).2;rw[h2];exact G
theorem yd {N:List Ty×Bool} {S:bT} {c:List Nd} {Q:List Ty} {r:List Ty×Bool} (T:(cA c (Q,false)).2=0) (I:(cA c (Q,false)).1.2=false->r=(cA c (Q,false)).1) (A:Q.length+cI c<=340) (M:ji c)
  (G:dJ Q S.st):Comes N S r (0,cO S c 0 []) :=
 .inr (.inl ⟨rfl,⟨c,0,0,[]⟩,Q,rfl,M,G,fun h=>H9 T I A M h⟩)
theorem OX {S q1:Int} {D:List UInt8} {q:List Nd} {U A:Int} {W:List UInt8} {J:List Nd} (h:ji [.mk 3 S q1 D q,.mk 3 U A W J]):ji q/\ji J/\cI [.mk 3 S q1 D q,.mk 3 U A W J]=cI q+cI J+2 :=
 ⟨(pF h (List.mem_cons_self ..)).1,(pF h (List.mem_cons_of_mem _ (List.mem_cons_self ..))).1,by simp only[cI,many];try omega⟩
theorem Tz {S q1:Int} {D:List UInt8} {q:List Nd} (h:ji [.mk 3 S q1 D q]):ji q/\cI [.mk 3 S q1 D q]=cI q+1 :=
 ⟨(pF h (List.mem_cons_self ..)).1,by simp only[cI,many];try omega⟩
theorem Ia (pr:List Ty×Bool) (S:bT) (N:Int) (V:List UInt8) (args:List Nd) (xm:ji args) (B s:List Ty) (r:List Ty×Bool) (hf:bN 52 args=some B) (G:dJ s S.st) (p:s.length+cI args<=339) (Y:S.fr.length<=1099511627776) (C:aW 52 (bf args) B s=(r,0)):bp N V 52 args S/\Comes pr S r (aH 52 args S):=by
 obtain⟨a,b,c,d,st,fr,g,u,m,said⟩:=S;obtain⟨Q,q1,P,J,M,A,K,D,rfl,rfl⟩:=Cg hf cc;obtain⟨g1,g2,gz⟩:=OX xm;rw[gz]at p;have ey:=bH G;simp only at G ey;cases s with
 | nil=>cases C
 | cons t s =>
 obtain⟨v,q,rfl,H,hq⟩:=bg G;have W:=cQ H.1;simp only[aac]at ey p;have I:(if bR t=12 then cT (cA J (aE t 0::s,false)) (cA D (aE t 1::s,false))else aP 5)=(r,0):=C;split at I;rotate_left
 ·cases I
 rename_i LC;obtain⟨T,ts⟩:=t;simp only[bR]at LC;subst LC;obtain⟨t1,t2,rfl,L4,R9⟩:=eL (cL W.1) cc;obtain⟨x,O,U⟩:=X3 W.2.1 W.2.2;obtain⟨m1,m2⟩:=tG I;obtain⟨m3,m4⟩:=tH I;unfold bp;rcases O with ⟨rfl,O⟩|⟨rfl,O⟩
 ·have E:=H.2;simp only[aM,aJ,aY,aU,aad]at E;have e:aH 52 [.mk 3 Q q1 P J,.mk 3 M A K D] ⟨a,b,c,d,.mk 12 0 0 [] [x] [] []::q,fr,g,u,m,said⟩=bl (cO ⟨a,b,c,d,q,fr,g,u,m,said⟩ J 0 []) [x]:=by unfold aH;rw[Ch];rfl
  rw[e]
  exact⟨fz _ _ 2 N 52 V _ [_] q _ cc (by rw[Ch];rfl) (by show List.length (Vl.mk 12 0 0 [] [x] [] []::q)<=_;simp only[aac];omega) (EW ⟨a,b,c,d,q,fr,g,u,m,said⟩ N V Q q1 P J M A K D 12 0 [] [] [] x bn cm Y),
   sG (S:=⟨a,b,c,d,q,fr,g,u,m,said⟩) m1 m2 dZ g1 ⟨⟨fo (pE W.1 _ (by simp[aE,aA])) ⟨O,U⟩,bn⟩,hq⟩⟩
 ·have E:=H.2;simp only[aM,aJ,aY,aU,aad]at E;have e:aH 52 [.mk 3 Q q1 P J,.mk 3 M A K D] ⟨a,b,c,d,.mk 12 1 0 [] [x] [] []::q,fr,g,u,m,said⟩=bl (cO ⟨a,b,c,d,q,fr,g,u,m,said⟩ D 0 []) [x]:=by unfold aH;rw[Ch];rfl
  rw[e]
  exact⟨fz _ _ 2 N 52 V _ [_] q _ cc (by rw[Ch];rfl) (by show List.length (Vl.mk 12 1 0 [] [x] [] []::q)<=_;simp only[aac];omega) (EX ⟨a,b,c,d,q,fr,g,u,m,said⟩ N V Q q1 P J M A K D 12 0 [] [] [] x bn cm Y),
   sG (S:=⟨a,b,c,d,q,fr,g,u,m,said⟩) m3 m4 dZ g2 ⟨⟨fo (pE W.1 _ (by simp[aE,aA])) ⟨O,U⟩,bn⟩,hq⟩⟩
theorem Ib (pr:List Ty×Bool) (S:bT) (N:Int) (V:List UInt8) (args:List Nd) (xm:ji args) (B s:List Ty) (r:List Ty×Bool) (hf:bN 55 args=some B) (G:dJ s S.st) (p:s.length+cI args<=339) (Y:S.fr.length<=1099511627776) (E:aW 55 (bf args) B s=(r,0)):bp N V 55 args S/\Comes pr S r (aH 55 args S):=by
 obtain⟨a,b,c,d,st,fr,g,u,m,said⟩:=S;obtain⟨W,q1,U,J,Q,A,P,D,rfl,rfl⟩:=Cg hf cc;obtain⟨g1,g2,gz⟩:=OX xm;rw[gz]at p;have I:=bH G;simp only at G I;cases s with
 | nil=>cases E
 | cons t s =>
 obtain⟨v,q,rfl,H,hq⟩:=bg G;have O:=cQ H.1;simp only[aac]at I p;have K:(if bR t=9 then cT (cA J (s,false)) (cA D (aE t 0::s,false))else aP 5)=(r,0):=E;split at K;rotate_left
 ·cases K
 rename_i C;obtain⟨T,ts⟩:=t;simp only[bR]at C;subst C;obtain⟨t1,rfl,L4⟩:=eV (cL O.1) cc;obtain⟨m1,m2⟩:=tG K;obtain⟨m3,m4⟩:=tH K;unfold bp;rcases OR O.2.1 O.2.2 with rfl|⟨x,rfl,hx,M⟩
 ·have e:aH 55 [.mk 3 W q1 U J,.mk 3 Q A P D] ⟨a,b,c,d,cB []::q,fr,g,u,m,said⟩=bl (cO ⟨a,b,c,d,q,fr,g,u,m,said⟩ J 0 []) []:=by unfold aH;rw[Ci];rfl
  rw[e]
  exact⟨fz _ _ 2 N 55 V _ [_] q _ cc (by rw[Ci];rfl) (by show List.length (cB []::q)<=_;simp only[aac];omega) (EY ⟨a,b,c,d,q,fr,g,u,m,said⟩ N V W q1 U J Q A P D 9 0 [] [] [] 0 cm Y),
   sG (S:=⟨a,b,c,d,q,fr,g,u,m,said⟩) m1 m2 bn g1 hq⟩
 ·have hz:=H.2;simp only[cB,aM,aJ,aY,aU,aad]at hz;have e:aH 55 [.mk 3 W q1 U J,.mk 3 Q A P D] ⟨a,b,c,d,cB [x]::q,fr,g,u,m,said⟩=bl (cO ⟨a,b,c,d,q,fr,g,u,m,said⟩ D 0 []) [x]:=by unfold aH;rw[Ci];rfl
  rw[e]
  exact⟨fz _ _ 2 N 55 V _ [_] q _ cc (by rw[Ci];rfl) (by show List.length (cB [x]::q)<=_;simp only[aac];omega) (EZ ⟨a,b,c,d,q,fr,g,u,m,said⟩ N V W q1 U J Q A P D 9 0 [] [] [] 0 x bn cm Y),
   sG (S:=⟨a,b,c,d,q,fr,g,u,m,said⟩) m3 m4 dZ g2 ⟨⟨fo (pE O.1 _ (by simp[aE,aA])) ⟨hx,M⟩,bn⟩,hq⟩⟩
theorem Ic (pr:List Ty×Bool) (S:bT) (N:Int) (V:List UInt8) (args:List Nd) (xm:ji args) (B s:List Ty) (r:List Ty×Bool) (hf:bN 58 args=some B) (G:dJ s S.st) (p:s.length+cI args<=339) (U:S.fr.length<=1099511627776) (E:aW 58 (bf args) B s=(r,0)):bp N V 58 args S/\Comes pr S r (aH 58 args S):=by
 obtain⟨a,b,c,d,st,fr,g,u,m,said⟩:=S;obtain⟨P,q1,O,J,M,A,K,D,rfl,rfl⟩:=Cg hf cc;obtain⟨g1,g2,gz⟩:=OX xm;rw[gz]at p;have H:=bH G;simp only at G H;cases s with
 | nil=>cases E
 | cons t s =>
 obtain⟨v,q,rfl,C,hq⟩:=bg G;have Q:=cQ C.1;simp only[aac]at H p;have I:(if bR t=10 then cT (cA J (aE t 0::t::s,false)) (cA D (s,false))else aP 5)=(r,0):=E;split at I;rotate_left
 ·cases I
 rename_i LC;obtain⟨T,ts⟩:=t;simp only[bR]at LC;subst LC;obtain⟨t1,rfl,L4⟩:=eV (cL Q.1) cc;obtain⟨m1,m2⟩:=tG I;obtain⟨m3,m4⟩:=tH I;unfold bp;obtain⟨l,rfl,yo,Y,W⟩:=zA Q.2.1 Q.2.2;cases l with
 | nil =>
  have e:aH 58 [.mk 3 P q1 O J,.mk 3 M A K D] ⟨a,b,c,d,.mk 10 0 0 [] [] [] []::q,fr,g,u,m,said⟩=(0,cO ⟨a,b,c,d,q,fr,g,u,m,said⟩ D 0 []):=by unfold aH;rw[Cj];rfl
  rw[e]
  exact⟨fz _ _ 2 N 58 V _ [_] q _ cc (by rw[Cj];rfl) (by show List.length (Vl.mk 10 0 0 [] [] [] []::q)<=_;simp only[aac];omega) (E0 ⟨a,b,c,d,q,fr,g,u,m,said⟩ N V P q1 O J M A K D 10 0 [] [] [] 0 cm U),
   yd (S:=⟨a,b,c,d,q,fr,g,u,m,said⟩) m3 m4 bn g2 hq⟩
 | cons x xs =>
  have hz:=C.2;simp only[aM,aJ,aY,aU,aad]at hz;have e:aH 58 [.mk 3 P q1 O J,.mk 3 M A K D] ⟨a,b,c,d,.mk 10 0 0 [] (x::xs) [] []::q,fr,g,u,m,said⟩=bl (cO ⟨a,b,c,d,q,fr,g,u,m,said⟩ J 0 []) [.mk 10 0 0 [] xs [] [],x]:=by unfold aH;rw[Cj];rfl
  rw[e];simp only[aR,aai]at Y;simp only[eu,aai]at W;simp only[aac]at yo
  exact⟨fz _ _ 2 N 58 V _ [_] q _ cc (by rw[Cj];rfl) (by show List.length (Vl.mk 10 0 0 [] (x::xs) [] []::q)<=_;simp only[aac];omega) (E1 ⟨a,b,c,d,q,fr,g,u,m,said⟩ N V P q1 O J M A K D 10 0 [] [] [] 0 x xs bn (by simp only[aM,aY,aU,aad];omega) cm U),
   sG (S:=⟨a,b,c,d,q,fr,g,u,m,said⟩) m1 m2 dZ g1 ⟨⟨fo (pE Q.1 _ (by simp[aE,aA])) ⟨Y.1,W.1⟩,bn⟩,⟨fo Q.1 (D3 bn Y.2 W.2),by simp only[aM,aY,aU,aad];omega⟩,hq⟩⟩
theorem TA (I:List Ty×Bool) (S:bT) (N:Int) (V:List UInt8) (args:List Nd) (H:ji args) (B s:List Ty) (r:List Ty×Bool) (hf:bN 64 args=some B) (G:dJ s S.st) (p:s.length+cI args<=339) (Y:S.fr.length<=1099511627776) (E:cG 64 args (bf args) B s=(r,0)):bp N V 64 args S/\Comes I S r (aH 64 args S):=by
 obtain⟨a,b,c,d,st,fr,g,u,m,said⟩:=S;obtain⟨W,q1,U,J,Q,A,P,D,rfl,rfl⟩:=Cg hf cc;obtain⟨g1,C,gz⟩:=OX H;rw[gz]at p;have M:=bH G;simp only at G M;cases s with
 | nil=>cases E
 | cons t s =>
 obtain⟨v,q,rfl,hv,hq⟩:=bg G;have f1:=cQ hv.1;simp only[aac]at M p;have K:(if bR t=2 then cT (cA J (s,false)) (cA D (s,false))else aP 5)=(r,0):=E;split at K;rotate_left
 ·cases K
 rename_i O;obtain⟨T,ts⟩:=t;simp only[bR]at O;subst O;obtain⟨m1,m2⟩:=tG K;obtain⟨m3,m4⟩:=tH K;unfold bp;rcases TB f1.2.1 with rfl|rfl
 ·have e:aH 64 [.mk 3 W q1 U J,.mk 3 Q A P D] ⟨a,b,c,d,aO 2 0::q,fr,g,u,m,said⟩=(0,cO ⟨a,b,c,d,q,fr,g,u,m,said⟩ D 0 []):=by unfold aH;rw[Ck];rfl
  rw[e]
  exact⟨fz _ _ 2 N 64 V _ [_] q _ cc (by rw[Ck];rfl) (by show List.length (aO 2 0::q)<=_;simp only[aac];omega) (Kg ⟨a,b,c,d,q,fr,g,u,m,said⟩ N V W q1 U J Q A P D 2 0 [] [] [] [] cm Y),
   yd (S:=⟨a,b,c,d,q,fr,g,u,m,said⟩) m3 m4 bn C hq⟩
 ·have e:aH 64 [.mk 3 W q1 U J,.mk 3 Q A P D] ⟨a,b,c,d,aO 2 1::q,fr,g,u,m,said⟩=(0,cO ⟨a,b,c,d,q,fr,g,u,m,said⟩ J 0 []):=by unfold aH;rw[Ck];rfl
  rw[e]
  exact⟨fz _ _ 2 N 64 V _ [_] q _ cc (by rw[Ck];rfl) (by show List.length (aO 2 1::q)<=_;simp only[aac];omega) (Kh ⟨a,b,c,d,q,fr,g,u,m,said⟩ N V W q1 U J Q A P D 2 0 [] [] [] [] cm Y),
   yd (S:=⟨a,b,c,d,q,fr,g,u,m,said⟩) m1 m2 bn g1 hq⟩
theorem vE {α:Type} (l:List α):l.drop l.length=[]:=List.drop_length
theorem Nm (pr:List Ty×Bool) (S:bT) (N:Int) (Q:List UInt8) (args:List Nd) (xm:ji args) (B s:List Ty) (r:List Ty×Bool) (hf:bN 60 args=some B) (G:dJ s S.st) (A:s.length+cI args<=339) (P:S.fr.length<=1099511627776) (E:cJ 60 (bf args) B s=(r,0)):bp N Q 60 args S/\Comes pr S r (aH 60 args S):=by
 obtain⟨a,b,c,d,st,fr,g,u,m,said⟩:=S;obtain⟨H,q1,D,J,rfl,rfl⟩:=Nl hf cc;obtain⟨g1,gz⟩:=Tz xm;rw[gz]at A;have C:=bH G;simp only at G C;cases s with
 | nil=>cases E
 | cons t s =>
 obtain⟨v,q,rfl,p,hq⟩:=bg G;have Y:=cQ p.1;simp only[aac]at C A;have U:(if bR t=10\/bR t=13 then cT (cA J ((if bR t=13 then .mk 11 (aA t)else aE t 0)::s,false)) (ee s)else aP 5)=(r,0):=E;split at U;rotate_left
 ·cases U
 rename_i LC;obtain⟨m1,m2⟩:=tG U;obtain⟨m3,m4⟩:=tH U;have hr:r=(s,false):=m4 rfl;subst hr;have M:∃k xs e,v = .mk k 0 0 [] xs [] []/\(∀x∈xs,Fit e x)/\(if bR t=13 then .mk 11 (aA t)else aE t 0)=e:=by
  obtain⟨T,ts⟩:=t;simp only[bR]at LC;have hz:=p.2;rcases LC with rfl|rfl
  ·obtain⟨K,rfl,L4⟩:=eV (cL Y.1) cc;obtain⟨l,rfl,yo,W,V⟩:=zA Y.2.1 Y.2.2;simp only[aM,aY,aU,aad]at hz;exact⟨10,l,K,rfl,fun x O=>⟨fo (pE Y.1 _ c9) ⟨(eY _ l).1 W x O,Ea V O⟩,Sv⟩,rfl⟩
  ·obtain⟨K,t2,rfl,L4,R9⟩:=eL (cL Y.1) cc;obtain⟨l,rfl,yo,W,VD,V⟩:=Cf Y.2.1 Y.2.2;simp only[aM,aY,aU,aad]at hz;exact⟨13,l,.mk 11 [K,t2],rfl,fun x O=>⟨fo (Nj Y.1) ⟨(eY _ l).1 W x O,Ea V O⟩,Sv⟩,rfl⟩
 obtain⟨k,xs,e0,rfl,I,he⟩:=M;rw[he]at m1 m2;have e:aH 60 [.mk 3 H q1 D J] ⟨a,b,c,d,.mk k 0 0 [] xs [] []::q,fr,g,u,m,said⟩=(0,v8 ⟨a,b,c,d,q,fr,g,u,m,said⟩ J 3 xs):=by unfold aH;rw[OS];rfl
 unfold bp;rw[e]
 refine⟨fz _ _ 2 N 60 Q _ [_] q _ cc (by rw[OS];rfl) (by show List.length (Vl.mk k 0 0 [] xs [] []::q)<=_;simp only[aac];omega) (HI ⟨a,b,c,d,q,fr,g,u,m,said⟩ N Q H q1 D J k 0 [] [] [] 0 xs cm P),
  .inr (.inl ⟨rfl,⟨J,J.length,3,xs⟩,s,rfl,g1,hq,fun h=>?_⟩)⟩
 refine⟨by show s.length+cI J<=340;omega,g1,aak _,s,false,by show cA (J.drop J.length) (s,false)=_;rw[vE];rfl,fun _ => .inr (.inr (.inr (.inl ⟨rfl,e0,I,by show s.length+1+cI J<=340;omega,⟨_,_,AP m1,fun hf=>?_⟩,h rfl⟩)))⟩;have:=m2 hf;rw[<- this]
theorem Nn (Q:List Ty×Bool) (S:bT) (N:Int) (V:List UInt8) (args:List Nd) (P:ji args) (B s:List Ty) (r:List Ty×Bool) (hf:bN 65 args=some B) (Y:dJ s S.st) (A:s.length+cI args<=339) (W:S.fr.length<=1099511627776) (E:cG 65 args (bf args) B s=(r,0)):bp N V 65 args S/\Comes Q S r (aH 65 args S):=by
 obtain⟨a,b,c,d,st,fr,g,u,m,said⟩:=S;obtain⟨T,q1,D,J,rfl,rfl⟩:=Nl hf cc;obtain⟨g1,O⟩:=Tz P;rw[O]at A;have M:=bH Y;simp only at Y M;cases s with
 | nil=>cases E
 | cons t s =>
 obtain⟨v,q,rfl,K,hq⟩:=bg Y;simp only[aac]at M A;have U:(if bR t=2 then(if(cT (cA J (s,false)) (ee (t::s))).2≠0 then aP (cT (cA J (s,false)) (ee (t::s))).2 else ee s)else aP 5)=(r,0):=E;split at U;rotate_left
 ·cases U
 rename_i H;split at U
 ·rename_i p;exact absurd (congrArg Prod.snd U) p
 rename_i p;simp only[ne_eq,Decidable.not_not]at p;cases U;obtain⟨G,I⟩:=tG (a:=cA J (s,false)) (b:=ee (t::s)) (r:=(cT (cA J (s,false)) (ee (t::s))).1) (by rw[<- p]);obtain⟨m3,C⟩:=tH (a:=cA J (s,false)) (b:=ee (t::s)) (r:=(cT (cA J (s,false)) (ee (t::s))).1) (by rw[<- p]);have hr:=C rfl;rw[hr]at I;have e:aH 65 [.mk 3 T q1 D J] ⟨a,b,c,d,v::q,fr,g,u,m,said⟩=(0,{v8 ⟨a,b,c,d,q,fr,g,u,m,said⟩ J 4 []with st:=v::q}):=by unfold aH;rw[OT];rfl
 unfold bp;rw[e]
 refine⟨fz _ _ 2 N 65 V _ [_] q _ cc (by rw[OT];rfl) nt (HJ ⟨a,b,c,d,q,fr,g,u,m,said⟩ N V T q1 D J v cm W),
  .inr (.inl ⟨rfl,⟨J,J.length,4,[]⟩,t::s,rfl,g1,⟨K,hq⟩,fun h=>?_⟩)⟩
 refine⟨by show(t::s).length+cI J<=340;simp only[aac];omega,g1,aak _,t::s,false,by show cA (J.drop J.length) (t::s,false)=_;rw[vE];rfl,fun _ => .inr (.inr (.inr (.inr ⟨rfl,t,s,rfl,H,by show s.length+cI J<=340;omega,⟨_,_,AP G,fun hf=>?_⟩,h rfl⟩)))⟩;have:=I hf;rw[<- this];rfl
theorem Qo (Q:List Ty×Bool) (S:bT) (N:Int) (V:List UInt8) (args:List Nd) (P:ji args) (B s:List Ty) (r:List Ty×Bool) (hf:bN 68 args=some B) (Y:dJ s S.st) (A:s.length+cI args<=339) (W:S.fr.length<=1099511627776) (E:cG 68 args (bf args) B s=(r,0)):bp N V 68 args S/\Comes Q S r (aH 68 args S):=by
 obtain⟨a,b,c,d,st,fr,g,u,m,said⟩:=S;obtain⟨T,q1,D,J,rfl,rfl⟩:=Nl hf cc;obtain⟨g1,O⟩:=Tz P;rw[O]at A;have M:=bH Y;simp only at Y M;cases s with
 | nil=>cases E
 | cons t s =>
 obtain⟨v,q,rfl,K,hq⟩:=bg Y;simp only[aac]at M A;have U:(if(cA J (s,false)).2≠0 then aP (cA J (s,false)).2 else if(cA J (s,false)).1.2=true then aP 1 else ee (t::(cA J (s,false)).1.1))=(r,0):=E;split at U
 ·rename_i p;exact absurd (congrArg Prod.snd U) p
 rename_i p;simp only[ne_eq,Decidable.not_not]at p;split at U
 ·cases U
 rename_i I;cases U;have e:aH 68 [.mk 3 T q1 D J] ⟨a,b,c,d,v::q,fr,g,u,m,said⟩=(0,cO ⟨a,b,c,d,q,fr,g,u,m,said⟩ J 1 [v]):=by unfold aH;rw[OW];rfl
 unfold bp;rw[e]
 refine⟨fz _ _ 2 N 68 V _ [_] q _ cc (by rw[OW];rfl) nt (Ki ⟨a,b,c,d,q,fr,g,u,m,said⟩ N V T q1 D J v cm W),
  .inr (.inl ⟨rfl,⟨J,0,1,[v]⟩,s,rfl,g1,hq,fun h=>?_⟩)⟩
 exact⟨by show s.length+cI J<=340;omega,g1,Nat.zero_le _,_,_,AP p,fun _ => .inr (.inl ⟨rfl,aak _,[t],⟨K,trivial⟩,h rfl⟩)⟩
theorem No (D:List Ty×Bool) (S:bT) (N:Int) (V:List UInt8) (args:List Nd) (B s:List Ty) (r:List Ty×Bool) (hf:bN 67 args=some B) (W:dJ s S.st) (A:s.length+cI args<=339) (Q:S.fr.length<=1099511627776) (E:cG 67 args (bf args) B s=(r,0)):bp N V 67 args S/\Comes D S r (aH 67 args S):=by
 obtain⟨a,b,c,d,st,fr,g,u,m,said⟩:=S;obtain⟨rfl,rfl⟩:=cE hf cc;have I:=bH W;simp only at W I;rcases s with _|⟨O,_|⟨U,s⟩⟩
 ·cases E
 ·cases E
 obtain⟨v,q0,rfl,C,p⟩:=bg W;obtain⟨w,q,rfl,hw,hq⟩:=bg p;have P:=cQ hw.1;simp only[aac]at I A;have K:(if bR U=14/\cP O (aE U 0)=true then ee (aE U 1::s)else aP 5)=(r,0):=E;split at K;rotate_left
 ·cases K
 rename_i c1;obtain⟨T,ts⟩:=U;obtain⟨Y,c2⟩:=c1;simp only[bR]at Y;subst Y;obtain⟨t,G,rfl,L4,R9⟩:=eL (cL P.1) cc;cases K;have et:O=t:=(gh _ _).1 c2;subst et;obtain⟨H,rfl,M,Uw,J,hmt⟩:=VG P.2.1 P.2.2;have hmc:=l9 M;have e:aH 67 [] ⟨a,b,c,d,v :: .mk 14 0 0 [] [] [O,G] H::q,fr,g,u,m,said⟩=(0,{cO ⟨a,b,c,d,q,fr,g,u,m,said⟩ H 2 q.reverse with st:=[v]}):=by unfold aH;rw[OV];rfl
 unfold bp;rw[e]
 refine⟨fz _ _ 2 N 67 V _ [_,_] q _ cc (by rw[OV];rfl) (by show List.length (v::Vl.mk 14 0 0 [] [] [O,G] H::q)<=_;simp only[aac];omega) (HK ⟨a,b,c,d,q,fr,g,u,m,said⟩ N V v 14 0 [] [O,G] H 0 [] cm Q),
  .inr (.inl ⟨rfl,⟨H,0,2,q.reverse⟩,[O],rfl,M,⟨C,trivial⟩,fun h=>?_⟩)⟩
 refine⟨by show List.length [O]+cI H<=340;simp only[aac,aad];omega,M,Nat.zero_le _,_,_,AP Uw,fun hf => .inr (.inr (.inl ⟨rfl,by show q.reverse.length<=340;rw[aaH];omega,G,s,J hf,by show dJ s q.reverse.reverse;rw[List.reverse_reverse];exact hq,h rfl⟩))⟩
theorem Ie (O:List Ty×Bool) (S:bT) (N:Int) (V:List UInt8) (args:List Nd) (Q:ji args) (B s:List Ty) (r:List Ty×Bool) (hf:bN 66 args=some B) (Y:dJ s S.st) (hl:s.length+cI args<=339) (W:S.fr.length<=1099511627776) (E:r.1.all bw=true) (K:cG 66 args (bf args) B s=(r,0)):bp N V 66 args S/\Comes O S r (aH 66 args S):=by
 obtain⟨a,b,c,d,q,fr,g,u,m,said⟩:=S;have M:=ya Q;obtain⟨x,y,T,q1,D,J,rfl,hx,hy,rfl⟩:=Tx hf cc;obtain⟨g1,gz⟩:=pF Q (show Nd.mk 3 T q1 D J∈_ from List.mem_cons_of_mem _ (List.mem_cons_of_mem _ (List.mem_cons_self ..)));have H:=bH Y;simp only at Y H;have U:(if jt J=true then aP 5 else if(cT (cA J ([(aZ x).1],false)) (ee [(aZ y).1])).2≠0 then aP (cT (cA J ([(aZ x).1],false)) (ee [(aZ y).1])).2 else ee (.mk 14 [(aZ x).1,(aZ y).1]::s))=(r,0):=by
  obtain⟨kx,nx,px,G,ax⟩:=x;obtain⟨ky,ny,py,C,ay⟩:=y;exact K
 split at U
 ·cases U
 rename_i A;split at U
 ·rename_i p;exact absurd (congrArg Prod.snd U) p
 rename_i p;simp only[ne_eq,Decidable.not_not]at p;cases U;obtain⟨P,I⟩:=tG (a:=cA J ([(aZ x).1],false)) (b:=ee [(aZ y).1]) (r:=(cT (cA J ([(aZ x).1],false)) (ee [(aZ y).1])).1) (by rw[<- p]);obtain⟨m3,m4⟩:=tH (a:=cA J ([(aZ x).1],false)) (b:=ee [(aZ y).1]) (r:=(cT (cA J ([(aZ x).1],false)) (ee [(aZ y).1])).1) (by rw[<- p]);have hr:=m4 rfl;rw[hr]at I;simp only[aU,b8]at M;have s1:=DR x bn;have s2:=DR y bn;have G:bA (aZ x).1<=1000000:=by
  rcases uX x with ⟨t,h1,_,_,h4⟩|h1
  ·grind
  ·rw[h1];decide
 have C:bA (aZ y).1<=1000000:=by
  rcases uX y with ⟨t,h1,_,_,h4⟩|h1
  ·grind
  ·rw[h1];decide
 have gx:bw (aZ x).1=true:=pE (bG E) _ c9;have e:aH 66 [x,y,.mk 3 T q1 D J] ⟨a,b,c,d,q,fr,g,u,m,said⟩=bl ⟨a,b,c,d,q,fr,g,u,m,said⟩ [.mk 14 0 0 [] [] [(aZ x).1,(aZ y).1] J]:=by unfold aH;rw[OU];rfl
 have hv:bK (.mk 14 0 0 [] [] [(aZ x).1,(aZ y).1] J) (.mk 14 [(aZ x).1,(aZ y).1])=true/\eJ (.mk 14 0 0 [] [] [(aZ x).1,(aZ y).1] J)=true:=by
  constructor
  ·unfold bK;simp[cw,bR,aE,aA,(gh _ _).2 rfl]
  ·rw[Eb 14 0 0 [] [] _ _ J rfl];rw[N3 g1 rfl,if_neg c9,if_pos (by simp[gx])];simp only[cF,aai,aat,decide_eq_true_eq,Bool.not_eq_true'];refine⟨⟨by first|exact P|exact aam P,?_⟩,by simpa using A⟩;cases hb:(cA J ([(aZ x).1],false)).1.2 with
   | true=>exact .inl rfl
   | false =>
    right;rw[<- I hb];exact(mA _ _).2 rfl
 unfold bp;rw[e]
 exact⟨fz _ _ 2 N 66 V _ [] q _ cc (by rw[OU];rfl) cm (DT ⟨a,b,c,d,q,fr,g,u,m,said⟩ N V x y T q1 D J bn bn (by simp only[aM,aJ,aY,aad];omega) cm W),
  .inl (b9 (S:=⟨a,b,c,d,q,fr,g,u,m,said⟩) (fo (bG E) hv) Y)⟩
end Go.Proofs
namespace Go.Proofs
open Go.cq
theorem Np (J:List Ty×Bool) (P:Int) (S:bT) (u:nD S.self S.gO S.gP S.balance=true) (hm:0<=S.bE/\S.bE<=bP) (N:Int) (V:List UInt8) (args:List Nd) (W:ji args) (B s:List Ty) (r:List Ty×Bool) (hf:bN P args=some B) (G:dJ s S.st) (A:s.length+cI args<=339) (Y:S.fr.length<=1099511627776) (T:r.1.all bw=true) (E:mE P args (bf args) B s=(r,0)):bp N V P args S/\Comes J S r (aH P args S):=by
 have I:aU args<=8589934593:=Nat.le_trans (ya W) bn;have U:s.length<=340:=by omega
 have hP:¬P<40:=by
  intro h;unfold bN at hf;rw[if_pos (.inl h)]at hf;cases hf
 have st:∀{p q:Prop},bp N V P args S/\bQ S r (aH P args S)->bp N V P args S/\Comes J S r (aH P args S):=fun h=>⟨h.1,.inl h.2⟩
 unfold mE at E;by_cases O:P<=44
 ·rw[if_pos O]at E;exact st (p:=True) (q:=True) (Nq P bn S N V args B s r hf G U E)
 rw[if_neg O]at E;by_cases D:P=45
 ·rw[if_pos D]at E;subst D;exact st (p:=True) (q:=True) (Nr S N V args I B s r hf G U T E)
 rw[if_neg D]at E;by_cases H:P<=58
 ·rw[if_pos H]at E;by_cases Q:P=52
  ·subst Q;exact Ia J S N V args W B s r hf G A Y E
  by_cases d2:P=55
  ·subst d2;exact Ib J S N V args W B s r hf G A Y E
  by_cases d3:P=58
  ·subst d3;exact Ic J S N V args W B s r hf G A Y E
  exact st (p:=True) (q:=True) (Fb P bn S N V args I (bf args) B s r hf G U T E)
 rw[if_neg H]at E;by_cases c4:P<=63
 ·rw[if_pos c4]at E;by_cases Q:P=60
  ·subst Q;exact Nm J S N V args W B s r hf G A Y E
  exact st (p:=True) (q:=True) (KN P bn S N V args I (bf args) B s r hf G U T E)
 rw[if_neg c4]at E;by_cases M:P<=68
 ·rw[if_pos M]at E;rcases(show P=64\/P=65\/P=66\/P=67\/P=68 by omega)with rfl|rfl|rfl|rfl|rfl
  ·exact TA J S N V args W B s r hf G A Y E
  ·exact Nn J S N V args W B s r hf G A Y E
  ·exact Ie J S N V args W B s r hf G A Y T E
  ·exact No J S N V args B s r hf G A Y E
  ·exact Qo J S N V args W B s r hf G A Y E
 rw[if_neg M]at E;by_cases C:P<=72\/P>=93
 ·rw[if_pos C]at E;have:P<=95:=by
   apply Decidable.byContradiction;intro h;unfold bS at E;rw[if_neg bn,if_neg bn,if_neg bn,if_pos bn]at E;cases E
  exact st (p:=True) (q:=True) (Fa P bn S N V args I (bf args) B s r hf G U T E)
 rw[if_neg C]at E;by_cases K:P<=83
 ·rw[if_pos K]at E;by_cases Q:P=83
  ·subst Q;have h:=Ns S N V args B s r hf G U E;exact⟨h.1,.inr (.inr h.2)⟩
  exact st (p:=True) (q:=True) (Nb P bn S N V args I (bf args) B s r hf G U T E)
 rw[if_neg K]at E;exact st (p:=True) (q:=True) (KL P bn S u hm N V args I (bf args) B s r hf G U T E)
def Bx (S S':bT):Prop:=S'.self=S.self/\S'.gO=S.gO/\S'.gP=S.gP/\S'.balance=S.balance/\S'.gX=S.gX/\S'.used=S.used
theorem Nt (S:bT) (l:List Vl):Bx S (bl S l).2/\(bl S l).2.bE=S.bE:=⟨⟨rfl,rfl,rfl,rfl,rfl,rfl⟩,rfl⟩
theorem Ec {c:Prop} [Decidable c] {Q:MR->Prop} {a b:MR} (h1:Q a) (h2:Q b):Q (if c then a else b):=by grind
def KM (S:bT) (o:MR):Prop:=Bx S o.2/\o.2.bE=S.bE
theorem vF (S:bT) (l:List Vl):KM S (bl S l):=Nt S l
theorem vG (S S':bT) (e:Int) (h:Bx S S'/\S'.bE=S.bE):KM S (e,S'):=h
theorem TC (P:Int) (args:List Nd) (l:List Vl) (S:bT):KM S (FG P args l S):=by
 unfold FG
 repeat' (first|exact vF _ _|exact vG _ _ _ ⟨⟨rfl,rfl,rfl,rfl,rfl,rfl⟩,rfl⟩|refine Ec ?_ ?_)
theorem Qp (P:Int) (args:List Nd) (l:List Vl) (S:bT):KM S (Ad P args l S):=by
 unfold Ad
 repeat' (first|exact vF _ _|exact vG _ _ _ ⟨⟨rfl,rfl,rfl,rfl,rfl,rfl⟩,rfl⟩|refine Ec ?_ ?_)
theorem KS (P:Int) (args:List Nd) (l:List Vl) (S:bT):KM S (r8 P args l S):=by
 unfold r8;have h1:∀(c:List Nd) (f:Int) (a:List Vl) (q:List Vl),KM S (bl (cO S c f a) q):=fun c f a q=>⟨⟨rfl,rfl,rfl,rfl,rfl,rfl⟩,rfl⟩
 cases eC (lV l 0)<;>dsimp only <;>
 repeat' (first|exact h1 _ _ _ _|exact vF _ _|exact vG _ _ _ ⟨⟨rfl,rfl,rfl,rfl,rfl,rfl⟩,rfl⟩|refine Ec ?_ ?_)
theorem Qq (P:Int) (args:List Nd) (l:List Vl) (S:bT):KM S (Ae P args l S):=by
 unfold Ae;cases eC (lV l 1)<;>dsimp only <;>
 repeat' (first|exact vF _ _|exact vG _ _ _ ⟨⟨rfl,rfl,rfl,rfl,rfl,rfl⟩,rfl⟩|refine Ec ?_ ?_)
theorem Nu (P:Int) (l:List Vl) (S:bT):KM S (v9 P l S):=by
 unfold v9;dsimp only
 repeat' (first|exact vF _ _|exact vG _ _ _ ⟨⟨rfl,rfl,rfl,rfl,rfl,rfl⟩,rfl⟩|refine Ec ?_ ?_)
theorem TD (P:Int) (args:List Nd) (l:List Vl) (S:bT):KM S (FH P args l S):=by
 unfold FH;dsimp only
 repeat' (first|exact vF _ _|exact vG _ _ _ ⟨⟨rfl,rfl,rfl,rfl,rfl,rfl⟩,rfl⟩|refine Ec ?_ ?_)
theorem Qr (P:Int) (args:List Nd) (l:List Vl) (S:bT):Bx S (uN P args l S).2/\((uN P args l S).2.bE=S.bE\/P=84/\S.bE<=bP-vN (lV l 1)/\(uN P args l S).2.bE=S.bE+vN (lV l 1)):=by
 have U:∀{o:MR},KM S o->Bx S o.2/\(o.2.bE=S.bE\/P=84/\S.bE<=bP-vN (lV l 1)/\o.2.bE=S.bE+vN (lV l 1)):=fun h=>⟨h.1,.inl h.2⟩
 unfold uN;dsimp only;by_cases c:P=84
 ·subst c;rw[if_neg cc,if_neg cc,if_neg cc,if_neg cc,if_pos rfl];by_cases q:vN (lV l 1)=0
  ·rw[if_pos q];exact U (vF _ _)
  rw[if_neg q];by_cases J:S.bE>bP-vN (lV l 1)
  ·rw[if_pos J];exact U (vG _ _ _ ⟨⟨rfl,rfl,rfl,rfl,rfl,rfl⟩,rfl⟩)
  rw[if_neg J];exact⟨⟨rfl,rfl,rfl,rfl,rfl,rfl⟩,.inr ⟨rfl,bn,rfl⟩⟩
 ·rw[if_neg (c:=P=84) c];refine U ?_
  repeat' (first|exact vF _ _|exact vG _ _ _ ⟨⟨rfl,rfl,rfl,rfl,rfl,rfl⟩,rfl⟩|refine Ec ?_ ?_)
theorem Gk (P:Int) (args:List Nd) (l:List Vl) (S:bT):Bx S (iR P args l S).2/\((iR P args l S).2.bE=S.bE\/P=84/\S.bE<=bP-vN (lV l 1)/\(iR P args l S).2.bE=S.bE+vN (lV l 1)):=by
 have U:∀{o:MR},KM S o->Bx S o.2/\(o.2.bE=S.bE\/P=84/\S.bE<=bP-vN (lV l 1)/\o.2.bE=S.bE+vN (lV l 1)):=fun h=>⟨h.1,.inl h.2⟩
 unfold iR;by_cases q:P<=44
 ·rw[if_pos q];exact U (TC ..)
 rw[if_neg q];by_cases J:P<=56/\P≠52/\P≠55
 ·rw[if_pos J];exact U (Qp ..)
 rw[if_neg J];by_cases H:P=52\/P=55\/P=58\/P=60\/64<=P/\P<=68
 ·rw[if_pos H];exact U (KS ..)
 rw[if_neg H];by_cases c4:P<=63
 ·rw[if_pos c4];exact U (Qq ..)
 rw[if_neg c4];by_cases p:P<=72\/P>=93
 ·rw[if_pos p];exact U (Nu ..)
 rw[if_neg p];by_cases C:P<=83
 ·rw[if_pos C];exact U (TD ..)
 rw[if_neg C];exact Qr ..
theorem TE (P:Int) (args:List Nd) (S:bT) (B s:List Ty) (r:List Ty×Bool) (Y:0<=S.bE/\S.bE<=bP) (G:dJ s S.st) (hf:bN P args=some B) (E:mE P args (bf args) B s=(r,0)):Bx S (aH P args S).2/\0<=(aH P args S).2.bE/\(aH P args S).2.bE<=bP/\S.bE<=(aH P args S).2.bE:=by
 unfold aH;cases M:gb (bO P) S.st with
 | none=>exact⟨⟨rfl,rfl,rfl,rfl,rfl,rfl⟩,Y.1,Y.2,Int.le_refl _⟩
 | some V =>
  obtain⟨l,q⟩:=V;obtain⟨h1,h2⟩:=Gk P args l {S with st:=q};refine⟨h1,?_⟩;simp only at h2 ⊢;rcases h2 with h2|⟨rfl,h2,Q⟩
  ·omega
  ·rw[Q];have W:0<=vN (lV l 1):=by
    rw[HL]at M;have U:bY 84 B s=(r,0):=E;rcases s with _|⟨O,_|⟨N,s⟩⟩
    ·cases U
    ·cases U
    obtain⟨v,u,C,hv,K⟩:=bg G;obtain⟨w,q1,rfl,I,hq⟩:=bg K;rw[C]at M;have H:l=[v,w]:=by
     have p:some ([v,w],q1)=some (l,q):=M;cases p;rfl
    subst H;have J:(if bR N=4/\fC O=true then ee (.mk 9 [.mk 15 [O]]::s)else aP 5)=(r,0):=U;split at J
    ·rename_i c4;have D:=cQ I.1;obtain⟨T,ts⟩:=N;have:T=4:=c4.1;subst this;obtain⟨n,rfl,W⟩:=fD (.inr (.inr (.inl rfl))) D.2.1;have A:=(MY W).2.2.1 rfl;show 0<=n;exact A.1
    ·cases J
   omega
end Go.Proofs
