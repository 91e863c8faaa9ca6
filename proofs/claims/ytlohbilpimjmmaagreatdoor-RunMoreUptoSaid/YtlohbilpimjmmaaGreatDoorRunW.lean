/- Package run: typed steps of class reckon. -/
import Derived.Test.YtlohbilpimjmmaaGreatDoorRunV
set_option linter.unusedVariables false
set_option linter.unusedSimpArgs false
namespace Go.Proofs
open Go.cq
theorem Cm:bO 69=2:=by decide +kernel
theorem qS:bO 70=2:=by decide +kernel
theorem Cn:bO 71=2:=by decide +kernel
theorem j8:bO 72=2:=by decide +kernel
theorem Pg:bO 93=1:=by decide +kernel
theorem Co:bO 94=1:=by decide +kernel
theorem Ph:bO 95=1:=by decide +kernel
theorem gL {n:Int}:uh n=true ↔ -bP<=n/\n<=bP:=by
 unfold uh bP;simp;try omega
theorem jD {T n:Int} {ts:List Ty} (E:T=3\/T=4\/T=5) (h:bK (aO T n) (.mk T ts)=true):(-bP<=n/\n<=bP)/\(T≠3->0<=n):=by
 obtain⟨_,V,Y,p,_⟩:=MY h;rcases E with rfl|rfl|rfl
 ·omega
 ·omega
 ·omega
theorem iT {T n:Int} (E:T=3\/T=4\/T=5) (h : -bP<=n/\n<=bP) (U:T≠3->0<=n):bK (aO T n) (.mk T [])=true/\eJ (aO T n)=true:=by
 rcases E with rfl|rfl|rfl
 ·exact mX (.inr (.inl ⟨rfl,h⟩))
 ·exact mX (.inr (.inr (.inl ⟨rfl,U cc,h.2⟩)))
 ·exact mX (.inr (.inr (.inr (.inl ⟨rfl,U cc,h.2⟩))))
theorem Cp {P a b:Int} (h:¬nk P a b=0):(a=5/\b=5/\(P=69\/P=70\/P=72))\/(P=71/\(a=5/\b=4\/a=4/\b=5))\/(P=72/\a=5/\b=4)\/((a=3\/a=4)/\(b=3\/b=4)):=by
 unfold nk at h;by_cases q:a=5/\b=5/\(P=69\/P=70\/P=72)
 ·exact .inl q
 rw[if_neg q]at h;by_cases J:P=71/\(a=5/\b=4\/a=4/\b=5)
 ·exact .inr (.inl J)
 rw[if_neg J]at h;by_cases H:P=72/\a=5/\b=4
 ·exact .inr (.inr (.inl H))
 rw[if_neg H]at h;by_cases c4:(a=3\/a=4)/\(b=3\/b=4)
 ·exact .inr (.inr (.inr c4))
 ·rw[if_neg c4]at h;exact absurd rfl h
theorem K6 (P a b:Int) (C:P=69\/P=71) (h:¬nk P a b=0):ofM P a b=nk P a b/\(nk P a b=3\/nk P a b=4\/nk P a b=5)/\(a=3\/a=4\/a=5)/\(b=3\/b=4\/b=5)/\(nk P a b≠3->a≠3/\b≠3):=by
 rcases Cp h with ⟨rfl,rfl,h1⟩|⟨h1,⟨rfl,rfl⟩|⟨rfl,rfl⟩⟩|⟨h1,rfl,rfl⟩|⟨rfl|rfl,rfl|rfl⟩<;>rcases C with rfl|rfl<;>first|decide|omega
theorem Qb (S:bT) (N:Int) (V:List UInt8) (args:List Nd) (B s:List Ty) (r:List Ty×Bool) (hf:bN 69 args=some B) (G:dJ s S.st) (A:s.length<=340) (H:r.1.all bw=true) (E:bS 69 s=(r,0)):bp N V 69 args S/\bQ S r (aH 69 args S):=by
 obtain⟨a,b,c,d,st,fr,g,u,m,said⟩:=S;obtain⟨rfl,rfl⟩:=cE hf cc;have J:=bH G;simp only at G J;rcases s with _|⟨C,_|⟨p,s⟩⟩
 ·cases E
 ·cases E
 obtain⟨v,q0,rfl,hv,rK⟩:=bg G;obtain⟨w,q,rfl,hw,hq⟩:=bg rK;have f1:=cQ hv.1;have f2:=cQ hw.1;obtain⟨T,F4⟩:=C;obtain⟨P,Cb⟩:=p;have U:(if nk 69 T P=0 then aP 5 else ee (.mk (nk 69 T P) []::s))=(r,0):=E;split at U
 ·cases U
 rename_i c1;cases U;have D:=K6 69 T P cc c1;obtain⟨K,rfl,g1⟩:=fD (by have:=D.2.2.1;omega) f1.2.1;obtain⟨Y,rfl,g2⟩:=fD (by have:=D.2.2.2.1;omega) f2.2.1;have Q:=jD D.2.2.1 g1;have M:=jD D.2.2.2.1 g2;simp only[aac]at J A;unfold bp;by_cases O:uh (K+Y)=true
 ·have W:s8 K Y=(K+Y,0):=by unfold s8;rw[if_pos ⟨gL.2 Q.1,gL.2 M.1⟩];unfold lH;rw[if_pos O]
  have e:aH 69 [] ⟨a,b,c,d,aO T K::aO P Y::q,fr,g,u,m,said⟩=bl ⟨a,b,c,d,q,fr,g,u,m,said⟩ [aO (ofM 69 T P) (K+Y)]:=by
   unfold aH;rw[Cm];show(if(s8 K Y).2≠0 then(((s8 K Y).2,⟨a,b,c,d,q,fr,g,u,m,said⟩):MR)else bl ⟨a,b,c,d,q,fr,g,u,m,said⟩ [aO (ofM 69 T P) (s8 K Y).1])=_;rw[W];rfl
  rw[e]
  exact⟨dQ _ _ 2 N 69 V _ [aO T K,aO P Y] q _ cc (by rw[Cm];rfl) fk (E2 ⟨a,b,c,d,q,fr,g,u,m,said⟩ T K 0 [] [] [] [] P Y 0 [] [] [] [] (K+Y) W cm),
   b9 (S:=⟨a,b,c,d,q,fr,g,u,m,said⟩) (fo (bG H) (by rw[D.1];exact iT D.2.1 (gL.1 O) (fun I=>by have:=D.2.2.2.2 I;have:=Q.2 this.1;have:=M.2 (D.2.2.2.2 I).2;omega))) hq⟩
 ·have W:s8 K Y=(0,11):=by unfold s8;rw[if_pos ⟨gL.2 Q.1,gL.2 M.1⟩];unfold lH;rw[if_neg O]
  have e:aH 69 [] ⟨a,b,c,d,aO T K::aO P Y::q,fr,g,u,m,said⟩=(11,⟨a,b,c,d,q,fr,g,u,m,said⟩):=by
   unfold aH;rw[Cm];show(if(s8 K Y).2≠0 then(((s8 K Y).2,⟨a,b,c,d,q,fr,g,u,m,said⟩):MR)else bl ⟨a,b,c,d,q,fr,g,u,m,said⟩ [aO (ofM 69 T P) (s8 K Y).1])=_;rw[W];rfl
  rw[e];exact⟨dQ _ _ 2 N 69 V _ [aO T K,aO P Y] q _ cc (by rw[Cm];rfl) fk (DV ⟨a,b,c,d,q,fr,g,u,m,said⟩ T K 0 [] [] [] [] P Y 0 [] [] [] [] 0 11 cc W cm),.inr (.inl rfl)⟩
theorem Qd (S:bT) (N:Int) (V:List UInt8) (args:List Nd) (B s:List Ty) (r:List Ty×Bool) (hf:bN 71 args=some B) (G:dJ s S.st) (A:s.length<=340) (H:r.1.all bw=true) (E:bS 71 s=(r,0)):bp N V 71 args S/\bQ S r (aH 71 args S):=by
 obtain⟨a,b,c,d,st,fr,g,u,m,said⟩:=S;obtain⟨rfl,rfl⟩:=cE hf cc;have J:=bH G;simp only at G J;rcases s with _|⟨C,_|⟨p,s⟩⟩
 ·cases E
 ·cases E
 obtain⟨v,q0,rfl,hv,rK⟩:=bg G;obtain⟨w,q,rfl,hw,hq⟩:=bg rK;have f1:=cQ hv.1;have f2:=cQ hw.1;obtain⟨T,F4⟩:=C;obtain⟨P,Cb⟩:=p;have U:(if nk 71 T P=0 then aP 5 else ee (.mk (nk 71 T P) []::s))=(r,0):=E;split at U
 ·cases U
 rename_i c1;cases U;have D:=K6 71 T P cc c1;obtain⟨K,rfl,g1⟩:=fD (by have:=D.2.2.1;omega) f1.2.1;obtain⟨Y,rfl,g2⟩:=fD (by have:=D.2.2.2.1;omega) f2.2.1;have Q:=jD D.2.2.1 g1;have M:=jD D.2.2.2.1 g2;simp only[aac]at J A;unfold bp;by_cases O:uh (K*Y)=true
 ·have W:q8 K Y=(K*Y,0):=by unfold q8;rw[if_pos ⟨gL.2 Q.1,gL.2 M.1⟩];unfold lH;rw[if_pos O]
  have e:aH 71 [] ⟨a,b,c,d,aO T K::aO P Y::q,fr,g,u,m,said⟩=bl ⟨a,b,c,d,q,fr,g,u,m,said⟩ [aO (ofM 71 T P) (K*Y)]:=by
   unfold aH;rw[Cn];show(if(q8 K Y).2≠0 then(((q8 K Y).2,⟨a,b,c,d,q,fr,g,u,m,said⟩):MR)else bl ⟨a,b,c,d,q,fr,g,u,m,said⟩ [aO (ofM 71 T P) (q8 K Y).1])=_;rw[W];rfl
  rw[e]
  exact⟨dQ _ _ 2 N 71 V _ [aO T K,aO P Y] q _ cc (by rw[Cn];rfl) fk (E3 ⟨a,b,c,d,q,fr,g,u,m,said⟩ T K 0 [] [] [] [] P Y 0 [] [] [] [] (K*Y) W cm),
   b9 (S:=⟨a,b,c,d,q,fr,g,u,m,said⟩) (fo (bG H) (by rw[D.1];exact iT D.2.1 (gL.1 O) (fun I=>Int.mul_nonneg (Q.2 (D.2.2.2.2 I).1) (M.2 (D.2.2.2.2 I).2)))) hq⟩
 ·have W:q8 K Y=(0,11):=by unfold q8;rw[if_pos ⟨gL.2 Q.1,gL.2 M.1⟩];unfold lH;rw[if_neg O]
  have e:aH 71 [] ⟨a,b,c,d,aO T K::aO P Y::q,fr,g,u,m,said⟩=(11,⟨a,b,c,d,q,fr,g,u,m,said⟩):=by
   unfold aH;rw[Cn];show(if(q8 K Y).2≠0 then(((q8 K Y).2,⟨a,b,c,d,q,fr,g,u,m,said⟩):MR)else bl ⟨a,b,c,d,q,fr,g,u,m,said⟩ [aO (ofM 71 T P) (q8 K Y).1])=_;rw[W];rfl
  rw[e];exact⟨dQ _ _ 2 N 71 V _ [aO T K,aO P Y] q _ cc (by rw[Cn];rfl) fk (DW ⟨a,b,c,d,q,fr,g,u,m,said⟩ T K 0 [] [] [] [] P Y 0 [] [] [] [] 0 11 cc W cm),.inr (.inl rfl)⟩
theorem Qf (S:bT) (N:Int) (V:List UInt8) (args:List Nd) (B s:List Ty) (r:List Ty×Bool) (hf:bN 93 args=some B) (Y:dJ s S.st) (A:s.length<=340) (Q:r.1.all bw=true) (E:bS 93 s=(r,0)):bp N V 93 args S/\bQ S r (aH 93 args S):=by
 obtain⟨a,b,c,d,st,fr,g,u,m,said⟩:=S;obtain⟨rfl,rfl⟩:=cE hf cc;have M:=bH Y;simp only at Y M;cases s with
 | nil=>cases E
 | cons t s =>
 obtain⟨v,q,rfl,P,hq⟩:=bg Y;have O:=cQ P.1;obtain⟨T,ts⟩:=t;simp only[aac]at M A;have U:(if T=3 then ee (.mk 4 []::s)else aP 5)=(r,0):=E;split at U;rotate_left
 ·cases U
 rename_i J;subst J;cases U;obtain⟨n,rfl,g1⟩:=fD cc O.2.1;have D:=jD cc g1;unfold bp;have W:nq n=(if n<0 then -n else n,0):=by unfold nq;rw[if_pos (gL.2 D.1)]
 have e:aH 93 [] ⟨a,b,c,d,aO 3 n::q,fr,g,u,m,said⟩=bl ⟨a,b,c,d,q,fr,g,u,m,said⟩ [aO 4 (nq n).1]:=by unfold aH;rw[Pg];rfl
 rw[e];exact⟨dQ _ _ 2 N 93 V _ [aO 3 n] q _ cc (by rw[Pg];rfl) jb (MQ ⟨a,b,c,d,q,fr,g,u,m,said⟩ 3 n 0 [] [] [] [] cm),b9 (S:=⟨a,b,c,d,q,fr,g,u,m,said⟩) (fo (bG Q) (iT cc (by rw[W];have:=D.1;show _<=(if n<0 then -n else n)/\(if n<0 then -n else n)<=_;split<;>constructor<;>(unfold bP at *;omega)) (fun _=>by rw[W];show 0<=(if n<0 then -n else n);split<;>omega))) hq⟩
theorem Qg (S:bT) (N:Int) (V:List UInt8) (args:List Nd) (B s:List Ty) (r:List Ty×Bool) (hf:bN 94 args=some B) (Y:dJ s S.st) (A:s.length<=340) (E:r.1.all bw=true) (W:bS 94 s=(r,0)):bp N V 94 args S/\bQ S r (aH 94 args S):=by
 obtain⟨a,b,c,d,st,fr,g,u,m,said⟩:=S;obtain⟨rfl,rfl⟩:=cE hf cc;have M:=bH Y;simp only at Y M;cases s with
 | nil=>cases W
 | cons t s =>
 obtain⟨v,q,rfl,Q,hq⟩:=bg Y;have P:=cQ Q.1;obtain⟨T,ts⟩:=t;simp only[aac]at M A;have K:(if T=3 then ee (.mk 9 [.mk 4 []]::s)else aP 5)=(r,0):=W;split at K;rotate_left
 ·cases K
 rename_i J;subst J;cases K;obtain⟨n,rfl,g1⟩:=fD cc P.2.1;have D:=jD cc g1;unfold bp;by_cases U:n<0
 ·have e:aH 94 [] ⟨a,b,c,d,aO 3 n::q,fr,g,u,m,said⟩=bl ⟨a,b,c,d,q,fr,g,u,m,said⟩ [cB []]:=by
   unfold aH;rw[Co];show(if n<0 then bl ⟨a,b,c,d,q,fr,g,u,m,said⟩ [cB []]else bl ⟨a,b,c,d,q,fr,g,u,m,said⟩ [cB [aO 4 n]])=_;rw[if_pos U]
  rw[e];exact⟨dQ _ _ 2 N 94 V _ [aO 3 n] q _ cc (by rw[Co];rfl) jb (Kk ⟨a,b,c,d,q,fr,g,u,m,said⟩ 3 n 0 [] [] [] [] U cm),b9 (S:=⟨a,b,c,d,q,fr,g,u,m,said⟩) (fo (bG E) mY) hq⟩
 ·have e:aH 94 [] ⟨a,b,c,d,aO 3 n::q,fr,g,u,m,said⟩=bl ⟨a,b,c,d,q,fr,g,u,m,said⟩ [cB [aO 4 n]]:=by
   unfold aH;rw[Co];show(if n<0 then bl ⟨a,b,c,d,q,fr,g,u,m,said⟩ [cB []]else bl ⟨a,b,c,d,q,fr,g,u,m,said⟩ [cB [aO 4 n]])=_;rw[if_neg U]
  rw[e];exact⟨dQ _ _ 2 N 94 V _ [aO 3 n] q _ cc (by rw[Co];rfl) jb (Kl ⟨a,b,c,d,q,fr,g,u,m,said⟩ 3 n 0 [] [] [] [] U cm),b9 (S:=⟨a,b,c,d,q,fr,g,u,m,said⟩) (fo (bG E) (iM (iT cc D.1 (fun _=>by omega)))) hq⟩
theorem Qh (S:bT) (N:Int) (V:List UInt8) (args:List Nd) (B s:List Ty) (r:List Ty×Bool) (hf:bN 95 args=some B) (Y:dJ s S.st) (A:s.length<=340) (W:r.1.all bw=true) (E:bS 95 s=(r,0)):bp N V 95 args S/\bQ S r (aH 95 args S):=by
 obtain⟨a,b,c,d,st,fr,g,u,m,said⟩:=S;obtain⟨rfl,rfl⟩:=cE hf cc;have M:=bH Y;simp only at Y M;cases s with
 | nil=>cases E
 | cons t s =>
 obtain⟨v,q,rfl,Q,hq⟩:=bg Y;have P:=cQ Q.1;obtain⟨T,ts⟩:=t;simp only[aac]at M A;have U:(if T=4 then ee (.mk 3 []::s)else aP 5)=(r,0):=E;split at U;rotate_left
 ·cases U
 rename_i J;subst J;cases U;obtain⟨n,rfl,g1⟩:=fD cc P.2.1;have D:=jD cc g1;unfold bp;have e:aH 95 [] ⟨a,b,c,d,aO 4 n::q,fr,g,u,m,said⟩=bl ⟨a,b,c,d,q,fr,g,u,m,said⟩ [aO 3 n]:=by unfold aH;rw[Ph];rfl
 rw[e];exact⟨dQ _ _ 2 N 95 V _ [aO 4 n] q _ cc (by rw[Ph];rfl) (by show List.length (aO 4 n::q)<=_;simp only[aac];omega) (MS ⟨a,b,c,d,q,fr,g,u,m,said⟩ 4 n 0 [] [] [] [] cm),b9 (S:=⟨a,b,c,d,q,fr,g,u,m,said⟩) (fo (bG W) (iT cc D.1 (fun h=>absurd rfl h))) hq⟩
theorem Qc (S:bT) (N:Int) (V:List UInt8) (args:List Nd) (B s:List Ty) (r:List Ty×Bool) (hf:bN 70 args=some B) (G:dJ s S.st) (A:s.length<=340) (E:r.1.all bw=true) (M:bS 70 s=(r,0)):bp N V 70 args S/\bQ S r (aH 70 args S):=by
 obtain⟨a,b,c,d,st,fr,g,u,m,said⟩:=S;obtain⟨rfl,rfl⟩:=cE hf cc;have J:=bH G;simp only at G J;rcases s with _|⟨t1,_|⟨t2,s⟩⟩
 ·cases M
 ·cases M
 obtain⟨v,q0,rfl,hv,rK⟩:=bg G;obtain⟨w,q,rfl,hw,hq⟩:=bg rK;have f1:=cQ hv.1;have f2:=cQ hw.1;obtain⟨T,F4⟩:=t1;obtain⟨P,Cb⟩:=t2;simp only[aac]at J A;have U:(if nk 70 T P=0 then aP 5 else if(70:Int)=70/\nk 70 T P=5 then ee (.mk 9 [.mk 5 []]::s)else ee (.mk (nk 70 T P) []::s))=(r,0):=M;split at U
 ·cases U
 rename_i c1;have D:(T=3\/T=4\/T=5)/\(P=3\/P=4\/P=5)/\ofM 70 T P=nk 70 T P/\(nk 70 T P=5/\T=5/\P=5\/nk 70 T P=3):=by
  rcases Cp c1 with ⟨rfl,rfl,h1⟩|⟨h1,⟨rfl,rfl⟩|⟨rfl,rfl⟩⟩|⟨h1,rfl,rfl⟩|⟨rfl|rfl,rfl|rfl⟩<;>first|decide|omega
 obtain⟨K,rfl,g1⟩:=fD (by have:=D.1;omega) f1.2.1;obtain⟨Y,rfl,g2⟩:=fD (by have:=D.2.1;omega) f2.2.1;have I:=jD D.1 g1;have H:=jD D.2.1 g2;unfold bp;by_cases O:uh (K-Y)=true;rotate_left
 ·have W:jP K Y=(0,11):=by unfold jP;rw[if_pos ⟨gL.2 I.1,gL.2 H.1⟩];unfold lH;rw[if_neg O]
  have e:aH 70 [] ⟨a,b,c,d,aO T K::aO P Y::q,fr,g,u,m,said⟩=(11,⟨a,b,c,d,q,fr,g,u,m,said⟩):=by
   unfold aH;rw[qS];show(if(jP K Y).2≠0 then(((jP K Y).2,⟨a,b,c,d,q,fr,g,u,m,said⟩):MR)else if ofM 70 T P=5 then(if(jP K Y).1<0 then bl ⟨a,b,c,d,q,fr,g,u,m,said⟩ [cB []]else bl ⟨a,b,c,d,q,fr,g,u,m,said⟩ [cB [aO 5 (jP K Y).1]])else bl ⟨a,b,c,d,q,fr,g,u,m,said⟩ [aO (ofM 70 T P) (jP K Y).1])=_;rw[W];rfl
  rw[e];exact⟨dQ _ _ 2 N 70 V _ [aO T K,aO P Y] q _ cc (by rw[qS];rfl) fk (DX ⟨a,b,c,d,q,fr,g,u,m,said⟩ T K 0 [] [] [] [] P Y 0 [] [] [] [] 0 11 cc W cm),.inr (.inl rfl)⟩
 have W:jP K Y=(K-Y,0):=by unfold jP;rw[if_pos ⟨gL.2 I.1,gL.2 H.1⟩];unfold lH;rw[if_pos O]
 rcases D.2.2.2 with ⟨k5,rfl,rfl⟩|C
 ·rw[if_pos ⟨rfl,k5⟩]at U;cases U;have p:ofM 70 5 5=5:=by decide
  by_cases Q:K-Y<0
  ·have e:aH 70 [] ⟨a,b,c,d,aO 5 K::aO 5 Y::q,fr,g,u,m,said⟩=bl ⟨a,b,c,d,q,fr,g,u,m,said⟩ [cB []]:=by
    unfold aH;rw[qS];show(if(jP K Y).2≠0 then(((jP K Y).2,⟨a,b,c,d,q,fr,g,u,m,said⟩):MR)else if ofM 70 5 5=5 then(if(jP K Y).1<0 then bl ⟨a,b,c,d,q,fr,g,u,m,said⟩ [cB []]else bl ⟨a,b,c,d,q,fr,g,u,m,said⟩ [cB [aO 5 (jP K Y).1]])else bl ⟨a,b,c,d,q,fr,g,u,m,said⟩ [aO (ofM 70 5 5) (jP K Y).1])=_;rw[W,if_neg (fun h=>h rfl),if_pos p,if_pos Q]
   rw[e];exact⟨dQ _ _ 2 N 70 V _ [aO 5 K,aO 5 Y] q _ cc (by rw[qS];rfl) rj (DY ⟨a,b,c,d,q,fr,g,u,m,said⟩ 5 K 0 [] [] [] [] 5 Y 0 [] [] [] [] (K-Y) p Q W cm),b9 (S:=⟨a,b,c,d,q,fr,g,u,m,said⟩) (fo (bG E) mY) hq⟩
  ·have e:aH 70 [] ⟨a,b,c,d,aO 5 K::aO 5 Y::q,fr,g,u,m,said⟩=bl ⟨a,b,c,d,q,fr,g,u,m,said⟩ [cB [aO 5 (K-Y)]]:=by
    unfold aH;rw[qS];show(if(jP K Y).2≠0 then(((jP K Y).2,⟨a,b,c,d,q,fr,g,u,m,said⟩):MR)else if ofM 70 5 5=5 then(if(jP K Y).1<0 then bl ⟨a,b,c,d,q,fr,g,u,m,said⟩ [cB []]else bl ⟨a,b,c,d,q,fr,g,u,m,said⟩ [cB [aO 5 (jP K Y).1]])else bl ⟨a,b,c,d,q,fr,g,u,m,said⟩ [aO (ofM 70 5 5) (jP K Y).1])=_;rw[W,if_neg (fun h=>h rfl),if_pos p,if_neg Q]
   rw[e];exact⟨dQ _ _ 2 N 70 V _ [aO 5 K,aO 5 Y] q _ cc (by rw[qS];rfl) rj (DZ ⟨a,b,c,d,q,fr,g,u,m,said⟩ 5 K 0 [] [] [] [] 5 Y 0 [] [] [] [] (K-Y) p Q W cm),b9 (S:=⟨a,b,c,d,q,fr,g,u,m,said⟩) (fo (bG E) (iM (iT cc (gL.1 O) (fun _=>by omega)))) hq⟩
 ·rw[if_neg (fun h=>by have:=h.2;omega)]at U;cases U;have p:ofM 70 T P≠5:=by rw[D.2.2.1,C];decide
  have e:aH 70 [] ⟨a,b,c,d,aO T K::aO P Y::q,fr,g,u,m,said⟩=bl ⟨a,b,c,d,q,fr,g,u,m,said⟩ [aO (ofM 70 T P) (K-Y)]:=by
   unfold aH;rw[qS];show(if(jP K Y).2≠0 then(((jP K Y).2,⟨a,b,c,d,q,fr,g,u,m,said⟩):MR)else if ofM 70 T P=5 then(if(jP K Y).1<0 then bl ⟨a,b,c,d,q,fr,g,u,m,said⟩ [cB []]else bl ⟨a,b,c,d,q,fr,g,u,m,said⟩ [cB [aO 5 (jP K Y).1]])else bl ⟨a,b,c,d,q,fr,g,u,m,said⟩ [aO (ofM 70 T P) (jP K Y).1])=_;rw[W,if_neg (fun h=>h rfl),if_neg p]
  rw[e];exact⟨dQ _ _ 2 N 70 V _ [aO T K,aO P Y] q _ cc (by rw[qS];rfl) fk (D0 ⟨a,b,c,d,q,fr,g,u,m,said⟩ T K 0 [] [] [] [] P Y 0 [] [] [] [] (K-Y) p W cm),b9 (S:=⟨a,b,c,d,q,fr,g,u,m,said⟩) (fo (bG E) (by rw[D.2.2.1,C];exact iT cc (gL.1 O) (fun h=>absurd rfl h))) hq⟩
theorem TZ {a b:Int} (u : -bP<=a/\a<=bP) (G : -bP<=b/\b<=bP) (U:b≠0):(-bP<=a/b/\a/b<=bP)/\(-bP<=a%b/\a%b<=bP)/\0<=a%b/\(0<=a->0<=b->0<=a/b):=by
 have K:=Int.natAbs_ediv_le_natAbs a b;have B:=Int.emod_nonneg a U;have Y:=Int.emod_lt a U;refine⟨by unfold bP at *;omega,by unfold bP at *;omega,B,fun h1 h2=>Int.ediv_nonneg h1 h2⟩
theorem Qe (S:bT) (N:Int) (V:List UInt8) (args:List Nd) (B s:List Ty) (r:List Ty×Bool) (hf:bN 72 args=some B) (G:dJ s S.st) (hl:s.length<=340) (E:r.1.all bw=true) (I:bS 72 s=(r,0)):bp N V 72 args S/\bQ S r (aH 72 args S):=by
 obtain⟨a,b,c,d,st,fr,g,u,m,said⟩:=S;obtain⟨rfl,rfl⟩:=cE hf cc;have ey:=bH G;simp only at G ey;rcases s with _|⟨t1,_|⟨t2,s⟩⟩
 ·cases I
 ·cases I
 obtain⟨v,q0,rfl,hv,H⟩:=bg G;obtain⟨w,q,rfl,hw,hq⟩:=bg H;have f1:=cQ hv.1;have f2:=cQ hw.1;obtain⟨T,F4⟩:=t1;obtain⟨P,Cb⟩:=t2;simp only[aac]at ey hl;have C:(if nk 72 T P=0 then aP 5 else ee (.mk 9 [.mk 11 [.mk (if T=5/\P=5 then 4 else nk 72 T P) [],.mk (if T=5 then 5 else 4) []]]::s))=(r,0):=I;split at C
 ·cases C
 rename_i c1;cases C;have D:(T=3\/T=4\/T=5)/\(P=3\/P=4\/P=5):=by
  rcases Cp c1 with ⟨rfl,rfl,h1⟩|⟨h1,⟨rfl,rfl⟩|⟨rfl,rfl⟩⟩|⟨h1,rfl,rfl⟩|⟨rfl|rfl,rfl|rfl⟩<;>first|decide|omega
 obtain⟨K,rfl,g1⟩:=fD (by have:=D.1;omega) f1.2.1;obtain⟨Y,rfl,g2⟩:=fD (by have:=D.2;omega) f2.2.1;have M:=jD D.1 g1;have J:=jD D.2 g2;unfold bp;by_cases A:Y=0
 ·have W:gD K Y=(0,0,6):=by unfold gD;rw[if_pos ⟨gL.2 M.1,gL.2 J.1⟩,if_pos A]
  have e:aH 72 [] ⟨a,b,c,d,aO T K::aO P Y::q,fr,g,u,m,said⟩=bl ⟨a,b,c,d,q,fr,g,u,m,said⟩ [cB []]:=by
   unfold aH;rw[j8];show(if(gD K Y).2.2≠0 then bl ⟨a,b,c,d,q,fr,g,u,m,said⟩ [cB []]else bl ⟨a,b,c,d,q,fr,g,u,m,said⟩ [cB [bz (aO (if ofM 72 T P=5/\P=5 then 4 else ofM 72 T P) (gD K Y).1) (aO (if ofM 72 T P=5 then 5 else 4) (gD K Y).2.1)]])=_;rw[W];rfl
  rw[e];exact⟨dQ _ _ 2 N 72 V _ [aO T K,aO P Y] q _ cc TW fk (l8 ⟨a,b,c,d,q,fr,g,u,m,said⟩ T K 0 [] [] [] [] P Y 0 [] [] [] [] _ (MP ⟨a,b,c,d,q,fr,g,u,m,said⟩ (ofM 72 T P) T K 0 [] [] [] [] P Y 0 [] [] [] [] 0 0 6 cc W cm)),b9 (S:=⟨a,b,c,d,q,fr,g,u,m,said⟩) (fo (bG E) mY) hq⟩
 have W:gD K Y=(K/Y,K%Y,0):=by unfold gD;rw[if_pos ⟨gL.2 M.1,gL.2 J.1⟩,if_neg A]
 obtain⟨U,Q,O,p⟩:=TZ M.1 J.1 A;have p1:=M.2;have p2:=J.2;rcases Cp c1 with ⟨rfl,rfl,h1⟩|⟨h1,_⟩|⟨h1,rfl,rfl⟩|adl
 ·have e:aH 72 [] ⟨a,b,c,d,aO 5 K::aO 5 Y::q,fr,g,u,m,said⟩=bl ⟨a,b,c,d,q,fr,g,u,m,said⟩ [cB [bz (aO 4 (K/Y)) (aO 5 (K%Y))]]:=by
   unfold aH;rw[j8];show(if(gD K Y).2.2≠0 then bl ⟨a,b,c,d,q,fr,g,u,m,said⟩ [cB []]else bl ⟨a,b,c,d,q,fr,g,u,m,said⟩ [cB [bz (aO (if ofM 72 5 5=5/\5=5 then 4 else ofM 72 5 5) (gD K Y).1) (aO (if ofM 72 5 5=5 then 5 else 4) (gD K Y).2.1)]])=_;rw[W,if_neg (fun h=>h rfl)];rfl
  rw[e];exact⟨dQ _ _ 2 N 72 V _ [aO 5 K,aO 5 Y] q _ cc TW rj (l8 ⟨a,b,c,d,q,fr,g,u,m,said⟩ 5 K 0 [] [] [] [] 5 Y 0 [] [] [] [] _ (P8 ⟨a,b,c,d,q,fr,g,u,m,said⟩ (ofM 72 5 5) 5 K 0 [] [] [] [] 5 Y 0 [] [] [] [] (K/Y) (K%Y) cc rfl W cm)),b9 (S:=⟨a,b,c,d,q,fr,g,u,m,said⟩) (fo (bG E) (iM (kL (iT cc U (fun _=>p (p1 cc) (p2 cc))) (iT cc Q (fun _=>O))))) hq⟩
 ·omega
 ·have e:aH 72 [] ⟨a,b,c,d,aO 5 K::aO 4 Y::q,fr,g,u,m,said⟩=bl ⟨a,b,c,d,q,fr,g,u,m,said⟩ [cB [bz (aO 5 (K/Y)) (aO 5 (K%Y))]]:=by
   unfold aH;rw[j8];show(if(gD K Y).2.2≠0 then bl ⟨a,b,c,d,q,fr,g,u,m,said⟩ [cB []]else bl ⟨a,b,c,d,q,fr,g,u,m,said⟩ [cB [bz (aO (if ofM 72 5 4=5/\4=5 then 4 else ofM 72 5 4) (gD K Y).1) (aO (if ofM 72 5 4=5 then 5 else 4) (gD K Y).2.1)]])=_;rw[W,if_neg (fun h=>h rfl)];rfl
  rw[e];exact⟨dQ _ _ 2 N 72 V _ [aO 5 K,aO 4 Y] q _ cc TW (by show List.length (aO 5 K::aO 4 Y::q)<=_;simp only[aac];omega) (l8 ⟨a,b,c,d,q,fr,g,u,m,said⟩ 5 K 0 [] [] [] [] 4 Y 0 [] [] [] [] _ (Tt ⟨a,b,c,d,q,fr,g,u,m,said⟩ (ofM 72 5 4) 5 K 0 [] [] [] [] 4 Y 0 [] [] [] [] (K/Y) (K%Y) cc cc W cm)),b9 (S:=⟨a,b,c,d,q,fr,g,u,m,said⟩) (fo (bG E) (iM (kL (iT cc U (fun _=>p (p1 cc) (p2 cc))) (iT cc Q (fun _=>O))))) hq⟩
 ·rcases adl with ⟨rfl|rfl,rfl|rfl⟩
  ·have e:aH 72 [] ⟨a,b,c,d,aO 3 K::aO 3 Y::q,fr,g,u,m,said⟩=bl ⟨a,b,c,d,q,fr,g,u,m,said⟩ [cB [bz (aO 3 (K/Y)) (aO 4 (K%Y))]]:=by
    unfold aH;rw[j8];show(if(gD K Y).2.2≠0 then bl ⟨a,b,c,d,q,fr,g,u,m,said⟩ [cB []]else bl ⟨a,b,c,d,q,fr,g,u,m,said⟩ [cB [bz (aO (if ofM 72 3 3=5/\3=5 then 4 else ofM 72 3 3) (gD K Y).1) (aO (if ofM 72 3 3=5 then 5 else 4) (gD K Y).2.1)]])=_;rw[W,if_neg (fun h=>h rfl)];rfl
   rw[e];exact⟨dQ _ _ 2 N 72 V _ [aO 3 K,aO 3 Y] q _ cc TW (by show List.length (aO 3 K::aO 3 Y::q)<=_;simp only[aac];omega) (l8 ⟨a,b,c,d,q,fr,g,u,m,said⟩ 3 K 0 [] [] [] [] 3 Y 0 [] [] [] [] _ (zq ⟨a,b,c,d,q,fr,g,u,m,said⟩ (ofM 72 3 3) 3 K 0 [] [] [] [] 3 Y 0 [] [] [] [] (K/Y) (K%Y) cc W cm)),b9 (S:=⟨a,b,c,d,q,fr,g,u,m,said⟩) (fo (bG E) (iM (kL (iT cc U (fun h=>absurd rfl h)) (iT cc Q (fun _=>O))))) hq⟩
  ·have e:aH 72 [] ⟨a,b,c,d,aO 3 K::aO 4 Y::q,fr,g,u,m,said⟩=bl ⟨a,b,c,d,q,fr,g,u,m,said⟩ [cB [bz (aO 3 (K/Y)) (aO 4 (K%Y))]]:=by
    unfold aH;rw[j8];show(if(gD K Y).2.2≠0 then bl ⟨a,b,c,d,q,fr,g,u,m,said⟩ [cB []]else bl ⟨a,b,c,d,q,fr,g,u,m,said⟩ [cB [bz (aO (if ofM 72 3 4=5/\4=5 then 4 else ofM 72 3 4) (gD K Y).1) (aO (if ofM 72 3 4=5 then 5 else 4) (gD K Y).2.1)]])=_;rw[W,if_neg (fun h=>h rfl)];rfl
   rw[e];exact⟨dQ _ _ 2 N 72 V _ [aO 3 K,aO 4 Y] q _ cc TW (by show List.length (aO 3 K::aO 4 Y::q)<=_;simp only[aac];omega) (l8 ⟨a,b,c,d,q,fr,g,u,m,said⟩ 3 K 0 [] [] [] [] 4 Y 0 [] [] [] [] _ (zq ⟨a,b,c,d,q,fr,g,u,m,said⟩ (ofM 72 3 4) 3 K 0 [] [] [] [] 4 Y 0 [] [] [] [] (K/Y) (K%Y) cc W cm)),b9 (S:=⟨a,b,c,d,q,fr,g,u,m,said⟩) (fo (bG E) (iM (kL (iT cc U (fun h=>absurd rfl h)) (iT cc Q (fun _=>O))))) hq⟩
  ·have e:aH 72 [] ⟨a,b,c,d,aO 4 K::aO 3 Y::q,fr,g,u,m,said⟩=bl ⟨a,b,c,d,q,fr,g,u,m,said⟩ [cB [bz (aO 3 (K/Y)) (aO 4 (K%Y))]]:=by
    unfold aH;rw[j8];show(if(gD K Y).2.2≠0 then bl ⟨a,b,c,d,q,fr,g,u,m,said⟩ [cB []]else bl ⟨a,b,c,d,q,fr,g,u,m,said⟩ [cB [bz (aO (if ofM 72 4 3=5/\3=5 then 4 else ofM 72 4 3) (gD K Y).1) (aO (if ofM 72 4 3=5 then 5 else 4) (gD K Y).2.1)]])=_;rw[W,if_neg (fun h=>h rfl)];rfl
   rw[e];exact⟨dQ _ _ 2 N 72 V _ [aO 4 K,aO 3 Y] q _ cc TW (by show List.length (aO 4 K::aO 3 Y::q)<=_;simp only[aac];omega) (l8 ⟨a,b,c,d,q,fr,g,u,m,said⟩ 4 K 0 [] [] [] [] 3 Y 0 [] [] [] [] _ (zq ⟨a,b,c,d,q,fr,g,u,m,said⟩ (ofM 72 4 3) 4 K 0 [] [] [] [] 3 Y 0 [] [] [] [] (K/Y) (K%Y) cc W cm)),b9 (S:=⟨a,b,c,d,q,fr,g,u,m,said⟩) (fo (bG E) (iM (kL (iT cc U (fun h=>absurd rfl h)) (iT cc Q (fun _=>O))))) hq⟩
  ·have e:aH 72 [] ⟨a,b,c,d,aO 4 K::aO 4 Y::q,fr,g,u,m,said⟩=bl ⟨a,b,c,d,q,fr,g,u,m,said⟩ [cB [bz (aO 4 (K/Y)) (aO 4 (K%Y))]]:=by
    unfold aH;rw[j8];show(if(gD K Y).2.2≠0 then bl ⟨a,b,c,d,q,fr,g,u,m,said⟩ [cB []]else bl ⟨a,b,c,d,q,fr,g,u,m,said⟩ [cB [bz (aO (if ofM 72 4 4=5/\4=5 then 4 else ofM 72 4 4) (gD K Y).1) (aO (if ofM 72 4 4=5 then 5 else 4) (gD K Y).2.1)]])=_;rw[W,if_neg (fun h=>h rfl)];rfl
   rw[e];exact⟨dQ _ _ 2 N 72 V _ [aO 4 K,aO 4 Y] q _ cc TW (by show List.length (aO 4 K::aO 4 Y::q)<=_;simp only[aac];omega) (l8 ⟨a,b,c,d,q,fr,g,u,m,said⟩ 4 K 0 [] [] [] [] 4 Y 0 [] [] [] [] _ (zq ⟨a,b,c,d,q,fr,g,u,m,said⟩ (ofM 72 4 4) 4 K 0 [] [] [] [] 4 Y 0 [] [] [] [] (K/Y) (K%Y) cc W cm)),b9 (S:=⟨a,b,c,d,q,fr,g,u,m,said⟩) (fo (bG E) (iM (kL (iT cc U (fun _=>p (p1 cc) (p2 cc))) (iT cc Q (fun _=>O))))) hq⟩
end Go.Proofs
