/- Package run: typed steps of class reckon. -/
import Derived.Test.YtlohbilpimjmmaaGreatDoorRunV
set_option linter.unusedVariables false
set_option linter.unusedSimpArgs false
namespace Go.Proofs
open Go.cu
theorem Ch:bV 69=2:=by decide +kernel
theorem qQ:bV 70=2:=by decide +kernel
theorem Ci:bV 71=2:=by decide +kernel
theorem j8:bV 72=2:=by decide +kernel
theorem O2:bV 93=1:=by decide +kernel
theorem Cj:bV 94=1:=by decide +kernel
theorem O3:bV 95=1:=by decide +kernel
theorem gR {n:Int}:tY n=true ↔ -bM<=n/\n<=bM:=by
 unfold tY bM;simp;try omega
theorem jF {T n:Int} {ts:List Ty} (K:T=3\/T=4\/T=5) (h:bL (aO T n) (.mk T ts)=true):(-bM<=n/\n<=bM)/\(T≠3->0<=n):=by
 obtain⟨_,V,D,q,_⟩:=ML h;rcases K with rfl|rfl|rfl
 ·omega
 ·omega
 ·omega
theorem iS {T n:Int} (K:T=3\/T=4\/T=5) (h : -bM<=n/\n<=bM) (B:T≠3->0<=n):bL (aO T n) (.mk T [])=true/\eK (aO T n)=true:=by
 rcases K with rfl|rfl|rfl
 ·exact mS (.inr (.inl ⟨rfl,h⟩))
 ·exact mS (.inr (.inr (.inl ⟨rfl,B cc,h.2⟩)))
 ·exact mS (.inr (.inr (.inr (.inl ⟨rfl,B cc,h.2⟩))))
theorem Ck {P a b:Int} (h:¬mZ P a b=0):(a=5/\b=5/\(P=69\/P=70\/P=72))\/(P=71/\(a=5/\b=4\/a=4/\b=5))\/(P=72/\a=5/\b=4)\/((a=3\/a=4)/\(b=3\/b=4)):=by
 unfold mZ at h;by_cases Y:a=5/\b=5/\(P=69\/P=70\/P=72)
 ·exact .inl Y
 rw[if_neg Y]at h;by_cases J:P=71/\(a=5/\b=4\/a=4/\b=5)
 ·exact .inr (.inl J)
 rw[if_neg J]at h;by_cases W:P=72/\a=5/\b=4
 ·exact .inr (.inr (.inl W))
 rw[if_neg W]at h;by_cases c4:(a=3\/a=4)/\(b=3\/b=4)
 ·exact .inr (.inr (.inr c4))
 ·rw[if_neg c4]at h;exact absurd rfl h
theorem KO (P a b:Int) (O:P=69\/P=71) (h:¬mZ P a b=0):ofM P a b=mZ P a b/\(mZ P a b=3\/mZ P a b=4\/mZ P a b=5)/\(a=3\/a=4\/a=5)/\(b=3\/b=4\/b=5)/\(mZ P a b≠3->a≠3/\b≠3):=by
 rcases Ck h with ⟨rfl,rfl,h1⟩|⟨h1,⟨rfl,rfl⟩|⟨rfl,rfl⟩⟩|⟨h1,rfl,rfl⟩|⟨rfl|rfl,rfl|rfl⟩<;>rcases O with rfl|rfl<;>first|decide|omega
theorem P7 (S:bT) (N:Int) (P:List UInt8) (args:List Nd) (H s:List Ty) (r:List Ty×Bool) (hf:bQ 69 args=some H) (W:dK s S.st) (C:s.length<=340) (J:r.1.all bA=true) (E:bU 69 s=(r,0)):bl N P 69 args S/\bR S r (aI 69 args S):=by
 obtain⟨a,b,c,d,st,fr,g,u,m,said⟩:=S;obtain⟨rfl,rfl⟩:=cH hf cc;have B:=bJ W;simp only at W B;rcases s with _|⟨I,_|⟨p,s⟩⟩
 ·cases E
 ·cases E
 obtain⟨v,q0,rfl,hv,rI⟩:=bp W;obtain⟨w,q,rfl,hw,hq⟩:=bp rI;have f1:=cQ hv.1;have f2:=cQ hw.1;obtain⟨T,FU⟩:=I;obtain⟨Y,B5⟩:=p;have Q:(if mZ 69 T Y=0 then aP 5 else ep (.mk (mZ 69 T Y) []::s))=(r,0):=E;split at Q
 ·cases Q
 rename_i c1;cases Q;have D:=KO 69 T Y cc c1;obtain⟨K,rfl,g1⟩:=fH (by have:=D.2.2.1;omega) f1.2.1;obtain⟨G,rfl,g2⟩:=fH (by have:=D.2.2.2.1;omega) f2.2.1;have V:=jF D.2.2.1 g1;have U:=jF D.2.2.2.1 g2;simp only[aaa]at B C;unfold bl;by_cases M:tY (K+G)=true
 ·have A:sV K G=(K+G,0):=by unfold sV;rw[if_pos ⟨gR.2 V.1,gR.2 U.1⟩];unfold lA;rw[if_pos M]
  have e:aI 69 [] ⟨a,b,c,d,aO T K::aO Y G::q,fr,g,u,m,said⟩=bg ⟨a,b,c,d,q,fr,g,u,m,said⟩ [aO (ofM 69 T Y) (K+G)]:=by
   unfold aI;rw[Ch];show(if(sV K G).2≠0 then(((sV K G).2,⟨a,b,c,d,q,fr,g,u,m,said⟩):MR)else bg ⟨a,b,c,d,q,fr,g,u,m,said⟩ [aO (ofM 69 T Y) (sV K G).1])=_;rw[A];rfl
  rw[e]
  exact⟨dS _ _ 2 N 69 P _ [aO T K,aO Y G] q _ cc (by rw[Ch];rfl) fk (EU ⟨a,b,c,d,q,fr,g,u,m,said⟩ T K 0 [] [] [] [] Y G 0 [] [] [] [] (K+G) A cm),
   cg (S:=⟨a,b,c,d,q,fr,g,u,m,said⟩) (fu (bE J) (by rw[D.1];exact iS D.2.1 (gR.1 M) (fun O=>by have:=D.2.2.2.2 O;have:=V.2 this.1;have:=U.2 (D.2.2.2.2 O).2;omega))) hq⟩
 ·have A:sV K G=(0,11):=by unfold sV;rw[if_pos ⟨gR.2 V.1,gR.2 U.1⟩];unfold lA;rw[if_neg M]
  have e:aI 69 [] ⟨a,b,c,d,aO T K::aO Y G::q,fr,g,u,m,said⟩=(11,⟨a,b,c,d,q,fr,g,u,m,said⟩):=by
   unfold aI;rw[Ch];show(if(sV K G).2≠0 then(((sV K G).2,⟨a,b,c,d,q,fr,g,u,m,said⟩):MR)else bg ⟨a,b,c,d,q,fr,g,u,m,said⟩ [aO (ofM 69 T Y) (sV K G).1])=_;rw[A];rfl
  rw[e];exact⟨dS _ _ 2 N 69 P _ [aO T K,aO Y G] q _ cc (by rw[Ch];rfl) fk (DS ⟨a,b,c,d,q,fr,g,u,m,said⟩ T K 0 [] [] [] [] Y G 0 [] [] [] [] 0 11 cc A cm),.inr (.inl rfl)⟩
theorem P9 (S:bT) (N:Int) (P:List UInt8) (args:List Nd) (H s:List Ty) (r:List Ty×Bool) (hf:bQ 71 args=some H) (W:dK s S.st) (C:s.length<=340) (J:r.1.all bA=true) (E:bU 71 s=(r,0)):bl N P 71 args S/\bR S r (aI 71 args S):=by
 obtain⟨a,b,c,d,st,fr,g,u,m,said⟩:=S;obtain⟨rfl,rfl⟩:=cH hf cc;have B:=bJ W;simp only at W B;rcases s with _|⟨I,_|⟨p,s⟩⟩
 ·cases E
 ·cases E
 obtain⟨v,q0,rfl,hv,rI⟩:=bp W;obtain⟨w,q,rfl,hw,hq⟩:=bp rI;have f1:=cQ hv.1;have f2:=cQ hw.1;obtain⟨T,FU⟩:=I;obtain⟨Y,B5⟩:=p;have Q:(if mZ 71 T Y=0 then aP 5 else ep (.mk (mZ 71 T Y) []::s))=(r,0):=E;split at Q
 ·cases Q
 rename_i c1;cases Q;have D:=KO 71 T Y cc c1;obtain⟨K,rfl,g1⟩:=fH (by have:=D.2.2.1;omega) f1.2.1;obtain⟨G,rfl,g2⟩:=fH (by have:=D.2.2.2.1;omega) f2.2.1;have V:=jF D.2.2.1 g1;have U:=jF D.2.2.2.1 g2;simp only[aaa]at B C;unfold bl;by_cases M:tY (K*G)=true
 ·have A:qY K G=(K*G,0):=by unfold qY;rw[if_pos ⟨gR.2 V.1,gR.2 U.1⟩];unfold lA;rw[if_pos M]
  have e:aI 71 [] ⟨a,b,c,d,aO T K::aO Y G::q,fr,g,u,m,said⟩=bg ⟨a,b,c,d,q,fr,g,u,m,said⟩ [aO (ofM 71 T Y) (K*G)]:=by
   unfold aI;rw[Ci];show(if(qY K G).2≠0 then(((qY K G).2,⟨a,b,c,d,q,fr,g,u,m,said⟩):MR)else bg ⟨a,b,c,d,q,fr,g,u,m,said⟩ [aO (ofM 71 T Y) (qY K G).1])=_;rw[A];rfl
  rw[e]
  exact⟨dS _ _ 2 N 71 P _ [aO T K,aO Y G] q _ cc (by rw[Ci];rfl) fk (EV ⟨a,b,c,d,q,fr,g,u,m,said⟩ T K 0 [] [] [] [] Y G 0 [] [] [] [] (K*G) A cm),
   cg (S:=⟨a,b,c,d,q,fr,g,u,m,said⟩) (fu (bE J) (by rw[D.1];exact iS D.2.1 (gR.1 M) (fun O=>Int.mul_nonneg (V.2 (D.2.2.2.2 O).1) (U.2 (D.2.2.2.2 O).2)))) hq⟩
 ·have A:qY K G=(0,11):=by unfold qY;rw[if_pos ⟨gR.2 V.1,gR.2 U.1⟩];unfold lA;rw[if_neg M]
  have e:aI 71 [] ⟨a,b,c,d,aO T K::aO Y G::q,fr,g,u,m,said⟩=(11,⟨a,b,c,d,q,fr,g,u,m,said⟩):=by
   unfold aI;rw[Ci];show(if(qY K G).2≠0 then(((qY K G).2,⟨a,b,c,d,q,fr,g,u,m,said⟩):MR)else bg ⟨a,b,c,d,q,fr,g,u,m,said⟩ [aO (ofM 71 T Y) (qY K G).1])=_;rw[A];rfl
  rw[e];exact⟨dS _ _ 2 N 71 P _ [aO T K,aO Y G] q _ cc (by rw[Ci];rfl) fk (DT ⟨a,b,c,d,q,fr,g,u,m,said⟩ T K 0 [] [] [] [] Y G 0 [] [] [] [] 0 11 cc A cm),.inr (.inl rfl)⟩
theorem Qb (S:bT) (N:Int) (G:List UInt8) (args:List Nd) (H s:List Ty) (r:List Ty×Bool) (hf:bQ 93 args=some H) (Y:dK s S.st) (C:s.length<=340) (W:r.1.all bA=true) (E:bU 93 s=(r,0)):bl N G 93 args S/\bR S r (aI 93 args S):=by
 obtain⟨a,b,c,d,st,fr,g,u,m,said⟩:=S;obtain⟨rfl,rfl⟩:=cH hf cc;have B:=bJ Y;simp only at Y B;cases s with
 | nil=>cases E
 | cons t s =>
 obtain⟨v,q,rfl,V,hq⟩:=bp Y;have U:=cQ V.1;obtain⟨T,ts⟩:=t;simp only[aaa]at B C;have Q:(if T=3 then ep (.mk 4 []::s)else aP 5)=(r,0):=E;split at Q;rotate_left
 ·cases Q
 rename_i P;subst P;cases Q;obtain⟨n,rfl,g1⟩:=fH cc U.2.1;have D:=jF cc g1;unfold bl;have A:ng n=(if n<0 then -n else n,0):=by unfold ng;rw[if_pos (gR.2 D.1)]
 have e:aI 93 [] ⟨a,b,c,d,aO 3 n::q,fr,g,u,m,said⟩=bg ⟨a,b,c,d,q,fr,g,u,m,said⟩ [aO 4 (ng n).1]:=by unfold aI;rw[O2];rfl
 rw[e];exact⟨dS _ _ 2 N 93 G _ [aO 3 n] q _ cc (by rw[O2];rfl) gp (MD ⟨a,b,c,d,q,fr,g,u,m,said⟩ 3 n 0 [] [] [] [] cm),cg (S:=⟨a,b,c,d,q,fr,g,u,m,said⟩) (fu (bE W) (iS cc (by rw[A];have:=D.1;show _<=(if n<0 then -n else n)/\(if n<0 then -n else n)<=_;split<;>constructor<;>(unfold bM at *;omega)) (fun _=>by rw[A];show 0<=(if n<0 then -n else n);split<;>omega))) hq⟩
theorem Qc (S:bT) (N:Int) (G:List UInt8) (args:List Nd) (H s:List Ty) (r:List Ty×Bool) (hf:bQ 94 args=some H) (Y:dK s S.st) (C:s.length<=340) (W:r.1.all bA=true) (E:bU 94 s=(r,0)):bl N G 94 args S/\bR S r (aI 94 args S):=by
 obtain⟨a,b,c,d,st,fr,g,u,m,said⟩:=S;obtain⟨rfl,rfl⟩:=cH hf cc;have A:=bJ Y;simp only at Y A;cases s with
 | nil=>cases E
 | cons t s =>
 obtain⟨v,q,rfl,V,hq⟩:=bp Y;have U:=cQ V.1;obtain⟨T,ts⟩:=t;simp only[aaa]at A C;have Q:(if T=3 then ep (.mk 9 [.mk 4 []]::s)else aP 5)=(r,0):=E;split at Q;rotate_left
 ·cases Q
 rename_i P;subst P;cases Q;obtain⟨n,rfl,g1⟩:=fH cc U.2.1;have D:=jF cc g1;unfold bl;by_cases B:n<0
 ·have e:aI 94 [] ⟨a,b,c,d,aO 3 n::q,fr,g,u,m,said⟩=bg ⟨a,b,c,d,q,fr,g,u,m,said⟩ [cx []]:=by
   unfold aI;rw[Cj];show(if n<0 then bg ⟨a,b,c,d,q,fr,g,u,m,said⟩ [cx []]else bg ⟨a,b,c,d,q,fr,g,u,m,said⟩ [cx [aO 4 n]])=_;rw[if_pos B]
  rw[e];exact⟨dS _ _ 2 N 94 G _ [aO 3 n] q _ cc (by rw[Cj];rfl) gp (J7 ⟨a,b,c,d,q,fr,g,u,m,said⟩ 3 n 0 [] [] [] [] B cm),cg (S:=⟨a,b,c,d,q,fr,g,u,m,said⟩) (fu (bE W) mT) hq⟩
 ·have e:aI 94 [] ⟨a,b,c,d,aO 3 n::q,fr,g,u,m,said⟩=bg ⟨a,b,c,d,q,fr,g,u,m,said⟩ [cx [aO 4 n]]:=by
   unfold aI;rw[Cj];show(if n<0 then bg ⟨a,b,c,d,q,fr,g,u,m,said⟩ [cx []]else bg ⟨a,b,c,d,q,fr,g,u,m,said⟩ [cx [aO 4 n]])=_;rw[if_neg B]
  rw[e];exact⟨dS _ _ 2 N 94 G _ [aO 3 n] q _ cc (by rw[Cj];rfl) gp (J8 ⟨a,b,c,d,q,fr,g,u,m,said⟩ 3 n 0 [] [] [] [] B cm),cg (S:=⟨a,b,c,d,q,fr,g,u,m,said⟩) (fu (bE W) (iM (iS cc D.1 (fun _=>by omega)))) hq⟩
theorem Qd (S:bT) (N:Int) (G:List UInt8) (args:List Nd) (H s:List Ty) (r:List Ty×Bool) (hf:bQ 95 args=some H) (Y:dK s S.st) (C:s.length<=340) (W:r.1.all bA=true) (E:bU 95 s=(r,0)):bl N G 95 args S/\bR S r (aI 95 args S):=by
 obtain⟨a,b,c,d,st,fr,g,u,m,said⟩:=S;obtain⟨rfl,rfl⟩:=cH hf cc;have B:=bJ Y;simp only at Y B;cases s with
 | nil=>cases E
 | cons t s =>
 obtain⟨v,q,rfl,V,hq⟩:=bp Y;have U:=cQ V.1;obtain⟨T,ts⟩:=t;simp only[aaa]at B C;have Q:(if T=4 then ep (.mk 3 []::s)else aP 5)=(r,0):=E;split at Q;rotate_left
 ·cases Q
 rename_i P;subst P;cases Q;obtain⟨n,rfl,g1⟩:=fH cc U.2.1;have D:=jF cc g1;unfold bl;have e:aI 95 [] ⟨a,b,c,d,aO 4 n::q,fr,g,u,m,said⟩=bg ⟨a,b,c,d,q,fr,g,u,m,said⟩ [aO 3 n]:=by unfold aI;rw[O3];rfl
 rw[e];exact⟨dS _ _ 2 N 95 G _ [aO 4 n] q _ cc (by rw[O3];rfl) (by show List.length (aO 4 n::q)<=_;simp only[aaa];omega) (ME ⟨a,b,c,d,q,fr,g,u,m,said⟩ 4 n 0 [] [] [] [] cm),cg (S:=⟨a,b,c,d,q,fr,g,u,m,said⟩) (fu (bE W) (iS cc D.1 (fun h=>absurd rfl h))) hq⟩
theorem P8 (S:bT) (N:Int) (P:List UInt8) (args:List Nd) (H s:List Ty) (r:List Ty×Bool) (hf:bQ 70 args=some H) (V:dK s S.st) (p:s.length<=340) (U:r.1.all bA=true) (E:bU 70 s=(r,0)):bl N P 70 args S/\bR S r (aI 70 args S):=by
 obtain⟨a,b,c,d,st,fr,g,u,m,said⟩:=S;obtain⟨rfl,rfl⟩:=cH hf cc;have O:=bJ V;simp only at V O;rcases s with _|⟨t1,_|⟨t2,s⟩⟩
 ·cases E
 ·cases E
 obtain⟨v,q0,rfl,hv,rI⟩:=bp V;obtain⟨w,q,rfl,hw,hq⟩:=bp rI;have f1:=cQ hv.1;have f2:=cQ hw.1;obtain⟨T,FU⟩:=t1;obtain⟨Y,B5⟩:=t2;simp only[aaa]at O p;have Q:(if mZ 70 T Y=0 then aP 5 else if(70:Int)=70/\mZ 70 T Y=5 then ep (.mk 9 [.mk 5 []]::s)else ep (.mk (mZ 70 T Y) []::s))=(r,0):=E;split at Q
 ·cases Q
 rename_i c1;have D:(T=3\/T=4\/T=5)/\(Y=3\/Y=4\/Y=5)/\ofM 70 T Y=mZ 70 T Y/\(mZ 70 T Y=5/\T=5/\Y=5\/mZ 70 T Y=3):=by
  rcases Ck c1 with ⟨rfl,rfl,h1⟩|⟨h1,⟨rfl,rfl⟩|⟨rfl,rfl⟩⟩|⟨h1,rfl,rfl⟩|⟨rfl|rfl,rfl|rfl⟩<;>first|decide|omega
 obtain⟨K,rfl,g1⟩:=fH (by have:=D.1;omega) f1.2.1;obtain⟨G,rfl,g2⟩:=fH (by have:=D.2.1;omega) f2.2.1;have J:=jF D.1 g1;have I:=jF D.2.1 g2;unfold bl;by_cases M:tY (K-G)=true;rotate_left
 ·have A:jR K G=(0,11):=by unfold jR;rw[if_pos ⟨gR.2 J.1,gR.2 I.1⟩];unfold lA;rw[if_neg M]
  have e:aI 70 [] ⟨a,b,c,d,aO T K::aO Y G::q,fr,g,u,m,said⟩=(11,⟨a,b,c,d,q,fr,g,u,m,said⟩):=by
   unfold aI;rw[qQ];show(if(jR K G).2≠0 then(((jR K G).2,⟨a,b,c,d,q,fr,g,u,m,said⟩):MR)else if ofM 70 T Y=5 then(if(jR K G).1<0 then bg ⟨a,b,c,d,q,fr,g,u,m,said⟩ [cx []]else bg ⟨a,b,c,d,q,fr,g,u,m,said⟩ [cx [aO 5 (jR K G).1]])else bg ⟨a,b,c,d,q,fr,g,u,m,said⟩ [aO (ofM 70 T Y) (jR K G).1])=_;rw[A];rfl
  rw[e];exact⟨dS _ _ 2 N 70 P _ [aO T K,aO Y G] q _ cc (by rw[qQ];rfl) fk (DU ⟨a,b,c,d,q,fr,g,u,m,said⟩ T K 0 [] [] [] [] Y G 0 [] [] [] [] 0 11 cc A cm),.inr (.inl rfl)⟩
 have A:jR K G=(K-G,0):=by unfold jR;rw[if_pos ⟨gR.2 J.1,gR.2 I.1⟩];unfold lA;rw[if_pos M]
 rcases D.2.2.2 with ⟨k5,rfl,rfl⟩|C
 ·rw[if_pos ⟨rfl,k5⟩]at Q;cases Q;have W:ofM 70 5 5=5:=by decide
  by_cases B:K-G<0
  ·have e:aI 70 [] ⟨a,b,c,d,aO 5 K::aO 5 G::q,fr,g,u,m,said⟩=bg ⟨a,b,c,d,q,fr,g,u,m,said⟩ [cx []]:=by
    unfold aI;rw[qQ];show(if(jR K G).2≠0 then(((jR K G).2,⟨a,b,c,d,q,fr,g,u,m,said⟩):MR)else if ofM 70 5 5=5 then(if(jR K G).1<0 then bg ⟨a,b,c,d,q,fr,g,u,m,said⟩ [cx []]else bg ⟨a,b,c,d,q,fr,g,u,m,said⟩ [cx [aO 5 (jR K G).1]])else bg ⟨a,b,c,d,q,fr,g,u,m,said⟩ [aO (ofM 70 5 5) (jR K G).1])=_;rw[A,if_neg (fun h=>h rfl),if_pos W,if_pos B]
   rw[e];exact⟨dS _ _ 2 N 70 P _ [aO 5 K,aO 5 G] q _ cc (by rw[qQ];rfl) p8 (DV ⟨a,b,c,d,q,fr,g,u,m,said⟩ 5 K 0 [] [] [] [] 5 G 0 [] [] [] [] (K-G) W B A cm),cg (S:=⟨a,b,c,d,q,fr,g,u,m,said⟩) (fu (bE U) mT) hq⟩
  ·have e:aI 70 [] ⟨a,b,c,d,aO 5 K::aO 5 G::q,fr,g,u,m,said⟩=bg ⟨a,b,c,d,q,fr,g,u,m,said⟩ [cx [aO 5 (K-G)]]:=by
    unfold aI;rw[qQ];show(if(jR K G).2≠0 then(((jR K G).2,⟨a,b,c,d,q,fr,g,u,m,said⟩):MR)else if ofM 70 5 5=5 then(if(jR K G).1<0 then bg ⟨a,b,c,d,q,fr,g,u,m,said⟩ [cx []]else bg ⟨a,b,c,d,q,fr,g,u,m,said⟩ [cx [aO 5 (jR K G).1]])else bg ⟨a,b,c,d,q,fr,g,u,m,said⟩ [aO (ofM 70 5 5) (jR K G).1])=_;rw[A,if_neg (fun h=>h rfl),if_pos W,if_neg B]
   rw[e];exact⟨dS _ _ 2 N 70 P _ [aO 5 K,aO 5 G] q _ cc (by rw[qQ];rfl) p8 (DW ⟨a,b,c,d,q,fr,g,u,m,said⟩ 5 K 0 [] [] [] [] 5 G 0 [] [] [] [] (K-G) W B A cm),cg (S:=⟨a,b,c,d,q,fr,g,u,m,said⟩) (fu (bE U) (iM (iS cc (gR.1 M) (fun _=>by omega)))) hq⟩
 ·rw[if_neg (fun h=>by have:=h.2;omega)]at Q;cases Q;have W:ofM 70 T Y≠5:=by rw[D.2.2.1,C];decide
  have e:aI 70 [] ⟨a,b,c,d,aO T K::aO Y G::q,fr,g,u,m,said⟩=bg ⟨a,b,c,d,q,fr,g,u,m,said⟩ [aO (ofM 70 T Y) (K-G)]:=by
   unfold aI;rw[qQ];show(if(jR K G).2≠0 then(((jR K G).2,⟨a,b,c,d,q,fr,g,u,m,said⟩):MR)else if ofM 70 T Y=5 then(if(jR K G).1<0 then bg ⟨a,b,c,d,q,fr,g,u,m,said⟩ [cx []]else bg ⟨a,b,c,d,q,fr,g,u,m,said⟩ [cx [aO 5 (jR K G).1]])else bg ⟨a,b,c,d,q,fr,g,u,m,said⟩ [aO (ofM 70 T Y) (jR K G).1])=_;rw[A,if_neg (fun h=>h rfl),if_neg W]
  rw[e];exact⟨dS _ _ 2 N 70 P _ [aO T K,aO Y G] q _ cc (by rw[qQ];rfl) fk (DX ⟨a,b,c,d,q,fr,g,u,m,said⟩ T K 0 [] [] [] [] Y G 0 [] [] [] [] (K-G) W A cm),cg (S:=⟨a,b,c,d,q,fr,g,u,m,said⟩) (fu (bE U) (by rw[D.2.2.1,C];exact iS cc (gR.1 M) (fun h=>absurd rfl h))) hq⟩
theorem TE {a b:Int} (p : -bM<=a/\a<=bM) (Y : -bM<=b/\b<=bM) (B:b≠0):(-bM<=a/b/\a/b<=bM)/\(-bM<=a%b/\a%b<=bM)/\0<=a%b/\(0<=a->0<=b->0<=a/b):=by
 have E:=Int.natAbs_ediv_le_natAbs a b;have V:=Int.emod_nonneg a B;have Q:=Int.emod_lt a B;refine⟨by unfold bM at *;omega,by unfold bM at *;omega,V,fun h1 h2=>Int.ediv_nonneg h1 h2⟩
theorem Qa (S:bT) (N:Int) (P:List UInt8) (args:List Nd) (H s:List Ty) (r:List Ty×Bool) (hf:bQ 72 args=some H) (J:dK s S.st) (hl:s.length<=340) (Q:r.1.all bA=true) (E:bU 72 s=(r,0)):bl N P 72 args S/\bR S r (aI 72 args S):=by
 obtain⟨a,b,c,d,st,fr,g,u,m,said⟩:=S;obtain⟨rfl,rfl⟩:=cH hf cc;have eD:=bJ J;simp only at J eD;rcases s with _|⟨t1,_|⟨t2,s⟩⟩
 ·cases E
 ·cases E
 obtain⟨v,q0,rfl,hv,I⟩:=bp J;obtain⟨w,q,rfl,hw,hq⟩:=bp I;have f1:=cQ hv.1;have f2:=cQ hw.1;obtain⟨T,FU⟩:=t1;obtain⟨Y,B5⟩:=t2;simp only[aaa]at eD hl;have C:(if mZ 72 T Y=0 then aP 5 else ep (.mk 9 [.mk 11 [.mk (if T=5/\Y=5 then 4 else mZ 72 T Y) [],.mk (if T=5 then 5 else 4) []]]::s))=(r,0):=E;split at C
 ·cases C
 rename_i c1;cases C;have D:(T=3\/T=4\/T=5)/\(Y=3\/Y=4\/Y=5):=by
  rcases Ck c1 with ⟨rfl,rfl,h1⟩|⟨h1,⟨rfl,rfl⟩|⟨rfl,rfl⟩⟩|⟨h1,rfl,rfl⟩|⟨rfl|rfl,rfl|rfl⟩<;>first|decide|omega
 obtain⟨K,rfl,g1⟩:=fH (by have:=D.1;omega) f1.2.1;obtain⟨G,rfl,g2⟩:=fH (by have:=D.2;omega) f2.2.1;have O:=jF D.1 g1;have M:=jF D.2 g2;unfold bl;by_cases B:G=0
 ·have A:gF K G=(0,0,6):=by unfold gF;rw[if_pos ⟨gR.2 O.1,gR.2 M.1⟩,if_pos B]
  have e:aI 72 [] ⟨a,b,c,d,aO T K::aO Y G::q,fr,g,u,m,said⟩=bg ⟨a,b,c,d,q,fr,g,u,m,said⟩ [cx []]:=by
   unfold aI;rw[j8];show(if(gF K G).2.2≠0 then bg ⟨a,b,c,d,q,fr,g,u,m,said⟩ [cx []]else bg ⟨a,b,c,d,q,fr,g,u,m,said⟩ [cx [bB (aO (if ofM 72 T Y=5/\Y=5 then 4 else ofM 72 T Y) (gF K G).1) (aO (if ofM 72 T Y=5 then 5 else 4) (gF K G).2.1)]])=_;rw[A];rfl
  rw[e];exact⟨dS _ _ 2 N 72 P _ [aO T K,aO Y G] q _ cc Uc fk (lW ⟨a,b,c,d,q,fr,g,u,m,said⟩ T K 0 [] [] [] [] Y G 0 [] [] [] [] _ (MB ⟨a,b,c,d,q,fr,g,u,m,said⟩ (ofM 72 T Y) T K 0 [] [] [] [] Y G 0 [] [] [] [] 0 0 6 cc A cm)),cg (S:=⟨a,b,c,d,q,fr,g,u,m,said⟩) (fu (bE Q) mT) hq⟩
 have A:gF K G=(K/G,K%G,0):=by unfold gF;rw[if_pos ⟨gR.2 O.1,gR.2 M.1⟩,if_neg B]
 obtain⟨W,V,U,p⟩:=TE O.1 M.1 B;have p1:=O.2;have p2:=M.2;rcases Ck c1 with ⟨rfl,rfl,h1⟩|⟨h1,_⟩|⟨h1,rfl,rfl⟩|ac2
 ·have e:aI 72 [] ⟨a,b,c,d,aO 5 K::aO 5 G::q,fr,g,u,m,said⟩=bg ⟨a,b,c,d,q,fr,g,u,m,said⟩ [cx [bB (aO 4 (K/G)) (aO 5 (K%G))]]:=by
   unfold aI;rw[j8];show(if(gF K G).2.2≠0 then bg ⟨a,b,c,d,q,fr,g,u,m,said⟩ [cx []]else bg ⟨a,b,c,d,q,fr,g,u,m,said⟩ [cx [bB (aO (if ofM 72 5 5=5/\5=5 then 4 else ofM 72 5 5) (gF K G).1) (aO (if ofM 72 5 5=5 then 5 else 4) (gF K G).2.1)]])=_;rw[A,if_neg (fun h=>h rfl)];rfl
  rw[e];exact⟨dS _ _ 2 N 72 P _ [aO 5 K,aO 5 G] q _ cc Uc p8 (lW ⟨a,b,c,d,q,fr,g,u,m,said⟩ 5 K 0 [] [] [] [] 5 G 0 [] [] [] [] _ (PZ ⟨a,b,c,d,q,fr,g,u,m,said⟩ (ofM 72 5 5) 5 K 0 [] [] [] [] 5 G 0 [] [] [] [] (K/G) (K%G) cc rfl A cm)),cg (S:=⟨a,b,c,d,q,fr,g,u,m,said⟩) (fu (bE Q) (iM (kH (iS cc W (fun _=>p (p1 cc) (p2 cc))) (iS cc V (fun _=>U))))) hq⟩
 ·omega
 ·have e:aI 72 [] ⟨a,b,c,d,aO 5 K::aO 4 G::q,fr,g,u,m,said⟩=bg ⟨a,b,c,d,q,fr,g,u,m,said⟩ [cx [bB (aO 5 (K/G)) (aO 5 (K%G))]]:=by
   unfold aI;rw[j8];show(if(gF K G).2.2≠0 then bg ⟨a,b,c,d,q,fr,g,u,m,said⟩ [cx []]else bg ⟨a,b,c,d,q,fr,g,u,m,said⟩ [cx [bB (aO (if ofM 72 5 4=5/\4=5 then 4 else ofM 72 5 4) (gF K G).1) (aO (if ofM 72 5 4=5 then 5 else 4) (gF K G).2.1)]])=_;rw[A,if_neg (fun h=>h rfl)];rfl
  rw[e];exact⟨dS _ _ 2 N 72 P _ [aO 5 K,aO 4 G] q _ cc Uc (by show List.length (aO 5 K::aO 4 G::q)<=_;simp only[aaa];omega) (lW ⟨a,b,c,d,q,fr,g,u,m,said⟩ 5 K 0 [] [] [] [] 4 G 0 [] [] [] [] _ (Tb ⟨a,b,c,d,q,fr,g,u,m,said⟩ (ofM 72 5 4) 5 K 0 [] [] [] [] 4 G 0 [] [] [] [] (K/G) (K%G) cc cc A cm)),cg (S:=⟨a,b,c,d,q,fr,g,u,m,said⟩) (fu (bE Q) (iM (kH (iS cc W (fun _=>p (p1 cc) (p2 cc))) (iS cc V (fun _=>U))))) hq⟩
 ·rcases ac2 with ⟨rfl|rfl,rfl|rfl⟩
  ·have e:aI 72 [] ⟨a,b,c,d,aO 3 K::aO 3 G::q,fr,g,u,m,said⟩=bg ⟨a,b,c,d,q,fr,g,u,m,said⟩ [cx [bB (aO 3 (K/G)) (aO 4 (K%G))]]:=by
    unfold aI;rw[j8];show(if(gF K G).2.2≠0 then bg ⟨a,b,c,d,q,fr,g,u,m,said⟩ [cx []]else bg ⟨a,b,c,d,q,fr,g,u,m,said⟩ [cx [bB (aO (if ofM 72 3 3=5/\3=5 then 4 else ofM 72 3 3) (gF K G).1) (aO (if ofM 72 3 3=5 then 5 else 4) (gF K G).2.1)]])=_;rw[A,if_neg (fun h=>h rfl)];rfl
   rw[e];exact⟨dS _ _ 2 N 72 P _ [aO 3 K,aO 3 G] q _ cc Uc (by show List.length (aO 3 K::aO 3 G::q)<=_;simp only[aaa];omega) (lW ⟨a,b,c,d,q,fr,g,u,m,said⟩ 3 K 0 [] [] [] [] 3 G 0 [] [] [] [] _ (zh ⟨a,b,c,d,q,fr,g,u,m,said⟩ (ofM 72 3 3) 3 K 0 [] [] [] [] 3 G 0 [] [] [] [] (K/G) (K%G) cc A cm)),cg (S:=⟨a,b,c,d,q,fr,g,u,m,said⟩) (fu (bE Q) (iM (kH (iS cc W (fun h=>absurd rfl h)) (iS cc V (fun _=>U))))) hq⟩
  ·have e:aI 72 [] ⟨a,b,c,d,aO 3 K::aO 4 G::q,fr,g,u,m,said⟩=bg ⟨a,b,c,d,q,fr,g,u,m,said⟩ [cx [bB (aO 3 (K/G)) (aO 4 (K%G))]]:=by
    unfold aI;rw[j8];show(if(gF K G).2.2≠0 then bg ⟨a,b,c,d,q,fr,g,u,m,said⟩ [cx []]else bg ⟨a,b,c,d,q,fr,g,u,m,said⟩ [cx [bB (aO (if ofM 72 3 4=5/\4=5 then 4 else ofM 72 3 4) (gF K G).1) (aO (if ofM 72 3 4=5 then 5 else 4) (gF K G).2.1)]])=_;rw[A,if_neg (fun h=>h rfl)];rfl
   rw[e];exact⟨dS _ _ 2 N 72 P _ [aO 3 K,aO 4 G] q _ cc Uc (by show List.length (aO 3 K::aO 4 G::q)<=_;simp only[aaa];omega) (lW ⟨a,b,c,d,q,fr,g,u,m,said⟩ 3 K 0 [] [] [] [] 4 G 0 [] [] [] [] _ (zh ⟨a,b,c,d,q,fr,g,u,m,said⟩ (ofM 72 3 4) 3 K 0 [] [] [] [] 4 G 0 [] [] [] [] (K/G) (K%G) cc A cm)),cg (S:=⟨a,b,c,d,q,fr,g,u,m,said⟩) (fu (bE Q) (iM (kH (iS cc W (fun h=>absurd rfl h)) (iS cc V (fun _=>U))))) hq⟩
  ·have e:aI 72 [] ⟨a,b,c,d,aO 4 K::aO 3 G::q,fr,g,u,m,said⟩=bg ⟨a,b,c,d,q,fr,g,u,m,said⟩ [cx [bB (aO 3 (K/G)) (aO 4 (K%G))]]:=by
    unfold aI;rw[j8];show(if(gF K G).2.2≠0 then bg ⟨a,b,c,d,q,fr,g,u,m,said⟩ [cx []]else bg ⟨a,b,c,d,q,fr,g,u,m,said⟩ [cx [bB (aO (if ofM 72 4 3=5/\3=5 then 4 else ofM 72 4 3) (gF K G).1) (aO (if ofM 72 4 3=5 then 5 else 4) (gF K G).2.1)]])=_;rw[A,if_neg (fun h=>h rfl)];rfl
   rw[e];exact⟨dS _ _ 2 N 72 P _ [aO 4 K,aO 3 G] q _ cc Uc (by show List.length (aO 4 K::aO 3 G::q)<=_;simp only[aaa];omega) (lW ⟨a,b,c,d,q,fr,g,u,m,said⟩ 4 K 0 [] [] [] [] 3 G 0 [] [] [] [] _ (zh ⟨a,b,c,d,q,fr,g,u,m,said⟩ (ofM 72 4 3) 4 K 0 [] [] [] [] 3 G 0 [] [] [] [] (K/G) (K%G) cc A cm)),cg (S:=⟨a,b,c,d,q,fr,g,u,m,said⟩) (fu (bE Q) (iM (kH (iS cc W (fun h=>absurd rfl h)) (iS cc V (fun _=>U))))) hq⟩
  ·have e:aI 72 [] ⟨a,b,c,d,aO 4 K::aO 4 G::q,fr,g,u,m,said⟩=bg ⟨a,b,c,d,q,fr,g,u,m,said⟩ [cx [bB (aO 4 (K/G)) (aO 4 (K%G))]]:=by
    unfold aI;rw[j8];show(if(gF K G).2.2≠0 then bg ⟨a,b,c,d,q,fr,g,u,m,said⟩ [cx []]else bg ⟨a,b,c,d,q,fr,g,u,m,said⟩ [cx [bB (aO (if ofM 72 4 4=5/\4=5 then 4 else ofM 72 4 4) (gF K G).1) (aO (if ofM 72 4 4=5 then 5 else 4) (gF K G).2.1)]])=_;rw[A,if_neg (fun h=>h rfl)];rfl
   rw[e];exact⟨dS _ _ 2 N 72 P _ [aO 4 K,aO 4 G] q _ cc Uc (by show List.length (aO 4 K::aO 4 G::q)<=_;simp only[aaa];omega) (lW ⟨a,b,c,d,q,fr,g,u,m,said⟩ 4 K 0 [] [] [] [] 4 G 0 [] [] [] [] _ (zh ⟨a,b,c,d,q,fr,g,u,m,said⟩ (ofM 72 4 4) 4 K 0 [] [] [] [] 4 G 0 [] [] [] [] (K/G) (K%G) cc A cm)),cg (S:=⟨a,b,c,d,q,fr,g,u,m,said⟩) (fu (bE Q) (iM (kH (iS cc W (fun _=>p (p1 cc) (p2 cc))) (iS cc V (fun _=>U))))) hq⟩
end Go.Proofs
