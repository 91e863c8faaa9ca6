/- Package run: a map stays going up. Package run: rows of typed values, cut and joined. Package run: the typed step UPDATE. Package run: typed steps, by class. Package run: the frames of a typed machine. -/
import Derived.Test.YtlohbilpimjmmaaGreatDoorRunAE
import Derived.Test.YtlohbilpimjmmaaGreatDoorRunJ
set_option linter.unusedVariables false
set_option linter.unusedSimpArgs false
namespace Go.Proofs
open Go.cu
theorem Td {t:Ty} (E:fG t=true) (p:gq t=false) {a b:Vl} (h1:bL a t=true) (h2:bL b t=true) (h:¬dA a b<0) (B:dA a b≠0):dA b a<0:=by
 obtain⟨g,_⟩:=zo a b b t E p h1 h2 h2;omega
theorem sw {x y:Vl} {l:List Vl} (h:dA (lB x) (lB y)<0) (A:w9 (y::l)=true):w9 (x::y::l)=true:=by
 rw[w9];simp only[aaj,decide_eq_true_eq];exact⟨h,A⟩
theorem xU {x y:Vl} {l:List Vl} (A:w9 (x::y::l)=true):dA (lB x) (lB y)<0/\w9 (y::l)=true:=by
 rw[w9]at A;simpa only[aaj,decide_eq_true_eq]using A
theorem MX {t u:Ty} (E:fG t=true) (p:gq t=false) {k:Vl} (D:bL k t=true) (y:Vl):∀(l:List Vl),aR l (.mk 11 [t,u])=true->w9 l=true->eP l k=false->w9 (l.take (cq l k)++bB k y::l.drop (cq l k))=true
 | [],_,_,_=>rfl
 | x::l,hA,hu,hf=>by
  have N:bL x (.mk 11 [t,u])=true/\aR l (.mk 11 [t,u])=true:=by simpa[aR]using hA
  obtain⟨Y,P,rfl,U,_⟩:=nU N.1;by_cases W:dA Y k<0
  ·have V:cq (bB Y P::l) k=cq l k+1:=by simp only[cq,wC,W,if_true]
   have T:eP l k=false:=by
    unfold eP at hf ⊢;rw[V]at hf;simpa using hf
   rw[V];cases l with
   | nil=>exact sw (show dA Y k<0 from W) rfl
   | cons z r =>
    have S:=MX E p D y (z::r) N.2 (xU hu).2 T;have Q:=(xU hu).1;show w9 (bB Y P::((z::r).take (cq (z::r) k)++bB k y::(z::r).drop (cq (z::r) k)))=true;generalize cq (z::r) k=i at S;cases i with
    | zero=>exact sw (show dA Y k<0 from W) S
    | succ j=>exact sw Q S
  ·have V:cq (bB Y P::l) k=0:=by simp only[cq,wC,W,if_false]
   rw[V];have B:dA Y k≠0:=by
    unfold eP at hf;rw[V]at hf;have O:decide (dA Y k=0)=false:=hf;exact of_decide_eq_false O
   exact sw (show dA k Y<0 from Td E p U D W B) hu
theorem MY {t u:Ty} (E:fG t=true) (p:gq t=false):∀(l:List Vl) (i:Nat),aR l (.mk 11 [t,u])=true->w9 l=true->w9 (l.take i++l.drop (i+1))=true
 | [],i,_,_=>by simp[w9]
 | x::l,0,hA,hu=>by
  cases l with
  | nil=>rfl
  | cons z r=>exact(xU hu).2
 | x::l,i+1,hA,hu=>by
  have Y:bL x (.mk 11 [t,u])=true/\aR l (.mk 11 [t,u])=true:=by simpa[aR]using hA
  cases l with
  | nil=>simp[w9]
  | cons z r =>
   have S:=MY E p (z::r) i Y.2 (xU hu).2;show w9 (x::((z::r).take i++(z::r).drop (i+1)))=true;cases i with
   | zero =>
    cases r with
    | nil=>rfl
    | cons w r=>exact sw (MQ E p (z::w::r) x hA hu w cn) S
   | succ j=>exact sw (xU hu).1 S
theorem Oz {t u:Ty} (E:fG t=true) (p:gq t=false) {k:Vl} (D:bL k t=true):∀(l:List Vl),aR l (.mk 11 [t,u])=true->w9 l=true->eP l k=true->cq (l.take (cq l k)++l.drop (cq l k+1)) k=cq l k/\eP (l.take (cq l k)++l.drop (cq l k+1)) k=false
 | [],_,_,hf=>by simp[eP]at hf
 | x::l,hA,hu,hf=>by
  have T:bL x (.mk 11 [t,u])=true/\aR l (.mk 11 [t,u])=true:=by simpa[aR]using hA
  obtain⟨Y,P,rfl,V,_⟩:=nU T.1;have M:w9 l=true:=by
   cases l with
   | nil=>rfl
   | cons z r=>exact(xU hu).2
  by_cases Q:dA Y k<0
  ·have W:∀m:List Vl,cq (bB Y P::m) k=cq m k+1:=fun m=>by simp only[cq,wC,Q,if_true]
   have U:∀m:List Vl,eP (bB Y P::m) k=eP m k:=fun m=>by unfold eP;rw[W];rfl
   rw[U]at hf;have O:=Oz E p D l T.2 M hf;rw[W];show cq (bB Y P::(l.take (cq l k)++l.drop (cq l k+1))) k=cq l k+1/\eP (bB Y P::(l.take (cq l k)++l.drop (cq l k+1))) k=false;rw[W,U];exact⟨by rw[O.1],O.2⟩
  ·have W:cq (bB Y P::l) k=0:=by simp only[cq,wC,Q,if_false]
   unfold eP at hf;rw[W]at hf;have B:dA Y k=0:=of_decide_eq_true hf;have S:Y=k:=(zo Y k k t E p V D D).zero.1 B;subst S;rw[W];show cq l Y=0/\eP l Y=false;cases l with
   | nil=>exact⟨rfl,rfl⟩
   | cons z r =>
    obtain⟨A,C,rfl,N,_⟩:=nU ((fh _ _).1 T.2 z cn);have H:dA Y A<0:=(xU hu).1;have g:=zo Y A A t E p V N N;have K:dA A Y>0:=by have:=g.neg;omega
    have h1:cq (bB A C::r) Y=0:=by exact if_neg (show ¬dA A Y<0 by omega)
    refine⟨h1,?_⟩;unfold eP;rw[h1];show decide (dA A Y=0)=false;exact aaw bn
end Go.Proofs
namespace Go.Proofs
open Go.cu
theorem mo {t:Ty}:∀(a b:List Vl),aR (a++b) t=(aR a t&&aR b t)
 | [],b=>by simp[aR]
 | x::a,b=>by simp only[List.cons_append,aR,mo a b,Bool.and_assoc]
theorem pn:∀(a b:List Vl),ey (a++b)=(ey a&&ey b)
 | [],b=>by simp[ey]
 | x::a,b=>by simp only[List.cons_append,ey,pn a b,Bool.and_assoc]
theorem mq:∀(a b:List Vl),aL (a++b)=aL a+aL b
 | [],b=>by simp[aL]
 | x::a,b=>by simp only[List.cons_append,aL,mq a b];omega
theorem vu {t:Ty} {l:List Vl} (h:aR l t=true) (i:Nat):aR (l.take i) t=true/\aR (l.drop i) t=true:=by
 have e:=mo (t:=t) (l.take i) (l.drop i);rw[List.take_append_drop,h]at e;simpa using e.symm
theorem AF {l:List Vl} (h:ey l=true) (i:Nat):ey (l.take i)=true/\ey (l.drop i)=true:=by
 have e:=pn (l.take i) (l.drop i);rw[List.take_append_drop,h]at e;simpa using e.symm
theorem vv (l:List Vl) (i:Nat):aL (l.take i)+aL (l.drop i)=aL l:=by
 have e:=mq (l.take i) (l.drop i);rw[List.take_append_drop]at e;omega
end Go.Proofs
namespace Go.Proofs
open Go.cu
theorem HJ:bV 63=3:=by decide +kernel
theorem HK (S:bT) (N:Int) (G:List UInt8) (args:List Nd) (codes:List (List Ty->CR)) (B s:List Ty) (r:List Ty×Bool) (hf:bQ 63 args=some B) (A:dK s S.st) (hl:s.length<=340) (hg:r.1.all bA=true) (P:cK 63 codes B s=(r,0)):bl N G 63 args S/\bR S r (aI 63 args S):=by
 obtain⟨a,b,c,d,st,fr,g,u,m,said⟩:=S;obtain⟨rfl,rfl⟩:=cH hf cc;have eD:=bJ A;simp only at A eD;rcases s with _|⟨t1,_|⟨t2,_|⟨t3,s⟩⟩⟩
 ·cases P
 ·cases P
 ·cases P
 obtain⟨v,q0,rfl,hv,rI⟩:=bp A;obtain⟨w,q1,rfl,hw,Ew⟩:=bp rI;obtain⟨z,q,rfl,hz,hq⟩:=bp Ew;have f1:=cQ hv.1;have f2:=cQ hw.1;have f3:=cQ hz.1;obtain⟨T2,B5⟩:=t2;obtain⟨T3,ts3⟩:=t3;simp only[aaa]at eD hl;have dy:(if T2=9/\T3=13/\cP t1 (aD (.mk T3 ts3) 0)=true/\cP (aD (.mk T2 B5) 0) (aD (.mk T3 ts3) 1)=true then ep (.mk T3 ts3::s)else aP 5)=(r,0):=P;split at dy;rotate_left
 ·cases dy
 rename_i c1;cases dy;obtain⟨rfl,rfl,c2,c3⟩:=c1;obtain⟨t0,rfl,ok0⟩:=eY (cL f2.1) cc;obtain⟨t,t',rfl,Oq,Ub⟩:=eN (cL f3.1) cc;have et:t1=t:=(gm _ _).1 c2;have et2:t0=t':=(gm _ _).1 c3;subst et et2;obtain⟨l,rfl,p,Y,Vi,hls⟩:=B9 f3.2.1 f3.2.2;have Z8:=hz.2;simp only[aM,br,aQ,aab]at Z8;have hsv:=hv.2;have Q:=Oy f3.1;have V:=D1 Q.1 Q.2 Y Vi f1.2.1 p bn;have Vd:=D2 l v;have L2:=vv l (cq l v);have Km:=vv l (cq l v+1);have M:=vu Y (cq l v);have N4:=vu Y (cq l v+1);have E:=AF hls (cq l v);have XO:=AF hls (cq l v+1);have D:∀(e:Int) (S':bT),cE 86 ⟨a,b,c,d,q,fr,g,u,m,said⟩ [.c (aW (.mk 2 N 63 G [])),.c (.sl 7 (aa [v,w,.mk 13 0 0 [] l [] []]))] (aF e) S'->cE 57 ⟨a,b,c,d,v::w :: .mk 13 0 0 [] l [] []::q,fr,g,u,m,said⟩ [.c (aW (.mk 2 N 63 G []))] (aF e) S':=fun e S' h =>
  ql _ _ 2 N 63 G _ [_,_,_] q _ cc (by rw[HJ];rfl) (by show List.length (v::w::Vl.mk 13 0 0 [] l [] []::q)<=_;simp only[aaa];omega) h
 unfold bl;rcases OA f2.2.1 f2.2.2 with rfl|⟨y,rfl,hy⟩
 ·have e:aI 63 [] ⟨a,b,c,d,v::cx [] :: .mk 13 0 0 [] l [] []::q,fr,g,u,m,said⟩=bg ⟨a,b,c,d,q,fr,g,u,m,said⟩ [.mk 13 0 0 [] (if eP l v=true then l.take (cq l v)++l.drop (cq l v+1)else l) [] []]:=by unfold aI;rw[HJ];rfl
  rw[e];by_cases h:eP l v=true
  ·rw[if_pos h];have I:=MY Q.1 Q.2 l (cq l v) Y Vi;rw[h]at V;have hi:cq l v<l.length:=by
    unfold eP at h;cases hh:l[cq l v]? with
    | none=>rw[hh]at h;cases h
    | some x=>exact(List.getElem?_eq_some_iff.1 hh).1
   have Kn:=zm (l:=l.take (cq l v)++l.drop (cq l v+1)) (t:=t1) (u:=t0) Rl (by rw[mo,M.1,N4.2];rfl) I (by rw[pn,E.1,XO.2];rfl);have J:aM (.mk 13 0 0 [] (l.take (cq l v)++l.drop (cq l v+1)) [] [])<=8589934593:=by simp only[aM,mq,br,aQ,aab];omega
   refine⟨D _ _ ?_,cg (S:=⟨a,b,c,d,q,fr,g,u,m,said⟩) (fu (bE hg) Kn) hq⟩;clear D e hv A P L2 Km M N4 E XO Kn I;obtain⟨U,K,C,T,W,O,H⟩:=v;cases l with
   | nil=>simp at hi
   | cons x l=>exact Ko ⟨a,b,c,d,q,fr,g,u,m,said⟩ N G U K C T W O H 9 0 0 [] [] [] 13 0 0 [] [] [] x l Qt _ (by simpa using hi) V J cm
  ·rw[if_neg h];rw[show eP l v=false by simpa using h]at V;refine⟨D _ _ ?_,cg (S:=⟨a,b,c,d,q,fr,g,u,m,said⟩) (fu (bE hg) (zm p Y Vi hls)) hq⟩;have J:aM (.mk 13 0 0 [] l [] [])<=8589934593:=by simp only[aM,br,aQ,aab];omega
   clear D e hv A P L2 Km M N4 E XO;obtain⟨U,K,C,T,W,O,H⟩:=v;cases l with
   | nil=>exact Kp ⟨a,b,c,d,q,fr,g,u,m,said⟩ N G U K C T W O H 9 0 0 [] [] [] 13 0 0 [] [] [] _ V cm
   | cons x l=>exact Kq ⟨a,b,c,d,q,fr,g,u,m,said⟩ N G U K C T W O H 9 0 0 [] [] [] 13 0 0 [] [] [] x l Qt _ V J cm
 ·have e:aI 63 [] ⟨a,b,c,d,v::cx [y] :: .mk 13 0 0 [] l [] []::q,fr,g,u,m,said⟩=(if 24<=((if eP l v=true then l.take (cq l v)++l.drop (cq l v+1)else l)).length then((13,⟨a,b,c,d,q,fr,g,u,m,said⟩):MR)else bg ⟨a,b,c,d,q,fr,g,u,m,said⟩ [.mk 13 0 0 [] (((if eP l v=true then l.take (cq l v)++l.drop (cq l v+1)else l)).take (cq l v)++bB v y::((if eP l v=true then l.take (cq l v)++l.drop (cq l v+1)else l)).drop (cq l v)) [] []]):=by unfold aI;rw[HJ];rfl
  have hsy:=hw.2;simp only[cx,aM,aL,br,aQ,aab]at hsy;have Kr:=kH f1.2 hy;by_cases h:eP l v=true
  ·rw[if_pos h]at e;have hi:cq l v<l.length:=by
    unfold eP at h;cases hh:l[cq l v]? with
    | none=>rw[hh]at h;cases h
    | some x=>exact(List.getElem?_eq_some_iff.1 hh).1
   have hXl:(l.take (cq l v)++l.drop (cq l v+1)).length+1=l.length:=by rw[aax,List.length_take,List.length_drop];omega
   have hXa:aR (l.take (cq l v)++l.drop (cq l v+1)) (.mk 11 [t1,t0])=true:=by rw[mo,M.1,N4.2];rfl
   have hXs:ey (l.take (cq l v)++l.drop (cq l v+1))=true:=by rw[pn,E.1,XO.2];rfl
   have hXu:=MY Q.1 Q.2 l (cq l v) Y Vi;have hsk:=Oz Q.1 Q.2 f1.2.1 l Y Vi h;have I:=MX Q.1 Q.2 f1.2.1 y _ hXa hXu hsk.2;rw[hsk.1]at I;have hXz:aL (l.take (cq l v)++l.drop (cq l v+1))<=2000000000:=by rw[mq];omega
   rw[if_neg bn]at e;rw[e];rw[h]at V;generalize hX:l.take (cq l v)++l.drop (cq l v+1)=X at *;have c1:=vu hXa (cq l v);have c2:=AF hXs (cq l v);have c3:=vv X (cq l v);have Kn:=zm (t:=t1) (u:=t0) OM (show aR (X.take (cq l v)++bB v y::X.drop (cq l v)) _=true by rw[mo,c1.1,aR,Kr.1,c1.2];rfl) I (by rw[pn,c2.1,ey,Kr.2,c2.2];rfl);have J:aM (.mk 13 0 0 [] (X.take (cq l v)++bB v y::X.drop (cq l v)) [] [])<=8589934593:=by simp only[bB,aM,mq,aL,br,aQ,aab];omega
   refine⟨D _ _ ?_,cg (S:=⟨a,b,c,d,q,fr,g,u,m,said⟩) (fu (bE hg) Kn) hq⟩;subst hX;clear D e hv A P L2 Km M N4 E XO Kn I c1 c2 c3 hXa hXs hXu hsk hXz Kr;obtain⟨U,K,C,T,W,O,H⟩:=v;rcases l with _|⟨x,_|⟨x2,l⟩⟩
   ·simp at hi
   ·have h0:cq [x] (.mk U K C T W O H)=0:=by simpa using hi
    rw[h0]at V J ⊢;exact HL ⟨a,b,c,d,q,fr,g,u,m,said⟩ N G U K C T W O H 9 0 0 [] [] [] 13 0 0 [] [] [] x y V J cm
   ·exact HM ⟨a,b,c,d,q,fr,g,u,m,said⟩ N G U K C T W O H 9 0 0 [] [] [] 13 0 0 [] [] [] x (x2::l) (by simp only[aaa]at p ⊢;omega) y _ (by simpa using hi) cn (by simp only[aaa]at p ⊢;omega) V J cm
  ·rw[if_neg h]at e;have h':eP l v=false:=by simpa using h
   rw[h']at V;rw[e];by_cases Wn:24<=l.length
   ·rw[if_pos Wn];refine⟨D _ _ ?_,.inr (.inr rfl)⟩;clear D e hv A P L2 Km M N4 E XO Kr;obtain⟨U,K,C,T,W,O,H⟩:=v;cases l with
    | nil=>simp at Wn
    | cons x l=>exact HN ⟨a,b,c,d,q,fr,g,u,m,said⟩ N G U K C T W O H 9 0 0 [] [] [] 13 0 0 [] [] [] x l Qt y _ (by simpa using Wn) V cm
   ·rw[if_neg Wn];have I:=MX Q.1 Q.2 f1.2.1 y l Y Vi h';have Kn:=zm (t:=t1) (u:=t0) OM (show aR (l.take (cq l v)++bB v y::l.drop (cq l v)) _=true by rw[mo,M.1,aR,Kr.1,M.2];rfl) I (by rw[pn,E.1,ey,Kr.2,E.2];rfl);have J:aM (.mk 13 0 0 [] (l.take (cq l v)++bB v y::l.drop (cq l v)) [] [])<=8589934593:=by simp only[bB,aM,mq,aL,br,aQ,aab];omega
    refine⟨D _ _ ?_,cg (S:=⟨a,b,c,d,q,fr,g,u,m,said⟩) (fu (bE hg) Kn) hq⟩;clear D e hv A P L2 Km M N4 E XO Kn I Kr;obtain⟨U,K,C,T,W,O,H⟩:=v;cases l with
    | nil=>exact Ks ⟨a,b,c,d,q,fr,g,u,m,said⟩ N G U K C T W O H 9 0 0 [] [] [] 13 0 0 [] [] [] y V J cm
    | cons x l=>exact Kt ⟨a,b,c,d,q,fr,g,u,m,said⟩ N G U K C T W O H 9 0 0 [] [] [] 13 0 0 [] [] [] x l Qt y _ (by simpa using Vd) (by simpa using Wn) V J cm
end Go.Proofs
namespace Go.Proofs
open Go.cu
theorem E2 (P:Int) (O:P=69\/P=70\/P=71\/P=72\/P=93\/P=94\/P=95) (S:bT) (N:Int) (G:List UInt8) (args:List Nd) (W:aQ args<=8589934593) (p:List (List Ty->CR)) (H s:List Ty) (r:List Ty×Bool) (hf:bQ P args=some H) (Y:dK s S.st) (C:s.length<=340) (Q:r.1.all bA=true) (E:bU P s=(r,0)):bl N G P args S/\bR S r (aI P args S):=by
 rcases O with rfl|rfl|rfl|rfl|rfl|rfl|rfl
 ·exact P7 S N G args H s r hf Y C Q E
 ·exact P8 S N G args H s r hf Y C Q E
 ·exact P9 S N G args H s r hf Y C Q E
 ·exact Qa S N G args H s r hf Y C Q E
 ·exact Qb S N G args H s r hf Y C Q E
 ·exact Qc S N G args H s r hf Y C Q E
 ·exact Qd S N G args H s r hf Y C Q E
theorem MZ (P:Int) (O:P=73\/P=74\/P=75\/P=76\/P=77\/P=78\/P=79\/P=80\/P=81\/P=82) (S:bT) (N:Int) (G:List UInt8) (args:List Nd) (W:aQ args<=8589934593) (p:List (List Ty->CR)) (H s:List Ty) (r:List Ty×Bool) (hf:bQ P args=some H) (Y:dK s S.st) (C:s.length<=340) (Q:r.1.all bA=true) (E:ct P H s=(r,0)):bl N G P args S/\bR S r (aI P args S):=by
 rcases O with rfl|rfl|rfl|rfl|rfl|rfl|rfl|rfl|rfl|rfl
 ·exact Qe S N G args H s r hf Y C Q E
 ·exact Ku S N G args H s r hf Y C Q E
 ·exact Kv S N G args H s r hf Y C Q E
 ·exact Kw S N G args H s r hf Y C Q E
 ·exact Qf S N G args H s r hf Y C Q E
 ·exact Qg S N G args H s r hf Y C Q E
 ·exact Te S N G args H s r hf Y C Q E
 ·exact HO S N G args H s r hf Y C Q E
 ·exact M0 S N G args H s r hf Y C Q E
 ·exact HP S N G args W H s r hf Y C Q E
theorem Kx (P:Int) (O:P=84\/P=85\/P=86\/P=87\/P=88\/P=89\/P=90\/P=91\/P=92) (S:bT) (T:qk S.self S.gU S.gV S.balance=true) (u:0<=S.aU/\S.aU<=bM) (N:Int) (G:List UInt8) (args:List Nd) (Y:aQ args<=8589934593) (p:List (List Ty->CR)) (H s:List Ty) (r:List Ty×Bool) (hf:bQ P args=some H) (W:dK s S.st) (C:s.length<=340) (Q:r.1.all bA=true) (E:b8 P H s=(r,0)):bl N G P args S/\bR S r (aI P args S):=by
 rcases O with rfl|rfl|rfl|rfl|rfl|rfl|rfl|rfl|rfl
 ·exact HF S T u N G args Y H s r hf W C Q E
 ·exact MJ S T u N G args Y H s r hf W C Q E
 ·exact Kc S T u N G args Y H s r hf W C Q E
 ·exact MM S T u N G args Y H s r hf W C Q E
 ·exact DY S T u N G args Y H s r hf W C Q E
 ·exact MH S T u N G args Y H s r hf W C Q E
 ·exact HB S T u N G args Y H s r hf W C Q E
 ·exact HD S T u N G args Y H s r hf W C Q E
 ·exact EW S T u N G args Y H s r hf W C Q E
theorem Ky (P:Int) (O:P=59\/P=61\/P=62\/P=63) (S:bT) (N:Int) (G:List UInt8) (args:List Nd) (W:aQ args<=8589934593) (p:List (List Ty->CR)) (H s:List Ty) (r:List Ty×Bool) (hf:bQ P args=some H) (Y:dK s S.st) (C:s.length<=340) (Q:r.1.all bA=true) (E:cK P p H s=(r,0)):bl N G P args S/\bR S r (aI P args S):=by
 rcases O with rfl|rfl|rfl|rfl
 ·exact MO S N G args p H s r hf Y C Q E
 ·exact Kj S N G args p H s r hf Y C Q E
 ·exact P6 S N G args p H s r hf Y C Q E
 ·exact HK S N G args p H s r hf Y C Q E
theorem E3 (P:Int) (O:P=46\/P=47\/P=48\/P=49\/P=50\/P=51\/P=53\/P=54\/P=56\/P=57) (S:bT) (N:Int) (G:List UInt8) (args:List Nd) (W:aQ args<=8589934593) (p:List (List Ty->CR)) (H s:List Ty) (r:List Ty×Bool) (hf:bQ P args=some H) (Y:dK s S.st) (C:s.length<=340) (Q:r.1.all bA=true) (E:aX P p H s=(r,0)):bl N G P args S/\bR S r (aI P args S):=by
 rcases O with rfl|rfl|rfl|rfl|rfl|rfl|rfl|rfl|rfl|rfl
 ·exact M1 S N G args p H s r hf Y C Q E
 ·exact HQ S N G args p H s r hf Y C Q E
 ·exact Qh S N G args p H s r hf Y C Q E
 ·exact Qi S N G args p H s r hf Y C Q E
 ·exact M3 S N G args p H s r hf Y C Q E
 ·exact Kz S N G args p H s r hf Y C Q E
 ·exact M4 S N G args p H s r hf Y C Q E
 ·exact M5 S N G args p H s r hf Y C Q E
 ·exact Qj S N G args p H s r hf Y C Q E
 ·exact MN S N G args p H s r hf Y C Q E
end Go.Proofs
namespace Go.Proofs
open Go.cu
mutual
theorem D3:∀(t:Ty) (d n N B m:Int),N<=d->B<=n->eR t d n=(true,m)->eR t N B=(true,m-n+B)
 | .mk T args,d,n,N,B,m,H,O,h=>by
  simp only[eR]at h ⊢;by_cases c:d>24\/n+1>300\/arity T≠args.length
  ·rw[if_pos c]at h;cases h
  rw[if_neg c]at h;have J:¬(N>24\/B+1>300\/arity T≠args.length):=by
   rintro(G|G|G)
   ·exact c (.inl bn)
   ·exact c (.inr (.inl bn))
   ·exact c (.inr (.inr G))
  rw[if_neg J];cases e:dM args (d+1) (n+1)with
  | mk b D =>
   rw[e]at h;cases b with
   | false=>cases h
   | true =>
    have h2:=Bq args (d+1) (n+1) (N+1) (B+1) D bn bn e;rw[h2];simp only[Prod.mk.injEq]at h ⊢;exact⟨h.1,bn⟩
theorem Bq:∀(l:List Ty) (d n N B m:Int),N<=d->B<=n->dM l d n=(true,m)->dM l N B=(true,m-n+B)
 | [],d,n,N,B,m,H,O,h=>by
  simp only[dM,Prod.mk.injEq]at h ⊢;exact⟨trivial,bn⟩
 | t::l,d,n,N,B,m,H,O,h=>by
  simp only[dM]at h ⊢;cases e:eR t d n with
  | mk b D =>
   rw[e]at h;cases b with
   | false=>cases h
   | true =>
    have h2:=D3 t d n N B D H O e;rw[h2];have V:=Bq l d D N (D-n+B) m H bn h;show dM l N (D-n+B)=_;rw[V];simp only[Prod.mk.injEq];exact⟨trivial,bn⟩
end
theorem KA {t:Ty} {d n m:Int} (h:eR t d n=(true,m)):n<=299/\n<m:=by
 have h1:n<=299:=by
  obtain⟨T,args⟩:=t;simp only[eR]at h;by_cases c:d>24\/n+1>300\/arity T≠args.length
  ·simp_all
  ·omega
 have h2:=(rJ t d n bn).1;rw[h]at h2;exact⟨h1,h2⟩
theorem D4:∀{l:List Ty} {d n m:Int} {x:Ty},dM l d n=(true,m)->0<=n->x∈l->∃K D,0<=K/\eR x d K=(true,D)
 | t::l,d,n,m,x,h,N,O=>by
  simp only[dM]at h;cases e:eR t d n with
  | mk b D =>
   rw[e]at h;cases b with
   | false=>cases h
   | true =>
    rcases List.mem_cons.1 O with rfl|O
    ·exact⟨n,D,N,e⟩
    ·have:=(KA e).2;exact D4 (l:=l) h bn O
theorem pq {T:Int} {args:List Ty} (h:bA (.mk T args)=true):∀x∈args,bA x=true:=by
 intro x O;unfold bA at h;simp only[eR]at h;split at h
 ·cases h
 ·cases e:dM args (1+1) (0+1)with
  | mk b D =>
   rw[e]at h;cases b with
   | false=>cases h
   | true =>
    obtain⟨K,q,h1,h2⟩:=D4 e bn O;have V:=D3 x _ K 1 0 q bn bn h2;unfold bA;rw[V]
theorem M6 {args:List Ty} (h:bA (.mk 13 args)=true):bA (.mk 11 args)=true:=by
 unfold bA at h ⊢;simp only[eR]at h ⊢;split at h
 ·cases h
 ·rename_i c;have Y:arity 13=2:=rfl;have W:arity 11=2:=rfl;rw[Y]at c;rw[W,if_neg c];cases e:dM args (1+1) (0+1)with
  | mk b D =>
   rw[e]at h;cases b with
   | false=>cases h
   | true=>rfl
theorem KB {kind n p:Int} {s:List UInt8} {k:Nat} {d N:Int} (H:N<=d) (h:fV kind n p s k d=0):fV kind n p s k N=0:=by
 unfold fV at h ⊢;by_cases c:d>24
 ·omega
 rw[if_neg c]at h;rw[if_neg bn];exact h
mutual
theorem M7:∀(n:Nd) (d N:Int),N<=d->ef n d=0->ef n N=0
 | .mk kind n p s args,d,N,H,h=>by
  obtain⟨h1,h2⟩:=hM h;simp only[ef];rw[if_pos (KB H h1)];exact vw args _ _ bn h2
theorem vw:∀(l:List Nd) (d N:Int),N<=d->cU l d=0->cU l N=0
 | [],_,_,_,_=>rfl
 | x::l,d,N,H,h=>by
  simp only[cU]at h ⊢;by_cases c:ef x d=0
  ·rw[if_pos c]at h;rw[if_pos (M7 x d N H c)];exact vw l d N H h
  ·rw[if_neg c]at h;exact absurd h c
end
theorem D5:∀{l:List Nd} {x:Nd} {d:Int},cU l d=0->x∈l->ef x d=0
 | y::l,x,d,h,O=>by
  simp only[cU]at h;by_cases c:ef y d=0
  ·rw[if_pos c]at h;rcases List.mem_cons.1 O with rfl|O
   ·exact c
   ·exact D5 h O
  ·omega
theorem F9:∀{l:List Nd} {x:Nd},x∈l->many x<=cr l
 | y::l,x,O=>by
  simp only[cr];rcases List.mem_cons.1 O with rfl|O
  ·omega
  ·have:=F9 O;omega
def jj (B:List Nd):Prop:=dj (.mk 3 0 0 [] B)=0
theorem wD {B:List Nd}:jj B↔cU B 2=0/\cr B<=299:=by
 unfold jj;rw[gr];simp only[many];constructor
 ·rintro⟨h1,h2⟩;exact⟨(hM h1).2,bn⟩
 ·rintro⟨h1,h2⟩;refine⟨?_,bn⟩;simp only[ef];rw[if_pos (by simp[fV,bM])];exact h1
theorem lX {B:List Nd} (h:jj B):cr B<=299:=(wD.1 h).2
theorem xV {B:List Nd} (h:jj B):aQ B<=60300:=by
 have:=xW h;simp only[bN,aab]at this;omega
theorem pz {B:List Nd} {k N P:Int} {S:List UInt8} {args:List Nd} (h:jj B) (u:Nd.mk k N P S args∈B):jj args/\cr args+1<=cr B:=by
 obtain⟨h1,h2⟩:=wD.1 h;have V:=(hM (D5 h1 u)).2;have D:=F9 u;simp only[many]at D;exact⟨wD.2 ⟨vw _ _ _ bn V,bn⟩,D⟩
theorem KC {n:Nd} (h:dj n=0):jj (bh n):=by
 obtain⟨k,N,P,S,args⟩:=n;obtain⟨h1,h2⟩:=gr.1 h;simp only[many]at h2;exact wD.2 ⟨(hM h1).2,by simp only[bh];omega⟩
def Br (B:List Nd) (s P:List Ty) (G:Bool):Prop:=cw B (s,false)=((P,G),0)
def FT (T:List Ty×Bool):List eO->List Ty->Prop
 | [],s=>T=(s,false)
 | F::t,s=>s.length+cr F.code<=340/\jj F.code/\F.pos<=F.code.length/\∃P G,Br (F.code.drop F.pos) s P G/\(G=false ->
   (F.fin=0/\FT T t P) \/
   (F.fin=1/\F.aside.length<=1/\∃u,dK u F.aside.reverse/\FT T t (u++P)) \/
   (F.fin=2/\F.aside.length<=340/\∃Y u,P=[Y]/\dK u F.aside.reverse/\FT T t (Y::u)) \/
   (F.fin=3/\∃e,(∀x∈F.aside,Fit e x)/\P.length+1+cr F.code<=340/\(∃E W,Br F.code (e::P) E W/\(W=false->E=P))/\FT T t P) \/
   (F.fin=4/\∃a S,P=a::S/\bS a=2/\S.length+cr F.code<=340/\(∃E W,Br F.code S E W/\(W=false->E=a::S))/\FT T t S))
def Vk (F:eO):Nat:=1+2*cr (F.code.drop F.pos)
def xX:List eO->Nat
 | []=>0
 | F::t=>Vk F+xX t
theorem uF:∀t:List eO,t.length<=xX t
 | []=>aam _
 | F::t=>by have:=uF t;simp only[aaa,xX,Vk];omega
theorem tv {a b:CR} {r:List Ty×Bool} (h:cT a b=(r,0)):a.2=0/\(a.1.2=false->r=a.1):=by
 unfold cT at h;split at h
 ·rename_i c;exact absurd (congrArg Prod.snd h) c
 rename_i Y;simp only[ne_eq,Decidable.not_not]at Y;refine⟨Y,fun hf=>?_⟩;split at h
 ·rename_i c;exact absurd (congrArg Prod.snd h) c
 rw[if_neg (by rw[hf];decide)]at h;split at h
 ·cases h;rfl
 ·cases h
theorem tw {a b:CR} {r:List Ty×Bool} (h:cT a b=(r,0)):b.2=0/\(b.1.2=false->r=b.1):=by
 unfold cT at h;split at h
 ·rename_i c;exact absurd (congrArg Prod.snd h) c
 split at h
 ·rename_i c;exact absurd (congrArg Prod.snd h) c
 rename_i W J;simp only[ne_eq,Decidable.not_not]at J;refine⟨J,fun hf=>?_⟩;by_cases Y:a.1.2=true
 ·simp_all
 rw[if_neg Y]at h;split at h
 ·rename_i c4;cases h;have e:=(mu _ _).1 (c4.resolve_left (by rw[hf];decide));have E:a.1.2=false:=by simpa using Y
  rw[Prod.ext_iff];exact⟨e,by rw[E,hf]⟩
 ·cases h
theorem AG {B:List Nd} {s:List Ty} (h:(cw B (s,false)).2=0):Br B s (cw B (s,false)).1.1 (cw B (s,false)).1.2:=by
 unfold Br;rw[<- h]
theorem HS {T:List Ty×Bool} {fr:List eO} {c:List Nd} {E:List Ty} {r:List Ty×Bool} (p:(cw c (E,false)).2=0) (I:(cw c (E,false)).1.2=false->r=(cw c (E,false)).1) (C:E.length+cr c<=340) (u:jj c)
  (h:r.2=false->FT T fr r.1):FT T (⟨c,0,0,[]⟩::fr) E:=by
 refine⟨C,u,Nat.zero_le _,(cw c (E,false)).1.1,(cw c (E,false)).1.2,AG p,fun hf => .inl ⟨rfl,?_⟩⟩;have e:=I hf;rw[e]at h;exact h hf
def XP (T:List Ty×Bool) (S:bT) (r:List Ty×Bool) (o:MR):Prop :=
 o.1=0/\∃F E,o.2.fr=F::S.fr/\jj F.code/\dK E o.2.st/\((r.2=false->FT T S.fr r.1)->FT T (F::S.fr) E)
def Comes (T:List Ty×Bool) (S:bT) (r:List Ty×Bool) (o:MR):Prop:=bR S r o\/XP T S r o\/Wo o
theorem M8 {P:Int} {args:List Nd} {H:List Ty} (h:bQ P args=some H) (Y:fS P=[99]):∃p q r c,args=[.mk 3 p q r c]/\H=[]:=by
 obtain⟨h1,h2⟩:=jN h;rw[Y]at h1 h2;rcases args with _|⟨x,_|⟨y,l⟩⟩
 ·simp at h1
 ·obtain⟨kind,N,p,q,xs⟩:=x;have V:(if kind=3 then some []else none)=some H:=h2;split at V
  ·simp_all
  ·cases V
 ·simp at h1
theorem Ca {P:Int} {args:List Nd} {H:List Ty} (h:bQ P args=some H) (T:fS P=[99,99]):∃p q r c W V O G,args=[.mk 3 p q r c,.mk 3 W V O G]/\H=[]:=by
 obtain⟨h1,h2⟩:=jN h;rw[T]at h1 h2;rcases args with _|⟨x,_|⟨y,_|⟨z,l⟩⟩⟩
 ·simp at h1
 ·simp at h1
 ·obtain⟨kind,N,p,q,xs⟩:=x;obtain⟨Y,Q,W,V,S⟩:=y;have U:(if kind=3 then(if Y=3 then some []else none)else none)=some H:=h2;split at U
  ·simp_all
  ·cases U
 ·simp at h1
theorem Tf {P:Int} {args:List Nd} {H:List Ty} (h:bQ P args=some H) (Q:fS P=[116,116,99]):∃x y p q r c,args=[x,y,.mk 3 p q r c]/\(aZ x).2=0/\(aZ y).2=0/\H=[(aZ x).1,(aZ y).1]:=by
 obtain⟨h1,h2⟩:=jN h;rw[Q]at h1 h2;rcases args with _|⟨x,_|⟨y,_|⟨z,_|⟨K,l⟩⟩⟩⟩
 ·simp at h1
 ·simp at h1
 ·simp at h1
 ·obtain⟨kind,N,p,q,xs⟩:=x;obtain⟨Y,V,U,T,W⟩:=y;obtain⟨O,J,B,I,M⟩:=z;have S:(if(aZ (.mk kind N p q xs)).2=0 then(if(aZ (.mk Y V U T W)).2=0 then(if O=3 then some ([]++[(aZ (.mk kind N p q xs)).1]++[(aZ (.mk Y V U T W)).1])else none)else none)else none)=some H:=h2;split at S
  ·grind
  ·cases S
 ·simp at h1
theorem Cb:bV 52=1:=by decide +kernel
theorem Cc:bV 55=1:=by decide +kernel
theorem Cd:bV 58=1:=by decide +kernel
theorem OB:bV 60=1:=by decide +kernel
theorem Ce:bV 64=1:=by decide +kernel
theorem OC:bV 65=1:=by decide +kernel
theorem OD:bV 66=0:=by decide +kernel
theorem OE:bV 67=2:=by decide +kernel
theorem OF:bV 68=1:=by decide +kernel
theorem D6:∀{l:List Vl} {x:Vl},ey l=true->x∈l->eK x=true
 | y::l,x,h,O=>by
  simp only[ey,aaj]at h;rcases List.mem_cons.1 O with rfl|O
  ·exact h.1
  ·exact D6 h.2 O
theorem Vm {v:Vl} {t u:Ty} (h:bL v (.mk 14 [t,u])=true) (W:eK v=true):∃B,v = .mk 14 0 0 [] [] [t,u] B/\jj B/\(cw B ([t],false)).2=0/\((cw B ([t],false)).1.2=false->(cw B ([t],false)).1.1=[u])/\ju B=false:=by
 obtain⟨k,n,a,s,args,H,B⟩:=v;obtain⟨D,T,S⟩:=lP h;simp only[bS]at D;subst D;have Q:H.length=2/\a=0/\n=0/\s=[]/\args.length=0:=by simpa[cB]using T
 obtain⟨V,rfl,rfl,rfl,p⟩:=Q;obtain rfl:=List.length_eq_zero_iff.1 p;rcases H with _|⟨N,_|⟨P,_|⟨K,q⟩⟩⟩
 ·simp at V
 ·simp at V
 ·have h2:(cP t N&&cP u P)=true:=by
   have U:=h;unfold bL at U;simp only[cB,bS,aD,au]at U;simpa using U
  rw[aaj]at h2;obtain rfl:=(gm _ _).1 h2.1;obtain rfl:=(gm _ _).1 h2.2;rw[D7 14 0 0 [] [] t u B rfl]at W;simp only[aaj,aay,decide_eq_true_eq,Bool.not_eq_true']at W;obtain⟨⟨Y,J⟩,O⟩:=W;obtain⟨g1,_,_,_,M⟩:=sF Y;rw[M]at Y J;simp only[bh]at Y J;refine⟨B,rfl,g1,Y,fun hf=>?_,O⟩;rcases J with J|J
  ·simp_all
  ·exact(mu _ _).1 J
 ·simp at V
end Go.Proofs
