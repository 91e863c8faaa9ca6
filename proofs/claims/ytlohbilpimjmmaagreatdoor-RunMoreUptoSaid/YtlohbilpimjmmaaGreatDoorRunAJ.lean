/- Package run: a map stays going up. Package run: rows of typed values, cut and joined. Package run: the typed step UPDATE. Package run: typed steps, by class. Package run: the frames of a typed machine. -/
import Derived.Test.YtlohbilpimjmmaaGreatDoorRunAE
import Derived.Test.YtlohbilpimjmmaaGreatDoorRunJ
set_option linter.unusedVariables false
set_option linter.unusedSimpArgs false
namespace Go.Proofs
open Go.cq
theorem Tv {t:Ty} (E:fC t=true) (G:gm t=false) {a b:Vl} (h1:bK a t=true) (h2:bK b t=true) (h:¬dx a b<0) (U:dx a b≠0):dx b a<0:=by
 obtain⟨g,_⟩:=zB a b b t E G h1 h2 h2;omega
theorem sF {x y:Vl} {l:List Vl} (h:dx (lJ x) (lJ y)<0) (A:xo (y::l)=true):xo (x::y::l)=true:=by
 rw[xo];simp only[aai,decide_eq_true_eq];exact⟨h,A⟩
theorem x9 {x y:Vl} {l:List Vl} (A:xo (x::y::l)=true):dx (lJ x) (lJ y)<0/\xo (y::l)=true:=by
 rw[xo]at A;simpa only[aai,decide_eq_true_eq]using A
theorem M9 {t u:Ty} (E:fC t=true) (G:gm t=false) {k:Vl} (D:bK k t=true) (y:Vl):∀(l:List Vl),aR l (.mk 11 [t,u])=true->xo l=true->eM l k=false->xo (l.take (cg l k)++bz k y::l.drop (cg l k))=true
 | [],_,_,_=>rfl
 | x::l,hA,hu,hf=>by
  have N:bK x (.mk 11 [t,u])=true/\aR l (.mk 11 [t,u])=true:=by simpa[aR]using hA
  obtain⟨O,T,rfl,V,_⟩:=nX N.1;by_cases W:dx O k<0
  ·have Y:cg (bz O T::l) k=cg l k+1:=by simp only[cg,wI,W,if_true]
   have U:eM l k=false:=by
    unfold eM at hf ⊢;rw[Y]at hf;simpa using hf
   rw[Y];cases l with
   | nil=>exact sF (show dx O k<0 from W) rfl
   | cons z r =>
    have S:=M9 E G D y (z::r) N.2 (x9 hu).2 U;have Q:=(x9 hu).1;show xo (bz O T::((z::r).take (cg (z::r) k)++bz k y::(z::r).drop (cg (z::r) k)))=true;generalize cg (z::r) k=i at S;cases i with
    | zero=>exact sF (show dx O k<0 from W) S
    | succ j=>exact sF Q S
  ·have Y:cg (bz O T::l) k=0:=by simp only[cg,wI,W,if_false]
   rw[Y];have M:dx O k≠0:=by
    unfold eM at hf;rw[Y]at hf;have P:decide (dx O k=0)=false:=hf;exact of_decide_eq_false P
   exact sF (show dx k O<0 from Tv E G V D W M) hu
theorem Na {t u:Ty} (E:fC t=true) (G:gm t=false):∀(l:List Vl) (i:Nat),aR l (.mk 11 [t,u])=true->xo l=true->xo (l.take i++l.drop (i+1))=true
 | [],i,_,_=>by simp[xo]
 | x::l,0,hA,hu=>by
  cases l with
  | nil=>rfl
  | cons z r=>exact(x9 hu).2
 | x::l,i+1,hA,hu=>by
  have Y:bK x (.mk 11 [t,u])=true/\aR l (.mk 11 [t,u])=true:=by simpa[aR]using hA
  cases l with
  | nil=>simp[xo]
  | cons z r =>
   have S:=Na E G (z::r) i Y.2 (x9 hu).2;show xo (x::((z::r).take i++(z::r).drop (i+1)))=true;cases i with
   | zero =>
    cases r with
    | nil=>rfl
    | cons w r=>exact sF (M4 E G (z::w::r) x hA hu w c9) S
   | succ j=>exact sF (x9 hu).1 S
theorem OQ {t u:Ty} (E:fC t=true) (G:gm t=false) {k:Vl} (U:bK k t=true):∀(l:List Vl),aR l (.mk 11 [t,u])=true->xo l=true->eM l k=true->cg (l.take (cg l k)++l.drop (cg l k+1)) k=cg l k/\eM (l.take (cg l k)++l.drop (cg l k+1)) k=false
 | [],_,_,hf=>by simp[eM]at hf
 | x::l,hA,hu,hf=>by
  have S:bK x (.mk 11 [t,u])=true/\aR l (.mk 11 [t,u])=true:=by simpa[aR]using hA
  obtain⟨O,T,rfl,W,_⟩:=nX S.1;have M:xo l=true:=by
   cases l with
   | nil=>rfl
   | cons z r=>exact(x9 hu).2
  by_cases I:dx O k<0
  ·have Y:∀m:List Vl,cg (bz O T::m) k=cg m k+1:=fun m=>by simp only[cg,wI,I,if_true]
   have V:∀m:List Vl,eM (bz O T::m) k=eM m k:=fun m=>by unfold eM;rw[Y];rfl
   rw[V]at hf;have P:=OQ E G U l S.2 M hf;rw[Y];show cg (bz O T::(l.take (cg l k)++l.drop (cg l k+1))) k=cg l k+1/\eM (bz O T::(l.take (cg l k)++l.drop (cg l k+1))) k=false;rw[Y,V];exact⟨by rw[P.1],P.2⟩
  ·have Y:cg (bz O T::l) k=0:=by simp only[cg,wI,I,if_false]
   unfold eM at hf;rw[Y]at hf;have K:dx O k=0:=of_decide_eq_true hf;have Q:O=k:=(zB O k k t E G W U U).zero.1 K;subst Q;rw[Y];show cg l O=0/\eM l O=false;cases l with
   | nil=>exact⟨rfl,rfl⟩
   | cons z r =>
    obtain⟨D,C,rfl,N,_⟩:=nX ((eY _ _).1 S.2 z c9);have J:dx O D<0:=(x9 hu).1;have g:=zB O D D t E G W N N;have H:dx D O>0:=by have:=g.neg;omega
    have h1:cg (bz D C::r) O=0:=by exact if_neg (show ¬dx D O<0 by omega)
    refine⟨h1,?_⟩;unfold eM;rw[h1];show decide (dx D O=0)=false;exact aan bn
end Go.Proofs
namespace Go.Proofs
open Go.cq
theorem mz {t:Ty}:∀(a b:List Vl),aR (a++b) t=(aR a t&&aR b t)
 | [],b=>by simp[aR]
 | x::a,b=>by simp only[List.cons_append,aR,mz a b,Bool.and_assoc]
theorem pz:∀(a b:List Vl),eu (a++b)=(eu a&&eu b)
 | [],b=>by simp[eu]
 | x::a,b=>by simp only[List.cons_append,eu,pz a b,Bool.and_assoc]
theorem kD:∀(a b:List Vl),aJ (a++b)=aJ a+aJ b
 | [],b=>by simp[aJ]
 | x::a,b=>by simp only[List.cons_append,aJ,kD a b];omega
theorem vB {t:Ty} {l:List Vl} (h:aR l t=true) (i:Nat):aR (l.take i) t=true/\aR (l.drop i) t=true:=by
 have e:=mz (t:=t) (l.take i) (l.drop i);rw[List.take_append_drop,h]at e;simpa using e.symm
theorem AO {l:List Vl} (h:eu l=true) (i:Nat):eu (l.take i)=true/\eu (l.drop i)=true:=by
 have e:=pz (l.take i) (l.drop i);rw[List.take_append_drop,h]at e;simpa using e.symm
theorem vC (l:List Vl) (i:Nat):aJ (l.take i)+aJ (l.drop i)=aJ l:=by
 have e:=kD (l.take i) (l.drop i);rw[List.take_append_drop]at e;omega
end Go.Proofs
namespace Go.Proofs
open Go.cq
theorem HV:bO 63=3:=by decide +kernel
theorem HW (S:bT) (N:Int) (O:List UInt8) (args:List Nd) (codes:List (List Ty->CR)) (B s:List Ty) (r:List Ty×Bool) (hf:bN 63 args=some B) (A:dJ s S.st) (hl:s.length<=340) (hg:r.1.all bw=true) (E:cJ 63 codes B s=(r,0)):bp N O 63 args S/\bQ S r (aH 63 args S):=by
 obtain⟨a,b,c,d,st,fr,g,u,m,said⟩:=S;obtain⟨rfl,rfl⟩:=cE hf cc;have ey:=bH A;simp only at A ey;rcases s with _|⟨t1,_|⟨t2,_|⟨t3,s⟩⟩⟩
 ·cases E
 ·cases E
 ·cases E
 obtain⟨v,q0,rfl,hv,rK⟩:=bg A;obtain⟨w,q1,rfl,hw,XK⟩:=bg rK;obtain⟨z,q,rfl,hz,hq⟩:=bg XK;have f1:=cQ hv.1;have f2:=cQ hw.1;have f3:=cQ hz.1;obtain⟨T2,Cb⟩:=t2;obtain⟨T3,ts3⟩:=t3;simp only[aac]at ey hl;have de:(if T2=9/\T3=13/\cP t1 (aE (.mk T3 ts3) 0)=true/\cP (aE (.mk T2 Cb) 0) (aE (.mk T3 ts3) 1)=true then ee (.mk T3 ts3::s)else aP 5)=(r,0):=E;split at de;rotate_left
 ·cases de
 rename_i c1;cases de;obtain⟨rfl,rfl,c2,c3⟩:=c1;obtain⟨t0,rfl,ok0⟩:=eV (cL f2.1) cc;obtain⟨t,t',rfl,L4,R9⟩:=eL (cL f3.1) cc;have et:t1=t:=(gh _ _).1 c2;have et2:t0=t':=(gh _ _).1 c3;subst et et2;obtain⟨l,rfl,p,V,VD,hls⟩:=Cf f3.2.1 f3.2.2;have hsw:=hz.2;simp only[aM,aY,aU,aad]at hsw;have hsv:=hv.2;have M:=OP f3.1;have Q:=D4 M.1 M.2 V VD f1.2.1 p bn;have Vy:=D5 l v;have Mc:=vC l (cg l v);have KA:=vC l (cg l v+1);have I:=vB V (cg l v);have Om:=vB V (cg l v+1);have T:=AO hls (cg l v);have X0:=AO hls (cg l v+1);have J:∀(e:Int) (S':bT),cC 86 ⟨a,b,c,d,q,fr,g,u,m,said⟩ [.c (aX (.mk 2 N 63 O [])),.c (.sl 7 (aa [v,w,.mk 13 0 0 [] l [] []]))] (aF e) S'->cC 57 ⟨a,b,c,d,v::w :: .mk 13 0 0 [] l [] []::q,fr,g,u,m,said⟩ [.c (aX (.mk 2 N 63 O []))] (aF e) S':=fun e S' h =>
  qm _ _ 2 N 63 O _ [_,_,_] q _ cc (by rw[HV];rfl) (by show List.length (v::w::Vl.mk 13 0 0 [] l [] []::q)<=_;simp only[aac];omega) h
 unfold bp;rcases OR f2.2.1 f2.2.2 with rfl|⟨y,rfl,hy⟩
 ·have e:aH 63 [] ⟨a,b,c,d,v::cB [] :: .mk 13 0 0 [] l [] []::q,fr,g,u,m,said⟩=bl ⟨a,b,c,d,q,fr,g,u,m,said⟩ [.mk 13 0 0 [] (if eM l v=true then l.take (cg l v)++l.drop (cg l v+1)else l) [] []]:=by unfold aH;rw[HV];rfl
  rw[e];by_cases h:eM l v=true
  ·rw[if_pos h];have G:=Na M.1 M.2 l (cg l v) V VD;rw[h]at Q;have hi:cg l v<l.length:=by
    unfold eM at h;cases hh:l[cg l v]? with
    | none=>rw[hh]at h;cases h
    | some x=>exact(List.getElem?_eq_some_iff.1 hh).1
   have KB:=zz (l:=l.take (cg l v)++l.drop (cg l v+1)) (t:=t1) (u:=t0) Q2 (by rw[mz,I.1,Om.2];rfl) G (by rw[pz,T.1,X0.2];rfl);have Y:aM (.mk 13 0 0 [] (l.take (cg l v)++l.drop (cg l v+1)) [] [])<=8589934593:=by simp only[aM,kD,aY,aU,aad];omega
   refine⟨J _ _ ?_,b9 (S:=⟨a,b,c,d,q,fr,g,u,m,said⟩) (fo (bG hg) KB) hq⟩;clear J e hv A E Mc KA I Om T X0 KB G;obtain⟨D,K,C,U,W,H,P⟩:=v;cases l with
   | nil=>simp at hi
   | cons x l=>exact KC ⟨a,b,c,d,q,fr,g,u,m,said⟩ N O D K C U W H P 9 0 0 [] [] [] 13 0 0 [] [] [] x l O3 _ (by simpa using hi) Q Y cm
  ·rw[if_neg h];rw[show eM l v=false by simpa using h]at Q;refine⟨J _ _ ?_,b9 (S:=⟨a,b,c,d,q,fr,g,u,m,said⟩) (fo (bG hg) (zz p V VD hls)) hq⟩;have Y:aM (.mk 13 0 0 [] l [] [])<=8589934593:=by simp only[aM,aY,aU,aad];omega
   clear J e hv A E Mc KA I Om T X0;obtain⟨D,K,C,U,W,H,P⟩:=v;cases l with
   | nil=>exact KD ⟨a,b,c,d,q,fr,g,u,m,said⟩ N O D K C U W H P 9 0 0 [] [] [] 13 0 0 [] [] [] _ Q cm
   | cons x l=>exact KE ⟨a,b,c,d,q,fr,g,u,m,said⟩ N O D K C U W H P 9 0 0 [] [] [] 13 0 0 [] [] [] x l O3 _ Q Y cm
 ·have e:aH 63 [] ⟨a,b,c,d,v::cB [y] :: .mk 13 0 0 [] l [] []::q,fr,g,u,m,said⟩=(if 24<=((if eM l v=true then l.take (cg l v)++l.drop (cg l v+1)else l)).length then((13,⟨a,b,c,d,q,fr,g,u,m,said⟩):MR)else bl ⟨a,b,c,d,q,fr,g,u,m,said⟩ [.mk 13 0 0 [] (((if eM l v=true then l.take (cg l v)++l.drop (cg l v+1)else l)).take (cg l v)++bz v y::((if eM l v=true then l.take (cg l v)++l.drop (cg l v+1)else l)).drop (cg l v)) [] []]):=by unfold aH;rw[HV];rfl
  have hsy:=hw.2;simp only[cB,aM,aJ,aY,aU,aad]at hsy;have KF:=kL f1.2 hy;by_cases h:eM l v=true
  ·rw[if_pos h]at e;have hi:cg l v<l.length:=by
    unfold eM at h;cases hh:l[cg l v]? with
    | none=>rw[hh]at h;cases h
    | some x=>exact(List.getElem?_eq_some_iff.1 hh).1
   have hXl:(l.take (cg l v)++l.drop (cg l v+1)).length+1=l.length:=by rw[aas,List.length_take,List.length_drop];omega
   have hXa:aR (l.take (cg l v)++l.drop (cg l v+1)) (.mk 11 [t1,t0])=true:=by rw[mz,I.1,Om.2];rfl
   have hXs:eu (l.take (cg l v)++l.drop (cg l v+1))=true:=by rw[pz,T.1,X0.2];rfl
   have hXu:=Na M.1 M.2 l (cg l v) V VD;have hsk:=OQ M.1 M.2 f1.2.1 l V VD h;have G:=M9 M.1 M.2 f1.2.1 y _ hXa hXu hsk.2;rw[hsk.1]at G;have hXz:aJ (l.take (cg l v)++l.drop (cg l v+1))<=2000000000:=by rw[kD];omega
   rw[if_neg bn]at e;rw[e];rw[h]at Q;generalize hX:l.take (cg l v)++l.drop (cg l v+1)=X at *;have c1:=vB hXa (cg l v);have c2:=AO hXs (cg l v);have c3:=vC X (cg l v);have KB:=zz (t:=t1) (u:=t0) Oi (show aR (X.take (cg l v)++bz v y::X.drop (cg l v)) _=true by rw[mz,c1.1,aR,KF.1,c1.2];rfl) G (by rw[pz,c2.1,eu,KF.2,c2.2];rfl);have Y:aM (.mk 13 0 0 [] (X.take (cg l v)++bz v y::X.drop (cg l v)) [] [])<=8589934593:=by simp only[bz,aM,kD,aJ,aY,aU,aad];omega
   refine⟨J _ _ ?_,b9 (S:=⟨a,b,c,d,q,fr,g,u,m,said⟩) (fo (bG hg) KB) hq⟩;subst hX;clear J e hv A E Mc KA I Om T X0 KB G c1 c2 c3 hXa hXs hXu hsk hXz KF;obtain⟨D,K,C,U,W,H,P⟩:=v;rcases l with _|⟨x,_|⟨x2,l⟩⟩
   ·simp at hi
   ·have h0:cg [x] (.mk D K C U W H P)=0:=by simpa using hi
    rw[h0]at Q Y ⊢;exact HX ⟨a,b,c,d,q,fr,g,u,m,said⟩ N O D K C U W H P 9 0 0 [] [] [] 13 0 0 [] [] [] x y Q Y cm
   ·exact HY ⟨a,b,c,d,q,fr,g,u,m,said⟩ N O D K C U W H P 9 0 0 [] [] [] 13 0 0 [] [] [] x (x2::l) (by simp only[aac]at p ⊢;omega) y _ (by simpa using hi) c9 (by simp only[aac]at p ⊢;omega) Q Y cm
  ·rw[if_neg h]at e;have h':eM l v=false:=by simpa using h
   rw[h']at Q;rw[e];by_cases WG:24<=l.length
   ·rw[if_pos WG];refine⟨J _ _ ?_,.inr (.inr rfl)⟩;clear J e hv A E Mc KA I Om T X0 KF;obtain⟨D,K,C,U,W,H,P⟩:=v;cases l with
    | nil=>simp at WG
    | cons x l=>exact HZ ⟨a,b,c,d,q,fr,g,u,m,said⟩ N O D K C U W H P 9 0 0 [] [] [] 13 0 0 [] [] [] x l O3 y _ (by simpa using WG) Q cm
   ·rw[if_neg WG];have G:=M9 M.1 M.2 f1.2.1 y l V VD h';have KB:=zz (t:=t1) (u:=t0) Oi (show aR (l.take (cg l v)++bz v y::l.drop (cg l v)) _=true by rw[mz,I.1,aR,KF.1,I.2];rfl) G (by rw[pz,T.1,eu,KF.2,T.2];rfl);have Y:aM (.mk 13 0 0 [] (l.take (cg l v)++bz v y::l.drop (cg l v)) [] [])<=8589934593:=by simp only[bz,aM,kD,aJ,aY,aU,aad];omega
    refine⟨J _ _ ?_,b9 (S:=⟨a,b,c,d,q,fr,g,u,m,said⟩) (fo (bG hg) KB) hq⟩;clear J e hv A E Mc KA I Om T X0 KB G KF;obtain⟨D,K,C,U,W,H,P⟩:=v;cases l with
    | nil=>exact KG ⟨a,b,c,d,q,fr,g,u,m,said⟩ N O D K C U W H P 9 0 0 [] [] [] 13 0 0 [] [] [] y Q Y cm
    | cons x l=>exact KH ⟨a,b,c,d,q,fr,g,u,m,said⟩ N O D K C U W H P 9 0 0 [] [] [] 13 0 0 [] [] [] x l O3 y _ (by simpa using Vy) (by simpa using WG) Q Y cm
end Go.Proofs
namespace Go.Proofs
open Go.cq
theorem Fa (P:Int) (C:P=69\/P=70\/P=71\/P=72\/P=93\/P=94\/P=95) (S:bT) (N:Int) (V:List UInt8) (args:List Nd) (W:aU args<=8589934593) (O:List (List Ty->CR)) (B s:List Ty) (r:List Ty×Bool) (hf:bN P args=some B) (Y:dJ s S.st) (A:s.length<=340) (E:r.1.all bw=true) (K:bS P s=(r,0)):bp N V P args S/\bQ S r (aH P args S):=by
 rcases C with rfl|rfl|rfl|rfl|rfl|rfl|rfl
 ·exact Qb S N V args B s r hf Y A E K
 ·exact Qc S N V args B s r hf Y A E K
 ·exact Qd S N V args B s r hf Y A E K
 ·exact Qe S N V args B s r hf Y A E K
 ·exact Qf S N V args B s r hf Y A E K
 ·exact Qg S N V args B s r hf Y A E K
 ·exact Qh S N V args B s r hf Y A E K
theorem Nb (P:Int) (C:P=73\/P=74\/P=75\/P=76\/P=77\/P=78\/P=79\/P=80\/P=81\/P=82) (S:bT) (N:Int) (V:List UInt8) (args:List Nd) (W:aU args<=8589934593) (O:List (List Ty->CR)) (B s:List Ty) (r:List Ty×Bool) (hf:bN P args=some B) (Y:dJ s S.st) (A:s.length<=340) (E:r.1.all bw=true) (K:cn P B s=(r,0)):bp N V P args S/\bQ S r (aH P args S):=by
 rcases C with rfl|rfl|rfl|rfl|rfl|rfl|rfl|rfl|rfl|rfl
 ·exact Qi S N V args B s r hf Y A E K
 ·exact KI S N V args B s r hf Y A E K
 ·exact KJ S N V args B s r hf Y A E K
 ·exact KK S N V args B s r hf Y A E K
 ·exact Qj S N V args B s r hf Y A E K
 ·exact Qk S N V args B s r hf Y A E K
 ·exact Tw S N V args B s r hf Y A E K
 ·exact H6 S N V args B s r hf Y A E K
 ·exact Nc S N V args B s r hf Y A E K
 ·exact H7 S N V args W B s r hf Y A E K
theorem KL (P:Int) (C:P=84\/P=85\/P=86\/P=87\/P=88\/P=89\/P=90\/P=91\/P=92) (S:bT) (T:nD S.self S.gO S.gP S.balance=true) (M:0<=S.bE/\S.bE<=bP) (N:Int) (V:List UInt8) (args:List Nd) (W:aU args<=8589934593) (O:List (List Ty->CR)) (B s:List Ty) (r:List Ty×Bool) (hf:bN P args=some B) (Y:dJ s S.st) (A:s.length<=340) (E:r.1.all bw=true) (K:bY P B s=(r,0)):bp N V P args S/\bQ S r (aH P args S):=by
 rcases C with rfl|rfl|rfl|rfl|rfl|rfl|rfl|rfl|rfl
 ·exact HQ S T M N V args W B s r hf Y A E K
 ·exact MW S T M N V args W B s r hf Y A E K
 ·exact Kq S T M N V args W B s r hf Y A E K
 ·exact MZ S T M N V args W B s r hf Y A E K
 ·exact D1 S T M N V args W B s r hf Y A E K
 ·exact MU S T M N V args W B s r hf Y A E K
 ·exact HM S T M N V args W B s r hf Y A E K
 ·exact HO S T M N V args W B s r hf Y A E K
 ·exact E4 S T M N V args W B s r hf Y A E K
theorem KN (P:Int) (C:P=59\/P=61\/P=62\/P=63) (S:bT) (N:Int) (V:List UInt8) (args:List Nd) (W:aU args<=8589934593) (O:List (List Ty->CR)) (B s:List Ty) (r:List Ty×Bool) (hf:bN P args=some B) (Y:dJ s S.st) (A:s.length<=340) (E:r.1.all bw=true) (K:cJ P O B s=(r,0)):bp N V P args S/\bQ S r (aH P args S):=by
 rcases C with rfl|rfl|rfl|rfl
 ·exact M1 S N V args O B s r hf Y A E K
 ·exact Kx S N V args O B s r hf Y A E K
 ·exact Qa S N V args O B s r hf Y A E K
 ·exact HW S N V args O B s r hf Y A E K
theorem Fb (P:Int) (C:P=46\/P=47\/P=48\/P=49\/P=50\/P=51\/P=53\/P=54\/P=56\/P=57) (S:bT) (N:Int) (V:List UInt8) (args:List Nd) (W:aU args<=8589934593) (O:List (List Ty->CR)) (B s:List Ty) (r:List Ty×Bool) (hf:bN P args=some B) (Y:dJ s S.st) (A:s.length<=340) (E:r.1.all bw=true) (K:aW P O B s=(r,0)):bp N V P args S/\bQ S r (aH P args S):=by
 rcases C with rfl|rfl|rfl|rfl|rfl|rfl|rfl|rfl|rfl|rfl
 ·exact Nf S N V args O B s r hf Y A E K
 ·exact H8 S N V args O B s r hf Y A E K
 ·exact Ql S N V args O B s r hf Y A E K
 ·exact Qm S N V args O B s r hf Y A E K
 ·exact Ng S N V args O B s r hf Y A E K
 ·exact KO S N V args O B s r hf Y A E K
 ·exact Nh S N V args O B s r hf Y A E K
 ·exact Ni S N V args O B s r hf Y A E K
 ·exact Qn S N V args O B s r hf Y A E K
 ·exact M0 S N V args O B s r hf Y A E K
end Go.Proofs
namespace Go.Proofs
open Go.cq
mutual
theorem D6:∀(t:Ty) (d n W H m:Int),W<=d->H<=n->eN t d n=(true,m)->eN t W H=(true,m-n+H)
 | .mk T args,d,n,W,H,m,p,Y,h=>by
  simp only[eN]at h ⊢;by_cases c:d>24\/n+1>300\/arity T≠args.length
  ·rw[if_pos c]at h;cases h
  rw[if_neg c]at h;have J:¬(W>24\/H+1>300\/arity T≠args.length):=by
   rintro(V|V|V)
   ·exact c (.inl bn)
   ·exact c (.inr (.inl bn))
   ·exact c (.inr (.inr V))
  rw[if_neg J];cases e:dL args (d+1) (n+1)with
  | mk b P =>
   rw[e]at h;cases b with
   | false=>cases h
   | true =>
    have h2:=Bw args (d+1) (n+1) (W+1) (H+1) P bn bn e;rw[h2];simp only[Prod.mk.injEq]at h ⊢;exact⟨h.1,bn⟩
theorem Bw:∀(l:List Ty) (d n W H m:Int),W<=d->H<=n->dL l d n=(true,m)->dL l W H=(true,m-n+H)
 | [],d,n,W,H,m,p,Y,h=>by
  simp only[dL,Prod.mk.injEq]at h ⊢;exact⟨trivial,bn⟩
 | t::l,d,n,W,H,m,p,Y,h=>by
  simp only[dL]at h ⊢;cases e:eN t d n with
  | mk b P =>
   rw[e]at h;cases b with
   | false=>cases h
   | true =>
    have h2:=D6 t d n W H P p Y e;rw[h2];have U:=Bw l d P W (P-n+H) m p bn h;show dL l W (P-n+H)=_;rw[U];simp only[Prod.mk.injEq];exact⟨trivial,bn⟩
end
theorem KP {t:Ty} {d n m:Int} (h:eN t d n=(true,m)):n<=299/\n<m:=by
 have h1:n<=299:=by
  obtain⟨T,args⟩:=t;simp only[eN]at h;by_cases c:d>24\/n+1>300\/arity T≠args.length
  ·simp_all
  ·omega
 have h2:=(rL t d n bn).1;rw[h]at h2;exact⟨h1,h2⟩
theorem D7:∀{l:List Ty} {d n m:Int} {x:Ty},dL l d n=(true,m)->0<=n->x∈l->∃K P,0<=K/\eN x d K=(true,P)
 | t::l,d,n,m,x,h,Y,O=>by
  simp only[dL]at h;cases e:eN t d n with
  | mk b P =>
   rw[e]at h;cases b with
   | false=>cases h
   | true =>
    rcases List.mem_cons.1 O with rfl|O
    ·exact⟨n,P,Y,e⟩
    ·have:=(KP e).2;exact D7 (l:=l) h bn O
theorem pE {T:Int} {args:List Ty} (h:bw (.mk T args)=true):∀x∈args,bw x=true:=by
 intro x O;unfold bw at h;simp only[eN]at h;split at h
 ·cases h
 ·cases e:dL args (1+1) (0+1)with
  | mk b P =>
   rw[e]at h;cases b with
   | false=>cases h
   | true =>
    obtain⟨K,I,h1,h2⟩:=D7 e bn O;have V:=D6 x _ K 1 0 I bn bn h2;unfold bw;rw[V]
theorem Nj {args:List Ty} (h:bw (.mk 13 args)=true):bw (.mk 11 args)=true:=by
 unfold bw at h ⊢;simp only[eN]at h ⊢;split at h
 ·cases h
 ·rename_i c;have Y:arity 13=2:=rfl;have W:arity 11=2:=rfl;rw[Y]at c;rw[W,if_neg c];cases e:dL args (1+1) (0+1)with
  | mk b P =>
   rw[e]at h;cases b with
   | false=>cases h
   | true=>rfl
theorem KQ {kind n p:Int} {s:List UInt8} {k:Nat} {d T:Int} (H:T<=d) (h:gk kind n p s k d=0):gk kind n p s k T=0:=by
 unfold gk at h ⊢;by_cases c:d>24
 ·omega
 rw[if_neg c]at h;rw[if_neg bn];exact h
mutual
theorem Nk:∀(n:Nd) (d T:Int),T<=d->ep n d=0->ep n T=0
 | .mk kind n p s args,d,T,H,h=>by
  obtain⟨h1,h2⟩:=jF h;simp only[ep];rw[if_pos (KQ H h1)];exact vD args _ _ bn h2
theorem vD:∀(l:List Nd) (d T:Int),T<=d->dg l d=0->dg l T=0
 | [],_,_,_,_=>rfl
 | x::l,d,T,H,h=>by
  simp only[dg]at h ⊢;by_cases c:ep x d=0
  ·rw[if_pos c]at h;rw[if_pos (Nk x d T H c)];exact vD l d T H h
  ·rw[if_neg c]at h;exact absurd h c
end
theorem D8:∀{l:List Nd} {x:Nd} {d:Int},dg l d=0->x∈l->ep x d=0
 | y::l,x,d,h,O=>by
  simp only[dg]at h;by_cases c:ep y d=0
  ·rw[if_pos c]at h;rcases List.mem_cons.1 O with rfl|O
   ·exact c
   ·exact D8 h O
  ·omega
theorem Gj:∀{l:List Nd} {x:Nd},x∈l->many x<=cI l
 | y::l,x,O=>by
  simp only[cI];rcases List.mem_cons.1 O with rfl|O
  ·omega
  ·have:=Gj O;omega
def ji (H:List Nd):Prop:=dG (.mk 3 0 0 [] H)=0
theorem wJ {H:List Nd}:ji H↔dg H 2=0/\cI H<=299:=by
 unfold ji;rw[kr];simp only[many];constructor
 ·rintro⟨h1,h2⟩;exact⟨(jF h1).2,bn⟩
 ·rintro⟨h1,h2⟩;refine⟨?_,bn⟩;simp only[ep];rw[if_pos (by simp[gk,bP])];exact h1
theorem l9 {H:List Nd} (h:ji H):cI H<=299:=(wJ.1 h).2
theorem ya {H:List Nd} (h:ji H):aU H<=60300:=by
 have:=yb h;simp only[b8,aad]at this;omega
theorem pF {H:List Nd} {k N P:Int} {S:List UInt8} {args:List Nd} (h:ji H) (M:Nd.mk k N P S args∈H):ji args/\cI args+1<=cI H:=by
 obtain⟨h1,h2⟩:=wJ.1 h;have V:=(jF (D8 h1 M)).2;have Y:=Gj M;simp only[many]at Y;exact⟨wJ.2 ⟨vD _ _ _ bn V,bn⟩,Y⟩
theorem KR {n:Nd} (h:dG n=0):ji (cF n):=by
 obtain⟨k,N,P,S,args⟩:=n;obtain⟨h1,h2⟩:=kr.1 h;simp only[many]at h2;exact wJ.2 ⟨(jF h1).2,by simp only[cF];omega⟩
def zC (H:List Nd) (s P:List Ty) (N:Bool):Prop:=cA H (s,false)=((P,N),0)
def FT (N:List Ty×Bool):List fO->List Ty->Prop
 | [],s=>N=(s,false)
 | F::t,s=>s.length+cI F.code<=340/\ji F.code/\F.pos<=F.code.length/\∃P J,zC (F.code.drop F.pos) s P J/\(J=false ->
   (F.fin=0/\FT N t P) \/
   (F.fin=1/\F.aside.length<=1/\∃u,dJ u F.aside.reverse/\FT N t (u++P)) \/
   (F.fin=2/\F.aside.length<=340/\∃Y u,P=[Y]/\dJ u F.aside.reverse/\FT N t (Y::u)) \/
   (F.fin=3/\∃e,(∀x∈F.aside,Fit e x)/\P.length+1+cI F.code<=340/\(∃M V,zC F.code (e::P) M V/\(V=false->M=P))/\FT N t P) \/
   (F.fin=4/\∃a B,P=a::B/\bR a=2/\B.length+cI F.code<=340/\(∃M V,zC F.code B M V/\(V=false->M=a::B))/\FT N t B))
def VF (F:fO):Nat:=1+2*cI (F.code.drop F.pos)
def yc:List fO->Nat
 | []=>0
 | F::t=>VF F+yc t
theorem D9:∀t:List fO,t.length<=yc t
 | []=>aak _
 | F::t=>by have:=D9 t;simp only[aac,yc,VF];omega
theorem tG {a b:CR} {r:List Ty×Bool} (h:cT a b=(r,0)):a.2=0/\(a.1.2=false->r=a.1):=by
 unfold cT at h;split at h
 ·rename_i c;exact absurd (congrArg Prod.snd h) c
 rename_i q;simp only[ne_eq,Decidable.not_not]at q;refine⟨q,fun hf=>?_⟩;split at h
 ·rename_i c;exact absurd (congrArg Prod.snd h) c
 rw[if_neg (by rw[hf];decide)]at h;split at h
 ·cases h;rfl
 ·cases h
theorem tH {a b:CR} {r:List Ty×Bool} (h:cT a b=(r,0)):b.2=0/\(b.1.2=false->r=b.1):=by
 unfold cT at h;split at h
 ·rename_i c;exact absurd (congrArg Prod.snd h) c
 split at h
 ·rename_i c;exact absurd (congrArg Prod.snd h) c
 rename_i q J;simp only[ne_eq,Decidable.not_not]at J;refine⟨J,fun hf=>?_⟩;by_cases H:a.1.2=true
 ·simp_all
 rw[if_neg H]at h;split at h
 ·rename_i c4;cases h;have e:=(mA _ _).1 (c4.resolve_left (by rw[hf];decide));have U:a.1.2=false:=by simpa using H
  rw[Prod.ext_iff];exact⟨e,by rw[U,hf]⟩
 ·cases h
theorem AP {H:List Nd} {s:List Ty} (h:(cA H (s,false)).2=0):zC H s (cA H (s,false)).1.1 (cA H (s,false)).1.2:=by
 unfold zC;rw[<- h]
theorem H9 {N:List Ty×Bool} {fr:List fO} {c:List Nd} {Q:List Ty} {r:List Ty×Bool} (G:(cA c (Q,false)).2=0) (I:(cA c (Q,false)).1.2=false->r=(cA c (Q,false)).1) (A:Q.length+cI c<=340) (M:ji c)
  (h:r.2=false->FT N fr r.1):FT N (⟨c,0,0,[]⟩::fr) Q:=by
 refine⟨A,M,Nat.zero_le _,(cA c (Q,false)).1.1,(cA c (Q,false)).1.2,AP G,fun hf => .inl ⟨rfl,?_⟩⟩;have e:=I hf;rw[e]at h;exact h hf
def X1 (N:List Ty×Bool) (S:bT) (r:List Ty×Bool) (o:MR):Prop :=
 o.1=0/\∃F Q,o.2.fr=F::S.fr/\ji F.code/\dJ Q o.2.st/\((r.2=false->FT N S.fr r.1)->FT N (F::S.fr) Q)
def Comes (N:List Ty×Bool) (S:bT) (r:List Ty×Bool) (o:MR):Prop:=bQ S r o\/X1 N S r o\/WH o
theorem Nl {P:Int} {args:List Nd} {B:List Ty} (h:bN P args=some B) (Y:fN P=[99]):∃p q r c,args=[.mk 3 p q r c]/\B=[]:=by
 obtain⟨h1,h2⟩:=jL h;rw[Y]at h1 h2;rcases args with _|⟨x,_|⟨y,l⟩⟩
 ·simp at h1
 ·obtain⟨kind,N,p,q,xs⟩:=x;have V:(if kind=3 then some []else none)=some B:=h2;split at V
  ·simp_all
  ·cases V
 ·simp at h1
theorem Cg {P:Int} {args:List Nd} {B:List Ty} (h:bN P args=some B) (G:fN P=[99,99]):∃p q r c W V Q T,args=[.mk 3 p q r c,.mk 3 W V Q T]/\B=[]:=by
 obtain⟨h1,h2⟩:=jL h;rw[G]at h1 h2;rcases args with _|⟨x,_|⟨y,_|⟨z,l⟩⟩⟩
 ·simp at h1
 ·simp at h1
 ·obtain⟨kind,N,p,q,xs⟩:=x;obtain⟨Y,O,W,V,S⟩:=y;have U:(if kind=3 then(if Y=3 then some []else none)else none)=some B:=h2;split at U
  ·simp_all
  ·cases U
 ·simp at h1
theorem Tx {P:Int} {args:List Nd} {B:List Ty} (h:bN P args=some B) (G:fN P=[116,116,99]):∃x y p q r c,args=[x,y,.mk 3 p q r c]/\(aZ x).2=0/\(aZ y).2=0/\B=[(aZ x).1,(aZ y).1]:=by
 obtain⟨h1,h2⟩:=jL h;rw[G]at h1 h2;rcases args with _|⟨x,_|⟨y,_|⟨z,_|⟨M,l⟩⟩⟩⟩
 ·simp at h1
 ·simp at h1
 ·simp at h1
 ·obtain⟨kind,N,p,q,xs⟩:=x;obtain⟨Y,U,T,S,W⟩:=y;obtain⟨V,K,J,A,O⟩:=z;have Q:(if(aZ (.mk kind N p q xs)).2=0 then(if(aZ (.mk Y U T S W)).2=0 then(if V=3 then some ([]++[(aZ (.mk kind N p q xs)).1]++[(aZ (.mk Y U T S W)).1])else none)else none)else none)=some B:=h2;split at Q
  ·grind
  ·cases Q
 ·simp at h1
theorem Ch:bO 52=1:=by decide +kernel
theorem Ci:bO 55=1:=by decide +kernel
theorem Cj:bO 58=1:=by decide +kernel
theorem OS:bO 60=1:=by decide +kernel
theorem Ck:bO 64=1:=by decide +kernel
theorem OT:bO 65=1:=by decide +kernel
theorem OU:bO 66=0:=by decide +kernel
theorem OV:bO 67=2:=by decide +kernel
theorem OW:bO 68=1:=by decide +kernel
theorem Ea:∀{l:List Vl} {x:Vl},eu l=true->x∈l->eJ x=true
 | y::l,x,h,O=>by
  simp only[eu,aai]at h;rcases List.mem_cons.1 O with rfl|O
  ·exact h.1
  ·exact Ea h.2 O
theorem VG {v:Vl} {t u:Ty} (h:bK v (.mk 14 [t,u])=true) (G:eJ v=true):∃H,v = .mk 14 0 0 [] [] [t,u] H/\ji H/\(cA H ([t],false)).2=0/\((cA H ([t],false)).1.2=false->(cA H ([t],false)).1.1=[u])/\jt H=false:=by
 obtain⟨k,n,a,s,args,B,H⟩:=v;obtain⟨D,A,U⟩:=lT h;simp only[bR]at D;subst D;have T:B.length=2/\a=0/\n=0/\s=[]/\args.length=0:=by simpa[cw]using A
 obtain⟨W,rfl,rfl,rfl,C⟩:=T;obtain rfl:=List.length_eq_zero_iff.1 C;rcases B with _|⟨S,_|⟨N,_|⟨O,q⟩⟩⟩
 ·simp at W
 ·simp at W
 ·have h2:(cP t S&&cP u N)=true:=by
   have V:=h;unfold bK at V;simp only[cw,bR,aE,aA]at V;simpa using V
  rw[aai]at h2;obtain rfl:=(gh _ _).1 h2.1;obtain rfl:=(gh _ _).1 h2.2;rw[Eb 14 0 0 [] [] t u H rfl]at G;simp only[aai,aat,decide_eq_true_eq,Bool.not_eq_true']at G;obtain⟨⟨Y,J⟩,Q⟩:=G;obtain⟨g1,_,_,_,P⟩:=yB Y;rw[P]at Y J;simp only[cF]at Y J;refine⟨H,rfl,g1,Y,fun hf=>?_,Q⟩;rcases J with J|J
  ·simp_all
  ·exact(mA _ _).1 J
 ·simp at W
end Go.Proofs
