/- Package run: typed steps of class data (without those on bytes of values). Package run: typed steps: compare, fail, pack, unpack, push. Package run: typed steps: unpack, push. -/
import Derived.Test.YtlohbilpimjmmaaGreatDoorRunW
set_option linter.unusedVariables false
set_option linter.unusedSimpArgs false
namespace Go.Proofs
open Go.cq
theorem wH {v:Vl} {ts:List Ty} (h:bK v (.mk 6 ts)=true):∃s,v = .mk 6 0 0 s [] [] []/\s.length<=200:=by
 obtain⟨k,n,a,s,args,B,H⟩:=v;obtain⟨D,A,p⟩:=lT h;simp only[bR]at D;subst D;simp[cw]at A;obtain⟨rfl,rfl,rfl,rfl,rfl⟩:=A;exact⟨s,rfl,p⟩
theorem Gw {s:List UInt8} {ts:List Ty} (h:s.length<=200):bK (.mk 6 0 0 s [] [] []) (.mk 6 ts)=true/\eJ (.mk 6 0 0 s [] [] [])=true:=by
 simp[bK,cw,bR,eJ,eu];omega
theorem oE {b:Bool} {ts:List Ty}:bK (iu b) (.mk 2 ts)=true/\eJ (iu b)=true:=by
 cases b
 ·exact mX (.inl ⟨rfl,cc,cc⟩)
 ·exact mX (.inl ⟨rfl,cc,cc⟩)
theorem Pj:bO 73=2:=by decide +kernel
theorem Pk:bO 74=1:=by decide +kernel
theorem Pm:bO 75=1:=by decide +kernel
theorem Pn:bO 76=1:=by decide +kernel
theorem Po:bO 77=1:=by decide +kernel
theorem ID:bO 78=2:=by decide +kernel
theorem IE:bO 79=2:=by decide +kernel
theorem Cq:bO 80=2:=by decide +kernel
theorem IF:bO 81=1:=by decide +kernel
theorem IG:bO 82=1:=by decide +kernel
theorem Pp:bO 83=1:=by decide +kernel
theorem KI (S:bT) (N:Int) (V:List UInt8) (args:List Nd) (B s:List Ty) (r:List Ty×Bool) (hf:bN 74 args=some B) (Y:dJ s S.st) (A:s.length<=340) (W:r.1.all bw=true) (E:cn 74 B s=(r,0)):bp N V 74 args S/\bQ S r (aH 74 args S):=by
 obtain⟨a,b,c,d,st,fr,g,u,m,said⟩:=S;obtain⟨rfl,rfl⟩:=cE hf cc;have M:=bH Y;simp only at Y M;cases s with
 | nil=>cases E
 | cons t s =>
 obtain⟨v,q,rfl,Q,hq⟩:=bg Y;have P:=cQ Q.1;obtain⟨T,ts⟩:=t;simp only[aac]at M A;have U:(if T=3 then ee (.mk 2 []::s)else aP 5)=(r,0):=E;split at U;rotate_left
 ·cases U
 rename_i J;cases U;subst J;obtain⟨n,rfl,g1⟩:=fD cc P.2.1;unfold bp;have e:aH 74 [] ⟨a,b,c,d,aO 3 n::q,fr,g,u,m,said⟩=bl ⟨a,b,c,d,q,fr,g,u,m,said⟩ [iu (n==0)]:=by unfold aH;rw[Pk];rfl
 rw[e];exact⟨gl _ _ 2 N 74 V _ [aO 3 n] q _ cc (by rw[Pk];rfl) jb (VJ ⟨a,b,c,d,q,fr,g,u,m,said⟩ N V 3 n 0 [] [] [] [] cm),b9 (S:=⟨a,b,c,d,q,fr,g,u,m,said⟩) (fo (bG W) oE) hq⟩
theorem KJ (S:bT) (N:Int) (V:List UInt8) (args:List Nd) (B s:List Ty) (r:List Ty×Bool) (hf:bN 75 args=some B) (Y:dJ s S.st) (A:s.length<=340) (W:r.1.all bw=true) (E:cn 75 B s=(r,0)):bp N V 75 args S/\bQ S r (aH 75 args S):=by
 obtain⟨a,b,c,d,st,fr,g,u,m,said⟩:=S;obtain⟨rfl,rfl⟩:=cE hf cc;have M:=bH Y;simp only at Y M;cases s with
 | nil=>cases E
 | cons t s =>
 obtain⟨v,q,rfl,Q,hq⟩:=bg Y;have P:=cQ Q.1;obtain⟨T,ts⟩:=t;simp only[aac]at M A;have U:(if T=3 then ee (.mk 2 []::s)else aP 5)=(r,0):=E;split at U;rotate_left
 ·cases U
 rename_i J;cases U;subst J;obtain⟨n,rfl,g1⟩:=fD cc P.2.1;unfold bp;have e:aH 75 [] ⟨a,b,c,d,aO 3 n::q,fr,g,u,m,said⟩=bl ⟨a,b,c,d,q,fr,g,u,m,said⟩ [iu (decide (n<0))]:=by unfold aH;rw[Pm];rfl
 rw[e];exact⟨gl _ _ 2 N 75 V _ [aO 3 n] q _ cc (by rw[Pm];rfl) jb (VK ⟨a,b,c,d,q,fr,g,u,m,said⟩ N V 3 n 0 [] [] [] [] cm),b9 (S:=⟨a,b,c,d,q,fr,g,u,m,said⟩) (fo (bG W) oE) hq⟩
theorem KK (S:bT) (N:Int) (V:List UInt8) (args:List Nd) (B s:List Ty) (r:List Ty×Bool) (hf:bN 76 args=some B) (Y:dJ s S.st) (A:s.length<=340) (W:r.1.all bw=true) (E:cn 76 B s=(r,0)):bp N V 76 args S/\bQ S r (aH 76 args S):=by
 obtain⟨a,b,c,d,st,fr,g,u,m,said⟩:=S;obtain⟨rfl,rfl⟩:=cE hf cc;have M:=bH Y;simp only at Y M;cases s with
 | nil=>cases E
 | cons t s =>
 obtain⟨v,q,rfl,Q,hq⟩:=bg Y;have P:=cQ Q.1;obtain⟨T,ts⟩:=t;simp only[aac]at M A;have U:(if T=3 then ee (.mk 2 []::s)else aP 5)=(r,0):=E;split at U;rotate_left
 ·cases U
 rename_i J;cases U;subst J;obtain⟨n,rfl,g1⟩:=fD cc P.2.1;unfold bp;have e:aH 76 [] ⟨a,b,c,d,aO 3 n::q,fr,g,u,m,said⟩=bl ⟨a,b,c,d,q,fr,g,u,m,said⟩ [iu (decide (n>0))]:=by unfold aH;rw[Pn];rfl
 rw[e];exact⟨gl _ _ 2 N 76 V _ [aO 3 n] q _ cc (by rw[Pn];rfl) jb (VL ⟨a,b,c,d,q,fr,g,u,m,said⟩ N V 3 n 0 [] [] [] [] cm),b9 (S:=⟨a,b,c,d,q,fr,g,u,m,said⟩) (fo (bG W) oE) hq⟩
theorem Qj (S:bT) (N:Int) (V:List UInt8) (args:List Nd) (B s:List Ty) (r:List Ty×Bool) (hf:bN 77 args=some B) (Y:dJ s S.st) (A:s.length<=340) (W:r.1.all bw=true) (E:cn 77 B s=(r,0)):bp N V 77 args S/\bQ S r (aH 77 args S):=by
 obtain⟨a,b,c,d,st,fr,g,u,m,said⟩:=S;obtain⟨rfl,rfl⟩:=cE hf cc;have M:=bH Y;simp only at Y M;cases s with
 | nil=>cases E
 | cons t s =>
 obtain⟨v,q,rfl,Q,hq⟩:=bg Y;have P:=cQ Q.1;obtain⟨T,ts⟩:=t;simp only[aac]at M A;have U:(if T=2 then ee (.mk T ts::s)else aP 5)=(r,0):=E;split at U;rotate_left
 ·cases U
 rename_i J;cases U;subst J;obtain⟨n,rfl,g1⟩:=fD cc P.2.1;unfold bp;have e:aH 77 [] ⟨a,b,c,d,aO 2 n::q,fr,g,u,m,said⟩=bl ⟨a,b,c,d,q,fr,g,u,m,said⟩ [iu (n==0)]:=by unfold aH;rw[Po];rfl
 rw[e];exact⟨gl _ _ 2 N 77 V _ [aO 2 n] q _ cc (by rw[Po];rfl) (by show List.length (aO 2 n::q)<=_;simp only[aac];omega) (VM ⟨a,b,c,d,q,fr,g,u,m,said⟩ N V 2 n 0 [] [] [] [] cm),b9 (S:=⟨a,b,c,d,q,fr,g,u,m,said⟩) (fo (bG W) oE) hq⟩
theorem Qk (S:bT) (N:Int) (V:List UInt8) (args:List Nd) (B s:List Ty) (r:List Ty×Bool) (hf:bN 78 args=some B) (G:dJ s S.st) (A:s.length<=340) (W:r.1.all bw=true) (E:cn 78 B s=(r,0)):bp N V 78 args S/\bQ S r (aH 78 args S):=by
 obtain⟨a,b,c,d,st,fr,g,u,m,said⟩:=S;obtain⟨rfl,rfl⟩:=cE hf cc;have M:=bH G;simp only at G M;rcases s with _|⟨O,_|⟨Q,s⟩⟩
 ·cases E
 ·cases E
 obtain⟨v,q0,rfl,K,J⟩:=bg G;obtain⟨w,q,rfl,I,hq⟩:=bg J;have H:=cQ K.1;have D:=cQ I.1;obtain⟨T,ts⟩:=O;obtain⟨P,C⟩:=Q;simp only[aac]at M A;have U:(if T=2/\P=2 then ee (.mk P C::s)else aP 5)=(r,0):=E;split at U;rotate_left
 ·cases U
 rename_i p;cases U;obtain⟨rfl,rfl⟩:=p;obtain⟨n,rfl,g1⟩:=fD cc H.2.1;obtain⟨Y,rfl,g2⟩:=fD cc D.2.1;unfold bp;have e:aH 78 [] ⟨a,b,c,d,aO 2 n::aO 2 Y::q,fr,g,u,m,said⟩=bl ⟨a,b,c,d,q,fr,g,u,m,said⟩ [iu (decide (n=1/\Y=1))]:=by unfold aH;rw[ID];rfl
 rw[e];by_cases h:n=1
 ·rw[show decide (n=1/\Y=1)=(Y==1)from by simp[h];try rfl];exact⟨gl _ _ 2 N 78 V _ [aO 2 n,aO 2 Y] q _ cc (by rw[ID];rfl) mc (TO ⟨a,b,c,d,q,fr,g,u,m,said⟩ N V 2 n 0 [] [] [] [] 2 Y 0 [] [] [] [] h cm),b9 (S:=⟨a,b,c,d,q,fr,g,u,m,said⟩) (fo (bG W) oE) hq⟩
 ·rw[show decide (n=1/\Y=1)=false from by simp[h];try rfl];exact⟨gl _ _ 2 N 78 V _ [aO 2 n,aO 2 Y] q _ cc (by rw[ID];rfl) mc (TP ⟨a,b,c,d,q,fr,g,u,m,said⟩ N V 2 n 0 [] [] [] [] 2 Y 0 [] [] [] [] h cm),b9 (S:=⟨a,b,c,d,q,fr,g,u,m,said⟩) (fo (bG W) oE) hq⟩
theorem Tw (S:bT) (N:Int) (V:List UInt8) (args:List Nd) (B s:List Ty) (r:List Ty×Bool) (hf:bN 79 args=some B) (G:dJ s S.st) (A:s.length<=340) (W:r.1.all bw=true) (E:cn 79 B s=(r,0)):bp N V 79 args S/\bQ S r (aH 79 args S):=by
 obtain⟨a,b,c,d,st,fr,g,u,m,said⟩:=S;obtain⟨rfl,rfl⟩:=cE hf cc;have M:=bH G;simp only at G M;rcases s with _|⟨O,_|⟨Q,s⟩⟩
 ·cases E
 ·cases E
 obtain⟨v,q0,rfl,K,J⟩:=bg G;obtain⟨w,q,rfl,I,hq⟩:=bg J;have H:=cQ K.1;have D:=cQ I.1;obtain⟨T,ts⟩:=O;obtain⟨P,C⟩:=Q;simp only[aac]at M A;have U:(if T=2/\P=2 then ee (.mk P C::s)else aP 5)=(r,0):=E;split at U;rotate_left
 ·cases U
 rename_i p;cases U;obtain⟨rfl,rfl⟩:=p;obtain⟨n,rfl,g1⟩:=fD cc H.2.1;obtain⟨Y,rfl,g2⟩:=fD cc D.2.1;unfold bp;have e:aH 79 [] ⟨a,b,c,d,aO 2 n::aO 2 Y::q,fr,g,u,m,said⟩=bl ⟨a,b,c,d,q,fr,g,u,m,said⟩ [iu (decide (n=1\/Y=1))]:=by unfold aH;rw[IE];rfl
 rw[e];by_cases h:n=1
 ·rw[show decide (n=1\/Y=1)=true from by simp[h];try rfl];exact⟨gl _ _ 2 N 79 V _ [aO 2 n,aO 2 Y] q _ cc (by rw[IE];rfl) mc (TQ ⟨a,b,c,d,q,fr,g,u,m,said⟩ N V 2 n 0 [] [] [] [] 2 Y 0 [] [] [] [] h cm),b9 (S:=⟨a,b,c,d,q,fr,g,u,m,said⟩) (fo (bG W) oE) hq⟩
 ·rw[show decide (n=1\/Y=1)=(Y==1)from by simp[h];try rfl];exact⟨gl _ _ 2 N 79 V _ [aO 2 n,aO 2 Y] q _ cc (by rw[IE];rfl) mc (TR ⟨a,b,c,d,q,fr,g,u,m,said⟩ N V 2 n 0 [] [] [] [] 2 Y 0 [] [] [] [] h cm),b9 (S:=⟨a,b,c,d,q,fr,g,u,m,said⟩) (fo (bG W) oE) hq⟩
theorem H6 (S:bT) (N:Int) (V:List UInt8) (args:List Nd) (B s:List Ty) (r:List Ty×Bool) (hf:bN 80 args=some B) (G:dJ s S.st) (A:s.length<=340) (W:r.1.all bw=true) (E:cn 80 B s=(r,0)):bp N V 80 args S/\bQ S r (aH 80 args S):=by
 obtain⟨a,b,c,d,st,fr,g,u,m,said⟩:=S;obtain⟨rfl,rfl⟩:=cE hf cc;have M:=bH G;simp only at G M;rcases s with _|⟨O,_|⟨K,s⟩⟩
 ·cases E
 ·cases E
 obtain⟨v,q0,rfl,J,I⟩:=bg G;obtain⟨w,q,rfl,H,hq⟩:=bg I;have D:=cQ J.1;have C:=cQ H.1;obtain⟨T,ts⟩:=O;obtain⟨P,p⟩:=K;simp only[aac]at M A;have U:(if T=6/\P=6 then ee (.mk P p::s)else aP 5)=(r,0):=E;split at U;rotate_left
 ·cases U
 rename_i c1;cases U;obtain⟨rfl,rfl⟩:=c1;obtain⟨Y,rfl,g1⟩:=wH D.2.1;obtain⟨Q,rfl,g2⟩:=wH C.2.1;unfold bp;by_cases h:200<Y.length+Q.length
 ·have e:aH 80 [] ⟨a,b,c,d,.mk 6 0 0 Y [] [] [] :: .mk 6 0 0 Q [] [] []::q,fr,g,u,m,said⟩=(13,⟨a,b,c,d,q,fr,g,u,m,said⟩):=by
   unfold aH;rw[Cq];show(if 200<Y.length+Q.length then((13,⟨a,b,c,d,q,fr,g,u,m,said⟩):MR)else bl ⟨a,b,c,d,q,fr,g,u,m,said⟩ [.mk 6 0 0 (Y++Q) [] [] []])=_;rw[if_pos h]
  rw[e];exact⟨gl _ _ 2 N 80 V _ [.mk 6 0 0 Y [] [] [],.mk 6 0 0 Q [] [] []] q _ cc (by rw[Cq];rfl) ri (Qy ⟨a,b,c,d,q,fr,g,u,m,said⟩ N V 6 0 0 Y [] [] [] 6 0 0 Q [] [] [] h bn cm),.inr (.inr rfl)⟩
 ·have e:aH 80 [] ⟨a,b,c,d,.mk 6 0 0 Y [] [] [] :: .mk 6 0 0 Q [] [] []::q,fr,g,u,m,said⟩=bl ⟨a,b,c,d,q,fr,g,u,m,said⟩ [.mk 6 0 0 (Y++Q) [] [] []]:=by
   unfold aH;rw[Cq];show(if 200<Y.length+Q.length then((13,⟨a,b,c,d,q,fr,g,u,m,said⟩):MR)else bl ⟨a,b,c,d,q,fr,g,u,m,said⟩ [.mk 6 0 0 (Y++Q) [] [] []])=_;rw[if_neg h]
  rw[e];exact⟨gl _ _ 2 N 80 V _ [.mk 6 0 0 Y [] [] [],.mk 6 0 0 Q [] [] []] q _ cc (by rw[Cq];rfl) ri (Qz ⟨a,b,c,d,q,fr,g,u,m,said⟩ N V 6 0 0 Y [] [] [] 6 0 0 Q [] [] [] h cm),b9 (S:=⟨a,b,c,d,q,fr,g,u,m,said⟩) (fo (bG W) (Gw (by rw[aas];omega))) hq⟩
end Go.Proofs
namespace Go.Proofs
open Go.cq
theorem NL (a b:List UInt8) : -1<=eA a b/\eA a b<=1:=by unfold eA;repeat' split<;>(try omega)
mutual
theorem K7:∀v w:Vl,-1<=dx v w/\dx v w<=1
 | .mk k n a s args B H,.mk k' V q U P Y W=>by
  have h1:=Gx args P;have h2:=NL s U;have T:=wO n V;have S:=wO args.length P.length;unfold dx
  try dsimp only
  repeat' split
  all_goals assumption
theorem Gx:∀v w:List Vl,-1<=iY v w/\iY v w<=1
 | x::l,y::r=>by
  have h1:=K7 x y;have h2:=Gx l r;unfold iY;split<;>assumption
 | [],_=>by simp[iY]
 | _::_,[]=>by simp[iY]
end
theorem K8 {p:Int->Bool}:∀{l:List Ty} {x:Ty},oa p l=true->x∈l->sL p x=true
 | y::l,x,h,O=>by
  simp only[oa,aai]at h;rcases List.mem_cons.1 O with rfl|O
  ·exact h.1
  ·exact K8 h.2 O
theorem Qi (S:bT) (N:Int) (Y:List UInt8) (args:List Nd) (B s:List Ty) (r:List Ty×Bool) (hf:bN 73 args=some B) (G:dJ s S.st) (hl:s.length<=340) (hg:r.1.all bw=true) (E:cn 73 B s=(r,0)):bp N Y 73 args S/\bQ S r (aH 73 args S):=by
 obtain⟨a,b,c,d,st,fr,g,u,m,said⟩:=S;obtain⟨rfl,rfl⟩:=cE hf cc;have M:=bH G;simp only at G M;rcases s with _|⟨O,_|⟨t2,s⟩⟩
 ·cases E
 ·cases E
 obtain⟨v,q0,rfl,Q,rK⟩:=bg G;obtain⟨w,q,rfl,hw,hq⟩:=bg rK;have P:=cQ Q.1;have f2:=cQ hw.1;simp only[aac]at M hl;have U:(if cP O t2=true/\fC O=true then ee (.mk 3 []::s)else aP 5)=(r,0):=E;split at U;rotate_left
 ·cases U
 rename_i c1;cases U;have et:=(gh _ _).1 c1.1;subst et;have T:=zy v w O (mo P.1) P.2.1 f2.2.1 (by have:=Q.2;omega);have hrg:=K7 v w;unfold bp;have e:aH 73 [] ⟨a,b,c,d,v::w::q,fr,g,u,m,said⟩=bl ⟨a,b,c,d,q,fr,g,u,m,said⟩ [aO 3 (dx v w)]:=by unfold aH;rw[Pj];rfl
 rw[e];obtain⟨D,K,C,J,W,H,I⟩:=v;obtain⟨A,p,a2,s2,V,bq,bJ⟩:=w;exact⟨gl _ _ 2 N 73 Y _ [_,_] q _ cc (by rw[Pj];rfl) (by show List.length (Vl.mk D K C J W H I::Vl.mk A p a2 s2 V bq bJ::q)<=_;simp only[aac];omega) (TN ⟨a,b,c,d,q,fr,g,u,m,said⟩ N Y D K C J W H I A p a2 s2 V bq bJ T cm),b9 (S:=⟨a,b,c,d,q,fr,g,u,m,said⟩) (fo (bG hg) (iT cc gS (fun h=>absurd rfl h))) hq⟩
def WH (o:MR):Prop:=o.1=10/\vK o.2.said≠0/\aM o.2.said<=25000000
theorem VW {v:Vl} {t:Ty} (E:bw t=true) (h:bK v t=true):vK v≠0:=by
 obtain⟨k,n,a,s,args,B,H⟩:=v;show k≠0;rintro rfl;simp[bK]at h
theorem Ns (S:bT) (N:Int) (V:List UInt8) (args:List Nd) (B s:List Ty) (r:List Ty×Bool) (hf:bN 83 args=some B) (Y:dJ s S.st) (A:s.length<=340) (E:cn 83 B s=(r,0)):bp N V 83 args S/\WH (aH 83 args S):=by
 obtain⟨a,b,c,d,st,fr,g,u,m,said⟩:=S;obtain⟨rfl,rfl⟩:=cE hf cc;have M:=bH Y;simp only at Y M;cases s with
 | nil=>cases E
 | cons t s =>
 obtain⟨v,q,rfl,U,hq⟩:=bg Y;have T:=cQ U.1;simp only[aac]at M A;unfold bp;have e:aH 83 [] ⟨a,b,c,d,v::q,fr,g,u,m,said⟩=(10,⟨a,b,c,d,q,fr,g,u,m,v⟩):=by unfold aH;rw[Pp];rfl
 rw[e];refine⟨?_,rfl,VW T.1 T.2.1,U.2⟩;obtain⟨D,K,C,Q,W,H,P⟩:=v;exact gl _ _ 2 N 83 V _ [_] q _ cc (by rw[Pp];rfl) (by show List.length (Vl.mk D K C Q W H P::q)<=_;simp only[aac];omega) (QA ⟨a,b,c,d,q,fr,g,u,m,said⟩ N V D K C Q W H P cm)
theorem Nc (S:bT) (N:Int) (V:List UInt8) (args:List Nd) (B s:List Ty) (r:List Ty×Bool) (hf:bN 81 args=some B) (G:dJ s S.st) (hl:s.length<=340) (hg:r.1.all bw=true) (E:cn 81 B s=(r,0)):bp N V 81 args S/\bQ S r (aH 81 args S):=by
 obtain⟨a,b,c,d,st,fr,g,u,m,said⟩:=S;obtain⟨rfl,rfl⟩:=cE hf cc;have M:=bH G;simp only at G M;cases s with
 | nil=>cases E
 | cons t s =>
 obtain⟨v,q,rfl,P,hq⟩:=bg G;have O:=cQ P.1;simp only[aac]at M hl;have T:(if ga t=true then ee (.mk 6 []::s)else aP 5)=(r,0):=E;split at T;rotate_left
 ·cases T
 cases T;have J:=LX t v (mo O.1) O.2.1 (by have:=P.2;omega);have e:aH 81 [] ⟨a,b,c,d,v::q,fr,g,u,m,said⟩=(if(tU v).2≠0 then((13,⟨a,b,c,d,q,fr,g,u,m,said⟩):MR)else bl ⟨a,b,c,d,q,fr,g,u,m,said⟩ [.mk 6 0 0 (tU v).1 [] [] []]):=by unfold aH;rw[IF];rfl
 have Y:(tU v).1.length<=200:=by
  unfold tU;split
  ·grind
  ·simp
 unfold bp;rw[e];generalize tU v=p at *;obtain⟨I,A⟩:=p;obtain⟨D,K,C,U,W,H,Q⟩:=v;by_cases h:A=0
 ·subst h;rw[if_neg (fun h=>h rfl)];exact⟨gl _ _ 2 N 81 V _ [_] q _ cc (by rw[IF];rfl) EF (NG ⟨a,b,c,d,q,fr,g,u,m,said⟩ N V D K C U W H Q I J (by simp only at Y;omega) cm),b9 (S:=⟨a,b,c,d,q,fr,g,u,m,said⟩) (fo (bG hg) (Gw Y)) hq⟩
 ·rw[if_pos h];exact⟨gl _ _ 2 N 81 V _ [_] q _ cc (by rw[IF];rfl) EF (ND ⟨a,b,c,d,q,fr,g,u,m,said⟩ N V D K C U W H Q I A J h cm),.inr (.inr rfl)⟩
end Go.Proofs
namespace Go.Proofs
open Go.cq
mutual
theorem Es:∀(v:Vl) (t:Ty),lX t->bK v t=true->ga t=true->eJ v=true
 | .mk k n a s args B H,.mk T ts,ok,h,Y=>by
  have Q:=BC args;have C:=BD args;have U:args.length=0->eu args=true:=fun h=>by rw[List.length_eq_zero_iff.1 h];rfl
  have P:=r9 ok;simp only[ga,sL,aai]at Y;have W:∀x∈ts,ga x=true:=fun x O=>K8 Y.2 O;unfold bK at h;by_cases V:k≠bR (.mk T ts)\/cw (.mk k n a s args B H)=false\/200<s.length
  ·rw[if_pos V]at h;cases h
  rw[if_neg V]at h;have hp:cw (.mk k n a s args B H)=true:=by
   cases hq:cw (.mk k n a s args B H)with
   | true=>rfl
   | false=>exact absurd (.inr (.inl hq)) V
  have E:k=T:=Decidable.byContradiction fun J=>V (.inl J);subst E;clear V;have d1:∀{p q:Prop} [Decidable (p/\q)],decide (p/\q)=true->q:=fun h=>(of_decide_eq_true h).2;have M:k≠14:=by rintro rfl;exact absurd Y.1 cc
  have A:k≠15:=by rintro rfl;exact absurd Y.1 cc
  have u:k≠8:=by rintro rfl;exact absurd Y.1 cc
  suffices hh:eu args=true by simpa[eJ,M]using hh
  by_cases K:k=1\/k=6
  ·rw[if_pos K]at h;exact U (of_decide_eq_true h).2
  rw[if_neg K]at h;by_cases D:k=2
  ·rw[if_pos D]at h;exact U (of_decide_eq_true h).2.2
  rw[if_neg D]at h;by_cases I:k=3
  ·rw[if_pos I]at h;exact U (of_decide_eq_true h).2.2
  rw[if_neg I]at h;by_cases c4:k=4\/k=5
  ·rw[if_pos c4]at h;exact U (of_decide_eq_true h).2.2
  rw[if_neg c4]at h;by_cases G:k=7
  ·rw[if_pos G]at h;exact U (of_decide_eq_true h).2.2
  rw[if_neg G]at h;by_cases S:k=9
  ·rw[if_pos S,aai]at h;subst S;obtain⟨x,rfl,O⟩:=eV ok cc;exact Q x O h.2 (W x c9)
  rw[if_neg S]at h;by_cases IV:k=10
  ·rw[if_pos IV,aai]at h;subst IV;obtain⟨x,rfl,O⟩:=eV ok cc;exact Q x O h.2 (W x c9)
  rw[if_neg IV]at h;by_cases Mx:k=11
  ·rw[if_pos Mx,aai]at h;subst Mx;have z:=P.1;rw[show arity 11=2 from by decide]at z;exact C ts (fun x O=>P.2 x O) h.2 N2 W
  rw[if_neg Mx]at h;by_cases My:k=12
  ·rw[if_pos My,aai]at h;subst My;obtain⟨x,y,rfl,O,N⟩:=eL ok cc;have hn:=of_decide_eq_true h.1;rcases(show n=0\/n=1 by omega)with rfl|rfl
   ·exact Q x O h.2 (W x c9)
   ·exact Q y N h.2 (W y c9)
  rw[if_neg My]at h;by_cases Mz:k=13
  ·rw[if_pos Mz,aai,aai]at h;subst Mz;exact Q _ (yG ok cc) h.1.2 (by simp only[ga,sL,Y.2,Bool.and_true];decide)
  rw[if_neg Mz,if_neg M,if_neg A,if_neg u]at h;cases h
theorem BC:∀(l:List Vl) (t:Ty),lX t->aR l t=true->ga t=true->eu l=true
 | [],_,_,_,_=>rfl
 | x::l,t,ok,h,Y=>by
  simp only[aR,aai]at h;simp only[eu,aai];exact⟨Es x t ok h.1 Y,BC l t ok h.2 Y⟩
theorem BD:∀(l:List Vl) (r:List Ty),(∀x∈r,lX x)->cW l r=true->l.length<=r.length->(∀x∈r,ga x=true)->eu l=true
 | [],_,_,_,_,_=>rfl
 | x::l,[],_,_,h,_=>by simp at h
 | x::l,t::r,ok,h,hl,Y=>by
  simp only[cW,aai]at h;simp only[eu,aai];exact⟨Es x t (ok t c9) h.1 (Y t c9),BD l r (fun y N=>ok y (by simp[N])) h.2 (by simpa using hl) (fun y N=>Y y (by simp[N]))⟩
end
theorem K9 {t:Ty} {n:Nd} (h:(iC t n).2=0) (q:ga t=true):bw t=true/\bK (iC t n).1 t=true/\eJ (iC t n).1=true:=by
 have h1:=(Fo h).1;unfold pL at h1;rw[aai]at h1;exact⟨h1.1,h1.2,Es _ t (cL h1.1) h1.2 q⟩
theorem VX {P:Int} {args:List Nd} {B:List Ty} (h:bN P args=some B) (G:fN P=[116,118]):∃x y,args=[x,y]/\(aZ x).2=0/\B=[(aZ x).1]:=by
 obtain⟨h1,h2⟩:=jL h;rw[G]at h1 h2;rcases args with _|⟨x,_|⟨y,_|⟨z,r⟩⟩⟩
 ·simp at h1
 ·simp at h1
 ·obtain⟨kind,N,p,q,xs⟩:=x;obtain⟨Y,U,T,S,W⟩:=y;have V:(if(aZ (.mk kind N p q xs)).2=0 then some ([]++[(aZ (.mk kind N p q xs)).1])else none)=some B:=h2;split at V
  ·simp_all
  ·cases V
 ·simp at h1
theorem Pq:bO 45=0:=by decide +kernel
theorem Nr (S:bT) (N:Int) (V:List UInt8) (args:List Nd) (W:aU args<=8589934593) (B s:List Ty) (r:List Ty×Bool) (hf:bN 45 args=some B) (Y:dJ s S.st) (A:s.length<=340) (Q:r.1.all bw=true) (E:(if(iC (B.getD 0 lA) (args.getD 1 sM)).2=0/\ga (B.getD 0 lA)=true then ee (B.getD 0 lA::s)else aP 5)=(r,0)):bp N V 45 args S/\bQ S r (aH 45 args S):=by
 obtain⟨a,b,c,d,q,fr,g,u,m,said⟩:=S;obtain⟨x,y,rfl,O,rfl⟩:=VX hf cc;have M:=bH Y;simp only at Y M;have U:(if(iC (aZ x).1 y).2=0/\ga (aZ x).1=true then ee ((aZ x).1::s)else aP 5)=(r,0):=E;split at U;rotate_left
 ·cases U
 rename_i J;cases U;have p:=K9 J.1 J.2;have T:=Fs (aZ x).1 y;simp only[aU]at W;unfold bp;have e:aH 45 [x,y] ⟨a,b,c,d,q,fr,g,u,m,said⟩=bl ⟨a,b,c,d,q,fr,g,u,m,said⟩ [(iC (aZ x).1 y).1]:=by unfold aH;rw[Pq];rfl
 rw[e];exact⟨iV _ _ 2 N 45 V _ [] q _ cc (by rw[Pq];rfl) cm (MF ⟨a,b,c,d,q,fr,g,u,m,said⟩ N V x y bn bn J.1 bn cm),b9 (S:=⟨a,b,c,d,q,fr,g,u,m,said⟩) (fo p.1 p.2) Y⟩
theorem La {t:Ty} {s:List UInt8} (q:ga t=true) (h:(gA t s).2=0):aM (gA t s).1<=60300/\bK (gA t s).1 t=true/\eJ (gA t s).1=true:=by
 cases s with
 | nil=>cases h
 | cons c r =>
  by_cases J:c=5/\(c::r).length<=200/\ga t=true/\(eR r).2=0
  ·have e:gA t (c::r)=iC t (eR r).1:=if_pos J;rw[e]at h ⊢;have h1:=K9 h q;have h2:=yb (Fo h).2.1;exact⟨Nat.le_trans (Fs _ _) h2,h1.2⟩
  ·have e:gA t (c::r)=(oL,1):=if_neg J;rw[e]at h;cases h
theorem H7 (S:bT) (N:Int) (V:List UInt8) (args:List Nd) (I:aU args<=8589934593) (B s:List Ty) (r:List Ty×Bool) (hf:bN 82 args=some B) (G:dJ s S.st) (P:s.length<=340) (E:r.1.all bw=true) (K:cn 82 B s=(r,0)):bp N V 82 args S/\bQ S r (aH 82 args S):=by
 obtain⟨a,b,c,d,st,fr,g,u,m,said⟩:=S;obtain⟨x,rfl,hx,rfl⟩:=AN hf cc;have M:=bH G;simp only at G M;cases s with
 | nil=>cases K
 | cons t s =>
 obtain⟨v,q,rfl,O,hq⟩:=bg G;have J:=cQ O.1;obtain⟨T,ts⟩:=t;simp only[aac]at M P;have U:(if T=6/\ga (aZ x).1=true then ee (.mk 9 [(aZ x).1]::s)else aP 5)=(r,0):=K;split at U;rotate_left
 ·cases U
 rename_i H;cases U;obtain⟨rfl,D⟩:=H;obtain⟨Y,rfl,g1⟩:=wH J.2.1;simp only[aU]at I;unfold bp;have e:aH 82 [x] ⟨a,b,c,d,.mk 6 0 0 Y [] [] []::q,fr,g,u,m,said⟩=(if(gA (aZ x).1 Y).2≠0 then bl ⟨a,b,c,d,q,fr,g,u,m,said⟩ [cB []]else bl ⟨a,b,c,d,q,fr,g,u,m,said⟩ [cB [(gA (aZ x).1 Y).1]]):=by unfold aH;rw[IG];rfl
 rw[e];have C:=fun h=>La (t:=(aZ x).1) (s:=Y) D h;generalize A:gA (aZ x).1 Y=p at *;obtain⟨W,Q⟩:=p;by_cases h:Q=0
 ·subst h;obtain⟨z1,z2⟩:=C rfl;rw[if_neg (fun h=>h rfl)];exact⟨gl _ _ 2 N 82 V _ [_] q _ cc (by rw[IG];rfl) C1 (TT ⟨a,b,c,d,q,fr,g,u,m,said⟩ N V 6 0 0 Y [] [] [] x bn W A (by simp only at z1;omega) cm),b9 (S:=⟨a,b,c,d,q,fr,g,u,m,said⟩) (fo (bG E) (iM z2)) hq⟩
 ·rw[if_pos h];exact⟨gl _ _ 2 N 82 V _ [_] q _ cc (by rw[IG];rfl) C1 (TS ⟨a,b,c,d,q,fr,g,u,m,said⟩ N V 6 0 0 Y [] [] [] x bn W Q A h cm),b9 (S:=⟨a,b,c,d,q,fr,g,u,m,said⟩) (fo (bG E) mY) hq⟩
end Go.Proofs
