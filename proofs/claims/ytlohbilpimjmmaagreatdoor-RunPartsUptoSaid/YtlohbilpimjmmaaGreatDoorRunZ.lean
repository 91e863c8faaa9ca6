/- Package run: typed steps of class data (without those on bytes of values). Package run: typed steps: compare, fail, pack, unpack, push. Package run: typed steps: unpack, push. -/
import Derived.Test.YtlohbilpimjmmaaGreatDoorRunW
set_option linter.unusedVariables false
set_option linter.unusedSimpArgs false
namespace Go.Proofs
open Go.cu
theorem wB {v:Vl} {ts:List Ty} (h:bL v (.mk 6 ts)=true):∃s,v = .mk 6 0 0 s [] [] []/\s.length<=200:=by
 obtain⟨k,n,a,s,args,H,B⟩:=v;obtain⟨D,T,C⟩:=lP h;simp only[bS]at D;subst D;simp[cB]at T;obtain⟨rfl,rfl,rfl,rfl,rfl⟩:=T;exact⟨s,rfl,C⟩
theorem Gg {s:List UInt8} {ts:List Ty} (h:s.length<=200):bL (.mk 6 0 0 s [] [] []) (.mk 6 ts)=true/\eK (.mk 6 0 0 s [] [] [])=true:=by
 simp[bL,cB,bS,eK,ey];omega
theorem oB {b:Bool} {ts:List Ty}:bL (iw b) (.mk 2 ts)=true/\eK (iw b)=true:=by
 cases b
 ·exact mS (.inl ⟨rfl,cc,cc⟩)
 ·exact mS (.inl ⟨rfl,cc,cc⟩)
theorem O4:bV 73=2:=by decide +kernel
theorem O5:bV 74=1:=by decide +kernel
theorem O6:bV 75=1:=by decide +kernel
theorem O7:bV 76=1:=by decide +kernel
theorem O8:bV 77=1:=by decide +kernel
theorem Im:bV 78=2:=by decide +kernel
theorem Io:bV 79=2:=by decide +kernel
theorem Cl:bV 80=2:=by decide +kernel
theorem Ip:bV 81=1:=by decide +kernel
theorem Iq:bV 82=1:=by decide +kernel
theorem O9:bV 83=1:=by decide +kernel
theorem Ku (S:bT) (N:Int) (G:List UInt8) (args:List Nd) (H s:List Ty) (r:List Ty×Bool) (hf:bQ 74 args=some H) (Y:dK s S.st) (C:s.length<=340) (W:r.1.all bA=true) (E:ct 74 H s=(r,0)):bl N G 74 args S/\bR S r (aI 74 args S):=by
 obtain⟨a,b,c,d,st,fr,g,u,m,said⟩:=S;obtain⟨rfl,rfl⟩:=cH hf cc;have B:=bJ Y;simp only at Y B;cases s with
 | nil=>cases E
 | cons t s =>
 obtain⟨v,q,rfl,V,hq⟩:=bp Y;have U:=cQ V.1;obtain⟨T,ts⟩:=t;simp only[aaa]at B C;have Q:(if T=3 then ep (.mk 2 []::s)else aP 5)=(r,0):=E;split at Q;rotate_left
 ·cases Q
 rename_i P;cases Q;subst P;obtain⟨n,rfl,g1⟩:=fH cc U.2.1;unfold bl;have e:aI 74 [] ⟨a,b,c,d,aO 3 n::q,fr,g,u,m,said⟩=bg ⟨a,b,c,d,q,fr,g,u,m,said⟩ [iw (n==0)]:=by unfold aI;rw[O5];rfl
 rw[e];exact⟨gn _ _ 2 N 74 G _ [aO 3 n] q _ cc (by rw[O5];rfl) gp (Vq ⟨a,b,c,d,q,fr,g,u,m,said⟩ N G 3 n 0 [] [] [] [] cm),cg (S:=⟨a,b,c,d,q,fr,g,u,m,said⟩) (fu (bE W) oB) hq⟩
theorem Kv (S:bT) (N:Int) (G:List UInt8) (args:List Nd) (H s:List Ty) (r:List Ty×Bool) (hf:bQ 75 args=some H) (Y:dK s S.st) (C:s.length<=340) (W:r.1.all bA=true) (E:ct 75 H s=(r,0)):bl N G 75 args S/\bR S r (aI 75 args S):=by
 obtain⟨a,b,c,d,st,fr,g,u,m,said⟩:=S;obtain⟨rfl,rfl⟩:=cH hf cc;have B:=bJ Y;simp only at Y B;cases s with
 | nil=>cases E
 | cons t s =>
 obtain⟨v,q,rfl,V,hq⟩:=bp Y;have U:=cQ V.1;obtain⟨T,ts⟩:=t;simp only[aaa]at B C;have Q:(if T=3 then ep (.mk 2 []::s)else aP 5)=(r,0):=E;split at Q;rotate_left
 ·cases Q
 rename_i P;cases Q;subst P;obtain⟨n,rfl,g1⟩:=fH cc U.2.1;unfold bl;have e:aI 75 [] ⟨a,b,c,d,aO 3 n::q,fr,g,u,m,said⟩=bg ⟨a,b,c,d,q,fr,g,u,m,said⟩ [iw (decide (n<0))]:=by unfold aI;rw[O6];rfl
 rw[e];exact⟨gn _ _ 2 N 75 G _ [aO 3 n] q _ cc (by rw[O6];rfl) gp (Vr ⟨a,b,c,d,q,fr,g,u,m,said⟩ N G 3 n 0 [] [] [] [] cm),cg (S:=⟨a,b,c,d,q,fr,g,u,m,said⟩) (fu (bE W) oB) hq⟩
theorem Kw (S:bT) (N:Int) (G:List UInt8) (args:List Nd) (H s:List Ty) (r:List Ty×Bool) (hf:bQ 76 args=some H) (Y:dK s S.st) (C:s.length<=340) (W:r.1.all bA=true) (E:ct 76 H s=(r,0)):bl N G 76 args S/\bR S r (aI 76 args S):=by
 obtain⟨a,b,c,d,st,fr,g,u,m,said⟩:=S;obtain⟨rfl,rfl⟩:=cH hf cc;have B:=bJ Y;simp only at Y B;cases s with
 | nil=>cases E
 | cons t s =>
 obtain⟨v,q,rfl,V,hq⟩:=bp Y;have U:=cQ V.1;obtain⟨T,ts⟩:=t;simp only[aaa]at B C;have Q:(if T=3 then ep (.mk 2 []::s)else aP 5)=(r,0):=E;split at Q;rotate_left
 ·cases Q
 rename_i P;cases Q;subst P;obtain⟨n,rfl,g1⟩:=fH cc U.2.1;unfold bl;have e:aI 76 [] ⟨a,b,c,d,aO 3 n::q,fr,g,u,m,said⟩=bg ⟨a,b,c,d,q,fr,g,u,m,said⟩ [iw (decide (n>0))]:=by unfold aI;rw[O7];rfl
 rw[e];exact⟨gn _ _ 2 N 76 G _ [aO 3 n] q _ cc (by rw[O7];rfl) gp (Vs ⟨a,b,c,d,q,fr,g,u,m,said⟩ N G 3 n 0 [] [] [] [] cm),cg (S:=⟨a,b,c,d,q,fr,g,u,m,said⟩) (fu (bE W) oB) hq⟩
theorem Qf (S:bT) (N:Int) (G:List UInt8) (args:List Nd) (H s:List Ty) (r:List Ty×Bool) (hf:bQ 77 args=some H) (Y:dK s S.st) (C:s.length<=340) (W:r.1.all bA=true) (E:ct 77 H s=(r,0)):bl N G 77 args S/\bR S r (aI 77 args S):=by
 obtain⟨a,b,c,d,st,fr,g,u,m,said⟩:=S;obtain⟨rfl,rfl⟩:=cH hf cc;have B:=bJ Y;simp only at Y B;cases s with
 | nil=>cases E
 | cons t s =>
 obtain⟨v,q,rfl,V,hq⟩:=bp Y;have U:=cQ V.1;obtain⟨T,ts⟩:=t;simp only[aaa]at B C;have Q:(if T=2 then ep (.mk T ts::s)else aP 5)=(r,0):=E;split at Q;rotate_left
 ·cases Q
 rename_i P;cases Q;subst P;obtain⟨n,rfl,g1⟩:=fH cc U.2.1;unfold bl;have e:aI 77 [] ⟨a,b,c,d,aO 2 n::q,fr,g,u,m,said⟩=bg ⟨a,b,c,d,q,fr,g,u,m,said⟩ [iw (n==0)]:=by unfold aI;rw[O8];rfl
 rw[e];exact⟨gn _ _ 2 N 77 G _ [aO 2 n] q _ cc (by rw[O8];rfl) (by show List.length (aO 2 n::q)<=_;simp only[aaa];omega) (Vt ⟨a,b,c,d,q,fr,g,u,m,said⟩ N G 2 n 0 [] [] [] [] cm),cg (S:=⟨a,b,c,d,q,fr,g,u,m,said⟩) (fu (bE W) oB) hq⟩
theorem Qg (S:bT) (N:Int) (P:List UInt8) (args:List Nd) (H s:List Ty) (r:List Ty×Bool) (hf:bQ 78 args=some H) (Y:dK s S.st) (C:s.length<=340) (W:r.1.all bA=true) (E:ct 78 H s=(r,0)):bl N P 78 args S/\bR S r (aI 78 args S):=by
 obtain⟨a,b,c,d,st,fr,g,u,m,said⟩:=S;obtain⟨rfl,rfl⟩:=cH hf cc;have B:=bJ Y;simp only at Y B;rcases s with _|⟨U,_|⟨O,s⟩⟩
 ·cases E
 ·cases E
 obtain⟨v,q0,rfl,M,D⟩:=bp Y;obtain⟨w,q,rfl,K,hq⟩:=bp D;have J:=cQ M.1;have I:=cQ K.1;obtain⟨T,ts⟩:=U;obtain⟨V,A⟩:=O;simp only[aaa]at B C;have Q:(if T=2/\V=2 then ep (.mk V A::s)else aP 5)=(r,0):=E;split at Q;rotate_left
 ·cases Q
 rename_i p;cases Q;obtain⟨rfl,rfl⟩:=p;obtain⟨n,rfl,g1⟩:=fH cc J.2.1;obtain⟨G,rfl,g2⟩:=fH cc I.2.1;unfold bl;have e:aI 78 [] ⟨a,b,c,d,aO 2 n::aO 2 G::q,fr,g,u,m,said⟩=bg ⟨a,b,c,d,q,fr,g,u,m,said⟩ [iw (decide (n=1/\G=1))]:=by unfold aI;rw[Im];rfl
 rw[e];by_cases h:n=1
 ·rw[show decide (n=1/\G=1)=(G==1)from by simp[h];try rfl];exact⟨gn _ _ 2 N 78 P _ [aO 2 n,aO 2 G] q _ cc (by rw[Im];rfl) kJ (Ts ⟨a,b,c,d,q,fr,g,u,m,said⟩ N P 2 n 0 [] [] [] [] 2 G 0 [] [] [] [] h cm),cg (S:=⟨a,b,c,d,q,fr,g,u,m,said⟩) (fu (bE W) oB) hq⟩
 ·rw[show decide (n=1/\G=1)=false from by simp[h];try rfl];exact⟨gn _ _ 2 N 78 P _ [aO 2 n,aO 2 G] q _ cc (by rw[Im];rfl) kJ (Tt ⟨a,b,c,d,q,fr,g,u,m,said⟩ N P 2 n 0 [] [] [] [] 2 G 0 [] [] [] [] h cm),cg (S:=⟨a,b,c,d,q,fr,g,u,m,said⟩) (fu (bE W) oB) hq⟩
theorem Te (S:bT) (N:Int) (P:List UInt8) (args:List Nd) (H s:List Ty) (r:List Ty×Bool) (hf:bQ 79 args=some H) (Y:dK s S.st) (C:s.length<=340) (W:r.1.all bA=true) (E:ct 79 H s=(r,0)):bl N P 79 args S/\bR S r (aI 79 args S):=by
 obtain⟨a,b,c,d,st,fr,g,u,m,said⟩:=S;obtain⟨rfl,rfl⟩:=cH hf cc;have B:=bJ Y;simp only at Y B;rcases s with _|⟨U,_|⟨O,s⟩⟩
 ·cases E
 ·cases E
 obtain⟨v,q0,rfl,M,D⟩:=bp Y;obtain⟨w,q,rfl,K,hq⟩:=bp D;have J:=cQ M.1;have I:=cQ K.1;obtain⟨T,ts⟩:=U;obtain⟨V,A⟩:=O;simp only[aaa]at B C;have Q:(if T=2/\V=2 then ep (.mk V A::s)else aP 5)=(r,0):=E;split at Q;rotate_left
 ·cases Q
 rename_i p;cases Q;obtain⟨rfl,rfl⟩:=p;obtain⟨n,rfl,g1⟩:=fH cc J.2.1;obtain⟨G,rfl,g2⟩:=fH cc I.2.1;unfold bl;have e:aI 79 [] ⟨a,b,c,d,aO 2 n::aO 2 G::q,fr,g,u,m,said⟩=bg ⟨a,b,c,d,q,fr,g,u,m,said⟩ [iw (decide (n=1\/G=1))]:=by unfold aI;rw[Io];rfl
 rw[e];by_cases h:n=1
 ·rw[show decide (n=1\/G=1)=true from by simp[h];try rfl];exact⟨gn _ _ 2 N 79 P _ [aO 2 n,aO 2 G] q _ cc (by rw[Io];rfl) kJ (Tu ⟨a,b,c,d,q,fr,g,u,m,said⟩ N P 2 n 0 [] [] [] [] 2 G 0 [] [] [] [] h cm),cg (S:=⟨a,b,c,d,q,fr,g,u,m,said⟩) (fu (bE W) oB) hq⟩
 ·rw[show decide (n=1\/G=1)=(G==1)from by simp[h];try rfl];exact⟨gn _ _ 2 N 79 P _ [aO 2 n,aO 2 G] q _ cc (by rw[Io];rfl) kJ (Tv ⟨a,b,c,d,q,fr,g,u,m,said⟩ N P 2 n 0 [] [] [] [] 2 G 0 [] [] [] [] h cm),cg (S:=⟨a,b,c,d,q,fr,g,u,m,said⟩) (fu (bE W) oB) hq⟩
theorem HO (S:bT) (N:Int) (G:List UInt8) (args:List Nd) (H s:List Ty) (r:List Ty×Bool) (hf:bQ 80 args=some H) (Y:dK s S.st) (C:s.length<=340) (V:r.1.all bA=true) (K:ct 80 H s=(r,0)):bl N G 80 args S/\bR S r (aI 80 args S):=by
 obtain⟨a,b,c,d,st,fr,g,u,m,said⟩:=S;obtain⟨rfl,rfl⟩:=cH hf cc;have B:=bJ Y;simp only at Y B;rcases s with _|⟨U,_|⟨P,s⟩⟩
 ·cases K
 ·cases K
 obtain⟨v,q0,rfl,O,D⟩:=bp Y;obtain⟨w,q,rfl,M,hq⟩:=bp D;have I:=cQ O.1;have A:=cQ M.1;obtain⟨T,ts⟩:=U;obtain⟨W,p⟩:=P;simp only[aaa]at B C;have Q:(if T=6/\W=6 then ep (.mk W p::s)else aP 5)=(r,0):=K;split at Q;rotate_left
 ·cases Q
 rename_i c1;cases Q;obtain⟨rfl,rfl⟩:=c1;obtain⟨J,rfl,g1⟩:=wB I.2.1;obtain⟨E,rfl,g2⟩:=wB A.2.1;unfold bl;by_cases h:200<J.length+E.length
 ·have e:aI 80 [] ⟨a,b,c,d,.mk 6 0 0 J [] [] [] :: .mk 6 0 0 E [] [] []::q,fr,g,u,m,said⟩=(13,⟨a,b,c,d,q,fr,g,u,m,said⟩):=by
   unfold aI;rw[Cl];show(if 200<J.length+E.length then((13,⟨a,b,c,d,q,fr,g,u,m,said⟩):MR)else bg ⟨a,b,c,d,q,fr,g,u,m,said⟩ [.mk 6 0 0 (J++E) [] [] []])=_;rw[if_pos h]
  rw[e];exact⟨gn _ _ 2 N 80 G _ [.mk 6 0 0 J [] [] [],.mk 6 0 0 E [] [] []] q _ cc (by rw[Cl];rfl) oy (Qo ⟨a,b,c,d,q,fr,g,u,m,said⟩ N G 6 0 0 J [] [] [] 6 0 0 E [] [] [] h bn cm),.inr (.inr rfl)⟩
 ·have e:aI 80 [] ⟨a,b,c,d,.mk 6 0 0 J [] [] [] :: .mk 6 0 0 E [] [] []::q,fr,g,u,m,said⟩=bg ⟨a,b,c,d,q,fr,g,u,m,said⟩ [.mk 6 0 0 (J++E) [] [] []]:=by
   unfold aI;rw[Cl];show(if 200<J.length+E.length then((13,⟨a,b,c,d,q,fr,g,u,m,said⟩):MR)else bg ⟨a,b,c,d,q,fr,g,u,m,said⟩ [.mk 6 0 0 (J++E) [] [] []])=_;rw[if_neg h]
  rw[e];exact⟨gn _ _ 2 N 80 G _ [.mk 6 0 0 J [] [] [],.mk 6 0 0 E [] [] []] q _ cc (by rw[Cl];rfl) oy (Qp ⟨a,b,c,d,q,fr,g,u,m,said⟩ N G 6 0 0 J [] [] [] 6 0 0 E [] [] [] h cm),cg (S:=⟨a,b,c,d,q,fr,g,u,m,said⟩) (fu (bE V) (Gg (by rw[aax];omega))) hq⟩
end Go.Proofs
namespace Go.Proofs
open Go.cu
theorem Nu (a b:List UInt8) : -1<=eB a b/\eB a b<=1:=by unfold eB;repeat' split<;>(try omega)
mutual
theorem KP:∀v w:Vl,-1<=dA v w/\dA v w<=1
 | .mk k n a s args H B,.mk k' V C P p Y W=>by
  have h1:=Gi args p;have h2:=Nu s P;have U:=wG n V;have D:=wG args.length p.length;unfold dA
  try dsimp only
  repeat' split
  all_goals assumption
theorem Gi:∀v w:List Vl,-1<=iW v w/\iW v w<=1
 | x::l,y::r=>by
  have h1:=KP x y;have h2:=Gi l r;unfold iW;split<;>assumption
 | [],_=>by simp[iW]
 | _::_,[]=>by simp[iW]
end
theorem KQ {p:Int->Bool}:∀{l:List Ty} {x:Ty},nY p l=true->x∈l->sD p x=true
 | y::l,x,h,O=>by
  simp only[nY,aaj]at h;rcases List.mem_cons.1 O with rfl|O
  ·exact h.1
  ·exact KQ h.2 O
theorem Qe (S:bT) (J:Int) (G:List UInt8) (args:List Nd) (H s:List Ty) (r:List Ty×Bool) (hf:bQ 73 args=some H) (Y:dK s S.st) (hl:s.length<=340) (hg:r.1.all bA=true) (E:ct 73 H s=(r,0)):bl J G 73 args S/\bR S r (aI 73 args S):=by
 obtain⟨a,b,c,d,st,fr,g,u,m,said⟩:=S;obtain⟨rfl,rfl⟩:=cH hf cc;have B:=bJ Y;simp only at Y B;rcases s with _|⟨U,_|⟨t2,s⟩⟩
 ·cases E
 ·cases E
 obtain⟨v,q0,rfl,T,rI⟩:=bp Y;obtain⟨w,q,rfl,hw,hq⟩:=bp rI;have V:=cQ T.1;have f2:=cQ hw.1;simp only[aaa]at B hl;have Q:(if cP U t2=true/\fG U=true then ep (.mk 3 []::s)else aP 5)=(r,0):=E;split at Q;rotate_left
 ·cases Q
 rename_i c1;cases Q;have et:=(gm _ _).1 c1.1;subst et;have Z7:=zk v w U (mb V.1) V.2.1 f2.2.1 (by have:=T.2;omega);have hrg:=KP v w;unfold bl;have e:aI 73 [] ⟨a,b,c,d,v::w::q,fr,g,u,m,said⟩=bg ⟨a,b,c,d,q,fr,g,u,m,said⟩ [aO 3 (dA v w)]:=by unfold aI;rw[O4];rfl
 rw[e];obtain⟨P,K,C,O,W,M,I⟩:=v;obtain⟨D,A,p,s2,N,bt,bI⟩:=w;exact⟨gn _ _ 2 J 73 G _ [_,_] q _ cc (by rw[O4];rfl) (by show List.length (Vl.mk P K C O W M I::Vl.mk D A p s2 N bt bI::q)<=_;simp only[aaa];omega) (Tr ⟨a,b,c,d,q,fr,g,u,m,said⟩ J G P K C O W M I D A p s2 N bt bI Z7 cm),cg (S:=⟨a,b,c,d,q,fr,g,u,m,said⟩) (fu (bE hg) (iS cc ga (fun h=>absurd rfl h))) hq⟩
def Wo (o:MR):Prop:=o.1=10/\vK o.2.said≠0/\aM o.2.said<=25000000
theorem VD {v:Vl} {t:Ty} (Q:bA t=true) (h:bL v t=true):vK v≠0:=by
 obtain⟨k,n,a,s,args,H,B⟩:=v;show k≠0;rintro rfl;simp[bL]at h
theorem Nh (S:bT) (N:Int) (G:List UInt8) (args:List Nd) (H s:List Ty) (r:List Ty×Bool) (hf:bQ 83 args=some H) (Y:dK s S.st) (I:s.length<=340) (E:ct 83 H s=(r,0)):bl N G 83 args S/\Wo (aI 83 args S):=by
 obtain⟨a,b,c,d,st,fr,g,u,m,said⟩:=S;obtain⟨rfl,rfl⟩:=cH hf cc;have B:=bJ Y;simp only at Y B;cases s with
 | nil=>cases E
 | cons t s =>
 obtain⟨v,q,rfl,T,hq⟩:=bp Y;have V:=cQ T.1;simp only[aaa]at B I;unfold bl;have e:aI 83 [] ⟨a,b,c,d,v::q,fr,g,u,m,said⟩=(10,⟨a,b,c,d,q,fr,g,u,m,v⟩):=by unfold aI;rw[O9];rfl
 rw[e];refine⟨?_,rfl,VD V.1 V.2.1,T.2⟩;obtain⟨U,K,C,J,W,O,Q⟩:=v;exact gn _ _ 2 N 83 G _ [_] q _ cc (by rw[O9];rfl) (by show List.length (Vl.mk U K C J W O Q::q)<=_;simp only[aaa];omega) (Qq ⟨a,b,c,d,q,fr,g,u,m,said⟩ N G U K C J W O Q cm)
theorem M0 (S:bT) (N:Int) (G:List UInt8) (args:List Nd) (H s:List Ty) (r:List Ty×Bool) (hf:bQ 81 args=some H) (T:dK s S.st) (hl:s.length<=340) (hg:r.1.all bA=true) (E:ct 81 H s=(r,0)):bl N G 81 args S/\bR S r (aI 81 args S):=by
 obtain⟨a,b,c,d,st,fr,g,u,m,said⟩:=S;obtain⟨rfl,rfl⟩:=cH hf cc;have B:=bJ T;simp only at T B;cases s with
 | nil=>cases E
 | cons t s =>
 obtain⟨v,q,rfl,P,hq⟩:=bp T;have M:=cQ P.1;simp only[aaa]at B hl;have Q:(if gh t=true then ep (.mk 6 []::s)else aP 5)=(r,0):=E;split at Q;rotate_left
 ·cases Q
 cases Q;have I:=LH t v (mb M.1) M.2.1 (by have:=P.2;omega);have e:aI 81 [] ⟨a,b,c,d,v::q,fr,g,u,m,said⟩=(if(tJ v).2≠0 then((13,⟨a,b,c,d,q,fr,g,u,m,said⟩):MR)else bg ⟨a,b,c,d,q,fr,g,u,m,said⟩ [.mk 6 0 0 (tJ v).1 [] [] []]):=by unfold aI;rw[Ip];rfl
 have Y:(tJ v).1.length<=200:=by
  unfold tJ;split
  ·grind
  ·simp
 unfold bl;rw[e];generalize tJ v=p at *;obtain⟨D,A⟩:=p;obtain⟨V,K,C,J,W,O,U⟩:=v;by_cases h:A=0
 ·subst h;rw[if_neg (fun h=>h rfl)];exact⟨gn _ _ 2 N 81 G _ [_] q _ cc (by rw[Ip];rfl) xd (No ⟨a,b,c,d,q,fr,g,u,m,said⟩ N G V K C J W O U D I (by simp only at Y;omega) cm),cg (S:=⟨a,b,c,d,q,fr,g,u,m,said⟩) (fu (bE hg) (Gg Y)) hq⟩
 ·rw[if_pos h];exact⟨gn _ _ 2 N 81 G _ [_] q _ cc (by rw[Ip];rfl) xd (Nn ⟨a,b,c,d,q,fr,g,u,m,said⟩ N G V K C J W O U D A I h cm),.inr (.inr rfl)⟩
end Go.Proofs
namespace Go.Proofs
open Go.cu
mutual
theorem Ei:∀(v:Vl) (t:Ty),lS t->bL v t=true->gh t=true->eK v=true
 | .mk k n a s args H B,.mk T ts,ok,h,G=>by
  have M:=Bx args;have D:=By args;have A:args.length=0->ey args=true:=fun h=>by rw[List.length_eq_zero_iff.1 h];rfl
  have S:=rV ok;simp only[gh,sD,aaj]at G;have Y:∀x∈ts,gh x=true:=fun x O=>KQ G.2 O;unfold bL at h;by_cases I:k≠bS (.mk T ts)\/cB (.mk k n a s args H B)=false\/200<s.length
  ·rw[if_pos I]at h;cases h
  rw[if_neg I]at h;have hp:cB (.mk k n a s args H B)=true:=by
   cases hq:cB (.mk k n a s args H B)with
   | true=>rfl
   | false=>exact absurd (.inr (.inl hq)) I
  have E:k=T:=Decidable.byContradiction fun V=>I (.inl V);subst E;clear I;have d1:∀{p q:Prop} [Decidable (p/\q)],decide (p/\q)=true->q:=fun h=>(of_decide_eq_true h).2;have Q:k≠14:=by rintro rfl;exact absurd G.1 cc
  have C:k≠15:=by rintro rfl;exact absurd G.1 cc
  have u:k≠8:=by rintro rfl;exact absurd G.1 cc
  suffices hh:ey args=true by simpa[eK,Q]using hh
  by_cases P:k=1\/k=6
  ·rw[if_pos P]at h;exact A (of_decide_eq_true h).2
  rw[if_neg P]at h;by_cases J:k=2
  ·rw[if_pos J]at h;exact A (of_decide_eq_true h).2.2
  rw[if_neg J]at h;by_cases N:k=3
  ·rw[if_pos N]at h;exact A (of_decide_eq_true h).2.2
  rw[if_neg N]at h;by_cases c4:k=4\/k=5
  ·rw[if_pos c4]at h;exact A (of_decide_eq_true h).2.2
  rw[if_neg c4]at h;by_cases K:k=7
  ·rw[if_pos K]at h;exact A (of_decide_eq_true h).2.2
  rw[if_neg K]at h;by_cases U:k=9
  ·rw[if_pos U,aaj]at h;subst U;obtain⟨x,rfl,O⟩:=eY ok cc;exact M x O h.2 (Y x cn)
  rw[if_neg U]at h;by_cases Lk:k=10
  ·rw[if_pos Lk,aaj]at h;subst Lk;obtain⟨x,rfl,O⟩:=eY ok cc;exact M x O h.2 (Y x cn)
  rw[if_neg Lk]at h;by_cases PV:k=11
  ·rw[if_pos PV,aaj]at h;subst PV;have z:=S.1;rw[show arity 11=2 from by decide]at z;exact D ts (fun x O=>S.2 x O) h.2 L5 Y
  rw[if_neg PV]at h;by_cases PW:k=12
  ·rw[if_pos PW,aaj]at h;subst PW;obtain⟨x,y,rfl,O,W⟩:=eN ok cc;have hn:=of_decide_eq_true h.1;rcases(show n=0\/n=1 by omega)with rfl|rfl
   ·exact M x O h.2 (Y x cn)
   ·exact M y W h.2 (Y y cn)
  rw[if_neg PW]at h;by_cases PX:k=13
  ·rw[if_pos PX,aaj,aaj]at h;subst PX;exact M _ (yu ok cc) h.1.2 (by simp only[gh,sD,G.2,Bool.and_true];decide)
  rw[if_neg PX,if_neg Q,if_neg C,if_neg u]at h;cases h
theorem Bx:∀(l:List Vl) (t:Ty),lS t->aR l t=true->gh t=true->ey l=true
 | [],_,_,_,_=>rfl
 | x::l,t,ok,h,G=>by
  simp only[aR,aaj]at h;simp only[ey,aaj];exact⟨Ei x t ok h.1 G,Bx l t ok h.2 G⟩
theorem By:∀(l:List Vl) (r:List Ty),(∀x∈r,lS x)->cX l r=true->l.length<=r.length->(∀x∈r,gh x=true)->ey l=true
 | [],_,_,_,_,_=>rfl
 | x::l,[],_,_,h,_=>by simp at h
 | x::l,t::r,ok,h,hl,G=>by
  simp only[cX,aaj]at h;simp only[ey,aaj];exact⟨Ei x t (ok t cn) h.1 (G t cn),By l r (fun y W=>ok y (by simp[W])) h.2 (by simpa using hl) (fun y W=>G y (by simp[W]))⟩
end
theorem KR {t:Ty} {n:Nd} (h:(iB t n).2=0) (G:gh t=true):bA t=true/\bL (iB t n).1 t=true/\eK (iB t n).1=true:=by
 have h1:=(Ff h).1;unfold pI at h1;rw[aaj]at h1;exact⟨h1.1,h1.2,Ei _ t (cL h1.1) h1.2 G⟩
theorem VE {P:Int} {args:List Nd} {H:List Ty} (h:bQ P args=some H) (W:fS P=[116,118]):∃x y,args=[x,y]/\(aZ x).2=0/\H=[(aZ x).1]:=by
 obtain⟨h1,h2⟩:=jN h;rw[W]at h1 h2;rcases args with _|⟨x,_|⟨y,_|⟨z,r⟩⟩⟩
 ·simp at h1
 ·simp at h1
 ·obtain⟨kind,N,p,q,xs⟩:=x;obtain⟨Y,T,S,Q,U⟩:=y;have V:(if(aZ (.mk kind N p q xs)).2=0 then some ([]++[(aZ (.mk kind N p q xs)).1])else none)=some H:=h2;split at V
  ·simp_all
  ·cases V
 ·simp at h1
theorem Pa:bV 45=0:=by decide +kernel
theorem Ng (S:bT) (N:Int) (G:List UInt8) (args:List Nd) (U:aQ args<=8589934593) (H s:List Ty) (r:List Ty×Bool) (hf:bQ 45 args=some H) (Y:dK s S.st) (C:s.length<=340) (T:r.1.all bA=true) (E:(if(iB (H.getD 0 lF) (args.getD 1 sE)).2=0/\gh (H.getD 0 lF)=true then ep (H.getD 0 lF::s)else aP 5)=(r,0)):bl N G 45 args S/\bR S r (aI 45 args S):=by
 obtain⟨a,b,c,d,q,fr,g,u,m,said⟩:=S;obtain⟨x,y,rfl,O,rfl⟩:=VE hf cc;have B:=bJ Y;simp only at Y B;have Q:(if(iB (aZ x).1 y).2=0/\gh (aZ x).1=true then ep ((aZ x).1::s)else aP 5)=(r,0):=E;split at Q;rotate_left
 ·cases Q
 rename_i W;cases Q;have V:=KR W.1 W.2;have J:=Fh (aZ x).1 y;simp only[aQ]at U;unfold bl;have e:aI 45 [x,y] ⟨a,b,c,d,q,fr,g,u,m,said⟩=bg ⟨a,b,c,d,q,fr,g,u,m,said⟩ [(iB (aZ x).1 y).1]:=by unfold aI;rw[Pa];rfl
 rw[e];exact⟨iT _ _ 2 N 45 G _ [] q _ cc (by rw[Pa];rfl) cm (Mr ⟨a,b,c,d,q,fr,g,u,m,said⟩ N G x y bn bn W.1 bn cm),cg (S:=⟨a,b,c,d,q,fr,g,u,m,said⟩) (fu V.1 V.2) Y⟩
theorem KS {t:Ty} {s:List UInt8} (G:gh t=true) (h:(gC t s).2=0):aM (gC t s).1<=60300/\bL (gC t s).1 t=true/\eK (gC t s).1=true:=by
 cases s with
 | nil=>cases h
 | cons c r =>
  by_cases J:c=5/\(c::r).length<=200/\gh t=true/\(eT r).2=0
  ·have e:gC t (c::r)=iB t (eT r).1:=if_pos J;rw[e]at h ⊢;have h1:=KR h G;have h2:=xW (Ff h).2.1;exact⟨Nat.le_trans (Fh _ _) h2,h1.2⟩
  ·have e:gC t (c::r)=(oO,1):=if_neg J;rw[e]at h;cases h
theorem HP (S:bT) (N:Int) (G:List UInt8) (args:List Nd) (U:aQ args<=8589934593) (H s:List Ty) (r:List Ty×Bool) (hf:bQ 82 args=some H) (Y:dK s S.st) (C:s.length<=340) (W:r.1.all bA=true) (E:ct 82 H s=(r,0)):bl N G 82 args S/\bR S r (aI 82 args S):=by
 obtain⟨a,b,c,d,st,fr,g,u,m,said⟩:=S;obtain⟨x,rfl,hx,rfl⟩:=AE hf cc;have B:=bJ Y;simp only at Y B;cases s with
 | nil=>cases E
 | cons t s =>
 obtain⟨v,q,rfl,P,hq⟩:=bp Y;have M:=cQ P.1;obtain⟨T,ts⟩:=t;simp only[aaa]at B C;have Q:(if T=6/\gh (aZ x).1=true then ep (.mk 9 [(aZ x).1]::s)else aP 5)=(r,0):=E;split at Q;rotate_left
 ·cases Q
 rename_i K;cases Q;obtain⟨rfl,I⟩:=K;obtain⟨J,rfl,g1⟩:=wB M.2.1;simp only[aQ]at U;unfold bl;have e:aI 82 [x] ⟨a,b,c,d,.mk 6 0 0 J [] [] []::q,fr,g,u,m,said⟩=(if(gC (aZ x).1 J).2≠0 then bg ⟨a,b,c,d,q,fr,g,u,m,said⟩ [cx []]else bg ⟨a,b,c,d,q,fr,g,u,m,said⟩ [cx [(gC (aZ x).1 J).1]]):=by unfold aI;rw[Iq];rfl
 rw[e];have D:=fun h=>KS (t:=(aZ x).1) (s:=J) I h;generalize A:gC (aZ x).1 J=p at *;obtain⟨O,V⟩:=p;by_cases h:V=0
 ·subst h;obtain⟨z1,z2⟩:=D rfl;rw[if_neg (fun h=>h rfl)];exact⟨gn _ _ 2 N 82 G _ [_] q _ cc (by rw[Iq];rfl) u6 (Tx ⟨a,b,c,d,q,fr,g,u,m,said⟩ N G 6 0 0 J [] [] [] x bn O A (by simp only at z1;omega) cm),cg (S:=⟨a,b,c,d,q,fr,g,u,m,said⟩) (fu (bE W) (iM z2)) hq⟩
 ·rw[if_pos h];exact⟨gn _ _ 2 N 82 G _ [_] q _ cc (by rw[Iq];rfl) u6 (Tw ⟨a,b,c,d,q,fr,g,u,m,said⟩ N G 6 0 0 J [] [] [] x bn O V A h cm),cg (S:=⟨a,b,c,d,q,fr,g,u,m,said⟩) (fu (bE W) mT) hq⟩
end Go.Proofs
