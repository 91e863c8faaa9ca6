/- Package run: -/
import Derived.Test.YtdnpapgijbhofaaGreatDoorRunWRt
import Derived.Test.YtdnpapgijbhofaaGreatDoorRunURt
open Go.IntKind
open Go.Proofs.Tryz
set_option linter.defProp false
set_option maxHeartbeats 0
set_option linter.unusedVariables false
set_option linter.unusedSimpArgs false
set_option maxRecDepth 100000
namespace Go.Proofs
open Go.cB
def vV{v:Vl}{ts:L Ty}(h:bz v (.mk 6 ts)=true):∃s,v = .mk 6 0 0 s [] [] []/\s.length<=200:=by obtain⟨k,n,a,s,args,types,H⟩:=v;obtain⟨E,D,V⟩:=jt h;simp only[cq]at E;subst E;simp[bX]at D;obtain⟨rfl,rfl,rfl,rfl,rfl⟩:=D;exact⟨s,rfl,V⟩
def F7{s:L UInt8}{ts:L Ty}(h:s.length<=200):bz (.mk 6 0 0 s [] [] []) (.mk 6 ts)=true/\ey (.mk 6 0 0 s [] [] [])=true:=by simp[bz,bX,cq,ey,ee];omega
def oq{b:Bool}{ts:L Ty}:bz (gU b) (.mk 2 ts)=true/\ey (gU b)=true:=by cases b;exact mF (.inl ⟨rfl,cc,cc⟩);exact mF (.inl ⟨rfl,cc,cc⟩)
def OO:bD 73=2:=by decide +kernel
def OP:bD 74=1:=by decide +kernel
def OQ:bD 75=1:=by decide +kernel
def OR:bD 76=1:=by decide +kernel
def OS:bD 77=1:=by decide +kernel
def ID:bD 78=2:=by decide +kernel
def IE:bD 79=2:=by decide +kernel
def B7:bD 80=2:=by decide +kernel
def IF:bD 81=1:=by decide +kernel
def IG:bD 82=1:=by decide +kernel
def OT:bD 83=1:=by decide +kernel
def KH(S:bE)(G:Int)(Y:L UInt8)(args:L Nd)(types s:L Ty)(r:L Ty×Bool)(hf:br 74 args=some types)(C:cD s S.st)(V:s.length<=340)(Q:r.1.all bg=true)(D:iJ 74 types s=(r,0)):aW G Y 74 args S/\bG S r (aq 74 args S):=by
 obtain⟨a,b,c,d,st,I,g,u,m,B⟩:=S;obtain⟨rfl,rfl⟩:=ct hf cc;have O:=bq C;simp only at C O;cases s with
 |nil=>cases D
 |cons t s =>
 obtain⟨v,q,rfl,U,hq⟩:=aF C;have P:=bO U.1;obtain⟨T,ts⟩:=t;simp only[aaa]at O V;have W:(if T=3 then eB (.mk 2 []::s)else aX 5)=(r,0):=D;split at W;rotate_left;cases W;rename_i p;cases W;subst p;obtain⟨n,rfl,g1⟩:=fh cc P.2.1;unfold aW;have e:aq 74 [] ⟨a,b,c,d,aI 3 n::q,I,g,u,m,B⟩=aQ ⟨a,b,c,d,q,I,g,u,m,B⟩ [gU (n==0)]:=by unfold aq;rw[OP];rfl
 rw[e];exact⟨fX _ _ 2 G 74 Y _ [aI 3 n] q _ cc (by rw[OP];rfl) ko (VD ⟨a,b,c,d,q,I,g,u,m,B⟩ G Y 3 n 0 [] [] [] [] cm),bP (S:=⟨a,b,c,d,q,I,g,u,m,B⟩) (dJ (bw Q) oq) hq⟩
def KI(S:bE)(G:Int)(Y:L UInt8)(args:L Nd)(types s:L Ty)(r:L Ty×Bool)(hf:br 75 args=some types)(C:cD s S.st)(V:s.length<=340)(Q:r.1.all bg=true)(D:iJ 75 types s=(r,0)):aW G Y 75 args S/\bG S r (aq 75 args S):=by
 obtain⟨a,b,c,d,st,I,g,u,m,B⟩:=S;obtain⟨rfl,rfl⟩:=ct hf cc;have O:=bq C;simp only at C O;cases s with
 |nil=>cases D
 |cons t s =>
 obtain⟨v,q,rfl,U,hq⟩:=aF C;have P:=bO U.1;obtain⟨T,ts⟩:=t;simp only[aaa]at O V;have W:(if T=3 then eB (.mk 2 []::s)else aX 5)=(r,0):=D;split at W;rotate_left;cases W;rename_i p;cases W;subst p;obtain⟨n,rfl,g1⟩:=fh cc P.2.1;unfold aW;have e:aq 75 [] ⟨a,b,c,d,aI 3 n::q,I,g,u,m,B⟩=aQ ⟨a,b,c,d,q,I,g,u,m,B⟩ [gU (decide (n<0))]:=by unfold aq;rw[OQ];rfl
 rw[e];exact⟨fX _ _ 2 G 75 Y _ [aI 3 n] q _ cc (by rw[OQ];rfl) ko (VE ⟨a,b,c,d,q,I,g,u,m,B⟩ G Y 3 n 0 [] [] [] [] cm),bP (S:=⟨a,b,c,d,q,I,g,u,m,B⟩) (dJ (bw Q) oq) hq⟩
def KJ(S:bE)(G:Int)(Y:L UInt8)(args:L Nd)(types s:L Ty)(r:L Ty×Bool)(hf:br 76 args=some types)(C:cD s S.st)(V:s.length<=340)(Q:r.1.all bg=true)(D:iJ 76 types s=(r,0)):aW G Y 76 args S/\bG S r (aq 76 args S):=by
 obtain⟨a,b,c,d,st,I,g,u,m,B⟩:=S;obtain⟨rfl,rfl⟩:=ct hf cc;have O:=bq C;simp only at C O;cases s with
 |nil=>cases D
 |cons t s =>
 obtain⟨v,q,rfl,U,hq⟩:=aF C;have P:=bO U.1;obtain⟨T,ts⟩:=t;simp only[aaa]at O V;have W:(if T=3 then eB (.mk 2 []::s)else aX 5)=(r,0):=D;split at W;rotate_left;cases W;rename_i p;cases W;subst p;obtain⟨n,rfl,g1⟩:=fh cc P.2.1;unfold aW;have e:aq 76 [] ⟨a,b,c,d,aI 3 n::q,I,g,u,m,B⟩=aQ ⟨a,b,c,d,q,I,g,u,m,B⟩ [gU (decide (n>0))]:=by unfold aq;rw[OR];rfl
 rw[e];exact⟨fX _ _ 2 G 76 Y _ [aI 3 n] q _ cc (by rw[OR];rfl) ko (VF ⟨a,b,c,d,q,I,g,u,m,B⟩ G Y 3 n 0 [] [] [] [] cm),bP (S:=⟨a,b,c,d,q,I,g,u,m,B⟩) (dJ (bw Q) oq) hq⟩
def P0(S:bE)(G:Int)(Y:L UInt8)(args:L Nd)(types s:L Ty)(r:L Ty×Bool)(hf:br 77 args=some types)(C:cD s S.st)(V:s.length<=340)(Q:r.1.all bg=true)(D:iJ 77 types s=(r,0)):aW G Y 77 args S/\bG S r (aq 77 args S):=by
 obtain⟨a,b,c,d,st,I,g,u,m,B⟩:=S;obtain⟨rfl,rfl⟩:=ct hf cc;have O:=bq C;simp only at C O;cases s with
 |nil=>cases D
 |cons t s =>
 obtain⟨v,q,rfl,U,hq⟩:=aF C;have P:=bO U.1;obtain⟨T,ts⟩:=t;simp only[aaa]at O V;have W:(if T=2 then eB (.mk T ts::s)else aX 5)=(r,0):=D;split at W;rotate_left;cases W;rename_i p;cases W;subst p;obtain⟨n,rfl,g1⟩:=fh cc P.2.1;unfold aW;have e:aq 77 [] ⟨a,b,c,d,aI 2 n::q,I,g,u,m,B⟩=aQ ⟨a,b,c,d,q,I,g,u,m,B⟩ [gU (n==0)]:=by unfold aq;rw[OS];rfl
 rw[e];exact⟨fX _ _ 2 G 77 Y _ [aI 2 n] q _ cc (by rw[OS];rfl) (by show List.length (aI 2 n::q)<=_;simp only[aaa];omega) (VG ⟨a,b,c,d,q,I,g,u,m,B⟩ G Y 2 n 0 [] [] [] [] cm),bP (S:=⟨a,b,c,d,q,I,g,u,m,B⟩) (dJ (bw Q) oq) hq⟩
def P1(S:bE)(G:Int)(W:L UInt8)(args:L Nd)(types s:L Ty)(r:L Ty×Bool)(hf:br 78 args=some types)(C:cD s S.st)(P:s.length<=340)(Q:r.1.all bg=true)(D:iJ 78 types s=(r,0)):aW G W 78 args S/\bG S r (aq 78 args S):=by
 obtain⟨a,b,c,d,st,I,g,u,m,B⟩:=S;obtain⟨rfl,rfl⟩:=ct hf cc;have O:=bq C;simp only at C O;rcases s with _|⟨N,_|⟨M,s⟩⟩
 cases D;cases D;obtain⟨v,q0,rfl,K,E⟩:=aF C;obtain⟨w,q,rfl,J,hq⟩:=aF E;have H:=bO K.1;have A:=bO J.1;obtain⟨T,ts⟩:=N;obtain⟨U,p⟩:=M;simp only[aaa]at O P;have V:(if T=2/\U=2 then eB (.mk U p::s)else aX 5)=(r,0):=D;split at V;rotate_left;cases V;rename_i c1;cases V;obtain⟨rfl,rfl⟩:=c1;obtain⟨n,rfl,g1⟩:=fh cc H.2.1;obtain⟨Y,rfl,g2⟩:=fh cc A.2.1;unfold aW;have e:aq 78 [] ⟨a,b,c,d,aI 2 n::aI 2 Y::q,I,g,u,m,B⟩=aQ ⟨a,b,c,d,q,I,g,u,m,B⟩ [gU (decide (n=1/\Y=1))]:=by unfold aq;rw[ID];rfl
 rw[e];by_cases h:n=1
 ·rw[show decide (n=1/\Y=1)=(Y==1)from by simp[h];try rfl];exact⟨fX _ _ 2 G 78 W _ [aI 2 n,aI 2 Y] q _ cc (by rw[ID];rfl) oe (TF ⟨a,b,c,d,q,I,g,u,m,B⟩ G W 2 n 0 [] [] [] [] 2 Y 0 [] [] [] [] h cm),bP (S:=⟨a,b,c,d,q,I,g,u,m,B⟩) (dJ (bw Q) oq) hq⟩
 rw[show decide (n=1/\Y=1)=false from by simp[h];try rfl];exact⟨fX _ _ 2 G 78 W _ [aI 2 n,aI 2 Y] q _ cc (by rw[ID];rfl) oe (TG ⟨a,b,c,d,q,I,g,u,m,B⟩ G W 2 n 0 [] [] [] [] 2 Y 0 [] [] [] [] h cm),bP (S:=⟨a,b,c,d,q,I,g,u,m,B⟩) (dJ (bw Q) oq) hq⟩
def Ti(S:bE)(G:Int)(W:L UInt8)(args:L Nd)(types s:L Ty)(r:L Ty×Bool)(hf:br 79 args=some types)(C:cD s S.st)(P:s.length<=340)(Q:r.1.all bg=true)(D:iJ 79 types s=(r,0)):aW G W 79 args S/\bG S r (aq 79 args S):=by
 obtain⟨a,b,c,d,st,I,g,u,m,B⟩:=S;obtain⟨rfl,rfl⟩:=ct hf cc;have O:=bq C;simp only at C O;rcases s with _|⟨N,_|⟨M,s⟩⟩
 cases D;cases D;obtain⟨v,q0,rfl,K,E⟩:=aF C;obtain⟨w,q,rfl,J,hq⟩:=aF E;have H:=bO K.1;have A:=bO J.1;obtain⟨T,ts⟩:=N;obtain⟨U,p⟩:=M;simp only[aaa]at O P;have V:(if T=2/\U=2 then eB (.mk U p::s)else aX 5)=(r,0):=D;split at V;rotate_left;cases V;rename_i c1;cases V;obtain⟨rfl,rfl⟩:=c1;obtain⟨n,rfl,g1⟩:=fh cc H.2.1;obtain⟨Y,rfl,g2⟩:=fh cc A.2.1;unfold aW;have e:aq 79 [] ⟨a,b,c,d,aI 2 n::aI 2 Y::q,I,g,u,m,B⟩=aQ ⟨a,b,c,d,q,I,g,u,m,B⟩ [gU (decide (n=1\/Y=1))]:=by unfold aq;rw[IE];rfl
 rw[e];by_cases h:n=1
 ·rw[show decide (n=1\/Y=1)=true from by simp[h];try rfl];exact⟨fX _ _ 2 G 79 W _ [aI 2 n,aI 2 Y] q _ cc (by rw[IE];rfl) oe (TH ⟨a,b,c,d,q,I,g,u,m,B⟩ G W 2 n 0 [] [] [] [] 2 Y 0 [] [] [] [] h cm),bP (S:=⟨a,b,c,d,q,I,g,u,m,B⟩) (dJ (bw Q) oq) hq⟩
 rw[show decide (n=1\/Y=1)=(Y==1)from by simp[h];try rfl];exact⟨fX _ _ 2 G 79 W _ [aI 2 n,aI 2 Y] q _ cc (by rw[IE];rfl) oe (TJ ⟨a,b,c,d,q,I,g,u,m,B⟩ G W 2 n 0 [] [] [] [] 2 Y 0 [] [] [] [] h cm),bP (S:=⟨a,b,c,d,q,I,g,u,m,B⟩) (dJ (bw Q) oq) hq⟩
def HY(S:bE)(G:Int)(Y:L UInt8)(args:L Nd)(types s:L Ty)(r:L Ty×Bool)(hf:br 80 args=some types)(W:cD s S.st)(Q:s.length<=340)(P:r.1.all bg=true)(D:iJ 80 types s=(r,0)):aW G Y 80 args S/\bG S r (aq 80 args S):=by
 obtain⟨a,b,c,d,st,I,g,u,m,B⟩:=S;obtain⟨rfl,rfl⟩:=ct hf cc;have O:=bq W;simp only at W O;rcases s with _|⟨N,_|⟨M,s⟩⟩
 cases D;cases D;obtain⟨v,q0,rfl,K,E⟩:=aF W;obtain⟨w,q,rfl,J,hq⟩:=aF E;have A:=bO K.1;have p:=bO J.1;obtain⟨T,ts⟩:=N;obtain⟨U,wO⟩:=M;simp only[aaa]at O Q;have V:(if T=6/\U=6 then eB (.mk U wO::s)else aX 5)=(r,0):=D;split at V;rotate_left;cases V;rename_i c1;cases V;obtain⟨rfl,rfl⟩:=c1;obtain⟨C,rfl,g1⟩:=vV A.2.1;obtain⟨H,rfl,g2⟩:=vV p.2.1;unfold aW;by_cases h:200<C.length+H.length
 ·have e:aq 80 [] ⟨a,b,c,d,.mk 6 0 0 C [] [] [] :: .mk 6 0 0 H [] [] []::q,I,g,u,m,B⟩=(13,⟨a,b,c,d,q,I,g,u,m,B⟩):=by unfold aq;rw[B7];show(if 200<C.length+H.length then((13,⟨a,b,c,d,q,I,g,u,m,B⟩):MR)else aQ ⟨a,b,c,d,q,I,g,u,m,B⟩ [.mk 6 0 0 (C++H) [] [] []])=_;rw[if_pos h]
  rw[e];exact⟨fX _ _ 2 G 80 Y _ [.mk 6 0 0 C [] [] [],.mk 6 0 0 H [] [] []] q _ cc (by rw[B7];rfl) rj (Qd ⟨a,b,c,d,q,I,g,u,m,B⟩ G Y 6 0 0 C [] [] [] 6 0 0 H [] [] [] h bn cm),.inr (.inr Z)⟩
 have e:aq 80 [] ⟨a,b,c,d,.mk 6 0 0 C [] [] [] :: .mk 6 0 0 H [] [] []::q,I,g,u,m,B⟩=aQ ⟨a,b,c,d,q,I,g,u,m,B⟩ [.mk 6 0 0 (C++H) [] [] []]:=by unfold aq;rw[B7];show(if 200<C.length+H.length then((13,⟨a,b,c,d,q,I,g,u,m,B⟩):MR)else aQ ⟨a,b,c,d,q,I,g,u,m,B⟩ [.mk 6 0 0 (C++H) [] [] []])=_;rw[if_neg h]
 rw[e];exact⟨fX _ _ 2 G 80 Y _ [.mk 6 0 0 C [] [] [],.mk 6 0 0 H [] [] []] q _ cc (by rw[B7];rfl) rj (Qe ⟨a,b,c,d,q,I,g,u,m,B⟩ G Y 6 0 0 C [] [] [] 6 0 0 H [] [] [] h cm),bP (S:=⟨a,b,c,d,q,I,g,u,m,B⟩) (dJ (bw P) (F7 (by rw[aao];omega))) hq⟩
def NA(a b:L UInt8) : -1<=eA a b/\eA a b<=1:=by unfold eA;repeat' split<;>(try omega)
mutual
def KZ:∀v w:Vl,-1<=de v w/\de v w<=1
 |.mk k n a s args types H,.mk k' K p A M Y W=>by
  have h1:=F8 args M;have h2:=NA s A;have U:=v8 n K;have P:=v8 args.length M.length;unfold de
  try dsimp only
  repeat' split
  all_goals assumption
def F8:∀v w:L Vl,-1<=iL v w/\iL v w<=1
 |x::l,y::r=>by have h1:=KZ x y;have h2:=F8 l r;unfold iL;split<;>assumption
 |[],_=>by simp[iL]
 |_::_,[]=>by simp[iL]
end
def K1{p:Int->Bool}:∀{l:L Ty}{x:Ty},mo p l=true->x∈l->qU p x=true
 |y::l,x,h,O=>by
  simp only[mo,aak]at h;rcases List.mem_cons.1 O with rfl|O
  exact h.1;exact K1 h.2 O
def PZ(S:bE)(T:Int)(Y:L UInt8)(args:L Nd)(types s:L Ty)(r:L Ty×Bool)(hf:br 73 args=some types)(C:cD s S.st)(hl:s.length<=340)(hg:r.1.all bg=true)(D:iJ 73 types s=(r,0)):aW T Y 73 args S/\bG S r (aq 73 args S):=by
 obtain⟨a,b,c,d,st,I,g,u,m,B⟩:=S;obtain⟨rfl,rfl⟩:=ct hf cc;have O:=bq C;simp only at C O;rcases s with _|⟨U,_|⟨t2,s⟩⟩
 cases D;cases D;obtain⟨v,q0,rfl,V,oU⟩:=aF C;obtain⟨w,q,rfl,hw,hq⟩:=aF oU;have Q:=bO V.1;have f2:=bO hw.1;simp only[aaa]at O hl;have W:(if cw U t2=true/\eJ U=true then eB (.mk 3 []::s)else aX 5)=(r,0):=D;split at W;rotate_left;cases W;rename_i c1;cases W;have et:=(eg _ _).1 c1.1;subst et;have ZV:=y9 v w U (kH Q.1) Q.2.1 f2.2.1 (by have:=V.2;omega);have hrg:=KZ v w;unfold aW;have e:aq 73 [] ⟨a,b,c,d,v::w::q,I,g,u,m,B⟩=aQ ⟨a,b,c,d,q,I,g,u,m,B⟩ [aI 3 (de v w)]:=by unfold aq;rw[OO];rfl
 rw[e];obtain⟨J,K,P,N,p,M,H⟩:=v;obtain⟨E,A,a2,s2,G,aV,bC⟩:=w;exact⟨fX _ _ 2 T 73 Y _ [_,_] q _ cc (by rw[OO];rfl) (by show List.length (Vl.mk J K P N p M H::Vl.mk E A a2 s2 G aV bC::q)<=_;simp only[aaa];omega) (TE ⟨a,b,c,d,q,I,g,u,m,B⟩ T Y J K P N p M H E A a2 s2 G aV bC ZV cm),bP (S:=⟨a,b,c,d,q,I,g,u,m,B⟩) (dJ (bw hg) (iH cc hM (λh=>absurd Z h))) hq⟩
def Wv(o:MR):Prop:=o.1=10/\vK o.2.said≠0/\aE o.2.said<=25000000
def VH{v:Vl}{t:Ty}(Q:bg t=true)(h:bz v t=true):vK v≠0:=by obtain⟨k,n,a,s,args,types,H⟩:=v;show k≠0;rintro rfl;simp[bz]at h
def Nn(S:bE)(G:Int)(Y:L UInt8)(args:L Nd)(types s:L Ty)(r:L Ty×Bool)(hf:br 83 args=some types)(C:cD s S.st)(N:s.length<=340)(D:iJ 83 types s=(r,0)):aW G Y 83 args S/\Wv (aq 83 args S):=by
 obtain⟨a,b,c,d,st,I,g,u,m,B⟩:=S;obtain⟨rfl,rfl⟩:=ct hf cc;have O:=bq C;simp only at C O;cases s with
 |nil=>cases D
 |cons t s =>
 obtain⟨v,q,rfl,W,hq⟩:=aF C;have V:=bO W.1;simp only[aaa]at O N;unfold aW;have e:aq 83 [] ⟨a,b,c,d,v::q,I,g,u,m,B⟩=(10,⟨a,b,c,d,q,I,g,u,m,v⟩):=by unfold aq;rw[OT];rfl
 rw[e];refine⟨?_,Z,VH V.1 V.2.1,W.2⟩;obtain⟨J,K,U,T,p,Q,P⟩:=v;exact fX _ _ 2 G 83 Y _ [_] q _ cc (by rw[OT];rfl) (by show List.length (Vl.mk J K U T p Q P::q)<=_;simp only[aaa];omega) (Qf ⟨a,b,c,d,q,I,g,u,m,B⟩ G Y J K U T p Q P cm)
def Na(S:bE)(G:Int)(Y:L UInt8)(args:L Nd)(types s:L Ty)(r:L Ty×Bool)(hf:br 81 args=some types)(P:cD s S.st)(hl:s.length<=340)(hg:r.1.all bg=true)(D:iJ 81 types s=(r,0)):aW G Y 81 args S/\bG S r (aq 81 args S):=by
 obtain⟨a,b,c,d,st,I,g,u,m,B⟩:=S;obtain⟨rfl,rfl⟩:=ct hf cc;have N:=bq P;simp only at P N;cases s with
 |nil=>cases D
 |cons t s =>
 obtain⟨v,q,rfl,M,hq⟩:=aF P;have H:=bO M.1;simp only[aaa]at N hl;have O:(if fN t=true then eB (.mk 6 []::s)else aX 5)=(r,0):=D;split at O;rotate_left;cases O;cases O;have E:=LS t v (kH H.1) H.2.1 (by have:=M.2;omega);have e:aq 81 [] ⟨a,b,c,d,v::q,I,g,u,m,B⟩=(if(tw v).2≠0 then((13,⟨a,b,c,d,q,I,g,u,m,B⟩):MR)else aQ ⟨a,b,c,d,q,I,g,u,m,B⟩ [.mk 6 0 0 (tw v).1 [] [] []]):=by unfold aq;rw[IF];rfl
 have T:(tw v).1.length<=200:=by unfold tw;split;grind;simp
 unfold aW;rw[e];generalize tw v=p at *;obtain⟨A,p2⟩:=p;obtain⟨J,K,W,C,V,U,Q⟩:=v;by_cases h:p2=0;subst h;rw[if_neg (λh=>h Z)];exact⟨fX _ _ 2 G 81 Y _ [_] q _ cc (by rw[IF];rfl) JK (Ny ⟨a,b,c,d,q,I,g,u,m,B⟩ G Y J K W C V U Q A E (by simp only at T;omega) cm),bP (S:=⟨a,b,c,d,q,I,g,u,m,B⟩) (dJ (bw hg) (F7 T)) hq⟩;rw[if_pos h];exact⟨fX _ _ 2 G 81 Y _ [_] q _ cc (by rw[IF];rfl) JK (Nx ⟨a,b,c,d,q,I,g,u,m,B⟩ G Y J K W C V U Q A p2 E h cm),.inr (.inr Z)⟩
mutual
def D2:∀(v:Vl)(t:Ty),lE t->bz v t=true->fN t=true->ey v=true
 |.mk k n a s args types H,.mk T ts,ok,h,K=>by
  have I:=Bo args;have E:=Bp args;have M:args.length=0->ee args=true:=λh=>by rw[List.length_eq_zero_iff.1 h];rfl
  have U:=rM ok;simp only[fN,qU,aak]at K;have Y:∀x∈ts,fN x=true:=λx O=>K1 K.2 O;unfold bz at h;by_cases B:k≠cq (.mk T ts)\/bX (.mk k n a s args types H)=false\/200<s.length;rw[if_pos B]at h;cases h;rw[if_neg B]at h;have hp:bX (.mk k n a s args types H)=true:=by
   cases hq:bX (.mk k n a s args types H)with
   |true=>rfl
   |false=>exact absurd (.inr (.inl hq)) B
  have D:k=T:=abH λW=>B (.inl W);subst D;clear B;have d1:∀{p q:Prop}[Decidable (p/\q)],decide (p/\q)=true->q:=λh=>(abd h).2;have S:k≠14:=by rintro rfl;exact absurd K.1 cc
  have C:k≠15:=by rintro rfl;exact absurd K.1 cc
  have A:k≠8:=by rintro rfl;exact absurd K.1 cc
  suffices u:ee args=true by simpa[ey,S]using u
  by_cases Q:k=1\/k=6;rw[if_pos Q]at h;exact M (abd h).2;rw[if_neg Q]at h;by_cases P:k=2;rw[if_pos P]at h;exact M (abd h).2.2;rw[if_neg P]at h;by_cases N:k=3;rw[if_pos N]at h;exact M (abd h).2.2;rw[if_neg N]at h;by_cases c4:k=4\/k=5;rw[if_pos c4]at h;exact M (abd h).2.2;rw[if_neg c4]at h;by_cases J:k=7;rw[if_pos J]at h;exact M (abd h).2.2;rw[if_neg J]at h;by_cases V:k=9;rw[if_pos V,aak]at h;subst V;obtain⟨x,rfl,O⟩:=cO ok cc;exact I x O h.2 (Y x c9);rw[if_neg V]at h;by_cases vv:k=10;rw[if_pos vv,aak]at h;subst vv;obtain⟨x,rfl,O⟩:=cO ok cc;exact I x O h.2 (Y x c9);rw[if_neg vv]at h;by_cases En:k=11;rw[if_pos En,aak]at h;subst En;have z:=U.1;rw[show arity 11=2 from by decide]at z;exact E ts (λx O=>U.2 x O) h.2 Q7 Y;rw[if_neg En]at h;by_cases Eo:k=12
  ·rw[if_pos Eo,aak]at h;subst Eo;obtain⟨x,y,rfl,O,G⟩:=cJ ok cc;have hn:=abd h.1;rcases(show n=0\/n=1 by omega)with rfl|rfl
   exact I x O h.2 (Y x c9);exact I y G h.2 (Y y c9)
  rw[if_neg Eo]at h;by_cases Ep:k=13;rw[if_pos Ep,aak,aak]at h;subst Ep;exact I _ (yh ok cc) h.1.2 (by simp only[fN,qU,K.2,acs];decide);rw[if_neg Ep,if_neg S,if_neg C,if_neg A]at h;cases h
def Bo:∀(l:L Vl)(t:Ty),lE t->aJ l t=true->fN t=true->ee l=true
 |[],_,_,_,_=>rfl
 |x::l,t,ok,h,K=>by simp only[aJ,aak]at h;simp only[ee,aak];exact⟨D2 x t ok h.1 K,Bo l t ok h.2 K⟩
def Bp:∀(l:L Vl)(r:L Ty),(∀x∈r,lE x)->cL l r=true->l.length<=r.length->(∀x∈r,fN x=true)->ee l=true
 |[],_,_,_,_,_=>rfl
 |x::l,[],_,_,h,_=>by simp at h
 |x::l,t::r,ok,h,hl,K=>by simp only[cL,aak]at h;simp only[ee,aak];exact⟨D2 x t (ok t c9) h.1 (K t c9),Bp l r (λy G=>ok y (by simp[G])) h.2 (by simpa using hl) (λy G=>K y (by simp[G]))⟩
end
def K2{t:Ty}{n:Nd}(h:(gZ t n).2=0)(T:fN t=true):bg t=true/\bz (gZ t n).1 t=true/\ey (gZ t n).1=true:=by have h1:=(F9 h).1;unfold pF at h1;rw[aak]at h1;exact⟨h1.1,h1.2,D2 _ t (bl h1.1) h1.2 T⟩
def VI{P:Int}{args:L Nd}{types:L Ty}(h:br P args=some types)(C:fF P=[116,118]):∃x y,args=[x,y]/\(aO x).2=0/\types=[(aO x).1]:=by
 obtain⟨h1,h2⟩:=jx h;rw[C]at h1 h2;rcases args with _|⟨x,_|⟨y,_|⟨z,r⟩⟩⟩
 simp at h1;simp at h1;obtain⟨u,N,p,q,xs⟩:=x;obtain⟨Y,V,T,S,W⟩:=y;have U:(if(aO (.mk u N p q xs)).2=0 then some ([]++[(aO (.mk u N p q xs)).1])else none)=some types:=h2;split at U;simp_all;cases U;simp at h1
def IC:bD 45=0:=by decide +kernel
def Nm(S:bE)(G:Int)(Y:L UInt8)(args:L Nd)(U:aM args<=8589934593)(types s:L Ty)(r:L Ty×Bool)(hf:br 45 args=some types)(C:cD s S.st)(Q:s.length<=340)(P:r.1.all bg=true)(D:(if(gZ (types.getD 0 iY) (args.getD 1 oF)).2=0/\fN (types.getD 0 iY)=true then eB (types.getD 0 iY::s)else aX 5)=(r,0)):aW G Y 45 args S/\bG S r (aq 45 args S):=by
 obtain⟨a,b,c,d,q,I,g,u,m,B⟩:=S;obtain⟨x,y,rfl,N,rfl⟩:=VI hf cc;have O:=bq C;simp only at C O;have W:(if(gZ (aO x).1 y).2=0/\fN (aO x).1=true then eB ((aO x).1::s)else aX 5)=(r,0):=D;split at W;rotate_left;cases W;rename_i p;cases W;have V:=K2 p.1 p.2;have T:=Ga (aO x).1 y;simp only[aM]at U;unfold aW;have e:aq 45 [x,y] ⟨a,b,c,d,q,I,g,u,m,B⟩=aQ ⟨a,b,c,d,q,I,g,u,m,B⟩ [(gZ (aO x).1 y).1]:=by unfold aq;rw[IC];rfl
 rw[e];exact⟨iI _ _ 2 G 45 Y _ [] q _ cc (by rw[IC];rfl) cm (MD ⟨a,b,c,d,q,I,g,u,m,B⟩ G Y x y bn bn p.1 bn cm),bP (S:=⟨a,b,c,d,q,I,g,u,m,B⟩) (dJ V.1 V.2) C⟩
def K3{t:Ty}{s:L UInt8}(T:fN t=true)(h:(gu t s).2=0):aE (gu t s).1<=60300/\bz (gu t s).1 t=true/\ey (gu t s).1=true:=by
 cases s with
 |nil=>cases h
 |cons c r =>
  by_cases M:c=5/\(c::r).length<=200/\fN t=true/\(eL r).2=0;have e:gu t (c::r)=gZ t (eL r).1:=if_pos M;rw[e]at h ⊢;have h1:=K2 h T;have h2:=xG (F9 h).2.1;exact⟨abJ (Ga _ _) h2,h1.2⟩;have e:gu t (c::r)=(qp,1):=if_neg M;rw[e]at h;cases h
def HZ(S:bE)(G:Int)(Y:L UInt8)(args:L Nd)(N:aM args<=8589934593)(types s:L Ty)(r:L Ty×Bool)(hf:br 82 args=some types)(W:cD s S.st)(M:s.length<=340)(Q:r.1.all bg=true)(D:iJ 82 types s=(r,0)):aW G Y 82 args S/\bG S r (aq 82 args S):=by
 obtain⟨a,b,c,d,st,I,g,u,m,B⟩:=S;obtain⟨x,rfl,hx,rfl⟩:=xJ hf cc;have O:=bq W;simp only at W O;cases s with
 |nil=>cases D
 |cons t s =>
 obtain⟨v,q,rfl,K,hq⟩:=aF W;have H:=bO K.1;obtain⟨T,ts⟩:=t;simp only[aaa]at O M;have V:(if T=6/\fN (aO x).1=true then eB (.mk 9 [(aO x).1]::s)else aX 5)=(r,0):=D;split at V;rotate_left;cases V;rename_i E;cases V;obtain⟨rfl,A⟩:=E;obtain⟨C,rfl,g1⟩:=vV H.2.1;simp only[aM]at N;unfold aW;have e:aq 82 [x] ⟨a,b,c,d,.mk 6 0 0 C [] [] []::q,I,g,u,m,B⟩=(if(gu (aO x).1 C).2≠0 then aQ ⟨a,b,c,d,q,I,g,u,m,B⟩ [bN []]else aQ ⟨a,b,c,d,q,I,g,u,m,B⟩ [bN [(gu (aO x).1 C).1]]):=by unfold aq;rw[IG];rfl
 rw[e];have hU:=λh=>K3 (t:=(aO x).1) (s:=C) A h;generalize U:gu (aO x).1 C=p at *;obtain⟨P,J⟩:=p;by_cases h:J=0;subst h;obtain⟨z1,z2⟩:=hU rfl;rw[if_neg (λh=>h Z)];exact⟨fX _ _ 2 G 82 Y _ [_] q _ cc (by rw[IG];rfl) Fo (TM ⟨a,b,c,d,q,I,g,u,m,B⟩ G Y 6 0 0 C [] [] [] x bn P U (by simp only at z1;omega) cm),bP (S:=⟨a,b,c,d,q,I,g,u,m,B⟩) (dJ (bw Q) (iy z2)) hq⟩;rw[if_pos h];exact⟨fX _ _ 2 G 82 Y _ [_] q _ cc (by rw[IG];rfl) Fo (TL ⟨a,b,c,d,q,I,g,u,m,B⟩ G Y 6 0 0 C [] [] [] x bn P J U h cm),bP (S:=⟨a,b,c,d,q,I,g,u,m,B⟩) (dJ (bw Q) mG) hq⟩
abbrev fU(S:bE)(F:gB)(t:List gB):bE:={S with fr:={F with pos:=F.pos+1}::t}
inductive jY:Nat->bE->MR->Prop
 |done {k:Nat} {S:bE} (h:S.fr=[]):jY (k+1) S (0,S)
 |fin {k:Nat} {S S':bE} {F:gB} {t:List gB} {e:Int} {r:MR} (h:S.fr=F::t) (hp:F.pos=F.code.length) (ht:t.length<=1000000000) (hc:b8 106 S [.ptr 1000002 (0+t.length*4)] (aA e) S') (he:e≠0->r=(e,S')) (hk:e=0->jY k S' r):jY (k+1) S r
 |seq {k:Nat} {S:bE} {F:gB} {t:List gB} {N P:Int} {s:List UInt8} {args:List Nd} {r:MR} (h:S.fr=F::t) (hp:F.code[F.pos]?=some (.mk 3 N P s args)) (ht:t.length<=1000000000) (hl:F.code.length<=8589934593) (hk:jY k (dh (fU S F t) args 0 []) r):jY (k+1) S r
 |ZY {k:Nat} {S:bE} {F:gB} {t:List gB} {N P:Int} {s:List UInt8} {args:List Nd} (h:S.fr=F::t) (hp:F.code[F.pos]?=some (.mk 2 N P s args)) (ht:t.length<=1000000000) (hl:F.code.length<=8589934593) (hg:S.nV<=S.used):jY (k+1) S (12,fU S F t)
 |step {k:Nat} {S S':bE} {F:gB} {t:List gB} {N P:Int} {s:List UInt8} {args:List Nd} {e:Int} {r:MR} (h:S.fr=F::t) (hp:F.code[F.pos]?=some (.mk 2 N P s args)) (ht:t.length<=1000000000) (hl:F.code.length<=8589934593) (hg:S.used<S.nV) (hi:OB S.nV) (hu:0<=S.used)
   (hc:b8 109 {fU S F t with used:=S.used+1} [.c (aS (.mk 2 N P s args))] (aA e) S') (he:e≠0->r=(e,S')) (hk:e=0->jY k S' r):jY (k+1) S r
attribute [local irreducible] AK ai aR bW dG dR
def CK(k:Nat)(S:bE)(r:MR)(U:jY k S r):b8 85 S [] (aA r.1) r.2:=by
 refine mn func85 call85 λβ hf=>?_;refine dnm ?_;refine AK.fQ [(1000000,1000000),(3001,1000001),(3002,1000002)] [] (env':=[(0,.ptr 1000000 0)]) (bs':=[(1000000,mC S 3001 3002),(3001,ah (sR S.st)),(3002,ah (fR S.fr))]) (ts':=[]) (us':=[1000000,3001,3002]) ce (Wt Z Z Z Z Z Z Z Z Z) Z ?_;refine AK.dI (α:=Nat×bE) (λz=>jY z.1 z.2 r) (λz=>z.1) (λ_=>[(0,.ptr 1000000 0)]) (λz=>[(1000000,mC z.2 3001 3002),(3001,ah (sR z.2.st)),(3002,ah (fR z.2.fr))]) (λ_=>[]) [1000000,3001,3002] (k,S)
  U ⟨.inl Z,trivial⟩ ⟨Z,Z,Z,trivial⟩ trivial Z (XU S Z Z Z) Z ?_
 rintro⟨C,T⟩ E ih;simp only at E;clear U;cases E with
 |done h =>
  obtain⟨a,b,c,d,W,I,g,u,m,B⟩:=T;simp only at h;subst h;clear ih;exact dm
 |@fin k1 _ S' F t e _ h hp ht hc he hk =>
  obtain⟨a,b,c,d,W,I,g,u,m,B⟩:=T;obtain⟨H,V,fin,Y⟩:=F;simp only at *;subst h;have M:=xI ⟨H,V,fin,Y⟩ t;have h1:=OU ⟨H,V,fin,Y⟩ t;have U:i64.wrap (((((⟨H,V,fin,Y⟩:gB)::t).length:Nat):Int)-1)=(t.length:Nat):=by rw[gM ek ek];simp only[aaa];omega
  have O:decide (((((⟨H,V,fin,Y⟩:gB)::t).length:Nat):Int)>0)=true:=aam ek;subst hp;have K:=bf H;have p:((H.length:Int)==(((aD H).length:Nat):Int))=true:=beq_iff_eq.2 bn;by_cases q:e=0
  ·have J:(e != 0)=false:=(by simpa using q);replace hk:=hk q;clear he
   repeat' (first|refine mQ ?_|refine zc ?_ ?_|(intro h;first|(cases h;done)|rw[h]|skip)|refine AK.skip ?_|refine AK.seq ?_|refine AK.block ?_|refine AK.exit Z ?_|refine ai.gm hX kn Z Z Z Z Z Z M Z ?_|refine ai.gm hX kn Z Z Z Z Z Z h1 Z ?_|refine ai.iT hX kn Z Z Z Z Z Z Z Z Z t.length U (abl _) ?_|refine s9 ?_ (hq:=hc))
   refine AK.fQ [(1000000,1000000),(3001,100037),(3002,200037)] [] (env':=[(0,.ptr 1000000 0)]) (bs':=[(1000000,mC S' 3001 3002),(3001,ah (sR (S').st)),(3002,ah (fR (S').fr))]) (ts':=[]) (us':=[1000000,3001,3002]) ce (Wt Z Z Z Z Z Z Z Z Z) Z ?_;exact ih (_,S') (hk) (abl _)
  have J:(e != 0)=true:=by simpa using q
  obtain rfl:=he q;clear ih he hk
  repeat' (first|refine mQ ?_|refine zc ?_ ?_|(intro h;first|(cases h;done)|rw[h]|skip)|refine AK.skip ?_|refine AK.seq ?_|refine AK.block ?_|refine AK.exit Z ?_|refine ai.gm hX kn Z Z Z Z Z Z M Z ?_|refine ai.gm hX kn Z Z Z Z Z Z h1 Z ?_|refine ai.iT hX kn Z Z Z Z Z Z Z Z Z t.length U (abl _) ?_|refine s9 ?_ (hq:=hc))
  all_goals rfl
 |@seq k1 _ F t N P s args _ h hp ht hl hk =>
  obtain⟨a,b,c,d,W,I,g,u,m,B⟩:=T;obtain⟨H,V,fin,Y⟩:=F;simp only at *;subst h;have M:=xI ⟨H,V,fin,Y⟩ t;have h1:=OU ⟨H,V,fin,Y⟩ t;have U:i64.wrap (((((⟨H,V,fin,Y⟩:gB)::t).length:Nat):Int)-1)=(t.length:Nat):=by rw[gM ek ek];simp only[aaa];omega
  have O:decide (((((⟨H,V,fin,Y⟩:gB)::t).length:Nat):Int)>0)=true:=aam ek;have G:=(List.getElem?_eq_some_iff.1 hp).1;have K:=bf H;have p:((V:Int)==(((aD H).length:Nat):Int))=false:=beq_eq_false_iff_ne.2 bn;have A:=ew hp;have hq:dH (0+t.length*4+1) [.c (aA (i64.wrap ((V:Int)+1)))] (ah (fR (⟨H,V,fin,Y⟩::t)))=some (ah (fR (⟨H,V+1,fin,Y⟩::t))):=by rw[gM bn bn];exact Dz ⟨H,V,fin,Y⟩ t (V+1)
  have D:=gw ⟨a,b,c,d,W,⟨H,V+1,fin,Y⟩::t,g,u,m,B⟩ args 0 ek
  repeat' (first|refine mQ ?_|refine zc ?_ ?_|(intro h;first|(cases h;done)|rw[h]|skip)|refine AK.skip ?_|refine AK.seq ?_|refine AK.block ?_|refine AK.exit Z ?_|refine ai.gm hX kn Z Z Z Z Z Z M Z ?_|refine ai.gm hX kn Z Z Z Z Z Z h1 Z ?_|refine ai.iT hX kn Z Z Z Z Z Z Z Z Z t.length U (abl _) ?_|refine uI Z V Z A Z ?_|refine ai.store hX kn Z Z Z Z Z Z Z Z Z hq Z ?_|refine s9 ?_ (hq:=D))
  refine AK.fQ [(1000000,1000000),(3001,100064),(3002,200064)] [] (env':=[(0,.ptr 1000000 0)]) (bs':=[(1000000,mC (dh ⟨a,b,c,d,W,⟨H,V+1,fin,Y⟩::t,g,u,m,B⟩ args 0 []) 3001 3002),(3001,ah (sR ((dh ⟨a,b,c,d,W,⟨H,V+1,fin,Y⟩::t,g,u,m,B⟩ args 0 [])).st)),(3002,ah (fR ((dh ⟨a,b,c,d,W,⟨H,V+1,fin,Y⟩::t,g,u,m,B⟩ args 0 [])).fr))]) (ts':=[]) (us':=[1000000,3001,3002]) ce (Wt Z Z Z Z Z Z Z Z Z) Z ?_;exact ih (_,(dh ⟨a,b,c,d,W,⟨H,V+1,fin,Y⟩::t,g,u,m,B⟩ args 0 [])) (hk) (abl _)
 |@ZY k1 _ F t N P s args h hp ht hl hg =>
  obtain⟨a,b,c,d,W,I,g,u,m,B⟩:=T;obtain⟨H,V,fin,Y⟩:=F;simp only at *;subst h;have M:=xI ⟨H,V,fin,Y⟩ t;have h1:=OU ⟨H,V,fin,Y⟩ t;have U:i64.wrap (((((⟨H,V,fin,Y⟩:gB)::t).length:Nat):Int)-1)=(t.length:Nat):=by rw[gM ek ek];simp only[aaa];omega
  have O:decide (((((⟨H,V,fin,Y⟩:gB)::t).length:Nat):Int)>0)=true:=aam ek;have G:=(List.getElem?_eq_some_iff.1 hp).1;have K:=bf H;have p:((V:Int)==(((aD H).length:Nat):Int))=false:=beq_eq_false_iff_ne.2 bn;have A:=ew hp;have hq:dH (0+t.length*4+1) [.c (aA (i64.wrap ((V:Int)+1)))] (ah (fR (⟨H,V,fin,Y⟩::t)))=some (ah (fR (⟨H,V+1,fin,Y⟩::t))):=by rw[gM bn bn];exact Dz ⟨H,V,fin,Y⟩ t (V+1)
  have Q:=XV ⟨a,b,c,d,W,⟨H,V+1,fin,Y⟩::t,g,u,m,B⟩ hg;clear ih
  repeat' (first|refine mQ ?_|refine zc ?_ ?_|(intro h;first|(cases h;done)|rw[h]|skip)|refine AK.skip ?_|refine AK.seq ?_|refine AK.block ?_|refine AK.exit Z ?_|refine ai.gm hX kn Z Z Z Z Z Z M Z ?_|refine ai.gm hX kn Z Z Z Z Z Z h1 Z ?_|refine ai.iT hX kn Z Z Z Z Z Z Z Z Z t.length U (abl _) ?_|refine uI Z V Z A Z ?_|refine ai.store hX kn Z Z Z Z Z Z Z Z Z hq Z ?_|refine s9 ?_ (hq:=Q))
  all_goals rfl
 |@step k1 _ S' F t N P s args e _ h hp ht hl hg hi hu hc he hk =>
  obtain⟨a,b,c,d,W,I,g,u,m,B⟩:=T;obtain⟨H,V,fin,Y⟩:=F;simp only at *;subst h;have M:=xI ⟨H,V,fin,Y⟩ t;have h1:=OU ⟨H,V,fin,Y⟩ t;have U:i64.wrap (((((⟨H,V,fin,Y⟩:gB)::t).length:Nat):Int)-1)=(t.length:Nat):=by rw[gM ek ek];simp only[aaa];omega
  have O:decide (((((⟨H,V,fin,Y⟩:gB)::t).length:Nat):Int)>0)=true:=aam ek;have G:=(List.getElem?_eq_some_iff.1 hp).1;have K:=bf H;have p:((V:Int)==(((aD H).length:Nat):Int))=false:=beq_eq_false_iff_ne.2 bn;have A:=ew hp;have hq:dH (0+t.length*4+1) [.c (aA (i64.wrap ((V:Int)+1)))] (ah (fR (⟨H,V,fin,Y⟩::t)))=some (ah (fR (⟨H,V+1,fin,Y⟩::t))):=by rw[gM bn bn];exact Dz ⟨H,V,fin,Y⟩ t (V+1)
  have Q:=XW ⟨a,b,c,d,W,⟨H,V+1,fin,Y⟩::t,g,u,m,B⟩ hg hi hu;by_cases q:e=0
  ·have J:(e != 0)=false:=(by simpa using q);replace hk:=hk q;clear he
   repeat' (first|refine mQ ?_|refine zc ?_ ?_|(intro h;first|(cases h;done)|rw[h]|skip)|refine AK.skip ?_|refine AK.seq ?_|refine AK.block ?_|refine AK.exit Z ?_|refine ai.gm hX kn Z Z Z Z Z Z M Z ?_|refine ai.gm hX kn Z Z Z Z Z Z h1 Z ?_|refine ai.iT hX kn Z Z Z Z Z Z Z Z Z t.length U (abl _) ?_|refine uI Z V Z A Z ?_|refine ai.store hX kn Z Z Z Z Z Z Z Z Z hq Z ?_|refine s9 ?_ (hq:=Q)|refine s9 ?_ (hq:=hc))
   refine AK.fQ [(1000000,1000000),(3001,100075),(3002,200075)] [] (env':=[(0,.ptr 1000000 0)]) (bs':=[(1000000,mC S' 3001 3002),(3001,ah (sR (S').st)),(3002,ah (fR (S').fr))]) (ts':=[]) (us':=[1000000,3001,3002]) ce (Wt Z Z Z Z Z Z Z Z Z) Z ?_;exact ih (_,S') (hk) (abl _)
  have J:(e != 0)=true:=by simpa using q
  obtain rfl:=he q;clear ih he hk
  repeat' (first|refine mQ ?_|refine zc ?_ ?_|(intro h;first|(cases h;done)|rw[h]|skip)|refine AK.skip ?_|refine AK.seq ?_|refine AK.block ?_|refine AK.exit Z ?_|refine ai.gm hX kn Z Z Z Z Z Z M Z ?_|refine ai.gm hX kn Z Z Z Z Z Z h1 Z ?_|refine ai.iT hX kn Z Z Z Z Z Z Z Z Z t.length U (abl _) ?_|refine uI Z V Z A Z ?_|refine ai.store hX kn Z Z Z Z Z Z Z Z Z hq Z ?_|refine s9 ?_ (hq:=Q)|refine s9 ?_ (hq:=hc))
  all_goals rfl
end Go.Proofs
