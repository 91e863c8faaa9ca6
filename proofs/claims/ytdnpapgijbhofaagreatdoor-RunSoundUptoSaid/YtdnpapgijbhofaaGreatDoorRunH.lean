/- Package run: -/
import Derived.Test.YtdnpapgijbhofaaGreatDoorRunW
import Derived.Test.YtdnpapgijbhofaaGreatDoorRunU
open Go.IntKind
open Go.Proofs.Tryz
set_option linter.defProp false
set_option maxHeartbeats 0
set_option linter.unusedVariables false
set_option linter.unusedSimpArgs false
set_option maxRecDepth 100000
namespace Go.Proofs
open Go.cM
def uY{v:Vl}{ts:L Ty}(h:bE v (.mk 6 ts)=true):∃s,v = .mk 6 0 0 s [] [] []/\s.length<=200:=by
 obtain⟨k,n,a,s,J,Y,W⟩:=v;obtain⟨D,q,B⟩:=kQ h;simp only[bM]at D;subst D;simp[cq]at q;obtain⟨rfl,rfl,rfl,rfl,rfl⟩:=q;exact⟨s,Z,B⟩
def EH{s:L UInt8}{ts:L Ty}(h:s.length<=200):bE (.mk 6 0 0 s [] [] []) (.mk 6 ts)=true/\eC (.mk 6 0 0 s [] [] [])=true:=by
 simp[bE,cq,bM,eC,eg];omega
def nB{b:Bool}{ts:L Ty}:bE (gM b) (.mk 2 ts)=true/\eC (gM b)=true:=by
 cases b
 ·exact lT (.inl ⟨Z,cc,cc⟩)
 ·exact lT (.inl ⟨Z,cc,cc⟩)
def MM:bW 73=2:=by decide +kernel
def MN:bW 74=1:=by decide +kernel
def MO:bW 75=1:=by decide +kernel
def MP:bW 76=1:=by decide +kernel
def MQ:bW 77=1:=by decide +kernel
def Gz:bW 78=2:=by decide +kernel
def GA:bW 79=2:=by decide +kernel
def A3:bW 80=2:=by decide +kernel
def GB:bW 81=1:=by decide +kernel
def GC:bW 82=1:=by decide +kernel
def MS:bW 83=1:=by decide +kernel
def I2(S:b9)(W:Int)(P:L UInt8)(J:L Nd)(Y s:L Ty)(r:L Ty×Bool)(hf:bJ 74 J=some Y)(V:dH s S.st)(B:s.length<=340)(p:r.1.all br=true)(A:b8 74 Y s=(r,0)):bf W P 74 J S/\bK S r (aH 74 J S):=by
 obtain⟨a,b,c,d,st,H,g,u,m,G⟩:=S;obtain⟨rfl,rfl⟩:=cC hf cc;have Q:=bF V;simp only at V Q;cases s with
 |nil=>cases A
 |cons t s =>
 obtain⟨v,q,rfl,O,hq⟩:=bh V;have M:=cN O.1;obtain⟨T,ts⟩:=t;simp only[aac]at Q B;have U:(if T=3 then dX (.mk 2 []::s)else aM 5)=(r,0):=A;split at U;rotate_left
 ·cases U
 rename_i N;cases U;subst N;obtain⟨n,rfl,g1⟩:=fy cc M.2.1;unfold bf;have e:aH 74 [] ⟨a,b,c,d,aL 3 n::q,H,g,u,m,G⟩=bp ⟨a,b,c,d,q,H,g,u,m,G⟩ [gM (n==0)]:=by unfold aH;rw[MN];rfl
 rw[e];exact⟨fU _ _ 2 W 74 P _ [aL 3 n] q _ cc (by rw[MN];rfl) mc (Tk ⟨a,b,c,d,q,H,g,u,m,G⟩ W P 3 n 0 [] [] [] [] c9),bX (S:=⟨a,b,c,d,q,H,g,u,m,G⟩) (eW (bz p) nB) hq⟩
def I3(S:b9)(W:Int)(P:L UInt8)(J:L Nd)(Y s:L Ty)(r:L Ty×Bool)(hf:bJ 75 J=some Y)(V:dH s S.st)(B:s.length<=340)(p:r.1.all br=true)(A:b8 75 Y s=(r,0)):bf W P 75 J S/\bK S r (aH 75 J S):=by
 obtain⟨a,b,c,d,st,H,g,u,m,G⟩:=S;obtain⟨rfl,rfl⟩:=cC hf cc;have Q:=bF V;simp only at V Q;cases s with
 |nil=>cases A
 |cons t s =>
 obtain⟨v,q,rfl,O,hq⟩:=bh V;have M:=cN O.1;obtain⟨T,ts⟩:=t;simp only[aac]at Q B;have U:(if T=3 then dX (.mk 2 []::s)else aM 5)=(r,0):=A;split at U;rotate_left
 ·cases U
 rename_i N;cases U;subst N;obtain⟨n,rfl,g1⟩:=fy cc M.2.1;unfold bf;have e:aH 75 [] ⟨a,b,c,d,aL 3 n::q,H,g,u,m,G⟩=bp ⟨a,b,c,d,q,H,g,u,m,G⟩ [gM (decide (n<0))]:=by unfold aH;rw[MO];rfl
 rw[e];exact⟨fU _ _ 2 W 75 P _ [aL 3 n] q _ cc (by rw[MO];rfl) mc (Tl ⟨a,b,c,d,q,H,g,u,m,G⟩ W P 3 n 0 [] [] [] [] c9),bX (S:=⟨a,b,c,d,q,H,g,u,m,G⟩) (eW (bz p) nB) hq⟩
def I4(S:b9)(W:Int)(P:L UInt8)(J:L Nd)(Y s:L Ty)(r:L Ty×Bool)(hf:bJ 76 J=some Y)(V:dH s S.st)(B:s.length<=340)(p:r.1.all br=true)(A:b8 76 Y s=(r,0)):bf W P 76 J S/\bK S r (aH 76 J S):=by
 obtain⟨a,b,c,d,st,H,g,u,m,G⟩:=S;obtain⟨rfl,rfl⟩:=cC hf cc;have Q:=bF V;simp only at V Q;cases s with
 |nil=>cases A
 |cons t s =>
 obtain⟨v,q,rfl,O,hq⟩:=bh V;have M:=cN O.1;obtain⟨T,ts⟩:=t;simp only[aac]at Q B;have U:(if T=3 then dX (.mk 2 []::s)else aM 5)=(r,0):=A;split at U;rotate_left
 ·cases U
 rename_i N;cases U;subst N;obtain⟨n,rfl,g1⟩:=fy cc M.2.1;unfold bf;have e:aH 76 [] ⟨a,b,c,d,aL 3 n::q,H,g,u,m,G⟩=bp ⟨a,b,c,d,q,H,g,u,m,G⟩ [gM (decide (n>0))]:=by unfold aH;rw[MP];rfl
 rw[e];exact⟨fU _ _ 2 W 76 P _ [aL 3 n] q _ cc (by rw[MP];rfl) mc (Tm ⟨a,b,c,d,q,H,g,u,m,G⟩ W P 3 n 0 [] [] [] [] c9),bX (S:=⟨a,b,c,d,q,H,g,u,m,G⟩) (eW (bz p) nB) hq⟩
def Oh(S:b9)(W:Int)(P:L UInt8)(J:L Nd)(Y s:L Ty)(r:L Ty×Bool)(hf:bJ 77 J=some Y)(V:dH s S.st)(B:s.length<=340)(p:r.1.all br=true)(A:b8 77 Y s=(r,0)):bf W P 77 J S/\bK S r (aH 77 J S):=by
 obtain⟨a,b,c,d,st,H,g,u,m,G⟩:=S;obtain⟨rfl,rfl⟩:=cC hf cc;have Q:=bF V;simp only at V Q;cases s with
 |nil=>cases A
 |cons t s =>
 obtain⟨v,q,rfl,O,hq⟩:=bh V;have M:=cN O.1;obtain⟨T,ts⟩:=t;simp only[aac]at Q B;have U:(if T=2 then dX (.mk T ts::s)else aM 5)=(r,0):=A;split at U;rotate_left
 ·cases U
 rename_i N;cases U;subst N;obtain⟨n,rfl,g1⟩:=fy cc M.2.1;unfold bf;have e:aH 77 [] ⟨a,b,c,d,aL 2 n::q,H,g,u,m,G⟩=bp ⟨a,b,c,d,q,H,g,u,m,G⟩ [gM (n==0)]:=by unfold aH;rw[MQ];rfl
 rw[e];exact⟨fU _ _ 2 W 77 P _ [aL 2 n] q _ cc (by rw[MQ];rfl) (by show List.length (aL 2 n::q)<=_;simp only[aac];omega) (Tn ⟨a,b,c,d,q,H,g,u,m,G⟩ W P 2 n 0 [] [] [] [] c9),bX (S:=⟨a,b,c,d,q,H,g,u,m,G⟩) (eW (bz p) nB) hq⟩
def Oi(S:b9)(V:Int)(P:L UInt8)(J:L Nd)(Y s:L Ty)(r:L Ty×Bool)(hf:bJ 78 J=some Y)(U:dH s S.st)(B:s.length<=340)(p:r.1.all br=true)(A:b8 78 Y s=(r,0)):bf V P 78 J S/\bK S r (aH 78 J S):=by
 obtain⟨a,b,c,d,st,H,g,u,m,G⟩:=S;obtain⟨rfl,rfl⟩:=cC hf cc;have O:=bF U;simp only at U O;rcases s with _|⟨M,_|⟨K,s⟩⟩
 ·cases A
 ·cases A
 obtain⟨v,q0,rfl,I,E⟩:=bh U;obtain⟨w,q,rfl,D,hq⟩:=bh E;have C:=cN I.1;have f2:=cN D.1;obtain⟨T,ts⟩:=M;obtain⟨N,AP⟩:=K;simp only[aac]at O B;have Q:(if T=2/\N=2 then dX (.mk N AP::s)else aM 5)=(r,0):=A;split at Q;rotate_left
 ·cases Q
 rename_i c1;cases Q;obtain⟨rfl,rfl⟩:=c1;obtain⟨n,rfl,g1⟩:=fy cc C.2.1;obtain⟨W,rfl,g2⟩:=fy cc f2.2.1;unfold bf;have e:aH 78 [] ⟨a,b,c,d,aL 2 n::aL 2 W::q,H,g,u,m,G⟩=bp ⟨a,b,c,d,q,H,g,u,m,G⟩ [gM (decide (n=1/\W=1))]:=by unfold aH;rw[Gz];rfl
 rw[e];by_cases h:n=1
 ·rw[show decide (n=1/\W=1)=(W==1)from by simp[h];try rfl];exact⟨fU _ _ 2 V 78 P _ [aL 2 n,aL 2 W] q _ cc (by rw[Gz];rfl) oy (Ru ⟨a,b,c,d,q,H,g,u,m,G⟩ V P 2 n 0 [] [] [] [] 2 W 0 [] [] [] [] h c9),bX (S:=⟨a,b,c,d,q,H,g,u,m,G⟩) (eW (bz p) nB) hq⟩
 ·rw[show decide (n=1/\W=1)=false from by simp[h];try rfl];exact⟨fU _ _ 2 V 78 P _ [aL 2 n,aL 2 W] q _ cc (by rw[Gz];rfl) oy (Rv ⟨a,b,c,d,q,H,g,u,m,G⟩ V P 2 n 0 [] [] [] [] 2 W 0 [] [] [] [] h c9),bX (S:=⟨a,b,c,d,q,H,g,u,m,G⟩) (eW (bz p) nB) hq⟩
def Rj(S:b9)(V:Int)(P:L UInt8)(J:L Nd)(Y s:L Ty)(r:L Ty×Bool)(hf:bJ 79 J=some Y)(U:dH s S.st)(B:s.length<=340)(p:r.1.all br=true)(A:b8 79 Y s=(r,0)):bf V P 79 J S/\bK S r (aH 79 J S):=by
 obtain⟨a,b,c,d,st,H,g,u,m,G⟩:=S;obtain⟨rfl,rfl⟩:=cC hf cc;have O:=bF U;simp only at U O;rcases s with _|⟨M,_|⟨K,s⟩⟩
 ·cases A
 ·cases A
 obtain⟨v,q0,rfl,I,E⟩:=bh U;obtain⟨w,q,rfl,D,hq⟩:=bh E;have C:=cN I.1;have f2:=cN D.1;obtain⟨T,ts⟩:=M;obtain⟨N,AP⟩:=K;simp only[aac]at O B;have Q:(if T=2/\N=2 then dX (.mk N AP::s)else aM 5)=(r,0):=A;split at Q;rotate_left
 ·cases Q
 rename_i c1;cases Q;obtain⟨rfl,rfl⟩:=c1;obtain⟨n,rfl,g1⟩:=fy cc C.2.1;obtain⟨W,rfl,g2⟩:=fy cc f2.2.1;unfold bf;have e:aH 79 [] ⟨a,b,c,d,aL 2 n::aL 2 W::q,H,g,u,m,G⟩=bp ⟨a,b,c,d,q,H,g,u,m,G⟩ [gM (decide (n=1\/W=1))]:=by unfold aH;rw[GA];rfl
 rw[e];by_cases h:n=1
 ·rw[show decide (n=1\/W=1)=true from by simp[h];try rfl];exact⟨fU _ _ 2 V 79 P _ [aL 2 n,aL 2 W] q _ cc (by rw[GA];rfl) oy (Rw ⟨a,b,c,d,q,H,g,u,m,G⟩ V P 2 n 0 [] [] [] [] 2 W 0 [] [] [] [] h c9),bX (S:=⟨a,b,c,d,q,H,g,u,m,G⟩) (eW (bz p) nB) hq⟩
 ·rw[show decide (n=1\/W=1)=(W==1)from by simp[h];try rfl];exact⟨fU _ _ 2 V 79 P _ [aL 2 n,aL 2 W] q _ cc (by rw[GA];rfl) oy (Rx ⟨a,b,c,d,q,H,g,u,m,G⟩ V P 2 n 0 [] [] [] [] 2 W 0 [] [] [] [] h c9),bX (S:=⟨a,b,c,d,q,H,g,u,m,G⟩) (eW (bz p) nB) hq⟩
def Gg(S:b9)(V:Int)(P:L UInt8)(J:L Nd)(W s:L Ty)(r:L Ty×Bool)(hf:bJ 80 J=some W)(U:dH s S.st)(B:s.length<=340)(p:r.1.all br=true)(A:b8 80 W s=(r,0)):bf V P 80 J S/\bK S r (aH 80 J S):=by
 obtain⟨a,b,c,d,st,H,g,u,m,G⟩:=S;obtain⟨rfl,rfl⟩:=cC hf cc;have N:=bF U;simp only at U N;rcases s with _|⟨K,_|⟨I,s⟩⟩
 ·cases A
 ·cases A
 obtain⟨v,q0,rfl,E,D⟩:=bh U;obtain⟨w,q,rfl,C,hq⟩:=bh D;have f1:=cN E.1;have f2:=cN C.1;obtain⟨T,ts⟩:=K;obtain⟨M,AP⟩:=I;simp only[aac]at N B;have O:(if T=6/\M=6 then dX (.mk M AP::s)else aM 5)=(r,0):=A;split at O;rotate_left
 ·cases O
 rename_i c1;cases O;obtain⟨rfl,rfl⟩:=c1;obtain⟨Y,rfl,g1⟩:=uY f1.2.1;obtain⟨Q,rfl,g2⟩:=uY f2.2.1;unfold bf;by_cases h:200<Y.length+Q.length
 ·have e:aH 80 [] ⟨a,b,c,d,.mk 6 0 0 Y [] [] [] :: .mk 6 0 0 Q [] [] []::q,H,g,u,m,G⟩=(13,⟨a,b,c,d,q,H,g,u,m,G⟩):=by
   unfold aH;rw[A3];show(if 200<Y.length+Q.length then((13,⟨a,b,c,d,q,H,g,u,m,G⟩):MR)else bp ⟨a,b,c,d,q,H,g,u,m,G⟩ [.mk 6 0 0 (Y++Q) [] [] []])=_;rw[if_pos h]
  rw[e];exact⟨fU _ _ 2 V 80 P _ [.mk 6 0 0 Y [] [] [],.mk 6 0 0 Q [] [] []] q _ cc (by rw[A3];rfl) s8 (Ov ⟨a,b,c,d,q,H,g,u,m,G⟩ V P 6 0 0 Y [] [] [] 6 0 0 Q [] [] [] h bn c9),.inr (.inr Z)⟩
 ·have e:aH 80 [] ⟨a,b,c,d,.mk 6 0 0 Y [] [] [] :: .mk 6 0 0 Q [] [] []::q,H,g,u,m,G⟩=bp ⟨a,b,c,d,q,H,g,u,m,G⟩ [.mk 6 0 0 (Y++Q) [] [] []]:=by
   unfold aH;rw[A3];show(if 200<Y.length+Q.length then((13,⟨a,b,c,d,q,H,g,u,m,G⟩):MR)else bp ⟨a,b,c,d,q,H,g,u,m,G⟩ [.mk 6 0 0 (Y++Q) [] [] []])=_;rw[if_neg h]
  rw[e];exact⟨fU _ _ 2 V 80 P _ [.mk 6 0 0 Y [] [] [],.mk 6 0 0 Q [] [] []] q _ cc (by rw[A3];rfl) s8 (Ow ⟨a,b,c,d,q,H,g,u,m,G⟩ V P 6 0 0 Y [] [] [] 6 0 0 Q [] [] [] h c9),bX (S:=⟨a,b,c,d,q,H,g,u,m,G⟩) (eW (bz p) (EH (by rw[aay];omega))) hq⟩
def LC(a b:L UInt8) : -1<=ep a b/\ep a b<=1:=by unfold ep;repeat' split<;>(try omega)
mutual
def Je:∀v w:Vl,-1<=dj v w/\dj v w<=1
 |.mk k n a s J G E,.mk k' V T U M Y W=>by
  have h1:=EI J M;have h2:=LC s U;have K:=ve n V;have S:=ve J.length M.length;unfold dj
  try dsimp only
  repeat' split
  all_goals assumption
def EI:∀v w:L Vl,-1<=iy v w/\iy v w<=1
 |x::l,y::r=>by
  have h1:=Je x y;have h2:=EI l r;unfold iy;split<;>assumption
 |[],_=>by simp[iy]
 |_::_,[]=>by simp[iy]
end
def Jf{p:Int->Bool}:∀{l:L Ty}{x:Ty},nh p l=true->x∈l->rH p x=true
 |y::l,x,h,I=>by
  simp only[nh,aal]at h;rcases List.mem_cons.1 I with rfl|I
  ·exact h.1
  ·exact Jf h.2 I
def Og(S:b9)(V:Int)(P:L UInt8)(J:L Nd)(Y s:L Ty)(r:L Ty×Bool)(hf:bJ 73 J=some Y)(U:dH s S.st)(hl:s.length<=340)(hg:r.1.all br=true)(A:b8 73 Y s=(r,0)):bf V P 73 J S/\bK S r (aH 73 J S):=by
 obtain⟨a,b,c,d,st,H,g,u,m,G⟩:=S;obtain⟨rfl,rfl⟩:=cC hf cc;have N:=bF U;simp only at U N;rcases s with _|⟨O,_|⟨t2,s⟩⟩
 ·cases A
 ·cases A
 obtain⟨v,q0,rfl,B,qo⟩:=bh U;obtain⟨w,q,rfl,hw,hq⟩:=bh qo;have M:=cN B.1;have f2:=cN hw.1;simp only[aac]at N hl;have Q:(if cP O t2=true/\fq O=true then dX (.mk 3 []::s)else aM 5)=(r,0):=A;split at Q;rotate_left
 ·cases Q
 rename_i c1;cases Q;have et:=(fS _ _).1 c1.1;subst et;have XK:=xO v w O (lq M.1) M.2.1 f2.2.1 (by have:=B.2;omega);have hrg:=Je v w;unfold bf;have e:aH 73 [] ⟨a,b,c,d,v::w::q,H,g,u,m,G⟩=bp ⟨a,b,c,d,q,H,g,u,m,G⟩ [aL 3 (dj v w)]:=by unfold aH;rw[MM];rfl
 rw[e];obtain⟨C,I,K,E,W,D,p⟩:=v;obtain⟨k2,n2,a2,s2,T,bl,bH⟩:=w;exact⟨fU _ _ 2 V 73 P _ [_,_] q _ cc (by rw[MM];rfl) (by show List.length (Vl.mk C I K E W D p::Vl.mk k2 n2 a2 s2 T bl bH::q)<=_;simp only[aac];omega) (Rt ⟨a,b,c,d,q,H,g,u,m,G⟩ V P C I K E W D p k2 n2 a2 s2 T bl bH XK c9),bX (S:=⟨a,b,c,d,q,H,g,u,m,G⟩) (eW (bz hg) (iq cc j0 (λh=>absurd Z h))) hq⟩
def Uf(o:MR):Prop:=o.1=10/\vK o.2.said≠0/\aO o.2.said<=25000000
def To{v:Vl}{t:Ty}(p:br t=true)(h:bE v t=true):vK v≠0:=by
 obtain⟨k,n,a,s,J,Y,W⟩:=v;show k≠0;rintro rfl;simp[bE]at h
def Ls(S:b9)(T:Int)(P:L UInt8)(J:L Nd)(Y s:L Ty)(r:L Ty×Bool)(hf:bJ 83 J=some Y)(V:dH s S.st)(E:s.length<=340)(A:b8 83 Y s=(r,0)):bf T P 83 J S/\Uf (aH 83 J S):=by
 obtain⟨a,b,c,d,st,H,g,u,m,G⟩:=S;obtain⟨rfl,rfl⟩:=cC hf cc;have U:=bF V;simp only at V U;cases s with
 |nil=>cases A
 |cons t s =>
 obtain⟨v,q,rfl,B,hq⟩:=bh V;have M:=cN B.1;simp only[aac]at U E;unfold bf;have e:aH 83 [] ⟨a,b,c,d,v::q,H,g,u,m,G⟩=(10,⟨a,b,c,d,q,H,g,u,m,v⟩):=by unfold aH;rw[MS];rfl
 rw[e];refine⟨?_,Z,To M.1 M.2.1,B.2⟩;obtain⟨C,I,Q,O,W,N,K⟩:=v;exact fU _ _ 2 T 83 P _ [_] q _ cc (by rw[MS];rfl) (by show List.length (Vl.mk C I Q O W N K::q)<=_;simp only[aac];omega) (Ox ⟨a,b,c,d,q,H,g,u,m,G⟩ T P C I Q O W N K c9)
def Lf(S:b9)(T:Int)(P:L UInt8)(J:L Nd)(W s:L Ty)(r:L Ty×Bool)(hf:bJ 81 J=some W)(K:dH s S.st)(hl:s.length<=340)(hg:r.1.all br=true)(A:b8 81 W s=(r,0)):bf T P 81 J S/\bK S r (aH 81 J S):=by
 obtain⟨a,b,c,d,st,H,g,u,m,G⟩:=S;obtain⟨rfl,rfl⟩:=cC hf cc;have E:=bF K;simp only at K E;cases s with
 |nil=>cases A
 |cons t s =>
 obtain⟨v,q,rfl,B,hq⟩:=bh K;have D:=cN B.1;simp only[aac]at E hl;have I:(if fO t=true then dX (.mk 6 []::s)else aM 5)=(r,0):=A;split at I;rotate_left
 ·cases I
 cases I;have hT:=J4 t v (lq D.1) D.2.1 (by have:=B.2;omega);have e:aH 81 [] ⟨a,b,c,d,v::q,H,g,u,m,G⟩=(if(su v).2≠0 then((13,⟨a,b,c,d,q,H,g,u,m,G⟩):MR)else bp ⟨a,b,c,d,q,H,g,u,m,G⟩ [.mk 6 0 0 (su v).1 [] [] []]):=by unfold aH;rw[GB];rfl
 have V:(su v).1.length<=200:=by
  unfold su;split
  ·grind
  ·simp
 unfold bf;rw[e];generalize su v=p at *;obtain⟨p1,p2⟩:=p;obtain⟨C,U,Q,O,Y,N,M⟩:=v;by_cases h:p2=0
 ·subst h;rw[if_neg (λh=>h Z)];exact⟨fU _ _ 2 T 81 P _ [_] q _ cc (by rw[GB];rfl) Mn (LA ⟨a,b,c,d,q,H,g,u,m,G⟩ T P C U Q O Y N M p1 hT (by simp only at V;omega) c9),bX (S:=⟨a,b,c,d,q,H,g,u,m,G⟩) (eW (bz hg) (EH V)) hq⟩
 ·rw[if_pos h];exact⟨fU _ _ 2 T 81 P _ [_] q _ cc (by rw[GB];rfl) Mn (Lz ⟨a,b,c,d,q,H,g,u,m,G⟩ T P C U Q O Y N M p1 p2 hT h c9),.inr (.inr Z)⟩
mutual
def CP:∀(v:Vl)(t:Ty),kT t->bE v t=true->fO t=true->eC v=true
 |.mk k n a s J Y W,.mk T ts,ok,h,G=>by
  have U:=Af J;have B:=Ag J;have H:J.length=0->eg J=true:=λh=>by rw[List.length_eq_zero_iff.1 h];rfl
  have N:=qz ok;simp only[fO,rH,aal]at G;have V:∀x∈ts,fO x=true:=λx I=>Jf G.2 I;unfold bE at h;by_cases S:k≠bM (.mk T ts)\/cq (.mk k n a s J Y W)=false\/200<s.length
  ·rw[if_pos S]at h;cases h
  rw[if_neg S]at h;have hp:cq (.mk k n a s J Y W)=true:=by
   cases hq:cq (.mk k n a s J Y W)with
   |true=>rfl
   |false=>exact absurd (.inr (.inl hq)) S
  have A:k=T:=abf λP=>S (.inl P);subst A;clear S;have d1:∀{p q:Prop}[Decidable (p/\q)],decide (p/\q)=true->q:=λh=>(Zo h).2;have M:k≠14:=by rintro rfl;exact absurd G.1 cc
  have u:k≠15:=by rintro rfl;exact absurd G.1 cc
  have c8:k≠8:=by rintro rfl;exact absurd G.1 cc
  suffices hh:eg J=true by simpa[eC,M]using hh
  by_cases K:k=1\/k=6
  ·rw[if_pos K]at h;exact H (Zo h).2
  rw[if_neg K]at h;by_cases C:k=2
  ·rw[if_pos C]at h;exact H (Zo h).2.2
  rw[if_neg C]at h;by_cases E:k=3
  ·rw[if_pos E]at h;exact H (Zo h).2.2
  rw[if_neg E]at h;by_cases c4:k=4\/k=5
  ·rw[if_pos c4]at h;exact H (Zo h).2.2
  rw[if_neg c4]at h;by_cases D:k=7
  ·rw[if_pos D]at h;exact H (Zo h).2.2
  rw[if_neg D]at h;by_cases O:k=9
  ·rw[if_pos O,aal]at h;subst O;obtain⟨x,rfl,I⟩:=eN ok cc;exact U x I h.2 (V x ek)
  rw[if_neg O]at h;by_cases JK:k=10
  ·rw[if_pos JK,aal]at h;subst JK;obtain⟨x,rfl,I⟩:=eN ok cc;exact U x I h.2 (V x ek)
  rw[if_neg JK]at h;by_cases Nz:k=11
  ·rw[if_pos Nz,aal]at h;subst Nz;have z:=N.1;rw[show arity 11=2 from by decide]at z;exact B ts (λx I=>N.2 x I) h.2 P9 V
  rw[if_neg Nz]at h;by_cases NA:k=12
  ·rw[if_pos NA,aal]at h;subst NA;obtain⟨x,y,rfl,I,Q⟩:=eD ok cc;have hn:=Zo h.1;rcases(show n=0\/n=1 by omega)with rfl|rfl
   ·exact U x I h.2 (V x ek)
   ·exact U y Q h.2 (V y ek)
  rw[if_neg NA]at h;by_cases NB:k=13
  ·rw[if_pos NB,aal,aal]at h;subst NB;exact U _ (wS ok cc) h.1.2 (by simp only[fO,rH,G.2,abe];decide)
  rw[if_neg NB,if_neg M,if_neg u,if_neg c8]at h;cases h
def Af:∀(l:L Vl)(t:Ty),kT t->aP l t=true->fO t=true->eg l=true
 |[],_,_,_,_=>rfl
 |x::l,t,ok,h,G=>by
  simp only[aP,aal]at h;simp only[eg,aal];exact⟨CP x t ok h.1 G,Af l t ok h.2 G⟩
def Ag:∀(l:L Vl)(r:L Ty),(∀x∈r,kT x)->cV l r=true->l.length<=r.length->(∀x∈r,fO x=true)->eg l=true
 |[],_,_,_,_,_=>rfl
 |x::l,[],_,_,h,_=>by simp at h
 |x::l,t::r,ok,h,hl,G=>by
  simp only[cV,aal]at h;simp only[eg,aal];exact⟨CP x t (ok t ek) h.1 (G t ek),Ag l r (λy Q=>ok y (by simp[Q])) h.2 (by simpa using hl) (λy Q=>G y (by simp[Q]))⟩
end
def Jg{t:Ty}{n:Nd}(h:(gQ t n).2=0)(G:fO t=true):br t=true/\bE (gQ t n).1 t=true/\eC (gQ t n).1=true:=by
 have h1:=(EJ h).1;unfold oA at h1;rw[aal]at h1;exact⟨h1.1,h1.2,CP _ t (cG h1.1) h1.2 G⟩
def Tp{P:Int}{J:L Nd}{Y:L Ty}(h:bJ P J=some Y)(U:fG P=[116,118]):∃x y,J=[x,y]/\(aW x).2=0/\Y=[(aW x).1]:=by
 obtain⟨h1,h2⟩:=jk h;rw[U]at h1 h2;rcases J with _|⟨x,_|⟨y,_|⟨z,r⟩⟩⟩
 ·simp at h1
 ·simp at h1
 ·obtain⟨W,N,p,q,xs⟩:=x;obtain⟨V,S,Q,O,T⟩:=y;have K:(if(aW (.mk W N p q xs)).2=0 then some ([]++[(aW (.mk W N p q xs)).1])else none)=some Y:=h2;split at K
  ·simp_all
  ·cases K
 ·simp at h1
def MU:bW 45=0:=by decide +kernel
def Lr(S:b9)(T:Int)(P:L UInt8)(J:L Nd)(K:aS J<=8589934593)(Y s:L Ty)(r:L Ty×Bool)(hf:bJ 45 J=some Y)(V:dH s S.st)(B:s.length<=340)(p:r.1.all br=true)(A:(if(gQ (Y.getD 0 kG) (J.getD 1 qV)).2=0/\fO (Y.getD 0 kG)=true then dX (Y.getD 0 kG::s)else aM 5)=(r,0)):bf T P 45 J S/\bK S r (aH 45 J S):=by
 obtain⟨a,b,c,d,q,H,g,u,m,G⟩:=S;obtain⟨x,y,rfl,I,rfl⟩:=Tp hf cc;have Q:=bF V;simp only at V Q;have W:(if(gQ (aW x).1 y).2=0/\fO (aW x).1=true then dX ((aW x).1::s)else aM 5)=(r,0):=A;split at W;rotate_left
 ·cases W
 rename_i U;cases W;have GS:=Jg U.1 U.2;have D:=EK (aW x).1 y;simp only[aS]at K;unfold bf;have e:aH 45 [x,y] ⟨a,b,c,d,q,H,g,u,m,G⟩=bp ⟨a,b,c,d,q,H,g,u,m,G⟩ [(gQ (aW x).1 y).1]:=by unfold aH;rw[MU];rfl
 rw[e];exact⟨ir _ _ 2 T 45 P _ [] q _ cc (by rw[MU];rfl) c9 (KD ⟨a,b,c,d,q,H,g,u,m,G⟩ T P x y bn bn U.1 bn c9),bX (S:=⟨a,b,c,d,q,H,g,u,m,G⟩) (eW GS.1 GS.2) V⟩
def Jh{t:Ty}{s:L UInt8}(G:fO t=true)(h:(gd t s).2=0):aO (gd t s).1<=60300/\bE (gd t s).1 t=true/\eC (gd t s).1=true:=by
 cases s with
 |nil=>cases h
 |cons c r =>
  by_cases C:c=5/\(c::r).length<=200/\fO t=true/\(eH r).2=0
  ·have e:gd t (c::r)=gQ t (eH r).1:=if_pos C;rw[e]at h ⊢;have h1:=Jg h G;have h2:=wv (EJ h).2.1;exact⟨aaG (EK _ _) h2,h1.2⟩
  ·have e:gd t (c::r)=(nE,1):=if_neg C;rw[e]at h;cases h
def Gi(S:b9)(V:Int)(P:L UInt8)(J:L Nd)(I:aS J<=8589934593)(Y s:L Ty)(r:L Ty×Bool)(hf:bJ 82 J=some Y)(U:dH s S.st)(B:s.length<=340)(N:r.1.all br=true)(A:b8 82 Y s=(r,0)):bf V P 82 J S/\bK S r (aH 82 J S):=by
 obtain⟨a,b,c,d,st,H,g,u,m,G⟩:=S;obtain⟨x,rfl,hx,rfl⟩:=zh hf cc;have O:=bF U;simp only at U O;cases s with
 |nil=>cases A
 |cons t s =>
 obtain⟨v,q,rfl,E,hq⟩:=bh U;have C:=cN E.1;obtain⟨T,ts⟩:=t;simp only[aac]at O B;have Q:(if T=6/\fO (aW x).1=true then dX (.mk 9 [(aW x).1]::s)else aM 5)=(r,0):=A;split at Q;rotate_left
 ·cases Q
 rename_i c1;cases Q;obtain⟨rfl,pk⟩:=c1;obtain⟨W,rfl,g1⟩:=uY C.2.1;simp only[aS]at I;unfold bf;have e:aH 82 [x] ⟨a,b,c,d,.mk 6 0 0 W [] [] []::q,H,g,u,m,G⟩=(if(gd (aW x).1 W).2≠0 then bp ⟨a,b,c,d,q,H,g,u,m,G⟩ [cw []]else bp ⟨a,b,c,d,q,H,g,u,m,G⟩ [cw [(gd (aW x).1 W).1]]):=by unfold aH;rw[GC];rfl
 rw[e];have hU:=λh=>Jh (t:=(aW x).1) (s:=W) pk h;generalize D:gd (aW x).1 W=p at *;obtain⟨M,K⟩:=p;by_cases h:K=0
 ·subst h;obtain⟨z1,z2⟩:=hU rfl;rw[if_neg (λh=>h Z)];exact⟨fU _ _ 2 V 82 P _ [_] q _ cc (by rw[GC];rfl) LN (Rz ⟨a,b,c,d,q,H,g,u,m,G⟩ V P 6 0 0 W [] [] [] x bn M D (by simp only at z1;omega) c9),bX (S:=⟨a,b,c,d,q,H,g,u,m,G⟩) (eW (bz N) (hD z2)) hq⟩
 ·rw[if_pos h];exact⟨fU _ _ 2 V 82 P _ [_] q _ cc (by rw[GC];rfl) LN (Ry ⟨a,b,c,d,q,H,g,u,m,G⟩ V P 6 0 0 W [] [] [] x bn M K D h c9),bX (S:=⟨a,b,c,d,q,H,g,u,m,G⟩) (eW (bz N) lU) hq⟩
abbrev iP(S:b9)(F:gU)(t:List gU):b9:={S with fr:={F with pos:=F.pos+1}::t}
inductive jN:Nat->b9->MR->Prop
 |done {k:Nat} {S:b9} (h:S.fr=[]):jN (k+1) S (0,S)
 |fin {k:Nat} {S S':b9} {F:gU} {t:List gU} {e:Int} {r:MR} (h:S.fr=F::t) (hp:F.pos=F.code.length) (ht:t.length<=1000000000) (hc:cz 106 S [.ptr 1000002 (0+t.length*4)] (aE e) S') (he:e≠0->r=(e,S')) (hk:e=0->jN k S' r):jN (k+1) S r
 |seq {k:Nat} {S:b9} {F:gU} {t:List gU} {N P:Int} {s:List UInt8} {args:List Nd} {r:MR} (h:S.fr=F::t) (hp:F.code[F.pos]?=some (.mk 3 N P s args)) (ht:t.length<=1000000000) (hl:F.code.length<=8589934593) (hk:jN k (dG (iP S F t) args 0 []) r):jN (k+1) S r
 |Xz {k:Nat} {S:b9} {F:gU} {t:List gU} {N P:Int} {s:List UInt8} {args:List Nd} (h:S.fr=F::t) (hp:F.code[F.pos]?=some (.mk 2 N P s args)) (ht:t.length<=1000000000) (hl:F.code.length<=8589934593) (hg:S.oC<=S.used):jN (k+1) S (12,iP S F t)
 |step {k:Nat} {S S':b9} {F:gU} {t:List gU} {N P:Int} {s:List UInt8} {args:List Nd} {e:Int} {r:MR} (h:S.fr=F::t) (hp:F.code[F.pos]?=some (.mk 2 N P s args)) (ht:t.length<=1000000000) (hl:F.code.length<=8589934593) (hg:S.used<S.oC) (hi:Mh S.oC) (hu:0<=S.used)
   (hc:cz 109 {iP S F t with used:=S.used+1} [.c (aY (.mk 2 N P s args))] (aE e) S') (he:e≠0->r=(e,S')) (hk:e=0->jN k S' r):jN (k+1) S r
attribute [local irreducible] AK ah aZ cx dM dV
def Cm(k:Nat)(S:b9)(r:MR)(J:jN k S r):cz 85 S [] (aE r.1) r.2:=by
 refine mn func85 call85 λβ hf=>?_;refine YC ?_;refine AK.fL [(1000000,1000000),(3001,1000001),(3002,1000002)] [] (env':=[(0,.ptr 1000000 0)]) (bs':=[(1000000,mC S 3001 3002),(3001,ag (sR S.st)),(3002,ag (fR S.fr))]) (ts':=[]) (us':=[1000000,3001,3002]) ce (Ud Z Z Z Z Z Z Z Z Z) Z ?_;refine AK.eX (α:=Nat×b9) (λz=>jN z.1 z.2 r) (λz=>z.1) (λ_=>[(0,.ptr 1000000 0)]) (λz=>[(1000000,mC z.2 3001 3002),(3001,ag (sR z.2.st)),(3002,ag (fR z.2.fr))]) (λ_=>[]) [1000000,3001,3002] (k,S)
  J ⟨.inl Z,trivial⟩ ⟨Z,Z,Z,trivial⟩ trivial Z (Vy S Z Z Z) Z ?_
 rintro⟨q,T⟩ D ih;simp only at D;clear J;cases D with
 |done h =>
  obtain⟨a,b,c,d,U,B,g,u,m,Y⟩:=T;simp only at h;subst h;clear ih;exact dm
 |@fin k1 _ S' F t e _ h hp ht hc he hk =>
  obtain⟨a,b,c,d,U,B,g,u,m,Y⟩:=T;obtain⟨W,G,fin,p⟩:=F;simp only at *;subst h;have H:=wA ⟨W,G,fin,p⟩ t;have h1:=MV ⟨W,G,fin,p⟩ t;have J:i64.wrap (((((⟨W,G,fin,p⟩:gU)::t).length:Nat):Int)-1)=(t.length:Nat):=by
   rw[gF fc fc];simp only[aac];omega
  have M:decide (((((⟨W,G,fin,p⟩:gU)::t).length:Nat):Int)>0)=true:=aaw fc;subst hp;have K:=bq W;have I:((W.length:Int)==(((aG W).length:Nat):Int))=true:=beq_iff_eq.2 bn;by_cases V:e=0
  ·have C:(e != 0)=false:=by simpa using V
   replace hk:=hk V;clear he
   repeat' (first|refine me ?_|refine zc ?_ ?_|(intro h;first|(cases h;done)|rw[h]|skip)|refine AK.skip ?_|refine AK.seq ?_|refine AK.block ?_|refine AK.exit Z ?_|refine ah.gh hX kn Z Z Z Z Z Z H Z ?_|refine ah.gh hX kn Z Z Z Z Z Z h1 Z ?_|refine ah.iF hX kn Z Z Z Z Z Z Z Z Z t.length J (ZX _) ?_|refine rT ?_ (hq:=hc))
   refine AK.fL [(1000000,1000000),(3001,100037),(3002,200037)] [] (env':=[(0,.ptr 1000000 0)]) (bs':=[(1000000,mC S' 3001 3002),(3001,ag (sR (S').st)),(3002,ag (fR (S').fr))]) (ts':=[]) (us':=[1000000,3001,3002]) ce (Ud Z Z Z Z Z Z Z Z Z) Z ?_;exact ih (_,S') (hk) (ZX _)
  ·have C:(e != 0)=true:=by simpa using V
   obtain rfl:=he V;clear ih he hk
   repeat' (first|refine me ?_|refine zc ?_ ?_|(intro h;first|(cases h;done)|rw[h]|skip)|refine AK.skip ?_|refine AK.seq ?_|refine AK.block ?_|refine AK.exit Z ?_|refine ah.gh hX kn Z Z Z Z Z Z H Z ?_|refine ah.gh hX kn Z Z Z Z Z Z h1 Z ?_|refine ah.iF hX kn Z Z Z Z Z Z Z Z Z t.length J (ZX _) ?_|refine rT ?_ (hq:=hc))
   all_goals rfl
 |@seq k1 _ F t N P s args _ h hp ht hl hk =>
  obtain⟨a,b,c,d,U,B,g,u,m,Y⟩:=T;obtain⟨W,G,fin,p⟩:=F;simp only at *;subst h;have H:=wA ⟨W,G,fin,p⟩ t;have h1:=MV ⟨W,G,fin,p⟩ t;have J:i64.wrap (((((⟨W,G,fin,p⟩:gU)::t).length:Nat):Int)-1)=(t.length:Nat):=by
   rw[gF fc fc];simp only[aac];omega
  have M:decide (((((⟨W,G,fin,p⟩:gU)::t).length:Nat):Int)>0)=true:=aaw fc;have E:=(List.getElem?_eq_some_iff.1 hp).1;have K:=bq W;have I:((G:Int)==(((aG W).length:Nat):Int))=false:=beq_eq_false_iff_ne.2 bn;have O:=eo hp;have hq:dI (0+t.length*4+1) [.c (aE (i64.wrap ((G:Int)+1)))] (ag (fR (⟨W,G,fin,p⟩::t)))=some (ag (fR (⟨W,G+1,fin,p⟩::t))):=by rw[gF bn bn];exact Cg ⟨W,G,fin,p⟩ t (G+1)
  have A:=gn ⟨a,b,c,d,U,⟨W,G+1,fin,p⟩::t,g,u,m,Y⟩ args 0 fc
  repeat' (first|refine me ?_|refine zc ?_ ?_|(intro h;first|(cases h;done)|rw[h]|skip)|refine AK.skip ?_|refine AK.seq ?_|refine AK.block ?_|refine AK.exit Z ?_|refine ah.gh hX kn Z Z Z Z Z Z H Z ?_|refine ah.gh hX kn Z Z Z Z Z Z h1 Z ?_|refine ah.iF hX kn Z Z Z Z Z Z Z Z Z t.length J (ZX _) ?_|refine uI Z G Z O Z ?_|refine ah.store hX kn Z Z Z Z Z Z Z Z Z hq Z ?_|refine rT ?_ (hq:=A))
  refine AK.fL [(1000000,1000000),(3001,100064),(3002,200064)] [] (env':=[(0,.ptr 1000000 0)]) (bs':=[(1000000,mC (dG ⟨a,b,c,d,U,⟨W,G+1,fin,p⟩::t,g,u,m,Y⟩ args 0 []) 3001 3002),(3001,ag (sR ((dG ⟨a,b,c,d,U,⟨W,G+1,fin,p⟩::t,g,u,m,Y⟩ args 0 [])).st)),(3002,ag (fR ((dG ⟨a,b,c,d,U,⟨W,G+1,fin,p⟩::t,g,u,m,Y⟩ args 0 [])).fr))]) (ts':=[]) (us':=[1000000,3001,3002]) ce (Ud Z Z Z Z Z Z Z Z Z) Z ?_;exact ih (_,(dG ⟨a,b,c,d,U,⟨W,G+1,fin,p⟩::t,g,u,m,Y⟩ args 0 [])) (hk) (ZX _)
 |@Xz k1 _ F t N P s args h hp ht hl hg =>
  obtain⟨a,b,c,d,U,B,g,u,m,Y⟩:=T;obtain⟨W,G,fin,p⟩:=F;simp only at *;subst h;have H:=wA ⟨W,G,fin,p⟩ t;have h1:=MV ⟨W,G,fin,p⟩ t;have J:i64.wrap (((((⟨W,G,fin,p⟩:gU)::t).length:Nat):Int)-1)=(t.length:Nat):=by
   rw[gF fc fc];simp only[aac];omega
  have M:decide (((((⟨W,G,fin,p⟩:gU)::t).length:Nat):Int)>0)=true:=aaw fc;have E:=(List.getElem?_eq_some_iff.1 hp).1;have K:=bq W;have I:((G:Int)==(((aG W).length:Nat):Int))=false:=beq_eq_false_iff_ne.2 bn;have O:=eo hp;have hq:dI (0+t.length*4+1) [.c (aE (i64.wrap ((G:Int)+1)))] (ag (fR (⟨W,G,fin,p⟩::t)))=some (ag (fR (⟨W,G+1,fin,p⟩::t))):=by rw[gF bn bn];exact Cg ⟨W,G,fin,p⟩ t (G+1)
  have Q:=Vz ⟨a,b,c,d,U,⟨W,G+1,fin,p⟩::t,g,u,m,Y⟩ hg;clear ih
  repeat' (first|refine me ?_|refine zc ?_ ?_|(intro h;first|(cases h;done)|rw[h]|skip)|refine AK.skip ?_|refine AK.seq ?_|refine AK.block ?_|refine AK.exit Z ?_|refine ah.gh hX kn Z Z Z Z Z Z H Z ?_|refine ah.gh hX kn Z Z Z Z Z Z h1 Z ?_|refine ah.iF hX kn Z Z Z Z Z Z Z Z Z t.length J (ZX _) ?_|refine uI Z G Z O Z ?_|refine ah.store hX kn Z Z Z Z Z Z Z Z Z hq Z ?_|refine rT ?_ (hq:=Q))
  all_goals rfl
 |@step k1 _ S' F t N P s args e _ h hp ht hl hg hi hu hc he hk =>
  obtain⟨a,b,c,d,U,B,g,u,m,Y⟩:=T;obtain⟨W,G,fin,p⟩:=F;simp only at *;subst h;have H:=wA ⟨W,G,fin,p⟩ t;have h1:=MV ⟨W,G,fin,p⟩ t;have J:i64.wrap (((((⟨W,G,fin,p⟩:gU)::t).length:Nat):Int)-1)=(t.length:Nat):=by
   rw[gF fc fc];simp only[aac];omega
  have M:decide (((((⟨W,G,fin,p⟩:gU)::t).length:Nat):Int)>0)=true:=aaw fc;have E:=(List.getElem?_eq_some_iff.1 hp).1;have K:=bq W;have I:((G:Int)==(((aG W).length:Nat):Int))=false:=beq_eq_false_iff_ne.2 bn;have O:=eo hp;have hq:dI (0+t.length*4+1) [.c (aE (i64.wrap ((G:Int)+1)))] (ag (fR (⟨W,G,fin,p⟩::t)))=some (ag (fR (⟨W,G+1,fin,p⟩::t))):=by rw[gF bn bn];exact Cg ⟨W,G,fin,p⟩ t (G+1)
  have Q:=VA ⟨a,b,c,d,U,⟨W,G+1,fin,p⟩::t,g,u,m,Y⟩ hg hi hu;by_cases V:e=0
  ·have C:(e != 0)=false:=by simpa using V
   replace hk:=hk V;clear he
   repeat' (first|refine me ?_|refine zc ?_ ?_|(intro h;first|(cases h;done)|rw[h]|skip)|refine AK.skip ?_|refine AK.seq ?_|refine AK.block ?_|refine AK.exit Z ?_|refine ah.gh hX kn Z Z Z Z Z Z H Z ?_|refine ah.gh hX kn Z Z Z Z Z Z h1 Z ?_|refine ah.iF hX kn Z Z Z Z Z Z Z Z Z t.length J (ZX _) ?_|refine uI Z G Z O Z ?_|refine ah.store hX kn Z Z Z Z Z Z Z Z Z hq Z ?_|refine rT ?_ (hq:=Q)|refine rT ?_ (hq:=hc))
   refine AK.fL [(1000000,1000000),(3001,100075),(3002,200075)] [] (env':=[(0,.ptr 1000000 0)]) (bs':=[(1000000,mC S' 3001 3002),(3001,ag (sR (S').st)),(3002,ag (fR (S').fr))]) (ts':=[]) (us':=[1000000,3001,3002]) ce (Ud Z Z Z Z Z Z Z Z Z) Z ?_;exact ih (_,S') (hk) (ZX _)
  ·have C:(e != 0)=true:=by simpa using V
   obtain rfl:=he V;clear ih he hk
   repeat' (first|refine me ?_|refine zc ?_ ?_|(intro h;first|(cases h;done)|rw[h]|skip)|refine AK.skip ?_|refine AK.seq ?_|refine AK.block ?_|refine AK.exit Z ?_|refine ah.gh hX kn Z Z Z Z Z Z H Z ?_|refine ah.gh hX kn Z Z Z Z Z Z h1 Z ?_|refine ah.iF hX kn Z Z Z Z Z Z Z Z Z t.length J (ZX _) ?_|refine uI Z G Z O Z ?_|refine ah.store hX kn Z Z Z Z Z Z Z Z Z hq Z ?_|refine rT ?_ (hq:=Q)|refine rT ?_ (hq:=hc))
   all_goals rfl
end Go.Proofs
