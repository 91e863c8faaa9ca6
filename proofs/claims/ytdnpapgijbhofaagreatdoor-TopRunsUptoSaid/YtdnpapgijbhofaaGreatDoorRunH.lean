/- Package run: -/
import Derived.Test.YtdnpapgijbhofaaGreatDoorRunW
import Derived.Test.YtdnpapgijbhofaaGreatDoorRunU
open Go.IntKind
open Go.Proofs.Tryz
set_option linter.defProp false
set_option maxHeartbeats 0
set_option linter.unusedVariables false
set_option linter.unusedSimpArgs false
set_option maxRecDepth 100000
namespace Go.Proofs
open Go.cw
def zF{v:Vl}{ts:L Ty}(h:bE v (.mk 6 ts)=true):∃s,v = .mk 6 0 0 s [] [] []/\s.length<=200:=by obtain⟨k,n,a,s,M,V,code⟩:=v;obtain⟨A,S,I⟩:=ja h;simp only[dD]at A;subst A;simp[cA]at S;obtain⟨rfl,rfl,rfl,rfl,rfl⟩:=S;exact⟨s,rfl,I⟩
def Kb{s:L UInt8}{ts:L Ty}(h:s.length<=200):bE (.mk 6 0 0 s [] [] []) (.mk 6 ts)=true/\eU (.mk 6 0 0 s [] [] [])=true:=by simp[bE,cA,dD,eU,ej];omega
def qy{b:Bool}{ts:L Ty}:bE (jm b) (.mk 2 ts)=true/\eU (jm b)=true:=by cases b;exact oN (.inl ⟨rfl,bn,bn⟩);exact oN (.inl ⟨rfl,bn,bn⟩)
def TL:bY 73=2:=by decide +kernel
def TM:bY 74=1:=by decide +kernel
def TN:bY 75=1:=by decide +kernel
def TO:bY 76=1:=by decide +kernel
def TP:bY 77=1:=by decide +kernel
def Mn:bY 78=2:=by decide +kernel
def Mo:bY 79=2:=by decide +kernel
def Fo:bY 80=2:=by decide +kernel
def Mp:bY 81=1:=by decide +kernel
def Mq:bY 82=1:=by decide +kernel
def TQ:bY 83=1:=by decide +kernel
def O5(S:bZ)(A:Int)(K:L UInt8)(M:L Nd)(V s:L Ty)(r:L Ty×Bool)(hf:bP 74 M=some V)(C:ew s S.st)(P:s.length<=340)(G:r.1.all br=true)(I:j9 74 V s=(r,0)):bg A K 74 M S/\bQ S r (aE 74 M S):=by
 obtain⟨a,b,c,d,st,H,g,u,m,Q⟩:=S;obtain⟨rfl,rfl⟩:=cK hf bn;have E:=bL C;simp only at C E;cases s with
 |nil=>cases I
 |cons t s =>
 obtain⟨v,q,rfl,N,hq⟩:=aW C;have D:=cQ N.1;obtain⟨T,ts⟩:=t;simp only[aag]at E P;have Y:(if T=3 then gy (.mk 2 []::s)else bw 5)=(r,0):=I;split at Y;rotate_left;cases Y;rename_i W;cases Y;subst W;obtain⟨n,rfl,g1⟩:=gw bn D.2.1;unfold bg;have e:aE 74 [] ⟨a,b,c,d,aK 3 n::q,H,g,u,m,Q⟩=aY ⟨a,b,c,d,q,H,g,u,m,Q⟩ [jm (n==0)]:=by unfold aE;rw[TM];rfl
 rw[e];exact⟨iA _ _ 2 A 74 K _ [aK 3 n] q _ bn (by rw[TM];rfl) lf (abh ⟨a,b,c,d,q,H,g,u,m,Q⟩ A K 3 n 0 [] [] [] [] bT),cg (S:=⟨a,b,c,d,q,H,g,u,m,Q⟩) (fX (bC G) qy) hq⟩
def O6(S:bZ)(A:Int)(K:L UInt8)(M:L Nd)(V s:L Ty)(r:L Ty×Bool)(hf:bP 75 M=some V)(C:ew s S.st)(P:s.length<=340)(G:r.1.all br=true)(I:j9 75 V s=(r,0)):bg A K 75 M S/\bQ S r (aE 75 M S):=by
 obtain⟨a,b,c,d,st,H,g,u,m,Q⟩:=S;obtain⟨rfl,rfl⟩:=cK hf bn;have E:=bL C;simp only at C E;cases s with
 |nil=>cases I
 |cons t s =>
 obtain⟨v,q,rfl,N,hq⟩:=aW C;have D:=cQ N.1;obtain⟨T,ts⟩:=t;simp only[aag]at E P;have Y:(if T=3 then gy (.mk 2 []::s)else bw 5)=(r,0):=I;split at Y;rotate_left;cases Y;rename_i W;cases Y;subst W;obtain⟨n,rfl,g1⟩:=gw bn D.2.1;unfold bg;have e:aE 75 [] ⟨a,b,c,d,aK 3 n::q,H,g,u,m,Q⟩=aY ⟨a,b,c,d,q,H,g,u,m,Q⟩ [jm (decide (n<0))]:=by unfold aE;rw[TN];rfl
 rw[e];exact⟨iA _ _ 2 A 75 K _ [aK 3 n] q _ bn (by rw[TN];rfl) lf (abi ⟨a,b,c,d,q,H,g,u,m,Q⟩ A K 3 n 0 [] [] [] [] bT),cg (S:=⟨a,b,c,d,q,H,g,u,m,Q⟩) (fX (bC G) qy) hq⟩
def O7(S:bZ)(A:Int)(K:L UInt8)(M:L Nd)(V s:L Ty)(r:L Ty×Bool)(hf:bP 76 M=some V)(C:ew s S.st)(P:s.length<=340)(G:r.1.all br=true)(I:j9 76 V s=(r,0)):bg A K 76 M S/\bQ S r (aE 76 M S):=by
 obtain⟨a,b,c,d,st,H,g,u,m,Q⟩:=S;obtain⟨rfl,rfl⟩:=cK hf bn;have E:=bL C;simp only at C E;cases s with
 |nil=>cases I
 |cons t s =>
 obtain⟨v,q,rfl,N,hq⟩:=aW C;have D:=cQ N.1;obtain⟨T,ts⟩:=t;simp only[aag]at E P;have Y:(if T=3 then gy (.mk 2 []::s)else bw 5)=(r,0):=I;split at Y;rotate_left;cases Y;rename_i W;cases Y;subst W;obtain⟨n,rfl,g1⟩:=gw bn D.2.1;unfold bg;have e:aE 76 [] ⟨a,b,c,d,aK 3 n::q,H,g,u,m,Q⟩=aY ⟨a,b,c,d,q,H,g,u,m,Q⟩ [jm (decide (n>0))]:=by unfold aE;rw[TO];rfl
 rw[e];exact⟨iA _ _ 2 A 76 K _ [aK 3 n] q _ bn (by rw[TO];rfl) lf (abj ⟨a,b,c,d,q,H,g,u,m,Q⟩ A K 3 n 0 [] [] [] [] bT),cg (S:=⟨a,b,c,d,q,H,g,u,m,Q⟩) (fX (bC G) qy) hq⟩
def Vo(S:bZ)(A:Int)(K:L UInt8)(M:L Nd)(V s:L Ty)(r:L Ty×Bool)(hf:bP 77 M=some V)(C:ew s S.st)(P:s.length<=340)(G:r.1.all br=true)(I:j9 77 V s=(r,0)):bg A K 77 M S/\bQ S r (aE 77 M S):=by
 obtain⟨a,b,c,d,st,H,g,u,m,Q⟩:=S;obtain⟨rfl,rfl⟩:=cK hf bn;have E:=bL C;simp only at C E;cases s with
 |nil=>cases I
 |cons t s =>
 obtain⟨v,q,rfl,N,hq⟩:=aW C;have D:=cQ N.1;obtain⟨T,ts⟩:=t;simp only[aag]at E P;have Y:(if T=2 then gy (.mk T ts::s)else bw 5)=(r,0):=I;split at Y;rotate_left;cases Y;rename_i W;cases Y;subst W;obtain⟨n,rfl,g1⟩:=gw bn D.2.1;unfold bg;have e:aE 77 [] ⟨a,b,c,d,aK 2 n::q,H,g,u,m,Q⟩=aY ⟨a,b,c,d,q,H,g,u,m,Q⟩ [jm (n==0)]:=by unfold aE;rw[TP];rfl
 rw[e];exact⟨iA _ _ 2 A 77 K _ [aK 2 n] q _ bn (by rw[TP];rfl) (by show List.length (aK 2 n::q)<=_;simp only[aag];omega) (abk ⟨a,b,c,d,q,H,g,u,m,Q⟩ A K 2 n 0 [] [] [] [] bT),cg (S:=⟨a,b,c,d,q,H,g,u,m,Q⟩) (fX (bC G) qy) hq⟩
def Vp(S:bZ)(A:Int)(K:L UInt8)(M:L Nd)(V s:L Ty)(r:L Ty×Bool)(hf:bP 78 M=some V)(C:ew s S.st)(P:s.length<=340)(G:r.1.all br=true)(I:j9 78 V s=(r,0)):bg A K 78 M S/\bQ S r (aE 78 M S):=by
 obtain⟨a,b,c,d,st,H,g,u,m,Q⟩:=S;obtain⟨rfl,rfl⟩:=cK hf bn;have E:=bL C;simp only at C E;rcases s with _|⟨U,_|⟨O,s⟩⟩
 cases I;cases I;obtain⟨v,q0,rfl,N,J⟩:=aW C;obtain⟨w,q,rfl,B,hq⟩:=aW J;have f1:=cQ N.1;have f2:=cQ B.1;obtain⟨T,ts⟩:=U;obtain⟨D,Fc⟩:=O;simp only[aag]at E P;have W:(if T=2/\D=2 then gy (.mk D Fc::s)else bw 5)=(r,0):=I;split at W;rotate_left;cases W;rename_i c1;cases W;obtain⟨rfl,rfl⟩:=c1;obtain⟨n,rfl,g1⟩:=gw bn f1.2.1;obtain⟨Y,rfl,g2⟩:=gw bn f2.2.1;unfold bg;have e:aE 78 [] ⟨a,b,c,d,aK 2 n::aK 2 Y::q,H,g,u,m,Q⟩=aY ⟨a,b,c,d,q,H,g,u,m,Q⟩ [jm (decide (n=1/\Y=1))]:=by unfold aE;rw[Mn];rfl
 rw[e];by_cases h:n=1
 ·rw[show decide (n=1/\Y=1)=(Y==1)from by simp[h];try rfl];exact⟨iA _ _ 2 A 78 K _ [aK 2 n,aK 2 Y] q _ bn (by rw[Mn];rfl) ot (YU ⟨a,b,c,d,q,H,g,u,m,Q⟩ A K 2 n 0 [] [] [] [] 2 Y 0 [] [] [] [] h bT),cg (S:=⟨a,b,c,d,q,H,g,u,m,Q⟩) (fX (bC G) qy) hq⟩
 rw[show decide (n=1/\Y=1)=false from by simp[h];try rfl];exact⟨iA _ _ 2 A 78 K _ [aK 2 n,aK 2 Y] q _ bn (by rw[Mn];rfl) ot (YV ⟨a,b,c,d,q,H,g,u,m,Q⟩ A K 2 n 0 [] [] [] [] 2 Y 0 [] [] [] [] h bT),cg (S:=⟨a,b,c,d,q,H,g,u,m,Q⟩) (fX (bC G) qy) hq⟩
def YF(S:bZ)(A:Int)(K:L UInt8)(M:L Nd)(V s:L Ty)(r:L Ty×Bool)(hf:bP 79 M=some V)(C:ew s S.st)(P:s.length<=340)(G:r.1.all br=true)(I:j9 79 V s=(r,0)):bg A K 79 M S/\bQ S r (aE 79 M S):=by
 obtain⟨a,b,c,d,st,H,g,u,m,Q⟩:=S;obtain⟨rfl,rfl⟩:=cK hf bn;have E:=bL C;simp only at C E;rcases s with _|⟨U,_|⟨O,s⟩⟩
 cases I;cases I;obtain⟨v,q0,rfl,N,J⟩:=aW C;obtain⟨w,q,rfl,B,hq⟩:=aW J;have f1:=cQ N.1;have f2:=cQ B.1;obtain⟨T,ts⟩:=U;obtain⟨D,Fc⟩:=O;simp only[aag]at E P;have W:(if T=2/\D=2 then gy (.mk D Fc::s)else bw 5)=(r,0):=I;split at W;rotate_left;cases W;rename_i c1;cases W;obtain⟨rfl,rfl⟩:=c1;obtain⟨n,rfl,g1⟩:=gw bn f1.2.1;obtain⟨Y,rfl,g2⟩:=gw bn f2.2.1;unfold bg;have e:aE 79 [] ⟨a,b,c,d,aK 2 n::aK 2 Y::q,H,g,u,m,Q⟩=aY ⟨a,b,c,d,q,H,g,u,m,Q⟩ [jm (decide (n=1\/Y=1))]:=by unfold aE;rw[Mo];rfl
 rw[e];by_cases h:n=1
 ·rw[show decide (n=1\/Y=1)=true from by simp[h];try rfl];exact⟨iA _ _ 2 A 79 K _ [aK 2 n,aK 2 Y] q _ bn (by rw[Mo];rfl) ot (YW ⟨a,b,c,d,q,H,g,u,m,Q⟩ A K 2 n 0 [] [] [] [] 2 Y 0 [] [] [] [] h bT),cg (S:=⟨a,b,c,d,q,H,g,u,m,Q⟩) (fX (bC G) qy) hq⟩
 rw[show decide (n=1\/Y=1)=(Y==1)from by simp[h];try rfl];exact⟨iA _ _ 2 A 79 K _ [aK 2 n,aK 2 Y] q _ bn (by rw[Mo];rfl) ot (YX ⟨a,b,c,d,q,H,g,u,m,Q⟩ A K 2 n 0 [] [] [] [] 2 Y 0 [] [] [] [] h bT),cg (S:=⟨a,b,c,d,q,H,g,u,m,Q⟩) (fX (bC G) qy) hq⟩
def LS(S:bZ)(A:Int)(W:L UInt8)(M:L Nd)(V s:L Ty)(r:L Ty×Bool)(hf:bP 80 M=some V)(C:ew s S.st)(P:s.length<=340)(G:r.1.all br=true)(I:j9 80 V s=(r,0)):bg A W 80 M S/\bQ S r (aE 80 M S):=by
 obtain⟨a,b,c,d,st,H,g,u,m,Q⟩:=S;obtain⟨rfl,rfl⟩:=cK hf bn;have E:=bL C;simp only at C E;rcases s with _|⟨O,_|⟨N,s⟩⟩
 cases I;cases I;obtain⟨v,q0,rfl,J,B⟩:=aW C;obtain⟨w,q,rfl,hw,hq⟩:=aW B;have f1:=cQ J.1;have f2:=cQ hw.1;obtain⟨T,ts⟩:=O;obtain⟨D,Fc⟩:=N;simp only[aag]at E P;have U:(if T=6/\D=6 then gy (.mk D Fc::s)else bw 5)=(r,0):=I;split at U;rotate_left;cases U;rename_i c1;cases U;obtain⟨rfl,rfl⟩:=c1;obtain⟨Y,rfl,g1⟩:=zF f1.2.1;obtain⟨K,rfl,g2⟩:=zF f2.2.1;unfold bg;by_cases h:200<Y.length+K.length
 ·have e:aE 80 [] ⟨a,b,c,d,.mk 6 0 0 Y [] [] [] :: .mk 6 0 0 K [] [] []::q,H,g,u,m,Q⟩=(13,⟨a,b,c,d,q,H,g,u,m,Q⟩):=by unfold aE;rw[Fo];show(if 200<Y.length+K.length then((13,⟨a,b,c,d,q,H,g,u,m,Q⟩):MR)else aY ⟨a,b,c,d,q,H,g,u,m,Q⟩ [.mk 6 0 0 (Y++K) [] [] []])=_;rw[if_pos h]
  rw[e];exact⟨iA _ _ 2 A 80 W _ [.mk 6 0 0 Y [] [] [],.mk 6 0 0 K [] [] []] q _ bn (by rw[Fo];rfl) wX (VB ⟨a,b,c,d,q,H,g,u,m,Q⟩ A W 6 0 0 Y [] [] [] 6 0 0 K [] [] [] h ai bT),.inr (.inr Z)⟩
 have e:aE 80 [] ⟨a,b,c,d,.mk 6 0 0 Y [] [] [] :: .mk 6 0 0 K [] [] []::q,H,g,u,m,Q⟩=aY ⟨a,b,c,d,q,H,g,u,m,Q⟩ [.mk 6 0 0 (Y++K) [] [] []]:=by unfold aE;rw[Fo];show(if 200<Y.length+K.length then((13,⟨a,b,c,d,q,H,g,u,m,Q⟩):MR)else aY ⟨a,b,c,d,q,H,g,u,m,Q⟩ [.mk 6 0 0 (Y++K) [] [] []])=_;rw[if_neg h]
 rw[e];exact⟨iA _ _ 2 A 80 W _ [.mk 6 0 0 Y [] [] [],.mk 6 0 0 K [] [] []] q _ bn (by rw[Fo];rfl) wX (VC ⟨a,b,c,d,q,H,g,u,m,Q⟩ A W 6 0 0 Y [] [] [] 6 0 0 K [] [] [] h bT),cg (S:=⟨a,b,c,d,q,H,g,u,m,Q⟩) (fX (bC G) (Kb (by rw[aaZ];omega))) hq⟩
def Sk(a b:L UInt8) : -1<=fm a b/\fm a b<=1:=by unfold fm;repeat' split<;>(try omega)
mutual
def Pq:∀v w:Vl,-1<=dS v w/\dS v w<=1
 |.mk k n a s M V code,.mk k' T B O U Y W=>by
  have h1:=Kc M U;have h2:=Sk s O;have K:=zK n T;have S:=zK M.length U.length;unfold dS
  try dsimp only
  repeat' split
  all_goals assumption
def Kc:∀v w:L Vl,-1<=jY v w/\jY v w<=1
 |x::l,y::r=>by have h1:=Pq x y;have h2:=Kc l r;unfold jY;split<;>assumption
 |[],_=>by simp[jY]
 |_::_,[]=>by simp[jY]
end
def Pr{p:Int->Bool}:∀{l:L Ty}{x:Ty},qm p l=true->x∈l->vR p x=true
 |y::l,x,h,D=>by
  simp only[qm,aaN]at h;rcases List.mem_cons.1 D with rfl|D
  exact h.1;exact Pr h.2 D
def Vn(S:bZ)(A:Int)(K:L UInt8)(M:L Nd)(V s:L Ty)(r:L Ty×Bool)(hf:bP 73 M=some V)(C:ew s S.st)(hl:s.length<=340)(hg:r.1.all br=true)(I:j9 73 V s=(r,0)):bg A K 73 M S/\bQ S r (aE 73 M S):=by
 obtain⟨a,b,c,d,st,H,g,u,m,Q⟩:=S;obtain⟨rfl,rfl⟩:=cK hf bn;have E:=bL C;simp only at C E;rcases s with _|⟨W,_|⟨t2,s⟩⟩
 cases I;cases I;obtain⟨v,q0,rfl,N,qO⟩:=aW C;obtain⟨w,q,rfl,hw,hq⟩:=aW qO;have D:=cQ N.1;have f2:=cQ hw.1;simp only[aag]at E hl;have U:(if cV W t2=true/\gl W=true then gy (.mk 3 []::s)else bw 5)=(r,0):=I;split at U;rotate_left;cases U;rename_i c1;cases U;have et:=(gq _ _).1 c1.1;subst et;have T:=Cd v w W (nQ D.1) D.2.1 f2.2.1 (by have:=N.2;omega);have hrg:=Pq v w;unfold bg;have e:aE 73 [] ⟨a,b,c,d,v::w::q,H,g,u,m,Q⟩=aY ⟨a,b,c,d,q,H,g,u,m,Q⟩ [aK 3 (dS v w)]:=by unfold aE;rw[TL];rfl
 rw[e];obtain⟨J,P,G,B,O,an,aA⟩:=v;obtain⟨k2,n2,a2,s2,Y,aX,bK⟩:=w;exact⟨iA _ _ 2 A 73 K _ [_,_] q _ bn (by rw[TL];rfl) (by show List.length (Vl.mk J P G B O an aA::Vl.mk k2 n2 a2 s2 Y aX bK::q)<=_;simp only[aag];omega) (YT ⟨a,b,c,d,q,H,g,u,m,Q⟩ A K J P G B O an aA k2 n2 a2 s2 Y aX bK T bT),cg (S:=⟨a,b,c,d,q,H,g,u,m,Q⟩) (fX (bC hg) (jW bn gb (λh=>absurd Z h))) hq⟩
def aco(o:MR):Prop:=o.1=10/\vK o.2.said≠0/\aH o.2.said<=25000000
def abl{v:Vl}{t:Ty}(G:br t=true)(h:bE v t=true):vK v≠0:=by obtain⟨k,n,a,s,M,V,code⟩:=v;show k≠0;rintro rfl;simp[bE]at h
def R5(S:bZ)(A:Int)(K:L UInt8)(M:L Nd)(V s:L Ty)(r:L Ty×Bool)(hf:bP 83 M=some V)(C:ew s S.st)(I:s.length<=340)(G:j9 83 V s=(r,0)):bg A K 83 M S/\aco (aE 83 M S):=by
 obtain⟨a,b,c,d,st,H,g,u,m,Q⟩:=S;obtain⟨rfl,rfl⟩:=cK hf bn;have E:=bL C;simp only at C E;cases s with
 |nil=>cases G
 |cons t s =>
 obtain⟨v,q,rfl,N,hq⟩:=aW C;have D:=cQ N.1;simp only[aag]at E I;unfold bg;have e:aE 83 [] ⟨a,b,c,d,v::q,H,g,u,m,Q⟩=(10,⟨a,b,c,d,q,H,g,u,m,v⟩):=by unfold aE;rw[TQ];rfl
 rw[e];refine⟨?_,Z,abl D.1 D.2.1,N.2⟩;obtain⟨J,W,Y,U,O,T,P⟩:=v;exact iA _ _ 2 A 83 K _ [_] q _ bn (by rw[TQ];rfl) (by show List.length (Vl.mk J W Y U O T P::q)<=_;simp only[aag];omega) (VD ⟨a,b,c,d,q,H,g,u,m,Q⟩ A K J W Y U O T P bT)
def RR(S:bZ)(A:Int)(K:L UInt8)(M:L Nd)(V s:L Ty)(r:L Ty×Bool)(hf:bP 81 M=some V)(C:ew s S.st)(hl:s.length<=340)(hg:r.1.all br=true)(I:j9 81 V s=(r,0)):bg A K 81 M S/\bQ S r (aE 81 M S):=by
 obtain⟨a,b,c,d,st,H,g,u,m,Q⟩:=S;obtain⟨rfl,rfl⟩:=cK hf bn;have N:=bL C;simp only at C N;cases s with
 |nil=>cases I
 |cons t s =>
 obtain⟨v,q,rfl,G,hq⟩:=aW C;have D:=cQ G.1;simp only[aag]at N hl;have P:(if ig t=true then gy (.mk 6 []::s)else bw 5)=(r,0):=I;split at P;rotate_left;cases P;cases P;have hT:=QJ t v (nQ D.1) D.2.1 (by have:=G.2;omega);have e:aE 81 [] ⟨a,b,c,d,v::q,H,g,u,m,Q⟩=(if(wL v).2≠0 then((13,⟨a,b,c,d,q,H,g,u,m,Q⟩):MR)else aY ⟨a,b,c,d,q,H,g,u,m,Q⟩ [.mk 6 0 0 (wL v).1 [] [] []]):=by unfold aE;rw[Mp];rfl
 have B:(wL v).1.length<=200:=by unfold wL;split;grind;simp
 unfold bg;rw[e];generalize wL v=p at *;obtain⟨p1,p2⟩:=p;obtain⟨J,W,Y,U,O,E,T⟩:=v;by_cases h:p2=0;subst h;rw[if_neg (λh=>h Z)];exact⟨iA _ _ 2 A 81 K _ [_] q _ bn (by rw[Mp];rfl) T1 (Si ⟨a,b,c,d,q,H,g,u,m,Q⟩ A K J W Y U O E T p1 hT (by simp only at B;omega) bT),cg (S:=⟨a,b,c,d,q,H,g,u,m,Q⟩) (fX (bC hg) (Kb B)) hq⟩;rw[if_pos h];exact⟨iA _ _ 2 A 81 K _ [_] q _ bn (by rw[Mp];rfl) T1 (Sh ⟨a,b,c,d,q,H,g,u,m,Q⟩ A K J W Y U O E T p1 p2 hT h bT),.inr (.inr Z)⟩
mutual
def HG:∀(v:Vl)(t:Ty),nF t->bE v t=true->ig t=true->eU v=true
 |.mk k n a s M V code,.mk T ts,ok,h,Y=>by
  have W:=Ej M;have hR:=Ek M;have C:M.length=0->ej M=true:=λh=>by rw[List.length_eq_zero_iff.1 h];rfl
  have N:=uK ok;simp only[ig,vR,aaN]at Y;have U:∀x∈ts,ig x=true:=λx D=>Pr Y.2 D;unfold bE at h;by_cases S:k≠dD (.mk T ts)\/cA (.mk k n a s M V code)=false\/200<s.length;rw[if_pos S]at h;cases h;rw[if_neg S]at h;have hp:cA (.mk k n a s M V code)=true:=by
   cases hq:cA (.mk k n a s M V code)with
   |true=>rfl
   |false=>exact absurd (.inr (.inl hq)) S
  have A:k=T:=agq λO=>S (.inl O);subst A;clear S;have d1:∀{p q:Prop}[Decidable (p/\q)],decide (p/\q)=true->q:=λh=>(aeR h).2;have K:k≠14:=by rintro rfl;exact absurd Y.1 bn
  have G:k≠15:=by rintro rfl;exact absurd Y.1 bn
  have E:k≠8:=by rintro rfl;exact absurd Y.1 bn
  suffices B:ej M=true by simpa[eU,K]using B
  by_cases u:k=1\/k=6;rw[if_pos u]at h;exact C (aeR h).2;rw[if_neg u]at h;by_cases J:k=2;rw[if_pos J]at h;exact C (aeR h).2.2;rw[if_neg J]at h;by_cases I:k=3;rw[if_pos I]at h;exact C (aeR h).2.2;rw[if_neg I]at h;by_cases c4:k=4\/k=5;rw[if_pos c4]at h;exact C (aeR h).2.2;rw[if_neg c4]at h;by_cases H:k=7;rw[if_pos H]at h;exact C (aeR h).2.2;rw[if_neg H]at h;by_cases P:k=9;rw[if_pos P,aaN]at h;subst P;obtain⟨x,rfl,D⟩:=fN ok bn;exact W x D h.2 (U x cc);rw[if_neg P]at h;by_cases CA:k=10;rw[if_pos CA,aaN]at h;subst CA;obtain⟨x,rfl,D⟩:=fN ok bn;exact W x D h.2 (U x cc);rw[if_neg CA]at h;by_cases EJ:k=11;rw[if_pos EJ,aaN]at h;subst EJ;have z:=N.1;rw[show arity 11=2 from by decide]at z;exact hR ts (λx D=>N.2 x D) h.2 Yk U;rw[if_neg EJ]at h;by_cases EK:k=12
  ·rw[if_pos EK,aaN]at h;subst EK;obtain⟨x,y,rfl,D,Q⟩:=fE ok bn;have hn:=aeR h.1;rcases(show n=0\/n=1 by omega)with rfl|rfl
   exact W x D h.2 (U x cc);exact W y Q h.2 (U y cc)
  rw[if_neg EK]at h;by_cases EL:k=13;rw[if_pos EL,aaN,aaN]at h;subst EL;exact W _ (BG ok bn) h.1.2 (by simp only[ig,vR,Y.2,agO];decide);rw[if_neg EL,if_neg K,if_neg G,if_neg E]at h;cases h
def Ej:∀(l:L Vl)(t:Ty),nF t->aL l t=true->ig t=true->ej l=true
 |[],_,_,_,_=>rfl
 |x::l,t,ok,h,Y=>by simp only[aL,aaN]at h;simp only[ej,aaN];exact⟨HG x t ok h.1 Y,Ej l t ok h.2 Y⟩
def Ek:∀(l:L Vl)(r:L Ty),(∀x∈r,nF x)->dA l r=true->l.length<=r.length->(∀x∈r,ig x=true)->ej l=true
 |[],_,_,_,_,_=>rfl
 |x::l,[],_,_,h,_=>by simp at h
 |x::l,t::r,ok,h,hl,Y=>by simp only[dA,aaN]at h;simp only[ej,aaN];exact⟨HG x t (ok t cc) h.1 (Y t cc),Ek l r (λy Q=>ok y (by simp[Q])) h.2 (by simpa using hl) (λy Q=>Y y (by simp[Q]))⟩
end
def Pt{t:Ty}{n:Nd}(h:(gJ t n).2=0)(Y:ig t=true):br t=true/\bE (gJ t n).1 t=true/\eU (gJ t n).1=true:=by have h1:=(CN h).1;unfold oA at h1;rw[aaN]at h1;exact⟨h1.1,h1.2,HG _ t (cF h1.1) h1.2 Y⟩
def abm{P:Int}{M:L Nd}{V:L Ty}(h:bP P M=some V)(C:gH P=[116,118]):∃x y,M=[x,y]/\(aJ x).2=0/\V=[(aJ x).1]:=by
 obtain⟨h1,h2⟩:=lu h;rw[C]at h1 h2;rcases M with _|⟨x,_|⟨y,_|⟨z,r⟩⟩⟩
 simp at h1;simp at h1;obtain⟨Y,N,p,q,xs⟩:=x;obtain⟨W,T,S,Q,U⟩:=y;have K:(if(aJ (.mk Y N p q xs)).2=0 then some ([]++[(aJ (.mk Y N p q xs)).1])else none)=some V:=h2;split at K;simp_all;cases K;simp at h1
def TR:bY 45=0:=by decide +kernel
def R4(S:bZ)(A:Int)(K:L UInt8)(M:L Nd)(I:aO M<=8589934593)(V s:L Ty)(r:L Ty×Bool)(hf:bP 45 M=some V)(C:ew s S.st)(O:s.length<=340)(G:r.1.all br=true)(T:(if(gJ (V.getD 0 lJ) (M.getD 1 vw)).2=0/\ig (V.getD 0 lJ)=true then gy (V.getD 0 lJ::s)else bw 5)=(r,0)):bg A K 45 M S/\bQ S r (aE 45 M S):=by
 obtain⟨a,b,c,d,q,H,g,u,m,Q⟩:=S;obtain⟨x,y,rfl,D,rfl⟩:=abm hf bn;have E:=bL C;simp only at C E;have Y:(if(gJ (aJ x).1 y).2=0/\ig (aJ x).1=true then gy ((aJ x).1::s)else bw 5)=(r,0):=T;split at Y;rotate_left;cases Y;rename_i W;cases Y;have U:=Pt W.1 W.2;have P:=zh (aJ x).1 y;simp only[aO]at I;unfold bg;have e:aE 45 [x,y] ⟨a,b,c,d,q,H,g,u,m,Q⟩=aY ⟨a,b,c,d,q,H,g,u,m,Q⟩ [(gJ (aJ x).1 y).1]:=by unfold aE;rw[TR];rfl
 rw[e];exact⟨jX _ _ 2 A 45 K _ [] q _ bn (by rw[TR];rfl) bT (Ri ⟨a,b,c,d,q,H,g,u,m,Q⟩ A K x y ai ai W.1 ai bT),cg (S:=⟨a,b,c,d,q,H,g,u,m,Q⟩) (fX U.1 U.2) C⟩
def Pu{t:Ty}{s:L UInt8}(Y:ig t=true)(h:(iK t s).2=0):aH (iK t s).1<=60300/\bE (iK t s).1 t=true/\eU (iK t s).1=true:=by
 cases s with
 |nil=>cases h
 |cons c r =>
  by_cases K:c=5/\(c::r).length<=200/\ig t=true/\(fJ r).2=0;have e:iK t (c::r)=gJ t (fJ r).1:=if_pos K;rw[e]at h ⊢;have h1:=Pt h Y;have h2:=A4 (CN h).2.1;exact⟨afC (zh _ _) h2,h1.2⟩;have e:iK t (c::r)=(lC,1):=if_neg K;rw[e]at h;cases h
def LU(S:bZ)(A:Int)(K:L UInt8)(M:L Nd)(O:aO M<=8589934593)(V s:L Ty)(r:L Ty×Bool)(hf:bP 82 M=some V)(C:ew s S.st)(N:s.length<=340)(G:r.1.all br=true)(I:j9 82 V s=(r,0)):bg A K 82 M S/\bQ S r (aE 82 M S):=by
 obtain⟨a,b,c,d,st,H,g,u,m,Q⟩:=S;obtain⟨x,rfl,hx,rfl⟩:=Dw hf bn;have E:=bL C;simp only at C E;cases s with
 |nil=>cases I
 |cons t s =>
 obtain⟨v,q,rfl,J,hq⟩:=aW C;have D:=cQ J.1;obtain⟨T,ts⟩:=t;simp only[aag]at E N;have W:(if T=6/\ig (aJ x).1=true then gy (.mk 9 [(aJ x).1]::s)else bw 5)=(r,0):=I;split at W;rotate_left;cases W;rename_i c1;cases W;obtain⟨rfl,pk⟩:=c1;obtain⟨Y,rfl,g1⟩:=zF D.2.1;simp only[aO]at O;unfold bg;have e:aE 82 [x] ⟨a,b,c,d,.mk 6 0 0 Y [] [] []::q,H,g,u,m,Q⟩=(if(iK (aJ x).1 Y).2≠0 then aY ⟨a,b,c,d,q,H,g,u,m,Q⟩ [cD []]else aY ⟨a,b,c,d,q,H,g,u,m,Q⟩ [cD [(iK (aJ x).1 Y).1]]):=by unfold aE;rw[Mq];rfl
 rw[e];have hU:=λh=>Pu (t:=(aJ x).1) (s:=Y) pk h;generalize B:iK (aJ x).1 Y=p at *;obtain⟨U,P⟩:=p;by_cases h:P=0;subst h;obtain⟨z1,z2⟩:=hU rfl;rw[if_neg (λh=>h Z)];exact⟨iA _ _ 2 A 82 K _ [_] q _ bn (by rw[Mq];rfl) Te (YZ ⟨a,b,c,d,q,H,g,u,m,Q⟩ A K 6 0 0 Y [] [] [] x ai U B (by simp only at z1;omega) bT),cg (S:=⟨a,b,c,d,q,H,g,u,m,Q⟩) (fX (bC G) (jK z2)) hq⟩;rw[if_pos h];exact⟨iA _ _ 2 A 82 K _ [_] q _ bn (by rw[Mq];rfl) Te (YY ⟨a,b,c,d,q,H,g,u,m,Q⟩ A K 6 0 0 Y [] [] [] x ai U P B h bT),cg (S:=⟨a,b,c,d,q,H,g,u,m,Q⟩) (fX (bC G) oO) hq⟩
abbrev jb(S:bZ)(F:iR)(t:List iR):bZ:={S with fr:={F with pos:=F.pos+1}::t}
inductive ou:Nat->bZ->MR->Prop
 |done {k:Nat} {S:bZ} (h:S.fr=[]):ou (k+1) S (0,S)
 |fin {k:Nat} {S S':bZ} {F:iR} {t:List iR} {e:Int} {r:MR} (h:S.fr=F::t) (hp:F.pos=F.code.length) (ht:t.length<=1000000000) (hc:cH 106 S [.ptr 1000002 (0+t.length*4)] (ag e) S') (he:e≠0->r=(e,S')) (hk:e=0->ou k S' r):ou (k+1) S r
 |seq {k:Nat} {S:bZ} {F:iR} {t:List iR} {N P:Int} {s:List UInt8} {args:List Nd} {r:MR} (h:S.fr=F::t) (hp:F.code[F.pos]?=some (.mk 3 N P s args)) (ht:t.length<=1000000000) (hl:F.code.length<=8589934593) (hk:ou k (ee (jb S F t) args 0 []) r):ou (k+1) S r
 |agd {k:Nat} {S:bZ} {F:iR} {t:List iR} {N P:Int} {s:List UInt8} {args:List Nd} (h:S.fr=F::t) (hp:F.code[F.pos]?=some (.mk 2 N P s args)) (ht:t.length<=1000000000) (hl:F.code.length<=8589934593) (hg:S.bU<=S.used):ou (k+1) S (12,jb S F t)
 |step {k:Nat} {S S':bZ} {F:iR} {t:List iR} {N P:Int} {s:List UInt8} {args:List Nd} {e:Int} {r:MR} (h:S.fr=F::t) (hp:F.code[F.pos]?=some (.mk 2 N P s args)) (ht:t.length<=1000000000) (hl:F.code.length<=8589934593) (hg:S.used<S.bU) (hi:Tl S.bU) (hu:0<=S.used)
   (hc:cH 109 {jb S F t with used:=S.used+1} [.c (aM (.mk 2 N P s args))] (ag e) S') (he:e≠0->r=(e,S')) (hk:e=0->ou k S' r):ou (k+1) S r
attribute [local irreducible] AK ah aR bM cn cX
def Qt(k:Nat)(S:bZ)(r:MR)(M:ou k S r):cH 85 S [] (ag r.1) r.2:=by
 refine mn func85 call85 λβ hf=>?_;refine dnm ?_;refine AK.fY [(1000000,1000000),(3001,1000001),(3002,1000002)] [] (env':=[(0,.ptr 1000000 0)]) (bs':=[(1000000,mC S 3001 3002),(3001,ak (sR S.st)),(3002,ak (fR S.fr))]) (ts':=[]) (us':=[1000000,3001,3002]) ce (cvB Z Z Z Z Z Z Z Z Z) Z ?_;refine AK.dN (α:=Nat×bZ) (λz=>ou z.1 z.2 r) (λz=>z.1) (λ_=>[(0,.ptr 1000000 0)]) (λz=>[(1000000,mC z.2 3001 3002),(3001,ak (sR z.2.st)),(3002,ak (fR z.2.fr))]) (λ_=>[]) [1000000,3001,3002] (k,S)
  M ⟨.inl Z,trivial⟩ ⟨Z,Z,Z,trivial⟩ trivial Z (adV S Z Z Z) Z ?_
 rintro⟨q,T⟩ A ih;simp only at A;clear M;cases A with
 |done h =>
  obtain⟨a,b,c,d,O,H,g,u,m,Q⟩:=T;simp only at h;subst h;clear ih;exact dm
 |@fin k1 _ S' F t e _ h hp ht hc he hk =>
  obtain⟨a,b,c,d,O,H,g,u,m,Q⟩:=T;obtain⟨code,Y,fin,I⟩:=F;simp only at *;subst h;have C:=A6 ⟨code,Y,fin,I⟩ t;have h1:=TS ⟨code,Y,fin,I⟩ t;have M:i64.wrap (((((⟨code,Y,fin,I⟩:iR)::t).length:Nat):Int)-1)=(t.length:Nat):=by rw[iB cS cS];simp only[aag];omega
  have K:decide (((((⟨code,Y,fin,I⟩:iR)::t).length:Nat):Int)>0)=true:=aaX cS;subst hp;have B:=aZ code;have J:((code.length:Int)==(((aD code).length:Nat):Int))=true:=beq_iff_eq.2 ai;by_cases W:e=0
  ·have E:(e != 0)=false:=(by simpa using W);replace hk:=hk W;clear he
   repeat' (first|refine o9 ?_|refine zc ?_ ?_|(intro h;first|(cases h;done)|rw[h]|skip)|refine AK.skip ?_|refine AK.seq ?_|refine AK.block ?_|refine AK.exit Z ?_|refine ah.dj hX kn Z Z Z Z Z Z C Z ?_|refine ah.dj hX kn Z Z Z Z Z Z h1 Z ?_|refine ah.jU hX kn Z Z Z Z Z Z Z Z Z t.length M (afo _) ?_|refine v8 ?_ (hq:=hc))
   refine AK.fY [(1000000,1000000),(3001,100037),(3002,200037)] [] (env':=[(0,.ptr 1000000 0)]) (bs':=[(1000000,mC S' 3001 3002),(3001,ak (sR (S').st)),(3002,ak (fR (S').fr))]) (ts':=[]) (us':=[1000000,3001,3002]) ce (cvB Z Z Z Z Z Z Z Z Z) Z ?_;exact ih (_,S') (hk) (afo _)
  have E:(e != 0)=true:=by simpa using W
  obtain rfl:=he W;clear ih he hk
  repeat' (first|refine o9 ?_|refine zc ?_ ?_|(intro h;first|(cases h;done)|rw[h]|skip)|refine AK.skip ?_|refine AK.seq ?_|refine AK.block ?_|refine AK.exit Z ?_|refine ah.dj hX kn Z Z Z Z Z Z C Z ?_|refine ah.dj hX kn Z Z Z Z Z Z h1 Z ?_|refine ah.jU hX kn Z Z Z Z Z Z Z Z Z t.length M (afo _) ?_|refine v8 ?_ (hq:=hc))
  all_goals rfl
 |@seq k1 _ F t N P s args _ h hp ht hl hk =>
  obtain⟨a,b,c,d,O,H,g,u,m,Q⟩:=T;obtain⟨code,Y,fin,I⟩:=F;simp only at *;subst h;have C:=A6 ⟨code,Y,fin,I⟩ t;have h1:=TS ⟨code,Y,fin,I⟩ t;have M:i64.wrap (((((⟨code,Y,fin,I⟩:iR)::t).length:Nat):Int)-1)=(t.length:Nat):=by rw[iB cS cS];simp only[aag];omega
  have K:decide (((((⟨code,Y,fin,I⟩:iR)::t).length:Nat):Int)>0)=true:=aaX cS;have G:=(List.getElem?_eq_some_iff.1 hp).1;have B:=aZ code;have J:((Y:Int)==(((aD code).length:Nat):Int))=false:=beq_eq_false_iff_ne.2 ai;have U:=eK hp;have hq:bG (0+t.length*4+1) [.c (ag (i64.wrap ((Y:Int)+1)))] (ak (fR (⟨code,Y,fin,I⟩::t)))=some (ak (fR (⟨code,Y+1,fin,I⟩::t))):=by rw[iB ai ai];exact G4 ⟨code,Y,fin,I⟩ t (Y+1)
  have D:=iM ⟨a,b,c,d,O,⟨code,Y+1,fin,I⟩::t,g,u,m,Q⟩ args 0 cS
  repeat' (first|refine o9 ?_|refine zc ?_ ?_|(intro h;first|(cases h;done)|rw[h]|skip)|refine AK.skip ?_|refine AK.seq ?_|refine AK.block ?_|refine AK.exit Z ?_|refine ah.dj hX kn Z Z Z Z Z Z C Z ?_|refine ah.dj hX kn Z Z Z Z Z Z h1 Z ?_|refine ah.jU hX kn Z Z Z Z Z Z Z Z Z t.length M (afo _) ?_|refine uI Z Y Z U Z ?_|refine ah.store hX kn Z Z Z Z Z Z Z Z Z hq Z ?_|refine v8 ?_ (hq:=D))
  refine AK.fY [(1000000,1000000),(3001,100064),(3002,200064)] [] (env':=[(0,.ptr 1000000 0)]) (bs':=[(1000000,mC (ee ⟨a,b,c,d,O,⟨code,Y+1,fin,I⟩::t,g,u,m,Q⟩ args 0 []) 3001 3002),(3001,ak (sR ((ee ⟨a,b,c,d,O,⟨code,Y+1,fin,I⟩::t,g,u,m,Q⟩ args 0 [])).st)),(3002,ak (fR ((ee ⟨a,b,c,d,O,⟨code,Y+1,fin,I⟩::t,g,u,m,Q⟩ args 0 [])).fr))]) (ts':=[]) (us':=[1000000,3001,3002]) ce (cvB Z Z Z Z Z Z Z Z Z) Z ?_;exact ih (_,(ee ⟨a,b,c,d,O,⟨code,Y+1,fin,I⟩::t,g,u,m,Q⟩ args 0 [])) (hk) (afo _)
 |@agd k1 _ F t N P s args h hp ht hl hg =>
  obtain⟨a,b,c,d,O,H,g,u,m,Q⟩:=T;obtain⟨code,Y,fin,I⟩:=F;simp only at *;subst h;have C:=A6 ⟨code,Y,fin,I⟩ t;have h1:=TS ⟨code,Y,fin,I⟩ t;have M:i64.wrap (((((⟨code,Y,fin,I⟩:iR)::t).length:Nat):Int)-1)=(t.length:Nat):=by rw[iB cS cS];simp only[aag];omega
  have K:decide (((((⟨code,Y,fin,I⟩:iR)::t).length:Nat):Int)>0)=true:=aaX cS;have G:=(List.getElem?_eq_some_iff.1 hp).1;have B:=aZ code;have J:((Y:Int)==(((aD code).length:Nat):Int))=false:=beq_eq_false_iff_ne.2 ai;have U:=eK hp;have hq:bG (0+t.length*4+1) [.c (ag (i64.wrap ((Y:Int)+1)))] (ak (fR (⟨code,Y,fin,I⟩::t)))=some (ak (fR (⟨code,Y+1,fin,I⟩::t))):=by rw[iB ai ai];exact G4 ⟨code,Y,fin,I⟩ t (Y+1)
  have V:=adW ⟨a,b,c,d,O,⟨code,Y+1,fin,I⟩::t,g,u,m,Q⟩ hg;clear ih
  repeat' (first|refine o9 ?_|refine zc ?_ ?_|(intro h;first|(cases h;done)|rw[h]|skip)|refine AK.skip ?_|refine AK.seq ?_|refine AK.block ?_|refine AK.exit Z ?_|refine ah.dj hX kn Z Z Z Z Z Z C Z ?_|refine ah.dj hX kn Z Z Z Z Z Z h1 Z ?_|refine ah.jU hX kn Z Z Z Z Z Z Z Z Z t.length M (afo _) ?_|refine uI Z Y Z U Z ?_|refine ah.store hX kn Z Z Z Z Z Z Z Z Z hq Z ?_|refine v8 ?_ (hq:=V))
  all_goals rfl
 |@step k1 _ S' F t N P s args e _ h hp ht hl hg hi hu hc he hk =>
  obtain⟨a,b,c,d,O,H,g,u,m,Q⟩:=T;obtain⟨code,Y,fin,I⟩:=F;simp only at *;subst h;have C:=A6 ⟨code,Y,fin,I⟩ t;have h1:=TS ⟨code,Y,fin,I⟩ t;have M:i64.wrap (((((⟨code,Y,fin,I⟩:iR)::t).length:Nat):Int)-1)=(t.length:Nat):=by rw[iB cS cS];simp only[aag];omega
  have K:decide (((((⟨code,Y,fin,I⟩:iR)::t).length:Nat):Int)>0)=true:=aaX cS;have G:=(List.getElem?_eq_some_iff.1 hp).1;have B:=aZ code;have J:((Y:Int)==(((aD code).length:Nat):Int))=false:=beq_eq_false_iff_ne.2 ai;have U:=eK hp;have hq:bG (0+t.length*4+1) [.c (ag (i64.wrap ((Y:Int)+1)))] (ak (fR (⟨code,Y,fin,I⟩::t)))=some (ak (fR (⟨code,Y+1,fin,I⟩::t))):=by rw[iB ai ai];exact G4 ⟨code,Y,fin,I⟩ t (Y+1)
  have V:=adX ⟨a,b,c,d,O,⟨code,Y+1,fin,I⟩::t,g,u,m,Q⟩ hg hi hu;by_cases W:e=0
  ·have E:(e != 0)=false:=(by simpa using W);replace hk:=hk W;clear he
   repeat' (first|refine o9 ?_|refine zc ?_ ?_|(intro h;first|(cases h;done)|rw[h]|skip)|refine AK.skip ?_|refine AK.seq ?_|refine AK.block ?_|refine AK.exit Z ?_|refine ah.dj hX kn Z Z Z Z Z Z C Z ?_|refine ah.dj hX kn Z Z Z Z Z Z h1 Z ?_|refine ah.jU hX kn Z Z Z Z Z Z Z Z Z t.length M (afo _) ?_|refine uI Z Y Z U Z ?_|refine ah.store hX kn Z Z Z Z Z Z Z Z Z hq Z ?_|refine v8 ?_ (hq:=V)|refine v8 ?_ (hq:=hc))
   refine AK.fY [(1000000,1000000),(3001,100075),(3002,200075)] [] (env':=[(0,.ptr 1000000 0)]) (bs':=[(1000000,mC S' 3001 3002),(3001,ak (sR (S').st)),(3002,ak (fR (S').fr))]) (ts':=[]) (us':=[1000000,3001,3002]) ce (cvB Z Z Z Z Z Z Z Z Z) Z ?_;exact ih (_,S') (hk) (afo _)
  have E:(e != 0)=true:=by simpa using W
  obtain rfl:=he W;clear ih he hk
  repeat' (first|refine o9 ?_|refine zc ?_ ?_|(intro h;first|(cases h;done)|rw[h]|skip)|refine AK.skip ?_|refine AK.seq ?_|refine AK.block ?_|refine AK.exit Z ?_|refine ah.dj hX kn Z Z Z Z Z Z C Z ?_|refine ah.dj hX kn Z Z Z Z Z Z h1 Z ?_|refine ah.jU hX kn Z Z Z Z Z Z Z Z Z t.length M (afo _) ?_|refine uI Z Y Z U Z ?_|refine ah.store hX kn Z Z Z Z Z Z Z Z Z hq Z ?_|refine v8 ?_ (hq:=V)|refine v8 ?_ (hq:=hc))
  all_goals rfl
end Go.Proofs
