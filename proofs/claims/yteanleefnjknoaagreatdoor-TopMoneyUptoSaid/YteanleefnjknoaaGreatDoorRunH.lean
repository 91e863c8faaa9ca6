/- Package run: -/
import Derived.Test.YteanleefnjknoaaGreatDoorRunW
import Derived.Test.YteanleefnjknoaaGreatDoorRunU
set_option maxRecDepth 100000
open Go.IntKind
open Go.Proofs.Tryz
set_option linter.defProp false
set_option maxHeartbeats 0
set_option linter.unusedVariables false
set_option linter.unusedSimpArgs false
namespace Go.Proofs
open Go.cK
def yo{v:Vl}{ts:L Ty}(h:bL v (.mk 6 ts)=true):∃s,v = .mk 6 0 0 s [] [] []/\s.length<=200:=by
 obtain⟨k,n,a,s,J,B,code⟩:=v;obtain⟨D,Y,E⟩:=iS h;simp only[bS]at D;subst D;simp[cz]at Y;obtain⟨rfl,rfl,rfl,rfl,rfl⟩:=Y;exact⟨s,Z,E⟩
def IY{s:L UInt8}{ts:L Ty}(h:s.length<=200):bL (.mk 6 0 0 s [] [] []) (.mk 6 ts)=true/\eP (.mk 6 0 0 s [] [] [])=true:=by
 simp[bL,cz,bS,eP,eg];omega
def pI{b:Bool}{ts:L Ty}:bL (iZ b) (.mk 2 ts)=true/\eP (iZ b)=true:=by
 cases b
 ·exact nV (.inl ⟨Z,bT,bT⟩)
 ·exact nV (.inl ⟨Z,bT,bT⟩)
def Sg:cr 73=2:=by decide +kernel
def Sh:cr 74=1:=by decide +kernel
def Si:cr 75=1:=by decide +kernel
def Sj:cr 76=1:=by decide +kernel
def Sk:cr 77=1:=by decide +kernel
def KW:cr 78=2:=by decide +kernel
def KX:cr 79=2:=by decide +kernel
def Ee:cr 80=2:=by decide +kernel
def KY:cr 81=1:=by decide +kernel
def KZ:cr 82=1:=by decide +kernel
def Sl:cr 83=1:=by decide +kernel
def NV(S:ct)(Y:Int)(A:L UInt8)(J:L Nd)(B s:L Ty)(r:L Ty×Bool)(hf:bW 74 J=some B)(G:ep s S.st)(E:s.length<=340)(p:r.1.all bB=true)(W:cx 74 B s=(r,0)):bh Y A 74 J S/\bY S r (aJ 74 J S):=by
 obtain⟨a,b,c,d,st,H,g,u,m,U⟩:=S;obtain⟨rfl,rfl⟩:=cQ hf bT;have V:=bP G;simp only at G V;cases s with
 |nil=>cases W
 |cons t s =>
 obtain⟨v,q,rfl,M,hq⟩:=bl G;have P:=cW M.1;obtain⟨T,ts⟩:=t;simp only[aac]at V E;have N:(if T=3 then eT (.mk 2 []::s)else aR 5)=(r,0):=W;split at N;rotate_left
 ·cases N
 rename_i Q;cases N;subst Q;obtain⟨n,rfl,g1⟩:=gl bT P.2.1;unfold bh;have e:aJ 74 [] ⟨a,b,c,d,aQ 3 n::q,H,g,u,m,U⟩=bq ⟨a,b,c,d,q,H,g,u,m,U⟩ [iZ (n==0)]:=by unfold aJ;rw[Sh];rfl
 rw[e];exact⟨ie _ _ 2 Y 74 A _ [aQ 3 n] q _ bT (by rw[Sh];rfl) j0 (Zs ⟨a,b,c,d,q,H,g,u,m,U⟩ Y A 3 n 0 [] [] [] [] cc),cu (S:=⟨a,b,c,d,q,H,g,u,m,U⟩) (fU (bK p) pI) hq⟩
def NW(S:ct)(Y:Int)(A:L UInt8)(J:L Nd)(B s:L Ty)(r:L Ty×Bool)(hf:bW 75 J=some B)(G:ep s S.st)(E:s.length<=340)(p:r.1.all bB=true)(W:cx 75 B s=(r,0)):bh Y A 75 J S/\bY S r (aJ 75 J S):=by
 obtain⟨a,b,c,d,st,H,g,u,m,U⟩:=S;obtain⟨rfl,rfl⟩:=cQ hf bT;have V:=bP G;simp only at G V;cases s with
 |nil=>cases W
 |cons t s =>
 obtain⟨v,q,rfl,M,hq⟩:=bl G;have P:=cW M.1;obtain⟨T,ts⟩:=t;simp only[aac]at V E;have N:(if T=3 then eT (.mk 2 []::s)else aR 5)=(r,0):=W;split at N;rotate_left
 ·cases N
 rename_i Q;cases N;subst Q;obtain⟨n,rfl,g1⟩:=gl bT P.2.1;unfold bh;have e:aJ 75 [] ⟨a,b,c,d,aQ 3 n::q,H,g,u,m,U⟩=bq ⟨a,b,c,d,q,H,g,u,m,U⟩ [iZ (decide (n<0))]:=by unfold aJ;rw[Si];rfl
 rw[e];exact⟨ie _ _ 2 Y 75 A _ [aQ 3 n] q _ bT (by rw[Si];rfl) j0 (Zt ⟨a,b,c,d,q,H,g,u,m,U⟩ Y A 3 n 0 [] [] [] [] cc),cu (S:=⟨a,b,c,d,q,H,g,u,m,U⟩) (fU (bK p) pI) hq⟩
def NX(S:ct)(Y:Int)(A:L UInt8)(J:L Nd)(B s:L Ty)(r:L Ty×Bool)(hf:bW 76 J=some B)(G:ep s S.st)(E:s.length<=340)(p:r.1.all bB=true)(W:cx 76 B s=(r,0)):bh Y A 76 J S/\bY S r (aJ 76 J S):=by
 obtain⟨a,b,c,d,st,H,g,u,m,U⟩:=S;obtain⟨rfl,rfl⟩:=cQ hf bT;have V:=bP G;simp only at G V;cases s with
 |nil=>cases W
 |cons t s =>
 obtain⟨v,q,rfl,M,hq⟩:=bl G;have P:=cW M.1;obtain⟨T,ts⟩:=t;simp only[aac]at V E;have N:(if T=3 then eT (.mk 2 []::s)else aR 5)=(r,0):=W;split at N;rotate_left
 ·cases N
 rename_i Q;cases N;subst Q;obtain⟨n,rfl,g1⟩:=gl bT P.2.1;unfold bh;have e:aJ 76 [] ⟨a,b,c,d,aQ 3 n::q,H,g,u,m,U⟩=bq ⟨a,b,c,d,q,H,g,u,m,U⟩ [iZ (decide (n>0))]:=by unfold aJ;rw[Sj];rfl
 rw[e];exact⟨ie _ _ 2 Y 76 A _ [aQ 3 n] q _ bT (by rw[Sj];rfl) j0 (Zu ⟨a,b,c,d,q,H,g,u,m,U⟩ Y A 3 n 0 [] [] [] [] cc),cu (S:=⟨a,b,c,d,q,H,g,u,m,U⟩) (fU (bK p) pI) hq⟩
def TY(S:ct)(Y:Int)(A:L UInt8)(J:L Nd)(B s:L Ty)(r:L Ty×Bool)(hf:bW 77 J=some B)(G:ep s S.st)(E:s.length<=340)(p:r.1.all bB=true)(W:cx 77 B s=(r,0)):bh Y A 77 J S/\bY S r (aJ 77 J S):=by
 obtain⟨a,b,c,d,st,H,g,u,m,U⟩:=S;obtain⟨rfl,rfl⟩:=cQ hf bT;have V:=bP G;simp only at G V;cases s with
 |nil=>cases W
 |cons t s =>
 obtain⟨v,q,rfl,M,hq⟩:=bl G;have P:=cW M.1;obtain⟨T,ts⟩:=t;simp only[aac]at V E;have N:(if T=2 then eT (.mk T ts::s)else aR 5)=(r,0):=W;split at N;rotate_left
 ·cases N
 rename_i Q;cases N;subst Q;obtain⟨n,rfl,g1⟩:=gl bT P.2.1;unfold bh;have e:aJ 77 [] ⟨a,b,c,d,aQ 2 n::q,H,g,u,m,U⟩=bq ⟨a,b,c,d,q,H,g,u,m,U⟩ [iZ (n==0)]:=by unfold aJ;rw[Sk];rfl
 rw[e];exact⟨ie _ _ 2 Y 77 A _ [aQ 2 n] q _ bT (by rw[Sk];rfl) (by show List.length (aQ 2 n::q)<=_;simp only[aac];omega) (Zv ⟨a,b,c,d,q,H,g,u,m,U⟩ Y A 2 n 0 [] [] [] [] cc),cu (S:=⟨a,b,c,d,q,H,g,u,m,U⟩) (fU (bK p) pI) hq⟩
def TZ(S:ct)(Y:Int)(A:L UInt8)(J:L Nd)(B s:L Ty)(r:L Ty×Bool)(hf:bW 78 J=some B)(G:ep s S.st)(E:s.length<=340)(p:r.1.all bB=true)(W:cx 78 B s=(r,0)):bh Y A 78 J S/\bY S r (aJ 78 J S):=by
 obtain⟨a,b,c,d,st,H,g,u,m,U⟩:=S;obtain⟨rfl,rfl⟩:=cQ hf bT;have V:=bP G;simp only at G V;rcases s with _|⟨P,_|⟨O,s⟩⟩
 ·cases W
 ·cases W
 obtain⟨v,q0,rfl,M,K⟩:=bl G;obtain⟨w,q,rfl,I,hq⟩:=bl K;have C:=cW M.1;have f2:=cW I.1;obtain⟨T,ts⟩:=P;obtain⟨Q,D1⟩:=O;simp only[aac]at V E;have N:(if T=2/\Q=2 then eT (.mk Q D1::s)else aR 5)=(r,0):=W;split at N;rotate_left
 ·cases N
 rename_i c1;cases N;obtain⟨rfl,rfl⟩:=c1;obtain⟨n,rfl,g1⟩:=gl bT C.2.1;obtain⟨D,rfl,g2⟩:=gl bT f2.2.1;unfold bh;have e:aJ 78 [] ⟨a,b,c,d,aQ 2 n::aQ 2 D::q,H,g,u,m,U⟩=bq ⟨a,b,c,d,q,H,g,u,m,U⟩ [iZ (decide (n=1/\D=1))]:=by unfold aJ;rw[KW];rfl
 rw[e];by_cases h:n=1
 ·rw[show decide (n=1/\D=1)=(D==1)from by simp[h];try rfl];exact⟨ie _ _ 2 Y 78 A _ [aQ 2 n,aQ 2 D] q _ bT (by rw[KW];rfl) oe (Xm ⟨a,b,c,d,q,H,g,u,m,U⟩ Y A 2 n 0 [] [] [] [] 2 D 0 [] [] [] [] h cc),cu (S:=⟨a,b,c,d,q,H,g,u,m,U⟩) (fU (bK p) pI) hq⟩
 ·rw[show decide (n=1/\D=1)=false from by simp[h];try rfl];exact⟨ie _ _ 2 Y 78 A _ [aQ 2 n,aQ 2 D] q _ bT (by rw[KW];rfl) oe (Xn ⟨a,b,c,d,q,H,g,u,m,U⟩ Y A 2 n 0 [] [] [] [] 2 D 0 [] [] [] [] h cc),cu (S:=⟨a,b,c,d,q,H,g,u,m,U⟩) (fU (bK p) pI) hq⟩
def Xd(S:ct)(Y:Int)(A:L UInt8)(J:L Nd)(B s:L Ty)(r:L Ty×Bool)(hf:bW 79 J=some B)(G:ep s S.st)(E:s.length<=340)(p:r.1.all bB=true)(W:cx 79 B s=(r,0)):bh Y A 79 J S/\bY S r (aJ 79 J S):=by
 obtain⟨a,b,c,d,st,H,g,u,m,U⟩:=S;obtain⟨rfl,rfl⟩:=cQ hf bT;have V:=bP G;simp only at G V;rcases s with _|⟨P,_|⟨O,s⟩⟩
 ·cases W
 ·cases W
 obtain⟨v,q0,rfl,M,K⟩:=bl G;obtain⟨w,q,rfl,I,hq⟩:=bl K;have C:=cW M.1;have f2:=cW I.1;obtain⟨T,ts⟩:=P;obtain⟨Q,D1⟩:=O;simp only[aac]at V E;have N:(if T=2/\Q=2 then eT (.mk Q D1::s)else aR 5)=(r,0):=W;split at N;rotate_left
 ·cases N
 rename_i c1;cases N;obtain⟨rfl,rfl⟩:=c1;obtain⟨n,rfl,g1⟩:=gl bT C.2.1;obtain⟨D,rfl,g2⟩:=gl bT f2.2.1;unfold bh;have e:aJ 79 [] ⟨a,b,c,d,aQ 2 n::aQ 2 D::q,H,g,u,m,U⟩=bq ⟨a,b,c,d,q,H,g,u,m,U⟩ [iZ (decide (n=1\/D=1))]:=by unfold aJ;rw[KX];rfl
 rw[e];by_cases h:n=1
 ·rw[show decide (n=1\/D=1)=true from by simp[h];try rfl];exact⟨ie _ _ 2 Y 79 A _ [aQ 2 n,aQ 2 D] q _ bT (by rw[KX];rfl) oe (Xo ⟨a,b,c,d,q,H,g,u,m,U⟩ Y A 2 n 0 [] [] [] [] 2 D 0 [] [] [] [] h cc),cu (S:=⟨a,b,c,d,q,H,g,u,m,U⟩) (fU (bK p) pI) hq⟩
 ·rw[show decide (n=1\/D=1)=(D==1)from by simp[h];try rfl];exact⟨ie _ _ 2 Y 79 A _ [aQ 2 n,aQ 2 D] q _ bT (by rw[KX];rfl) oe (Xp ⟨a,b,c,d,q,H,g,u,m,U⟩ Y A 2 n 0 [] [] [] [] 2 D 0 [] [] [] [] h cc),cu (S:=⟨a,b,c,d,q,H,g,u,m,U⟩) (fU (bK p) pI) hq⟩
def KD(S:ct)(Y:Int)(W:L UInt8)(J:L Nd)(B s:L Ty)(r:L Ty×Bool)(hf:bW 80 J=some B)(G:ep s S.st)(E:s.length<=340)(p:r.1.all bB=true)(V:cx 80 B s=(r,0)):bh Y W 80 J S/\bY S r (aJ 80 J S):=by
 obtain⟨a,b,c,d,st,H,g,u,m,U⟩:=S;obtain⟨rfl,rfl⟩:=cQ hf bT;have Q:=bP G;simp only at G Q;rcases s with _|⟨M,_|⟨K,s⟩⟩
 ·cases V
 ·cases V
 obtain⟨v,q0,rfl,I,D⟩:=bl G;obtain⟨w,q,rfl,C,hq⟩:=bl D;have f1:=cW I.1;have f2:=cW C.1;obtain⟨T,ts⟩:=M;obtain⟨O,D1⟩:=K;simp only[aac]at Q E;have N:(if T=6/\O=6 then eT (.mk O D1::s)else aR 5)=(r,0):=V;split at N;rotate_left
 ·cases N
 rename_i c1;cases N;obtain⟨rfl,rfl⟩:=c1;obtain⟨P,rfl,g1⟩:=yo f1.2.1;obtain⟨A,rfl,g2⟩:=yo f2.2.1;unfold bh;by_cases h:200<P.length+A.length
 ·have e:aJ 80 [] ⟨a,b,c,d,.mk 6 0 0 P [] [] [] :: .mk 6 0 0 A [] [] []::q,H,g,u,m,U⟩=(13,⟨a,b,c,d,q,H,g,u,m,U⟩):=by
   unfold aJ;rw[Ee];show(if 200<P.length+A.length then((13,⟨a,b,c,d,q,H,g,u,m,U⟩):MR)else bq ⟨a,b,c,d,q,H,g,u,m,U⟩ [.mk 6 0 0 (P++A) [] [] []])=_;rw[if_pos h]
  rw[e];exact⟨ie _ _ 2 Y 80 W _ [.mk 6 0 0 P [] [] [],.mk 6 0 0 A [] [] []] q _ bT (by rw[Ee];rfl) u7 (Uc ⟨a,b,c,d,q,H,g,u,m,U⟩ Y W 6 0 0 P [] [] [] 6 0 0 A [] [] [] h bn cc),.inr (.inr Z)⟩
 ·have e:aJ 80 [] ⟨a,b,c,d,.mk 6 0 0 P [] [] [] :: .mk 6 0 0 A [] [] []::q,H,g,u,m,U⟩=bq ⟨a,b,c,d,q,H,g,u,m,U⟩ [.mk 6 0 0 (P++A) [] [] []]:=by
   unfold aJ;rw[Ee];show(if 200<P.length+A.length then((13,⟨a,b,c,d,q,H,g,u,m,U⟩):MR)else bq ⟨a,b,c,d,q,H,g,u,m,U⟩ [.mk 6 0 0 (P++A) [] [] []])=_;rw[if_neg h]
  rw[e];exact⟨ie _ _ 2 Y 80 W _ [.mk 6 0 0 P [] [] [],.mk 6 0 0 A [] [] []] q _ bT (by rw[Ee];rfl) u7 (Ud ⟨a,b,c,d,q,H,g,u,m,U⟩ Y W 6 0 0 P [] [] [] 6 0 0 A [] [] [] h cc),cu (S:=⟨a,b,c,d,q,H,g,u,m,U⟩) (fU (bK p) (IY (by rw[aaz];omega))) hq⟩
def QN(a b:L UInt8) : -1<=fh a b/\fh a b<=1:=by unfold fh;repeat' split<;>(try omega)
mutual
def N8:∀v w:Vl,-1<=dR v w/\dR v w<=1
 |.mk k n a s J B code,.mk k' q A Q C Y W=>by
  have h1:=IZ J C;have h2:=QN s Q;have V:=yx n q;have S:=yx J.length C.length;unfold dR
  try dsimp only
  repeat' split
  all_goals assumption
def IZ:∀v w:L Vl,-1<=jK v w/\jK v w<=1
 |x::l,y::r=>by
  have h1:=N8 x y;have h2:=IZ l r;unfold jK;split<;>assumption
 |[],_=>by simp[jK]
 |_::_,[]=>by simp[jK]
end
def N9{p:Int->Bool}:∀{l:L Ty}{x:Ty},pg p l=true->x∈l->uO p x=true
 |y::l,x,h,O=>by
  simp only[pg,aai]at h;rcases List.mem_cons.1 O with rfl|O
  ·exact h.1
  ·exact N9 h.2 O
def TX(S:ct)(V:Int)(T:L UInt8)(J:L Nd)(B s:L Ty)(r:L Ty×Bool)(hf:bW 73 J=some B)(G:ep s S.st)(hl:s.length<=340)(hg:r.1.all bB=true)(A:cx 73 B s=(r,0)):bh V T 73 J S/\bY S r (aJ 73 J S):=by
 obtain⟨a,b,c,d,st,H,g,u,m,U⟩:=S;obtain⟨rfl,rfl⟩:=cQ hf bT;have O:=bP G;simp only at G O;rcases s with _|⟨Q,_|⟨t2,s⟩⟩
 ·cases A
 ·cases A
 obtain⟨v,q0,rfl,M,pV⟩:=bl G;obtain⟨w,q,rfl,hw,hq⟩:=bl pV;have K:=cW M.1;have f2:=cW hw.1;simp only[aac]at O hl;have N:(if dh Q t2=true/\fY Q=true then eT (.mk 3 []::s)else aR 5)=(r,0):=A;split at N;rotate_left
 ·cases N
 rename_i c1;cases N;have et:=(gF _ _).1 c1.1;subst et;have P:=Bd v w Q (nj K.1) K.2.1 f2.2.1 (by have:=M.2;omega);have hrg:=N8 v w;unfold bh;have e:aJ 73 [] ⟨a,b,c,d,v::w::q,H,g,u,m,U⟩=bq ⟨a,b,c,d,q,H,g,u,m,U⟩ [aQ 3 (dR v w)]:=by unfold aJ;rw[Sg];rfl
 rw[e];obtain⟨I,E,D,C,Y,p,aB⟩:=v;obtain⟨k2,n2,a2,s2,W,bp,bQ⟩:=w;exact⟨ie _ _ 2 V 73 T _ [_,_] q _ bT (by rw[Sg];rfl) (by show List.length (Vl.mk I E D C Y p aB::Vl.mk k2 n2 a2 s2 W bp bQ::q)<=_;simp only[aac];omega) (Xl ⟨a,b,c,d,q,H,g,u,m,U⟩ V T I E D C Y p aB k2 n2 a2 s2 W bp bQ P cc),cu (S:=⟨a,b,c,d,q,H,g,u,m,U⟩) (fU (bK hg) (jD bT ga (λh=>absurd Z h))) hq⟩
def aah(o:MR):Prop:=o.1=10/\vK o.2.said≠0/\aM o.2.said<=25000000
def Zw{v:Vl}{t:Ty}(G:bB t=true)(h:bL v t=true):vK v≠0:=by
 obtain⟨k,n,a,s,J,B,code⟩:=v;show k≠0;rintro rfl;simp[bL]at h
def QD(S:ct)(W:Int)(T:L UInt8)(J:L Nd)(B s:L Ty)(r:L Ty×Bool)(hf:bW 83 J=some B)(G:ep s S.st)(E:s.length<=340)(A:cx 83 B s=(r,0)):bh W T 83 J S/\aah (aJ 83 J S):=by
 obtain⟨a,b,c,d,st,H,g,u,m,U⟩:=S;obtain⟨rfl,rfl⟩:=cQ hf bT;have V:=bP G;simp only at G V;cases s with
 |nil=>cases A
 |cons t s =>
 obtain⟨v,q,rfl,M,hq⟩:=bl G;have P:=cW M.1;simp only[aac]at V E;unfold bh;have e:aJ 83 [] ⟨a,b,c,d,v::q,H,g,u,m,U⟩=(10,⟨a,b,c,d,q,H,g,u,m,v⟩):=by unfold aJ;rw[Sl];rfl
 rw[e];refine⟨?_,Z,Zw P.1 P.2.1,M.2⟩;obtain⟨Q,O,N,K,Y,D,I⟩:=v;exact ie _ _ 2 W 83 T _ [_] q _ bT (by rw[Sl];rfl) (by show List.length (Vl.mk Q O N K Y D I::q)<=_;simp only[aac];omega) (Ue ⟨a,b,c,d,q,H,g,u,m,U⟩ W T Q O N K Y D I cc)
def Qr(S:ct)(W:Int)(T:L UInt8)(J:L Nd)(B s:L Ty)(r:L Ty×Bool)(hf:bW 81 J=some B)(G:ep s S.st)(hl:s.length<=340)(hg:r.1.all bB=true)(A:cx 81 B s=(r,0)):bh W T 81 J S/\bY S r (aJ 81 J S):=by
 obtain⟨a,b,c,d,st,H,g,u,m,U⟩:=S;obtain⟨rfl,rfl⟩:=cQ hf bT;have I:=bP G;simp only at G I;cases s with
 |nil=>cases A
 |cons t s =>
 obtain⟨v,q,rfl,E,hq⟩:=bl G;have C:=cW E.1;simp only[aac]at I hl;have N:(if gW t=true then eT (.mk 6 []::s)else aR 5)=(r,0):=A;split at N;rotate_left
 ·cases N
 cases N;have hT:=Pm t v (nj C.1) C.2.1 (by have:=E.2;omega);have e:aJ 81 [] ⟨a,b,c,d,v::q,H,g,u,m,U⟩=(if(vw v).2≠0 then((13,⟨a,b,c,d,q,H,g,u,m,U⟩):MR)else bq ⟨a,b,c,d,q,H,g,u,m,U⟩ [.mk 6 0 0 (vw v).1 [] [] []]):=by unfold aJ;rw[KY];rfl
 have K:(vw v).1.length<=200:=by
  unfold vw;split
  ·grind
  ·simp
 unfold bh;rw[e];generalize vw v=p at *;obtain⟨p1,p2⟩:=p;obtain⟨V,Q,P,O,Y,D,M⟩:=v;by_cases h:p2=0
 ·subst h;rw[if_neg (λh=>h Z)];exact⟨ie _ _ 2 W 81 T _ [_] q _ bT (by rw[KY];rfl) N2 (QL ⟨a,b,c,d,q,H,g,u,m,U⟩ W T V Q P O Y D M p1 hT (by simp only at K;omega) cc),cu (S:=⟨a,b,c,d,q,H,g,u,m,U⟩) (fU (bK hg) (IY K)) hq⟩
 ·rw[if_pos h];exact⟨ie _ _ 2 W 81 T _ [_] q _ bT (by rw[KY];rfl) N2 (QK ⟨a,b,c,d,q,H,g,u,m,U⟩ W T V Q P O Y D M p1 p2 hT h cc),.inr (.inr Z)⟩
mutual
def Gp:∀(v:Vl)(t:Ty),mV t->bL v t=true->gW t=true->eP v=true
 |.mk k n a s J B code,.mk T ts,ok,h,W=>by
  have K:=Df J;have E:=Dg J;have Q:J.length=0->eg J=true:=λh=>by rw[List.length_eq_zero_iff.1 h];rfl
  have S:=tH ok;simp only[gW,uO,aai]at W;have M:∀x∈ts,gW x=true:=λx O=>N9 W.2 O;unfold bL at h;by_cases Y:k≠bS (.mk T ts)\/cz (.mk k n a s J B code)=false\/200<s.length
  ·rw[if_pos Y]at h;cases h
  rw[if_neg Y]at h;have hp:cz (.mk k n a s J B code)=true:=by
   cases hq:cz (.mk k n a s J B code)with
   |true=>rfl
   |false=>exact absurd (.inr (.inl hq)) Y
  have D:k=T:=afe λV=>Y (.inl V);subst D;clear Y;have d1:∀{p q:Prop}[Decidable (p/\q)],decide (p/\q)=true->q:=λh=>(aeg h).2;have P:k≠14:=by rintro rfl;exact absurd W.1 bT
  have C:k≠15:=by rintro rfl;exact absurd W.1 bT
  have A:k≠8:=by rintro rfl;exact absurd W.1 bT
  suffices hh:eg J=true by simpa[eP,P]using hh
  by_cases u:k=1\/k=6
  ·rw[if_pos u]at h;exact Q (aeg h).2
  rw[if_neg u]at h;by_cases H:k=2
  ·rw[if_pos H]at h;exact Q (aeg h).2.2
  rw[if_neg H]at h;by_cases N:k=3
  ·rw[if_pos N]at h;exact Q (aeg h).2.2
  rw[if_neg N]at h;by_cases c4:k=4\/k=5
  ·rw[if_pos c4]at h;exact Q (aeg h).2.2
  rw[if_neg c4]at h;by_cases I:k=7
  ·rw[if_pos I]at h;exact Q (aeg h).2.2
  rw[if_neg I]at h;by_cases U:k=9
  ·rw[if_pos U,aai]at h;subst U;obtain⟨x,rfl,O⟩:=fJ ok bT;exact K x O h.2 (M x cS)
  rw[if_neg U]at h;by_cases OI:k=10
  ·rw[if_pos OI,aai]at h;subst OI;obtain⟨x,rfl,O⟩:=fJ ok bT;exact K x O h.2 (M x cS)
  rw[if_neg OI]at h;by_cases Tj:k=11
  ·rw[if_pos Tj,aai]at h;subst Tj;have z:=S.1;rw[show arity 11=2 from by decide]at z;exact E ts (λx O=>S.2 x O) h.2 W6 M
  rw[if_neg Tj]at h;by_cases Tk:k=12
  ·rw[if_pos Tk,aai]at h;subst Tk;obtain⟨x,y,rfl,O,G⟩:=fz ok bT;have hn:=aeg h.1;rcases(show n=0\/n=1 by omega)with rfl|rfl
   ·exact K x O h.2 (M x cS)
   ·exact K y G h.2 (M y cS)
  rw[if_neg Tk]at h;by_cases Tl:k=13
  ·rw[if_pos Tl,aai,aai]at h;subst Tl;exact K _ (Ap ok bT) h.1.2 (by simp only[gW,uO,W.2,afl];decide)
  rw[if_neg Tl,if_neg P,if_neg C,if_neg A]at h;cases h
def Df:∀(l:L Vl)(t:Ty),mV t->aS l t=true->gW t=true->eg l=true
 |[],_,_,_,_=>rfl
 |x::l,t,ok,h,W=>by
  simp only[aS,aai]at h;simp only[eg,aai];exact⟨Gp x t ok h.1 W,Df l t ok h.2 W⟩
def Dg:∀(l:L Vl)(r:L Ty),(∀x∈r,mV x)->dL l r=true->l.length<=r.length->(∀x∈r,gW x=true)->eg l=true
 |[],_,_,_,_,_=>rfl
 |x::l,[],_,_,h,_=>by simp at h
 |x::l,t::r,ok,h,hl,W=>by
  simp only[dL,aai]at h;simp only[eg,aai];exact⟨Gp x t (ok t cS) h.1 (W t cS),Dg l r (λy G=>ok y adw) h.2 (by simpa using hl) (λy G=>W y adw)⟩
end
def Oa{t:Ty}{n:Nd}(h:(gD t n).2=0)(W:gW t=true):bB t=true/\bL (gD t n).1 t=true/\eP (gD t n).1=true:=by
 have h1:=(BK h).1;unfold nG at h1;rw[aai]at h1;exact⟨h1.1,h1.2,Gp _ t (cH h1.1) h1.2 W⟩
def Zx{P:Int}{J:L Nd}{B:L Ty}(h:bW P J=some B)(G:gC P=[116,118]):∃x y,J=[x,y]/\(aP x).2=0/\B=[(aP x).1]:=by
 obtain⟨h1,h2⟩:=kS h;rw[G]at h1 h2;rcases J with _|⟨x,_|⟨y,_|⟨z,r⟩⟩⟩
 ·simp at h1
 ·simp at h1
 ·obtain⟨T,N,p,q,xs⟩:=x;obtain⟨Y,U,S,Q,W⟩:=y;have V:(if(aP (.mk T N p q xs)).2=0 then some ([]++[(aP (.mk T N p q xs)).1])else none)=some B:=h2;split at V
  ·simp_all
  ·cases V
 ·simp at h1
def Sn:cr 45=0:=by decide +kernel
def QC(S:ct)(Y:Int)(T:L UInt8)(J:L Nd)(D:aU J<=8589934593)(B s:L Ty)(r:L Ty×Bool)(hf:bW 45 J=some B)(G:ep s S.st)(E:s.length<=340)(p:r.1.all bB=true)(A:(if(gD (B.getD 0 kX) (J.getD 1 uo)).2=0/\gW (B.getD 0 kX)=true then eT (B.getD 0 kX::s)else aR 5)=(r,0)):bh Y T 45 J S/\bY S r (aJ 45 J S):=by
 obtain⟨a,b,c,d,q,H,g,u,m,U⟩:=S;obtain⟨x,y,rfl,O,rfl⟩:=Zx hf bT;have Q:=bP G;simp only at G Q;have N:(if(gD (aP x).1 y).2=0/\gW (aP x).1=true then eT ((aP x).1::s)else aR 5)=(r,0):=A;split at N;rotate_left
 ·cases N
 rename_i W;cases N;have V:=Oa W.1 W.2;have P:=xS (aP x).1 y;simp only[aU]at D;unfold bh;have e:aJ 45 [x,y] ⟨a,b,c,d,q,H,g,u,m,U⟩=bq ⟨a,b,c,d,q,H,g,u,m,U⟩ [(gD (aP x).1 y).1]:=by unfold aJ;rw[Sn];rfl
 rw[e];exact⟨jE _ _ 2 Y 45 T _ [] q _ bT (by rw[Sn];rfl) cc (PW ⟨a,b,c,d,q,H,g,u,m,U⟩ Y T x y bn bn W.1 bn cc),cu (S:=⟨a,b,c,d,q,H,g,u,m,U⟩) (fU V.1 V.2) G⟩
def Ob{t:Ty}{s:L UInt8}(W:gW t=true)(h:(iw t s).2=0):aM (iw t s).1<=60300/\bL (iw t s).1 t=true/\eP (iw t s).1=true:=by
 cases s with
 |nil=>cases h
 |cons c r =>
  by_cases H:c=5/\(c::r).length<=200/\gW t=true/\(fF r).2=0
  ·have e:iw t (c::r)=gD t (fF r).1:=if_pos H;rw[e]at h ⊢;have h1:=Oa h W;have h2:=zV (BK h).2.1;exact⟨aeS (xS _ _) h2,h1.2⟩
  ·have e:iw t (c::r)=(ou,1):=if_neg H;rw[e]at h;cases h
def KE(S:ct)(Y:Int)(A:L UInt8)(J:L Nd)(K:aU J<=8589934593)(B s:L Ty)(r:L Ty×Bool)(hf:bW 82 J=some B)(G:ep s S.st)(E:s.length<=340)(W:r.1.all bB=true)(V:cx 82 B s=(r,0)):bh Y A 82 J S/\bY S r (aJ 82 J S):=by
 obtain⟨a,b,c,d,st,H,g,u,m,U⟩:=S;obtain⟨x,rfl,hx,rfl⟩:=Co hf bT;have Q:=bP G;simp only at G Q;cases s with
 |nil=>cases V
 |cons t s =>
 obtain⟨v,q,rfl,I,hq⟩:=bl G;have C:=cW I.1;obtain⟨T,ts⟩:=t;simp only[aac]at Q E;have N:(if T=6/\gW (aP x).1=true then eT (.mk 9 [(aP x).1]::s)else aR 5)=(r,0):=V;split at N;rotate_left
 ·cases N
 rename_i c1;cases N;obtain⟨rfl,pk⟩:=c1;obtain⟨P,rfl,g1⟩:=yo C.2.1;simp only[aU]at K;unfold bh;have e:aJ 82 [x] ⟨a,b,c,d,.mk 6 0 0 P [] [] []::q,H,g,u,m,U⟩=(if(iw (aP x).1 P).2≠0 then bq ⟨a,b,c,d,q,H,g,u,m,U⟩ [cG []]else bq ⟨a,b,c,d,q,H,g,u,m,U⟩ [cG [(iw (aP x).1 P).1]]):=by unfold aJ;rw[KZ];rfl
 rw[e];have hU:=λh=>Ob (t:=(aP x).1) (s:=P) pk h;generalize O:iw (aP x).1 P=p at *;obtain⟨M,D⟩:=p;by_cases h:D=0
 ·subst h;obtain⟨z1,z2⟩:=hU rfl;rw[if_neg (λh=>h Z)];exact⟨ie _ _ 2 Y 82 A _ [_] q _ bT (by rw[KZ];rfl) Nt (Xr ⟨a,b,c,d,q,H,g,u,m,U⟩ Y A 6 0 0 P [] [] [] x bn M O (by simp only at z1;omega) cc),cu (S:=⟨a,b,c,d,q,H,g,u,m,U⟩) (fU (bK W) (jw z2)) hq⟩
 ·rw[if_pos h];exact⟨ie _ _ 2 Y 82 A _ [_] q _ bT (by rw[KZ];rfl) Nt (Xq ⟨a,b,c,d,q,H,g,u,m,U⟩ Y A 6 0 0 P [] [] [] x bn M D O h cc),cu (S:=⟨a,b,c,d,q,H,g,u,m,U⟩) (fU (bK W) nW) hq⟩
abbrev iQ(S:ct)(F:iJ)(t:List iJ):ct:={S with fr:={F with pos:=F.pos+1}::t}
inductive nE:Nat->ct->MR->Prop
 |done {k:Nat} {S:ct} (h:S.fr=[]):nE (k+1) S (0,S)
 |fin {k:Nat} {S S':ct} {F:iJ} {t:List iJ} {e:Int} {r:MR} (h:S.fr=F::t) (hp:F.pos=F.code.length) (ht:t.length<=1000000000) (hc:cJ 55 S [.ptr 1000002 (0+t.length*4)] (ag e) S') (he:e≠0->r=(e,S')) (hk:e=0->nE k S' r):nE (k+1) S r
 |seq {k:Nat} {S:ct} {F:iJ} {t:List iJ} {N P:Int} {s:List UInt8} {args:List Nd} {r:MR} (h:S.fr=F::t) (hp:F.code[F.pos]?=some (.mk 3 N P s args)) (ht:t.length<=1000000000) (hl:F.code.length<=8589934593) (hk:nE k (dX (iQ S F t) args 0 []) r):nE (k+1) S r
 |acF {k:Nat} {S:ct} {F:iJ} {t:List iJ} {N P:Int} {s:List UInt8} {args:List Nd} (h:S.fr=F::t) (hp:F.code[F.pos]?=some (.mk 2 N P s args)) (ht:t.length<=1000000000) (hl:F.code.length<=8589934593) (hg:S.cC<=S.used):nE (k+1) S (12,iQ S F t)
 |step {k:Nat} {S S':ct} {F:iJ} {t:List iJ} {N P:Int} {s:List UInt8} {args:List Nd} {e:Int} {r:MR} (h:S.fr=F::t) (hp:F.code[F.pos]?=some (.mk 2 N P s args)) (ht:t.length<=1000000000) (hl:F.code.length<=8589934593) (hg:S.used<S.cC) (hi:Rh S.cC) (hu:0<=S.used)
   (hc:cJ 58 {iQ S F t with used:=S.used+1} [.c (aW (.mk 2 N P s args))] (ag e) S') (he:e≠0->r=(e,S')) (hk:e=0->nE k S' r):nE (k+1) S r
attribute [local irreducible] AK af bg cn cP dP
def OZ(k:Nat)(S:ct)(r:MR)(Q:nE k S r):cJ 42 S [] (ag r.1) r.2:=by
 refine mn func42 call42 λβ hf=>?_;refine dnm ?_;refine AK.fV [(1000000,1000000),(3001,1000001),(3002,1000002)] [] (env':=[(0,.ptr 1000000 0)]) (bs':=[(1000000,mC S 3001 3002),(3001,ak (sR S.st)),(3002,ak (fR S.fr))]) (ts':=[]) (us':=[1000000,3001,3002]) ce (cvB Z Z Z Z Z Z Z Z Z) Z ?_;refine AK.eL (α:=Nat×ct) (λz=>nE z.1 z.2 r) (λz=>z.1) (λ_=>[(0,.ptr 1000000 0)]) (λz=>[(1000000,mC z.2 3001 3002),(3001,ak (sR z.2.st)),(3002,ak (fR z.2.fr))]) (λ_=>[]) [1000000,3001,3002] (k,S)
  Q ⟨.inl Z,trivial⟩ ⟨Z,Z,Z,trivial⟩ trivial Z (abL S Z Z Z) Z ?_
 rintro⟨A,T⟩ B ih;simp only at B;clear Q;cases B with
 |done h =>
  obtain⟨a,b,c,d,V,H,g,u,m,U⟩:=T;simp only at h;subst h;clear ih;exact dm
 |@fin k1 _ S' F t e _ h hp ht hc he hk =>
  obtain⟨a,b,c,d,V,H,g,u,m,U⟩:=T;obtain⟨code,W,fin,Y⟩:=F;simp only at *;subst h;have O:=zX ⟨code,W,fin,Y⟩ t;have h1:=So ⟨code,W,fin,Y⟩ t;have Q:i64.wrap (((((⟨code,W,fin,Y⟩:iJ)::t).length:Nat):Int)-1)=(t.length:Nat):=by
   rw[iy dG dG];simp only[aac];omega
  have J:decide (((((⟨code,W,fin,Y⟩:iJ)::t).length:Nat):Int)>0)=true:=aak dG;subst hp;have G:=bt code;have I:((code.length:Int)==(((aH code).length:Nat):Int))=true:=beq_iff_eq.2 bn;by_cases E:e=0
  ·have D:(e != 0)=false:=by simpa using E
   replace hk:=hk E;clear he
   repeat' (first|refine om ?_|refine zc ?_ ?_|(intro h;first|(cases h;done)|rw[h]|skip)|refine AK.skip ?_|refine AK.seq ?_|refine AK.block ?_|refine AK.exit Z ?_|refine af.dD hX kn Z Z Z Z Z Z O Z ?_|refine af.dD hX kn Z Z Z Z Z Z h1 Z ?_|refine af.jV hX kn Z Z Z Z Z Z Z Z Z t.length Q (aeJ _) ?_|refine ve ?_ (hq:=hc))
   refine AK.fV [(1000000,1000000),(3001,100037),(3002,200037)] [] (env':=[(0,.ptr 1000000 0)]) (bs':=[(1000000,mC S' 3001 3002),(3001,ak (sR (S').st)),(3002,ak (fR (S').fr))]) (ts':=[]) (us':=[1000000,3001,3002]) ce (cvB Z Z Z Z Z Z Z Z Z) Z ?_;exact ih (_,S') (hk) (aeJ _)
  ·have D:(e != 0)=true:=by simpa using E
   obtain rfl:=he E;clear ih he hk
   repeat' (first|refine om ?_|refine zc ?_ ?_|(intro h;first|(cases h;done)|rw[h]|skip)|refine AK.skip ?_|refine AK.seq ?_|refine AK.block ?_|refine AK.exit Z ?_|refine af.dD hX kn Z Z Z Z Z Z O Z ?_|refine af.dD hX kn Z Z Z Z Z Z h1 Z ?_|refine af.jV hX kn Z Z Z Z Z Z Z Z Z t.length Q (aeJ _) ?_|refine ve ?_ (hq:=hc))
   all_goals rfl
 |@seq k1 _ F t N P s args _ h hp ht hl hk =>
  obtain⟨a,b,c,d,V,H,g,u,m,U⟩:=T;obtain⟨code,W,fin,Y⟩:=F;simp only at *;subst h;have O:=zX ⟨code,W,fin,Y⟩ t;have h1:=So ⟨code,W,fin,Y⟩ t;have Q:i64.wrap (((((⟨code,W,fin,Y⟩:iJ)::t).length:Nat):Int)-1)=(t.length:Nat):=by
   rw[iy dG dG];simp only[aac];omega
  have J:decide (((((⟨code,W,fin,Y⟩:iJ)::t).length:Nat):Int)>0)=true:=aak dG;have p:=(List.getElem?_eq_some_iff.1 hp).1;have G:=bt code;have I:((W:Int)==(((aH code).length:Nat):Int))=false:=beq_eq_false_iff_ne.2 bn;have K:=eO hp;have hq:bV (0+t.length*4+1) [.c (ag (i64.wrap ((W:Int)+1)))] (ak (fR (⟨code,W,fin,Y⟩::t)))=some (ak (fR (⟨code,W+1,fin,Y⟩::t))):=by rw[iy bn bn];exact FY ⟨code,W,fin,Y⟩ t (W+1)
  have C:=iC ⟨a,b,c,d,V,⟨code,W+1,fin,Y⟩::t,g,u,m,U⟩ args 0 dG
  repeat' (first|refine om ?_|refine zc ?_ ?_|(intro h;first|(cases h;done)|rw[h]|skip)|refine AK.skip ?_|refine AK.seq ?_|refine AK.block ?_|refine AK.exit Z ?_|refine af.dD hX kn Z Z Z Z Z Z O Z ?_|refine af.dD hX kn Z Z Z Z Z Z h1 Z ?_|refine af.jV hX kn Z Z Z Z Z Z Z Z Z t.length Q (aeJ _) ?_|refine uI Z W Z K Z ?_|refine af.store hX kn Z Z Z Z Z Z Z Z Z hq Z ?_|refine ve ?_ (hq:=C))
  refine AK.fV [(1000000,1000000),(3001,100064),(3002,200064)] [] (env':=[(0,.ptr 1000000 0)]) (bs':=[(1000000,mC (dX ⟨a,b,c,d,V,⟨code,W+1,fin,Y⟩::t,g,u,m,U⟩ args 0 []) 3001 3002),(3001,ak (sR ((dX ⟨a,b,c,d,V,⟨code,W+1,fin,Y⟩::t,g,u,m,U⟩ args 0 [])).st)),(3002,ak (fR ((dX ⟨a,b,c,d,V,⟨code,W+1,fin,Y⟩::t,g,u,m,U⟩ args 0 [])).fr))]) (ts':=[]) (us':=[1000000,3001,3002]) ce (cvB Z Z Z Z Z Z Z Z Z) Z ?_;exact ih (_,(dX ⟨a,b,c,d,V,⟨code,W+1,fin,Y⟩::t,g,u,m,U⟩ args 0 [])) (hk) (aeJ _)
 |@acF k1 _ F t N P s args h hp ht hl hg =>
  obtain⟨a,b,c,d,V,H,g,u,m,U⟩:=T;obtain⟨code,W,fin,Y⟩:=F;simp only at *;subst h;have O:=zX ⟨code,W,fin,Y⟩ t;have h1:=So ⟨code,W,fin,Y⟩ t;have Q:i64.wrap (((((⟨code,W,fin,Y⟩:iJ)::t).length:Nat):Int)-1)=(t.length:Nat):=by
   rw[iy dG dG];simp only[aac];omega
  have J:decide (((((⟨code,W,fin,Y⟩:iJ)::t).length:Nat):Int)>0)=true:=aak dG;have p:=(List.getElem?_eq_some_iff.1 hp).1;have G:=bt code;have I:((W:Int)==(((aH code).length:Nat):Int))=false:=beq_eq_false_iff_ne.2 bn;have K:=eO hp;have hq:bV (0+t.length*4+1) [.c (ag (i64.wrap ((W:Int)+1)))] (ak (fR (⟨code,W,fin,Y⟩::t)))=some (ak (fR (⟨code,W+1,fin,Y⟩::t))):=by rw[iy bn bn];exact FY ⟨code,W,fin,Y⟩ t (W+1)
  have M:=abM ⟨a,b,c,d,V,⟨code,W+1,fin,Y⟩::t,g,u,m,U⟩ hg;clear ih
  repeat' (first|refine om ?_|refine zc ?_ ?_|(intro h;first|(cases h;done)|rw[h]|skip)|refine AK.skip ?_|refine AK.seq ?_|refine AK.block ?_|refine AK.exit Z ?_|refine af.dD hX kn Z Z Z Z Z Z O Z ?_|refine af.dD hX kn Z Z Z Z Z Z h1 Z ?_|refine af.jV hX kn Z Z Z Z Z Z Z Z Z t.length Q (aeJ _) ?_|refine uI Z W Z K Z ?_|refine af.store hX kn Z Z Z Z Z Z Z Z Z hq Z ?_|refine ve ?_ (hq:=M))
  all_goals rfl
 |@step k1 _ S' F t N P s args e _ h hp ht hl hg hi hu hc he hk =>
  obtain⟨a,b,c,d,V,H,g,u,m,U⟩:=T;obtain⟨code,W,fin,Y⟩:=F;simp only at *;subst h;have O:=zX ⟨code,W,fin,Y⟩ t;have h1:=So ⟨code,W,fin,Y⟩ t;have Q:i64.wrap (((((⟨code,W,fin,Y⟩:iJ)::t).length:Nat):Int)-1)=(t.length:Nat):=by
   rw[iy dG dG];simp only[aac];omega
  have J:decide (((((⟨code,W,fin,Y⟩:iJ)::t).length:Nat):Int)>0)=true:=aak dG;have p:=(List.getElem?_eq_some_iff.1 hp).1;have G:=bt code;have I:((W:Int)==(((aH code).length:Nat):Int))=false:=beq_eq_false_iff_ne.2 bn;have K:=eO hp;have hq:bV (0+t.length*4+1) [.c (ag (i64.wrap ((W:Int)+1)))] (ak (fR (⟨code,W,fin,Y⟩::t)))=some (ak (fR (⟨code,W+1,fin,Y⟩::t))):=by rw[iy bn bn];exact FY ⟨code,W,fin,Y⟩ t (W+1)
  have M:=abN ⟨a,b,c,d,V,⟨code,W+1,fin,Y⟩::t,g,u,m,U⟩ hg hi hu;by_cases E:e=0
  ·have D:(e != 0)=false:=by simpa using E
   replace hk:=hk E;clear he
   repeat' (first|refine om ?_|refine zc ?_ ?_|(intro h;first|(cases h;done)|rw[h]|skip)|refine AK.skip ?_|refine AK.seq ?_|refine AK.block ?_|refine AK.exit Z ?_|refine af.dD hX kn Z Z Z Z Z Z O Z ?_|refine af.dD hX kn Z Z Z Z Z Z h1 Z ?_|refine af.jV hX kn Z Z Z Z Z Z Z Z Z t.length Q (aeJ _) ?_|refine uI Z W Z K Z ?_|refine af.store hX kn Z Z Z Z Z Z Z Z Z hq Z ?_|refine ve ?_ (hq:=M)|refine ve ?_ (hq:=hc))
   refine AK.fV [(1000000,1000000),(3001,100075),(3002,200075)] [] (env':=[(0,.ptr 1000000 0)]) (bs':=[(1000000,mC S' 3001 3002),(3001,ak (sR (S').st)),(3002,ak (fR (S').fr))]) (ts':=[]) (us':=[1000000,3001,3002]) ce (cvB Z Z Z Z Z Z Z Z Z) Z ?_;exact ih (_,S') (hk) (aeJ _)
  ·have D:(e != 0)=true:=by simpa using E
   obtain rfl:=he E;clear ih he hk
   repeat' (first|refine om ?_|refine zc ?_ ?_|(intro h;first|(cases h;done)|rw[h]|skip)|refine AK.skip ?_|refine AK.seq ?_|refine AK.block ?_|refine AK.exit Z ?_|refine af.dD hX kn Z Z Z Z Z Z O Z ?_|refine af.dD hX kn Z Z Z Z Z Z h1 Z ?_|refine af.jV hX kn Z Z Z Z Z Z Z Z Z t.length Q (aeJ _) ?_|refine uI Z W Z K Z ?_|refine af.store hX kn Z Z Z Z Z Z Z Z Z hq Z ?_|refine ve ?_ (hq:=M)|refine ve ?_ (hq:=hc))
   all_goals rfl
end Go.Proofs
