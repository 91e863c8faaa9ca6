/- Package run: typed steps of class world: who is about, tickets made and read, transfers. Package run: typed steps of class world: transfers, tickets split and joined. Package run: typed steps of class items: cons, size, the empty map. Package run: where a key stands in a map that goes up. Package ru -/
import Derived.Test.YtlohbilpimjmmaaGreatDoorRunZ
import Derived.Test.YtlohbilpimjmmaaGreatDoorRunJ
set_option linter.unusedVariables false
set_option linter.unusedSimpArgs false
namespace Go.Proofs
open Go.cq
theorem vY {a b c d:Int} (h:nD a b c d=true):(0<=a/\a<12)/\(0<=b/\b<12)/\(0<=c/\c<=bP)/\(0<=d/\d<=bP):=by
 unfold nD JC JD at h;simp only[Bool.cond_eq_ite,Bool.if_false_right,aai,decide_eq_true_eq]at h;unfold bP;omega
theorem zx {v:Vl} {t:Ty} (h:bK v (.mk 15 [t])=true) (Y:eJ v=true):∃n a x,v = .mk 15 n a [] [x] [] []/\(1<=n/\n<=bP)/\(0<=a/\a<12)/\bK x t=true/\eJ x=true:=by
 obtain⟨k,n,a,s,args,B,H⟩:=v;obtain⟨D,A,_⟩:=lT h;simp only[bR]at D;subst D;simp[cw]at A;simp[bK,cw,bR,aE,aA]at h;obtain⟨rfl,rfl,rfl⟩:=A;rcases args with _|⟨x,_|⟨y,r⟩⟩
 ·simp at h
 ·simp[aR,eJ,eu]at h Y;exact⟨n,a,x,rfl,bn,bn,oe,Y⟩
 ·simp at h
theorem vz {n a:Int} {x:Vl} {t:Ty} (Y:1<=n/\n<=bP) (u:0<=a/\a<12) (h:bK x t=true/\eJ x=true):bK (.mk 15 n a [] [x] [] []) (.mk 15 [t])=true/\eJ (.mk 15 n a [] [x] [] [])=true:=by
 simp[bK,cw,bR,aE,aA,aR,eJ,eu,h,Y,u]
theorem HL:bO 84=2:=by decide +kernel
theorem OC:bO 85=1:=by decide +kernel
theorem OD:bO 86=2:=by decide +kernel
theorem OE:bO 87=1:=by decide +kernel
theorem OF:bO 88=3:=by decide +kernel
theorem OG:bO 89=0:=by decide +kernel
theorem OH:bO 90=0:=by decide +kernel
theorem OI:bO 91=0:=by decide +kernel
theorem OJ:bO 92=0:=by decide +kernel
theorem MU (S:bT) (T:nD S.self S.gO S.gP S.balance=true) (U:0<=S.bE/\S.bE<=bP) (N:Int) (V:List UInt8) (args:List Nd) (I:aU args<=8589934593) (B s:List Ty) (r:List Ty×Bool) (hf:bN 89 args=some B) (Y:dJ s S.st) (A:s.length<=340) (E:r.1.all bw=true) (K:bY 89 B s=(r,0)):bp N V 89 args S/\bQ S r (aH 89 args S):=by
 obtain⟨a,b,c,d,q,fr,g,u,m,said⟩:=S;obtain⟨rfl,rfl⟩:=cE hf cc;have M:=bH Y;simp only at Y M T;cases K;have W:=vY T;unfold bp;have e:aH 89 [] ⟨a,b,c,d,q,fr,g,u,m,said⟩=bl ⟨a,b,c,d,q,fr,g,u,m,said⟩ [aO 7 a]:=by unfold aH;rw[OG];rfl
 rw[e];exact⟨jC _ _ 2 N 89 V _ [] q _ cc (by rw[OG];rfl) cm (MV ⟨a,b,c,d,q,fr,g,u,m,said⟩ N V cm),b9 (S:=⟨a,b,c,d,q,fr,g,u,m,said⟩) (fo (bG E) (mX (.inr (.inr (.inr (.inr ⟨rfl,W.1⟩)))))) Y⟩
theorem HM (S:bT) (T:nD S.self S.gO S.gP S.balance=true) (U:0<=S.bE/\S.bE<=bP) (N:Int) (V:List UInt8) (args:List Nd) (I:aU args<=8589934593) (B s:List Ty) (r:List Ty×Bool) (hf:bN 90 args=some B) (Y:dJ s S.st) (A:s.length<=340) (E:r.1.all bw=true) (K:bY 90 B s=(r,0)):bp N V 90 args S/\bQ S r (aH 90 args S):=by
 obtain⟨a,b,c,d,q,fr,g,u,m,said⟩:=S;obtain⟨rfl,rfl⟩:=cE hf cc;have M:=bH Y;simp only at Y M T;cases K;have W:=vY T;unfold bp;have e:aH 90 [] ⟨a,b,c,d,q,fr,g,u,m,said⟩=bl ⟨a,b,c,d,q,fr,g,u,m,said⟩ [aO 7 b]:=by unfold aH;rw[OH];rfl
 rw[e];exact⟨jC _ _ 2 N 90 V _ [] q _ cc (by rw[OH];rfl) cm (HN ⟨a,b,c,d,q,fr,g,u,m,said⟩ N V cm),b9 (S:=⟨a,b,c,d,q,fr,g,u,m,said⟩) (fo (bG E) (mX (.inr (.inr (.inr (.inr ⟨rfl,W.2.1⟩)))))) Y⟩
theorem HO (S:bT) (T:nD S.self S.gO S.gP S.balance=true) (U:0<=S.bE/\S.bE<=bP) (N:Int) (V:List UInt8) (args:List Nd) (I:aU args<=8589934593) (B s:List Ty) (r:List Ty×Bool) (hf:bN 91 args=some B) (Y:dJ s S.st) (A:s.length<=340) (E:r.1.all bw=true) (K:bY 91 B s=(r,0)):bp N V 91 args S/\bQ S r (aH 91 args S):=by
 obtain⟨a,b,c,d,q,fr,g,u,m,said⟩:=S;obtain⟨rfl,rfl⟩:=cE hf cc;have M:=bH Y;simp only at Y M T;cases K;have W:=vY T;unfold bp;have e:aH 91 [] ⟨a,b,c,d,q,fr,g,u,m,said⟩=bl ⟨a,b,c,d,q,fr,g,u,m,said⟩ [aO 5 c]:=by unfold aH;rw[OI];rfl
 rw[e];exact⟨jC _ _ 2 N 91 V _ [] q _ cc (by rw[OI];rfl) cm (HP ⟨a,b,c,d,q,fr,g,u,m,said⟩ N V cm),b9 (S:=⟨a,b,c,d,q,fr,g,u,m,said⟩) (fo (bG E) (mX (.inr (.inr (.inr (.inl ⟨rfl,W.2.2.1⟩)))))) Y⟩
theorem E4 (S:bT) (T:nD S.self S.gO S.gP S.balance=true) (U:0<=S.bE/\S.bE<=bP) (N:Int) (V:List UInt8) (args:List Nd) (I:aU args<=8589934593) (B s:List Ty) (r:List Ty×Bool) (hf:bN 92 args=some B) (Y:dJ s S.st) (A:s.length<=340) (E:r.1.all bw=true) (K:bY 92 B s=(r,0)):bp N V 92 args S/\bQ S r (aH 92 args S):=by
 obtain⟨a,b,c,d,q,fr,g,u,m,said⟩:=S;obtain⟨rfl,rfl⟩:=cE hf cc;have M:=bH Y;simp only at Y M T;cases K;have W:=vY T;unfold bp;have e:aH 92 [] ⟨a,b,c,d,q,fr,g,u,m,said⟩=bl ⟨a,b,c,d,q,fr,g,u,m,said⟩ [aO 5 d]:=by unfold aH;rw[OJ];rfl
 rw[e];exact⟨jC _ _ 2 N 92 V _ [] q _ cc (by rw[OJ];rfl) cm (E5 ⟨a,b,c,d,q,fr,g,u,m,said⟩ N V cm),b9 (S:=⟨a,b,c,d,q,fr,g,u,m,said⟩) (fo (bG E) (mX (.inr (.inr (.inr (.inl ⟨rfl,W.2.2.2⟩)))))) Y⟩
theorem HQ (S:bT) (I:nD S.self S.gO S.gP S.balance=true) (A:0<=S.bE/\S.bE<=bP) (N:Int) (V:List UInt8) (args:List Nd) (hz:aU args<=8589934593) (B s:List Ty) (r:List Ty×Bool) (hf:bN 84 args=some B) (G:dJ s S.st) (hl:s.length<=340) (p:r.1.all bw=true) (E:bY 84 B s=(r,0)):bp N V 84 args S/\bQ S r (aH 84 args S):=by
 obtain⟨a,b,c,d,st,fr,g,u,m,said⟩:=S;obtain⟨rfl,rfl⟩:=cE hf cc;have ey:=bH G;simp only at G ey I A;rcases s with _|⟨t1,_|⟨t2,s⟩⟩
 ·cases E
 ·cases E
 obtain⟨v,q0,rfl,hv,rK⟩:=bg G;obtain⟨w,q,rfl,hw,hq⟩:=bg rK;have f1:=cQ hv.1;have f2:=cQ hw.1;obtain⟨T2,Cb⟩:=t2;simp only[aac]at ey hl;have O:(if T2=4/\fC t1=true then ee (.mk 9 [.mk 15 [t1]]::s)else aP 5)=(r,0):=E;split at O;rotate_left
 ·cases O
 rename_i c1;cases O;obtain⟨rfl,_⟩:=c1;obtain⟨n,rfl,g2⟩:=fD cc f2.2.1;have P:=jD cc g2;have U:=P.2 cc;have M:=vY I;unfold bp;have e:aH 84 [] ⟨a,b,c,d,v::aO 4 n::q,fr,g,u,m,said⟩=(if n=0 then bl ⟨a,b,c,d,q,fr,g,u,m,said⟩ [cB []]else if m>bP-n then(11,⟨a,b,c,d,q,fr,g,u,m,said⟩)else bl ⟨a,b,c,d,q,fr,g,u,m+n,said⟩ [cB [.mk 15 n a [] [v] [] []]]):=by unfold aH;rw[HL];rfl
 rw[e];have hsz:=hv.2;have qA:=f1.2;obtain⟨D,K,C,Y,W,H,Q⟩:=v;have J:∀(e:Int) (S':bT),cC 89 ⟨a,b,c,d,q,fr,g,u,m,said⟩ [.c (aX (.mk 2 N 84 V [])),.c (.sl 7 (aa [.mk D K C Y W H Q,aO 4 n]))] (aF e) S'->cC 57 ⟨a,b,c,d,.mk D K C Y W H Q::aO 4 n::q,fr,g,u,m,said⟩ [.c (aX (.mk 2 N 84 V []))] (aF e) S':=fun e S' h =>
  jC _ _ 2 N 84 V _ [_,_] q _ cc (by rw[HL];rfl) (by show List.length (Vl.mk D K C Y W H Q::aO 4 n::q)<=_;simp only[aac];omega) h
 by_cases T:n=0
 ·rw[if_pos T];exact⟨J _ _ (Km ⟨a,b,c,d,q,fr,g,u,m,said⟩ N V D K C Y W H Q 4 n 0 [] [] [] [] T cm),b9 (S:=⟨a,b,c,d,q,fr,g,u,m,said⟩) (fo (bG p) mY) hq⟩
 rw[if_neg T];by_cases h1:m>bP-n
 ·rw[if_pos h1];exact⟨J _ _ (Kn ⟨a,b,c,d,q,fr,g,u,m,said⟩ N V D K C Y W H Q 4 n 0 [] [] [] [] T ⟨U,P.1.2⟩ h1 cm),.inr (.inl rfl)⟩
 ·rw[if_neg h1];exact⟨J _ _ (Ko ⟨a,b,c,d,q,fr,g,u,m,said⟩ N V D K C Y W H Q 4 n 0 [] [] [] [] T ⟨U,P.1.2⟩ h1 A.1 bn cm),b9 (S:=⟨a,b,c,d,q,fr,g,u,m+n,said⟩) (fo (bG p) (iM (vz ⟨bn,P.1.2⟩ M.1 qA))) hq⟩
theorem MW (S:bT) (hE:nD S.self S.gO S.gP S.balance=true) (hm:0<=S.bE/\S.bE<=bP) (N:Int) (V:List UInt8) (args:List Nd) (hz:aU args<=8589934593) (B s:List Ty) (r:List Ty×Bool) (hf:bN 85 args=some B) (Y:dJ s S.st) (hl:s.length<=340) (E:r.1.all bw=true) (K:bY 85 B s=(r,0)):bp N V 85 args S/\bQ S r (aH 85 args S):=by
 obtain⟨a,b,c,d,st,fr,g,u,m,said⟩:=S;obtain⟨rfl,rfl⟩:=cE hf cc;have M:=bH Y;simp only at Y M hE hm;cases s with
 | nil=>cases K
 | cons t s =>
 obtain⟨v,q,rfl,P,hq⟩:=bg Y;have W:=cQ P.1;simp only[aac]at M hl;obtain⟨T,ts⟩:=t;have U:(if T=15 then ee (.mk 11 [.mk 7 [],.mk 11 [aE (.mk T ts) 0,.mk 4 []]] :: .mk T ts::s)else aP 5)=(r,0):=K;split at U;rotate_left
 ·cases U
 rename_i c1;subst c1;obtain⟨t,rfl,L4⟩:=eV (cL W.1) cc;cases U;obtain⟨n,p,x,rfl,O,C,J⟩:=zx W.2.1 W.2.2;have hsz:=P.2;unfold bp;have e:aH 85 [] ⟨a,b,c,d,.mk 15 n p [] [x] [] []::q,fr,g,u,m,said⟩=bl ⟨a,b,c,d,q,fr,g,u,m,said⟩ [.mk 15 n p [] [x] [] [],bz (aO 7 p) (bz x (aO 4 n))]:=by unfold aH;rw[OC];rfl
 rw[e];have Q:bK (bz (aO 7 p) (bz x (aO 4 n))) (.mk 11 [.mk 7 [],.mk 11 [t,.mk 4 []]])=true/\eJ (bz (aO 7 p) (bz x (aO 4 n)))=true :=
  kL (mX (.inr (.inr (.inr (.inr ⟨rfl,C⟩))))) (kL J (mX (.inr (.inr (.inl ⟨rfl,bn,O.2⟩)))))
 have U4:=bG E;have R6:=bG (Kp E);obtain⟨I,D,H,G,A,cK,dH⟩:=x;exact⟨jC _ _ 2 N 85 V _ [_] q _ cc (by rw[OC];rfl) (by show List.length (Vl.mk 15 n p [] [.mk I D H G A cK dH] [] []::q)<=_;simp only[aac];omega) (MX ⟨a,b,c,d,q,fr,g,u,m,said⟩ N V 15 n p [] [] [] [] I D H G A cK dH bn cm),HS (S:=⟨a,b,c,d,q,fr,g,u,m,said⟩) (fo U4 Q) (fo R6 (vz O C J)) hq⟩
end Go.Proofs
namespace Go.Proofs
open Go.cq
theorem Tu {n a:Int} {x:Vl} {t:Ty} {ts:List Ty} (Y:0<=n/\n<=bP) (u:0<=a/\a<12) (E:bw t=true) (h:bK x t=true/\eJ x=true):bK (.mk 8 n a [] [x] [t] []) (.mk 8 ts)=true/\eJ (.mk 8 n a [] [x] [t] [])=true:=by
 simp[bK,cw,bR,aR,eJ,eu,h,Y,u,E]
theorem D1 (S:bT) (hE:nD S.self S.gO S.gP S.balance=true) (hm:0<=S.bE/\S.bE<=bP) (N:Int) (U:List UInt8) (args:List Nd) (hz:aU args<=8589934593) (B s:List Ty) (r:List Ty×Bool) (hf:bN 88 args=some B) (G:dJ s S.st) (hl:s.length<=340) (hg:r.1.all bw=true) (E:bY 88 B s=(r,0)):bp N U 88 args S/\bQ S r (aH 88 args S):=by
 obtain⟨a,b,c,d,st,fr,g,u,m,said⟩:=S;obtain⟨x,rfl,hx,rfl⟩:=AN hf cc;have M:=bH G;simp only at G M hE hm;rcases s with _|⟨J,_|⟨t2,_|⟨t3,s⟩⟩⟩
 ·cases E
 ·cases E
 ·cases E
 obtain⟨v,q0,rfl,I,rK⟩:=bg G;obtain⟨w,q1,rfl,hw,XK⟩:=bg rK;obtain⟨y,q,rfl,hy,hq⟩:=bg XK;have A:=cQ I.1;have f2:=cQ hw.1;have f3:=cQ hy.1;obtain⟨T2,Cb⟩:=t2;obtain⟨T3,ts3⟩:=t3;simp only[aac]at M hl;have T:(if T2=5/\T3=7/\cP J (aZ x).1=true/\ju J=true then ee (.mk 8 []::s)else aP 5)=(r,0):=E;split at T;rotate_left
 ·cases T
 rename_i c1;cases T;obtain⟨rfl,rfl,c3,_⟩:=c1;have et:=(gh _ _).1 c3;obtain⟨n,rfl,g2⟩:=fD cc f2.2.1;obtain⟨p,rfl,g3⟩:=fD cc f3.2.1;have r2:=jD cc g2;have P:=r2.2 cc;have O:=(MY g3).2.2.2.2 rfl;simp only[aU]at hz;unfold bp;have e:aH 88 [x] ⟨a,b,c,d,v::aO 5 n::aO 7 p::q,fr,g,u,m,said⟩=bl ⟨a,b,c,d,q,fr,g,u,m,said⟩ [.mk 8 n p [] [v] [(aZ x).1] []]:=by unfold aH;rw[OF];rfl
 rw[e];have hsz:=I.2;have qA:=A.2;have Y:=A.1;rw[et]at qA Y;have htz:=(cL Y).2;obtain⟨D,K,C,V,W,H,Q⟩:=v;exact⟨jC _ _ 2 N 88 U _ [_,_,_] q _ cc (by rw[OF];rfl) (by show List.length (Vl.mk D K C V W H Q::aO 5 n::aO 7 p::q)<=_;simp only[aac];omega) (D2 ⟨a,b,c,d,q,fr,g,u,m,said⟩ N U D K C V W H Q 5 n 0 [] [] [] [] 7 p 0 [] [] [] [] x bn (by show aM (.mk 8 n p [] [_] [_] [])<=_;rw[show aM (.mk 8 n p [] [.mk D K C V W H Q] [(aZ x).1] [])=0+(aM (.mk D K C V W H Q)+0)+(bA (aZ x).1+0)+0+1 from rfl];omega) cm),b9 (S:=⟨a,b,c,d,q,fr,g,u,m,said⟩) (fo (bG hg) (Tu ⟨P,r2.1.2⟩ O Y qA)) hq⟩
theorem Kq (S:bT) (hE:nD S.self S.gO S.gP S.balance=true) (hm:0<=S.bE/\S.bE<=bP) (N:Int) (V:List UInt8) (args:List Nd) (hz:aU args<=8589934593) (B s:List Ty) (r:List Ty×Bool) (hf:bN 86 args=some B) (G:dJ s S.st) (hl:s.length<=340) (I:r.1.all bw=true) (E:bY 86 B s=(r,0)):bp N V 86 args S/\bQ S r (aH 86 args S):=by
 obtain⟨a,b,c,d,st,fr,g,u,m,said⟩:=S;obtain⟨rfl,rfl⟩:=cE hf cc;have H:=bH G;simp only at G H hE hm;rcases s with _|⟨t1,_|⟨t2,s⟩⟩
 ·cases E
 ·cases E
 obtain⟨v,q0,rfl,D,rK⟩:=bg G;obtain⟨w,q,rfl,hw,hq⟩:=bg rK;have T:=cQ D.1;have Q:=cQ hw.1;obtain⟨C,F4⟩:=t1;obtain⟨P,A⟩:=t2;simp only[aac]at H hl;have K:(if C=15/\P=11/\bR (aE (.mk P A) 0)=4/\bR (aE (.mk P A) 1)=4 then ee (.mk 9 [.mk 11 [.mk C F4,.mk C F4]]::s)else aP 5)=(r,0):=E;split at K;rotate_left
 ·cases K
 rename_i c1;cases K;obtain⟨rfl,rfl,c3,c4⟩:=c1;obtain⟨t,rfl,L4⟩:=eV (cL T.1) cc;obtain⟨⟨U1,P1⟩,⟨U2,us2⟩,rfl,R9,ok3⟩:=eL (cL Q.1) cc;have O:U1=4:=c3;have M:U2=4:=c4;subst O M;obtain⟨n,p,x,rfl,hn,ha,hx⟩:=zx T.2.1 T.2.2;obtain⟨y,z,rfl,hy,Rx⟩:=vA Q.2.1 Q.2.2;obtain⟨i,rfl,gi⟩:=fD cc hy.1;obtain⟨j,rfl,gj⟩:=fD cc Rx.1;have Y:=jD cc gi;have W:=jD cc gj;have J:=Y.2 cc;have U:=W.2 cc;have hsz:=D.2;unfold bp;have e:aH 86 [] ⟨a,b,c,d,.mk 15 n p [] [x] [] []::bz (aO 4 i) (aO 4 j)::q,fr,g,u,m,said⟩=(if i<1\/j<1\/i+j≠n then bl ⟨a,b,c,d,q,fr,g,u,m,said⟩ [cB []]else bl ⟨a,b,c,d,q,fr,g,u,m,said⟩ [cB [bz (.mk 15 i p [] [x] [] []) (.mk 15 j p [] [x] [] [])]]):=by unfold aH;rw[OD];rfl
 rw[e];have hk:∀(e:Int) (S':bT),cC 89 ⟨a,b,c,d,q,fr,g,u,m,said⟩ [.c (aX (.mk 2 N 86 V [])),.c (.sl 7 (aa [.mk 15 n p [] [x] [] [],bz (aO 4 i) (aO 4 j)]))] (aF e) S'->cC 57 ⟨a,b,c,d,.mk 15 n p [] [x] [] []::bz (aO 4 i) (aO 4 j)::q,fr,g,u,m,said⟩ [.c (aX (.mk 2 N 86 V []))] (aF e) S':=fun e S' h =>
  jC _ _ 2 N 86 V _ [_,_] q _ cc (by rw[OD];rfl) (by show List.length (Vl.mk 15 n p [] [x] [] []::bz (aO 4 i) (aO 4 j)::q)<=_;simp only[aac];omega) h
 by_cases h:i<1\/j<1\/i+j≠n
 ·rw[if_pos h];refine⟨hk _ _ ?_,b9 (S:=⟨a,b,c,d,q,fr,g,u,m,said⟩) (fo (bG I) mY) hq⟩;by_cases h1:i<1
  ·exact E6 ⟨a,b,c,d,q,fr,g,u,m,said⟩ N V 15 n p [] [x] [] [] 11 0 0 [] [] [] [] 4 i 0 [] [] [] [] 4 j 0 [] [] [] [] ⟨J,Y.1.2⟩ ⟨U,W.1.2⟩ h1 cm
  by_cases h2:j<1
  ·exact E7 ⟨a,b,c,d,q,fr,g,u,m,said⟩ N V 15 n p [] [x] [] [] 11 0 0 [] [] [] [] 4 i 0 [] [] [] [] 4 j 0 [] [] [] [] ⟨J,Y.1.2⟩ ⟨U,W.1.2⟩ h1 h2 cm
  ·exact E8 ⟨a,b,c,d,q,fr,g,u,m,said⟩ N V 15 n p [] [x] [] [] 11 0 0 [] [] [] [] 4 i 0 [] [] [] [] 4 j 0 [] [] [] [] ⟨J,Y.1.2⟩ ⟨U,W.1.2⟩ h1 h2 bn cm
 ·rw[if_neg h];exact⟨hk _ _ (HT ⟨a,b,c,d,q,fr,g,u,m,said⟩ N V 15 n p [] [x] [] [] 11 0 0 [] [] [] [] 4 i 0 [] [] [] [] 4 j 0 [] [] [] [] ⟨J,Y.1.2⟩ ⟨U,W.1.2⟩ h bn cm),b9 (S:=⟨a,b,c,d,q,fr,g,u,m,said⟩) (fo (bG I) (iM (kL (vz ⟨bn,Y.1.2⟩ ha hx) (vz ⟨bn,W.1.2⟩ ha hx)))) hq⟩
theorem MZ (S:bT) (hE:nD S.self S.gO S.gP S.balance=true) (hm:0<=S.bE/\S.bE<=bP) (J:Int) (U:List UInt8) (args:List Nd) (hz:aU args<=8589934593) (B s:List Ty) (r:List Ty×Bool) (hf:bN 87 args=some B) (hs:dJ s S.st) (hl:s.length<=340) (hg:r.1.all bw=true) (hc:bY 87 B s=(r,0)):bp J U 87 args S/\bQ S r (aH 87 args S):=by
 obtain⟨a,b,c,d,st,fr,g,u,m,said⟩:=S;obtain⟨rfl,rfl⟩:=cE hf cc;have ey:=bH hs;simp only at hs ey hE hm;cases s with
 | nil=>cases hc
 | cons t s =>
 obtain⟨v,q,rfl,hv,hq⟩:=bg hs;have K:=cQ hv.1;simp only[aac]at ey hl;obtain⟨T,ts⟩:=t;have de:(if T=11/\bR (aE (.mk T ts) 0)=15/\cP (aE (.mk T ts) 0) (aE (.mk T ts) 1)=true then ee (.mk 9 [aE (.mk T ts) 0]::s)else aP 5)=(r,0):=hc;split at de;rotate_left
 ·cases de
 rename_i c1;obtain⟨rfl,c2,c3⟩:=c1;obtain⟨⟨U1,P1⟩,t2,rfl,R9,ok3⟩:=eL (cL K.1) cc;cases de;have ZI:U1=15:=c2;subst ZI;have et:Ty.mk 15 P1=t2:=(gh _ _).1 c3;subst et;obtain⟨t,rfl,L4⟩:=eV R9 cc;obtain⟨X,Y,rfl,hX,hY⟩:=vA K.2.1 K.2.2;obtain⟨W,H,x,rfl,C,Xm,hx⟩:=zx hX.1 hX.2;obtain⟨V,G,y,rfl,A,ha4,hy⟩:=zx hY.1 hY.2;have hsz:=hv.2;rw[show aM (bz (.mk 15 W H [] [x] [] []) (.mk 15 V G [] [y] [] []))=0+((0+(aM x+0)+0+0+1)+((0+(aM y+0)+0+0+1)+0))+0+0+1 from rfl]at hsz;have EH:=dr (iH (mo K.1)).2 (show Ty.mk 15 [t]∈aA (.mk 11 [.mk 15 [t],.mk 15 [t]])by simp[aA]);have QY:=dr (iH EH).2 (show t∈aA (.mk 15 [t])by simp[aA]);have Q:=zy x y t QY hx.1 hy.1 bn;unfold bp;have e:aH 87 [] ⟨a,b,c,d,bz (.mk 15 W H [] [x] [] []) (.mk 15 V G [] [y] [] [])::q,fr,g,u,m,said⟩=(if H≠G\/dx x y≠0 then bl ⟨a,b,c,d,q,fr,g,u,m,said⟩ [cB []]else if W>bP-V then(11,⟨a,b,c,d,q,fr,g,u,m,said⟩)else bl ⟨a,b,c,d,q,fr,g,u,m,said⟩ [cB [.mk 15 (W+V) H [] [x] [] []]]):=by unfold aH;rw[OE];rfl
 rw[e];have hk:∀(e:Int) (S':bT),cC 89 ⟨a,b,c,d,q,fr,g,u,m,said⟩ [.c (aX (.mk 2 J 87 U [])),.c (.sl 7 (aa [bz (.mk 15 W H [] [x] [] []) (.mk 15 V G [] [y] [] [])]))] (aF e) S'->cC 57 ⟨a,b,c,d,bz (.mk 15 W H [] [x] [] []) (.mk 15 V G [] [y] [] [])::q,fr,g,u,m,said⟩ [.c (aX (.mk 2 J 87 U []))] (aF e) S':=fun e S' h =>
  jC _ _ 2 J 87 U _ [_] q _ cc (by rw[OE];rfl) (by show List.length (bz (.mk 15 W H [] [x] [] []) (.mk 15 V G [] [y] [] [])::q)<=_;simp only[aac];omega) h
 have hX2:=fun N (hN:1<=N/\N<=bP)=>vz (n:=N) hN Xm hx;generalize qA:dx x y=cv at *;have af4:aM x<=1000000000:=by omega
 clear hsz hv K hX hY hs hc;obtain⟨P,D,p,M,O,I,E⟩:=x;obtain⟨k5,n5,a5,s5,jZ,hD,j6⟩:=y;by_cases h:H≠G\/cv≠0
 ·rw[if_pos h];refine⟨hk _ _ ?_,b9 (S:=⟨a,b,c,d,q,fr,g,u,m,said⟩) (fo (bG hg) mY) hq⟩;by_cases h1:H≠G
  ·exact Kr ⟨a,b,c,d,q,fr,g,u,m,said⟩ J U 11 0 0 [] [] [] [] 15 W H [] [] [] [] P D p M O I E 15 V G [] [] [] [] k5 n5 a5 s5 jZ hD j6 h1 cm
  ·exact Ks ⟨a,b,c,d,q,fr,g,u,m,said⟩ J U 11 0 0 [] [] [] [] 15 W H [] [] [] [] P D p M O I E 15 V G [] [] [] [] k5 n5 a5 s5 jZ hD j6 cv Q bn bn cm
 ·rw[if_neg h];have h1:H=G:=by omega
  have h2:cv=0:=by omega
  subst h2;by_cases h3:W>bP-V
  ·rw[if_pos h3];exact⟨hk _ _ (Kt ⟨a,b,c,d,q,fr,g,u,m,said⟩ J U 11 0 0 [] [] [] [] 15 W H [] [] [] [] P D p M O I E 15 V G [] [] [] [] k5 n5 a5 s5 jZ hD j6 Q h1 ⟨bn,C.2⟩ ⟨bn,A.2⟩ h3 cm),.inr (.inl rfl)⟩
  ·rw[if_neg h3];exact⟨hk _ _ (Ku ⟨a,b,c,d,q,fr,g,u,m,said⟩ J U 11 0 0 [] [] [] [] 15 W H [] [] [] [] P D p M O I E 15 V G [] [] [] [] k5 n5 a5 s5 jZ hD j6 Q h1 ⟨bn,C.2⟩ ⟨bn,A.2⟩ h3 (by rw[show aM (.mk 15 W H [] [.mk P D p M O I E] [] [])=0+(aM (.mk P D p M O I E)+0)+0+0+1 from rfl];omega) cm),b9 (S:=⟨a,b,c,d,q,fr,g,u,m,said⟩) (fo (bG hg) (iM (hX2 _ ⟨bn,bn⟩))) hq⟩
end Go.Proofs
namespace Go.Proofs
open Go.cq
theorem Cf {v:Vl} {t u:Ty} (h:bK v (.mk 13 [t,u])=true) (Y:eJ v=true):∃l,v = .mk 13 0 0 [] l [] []/\l.length<=24/\aR l (.mk 11 [t,u])=true/\xo l=true/\eu l=true:=by
 obtain⟨k,n,a,s,args,B,H⟩:=v;obtain⟨D,A,_⟩:=lT h;simp only[bR]at D;subst D;simp[cw]at A;simp[bK,cw,bR,aE,aA]at h;obtain⟨rfl,rfl,rfl,rfl⟩:=A;simp[eJ]at Y;obtain⟨_,⟨⟨h1,h2⟩,V⟩,W⟩:=h;exact⟨args,by rw[h1],h2,V,W,Y⟩
theorem zz {l:List Vl} {t u:Ty} (A:l.length<=24) (h:aR l (.mk 11 [t,u])=true) (p:xo l=true) (Y:eu l=true):bK (.mk 13 0 0 [] l [] []) (.mk 13 [t,u])=true/\eJ (.mk 13 0 0 [] l [] [])=true:=by simp[bK,cw,bR,aE,aA,eJ,h,Y,A,p]
theorem VC {P:Int} {args:List Nd} {B:List Ty} (h:bN P args=some B) (G:fN P=[116,116]):∃x y,args=[x,y]/\(aZ x).2=0/\(aZ y).2=0/\B=[(aZ x).1,(aZ y).1]:=by
 obtain⟨h1,h2⟩:=jL h;rw[G]at h1 h2;rcases args with _|⟨x,_|⟨y,_|⟨z,r⟩⟩⟩
 ·simp at h1
 ·simp at h1
 ·obtain⟨kind,N,p,q,xs⟩:=x;obtain⟨Y,V,U,T,W⟩:=y;have S:(if(aZ (.mk kind N p q xs)).2=0 then(if(aZ (.mk Y V U T W)).2=0 then some ([]++[(aZ (.mk kind N p q xs)).1]++[(aZ (.mk Y V U T W)).1])else none)else none)=some B:=h2;split at S
  ·grind
  ·cases S
 ·simp at h1
theorem OK:bO 57=2:=by decide +kernel
theorem OL:bO 59=1:=by decide +kernel
theorem OM:bO 61=0:=by decide +kernel
theorem M0 (S:bT) (N:Int) (V:List UInt8) (args:List Nd) (O:List (List Ty->CR)) (B s:List Ty) (r:List Ty×Bool) (hf:bN 57 args=some B) (Y:dJ s S.st) (hl:s.length<=340) (hg:r.1.all bw=true) (E:aW 57 O B s=(r,0)):bp N V 57 args S/\bQ S r (aH 57 args S):=by
 obtain⟨a,b,c,d,st,fr,g,u,m,said⟩:=S;obtain⟨rfl,rfl⟩:=cE hf cc;have G:=bH Y;simp only at Y G;rcases s with _|⟨U,_|⟨t2,s⟩⟩
 ·cases E
 ·cases E
 obtain⟨v,q0,rfl,D,rK⟩:=bg Y;obtain⟨w,q,rfl,C,hq⟩:=bg rK;have f1:=cQ D.1;have T:=cQ C.1;obtain⟨P,A⟩:=t2;simp only[aac]at G hl;have K:(if P=10/\cP U (aE (.mk P A) 0)=true then ee (.mk P A::s)else aP 5)=(r,0):=E;split at K;rotate_left
 ·cases K
 rename_i c1;cases K;obtain⟨rfl,c2⟩:=c1;obtain⟨t,rfl,L4⟩:=eV (cL T.1) cc;have et:U=t:=(gh _ _).1 c2;subst et;obtain⟨l,rfl,yo,Q,M⟩:=zA T.2.1 T.2.2;have hsz:=D.2;have I:=C.2;simp only[aM,aY,aU,aad]at I;unfold bp;have e:aH 57 [] ⟨a,b,c,d,v :: .mk 10 0 0 [] l [] []::q,fr,g,u,m,said⟩=(if 24<=l.length then(13,⟨a,b,c,d,q,fr,g,u,m,said⟩)else bl ⟨a,b,c,d,q,fr,g,u,m,said⟩ [.mk 10 0 0 [] (v::l) [] []]):=by unfold aH;rw[OK];rfl
 rw[e];have p:=f1.2;have J:aR (v::l) U=true:=by simp[aR,p.1,Q]
 have H:eu (v::l)=true:=by simp[eu,p.2,M]
 have qy:aM (.mk 10 0 0 [] (v::l) [] [])<=8589934593:=by simp only[aM,aJ,aY,aU,aad];omega
 have hk:∀(e:Int) (S':bT),cC 86 ⟨a,b,c,d,q,fr,g,u,m,said⟩ [.c (aX (.mk 2 N 57 V [])),.c (.sl 7 (aa [v,.mk 10 0 0 [] l [] []]))] (aF e) S'->cC 57 ⟨a,b,c,d,v :: .mk 10 0 0 [] l [] []::q,fr,g,u,m,said⟩ [.c (aX (.mk 2 N 57 V []))] (aF e) S':=fun e S' h =>
  qm _ _ 2 N 57 V _ [_,_] q _ cc (by rw[OK];rfl) (by show List.length (v::Vl.mk 10 0 0 [] l [] []::q)<=_;simp only[aac];omega) h
 obtain⟨k1,n1,a1,s1,W,af,aB⟩:=v;by_cases h:24<=l.length
 ·rw[if_pos h];exact⟨hk _ _ (Kv ⟨a,b,c,d,q,fr,g,u,m,said⟩ N V k1 n1 a1 s1 W af aB 10 0 0 [] l [] [] h cm),.inr (.inr rfl)⟩
 ·rw[if_neg h];exact⟨hk _ _ (Kw ⟨a,b,c,d,q,fr,g,u,m,said⟩ N V k1 n1 a1 s1 W af aB 10 0 0 [] l [] [] h qy cm),b9 (S:=⟨a,b,c,d,q,fr,g,u,m,said⟩) (fo (bG hg) (D3 dZ J H)) hq⟩
theorem M1 (S:bT) (N:Int) (V:List UInt8) (args:List Nd) (O:List (List Ty->CR)) (B s:List Ty) (r:List Ty×Bool) (hf:bN 59 args=some B) (G:dJ s S.st) (A:s.length<=340) (I:r.1.all bw=true) (E:cJ 59 O B s=(r,0)):bp N V 59 args S/\bQ S r (aH 59 args S):=by
 obtain⟨a,b,c,d,st,fr,g,u,m,said⟩:=S;obtain⟨rfl,rfl⟩:=cE hf cc;have M:=bH G;simp only at G M;cases s with
 | nil=>cases E
 | cons t s =>
 obtain⟨v,q,rfl,P,hq⟩:=bg G;have Y:=cQ P.1;obtain⟨T,ts⟩:=t;simp only[aac]at M A;have U:(if T=6\/T=10\/T=13 then ee (.mk 4 []::s)else aP 5)=(r,0):=E;split at U;rotate_left
 ·cases U
 rename_i p;cases U;have hb:(vS v).length+(eC v).length<=200:=by
  rcases p with rfl|rfl|rfl
  ·obtain⟨Q,rfl,g1⟩:=wH Y.2.1;simpa[vS,eC]using g1
  ·obtain⟨t,rfl,_⟩:=eV (cL Y.1) cc;obtain⟨l,rfl,yo,_,_⟩:=zA Y.2.1 Y.2.2;simp[vS,eC];omega
  ·obtain⟨t,t',rfl,_,_⟩:=eL (cL Y.1) cc;obtain⟨l,rfl,yo,_,_,_⟩:=Cf Y.2.1 Y.2.2;simp[vS,eC];omega
 unfold bp;have e:aH 59 [] ⟨a,b,c,d,v::q,fr,g,u,m,said⟩=bl ⟨a,b,c,d,q,fr,g,u,m,said⟩ [aO 4 (((vS v).length+(eC v).length:Nat):Int)]:=by unfold aH;rw[OL];rfl
 rw[e];clear P Y G E;obtain⟨D,K,C,Q,W,H,J⟩:=v;simp only[vS,eC]at hb ⊢;exact⟨qm _ _ 2 N 59 V _ [_] q _ cc (by rw[OL];rfl) (by show List.length (Vl.mk D K C Q W H J::q)<=_;simp only[aac];omega) (M3 ⟨a,b,c,d,q,fr,g,u,m,said⟩ N V D K C Q W H J bn cm),b9 (S:=⟨a,b,c,d,q,fr,g,u,m,said⟩) (fo (bG I) (iT cc gS (fun _=>by omega))) hq⟩
theorem Kx (S:bT) (N:Int) (V:List UInt8) (args:List Nd) (O:List (List Ty->CR)) (B s:List Ty) (r:List Ty×Bool) (hf:bN 61 args=some B) (Y:dJ s S.st) (A:s.length<=340) (E:r.1.all bw=true) (K:cJ 61 O B s=(r,0)):bp N V 61 args S/\bQ S r (aH 61 args S):=by
 obtain⟨a,b,c,d,q,fr,g,u,m,said⟩:=S;obtain⟨x,y,rfl,W,J,rfl⟩:=VC hf cc;have M:=bH Y;simp only at Y M;have U:(if fC (aZ x).1=true then ee (.mk 13 [(aZ x).1,(aZ y).1]::s)else aP 5)=(r,0):=K;split at U;rotate_left
 ·cases U
 cases U;unfold bp;have e:aH 61 [x,y] ⟨a,b,c,d,q,fr,g,u,m,said⟩=bl ⟨a,b,c,d,q,fr,g,u,m,said⟩ [.mk 13 0 0 [] [] [] []]:=by unfold aH;rw[OM];rfl
 rw[e];exact⟨qm _ _ 2 N 61 V _ [] q _ cc (by rw[OM];rfl) cm (Ky ⟨a,b,c,d,q,fr,g,u,m,said⟩ N V x y cm),b9 (S:=⟨a,b,c,d,q,fr,g,u,m,said⟩) (fo (bG E) (zz cc rfl rfl rfl)) Y⟩
end Go.Proofs
namespace Go.Proofs
open Go.cq
theorem nX {x:Vl} {t u:Ty} (h:bK x (.mk 11 [t,u])=true):∃y z,x=bz y z/\bK y t=true/\bK z u=true:=by
 obtain⟨k,n,a,s,args,B,H⟩:=x;obtain⟨D,A,_⟩:=lT h;simp only[bR]at D;subst D;simp[cw]at A;simp[bK,cw,bR,aA]at h;obtain⟨rfl,rfl,rfl,rfl⟩:=A;rcases args with _|⟨x,_|⟨y,_|⟨z,r⟩⟩⟩
 ·simp at h
 ·simp at h
 ·simp[cW]at h;exact⟨x,y,by rw[h.1];rfl,h.2.1,h.2.2⟩
 ·simp at h
theorem wI (y z:Vl):lJ (bz y z)=y:=rfl
theorem Gi {t:Ty} (E:fC t=true) (G:gm t=false) {a b c:Vl} (h1:bK a t=true) (h2:bK b t=true) (V:bK c t=true) (P:dx a b<0) (q:dx b c<0):dx a c<0:=by
 obtain⟨_,_,_,_,g⟩:=zB a b c t E G h1 h2 V;have:=g.1 bn bn;omega
theorem M4 {t u:Ty} (E:fC t=true) (G:gm t=false):∀(l:List Vl) (x:Vl),aR (x::l) (.mk 11 [t,u])=true->xo (x::l)=true->∀y∈l,dx (lJ x) (lJ y)<0
 | [],x,_,_,y,N=>by simp at N
 | z::r,x,hA,hu,y,N=>by
  simp only[aR,aai]at hA;simp only[xo,aai,decide_eq_true_eq]at hu;rcases List.mem_cons.1 N with rfl|Y
  ·exact hu.1
  ·have S:=M4 E G r z (by simp only[aR,aai];exact hA.2) (by simpa[xo]using hu.2) y Y;obtain⟨q,T,rfl,O,_⟩:=nX hA.1;obtain⟨D,C,rfl,I,_⟩:=nX hA.2.1;have W:=(eY (.mk 11 [t,u]) r).1 hA.2.2 y Y;obtain⟨B,J,rfl,V,_⟩:=nX W;exact Gi E G O I V hu.1 S
theorem ON {t u:Ty} (E:fC t=true) (G:gm t=false) {k:Vl} (D:bK k t=true):∀(l:List Vl),aR l (.mk 11 [t,u])=true->xo l=true->∀(i:Nat) x,cg l k<=i->l[i]?=some x->¬dx (lJ x) k<0
 | [],_,_,i,x,_,h=>by simp at h
 | z::l,hA,hu,i,x,hi,h=>by
  have Y:bK z (.mk 11 [t,u])=true/\aR l (.mk 11 [t,u])=true:=by simpa[aR]using hA
  have T:xo l=true:=by
   cases l with
   | nil=>rfl
   | cons y r=>simp only[xo,aai]at hu;simpa[xo]using hu.2
  by_cases W:dx (lJ z) k<0
  ·simp only[cg,W,if_true]at hi;cases i with
   | zero=>omega
   | succ j=>exact ON E G D l Y.2 T j x bn nu
  ·cases i with
   | zero=>simp at h;subst h;exact W
   | succ j =>
    have U:=aaw (show l[j]?=some x by simpa using h);have C:=M4 E G l z hA hu x U;obtain⟨Q,P,rfl,S,_⟩:=nX Y.1;obtain⟨N,M,rfl,V,_⟩:=nX ((eY (.mk 11 [t,u]) l).1 Y.2 x U);intro O;exact W (Gi E G S V D C O)
theorem D4 {l:List Vl} {t u:Ty} {k:Vl} (E:fC t=true) (G:gm t=false) (Q:aR l (.mk 11 [t,u])=true) (A:xo l=true) (D:bK k t=true) (p:l.length<=24) (Y:aJ l<=1000000000):ag 113 [.sl 7 (aa l),bM k] (.gy [aF (cg l k:Nat),.bool (eM l k)]):=by
 refine HU l k bn (fun x O=>?_) (ON E G D l Q A);obtain⟨y,z,rfl,N,_⟩:=nX ((eY (.mk 11 [t,u]) l).1 Q x O);have h1:=dO O;have h2:aM y<=aM (bz y z):=by simp only[bz,aM,aJ];omega
 exact E9 (bz y z) k y t rfl (nY y k t G N D bn)
end Go.Proofs
namespace Go.Proofs
open Go.cq
theorem OO:bO 62=2:=by decide +kernel
theorem OP {t u:Ty} (h:bw (.mk 13 [t,u])=true):fC t=true/\gm t=false:=by
 have h1:=M5 h;simp only[Kz,aai]at h1;have h2:kj [t,u]=true:=by simpa using h1.1
 exact⟨by simpa[kj]using h2,dr (iH (mo h)).2 (show t∈aA (.mk 13 [t,u])by simp[aA])⟩
theorem Qa (S:bT) (N:Int) (V:List UInt8) (args:List Nd) (Y:List (List Ty->CR)) (B s:List Ty) (r:List Ty×Bool) (hf:bN 62 args=some B) (G:dJ s S.st) (hl:s.length<=340) (hg:r.1.all bw=true) (E:cJ 62 Y B s=(r,0)):bp N V 62 args S/\bQ S r (aH 62 args S):=by
 obtain⟨a,b,c,d,st,fr,g,u,m,said⟩:=S;obtain⟨rfl,rfl⟩:=cE hf cc;have ey:=bH G;simp only at G ey;rcases s with _|⟨t1,_|⟨t2,s⟩⟩
 ·cases E
 ·cases E
 obtain⟨v,q0,rfl,hv,rK⟩:=bg G;obtain⟨w,q,rfl,hw,hq⟩:=bg rK;have f1:=cQ hv.1;have T:=cQ hw.1;obtain⟨P,I⟩:=t2;simp only[aac]at ey hl;have A:(if P=13/\cP t1 (aE (.mk P I) 0)=true/\lz (aE (.mk P I) 1)=true then ee (.mk 9 [aE (.mk P I) 1]::s)else aP 5)=(r,0):=E;split at A;rotate_left
 ·cases A
 rename_i c1;obtain⟨rfl,c2,_⟩:=c1;obtain⟨t,t',rfl,L4,R9⟩:=eL (cL T.1) cc;cases A;have et:t1=t:=(gh _ _).1 c2;subst et;obtain⟨l,rfl,yo,U,VD,p⟩:=Cf T.2.1 T.2.2;have hsw:=hw.2;simp only[aM,aY,aU,aad]at hsw;have M6:=OP T.1;have Q:=D4 M6.1 M6.2 U VD f1.2.1 yo bn;unfold bp;have e:aH 62 [] ⟨a,b,c,d,v :: .mk 13 0 0 [] l [] []::q,fr,g,u,m,said⟩=(if eM l v=true then bl ⟨a,b,c,d,q,fr,g,u,m,said⟩ [cB [lV (eC (lV l (cg l v))) 1]]else bl ⟨a,b,c,d,q,fr,g,u,m,said⟩ [cB []]):=by unfold aH;rw[OO];rfl
 rw[e];have hk:∀(e:Int) (S':bT),cC 86 ⟨a,b,c,d,q,fr,g,u,m,said⟩ [.c (aX (.mk 2 N 62 V [])),.c (.sl 7 (aa [v,.mk 13 0 0 [] l [] []]))] (aF e) S'->cC 57 ⟨a,b,c,d,v :: .mk 13 0 0 [] l [] []::q,fr,g,u,m,said⟩ [.c (aX (.mk 2 N 62 V []))] (aF e) S':=fun e S' h =>
  qm _ _ 2 N 62 V _ [_,_] q _ cc (by rw[OO];rfl) (by show List.length (v::Vl.mk 13 0 0 [] l [] []::q)<=_;simp only[aac];omega) h
 by_cases h:eM l v=true
 ·rw[if_pos h];have O:∃x,l[cg l v]?=some x:=by
   unfold eM at h;cases hh:l[cg l v]? with
   | none=>rw[hh]at h;cases h
   | some x=>exact⟨x,rfl⟩
  obtain⟨x,O⟩:=O;have YG:=aaw O;obtain⟨y,z,rfl,hy,Rx⟩:=nX ((eY _ l).1 U x YG);rw[h]at Q;rw[Sn O,show lV (eC (bz y z)) 1=z from rfl];have hsn:eJ z=true:=by
   have:∀{l:List Vl} {x:Vl},eu l=true->x∈l->eJ x=true:=by
    intro l
    induction l with
    | nil=>intro x _ h;simp at h
    | cons y l ih =>
     intro x h O;simp only[eu,aai]at h;rcases List.mem_cons.1 O with rfl|O
     ·exact h.1
     ·exact ih h.2 O
   have h1:=this p YG;simp[bz,eJ,eu]at h1;exact h1.2
  have Jh:=dO YG;have Uo:aM z<=aM (bz y z):=by simp only[bz,aM,aJ];omega
  obtain⟨D,K,C,M,W,H,J⟩:=v;exact⟨hk _ _ (M7 ⟨a,b,c,d,q,fr,g,u,m,said⟩ N V D K C M W H J 13 0 0 [] l [] [] (cg l (.mk D K C M W H J)) Q y y z [] 11 0 0 [] [] O bn cm),b9 (S:=⟨a,b,c,d,q,fr,g,u,m,said⟩) (fo (bG hg) (iM ⟨Rx,hsn⟩)) hq⟩
 ·rw[if_neg h];rw[show eM l v=false by simpa using h]at Q;obtain⟨D,K,C,M,W,H,J⟩:=v;exact⟨hk _ _ (M8 ⟨a,b,c,d,q,fr,g,u,m,said⟩ N V D K C M W H J 13 0 0 [] l [] [] _ Q cm),b9 (S:=⟨a,b,c,d,q,fr,g,u,m,said⟩) (fo (bG hg) mY) hq⟩
end Go.Proofs
