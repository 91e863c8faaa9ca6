/- Package run: typed steps of class world: who is about, tickets made and read, transfers. Package run: typed steps of class world: transfers, tickets split and joined. Package run: typed steps of class items: cons, size, the empty map. Package run: where a key stands in a map that goes up. Package ru -/
import Derived.Test.YtlohbilpimjmmaaGreatDoorRunZ
import Derived.Test.YtlohbilpimjmmaaGreatDoorRunJ
set_option linter.unusedVariables false
set_option linter.unusedSimpArgs false
namespace Go.Proofs
open Go.cu
theorem zi {a b c d:Int} (h:qk a b c d=true):(0<=a/\a<12)/\(0<=b/\b<12)/\(0<=c/\c<=bM)/\(0<=d/\d<=bM):=by
 unfold qk MF MG at h;simp only[Bool.cond_eq_ite,Bool.if_false_right,aaj,decide_eq_true_eq]at h;unfold bM;omega
theorem zj {v:Vl} {t:Ty} (h:bL v (.mk 15 [t])=true) (Y:eK v=true):∃n a x,v = .mk 15 n a [] [x] [] []/\(1<=n/\n<=bM)/\(0<=a/\a<12)/\bL x t=true/\eK x=true:=by
 obtain⟨k,n,a,s,args,H,B⟩:=v;obtain⟨D,T,_⟩:=lP h;simp only[bS]at D;subst D;simp[cB]at T;simp[bL,cB,bS,aD,au]at h;obtain⟨rfl,rfl,rfl⟩:=T;rcases args with _|⟨x,_|⟨y,r⟩⟩
 ·simp at h
 ·simp[aR,eK,ey]at h Y;exact⟨n,a,x,rfl,bn,bn,nt,Y⟩
 ·simp at h
theorem vr {n a:Int} {x:Vl} {t:Ty} (O:1<=n/\n<=bM) (p:0<=a/\a<12) (h:bL x t=true/\eK x=true):bL (.mk 15 n a [] [x] [] []) (.mk 15 [t])=true/\eK (.mk 15 n a [] [x] [] [])=true:=by
 simp[bL,cB,bS,aD,au,aR,eK,ey,h,O,p]
theorem HA:bV 84=2:=by decide +kernel
theorem Oh:bV 85=1:=by decide +kernel
theorem Oi:bV 86=2:=by decide +kernel
theorem Oj:bV 87=1:=by decide +kernel
theorem Ok:bV 88=3:=by decide +kernel
theorem Ol:bV 89=0:=by decide +kernel
theorem Om:bV 90=0:=by decide +kernel
theorem On:bV 91=0:=by decide +kernel
theorem Oo:bV 92=0:=by decide +kernel
theorem MH (S:bT) (T:qk S.self S.gU S.gV S.balance=true) (V:0<=S.aU/\S.aU<=bM) (N:Int) (G:List UInt8) (args:List Nd) (U:aQ args<=8589934593) (H s:List Ty) (r:List Ty×Bool) (hf:bQ 89 args=some H) (Y:dK s S.st) (C:s.length<=340) (Q:r.1.all bA=true) (E:b8 89 H s=(r,0)):bl N G 89 args S/\bR S r (aI 89 args S):=by
 obtain⟨a,b,c,d,q,fr,g,u,m,said⟩:=S;obtain⟨rfl,rfl⟩:=cH hf cc;have B:=bJ Y;simp only at Y B T;cases E;have W:=zi T;unfold bl;have e:aI 89 [] ⟨a,b,c,d,q,fr,g,u,m,said⟩=bg ⟨a,b,c,d,q,fr,g,u,m,said⟩ [aO 7 a]:=by unfold aI;rw[Ol];rfl
 rw[e];exact⟨jE _ _ 2 N 89 G _ [] q _ cc (by rw[Ol];rfl) cm (MI ⟨a,b,c,d,q,fr,g,u,m,said⟩ N G cm),cg (S:=⟨a,b,c,d,q,fr,g,u,m,said⟩) (fu (bE Q) (mS (.inr (.inr (.inr (.inr ⟨rfl,W.1⟩)))))) Y⟩
theorem HB (S:bT) (T:qk S.self S.gU S.gV S.balance=true) (V:0<=S.aU/\S.aU<=bM) (N:Int) (G:List UInt8) (args:List Nd) (U:aQ args<=8589934593) (H s:List Ty) (r:List Ty×Bool) (hf:bQ 90 args=some H) (Y:dK s S.st) (C:s.length<=340) (Q:r.1.all bA=true) (E:b8 90 H s=(r,0)):bl N G 90 args S/\bR S r (aI 90 args S):=by
 obtain⟨a,b,c,d,q,fr,g,u,m,said⟩:=S;obtain⟨rfl,rfl⟩:=cH hf cc;have B:=bJ Y;simp only at Y B T;cases E;have W:=zi T;unfold bl;have e:aI 90 [] ⟨a,b,c,d,q,fr,g,u,m,said⟩=bg ⟨a,b,c,d,q,fr,g,u,m,said⟩ [aO 7 b]:=by unfold aI;rw[Om];rfl
 rw[e];exact⟨jE _ _ 2 N 90 G _ [] q _ cc (by rw[Om];rfl) cm (HC ⟨a,b,c,d,q,fr,g,u,m,said⟩ N G cm),cg (S:=⟨a,b,c,d,q,fr,g,u,m,said⟩) (fu (bE Q) (mS (.inr (.inr (.inr (.inr ⟨rfl,W.2.1⟩)))))) Y⟩
theorem HD (S:bT) (T:qk S.self S.gU S.gV S.balance=true) (V:0<=S.aU/\S.aU<=bM) (N:Int) (G:List UInt8) (args:List Nd) (U:aQ args<=8589934593) (H s:List Ty) (r:List Ty×Bool) (hf:bQ 91 args=some H) (Y:dK s S.st) (C:s.length<=340) (Q:r.1.all bA=true) (E:b8 91 H s=(r,0)):bl N G 91 args S/\bR S r (aI 91 args S):=by
 obtain⟨a,b,c,d,q,fr,g,u,m,said⟩:=S;obtain⟨rfl,rfl⟩:=cH hf cc;have B:=bJ Y;simp only at Y B T;cases E;have W:=zi T;unfold bl;have e:aI 91 [] ⟨a,b,c,d,q,fr,g,u,m,said⟩=bg ⟨a,b,c,d,q,fr,g,u,m,said⟩ [aO 5 c]:=by unfold aI;rw[On];rfl
 rw[e];exact⟨jE _ _ 2 N 91 G _ [] q _ cc (by rw[On];rfl) cm (HE ⟨a,b,c,d,q,fr,g,u,m,said⟩ N G cm),cg (S:=⟨a,b,c,d,q,fr,g,u,m,said⟩) (fu (bE Q) (mS (.inr (.inr (.inr (.inl ⟨rfl,W.2.2.1⟩)))))) Y⟩
theorem EW (S:bT) (T:qk S.self S.gU S.gV S.balance=true) (V:0<=S.aU/\S.aU<=bM) (N:Int) (G:List UInt8) (args:List Nd) (U:aQ args<=8589934593) (H s:List Ty) (r:List Ty×Bool) (hf:bQ 92 args=some H) (Y:dK s S.st) (C:s.length<=340) (Q:r.1.all bA=true) (E:b8 92 H s=(r,0)):bl N G 92 args S/\bR S r (aI 92 args S):=by
 obtain⟨a,b,c,d,q,fr,g,u,m,said⟩:=S;obtain⟨rfl,rfl⟩:=cH hf cc;have B:=bJ Y;simp only at Y B T;cases E;have W:=zi T;unfold bl;have e:aI 92 [] ⟨a,b,c,d,q,fr,g,u,m,said⟩=bg ⟨a,b,c,d,q,fr,g,u,m,said⟩ [aO 5 d]:=by unfold aI;rw[Oo];rfl
 rw[e];exact⟨jE _ _ 2 N 92 G _ [] q _ cc (by rw[Oo];rfl) cm (EX ⟨a,b,c,d,q,fr,g,u,m,said⟩ N G cm),cg (S:=⟨a,b,c,d,q,fr,g,u,m,said⟩) (fu (bE Q) (mS (.inr (.inr (.inr (.inl ⟨rfl,W.2.2.2⟩)))))) Y⟩
theorem HF (S:bT) (A:qk S.self S.gU S.gV S.balance=true) (I:0<=S.aU/\S.aU<=bM) (N:Int) (G:List UInt8) (args:List Nd) (hz:aQ args<=8589934593) (H s:List Ty) (r:List Ty×Bool) (hf:bQ 84 args=some H) (T:dK s S.st) (hl:s.length<=340) (p:r.1.all bA=true) (E:b8 84 H s=(r,0)):bl N G 84 args S/\bR S r (aI 84 args S):=by
 obtain⟨a,b,c,d,st,fr,g,u,m,said⟩:=S;obtain⟨rfl,rfl⟩:=cH hf cc;have eD:=bJ T;simp only at T eD A I;rcases s with _|⟨t1,_|⟨t2,s⟩⟩
 ·cases E
 ·cases E
 obtain⟨v,q0,rfl,hv,rI⟩:=bp T;obtain⟨w,q,rfl,hw,hq⟩:=bp rI;have f1:=cQ hv.1;have f2:=cQ hw.1;obtain⟨T2,B5⟩:=t2;simp only[aaa]at eD hl;have P:(if T2=4/\fG t1=true then ep (.mk 9 [.mk 15 [t1]]::s)else aP 5)=(r,0):=E;split at P;rotate_left
 ·cases P
 rename_i c1;cases P;obtain⟨rfl,_⟩:=c1;obtain⟨n,rfl,g2⟩:=fH cc f2.2.1;have Q:=jF cc g2;have U:=Q.2 cc;have M:=zi A;unfold bl;have e:aI 84 [] ⟨a,b,c,d,v::aO 4 n::q,fr,g,u,m,said⟩=(if n=0 then bg ⟨a,b,c,d,q,fr,g,u,m,said⟩ [cx []]else if m>bM-n then(11,⟨a,b,c,d,q,fr,g,u,m,said⟩)else bg ⟨a,b,c,d,q,fr,g,u,m+n,said⟩ [cx [.mk 15 n a [] [v] [] []]]):=by unfold aI;rw[HA];rfl
 rw[e];have hsz:=hv.2;have qy:=f1.2;obtain⟨Y,K,C,J,W,O,V⟩:=v;have D:∀(e:Int) (S':bT),cE 89 ⟨a,b,c,d,q,fr,g,u,m,said⟩ [.c (aW (.mk 2 N 84 G [])),.c (.sl 7 (aa [.mk Y K C J W O V,aO 4 n]))] (aF e) S'->cE 57 ⟨a,b,c,d,.mk Y K C J W O V::aO 4 n::q,fr,g,u,m,said⟩ [.c (aW (.mk 2 N 84 G []))] (aF e) S':=fun e S' h =>
  jE _ _ 2 N 84 G _ [_,_] q _ cc (by rw[HA];rfl) (by show List.length (Vl.mk Y K C J W O V::aO 4 n::q)<=_;simp only[aaa];omega) h
 by_cases B:n=0
 ·rw[if_pos B];exact⟨D _ _ (J9 ⟨a,b,c,d,q,fr,g,u,m,said⟩ N G Y K C J W O V 4 n 0 [] [] [] [] B cm),cg (S:=⟨a,b,c,d,q,fr,g,u,m,said⟩) (fu (bE p) mT) hq⟩
 rw[if_neg B];by_cases h1:m>bM-n
 ·rw[if_pos h1];exact⟨D _ _ (Ka ⟨a,b,c,d,q,fr,g,u,m,said⟩ N G Y K C J W O V 4 n 0 [] [] [] [] B ⟨U,Q.1.2⟩ h1 cm),.inr (.inl rfl)⟩
 ·rw[if_neg h1];exact⟨D _ _ (Kb ⟨a,b,c,d,q,fr,g,u,m,said⟩ N G Y K C J W O V 4 n 0 [] [] [] [] B ⟨U,Q.1.2⟩ h1 I.1 bn cm),cg (S:=⟨a,b,c,d,q,fr,g,u,m+n,said⟩) (fu (bE p) (iM (vr ⟨bn,Q.1.2⟩ M.1 qy))) hq⟩
theorem MJ (S:bT) (hE:qk S.self S.gU S.gV S.balance=true) (hm:0<=S.aU/\S.aU<=bM) (N:Int) (G:List UInt8) (args:List Nd) (hz:aQ args<=8589934593) (H s:List Ty) (r:List Ty×Bool) (hf:bQ 85 args=some H) (Y:dK s S.st) (hl:s.length<=340) (O:r.1.all bA=true) (E:b8 85 H s=(r,0)):bl N G 85 args S/\bR S r (aI 85 args S):=by
 obtain⟨a,b,c,d,st,fr,g,u,m,said⟩:=S;obtain⟨rfl,rfl⟩:=cH hf cc;have B:=bJ Y;simp only at Y B hE hm;cases s with
 | nil=>cases E
 | cons t s =>
 obtain⟨v,q,rfl,M,hq⟩:=bp Y;have W:=cQ M.1;simp only[aaa]at B hl;obtain⟨T,ts⟩:=t;have Q:(if T=15 then ep (.mk 11 [.mk 7 [],.mk 11 [aD (.mk T ts) 0,.mk 4 []]] :: .mk T ts::s)else aP 5)=(r,0):=E;split at Q;rotate_left
 ·cases Q
 rename_i c1;subst c1;obtain⟨t,rfl,Oq⟩:=eY (cL W.1) cc;cases Q;obtain⟨n,P,x,rfl,K,p,J⟩:=zj W.2.1 W.2.2;have hsz:=M.2;unfold bl;have e:aI 85 [] ⟨a,b,c,d,.mk 15 n P [] [x] [] []::q,fr,g,u,m,said⟩=bg ⟨a,b,c,d,q,fr,g,u,m,said⟩ [.mk 15 n P [] [x] [] [],bB (aO 7 P) (bB x (aO 4 n))]:=by unfold aI;rw[Oh];rfl
 rw[e];have V:bL (bB (aO 7 P) (bB x (aO 4 n))) (.mk 11 [.mk 7 [],.mk 11 [t,.mk 4 []]])=true/\eK (bB (aO 7 P) (bB x (aO 4 n)))=true :=
  kH (mS (.inr (.inr (.inr (.inr ⟨rfl,p⟩))))) (kH J (mS (.inr (.inr (.inl ⟨rfl,bn,K.2⟩)))))
 have WW:=bE O;have U:=bE (CK O);obtain⟨I,D,C,A,fz,cM,dg⟩:=x;exact⟨jE _ _ 2 N 85 G _ [_] q _ cc (by rw[Oh];rfl) (by show List.length (Vl.mk 15 n P [] [.mk I D C A fz cM dg] [] []::q)<=_;simp only[aaa];omega) (MK ⟨a,b,c,d,q,fr,g,u,m,said⟩ N G 15 n P [] [] [] [] I D C A fz cM dg bn cm),HG (S:=⟨a,b,c,d,q,fr,g,u,m,said⟩) (fu WW V) (fu U (vr K p J)) hq⟩
end Go.Proofs
namespace Go.Proofs
open Go.cu
theorem Tc {n a:Int} {x:Vl} {t:Ty} {ts:List Ty} (O:0<=n/\n<=bM) (p:0<=a/\a<12) (Q:bA t=true) (h:bL x t=true/\eK x=true):bL (.mk 8 n a [] [x] [t] []) (.mk 8 ts)=true/\eK (.mk 8 n a [] [x] [t] [])=true:=by
 simp[bL,cB,bS,aR,eK,ey,h,O,p,Q]
theorem DY (S:bT) (hE:qk S.self S.gU S.gV S.balance=true) (hm:0<=S.aU/\S.aU<=bM) (N:Int) (G:List UInt8) (args:List Nd) (hz:aQ args<=8589934593) (H s:List Ty) (r:List Ty×Bool) (hf:bQ 88 args=some H) (T:dK s S.st) (hl:s.length<=340) (hg:r.1.all bA=true) (E:b8 88 H s=(r,0)):bl N G 88 args S/\bR S r (aI 88 args S):=by
 obtain⟨a,b,c,d,st,fr,g,u,m,said⟩:=S;obtain⟨x,rfl,hx,rfl⟩:=AE hf cc;have B:=bJ T;simp only at T B hE hm;rcases s with _|⟨I,_|⟨t2,_|⟨t3,s⟩⟩⟩
 ·cases E
 ·cases E
 ·cases E
 obtain⟨v,q0,rfl,D,rI⟩:=bp T;obtain⟨w,q1,rfl,hw,Ew⟩:=bp rI;obtain⟨y,q,rfl,hy,hq⟩:=bp Ew;have A:=cQ D.1;have f2:=cQ hw.1;have f3:=cQ hy.1;obtain⟨T2,B5⟩:=t2;obtain⟨T3,ts3⟩:=t3;simp only[aaa]at B hl;have Q:(if T2=5/\T3=7/\cP I (aZ x).1=true/\jv I=true then ep (.mk 8 []::s)else aP 5)=(r,0):=E;split at Q;rotate_left
 ·cases Q
 rename_i c1;cases Q;obtain⟨rfl,rfl,c3,_⟩:=c1;have et:=(gm _ _).1 c3;obtain⟨n,rfl,g2⟩:=fH cc f2.2.1;obtain⟨p,rfl,g3⟩:=fH cc f3.2.1;have r2:=jF cc g2;have P:=r2.2 cc;have M:=(ML g3).2.2.2.2 rfl;simp only[aQ]at hz;unfold bl;have e:aI 88 [x] ⟨a,b,c,d,v::aO 5 n::aO 7 p::q,fr,g,u,m,said⟩=bg ⟨a,b,c,d,q,fr,g,u,m,said⟩ [.mk 8 n p [] [v] [(aZ x).1] []]:=by unfold aI;rw[Ok];rfl
 rw[e];have hsz:=D.2;have qy:=A.2;have Y:=A.1;rw[et]at qy Y;have htz:=(cL Y).2;obtain⟨V,K,C,J,W,O,U⟩:=v;exact⟨jE _ _ 2 N 88 G _ [_,_,_] q _ cc (by rw[Ok];rfl) (by show List.length (Vl.mk V K C J W O U::aO 5 n::aO 7 p::q)<=_;simp only[aaa];omega) (DZ ⟨a,b,c,d,q,fr,g,u,m,said⟩ N G V K C J W O U 5 n 0 [] [] [] [] 7 p 0 [] [] [] [] x bn (by show aM (.mk 8 n p [] [_] [_] [])<=_;rw[show aM (.mk 8 n p [] [.mk V K C J W O U] [(aZ x).1] [])=0+(aM (.mk V K C J W O U)+0)+(bC (aZ x).1+0)+0+1 from rfl];omega) cm),cg (S:=⟨a,b,c,d,q,fr,g,u,m,said⟩) (fu (bE hg) (Tc ⟨P,r2.1.2⟩ M Y qy)) hq⟩
theorem Kc (S:bT) (hE:qk S.self S.gU S.gV S.balance=true) (hm:0<=S.aU/\S.aU<=bM) (N:Int) (G:List UInt8) (args:List Nd) (hz:aQ args<=8589934593) (H s:List Ty) (r:List Ty×Bool) (hf:bQ 86 args=some H) (U:dK s S.st) (hl:s.length<=340) (D:r.1.all bA=true) (E:b8 86 H s=(r,0)):bl N G 86 args S/\bR S r (aI 86 args S):=by
 obtain⟨a,b,c,d,st,fr,g,u,m,said⟩:=S;obtain⟨rfl,rfl⟩:=cH hf cc;have B:=bJ U;simp only at U B hE hm;rcases s with _|⟨t1,_|⟨t2,s⟩⟩
 ·cases E
 ·cases E
 obtain⟨v,q0,rfl,C,rI⟩:=bp U;obtain⟨w,q,rfl,hw,hq⟩:=bp rI;have Q:=cQ C.1;have O:=cQ hw.1;obtain⟨A,FU⟩:=t1;obtain⟨M,p⟩:=t2;simp only[aaa]at B hl;have K:(if A=15/\M=11/\bS (aD (.mk M p) 0)=4/\bS (aD (.mk M p) 1)=4 then ep (.mk 9 [.mk 11 [.mk A FU,.mk A FU]]::s)else aP 5)=(r,0):=E;split at K;rotate_left
 ·cases K
 rename_i c1;cases K;obtain⟨rfl,rfl,c3,c4⟩:=c1;obtain⟨t,rfl,Oq⟩:=eY (cL Q.1) cc;obtain⟨⟨U1,PO⟩,⟨U2,us2⟩,rfl,Ub,ok3⟩:=eN (cL O.1) cc;have J:U1=4:=c3;have I:U2=4:=c4;subst J I;obtain⟨n,P,x,rfl,hn,ha,hx⟩:=zj Q.2.1 Q.2.2;obtain⟨y,z,rfl,hy,Rm⟩:=vt O.2.1 O.2.2;obtain⟨i,rfl,gi⟩:=fH cc hy.1;obtain⟨j,rfl,gj⟩:=fH cc Rm.1;have Y:=jF cc gi;have W:=jF cc gj;have T:=Y.2 cc;have V:=W.2 cc;have hsz:=C.2;unfold bl;have e:aI 86 [] ⟨a,b,c,d,.mk 15 n P [] [x] [] []::bB (aO 4 i) (aO 4 j)::q,fr,g,u,m,said⟩=(if i<1\/j<1\/i+j≠n then bg ⟨a,b,c,d,q,fr,g,u,m,said⟩ [cx []]else bg ⟨a,b,c,d,q,fr,g,u,m,said⟩ [cx [bB (.mk 15 i P [] [x] [] []) (.mk 15 j P [] [x] [] [])]]):=by unfold aI;rw[Oi];rfl
 rw[e];have hk:∀(e:Int) (S':bT),cE 89 ⟨a,b,c,d,q,fr,g,u,m,said⟩ [.c (aW (.mk 2 N 86 G [])),.c (.sl 7 (aa [.mk 15 n P [] [x] [] [],bB (aO 4 i) (aO 4 j)]))] (aF e) S'->cE 57 ⟨a,b,c,d,.mk 15 n P [] [x] [] []::bB (aO 4 i) (aO 4 j)::q,fr,g,u,m,said⟩ [.c (aW (.mk 2 N 86 G []))] (aF e) S':=fun e S' h =>
  jE _ _ 2 N 86 G _ [_,_] q _ cc (by rw[Oi];rfl) (by show List.length (Vl.mk 15 n P [] [x] [] []::bB (aO 4 i) (aO 4 j)::q)<=_;simp only[aaa];omega) h
 by_cases h:i<1\/j<1\/i+j≠n
 ·rw[if_pos h];refine⟨hk _ _ ?_,cg (S:=⟨a,b,c,d,q,fr,g,u,m,said⟩) (fu (bE D) mT) hq⟩;by_cases h1:i<1
  ·exact EY ⟨a,b,c,d,q,fr,g,u,m,said⟩ N G 15 n P [] [x] [] [] 11 0 0 [] [] [] [] 4 i 0 [] [] [] [] 4 j 0 [] [] [] [] ⟨T,Y.1.2⟩ ⟨V,W.1.2⟩ h1 cm
  by_cases h2:j<1
  ·exact EZ ⟨a,b,c,d,q,fr,g,u,m,said⟩ N G 15 n P [] [x] [] [] 11 0 0 [] [] [] [] 4 i 0 [] [] [] [] 4 j 0 [] [] [] [] ⟨T,Y.1.2⟩ ⟨V,W.1.2⟩ h1 h2 cm
  ·exact E0 ⟨a,b,c,d,q,fr,g,u,m,said⟩ N G 15 n P [] [x] [] [] 11 0 0 [] [] [] [] 4 i 0 [] [] [] [] 4 j 0 [] [] [] [] ⟨T,Y.1.2⟩ ⟨V,W.1.2⟩ h1 h2 bn cm
 ·rw[if_neg h];exact⟨hk _ _ (HH ⟨a,b,c,d,q,fr,g,u,m,said⟩ N G 15 n P [] [x] [] [] 11 0 0 [] [] [] [] 4 i 0 [] [] [] [] 4 j 0 [] [] [] [] ⟨T,Y.1.2⟩ ⟨V,W.1.2⟩ h bn cm),cg (S:=⟨a,b,c,d,q,fr,g,u,m,said⟩) (fu (bE D) (iM (kH (vr ⟨bn,Y.1.2⟩ ha hx) (vr ⟨bn,W.1.2⟩ ha hx)))) hq⟩
theorem MM (S:bT) (hE:qk S.self S.gU S.gV S.balance=true) (hm:0<=S.aU/\S.aU<=bM) (J:Int) (P:List UInt8) (args:List Nd) (hz:aQ args<=8589934593) (H s:List Ty) (r:List Ty×Bool) (hf:bQ 87 args=some H) (hs:dK s S.st) (hl:s.length<=340) (hg:r.1.all bA=true) (hc:b8 87 H s=(r,0)):bl J P 87 args S/\bR S r (aI 87 args S):=by
 obtain⟨a,b,c,d,st,fr,g,u,m,said⟩:=S;obtain⟨rfl,rfl⟩:=cH hf cc;have eD:=bJ hs;simp only at hs eD hE hm;cases s with
 | nil=>cases hc
 | cons t s =>
 obtain⟨v,q,rfl,hv,hq⟩:=bp hs;have D:=cQ hv.1;simp only[aaa]at eD hl;obtain⟨T,ts⟩:=t;have dy:(if T=11/\bS (aD (.mk T ts) 0)=15/\cP (aD (.mk T ts) 0) (aD (.mk T ts) 1)=true then ep (.mk 9 [aD (.mk T ts) 0]::s)else aP 5)=(r,0):=hc;split at dy;rotate_left
 ·cases dy
 rename_i c1;obtain⟨rfl,c2,c3⟩:=c1;obtain⟨⟨U1,PO⟩,t2,rfl,Ub,ok3⟩:=eN (cL D.1) cc;cases dy;have Zy:U1=15:=c2;subst Zy;have et:Ty.mk 15 PO=t2:=(gm _ _).1 c3;subst et;obtain⟨t,rfl,Oq⟩:=eY Ub cc;obtain⟨X,Y,rfl,hX,hY⟩:=vt D.2.1 D.2.2;obtain⟨G,C,x,rfl,B,Zh,hx⟩:=zj hX.1 hX.2;obtain⟨W,K,y,rfl,A,ha4,hy⟩:=zj hY.1 hY.2;have p:=hv.2;rw[show aM (bB (.mk 15 G C [] [x] [] []) (.mk 15 W K [] [y] [] []))=0+((0+(aM x+0)+0+0+1)+((0+(aM y+0)+0+0+1)+0))+0+0+1 from rfl]at p;have EB:=dz (iF (mb D.1)).2 (show Ty.mk 15 [t]∈au (.mk 11 [.mk 15 [t],.mk 15 [t]])by simp[au]);have QN:=dz (iF EB).2 (show t∈au (.mk 15 [t])by simp[au]);have Z7:=zk x y t QN hx.1 hy.1 bn;unfold bl;have e:aI 87 [] ⟨a,b,c,d,bB (.mk 15 G C [] [x] [] []) (.mk 15 W K [] [y] [] [])::q,fr,g,u,m,said⟩=(if C≠K\/dA x y≠0 then bg ⟨a,b,c,d,q,fr,g,u,m,said⟩ [cx []]else if G>bM-W then(11,⟨a,b,c,d,q,fr,g,u,m,said⟩)else bg ⟨a,b,c,d,q,fr,g,u,m,said⟩ [cx [.mk 15 (G+W) C [] [x] [] []]]):=by unfold aI;rw[Oj];rfl
 rw[e];have hk:∀(e:Int) (S':bT),cE 89 ⟨a,b,c,d,q,fr,g,u,m,said⟩ [.c (aW (.mk 2 J 87 P [])),.c (.sl 7 (aa [bB (.mk 15 G C [] [x] [] []) (.mk 15 W K [] [y] [] [])]))] (aF e) S'->cE 57 ⟨a,b,c,d,bB (.mk 15 G C [] [x] [] []) (.mk 15 W K [] [y] [] [])::q,fr,g,u,m,said⟩ [.c (aW (.mk 2 J 87 P []))] (aF e) S':=fun e S' h =>
  jE _ _ 2 J 87 P _ [_] q _ cc (by rw[Oj];rfl) (by show List.length (bB (.mk 15 G C [] [x] [] []) (.mk 15 W K [] [y] [] [])::q)<=_;simp only[aaa];omega) h
 have hX2:=fun N (hN:1<=N/\N<=bM)=>vr (n:=N) hN Zh hx;generalize qy:dA x y=cv at *;have afJ:aM x<=1000000000:=by omega
 clear p hv D hX hY hs hc;obtain⟨V,E,U,Q,O,M,I⟩:=x;obtain⟨k5,n5,a5,s5,j6,ig,j7⟩:=y;by_cases h:C≠K\/cv≠0
 ·rw[if_pos h];refine⟨hk _ _ ?_,cg (S:=⟨a,b,c,d,q,fr,g,u,m,said⟩) (fu (bE hg) mT) hq⟩;by_cases h1:C≠K
  ·exact Kd ⟨a,b,c,d,q,fr,g,u,m,said⟩ J P 11 0 0 [] [] [] [] 15 G C [] [] [] [] V E U Q O M I 15 W K [] [] [] [] k5 n5 a5 s5 j6 ig j7 h1 cm
  ·exact Ke ⟨a,b,c,d,q,fr,g,u,m,said⟩ J P 11 0 0 [] [] [] [] 15 G C [] [] [] [] V E U Q O M I 15 W K [] [] [] [] k5 n5 a5 s5 j6 ig j7 cv Z7 bn bn cm
 ·rw[if_neg h];have h1:C=K:=by omega
  have h2:cv=0:=by omega
  subst h2;by_cases h3:G>bM-W
  ·rw[if_pos h3];exact⟨hk _ _ (Kf ⟨a,b,c,d,q,fr,g,u,m,said⟩ J P 11 0 0 [] [] [] [] 15 G C [] [] [] [] V E U Q O M I 15 W K [] [] [] [] k5 n5 a5 s5 j6 ig j7 Z7 h1 ⟨bn,B.2⟩ ⟨bn,A.2⟩ h3 cm),.inr (.inl rfl)⟩
  ·rw[if_neg h3];exact⟨hk _ _ (Kg ⟨a,b,c,d,q,fr,g,u,m,said⟩ J P 11 0 0 [] [] [] [] 15 G C [] [] [] [] V E U Q O M I 15 W K [] [] [] [] k5 n5 a5 s5 j6 ig j7 Z7 h1 ⟨bn,B.2⟩ ⟨bn,A.2⟩ h3 (by rw[show aM (.mk 15 G C [] [.mk V E U Q O M I] [] [])=0+(aM (.mk V E U Q O M I)+0)+0+0+1 from rfl];omega) cm),cg (S:=⟨a,b,c,d,q,fr,g,u,m,said⟩) (fu (bE hg) (iM (hX2 _ ⟨bn,bn⟩))) hq⟩
end Go.Proofs
namespace Go.Proofs
open Go.cu
theorem B9 {v:Vl} {t u:Ty} (h:bL v (.mk 13 [t,u])=true) (Y:eK v=true):∃l,v = .mk 13 0 0 [] l [] []/\l.length<=24/\aR l (.mk 11 [t,u])=true/\w9 l=true/\ey l=true:=by
 obtain⟨k,n,a,s,args,H,B⟩:=v;obtain⟨D,T,_⟩:=lP h;simp only[bS]at D;subst D;simp[cB]at T;simp[bL,cB,bS,aD,au]at h;obtain⟨rfl,rfl,rfl,rfl⟩:=T;simp[eK]at Y;obtain⟨_,⟨⟨h1,h2⟩,V⟩,W⟩:=h;exact⟨args,by rw[h1],h2,V,W,Y⟩
theorem zm {l:List Vl} {t u:Ty} (C:l.length<=24) (h:aR l (.mk 11 [t,u])=true) (A:w9 l=true) (Y:ey l=true):bL (.mk 13 0 0 [] l [] []) (.mk 13 [t,u])=true/\eK (.mk 13 0 0 [] l [] [])=true:=by simp[bL,cB,bS,aD,au,eK,h,Y,C,A]
theorem Vh {P:Int} {args:List Nd} {H:List Ty} (h:bQ P args=some H) (Q:fS P=[116,116]):∃x y,args=[x,y]/\(aZ x).2=0/\(aZ y).2=0/\H=[(aZ x).1,(aZ y).1]:=by
 obtain⟨h1,h2⟩:=jN h;rw[Q]at h1 h2;rcases args with _|⟨x,_|⟨y,_|⟨z,r⟩⟩⟩
 ·simp at h1
 ·simp at h1
 ·obtain⟨kind,N,p,q,xs⟩:=x;obtain⟨Y,V,U,T,W⟩:=y;have S:(if(aZ (.mk kind N p q xs)).2=0 then(if(aZ (.mk Y V U T W)).2=0 then some ([]++[(aZ (.mk kind N p q xs)).1]++[(aZ (.mk Y V U T W)).1])else none)else none)=some H:=h2;split at S
  ·grind
  ·cases S
 ·simp at h1
theorem Ot:bV 57=2:=by decide +kernel
theorem Ou:bV 59=1:=by decide +kernel
theorem Ov:bV 61=0:=by decide +kernel
theorem MN (S:bT) (N:Int) (G:List UInt8) (args:List Nd) (p:List (List Ty->CR)) (H s:List Ty) (r:List Ty×Bool) (hf:bQ 57 args=some H) (Y:dK s S.st) (hl:s.length<=340) (hg:r.1.all bA=true) (E:aX 57 p H s=(r,0)):bl N G 57 args S/\bR S r (aI 57 args S):=by
 obtain⟨a,b,c,d,st,fr,g,u,m,said⟩:=S;obtain⟨rfl,rfl⟩:=cH hf cc;have B:=bJ Y;simp only at Y B;rcases s with _|⟨U,_|⟨t2,s⟩⟩
 ·cases E
 ·cases E
 obtain⟨v,q0,rfl,J,rI⟩:=bp Y;obtain⟨w,q,rfl,I,hq⟩:=bp rI;have f1:=cQ J.1;have P:=cQ I.1;obtain⟨V,D⟩:=t2;simp only[aaa]at B hl;have Q:(if V=10/\cP U (aD (.mk V D) 0)=true then ep (.mk V D::s)else aP 5)=(r,0):=E;split at Q;rotate_left
 ·cases Q
 rename_i c1;cases Q;obtain⟨rfl,c2⟩:=c1;obtain⟨t,rfl,Oq⟩:=eY (cL P.1) cc;have et:U=t:=(gm _ _).1 c2;subst et;obtain⟨l,rfl,yc,O,M⟩:=zn P.2.1 P.2.2;have hsz:=J.2;have Z8:=I.2;simp only[aM,br,aQ,aab]at Z8;unfold bl;have e:aI 57 [] ⟨a,b,c,d,v :: .mk 10 0 0 [] l [] []::q,fr,g,u,m,said⟩=(if 24<=l.length then(13,⟨a,b,c,d,q,fr,g,u,m,said⟩)else bg ⟨a,b,c,d,q,fr,g,u,m,said⟩ [.mk 10 0 0 [] (v::l) [] []]):=by unfold aI;rw[Ot];rfl
 rw[e];have C:=f1.2;have T:aR (v::l) U=true:=by simp[aR,C.1,O]
 have K:ey (v::l)=true:=by simp[ey,C.2,M]
 have qw:aM (.mk 10 0 0 [] (v::l) [] [])<=8589934593:=by simp only[aM,aL,br,aQ,aab];omega
 have A:∀(e:Int) (S':bT),cE 86 ⟨a,b,c,d,q,fr,g,u,m,said⟩ [.c (aW (.mk 2 N 57 G [])),.c (.sl 7 (aa [v,.mk 10 0 0 [] l [] []]))] (aF e) S'->cE 57 ⟨a,b,c,d,v :: .mk 10 0 0 [] l [] []::q,fr,g,u,m,said⟩ [.c (aW (.mk 2 N 57 G []))] (aF e) S':=fun e S' h =>
  ql _ _ 2 N 57 G _ [_,_] q _ cc (by rw[Ot];rfl) (by show List.length (v::Vl.mk 10 0 0 [] l [] []::q)<=_;simp only[aaa];omega) h
 obtain⟨k1,n1,a1,s1,W,af,aA⟩:=v;by_cases h:24<=l.length
 ·rw[if_pos h];exact⟨A _ _ (Kh ⟨a,b,c,d,q,fr,g,u,m,said⟩ N G k1 n1 a1 s1 W af aA 10 0 0 [] l [] [] h cm),.inr (.inr rfl)⟩
 ·rw[if_neg h];exact⟨A _ _ (Ki ⟨a,b,c,d,q,fr,g,u,m,said⟩ N G k1 n1 a1 s1 W af aA 10 0 0 [] l [] [] h qw cm),cg (S:=⟨a,b,c,d,q,fr,g,u,m,said⟩) (fu (bE hg) (D0 eg T K)) hq⟩
theorem MO (S:bT) (N:Int) (G:List UInt8) (args:List Nd) (p:List (List Ty->CR)) (H s:List Ty) (r:List Ty×Bool) (hf:bQ 59 args=some H) (V:dK s S.st) (I:s.length<=340) (D:r.1.all bA=true) (E:cK 59 p H s=(r,0)):bl N G 59 args S/\bR S r (aI 59 args S):=by
 obtain⟨a,b,c,d,st,fr,g,u,m,said⟩:=S;obtain⟨rfl,rfl⟩:=cH hf cc;have B:=bJ V;simp only at V B;cases s with
 | nil=>cases E
 | cons t s =>
 obtain⟨v,q,rfl,U,hq⟩:=bp V;have Y:=cQ U.1;obtain⟨T,ts⟩:=t;simp only[aaa]at B I;have Q:(if T=6\/T=10\/T=13 then ep (.mk 4 []::s)else aP 5)=(r,0):=E;split at Q;rotate_left
 ·cases Q
 rename_i A;cases Q;have hb:(vS v).length+(eo v).length<=200:=by
  rcases A with rfl|rfl|rfl
  ·obtain⟨J,rfl,g1⟩:=wB Y.2.1;simpa[vS,eo]using g1
  ·obtain⟨t,rfl,_⟩:=eY (cL Y.1) cc;obtain⟨l,rfl,yc,_,_⟩:=zn Y.2.1 Y.2.2;simp[vS,eo];omega
  ·obtain⟨t,t',rfl,_,_⟩:=eN (cL Y.1) cc;obtain⟨l,rfl,yc,_,_,_⟩:=B9 Y.2.1 Y.2.2;simp[vS,eo];omega
 unfold bl;have e:aI 59 [] ⟨a,b,c,d,v::q,fr,g,u,m,said⟩=bg ⟨a,b,c,d,q,fr,g,u,m,said⟩ [aO 4 (((vS v).length+(eo v).length:Nat):Int)]:=by unfold aI;rw[Ou];rfl
 rw[e];clear U Y V E;obtain⟨P,K,C,J,W,O,M⟩:=v;simp only[vS,eo]at hb ⊢;exact⟨ql _ _ 2 N 59 G _ [_] q _ cc (by rw[Ou];rfl) (by show List.length (Vl.mk P K C J W O M::q)<=_;simp only[aaa];omega) (MP ⟨a,b,c,d,q,fr,g,u,m,said⟩ N G P K C J W O M bn cm),cg (S:=⟨a,b,c,d,q,fr,g,u,m,said⟩) (fu (bE D) (iS cc ga (fun _=>by omega))) hq⟩
theorem Kj (S:bT) (N:Int) (G:List UInt8) (args:List Nd) (p:List (List Ty->CR)) (H s:List Ty) (r:List Ty×Bool) (hf:bQ 61 args=some H) (Y:dK s S.st) (C:s.length<=340) (W:r.1.all bA=true) (E:cK 61 p H s=(r,0)):bl N G 61 args S/\bR S r (aI 61 args S):=by
 obtain⟨a,b,c,d,q,fr,g,u,m,said⟩:=S;obtain⟨x,y,rfl,O,T,rfl⟩:=Vh hf cc;have B:=bJ Y;simp only at Y B;have Q:(if fG (aZ x).1=true then ep (.mk 13 [(aZ x).1,(aZ y).1]::s)else aP 5)=(r,0):=E;split at Q;rotate_left
 ·cases Q
 cases Q;unfold bl;have e:aI 61 [x,y] ⟨a,b,c,d,q,fr,g,u,m,said⟩=bg ⟨a,b,c,d,q,fr,g,u,m,said⟩ [.mk 13 0 0 [] [] [] []]:=by unfold aI;rw[Ov];rfl
 rw[e];exact⟨ql _ _ 2 N 61 G _ [] q _ cc (by rw[Ov];rfl) cm (Kk ⟨a,b,c,d,q,fr,g,u,m,said⟩ N G x y cm),cg (S:=⟨a,b,c,d,q,fr,g,u,m,said⟩) (fu (bE W) (zm cc rfl rfl rfl)) Y⟩
end Go.Proofs
namespace Go.Proofs
open Go.cu
theorem nU {x:Vl} {t u:Ty} (h:bL x (.mk 11 [t,u])=true):∃y z,x=bB y z/\bL y t=true/\bL z u=true:=by
 obtain⟨k,n,a,s,args,H,B⟩:=x;obtain⟨D,T,_⟩:=lP h;simp only[bS]at D;subst D;simp[cB]at T;simp[bL,cB,bS,au]at h;obtain⟨rfl,rfl,rfl,rfl⟩:=T;rcases args with _|⟨x,_|⟨y,_|⟨z,r⟩⟩⟩
 ·simp at h
 ·simp at h
 ·simp[cX]at h;exact⟨x,y,by rw[h.1];rfl,h.2.1,h.2.2⟩
 ·simp at h
theorem wC (y z:Vl):lB (bB y z)=y:=rfl
theorem F8 {t:Ty} (E:fG t=true) (p:gq t=false) {a b c:Vl} (h1:bL a t=true) (h2:bL b t=true) (V:bL c t=true) (U:dA a b<0) (W:dA b c<0):dA a c<0:=by
 obtain⟨_,_,_,_,g⟩:=zo a b c t E p h1 h2 V;have:=g.1 bn bn;omega
theorem MQ {t u:Ty} (E:fG t=true) (p:gq t=false):∀(l:List Vl) (x:Vl),aR (x::l) (.mk 11 [t,u])=true->w9 (x::l)=true->∀y∈l,dA (lB x) (lB y)<0
 | [],x,_,_,y,T=>by simp at T
 | z::r,x,hA,hu,y,T=>by
  simp only[aR,aaj]at hA;simp only[w9,aaj,decide_eq_true_eq]at hu;rcases List.mem_cons.1 T with rfl|Y
  ·exact hu.1
  ·have S:=MQ E p r z (by simp only[aR,aaj];exact hA.2) (by simpa[w9]using hu.2) y Y;obtain⟨Q,P,rfl,O,_⟩:=nU hA.1;obtain⟨A,C,rfl,U,_⟩:=nU hA.2.1;have W:=(fh (.mk 11 [t,u]) r).1 hA.2.2 y Y;obtain⟨K,N,rfl,V,_⟩:=nU W;exact F8 E p O U V hu.1 S
theorem Ow {t u:Ty} (E:fG t=true) (p:gq t=false) {k:Vl} (D:bL k t=true):∀(l:List Vl),aR l (.mk 11 [t,u])=true->w9 l=true->∀(i:Nat) x,cq l k<=i->l[i]?=some x->¬dA (lB x) k<0
 | [],_,_,i,x,_,h=>by simp at h
 | z::l,hA,hu,i,x,hi,h=>by
  have Y:bL z (.mk 11 [t,u])=true/\aR l (.mk 11 [t,u])=true:=by simpa[aR]using hA
  have T:w9 l=true:=by
   cases l with
   | nil=>rfl
   | cons y r=>simp only[w9,aaj]at hu;simpa[w9]using hu.2
  by_cases W:dA (lB z) k<0
  ·simp only[cq,W,if_true]at hi;cases i with
   | zero=>omega
   | succ j=>exact Ow E p D l Y.2 T j x bn lp
  ·cases i with
   | zero=>simp at h;subst h;exact W
   | succ j =>
    have U:=aaz (show l[j]?=some x by simpa using h);have H:=MQ E p l z hA hu x U;obtain⟨A,C,rfl,S,_⟩:=nU Y.1;obtain⟨Q,P,rfl,V,_⟩:=nU ((fh (.mk 11 [t,u]) l).1 Y.2 x U);intro O;exact W (F8 E p S V D H O)
theorem D1 {l:List Vl} {t u:Ty} {k:Vl} (E:fG t=true) (p:gq t=false) (M:aR l (.mk 11 [t,u])=true) (A:w9 l=true) (D:bL k t=true) (C:l.length<=24) (Y:aL l<=1000000000):ah 113 [.sl 7 (aa l),bP k] (.gB [aF (cq l k:Nat),.bool (eP l k)]):=by
 refine HI l k bn (fun x O=>?_) (Ow E p D l M A);obtain⟨y,z,rfl,T,_⟩:=nU ((fh (.mk 11 [t,u]) l).1 M x O);have h1:=ew O;have h2:aM y<=aM (bB y z):=by simp only[bB,aM,aL];omega
 exact E1 (bB y z) k y t rfl (nV y k t p T D bn)
end Go.Proofs
namespace Go.Proofs
open Go.cu
theorem Ox:bV 62=2:=by decide +kernel
theorem Oy {t u:Ty} (h:bA (.mk 13 [t,u])=true):fG t=true/\gq t=false:=by
 have h1:=MS h;simp only[Kl,aaj]at h1;have h2:kg [t,u]=true:=by simpa using h1.1
 exact⟨by simpa[kg]using h2,dz (iF (mb h)).2 (show t∈au (.mk 13 [t,u])by simp[au])⟩
theorem P6 (S:bT) (N:Int) (G:List UInt8) (args:List Nd) (p:List (List Ty->CR)) (H s:List Ty) (r:List Ty×Bool) (hf:bQ 62 args=some H) (I:dK s S.st) (hl:s.length<=340) (hg:r.1.all bA=true) (E:cK 62 p H s=(r,0)):bl N G 62 args S/\bR S r (aI 62 args S):=by
 obtain⟨a,b,c,d,st,fr,g,u,m,said⟩:=S;obtain⟨rfl,rfl⟩:=cH hf cc;have eD:=bJ I;simp only at I eD;rcases s with _|⟨t1,_|⟨t2,s⟩⟩
 ·cases E
 ·cases E
 obtain⟨v,q0,rfl,hv,rI⟩:=bp I;obtain⟨w,q,rfl,hw,hq⟩:=bp rI;have f1:=cQ hv.1;have P:=cQ hw.1;obtain⟨V,D⟩:=t2;simp only[aaa]at eD hl;have B:(if V=13/\cP t1 (aD (.mk V D) 0)=true/\lE (aD (.mk V D) 1)=true then ep (.mk 9 [aD (.mk V D) 1]::s)else aP 5)=(r,0):=E;split at B;rotate_left
 ·cases B
 rename_i c1;obtain⟨rfl,c2,_⟩:=c1;obtain⟨t,t',rfl,Oq,Ub⟩:=eN (cL P.1) cc;cases B;have et:t1=t:=(gm _ _).1 c2;subst et;obtain⟨l,rfl,yc,Y,Vi,A⟩:=B9 P.2.1 P.2.2;have Z8:=hw.2;simp only[aM,br,aQ,aab]at Z8;have MU:=Oy P.1;have U:=D1 MU.1 MU.2 Y Vi f1.2.1 yc bn;unfold bl;have e:aI 62 [] ⟨a,b,c,d,v :: .mk 13 0 0 [] l [] []::q,fr,g,u,m,said⟩=(if eP l v=true then bg ⟨a,b,c,d,q,fr,g,u,m,said⟩ [cx [lV (eo (lV l (cq l v))) 1]]else bg ⟨a,b,c,d,q,fr,g,u,m,said⟩ [cx []]):=by unfold aI;rw[Ox];rfl
 rw[e];have hk:∀(e:Int) (S':bT),cE 86 ⟨a,b,c,d,q,fr,g,u,m,said⟩ [.c (aW (.mk 2 N 62 G [])),.c (.sl 7 (aa [v,.mk 13 0 0 [] l [] []]))] (aF e) S'->cE 57 ⟨a,b,c,d,v :: .mk 13 0 0 [] l [] []::q,fr,g,u,m,said⟩ [.c (aW (.mk 2 N 62 G []))] (aF e) S':=fun e S' h =>
  ql _ _ 2 N 62 G _ [_,_] q _ cc (by rw[Ox];rfl) (by show List.length (v::Vl.mk 13 0 0 [] l [] []::q)<=_;simp only[aaa];omega) h
 by_cases h:eP l v=true
 ·rw[if_pos h];have O:∃x,l[cq l v]?=some x:=by
   unfold eP at h;cases hh:l[cq l v]? with
   | none=>rw[hh]at h;cases h
   | some x=>exact⟨x,rfl⟩
  obtain⟨x,O⟩:=O;have Ys:=aaz O;obtain⟨y,z,rfl,hy,Rm⟩:=nU ((fh _ l).1 Y x Ys);rw[h]at U;rw[R7 O,show lV (eo (bB y z)) 1=z from rfl];have hsn:eK z=true:=by
   have:∀{l:List Vl} {x:Vl},ey l=true->x∈l->eK x=true:=by
    intro l
    induction l with
    | nil=>intro x _ h;simp at h
    | cons y l ih =>
     intro x h O;simp only[ey,aaj]at h;rcases List.mem_cons.1 O with rfl|O
     ·exact h.1
     ·exact ih h.2 O
   have h1:=this A Ys;simp[bB,eK,ey]at h1;exact h1.2
  have IY:=ew Ys;have T4:aM z<=aM (bB y z):=by simp only[bB,aM,aL];omega
  obtain⟨T,K,C,J,W,Q,M⟩:=v;exact⟨hk _ _ (MV ⟨a,b,c,d,q,fr,g,u,m,said⟩ N G T K C J W Q M 13 0 0 [] l [] [] (cq l (.mk T K C J W Q M)) U y y z [] 11 0 0 [] [] O bn cm),cg (S:=⟨a,b,c,d,q,fr,g,u,m,said⟩) (fu (bE hg) (iM ⟨Rm,hsn⟩)) hq⟩
 ·rw[if_neg h];rw[show eP l v=false by simpa using h]at U;obtain⟨T,K,C,J,W,Q,M⟩:=v;exact⟨hk _ _ (MW ⟨a,b,c,d,q,fr,g,u,m,said⟩ N G T K C J W Q M 13 0 0 [] l [] [] _ U cm),cg (S:=⟨a,b,c,d,q,fr,g,u,m,said⟩) (fu (bE hg) mT) hq⟩
end Go.Proofs
