/- Package run: -/
import Derived.Test.YtdnpapgijbhofaaGreatDoorRunAJ
import Derived.Test.YtdnpapgijbhofaaGreatDoorRunH
set_option linter.defProp false
set_option linter.unusedVariables false
set_option linter.unusedSimpArgs false
set_option maxRecDepth 100000
namespace Go.Proofs
open Go.cw
def vm{C:L Ty×Bool}{S:bZ}{c:L Nd}{l:L Vl}{K:L Ty}{r:L Ty×Bool}(U:(cz c (K,false)).2=0)(B:(cz c (K,false)).1.2=false->r=(cz c (K,false)).1)(P:K.length+cP c<=340)(q:kj c)
  (I:ew K (l.reverse++S.st)):Comes C S r (aY (ee S c 0 []) l):=by
 rcases Fm l S.st with h1|⟨h1,h2,Y⟩
 exact .inl (.inr (.inr h1));refine .inr (.inl ⟨h1,⟨c,0,0,[]⟩,K,Z,q,?_,λh=>LX U B P q h⟩);show ew _ (oK l S.st).2;grind
def A9{C:L Ty×Bool}{S:bZ}{c:L Nd}{K:L Ty}{r:L Ty×Bool}(U:(cz c (K,false)).2=0)(B:(cz c (K,false)).1.2=false->r=(cz c (K,false)).1)(P:K.length+cP c<=340)(q:kj c)
  (I:ew K S.st):Comes C S r (0,ee S c 0 []) :=
 .inr (.inl ⟨Z,⟨c,0,0,[]⟩,K,Z,q,I,λh=>LX U B P q h⟩)
def TJ{V q1:Int}{G:L UInt8}{u:L Nd}{W Y:Int}{P:L UInt8}{K:L Nd}(h:kj [.mk 3 V q1 G u,.mk 3 W Y P K]):kj u/\kj K/\cP [.mk 3 V q1 G u,.mk 3 W Y P K]=cP u+cP K+2 :=
 ⟨(rJ h (ahp ..)).1,(rJ h (afH _ (ahp ..))).1,by simp only[cP,many];try omega⟩
def YH{V q1:Int}{G:L UInt8}{u:L Nd}(h:kj [.mk 3 V q1 G u]):kj u/\cP [.mk 3 V q1 G u]=cP u+1 :=
 ⟨(rJ h (ahp ..)).1,by simp only[cP,many];try omega⟩
def L4(pr:L Ty×Bool)(S:bZ)(A:Int)(W:L UInt8)(M:L Nd)(Am:kj M)(V s:L Ty)(r:L Ty×Bool)(hf:bP 52 M=some V)(hs:ew s S.st)(hl:s.length+cP M<=339)(U:S.fr.length<=1099511627776)(hc:dU 52 (cE M) V s=(r,0)):bg A W 52 M S/\Comes pr S r (aE 52 M S):=by
 obtain⟨a,b,c,d,st,H,g,u,m,Q⟩:=S;obtain⟨G,q1,N,Y,E,J,I,K,rfl,rfl⟩:=Fl hf bn;obtain⟨g1,g2,gz⟩:=TJ Am;have fF:=bL hs;cases s with
 |nil=>cases hc
 |cons t s =>
 obtain⟨v,q,rfl,B,hq⟩:=aW hs;have D:=cQ B.1;simp at fF hl;have C:(if dD t=12 then cZ (cz Y (aU t 0::s,false)) (cz K (aU t 1::s,false))else bw 5)=(r,0):=hc;split at C;rotate_left;cases C;rename_i YI;obtain⟨T,ts⟩:=t;subst YI;obtain⟨t1,t2,rfl,Tw,ZM⟩:=fE (cF D.1) bn;obtain⟨x,P,O⟩:=ad2 D.2.1 D.2.2;obtain⟨m1,m2⟩:=wj C;obtain⟨m3,m4⟩:=wo C;rcases P with ⟨rfl,P⟩|⟨rfl,P⟩
 ·have hz:=B.2;simp only[aH,aI]at hz;have e:aE 52 [.mk 3 G q1 N Y,.mk 3 E J I K] ⟨a,b,c,d,.mk 12 0 0 [] [x] [] []::q,H,g,u,m,Q⟩=aY (ee ⟨a,b,c,d,q,H,g,u,m,Q⟩ Y 0 []) [x]:=by unfold aE;rfl
  rw[e]
  exact⟨gk _ _ 2 A 52 W _ [_] q _ bn (by rw[LZ];rfl) (by show List.length (Vl.mk 12 0 0 [] [x] [] []::q)<=_;simp only[aag];omega) (II ⟨a,b,c,d,q,H,g,u,m,Q⟩ A W G q1 N Y E J I K 12 0 [] [] [] x ai bT U),
   vm (S:=⟨a,b,c,d,q,H,g,u,m,Q⟩) m1 m2 cS g1 ⟨⟨fX (rI D.1 _ (by simp[aU,aV])) ⟨P,O⟩,ai⟩,hq⟩⟩
 have hz:=B.2;simp only[aH,aI,bp,aO,aay]at hz;have e:aE 52 [.mk 3 G q1 N Y,.mk 3 E J I K] ⟨a,b,c,d,.mk 12 1 0 [] [x] [] []::q,H,g,u,m,Q⟩=aY (ee ⟨a,b,c,d,q,H,g,u,m,Q⟩ K 0 []) [x]:=by unfold aE;rw[LZ];rfl
 rw[e]
 exact⟨gk _ _ 2 A 52 W _ [_] q _ bn (by rw[LZ];rfl) (by show List.length (Vl.mk 12 1 0 [] [x] [] []::q)<=_;simp only[aag];omega) (IJ ⟨a,b,c,d,q,H,g,u,m,Q⟩ A W G q1 N Y E J I K 12 0 [] [] [] x ai bT U),
  vm (S:=⟨a,b,c,d,q,H,g,u,m,Q⟩) m3 m4 cS g2 ⟨⟨fX (rI D.1 _ (by simp[aU,aV])) ⟨P,O⟩,ai⟩,hq⟩⟩
def L5(pr:L Ty×Bool)(S:bZ)(A:Int)(W:L UInt8)(M:L Nd)(Am:kj M)(V s:L Ty)(r:L Ty×Bool)(hf:bP 55 M=some V)(C:ew s S.st)(hl:s.length+cP M<=339)(U:S.fr.length<=1099511627776)(B:dU 55 (cE M) V s=(r,0)):bg A W 55 M S/\Comes pr S r (aE 55 M S):=by
 obtain⟨a,b,c,d,st,H,g,u,m,Q⟩:=S;obtain⟨G,q1,P,Y,E,O,N,K,rfl,rfl⟩:=Fl hf bn;obtain⟨g1,g2,gz⟩:=TJ Am;have fF:=bL C;cases s with
 |nil=>cases B
 |cons t s =>
 obtain⟨v,q,rfl,hv,hq⟩:=aW C;have D:=cQ hv.1;simp at fF hl;have J:(if dD t=9 then cZ (cz Y (s,false)) (cz K (aU t 0::s,false))else bw 5)=(r,0):=B;split at J;rotate_left;cases J;rename_i YI;obtain⟨T,ts⟩:=t;subst YI;obtain⟨t1,rfl,Tw⟩:=fN (cF D.1) bn;obtain⟨m1,m2⟩:=wj J;obtain⟨m3,m4⟩:=wo J;rcases TF D.2.1 D.2.2 with rfl|⟨x,rfl,hx,I⟩
 ·have e:aE 55 [.mk 3 G q1 P Y,.mk 3 E O N K] ⟨a,b,c,d,cD []::q,H,g,u,m,Q⟩=aY (ee ⟨a,b,c,d,q,H,g,u,m,Q⟩ Y 0 []) []:=by unfold aE;rfl
  rw[e]
  exact⟨gk _ _ 2 A 55 W _ [_] q _ bn (by rw[TG];rfl) (by show List.length (cD []::q)<=_;simp;omega) (IK ⟨a,b,c,d,q,H,g,u,m,Q⟩ A W G q1 P Y E O N K 9 0 [] [] [] 0 bT U),
   vm (S:=⟨a,b,c,d,q,H,g,u,m,Q⟩) m1 m2 ai g1 hq⟩
 have hz:=hv.2;simp only[cD,aH,aI]at hz;have e:aE 55 [.mk 3 G q1 P Y,.mk 3 E O N K] ⟨a,b,c,d,cD [x]::q,H,g,u,m,Q⟩=aY (ee ⟨a,b,c,d,q,H,g,u,m,Q⟩ K 0 []) [x]:=by unfold aE;rfl
 rw[e]
 exact⟨gk _ _ 2 A 55 W _ [_] q _ bn (by rw[TG];rfl) (by show List.length (cD [x]::q)<=_;simp;omega) (IL ⟨a,b,c,d,q,H,g,u,m,Q⟩ A W G q1 P Y E O N K 9 0 [] [] [] 0 x ai bT U),
  vm (S:=⟨a,b,c,d,q,H,g,u,m,Q⟩) m3 m4 ob g2 ⟨⟨fX (rI D.1 _ (by simp[aU,aV])) ⟨hx,I⟩,ai⟩,hq⟩⟩
def L6(pr:L Ty×Bool)(S:bZ)(A:Int)(P:L UInt8)(M:L Nd)(Am:kj M)(V s:L Ty)(r:L Ty×Bool)(hf:bP 58 M=some V)(B:ew s S.st)(hl:s.length+cP M<=339)(O:S.fr.length<=1099511627776)(hc:dU 58 (cE M) V s=(r,0)):bg A P 58 M S/\Comes pr S r (aE 58 M S):=by
 obtain⟨a,b,c,d,st,H,g,u,m,Q⟩:=S;obtain⟨G,q1,N,U,E,J,I,K,rfl,rfl⟩:=Fl hf bn;obtain⟨g1,g2,gz⟩:=TJ Am;have fF:=bL B;cases s with
 |nil=>cases hc
 |cons t s =>
 obtain⟨v,q,rfl,hv,hq⟩:=aW B;have D:=cQ hv.1;simp at fF hl;have C:(if dD t=10 then cZ (cz U (aU t 0::t::s,false)) (cz K (s,false))else bw 5)=(r,0):=hc;split at C;rotate_left;cases C;rename_i YI;obtain⟨T,ts⟩:=t;subst YI;obtain⟨t1,rfl,Tw⟩:=fN (cF D.1) bn;obtain⟨m1,m2⟩:=wj C;obtain⟨m3,m4⟩:=wo C;obtain⟨l,rfl,Bi,Y,W⟩:=xW D.2.1 D.2.2;cases l with
 |nil =>
  have e:aE 58 [.mk 3 G q1 N U,.mk 3 E J I K] ⟨a,b,c,d,.mk 10 0 0 [] [] [] []::q,H,g,u,m,Q⟩=(0,ee ⟨a,b,c,d,q,H,g,u,m,Q⟩ K 0 []):=by unfold aE;rfl
  rw[e]
  exact⟨gk _ _ 2 A 58 P _ [_] q _ bn (by rw[L3];rfl) (by show List.length (Vl.mk 10 0 0 [] [] [] []::q)<=_;simp;omega) (IM ⟨a,b,c,d,q,H,g,u,m,Q⟩ A P G q1 N U E J I K 10 0 [] [] [] 0 bT O),
   A9 (S:=⟨a,b,c,d,q,H,g,u,m,Q⟩) m3 m4 ai g2 hq⟩
 |cons x xs =>
  have hz:=hv.2;simp only[aH,aI]at hz;have e:aE 58 [.mk 3 G q1 N U,.mk 3 E J I K] ⟨a,b,c,d,.mk 10 0 0 [] (x::xs) [] []::q,H,g,u,m,Q⟩=aY (ee ⟨a,b,c,d,q,H,g,u,m,Q⟩ U 0 []) [.mk 10 0 0 [] xs [] [],x]:=by unfold aE;rw[L3];rfl
  rw[e];simp only[aL,aaN]at Y;simp only[ej,aaN]at W;simp only[aag]at Bi
  exact⟨gk _ _ 2 A 58 P _ [_] q _ bn (by rw[L3];rfl) (by show List.length (Vl.mk 10 0 0 [] (x::xs) [] []::q)<=_;simp only[aag];omega) (IN ⟨a,b,c,d,q,H,g,u,m,Q⟩ A P G q1 N U E J I K 10 0 [] [] [] 0 x xs ai (by simp only[aH,bp,aO,aay];omega) bT O),
   vm (S:=⟨a,b,c,d,q,H,g,u,m,Q⟩) m1 m2 cS g1 ⟨⟨fX (rI D.1 _ (by simp[aU,aV])) ⟨Y.1,W.1⟩,ai⟩,⟨fX D.1 (Hl ai Y.2 W.2),by simp only[aH,bp,aO,aay];omega⟩,hq⟩⟩
def YJ(B:L Ty×Bool)(S:bZ)(A:Int)(W:L UInt8)(M:L Nd)(D:kj M)(V s:L Ty)(r:L Ty×Bool)(hf:bP 64 M=some V)(C:ew s S.st)(hl:s.length+cP M<=339)(U:S.fr.length<=1099511627776)(I:eP 64 M (cE M) V s=(r,0)):bg A W 64 M S/\Comes B S r (aE 64 M S):=by
 obtain⟨a,b,c,d,st,H,g,u,m,Q⟩:=S;obtain⟨G,q1,P,Y,E,O,N,K,rfl,rfl⟩:=Fl hf bn;obtain⟨g1,g2,gz⟩:=TJ D;have fF:=bL C;cases s with
 |nil=>cases I
 |cons t s =>
 obtain⟨v,q,rfl,hv,hq⟩:=aW C;have f1:=cQ hv.1;simp at fF hl;have J:(if dD t=2 then cZ (cz Y (s,false)) (cz K (s,false))else bw 5)=(r,0):=I;split at J;rotate_left;cases J;rename_i YI;obtain⟨T,ts⟩:=t;subst YI;obtain⟨m1,m2⟩:=wj J;obtain⟨m3,m4⟩:=wo J;rcases YK f1.2.1 with rfl|rfl
 ·have e:aE 64 [.mk 3 G q1 P Y,.mk 3 E O N K] ⟨a,b,c,d,aK 2 0::q,H,g,u,m,Q⟩=(0,ee ⟨a,b,c,d,q,H,g,u,m,Q⟩ K 0 []):=by unfold aE;rfl
  rw[e]
  exact⟨gk _ _ 2 A 64 W _ [_] q _ bn (by rw[TH];rfl) (by show List.length (aK 2 0::q)<=_;simp;omega) (OA ⟨a,b,c,d,q,H,g,u,m,Q⟩ A W G q1 P Y E O N K 2 0 [] [] [] [] bT U),
   A9 (S:=⟨a,b,c,d,q,H,g,u,m,Q⟩) m3 m4 ai g2 hq⟩
 have e:aE 64 [.mk 3 G q1 P Y,.mk 3 E O N K] ⟨a,b,c,d,aK 2 1::q,H,g,u,m,Q⟩=(0,ee ⟨a,b,c,d,q,H,g,u,m,Q⟩ Y 0 []):=by unfold aE;rfl
 rw[e]
 exact⟨gk _ _ 2 A 64 W _ [_] q _ bn (by rw[TH];rfl) (by show List.length (aK 2 1::q)<=_;simp;omega) (OB ⟨a,b,c,d,q,H,g,u,m,Q⟩ A W G q1 P Y E O N K 2 0 [] [] [] [] bT U),
  A9 (S:=⟨a,b,c,d,q,H,g,u,m,Q⟩) m1 m2 ai g1 hq⟩
def Cg{α:Type}(l:List α):l.drop l.length=[]:=aeT
def RZ(pr:L Ty×Bool)(S:bZ)(O:Int)(K:L UInt8)(M:L Nd)(Am:kj M)(V s:L Ty)(r:L Ty×Bool)(hf:bP 60 M=some V)(C:ew s S.st)(hl:s.length+cP M<=339)(N:S.fr.length<=1099511627776)(E:iW 60 (cE M) V s=(r,0)):bg O K 60 M S/\Comes pr S r (aE 60 M S):=by
 obtain⟨a,b,c,d,st,H,g,u,m,Q⟩:=S;obtain⟨B,q1,r1,Y,rfl,rfl⟩:=LY hf bn;obtain⟨g1,gz⟩:=YH Am;have fF:=bL C;cases s with
 |nil=>cases E
 |cons t s =>
 obtain⟨v,q,rfl,hv,hq⟩:=aW C;have D:=cQ hv.1;simp at fF hl;have A:(if dD t=10\/dD t=13 then cZ (cz Y ((if dD t=13 then .mk 11 (aV t)else aU t 0)::s,false)) (gy s)else bw 5)=(r,0):=E;split at A;rotate_left;cases A;rename_i YI;obtain⟨m1,m2⟩:=wj A;obtain⟨m3,m4⟩:=wo A;have hr:r=(s,false):=m4 Z;subst hr;have J:∃k xs e,v = .mk k 0 0 [] xs [] []/\(∀x∈xs,Fit e x)/\(if dD t=13 then .mk 11 (aV t)else aU t 0)=e:=by
  obtain⟨T,ts⟩:=t;have hz:=hv.2;rcases YI with rfl|rfl
  obtain⟨I,rfl,Tw⟩:=fN (cF D.1) bn;obtain⟨l,rfl,Bi,W,U⟩:=xW D.2.1 D.2.2;simp only[aH]at hz;exact⟨10,l,I,Z,λx P=>⟨fX (rI D.1 _ cc) ⟨(fQ _ l).1 W x P,Hu U P⟩,by have:=fC P;omega⟩,Z⟩;obtain⟨I,t2,rfl,Tw,ZM⟩:=fE (cF D.1) bn;obtain⟨l,rfl,Bi,W,hlu,U⟩:=Fk D.2.1 D.2.2;simp only[aH]at hz;exact⟨13,l,.mk 11 [I,t2],Z,λx P=>⟨fX (RW D.1) ⟨(fQ _ l).1 W x P,Hu U P⟩,by have:=fC P;omega⟩,Z⟩
 obtain⟨k,xs,e0,rfl,G,he⟩:=J;rw[he]at m1 m2;have e:aE 60 [.mk 3 B q1 r1 Y] ⟨a,b,c,d,.mk k 0 0 [] xs [] []::q,H,g,u,m,Q⟩=(0,we ⟨a,b,c,d,q,H,g,u,m,Q⟩ Y 3 xs):=by unfold aE;rfl
 unfold bg;rw[e]
 refine⟨gk _ _ 2 O 60 K _ [_] q _ bn (by rw[aa8];rfl) (by show List.length (Vl.mk k 0 0 [] xs [] []::q)<=_;simp only[aag];omega) (Lv ⟨a,b,c,d,q,H,g,u,m,Q⟩ O K B q1 r1 Y k 0 [] [] [] 0 xs bT N),
  .inr (.inl ⟨Z,⟨Y,Y.length,3,xs⟩,s,Z,g1,hq,λh=>?_⟩)⟩
 refine⟨acr,g1,aaV _,s,false,by show cz (Y.drop Y.length) (s,false)=_;rw[Cg];rfl,λ_ => .inr (.inr (.inr (.inl ⟨Z,e0,G,by show s.length+1+cP Y<=340;omega,⟨_,_,CI m1,λhf=>?_⟩,h Z⟩)))⟩;have:=m2 hf;rw[<- this]
def R0(B:L Ty×Bool)(S:bZ)(U:Int)(K:L UInt8)(M:L Nd)(N:kj M)(V s:L Ty)(r:L Ty×Bool)(hf:bP 65 M=some V)(C:ew s S.st)(J:s.length+cP M<=339)(T:S.fr.length<=1099511627776)(I:eP 65 M (cE M) V s=(r,0)):bg U K 65 M S/\Comes B S r (aE 65 M S):=by
 obtain⟨a,b,c,d,st,fr,g,u,m,Q⟩:=S;obtain⟨G,q1,P,Y,rfl,rfl⟩:=LY hf bn;obtain⟨g1,gz⟩:=YH N;have E:=bL C;cases s with
 |nil=>cases I
 |cons t s =>
 obtain⟨v,q,rfl,H,hq⟩:=aW C;simp at E J;have A:(if dD t=2 then(if(cZ (cz Y (s,false)) (gy (t::s))).2≠0 then bw (cZ (cz Y (s,false)) (gy (t::s))).2 else gy s)else bw 5)=(r,0):=I;split at A;rotate_left;cases A;rename_i D;split at A;rename_i W;exact absurd (aeM Prod.snd A) W;rename_i W;simp at W;cases A;obtain⟨m1,O⟩:=wj (a:=cz Y (s,false)) (b:=gy (t::s)) (r:=(cZ (cz Y (s,false)) (gy (t::s))).1) (by rw[<- W]);obtain⟨m3,m4⟩:=wo (a:=cz Y (s,false)) (b:=gy (t::s)) (r:=(cZ (cz Y (s,false)) (gy (t::s))).1) (by rw[<- W]);have hr:=m4 Z;rw[hr]at O;have e:aE 65 [.mk 3 G q1 P Y] ⟨a,b,c,d,v::q,fr,g,u,m,Q⟩=(0,{we ⟨a,b,c,d,q,fr,g,u,m,Q⟩ Y 4 []with st:=v::q}):=by unfold aE;rfl
 refine⟨gk _ _ 2 U 65 K _ [_] q _ bn (by rw[aa9];rfl) (by show List.length (v::q)<=_;simp;omega) (Lw ⟨a,b,c,d,q,fr,g,u,m,Q⟩ U K G q1 P Y v bT T),
  .inr (.inl ⟨Z,⟨Y,Y.length,4,[]⟩,t::s,Z,g1,⟨H,hq⟩,λh=>?_⟩)⟩
 refine⟨by show(t::s).length+cP Y<=340;simp;omega,g1,aaV _,t::s,false,by show cz (Y.drop Y.length) (t::s,false)=_;rw[Cg];rfl,λ_ => .inr (.inr (.inr (.inr ⟨Z,t,s,Z,D,acr,⟨_,_,CI m1,λhf=>?_⟩,h Z⟩)))⟩;have:=O hf;rw[<- this];rfl
def Vt(B:L Ty×Bool)(S:bZ)(U:Int)(K:L UInt8)(M:L Nd)(O:kj M)(V s:L Ty)(r:L Ty×Bool)(hf:bP 68 M=some V)(C:ew s S.st)(N:s.length+cP M<=339)(T:S.fr.length<=1099511627776)(I:eP 68 M (cE M) V s=(r,0)):bg U K 68 M S/\Comes B S r (aE 68 M S):=by
 obtain⟨a,b,c,d,st,H,g,u,m,Q⟩:=S;obtain⟨G,q1,P,Y,rfl,rfl⟩:=LY hf bn;obtain⟨g1,D⟩:=YH O;have E:=bL C;cases s with
 |nil=>cases I
 |cons t s =>
 obtain⟨v,q,rfl,J,hq⟩:=aW C;simp at E N;have A:(if(cz Y (s,false)).2≠0 then bw (cz Y (s,false)).2 else if(cz Y (s,false)).1.2=true then bw 1 else gy (t::(cz Y (s,false)).1.1))=(r,0):=I;split at A;rename_i W;exact absurd (aeM Prod.snd A) W;rename_i W;simp at W;split at A;cases A;cases A;have e:aE 68 [.mk 3 G q1 P Y] ⟨a,b,c,d,v::q,H,g,u,m,Q⟩=(0,ee ⟨a,b,c,d,q,H,g,u,m,Q⟩ Y 1 [v]):=by unfold aE;rfl
 refine⟨gk _ _ 2 U 68 K _ [_] q _ bn (by rw[abc];rfl) (by show List.length (v::q)<=_;simp;omega) (OC ⟨a,b,c,d,q,H,g,u,m,Q⟩ U K G q1 P Y v bT T),
  .inr (.inl ⟨Z,⟨Y,0,1,[v]⟩,s,Z,g1,hq,λh=>?_⟩)⟩
 exact⟨acr,g1,aeW _,_,_,CI W,λ_ => .inr (.inl ⟨Z,aaV _,[t],⟨J,trivial⟩,h Z⟩)⟩
def R1(B:L Ty×Bool)(S:bZ)(A:Int)(K:L UInt8)(M:L Nd)(V s:L Ty)(r:L Ty×Bool)(hf:bP 67 M=some V)(C:ew s S.st)(E:s.length+cP M<=339)(U:S.fr.length<=1099511627776)(I:eP 67 M (cE M) V s=(r,0)):bg A K 67 M S/\Comes B S r (aE 67 M S):=by
 obtain⟨a,b,c,d,st,fr,g,u,m,Q⟩:=S;obtain⟨rfl,rfl⟩:=cK hf bn;have D:=bL C;rcases s with _|⟨Y,_|⟨W,s⟩⟩
 cases I;cases I;obtain⟨v,q0,rfl,hv,qO⟩:=aW C;obtain⟨w,q,rfl,hw,hq⟩:=aW qO;have P:=cQ hw.1;simp at D E;have O:(if dD W=14/\cV Y (aU W 0)=true then gy (aU W 1::s)else bw 5)=(r,0):=I;split at O;rotate_left;cases O;rename_i c1;obtain⟨T,ts⟩:=W;obtain⟨N,c2⟩:=c1;subst N;obtain⟨t,G,rfl,Tw,ZM⟩:=fE (cF P.1) bn;cases O;have et:Y=t:=(gq _ _).1 c2;subst et;obtain⟨code,rfl,J,ZK,H,hmt⟩:=abd P.2.1 P.2.2;have hmc:=nD J;have e:aE 67 [] ⟨a,b,c,d,v :: .mk 14 0 0 [] [] [Y,G] code::q,fr,g,u,m,Q⟩=(0,{ee ⟨a,b,c,d,q,fr,g,u,m,Q⟩ code 2 q.reverse with st:=[v]}):=by unfold aE;rfl
 refine⟨gk _ _ 2 A 67 K _ [_,_] q _ bn (by rw[abb];rfl) (by show List.length (v::Vl.mk 14 0 0 [] [] [Y,G] code::q)<=_;simp;omega) (Lx ⟨a,b,c,d,q,fr,g,u,m,Q⟩ A K v 14 0 [] [Y,G] code 0 [] bT U),
  .inr (.inl ⟨Z,⟨code,0,2,q.reverse⟩,[Y],Z,J,⟨hv,trivial⟩,λh=>?_⟩)⟩
 refine⟨by show List.length [Y]+cP code<=340;simp;omega,J,aeW _,_,_,CI ZK,λhf => .inr (.inr (.inl ⟨Z,by show q.reverse.length<=340;rw[abW];omega,G,s,H hf,by show ew s q.reverse.reverse;rw[ahf];exact hq,h Z⟩))⟩
def L7(B:L Ty×Bool)(S:bZ)(U:Int)(K:L UInt8)(M:L Nd)(O:kj M)(V s:L Ty)(r:L Ty×Bool)(hf:bP 66 M=some V)(C:ew s S.st)(hl:s.length+cP M<=339)(T:S.fr.length<=1099511627776)(N:r.1.all br=true)(E:eP 66 M (cE M) V s=(r,0)):bg U K 66 M S/\Comes B S r (aE 66 M S):=by
 obtain⟨a,b,c,d,q,H,g,u,m,Q⟩:=S;have D:=A8 O;obtain⟨x,y,G,q1,P,Y,rfl,hx,hy,rfl⟩:=YG hf bn;obtain⟨g1,gz⟩:=rJ O (show Nd.mk 3 G q1 P Y∈_ from afH _ (afH _ (ahp ..)));have fF:=bL C;simp only at C fF;have A:(if j8 Y=true then bw 5 else if(cZ (cz Y ([(aJ x).1],false)) (gy [(aJ y).1])).2≠0 then bw (cZ (cz Y ([(aJ x).1],false)) (gy [(aJ y).1])).2 else gy (.mk 14 [(aJ x).1,(aJ y).1]::s))=(r,0):=by obtain⟨kx,nx,px,sx,ax⟩:=x;obtain⟨ky,ny,py,sy,ay⟩:=y;exact E
 split at A;cases A;rename_i cm;split at A;rename_i W;exact absurd (aeM Prod.snd A) W;rename_i W;simp at W;cases A;obtain⟨J,I⟩:=wj (a:=cz Y ([(aJ x).1],false)) (b:=gy [(aJ y).1]) (r:=(cZ (cz Y ([(aJ x).1],false)) (gy [(aJ y).1])).1) (by rw[<- W]);obtain⟨m3,m4⟩:=wo (a:=cz Y ([(aJ x).1],false)) (b:=gy [(aJ y).1]) (r:=(cZ (cz Y ([(aJ x).1],false)) (gy [(aJ y).1])).1) (by rw[<- W]);have hr:=m4 Z;rw[hr]at I;simp only[aO,bD]at D;have sx:bf (aJ x).1<=1000000:=by
  rcases yy x with ⟨t,h1,_,_,h4⟩|h1
  grind;rw[h1];decide
 have sy:bf (aJ y).1<=1000000:=by
  rcases yy y with ⟨t,h1,_,_,h4⟩|h1
  grind;rw[h1];decide
 have gx:br (aJ x).1=true:=rI (bC N) _ cc;have e:aE 66 [x,y,.mk 3 G q1 P Y] ⟨a,b,c,d,q,H,g,u,m,Q⟩=aY ⟨a,b,c,d,q,H,g,u,m,Q⟩ [.mk 14 0 0 [] [] [(aJ x).1,(aJ y).1] Y]:=by unfold aE;rfl
 have hv:bE (.mk 14 0 0 [] [] [(aJ x).1,(aJ y).1] Y) (.mk 14 [(aJ x).1,(aJ y).1])=true/\eU (.mk 14 0 0 [] [] [(aJ x).1,(aJ y).1] Y)=true:=by
  constructor;unfold bE;simp[cA,dD,aU,aV,(gq _ _).2 rfl];rw[Gc 14 0 0 [] [] _ _ Y rfl];rw[aaD g1 Z,if_neg cc,if_pos (by simp[gx])];simp only[cG,aaN,Bool.or_eq_true,aio];refine⟨⟨by first|exact J|exact aaX J,?_⟩,by simpa using cm⟩;cases hb:(cz Y ([(aJ x).1],false)).1.2 with
  |true=>exact .inl Z
  |false =>
   right;rw[<- I hb];exact(l9 _ _).2 Z
 unfold bg;rw[e]
 exact⟨gk _ _ 2 U 66 K _ [] q _ bn (by rw[aba];rfl) bT (G5 ⟨a,b,c,d,q,H,g,u,m,Q⟩ U K x y G q1 P Y ai ai (by simp only[aH,aI,bp,aay];omega) bT T),
  .inl (cg (S:=⟨a,b,c,d,q,H,g,u,m,Q⟩) (fX (bC N) hv) C)⟩
def R2(B:L Ty×Bool)(P:Int)(S:bZ)(hE:qU S.self S.iY S.iZ S.balance=true)(hm:0<=S.au/\S.au<=bJ)(A:Int)(K:L UInt8)(M:L Nd)(O:kj M)(V s:L Ty)(r:L Ty×Bool)(hf:bP P M=some V)(C:ew s S.st)(I:s.length+cP M<=339)(T:S.fr.length<=1099511627776)(G:r.1.all br=true)(Y:nZ P M (cE M) V s=(r,0)):bg A K P M S/\Comes B S r (aE P M S):=by
 have U:aO M<=8589934593:=afC (A8 O) ai;have W:s.length<=340:=by omega
 have hP:¬P<40:=by intro h;unfold bP at hf;rw[if_pos (.inl h)]at hf;cases hf
 have st:∀{p q:Prop},bg A K P M S/\bQ S r (aE P M S)->bg A K P M S/\Comes B S r (aE P M S):=λh=>⟨h.1,.inl h.2⟩;unfold nZ at Y;by_cases u:P<=44;rw[if_pos u]at Y;exact st (p:=True) (q:=True) (R3 P ai S A K M V s r hf C W Y);rw[if_neg u]at Y;by_cases Q:P=45;rw[if_pos Q]at Y;subst Q;exact st (p:=True) (q:=True) (R4 S A K M U V s r hf C W G Y);rw[if_neg Q]at Y;by_cases N:P<=58;rw[if_pos N]at Y;by_cases D:P=52;subst D;exact L4 B S A K M O V s r hf C I T Y;by_cases d2:P=55;subst d2;exact L5 B S A K M O V s r hf C I T Y;by_cases d3:P=58;subst d3;exact L6 B S A K M O V s r hf C I T Y;exact st (p:=True) (q:=True) (I0 P ai S A K M U (cE M) V s r hf C W G Y);rw[if_neg N]at Y;by_cases c4:P<=63;rw[if_pos c4]at Y;by_cases D:P=60;subst D;exact RZ B S A K M O V s r hf C I T Y;exact st (p:=True) (q:=True) (O9 P ai S A K M U (cE M) V s r hf C W G Y);rw[if_neg c4]at Y;by_cases J:P<=68
 ·rw[if_pos J]at Y;rcases(show P=64\/P=65\/P=66\/P=67\/P=68 by omega)with rfl|rfl|rfl|rfl|rfl
  exact YJ B S A K M O V s r hf C I T Y;exact R0 B S A K M O V s r hf C I T Y;exact L7 B S A K M O V s r hf C I T G Y;exact R1 B S A K M V s r hf C I T Y;exact Vt B S A K M O V s r hf C I T Y
 rw[if_neg J]at Y;by_cases H:P<=72\/P>=93
 ·rw[if_pos H]at Y;have:P<=95:=by apply agq;intro h;unfold eZ at Y;rw[if_neg ai,if_neg ai,if_neg ai,if_pos ai]at Y;cases Y
  exact st (p:=True) (q:=True) (IZ P ai S A K M U (cE M) V s r hf C W G Y)
 rw[if_neg H]at Y;by_cases E:P<=83;rw[if_pos E]at Y;by_cases D:P=83;subst D;have h:=R5 S A K M V s r hf C W Y;exact⟨h.1,.inr (.inr h.2)⟩;exact st (p:=True) (q:=True) (RQ P ai S A K M U (cE M) V s r hf C W G Y);rw[if_neg E]at Y;exact st (p:=True) (q:=True) (O8 P ai S hE hm A K M U (cE M) V s r hf C W G Y)
def Ei(S W:bZ):Prop:=W.self=S.self/\W.iY=S.iY/\W.iZ=S.iZ/\W.balance=S.balance/\W.bU=S.bU/\W.used=S.used
def R6(S:bZ)(l:L Vl):Ei S (aY S l).2/\(aY S l).2.au=S.au:=⟨⟨Z,Z,Z,Z,Z,Z⟩,Z⟩
def Hv{c:Prop}[Decidable c]{Q:MR->Prop}{a b:MR}(h1:Q a)(h2:Q b):Q (if c then a else b):=by grind
def KM(S:bZ)(o:MR):Prop:=Ei S o.2/\o.2.au=S.au
def yG(S:bZ)(l:L Vl):KM S (aY S l):=R6 S l
def yH(S W:bZ)(e:Int)(h:Ei S W/\W.au=S.au):KM S (e,W):=h
def YL(P:Int)(M:L Nd)(l:L Vl)(S:bZ):KM S (Yt P M l S):=by repeat' (first|exact yG _ _|exact yH _ _ _ ⟨⟨rfl,rfl,rfl,rfl,rfl,rfl⟩,rfl⟩|refine Hv ?_ ?_)
def Vu(P:Int)(M:L Nd)(l:L Vl)(S:bZ):KM S (Rv P M l S):=by repeat' (first|exact yG _ _|exact yH _ _ _ ⟨⟨rfl,rfl,rfl,rfl,rfl,rfl⟩,rfl⟩|refine Hv ?_ ?_)
def Pd(P:Int)(M:L Nd)(l:L Vl)(S:bZ):KM S (B7 P M l S):=by
 unfold B7;have h1:∀(c:L Nd)(f:Int)(a:L Vl)(q:L Vl),KM S (aY (ee S c f a) q):=λc f a q=>⟨⟨Z,Z,Z,Z,Z,Z⟩,Z⟩;cases ez (lV l 0)<;>dsimp only <;>
 repeat' (first|exact h1 _ _ _ _|exact yG _ _|exact yH _ _ _ ⟨⟨Z,Z,Z,Z,Z,Z⟩,Z⟩|refine Hv ?_ ?_)
def Vv(P:Int)(M:L Nd)(l:L Vl)(S:bZ):KM S (LA P M l S):=by
 unfold LA;cases ez (lV l 1)<;>dsimp only <;>
 repeat' (first|exact yG _ _|exact yH _ _ _ ⟨⟨Z,Z,Z,Z,Z,Z⟩,Z⟩|refine Hv ?_ ?_)
def R7(P:Int)(l:L Vl)(S:bZ):KM S (Fh P l S):=by
 unfold Fh;dsimp only
 repeat' (first|exact yG _ _|exact yH _ _ _ ⟨⟨Z,Z,Z,Z,Z,Z⟩,Z⟩|refine Hv ?_ ?_)
def YM(P:Int)(M:L Nd)(l:L Vl)(S:bZ):KM S (Tj P M l S):=by
 unfold Tj;dsimp only
 repeat' (first|exact yG _ _|exact yH _ _ _ ⟨⟨Z,Z,Z,Z,Z,Z⟩,Z⟩|refine Hv ?_ ?_)
def Vw(P:Int)(M:L Nd)(l:L Vl)(S:bZ):Ei S (Du P M l S).2/\((Du P M l S).2.au=S.au\/P=84/\S.au<=bJ-vN (lV l 1)/\(Du P M l S).2.au=S.au+vN (lV l 1)):=by
 have C:∀{o:MR},KM S o->Ei S o.2/\(o.2.au=S.au\/P=84/\S.au<=bJ-vN (lV l 1)/\o.2.au=S.au+vN (lV l 1)):=λh=>⟨h.1,.inl h.2⟩;unfold Du;dsimp only;by_cases c:P=84;subst c;rw[if_neg bn,if_neg bn,if_neg bn,if_neg bn,if_pos rfl];by_cases u:vN (lV l 1)=0;rw[if_pos u];exact C (yG _ _);rw[if_neg u];by_cases K:S.au>bJ-vN (lV l 1);rw[if_pos K];exact C (yH _ _ _ ⟨⟨Z,Z,Z,Z,Z,Z⟩,Z⟩);rw[if_neg K];exact⟨⟨Z,Z,Z,Z,Z,Z⟩,.inr ⟨Z,ai,Z⟩⟩;rw[if_neg (c:=P=84) c];refine C ?_
 repeat' (first|exact yG _ _|exact yH _ _ _ ⟨⟨Z,Z,Z,Z,Z,Z⟩,Z⟩|refine Hv ?_ ?_)
def Vx(P:Int)(M:L Nd)(l:L Vl)(S:bZ):Ei S (A3 P M l S).2/\((A3 P M l S).2.au=S.au\/P=84/\S.au<=bJ-vN (lV l 1)/\(A3 P M l S).2.au=S.au+vN (lV l 1)):=by have C:∀{o:MR},KM S o->Ei S o.2/\(o.2.au=S.au\/P=84/\S.au<=bJ-vN (lV l 1)/\o.2.au=S.au+vN (lV l 1)):=λh=>⟨h.1,.inl h.2⟩;unfold A3;by_cases u:P<=44;rw[if_pos u];exact C (YL ..);rw[if_neg u];by_cases K:P<=56/\P≠52/\P≠55;rw[if_pos K];exact C (Vu ..);rw[if_neg K];by_cases T:P=52\/P=55\/P=58\/P=60\/64<=P/\P<=68;rw[if_pos T];exact C (Pd ..);rw[if_neg T];by_cases c4:P<=63;rw[if_pos c4];exact C (Vv ..);rw[if_neg c4];by_cases Y:P<=72\/P>=93;rw[if_pos Y];exact C (R7 ..);rw[if_neg Y];by_cases B:P<=83;rw[if_pos B];exact C (YM ..);rw[if_neg B];exact Vw ..
def YN(P:Int)(M:L Nd)(S:bZ)(V s:L Ty)(r:L Ty×Bool)(D:0<=S.au/\S.au<=bJ)(U:ew s S.st)(hf:bP P M=some V)(I:nZ P M (cE M) V s=(r,0)):Ei S (aE P M S).2/\0<=(aE P M S).2.au/\(aE P M S).2.au<=bJ/\S.au<=(aE P M S).2.au:=by
 unfold aE;cases C:ki (bY P) S.st with
 |none=>exact⟨⟨Z,Z,Z,Z,Z,Z⟩,D.1,D.2,afw _⟩
 |some O =>
  obtain⟨l,q⟩:=O;obtain⟨h1,h2⟩:=Vx P M l {S with st:=q};refine⟨h1,?_⟩;simp only at h2 ⊢;rcases h2 with h2|⟨rfl,h2,K⟩
  omega;rw[K];have B:0<=vN (lV l 1):=by
   have A:iI 84 V s=(r,0):=I;rcases s with _|⟨Q,_|⟨Y,s⟩⟩
   cases A;cases A;obtain⟨v,q0,E,hv,N⟩:=aW U;obtain⟨w,q1,rfl,J,hq⟩:=aW N;rw[E]at C;have H:l=[v,w]:=(by have G:some ([v,w],q1)=some (l,q):=C;cases G;rfl);subst H;have W:(if dD Y=4/\gl Q=true then gy (.mk 9 [.mk 15 [Q]]::s)else bw 5)=(r,0):=A;split at W;rename_i c4;have u:=cQ J.1;obtain⟨T,ts⟩:=Y;have:T=4:=c4.1;subst this;obtain⟨n,rfl,B⟩:=gw (.inr (.inr (.inl rfl))) u.2.1;have h6:=(RE B).2.2.1 Z;exact h6.1;cases W
  omega
def oP(S:bZ)(F:iR)(t:List iR):MR :=
 if F.fin=1 then(0,{S with st:=F.aside.reverse++S.st,fr:=t})
 else if F.fin=2 then(match S.st with
  |[]=>(14,S)
  |v::_=>(0,{S with st:=v::F.aside.reverse,fr:=t}))
 else if F.fin=3 then(match F.aside with
  |[]=>(0,{S with fr:=t})
  |x::q=>if S.bU<=S.used then(12,S)else(0,{S with st:=x::S.st,fr:=⟨F.code,0,3,q⟩::t,used:=S.used+1}))
 else if F.fin=4 then(match S.st with
  |[]=>(14,S)
  |v::q=>if vN v=1 then(if S.bU<=S.used then(12,{S with st:=q})else(0,{S with st:=q,fr:=⟨F.code,0,4,F.aside⟩::t,used:=S.used+1}))else(0,{S with st:=q,fr:=t}))
 else(0,{S with fr:=t})
def l8:Nat->bZ->MR
 |0,S=>(12,S)
 |k+1,S=>match S.fr with
  |[]=>(0,S)
  |F::t=>if F.pos=F.code.length then(if(oP S F t).1=0 then l8 k (oP S F t).2 else oP S F t)
   else match F.code[F.pos]? with
    |none=>(14,S)
    |some (.mk Y N P s M) =>
     if Y=3 then l8 k (ee (jb S F t) M 0 [])
     else if Y≠2 then(14,jb S F t)
     else if S.bU<=S.used then(12,jb S F t)
     else if(aE P M {jb S F t with used:=S.used+1}).1=0 then l8 k (aE P M {jb S F t with used:=S.used+1}).2 else aE P M {jb S F t with used:=S.used+1}
structure MT(pr:List Ty×Bool)(S:bZ)(s:List Ty):Prop where
 fit:ew s S.st
 ft:FT pr S.fr s
 env:qU S.self S.iY S.iZ S.balance=true
 abe:0<=S.au/\S.au<=bJ
 used:0<=S.used/\S.used<=S.bU
 bU:S.bU<=1000000
def left(S:bZ):Nat:=(S.bU-S.used).toNat*900+Ay S.fr
def Hw(S W:bZ):Prop:=W.self=S.self/\W.iY=S.iY/\W.iZ=S.iZ/\W.balance=S.balance/\W.bU=S.bU
def R8(C:L Ty×Bool)(S:bZ)(o:MR):Prop :=
 Hw S o.2/\(0<=o.2.used/\o.2.used<=o.2.bU)/\(0<=o.2.au/\o.2.au<=bJ) /\
 ((o.1=0/\∃O,MT C o.2 O/\left o.2<left S)\/o.1=11\/o.1=13\/(o.1=12/\o.2.used=o.2.bU)\/(o.1=10/\vK o.2.said≠0/\aH o.2.said<=25000000))
def Pe{l:L Nd}{i:Nat}{x:Nd}(h:l[i]?=some x):cP (l.drop i)=many x+cP (l.drop (i+1)):=by
 have e:l.drop i=x::l.drop (i+1):=by obtain⟨h1,h2⟩:=List.getElem?_eq_some_iff.1 h;rw[ahh h1,h2]
 rw[e];rfl
def YO(l:L Nd)(i:Nat):cP (l.drop i)<=cP l:=by
 induction i generalizing l with
 |zero=>exact aaV _
 |succ i Y=>cases l with
  |nil=>exact aaV _
  |cons x l=>have:=Y l;simp only[agQ,cP];omega
def Ba{c:Prop}[Decidable c]{Q:MR->Prop}{a b:MR}(h1:c->Q a)(h2:¬c->Q b):Q (if c then a else b):=by grind
def L8(S:bZ)(F:iR)(t:List iR)(h:S.fr=F::t)(hf:F.fin=0\/F.fin=1\/F.fin=2\/F.fin=3\/F.fin=4)(C:S.st.length<=500000000)(T:F.fin=1\/F.fin=2->F.aside.length<=500000000)(P:t.length<=1099511627776)(M:Tl S.bU)(K:0<=S.used) :
  jv 106 S [.ptr 1000002 (0+t.length*4)] (oP S F t):=by
 obtain⟨a,b,c,d,O,H,g,u,m,Q⟩:=S;obtain⟨code,Y,fin,I⟩:=F;subst h;rcases hf with rfl|rfl|rfl|rfl|rfl
 exact L9 ⟨a,b,c,d,O,⟨code,Y,0,I⟩::t,g,u,m,Q⟩ ⟨code,Y,0,I⟩ t Z Z P;exact R9 a b c d O g u m Q code Y I t C (T (.inl Z)) P
 ·cases O with
  |nil=>exact Ma a b c d [] g u m Q code Y I t P
  |cons v O =>
   simp at C;cases I with
   |nil=>exact Mb a b c d v O g u m Q code Y t ai P
   |cons x q=>exact Mc a b c d v O g u m Q code Y x q t ai (by have:=T (.inr Z);simp at this;omega) P
 ·cases I with
  |nil=>exact Md a b c d O g u m Q code Y t P
  |cons x q =>
   show jv _ _ _ (if g<=u then _ else _:MR);by_cases G:g<=u;rw[if_pos G];exact Me a b c d O g u m Q code Y x q t G P;rw[if_neg G];exact Mf a b c d O g u m Q code Y x q t ai M K C P
 cases O with
 |nil=>exact Mg a b c d [] g u m Q code Y I t cc P
 |cons v O =>
  obtain⟨J,W,V,U,N,E,A⟩:=v;simp at C;show jv _ _ _ (if W=1 then(if g<=u then _ else _)else _:MR);by_cases B:W=1;subst B;rw[if_pos rfl];by_cases G:g<=u;rw[if_pos G];exact Mh a b c d J V U N E A O g u m Q code Y I t G ai P;rw[if_neg G];exact Mi a b c d J V U N E A O g u m Q code Y I t ai M K ai P;rw[if_neg B];exact Mj a b c d J W V U N E A B O g u m Q code Y I t ai P
def Ch{C:L Ty×Bool}{S:bZ}{s:L Ty}{F:iR}{t:List iR}(hT:MT C S s)(h:S.fr=F::t)(hp:F.pos=F.code.length):(F.fin=0\/F.fin=1\/F.fin=2\/F.fin=3\/F.fin=4)/\(F.fin=1\/F.fin=2->F.aside.length<=500000000)/\R8 C S (oP S F t):=by
 obtain⟨P,ET,U,Y,W,T⟩:=hT;obtain⟨a,b,c,d,O,fr,g,u,m,Q⟩:=S;obtain⟨code,pos,fin,I⟩:=F;simp only at *;subst h;subst hp;obtain⟨f1,D,f3,s',f',K,f5⟩:=ET;simp only at f1 D f3 K f5;have e4:(s,false)=(s',f'):=by unfold Eh at K;rw[Cg]at K;simp only[cz,ahr,ahC]at K;rw[ahr];exact K
 simp only[ahr]at e4;obtain⟨rfl,rfl⟩:=e4;have g0:=nD D;have N:Ay (⟨code,code.length,fin,I⟩::t)=1+Ay t:=by simp only[Ay,Z5,Cg,cP]
 have hz:cP (code.drop 0)=cP code:=rfl;rcases f5 rfl with ⟨rfl,k⟩|⟨rfl,k0,w,J,k⟩|⟨rfl,k0,t0,w,J,M,k⟩|⟨rfl,e,J,M,⟨H,V,G,E⟩,k⟩|⟨rfl,a0,B,J,M,G,⟨H,V,E,k5⟩,k⟩
 refine⟨.inl rfl,(λh=>by rcases h with h|h<;>cases h),⟨rfl,rfl,rfl,rfl,rfl⟩,W,Y,.inl ⟨rfl,s,⟨P,k,U,Y,W,T⟩,?_⟩⟩;show left ⟨a,b,c,d,O,t,g,u,m,Q⟩<left ⟨a,b,c,d,O,⟨code,code.length,0,I⟩::t,g,u,m,Q⟩;simp only[left,N];omega;refine⟨.inr (.inl Z),λ_=>by omega,⟨Z,Z,Z,Z,Z⟩,W,Y,.inl ⟨Z,w++s,⟨Ci J P,k,U,Y,W,T⟩,?_⟩⟩;show left ⟨a,b,c,d,I.reverse++O,t,g,u,m,Q⟩<left ⟨a,b,c,d,O,⟨code,code.length,1,I⟩::t,g,u,m,Q⟩;simp only[left,N];omega;refine⟨.inr (.inr (.inl Z)),λ_=>by omega,?_⟩;subst J;obtain⟨v,q,rfl,hv,hq⟩:=aW P;refine⟨⟨Z,Z,Z,Z,Z⟩,W,Y,.inl ⟨Z,t0::w,⟨⟨hv,M⟩,k,U,Y,W,T⟩,?_⟩⟩;show left ⟨a,b,c,d,v::I.reverse,t,g,u,m,Q⟩<left ⟨a,b,c,d,v::q,⟨code,code.length,2,I⟩::t,g,u,m,Q⟩;simp only[left,N];omega
 ·refine⟨.inr (.inr (.inr (.inl rfl))),(λh=>by rcases h with h|h<;>cases h),?_⟩;cases I with
  |nil =>
   refine⟨⟨Z,Z,Z,Z,Z⟩,W,Y,.inl ⟨Z,s,⟨P,k,U,Y,W,T⟩,?_⟩⟩;show left ⟨a,b,c,d,O,t,g,u,m,Q⟩<left ⟨a,b,c,d,O,⟨code,code.length,3,[]⟩::t,g,u,m,Q⟩;simp only[left,N];omega
  |cons x q =>
   show R8 C _ (if g<=u then _ else _:MR);refine Ba (λA=>?_) (λA=>?_);exact⟨⟨Z,Z,Z,Z,Z⟩,W,Y,.inr (.inr (.inr (.inl ⟨Z,by show u=g;omega⟩)))⟩;refine⟨⟨Z,Z,Z,Z,Z⟩,⟨adJ,adR⟩,Y,.inl ⟨Z,e::s,⟨⟨J x cc,P⟩,?_,U,Y,⟨adJ,adR⟩,T⟩,?_⟩⟩;refine⟨by show s.length+1+cP code<=340;exact M,D,aeW _,H,V,G,λhf=>?_⟩;have e3:=E hf;rw[e3];refine .inr (.inr (.inr (.inl ⟨Z,e,λy hy=>J y (by simp[hy]),M,⟨H,V,G,E⟩,k⟩)));show left ⟨a,b,c,d,x::O,⟨code,0,3,q⟩::t,g,u+1,m,Q⟩<left ⟨a,b,c,d,O,⟨code,code.length,3,x::q⟩::t,g,u,m,Q⟩;simp only[left,N];simp only[Ay,Z5,ahg];omega
 refine⟨.inr (.inr (.inr (.inr rfl))),(λh=>by rcases h with h|h<;>cases h),?_⟩;subst J;obtain⟨v,q,rfl,hv,hq⟩:=aW P;show R8 C _ (if vN v=1 then(if g<=u then _ else _)else _:MR);refine Ba (λhn=>Ba (λA=>?_) (λA=>?_)) (λhn=>?_);exact⟨⟨Z,Z,Z,Z,Z⟩,W,Y,.inr (.inr (.inr (.inl ⟨Z,by show u=g;omega⟩)))⟩;refine⟨⟨Z,Z,Z,Z,Z⟩,⟨adJ,adR⟩,Y,.inl ⟨Z,B,⟨hq,?_,U,Y,⟨adJ,adR⟩,T⟩,?_⟩⟩;refine⟨G,D,aeW _,H,V,E,λhf => .inr (.inr (.inr (.inr ⟨Z,a0,B,k5 hf,M,G,⟨H,V,E,k5⟩,k⟩)))⟩;show left ⟨a,b,c,d,q,⟨code,0,4,I⟩::t,g,u+1,m,Q⟩<left ⟨a,b,c,d,v::q,⟨code,code.length,4,I⟩::t,g,u,m,Q⟩;simp only[left,N];simp only[Ay,Z5,ahg];omega;refine⟨⟨Z,Z,Z,Z,Z⟩,W,Y,.inl ⟨Z,B,⟨hq,k,U,Y,W,T⟩,?_⟩⟩;show left ⟨a,b,c,d,q,t,g,u,m,Q⟩<left ⟨a,b,c,d,v::q,⟨code,code.length,4,I⟩::t,g,u,m,Q⟩;simp only[left,N];omega
def YP{n:Nd}{l:L Nd}{s O:L Ty}{f':Bool}(h:Eh (n::l) s O f'):∃r,fZ n s=(r,0)/\r.1.length<=40/\r.1.all br=true/\cz l r=((O,f'),0):=by unfold Eh at h;simp only[cz]at h;rw[if_neg bn]at h;split at h;rename_i c;exact absurd (aeM Prod.snd h) c;rename_i c;simp at c;obtain⟨h1,h2,K,Y⟩:=uj c;grind
def Cj{C:L Ty×Bool}{F:iR}{t:List iR}{s:L Ty}{n:Nd}(h:FT C (F::t) s)(B:F.code[F.pos]?=some n):∃r,fZ n s=(r,0)/\r.1.all br=true/\(r.2=false->FT C ({F with pos:=F.pos+1}::t) r.1)/\n∈F.code:=by
 obtain⟨V,Y,U,O,f',N,W⟩:=h;obtain⟨G,D⟩:=List.getElem?_eq_some_iff.1 B;have e:F.code.drop F.pos=n::F.code.drop (F.pos+1):=by rw[ahh G,D]
 rw[e]at N;obtain⟨r,h1,h2,K,T⟩:=YP N;refine⟨r,h1,K,λH=>?_,abz B⟩;have g0:=nD Y;refine⟨by show r.1.length+cP F.code<=340;omega,Y,by show F.pos+1<=F.code.length;omega,O,f',?_,W⟩;show cz (F.code.drop (F.pos+1)) (r.1,false)=_;grind
def Pf{C:L Ty×Bool}{S:bZ}{s:L Ty}{F:iR}{t:List iR}{N P:Int}{W:L UInt8}{M:L Nd}(V:MT C S s)(h:S.fr=F::t)(B:F.code[F.pos]?=some (.mk 3 N P W M)):Hw S (ee (jb S F t) M 0 [])/\MT C (ee (jb S F t) M 0 []) s/\left (ee (jb S F t) M 0 [])<left S:=by obtain⟨I,Y,O,U,T,Q⟩:=V;rw[h]at Y;have K:=Y;obtain⟨D,J,q,_⟩:=K;obtain⟨r,h1,h2,H,G⟩:=Cj Y B;obtain⟨g1,E⟩:=rJ J G;simp only[fZ,if_true]at h1;refine⟨⟨rfl,rfl,rfl,rfl,rfl⟩,⟨I,?_,O,U,T,Q⟩,?_⟩;exact LX (r:=r) (by rw[h1]) (λ_=>by rw[h1]) ai g1 H;have e:=Pe B;simp only[many]at e;show left {jb S F t with fr:=⟨M,0,0,[]⟩::{F with pos:=F.pos+1}::t}<left S;simp only[left];rw[h];simp only[Ay,Z5,ahg];omega
def J7{C:L Ty×Bool}{S:bZ}{s:L Ty}{F:iR}{t:List iR}{N P:Int}{O:L UInt8}{M:L Nd}(hT:MT C S s)(h:S.fr=F::t)(hn:F.code[F.pos]?=some (.mk 2 N P O M))(hg:S.used<S.bU)(hW:left S<=1000000000) :
  bg N O P M {jb S F t with used:=S.used+1}/\R8 C S (aE P M {jb S F t with used:=S.used+1})/\(aE P M {jb S F t with used:=S.used+1}).1≠12:=by
 obtain⟨Y,K,dr,lP,mz,AA⟩:=hT;rw[h]at K;have YQ:=K;obtain⟨f1,f2,f3,_⟩:=YQ;obtain⟨r,h1,h2,h3,h4⟩:=Cj K hn;obtain⟨g1,g2⟩:=rJ f2 h4;have B:=Ht S.fr;have J:left S=(S.bU-S.used).toNat*900+Ay S.fr:=rfl;rw[h]at B J;simp only[aag]at B;simp only[fZ]at h1;rw[if_neg bn,if_neg bn]at h1;cases hf:bP P M with
 |none=>rw[hf]at h1;cases h1
 |some V =>
 rw[hf]at h1;have z9:nZ P M (cE M) V s=(r,0):=h1;obtain⟨k1,k2⟩:=R2 C P {jb S F t with used:=S.used+1} dr lP N O M g1 V s r hf Y ai (by show({F with pos:=F.pos+1}::t).length<=_;simp only[aag];omega) h2 z9;obtain⟨⟨q1,H,A,G,W,Q⟩,E,D,m3⟩:=YN P M {jb S F t with used:=S.used+1} V s r lP Y hf z9;refine⟨k1,?_,by rcases k2 with (⟨I,_⟩|I|I)|⟨I,_⟩|⟨I,_⟩<;>rw[I]<;>decide⟩;generalize aE P M {jb S F t with used:=S.used+1}=o at *;simp only at q1 H A G W Q;have u:0<=o.2.used/\o.2.used<=o.2.bU:=by rw[W,Q];omega
 have T:qU o.2.self o.2.iY o.2.iZ o.2.balance=true:=by rw[q1,H,A,G];exact dr
 refine⟨⟨q1,H,A,G,W⟩,u,⟨E,D⟩,?_⟩;have e:=Pe hn;simp only[many]at e;rcases k2 with (⟨I,U,q,o4⟩|I|I)|⟨I,F2,s2,U,q,o4,o5⟩|⟨I,U⟩
 refine .inl ⟨I,r.1,⟨q,by rw[U];exact h3 o4,T,⟨E,D⟩,u,by rw[W];exact AA⟩,?_⟩;rw[J];simp only[left,W,Q,U];simp only[Ay,Z5];omega;exact .inr (.inl I);omega;refine .inl ⟨I,s2,⟨o4,by rw[U];exact o5 h3,T,⟨E,D⟩,u,by rw[W];exact AA⟩,?_⟩;rw[J];have g3:=nD q;have g4:=YO F2.code F2.pos;simp only[left,W,Q,U];simp only[Ay,Z5];omega;omega
def WG(C:L Ty×Bool)(S:bZ)(o:MR):Prop :=
 Hw S o.2/\(0<=o.2.used/\o.2.used<=o.2.bU)/\(0<=o.2.au/\o.2.au<=bJ) /\
 ((o.1=0/\o.2.fr=[]/\ew C.1 o.2.st/\C.2=false)\/o.1=11\/o.1=13\/(o.1=12/\o.2.used=o.2.bU)\/(o.1=10/\vK o.2.said≠0/\aH o.2.said<=25000000))
def Pg{S T U:bZ}(h1:Hw S T)(h2:Hw T U):Hw S U:=by obtain⟨W,a2,A,P,V⟩:=h1;obtain⟨Y,Q,H,O,N⟩:=h2;exact⟨by rw[Y,W],by rw[Q,a2],by rw[H,A],by rw[O,P],by rw[N,V]⟩
def Mk{C:L Ty×Bool}{S T:bZ}{o:MR}(h1:Hw S T)(h2:WG C T o):WG C S o:=⟨Pg h1 h2.1,h2.2⟩
def J8{C:L Ty×Bool}{S:bZ}{o:MR}(h:R8 C S o)(Y:o.1≠0):WG C S o:=by obtain⟨h1,h2,K,W⟩:=h;exact⟨h1,h2,K,W.elim (λh=>absurd h.1 Y) .inr⟩
def vI(Q:L Ty×Bool):∀(k:Nat)(S:bZ)(s:L Ty),MT Q S s->left S<k->left S<=1000000000->ou k S (l8 k S)/\WG Q S (l8 k S)
 |0,S,s,_,h,_=>absurd h (Nat.not_lt_zero _)
 |k+1,S,s,C,hk,hW=>by
  have A:=Ht S.fr;have fF:=bL C.fit;have O:=C.used;have AA:=C.bU;have G:Tl S.bU:=⟨ai,ai⟩;have MH:left S=(S.bU-S.used).toNat*900+Ay S.fr:=rfl;cases T:S.fr with
  |nil =>
   have e:l8 (k+1) S=(0,S):=(by simp only[l8,T]);rw[e];have U:=C.ft;rw[T]at U;have EI:Q=(s,false):=U;subst EI;exact⟨ou.done T,⟨Z,Z,Z,Z,Z⟩,O,C.abe,.inl ⟨Z,T,C.fit,Z⟩⟩
  |cons F t =>
   rw[T]at A MH;simp only[aag]at A;have K:=C.ft;rw[T]at K;obtain⟨f1,f2,f3,_⟩:=K;have g0:=nD f2;have g1:=A8 f2;have H:F.code.length<=8589934593:=by
    have:∀l:L Nd,l.length<=cP l:=by
     intro l
     induction l with
     |nil=>exact aaV _
     |cons x l V=>cases x;simp only[aag,cP,many];omega
    have:=this F.code;omega
   by_cases U:F.pos=F.code.length
   ·obtain⟨u,k2,J⟩:=Ch C T U;have k4:=L8 S F t T u ai k2 ai G O.1;have e:l8 (k+1) S=if(oP S F t).1=0 then l8 k (oP S F t).2 else oP S F t:=(by simp only[l8,T];rw[if_pos U])
    by_cases Y:(oP S F t).1=0
    ·rw[e,if_pos Y];obtain⟨E,t2,t3,D⟩:=J;rcases D with ⟨_,q,I,m2⟩|h|h|h|h
     have V:=vI Q k _ q I ai ai;exact⟨ou.fin T U ai k4 (λh=>absurd Y h) (λ_=>V.1),Mk E V.2⟩;rw[Y]at h;cases h;rw[Y]at h;cases h;omega;omega
    rw[e,if_neg Y];exact⟨ou.fin T U ai k4 (λ_=>rfl) (λh=>absurd h Y),J8 J Y⟩
   have hlt:F.pos<F.code.length:=(by omega);have B:F.code[F.pos]?=some F.code[F.pos]:=aeL hlt;generalize F.code[F.pos]=n at B;obtain⟨W,N,P,sg,M⟩:=n
   have e:l8 (k+1) S=(if W=3 then l8 k (ee (jb S F t) M 0 [])
    else if W≠2 then(14,jb S F t)
    else if S.bU<=S.used then(12,jb S F t)
    else if(aE P M {jb S F t with used:=S.used+1}).1=0 then l8 k (aE P M {jb S F t with used:=S.used+1}).2 else aE P M {jb S F t with used:=S.used+1}):=by
    simp only[l8,T,B];rw[if_neg U]
   rw[e];by_cases c3:W=3;subst c3;rw[if_pos rfl];obtain⟨s1,I,m2⟩:=Pf C T B;have V:=vI Q k _ s I ai ai;exact⟨ou.seq T B ai H V.1,Mk s1 V.2⟩;rw[if_neg c3];have c2:W=2:=(by have K:=C.ft;rw[T]at K;obtain⟨r,h1,_⟩:=Cj K B;simp only[fZ]at h1;rw[if_neg c3]at h1;apply agq;intro c;rw[if_pos c]at h1;cases h1);subst c2;rw[if_neg bn];by_cases hg:S.bU<=S.used;rw[if_pos hg];exact⟨ou.agd T B ai H hg,⟨Z,Z,Z,Z,Z⟩,O,C.abe,.inr (.inr (.inr (.inl ⟨Z,by show S.used=S.bU;omega⟩)))⟩;rw[if_neg hg];obtain⟨u,J,_⟩:=J7 C T B ai hW;by_cases Y:(aE P M {jb S F t with used:=S.used+1}).1=0
   ·rw[if_pos Y];obtain⟨E,t2,t3,D⟩:=J;rcases D with ⟨_,q,I,m2⟩|h|h|h|h
    have V:=vI Q k _ q I ai ai;exact⟨ou.step T B ai H ai G O.1 u (λh=>absurd Y h) (λ_=>V.1),Mk E V.2⟩;rw[Y]at h;cases h;rw[Y]at h;cases h;omega;omega
   rw[if_neg Y];exact⟨ou.step T B ai H ai G O.1 u (λ_=>rfl) (λh=>absurd h Y),J8 J Y⟩
end Go.Proofs
