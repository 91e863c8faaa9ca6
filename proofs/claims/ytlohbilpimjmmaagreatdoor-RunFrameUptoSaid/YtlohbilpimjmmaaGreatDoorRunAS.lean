/- Package run: what lies beneath stays as it is, and changes nothing (plain). Package run: what lies beneath stays as it is, and changes nothing: the whole run (plain). -/
import Derived.Test.YtlohbilpimjmmaaGreatDoorRunAQ
set_option linter.unusedVariables false
set_option linter.unusedSimpArgs false
set_option maxRecDepth 100000
namespace Go.Proofs
open Go.cq
def lC (low:List Vl):List fO->Option (List fO)
 | []=>none
 | F::t=>match lC low t with
  | some Y=>some (F::Y)
  | none=>if F.fin=2 then some (⟨F.code,F.pos,F.fin,low.reverse++F.aside⟩::t)else none
def fZ (low:List Vl) (S:bT):bT:=match lC low S.fr with
 | some fr=>{S with fr:=fr}
 | none=>{S with st:=S.st++low}
abbrev Eh (low:List Vl) (o:MR):MR:=(o.1,fZ low o.2)
theorem eO {low:List Vl} {S:bT} {x:List fO} (h:lC low S.fr=some x):fZ low S={S with fr:=x}:=by unfold fZ;rw[h]
theorem fF {low:List Vl} {S:bT} (h:lC low S.fr=none):fZ low S={S with st:=S.st++low}:=by unfold fZ;rw[h]
theorem iU {low:List Vl} {F:fO} {t:List fO} (h:lC low t=none) (hf:F.fin≠2):lC low (F::t)=none:=by
 simp only[lC,h];rw[if_neg hf]
theorem iy {low:List Vl} {F:fO} {t x:List fO} (h:lC low t=some x):lC low (F::t)=some (F::x):=by
 simp only[lC,h]
theorem qp {low:List Vl} {F:fO} {t:List fO} (h:lC low t=none) (hf:F.fin=2):lC low (F::t)=some (⟨F.code,F.pos,F.fin,low.reverse++F.aside⟩::t):=by
 simp only[lC,h];rw[if_pos hf]
theorem Gn {low:List Vl}:∀{pre t x:List fO},lC low t=some x->lC low (pre++t)=some (pre++x)
 | [],t,x,h=>h
 | F::pre,t,x,h=>iy (Gn h)
theorem Ei {low:List Vl}:∀{pre t:List fO},lC low t=none->(∀G∈pre,G.fin≠2)->lC low (pre++t)=none
 | [],t,h,_=>h
 | F::pre,t,h,h2=>iU (Ei h fun G Y=>h2 G (by simp[Y])) (h2 F c9)
abbrev K1 (x:List fO) (S:bT):bT:={S with fr:=x}
def vH (o:List fO->MR) (P:Int):Prop:=∃pre e T,(∀x,o x=(e,K1 (pre++x) T))/\(P≠67->∀G∈pre,G.fin≠2)
theorem jE {c:Prop} [Decidable c] {P:Int} {a b:List fO->MR} (h1:vH a P) (h2:vH b P):vH (fun x=>if c then a x else b x) P:=by
 by_cases h:c
 ·simpa only[if_pos h]using h1
 ·simpa only[if_neg h]using h2
theorem mZ {c:Prop} [Decidable c] {P:Int} {a b:List fO->MR} (h1:c->vH a P) (h2:¬c->vH b P):vH (fun x=>if c then a x else b x) P:=by
 by_cases h:c
 ·simpa only[if_pos h]using h1 h
 ·simpa only[if_neg h]using h2 h
theorem oW (S:bT) (l:List Vl) (P:Int):vH (fun x=>bl (K1 x S) l) P:=⟨[],(bl S l).1,(bl S l).2,fun x=>rfl,fun _ G h=>by simp at h⟩
theorem nZ (S:bT) (e:Int) (P:Int):vH (fun x=>(e,K1 x S)) P:=⟨[],e,S,fun x=>rfl,fun _ G h=>by simp at h⟩
theorem pH (S:bT) (c:List Nd) (p:Nat) (f:Int) (a:List Vl) (P:Int) (hf:P≠67->f≠2):vH (fun x=>(0,K1 (⟨c,p,f,a⟩::x) S)) P :=
 ⟨[⟨c,p,f,a⟩],0,S,fun x=>rfl,fun h G Y=>by simp at Y;subst Y;exact hf h⟩
theorem Ej (S:bT) (c:List Nd) (f:Int) (a:List Vl) (l:List Vl) (P:Int) (hf:P≠67->f≠2):vH (fun x=>bl (cO (K1 x S) c f a) l) P :=
 ⟨[⟨c,0,f,a⟩],(bl S l).1,(bl S l).2,fun x=>rfl,fun h G Y=>by simp at Y;subst Y;exact hf h⟩
theorem Nz (P:Int) (args:List Nd) (l:List Vl) (S:bT):vH (fun x=>iR P args l (K1 x S)) P:=by
 unfold iR;refine jE ?_ (jE ?_ (mZ (fun C=>?_) fun _=>(jE ?_ (jE ?_ (jE ?_ ?_)))))
 ·unfold FG;exact jE (oW S _ P) (jE (oW S [lV S.st (aN args 0-1)] P) (jE (nZ {S with st:=lV S.st (aN args 0)::(S.st.take (aN args 0)++S.st.drop (aN args 0+1))} 0 P) (jE (nZ {S with st:=S.st.take (aN args 0)++lV l 0::S.st.drop (aN args 0)} 0 P) (nZ S 0 P))))
 ·unfold Ad
  repeat' (first|exact oW _ _ _|exact nZ _ _ _|refine jE ?_ ?_)
 ·unfold r8;refine mZ (fun _=>Ej S _ _ _ _ _ fun _=>by decide) fun K=>mZ (fun _=>Ej S _ _ _ _ _ fun _=>by decide) fun q=>mZ (fun _=>?_) fun J=>mZ (fun _=>pH S _ _ _ _ _ fun _=>by decide) fun T=>mZ (fun _=>pH S _ _ _ _ _ fun _=>by decide) fun W=>mZ (fun _=>pH {S with st:=lV l 0::S.st} (aC args 0) (aC args 0).length 4 [] P fun _=>by decide) fun V=>mZ (fun _=>pH S _ _ _ _ _ fun _=>by decide) fun U=>mZ (fun _=>oW _ _ _) fun Q=>?_
  ·cases eC (lV l 0)
   ·exact pH S _ _ _ _ _ fun _=>by decide
   ·exact Ej S _ _ _ _ _ fun _=>by decide
  ·exact pH {S with st:=[lV l 0]} (rZ (lV l 1)) 0 2 S.st.reverse P fun Y=>absurd (show P=67 by omega) Y
 ·unfold Ae;cases eC (lV l 1)<;>dsimp only <;>
  repeat' (first|exact oW _ _ _|exact nZ _ _ _|refine jE ?_ ?_)
 ·unfold v9;dsimp only
  repeat' (first|exact oW _ _ _|exact nZ _ _ _|refine jE ?_ ?_)
 ·unfold FH;dsimp only
  repeat' (first|exact oW _ _ _|exact nZ _ _ _|exact nZ {S with said:=lV l 0} 10 P|refine jE ?_ ?_)
 ·unfold uN;dsimp only
  repeat' (first|exact oW _ _ _|exact nZ _ _ _|exact jE (c:=S.bE>bP-vN (lV l 1)) (nZ S 11 P) (oW {S with bE:=S.bE+vN (lV l 1)} _ P)|refine jE ?_ ?_)
abbrev stM (low:List Vl) (S:bT):bT:={S with st:=S.st++low}
abbrev YH (low:List Vl) (o:MR):MR:=(o.1,stM low o.2)
theorem K2 (low:List Vl):∀(l st:List Vl),lI l (st++low)=((lI l st).1,(lI l st).2++low)
 | [],st=>rfl
 | v::l,st=>by
  simp only[lI];by_cases h:lB v>200
  ·rw[if_pos h,if_pos h]
  ·rw[if_neg h,if_neg h];exact K2 low l (v::st)
theorem Gp (low:List Vl):∀(n:Nat) (st l r:List Vl),gb n st=some (l,r)->gb n (st++low)=some (l,r++low)
 | 0,st,l,r,h=>by simp only[gb,Option.some.injEq,Prod.mk.injEq]at h ⊢;exact⟨h.1,by rw[h.2]⟩
 | n+1,[],l,r,h=>by simp[gb]at h
 | n+1,v::st,l,r,h=>by
  simp only[gb]at h;cases e:gb n st with
  | none=>rw[e]at h;cases h
  | some q =>
   obtain⟨J,W⟩:=q;rw[e]at h;have U:=Gp low n st J W e;show gb (n+1) (v::(st++low))=_;simp only[gb,U];cases h;rfl
theorem jK (low:List Vl) (S:bT) (l:List Vl):bl (stM low S) l=YH low (bl S l):=by
 show((lI l (S.st++low)).1,{stM low S with st:=(lI l (S.st++low)).2})=_;rw[K2];rfl
theorem iz {c:Prop} [Decidable c] {low:List Vl} {a b q P:MR} (h1:c->q=YH low a) (h2:¬c->P=YH low b):(if c then q else P)=YH low (if c then a else b):=by
 by_cases h:c
 ·rw[if_pos h,if_pos h];exact h1 h
 ·rw[if_neg h,if_neg h];exact h2 h
theorem TM {st low:List Vl} {i:Nat} (h:i<st.length):lV (st++low) i=lV st i:=by
 unfold lV;rw[List.getD_eq_getElem?_getD,List.getD_eq_getElem?_getD,List.getElem?_append_left h]
theorem NA (low:List Vl) (P:Int) (args:List Nd) (l:List Vl) (S:bT) (Y:P=41->aN args 0-1<S.st.length) (W:P=43->aN args 0<S.st.length) (V:P=44->aN args 0<=S.st.length) (U:P≠67):iR P args l (stM low S)=YH low (iR P args l S):=by
 unfold iR;refine iz (fun _=>?_) fun _=>(iz (fun _=>?_) fun _=>(iz (fun C=>?_) fun _=>(iz (fun _=>?_) fun _=>(iz (fun _=>?_) fun _=>(iz (fun _=>?_) fun _=>?_)))))
 ·unfold FG;refine iz (fun _=>jK low S _) fun _=>(iz (fun h=>?_) fun _=>(iz (fun h=>?_) fun _=>(iz (fun h=>?_) fun _=>rfl)))
  ·show bl (stM low S) [lV (S.st++low) _]=_;rw[TM (Y h)];exact jK low S _
  ·have Q:=W h;show((0,{stM low S with st:=lV (S.st++low) (aN args 0)::((S.st++low).take (aN args 0)++(S.st++low).drop (aN args 0+1))}):MR)=_;rw[TM Q,List.take_append_of_le_length bn,List.drop_append_of_le_length bn,<- List.append_assoc];rfl
  ·have T:=V h;show((0,{stM low S with st:=(S.st++low).take (aN args 0)++lV l 0::(S.st++low).drop (aN args 0)}):MR)=_;rw[List.take_append_of_le_length T,List.drop_append_of_le_length T];show((0,{stM low S with st:=_}):MR)=(0,{S with st:=(S.st.take (aN args 0)++lV l 0::S.st.drop (aN args 0))++low})
   rw[List.append_assoc];rfl
 ·unfold Ad
  repeat' (first|exact jK low S _|rfl|refine iz (fun _=>?_) fun _=>?_)
 ·unfold r8;refine iz (fun _=>jK low (cO S _ _ _) _) fun K=>iz (fun _=>jK low (cO S _ _ _) _) fun q=>iz (fun _=>?_) fun J=>iz (fun _=>rfl) fun u=>iz (fun _=>rfl) fun O=>iz (fun _=>rfl) fun N=>iz (fun _=>rfl) fun M=>iz (fun _=>jK low S _) fun I=>?_
  ·cases eC (lV l 0)
   ·rfl
   ·exact jK low (cO S _ _ _) _
  ·exact absurd (show P=67 by omega) U
 ·unfold Ae;cases eC (lV l 1)<;>dsimp only <;>
  repeat' (first|exact jK low S _|rfl|refine iz (fun _=>?_) fun _=>?_)
 ·unfold v9;dsimp only
  repeat' (first|exact jK low S _|rfl|refine iz (fun _=>?_) fun _=>?_)
 ·unfold FH;dsimp only
  repeat' (first|exact jK low S _|rfl|refine iz (fun _=>?_) fun _=>?_)
 ·unfold uN;dsimp only
  repeat' (first|exact jK low S _|exact jK low {S with bE:=S.bE+vN (lV l 1)} _|rfl|refine iz (fun _=>?_) fun _=>?_)
theorem Gq (args:List Nd) (l:List Vl) (S:bT):iR 67 args l S=(0,{cO S (rZ (lV l 1)) 2 S.st.reverse with st:=[lV l 0]}):=rfl
theorem Qw {low:List Vl} {P:Int} {args:List Nd} {U:bT} {l r:List Vl} (M:gb (bO P) U.st=some (l,r)) (W:P=41->aN args 0-1<r.length) (V:P=43->aN args 0<r.length) (Q:P=44->aN args 0<=r.length):aH P args (fZ low U)=Eh low (aH P args U):=by
 have u:aH P args U=iR P args l {U with st:=r}:=by unfold aH;rw[M]
 obtain⟨pre,e,T,D,N⟩:=Nz P args l {U with st:=r};have C:aH P args U=(e,K1 (pre++U.fr) T):=by rw[u];exact D U.fr
 cases O:lC low U.fr with
 | some x =>
  rw[eO O];have K:aH P args {U with fr:=x}=iR P args l {U with st:=r,fr:=x}:=by unfold aH;rw[M]
  rw[K,C];have B:iR P args l {U with st:=r,fr:=x}=(e,K1 (pre++x) T):=D x;rw[B];show _=(e,fZ low (K1 (pre++U.fr) T))
  rw[eO (S:=K1 (pre++U.fr) T) (Gn O)]
 | none =>
  rw[fF O];have K:aH P args {U with st:=U.st++low}=iR P args l {U with st:=r++low}:=by unfold aH;rw[Gp low _ _ _ _ M]
  rw[K];by_cases Y:P=67
  ·subst Y;rw[Gq,u,Gq];show _=(0,fZ low _)
   rw[eO (S:={cO {U with st:=r} (rZ (lV l 1)) 2 r.reverse with st:=[lV l 0]}) (qp O rfl)];show((0,{cO {U with st:=r++low} (rZ (lV l 1)) 2 (r++low).reverse with st:=[lV l 0]}):MR)=_;rw[List.reverse_append];rfl
  ·have B:=NA low P args l {U with st:=r} W V Q Y;have J:iR P args l {U with st:=r++low}=YH low (iR P args l {U with st:=r}):=B;rw[J,<- u,C];show(e,stM low (K1 (pre++U.fr) T))=(e,fZ low (K1 (pre++U.fr) T))
   rw[fF (S:=K1 (pre++U.fr) T) (Ei O (N Y))]
theorem yf {N:List Ty×Bool} {S:bT} {s:List Ty} {F:fO} {t:List fO} (low:List Vl) (M:MT N S s) (h:S.fr=F::t) (A:F.pos=F.code.length) :
  (∀x,lC low t=some x->gB (K1 (F::x) S) F x=Eh low (gB S F t)) /\
  (lC low t=none->F.fin=2->gB (K1 (⟨F.code,F.pos,F.fin,low.reverse++F.aside⟩::t) S) ⟨F.code,F.pos,F.fin,low.reverse++F.aside⟩ t=Eh low (gB S F t)) /\
  (lC low t=none->F.fin≠2->gB (stM low S) F t=Eh low (gB S F t)):=by
 obtain⟨Q,p,J,I,G,B⟩:=M;obtain⟨a,b,c,d,T,fr,g,u,m,said⟩:=S;obtain⟨H,C,fin,Y⟩:=F;simp only at *;subst h;subst A;obtain⟨f1,f2,f3,s',f',V,U⟩:=p;simp only at f1 f2 f3 V U;have K:(s,false)=(s',f'):=by
  unfold zC at V;rw[vE]at V;simp only[cA,Prod.mk.injEq,and_true]at V;rw[Prod.mk.injEq];exact V
 simp only[Prod.mk.injEq]at K;obtain⟨rfl,rfl⟩:=K;clear G I B J;rcases U rfl with ⟨rfl,k⟩|⟨rfl,k0,w,D,k⟩|⟨rfl,k0,t0,w,D,P,k⟩|⟨rfl,e,D,P,⟨s3,X4,k3,k4⟩,k⟩|⟨rfl,a0,s0,D,P,k3,⟨s3,X4,k4,k5⟩,k⟩
 ·refine⟨fun x O=>?_,(fun _ h2=>by cases h2),fun O _=>?_⟩
  ·show _=((0,fZ low ⟨a,b,c,d,T,t,g,u,m,said⟩):MR)
   rw[eO (S:=⟨a,b,c,d,T,t,g,u,m,said⟩) O];try rfl
  ·show _=((0,fZ low ⟨a,b,c,d,T,t,g,u,m,said⟩):MR)
   rw[fF (S:=⟨a,b,c,d,T,t,g,u,m,said⟩) O];try rfl
 ·refine⟨fun x O=>?_,(fun _ h2=>by cases h2),fun O _=>?_⟩
  ·show _=((0,fZ low ⟨a,b,c,d,Y.reverse++T,t,g,u,m,said⟩):MR)
   rw[eO (S:=⟨a,b,c,d,Y.reverse++T,t,g,u,m,said⟩) O];try rfl
  ·show _=((0,fZ low ⟨a,b,c,d,Y.reverse++T,t,g,u,m,said⟩):MR)
   rw[fF (S:=⟨a,b,c,d,Y.reverse++T,t,g,u,m,said⟩) O];show((0,⟨a,b,c,d,Y.reverse++(T++low),t,g,u,m,said⟩):MR)=(0,⟨a,b,c,d,(Y.reverse++T)++low,t,g,u,m,said⟩)
   rw[List.append_assoc]
 ·subst D;obtain⟨v,q,rfl,hv,hq⟩:=bg Q;refine⟨fun x O=>?_,fun O _=>?_,fun _ h2=>absurd rfl h2⟩
  ·show _=((0,fZ low ⟨a,b,c,d,v::Y.reverse,t,g,u,m,said⟩):MR)
   rw[eO (S:=⟨a,b,c,d,v::Y.reverse,t,g,u,m,said⟩) O];try rfl
  ·show _=((0,fZ low ⟨a,b,c,d,v::Y.reverse,t,g,u,m,said⟩):MR)
   rw[fF (S:=⟨a,b,c,d,v::Y.reverse,t,g,u,m,said⟩) O];show((0,⟨a,b,c,d,v::(low.reverse++Y).reverse,t,g,u,m,said⟩):MR)=(0,⟨a,b,c,d,(v::Y.reverse)++low,t,g,u,m,said⟩)
   rw[List.reverse_append,List.reverse_reverse];rfl
 ·cases Y with
  | nil =>
   refine⟨fun x O=>?_,(fun _ h2=>by cases h2),fun O _=>?_⟩
   ·show _=((0,fZ low ⟨a,b,c,d,T,t,g,u,m,said⟩):MR)
    rw[eO (S:=⟨a,b,c,d,T,t,g,u,m,said⟩) O];try rfl
   ·show _=((0,fZ low ⟨a,b,c,d,T,t,g,u,m,said⟩):MR)
    rw[fF (S:=⟨a,b,c,d,T,t,g,u,m,said⟩) O];try rfl
  | cons y q =>
   refine⟨fun x O=>?_,(fun _ h2=>by cases h2),fun O _=>?_⟩
   ·show(if g<=u then _ else _:MR)=Eh low (if g<=u then _ else _:MR);by_cases E:g<=u
    ·rw[if_pos E,if_pos E];show _=((12,fZ low ⟨a,b,c,d,T,⟨H,H.length,3,y::q⟩::t,g,u,m,said⟩):MR)
     rw[eO (S:=⟨a,b,c,d,T,⟨H,H.length,3,y::q⟩::t,g,u,m,said⟩) (iy O)];try rfl
    ·rw[if_neg E,if_neg E];show _=((0,fZ low ⟨a,b,c,d,y::T,⟨H,0,3,q⟩::t,g,u+1,m,said⟩):MR)
     rw[eO (S:=⟨a,b,c,d,y::T,⟨H,0,3,q⟩::t,g,u+1,m,said⟩) (iy O)];try rfl
   ·show(if g<=u then _ else _:MR)=Eh low (if g<=u then _ else _:MR);by_cases E:g<=u
    ·rw[if_pos E,if_pos E];show _=((12,fZ low ⟨a,b,c,d,T,⟨H,H.length,3,y::q⟩::t,g,u,m,said⟩):MR)
     rw[fF (S:=⟨a,b,c,d,T,⟨H,H.length,3,y::q⟩::t,g,u,m,said⟩) (iU O (show(3:Int)≠2 by decide))];try rfl
    ·rw[if_neg E,if_neg E];show _=((0,fZ low ⟨a,b,c,d,y::T,⟨H,0,3,q⟩::t,g,u+1,m,said⟩):MR)
     rw[fF (S:=⟨a,b,c,d,y::T,⟨H,0,3,q⟩::t,g,u+1,m,said⟩) (iU O (show(3:Int)≠2 by decide))];try rfl
 ·subst D;obtain⟨v,q,rfl,hv,hq⟩:=bg Q;refine⟨fun x O=>?_,(fun _ h2=>by cases h2),fun O _=>?_⟩
  ·show(if vN v=1 then(if g<=u then _ else _)else _:MR)=Eh low (if vN v=1 then(if g<=u then _ else _)else _:MR);by_cases W:vN v=1
   ·rw[if_pos W,if_pos W];by_cases E:g<=u
    ·rw[if_pos E,if_pos E];show _=((12,fZ low ⟨a,b,c,d,q,⟨H,H.length,4,Y⟩::t,g,u,m,said⟩):MR)
     rw[eO (S:=⟨a,b,c,d,q,⟨H,H.length,4,Y⟩::t,g,u,m,said⟩) (iy O)];try rfl
    ·rw[if_neg E,if_neg E];show _=((0,fZ low ⟨a,b,c,d,q,⟨H,0,4,Y⟩::t,g,u+1,m,said⟩):MR)
     rw[eO (S:=⟨a,b,c,d,q,⟨H,0,4,Y⟩::t,g,u+1,m,said⟩) (iy O)];try rfl
   ·rw[if_neg W,if_neg W];show _=((0,fZ low ⟨a,b,c,d,q,t,g,u,m,said⟩):MR)
    rw[eO (S:=⟨a,b,c,d,q,t,g,u,m,said⟩) O];try rfl
  ·show(if vN v=1 then(if g<=u then _ else _)else _:MR)=Eh low (if vN v=1 then(if g<=u then _ else _)else _:MR);by_cases W:vN v=1
   ·rw[if_pos W,if_pos W];by_cases E:g<=u
    ·rw[if_pos E,if_pos E];show _=((12,fZ low ⟨a,b,c,d,q,⟨H,H.length,4,Y⟩::t,g,u,m,said⟩):MR)
     rw[fF (S:=⟨a,b,c,d,q,⟨H,H.length,4,Y⟩::t,g,u,m,said⟩) (iU O (show(4:Int)≠2 by decide))];try rfl
    ·rw[if_neg E,if_neg E];show _=((0,fZ low ⟨a,b,c,d,q,⟨H,0,4,Y⟩::t,g,u+1,m,said⟩):MR)
     rw[fF (S:=⟨a,b,c,d,q,⟨H,0,4,Y⟩::t,g,u+1,m,said⟩) (iU O (show(4:Int)≠2 by decide))];try rfl
   ·rw[if_neg W,if_neg W];show _=((0,fZ low ⟨a,b,c,d,q,t,g,u,m,said⟩):MR)
    rw[fF (S:=⟨a,b,c,d,q,t,g,u,m,said⟩) O];try rfl
end Go.Proofs
namespace Go.Proofs
open Go.cq
theorem NB {P:Int} {args:List Nd} {B s:List Ty} {r:List Ty×Bool} {T l q:List Vl} (hf:bN P args=some B) (E:mE P args (bf args) B s=(r,0)) (Y:dJ s T) (M:gb (bO P) T=some (l,q)) :
  (P=41->aN args 0-1<q.length)/\(P=43->aN args 0<q.length)/\(P=44->aN args 0<=q.length):=by
 have S:=bH Y;refine⟨?_,?_,?_⟩
 ·rintro rfl;rw[Ix]at M;simp only[gb,Option.some.injEq,Prod.mk.injEq]at M;obtain⟨_,rfl⟩:=M;obtain⟨N,p,W,x,rfl,D,rfl⟩:=sH hf cc;have U:(if 1<=(N:Int)/\(N:Int)<=s.length/\lz (s.getD ((N:Int)-1).toNat lA)=true then ee (s.getD ((N:Int)-1).toNat lA::s)else aP 5)=(r,0):=E;split at U
  ·rename_i V;show(N:Int).toNat-1<T.length;omega
  ·cases U
 ·rintro rfl;rw[Iy]at M;simp only[gb,Option.some.injEq,Prod.mk.injEq]at M;obtain⟨_,rfl⟩:=M;obtain⟨N,p,W,x,rfl,D,rfl⟩:=sH hf cc;have U:(if(N:Int)<s.length then ee (s.getD (N:Int).toNat lA::(s.take (N:Int).toNat++s.drop ((N:Int).toNat+1)))else aP 5)=(r,0):=E;split at U
  ·rename_i V;show(N:Int).toNat<T.length;omega
  ·cases U
 ·rintro rfl;rw[Iz]at M;obtain⟨N,p,W,x,rfl,D,rfl⟩:=sH hf cc;cases s with
  | nil=>cases E
  | cons t s =>
   obtain⟨v,Q,rfl,K,hq⟩:=bg Y;have O:some ([v],Q)=some (l,q):=M;cases O;have U:(if(N:Int)<s.length+1 then ee (s.take (N:Int).toNat++t::s.drop (N:Int).toNat)else aP 5)=(r,0):=E;split at U
   ·rename_i V;show(N:Int).toNat<=_;simp only[aac]at S;omega
   ·cases U
theorem NC {J:List Ty×Bool} {S:bT} {s:List Ty} {F:fO} {t:List fO} {N P:Int} {V:List UInt8} {args:List Nd} (E:MT J S s) (h:S.fr=F::t) (Y:F.code[F.pos]?=some (.mk 2 N P V args)) (U:S.used<S.gX) (T:left S<=1000000000) :
  ∃l q,gb (bO P) S.st=some (l,q)/\(P=41->aN args 0-1<q.length)/\(P=43->aN args 0<q.length)/\(P=44->aN args 0<=q.length):=by
 have A:=wK E h Y U T;obtain⟨Q,p,K,I,H,G⟩:=E;rw[h]at p;obtain⟨r,h1,h2,D,C⟩:=zF p Y;simp only[fq]at h1;rw[if_neg cc,if_neg cc]at h1;cases hf:bN P args with
 | none=>rw[hf]at h1;cases h1
 | some B =>
 rw[hf]at h1;cases M:gb (bO P) S.st with
 | none =>
  exfalso;have e:aH P args {eD S F t with used:=S.used+1}=(14,{eD S F t with used:=S.used+1,st:=[]}):=by
   unfold aH;show(match gb (bO P) S.st with|some (l,r)=>_|none=>_)=_;rw[M]
  obtain⟨_,⟨_,_,_,W⟩,_⟩:=A;rw[e]at W;rcases W with ⟨h,_⟩|h|h|⟨h,_⟩|⟨h,_⟩<;>cases h
 | some O =>
  obtain⟨l,q⟩:=O;exact⟨l,q,rfl,NB hf h1 Q M⟩
theorem Ek {D:List Ty×Bool} {low:List Vl} {S:bT} {s:List Ty} {F Y:fO} {t G:List fO} (K:MT D S s) (h:S.fr=F::t) (A:F.pos≠F.code.length) (C:left S<=1000000000) (B:Y.code=F.code) (W:Y.pos=F.pos)
  (Q:(fZ low S).gX=S.gX) (V:(fZ low S).used=S.used)
  (O:fZ low (eD S F t)=eD (fZ low S) Y G) (T:∀u,fZ low {eD S F t with used:=u}={eD (fZ low S) Y G with used:=u})
  (Xo:∀args,fZ low (cO (eD S F t) args 0 [])=cO (eD (fZ low S) Y G) args 0 []):hM (fZ low S) Y G=Eh low (hM S F t):=by
 unfold hM;rw[B,W,if_neg A,if_neg A];have p:=K.ft;rw[h]at p;obtain⟨f1,f2,f3,_⟩:=p;cases M:F.code[F.pos]? with
 | none =>
  have:=List.getElem?_eq_none_iff.1 M;omega
 | some n =>
  obtain⟨kind,N,P,sg,args⟩:=n;dsimp only;by_cases H:kind=3
  ·rw[if_pos H,if_pos H];show _=((0,fZ low _):MR)
   rw[Xo]
  rw[if_neg H,if_neg H];by_cases J:kind≠2
  ·rw[if_pos J,if_pos J];show _=((14,fZ low _):MR)
   rw[O]
  rw[if_neg J,if_neg J];by_cases E:S.gX<=S.used
  ·rw[if_pos E,if_pos (show(fZ low S).gX<=(fZ low S).used by rw[Q,V];exact E)];show _=((12,fZ low _):MR)
   rw[O]
  rw[if_neg E,if_neg (show ¬(fZ low S).gX<=(fZ low S).used by rw[Q,V];exact E)];obtain⟨l,q,k1,k2,k3,k4⟩:=NC K h (by rw[M,show kind=2 from by simpa using J]) bn C;have I:=Qw (low:=low) (P:=P) (args:=args) (U:={eD S F t with used:=S.used+1}) (l:=l) (r:=q) k1 k2 k3 k4;rw[T]at I;rw[V];exact I
theorem Qx {N:List Ty×Bool} {S:bT} {s:List Ty} {F:fO} {t:List fO} (low:List Vl) (E:MT N S s) (h:S.fr=F::t) (Y:left S<=1000000000):∃W G,(fZ low S).fr=W::G/\hM (fZ low S) W G=Eh low (hM S F t):=by
 cases O:lC low t with
 | some x =>
  have e:fZ low S=K1 (F::x) S:=eO (by rw[h];exact iy O);refine⟨F,x,Xp,?_⟩;by_cases A:F.pos=F.code.length
  ·have k:=(yf low E h A).1 x O;rw[<- e]at k;unfold hM;rw[if_pos A,if_pos A];exact k
  ·refine Ek E h A Y rfl rfl Xp Xp ?_ ?_ ?_
   ·rw[e,eO (S:=eD S F t) (iy O)]
   ·intro u;rw[e,eO (S:={eD S F t with used:=u}) (iy O)]
   ·intro args;rw[e,eO (S:=cO (eD S F t) args 0 []) (iy (iy O))];rfl
 | none =>
  by_cases hf:F.fin=2
  ·have e:fZ low S=K1 (⟨F.code,F.pos,F.fin,low.reverse++F.aside⟩::t) S:=eO (by rw[h];exact qp O hf);refine⟨_,t,Xp,?_⟩;by_cases A:F.pos=F.code.length
   ·have k:=(yf low E h A).2.1 O hf;rw[<- e]at k;unfold hM;rw[if_pos A,if_pos A];exact k
   ·refine Ek E h A Y rfl rfl Xp Xp ?_ ?_ ?_
    ·rw[e,eO (S:=eD S F t) (qp O hf)]
    ·intro u;rw[e,eO (S:={eD S F t with used:=u}) (qp O hf)]
    ·intro args;rw[e,eO (S:=cO (eD S F t) args 0 []) (iy (qp O hf))];rfl
  ·have e:fZ low S=stM low S:=fF (by rw[h];exact iU O hf);refine⟨F,t,by rw[e];exact h,?_⟩;by_cases A:F.pos=F.code.length
   ·have k:=(yf low E h A).2.2 O hf;rw[<- e]at k;unfold hM;rw[if_pos A,if_pos A];exact k
   ·refine Ek E h A Y rfl rfl Xp Xp ?_ ?_ ?_
    ·rw[e,fF (S:=eD S F t) (iU O hf)]
    ·intro u;rw[e,fF (S:={eD S F t with used:=u}) (iU O hf)]
    ·intro args;rw[e,fF (S:=cO (eD S F t) args 0 []) (iU (iU O hf) (show(0:Int)≠2 by decide))];rfl
theorem Gr (N:List Ty×Bool) (low:List Vl):∀(k:Nat) (S:bT) (s:List Ty),MT N S s->left S<k->left S<=1000000000->gT k (fZ low S)=Eh low (gT k S)
 | 0,S,s,_,h,_=>absurd h (Nat.not_lt_zero _)
 | k+1,S,s,hT,hk,hW=>by
  cases B:S.fr with
  | nil =>
   have e:fZ low S=stM low S:=fF (by rw[B];rfl);rw[nK k B,nK k (S:=fZ low S) (by rw[e];exact B)]
  | cons F t =>
   obtain⟨Y,G,h1,h2⟩:=Qx low hT B hW;rw[mb k B,mb k h1,h2];by_cases U:(hM S F t).1=0
   ·rw[if_pos U,if_pos U];obtain⟨P,p,V⟩:=wL (qo hT B hW) U;exact Gr N low k _ P p bn bn
   ·rw[if_neg U,if_neg U]
theorem U6 {a b c d:Int} {n:Nd} {s W:List Ty} {l low:List Vl} {g:Int} (h:EM a b c d n s l=true) (h2:EM a b c d n (s++W) (l++low)=true) (U:LA (l++low)) (Y:LA l) (E:0<=g/\g<=1000000) :
  gY a b c d n (s++W) (l++low) g=⟨(gY a b c d n s l g).code,(gY a b c d n s l g).st++(if(gY a b c d n s l g).code=0 then low else []),(gY a b c d n s l g).said,(gY a b c d n s l g).gX,(gY a b c d n s l g).bE⟩:=by
 unfold gY;rw[if_pos h,if_pos h2];have O:=tK h Y E 1000000001 bn;have J:=tK h2 U E 1000000001 bn;have k:=Gr _ low 1000000001 _ s (tJ h Y E) (by have:=pG h E;omega) (pG h E);have e:fZ low (qP a b c d (cF n) l g)=qP a b c d (cF n) (l++low) g:=fF rfl;rw[e,O,J]at k;rw[k];obtain⟨_,_,_,_,V⟩:=B2 h Y E;unfold rX;generalize rY a b c d n l g=o at *;obtain⟨e,T⟩:=o;simp only at V;rcases V with ⟨rfl,S,_⟩|rfl|rfl|⟨rfl,_⟩|⟨rfl,_⟩
 ·have K:fZ low T=stM low T:=fF (by rw[S];rfl);show Qs.mk 0 (fZ low T).st oL (fZ low T).used (fZ low T).bE=_;rw[K];rfl
 all_goals
  show Qs.mk _ [] _ (fZ low T).used 0=_;have B:(fZ low T).used=T.used/\(fZ low T).said=T.said:=by unfold fZ;split<;>exact⟨rfl,rfl⟩
  simp[B]
end Go.Proofs
