/- Package run: two pieces of code, one behind the other (plain): machines that differ in their lowest frame and in what was counted. Package run: two pieces of code, one behind the other (plain). What the small functions of package touchstonekeep answer, and the three laws about check. What the small  -/
import Derived.Test.YtlohbilpimjmmaaGreatDoorRunAR
import Derived.Test.YtlohbilpimjmmaaGreatDoorRunS
import Derived.Test.YtlohbilpimjmmaaGreatDoorRunJ
import Derived.Test.YtlohbilpimjmmaaGreatDoorRPure
set_option maxHeartbeats 0
set_option linter.unusedVariables false
set_option linter.unusedSimpArgs false
set_option maxRecDepth 100000
namespace Go.Proofs
open Go.cu
abbrev RV (u:Int) (S:bT):bT:={S with used:=u}
abbrev pO (u:Int) (o:MR):MR:=(o.1,RV u o.2)
theorem iu {c:Prop} [Decidable c] {f:MR->MR} {a b p M:MR} (h1:c->p=f a) (h2:¬c->M=f b):(if c then p else M)=f (if c then a else b):=by
 by_cases h:c
 ·rw[if_pos h,if_pos h];exact h1 h
 ·rw[if_neg h,if_neg h];exact h2 h
theorem Jk (P:Int) (args:List Nd) (l:List Vl) (S:bT) (g:Int):gT P args l (RV g S)=pO g (gT P args l S):=by
 unfold gT;refine iu (f:=pO g) (fun _=>?_) fun _=>(iu (f:=pO g) (fun _=>?_) fun _=>(iu (f:=pO g) (fun _=>?_) fun _=>(iu (f:=pO g) (fun _=>?_) fun _=>(iu (f:=pO g) (fun _=>?_) fun _=>(iu (f:=pO g) (fun _=>?_) fun _=>?_)))))
 ·unfold A1
  repeat' (first|rfl|refine iu (f:=pO g) (fun _=>?_) fun _=>?_)
 ·unfold uD
  repeat' (first|rfl|refine iu (f:=pO g) (fun _=>?_) fun _=>?_)
 ·unfold og;cases eo (lV l 0)<;>dsimp only <;>
  repeat' (first|rfl|refine iu (f:=pO g) (fun _=>?_) fun _=>?_)
 ·unfold uE;cases eo (lV l 1)<;>dsimp only <;>
  repeat' (first|rfl|refine iu (f:=pO g) (fun _=>?_) fun _=>?_)
 ·unfold qC;dsimp only
  repeat' (first|rfl|refine iu (f:=pO g) (fun _=>?_) fun _=>?_)
 ·unfold A2;dsimp only
  repeat' (first|rfl|refine iu (f:=pO g) (fun _=>?_) fun _=>?_)
 ·unfold qX;dsimp only
  repeat' (first|rfl|refine iu (f:=pO g) (fun _=>?_) fun _=>?_)
abbrev yE (m:Int) (S:bT):bT:={S with aU:=S.aU+m}
abbrev oL (m:Int) (o:MR):MR:=(o.1,yE m o.2)
theorem Fv (args:List Nd) (l:List Vl) (S:bT):gT 84 args l S=(if vN (lV l 1)=0 then bg S [cx []]else if S.aU>bM-vN (lV l 1)then(11,S)else bg {S with aU:=S.aU+vN (lV l 1)} [cx [.mk 15 (vN (lV l 1)) S.self [] [lV l 0] [] []]]):=rfl
theorem Jl (P:Int) (args:List Nd) (l:List Vl) (S:bT) (m:Int) (u:0<=m):gT P args l (yE m S)=oL m (gT P args l S)\/((gT P args l (yE m S)).1=11/\0<m):=by
 by_cases Y:P=84
 ·subst Y;rw[Fv,Fv];show(if vN (lV l 1)=0 then bg (yE m S) [cx []]else if S.aU+m>bM-vN (lV l 1)then(11,yE m S)else bg {yE m S with aU:=S.aU+m+vN (lV l 1)} [cx [.mk 15 (vN (lV l 1)) S.self [] [lV l 0] [] []]])=_\/(if vN (lV l 1)=0 then bg (yE m S) [cx []]else if S.aU+m>bM-vN (lV l 1)then(11,yE m S)else bg {yE m S with aU:=S.aU+m+vN (lV l 1)} [cx [.mk 15 (vN (lV l 1)) S.self [] [lV l 0] [] []]]).1=11/\0<m;by_cases W:vN (lV l 1)=0
  ·rw[if_pos W,if_pos W];exact .inl rfl
  rw[if_neg W,if_neg W];by_cases J:S.aU+m>bM-vN (lV l 1)
  ·rw[if_pos J];by_cases V:S.aU>bM-vN (lV l 1)
   ·rw[if_pos V];exact .inl rfl
   ·exact .inr ⟨rfl,bn⟩
  ·rw[if_neg J,if_neg (show ¬S.aU>bM-vN (lV l 1)by omega)];left;show(bg {S with aU:=S.aU+m+vN (lV l 1)} _)=oL m (bg {S with aU:=S.aU+vN (lV l 1)} _);rw[show S.aU+m+vN (lV l 1)=S.aU+vN (lV l 1)+m by omega];rfl
 left;unfold gT;refine iu (f:=oL m) (fun _=>?_) fun _=>(iu (f:=oL m) (fun _=>?_) fun _=>(iu (f:=oL m) (fun _=>?_) fun _=>(iu (f:=oL m) (fun _=>?_) fun _=>(iu (f:=oL m) (fun _=>?_) fun _=>(iu (f:=oL m) (fun _=>?_) fun _=>?_)))))
 ·unfold A1
  repeat' (first|rfl|refine iu (f:=oL m) (fun _=>?_) fun _=>?_)
 ·unfold uD
  repeat' (first|rfl|refine iu (f:=oL m) (fun _=>?_) fun _=>?_)
 ·unfold og;cases eo (lV l 0)<;>dsimp only <;>
  repeat' (first|rfl|refine iu (f:=oL m) (fun _=>?_) fun _=>?_)
 ·unfold uE;cases eo (lV l 1)<;>dsimp only <;>
  repeat' (first|rfl|refine iu (f:=oL m) (fun _=>?_) fun _=>?_)
 ·unfold qC;dsimp only
  repeat' (first|rfl|refine iu (f:=oL m) (fun _=>?_) fun _=>?_)
 ·unfold A2;dsimp only
  repeat' (first|rfl|refine iu (f:=oL m) (fun _=>?_) fun _=>?_)
 ·unfold qX;dsimp only;rw[if_neg (c:=P=84) Y,if_neg (c:=P=84) Y]
  repeat' (first|rfl|refine iu (f:=oL m) (fun _=>?_) fun _=>?_)
def xx (S:bT) (o:MR):Prop:=o.2.said=S.said\/o.1=10
theorem gE {c:Prop} [Decidable c] {S:bT} {a b:MR} (h1:xx S a) (h2:xx S b):xx S (if c then a else b):=by
 by_cases h:c
 ·rw[if_pos h];exact h1
 ·rw[if_neg h];exact h2
theorem jd {S:bT} {o:MR} (h:o.2.said=S.said):xx S o := .inl h
theorem Jm (P:Int) (args:List Nd) (l:List Vl) (S:bT):xx S (gT P args l S):=by
 unfold gT;refine gE ?_ (gE ?_ (gE ?_ (gE ?_ (gE ?_ (gE ?_ ?_)))))
 ·unfold A1
  repeat' (first|exact jd rfl|refine gE ?_ ?_)
 ·unfold uD
  repeat' (first|exact jd rfl|refine gE ?_ ?_)
 ·unfold og;cases eo (lV l 0)<;>dsimp only <;>
  repeat' (first|exact jd rfl|refine gE ?_ ?_)
 ·unfold uE;cases eo (lV l 1)<;>dsimp only <;>
  repeat' (first|exact jd rfl|refine gE ?_ ?_)
 ·unfold qC;dsimp only
  repeat' (first|exact jd rfl|refine gE ?_ ?_)
 ·unfold A2;dsimp only
  repeat' (first|exact jd rfl|exact .inr rfl|refine gE ?_ ?_)
 ·unfold qX;dsimp only
  repeat' (first|exact jd rfl|refine gE ?_ ?_)
theorem LP (S:bT) (F:eO) (t:List eO):xx S (gK S F t):=by
 unfold gK;refine gE ?_ ?_
 ·unfold jy;cases S.st<;>cases F.aside<;>dsimp only <;>
  repeat' (first|exact jd rfl|refine gE ?_ ?_)
 ·cases F.code[F.pos]? with
  | none=>exact jd rfl
  | some n =>
   obtain⟨kind,N,P,s,args⟩:=n;dsimp only;refine gE (jd rfl) (gE (jd rfl) (gE (jd rfl) ?_));unfold aI;show xx S (match je (bV P) S.st with|some (l,r)=>_|none=>_);cases je (bV P) S.st with
   | none=>exact jd rfl
   | some Y=>exact Jm P args Y.1 {fL S F t with used:=S.used+1,st:=Y.2}
theorem CW:∀(k:Nat) (S:bT),(gL k S).1=0->(gL k S).2.said=S.said
 | 0,S,h=>by cases h
 | k+1,S,h=>by
  cases J:S.fr with
  | nil=>rw[mg k J]
  | cons F t =>
   rw[iQ k J]at h ⊢;have h1:=LP S F t;by_cases B:(gK S F t).1=0
   ·rw[if_pos B]at h ⊢;rw[CW k _ h];rcases h1 with h1|h1
    ·exact h1
    ·rw[B]at h1;cases h1
   ·rw[if_neg B]at h;exact absurd h B
def eA (f:eO->eO):List eO->List eO
 | []=>[]
 | [F]=>[f F]
 | F::G::t=>F::eA f (G::t)
theorem yF {f:eO->eO} {F:eO} {t:List eO} (h:t≠[]):eA f (F::t)=F::eA f t:=by
 cases t with
 | nil=>exact absurd rfl h
 | cons G t=>rfl
theorem A3 {f:eO->eO}:∀{pre t:List eO},t≠[]->eA f (pre++t)=pre++eA f t
 | [],t,h=>rfl
 | F::pre,t,h=>by
  rw[List.cons_append,yF (by cases pre<;>simp[h]),A3 h];rfl
def lD (f:eO->eO) (u m:Int) (S:bT):bT:={S with fr:=eA f S.fr,gS:=S.gS+u,used:=S.used+u,aU:=S.aU+m}
abbrev Pz (f:eO->eO) (u m:Int) (o:MR):MR:=(o.1,lD f u m o.2)
structure Alike (f:eO->eO):Prop where
 fin:∀F,(f F).fin=F.fin
 aside:∀F,(f F).aside=F.aside
 code:∀F,F.pos<F.code.length->(f F).code[(f F).pos]?=F.code[F.pos]?/\(f F).pos≠(f F).code.length
 next:∀F:eO,f {F with pos:=F.pos+1}={f F with pos:=(f F).pos+1}
theorem RW {f:eO->eO} {u m:Int} (O:0<=m) {P:Int} {args:List Nd} {U:bT} (J:U.fr≠[]):aI P args (lD f u m U)=Pz f u m (aI P args U)\/((aI P args (lD f u m U)).1=11/\0<m):=by
 unfold aI;show(match je (bV P) U.st with|some (l,r)=>gT P args l {lD f u m U with st:=r}|none=>(14,{lD f u m U with st:=[]}))=_\/(match je (bV P) U.st with|some (l,r)=>gT P args l {lD f u m U with st:=r}|none=>(14,{lD f u m U with st:=[]})).1=11/\0<m;cases je (bV P) U.st with
 | none=>exact .inl rfl
 | some N =>
  obtain⟨l,r⟩:=N;dsimp only;obtain⟨pre,e,T,Y,_⟩:=CX P args l {U with st:=r};have M:=Y U.fr;have K:=Y (eA f U.fr);have A:gT P args l {U with st:=r}=(e,RY (pre++U.fr) T):=M;have E:gT P args l {U with st:=r,fr:=eA f U.fr}=(e,RY (pre++eA f U.fr) T):=K;have B:=LQ P args l {U with st:=r,fr:=eA f U.fr} (U.gS+u);rw[E]at B;have Q:=Jk P args l (UK (U.gS+u) {U with st:=r,fr:=eA f U.fr}) (U.used+u);rw[B]at Q;have W:=Jl P args l (RV (U.used+u) (UK (U.gS+u) {U with st:=r,fr:=eA f U.fr})) m O;rw[Q]at W;have D:=Fw P args l {U with st:=r};rw[A]at D;obtain⟨⟨q1,q,H,G,V,S⟩,_⟩:=D;simp only at V S;refine W.imp (fun h=>?_) id;have I:gT P args l {lD f u m U with st:=r}=oL m (pO (U.used+u) (RZ (U.gS+u) (e,RY (pre++eA f U.fr) T))):=h;rw[I,A];show((e,_):MR)=(e,lD f u m (RY (pre++U.fr) T))
  unfold lD;simp only;rw[A3 J,V,S]
theorem LR {f:eO->eO} {u m:Int} {S:bT} {F:eO} {t:List eO} (h:S.fr=F::t) (M:t≠[]):jy (lD f u m S) F (eA f t)=Pz f u m (jy S F t):=by
 have O:∀G,eA f (G::t)=G::eA f t:=fun G=>yF M;unfold jy;refine iu (f:=Pz f u m) (fun _=>rfl) fun _=>iu (f:=Pz f u m) (fun _=>?_) fun _=>iu (f:=Pz f u m) (fun _=>?_) fun _=>iu (f:=Pz f u m) (fun _=>?_) fun _=>rfl
 ·show(match S.st with|[]=>_|v::_=>_)=Pz f u m (match S.st with|[]=>_|v::_=>_);cases S.st<;>rfl
 ·cases F.aside with
  | nil=>rfl
  | cons x q =>
   dsimp only;by_cases Q:S.gS<=S.used
   ·rw[if_pos Q,if_pos (show(lD f u m S).gS<=(lD f u m S).used by show S.gS+u<=S.used+u;omega)]
   ·rw[if_neg Q,if_neg (show ¬(lD f u m S).gS<=(lD f u m S).used by show ¬S.gS+u<=S.used+u;omega)];show _=((0,lD f u m _):MR)
    unfold lD;simp only;rw[O];rw[show S.used+u+1=S.used+1+u by omega]
 ·show(match S.st with|[]=>_|v::q=>_)=Pz f u m (match S.st with|[]=>_|v::q=>_);cases S.st with
  | nil=>rfl
  | cons v q =>
   dsimp only;refine iu (f:=Pz f u m) (fun _=>?_) fun _=>rfl;by_cases Q:S.gS<=S.used
   ·rw[if_pos Q,if_pos (show(lD f u m S).gS<=(lD f u m S).used by show S.gS+u<=S.used+u;omega)];rfl
   ·rw[if_neg Q,if_neg (show ¬(lD f u m S).gS<=(lD f u m S).used by show ¬S.gS+u<=S.used+u;omega)];show _=((0,lD f u m _):MR)
    unfold lD;simp only;rw[O];rw[show S.used+u+1=S.used+1+u by omega]
end Go.Proofs
namespace Go.Proofs
open Go.cu
theorem NX {f:eO->eO} {u m:Int} (M:0<=m) {S:bT} {F Y:eO} {t W:List eO} (A:F.pos≠F.code.length) (K:Y.pos≠Y.code.length) (E:Y.code[Y.pos]?=F.code[F.pos]?)
  (Q:lD f u m (fL S F t)=fL (lD f u m S) Y W) (T:lD f u m {fL S F t with used:=S.used+1}={fL (lD f u m S) Y W with used:=(lD f u m S).used+1})
  (I:∀args,lD f u m (dr (fL S F t) args 0 [])=dr (fL (lD f u m S) Y W) args 0 []) (B:F.code[F.pos]?≠none) :
  gK (lD f u m S) Y W=Pz f u m (gK S F t)\/((gK (lD f u m S) Y W).1=11/\0<m):=by
 unfold gK;rw[if_neg A,if_neg K,E];cases q:F.code[F.pos]? with
 | none=>exact absurd q B
 | some n =>
  obtain⟨kind,N,P,H,args⟩:=n;dsimp only;by_cases V:kind=3
  ·rw[if_pos V,if_pos V];left;show _=((0,lD f u m _):MR)
   rw[I]
  rw[if_neg V,if_neg V];by_cases J:kind≠2
  ·rw[if_pos J,if_pos J];left;show _=((14,lD f u m _):MR)
   rw[Q]
  rw[if_neg J,if_neg J];by_cases O:S.gS<=S.used
  ·rw[if_pos O,if_pos (show(lD f u m S).gS<=(lD f u m S).used by show S.gS+u<=S.used+u;omega)];left;show _=((12,lD f u m _):MR)
   rw[Q]
  rw[if_neg O,if_neg (show ¬(lD f u m S).gS<=(lD f u m S).used by show ¬S.gS+u<=S.used+u;omega)];have k:=RW (f:=f) (u:=u) (m:=m) M (P:=P) (args:=args) (U:={fL S F t with used:=S.used+1}) cn;rw[T]at k;exact k
theorem Jn {f:eO->eO} {u m:Int} (hf:Alike f) (Q:0<=m) {S:bT} {F:eO} {t:List eO} (h:S.fr=F::t) (N:F.pos<=F.code.length) (W:t=[]->F.pos≠F.code.length):∃V U,(lD f u m S).fr=V::U/\(gK (lD f u m S) V U=Pz f u m (gK S F t)\/((gK (lD f u m S) V U).1=11/\0<m)):=by
 have Y:F.pos≠F.code.length->F.code[F.pos]?≠none:=fun T h=>by
  have:=List.getElem?_eq_none_iff.1 h;omega
 have P:S.used+u+1=S.used+1+u:=by omega
 cases t with
 | nil =>
  have T:=W rfl;obtain⟨h1,h2⟩:=hf.code F bn;refine⟨f F,[],by show eA f S.fr=_;rw[h];rfl,NX Q T h2 h1 ?_ ?_ ?_ (Y T)⟩
  ·show lD f u m {S with fr:=[{F with pos:=F.pos+1}]}=_;unfold lD;simp only[eA,hf.next]
  ·show lD f u m {S with fr:=[{F with pos:=F.pos+1}],used:=S.used+1}={fL (lD f u m S) (f F) []with used:=S.used+u+1}
   unfold lD;simp only[eA,hf.next,P]
  ·intro args;show lD f u m {S with fr:=[⟨args,0,0,[]⟩,{F with pos:=F.pos+1}]}=_;unfold lD;simp only[eA,hf.next];rfl
 | cons G t =>
  have O:∀p,eA f (p::G::t)=p::eA f (G::t):=fun p=>rfl;refine⟨F,eA f (G::t),by show eA f S.fr=_;rw[h];rfl,?_⟩;by_cases T:F.pos=F.code.length
  ·left;unfold gK;rw[if_pos T,if_pos T];exact LR h cn
  ·refine NX Q T T rfl ?_ ?_ ?_ (Y T)
   ·show lD f u m {S with fr:={F with pos:=F.pos+1}::G::t}=_;unfold lD;simp only[O]
   ·show lD f u m {S with fr:={F with pos:=F.pos+1}::G::t,used:=S.used+1}={fL (lD f u m S) F (eA f (G::t))with used:=S.used+u+1}
    unfold lD;simp only[O,P]
   ·intro args;show lD f u m {S with fr:=⟨args,0,0,[]⟩::{F with pos:=F.pos+1}::G::t}=_;unfold lD;simp only[eA];rfl
def sQ (c:List Nd) (fr:List eO):Prop:=∃Y p,fr=Y++[⟨c,p,0,[]⟩]
theorem vR {c:List Nd} {F:eO} {t:List eO} (h:sQ c (F::t)):(t=[]/\F.code=c/\F.fin=0/\F.aside=[])\/sQ c t:=by
 obtain⟨Y,p,h⟩:=h;cases Y with
 | nil =>
  simp only[List.nil_append,List.cons.injEq]at h;obtain⟨rfl,rfl⟩:=h;exact .inl ⟨rfl,rfl,rfl,rfl⟩
 | cons G Y =>
  simp only[List.cons_append,List.cons.injEq]at h;exact .inr ⟨Y,p,h.2⟩
theorem CY {c:List Nd} {t:List eO} (pre:List eO) (h:sQ c t):sQ c (pre++t):=by
 obtain⟨Y,p,rfl⟩:=h;exact⟨pre++Y,p,by rw[List.append_assoc]⟩
theorem UL {S:bT} {F:eO} {t:List eO} (h:S.fr=F::t) (B:(gK S F t).1=0):(F.pos=F.code.length/\∃pre,(gK S F t).2.fr=pre++t)\/∃pre,(gK S F t).2.fr=pre++{F with pos:=F.pos+1}::t:=by
 unfold gK at B ⊢;by_cases A:F.pos=F.code.length
 ·rw[if_pos A]at B ⊢;refine .inl ⟨A,?_⟩;have W:∀o:MR,o.1=0->(o.1=0->∃pre,o.2.fr=pre++t)->∃pre,o.2.fr=pre++t:=fun o h k=>k h;have Y:∀{c:Prop} [Decidable c] {a b:MR},(a.1=0->∃pre,a.2.fr=pre++t)->(b.1=0->∃pre,b.2.fr=pre++t)->((if c then a else b).1=0->∃pre,(if c then a else b).2.fr=pre++t):=by
   intro c _ a b h1 h2;by_cases h:c
   ·rw[if_pos h];exact h1
   ·rw[if_neg h];exact h2
  refine W _ B ?_;unfold jy;refine Y (fun _=>⟨[],rfl⟩) (Y ?_ (Y ?_ (Y ?_ fun _=>⟨[],rfl⟩)))
  ·cases S.st with
   | nil=>intro h;cases h
   | cons v q=>exact fun _=>⟨[],rfl⟩
  ·cases F.aside with
   | nil=>exact fun _=>⟨[],rfl⟩
   | cons x q=>exact Y (fun h=>by cases h) fun _=>⟨[⟨F.code,0,3,q⟩],rfl⟩
  ·cases S.st with
   | nil=>intro h;cases h
   | cons v q=>exact Y (Y (fun h=>by cases h) fun _=>⟨[⟨F.code,0,4,F.aside⟩],rfl⟩) fun _=>⟨[],rfl⟩
 ·rw[if_neg A]at B ⊢;right;cases O:F.code[F.pos]? with
  | none=>rw[O]at B;cases B
  | some n =>
   obtain⟨kind,N,P,I,args⟩:=n;rw[O]at B;dsimp only at B ⊢;by_cases V:kind=3
   ·rw[if_pos V];exact⟨[⟨args,0,0,[]⟩],rfl⟩
   rw[if_neg V]at B ⊢;by_cases J:kind≠2
   ·rw[if_pos J]at B;cases B
   rw[if_neg J]at B ⊢;by_cases Q:S.gS<=S.used
   ·rw[if_pos Q]at B;cases B
   rw[if_neg Q]at B ⊢;unfold aI at B ⊢;cases M:je (bV P) {fL S F t with used:=S.used+1}.st with
   | none=>rw[M]at B;cases B
   | some U =>
    obtain⟨l,r⟩:=U;dsimp only;obtain⟨pre,e,T,K,_⟩:=CX P args l {fL S F t with used:=S.used+1,st:=r};have D:gT P args l {fL S F t with used:=S.used+1,st:=r}=(e,RY (pre++{F with pos:=F.pos+1}::t) T):=K ({F with pos:=F.pos+1}::t);refine⟨pre,?_⟩;rw[D]
theorem Fx {c:List Nd} {S:bT} {F:eO} {t:List eO} (h:S.fr=F::t) (C:sQ c (F::t)) (A:(gK S F t).1=0):(t=[]/\F.pos=F.code.length)\/sQ c (gK S F t).2.fr:=by
 rcases UL h A with ⟨U,pre,e⟩|⟨pre,e⟩
 ·rcases vR C with ⟨M,_⟩|Y
  ·exact .inl ⟨M,U⟩
  ·rw[e];exact .inr (CY pre Y)
 ·right;rw[e];refine CY pre ?_;rcases vR C with ⟨rfl,h1,h2,V⟩|Y
  ·refine⟨[],F.pos+1,?_⟩;obtain⟨B,W,fin,T⟩:=F;simp only at h1 h2 V;subst h1;subst h2;subst V;rfl
  ·exact CY [_] Y
theorem V5 {T:List Ty×Bool} {F:eO} {t:List eO} {s:List Ty} (h:FT T (F::t) s):F.pos<=F.code.length:=h.2.2.1
theorem Jo (K:List Ty×Bool) (T U:List Nd):∀(k:Nat) (S:bT) (s:List Ty),MT K S s->left S<k->left S<=1000000000->sQ T S.fr->(gL k S).1=0 ->
  ∃Q,∀j,gL (Q+j) (lD (fun F=>⟨F.code++U,F.pos,F.fin,F.aside⟩) 0 0 S)=gL j {(gL k S).2 with fr:=[⟨T++U,T.length,0,[]⟩]}
 | 0,S,s,_,h,_,_,_=>absurd h (Nat.not_lt_zero _)
 | k+1,S,s,hT,hk,hW,N,h0=>by
  have G:Alike (fun F=>⟨F.code++U,F.pos,F.fin,F.aside⟩) :=
   ⟨fun _=>rfl,fun _=>rfl,fun F h=>⟨List.getElem?_append_left h,by show F.pos≠(F.code++U).length;rw[aax];omega⟩,fun _=>rfl⟩
  cases J:S.fr with
  | nil =>
   obtain⟨Y,p,h⟩:=N;rw[J]at h;cases Y<;>simp at h
  | cons F t =>
   rw[J]at N;have O:F.pos<=F.code.length:=V5 (by have:=hT.ft;rw[J]at this;exact this);have M:1<=left S:=by
    have:=uF S.fr;rw[J]at this;simp only[aaa]at this;simp only[left,J];omega
   by_cases W:t=[]/\F.pos=F.code.length
   ·obtain⟨rfl,A⟩:=W;rcases vR N with ⟨_,h1,h2,I⟩|⟨Y,p,h⟩
    ·obtain⟨B,H,fin,P⟩:=F;simp only at h1 h2 I A;subst h1;subst h2;subst I;subst A;have E:gK S ⟨B,B.length,0,[]⟩ []=(0,{S with fr:=[]}):=by unfold gK;rw[if_pos rfl];rfl
     have D:gL (k+1) S=(0,{S with fr:=[]}):=by
      rw[iQ k J,E,if_pos rfl];obtain⟨k',rfl⟩:∃k',k=k'+1:=⟨k-1,bn⟩
      exact mg k' rfl
     rw[D];refine⟨0,fun j=>?_⟩;rw[Nat.zero_add];congr 1;unfold lD;rw[J];simp[eA]
    ·cases Y<;>simp at h
   ·obtain⟨F',t',Q,C⟩:=Jn (u:=0) (m:=0) G (Int.le_refl _) J O (fun q A=>W ⟨q,A⟩);have k3:=C.resolve_right (fun h=>absurd h.2 bn);rw[iQ k J]at h0 ⊢;by_cases h1:(gK S F t).1=0
    ·rw[if_pos h1]at h0 ⊢;obtain⟨s',h5,h6⟩:=GZ (xy hT J hW) h1;obtain⟨V,h7⟩:=Jo K T U k _ s' h5 bn bn ((Fx J N h1).resolve_left W) h0;refine⟨V+1,fun j=>?_⟩;rw[show V+1+j=(V+j)+1 by omega,iQ _ Q,k3,if_pos (show(gK S F t).1=0 from h1)];exact h7 j
    ·rw[if_neg h1]at h0;exact absurd h0 h1
theorem Jp (I:List Ty×Bool) (Y Q:List Nd) (u m:Int) (H:0<=m):∀(k:Nat) (S:bT) (s:List Ty),MT I S s->left S<k->left S<=1000000000->(S.fr=[]\/sQ Q S.fr) ->
  gL k (lD (fun F=>⟨Y++F.code,Y.length+F.pos,F.fin,F.aside⟩) u m S)=Pz (fun F=>⟨Y++F.code,Y.length+F.pos,F.fin,F.aside⟩) u m (gL k S)\/((gL k (lD (fun F=>⟨Y++F.code,Y.length+F.pos,F.fin,F.aside⟩) u m S)).1=11/\0<m)
 | 0,S,s,_,h,_,_=>absurd h (Nat.not_lt_zero _)
 | k+1,S,s,hT,hk,hW,N=>by
  have D:Alike (fun F=>⟨Y++F.code,Y.length+F.pos,F.fin,F.aside⟩) :=
   ⟨fun _=>rfl,fun _=>rfl,fun F h=>⟨by show(Y++F.code)[Y.length+F.pos]?=F.code[F.pos]?;rw[List.getElem?_append_right bn];congr 1;omega,by show Y.length+F.pos≠(Y++F.code).length;rw[aax];omega⟩,fun F=>by simp only[Nat.add_assoc]⟩
  cases J:S.fr with
  | nil =>
   left;rw[mg k J,mg k (by show eA _ S.fr=[];rw[J];rfl)]
  | cons F t =>
   have N:sQ Q (F::t):=by
    rcases N with h|h
    ·rw[J]at h;cases h
    ·rw[J]at h;exact h
   have O:F.pos<=F.code.length:=V5 (by have:=hT.ft;rw[J]at this;exact this);by_cases W:t=[]/\F.pos=F.code.length
   ·left;obtain⟨rfl,T⟩:=W;rcases vR N with ⟨_,h1,h2,G⟩|⟨V,p,h⟩
    ·obtain⟨B,E,fin,P⟩:=F;simp only at h1 h2 G T;subst h1;subst h2;subst G;subst T;have A:gK S ⟨B,B.length,0,[]⟩ []=(0,{S with fr:=[]}):=by unfold gK;rw[if_pos rfl];rfl
     have M:(lD (fun F=>⟨Y++F.code,Y.length+F.pos,F.fin,F.aside⟩) u m S).fr=⟨Y++B,Y.length+B.length,0,[]⟩::[]:=by show eA _ S.fr=_;rw[J];rfl
     have C:∀S',gK S' ⟨Y++B,Y.length+B.length,0,[]⟩ []=(0,{S' with fr:=[]}):=by intro S';unfold gK;rw[if_pos cn];rfl
     rw[iQ k J,A,if_pos rfl,iQ k M,C,if_pos rfl];have K:1<=left S:=by
      have:=uF S.fr;rw[J]at this;simp only[aaa]at this;simp only[left,J];omega
     obtain⟨k',rfl⟩:∃k',k=k'+1:=⟨k-1,bn⟩
     rw[mg k' rfl,mg k' rfl];rfl
    ·cases V<;>simp at h
   ·obtain⟨F',t',q,k2⟩:=Jn (u:=u) (m:=m) D H J O (fun ht T=>W ⟨ht,T⟩);rw[iQ k J,iQ k q];rcases k2 with U|U
    ·rw[U];by_cases h1:(gK S F t).1=0
     ·rw[if_pos h1,if_pos (show(gK S F t).1=0 from h1)];obtain⟨s',h5,h6⟩:=GZ (xy hT J hW) h1;exact Jp I Y Q u m H k _ s' h5 bn bn (.inr ((Fx J N h1).resolve_left W))
     ·rw[if_neg h1,if_neg (show ¬(gK S F t).1=0 from h1)];exact .inl rfl
    ·rw[if_neg (by rw[U.1];decide)];exact .inr U
theorem Pw {a b c d:Int} {n m:Nd} {s:List Ty} {l:List Vl} {g:Int} (h:GS a b c d n s l=true) (V:Jd l) (Q:0<=g/\g<=1000000) (hc:(gO a b c d n s l g).code=0) (u:(fK m (fK n s).1.1).2=0) (hs:many n+many m<=300) :
  (fK n s).1.2=false/\((gO a b c d m (fK n s).1.1 (gO a b c d n s l g).st (g-(gO a b c d n s l g).gS)).code=0->(gO a b c d m (fK n s).1.1 (gO a b c d n s l g).st (g-(gO a b c d n s l g).gS)).aU>bM-(gO a b c d n s l g).aU->(gO a b c d (.mk 3 0 0 [] (bh n++bh m)) s l g).code=11) /\
  (((gO a b c d (.mk 3 0 0 [] (bh n++bh m)) s l g).code=11/\0<(gO a b c d n s l g).aU) \/
   ((gO a b c d (.mk 3 0 0 [] (bh n++bh m)) s l g).code=(gO a b c d m (fK n s).1.1 (gO a b c d n s l g).st (g-(gO a b c d n s l g).gS)).code/\(gO a b c d (.mk 3 0 0 [] (bh n++bh m)) s l g).gS=(gO a b c d n s l g).gS+(gO a b c d m (fK n s).1.1 (gO a b c d n s l g).st (g-(gO a b c d n s l g).gS)).gS/\(gO a b c d (.mk 3 0 0 [] (bh n++bh m)) s l g).st=(gO a b c d m (fK n s).1.1 (gO a b c d n s l g).st (g-(gO a b c d n s l g).gS)).st)):=by
 obtain⟨zY,p,di,I⟩:=nM.1 h;have ea:gO a b c d n s l g=od (me a b c d n l g):=by unfold gO;rw[if_pos h]
 rw[ea]at hc;have Y:(me a b c d n l g).1=0:=hc;obtain⟨wA,w1,w2,w3,w4⟩:=sP h V Q;rcases w4 with ⟨_,w5,N,H⟩|W|W|W|W
 rotate_left
 ·rw[Y]at W;cases W
 ·rw[Y]at W;cases W
 ·rw[Y]at W;cases W.1
 ·rw[Y]at W;cases W.1
 have G:=xz h V Q 1000000001 bn;have M:=CW 1000000001 (nj a b c d (bh n) l g) (by rw[G];exact Y);have K:=Jo _ (bh n) (bh m) 1000000001 _ s (sS h V Q) (by have:=oY h Q;omega) (oY h Q) ⟨[],0,rfl⟩ (by rw[G];exact Y);rw[G]at M K;rw[ea];generalize me a b c d n l g=o at *;obtain⟨e,T⟩:=o;simp only at Y w1 w2 w3 w5 N H;subst Y;obtain⟨E,D,B,C,J⟩:=w1;simp only[nj]at E D B C J M;obtain⟨k1,K⟩:=K;refine⟨H,?_⟩;have A:(od (0,T)).st=T.st:=rfl;have hgs:(od (0,T)).gS=T.used:=rfl;have Yc:(od (0,T)).aU=T.aU:=rfl;rw[A,hgs,Yc];have P:GS a b c d m (fK n s).1.1 T.st=true:=nM.2 ⟨u,bJ N,di,Jq N⟩;have S:Jd T.st:=by
  have:∀{s:List Ty} {l:List Vl},dK s l->Jd l:=by
   intro s
   induction s with
   | nil=>intro l h;rw[R0 h];intro v V;simp at V
   | cons t s ih =>
    intro l h;obtain⟨v,q,rfl,V,hq⟩:=bp h;intro w hw;rcases List.mem_cons.1 hw with rfl|hw
    ·exact V.2
    ·exact ih hq w hw
  exact this N
 have O:0<=g-T.used/\g-T.used<=1000000:=by rw[J]at w2;omega
 have eb:gO a b c d m (fK n s).1.1 T.st (g-T.used)=od (me a b c d m T.st (g-T.used)):=by unfold gO;rw[if_pos P]
 have fB:=xz P S O 1000000001 bn;obtain⟨_,b1,b2,b3,b4⟩:=sP P S O;have U:=Jp _ (bh n) (bh m) T.used T.aU w3.1 1000000001 _ _ (sS P S O) (by have:=oY P O;omega) (oY P O) (.inr ⟨[],0,rfl⟩);rw[fB]at U;have QL:fK (.mk 3 0 0 [] (bh n++bh m)) s=fK m (fK n s).1.1:=Lu zY H u hs;have hC:GS a b c d (.mk 3 0 0 [] (bh n++bh m)) s l=true:=nM.2 ⟨by rw[QL];exact u,p,di,I⟩;have ec:gO a b c d (.mk 3 0 0 [] (bh n++bh m)) s l g=od (me a b c d (.mk 3 0 0 [] (bh n++bh m)) l g):=by unfold gO;rw[if_pos hC]
 have fC:=xz hC V Q (k1+1000000001) bn;obtain⟨_,c1,c2,c3,c4⟩:=sP hC V Q;have e1:lD (fun F=>⟨F.code++bh m,F.pos,F.fin,F.aside⟩) 0 0 (nj a b c d (bh n) l g)=nj a b c d (bh (.mk 3 0 0 [] (bh n++bh m))) l g:=by
  unfold lD nj;simp[eA,bh]
 have e2:({T with fr:=[⟨bh n++bh m,(bh n).length,0,[]⟩]}:bT)=lD (fun F=>⟨bh n++F.code,(bh n).length+F.pos,F.fin,F.aside⟩) T.used T.aU (nj a b c d (bh m) T.st (g-T.used)):=by
  obtain⟨t1,t2,t3,t4,t5,t6,t7,t8,t9,t10⟩:=T;simp only at E D B C J M;subst E;subst D;subst B;subst C;subst J;subst M;unfold lD nj;simp[eA]
 have P3:=K 1000000001;rw[e1,fC]at P3;have P4:me a b c d (.mk 3 0 0 [] (bh n++bh m)) l g=gL 1000000001 (lD (fun F=>⟨bh n++F.code,(bh n).length+F.pos,F.fin,F.aside⟩) T.used T.aU (nj a b c d (bh m) T.st (g-T.used))):=by rw[P3,<- e2]
 rw[eb,ec];rw[<- P4]at U;generalize me a b c d (.mk 3 0 0 [] (bh n++bh m)) l g=oc at *;generalize me a b c d m T.st (g-T.used)=ob at *;rcases U with U|⟨U,P5⟩
 ·rw[U]at c3 ⊢;refine⟨fun hz hgt=>?_,.inr ⟨rfl,?_,?_⟩⟩
  ·exfalso;have Xa:ob.1=0:=hz;have h1:(od ob).aU=ob.2.aU:=by show(if ob.1=0 then ob.2.aU else 0)=_;rw[if_pos Xa]
   rw[h1]at hgt;have h2:(Pz (fun F=>⟨bh n++F.code,(bh n).length+F.pos,F.fin,F.aside⟩) T.used T.aU ob).2.aU=ob.2.aU+T.aU:=rfl;rw[h2]at c3;omega
  ·show ob.2.used+T.used=T.used+ob.2.used;omega
  ·rfl
 ·refine⟨fun _ _=>?_,.inl ⟨?_,P5⟩⟩
  ·exact U
  ·exact U
end Go.Proofs
namespace Go.Proofs
open Go.cu
theorem R1 (kind n p:Int) (s:List UInt8) (args:List Nd):many (.mk kind n p s args)=cr args+1:=rfl
theorem LS:cr []=0:=rfl
theorem Jr (x:Nd) (l:List Nd):cr (x::l)=many x+cr l:=rfl
attribute [local irreducible] AK ai bw bz dN aZ bA dj cw eX fK many cr
theorem GV (l:List Ty) (C:l.length<=1099511627776):fJ 8 [.v (.c (.sl 2 (aE l)))] [.own 2 (aE l)] []:=by
 cases l with
 | nil =>
  refine bz.tI Tryz.func8 rfl (fun args w=>Tryz.call8 args w) (Nat.le_of_ble_eq_true rfl) [(0,.c (.sl 2 []))] [] [] [] rfl rfl fun β=>?_;have hf:=Tryz.func8
  repeat' (first|refine qo ?_|refine zr ?_ ?_|(refine uA rfl ?_ ?_<;>(try (show(_:Nat)*_<=_;dsimp only))))
  all_goals first|exact rfl|(show _<=_;decide)
 | cons x l =>
  have h1:=aY l;simp only[aaa]at C;refine bz.tI Tryz.func8 rfl (fun args w=>Tryz.call8 args w) (Nat.le_of_ble_eq_true rfl) [(0,.c (.sl 2 (eC x::aE l)))] [] [] [] rfl rfl fun β=>?_;have hf:=Tryz.func8
  repeat' (first|refine qo ?_|refine zr ?_ ?_|(refine uA rfl ?_ ?_<;>(try (show(_:Nat)*_<=_;dsimp only))))
  all_goals first|exact rfl|(show _<=_;simp only[aaa,aab];omega)
theorem CM (l:List CV):ah 26 [.sl 5 l] (.agg [.int .i64 3,.int .i64 0,.int .i64 0,.str [],.sl 5 l]):=by
 refine qn Tryz.func26 Tryz.call26 fun β hf=>?_;exact dw
theorem uw:∀(t:Nd),bN t<=8589934593->ah 32 [aW t] (.int .i64 (many t))
 | .mk kind n p s args,Y=>by
  have V:=sU args;simp only[bN]at Y;have U:=eL args;have M:∀x∈args,ah 32 [aW x] (.int .i64 (many x)):=fun x O=>uw x N8;rw[R1];refine qn Tryz.func32 Tryz.call32 fun β hf=>?_;refine dnw ?_;refine AK.eM (α:=Nat×Nat) (fun z=>z.1<=args.length/\cr args+1=z.2+cr (args.drop z.1)) (fun z=>args.length-z.1)
   (fun z=>[(9,.c (.int .i64 z.1)),(8,.c (.int .i64 (aH args).length)),(7,.c (.sl 5 (aH args))),(3,.c (.int .i64 z.2))]) (fun _=>[]) (fun _=>[]) [] (0,1)
   ⟨bn,by rw[List.drop_zero];omega⟩ ⟨.inl rfl,.inl rfl,.inl rfl,.inl rfl,trivial⟩ trivial trivial rfl rfl rfl ?_
  rintro⟨i,m⟩ ⟨I,W⟩ ih;simp only at I W;rcases gf args i I with ⟨x,O,u⟩|P
  ·have E:=lq O;have hq:=M x u;rw[dO O,Jr]at W;have h2:=bD O;generalize many x=q at hq W;obtain⟨T,S,N,H,Q⟩:=x
   repeat' (first|refine qo ?_|(refine zc ?_ ?_<;>intro h<;>first|(cases h;done)|rw[h]|skip)|refine uI rfl (i) rfl (dX O) rfl ?_|refine uC rfl hq ?_)
   refine AK.again (ih (i+1,m+q) ⟨h2,Sf⟩ fc) ⟨.inl (iD bn),.inl rfl,.inl rfl,.inl (V6 (a:=m) (b:=q) bn),trivial⟩ trivial trivial rfl rfl rfl
  ·have E:=iX P;have B:cr args+1=m:=by rw[W,P,List.drop_length,LS,Nat.add_zero]
   clear ih;rw[B];exact dw
termination_by t=>SizeOf.sizeOf t
decreasing_by
 have:=List.sizeOf_lt_of_mem O;simp at this ⊢;omega
end Go.Proofs
namespace Go.Proofs
open Go.cu
theorem R2 (x y:Vl) (a b:List Vl):gJ (x::a) (y::b)=(oK x y&&gJ a b):=rfl
def abD (s:List Ty) (l:List Vl) (a b c d:Int):Bool:=(bif (bif (bif (bif (bif (bif (bif (bif ((((aE s).length:Nat):Int) != (((aa l).length:Nat):Int))then true else decide (a<0))then true else decide (a>=12))then true else decide (b<0))then true else decide (b>=12))then true else decide (c<0))then true else decide (c>1152921504606846976))then true else decide (d<0))then true else decide (d>1152921504606846976))
attribute [local irreducible] AK ai bw bz dJ dN fK ld oQ
theorem wT (l:List Vl) (C:l.length<=549755813888):fJ 10 [.v (.c (.sl 7 (aa l)))] [.own 7 (aa l)] []:=by
 cases l with
 | nil =>
  refine bz.tI Tryz.func10 rfl (fun args w=>Tryz.call10 args w) (Nat.le_of_ble_eq_true rfl) [(0,.c (.sl 7 []))] [] [] [] rfl rfl fun β=>?_;have hf:=Tryz.func10
  repeat' (first|refine qo ?_|refine zr ?_ ?_|(refine uA rfl ?_ ?_<;>(try (show(_:Nat)*_<=_;dsimp only))))
  all_goals first|exact rfl|(show _<=_;decide)
 | cons x l =>
  have h1:=az l;simp only[aaa]at C;refine bz.tI Tryz.func10 rfl (fun args w=>Tryz.call10 args w) (Nat.le_of_ble_eq_true rfl) [(0,.c (.sl 7 (bP x::aa l)))] [] [] [] rfl rfl fun β=>?_;have hf:=Tryz.func10
  repeat' (first|refine qo ?_|refine zr ?_ ?_|(refine uA rfl ?_ ?_<;>(try (show(_:Nat)*_<=_;dsimp only))))
  all_goals first|exact rfl|(show _<=_;simp only[aaa,aab];omega)
theorem Jh (k:Int) (W : -9223372036854775808<=k) (Y:k<=9223372036854775807):∃r:Nat,r<3000/\ah 11 [.int .i64 k] (.int .i64 r):=by
 obtain⟨r,I,hq⟩:=LU k 3000 W Y cc cc;refine⟨r,I,?_⟩;have h2:ah 25 [.int .i64 k,.int .i64 3000] (.int .i64 r):=hq;clear hq;refine qn Tryz.func11 Tryz.call11 fun β hf=>?_;exact dw
theorem GX (a b:List Vl) (hl:a.length<=1099511627775) (N:∀t∈a,aM t<=1099511627776):ah 14 [.sl 7 (aa a),.sl 7 (aa b)] (.bool (gJ a b)):=by
 have A:=az a;have C:=az b;by_cases O:a.length=b.length;rotate_left
 ·rw[CZ a b O];have M:((((aa a).length:Nat):Int) != (((aa b).length:Nat):Int))=true:=by rw[bne_iff_ne];omega
  refine qn Tryz.func14 Tryz.call14 fun β hf=>?_;exact dw
 have M:((((aa a).length:Nat):Int) != (((aa b).length:Nat):Int))=false:=by rw[A,C,O];exact bne_self_eq_false _
 refine qn Tryz.func14 Tryz.call14 fun β hf=>?_
 repeat' (first|refine qo ?_|(refine zc ?_ ?_<;>intro h<;>first|(cases h;done)|rw[h]|skip))
 refine AK.eM (α:=Nat) (fun j=>j<=a.length/\gJ a b=gJ (a.drop j) (b.drop j)) (fun j=>a.length-j)
  (fun j=>[(13,.c (.int .i64 j)),(12,.c (.int .i64 (aa a).length)),(0,.c (.sl 7 (aa a))),(1,.c (.sl 7 (aa b)))])
  (fun j=>[]) (fun _=>[]) [] 0
  ⟨bn,rfl⟩ ⟨.inl rfl,.inl rfl,.inl rfl,.inl rfl,trivial⟩ trivial trivial rfl rfl rfl ?_
 rintro j ⟨K,U⟩ jh;rcases gf a j K with ⟨y,T,J⟩|S
 ·have I:=xm T;have W:=bD T;rcases gf b j bn with ⟨w,Q,H⟩|G
  rotate_left
  ·omega
  have V:=A4 y w (N y J);rw[dO T,dO Q,R2]at U;obtain⟨E,B,D,u,q,p,p7⟩:=y;obtain⟨r1,r2,r3,r4,r5,r6,r7⟩:=w;cases P:oK (.mk E B D u q p p7) (.mk r1 r2 r3 r4 r5 r6 r7)with
  | false =>
   rw[P]at V U;rw[Bool.false_and]at U;rw[U];clear jh;have tW:=eF T;have BD:=eF Q;exact dw
  | true =>
   rw[P]at V U;rw[Bool.true_and]at U
   repeat' (first|refine qo ?_|(refine zc ?_ ?_<;>intro h<;>first|(cases h;done)|rw[h]|skip)|refine uI rfl (j) rfl (eF T) rfl ?_|refine uI rfl (j) rfl (eF Q) rfl ?_|refine uC rfl V ?_)
   exact AK.again (jh (j+1) ⟨W,U⟩ bn) ⟨.inl (iD (i:=j) bn),.inl rfl,.inl rfl,.inl rfl,trivial⟩ trivial trivial rfl rfl rfl
 ·have I:=sK S;have Y:gJ a b=true:=by rw[U,S,List.drop_length,O,List.drop_length];rfl
  rw[Y];clear jh;exact dw
theorem PB:fK (.mk 3 0 0 [] [.mk 2 0 40 [] []]) [.mk 4 []]=ep []:=by
 have h1:dj (.mk 3 0 0 [] [.mk 2 0 40 [] []])=0:=by decide +kernel
 have h2:List.all [Ty.mk 4 []] bA=true:=by decide +kernel
 rw[GB h1 rfl,if_neg cc,if_pos h2];show cw [.mk 2 0 40 [] []] ([.mk 4 []],false)=_;rfl
def v3:Vl := .mk 4 3 0 [] [] [] []
theorem PC:ku 3 ⟨0,0,0,0,[v3],[⟨[.mk 2 0 40 [] []],0,0,[]⟩],9,0,0,oO⟩ (0,⟨0,0,0,0,[],[],9,1,0,oO⟩):=by
 refine ku.step (F:=⟨[.mk 2 0 40 [] []],0,0,[]⟩) (t:=[]) (S':=⟨0,0,0,0,[],[⟨[.mk 2 0 40 [] []],1,0,[]⟩],9,1,0,oO⟩) (e:=0) rfl rfl cc cc cc cc cc ?_ (fun h=>absurd rfl h) fun _=>?_
 ·exact oZ _ _ 2 0 40 [] [] [v3] [] 0 cc (by rw[show bV 40=1 from by decide +kernel];rfl) (by show(1:Nat)<=_;omega) (Fy _ 0 [] [v3])
 refine ku.fin (F:=⟨[.mk 2 0 40 [] []],1,0,[]⟩) (t:=[]) (S':=⟨0,0,0,0,[],[],9,1,0,oO⟩) (e:=0) rfl rfl cc ?_ (fun h=>absurd rfl h) fun _=>?_
 ·exact yH ⟨0,0,0,0,[],[⟨[.mk 2 0 40 [] []],1,0,[]⟩],9,1,0,oO⟩ ⟨[.mk 2 0 40 [] []],1,0,[]⟩ [] rfl rfl cc
 exact ku.done rfl
theorem Ji:ah 13 [] (.bool true):=by
 have B:=N0 0 0 0 0 9 (.mk 3 0 0 [] [.mk 2 0 40 [] []]) cc [.mk 4 []] cc [v3] cc (by rw[PB];rfl) rfl (by decide +kernel) 0 [] oO 1 0 (fun _=>A5 0 0 0 0 9 [.mk 2 0 40 [] []] v3 [] ⟨0,0,0,0,[],[],9,1,0,oO⟩ cc cc (C0 3 _ _ PC));have e:oQ [.mk 4 []] [v3]=true:=by decide +kernel
 rw[e]at B;have h1:ah 9 [.agg [.int .i64 0,.int .i64 0,.int .i64 0,.int .i64 0],.agg [.int .i64 3,.int .i64 0,.int .i64 0,.str [],.sl 5 [.agg [.int .i64 2,.int .i64 0,.int .i64 40,.str [],.sl 5 []]]],.sl 2 [.agg [.int .i64 4,.sl 2 []]],.sl 7 [.agg [.int .i64 4,.int .i64 3,.int .i64 0,.str [],.sl 7 [],.sl 2 [],.sl 5 []]],.int .i64 9] (kr 0 [] oO 1 0):=B;have V:=CM [.agg [.int .i64 2,.int .i64 0,.int .i64 40,.str [],.sl 5 []]];clear B e;refine qn Tryz.func13 Tryz.call13 fun β hf=>?_;exact dw
end Go.Proofs
