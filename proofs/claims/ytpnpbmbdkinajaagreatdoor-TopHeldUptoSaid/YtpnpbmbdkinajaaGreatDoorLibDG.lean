/- A part of the proof. -/
import Derived.Test.YtpnpbmbdkinajaaGreatDoorLibCG
import Derived.ArgAppend
import Derived.Deep.AppendSrc
import Derived.Laws.Externs
import Derived.Laws.IdiomCopy
import Derived.Lib.AppendZerosOnto
import Derived.Lib.SliceRun
set_option linter.all false
set_option maxRecDepth 100000
namespace Go.cE
def Vv(T:AV->AV->Prop):Φ->Φ->Prop
 |[],[]=>True
 |a::l,b::m=>T a b/\Vv T l m
 |_,_=>False
def PtE(T:AV->AV->Prop)(env:Env):Env->Prop
 |[]=>True
 |(t,U)::l=>(∃a,au t env=some a/\T a U)/\PtE T env l
def PtB(T:AV->AV->Prop)(bs:tab):tab->Prop
 |[]=>True
 |(k,Y)::l=>(∃cells,au k bs=some cells/\Vv T cells Y)/\PtB T bs l
def Ym(K s:Nat)(Y:Ψ)(a U:AV):Prop:=U=a\/∃n,a = .iI K 0 s n/\n=Y.length/\U = .c (.sl s Y)
def Nil(a U:AV):Prop:=U=a\/∃O P,(a = .c (.sl O [])\/a = .own .exact O [])/\U = .c (.sl P [])
def Nk{T:AV->AV->Prop}{env}:∀{Y},PtE T env Y->∀t U,au t Y=some U->∃a,au t env=some a/\T a U
 |[],_,t,U,e=>by simp[au]at e
 |(t0,O)::l,⟨S,V⟩,t,U,e=>by simp only[ak]at e;split at e;grind;exact Nk V t U e
def lP{T:AV->AV->Prop}{bs}:∀{Y},PtB T bs Y->∀k E,au k Y=some E->∃V,au k bs=some V/\Vv T V E
 |[],_,t,a',e=>by simp[au]at e
 |(t0,O)::l,⟨S,U⟩,t,a',e=>by simp only[ak]at e;split at e;grind;exact lP U t a' e
def VN{K:Nat}:∀{bs:tab},(bs.all λp => !Nat.beq p.1 K)->∀k Y,au k bs=some Y->k≠K
 |[],_,k,Y,e=>by simp[au]at e
 |(t0,O)::l,h,k,Y,e=>by simp only[aiK,aaI]at h;simp only[ak]at e;split at e;rename_i C;subst C;exact beq_false (by simpa using h.1);exact VN h.2 k Y e
section
variable {P:Program}{X:Ctx}{f:FuncId}{n:Nat}{β:lu}{R:Ending->World->Prop}{K:L Item}{env:Env}
def AK.CF{bs ts}{us:Ω}(Y s)F{cells tail env' bs' ts'}
  (D:au Y bs=some cells)(hc:cells=aq F++tail)(hs:∀r∈F,r.cells.length=s)
  (he:PtE (Ym Y s F) env env')(U:PtB (Ym Y s F) bs bs')(ω:(bs'.all λp => !Nat.beq p.1 Y))(ht:Qu ts ts')
  (h:AK P X f n β R K env' ⟨bs',ts',us⟩):AK P X f n β R K env ⟨bs,ts,us⟩:=by
 intro g w a cs q;obtain⟨b,DW,SA,ξ,M⟩:=q.inv.box Y cells D;let W:lB:=λV o=>if V=b/\o<(bD F).length then w.cell? ⟨b,o,none⟩else g.G V o
 let d:Gh:=⟨W,g.box,g.tok,g.room⟩;have TC:g.G.le W:=by intro V o v J;grind
 have χ:g.le d:=⟨TC,λ_ _ x=>x,λ_ _ _=>rfl,λk hw iy x=>⟨hw,iy,x,acd _,λ_=>rfl⟩⟩;have T:∀V o,V≠b->g.G V o=none->W V o=none:=by grind
 rw[hc]at M;obtain⟨vs,v1,v2,v3⟩:=qY M;have ν:=(cy.get v1).1;have kF:dS W b 0 (bD F):=by refine pg (cy.mono TC _ _ v1) (λj u hj=>?_) v3;grind
 have ie:ig W s b 0 F:=sO.2 ⟨kF,hs⟩;have hF:∀a a' v,Ym Y s F a a'->aX g a v->aX d a' v:=by
  rintro a a' v (rfl|⟨m,rfl,hm,rfl⟩) C;exact aX.mono χ _ _ C;simp only[aX]at C;obtain⟨V,υ,o,A,rfl,Q,e3,e4⟩:=C;rw[DW]at A;simp only[aX];refine⟨_,m,υ,Z,hm,Q,?_⟩;rcases e4 with e4|rfl
  simp_all;grind
 have τ:∀(l N:Φ)(V o:Nat),Vv (Ym Y s F) l N->cC w g V o l->cC w d V o N:=by
  intro l
  induction l with
  |nil=>intro N V o i _;cases N with
   |nil=>trivial
   |cons x m=>simp[Vv]at i
  |cons x l ih=>intro N V o i z;cases N with
   |nil=>simp[Vv]at i
   |cons y m =>
    obtain⟨B,h4⟩:=i;obtain⟨⟨u,f1,f2,f3⟩,f4,f5⟩:=z;refine⟨⟨u,f1,hF _ _ _ B f2,?_⟩,f4,ih m V (o+1) h4 f5⟩;rcases B with rfl|⟨m,rfl,hm,rfl⟩
    exact f3;rfl
 have zJ:∀k cs V,k≠Y->au k bs=some cs->g.box k=some V->V≠b:=by rintro k cs V i z B rfl;exact i (q.inv.gR k Y cs cells _ z D B DW)
 have hT:∀k m,au k ts'=some m->au k ts=some m:=λk m e=>tP ht k m e;have I:Inv w d ⟨bs',ts',us⟩:=by
  refine⟨?_,?_,?_,?_,?_,q.inv.used,?_⟩;intro V o v J;simp only[d,W]at J;split at J;simp_all;exact q.inv.rS V o v J;intro k E e;have i:=VN ω k E e;obtain⟨S,z,B⟩:=lP U k E e;obtain⟨V,f1,f2,f3,f4⟩:=q.inv.box k S z;exact⟨V,f1,f2,λo=>T V o (zJ k S V i z f1) (f3 o),τ _ _ _ _ B f4⟩;intro k k' x x' V e e' A Q;obtain⟨S,z,_⟩:=lP U k x e;obtain⟨ρ,FI,_⟩:=lP U k' x' e';exact q.inv.gR k k' S ρ V z FI A Q
  ·intro k m e;obtain⟨iy,A,Q⟩:=q.inv.tok k m (hT k m e);refine⟨iy,A,λV lo hi C=>?_⟩;obtain⟨e3,e4,e5⟩:=Q V lo hi C;have Ew:V≠b:=by rintro rfl;exact e5 Y cells D DW
   refine⟨e3,λo i z=>?_,λk' E e'=>?_⟩;grind;obtain⟨S,z,_⟩:=lP U k' E e';exact e5 k' S z
  intro k k' m m' V lo hi π ο e e' A Q;exact q.inv.iX k k' m m' V lo hi π ο (hT k m e) (hT k' m' e') A Q;intro k E V e A o;obtain⟨S,z,_⟩:=lP U k E e;exact q.inv.room k S V z A o
 have O:jv w g ⟨bs,ts,us⟩ w d ⟨bs',ts',us⟩:=by
  refine⟨Z,Z,Z,acd _,λ_ _ _=>rfl,λ_ _ _ _=>⟨Z,Z⟩,TC,?_,?_,?_,?_⟩;intro V o v J;simp only[d,W]at J;split at J;rename_i hh;obtain⟨rfl,_⟩:=hh;exact .inr (.inr (.inl ⟨Y,cells,D,DW⟩));exact .inl J;intro k E V e A;obtain⟨S,z,_⟩:=lP U k E e;exact .inr ⟨k,S,z,A⟩;grind;intro k _ e;cases H:au k bs' with
  |none=>exact absurd H e
  |some E =>
   obtain⟨S,z,_⟩:=lP U k E H;exact⟨by show au k bs≠none;rw[z];simp,Z,Z⟩
 refine h d w a cs ⟨I,?_,?_,q.frame.trans O,q.size,q.defers⟩;exact λm v hm=>Rel.mono TC _ _ (q.wE m v hm);intro t x e;obtain⟨a0,i,z⟩:=Nk he t x e;exact hF _ _ _ z (q.env t a0 i)
def AK.weak{bs ts}{us:Ω}(T:AV->AV->Prop)(C:∀g a Q v,T a Q->aX g a v->aX g Q v)(j:∀a Q,T a Q->a.one->Q.one)
  {env' bs' ts'}(b:PtE T env env')(U:PtB T bs bs')(ht:Qu ts ts')
  (h:AK P X f n β R K env' ⟨bs',ts',us⟩):AK P X f n β R K env ⟨bs,ts,us⟩:=by
 intro g w a cs q;have ω:∀(l p:Φ)(V o:Nat),Vv T l p->cC w g V o l->cC w g V o p:=by
  intro l
  induction l with
  |nil=>intro p V o j _;cases p with
   |nil=>trivial
   |cons x m=>simp[Vv]at j
  |cons x l ih=>intro p V o i F;cases p with
   |nil=>simp[Vv]at i
   |cons y m =>
    obtain⟨B,h4⟩:=i;obtain⟨⟨u,f1,f2,f3⟩,f4,f5⟩:=F;exact⟨⟨u,f1,C _ _ _ _ B f2,j _ _ B f3⟩,f4,ih m V (o+1) h4 f5⟩
 have Y:∀k m,au k ts'=some m->au k ts=some m:=λk m e=>tP ht k m e;have O:Inv w g ⟨bs',ts',us⟩:=by refine⟨q.inv.rS,?_,?_,?_,?_,q.inv.used,?_⟩;intro k E e;obtain⟨S,F,B⟩:=lP U k E e;obtain⟨V,f1,f2,f3,f4⟩:=q.inv.box k S F;grind;intro k z x x' V e r A N;obtain⟨S,F,_⟩:=lP U k x e;obtain⟨M,FI,_⟩:=lP U z x' r;exact q.inv.gR k z S M V F FI A N;intro k m e;obtain⟨iy,A,N⟩:=q.inv.tok k m (Y k m e);refine⟨iy,A,λV D H hr=>?_⟩;obtain⟨e3,e4,e5⟩:=N V D H hr;refine⟨e3,e4,λz E r=>?_⟩;obtain⟨S,F,_⟩:=lP U z E r;exact e5 z S F;intro k z m d V D H J I e r A N;exact q.inv.iX k z m d V D H J I (Y k m e) (Y z d r) A N;intro k E V e A o;obtain⟨S,F,_⟩:=lP U k E e;exact q.inv.room k S V F A o
 have W:jv w g ⟨bs,ts,us⟩ w g ⟨bs',ts',us⟩:=by
  refine⟨Z,Z,Z,acd _,λ_ _ _=>rfl,λ_ _ _ _=>⟨Z,Z⟩,lB.le.refl _,λ_ _ _ h => .inl h,?_,?_,?_⟩;intro k E V e A;obtain⟨S,F,_⟩:=lP U k E e;exact .inr ⟨k,S,F,A⟩;grind;intro k _ e;cases G:au k bs' with
  |none=>exact absurd G e
  |some E =>
   obtain⟨S,F,_⟩:=lP U k E G;exact⟨by show au k bs≠none;rw[F];simp,Z,Z⟩
 refine h g w a cs ⟨O,q.wE,?_,q.frame.trans W,q.size,q.defers⟩;intro t x e;obtain⟨a0,F,B⟩:=Nk b t x e;exact C _ _ _ _ B (q.env t a0 F)
def FQ{v}:∀{o l},o<l.length->bQ o [v] l=some (l.set o v)
 |_,[],h=>by simp at h
 |0,x::l,_=>by simp[bQ]
 |o+1,x::l,h=>by have:=FQ (v:=v) (o:=o) (l:=l) nu;simp only[bQ,this,ajY]
end
def uv(k:Nat):Option (Ψ)->St
 |none=>⟨[],[],[]⟩
 |some cells=>⟨[(k,cells.map AV.c)],[],[k]⟩
def AS{k V u}{Y:Φ}(h:au V (uv k u).boxes=some Y):V=k/\∃cells,u=some cells/\Y=cells.map AV.c:=by
 cases u with
 |none=>simp[uv,au]at h
 |some cells =>
  simp only[uv,ak]at h;split at h;grind;simp[au]at h
def qZ(k u):(uv k u).toks=[]:=by cases u<;>rfl
def GR(β:lu)(r:AV)(I:Option (Ψ)):Ending->World->Prop:=λe V =>
 ∃u Y,e = .returned u/\aX Y r u/\Inv V Y (uv 999999 I)/\jv β.w β.g β.σ V Y (uv 999999 I)
def de(P:Program)(X:Ctx)(f:FuncId)(u:Option (Ψ))(Y:Φ)(r:AV)(I:Option (Ψ)):Prop :=
 Enters P f/\∀(g:Gh)(w:World)(V:L Value),Inv w g (uv 1000000 u)->rR X g.G->cn g Y V ->
  Calls P f V.toArray w (GR ⟨w,g,uv 1000000 u⟩ r I)
def cO{V ts}:∀(Y:Ψ),fT V ts (Y.map AV.c) (Y.map AV.c)
 |[]=>by simp[fT]
 |c::Y=>by exact⟨_,_,Z,by simp[Conv],cO Y⟩
def vG(K:Option Nat):Ren:=⟨λk=>if k=1000000 then K else none,λ_=>none⟩
def TD{w g σ}(W:Inv w g σ)(K)(u)(h:∀cells,u=some cells->∃V,K=some V/\au V σ.boxes=some (cells.map AV.c))(C:u=none->K=none) :
  Inv w (g.gK (vG K)) (uv 1000000 u):=by
 refine(W.gK (vG K) _ ?_ ?_ ?_ ?_ ?_).1;intro k T e;obtain⟨rfl,cells,A,rfl⟩:=AS e;obtain⟨V,Q,I⟩:=h cells A;exact⟨V,_,by simp[vG,Q],I,cO _⟩;intro k Y B e U;simp only[vG]at e U;simp_all;intro k n e;rw[qZ]at e;simp[au]at e;intro k Y m J B e;simp[vG]at e;intro k e;simp only[vG]at e;by_cases P:k=1000000
 ·subst P;cases u with
  |none=>simp[C rfl]at e
  |some cells=>simp[uv]
 simp_all
def Z1{w z g g0 y σ TE}(W:Inv w g σ)(χ:g0.G=g.G)(υ:TE.toks=[])(K)
  (h0:∀k F b,au k TE.boxes=some F->g0.box k=some b->∃V E,K=some V/\au V σ.boxes=some E/\g.box V=some b)
  {bo}(q:Inv z y (uv 999999 bo))(I:jv w g0 TE z y (uv 999999 bo))(Y)
  (hd:(K=none/\Y=σ)\/∃V,K=some V/\Y=σ.fW V) :
  let g1:Gh:=⟨y.G,g.box,g.tok,g.room⟩
  Inv z g1 Y/\jv w g σ z g1 Y/\g.le g1 /\
   ∀cells,bo=some cells->∃b,y.box 999999=some b/\b<z.heap.size/\(∀o,y.G b o=none)/\cC z g1 b 0 (cells.map AV.c) /\
    (∀k F,au k Y.boxes=some F->g.box k≠some b)/\(∀k n j D H,au k Y.toks=some n->g.tok k=some (n,some (j,D,H))->j≠b) /\
    (w.heap.size<=b\/∃i N,au i σ.boxes=some N/\g.box i=some b)/\∀o,(o<y.room 999999->∃u,z.cell? ⟨b,o,none⟩=some u)/\z.frozen? ⟨b,o,none⟩=false:=by
 intro g1;have own:∀b o,ko g0 TE b o->∃V E,K=some V/\au V σ.boxes=some E/\g.box V=some b:=by rintro b o (⟨k,F,A,m⟩|⟨k,n,D,H,A,_⟩);grind;rw[υ]at A;simp[au]at A
 have LA:∀b o,ko g0 TE b o->ko g σ b o:=by intro b o h;obtain⟨V,E,_,A,m⟩:=own b o h;exact .inl ⟨V,E,A,m⟩
 have P:∀k F,au k Y.boxes=some F->au k σ.boxes=some F/\K≠some k:=by
  intro k F e;rcases hd with ⟨rfl,rfl⟩|⟨V,rfl,rfl⟩
  exact⟨e,cS⟩;simp only[St.fW,l9]at e;split at e;simp at e;grind
 have O:Y.toks=σ.toks:=by rcases hd with ⟨_,rfl⟩|⟨V,_,rfl⟩<;>rfl
 have τ:Y.used=σ.used:=by rcases hd with ⟨_,rfl⟩|⟨V,_,rfl⟩<;>rfl
 have Z2:∀k F b,au k Y.boxes=some F->g.box k=some b->∀o,¬ko g0 TE b o:=by intro k F b e U o Q;obtain⟨V,E,A,m,e3⟩:=own b o Q;obtain⟨e4,e5⟩:=P k F e;have:=W.gR k V F E b e4 m U e3;subst this;exact e5 A
 have M:g.le g1:=⟨λb o v h=>I.le b o v (by rw[χ];exact h),λ_ _ h=>h,λ_ _ _=>rfl,λk hw d h=>⟨hw,d,h,acd _,λ_=>rfl⟩⟩;have T:∀b o,b<w.heap.size->¬ko g0 TE b o->g.G b o=none->y.G b o=none:=by
  intro b o U p h;cases a:y.G b o with
  |none=>rfl
  |some v =>
   rcases I.new b o v a with x|x|x
   simp_all;omega;exact absurd x p
 have ρ:∀k n b D H,au k σ.toks=some n->g.tok k=some (n,some (b,D,H))->∀o,¬ko g0 TE b o:=by intro k n b D H e A o Q;obtain⟨d,S,f2⟩:=W.tok k n e;rw[A]at S;simp at S;subst S;obtain⟨V,E,_,m,e3⟩:=own b o Q;exact(f2 b D H Z).2.2 V E m e3
 refine⟨⟨q.rS,?_,?_,?_,?_,?_,?_⟩,⟨I.os,I.tape,I.output,I.size,λb U p=>I.block b U (λo Q=>p o (LA b o Q)),λb o U p=>I.kept b o U (λQ=>p (LA b o Q)),?_,?_,?_,?_,?_⟩,M,?_⟩;intro k F e;obtain⟨t,_⟩:=P k F e;obtain⟨b,C,J,b3,b4⟩:=W.box k F t;have p:=Z2 k F b e C;exact⟨b,C,aja J I.size,λo=>T b o J (p o) (b3 o),(cC.of_same (λo=>I.kept b o J (p o)) b4).mono M⟩;intro k k' F E b e e';exact W.gR k k' F E b (P k F e).1 (P k' E e').1;intro k n e;rw[O]at e;obtain⟨d,r,h2⟩:=W.tok k n e;refine⟨d,r,λb D H hr=>?_⟩;obtain⟨B,h4,h5⟩:=h2 b D H hr;subst hr;refine⟨aja B I.size,λo P6 Te=>?_,λk' F e'=>h5 k' F (P k' F e').1⟩;obtain⟨h6,⟨u,h7⟩,h8⟩:=h4 o P6 Te;have p:=ρ k n b D H e r o;exact⟨T b o B p h6,⟨u,(I.kept b o B p).1.trans h7⟩,(I.kept b o B p).2.trans h8⟩;rw[O];exact W.iX;rw[τ];exact W.used;intro k F b e U o;obtain⟨t,_⟩:=P k F e;obtain⟨j,C,J,_⟩:=W.box k F t;rw[U]at C;cases C;have p:=Z2 k F b e U o;obtain⟨q1,q2⟩:=W.room k F b t U o;exact⟨λQ=>(q1 Q).imp λu hu=>(I.kept b o J p).1.trans hu,(I.kept b o J p).2.trans q2⟩;exact M.1
 ·intro b o v h;rcases I.new b o v h with x|x|x
  simp_all;exact .inr (.inl x);simp_all
 grind;grind
 ·intro k _ e;cases hc:au k Y.boxes with
  |none=>exact absurd hc e
  |some F=>exact⟨by rw[(P k F hc).1];simp,Z,Z⟩
 rintro cells rfl;have a:au 999999 (uv 999999 (some cells)).boxes=some (cells.map AV.c):=by simp[uv,ak]
 obtain⟨b,C,J,b3,b4⟩:=q.box 999999 _ a;have ω:=I.boxes 999999 _ b a C;refine⟨b,C,J,b3,?_,?_,?_,?_,q.room 999999 _ b a C⟩
 ·have:∀(l:Ψ)(o:Nat),cC z y b o (l.map AV.c)->cC z g1 b o (l.map AV.c):=by
   intro l
   induction l with
   |nil=>intro o _;trivial
   |cons c l ih =>
    intro o h;obtain⟨⟨u,r,h2,B⟩,h4,h5⟩:=h;exact⟨⟨u,r,K0,B⟩,h4,ih _ h5⟩
  exact this _ _ b4
 ·intro k F e U;obtain⟨t,A⟩:=P k F e;obtain⟨j,S,f2,_⟩:=W.box k F t;rw[U]at S;cases S;rcases ω with h|⟨i,N,r,h2⟩
  omega;obtain⟨V,E,B,h4,h5⟩:=h0 i N b r h2;have:=W.gR k V F E b t h4 U h5;subst this;exact A B
 ·rintro k n j D H e A rfl;rw[O]at e;obtain⟨d,S,f2⟩:=W.tok k n e;rw[A]at S;simp at S;subst S;obtain⟨f3,_,f5⟩:=f2 _ D H rfl;rcases ω with h|⟨i,N,r,h2⟩
  omega;grind
 grind
def Z3{M w r g m σ}(W:Inv w g σ)(I:jv M r m w g σ){d}(i:d ∉ σ.used)(kV:d<1000000){b R cells}(a:b<w.heap.size)(hG:∀o,g.G b o=none)(hc:cC w g b 0 cells)
  (Ea:∀k F,au k σ.boxes=some F->g.box k≠some b)(GI:∀k n V D H,au k σ.toks=some n->g.tok k=some (n,some (V,D,H))->V≠b)
  (K:M.heap.size<=b\/∃p S,au p m.boxes=some S/\r.box p=some b)(B:∀o,(o<R->∃u,w.cell? ⟨b,o,none⟩=some u)/\w.frozen? ⟨b,o,none⟩=false) :
  let g':Gh:=⟨g.G,λk=>if k=d then some b else g.box k,g.tok,λk=>if k=d then R else g.room k⟩
  Inv w g' (σ.fA d cells)/\jv M r m w g' (σ.fA d cells)/\g.le g':=by
 intro g';have ω:g.box d=none:=by
  cases h:g.box d with
  |none=>rfl
  |some x=>exact absurd (W.used d (.inl ri)) i
 have J:g.le g':=by refine⟨lB.le.refl _,λk x h=>?_,λk x h=>?_,λk hw P h=>⟨hw,P,h,acd _,λ_=>rfl⟩⟩;grind;grind
 have q:∀k F,au k (σ.fA d cells).boxes=some F->(k=d/\F=cells)\/(k≠d/\au k σ.boxes=some F):=by intro k F e;simp only[St.fA,ak]at e;grind
 refine⟨⟨W.rS,?_,?_,?_,W.iX,?_,?_⟩,⟨I.os,I.tape,I.output,I.size,I.block,I.kept,I.le,I.new,?_,I.toks,?_⟩,J⟩
 ·intro k F e;rcases q k F e with ⟨rfl,rfl⟩|⟨z,y⟩
  exact⟨b,afW,a,hG,hc.mono J⟩;obtain⟨V,O,N,C,f4⟩:=W.box k F y;exact⟨V,by simp[g',z,O],N,C,f4.mono J⟩
 ·intro k t F E V e j A Q;simp only[g']at A Q;rcases q k F e with ⟨rfl,rfl⟩|⟨z,y⟩
  grind;rw[if_neg z]at A;rcases q t E j with ⟨rfl,rfl⟩|⟨uu,FI⟩
  simp_all;rw[if_neg uu]at Q;exact W.gR k t F E V y FI A Q
 ·intro k n e;obtain⟨P,A,Q⟩:=W.tok k n e;refine⟨P,A,λV D H Y=>?_⟩;obtain⟨e3,e4,e5⟩:=Q V D H Y;subst Y;have Ew:=GI k n V D H e A;refine⟨e3,e4,λt F j=>?_⟩;simp only[g'];rcases q t F j with ⟨rfl,rfl⟩|⟨z,y⟩
  grind;simp_all
 intro k e;show k∈d::σ.used;by_cases U:k=d;simp[U];right;apply W.used k;simpa[g',U]using e
 ·intro k F V e A o;simp only[g']at A ⊢;rcases q k F e with ⟨rfl,rfl⟩|⟨z,y⟩
  simp_all;rw[if_neg z]at A;rw[if_neg z];exact W.room k F V y A o
 ·intro k F V e A;simp only[g']at A;rcases q k F e with ⟨rfl,rfl⟩|⟨z,y⟩
  simp_all;rw[if_neg z]at A;exact I.boxes k F V y A
 intro k He e;cases T:au k (σ.fA d cells).boxes with
 |none=>exact absurd T e
 |some F =>
  rcases q k F T with ⟨rfl,rfl⟩|⟨z,y⟩
  omega;obtain⟨O,N,C⟩:=I.ids k He (by rw[y];simp);exact⟨O,by simp[g',z,N],by simp[g',z,C]⟩
section
variable {P:Program}{X:Ctx}
def QF(K):jf (λσ=>σ.fW K) ⟨[],[K]⟩ where
 out:=λσ k I=>by simp at I;refine⟨?_,Z,Iff.rfl⟩;simp only[St.fW,l9];rw[if_neg I]
 same:=λσ p h k I=>by obtain⟨V,Y,B⟩:=h k (.inr I);refine⟨?_,Y,B⟩;simp only[St.fW,l9];simp_all
def bR.nJ{o}{env:Env}{σ f args T}(S:o.op = .call {callee := .value (.func f),args:=args,argTypes:=T})
  {d}(M:d<1000000)(J:mem d σ.used=false){Y}(I:iC (aJ X env) args.toList=some Y){s n cells}(F:de P X f none (Y.map AV.c) (.iI 999999 0 s n) (some cells)) :
  bR P X o env σ (.iI d 0 s n) (λσ=>σ.fA d (cells.map AV.c)) ⟨[],[d]⟩:=by
 intro H p w g a next Q z y W B G q;have E:iC (aJ X H) args.toList=some Y:=by rw[lN _ (λx O=>z x (by rw[S];simp only[Op.operands,Call.operands,aiu,ahj];exact .inr O))];exact I
 have D:=qf (g:=g) (ev:=a.eval) (λx v O=>cz G B O) E;have C:(execOp a.eval o).run P w = .ok (.enter f (args.map a.eval)) w:=by obtain⟨t,op,K,pos,V,guard⟩:=o;subst S;simp[execOp,resolve,Deferred.ofValue,invoke,Act.eval,F.1 _ w]
 unfold Oper.wp;rw[C,Oper.upon_enter];have A:=TD W none none (λ_ h=>by cases h) (λ_=>rfl);have:=F.2 (g.gK (vG none)) w (args.toList.map a.eval) A B (sD (g:=g.gK (vG none)) D);rw[show(args.toList.map a.eval).toArray=args.map a.eval from by rw[<- ajp]]at this;refine this.mono ?_;rintro e r ⟨u,g',rfl,m,j,i⟩;obtain⟨k1,k2,k3,k4⟩:=Z1 (g0:=g.gK (vG none)) (TE:=uv 1000000 none) W rfl (qZ _ _) none (λk cs b e=>by simp[uv,au]at e) j i p (.inl ⟨rfl,rfl⟩);obtain⟨b,c1,c2,c3,c4,c5,c6,c7,c8⟩:=k4 cells rfl;have Z0:d ∉ p.used:=λh=>cX J ((y d (.inr cS)).2.2.1 h);obtain⟨p1,p2,p3⟩:=Z3 k1 k2 Z0 M c2 c3 c4 c5 c6 c7 c8;refine q u r _ ?_ p1 p2 (k3.trans p3);obtain⟨b',U,oo,N,e2,e3,e4,e5⟩:=m;rw[c1]at N;cases N;exact⟨b,U,oo,cS,e2,e3,by simpa using e4,e5⟩
def bR.Mu{o}{env:Env}{σ f args S}(F:o.op = .call {callee := .value (.func f),args:=args,argTypes:=S})
  {x}{rest:L Operand}(C:args.toList=x::rest){K O n0}(N:aJ X env x=some (.iI K 0 O n0)){M}(ha:iC (aJ X env) rest=some M)
  {cells}(V:au K σ.boxes=some (cells.map AV.c)){v}(z:de P X f (some cells) (.iI 1000000 0 O n0::M.map AV.c) (.c v) none) :
  bR P X o env σ (.c v) (λσ=>σ.fW K) ⟨[],[K]⟩:=by
 intro t p w g a next Q r h2 W J m q;have j:∀y∈args.toList,y∈o.op.operands.toList:=by intro y G;rw[F];simp only[Op.operands,Call.operands,aiu,ahj];exact .inr G
 have Bg:iC (aJ X t) rest=some M:=by rw[lN _ (λy G=>r y (j y (by rw[C];exact aix _ G)))];exact ha
 have I:aJ X t x=some (.iI K 0 O n0):=by rw[r x (j x afv)];exact N
 have gP:=qf (g:=g) (ev:=a.eval) (λx v N=>cz m J N) Bg;have Y:=cz (a:=a) m J I;have i:au K p.boxes=some (cells.map AV.c):=by rw[(h2 K (.inr cS)).1];exact V
 have B:(execOp a.eval o).run P w = .ok (.enter f (args.map a.eval)) w:=by obtain⟨ω,op,d,pos,H,guard⟩:=o;subst F;simp[execOp,resolve,Deferred.ofValue,invoke,Act.eval,z.1 _ w]
 unfold Oper.wp;rw[B,Oper.upon_enter];have E:=TD W (some K) (some cells) (λ_ h=>by cases h;exact⟨K,rfl,i⟩) (λh=>by cases h);have U:∀T,(g.gK (vG (some K))).box T=if T=1000000 then g.box K else none:=by intro T;by_cases h:T=1000000<;>simp[Gh.gK,vG,h]
 have:=z.2 (g.gK (vG (some K))) w (args.toList.map a.eval) E J (by
  rw[C];refine⟨_,_,Z,?_,sD (g:=g.gK (vG (some K))) gP⟩;simp only[aX]at Y ⊢;obtain⟨b,D,oo,A,e2,e3,e4,e5⟩:=Y
  exact⟨b,D,oo,by rw[U];simpa using A,e2,e3,by simpa[Gh.gK,vG]using e4,e5⟩)
 rw[show(args.toList.map a.eval).toArray=args.map a.eval from by rw[<- ajp]]at this;refine this.mono ?_;rintro e w' ⟨u,g',rfl,h3,h4,h5⟩
 obtain⟨k1,k2,k3,_⟩:=Z1 (g0:=g.gK (vG (some K))) (TE:=uv 1000000 (some cells)) W rfl (qZ _ _) (some K) (λk cs b e A=>by
  obtain⟨rfl,_⟩:=AS e;rw[U]at A
  exact⟨K,_,Z,i,by simpa using A⟩) h4 h5 (p.fW K) (.inr ⟨K,Z,Z⟩)
 exact q u w' _ afG k1 k2 k3
end
section
variable {P:Program}{X:Ctx}{ops:tal}{o:Oper}{rest:L Oper}{env:Env}{acc:L Fp}{Q:Env->St->L Fp->Prop}{bs:tab}{ts:tad}{us:Ω}{σ:St}
def ag.nJ(kn)(N:cZ ops.toList kn env o=some true){f args T}(V:o.op = .call {callee := .value (.func f),args:=args,argTypes:=T})
  {d:Nat}(A:o.dst=some d)(C:Nat.blt d 1000000)(p:mem d us=false){Y}(U:iC (aJ X env) args.toList=some Y){s n cells W}(O:de P X f none W (.iI 999999 0 s n) (some cells))(S:W=Y.map AV.c)
  (k:ag P X ops rest ((d,.iI d 0 s n)::env) ⟨(d,cells.map AV.c)::bs,ts,d::us⟩ (⟨[],[d]⟩::acc) Q):ag P X ops (o::rest) env ⟨bs,ts,us⟩ acc Q:=by
 subst S;exact ag.step (dA N) (bR.nJ (σ:=⟨bs,ts,us⟩) V (Nat.blt_eq.mp C) p U O) (tL d _) ob
def ag.Mu(kn)(N:cZ ops.toList kn env o=some true){f args T}(S:o.op = .call {callee := .value (.func f),args:=args,argTypes:=T})
  {x}{Y:L Operand}(C:args.toList=x::Y){d:Nat}(A:o.dst=some d){K O n0}(u:aJ X env x=some (.iI K 0 O n0)){W}(M:iC (aJ X env) Y=some W)
  {cells:Ψ}(V:au K bs=some (cells.map AV.c)){v U}(E:de P X f (some cells) U (.c v) none)(J:U = .iI 1000000 0 O n0::W.map AV.c){F}(I:Gs K bs=F)
  (k:ag P X ops rest ((d,.c v)::env) ⟨F,ts,us⟩ (⟨[],[K]⟩::acc) Q):ag P X ops (o::rest) env ⟨bs,ts,us⟩ acc Q:=by
 subst J I;exact ag.step (dA N) (bR.Mu (σ:=⟨bs,ts,us⟩) S C u M V E) (QF K) ob
end
def de.of{P X f K c Y I F r}(hf:P.funcs[f]?=some K)(O:K.body=some c)(N:Enters P f)
  (E:F.length<=K.ntmps)(env)(σ)(M:env=(F.zipIdx.map λ(v,i)=>(i,v)))(p:uv 1000000 Y=σ)
  (h:∀β,AK P X f K.ntmps β (GR β r I) [.code c] env σ):de P X f Y F r I:=by
 subst p;refine⟨N,λg w z W B A x=>?_⟩;have Q:=(cn.get A).1;have q:Live X ⟨w,g,uv 1000000 Y⟩ K.ntmps env (uv 1000000 Y) g w {tmps:=z.toArray++Array.replicate (K.ntmps-z.toArray.size) undef,defers:=[]}:=by
  refine⟨W,B,?_,jv.refl _ _ _,?_,Z⟩
  ·intro t a e;subst M;have U:∀(l:Φ)(us:L Value)(k:Nat),cn g l us->au t ((l.zipIdx k).map λ(v,i)=>(i,v))=some a->k<=t/\∃u,us[t-k]?=some u/\aX g a u:=by
    intro l
    induction l with
    |nil=>intro us k _ e;simp[au]at e
    |cons v l D =>
     intro us k G e;obtain⟨u,us,rfl,y,j⟩:=G;simp only[ajE,ahM,ak]at e;grind
   obtain⟨_,u,V,T⟩:=U F z 0 A e;simp at V;have S:t<z.length:=(List.getElem?_eq_some_iff.1 V).1;have:(z.toArray++Array.replicate (K.ntmps-z.toArray.size) undef).getD t undef=u:=(by rw[ajf,aif ags];simp[V]);rw[this];exact T
  simp;omega
 obtain⟨e,m,C,y,V,T,J⟩:=h ⟨w,g,uv 1000000 Y⟩ g w _ x q;have H:Frame.enter P f z.toArray .normal =
   (top f).at {tmps:=z.toArray++Array.replicate (K.ntmps-z.toArray.size) undef,defers:=[]} [.code c]:=by
  simp[Frame.enter,Frame.at,hf,O,top]
 exact⟨_,m,C,y,by rw[H];exact V,T,J⟩
section
variable {P:Program}{X:Ctx}{f:FuncId}{n:Nat}{β:lu}{K:L Item}{env:Env}
def AK.afo(hX:cI P X){W}(hf:P.funcs[f]?=some W){bs}{ts:tad}{us:Ω}{Y s m cells F}
  (G:sZ X bs env W.results.toList=some [.iI Y 0 s m])(S:au Y bs=some F)(V:F=cells.map AV.c):AK P X f n β (GR β (.iI 999999 0 s m) (some cells)) (.code .ret::K) env ⟨bs,ts,us⟩:=by
 subst V;intro g w a F q;obtain⟨u,Q,U⟩:=sC hX q G
 obtain⟨O,N⟩:=q.inv.gK ⟨λk=>if k=999999 then some Y else none,λ_=>none⟩ (uv 999999 (some cells)) (by
   intro k c e;obtain⟨rfl,p,A,rfl⟩:=AS e;cases A;exact⟨Y,_,cS,S,cO _⟩) (by
   intro k z B e y;simp only at e y;split at e;grind
   ·simp at e) (by
   intro k n e;rw[qZ]at e;simp[au]at e) (by intro k z m x B e;simp at e) (by
   intro k e;by_cases I:k=999999;subst I;simp[uv]
   simp[I]at e)
 refine⟨.returned u,w,_,⟨u,_,Z,?_,O,q.frame.trans (N λk I e=>?_)⟩,.one step_ret,Z,Z,q.defers,Z,W,hf,Q⟩;simp at U ⊢;obtain⟨b,T,M,A,J,H,C,E⟩:=U;exact⟨b,T,M,by simpa[Gh.gK]using A,J,H,by simpa[Gh.gK]using C,E⟩;cases D:au k (uv 999999 (some cells)).boxes with
 |none=>exact absurd D e
 |some c=>obtain⟨rfl,_⟩:=AS D;omega
end
def EN{g}:∀{V Y},cn g (V.map AV.c) Y->cy g.G V Y
 |[],Y,h=>by simpa[cn,cy]using h
 |c::V,Y,h=>by obtain⟨u,us,rfl,h1,U⟩:=h;exact⟨u,us,rfl,adX,EN U⟩
structure Vs(w:World)(b:Nat)(w':World)(b':Nat)(news:List Value):Prop where
 os:w'.os=w.os
 tape:w'.tape=w.tape
 output:w'.output=w.output
 size:w.heap.size<=w'.heap.size
 blk:b'=b\/w.heap.size<=b'
 cells:∀(j:Nat) u,news[j]?=some u->w'.cell? ⟨b',j,none⟩=some u
 rest:∀b2,b2<w.heap.size->b2≠b->w'.heap[b2]?=w.heap[b2]?
def xU{w Y:World}{b}(h:Y.heap[b]?=w.heap[b]?)(o):Y.cell? ⟨b,o,none⟩=w.cell? ⟨b,o,none⟩:=by unfold World.cell?;simp_all
def Dh{w Y:World}{b}(h:Y.heap[b]?=w.heap[b]?)(o):Y.frozen? ⟨b,o,none⟩=w.frozen? ⟨b,o,none⟩:=by unfold World.frozen?;simp_all
def IQ{w:World}{b o v}(h:w.cell? ⟨b,o,none⟩=some v):b<w.heap.size:=by
 rcases ajK b w.heap.size with E|E
 omega;simp[World.cell?,Array.getElem?_eq_none E]at h
def de.raw{P X f cells s n0 H}(he:Enters P f)(h0:0<n0){F}(I:∀r∈F,r.cells.length=s)(N:(bD F).all CV.one)
  (h:∀w G b T t us,b<w.heap.size->(∀o,G b o=none)->(∀b o v,G b o=some v->w.cell? ⟨b,o,none⟩=some v)->cy G cells t ->
   (∀(j) u,t[j]?=some u->w.cell? ⟨b,j,none⟩=some u)->cells.all CV.one->n0<=T->(∀o,(o<T*s->∃u,w.cell? ⟨b,o,none⟩=some u)/\w.frozen? ⟨b,o,none⟩=false)->cy G H us ->
   ∃z,cy G (bD F) z/\Calls P f (.slice (some ⟨b,0,none⟩) n0 T::us).toArray w λe m=>∃S Y,e = .returned (.slice (some ⟨S,0,none⟩) F.length Y)/\F.length<=Y/\Vs w b m S z) :
  de P X f (some cells) (.iI 1000000 0 s n0::H.map AV.c) (.c (.sl s F)) none:=by
 refine⟨he,λg w t W cB E=>?_⟩;simp only[cn]at E;obtain⟨u,us,rfl,C,tF⟩:=E;simp only[aX]at C;obtain⟨b,T,o,A,rfl,e2,e3,e4⟩:=C;have M:o=some ⟨b,0,none⟩:=by grind
 subst M;have q:au 1000000 (uv 1000000 (some cells)).boxes=some (cells.map AV.c):=by simp[uv,ak]
 obtain⟨S,D,c2,p,c4⟩:=W.box 1000000 _ q;rw[A]at D;cases D;obtain⟨t,v1,v2,v3⟩:=qY (tail:=[]) (by simpa using c4);have B:=W.room 1000000 _ b q A;obtain⟨z,d,hc⟩:=h w g.G b T t us c2 p W.rS v1 (λj u K=>by have:=v2 j u K;rwa[ahr]at this) v3 e2 (λo=>⟨λM=>(B o).1 ai,(B o).2⟩) (EN tF);refine hc.mono ?_;rintro e m ⟨S,Y,rfl,Z4,R⟩;let Q:lB:=λV o=>if V=S then(if o<(bD F).length then m.cell? ⟨S,o,none⟩else none)else g.G V o
 have a:∀V o v,g.G V o=some v->V≠b/\V<w.heap.size/\V≠S:=by
  intro V o v J;have y:V≠b:=by rintro rfl;rw[p]at J;simp at J
  have x:=IQ (W.rS V o v J);refine⟨y,x,?_⟩;rintro rfl;rcases R.blk with h|h
  exact y h;omega
 have TC:g.G.le Q:=by intro V o v J;simp only[Q,(a V o v J).2.2,aiQ];exact J
 have jH:∀V o v,Q V o=some v->m.cell? ⟨V,o,none⟩=some v:=by intro V o v J;simp only[Q]at J;split at J;simp_all;obtain⟨y,x,_⟩:=a V o v J;rw[xU (R.rest V x y)];exact W.rS V o v J
 have VJ:=(cy.get d).1
 have ie:ig Q s S 0 F:=sO.2 ⟨pg (cy.mono TC _ _ d) (λj u K=>by
  have ω:j<z.length:=(List.getElem?_eq_some_iff.1 K).1;simp only[Q,if_pos,ahr];rw[if_pos ai]
  exact R.cells j u K) N,I⟩
 refine⟨_,⟨Q,λ_=>none,λ_=>none,λ_=>0⟩,Z,?_,?_,?_⟩;simp only[aX,Rel];exact⟨_,_,_,Z,Z,Z4,.inr ⟨S,0,Z,ie⟩⟩;exact⟨jH,λk i e=>by simp[uv,au]at e,λk k' i χ b e=>by simp[uv,au]at e,λk n e=>by simp[uv,au]at e,λk k' n n' b lo hi υ τ e=>by simp[uv,au]at e,λk e=>by simp at e,λk i b e=>by simp[uv,au]at e⟩;have O:∀U,(∀o,¬ko g (uv 1000000 (some cells)) U o)\/(∃o,¬ko g (uv 1000000 (some cells)) U o)->U≠b:=by
  rintro U h rfl;have M:∀o,ko g (uv 1000000 (some cells)) U o:=λo => .inl ⟨1000000,_,q,A⟩;rcases h with h|⟨o,h⟩
  exact h 0 (M 0);exact h (M o)
 refine⟨R.os,R.tape,R.output,R.size,λU y x=>R.rest U y (O U (.inl x)),λU o y x=>?_,TC,?_,λk i b e=>by simp[uv,au]at e,λk n b lo hi e=>by simp[uv,au]at e,λk _ e=>by simp[uv,au]at e⟩;have:=R.rest U y (O U (.inr ⟨o,x⟩));exact⟨xU this o,Dh this o⟩;intro V o v J;simp only[Q]at J;split at J
 ·rename_i hb;subst hb;rcases R.blk with h|h
  grind;exact .inr (.inl h)
 exact .inl J
def notNil:AV->Bool
 |.c (.sl _ (_::_))=>true
 |.own _ _ (_::_)=>true
 |.iI _ _ _ n=>Nat.blt 0 n
 |_=>false
def Z6:AV->Bool
 |.c (.sl ..)=>true
 |.own .. => true
 |.iI .. => true
 |_=>false
def Nl(a:AV):CV:=match notNil a with
 |true => .bool false
 |false => .wC
def Z7{g a u}(h:Z6 a)(V:aX g a u):∃U Y T,u = .slice U Y T/\(notNil a->U≠none):=by
 unfold Z6 at h;split at h
 ·rename_i s S;obtain⟨U,Y,T,rfl,E,D,V⟩:=V;refine⟨U,Y,T,Z,λI=>?_⟩;rcases V with rfl|⟨b,o,rfl,_⟩
  simp[notNil]at I;simp
 ·rename_i k s S;obtain⟨U,Y,T,rfl,E,D,V,_⟩:=V;refine⟨U,Y,T,Z,λI=>?_⟩;rcases V with rfl|⟨b,o,rfl,_⟩
  simp[notNil]at I;simp
 simp only[aX]at V;obtain⟨b,T,o,_,rfl,O,_,N⟩:=V;refine⟨_,_,_,Z,λI=>?_⟩;have:=Nat.blt_eq.mp I;grind;grind
section
variable {P:Program}{X:Ctx}
def Gv{t e w}(d)(h:(underlying t).run P w = .ok (.slice e) w)(a)(n m) :
  (Op.equalIn (d+1) t (.slice (some a) n m) (.slice none 0 0)).run P w = .ok false w:=by simp[Op.equalIn,h]
def Gw{t e w}(d)(h:(underlying t).run P w = .ok (.slice e) w)(n m) :
  (Op.equalIn (d+1) t (.slice none n m) (.slice none 0 0)).run P w = .ok true w:=by simp[Op.equalIn,h]
def Bl{t e w}(h:(underlying t).run P w = .ok (.slice e) w)(Y)(n m) :
  (Op.equal t (.slice Y n m) (.slice none 0 0)).run P w = .ok Y.isNone w:=by
 cases Y with
 |none=>exact Gw 9999 h n m
 |some a=>exact Gv 9999 h a n m
def bR.Z8(hX:cI P X){o}{env:Env}{σ}{t U:TypeId}{x}(V:o.op = .binOp .eql t x (.const (.slice none 0 0)) U){i e}(S:X.ti t=some i)(I:i.kind = .slice e)
  {a}(O:aJ X env x=some a)(Q:Z6 a):bR P X o env σ (.c (Nl a)) (λσ=>σ) ⟨[],[]⟩:=by
 refine bR.val λN w g H z m B M=>?_;have A:aJ X N x=some a:=by rw[z x (by rw[V];simp[Op.operands])];exact O
 obtain⟨F,Y,T,u,J⟩:=Z7 Q (cz (a:=H) M B A);obtain⟨d1,C,G,E⟩:=hX.run_underlying (w:=w) S;rw[I]at G;subst G;refine⟨Value.bool F.isNone,?_,?_⟩;obtain⟨D,op,K,q,W,guard⟩:=o;subst V;have p:binOp .eql t (.slice F Y T) (.slice none 0 0)=(do Pure.pure (Value.bool (<- Op.equal t (.slice F Y T) (.slice none 0 0)))):=rfl;have y:H.eval (.const (.slice none 0 0)) = .slice none 0 0:=rfl;simp[execOp,u,y,p,eqGuard_at_slice,Bl C];unfold Nl;split
 ·rename_i r;simp only[aX,Rel];have:=J r;cases F<;>simp at this ⊢
 exact⟨_,Z⟩
variable {ops:tal}{rest:L Oper}{o:Oper}{env:Env}{σ:St}{acc:L Fp}{Q:Env->St->L Fp->Prop}
def ag.Z8(hX:cI P X)(kn)(N:cZ ops.toList kn env o=some true){t Y x}(W:o.op = .binOp .eql t x (.const (.slice none 0 0)) Y){d:Nat}(A:o.dst=some d){i e}(H:X.ti t=some i)(I:i.kind = .slice e)
  {a}(O:aJ X env x=some a)(V:Z6 a){v}(u:Nl a=v)
  (k:ag P X ops rest ((d,.c v)::env) σ (⟨[],[]⟩::acc) Q):ag P X ops (o::rest) env σ acc Q:=by
 subst u;exact ag.step (dA N) (bR.Z8 hX W H I O V) (jf.id _) ob
variable {f:FuncId}{n:Nat}{β:lu}{R:Ending->World->Prop}{K:L Item}
def AK.sY{c x y}(D:aJ X env c=some (.c .wC))(V:AK P X f n β R (.code x::K) env σ)(T:AK P X f n β R (.code y::K) env σ) :
  AK P X f n β R (.code (.cond c x y)::K) env σ:=by
 intro g w a cs q;have:=cz q.env q.wE D;obtain⟨b,U⟩:=this;cases b;obtain⟨e,Y,C,W,H,I,u⟩:=T g w a cs q;have st:=step_cond (P:=P) (b:=top f) (x:=x) (y:=y) (k:=K) (cs:=cs) (w:=w) U;exact⟨e,Y,C,W,H.of_steps (.one st),I,u⟩;obtain⟨e,Y,C,W,H,I,u⟩:=V g w a cs q;have st:=step_cond (P:=P) (b:=top f) (x:=x) (y:=y) (k:=K) (cs:=cs) (w:=w) U;exact⟨e,Y,C,W,H.of_steps (.one st),I,u⟩
end
mutual
def Wk:CV->CV->Prop
 |.sl s V,.sl t Y=>(s=t/\V=Y)\/(V=[]/\Y=[])
 |.agg l,.agg m=>GA l m
 |.eK l,.eK m=>GA l m
 |v,.any=>v.one=true
 |v,w=>v=w
def GA:Ψ->Ψ->Prop
 |[],[]=>True
 |v::l,w::m=>Wk v w/\GA l m
 |_,_=>False
end
mutual
def Wk.refl:∀(v:CV),Wk v v
 |.sl s Y=>by unfold Wk;exact .inl ⟨Z,Z⟩
 |.agg l=>by simp only[Wk];exact GA.refl l
 |.eK l=>by simp only[Wk];exact GA.refl l
 |.any=>by simp only[Wk];rfl
 |.int .. => by simp only[Wk]
 |.bool .. => by simp only[Wk]
 |.str .. => by simp only[Wk]
 |.nL=>by simp only[Wk]
 |.undef=>by simp only[Wk]
 |.ip .. => by simp only[Wk]
 |.sX .. => by simp only[Wk]
 |.wC=>by simp only[Wk]
def GA.refl:∀(l:Ψ),GA l l
 |[]=>by simp only[GA]
 |v::l=>by simp only[GA];exact⟨Wk.refl v,GA.refl l⟩
end
def Wk.of_eq{v w}(h:v=w):Wk v w:=by subst h;exact Wk.refl v
def uY{G v u}(h:v.one)(V:Rel G v u):(∀Y,u ≠ .agg Y)/\∀Y,u ≠ .tuple Y:=by
 cases v<;>simp[CV.one]at h<;>simp only[Rel]at V
 case int=>subst V;simp
 case bool=>subst V;simp
 case str=>subst V;simp
 case nL=>subst V;simp
 case sl=>obtain⟨_,_,_,rfl,_⟩:=V;simp
 case ip=>obtain⟨_,_,rfl,_⟩:=V;simp
 case sX=>obtain⟨_,rfl,_⟩:=V;simp
 case any=>exact V
 grind
def ago{v w}(h:Wk v w)(Y:v.one):w.one:=by unfold Wk at h;split at h;rfl;simp[CV.one]at Y;simp[CV.one]at Y;rfl;simp_all
mutual
def Wk.rel{G:lB}:∀{v w:CV}{u:Value},Wk v w->Rel G v u->Rel G w u
 |.sl s O,w,u,h,V=>by
  cases w
  case sl t QI =>
   unfold Wk at h;rcases h with ⟨rfl,rfl⟩|⟨rfl,rfl⟩
   exact V;simp only[Rel]at V ⊢;obtain⟨U,Y,T,A,Q,K,_⟩:=V;exact⟨U,Y,T,A,Q,K,cS⟩
  case any=>unfold Wk at h;simp only[Rel];exact uY h V
  all_goals (unfold Wk at h;cases h)
 |.agg l,w,u,h,V=>by
  cases w<;>simp only[Wk]at h
  case agg m =>
   simp only[Rel]at V ⊢;obtain⟨S,A,Q,K⟩:=V;obtain⟨g1,M,_⟩:=GA.rel h Q;exact⟨S,A,g1,M K⟩
  case any=>simp[CV.one]at h
  all_goals (cases h)
 |.eK l,w,u,h,V=>by
  cases w<;>simp only[Wk]at h
  case eK m =>
   simp only[Rel]at V ⊢;obtain⟨S,A,Q,K⟩:=V;obtain⟨g1,_,M⟩:=GA.rel h Q;exact⟨S,A,g1,ai⟩
  case any=>simp[CV.one]at h
  all_goals (cases h)
 |.any,w,u,h,V=>by cases w<;>simp only[Wk]at h<;>first|exact V|cases h
 |.int ..,w,u,h,V=>by cases w<;>simp only[Wk]at h<;>first|(simp only[Rel];exact uY h V)|(rw[<- h];exact V)|cases h
 |.bool ..,w,u,h,V=>by cases w<;>simp only[Wk]at h<;>first|(simp only[Rel];exact uY h V)|(rw[<- h];exact V)|cases h
 |.str ..,w,u,h,V=>by cases w<;>simp only[Wk]at h<;>first|(simp only[Rel];exact uY h V)|(rw[<- h];exact V)|cases h
 |.nL,w,u,h,V=>by cases w<;>simp only[Wk]at h<;>first|(simp only[Rel];exact uY h V)|exact V|cases h
 |.undef,w,u,h,V=>by cases w<;>simp only[Wk]at h<;>first|exact V|(simp[CV.one]at h)|cases h
 |.ip ..,w,u,h,V=>by cases w<;>simp only[Wk]at h<;>first|(simp only[Rel];exact uY h V)|(rw[<- h];exact V)|cases h
 |.sX ..,w,u,h,V=>by cases w<;>simp only[Wk]at h<;>first|(simp only[Rel];exact uY h V)|(rw[<- h];exact V)|cases h
 |.wC,w,u,h,V=>by cases w<;>simp only[Wk]at h<;>first|(simp only[Rel];exact uY h V)|exact V|cases h
def GA.rel{G:lB}:∀{l m:Ψ}{us:L Value},GA l m->cy G l us->cy G m us/\(l.all CV.one->m.all CV.one)/\l.length=m.length
 |[],[],us,_,V=>⟨V,id,Z⟩
 |v::l,w::m,us,h,V=>by simp only[GA]at h;simp only[cy]at V ⊢;obtain⟨u,us,rfl,W,P⟩:=V;obtain⟨g1,M,C⟩:=GA.rel h.2 P;refine⟨⟨u,us,rfl,Wk.rel h.1 W,g1⟩,?_,afv⟩;simp only[aiK,aaI];rintro⟨J,I⟩;exact⟨ago h.1 J,M I⟩
 |[],_::_,_,h,_=>by simp[GA]at h
 |_::_,[],_,h,_=>by simp[GA]at h
end
def DT{x y e}(Y:x.one)(U:y.one):Wk (.eK [.agg [x,y],.int .i64 e]) (.eK [.agg [.any,.any],.int .i64 e]):=by
 have O:Wk x .any:=by cases x<;>unfold Wk<;>first|exact Y|rfl
 have V:Wk y .any:=by cases y<;>unfold Wk<;>first|exact U|rfl
 refine⟨?_,Wk.refl _,trivial⟩;exact⟨O,V,trivial⟩
def Au{s t b}:Wk (.eK [.sl s [],b]) (.eK [.sl t [],b]):=by simp only[Wk,GA];exact⟨.inr ⟨trivial,trivial⟩,Wk.refl b,trivial⟩
section
variable {P:Program}{X:Ctx}
def aZ.wk{f T Q r H}(Y:GA T Q)(V:Wk r H)(q:aZ P X f Q r):aZ P X f T H:=by refine⟨q.1,λG w S O N B=>?_⟩;exact Calls.mono (q.2 G w S O N (GA.rel Y B).1) λe M ⟨u,U,A,W,K⟩=>⟨u,U,A,Wk.rel V W,K⟩
variable {f:FuncId}{n:Nat}{β:lu}{K:L Item}{env:Env}{σ:St}
def AK.HG(hX:cI P X){Y}(hf:P.funcs[f]?=some Y){r W V}
  (G:nh X σ.boxes env Y.results.toList=some r)(D:close r=some W)(U:Wk W V):AK P X f n β (QR β V) (.code .ret::K) env σ:=by
 have h:=AK.ahK (K:=K) (β:=β) (n:=n) hX hf G D Z;intro g w a T q;obtain⟨e,S,C,⟨u,O,N,M,B⟩,h4⟩:=h g w a T q;exact⟨e,S,C,⟨u,O,N,Wk.rel U M,B⟩,h4⟩
end
inductive QJ where
 |ok (env:Env) (bs:List (Nat×List AV)) (us:List Nat) (fp:Fp)
 |no
def PY(X:Ctx)(V:L Oper)(o:Oper)(env:Env)(bs:tab)(us:Ω):QJ :=
 match cZ V kn env o with
 |some true=>match o.op,o.dst with
  |.box _ x,some d=>match aJ X env x with
   |some a=>match kG a with
    |some cells=>match Qt d us with
     |false => .ok ((d,.ptr d 0)::env) ((d,cells)::bs) (d::us) ⟨[],[d]⟩
     |true => .no
    |none => .no
   |none => .no
  |.alloc t,some d=>match X.ti t with
   |some i=>match i.zero with
    |some I=>match kG I with
     |some cells=>match Qt d us with
      |false => .ok ((d,.ptr d 0)::env) ((d,cells)::bs) (d::us) ⟨[],[d]⟩
      |true => .no
     |none => .no
    |none => .no
   |none => .no
  |.store t x y,none=>match X.ti t,aJ X env x,aJ X env y with
   |some i,some (.ptr K S),some a=>match au K bs,kG a with
    |some cells,some N=>match Nat.beq N.length i.size,bQ S N cells with
     |true,some r=>match Bs K r bs with
      |some O => .ok env O us ⟨[],[K]⟩
      |none => .no
     |_,_ => .no
    |_,_ => .no
   |_,_,_ => .no
  |.buildSlice t W Y,some d=>match X.ti t with
   |some i=>match i.kind with
    |.slice e=>match X.ti e with
     |some j=>match j.zero,kr (aJ X env) 0 Y.toList with
      |some _,some T=>match Nat.beq T.length W,jF j.size T,Nat.ble (W*j.size) 16777216 with
       |true,true,true => .ok ((d,.own .exact j.size T)::env) bs us ⟨[],[]⟩
       |_,_,_ => .no
      |_,_ => .no
     |none => .no
    |_ => .no
   |none => .no
  |.build t Y,some d=>match X.ti t with
   |some i=>match i.kind with
    |.arr n e=>match X.ti e,i.zero with
     |some j,some (.agg z)=>match uD X (aJ X env) (Dg j.size e 0 n) Y.toList z with
      |some r => .ok ((d,.agg r)::env) bs us ⟨[],[]⟩
      |none => .no
     |_,_ => .no
    |_ => .no
   |none => .no
  |.index t x U,some d=>match X.ti t,aJ X env x,aJ X env U with
   |some i,some (.agg M),some ia=>match i.kind,asNat ia with
    |.arr n e,some m=>match X.ti e,Nat.blt m n with
     |some j,true=>match eB (m*j.size) M with
      |some r=>match mK j r with
       |some v => .ok ((d,v)::env) bs us ⟨[],[]⟩
       |none => .no
      |none => .no
     |_,_ => .no
    |_,_ => .no
   |_,_,_ => .no
  |.binOp .eql t x (.const (.slice none 0 0)) _,some d=>match X.ti t,aJ X env x with
   |some i,some a=>match i.kind,Z6 a with
    |.slice _,true => .ok ((d,.c (Nl a))::env) bs us ⟨[],[]⟩
    |_,_ => .no
   |_,_ => .no
  |_,_ => .no
 |_ => .no
section
variable {P:Program}{X:Ctx}{ops:tal}{o:Oper}{rest:L Oper}{env:Env}{acc:L Fp}{Q:Env->St->L Fp->Prop}
 {bs:tab} {ts:tad} {us:Ω}
def ag.PY(hX:cI P X){F}{b:tab}{ω:Ω}{u}(h:PY X ops.toList o env bs us = .ok F b ω u)
  (k:ag P X ops rest F ⟨b,ts,ω⟩ (u::acc) Q):ag P X ops (o::rest) env ⟨bs,ts,us⟩ acc Q:=by
 unfold Go.cE.PY at h;split at h;rename_i N;split at h;rename_i t x d Y A;split at h;rename_i a U;split at h;rename_i cells D;split at h;rename_i V;simp only[QJ.ok.injEq]at h;obtain⟨rfl,rfl,rfl,rfl⟩:=h;exact ag.box kn N Y A U D V k;cases h;cases h;cases h;rename_i t d Y A;split at h;rename_i i H;split at h;rename_i S W;split at h;rename_i cells D;split at h;rename_i V;simp only[QJ.ok.injEq]at h;obtain⟨rfl,rfl,rfl,rfl⟩:=h;exact ag.alloc hX kn N Y A H W D V k;cases h;cases h;cases h;cases h;rename_i t x y Y A;split at h;rename_i i K υ a H O J;split at h;rename_i cells vs T D;split at h;rename_i r E q;split at h;rename_i B p;simp only[QJ.ok.injEq]at h;obtain⟨rfl,rfl,rfl,rfl⟩:=h;exact ag.store hX kn N Y A H O J T D E q p k;cases h;cases h;cases h;cases h;rename_i t τ I d Y A;split at h;rename_i i H;split at h;rename_i e M;split at h;rename_i j G;split at h;rename_i S χ W hp;split at h;rename_i h1 h2 h3;simp only[QJ.ok.injEq]at h;obtain⟨rfl,rfl,rfl,rfl⟩:=h;exact ag.buildSlice hX kn N Y A H M G W hp h1 Z h2 h3 k;cases h;cases h;cases h;cases h;cases h;rename_i t I d Y A;split at h;rename_i i H;split at h;rename_i n e M;split at h;rename_i j z G W;split at h;rename_i r C;simp only[QJ.ok.injEq]at h;obtain⟨rfl,rfl,rfl,rfl⟩:=h;exact ag.IN hX kn N Y A H M G W C k;cases h;cases h;cases h;cases h;rename_i t x ix d Y A;split at h;rename_i i cs ia H O W;split at h;rename_i n e m M V;split at h;rename_i j G T;split at h;rename_i r C;split at h;rename_i v hv;simp only[QJ.ok.injEq]at h;obtain⟨rfl,rfl,rfl,rfl⟩:=h;exact ag.eW hX kn N Y A H M G O W V T C hv k;cases h;cases h;cases h;cases h;cases h;rename_i t x yt d Y A;split at h;rename_i i a H O;split at h;rename_i e M U;simp only[QJ.ok.injEq]at h;obtain⟨rfl,rfl,rfl,rfl⟩:=h;exact ag.Z8 hX kn N Y A H M O U Z k;cases h;cases h;cases h;cases h
def PZ(X:Ctx)(V:L Oper)(o:Oper)(env:Env)(ts:tad)(us:Ω):Option (Nat×Nat×Nat×Nat×Ψ×Ψ×Nat×tad) :=
 match cZ V kn env o with
 |some true=>match o.op,o.dst with
  |.call {callee := .builtin .append,args,argTypes},some d=>match args.toList,argTypes.toList with
   |[S,y],[t,t1]=>match X.ti t,X.ti t1,aJ X env S,aJ X env y with
    |some i,some P,some (.own Y s U),some b=>match i.kind,nB P.kind,pn b with
     |.slice e,true,some (H,b9)=>match X.ti e with
      |some j=>match j.zero,IA s j.size U Y,iu H j.size b9,Nat.ble 1 j.bytes with
       |some _,true,true,true=>match zP d us ts Y with
        |some (K,n)=>match Bs K n ts with
         |some T=>some (d,K,n,j.size,U,b9,j.bytes,T)
         |none=>none
        |none=>none
       |_,_,_,_=>none
      |none=>none
     |_,_,_=>none
    |_,_,_,_=>none
   |_,_=>none
  |_,_=>none
 |_=>none
def ag.PZ(hX:cI P X){d K n sz S F b9 z}(h:PZ X ops.toList o env ts us=some (d,K,n,sz,F,b9,S,z))
  (Y:(F.length+b9.length)*S<=140737488355328)
  (k:ag P X ops rest ((d,.own (.tok K n) sz (F++b9))::env) ⟨bs,z,K::us⟩ (⟨[],[K]⟩::acc) Q):ag P X ops (o::rest) env ⟨bs,ts,us⟩ acc Q:=by
 unfold Go.cE.PZ at h;split at h;rename_i N;split at h;rename_i x A d' U M;split at h;rename_i xs y t t1 C I;split at h;rename_i i i1 ow s QI b H u G E;split at h;rename_i e s1 D B q W;split at h;rename_i j p;split at h;rename_i za r m a T;split at h;rename_i O n' V;split at h;rename_i Bw J;obtain⟨rfl,rfl,rfl,rfl,rfl,rfl,rfl,rfl⟩:=h;exact ag.append hX kn N U C I M H B p r u q G E W Z m a V Z T J Y k;cases h;cases h;cases h;cases h;cases h;cases h;cases h;cases h;cases h
def P0(X:Ctx)(V:L Oper)(o:Oper)(env:Env):Option (Nat×FuncId×Ψ) :=
 match cZ V kn env o with
 |some true=>match o.op,o.dst with
  |.call {callee := .value (.func f),args,argTypes:=_},some d=>match iC (aJ X env) args.toList with
   |some Q=>some (d,f,Q)
   |none=>none
  |.call {callee := .value (.tmp x),args,argTypes:=_},some d=>match aJ X env (.tmp x),iC (aJ X env) args.toList with
   |some (.c (.sX f C)),some Q=>some (d,f,Q++C)
   |_,_=>none
  |_,_=>none
 |_=>none
def ag.P0{σ d f V r}(h:P0 X ops.toList o env=some (d,f,V))(M:aZ P X f V r)
  (k:ag P X ops rest ((d,.c r)::env) σ (⟨[],[]⟩::acc) Q):ag P X ops (o::rest) env σ acc Q:=by
 unfold Go.cE.P0 at h;split at h;rename_i N;split at h;rename_i J S T U Y A;split at h;rename_i W D;obtain⟨rfl,rfl,rfl⟩:=h;exact ag.KU kn N Y A D M k;cases h;rename_i x S T U Y A;split at h;rename_i J C W O D;obtain⟨rfl,rfl,rfl⟩:=h;exact ag.Ht kn N Y A O D M k;cases h;cases h;cases h
def P1(X:Ctx)(V:L Oper)(o:Oper)(env:Env):Option (Nat×Ψ×Int) :=
 match cZ V kn env o with
 |some true=>match o.op,o.dst with
  |.indexAddr t x Y,some d=>match X.ti t,aJ X env x,aJ X env Y with
   |some i,some a,some (.c (.int _ z))=>match i.kind,rowsOf a with
    |.slice e,some (s,U)=>match X.ti e with
     |some j=>match Nat.beq s j.size with
      |true=>some (d,U,z)
      |false=>none
     |none=>none
    |_,_=>none
   |_,_,_=>none
  |_,_=>none
 |_=>none
def ag.P1(hX:cI P X){σ d F z}(h:P1 X ops.toList o env=some (d,F,z))(m:Nat)(W:z=m){r}(B:F[m]?=some r){D}(V:r.cells=D)
  (k:ag P X ops rest ((d,.c (.ip D))::env) σ (⟨[],[]⟩::acc) Q):ag P X ops (o::rest) env σ acc Q:=by
 unfold Go.cE.P1 at h;split at h;rename_i N;split at h;rename_i t x M K Y A;split at h;rename_i i a C J H U T;split at h;rename_i e s E I G;split at h;rename_i j S;split at h;rename_i O;obtain⟨rfl,rfl,rfl⟩:=h;exact ag.index hX N Y A H I S U G O T m W B V k;cases h;cases h;cases h;cases h;cases h;cases h
end
def fh(b):∀(V:L Value)(o)(w:World),(w.setCells b o V).heap.size=w.heap.size/\(w.setCells b o V).os=w.os/\(w.setCells b o V).tape=w.tape/\(w.setCells b o V).output=w.output /\
  ∀k,k≠b->(w.setCells b o V).heap[k]?=w.heap[k]?
 |[],_,w=>⟨Z,Z,Z,Z,λ_ _=>rfl⟩
 |v::r,o,w=>by obtain⟨U,T,B,Y,W⟩:=fh b r (o+1) (w.setCell ⟨b,o,none⟩ v);rw[World.setCells];refine⟨by rw[U];simp,by rw[T];rfl,by rw[B];rfl,by rw[Y];rfl,λk I=>?_⟩;rw[W k I];exact heap_setCell w ⟨b,o,none⟩ v _ I
def eT{b}{Y:L Value}{o}{w:World}(h:∀j,j<Y.length->(w.cell? ⟨b,o+j,none⟩).isSome)(j) :
  (w.setCells b o Y).cell? ⟨b,j,none⟩=if o<=j/\j<o+Y.length then Y[j-o]? else w.cell? ⟨b,j,none⟩:=by
 by_cases A:o<=j/\j<o+Y.length;rw[if_pos A];have:=World.cell?_setCells_in b Y o w h (j-o) ai;simp_all;rw[if_neg A];exact World.cell?_setCells_out b Y o w ⟨b,j,none⟩ (λ_ _=>by show j<o\/o+Y.length<=j;omega)
def dK{b}{Y:L Value}{o}{w:World}(h:∀j,j<Y.length->(w.cell? ⟨b,o+j,none⟩).isSome){j}(G:(w.cell? ⟨b,j,none⟩).isSome) :
  ((w.setCells b o Y).cell? ⟨b,j,none⟩).isSome:=by
 rw[eT h];grind
def oB{P}(w)(S sT C Y)(b o W V)(a)(O N)(J:L Value)(n s)
  (K:P.underlying S=some (.slice Y))(I:(P.info? Y).map (·.size)=some s)(M:n=Nat.min O W)(E:J.length=n*s)
  (U:∀(j) v,J[j]?=some v->w.cell? (a.add j)=some v)(D:∀j,j<J.length->(w.cell? ⟨b,o+j,none⟩).isSome)(hf:∀j,j<J.length->w.frozen? ⟨b,o+j,none⟩=false)(B:∀v∈J,v.oneCell') :
  (Builtin.copy_ #[S,sT] C #[.slice (some ⟨b,o,none⟩) W V,.slice (some a) O N]).run P w = .ok (goInt n) (w.setCells b o J):=by
 have T:=run_firstCells_some (P:=P) w s n a O N J E U;have p:=run_storeCells_cells (P:=P) b o J 0 w (by simpa using D) (by simpa using hf) B;cases F:P.info? Y with
 |none=>simp[F]at I
 |some i =>
  have H:i.size=s:=by simpa[F]using I
  subst M;simp[Builtin.copy_,run_underlying K,Builtin.lenOf,sizeOf,typeInfo,F,H,T,p]
def QK{P}(w){o:Oper}{a}{K:Act->World->Prop}{Q:Exit->Act->World->Prop}(d s)(t W)
  (V:o.op = .call {callee := .builtin .copy,args := #[d,s],argTypes := #[t,W]})(v u)(A:a.eval d=v)(I:a.eval s=u){Y U}
  (G:(Builtin.copy_ #[t,W] o.type #[v,u]).run P w = .ok Y U)(h:K (a.put o.dst Y) U):o.wp P a w K Q:=by
 unfold Oper.wp execOp;simp only[V,resolve,invoke,builtin,Sem.run_bind,Sem.run_pure,Result.andThen_ok,List.map_toArray,ahM,List.map_nil,A,I,G];exact h
def mZ{P}(w){ops}{rest:L Oper}{o a}{Q:Exit->Act->World->Prop}(Y:o.guard=none)(d s)(t W)
  (U:o.op = .call {callee := .builtin .copy,args := #[d,s],argTypes := #[t,W]})(v u)(A:a.eval d=v)(I:a.eval s=u){V T}
  (G:(Builtin.copy_ #[t,W] o.type #[v,u]).run P w = .ok V T)(h:wpList P ops Q rest (a.put o.dst V) T):wpList P ops Q (o::rest) a w :=
 wpList_plain Y λ_ S=>QK w d s t W U v u A I G (S _ _ h)
def xe{P ops o a w}{K:Act->World->Prop}{Q:Exit->Act->World->Prop}{E}
  (N:o.guard=none)(d x)(Y sT)(W:o.op=Op.call {callee:=Callee.builtin Builtin.copy,args := #[d,x],argTypes := #[Y,sT]})
  (v u)(A:a.eval d=v)(O:a.eval x=u){V U}(G:(Builtin.copy_ #[Y,sT] o.type #[v,u]).run P w = .ok V U)(S:K (a.put o.dst V) U) :
  if Region.wanted o (yielded ops a.tmps)=true then Oper.wp P o a w K Q else E:=by
 rw[if_pos (by simp[Region.wanted,N])];exact QK w d x Y sT W v u A O G S
def vT{P}(w)(tS tR e)(ht:P.underlying tS=some (.slice e))(size)(hz:∀w,(Go.sizeOf e).run P w = .ok size w)
  (a b)(la ca lb cb)(hne:a.block≠b.block){u v}(hua:w.cell? ⟨a.block,a.off,none⟩=some u)(hub:w.cell? ⟨b.block,b.off,none⟩=some v)(hfb:∀o,w.frozen? ⟨b.block,o,none⟩=false)(jN:b.spot=none) :
  (Extern.SlicesOverlaps.overlaps #[tS,tS] #[tR] #[.slice (some a) la ca,.slice (some b) lb cb]).run P w = .ok (.bool false) w:=by
 have shp:∀(x:Addr){v:Value},w.cell? ⟨x.block,x.off,none⟩=some v->∃t k,w.shape? x.block=some (t,k+1):=by intro x v hx;unfold World.cell? at hx;unfold World.shape?;split at hx;rename_i c t f hh;simp only at hh hx ⊢;rw[hh];refine⟨t,c.size-1,?_⟩;have:x.off<c.size:=(by grind);simp;omega;cases hx
 obtain⟨tA,kA,hsa⟩:=shp a hua;obtain⟨tB,kB,hsb⟩:=shp b hub;have hnb:(a.block != b.block)=true:=by simpa using hne
 have alx:(a.block==b.block)=false:=by simpa using hne
 have aly:w.frozen? b=false:=by have:=hfb b.off;obtain⟨bb,bo,bs⟩:=b;simp only at jN;subst jN;exact this
 have hfe:=hfb (kB+1)
 change Sem.run P (α:=Value) (do
  let some t := (#[tS, tS] : Array TypeId)[0]? | stuck "slices.overlaps: no parameter types"
  let .slice elem ← underlying t | stuck "slices.overlaps: slice type expected"
  let size<-sizeOf elem
  match (some a:Option Addr),(some b:Option Addr)with
  |some a,some b =>
   if la=0\/lb=0\/size=0 then pure (Value.bool false)
   else if a.block != b.block&&(<- frozen a)&&(<- frozen b)then unsupported .addressObserved
   else do
    if a.block != b.block then do
     noView a;noView b
     if ← mayBeOne a b then return Value.bool ((← choose (.extern "sameAddr.stringBytes" 2)) == 1)
    pure (Value.bool (a.block==b.block&&a.off<b.off+lb*size&&b.off<a.off+la*size))
  |_,_=>pure (Value.bool false)) w=_
 by_cases h0:la=0\/lb=0\/size=0;simp[run_underlying ht,hz,h0];simp[run_underlying ht,hz,h0,hnb,alx,frozen,noView,viewAt,mayBeOne,stringish,shape,Sem.run,hsa,hsb,aly,hfe]
def vU{G}:∀{l Y}(n),cy G l Y->cy G (l.take n) (Y.take n)
 |_,_,0,_=>by simp[cy]
 |[],Y,n+1,h=>by simp only[cy]at h;subst h;simp[cy]
 |c::l,Y,n+1,h=>by obtain⟨u,us,rfl,V,U⟩:=h;exact⟨u,_,rfl,V,vU n U⟩
def vV{G}:∀{l Y}(n),cy G l Y->cy G (l.drop n) (Y.drop n)
 |_,_,0,h=>by simpa using h
 |[],Y,n+1,h=>by simp only[cy]at h;subst h;simp[cy]
 |c::l,Y,n+1,h=>by obtain⟨u,us,rfl,U,V⟩:=h;simpa using vV n V
def qM{G}:∀{l Y},cy G l Y->Y.length=l.length
 |[],Y,h=>by simp only[cy]at h;subst h;rfl
 |c::l,Y,h=>by obtain⟨u,us,rfl,U,V⟩:=h;simp[qM V]
def xh{s l}(h:∀r∈l,r.cells.length=s)(i)(H:i<=l.length):(bD l).take (i*s)=bD (l.take i):=by
 have e:l=l.take i++l.drop i:=(aiD i l).symm;have Y:(bD (l.take i)).length=i*s:=by rw[dL (λr V=>h r (ajR V)),ahZ,alf H]
 rw[e,eg];grind
def xm{s l}(h:∀r∈l,r.cells.length=s)(i)(H:i<=l.length):(bD l).drop (i*s)=bD (l.drop i):=by
 have e:l=l.take i++l.drop i:=(aiD i l).symm;have Y:(bD (l.take i)).length=i*s:=by rw[dL (λr V=>h r (ajR V)),ahZ,alf H]
 rw[e,eg];grind
section
variable {P:Program}{X:Ctx}{ops:tal}{o:Oper}{rest:L Oper}{env:Env}{σ:St}{acc:L Fp}{Q:Env->St->L Fp->Prop}
def ag.tr(hX:cI P X)(kn)(N:cZ ops.toList kn env o=some true){t x W}(V:o.op = .indexAddr t x W){d:Nat}(A:o.dst=some d){i j n e}(H:X.ti t=some i)(I:i.kind = .arr n e)
  (G:X.ti e=some j){K M}(O:aJ X env x=some (.ptr K M)){U}(T:aJ X env W=some U){m}(S:asNat U=some m)(Y:Nat.blt m n)
  (k:ag P X ops rest ((d,.ptr K (M+m*j.size))::env) σ (⟨[],[]⟩::acc) Q):ag P X ops (o::rest) env σ acc Q:=by
 refine ag.look hX kn N A ?_ (by rw[V];rfl) k;rw[V];simp only[gX,H,O,T,S,I,G,Y]
end
def iN{X bs}{env:Env}{t T u:Nat}{i K V}{cells r:Φ}{v a}(H:X.ti T=some i)(O:aJ X env (.tmp t)=some (.ptr K V))(U:au K bs=some cells)
  (Y:eB V cells=some r)(J:mK i r=some v)(p:au u env=some a):nh X bs env [.cell t T,.tmp u]=some (.eK [v,a]):=by
 have S:gX X bs (aJ X env) (.load T (.tmp t))=some v:=by simp only[gX,H,O,U,Y,J]
 simp only[nh,sZ,S,p]
def Ax:∀l,rL (l.map AV.c)=some l
 |[]=>rfl
 |c::l=>by simp only[ahM,rL,close,Ax l]
def Lh{Y}:∀l:List Y,takeN l.length l=some l
 |[]=>rfl
 |x::l=>by simp only[aat,takeN,Lh l]
def En{Y}:∀(a b:List Y),takeN a.length (a++b)=some a
 |[],_=>rfl
 |x::a,b=>by simp only[aat,ahk,takeN,En a b]
def j6{Y}:∀(a b:List Y),eB a.length (a++b)=some b
 |[],_=>rfl
 |x::a,b=>by simp only[aat,ahk,eB,j6 a b]
def ni{V}:∀(m n)(l r s:List V),eB m l=some r->eB n r=some s->eB (m+n) l=some s
 |0,n,l,r,s,Y,h2=>by simp only[eB]at Y;cases Y;rw[ahr];exact h2
 |m+1,n,[],r,s,Y,h2=>by simp only[eB]at Y;cases Y
 |m+1,n,x::l,r,s,Y,h2=>by rw[Nat.add_right_comm];exact ni m n l r s Y h2
def zF:∀a b,a.length=b.length->bQ 0 a b=some a
 |[],[],_=>rfl
 |[],_::_,h=>by simp at h
 |_::_,[],h=>by simp at h
 |x::a,y::b,h=>by simp only[bQ,zF a b nu]
def Ie x:∀(a)(y)(b:Φ),bQ a.length [x] (a++y::b)=some (a++x::b)
 |[],y,b=>by cases b<;>simp only[aav,aiR,bQ]
 |z::a,y,b=>by simp only[aat,ahk,bQ,Ie x a y b]
def Di(bs:tab):St:=⟨bs,[],bs.map (·.1)⟩
def HR(β:lu)(r:AV)(I:tab):Ending->World->Prop:=λe V =>
 ∃u Y,e = .returned u/\aX Y r u/\Inv V Y (Di I)/\jv β.w β.g β.σ V Y (Di I)
def cA(P:Program)(X:Ctx)(f:FuncId)(u:tab)(Y:Φ)(r:AV)(I:tab):Prop :=
 Enters P f/\∀(g:Gh)(w:World)(V:L Value),Inv w g (Di u)->rR X g.G->cn g Y V->Calls P f V.toArray w (HR ⟨w,g,Di u⟩ r I)
mutual
def AV.rn(ψ:Nat->Nat):AV->AV
 |.ptr k o => .ptr (ψ k) o
 |.iI k o s n => .iI (ψ k) o s n
 |.agg l => .agg (SB ψ l)
 |.eK l => .eK (SB ψ l)
 |.c v => .c v
 |.own k s Y => .own k s Y
 |.any => .any
def SB(ψ:Nat->Nat):Φ->Φ
 |[]=>[]
 |a::l=>a.rn ψ::SB ψ l
end
mutual
def WX(us:Ω):AV->Bool
 |.own (.tok _ _) _ _=>false
 |.ptr k _=>mem k us
 |.iI k _ _ _=>mem k us
 |.agg l=>xC us l
 |.eK l=>xC us l
 |.own .exact _ _=>true
 |.c _=>true
 |.any=>true
def xC(us:Ω):Φ->Bool
 |[]=>true
 |a::l=>both (WX us a) (xC us l)
end
def Bm ψ:∀l:Ψ,SB ψ (l.map AV.c)=l.map AV.c
 |[]=>rfl
 |c::l=>by simp only[ahM,SB,AV.rn,Bm ψ l]
def vA us:∀l:Ψ,xC us (l.map AV.c)
 |[]=>rfl
 |c::l=>by simp only[ahM,xC,WX,both,vA us l]
section
variable {g g1:Gh}{us:Ω}{ψ:Nat->Nat}
mutual
def Z9(K:g1.G=g.G)(h:∀k,mem k us->g1.box (ψ k)=g.box k/\g1.room (ψ k)=g.room k):∀{a:AV}{u:Value},WX us a->aX g a u->aX g1 (a.rn ψ) u/\(a.one->(a.rn ψ).one)
 |.c v,u,_,V=>by simp only[AV.rn,aX,K]at V ⊢;exact⟨V,id⟩
 |.own .exact s U,u,_,V=>by simp only[AV.rn,aX,K]at V ⊢;exact⟨V,id⟩
 |.own (.tok _ _) s U,u,Y,_=>by simp[WX]at Y
 |.ptr k o,u,Y,V=>by simp only[AV.rn,aX,(h k Y).1]at V ⊢;exact⟨V,λ_=>rfl⟩
 |.iI k o s n,u,Y,V=>by simp only[AV.rn,aX,(h k Y).1,(h k Y).2]at V ⊢;exact⟨V,λ_=>rfl⟩
 |.any,u,_,V=>by simp only[aX]at V ⊢;exact⟨V,id⟩
 |.agg l,u,Y,V=>by obtain⟨S,e,T,O⟩:=V;obtain⟨B,W⟩:=TG K h Y T;exact⟨⟨S,e,B,W O⟩,λh=>by simp[AV.one]at h⟩
 |.eK l,u,Y,V=>by obtain⟨S,e,T,O⟩:=V;obtain⟨B,W⟩:=TG K h Y T;refine⟨⟨S,e,B,?_⟩,λh=>by simp[AV.one]at h⟩;rw[(cn.get B).1,<- (cn.get T).1];exact O
def TG(K:g1.G=g.G)(h:∀k,mem k us->g1.box (ψ k)=g.box k/\g1.room (ψ k)=g.room k):∀{l:Φ}{T:L Value},xC us l->cn g l T->cn g1 (SB ψ l) T/\(l.all AV.one->(SB ψ l).all AV.one)
 |[],T,_,V=>by simp only[cn]at V ⊢;exact⟨V,id⟩
 |a::l,T,Y,V=>by obtain⟨J,I⟩:=eG Y;simp only[SB,cn]at V ⊢;obtain⟨u,S,e,O,N⟩:=V;obtain⟨B,W⟩:=Z9 K h J O;obtain⟨U,M⟩:=TG K h I N;grind
end
def QL{w b}(K:g1.G=g.G)(h:∀k,mem k us->g1.box (ψ k)=g.box k/\g1.room (ψ k)=g.room k):∀{l o},xC us l->cC w g b o l->cC w g1 b o (SB ψ l)
 |[],_,_,_=>trivial
 |a::l,o,ho,⟨⟨u,B,Y,W⟩,c4,c5⟩=>by obtain⟨J,I⟩:=eG ho;obtain⟨A,Q⟩:=Z9 K h J Y;exact⟨⟨u,B,A,Q W⟩,c4,QL K h I c5⟩
end
def lK{Y:Type}:Ω->L (Nat×Y)->L (Nat×Y)
 |[],l=>l
 |k::V,l=>Gs k (lK V l)
def uZ{Y j}:∀{ks}{l:L (Nat×Y)},au j (lK ks l)=if j∈ks then none else au j l
 |[],l=>by simp[lK]
 |k::ks,l=>by simp only[lK,l9,uZ (ks:=ks)];grind
def Dj{Y j}:∀{a b:L (Nat×Y)},au j (a++b)=match au j a with
  |some v=>some v
  |none=>au j b
 |[],b=>rfl
 |(k,v)::a,b=>by simp only[ahk,ak,Dj (a:=a)];split<;>rfl
def QM(V:Ω)(nb:tab)(Y:Ω)(σ:St):St:=⟨nb++lK V σ.boxes,σ.toks,Y++σ.used⟩
def su(V nb Y):jf (QM V nb Y) ⟨[],V++nb.map (·.1)++Y⟩ where
 out:=λσ k I=>by simp only[ahj,not_or]at I;refine⟨?_,Z,?_⟩;simp only[QM,Dj,sP I.1.2,uZ,if_neg I.1.1];simp only[QM];simp_all
 same:=λσ p h k I=>by obtain⟨U,T,B⟩:=h k (.inr I);refine⟨?_,T,?_⟩;simp only[QM,Dj,uZ,U];simp only[QM,ahj,B]
structure HOk(bs:List (Nat×List AV))(us:List Nat)(bi bo:List (Nat×List AV))(bx po:List (Nat×Nat))(ψ:Nat->Nat)(nb:List (Nat×List AV)):Prop where
 d2:distinct (bx.map (·.2))=true
 keys:∀k kk,au k bx=some kk->k∈bi.map (·.1)/\∃cs,au kk bs=some cs
 cells:∀ts k cs,au k bi=some cs->∃old oc,au k bx=some old/\au old bs=some oc/\fT ⟨λk=>au k bx,λ_=>none⟩ ts cs oc
 nb:∀ck cs',au ck nb=some cs'->∃ok cs,au ck po=some ok/\au ok bo=some cs/\cs'=SB ψ cs
 psi:∀ck ok,au ck po=some ok->ψ ok=ck
 outs:∀k,mem k (bo.map (·.1))=true->∃ck,au ck po=some k
 kept:∀ck ok,au ck po=some ok->(1000000<=ok/\au ok bx=some ck/\au ok bo≠none)\/(ck ∉ us/\ck<1000000)
 names:∀ok cs,au ok bo=some cs->xC (bo.map (·.1)) cs=true
def aiv{w w' g z σ}(W:Inv w g σ){a q:tab}{bx r:tad}{ψ:Nat->Nat}{nb:tab}
  (C:HOk σ.boxes σ.used a q bx r ψ nb)(m:Inv w' z (Di q))(I:jv w (g.gK ⟨λk=>au k bx,λ_=>none⟩) (Di a) w' z (Di q)) :
  let g1:Gh:=⟨z.G,λk=>match au k r with|some ok=>z.box ok|none=>g.box k,g.tok,λk=>match au k r with|some ok=>z.room ok|none=>g.room k⟩;let Pa:=QM (bx.map (·.2)) nb (r.map (·.1)) σ
  Inv w' g1 Pa/\jv w g σ w' g1 Pa/\g.le g1/\∀k,mem k (q.map (·.1))->g1.box (ψ k)=z.box k/\g1.room (ψ k)=z.room k:=by
 intro g1 Pa;have π:∀k b,(g.gK ⟨λk=>au k bx,λ_=>none⟩).box k=some b->∃V,au k bx=some V/\g.box V=some b:=by intro k b e;simp only[Gh.gK]at e;grind
 have ο:(g.gK ⟨λk=>au k bx,λ_=>none⟩).G=g.G:=rfl;have own:∀b o,ko (g.gK ⟨λk=>au k bx,λ_=>none⟩) (Di a) b o->∃V E,V∈bx.map (·.2)/\au V σ.boxes=some E/\g.box V=some b:=by rintro b o (⟨k,F,A,Q⟩|⟨k,n,lo,hi,A,_⟩);obtain⟨V,T,f2⟩:=π k b Q;obtain⟨_,E,f3⟩:=C.keys k V T;exact⟨V,E,List.mem_map.2 ⟨_,eu T,Z⟩,f3,f2⟩;simp[Di,au]at A
 have LA:∀b o,ko (g.gK ⟨λk=>au k bx,λ_=>none⟩) (Di a) b o->ko g σ b o:=by intro b o h;obtain⟨V,E,_,A,Q⟩:=own b o h;exact .inl ⟨V,E,A,Q⟩
 have ξ:∀k ok F,au k r=some ok->au k σ.boxes=some F->k∈bx.map (·.2):=by
  intro k ok F A Q;rcases C.kept k ok A with ⟨_,h,_⟩|⟨h,_⟩
  exact List.mem_map.2 ⟨_,eu h,Z⟩;obtain⟨b,U,_⟩:=W.box k F Q;exact absurd (W.used k (.inl (by rw[U];simp))) h
 have i:∀k F,au k Pa.boxes=some F->(∃ok Y,au k r=some ok/\au ok q=some Y/\F=SB ψ Y)\/(au k r=none/\k ∉ bx.map (·.2)/\au k σ.boxes=some F):=by
  intro k F e;simp only[Pa,QM,Dj]at e;cases hn:au k nb with
  |some v =>
   rw[hn]at e;simp at e;subst e;exact .inl (C.nb k v hn)
  |none =>
   rw[hn]at e;simp only[uZ]at e;split at e;simp at e;rename_i CU;refine .inr ⟨?_,CU,e⟩;cases hp:au k r with
   |none=>rfl
   |some ok=>exact absurd (ξ k ok F hp e) CU
 have υ:∀k,mem k (q.map (·.1))->g1.box (ψ k)=z.box k/\g1.room (ψ k)=z.room k:=by intro k ν;obtain⟨ck,y⟩:=C.outs k ν;have t:=C.psi ck k y;subst t;simp only[g1,y,and_self]
 have Z2:∀k F b,k ∉ bx.map (·.2)->au k σ.boxes=some F->g.box k=some b->∀o,¬ko (g.gK ⟨λk=>au k bx,λ_=>none⟩) (Di a) b o:=by intro k F b A Q U o j;obtain⟨V,E,T,f2,f3⟩:=own b o j;have:=W.gR k V F E b Q f2 U f3;subst this;exact A T
 have ω:∀k ok,au k r=some ok->(∃b,g.box k=some b)->z.box ok=g.box k/\z.room ok=g.room k:=by
  intro k ok e ⟨b,U⟩;rcases C.kept k ok e with ⟨y,t,B⟩|⟨y,_⟩
  obtain⟨_,h4,h5⟩:=I.ids ok y (by simpa[Di]using B);simp only[Gh.gK,t]at h4 h5;exact⟨h4,h5⟩;exact absurd (W.used k (.inl (by rw[U];simp))) y
 have χ:g.le g1:=by refine⟨λb o v h=>I.le b o v h,λk b h=>?_,λk b h=>?_,λk hw iy h=>⟨hw,iy,h,acd _,λ_=>rfl⟩⟩;simp only[g1];split;rename_i ok e;rw[(ω k ok e ⟨b,h⟩).1];exact h;exact h;simp only[g1];split;rename_i ok e;exact(ω k ok e ⟨b,h⟩).2;rfl
 have S:∀b o,b<w.heap.size->¬ko (g.gK ⟨λk=>au k bx,λ_=>none⟩) (Di a) b o->g.G b o=none->z.G b o=none:=by
  intro b o U p h;cases hg:z.G b o with
  |none=>rfl
  |some v =>
   rcases I.new b o v hg with P|P|P
   rw[ο,h]at P;simp at P;omega;exact absurd P p
 have μ:∀k n b lo hi,au k σ.toks=some n->g.tok k=some (n,some (b,lo,hi))->∀o,¬ko (g.gK ⟨λk=>au k bx,λ_=>none⟩) (Di a) b o:=by intro k n b lo hi e A o j;obtain⟨iy,T,f2⟩:=W.tok k n e;rw[A]at T;simp at T;subst T;obtain⟨V,E,_,Q,e3⟩:=own b o j;exact(f2 b lo hi Z).2.2 V E Q e3
 have O:∀ok Y b,au ok q=some Y->z.box ok=some b->w.heap.size<=b\/∃V E,V∈bx.map (·.2)/\au V σ.boxes=some E/\g.box V=some b:=by
  intro ok Y b A Q;rcases I.boxes ok Y b (by simpa[Di]using A) Q with h|⟨k0,κ,y,t⟩
  exact .inl h;exact .inr (own b 0 (.inl ⟨k0,κ,y,t⟩))
 have τ:∀k F b,au k σ.boxes=some F->g.box k=some b->b<w.heap.size/\(∀o,g.G b o=none)/\cC w g b 0 F:=by intro k F b e U;obtain⟨b',T,f2,f3,f4⟩:=W.box k F e;rw[U]at T;cases T;exact⟨f2,f3,f4⟩
 have ρ:∀k F ok Y b b',k ∉ bx.map (·.2)->au k σ.boxes=some F->g.box k=some b->au ok q=some Y->z.box ok=some b'->b≠b':=by
  rintro k F ok Y b b' A Q e3 e4 e5 rfl;rcases O ok Y b e4 e5 with h|⟨V,E,y,t,B⟩
  have:=(τ k F b Q e3).1;omega;have:=W.gR k V F E b Q t e3 B;subst this;exact A y
 refine⟨⟨m.rS,?_,?_,?_,?_,?_,?_⟩,⟨I.os,I.tape,I.output,I.size,λb U p=>I.block b U (λo j=>p o (LA b o j)),λb o U p=>I.kept b o U (λj=>p (LA b o j)),χ.1,?_,?_,?_,?_⟩,χ,υ⟩
 ·intro k F e;rcases i k F e with ⟨ok,Y,A,Q,rfl⟩|⟨H,A,Q⟩
  obtain⟨b,T,f2,f3,f4⟩:=m.box ok Y (by simpa[Di]using Q);exact⟨b,by simp only[g1,A];exact T,f2,f3,QL (g:=z) (g1:=g1) (us:=q.map (·.1)) (show z.G=z.G from Z) υ (C.names ok Y Q) f4⟩;obtain⟨b,b1,b2,b3,b4⟩:=W.box k F Q;have p:=Z2 k F b A Q b1;exact⟨b,by simp only[g1,H];exact b1,aja b2 I.size,λo=>S b o b2 (p o) (b3 o),(cC.of_same (λo=>I.kept b o b2 (p o)) b4).mono χ⟩
 ·intro k d F E b e e' f x;simp only[g1]at f x;rcases i k F e with ⟨ok,Y,A,Q,_⟩|⟨H,A,Q⟩
  ·rw[A]at f;rcases i d E e' with ⟨N,M,D,K,_⟩|⟨J,D,K⟩
   rw[D]at x;have:=m.gR ok N Y M b (by simpa[Di]using Q) (by simpa[Di]using K) f x;subst this;rw[<- C.psi k ok A,<- C.psi d ok D];rw[J]at x;exact absurd Z (ρ d E ok Y b b D K x Q f)
  rw[H]at f;rcases i d E e' with ⟨N,M,D,K,_⟩|⟨J,D,K⟩
  rw[D]at x;exact absurd Z (ρ k F N M b b A Q f K x);rw[J]at x;exact W.gR k d F E b Q K f x
 ·intro k n e;obtain⟨iy,y,t⟩:=W.tok k n e;refine⟨iy,y,λb lo hi hr=>?_⟩;obtain⟨B,h4,h5⟩:=t b lo hi hr;subst hr;refine⟨aja B I.size,λo P6 Te=>?_,λd F e' x=>?_⟩;obtain⟨h6,⟨u,h7⟩,h8⟩:=h4 o P6 Te;have p:=μ k n b lo hi e y o;exact⟨S b o B p h6,⟨u,(I.kept b o B p).1.trans h7⟩,(I.kept b o B p).2.trans h8⟩;simp only[g1]at x;rcases i d F e' with ⟨N,M,D,K,_⟩|⟨J,D,K⟩
  ·rw[D]at x;rcases O N M b K x with h|⟨V,E,η,ι,θ⟩
   omega;exact h5 V E ι θ
  rw[J]at x;exact h5 d F K x
 exact W.iX
 ·intro k e;show k∈r.map (·.1)++σ.used;simp only[g1]at e;rw[ahj];cases hp:au k r with
  |some ok=>exact .inl (List.mem_map.2 ⟨_,eu hp,Z⟩)
  |none =>
   rw[hp]at e;exact .inr (W.used k e)
 ·intro k F b e f o;simp only[g1]at f ⊢;rcases i k F e with ⟨ok,Y,A,Q,_⟩|⟨H,A,Q⟩
  rw[A]at f ⊢;exact m.room ok Y b (by simpa[Di]using Q) f o;rw[H]at f ⊢;have p:=Z2 k F b A Q f o;have b2:=(τ k F b Q f).1;obtain⟨q1,q2⟩:=W.room k F b Q f o;exact⟨λj=>(q1 j).imp λu hu=>(I.kept b o b2 p).1.trans hu,(I.kept b o b2 p).2.trans q2⟩
 ·intro b o v h;rcases I.new b o v h with P|P|P
  exact .inl P;exact .inr (.inl P);exact .inr (.inr (LA b o P))
 ·intro k F b e f;simp only[g1]at f;rcases i k F e with ⟨ok,Y,A,Q,_⟩|⟨H,A,Q⟩
  ·rw[A]at f;rcases O ok Y b Q f with h|⟨V,E,y,t,B⟩
   exact .inl h;exact .inr ⟨V,E,t,B⟩
  rw[H]at f;exact .inr ⟨k,F,Q,f⟩
 intro k n b lo hi e A;exact .inr ⟨k,n,lo,hi,e,A,acd _,acd _⟩;intro k He e;cases hc:au k Pa.boxes with
 |none=>exact absurd hc e
 |some F =>
  rcases i k F hc with ⟨ok,Y,A,Q,_⟩|⟨H,A,Q⟩
  ·rcases C.kept k ok A with ⟨y,t,B⟩|⟨_,t⟩
   obtain⟨_,E,h4⟩:=C.keys ok k t;obtain⟨b,U,_⟩:=W.box k E h4;obtain⟨q1,q2⟩:=ω k ok A ⟨b,U⟩;exact⟨by rw[h4];simp,by simp only[g1,A];exact q1,by simp only[g1,A];exact q2⟩;omega
  exact⟨by rw[Q];simp,by simp only[g1,H],by simp only[g1,H]⟩
section
variable {P:Program}{X:Ctx}
def bR.CH{o}{env:Env}{σ f args T}(N:o.op = .call {callee := .value (.func f),args:=args,argTypes:=T})
  {l}(E:ir (aJ X env) args.toList=some l){U I K r}(F:cA P X f U K r I){bx po:tad}{ψ:Nat->Nat}{nb:tab}
  (G:∀ts,fT ⟨λk=>au k bx,λ_=>none⟩ ts K l)(C:∀bs us,(∀k∈bx.map (·.2),au k bs=au k σ.boxes)->(∀k∈po.map (·.1),k∈us↔k∈σ.used)->HOk bs us U I bx po ψ nb)(y:WX (I.map (·.1)) r) :
  bR P X o env σ (r.rn ψ) (QM (bx.map (·.2)) nb (po.map (·.1))) ⟨[],bx.map (·.2)++nb.map (·.1)++po.map (·.1)⟩:=by
 intro t p w g a next Q j z W J i q;have V:=C p.boxes p.used (λk M=>(z k (.inr (by simp only[ahj];exact .inl (.inl M)))).1) (λk M=>(z k (.inr (by simp only[ahj];exact .inr M))).2.2);have d:∀x∈args.toList,x∈o.op.operands.toList:=by intro x O;rw[N];simp only[Op.operands,Call.operands,aiu,ahj];exact .inr O
 have b:ir (aJ X t) args.toList=some l:=by rw[xR _ (λx O=>j x (d x O))];exact E
 have gP:=EH (g:=g) (ev:=a.eval) (λx v O=>cz i J O) b;have Y:(execOp a.eval o).run P w = .ok (.enter f (args.map a.eval)) w:=by obtain⟨ω,op,H,pos,S,guard⟩:=o;subst N;simp[execOp,resolve,Deferred.ofValue,invoke,Act.eval,F.1 _ w]
 unfold Oper.wp;rw[Y,Oper.upon_enter]
 have A:=(W.gK ⟨λk=>au k bx,λ_=>none⟩ (Di U) (λk cs e=>by
   obtain⟨B,oc,e1,e2,e3⟩:=V.cells p.toks k cs e;exact⟨B,oc,e1,e2,e3⟩) (λk k' B e e'=>pq V.d2 (eu e) (eu e')) (λk n e=>by simp[Di,au]at e) (λk k' m m' B e=>by simp at e) (λk e=>by
   simp at e;cases D:au k bx with
   |none=>exact absurd D e
   |some kk=>exact(V.keys k kk D).1)).1
 have:=F.2 (g.gK ⟨λk=>au k bx,λ_=>none⟩) w (args.toList.map a.eval) A J (zQ (qX W) (G p.toks) gP).1;rw[show(args.toList.map a.eval).toArray=args.map a.eval from by rw[<- ajp]]at this;refine this.mono ?_;rintro e w' ⟨u,g',rfl,h3,h4,h5⟩;obtain⟨k1,k2,k3,k4⟩:=aiv W V h4 h5;refine q u w' _ ?_ k1 k2 k3;exact(Z9 (g:=g') (us:=I.map (·.1)) UK k4 y h3).1
end
def cA.of{P X f K c Y I F r}(hf:P.funcs[f]?=some K)(O:K.body=some c)(N:Enters P f)
  (E:F.length<=K.ntmps)(env)(σ)(M:env=(F.zipIdx.map λ(v,i)=>(i,v)))(p:Di Y=σ)
  (h:∀β,AK P X f K.ntmps β (HR β r I) [.code c] env σ):cA P X f Y F r I:=by
 subst p;refine⟨N,λg w z W B A x=>?_⟩;have Q:=(cn.get A).1;have q:Live X ⟨w,g,Di Y⟩ K.ntmps env (Di Y) g w {tmps:=z.toArray++Array.replicate (K.ntmps-z.toArray.size) undef,defers:=[]}:=by
  refine⟨W,B,?_,jv.refl _ _ _,?_,Z⟩
  ·intro t a e;subst M;have U:∀(l:Φ)(us:L Value)(k:Nat),cn g l us->au t ((l.zipIdx k).map λ(v,i)=>(i,v))=some a->k<=t/\∃u,us[t-k]?=some u/\aX g a u:=by
    intro l
    induction l with
    |nil=>intro us k _ e;simp[au]at e
    |cons v l D =>
     intro us k G e;obtain⟨u,us,rfl,y,j⟩:=G;simp only[ajE,ahM,ak]at e;grind
   obtain⟨_,u,V,T⟩:=U F z 0 A e;simp at V;have S:t<z.length:=(List.getElem?_eq_some_iff.1 V).1;have:(z.toArray++Array.replicate (K.ntmps-z.toArray.size) undef).getD t undef=u:=(by rw[ajf,aif ags];simp[V]);rw[this];exact T
  simp;omega
 obtain⟨e,m,C,y,V,T,J⟩:=h ⟨w,g,Di Y⟩ g w _ x q;have H:Frame.enter P f z.toArray .normal =
   (top f).at {tmps:=z.toArray++Array.replicate (K.ntmps-z.toArray.size) undef,defers:=[]} [.code c]:=by
  simp[Frame.enter,Frame.at,hf,O,top]
 exact⟨_,m,C,y,by rw[H];exact V,T,J⟩
def Bh:Φ->AV
 |[] => .c .undef
 |[x]=>x
 |l => .eK l
def zn(bx:tad)(Y:Ω):Bool:=both (distinct (bx.map (·.2))) (both (Lw bx) (IE Y (iB bx)))
section
variable {P:Program}{X:Ctx}{f:FuncId}{n:Nat}{β:lu}{K:L Item}{env:Env}
def AK.IS(M:(∃T,K = .code .ret::T)\/K=[])(hX:cI P X){V}(hf:P.funcs[f]?=some V){bs ts}{us:Ω}{l}(G:sZ X bs env V.results.toList=some l)(bx){r I}
  (D:zn bx (iB I))(U:Conv ⟨λk=>au k bx,λ_=>none⟩ ts r (Go.cE.Bh l))(W:Lu ⟨λk=>au k bx,λ_=>none⟩ ts bs I):AK P X f n β (HR β r I) K env ⟨bs,ts,us⟩:=by
 intro g w a t q;obtain⟨J,D⟩:=eG D;obtain⟨H,S⟩:=eG D;rw[nC]at S;obtain⟨u,Q,Y⟩:=sC hX q G;obtain⟨O,N⟩:=q.inv.gK ⟨λk=>au k bx,λ_=>none⟩ (Di I) (λk cells e=>wN W k cells e) (λk z B A E=>pq J (eu A) (eu E))
  (λk n e=>by simp[Di,au]at e) (λk z m p B e=>by simp at e) (λk e=>by
   simp at e;have:=wM S k (by rw[nC];exact qh e)
   exact this)
 suffices F:aX (g.gK ⟨λk=>au k bx,λ_=>none⟩) r u/\∀k,1000000<=k->au k (Di I).boxes≠none->au k bx=some k by
  rcases M with ⟨T,rfl⟩|rfl
  exact⟨.returned u,w,_,⟨u,_,Z,F.1,O,q.frame.trans (N F.2)⟩,.one step_ret,Z,Z,q.defers,Z,V,hf,Q⟩;exact⟨.returned u,w,_,⟨u,_,Z,F.1,O,q.frame.trans (N F.2)⟩,.one step_end,Z,Z,q.defers,Z,V,hf,Q⟩
 refine⟨?_,λk C e=>?_⟩
 ·refine(uV (qX q.inv) U ?_).1
  match l,G,Y with
  |[],_,Y=>simp only[Go.cE.Bh];exact Y
  |[x],_,Y=>exact Y
  |x::y::r,_,Y=>exact Y
 cases D:au k (Di I).boxes with
 |none=>exact absurd D e
 |some c =>
  obtain⟨B,j,q1,i,_⟩:=wN W k c D;have:=AR H k B C q1;simp_all
def AK.Bh(hX:cI P X){V}(hf:P.funcs[f]?=some V){bs ts}{us:Ω}{l}(G:sZ X bs env V.results.toList=some l)(bx){r I}
  (D:zn bx (iB I))(Y:Conv ⟨λk=>au k bx,λ_=>none⟩ ts r (Go.cE.Bh l))(W:Lu ⟨λk=>au k bx,λ_=>none⟩ ts bs I):AK P X f n β (HR β r I) (.code .ret::K) env ⟨bs,ts,us⟩ :=
 AK.IS (.inl ⟨_,Z⟩) hX hf G bx D Y W
end
structure MC(c:Nat->Nat->List AV):Prop where
 conv:∀(ρ:Ren)(ts:List (Nat×Nat))(a b a' b':Nat),ρ.bx a=some a'->ρ.bx b=some b'->fT ρ ts (c a b) (c a' b')
 rn:∀(ψ:Nat->Nat)(a b:Nat),SB ψ (c a b)=c (ψ a) (ψ b)
 ok:∀(us:List Nat)(a b:Nat),mem a us=true->mem b us=true->xC us (c a b)=true
abbrev mI(c:Nat->Nat->L AV)(s f:L CV):L (Nat×L AV):=[(1000000,c 1000001 1000002),(1000001,s.map AV.c),(1000002,f.map AV.c)]
abbrev mO(c:Nat->Nat->L AV)(s f:L CV):L (Nat×L AV):=[(1000000,c 999991 999992),(999991,s.map AV.c),(999992,f.map AV.c)]
abbrev mI1(c:Nat->Nat->L AV)(f:L CV):L (Nat×L AV):=[(1000000,c 0 1000002),(1000002,f.map AV.c)]
abbrev mO1(c:Nat->Nat->L AV)(f:L CV):L (Nat×L AV):=[(1000000,c 0 999992),(999992,f.map AV.c)]
def Gf(Y T V:Nat)(k:Nat):Nat:=match Nat.beq k 1000000 with
 |true=>Y
 |false=>match Nat.beq k 999991 with
  |true=>T
  |false=>match Nat.beq k 999992 with
   |true=>V
   |false=>k
def zT(us:Ω)(U Y S T V:Nat):Bool :=
 both (distinct [U,Y,S]) (both (distinct [U,T,V]) (both (match mem T us with|true=>false|false=>true) (both (match mem V us with|true=>false|false=>true) (both (Nat.blt T 1000000) (Nat.blt V 1000000)))))
def Dk(us:Ω)(V U Y:Nat):Bool:=both (distinct [V,U]) (both (distinct [V,Y]) (both (match mem Y us with|true=>false|false=>true) (Nat.blt Y 1000000)))
theorem EO{a b c}(h:distinct [a,b,c]):a≠b/\a≠c/\b≠c:=by simp only[distinct]at h;split at h;grind;rename_i V;split at h;grind;rename_i U;have B:=cX V;have Y:=cX U;simp_all
def alD{bs us}{c y:Nat->Nat->Φ}(D:MC c)(O:MC y){s f V x:Ψ}{F W z T A}(Y:zT us F W z T A)
  (t:au F bs=some (c W z))(r:au W bs=some (s.map AV.c))(B:au z bs=some (f.map AV.c)) :
  HOk bs us (mI c s f) (mO y V x) [(1000000,F),(1000001,W),(1000002,z)] [(F,1000000),(T,999991),(A,999992)] (Gf F T A) [(F,y T A),(T,V.map AV.c),(A,x.map AV.c)]:=by
 unfold zT at Y;obtain⟨G,Y⟩:=eG Y;obtain⟨N,Y⟩:=eG Y;obtain⟨M,Y⟩:=eG Y;obtain⟨K,Y⟩:=eG Y;obtain⟨C,u⟩:=eG Y;have U:mem T us=false:=by split at M<;>simp_all
 have S:mem A us=false:=by split at K<;>simp_all
 obtain⟨q,Q,n3⟩:=EO N;refine⟨G,?_,?_,?_,?_,?_,?_,?_⟩;intro k J e;simp only[ak]at e;split at e;simp_all;split at e;simp_all;split at e;simp_all;simp[au]at e;intro ts k m e;simp only[ak]at e;split at e;simp at e;subst_vars;exact⟨F,_,fo,t,D.conv _ _ _ _ _ _ fo fo⟩;split at e;simp at e;subst_vars;exact⟨W,_,fo,r,cO _⟩;split at e;simp at e;subst_vars;exact⟨z,_,fo,B,cO _⟩;simp[au]at e;intro P E e;simp only[ak]at e;split at e;simp at e;subst_vars;exact⟨1000000,y 999991 999992,fo,fo,by rw[O.rn];rfl⟩;split at e;simp at e;subst_vars;exact⟨999991,V.map AV.c,by simp[ak,Ne.symm q],fo,afD⟩;split at e;simp at e;subst_vars;exact⟨999992,x.map AV.c,by simp[ak,Ne.symm Q,Ne.symm n3],fo,afD⟩;simp[au]at e;intro P ok e;simp only[ak]at e;split at e;simp at e;subst_vars;rfl;split at e;simp at e;subst_vars;rfl;split at e;simp at e;subst_vars;rfl;simp[au]at e
 ·intro k I;have p:=mem_iff.1 I;simp at p;rcases p with rfl|rfl|rfl
  exact⟨F,fo⟩;exact⟨T,by simp[ak,Ne.symm q]⟩;exact⟨A,by simp[ak,Ne.symm Q,Ne.symm n3]⟩
 intro P ok e;simp only[ak]at e;split at e;simp at e;subst_vars;exact .inl ⟨acd _,fo,fo⟩;split at e;simp at e;subst_vars;exact .inr ⟨cX U,Nat.blt_eq.mp C⟩;split at e;simp at e;subst_vars;exact .inr ⟨cX S,Nat.blt_eq.mp u⟩;simp[au]at e;intro ok m e;simp only[ak]at e;split at e;simp at e;subst_vars;exact O.ok _ _ _ Z Z;split at e;simp at e;subst_vars;exact vA _ _;split at e;simp at e;subst_vars;exact vA _ _;simp[au]at e
def aiy{bs us}{c C:Nat->Nat->Φ}(D:MC c)(O:MC C)(I:∀y ts b U,y.bx b=some U->fT y ts (c 0 b) (c 0 U))(W:∀us b,mem b us->xC us (C 0 b))(Q:∀a b,C a b=C 0 b){f z:Ψ}{J A F}(Y:Dk us J A F)
  (x:au J bs=some (c 0 A))(B:au A bs=some (f.map AV.c)) :
  HOk bs us (mI1 c f) (mO1 C z) [(1000000,J),(1000002,A)] [(J,1000000),(F,999992)] (Gf J (F+1) F) [(J,C 0 F),(F,z.map AV.c)]:=by
 obtain⟨G,Y⟩:=eG Y;obtain⟨T,Y⟩:=eG Y;obtain⟨N,u⟩:=eG Y;have V:mem F us=false:=by split at N<;>simp_all
 have S:J≠F:=by simp only[distinct]at T;split at T;grind;rename_i h;have:=cX h;simp at this;exact this
 refine⟨G,?_,?_,?_,?_,?_,?_,?_⟩;intro k K e;simp only[ak]at e;split at e;simp_all;split at e;simp_all;simp[au]at e;intro ts k t e;simp only[ak]at e;split at e;simp at e;subst_vars;exact⟨J,_,fo,x,I _ _ _ _ fo⟩;split at e;simp at e;subst_vars;exact⟨A,_,fo,B,cO _⟩;simp[au]at e;intro P E e;simp only[ak]at e;split at e;simp at e;subst_vars;exact⟨1000000,C 0 999992,fo,fo,by rw[O.rn,Q];rfl⟩;split at e;simp at e;subst_vars;exact⟨999992,z.map AV.c,by simp[ak,Ne.symm S],fo,afD⟩;simp[au]at e;intro P ok e;simp only[ak]at e;split at e;simp at e;subst_vars;rfl;split at e;simp at e;subst_vars;rfl;simp[au]at e
 ·intro k M;have p:=mem_iff.1 M;simp at p;rcases p with rfl|rfl
  exact⟨J,fo⟩;exact⟨F,by simp[ak,Ne.symm S]⟩
 intro P ok e;simp only[ak]at e;split at e;simp at e;subst_vars;exact .inl ⟨acd _,fo,fo⟩;split at e;simp at e;subst_vars;exact .inr ⟨cX V,Nat.blt_eq.mp u⟩;simp[au]at e;intro ok t e;simp only[ak]at e;split at e;simp at e;subst_vars;exact W _ _ Z;split at e;simp at e;subst_vars;exact vA _ _;simp[au]at e
section
variable {P:Program}{X:Ctx}{ops:tal}{o:Oper}{rest:L Oper}{env:Env}{acc:L Fp}{Q:Env->St->L Fp->Prop}{bs:tab}{ts:tad}{us:Ω}
def jE{bs Y}{V:Ω}(h:∀k∈V,au k Y=au k bs){k}(I:k∈V){v:Φ}(e:au k bs=some v):au k Y=some v:=by rw[h k I];exact e
def Xo{us V U Y O T S}(h:∀k∈[U,T,S],k∈V↔k∈us)(e:zT us U Y O T S):zT V U Y O T S:=by
 have W:∀k∈[U,T,S],mem k V=mem k us:=by intro k I;rw[aiO,mem_iff,mem_iff];exact h k I
 unfold zT at e ⊢;simp_all
def ag.aiz(kn)(N:cZ ops.toList kn env o=some true){f args T}(M:o.op = .call {callee := .value (.func f),args:=args,argTypes:=T})
  {c x:Nat->Nat->Φ}{s C V W S r}(t:cA P X f (mI c s C) S r (mO x V W))(D:MC c)(u:MC x){d:Nat}(A:o.dst=some d)
  {l}(I:ir (aJ X env) args.toList=some l){F}{G:Φ}(B:l = .ptr F 0::G){Y z K O J}(m:au F bs=some K)(q:K=c Y z)(j:au Y bs=some O)(p:O=s.map AV.c)(i:au z bs=some J)(b:J=C.map AV.c)
  (a:∀ts,fT ⟨λk=>au k [(1000000,F),(1000001,Y),(1000002,z)],λ_=>none⟩ ts S l)(kH:zT us F Y z (100000+d) (200000+d))(hr:WX [1000000,999991,999992] r){H}(E:r.rn (Gf F (100000+d) (200000+d))=H)
  {y}(jN:lK [F,Y,z] bs=y)
  (k:ag P X ops rest ((d,H)::env) ⟨(F,x (100000+d) (200000+d))::(100000+d,V.map AV.c)::(200000+d,W.map AV.c)::y,ts,F::(100000+d)::(200000+d)::us⟩ (⟨[],[F,Y,z,F,100000+d,200000+d,F,100000+d,200000+d]⟩::acc) Q):ag P X ops (o::rest) env ⟨bs,ts,us⟩ acc Q:=by
 subst E jN q p b;have hs:=bR.CH (env:=env) (σ:=⟨bs,ts,us⟩) M I t (bx:=[(1000000,F),(1000001,Y),(1000002,z)]) (po:=[(F,1000000),(100000+d,999991),(200000+d,999992)]) (ψ:=Gf F (100000+d) (200000+d)) a
  (λPG tc U hu=>alD D u (Xo hu kH) (jE U cS m) (jE U cS j) (jE U cS i)) hr
 exact ahe
def ag.agq(kn)(N:cZ ops.toList kn env o=some true){f args T}(M:o.op = .call {callee := .value (.func f),args:=args,argTypes:=T})
  {c y:Nat->Nat->Φ}{C Y U r}(m:cA P X f (mI1 c C) U r (mO1 y Y))(D:MC c)(u:MC y)(I:∀t ts b V,t.bx b=some V->fT t ts (c 0 b) (c 0 V))(W:∀us b,mem b us->xC us (y 0 b))(G:∀a b,y a b=y 0 b){d:Nat}(A:o.dst=some d)
  {l}(B:ir (aJ X env) args.toList=some l){F}{q:Φ}(p:l = .ptr F 0::q){z K J}(j:au F bs=some K)(i:K=c 0 z)(h3:au z bs=some J)(e3:J=C.map AV.c)
  (qx:∀ts,fT ⟨λk=>au k [(1000000,F),(1000002,z)],λ_=>none⟩ ts U l)(S:Dk us F z (200000+d))(hr:WX [1000000,999992] r){H}(E:r.rn (Gf F (200000+d+1) (200000+d))=H)
  {x}(jN:lK [F,z] bs=x)
  (k:ag P X ops rest ((d,H)::env) ⟨(F,y 0 (200000+d))::(200000+d,Y.map AV.c)::x,ts,F::(200000+d)::us⟩ (⟨[],[F,z,F,200000+d,F,200000+d]⟩::acc) Q):ag P X ops (o::rest) env ⟨bs,ts,us⟩ acc Q:=by
 subst E jN i e3;have hs:=bR.CH (env:=env) (σ:=⟨bs,ts,us⟩) M B m (bx:=[(1000000,F),(1000002,z)]) (po:=[(F,1000000),(200000+d,999992)]) (ψ:=Gf F (200000+d+1) (200000+d)) qx
  (λPG tc O hu=>aiy D u I W G (by
   have hm:mem (200000+d) tc=mem (200000+d) us:=(by rw[aiO,mem_iff,mem_iff];exact hu _ cS);unfold Dk at S ⊢
   rw[hm];exact S) (jE O cS j) (jE O cS h3)) hr
 exact ahe
end
def cC.head{w g b}:∀{cells Y o},cC w g b o (cells++Y)->cC w g b o cells
 |[],_,_,_=>trivial
 |_::_,_,_,⟨V,U,B⟩=>⟨V,U,cC.head B⟩
def VO{w g σ}(h:Inv w g σ){K}{cells cells':Φ}(I:au K σ.boxes=some cells)(D:∀b,g.box K=some b->cC w g b 0 cells->cC w g b 0 cells') :
  Inv w g ⟨yC K cells' σ.boxes,σ.toks,σ.used⟩/\jv w g σ w g ⟨yC K cells' σ.boxes,σ.toks,σ.used⟩:=by
 have N:∀k F,au k (yC K cells' σ.boxes)=some F->(k=K/\F=cells')\/au k σ.boxes=some F:=by intro k F e;rw[fP]at e;grind
 have O:∀k F,au k (yC K cells' σ.boxes)=some F->∃S,au k σ.boxes=some S:=by grind
 refine⟨⟨h.rS,?_,?_,?_,h.iX,h.used,?_⟩,⟨Z,Z,Z,acd _,λ_ _ _=>rfl,λ_ _ _ _=>⟨Z,Z⟩,lB.le.refl _,λ_ _ _ h => .inl h,λk F b x u=>?_,
   λk n b W H x u => .inr ⟨k,n,W,H,x,u,acd _,acd _⟩,λk _ e=>?_⟩⟩
 ·intro k F e;rcases N k F e with ⟨rfl,rfl⟩|z
  obtain⟨b,M,J,C,A⟩:=h.box k _ I;simp_all;exact h.box k F z
 intro k y F E b e z;obtain⟨Y,q⟩:=O k F e;obtain⟨V,U⟩:=O y E z;exact h.gR k y Y V b q U;intro k n e;obtain⟨T,x,u⟩:=h.tok k n e;refine⟨T,x,λb W H G=>?_⟩;obtain⟨B,Q,P⟩:=u b W H G;refine⟨B,Q,λy F z=>?_⟩;obtain⟨Y,q⟩:=O y F z;exact P y Y q;intro k F b e;obtain⟨Y,q⟩:=O k F e;exact h.room k Y b q;grind;cases D:au k (yC K cells' σ.boxes)with
 |none=>exact absurd D e
 |some F =>
  obtain⟨Y,q⟩:=O k F D;exact⟨by rw[q];simp,Z,Z⟩
section
variable {P:Program}{X:Ctx}{f:FuncId}{n:Nat}{β:lu}{R:Ending->World->Prop}{K:L Item}{env:Env}
def AK.zU{bs}{ts:tad}{us:Ω}(Y){cells}(cells' T)(I:au Y bs=some cells)(D:cells=cells'++T){S:tab}(U:Bs Y cells' bs=some S)
  (h:AK P X f n β R K env ⟨S,ts,us⟩):AK P X f n β R K env ⟨bs,ts,us⟩:=by
 rw[wD]at U;simp at U;subst U D;intro g w a O q;obtain⟨W,V⟩:=VO q.inv (cells':=cells') I (λb _ D=>D.head);exact h g w a O ⟨W,q.wE,q.env,q.frame.trans V,q.size,q.defers⟩
def IT{w g b x y}:∀{pre U:Φ}{o},(∀u,aX g x u->aX g y u)->(x.one->y.one)->cC w g b o (pre++x::U)->cC w g b o (pre++y::U)
 |[],_,_,V,Y,⟨⟨u,T,S,B⟩,h4,h5⟩=>⟨⟨u,T,V u S,Y B⟩,h4,h5⟩
 |_::_,_,_,V,Y,⟨T,S,B⟩=>⟨T,S,IT V Y B⟩
def AK.empty{bs}{ts:tad}{us:Ω}(Y W s)(pre F:Φ){cells V O}(M:au Y bs=some cells)(D:cells=pre ++ .own .exact O []::F)(A:au W bs=some V)
  {B}(U:Bs Y (pre ++ .iI W 0 s 0::F) bs=some B)(h:AK P X f n β R K env ⟨B,ts,us⟩):AK P X f n β R K env ⟨bs,ts,us⟩:=by
 rw[wD]at U;simp at U;subst U D;intro g w a y q;obtain⟨T,I,_⟩:=q.inv.box W V A
 obtain⟨S,Q⟩:=VO q.inv (cells':=pre ++ .iI W 0 s 0::F) M (λb _ D=>IT (λu p=>by
  obtain⟨z,N,J,H,G,E,_,C⟩:=p;subst G C
  exact⟨T,0,z,I,H,acd _,cS,.inl Z⟩) (λ_=>rfl) D)
 exact h g w a y ⟨S,q.wE,q.env,q.frame.trans Q,q.size,q.defers⟩
end
section
variable {P:Program}{X:Ctx}
def bR.GQ(hX:cI P X){o}{env:Env}{σ}{t:TypeId}{x N mx}(W:o.op = .slice t x none N mx){i j e}(C:X.ti t=some i)(A:i.kind = .slice e)(u:X.ti e=some j)
  {K F s n}(q:aJ X env x=some (.iI K F s n))(hs:j.size=s){h}(p:bound (aJ X env) N=some (some h))(m:bound (aJ X env) mx=some (some h))(z:h<=n) :
  bR P X o env σ (.iI K F s h) (λσ=>σ) ⟨[],[]⟩:=by
 refine bR.val λS w g H D jH B Q=>?_;have d:aJ X S x=some (.iI K F s n):=by rw[D x afm];exact q
 have V:bound (aJ X S) N=some (some h):=by rw[mS N (λy G=>D y (by rw[W];subst G;simp[Op.operands]))];exact p
 have U:bound (aJ X S) mx=some (some h):=by rw[mS mx (λy G=>D y (by rw[W];subst G;simp[Op.operands]))];exact m
 have r1:=cz (a:=H) Q B d;obtain⟨b,T,M,O9,e1,Y,ω,J⟩:=r1;have b1:iz ((none:Option Operand).map H.eval) none:=qT (g:=g) (ev:=H.eval) (ρ:=aJ X S) (λx v O=>cz Q B O) Z;have b2:=qT (g:=g) (ev:=H.eval) (λx v O=>cz Q B O) V;have b3:=qT (g:=g) (ev:=H.eval) (λx v O=>cz Q B O) U;have hb:∀w,(Instr.sliceBounds true n T ((none:Option Operand).map H.eval) (N.map H.eval) (mx.map H.eval)).run P w = .ok (0,h,h) w :=
  λw=>tH true b3 b2 b1 (aiq z Y) (acd _)
 refine⟨.slice (if h=0 then M else M.map (·.add (0*j.size))) (h-0) (h-0),?_,?_⟩;obtain⟨χ,op,E,pos,I,guard⟩:=o;subst W;have:=iU (w:=w) hX C A u (base:=M) hb;simp at this;simp[execOp,e1,this];simp only[aX];refine⟨b,h-0,_,O9,Z,acd _,?_,?_⟩;have:h*s<=T*s:=ajG _ (aiq z Y);simp;omega;by_cases h0:h=0;omega;right;rw[if_neg h0];rcases J with r|r
 omega;rw[r,aki,Nat.zero_mul,Addr.add_lit,aiI]
end
section
variable {P:Program}{X:Ctx}{ops:tal}{o:Oper}{rest:L Oper}{env:Env}{acc:L Fp}{Q:Env->St->L Fp->Prop}{σ:St}
def ag.GQ(hX:cI P X)(kn)(q:cZ ops.toList kn env o=some true){t x N mx}(U:o.op = .slice t x none N mx){d:Nat}(A:o.dst=some d){i j e}(H:X.ti t=some i)(I:i.kind = .slice e)(G:X.ti e=some j)
  {K F s n}(T:aJ X env x=some (.iI K F s n))(S:j.size=s){z B O y Y}(C:N=some y)(W:mx=some Y)(u:aJ X env y=some (.c (.int B z)))(V:aJ X env Y=some (.c (.int O z)))(h:Nat)(M:z=h)(D:h<=n)
  (k:ag P X ops rest ((d,.iI K F s h)::env) σ (⟨[],[]⟩::acc) Q):ag P X ops (o::rest) env σ acc Q:=by
 subst C W M;have J:bound (aJ X env) (some y)=some (some h):=by simp only[bound,u,asNat]
 have E:bound (aJ X env) (some Y)=some (some h):=by simp only[bound,V,asNat]
 exact ag.step (dA q) (bR.GQ (σ:=σ) hX U H I G T S J E D) (jf.id []) ob
end
def de.aiA{P X f cells s n0 d}(he:Enters P f)(h0:0<n0){F}(Q:(bD F).all CV.one)
  (h:∀w G b T r us,b<w.heap.size->(∀o,G b o=none)->(∀b o v,G b o=some v->w.cell? ⟨b,o,none⟩=some v)->cy G cells r ->
   (∀(j) u,r[j]?=some u->w.cell? ⟨b,j,none⟩=some u)->cells.all CV.one->n0<=T->(∀o,(o<T*s->∃u,w.cell? ⟨b,o,none⟩=some u)/\w.frozen? ⟨b,o,none⟩=false)->cy G d us ->
   ∃y,cy G (bD F) y/\Calls P f (.slice (some ⟨b,0,none⟩) n0 T::us).toArray w λe m=>∃V Y,e = .returned (.slice (some ⟨V,0,none⟩) F.length Y)/\F.length<=Y/\Vs w b m V y/\V<m.heap.size /\
    ∀o,(o<Y*s->∃u,m.cell? ⟨V,o,none⟩=some u)/\m.frozen? ⟨V,o,none⟩=false) :
  de P X f (some cells) (.iI 1000000 0 s n0::d.map AV.c) (.iI 999999 0 s F.length) (some (bD F)):=by
 refine⟨he,λg w r W cB gP=>?_⟩;obtain⟨u,us,rfl,hr,tF⟩:=gP;obtain⟨b,T,o,A,rfl,e2,e3,e4⟩:=hr;have O:o=some ⟨b,0,none⟩:=by grind
 subst O;have I:au 1000000 (uv 1000000 (some cells)).boxes=some (cells.map AV.c):=by simp[uv,ak]
 obtain⟨V,a,c2,c3,c4⟩:=W.box 1000000 _ I;rw[A]at a;cases a;obtain⟨r,v1,v2,v3⟩:=qY (tail:=[]) (by simpa using c4);have B:=W.room 1000000 _ b I A;obtain⟨y,n1,D⟩:=h w g.G b T r us c2 c3 W.rS v1 (λj u H=>by have:=v2 j u H;rwa[ahr]at this) v3 e2 (λo=>⟨λO=>(B o).1 ai,(B o).2⟩) (EN tF);refine D.mono ?_;rintro e m ⟨V,Y,rfl,Z4,R,N,M⟩;have Z5:∀C o v,g.G C o=some v->C≠b/\C<w.heap.size/\C≠V:=by
  intro C o v U;have x:C≠b:=by rintro rfl;rw[c3]at U;simp at U
  have t:=IQ (W.rS C o v U);refine⟨x,t,?_⟩;rintro rfl;rcases R.blk with h|h
  exact x h;omega
 let g':Gh:=⟨g.G,λk=>if k=999999 then some V else none,λ_=>none,λk=>if k=999999 then Y*s else 0⟩;have VJ:=(cy.get n1).1;have q:∀k z,au k (uv 999999 (some (bD F))).boxes=some z->k=999999/\z=(bD F).map AV.c:=by intro k z e;obtain⟨x,cl,t,h3⟩:=AS e;cases t;exact⟨x,h3⟩
 refine⟨_,g',Z,?_,?_,?_⟩;simp only[aX];exact⟨V,Y,some ⟨V,0,none⟩,afW,Z,Z4,afW,.inr Z⟩
 ·refine⟨λC o v U=>?_,?_,?_,λk n e=>by rw[qZ]at e;simp[au]at e,λk k' n n' b lo hi ω χ e=>by rw[qZ]at e;simp[au]at e,λk e=>?_,?_⟩;obtain⟨x,t,_⟩:=Z5 C o v U;rw[xU (R.rest C t x)];exact W.rS C o v U
  ·intro k z e;obtain⟨rfl,rfl⟩:=q k z e;refine⟨V,afW,N,λo=>?_,?_⟩
   ·cases U:g.G V o with
    |none=>rfl
    |some v=>exact absurd Z (Z5 V o v U).2.2
   apply cC.mm;intro j c H;obtain⟨q1,q2⟩:=cn.get (sD (g:=g') n1);obtain⟨u,hu,E⟩:=q2 j c H;have P6:c.one:=(by have:=(wP (bD F)).trans Q;rw[ajO]at this;exact this c (acm H));refine⟨⟨u,by rw[ahr];exact R.cells j u hu,E,P6⟩,by rw[ahr];exact(M j).2⟩
  intro k k' z p b e e' _ _;rw[(q k z e).1,(q k' p e').1];simp only[g',or_false]at e;by_cases i:k=999999;subst i;simp[uv];simp[i]at e;intro k z J e K o;obtain⟨rfl,_⟩:=q k z e;simp only[g',if_true,ajB]at K ⊢;subst K;exact M o
 have S:∀J,(∀o,¬ko g (uv 1000000 (some cells)) J o)\/(∃o,¬ko g (uv 1000000 (some cells)) J o)->J≠b:=by
  rintro J h rfl;have O:∀o,ko g (uv 1000000 (some cells)) J o:=λo => .inl ⟨1000000,_,I,A⟩;rcases h with h|⟨o,h⟩
  exact h 0 (O 0);exact h (O o)
 refine⟨R.os,R.tape,R.output,R.size,λJ x t=>R.rest J x (S J (.inl t)),λJ o x t=>?_,lB.le.refl _,λ_ _ _ h => .inl h,λk z J e K=>?_,λk n b lo hi e=>by rw[qZ]at e;simp[au]at e,λk i e=>?_⟩;have:=R.rest J x (S J (.inr ⟨o,t⟩));exact⟨xU this o,Dh this o⟩
 ·obtain⟨rfl,_⟩:=q k z e;simp only[g',if_true,ajB]at K;subst K;rcases R.blk with h|h
  subst h;exact .inr ⟨1000000,_,I,A⟩;exact .inl h
 cases D:au k (uv 999999 (some (bD F))).boxes with
 |none=>exact absurd D e
 |some z=>have:=(q k z D).1;omega
def QN(d K cells):jf (λσ=>(σ.fW K).fA d cells) ⟨[],[d,K]⟩ where
 out:=λσ k I=>by simp at I;refine⟨?_,Z,?_⟩;simp only[St.fW,St.fA,l9,ak];simp_all;simp only[St.fW,St.fA];simp_all
 same:=λσ p h k I=>by obtain⟨V,Y,B⟩:=h k (.inr I);refine⟨?_,Y,?_⟩;simp only[St.fW,St.fA,l9,ak];simp_all;simp only[St.fW,St.fA,aim,B]
section
variable {P:Program}{X:Ctx}
def bR.vH{o}{env:Env}{σ f args O}(i:o.op = .call {callee := .value (.func f),args:=args,argTypes:=O})
  {d}(kV:d<1000000)(hu:mem d σ.used=false){x}{rest:L Operand}(C:args.toList=x::rest){K N n0}(M:aJ X env x=some (.iI K 0 N n0)){J}(ha:iC (aJ X env) rest=some J)
  {cells}(V:au K σ.boxes=some (cells.map AV.c)){s n F}(hq:de P X f (some cells) (.iI 1000000 0 N n0::J.map AV.c) (.iI 999999 0 s n) (some F)) :
  bR P X o env σ (.iI d 0 s n) (λσ=>(σ.fW K).fA d (F.map AV.c)) ⟨[],[d,K]⟩:=by
 intro dx p w g a next Q h1 h2 W I dI q;have tV:∀y∈args.toList,y∈o.op.operands.toList:=by intro y G;rw[i];simp only[Op.operands,Call.operands,aiu,ahj];exact .inr G
 have Bg:iC (aJ X dx) rest=some J:=by rw[lN _ (λy G=>h1 y (tV y (by rw[C];exact aix _ G)))];exact ha
 have H:aJ X dx x=some (.iI K 0 N n0):=by rw[h1 x (tV x afv)];exact M
 have gP:=qf (g:=g) (ev:=a.eval) (λx v M=>cz dI I M) Bg;have Y:=cz (a:=a) dI I H;have QG:au K p.boxes=some (cells.map AV.c):=by rw[(h2 K (.inr cS)).1];exact V
 have B:(execOp a.eval o).run P w = .ok (.enter f (args.map a.eval)) w:=by obtain⟨χ,op,ω,pos,E,guard⟩:=o;subst i;simp[execOp,resolve,Deferred.ofValue,invoke,Act.eval,hq.1 _ w]
 unfold Oper.wp;rw[B,Oper.upon_enter];have D:=TD W (some K) (some cells) (λ_ h=>by cases h;exact⟨K,rfl,QG⟩) (λh=>by cases h);have U:∀S,(g.gK (vG (some K))).box S=if S=1000000 then g.box K else none:=by intro S;by_cases h:S=1000000<;>simp[Gh.gK,vG,h]
 have:=hq.2 (g.gK (vG (some K))) w (args.toList.map a.eval) D I (by
  rw[C];simp only[ahM,cn];refine⟨_,_,Z,?_,sD (g:=g.gK (vG (some K))) gP⟩;simp only[aX]at Y ⊢;obtain⟨b,T,z,A,t,r,m,j⟩:=Y
  exact⟨b,T,z,by rw[U];simpa using A,t,r,by simpa[Gh.gK,vG]using m,j⟩)
 rw[show(args.toList.map a.eval).toArray=args.map a.eval from by rw[<- ajp]]at this;refine this.mono ?_;rintro e w' ⟨u,g',rfl,h3,h4,h5⟩
 obtain⟨k1,k2,k3,k4⟩:=Z1 (g0:=g.gK (vG (some K))) (TE:=uv 1000000 (some cells)) W rfl (qZ _ _) (some K) (λk cs b e A=>by
  obtain⟨rfl,_⟩:=AS e;rw[U]at A
  exact⟨K,_,Z,QG,by simpa using A⟩) h4 h5 (p.fW K) (.inr ⟨K,Z,Z⟩)
 obtain⟨b,c1,c2,c3,c4,c5,c6,c7,c8⟩:=k4 F rfl;have Z0:d ∉ (p.fW K).used:=λh=>cX hu ((h2 d (.inr cS)).2.2.1 h);obtain⟨p1,p2,p3⟩:=Z3 k1 k2 Z0 kV c2 c3 c4 c5 c6 c7 c8;refine q u w' _ ?_ p1 p2 (k3.trans p3);simp only[aX]at h3 ⊢;obtain⟨b',T,z,A,t,r,m,j⟩:=h3;rw[c1]at A;cases A;exact⟨b,T,z,cS,t,r,by simpa using m,j⟩
end
section
variable {P:Program}{X:Ctx}{ops:tal}{o:Oper}{rest:L Oper}{env:Env}{acc:L Fp}{Q:Env->St->L Fp->Prop}{bs:tab}{ts:tad}{us:Ω}{σ:St}
def ag.vH(kn)(N:cZ ops.toList kn env o=some true){f args T}(S:o.op = .call {callee := .value (.func f),args:=args,argTypes:=T})
  {x}{Y:L Operand}(C:args.toList=x::Y){d:Nat}(A:o.dst=some d)(M:Nat.blt d 1000000)(p:mem d us=false){K O n0}(u:aJ X env x=some (.iI K 0 O n0)){W}(J:iC (aJ X env) Y=some W)
  {cells:Ψ}(V:au K bs=some (cells.map AV.c)){s n F U}(D:de P X f (some cells) U (.iI 999999 0 s n) (some F))(I:U = .iI 1000000 0 O n0::W.map AV.c){E}(H:Gs K bs=E)
  (k:ag P X ops rest ((d,.iI d 0 s n)::env) ⟨(d,F.map AV.c)::E,ts,d::us⟩ (⟨[],[d,K]⟩::acc) Q):ag P X ops (o::rest) env ⟨bs,ts,us⟩ acc Q:=by
 subst I H;exact ag.step (dA N) (bR.vH (σ:=⟨bs,ts,us⟩) S (Nat.blt_eq.mp M) p C u J V D) (QN d K _) ob
def ag.tX(kn)(N:cZ ops.toList kn env o=some true){f args T}(U:o.op = .call {callee := .value (.func f),args:=args,argTypes:=T})
  {x}(C:args.toList=[x]){d:Nat}(A:o.dst=some d){K O n0}(u:aJ X env x=some (.iI K 0 O n0)){cells F:Ψ}{Y}(V:au K bs=some Y)(S:Y=cells.map AV.c)
  (y:cA P X f [(1000000,cells.map AV.c)] [.iI 1000000 0 O n0] (.c .undef) [(1000000,F.map AV.c)]){z}(M:lK [K] bs=z)
  (k:ag P X ops rest ((d,.c .undef)::env) ⟨(K,F.map AV.c)::z,ts,K::us⟩ (⟨[],[K,K,K]⟩::acc) Q):ag P X ops (o::rest) env ⟨bs,ts,us⟩ acc Q:=by
 subst M S;have E:ir (aJ X env) args.toList=some [.iI K 0 O n0]:=by rw[C];simp only[ir,u]
 have I:=bR.CH (env:=env) (σ:=⟨bs,ts,us⟩) U E y (bx:=[(1000000,K)]) (po:=[(K,1000000)]) (ψ:=λ_=>K) (nb:=[(K,F.map AV.c)]) (λts=>⟨_,_,Z,⟨_,fo,Z⟩,Z⟩)
  (λr m J B=>by
   have H:=jE J cS V;refine⟨Z,?_,?_,?_,?_,?_,?_,?_⟩;intro k q e;simp only[ak]at e;split at e;simp_all;simp[au]at e;intro ts k t e;simp only[ak]at e;split at e;simp at e;subst_vars;exact⟨K,_,fo,H,cO _⟩;simp[au]at e;intro W G e;simp only[ak]at e;split at e;simp at e;subst_vars;exact⟨1000000,F.map AV.c,fo,fo,afD⟩;simp[au]at e;intro W ok e;simp only[ak]at e;split at e;rename_i h;exact h.symm;simp[au]at e;intro k D;have p:=mem_iff.1 D;simp at p;subst p;exact⟨K,fo⟩;intro W ok e;simp only[ak]at e;split at e;simp at e;subst_vars;exact .inl ⟨acd _,fo,fo⟩;simp[au]at e;intro ok t e;simp only[ak]at e;split at e;simp at e;subst_vars;exact vA _ _
   simp[au]at e) Z
 exact ahg
end
section
variable {P:Program}{X:Ctx}
def bR.Nm(hX:cI P X){o}{env:Env}{σ args}{T:Array TypeId}(U:o.op = .call {callee := .builtin .append,args:=args,argTypes:=T})
  {F y}(C:args.toList=[F,y]){t t1:Nat}(EE:T.toList=[t,t1]){i j O e}(p:X.ti t=some i)(r:i.kind = .slice e)(m:X.ti e=some j)(u:X.ti t1=some O)(N:nB O.kind)
  {s}(d:aJ X env F=some (.own .exact s [])){b}(hb:aJ X env y=some b){s1}(Y:pn b=some (s1,[])) :
  bR P X o env σ (.own .exact s []) (λσ=>σ) ⟨[],[]⟩:=by
 refine bR.val λM w g H K jH B J=>?_;have I:∀x∈args.toList,x∈o.op.operands.toList:=by intro x hx;rw[U];simp only[Op.operands,Call.operands,aiu,ahj];exact .inr hx
 have Bg:aJ X M F=some (.own .exact s []):=by rw[K F (I F afv)];exact d
 have D:aJ X M y=some b:=by rw[K y (I y afv)];exact hb
 have rA:=cz (a:=H) J B Bg;have rB:=cz (a:=H) J B D;obtain⟨base,ω,χ,ex,W,G,ie,V⟩:=rA;subst W V;obtain⟨⟨z,n1,n2,n3,n4⟩,n5⟩:=tU (P:=P) (w:=w) (t:=j.size) jH Y (by simp only[iu];split<;>rfl) rB;subst n1;obtain⟨dt,_,E,Km⟩:=hX.run_underlying (w:=w) p;rw[r]at E;subst E;obtain⟨d1,Gu,Ly⟩:=C8 hX u (by unfold nB at N;exact N) w;obtain⟨υ,S,Tu,_⟩:=hX.ti e j m;have BY:args = #[F,y]:=by cases args;simp_all
 have IB:T = #[t,t1]:=by cases T;simp_all
 have A:=nA (ty:=o.type) (w':=w) Km Gu Ly S (base:=base) (sLen:=0) (sCap:=0) n5 af1 (acd _) (by cases base<;>simp[storeCells]);refine⟨.slice base 0 0,?_,by simp_all;exact⟨base,0,0,Z,Z,acd _,.inl Z,Z⟩⟩;obtain⟨τ,op,q,pos,Q,guard⟩:=o;simp only at U A;subst U;subst BY IB;simp[execOp,resolve,invoke,builtin,ex,A,Result.andThen]
end
section
variable {P:Program}{X:Ctx}{ops:tal}{o:Oper}{rest:L Oper}{env:Env}{acc:L Fp}{Q:Env->St->L Fp->Prop}{bs:tab}{ts:tad}{us:Ω}{σ:St}
def ag.Nm(hX:cI P X)(kn)(N:cZ ops.toList kn env o=some true){args T}(V:o.op = .call {callee := .builtin .append,args:=args,argTypes:=T})
  {J y}(C:args.toList=[J,y]){t t1:Nat}(U:T.toList=[t,t1]){d:Nat}(A:o.dst=some d){i j W e}(H:X.ti t=some i)(I:i.kind = .slice e)(G:X.ti e=some j)(u:X.ti t1=some W)(S:nB W.kind)
  {s}(O:aJ X env J=some (.own .exact s [])){b}(M:aJ X env y=some b){K}(Y:pn b=some (K,[]))
  (k:ag P X ops rest ((d,.own .exact s [])::env) σ (⟨[],[]⟩::acc) Q):ag P X ops (o::rest) env σ acc Q :=
 ag.step (dA N) (bR.Nm hX V C U H I G u S O M Y) (jf.id []) ob
def ag.B5(kn)(N:cZ ops.toList kn env o=some true){f args T}(V:o.op = .call {callee := .value (.func f),args:=args,argTypes:=T})
  {U r}(J:cA P X f [] U r []){d:Nat}(A:o.dst=some d){l}(E:ir (aJ X env) args.toList=some l)(q:∀ts,fT ⟨λ_=>none,λ_=>none⟩ ts U l)(G:WX [] r)
  {H}(W:r.rn (λk=>k)=H)(k:ag P X ops rest ((d,H)::env) ⟨bs,ts,us⟩ (⟨[],[]⟩::acc) Q):ag P X ops (o::rest) env ⟨bs,ts,us⟩ acc Q:=by
 subst W;have I:=bR.CH (env:=env) (σ:=⟨bs,ts,us⟩) V E J (bx:=[]) (po:=[]) (ψ:=λk=>k) (nb:=[]) q
  (λD C O p=>⟨Z,λk K e=>by simp[au]at e,λts k F e=>by simp[au]at e,λY S e=>by simp[au]at e,λY ok e=>by simp[au]at e,λk M=>by simp[mem]at M,λY ok e=>by simp[au]at e,λok F e=>by simp[au]at e⟩) G
 exact ahg
def ag.aac(kn)(N:cZ ops.toList kn env o=some true){f args T}(V:o.op = .call {callee := .value (.func f),args:=args,argTypes:=T})
  {U s n}{cells:Ψ}(F:cA P X f [] U (.iI 999999 0 s n) [(999999,cells.map AV.c)]){d:Nat}(A:o.dst=some d)(C:Nat.blt d 1000000)(K:mem d us=false){l}(E:ir (aJ X env) args.toList=some l)(q:∀ts,fT ⟨λ_=>none,λ_=>none⟩ ts U l)
  (k:ag P X ops rest ((d,.iI d 0 s n)::env) ⟨(d,cells.map AV.c)::bs,ts,d::us⟩ (⟨[],[d,d]⟩::acc) Q):ag P X ops (o::rest) env ⟨bs,ts,us⟩ acc Q:=by
 have I:=bR.CH (env:=env) (σ:=⟨bs,ts,us⟩) V E F (bx:=[]) (po:=[(d,999999)]) (ψ:=λ_=>d) (nb:=[(d,cells.map AV.c)]) q
  (λB z O Y=>⟨Z,λk J e=>by simp[au]at e,λts k D e=>by simp[au]at e,λW S e=>by
    simp only[ak]at e;split at e;simp at e;subst_vars;exact⟨999999,cells.map AV.c,fo,fo,afD⟩
    ·simp[au]at e,λW ok e=>by
    simp only[ak]at e;split at e;omega
    ·simp[au]at e,λk M=>by
    have p:=mem_iff.1 M;simp at p;subst p;exact⟨d,fo⟩,λW ok e=>by
    simp only[ak]at e;split at e;subst_vars;refine .inr ⟨λh=>cX K ((Y _ cS).1 h),Nat.blt_eq.mp C⟩
    ·simp[au]at e,λok D e=>by
    simp only[ak]at e;split at e;simp at e;subst_vars;exact vA _ _
    simp[au]at e⟩) Z
 exact ahg
end
section
variable {P:Program}{X:Ctx}{f:FuncId}{n:Nat}{β:lu}{R:Ending->World->Prop}{K:L Item}{env:Env}
def Em(a U:AV):Prop:=U=a\/∃O P,a = .own .exact O []/\U = .own .exact P []
def Em.rel:∀g a U v,Em a U->aX g a v->aX g U v:=by rintro g a U v (rfl|⟨O,P,rfl,rfl⟩) h;exact h;simp only[aX]at h ⊢;obtain⟨S,Y,T,A,Q,K,_,V⟩:=h;exact⟨S,Y,T,A,Q,K,.inl rfl,V⟩
def Em.one:∀a U,Em a U->a.one->U.one:=by rintro a U (rfl|⟨O,P,rfl,rfl⟩) h;exact h;rfl
end
def aad(V Y U:Nat)(k:Nat):Nat:=match Nat.beq k 1000000 with
 |true=>V
 |false=>match Nat.beq k 1000001 with
  |true=>Y
  |false=>match Nat.beq k 1000002 with
   |true=>U
   |false=>k
def aiB{bs}{us:Ω}{c M:Nat->Nat->Φ}(D:MC c)(O:MC M){s f W J:Ψ}{N Y T}(G:distinct [N,Y,T])
  (F:au N bs=some (c Y T))(C:au Y bs=some (s.map AV.c))(B:au T bs=some (f.map AV.c)) :
  HOk bs us (mI c s f) (mI M W J) [(1000000,N),(1000001,Y),(1000002,T)] [(N,1000000),(Y,1000001),(T,1000002)] (aad N Y T) [(N,M Y T),(Y,W.map AV.c),(T,J.map AV.c)]:=by
 obtain⟨U,S,n3⟩:=EO G;refine⟨G,?_,?_,?_,?_,?_,?_,?_⟩;intro k V e;simp only[ak]at e;split at e;grind;split at e;grind;split at e;grind;simp[au]at e;intro ts k A e;simp only[ak]at e;split at e;simp at e;subst_vars;exact⟨N,_,fo,F,D.conv _ _ _ _ _ _ fo fo⟩;split at e;simp at e;subst_vars;exact⟨Y,_,fo,C,cO _⟩;split at e;simp at e;subst_vars;exact⟨T,_,fo,B,cO _⟩;simp[au]at e;intro P E e;simp only[ak]at e;split at e;simp at e;subst_vars;exact⟨1000000,M 1000001 1000002,fo,fo,by rw[O.rn];rfl⟩;split at e;simp at e;subst_vars;exact⟨1000001,W.map AV.c,by simp[ak,Ne.symm U],fo,afD⟩;split at e;simp at e;subst_vars;exact⟨1000002,J.map AV.c,by simp[ak,Ne.symm S,Ne.symm n3],fo,afD⟩;simp[au]at e;intro P ok e;simp only[ak]at e;split at e;simp at e;subst_vars;rfl;split at e;simp at e;subst_vars;rfl;split at e;simp at e;subst_vars;rfl;simp[au]at e
 ·intro k I;have p:=mem_iff.1 I;simp at p;rcases p with rfl|rfl|rfl
  exact⟨N,fo⟩;exact⟨Y,by simp[ak,Ne.symm U]⟩;exact⟨T,by simp[ak,Ne.symm S,Ne.symm n3]⟩
 intro P ok e;simp only[ak]at e;split at e;simp at e;subst_vars;exact .inl ⟨acd _,fo,fo⟩;split at e;simp at e;subst_vars;exact .inl ⟨bn,fo,fo⟩;split at e;simp at e;subst_vars;exact .inl ⟨bn,fo,fo⟩;simp[au]at e;intro ok A e;simp only[ak]at e;split at e;simp at e;subst_vars;exact O.ok _ _ _ Z Z;split at e;simp at e;subst_vars;exact vA _ _;split at e;simp at e;subst_vars;exact vA _ _;simp[au]at e
section
variable {P:Program}{X:Ctx}{ops:tal}{o:Oper}{rest:L Oper}{env:Env}{acc:L Fp}{Q:Env->St->L Fp->Prop}{bs:tab}{ts:tad}{us:Ω}
def ag.agr(kn)(N:cZ ops.toList kn env o=some true){f args T}(M:o.op = .call {callee := .value (.func f),args:=args,argTypes:=T})
  {c x:Nat->Nat->Φ}{s C V W S r}(t:cA P X f (mI c s C) S r (mI x V W))(D:MC c)(u:MC x){d:Nat}(A:o.dst=some d)
  {l}(I:ir (aJ X env) args.toList=some l){z}{G:Φ}(B:l = .ptr z 0::G){Y F K O J}(m:au z bs=some K)(q:K=c Y F)(j:au Y bs=some O)(p:O=s.map AV.c)(i:au F bs=some J)(b:J=C.map AV.c)
  (a:∀ts,fT ⟨λk=>au k [(1000000,z),(1000001,Y),(1000002,F)],λ_=>none⟩ ts S l)(kH:distinct [z,Y,F])(hr:WX [1000000,1000001,1000002] r){H}(E:r.rn (aad z Y F)=H)
  {y}(jN:lK [z,Y,F] bs=y)
  (k:ag P X ops rest ((d,H)::env) ⟨(z,x Y F)::(Y,V.map AV.c)::(F,W.map AV.c)::y,ts,z::Y::F::us⟩ (⟨[],[z,Y,F,z,Y,F,z,Y,F]⟩::acc) Q):ag P X ops (o::rest) env ⟨bs,ts,us⟩ acc Q:=by
 subst E jN q p b;have hs:=bR.CH (env:=env) (σ:=⟨bs,ts,us⟩) M I t (bx:=[(1000000,z),(1000001,Y),(1000002,F)]) (po:=[(z,1000000),(Y,1000001),(F,1000002)]) (ψ:=aad z Y F) a
  (λPG tc U hu=>aiB D u kH (jE U cS m) (jE U cS j) (jE U cS i)) hr
 exact ahe
end
def ce{p:Prop}(h:p:=by repeat' (first|exact trivial|exact Z|exact .inl Z|exact .inr Z|exact⟨_,Z,Z⟩|exact⟨_,Z,.inl ⟨Z,_,Z,.inl Z⟩⟩|exact⟨_,Z,.inl ⟨Z,_,Z,.inr Z⟩⟩|exact⟨_,Z,.inr ⟨_,_,Z,Z,Z⟩⟩|exact .inr ⟨_,_,Z,Z⟩|refine⟨_,_,Z,?_,?_⟩|refine⟨⟨_,Z,?_⟩,?_⟩|refine⟨⟨_,_,Z,Z,?_⟩,?_⟩|refine⟨?_,?_⟩|refine⟨_,_,Z,Z,?_⟩)):p:=h
abbrev Υ(n:Int):AV:=.c (.int .i64 n)
end Go.cE
