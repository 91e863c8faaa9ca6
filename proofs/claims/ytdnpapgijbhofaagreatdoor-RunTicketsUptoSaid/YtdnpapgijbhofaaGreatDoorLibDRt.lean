/- A layer of abstract values over the model, part D: -/
import Derived.Test.YtdnpapgijbhofaaGreatDoorLibCRt
import Derived.ArgAppend
import Derived.Lib.AppendZerosOnto
import Derived.Deep.AppendSrc
import Derived.Laws.IdiomCopy
import Derived.Lib.SliceRun
import Derived.Laws.Externs
set_option linter.defProp false
set_option linter.unusedSimpArgs false
set_option linter.unusedVariables false
namespace Go.cB
def Up(T:AV->AV->Prop):L AV->L AV->Prop
 |[],[]=>True
 |a::l,b::m=>T a b/\Up T l m
 |_,_=>False
def Zz(T:AV->AV->Prop)(env:Env):Env->Prop
 |[]=>True
 |(t,p)::l=>(∃a,ak t env=some a/\T a p)/\Zz T env l
def ZA(T:AV->AV->Prop)(bs:L (Nat×L AV)):L (Nat×L AV)->Prop
 |[]=>True
 |(k,cells')::l=>(∃cells,ak k bs=some cells/\Up T cells cells')/\ZA T bs l
def Uq(P s:Nat)(rows:L CV)(a p:AV):Prop:=p=a\/∃n,a = .gf P 0 s n/\n=rows.length/\p = .c (.sl s rows)
def Nil(a p:AV):Prop:=p=a\/∃Y u,(a = .c (.sl Y [])\/a = .own .exact Y [])/\p = .c (.sl u [])
def Hi{T:AV->AV->Prop}{env:Env}:∀{env':Env},Zz T env env'->∀t p,ak t env'=some p->∃a,ak t env=some a/\T a p
 |[],_,t,p,e=>by simp[ak]at e
 |(q,M)::l,⟨h1,h2⟩,t,p,e=>by simp only[an]at e;split at e;grind;exact Hi h2 t p e
def jk{T:AV->AV->Prop}{bs:L (Nat×L AV)}:∀{bs':L (Nat×L AV)},ZA T bs bs'->∀k Y,ak k bs'=some Y->∃cs,ak k bs=some cs/\Up T cs Y
 |[],_,t,a',e=>by simp[ak]at e
 |(q,M)::l,⟨h1,h2⟩,t,a',e=>by simp only[an]at e;split at e;grind;exact jk h2 t a' e
def Ox{P:Nat}:∀{bs:L (Nat×L AV)},(bs.all λp => !Nat.beq p.1 P)=true->∀k cs,ak k bs=some cs->k≠P
 |[],_,k,cs,e=>by simp[ak]at e
 |(q,M)::l,h,k,cs,e=>by simp only[abQ,aak]at h;simp only[an]at e;split at e;rename_i A;subst A;exact beq_false (by simpa using h.1);exact Ox h.2 k cs e
section
variable {P : Program}{X : Ctx}{f : FuncId}{n : Nat}{β : jq}{R : Ending -> World -> Prop}{K : L Item}{env : Env}
def AK.B0{bs:L (Nat×L AV)}{ts:L (Nat×Nat)}{us:L Nat}(Y s:Nat)(rows:L CV){cells tail:L AV}{env':Env}{bs':L (Nat×L AV)}{ts':L (Nat×Nat)}
  (C:ak Y bs=some cells)(hc:cells=ah rows++tail)(hs:∀r∈rows,r.cells.length=s)
  (he:Zz (Uq Y s rows) env env')(V:ZA (Uq Y s rows) bs bs')(hk':(bs'.all λp => !Nat.beq p.1 Y)=true)(ht:JT ts ts')
  (h:AK P X f n β R K env' ⟨bs',ts',us⟩):AK P X f n β R K env ⟨bs,ts,us⟩:=by
 intro g w a cs D;obtain⟨b,Co,N4,hb3,J⟩:=D.inv.box Y cells C;let U:ja:=λN o=>if N=b/\o<(bB rows).length then w.cell? ⟨b,o,none⟩else g.G N o
 let g':Gh:=⟨U,g.box,g.tok,g.room⟩;have Mw:g.G.le U:=by intro N o v q;grind
 have hle:g.le g':=⟨Mw,λ_ _ x=>x,λ_ _ _=>rfl,λk hw fI x=>⟨hw,fI,x,aal _,λ_=>rfl⟩⟩;have T:∀N o,N≠b->g.G N o=none->U N o=none:=by grind
 rw[hc]at J;obtain⟨vs,v1,v2,v3⟩:=od J;have hvl:=(bT.get v1).1;have iD:cW U b 0 (bB rows):=by refine mw (bT.mono Mw _ _ v1) (λj u hj=>?_) v3;grind
 have fD:fE U s b 0 rows:=oY.2 ⟨iD,hs⟩;have hF:∀a a' v,Uq Y s rows a a'->aP g a v->aP g' a' v:=by
  rintro a a' v (rfl|⟨m,rfl,hm,rfl⟩) I;exact aP.mono hle _ _ I;simp only[aP]at I;obtain⟨N,cap,o,B,rfl,S,e3,e4⟩:=I;rw[Co]at B;simp only[aP];refine⟨_,m,cap,Z,hm,S,?_⟩;rcases e4 with e4|rfl
  simp_all;grind
 have hCW:∀(l O:L AV)(N o:Nat),Up (Uq Y s rows) l O->bU w g N o l->bU w g' N o O:=by
  intro l
  induction l with
  |nil=>intro O N o h1 _;cases O with
   |nil=>trivial
   |cons x m=>simp[Up]at h1
  |cons x l ih=>intro O N o h1 h2;cases O with
   |nil=>simp[Up]at h1
   |cons y m =>
    obtain⟨M,h4⟩:=h1;obtain⟨⟨u,f1,f2,f3⟩,f4,f5⟩:=h2;refine⟨⟨u,f1,hF _ _ _ M f2,?_⟩,f4,ih m N (o+1) h4 f5⟩;rcases M with rfl|⟨m,rfl,hm,rfl⟩
    exact f3;rfl
 have uw:∀k cs N,k≠Y->ak k bs=some cs->g.box k=some N->N≠b:=by rintro k cs N h1 h2 M rfl;exact h1 (D.inv.fq k Y cs cells _ h2 C M Co)
 have hT:∀k m,ak k ts'=some m->ak k ts=some m:=λk m e=>pU ht k m e;have H:Inv w g' ⟨bs',ts',us⟩:=by
  refine⟨?_,?_,?_,?_,?_,D.inv.used,?_⟩;intro N o v q;simp only[g',U]at q;split at q;simp_all;exact D.inv.oC N o v q;intro k A e;have h1:=Ox hk' k A e;obtain⟨W,h2,M⟩:=jk V k A e;obtain⟨N,f1,f2,f3,f4⟩:=D.inv.box k W h2;exact⟨N,f1,f2,λo=>T N o (uw k W N h1 h2 f1) (f3 o),hCW _ _ _ _ M f4⟩;intro k k' x x' N e e' B S;obtain⟨W,h2,_⟩:=jk V k x e;obtain⟨cs1,yA,_⟩:=jk V k' x' e';exact D.inv.fq k k' W cs1 N h2 yA B S
  ·intro k m e;obtain⟨fI,B,S⟩:=D.inv.tok k m (hT k m e);refine⟨fI,B,λN lo hi I=>?_⟩;obtain⟨e3,e4,e5⟩:=S N lo hi I;have Ae:N≠b:=by rintro rfl;exact e5 Y cells C Co
   refine⟨e3,λo h1 h2=>?_,λk' A e'=>?_⟩;grind;obtain⟨W,h2,_⟩:=jk V k' A e';exact e5 k' W h2
  intro k k' m m' N lo hi lo' hi' e e' B S;exact D.inv.gh k k' m m' N lo hi lo' hi' (hT k m e) (hT k' m' e') B S;intro k A N e B o;obtain⟨W,h2,_⟩:=jk V k A e;exact D.inv.room k W N h2 B o
 have Q:gG w g ⟨bs,ts,us⟩ w g' ⟨bs',ts',us⟩:=by
  refine⟨Z,Z,Z,aal _,λ_ _ _=>rfl,λ_ _ _ _=>⟨Z,Z⟩,Mw,?_,?_,?_,?_⟩;intro N o v q;simp only[g',U]at q;split at q;rename_i hh;obtain⟨rfl,_⟩:=hh;exact .inr (.inr (.inl ⟨Y,cells,C,Co⟩));exact .inl q;intro k A N e B;obtain⟨W,h2,_⟩:=jk V k A e;exact .inr ⟨k,W,h2,B⟩;grind;intro k _ e;cases E:ak k bs' with
  |none=>exact absurd E e
  |some A =>
   obtain⟨W,h2,_⟩:=jk V k A E;exact⟨by show ak k bs≠none;rw[h2];simp,Z,Z⟩
 refine h g' w a cs ⟨H,?_,?_,D.frame.trans Q,D.size,D.defers⟩;exact λm v hm=>Rel.mono Mw _ _ (D.rT m v hm);intro t x e;obtain⟨a0,h1,h2⟩:=Hi he t x e;exact hF _ _ _ h2 (D.env t a0 h1)
def AK.weak{bs:L (Nat×L AV)}{ts:L (Nat×Nat)}{us:L Nat}(T:AV->AV->Prop)(q:∀g a S v,T a S->aP g a v->aP g S v)(h1:∀a S,T a S->a.one=true->S.one=true)
  {env':Env}{bs':L (Nat×L AV)}{ts':L (Nat×Nat)}(he:Zz T env env')(A:ZA T bs bs')(ht:JT ts ts')
  (h:AK P X f n β R K env' ⟨bs',ts',us⟩):AK P X f n β R K env ⟨bs,ts,us⟩:=by
 intro g w a cs D;have hCW:∀(l p:L AV)(N o:Nat),Up T l p->bU w g N o l->bU w g N o p:=by
  intro l
  induction l with
  |nil=>intro p N o h1 _;cases p with
   |nil=>trivial
   |cons x m=>simp[Up]at h1
  |cons x l ih=>intro p N o rC h2;cases p with
   |nil=>simp[Up]at rC
   |cons y m =>
    obtain⟨Q,h4⟩:=rC;obtain⟨⟨u,f1,f2,f3⟩,f4,f5⟩:=h2;exact⟨⟨u,f1,q _ _ _ _ Q f2,h1 _ _ Q f3⟩,f4,ih m N (o+1) h4 f5⟩
 have V:∀k m,ak k ts'=some m->ak k ts=some m:=λk m e=>pU ht k m e;have O:Inv w g ⟨bs',ts',us⟩:=by refine⟨D.inv.oC,?_,?_,?_,?_,D.inv.used,?_⟩;intro k Y e;obtain⟨W,h2,Q⟩:=jk A k Y e;obtain⟨N,f1,f2,f3,f4⟩:=D.inv.box k W h2;grind;intro k k' x x' N e e' B M;obtain⟨W,h2,_⟩:=jk A k x e;obtain⟨I,yA,_⟩:=jk A k' x' e';exact D.inv.fq k k' W I N h2 yA B M;intro k m e;obtain⟨fI,B,M⟩:=D.inv.tok k m (V k m e);refine⟨fI,B,λN H E hr=>?_⟩;obtain⟨e3,e4,e5⟩:=M N H E hr;refine⟨e3,e4,λk' Y e'=>?_⟩;obtain⟨W,h2,_⟩:=jk A k' Y e';exact e5 k' W h2;intro k k' m m' N H E G C e e' B M;exact D.inv.gh k k' m m' N H E G C (V k m e) (V k' m' e') B M;intro k Y N e B o;obtain⟨W,h2,_⟩:=jk A k Y e;exact D.inv.room k W N h2 B o
 have U:gG w g ⟨bs,ts,us⟩ w g ⟨bs',ts',us⟩:=by
  refine⟨Z,Z,Z,aal _,λ_ _ _=>rfl,λ_ _ _ _=>⟨Z,Z⟩,ja.le.refl _,λ_ _ _ h => .inl h,?_,?_,?_⟩;intro k Y N e B;obtain⟨W,h2,_⟩:=jk A k Y e;exact .inr ⟨k,W,h2,B⟩;grind;intro k _ e;cases J:ak k bs' with
  |none=>exact absurd J e
  |some Y =>
   obtain⟨W,h2,_⟩:=jk A k Y J;exact⟨by show ak k bs≠none;rw[h2];simp,Z,Z⟩
 refine h g w a cs ⟨O,D.rT,?_,D.frame.trans U,D.size,D.defers⟩;intro t x e;obtain⟨a0,h2,Q⟩:=Hi he t x e;exact q _ _ _ _ Q (D.env t a0 h2)
def Bf{v:AV}:∀{o:Nat}{l:L AV},o<l.length->dH o [v] l=some (l.set o v)
 |_,[],h=>by simp at h
 |0,x::l,_=>by simp[dH]
 |o+1,x::l,h=>by have:=Bf (v:=v) (o:=o) (l:=l) nW;simp only[dH,this,List.set_cons_succ]
end
end Go.cB
namespace Go.cB
def qi(k:Nat):Option (L CV)->St
 |none=>⟨[],[],[]⟩
 |some cells=>⟨[(k,cells.map AV.c)],[],[k]⟩
def vO{k q:Nat}{V:Option (L CV)}{cs:L AV}(h:ak q (qi k V).boxes=some cs):q=k/\∃cells,V=some cells/\cs=cells.map AV.c:=by
 cases V with
 |none=>simp[qi,ak]at h
 |some cells =>
  simp only[qi,an]at h;split at h;grind;simp[ak]at h
def og(k:Nat)(V:Option (L CV)):(qi k V).toks=[]:=by cases V<;>rfl
def GR(β:jq)(r:AV)(p:Option (L CV)):Ending->World->Prop:=λe w' =>
 ∃u g',e = .returned u/\aP g' r u/\Inv w' g' (qi 999999 p)/\gG β.w β.g β.σ w' g' (qi 999999 p)
def dR(P:Program)(X:Ctx)(f:FuncId)(V:Option (L CV))(args:L AV)(r:AV)(p:Option (L CV)):Prop :=
 Enters P f/\∀(g:Gh)(w:World)(vs:L Value),Inv w g (qi 1000000 V)->oz X g.G->bM g args vs ->
  Calls P f vs.toArray w (GR ⟨w,g,qi 1000000 V⟩ r p)
def dr{ρ:Ren}{ts:L (Nat×Nat)}:∀(cs:L CV),fO ρ ts (cs.map AV.c) (cs.map AV.c)
 |[]=>by simp[fO]
 |c::cs=>by exact⟨_,_,Z,by simp[Conv],dr cs⟩
def qW(P:Option Nat):Ren:=⟨λk=>if k=1000000 then P else none,λ_=>none⟩
def Mx{w:World}{g:Gh}{σ:St}(U:Inv w g σ)(P:Option Nat)(V:Option (L CV))(h:∀cells,V=some cells->∃q,P=some q/\ak q σ.boxes=some (cells.map AV.c))(M:V=none->P=none) :
  Inv w (g.fQ (qW P)) (qi 1000000 V):=by
 refine(U.fQ (qW P) _ ?_ ?_ ?_ ?_ ?_).1;intro k cs e;obtain⟨rfl,cells,Y,rfl⟩:=vO e;obtain⟨q,B,W⟩:=h cells Y;exact⟨q,_,by simp[qW,B],W,dr _⟩;intro k k' J e e';simp only[qW]at e e';simp_all;intro k n e;rw[og]at e;simp[ak]at e;intro k k' m S J e;simp[qW]at e;intro k e;simp only[qW]at e;by_cases E:k=1000000
 ·subst E;cases V with
  |none=>simp[M rfl]at e
  |some cells=>simp[qi]
 simp_all
def SD{w w':World}{g g0 g':Gh}{σ My:St}(U:Inv w g σ)(h0G:g0.G=g.G)(h0t:My.toks=[])(P:Option Nat)
  (h0:∀k cs b,ak k My.boxes=some cs->g0.box k=some b->∃q A,P=some q/\ak q σ.boxes=some A/\g.box q=some b)
  {bo:Option (L CV)}(H:Inv w' g' (qi 999999 bo))(E:gG w g0 My w' g' (qi 999999 bo))(V:St)
  (hd:(P=none/\V=σ)\/∃q,P=some q/\V=σ.eF q) :
  let g1:Gh:=⟨g'.G,g.box,g.tok,g.room⟩
  Inv w' g1 V/\gG w g σ w' g1 V/\g.le g1 /\
   ∀cells,bo=some cells->∃b,g'.box 999999=some b/\b<w'.heap.size/\(∀o,g'.G b o=none)/\bU w' g1 b 0 (cells.map AV.c) /\
    (∀k cs,ak k V.boxes=some cs->g.box k≠some b)/\(∀k n b' Q T,ak k V.toks=some n->g.tok k=some (n,some (b',Q,T))->b'≠b) /\
    (w.heap.size<=b\/∃k0 N,ak k0 σ.boxes=some N/\g.box k0=some b)/\∀o,(o<g'.room 999999->∃u,w'.cell? ⟨b,o,none⟩=some u)/\w'.frozen? ⟨b,o,none⟩=false:=by
 intro g1;have own:∀b o,ir g0 My b o->∃q A,P=some q/\ak q σ.boxes=some A/\g.box q=some b:=by rintro b o (⟨k,cs,B,e2⟩|⟨k,n,Q,T,B,_⟩);grind;rw[h0t]at B;simp[ak]at B
 have FN:∀b o,ir g0 My b o->ir g σ b o:=by intro b o h;obtain⟨q,A,_,B,e2⟩:=own b o h;exact .inl ⟨q,A,B,e2⟩
 have K:∀k cs,ak k V.boxes=some cs->ak k σ.boxes=some cs/\P≠some k:=by
  intro k cs e;rcases hd with ⟨rfl,rfl⟩|⟨q,rfl,rfl⟩
  exact⟨e,c9⟩;simp only[St.eF,jy]at e;split at e;simp at e;grind
 have XK:V.toks=σ.toks:=by rcases hd with ⟨_,rfl⟩|⟨q,_,rfl⟩<;>rfl
 have ZB:V.used=σ.used:=by rcases hd with ⟨_,rfl⟩|⟨q,_,rfl⟩<;>rfl
 have SE:∀k cs b,ak k V.boxes=some cs->g.box k=some b->∀o,¬ir g0 My b o:=by intro k cs b e W o M;obtain⟨q,A,B,e2,e3⟩:=own b o M;obtain⟨e4,e5⟩:=K k cs e;have:=U.fq k q cs A b e4 e2 W e3;subst this;exact e5 B
 have D:g.le g1:=⟨λb o v h=>E.le b o v (by rw[h0G];exact h),λ_ _ h=>h,λ_ _ _=>rfl,λk hw fI h=>⟨hw,fI,h,aal _,λ_=>rfl⟩⟩;have S:∀b o,b<w.heap.size->¬ir g0 My b o->g.G b o=none->g'.G b o=none:=by
  intro b o W Y h;cases hg:g'.G b o with
  |none=>rfl
  |some v =>
   rcases E.new b o v hg with C|C|C
   simp_all;omega;exact absurd C Y
 have XL:∀k n b Q T,ak k σ.toks=some n->g.tok k=some (n,some (b,Q,T))->∀o,¬ir g0 My b o:=by intro k n b Q T e B o M;obtain⟨fI,O,f2⟩:=U.tok k n e;rw[B]at O;simp at O;subst O;obtain⟨q,A,_,e2,e3⟩:=own b o M;exact(f2 b Q T Z).2.2 q A e2 e3
 refine⟨⟨H.oC,?_,?_,?_,?_,?_,?_⟩,⟨E.os,E.tape,E.output,E.size,λb W Y=>E.block b W (λo M=>Y o (FN b o M)),λb o W Y=>E.kept b o W (λM=>Y (FN b o M)),?_,?_,?_,?_,?_⟩,D,?_⟩;intro k cs e;obtain⟨e0,_⟩:=K k cs e;obtain⟨b,p,J,b3,b4⟩:=U.box k cs e0;have Y:=SE k cs b e p;exact⟨b,p,abX J E.size,λo=>S b o J (Y o) (b3 o),(bU.of_same (λo=>E.kept b o J (Y o)) b4).mono D⟩;intro k k' cs A b e e';exact U.fq k k' cs A b (K k cs e).1 (K k' A e').1;intro k n e;rw[XK]at e;obtain⟨fI,h1,h2⟩:=U.tok k n e;refine⟨fI,h1,λb Q T hr=>?_⟩;obtain⟨I,h4,h5⟩:=h2 b Q T hr;subst hr;refine⟨abX I E.size,λo JQ Mj=>?_,λk' cs e'=>h5 k' cs (K k' cs e').1⟩;obtain⟨h6,⟨u,h7⟩,h8⟩:=h4 o JQ Mj;have Y:=XL k n b Q T e h1 o;exact⟨S b o I Y h6,⟨u,(E.kept b o I Y).1.trans h7⟩,(E.kept b o I Y).2.trans h8⟩;rw[XK];exact U.gh;rw[ZB];exact U.used;intro k cs b e W o;obtain⟨e0,_⟩:=K k cs e;obtain⟨b',p,J,_⟩:=U.box k cs e0;rw[W]at p;cases p;have Y:=SE k cs b e W o;obtain⟨q1,q2⟩:=U.room k cs b e0 W o;exact⟨λM=>(q1 M).imp λu hu=>(E.kept b o J Y).1.trans hu,(E.kept b o J Y).2.trans q2⟩;exact D.1
 ·intro b o v h;rcases E.new b o v h with C|C|C
  simp_all;exact .inr (.inl C);simp_all
 grind;grind
 ·intro k _ e;cases hc:ak k V.boxes with
  |none=>exact absurd hc e
  |some cs=>exact⟨by rw[(K k cs hc).1];simp,Z,Z⟩
 rintro cells rfl;have hg:ak 999999 (qi 999999 (some cells)).boxes=some (cells.map AV.c):=by simp[qi,an]
 obtain⟨b,p,J,b3,b4⟩:=H.box 999999 _ hg;have hor:=E.boxes 999999 _ b hg p;refine⟨b,p,J,b3,?_,?_,?_,?_,H.room 999999 _ b hg p⟩
 ·have:∀(l:L CV)(o:Nat),bU w' g' b o (l.map AV.c)->bU w' g1 b o (l.map AV.c):=by
   intro l
   induction l with
   |nil=>intro o _;trivial
   |cons c l ih =>
    intro o h;obtain⟨⟨u,h1,h2,I⟩,h4,h5⟩:=h;exact⟨⟨u,h1,C1,I⟩,h4,ih _ h5⟩
  exact this _ _ b4
 ·intro k cs e W;obtain⟨e0,B⟩:=K k cs e;obtain⟨b',O,f2,_⟩:=U.box k cs e0;rw[W]at O;cases O;rcases hor with h|⟨k0,N,h1,h2⟩
  omega;obtain⟨q,A,I,h4,h5⟩:=h0 k0 N b h1 h2;have:=U.fq k q cs A b e0 h4 W h5;subst this;exact B I
 ·rintro k n b' Q T e B rfl;rw[XK]at e;obtain⟨fI,O,f2⟩:=U.tok k n e;rw[B]at O;simp at O;subst O;obtain⟨f3,_,f5⟩:=f2 _ Q T rfl;rcases hor with h|⟨k0,N,h1,h2⟩
  omega;grind
 grind
def SF{P w:World}{g0 g:Gh}{My σ:St}(U:Inv w g σ)(E:gG P g0 My w g σ){d:Nat}(hd:d ∉ σ.used)(jc:d<1000000){b R:Nat}{cells:L AV}(hb:b<w.heap.size)(hG:∀o,g.G b o=none)(hc:bU w g b 0 cells)
  (zG:∀k cs,ak k σ.boxes=some cs->g.box k≠some b)(wW:∀k n N Q S,ak k σ.toks=some n->g.tok k=some (n,some (N,Q,S))->N≠b)
  (D:P.heap.size<=b\/∃C O,ak C My.boxes=some O/\g0.box C=some b)(K:∀o,(o<R->∃u,w.cell? ⟨b,o,none⟩=some u)/\w.frozen? ⟨b,o,none⟩=false) :
  let g':Gh:=⟨g.G,λk=>if k=d then some b else g.box k,g.tok,λk=>if k=d then R else g.room k⟩
  Inv w g' (σ.dY d cells)/\gG P g0 My w g' (σ.dY d cells)/\g.le g':=by
 intro g';have Wh:g.box d=none:=by
  cases h:g.box d with
  |none=>rfl
  |some x=>exact absurd (U.used d (.inl oy)) hd
 have A:g.le g':=by refine⟨ja.le.refl _,λk x h=>?_,λk x h=>?_,λk hw J h=>⟨hw,J,h,aal _,λ_=>rfl⟩⟩;grind;grind
 have q:∀k cs,ak k (σ.dY d cells).boxes=some cs->(k=d/\cs=cells)\/(k≠d/\ak k σ.boxes=some cs):=by intro k cs e;simp only[St.dY,an]at e;grind
 refine⟨⟨U.oC,?_,?_,?_,U.gh,?_,?_⟩,⟨E.os,E.tape,E.output,E.size,E.block,E.kept,E.le,E.new,?_,E.toks,?_⟩,A⟩
 ·intro k cs e;rcases q k cs e with ⟨rfl,rfl⟩|⟨h1,h2⟩
  exact⟨b,aat,hb,hG,hc.mono A⟩;obtain⟨N,I,H,p,f4⟩:=U.box k cs h2;exact⟨N,by simp[g',h1,I],H,p,f4.mono A⟩
 ·intro k k' cs W N e e' Y B;simp only[g']at Y B;rcases q k cs e with ⟨rfl,rfl⟩|⟨h1,h2⟩
  grind;rw[if_neg h1]at Y;rcases q k' W e' with ⟨rfl,rfl⟩|⟨rC,yA⟩
  simp_all;rw[if_neg rC]at B;exact U.fq k k' cs W N h2 yA Y B
 ·intro k n e;obtain⟨J,Y,B⟩:=U.tok k n e;refine⟨J,Y,λN Q S M=>?_⟩;obtain⟨e3,e4,e5⟩:=B N Q S M;subst M;have Ae:=wW k n N Q S e Y;refine⟨e3,e4,λk' cs e'=>?_⟩;simp only[g'];rcases q k' cs e' with ⟨rfl,rfl⟩|⟨h1,h2⟩
  grind;simp_all
 intro k e;show k∈d::σ.used;by_cases V:k=d;simp[V];right;apply U.used k;simpa[g',V]using e
 ·intro k cs N e Y o;simp only[g']at Y ⊢;rcases q k cs e with ⟨rfl,rfl⟩|⟨h1,h2⟩
  simp_all;rw[if_neg h1]at Y;rw[if_neg h1];exact U.room k cs N h2 Y o
 ·intro k cs N e Y;simp only[g']at Y;rcases q k cs e with ⟨rfl,rfl⟩|⟨h1,h2⟩
  simp_all;rw[if_neg h1]at Y;exact E.boxes k cs N h2 Y
 intro k Cj e;cases T:ak k (σ.dY d cells).boxes with
 |none=>exact absurd T e
 |some cs =>
  rcases q k cs T with ⟨rfl,rfl⟩|⟨h1,h2⟩
  omega;obtain⟨I,H,p⟩:=E.ids k Cj (by rw[h2];simp);exact⟨I,by simp[g',h1,H],by simp[g',h1,p]⟩
section
variable {P : Program}{X : Ctx}
def J4(P:Nat):gE (λσ=>σ.eF P) ⟨[],[P]⟩ where
 out:=λσ k E=>by simp at E;refine⟨?_,Z,Iff.rfl⟩;simp only[St.eF,jy];rw[if_neg E]
 same:=λσ B h k E=>by obtain⟨h1,h2,U⟩:=h k (.inr E);refine⟨?_,h2,U⟩;simp only[St.eF,jy];simp_all
def bI.kR{o:Oper}{env:Env}{σ:St}{f:FuncId}{args:Array Operand}{Y:Array TypeId}(S:o.op = .call {callee := .value (.func f),args:=args,argTypes:=Y})
  {d:Nat}(I:d<1000000)(H:mem d σ.used=false){O:L CV}(G:gL (aH X env) args.toList=some O){s n:Nat}{cells:L CV}(hq:dR P X f none (O.map AV.c) (.gf 999999 0 s n) (some cells)) :
  bI P X o env σ (.gf d 0 s n) (λσ=>σ.dY d (cells.map AV.c)) ⟨[],[d]⟩:=by
 intro A B w g a next Q h1 h2 U M D N;have C:gL (aH X A) args.toList=some O:=by rw[ji _ (λx W=>h1 x (by rw[S];simp only[Op.operands,Call.operands,abF,aaV];exact .inr W))];exact G
 have p:=nk (g:=g) (ev:=a.eval) (λx v W=>bV D M W) C;have q:(execOp a.eval o).run P w = .ok (.enter f (args.map a.eval)) w:=by obtain⟨dst,op,K,pos,V,guard⟩:=o;subst S;simp[execOp,resolve,Deferred.ofValue,invoke,Act.eval,hq.1 _ w]
 unfold Oper.wp;rw[q,Oper.upon_enter];have T:=Mx U none none (λ_ h=>by cases h) (λ_=>rfl);have:=hq.2 (g.fQ (qW none)) w (args.toList.map a.eval) T M (oO (g:=g.fQ (qW none)) p);rw[show(args.toList.map a.eval).toArray=args.map a.eval from by rw[<- aci]]at this;refine this.mono ?_;rintro e w' ⟨u,g',rfl,h3,h4,h5⟩;obtain⟨k1,k2,k3,k4⟩:=SD (g0:=g.fQ (qW none)) (My:=qi 1000000 none) U rfl (og _ _) none (λk cs b e=>by simp[qi,ak]at e) h4 h5 B (.inl ⟨rfl,rfl⟩);obtain⟨b,c1,c2,c3,c4,c5,c6,c7,c8⟩:=k4 cells rfl;have SC:d ∉ B.used:=λh=>cE H ((h2 d (.inr c9)).2.2.1 h);obtain⟨p1,p2,p3⟩:=SF k1 k2 SC I c2 c3 c4 c5 c6 c7 c8;refine N u w' _ ?_ p1 p2 (k3.trans p3);obtain⟨b',E,oo,J,e2,e3,e4,e5⟩:=h3;rw[c1]at J;cases J;exact⟨b,E,oo,c9,e2,e3,by simpa using e4,e5⟩
def bI.Gy{o:Oper}{env:Env}{σ:St}{f:FuncId}{args:Array Operand}{S:Array TypeId}(A:o.op = .call {callee := .value (.func f),args:=args,argTypes:=S})
  {x:Operand}{rest:L Operand}(T:args.toList=x::rest){Y p O:Nat}(M:aH X env x=some (.gf Y 0 p O)){K:L CV}(ha:gL (aH X env) rest=some K)
  {cells:L CV}(D:ak Y σ.boxes=some (cells.map AV.c)){v:CV}(hq:dR P X f (some cells) (.gf 1000000 0 p O::K.map AV.c) (.c v) none) :
  bI P X o env σ (.c v) (λσ=>σ.eF Y) ⟨[],[Y]⟩:=by
 intro cH B w g a next Q h1 h2 U J cX N;have pX:∀y∈args.toList,y∈o.op.operands.toList:=by intro y G;rw[A];simp only[Op.operands,Call.operands,abF,aaV];exact .inr G
 have xo:gL (aH X cH) rest=some K:=by rw[ji _ (λy G=>h1 y (pX y (by rw[T];exact abN _ G)))];exact ha
 have I:aH X cH x=some (.gf Y 0 p O):=by rw[h1 x (pX x aaI)];exact M
 have fP:=nk (g:=g) (ev:=a.eval) (λx v M=>bV cX J M) xo;have ZC:=bV (a:=a) cX J I;have J5:ak Y B.boxes=some (cells.map AV.c):=by rw[(h2 Y (.inr c9)).1];exact D
 have q:(execOp a.eval o).run P w = .ok (.enter f (args.map a.eval)) w:=by obtain⟨dst,op,type,pos,H,guard⟩:=o;subst A;simp[execOp,resolve,Deferred.ofValue,invoke,Act.eval,hq.1 _ w]
 unfold Oper.wp;rw[q,Oper.upon_enter];have E:=Mx U (some Y) (some cells) (λ_ h=>by cases h;exact⟨Y,rfl,J5⟩) (λh=>by cases h);have XI:∀W,(g.fQ (qW (some Y))).box W=if W=1000000 then g.box Y else none:=by intro W;by_cases h:W=1000000<;>simp[Gh.fQ,qW,h]
 have:=hq.2 (g.fQ (qW (some Y))) w (args.toList.map a.eval) E J (by
  rw[T];refine⟨_,_,Z,?_,oO (g:=g.fQ (qW (some Y))) fP⟩;simp only[aP]at ZC ⊢;obtain⟨b,C,oo,V,e2,e3,e4,e5⟩:=ZC
  exact⟨b,C,oo,by rw[XI];simpa using V,e2,e3,by simpa[Gh.fQ,qW]using e4,e5⟩)
 rw[show(args.toList.map a.eval).toArray=args.map a.eval from by rw[<- aci]]at this;refine this.mono ?_;rintro e w' ⟨u,g',rfl,h3,h4,h5⟩
 obtain⟨k1,k2,k3,_⟩:=SD (g0:=g.fQ (qW (some Y))) (My:=qi 1000000 (some cells)) U rfl (og _ _) (some Y) (λk cs b e V=>by
  obtain⟨rfl,_⟩:=vO e;rw[XI]at V
  exact⟨Y,_,Z,J5,ZZ⟩) h4 h5 (B.eF Y) (.inr ⟨Y,Z,Z⟩)
 exact N u w' _ aar k1 k2 k3
end
section
variable {P : Program}{X : Ctx}{ops : Array Oper}{o : Oper}{rest : L Oper}{env : Env}{acc : L Fp}{Q : Env -> St -> L Fp -> Prop}{bs : L (Nat × L AV)}{ts : L (Nat × Nat)}{us : L Nat}{σ : St}
def ai.kR(kn:L Nat)(G:cP ops.toList kn env o=some true){f:FuncId}{args:Array Operand}{Y:Array TypeId}(V:o.op = .call {callee := .value (.func f),args:=args,argTypes:=Y})
  {d:Nat}(J:o.dst=some d)(U:Nat.blt d 1000000=true)(E:mem d us=false){O:L CV}(T:gL (aH X env) args.toList=some O){s n:Nat}{cells:L CV}{W:L AV}(hq:dR P X f none W (.gf 999999 0 s n) (some cells))(S:W=O.map AV.c)
  (k:ai P X ops rest ((d,.gf d 0 s n)::env) ⟨(d,cells.map AV.c)::bs,ts,d::us⟩ (⟨[],[d]⟩::acc) Q):ai P X ops (o::rest) env ⟨bs,ts,us⟩ acc Q:=by
 subst S;exact ai.step (cZ G) (bI.kR (σ:=⟨bs,ts,us⟩) V (Nat.blt_eq.mp U) E T hq) (pQ d _) p8
def ai.Gy(kn:L Nat)(G:cP ops.toList kn env o=some true){f:FuncId}{args:Array Operand}{B:Array TypeId}(S:o.op = .call {callee := .value (.func f),args:=args,argTypes:=B})
  {x:Operand}{W:L Operand}(T:args.toList=x::W){d:Nat}(J:o.dst=some d){Y p V:Nat}(N:aH X env x=some (.gf Y 0 p V)){O:L CV}(M:gL (aH X env) W=some O)
  {cells:L CV}(D:ak Y bs=some (cells.map AV.c)){v:CV}{U:L AV}(hq:dR P X f (some cells) U (.c v) none)(K:U = .gf 1000000 0 p V::O.map AV.c){bs':L (Nat×L AV)}(I:BH Y bs=bs')
  (k:ai P X ops rest ((d,.c v)::env) ⟨bs',ts,us⟩ (⟨[],[Y]⟩::acc) Q):ai P X ops (o::rest) env ⟨bs,ts,us⟩ acc Q:=by
 subst K I;exact ai.step (cZ G) (bI.Gy (σ:=⟨bs,ts,us⟩) S T N M D hq) (J4 Y) p8
end
end Go.cB
namespace Go.cB
def dR.of{P:Program}{X:Ctx}{f:FuncId}{Y:Func}{c:Code}{V p:Option (L CV)}{args:L AV}{r:AV}(hf:P.funcs[f]?=some Y)(A:Y.body=some c)(S:Enters P f)
  (q:args.length<=Y.ntmps)(env:Env)(σ:St)(O:env=(args.zipIdx.map λ(v,i)=>(i,v)))(M:qi 1000000 V=σ)
  (h:∀β,AK P X f Y.ntmps β (GR β r p) [.code c] env σ):dR P X f V args r p:=by
 subst M;refine⟨S,λg w vs U N K cs=>?_⟩;have C:=(bM.get K).1;have D:Live X ⟨w,g,qi 1000000 V⟩ Y.ntmps env (qi 1000000 V) g w {tmps:=vs.toArray++Array.replicate (Y.ntmps-vs.toArray.size) undef,defers:=[]}:=by
  refine⟨U,N,?_,gG.refl _ _ _,?_,Z⟩
  ·intro t a e;subst O;have T:∀(l:L AV)(us:L Value)(k:Nat),bM g l us->ak t ((l.zipIdx k).map λ(v,i)=>(i,v))=some a->k<=t/\∃u,us[t-k]?=some u/\aP g a u:=by
    intro l
    induction l with
    |nil=>intro us k _ e;simp[ak]at e
    |cons v l B =>
     intro us k J e;obtain⟨u,us,rfl,h1,h2⟩:=J;simp only[acr,abk,an]at e;grind
   obtain⟨_,u,W,Q⟩:=T args vs 0 K e;simp at W;have H:t<vs.length:=(List.getElem?_eq_some_iff.1 W).1;have:(vs.toArray++Array.replicate (Y.ntmps-vs.toArray.size) undef).getD t undef=u:=(by rw[acf,abo aaF];simp[W]);rw[this];exact Q
  simp;omega
 obtain⟨e,w',I,h1,W,Q,G⟩:=h ⟨w,g,qi 1000000 V⟩ g w _ cs D;have E:Frame.enter P f vs.toArray .normal =
   (top f).at {tmps:=vs.toArray++Array.replicate (Y.ntmps-vs.toArray.size) undef,defers:=[]} [.code c]:=by
  simp[Frame.enter,Frame.at,hf,A,top]
 exact⟨_,w',I,h1,by rw[E];exact W,Q,G⟩
section
variable {P : Program}{X : Ctx}{f : FuncId}{n : Nat}{β : jq}{K : L Item}{env : Env}
def AK.WW(hX:cg P X){W:Func}(hf:P.funcs[f]?=some W){bs:L (Nat×L AV)}{ts:L (Nat×Nat)}{us:L Nat}{Y s m:Nat}{cells:L CV}{cs:L AV}
  (A:sV X bs env W.results.toList=some [.gf Y 0 s m])(S:ak Y bs=some cs)(M:cs=cells.map AV.c):AK P X f n β (GR β (.gf 999999 0 s m) (some cells)) (.code .ret::K) env ⟨bs,ts,us⟩:=by
 subst M;intro g w a cs D;obtain⟨u,Q,V⟩:=oN hX D A
 obtain⟨O,N⟩:=D.inv.fQ ⟨λk=>if k=999999 then some Y else none,λ_=>none⟩ (qi 999999 (some cells)) (by
   intro k c e;obtain⟨rfl,q,B,rfl⟩:=vO e;cases B;exact⟨Y,_,c9,S,dr _⟩) (by
   intro k k' J e e';simp only at e e';split at e;grind
   ·simp at e) (by
   intro k n e;rw[og]at e;simp[ak]at e) (by intro k k' m m' J e;simp at e) (by
   intro k e;by_cases E:k=999999;subst E;simp[qi]
   simp[E]at e)
 refine⟨.returned u,w,_,⟨u,_,Z,?_,O,D.frame.trans (N λk E e=>?_)⟩,.one step_ret,Z,Z,D.defers,Z,W,hf,Q⟩;simp at V ⊢;obtain⟨b,U,I,B,H,G,p,C⟩:=V;exact⟨b,U,I,by simpa[Gh.fQ]using B,H,G,by simpa[Gh.fQ]using p,C⟩;cases T:ak k (qi 999999 (some cells)).boxes with
 |none=>exact absurd T e
 |some c=>obtain⟨rfl,_⟩:=vO T;omega
end
def Av{g:Gh}:∀{cs:L CV}{vs:L Value},bM g (cs.map AV.c) vs->bT g.G cs vs
 |[],vs,h=>by simpa[bM,bT]using h
 |c::cs,vs,h=>by obtain⟨u,us,rfl,h1,h2⟩:=h;exact⟨u,us,rfl,Vz,Av h2⟩
structure N5(w:World)(b:Nat)(w':World)(b':Nat)(news:List Value):Prop where
 os:w'.os=w.os
 tape:w'.tape=w.tape
 output:w'.output=w.output
 size:w.heap.size<=w'.heap.size
 blk:b'=b\/w.heap.size<=b'
 cells:∀(j:Nat) u,news[j]?=some u->w'.cell? ⟨b',j,none⟩=some u
 rest:∀b2,b2<w.heap.size->b2≠b->w'.heap[b2]?=w.heap[b2]?
def s8{w w':World}{b:Nat}(h:w'.heap[b]?=w.heap[b]?)(o:Nat):w'.cell? ⟨b,o,none⟩=w.cell? ⟨b,o,none⟩:=by unfold World.cell?;simp_all
def yR{w w':World}{b:Nat}(h:w'.heap[b]?=w.heap[b]?)(o:Nat):w'.frozen? ⟨b,o,none⟩=w.frozen? ⟨b,o,none⟩:=by unfold World.frozen?;simp_all
def Du{w:World}{b o:Nat}{v:Value}(h:w.cell? ⟨b,o,none⟩=some v):b<w.heap.size:=by
 rcases acC b w.heap.size with O|O
 omega;simp[World.cell?,Array.getElem?_eq_none O]at h
def dR.raw{P:Program}{X:Ctx}{f:FuncId}{cells:L CV}{s O:Nat}{H:L CV}(he:Enters P f)(h0:0<O){rows:L CV}(J:∀r∈rows,r.cells.length=s)(S:(bB rows).all CV.one=true)
  (h:∀(w:World)(G:ja)(b E:Nat)(vs us:L Value),b<w.heap.size->(∀o,G b o=none)->(∀b o v,G b o=some v->w.cell? ⟨b,o,none⟩=some v)->bT G cells vs ->
   (∀(j:Nat) u,vs[j]?=some u->w.cell? ⟨b,j,none⟩=some u)->cells.all CV.one=true->O<=E->(∀o,(o<E*s->∃u,w.cell? ⟨b,o,none⟩=some u)/\w.frozen? ⟨b,o,none⟩=false)->bT G H us ->
   ∃news,bT G (bB rows) news/\Calls P f (.slice (some ⟨b,0,none⟩) O E::us).toArray w λe w'=>∃N Y,e = .returned (.slice (some ⟨N,0,none⟩) rows.length Y)/\rows.length<=Y/\N5 w b w' N news) :
  dR P X f (some cells) (.gf 1000000 0 s O::H.map AV.c) (.c (.sl s rows)) none:=by
 refine⟨he,λg w vs U bZ D=>?_⟩;simp only[bM]at D;obtain⟨u,us,rfl,A,pK⟩:=D;simp only[aP]at A;obtain⟨b,E,o,B,rfl,e2,e3,e4⟩:=A;have Q:o=some ⟨b,0,none⟩:=by grind
 subst Q;have I:ak 1000000 (qi 1000000 (some cells)).boxes=some (cells.map AV.c):=by simp[qi,an]
 obtain⟨N,p,c2,c3,c4⟩:=U.box 1000000 _ I;rw[B]at p;cases p;obtain⟨vs,v1,v2,v3⟩:=od (tail:=[]) (by simpa using c4);have V:=U.room 1000000 _ b I B;obtain⟨news,n1,hc⟩:=h w g.G b E vs us c2 c3 U.oC v1 (λj u C=>by have:=v2 j u C;rwa[abi]at this) v3 e2 (λo=>⟨λQ=>(V o).1 bn,(V o).2⟩) (Av pK);refine hc.mono ?_;rintro e w' ⟨N,Y,rfl,SG,R⟩;let W:ja:=λK o=>if K=N then(if o<(bB rows).length then w'.cell? ⟨N,o,none⟩else none)else g.G K o
 have SH:∀K o v,g.G K o=some v->K≠b/\K<w.heap.size/\K≠N:=by
  intro K o v q;have h1:K≠b:=by rintro rfl;rw[c3]at q;simp at q
  have h2:=Du (U.oC K o v q);refine⟨h1,h2,?_⟩;rintro rfl;rcases R.blk with h|h
  exact h1 h;omega
 have Mw:g.G.le W:=by intro K o v q;simp only[W,(SH K o v q).2.2,acd];exact q
 have hD:∀K o v,W K o=some v->w'.cell? ⟨K,o,none⟩=some v:=by intro K o v q;simp only[W]at q;split at q;simp_all;obtain⟨h1,h2,_⟩:=SH K o v q;rw[s8 (R.rest K h2 h1)];exact U.oC K o v q
 have Oq:=(bT.get n1).1
 have fD:fE W s N 0 rows:=oY.2 ⟨mw (bT.mono Mw _ _ n1) (λj u C=>by
  have hlt:j<news.length:=(List.getElem?_eq_some_iff.1 C).1;simp only[W,if_pos,abi];rw[if_pos bn]
  exact R.cells j u C) S,J⟩
 refine⟨_,⟨W,λ_=>none,λ_=>none,λ_=>0⟩,Z,?_,?_,?_⟩;simp only[aP,Rel];exact⟨_,_,_,Z,Z,SG,.inr ⟨N,0,Z,fD⟩⟩;exact⟨hD,λk cs e=>by simp[qi,ak]at e,λk k' cs cs' b e=>by simp[qi,ak]at e,λk n e=>by simp[qi,ak]at e,λk k' n n' b lo hi lo' hi' e=>by simp[qi,ak]at e,λk e=>by simp at e,λk cs b e=>by simp[qi,ak]at e⟩;have T:∀M,(∀o,¬ir g (qi 1000000 (some cells)) M o)\/(∃o,¬ir g (qi 1000000 (some cells)) M o)->M≠b:=by
  rintro M h rfl;have Q:∀o,ir g (qi 1000000 (some cells)) M o:=λo => .inl ⟨1000000,_,I,B⟩;rcases h with h|⟨o,h⟩
  exact h 0 (Q 0);exact h (Q o)
 refine⟨R.os,R.tape,R.output,R.size,λM h1 h2=>R.rest M h1 (T M (.inl h2)),λM o h1 h2=>?_,Mw,?_,λk cs b e=>by simp[qi,ak]at e,λk n b lo hi e=>by simp[qi,ak]at e,λk _ e=>by simp[qi,ak]at e⟩;have:=R.rest M h1 (T M (.inr ⟨o,h2⟩));exact⟨s8 this o,yR this o⟩;intro K o v q;simp only[W]at q;split at q
 ·rename_i hb;subst hb;rcases R.blk with h|h
  grind;exact .inr (.inl h)
 exact .inl q
end Go.cB
namespace Go.cB
def notNil:AV->Bool
 |.c (.sl _ (_::_))=>true
 |.own _ _ (_::_)=>true
 |.gf _ _ _ n=>Nat.blt 0 n
 |_=>false
def SI:AV->Bool
 |.c (.sl ..)=>true
 |.own .. => true
 |.gf .. => true
 |_=>false
def Hj(a:AV):CV:=match notNil a with
 |true => .bool false
 |false => .rR
def SJ{g:Gh}{a:AV}{u:Value}(h:SI a=true)(A:aP g a u):∃base B E,u = .slice base B E/\(notNil a=true->base≠none):=by
 unfold SI at h;split at h
 ·rename_i s rows;obtain⟨base,B,E,rfl,V,D,A⟩:=A;refine⟨base,B,E,Z,λO=>?_⟩;rcases A with rfl|⟨b,o,rfl,_⟩
  simp[notNil]at O;simp
 ·rename_i k s rows;obtain⟨base,B,E,rfl,V,D,A,_⟩:=A;refine⟨base,B,E,Z,λO=>?_⟩;rcases A with rfl|⟨b,o,rfl,_⟩
  simp[notNil]at O;simp
 simp only[aP]at A;obtain⟨b,E,o,_,rfl,h1,_,h2⟩:=A;refine⟨_,_,_,Z,λO=>?_⟩;have:=Nat.blt_eq.mp O;grind;grind
section
variable {P : Program}{X : Ctx}
def BK{t e:TypeId}{w:World}(d:Nat)(h:(underlying t).run P w = .ok (.slice e) w)(a:Addr)(n m:Nat) :
  (Op.equalIn (d+1) t (.slice (some a) n m) (.slice none 0 0)).run P w = .ok false w:=by simp[Op.equalIn,h]
def BL{t e:TypeId}{w:World}(d:Nat)(h:(underlying t).run P w = .ok (.slice e) w)(n m:Nat) :
  (Op.equalIn (d+1) t (.slice none n m) (.slice none 0 0)).run P w = .ok true w:=by simp[Op.equalIn,h]
def wC{t e:TypeId}{w:World}(h:(underlying t).run P w = .ok (.slice e) w)(base:Option Addr)(n m:Nat) :
  (Op.equal t (.slice base n m) (.slice none 0 0)).run P w = .ok base.isNone w:=by
 cases base with
 |none=>exact BL 9999 h n m
 |some a=>exact BK 9999 h a n m
def bI.SK(hX:cg P X){o:Oper}{env:Env}{σ:St}{t U:TypeId}{x:Operand}(W:o.op = .binOp .eql t x (.const (.slice none 0 0)) U){i:TI}{e:Nat}(T:X.ti t=some i)(S:i.kind = .slice e)
  {a:AV}(q:aH X env x=some a)(M:SI a=true):bI P X o env σ (.c (Hj a)) (λσ=>σ) ⟨[],[]⟩:=by
 refine bI.val λA w g Q h1 hD K u=>?_;have Y:aH X A x=some a:=by rw[h1 x (by rw[W];simp[Op.operands])];exact q
 obtain⟨base,B,E,J,I⟩:=SJ M (bV (a:=Q) u K Y);obtain⟨d1,H,N,Xo⟩:=hX.run_underlying (w:=w) T;rw[S]at N;subst N;refine⟨Value.bool base.isNone,?_,?_⟩;obtain⟨G,op,V,D,O,guard⟩:=o;subst W;have C:binOp .eql t (.slice base B E) (.slice none 0 0)=(do Pure.pure (Value.bool (<- Op.equal t (.slice base B E) (.slice none 0 0)))):=rfl;have p:Q.eval (.const (.slice none 0 0)) = .slice none 0 0:=rfl;simp[execOp,J,p,C,eqGuard_at_slice,wC H];unfold Hj;split
 ·rename_i hh;simp only[aP,Rel];have:=I hh;cases base<;>simp at this ⊢
 exact⟨_,Z⟩
variable {ops : Array Oper}{rest : L Oper}{o : Oper}{env : Env}{σ : St}{acc : L Fp}{Q : Env -> St -> L Fp -> Prop}
def ai.SK(hX:cg P X)(kn:L Nat)(G:cP ops.toList kn env o=some true){t Y:TypeId}{x:Operand}(W:o.op = .binOp .eql t x (.const (.slice none 0 0)) Y){d:Nat}(J:o.dst=some d){i:TI}{e:Nat}(E:X.ti t=some i)(U:i.kind = .slice e)
  {a:AV}(O:aH X env x=some a)(V:SI a=true){v:CV}(q:Hj a=v)
  (k:ai P X ops rest ((d,.c v)::env) σ (⟨[],[]⟩::acc) Q):ai P X ops (o::rest) env σ acc Q:=by
 subst q;exact ai.step (cZ G) (bI.SK hX W E U O V) (gE.id _) p8
variable {f : FuncId}{n : Nat}{β : jq}{R : Ending -> World -> Prop}{K : L Item}
def AK.pe{c:Operand}{x y:Code}(V:aH X env c=some (.c .rR))(h1:AK P X f n β R (.code x::K) env σ)(h2:AK P X f n β R (.code y::K) env σ) :
  AK P X f n β R (.code (.cond c x y)::K) env σ:=by
 intro g w a cs D;have:=bV D.env D.rT V;obtain⟨b,A⟩:=this;cases b;obtain⟨e,w',I,q,Y,W,U⟩:=h2 g w a cs D;have st:=step_cond (P:=P) (b:=top f) (x:=x) (y:=y) (k:=K) (cs:=cs) (w:=w) A;exact⟨e,w',I,q,Y.of_steps (.one st),W,U⟩;obtain⟨e,w',I,q,Y,W,U⟩:=h1 g w a cs D;have st:=step_cond (P:=P) (b:=top f) (x:=x) (y:=y) (k:=K) (cs:=cs) (w:=w) A;exact⟨e,w',I,q,Y.of_steps (.one st),W,U⟩
end
end Go.cB
namespace Go.cB
mutual
def Wk:CV->CV->Prop
 |.sl s rows,.sl t Y=>(s=t/\rows=Y)\/(rows=[]/\Y=[])
 |.agg l,.agg m=>BP l m
 |.fG l,.fG m=>BP l m
 |v,.any=>v.one=true
 |v,w=>v=w
def BP:L CV->L CV->Prop
 |[],[]=>True
 |v::l,w::m=>Wk v w/\BP l m
 |_,_=>False
end
mutual
def Wk.refl:∀(v:CV),Wk v v
 |.sl s rows=>by unfold Wk;exact .inl ⟨Z,Z⟩
 |.agg l=>by simp only[Wk];exact BP.refl l
 |.fG l=>by simp only[Wk];exact BP.refl l
 |.any=>by simp only[Wk];rfl
 |.int .. => by simp only[Wk]
 |.bool .. => by simp only[Wk]
 |.str .. => by simp only[Wk]
 |.ld=>by simp only[Wk]
 |.undef=>by simp only[Wk]
 |.ip .. => by simp only[Wk]
 |.tO .. => by simp only[Wk]
 |.rR=>by simp only[Wk]
def BP.refl:∀(l:L CV),BP l l
 |[]=>by simp only[BP]
 |v::l=>by simp only[BP];exact⟨Wk.refl v,BP.refl l⟩
end
def Wk.of_eq{v w:CV}(h:v=w):Wk v w:=by subst h;exact Wk.refl v
def qG{G:ja}{v:CV}{u:Value}(h:v.one=true)(A:Rel G v u):(∀vs,u ≠ .agg vs)/\∀vs,u ≠ .tuple vs:=by
 cases v<;>simp[CV.one]at h<;>simp only[Rel]at A
 case int=>subst A;simp
 case bool=>subst A;simp
 case str=>subst A;simp
 case ld=>subst A;simp
 case sl=>obtain⟨_,_,_,rfl,_⟩:=A;simp
 case ip=>obtain⟨_,_,rfl,_⟩:=A;simp
 case tO=>obtain⟨_,rfl,_⟩:=A;simp
 case any=>exact A
 grind
def XM{v w:CV}(h:Wk v w)(h1:v.one=true):w.one=true:=by unfold Wk at h;split at h;rfl;simp[CV.one]at h1;simp[CV.one]at h1;rfl;simp_all
mutual
def Wk.rel{G:ja}:∀{v w:CV}{u:Value},Wk v w->Rel G v u->Rel G w u
 |.sl s rows,w,u,h,A=>by
  cases w
  case sl t J7 =>
   unfold Wk at h;rcases h with ⟨rfl,rfl⟩|⟨rfl,rfl⟩
   exact A;simp only[Rel]at A ⊢;obtain⟨base,W,E,Y,B,U,_⟩:=A;exact⟨base,W,E,Y,B,U,c9⟩
  case any=>unfold Wk at h;simp only[Rel];exact qG h A
  all_goals (unfold Wk at h;cases h)
 |.agg l,w,u,h,A=>by
  cases w<;>simp only[Wk]at h
  case agg m =>
   simp only[Rel]at A ⊢;obtain⟨vs,Y,B,U⟩:=A;obtain⟨g1,I,_⟩:=BP.rel h B;exact⟨vs,Y,g1,I U⟩
  case any=>simp[CV.one]at h
  all_goals (cases h)
 |.fG l,w,u,h,A=>by
  cases w<;>simp only[Wk]at h
  case fG m =>
   simp only[Rel]at A ⊢;obtain⟨vs,Y,B,U⟩:=A;obtain⟨g1,_,I⟩:=BP.rel h B;exact⟨vs,Y,g1,bn⟩
  case any=>simp[CV.one]at h
  all_goals (cases h)
 |.any,w,u,h,A=>by cases w<;>simp only[Wk]at h<;>first|exact A|cases h
 |.int ..,w,u,h,A=>by cases w<;>simp only[Wk]at h<;>first|(simp only[Rel];exact qG h A)|(rw[<- h];exact A)|cases h
 |.bool ..,w,u,h,A=>by cases w<;>simp only[Wk]at h<;>first|(simp only[Rel];exact qG h A)|(rw[<- h];exact A)|cases h
 |.str ..,w,u,h,A=>by cases w<;>simp only[Wk]at h<;>first|(simp only[Rel];exact qG h A)|(rw[<- h];exact A)|cases h
 |.ld,w,u,h,A=>by cases w<;>simp only[Wk]at h<;>first|(simp only[Rel];exact qG h A)|exact A|cases h
 |.undef,w,u,h,A=>by cases w<;>simp only[Wk]at h<;>first|exact A|(simp[CV.one]at h)|cases h
 |.ip ..,w,u,h,A=>by cases w<;>simp only[Wk]at h<;>first|(simp only[Rel];exact qG h A)|(rw[<- h];exact A)|cases h
 |.tO ..,w,u,h,A=>by cases w<;>simp only[Wk]at h<;>first|(simp only[Rel];exact qG h A)|(rw[<- h];exact A)|cases h
 |.rR,w,u,h,A=>by cases w<;>simp only[Wk]at h<;>first|(simp only[Rel];exact qG h A)|exact A|cases h
def BP.rel{G:ja}:∀{l m:L CV}{us:L Value},BP l m->bT G l us->bT G m us/\(l.all CV.one=true->m.all CV.one=true)/\l.length=m.length
 |[],[],us,_,A=>⟨A,id,Z⟩
 |v::l,w::m,us,h,A=>by simp only[BP]at h;simp only[bT]at A ⊢;obtain⟨u,us,rfl,q,K⟩:=A;obtain⟨g1,I,V⟩:=BP.rel h.2 K;refine⟨⟨u,us,rfl,Wk.rel h.1 q,g1⟩,?_,aaH⟩;simp only[abQ,aak];rintro⟨C,D⟩;exact⟨XM h.1 C,I D⟩
 |[],_::_,_,h,_=>by simp[BP]at h
 |_::_,[],_,h,_=>by simp[BP]at h
end
def zz{x y:CV}{e:Int}(h1:x.one=true)(h2:y.one=true):Wk (.fG [.agg [x,y],.int .i64 e]) (.fG [.agg [.any,.any],.int .i64 e]):=by
 have O:Wk x .any:=by cases x<;>unfold Wk<;>first|exact h1|rfl
 have G:Wk y .any:=by cases y<;>unfold Wk<;>first|exact h2|rfl
 refine⟨?_,Wk.refl _,trivial⟩;exact⟨O,G,trivial⟩
def vp{s t:Nat}{b:CV}:Wk (.fG [.sl s [],b]) (.fG [.sl t [],b]):=by simp only[Wk,BP];exact⟨.inr ⟨trivial,trivial⟩,Wk.refl b,trivial⟩
section
variable {P : Program}{X : Ctx}
def aR.wk{f:FuncId}{args M:L CV}{r Y:CV}(W:BP args M)(A:Wk r Y)(q:aR P X f M r):aR P X f args Y:=by refine⟨q.1,λG w vs h1 h2 U=>?_⟩;exact Calls.mono (q.2 G w vs h1 h2 (BP.rel W U).1) λe w' ⟨u,V,B,T,S⟩=>⟨u,V,B,Wk.rel A T,S⟩
variable {f : FuncId}{n : Nat}{β : jq}{K : L Item}{env : Env}{σ : St}
def AK.abc(hX:cg P X){Y:Func}(hf:P.funcs[f]?=some Y){r:AV}{O W:CV}
  (A:oK X σ.boxes env Y.results.toList=some r)(D:close r=some O)(V:Wk O W):AK P X f n β (QR β W) (.code .ret::K) env σ:=by
 have h:=AK.YM (K:=K) (β:=β) (n:=n) hX hf A D Z;intro g w a cs U;obtain⟨e,w',I,⟨u,g',h1,h2,S⟩,h4⟩:=h g w a cs U;exact⟨e,w',I,⟨u,g',h1,Wk.rel V h2,S⟩,h4⟩
end
end Go.cB
namespace Go.cB
inductive J8 where
 |ok (env:Env) (bs:List (Nat×List AV)) (us:List Nat) (fp:Fp)
 |no
def Jf(X:Ctx)(Y:L Oper)(o:Oper)(env:Env)(bs:L (Nat×L AV))(us:L Nat):J8 :=
 match cP Y kn env o with
 |some true=>match o.op,o.dst with
  |.box _ x,some d=>match aH X env x with
   |some a=>match jG a with
    |some cells=>match JS d us with
     |false => .ok ((d,.ptr d 0)::env) ((d,cells)::bs) (d::us) ⟨[],[d]⟩
     |true => .no
    |none => .no
   |none => .no
  |.alloc t,some d=>match X.ti t with
   |some i=>match i.zero with
    |some S=>match jG S with
     |some cells=>match JS d us with
      |false => .ok ((d,.ptr d 0)::env) ((d,cells)::bs) (d::us) ⟨[],[d]⟩
      |true => .no
     |none => .no
    |none => .no
   |none => .no
  |.store t x y,none=>match X.ti t,aH X env x,aH X env y with
   |some i,some (.ptr P off),some a=>match ak P bs,jG a with
    |some cells,some vs=>match Nat.beq vs.length i.size,dH off vs cells with
     |true,some r=>match wJ P r bs with
      |some bs' => .ok env bs' us ⟨[],[P]⟩
      |none => .no
     |_,_ => .no
    |_,_ => .no
   |_,_,_ => .no
  |.buildSlice t B A,some d=>match X.ti t with
   |some i=>match i.kind with
    |.slice e=>match X.ti e with
     |some j=>match j.zero,iu (aH X env) 0 A.toList with
      |some _,some rows=>match Nat.beq rows.length B,gR j.size rows,Nat.ble (B*j.size) 16777216 with
       |true,true,true => .ok ((d,.own .exact j.size rows)::env) bs us ⟨[],[]⟩
       |_,_,_ => .no
      |_,_ => .no
     |none => .no
    |_ => .no
   |none => .no
  |.build t A,some d=>match X.ti t with
   |some i=>match i.kind with
    |.arr n e=>match X.ti e,i.zero with
     |some j,some (.agg z)=>match rU X (aH X env) (yQ j.size e 0 n) A.toList z with
      |some r => .ok ((d,.agg r)::env) bs us ⟨[],[]⟩
      |none => .no
     |_,_ => .no
    |_ => .no
   |none => .no
  |.index t x p,some d=>match X.ti t,aH X env x,aH X env p with
   |some i,some (.agg cs),some ia=>match i.kind,asNat ia with
    |.arr n e,some m=>match X.ti e,Nat.blt m n with
     |some j,true=>match gl (m*j.size) cs with
      |some r=>match wK j r with
       |some v => .ok ((d,v)::env) bs us ⟨[],[]⟩
       |none => .no
      |none => .no
     |_,_ => .no
    |_,_ => .no
   |_,_,_ => .no
  |.binOp .eql t x (.const (.slice none 0 0)) _,some d=>match X.ti t,aH X env x with
   |some i,some a=>match i.kind,SI a with
    |.slice _,true => .ok ((d,.c (Hj a))::env) bs us ⟨[],[]⟩
    |_,_ => .no
   |_,_ => .no
  |_,_ => .no
 |_ => .no
section
variable {P:Program}{X:Ctx}{ops:Array Oper}{o:Oper}{rest:L Oper}{env:Env}{acc:L Fp}{Q:Env->St->L Fp->Prop}
 {bs:L (Nat×L AV)} {ts:L (Nat×Nat)} {us:L Nat}
def ai.Jf(hX:cg P X){env':Env}{bs':L (Nat×L AV)}{us':L Nat}{N:Fp}(h:Jf X ops.toList o env bs us = .ok env' bs' us' N)
  (k:ai P X ops rest env' ⟨bs',ts,us'⟩ (N::acc) Q):ai P X ops (o::rest) env ⟨bs,ts,us⟩ acc Q:=by
 unfold Go.cB.Jf at h;split at h;rename_i G;split at h;rename_i t x d Y J;split at h;rename_i a V;split at h;rename_i cells D;split at h;rename_i T;simp only[J8.ok.injEq]at h;obtain⟨rfl,rfl,rfl,rfl⟩:=h;exact ai.box kn G Y J V D T k;cases h;cases h;cases h;rename_i t d Y J;split at h;rename_i i W;split at h;rename_i S B;split at h;rename_i cells D;split at h;rename_i T;simp only[J8.ok.injEq]at h;obtain⟨rfl,rfl,rfl,rfl⟩:=h;exact ai.alloc hX kn G Y J W B D T k;cases h;cases h;cases h;cases h;rename_i t x y Y J;split at h;rename_i i M off a W O I;split at h;rename_i cells vs U D;split at h;rename_i r H C;split at h;rename_i u q;simp only[J8.ok.injEq]at h;obtain⟨rfl,rfl,rfl,rfl⟩:=h;exact ai.store hX kn G Y J W O I U D H C q k;cases h;cases h;cases h;cases h;rename_i t len A d Y J;split at h;rename_i i W;split at h;rename_i e E;split at h;rename_i j K;split at h;rename_i S rows B hp;split at h;rename_i h1 h2 h3;simp only[J8.ok.injEq]at h;obtain⟨rfl,rfl,rfl,rfl⟩:=h;exact ai.buildSlice hX kn G Y J W E K B hp h1 Z h2 h3 k;cases h;cases h;cases h;cases h;cases h;rename_i t A d Y J;split at h;rename_i i W;split at h;rename_i n e E;split at h;rename_i j z K B;split at h;rename_i r p;simp only[J8.ok.injEq]at h;obtain⟨rfl,rfl,rfl,rfl⟩:=h;exact ai.Dr hX kn G Y J W E K B p k;cases h;cases h;cases h;cases h;rename_i t x ix d Y J;split at h;rename_i i cs ia W O B;split at h;rename_i n e m E T;split at h;rename_i j K U;split at h;rename_i r p;split at h;rename_i v hv;simp only[J8.ok.injEq]at h;obtain⟨rfl,rfl,rfl,rfl⟩:=h;exact ai.Ds hX kn G Y J W E K O B T U p hv k;cases h;cases h;cases h;cases h;cases h;rename_i t x yt d Y J;split at h;rename_i i a W O;split at h;rename_i e E V;simp only[J8.ok.injEq]at h;obtain⟨rfl,rfl,rfl,rfl⟩:=h;exact ai.SK hX kn G Y J W E O V Z k;cases h;cases h;cases h;cases h
def Jg(X:Ctx)(Y:L Oper)(o:Oper)(env:Env)(ts:L (Nat×Nat))(us:L Nat):Option (Nat×Nat×Nat×Nat×L CV×L CV×Nat×L (Nat×Nat)) :=
 match cP Y kn env o with
 |some true=>match o.op,o.dst with
  |.call {callee := .builtin .append,args,argTypes},some d=>match args.toList,argTypes.toList with
   |[xs,y],[t,t1]=>match X.ti t,X.ti t1,aH X env xs,aH X env y with
    |some i,some S,some (.own W s rows),some b=>match i.kind,kL S.kind,mz b with
     |.slice e,true,some (u,bL)=>match X.ti e with
      |some j=>match j.zero,De s j.size rows W,fH u j.size bL,Nat.ble 1 j.bytes with
       |some _,true,true,true=>match uE d us ts W with
        |some (P,n)=>match wJ P n ts with
         |some ts'=>some (d,P,n,j.size,rows,bL,j.bytes,ts')
         |none=>none
        |none=>none
       |_,_,_,_=>none
      |none=>none
     |_,_,_=>none
    |_,_,_,_=>none
   |_,_=>none
  |_,_=>none
 |_=>none
def ai.Jg(hX:cg P X){d Y n sz S:Nat}{rows bL:L CV}{ts':L (Nat×Nat)}(h:Jg X ops.toList o env ts us=some (d,Y,n,sz,rows,bL,S,ts'))
  (W:(rows.length+bL.length)*S<=140737488355328)
  (k:ai P X ops rest ((d,.own (.tok Y n) sz (rows++bL))::env) ⟨bs,ts',Y::us⟩ (⟨[],[Y]⟩::acc) Q):ai P X ops (o::rest) env ⟨bs,ts,us⟩ acc Q:=by
 unfold Go.cB.Jg at h;split at h;rename_i M;split at h;rename_i args B d' V J;split at h;rename_i xs y t t1 T K;split at h;rename_i i i1 ow s J7 b E G I A;split at h;rename_i e s1 H u q N;split at h;rename_i j p;split at h;rename_i za hz hs rG U;split at h;rename_i O n' D;split at h;rename_i wO C;obtain⟨rfl,rfl,rfl,rfl,rfl,rfl,rfl,rfl⟩:=h;exact ai.append hX kn M V T K J E u p hz G q I A N Z hs rG D Z U C W k;cases h;cases h;cases h;cases h;cases h;cases h;cases h;cases h;cases h
def Jh(X:Ctx)(Y:L Oper)(o:Oper)(env:Env):Option (Nat×FuncId×L CV) :=
 match cP Y kn env o with
 |some true=>match o.op,o.dst with
  |.call {callee := .value (.func f),args,argTypes:=_},some d=>match gL (aH X env) args.toList with
   |some O=>some (d,f,O)
   |none=>none
  |.call {callee := .value (.tmp x),args,argTypes:=_},some d=>match aH X env (.tmp x),gL (aH X env) args.toList with
   |some (.c (.tO f U)),some O=>some (d,f,O++U)
   |_,_=>none
  |_,_=>none
 |_=>none
def ai.Jh{σ:St}{d:Nat}{f:FuncId}{O:L CV}{r:CV}(h:Jh X ops.toList o env=some (d,f,O))(hq:aR P X f O r)
  (k:ai P X ops rest ((d,.c r)::env) σ (⟨[],[]⟩::acc) Q):ai P X ops (o::rest) env σ acc Q:=by
 unfold Go.cB.Jh at h;split at h;rename_i G;split at h;rename_i N args B V Y J;split at h;rename_i W D;obtain⟨rfl,rfl,rfl⟩:=h;exact ai.Sn kn G Y J D hq k;cases h;rename_i x args B V Y J;split at h;rename_i N U W q D;obtain⟨rfl,rfl,rfl⟩:=h;exact ai.So kn G Y J q D hq k;cases h;cases h;cases h
def Ji(X:Ctx)(Y:L Oper)(o:Oper)(env:Env):Option (Nat×L CV×Int) :=
 match cP Y kn env o with
 |some true=>match o.op,o.dst with
  |.indexAddr t x p,some d=>match X.ti t,aH X env x,aH X env p with
   |some i,some a,some (.c (.int _ z))=>match i.kind,rowsOf a with
    |.slice e,some (s,rows)=>match X.ti e with
     |some j=>match Nat.beq s j.size with
      |true=>some (d,rows,z)
      |false=>none
     |none=>none
    |_,_=>none
   |_,_,_=>none
  |_,_=>none
 |_=>none
def ai.Ji(hX:cg P X){σ:St}{d:Nat}{rows:L CV}{z:Int}(h:Ji X ops.toList o env=some (d,rows,z))(m:Nat)(T:z=m){r:CV}(B:rows[m]?=some r){cs:L CV}(M:r.cells=cs)
  (k:ai P X ops rest ((d,.c (.ip cs))::env) σ (⟨[],[]⟩::acc) Q):ai P X ops (o::rest) env σ acc Q:=by
 unfold Go.cB.Ji at h;split at h;rename_i G;split at h;rename_i t x p S Y J;split at h;rename_i i a k' O W V U;split at h;rename_i e s N E A;split at h;rename_i j K;split at h;rename_i C;obtain⟨rfl,rfl,rfl⟩:=h;exact ai.index hX G Y J W E K V A C U m T B M k;cases h;cases h;cases h;cases h;cases h;cases h
end
end Go.cB
namespace Go.cB
def dQ(b:Nat):∀(vs:L Value)(o:Nat)(w:World),(w.setCells b o vs).heap.size=w.heap.size/\(w.setCells b o vs).os=w.os/\(w.setCells b o vs).tape=w.tape/\(w.setCells b o vs).output=w.output /\
  ∀k,k≠b->(w.setCells b o vs).heap[k]?=w.heap[k]?
 |[],_,w=>⟨Z,Z,Z,Z,λ_ _=>rfl⟩
 |v::r,o,w=>by obtain⟨h1,h2,U,P,Q⟩:=dQ b r (o+1) (w.setCell ⟨b,o,none⟩ v);rw[World.setCells];refine⟨by rw[h1];simp,by rw[h2];rfl,by rw[U];rfl,by rw[P];rfl,λk E=>?_⟩;rw[Q k E];exact heap_setCell w ⟨b,o,none⟩ v _ E
def dL{b:Nat}{vs:L Value}{o:Nat}{w:World}(h:∀j,j<vs.length->(w.cell? ⟨b,o+j,none⟩).isSome=true)(j:Nat) :
  (w.setCells b o vs).cell? ⟨b,j,none⟩=if o<=j/\j<o+vs.length then vs[j-o]? else w.cell? ⟨b,j,none⟩:=by
 by_cases O:o<=j/\j<o+vs.length;rw[if_pos O];have:=World.cell?_setCells_in b vs o w h (j-o) bn;simp_all;rw[if_neg O];exact World.cell?_setCells_out b vs o w ⟨b,j,none⟩ (λ_ _=>by show j<o\/o+vs.length<=j;omega)
def cK{b:Nat}{vs:L Value}{o:Nat}{w:World}(h:∀j,j<vs.length->(w.cell? ⟨b,o+j,none⟩).isSome=true){j:Nat}(T:(w.cell? ⟨b,j,none⟩).isSome=true) :
  ((w.setCells b o vs).cell? ⟨b,j,none⟩).isSome=true:=by
 rw[dL h];grind
def lQ{P:Program}(w:World)(T S ty Y:TypeId)(b o W V:Nat)(a:Addr)(sLen sCap:Nat)(cs:L Value)(n s:Nat)
  (E:P.underlying T=some (.slice Y))(C:(P.info? Y).map (·.size)=some s)(O:n=Nat.min sLen W)(Q:cs.length=n*s)
  (N:∀(j:Nat) v,cs[j]?=some v->w.cell? (a.add j)=some v)(D:∀j,j<cs.length->(w.cell? ⟨b,o+j,none⟩).isSome=true)(hf:∀j,j<cs.length->w.frozen? ⟨b,o+j,none⟩=false)(h1:∀v∈cs,v.oneCell'=true) :
  (Builtin.copy_ #[T,S] ty #[.slice (some ⟨b,o,none⟩) W V,.slice (some a) sLen sCap]).run P w = .ok (goInt n) (w.setCells b o cs):=by
 have U:=run_firstCells_some (P:=P) w s n a sLen sCap cs Q N;have M:=run_storeCells_cells (P:=P) b o cs 0 w (by simpa using D) (by simpa using hf) h1;cases hq:P.info? Y with
 |none=>simp[hq]at C
 |some i =>
  have K:i.size=s:=by simpa[hq]using C
  subst O;simp[Builtin.copy_,run_underlying E,Builtin.lenOf,sizeOf,typeInfo,hq,K,U,M]
def J9{P:Program}(w:World){o:Oper}{a:Act}{K:Act->World->Prop}{Q:Exit->Act->World->Prop}(d s:Operand)(t p:TypeId)
  (W:o.op = .call {callee := .builtin .copy,args := #[d,s],argTypes := #[t,p]})(v u:Value)(J:a.eval d=v)(C:a.eval s=u){Y:Value}{w':World}
  (A:(Builtin.copy_ #[t,p] o.type #[v,u]).run P w = .ok Y w')(h:K (a.put o.dst Y) w'):o.wp P a w K Q:=by
 unfold Oper.wp execOp;simp only[W,resolve,invoke,builtin,Sem.run_bind,Sem.run_pure,Result.andThen_ok,List.map_toArray,abk,List.map_nil,J,C,A];exact h
def kC{P:Program}(w:World){ops:Array Oper}{rest:L Oper}{o:Oper}{a:Act}{Q:Exit->Act->World->Prop}(Y:o.guard=none)(d s:Operand)(t p:TypeId)
  (V:o.op = .call {callee := .builtin .copy,args := #[d,s],argTypes := #[t,p]})(v u:Value)(J:a.eval d=v)(C:a.eval s=u){W:Value}{w':World}
  (A:(Builtin.copy_ #[t,p] o.type #[v,u]).run P w = .ok W w')(h:wpList P ops Q rest (a.put o.dst W) w'):wpList P ops Q (o::rest) a w :=
 wpList_plain Y λ_ O=>J9 w d s t p V v u J C A (O _ _ h)
def sD{P:Program}{ops:Array Oper}{o:Oper}{a:Act}{w:World}{K:Act->World->Prop}{Q:Exit->Act->World->Prop}{E:Prop}
  (G:o.guard=none)(d x:Operand)(Y W:TypeId)(V:o.op=Op.call {callee:=Callee.builtin Builtin.copy,args := #[d,x],argTypes := #[Y,W]})
  (v u:Value)(J:a.eval d=v)(O:a.eval x=u){U:Value}{w':World}(A:(Builtin.copy_ #[Y,W] o.type #[v,u]).run P w = .ok U w')(T:K (a.put o.dst U) w') :
  if Region.wanted o (yielded ops a.tmps)=true then Oper.wp P o a w K Q else E:=by
 rw[if_pos (by simp[Region.wanted,G])];exact J9 w d x Y W V v u J O A T
def rF{P:Program}(w:World)(tS tR e:TypeId)(ht:P.underlying tS=some (.slice e))(size:Nat)(hz:∀w,(Go.sizeOf e).run P w = .ok size w)
  (a b:Addr)(la ca lb cb:Nat)(hne:a.block≠b.block){u v:Value}(hua:w.cell? ⟨a.block,a.off,none⟩=some u)(hub:w.cell? ⟨b.block,b.off,none⟩=some v)(hfb:∀o,w.frozen? ⟨b.block,o,none⟩=false)(jS:b.spot=none) :
  (Extern.SlicesOverlaps.overlaps #[tS,tS] #[tR] #[.slice (some a) la ca,.slice (some b) lb cb]).run P w = .ok (.bool false) w:=by
 have shp:∀(x:Addr){v:Value},w.cell? ⟨x.block,x.off,none⟩=some v->∃t k,w.shape? x.block=some (t,k+1):=by intro x v hx;unfold World.cell? at hx;unfold World.shape?;split at hx;rename_i c t f hh;simp only at hh hx ⊢;rw[hh];refine⟨t,c.size-1,?_⟩;have:x.off<c.size:=(by grind);simp;omega;cases hx
 obtain⟨tA,kA,hsa⟩:=shp a hua;obtain⟨tB,kB,hsb⟩:=shp b hub;have hnb:(a.block != b.block)=true:=by simpa using hne
 have abY:(a.block==b.block)=false:=by simpa using hne
 have abZ:w.frozen? b=false:=by have:=hfb b.off;obtain⟨bb,bo,bs⟩:=b;simp only at jS;subst jS;exact this
 have hfe:=hfb (kB+1)
 change Sem.run P (α:=Value) (do
  let some t := (#[tS, tS] : Array TypeId)[0]? | stuck "slices.overlaps: no parameter types"
  let .slice elem ← underlying t | stuck "slices.overlaps: slice type expected"
  let size<-sizeOf elem
  match (some a:Option Addr),(some b:Option Addr)with
  |some a,some b =>
   if la=0\/lb=0\/size=0 then pure (Value.bool false)
   else if a.block != b.block&&(<- frozen a)&&(<- frozen b)then unsupported .addressObserved
   else do
    if a.block != b.block then do
     noView a;noView b
     if ← mayBeOne a b then return Value.bool ((← choose (.extern "sameAddr.stringBytes" 2)) == 1)
    pure (Value.bool (a.block==b.block&&a.off<b.off+lb*size&&b.off<a.off+la*size))
  |_,_=>pure (Value.bool false)) w=_
 by_cases h0:la=0\/lb=0\/size=0;simp[run_underlying ht,hz,h0];simp[run_underlying ht,hz,h0,hnb,abY,frozen,noView,viewAt,mayBeOne,stringish,shape,Sem.run,hsa,hsb,abZ,hfe]
def rH{G:ja}:∀{l:L CV}{vs:L Value}(n:Nat),bT G l vs->bT G (l.take n) (vs.take n)
 |_,_,0,_=>by simp[bT]
 |[],vs,n+1,h=>by simp only[bT]at h;subst h;simp[bT]
 |c::l,vs,n+1,h=>by obtain⟨u,us,rfl,h1,h2⟩:=h;exact⟨u,_,rfl,h1,rH n h2⟩
def rI{G:ja}:∀{l:L CV}{vs:L Value}(n:Nat),bT G l vs->bT G (l.drop n) (vs.drop n)
 |_,_,0,h=>by simpa using h
 |[],vs,n+1,h=>by simp only[bT]at h;subst h;simp[bT]
 |c::l,vs,n+1,h=>by obtain⟨u,us,rfl,h1,h2⟩:=h;simpa using rI n h2
def nQ{G:ja}:∀{l:L CV}{vs:L Value},bT G l vs->vs.length=l.length
 |[],vs,h=>by simp only[bT]at h;subst h;rfl
 |c::l,vs,h=>by obtain⟨u,us,rfl,h1,h2⟩:=h;simp[nQ h2]
def sE{s:Nat}{l:L CV}(h:∀r∈l,r.cells.length=s)(i:Nat)(W:i<=l.length):(bB l).take (i*s)=bB (l.take i):=by
 have e:l=l.take i++l.drop i:=(abK i l).symm;have h1:(bB (l.take i)).length=i*s:=by rw[cV (λr A=>h r (adl A)),abm,adP W]
 rw[e,dg];grind
def sF{s:Nat}{l:L CV}(h:∀r∈l,r.cells.length=s)(i:Nat)(W:i<=l.length):(bB l).drop (i*s)=bB (l.drop i):=by
 have e:l=l.take i++l.drop i:=(abK i l).symm;have h1:(bB (l.take i)).length=i*s:=by rw[cV (λr A=>h r (adl A)),abm,adP W]
 rw[e,dg];grind
section
variable {P : Program}{X : Ctx}{ops : Array Oper}{o : Oper}{rest : L Oper}{env : Env}{σ : St}{acc : L Fp}{Q : Env -> St -> L Fp -> Prop}
end
def vP{α:Type}:∀(a b:List α),gl a.length (a++b)=some b
 |[],_=>rfl
 |x::a,b=>by simp only[aaa,abh,gl,vP a b]
def vQ{α:Type}:∀(m n:Nat)(l r s:List α),gl m l=some r->gl n r=some s->gl (m+n) l=some s
 |0,n,l,r,s,h1,h2=>by simp only[gl]at h1;cases h1;rw[abi];exact h2
 |m+1,n,[],r,s,h1,h2=>by simp only[gl]at h1;cases h1
 |m+1,n,x::l,r,s,h1,h2=>by rw[Nat.add_right_comm];exact vQ m n l r s h1 h2
def Bg:∀(a b:L AV),a.length=b.length->dH 0 a b=some a
 |[],[],_=>rfl
 |[],_::_,h=>by simp at h
 |_::_,[],h=>by simp at h
 |x::a,y::b,h=>by simp only[dH,Bg a b nW]
end Go.cB
namespace Go.cB
def yS(bs:L (Nat×L AV)):St:=⟨bs,[],bs.map (·.1)⟩
def HR(β:jq)(r:AV)(p:L (Nat×L AV)):Ending->World->Prop:=λe w' =>
 ∃u g',e = .returned u/\aP g' r u/\Inv w' g' (yS p)/\gG β.w β.g β.σ w' g' (yS p)
def dG(P:Program)(X:Ctx)(f:FuncId)(V:L (Nat×L AV))(args:L AV)(r:AV)(p:L (Nat×L AV)):Prop :=
 Enters P f/\∀(g:Gh)(w:World)(vs:L Value),Inv w g (yS V)->oz X g.G->bM g args vs->Calls P f vs.toArray w (HR ⟨w,g,yS V⟩ r p)
mutual
def AV.rn(ψ:Nat->Nat):AV->AV
 |.ptr k o => .ptr (ψ k) o
 |.gf k o s n => .gf (ψ k) o s n
 |.agg l => .agg (QE ψ l)
 |.fG l => .fG (QE ψ l)
 |.c v => .c v
 |.own k s rows => .own k s rows
 |.any => .any
def QE(ψ:Nat->Nat):L AV->L AV
 |[]=>[]
 |a::l=>a.rn ψ::QE ψ l
end
mutual
def SL(us:L Nat):AV->Bool
 |.own (.tok _ _) _ _=>false
 |.ptr k _=>mem k us
 |.gf k _ _ _=>mem k us
 |.agg l=>yT us l
 |.fG l=>yT us l
 |.own .exact _ _=>true
 |.c _=>true
 |.any=>true
def yT(us:L Nat):L AV->Bool
 |[]=>true
 |a::l=>both (SL us a) (yT us l)
end
def Bh(ψ:Nat->Nat):∀l:L CV,QE ψ (l.map AV.c)=l.map AV.c
 |[]=>rfl
 |c::l=>by simp only[abk,QE,AV.rn,Bh ψ l]
def uJ(us:L Nat):∀l:L CV,yT us (l.map AV.c)=true
 |[]=>rfl
 |c::l=>by simp only[abk,yT,SL,both,uJ us l]
section
variable {g g1 : Gh}{us : L Nat}{ψ : Nat -> Nat}
mutual
def SM(O:g1.G=g.G)(h:∀k,mem k us=true->g1.box (ψ k)=g.box k/\g1.room (ψ k)=g.room k):∀{a:AV}{u:Value},SL us a=true->aP g a u->aP g1 (a.rn ψ) u/\(a.one=true->(a.rn ψ).one=true)
 |.c v,u,_,A=>by simp only[AV.rn,aP,O]at A ⊢;exact⟨A,id⟩
 |.own .exact s rows,u,_,A=>by simp only[AV.rn,aP,O]at A ⊢;exact⟨A,id⟩
 |.own (.tok _ _) s rows,u,Y,_=>by simp[SL]at Y
 |.ptr k o,u,Y,A=>by simp only[AV.rn,aP,(h k Y).1]at A ⊢;exact⟨A,λ_=>rfl⟩
 |.gf k o s n,u,Y,A=>by simp only[AV.rn,aP,(h k Y).1,(h k Y).2]at A ⊢;exact⟨A,λ_=>rfl⟩
 |.any,u,_,A=>by simp only[aP]at A ⊢;exact⟨A,id⟩
 |.agg l,u,Y,A=>by obtain⟨vs,e,h1,h2⟩:=A;obtain⟨U,P⟩:=MA O h Y h1;exact⟨⟨vs,e,U,P h2⟩,λh=>by simp[AV.one]at h⟩
 |.fG l,u,Y,A=>by obtain⟨vs,e,h1,h2⟩:=A;obtain⟨U,P⟩:=MA O h Y h1;refine⟨⟨vs,e,U,?_⟩,λh=>by simp[AV.one]at h⟩;rw[(bM.get U).1,<- (bM.get h1).1];exact h2
def MA(O:g1.G=g.G)(h:∀k,mem k us=true->g1.box (ψ k)=g.box k/\g1.room (ψ k)=g.room k):∀{l:L AV}{vs:L Value},yT us l=true->bM g l vs->bM g1 (QE ψ l) vs/\(l.all AV.one=true->(QE ψ l).all AV.one=true)
 |[],vs,_,A=>by simp only[bM]at A ⊢;exact⟨A,id⟩
 |a::l,vs,Y,A=>by obtain⟨C,D⟩:=dU Y;simp only[QE,bM]at A ⊢;obtain⟨u,us',e,h1,h2⟩:=A;obtain⟨U,P⟩:=SM O h C h1;obtain⟨Q,S⟩:=MA O h D h2;grind
end
def Ka{w:World}{b:Nat}(O:g1.G=g.G)(h:∀k,mem k us=true->g1.box (ψ k)=g.box k/\g1.room (ψ k)=g.room k):∀{l:L AV}{o:Nat},yT us l=true->bU w g b o l->bU w g1 b o (QE ψ l)
 |[],_,_,_=>trivial
 |a::l,o,ho,⟨⟨u,p,M,Y⟩,c4,c5⟩=>by obtain⟨C,D⟩:=dU ho;obtain⟨B,W⟩:=SM O h C M;exact⟨⟨u,p,B,W Y⟩,c4,Ka O h D c5⟩
end
def lJ{α:Type}:L Nat->L (Nat×α)->L (Nat×α)
 |[],l=>l
 |k::ks,l=>BH k (lJ ks l)
def qH{α:Type}{j:Nat}:∀{ks:L Nat}{l:L (Nat×α)},ak j (lJ ks l)=if j∈ks then none else ak j l
 |[],l=>by simp[lJ]
 |k::ks,l=>by simp only[lJ,jy,qH (ks:=ks)];grind
def yU{α:Type}{j:Nat}:∀{a b:L (Nat×α)},ak j (a++b)=match ak j a with
  |some v=>some v
  |none=>ak j b
 |[],b=>rfl
 |(k,v)::a,b=>by simp only[abh,an,yU (a:=a)];split<;>rfl
def Kb(ks:L Nat)(nb:L (Nat×L AV))(Y:L Nat)(σ:St):St:=⟨nb++lJ ks σ.boxes,σ.toks,Y++σ.used⟩
def vR(ks:L Nat)(nb:L (Nat×L AV))(Y:L Nat):gE (Kb ks nb Y) ⟨[],ks++nb.map (·.1)++Y⟩ where
 out:=λσ k E=>by simp only[aaV,not_or]at E;refine⟨?_,Z,?_⟩;simp only[Kb,yU,oZ E.1.2,qH,if_neg E.1.1];simp only[Kb];simp_all
 same:=λσ B h k E=>by obtain⟨h1,h2,U⟩:=h k (.inr E);refine⟨?_,h2,?_⟩;simp only[Kb,yU,qH,h1];simp only[Kb,aaV,U]
structure ZD(bs:List (Nat×List AV))(us:List Nat)(bi bo:List (Nat×List AV))(bx po:List (Nat×Nat))(ψ:Nat->Nat)(nb:List (Nat×List AV)):Prop where
 d2:distinct (bx.map (·.2))=true
 keys:∀k kk,ak k bx=some kk->k∈bi.map (·.1)/\∃cs,ak kk bs=some cs
 cells:∀ts k cs,ak k bi=some cs->∃old oc,ak k bx=some old/\ak old bs=some oc/\fO ⟨λk=>ak k bx,λ_=>none⟩ ts cs oc
 nb:∀ck cs',ak ck nb=some cs'->∃ok cs,ak ck po=some ok/\ak ok bo=some cs/\cs'=QE ψ cs
 psi:∀ck ok,ak ck po=some ok->ψ ok=ck
 outs:∀k,mem k (bo.map (·.1))=true->∃ck,ak ck po=some k
 kept:∀ck ok,ak ck po=some ok->(1000000<=ok/\ak ok bx=some ck/\ak ok bo≠none)\/(ck ∉ us/\ck<1000000)
 names:∀ok cs,ak ok bo=some cs->yT (bo.map (·.1)) cs=true
def ZE{w w':World}{g g':Gh}{σ:St}(U:Inv w g σ){bi p:L (Nat×L AV)}{bx po:L (Nat×Nat)}{ψ:Nat->Nat}{nb:L (Nat×L AV)}
  (C:ZD σ.boxes σ.used bi p bx po ψ nb)(H:Inv w' g' (yS p))(E:gG w (g.fQ ⟨λk=>ak k bx,λ_=>none⟩) (yS bi) w' g' (yS p)) :
  let g1:Gh:=⟨g'.G,λk=>match ak k po with|some ok=>g'.box ok|none=>g.box k,g.tok,λk=>match ak k po with|some ok=>g'.room ok|none=>g.room k⟩;let IW:=Kb (bx.map (·.2)) nb (po.map (·.1)) σ
  Inv w' g1 IW/\gG w g σ w' g1 IW/\g.le g1/\∀k,mem k (p.map (·.1))=true->g1.box (ψ k)=g'.box k/\g1.room (ψ k)=g'.room k:=by
 intro g1 IW;have ab1:∀k b,(g.fQ ⟨λk=>ak k bx,λ_=>none⟩).box k=some b->∃q,ak k bx=some q/\g.box q=some b:=by intro k b e;simp only[Gh.fQ]at e;grind
 have hrG:(g.fQ ⟨λk=>ak k bx,λ_=>none⟩).G=g.G:=rfl;have own:∀b o,ir (g.fQ ⟨λk=>ak k bx,λ_=>none⟩) (yS bi) b o->∃q Y,q∈bx.map (·.2)/\ak q σ.boxes=some Y/\g.box q=some b:=by rintro b o (⟨k,cs,W,B⟩|⟨k,n,D,hi,W,_⟩);obtain⟨q,O,f2⟩:=ab1 k b B;obtain⟨_,Y,f3⟩:=C.keys k q O;exact⟨q,Y,List.mem_map.2 ⟨_,dj O,Z⟩,f3,f2⟩;simp[yS,ak]at W
 have FN:∀b o,ir (g.fQ ⟨λk=>ak k bx,λ_=>none⟩) (yS bi) b o->ir g σ b o:=by intro b o h;obtain⟨q,Y,_,W,B⟩:=own b o h;exact .inl ⟨q,Y,W,B⟩
 have XN:∀k ok cs,ak k po=some ok->ak k σ.boxes=some cs->k∈bx.map (·.2):=by
  intro k ok cs W B;rcases C.kept k ok W with ⟨_,h,_⟩|⟨h,_⟩
  exact List.mem_map.2 ⟨_,dj h,Z⟩;obtain⟨b,A,_⟩:=U.box k cs B;exact absurd (U.used k (.inl (by rw[A];simp))) h
 have uH:∀k cs,ak k IW.boxes=some cs->(∃ok T,ak k po=some ok/\ak ok p=some T/\cs=QE ψ T)\/(ak k po=none/\k ∉ bx.map (·.2)/\ak k σ.boxes=some cs):=by
  intro k cs e;simp only[IW,Kb,yU]at e;cases hn:ak k nb with
  |some v =>
   rw[hn]at e;simp at e;subst e;exact .inl (C.nb k v hn)
  |none =>
   rw[hn]at e;simp only[qH]at e;split at e;simp at e;rename_i hns;refine .inr ⟨?_,hns,e⟩;cases hp:ak k po with
   |none=>rfl
   |some ok=>exact absurd (XN k ok cs hp e) hns
 have hψ:∀k,mem k (p.map (·.1))=true->g1.box (ψ k)=g'.box k/\g1.room (ψ k)=g'.room k:=by intro k hkk;obtain⟨ck,h1⟩:=C.outs k hkk;have h2:=C.psi ck k h1;subst h2;simp only[g1,h1,and_self]
 have SE:∀k cs b,k ∉ bx.map (·.2)->ak k σ.boxes=some cs->g.box k=some b->∀o,¬ir (g.fQ ⟨λk=>ak k bx,λ_=>none⟩) (yS bi) b o:=by intro k cs b W B A o ho;obtain⟨q,Y,O,f2,f3⟩:=own b o ho;have:=U.fq k q cs Y b B f2 A f3;subst this;exact W O
 have Wh:∀k ok,ak k po=some ok->(∃b,g.box k=some b)->g'.box ok=g.box k/\g'.room ok=g.room k:=by
  intro k ok e ⟨b,A⟩;rcases C.kept k ok e with ⟨h1,h2,S⟩|⟨h1,_⟩
  obtain⟨_,h4,h5⟩:=E.ids ok h1 (by simpa[yS]using S);simp only[Gh.fQ,h2]at h4 h5;exact⟨h4,h5⟩;exact absurd (U.used k (.inl (by rw[A];simp))) h1
 have hle:g.le g1:=by refine⟨λb o v h=>E.le b o v h,λk b h=>?_,λk b h=>?_,λk hw fI h=>⟨hw,fI,h,aal _,λ_=>rfl⟩⟩;simp only[g1];split;rename_i ok e;rw[(Wh k ok e ⟨b,h⟩).1];exact h;exact h;simp only[g1];split;rename_i ok e;exact(Wh k ok e ⟨b,h⟩).2;rfl
 have Q:∀b o,b<w.heap.size->¬ir (g.fQ ⟨λk=>ak k bx,λ_=>none⟩) (yS bi) b o->g.G b o=none->g'.G b o=none:=by
  intro b o A V h;cases hg:g'.G b o with
  |none=>rfl
  |some v =>
   rcases E.new b o v hg with P|P|P
   rw[hrG,h]at P;simp at P;omega;exact absurd P V
 have XL:∀k n b D hi,ak k σ.toks=some n->g.tok k=some (n,some (b,D,hi))->∀o,¬ir (g.fQ ⟨λk=>ak k bx,λ_=>none⟩) (yS bi) b o:=by intro k n b D hi e W o ho;obtain⟨fI,O,f2⟩:=U.tok k n e;rw[W]at O;simp at O;subst O;obtain⟨q,Y,_,B,e3⟩:=own b o ho;exact(f2 b D hi Z).2.2 q Y B e3
 have M:∀ok T b,ak ok p=some T->g'.box ok=some b->w.heap.size<=b\/∃q Y,q∈bx.map (·.2)/\ak q σ.boxes=some Y/\g.box q=some b:=by
  intro ok T b W B;rcases E.boxes ok T b (by simpa[yS]using W) B with h|⟨k0,cs0,h1,h2⟩
  exact .inl h;exact .inr (own b 0 (.inl ⟨k0,cs0,h1,h2⟩))
 have Wn:∀k cs b,ak k σ.boxes=some cs->g.box k=some b->b<w.heap.size/\(∀o,g.G b o=none)/\bU w g b 0 cs:=by intro k cs b e A;obtain⟨b',O,f2,f3,f4⟩:=U.box k cs e;rw[A]at O;cases O;exact⟨f2,f3,f4⟩
 have Wo:∀k cs ok T b b',k ∉ bx.map (·.2)->ak k σ.boxes=some cs->g.box k=some b->ak ok p=some T->g'.box ok=some b'->b≠b':=by
  rintro k cs ok T b b' W B e3 e4 e5 rfl;rcases M ok T b e4 e5 with h|⟨q,Y,h1,h2,S⟩
  have:=(Wn k cs b B e3).1;omega;have:=U.fq k q cs Y b B h2 e3 S;subst this;exact W h1
 refine⟨⟨H.oC,?_,?_,?_,?_,?_,?_⟩,⟨E.os,E.tape,E.output,E.size,λb A V=>E.block b A (λo ho=>V o (FN b o ho)),λb o A V=>E.kept b o A (λho=>V (FN b o ho)),hle.1,?_,?_,?_,?_⟩,hle,hψ⟩
 ·intro k cs e;rcases uH k cs e with ⟨ok,T,W,B,rfl⟩|⟨J,W,B⟩
  obtain⟨b,O,f2,f3,f4⟩:=H.box ok T (by simpa[yS]using B);exact⟨b,by simp only[g1,W];exact O,f2,f3,Ka (g:=g') (g1:=g1) (us:=p.map (·.1)) (show g'.G=g'.G from Z) hψ (C.names ok T B) f4⟩;obtain⟨b,b1,b2,b3,b4⟩:=U.box k cs B;have V:=SE k cs b W B b1;exact⟨b,by simp only[g1,J];exact b1,abX b2 E.size,λo=>Q b o b2 (V o) (b3 o),(bU.of_same (λo=>E.kept b o b2 (V o)) b4).mono hle⟩
 ·intro k k' cs Y b e e' f N;simp only[g1]at f N;rcases uH k cs e with ⟨ok,T,W,B,_⟩|⟨J,W,B⟩
  ·rw[W]at f;rcases uH k' Y e' with ⟨ZF,SN,I,K,_⟩|⟨ZG,I,K⟩
   rw[I]at N;have:=H.fq ok ZF T SN b (by simpa[yS]using B) (by simpa[yS]using K) f N;subst this;rw[<- C.psi k ok W,<- C.psi k' ok I];rw[ZG]at N;exact absurd Z (Wo k' Y ok T b b I K N B f)
  rw[J]at f;rcases uH k' Y e' with ⟨ZF,SN,I,K,_⟩|⟨ZG,I,K⟩
  rw[I]at N;exact absurd Z (Wo k cs ZF SN b b W B f K N);rw[ZG]at N;exact U.fq k k' cs Y b B K f N
 ·intro k n e;obtain⟨fI,h1,h2⟩:=U.tok k n e;refine⟨fI,h1,λb D hi hr=>?_⟩;obtain⟨S,h4,h5⟩:=h2 b D hi hr;subst hr;refine⟨abX S E.size,λo JQ Mj=>?_,λk' cs e' N=>?_⟩;obtain⟨h6,⟨u,h7⟩,h8⟩:=h4 o JQ Mj;have V:=XL k n b D hi e h1 o;exact⟨Q b o S V h6,⟨u,(E.kept b o S V).1.trans h7⟩,(E.kept b o S V).2.trans h8⟩;simp only[g1]at N;rcases uH k' cs e' with ⟨ZF,SN,I,K,_⟩|⟨ZG,I,K⟩
  ·rw[I]at N;rcases M ZF SN b K N with h|⟨q,Y,g1',g2',g3'⟩
   omega;exact h5 q Y g2' g3'
  rw[ZG]at N;exact h5 k' cs K N
 exact U.gh
 ·intro k e;show k∈po.map (·.1)++σ.used;simp only[g1]at e;rw[aaV];cases hp:ak k po with
  |some ok=>exact .inl (List.mem_map.2 ⟨_,dj hp,Z⟩)
  |none =>
   rw[hp]at e;exact .inr (U.used k e)
 ·intro k cs b e f o;simp only[g1]at f ⊢;rcases uH k cs e with ⟨ok,T,W,B,_⟩|⟨J,W,B⟩
  rw[W]at f ⊢;exact H.room ok T b (by simpa[yS]using B) f o;rw[J]at f ⊢;have V:=SE k cs b W B f o;have b2:=(Wn k cs b B f).1;obtain⟨q1,q2⟩:=U.room k cs b B f o;exact⟨λho=>(q1 ho).imp λu hu=>(E.kept b o b2 V).1.trans hu,(E.kept b o b2 V).2.trans q2⟩
 ·intro b o v h;rcases E.new b o v h with P|P|P
  exact .inl P;exact .inr (.inl P);exact .inr (.inr (FN b o P))
 ·intro k cs b e f;simp only[g1]at f;rcases uH k cs e with ⟨ok,T,W,B,_⟩|⟨J,W,B⟩
  ·rw[W]at f;rcases M ok T b B f with h|⟨q,Y,h1,h2,S⟩
   exact .inl h;exact .inr ⟨q,Y,h2,S⟩
  rw[J]at f;exact .inr ⟨k,cs,B,f⟩
 intro k n b D hi e W;exact .inr ⟨k,n,D,hi,e,W,aal _,aal _⟩;intro k Cj e;cases hc:ak k IW.boxes with
 |none=>exact absurd hc e
 |some cs =>
  rcases uH k cs hc with ⟨ok,T,W,B,_⟩|⟨J,W,B⟩
  ·rcases C.kept k ok W with ⟨h1,h2,S⟩|⟨_,h2⟩
   obtain⟨_,Y,h4⟩:=C.keys ok k h2;obtain⟨b,A,_⟩:=U.box k Y h4;obtain⟨q1,q2⟩:=Wh k ok W ⟨b,A⟩;exact⟨by rw[h4];simp,by simp only[g1,W];exact q1,by simp only[g1,W];exact q2⟩;omega
  exact⟨by rw[B];simp,by simp only[g1,J],by simp only[g1,J]⟩
section
variable {P : Program}{X : Ctx}
def bI.FO{o:Oper}{env:Env}{σ:St}{f:FuncId}{args:Array Operand}{W:Array TypeId}(M:o.op = .call {callee := .value (.func f),args:=args,argTypes:=W})
  {l:L AV}(G:gq (aH X env) args.toList=some l){V p:L (Nat×L AV)}{K:L AV}{r:AV}(hq:dG P X f V K r p){bx po:L (Nat×Nat)}{ψ:Nat->Nat}{nb:L (Nat×L AV)}
  (A:∀ts,fO ⟨λk=>ak k bx,λ_=>none⟩ ts K l)(C:∀bs us,(∀k∈bx.map (·.2),ak k bs=ak k σ.boxes)->(∀k∈po.map (·.1),k∈us↔k∈σ.used)->ZD bs us V p bx po ψ nb)(hr:SL (p.map (·.1)) r=true) :
  bI P X o env σ (r.rn ψ) (Kb (bx.map (·.2)) nb (po.map (·.1))) ⟨[],bx.map (·.2)++nb.map (·.1)++po.map (·.1)⟩:=by
 intro cH B w g a next Q h1 h2 U I cX N;have Y:=C B.boxes B.used (λk E=>(h2 k (.inr (by simp only[aaV];exact .inl (.inl E)))).1) (λk E=>(h2 k (.inr (by simp only[aaV];exact .inr E))).2.2);have pX:∀x∈args.toList,x∈o.op.operands.toList:=by intro x O;rw[M];simp only[Op.operands,Call.operands,abF,aaV];exact .inr O
 have xo:gq (aH X cH) args.toList=some l:=by rw[s7 _ (λx O=>h1 x (pX x O))];exact G
 have fP:=Ap (g:=g) (ev:=a.eval) (λx v O=>bV cX I O) xo;have q:(execOp a.eval o).run P w = .ok (.enter f (args.map a.eval)) w:=by obtain⟨dst,op,H,pos,T,guard⟩:=o;subst M;simp[execOp,resolve,Deferred.ofValue,invoke,Act.eval,hq.1 _ w]
 unfold Oper.wp;rw[q,Oper.upon_enter]
 have S:=(U.fQ ⟨λk=>ak k bx,λ_=>none⟩ (yS V) (λk cs e=>by
   obtain⟨J,oc,e1,e2,e3⟩:=Y.cells B.toks k cs e;exact⟨J,oc,e1,e2,e3⟩) (λk k' J e e'=>mA Y.d2 (dj e) (dj e')) (λk n e=>by simp[yS,ak]at e) (λk k' m m' J e=>by simp at e) (λk e=>by
   simp at e;cases D:ak k bx with
   |none=>exact absurd D e
   |some kk=>exact(Y.keys k kk D).1)).1
 have:=hq.2 (g.fQ ⟨λk=>ak k bx,λ_=>none⟩) w (args.toList.map a.eval) S I (uF (oa U) (A B.toks) fP).1;rw[show(args.toList.map a.eval).toArray=args.map a.eval from by rw[<- aci]]at this;refine this.mono ?_;rintro e w' ⟨u,g',rfl,h3,h4,h5⟩;obtain⟨k1,k2,k3,k4⟩:=ZE U Y h4 h5;refine N u w' _ ?_ k1 k2 k3;exact(SM (g:=g') (us:=p.map (·.1)) (by rfl) k4 hr h3).1
end
end Go.cB
namespace Go.cB
def dG.of{P:Program}{X:Ctx}{f:FuncId}{Y:Func}{c:Code}{V p:L (Nat×L AV)}{args:L AV}{r:AV}(hf:P.funcs[f]?=some Y)(A:Y.body=some c)(S:Enters P f)
  (q:args.length<=Y.ntmps)(env:Env)(σ:St)(O:env=(args.zipIdx.map λ(v,i)=>(i,v)))(M:yS V=σ)
  (h:∀β,AK P X f Y.ntmps β (HR β r p) [.code c] env σ):dG P X f V args r p:=by
 subst M;refine⟨S,λg w vs U N K cs=>?_⟩;have C:=(bM.get K).1;have D:Live X ⟨w,g,yS V⟩ Y.ntmps env (yS V) g w {tmps:=vs.toArray++Array.replicate (Y.ntmps-vs.toArray.size) undef,defers:=[]}:=by
  refine⟨U,N,?_,gG.refl _ _ _,?_,Z⟩
  ·intro t a e;subst O;have T:∀(l:L AV)(us:L Value)(k:Nat),bM g l us->ak t ((l.zipIdx k).map λ(v,i)=>(i,v))=some a->k<=t/\∃u,us[t-k]?=some u/\aP g a u:=by
    intro l
    induction l with
    |nil=>intro us k _ e;simp[ak]at e
    |cons v l B =>
     intro us k J e;obtain⟨u,us,rfl,h1,h2⟩:=J;simp only[acr,abk,an]at e;grind
   obtain⟨_,u,W,Q⟩:=T args vs 0 K e;simp at W;have H:t<vs.length:=(List.getElem?_eq_some_iff.1 W).1;have:(vs.toArray++Array.replicate (Y.ntmps-vs.toArray.size) undef).getD t undef=u:=(by rw[acf,abo aaF];simp[W]);rw[this];exact Q
  simp;omega
 obtain⟨e,w',I,h1,W,Q,G⟩:=h ⟨w,g,yS V⟩ g w _ cs D;have E:Frame.enter P f vs.toArray .normal =
   (top f).at {tmps:=vs.toArray++Array.replicate (Y.ntmps-vs.toArray.size) undef,defers:=[]} [.code c]:=by
  simp[Frame.enter,Frame.at,hf,A,top]
 exact⟨_,w',I,h1,by rw[E];exact W,Q,G⟩
def BM:L AV->AV
 |[] => .c .undef
 |[x]=>x
 |l => .fG l
def yV(bx:L (Nat×Nat))(ks:L Nat):Bool:=both (distinct (bx.map (·.2))) (both (FJ bx) (Di ks (fK bx)))
section
variable {P : Program}{X : Ctx}{f : FuncId}{n : Nat}{β : jq}{K : L Item}{env : Env}
def AK.Dv(H:(∃Q,K = .code .ret::Q)\/K=[])(hX:cg P X){U:Func}(hf:P.funcs[f]?=some U){bs:L (Nat×L AV)}{ts:L (Nat×Nat)}{us:L Nat}{l:L AV}(A:sV X bs env U.results.toList=some l)(bx:L (Nat×Nat)){r:AV}{p:L (Nat×L AV)}
  (W:yV bx (fK p)=true)(S:Conv ⟨λk=>ak k bx,λ_=>none⟩ ts r (Go.cB.BM l))(V:FH ⟨λk=>ak k bx,λ_=>none⟩ ts bs p):AK P X f n β (HR β r p) K env ⟨bs,ts,us⟩:=by
 intro g w a cs D;obtain⟨G,W⟩:=dU W;obtain⟨E,O⟩:=dU W;rw[kM]at O;obtain⟨u,N,Y⟩:=oN hX D A;obtain⟨M,I⟩:=D.inv.fQ ⟨λk=>ak k bx,λ_=>none⟩ (yS p) (λk cells e=>si V k cells e) (λk k' J B C=>mA G (dj B) (dj C))
  (λk n e=>by simp[yS,ak]at e) (λk k' m m' J e=>by simp at e) (λk e=>by
   simp at e;have:=r9 O k (by rw[kM];exact nr e)
   exact this)
 suffices T:aP (g.fQ ⟨λk=>ak k bx,λ_=>none⟩) r u/\∀k,1000000<=k->ak k (yS p).boxes≠none->ak k bx=some k by
  rcases H with ⟨Q,rfl⟩|rfl
  exact⟨.returned u,w,_,⟨u,_,Z,T.1,M,D.frame.trans (I T.2)⟩,.one step_ret,Z,Z,D.defers,Z,U,hf,N⟩;exact⟨.returned u,w,_,⟨u,_,Z,T.1,M,D.frame.trans (I T.2)⟩,.one step_end,Z,Z,D.defers,Z,U,hf,N⟩
 refine⟨?_,λk q e=>?_⟩
 ·refine(qE (oa D.inv) S ?_).1
  match l,A,Y with
  |[],_,Y=>simp only[Go.cB.BM];exact Y
  |[x],_,Y=>exact Y
  |x::y::r,_,Y=>exact Y
 cases W:ak k (yS p).boxes with
 |none=>exact absurd W e
 |some c =>
  obtain⟨J,oc,q1,q2,_⟩:=si V k c W;have:=vM E k J q q1;simp_all
def AK.BM(hX:cg P X){V:Func}(hf:P.funcs[f]?=some V){bs:L (Nat×L AV)}{ts:L (Nat×Nat)}{us:L Nat}{l:L AV}(A:sV X bs env V.results.toList=some l)(bx:L (Nat×Nat)){r:AV}{p:L (Nat×L AV)}
  (D:yV bx (fK p)=true)(Y:Conv ⟨λk=>ak k bx,λ_=>none⟩ ts r (Go.cB.BM l))(W:FH ⟨λk=>ak k bx,λ_=>none⟩ ts bs p):AK P X f n β (HR β r p) (.code .ret::K) env ⟨bs,ts,us⟩ :=
 AK.Dv (.inl ⟨_,Z⟩) hX hf A bx D Y W
end
structure MC(c:Nat->Nat->List AV):Prop where
 conv:∀(ρ:Ren)(ts:List (Nat×Nat))(a b a' b':Nat),ρ.bx a=some a'->ρ.bx b=some b'->fO ρ ts (c a b) (c a' b')
 rn:∀(ψ:Nat->Nat)(a b:Nat),QE ψ (c a b)=c (ψ a) (ψ b)
 ok:∀(us:List Nat)(a b:Nat),mem a us=true->mem b us=true->yT us (c a b)=true
abbrev mI(c:Nat->Nat->L AV)(s f:L CV):L (Nat×L AV):=[(1000000,c 1000001 1000002),(1000001,s.map AV.c),(1000002,f.map AV.c)]
abbrev mO(c:Nat->Nat->L AV)(s f:L CV):L (Nat×L AV):=[(1000000,c 999991 999992),(999991,s.map AV.c),(999992,f.map AV.c)]
abbrev mI1(c:Nat->Nat->L AV)(f:L CV):L (Nat×L AV):=[(1000000,c 0 1000002),(1000002,f.map AV.c)]
abbrev mO1(c:Nat->Nat->L AV)(f:L CV):L (Nat×L AV):=[(1000000,c 0 999992),(999992,f.map AV.c)]
def PI(N W B:Nat)(k:Nat):Nat:=match Nat.beq k 1000000 with
 |true=>N
 |false=>match Nat.beq k 999991 with
  |true=>W
  |false=>match Nat.beq k 999992 with
   |true=>B
   |false=>k
def uK(us:L Nat)(N E J W B:Nat):Bool :=
 both (distinct [N,E,J]) (both (distinct [N,W,B]) (both (match mem W us with|true=>false|false=>true) (both (match mem B us with|true=>false|false=>true) (both (Nat.blt W 1000000) (Nat.blt B 1000000)))))
def yW(us:L Nat)(N J B:Nat):Bool:=both (distinct [N,J]) (both (distinct [N,B]) (both (match mem B us with|true=>false|false=>true) (Nat.blt B 1000000)))
def Aw{a b c:Nat}(h:distinct [a,b,c]=true):a≠b/\a≠c/\b≠c:=by simp only[distinct]at h;split at h;grind;rename_i h1;split at h;grind;rename_i h2;have U:=cE h1;have P:=cE h2;simp_all
def ab4{bs:L (Nat×L AV)}{us:L Nat}{c Y:Nat->Nat->L AV}(O:MC c)(Q:MC Y){s f A V:L CV}{N E J W B:Nat}(q:uK us N E J W B=true)
  (h1:ak N bs=some (c E J))(h2:ak E bs=some (s.map AV.c))(I:ak J bs=some (f.map AV.c)) :
  ZD bs us (mI c s f) (mO Y A V) [(1000000,N),(1000001,E),(1000002,J)] [(N,1000000),(W,999991),(B,999992)] (PI N W B) [(N,Y W B),(W,A.map AV.c),(B,V.map AV.c)]:=by
 unfold uK at q;obtain⟨u,q⟩:=dU q;obtain⟨H,q⟩:=dU q;obtain⟨G,q⟩:=dU q;obtain⟨C,q⟩:=dU q;obtain⟨p,b2⟩:=dU q;have T:mem W us=false:=by split at G<;>simp_all
 have S:mem B us=false:=by split at C<;>simp_all
 obtain⟨K,P,D⟩:=Aw H;refine⟨u,?_,?_,?_,?_,?_,?_,?_⟩;intro k kk e;simp only[an]at e;split at e;simp_all;split at e;simp_all;split at e;simp_all;simp[ak]at e;intro ts k cs e;simp only[an]at e;split at e;simp at e;subst_vars;exact⟨N,_,fk,h1,O.conv _ _ _ _ _ _ fk fk⟩;split at e;simp at e;subst_vars;exact⟨E,_,fk,h2,dr _⟩;split at e;simp at e;subst_vars;exact⟨J,_,fk,I,dr _⟩;simp[ak]at e;intro M cs' e;simp only[an]at e;split at e;simp at e;subst_vars;exact⟨1000000,Y 999991 999992,fk,fk,by rw[Q.rn];rfl⟩;split at e;simp at e;subst_vars;exact⟨999991,A.map AV.c,Y8,fk,aaG⟩;split at e;simp at e;subst_vars;exact⟨999992,V.map AV.c,by simp[an,Ne.symm P,Ne.symm D],fk,aaG⟩;simp[ak]at e;intro M ok e;simp only[an]at e;split at e;simp at e;subst_vars;rfl;split at e;simp at e;subst_vars;rfl;split at e;simp at e;subst_vars;rfl;simp[ak]at e
 ·intro k hk;have U:=mem_iff.1 hk;simp at U;rcases U with rfl|rfl|rfl
  exact⟨N,fk⟩;exact⟨W,Y8⟩;exact⟨B,by simp[an,Ne.symm P,Ne.symm D]⟩
 intro M ok e;simp only[an]at e;split at e;simp at e;subst_vars;exact .inl ⟨aal _,fk,fk⟩;split at e;simp at e;subst_vars;exact .inr ⟨cE T,Nat.blt_eq.mp p⟩;split at e;simp at e;subst_vars;exact .inr ⟨cE S,Nat.blt_eq.mp b2⟩;simp[ak]at e;intro ok cs e;simp only[an]at e;split at e;simp at e;subst_vars;exact Q.ok _ _ _ Z Z;split at e;simp at e;subst_vars;exact uJ _ _;split at e;simp at e;subst_vars;exact uJ _ _;simp[ak]at e
def ZH{bs:L (Nat×L AV)}{us:L Nat}{c Y:Nat->Nat->L AV}(C:MC c)(P:MC Y)(K:∀ρ ts b S,ρ.bx b=some S->fO ρ ts (c 0 b) (c 0 S))(W:∀us b,mem b us=true->yT us (Y 0 b)=true)(I:∀a b,Y a b=Y 0 b){f V:L CV}{N J B:Nat}(q:yW us N J B=true)
  (h1:ak N bs=some (c 0 J))(H:ak J bs=some (f.map AV.c)) :
  ZD bs us (mI1 c f) (mO1 Y V) [(1000000,N),(1000002,J)] [(N,1000000),(B,999992)] (PI N (B+1) B) [(N,Y 0 B),(B,V.map AV.c)]:=by
 obtain⟨u,q⟩:=dU q;obtain⟨O,q⟩:=dU q;obtain⟨G,E⟩:=dU q;have T:mem B us=false:=by split at G<;>simp_all
 have Q:N≠B:=by simp only[distinct]at O;split at O;grind;rename_i h;have:=cE h;simp at this;exact this
 refine⟨u,?_,?_,?_,?_,?_,?_,?_⟩;intro k p e;simp only[an]at e;split at e;simp_all;split at e;simp_all;simp[ak]at e;intro ts k cs e;simp only[an]at e;split at e;simp at e;subst_vars;exact⟨N,_,fk,h1,K _ _ _ _ fk⟩;split at e;simp at e;subst_vars;exact⟨J,_,fk,H,dr _⟩;simp[ak]at e;intro M A e;simp only[an]at e;split at e;simp at e;subst_vars;exact⟨1000000,Y 0 999992,fk,fk,by rw[P.rn,I];rfl⟩;split at e;simp at e;subst_vars;exact⟨999992,V.map AV.c,by simp[an,Ne.symm Q],fk,aaG⟩;simp[ak]at e;intro M ok e;simp only[an]at e;split at e;simp at e;subst_vars;rfl;split at e;simp at e;subst_vars;rfl;simp[ak]at e
 ·intro k D;have U:=mem_iff.1 D;simp at U;rcases U with rfl|rfl
  exact⟨N,fk⟩;exact⟨B,by simp[an,Ne.symm Q]⟩
 intro M ok e;simp only[an]at e;split at e;simp at e;subst_vars;exact .inl ⟨aal _,fk,fk⟩;split at e;simp at e;subst_vars;exact .inr ⟨cE T,Nat.blt_eq.mp E⟩;simp[ak]at e;intro ok cs e;simp only[an]at e;split at e;simp at e;subst_vars;exact W _ _ Z;split at e;simp at e;subst_vars;exact uJ _ _;simp[ak]at e
section
variable {P : Program}{X : Ctx}{ops : Array Oper}{o : Oper}{rest : L Oper}{env : Env}{acc : L Fp}{Q : Env -> St -> L Fp -> Prop}{bs : L (Nat × L AV)}{ts : L (Nat × Nat)}{us : L Nat}
def kN{bs bs':L (Nat×L AV)}{ks:L Nat}(h:∀k∈ks,ak k bs'=ak k bs){k:Nat}(E:k∈ks){v:L AV}(e:ak k bs=some v):ak k bs'=some v:=by rw[h k E];exact e
def PJ{us us':L Nat}{N E J W B:Nat}(h:∀k∈[N,W,B],k∈us'↔k∈us)(e:uK us N E J W B=true):uK us' N E J W B=true:=by
 have T:∀k∈[N,W,B],mem k us'=mem k us:=by intro k U;rw[abP,mem_iff,mem_iff];exact h k U
 unfold uK at e ⊢;simp_all
def ai.ZI(kn:L Nat)(G:cP ops.toList kn env o=some true){f:FuncId}{args:Array Operand}{B:Array TypeId}(S:o.op = .call {callee := .value (.func f),args:=args,argTypes:=B})
  {c W:Nat->Nat->L AV}{s I V Y:L CV}{p:L AV}{r:AV}(hq:dG P X f (mI c s I) p r (mO W V Y))(O:MC c)(K:MC W){d:Nat}(H:o.dst=some d)
  {l:L AV}(C:gq (aH X env) args.toList=some l){N:Nat}{u:L AV}(hl':l = .ptr N 0::u){E J:Nat}{D q U:L AV}(h1:ak N bs=some D)(e1:D=c E J)(h2:ak E bs=some q)(e2:q=s.map AV.c)(h3:ak J bs=some U)(e3:U=I.map AV.c)
  (qm:∀ts,fO ⟨λk=>ak k [(1000000,N),(1000001,E),(1000002,J)],λ_=>none⟩ ts p l)(j9:uK us N E J (100000+d) (200000+d)=true)(hr:SL [1000000,999991,999992] r=true){T:AV}(M:r.rn (PI N (100000+d) (200000+d))=T)
  {bs':L (Nat×L AV)}(jS:lJ [N,E,J] bs=bs')
  (k:ai P X ops rest ((d,T)::env) ⟨(N,W (100000+d) (200000+d))::(100000+d,V.map AV.c)::(200000+d,Y.map AV.c)::bs',ts,N::(100000+d)::(200000+d)::us⟩ (⟨[],[N,E,J,N,100000+d,200000+d,N,100000+d,200000+d]⟩::acc) Q):ai P X ops (o::rest) env ⟨bs,ts,us⟩ acc Q:=by
 subst M jS e1 e2 e3;have hs:=bI.FO (env:=env) (σ:=⟨bs,ts,us⟩) S C hq (bx:=[(1000000,N),(1000001,E),(1000002,J)]) (po:=[(N,1000000),(100000+d,999991),(200000+d,999992)]) (ψ:=PI N (100000+d) (200000+d)) qm
  (λOv sB A hu=>ab4 O K (PJ hu j9) (kN A c9 h1) (kN A c9 h2) (kN A c9 h3)) hr
 exact ai.step (cZ G) hs (vR _ _ _) (by rw[H];exact k)
def ai.XO(kn:L Nat)(G:cP ops.toList kn env o=some true){f:FuncId}{args:Array Operand}{B:Array TypeId}(O:o.op = .call {callee := .value (.func f),args:=args,argTypes:=B})
  {c Y:Nat->Nat->L AV}{I W:L CV}{p:L AV}{r:AV}(hq:dG P X f (mI1 c I) p r (mO1 Y W))(K:MC c)(H:MC Y)(E:∀ρ ts b U,ρ.bx b=some U->fO ρ ts (c 0 b) (c 0 U))(V:∀us b,mem b us=true->yT us (Y 0 b)=true)(C:∀a b,Y a b=Y 0 b){d:Nat}(u:o.dst=some d)
  {l:L AV}(hl:gq (aH X env) args.toList=some l){N:Nat}{tl:L AV}(hl':l = .ptr N 0::tl){J:Nat}{D T:L AV}(h1:ak N bs=some D)(e1:D=c 0 J)(h3:ak J bs=some T)(e3:T=I.map AV.c)
  (qm:∀ts,fO ⟨λk=>ak k [(1000000,N),(1000002,J)],λ_=>none⟩ ts p l)(q:yW us N J (200000+d)=true)(hr:SL [1000000,999992] r=true){S:AV}(M:r.rn (PI N (200000+d+1) (200000+d))=S)
  {bs':L (Nat×L AV)}(jS:lJ [N,J] bs=bs')
  (k:ai P X ops rest ((d,S)::env) ⟨(N,Y 0 (200000+d))::(200000+d,W.map AV.c)::bs',ts,N::(200000+d)::us⟩ (⟨[],[N,J,N,200000+d,N,200000+d]⟩::acc) Q):ai P X ops (o::rest) env ⟨bs,ts,us⟩ acc Q:=by
 subst M jS e1 e3;have hs:=bI.FO (env:=env) (σ:=⟨bs,ts,us⟩) O hl hq (bx:=[(1000000,N),(1000002,J)]) (po:=[(N,1000000),(200000+d,999992)]) (ψ:=PI N (200000+d+1) (200000+d)) qm
  (λOv sB A hu=>ZH K H E V C (by
   have hm:mem (200000+d) sB=mem (200000+d) us:=(by rw[abP,mem_iff,mem_iff];exact hu _ c9);unfold yW at q ⊢
   rw[hm];exact q) (kN A c9 h1) (kN A c9 h3)) hr
 exact ai.step (cZ G) hs (vR _ _ _) (by rw[u];exact k)
end
end Go.cB
namespace Go.cB
def bU.head{w:World}{g:Gh}{b:Nat}:∀{cells tail:L AV}{o:Nat},bU w g b o (cells++tail)->bU w g b o cells
 |[],_,_,_=>trivial
 |_::_,_,_,⟨h1,h2,U⟩=>⟨h1,h2,bU.head U⟩
def Oy{w:World}{g:Gh}{σ:St}(h:Inv w g σ){P:Nat}{cells cells':L AV}(U:ak P σ.boxes=some cells)(D:∀b,g.box P=some b->bU w g b 0 cells->bU w g b 0 cells') :
  Inv w g ⟨tT P cells' σ.boxes,σ.toks,σ.used⟩/\gG w g σ w g ⟨tT P cells' σ.boxes,σ.toks,σ.used⟩:=by
 have G:∀k cs,ak k (tT P cells' σ.boxes)=some cs->(k=P/\cs=cells')\/ak k σ.boxes=some cs:=by intro k cs e;rw[eu]at e;grind
 have O:∀k cs,ak k (tT P cells' σ.boxes)=some cs->∃W,ak k σ.boxes=some W:=by grind
 refine⟨⟨h.oC,?_,?_,?_,h.gh,h.used,?_⟩,⟨Z,Z,Z,aal _,λ_ _ _=>rfl,λ_ _ _ _=>⟨Z,Z⟩,ja.le.refl _,λ_ _ _ h => .inl h,λk cs b h1 h2=>?_,
   λk n b Q E h1 h2 => .inr ⟨k,n,Q,E,h1,h2,aal _,aal _⟩,λk _ e=>?_⟩⟩
 ·intro k cs e;rcases G k cs e with ⟨rfl,rfl⟩|e'
  obtain⟨b,J,I,p,H⟩:=h.box k _ U;simp_all;exact h.box k cs e'
 intro k k' cs Y b e e';obtain⟨B,q⟩:=O k cs e;obtain⟨V,T⟩:=O k' Y e';exact h.fq k k' B V b q T;intro k n e;obtain⟨S,h1,h2⟩:=h.tok k n e;refine⟨S,h1,λb Q E A=>?_⟩;obtain⟨N,M,K⟩:=h2 b Q E A;refine⟨N,M,λk' cs e'=>?_⟩;obtain⟨B,q⟩:=O k' cs e';exact K k' B q;intro k cs b e;obtain⟨B,q⟩:=O k cs e;exact h.room k B b q;grind;cases D:ak k (tT P cells' σ.boxes)with
 |none=>exact absurd D e
 |some cs =>
  obtain⟨B,q⟩:=O k cs D;exact⟨by rw[q];simp,Z,Z⟩
section
variable {P : Program}{X : Ctx}{f : FuncId}{n : Nat}{β : jq}{R : Ending -> World -> Prop}{K : L Item}{env : Env}
def AK.uL{bs:L (Nat×L AV)}{ts:L (Nat×Nat)}{us:L Nat}(Y:Nat){cells:L AV}(cells' tail:L AV)(E:ak Y bs=some cells)(W:cells=cells'++tail){bs':L (Nat×L AV)}(A:wJ Y cells' bs=some bs')
  (h:AK P X f n β R K env ⟨bs',ts,us⟩):AK P X f n β R K env ⟨bs,ts,us⟩:=by
 rw[rS]at A;simp at A;subst A W;intro g w a cs D;obtain⟨S,V⟩:=Oy D.inv (cells':=cells') E (λb _ W=>W.head);exact h g w a cs ⟨S,D.rT,D.env,D.frame.trans V,D.size,D.defers⟩
def Dw{w:World}{g:Gh}{b:Nat}{x y:AV}:∀{pre tail:L AV}{o:Nat},(∀u,aP g x u->aP g y u)->(x.one=true->y.one=true)->bU w g b o (pre++x::tail)->bU w g b o (pre++y::tail)
 |[],_,_,A,Y,⟨⟨u,h1,h2,U⟩,h4,h5⟩=>⟨⟨u,h1,A u h2,Y U⟩,h4,h5⟩
 |_::_,_,_,A,Y,⟨h1,h2,U⟩=>⟨h1,h2,Dw A Y U⟩
def AK.empty{bs:L (Nat×L AV)}{ts:L (Nat×Nat)}{us:L Nat}(Y W s:Nat)(pre tail:L AV){cells U:L AV}{p:Nat}(E:ak Y bs=some cells)(V:cells=pre ++ .own .exact p []::tail)(J:ak W bs=some U)
  {bs':L (Nat×L AV)}(A:wJ Y (pre ++ .gf W 0 s 0::tail) bs=some bs')(h:AK P X f n β R K env ⟨bs',ts,us⟩):AK P X f n β R K env ⟨bs,ts,us⟩:=by
 rw[rS]at A;simp at A;subst A V;intro g w a cs D;obtain⟨T,S,_⟩:=D.inv.box W U J
 obtain⟨O,Q⟩:=Oy D.inv (cells':=pre ++ .gf W 0 s 0::tail) E (λb _ V=>Dw (λu N=>by
  obtain⟨base,B,M,I,H,C,_,G⟩:=N;subst H G
  exact⟨T,0,base,S,I,aal _,c9,.inl Z⟩) (λ_=>rfl) V)
 exact h g w a cs ⟨O,D.rT,D.env,D.frame.trans Q,D.size,D.defers⟩
end
section
variable {P : Program}{X : Ctx}
def bI.B1(hX:cg P X){o:Oper}{env:Env}{σ:St}{t:TypeId}{x:Operand}{O S:Option Operand}(W:o.op = .slice t x none O S){i j:TI}{e:Nat}(H:X.ti t=some i)(C:i.kind = .slice e)(B:X.ti e=some j)
  {Y off s n:Nat}(q:aH X env x=some (.gf Y off s n))(hs:j.size=s){h:Nat}(p:bound (aH X env) O=some (some h))(hm:bound (aH X env) S=some (some h))(h1:h<=n) :
  bI P X o env σ (.gf Y off s h) (λσ=>σ) ⟨[],[]⟩:=by
 refine bI.val λA w g Q D hD V u=>?_;have xo:aH X A x=some (.gf Y off s n):=by rw[D x (by rw[W];simp[Op.operands])];exact q
 have T:bound (aH X A) O=some (some h):=by rw[j7 O (λy G=>D y (by rw[W];subst G;simp[Op.operands]))];exact p
 have M:bound (aH X A) S=some (some h):=by rw[j7 S (λy G=>D y (by rw[W];subst G;simp[Op.operands]))];exact hm
 have r1:=bV (a:=Q) u V xo;obtain⟨b,E,K,IV,e1,U,Ys,Vp⟩:=r1;have b1:fJ ((none:Option Operand).map Q.eval) none:=nY (g:=g) (ev:=Q.eval) (ρ:=aH X A) (λx v N=>bV u V N) Z;have b2:=nY (g:=g) (ev:=Q.eval) (λx v N=>bV u V N) T;have b3:=nY (g:=g) (ev:=Q.eval) (λx v N=>bV u V N) M;have hb:∀w,(Instr.sliceBounds true n E ((none:Option Operand).map Q.eval) (O.map Q.eval) (S.map Q.eval)).run P w = .ok (0,h,h) w :=
  λw=>pM true b3 b2 b1 (abJ h1 U) (aal _)
 refine⟨.slice (if h=0 then K else K.map (·.add (0*j.size))) (h-0) (h-0),?_,?_⟩;obtain⟨dst,op,I,pos,J,guard⟩:=o;subst W;have:=gb (w:=w) hX H C B (base:=K) hb;simp at this;simp[execOp,e1,this];simp only[aP];refine⟨b,h-0,_,IV,Z,aal _,?_,?_⟩;have:h*s<=E*s:=acz _ (abJ h1 U);simp;omega;by_cases h0:h=0;omega;right;rw[if_neg h0];rcases Vp with h2|h2
 omega;rw[h2,adB,Nat.zero_mul,Addr.add_lit,abI]
end
section
variable {P : Program}{X : Ctx}{ops : Array Oper}{o : Oper}{rest : L Oper}{env : Env}{acc : L Fp}{Q : Env -> St -> L Fp -> Prop}{σ : St}
def ai.B1(hX:cg P X)(kn:L Nat)(G:cP ops.toList kn env o=some true){t:TypeId}{x:Operand}{O S:Option Operand}(U:o.op = .slice t x none O S){d:Nat}(J:o.dst=some d){i j:TI}{e:Nat}(E:X.ti t=some i)(T:i.kind = .slice e)(K:X.ti e=some j)
  {Y off s n:Nat}(N:aH X env x=some (.gf Y off s n))(C:j.size=s){z:Int}{M q:IntKind}{y W:Operand}(I:O=some y)(V:S=some W)(H:aH X env y=some (.c (.int M z)))(D:aH X env W=some (.c (.int q z)))(h:Nat)(B:z=h)(h1:h<=n)
  (k:ai P X ops rest ((d,.gf Y off s h)::env) σ (⟨[],[]⟩::acc) Q):ai P X ops (o::rest) env σ acc Q:=by
 subst I V B;have p:bound (aH X env) (some y)=some (some h):=by simp only[bound,H,asNat]
 have A:bound (aH X env) (some W)=some (some h):=by simp only[bound,D,asNat]
 exact ai.step (cZ G) (bI.B1 (σ:=σ) hX U E T K N C p A h1) (gE.id []) p8
end
end Go.cB
namespace Go.cB
def dR.ZJ{P:Program}{X:Ctx}{f:FuncId}{cells:L CV}{s I:Nat}{oH:L CV}(he:Enters P f)(h0:0<I){rows:L CV}(T:(bB rows).all CV.one=true)
  (h:∀(w:World)(G:ja)(b E:Nat)(vs us:L Value),b<w.heap.size->(∀o,G b o=none)->(∀b o v,G b o=some v->w.cell? ⟨b,o,none⟩=some v)->bT G cells vs ->
   (∀(j:Nat) u,vs[j]?=some u->w.cell? ⟨b,j,none⟩=some u)->cells.all CV.one=true->I<=E->(∀o,(o<E*s->∃u,w.cell? ⟨b,o,none⟩=some u)/\w.frozen? ⟨b,o,none⟩=false)->bT G oH us ->
   ∃news,bT G (bB rows) news/\Calls P f (.slice (some ⟨b,0,none⟩) I E::us).toArray w λe w'=>∃N Y,e = .returned (.slice (some ⟨N,0,none⟩) rows.length Y)/\rows.length<=Y/\N5 w b w' N news/\N<w'.heap.size /\
    ∀o,(o<Y*s->∃u,w'.cell? ⟨N,o,none⟩=some u)/\w'.frozen? ⟨N,o,none⟩=false) :
  dR P X f (some cells) (.gf 1000000 0 s I::oH.map AV.c) (.gf 999999 0 s rows.length) (some (bB rows)):=by
 refine⟨he,λg w vs U bZ fP=>?_⟩;obtain⟨u,us,rfl,hr,pK⟩:=fP;obtain⟨b,E,o,B,rfl,e2,e3,e4⟩:=hr;have S:o=some ⟨b,0,none⟩:=by grind
 subst S;have H:ak 1000000 (qi 1000000 (some cells)).boxes=some (cells.map AV.c):=by simp[qi,an]
 obtain⟨N,c1,c2,c3,c4⟩:=U.box 1000000 _ H;rw[B]at c1;cases c1;obtain⟨vs,v1,v2,v3⟩:=od (tail:=[]) (by simpa using c4);have V:=U.room 1000000 _ b H B;obtain⟨news,n1,D⟩:=h w g.G b E vs us c2 c3 U.oC v1 (λj u C=>by have:=v2 j u C;rwa[abi]at this) v3 e2 (λo=>⟨λS=>(V o).1 bn,(V o).2⟩) (Av pK);refine D.mono ?_;rintro e w' ⟨N,Y,rfl,SG,R,Q,SO⟩;have SH:∀K o v,g.G K o=some v->K≠b/\K<w.heap.size/\K≠N:=by
  intro K o v q;have h1:K≠b:=by rintro rfl;rw[c3]at q;simp at q
  have h2:=Du (U.oC K o v q);refine⟨h1,h2,?_⟩;rintro rfl;rcases R.blk with h|h
  exact h1 h;omega
 let g':Gh:=⟨g.G,λk=>if k=999999 then some N else none,λ_=>none,λk=>if k=999999 then Y*s else 0⟩;have Oq:=(bT.get n1).1;have J:∀k cs,ak k (qi 999999 (some (bB rows))).boxes=some cs->k=999999/\cs=(bB rows).map AV.c:=by intro k cs e;obtain⟨h1,cl,h2,h3⟩:=vO e;cases h2;exact⟨h1,h3⟩
 refine⟨_,g',Z,?_,?_,?_⟩;simp only[aP];exact⟨N,Y,some ⟨N,0,none⟩,aat,Z,SG,aat,.inr Z⟩
 ·refine⟨λK o v q=>?_,?_,?_,λk n e=>by rw[og]at e;simp[ak]at e,λk k' n n' b lo hi lo' hi' e=>by rw[og]at e;simp[ak]at e,λk e=>?_,?_⟩;obtain⟨h1,h2,_⟩:=SH K o v q;rw[s8 (R.rest K h2 h1)];exact U.oC K o v q
  ·intro k cs e;obtain⟨rfl,rfl⟩:=J k cs e;refine⟨N,aat,Q,λo=>?_,?_⟩
   ·cases q:g.G N o with
    |none=>rfl
    |some v=>exact absurd Z (SH N o v q).2.2
   apply bU.jF;intro j c C;obtain⟨q1,q2⟩:=bM.get (oO (g:=g') n1);obtain⟨u,hu,Vg⟩:=q2 j c C;have JQ:c.one=true:=(by have:=(sj (bB rows)).trans T;rw[acK]at this;exact this c (aap C));refine⟨⟨u,by rw[abi];exact R.cells j u hu,Vg,JQ⟩,by rw[abi];exact(SO j).2⟩
  intro k k' cs A b e e' _ _;rw[(J k cs e).1,(J k' A e').1];simp only[g',or_false]at e;by_cases p:k=999999;subst p;simp[qi];simp[p]at e;intro k cs M e O o;obtain⟨rfl,_⟩:=J k cs e;simp only[g',if_true,acU]at O ⊢;subst O;exact SO o
 have W:∀M,(∀o,¬ir g (qi 1000000 (some cells)) M o)\/(∃o,¬ir g (qi 1000000 (some cells)) M o)->M≠b:=by
  rintro M h rfl;have S:∀o,ir g (qi 1000000 (some cells)) M o:=λo => .inl ⟨1000000,_,H,B⟩;rcases h with h|⟨o,h⟩
  exact h 0 (S 0);exact h (S o)
 refine⟨R.os,R.tape,R.output,R.size,λM h1 h2=>R.rest M h1 (W M (.inl h2)),λM o h1 h2=>?_,ja.le.refl _,λ_ _ _ h => .inl h,λk cs M e O=>?_,λk n b lo hi e=>by rw[og]at e;simp[ak]at e,λk p e=>?_⟩;have:=R.rest M h1 (W M (.inr ⟨o,h2⟩));exact⟨s8 this o,yR this o⟩
 ·obtain⟨rfl,_⟩:=J k cs e;simp only[g',if_true,acU]at O;subst O;rcases R.blk with h|h
  subst h;exact .inr ⟨1000000,_,H,B⟩;exact .inl h
 cases D:ak k (qi 999999 (some (bB rows))).boxes with
 |none=>exact absurd D e
 |some cs=>have:=(J k cs D).1;omega
def Kc(d P:Nat)(cells:L AV):gE (λσ=>(σ.eF P).dY d cells) ⟨[],[d,P]⟩ where
 out:=λσ k E=>by simp at E;refine⟨?_,Z,?_⟩;simp only[St.eF,St.dY,jy,an];simp_all;simp only[St.eF,St.dY];simp_all
 same:=λσ B h k E=>by obtain⟨h1,h2,U⟩:=h k (.inr E);refine⟨?_,h2,?_⟩;simp only[St.eF,St.dY,jy,an];simp_all;simp only[St.eF,St.dY,abu,U]
section
variable {P : Program}{X : Ctx}
def bI.qX{o:Oper}{env:Env}{σ:St}{f:FuncId}{args:Array Operand}{S:Array TypeId}(ho:o.op = .call {callee := .value (.func f),args:=args,argTypes:=S})
  {d:Nat}(jc:d<1000000)(hu:mem d σ.used=false){x:Operand}{rest:L Operand}(T:args.toList=x::rest){Y p O:Nat}(M:aH X env x=some (.gf Y 0 p O)){K:L CV}(ha:gL (aH X env) rest=some K)
  {cells:L CV}(D:ak Y σ.boxes=some (cells.map AV.c)){s n:Nat}{cells':L CV}(hq:dR P X f (some cells) (.gf 1000000 0 p O::K.map AV.c) (.gf 999999 0 s n) (some cells')) :
  bI P X o env σ (.gf d 0 s n) (λσ=>(σ.eF Y).dY d (cells'.map AV.c)) ⟨[],[d,Y]⟩:=by
 intro cH B w g a next Q h1 h2 U J cX N;have pX:∀y∈args.toList,y∈o.op.operands.toList:=by intro y G;rw[ho];simp only[Op.operands,Call.operands,abF,aaV];exact .inr G
 have xo:gL (aH X cH) rest=some K:=by rw[ji _ (λy G=>h1 y (pX y (by rw[T];exact abN _ G)))];exact ha
 have I:aH X cH x=some (.gf Y 0 p O):=by rw[h1 x (pX x aaI)];exact M
 have fP:=nk (g:=g) (ev:=a.eval) (λx v M=>bV cX J M) xo;have ZC:=bV (a:=a) cX J I;have J5:ak Y B.boxes=some (cells.map AV.c):=by rw[(h2 Y (.inr c9)).1];exact D
 have q:(execOp a.eval o).run P w = .ok (.enter f (args.map a.eval)) w:=by obtain⟨dst,op,type,pos,H,guard⟩:=o;subst ho;simp[execOp,resolve,Deferred.ofValue,invoke,Act.eval,hq.1 _ w]
 unfold Oper.wp;rw[q,Oper.upon_enter];have C:=Mx U (some Y) (some cells) (λ_ h=>by cases h;exact⟨Y,rfl,J5⟩) (λh=>by cases h);have XI:∀V,(g.fQ (qW (some Y))).box V=if V=1000000 then g.box Y else none:=by intro V;by_cases h:V=1000000<;>simp[Gh.fQ,qW,h]
 have:=hq.2 (g.fQ (qW (some Y))) w (args.toList.map a.eval) C J (by
  rw[T];simp only[abk,bM];refine⟨_,_,Z,?_,oO (g:=g.fQ (qW (some Y))) fP⟩;simp only[aP]at ZC ⊢;obtain⟨b,E,A,W,e2,e3,e4,e5⟩:=ZC
  exact⟨b,E,A,by rw[XI];simpa using W,e2,e3,by simpa[Gh.fQ,qW]using e4,e5⟩)
 rw[show(args.toList.map a.eval).toArray=args.map a.eval from by rw[<- aci]]at this;refine this.mono ?_;rintro e w' ⟨u,g',rfl,h3,h4,h5⟩
 obtain⟨k1,k2,k3,k4⟩:=SD (g0:=g.fQ (qW (some Y))) (My:=qi 1000000 (some cells)) U rfl (og _ _) (some Y) (λk cs b e W=>by
  obtain⟨rfl,_⟩:=vO e;rw[XI]at W
  exact⟨Y,_,Z,J5,by simpa using W⟩) h4 h5 (B.eF Y) (.inr ⟨Y,Z,Z⟩)
 obtain⟨b,c1,c2,c3,c4,c5,c6,c7,c8⟩:=k4 cells' rfl;have SC:d ∉ (B.eF Y).used:=λh=>cE hu ((h2 d (.inr c9)).2.2.1 h);obtain⟨p1,p2,p3⟩:=SF k1 k2 SC jc c2 c3 c4 c5 c6 c7 c8;refine N u w' _ ?_ p1 p2 (k3.trans p3);simp only[aP]at h3 ⊢;obtain⟨b',E,A,W,e2,e3,e4,e5⟩:=h3;rw[c1]at W;cases W;exact⟨b,E,A,c9,e2,e3,by simpa using e4,e5⟩
end
section
variable {P : Program}{X : Ctx}{ops : Array Oper}{o : Oper}{rest : L Oper}{env : Env}{acc : L Fp}{Q : Env -> St -> L Fp -> Prop}{bs : L (Nat × L AV)}{ts : L (Nat × Nat)}{us : L Nat}{σ : St}
def ai.qX(kn:L Nat)(G:cP ops.toList kn env o=some true){f:FuncId}{args:Array Operand}{B:Array TypeId}(S:o.op = .call {callee := .value (.func f),args:=args,argTypes:=B})
  {x:Operand}{W:L Operand}(T:args.toList=x::W){d:Nat}(J:o.dst=some d)(N:Nat.blt d 1000000=true)(E:mem d us=false){Y p V:Nat}(q:aH X env x=some (.gf Y 0 p V)){O:L CV}(M:gL (aH X env) W=some O)
  {cells:L CV}(D:ak Y bs=some (cells.map AV.c)){s n:Nat}{cells':L CV}{U:L AV}(hq:dR P X f (some cells) U (.gf 999999 0 s n) (some cells'))(K:U = .gf 1000000 0 p V::O.map AV.c){bs':L (Nat×L AV)}(I:BH Y bs=bs')
  (k:ai P X ops rest ((d,.gf d 0 s n)::env) ⟨(d,cells'.map AV.c)::bs',ts,d::us⟩ (⟨[],[d,Y]⟩::acc) Q):ai P X ops (o::rest) env ⟨bs,ts,us⟩ acc Q:=by
 subst K I;exact ai.step (cZ G) (bI.qX (σ:=⟨bs,ts,us⟩) S (Nat.blt_eq.mp N) E T q M D hq) (Kc d Y _) p8
def ai.pZ(kn:L Nat)(G:cP ops.toList kn env o=some true){f:FuncId}{args:Array Operand}{B:Array TypeId}(S:o.op = .call {callee := .value (.func f),args:=args,argTypes:=B})
  {x:Operand}(T:args.toList=[x]){d:Nat}(J:o.dst=some d){Y p V:Nat}(O:aH X env x=some (.gf Y 0 p V)){cells cells':L CV}{W:L AV}(D:ak Y bs=some W)(N:W=cells.map AV.c)
  (hq:dG P X f [(1000000,cells.map AV.c)] [.gf 1000000 0 p V] (.c .undef) [(1000000,cells'.map AV.c)]){bs':L (Nat×L AV)}(K:lJ [Y] bs=bs')
  (k:ai P X ops rest ((d,.c .undef)::env) ⟨(Y,cells'.map AV.c)::bs',ts,Y::us⟩ (⟨[],[Y,Y,Y]⟩::acc) Q):ai P X ops (o::rest) env ⟨bs,ts,us⟩ acc Q:=by
 subst K N;have I:gq (aH X env) args.toList=some [.gf Y 0 p V]:=by rw[T];simp only[gq,O]
 have C:=bI.FO (env:=env) (σ:=⟨bs,ts,us⟩) S I hq (bx:=[(1000000,Y)]) (po:=[(Y,1000000)]) (ψ:=λ_=>Y) (nb:=[(Y,cells'.map AV.c)]) (λts=>⟨_,_,Z,⟨_,fk,Z⟩,Z⟩)
  (λOv sB A q=>by
   have E:=kN A c9 D;refine⟨Z,?_,?_,?_,?_,?_,?_,?_⟩;intro k kk e;simp only[an]at e;split at e;simp_all;simp[ak]at e;intro ts k cs e;simp only[an]at e;split at e;simp at e;subst_vars;exact⟨Y,_,fk,E,dr _⟩;simp[ak]at e;intro M H e;simp only[an]at e;split at e;simp at e;subst_vars;exact⟨1000000,cells'.map AV.c,fk,fk,aaG⟩;simp[ak]at e;intro M ok e;simp only[an]at e;split at e;rename_i h;exact h.symm;simp[ak]at e;intro k u;have U:=mem_iff.1 u;simp at U;subst U;exact⟨Y,fk⟩;intro M ok e;simp only[an]at e;split at e;simp at e;subst_vars;exact .inl ⟨aal _,fk,fk⟩;simp[ak]at e;intro ok cs e;simp only[an]at e;split at e;simp at e;subst_vars;exact uJ _ _
   simp[ak]at e) Z
 exact aaS
end
end Go.cB
namespace Go.cB
section
variable {P : Program}{X : Ctx}
def bI.Hl(hX:cg P X){o:Oper}{env:Env}{σ:St}{args:Array Operand}{Y:Array TypeId}(W:o.op = .call {callee := .builtin .append,args:=args,argTypes:=Y})
  {xs y:Operand}(T:args.toList=[xs,y]){t S:Nat}(Am:Y.toList=[t,S]){i j M:TI}{e:Nat}(q:X.ti t=some i)(hk:i.kind = .slice e)(hj:X.ti e=some j)(G:X.ti S=some M)(J:kL M.kind=true)
  {s:Nat}(ha:aH X env xs=some (.own .exact s [])){b:AV}(hb:aH X env y=some b){s1:Nat}(N:mz b=some (s1,[])) :
  bI P X o env σ (.own .exact s []) (λσ=>σ) ⟨[],[]⟩:=by
 refine bI.val λA w g Q D hD I u=>?_;have H:∀x∈args.toList,x∈o.op.operands.toList:=by intro x hx;rw[W];simp only[Op.operands,Call.operands,abF,aaV];exact .inr hx
 have xo:aH X A xs=some (.own .exact s []):=by rw[D xs (H xs aaI)];exact ha
 have V:aH X A y=some b:=by rw[D y (H y aaI)];exact hb
 have rA:=bV (a:=Q) u I xo;have rB:=bV (a:=Q) u I V;obtain⟨base,len,cap,ex,K,E,fD,U⟩:=rA;subst K U;obtain⟨⟨news,n1,n2,n3,n4⟩,n5⟩:=pW (P:=P) (w:=w) (t:=j.size) hD N (by simp only[fH];split<;>rfl) rB;subst n1;obtain⟨dt,_,C,EE⟩:=hX.run_underlying (w:=w) q;rw[hk]at C;subst C;obtain⟨d1,BJ,FL⟩:=yI hX G (by unfold kL at J;exact J) w;obtain⟨inf,Uo,Mp,_⟩:=hX.ti e j hj;have xu:args = #[xs,y]:=by cases args;simp_all
 have Df:Y = #[t,S]:=by cases Y;simp_all
 have p:=kK (ty:=o.type) (w':=w) EE BJ FL Uo (base:=base) (sLen:=0) (sCap:=0) n5 aav (aal _) (by cases base<;>simp[storeCells]);refine⟨.slice base 0 0,?_,by simp_all;exact⟨base,0,0,Z,Z,aal _,.inl Z,Z⟩⟩;obtain⟨dst,op,B,pos,O,guard⟩:=o;simp only at W p;subst W;subst xu Df;simp[execOp,resolve,invoke,builtin,ex,p,Result.andThen]
end
section
variable {P : Program}{X : Ctx}{ops : Array Oper}{o : Oper}{rest : L Oper}{env : Env}{acc : L Fp}{Q : Env -> St -> L Fp -> Prop}{bs : L (Nat × L AV)}{ts : L (Nat × Nat)}{us : L Nat}{σ : St}
def ai.Hl(hX:cg P X)(kn:L Nat)(W:cP ops.toList kn env o=some true){args:Array Operand}{Y:Array TypeId}(V:o.op = .call {callee := .builtin .append,args:=args,argTypes:=Y})
  {xs y:Operand}(T:args.toList=[xs,y]){t U:Nat}(O:Y.toList=[t,U]){d:Nat}(J:o.dst=some d){i j S:TI}{e:Nat}(E:X.ti t=some i)(M:i.kind = .slice e)(K:X.ti e=some j)(G:X.ti U=some S)(D:kL S.kind=true)
  {s:Nat}(I:aH X env xs=some (.own .exact s [])){b:AV}(A:aH X env y=some b){u:Nat}(N:mz b=some (u,[]))
  (k:ai P X ops rest ((d,.own .exact s [])::env) σ (⟨[],[]⟩::acc) Q):ai P X ops (o::rest) env σ acc Q :=
 ai.step (cZ W) (bI.Hl hX V T O E M K G D I A N) (gE.id []) p8
def ai.xF(kn:L Nat)(G:cP ops.toList kn env o=some true){f:FuncId}{args:Array Operand}{Y:Array TypeId}(V:o.op = .call {callee := .value (.func f),args:=args,argTypes:=Y})
  {p:L AV}{r:AV}(hq:dG P X f [] p r []){d:Nat}(J:o.dst=some d){l:L AV}(U:gq (aH X env) args.toList=some l)(D:∀ts,fO ⟨λ_=>none,λ_=>none⟩ ts p l)(A:SL [] r=true)
  {W:AV}(M:r.rn (λk=>k)=W)(k:ai P X ops rest ((d,W)::env) ⟨bs,ts,us⟩ (⟨[],[]⟩::acc) Q):ai P X ops (o::rest) env ⟨bs,ts,us⟩ acc Q:=by
 subst M;have C:=bI.FO (env:=env) (σ:=⟨bs,ts,us⟩) V U hq (bx:=[]) (po:=[]) (ψ:=λk=>k) (nb:=[]) D
  (λOv sB S O=>⟨Z,λk q e=>by simp[ak]at e,λts k cs e=>by simp[ak]at e,λH T e=>by simp[ak]at e,λH ok e=>by simp[ak]at e,λk E=>by simp[mem]at E,λH ok e=>by simp[ak]at e,λok cs e=>by simp[ak]at e⟩) A
 exact aaS
def ai.SP(kn:L Nat)(G:cP ops.toList kn env o=some true){f:FuncId}{args:Array Operand}{Y:Array TypeId}(W:o.op = .call {callee := .value (.func f),args:=args,argTypes:=Y})
  {p:L AV}{s n:Nat}{cells:L CV}(hq:dG P X f [] p (.gf 999999 0 s n) [(999999,cells.map AV.c)]){d:Nat}(J:o.dst=some d)(S:Nat.blt d 1000000=true)(E:mem d us=false){l:L AV}(V:gq (aH X env) args.toList=some l)(D:∀ts,fO ⟨λ_=>none,λ_=>none⟩ ts p l)
  (k:ai P X ops rest ((d,.gf d 0 s n)::env) ⟨(d,cells.map AV.c)::bs,ts,d::us⟩ (⟨[],[d,d]⟩::acc) Q):ai P X ops (o::rest) env ⟨bs,ts,us⟩ acc Q:=by
 have C:=bI.FO (env:=env) (σ:=⟨bs,ts,us⟩) W V hq (bx:=[]) (po:=[(d,999999)]) (ψ:=λ_=>d) (nb:=[(d,cells.map AV.c)]) D
  (λOv sB N T=>⟨Z,λk q e=>by simp[ak]at e,λts k cs e=>by simp[ak]at e,λM A e=>by
    simp only[an]at e;split at e;simp at e;subst_vars;exact⟨999999,cells.map AV.c,fk,fk,aaG⟩
    ·simp[ak]at e,λM ok e=>by
    simp only[an]at e;split at e;omega
    ·simp[ak]at e,λk O=>by
    have U:=mem_iff.1 O;simp at U;subst U;exact⟨d,fk⟩,λM ok e=>by
    simp only[an]at e;split at e;subst_vars;refine .inr ⟨λh=>cE E ((T _ c9).1 h),Nat.blt_eq.mp S⟩
    ·simp[ak]at e,λok cs e=>by
    simp only[an]at e;split at e;simp at e;subst_vars;exact uJ _ _
    simp[ak]at e⟩) Z
 exact aaS
end
section
variable {P : Program}{X : Ctx}{f : FuncId}{n : Nat}{β : jq}{R : Ending -> World -> Prop}{K : L Item}{env : Env}
def Em(a p:AV):Prop:=p=a\/∃Y u,a = .own .exact Y []/\p = .own .exact u []
def Em.rel:∀(g:Gh)(a p:AV)(v:Value),Em a p->aP g a v->aP g p v:=by rintro g a p v (rfl|⟨T,u,rfl,rfl⟩) h;exact h;simp only[aP]at h ⊢;obtain⟨base,B,E,Y,W,U,_,V⟩:=h;exact⟨base,B,E,Y,W,U,.inl rfl,V⟩
def Em.one:∀(a p:AV),Em a p->a.one=true->p.one=true:=by rintro a p (rfl|⟨Y,u,rfl,rfl⟩) h;exact h;rfl
end
end Go.cB
namespace Go.cB
def SQ(N E J:Nat)(k:Nat):Nat:=match Nat.beq k 1000000 with
 |true=>N
 |false=>match Nat.beq k 1000001 with
  |true=>E
  |false=>match Nat.beq k 1000002 with
   |true=>J
   |false=>k
def ZK{bs:L (Nat×L AV)}{us:L Nat}{c W:Nat->Nat->L AV}(Q:MC c)(T:MC W){s f A V:L CV}{Y E N:Nat}(u:distinct [Y,E,N]=true)
  (h1:ak Y bs=some (c E N))(h2:ak E bs=some (s.map AV.c))(P:ak N bs=some (f.map AV.c)) :
  ZD bs us (mI c s f) (mI W A V) [(1000000,Y),(1000001,E),(1000002,N)] [(Y,1000000),(E,1000001),(N,1000002)] (SQ Y E N) [(Y,W E N),(E,A.map AV.c),(N,V.map AV.c)]:=by
 obtain⟨K,S,D⟩:=Aw u;refine⟨u,?_,?_,?_,?_,?_,?_,?_⟩;intro k q e;simp only[an]at e;split at e;grind;split at e;grind;split at e;grind;simp[ak]at e;intro ts k cs e;simp only[an]at e;split at e;simp at e;subst_vars;exact⟨Y,_,fk,h1,Q.conv _ _ _ _ _ _ fk fk⟩;split at e;simp at e;subst_vars;exact⟨E,_,fk,h2,dr _⟩;split at e;simp at e;subst_vars;exact⟨N,_,fk,P,dr _⟩;simp[ak]at e;intro M O e;simp only[an]at e;split at e;simp at e;subst_vars;exact⟨1000000,W 1000001 1000002,fk,fk,by rw[T.rn];rfl⟩;split at e;simp at e;subst_vars;exact⟨1000001,A.map AV.c,Y8,fk,aaG⟩;split at e;simp at e;subst_vars;exact⟨1000002,V.map AV.c,by simp[an,Ne.symm S,Ne.symm D],fk,aaG⟩;simp[ak]at e;intro M ok e;simp only[an]at e;split at e;simp at e;subst_vars;rfl;split at e;simp at e;subst_vars;rfl;split at e;simp at e;subst_vars;rfl;simp[ak]at e
 ·intro k J;have U:=mem_iff.1 J;simp at U;rcases U with rfl|rfl|rfl
  exact⟨Y,fk⟩;exact⟨E,Y8⟩;exact⟨N,by simp[an,Ne.symm S,Ne.symm D]⟩
 intro M ok e;simp only[an]at e;split at e;simp at e;subst_vars;exact .inl ⟨aal _,fk,fk⟩;split at e;simp at e;subst_vars;exact .inl ⟨cc,fk,fk⟩;split at e;simp at e;subst_vars;exact .inl ⟨cc,fk,fk⟩;simp[ak]at e;intro ok cs e;simp only[an]at e;split at e;simp at e;subst_vars;exact T.ok _ _ _ Z Z;split at e;simp at e;subst_vars;exact uJ _ _;split at e;simp at e;subst_vars;exact uJ _ _;simp[ak]at e
section
variable {P : Program}{X : Ctx}{ops : Array Oper}{o : Oper}{rest : L Oper}{env : Env}{acc : L Fp}{Q : Env -> St -> L Fp -> Prop}{bs : L (Nat × L AV)}{ts : L (Nat × Nat)}{us : L Nat}
def ai.XP(kn:L Nat)(G:cP ops.toList kn env o=some true){f:FuncId}{args:Array Operand}{B:Array TypeId}(O:o.op = .call {callee := .value (.func f),args:=args,argTypes:=B})
  {c V:Nat->Nat->L AV}{s I U W:L CV}{p:L AV}{r:AV}(hq:dG P X f (mI c s I) p r (mI V U W))(K:MC c)(J:MC V){d:Nat}(H:o.dst=some d)
  {l:L AV}(C:gq (aH X env) args.toList=some l){Y:Nat}{u:L AV}(hl':l = .ptr Y 0::u){E N:Nat}{D q T:L AV}(h1:ak Y bs=some D)(e1:D=c E N)(h2:ak E bs=some q)(e2:q=s.map AV.c)(h3:ak N bs=some T)(e3:T=I.map AV.c)
  (qm:∀ts,fO ⟨λk=>ak k [(1000000,Y),(1000001,E),(1000002,N)],λ_=>none⟩ ts p l)(j9:distinct [Y,E,N]=true)(hr:SL [1000000,1000001,1000002] r=true){S:AV}(M:r.rn (SQ Y E N)=S)
  {bs':L (Nat×L AV)}(jS:lJ [Y,E,N] bs=bs')
  (k:ai P X ops rest ((d,S)::env) ⟨(Y,V E N)::(E,U.map AV.c)::(N,W.map AV.c)::bs',ts,Y::E::N::us⟩ (⟨[],[Y,E,N,Y,E,N,Y,E,N]⟩::acc) Q):ai P X ops (o::rest) env ⟨bs,ts,us⟩ acc Q:=by
 subst M jS e1 e2 e3;have hs:=bI.FO (env:=env) (σ:=⟨bs,ts,us⟩) O C hq (bx:=[(1000000,Y),(1000001,E),(1000002,N)]) (po:=[(Y,1000000),(E,1000001),(N,1000002)]) (ψ:=SQ Y E N) qm
  (λOv sB A hu=>ZK K J j9 (kN A c9 h1) (kN A c9 h2) (kN A c9 h3)) hr
 exact ai.step (cZ G) hs (vR _ _ _) (by rw[H];exact k)
end
def ce{p:Prop}(h:p:=by repeat' (first|exact trivial|exact Z|exact .inl Z|exact .inr Z|exact⟨_,Z,Z⟩|exact⟨_,Z,.inl ⟨Z,_,Z,.inl Z⟩⟩|exact⟨_,Z,.inl ⟨Z,_,Z,.inr Z⟩⟩|exact⟨_,Z,.inr ⟨_,_,Z,Z,Z⟩⟩|exact .inr ⟨_,_,Z,Z⟩|refine⟨_,_,Z,?_,?_⟩|refine⟨⟨_,Z,?_⟩,?_⟩|refine⟨⟨_,_,Z,Z,?_⟩,?_⟩|refine⟨?_,?_⟩|refine⟨_,_,Z,Z,?_⟩)):p:=h
end Go.cB
