/- A layer of abstract values over the model, part D: -/
import Derived.Test.YtdnpapgijbhofaaGreatDoorLibC
import Derived.ArgAppend
import Derived.Lib.AppendZerosOnto
import Derived.Deep.AppendSrc
import Derived.Laws.IdiomCopy
import Derived.Lib.SliceRun
import Derived.Laws.Externs
set_option linter.defProp false
set_option linter.unusedSimpArgs false
set_option linter.unusedVariables false
namespace Go.cM
def R7(T:AV->AV->Prop):L AV->L AV->Prop
 |[],[]=>True
 |a::l,b::m=>T a b/\R7 T l m
 |_,_=>False
def Xd(T:AV->AV->Prop)(env:Env):Env->Prop
 |[]=>True
 |(t,Y)::l=>(∃a,ak t env=some a/\T a Y)/\Xd T env l
def Xe(T:AV->AV->Prop)(bs:L (Nat×L AV)):L (Nat×L AV)->Prop
 |[]=>True
 |(k,cells')::l=>(∃cells,ak k bs=some cells/\R7 T cells cells')/\Xe T bs l
def R8(M s:Nat)(rows:L CV)(a Y:AV):Prop:=Y=a\/∃n,a = .fZ M 0 s n/\n=rows.length/\Y = .c (.sl s rows)
def Nil(a Y:AV):Prop:=Y=a\/∃O u,(a = .c (.sl O [])\/a = .own .exact O [])/\Y = .c (.sl u [])
def FF{T:AV->AV->Prop}{env:Env}:∀{env':Env},Xd T env env'->∀t Y,ak t env'=some Y->∃a,ak t env=some a/\T a Y
 |[],_,t,Y,e=>by simp[ak]at e
 |(W,V)::l,⟨h1,h2⟩,t,Y,e=>by
  simp only[an]at e;split at e
  ·simp_all
  ·exact FF h2 t Y e
def iZ{T:AV->AV->Prop}{bs:L (Nat×L AV)}:∀{bs':L (Nat×L AV)},Xe T bs bs'->∀k P,ak k bs'=some P->∃cs,ak k bs=some cs/\R7 T cs P
 |[],_,t,a',e=>by simp[ak]at e
 |(Y,W)::l,⟨h1,h2⟩,t,a',e=>by
  simp only[an]at e;split at e
  ·simp_all
  ·exact iZ h2 t a' e
def Mf{M:Nat}:∀{bs:L (Nat×L AV)},(bs.all λp => !Nat.beq p.1 M)=true->∀k cs,ak k bs=some cs->k≠M
 |[],_,k,cs,e=>by simp[ak]at e
 |(Y,W)::l,h,k,cs,e=>by
  simp only[aaE,aal]at h;simp only[an]at e;split at e
  ·rename_i I;subst I;exact beq_false (by simpa using h.1)
  ·exact Mf h.2 k cs e
section
variable {P : Program}{X : Ctx}{f : FuncId}{n : Nat}{β : je}{R : Ending -> World -> Prop}{K : L Item}{env : Env}
def AK.AO{bs:L (Nat×L AV)}{ts:L (Nat×Nat)}{us:L Nat}(M s:Nat)(rows:L CV){cells tail:L AV}{env':Env}{bs':L (Nat×L AV)}{ts':L (Nat×Nat)}
  (D:ak M bs=some cells)(hc:cells=ag rows++tail)(hs:∀r∈rows,r.cells.length=s)
  (he:Xd (R8 M s rows) env env')(A:Xe (R8 M s rows) bs bs')(hk':(bs'.all λp => !Nat.beq p.1 M)=true)(ht:HM ts ts')
  (h:AK P X f n β R K env' ⟨bs',ts',us⟩):AK P X f n β R K env ⟨bs,ts,us⟩:=by
 intro g w a cs W;obtain⟨b,H,OQ,Yf,Yg⟩:=W.inv.box M cells D;let V:iJ:=λQ o=>if Q=b/\o<(bD rows).length then w.cell? ⟨b,o,none⟩else g.G Q o
 let g':Gh:=⟨V,g.box,g.tok,g.room⟩
 have Kx:g.G.le V:=by
  intro Q o v B;by_cases yd:Q=b
  ·simp_all
  ·grind
 have hle:g.le g':=⟨Kx,λ_ _ x=>x,λ_ _ _=>rfl,λk hw fI x=>⟨hw,fI,x,aav _,λ_=>rfl⟩⟩
 have U:∀Q o,Q≠b->g.G Q o=none->V Q o=none:=by grind
 rw[hc]at Yg;obtain⟨vs,v1,v2,v3⟩:=nr Yg;have hvl:=(bI.get v1).1;have ie:cL V b 0 (bD rows):=by
  refine lN (bI.mono Kx _ _ v1) (λj u hj=>?_) v3;have hlt:j<vs.length:=(List.getElem?_eq_some_iff.1 hj).1;show(if b=b/\0+j<(bD rows).length then w.cell? ⟨b,0+j,none⟩else g.G b (0+j))=some u;rw[if_pos ⟨Z,bn⟩];exact v2 j u hj
 have fF:eP V s b 0 rows:=nW.2 ⟨ie,hs⟩;have hF:∀a a' v,R8 M s rows a a'->aI g a v->aI g' a' v:=by
  rintro a a' v (rfl|⟨m,rfl,hm,rfl⟩) E
  ·exact aI.mono hle _ _ E
  ·simp only[aI]at E;obtain⟨Q,cap,o,C,rfl,q,e3,e4⟩:=E;rw[H]at C;cases C;simp only[aI,Rel];refine⟨_,m,cap,Z,hm,q,?_⟩;rcases e4 with e4|rfl
   ·simp_all
   ·grind
 have ZE:∀(l S:L AV)(Q o:Nat),R7 (R8 M s rows) l S->cg w g Q o l->cg w g' Q o S:=by
  intro l
  induction l with
  |nil=>intro S Q o h1 _;cases S with
   |nil=>trivial
   |cons x m=>simp[R7]at h1
  |cons x l ih=>intro S Q o h1 h2;cases S with
   |nil=>simp[R7]at h1
   |cons y m =>
    obtain⟨O,h4⟩:=h1;obtain⟨⟨u,f1,f2,f3⟩,f4,f5⟩:=h2;refine⟨⟨u,f1,hF _ _ _ O f2,?_⟩,f4,ih m Q (o+1) h4 f5⟩;rcases O with rfl|⟨m,rfl,hm,rfl⟩
    ·exact f3
    ·rfl
 have th:∀k cs Q,k≠M->ak k bs=some cs->g.box k=some Q->Q≠b:=by
  rintro k cs Q h1 h2 O rfl;exact h1 (W.inv.fo k M cs cells _ h2 D O H)
 have hT:∀k m,ak k ts'=some m->ak k ts=some m:=λk m e=>oO ht k m e;have J:Inv w g' ⟨bs',ts',us⟩:=by
  refine⟨?_,?_,?_,?_,?_,W.inv.used,?_⟩
  ·intro Q o v B;simp only[g',V]at B;split at B
   ·simp_all
   ·exact W.inv.nF Q o v B
  ·intro k Y e;have h1:=Mf hk' k Y e;obtain⟨N,h2,O⟩:=iZ A k Y e;obtain⟨Q,f1,f2,f3,f4⟩:=W.inv.box k N h2;exact⟨Q,f1,f2,λo=>U Q o (th k N Q h1 h2 f1) (f3 o),ZE _ _ _ _ O f4⟩
  ·intro k k' x x' Q e e' C q;obtain⟨N,h2,_⟩:=iZ A k x e;obtain⟨ZF,tu,_⟩:=iZ A k' x' e';exact W.inv.fo k k' N ZF Q h2 tu C q
  ·intro k m e;obtain⟨fI,C,q⟩:=W.inv.tok k m (hT k m e);refine⟨fI,C,λQ lo hi E=>?_⟩;obtain⟨e3,e4,e5⟩:=q Q lo hi E;have yd:Q≠b:=by rintro rfl;exact e5 M cells D H
   refine⟨e3,λo h1 h2=>?_,λk' Y e'=>?_⟩
   ·grind
   ·obtain⟨N,h2,_⟩:=iZ A k' Y e';exact e5 k' N h2
  ·intro k k' m m' Q lo hi lo' hi' e e' C q;exact W.inv.ga k k' m m' Q lo hi lo' hi' (hT k m e) (hT k' m' e') C q
  ·intro k Y Q e C o;obtain⟨N,h2,_⟩:=iZ A k Y e;exact W.inv.room k N Q h2 C o
 have T:gy w g ⟨bs,ts,us⟩ w g' ⟨bs',ts',us⟩:=by
  refine⟨Z,Z,Z,aav _,λ_ _ _=>rfl,λ_ _ _ _=>⟨Z,Z⟩,Kx,?_,?_,?_,?_⟩
  ·intro Q o v B;simp only[g',V]at B;split at B
   ·rename_i hh;obtain⟨rfl,_⟩:=hh;exact .inr (.inr (.inl ⟨M,cells,D,H⟩))
   ·exact .inl B
  ·intro k Y Q e C;obtain⟨N,h2,_⟩:=iZ A k Y e;exact .inr ⟨k,N,h2,C⟩
  ·grind
  ·intro k _ e;cases I:ak k bs' with
   |none=>exact absurd I e
   |some Y =>
    obtain⟨N,h2,_⟩:=iZ A k Y I;exact⟨by show ak k bs≠none;rw[h2];simp,Z,Z⟩
 refine h g' w a cs ⟨J,?_,?_,W.frame.trans T,W.size,W.defers⟩
 ·exact λm v hm=>Rel.mono Kx _ _ (W.qe m v hm)
 ·intro t x e;obtain⟨a0,h1,h2⟩:=FF he t x e;exact hF _ _ _ h2 (W.env t a0 h1)
def AK.weak{bs:L (Nat×L AV)}{ts:L (Nat×Nat)}{us:L Nat}(T:AV->AV->Prop)(hT:∀g a O v,T a O->aI g a v->aI g O v)(h1:∀a O,T a O->a.one=true->O.one=true)
  {env':Env}{bs':L (Nat×L AV)}{ts':L (Nat×Nat)}(he:Xd T env env')(A:Xe T bs bs')(ht:HM ts ts')
  (h:AK P X f n β R K env' ⟨bs',ts',us⟩):AK P X f n β R K env ⟨bs,ts,us⟩:=by
 intro g w a cs W;have ZE:∀(l U:L AV)(Q o:Nat),R7 T l U->cg w g Q o l->cg w g Q o U:=by
  intro l
  induction l with
  |nil=>intro U Q o h1 _;cases U with
   |nil=>trivial
   |cons x m=>simp[R7]at h1
  |cons x l ih=>intro U Q o xq h2;cases U with
   |nil=>simp[R7]at xq
   |cons y m =>
    obtain⟨S,h4⟩:=xq;obtain⟨⟨u,J,I,G⟩,H,f5⟩:=h2;exact⟨⟨u,J,hT _ _ _ _ S I,h1 _ _ S G⟩,H,ih m Q (o+1) h4 f5⟩
 have E:∀k m,ak k ts'=some m->ak k ts=some m:=λk m e=>oO ht k m e;have N:Inv w g ⟨bs',ts',us⟩:=by
  refine⟨W.inv.nF,?_,?_,?_,?_,W.inv.used,?_⟩
  ·intro k Y e;obtain⟨p,h2,S⟩:=iZ A k Y e;obtain⟨Q,J,I,G,H⟩:=W.inv.box k p h2;exact⟨Q,J,I,G,ZE _ _ _ _ S H⟩
  ·intro k k' x x' Q e e' C q;obtain⟨p,h2,_⟩:=iZ A k x e;obtain⟨ZF,tu,_⟩:=iZ A k' x' e';exact W.inv.fo k k' p ZF Q h2 tu C q
  ·intro k m e;obtain⟨fI,C,q⟩:=W.inv.tok k m (E k m e);refine⟨fI,C,λQ D B hr=>?_⟩;obtain⟨e3,e4,e5⟩:=q Q D B hr;refine⟨e3,e4,λk' Y e'=>?_⟩;obtain⟨p,h2,_⟩:=iZ A k' Y e';exact e5 k' p h2
  ·intro k k' m m' Q D B lo' hi' e e' C q;exact W.inv.ga k k' m m' Q D B lo' hi' (E k m e) (E k' m' e') C q
  ·intro k Y Q e C o;obtain⟨p,h2,_⟩:=iZ A k Y e;exact W.inv.room k p Q h2 C o
 have V:gy w g ⟨bs,ts,us⟩ w g ⟨bs',ts',us⟩:=by
  refine⟨Z,Z,Z,aav _,λ_ _ _=>rfl,λ_ _ _ _=>⟨Z,Z⟩,iJ.le.refl _,λ_ _ _ h => .inl h,?_,?_,?_⟩
  ·intro k Y Q e C;obtain⟨p,h2,_⟩:=iZ A k Y e;exact .inr ⟨k,p,h2,C⟩
  ·grind
  ·intro k _ e;cases M:ak k bs' with
   |none=>exact absurd M e
   |some Y =>
    obtain⟨p,h2,_⟩:=iZ A k Y M;exact⟨by show ak k bs≠none;rw[h2];simp,Z,Z⟩
 refine h g w a cs ⟨N,W.qe,?_,W.frame.trans V,W.size,W.defers⟩;intro t x e;obtain⟨a0,h2,S⟩:=FF he t x e;exact hT _ _ _ _ S (W.env t a0 h2)
def Nil.rel:∀(g:Gh)(a Y:AV)(v:Value),Nil a Y->aI g a v->aI g Y v:=by
 rintro g a Y v (rfl|⟨O,u,rfl|rfl,rfl⟩) hr
 ·exact hr
 ·simp only[aI,Rel]at hr ⊢;obtain⟨base,K,D,e,h1,h2,_⟩:=hr;exact⟨base,K,D,e,h1,h2,.inl trivial⟩
 ·simp only[aI,Rel]at hr ⊢;obtain⟨base,K,D,e,h1,h2,_⟩:=hr;exact⟨base,K,D,e,h1,h2,.inl trivial⟩
def Nil.one:∀(a Y:AV),Nil a Y->a.one=true->Y.one=true:=by
 rintro a Y (rfl|⟨O,u,rfl|rfl,rfl⟩) h
 ·exact h
 ·rfl
 ·rfl
def zV{v:AV}:∀{o:Nat}{l:L AV},o<l.length->dI o [v] l=some (l.set o v)
 |_,[],h=>by simp at h
 |0,x::l,_=>by simp[dI]
 |o+1,x::l,h=>by
  have:=zV (v:=v) (o:=o) (l:=l) q6;simp only[dI,this,List.set_cons_succ]
end
end Go.cM
namespace Go.cM
def pq(k:Nat):Option (L CV)->St
 |none=>⟨[],[],[]⟩
 |some cells=>⟨[(k,cells.map AV.c)],[],[k]⟩
def uK{k G:Nat}{H:Option (L CV)}{cs:L AV}(h:ak G (pq k H).boxes=some cs):G=k/\∃cells,H=some cells/\cs=cells.map AV.c:=by
 cases H with
 |none=>simp[pq,ak]at h
 |some cells =>
  simp only[pq,an]at h;split at h
  ·simp_all
  ·simp[ak]at h
def nv(k:Nat)(H:Option (L CV)):(pq k H).toks=[]:=by cases H<;>rfl
def GR(β:je)(r:AV)(N:Option (L CV)):Ending->World->Prop:=λe w' =>
 ∃u g',e = .returned u/\aI g' r u/\Inv w' g' (pq 999999 N)/\gy β.w β.g β.σ w' g' (pq 999999 N)
def dV(P:Program)(X:Ctx)(f:FuncId)(H:Option (L CV))(J:L AV)(r:AV)(N:Option (L CV)):Prop :=
 Enters P f/\∀(g:Gh)(w:World)(vs:L Value),Inv w g (pq 1000000 H)->mA X g.G->bC g J vs ->
  Calls P f vs.toArray w (GR ⟨w,g,pq 1000000 H⟩ r N)
def dy{ρ:Ren}{ts:L (Nat×Nat)}:∀(cs:L CV),eY ρ ts (cs.map AV.c) (cs.map AV.c)
 |[]=>by simp[eY]
 |c::cs=>by
  simp only[Zl,eY];exact⟨_,_,Z,by simp[Conv],dy cs⟩
def qg(M:Option Nat):Ren:=⟨λk=>if k=1000000 then M else none,λ_=>none⟩
def Ky{w:World}{g:Gh}{σ:St}(Y:Inv w g σ)(M:Option Nat)(H:Option (L CV))(h:∀cells,H=some cells->∃G,M=some G/\ak G σ.boxes=some (cells.map AV.c))(p:H=none->M=none) :
  Inv w (g.fL (qg M)) (pq 1000000 H):=by
 refine(Y.fL (qg M) _ ?_ ?_ ?_ ?_ ?_).1
 ·intro k cs e;obtain⟨rfl,cells,C,rfl⟩:=uK e;obtain⟨G,Q,V⟩:=h cells C;exact⟨G,_,by simp[qg,Q],V,dy _⟩
 ·intro k k' S e e';simp only[qg]at e e';split at e
  ·simp_all
  ·simp at e
 ·intro k n e;rw[nv]at e;simp[ak]at e
 ·intro k k' m W S e;simp[qg]at e
 ·intro k e;simp only[qg,ne_eq,acH,acw]at e;by_cases D:k=1000000
  ·subst D;cases H with
   |none=>simp[p rfl]at e
   |some cells=>simp[pq]
  ·simp[D]at e
def Qs{w w':World}{g g0 g':Gh}{σ Kz:St}(Y:Inv w g σ)(h0G:g0.G=g.G)(h0t:Kz.toks=[])(M:Option Nat)
  (h0:∀k cs b,ak k Kz.boxes=some cs->g0.box k=some b->∃T P,M=some T/\ak T σ.boxes=some P/\g.box T=some b)
  {bo:Option (L CV)}(I:Inv w' g' (pq 999999 bo))(D:gy w g0 Kz w' g' (pq 999999 bo))(W:St)
  (hd:(M=none/\W=σ)\/∃T,M=some T/\W=σ.eA T) :
  let g1:Gh:=⟨g'.G,g.box,g.tok,g.room⟩
  Inv w' g1 W/\gy w g σ w' g1 W/\g.le g1 /\
   ∀cells,bo=some cells->∃b,g'.box 999999=some b/\b<w'.heap.size/\(∀o,g'.G b o=none)/\cg w' g1 b 0 (cells.map AV.c) /\
    (∀k cs,ak k W.boxes=some cs->g.box k≠some b)/\(∀k n b' H K,ak k W.toks=some n->g.tok k=some (n,some (b',H,K))->b'≠b) /\
    (w.heap.size<=b\/∃k0 p,ak k0 σ.boxes=some p/\g.box k0=some b)/\∀o,(o<g'.room 999999->∃u,w'.cell? ⟨b,o,none⟩=some u)/\w'.frozen? ⟨b,o,none⟩=false:=by
 intro g1;have own:∀b o,gX g0 Kz b o->∃T P,M=some T/\ak T σ.boxes=some P/\g.box T=some b:=by
  rintro b o (⟨k,cs,C,q⟩|⟨k,n,H,K,C,_⟩)
  ·exact h0 k cs b C q
  ·rw[h0t]at C;simp[ak]at C
 have En:∀b o,gX g0 Kz b o->gX g σ b o:=by
  intro b o h;obtain⟨T,P,_,C,q⟩:=own b o h;exact .inl ⟨T,P,C,q⟩
 have O:∀k cs,ak k W.boxes=some cs->ak k σ.boxes=some cs/\M≠some k:=by
  intro k cs e;rcases hd with ⟨rfl,rfl⟩|⟨T,rfl,rfl⟩
  ·exact⟨e,ek⟩
  ·simp only[St.eA,jl]at e;split at e
   ·simp at e
   ·grind
 have Vh:W.toks=σ.toks:=by rcases hd with ⟨_,rfl⟩|⟨T,_,rfl⟩<;>rfl
 have Xf:W.used=σ.used:=by rcases hd with ⟨_,rfl⟩|⟨T,_,rfl⟩<;>rfl
 have Qt:∀k cs b,ak k W.boxes=some cs->g.box k=some b->∀o,¬gX g0 Kz b o:=by
  intro k cs b e A o S;obtain⟨T,P,C,q,e3⟩:=own b o S;obtain⟨e4,e5⟩:=O k cs e;have:=Y.fo k T cs P b e4 q A e3;subst this;exact e5 C
 have E:g.le g1:=⟨λb o v h=>D.le b o v (by rw[h0G];exact h),λ_ _ h=>h,λ_ _ _=>rfl,λk hw fI h=>⟨hw,fI,h,aav _,λ_=>rfl⟩⟩
 have V:∀b o,b<w.heap.size->¬gX g0 Kz b o->g.G b o=none->g'.G b o=none:=by
  intro b o A J h;cases hg:g'.G b o with
  |none=>rfl
  |some v =>
   rcases D.new b o v hg with h'|h'|h'
   ·simp_all
   ·omega
   ·exact absurd h' J
 have Vi:∀k n b H K,ak k σ.toks=some n->g.tok k=some (n,some (b,H,K))->∀o,¬gX g0 Kz b o:=by
  intro k n b H K e C o S;obtain⟨fI,U,f2⟩:=Y.tok k n e;rw[C]at U;simp at U;subst U;obtain⟨T,P,_,q,e3⟩:=own b o S;exact(f2 b H K Z).2.2 T P q e3
 refine⟨⟨I.nF,?_,?_,?_,?_,?_,?_⟩,⟨D.os,D.tape,D.output,D.size,λb A J=>D.block b A (λo S=>J o (En b o S)),λb o A J=>D.kept b o A (λS=>J (En b o S)),?_,?_,?_,?_,?_⟩,E,?_⟩
 ·intro k cs e;obtain⟨e0,_⟩:=O k cs e;obtain⟨b,Q,B,b3,b4⟩:=Y.box k cs e0;have J:=Qt k cs b e Q;exact⟨b,Q,aaU B D.size,λo=>V b o B (J o) (b3 o),(cg.of_same (λo=>D.kept b o B (J o)) b4).mono E⟩
 ·intro k k' cs P b e e';exact Y.fo k k' cs P b (O k cs e).1 (O k' P e').1
 ·intro k n e;rw[Vh]at e;obtain⟨fI,h1,h2⟩:=Y.tok k n e;refine⟨fI,h1,λb H K hr=>?_⟩;obtain⟨N,h4,h5⟩:=h2 b H K hr;subst hr;refine⟨aaU N D.size,λo HK Kj=>?_,λk' cs e'=>h5 k' cs (O k' cs e').1⟩;obtain⟨h6,⟨u,h7⟩,h8⟩:=h4 o HK Kj;have J:=Vi k n b H K e h1 o;exact⟨V b o N J h6,⟨u,(D.kept b o N J).1.trans h7⟩,(D.kept b o N J).2.trans h8⟩
 ·rw[Vh];exact Y.ga
 ·rw[Xf];exact Y.used
 ·intro k cs b e A o;obtain⟨e0,_⟩:=O k cs e;obtain⟨b',Q,B,_⟩:=Y.box k cs e0;rw[A]at Q;cases Q;have J:=Qt k cs b e A o;obtain⟨q1,q2⟩:=Y.room k cs b e0 A o;exact⟨λS=>(q1 S).imp λu hu=>(D.kept b o B J).1.trans hu,(D.kept b o B J).2.trans q2⟩
 ·exact E.1
 ·intro b o v h;rcases D.new b o v h with h'|h'|h'
  ·simp_all
  ·exact .inr (.inl h')
  ·simp_all
 ·grind
 ·grind
 ·intro k _ e;cases hc:ak k W.boxes with
  |none=>exact absurd hc e
  |some cs=>exact⟨by rw[(O k cs hc).1];simp,Z,Z⟩
 ·rintro cells rfl;have hg:ak 999999 (pq 999999 (some cells)).boxes=some (cells.map AV.c):=by simp[pq,an]
  obtain⟨b,Q,B,b3,b4⟩:=I.box 999999 _ hg;have hor:=D.boxes 999999 _ b hg Q;refine⟨b,Q,B,b3,?_,?_,?_,?_,I.room 999999 _ b hg Q⟩
  ·have:∀(l:L CV)(o:Nat),cg w' g' b o (l.map AV.c)->cg w' g1 b o (l.map AV.c):=by
    intro l
    induction l with
    |nil=>intro o _;trivial
    |cons c l ih =>
     intro o h;obtain⟨⟨u,h1,h2,N⟩,h4,h5⟩:=h;exact⟨⟨u,h1,KU,N⟩,h4,ih _ h5⟩
   exact this _ _ b4
  ·intro k cs e A;obtain⟨e0,C⟩:=O k cs e;obtain⟨b',U,f2,_⟩:=Y.box k cs e0;rw[A]at U;cases U;rcases hor with h|⟨k0,p,h1,h2⟩
   ·omega
   ·obtain⟨T,P,N,h4,h5⟩:=h0 k0 p b h1 h2;have:=Y.fo k T cs P b e0 h4 A h5;subst this;exact C N
  ·rintro k n b' H K e C rfl;rw[Vh]at e;obtain⟨fI,U,f2⟩:=Y.tok k n e;rw[C]at U;simp at U;subst U;obtain⟨f3,_,f5⟩:=f2 _ H K rfl;rcases hor with h|⟨k0,p,h1,h2⟩
   ·omega
   ·grind
  ·grind
def Qu{T w:World}{g0 g:Gh}{Kz σ:St}(Y:Inv w g σ)(D:gy T g0 Kz w g σ){d:Nat}(hd:d ∉ σ.used)(iL:d<1000000){b R:Nat}{cells:L AV}(hb:b<w.heap.size)(hG:∀o,g.G b o=none)(hc:cg w g b 0 cells)
  (ym:∀k cs,ak k σ.boxes=some cs->g.box k≠some b)(AH:∀k n Q H K,ak k σ.toks=some n->g.tok k=some (n,some (Q,H,K))->Q≠b)
  (E:T.heap.size<=b\/∃A p,ak A Kz.boxes=some p/\g0.box A=some b)(O:∀o,(o<R->∃u,w.cell? ⟨b,o,none⟩=some u)/\w.frozen? ⟨b,o,none⟩=false) :
  let g':Gh:=⟨g.G,λk=>if k=d then some b else g.box k,g.tok,λk=>if k=d then R else g.room k⟩
  Inv w g' (σ.dS d cells)/\gy T g0 Kz w g' (σ.dS d cells)/\g.le g':=by
 intro g';have Qf:g.box d=none:=by
  cases h:g.box d with
  |none=>rfl
  |some x=>exact absurd (Y.used d (.inl ri)) hd
 have W:g.le g':=by
  refine⟨iJ.le.refl _,λk x h=>?_,λk x h=>?_,λk hw N h=>⟨hw,N,h,aav _,λ_=>rfl⟩⟩
  ·grind
  ·grind
 have B:∀k cs,ak k (σ.dS d cells).boxes=some cs->(k=d/\cs=cells)\/(k≠d/\ak k σ.boxes=some cs):=by
  intro k cs e;simp only[St.dS,an]at e;split at e
  ·simp_all
  ·simp_all
 refine⟨⟨Y.nF,?_,?_,?_,Y.ga,?_,?_⟩,⟨D.os,D.tape,D.output,D.size,D.block,D.kept,D.le,D.new,?_,D.toks,?_⟩,W⟩
 ·intro k cs e;rcases B k cs e with ⟨rfl,rfl⟩|⟨h1,h2⟩
  ·exact⟨b,XM,hb,hG,hc.mono W⟩
  ·obtain⟨Q,M,J,I,f4⟩:=Y.box k cs h2;exact⟨Q,by simp[g',h1,M],J,I,f4.mono W⟩
 ·intro k k' cs P Q e e' C q;simp only[g']at C q;rcases B k cs e with ⟨rfl,rfl⟩|⟨h1,h2⟩
  ·grind
  ·rw[if_neg h1]at C;rcases B k' P e' with ⟨rfl,rfl⟩|⟨xq,tu⟩
   ·simp_all
   ·rw[if_neg xq]at q;exact Y.fo k k' cs P Q h2 tu C q
 ·intro k n e;obtain⟨N,C,q⟩:=Y.tok k n e;refine⟨N,C,λQ H K S=>?_⟩;obtain⟨e3,e4,e5⟩:=q Q H K S;subst S;have yd:=AH k n Q H K e C;refine⟨e3,e4,λk' cs e'=>?_⟩;simp only[g'];rcases B k' cs e' with ⟨rfl,rfl⟩|⟨h1,h2⟩
  ·grind
  ·simp_all
 ·intro k e;show k∈d::σ.used;by_cases V:k=d
  ·simp[V]
  ·simp only[ZI];right;apply Y.used k;simpa[g',V]using e
 ·intro k cs Q e C o;simp only[g']at C ⊢;rcases B k cs e with ⟨rfl,rfl⟩|⟨h1,h2⟩
  ·simp_all
  ·rw[if_neg h1]at C;rw[if_neg h1];exact Y.room k cs Q h2 C o
 ·intro k cs Q e C;simp only[g']at C;rcases B k cs e with ⟨rfl,rfl⟩|⟨h1,h2⟩
  ·simp_all
  ·rw[if_neg h1]at C;exact D.boxes k cs Q h2 C
 ·intro k vr e;cases U:ak k (σ.dS d cells).boxes with
  |none=>exact absurd U e
  |some cs =>
   rcases B k cs U with ⟨rfl,rfl⟩|⟨h1,h2⟩
   ·omega
   ·obtain⟨M,J,I⟩:=D.ids k vr (by rw[h2];simp);exact⟨M,by simp[g',h1,J],by simp[g',h1,I]⟩
section
variable {P : Program}{X : Ctx}
def HZ(M:Nat):gA (λσ=>σ.eA M) ⟨[],[M]⟩ where
 out:=λσ k D=>by
  simp at D;refine⟨?_,Z,Iff.rfl⟩;simp only[St.eA,jl];rw[if_neg D]
 same:=λσ N h k D=>by
  obtain⟨h1,h2,K⟩:=h k (.inr D);refine⟨?_,h2,K⟩;simp only[St.eA,jl];split
  ·rfl
  ·exact h1
def bP.kr{o:Oper}{env:Env}{σ:St}{f:FuncId}{args:Array Operand}{H:Array TypeId}(V:o.op = .call {callee := .value (.func f),args:=args,argTypes:=H})
  {d:Nat}(G:d<1000000)(M:mem d σ.used=false){U:L CV}(J:gE (aJ X env) args.toList=some U){s n:Nat}{cells:L CV}(hq:dV P X f none (U.map AV.c) (.fZ 999999 0 s n) (some cells)) :
  bP P X o env σ (.fZ d 0 s n) (λσ=>σ.dS d (cells.map AV.c)) ⟨[],[d]⟩:=by
 intro A N w g a next Q h1 h2 Y S q W;have p:gE (aJ X A) args.toList=some U:=by
  rw[iX _ (λx I=>h1 x (by rw[V];simp only[Op.operands,Call.operands,aaD,Y8];exact .inr I))];exact J
 have fJ:=mE (g:=g) (ev:=a.eval) (λx v I=>cn q S I) p;have B:(execOp a.eval o).run P w = .ok (.enter f (args.map a.eval)) w:=by
  obtain⟨dst,op,O,pos,T,guard⟩:=o;simp only at V;subst V;simp[execOp,resolve,Deferred.ofValue,invoke,Act.eval,hq.1 _ w]
 unfold Oper.wp;rw[B,Oper.upon_enter];have E:=Ky Y none none (λ_ h=>by cases h) (λ_=>rfl);have:=hq.2 (g.fL (qg none)) w (args.toList.map a.eval) E S (nP (g:=g.fL (qg none)) fJ);rw[show(args.toList.map a.eval).toArray=args.map a.eval from by rw[<- aaP]]at this;refine this.mono ?_;rintro e w' ⟨u,g',rfl,K,h4,h5⟩;obtain⟨k1,k2,k3,k4⟩:=Qs (g0:=g.fL (qg none)) (Kz:=pq 1000000 none) Y rfl (nv _ _) none (λk cs b e=>by simp[pq,ak]at e) h4 h5 N (.inl ⟨rfl,rfl⟩);obtain⟨b,c1,c2,c3,c4,c5,c6,c7,c8⟩:=k4 cells rfl;have Qr:d ∉ N.used:=λh=>cQ M ((h2 d (.inr ek)).2.2.1 h);obtain⟨p1,p2,p3⟩:=Qu k1 k2 Qr G c2 c3 c4 c5 c6 c7 c8;refine W u w' _ ?_ p1 p2 (k3.trans p3);simp only[aI]at K ⊢;obtain⟨b',D,oo,C,e2,e3,e4,e5⟩:=K;rw[c1]at C;cases C;exact⟨b,D,oo,ek,e2,e3,by simpa using e4,e5⟩
def bP.Fb{o:Oper}{env:Env}{σ:St}{f:FuncId}{args:Array Operand}{H:Array TypeId}(V:o.op = .call {callee := .value (.func f),args:=args,argTypes:=H})
  {x:Operand}{rest:L Operand}(q:args.toList=x::rest){M O U:Nat}(I:aJ X env x=some (.fZ M 0 O U)){T:L CV}(ha:gE (aJ X env) rest=some T)
  {cells:L CV}(A:ak M σ.boxes=some (cells.map AV.c)){v:CV}(hq:dV P X f (some cells) (.fZ 1000000 0 O U::T.map AV.c) (.c v) none) :
  bP P X o env σ (.c v) (λσ=>σ.eA M) ⟨[],[M]⟩:=by
 intro cT N w g a next Q h1 h2 Y S de W;have oS:∀y∈args.toList,y∈o.op.operands.toList:=by
  intro y J;rw[V];simp only[Op.operands,Call.operands,aaD,Y8];exact .inr J
 have vX:gE (aJ X cT) rest=some T:=by
  rw[iX _ (λy J=>h1 y (oS y (by rw[q];exact aaM _ J)))];exact ha
 have K:aJ X cT x=some (.fZ M 0 O U):=by rw[h1 x (oS x (by simp[q]))];exact I
 have fJ:=mE (g:=g) (ev:=a.eval) (λx v I=>cn de S I) vX;have Xg:=cn (a:=a) de S K;have H6:ak M N.boxes=some (cells.map AV.c):=by rw[(h2 M (.inr ek)).1];exact A
 have B:(execOp a.eval o).run P w = .ok (.enter f (args.map a.eval)) w:=by
  obtain⟨dst,op,type,pos,E,guard⟩:=o;simp only at V;subst V;simp[execOp,resolve,Deferred.ofValue,invoke,Act.eval,hq.1 _ w]
 unfold Oper.wp;rw[B,Oper.upon_enter];have D:=Ky Y (some M) (some cells) (λ_ h=>by cases h;exact⟨M,rfl,H6⟩) (λh=>by cases h);have Ve:∀G,(g.fL (qg (some M))).box G=if G=1000000 then g.box M else none:=by
  intro G;by_cases h:G=1000000<;>simp[Gh.fL,qg,h]
 have:=hq.2 (g.fL (qg (some M))) w (args.toList.map a.eval) D S (by
  rw[q];simp only[Zl,bC];refine⟨_,_,Z,?_,nP (g:=g.fL (qg (some M))) fJ⟩;simp only[aI]at Xg ⊢;obtain⟨b,p,oo,C,e2,e3,e4,e5⟩:=Xg
  exact⟨b,p,oo,by rw[Ve];simpa using C,e2,e3,by simpa[Gh.fL,qg]using e4,e5⟩)
 rw[show(args.toList.map a.eval).toArray=args.map a.eval from by rw[<- aaP]]at this;refine this.mono ?_;rintro e w' ⟨u,g',rfl,h3,h4,h5⟩
 obtain⟨k1,k2,k3,_⟩:=Qs (g0:=g.fL (qg (some M))) (Kz:=pq 1000000 (some cells)) Y rfl (nv _ _) (some M) (λk cs b e C=>by
  obtain⟨rfl,_⟩:=uK e;rw[Ve]at C
  exact⟨M,_,Z,H6,by simpa using C⟩) h4 h5 (N.eA M) (.inr ⟨M,Z,Z⟩)
 exact W u w' _ Xw k1 k2 k3
end
section
variable {P : Program}{X : Ctx}{ops : Array Oper}{o : Oper}{rest : L Oper}{env : Env}{acc : L Fp}{Q : Env -> St -> L Fp -> Prop}{bs : L (Nat × L AV)}{ts : L (Nat × Nat)}{us : L Nat}{σ : St}
def ah.kr(kn:L Nat)(p:cS ops.toList kn env o=some true){f:FuncId}{args:Array Operand}{H:Array TypeId}(V:o.op = .call {callee := .value (.func f),args:=args,argTypes:=H})
  {d:Nat}(U:o.dst=some d)(G:Nat.blt d 1000000=true)(N:mem d us=false){Y:L CV}(T:gE (aJ X env) args.toList=some Y){s n:Nat}{cells:L CV}{W:L AV}(hq:dV P X f none W (.fZ 999999 0 s n) (some cells))(S:W=Y.map AV.c)
  (k:ah P X ops rest ((d,.fZ d 0 s n)::env) ⟨(d,cells.map AV.c)::bs,ts,d::us⟩ (⟨[],[d]⟩::acc) Q):ah P X ops (o::rest) env ⟨bs,ts,us⟩ acc Q:=by
 subst S;exact ah.step (dg p) (bP.kr (σ:=⟨bs,ts,us⟩) V (Nat.blt_eq.mp G) N T hq) (oK d _) (by rw[U];exact k)
def ah.Fb(kn:L Nat)(p:cS ops.toList kn env o=some true){f:FuncId}{args:Array Operand}{H:Array TypeId}(T:o.op = .call {callee := .value (.func f),args:=args,argTypes:=H})
  {x:Operand}{Y:L Operand}(q:args.toList=x::Y){d:Nat}(S:o.dst=some d){M O W:Nat}(I:aJ X env x=some (.fZ M 0 O W)){V:L CV}(N:gE (aJ X env) Y=some V)
  {cells:L CV}(A:ak M bs=some (cells.map AV.c)){v:CV}{U:L AV}(hq:dV P X f (some cells) U (.c v) none)(K:U = .fZ 1000000 0 O W::V.map AV.c){bs':L (Nat×L AV)}(J:Aw M bs=bs')
  (k:ah P X ops rest ((d,.c v)::env) ⟨bs',ts,us⟩ (⟨[],[M]⟩::acc) Q):ah P X ops (o::rest) env ⟨bs,ts,us⟩ acc Q:=by
 subst K J;exact ah.step (dg p) (bP.Fb (σ:=⟨bs,ts,us⟩) T q I N A hq) (HZ M) (by rw[S];exact k)
end
end Go.cM
namespace Go.cM
def dV.of{P:Program}{X:Ctx}{f:FuncId}{Y:Func}{c:Code}{H N:Option (L CV)}{J:L AV}{r:AV}(hf:P.funcs[f]?=some Y)(A:Y.body=some c)(O:Enters P f)
  (p:J.length<=Y.ntmps)(env:Env)(σ:St)(I:env=(J.zipIdx.map λ(v,i)=>(i,v)))(U:pq 1000000 H=σ)
  (h:∀β,AK P X f Y.ntmps β (GR β r N) [.code c] env σ):dV P X f H J r N:=by
 subst U;refine⟨O,λg w vs W G K cs=>?_⟩;have S:=(bC.get K).1;have D:Live X ⟨w,g,pq 1000000 H⟩ Y.ntmps env (pq 1000000 H) g w {tmps:=vs.toArray++Array.replicate (Y.ntmps-vs.toArray.size) undef,defers:=[]}:=by
  refine⟨W,G,?_,gy.refl _ _ _,?_,Z⟩
  ·intro t a e;subst I;have M:∀(l:L AV)(us:L Value)(k:Nat),bC g l us->ak t ((l.zipIdx k).map λ(v,i)=>(i,v))=some a->k<=t/\∃u,us[t-k]?=some u/\aI g a u:=by
    intro l
    induction l with
    |nil=>intro us k _ e;simp[ak]at e
    |cons v l ih =>
     intro us k Q e;simp only[bC]at Q;obtain⟨u,us,rfl,h1,h2⟩:=Q;simp only[abi,Zl,an]at e;split at e
     ·simp_all
     ·grind
   obtain⟨_,u,V,T⟩:=M J vs 0 K e;simp at V;have E:t<vs.length:=(List.getElem?_eq_some_iff.1 V).1;have:(vs.toArray++Array.replicate (Y.ntmps-vs.toArray.size) undef).getD t undef=u:=by
    rw[aaN,Z4 (by simpa using E)];simp[V]
   rw[this];exact T
  ·simp;omega
 obtain⟨e,w',B,h1,V,T,C⟩:=h ⟨w,g,pq 1000000 H⟩ g w _ cs D;have q:Frame.enter P f vs.toArray .normal =
   (top f).at {tmps:=vs.toArray++Array.replicate (Y.ntmps-vs.toArray.size) undef,defers:=[]} [.code c]:=by
  simp[Frame.enter,Frame.at,hf,A,top]
 exact⟨_,w',B,h1,by rw[q];exact V,T,C⟩
section
variable {P : Program}{X : Ctx}{f : FuncId}{n : Nat}{β : je}{K : L Item}{env : Env}
def AK.UD(hX:ct P X){W:Func}(hf:P.funcs[f]?=some W){bs:L (Nat×L AV)}{ts:L (Nat×Nat)}{us:L Nat}{M s m:Nat}{cells:L CV}{cs:L AV}
  (E:rJ X bs env W.results.toList=some [.fZ M 0 s m])(Q:ak M bs=some cs)(V:cs=cells.map AV.c):AK P X f n β (GR β (.fZ 999999 0 s m) (some cells)) (.code .ret::K) env ⟨bs,ts,us⟩:=by
 subst V;intro g w a cs Y;obtain⟨u,O,T⟩:=nO hX Y E
 obtain⟨N,J⟩:=Y.inv.fL ⟨λk=>if k=999999 then some M else none,λ_=>none⟩ (pq 999999 (some cells)) (by
   intro k c e;obtain⟨rfl,B,C,rfl⟩:=uK e;cases C;exact⟨M,_,ek,Q,dy _⟩) (by
   intro k k' S e e';simp only at e e';split at e
   ·simp_all
   ·simp at e) (by
   intro k n e;rw[nv]at e;simp[ak]at e) (by intro k k' m m' S e;simp at e) (by
   intro k e;simp only[ne_eq,acH,acw]at e;by_cases D:k=999999
   ·subst D;simp[pq]
   ·simp[D]at e)
 refine⟨.returned u,w,_,⟨u,_,Z,?_,N,Y.frame.trans (J λk D e=>?_)⟩,.one step_ret,Z,Z,Y.defers,Z,W,hf,O⟩
 ·simp only[aI]at T ⊢;obtain⟨b,U,I,C,q,H,p,G⟩:=T;exact⟨b,U,I,by simpa[Gh.fL]using C,q,H,by simpa[Gh.fL]using p,G⟩
 ·cases A:ak k (pq 999999 (some cells)).boxes with
  |none=>exact absurd A e
  |some c=>obtain⟨rfl,_⟩:=uK A;omega
end
def yZ{g:Gh}:∀{cs:L CV}{vs:L Value},bC g (cs.map AV.c) vs->bI g.G cs vs
 |[],vs,h=>by simpa[bC,bI]using h
 |c::cs,vs,h=>by
  simp only[Zl,bC]at h;obtain⟨u,us,rfl,h1,h2⟩:=h;simp only[bI];exact⟨u,us,Z,Ui,yZ h2⟩
structure LZ(w:World)(b:Nat)(w':World)(b':Nat)(news:List Value):Prop where
 os:w'.os=w.os
 tape:w'.tape=w.tape
 output:w'.output=w.output
 size:w.heap.size<=w'.heap.size
 Yx:b'=b\/w.heap.size<=b'
 cells:∀(j:Nat) u,news[j]?=some u->w'.cell? ⟨b',j,none⟩=some u
 rest:∀b2,b2<w.heap.size->b2≠b->w'.heap[b2]?=w.heap[b2]?
def rS{w w':World}{b:Nat}(h:w'.heap[b]?=w.heap[b]?)(o:Nat):w'.cell? ⟨b,o,none⟩=w.cell? ⟨b,o,none⟩:=by
 unfold World.cell?;simp only[h]
def xB{w w':World}{b:Nat}(h:w'.heap[b]?=w.heap[b]?)(o:Nat):w'.frozen? ⟨b,o,none⟩=w.frozen? ⟨b,o,none⟩:=by
 unfold World.frozen?;simp only[h]
def Ca{w:World}{b o:Nat}{v:Value}(h:w.cell? ⟨b,o,none⟩=some v):b<w.heap.size:=by
 rcases abn b w.heap.size with C|C
 ·exact C
 ·simp[World.cell?,Array.getElem?_eq_none C]at h
def dV.raw{P:Program}{X:Ctx}{f:FuncId}{cells:L CV}{s M:Nat}{J:L CV}(he:Enters P f)(h0:0<M){rows:L CV}(K:∀r∈rows,r.cells.length=s)(S:(bD rows).all CV.one=true)
  (h:∀(w:World)(G:iJ)(b D:Nat)(vs us:L Value),b<w.heap.size->(∀o,G b o=none)->(∀b o v,G b o=some v->w.cell? ⟨b,o,none⟩=some v)->bI G cells vs ->
   (∀(j:Nat) u,vs[j]?=some u->w.cell? ⟨b,j,none⟩=some u)->cells.all CV.one=true->M<=D->(∀o,(o<D*s->∃u,w.cell? ⟨b,o,none⟩=some u)/\w.frozen? ⟨b,o,none⟩=false)->bI G J us ->
   ∃news,bI G (bD rows) news/\Calls P f (.slice (some ⟨b,0,none⟩) M D::us).toArray w λe w'=>∃Q W,e = .returned (.slice (some ⟨Q,0,none⟩) rows.length W)/\rows.length<=W/\LZ w b w' Q news) :
  dV P X f (some cells) (.fZ 1000000 0 s M::J.map AV.c) (.c (.sl s rows)) none:=by
 refine⟨he,λg w vs Y cu E=>?_⟩;simp only[bC]at E;obtain⟨u,us,rfl,H,oE⟩:=E;simp only[aI]at H;obtain⟨b,D,o,I,rfl,e2,e3,e4⟩:=H;have N:o=some ⟨b,0,none⟩:=by grind
 subst N;have p:ak 1000000 (pq 1000000 (some cells)).boxes=some (cells.map AV.c):=by simp[pq,an]
 obtain⟨Q,q,c2,c3,c4⟩:=Y.box 1000000 _ p;rw[I]at q;cases q;obtain⟨vs,v1,v2,v3⟩:=nr (tail:=[]) (by simpa using c4);have O:=Y.room 1000000 _ b p I;obtain⟨news,n1,hc⟩:=h w g.G b D vs us c2 c3 Y.nF v1 (λj u C=>by have:=v2 j u C;rwa[ZG]at this) v3 e2 (λo=>⟨λN=>(O o).1 bn,(O o).2⟩) (yZ oE);refine hc.mono ?_;rintro e w' ⟨Q,W,rfl,Qv,R⟩;let U:iJ:=λB o=>if B=Q then(if o<(bD rows).length then w'.cell? ⟨Q,o,none⟩else none)else g.G B o
 have Qw:∀B o v,g.G B o=some v->B≠b/\B<w.heap.size/\B≠Q:=by
  intro B o v A;have h1:B≠b:=by rintro rfl;rw[c3]at A;simp at A
  have h2:=Ca (Y.nF B o v A);refine⟨h1,h2,?_⟩;rintro rfl;rcases R.Yx with h|h
  ·exact h1 h
  ·omega
 have Kx:g.G.le U:=by
  intro B o v A;simp only[U,(Qw B o v A).2.2,abg];exact A
 have gL:∀B o v,U B o=some v->w'.cell? ⟨B,o,none⟩=some v:=by
  intro B o v A;simp only[U]at A;split at A
  ·simp_all
  ·obtain⟨h1,h2,_⟩:=Qw B o v A;rw[rS (R.rest B h2 h1)];exact Y.nF B o v A
 have L9:=(bI.get n1).1
 have fF:eP U s Q 0 rows:=nW.2 ⟨lN (bI.mono Kx _ _ n1) (λj u C=>by
  have hlt:j<news.length:=(List.getElem?_eq_some_iff.1 C).1;simp only[U,if_pos,ZG];rw[if_pos bn]
  exact R.cells j u C) S,K⟩
 refine⟨_,⟨U,λ_=>none,λ_=>none,λ_=>0⟩,Z,?_,?_,?_⟩
 ·simp only[aI,Rel];exact⟨_,_,_,Z,Z,Qv,.inr ⟨Q,0,Z,fF⟩⟩
 ·exact⟨gL,λk cs e=>by simp[pq,ak]at e,λk k' cs cs' b e=>by simp[pq,ak]at e,λk n e=>by simp[pq,ak]at e,λk k' n n' b lo hi lo' hi' e=>by simp[pq,ak]at e,λk e=>by simp at e,λk cs b e=>by simp[pq,ak]at e⟩
 ·have T:∀V,(∀o,¬gX g (pq 1000000 (some cells)) V o)\/(∃o,¬gX g (pq 1000000 (some cells)) V o)->V≠b:=by
   rintro V h rfl;have N:∀o,gX g (pq 1000000 (some cells)) V o:=λo => .inl ⟨1000000,_,p,I⟩;rcases h with h|⟨o,h⟩
   ·exact h 0 (N 0)
   ·exact h (N o)
  refine⟨R.os,R.tape,R.output,R.size,λV h1 h2=>R.rest V h1 (T V (.inl h2)),λV o h1 h2=>?_,Kx,?_,λk cs b e=>by simp[pq,ak]at e,λk n b lo hi e=>by simp[pq,ak]at e,λk _ e=>by simp[pq,ak]at e⟩
  ·have:=R.rest V h1 (T V (.inr ⟨o,h2⟩));exact⟨rS this o,xB this o⟩
  ·intro B o v A;simp only[U]at A;split at A
   ·rename_i hb;subst hb;rcases R.Yx with h|h
    ·grind
    ·exact .inr (.inl h)
   ·exact .inl A
end Go.cM
namespace Go.cM
def notNil:AV->Bool
 |.c (.sl _ (_::_))=>true
 |.own _ _ (_::_)=>true
 |.fZ _ _ _ n=>Nat.blt 0 n
 |_=>false
def Qx:AV->Bool
 |.c (.sl ..)=>true
 |.own .. => true
 |.fZ .. => true
 |_=>false
def FG(a:AV):CV:=match notNil a with
 |true => .bool false
 |false => .pJ
def Qy{g:Gh}{a:AV}{u:Value}(h:Qx a=true)(E:aI g a u):∃base K D,u = .slice base K D/\(notNil a=true->base≠none):=by
 unfold Qx at h;split at h
 ·rename_i s rows;simp only[aI,Rel]at E;obtain⟨base,K,D,rfl,B,A,E⟩:=E;refine⟨base,K,D,Z,λY=>?_⟩;rcases E with rfl|⟨b,o,rfl,_⟩
  ·simp[notNil]at Y
  ·simp
 ·rename_i k s rows;simp only[aI]at E;obtain⟨base,K,D,rfl,B,A,E,_⟩:=E;refine⟨base,K,D,Z,λY=>?_⟩;rcases E with rfl|⟨b,o,rfl,_⟩
  ·simp[notNil]at Y
  ·simp
 ·simp only[aI]at E;obtain⟨b,D,o,_,rfl,h1,_,h2⟩:=E;refine⟨_,_,_,Z,λY=>?_⟩;have:=Nat.blt_eq.mp Y;rcases h2 with h2|h2
  ·omega
  ·simp[h2]
 ·simp at h
section
variable {P : Program}{X : Ctx}
def Az{t e:TypeId}{w:World}(d:Nat)(h:(underlying t).run P w = .ok (.slice e) w)(a:Addr)(n m:Nat) :
  (Op.equalIn (d+1) t (.slice (some a) n m) (.slice none 0 0)).run P w = .ok false w:=by simp[Op.equalIn,h]
def AA{t e:TypeId}{w:World}(d:Nat)(h:(underlying t).run P w = .ok (.slice e) w)(n m:Nat) :
  (Op.equalIn (d+1) t (.slice none n m) (.slice none 0 0)).run P w = .ok true w:=by simp[Op.equalIn,h]
def vp{t e:TypeId}{w:World}(h:(underlying t).run P w = .ok (.slice e) w)(base:Option Addr)(n m:Nat) :
  (Op.equal t (.slice base n m) (.slice none 0 0)).run P w = .ok base.isNone w:=by
 cases base with
 |none=>exact AA 9999 h n m
 |some a=>exact Az 9999 h a n m
def bP.Qz(hX:ct P X){o:Oper}{env:Env}{σ:St}{t V:TypeId}{x:Operand}(Y:o.op = .binOp .eql t x (.const (.slice none 0 0)) V){i:TI}{e:Nat}(q:X.ti t=some i)(T:i.kind = .slice e)
  {a:AV}(I:aJ X env x=some a)(S:Qx a=true):bP P X o env σ (.c (FG a)) (λσ=>σ) ⟨[],[]⟩:=by
 refine bP.val λQ w g O h1 gL J H=>?_;have U:aJ X Q x=some a:=by rw[h1 x (by rw[Y];simp[Op.operands])];exact I
 obtain⟨base,K,D,B,E⟩:=Qy S (cn (a:=O) H J U);obtain⟨d1,G,M,UR⟩:=hX.run_underlying (w:=w) q;rw[T]at M;simp only[ey]at M;subst M;refine⟨Value.bool base.isNone,?_,?_⟩
 ·obtain⟨C,op,N,A,W,guard⟩:=o;simp only at Y;subst Y;have u:binOp .eql t (.slice base K D) (.slice none 0 0)=(do Pure.pure (Value.bool (<- Op.equal t (.slice base K D) (.slice none 0 0)))):=rfl;have p:O.eval (.const (.slice none 0 0)) = .slice none 0 0:=rfl;simp[execOp,B,p,u,eqGuard_at_slice,vp G]
 ·unfold FG;split
  ·rename_i hh;simp only[aI,Rel];have:=E hh;cases base<;>simp at this ⊢
  ·simp only[aI,Rel];exact⟨_,Z⟩
variable {ops : Array Oper}{rest : L Oper}{o : Oper}{env : Env}{σ : St}{acc : L Fp}{Q : Env -> St -> L Fp -> Prop}
def ah.Qz(hX:ct P X)(kn:L Nat)(p:cS ops.toList kn env o=some true){t Y:TypeId}{x:Operand}(W:o.op = .binOp .eql t x (.const (.slice none 0 0)) Y){d:Nat}(V:o.dst=some d){i:TI}{e:Nat}(K:X.ti t=some i)(D:i.kind = .slice e)
  {a:AV}(I:aJ X env x=some a)(U:Qx a=true){v:CV}(B:FG a=v)
  (k:ah P X ops rest ((d,.c v)::env) σ (⟨[],[]⟩::acc) Q):ah P X ops (o::rest) env σ acc Q:=by
 subst B;exact ah.step (dg p) (bP.Qz hX W K D I U) (gA.id _) Yi
variable {f : FuncId}{n : Nat}{β : je}{R : Ending -> World -> Prop}{K : L Item}
def AK.oh{c:Operand}{x y:Code}(p:aJ X env c=some (.c .pJ))(h1:AK P X f n β R (.code x::K) env σ)(h2:AK P X f n β R (.code y::K) env σ) :
  AK P X f n β R (.code (.cond c x y)::K) env σ:=by
 intro g w a cs Y;have:=cn Y.env Y.qe p;simp only[aI,Rel]at this;obtain⟨b,A⟩:=this;cases b
 ·obtain⟨e,w',H,u,W,V,U⟩:=h2 g w a cs Y;have st:=step_cond (P:=P) (b:=top f) (x:=x) (y:=y) (k:=K) (cs:=cs) (w:=w) A;rw[if_neg cc]at st;exact⟨e,w',H,u,W.of_steps (.one st),V,U⟩
 ·obtain⟨e,w',H,u,W,V,U⟩:=h1 g w a cs Y;have st:=step_cond (P:=P) (b:=top f) (x:=x) (y:=y) (k:=K) (cs:=cs) (w:=w) A;rw[if_pos rfl]at st;exact⟨e,w',H,u,W.of_steps (.one st),V,U⟩
end
end Go.cM
namespace Go.cM
mutual
def Wk:CV->CV->Prop
 |.sl s rows,.sl t Y=>(s=t/\rows=Y)\/(rows=[]/\Y=[])
 |.agg l,.agg m=>vG l m
 |.gb l,.gb m=>vG l m
 |v,.any=>v.one=true
 |v,w=>v=w
def vG:L CV->L CV->Prop
 |[],[]=>True
 |v::l,w::m=>Wk v w/\vG l m
 |_,_=>False
end
mutual
def Wk.refl:∀(v:CV),Wk v v
 |.sl s rows=>by unfold Wk;exact .inl ⟨Z,Z⟩
 |.agg l=>by simp only[Wk];exact vG.refl l
 |.gb l=>by simp only[Wk];exact vG.refl l
 |.any=>by simp only[Wk];rfl
 |.int .. => by simp only[Wk]
 |.bool .. => by simp only[Wk]
 |.str .. => by simp only[Wk]
 |.kI=>by simp only[Wk]
 |.undef=>by simp only[Wk]
 |.ip .. => by simp only[Wk]
 |.sH .. => by simp only[Wk]
 |.pJ=>by simp only[Wk]
def vG.refl:∀(l:L CV),vG l l
 |[]=>by simp only[vG]
 |v::l=>by simp only[vG];exact⟨Wk.refl v,vG.refl l⟩
end
def Wk.of_eq{v w:CV}(h:v=w):Wk v w:=by subst h;exact Wk.refl v
def pQ{G:iJ}{v:CV}{u:Value}(h:v.one=true)(E:Rel G v u):(∀vs,u ≠ .agg vs)/\∀vs,u ≠ .tuple vs:=by
 cases v<;>simp[CV.one]at h<;>simp only[Rel]at E
 case int=>subst E;simp
 case bool=>subst E;simp
 case str=>subst E;simp
 case kI=>subst E;simp
 case sl=>obtain⟨_,_,_,rfl,_⟩:=E;simp
 case ip=>obtain⟨_,_,rfl,_⟩:=E;simp
 case sH=>obtain⟨_,rfl,_⟩:=E;simp
 case any=>exact E
 case pJ=>obtain⟨_,rfl⟩:=E;simp
def Vj{v w:CV}(h:Wk v w)(h1:v.one=true):w.one=true:=by
 unfold Wk at h;split at h
 ·rfl
 ·simp[CV.one]at h1
 ·simp[CV.one]at h1
 ·rfl
 ·subst h;exact h1
mutual
def Wk.rel{G:iJ}:∀{v w:CV}{u:Value},Wk v w->Rel G v u->Rel G w u
 |.sl s rows,w,u,h,E=>by
  cases w
  case sl t H8 =>
   unfold Wk at h;rcases h with ⟨rfl,rfl⟩|⟨rfl,rfl⟩
   ·exact E
   ·simp only[Rel]at E ⊢;obtain⟨base,K,D,C,Q,V,_⟩:=E;exact⟨base,K,D,C,Q,V,ek⟩
  case any=>unfold Wk at h;simp only[Rel];exact pQ h E
  all_goals (unfold Wk at h;cases h)
 |.agg l,w,u,h,E=>by
  cases w<;>simp only[Wk]at h
  case agg m =>
   simp only[Rel]at E ⊢;obtain⟨vs,C,Q,V⟩:=E;obtain⟨g1,H,_⟩:=vG.rel h Q;exact⟨vs,C,g1,H V⟩
  case any=>simp[CV.one]at h
  all_goals (cases h)
 |.gb l,w,u,h,E=>by
  cases w<;>simp only[Wk]at h
  case gb m =>
   simp only[Rel]at E ⊢;obtain⟨vs,C,Q,V⟩:=E;obtain⟨g1,_,H⟩:=vG.rel h Q;exact⟨vs,C,g1,bn⟩
  case any=>simp[CV.one]at h
  all_goals (cases h)
 |.any,w,u,h,E=>by cases w<;>simp only[Wk]at h<;>first|exact E|cases h
 |.int ..,w,u,h,E=>by cases w<;>simp only[Wk]at h<;>first|(simp only[Rel];exact pQ h E)|(rw[<- h];exact E)|cases h
 |.bool ..,w,u,h,E=>by cases w<;>simp only[Wk]at h<;>first|(simp only[Rel];exact pQ h E)|(rw[<- h];exact E)|cases h
 |.str ..,w,u,h,E=>by cases w<;>simp only[Wk]at h<;>first|(simp only[Rel];exact pQ h E)|(rw[<- h];exact E)|cases h
 |.kI,w,u,h,E=>by cases w<;>simp only[Wk]at h<;>first|(simp only[Rel];exact pQ h E)|exact E|cases h
 |.undef,w,u,h,E=>by cases w<;>simp only[Wk]at h<;>first|exact E|(simp[CV.one]at h)|cases h
 |.ip ..,w,u,h,E=>by cases w<;>simp only[Wk]at h<;>first|(simp only[Rel];exact pQ h E)|(rw[<- h];exact E)|cases h
 |.sH ..,w,u,h,E=>by cases w<;>simp only[Wk]at h<;>first|(simp only[Rel];exact pQ h E)|(rw[<- h];exact E)|cases h
 |.pJ,w,u,h,E=>by cases w<;>simp only[Wk]at h<;>first|(simp only[Rel];exact pQ h E)|exact E|cases h
def vG.rel{G:iJ}:∀{l m:L CV}{us:L Value},vG l m->bI G l us->bI G m us/\(l.all CV.one=true->m.all CV.one=true)/\l.length=m.length
 |[],[],us,_,E=>⟨E,id,Z⟩
 |v::l,w::m,us,h,E=>by
  simp only[vG]at h;simp only[bI]at E ⊢;obtain⟨u,us,rfl,Y,W⟩:=E;obtain⟨g1,H,U⟩:=vG.rel h.2 W;refine⟨⟨u,us,Z,Wk.rel h.1 Y,g1⟩,?_,by simp[U]⟩;simp only[aaE,aal];rintro⟨T,A⟩;exact⟨Vj h.1 T,H A⟩
 |[],_::_,_,h,_=>by simp[vG]at h
 |_::_,[],_,h,_=>by simp[vG]at h
end
def ye{x y:CV}{e:Int}(h1:x.one=true)(h2:y.one=true):Wk (.gb [.agg [x,y],.int .i64 e]) (.gb [.agg [.any,.any],.int .i64 e]):=by
 have I:Wk x .any:=by cases x<;>unfold Wk<;>first|exact h1|rfl
 have J:Wk y .any:=by cases y<;>unfold Wk<;>first|exact h2|rfl
 unfold Wk vG vG vG;refine⟨?_,Wk.refl _,trivial⟩;unfold Wk vG vG vG;exact⟨I,J,trivial⟩
def uk{s t:Nat}{b:CV}:Wk (.gb [.sl s [],b]) (.gb [.sl t [],b]):=by
 simp only[Wk,vG];exact⟨.inr ⟨trivial,trivial⟩,Wk.refl b,trivial⟩
def Sn{s t:Nat}{b c:CV}:Wk (.gb [.agg [.sl s [],b],c]) (.gb [.agg [.sl t [],b],c]):=by
 simp only[Wk,vG];exact⟨⟨.inr ⟨trivial,trivial⟩,Wk.refl b,trivial⟩,Wk.refl c,trivial⟩
section
variable {P : Program}{X : Ctx}
def aZ.wk{f:FuncId}{J M:L CV}{r O:CV}(W:vG J M)(E:Wk r O)(q:aZ P X f M r):aZ P X f J O:=by
 refine⟨q.1,λG w vs h1 h2 K=>?_⟩;exact Calls.mono (q.2 G w vs h1 h2 (vG.rel W K).1) λe w' ⟨u,Y,C,Q,V⟩=>⟨u,Y,C,Wk.rel E Q,V⟩
variable {f : FuncId}{n : Nat}{β : je}{K : L Item}{env : Env}{σ : St}
def AK.Y1(hX:ct P X){Y:Func}(hf:P.funcs[f]?=some Y){r:AV}{E W:CV}
  (V:mP X σ.boxes env Y.results.toList=some r)(A:close r=some E)(S:Wk E W):AK P X f n β (QR β W) (.code .ret::K) env σ:=by
 have h:=AK.Wt (K:=K) (β:=β) (n:=n) hX hf V A Z;intro g w a cs U;obtain⟨e,w',H,⟨u,g',h1,h2,T⟩,h4⟩:=h g w a cs U;exact⟨e,w',H,⟨u,g',h1,Wk.rel S h2,T⟩,h4⟩
end
end Go.cM
namespace Go.cM
inductive H9 where
 |ok (env:Env) (bs:List (Nat×List AV)) (us:List Nat) (fp:Fp)
 |no
def Ho(X:Ctx)(W:L Oper)(o:Oper)(env:Env)(bs:L (Nat×L AV))(us:L Nat):H9 :=
 match cS W kn env o with
 |some true=>match o.op,o.dst with
  |.box _ x,some d=>match aJ X env x with
   |some a=>match jq a with
    |some cells=>match HL d us with
     |false => .ok ((d,.ptr d 0)::env) ((d,cells)::bs) (d::us) ⟨[],[d]⟩
     |true => .no
    |none => .no
   |none => .no
  |.alloc t,some d=>match X.ti t with
   |some i=>match i.zero with
    |some V=>match jq V with
     |some cells=>match HL d us with
      |false => .ok ((d,.ptr d 0)::env) ((d,cells)::bs) (d::us) ⟨[],[d]⟩
      |true => .no
     |none => .no
    |none => .no
   |none => .no
  |.store t x y,none=>match X.ti t,aJ X env x,aJ X env y with
   |some i,some (.ptr M off),some a=>match ak M bs,jq a with
    |some cells,some vs=>match Nat.beq vs.length i.size,dI off vs cells with
     |true,some r=>match vu M r bs with
      |some bs' => .ok env bs' us ⟨[],[M]⟩
      |none => .no
     |_,_ => .no
    |_,_ => .no
   |_,_,_ => .no
  |.buildSlice t K Y,some d=>match X.ti t with
   |some i=>match i.kind with
    |.slice e=>match X.ti e with
     |some j=>match j.zero,gY (aJ X env) 0 Y.toList with
      |some _,some rows=>match Nat.beq rows.length K,gK j.size rows,Nat.ble (K*j.size) 16777216 with
       |true,true,true => .ok ((d,.own .exact j.size rows)::env) bs us ⟨[],[]⟩
       |_,_,_ => .no
      |_,_ => .no
     |none => .no
    |_ => .no
   |none => .no
  |.build t Y,some d=>match X.ti t with
   |some i=>match i.kind with
    |.arr n e=>match X.ti e,i.zero with
     |some j,some (.agg z)=>match qD X (aJ X env) (xz j.size e 0 n) Y.toList z with
      |some r => .ok ((d,.agg r)::env) bs us ⟨[],[]⟩
      |none => .no
     |_,_ => .no
    |_ => .no
   |none => .no
  |.index t x S,some d=>match X.ti t,aJ X env x,aJ X env S with
   |some i,some (.agg cs),some ia=>match i.kind,asNat ia with
    |.arr n e,some m=>match X.ti e,Nat.blt m n with
     |some j,true=>match fX (m*j.size) cs with
      |some r=>match vv j r with
       |some v => .ok ((d,v)::env) bs us ⟨[],[]⟩
       |none => .no
      |none => .no
     |_,_ => .no
    |_,_ => .no
   |_,_,_ => .no
  |.binOp .eql t x (.const (.slice none 0 0)) _,some d=>match X.ti t,aJ X env x with
   |some i,some a=>match i.kind,Qx a with
    |.slice _,true => .ok ((d,.c (FG a))::env) bs us ⟨[],[]⟩
    |_,_ => .no
   |_,_ => .no
  |_,_ => .no
 |_ => .no
section
variable {P:Program}{X:Ctx}{ops:Array Oper}{o:Oper}{rest:L Oper}{env:Env}{acc:L Fp}{Q:Env->St->L Fp->Prop}
 {bs:L (Nat×L AV)} {ts:L (Nat×Nat)} {us:L Nat}
def ah.Ho(hX:ct P X){env':Env}{bs':L (Nat×L AV)}{us':L Nat}{O:Fp}(h:Ho X ops.toList o env bs us = .ok env' bs' us' O)
  (k:ah P X ops rest env' ⟨bs',ts,us'⟩ (O::acc) Q):ah P X ops (o::rest) env ⟨bs,ts,us⟩ acc Q:=by
 unfold Go.cM.Ho at h;split at h
 ·rename_i p;split at h
  ·rename_i t x d Y W;split at h
   ·rename_i a U;split at h
    ·rename_i cells A;split at h
     ·rename_i V;simp only[H9.ok.injEq]at h;obtain⟨rfl,rfl,rfl,rfl⟩:=h;exact ah.box kn p Y W U A V k
     ·cases h
    ·cases h
   ·cases h
  ·rename_i t d Y W;split at h
   ·rename_i i K;split at h
    ·rename_i M q;split at h
     ·rename_i cells A;split at h
      ·rename_i V;simp only[H9.ok.injEq]at h;obtain⟨rfl,rfl,rfl,rfl⟩:=h;exact ah.alloc hX kn p Y W K q A V k
      ·cases h
     ·cases h
    ·cases h
   ·cases h
  ·rename_i t x y Y W;split at h
   ·rename_i i N off a K I J;split at h
    ·rename_i cells vs S A;split at h
     ·rename_i r B H;split at h
      ·rename_i C u;simp only[H9.ok.injEq]at h;obtain⟨rfl,rfl,rfl,rfl⟩:=h;exact ah.store hX kn p Y W K I J S A B H u k
      ·cases h
     ·cases h
    ·cases h
   ·cases h
  ·rename_i t len G d Y W;split at h
   ·rename_i i K;split at h
    ·rename_i e D;split at h
     ·rename_i j T;split at h
      ·rename_i M rows q hp;split at h
       ·rename_i h1 h2 h3;simp only[H9.ok.injEq]at h;obtain⟨rfl,rfl,rfl,rfl⟩:=h;exact ah.buildSlice hX kn p Y W K D T q hp h1 Z h2 h3 k
       ·cases h
      ·cases h
     ·cases h
    ·cases h
   ·cases h
  ·rename_i t G d Y W;split at h
   ·rename_i i K;split at h
    ·rename_i n e D;split at h
     ·rename_i j z T q;split at h
      ·rename_i r E;simp only[H9.ok.injEq]at h;obtain⟨rfl,rfl,rfl,rfl⟩:=h;exact ah.B7 hX kn p Y W K D T q E k
      ·cases h
     ·cases h
    ·cases h
   ·cases h
  ·rename_i t x ix d Y W;split at h
   ·rename_i i cs ia K I q;split at h
    ·rename_i n e m D V;split at h
     ·rename_i j T S;split at h
      ·rename_i r E;split at h
       ·rename_i v hv;simp only[H9.ok.injEq]at h;obtain⟨rfl,rfl,rfl,rfl⟩:=h;exact ah.B8 hX kn p Y W K D T I q V S E hv k
       ·cases h
      ·cases h
     ·cases h
    ·cases h
   ·cases h
  ·rename_i t x yt d Y W;split at h
   ·rename_i i a K I;split at h
    ·rename_i e D U;simp only[H9.ok.injEq]at h;obtain⟨rfl,rfl,rfl,rfl⟩:=h;exact ah.Qz hX kn p Y W K D I U Z k
    ·cases h
   ·cases h
  ·cases h
 ·cases h
def Hp(X:Ctx)(Y:L Oper)(o:Oper)(env:Env)(ts:L (Nat×Nat))(us:L Nat):Option (Nat×Nat×Nat×Nat×L CV×L CV×Nat×L (Nat×Nat)) :=
 match cS Y kn env o with
 |some true=>match o.op,o.dst with
  |.call {callee := .builtin .append,args,argTypes},some d=>match args.toList,argTypes.toList with
   |[xs,y],[t,t1]=>match X.ti t,X.ti t1,aJ X env xs,aJ X env y with
    |some i,some S,some (.own W s rows),some b=>match i.kind,ke S.kind,lO b with
     |.slice e,true,some (u,bV)=>match X.ti e with
      |some j=>match j.zero,BU s j.size rows W,fH u j.size bV,Nat.ble 1 j.bytes with
       |some _,true,true,true=>match tC d us ts W with
        |some (M,n)=>match vu M n ts with
         |some ts'=>some (d,M,n,j.size,rows,bV,j.bytes,ts')
         |none=>none
        |none=>none
       |_,_,_,_=>none
      |none=>none
     |_,_,_=>none
    |_,_,_,_=>none
   |_,_=>none
  |_,_=>none
 |_=>none
def ah.Hp(hX:ct P X){d M n sz U:Nat}{rows bV:L CV}{ts':L (Nat×Nat)}(h:Hp X ops.toList o env ts us=some (d,M,n,sz,rows,bV,U,ts'))
  (Y:(rows.length+bV.length)*U<=140737488355328)
  (k:ah P X ops rest ((d,.own (.tok M n) sz (rows++bV))::env) ⟨bs,ts',M::us⟩ (⟨[],[M]⟩::acc) Q):ah P X ops (o::rest) env ⟨bs,ts,us⟩ acc Q:=by
 unfold Go.cM.Hp at h;split at h
 ·rename_i p;split at h
  ·rename_i J N d' W S;split at h
   ·rename_i xs y t t1 q O;split at h
    ·rename_i i i1 ow s H8 b K G I E;split at h
     ·rename_i e s1 ZH C B H;split at h
      ·rename_i j u;split at h
       ·rename_i za hz hs qu V;split at h
        ·rename_i T n' A;split at h
         ·rename_i AP D;simp only[aaJ,aaW]at h;obtain⟨rfl,rfl,rfl,rfl,rfl,rfl,rfl,rfl⟩:=h;exact ah.append hX kn p W q O S K C u hz G B I E H Z hs qu A Z V D Y k
         ·cases h
        ·cases h
       ·cases h
      ·cases h
     ·cases h
    ·cases h
   ·cases h
  ·cases h
 ·cases h
def Hq(X:Ctx)(Y:L Oper)(o:Oper)(env:Env):Option (Nat×FuncId×L CV) :=
 match cS Y kn env o with
 |some true=>match o.op,o.dst with
  |.call {callee := .value (.func f),args,argTypes:=_},some d=>match gE (aJ X env) args.toList with
   |some Q=>some (d,f,Q)
   |none=>none
  |.call {callee := .value (.tmp x),args,argTypes:=_},some d=>match aJ X env (.tmp x),gE (aJ X env) args.toList with
   |some (.c (.sH f A)),some Q=>some (d,f,Q++A)
   |_,_=>none
  |_,_=>none
 |_=>none
def ah.Hq{σ:St}{d:Nat}{f:FuncId}{V:L CV}{r:CV}(h:Hq X ops.toList o env=some (d,f,V))(hq:aZ P X f V r)
  (k:ah P X ops rest ((d,.c r)::env) σ (⟨[],[]⟩::acc) Q):ah P X ops (o::rest) env σ acc Q:=by
 unfold Go.cM.Hq at h;split at h
 ·rename_i p;split at h
  ·rename_i T J H K Y W;split at h
   ·rename_i S A;simp only[aaJ,aaW]at h;obtain⟨rfl,rfl,rfl⟩:=h;exact ah.Qd kn p Y W A hq k
   ·cases h
  ·rename_i x J H K Y W;split at h
   ·rename_i T U S I A;simp only[aaJ,aaW]at h;obtain⟨rfl,rfl,rfl⟩:=h;exact ah.Qe kn p Y W I A hq k
   ·cases h
  ·cases h
 ·cases h
def Hr(X:Ctx)(Y:L Oper)(o:Oper)(env:Env):Option (Nat×L CV×Int) :=
 match cS Y kn env o with
 |some true=>match o.op,o.dst with
  |.indexAddr t x S,some d=>match X.ti t,aJ X env x,aJ X env S with
   |some i,some a,some (.c (.int _ z))=>match i.kind,rowsOf a with
    |.slice e,some (s,rows)=>match X.ti e with
     |some j=>match Nat.beq s j.size with
      |true=>some (d,rows,z)
      |false=>none
     |none=>none
    |_,_=>none
   |_,_,_=>none
  |_,_=>none
 |_=>none
def ah.Hr(hX:ct P X){σ:St}{d:Nat}{rows:L CV}{z:Int}(h:Hr X ops.toList o env=some (d,rows,z))(m:Nat)(V:z=m){r:CV}(U:rows[m]?=some r){cs:L CV}(Y:r.cells=cs)
  (k:ah P X ops rest ((d,.c (.ip cs))::env) σ (⟨[],[]⟩::acc) Q):ah P X ops (o::rest) env σ acc Q:=by
 unfold Go.cM.Hr at h;split at h
 ·rename_i p;split at h
  ·rename_i t x u N W T;split at h
   ·rename_i i a k' M K S q;split at h
    ·rename_i e s J D E;split at h
     ·rename_i j C;split at h
      ·rename_i O;simp only[aaJ,aaW]at h;obtain⟨rfl,rfl,rfl⟩:=h;exact ah.index hX p W T K D C S E O q m V U Y k
      ·cases h
     ·cases h
    ·cases h
   ·cases h
  ·cases h
 ·cases h
end
end Go.cM
namespace Go.cM
def dP(b:Nat):∀(vs:L Value)(o:Nat)(w:World),(w.setCells b o vs).heap.size=w.heap.size/\(w.setCells b o vs).os=w.os/\(w.setCells b o vs).tape=w.tape/\(w.setCells b o vs).output=w.output /\
  ∀k,k≠b->(w.setCells b o vs).heap[k]?=w.heap[k]?
 |[],_,w=>⟨Z,Z,Z,Z,λ_ _=>rfl⟩
 |v::r,o,w=>by
  obtain⟨h1,h2,K,W,Y⟩:=dP b r (o+1) (w.setCell ⟨b,o,none⟩ v);rw[World.setCells];refine⟨by rw[h1];simp[World.setCell],by rw[h2];rfl,by rw[K];rfl,by rw[W];rfl,λk D=>?_⟩;rw[Y k D];exact heap_setCell w ⟨b,o,none⟩ v _ D
def dL{b:Nat}{vs:L Value}{o:Nat}{w:World}(h:∀j,j<vs.length->(w.cell? ⟨b,o+j,none⟩).isSome=true)(j:Nat) :
  (w.setCells b o vs).cell? ⟨b,j,none⟩=if o<=j/\j<o+vs.length then vs[j-o]? else w.cell? ⟨b,j,none⟩:=by
 by_cases E:o<=j/\j<o+vs.length
 ·rw[if_pos E];have:=World.cell?_setCells_in b vs o w h (j-o) bn;rw[show o+(j-o)=j by omega]at this;rw[this,Zn]
 ·rw[if_neg E];exact World.cell?_setCells_out b vs o w ⟨b,j,none⟩ (λ_ _=>by show j<o\/o+vs.length<=j;omega)
def cU{b:Nat}{vs:L Value}{o:Nat}{w:World}(h:∀j,j<vs.length->(w.cell? ⟨b,o+j,none⟩).isSome=true){j:Nat}(T:(w.cell? ⟨b,j,none⟩).isSome=true) :
  ((w.setCells b o vs).cell? ⟨b,j,none⟩).isSome=true:=by
 rw[dL h];split
 ·grind
 ·exact T
def lg{P:Program}(w:World)(S O ty Y:TypeId)(b o W V:Nat)(a:Addr)(sLen sCap:Nat)(cs:L Value)(n s:Nat)
  (N:P.underlying S=some (.slice Y))(Q:(P.info? Y).map (·.size)=some s)(E:n=Nat.min sLen W)(B:cs.length=n*s)
  (H:∀(j:Nat) v,cs[j]?=some v->w.cell? (a.add j)=some v)(A:∀j,j<cs.length->(w.cell? ⟨b,o+j,none⟩).isSome=true)(hf:∀j,j<cs.length->w.frozen? ⟨b,o+j,none⟩=false)(h1:∀v∈cs,v.oneCell'=true) :
  (Builtin.copy_ #[S,O] ty #[.slice (some ⟨b,o,none⟩) W V,.slice (some a) sLen sCap]).run P w = .ok (goInt n) (w.setCells b o cs):=by
 have T:=run_firstCells_some (P:=P) w s n a sLen sCap cs B H;have U:=run_storeCells_cells (P:=P) b o cs 0 w (by simpa using A) (by simpa using hf) h1;simp only[aaL]at U;cases hq:P.info? Y with
 |none=>simp[hq]at Q
 |some i =>
  have K:i.size=s:=by simpa[hq]using Q
  subst E;simp[Builtin.copy_,run_underlying N,Builtin.lenOf,sizeOf,typeInfo,hq,K,T,U]
def Ia{P:Program}(w:World){o:Oper}{a:Act}{K:Act->World->Prop}{Q:Exit->Act->World->Prop}(d s:Operand)(t Y:TypeId)
  (V:o.op = .call {callee := .builtin .copy,args := #[d,s],argTypes := #[t,Y]})(v u:Value)(U:a.eval d=v)(T:a.eval s=u){W:Value}{w':World}
  (E:(Builtin.copy_ #[t,Y] o.type #[v,u]).run P w = .ok W w')(h:K (a.put o.dst W) w'):o.wp P a w K Q:=by
 unfold Oper.wp execOp;simp only[V,resolve,invoke,builtin,Sem.run_bind,Sem.run_pure,Result.andThen_ok,List.map_toArray,Zl,List.map_nil,U,T,E];exact h
def jY{P:Program}(w:World){ops:Array Oper}{rest:L Oper}{o:Oper}{a:Act}{Q:Exit->Act->World->Prop}(Y:o.guard=none)(d s:Operand)(t W:TypeId)
  (U:o.op = .call {callee := .builtin .copy,args := #[d,s],argTypes := #[t,W]})(v u:Value)(T:a.eval d=v)(S:a.eval s=u){V:Value}{w':World}
  (E:(Builtin.copy_ #[t,W] o.type #[v,u]).run P w = .ok V w')(h:wpList P ops Q rest (a.put o.dst V) w'):wpList P ops Q (o::rest) a w :=
 wpList_plain Y λ_ O=>Ia w d s t W U v u T S E (O _ _ h)
def qX{P:Program}{ops:Array Oper}{o:Oper}{a:Act}{w:World}{K:Act->World->Prop}{Q:Exit->Act->World->Prop}{E:Prop}
  (p:o.guard=none)(d x:Operand)(Y W:TypeId)(V:o.op=Op.call {callee:=Callee.builtin Builtin.copy,args := #[d,x],argTypes := #[Y,W]})
  (v u:Value)(T:a.eval d=v)(I:a.eval x=u){U:Value}{w':World}(S:(Builtin.copy_ #[Y,W] o.type #[v,u]).run P w = .ok U w')(O:K (a.put o.dst U) w') :
  if Region.wanted o (yielded ops a.tmps)=true then Oper.wp P o a w K Q else E:=by
 rw[if_pos (by simp[Region.wanted,p])];exact Ia w d x Y W V v u T I S O
def qt{P:Program}(w:World)(tS tR e:TypeId)(ht:P.underlying tS=some (.slice e))(size:Nat)(hz:∀w,(Go.sizeOf e).run P w = .ok size w)
  (a b:Addr)(la ca lb cb:Nat)(hne:a.block≠b.block){u v:Value}(hua:w.cell? ⟨a.block,a.off,none⟩=some u)(hub:w.cell? ⟨b.block,b.off,none⟩=some v)(hfb:∀o,w.frozen? ⟨b.block,o,none⟩=false)(jC:b.spot=none) :
  (Extern.SlicesOverlaps.overlaps #[tS,tS] #[tR] #[.slice (some a) la ca,.slice (some b) lb cb]).run P w = .ok (.bool false) w:=by
 have shp:∀(x:Addr){v:Value},w.cell? ⟨x.block,x.off,none⟩=some v->∃t k,w.shape? x.block=some (t,k+1):=by
  intro x v hx;unfold World.cell? at hx;unfold World.shape?;split at hx
  ·rename_i c t f hh;simp only at hh hx ⊢;rw[hh];refine⟨t,c.size-1,?_⟩;have:x.off<c.size:=by grind
   simp;omega
  ·cases hx
 obtain⟨tA,kA,hsa⟩:=shp a hua;obtain⟨tB,kB,hsb⟩:=shp b hub;have hnb:(a.block != b.block)=true:=by simpa using hne
 have ZJ:(a.block==b.block)=false:=by simpa using hne
 have ZK:w.frozen? b=false:=by
  have:=hfb b.off;obtain⟨bb,bo,bs⟩:=b;simp only at jC;subst jC;exact this
 have hfe:=hfb (kB+1)
 change Sem.run P (α:=Value) (do
  let some t := (#[tS, tS] : Array TypeId)[0]? | stuck "slices.overlaps: no parameter types"
  let .slice elem ← underlying t | stuck "slices.overlaps: slice type expected"
  let size<-sizeOf elem
  match (some a:Option Addr),(some b:Option Addr)with
  |some a,some b =>
   if la=0\/lb=0\/size=0 then pure (Value.bool false)
   else if a.block != b.block&&(<- frozen a)&&(<- frozen b)then unsupported .addressObserved
   else do
    if a.block != b.block then do
     noView a;noView b
     if ← mayBeOne a b then return Value.bool ((← choose (.extern "sameAddr.stringBytes" 2)) == 1)
    pure (Value.bool (a.block==b.block&&a.off<b.off+lb*size&&b.off<a.off+la*size))
  |_,_=>pure (Value.bool false)) w=_
 by_cases h0:la=0\/lb=0\/size=0
 ·simp[run_underlying ht,hz,h0]
 ·simp[run_underlying ht,hz,h0,hnb,ZJ,frozen,noView,viewAt,mayBeOne,stringish,shape,Sem.run,hsa,hsb,ZK,hfe]
def qv{G:iJ}:∀{l:L CV}{vs:L Value}(n:Nat),bI G l vs->bI G (l.take n) (vs.take n)
 |_,_,0,_=>by simp[bI]
 |[],vs,n+1,h=>by simp only[bI]at h;subst h;simp[bI]
 |c::l,vs,n+1,h=>by
  simp only[bI]at h;obtain⟨u,us,rfl,h1,h2⟩:=h;simp only[abo,bI];exact⟨u,_,Z,h1,qv n h2⟩
def qw{G:iJ}:∀{l:L CV}{vs:L Value}(n:Nat),bI G l vs->bI G (l.drop n) (vs.drop n)
 |_,_,0,h=>by simpa using h
 |[],vs,n+1,h=>by simp only[bI]at h;subst h;simp[bI]
 |c::l,vs,n+1,h=>by
  simp only[bI]at h;obtain⟨u,us,rfl,h1,h2⟩:=h;simpa using qw n h2
def ng{G:iJ}:∀{l:L CV}{vs:L Value},bI G l vs->vs.length=l.length
 |[],vs,h=>by simp only[bI]at h;subst h;rfl
 |c::l,vs,h=>by
  simp only[bI]at h;obtain⟨u,us,rfl,h1,h2⟩:=h;simp[ng h2]
def qY{s:Nat}{l:L CV}(h:∀r∈l,r.cells.length=s)(i:Nat)(K:i<=l.length):(bD l).take (i*s)=bD (l.take i):=by
 have e:l=l.take i++l.drop i:=(aaY i l).symm;have h1:(bD (l.take i)).length=i*s:=by rw[cZ (λr E=>h r (abL E)),ZQ,acz K]
 conv=>lhs;rw[e,dr]
 rw[<- h1];simp
def qZ{s:Nat}{l:L CV}(h:∀r∈l,r.cells.length=s)(i:Nat)(K:i<=l.length):(bD l).drop (i*s)=bD (l.drop i):=by
 have e:l=l.take i++l.drop i:=(aaY i l).symm;have h1:(bD (l.take i)).length=i*s:=by rw[cZ (λr E=>h r (abL E)),ZQ,acz K]
 conv=>lhs;rw[e,dr]
 rw[<- h1];simp
section
variable {P : Program}{X : Ctx}{ops : Array Oper}{o : Oper}{rest : L Oper}{env : Env}{σ : St}{acc : L Fp}{Q : Env -> St -> L Fp -> Prop}
end
def uL{α:Type}:∀(a b:List α),fX a.length (a++b)=some b
 |[],_=>rfl
 |x::a,b=>by simp only[aac,Zy,fX,uL a b]
def uN{α:Type}:∀(m n:Nat)(l r s:List α),fX m l=some r->fX n r=some s->fX (m+n) l=some s
 |0,n,l,r,s,h1,h2=>by simp only[fX]at h1;cases h1;rw[ZG];exact h2
 |m+1,n,[],r,s,h1,h2=>by simp only[fX]at h1;cases h1
 |m+1,n,x::l,r,s,h1,h2=>by rw[Nat.add_right_comm];simp only[fX]at h1 ⊢;exact uN m n l r s h1 h2
def zW:∀(a b:L AV),a.length=b.length->dI 0 a b=some a
 |[],[],_=>rfl
 |[],_::_,h=>by simp at h
 |_::_,[],h=>by simp at h
 |x::a,y::b,h=>by simp only[dI,zW a b q6]
end Go.cM
namespace Go.cM
def xC(bs:L (Nat×L AV)):St:=⟨bs,[],bs.map (·.1)⟩
def HR(β:je)(r:AV)(N:L (Nat×L AV)):Ending->World->Prop:=λe w' =>
 ∃u g',e = .returned u/\aI g' r u/\Inv w' g' (xC N)/\gy β.w β.g β.σ w' g' (xC N)
def dM(P:Program)(X:Ctx)(f:FuncId)(H:L (Nat×L AV))(J:L AV)(r:AV)(N:L (Nat×L AV)):Prop :=
 Enters P f/\∀(g:Gh)(w:World)(vs:L Value),Inv w g (xC H)->mA X g.G->bC g J vs->Calls P f vs.toArray w (HR ⟨w,g,xC H⟩ r N)
mutual
def AV.rn(ψ:Nat->Nat):AV->AV
 |.ptr k o => .ptr (ψ k) o
 |.fZ k o s n => .fZ (ψ k) o s n
 |.agg l => .agg (NS ψ l)
 |.gb l => .gb (NS ψ l)
 |.c v => .c v
 |.own k s rows => .own k s rows
 |.any => .any
def NS(ψ:Nat->Nat):L AV->L AV
 |[]=>[]
 |a::l=>a.rn ψ::NS ψ l
end
mutual
def KB(us:L Nat):AV->Bool
 |.own (.tok _ _) _ _=>false
 |.ptr k _=>mem k us
 |.fZ k _ _ _=>mem k us
 |.agg l=>vq us l
 |.gb l=>vq us l
 |.own .exact _ _=>true
 |.c _=>true
 |.any=>true
def vq(us:L Nat):L AV->Bool
 |[]=>true
 |a::l=>both (KB us a) (vq us l)
end
def zX(ψ:Nat->Nat):∀l:L CV,NS ψ (l.map AV.c)=l.map AV.c
 |[]=>rfl
 |c::l=>by simp only[Zl,NS,AV.rn,zX ψ l]
def tG(us:L Nat):∀l:L CV,vq us (l.map AV.c)=true
 |[]=>rfl
 |c::l=>by simp only[Zl,vq,KB,both,tG us l]
section
variable {g g1 : Gh}{us : L Nat}{ψ : Nat -> Nat}
mutual
def QA(B:g1.G=g.G)(h:∀k,mem k us=true->g1.box (ψ k)=g.box k/\g1.room (ψ k)=g.room k):∀{a:AV}{u:Value},KB us a=true->aI g a u->aI g1 (a.rn ψ) u/\(a.one=true->(a.rn ψ).one=true)
 |.c v,u,_,E=>by simp only[AV.rn,aI,B]at E ⊢;exact⟨E,id⟩
 |.own .exact s rows,u,_,E=>by simp only[AV.rn,aI,B]at E ⊢;exact⟨E,id⟩
 |.own (.tok _ _) s rows,u,Y,_=>by simp[KB]at Y
 |.ptr k o,u,Y,E=>by
  simp only[KB]at Y;simp only[AV.rn,aI,(h k Y).1]at E ⊢;exact⟨E,λ_=>rfl⟩
 |.fZ k o s n,u,Y,E=>by
  simp only[KB]at Y;simp only[AV.rn,aI,(h k Y).1,(h k Y).2]at E ⊢;exact⟨E,λ_=>rfl⟩
 |.any,u,_,E=>by simp only[AV.rn,aI]at E ⊢;exact⟨E,id⟩
 |.agg l,u,Y,E=>by
  simp only[KB]at Y;simp only[AV.rn,aI]at E ⊢;obtain⟨vs,e,h1,h2⟩:=E;obtain⟨K,W⟩:=KC B h Y h1;exact⟨⟨vs,e,K,W h2⟩,λh=>by simp[AV.one]at h⟩
 |.gb l,u,Y,E=>by
  simp only[KB]at Y;simp only[AV.rn,aI]at E ⊢;obtain⟨vs,e,h1,h2⟩:=E;obtain⟨K,W⟩:=KC B h Y h1;refine⟨⟨vs,e,K,?_⟩,λh=>by simp[AV.one]at h⟩;rw[(bC.get K).1,<- (bC.get h1).1];exact h2
def KC(B:g1.G=g.G)(h:∀k,mem k us=true->g1.box (ψ k)=g.box k/\g1.room (ψ k)=g.room k):∀{l:L AV}{vs:L Value},vq us l=true->bC g l vs->bC g1 (NS ψ l) vs/\(l.all AV.one=true->(NS ψ l).all AV.one=true)
 |[],vs,_,E=>by simp only[NS,bC]at E ⊢;exact⟨E,id⟩
 |a::l,vs,Y,E=>by
  simp only[vq]at Y;obtain⟨U,A⟩:=dR Y;simp only[NS,bC]at E ⊢;obtain⟨u,us',e,h1,h2⟩:=E;obtain⟨K,W⟩:=QA B h U h1;obtain⟨T,S⟩:=KC B h A h2;refine⟨⟨u,us',e,K,T⟩,λV=>?_⟩;simp only[aaE,aal]at V ⊢;exact⟨W V.1,S V.2⟩
end
def Ib{w:World}{b:Nat}(B:g1.G=g.G)(h:∀k,mem k us=true->g1.box (ψ k)=g.box k/\g1.room (ψ k)=g.room k):∀{l:L AV}{o:Nat},vq us l=true->cg w g b o l->cg w g1 b o (NS ψ l)
 |[],_,_,_=>trivial
 |a::l,o,ho,⟨⟨u,Y,C,K⟩,c4,c5⟩=>by
  simp only[vq]at ho;obtain⟨W,A⟩:=dR ho;obtain⟨I,Q⟩:=QA B h W C;exact⟨⟨u,Y,I,Q K⟩,c4,Ib B h A c5⟩
end
def kV{α:Type}:L Nat->L (Nat×α)->L (Nat×α)
 |[],l=>l
 |k::ks,l=>Aw k (kV ks l)
def pR{α:Type}{j:Nat}:∀{ks:L Nat}{l:L (Nat×α)},ak j (kV ks l)=if j∈ks then none else ak j l
 |[],l=>by simp[kV]
 |k::ks,l=>by
  simp only[kV,jl,pR (ks:=ks)];by_cases h:j=k
  ·simp[h]
  ·simp[h]
def xD{α:Type}{j:Nat}:∀{a b:L (Nat×α)},ak j (a++b)=match ak j a with
  |some v=>some v
  |none=>ak j b
 |[],b=>rfl
 |(k,v)::a,b=>by
  simp only[Zy,an,xD (a:=a)];split<;>rfl
def Ic(ks:L Nat)(nb:L (Nat×L AV))(Y:L Nat)(σ:St):St:=⟨nb++kV ks σ.boxes,σ.toks,Y++σ.used⟩
def uO(ks:L Nat)(nb:L (Nat×L AV))(Y:L Nat):gA (Ic ks nb Y) ⟨[],ks++nb.map (·.1)++Y⟩ where
 out:=λσ k D=>by
  simp only[Y8,not_or]at D;refine⟨?_,Z,?_⟩
  ·simp only[Ic,xD,nX D.1.2,pR,if_neg D.1.1]
  ·simp only[Ic,Y8];exact⟨λh=>h.resolve_left D.2,.inr⟩
 same:=λσ N h k D=>by
  obtain⟨h1,h2,K⟩:=h k (.inr D);refine⟨?_,h2,?_⟩
  ·simp only[Ic,xD,pR,h1]
  ·simp only[Ic,Y8,K]
structure Xi(bs:List (Nat×List AV))(us:List Nat)(bi bo:List (Nat×List AV))(bx po:List (Nat×Nat))(ψ:Nat->Nat)(nb:List (Nat×List AV)):Prop where
 d2:distinct (bx.map (·.2))=true
 keys:∀k kk,ak k bx=some kk->k∈bi.map (·.1)/\∃cs,ak kk bs=some cs
 cells:∀ts k cs,ak k bi=some cs->∃old oc,ak k bx=some old/\ak old bs=some oc/\eY ⟨λk=>ak k bx,λ_=>none⟩ ts cs oc
 nb:∀ck cs',ak ck nb=some cs'->∃ok cs,ak ck po=some ok/\ak ok bo=some cs/\cs'=NS ψ cs
 ZL:∀ck ok,ak ck po=some ok->ψ ok=ck
 outs:∀k,mem k (bo.map (·.1))=true->∃ck,ak ck po=some k
 kept:∀ck ok,ak ck po=some ok->(1000000<=ok/\ak ok bx=some ck/\ak ok bo≠none)\/(ck ∉ us/\ck<1000000)
 names:∀ok cs,ak ok bo=some cs->vq (bo.map (·.1)) cs=true
def Xj{w w':World}{g g':Gh}{σ:St}(Y:Inv w g σ){bi B:L (Nat×L AV)}{bx po:L (Nat×Nat)}{ψ:Nat->Nat}{nb:L (Nat×L AV)}
  (C:Xi σ.boxes σ.used bi B bx po ψ nb)(q:Inv w' g' (xC B))(D:gy w (g.fL ⟨λk=>ak k bx,λ_=>none⟩) (xC bi) w' g' (xC B)) :
  let g1:Gh:=⟨g'.G,λk=>match ak k po with|some ok=>g'.box ok|none=>g.box k,g.tok,λk=>match ak k po with|some ok=>g'.room ok|none=>g.room k⟩
  let GQ:=Ic (bx.map (·.2)) nb (po.map (·.1)) σ
  Inv w' g1 GQ/\gy w g σ w' g1 GQ/\g.le g1/\∀k,mem k (B.map (·.1))=true->g1.box (ψ k)=g'.box k/\g1.room (ψ k)=g'.room k:=by
 intro g1 GQ;have ZM:∀k b,(g.fL ⟨λk=>ak k bx,λ_=>none⟩).box k=some b->∃T,ak k bx=some T/\g.box T=some b:=by
  intro k b e;simp only[Gh.fL]at e;split at e
  ·rename_i T hkk;exact⟨T,hkk,e⟩
  ·simp at e
 have hrG:(g.fL ⟨λk=>ak k bx,λ_=>none⟩).G=g.G:=rfl;have own:∀b o,gX (g.fL ⟨λk=>ak k bx,λ_=>none⟩) (xC bi) b o->∃T P,T∈bx.map (·.2)/\ak T σ.boxes=some P/\g.box T=some b:=by
  rintro b o (⟨k,cs,I,Q⟩|⟨k,n,p,hi,I,_⟩)
  ·obtain⟨T,M,f2⟩:=ZM k b Q;obtain⟨_,P,f3⟩:=C.keys k T M;exact⟨T,P,List.mem_map.2 ⟨_,dx M,Z⟩,f3,f2⟩
  ·simp[xC,ak]at I
 have En:∀b o,gX (g.fL ⟨λk=>ak k bx,λ_=>none⟩) (xC bi) b o->gX g σ b o:=by
  intro b o h;obtain⟨T,P,_,I,Q⟩:=own b o h;exact .inl ⟨T,P,I,Q⟩
 have Vk:∀k ok cs,ak k po=some ok->ak k σ.boxes=some cs->k∈bx.map (·.2):=by
  intro k ok cs I Q;rcases C.kept k ok I with ⟨_,h,_⟩|⟨h,_⟩
  ·exact List.mem_map.2 ⟨_,dx h,Z⟩
  ·obtain⟨b,A,_⟩:=Y.box k cs Q;exact absurd (Y.used k (.inl (by rw[A];simp))) h
 have tF:∀k cs,ak k GQ.boxes=some cs->(∃ok W,ak k po=some ok/\ak ok B=some W/\cs=NS ψ W)\/(ak k po=none/\k ∉ bx.map (·.2)/\ak k σ.boxes=some cs):=by
  intro k cs e;simp only[GQ,Ic,xD]at e;cases hn:ak k nb with
  |some v =>
   rw[hn]at e;simp at e;subst e;exact .inl (C.nb k v hn)
  |none =>
   rw[hn]at e;simp only[pR]at e;split at e
   ·simp at e
   ·rename_i Yl;refine .inr ⟨?_,Yl,e⟩;cases hp:ak k po with
    |none=>rfl
    |some ok=>exact absurd (Vk k ok cs hp e) Yl
 have hψ:∀k,mem k (B.map (·.1))=true->g1.box (ψ k)=g'.box k/\g1.room (ψ k)=g'.room k:=by
  intro k hkk;obtain⟨ck,h1⟩:=C.outs k hkk;have h2:=C.ZL ck k h1;subst h2;simp only[g1,h1,and_self]
 have Qt:∀k cs b,k ∉ bx.map (·.2)->ak k σ.boxes=some cs->g.box k=some b->∀o,¬gX (g.fL ⟨λk=>ak k bx,λ_=>none⟩) (xC bi) b o:=by
  intro k cs b I Q A o ho;obtain⟨T,P,M,f2,f3⟩:=own b o ho;have:=Y.fo k T cs P b Q f2 A f3;subst this;exact I M
 have Qf:∀k ok,ak k po=some ok->(∃b,g.box k=some b)->g'.box ok=g.box k/\g'.room ok=g.room k:=by
  intro k ok e ⟨b,A⟩;rcases C.kept k ok e with ⟨h1,h2,K⟩|⟨h1,_⟩
  ·obtain⟨_,h4,h5⟩:=D.ids ok h1 (by simpa[xC]using K);simp only[Gh.fL,h2]at h4 h5;exact⟨h4,h5⟩
  ·exact absurd (Y.used k (.inl (by rw[A];simp))) h1
 have hle:g.le g1:=by
  refine⟨λb o v h=>D.le b o v h,λk b h=>?_,λk b h=>?_,λk hw fI h=>⟨hw,fI,h,aav _,λ_=>rfl⟩⟩
  ·simp only[g1];split
   ·rename_i ok e;rw[(Qf k ok e ⟨b,h⟩).1];exact h
   ·exact h
  ·simp only[g1];split
   ·rename_i ok e;exact(Qf k ok e ⟨b,h⟩).2
   ·rfl
 have V:∀b o,b<w.heap.size->¬gX (g.fL ⟨λk=>ak k bx,λ_=>none⟩) (xC bi) b o->g.G b o=none->g'.G b o=none:=by
  intro b o A J h;cases hg:g'.G b o with
  |none=>rfl
  |some v =>
   rcases D.new b o v hg with S|S|S
   ·rw[hrG,h]at S;simp at S
   ·omega
   ·exact absurd S J
 have Vi:∀k n b p hi,ak k σ.toks=some n->g.tok k=some (n,some (b,p,hi))->∀o,¬gX (g.fL ⟨λk=>ak k bx,λ_=>none⟩) (xC bi) b o:=by
  intro k n b p hi e I o ho;obtain⟨fI,M,f2⟩:=Y.tok k n e;rw[I]at M;simp at M;subst M;obtain⟨T,P,_,Q,e3⟩:=own b o ho;exact(f2 b p hi Z).2.2 T P Q e3
 have O:∀ok W b,ak ok B=some W->g'.box ok=some b->w.heap.size<=b\/∃T P,T∈bx.map (·.2)/\ak T σ.boxes=some P/\g.box T=some b:=by
  intro ok W b I Q;rcases D.boxes ok W b (by simpa[xC]using I) Q with h|⟨k0,cs0,h1,h2⟩
  ·exact .inl h
  ·exact .inr (own b 0 (.inl ⟨k0,cs0,h1,h2⟩))
 have T4:∀k cs b,ak k σ.boxes=some cs->g.box k=some b->b<w.heap.size/\(∀o,g.G b o=none)/\cg w g b 0 cs:=by
  intro k cs b e A;obtain⟨b',M,f2,f3,f4⟩:=Y.box k cs e;rw[A]at M;cases M;exact⟨f2,f3,f4⟩
 have T5:∀k cs ok W b b',k ∉ bx.map (·.2)->ak k σ.boxes=some cs->g.box k=some b->ak ok B=some W->g'.box ok=some b'->b≠b':=by
  rintro k cs ok W b b' I Q e3 e4 e5 rfl;rcases O ok W b e4 e5 with h|⟨T,P,h1,h2,K⟩
  ·have:=(T4 k cs b Q e3).1;omega
  ·have:=Y.fo k T cs P b Q h2 e3 K;subst this;exact I h1
 refine⟨⟨q.nF,?_,?_,?_,?_,?_,?_⟩,⟨D.os,D.tape,D.output,D.size,λb A J=>D.block b A (λo ho=>J o (En b o ho)),λb o A J=>D.kept b o A (λho=>J (En b o ho)),hle.1,?_,?_,?_,?_⟩,hle,hψ⟩
 ·intro k cs e;rcases tF k cs e with ⟨ok,W,I,Q,rfl⟩|⟨H,I,Q⟩
  ·obtain⟨b,M,f2,f3,f4⟩:=q.box ok W (by simpa[xC]using Q);exact⟨b,by simp only[g1,I];exact M,f2,f3,Ib (g:=g') (g1:=g1) (us:=B.map (·.1)) (show g'.G=g'.G from Z) hψ (C.names ok W Q) f4⟩
  ·obtain⟨b,b1,b2,b3,b4⟩:=Y.box k cs Q;have J:=Qt k cs b I Q b1;exact⟨b,by simp only[g1,H];exact b1,aaU b2 D.size,λo=>V b o b2 (J o) (b3 o),(cg.of_same (λo=>D.kept b o b2 (J o)) b4).mono hle⟩
 ·intro k k' cs P b e e' f U;simp only[g1]at f U;rcases tF k cs e with ⟨ok,W,I,Q,_⟩|⟨H,I,Q⟩
  ·rw[I]at f;rcases tF k' P e' with ⟨Xk,QB,E,N,_⟩|⟨Xl,E,N⟩
   ·rw[E]at U;have:=q.fo ok Xk W QB b (by simpa[xC]using Q) (by simpa[xC]using N) f U;subst this;rw[<- C.ZL k ok I,<- C.ZL k' ok E]
   ·rw[Xl]at U;exact absurd Z (T5 k' P ok W b b E N U Q f)
  ·rw[H]at f;rcases tF k' P e' with ⟨Xk,QB,E,N,_⟩|⟨Xl,E,N⟩
   ·rw[E]at U;exact absurd Z (T5 k cs Xk QB b b I Q f N U)
   ·rw[Xl]at U;exact Y.fo k k' cs P b Q N f U
 ·intro k n e;obtain⟨fI,h1,h2⟩:=Y.tok k n e;refine⟨fI,h1,λb p hi hr=>?_⟩;obtain⟨K,h4,h5⟩:=h2 b p hi hr;subst hr;refine⟨aaU K D.size,λo HK Kj=>?_,λk' cs e' U=>?_⟩
  ·obtain⟨h6,⟨u,h7⟩,h8⟩:=h4 o HK Kj;have J:=Vi k n b p hi e h1 o;exact⟨V b o K J h6,⟨u,(D.kept b o K J).1.trans h7⟩,(D.kept b o K J).2.trans h8⟩
  ·simp only[g1]at U;rcases tF k' cs e' with ⟨Xk,QB,E,N,_⟩|⟨Xl,E,N⟩
   ·rw[E]at U;rcases O Xk QB b N U with h|⟨T,P,g1',g2',g3'⟩
    ·omega
    ·exact h5 T P g2' g3'
   ·rw[Xl]at U;exact h5 k' cs N U
 ·exact Y.ga
 ·intro k e;show k∈po.map (·.1)++σ.used;simp only[g1]at e;rw[Y8];cases hp:ak k po with
  |some ok=>exact .inl (List.mem_map.2 ⟨_,dx hp,Z⟩)
  |none =>
   rw[hp]at e;exact .inr (Y.used k e)
 ·intro k cs b e f o;simp only[g1]at f ⊢;rcases tF k cs e with ⟨ok,W,I,Q,_⟩|⟨H,I,Q⟩
  ·rw[I]at f ⊢;exact q.room ok W b (by simpa[xC]using Q) f o
  ·rw[H]at f ⊢;have J:=Qt k cs b I Q f o;have b2:=(T4 k cs b Q f).1;obtain⟨q1,q2⟩:=Y.room k cs b Q f o;exact⟨λho=>(q1 ho).imp λu hu=>(D.kept b o b2 J).1.trans hu,(D.kept b o b2 J).2.trans q2⟩
 ·intro b o v h;rcases D.new b o v h with S|S|S
  ·exact .inl S
  ·exact .inr (.inl S)
  ·exact .inr (.inr (En b o S))
 ·intro k cs b e f;simp only[g1]at f;rcases tF k cs e with ⟨ok,W,I,Q,_⟩|⟨H,I,Q⟩
  ·rw[I]at f;rcases O ok W b Q f with h|⟨T,P,h1,h2,K⟩
   ·exact .inl h
   ·exact .inr ⟨T,P,h2,K⟩
  ·rw[H]at f;exact .inr ⟨k,cs,Q,f⟩
 ·intro k n b p hi e I;exact .inr ⟨k,n,p,hi,e,I,aav _,aav _⟩
 ·intro k vr e;cases hc:ak k GQ.boxes with
  |none=>exact absurd hc e
  |some cs =>
   rcases tF k cs hc with ⟨ok,W,I,Q,_⟩|⟨H,I,Q⟩
   ·rcases C.kept k ok I with ⟨h1,h2,K⟩|⟨_,h2⟩
    ·obtain⟨_,P,h4⟩:=C.keys ok k h2;obtain⟨b,A,_⟩:=Y.box k P h4;obtain⟨q1,q2⟩:=Qf k ok I ⟨b,A⟩;exact⟨by rw[h4];simp,by simp only[g1,I];exact q1,by simp only[g1,I];exact q2⟩
    ·omega
   ·exact⟨by rw[Q];simp,by simp only[g1,H],by simp only[g1,H]⟩
section
variable {P : Program}{X : Ctx}
def bP.Eo{o:Oper}{env:Env}{σ:St}{f:FuncId}{args:Array Operand}{H:Array TypeId}(T:o.op = .call {callee := .value (.func f),args:=args,argTypes:=H})
  {l:L AV}(q:gk (aJ X env) args.toList=some l){O V:L (Nat×L AV)}{G:L AV}{r:AV}(hq:dM P X f O G r V){bx po:L (Nat×Nat)}{ψ:Nat->Nat}{nb:L (Nat×L AV)}
  (p:∀ts,eY ⟨λk=>ak k bx,λ_=>none⟩ ts G l)(C:∀bs us,(∀k∈bx.map (·.2),ak k bs=ak k σ.boxes)->(∀k∈po.map (·.1),k∈us↔k∈σ.used)->Xi bs us O V bx po ψ nb)(hr:KB (V.map (·.1)) r=true) :
  bP P X o env σ (r.rn ψ) (Ic (bx.map (·.2)) nb (po.map (·.1))) ⟨[],bx.map (·.2)++nb.map (·.1)++po.map (·.1)⟩:=by
 intro cT N w g a next Q h1 h2 Y K de W;have U:=C N.boxes N.used (λk D=>(h2 k (.inr (by simp only[Y8];exact .inl (.inl D)))).1) (λk D=>(h2 k (.inr (by simp only[Y8];exact .inr D))).2.2);have oS:∀x∈args.toList,x∈o.op.operands.toList:=by
  intro x I;rw[T];simp only[Op.operands,Call.operands,aaD,Y8];exact .inr I
 have vX:gk (aJ X cT) args.toList=some l:=by
  rw[rP _ (λx I=>h1 x (oS x I))];exact q
 have fJ:=yT (g:=g) (ev:=a.eval) (λx v I=>cn de K I) vX;have B:(execOp a.eval o).run P w = .ok (.enter f (args.map a.eval)) w:=by
  obtain⟨dst,op,J,pos,M,guard⟩:=o;simp only at T;subst T;simp[execOp,resolve,Deferred.ofValue,invoke,Act.eval,hq.1 _ w]
 unfold Oper.wp;rw[B,Oper.upon_enter]
 have E:=(Y.fL ⟨λk=>ak k bx,λ_=>none⟩ (xC O) (λk cs e=>by
   obtain⟨S,oc,e1,e2,e3⟩:=U.cells N.toks k cs e;exact⟨S,oc,e1,e2,e3⟩) (λk k' S e e'=>lP U.d2 (dx e) (dx e')) (λk n e=>by simp[xC,ak]at e) (λk k' m m' S e=>by simp at e) (λk e=>by
   simp only[ne_eq,acH,acw]at e;cases A:ak k bx with
   |none=>exact absurd A e
   |some kk=>exact(U.keys k kk A).1)).1
 have:=hq.2 (g.fL ⟨λk=>ak k bx,λ_=>none⟩) w (args.toList.map a.eval) E K (tD (nq Y) (p N.toks) fJ).1;rw[show(args.toList.map a.eval).toArray=args.map a.eval from by rw[<- aaP]]at this;refine this.mono ?_;rintro e w' ⟨u,g',rfl,h3,h4,h5⟩;obtain⟨k1,k2,k3,k4⟩:=Xj Y U h4 h5;refine W u w' _ ?_ k1 k2 k3;exact(QA (g:=g') (us:=V.map (·.1)) (by rfl) k4 hr h3).1
end
end Go.cM
namespace Go.cM
def dM.of{P:Program}{X:Ctx}{f:FuncId}{Y:Func}{c:Code}{H N:L (Nat×L AV)}{J:L AV}{r:AV}(hf:P.funcs[f]?=some Y)(A:Y.body=some c)(O:Enters P f)
  (p:J.length<=Y.ntmps)(env:Env)(σ:St)(I:env=(J.zipIdx.map λ(v,i)=>(i,v)))(U:xC H=σ)
  (h:∀β,AK P X f Y.ntmps β (HR β r N) [.code c] env σ):dM P X f H J r N:=by
 subst U;refine⟨O,λg w vs W G K cs=>?_⟩;have S:=(bC.get K).1;have D:Live X ⟨w,g,xC H⟩ Y.ntmps env (xC H) g w {tmps:=vs.toArray++Array.replicate (Y.ntmps-vs.toArray.size) undef,defers:=[]}:=by
  refine⟨W,G,?_,gy.refl _ _ _,?_,Z⟩
  ·intro t a e;subst I;have M:∀(l:L AV)(us:L Value)(k:Nat),bC g l us->ak t ((l.zipIdx k).map λ(v,i)=>(i,v))=some a->k<=t/\∃u,us[t-k]?=some u/\aI g a u:=by
    intro l
    induction l with
    |nil=>intro us k _ e;simp[ak]at e
    |cons v l ih =>
     intro us k Q e;simp only[bC]at Q;obtain⟨u,us,rfl,h1,h2⟩:=Q;simp only[abi,Zl,an]at e;split at e
     ·simp_all
     ·grind
   obtain⟨_,u,V,T⟩:=M J vs 0 K e;simp at V;have E:t<vs.length:=(List.getElem?_eq_some_iff.1 V).1;have:(vs.toArray++Array.replicate (Y.ntmps-vs.toArray.size) undef).getD t undef=u:=by
    rw[aaN,Z4 (by simpa using E)];simp[V]
   rw[this];exact T
  ·simp;omega
 obtain⟨e,w',B,h1,V,T,C⟩:=h ⟨w,g,xC H⟩ g w _ cs D;have q:Frame.enter P f vs.toArray .normal =
   (top f).at {tmps:=vs.toArray++Array.replicate (Y.ntmps-vs.toArray.size) undef,defers:=[]} [.code c]:=by
  simp[Frame.enter,Frame.at,hf,A,top]
 exact⟨_,w',B,h1,by rw[q];exact V,T,C⟩
def AB:L AV->AV
 |[] => .c .undef
 |[x]=>x
 |l => .gb l
def tH(bx:L (Nat×Nat))(ks:L Nat):Bool:=both (distinct (bx.map (·.2))) (both (Ei bx) (BZ ks (fK bx)))
section
variable {P : Program}{X : Ctx}{f : FuncId}{n : Nat}{β : je}{K : L Item}{env : Env}
def AK.Cb(I:(∃T,K = .code .ret::T)\/K=[])(hX:ct P X){U:Func}(hf:P.funcs[f]?=some U){bs:L (Nat×L AV)}{ts:L (Nat×Nat)}{us:L Nat}{l:L AV}(E:rJ X bs env U.results.toList=some l)(bx:L (Nat×Nat)){r:AV}{N:L (Nat×L AV)}
  (A:tH bx (fK N)=true)(Q:Conv ⟨λk=>ak k bx,λ_=>none⟩ ts r (Go.cM.AB l))(V:Eg ⟨λk=>ak k bx,λ_=>none⟩ ts bs N):AK P X f n β (HR β r N) K env ⟨bs,ts,us⟩:=by
 intro g w a cs Y;unfold tH at A;obtain⟨H,A⟩:=dR A;obtain⟨C,q⟩:=dR A;rw[kg]at q;obtain⟨u,O,W⟩:=nO hX Y E;obtain⟨M,J⟩:=Y.inv.fL ⟨λk=>ak k bx,λ_=>none⟩ (xC N) (λk cells e=>qM V k cells e) (λk k' S G B=>lP H (dx G) (dx B))
  (λk n e=>by simp[xC,ak]at e) (λk k' m m' S e=>by simp at e) (λk e=>by
   simp only[ne_eq,acH,acw]at e;have:=qL q k (by rw[kg];exact mG e)
   exact this)
 suffices D:aI (g.fL ⟨λk=>ak k bx,λ_=>none⟩) r u/\∀k,1000000<=k->ak k (xC N).boxes≠none->ak k bx=some k by
  rcases I with ⟨T,rfl⟩|rfl
  ·exact⟨.returned u,w,_,⟨u,_,Z,D.1,M,Y.frame.trans (J D.2)⟩,.one step_ret,Z,Z,Y.defers,Z,U,hf,O⟩
  ·exact⟨.returned u,w,_,⟨u,_,Z,D.1,M,Y.frame.trans (J D.2)⟩,.one step_end,Z,Z,Y.defers,Z,U,hf,O⟩
 refine⟨?_,λk p e=>?_⟩
 ·refine(pO (nq Y.inv) Q ?_).1;clear Q
  match l,E,W with
  |[],_,W=>simp only[Go.cM.AB,aI,Rel];exact W
  |[x],_,W=>exact W
  |x::y::r,_,W=>exact W
 ·cases A:ak k (xC N).boxes with
  |none=>exact absurd A e
  |some c =>
   obtain⟨S,oc,q1,q2,_⟩:=qM V k c A;have:=uJ C k S p q1;subst this;exact q1
def AK.AB(hX:ct P X){W:Func}(hf:P.funcs[f]?=some W){bs:L (Nat×L AV)}{ts:L (Nat×Nat)}{us:L Nat}{l:L AV}(E:rJ X bs env W.results.toList=some l)(bx:L (Nat×Nat)){r:AV}{N:L (Nat×L AV)}
  (A:tH bx (fK N)=true)(V:Conv ⟨λk=>ak k bx,λ_=>none⟩ ts r (Go.cM.AB l))(Y:Eg ⟨λk=>ak k bx,λ_=>none⟩ ts bs N):AK P X f n β (HR β r N) (.code .ret::K) env ⟨bs,ts,us⟩ :=
 AK.Cb (.inl ⟨_,Z⟩) hX hf E bx A V Y
end
structure MC(c:Nat->Nat->List AV):Prop where
 conv:∀(ρ:Ren)(ts:List (Nat×Nat))(a b a' b':Nat),ρ.bx a=some a'->ρ.bx b=some b'->eY ρ ts (c a b) (c a' b')
 rn:∀(ψ:Nat->Nat)(a b:Nat),NS ψ (c a b)=c (ψ a) (ψ b)
 ok:∀(us:List Nat)(a b:Nat),mem a us=true->mem b us=true->vq us (c a b)=true
abbrev mI(c:Nat->Nat->L AV)(s f:L CV):L (Nat×L AV):=[(1000000,c 1000001 1000002),(1000001,s.map AV.c),(1000002,f.map AV.c)]
abbrev mO(c:Nat->Nat->L AV)(s f:L CV):L (Nat×L AV):=[(1000000,c 999991 999992),(999991,s.map AV.c),(999992,f.map AV.c)]
abbrev ZN(c:Nat->Nat->L AV)(f:L CV):L (Nat×L AV):=[(1000000,c 0 1000002),(1000002,f.map AV.c)]
abbrev Yz(c:Nat->Nat->L AV)(f:L CV):L (Nat×L AV):=[(1000000,c 0 999992),(999992,f.map AV.c)]
def NT(Q Y G:Nat)(k:Nat):Nat:=match Nat.beq k 1000000 with
 |true=>Q
 |false=>match Nat.beq k 999991 with
  |true=>Y
  |false=>match Nat.beq k 999992 with
   |true=>G
   |false=>k
def tI(us:L Nat)(Q E q Y G:Nat):Bool :=
 both (distinct [Q,E,q]) (both (distinct [Q,Y,G]) (both (match mem Y us with|true=>false|false=>true) (both (match mem G us with|true=>false|false=>true) (both (Nat.blt Y 1000000) (Nat.blt G 1000000)))))
def uT(us:L Nat)(Q q Y:Nat):Bool:=both (distinct [Q,q]) (both (distinct [Q,Y]) (both (match mem Y us with|true=>false|false=>true) (Nat.blt Y 1000000)))
def y8{a b c:Nat}(h:distinct [a,b,c]=true):a≠b/\a≠c/\b≠c:=by
 simp only[distinct]at h;split at h
 ·simp at h
 ·rename_i h1;split at h
  ·simp at h
  ·rename_i h2;have K:=cQ h1;have W:=cQ h2;simp at K W;exact⟨K.1,K.2,W⟩
def ZO{bs:L (Nat×L AV)}{us:L Nat}{c J:Nat->Nat->L AV}(A:MC c)(P:MC J){s f U T:L CV}{Q E q Y G:Nat}(K:tI us Q E q Y G=true)
  (h1:ak Q bs=some (c E q))(h2:ak E bs=some (s.map AV.c))(S:ak q bs=some (f.map AV.c)) :
  Xi bs us (mI c s f) (mO J U T) [(1000000,Q),(1000001,E),(1000002,q)] [(Q,1000000),(Y,999991),(G,999992)] (NT Q Y G) [(Q,J Y G),(Y,U.map AV.c),(G,T.map AV.c)]:=by
 unfold tI at K;obtain⟨O,K⟩:=dR K;obtain⟨B,K⟩:=dR K;obtain⟨N,K⟩:=dR K;obtain⟨H,K⟩:=dR K;obtain⟨D,C⟩:=dR K;have u:mem Y us=false:=by split at N<;>simp_all
 have ZP:mem G us=false:=by split at H<;>simp_all
 obtain⟨W,V,M⟩:=y8 B;refine⟨O,?_,?_,?_,?_,?_,?_,?_⟩
 ·intro k kk e;simp only[an]at e;split at e
  ·simp_all
  ·split at e
   ·simp_all
   ·split at e
    ·simp_all
    ·simp[ak]at e
 ·intro ts k cs e;simp only[an]at e;split at e
  ·simp at e;subst_vars;exact⟨Q,_,gp,h1,A.conv _ _ _ _ _ _ gp gp⟩
  ·split at e
   ·simp at e;subst_vars;exact⟨E,_,gp,h2,dy _⟩
   ·split at e
    ·simp at e;subst_vars;exact⟨q,_,gp,S,dy _⟩
    ·simp[ak]at e
 ·intro p cs' e;simp only[an]at e;split at e
  ·simp at e;subst_vars;exact⟨1000000,J 999991 999992,gp,gp,by rw[P.rn];rfl⟩
  ·split at e
   ·simp at e;subst_vars;exact⟨999991,U.map AV.c,by simp[an,Ne.symm W],gp,Yt⟩
   ·split at e
    ·simp at e;subst_vars;exact⟨999992,T.map AV.c,by simp[an,Ne.symm V,Ne.symm M],gp,Yt⟩
    ·simp[ak]at e
 ·intro p ok e;simp only[an]at e;split at e
  ·simp at e;subst_vars;rfl
  ·split at e
   ·simp at e;subst_vars;rfl
   ·split at e
    ·simp at e;subst_vars;rfl
    ·simp[ak]at e
 ·intro k hk;have I:=mem_iff.1 hk;simp at I;rcases I with rfl|rfl|rfl
  ·exact⟨Q,gp⟩
  ·exact⟨Y,by simp[an,Ne.symm W]⟩
  ·exact⟨G,by simp[an,Ne.symm V,Ne.symm M]⟩
 ·intro p ok e;simp only[an]at e;split at e
  ·simp at e;subst_vars;exact .inl ⟨aav _,gp,gp⟩
  ·split at e
   ·simp at e;subst_vars;exact .inr ⟨cQ u,Nat.blt_eq.mp D⟩
   ·split at e
    ·simp at e;subst_vars;exact .inr ⟨cQ ZP,Nat.blt_eq.mp C⟩
    ·simp[ak]at e
 ·intro ok cs e;simp only[an]at e;split at e
  ·simp at e;subst_vars;exact P.ok _ _ _ Z Z
  ·split at e
   ·simp at e;subst_vars;exact tG _ _
   ·split at e
    ·simp at e;subst_vars;exact tG _ _
    ·simp[ak]at e
def Xm{bs:L (Nat×L AV)}{us:L Nat}{c J:Nat->Nat->L AV}(C:MC c)(P:MC J)(E:∀ρ ts b V,ρ.bx b=some V->eY ρ ts (c 0 b) (c 0 V))(W:∀us b,mem b us=true->vq us (J 0 b)=true)(S:∀a b,J a b=J 0 b){f T:L CV}{Q q Y:Nat}(K:uT us Q q Y=true)
  (h1:ak Q bs=some (c 0 q))(O:ak q bs=some (f.map AV.c)) :
  Xi bs us (ZN c f) (Yz J T) [(1000000,Q),(1000002,q)] [(Q,1000000),(Y,999992)] (NT Q (Y+1) Y) [(Q,J 0 Y),(Y,T.map AV.c)]:=by
 unfold uT at K;obtain⟨N,K⟩:=dR K;obtain⟨B,K⟩:=dR K;obtain⟨M,A⟩:=dR K;have H:mem Y us=false:=by split at M<;>simp_all
 have U:Q≠Y:=by
  simp only[distinct]at B;split at B
  ·simp at B
  ·rename_i h;have:=cQ h;simp at this;exact this
 refine⟨N,?_,?_,?_,?_,?_,?_,?_⟩
 ·intro k u e;simp only[an]at e;split at e
  ·simp_all
  ·split at e
   ·simp_all
   ·simp[ak]at e
 ·intro ts k cs e;simp only[an]at e;split at e
  ·simp at e;subst_vars;exact⟨Q,_,gp,h1,E _ _ _ _ gp⟩
  ·split at e
   ·simp at e;subst_vars;exact⟨q,_,gp,O,dy _⟩
   ·simp[ak]at e
 ·intro p G e;simp only[an]at e;split at e
  ·simp at e;subst_vars;exact⟨1000000,J 0 999992,gp,gp,by rw[P.rn,S];rfl⟩
  ·split at e
   ·simp at e;subst_vars;exact⟨999992,T.map AV.c,by simp[an,Ne.symm U],gp,Yt⟩
   ·simp[ak]at e
 ·intro p ok e;simp only[an]at e;split at e
  ·simp at e;subst_vars;rfl
  ·split at e
   ·simp at e;subst_vars;rfl
   ·simp[ak]at e
 ·intro k D;have I:=mem_iff.1 D;simp at I;rcases I with rfl|rfl
  ·exact⟨Q,gp⟩
  ·exact⟨Y,by simp[an,Ne.symm U]⟩
 ·intro p ok e;simp only[an]at e;split at e
  ·simp at e;subst_vars;exact .inl ⟨aav _,gp,gp⟩
  ·split at e
   ·simp at e;subst_vars;exact .inr ⟨cQ H,Nat.blt_eq.mp A⟩
   ·simp[ak]at e
 ·intro ok cs e;simp only[an]at e;split at e
  ·simp at e;subst_vars;exact W _ _ Z
  ·split at e
   ·simp at e;subst_vars;exact tG _ _
   ·simp[ak]at e
section
variable {P : Program}{X : Ctx}{ops : Array Oper}{o : Oper}{rest : L Oper}{env : Env}{acc : L Fp}{Q : Env -> St -> L Fp -> Prop}{bs : L (Nat × L AV)}{ts : L (Nat × Nat)}{us : L Nat}
def ki{bs bs':L (Nat×L AV)}{ks:L Nat}(h:∀k∈ks,ak k bs'=ak k bs){k:Nat}(D:k∈ks){v:L AV}(e:ak k bs=some v):ak k bs'=some v:=by rw[h k D];exact e
def NU{us us':L Nat}{Q E q Y G:Nat}(h:∀k∈[Q,Y,G],k∈us'↔k∈us)(e:tI us Q E q Y G=true):tI us' Q E q Y G=true:=by
 have W:∀k∈[Q,Y,G],mem k us'=mem k us:=by
  intro k D;rw[aaO,mem_iff,mem_iff];exact h k D
 unfold tI at e ⊢;rw[W Y ek,W G ek];exact e
def ah.Xn(kn:L Nat)(p:cS ops.toList kn env o=some true){f:FuncId}{args:Array Operand}{H:Array TypeId}(M:o.op = .call {callee := .value (.func f),args:=args,argTypes:=H})
  {c J:Nat->Nat->L AV}{s N U W:L CV}{G:L AV}{r:AV}(hq:dM P X f (mI c s N) G r (mO J U W))(K:MC c)(I:MC J){d:Nat}(C:o.dst=some d)
  {l:L AV}(B:gk (aJ X env) args.toList=some l){Y:Nat}{u:L AV}(hl':l = .ptr Y 0::u){E q:Nat}{D T V:L AV}(h1:ak Y bs=some D)(e1:D=c E q)(h2:ak E bs=some T)(e2:T=s.map AV.c)(h3:ak q bs=some V)(e3:V=N.map AV.c)
  (pG:∀ts,eY ⟨λk=>ak k [(1000000,Y),(1000001,E),(1000002,q)],λ_=>none⟩ ts G l)(jD:tI us Y E q (100000+d) (200000+d)=true)(hr:KB [1000000,999991,999992] r=true){O:AV}(S:r.rn (NT Y (100000+d) (200000+d))=O)
  {bs':L (Nat×L AV)}(jC:kV [Y,E,q] bs=bs')
  (k:ah P X ops rest ((d,O)::env) ⟨(Y,J (100000+d) (200000+d))::(100000+d,U.map AV.c)::(200000+d,W.map AV.c)::bs',ts,Y::(100000+d)::(200000+d)::us⟩ (⟨[],[Y,E,q,Y,100000+d,200000+d,Y,100000+d,200000+d]⟩::acc) Q):ah P X ops (o::rest) env ⟨bs,ts,us⟩ acc Q:=by
 subst S jC e1 e2 e3;have hs:=bP.Eo (env:=env) (σ:=⟨bs,ts,us⟩) M B hq (bx:=[(1000000,Y),(1000001,E),(1000002,q)]) (po:=[(Y,1000000),(100000+d,999991),(200000+d,999992)]) (ψ:=NT Y (100000+d) (200000+d)) pG
  (λMd NQ A hu=>ZO K I (NU hu jD) (ki A ek h1) (ki A ek h2) (ki A ek h3)) hr
 exact ah.step (dg p) hs (uO _ _ _) (by rw[C];exact k)
def ah.Vm(kn:L Nat)(p:cS ops.toList kn env o=some true){f:FuncId}{args:Array Operand}{H:Array TypeId}(M:o.op = .call {callee := .value (.func f),args:=args,argTypes:=H})
  {c J:Nat->Nat->L AV}{N W:L CV}{G:L AV}{r:AV}(hq:dM P X f (ZN c N) G r (Yz J W))(I:MC c)(E:MC J)(C:∀ρ ts b U,ρ.bx b=some U->eY ρ ts (c 0 b) (c 0 U))(V:∀us b,mem b us=true->vq us (J 0 b)=true)(B:∀a b,J a b=J 0 b){d:Nat}(u:o.dst=some d)
  {l:L AV}(hl:gk (aJ X env) args.toList=some l){Y:Nat}{tl:L AV}(hl':l = .ptr Y 0::tl){q:Nat}{D T:L AV}(h1:ak Y bs=some D)(e1:D=c 0 q)(h3:ak q bs=some T)(e3:T=N.map AV.c)
  (pG:∀ts,eY ⟨λk=>ak k [(1000000,Y),(1000002,q)],λ_=>none⟩ ts G l)(K:uT us Y q (200000+d)=true)(hr:KB [1000000,999992] r=true){O:AV}(S:r.rn (NT Y (200000+d+1) (200000+d))=O)
  {bs':L (Nat×L AV)}(jC:kV [Y,q] bs=bs')
  (k:ah P X ops rest ((d,O)::env) ⟨(Y,J 0 (200000+d))::(200000+d,W.map AV.c)::bs',ts,Y::(200000+d)::us⟩ (⟨[],[Y,q,Y,200000+d,Y,200000+d]⟩::acc) Q):ah P X ops (o::rest) env ⟨bs,ts,us⟩ acc Q:=by
 subst S jC e1 e3;have hs:=bP.Eo (env:=env) (σ:=⟨bs,ts,us⟩) M hl hq (bx:=[(1000000,Y),(1000002,q)]) (po:=[(Y,1000000),(200000+d,999992)]) (ψ:=NT Y (200000+d+1) (200000+d)) pG
  (λMd NQ A hu=>Xm I E C V B (by
   have hm:mem (200000+d) NQ=mem (200000+d) us:=by
    rw[aaO,mem_iff,mem_iff];exact hu _ ek
   unfold uT at K ⊢
   rw[hm];exact K) (ki A ek h1) (ki A ek h3)) hr
 exact ah.step (dg p) hs (uO _ _ _) (by rw[u];exact k)
end
end Go.cM
namespace Go.cM
def cg.head{w:World}{g:Gh}{b:Nat}:∀{cells tail:L AV}{o:Nat},cg w g b o (cells++tail)->cg w g b o cells
 |[],_,_,_=>trivial
 |_::_,_,_,⟨h1,h2,K⟩=>⟨h1,h2,cg.head K⟩
def Mg{w:World}{g:Gh}{σ:St}(h:Inv w g σ){M:Nat}{cells cells':L AV}(D:ak M σ.boxes=some cells)(A:∀b,g.box M=some b->cg w g b 0 cells->cg w g b 0 cells') :
  Inv w g ⟨sK M cells' σ.boxes,σ.toks,σ.used⟩/\gy w g σ w g ⟨sK M cells' σ.boxes,σ.toks,σ.used⟩:=by
 have N:∀k cs,ak k (sK M cells' σ.boxes)=some cs->(k=M/\cs=cells')\/ak k σ.boxes=some cs:=by
  intro k cs e;rw[ej]at e;split at e
  ·simp_all
  ·exact .inr e
 have I:∀k cs,ak k (sK M cells' σ.boxes)=some cs->∃p,ak k σ.boxes=some p:=by grind
 refine⟨⟨h.nF,?_,?_,?_,h.ga,h.used,?_⟩,⟨Z,Z,Z,aav _,λ_ _ _=>rfl,λ_ _ _ _=>⟨Z,Z⟩,iJ.le.refl _,λ_ _ _ h => .inl h,λk cs b h1 h2=>?_,
   λk n b H K h1 h2 => .inr ⟨k,n,H,K,h1,h2,aav _,aav _⟩,λk _ e=>?_⟩⟩
 ·intro k cs e;rcases N k cs e with ⟨rfl,rfl⟩|e'
  ·obtain⟨b,W,V,G,U⟩:=h.box k _ D;exact⟨b,W,V,G,A b W U⟩
  ·exact h.box k cs e'
 ·intro k k' cs P b e e';obtain⟨S,q⟩:=I k cs e;obtain⟨Y,T⟩:=I k' P e';exact h.fo k k' S Y b q T
 ·intro k n e;obtain⟨B,h1,h2⟩:=h.tok k n e;refine⟨B,h1,λb H K E=>?_⟩;obtain⟨Q,O,J⟩:=h2 b H K E;refine⟨Q,O,λk' cs e'=>?_⟩;obtain⟨S,q⟩:=I k' cs e';exact J k' S q
 ·intro k cs b e;obtain⟨S,q⟩:=I k cs e;exact h.room k S b q
 ·grind
 ·cases A:ak k (sK M cells' σ.boxes)with
  |none=>exact absurd A e
  |some cs =>
   obtain⟨S,q⟩:=I k cs A;exact⟨by rw[q];simp,Z,Z⟩
section
variable {P : Program}{X : Ctx}{f : FuncId}{n : Nat}{β : je}{R : Ending -> World -> Prop}{K : L Item}{env : Env}
def AK.tJ{bs:L (Nat×L AV)}{ts:L (Nat×Nat)}{us:L Nat}(M:Nat){cells:L AV}(cells' tail:L AV)(D:ak M bs=some cells)(A:cells=cells'++tail){bs':L (Nat×L AV)}(W:vu M cells' bs=some bs')
  (h:AK P X f n β R K env ⟨bs',ts,us⟩):AK P X f n β R K env ⟨bs,ts,us⟩:=by
 rw[qC]at W;simp at W;subst W A;intro g w a cs Y;obtain⟨S,V⟩:=Mg Y.inv (cells':=cells') D (λb _ A=>A.head);exact h g w a cs ⟨S,Y.qe,Y.env,Y.frame.trans V,Y.size,Y.defers⟩
def Cc{w:World}{g:Gh}{b:Nat}{x y:AV}:∀{pre tail:L AV}{o:Nat},(∀u,aI g x u->aI g y u)->(x.one=true->y.one=true)->cg w g b o (pre++x::tail)->cg w g b o (pre++y::tail)
 |[],_,_,E,Y,⟨⟨u,h1,h2,K⟩,h4,h5⟩=>⟨⟨u,h1,E u h2,Y K⟩,h4,h5⟩
 |_::_,_,_,E,Y,⟨h1,h2,K⟩=>⟨h1,h2,Cc E Y K⟩
def AK.empty{bs:L (Nat×L AV)}{ts:L (Nat×Nat)}{us:L Nat}(M W s:Nat)(pre tail:L AV){cells U:L AV}{O:Nat}(D:ak M bs=some cells)(A:cells=pre ++ .own .exact O []::tail)(T:ak W bs=some U)
  {bs':L (Nat×L AV)}(V:vu M (pre ++ .fZ W 0 s 0::tail) bs=some bs')(h:AK P X f n β R K env ⟨bs',ts,us⟩):AK P X f n β R K env ⟨bs,ts,us⟩:=by
 rw[qC]at V;simp at V;subst V A;intro g w a cs Y;obtain⟨S,J,_⟩:=Y.inv.box W U T
 obtain⟨N,I⟩:=Mg Y.inv (cells':=pre ++ .fZ W 0 s 0::tail) D (λb _ A=>Cc (λu H=>by
  simp only[aI,oD]at H ⊢;obtain⟨base,G,E,C,Q,B,_,p⟩:=H;simp at Q;subst Q p
  exact⟨S,0,base,J,C,aav _,ek,.inl Z⟩) (λ_=>rfl) A)
 exact h g w a cs ⟨N,Y.qe,Y.env,Y.frame.trans I,Y.size,Y.defers⟩
end
section
variable {P : Program}{X : Ctx}
def bP.AQ(hX:ct P X){o:Oper}{env:Env}{σ:St}{t:TypeId}{x:Operand}{H Y:Option Operand}(W:o.op = .slice t x none H Y){i j:TI}{e:Nat}(q:X.ti t=some i)(G:i.kind = .slice e)(C:X.ti e=some j)
  {M off s n:Nat}(E:aJ X env x=some (.fZ M off s n))(hs:j.size=s){h:Nat}(p:bound (aJ X env) H=some (some h))(hm:bound (aJ X env) Y=some (some h))(h1:h<=n) :
  bP P X o env σ (.fZ M off s h) (λσ=>σ) ⟨[],[]⟩:=by
 refine bP.val λV w g O A gL U T=>?_;have vX:aJ X V x=some (.fZ M off s n):=by rw[A x (by rw[W];simp[Op.operands])];exact E
 have ZC:bound (aJ X V) H=some (some h):=by
  rw[jL H (λy J=>A y (by rw[W];subst J;simp[Op.operands]))];exact p
 have S:bound (aJ X V) Y=some (some h):=by
  rw[jL Y (λy J=>A y (by rw[W];subst J;simp[Op.operands]))];exact hm
 have u:=cn (a:=O) T U vX;simp only[aI]at u;obtain⟨b,D,Q,GP,e1,B,V7,S0⟩:=u;have b1:eJ ((none:Option Operand).map O.eval) none:=ni (g:=g) (ev:=O.eval) (ρ:=aJ X V) (λx v I=>cn T U I) Z;have b2:=ni (g:=g) (ev:=O.eval) (λx v I=>cn T U I) ZC;have b3:=ni (g:=g) (ev:=O.eval) (λx v I=>cn T U I) S;have hb:∀w,(Instr.sliceBounds true n D ((none:Option Operand).map O.eval) (H.map O.eval) (Y.map O.eval)).run P w = .ok (0,h,h) w :=
  λw=>oG true b3 b2 b1 (aaG h1 B) (aav _)
 refine⟨.slice (if h=0 then Q else Q.map (·.add (0*j.size))) (h-0) (h-0),?_,?_⟩
 ·obtain⟨dst,op,K,pos,N,guard⟩:=o;simp only at W;subst W;have:=fY (w:=w) hX q G C (base:=Q) hb;simp only[Option.map_none]at this;simp[execOp,e1,this]
 ·simp only[aI];refine⟨b,h-0,_,GP,Z,aav _,?_,?_⟩
  ·have:h*s<=D*s:=abk _ (aaG h1 B);simp only[acu];omega
  ·by_cases h0:h=0
   ·left;omega
   ·right;rw[if_neg h0];rcases S0 with h2|h2
    ·omega
    ·rw[h2,ace,Nat.zero_mul,Addr.add_lit,aaL]
end
section
variable {P : Program}{X : Ctx}{ops : Array Oper}{o : Oper}{rest : L Oper}{env : Env}{acc : L Fp}{Q : Env -> St -> L Fp -> Prop}{σ : St}
def ah.AQ(hX:ct P X)(kn:L Nat)(p:cS ops.toList kn env o=some true){t:TypeId}{x:Operand}{H V:Option Operand}(U:o.op = .slice t x none H V){d:Nat}(T:o.dst=some d){i j:TI}{e:Nat}(K:X.ti t=some i)(D:i.kind = .slice e)(C:X.ti e=some j)
  {M off s n:Nat}(S:aJ X env x=some (.fZ M off s n))(O:j.size=s){z:Int}{N u:IntKind}{y Y:Operand}(J:H=some y)(W:V=some Y)(B:aJ X env y=some (.c (.int N z)))(I:aJ X env Y=some (.c (.int u z)))(h:Nat)(q:z=h)(h1:h<=n)
  (k:ah P X ops rest ((d,.fZ M off s h)::env) σ (⟨[],[]⟩::acc) Q):ah P X ops (o::rest) env σ acc Q:=by
 subst J W q;have G:bound (aJ X env) (some y)=some (some h):=by simp only[bound,B,asNat]
 have A:bound (aJ X env) (some Y)=some (some h):=by simp only[bound,I,asNat]
 exact ah.step (dg p) (bP.AQ (σ:=σ) hX U K D C S O G A h1) (gA.id []) (by rw[T];exact k)
end
end Go.cM
namespace Go.cM
def dV.Xo{P:Program}{X:Ctx}{f:FuncId}{cells:L CV}{s J:Nat}{nJ:L CV}(he:Enters P f)(h0:0<J){rows:L CV}(S:(bD rows).all CV.one=true)
  (h:∀(w:World)(G:iJ)(b D:Nat)(vs us:L Value),b<w.heap.size->(∀o,G b o=none)->(∀b o v,G b o=some v->w.cell? ⟨b,o,none⟩=some v)->bI G cells vs ->
   (∀(j:Nat) u,vs[j]?=some u->w.cell? ⟨b,j,none⟩=some u)->cells.all CV.one=true->J<=D->(∀o,(o<D*s->∃u,w.cell? ⟨b,o,none⟩=some u)/\w.frozen? ⟨b,o,none⟩=false)->bI G nJ us ->
   ∃news,bI G (bD rows) news/\Calls P f (.slice (some ⟨b,0,none⟩) J D::us).toArray w λe w'=>∃Q Y,e = .returned (.slice (some ⟨Q,0,none⟩) rows.length Y)/\rows.length<=Y/\LZ w b w' Q news/\Q<w'.heap.size /\
    ∀o,(o<Y*s->∃u,w'.cell? ⟨Q,o,none⟩=some u)/\w'.frozen? ⟨Q,o,none⟩=false) :
  dV P X f (some cells) (.fZ 1000000 0 s J::nJ.map AV.c) (.fZ 999999 0 s rows.length) (some (bD rows)):=by
 refine⟨he,λg w vs W cu fJ=>?_⟩;simp only[bC]at fJ;obtain⟨u,us,rfl,hr,oE⟩:=fJ;simp only[aI]at hr;obtain⟨b,D,o,C,rfl,e2,e3,p⟩:=hr;have N:o=some ⟨b,0,none⟩:=by
  rcases p with p|p
  ·omega
  ·exact p
 subst N;have I:ak 1000000 (pq 1000000 (some cells)).boxes=some (cells.map AV.c):=by simp[pq,an]
 obtain⟨Q,c1,c2,c3,c4⟩:=W.box 1000000 _ I;rw[C]at c1;cases c1;obtain⟨vs,v1,v2,v3⟩:=nr (tail:=[]) (by simpa using c4);have O:=W.room 1000000 _ b I C;obtain⟨news,n1,H⟩:=h w g.G b D vs us c2 c3 W.nF v1 (λj u E=>by have:=v2 j u E;rwa[ZG]at this) v3 e2 (λo=>⟨λN=>(O o).1 bn,(O o).2⟩) (yZ oE);refine H.mono ?_;rintro e w' ⟨Q,Y,rfl,Qv,R,M,QC⟩;have Qw:∀A o v,g.G A o=some v->A≠b/\A<w.heap.size/\A≠Q:=by
  intro A o v V;have h1:A≠b:=by rintro rfl;rw[c3]at V;simp at V
  have h2:=Ca (W.nF A o v V);refine⟨h1,h2,?_⟩;rintro rfl;rcases R.Yx with h|h
  ·exact h1 h
  ·omega
 let g':Gh:=⟨g.G,λk=>if k=999999 then some Q else none,λ_=>none,λk=>if k=999999 then Y*s else 0⟩
 have L9:=(bI.get n1).1;have T:∀k cs,ak k (pq 999999 (some (bD rows))).boxes=some cs->k=999999/\cs=(bD rows).map AV.c:=by
  intro k cs e;obtain⟨h1,cl,h2,h3⟩:=uK e;cases h2;exact⟨h1,h3⟩
 refine⟨_,g',Z,?_,?_,?_⟩
 ·simp only[aI];exact⟨Q,Y,some ⟨Q,0,none⟩,XM,Z,Qv,XM,.inr Z⟩
 ·refine⟨λA o v V=>?_,?_,?_,λk n e=>by rw[nv]at e;simp[ak]at e,λk k' n n' b lo hi lo' hi' e=>by rw[nv]at e;simp[ak]at e,λk e=>?_,?_⟩
  ·obtain⟨h1,h2,_⟩:=Qw A o v V;rw[rS (R.rest A h2 h1)];exact W.nF A o v V
  ·intro k cs e;obtain⟨rfl,rfl⟩:=T k cs e;refine⟨Q,XM,M,λo=>?_,?_⟩
   ·cases V:g.G Q o with
    |none=>rfl
    |some v=>exact absurd Z (Qw Q o v V).2.2
   ·apply cg.jo;intro j c E;obtain⟨q1,q2⟩:=bC.get (nP (g:=g') n1);obtain⟨u,hu,Sh⟩:=q2 j c E;have HK:c.one=true:=by
     have:=(qN (bD rows)).trans S;rw[abc]at this;exact this c (aaA E)
    refine⟨⟨u,by rw[ZG];exact R.cells j u hu,Sh,HK⟩,by rw[ZG];exact(QC j).2⟩
  ·intro k k' cs q b e e' _ _;rw[(T k cs e).1,(T k' q e').1]
  ·simp only[g',ne_eq,acH,acw]at e;by_cases hk:k=999999
   ·subst hk;simp[pq]
   ·simp[hk]at e
  ·intro k cs B e K o;obtain⟨rfl,_⟩:=T k cs e;simp only[g',if_true,aaJ]at K ⊢;subst K;exact QC o
 ·have U:∀B,(∀o,¬gX g (pq 1000000 (some cells)) B o)\/(∃o,¬gX g (pq 1000000 (some cells)) B o)->B≠b:=by
   rintro B h rfl;have N:∀o,gX g (pq 1000000 (some cells)) B o:=λo => .inl ⟨1000000,_,I,C⟩;rcases h with h|⟨o,h⟩
   ·exact h 0 (N 0)
   ·exact h (N o)
  refine⟨R.os,R.tape,R.output,R.size,λB h1 h2=>R.rest B h1 (U B (.inl h2)),λB o h1 h2=>?_,iJ.le.refl _,λ_ _ _ h => .inl h,λk cs B e K=>?_,λk n b lo hi e=>by rw[nv]at e;simp[ak]at e,λk hk e=>?_⟩
  ·have:=R.rest B h1 (U B (.inr ⟨o,h2⟩));exact⟨rS this o,xB this o⟩
  ·obtain⟨rfl,_⟩:=T k cs e;simp only[g',if_true,aaJ]at K;subst K;rcases R.Yx with h|h
   ·subst h;exact .inr ⟨1000000,_,I,C⟩
   ·exact .inl h
  ·cases H:ak k (pq 999999 (some (bD rows))).boxes with
   |none=>exact absurd H e
   |some cs=>have:=(T k cs H).1;omega
def Ie(d M:Nat)(cells:L AV):gA (λσ=>(σ.eA M).dS d cells) ⟨[],[d,M]⟩ where
 out:=λσ k D=>by
  simp at D;refine⟨?_,Z,?_⟩
  ·simp only[St.eA,St.dS,jl,an];rw[if_neg D.1,if_neg D.2]
  ·simp only[St.eA,St.dS,ZI];exact⟨λh=>h.resolve_left D.1,.inr⟩
 same:=λσ N h k D=>by
  obtain⟨h1,h2,K⟩:=h k (.inr D);refine⟨?_,h2,?_⟩
  ·simp only[St.eA,St.dS,jl,an];split
   ·rfl
   ·split
    ·rfl
    ·exact h1
  ·simp only[St.eA,St.dS,ZI,K]
section
variable {P : Program}{X : Ctx}
def bP.qh{o:Oper}{env:Env}{σ:St}{f:FuncId}{args:Array Operand}{H:Array TypeId}(V:o.op = .call {callee := .value (.func f),args:=args,argTypes:=H})
  {d:Nat}(iL:d<1000000)(hu:mem d σ.used=false){x:Operand}{rest:L Operand}(q:args.toList=x::rest){M O U:Nat}(I:aJ X env x=some (.fZ M 0 O U)){T:L CV}(ha:gE (aJ X env) rest=some T)
  {cells:L CV}(A:ak M σ.boxes=some (cells.map AV.c)){s n:Nat}{cells':L CV}(hq:dV P X f (some cells) (.fZ 1000000 0 O U::T.map AV.c) (.fZ 999999 0 s n) (some cells')) :
  bP P X o env σ (.fZ d 0 s n) (λσ=>(σ.eA M).dS d (cells'.map AV.c)) ⟨[],[d,M]⟩:=by
 intro cT N w g a next Q h1 h2 Y S de W;have oS:∀y∈args.toList,y∈o.op.operands.toList:=by
  intro y J;rw[V];simp only[Op.operands,Call.operands,aaD,Y8];exact .inr J
 have vX:gE (aJ X cT) rest=some T:=by
  rw[iX _ (λy J=>h1 y (oS y (by rw[q];exact aaM _ J)))];exact ha
 have K:aJ X cT x=some (.fZ M 0 O U):=by rw[h1 x (oS x (by simp[q]))];exact I
 have fJ:=mE (g:=g) (ev:=a.eval) (λx v I=>cn de S I) vX;have Xg:=cn (a:=a) de S K;have H6:ak M N.boxes=some (cells.map AV.c):=by rw[(h2 M (.inr ek)).1];exact A
 have B:(execOp a.eval o).run P w = .ok (.enter f (args.map a.eval)) w:=by
  obtain⟨dst,op,type,pos,E,guard⟩:=o;simp only at V;subst V;simp[execOp,resolve,Deferred.ofValue,invoke,Act.eval,hq.1 _ w]
 unfold Oper.wp;rw[B,Oper.upon_enter];have p:=Ky Y (some M) (some cells) (λ_ h=>by cases h;exact⟨M,rfl,H6⟩) (λh=>by cases h);have Ve:∀G,(g.fL (qg (some M))).box G=if G=1000000 then g.box M else none:=by
  intro G;by_cases h:G=1000000<;>simp[Gh.fL,qg,h]
 have:=hq.2 (g.fL (qg (some M))) w (args.toList.map a.eval) p S (by
  rw[q];simp only[Zl,bC];refine⟨_,_,Z,?_,nP (g:=g.fL (qg (some M))) fJ⟩;simp only[aI]at Xg ⊢;obtain⟨b,D,oo,C,e2,e3,e4,e5⟩:=Xg
  exact⟨b,D,oo,by rw[Ve];simpa using C,e2,e3,by simpa[Gh.fL,qg]using e4,e5⟩)
 rw[show(args.toList.map a.eval).toArray=args.map a.eval from by rw[<- aaP]]at this;refine this.mono ?_;rintro e w' ⟨u,g',rfl,h3,h4,h5⟩
 obtain⟨k1,k2,k3,k4⟩:=Qs (g0:=g.fL (qg (some M))) (Kz:=pq 1000000 (some cells)) Y rfl (nv _ _) (some M) (λk cs b e C=>by
  obtain⟨rfl,_⟩:=uK e;rw[Ve]at C
  exact⟨M,_,Z,H6,by simpa using C⟩) h4 h5 (N.eA M) (.inr ⟨M,Z,Z⟩)
 obtain⟨b,c1,c2,c3,c4,c5,c6,c7,c8⟩:=k4 cells' rfl;have Qr:d ∉ (N.eA M).used:=λh=>cQ hu ((h2 d (.inr ek)).2.2.1 h);obtain⟨p1,p2,p3⟩:=Qu k1 k2 Qr iL c2 c3 c4 c5 c6 c7 c8;refine W u w' _ ?_ p1 p2 (k3.trans p3);simp only[aI]at h3 ⊢;obtain⟨b',D,oo,C,e2,e3,e4,e5⟩:=h3;rw[c1]at C;cases C;exact⟨b,D,oo,ek,e2,e3,by simpa using e4,e5⟩
end
section
variable {P : Program}{X : Ctx}{ops : Array Oper}{o : Oper}{rest : L Oper}{env : Env}{acc : L Fp}{Q : Env -> St -> L Fp -> Prop}{bs : L (Nat × L AV)}{ts : L (Nat × Nat)}{us : L Nat}{σ : St}
def ah.qh(kn:L Nat)(p:cS ops.toList kn env o=some true){f:FuncId}{args:Array Operand}{H:Array TypeId}(T:o.op = .call {callee := .value (.func f),args:=args,argTypes:=H})
  {x:Operand}{Y:L Operand}(q:args.toList=x::Y){d:Nat}(S:o.dst=some d)(G:Nat.blt d 1000000=true)(N:mem d us=false){M O W:Nat}(I:aJ X env x=some (.fZ M 0 O W)){V:L CV}(K:gE (aJ X env) Y=some V)
  {cells:L CV}(A:ak M bs=some (cells.map AV.c)){s n:Nat}{cells':L CV}{U:L AV}(hq:dV P X f (some cells) U (.fZ 999999 0 s n) (some cells'))(J:U = .fZ 1000000 0 O W::V.map AV.c){bs':L (Nat×L AV)}(E:Aw M bs=bs')
  (k:ah P X ops rest ((d,.fZ d 0 s n)::env) ⟨(d,cells'.map AV.c)::bs',ts,d::us⟩ (⟨[],[d,M]⟩::acc) Q):ah P X ops (o::rest) env ⟨bs,ts,us⟩ acc Q:=by
 subst J E;exact ah.step (dg p) (bP.qh (σ:=⟨bs,ts,us⟩) T (Nat.blt_eq.mp G) N q I K A hq) (Ie d M _) (by rw[S];exact k)
def ah.oV(kn:L Nat)(N:cS ops.toList kn env o=some true){f:FuncId}{args:Array Operand}{H:Array TypeId}(W:o.op = .call {callee := .value (.func f),args:=args,argTypes:=H})
  {x:Operand}(q:args.toList=[x]){d:Nat}(V:o.dst=some d){M O Y:Nat}(U:aJ X env x=some (.fZ M 0 O Y)){cells cells':L CV}{J:L AV}(A:ak M bs=some J)(C:J=cells.map AV.c)
  (hq:dM P X f [(1000000,cells.map AV.c)] [.fZ 1000000 0 O Y] (.c .undef) [(1000000,cells'.map AV.c)]){bs':L (Nat×L AV)}(T:kV [M] bs=bs')
  (k:ah P X ops rest ((d,.c .undef)::env) ⟨(M,cells'.map AV.c)::bs',ts,M::us⟩ (⟨[],[M,M,M]⟩::acc) Q):ah P X ops (o::rest) env ⟨bs,ts,us⟩ acc Q:=by
 subst T C;have B:gk (aJ X env) args.toList=some [.fZ M 0 O Y]:=by rw[q];simp only[gk,U]
 have S:=bP.Eo (env:=env) (σ:=⟨bs,ts,us⟩) W B hq (bx:=[(1000000,M)]) (po:=[(M,1000000)]) (ψ:=λ_=>M) (nb:=[(M,cells'.map AV.c)]) (λts=>⟨_,_,Z,⟨_,gp,Z⟩,Z⟩)
  (λMd NQ G u=>by
   have K:=ki G ek A;refine⟨Z,?_,?_,?_,?_,?_,?_,?_⟩
   ·intro k kk e;simp only[an]at e;split at e
    ·simp at e;subst_vars;exact⟨ek,_,K⟩
    ·simp[ak]at e
   ·intro ts k cs e;simp only[an]at e;split at e
    ·simp at e;subst_vars;exact⟨M,_,gp,K,dy _⟩
    ·simp[ak]at e
   ·intro p E e;simp only[an]at e;split at e
    ·simp at e;subst_vars;exact⟨1000000,cells'.map AV.c,gp,gp,Yt⟩
    ·simp[ak]at e
   ·intro p ok e;simp only[an]at e;split at e
    ·rename_i h;exact h.symm
    ·simp[ak]at e
   ·intro k D;have I:=mem_iff.1 D;simp at I;subst I;exact⟨M,gp⟩
   ·intro p ok e;simp only[an]at e;split at e
    ·simp at e;subst_vars;exact .inl ⟨aav _,gp,gp⟩
    ·simp[ak]at e
   ·intro ok cs e;simp only[an]at e;split at e
    ·simp at e;subst_vars;exact tG _ _
    ·simp[ak]at e) Z
 exact ah.step (dg N) S (uO _ _ _) Yi
end
end Go.cM
namespace Go.cM
section
variable {P : Program}{X : Ctx}
def bP.FH(hX:ct P X){o:Oper}{env:Env}{σ:St}{args:Array Operand}{H:Array TypeId}(V:o.op = .call {callee := .builtin .append,args:=args,argTypes:=H})
  {xs y:Operand}(Q:args.toList=[xs,y]){t U:Nat}(yO:H.toList=[t,U]){i j u:TI}{e:Nat}(hi:X.ti t=some i)(hk:i.kind = .slice e)(hj:X.ti e=some j)(G:X.ti U=some u)(K:ke u.kind=true)
  {s:Nat}(ha:aJ X env xs=some (.own .exact s [])){b:AV}(hb:aJ X env y=some b){s1:Nat}(N:lO b=some (s1,[])) :
  bP P X o env σ (.own .exact s []) (λσ=>σ) ⟨[],[]⟩:=by
 refine bP.val λJ w g O A gL I E=>?_;have D:∀x∈args.toList,x∈o.op.operands.toList:=by
  intro x hx;rw[V];simp only[Op.operands,Call.operands,aaD,Y8];exact .inr hx
 have vX:aJ X J xs=some (.own .exact s []):=by rw[A xs (D xs (by simp[Q]))];exact ha
 have T:aJ X J y=some b:=by rw[A y (D y (by simp[Q]))];exact hb
 have C:=cn (a:=O) E I vX;have rB:=cn (a:=O) E I T;simp only[aI,oD]at C;obtain⟨base,len,cap,ex,Y,B,fF,W⟩:=C;simp only[aad]at Y;subst Y W;obtain⟨⟨news,q,n2,n3,n4⟩,n5⟩:=oR (P:=P) (w:=w) (t:=j.size) gL N (by simp only[fH];split<;>rfl) rB;simp only[bD,bI]at q;subst q;obtain⟨dt,_,S,Dp⟩:=hX.run_underlying (w:=w) hi;rw[hk]at S;simp only[ey]at S;subst S;obtain⟨d1,Ay,Ek⟩:=xm hX G (by unfold ke at K;exact K) w;obtain⟨inf,R5,Kp,_⟩:=hX.ti e j hj;have v9:args = #[xs,y]:=by cases args;simp_all
 have BV:H = #[t,U]:=by cases H;simp_all
 have p:=j9 (ty:=o.type) (w':=w) Dp Ay Ek R5 (base:=base) (sLen:=0) (sCap:=0) n5 XQ (aav _) (by cases base<;>simp[storeCells]);refine⟨.slice base 0 0,?_,by simp only[aI,oD];exact⟨base,0,0,Z,Z,aav _,.inl Z,Z⟩⟩;obtain⟨dst,op,type,pos,M,guard⟩:=o;simp only at V p;subst V;subst v9 BV;simp[execOp,resolve,invoke,builtin,ex,p,Result.andThen]
end
section
variable {P : Program}{X : Ctx}{ops : Array Oper}{o : Oper}{rest : L Oper}{env : Env}{acc : L Fp}{Q : Env -> St -> L Fp -> Prop}{bs : L (Nat × L AV)}{ts : L (Nat × Nat)}{us : L Nat}{σ : St}
def ah.FH(hX:ct P X)(kn:L Nat)(p:cS ops.toList kn env o=some true){args:Array Operand}{H:Array TypeId}(W:o.op = .call {callee := .builtin .append,args:=args,argTypes:=H})
  {xs y:Operand}(q:args.toList=[xs,y]){t O:Nat}(V:H.toList=[t,O]){d:Nat}(U:o.dst=some d){i j S:TI}{e:Nat}(K:X.ti t=some i)(D:i.kind = .slice e)(T:X.ti e=some j)(Y:X.ti O=some S)(M:ke S.kind=true)
  {s:Nat}(J:aJ X env xs=some (.own .exact s [])){b:AV}(A:aJ X env y=some b){u:Nat}(N:lO b=some (u,[]))
  (k:ah P X ops rest ((d,.own .exact s [])::env) σ (⟨[],[]⟩::acc) Q):ah P X ops (o::rest) env σ acc Q :=
 ah.step (dg p) (bP.FH hX W q V K D T Y M J A N) (gA.id []) (by rw[U];exact k)
def ah.wo(kn:L Nat)(N:cS ops.toList kn env o=some true){f:FuncId}{args:Array Operand}{H:Array TypeId}(Y:o.op = .call {callee := .value (.func f),args:=args,argTypes:=H})
  {G:L AV}{r:AV}(hq:dM P X f [] G r []){d:Nat}(W:o.dst=some d){l:L AV}(B:gk (aJ X env) args.toList=some l)(T:∀ts,eY ⟨λ_=>none,λ_=>none⟩ ts G l)(E:KB [] r=true)
  {O:AV}(S:r.rn (λk=>k)=O)(k:ah P X ops rest ((d,O)::env) ⟨bs,ts,us⟩ (⟨[],[]⟩::acc) Q):ah P X ops (o::rest) env ⟨bs,ts,us⟩ acc Q:=by
 subst S;have V:=bP.Eo (env:=env) (σ:=⟨bs,ts,us⟩) Y B hq (bx:=[]) (po:=[]) (ψ:=λk=>k) (nb:=[]) T
  (λMd NQ A M=>⟨Z,λk K e=>by simp[ak]at e,λts k cs e=>by simp[ak]at e,λp U e=>by simp[ak]at e,λp ok e=>by simp[ak]at e,λk D=>by simp[mem]at D,λp ok e=>by simp[ak]at e,λok cs e=>by simp[ak]at e⟩) E
 exact ah.step (dg N) V (uO _ _ _) (by rw[W];exact k)
def ah.QD(kn:L Nat)(N:cS ops.toList kn env o=some true){f:FuncId}{args:Array Operand}{H:Array TypeId}(Y:o.op = .call {callee := .value (.func f),args:=args,argTypes:=H})
  {G:L AV}{s n:Nat}{cells:L CV}(hq:dM P X f [] G (.fZ 999999 0 s n) [(999999,cells.map AV.c)]){d:Nat}(W:o.dst=some d)(V:Nat.blt d 1000000=true)(B:mem d us=false){l:L AV}(U:gk (aJ X env) args.toList=some l)(T:∀ts,eY ⟨λ_=>none,λ_=>none⟩ ts G l)
  (k:ah P X ops rest ((d,.fZ d 0 s n)::env) ⟨(d,cells.map AV.c)::bs,ts,d::us⟩ (⟨[],[d,d]⟩::acc) Q):ah P X ops (o::rest) env ⟨bs,ts,us⟩ acc Q:=by
 have S:=bP.Eo (env:=env) (σ:=⟨bs,ts,us⟩) Y U hq (bx:=[]) (po:=[(d,999999)]) (ψ:=λ_=>d) (nb:=[(d,cells.map AV.c)]) T
  (λMd NQ A O=>⟨Z,λk K e=>by simp[ak]at e,λts k cs e=>by simp[ak]at e,λp M e=>by
    simp only[an]at e;split at e
    ·simp at e;subst_vars;exact⟨999999,cells.map AV.c,gp,gp,Yt⟩
    ·simp[ak]at e,λp ok e=>by
    simp only[an]at e;split at e
    ·rename_i h;exact h.symm
    ·simp[ak]at e,λk D=>by
    have I:=mem_iff.1 D;simp at I;subst I;exact⟨d,gp⟩,λp ok e=>by
    simp only[an]at e;split at e
    ·simp at e;subst_vars;refine .inr ⟨λh=>cQ B ((O _ ek).1 h),Nat.blt_eq.mp V⟩
    ·simp[ak]at e,λok cs e=>by
    simp only[an]at e;split at e
    ·simp at e;subst_vars;exact tG _ _
    ·simp[ak]at e⟩) Z
 exact ah.step (dg N) S (uO _ _ _) (by rw[W];exact k)
end
section
variable {P : Program}{X : Ctx}{f : FuncId}{n : Nat}{β : je}{R : Ending -> World -> Prop}{K : L Item}{env : Env}
def Em(a Y:AV):Prop:=Y=a\/∃O u,a = .own .exact O []/\Y = .own .exact u []
def Em.rel:∀(g:Gh)(a Y:AV)(v:Value),Em a Y->aI g a v->aI g Y v:=by
 rintro g a Y v (rfl|⟨O,u,rfl,rfl⟩) h
 ·exact h
 ·simp only[aI,oD]at h ⊢;obtain⟨base,K,D,C,Q,V,_,p⟩:=h;exact⟨base,K,D,C,Q,V,.inl Z,p⟩
def Em.one:∀(a Y:AV),Em a Y->a.one=true->Y.one=true:=by
 rintro a Y (rfl|⟨O,u,rfl,rfl⟩) h
 ·exact h
 ·rfl
end
end Go.cM
namespace Go.cM
def QE(Q E q:Nat)(k:Nat):Nat:=match Nat.beq k 1000000 with
 |true=>Q
 |false=>match Nat.beq k 1000001 with
  |true=>E
  |false=>match Nat.beq k 1000002 with
   |true=>q
   |false=>k
def Xp{bs:L (Nat×L AV)}{us:L Nat}{c J:Nat->Nat->L AV}(A:MC c)(P:MC J){s f U T:L CV}{Y E Q:Nat}(W:distinct [Y,E,Q]=true)
  (h1:ak Y bs=some (c E Q))(h2:ak E bs=some (s.map AV.c))(K:ak Q bs=some (f.map AV.c)) :
  Xi bs us (mI c s f) (mI J U T) [(1000000,Y),(1000001,E),(1000002,Q)] [(Y,1000000),(E,1000001),(Q,1000002)] (QE Y E Q) [(Y,J E Q),(E,U.map AV.c),(Q,T.map AV.c)]:=by
 obtain⟨V,S,M⟩:=y8 W;refine⟨W,?_,?_,?_,?_,?_,?_,?_⟩
 ·intro k G e;simp only[an]at e;split at e
  ·simp_all
  ·split at e
   ·simp_all
   ·split at e
    ·simp_all
    ·simp[ak]at e
 ·intro ts k cs e;simp only[an]at e;split at e
  ·simp at e;subst_vars;exact⟨Y,_,gp,h1,A.conv _ _ _ _ _ _ gp gp⟩
  ·split at e
   ·simp at e;subst_vars;exact⟨E,_,gp,h2,dy _⟩
   ·split at e
    ·simp at e;subst_vars;exact⟨Q,_,gp,K,dy _⟩
    ·simp[ak]at e
 ·intro p O e;simp only[an]at e;split at e
  ·simp at e;subst_vars;exact⟨1000000,J 1000001 1000002,gp,gp,by rw[P.rn];rfl⟩
  ·split at e
   ·simp at e;subst_vars;exact⟨1000001,U.map AV.c,by simp[an,Ne.symm V],gp,Yt⟩
   ·split at e
    ·simp at e;subst_vars;exact⟨1000002,T.map AV.c,by simp[an,Ne.symm S,Ne.symm M],gp,Yt⟩
    ·simp[ak]at e
 ·intro p ok e;simp only[an]at e;split at e
  ·simp at e;subst_vars;rfl
  ·split at e
   ·simp at e;subst_vars;rfl
   ·split at e
    ·simp at e;subst_vars;rfl
    ·simp[ak]at e
 ·intro k D;have I:=mem_iff.1 D;simp at I;rcases I with rfl|rfl|rfl
  ·exact⟨Y,gp⟩
  ·exact⟨E,by simp[an,Ne.symm V]⟩
  ·exact⟨Q,by simp[an,Ne.symm S,Ne.symm M]⟩
 ·intro p ok e;simp only[an]at e;split at e
  ·simp at e;subst_vars;exact .inl ⟨aav _,gp,gp⟩
  ·split at e
   ·simp at e;subst_vars;exact .inl ⟨cc,gp,gp⟩
   ·split at e
    ·simp at e;subst_vars;exact .inl ⟨cc,gp,gp⟩
    ·simp[ak]at e
 ·intro ok cs e;simp only[an]at e;split at e
  ·simp at e;subst_vars;exact P.ok _ _ _ Z Z
  ·split at e
   ·simp at e;subst_vars;exact tG _ _
   ·split at e
    ·simp at e;subst_vars;exact tG _ _
    ·simp[ak]at e
section
variable {P : Program}{X : Ctx}{ops : Array Oper}{o : Oper}{rest : L Oper}{env : Env}{acc : L Fp}{Q : Env -> St -> L Fp -> Prop}{bs : L (Nat × L AV)}{ts : L (Nat × Nat)}{us : L Nat}
def ah.Vn(kn:L Nat)(p:cS ops.toList kn env o=some true){f:FuncId}{args:Array Operand}{H:Array TypeId}(M:o.op = .call {callee := .value (.func f),args:=args,argTypes:=H})
  {c J:Nat->Nat->L AV}{s N U W:L CV}{G:L AV}{r:AV}(hq:dM P X f (mI c s N) G r (mI J U W))(K:MC c)(I:MC J){d:Nat}(C:o.dst=some d)
  {l:L AV}(B:gk (aJ X env) args.toList=some l){Y:Nat}{u:L AV}(hl':l = .ptr Y 0::u){E q:Nat}{D T V:L AV}(h1:ak Y bs=some D)(e1:D=c E q)(h2:ak E bs=some T)(e2:T=s.map AV.c)(h3:ak q bs=some V)(e3:V=N.map AV.c)
  (pG:∀ts,eY ⟨λk=>ak k [(1000000,Y),(1000001,E),(1000002,q)],λ_=>none⟩ ts G l)(jD:distinct [Y,E,q]=true)(hr:KB [1000000,1000001,1000002] r=true){O:AV}(S:r.rn (QE Y E q)=O)
  {bs':L (Nat×L AV)}(jC:kV [Y,E,q] bs=bs')
  (k:ah P X ops rest ((d,O)::env) ⟨(Y,J E q)::(E,U.map AV.c)::(q,W.map AV.c)::bs',ts,Y::E::q::us⟩ (⟨[],[Y,E,q,Y,E,q,Y,E,q]⟩::acc) Q):ah P X ops (o::rest) env ⟨bs,ts,us⟩ acc Q:=by
 subst S jC e1 e2 e3;have hs:=bP.Eo (env:=env) (σ:=⟨bs,ts,us⟩) M B hq (bx:=[(1000000,Y),(1000001,E),(1000002,q)]) (po:=[(Y,1000000),(E,1000001),(q,1000002)]) (ψ:=QE Y E q) pG
  (λMd NQ A hu=>Xp K I jD (ki A ek h1) (ki A ek h2) (ki A ek h3)) hr
 exact ah.step (dg p) hs (uO _ _ _) (by rw[C];exact k)
end
def ce{p:Prop}(h:p:=by repeat' (first|exact trivial|exact Z|exact .inl Z|exact .inr Z|exact⟨_,Z,Z⟩|exact⟨_,Z,.inl ⟨Z,_,Z,.inl Z⟩⟩|exact⟨_,Z,.inl ⟨Z,_,Z,.inr Z⟩⟩|exact⟨_,Z,.inr ⟨_,_,Z,Z,Z⟩⟩|exact .inr ⟨_,_,Z,Z⟩|refine⟨_,_,Z,?_,?_⟩|refine⟨⟨_,Z,?_⟩,?_⟩|refine⟨⟨_,_,Z,Z,?_⟩,?_⟩|refine⟨?_,?_⟩|refine⟨_,_,Z,Z,?_⟩)):p:=h
end Go.cM
