/- A layer of abstract values over the model, part D: -/
import Derived.Test.YteanleefnjknoaaGreatDoorLibC
import Derived.ArgAppend
import Derived.Lib.AppendZerosOnto
import Derived.Deep.AppendSrc
import Derived.Laws.IdiomCopy
import Derived.Lib.SliceRun
import Derived.Laws.Externs
set_option linter.defProp false
set_option linter.unusedSimpArgs false
set_option linter.unusedVariables false
namespace Go.cK
def Rz(T:AV->AV->Prop):L AV->L AV->Prop
 |[],[]=>True
 |a::l,b::m=>T a b/\Rz T l m
 |_,_=>False
def PtE(T:AV->AV->Prop)(env:Env):Env->Prop
 |[]=>True
 |(t,A)::l=>(∃a,an t env=some a/\T a A)/\PtE T env l
def PtB(T:AV->AV->Prop)(bs:L (Nat×L AV)):L (Nat×L AV)->Prop
 |[]=>True
 |(k,cells')::l=>(∃cells,an k bs=some cells/\Rz T cells cells')/\PtB T bs l
def UE(p s:Nat)(rows:L CV)(a A:AV):Prop:=A=a\/∃n,a = .gS p 0 s n/\n=rows.length/\A = .c (.sl s rows)
def Nil(a A:AV):Prop:=A=a\/∃Y P,(a = .c (.sl Y [])\/a = .own .exact Y [])/\A = .c (.sl P [])
def Ke{T:AV->AV->Prop}{env:Env}:∀{env':Env},PtE T env env'->∀t A,an t env'=some A->∃a,an t env=some a/\T a A
 |[],_,t,A,e=>by simp[an]at e
 |(Y,N)::l,⟨h1,h2⟩,t,A,e=>by
  simp only[ai]at e;split at e
  ·simp_all
  ·exact Ke h2 t A e
def kJ{T:AV->AV->Prop}{bs:L (Nat×L AV)}:∀{bs':L (Nat×L AV)},PtB T bs bs'->∀k H,an k bs'=some H->∃cs,an k bs=some cs/\Rz T cs H
 |[],_,t,a',e=>by simp[an]at e
 |(Y,N)::l,⟨h1,h2⟩,t,a',e=>by
  simp only[ai]at e;split at e
  ·simp_all
  ·exact kJ h2 t a' e
def RO{Y:Nat}:∀{bs:L (Nat×L AV)},(bs.all λp => !Nat.beq p.1 Y)=true->∀k cs,an k bs=some cs->k≠Y
 |[],_,k,cs,e=>by simp[an]at e
 |(W,N)::l,h,k,cs,e=>by
  simp only[aeL,aai]at h;simp only[ai]at e;split at e
  ·rename_i I;subst I;exact beq_false (by simpa using h.1)
  ·exact RO h.2 k cs e
section
variable {P : Program}{X : Ctx}{f : FuncId}{n : Nat}{β : jZ}{R : Ending -> World -> Prop}{K : L Item}{env : Env}
def AK.AI{bs:L (Nat×L AV)}{ts:L (Nat×Nat)}{us:L Nat}(Y s:Nat)(rows:L CV){cells tail:L AV}{env':Env}{bs':L (Nat×L AV)}{ts':L (Nat×Nat)}
  (A:an Y bs=some cells)(hc:cells=ak rows++tail)(hs:∀r∈rows,r.cells.length=s)
  (he:PtE (UE Y s rows) env env')(Q:PtB (UE Y s rows) bs bs')(hk':(bs'.all λp => !Nat.beq p.1 Y)=true)(ht:MY ts ts')
  (h:AK P X f n β R K env' ⟨bs',ts',us⟩):AK P X f n β R K env ⟨bs,ts,us⟩:=by
 intro g w a cs W;obtain⟨b,GQ,SS,hb3,J⟩:=W.inv.box Y cells A;let N:j8:=λO o=>if O=b/\o<(bC rows).length then w.cell? ⟨b,o,none⟩else g.G O o
 let g':Gh:=⟨N,g.box,g.tok,g.room⟩
 have PR:g.G.le N:=by
  intro O o v M;by_cases Bs:O=b
  ·simp_all
  ·grind
 have hle:g.le g':=⟨PR,λ_ _ x=>x,λ_ _ _=>rfl,λk hw gK x=>⟨hw,gK,x,aaj _,λ_=>rfl⟩⟩
 have V:∀O o,O≠b->g.G O o=none->N O o=none:=by grind
 rw[hc]at J;obtain⟨vs,v1,v2,v3⟩:=pF J;have hvl:=(bR.get v1).1;have jz:dy N b 0 (bC rows):=by
  refine nO (bR.mono PR _ _ v1) (λj u hj=>?_) v3;have hlt:j<vs.length:=(List.getElem?_eq_some_iff.1 hj).1;show(if b=b/\0+j<(bC rows).length then w.cell? ⟨b,0+j,none⟩else g.G b (0+j))=some u;rw[if_pos ⟨Z,bn⟩];exact v2 j u hj
 have gw:fL N s b 0 rows:=qu.2 ⟨jz,hs⟩;have hF:∀a a' v,UE Y s rows a a'->aL g a v->aL g' a' v:=by
  rintro a a' v (rfl|⟨m,rfl,hm,rfl⟩) C
  ·exact aL.mono hle _ _ C
  ·simp only[aL]at C;obtain⟨O,cap,o,I,rfl,q,e3,e4⟩:=C;rw[GQ]at I;cases I;simp only[aL,Rel];refine⟨_,m,cap,Z,hm,q,?_⟩;rcases e4 with e4|rfl
   ·simp_all
   ·grind
 have hCW:∀(l T:L AV)(O o:Nat),Rz (UE Y s rows) l T->cB w g O o l->cB w g' O o T:=by
  intro l
  induction l with
  |nil=>intro T O o h1 _;cases T with
   |nil=>trivial
   |cons x m=>simp[Rz]at h1
  |cons x l ih=>intro T O o h1 h2;cases T with
   |nil=>simp[Rz]at h1
   |cons y m =>
    obtain⟨S,h4⟩:=h1;obtain⟨⟨u,f1,f2,f3⟩,f4,f5⟩:=h2;refine⟨⟨u,f1,hF _ _ _ S f2,?_⟩,f4,ih m O (o+1) h4 f5⟩;rcases S with rfl|⟨m,rfl,hm,rfl⟩
    ·exact f3
    ·rfl
 have wW:∀k cs O,k≠Y->an k bs=some cs->g.box k=some O->O≠b:=by
  rintro k cs O h1 h2 S rfl;exact h1 (W.inv.gk k Y cs cells _ h2 A S GQ)
 have hT:∀k m,an k ts'=some m->an k ts=some m:=λk m e=>qY ht k m e;have E:Inv w g' ⟨bs',ts',us⟩:=by
  refine⟨?_,?_,?_,?_,?_,W.inv.used,?_⟩
  ·intro O o v M;simp only[g',N]at M;split at M
   ·simp_all
   ·exact W.inv.pQ O o v M
  ·intro k H e;have h1:=RO hk' k H e;obtain⟨B,h2,S⟩:=kJ Q k H e;obtain⟨O,f1,f2,f3,f4⟩:=W.inv.box k B h2;exact⟨O,f1,f2,λo=>V O o (wW k B O h1 h2 f1) (f3 o),hCW _ _ _ _ S f4⟩
  ·intro k k' x x' O e e' I q;obtain⟨B,h2,_⟩:=kJ Q k x e;obtain⟨cs1,B8,_⟩:=kJ Q k' x' e';exact W.inv.gk k k' B cs1 O h2 B8 I q
  ·intro k m e;obtain⟨gK,I,q⟩:=W.inv.tok k m (hT k m e);refine⟨gK,I,λO lo hi C=>?_⟩;obtain⟨e3,e4,e5⟩:=q O lo hi C;have Bs:O≠b:=by rintro rfl;exact e5 Y cells A GQ
   refine⟨e3,λo h1 h2=>?_,λk' H e'=>?_⟩
   ·grind
   ·obtain⟨B,h2,_⟩:=kJ Q k' H e';exact e5 k' B h2
  ·intro k k' m m' O lo hi lo' hi' e e' I q;exact W.inv.iu k k' m m' O lo hi lo' hi' (hT k m e) (hT k' m' e') I q
  ·intro k H O e I o;obtain⟨B,h2,_⟩:=kJ Q k H e;exact W.inv.room k B O h2 I o
 have U:iK w g ⟨bs,ts,us⟩ w g' ⟨bs',ts',us⟩:=by
  refine⟨Z,Z,Z,aaj _,λ_ _ _=>rfl,λ_ _ _ _=>⟨Z,Z⟩,PR,?_,?_,?_,?_⟩
  ·intro O o v M;simp only[g',N]at M;split at M
   ·rename_i hh;obtain⟨rfl,_⟩:=hh;exact .inr (.inr (.inl ⟨Y,cells,A,GQ⟩))
   ·exact .inl M
  ·intro k H O e I;obtain⟨B,h2,_⟩:=kJ Q k H e;exact .inr ⟨k,B,h2,I⟩
  ·grind
  ·intro k _ e;cases D:an k bs' with
   |none=>exact absurd D e
   |some H =>
    obtain⟨B,h2,_⟩:=kJ Q k H D;exact⟨by show an k bs≠none;rw[h2];simp,Z,Z⟩
 refine h g' w a cs ⟨E,?_,?_,W.frame.trans U,W.size,W.defers⟩
 ·exact λm v hm=>Rel.mono PR _ _ (W.tO m v hm)
 ·intro t x e;obtain⟨a0,h1,h2⟩:=Ke he t x e;exact hF _ _ _ h2 (W.env t a0 h1)
def AK.weak{bs:L (Nat×L AV)}{ts:L (Nat×Nat)}{us:L Nat}(T:AV->AV->Prop)(hT:∀g a A v,T a A->aL g a v->aL g A v)(h1:∀a A,T a A->a.one=true->A.one=true)
  {env':Env}{bs':L (Nat×L AV)}{ts':L (Nat×Nat)}(he:PtE T env env')(Q:PtB T bs bs')(ht:MY ts ts')
  (h:AK P X f n β R K env' ⟨bs',ts',us⟩):AK P X f n β R K env ⟨bs,ts,us⟩:=by
 intro g w a cs Y;have J:∀(l U:L AV)(O o:Nat),Rz T l U->cB w g O o l->cB w g O o U:=by
  intro l
  induction l with
  |nil=>intro U O o h1 _;cases U with
   |nil=>trivial
   |cons x m=>simp[Rz]at h1
  |cons x l ih=>intro U O o yG h2;cases U with
   |nil=>simp[Rz]at yG
   |cons y m =>
    obtain⟨S,h4⟩:=yG;obtain⟨⟨u,G,E,D⟩,C,f5⟩:=h2;exact⟨⟨u,G,hT _ _ _ _ S E,h1 _ _ S D⟩,C,ih m O (o+1) h4 f5⟩
 have W:∀k m,an k ts'=some m->an k ts=some m:=λk m e=>qY ht k m e;have N:Inv w g ⟨bs',ts',us⟩:=by
  refine⟨Y.inv.pQ,?_,?_,?_,?_,Y.inv.used,?_⟩
  ·intro k H e;obtain⟨B,h2,S⟩:=kJ Q k H e;obtain⟨O,G,E,D,C⟩:=Y.inv.box k B h2;exact⟨O,G,E,D,J _ _ _ _ S C⟩
  ·intro k k' x x' O e e' I q;obtain⟨B,h2,_⟩:=kJ Q k x e;obtain⟨p,B8,_⟩:=kJ Q k' x' e';exact Y.inv.gk k k' B p O h2 B8 I q
  ·intro k m e;obtain⟨gK,I,q⟩:=Y.inv.tok k m (W k m e);refine⟨gK,I,λO lo hi hr=>?_⟩;obtain⟨e3,e4,e5⟩:=q O lo hi hr;refine⟨e3,e4,λk' H e'=>?_⟩;obtain⟨B,h2,_⟩:=kJ Q k' H e';exact e5 k' B h2
  ·intro k k' m m' O lo hi lo' hi' e e' I q;exact Y.inv.iu k k' m m' O lo hi lo' hi' (W k m e) (W k' m' e') I q
  ·intro k H O e I o;obtain⟨B,h2,_⟩:=kJ Q k H e;exact Y.inv.room k B O h2 I o
 have V:iK w g ⟨bs,ts,us⟩ w g ⟨bs',ts',us⟩:=by
  refine⟨Z,Z,Z,aaj _,λ_ _ _=>rfl,λ_ _ _ _=>⟨Z,Z⟩,j8.le.refl _,λ_ _ _ h => .inl h,?_,?_,?_⟩
  ·intro k H O e I;obtain⟨B,h2,_⟩:=kJ Q k H e;exact .inr ⟨k,B,h2,I⟩
  ·grind
  ·intro k _ e;cases M:an k bs' with
   |none=>exact absurd M e
   |some H =>
    obtain⟨B,h2,_⟩:=kJ Q k H M;exact⟨by show an k bs≠none;rw[h2];simp,Z,Z⟩
 refine h g w a cs ⟨N,Y.tO,?_,Y.frame.trans V,Y.size,Y.defers⟩;intro t x e;obtain⟨a0,h2,S⟩:=Ke he t x e;exact hT _ _ _ _ S (Y.env t a0 h2)
def C7{v:AV}:∀{o:Nat}{l:L AV},o<l.length->bV o [v] l=some (l.set o v)
 |_,[],h=>by simp at h
 |0,x::l,_=>by simp[bV]
 |o+1,x::l,h=>by
  have:=C7 (v:=v) (o:=o) (l:=l) oy;simp only[bV,this,agI]
end
end Go.cK
namespace Go.cK
def rL(k:Nat):Option (L CV)->St
 |none=>⟨[],[],[]⟩
 |some cells=>⟨[(k,cells.map AV.c)],[],[k]⟩
def yh{k u:Nat}{Y:Option (L CV)}{cs:L AV}(h:an u (rL k Y).boxes=some cs):u=k/\∃cells,Y=some cells/\cs=cells.map AV.c:=by
 cases Y with
 |none=>simp[rL,an]at h
 |some cells =>
  simp only[rL,ai]at h;split at h
  ·simp_all
  ·simp[an]at h
def pG(k:Nat)(Y:Option (L CV)):(rL k Y).toks=[]:=by cases Y<;>rfl
def GR(β:jZ)(r:AV)(M:Option (L CV)):Ending->World->Prop:=λe w' =>
 ∃u g',e = .returned u/\aL g' r u/\Inv w' g' (rL 999999 M)/\iK β.w β.g β.σ w' g' (rL 999999 M)
def dP(P:Program)(X:Ctx)(f:FuncId)(Y:Option (L CV))(J:L AV)(r:AV)(M:Option (L CV)):Prop :=
 Enters P f/\∀(g:Gh)(w:World)(vs:L Value),Inv w g (rL 1000000 Y)->pP X g.G->bJ g J vs ->
  Calls P f vs.toArray w (GR ⟨w,g,rL 1000000 Y⟩ r M)
def cN{ρ:Ren}{ts:L (Nat×Nat)}:∀(cs:L CV),eF ρ ts (cs.map AV.c) (cs.map AV.c)
 |[]=>by simp[eF]
 |c::cs=>by
  simp only[aed,eF];exact⟨_,_,Z,by simp[Conv],cN cs⟩
def sP(p:Option Nat):Ren:=⟨λk=>if k=1000000 then p else none,λ_=>none⟩
def PS{w:World}{g:Gh}{σ:St}(N:Inv w g σ)(p:Option Nat)(Y:Option (L CV))(h:∀cells,Y=some cells->∃u,p=some u/\an u σ.boxes=some (cells.map AV.c))(Q:Y=none->p=none) :
  Inv w (g.fV (sP p)) (rL 1000000 Y):=by
 refine(N.fV (sP p) _ ?_ ?_ ?_ ?_ ?_).1
 ·intro k cs e;obtain⟨rfl,cells,I,rfl⟩:=yh e;obtain⟨u,W,G⟩:=h cells I;exact⟨u,_,by simp[sP,W],G,cN _⟩
 ·intro k k' O e e';simp only[sP]at e e';split at e
  ·simp_all
  ·simp at e
 ·intro k n e;rw[pG]at e;simp[an]at e
 ·intro k k' m P O e;simp[sP]at e
 ·intro k e;simp only[sP,ne_eq,ahB,ahk]at e;by_cases D:k=1000000
  ·subst D;cases Y with
   |none=>simp[Q rfl]at e
   |some cells=>simp[rL]
  ·simp[D]at e
def Wy{w w':World}{g g0 g':Gh}{σ PT:St}(N:Inv w g σ)(h0G:g0.G=g.G)(h0t:PT.toks=[])(p:Option Nat)
  (h0:∀k cs b,an k PT.boxes=some cs->g0.box k=some b->∃J Y,p=some J/\an J σ.boxes=some Y/\g.box J=some b)
  {bo:Option (L CV)}(M:Inv w' g' (rL 999999 bo))(D:iK w g0 PT w' g' (rL 999999 bo))(W:St)
  (hd:(p=none/\W=σ)\/∃J,p=some J/\W=σ.fq J) :
  let g1:Gh:=⟨g'.G,g.box,g.tok,g.room⟩
  Inv w' g1 W/\iK w g σ w' g1 W/\g.le g1 /\
   ∀cells,bo=some cells->∃b,g'.box 999999=some b/\b<w'.heap.size/\(∀o,g'.G b o=none)/\cB w' g1 b 0 (cells.map AV.c) /\
    (∀k cs,an k W.boxes=some cs->g.box k≠some b)/\(∀k n b' V K,an k W.toks=some n->g.tok k=some (n,some (b',V,K))->b'≠b) /\
    (w.heap.size<=b\/∃k0 B,an k0 σ.boxes=some B/\g.box k0=some b)/\∀o,(o<g'.room 999999->∃u,w'.cell? ⟨b,o,none⟩=some u)/\w'.frozen? ⟨b,o,none⟩=false:=by
 intro g1;have own:∀b o,jt g0 PT b o->∃J Y,p=some J/\an J σ.boxes=some Y/\g.box J=some b:=by
  rintro b o (⟨k,cs,I,E⟩|⟨k,n,V,K,I,_⟩)
  ·exact h0 k cs b I E
  ·rw[h0t]at I;simp[an]at I
 have IK:∀b o,jt g0 PT b o->jt g σ b o:=by
  intro b o h;obtain⟨J,Y,_,I,E⟩:=own b o h;exact .inl ⟨J,Y,I,E⟩
 have T:∀k cs,an k W.boxes=some cs->an k σ.boxes=some cs/\p≠some k:=by
  intro k cs e;rcases hd with ⟨rfl,rfl⟩|⟨J,rfl,rfl⟩
  ·exact⟨e,cS⟩
  ·simp only[St.fq,kT]at e;split at e
   ·simp at e
   ·grind
 have A:W.toks=σ.toks:=by rcases hd with ⟨_,rfl⟩|⟨J,_,rfl⟩<;>rfl
 have adP:W.used=σ.used:=by rcases hd with ⟨_,rfl⟩|⟨J,_,rfl⟩<;>rfl
 have Wz:∀k cs b,an k W.boxes=some cs->g.box k=some b->∀o,¬jt g0 PT b o:=by
  intro k cs b e Q o C;obtain⟨J,Y,I,E,e3⟩:=own b o C;obtain⟨e4,e5⟩:=T k cs e;have:=N.gk k J cs Y b e4 E Q e3;subst this;exact e5 I
 have hle:g.le g1:=⟨λb o v h=>D.le b o v (by rw[h0G];exact h),λ_ _ h=>h,λ_ _ _=>rfl,λk hw gK h=>⟨hw,gK,h,aaj _,λ_=>rfl⟩⟩
 have U:∀b o,b<w.heap.size->¬jt g0 PT b o->g.G b o=none->g'.G b o=none:=by
  intro b o Q H h;cases hg:g'.G b o with
  |none=>rfl
  |some v =>
   rcases D.new b o v hg with h'|h'|h'
   ·simp_all
   ·omega
   ·exact absurd h' H
 have abC:∀k n b V K,an k σ.toks=some n->g.tok k=some (n,some (b,V,K))->∀o,¬jt g0 PT b o:=by
  intro k n b V K e I o C;obtain⟨gK,P,f2⟩:=N.tok k n e;rw[I]at P;simp at P;subst P;obtain⟨J,Y,_,E,e3⟩:=own b o C;exact(f2 b V K Z).2.2 J Y E e3
 refine⟨⟨M.pQ,?_,?_,?_,?_,?_,?_⟩,⟨D.os,D.tape,D.output,D.size,λb Q H=>D.block b Q (λo C=>H o (IK b o C)),λb o Q H=>D.kept b o Q (λC=>H (IK b o C)),?_,?_,?_,?_,?_⟩,hle,?_⟩
 ·intro k cs e;obtain⟨e0,_⟩:=T k cs e;obtain⟨b,S,q,b3,b4⟩:=N.box k cs e0;have H:=Wz k cs b e S;exact⟨b,S,afc q D.size,λo=>U b o q (H o) (b3 o),(cB.of_same (λo=>D.kept b o q (H o)) b4).mono hle⟩
 ·intro k k' cs Y b e e';exact N.gk k k' cs Y b (T k cs e).1 (T k' Y e').1
 ·intro k n e;rw[A]at e;obtain⟨gK,h1,h2⟩:=N.tok k n e;refine⟨gK,h1,λb V K hr=>?_⟩;obtain⟨O,h4,h5⟩:=h2 b V K hr;subst hr;refine⟨afc O D.size,λo MW PB=>?_,λk' cs e'=>h5 k' cs (T k' cs e').1⟩;obtain⟨h6,⟨u,h7⟩,h8⟩:=h4 o MW PB;have H:=abC k n b V K e h1 o;exact⟨U b o O H h6,⟨u,(D.kept b o O H).1.trans h7⟩,(D.kept b o O H).2.trans h8⟩
 ·rw[A];exact N.iu
 ·rw[adP];exact N.used
 ·intro k cs b e Q o;obtain⟨e0,_⟩:=T k cs e;obtain⟨b',S,q,_⟩:=N.box k cs e0;rw[Q]at S;cases S;have H:=Wz k cs b e Q o;obtain⟨q1,q2⟩:=N.room k cs b e0 Q o;exact⟨λC=>(q1 C).imp λu hu=>(D.kept b o q H).1.trans hu,(D.kept b o q H).2.trans q2⟩
 ·exact hle.1
 ·intro b o v h;rcases D.new b o v h with h'|h'|h'
  ·simp_all
  ·exact .inr (.inl h')
  ·simp_all
 ·grind
 ·grind
 ·intro k _ e;cases hc:an k W.boxes with
  |none=>exact absurd hc e
  |some cs=>exact⟨by rw[(T k cs hc).1];simp,Z,Z⟩
 ·rintro cells rfl;have hg:an 999999 (rL 999999 (some cells)).boxes=some (cells.map AV.c):=by simp[rL,ai]
  obtain⟨b,S,q,b3,b4⟩:=M.box 999999 _ hg;have hor:=D.boxes 999999 _ b hg S;refine⟨b,S,q,b3,?_,?_,?_,?_,M.room 999999 _ b hg S⟩
  ·have:∀(l:L CV)(o:Nat),cB w' g' b o (l.map AV.c)->cB w' g1 b o (l.map AV.c):=by
    intro l
    induction l with
    |nil=>intro o _;trivial
    |cons c l ih =>
     intro o h;obtain⟨⟨u,h1,h2,O⟩,h4,h5⟩:=h;exact⟨⟨u,h1,MO,O⟩,h4,ih _ h5⟩
   exact this _ _ b4
  ·intro k cs e Q;obtain⟨e0,I⟩:=T k cs e;obtain⟨b',P,f2,_⟩:=N.box k cs e0;rw[Q]at P;cases P;rcases hor with h|⟨k0,B,h1,h2⟩
   ·omega
   ·obtain⟨J,Y,O,h4,h5⟩:=h0 k0 B b h1 h2;have:=N.gk k J cs Y b e0 h4 Q h5;subst this;exact I O
  ·rintro k n b' V K e I rfl;rw[A]at e;obtain⟨gK,P,f2⟩:=N.tok k n e;rw[I]at P;simp at P;subst P;obtain⟨f3,_,f5⟩:=f2 _ V K rfl;rcases hor with h|⟨k0,B,h1,h2⟩
   ·omega
   ·grind
  ·grind
def WA{S w:World}{g0 g:Gh}{PT σ:St}(N:Inv w g σ)(D:iK S g0 PT w g σ){d:Nat}(hd:d ∉ σ.used)(jQ:d<1000000){b R:Nat}{cells:L AV}(hb:b<w.heap.size)(hG:∀o,g.G b o=none)(hc:cB w g b 0 cells)
  (BN:∀k cs,an k σ.boxes=some cs->g.box k≠some b)(DU:∀k n O T K,an k σ.toks=some n->g.tok k=some (n,some (O,T,K))->O≠b)
  (C:S.heap.size<=b\/∃A B,an A PT.boxes=some B/\g0.box A=some b)(p:∀o,(o<R->∃u,w.cell? ⟨b,o,none⟩=some u)/\w.frozen? ⟨b,o,none⟩=false) :
  let g':Gh:=⟨g.G,λk=>if k=d then some b else g.box k,g.tok,λk=>if k=d then R else g.room k⟩
  Inv w g' (σ.eM d cells)/\iK S g0 PT w g' (σ.eM d cells)/\g.le g':=by
 intro g';have Wn:g.box d=none:=by
  cases h:g.box d with
  |none=>rfl
  |some x=>exact absurd (N.used d (.inl p8)) hd
 have Y:g.le g':=by
  refine⟨j8.le.refl _,λk x h=>?_,λk x h=>?_,λk hw Q h=>⟨hw,Q,h,aaj _,λ_=>rfl⟩⟩
  ·grind
  ·grind
 have W:∀k cs,an k (σ.eM d cells).boxes=some cs->(k=d/\cs=cells)\/(k≠d/\an k σ.boxes=some cs):=by
  intro k cs e;simp only[St.eM,ai]at e;split at e
  ·simp_all
  ·simp_all
 refine⟨⟨N.pQ,?_,?_,?_,N.iu,?_,?_⟩,⟨D.os,D.tape,D.output,D.size,D.block,D.kept,D.le,D.new,?_,D.toks,?_⟩,Y⟩
 ·intro k cs e;rcases W k cs e with ⟨rfl,rfl⟩|⟨h1,h2⟩
  ·exact⟨b,ac0,hb,hG,hc.mono Y⟩
  ·obtain⟨O,P,J,E,f4⟩:=N.box k cs h2;exact⟨O,by simp[g',h1,P],J,E,f4.mono Y⟩
 ·intro k k' cs H O e e' I q;simp only[g']at I q;rcases W k cs e with ⟨rfl,rfl⟩|⟨h1,h2⟩
  ·grind
  ·rw[if_neg h1]at I;rcases W k' H e' with ⟨rfl,rfl⟩|⟨yG,B8⟩
   ·simp_all
   ·rw[if_neg yG]at q;exact N.gk k k' cs H O h2 B8 I q
 ·intro k n e;obtain⟨Q,I,q⟩:=N.tok k n e;refine⟨Q,I,λO T K M=>?_⟩;obtain⟨e3,e4,e5⟩:=q O T K M;subst M;have Bs:=DU k n O T K e I;refine⟨e3,e4,λk' cs e'=>?_⟩;simp only[g'];rcases W k' cs e' with ⟨rfl,rfl⟩|⟨h1,h2⟩
  ·grind
  ·simp_all
 ·intro k e;show k∈d::σ.used;by_cases V:k=d
  ·simp[V]
  ·simp only[aeB];right;apply N.used k;simpa[g',V]using e
 ·intro k cs O e I o;simp only[g']at I ⊢;rcases W k cs e with ⟨rfl,rfl⟩|⟨h1,h2⟩
  ·simp_all
  ·rw[if_neg h1]at I;rw[if_neg h1];exact N.room k cs O h2 I o
 ·intro k cs O e I;simp only[g']at I;rcases W k cs e with ⟨rfl,rfl⟩|⟨h1,h2⟩
  ·simp_all
  ·rw[if_neg h1]at I;exact D.boxes k cs O h2 I
 ·intro k yO e;cases U:an k (σ.eM d cells).boxes with
  |none=>exact absurd U e
  |some cs =>
   rcases W k cs U with ⟨rfl,rfl⟩|⟨h1,h2⟩
   ·omega
   ·obtain⟨P,J,E⟩:=D.ids k yO (by rw[h2];simp);exact⟨P,by simp[g',h1,J],by simp[g',h1,E]⟩
section
variable {P : Program}{X : Ctx}
def Nb(p:Nat):iA (λσ=>σ.fq p) ⟨[],[p]⟩ where
 out:=λσ k D=>by
  simp at D;refine⟨?_,Z,Iff.rfl⟩;simp only[St.fq,kT];rw[if_neg D]
 same:=λσ Y h k D=>by
  obtain⟨h1,h2,V⟩:=h k (.inr D);refine⟨?_,h2,V⟩;simp only[St.fq,kT];split
  ·rfl
  ·exact h1
def bU.mq{o:Oper}{env:Env}{σ:St}{f:FuncId}{args:Array Operand}{K:Array TypeId}(p:o.op = .call {callee := .value (.func f),args:=args,argTypes:=K})
  {d:Nat}(G:d<1000000)(E:mem d σ.used=false){q:L CV}(ha:gO (aK X env) args.toList=some q){s n:Nat}{cells:L CV}(hq:dP P X f none (q.map AV.c) (.gS 999999 0 s n) (some cells)) :
  bU P X o env σ (.gS d 0 s n) (λσ=>σ.eM d (cells.map AV.c)) ⟨[],[d]⟩:=by
 intro D Y w g a next Q h1 h2 N M C S;have B:gO (aK X D) args.toList=some q:=by
  rw[kH _ (λx O=>h1 x (by rw[p];simp only[Op.operands,Call.operands,aeP,adT];exact .inr O))];exact ha
 have A:=oF (g:=g) (ev:=a.eval) (λx v O=>cy C M O) B;have W:(execOp a.eval o).run P w = .ok (.enter f (args.map a.eval)) w:=by
  obtain⟨dst,op,J,pos,V,guard⟩:=o;simp only at p;subst p;simp[execOp,resolve,Deferred.ofValue,invoke,Act.eval,hq.1 _ w]
 unfold Oper.wp;rw[W,Oper.upon_enter];have U:=PS N none none (λ_ h=>by cases h) (λ_=>rfl);have:=hq.2 (g.fV (sP none)) w (args.toList.map a.eval) U M (qh (g:=g.fV (sP none)) A);rw[show(args.toList.map a.eval).toArray=args.map a.eval from by rw[<- aeY]]at this;refine this.mono ?_;rintro e w' ⟨u,g',rfl,I,h4,h5⟩;obtain⟨k1,k2,k3,k4⟩:=Wy (g0:=g.fV (sP none)) (PT:=rL 1000000 none) N rfl (pG _ _) none (λk cs b e=>by simp[rL,an]at e) h4 h5 Y (.inl ⟨rfl,rfl⟩);obtain⟨b,c1,c2,c3,c4,c5,c6,c7,c8⟩:=k4 cells rfl;have Wx:d ∉ Y.used:=λh=>cY E ((h2 d (.inr cS)).2.2.1 h);obtain⟨p1,p2,p3⟩:=WA k1 k2 Wx G c2 c3 c4 c5 c6 c7 c8;refine S u w' _ ?_ p1 p2 (k3.trans p3);simp only[aL]at I ⊢;obtain⟨b',T,oo,H,e2,e3,e4,e5⟩:=I;rw[c1]at H;cases H;exact⟨b,T,oo,cS,e2,e3,by simpa using e4,e5⟩
def bU.Jp{o:Oper}{env:Env}{σ:St}{f:FuncId}{args:Array Operand}{K:Array TypeId}(C:o.op = .call {callee := .value (.func f),args:=args,argTypes:=K})
  {x:Operand}{rest:L Operand}(H:args.toList=x::rest){p A n0:Nat}(O:aK X env x=some (.gS p 0 A n0)){q:L CV}(ha:gO (aK X env) rest=some q)
  {cells:L CV}(I:an p σ.boxes=some (cells.map AV.c)){v:CV}(hq:dP P X f (some cells) (.gS 1000000 0 A n0::q.map AV.c) (.c v) none) :
  bU P X o env σ (.c v) (λσ=>σ.fq p) ⟨[],[p]⟩:=by
 intro dz Y w g a next Q h1 h2 N T dH S;have ru:∀y∈args.toList,y∈o.op.operands.toList:=by
  intro y G;rw[C];simp only[Op.operands,Call.operands,aeP,adT];exact .inr G
 have yI:gO (aK X dz) rest=some q:=by
  rw[kH _ (λy G=>h1 y (ru y (by rw[H];exact aeM _ G)))];exact ha
 have E:aK X dz x=some (.gS p 0 A n0):=by rw[h1 x (ru x (by simp[H]))];exact O
 have gL:=oF (g:=g) (ev:=a.eval) (λx v O=>cy dH T O) yI;have W:=cy (a:=a) dH T E;have Nc:an p Y.boxes=some (cells.map AV.c):=by rw[(h2 p (.inr cS)).1];exact I
 have V:(execOp a.eval o).run P w = .ok (.enter f (args.map a.eval)) w:=by
  obtain⟨dst,op,type,pos,D,guard⟩:=o;simp only at C;subst C;simp[execOp,resolve,Deferred.ofValue,invoke,Act.eval,hq.1 _ w]
 unfold Oper.wp;rw[V,Oper.upon_enter];have B:=PS N (some p) (some cells) (λ_ h=>by cases h;exact⟨p,rfl,Nc⟩) (λh=>by cases h);have U:∀J,(g.fV (sP (some p))).box J=if J=1000000 then g.box p else none:=by
  intro J;by_cases h:J=1000000<;>simp[Gh.fV,sP,h]
 have:=hq.2 (g.fV (sP (some p))) w (args.toList.map a.eval) B T (by
  rw[H];simp only[aed,bJ];refine⟨_,_,Z,?_,qh (g:=g.fV (sP (some p))) gL⟩;simp only[aL]at W ⊢;obtain⟨b,cap,oo,M,e2,e3,e4,e5⟩:=W
  exact⟨b,cap,oo,by rw[U];simpa using M,e2,e3,by simpa[Gh.fV,sP]using e4,e5⟩)
 rw[show(args.toList.map a.eval).toArray=args.map a.eval from by rw[<- aeY]]at this;refine this.mono ?_;rintro e w' ⟨u,g',rfl,h3,h4,h5⟩
 obtain⟨k1,k2,k3,_⟩:=Wy (g0:=g.fV (sP (some p))) (PT:=rL 1000000 (some cells)) N rfl (pG _ _) (some p) (λk cs b e M=>by
  obtain⟨rfl,_⟩:=yh e;rw[U]at M
  exact⟨p,_,Z,Nc,by simpa using M⟩) h4 h5 (Y.fq p) (.inr ⟨p,Z,Z⟩)
 exact S u w' _ acU k1 k2 k3
end
section
variable {P : Program}{X : Ctx}{ops : Array Oper}{o : Oper}{rest : L Oper}{env : Env}{acc : L Fp}{Q : Env -> St -> L Fp -> Prop}{bs : L (Nat × L AV)}{ts : L (Nat × Nat)}{us : L Nat}{σ : St}
def af.mq(kn:L Nat)(G:dj ops.toList kn env o=some true){f:FuncId}{args:Array Operand}{K:Array TypeId}(p:o.op = .call {callee := .value (.func f),args:=args,argTypes:=K})
  {d:Nat}(O:o.dst=some d)(u:Nat.blt d 1000000=true)(U:mem d us=false){q:L CV}(ha:gO (aK X env) args.toList=some q){s n:Nat}{cells:L CV}{Y:L AV}(hq:dP P X f none Y (.gS 999999 0 s n) (some cells))(W:Y=q.map AV.c)
  (k:af P X ops rest ((d,.gS d 0 s n)::env) ⟨(d,cells.map AV.c)::bs,ts,d::us⟩ (⟨[],[d]⟩::acc) Q):af P X ops (o::rest) env ⟨bs,ts,us⟩ acc Q:=by
 subst W;exact af.step (dB G) (bU.mq (σ:=⟨bs,ts,us⟩) p (Nat.blt_eq.mp u) U ha hq) (qU d _) ri
def af.Jp(kn:L Nat)(G:dj ops.toList kn env o=some true){f:FuncId}{args:Array Operand}{K:Array TypeId}(C:o.op = .call {callee := .value (.func f),args:=args,argTypes:=K})
  {x:Operand}{Y:L Operand}(H:args.toList=x::Y){d:Nat}(O:o.dst=some d){p A n0:Nat}(N:aK X env x=some (.gS p 0 A n0)){q:L CV}(ha:gO (aK X env) Y=some q)
  {cells:L CV}(I:an p bs=some (cells.map AV.c)){v:CV}{W:L AV}(hq:dP P X f (some cells) W (.c v) none)(V:W = .gS 1000000 0 A n0::q.map AV.c){bs':L (Nat×L AV)}(T:DE p bs=bs')
  (k:af P X ops rest ((d,.c v)::env) ⟨bs',ts,us⟩ (⟨[],[p]⟩::acc) Q):af P X ops (o::rest) env ⟨bs,ts,us⟩ acc Q:=by
 subst V T;exact af.step (dB G) (bU.Jp (σ:=⟨bs,ts,us⟩) C H N ha I hq) (Nb p) ri
end
end Go.cK
namespace Go.cK
def dP.of{P:Program}{X:Ctx}{f:FuncId}{S:Func}{c:Code}{Y M:Option (L CV)}{J:L AV}{r:AV}(hf:P.funcs[f]?=some S)(Q:S.body=some c)(B:Enters P f)
  (A:J.length<=S.ntmps)(env:Env)(σ:St)(D:env=(J.zipIdx.map λ(v,i)=>(i,v)))(O:rL 1000000 Y=σ)
  (h:∀β,AK P X f S.ntmps β (GR β r M) [.code c] env σ):dP P X f Y J r M:=by
 subst O;refine⟨B,λg w vs N V q cs=>?_⟩;have W:=(bJ.get q).1;have U:Live X ⟨w,g,rL 1000000 Y⟩ S.ntmps env (rL 1000000 Y) g w {tmps:=vs.toArray++Array.replicate (S.ntmps-vs.toArray.size) undef,defers:=[]}:=by
  refine⟨N,V,?_,iK.refl _ _ _,?_,Z⟩
  ·intro t a e;subst D;have p:∀(l:L AV)(us:L Value)(k:Nat),bJ g l us->an t ((l.zipIdx k).map λ(v,i)=>(i,v))=some a->k<=t/\∃u,us[t-k]?=some u/\aL g a u:=by
    intro l
    induction l with
    |nil=>intro us k _ e;simp[an]at e
    |cons v l ih =>
     intro us k I e;simp only[bJ]at I;obtain⟨u,us,rfl,h1,h2⟩:=I;simp only[afx,aed,ai]at e;split at e
     ·simp_all
     ·grind
   obtain⟨_,u,T,K⟩:=p J vs 0 q e;simp at T;have C:t<vs.length:=(List.getElem?_eq_some_iff.1 T).1;have:(vs.toArray++Array.replicate (S.ntmps-vs.toArray.size) undef).getD t undef=u:=by
    rw[aeW,aeK acR];simp[T]
   rw[this];exact K
  ·simp;omega
 obtain⟨e,w',H,h1,T,K,G⟩:=h ⟨w,g,rL 1000000 Y⟩ g w _ cs U;have E:Frame.enter P f vs.toArray .normal =
   (top f).at {tmps:=vs.toArray++Array.replicate (S.ntmps-vs.toArray.size) undef,defers:=[]} [.code c]:=by
  simp[Frame.enter,Frame.at,hf,Q,top]
 exact⟨_,w',H,h1,by rw[E];exact T,K,G⟩
section
variable {P : Program}{X : Ctx}{f : FuncId}{n : Nat}{β : jZ}{K : L Item}{env : Env}
def AK.aaI(hX:cF P X){S:Func}(hf:P.funcs[f]?=some S){bs:L (Nat×L AV)}{ts:L (Nat×Nat)}{us:L Nat}{p s m:Nat}{cells:L CV}{cs:L AV}
  (C:qF X bs env S.results.toList=some [.gS p 0 s m])(Q:an p bs=some cs)(W:cs=cells.map AV.c):AK P X f n β (GR β (.gS 999999 0 s m) (some cells)) (.code .ret::K) env ⟨bs,ts,us⟩:=by
 subst W;intro g w a cs Y;obtain⟨u,U,T⟩:=qg hX Y C
 obtain⟨N,M⟩:=Y.inv.fV ⟨λk=>if k=999999 then some p else none,λ_=>none⟩ (rL 999999 (some cells)) (by
   intro k c e;obtain⟨rfl,B,I,rfl⟩:=yh e;cases I;exact⟨p,_,cS,Q,cN _⟩) (by
   intro k k' O e e';simp only at e e';split at e
   ·simp_all
   ·simp at e) (by
   intro k n e;rw[pG]at e;simp[an]at e) (by intro k k' m m' O e;simp at e) (by
   intro k e;simp only[ne_eq,ahB,ahk]at e;by_cases D:k=999999
   ·subst D;simp[rL]
   ·simp[D]at e)
 refine⟨.returned u,w,_,⟨u,_,Z,?_,N,Y.frame.trans (M λk D e=>?_)⟩,.one step_ret,Z,Z,Y.defers,Z,S,hf,U⟩
 ·simp only[aL]at T ⊢;obtain⟨b,V,J,I,q,G,E,H⟩:=T;exact⟨b,V,J,by simpa[Gh.fV]using I,q,G,by simpa[Gh.fV]using E,H⟩
 ·cases A:an k (rL 999999 (some cells)).boxes with
  |none=>exact absurd A e
  |some c=>obtain⟨rfl,_⟩:=yh A;omega
end
def Ck{g:Gh}:∀{cs:L CV}{vs:L Value},bJ g (cs.map AV.c) vs->bR g.G cs vs
 |[],vs,h=>by simpa[bJ,bR]using h
 |c::cs,vs,h=>by
  simp only[aed,bJ]at h;obtain⟨u,us,rfl,h1,h2⟩:=h;simp only[bR];exact⟨u,us,Z,abV,Ck h2⟩
structure Rf(w:World)(b:Nat)(w':World)(b':Nat)(news:List Value):Prop where
 os:w'.os=w.os
 tape:w'.tape=w.tape
 output:w'.output=w.output
 size:w.heap.size<=w'.heap.size
 blk:b'=b\/w.heap.size<=b'
 cells:∀(j:Nat) u,news[j]?=some u->w'.cell? ⟨b',j,none⟩=some u
 rest:∀b2,b2<w.heap.size->b2≠b->w'.heap[b2]?=w.heap[b2]?
def va{w w':World}{b:Nat}(h:w'.heap[b]?=w.heap[b]?)(o:Nat):w'.cell? ⟨b,o,none⟩=w.cell? ⟨b,o,none⟩:=by
 unfold World.cell?;simp only[h]
def A4{w w':World}{b:Nat}(h:w'.heap[b]?=w.heap[b]?)(o:Nat):w'.frozen? ⟨b,o,none⟩=w.frozen? ⟨b,o,none⟩:=by
 unfold World.frozen?;simp only[h]
def FQ{w:World}{b o:Nat}{v:Value}(h:w.cell? ⟨b,o,none⟩=some v):b<w.heap.size:=by
 rcases afN b w.heap.size with C|C
 ·exact C
 ·simp[World.cell?,Array.getElem?_eq_none C]at h
def dP.raw{P:Program}{X:Ctx}{f:FuncId}{cells:L CV}{s n0:Nat}{D:L CV}(he:Enters P f)(h0:0<n0){rows:L CV}(J:∀r∈rows,r.cells.length=s)(T:(bC rows).all CV.one=true)
  (h:∀(w:World)(G:j8)(b V:Nat)(vs us:L Value),b<w.heap.size->(∀o,G b o=none)->(∀b o v,G b o=some v->w.cell? ⟨b,o,none⟩=some v)->bR G cells vs ->
   (∀(j:Nat) u,vs[j]?=some u->w.cell? ⟨b,j,none⟩=some u)->cells.all CV.one=true->n0<=V->(∀o,(o<V*s->∃u,w.cell? ⟨b,o,none⟩=some u)/\w.frozen? ⟨b,o,none⟩=false)->bR G D us ->
   ∃news,bR G (bC rows) news/\Calls P f (.slice (some ⟨b,0,none⟩) n0 V::us).toArray w λe w'=>∃O Y,e = .returned (.slice (some ⟨O,0,none⟩) rows.length Y)/\rows.length<=Y/\Rf w b w' O news) :
  dP P X f (some cells) (.gS 1000000 0 s n0::D.map AV.c) (.c (.sl s rows)) none:=by
 refine⟨he,λg w vs N cA E=>?_⟩;simp only[bJ]at E;obtain⟨u,us,rfl,C,qO⟩:=E;simp only[aL]at C;obtain⟨b,V,o,I,rfl,e2,e3,e4⟩:=C;have K:o=some ⟨b,0,none⟩:=by grind
 subst K;have H:an 1000000 (rL 1000000 (some cells)).boxes=some (cells.map AV.c):=by simp[rL,ai]
 obtain⟨O,B,c2,A,c4⟩:=N.box 1000000 _ H;rw[I]at B;cases B;obtain⟨vs,v1,v2,v3⟩:=pF (tail:=[]) (by simpa using c4);have p:=N.room 1000000 _ b H I;obtain⟨news,n1,hc⟩:=h w g.G b V vs us c2 A N.pQ v1 (λj u Q=>by have:=v2 j u Q;rwa[aeq]at this) v3 e2 (λo=>⟨λK=>(p o).1 bn,(p o).2⟩) (Ck qO);refine hc.mono ?_;rintro e w' ⟨O,Y,rfl,WB,R⟩;let W:j8:=λS o=>if S=O then(if o<(bC rows).length then w'.cell? ⟨O,o,none⟩else none)else g.G S o
 have WC:∀S o v,g.G S o=some v->S≠b/\S<w.heap.size/\S≠O:=by
  intro S o v M;have h1:S≠b:=by rintro rfl;rw[A]at M;simp at M
  have h2:=FQ (N.pQ S o v M);refine⟨h1,h2,?_⟩;rintro rfl;rcases R.blk with h|h
  ·exact h1 h
  ·omega
 have PR:g.G.le W:=by
  intro S o v M;simp only[W,(WC S o v M).2.2,aft];exact M
 have iW:∀S o v,W S o=some v->w'.cell? ⟨S,o,none⟩=some v:=by
  intro S o v M;simp only[W]at M;split at M
  ·simp_all
  ·obtain⟨h1,h2,_⟩:=WC S o v M;rw[va (R.rest S h2 h1)];exact N.pQ S o v M
 have RJ:=(bR.get n1).1
 have gw:fL W s O 0 rows:=qu.2 ⟨nO (bR.mono PR _ _ n1) (λj u Q=>by
  have hlt:j<news.length:=(List.getElem?_eq_some_iff.1 Q).1;simp only[W,if_pos,aeq];rw[if_pos bn]
  exact R.cells j u Q) T,J⟩
 refine⟨_,⟨W,λ_=>none,λ_=>none,λ_=>0⟩,Z,?_,?_,?_⟩
 ·simp only[aL,Rel];exact⟨_,_,_,Z,Z,WB,.inr ⟨O,0,Z,gw⟩⟩
 ·exact⟨iW,λk cs e=>by simp[rL,an]at e,λk k' cs cs' b e=>by simp[rL,an]at e,λk n e=>by simp[rL,an]at e,λk k' n n' b lo hi lo' hi' e=>by simp[rL,an]at e,λk e=>by simp at e,λk cs b e=>by simp[rL,an]at e⟩
 ·have U:∀q,(∀o,¬jt g (rL 1000000 (some cells)) q o)\/(∃o,¬jt g (rL 1000000 (some cells)) q o)->q≠b:=by
   rintro q h rfl;have K:∀o,jt g (rL 1000000 (some cells)) q o:=λo => .inl ⟨1000000,_,H,I⟩;rcases h with h|⟨o,h⟩
   ·exact h 0 (K 0)
   ·exact h (K o)
  refine⟨R.os,R.tape,R.output,R.size,λq h1 h2=>R.rest q h1 (U q (.inl h2)),λq o h1 h2=>?_,PR,?_,λk cs b e=>by simp[rL,an]at e,λk n b lo hi e=>by simp[rL,an]at e,λk _ e=>by simp[rL,an]at e⟩
  ·have:=R.rest q h1 (U q (.inr ⟨o,h2⟩));exact⟨va this o,A4 this o⟩
  ·intro S o v M;simp only[W]at M;split at M
   ·rename_i hb;subst hb;rcases R.blk with h|h
    ·grind
    ·exact .inr (.inl h)
   ·exact .inl M
end Go.cK
namespace Go.cK
def notNil:AV->Bool
 |.c (.sl _ (_::_))=>true
 |.own _ _ (_::_)=>true
 |.gS _ _ _ n=>Nat.blt 0 n
 |_=>false
def WD:AV->Bool
 |.c (.sl ..)=>true
 |.own .. => true
 |.gS .. => true
 |_=>false
def Kf(a:AV):CV:=match notNil a with
 |true => .bool false
 |false => .r8
def WE{g:Gh}{a:AV}{u:Value}(h:WD a=true)(C:aL g a u):∃base G V,u = .slice base G V/\(notNil a=true->base≠none):=by
 unfold WD at h;split at h
 ·rename_i s rows;simp only[aL,Rel]at C;obtain⟨base,G,V,rfl,E,A,C⟩:=C;refine⟨base,G,V,Z,λB=>?_⟩;rcases C with rfl|⟨b,o,rfl,_⟩
  ·simp[notNil]at B
  ·simp
 ·rename_i k s rows;simp only[aL]at C;obtain⟨base,G,V,rfl,E,A,C,_⟩:=C;refine⟨base,G,V,Z,λB=>?_⟩;rcases C with rfl|⟨b,o,rfl,_⟩
  ·simp[notNil]at B
  ·simp
 ·simp only[aL]at C;obtain⟨b,V,o,_,rfl,h1,_,h2⟩:=C;refine⟨_,_,_,Z,λB=>?_⟩;have:=Nat.blt_eq.mp B;rcases h2 with h2|h2
  ·omega
  ·simp[h2]
 ·simp at h
section
variable {P : Program}{X : Ctx}
def DH{t e:TypeId}{w:World}(d:Nat)(h:(underlying t).run P w = .ok (.slice e) w)(a:Addr)(n m:Nat) :
  (Op.equalIn (d+1) t (.slice (some a) n m) (.slice none 0 0)).run P w = .ok false w:=by simp[Op.equalIn,h]
def DI{t e:TypeId}{w:World}(d:Nat)(h:(underlying t).run P w = .ok (.slice e) w)(n m:Nat) :
  (Op.equalIn (d+1) t (.slice none n m) (.slice none 0 0)).run P w = .ok true w:=by simp[Op.equalIn,h]
def yN{t e:TypeId}{w:World}(h:(underlying t).run P w = .ok (.slice e) w)(base:Option Addr)(n m:Nat) :
  (Op.equal t (.slice base n m) (.slice none 0 0)).run P w = .ok base.isNone w:=by
 cases base with
 |none=>exact DI 9999 h n m
 |some a=>exact DH 9999 h a n m
def bU.WG(hX:cF P X){o:Oper}{env:Env}{σ:St}{t T:TypeId}{x:Operand}(p:o.op = .binOp .eql t x (.const (.slice none 0 0)) T){i:TI}{e:Nat}(K:X.ti t=some i)(D:i.kind = .slice e)
  {a:AV}(N:aK X env x=some a)(ha:WD a=true):bU P X o env σ (.c (Kf a)) (λσ=>σ) ⟨[],[]⟩:=by
 refine bU.val λS w g J h1 iW M q=>?_;have W:aK X S x=some a:=by rw[h1 x acP];exact N
 obtain⟨base,G,V,Q,B⟩:=WE ha (cy (a:=J) q M W);obtain⟨d1,u,O,I⟩:=hX.run_underlying (w:=w) K;rw[D]at O;simp only[ff]at O;subst O;refine⟨Value.bool base.isNone,?_,?_⟩
 ·obtain⟨H,op,U,E,Y,guard⟩:=o;simp only at p;subst p;have A:binOp .eql t (.slice base G V) (.slice none 0 0)=(do Pure.pure (Value.bool (<- Op.equal t (.slice base G V) (.slice none 0 0)))):=rfl;have C:J.eval (.const (.slice none 0 0)) = .slice none 0 0:=rfl;simp[execOp,Q,C,A,eqGuard_at_slice,yN u]
 ·unfold Kf;split
  ·rename_i hh;simp only[aL,Rel];have:=B hh;cases base<;>simp at this ⊢
  ·simp only[aL,Rel];exact⟨_,Z⟩
variable {ops : Array Oper}{rest : L Oper}{o : Oper}{env : Env}{σ : St}{acc : L Fp}{Q : Env -> St -> L Fp -> Prop}
def af.WG(hX:cF P X)(kn:L Nat)(G:dj ops.toList kn env o=some true){t Y:TypeId}{x:Operand}(p:o.op = .binOp .eql t x (.const (.slice none 0 0)) Y){d:Nat}(O:o.dst=some d){i:TI}{e:Nat}(K:X.ti t=some i)(D:i.kind = .slice e)
  {a:AV}(N:aK X env x=some a)(ha:WD a=true){v:CV}(M:Kf a=v)
  (k:af P X ops rest ((d,.c v)::env) σ (⟨[],[]⟩::acc) Q):af P X ops (o::rest) env σ acc Q:=by
 subst M;exact af.step (dB G) (bU.WG hX p K D N ha) (iA.id _) ri
variable {f : FuncId}{n : Nat}{β : jZ}{R : Ending -> World -> Prop}{K : L Item}
def AK.qA{c:Operand}{x y:Code}(A:aK X env c=some (.c .r8))(h1:AK P X f n β R (.code x::K) env σ)(h2:AK P X f n β R (.code y::K) env σ) :
  AK P X f n β R (.code (.cond c x y)::K) env σ:=by
 intro g w a cs Y;have:=cy Y.env Y.tO A;simp only[aL,Rel]at this;obtain⟨b,G⟩:=this;cases b
 ·obtain⟨e,w',H,W,u,O,Q⟩:=h2 g w a cs Y;have st:=step_cond (P:=P) (b:=top f) (x:=x) (y:=y) (k:=K) (cs:=cs) (w:=w) G;rw[if_neg bT]at st;exact⟨e,w',H,W,u.of_steps (.one st),O,Q⟩
 ·obtain⟨e,w',H,W,u,O,Q⟩:=h1 g w a cs Y;have st:=step_cond (P:=P) (b:=top f) (x:=x) (y:=y) (k:=K) (cs:=cs) (w:=w) G;rw[if_pos rfl]at st;exact⟨e,w',H,W,u.of_steps (.one st),O,Q⟩
end
end Go.cK
namespace Go.cK
mutual
def Wk:CV->CV->Prop
 |.sl s rows,.sl t Y=>(s=t/\rows=Y)\/(rows=[]/\Y=[])
 |.agg l,.agg m=>Af l m
 |.eY l,.eY m=>Af l m
 |v,.any=>v.one=true
 |v,w=>v=w
def Af:L CV->L CV->Prop
 |[],[]=>True
 |v::l,w::m=>Wk v w/\Af l m
 |_,_=>False
end
mutual
def Wk.refl:∀(v:CV),Wk v v
 |.sl s rows=>by unfold Wk;exact .inl ⟨Z,Z⟩
 |.agg l=>by simp only[Wk];exact Af.refl l
 |.eY l=>by simp only[Wk];exact Af.refl l
 |.any=>by simp only[Wk];rfl
 |.int .. => by simp only[Wk]
 |.bool .. => by simp only[Wk]
 |.str .. => by simp only[Wk]
 |.mw=>by simp only[Wk]
 |.undef=>by simp only[Wk]
 |.ip .. => by simp only[Wk]
 |.rR .. => by simp only[Wk]
 |.r8=>by simp only[Wk]
def Af.refl:∀(l:L CV),Af l l
 |[]=>by simp only[Af]
 |v::l=>by simp only[Af];exact⟨Wk.refl v,Af.refl l⟩
end
def Wk.of_eq{v w:CV}(h:v=w):Wk v w:=by subst h;exact Wk.refl v
def sr{G:j8}{v:CV}{u:Value}(h:v.one=true)(C:Rel G v u):(∀vs,u ≠ .agg vs)/\∀vs,u ≠ .tuple vs:=by
 cases v<;>simp[CV.one]at h<;>simp only[Rel]at C
 case int=>subst C;simp
 case bool=>subst C;simp
 case str=>subst C;simp
 case mw=>subst C;simp
 case sl=>obtain⟨_,_,_,rfl,_⟩:=C;simp
 case ip=>obtain⟨_,_,rfl,_⟩:=C;simp
 case rR=>obtain⟨_,rfl,_⟩:=C;simp
 case any=>exact C
 case r8=>obtain⟨_,rfl⟩:=C;simp
def abD{v w:CV}(h:Wk v w)(h1:v.one=true):w.one=true:=by
 unfold Wk at h;split at h
 ·rfl
 ·simp[CV.one]at h1
 ·simp[CV.one]at h1
 ·rfl
 ·subst h;exact h1
mutual
def Wk.rel{G:j8}:∀{v w:CV}{u:Value},Wk v w->Rel G v u->Rel G w u
 |.sl s rows,w,u,h,C=>by
  cases w
  case sl t Ng =>
   unfold Wk at h;rcases h with ⟨rfl,rfl⟩|⟨rfl,rfl⟩
   ·exact C
   ·simp only[Rel]at C ⊢;obtain⟨base,p,V,I,W,Y,_⟩:=C;exact⟨base,p,V,I,W,Y,cS⟩
  case any=>unfold Wk at h;simp only[Rel];exact sr h C
  all_goals (unfold Wk at h;cases h)
 |.agg l,w,u,h,C=>by
  cases w<;>simp only[Wk]at h
  case agg m =>
   simp only[Rel]at C ⊢;obtain⟨vs,I,W,Y⟩:=C;obtain⟨g1,H,_⟩:=Af.rel h W;exact⟨vs,I,g1,H Y⟩
  case any=>simp[CV.one]at h
  all_goals (cases h)
 |.eY l,w,u,h,C=>by
  cases w<;>simp only[Wk]at h
  case eY m =>
   simp only[Rel]at C ⊢;obtain⟨vs,I,W,Y⟩:=C;obtain⟨g1,_,H⟩:=Af.rel h W;exact⟨vs,I,g1,bn⟩
  case any=>simp[CV.one]at h
  all_goals (cases h)
 |.any,w,u,h,C=>by cases w<;>simp only[Wk]at h<;>first|exact C|cases h
 |.int ..,w,u,h,C=>by cases w<;>simp only[Wk]at h<;>first|(simp only[Rel];exact sr h C)|(rw[<- h];exact C)|cases h
 |.bool ..,w,u,h,C=>by cases w<;>simp only[Wk]at h<;>first|(simp only[Rel];exact sr h C)|(rw[<- h];exact C)|cases h
 |.str ..,w,u,h,C=>by cases w<;>simp only[Wk]at h<;>first|(simp only[Rel];exact sr h C)|(rw[<- h];exact C)|cases h
 |.mw,w,u,h,C=>by cases w<;>simp only[Wk]at h<;>first|(simp only[Rel];exact sr h C)|exact C|cases h
 |.undef,w,u,h,C=>by cases w<;>simp only[Wk]at h<;>first|exact C|(simp[CV.one]at h)|cases h
 |.ip ..,w,u,h,C=>by cases w<;>simp only[Wk]at h<;>first|(simp only[Rel];exact sr h C)|(rw[<- h];exact C)|cases h
 |.rR ..,w,u,h,C=>by cases w<;>simp only[Wk]at h<;>first|(simp only[Rel];exact sr h C)|(rw[<- h];exact C)|cases h
 |.r8,w,u,h,C=>by cases w<;>simp only[Wk]at h<;>first|(simp only[Rel];exact sr h C)|exact C|cases h
def Af.rel{G:j8}:∀{l m:L CV}{us:L Value},Af l m->bR G l us->bR G m us/\(l.all CV.one=true->m.all CV.one=true)/\l.length=m.length
 |[],[],us,_,C=>⟨C,id,Z⟩
 |v::l,w::m,us,h,C=>by
  simp only[Af]at h;simp only[bR]at C ⊢;obtain⟨u,us,rfl,q,J⟩:=C;obtain⟨g1,H,U⟩:=Af.rel h.2 J;refine⟨⟨u,us,Z,Wk.rel h.1 q,g1⟩,?_,by simp[U]⟩;simp only[aeL,aai];rintro⟨S,T⟩;exact⟨abD h.1 S,H T⟩
 |[],_::_,_,h,_=>by simp[Af]at h
 |_::_,[],_,h,_=>by simp[Af]at h
end
def Bu{x y:CV}{e:Int}(h1:x.one=true)(h2:y.one=true):Wk (.eY [.agg [x,y],.int .i64 e]) (.eY [.agg [.any,.any],.int .i64 e]):=by
 have O:Wk x .any:=by cases x<;>unfold Wk<;>first|exact h1|rfl
 have Q:Wk y .any:=by cases y<;>unfold Wk<;>first|exact h2|rfl
 unfold Wk Af Af Af;refine⟨?_,Wk.refl _,trivial⟩;unfold Wk Af Af Af;exact⟨O,Q,trivial⟩
def xN{s t:Nat}{b:CV}:Wk (.eY [.sl s [],b]) (.eY [.sl t [],b]):=by
 simp only[Wk,Af];exact⟨.inr ⟨trivial,trivial⟩,Wk.refl b,trivial⟩
section
variable {P : Program}{X : Ctx}
def bg.wk{f:FuncId}{J C:L CV}{r Y:CV}(ha:Af J C)(I:Wk r Y)(q:bg P X f C r):bg P X f J Y:=by
 refine⟨q.1,λG w vs h1 h2 V=>?_⟩;exact Calls.mono (q.2 G w vs h1 h2 (Af.rel ha V).1) λe w' ⟨u,O,M,W,U⟩=>⟨u,O,M,Wk.rel I W,U⟩
variable {f : FuncId}{n : Nat}{β : jZ}{K : L Item}{env : Env}{σ : St}
def AK.EV(hX:cF P X){S:Func}(hf:P.funcs[f]?=some S){r:AV}{Y W:CV}
  (C:lZ X σ.boxes env S.results.toList=some r)(A:close r=some Y)(B:Wk Y W):AK P X f n β (QR β W) (.code .ret::K) env σ:=by
 have h:=AK.acW (K:=K) (β:=β) (n:=n) hX hf C A Z;intro g w a cs V;obtain⟨e,w',H,⟨u,g',h1,h2,U⟩,h4⟩:=h g w a cs V;exact⟨e,w',H,⟨u,g',h1,Wk.rel B h2,U⟩,h4⟩
end
end Go.cK
namespace Go.cK
inductive Nh where
 |ok (env:Env) (bs:List (Nat×List AV)) (us:List Nat) (fp:Fp)
 |no
def Mj(X:Ctx)(N:L Oper)(o:Oper)(env:Env)(bs:L (Nat×L AV))(us:L Nat):Nh :=
 match dj N kn env o with
 |some true=>match o.op,o.dst with
  |.box _ x,some d=>match aK X env x with
   |some a=>match jA a with
    |some cells=>match MX d us with
     |false => .ok ((d,.ptr d 0)::env) ((d,cells)::bs) (d::us) ⟨[],[d]⟩
     |true => .no
    |none => .no
   |none => .no
  |.alloc t,some d=>match X.ti t with
   |some i=>match i.zero with
    |some P=>match jA P with
     |some cells=>match MX d us with
      |false => .ok ((d,.ptr d 0)::env) ((d,cells)::bs) (d::us) ⟨[],[d]⟩
      |true => .no
     |none => .no
    |none => .no
   |none => .no
  |.store t x y,none=>match X.ti t,aK X env x,aK X env y with
   |some i,some (.ptr p off),some a=>match an p bs,jA a with
    |some cells,some vs=>match Nat.beq vs.length i.size,bV off vs cells with
     |true,some r=>match yU p r bs with
      |some bs' => .ok env bs' us ⟨[],[p]⟩
      |none => .no
     |_,_ => .no
    |_,_ => .no
   |_,_,_ => .no
  |.buildSlice t G S,some d=>match X.ti t with
   |some i=>match i.kind with
    |.slice e=>match X.ti e with
     |some j=>match j.zero,ju (aK X env) 0 S.toList with
      |some _,some rows=>match Nat.beq rows.length G,iY j.size rows,Nat.ble (G*j.size) 16777216 with
       |true,true,true => .ok ((d,.own .exact j.size rows)::env) bs us ⟨[],[]⟩
       |_,_,_ => .no
      |_,_ => .no
     |none => .no
    |_ => .no
   |none => .no
  |.build t S,some d=>match X.ti t with
   |some i=>match i.kind with
    |.arr n e=>match X.ti e,i.zero with
     |some j,some (.agg z)=>match rW X (aK X env) (A3 j.size e 0 n) S.toList z with
      |some r => .ok ((d,.agg r)::env) bs us ⟨[],[]⟩
      |none => .no
     |_,_ => .no
    |_ => .no
   |none => .no
  |.index t x W,some d=>match X.ti t,aK X env x,aK X env W with
   |some i,some (.agg cs),some ia=>match i.kind,asNat ia with
    |.arr n e,some m=>match X.ti e,Nat.blt m n with
     |some j,true=>match eu (m*j.size) cs with
      |some r=>match lH j r with
       |some v => .ok ((d,v)::env) bs us ⟨[],[]⟩
       |none => .no
      |none => .no
     |_,_ => .no
    |_,_ => .no
   |_,_,_ => .no
  |.binOp .eql t x (.const (.slice none 0 0)) _,some d=>match X.ti t,aK X env x with
   |some i,some a=>match i.kind,WD a with
    |.slice _,true => .ok ((d,.c (Kf a))::env) bs us ⟨[],[]⟩
    |_,_ => .no
   |_,_ => .no
  |_,_ => .no
 |_ => .no
section
variable {P:Program}{X:Ctx}{ops:Array Oper}{o:Oper}{rest:L Oper}{env:Env}{acc:L Fp}{Q:Env->St->L Fp->Prop}
 {bs:L (Nat×L AV)} {ts:L (Nat×Nat)} {us:L Nat}
def af.Mj(hX:cF P X){env':Env}{bs':L (Nat×L AV)}{us':L Nat}{q:Fp}(h:Mj X ops.toList o env bs us = .ok env' bs' us' q)
  (k:af P X ops rest env' ⟨bs',ts,us'⟩ (q::acc) Q):af P X ops (o::rest) env ⟨bs,ts,us⟩ acc Q:=by
 unfold Go.cK.Mj at h;split at h
 ·rename_i G;split at h
  ·rename_i t x d Y O;split at h
   ·rename_i a ha;split at h
    ·rename_i cells A;split at h
     ·rename_i C;simp only[Nh.ok.injEq]at h;obtain⟨rfl,rfl,rfl,rfl⟩:=h;exact af.box kn G Y O ha A C k
     ·cases h
    ·cases h
   ·cases h
  ·rename_i t d Y O;split at h
   ·rename_i i K;split at h
    ·rename_i T D;split at h
     ·rename_i cells A;split at h
      ·rename_i C;simp only[Nh.ok.injEq]at h;obtain⟨rfl,rfl,rfl,rfl⟩:=h;exact af.alloc hX kn G Y O K D A C k
      ·cases h
     ·cases h
    ·cases h
   ·cases h
  ·rename_i t x y Y O;split at h
   ·rename_i i p off a K N M;split at h
    ·rename_i cells vs U A;split at h
     ·rename_i r E J;split at h
      ·rename_i H B;simp only[Nh.ok.injEq]at h;obtain⟨rfl,rfl,rfl,rfl⟩:=h;exact af.store hX kn G Y O K N M U A E J B k
      ·cases h
     ·cases h
    ·cases h
   ·cases h
  ·rename_i t u S d Y O;split at h
   ·rename_i i K;split at h
    ·rename_i e W;split at h
     ·rename_i j V;split at h
      ·rename_i T rows D hp;split at h
       ·rename_i h1 h2 h3;simp only[Nh.ok.injEq]at h;obtain⟨rfl,rfl,rfl,rfl⟩:=h;exact af.buildSlice hX kn G Y O K W V D hp h1 Z h2 h3 k
       ·cases h
      ·cases h
     ·cases h
    ·cases h
   ·cases h
  ·rename_i t S d Y O;split at h
   ·rename_i i K;split at h
    ·rename_i n e W;split at h
     ·rename_i j z V D;split at h
      ·rename_i r I;simp only[Nh.ok.injEq]at h;obtain⟨rfl,rfl,rfl,rfl⟩:=h;exact af.FO hX kn G Y O K W V D I k
      ·cases h
     ·cases h
    ·cases h
   ·cases h
  ·rename_i t x ix d Y O;split at h
   ·rename_i i cs ia K N D;split at h
    ·rename_i n e m W C;split at h
     ·rename_i j V U;split at h
      ·rename_i r I;split at h
       ·rename_i v hv;simp only[Nh.ok.injEq]at h;obtain⟨rfl,rfl,rfl,rfl⟩:=h;exact af.gq hX kn G Y O K W V N D C U I hv k
       ·cases h
      ·cases h
     ·cases h
    ·cases h
   ·cases h
  ·rename_i t x yt d Y O;split at h
   ·rename_i i a K N;split at h
    ·rename_i e W ha;simp only[Nh.ok.injEq]at h;obtain⟨rfl,rfl,rfl,rfl⟩:=h;exact af.WG hX kn G Y O K W N ha Z k
    ·cases h
   ·cases h
  ·cases h
 ·cases h
def Mk(X:Ctx)(N:L Oper)(o:Oper)(env:Env)(ts:L (Nat×Nat))(us:L Nat):Option (Nat×Nat×Nat×Nat×L CV×L CV×Nat×L (Nat×Nat)) :=
 match dj N kn env o with
 |some true=>match o.op,o.dst with
  |.call {callee := .builtin .append,args,argTypes},some d=>match args.toList,argTypes.toList with
   |[xs,y],[t,t1]=>match X.ti t,X.ti t1,aK X env xs,aK X env y with
    |some i,some K,some (.own Y s rows),some b=>match i.kind,me K.kind,nP b with
     |.slice e,true,some (P,cq)=>match X.ti e with
      |some j=>match j.zero,FB s j.size rows Y,gI P j.size cq,Nat.ble 1 j.bytes with
       |some _,true,true,true=>match w9 d us ts Y with
        |some (p,n)=>match yU p n ts with
         |some ts'=>some (d,p,n,j.size,rows,cq,j.bytes,ts')
         |none=>none
        |none=>none
       |_,_,_,_=>none
      |none=>none
     |_,_,_=>none
    |_,_,_,_=>none
   |_,_=>none
  |_,_=>none
 |_=>none
def af.Mk(hX:cF P X){d p n sz T:Nat}{rows cq:L CV}{ts':L (Nat×Nat)}(h:Mk X ops.toList o env ts us=some (d,p,n,sz,rows,cq,T,ts'))
  (Y:(rows.length+cq.length)*T<=140737488355328)
  (k:af P X ops rest ((d,.own (.tok p n) sz (rows++cq))::env) ⟨bs,ts',p::us⟩ (⟨[],[p]⟩::acc) Q):af P X ops (o::rest) env ⟨bs,ts,us⟩ acc Q:=by
 unfold Go.cK.Mk at h;split at h
 ·rename_i G;split at h
  ·rename_i J K d' W N;split at h
   ·rename_i xs y t t1 H M;split at h
    ·rename_i i i1 ow s Ng b E S ha D;split at h
     ·rename_i e s1 C B u A;split at h
      ·rename_i j q;split at h
       ·rename_i za hz hs td V;split at h
        ·rename_i O n' I;split at h
         ·rename_i D1 U;simp only[aeO,aff]at h;obtain⟨rfl,rfl,rfl,rfl,rfl,rfl,rfl,rfl⟩:=h;exact af.append hX kn G W H M N E B q hz S u ha D A Z hs td I Z V U Y k
         ·cases h
        ·cases h
       ·cases h
      ·cases h
     ·cases h
    ·cases h
   ·cases h
  ·cases h
 ·cases h
def Ml(X:Ctx)(N:L Oper)(o:Oper)(env:Env):Option (Nat×FuncId×L CV) :=
 match dj N kn env o with
 |some true=>match o.op,o.dst with
  |.call {callee := .value (.func f),args,argTypes:=_},some d=>match gO (aK X env) args.toList with
   |some q=>some (d,f,q)
   |none=>none
  |.call {callee := .value (.tmp x),args,argTypes:=_},some d=>match aK X env (.tmp x),gO (aK X env) args.toList with
   |some (.c (.rR f W)),some q=>some (d,f,q++W)
   |_,_=>none
  |_,_=>none
 |_=>none
def af.Ml{σ:St}{d:Nat}{f:FuncId}{q:L CV}{r:CV}(h:Ml X ops.toList o env=some (d,f,q))(hq:bg P X f q r)
  (k:af P X ops rest ((d,.c r)::env) σ (⟨[],[]⟩::acc) Q):af P X ops (o::rest) env σ acc Q:=by
 unfold Go.cK.Ml at h;split at h
 ·rename_i G;split at h
  ·rename_i f' J K U Y O;split at h
   ·rename_i W A;simp only[aeO,aff]at h;obtain⟨rfl,rfl,rfl⟩:=h;exact af.LR kn G Y O A hq k
   ·cases h
  ·rename_i x J K U Y O;split at h
   ·rename_i f' V W N A;simp only[aeO,aff]at h;obtain⟨rfl,rfl,rfl⟩:=h;exact af.Mz kn G Y O N A hq k
   ·cases h
  ·cases h
 ·cases h
def Mm(X:Ctx)(N:L Oper)(o:Oper)(env:Env):Option (Nat×L CV×Int) :=
 match dj N kn env o with
 |some true=>match o.op,o.dst with
  |.indexAddr t x W,some d=>match X.ti t,aK X env x,aK X env W with
   |some i,some a,some (.c (.int _ z))=>match i.kind,rowsOf a with
    |.slice e,some (s,rows)=>match X.ti e with
     |some j=>match Nat.beq s j.size with
      |true=>some (d,rows,z)
      |false=>none
     |none=>none
    |_,_=>none
   |_,_,_=>none
  |_,_=>none
 |_=>none
def af.Mm(hX:cF P X){σ:St}{d:Nat}{rows:L CV}{z:Int}(h:Mm X ops.toList o env=some (d,rows,z))(m:Nat)(C:z=m){r:CV}(I:rows[m]?=some r){cs:L CV}(Y:r.cells=cs)
  (k:af P X ops rest ((d,.c (.ip cs))::env) σ (⟨[],[]⟩::acc) Q):af P X ops (o::rest) env σ acc Q:=by
 unfold Go.cK.Mm at h;split at h
 ·rename_i G;split at h
  ·rename_i t x q E W O;split at h
   ·rename_i i a k' N K ha D;split at h
    ·rename_i e s M V U;split at h
     ·rename_i j T;split at h
      ·rename_i S;simp only[aeO,aff]at h;obtain⟨rfl,rfl,rfl⟩:=h;exact af.index hX G W O K V T ha U S D m C I Y k
      ·cases h
     ·cases h
    ·cases h
   ·cases h
  ·cases h
 ·cases h
end
end Go.cK
namespace Go.cK
def eH(b:Nat):∀(vs:L Value)(o:Nat)(w:World),(w.setCells b o vs).heap.size=w.heap.size/\(w.setCells b o vs).os=w.os/\(w.setCells b o vs).tape=w.tape/\(w.setCells b o vs).output=w.output /\
  ∀k,k≠b->(w.setCells b o vs).heap[k]?=w.heap[k]?
 |[],_,w=>⟨Z,Z,Z,Z,λ_ _=>rfl⟩
 |v::r,o,w=>by
  obtain⟨h1,h2,V,S,K⟩:=eH b r (o+1) (w.setCell ⟨b,o,none⟩ v);rw[World.setCells];refine⟨by rw[h1];simp[World.setCell],by rw[h2];rfl,by rw[V];rfl,by rw[S];rfl,λk D=>?_⟩;rw[K k D];exact heap_setCell w ⟨b,o,none⟩ v _ D
def eB{b:Nat}{vs:L Value}{o:Nat}{w:World}(h:∀j,j<vs.length->(w.cell? ⟨b,o+j,none⟩).isSome=true)(j:Nat) :
  (w.setCells b o vs).cell? ⟨b,j,none⟩=if o<=j/\j<o+vs.length then vs[j-o]? else w.cell? ⟨b,j,none⟩:=by
 by_cases V:o<=j/\j<o+vs.length
 ·rw[if_pos V];have:=World.cell?_setCells_in b vs o w h (j-o) bn;rw[show o+(j-o)=j by omega]at this;rw[this,aea]
 ·rw[if_neg V];exact World.cell?_setCells_out b vs o w ⟨b,j,none⟩ (λ_ _=>by show j<o\/o+vs.length<=j;omega)
def dJ{b:Nat}{vs:L Value}{o:Nat}{w:World}(h:∀j,j<vs.length->(w.cell? ⟨b,o+j,none⟩).isSome=true){j:Nat}(Y:(w.cell? ⟨b,j,none⟩).isSome=true) :
  ((w.setCells b o vs).cell? ⟨b,j,none⟩).isSome=true:=by
 rw[eB h];split
 ·grind
 ·exact Y
def m9{P:Program}(w:World)(T C ty Y:TypeId)(b o W V:Nat)(a:Addr)(sLen sCap:Nat)(cs:L Value)(n s:Nat)
  (E:P.underlying T=some (.slice Y))(G:(P.info? Y).map (·.size)=some s)(B:n=Nat.min sLen W)(S:cs.length=n*s)
  (A:∀(j:Nat) v,cs[j]?=some v->w.cell? (a.add j)=some v)(Q:∀j,j<cs.length->(w.cell? ⟨b,o+j,none⟩).isSome=true)(hf:∀j,j<cs.length->w.frozen? ⟨b,o+j,none⟩=false)(h1:∀v∈cs,v.oneCell'=true) :
  (Builtin.copy_ #[T,C] ty #[.slice (some ⟨b,o,none⟩) W V,.slice (some a) sLen sCap]).run P w = .ok (goInt n) (w.setCells b o cs):=by
 have U:=run_firstCells_some (P:=P) w s n a sLen sCap cs S A;have O:=run_storeCells_cells (P:=P) b o cs 0 w (by simpa using Q) (by simpa using hf) h1;simp only[aeT]at O;cases hq:P.info? Y with
 |none=>simp[hq]at G
 |some i =>
  have K:i.size=s:=by simpa[hq]using G
  subst B;simp[Builtin.copy_,run_underlying E,Builtin.lenOf,sizeOf,typeInfo,hq,K,U,O]
def Ni{P:Program}(w:World){o:Oper}{a:Act}{K:Act->World->Prop}{Q:Exit->Act->World->Prop}(d s:Operand)(t G:TypeId)
  (p:o.op = .call {callee := .builtin .copy,args := #[d,s],argTypes := #[t,G]})(v u:Value)(O:a.eval d=v)(W:a.eval s=u){Y:Value}{w':World}
  (C:(Builtin.copy_ #[t,G] o.type #[v,u]).run P w = .ok Y w')(h:K (a.put o.dst Y) w'):o.wp P a w K Q:=by
 unfold Oper.wp execOp;simp only[p,resolve,invoke,builtin,Sem.run_bind,Sem.run_pure,Result.andThen_ok,List.map_toArray,aed,List.map_nil,O,W,C];exact h
def lW{P:Program}(w:World){ops:Array Oper}{rest:L Oper}{o:Oper}{a:Act}{Q:Exit->Act->World->Prop}(Y:o.guard=none)(d s:Operand)(t G:TypeId)
  (p:o.op = .call {callee := .builtin .copy,args := #[d,s],argTypes := #[t,G]})(v u:Value)(O:a.eval d=v)(V:a.eval s=u){W:Value}{w':World}
  (C:(Builtin.copy_ #[t,G] o.type #[v,u]).run P w = .ok W w')(h:wpList P ops Q rest (a.put o.dst W) w'):wpList P ops Q (o::rest) a w :=
 wpList_plain Y λ_ U=>Ni w d s t G p v u O V C (U _ _ h)
def ur{P:Program}{ops:Array Oper}{o:Oper}{a:Act}{w:World}{K:Act->World->Prop}{Q:Exit->Act->World->Prop}{E:Prop}
  (G:o.guard=none)(d x:Operand)(Y C:TypeId)(W:o.op=Op.call {callee:=Callee.builtin Builtin.copy,args := #[d,x],argTypes := #[Y,C]})
  (v u:Value)(O:a.eval d=v)(N:a.eval x=u){V:Value}{w':World}(I:(Builtin.copy_ #[Y,C] o.type #[v,u]).run P w = .ok V w')(U:K (a.put o.dst V) w') :
  if Region.wanted o (yielded ops a.tmps)=true then Oper.wp P o a w K Q else E:=by
 rw[if_pos (by simp[Region.wanted,G])];exact Ni w d x Y C W v u O N I U
def tc{P:Program}(w:World)(tS tR e:TypeId)(ht:P.underlying tS=some (.slice e))(size:Nat)(hz:∀w,(Go.sizeOf e).run P w = .ok size w)
  (a b:Addr)(la ca lb cb:Nat)(hne:a.block≠b.block){u v:Value}(hua:w.cell? ⟨a.block,a.off,none⟩=some u)(hub:w.cell? ⟨b.block,b.off,none⟩=some v)(hfb:∀o,w.frozen? ⟨b.block,o,none⟩=false)(jG:b.spot=none) :
  (Extern.SlicesOverlaps.overlaps #[tS,tS] #[tR] #[.slice (some a) la ca,.slice (some b) lb cb]).run P w = .ok (.bool false) w:=by
 have shp:∀(x:Addr){v:Value},w.cell? ⟨x.block,x.off,none⟩=some v->∃t k,w.shape? x.block=some (t,k+1):=by
  intro x v hx;unfold World.cell? at hx;unfold World.shape?;split at hx
  ·rename_i c t f hh;simp only at hh hx ⊢;rw[hh];refine⟨t,c.size-1,?_⟩;have:x.off<c.size:=by grind
   simp;omega
  ·cases hx
 obtain⟨tA,kA,hsa⟩:=shp a hua;obtain⟨tB,kB,hsb⟩:=shp b hub;have hnb:(a.block != b.block)=true:=by simpa using hne
 have agq:(a.block==b.block)=false:=by simpa using hne
 have agr:w.frozen? b=false:=by
  have:=hfb b.off;obtain⟨bb,bo,bs⟩:=b;simp only at jG;subst jG;exact this
 have hfe:=hfb (kB+1)
 change Sem.run P (α:=Value) (do
  let some t := (#[tS, tS] : Array TypeId)[0]? | stuck "slices.overlaps: no parameter types"
  let .slice elem ← underlying t | stuck "slices.overlaps: slice type expected"
  let size<-sizeOf elem
  match (some a:Option Addr),(some b:Option Addr)with
  |some a,some b =>
   if la=0\/lb=0\/size=0 then pure (Value.bool false)
   else if a.block != b.block&&(<- frozen a)&&(<- frozen b)then unsupported .addressObserved
   else do
    if a.block != b.block then do
     noView a;noView b
     if ← mayBeOne a b then return Value.bool ((← choose (.extern "sameAddr.stringBytes" 2)) == 1)
    pure (Value.bool (a.block==b.block&&a.off<b.off+lb*size&&b.off<a.off+la*size))
  |_,_=>pure (Value.bool false)) w=_
 by_cases h0:la=0\/lb=0\/size=0
 ·simp[run_underlying ht,hz,h0]
 ·simp[run_underlying ht,hz,h0,hnb,agq,frozen,noView,viewAt,mayBeOne,stringish,shape,Sem.run,hsa,hsb,agr,hfe]
def tf{G:j8}:∀{l:L CV}{vs:L Value}(n:Nat),bR G l vs->bR G (l.take n) (vs.take n)
 |_,_,0,_=>by simp[bR]
 |[],vs,n+1,h=>by simp only[bR]at h;subst h;simp[bR]
 |c::l,vs,n+1,h=>by
  simp only[bR]at h;obtain⟨u,us,rfl,h1,h2⟩:=h;simp only[afi,bR];exact⟨u,_,Z,h1,tf n h2⟩
def tg{G:j8}:∀{l:L CV}{vs:L Value}(n:Nat),bR G l vs->bR G (l.drop n) (vs.drop n)
 |_,_,0,h=>by simpa using h
 |[],vs,n+1,h=>by simp only[bR]at h;subst h;simp[bR]
 |c::l,vs,n+1,h=>by
  simp only[bR]at h;obtain⟨u,us,rfl,h1,h2⟩:=h;simpa using tg n h2
def oZ{G:j8}:∀{l:L CV}{vs:L Value},bR G l vs->vs.length=l.length
 |[],vs,h=>by simp only[bR]at h;subst h;rfl
 |c::l,vs,h=>by
  simp only[bR]at h;obtain⟨u,us,rfl,h1,h2⟩:=h;simp[oZ h2]
def uv{s:Nat}{l:L CV}(h:∀r∈l,r.cells.length=s)(i:Nat)(K:i<=l.length):(bC l).take (i*s)=bC (l.take i):=by
 have e:l=l.take i++l.drop i:=(afk i l).symm;have h1:(bC (l.take i)).length=i*s:=by rw[dK (λr C=>h r (afT C)),aeD,ahs K]
 conv=>lhs;rw[e,dS]
 rw[<- h1];simp
def uw{s:Nat}{l:L CV}(h:∀r∈l,r.cells.length=s)(i:Nat)(K:i<=l.length):(bC l).drop (i*s)=bC (l.drop i):=by
 have e:l=l.take i++l.drop i:=(afk i l).symm;have h1:(bC (l.take i)).length=i*s:=by rw[dK (λr C=>h r (afT C)),aeD,ahs K]
 conv=>lhs;rw[e,dS]
 rw[<- h1];simp
section
variable {P : Program}{X : Ctx}{ops : Array Oper}{o : Oper}{rest : L Oper}{env : Env}{σ : St}{acc : L Fp}{Q : Env -> St -> L Fp -> Prop}
def af.qG(hX:cF P X)(kn:L Nat)(G:dj ops.toList kn env o=some true){t:TypeId}{x W:Operand}(K:o.op = .indexAddr t x W){d:Nat}(O:o.dst=some d){i j:TI}{n e:Nat}(I:X.ti t=some i)(D:i.kind = .arr n e)
  (U:X.ti e=some j){p off:Nat}(N:aK X env x=some (.ptr p off)){V:AV}(T:aK X env W=some V){m:Nat}(C:asNat V=some m)(Y:Nat.blt m n=true)
  (k:af P X ops rest ((d,.ptr p (off+m*j.size))::env) σ (⟨[],[]⟩::acc) Q):af P X ops (o::rest) env σ acc Q:=by
 refine af.look hX kn G O ?_ (by rw[K];rfl) k;rw[K];simp only[gy,I,N,T,C,D,U,Y]
end
def gX{X:Ctx}{bs:L (Nat×L AV)}{env:Env}{t ty u:Nat}{i:TI}{p off:Nat}{cells r:L AV}{v a:AV}(K:X.ti ty=some i)(O:aK X env (.tmp t)=some (.ptr p off))(Q:an p bs=some cells)
  (Y:eu off cells=some r)(M:lH i r=some v)(U:an u env=some a):lZ X bs env [.cell t ty,.tmp u]=some (.eY [v,a]):=by
 have h1:gy X bs (aK X env) (.load ty (.tmp t))=some v:=by simp only[gy,K,O,Q,Y,M]
 simp only[lZ,qF,h1,U]
def xX:∀l:L CV,pO (l.map AV.c)=some l
 |[]=>rfl
 |c::l=>by simp only[aed,pO,close,xX l]
def Im{α:Type}:∀l:List α,takeN l.length l=some l
 |[]=>rfl
 |x::l=>by simp only[aac,takeN,Im l]
def BV{α:Type}:∀(a b:List α),takeN a.length (a++b)=some a
 |[],_=>rfl
 |x::a,b=>by simp only[aac,adU,takeN,BV a b]
def jj{α:Type}:∀(a b:List α),eu a.length (a++b)=some b
 |[],_=>rfl
 |x::a,b=>by simp only[aac,adU,eu,jj a b]
def lY{α:Type}:∀(m n:Nat)(l r s:List α),eu m l=some r->eu n r=some s->eu (m+n) l=some s
 |0,n,l,r,s,h1,h2=>by simp only[eu]at h1;cases h1;rw[aeq];exact h2
 |m+1,n,[],r,s,h1,h2=>by simp only[eu]at h1;cases h1
 |m+1,n,x::l,r,s,h1,h2=>by rw[Nat.add_right_comm];simp only[eu]at h1 ⊢;exact lY m n l r s h1 h2
def wP:∀(a b:L AV),a.length=b.length->bV 0 a b=some a
 |[],[],_=>rfl
 |[],_::_,h=>by simp at h
 |_::_,[],h=>by simp at h
 |x::a,y::b,h=>by simp only[bV,wP a b oy]
def Fc(x:AV):∀(a:L AV)(y:AV)(b:L AV),bV a.length [x] (a++y::b)=some (a++x::b)
 |[],y,b=>by cases b<;>simp only[aad,aeU,bV]
 |z::a,y,b=>by simp only[aac,adU,bV,Fc x a y b]
end Go.cK
namespace Go.cK
def A5(bs:L (Nat×L AV)):St:=⟨bs,[],bs.map (·.1)⟩
def HR(β:jZ)(r:AV)(M:L (Nat×L AV)):Ending->World->Prop:=λe w' =>
 ∃u g',e = .returned u/\aL g' r u/\Inv w' g' (A5 M)/\iK β.w β.g β.σ w' g' (A5 M)
def cP(P:Program)(X:Ctx)(f:FuncId)(Y:L (Nat×L AV))(J:L AV)(r:AV)(M:L (Nat×L AV)):Prop :=
 Enters P f/\∀(g:Gh)(w:World)(vs:L Value),Inv w g (A5 Y)->pP X g.G->bJ g J vs->Calls P f vs.toArray w (HR ⟨w,g,A5 Y⟩ r M)
mutual
def AV.rn(ψ:Nat->Nat):AV->AV
 |.ptr k o => .ptr (ψ k) o
 |.gS k o s n => .gS (ψ k) o s n
 |.agg l => .agg (LM ψ l)
 |.eY l => .eY (LM ψ l)
 |.c v => .c v
 |.own k s rows => .own k s rows
 |.any => .any
def LM(ψ:Nat->Nat):L AV->L AV
 |[]=>[]
 |a::l=>a.rn ψ::LM ψ l
end
mutual
def LP(us:L Nat):AV->Bool
 |.own (.tok _ _) _ _=>false
 |.ptr k _=>mem k us
 |.gS k _ _ _=>mem k us
 |.agg l=>sJ us l
 |.eY l=>sJ us l
 |.own .exact _ _=>true
 |.c _=>true
 |.any=>true
def sJ(us:L Nat):L AV->Bool
 |[]=>true
 |a::l=>both (LP us a) (sJ us l)
end
def yQ(ψ:Nat->Nat):∀l:L CV,LM ψ (l.map AV.c)=l.map AV.c
 |[]=>rfl
 |c::l=>by simp only[aed,LM,AV.rn,yQ ψ l]
def sK(us:L Nat):∀l:L CV,sJ us (l.map AV.c)=true
 |[]=>rfl
 |c::l=>by simp only[aed,sJ,LP,both,sK us l]
section
variable {g g1 : Gh}{us : L Nat}{ψ : Nat -> Nat}
mutual
def WH(Y:g1.G=g.G)(h:∀k,mem k us=true->g1.box (ψ k)=g.box k/\g1.room (ψ k)=g.room k):∀{a:AV}{u:Value},LP us a=true->aL g a u->aL g1 (a.rn ψ) u/\(a.one=true->(a.rn ψ).one=true)
 |.c v,u,_,C=>by simp only[AV.rn,aL,Y]at C ⊢;exact⟨C,id⟩
 |.own .exact s rows,u,_,C=>by simp only[AV.rn,aL,Y]at C ⊢;exact⟨C,id⟩
 |.own (.tok _ _) s rows,u,p,_=>by simp[LP]at p
 |.ptr k o,u,p,C=>by
  simp only[LP]at p;simp only[AV.rn,aL,(h k p).1]at C ⊢;exact⟨C,λ_=>rfl⟩
 |.gS k o s n,u,p,C=>by
  simp only[LP]at p;simp only[AV.rn,aL,(h k p).1,(h k p).2]at C ⊢;exact⟨C,λ_=>rfl⟩
 |.any,u,_,C=>by simp only[AV.rn,aL]at C ⊢;exact⟨C,id⟩
 |.agg l,u,p,C=>by
  simp only[LP]at p;simp only[AV.rn,aL]at C ⊢;obtain⟨vs,e,h1,h2⟩:=C;obtain⟨V,S⟩:=PV Y h p h1;exact⟨⟨vs,e,V,S h2⟩,λh=>by simp[AV.one]at h⟩
 |.eY l,u,p,C=>by
  simp only[LP]at p;simp only[AV.rn,aL]at C ⊢;obtain⟨vs,e,h1,h2⟩:=C;obtain⟨V,S⟩:=PV Y h p h1;refine⟨⟨vs,e,V,?_⟩,λh=>by simp[AV.one]at h⟩;rw[(bJ.get V).1,<- (bJ.get h1).1];exact h2
def PV(Y:g1.G=g.G)(h:∀k,mem k us=true->g1.box (ψ k)=g.box k/\g1.room (ψ k)=g.room k):∀{l:L AV}{vs:L Value},sJ us l=true->bJ g l vs->bJ g1 (LM ψ l) vs/\(l.all AV.one=true->(LM ψ l).all AV.one=true)
 |[],vs,_,C=>by simp only[LM,bJ]at C ⊢;exact⟨C,id⟩
 |a::l,vs,p,C=>by
  simp only[sJ]at p;obtain⟨H,W⟩:=ej p;simp only[LM,bJ]at C ⊢;obtain⟨u,us',e,h1,h2⟩:=C;obtain⟨V,S⟩:=WH Y h H h1;obtain⟨K,q⟩:=PV Y h W h2;refine⟨⟨u,us',e,V,K⟩,λO=>?_⟩;simp only[aeL,aai]at O ⊢;exact⟨S O.1,q O.2⟩
end
def Nj{w:World}{b:Nat}(Y:g1.G=g.G)(h:∀k,mem k us=true->g1.box (ψ k)=g.box k/\g1.room (ψ k)=g.room k):∀{l:L AV}{o:Nat},sJ us l=true->cB w g b o l->cB w g1 b o (LM ψ l)
 |[],_,_,_=>trivial
 |a::l,o,ho,⟨⟨u,W,H,p⟩,c4,c5⟩=>by
  simp only[sJ]at ho;obtain⟨S,V⟩:=ej ho;obtain⟨I,q⟩:=WH Y h S H;exact⟨⟨u,W,I,q p⟩,c4,Nj Y h V c5⟩
end
def kD{α:Type}:L Nat->L (Nat×α)->L (Nat×α)
 |[],l=>l
 |k::ks,l=>DE k (kD ks l)
def su{α:Type}{j:Nat}:∀{ks:L Nat}{l:L (Nat×α)},an j (kD ks l)=if j∈ks then none else an j l
 |[],l=>by simp[kD]
 |k::ks,l=>by
  simp only[kD,kT,su (ks:=ks)];by_cases h:j=k
  ·simp[h]
  ·simp[h]
def A6{α:Type}{j:Nat}:∀{a b:L (Nat×α)},an j (a++b)=match an j a with
  |some v=>some v
  |none=>an j b
 |[],b=>rfl
 |(k,v)::a,b=>by
  simp only[adU,ai,A6 (a:=a)];split<;>rfl
def Nk(ks:L Nat)(nb:L (Nat×L AV))(Y:L Nat)(σ:St):St:=⟨nb++kD ks σ.boxes,σ.toks,Y++σ.used⟩
def qc(ks:L Nat)(nb:L (Nat×L AV))(Y:L Nat):iA (Nk ks nb Y) ⟨[],ks++nb.map (·.1)++Y⟩ where
 out:=λσ k D=>by
  simp only[adT,not_or]at D;refine⟨?_,Z,?_⟩
  ·simp only[Nk,A6,qv D.1.2,su,if_neg D.1.1]
  ·simp only[Nk,adT];exact⟨λh=>h.resolve_left D.2,.inr⟩
 same:=λσ W h k D=>by
  obtain⟨h1,h2,V⟩:=h k (.inr D);refine⟨?_,h2,?_⟩
  ·simp only[Nk,A6,su,h1]
  ·simp only[Nk,adT,V]
structure ZW(bs:List (Nat×List AV))(us:List Nat)(bi bo:List (Nat×List AV))(bx po:List (Nat×Nat))(ψ:Nat->Nat)(nb:List (Nat×List AV)):Prop where
 d2:distinct (bx.map (·.2))=true
 keys:∀k kk,an k bx=some kk->k∈bi.map (·.1)/\∃cs,an kk bs=some cs
 cells:∀ts k cs,an k bi=some cs->∃old oc,an k bx=some old/\an old bs=some oc/\eF ⟨λk=>an k bx,λ_=>none⟩ ts cs oc
 nb:∀ck cs',an ck nb=some cs'->∃ok cs,an ck po=some ok/\an ok bo=some cs/\cs'=LM ψ cs
 psi:∀ck ok,an ck po=some ok->ψ ok=ck
 outs:∀k,mem k (bo.map (·.1))=true->∃ck,an ck po=some k
 kept:∀ck ok,an ck po=some ok->(1000000<=ok/\an ok bx=some ck/\an ok bo≠none)\/(ck ∉ us/\ck<1000000)
 names:∀ok cs,an ok bo=some cs->sJ (bo.map (·.1)) cs=true
def adS{w w':World}{g g':Gh}{σ:St}(N:Inv w g σ){bi q:L (Nat×L AV)}{bx po:L (Nat×Nat)}{ψ:Nat->Nat}{nb:L (Nat×L AV)}
  (C:ZW σ.boxes σ.used bi q bx po ψ nb)(p:Inv w' g' (A5 q))(D:iK w (g.fV ⟨λk=>an k bx,λ_=>none⟩) (A5 bi) w' g' (A5 q)) :
  let g1:Gh:=⟨g'.G,λk=>match an k po with|some ok=>g'.box ok|none=>g.box k,g.tok,λk=>match an k po with|some ok=>g'.room ok|none=>g.room k⟩
  let Lj:=Nk (bx.map (·.2)) nb (po.map (·.1)) σ
  Inv w' g1 Lj/\iK w g σ w' g1 Lj/\g.le g1/\∀k,mem k (q.map (·.1))=true->g1.box (ψ k)=g'.box k/\g1.room (ψ k)=g'.room k:=by
 intro g1 Lj;have agt:∀k b,(g.fV ⟨λk=>an k bx,λ_=>none⟩).box k=some b->∃J,an k bx=some J/\g.box J=some b:=by
  intro k b e;simp only[Gh.fV]at e;split at e
  ·rename_i J hkk;exact⟨J,hkk,e⟩
  ·simp at e
 have hrG:(g.fV ⟨λk=>an k bx,λ_=>none⟩).G=g.G:=rfl;have own:∀b o,jt (g.fV ⟨λk=>an k bx,λ_=>none⟩) (A5 bi) b o->∃J H,J∈bx.map (·.2)/\an J σ.boxes=some H/\g.box J=some b:=by
  rintro b o (⟨k,cs,I,W⟩|⟨k,n,lo,hi,I,_⟩)
  ·obtain⟨J,P,f2⟩:=agt k b W;obtain⟨_,H,f3⟩:=C.keys k J P;exact⟨J,H,List.mem_map.2 ⟨_,dW P,Z⟩,f3,f2⟩
  ·simp[A5,an]at I
 have IK:∀b o,jt (g.fV ⟨λk=>an k bx,λ_=>none⟩) (A5 bi) b o->jt g σ b o:=by
  intro b o h;obtain⟨J,H,_,I,W⟩:=own b o h;exact .inl ⟨J,H,I,W⟩
 have abE:∀k ok cs,an k po=some ok->an k σ.boxes=some cs->k∈bx.map (·.2):=by
  intro k ok cs I W;rcases C.kept k ok I with ⟨_,h,_⟩|⟨h,_⟩
  ·exact List.mem_map.2 ⟨_,dW h,Z⟩
  ·obtain⟨b,Q,_⟩:=N.box k cs W;exact absurd (N.used k (.inl (by rw[Q];simp))) h
 have xg:∀k cs,an k Lj.boxes=some cs->(∃ok V,an k po=some ok/\an ok q=some V/\cs=LM ψ V)\/(an k po=none/\k ∉ bx.map (·.2)/\an k σ.boxes=some cs):=by
  intro k cs e;simp only[Lj,Nk,A6]at e;cases hn:an k nb with
  |some v =>
   rw[hn]at e;simp at e;subst e;exact .inl (C.nb k v hn)
  |none =>
   rw[hn]at e;simp only[su]at e;split at e
   ·simp at e
   ·rename_i hns;refine .inr ⟨?_,hns,e⟩;cases hp:an k po with
    |none=>rfl
    |some ok=>exact absurd (abE k ok cs hp e) hns
 have hψ:∀k,mem k (q.map (·.1))=true->g1.box (ψ k)=g'.box k/\g1.room (ψ k)=g'.room k:=by
  intro k hkk;obtain⟨ck,h1⟩:=C.outs k hkk;have h2:=C.psi ck k h1;subst h2;simp only[g1,h1,and_self]
 have Wz:∀k cs b,k ∉ bx.map (·.2)->an k σ.boxes=some cs->g.box k=some b->∀o,¬jt (g.fV ⟨λk=>an k bx,λ_=>none⟩) (A5 bi) b o:=by
  intro k cs b I W Q o ho;obtain⟨J,H,P,f2,f3⟩:=own b o ho;have:=N.gk k J cs H b W f2 Q f3;subst this;exact I P
 have Wn:∀k ok,an k po=some ok->(∃b,g.box k=some b)->g'.box ok=g.box k/\g'.room ok=g.room k:=by
  intro k ok e ⟨b,Q⟩;rcases C.kept k ok e with ⟨h1,h2,U⟩|⟨h1,_⟩
  ·obtain⟨_,h4,h5⟩:=D.ids ok h1 (by simpa[A5]using U);simp only[Gh.fV,h2]at h4 h5;exact⟨h4,h5⟩
  ·exact absurd (N.used k (.inl (by rw[Q];simp))) h1
 have hle:g.le g1:=by
  refine⟨λb o v h=>D.le b o v h,λk b h=>?_,λk b h=>?_,λk hw gK h=>⟨hw,gK,h,aaj _,λ_=>rfl⟩⟩
  ·simp only[g1];split
   ·rename_i ok e;rw[(Wn k ok e ⟨b,h⟩).1];exact h
   ·exact h
  ·simp only[g1];split
   ·rename_i ok e;exact(Wn k ok e ⟨b,h⟩).2
   ·rfl
 have T:∀b o,b<w.heap.size->¬jt (g.fV ⟨λk=>an k bx,λ_=>none⟩) (A5 bi) b o->g.G b o=none->g'.G b o=none:=by
  intro b o Q Y h;cases hg:g'.G b o with
  |none=>rfl
  |some v =>
   rcases D.new b o v hg with S|S|S
   ·rw[hrG,h]at S;simp at S
   ·omega
   ·exact absurd S Y
 have abC:∀k n b lo hi,an k σ.toks=some n->g.tok k=some (n,some (b,lo,hi))->∀o,¬jt (g.fV ⟨λk=>an k bx,λ_=>none⟩) (A5 bi) b o:=by
  intro k n b lo hi e I o ho;obtain⟨gK,P,f2⟩:=N.tok k n e;rw[I]at P;simp at P;subst P;obtain⟨J,H,_,W,e3⟩:=own b o ho;exact(f2 b lo hi Z).2.2 J H W e3
 have O:∀ok V b,an ok q=some V->g'.box ok=some b->w.heap.size<=b\/∃J H,J∈bx.map (·.2)/\an J σ.boxes=some H/\g.box J=some b:=by
  intro ok V b I W;rcases D.boxes ok V b (by simpa[A5]using I) W with h|⟨k0,cs0,h1,h2⟩
  ·exact .inl h
  ·exact .inr (own b 0 (.inl ⟨k0,cs0,h1,h2⟩))
 have Z9:∀k cs b,an k σ.boxes=some cs->g.box k=some b->b<w.heap.size/\(∀o,g.G b o=none)/\cB w g b 0 cs:=by
  intro k cs b e Q;obtain⟨b',P,f2,f3,f4⟩:=N.box k cs e;rw[Q]at P;cases P;exact⟨f2,f3,f4⟩
 have aaa:∀k cs ok V b b',k ∉ bx.map (·.2)->an k σ.boxes=some cs->g.box k=some b->an ok q=some V->g'.box ok=some b'->b≠b':=by
  rintro k cs ok V b b' I W e3 e4 e5 rfl;rcases O ok V b e4 e5 with h|⟨J,H,h1,h2,U⟩
  ·have:=(Z9 k cs b W e3).1;omega
  ·have:=N.gk k J cs H b W h2 e3 U;subst this;exact I h1
 refine⟨⟨p.pQ,?_,?_,?_,?_,?_,?_⟩,⟨D.os,D.tape,D.output,D.size,λb Q Y=>D.block b Q (λo ho=>Y o (IK b o ho)),λb o Q Y=>D.kept b o Q (λho=>Y (IK b o ho)),hle.1,?_,?_,?_,?_⟩,hle,hψ⟩
 ·intro k cs e;rcases xg k cs e with ⟨ok,V,I,W,rfl⟩|⟨B,I,W⟩
  ·obtain⟨b,P,f2,f3,f4⟩:=p.box ok V (by simpa[A5]using W);exact⟨b,by simp only[g1,I];exact P,f2,f3,Nj (g:=g') (g1:=g1) (us:=q.map (·.1)) (show g'.G=g'.G from Z) hψ (C.names ok V W) f4⟩
  ·obtain⟨b,b1,b2,b3,b4⟩:=N.box k cs W;have Y:=Wz k cs b I W b1;exact⟨b,by simp only[g1,B];exact b1,afc b2 D.size,λo=>T b o b2 (Y o) (b3 o),(cB.of_same (λo=>D.kept b o b2 (Y o)) b4).mono hle⟩
 ·intro k k' cs H b e e' f f';simp only[g1]at f f';rcases xg k cs e with ⟨ok,V,I,W,_⟩|⟨B,I,W⟩
  ·rw[I]at f;rcases xg k' H e' with ⟨M,WI,A,K,_⟩|⟨E,A,K⟩
   ·rw[A]at f';have:=p.gk ok M V WI b (by simpa[A5]using W) (by simpa[A5]using K) f f';subst this;rw[<- C.psi k ok I,<- C.psi k' ok A]
   ·rw[E]at f';exact absurd Z (aaa k' H ok V b b A K f' W f)
  ·rw[B]at f;rcases xg k' H e' with ⟨M,WI,A,K,_⟩|⟨E,A,K⟩
   ·rw[A]at f';exact absurd Z (aaa k cs M WI b b I W f K f')
   ·rw[E]at f';exact N.gk k k' cs H b W K f f'
 ·intro k n e;obtain⟨gK,h1,h2⟩:=N.tok k n e;refine⟨gK,h1,λb lo hi hr=>?_⟩;obtain⟨U,h4,h5⟩:=h2 b lo hi hr;subst hr;refine⟨afc U D.size,λo MW PB=>?_,λk' cs e' f'=>?_⟩
  ·obtain⟨h6,⟨u,h7⟩,h8⟩:=h4 o MW PB;have Y:=abC k n b lo hi e h1 o;exact⟨T b o U Y h6,⟨u,(D.kept b o U Y).1.trans h7⟩,(D.kept b o U Y).2.trans h8⟩
  ·simp only[g1]at f';rcases xg k' cs e' with ⟨M,WI,A,K,_⟩|⟨E,A,K⟩
   ·rw[A]at f';rcases O M WI b K f' with h|⟨J,H,g1',g2',g3'⟩
    ·omega
    ·exact h5 J H g2' g3'
   ·rw[E]at f';exact h5 k' cs K f'
 ·exact N.iu
 ·intro k e;show k∈po.map (·.1)++σ.used;simp only[g1]at e;rw[adT];cases hp:an k po with
  |some ok=>exact .inl (List.mem_map.2 ⟨_,dW hp,Z⟩)
  |none =>
   rw[hp]at e;exact .inr (N.used k e)
 ·intro k cs b e f o;simp only[g1]at f ⊢;rcases xg k cs e with ⟨ok,V,I,W,_⟩|⟨B,I,W⟩
  ·rw[I]at f ⊢;exact p.room ok V b (by simpa[A5]using W) f o
  ·rw[B]at f ⊢;have Y:=Wz k cs b I W f o;have b2:=(Z9 k cs b W f).1;obtain⟨q1,q2⟩:=N.room k cs b W f o;exact⟨λho=>(q1 ho).imp λu hu=>(D.kept b o b2 Y).1.trans hu,(D.kept b o b2 Y).2.trans q2⟩
 ·intro b o v h;rcases D.new b o v h with S|S|S
  ·exact .inl S
  ·exact .inr (.inl S)
  ·exact .inr (.inr (IK b o S))
 ·intro k cs b e f;simp only[g1]at f;rcases xg k cs e with ⟨ok,V,I,W,_⟩|⟨B,I,W⟩
  ·rw[I]at f;rcases O ok V b W f with h|⟨J,H,h1,h2,U⟩
   ·exact .inl h
   ·exact .inr ⟨J,H,h2,U⟩
  ·rw[B]at f;exact .inr ⟨k,cs,W,f⟩
 ·intro k n b lo hi e I;exact .inr ⟨k,n,lo,hi,e,I,aaj _,aaj _⟩
 ·intro k yO e;cases hc:an k Lj.boxes with
  |none=>exact absurd hc e
  |some cs =>
   rcases xg k cs hc with ⟨ok,V,I,W,_⟩|⟨B,I,W⟩
   ·rcases C.kept k ok I with ⟨h1,h2,U⟩|⟨_,h2⟩
    ·obtain⟨_,H,h4⟩:=C.keys ok k h2;obtain⟨b,Q,_⟩:=N.box k H h4;obtain⟨q1,q2⟩:=Wn k ok I ⟨b,Q⟩;exact⟨by rw[h4];simp,by simp only[g1,I];exact q1,by simp only[g1,I];exact q2⟩
    ·omega
   ·exact⟨by rw[W];simp,by simp only[g1,B],by simp only[g1,B]⟩
section
variable {P : Program}{X : Ctx}
def bU.At{o:Oper}{env:Env}{σ:St}{f:FuncId}{args:Array Operand}{K:Array TypeId}(p:o.op = .call {callee := .value (.func f),args:=args,argTypes:=K})
  {l:L AV}(B:gE (aK X env) args.toList=some l){T M:L (Nat×L AV)}{H:L AV}{r:AV}(hq:cP P X f T H r M){bx po:L (Nat×Nat)}{ψ:Nat->Nat}{nb:L (Nat×L AV)}
  (q:∀ts,eF ⟨λk=>an k bx,λ_=>none⟩ ts H l)(C:∀bs us,(∀k∈bx.map (·.2),an k bs=an k σ.boxes)->(∀k∈po.map (·.1),k∈us↔k∈σ.used)->ZW bs us T M bx po ψ nb)(hr:LP (M.map (·.1)) r=true) :
  bU P X o env σ (r.rn ψ) (Nk (bx.map (·.2)) nb (po.map (·.1))) ⟨[],bx.map (·.2)++nb.map (·.1)++po.map (·.1)⟩:=by
 intro dz Y w g a next Q h1 h2 N G dH S;have U:=C Y.boxes Y.used (λk D=>(h2 k (.inr (by simp only[adT];exact .inl (.inl D)))).1) (λk D=>(h2 k (.inr (by simp only[adT];exact .inr D))).2.2);have ru:∀x∈args.toList,x∈o.op.operands.toList:=by
  intro x W;rw[p];simp only[Op.operands,Call.operands,aeP,adT];exact .inr W
 have yI:gE (aK X dz) args.toList=some l:=by
  rw[uZ _ (λx W=>h1 x (ru x W))];exact B
 have gL:=Ce (g:=g) (ev:=a.eval) (λx v W=>cy dH G W) yI;have V:(execOp a.eval o).run P w = .ok (.enter f (args.map a.eval)) w:=by
  obtain⟨dst,op,E,pos,J,guard⟩:=o;simp only at p;subst p;simp[execOp,resolve,Deferred.ofValue,invoke,Act.eval,hq.1 _ w]
 unfold Oper.wp;rw[V,Oper.upon_enter]
 have I:=(N.fV ⟨λk=>an k bx,λ_=>none⟩ (A5 T) (λk cs e=>by
   obtain⟨O,oc,e1,e2,e3⟩:=U.cells Y.toks k cs e;exact⟨O,oc,e1,e2,e3⟩) (λk k' O e e'=>nQ U.d2 (dW e) (dW e')) (λk n e=>by simp[A5,an]at e) (λk k' m m' O e=>by simp at e) (λk e=>by
   simp only[ne_eq,ahB,ahk]at e;cases A:an k bx with
   |none=>exact absurd A e
   |some kk=>exact(U.keys k kk A).1)).1
 have:=hq.2 (g.fV ⟨λk=>an k bx,λ_=>none⟩) w (args.toList.map a.eval) I G (xd (pE N) (q Y.toks) gL).1;rw[show(args.toList.map a.eval).toArray=args.map a.eval from by rw[<- aeY]]at this;refine this.mono ?_;rintro e w' ⟨u,g',rfl,h3,h4,h5⟩;obtain⟨k1,k2,k3,k4⟩:=adS N U h4 h5;refine S u w' _ ?_ k1 k2 k3;exact(WH (g:=g') (us:=M.map (·.1)) RA k4 hr h3).1
end
end Go.cK
namespace Go.cK
def cP.of{P:Program}{X:Ctx}{f:FuncId}{S:Func}{c:Code}{Y M:L (Nat×L AV)}{J:L AV}{r:AV}(hf:P.funcs[f]?=some S)(Q:S.body=some c)(B:Enters P f)
  (A:J.length<=S.ntmps)(env:Env)(σ:St)(D:env=(J.zipIdx.map λ(v,i)=>(i,v)))(O:A5 Y=σ)
  (h:∀β,AK P X f S.ntmps β (HR β r M) [.code c] env σ):cP P X f Y J r M:=by
 subst O;refine⟨B,λg w vs N V q cs=>?_⟩;have W:=(bJ.get q).1;have U:Live X ⟨w,g,A5 Y⟩ S.ntmps env (A5 Y) g w {tmps:=vs.toArray++Array.replicate (S.ntmps-vs.toArray.size) undef,defers:=[]}:=by
  refine⟨N,V,?_,iK.refl _ _ _,?_,Z⟩
  ·intro t a e;subst D;have p:∀(l:L AV)(us:L Value)(k:Nat),bJ g l us->an t ((l.zipIdx k).map λ(v,i)=>(i,v))=some a->k<=t/\∃u,us[t-k]?=some u/\aL g a u:=by
    intro l
    induction l with
    |nil=>intro us k _ e;simp[an]at e
    |cons v l ih =>
     intro us k I e;simp only[bJ]at I;obtain⟨u,us,rfl,h1,h2⟩:=I;simp only[afx,aed,ai]at e;split at e
     ·simp_all
     ·grind
   obtain⟨_,u,T,K⟩:=p J vs 0 q e;simp at T;have C:t<vs.length:=(List.getElem?_eq_some_iff.1 T).1;have:(vs.toArray++Array.replicate (S.ntmps-vs.toArray.size) undef).getD t undef=u:=by
    rw[aeW,aeK acR];simp[T]
   rw[this];exact K
  ·simp;omega
 obtain⟨e,w',H,h1,T,K,G⟩:=h ⟨w,g,A5 Y⟩ g w _ cs U;have E:Frame.enter P f vs.toArray .normal =
   (top f).at {tmps:=vs.toArray++Array.replicate (S.ntmps-vs.toArray.size) undef,defers:=[]} [.code c]:=by
  simp[Frame.enter,Frame.at,hf,Q,top]
 exact⟨_,w',H,h1,by rw[E];exact T,K,G⟩
def yK:L AV->AV
 |[] => .c .undef
 |[x]=>x
 |l => .eY l
def tr(bx:L (Nat×Nat))(ks:L Nat):Bool:=both (distinct (bx.map (·.2))) (both (IF bx) (FG ks (gN bx)))
section
variable {P : Program}{X : Ctx}{f : FuncId}{n : Nat}{β : jZ}{K : L Item}{env : Env}
def AK.FR(H:(∃Q,K = .code .ret::Q)\/K=[])(hX:cF P X){T:Func}(hf:P.funcs[f]?=some T){bs:L (Nat×L AV)}{ts:L (Nat×Nat)}{us:L Nat}{l:L AV}(C:qF X bs env T.results.toList=some l)(bx:L (Nat×Nat)){r:AV}{M:L (Nat×L AV)}
  (A:tr bx (gN M)=true)(W:Conv ⟨λk=>an k bx,λ_=>none⟩ ts r (Go.cK.yK l))(V:ID ⟨λk=>an k bx,λ_=>none⟩ ts bs M):AK P X f n β (HR β r M) K env ⟨bs,ts,us⟩:=by
 intro g w a cs Y;unfold tr at A;obtain⟨G,A⟩:=ej A;obtain⟨E,p⟩:=ej A;rw[mg]at p;obtain⟨u,N,S⟩:=qg hX Y C;obtain⟨J,I⟩:=Y.inv.fV ⟨λk=>an k bx,λ_=>none⟩ (A5 M) (λk cells e=>tZ V k cells e) (λk k' O D q=>nQ G (dW D) (dW q))
  (λk n e=>by simp[A5,an]at e) (λk k' m m' O e=>by simp at e) (λk e=>by
   simp only[ne_eq,ahB,ahk]at e;have:=tY p k (by rw[mg];exact oH e)
   exact this)
 suffices U:aL (g.fV ⟨λk=>an k bx,λ_=>none⟩) r u/\∀k,1000000<=k->an k (A5 M).boxes≠none->an k bx=some k by
  rcases H with ⟨Q,rfl⟩|rfl
  ·exact⟨.returned u,w,_,⟨u,_,Z,U.1,J,Y.frame.trans (I U.2)⟩,.one step_ret,Z,Z,Y.defers,Z,T,hf,N⟩
  ·exact⟨.returned u,w,_,⟨u,_,Z,U.1,J,Y.frame.trans (I U.2)⟩,.one step_end,Z,Z,Y.defers,Z,T,hf,N⟩
 refine⟨?_,λk B e=>?_⟩
 ·refine(sn (pE Y.inv) W ?_).1;clear W
  match l,C,S with
  |[],_,S=>simp only[Go.cK.yK,aL,Rel];exact S
  |[x],_,S=>exact S
  |x::y::r,_,S=>exact S
 ·cases A:an k (A5 M).boxes with
  |none=>exact absurd A e
  |some c =>
   obtain⟨O,oc,q1,q2,_⟩:=tZ V k c A;have:=yg E k O B q1;subst this;exact q1
def AK.yK(hX:cF P X){S:Func}(hf:P.funcs[f]?=some S){bs:L (Nat×L AV)}{ts:L (Nat×Nat)}{us:L Nat}{l:L AV}(C:qF X bs env S.results.toList=some l)(bx:L (Nat×Nat)){r:AV}{M:L (Nat×L AV)}
  (A:tr bx (gN M)=true)(Y:Conv ⟨λk=>an k bx,λ_=>none⟩ ts r (Go.cK.yK l))(W:ID ⟨λk=>an k bx,λ_=>none⟩ ts bs M):AK P X f n β (HR β r M) (.code .ret::K) env ⟨bs,ts,us⟩ :=
 AK.FR (.inl ⟨_,Z⟩) hX hf C bx A Y W
end
structure MC(c:Nat->Nat->List AV):Prop where
 conv:∀(ρ:Ren)(ts:List (Nat×Nat))(a b a' b':Nat),ρ.bx a=some a'->ρ.bx b=some b'->eF ρ ts (c a b) (c a' b')
 rn:∀(ψ:Nat->Nat)(a b:Nat),LM ψ (c a b)=c (ψ a) (ψ b)
 ok:∀(us:List Nat)(a b:Nat),mem a us=true->mem b us=true->sJ us (c a b)=true
abbrev mI(c:Nat->Nat->L AV)(s f:L CV):L (Nat×L AV):=[(1000000,c 1000001 1000002),(1000001,s.map AV.c),(1000002,f.map AV.c)]
abbrev mO(c:Nat->Nat->L AV)(s f:L CV):L (Nat×L AV):=[(1000000,c 999991 999992),(999991,s.map AV.c),(999992,f.map AV.c)]
abbrev mI1(c:Nat->Nat->L AV)(f:L CV):L (Nat×L AV):=[(1000000,c 0 1000002),(1000002,f.map AV.c)]
abbrev mO1(c:Nat->Nat->L AV)(f:L CV):L (Nat×L AV):=[(1000000,c 0 999992),(999992,f.map AV.c)]
def Du(km U a2:Nat)(k:Nat):Nat:=match Nat.beq k 1000000 with
 |true=>km
 |false=>match Nat.beq k 999991 with
  |true=>U
  |false=>match Nat.beq k 999992 with
   |true=>a2
   |false=>k
def xh(us:L Nat)(km N fk U a2:Nat):Bool :=
 both (distinct [km,N,fk]) (both (distinct [km,U,a2]) (both (match mem U us with|true=>false|false=>true) (both (match mem a2 us with|true=>false|false=>true) (both (Nat.blt U 1000000) (Nat.blt a2 1000000)))))
def yj(us:L Nat)(km fk a2:Nat):Bool:=both (distinct [km,fk]) (both (distinct [km,a2]) (both (match mem a2 us with|true=>false|false=>true) (Nat.blt a2 1000000)))
def Cl{a b c:Nat}(h:distinct [a,b,c]=true):a≠b/\a≠c/\b≠c:=by
 simp only[distinct]at h;split at h
 ·simp at h
 ·rename_i h1;split at h
  ·simp at h
  ·rename_i h2;have V:=cY h1;have S:=cY h2;simp at V S;exact⟨V.1,V.2,S⟩
def agv{bs:L (Nat×L AV)}{us:L Nat}{c c':Nat->Nat->L AV}(S:MC c)(q:MC c'){s f Q f':L CV}{km N fk U a2:Nat}(A:xh us km N fk U a2=true)
  (h1:an km bs=some (c N fk))(h2:an N bs=some (s.map AV.c))(P:an fk bs=some (f.map AV.c)) :
  ZW bs us (mI c s f) (mO c' Q f') [(1000000,km),(1000001,N),(1000002,fk)] [(km,1000000),(U,999991),(a2,999992)] (Du km U a2) [(km,c' U a2),(U,Q.map AV.c),(a2,f'.map AV.c)]:=by
 unfold xh at A;obtain⟨O,A⟩:=ej A;obtain⟨M,A⟩:=ej A;obtain⟨E,A⟩:=ej A;obtain⟨p,A⟩:=ej A;obtain⟨B,J⟩:=ej A;have W:mem U us=false:=by split at E<;>simp_all
 have V:mem a2 us=false:=by split at p<;>simp_all
 obtain⟨T,D,n3⟩:=Cl M;refine⟨O,?_,?_,?_,?_,?_,?_,?_⟩
 ·intro k u e;simp only[ai]at e;split at e
  ·simp_all
  ·split at e
   ·simp_all
   ·split at e
    ·simp_all
    ·simp[an]at e
 ·intro ts k cs e;simp only[ai]at e;split at e
  ·simp at e;subst_vars;exact⟨km,_,fe,h1,S.conv _ _ _ _ _ _ fe fe⟩
  ·split at e
   ·simp at e;subst_vars;exact⟨N,_,fe,h2,cN _⟩
   ·split at e
    ·simp at e;subst_vars;exact⟨fk,_,fe,P,cN _⟩
    ·simp[an]at e
 ·intro K H e;simp only[ai]at e;split at e
  ·simp at e;subst_vars;exact⟨1000000,c' 999991 999992,fe,fe,by rw[q.rn];rfl⟩
  ·split at e
   ·simp at e;subst_vars;exact⟨999991,Q.map AV.c,by simp[ai,Ne.symm T],fe,acT⟩
   ·split at e
    ·simp at e;subst_vars;exact⟨999992,f'.map AV.c,Vj,fe,acT⟩
    ·simp[an]at e
 ·intro K ok e;simp only[ai]at e;split at e
  ·simp at e;subst_vars;rfl
  ·split at e
   ·simp at e;subst_vars;rfl
   ·split at e
    ·simp at e;subst_vars;rfl
    ·simp[an]at e
 ·intro k I;have Y:=mem_iff.1 I;simp at Y;rcases Y with rfl|rfl|rfl
  ·exact⟨km,fe⟩
  ·exact⟨U,by simp[ai,Ne.symm T]⟩
  ·exact⟨a2,Vj⟩
 ·intro K ok e;simp only[ai]at e;split at e
  ·simp at e;subst_vars;exact .inl ⟨aaj _,fe,fe⟩
  ·split at e
   ·simp at e;subst_vars;exact .inr ⟨cY W,Nat.blt_eq.mp B⟩
   ·split at e
    ·simp at e;subst_vars;exact .inr ⟨cY V,Nat.blt_eq.mp J⟩
    ·simp[an]at e
 ·intro ok cs e;simp only[ai]at e;split at e
  ·simp at e;subst_vars;exact q.ok _ _ _ Z Z
  ·split at e
   ·simp at e;subst_vars;exact sK _ _
   ·split at e
    ·simp at e;subst_vars;exact sK _ _
    ·simp[an]at e
def adV{bs:L (Nat×L AV)}{us:L Nat}{c c':Nat->Nat->L AV}(M:MC c)(N:MC c')(B:∀ρ ts b O,ρ.bx b=some O->eF ρ ts (c 0 b) (c 0 O))(W:∀us b,mem b us=true->sJ us (c' 0 b)=true)(D:∀a b,c' a b=c' 0 b){f f':L CV}{km fk a2:Nat}(A:yj us km fk a2=true)
  (h1:an km bs=some (c 0 fk))(T:an fk bs=some (f.map AV.c)) :
  ZW bs us (mI1 c f) (mO1 c' f') [(1000000,km),(1000002,fk)] [(km,1000000),(a2,999992)] (Du km (a2+1) a2) [(km,c' 0 a2),(a2,f'.map AV.c)]:=by
 unfold yj at A;obtain⟨S,A⟩:=ej A;obtain⟨V,A⟩:=ej A;obtain⟨p,Q⟩:=ej A;have U:mem a2 us=false:=by split at p<;>simp_all
 have q:km≠a2:=by
  simp only[distinct]at V;split at V
  ·simp at V
  ·rename_i h;have:=cY h;simp at this;exact this
 refine⟨S,?_,?_,?_,?_,?_,?_,?_⟩
 ·intro k u e;simp only[ai]at e;split at e
  ·simp_all
  ·split at e
   ·simp_all
   ·simp[an]at e
 ·intro ts k cs e;simp only[ai]at e;split at e
  ·simp at e;subst_vars;exact⟨km,_,fe,h1,B _ _ _ _ fe⟩
  ·split at e
   ·simp at e;subst_vars;exact⟨fk,_,fe,T,cN _⟩
   ·simp[an]at e
 ·intro K H e;simp only[ai]at e;split at e
  ·simp at e;subst_vars;exact⟨1000000,c' 0 999992,fe,fe,by rw[N.rn,D];rfl⟩
  ·split at e
   ·simp at e;subst_vars;exact⟨999992,f'.map AV.c,Wh,fe,acT⟩
   ·simp[an]at e
 ·intro K ok e;simp only[ai]at e;split at e
  ·simp at e;subst_vars;rfl
  ·split at e
   ·simp at e;subst_vars;rfl
   ·simp[an]at e
 ·intro k P;have Y:=mem_iff.1 P;simp at Y;rcases Y with rfl|rfl
  ·exact⟨km,fe⟩
  ·exact⟨a2,Wh⟩
 ·intro K ok e;simp only[ai]at e;split at e
  ·simp at e;subst_vars;exact .inl ⟨aaj _,fe,fe⟩
  ·split at e
   ·simp at e;subst_vars;exact .inr ⟨cY U,Nat.blt_eq.mp Q⟩
   ·simp[an]at e
 ·intro ok cs e;simp only[ai]at e;split at e
  ·simp at e;subst_vars;exact W _ _ Z
  ·split at e
   ·simp at e;subst_vars;exact sK _ _
   ·simp[an]at e
section
variable {P : Program}{X : Ctx}{ops : Array Oper}{o : Oper}{rest : L Oper}{env : Env}{acc : L Fp}{Q : Env -> St -> L Fp -> Prop}{bs : L (Nat × L AV)}{ts : L (Nat × Nat)}{us : L Nat}
def iX{bs bs':L (Nat×L AV)}{ks:L Nat}(h:∀k∈ks,an k bs'=an k bs){k:Nat}(D:k∈ks){v:L AV}(e:an k bs=some v):an k bs'=some v:=by rw[h k D];exact e
def TF{us us':L Nat}{km N fk U a2:Nat}(h:∀k∈[km,U,a2],k∈us'↔k∈us)(e:xh us km N fk U a2=true):xh us' km N fk U a2=true:=by
 have C:∀k∈[km,U,a2],mem k us'=mem k us:=by
  intro k D;rw[aeV,mem_iff,mem_iff];exact h k D
 unfold xh at e ⊢;rw[C U cS,C a2 cS];exact e
def af.adW(kn:L Nat)(S:dj ops.toList kn env o=some true){f:FuncId}{args:Array Operand}{K:Array TypeId}(O:o.op = .call {callee := .value (.func f),args:=args,argTypes:=K})
  {c c':Nat->Nat->L AV}{s H W Y:L CV}{V:L AV}{r:AV}(hq:cP P X f (mI c s H) V r (mO c' W Y))(A:MC c)(q:MC c'){d:Nat}(u:o.dst=some d)
  {l:L AV}(E:gE (aK X env) args.toList=some l){km:Nat}{J:L AV}(I:l = .ptr km 0::J){N fk:Nat}{p U T:L AV}(h1:an km bs=some p)(D:p=c N fk)(h2:an N bs=some U)(B:U=s.map AV.c)(h3:an fk bs=some T)(e3:T=H.map AV.c)
  (oO:∀ts,eF ⟨λk=>an k [(1000000,km),(1000001,N),(1000002,fk)],λ_=>none⟩ ts V l)(jq:xh us km N fk (100000+d) (200000+d)=true)(hr:LP [1000000,999991,999992] r=true){C:AV}(M:r.rn (Du km (100000+d) (200000+d))=C)
  {bs':L (Nat×L AV)}(jG:kD [km,N,fk] bs=bs')
  (k:af P X ops rest ((d,C)::env) ⟨(km,c' (100000+d) (200000+d))::(100000+d,W.map AV.c)::(200000+d,Y.map AV.c)::bs',ts,km::(100000+d)::(200000+d)::us⟩ (⟨[],[km,N,fk,km,100000+d,200000+d,km,100000+d,200000+d]⟩::acc) Q):af P X ops (o::rest) env ⟨bs,ts,us⟩ acc Q:=by
 subst M jG D B e3;have hs:=bU.At (env:=env) (σ:=⟨bs,ts,us⟩) O E hq (bx:=[(1000000,km),(1000001,N),(1000002,fk)]) (po:=[(km,1000000),(100000+d,999991),(200000+d,999992)]) (ψ:=Du km (100000+d) (200000+d)) oO
  (λLN Jv G hu=>agv A q (TF hu jq) (iX G cS h1) (iX G cS h2) (iX G cS h3)) hr
 exact af.step (dB S) hs (qc _ _ _) acQ
def af.abF(kn:L Nat)(T:dj ops.toList kn env o=some true){f:FuncId}{args:Array Operand}{K:Array TypeId}(S:o.op = .call {callee := .value (.func f),args:=args,argTypes:=K})
  {c c':Nat->Nat->L AV}{H Y:L CV}{V:L AV}{r:AV}(hq:cP P X f (mI1 c H) V r (mO1 c' Y))(N:MC c)(q:MC c')(B:∀ρ ts b O,ρ.bx b=some O->eF ρ ts (c 0 b) (c 0 O))(W:∀us b,mem b us=true->sJ us (c' 0 b)=true)(D:∀a b,c' a b=c' 0 b){d:Nat}(u:o.dst=some d)
  {l:L AV}(E:gE (aK X env) args.toList=some l){km:Nat}{J:L AV}(I:l = .ptr km 0::J){fk:Nat}{p U:L AV}(h1:an km bs=some p)(e1:p=c 0 fk)(h3:an fk bs=some U)(e3:U=H.map AV.c)
  (oO:∀ts,eF ⟨λk=>an k [(1000000,km),(1000002,fk)],λ_=>none⟩ ts V l)(A:yj us km fk (200000+d)=true)(hr:LP [1000000,999992] r=true){C:AV}(M:r.rn (Du km (200000+d+1) (200000+d))=C)
  {bs':L (Nat×L AV)}(jG:kD [km,fk] bs=bs')
  (k:af P X ops rest ((d,C)::env) ⟨(km,c' 0 (200000+d))::(200000+d,Y.map AV.c)::bs',ts,km::(200000+d)::us⟩ (⟨[],[km,fk,km,200000+d,km,200000+d]⟩::acc) Q):af P X ops (o::rest) env ⟨bs,ts,us⟩ acc Q:=by
 subst M jG e1 e3;have hs:=bU.At (env:=env) (σ:=⟨bs,ts,us⟩) S E hq (bx:=[(1000000,km),(1000002,fk)]) (po:=[(km,1000000),(200000+d,999992)]) (ψ:=Du km (200000+d+1) (200000+d)) oO
  (λLN Jv G hu=>adV N q B W D (by
   have hm:mem (200000+d) Jv=mem (200000+d) us:=by
    rw[aeV,mem_iff,mem_iff];exact hu _ cS
   unfold yj at A ⊢
   rw[hm];exact A) (iX G cS h1) (iX G cS h3)) hr
 exact af.step (dB T) hs (qc _ _ _) acQ
end
end Go.cK
namespace Go.cK
def cB.head{w:World}{g:Gh}{b:Nat}:∀{cells tail:L AV}{o:Nat},cB w g b o (cells++tail)->cB w g b o cells
 |[],_,_,_=>trivial
 |_::_,_,_,⟨h1,h2,V⟩=>⟨h1,h2,cB.head V⟩
def RP{w:World}{g:Gh}{σ:St}(h:Inv w g σ){p:Nat}{cells cells':L AV}(D:an p σ.boxes=some cells)(A:∀b,g.box p=some b->cB w g b 0 cells->cB w g b 0 cells') :
  Inv w g ⟨vL p cells' σ.boxes,σ.toks,σ.used⟩/\iK w g σ w g ⟨vL p cells' σ.boxes,σ.toks,σ.used⟩:=by
 have G:∀k cs,an k (vL p cells' σ.boxes)=some cs->(k=p/\cs=cells')\/an k σ.boxes=some cs:=by
  intro k cs e;rw[eZ]at e;split at e
  ·simp_all
  ·exact .inr e
 have N:∀k cs,an k (vL p cells' σ.boxes)=some cs->∃B,an k σ.boxes=some B:=by grind
 refine⟨⟨h.pQ,?_,?_,?_,h.iu,h.used,?_⟩,⟨Z,Z,Z,aaj _,λ_ _ _=>rfl,λ_ _ _ _=>⟨Z,Z⟩,j8.le.refl _,λ_ _ _ h => .inl h,λk cs b h1 h2=>?_,
   λk n b H K h1 h2 => .inr ⟨k,n,H,K,h1,h2,aaj _,aaj _⟩,λk _ e=>?_⟩⟩
 ·intro k cs e;rcases G k cs e with ⟨rfl,rfl⟩|e'
  ·obtain⟨b,P,V,U,T⟩:=h.box k _ D;exact⟨b,P,V,U,A b P T⟩
  ·exact h.box k cs e'
 ·intro k k' cs Y b e e';obtain⟨O,q⟩:=N k cs e;obtain⟨W,S⟩:=N k' Y e';exact h.gk k k' O W b q S
 ·intro k n e;obtain⟨I,h1,h2⟩:=h.tok k n e;refine⟨I,h1,λb H K C=>?_⟩;obtain⟨Q,M,J⟩:=h2 b H K C;refine⟨Q,M,λk' cs e'=>?_⟩;obtain⟨O,q⟩:=N k' cs e';exact J k' O q
 ·intro k cs b e;obtain⟨O,q⟩:=N k cs e;exact h.room k O b q
 ·grind
 ·cases A:an k (vL p cells' σ.boxes)with
  |none=>exact absurd A e
  |some cs =>
   obtain⟨O,q⟩:=N k cs A;exact⟨by rw[q];simp,Z,Z⟩
section
variable {P : Program}{X : Ctx}{f : FuncId}{n : Nat}{β : jZ}{R : Ending -> World -> Prop}{K : L Item}{env : Env}
def AK.xj{bs:L (Nat×L AV)}{ts:L (Nat×Nat)}{us:L Nat}(p:Nat){cells:L AV}(cells' tail:L AV)(D:an p bs=some cells)(A:cells=cells'++tail){bs':L (Nat×L AV)}(Q:yU p cells' bs=some bs')
  (h:AK P X f n β R K env ⟨bs',ts,us⟩):AK P X f n β R K env ⟨bs,ts,us⟩:=by
 rw[tN]at Q;simp at Q;subst Q A;intro g w a cs Y;obtain⟨W,U⟩:=RP Y.inv (cells':=cells') D (λb _ A=>A.head);exact h g w a cs ⟨W,Y.tO,Y.env,Y.frame.trans U,Y.size,Y.defers⟩
def FU{w:World}{g:Gh}{b:Nat}{x y:AV}:∀{pre tail:L AV}{o:Nat},(∀u,aL g x u->aL g y u)->(x.one=true->y.one=true)->cB w g b o (pre++x::tail)->cB w g b o (pre++y::tail)
 |[],_,_,C,p,⟨⟨u,h1,h2,V⟩,h4,h5⟩=>⟨⟨u,h1,C u h2,p V⟩,h4,h5⟩
 |_::_,_,_,C,p,⟨h1,h2,V⟩=>⟨h1,h2,FU C p V⟩
def AK.empty{bs:L (Nat×L AV)}{ts:L (Nat×Nat)}{us:L Nat}(p W s:Nat)(pre tail:L AV){cells U:L AV}{T:Nat}(D:an p bs=some cells)(A:cells=pre ++ .own .exact T []::tail)(O:an W bs=some U)
  {bs':L (Nat×L AV)}(Q:yU p (pre ++ .gS W 0 s 0::tail) bs=some bs')(h:AK P X f n β R K env ⟨bs',ts,us⟩):AK P X f n β R K env ⟨bs,ts,us⟩:=by
 rw[tN]at Q;simp at Q;subst Q A;intro g w a cs Y;obtain⟨S,V,_⟩:=Y.inv.box W U O
 obtain⟨N,M⟩:=RP Y.inv (cells':=pre ++ .gS W 0 s 0::tail) D (λb _ A=>FU (λu E=>by
  simp only[aL,qN]at E ⊢;obtain⟨base,G,J,I,q,C,_,H⟩:=E;simp at q;subst q H
  exact⟨S,0,base,V,I,aaj _,cS,.inl Z⟩) (λ_=>rfl) A)
 exact h g w a cs ⟨N,Y.tO,Y.env,Y.frame.trans M,Y.size,Y.defers⟩
end
section
variable {P : Program}{X : Ctx}
def bU.D2(hX:cF P X){o:Oper}{env:Env}{σ:St}{t:TypeId}{x:Operand}{H T:Option Operand}(K:o.op = .slice t x none H T){i j:TI}{e:Nat}(D:X.ti t=some i)(C:i.kind = .slice e)(B:X.ti e=some j)
  {p off s n:Nat}(ha:aK X env x=some (.gS p off s n))(hs:j.size=s){h:Nat}(u:bound (aK X env) H=some (some h))(hm:bound (aK X env) T=some (some h))(h1:h<=n) :
  bU P X o env σ (.gS p off s h) (λσ=>σ) ⟨[],[]⟩:=by
 refine bU.val λY w g J A iW M q=>?_;have yI:aK X Y x=some (.gS p off s n):=by rw[A x (by rw[K];simp[Op.operands])];exact ha
 have W:bound (aK X Y) H=some (some h):=by
  rw[lN H (λy Q=>A y (by rw[K];subst Q;simp[Op.operands]))];exact u
 have U:bound (aK X Y) T=some (some h):=by
  rw[lN T (λy Q=>A y (by rw[K];subst Q;simp[Op.operands]))];exact hm
 have G:=cy (a:=J) q M yI;simp only[aL]at G;obtain⟨b,V,S,Li,e1,I,hrm,Zh⟩:=G;have b1:fH ((none:Option Operand).map J.eval) none:=pn (g:=g) (ev:=J.eval) (ρ:=aK X Y) (λx v O=>cy q M O) Z;have b2:=pn (g:=g) (ev:=J.eval) (λx v O=>cy q M O) W;have b3:=pn (g:=g) (ev:=J.eval) (λx v O=>cy q M O) U;have hb:∀w,(Instr.sliceBounds true n V ((none:Option Operand).map J.eval) (H.map J.eval) (T.map J.eval)).run P w = .ok (0,h,h) w :=
  λw=>qQ true b3 b2 b1 (aeS h1 I) (aaj _)
 refine⟨.slice (if h=0 then S else S.map (·.add (0*j.size))) (h-0) (h-0),?_,?_⟩
 ·obtain⟨dst,op,E,pos,N,guard⟩:=o;simp only at K;subst K;have:=ij (w:=w) hX D C B (base:=S) hb;simp only[Option.map_none]at this;simp[execOp,e1,this]
 ·simp only[aL];refine⟨b,h-0,_,Li,Z,aaj _,?_,?_⟩
  ·have:h*s<=V*s:=afE _ (aeS h1 I);simp only[ahp];omega
  ·by_cases h0:h=0
   ·left;omega
   ·right;rw[if_neg h0];rcases Zh with h2|h2
    ·omega
    ·rw[h2,agC,Nat.zero_mul,Addr.add_lit,aeT]
end
section
variable {P : Program}{X : Ctx}{ops : Array Oper}{o : Oper}{rest : L Oper}{env : Env}{acc : L Fp}{Q : Env -> St -> L Fp -> Prop}{σ : St}
def af.D2(hX:cF P X)(kn:L Nat)(G:dj ops.toList kn env o=some true){t:TypeId}{x:Operand}{H T:Option Operand}(K:o.op = .slice t x none H T){d:Nat}(O:o.dst=some d){i j:TI}{e:Nat}(I:X.ti t=some i)(D:i.kind = .slice e)(U:X.ti e=some j)
  {p off s n:Nat}(ha:aK X env x=some (.gS p off s n))(S:j.size=s){z:Int}{J u:IntKind}{y Y:Operand}(N:H=some y)(W:T=some Y)(M:aK X env y=some (.c (.int J z)))(V:aK X env Y=some (.c (.int u z)))(h:Nat)(E:z=h)(h1:h<=n)
  (k:af P X ops rest ((d,.gS p off s h)::env) σ (⟨[],[]⟩::acc) Q):af P X ops (o::rest) env σ acc Q:=by
 subst N W E;have B:bound (aK X env) (some y)=some (some h):=by simp only[bound,M,asNat]
 have q:bound (aK X env) (some Y)=some (some h):=by simp only[bound,V,asNat]
 exact af.step (dB G) (bU.D2 (σ:=σ) hX K I D U ha S B q h1) (iA.id []) ri
end
end Go.cK
namespace Go.cK
def dP.adX{P:Program}{X:Ctx}{f:FuncId}{cells:L CV}{s n0:Nat}{pW:L CV}(he:Enters P f)(h0:0<n0){rows:L CV}(T:(bC rows).all CV.one=true)
  (h:∀(w:World)(G:j8)(b V:Nat)(vs us:L Value),b<w.heap.size->(∀o,G b o=none)->(∀b o v,G b o=some v->w.cell? ⟨b,o,none⟩=some v)->bR G cells vs ->
   (∀(j:Nat) u,vs[j]?=some u->w.cell? ⟨b,j,none⟩=some u)->cells.all CV.one=true->n0<=V->(∀o,(o<V*s->∃u,w.cell? ⟨b,o,none⟩=some u)/\w.frozen? ⟨b,o,none⟩=false)->bR G pW us ->
   ∃news,bR G (bC rows) news/\Calls P f (.slice (some ⟨b,0,none⟩) n0 V::us).toArray w λe w'=>∃O Y,e = .returned (.slice (some ⟨O,0,none⟩) rows.length Y)/\rows.length<=Y/\Rf w b w' O news/\O<w'.heap.size /\
    ∀o,(o<Y*s->∃u,w'.cell? ⟨O,o,none⟩=some u)/\w'.frozen? ⟨O,o,none⟩=false) :
  dP P X f (some cells) (.gS 1000000 0 s n0::pW.map AV.c) (.gS 999999 0 s rows.length) (some (bC rows)):=by
 refine⟨he,λg w vs N cA gL=>?_⟩;simp only[bJ]at gL;obtain⟨u,us,rfl,hr,qO⟩:=gL;simp only[aL]at hr;obtain⟨b,V,o,I,rfl,e2,e3,E⟩:=hr;have K:o=some ⟨b,0,none⟩:=by
  rcases E with E|E
  ·omega
  ·exact E
 subst K;have H:an 1000000 (rL 1000000 (some cells)).boxes=some (cells.map AV.c):=by simp[rL,ai]
 obtain⟨O,c1,c2,c3,c4⟩:=N.box 1000000 _ H;rw[I]at c1;cases c1;obtain⟨vs,v1,v2,v3⟩:=pF (tail:=[]) (by simpa using c4);have p:=N.room 1000000 _ b H I;obtain⟨news,n1,A⟩:=h w g.G b V vs us c2 c3 N.pQ v1 (λj u D=>by have:=v2 j u D;rwa[aeq]at this) v3 e2 (λo=>⟨λK=>(p o).1 bn,(p o).2⟩) (Ck qO);refine A.mono ?_;rintro e w' ⟨O,Y,rfl,WB,R,Q,WJ⟩;have WC:∀S o v,g.G S o=some v->S≠b/\S<w.heap.size/\S≠O:=by
  intro S o v M;have h1:S≠b:=by rintro rfl;rw[c3]at M;simp at M
  have h2:=FQ (N.pQ S o v M);refine⟨h1,h2,?_⟩;rintro rfl;rcases R.blk with h|h
  ·exact h1 h
  ·omega
 let g':Gh:=⟨g.G,λk=>if k=999999 then some O else none,λ_=>none,λk=>if k=999999 then Y*s else 0⟩
 have RJ:=(bR.get n1).1;have U:∀k cs,an k (rL 999999 (some (bC rows))).boxes=some cs->k=999999/\cs=(bC rows).map AV.c:=by
  intro k cs e;obtain⟨h1,cl,h2,h3⟩:=yh e;cases h2;exact⟨h1,h3⟩
 refine⟨_,g',Z,?_,?_,?_⟩
 ·simp only[aL];exact⟨O,Y,some ⟨O,0,none⟩,ac0,Z,WB,ac0,.inr Z⟩
 ·refine⟨λS o v M=>?_,?_,?_,λk n e=>by rw[pG]at e;simp[an]at e,λk k' n n' b lo hi lo' hi' e=>by rw[pG]at e;simp[an]at e,λk e=>?_,?_⟩
  ·obtain⟨h1,h2,_⟩:=WC S o v M;rw[va (R.rest S h2 h1)];exact N.pQ S o v M
  ·intro k cs e;obtain⟨rfl,rfl⟩:=U k cs e;refine⟨O,ac0,Q,λo=>?_,?_⟩
   ·cases M:g.G O o with
    |none=>rfl
    |some v=>exact absurd Z (WC O o v M).2.2
   ·apply cB.kV;intro j c D;obtain⟨q1,q2⟩:=bJ.get (qh (g:=g') n1);obtain⟨u,hu,X9⟩:=q2 j c D;have MW:c.one=true:=by
     have:=(ua (bC rows)).trans T;rw[afn]at this;exact this c (aaB D)
    refine⟨⟨u,by rw[aeq];exact R.cells j u hu,X9,MW⟩,by rw[aeq];exact(WJ j).2⟩
  ·intro k k' cs C b e e' _ _;rw[(U k cs e).1,(U k' C e').1]
  ·simp only[g',ne_eq,ahB,ahk]at e;by_cases B:k=999999
   ·subst B;simp[rL]
   ·simp[B]at e
  ·intro k cs q e J o;obtain⟨rfl,_⟩:=U k cs e;simp only[g',if_true,aeO]at J ⊢;subst J;exact WJ o
 ·have W:∀q,(∀o,¬jt g (rL 1000000 (some cells)) q o)\/(∃o,¬jt g (rL 1000000 (some cells)) q o)->q≠b:=by
   rintro q h rfl;have K:∀o,jt g (rL 1000000 (some cells)) q o:=λo => .inl ⟨1000000,_,H,I⟩;rcases h with h|⟨o,h⟩
   ·exact h 0 (K 0)
   ·exact h (K o)
  refine⟨R.os,R.tape,R.output,R.size,λq h1 h2=>R.rest q h1 (W q (.inl h2)),λq o h1 h2=>?_,j8.le.refl _,λ_ _ _ h => .inl h,λk cs q e J=>?_,λk n b lo hi e=>by rw[pG]at e;simp[an]at e,λk B e=>?_⟩
  ·have:=R.rest q h1 (W q (.inr ⟨o,h2⟩));exact⟨va this o,A4 this o⟩
  ·obtain⟨rfl,_⟩:=U k cs e;simp only[g',if_true,aeO]at J;subst J;rcases R.blk with h|h
   ·subst h;exact .inr ⟨1000000,_,H,I⟩
   ·exact .inl h
  ·cases A:an k (rL 999999 (some (bC rows))).boxes with
   |none=>exact absurd A e
   |some cs=>have:=(U k cs A).1;omega
def Nl(d p:Nat)(cells:L AV):iA (λσ=>(σ.fq p).eM d cells) ⟨[],[d,p]⟩ where
 out:=λσ k D=>by
  simp at D;refine⟨?_,Z,?_⟩
  ·simp only[St.fq,St.eM,kT,ai];rw[if_neg D.1,if_neg D.2]
  ·simp only[St.fq,St.eM,aeB];exact⟨λh=>h.resolve_left D.1,.inr⟩
 same:=λσ Y h k D=>by
  obtain⟨h1,h2,V⟩:=h k (.inr D);refine⟨?_,h2,?_⟩
  ·simp only[St.fq,St.eM,kT,ai];split
   ·rfl
   ·split
    ·rfl
    ·exact h1
  ·simp only[St.fq,St.eM,aeB,V]
section
variable {P : Program}{X : Ctx}
def bU.sQ{o:Oper}{env:Env}{σ:St}{f:FuncId}{args:Array Operand}{K:Array TypeId}(C:o.op = .call {callee := .value (.func f),args:=args,argTypes:=K})
  {d:Nat}(jQ:d<1000000)(hu:mem d σ.used=false){x:Operand}{rest:L Operand}(H:args.toList=x::rest){p A n0:Nat}(O:aK X env x=some (.gS p 0 A n0)){q:L CV}(ha:gO (aK X env) rest=some q)
  {cells:L CV}(M:an p σ.boxes=some (cells.map AV.c)){s n:Nat}{cells':L CV}(hq:dP P X f (some cells) (.gS 1000000 0 A n0::q.map AV.c) (.gS 999999 0 s n) (some cells')) :
  bU P X o env σ (.gS d 0 s n) (λσ=>(σ.fq p).eM d (cells'.map AV.c)) ⟨[],[d,p]⟩:=by
 intro dz Y w g a next Q h1 h2 N G dH S;have ru:∀y∈args.toList,y∈o.op.operands.toList:=by
  intro y E;rw[C];simp only[Op.operands,Call.operands,aeP,adT];exact .inr E
 have yI:gO (aK X dz) rest=some q:=by
  rw[kH _ (λy E=>h1 y (ru y (by rw[H];exact aeM _ E)))];exact ha
 have D:aK X dz x=some (.gS p 0 A n0):=by rw[h1 x (ru x (by simp[H]))];exact O
 have gL:=oF (g:=g) (ev:=a.eval) (λx v O=>cy dH G O) yI;have W:=cy (a:=a) dH G D;have Nc:an p Y.boxes=some (cells.map AV.c):=by rw[(h2 p (.inr cS)).1];exact M
 have U:(execOp a.eval o).run P w = .ok (.enter f (args.map a.eval)) w:=by
  obtain⟨dst,op,type,pos,B,guard⟩:=o;simp only at C;subst C;simp[execOp,resolve,Deferred.ofValue,invoke,Act.eval,hq.1 _ w]
 unfold Oper.wp;rw[U,Oper.upon_enter];have hin:=PS N (some p) (some cells) (λ_ h=>by cases h;exact⟨p,rfl,Nc⟩) (λh=>by cases h);have T:∀J,(g.fV (sP (some p))).box J=if J=1000000 then g.box p else none:=by
  intro J;by_cases h:J=1000000<;>simp[Gh.fV,sP,h]
 have:=hq.2 (g.fV (sP (some p))) w (args.toList.map a.eval) hin G (by
  rw[H];simp only[aed,bJ];refine⟨_,_,Z,?_,qh (g:=g.fV (sP (some p))) gL⟩;simp only[aL]at W ⊢;obtain⟨b,V,oo,I,e2,e3,e4,e5⟩:=W
  exact⟨b,V,oo,by rw[T];simpa using I,e2,e3,by simpa[Gh.fV,sP]using e4,e5⟩)
 rw[show(args.toList.map a.eval).toArray=args.map a.eval from by rw[<- aeY]]at this;refine this.mono ?_;rintro e w' ⟨u,g',rfl,h3,h4,h5⟩
 obtain⟨k1,k2,k3,k4⟩:=Wy (g0:=g.fV (sP (some p))) (PT:=rL 1000000 (some cells)) N rfl (pG _ _) (some p) (λk cs b e I=>by
  obtain⟨rfl,_⟩:=yh e;rw[T]at I
  exact⟨p,_,Z,Nc,by simpa using I⟩) h4 h5 (Y.fq p) (.inr ⟨p,Z,Z⟩)
 obtain⟨b,c1,c2,c3,c4,c5,c6,c7,c8⟩:=k4 cells' rfl;have Wx:d ∉ (Y.fq p).used:=λh=>cY hu ((h2 d (.inr cS)).2.2.1 h);obtain⟨p1,p2,p3⟩:=WA k1 k2 Wx jQ c2 c3 c4 c5 c6 c7 c8;refine S u w' _ ?_ p1 p2 (k3.trans p3);simp only[aL]at h3 ⊢;obtain⟨b',V,oo,I,e2,e3,e4,e5⟩:=h3;rw[c1]at I;cases I;exact⟨b,V,oo,cS,e2,e3,by simpa using e4,e5⟩
end
section
variable {P : Program}{X : Ctx}{ops : Array Oper}{o : Oper}{rest : L Oper}{env : Env}{acc : L Fp}{Q : Env -> St -> L Fp -> Prop}{bs : L (Nat × L AV)}{ts : L (Nat × Nat)}{us : L Nat}{σ : St}
def af.sQ(kn:L Nat)(G:dj ops.toList kn env o=some true){f:FuncId}{args:Array Operand}{K:Array TypeId}(C:o.op = .call {callee := .value (.func f),args:=args,argTypes:=K})
  {x:Operand}{Y:L Operand}(H:args.toList=x::Y){d:Nat}(O:o.dst=some d)(u:Nat.blt d 1000000=true)(U:mem d us=false){p A n0:Nat}(N:aK X env x=some (.gS p 0 A n0)){q:L CV}(ha:gO (aK X env) Y=some q)
  {cells:L CV}(I:an p bs=some (cells.map AV.c)){s n:Nat}{cells':L CV}{W:L AV}(hq:dP P X f (some cells) W (.gS 999999 0 s n) (some cells'))(V:W = .gS 1000000 0 A n0::q.map AV.c){bs':L (Nat×L AV)}(T:DE p bs=bs')
  (k:af P X ops rest ((d,.gS d 0 s n)::env) ⟨(d,cells'.map AV.c)::bs',ts,d::us⟩ (⟨[],[d,p]⟩::acc) Q):af P X ops (o::rest) env ⟨bs,ts,us⟩ acc Q:=by
 subst V T;exact af.step (dB G) (bU.sQ (σ:=⟨bs,ts,us⟩) C (Nat.blt_eq.mp u) U H N ha I hq) (Nl d p _) ri
def af.rE(kn:L Nat)(V:dj ops.toList kn env o=some true){f:FuncId}{args:Array Operand}{K:Array TypeId}(U:o.op = .call {callee := .value (.func f),args:=args,argTypes:=K})
  {x:Operand}(H:args.toList=[x]){d:Nat}(O:o.dst=some d){p A n0:Nat}(N:aK X env x=some (.gS p 0 A n0)){cells cells':L CV}{C:L AV}(I:an p bs=some C)(M:C=cells.map AV.c)
  (hq:cP P X f [(1000000,cells.map AV.c)] [.gS 1000000 0 A n0] (.c .undef) [(1000000,cells'.map AV.c)]){bs':L (Nat×L AV)}(T:kD [p] bs=bs')
  (k:af P X ops rest ((d,.c .undef)::env) ⟨(p,cells'.map AV.c)::bs',ts,p::us⟩ (⟨[],[p,p,p]⟩::acc) Q):af P X ops (o::rest) env ⟨bs,ts,us⟩ acc Q:=by
 subst T M;have E:gE (aK X env) args.toList=some [.gS p 0 A n0]:=by rw[H];simp only[gE,N]
 have S:=bU.At (env:=env) (σ:=⟨bs,ts,us⟩) U E hq (bx:=[(1000000,p)]) (po:=[(p,1000000)]) (ψ:=λ_=>p) (nb:=[(p,cells'.map AV.c)]) (λts=>⟨_,_,Z,⟨_,fe,Z⟩,Z⟩)
  (λLN Jv J u=>by
   have G:=iX J cS I;refine⟨Z,?_,?_,?_,?_,?_,?_,?_⟩
   ·intro k q e;simp only[ai]at e;split at e
    ·simp at e;subst_vars;exact⟨cS,_,G⟩
    ·simp[an]at e
   ·intro ts k cs e;simp only[ai]at e;split at e
    ·simp at e;subst_vars;exact⟨p,_,fe,G,cN _⟩
    ·simp[an]at e
   ·intro W D e;simp only[ai]at e;split at e
    ·simp at e;subst_vars;exact⟨1000000,cells'.map AV.c,fe,fe,acT⟩
    ·simp[an]at e
   ·intro W ok e;simp only[ai]at e;split at e
    ·rename_i h;exact h.symm
    ·simp[an]at e
   ·intro k B;have Y:=mem_iff.1 B;simp at Y;subst Y;exact⟨p,fe⟩
   ·intro W ok e;simp only[ai]at e;split at e
    ·simp at e;subst_vars;exact .inl ⟨aaj _,fe,fe⟩
    ·simp[an]at e
   ·intro ok cs e;simp only[ai]at e;split at e
    ·simp at e;subst_vars;exact sK _ _
    ·simp[an]at e) Z
 exact af.step (dB V) S (qc _ _ _) ri
end
end Go.cK
namespace Go.cK
section
variable {P : Program}{X : Ctx}
def bU.Kg(hX:cF P X){o:Oper}{env:Env}{σ:St}{args:Array Operand}{K:Array TypeId}(C:o.op = .call {callee := .builtin .append,args:=args,argTypes:=K})
  {xs y:Operand}(H:args.toList=[xs,y]){t W:Nat}(B9:K.toList=[t,W]){i j Q:TI}{e:Nat}(hi:X.ti t=some i)(hk:i.kind = .slice e)(hj:X.ti e=some j)(S:X.ti W=some Q)(G:me Q.kind=true)
  {s:Nat}(ha:aK X env xs=some (.own .exact s [])){b:AV}(hb:aK X env y=some b){s1:Nat}(A:nP b=some (s1,[])) :
  bU P X o env σ (.own .exact s []) (λσ=>σ) ⟨[],[]⟩:=by
 refine bU.val λO w g J N iW M q=>?_;have I:∀x∈args.toList,x∈o.op.operands.toList:=by
  intro x hx;rw[C];simp only[Op.operands,Call.operands,aeP,adT];exact .inr hx
 have yI:aK X O xs=some (.own .exact s []):=by rw[N xs (I xs (by simp[H]))];exact ha
 have T:aK X O y=some b:=by rw[N y (I y (by simp[H]))];exact hb
 have E:=cy (a:=J) q M yI;have rB:=cy (a:=J) q M T;simp only[aL,qN]at E;obtain⟨base,len,cap,ex,p,D,gw,Y⟩:=E;simp only[aad]at p;subst p Y;obtain⟨⟨news,B,n2,n3,n4⟩,n5⟩:=rq (P:=P) (w:=w) (t:=j.size) iW A (by simp only[gI];split<;>rfl) rB;simp only[bC,bR]at B;subst B;obtain⟨dt,_,V,Hf⟩:=hX.run_underlying (w:=w) hi;rw[hk]at V;simp only[ff]at V;subst V;obtain⟨d1,DG,II⟩:=AX hX S (by unfold me at G;exact G) w;obtain⟨inf,XY,PI,_⟩:=hX.ti e j hj;have zN:args = #[xs,y]:=by cases args;simp_all
 have FC:K = #[t,W]:=by cases K;simp_all
 have u:=l9 (ty:=o.type) (w':=w) Hf DG II XY (base:=base) (sLen:=0) (sCap:=0) n5 ac4 (aaj _) (by cases base<;>simp[storeCells]);refine⟨.slice base 0 0,?_,by simp only[aL,qN];exact⟨base,0,0,Z,Z,aaj _,.inl Z,Z⟩⟩;obtain⟨dst,op,type,pos,U,guard⟩:=o;simp only at C u;subst C;subst zN FC;simp[execOp,resolve,invoke,builtin,ex,u,Result.andThen]
end
section
variable {P : Program}{X : Ctx}{ops : Array Oper}{o : Oper}{rest : L Oper}{env : Env}{acc : L Fp}{Q : Env -> St -> L Fp -> Prop}{bs : L (Nat × L AV)}{ts : L (Nat × Nat)}{us : L Nat}{σ : St}
def af.Kg(hX:cF P X)(kn:L Nat)(G:dj ops.toList kn env o=some true){args:Array Operand}{K:Array TypeId}(p:o.op = .call {callee := .builtin .append,args:=args,argTypes:=K})
  {xs y:Operand}(H:args.toList=[xs,y]){t Y:Nat}(V:K.toList=[t,Y]){d:Nat}(O:o.dst=some d){i j W:TI}{e:Nat}(I:X.ti t=some i)(D:i.kind = .slice e)(U:X.ti e=some j)(S:X.ti Y=some W)(T:me W.kind=true)
  {s:Nat}(ha:aK X env xs=some (.own .exact s [])){b:AV}(N:aK X env y=some b){M:Nat}(A:nP b=some (M,[]))
  (k:af P X ops rest ((d,.own .exact s [])::env) σ (⟨[],[]⟩::acc) Q):af P X ops (o::rest) env σ acc Q :=
 af.step (dB G) (bU.Kg hX p H V I D U S T ha N A) (iA.id []) ri
def af.zU(kn:L Nat)(G:dj ops.toList kn env o=some true){f:FuncId}{args:Array Operand}{K:Array TypeId}(p:o.op = .call {callee := .value (.func f),args:=args,argTypes:=K})
  {Y:L AV}{r:AV}(hq:cP P X f [] Y r []){d:Nat}(O:o.dst=some d){l:L AV}(E:gE (aK X env) args.toList=some l)(W:∀ts,eF ⟨λ_=>none,λ_=>none⟩ ts Y l)(V:LP [] r=true)
  {C:AV}(M:r.rn (λk=>k)=C)(k:af P X ops rest ((d,C)::env) ⟨bs,ts,us⟩ (⟨[],[]⟩::acc) Q):af P X ops (o::rest) env ⟨bs,ts,us⟩ acc Q:=by
 subst M;have U:=bU.At (env:=env) (σ:=⟨bs,ts,us⟩) p E hq (bx:=[]) (po:=[]) (ψ:=λk=>k) (nb:=[]) W
  (λLN Jv T S=>⟨Z,λk u e=>by simp[an]at e,λts k cs e=>by simp[an]at e,λI H e=>by simp[an]at e,λI ok e=>by simp[an]at e,λk D=>by simp[mem]at D,λI ok e=>by simp[an]at e,λok cs e=>by simp[an]at e⟩) V
 exact af.step (dB G) U (qc _ _ _) ri
def af.WK(kn:L Nat)(G:dj ops.toList kn env o=some true){f:FuncId}{args:Array Operand}{K:Array TypeId}(p:o.op = .call {callee := .value (.func f),args:=args,argTypes:=K})
  {V:L AV}{s n:Nat}{cells:L CV}(hq:cP P X f [] V (.gS 999999 0 s n) [(999999,cells.map AV.c)]){d:Nat}(O:o.dst=some d)(u:Nat.blt d 1000000=true)(U:mem d us=false){l:L AV}(E:gE (aK X env) args.toList=some l)(T:∀ts,eF ⟨λ_=>none,λ_=>none⟩ ts V l)
  (k:af P X ops rest ((d,.gS d 0 s n)::env) ⟨(d,cells.map AV.c)::bs,ts,d::us⟩ (⟨[],[d,d]⟩::acc) Q):af P X ops (o::rest) env ⟨bs,ts,us⟩ acc Q:=by
 have S:=bU.At (env:=env) (σ:=⟨bs,ts,us⟩) p E hq (bx:=[]) (po:=[(d,999999)]) (ψ:=λ_=>d) (nb:=[(d,cells.map AV.c)]) T
  (λLN Jv N W=>⟨Z,λk J e=>by simp[an]at e,λts k cs e=>by simp[an]at e,λI H e=>by
    simp only[ai]at e;split at e
    ·simp at e;subst_vars;exact⟨999999,cells.map AV.c,fe,fe,acT⟩
    ·simp[an]at e,λI ok e=>by
    simp only[ai]at e;split at e
    ·rename_i h;exact h.symm
    ·simp[an]at e,λk D=>by
    have Y:=mem_iff.1 D;simp at Y;subst Y;exact⟨d,fe⟩,λI ok e=>by
    simp only[ai]at e;split at e
    ·simp at e;subst_vars;refine .inr ⟨λh=>cY U ((W _ cS).1 h),Nat.blt_eq.mp u⟩
    ·simp[an]at e,λok cs e=>by
    simp only[ai]at e;split at e
    ·simp at e;subst_vars;exact sK _ _
    ·simp[an]at e⟩) Z
 exact af.step (dB G) S (qc _ _ _) ri
end
section
variable {P : Program}{X : Ctx}{f : FuncId}{n : Nat}{β : jZ}{R : Ending -> World -> Prop}{K : L Item}{env : Env}
def Em(a A:AV):Prop:=A=a\/∃Y P,a = .own .exact Y []/\A = .own .exact P []
def Em.rel:∀(g:Gh)(a A:AV)(v:Value),Em a A->aL g a v->aL g A v:=by
 rintro g a A v (rfl|⟨U,P,rfl,rfl⟩) h
 ·exact h
 ·simp only[aL,qN]at h ⊢;obtain⟨base,G,V,I,W,Y,_,E⟩:=h;exact⟨base,G,V,I,W,Y,.inl Z,E⟩
def Em.one:∀(a A:AV),Em a A->a.one=true->A.one=true:=by
 rintro a A (rfl|⟨Y,P,rfl,rfl⟩) h
 ·exact h
 ·rfl
end
end Go.cK
namespace Go.cK
def WL(km N fk:Nat)(k:Nat):Nat:=match Nat.beq k 1000000 with
 |true=>km
 |false=>match Nat.beq k 1000001 with
  |true=>N
  |false=>match Nat.beq k 1000002 with
   |true=>fk
   |false=>k
def adY{bs:L (Nat×L AV)}{us:L Nat}{c c':Nat->Nat->L AV}(A:MC c)(q:MC c'){s f Q f':L CV}{km N fk:Nat}(W:distinct [km,N,fk]=true)
  (h1:an km bs=some (c N fk))(h2:an N bs=some (s.map AV.c))(U:an fk bs=some (f.map AV.c)) :
  ZW bs us (mI c s f) (mI c' Q f') [(1000000,km),(1000001,N),(1000002,fk)] [(km,1000000),(N,1000001),(fk,1000002)] (WL km N fk) [(km,c' N fk),(N,Q.map AV.c),(fk,f'.map AV.c)]:=by
 obtain⟨V,D,n3⟩:=Cl W;refine⟨W,?_,?_,?_,?_,?_,?_,?_⟩
 ·intro k u e;simp only[ai]at e;split at e
  ·simp_all
  ·split at e
   ·simp_all
   ·split at e
    ·simp_all
    ·simp[an]at e
 ·intro ts k cs e;simp only[ai]at e;split at e
  ·simp at e;subst_vars;exact⟨km,_,fe,h1,A.conv _ _ _ _ _ _ fe fe⟩
  ·split at e
   ·simp at e;subst_vars;exact⟨N,_,fe,h2,cN _⟩
   ·split at e
    ·simp at e;subst_vars;exact⟨fk,_,fe,U,cN _⟩
    ·simp[an]at e
 ·intro K H e;simp only[ai]at e;split at e
  ·simp at e;subst_vars;exact⟨1000000,c' 1000001 1000002,fe,fe,by rw[q.rn];rfl⟩
  ·split at e
   ·simp at e;subst_vars;exact⟨1000001,Q.map AV.c,by simp[ai,Ne.symm V],fe,acT⟩
   ·split at e
    ·simp at e;subst_vars;exact⟨1000002,f'.map AV.c,Vj,fe,acT⟩
    ·simp[an]at e
 ·intro K ok e;simp only[ai]at e;split at e
  ·simp at e;subst_vars;rfl
  ·split at e
   ·simp at e;subst_vars;rfl
   ·split at e
    ·simp at e;subst_vars;rfl
    ·simp[an]at e
 ·intro k T;have Y:=mem_iff.1 T;simp at Y;rcases Y with rfl|rfl|rfl
  ·exact⟨km,fe⟩
  ·exact⟨N,by simp[ai,Ne.symm V]⟩
  ·exact⟨fk,Vj⟩
 ·intro K ok e;simp only[ai]at e;split at e
  ·simp at e;subst_vars;exact .inl ⟨aaj _,fe,fe⟩
  ·split at e
   ·simp at e;subst_vars;exact .inl ⟨bT,fe,fe⟩
   ·split at e
    ·simp at e;subst_vars;exact .inl ⟨bT,fe,fe⟩
    ·simp[an]at e
 ·intro ok cs e;simp only[ai]at e;split at e
  ·simp at e;subst_vars;exact q.ok _ _ _ Z Z
  ·split at e
   ·simp at e;subst_vars;exact sK _ _
   ·split at e
    ·simp at e;subst_vars;exact sK _ _
    ·simp[an]at e
section
variable {P : Program}{X : Ctx}{ops : Array Oper}{o : Oper}{rest : L Oper}{env : Env}{acc : L Fp}{Q : Env -> St -> L Fp -> Prop}{bs : L (Nat × L AV)}{ts : L (Nat × Nat)}{us : L Nat}
def af.abG(kn:L Nat)(S:dj ops.toList kn env o=some true){f:FuncId}{args:Array Operand}{K:Array TypeId}(O:o.op = .call {callee := .value (.func f),args:=args,argTypes:=K})
  {c c':Nat->Nat->L AV}{s H W Y:L CV}{V:L AV}{r:AV}(hq:cP P X f (mI c s H) V r (mI c' W Y))(A:MC c)(q:MC c'){d:Nat}(u:o.dst=some d)
  {l:L AV}(E:gE (aK X env) args.toList=some l){km:Nat}{J:L AV}(I:l = .ptr km 0::J){N fk:Nat}{p U T:L AV}(h1:an km bs=some p)(D:p=c N fk)(h2:an N bs=some U)(B:U=s.map AV.c)(h3:an fk bs=some T)(e3:T=H.map AV.c)
  (oO:∀ts,eF ⟨λk=>an k [(1000000,km),(1000001,N),(1000002,fk)],λ_=>none⟩ ts V l)(jq:distinct [km,N,fk]=true)(hr:LP [1000000,1000001,1000002] r=true){C:AV}(M:r.rn (WL km N fk)=C)
  {bs':L (Nat×L AV)}(jG:kD [km,N,fk] bs=bs')
  (k:af P X ops rest ((d,C)::env) ⟨(km,c' N fk)::(N,W.map AV.c)::(fk,Y.map AV.c)::bs',ts,km::N::fk::us⟩ (⟨[],[km,N,fk,km,N,fk,km,N,fk]⟩::acc) Q):af P X ops (o::rest) env ⟨bs,ts,us⟩ acc Q:=by
 subst M jG D B e3;have hs:=bU.At (env:=env) (σ:=⟨bs,ts,us⟩) O E hq (bx:=[(1000000,km),(1000001,N),(1000002,fk)]) (po:=[(km,1000000),(N,1000001),(fk,1000002)]) (ψ:=WL km N fk) oO
  (λLN Jv G hu=>adY A q jq (iX G cS h1) (iX G cS h2) (iX G cS h3)) hr
 exact af.step (dB S) hs (qc _ _ _) acQ
end
def ce{p:Prop}(h:p:=by repeat' (first|exact trivial|exact Z|exact .inl Z|exact .inr Z|exact⟨_,Z,Z⟩|exact⟨_,Z,.inl ⟨Z,_,Z,.inl Z⟩⟩|exact⟨_,Z,.inl ⟨Z,_,Z,.inr Z⟩⟩|exact⟨_,Z,.inr ⟨_,_,Z,Z,Z⟩⟩|refine⟨_,_,Z,?_,?_⟩|refine⟨⟨_,Z,?_⟩,?_⟩|refine⟨⟨_,_,Z,Z,?_⟩,?_⟩|refine⟨?_,?_⟩|refine⟨_,_,Z,Z,?_⟩)):p:=h
end Go.cK
