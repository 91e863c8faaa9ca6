/- A layer of abstract values over the model, part D: -/
import Derived.Test.YtdnpapgijbhofaaGreatDoorLibC
import Derived.ArgAppend
import Derived.Lib.AppendZerosOnto
import Derived.Deep.AppendSrc
import Derived.Laws.IdiomCopy
import Derived.Lib.SliceRun
import Derived.Laws.Externs
set_option linter.defProp false
set_option linter.unusedSimpArgs false
set_option linter.unusedVariables false
namespace Go.cw
def SZ(T:AV->AV->Prop):L AV->L AV->Prop
 |[],[]=>True
 |a::l,b::m=>T a b/\SZ T l m
 |_,_=>False
def PtE(T:AV->AV->Prop)(env:Env):Env->Prop
 |[]=>True
 |(t,B)::l=>(∃a,aq t env=some a/\T a B)/\PtE T env l
def PtB(T:AV->AV->Prop)(bs:L (Nat×L AV)):L (Nat×L AV)->Prop
 |[]=>True
 |(k,cells')::l=>(∃cells,aq k bs=some cells/\SZ T cells cells')/\PtB T bs l
def V7(Y s:Nat)(rows:L CV)(a B:AV):Prop:=B=a\/∃n,a = .gY Y 0 s n/\n=rows.length/\B = .c (.sl s rows)
def Nil(a B:AV):Prop:=B=a\/∃W S,(a = .c (.sl W [])\/a = .own .exact W [])/\B = .c (.sl S [])
def Lr{T:AV->AV->Prop}{env:Env}:∀{env':Env},PtE T env env'->∀t B,aq t env'=some B->∃a,aq t env=some a/\T a B
 |[],_,t,B,e=>by simp[aq]at e
 |(V,O)::l,⟨h1,h2⟩,t,B,e=>by simp only[aj]at e;split at e;grind;exact Lr h2 t B e
def kU{T:AV->AV->Prop}{bs:L (Nat×L AV)}:∀{bs':L (Nat×L AV)},PtB T bs bs'->∀k O,aq k bs'=some O->∃cs,aq k bs=some cs/\SZ T cs O
 |[],_,t,a',e=>by simp[aq]at e
 |(V,Y)::l,⟨h1,h2⟩,t,a',e=>by simp only[aj]at e;split at e;grind;exact kU h2 t a' e
def Th{Y:Nat}:∀{bs:L (Nat×L AV)},(bs.all λp => !Nat.beq p.1 Y)=true->∀k cs,aq k bs=some cs->k≠Y
 |[],_,k,cs,e=>by simp[aq]at e
 |(V,O)::l,h,k,cs,e=>by simp only[afQ,aaN]at h;simp only[aj]at e;split at e;rename_i C;subst C;exact beq_false (by simpa using h.1);exact Th h.2 k cs e
section
variable {P : Program}{X : Ctx}{f : FuncId}{n : Nat}{β : kz}{R : Ending -> World -> Prop}{K : L Item}{env : Env}
def AK.y9{bs:L (Nat×L AV)}{ts:L (Nat×Nat)}{us:L Nat}(Y s:Nat)(rows:L CV){cells tail:L AV}{env':Env}{bs':L (Nat×L AV)}{ts':L (Nat×Nat)}
  (A:aq Y bs=some cells)(hc:cells=ak rows++tail)(hs:∀r∈rows,r.cells.length=s)
  (he:PtE (V7 Y s rows) env env')(U:PtB (V7 Y s rows) bs bs')(hk':(bs'.all λp => !Nat.beq p.1 Y)=true)(ht:Ob ts ts')
  (h:AK P X f n β R K env' ⟨bs',ts',us⟩):AK P X f n β R K env ⟨bs,ts,us⟩:=by
 intro g w a cs J;obtain⟨b,FF,Qp,hb3,M⟩:=J.inv.box Y cells A;let V:kE:=λO o=>if O=b/\o<(bz rows).length then w.cell? ⟨b,o,none⟩else g.G O o
 let g':Gh:=⟨V,g.box,g.tok,g.room⟩;have Rb:g.G.le V:=by intro O o v W;grind
 have hle:g.le g':=⟨Rb,λ_ _ x=>x,λ_ _ _=>rfl,λk hw gQ x=>⟨hw,gQ,x,aaV _,λ_=>rfl⟩⟩;have T:∀O o,O≠b->g.G O o=none->V O o=none:=by grind
 rw[hc]at M;obtain⟨vs,v1,v2,v3⟩:=qv M;have hvl:=(b9.get v1).1;have jP:dJ V b 0 (bz rows):=by refine oG (b9.mono Rb _ _ v1) (λj u hj=>?_) v3;grind
 have gE:gF V s b 0 rows:=rE.2 ⟨jP,hs⟩;have hF:∀a a' v,V7 Y s rows a a'->aP g a v->aP g' a' v:=by
  rintro a a' v (rfl|⟨m,rfl,hm,rfl⟩) B;exact aP.mono hle _ _ B;simp only[aP]at B;obtain⟨O,cap,o,E,rfl,q,e3,e4⟩:=B;rw[FF]at E;simp only[aP];refine⟨_,m,cap,Z,hm,q,?_⟩;rcases e4 with e4|rfl
  simp_all;grind
 have hCW:∀(l Q:L AV)(O o:Nat),SZ (V7 Y s rows) l Q->cx w g O o l->cx w g' O o Q:=by
  intro l
  induction l with
  |nil=>intro Q O o h1 _;cases Q with
   |nil=>trivial
   |cons x m=>simp[SZ]at h1
  |cons x l ih=>intro Q O o h1 h2;cases Q with
   |nil=>simp[SZ]at h1
   |cons y m =>
    obtain⟨I,h4⟩:=h1;obtain⟨⟨u,f1,f2,f3⟩,f4,f5⟩:=h2;refine⟨⟨u,f1,hF _ _ _ I f2,?_⟩,f4,ih m O (o+1) h4 f5⟩;rcases I with rfl|⟨m,rfl,hm,rfl⟩
    exact f3;rfl
 have ye:∀k cs O,k≠Y->aq k bs=some cs->g.box k=some O->O≠b:=by rintro k cs O h1 h2 I rfl;exact h1 (J.inv.gr k Y cs cells _ h2 A I FF)
 have hT:∀k m,aq k ts'=some m->aq k ts=some m:=λk m e=>sw ht k m e;have D:Inv w g' ⟨bs',ts',us⟩:=by
  refine⟨?_,?_,?_,?_,?_,J.inv.used,?_⟩;intro O o v W;simp only[g',V]at W;split at W;simp_all;exact J.inv.qK O o v W;intro k N e;have h1:=Th hk' k N e;obtain⟨H,h2,I⟩:=kU U k N e;obtain⟨O,f1,f2,f3,f4⟩:=J.inv.box k H h2;exact⟨O,f1,f2,λo=>T O o (ye k H O h1 h2 f1) (f3 o),hCW _ _ _ _ I f4⟩;intro k k' x x' O e e' E q;obtain⟨H,h2,_⟩:=kU U k x e;obtain⟨cs1,D2,_⟩:=kU U k' x' e';exact J.inv.gr k k' H cs1 O h2 D2 E q
  ·intro k m e;obtain⟨gQ,E,q⟩:=J.inv.tok k m (hT k m e);refine⟨gQ,E,λO lo hi B=>?_⟩;obtain⟨e3,e4,e5⟩:=q O lo hi B;have Da:O≠b:=by rintro rfl;exact e5 Y cells A FF
   refine⟨e3,λo h1 h2=>?_,λk' N e'=>?_⟩;grind;obtain⟨H,h2,_⟩:=kU U k' N e';exact e5 k' H h2
  intro k k' m m' O lo hi lo' hi' e e' E q;exact J.inv.iF k k' m m' O lo hi lo' hi' (hT k m e) (hT k' m' e') E q;intro k N O e E o;obtain⟨H,h2,_⟩:=kU U k N e;exact J.inv.room k H O h2 E o
 have S:iS w g ⟨bs,ts,us⟩ w g' ⟨bs',ts',us⟩:=by
  refine⟨Z,Z,Z,aaV _,λ_ _ _=>rfl,λ_ _ _ _=>⟨Z,Z⟩,Rb,?_,?_,?_,?_⟩;intro O o v W;simp only[g',V]at W;split at W;rename_i hh;obtain⟨rfl,_⟩:=hh;exact .inr (.inr (.inl ⟨Y,cells,A,FF⟩));exact .inl W;intro k N O e E;obtain⟨H,h2,_⟩:=kU U k N e;exact .inr ⟨k,H,h2,E⟩;grind;intro k _ e;cases C:aq k bs' with
  |none=>exact absurd C e
  |some N =>
   obtain⟨H,h2,_⟩:=kU U k N C;exact⟨by show aq k bs≠none;rw[h2];simp,Z,Z⟩
 refine h g' w a cs ⟨D,?_,?_,J.frame.trans S,J.size,J.defers⟩;exact λm v hm=>Rel.mono Rb _ _ (J.uX m v hm);intro t x e;obtain⟨a0,h1,h2⟩:=Lr he t x e;exact hF _ _ _ h2 (J.env t a0 h1)
def AK.weak{bs:L (Nat×L AV)}{ts:L (Nat×Nat)}{us:L Nat}(T:AV->AV->Prop)(hT:∀g a B v,T a B->aP g a v->aP g B v)(h1:∀a B,T a B->a.one=true->B.one=true)
  {env':Env}{bs':L (Nat×L AV)}{ts':L (Nat×Nat)}(he:PtE T env env')(U:PtB T bs bs')(ht:Ob ts ts')
  (h:AK P X f n β R K env' ⟨bs',ts',us⟩):AK P X f n β R K env ⟨bs,ts,us⟩:=by
 intro g w a cs J;have hCW:∀(l N:L AV)(Y o:Nat),SZ T l N->cx w g Y o l->cx w g Y o N:=by
  intro l
  induction l with
  |nil=>intro N Y o h1 _;cases N with
   |nil=>trivial
   |cons x m=>simp[SZ]at h1
  |cons x l ih=>intro N Y o z9 h2;cases N with
   |nil=>simp[SZ]at z9
   |cons y m =>
    obtain⟨I,h4⟩:=z9;obtain⟨⟨u,f1,f2,f3⟩,f4,f5⟩:=h2;exact⟨⟨u,f1,hT _ _ _ _ I f2,h1 _ _ I f3⟩,f4,ih m Y (o+1) h4 f5⟩
 have W:∀k m,aq k ts'=some m->aq k ts=some m:=λk m e=>sw ht k m e;have S:Inv w g ⟨bs',ts',us⟩:=by refine⟨J.inv.qK,?_,?_,?_,?_,J.inv.used,?_⟩;intro k O e;obtain⟨H,h2,I⟩:=kU U k O e;obtain⟨Y,f1,f2,f3,f4⟩:=J.inv.box k H h2;grind;intro k k' x x' Y e e' E q;obtain⟨H,h2,_⟩:=kU U k x e;obtain⟨M,D2,_⟩:=kU U k' x' e';exact J.inv.gr k k' H M Y h2 D2 E q;intro k m e;obtain⟨gQ,E,q⟩:=J.inv.tok k m (W k m e);refine⟨gQ,E,λY D G hr=>?_⟩;obtain⟨e3,e4,e5⟩:=q Y D G hr;refine⟨e3,e4,λk' O e'=>?_⟩;obtain⟨H,h2,_⟩:=kU U k' O e';exact e5 k' H h2;intro k k' m m' Y D G C A e e' E q;exact J.inv.iF k k' m m' Y D G C A (W k m e) (W k' m' e') E q;intro k O Y e E o;obtain⟨H,h2,_⟩:=kU U k O e;exact J.inv.room k H Y h2 E o
 have V:iS w g ⟨bs,ts,us⟩ w g ⟨bs',ts',us⟩:=by
  refine⟨Z,Z,Z,aaV _,λ_ _ _=>rfl,λ_ _ _ _=>⟨Z,Z⟩,kE.le.refl _,λ_ _ _ h => .inl h,?_,?_,?_⟩;intro k O Y e E;obtain⟨H,h2,_⟩:=kU U k O e;exact .inr ⟨k,H,h2,E⟩;grind;intro k _ e;cases Q:aq k bs' with
  |none=>exact absurd Q e
  |some O =>
   obtain⟨H,h2,_⟩:=kU U k O Q;exact⟨by show aq k bs≠none;rw[h2];simp,Z,Z⟩
 refine h g w a cs ⟨S,J.uX,?_,J.frame.trans V,J.size,J.defers⟩;intro t x e;obtain⟨a0,h2,I⟩:=Lr he t x e;exact hT _ _ _ _ I (J.env t a0 h2)
def Ea{v:AV}:∀{o:Nat}{l:L AV},o<l.length->bG o [v] l=some (l.set o v)
 |_,[],h=>by simp at h
 |0,x::l,_=>by simp[bG]
 |o+1,x::l,h=>by have:=Ea (v:=v) (o:=o) (l:=l) oe;simp only[bG,this,ahs]
end
end Go.cw
namespace Go.cw
def sN(k:Nat):Option (L CV)->St
 |none=>⟨[],[],[]⟩
 |some cells=>⟨[(k,cells.map AV.c)],[],[k]⟩
def zC{k O:Nat}{T:Option (L CV)}{cs:L AV}(h:aq O (sN k T).boxes=some cs):O=k/\∃cells,T=some cells/\cs=cells.map AV.c:=by
 cases T with
 |none=>simp[sN,aq]at h
 |some cells =>
  simp only[sN,aj]at h;split at h;grind;simp[aq]at h
def qw(k:Nat)(T:Option (L CV)):(sN k T).toks=[]:=by cases T<;>rfl
def GR(β:kz)(r:AV)(P:Option (L CV)):Ending->World->Prop:=λe w' =>
 ∃u g',e = .returned u/\aP g' r u/\Inv w' g' (sN 999999 P)/\iS β.w β.g β.σ w' g' (sN 999999 P)
def cX(P:Program)(X:Ctx)(f:FuncId)(T:Option (L CV))(M:L AV)(r:AV)(Y:Option (L CV)):Prop :=
 Enters P f/\∀(g:Gh)(w:World)(vs:L Value),Inv w g (sN 1000000 T)->qJ X g.G->bW g M vs ->
  Calls P f vs.toArray w (GR ⟨w,g,sN 1000000 T⟩ r Y)
def cJ{ρ:Ren}{ts:L (Nat×Nat)}:∀(cs:L CV),fq ρ ts (cs.map AV.c) (cs.map AV.c)
 |[]=>by simp[fq]
 |c::cs=>by exact⟨_,_,Z,by simp[Conv],cJ cs⟩
def tZ(Y:Option Nat):Ren:=⟨λk=>if k=1000000 then Y else none,λ_=>none⟩
def Rc{w:World}{g:Gh}{σ:St}(H:Inv w g σ)(Y:Option Nat)(T:Option (L CV))(h:∀cells,T=some cells->∃O,Y=some O/\aq O σ.boxes=some (cells.map AV.c))(C:T=none->Y=none) :
  Inv w (g.fY (tZ Y)) (sN 1000000 T):=by
 refine(H.fY (tZ Y) _ ?_ ?_ ?_ ?_ ?_).1;intro k cs e;obtain⟨rfl,cells,E,rfl⟩:=zC e;obtain⟨O,N,V⟩:=h cells E;exact⟨O,_,by simp[tZ,N],V,cJ _⟩;intro k k' W e e';simp only[tZ]at e e';simp_all;intro k n e;rw[qw]at e;simp[aq]at e;intro k k' m I W e;simp[tZ]at e;intro k e;simp only[tZ]at e;by_cases A:k=1000000
 ·subst A;cases T with
  |none=>simp[C rfl]at e
  |some cells=>simp[sN]
 simp_all
def XZ{w w':World}{g g0 g':Gh}{σ Re:St}(H:Inv w g σ)(h0G:g0.G=g.G)(h0t:Re.toks=[])(W:Option Nat)
  (h0:∀k cs b,aq k Re.boxes=some cs->g0.box k=some b->∃Y O,W=some Y/\aq Y σ.boxes=some O/\g.box Y=some b)
  {bo:Option (L CV)}(B:Inv w' g' (sN 999999 bo))(A:iS w g0 Re w' g' (sN 999999 bo))(V:St)
  (hd:(W=none/\V=σ)\/∃Y,W=some Y/\V=σ.fA Y) :
  let g1:Gh:=⟨g'.G,g.box,g.tok,g.room⟩
  Inv w' g1 V/\iS w g σ w' g1 V/\g.le g1 /\
   ∀cells,bo=some cells->∃b,g'.box 999999=some b/\b<w'.heap.size/\(∀o,g'.G b o=none)/\cx w' g1 b 0 (cells.map AV.c) /\
    (∀k cs,aq k V.boxes=some cs->g.box k≠some b)/\(∀k n b' J T,aq k V.toks=some n->g.tok k=some (n,some (b',J,T))->b'≠b) /\
    (w.heap.size<=b\/∃k0 Q,aq k0 σ.boxes=some Q/\g.box k0=some b)/\∀o,(o<g'.room 999999->∃u,w'.cell? ⟨b,o,none⟩=some u)/\w'.frozen? ⟨b,o,none⟩=false:=by
 intro g1;have own:∀b o,jH g0 Re b o->∃Y O,W=some Y/\aq Y σ.boxes=some O/\g.box Y=some b:=by rintro b o (⟨k,cs,E,e2⟩|⟨k,n,J,T,E,_⟩);grind;rw[h0t]at E;simp[aq]at E
 have JW:∀b o,jH g0 Re b o->jH g σ b o:=by intro b o h;obtain⟨Y,O,_,E,e2⟩:=own b o h;exact .inl ⟨Y,O,E,e2⟩
 have M:∀k cs,aq k V.boxes=some cs->aq k σ.boxes=some cs/\W≠some k:=by
  intro k cs e;rcases hd with ⟨rfl,rfl⟩|⟨Y,rfl,rfl⟩
  exact⟨e,cc⟩;simp only[St.fA,lA]at e;split at e;simp at e;grind
 have q:V.toks=σ.toks:=by rcases hd with ⟨_,rfl⟩|⟨Y,_,rfl⟩<;>rfl
 have afR:V.used=σ.used:=by rcases hd with ⟨_,rfl⟩|⟨Y,_,rfl⟩<;>rfl
 have X0:∀k cs b,aq k V.boxes=some cs->g.box k=some b->∀o,¬jH g0 Re b o:=by intro k cs b e U o P;obtain⟨Y,O,E,e2,e3⟩:=own b o P;obtain⟨e4,e5⟩:=M k cs e;have:=H.gr k Y cs O b e4 e2 U e3;subst this;exact e5 E
 have hle:g.le g1:=⟨λb o v h=>A.le b o v (by rw[h0G];exact h),λ_ _ h=>h,λ_ _ _=>rfl,λk hw gQ h=>⟨hw,gQ,h,aaV _,λ_=>rfl⟩⟩;have S:∀b o,b<w.heap.size->¬jH g0 Re b o->g.G b o=none->g'.G b o=none:=by
  intro b o U K h;cases hg:g'.G b o with
  |none=>rfl
  |some v =>
   rcases A.new b o v hg with h'|h'|h'
   simp_all;omega;exact absurd h' K
 have adK:∀k n b J T,aq k σ.toks=some n->g.tok k=some (n,some (b,J,T))->∀o,¬jH g0 Re b o:=by intro k n b J T e E o P;obtain⟨gQ,D,f2⟩:=H.tok k n e;rw[E]at D;simp at D;subst D;obtain⟨Y,O,_,e2,e3⟩:=own b o P;exact(f2 b J T Z).2.2 Y O e2 e3
 refine⟨⟨B.qK,?_,?_,?_,?_,?_,?_⟩,⟨A.os,A.tape,A.output,A.size,λb U K=>A.block b U (λo P=>K o (JW b o P)),λb o U K=>A.kept b o U (λP=>K (JW b o P)),?_,?_,?_,?_,?_⟩,hle,?_⟩;intro k cs e;obtain⟨e0,_⟩:=M k cs e;obtain⟨b,N,I,b3,b4⟩:=H.box k cs e0;have K:=X0 k cs b e N;exact⟨b,N,agm I A.size,λo=>S b o I (K o) (b3 o),(cx.of_same (λo=>A.kept b o I (K o)) b4).mono hle⟩;intro k k' cs O b e e';exact H.gr k k' cs O b (M k cs e).1 (M k' O e').1;intro k n e;rw[q]at e;obtain⟨gQ,h1,h2⟩:=H.tok k n e;refine⟨gQ,h1,λb J T hr=>?_⟩;obtain⟨C,h4,h5⟩:=h2 b J T hr;subst hr;refine⟨agm C A.size,λo N8 QY=>?_,λk' cs e'=>h5 k' cs (M k' cs e').1⟩;obtain⟨h6,⟨u,h7⟩,h8⟩:=h4 o N8 QY;have K:=adK k n b J T e h1 o;exact⟨S b o C K h6,⟨u,(A.kept b o C K).1.trans h7⟩,(A.kept b o C K).2.trans h8⟩;rw[q];exact H.iF;rw[afR];exact H.used;intro k cs b e U o;obtain⟨e0,_⟩:=M k cs e;obtain⟨b',N,I,_⟩:=H.box k cs e0;rw[U]at N;cases N;have K:=X0 k cs b e U o;obtain⟨q1,q2⟩:=H.room k cs b e0 U o;exact⟨λP=>(q1 P).imp λu hu=>(A.kept b o I K).1.trans hu,(A.kept b o I K).2.trans q2⟩;exact hle.1
 ·intro b o v h;rcases A.new b o v h with h'|h'|h'
  simp_all;exact .inr (.inl h');simp_all
 grind;grind
 ·intro k _ e;cases hc:aq k V.boxes with
  |none=>exact absurd hc e
  |some cs=>exact⟨by rw[(M k cs hc).1];simp,Z,Z⟩
 rintro cells rfl;have hg:aq 999999 (sN 999999 (some cells)).boxes=some (cells.map AV.c):=by simp[sN,aj]
 obtain⟨b,N,I,b3,b4⟩:=B.box 999999 _ hg;have hor:=A.boxes 999999 _ b hg N;refine⟨b,N,I,b3,?_,?_,?_,?_,B.room 999999 _ b hg N⟩
 ·have:∀(l:L CV)(o:Nat),cx w' g' b o (l.map AV.c)->cx w' g1 b o (l.map AV.c):=by
   intro l
   induction l with
   |nil=>intro o _;trivial
   |cons c l ih =>
    intro o h;obtain⟨⟨u,h1,h2,C⟩,h4,h5⟩:=h;exact⟨⟨u,h1,Rl,C⟩,h4,ih _ h5⟩
  exact this _ _ b4
 ·intro k cs e U;obtain⟨e0,E⟩:=M k cs e;obtain⟨b',D,f2,_⟩:=H.box k cs e0;rw[U]at D;cases D;rcases hor with h|⟨k0,Q,h1,h2⟩
  omega;obtain⟨Y,O,C,h4,h5⟩:=h0 k0 Q b h1 h2;have:=H.gr k Y cs O b e0 h4 U h5;subst this;exact E C
 ·rintro k n b' J T e E rfl;rw[q]at e;obtain⟨gQ,D,f2⟩:=H.tok k n e;rw[E]at D;simp at D;subst D;obtain⟨f3,_,f5⟩:=f2 _ J T rfl;rcases hor with h|⟨k0,Q,h1,h2⟩
  omega;grind
 grind
def X1{S w:World}{g0 g:Gh}{Re σ:St}(H:Inv w g σ)(A:iS S g0 Re w g σ){d:Nat}(hd:d ∉ σ.used)(jM:d<1000000){b R:Nat}{cells:L AV}(hb:b<w.heap.size)(hG:∀o,g.G b o=none)(hc:cx w g b 0 cells)
  (CQ:∀k cs,aq k σ.boxes=some cs->g.box k≠some b)(E4:∀k n O J T,aq k σ.toks=some n->g.tok k=some (n,some (O,J,T))->O≠b)
  (B:S.heap.size<=b\/∃k0 Q,aq k0 Re.boxes=some Q/\g0.box k0=some b)(M:∀o,(o<R->∃u,w.cell? ⟨b,o,none⟩=some u)/\w.frozen? ⟨b,o,none⟩=false) :
  let g':Gh:=⟨g.G,λk=>if k=d then some b else g.box k,g.tok,λk=>if k=d then R else g.room k⟩
  Inv w g' (σ.eM d cells)/\iS S g0 Re w g' (σ.eM d cells)/\g.le g':=by
 intro g';have hbn:g.box d=none:=by
  cases h:g.box d with
  |none=>rfl
  |some x=>exact absurd (H.used d (.inl ta)) hd
 have W:g.le g':=by refine⟨kE.le.refl _,λk x h=>?_,λk x h=>?_,λk hw K h=>⟨hw,K,h,aaV _,λ_=>rfl⟩⟩;grind;grind
 have U:∀k cs,aq k (σ.eM d cells).boxes=some cs->(k=d/\cs=cells)\/(k≠d/\aq k σ.boxes=some cs):=by intro k cs e;simp only[St.eM,aj]at e;grind
 refine⟨⟨H.qK,?_,?_,?_,H.iF,?_,?_⟩,⟨A.os,A.tape,A.output,A.size,A.block,A.kept,A.le,A.new,?_,A.toks,?_⟩,W⟩
 ·intro k cs e;rcases U k cs e with ⟨rfl,rfl⟩|⟨h1,h2⟩
  exact⟨b,ad5,hb,hG,hc.mono W⟩;obtain⟨O,D,I,C,f4⟩:=H.box k cs h2;exact⟨O,by simp[g',h1,D],I,C,f4.mono W⟩
 ·intro k k' cs N O e e' E q;simp only[g']at E q;rcases U k cs e with ⟨rfl,rfl⟩|⟨h1,h2⟩
  grind;rw[if_neg h1]at E;rcases U k' N e' with ⟨rfl,rfl⟩|⟨z9,D2⟩
  simp_all;rw[if_neg z9]at q;exact H.gr k k' cs N O h2 D2 E q
 ·intro k n e;obtain⟨K,E,q⟩:=H.tok k n e;refine⟨K,E,λO J T P=>?_⟩;obtain⟨e3,e4,e5⟩:=q O J T P;subst P;have Da:=E4 k n O J T e E;refine⟨e3,e4,λk' cs e'=>?_⟩;simp only[g'];rcases U k' cs e' with ⟨rfl,rfl⟩|⟨h1,h2⟩
  grind;simp_all
 intro k e;show k∈d::σ.used;by_cases Y:k=d;simp[Y];right;apply H.used k;simpa[g',Y]using e
 ·intro k cs O e E o;simp only[g']at E ⊢;rcases U k cs e with ⟨rfl,rfl⟩|⟨h1,h2⟩
  simp_all;rw[if_neg h1]at E;rw[if_neg h1];exact H.room k cs O h2 E o
 ·intro k cs O e E;simp only[g']at E;rcases U k cs e with ⟨rfl,rfl⟩|⟨h1,h2⟩
  simp_all;rw[if_neg h1]at E;exact A.boxes k cs O h2 E
 intro k FA e;cases V:aq k (σ.eM d cells).boxes with
 |none=>exact absurd V e
 |some cs =>
  rcases U k cs V with ⟨rfl,rfl⟩|⟨h1,h2⟩
  omega;obtain⟨D,I,C⟩:=A.ids k FA (by rw[h2];simp);exact⟨D,by simp[g',h1,I],by simp[g',h1,C]⟩
section
variable {P : Program}{X : Ctx}
def Om(Y:Nat):iJ (λσ=>σ.fA Y) ⟨[],[Y]⟩ where
 out:=λσ k A=>by simp at A;refine⟨?_,Z,Iff.rfl⟩;simp only[St.fA,lA];rw[if_neg A]
 same:=λσ N h k A=>by obtain⟨h1,h2,K⟩:=h k (.inr A);refine⟨?_,h2,K⟩;simp only[St.fA,lA];simp_all
def bN.mU{o:Oper}{env:Env}{σ:St}{f:FuncId}{args:Array Operand}{W:Array TypeId}(O:o.op = .call {callee := .value (.func f),args:=args,argTypes:=W})
  {d:Nat}(A:d<1000000)(M:mem d σ.used=false){V:L CV}(K:gU (aG X env) args.toList=some V){s n:Nat}{cells:L CV}(hq:cX P X f none (V.map AV.c) (.gY 999999 0 s n) (some cells)) :
  bN P X o env σ (.gY d 0 s n) (λσ=>σ.eM d (cells.map AV.c)) ⟨[],[d]⟩:=by
 intro J N w g a next Q h1 h2 H I G Y;have B:gU (aG X J) args.toList=some V:=by rw[kS _ (λx D=>h1 x (by rw[O];simp only[Op.operands,Call.operands,afG,aeK];exact .inr D))];exact K
 have gZ:=pK (g:=g) (ev:=a.eval) (λx v D=>cr G I D) B;have S:(execOp a.eval o).run P w = .ok (.enter f (args.map a.eval)) w:=by obtain⟨dst,op,C,pos,U,guard⟩:=o;subst O;simp[execOp,resolve,Deferred.ofValue,invoke,Act.eval,hq.1 _ w]
 unfold Oper.wp;rw[S,Oper.upon_enter];have T:=Rc H none none (λ_ h=>by cases h) (λ_=>rfl);have:=hq.2 (g.fY (tZ none)) w (args.toList.map a.eval) T I (qZ (g:=g.fY (tZ none)) gZ);rw[show(args.toList.map a.eval).toArray=args.map a.eval from by rw[<- agI]]at this;refine this.mono ?_;rintro e w' ⟨u,g',rfl,h3,h4,h5⟩;obtain⟨k1,k2,k3,k4⟩:=XZ (g0:=g.fY (tZ none)) (Re:=sN 1000000 none) H rfl (qw _ _) none (λk cs b e=>by simp[sN,aq]at e) h4 h5 N (.inl ⟨rfl,rfl⟩);obtain⟨b,c1,c2,c3,c4,c5,c6,c7,c8⟩:=k4 cells rfl;have XY:d ∉ N.used:=λh=>cT M ((h2 d (.inr cc)).2.2.1 h);obtain⟨p1,p2,p3⟩:=X1 k1 k2 XY A c2 c3 c4 c5 c6 c7 c8;refine Y u w' _ ?_ p1 p2 (k3.trans p3);obtain⟨b',q,oo,E,e2,e3,e4,e5⟩:=h3;rw[c1]at E;cases E;exact⟨b,q,oo,cc,e2,e3,by simpa using e4,e5⟩
def bN.KH{o:Oper}{env:Env}{σ:St}{f:FuncId}{args:Array Operand}{K:Array TypeId}(ho:o.op = .call {callee := .value (.func f),args:=args,argTypes:=K})
  {x:Operand}{rest:L Operand}(W:args.toList=x::rest){Y J n0:Nat}(D:aG X env x=some (.gY Y 0 J n0)){I:L CV}(ha:gU (aG X env) rest=some I)
  {cells:L CV}(N:aq Y σ.boxes=some (cells.map AV.c)){v:CV}(hq:cX P X f (some cells) (.gY 1000000 0 J n0::I.map AV.c) (.c v) none) :
  bN P X o env σ (.c v) (λσ=>σ.fA Y) ⟨[],[Y]⟩:=by
 intro de U w g a next Q h1 h2 H G dr V;have sD:∀y∈args.toList,y∈o.op.operands.toList:=by intro y q;rw[ho];simp only[Op.operands,Call.operands,afG,aeK];exact .inr q
 have zY:gU (aG X de) rest=some I:=by rw[kS _ (λy q=>h1 y (sD y (by rw[W];exact afH _ q)))];exact ha
 have C:aG X de x=some (.gY Y 0 J n0):=by rw[h1 x (sD x (by simp[W]))];exact D
 have gZ:=pK (g:=g) (ev:=a.eval) (λx v D=>cr dr G D) zY;have T:=cr (a:=a) dr G C;have On:aq Y U.boxes=some (cells.map AV.c):=by rw[(h2 Y (.inr cc)).1];exact N
 have S:(execOp a.eval o).run P w = .ok (.enter f (args.map a.eval)) w:=by obtain⟨dst,op,type,pos,B,guard⟩:=o;subst ho;simp[execOp,resolve,Deferred.ofValue,invoke,Act.eval,hq.1 _ w]
 unfold Oper.wp;rw[S,Oper.upon_enter];have A:=Rc H (some Y) (some cells) (λ_ h=>by cases h;exact⟨Y,rfl,On⟩) (λh=>by cases h);have O:∀M,(g.fY (tZ (some Y))).box M=if M=1000000 then g.box Y else none:=by intro M;by_cases h:M=1000000<;>simp[Gh.fY,tZ,h]
 have:=hq.2 (g.fY (tZ (some Y))) w (args.toList.map a.eval) A G (by
  rw[W];refine⟨_,_,Z,?_,qZ (g:=g.fY (tZ (some Y))) gZ⟩;simp only[aP]at T ⊢;obtain⟨b,cap,oo,E,e2,e3,e4,e5⟩:=T
  exact⟨b,cap,oo,by rw[O];simpa using E,e2,e3,by simpa[Gh.fY,tZ]using e4,e5⟩)
 rw[show(args.toList.map a.eval).toArray=args.map a.eval from by rw[<- agI]]at this;refine this.mono ?_;rintro e w' ⟨u,g',rfl,h3,h4,h5⟩
 obtain⟨k1,k2,k3,_⟩:=XZ (g0:=g.fY (tZ (some Y))) (Re:=sN 1000000 (some cells)) H rfl (qw _ _) (some Y) (λk cs b e E=>by
  obtain⟨rfl,_⟩:=zC e;rw[O]at E
  exact⟨Y,_,Z,On,Tm⟩) h4 h5 (U.fA Y) (.inr ⟨Y,Z,Z⟩)
 exact V u w' _ ad4 k1 k2 k3
end
section
variable {P : Program}{X : Ctx}{ops : Array Oper}{o : Oper}{rest : L Oper}{env : Env}{acc : L Fp}{Q : Env -> St -> L Fp -> Prop}{bs : L (Nat × L AV)}{ts : L (Nat × Nat)}{us : L Nat}{σ : St}
def ah.mU(kn:L Nat)(G:cY ops.toList kn env o=some true){f:FuncId}{args:Array Operand}{H:Array TypeId}(T:o.op = .call {callee := .value (.func f),args:=args,argTypes:=H})
  {d:Nat}(I:o.dst=some d)(A:Nat.blt d 1000000=true)(V:mem d us=false){Y:L CV}(U:gU (aG X env) args.toList=some Y){s n:Nat}{cells:L CV}{W:L AV}(hq:cX P X f none W (.gY 999999 0 s n) (some cells))(S:W=Y.map AV.c)
  (k:ah P X ops rest ((d,.gY d 0 s n)::env) ⟨(d,cells.map AV.c)::bs,ts,d::us⟩ (⟨[],[d]⟩::acc) Q):ah P X ops (o::rest) env ⟨bs,ts,us⟩ acc Q:=by
 subst S;exact ah.step (dh G) (bN.mU (σ:=⟨bs,ts,us⟩) T (Nat.blt_eq.mp A) V U hq) (sq d _) u6
def ah.KH(kn:L Nat)(G:cY ops.toList kn env o=some true){f:FuncId}{args:Array Operand}{H:Array TypeId}(S:o.op = .call {callee := .value (.func f),args:=args,argTypes:=H})
  {x:Operand}{V:L Operand}(W:args.toList=x::V){d:Nat}(I:o.dst=some d){Y E n0:Nat}(D:aG X env x=some (.gY Y 0 E n0)){U:L CV}(O:gU (aG X env) V=some U)
  {cells:L CV}(N:aq Y bs=some (cells.map AV.c)){v:CV}{T:L AV}(hq:cX P X f (some cells) T (.c v) none)(M:T = .gY 1000000 0 E n0::U.map AV.c){bs':L (Nat×L AV)}(K:EM Y bs=bs')
  (k:ah P X ops rest ((d,.c v)::env) ⟨bs',ts,us⟩ (⟨[],[Y]⟩::acc) Q):ah P X ops (o::rest) env ⟨bs,ts,us⟩ acc Q:=by
 subst M K;exact ah.step (dh G) (bN.KH (σ:=⟨bs,ts,us⟩) S W D O N hq) (Om Y) u6
end
end Go.cw
namespace Go.cw
def cX.of{P:Program}{X:Ctx}{f:FuncId}{C:Func}{c:Code}{T U:Option (L CV)}{M:L AV}{r:AV}(hf:P.funcs[f]?=some C)(q:C.body=some c)(N:Enters P f)
  (hn:M.length<=C.ntmps)(env:Env)(σ:St)(K:env=(M.zipIdx.map λ(v,i)=>(i,v)))(W:sN 1000000 T=σ)
  (h:∀β,AK P X f C.ntmps β (GR β r U) [.code c] env σ):cX P X f T M r U:=by
 subst W;refine⟨N,λg w vs H I O cs=>?_⟩;have S:=(bW.get O).1;have J:Live X ⟨w,g,sN 1000000 T⟩ C.ntmps env (sN 1000000 T) g w {tmps:=vs.toArray++Array.replicate (C.ntmps-vs.toArray.size) undef,defers:=[]}:=by
  refine⟨H,I,?_,iS.refl _ _ _,?_,Z⟩
  ·intro t a e;subst K;have V:∀(l:L AV)(us:L Value)(k:Nat),bW g l us->aq t ((l.zipIdx k).map λ(v,i)=>(i,v))=some a->k<=t/\∃u,us[t-k]?=some u/\aP g a u:=by
    intro l
    induction l with
    |nil=>intro us k _ e;simp[aq]at e
    |cons v l ih =>
     intro us k B e;obtain⟨u,us,rfl,h1,h2⟩:=B;simp only[agR,aeX,aj]at e;grind
   obtain⟨_,u,Y,Q⟩:=V M vs 0 O e;simp at Y;have G:t<vs.length:=(List.getElem?_eq_some_iff.1 Y).1;have:(vs.toArray++Array.replicate (C.ntmps-vs.toArray.size) undef).getD t undef=u:=(by rw[agA,afq aep];simp[Y]);rw[this];exact Q
  simp;omega
 obtain⟨e,w',E,h1,Y,Q,D⟩:=h ⟨w,g,sN 1000000 T⟩ g w _ cs J;have A:Frame.enter P f vs.toArray .normal =
   (top f).at {tmps:=vs.toArray++Array.replicate (C.ntmps-vs.toArray.size) undef,defers:=[]} [.code c]:=by
  simp[Frame.enter,Frame.at,hf,q,top]
 exact⟨_,w',E,h1,by rw[A];exact Y,Q,D⟩
section
variable {P : Program}{X : Ctx}{f : FuncId}{n : Nat}{β : kz}{K : L Item}{env : Env}
def AK.acT(hX:cB P X){C:Func}(hf:P.funcs[f]?=some C){bs:L (Nat×L AV)}{ts:L (Nat×Nat)}{us:L Nat}{Y s m:Nat}{cells:L CV}{cs:L AV}
  (H:qT X bs env C.results.toList=some [.gY Y 0 s m])(U:aq Y bs=some cs)(B:cs=cells.map AV.c):AK P X f n β (GR β (.gY 999999 0 s m) (some cells)) (.code .ret::K) env ⟨bs,ts,us⟩:=by
 subst B;intro g w a cs J;obtain⟨u,T,V⟩:=qY hX J H
 obtain⟨Q,S⟩:=J.inv.fY ⟨λk=>if k=999999 then some Y else none,λ_=>none⟩ (sN 999999 (some cells)) (by
   intro k c e;obtain⟨rfl,cl,E,rfl⟩:=zC e;cases E;exact⟨Y,_,cc,U,cJ _⟩) (by
   intro k k' W e e';simp only at e e';split at e;grind
   ·simp at e) (by
   intro k n e;rw[qw]at e;simp[aq]at e) (by intro k k' m m' W e;simp at e) (by
   intro k e;by_cases A:k=999999;subst A;simp[sN]
   simp[A]at e)
 refine⟨.returned u,w,_,⟨u,_,Z,?_,Q,J.frame.trans (S λk A e=>?_)⟩,.one step_ret,Z,Z,J.defers,Z,C,hf,T⟩;simp at V ⊢;obtain⟨b,N,O,E,q,M,G,D⟩:=V;exact⟨b,N,O,by simpa[Gh.fY]using E,q,M,by simpa[Gh.fY]using G,D⟩;cases I:aq k (sN 999999 (some cells)).boxes with
 |none=>exact absurd I e
 |some c=>obtain⟨rfl,_⟩:=zC I;omega
end
def Dr{g:Gh}:∀{cs:L CV}{vs:L Value},bW g (cs.map AV.c) vs->b9 g.G cs vs
 |[],vs,h=>by simpa[bW,b9]using h
 |c::cs,vs,h=>by obtain⟨u,us,rfl,h1,h2⟩:=h;exact⟨u,us,rfl,acm,Dr h2⟩
structure SV(w:World)(b:Nat)(w':World)(b':Nat)(news:List Value):Prop where
 os:w'.os=w.os
 tape:w'.tape=w.tape
 output:w'.output=w.output
 size:w.heap.size<=w'.heap.size
 blk:b'=b\/w.heap.size<=b'
 cells:∀(j:Nat) u,news[j]?=some u->w'.cell? ⟨b',j,none⟩=some u
 rest:∀b2,b2<w.heap.size->b2≠b->w'.heap[b2]?=w.heap[b2]?
def vZ{w w':World}{b:Nat}(h:w'.heap[b]?=w.heap[b]?)(o:Nat):w'.cell? ⟨b,o,none⟩=w.cell? ⟨b,o,none⟩:=by unfold World.cell?;simp_all
def B0{w w':World}{b:Nat}(h:w'.heap[b]?=w.heap[b]?)(o:Nat):w'.frozen? ⟨b,o,none⟩=w.frozen? ⟨b,o,none⟩:=by unfold World.frozen?;simp_all
def GZ{w:World}{b o:Nat}{v:Value}(h:w.cell? ⟨b,o,none⟩=some v):b<w.heap.size:=by
 rcases agW b w.heap.size with H|H
 omega;simp[World.cell?,Array.getElem?_eq_none H]at h
def cX.raw{P:Program}{X:Ctx}{f:FuncId}{cells:L CV}{s n0:Nat}{I:L CV}(he:Enters P f)(h0:0<n0){rows:L CV}(K:∀r∈rows,r.cells.length=s)(S:(bz rows).all CV.one=true)
  (h:∀(w:World)(G:kE)(b q:Nat)(vs us:L Value),b<w.heap.size->(∀o,G b o=none)->(∀b o v,G b o=some v->w.cell? ⟨b,o,none⟩=some v)->b9 G cells vs ->
   (∀(j:Nat) u,vs[j]?=some u->w.cell? ⟨b,j,none⟩=some u)->cells.all CV.one=true->n0<=q->(∀o,(o<q*s->∃u,w.cell? ⟨b,o,none⟩=some u)/\w.frozen? ⟨b,o,none⟩=false)->b9 G I us ->
   ∃news,b9 G (bz rows) news/\Calls P f (.slice (some ⟨b,0,none⟩) n0 q::us).toArray w λe w'=>∃O Y,e = .returned (.slice (some ⟨O,0,none⟩) rows.length Y)/\rows.length<=Y/\SV w b w' O news) :
  cX P X f (some cells) (.gY 1000000 0 s n0::I.map AV.c) (.c (.sl s rows)) none:=by
 refine⟨he,λg w vs H cu D=>?_⟩;simp only[bW]at D;obtain⟨u,us,rfl,B,rZ⟩:=D;simp only[aP]at B;obtain⟨b,q,o,E,rfl,e2,e3,e4⟩:=B;have Q:o=some ⟨b,0,none⟩:=by grind
 subst Q;have J:aq 1000000 (sN 1000000 (some cells)).boxes=some (cells.map AV.c):=by simp[sN,aj]
 obtain⟨O,A,c2,c3,c4⟩:=H.box 1000000 _ J;rw[E]at A;cases A;obtain⟨vs,v1,v2,v3⟩:=qv (tail:=[]) (by simpa using c4);have W:=H.room 1000000 _ b J E;obtain⟨news,n1,hc⟩:=h w g.G b q vs us c2 c3 H.qK v1 (λj u M=>by have:=v2 j u M;rwa[aeS]at this) v3 e2 (λo=>⟨λQ=>(W o).1 ai,(W o).2⟩) (Dr rZ);refine hc.mono ?_;rintro e w' ⟨O,Y,rfl,X2,R⟩;let U:kE:=λC o=>if C=O then(if o<(bz rows).length then w'.cell? ⟨O,o,none⟩else none)else g.G C o
 have X3:∀C o v,g.G C o=some v->C≠b/\C<w.heap.size/\C≠O:=by
  intro C o v N;have h1:C≠b:=by rintro rfl;rw[c3]at N;simp at N
  have h2:=GZ (H.qK C o v N);refine⟨h1,h2,?_⟩;rintro rfl;rcases R.blk with h|h
  exact h1 h;omega
 have Rb:g.G.le U:=by intro C o v N;simp only[U,(X3 C o v N).2.2,agL];exact N
 have jl:∀C o v,U C o=some v->w'.cell? ⟨C,o,none⟩=some v:=by intro C o v N;simp only[U]at N;split at N;simp_all;obtain⟨h1,h2,_⟩:=X3 C o v N;rw[vZ (R.rest C h2 h1)];exact H.qK C o v N
 have Td:=(b9.get n1).1
 have gE:gF U s O 0 rows:=rE.2 ⟨oG (b9.mono Rb _ _ n1) (λj u M=>by
  have hlt:j<news.length:=(List.getElem?_eq_some_iff.1 M).1;simp only[U,if_pos,aeS];rw[if_pos ai]
  exact R.cells j u M) S,K⟩
 refine⟨_,⟨U,λ_=>none,λ_=>none,λ_=>0⟩,Z,?_,?_,?_⟩;simp only[aP,Rel];exact⟨_,_,_,Z,Z,X2,.inr ⟨O,0,Z,gE⟩⟩;exact⟨jl,λk cs e=>by simp[sN,aq]at e,λk k' cs cs' b e=>by simp[sN,aq]at e,λk n e=>by simp[sN,aq]at e,λk k' n n' b lo hi lo' hi' e=>by simp[sN,aq]at e,λk e=>by simp at e,λk cs b e=>by simp[sN,aq]at e⟩;have T:∀V,(∀o,¬jH g (sN 1000000 (some cells)) V o)\/(∃o,¬jH g (sN 1000000 (some cells)) V o)->V≠b:=by
  rintro V h rfl;have Q:∀o,jH g (sN 1000000 (some cells)) V o:=λo => .inl ⟨1000000,_,J,E⟩;rcases h with h|⟨o,h⟩
  exact h 0 (Q 0);exact h (Q o)
 refine⟨R.os,R.tape,R.output,R.size,λV h1 h2=>R.rest V h1 (T V (.inl h2)),λV o h1 h2=>?_,Rb,?_,λk cs b e=>by simp[sN,aq]at e,λk n b lo hi e=>by simp[sN,aq]at e,λk _ e=>by simp[sN,aq]at e⟩;have:=R.rest V h1 (T V (.inr ⟨o,h2⟩));exact⟨vZ this o,B0 this o⟩;intro C o v N;simp only[U]at N;split at N
 ·rename_i hb;subst hb;rcases R.blk with h|h
  grind;exact .inr (.inl h)
 exact .inl N
end Go.cw
namespace Go.cw
def notNil:AV->Bool
 |.c (.sl _ (_::_))=>true
 |.own _ _ (_::_)=>true
 |.gY _ _ _ n=>Nat.blt 0 n
 |_=>false
def X4:AV->Bool
 |.c (.sl ..)=>true
 |.own .. => true
 |.gY .. => true
 |_=>false
def Ls(a:AV):CV:=match notNil a with
 |true => .bool false
 |false => .uU
def X5{g:Gh}{a:AV}{u:Value}(h:X4 a=true)(B:aP g a u):∃base Y N,u = .slice base Y N/\(notNil a=true->base≠none):=by
 unfold X4 at h;split at h
 ·rename_i s rows;obtain⟨base,Y,N,rfl,I,W,B⟩:=B;refine⟨base,Y,N,Z,λH=>?_⟩;rcases B with rfl|⟨b,o,rfl,_⟩
  simp[notNil]at H;simp
 ·rename_i k s rows;obtain⟨base,Y,N,rfl,I,W,B,_⟩:=B;refine⟨base,Y,N,Z,λH=>?_⟩;rcases B with rfl|⟨b,o,rfl,_⟩
  simp[notNil]at H;simp
 simp only[aP]at B;obtain⟨b,N,o,_,rfl,h1,_,h2⟩:=B;refine⟨_,_,_,Z,λH=>?_⟩;have:=Nat.blt_eq.mp H;grind;grind
section
variable {P : Program}{X : Ctx}
def EP{t e:TypeId}{w:World}(d:Nat)(h:(underlying t).run P w = .ok (.slice e) w)(a:Addr)(n m:Nat) :
  (Op.equalIn (d+1) t (.slice (some a) n m) (.slice none 0 0)).run P w = .ok false w:=by simp[Op.equalIn,h]
def ES{t e:TypeId}{w:World}(d:Nat)(h:(underlying t).run P w = .ok (.slice e) w)(n m:Nat) :
  (Op.equalIn (d+1) t (.slice none n m) (.slice none 0 0)).run P w = .ok true w:=by simp[Op.equalIn,h]
def Ab{t e:TypeId}{w:World}(h:(underlying t).run P w = .ok (.slice e) w)(base:Option Addr)(n m:Nat) :
  (Op.equal t (.slice base n m) (.slice none 0 0)).run P w = .ok base.isNone w:=by
 cases base with
 |none=>exact ES 9999 h n m
 |some a=>exact EP 9999 h a n m
def bN.X6(hX:cB P X){o:Oper}{env:Env}{σ:St}{t V:TypeId}{x:Operand}(T:o.op = .binOp .eql t x (.const (.slice none 0 0)) V){i:TI}{e:Nat}(S:X.ti t=some i)(Q:i.kind = .slice e)
  {a:AV}(D:aG X env x=some a)(O:X4 a=true):bN P X o env σ (.c (Ls a)) (λσ=>σ) ⟨[],[]⟩:=by
 refine bN.val λM w g A h1 jl I K=>?_;have Y:aG X M x=some a:=by rw[h1 x ab2];exact D
 obtain⟨base,u,N,J,B⟩:=X5 O (cr (a:=A) K I Y);obtain⟨d1,H,U,G⟩:=hX.run_underlying (w:=w) S;rw[Q]at U;subst U;refine⟨Value.bool base.isNone,?_,?_⟩;obtain⟨E,op,C,q,W,guard⟩:=o;subst T;have he:binOp .eql t (.slice base u N) (.slice none 0 0)=(do Pure.pure (Value.bool (<- Op.equal t (.slice base u N) (.slice none 0 0)))):=rfl;have hc:A.eval (.const (.slice none 0 0)) = .slice none 0 0:=rfl;simp[execOp,J,hc,he,eqGuard_at_slice,Ab H];unfold Ls;split
 ·rename_i hh;simp only[aP,Rel];have:=B hh;cases base<;>simp at this ⊢
 exact⟨_,Z⟩
variable {ops : Array Oper}{rest : L Oper}{o : Oper}{env : Env}{σ : St}{acc : L Fp}{Q : Env -> St -> L Fp -> Prop}
def ah.X6(hX:cB P X)(kn:L Nat)(G:cY ops.toList kn env o=some true){t Y:TypeId}{x:Operand}(T:o.op = .binOp .eql t x (.const (.slice none 0 0)) Y){d:Nat}(I:o.dst=some d){i:TI}{e:Nat}(U:X.ti t=some i)(A:i.kind = .slice e)
  {a:AV}(D:aG X env x=some a)(W:X4 a=true){v:CV}(N:Ls a=v)
  (k:ah P X ops rest ((d,.c v)::env) σ (⟨[],[]⟩::acc) Q):ah P X ops (o::rest) env σ acc Q:=by
 subst N;exact ah.step (dh G) (bN.X6 hX T U A D W) (iJ.id _) u6
variable {f : FuncId}{n : Nat}{β : kz}{R : Ending -> World -> Prop}{K : L Item}
def AK.rM{c:Operand}{x y:Code}(Y:aG X env c=some (.c .uU))(h1:AK P X f n β R (.code x::K) env σ)(h2:AK P X f n β R (.code y::K) env σ) :
  AK P X f n β R (.code (.cond c x y)::K) env σ:=by
 intro g w a cs u;have:=cr u.env u.uX Y;obtain⟨b,U⟩:=this;cases b;obtain⟨e,w',H,G,V,E,T⟩:=h2 g w a cs u;have st:=step_cond (P:=P) (b:=top f) (x:=x) (y:=y) (k:=K) (cs:=cs) (w:=w) U;exact⟨e,w',H,G,V.of_steps (.one st),E,T⟩;obtain⟨e,w',H,G,V,E,T⟩:=h1 g w a cs u;have st:=step_cond (P:=P) (b:=top f) (x:=x) (y:=y) (k:=K) (cs:=cs) (w:=w) U;exact⟨e,w',H,G,V.of_steps (.one st),E,T⟩
end
end Go.cw
namespace Go.cw
mutual
def Wk:CV->CV->Prop
 |.sl s rows,.sl t Y=>(s=t/\rows=Y)\/(rows=[]/\Y=[])
 |.agg l,.agg m=>EY l m
 |.eF l,.eF m=>EY l m
 |v,.any=>v.one=true
 |v,w=>v=w
def EY:L CV->L CV->Prop
 |[],[]=>True
 |v::l,w::m=>Wk v w/\EY l m
 |_,_=>False
end
mutual
def Wk.refl:∀(v:CV),Wk v v
 |.sl s rows=>by unfold Wk;exact .inl ⟨Z,Z⟩
 |.agg l=>by simp only[Wk];exact EY.refl l
 |.eF l=>by simp only[Wk];exact EY.refl l
 |.any=>by simp only[Wk];rfl
 |.int .. => by simp only[Wk]
 |.bool .. => by simp only[Wk]
 |.str .. => by simp only[Wk]
 |.mX=>by simp only[Wk]
 |.undef=>by simp only[Wk]
 |.ip .. => by simp only[Wk]
 |.sU .. => by simp only[Wk]
 |.uU=>by simp only[Wk]
def EY.refl:∀(l:L CV),EY l l
 |[]=>by simp only[EY]
 |v::l=>by simp only[EY];exact⟨Wk.refl v,EY.refl l⟩
end
def Wk.of_eq{v w:CV}(h:v=w):Wk v w:=by subst h;exact Wk.refl v
def tE{G:kE}{v:CV}{u:Value}(h:v.one=true)(B:Rel G v u):(∀vs,u ≠ .agg vs)/\∀vs,u ≠ .tuple vs:=by
 cases v<;>simp[CV.one]at h<;>simp only[Rel]at B
 case int=>subst B;simp
 case bool=>subst B;simp
 case str=>subst B;simp
 case mX=>subst B;simp
 case sl=>obtain⟨_,_,_,rfl,_⟩:=B;simp
 case ip=>obtain⟨_,_,rfl,_⟩:=B;simp
 case sU=>obtain⟨_,rfl,_⟩:=B;simp
 case any=>exact B
 grind
def adL{v w:CV}(h:Wk v w)(h1:v.one=true):w.one=true:=by unfold Wk at h;split at h;rfl;simp[CV.one]at h1;simp[CV.one]at h1;rfl;simp_all
mutual
def Wk.rel{G:kE}:∀{v w:CV}{u:Value},Wk v w->Rel G v u->Rel G w u
 |.sl s rows,w,u,h,B=>by
  cases w
  case sl t Oq =>
   unfold Wk at h;rcases h with ⟨rfl,rfl⟩|⟨rfl,rfl⟩
   exact B;simp only[Rel]at B ⊢;obtain⟨base,W,q,E,N,H,_⟩:=B;exact⟨base,W,q,E,N,H,cc⟩
  case any=>unfold Wk at h;simp only[Rel];exact tE h B
  all_goals (unfold Wk at h;cases h)
 |.agg l,w,u,h,B=>by
  cases w<;>simp only[Wk]at h
  case agg m =>
   simp only[Rel]at B ⊢;obtain⟨vs,E,N,H⟩:=B;obtain⟨g1,Y,_⟩:=EY.rel h N;exact⟨vs,E,g1,Y H⟩
  case any=>simp[CV.one]at h
  all_goals (cases h)
 |.eF l,w,u,h,B=>by
  cases w<;>simp only[Wk]at h
  case eF m =>
   simp only[Rel]at B ⊢;obtain⟨vs,E,N,H⟩:=B;obtain⟨g1,_,Y⟩:=EY.rel h N;exact⟨vs,E,g1,ai⟩
  case any=>simp[CV.one]at h
  all_goals (cases h)
 |.any,w,u,h,B=>by cases w<;>simp only[Wk]at h<;>first|exact B|cases h
 |.int ..,w,u,h,B=>by cases w<;>simp only[Wk]at h<;>first|(simp only[Rel];exact tE h B)|(rw[<- h];exact B)|cases h
 |.bool ..,w,u,h,B=>by cases w<;>simp only[Wk]at h<;>first|(simp only[Rel];exact tE h B)|(rw[<- h];exact B)|cases h
 |.str ..,w,u,h,B=>by cases w<;>simp only[Wk]at h<;>first|(simp only[Rel];exact tE h B)|(rw[<- h];exact B)|cases h
 |.mX,w,u,h,B=>by cases w<;>simp only[Wk]at h<;>first|(simp only[Rel];exact tE h B)|exact B|cases h
 |.undef,w,u,h,B=>by cases w<;>simp only[Wk]at h<;>first|exact B|(simp[CV.one]at h)|cases h
 |.ip ..,w,u,h,B=>by cases w<;>simp only[Wk]at h<;>first|(simp only[Rel];exact tE h B)|(rw[<- h];exact B)|cases h
 |.sU ..,w,u,h,B=>by cases w<;>simp only[Wk]at h<;>first|(simp only[Rel];exact tE h B)|(rw[<- h];exact B)|cases h
 |.uU,w,u,h,B=>by cases w<;>simp only[Wk]at h<;>first|(simp only[Rel];exact tE h B)|exact B|cases h
def EY.rel{G:kE}:∀{l m:L CV}{us:L Value},EY l m->b9 G l us->b9 G m us/\(l.all CV.one=true->m.all CV.one=true)/\l.length=m.length
 |[],[],us,_,B=>⟨B,id,Z⟩
 |v::l,w::m,us,h,B=>by simp only[EY]at h;simp only[b9]at B ⊢;obtain⟨u,us,rfl,V,P⟩:=B;obtain⟨g1,Y,D⟩:=EY.rel h.2 P;refine⟨⟨u,us,rfl,Wk.rel h.1 V,g1⟩,?_,K0⟩;simp only[afQ,aaN];rintro⟨I,M⟩;exact⟨adL h.1 I,Y M⟩
 |[],_::_,_,h,_=>by simp[EY]at h
 |_::_,[],_,h,_=>by simp[EY]at h
end
def CB{x y:CV}{e:Int}(h1:x.one=true)(h2:y.one=true):Wk (.eF [.agg [x,y],.int .i64 e]) (.eF [.agg [.any,.any],.int .i64 e]):=by
 have D:Wk x .any:=by cases x<;>unfold Wk<;>first|exact h1|rfl
 have U:Wk y .any:=by cases y<;>unfold Wk<;>first|exact h2|rfl
 refine⟨?_,Wk.refl _,trivial⟩;exact⟨D,U,trivial⟩
def yT{s t:Nat}{b:CV}:Wk (.eF [.sl s [],b]) (.eF [.sl t [],b]):=by simp only[Wk,EY];exact⟨.inr ⟨trivial,trivial⟩,Wk.refl b,trivial⟩
section
variable {P : Program}{X : Ctx}
def aR.wk{f:FuncId}{M U:L CV}{r O:CV}(T:EY M U)(B:Wk r O)(q:aR P X f U r):aR P X f M O:=by refine⟨q.1,λG w vs h1 h2 K=>?_⟩;exact Calls.mono (q.2 G w vs h1 h2 (EY.rel T K).1) λe w' ⟨u,V,E,N,H⟩=>⟨u,V,E,Wk.rel B N,H⟩
variable {f : FuncId}{n : Nat}{β : kz}{K : L Item}{env : Env}{σ : St}
def AK.F6(hX:cB P X){C:Func}(hf:P.funcs[f]?=some C){r:AV}{Y W:CV}
  (B:kQ X σ.boxes env C.results.toList=some r)(I:close r=some Y)(O:Wk Y W):AK P X f n β (QR β W) (.code .ret::K) env σ:=by
 have h:=AK.ae7 (K:=K) (β:=β) (n:=n) hX hf B I Z;intro g w a cs J;obtain⟨e,w',H,⟨u,g',h1,h2,V⟩,h4⟩:=h g w a cs J;exact⟨e,w',H,⟨u,g',h1,Wk.rel O h2,V⟩,h4⟩
end
end Go.cw
namespace Go.cw
inductive Ot where
 |ok (env:Env) (bs:List (Nat×List AV)) (us:List Nat) (fp:Fp)
 |no
def NB(X:Ctx)(P:L Oper)(o:Oper)(env:Env)(bs:L (Nat×L AV))(us:L Nat):Ot :=
 match cY P kn env o with
 |some true=>match o.op,o.dst with
  |.box _ x,some d=>match aG X env x with
   |some a=>match jQ a with
    |some cells=>match Oa d us with
     |false => .ok ((d,.ptr d 0)::env) ((d,cells)::bs) (d::us) ⟨[],[d]⟩
     |true => .no
    |none => .no
   |none => .no
  |.alloc t,some d=>match X.ti t with
   |some i=>match i.zero with
    |some K=>match jQ K with
     |some cells=>match Oa d us with
      |false => .ok ((d,.ptr d 0)::env) ((d,cells)::bs) (d::us) ⟨[],[d]⟩
      |true => .no
     |none => .no
    |none => .no
   |none => .no
  |.store t x y,none=>match X.ti t,aG X env x,aG X env y with
   |some i,some (.ptr Y off),some a=>match aq Y bs,jQ a with
    |some cells,some vs=>match Nat.beq vs.length i.size,bG off vs cells with
     |true,some r=>match Ai Y r bs with
      |some bs' => .ok env bs' us ⟨[],[Y]⟩
      |none => .no
     |_,_ => .no
    |_,_ => .no
   |_,_,_ => .no
  |.buildSlice t u A,some d=>match X.ti t with
   |some i=>match i.kind with
    |.slice e=>match X.ti e with
     |some j=>match j.zero,jI (aG X env) 0 A.toList with
      |some _,some rows=>match Nat.beq rows.length u,jk j.size rows,Nat.ble (u*j.size) 16777216 with
       |true,true,true => .ok ((d,.own .exact j.size rows)::env) bs us ⟨[],[]⟩
       |_,_,_ => .no
      |_,_ => .no
     |none => .no
    |_ => .no
   |none => .no
  |.build t A,some d=>match X.ti t with
   |some i=>match i.kind with
    |.arr n e=>match X.ti e,i.zero with
     |some j,some (.agg z)=>match sY X (aG X env) (BZ j.size e 0 n) A.toList z with
      |some r => .ok ((d,.agg r)::env) bs us ⟨[],[]⟩
      |none => .no
     |_,_ => .no
    |_ => .no
   |none => .no
  |.index t x V,some d=>match X.ti t,aG X env x,aG X env V with
   |some i,some (.agg cs),some ia=>match i.kind,asNat ia with
    |.arr n e,some m=>match X.ti e,Nat.blt m n with
     |some j,true=>match dV (m*j.size) cs with
      |some r=>match lO j r with
       |some v => .ok ((d,v)::env) bs us ⟨[],[]⟩
       |none => .no
      |none => .no
     |_,_ => .no
    |_,_ => .no
   |_,_,_ => .no
  |.binOp .eql t x (.const (.slice none 0 0)) _,some d=>match X.ti t,aG X env x with
   |some i,some a=>match i.kind,X4 a with
    |.slice _,true => .ok ((d,.c (Ls a))::env) bs us ⟨[],[]⟩
    |_,_ => .no
   |_,_ => .no
  |_,_ => .no
 |_ => .no
section
variable {P:Program}{X:Ctx}{ops:Array Oper}{o:Oper}{rest:L Oper}{env:Env}{acc:L Fp}{Q:Env->St->L Fp->Prop}
 {bs:L (Nat×L AV)} {ts:L (Nat×Nat)} {us:L Nat}
def ah.NB(hX:cB P X){env':Env}{bs':L (Nat×L AV)}{us':L Nat}{M:Fp}(h:NB X ops.toList o env bs us = .ok env' bs' us' M)
  (k:ah P X ops rest env' ⟨bs',ts,us'⟩ (M::acc) Q):ah P X ops (o::rest) env ⟨bs,ts,us⟩ acc Q:=by
 unfold Go.cw.NB at h;split at h;rename_i G;split at h;rename_i t x d Y I;split at h;rename_i a O;split at h;rename_i cells T;split at h;rename_i q;simp only[Ot.ok.injEq]at h;obtain⟨rfl,rfl,rfl,rfl⟩:=h;exact ah.box kn G Y I O T q k;cases h;cases h;cases h;rename_i t d Y I;split at h;rename_i i U;split at h;rename_i K W;split at h;rename_i cells T;split at h;rename_i q;simp only[Ot.ok.injEq]at h;obtain⟨rfl,rfl,rfl,rfl⟩:=h;exact ah.alloc hX kn G Y I U W T q k;cases h;cases h;cases h;cases h;rename_i t x y Y I;split at h;rename_i i J off a U D H;split at h;rename_i cells vs N T;split at h;rename_i r E C;split at h;rename_i u hs;simp only[Ot.ok.injEq]at h;obtain⟨rfl,rfl,rfl,rfl⟩:=h;exact ah.store hX kn G Y I U D H N T E C hs k;cases h;cases h;cases h;cases h;rename_i t len A d Y I;split at h;rename_i i U;split at h;rename_i e V;split at h;rename_i j S;split at h;rename_i K rows W hp;split at h;rename_i h1 h2 h3;simp only[Ot.ok.injEq]at h;obtain⟨rfl,rfl,rfl,rfl⟩:=h;exact ah.buildSlice hX kn G Y I U V S W hp h1 Z h2 h3 k;cases h;cases h;cases h;cases h;cases h;rename_i t A d Y I;split at h;rename_i i U;split at h;rename_i n e V;split at h;rename_i j z S W;split at h;rename_i r B;simp only[Ot.ok.injEq]at h;obtain⟨rfl,rfl,rfl,rfl⟩:=h;exact ah.GX hX kn G Y I U V S W B k;cases h;cases h;cases h;cases h;rename_i t x ix d Y I;split at h;rename_i i cs ia U D W;split at h;rename_i n e m V q;split at h;rename_i j S N;split at h;rename_i r B;split at h;rename_i v hv;simp only[Ot.ok.injEq]at h;obtain⟨rfl,rfl,rfl,rfl⟩:=h;exact ah.fy hX kn G Y I U V S D W q N B hv k;cases h;cases h;cases h;cases h;cases h;rename_i t x yt d Y I;split at h;rename_i i a U D;split at h;rename_i e V O;simp only[Ot.ok.injEq]at h;obtain⟨rfl,rfl,rfl,rfl⟩:=h;exact ah.X6 hX kn G Y I U V D O Z k;cases h;cases h;cases h;cases h
def NC(X:Ctx)(P:L Oper)(o:Oper)(env:Env)(ts:L (Nat×Nat))(us:L Nat):Option (Nat×Nat×Nat×Nat×L CV×L CV×Nat×L (Nat×Nat)) :=
 match cY P kn env o with
 |some true=>match o.op,o.dst with
  |.call {callee := .builtin .append,args,argTypes},some d=>match args.toList,argTypes.toList with
   |[xs,y],[t,t1]=>match X.ti t,X.ti t1,aG X env xs,aG X env y with
    |some i,some Q,some (.own W s rows),some b=>match i.kind,mM Q.kind,oH b with
     |.slice e,true,some (S,bV)=>match X.ti e with
      |some j=>match j.zero,GJ s j.size rows W,gO S j.size bV,Nat.ble 1 j.bytes with
       |some _,true,true,true=>match yl d us ts W with
        |some (Y,n)=>match Ai Y n ts with
         |some ts'=>some (d,Y,n,j.size,rows,bV,j.bytes,ts')
         |none=>none
        |none=>none
       |_,_,_,_=>none
      |none=>none
     |_,_,_=>none
    |_,_,_,_=>none
   |_,_=>none
  |_,_=>none
 |_=>none
def ah.NC(hX:cB P X){d Y n sz M:Nat}{rows bV:L CV}{ts':L (Nat×Nat)}(h:NC X ops.toList o env ts us=some (d,Y,n,sz,rows,bV,M,ts'))
  (W:(rows.length+bV.length)*M<=140737488355328)
  (k:ah P X ops rest ((d,.own (.tok Y n) sz (rows++bV))::env) ⟨bs,ts',Y::us⟩ (⟨[],[Y]⟩::acc) Q):ah P X ops (o::rest) env ⟨bs,ts,us⟩ acc Q:=by
 unfold Go.cw.NC at h;split at h;rename_i G;split at h;rename_i K H d' T I;split at h;rename_i xs y t t1 V E;split at h;rename_i i i1 ow s Oq b C S B q;split at h;rename_i e s1 A u sW U;split at h;rename_i j hj;split at h;rename_i za hz hs uo O;split at h;rename_i J n' N;split at h;rename_i Fc D;obtain⟨rfl,rfl,rfl,rfl,rfl,rfl,rfl,rfl⟩:=h;exact ah.append hX kn G T V E I C u hj hz S sW B q U Z hs uo N Z O D W k;cases h;cases h;cases h;cases h;cases h;cases h;cases h;cases h;cases h
def ND(X:Ctx)(P:L Oper)(o:Oper)(env:Env):Option (Nat×FuncId×L CV) :=
 match cY P kn env o with
 |some true=>match o.op,o.dst with
  |.call {callee := .value (.func f),args,argTypes:=_},some d=>match gU (aG X env) args.toList with
   |some Y=>some (d,f,Y)
   |none=>none
  |.call {callee := .value (.tmp x),args,argTypes:=_},some d=>match aG X env (.tmp x),gU (aG X env) args.toList with
   |some (.c (.sU f G)),some Y=>some (d,f,Y++G)
   |_,_=>none
  |_,_=>none
 |_=>none
def ah.ND{σ:St}{d:Nat}{f:FuncId}{U:L CV}{r:CV}(h:ND X ops.toList o env=some (d,f,U))(hq:aR P X f U r)
  (k:ah P X ops rest ((d,.c r)::env) σ (⟨[],[]⟩::acc) Q):ah P X ops (o::rest) env σ acc Q:=by
 unfold Go.cw.ND at h;split at h;rename_i G;split at h;rename_i f' M H S Y I;split at h;rename_i W V;obtain⟨rfl,rfl,rfl⟩:=h;exact ah.xS kn G Y I V hq k;cases h;rename_i x M H S Y I;split at h;rename_i f' T W D V;obtain⟨rfl,rfl,rfl⟩:=h;exact ah.M9 kn G Y I D V hq k;cases h;cases h;cases h
def NG(X:Ctx)(P:L Oper)(o:Oper)(env:Env):Option (Nat×L CV×Int) :=
 match cY P kn env o with
 |some true=>match o.op,o.dst with
  |.indexAddr t x V,some d=>match X.ti t,aG X env x,aG X env V with
   |some i,some a,some (.c (.int _ z))=>match i.kind,rowsOf a with
    |.slice e,some (s,rows)=>match X.ti e with
     |some j=>match Nat.beq s j.size with
      |true=>some (d,rows,z)
      |false=>none
     |none=>none
    |_,_=>none
   |_,_,_=>none
  |_,_=>none
 |_=>none
def ah.NG(hX:cB P X){σ:St}{d:Nat}{rows:L CV}{z:Int}(h:NG X ops.toList o env=some (d,rows,z))(m:Nat)(q:z=m){r:CV}(D:rows[m]?=some r){cs:L CV}(B:r.cells=cs)
  (k:ah P X ops rest ((d,.c (.ip cs))::env) σ (⟨[],[]⟩::acc) Q):ah P X ops (o::rest) env σ acc Q:=by
 unfold Go.cw.NG at h;split at h;rename_i G;split at h;rename_i t x S O Y I;split at h;rename_i i a k' N U T W;split at h;rename_i e s M A H;split at h;rename_i j V;split at h;rename_i C;obtain⟨rfl,rfl,rfl⟩:=h;exact ah.index hX G Y I U A V T H C W m q D B k;cases h;cases h;cases h;cases h;cases h;cases h
end
end Go.cw
namespace Go.cw
def eI(b:Nat):∀(vs:L Value)(o:Nat)(w:World),(w.setCells b o vs).heap.size=w.heap.size/\(w.setCells b o vs).os=w.os/\(w.setCells b o vs).tape=w.tape/\(w.setCells b o vs).output=w.output /\
  ∀k,k≠b->(w.setCells b o vs).heap[k]?=w.heap[k]?
 |[],_,w=>⟨Z,Z,Z,Z,λ_ _=>rfl⟩
 |v::r,o,w=>by obtain⟨h1,h2,K,Y,M⟩:=eI b r (o+1) (w.setCell ⟨b,o,none⟩ v);rw[World.setCells];refine⟨by rw[h1];simp,by rw[h2];rfl,by rw[K];rfl,by rw[Y];rfl,λk A=>?_⟩;rw[M k A];exact heap_setCell w ⟨b,o,none⟩ v _ A
def eC{b:Nat}{vs:L Value}{o:Nat}{w:World}(h:∀j,j<vs.length->(w.cell? ⟨b,o+j,none⟩).isSome=true)(j:Nat) :
  (w.setCells b o vs).cell? ⟨b,j,none⟩=if o<=j/\j<o+vs.length then vs[j-o]? else w.cell? ⟨b,j,none⟩:=by
 by_cases T:o<=j/\j<o+vs.length;rw[if_pos T];have:=World.cell?_setCells_in b vs o w h (j-o) ai;simp_all;rw[if_neg T];exact World.cell?_setCells_out b vs o w ⟨b,j,none⟩ (λ_ _=>by show j<o\/o+vs.length<=j;omega)
def dy{b:Nat}{vs:L Value}{o:Nat}{w:World}(h:∀j,j<vs.length->(w.cell? ⟨b,o+j,none⟩).isSome=true){j:Nat}(Y:(w.cell? ⟨b,j,none⟩).isSome=true) :
  ((w.setCells b o vs).cell? ⟨b,j,none⟩).isSome=true:=by
 rw[eC h];grind
def nM{P:Program}(w:World)(S B ty Y:TypeId)(b o W V:Nat)(a:Addr)(sLen sCap:Nat)(cs:L Value)(n s:Nat)
  (Q:P.underlying S=some (.slice Y))(C:(P.info? Y).map (·.size)=some s)(H:n=Nat.min sLen W)(I:cs.length=n*s)
  (U:∀(j:Nat) v,cs[j]?=some v->w.cell? (a.add j)=some v)(O:∀j,j<cs.length->(w.cell? ⟨b,o+j,none⟩).isSome=true)(hf:∀j,j<cs.length->w.frozen? ⟨b,o+j,none⟩=false)(h1:∀v∈cs,v.oneCell'=true) :
  (Builtin.copy_ #[S,B] ty #[.slice (some ⟨b,o,none⟩) W V,.slice (some a) sLen sCap]).run P w = .ok (goInt n) (w.setCells b o cs):=by
 have T:=run_firstCells_some (P:=P) w s n a sLen sCap cs I U;have u:=run_storeCells_cells (P:=P) b o cs 0 w (by simpa using O) (by simpa using hf) h1;cases hq:P.info? Y with
 |none=>simp[hq]at C
 |some i =>
  have N:i.size=s:=by simpa[hq]using C
  subst H;simp[Builtin.copy_,run_underlying Q,Builtin.lenOf,sizeOf,typeInfo,hq,N,T,u]
def Ou{P:Program}(w:World){o:Oper}{a:Act}{K:Act->World->Prop}{Q:Exit->Act->World->Prop}(d s:Operand)(t V:TypeId)
  (T:o.op = .call {callee := .builtin .copy,args := #[d,s],argTypes := #[t,V]})(v u:Value)(I:a.eval d=v)(C:a.eval s=u){Y:Value}{w':World}
  (B:(Builtin.copy_ #[t,V] o.type #[v,u]).run P w = .ok Y w')(h:K (a.put o.dst Y) w'):o.wp P a w K Q:=by
 unfold Oper.wp execOp;simp only[T,resolve,invoke,builtin,Sem.run_bind,Sem.run_pure,Result.andThen_ok,List.map_toArray,aeX,List.map_nil,I,C,B];exact h
def mE{P:Program}(w:World){ops:Array Oper}{rest:L Oper}{o:Oper}{a:Act}{Q:Exit->Act->World->Prop}(Y:o.guard=none)(d s:Operand)(t V:TypeId)
  (T:o.op = .call {callee := .builtin .copy,args := #[d,s],argTypes := #[t,V]})(v u:Value)(I:a.eval d=v)(C:a.eval s=u){W:Value}{w':World}
  (B:(Builtin.copy_ #[t,V] o.type #[v,u]).run P w = .ok W w')(h:wpList P ops Q rest (a.put o.dst W) w'):wpList P ops Q (o::rest) a w :=
 wpList_plain Y λ_ U=>Ou w d s t V T v u I C B (U _ _ h)
def vz{P:Program}{ops:Array Oper}{o:Oper}{a:Act}{w:World}{K:Act->World->Prop}{Q:Exit->Act->World->Prop}{E:Prop}
  (G:o.guard=none)(d x:Operand)(Y B:TypeId)(W:o.op=Op.call {callee:=Callee.builtin Builtin.copy,args := #[d,x],argTypes := #[Y,B]})
  (v u:Value)(I:a.eval d=v)(D:a.eval x=u){V:Value}{w':World}(H:(Builtin.copy_ #[Y,B] o.type #[v,u]).run P w = .ok V w')(U:K (a.put o.dst V) w') :
  if Region.wanted o (yielded ops a.tmps)=true then Oper.wp P o a w K Q else E:=by
 rw[if_pos (by simp[Region.wanted,G])];exact Ou w d x Y B W v u I D H U
def um{P:Program}(w:World)(tS tR e:TypeId)(ht:P.underlying tS=some (.slice e))(size:Nat)(hz:∀w,(Go.sizeOf e).run P w = .ok size w)
  (a b:Addr)(la ca lb cb:Nat)(hne:a.block≠b.block){u v:Value}(hua:w.cell? ⟨a.block,a.off,none⟩=some u)(hub:w.cell? ⟨b.block,b.off,none⟩=some v)(hfb:∀o,w.frozen? ⟨b.block,o,none⟩=false)(iU:b.spot=none) :
  (Extern.SlicesOverlaps.overlaps #[tS,tS] #[tR] #[.slice (some a) la ca,.slice (some b) lb cb]).run P w = .ok (.bool false) w:=by
 have shp:∀(x:Addr){v:Value},w.cell? ⟨x.block,x.off,none⟩=some v->∃t k,w.shape? x.block=some (t,k+1):=by intro x v hx;unfold World.cell? at hx;unfold World.shape?;split at hx;rename_i c t f hh;simp only at hh hx ⊢;rw[hh];refine⟨t,c.size-1,?_⟩;have:x.off<c.size:=(by grind);simp;omega;cases hx
 obtain⟨tA,kA,hsa⟩:=shp a hua;obtain⟨tB,kB,hsb⟩:=shp b hub;have hnb:(a.block != b.block)=true:=by simpa using hne
 have aix:(a.block==b.block)=false:=by simpa using hne
 have aiy:w.frozen? b=false:=by have:=hfb b.off;obtain⟨bb,bo,bs⟩:=b;simp only at iU;subst iU;exact this
 have WC:=hfb (kB+1)
 change Sem.run P (α:=Value) (do
  let some t := (#[tS, tS] : Array TypeId)[0]? | stuck "slices.overlaps: no parameter types"
  let .slice elem ← underlying t | stuck "slices.overlaps: slice type expected"
  let size<-sizeOf elem
  match (some a:Option Addr),(some b:Option Addr)with
  |some a,some b =>
   if la=0\/lb=0\/size=0 then pure (Value.bool false)
   else if a.block != b.block&&(<- frozen a)&&(<- frozen b)then unsupported .addressObserved
   else do
    if a.block != b.block then do
     noView a;noView b
     if ← mayBeOne a b then return Value.bool ((← choose (.extern "sameAddr.stringBytes" 2)) == 1)
    pure (Value.bool (a.block==b.block&&a.off<b.off+lb*size&&b.off<a.off+la*size))
  |_,_=>pure (Value.bool false)) w=_
 by_cases h0:la=0\/lb=0\/size=0;simp[run_underlying ht,hz,h0];simp[run_underlying ht,hz,h0,hnb,aix,frozen,noView,viewAt,mayBeOne,stringish,shape,Sem.run,hsa,hsb,aiy,WC]
def uq{G:kE}:∀{l:L CV}{vs:L Value}(n:Nat),b9 G l vs->b9 G (l.take n) (vs.take n)
 |_,_,0,_=>by simp[b9]
 |[],vs,n+1,h=>by simp only[b9]at h;subst h;simp[b9]
 |c::l,vs,n+1,h=>by obtain⟨u,us,rfl,h1,h2⟩:=h;exact⟨u,_,rfl,h1,uq n h2⟩
def ur{G:kE}:∀{l:L CV}{vs:L Value}(n:Nat),b9 G l vs->b9 G (l.drop n) (vs.drop n)
 |_,_,0,h=>by simpa using h
 |[],vs,n+1,h=>by simp only[b9]at h;subst h;simp[b9]
 |c::l,vs,n+1,h=>by obtain⟨u,us,rfl,h1,h2⟩:=h;simpa using ur n h2
def qi{G:kE}:∀{l:L CV}{vs:L Value},b9 G l vs->vs.length=l.length
 |[],vs,h=>by simp only[b9]at h;subst h;rfl
 |c::l,vs,h=>by obtain⟨u,us,rfl,h1,h2⟩:=h;simp[qi h2]
def vA{s:Nat}{l:L CV}(h:∀r∈l,r.cells.length=s)(i:Nat)(U:i<=l.length):(bz l).take (i*s)=bz (l.take i):=by
 have e:l=l.take i++l.drop i:=(agc i l).symm;have h1:(bz (l.take i)).length=i*s:=by rw[dz (λr B=>h r (ahe B)),afb,aiv U]
 rw[e,dP];grind
def vB{s:Nat}{l:L CV}(h:∀r∈l,r.cells.length=s)(i:Nat)(U:i<=l.length):(bz l).drop (i*s)=bz (l.drop i):=by
 have e:l=l.take i++l.drop i:=(agc i l).symm;have h1:(bz (l.take i)).length=i*s:=by rw[dz (λr B=>h r (ahe B)),afb,aiv U]
 rw[e,dP];grind
section
variable {P : Program}{X : Ctx}{ops : Array Oper}{o : Oper}{rest : L Oper}{env : Env}{σ : St}{acc : L Fp}{Q : Env -> St -> L Fp -> Prop}
def ah.nE(hX:cB P X)(kn:L Nat)(G:cY ops.toList kn env o=some true){t:TypeId}{x V:Operand}(T:o.op = .indexAddr t x V){d:Nat}(I:o.dst=some d){i j:TI}{n e:Nat}(S:X.ti t=some i)(A:i.kind = .arr n e)
  (O:X.ti e=some j){Y off:Nat}(D:aG X env x=some (.ptr Y off)){U:AV}(N:aG X env V=some U){m:Nat}(q:asNat U=some m)(W:Nat.blt m n=true)
  (k:ah P X ops rest ((d,.ptr Y (off+m*j.size))::env) σ (⟨[],[]⟩::acc) Q):ah P X ops (o::rest) env σ acc Q:=by
 refine ah.look hX kn G I ?_ (by rw[T];rfl) k;rw[T];simp only[gv,S,D,N,q,A,O,W]
end
def iu{X:Ctx}{bs:L (Nat×L AV)}{env:Env}{t ty u:Nat}{i:TI}{Y off:Nat}{cells r:L AV}{v a:AV}(U:X.ti ty=some i)(D:aG X env (.tmp t)=some (.ptr Y off))(q:aq Y bs=some cells)
  (W:dV off cells=some r)(N:lO i r=some v)(T:aq u env=some a):kQ X bs env [.cell t ty,.tmp u]=some (.eF [v,a]):=by
 have h1:gv X bs (aG X env) (.load ty (.tmp t))=some v:=by simp only[gv,U,D,q,W,N]
 simp only[kQ,qT,h1,T]
def ux:∀l:L CV,oh (l.map AV.c)=some l
 |[]=>rfl
 |c::l=>by simp only[aeX,oh,close,ux l]
def JB{α:Type}:∀l:List α,takeN l.length l=some l
 |[]=>rfl
 |x::l=>by simp only[aag,takeN,JB l]
def C3{α:Type}:∀(a b:List α),takeN a.length (a++b)=some a
 |[],_=>rfl
 |x::a,b=>by simp only[aag,aeN,takeN,C3 a b]
def jg{α:Type}:∀(a b:List α),dV a.length (a++b)=some b
 |[],_=>rfl
 |x::a,b=>by simp only[aag,aeN,dV,jg a b]
def lz{α:Type}:∀(m n:Nat)(l r s:List α),dV m l=some r->dV n r=some s->dV (m+n) l=some s
 |0,n,l,r,s,h1,h2=>by simp only[dV]at h1;cases h1;rw[aeS];exact h2
 |m+1,n,[],r,s,h1,h2=>by simp only[dV]at h1;cases h1
 |m+1,n,x::l,r,s,h1,h2=>by rw[Nat.add_right_comm];exact lz m n l r s h1 h2
def x8:∀(a b:L AV),a.length=b.length->bG 0 a b=some a
 |[],[],_=>rfl
 |[],_::_,h=>by simp at h
 |_::_,[],h=>by simp at h
 |x::a,y::b,h=>by simp only[bG,x8 a b oe]
def Gk(x:AV):∀(a:L AV)(y:AV)(b:L AV),bG a.length [x] (a++y::b)=some (a++x::b)
 |[],y,b=>by cases b<;>simp only[aay,afM,bG]
 |z::a,y,b=>by simp only[aag,aeN,bG,Gk x a y b]
end Go.cw
namespace Go.cw
def B1(bs:L (Nat×L AV)):St:=⟨bs,[],bs.map (·.1)⟩
def HR(β:kz)(r:AV)(P:L (Nat×L AV)):Ending->World->Prop:=λe w' =>
 ∃u g',e = .returned u/\aP g' r u/\Inv w' g' (B1 P)/\iS β.w β.g β.σ w' g' (B1 P)
def cn(P:Program)(X:Ctx)(f:FuncId)(T:L (Nat×L AV))(M:L AV)(r:AV)(Y:L (Nat×L AV)):Prop :=
 Enters P f/\∀(g:Gh)(w:World)(vs:L Value),Inv w g (B1 T)->qJ X g.G->bW g M vs->Calls P f vs.toArray w (HR ⟨w,g,B1 T⟩ r Y)
mutual
def AV.rn(ψ:Nat->Nat):AV->AV
 |.ptr k o => .ptr (ψ k) o
 |.gY k o s n => .gY (ψ k) o s n
 |.agg l => .agg (Qa ψ l)
 |.eF l => .eF (Qa ψ l)
 |.c v => .c v
 |.own k s rows => .own k s rows
 |.any => .any
def Qa(ψ:Nat->Nat):L AV->L AV
 |[]=>[]
 |a::l=>a.rn ψ::Qa ψ l
end
mutual
def Uy(us:L Nat):AV->Bool
 |.own (.tok _ _) _ _=>false
 |.ptr k _=>mem k us
 |.gY k _ _ _=>mem k us
 |.agg l=>vJ us l
 |.eF l=>vJ us l
 |.own .exact _ _=>true
 |.c _=>true
 |.any=>true
def vJ(us:L Nat):L AV->Bool
 |[]=>true
 |a::l=>both (Uy us a) (vJ us l)
end
def Ae(ψ:Nat->Nat):∀l:L CV,Qa ψ (l.map AV.c)=l.map AV.c
 |[]=>rfl
 |c::l=>by simp only[aeX,Qa,AV.rn,Ae ψ l]
def tU(us:L Nat):∀l:L CV,vJ us (l.map AV.c)=true
 |[]=>rfl
 |c::l=>by simp only[aeX,vJ,Uy,both,tU us l]
section
variable {g g1 : Gh}{us : L Nat}{ψ : Nat -> Nat}
mutual
def X7(Y:g1.G=g.G)(h:∀k,mem k us=true->g1.box (ψ k)=g.box k/\g1.room (ψ k)=g.room k):∀{a:AV}{u:Value},Uy us a=true->aP g a u->aP g1 (a.rn ψ) u/\(a.one=true->(a.rn ψ).one=true)
 |.c v,u,_,B=>by simp only[AV.rn,aP,Y]at B ⊢;exact⟨B,id⟩
 |.own .exact s rows,u,_,B=>by simp only[AV.rn,aP,Y]at B ⊢;exact⟨B,id⟩
 |.own (.tok _ _) s rows,u,T,_=>by simp[Uy]at T
 |.ptr k o,u,T,B=>by simp only[AV.rn,aP,(h k T).1]at B ⊢;exact⟨B,λ_=>rfl⟩
 |.gY k o s n,u,T,B=>by simp only[AV.rn,aP,(h k T).1,(h k T).2]at B ⊢;exact⟨B,λ_=>rfl⟩
 |.any,u,_,B=>by simp only[aP]at B ⊢;exact⟨B,id⟩
 |.agg l,u,T,B=>by obtain⟨vs,e,h1,h2⟩:=B;obtain⟨K,W⟩:=Rg Y h T h1;exact⟨⟨vs,e,K,W h2⟩,λh=>by simp[AV.one]at h⟩
 |.eF l,u,T,B=>by obtain⟨vs,e,h1,h2⟩:=B;obtain⟨K,W⟩:=Rg Y h T h1;refine⟨⟨vs,e,K,?_⟩,λh=>by simp[AV.one]at h⟩;rw[(bW.get K).1,<- (bW.get h1).1];exact h2
def Rg(Y:g1.G=g.G)(h:∀k,mem k us=true->g1.box (ψ k)=g.box k/\g1.room (ψ k)=g.room k):∀{l:L AV}{vs:L Value},vJ us l=true->bW g l vs->bW g1 (Qa ψ l) vs/\(l.all AV.one=true->(Qa ψ l).all AV.one=true)
 |[],vs,_,B=>by simp only[bW]at B ⊢;exact⟨B,id⟩
 |a::l,vs,T,B=>by obtain⟨I,P⟩:=eo T;simp only[Qa,bW]at B ⊢;obtain⟨u,us',e,h1,h2⟩:=B;obtain⟨K,W⟩:=X7 Y h I h1;obtain⟨M,C⟩:=Rg Y h P h2;grind
end
def Ov{w:World}{b:Nat}(Y:g1.G=g.G)(h:∀k,mem k us=true->g1.box (ψ k)=g.box k/\g1.room (ψ k)=g.room k):∀{l:L AV}{o:Nat},vJ us l=true->cx w g b o l->cx w g1 b o (Qa ψ l)
 |[],_,_,_=>trivial
 |a::l,o,ho,⟨⟨u,W,K,T⟩,c4,c5⟩=>by obtain⟨I,P⟩:=eo ho;obtain⟨E,N⟩:=X7 Y h I K;exact⟨⟨u,W,E,N T⟩,c4,Ov Y h P c5⟩
end
def kR{α:Type}:L Nat->L (Nat×α)->L (Nat×α)
 |[],l=>l
 |k::ks,l=>EM k (kR ks l)
def tF{α:Type}{j:Nat}:∀{ks:L Nat}{l:L (Nat×α)},aq j (kR ks l)=if j∈ks then none else aq j l
 |[],l=>by simp[kR]
 |k::ks,l=>by simp only[kR,lA,tF (ks:=ks)];grind
def B2{α:Type}{j:Nat}:∀{a b:L (Nat×α)},aq j (a++b)=match aq j a with
  |some v=>some v
  |none=>aq j b
 |[],b=>rfl
 |(k,v)::a,b=>by simp only[aeN,aj,B2 (a:=a)];split<;>rfl
def Ow(ks:L Nat)(nb:L (Nat×L AV))(Y:L Nat)(σ:St):St:=⟨nb++kR ks σ.boxes,σ.toks,Y++σ.used⟩
def qV(ks:L Nat)(nb:L (Nat×L AV))(Y:L Nat):iJ (Ow ks nb Y) ⟨[],ks++nb.map (·.1)++Y⟩ where
 out:=λσ k A=>by simp only[aeK,not_or]at A;refine⟨?_,Z,?_⟩;simp only[Ow,B2,rF A.1.2,tF,if_neg A.1.1];simp only[Ow];simp_all
 same:=λσ N h k A=>by obtain⟨h1,h2,K⟩:=h k (.inr A);refine⟨?_,h2,?_⟩;simp only[Ow,B2,tF,h1];simp only[Ow,aeK,K]
structure HOk(bs:List (Nat×List AV))(us:List Nat)(bi bo:List (Nat×List AV))(bx po:List (Nat×Nat))(ψ:Nat->Nat)(nb:List (Nat×List AV)):Prop where
 d2:distinct (bx.map (·.2))=true
 keys:∀k kk,aq k bx=some kk->k∈bi.map (·.1)/\∃cs,aq kk bs=some cs
 cells:∀ts k cs,aq k bi=some cs->∃old oc,aq k bx=some old/\aq old bs=some oc/\fq ⟨λk=>aq k bx,λ_=>none⟩ ts cs oc
 nb:∀ck cs',aq ck nb=some cs'->∃ok cs,aq ck po=some ok/\aq ok bo=some cs/\cs'=Qa ψ cs
 psi:∀ck ok,aq ck po=some ok->ψ ok=ck
 outs:∀k,mem k (bo.map (·.1))=true->∃ck,aq ck po=some k
 kept:∀ck ok,aq ck po=some ok->(1000000<=ok/\aq ok bx=some ck/\aq ok bo≠none)\/(ck ∉ us/\ck<1000000)
 names:∀ok cs,aq ok bo=some cs->vJ (bo.map (·.1)) cs=true
def afU{w w':World}{g g':Gh}{σ:St}(H:Inv w g σ){bi q:L (Nat×L AV)}{bx po:L (Nat×Nat)}{ψ:Nat->Nat}{nb:L (Nat×L AV)}
  (C:HOk σ.boxes σ.used bi q bx po ψ nb)(hi':Inv w' g' (B1 q))(A:iS w (g.fY ⟨λk=>aq k bx,λ_=>none⟩) (B1 bi) w' g' (B1 q)) :
  let g1:Gh:=⟨g'.G,λk=>match aq k po with|some ok=>g'.box ok|none=>g.box k,g.tok,λk=>match aq k po with|some ok=>g'.room ok|none=>g.room k⟩;let MK:=Ow (bx.map (·.2)) nb (po.map (·.1)) σ
  Inv w' g1 MK/\iS w g σ w' g1 MK/\g.le g1/\∀k,mem k (q.map (·.1))=true->g1.box (ψ k)=g'.box k/\g1.room (ψ k)=g'.room k:=by
 intro g1 MK;have aiA:∀k b,(g.fY ⟨λk=>aq k bx,λ_=>none⟩).box k=some b->∃Y,aq k bx=some Y/\g.box Y=some b:=by intro k b e;simp only[Gh.fY]at e;grind
 have hrG:(g.fY ⟨λk=>aq k bx,λ_=>none⟩).G=g.G:=rfl;have own:∀b o,jH (g.fY ⟨λk=>aq k bx,λ_=>none⟩) (B1 bi) b o->∃Y O,Y∈bx.map (·.2)/\aq Y σ.boxes=some O/\g.box Y=some b:=by rintro b o (⟨k,cs,E,N⟩|⟨k,n,lo,hi,E,_⟩);obtain⟨Y,D,f2⟩:=aiA k b N;obtain⟨_,O,f3⟩:=C.keys k Y D;exact⟨Y,O,List.mem_map.2 ⟨_,dW D,Z⟩,f3,f2⟩;simp[B1,aq]at E
 have JW:∀b o,jH (g.fY ⟨λk=>aq k bx,λ_=>none⟩) (B1 bi) b o->jH g σ b o:=by intro b o h;obtain⟨Y,O,_,E,N⟩:=own b o h;exact .inl ⟨Y,O,E,N⟩
 have adM:∀k ok cs,aq k po=some ok->aq k σ.boxes=some cs->k∈bx.map (·.2):=by
  intro k ok cs E N;rcases C.kept k ok E with ⟨_,h,_⟩|⟨h,_⟩
  exact List.mem_map.2 ⟨_,dW h,Z⟩;obtain⟨b,U,_⟩:=H.box k cs N;exact absurd (H.used k (.inl (by rw[U];simp))) h
 have yp:∀k cs,aq k MK.boxes=some cs->(∃ok W,aq k po=some ok/\aq ok q=some W/\cs=Qa ψ W)\/(aq k po=none/\k ∉ bx.map (·.2)/\aq k σ.boxes=some cs):=by
  intro k cs e;simp only[MK,Ow,B2]at e;cases hn:aq k nb with
  |some v =>
   rw[hn]at e;simp at e;subst e;exact .inl (C.nb k v hn)
  |none =>
   rw[hn]at e;simp only[tF]at e;split at e;simp at e;rename_i hns;refine .inr ⟨?_,hns,e⟩;cases hp:aq k po with
   |none=>rfl
   |some ok=>exact absurd (adM k ok cs hp e) hns
 have hψ:∀k,mem k (q.map (·.1))=true->g1.box (ψ k)=g'.box k/\g1.room (ψ k)=g'.room k:=by intro k hkk;obtain⟨ck,h1⟩:=C.outs k hkk;have h2:=C.psi ck k h1;subst h2;simp only[g1,h1,and_self]
 have X0:∀k cs b,k ∉ bx.map (·.2)->aq k σ.boxes=some cs->g.box k=some b->∀o,¬jH (g.fY ⟨λk=>aq k bx,λ_=>none⟩) (B1 bi) b o:=by intro k cs b E N U o ho;obtain⟨Y,O,D,f2,f3⟩:=own b o ho;have:=H.gr k Y cs O b N f2 U f3;subst this;exact E D
 have hbn:∀k ok,aq k po=some ok->(∃b,g.box k=some b)->g'.box ok=g.box k/\g'.room ok=g.room k:=by
  intro k ok e ⟨b,U⟩;rcases C.kept k ok e with ⟨h1,h2,I⟩|⟨h1,_⟩
  obtain⟨_,h4,h5⟩:=A.ids ok h1 (by simpa[B1]using I);simp only[Gh.fY,h2]at h4 h5;exact⟨h4,h5⟩;exact absurd (H.used k (.inl (by rw[U];simp))) h1
 have hle:g.le g1:=by refine⟨λb o v h=>A.le b o v h,λk b h=>?_,λk b h=>?_,λk hw gQ h=>⟨hw,gQ,h,aaV _,λ_=>rfl⟩⟩;simp only[g1];split;rename_i ok e;rw[(hbn k ok e ⟨b,h⟩).1];exact h;exact h;simp only[g1];split;rename_i ok e;exact(hbn k ok e ⟨b,h⟩).2;rfl
 have V:∀b o,b<w.heap.size->¬jH (g.fY ⟨λk=>aq k bx,λ_=>none⟩) (B1 bi) b o->g.G b o=none->g'.G b o=none:=by
  intro b o U K h;cases hg:g'.G b o with
  |none=>rfl
  |some v =>
   rcases A.new b o v hg with T|T|T
   rw[hrG,h]at T;simp at T;omega;exact absurd T K
 have adK:∀k n b lo hi,aq k σ.toks=some n->g.tok k=some (n,some (b,lo,hi))->∀o,¬jH (g.fY ⟨λk=>aq k bx,λ_=>none⟩) (B1 bi) b o:=by intro k n b lo hi e E o ho;obtain⟨gQ,D,f2⟩:=H.tok k n e;rw[E]at D;simp at D;subst D;obtain⟨Y,O,_,N,e3⟩:=own b o ho;exact(f2 b lo hi Z).2.2 Y O N e3
 have S:∀ok W b,aq ok q=some W->g'.box ok=some b->w.heap.size<=b\/∃Y O,Y∈bx.map (·.2)/\aq Y σ.boxes=some O/\g.box Y=some b:=by
  intro ok W b E N;rcases A.boxes ok W b (by simpa[B1]using E) N with h|⟨k0,cs0,h1,h2⟩
  exact .inl h;exact .inr (own b 0 (.inl ⟨k0,cs0,h1,h2⟩))
 have acf:∀k cs b,aq k σ.boxes=some cs->g.box k=some b->b<w.heap.size/\(∀o,g.G b o=none)/\cx w g b 0 cs:=by intro k cs b e U;obtain⟨b',D,f2,f3,f4⟩:=H.box k cs e;rw[U]at D;cases D;exact⟨f2,f3,f4⟩
 have acg:∀k cs ok W b b',k ∉ bx.map (·.2)->aq k σ.boxes=some cs->g.box k=some b->aq ok q=some W->g'.box ok=some b'->b≠b':=by
  rintro k cs ok W b b' E N e3 e4 e5 rfl;rcases S ok W b e4 e5 with h|⟨Y,O,h1,h2,I⟩
  have:=(acf k cs b N e3).1;omega;have:=H.gr k Y cs O b N h2 e3 I;subst this;exact E h1
 refine⟨⟨hi'.qK,?_,?_,?_,?_,?_,?_⟩,⟨A.os,A.tape,A.output,A.size,λb U K=>A.block b U (λo ho=>K o (JW b o ho)),λb o U K=>A.kept b o U (λho=>K (JW b o ho)),hle.1,?_,?_,?_,?_⟩,hle,hψ⟩
 ·intro k cs e;rcases yp k cs e with ⟨ok,W,E,N,rfl⟩|⟨J,E,N⟩
  obtain⟨b,D,f2,f3,f4⟩:=hi'.box ok W (by simpa[B1]using N);exact⟨b,by simp only[g1,E];exact D,f2,f3,Ov (g:=g') (g1:=g1) (us:=q.map (·.1)) (show g'.G=g'.G from Z) hψ (C.names ok W N) f4⟩;obtain⟨b,b1,b2,b3,b4⟩:=H.box k cs N;have K:=X0 k cs b E N b1;exact⟨b,by simp only[g1,J];exact b1,agm b2 A.size,λo=>V b o b2 (K o) (b3 o),(cx.of_same (λo=>A.kept b o b2 (K o)) b4).mono hle⟩
 ·intro k k' cs O b e e' f f';simp only[g1]at f f';rcases yp k cs e with ⟨ok,W,E,N,_⟩|⟨J,E,N⟩
  ·rw[E]at f;rcases yp k' O e' with ⟨Q,X8,B,P,_⟩|⟨M,B,P⟩
   rw[B]at f';have:=hi'.gr ok Q W X8 b (by simpa[B1]using N) (by simpa[B1]using P) f f';subst this;rw[<- C.psi k ok E,<- C.psi k' ok B];rw[M]at f';exact absurd Z (acg k' O ok W b b B P f' N f)
  rw[J]at f;rcases yp k' O e' with ⟨Q,X8,B,P,_⟩|⟨M,B,P⟩
  rw[B]at f';exact absurd Z (acg k cs Q X8 b b E N f P f');rw[M]at f';exact H.gr k k' cs O b N P f f'
 ·intro k n e;obtain⟨gQ,h1,h2⟩:=H.tok k n e;refine⟨gQ,h1,λb lo hi hr=>?_⟩;obtain⟨I,h4,h5⟩:=h2 b lo hi hr;subst hr;refine⟨agm I A.size,λo N8 QY=>?_,λk' cs e' f'=>?_⟩;obtain⟨h6,⟨u,h7⟩,h8⟩:=h4 o N8 QY;have K:=adK k n b lo hi e h1 o;exact⟨V b o I K h6,⟨u,(A.kept b o I K).1.trans h7⟩,(A.kept b o I K).2.trans h8⟩;simp only[g1]at f';rcases yp k' cs e' with ⟨Q,X8,B,P,_⟩|⟨M,B,P⟩
  ·rw[B]at f';rcases S Q X8 b P f' with h|⟨Y,O,g1',g2',g3'⟩
   omega;exact h5 Y O g2' g3'
  rw[M]at f';exact h5 k' cs P f'
 exact H.iF
 ·intro k e;show k∈po.map (·.1)++σ.used;simp only[g1]at e;rw[aeK];cases hp:aq k po with
  |some ok=>exact .inl (List.mem_map.2 ⟨_,dW hp,Z⟩)
  |none =>
   rw[hp]at e;exact .inr (H.used k e)
 ·intro k cs b e f o;simp only[g1]at f ⊢;rcases yp k cs e with ⟨ok,W,E,N,_⟩|⟨J,E,N⟩
  rw[E]at f ⊢;exact hi'.room ok W b (by simpa[B1]using N) f o;rw[J]at f ⊢;have K:=X0 k cs b E N f o;have b2:=(acf k cs b N f).1;obtain⟨q1,q2⟩:=H.room k cs b N f o;exact⟨λho=>(q1 ho).imp λu hu=>(A.kept b o b2 K).1.trans hu,(A.kept b o b2 K).2.trans q2⟩
 ·intro b o v h;rcases A.new b o v h with T|T|T
  exact .inl T;exact .inr (.inl T);exact .inr (.inr (JW b o T))
 ·intro k cs b e f;simp only[g1]at f;rcases yp k cs e with ⟨ok,W,E,N,_⟩|⟨J,E,N⟩
  ·rw[E]at f;rcases S ok W b N f with h|⟨Y,O,h1,h2,I⟩
   exact .inl h;exact .inr ⟨Y,O,h2,I⟩
  rw[J]at f;exact .inr ⟨k,cs,N,f⟩
 intro k n b lo hi e E;exact .inr ⟨k,n,lo,hi,e,E,aaV _,aaV _⟩;intro k FA e;cases hc:aq k MK.boxes with
 |none=>exact absurd hc e
 |some cs =>
  rcases yp k cs hc with ⟨ok,W,E,N,_⟩|⟨J,E,N⟩
  ·rcases C.kept k ok E with ⟨h1,h2,I⟩|⟨_,h2⟩
   obtain⟨_,O,h4⟩:=C.keys ok k h2;obtain⟨b,U,_⟩:=H.box k O h4;obtain⟨q1,q2⟩:=hbn k ok E ⟨b,U⟩;exact⟨by rw[h4];simp,by simp only[g1,E];exact q1,by simp only[g1,E];exact q2⟩;omega
  exact⟨by rw[N];simp,by simp only[g1,J],by simp only[g1,J]⟩
section
variable {P : Program}{X : Ctx}
def bN.Bx{o:Oper}{env:Env}{σ:St}{f:FuncId}{args:Array Operand}{T:Array TypeId}(J:o.op = .call {callee := .value (.func f),args:=args,argTypes:=T})
  {l:L AV}(q:gI (aG X env) args.toList=some l){O V:L (Nat×L AV)}{I:L AV}{r:AV}(hq:cn P X f O I r V){bx po:L (Nat×Nat)}{ψ:Nat->Nat}{nb:L (Nat×L AV)}
  (pX:∀ts,fq ⟨λk=>aq k bx,λ_=>none⟩ ts I l)(C:∀bs us,(∀k∈bx.map (·.2),aq k bs=aq k σ.boxes)->(∀k∈po.map (·.1),k∈us↔k∈σ.used)->HOk bs us O V bx po ψ nb)(hr:Uy (V.map (·.1)) r=true) :
  bN P X o env σ (r.rn ψ) (Ow (bx.map (·.2)) nb (po.map (·.1))) ⟨[],bx.map (·.2)++nb.map (·.1)++po.map (·.1)⟩:=by
 intro de N w g a next Q h1 h2 H G dr Y;have U:=C N.boxes N.used (λk A=>(h2 k (.inr (by simp only[aeK];exact .inl (.inl A)))).1) (λk A=>(h2 k (.inr (by simp only[aeK];exact .inr A))).2.2);have sD:∀x∈args.toList,x∈o.op.operands.toList:=by intro x D;rw[J];simp only[Op.operands,Call.operands,afG,aeK];exact .inr D
 have zY:gI (aG X de) args.toList=some l:=by rw[vY _ (λx D=>h1 x (sD x D))];exact q
 have gZ:=Dk (g:=g) (ev:=a.eval) (λx v D=>cr dr G D) zY;have S:(execOp a.eval o).run P w = .ok (.enter f (args.map a.eval)) w:=by obtain⟨dst,op,B,pos,M,guard⟩:=o;subst J;simp[execOp,resolve,Deferred.ofValue,invoke,Act.eval,hq.1 _ w]
 unfold Oper.wp;rw[S,Oper.upon_enter]
 have K:=(H.fY ⟨λk=>aq k bx,λ_=>none⟩ (B1 O) (λk cs e=>by
   obtain⟨W,oc,e1,e2,e3⟩:=U.cells N.toks k cs e;exact⟨W,oc,e1,e2,e3⟩) (λk k' W e e'=>oI U.d2 (dW e) (dW e')) (λk n e=>by simp[B1,aq]at e) (λk k' m m' W e=>by simp at e) (λk e=>by
   simp at e;cases E:aq k bx with
   |none=>exact absurd E e
   |some kk=>exact(U.keys k kk E).1)).1
 have:=hq.2 (g.fY ⟨λk=>aq k bx,λ_=>none⟩) w (args.toList.map a.eval) K G (ym (qu H) (pX N.toks) gZ).1;rw[show(args.toList.map a.eval).toArray=args.map a.eval from by rw[<- agI]]at this;refine this.mono ?_;rintro e w' ⟨u,g',rfl,h3,h4,h5⟩;obtain⟨k1,k2,k3,k4⟩:=afU H U h4 h5;refine Y u w' _ ?_ k1 k2 k3;exact(X7 (g:=g') (us:=V.map (·.1)) UI k4 hr h3).1
end
end Go.cw
namespace Go.cw
def cn.of{P:Program}{X:Ctx}{f:FuncId}{C:Func}{c:Code}{T U:L (Nat×L AV)}{M:L AV}{r:AV}(hf:P.funcs[f]?=some C)(q:C.body=some c)(N:Enters P f)
  (hn:M.length<=C.ntmps)(env:Env)(σ:St)(K:env=(M.zipIdx.map λ(v,i)=>(i,v)))(W:B1 T=σ)
  (h:∀β,AK P X f C.ntmps β (HR β r U) [.code c] env σ):cn P X f T M r U:=by
 subst W;refine⟨N,λg w vs H I O cs=>?_⟩;have S:=(bW.get O).1;have J:Live X ⟨w,g,B1 T⟩ C.ntmps env (B1 T) g w {tmps:=vs.toArray++Array.replicate (C.ntmps-vs.toArray.size) undef,defers:=[]}:=by
  refine⟨H,I,?_,iS.refl _ _ _,?_,Z⟩
  ·intro t a e;subst K;have V:∀(l:L AV)(us:L Value)(k:Nat),bW g l us->aq t ((l.zipIdx k).map λ(v,i)=>(i,v))=some a->k<=t/\∃u,us[t-k]?=some u/\aP g a u:=by
    intro l
    induction l with
    |nil=>intro us k _ e;simp[aq]at e
    |cons v l ih =>
     intro us k B e;obtain⟨u,us,rfl,h1,h2⟩:=B;simp only[agR,aeX,aj]at e;grind
   obtain⟨_,u,Y,Q⟩:=V M vs 0 O e;simp at Y;have G:t<vs.length:=(List.getElem?_eq_some_iff.1 Y).1;have:(vs.toArray++Array.replicate (C.ntmps-vs.toArray.size) undef).getD t undef=u:=(by rw[agA,afq aep];simp[Y]);rw[this];exact Q
  simp;omega
 obtain⟨e,w',E,h1,Y,Q,D⟩:=h ⟨w,g,B1 T⟩ g w _ cs J;have A:Frame.enter P f vs.toArray .normal =
   (top f).at {tmps:=vs.toArray++Array.replicate (C.ntmps-vs.toArray.size) undef,defers:=[]} [.code c]:=by
  simp[Frame.enter,Frame.at,hf,q,top]
 exact⟨_,w',E,h1,by rw[A];exact Y,Q,D⟩
def zZ:L AV->AV
 |[] => .c .undef
 |[x]=>x
 |l => .eF l
def xQ(bx:L (Nat×Nat))(ks:L Nat):Bool:=both (distinct (bx.map (·.2))) (both (JS bx) (GN ks (gT bx)))
section
variable {P : Program}{X : Ctx}{f : FuncId}{n : Nat}{β : kz}{K : L Item}{env : Env}
def AK.G0(M:(∃S,K = .code .ret::S)\/K=[])(hX:cB P X){C:Func}(hf:P.funcs[f]?=some C){bs:L (Nat×L AV)}{ts:L (Nat×Nat)}{us:L Nat}{l:L AV}(B:qT X bs env C.results.toList=some l)(bx:L (Nat×Nat)){r:AV}{V:L (Nat×L AV)}
  (I:xQ bx (gT V)=true)(T:Conv ⟨λk=>aq k bx,λ_=>none⟩ ts r (Go.cw.zZ l))(U:JQ ⟨λk=>aq k bx,λ_=>none⟩ ts bs V):AK P X f n β (HR β r V) K env ⟨bs,ts,us⟩:=by
 intro g w a cs J;obtain⟨H,I⟩:=eo I;obtain⟨G,Q⟩:=eo I;rw[mN]at Q;obtain⟨u,O,Y⟩:=qY hX J B;obtain⟨N,A⟩:=J.inv.fY ⟨λk=>aq k bx,λ_=>none⟩ (B1 V) (λk cells e=>vh U k cells e) (λk k' W E q=>oI H (dW E) (dW q))
  (λk n e=>by simp[B1,aq]at e) (λk k' m m' W e=>by simp at e) (λk e=>by
   simp at e;have:=vg Q k (by rw[mN];exact pN e)
   exact this)
 suffices hR:aP (g.fY ⟨λk=>aq k bx,λ_=>none⟩) r u/\∀k,1000000<=k->aq k (B1 V).boxes≠none->aq k bx=some k by
  rcases M with ⟨S,rfl⟩|rfl
  exact⟨.returned u,w,_,⟨u,_,Z,hR.1,N,J.frame.trans (A hR.2)⟩,.one step_ret,Z,Z,J.defers,Z,C,hf,O⟩;exact⟨.returned u,w,_,⟨u,_,Z,hR.1,N,J.frame.trans (A hR.2)⟩,.one step_end,Z,Z,J.defers,Z,C,hf,O⟩
 refine⟨?_,λk D e=>?_⟩
 ·refine(tC (qu J.inv) T ?_).1
  match l,B,Y with
  |[],_,Y=>simp only[Go.cw.zZ];exact Y
  |[x],_,Y=>exact Y
  |x::y::r,_,Y=>exact Y
 cases I:aq k (B1 V).boxes with
 |none=>exact absurd I e
 |some c =>
  obtain⟨W,oc,q1,q2,_⟩:=vh U k c I;have:=zB G k W D q1;simp_all
def AK.zZ(hX:cB P X){C:Func}(hf:P.funcs[f]?=some C){bs:L (Nat×L AV)}{ts:L (Nat×Nat)}{us:L Nat}{l:L AV}(B:qT X bs env C.results.toList=some l)(bx:L (Nat×Nat)){r:AV}{Y:L (Nat×L AV)}
  (I:xQ bx (gT Y)=true)(W:Conv ⟨λk=>aq k bx,λ_=>none⟩ ts r (Go.cw.zZ l))(V:JQ ⟨λk=>aq k bx,λ_=>none⟩ ts bs Y):AK P X f n β (HR β r Y) (.code .ret::K) env ⟨bs,ts,us⟩ :=
 AK.G0 (.inl ⟨_,Z⟩) hX hf B bx I W V
end
structure MC(c:Nat->Nat->List AV):Prop where
 conv:∀(ρ:Ren)(ts:List (Nat×Nat))(a b a' b':Nat),ρ.bx a=some a'->ρ.bx b=some b'->fq ρ ts (c a b) (c a' b')
 rn:∀(ψ:Nat->Nat)(a b:Nat),Qa ψ (c a b)=c (ψ a) (ψ b)
 ok:∀(us:List Nat)(a b:Nat),mem a us=true->mem b us=true->vJ us (c a b)=true
abbrev mI(c:Nat->Nat->L AV)(s f:L CV):L (Nat×L AV):=[(1000000,c 1000001 1000002),(1000001,s.map AV.c),(1000002,f.map AV.c)]
abbrev mO(c:Nat->Nat->L AV)(s f:L CV):L (Nat×L AV):=[(1000000,c 999991 999992),(999991,s.map AV.c),(999992,f.map AV.c)]
abbrev mI1(c:Nat->Nat->L AV)(f:L CV):L (Nat×L AV):=[(1000000,c 0 1000002),(1000002,f.map AV.c)]
abbrev mO1(c:Nat->Nat->L AV)(f:L CV):L (Nat×L AV):=[(1000000,c 0 999992),(999992,f.map AV.c)]
def Ez(km W a2:Nat)(k:Nat):Nat:=match Nat.beq k 1000000 with
 |true=>km
 |false=>match Nat.beq k 999991 with
  |true=>W
  |false=>match Nat.beq k 999992 with
   |true=>a2
   |false=>k
def yq(us:L Nat)(km u fk W a2:Nat):Bool :=
 both (distinct [km,u,fk]) (both (distinct [km,W,a2]) (both (match mem W us with|true=>false|false=>true) (both (match mem a2 us with|true=>false|false=>true) (both (Nat.blt W 1000000) (Nat.blt a2 1000000)))))
def B3(us:L Nat)(km fk a2:Nat):Bool:=both (distinct [km,fk]) (both (distinct [km,a2]) (both (match mem a2 us with|true=>false|false=>true) (Nat.blt a2 1000000)))
def Ds{a b c:Nat}(h:distinct [a,b,c]=true):a≠b/\a≠c/\b≠c:=by simp only[distinct]at h;split at h;grind;rename_i h1;split at h;grind;rename_i h2;have K:=cT h1;have Y:=cT h2;simp_all
def aiD{bs:L (Nat×L AV)}{us:L Nat}{c c':Nat->Nat->L AV}(I:MC c)(A:MC c'){s f O f':L CV}{km u fk W a2:Nat}(N:yq us km u fk W a2=true)
  (h1:aq km bs=some (c u fk))(h2:aq u bs=some (s.map AV.c))(K:aq fk bs=some (f.map AV.c)) :
  HOk bs us (mI c s f) (mO c' O f') [(1000000,km),(1000001,u),(1000002,fk)] [(km,1000000),(W,999991),(a2,999992)] (Ez km W a2) [(km,c' W a2),(W,O.map AV.c),(a2,f'.map AV.c)]:=by
 unfold yq at N;obtain⟨q,N⟩:=eo N;obtain⟨Q,N⟩:=eo N;obtain⟨T,N⟩:=eo N;obtain⟨P,N⟩:=eo N;obtain⟨S,M⟩:=eo N;have Y:mem W us=false:=by split at T<;>simp_all
 have V:mem a2 us=false:=by split at P<;>simp_all
 obtain⟨E,U,n3⟩:=Ds Q;refine⟨q,?_,?_,?_,?_,?_,?_,?_⟩;intro k D e;simp only[aj]at e;split at e;simp_all;split at e;simp_all;split at e;simp_all;simp[aq]at e;intro ts k cs e;simp only[aj]at e;split at e;simp at e;subst_vars;exact⟨km,_,fe,h1,I.conv _ _ _ _ _ _ fe fe⟩;split at e;simp at e;subst_vars;exact⟨u,_,fe,h2,cJ _⟩;split at e;simp at e;subst_vars;exact⟨fk,_,fe,K,cJ _⟩;simp[aq]at e;intro J H e;simp only[aj]at e;split at e;simp at e;subst_vars;exact⟨1000000,c' 999991 999992,fe,fe,by rw[A.rn];rfl⟩;split at e;simp at e;subst_vars;exact⟨999991,O.map AV.c,by simp[aj,Ne.symm E],fe,ad0⟩;split at e;simp at e;subst_vars;exact⟨999992,f'.map AV.c,by simp[aj,Ne.symm U,Ne.symm n3],fe,ad0⟩;simp[aq]at e;intro J ok e;simp only[aj]at e;split at e;simp at e;subst_vars;rfl;split at e;simp at e;subst_vars;rfl;split at e;simp at e;subst_vars;rfl;simp[aq]at e
 ·intro k G;have B:=mem_iff.1 G;simp at B;rcases B with rfl|rfl|rfl
  exact⟨km,fe⟩;exact⟨W,by simp[aj,Ne.symm E]⟩;exact⟨a2,by simp[aj,Ne.symm U,Ne.symm n3]⟩
 intro J ok e;simp only[aj]at e;split at e;simp at e;subst_vars;exact .inl ⟨aaV _,fe,fe⟩;split at e;simp at e;subst_vars;exact .inr ⟨cT Y,Nat.blt_eq.mp S⟩;split at e;simp at e;subst_vars;exact .inr ⟨cT V,Nat.blt_eq.mp M⟩;simp[aq]at e;intro ok cs e;simp only[aj]at e;split at e;simp at e;subst_vars;exact A.ok _ _ _ Z Z;split at e;simp at e;subst_vars;exact tU _ _;split at e;simp at e;subst_vars;exact tU _ _;simp[aq]at e
def afX{bs:L (Nat×L AV)}{us:L Nat}{c c':Nat->Nat->L AV}(M:MC c)(A:MC c')(H:∀ρ ts b O,ρ.bx b=some O->fq ρ ts (c 0 b) (c 0 O))(Y:∀us b,mem b us=true->vJ us (c' 0 b)=true)(I:∀a b,c' a b=c' 0 b){f f':L CV}{km fk a2:Nat}(N:B3 us km fk a2=true)
  (h1:aq km bs=some (c 0 fk))(K:aq fk bs=some (f.map AV.c)) :
  HOk bs us (mI1 c f) (mO1 c' f') [(1000000,km),(1000002,fk)] [(km,1000000),(a2,999992)] (Ez km (a2+1) a2) [(km,c' 0 a2),(a2,f'.map AV.c)]:=by
 obtain⟨q,N⟩:=eo N;obtain⟨Q,N⟩:=eo N;obtain⟨P,U⟩:=eo N;have W:mem a2 us=false:=by split at P<;>simp_all
 have V:km≠a2:=by simp only[distinct]at Q;split at Q;grind;rename_i h;have:=cT h;simp at this;exact this
 refine⟨q,?_,?_,?_,?_,?_,?_,?_⟩;intro k J e;simp only[aj]at e;split at e;simp_all;split at e;simp_all;simp[aq]at e;intro ts k cs e;simp only[aj]at e;split at e;simp at e;subst_vars;exact⟨km,_,fe,h1,H _ _ _ _ fe⟩;split at e;simp at e;subst_vars;exact⟨fk,_,fe,K,cJ _⟩;simp[aq]at e;intro u T e;simp only[aj]at e;split at e;simp at e;subst_vars;exact⟨1000000,c' 0 999992,fe,fe,by rw[A.rn,I];rfl⟩;split at e;simp at e;subst_vars;exact⟨999992,f'.map AV.c,by simp[aj,Ne.symm V],fe,ad0⟩;simp[aq]at e;intro u ok e;simp only[aj]at e;split at e;simp at e;subst_vars;rfl;split at e;simp at e;subst_vars;rfl;simp[aq]at e
 ·intro k S;have B:=mem_iff.1 S;simp at B;rcases B with rfl|rfl
  exact⟨km,fe⟩;exact⟨a2,by simp[aj,Ne.symm V]⟩
 intro u ok e;simp only[aj]at e;split at e;simp at e;subst_vars;exact .inl ⟨aaV _,fe,fe⟩;split at e;simp at e;subst_vars;exact .inr ⟨cT W,Nat.blt_eq.mp U⟩;simp[aq]at e;intro ok cs e;simp only[aj]at e;split at e;simp at e;subst_vars;exact Y _ _ Z;split at e;simp at e;subst_vars;exact tU _ _;simp[aq]at e
section
variable {P : Program}{X : Ctx}{ops : Array Oper}{o : Oper}{rest : L Oper}{env : Env}{acc : L Fp}{Q : Env -> St -> L Fp -> Prop}{bs : L (Nat × L AV)}{ts : L (Nat × Nat)}{us : L Nat}
def jj{bs bs':L (Nat×L AV)}{ks:L Nat}(h:∀k∈ks,aq k bs'=aq k bs){k:Nat}(A:k∈ks){v:L AV}(e:aq k bs=some v):aq k bs'=some v:=by rw[h k A];exact e
def UZ{us us':L Nat}{km u fk W a2:Nat}(h:∀k∈[km,W,a2],k∈us'↔k∈us)(e:yq us km u fk W a2=true):yq us' km u fk W a2=true:=by
 have q:∀k∈[km,W,a2],mem k us'=mem k us:=by intro k A;rw[afT,mem_iff,mem_iff];exact h k A
 unfold yq at e ⊢;simp_all
def ah.afY(kn:L Nat)(G:cY ops.toList kn env o=some true){f:FuncId}{args:Array Operand}{H:Array TypeId}(K:o.op = .call {callee := .value (.func f),args:=args,argTypes:=H})
  {c c':Nat->Nat->L AV}{s V O Y:L CV}{T:L AV}{r:AV}(hq:cn P X f (mI c s V) T r (mO c' O Y))(I:MC c)(A:MC c'){d:Nat}(J:o.dst=some d)
  {l:L AV}(E:gI (aG X env) args.toList=some l){km:Nat}{D:L AV}(B:l = .ptr km 0::D){u fk:Nat}{N S C:L AV}(h1:aq km bs=some N)(q:N=c u fk)(h2:aq u bs=some S)(e2:S=s.map AV.c)(h3:aq fk bs=some C)(e3:C=V.map AV.c)
  (pX:∀ts,fq ⟨λk=>aq k [(1000000,km),(1000001,u),(1000002,fk)],λ_=>none⟩ ts T l)(jR:yq us km u fk (100000+d) (200000+d)=true)(hr:Uy [1000000,999991,999992] r=true){M:AV}(W:r.rn (Ez km (100000+d) (200000+d))=M)
  {bs':L (Nat×L AV)}(iU:kR [km,u,fk] bs=bs')
  (k:ah P X ops rest ((d,M)::env) ⟨(km,c' (100000+d) (200000+d))::(100000+d,O.map AV.c)::(200000+d,Y.map AV.c)::bs',ts,km::(100000+d)::(200000+d)::us⟩ (⟨[],[km,u,fk,km,100000+d,200000+d,km,100000+d,200000+d]⟩::acc) Q):ah P X ops (o::rest) env ⟨bs,ts,us⟩ acc Q:=by
 subst W iU q e2 e3;have hs:=bN.Bx (env:=env) (σ:=⟨bs,ts,us⟩) K E hq (bx:=[(1000000,km),(1000001,u),(1000002,fk)]) (po:=[(km,1000000),(100000+d,999991),(200000+d,999992)]) (ψ:=Ez km (100000+d) (200000+d)) pX
  (λNh KQ U hu=>aiD I A (UZ hu jR) (jj U cc h1) (jj U cc h2) (jj U cc h3)) hr
 exact ah.step (dh G) hs (qV _ _ _) (by rw[J];exact k)
def ah.adN(kn:L Nat)(G:cY ops.toList kn env o=some true){f:FuncId}{args:Array Operand}{H:Array TypeId}(K:o.op = .call {callee := .value (.func f),args:=args,argTypes:=H})
  {c c':Nat->Nat->L AV}{U Y:L CV}{T:L AV}{r:AV}(hq:cn P X f (mI1 c U) T r (mO1 c' Y))(I:MC c)(A:MC c')(B:∀ρ ts b O,ρ.bx b=some O->fq ρ ts (c 0 b) (c 0 O))(W:∀us b,mem b us=true->vJ us (c' 0 b)=true)(J:∀a b,c' a b=c' 0 b){d:Nat}(E:o.dst=some d)
  {l:L AV}(D:gI (aG X env) args.toList=some l){km:Nat}{u:L AV}(hl':l = .ptr km 0::u){fk:Nat}{N C:L AV}(h1:aq km bs=some N)(e1:N=c 0 fk)(h3:aq fk bs=some C)(e3:C=U.map AV.c)
  (pX:∀ts,fq ⟨λk=>aq k [(1000000,km),(1000002,fk)],λ_=>none⟩ ts T l)(q:B3 us km fk (200000+d)=true)(hr:Uy [1000000,999992] r=true){S:AV}(V:r.rn (Ez km (200000+d+1) (200000+d))=S)
  {bs':L (Nat×L AV)}(iU:kR [km,fk] bs=bs')
  (k:ah P X ops rest ((d,S)::env) ⟨(km,c' 0 (200000+d))::(200000+d,Y.map AV.c)::bs',ts,km::(200000+d)::us⟩ (⟨[],[km,fk,km,200000+d,km,200000+d]⟩::acc) Q):ah P X ops (o::rest) env ⟨bs,ts,us⟩ acc Q:=by
 subst V iU e1 e3;have hs:=bN.Bx (env:=env) (σ:=⟨bs,ts,us⟩) K D hq (bx:=[(1000000,km),(1000002,fk)]) (po:=[(km,1000000),(200000+d,999992)]) (ψ:=Ez km (200000+d+1) (200000+d)) pX
  (λNh KQ M hu=>afX I A B W J (by
   have hm:mem (200000+d) KQ=mem (200000+d) us:=(by rw[afT,mem_iff,mem_iff];exact hu _ cc);unfold B3 at q ⊢
   rw[hm];exact q) (jj M cc h1) (jj M cc h3)) hr
 exact ah.step (dh G) hs (qV _ _ _) (by rw[E];exact k)
end
end Go.cw
namespace Go.cw
def cx.head{w:World}{g:Gh}{b:Nat}:∀{cells tail:L AV}{o:Nat},cx w g b o (cells++tail)->cx w g b o cells
 |[],_,_,_=>trivial
 |_::_,_,_,⟨h1,h2,K⟩=>⟨h1,h2,cx.head K⟩
def Ti{w:World}{g:Gh}{σ:St}(h:Inv w g σ){Y:Nat}{cells cells':L AV}(A:aq Y σ.boxes=some cells)(I:∀b,g.box Y=some b->cx w g b 0 cells->cx w g b 0 cells') :
  Inv w g ⟨xd Y cells' σ.boxes,σ.toks,σ.used⟩/\iS w g σ w g ⟨xd Y cells' σ.boxes,σ.toks,σ.used⟩:=by
 have G:∀k cs,aq k (xd Y cells' σ.boxes)=some cs->(k=Y/\cs=cells')\/aq k σ.boxes=some cs:=by intro k cs e;rw[fj]at e;grind
 have D:∀k cs,aq k (xd Y cells' σ.boxes)=some cs->∃H,aq k σ.boxes=some H:=by grind
 refine⟨⟨h.qK,?_,?_,?_,h.iF,h.used,?_⟩,⟨Z,Z,Z,aaV _,λ_ _ _=>rfl,λ_ _ _ _=>⟨Z,Z⟩,kE.le.refl _,λ_ _ _ h => .inl h,λk cs b h1 h2=>?_,
   λk n b J U h1 h2 => .inr ⟨k,n,J,U,h1,h2,aaV _,aaV _⟩,λk _ e=>?_⟩⟩
 ·intro k cs e;rcases G k cs e with ⟨rfl,rfl⟩|e'
  obtain⟨b,P,N,E,C⟩:=h.box k _ A;simp_all;exact h.box k cs e'
 intro k k' cs O b e e';obtain⟨W,q⟩:=D k cs e;obtain⟨V,T⟩:=D k' O e';exact h.gr k k' W V b q T;intro k n e;obtain⟨S,h1,h2⟩:=h.tok k n e;refine⟨S,h1,λb J U B=>?_⟩;obtain⟨K,Q,M⟩:=h2 b J U B;refine⟨K,Q,λk' cs e'=>?_⟩;obtain⟨W,q⟩:=D k' cs e';exact M k' W q;intro k cs b e;obtain⟨W,q⟩:=D k cs e;exact h.room k W b q;grind;cases I:aq k (xd Y cells' σ.boxes)with
 |none=>exact absurd I e
 |some cs =>
  obtain⟨W,q⟩:=D k cs I;exact⟨by rw[q];simp,Z,Z⟩
section
variable {P : Program}{X : Ctx}{f : FuncId}{n : Nat}{β : kz}{R : Ending -> World -> Prop}{K : L Item}{env : Env}
def AK.yu{bs:L (Nat×L AV)}{ts:L (Nat×Nat)}{us:L Nat}(Y:Nat){cells:L AV}(cells' tail:L AV)(A:aq Y bs=some cells)(I:cells=cells'++tail){bs':L (Nat×L AV)}(U:Ai Y cells' bs=some bs')
  (h:AK P X f n β R K env ⟨bs',ts,us⟩):AK P X f n β R K env ⟨bs,ts,us⟩:=by
 rw[uV]at U;simp at U;subst U I;intro g w a cs u;obtain⟨Q,S⟩:=Ti u.inv (cells':=cells') A (λb _ I=>I.head);exact h g w a cs ⟨Q,u.uX,u.env,u.frame.trans S,u.size,u.defers⟩
def G1{w:World}{g:Gh}{b:Nat}{x y:AV}:∀{pre tail:L AV}{o:Nat},(∀u,aP g x u->aP g y u)->(x.one=true->y.one=true)->cx w g b o (pre++x::tail)->cx w g b o (pre++y::tail)
 |[],_,_,B,T,⟨⟨u,h1,h2,K⟩,h4,h5⟩=>⟨⟨u,h1,B u h2,T K⟩,h4,h5⟩
 |_::_,_,_,B,T,⟨h1,h2,K⟩=>⟨h1,h2,G1 B T K⟩
def AK.empty{bs:L (Nat×L AV)}{ts:L (Nat×Nat)}{us:L Nat}(Y W s:Nat)(pre tail:L AV){cells T:L AV}{E:Nat}(A:aq Y bs=some cells)(I:cells=pre ++ .own .exact E []::tail)(M:aq W bs=some T)
  {bs':L (Nat×L AV)}(U:Ai Y (pre ++ .gY W 0 s 0::tail) bs=some bs')(h:AK P X f n β R K env ⟨bs',ts,us⟩):AK P X f n β R K env ⟨bs,ts,us⟩:=by
 rw[uV]at U;simp at U;subst U I;intro g w a cs J;obtain⟨S,V,_⟩:=J.inv.box W T M
 obtain⟨Q,B⟩:=Ti J.inv (cells':=pre ++ .gY W 0 s 0::tail) A (λb _ I=>G1 (λu O=>by
  obtain⟨base,N,q,H,G,D,_,C⟩:=O;subst G C
  exact⟨S,0,base,V,H,aaV _,cc,.inl Z⟩) (λ_=>rfl) I)
 exact h g w a cs ⟨Q,J.uX,J.env,J.frame.trans B,J.size,J.defers⟩
end
section
variable {P : Program}{X : Ctx}
def bN.Fe(hX:cB P X){o:Oper}{env:Env}{σ:St}{t:TypeId}{x:Operand}{U O:Option Operand}(T:o.op = .slice t x none U O){i j:TI}{e:Nat}(G:X.ti t=some i)(E:i.kind = .slice e)(u:X.ti e=some j)
  {W off s n:Nat}(ha:aG X env x=some (.gY W off s n))(hs:j.size=s){h:Nat}(hh:bound (aG X env) U=some (some h))(hm:bound (aG X env) O=some (some h))(h1:h<=n) :
  bN P X o env σ (.gY W off s h) (λσ=>σ) ⟨[],[]⟩:=by
 refine bN.val λM w g A S jl I V=>?_;have zY:aG X M x=some (.gY W off s n):=by rw[S x ab2];exact ha
 have Q:bound (aG X M) U=some (some h):=by rw[mm U (λy q=>S y (by rw[T];subst q;simp[Op.operands]))];exact hh
 have K:bound (aG X M) O=some (some h):=by rw[mm O (λy q=>S y (by rw[T];subst q;simp[Op.operands]))];exact hm
 have r1:=cr (a:=A) V I zY;obtain⟨b,N,C,MJ,e1,Y,hrm,J⟩:=r1;have b1:gR ((none:Option Operand).map A.eval) none:=qo (g:=g) (ev:=A.eval) (ρ:=aG X M) (λx v D=>cr V I D) Z;have b2:=qo (g:=g) (ev:=A.eval) (λx v D=>cr V I D) Q;have b3:=qo (g:=g) (ev:=A.eval) (λx v D=>cr V I D) K;have hb:∀w,(Instr.sliceBounds true n N ((none:Option Operand).map A.eval) (U.map A.eval) (O.map A.eval)).run P w = .ok (0,h,h) w :=
  λw=>r9 true b3 b2 b1 (afC h1 Y) (aaV _)
 refine⟨.slice (if h=0 then C else C.map (·.add (0*j.size))) (h-0) (h-0),?_,?_⟩;obtain⟨dst,op,B,pos,H,guard⟩:=o;subst T;have:=iE (w:=w) hX G E u (base:=C) hb;simp at this;simp[execOp,e1,this];simp only[aP];refine⟨b,h-0,_,MJ,Z,aaV _,?_,?_⟩;have:h*s<=N*s:=agT _ (afC h1 Y);simp;omega;by_cases h0:h=0;omega;right;rw[if_neg h0];rcases J with h2|h2
 omega;rw[h2,ahK,Nat.zero_mul,Addr.add_lit,agb]
end
section
variable {P : Program}{X : Ctx}{ops : Array Oper}{o : Oper}{rest : L Oper}{env : Env}{acc : L Fp}{Q : Env -> St -> L Fp -> Prop}{σ : St}
def ah.Fe(hX:cB P X)(kn:L Nat)(G:cY ops.toList kn env o=some true){t:TypeId}{x:Operand}{U O:Option Operand}(S:o.op = .slice t x none U O){d:Nat}(I:o.dst=some d){i j:TI}{e:Nat}(N:X.ti t=some i)(A:i.kind = .slice e)(M:X.ti e=some j)
  {Y off s n:Nat}(K:aG X env x=some (.gY Y off s n))(C:j.size=s){z:Int}{J u:IntKind}{y W:Operand}(q:U=some y)(V:O=some W)(H:aG X env y=some (.c (.int J z)))(T:aG X env W=some (.c (.int u z)))(h:Nat)(E:z=h)(h1:h<=n)
  (k:ah P X ops rest ((d,.gY Y off s h)::env) σ (⟨[],[]⟩::acc) Q):ah P X ops (o::rest) env σ acc Q:=by
 subst q V E;have D:bound (aG X env) (some y)=some (some h):=by simp only[bound,H,asNat]
 have B:bound (aG X env) (some W)=some (some h):=by simp only[bound,T,asNat]
 exact ah.step (dh G) (bN.Fe (σ:=σ) hX S N A M K C D B h1) (iJ.id []) u6
end
end Go.cw
namespace Go.cw
def cX.afZ{P:Program}{X:Ctx}{f:FuncId}{cells:L CV}{s n0:Nat}{qP:L CV}(he:Enters P f)(h0:0<n0){rows:L CV}(Q:(bz rows).all CV.one=true)
  (h:∀(w:World)(G:kE)(b N:Nat)(vs us:L Value),b<w.heap.size->(∀o,G b o=none)->(∀b o v,G b o=some v->w.cell? ⟨b,o,none⟩=some v)->b9 G cells vs ->
   (∀(j:Nat) u,vs[j]?=some u->w.cell? ⟨b,j,none⟩=some u)->cells.all CV.one=true->n0<=N->(∀o,(o<N*s->∃u,w.cell? ⟨b,o,none⟩=some u)/\w.frozen? ⟨b,o,none⟩=false)->b9 G qP us ->
   ∃news,b9 G (bz rows) news/\Calls P f (.slice (some ⟨b,0,none⟩) n0 N::us).toArray w λe w'=>∃O Y,e = .returned (.slice (some ⟨O,0,none⟩) rows.length Y)/\rows.length<=Y/\SV w b w' O news/\O<w'.heap.size /\
    ∀o,(o<Y*s->∃u,w'.cell? ⟨O,o,none⟩=some u)/\w'.frozen? ⟨O,o,none⟩=false) :
  cX P X f (some cells) (.gY 1000000 0 s n0::qP.map AV.c) (.gY 999999 0 s rows.length) (some (bz rows)):=by
 refine⟨he,λg w vs H cu gZ=>?_⟩;obtain⟨u,us,rfl,hr,rZ⟩:=gZ;obtain⟨b,N,o,E,rfl,e2,e3,e4⟩:=hr;have M:o=some ⟨b,0,none⟩:=by grind
 subst M;have I:aq 1000000 (sN 1000000 (some cells)).boxes=some (cells.map AV.c):=by simp[sN,aj]
 obtain⟨O,c1,c2,c3,c4⟩:=H.box 1000000 _ I;rw[E]at c1;cases c1;obtain⟨vs,v1,v2,v3⟩:=qv (tail:=[]) (by simpa using c4);have V:=H.room 1000000 _ b I E;obtain⟨news,n1,D⟩:=h w g.G b N vs us c2 c3 H.qK v1 (λj u B=>by have:=v2 j u B;rwa[aeS]at this) v3 e2 (λo=>⟨λM=>(V o).1 ai,(V o).2⟩) (Dr rZ);refine D.mono ?_;rintro e w' ⟨O,Y,rfl,X2,R,K,X9⟩;have X3:∀C o v,g.G C o=some v->C≠b/\C<w.heap.size/\C≠O:=by
  intro C o v U;have h1:C≠b:=by rintro rfl;rw[c3]at U;simp at U
  have h2:=GZ (H.qK C o v U);refine⟨h1,h2,?_⟩;rintro rfl;rcases R.blk with h|h
  exact h1 h;omega
 let g':Gh:=⟨g.G,λk=>if k=999999 then some O else none,λ_=>none,λk=>if k=999999 then Y*s else 0⟩;have Td:=(b9.get n1).1;have S:∀k cs,aq k (sN 999999 (some (bz rows))).boxes=some cs->k=999999/\cs=(bz rows).map AV.c:=by intro k cs e;obtain⟨h1,cl,h2,h3⟩:=zC e;cases h2;exact⟨h1,h3⟩
 refine⟨_,g',Z,?_,?_,?_⟩;simp only[aP];exact⟨O,Y,some ⟨O,0,none⟩,ad5,Z,X2,ad5,.inr Z⟩
 ·refine⟨λC o v U=>?_,?_,?_,λk n e=>by rw[qw]at e;simp[aq]at e,λk k' n n' b lo hi lo' hi' e=>by rw[qw]at e;simp[aq]at e,λk e=>?_,?_⟩;obtain⟨h1,h2,_⟩:=X3 C o v U;rw[vZ (R.rest C h2 h1)];exact H.qK C o v U
  ·intro k cs e;obtain⟨rfl,rfl⟩:=S k cs e;refine⟨O,ad5,K,λo=>?_,?_⟩
   ·cases U:g.G O o with
    |none=>rfl
    |some v=>exact absurd Z (X3 O o v U).2.2
   apply cx.lG;intro j c B;obtain⟨q1,q2⟩:=bW.get (qZ (g:=g') n1);obtain⟨u,hu,A⟩:=q2 j c B;have N8:c.one=true:=(by have:=(vi (bz rows)).trans Q;rw[aha]at this;exact this c (abz B));refine⟨⟨u,by rw[aeS];exact R.cells j u hu,A,N8⟩,by rw[aeS];exact(X9 j).2⟩
  intro k k' cs q b e e' _ _;rw[(S k cs e).1,(S k' q e').1];simp only[g',or_false]at e;by_cases hk:k=999999;subst hk;simp[sN];simp[hk]at e;intro k cs W e J o;obtain⟨rfl,_⟩:=S k cs e;simp only[g',if_true,agP]at J ⊢;subst J;exact X9 o
 have T:∀W,(∀o,¬jH g (sN 1000000 (some cells)) W o)\/(∃o,¬jH g (sN 1000000 (some cells)) W o)->W≠b:=by
  rintro W h rfl;have M:∀o,jH g (sN 1000000 (some cells)) W o:=λo => .inl ⟨1000000,_,I,E⟩;rcases h with h|⟨o,h⟩
  exact h 0 (M 0);exact h (M o)
 refine⟨R.os,R.tape,R.output,R.size,λW h1 h2=>R.rest W h1 (T W (.inl h2)),λW o h1 h2=>?_,kE.le.refl _,λ_ _ _ h => .inl h,λk cs W e J=>?_,λk n b lo hi e=>by rw[qw]at e;simp[aq]at e,λk hk e=>?_⟩;have:=R.rest W h1 (T W (.inr ⟨o,h2⟩));exact⟨vZ this o,B0 this o⟩
 ·obtain⟨rfl,_⟩:=S k cs e;simp only[g',if_true,agP]at J;subst J;rcases R.blk with h|h
  subst h;exact .inr ⟨1000000,_,I,E⟩;exact .inl h
 cases D:aq k (sN 999999 (some (bz rows))).boxes with
 |none=>exact absurd D e
 |some cs=>have:=(S k cs D).1;omega
def Ox(d Y:Nat)(cells:L AV):iJ (λσ=>(σ.fA Y).eM d cells) ⟨[],[d,Y]⟩ where
 out:=λσ k A=>by simp at A;refine⟨?_,Z,?_⟩;simp only[St.fA,St.eM,lA,aj];simp_all;simp only[St.fA,St.eM];simp_all
 same:=λσ N h k A=>by obtain⟨h1,h2,K⟩:=h k (.inr A);refine⟨?_,h2,?_⟩;simp only[St.fA,St.eM,lA,aj];simp_all;simp only[St.fA,St.eM,afp,K]
section
variable {P : Program}{X : Ctx}
def bN.ua{o:Oper}{env:Env}{σ:St}{f:FuncId}{args:Array Operand}{M:Array TypeId}(ho:o.op = .call {callee := .value (.func f),args:=args,argTypes:=M})
  {d:Nat}(jM:d<1000000)(hu:mem d σ.used=false){x:Operand}{rest:L Operand}(W:args.toList=x::rest){Y K n0:Nat}(D:aG X env x=some (.gY Y 0 K n0)){I:L CV}(ha:gU (aG X env) rest=some I)
  {cells:L CV}(J:aq Y σ.boxes=some (cells.map AV.c)){s n:Nat}{cells':L CV}(hq:cX P X f (some cells) (.gY 1000000 0 K n0::I.map AV.c) (.gY 999999 0 s n) (some cells')) :
  bN P X o env σ (.gY d 0 s n) (λσ=>(σ.fA Y).eM d (cells'.map AV.c)) ⟨[],[d,Y]⟩:=by
 intro de N w g a next Q h1 h2 H G dr V;have sD:∀y∈args.toList,y∈o.op.operands.toList:=by intro y C;rw[ho];simp only[Op.operands,Call.operands,afG,aeK];exact .inr C
 have zY:gU (aG X de) rest=some I:=by rw[kS _ (λy C=>h1 y (sD y (by rw[W];exact afH _ C)))];exact ha
 have B:aG X de x=some (.gY Y 0 K n0):=by rw[h1 x (sD x (by simp[W]))];exact D
 have gZ:=pK (g:=g) (ev:=a.eval) (λx v D=>cr dr G D) zY;have U:=cr (a:=a) dr G B;have On:aq Y N.boxes=some (cells.map AV.c):=by rw[(h2 Y (.inr cc)).1];exact J
 have S:(execOp a.eval o).run P w = .ok (.enter f (args.map a.eval)) w:=by obtain⟨dst,op,type,pos,A,guard⟩:=o;subst ho;simp[execOp,resolve,Deferred.ofValue,invoke,Act.eval,hq.1 _ w]
 unfold Oper.wp;rw[S,Oper.upon_enter];have hin:=Rc H (some Y) (some cells) (λ_ h=>by cases h;exact⟨Y,rfl,On⟩) (λh=>by cases h);have T:∀O,(g.fY (tZ (some Y))).box O=if O=1000000 then g.box Y else none:=by intro O;by_cases h:O=1000000<;>simp[Gh.fY,tZ,h]
 have:=hq.2 (g.fY (tZ (some Y))) w (args.toList.map a.eval) hin G (by
  rw[W];simp only[aeX,bW];refine⟨_,_,Z,?_,qZ (g:=g.fY (tZ (some Y))) gZ⟩;simp only[aP]at U ⊢;obtain⟨b,q,oo,E,e2,e3,e4,e5⟩:=U
  exact⟨b,q,oo,by rw[T];simpa using E,e2,e3,by simpa[Gh.fY,tZ]using e4,e5⟩)
 rw[show(args.toList.map a.eval).toArray=args.map a.eval from by rw[<- agI]]at this;refine this.mono ?_;rintro e w' ⟨u,g',rfl,h3,h4,h5⟩
 obtain⟨k1,k2,k3,k4⟩:=XZ (g0:=g.fY (tZ (some Y))) (Re:=sN 1000000 (some cells)) H rfl (qw _ _) (some Y) (λk cs b e E=>by
  obtain⟨rfl,_⟩:=zC e;rw[T]at E
  exact⟨Y,_,Z,On,Tm⟩) h4 h5 (N.fA Y) (.inr ⟨Y,Z,Z⟩)
 obtain⟨b,c1,c2,c3,c4,c5,c6,c7,c8⟩:=k4 cells' rfl;have XY:d ∉ (N.fA Y).used:=λh=>cT hu ((h2 d (.inr cc)).2.2.1 h);obtain⟨p1,p2,p3⟩:=X1 k1 k2 XY jM c2 c3 c4 c5 c6 c7 c8;refine V u w' _ ?_ p1 p2 (k3.trans p3);simp only[aP]at h3 ⊢;obtain⟨b',q,oo,E,e2,e3,e4,e5⟩:=h3;rw[c1]at E;cases E;exact⟨b,q,oo,cc,e2,e3,by simpa using e4,e5⟩
end
section
variable {P : Program}{X : Ctx}{ops : Array Oper}{o : Oper}{rest : L Oper}{env : Env}{acc : L Fp}{Q : Env -> St -> L Fp -> Prop}{bs : L (Nat × L AV)}{ts : L (Nat × Nat)}{us : L Nat}{σ : St}
def ah.ua(kn:L Nat)(G:cY ops.toList kn env o=some true){f:FuncId}{args:Array Operand}{H:Array TypeId}(S:o.op = .call {callee := .value (.func f),args:=args,argTypes:=H})
  {x:Operand}{V:L Operand}(W:args.toList=x::V){d:Nat}(I:o.dst=some d)(A:Nat.blt d 1000000=true)(O:mem d us=false){Y E n0:Nat}(D:aG X env x=some (.gY Y 0 E n0)){U:L CV}(M:gU (aG X env) V=some U)
  {cells:L CV}(N:aq Y bs=some (cells.map AV.c)){s n:Nat}{cells':L CV}{T:L AV}(hq:cX P X f (some cells) T (.gY 999999 0 s n) (some cells'))(K:T = .gY 1000000 0 E n0::U.map AV.c){bs':L (Nat×L AV)}(J:EM Y bs=bs')
  (k:ah P X ops rest ((d,.gY d 0 s n)::env) ⟨(d,cells'.map AV.c)::bs',ts,d::us⟩ (⟨[],[d,Y]⟩::acc) Q):ah P X ops (o::rest) env ⟨bs,ts,us⟩ acc Q:=by
 subst K J;exact ah.step (dh G) (bN.ua (σ:=⟨bs,ts,us⟩) S (Nat.blt_eq.mp A) O W D M N hq) (Ox d Y _) u6
def ah.sF(kn:L Nat)(G:cY ops.toList kn env o=some true){f:FuncId}{args:Array Operand}{H:Array TypeId}(T:o.op = .call {callee := .value (.func f),args:=args,argTypes:=H})
  {x:Operand}(W:args.toList=[x]){d:Nat}(I:o.dst=some d){Y E n0:Nat}(D:aG X env x=some (.gY Y 0 E n0)){cells cells':L CV}{V:L AV}(N:aq Y bs=some V)(U:V=cells.map AV.c)
  (hq:cn P X f [(1000000,cells.map AV.c)] [.gY 1000000 0 E n0] (.c .undef) [(1000000,cells'.map AV.c)]){bs':L (Nat×L AV)}(S:kR [Y] bs=bs')
  (k:ah P X ops rest ((d,.c .undef)::env) ⟨(Y,cells'.map AV.c)::bs',ts,Y::us⟩ (⟨[],[Y,Y,Y]⟩::acc) Q):ah P X ops (o::rest) env ⟨bs,ts,us⟩ acc Q:=by
 subst S U;have M:gI (aG X env) args.toList=some [.gY Y 0 E n0]:=by rw[W];simp only[gI,D]
 have C:=bN.Bx (env:=env) (σ:=⟨bs,ts,us⟩) T M hq (bx:=[(1000000,Y)]) (po:=[(Y,1000000)]) (ψ:=λ_=>Y) (nb:=[(Y,cells'.map AV.c)]) (λts=>⟨_,_,Z,⟨_,fe,Z⟩,Z⟩)
  (λNh KQ q J=>by
   have K:=jj q cc N;refine⟨Z,?_,?_,?_,?_,?_,?_,?_⟩;intro k kk e;simp only[aj]at e;split at e;simp_all;simp[aq]at e;intro ts k cs e;simp only[aj]at e;split at e;simp at e;subst_vars;exact⟨Y,_,fe,K,cJ _⟩;simp[aq]at e;intro u O e;simp only[aj]at e;split at e;simp at e;subst_vars;exact⟨1000000,cells'.map AV.c,fe,fe,ad0⟩;simp[aq]at e;intro u ok e;simp only[aj]at e;split at e;rename_i h;exact h.symm;simp[aq]at e;intro k A;have B:=mem_iff.1 A;simp at B;subst B;exact⟨Y,fe⟩;intro u ok e;simp only[aj]at e;split at e;simp at e;subst_vars;exact .inl ⟨aaV _,fe,fe⟩;simp[aq]at e;intro ok cs e;simp only[aj]at e;split at e;simp at e;subst_vars;exact tU _ _
   simp[aq]at e) Z
 exact aeC
end
end Go.cw
namespace Go.cw
section
variable {P : Program}{X : Ctx}
def bN.Lt(hX:cB P X){o:Oper}{env:Env}{σ:St}{args:Array Operand}{H:Array TypeId}(T:o.op = .call {callee := .builtin .append,args:=args,argTypes:=H})
  {xs y:Operand}(Y:args.toList=[xs,y]){t Q:Nat}(Dh:H.toList=[t,Q]){i j M:TI}{e:Nat}(hi:X.ti t=some i)(hk:i.kind = .slice e)(hj:X.ti e=some j)(U:X.ti Q=some M)(K:mM M.kind=true)
  {s:Nat}(ha:aG X env xs=some (.own .exact s [])){b:AV}(hb:aG X env y=some b){s1:Nat}(W:oH b=some (s1,[])) :
  bN P X o env σ (.own .exact s []) (λσ=>σ) ⟨[],[]⟩:=by
 refine bN.val λJ w g A I jl G E=>?_;have D:∀x∈args.toList,x∈o.op.operands.toList:=by intro x hx;rw[T];simp only[Op.operands,Call.operands,afG,aeK];exact .inr hx
 have zY:aG X J xs=some (.own .exact s []):=by rw[I xs (D xs (by simp[Y]))];exact ha
 have O:aG X J y=some b:=by rw[I y (D y (by simp[Y]))];exact hb
 have rA:=cr (a:=A) E G zY;have rB:=cr (a:=A) E G O;obtain⟨base,len,cap,ex,S,C,gE,V⟩:=rA;subst S V;obtain⟨⟨news,n1,n2,n3,n4⟩,n5⟩:=sC (P:=P) (w:=w) (t:=j.size) jl W (by simp only[gO];split<;>rfl) rB;subst n1;obtain⟨dt,_,B,ID⟩:=hX.run_underlying (w:=w) hi;rw[hk]at B;subst B;obtain⟨d1,EO,JU⟩:=BR hX U (by unfold mM at K;exact K) w;obtain⟨inf,ZJ,Q4,_⟩:=hX.ti e j hj;have AT:args = #[xs,y]:=by cases args;simp_all
 have GK:H = #[t,Q]:=by cases H;simp_all
 have u:=mL (ty:=o.type) (w':=w) ID EO JU ZJ (base:=base) (sLen:=0) (sCap:=0) n5 aeh (aaV _) (by cases base<;>simp[storeCells]);refine⟨.slice base 0 0,?_,by simp_all;exact⟨base,0,0,Z,Z,aaV _,.inl Z,Z⟩⟩;obtain⟨dst,op,q,pos,N,guard⟩:=o;simp only at T u;subst T;subst AT GK;simp[execOp,resolve,invoke,builtin,ex,u,Result.andThen]
end
section
variable {P : Program}{X : Ctx}{ops : Array Oper}{o : Oper}{rest : L Oper}{env : Env}{acc : L Fp}{Q : Env -> St -> L Fp -> Prop}{bs : L (Nat × L AV)}{ts : L (Nat × Nat)}{us : L Nat}{σ : St}
def ah.Lt(hX:cB P X)(kn:L Nat)(G:cY ops.toList kn env o=some true){args:Array Operand}{H:Array TypeId}(S:o.op = .call {callee := .builtin .append,args:=args,argTypes:=H})
  {xs y:Operand}(Y:args.toList=[xs,y]){t V:Nat}(O:H.toList=[t,V]){d:Nat}(I:o.dst=some d){i j U:TI}{e:Nat}(N:X.ti t=some i)(A:i.kind = .slice e)(M:X.ti e=some j)(T:X.ti V=some U)(K:mM U.kind=true)
  {s:Nat}(J:aG X env xs=some (.own .exact s [])){b:AV}(q:aG X env y=some b){E:Nat}(W:oH b=some (E,[]))
  (k:ah P X ops rest ((d,.own .exact s [])::env) σ (⟨[],[]⟩::acc) Q):ah P X ops (o::rest) env σ acc Q :=
 ah.step (dh G) (bN.Lt hX S Y O N A M T K J q W) (iJ.id []) u6
def ah.A2(kn:L Nat)(G:cY ops.toList kn env o=some true){f:FuncId}{args:Array Operand}{H:Array TypeId}(T:o.op = .call {callee := .value (.func f),args:=args,argTypes:=H})
  {W:L AV}{r:AV}(hq:cn P X f [] W r []){d:Nat}(I:o.dst=some d){l:L AV}(M:gI (aG X env) args.toList=some l)(U:∀ts,fq ⟨λ_=>none,λ_=>none⟩ ts W l)(B:Uy [] r=true)
  {O:AV}(Y:r.rn (λk=>k)=O)(k:ah P X ops rest ((d,O)::env) ⟨bs,ts,us⟩ (⟨[],[]⟩::acc) Q):ah P X ops (o::rest) env ⟨bs,ts,us⟩ acc Q:=by
 subst Y;have C:=bN.Bx (env:=env) (σ:=⟨bs,ts,us⟩) T M hq (bx:=[]) (po:=[]) (ψ:=λk=>k) (nb:=[]) U
  (λNh KQ q V=>⟨Z,λk S e=>by simp[aq]at e,λts k cs e=>by simp[aq]at e,λu N e=>by simp[aq]at e,λu ok e=>by simp[aq]at e,λk A=>by simp[mem]at A,λu ok e=>by simp[aq]at e,λok cs e=>by simp[aq]at e⟩) B
 exact aeC
def ah.Ya(kn:L Nat)(G:cY ops.toList kn env o=some true){f:FuncId}{args:Array Operand}{H:Array TypeId}(T:o.op = .call {callee := .value (.func f),args:=args,argTypes:=H})
  {W:L AV}{s n:Nat}{cells:L CV}(hq:cn P X f [] W (.gY 999999 0 s n) [(999999,cells.map AV.c)]){d:Nat}(I:o.dst=some d)(A:Nat.blt d 1000000=true)(V:mem d us=false){l:L AV}(M:gI (aG X env) args.toList=some l)(U:∀ts,fq ⟨λ_=>none,λ_=>none⟩ ts W l)
  (k:ah P X ops rest ((d,.gY d 0 s n)::env) ⟨(d,cells.map AV.c)::bs,ts,d::us⟩ (⟨[],[d,d]⟩::acc) Q):ah P X ops (o::rest) env ⟨bs,ts,us⟩ acc Q:=by
 have C:=bN.Bx (env:=env) (σ:=⟨bs,ts,us⟩) T M hq (bx:=[]) (po:=[(d,999999)]) (ψ:=λ_=>d) (nb:=[(d,cells.map AV.c)]) U
  (λNh KQ q Y=>⟨Z,λk N e=>by simp[aq]at e,λts k cs e=>by simp[aq]at e,λu O e=>by
    simp only[aj]at e;split at e;simp at e;subst_vars;exact⟨999999,cells.map AV.c,fe,fe,ad0⟩
    ·simp[aq]at e,λu ok e=>by
    simp only[aj]at e;split at e;omega
    ·simp[aq]at e,λk S=>by
    have B:=mem_iff.1 S;simp at B;subst B;exact⟨d,fe⟩,λu ok e=>by
    simp only[aj]at e;split at e;subst_vars;refine .inr ⟨λh=>cT V ((Y _ cc).1 h),Nat.blt_eq.mp A⟩
    ·simp[aq]at e,λok cs e=>by
    simp only[aj]at e;split at e;simp at e;subst_vars;exact tU _ _
    simp[aq]at e⟩) Z
 exact aeC
end
section
variable {P : Program}{X : Ctx}{f : FuncId}{n : Nat}{β : kz}{R : Ending -> World -> Prop}{K : L Item}{env : Env}
def Em(a B:AV):Prop:=B=a\/∃W S,a = .own .exact W []/\B = .own .exact S []
def Em.rel:∀(g:Gh)(a B:AV)(v:Value),Em a B->aP g a v->aP g B v:=by rintro g a B v (rfl|⟨W,S,rfl,rfl⟩) h;exact h;simp only[aP]at h ⊢;obtain⟨base,u,N,E,q,H,_,C⟩:=h;exact⟨base,u,N,E,q,H,.inl rfl,C⟩
def Em.one:∀(a B:AV),Em a B->a.one=true->B.one=true:=by rintro a B (rfl|⟨W,S,rfl,rfl⟩) h;exact h;rfl
end
end Go.cw
namespace Go.cw
def Yb(km u fk:Nat)(k:Nat):Nat:=match Nat.beq k 1000000 with
 |true=>km
 |false=>match Nat.beq k 1000001 with
  |true=>u
  |false=>match Nat.beq k 1000002 with
   |true=>fk
   |false=>k
def af0{bs:L (Nat×L AV)}{us:L Nat}{c c':Nat->Nat->L AV}(I:MC c)(A:MC c'){s f O f':L CV}{km u fk:Nat}(q:distinct [km,u,fk]=true)
  (h1:aq km bs=some (c u fk))(h2:aq u bs=some (s.map AV.c))(K:aq fk bs=some (f.map AV.c)) :
  HOk bs us (mI c s f) (mI c' O f') [(1000000,km),(1000001,u),(1000002,fk)] [(km,1000000),(u,1000001),(fk,1000002)] (Yb km u fk) [(km,c' u fk),(u,O.map AV.c),(fk,f'.map AV.c)]:=by
 obtain⟨W,Y,n3⟩:=Ds q;refine⟨q,?_,?_,?_,?_,?_,?_,?_⟩;intro k U e;simp only[aj]at e;split at e;grind;split at e;grind;split at e;grind;simp[aq]at e;intro ts k cs e;simp only[aj]at e;split at e;simp at e;subst_vars;exact⟨km,_,fe,h1,I.conv _ _ _ _ _ _ fe fe⟩;split at e;simp at e;subst_vars;exact⟨u,_,fe,h2,cJ _⟩;split at e;simp at e;subst_vars;exact⟨fk,_,fe,K,cJ _⟩;simp[aq]at e;intro J N e;simp only[aj]at e;split at e;simp at e;subst_vars;exact⟨1000000,c' 1000001 1000002,fe,fe,by rw[A.rn];rfl⟩;split at e;simp at e;subst_vars;exact⟨1000001,O.map AV.c,by simp[aj,Ne.symm W],fe,ad0⟩;split at e;simp at e;subst_vars;exact⟨1000002,f'.map AV.c,by simp[aj,Ne.symm Y,Ne.symm n3],fe,ad0⟩;simp[aq]at e;intro J ok e;simp only[aj]at e;split at e;simp at e;subst_vars;rfl;split at e;simp at e;subst_vars;rfl;split at e;simp at e;subst_vars;rfl;simp[aq]at e
 ·intro k V;have B:=mem_iff.1 V;simp at B;rcases B with rfl|rfl|rfl
  exact⟨km,fe⟩;exact⟨u,by simp[aj,Ne.symm W]⟩;exact⟨fk,by simp[aj,Ne.symm Y,Ne.symm n3]⟩
 intro J ok e;simp only[aj]at e;split at e;simp at e;subst_vars;exact .inl ⟨aaV _,fe,fe⟩;split at e;simp at e;subst_vars;exact .inl ⟨bn,fe,fe⟩;split at e;simp at e;subst_vars;exact .inl ⟨bn,fe,fe⟩;simp[aq]at e;intro ok cs e;simp only[aj]at e;split at e;simp at e;subst_vars;exact A.ok _ _ _ Z Z;split at e;simp at e;subst_vars;exact tU _ _;split at e;simp at e;subst_vars;exact tU _ _;simp[aq]at e
section
variable {P : Program}{X : Ctx}{ops : Array Oper}{o : Oper}{rest : L Oper}{env : Env}{acc : L Fp}{Q : Env -> St -> L Fp -> Prop}{bs : L (Nat × L AV)}{ts : L (Nat × Nat)}{us : L Nat}
def ah.adO(kn:L Nat)(G:cY ops.toList kn env o=some true){f:FuncId}{args:Array Operand}{H:Array TypeId}(K:o.op = .call {callee := .value (.func f),args:=args,argTypes:=H})
  {c c':Nat->Nat->L AV}{s V O Y:L CV}{T:L AV}{r:AV}(hq:cn P X f (mI c s V) T r (mI c' O Y))(I:MC c)(A:MC c'){d:Nat}(J:o.dst=some d)
  {l:L AV}(E:gI (aG X env) args.toList=some l){km:Nat}{D:L AV}(B:l = .ptr km 0::D){u fk:Nat}{N S C:L AV}(h1:aq km bs=some N)(q:N=c u fk)(h2:aq u bs=some S)(e2:S=s.map AV.c)(h3:aq fk bs=some C)(e3:C=V.map AV.c)
  (pX:∀ts,fq ⟨λk=>aq k [(1000000,km),(1000001,u),(1000002,fk)],λ_=>none⟩ ts T l)(jR:distinct [km,u,fk]=true)(hr:Uy [1000000,1000001,1000002] r=true){M:AV}(W:r.rn (Yb km u fk)=M)
  {bs':L (Nat×L AV)}(iU:kR [km,u,fk] bs=bs')
  (k:ah P X ops rest ((d,M)::env) ⟨(km,c' u fk)::(u,O.map AV.c)::(fk,Y.map AV.c)::bs',ts,km::u::fk::us⟩ (⟨[],[km,u,fk,km,u,fk,km,u,fk]⟩::acc) Q):ah P X ops (o::rest) env ⟨bs,ts,us⟩ acc Q:=by
 subst W iU q e2 e3;have hs:=bN.Bx (env:=env) (σ:=⟨bs,ts,us⟩) K E hq (bx:=[(1000000,km),(1000001,u),(1000002,fk)]) (po:=[(km,1000000),(u,1000001),(fk,1000002)]) (ψ:=Yb km u fk) pX
  (λNh KQ U hu=>af0 I A jR (jj U cc h1) (jj U cc h2) (jj U cc h3)) hr
 exact ah.step (dh G) hs (qV _ _ _) (by rw[J];exact k)
end
def ce{p:Prop}(h:p:=by repeat' (first|exact trivial|exact Z|exact .inl Z|exact .inr Z|exact⟨_,Z,Z⟩|exact⟨_,Z,.inl ⟨Z,_,Z,.inl Z⟩⟩|exact⟨_,Z,.inl ⟨Z,_,Z,.inr Z⟩⟩|exact⟨_,Z,.inr ⟨_,_,Z,Z,Z⟩⟩|exact .inr ⟨_,_,Z,Z⟩|refine⟨_,_,Z,?_,?_⟩|refine⟨⟨_,Z,?_⟩,?_⟩|refine⟨⟨_,_,Z,Z,?_⟩,?_⟩|refine⟨?_,?_⟩|refine⟨_,_,Z,Z,?_⟩)):p:=h
end Go.cw
