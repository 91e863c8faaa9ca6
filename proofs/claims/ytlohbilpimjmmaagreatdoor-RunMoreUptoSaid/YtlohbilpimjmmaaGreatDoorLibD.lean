/- A layer of abstract values over the model, part D: A box of rows becomes memory that nobody writes. Calls that are given a slice over a block that may be written, or give one. Contracts of calls with slices over boxes: by a walk, and by what is known of the world. Slices told from nil, and condition -/
import Derived.Test.YtlohbilpimjmmaaGreatDoorLibC
import Derived.ArgAppend
import Derived.Lib.AppendZerosOnto
import Derived.Deep.AppendSrc
import Derived.Laws.IdiomCopy
import Derived.Lib.SliceRun
import Derived.Laws.Externs
set_option linter.unusedSimpArgs false
set_option linter.unusedVariables false
namespace Go.cq
def Ur (T:AV->AV->Prop):List AV->List AV->Prop
 | [],[]=>True
 | a::l,b::m=>T a b/\Ur T l m
 | _,_=>False
def Zm (T:AV->AV->Prop) (env:Env):Env->Prop
 | []=>True
 | (t,q)::l=>(∃a,ak t env=some a/\T a q)/\Zm T env l
def Zl (T:AV->AV->Prop) (bs:List (Nat×List AV)):List (Nat×List AV)->Prop
 | []=>True
 | (k,cells')::l=>(∃cells,ak k bs=some cells/\Ur T cells cells')/\Zl T bs l
def Us (u s:Nat) (rows:List CV) (a q:AV):Prop:=q=a\/∃n,a = .gv u 0 s n/\n=rows.length/\q = .c (.sl s rows)
def Nil (a q:AV):Prop:=q=a\/∃B Y,(a = .c (.sl B [])\/a = .own .exact B [])/\q = .c (.sl Y [])
theorem HB {T:AV->AV->Prop} {env:Env}:∀{env':Env},Zm T env env'->∀t q,ak t env'=some q->∃a,ak t env=some a/\T a q
 | [],_,t,q,e=>by simp[ak]at e
 | (Y,p)::l,⟨h1,h2⟩,t,q,e=>by
  simp only[au]at e;split at e
  ·simp_all
  ·exact HB h2 t q e
theorem jB {T:AV->AV->Prop} {bs:List (Nat×List AV)}:∀{bs':List (Nat×List AV)},Zl T bs bs'->∀k M,ak k bs'=some M->∃cs,ak k bs=some cs/\Ur T cs M
 | [],_,t,a',e=>by simp[ak]at e
 | (Y,p)::l,⟨h1,h2⟩,t,a',e=>by
  simp only[au]at e;split at e
  ·simp_all
  ·exact jB h2 t a' e
theorem Oy {u:Nat}:∀{bs:List (Nat×List AV)},(bs.all fun p => !Nat.beq p.1 u)=true->∀k cs,ak k bs=some cs->k≠u
 | [],_,k,cs,e=>by simp[ak]at e
 | (Y,W)::l,h,k,cs,e=>by
  simp only[List.all_cons,aai]at h;simp only[au]at e;split at e
  ·rename_i M;subst M;exact beq_false (by simpa using h.1)
  ·exact Oy h.2 k cs e
section
variable {P : Program} {X : Ctx} {f : FuncId} {n : Nat} {β : jG} {R : Ending -> World -> Prop} {K : List Item} {env : Env}
theorem AK.B5 {bs:List (Nat×List AV)} {ts:List (Nat×Nat)} {us:List Nat} (W s:Nat) (rows:List CV) {cells tail:List AV} {env':Env} {bs':List (Nat×List AV)} {ts':List (Nat×Nat)}
  (q:ak W bs=some cells) (hc:cells=ah rows++tail) (hs:∀r∈rows,r.cells.length=s)
  (he:Zm (Us W s rows) env env') (T:Zl (Us W s rows) bs bs') (hk':(bs'.all fun p => !Nat.beq p.1 W)=true) (ht:JI ts ts')
  (h:AK P X f n β R K env' ⟨bs',ts',us⟩):AK P X f n β R K env ⟨bs,ts,us⟩:=by
 intro g w a cs A;obtain⟨b,EH,QY,hb3,H⟩:=A.inv.box W cells q;let S:jk:=fun Y o=>if Y=b/\o<(bI rows).length then w.cell? ⟨b,o,none⟩else g.G Y o
 let g':Gh:=⟨S,g.box,g.tok,g.room⟩
 have Ms:g.G.le S:=by
  intro Y o v U;by_cases zP:Y=b
  ·simp_all
  ·grind
 have hle:g.le g':=⟨Ms,fun _ _ x=>x,fun _ _ _=>rfl,fun k hw fS x=>⟨hw,fS,x,aak _,fun _=>rfl⟩⟩
 have Q:∀Y o,Y≠b->g.G Y o=none->S Y o=none:=by grind
 rw[hc]at H;obtain⟨vs,v1,v2,v3⟩:=oA H;have hvl:=(bL.get v1).1;have iQ:cN S b 0 (bI rows):=by
  refine mP (bL.mono Ms _ _ v1) (fun j u hj=>?_) v3;have hlt:j<vs.length:=(List.getElem?_eq_some_iff.1 hj).1;show(if b=b/\0+j<(bI rows).length then w.cell? ⟨b,0+j,none⟩else g.G b (0+j))=some u;rw[if_pos ⟨rfl,bn⟩];exact v2 j u hj
 have fM:eX S s b 0 rows:=pg.2 ⟨iQ,hs⟩;have hF:∀a a' v,Us W s rows a a'->aK g a v->aK g' a' v:=by
  rintro a a' v (rfl|⟨m,rfl,hm,rfl⟩) E
  ·exact aK.mono hle _ _ E
  ·simp only[aK]at E;obtain⟨Y,cap,o,C,rfl,O,e3,e4⟩:=E;rw[EH]at C;cases C;simp only[aK,Rel];refine⟨_,m,cap,rfl,hm,O,?_⟩;rcases e4 with e4|rfl
   ·simp_all
   ·grind
 have hCW:∀(l J:List AV) (Y o:Nat),Ur (Us W s rows) l J->cr w g Y o l->cr w g' Y o J:=by
  intro l
  induction l with
  | nil=>intro J Y o h1 _;cases J with
   | nil=>trivial
   | cons x m=>simp[Ur]at h1
  | cons x l ih=>intro J Y o h1 h2;cases J with
   | nil=>simp[Ur]at h1
   | cons y m =>
    obtain⟨I,h4⟩:=h1;obtain⟨⟨u,f1,f2,f3⟩,f4,f5⟩:=h2;refine⟨⟨u,f1,hF _ _ _ I f2,?_⟩,f4,ih m Y (o+1) h4 f5⟩;rcases I with rfl|⟨m,rfl,hm,rfl⟩
    ·exact f3
    ·rfl
 have vg:∀k cs Y,k≠W->ak k bs=some cs->g.box k=some Y->Y≠b:=by
  rintro k cs Y h1 h2 I rfl;exact h1 (A.inv.fB k W cs cells _ h2 q I EH)
 have hT:∀k m,ak k ts'=some m->ak k ts=some m:=fun k m e=>qd ht k m e;have D:Inv w g' ⟨bs',ts',us⟩:=by
  refine⟨?_,?_,?_,?_,?_,A.inv.used,?_⟩
  ·intro Y o v U;simp only[g',S]at U;split at U
   ·simp_all
   ·exact A.inv.oI Y o v U
  ·intro k M e;have h1:=Oy hk' k M e;obtain⟨V,h2,I⟩:=jB T k M e;obtain⟨Y,f1,f2,f3,f4⟩:=A.inv.box k V h2;exact⟨Y,f1,f2,fun o=>Q Y o (vg k V Y h1 h2 f1) (f3 o),hCW _ _ _ _ I f4⟩
  ·intro k k' x x' Y e e' C O;obtain⟨V,h2,_⟩:=jB T k x e;obtain⟨cs1,yQ,_⟩:=jB T k' x' e';exact A.inv.fB k k' V cs1 Y h2 yQ C O
  ·intro k m e;obtain⟨fS,C,O⟩:=A.inv.tok k m (hT k m e);refine⟨fS,C,fun Y lo hi E=>?_⟩;obtain⟨e3,e4,e5⟩:=O Y lo hi E;have zP:Y≠b:=by rintro rfl;exact e5 W cells q EH
   refine⟨e3,fun o h1 h2=>?_,fun k' M e'=>?_⟩
   ·grind
   ·obtain⟨V,h2,_⟩:=jB T k' M e';exact e5 k' V h2
  ·intro k k' m m' Y lo hi lo' hi' e e' C O;exact A.inv.gw k k' m m' Y lo hi lo' hi' (hT k m e) (hT k' m' e') C O
  ·intro k M Y e C o;obtain⟨V,h2,_⟩:=jB T k M e;exact A.inv.room k V Y h2 C o
 have N:gQ w g ⟨bs,ts,us⟩ w g' ⟨bs',ts',us⟩:=by
  refine⟨rfl,rfl,rfl,aak _,fun _ _ _=>rfl,fun _ _ _ _=>⟨rfl,rfl⟩,Ms,?_,?_,?_,?_⟩
  ·intro Y o v U;simp only[g',S]at U;split at U
   ·rename_i hh;obtain⟨rfl,_⟩:=hh;exact .inr (.inr (.inl ⟨W,cells,q,EH⟩))
   ·exact .inl U
  ·intro k M Y e C;obtain⟨V,h2,_⟩:=jB T k M e;exact .inr ⟨k,V,h2,C⟩
  ·grind
  ·intro k _ e;cases B:ak k bs' with
   | none=>exact absurd B e
   | some M =>
    obtain⟨V,h2,_⟩:=jB T k M B;exact⟨by show ak k bs≠none;rw[h2];simp,rfl,rfl⟩
 refine h g' w a cs ⟨D,?_,?_,A.frame.trans N,A.size,A.defers⟩
 ·exact fun m v hm=>Rel.mono Ms _ _ (A.rC m v hm)
 ·intro t x e;obtain⟨a0,h1,h2⟩:=HB he t x e;exact hF _ _ _ h2 (A.env t a0 h1)
theorem AK.weak {bs:List (Nat×List AV)} {ts:List (Nat×Nat)} {us:List Nat} (T:AV->AV->Prop) (hT:∀g a q v,T a q->aK g a v->aK g q v) (h1:∀a q,T a q->a.one=true->q.one=true)
  {env':Env} {bs':List (Nat×List AV)} {ts':List (Nat×Nat)} (he:Zm T env env') (G:Zl T bs bs') (ht:JI ts ts')
  (h:AK P X f n β R K env' ⟨bs',ts',us⟩):AK P X f n β R K env ⟨bs,ts,us⟩:=by
 intro g w a cs A;have J:∀(l p:List AV) (W o:Nat),Ur T l p->cr w g W o l->cr w g W o p:=by
  intro l
  induction l with
  | nil=>intro p W o h1 _;cases p with
   | nil=>trivial
   | cons x m=>simp[Ur]at h1
  | cons x l ih=>intro p W o xb h2;cases p with
   | nil=>simp[Ur]at xb
   | cons y m =>
    obtain⟨S,h4⟩:=xb;obtain⟨⟨u,I,H,E⟩,D,f5⟩:=h2;exact⟨⟨u,I,hT _ _ _ _ S H,h1 _ _ S E⟩,D,ih m W (o+1) h4 f5⟩
 have V:∀k m,ak k ts'=some m->ak k ts=some m:=fun k m e=>qd ht k m e;have Q:Inv w g ⟨bs',ts',us⟩:=by
  refine⟨A.inv.oI,?_,?_,?_,?_,A.inv.used,?_⟩
  ·intro k M e;obtain⟨Y,h2,S⟩:=jB G k M e;obtain⟨W,I,H,E,D⟩:=A.inv.box k Y h2;exact⟨W,I,H,E,J _ _ _ _ S D⟩
  ·intro k k' x x' W e e' C O;obtain⟨Y,h2,_⟩:=jB G k x e;obtain⟨B,yQ,_⟩:=jB G k' x' e';exact A.inv.fB k k' Y B W h2 yQ C O
  ·intro k m e;obtain⟨fS,C,O⟩:=A.inv.tok k m (V k m e);refine⟨fS,C,fun W lo hi hr=>?_⟩;obtain⟨e3,e4,e5⟩:=O W lo hi hr;refine⟨e3,e4,fun k' M e'=>?_⟩;obtain⟨Y,h2,_⟩:=jB G k' M e';exact e5 k' Y h2
  ·intro k k' m m' W lo hi lo' hi' e e' C O;exact A.inv.gw k k' m m' W lo hi lo' hi' (V k m e) (V k' m' e') C O
  ·intro k M W e C o;obtain⟨Y,h2,_⟩:=jB G k M e;exact A.inv.room k Y W h2 C o
 have U:gQ w g ⟨bs,ts,us⟩ w g ⟨bs',ts',us⟩:=by
  refine⟨rfl,rfl,rfl,aak _,fun _ _ _=>rfl,fun _ _ _ _=>⟨rfl,rfl⟩,jk.le.refl _,fun _ _ _ h => .inl h,?_,?_,?_⟩
  ·intro k M W e C;obtain⟨Y,h2,_⟩:=jB G k M e;exact .inr ⟨k,Y,h2,C⟩
  ·grind
  ·intro k _ e;cases N:ak k bs' with
   | none=>exact absurd N e
   | some M =>
    obtain⟨Y,h2,_⟩:=jB G k M N;exact⟨by show ak k bs≠none;rw[h2];simp,rfl,rfl⟩
 refine h g w a cs ⟨Q,A.rC,?_,A.frame.trans U,A.size,A.defers⟩;intro t x e;obtain⟨a0,h2,S⟩:=HB he t x e;exact hT _ _ _ _ S (A.env t a0 h2)
theorem Nil.rel:∀(g:Gh) (a q:AV) (v:Value),Nil a q->aK g a v->aK g q v:=by
 rintro g a q v (rfl|⟨B,W,rfl|rfl,rfl⟩) hr
 ·exact hr
 ·simp only[aK,Rel]at hr ⊢;obtain⟨base,Y,I,e,h1,h2,_⟩:=hr;exact⟨base,Y,I,e,h1,h2,.inl trivial⟩
 ·simp only[aK,Rel]at hr ⊢;obtain⟨base,Y,I,e,h1,h2,_⟩:=hr;exact⟨base,Y,I,e,h1,h2,.inl trivial⟩
theorem Nil.one:∀(a q:AV),Nil a q->a.one=true->q.one=true:=by
 rintro a q (rfl|⟨B,Y,rfl|rfl,rfl⟩) h
 ·exact h
 ·rfl
 ·rfl
theorem Br {v:AV}:∀{o:Nat} {l:List AV},o<l.length->dK o [v] l=some (l.set o v)
 | _,[],h=>by simp at h
 | 0,x::l,_=>by simp[dK]
 | o+1,x::l,h=>by
  have:=Br (v:=v) (o:=o) (l:=l) nu;simp only[dK,this,List.set_cons_succ]
end
end Go.cq
namespace Go.cq
def qv (k:Nat):Option (List CV)->St
 | none=>⟨[],[],[]⟩
 | some cells=>⟨[(k,cells.map AV.c)],[],[k]⟩
theorem wB {k G:Nat} {H:Option (List CV)} {cs:List AV} (h:ak G (qv k H).boxes=some cs):G=k/\∃cells,H=some cells/\cs=cells.map AV.c:=by
 cases H with
 | none=>simp[qv,ak]at h
 | some cells =>
  simp only[qv,au]at h;split at h
  ·simp_all
  ·simp[ak]at h
theorem oB (k:Nat) (H:Option (List CV)):(qv k H).toks=[]:=by cases H<;>rfl
def GR (β:jG) (r:AV) (G:Option (List CV)):Ending->World->Prop:=fun e w' =>
 ∃u g',e = .returned u/\aK g' r u/\Inv w' g' (qv 999999 G)/\gQ β.w β.g β.σ w' g' (qv 999999 G)
def dS (P:Program) (X:Ctx) (f:FuncId) (H:Option (List CV)) (args:List AV) (r:AV) (T:Option (List CV)):Prop :=
 Enters P f/\∀(g:Gh) (w:World) (vs:List Value),Inv w g (qv 1000000 H)->nC X g.G->bF g args vs ->
  Calls P f vs.toArray w (GR ⟨w,g,qv 1000000 H⟩ r T)
theorem dz {ρ:Ren} {ts:List (Nat×Nat)}:∀(cs:List CV),fu ρ ts (cs.map AV.c) (cs.map AV.c)
 | []=>by simp[fu]
 | c::cs=>by
  simp only[List.map_cons,fu];exact⟨_,_,rfl,by simp[Conv],dz cs⟩
def rE (u:Option Nat):Ren:=⟨fun k=>if k=1000000 then u else none,fun _=>none⟩
theorem Mt {w:World} {g:Gh} {σ:St} (T:Inv w g σ) (u:Option Nat) (H:Option (List CV)) (h:∀cells,H=some cells->∃G,u=some G/\ak G σ.boxes=some (cells.map AV.c)) (U:H=none->u=none) :
  Inv w (g.fW (rE u)) (qv 1000000 H):=by
 refine(T.fW (rE u) _ ?_ ?_ ?_ ?_ ?_).1
 ·intro k cs e;obtain⟨rfl,cells,C,rfl⟩:=wB e;obtain⟨G,K,B⟩:=h cells C;exact⟨G,_,by simp[rE,K],B,dz _⟩
 ·intro k k' p e e';simp only[rE]at e e';split at e
  ·simp_all
  ·simp at e
 ·intro k n e;rw[oB]at e;simp[ak]at e
 ·intro k k' m Y p e;simp[rE]at e
 ·intro k e;simp only[rE,ne_eq,not_true,or_false]at e;by_cases D:k=1000000
  ·subst D;cases H with
   | none=>simp[U rfl]at e
   | some cells=>simp[qv]
  ·simp[D]at e
theorem SZ {w w':World} {g g0 g':Gh} {σ Mu:St} (T:Inv w g σ) (h0G:g0.G=g.G) (h0t:Mu.toks=[]) (V:Option Nat)
  (h0:∀k cs b,ak k Mu.boxes=some cs->g0.box k=some b->∃Y M,V=some Y/\ak Y σ.boxes=some M/\g.box Y=some b)
  {bo:Option (List CV)} (B:Inv w' g' (qv 999999 bo)) (D:gQ w g0 Mu w' g' (qv 999999 bo)) (U:St)
  (hd:(V=none/\U=σ)\/∃Y,V=some Y/\U=σ.eH Y) :
  let g1:Gh:=⟨g'.G,g.box,g.tok,g.room⟩
  Inv w' g1 U/\gQ w g σ w' g1 U/\g.le g1 /\
   ∀cells,bo=some cells->∃b,g'.box 999999=some b/\b<w'.heap.size/\(∀o,g'.G b o=none)/\cr w' g1 b 0 (cells.map AV.c) /\
    (∀k cs,ak k U.boxes=some cs->g.box k≠some b)/\(∀k n b' S Q,ak k U.toks=some n->g.tok k=some (n,some (b',S,Q))->b'≠b) /\
    (w.heap.size<=b\/∃k0 N,ak k0 σ.boxes=some N/\g.box k0=some b)/\∀o,(o<g'.room 999999->∃u,w'.cell? ⟨b,o,none⟩=some u)/\w'.frozen? ⟨b,o,none⟩=false:=by
 intro g1;have own:∀b o,iJ g0 Mu b o->∃Y M,V=some Y/\ak Y σ.boxes=some M/\g.box Y=some b:=by
  rintro b o (⟨k,cs,I,A⟩|⟨k,n,S,Q,I,_⟩)
  ·exact h0 k cs b I A
  ·rw[h0t]at I;simp[ak]at I
 have Gc:∀b o,iJ g0 Mu b o->iJ g σ b o:=by
  intro b o h;obtain⟨Y,M,_,I,A⟩:=own b o h;exact .inl ⟨Y,M,I,A⟩
 have J:∀k cs,ak k U.boxes=some cs->ak k σ.boxes=some cs/\V≠some k:=by
  intro k cs e;rcases hd with ⟨rfl,rfl⟩|⟨Y,rfl,rfl⟩
  ·exact⟨e,c9⟩
  ·simp only[St.eH,jM]at e;split at e
   ·simp at e
   ·grind
 have XM:U.toks=σ.toks:=by rcases hd with ⟨_,rfl⟩|⟨Y,_,rfl⟩<;>rfl
 have Z2:U.used=σ.used:=by rcases hd with ⟨_,rfl⟩|⟨Y,_,rfl⟩<;>rfl
 have S0:∀k cs b,ak k U.boxes=some cs->g.box k=some b->∀o,¬iJ g0 Mu b o:=by
  intro k cs b e W o p;obtain⟨Y,M,I,A,e3⟩:=own b o p;obtain⟨e4,e5⟩:=J k cs e;have:=T.fB k Y cs M b e4 A W e3;subst this;exact e5 I
 have q:g.le g1:=⟨fun b o v h=>D.le b o v (by rw[h0G];exact h),fun _ _ h=>h,fun _ _ _=>rfl,fun k hw fS h=>⟨hw,fS,h,aak _,fun _=>rfl⟩⟩
 have P:∀b o,b<w.heap.size->¬iJ g0 Mu b o->g.G b o=none->g'.G b o=none:=by
  intro b o W C h;cases hg:g'.G b o with
  | none=>rfl
  | some v =>
   rcases D.new b o v hg with h'|h'|h'
   ·simp_all
   ·omega
   ·exact absurd h' C
 have XN:∀k n b S Q,ak k σ.toks=some n->g.tok k=some (n,some (b,S,Q))->∀o,¬iJ g0 Mu b o:=by
  intro k n b S Q e I o p;obtain⟨fS,O,f2⟩:=T.tok k n e;rw[I]at O;simp at O;subst O;obtain⟨Y,M,_,A,e3⟩:=own b o p;exact(f2 b S Q rfl).2.2 Y M A e3
 refine⟨⟨B.oI,?_,?_,?_,?_,?_,?_⟩,⟨D.os,D.tape,D.output,D.size,fun b W C=>D.block b W (fun o p=>C o (Gc b o p)),fun b o W C=>D.kept b o W (fun p=>C (Gc b o p)),?_,?_,?_,?_,?_⟩,q,?_⟩
 ·intro k cs e;obtain⟨e0,_⟩:=J k cs e;obtain⟨b,K,H,b3,b4⟩:=T.box k cs e0;have C:=S0 k cs b e K;exact⟨b,K,Nat.lt_of_lt_of_le H D.size,fun o=>P b o H (C o) (b3 o),(cr.of_same (fun o=>D.kept b o H (C o)) b4).mono q⟩
 ·intro k k' cs M b e e';exact T.fB k k' cs M b (J k cs e).1 (J k' M e').1
 ·intro k n e;rw[XM]at e;obtain⟨fS,h1,h2⟩:=T.tok k n e;refine⟨fS,h1,fun b S Q hr=>?_⟩;obtain⟨E,h4,h5⟩:=h2 b S Q hr;subst hr;refine⟨Nat.lt_of_lt_of_le E D.size,fun o I5 LH=>?_,fun k' cs e'=>h5 k' cs (J k' cs e').1⟩;obtain⟨h6,⟨u,h7⟩,h8⟩:=h4 o I5 LH;have C:=XN k n b S Q e h1 o;exact⟨P b o E C h6,⟨u,(D.kept b o E C).1.trans h7⟩,(D.kept b o E C).2.trans h8⟩
 ·rw[XM];exact T.gw
 ·rw[Z2];exact T.used
 ·intro k cs b e W o;obtain⟨e0,_⟩:=J k cs e;obtain⟨b',K,H,_⟩:=T.box k cs e0;rw[W]at K;cases K;have C:=S0 k cs b e W o;obtain⟨q1,q2⟩:=T.room k cs b e0 W o;exact⟨fun p=>(q1 p).imp fun u hu=>(D.kept b o H C).1.trans hu,(D.kept b o H C).2.trans q2⟩
 ·exact q.1
 ·intro b o v h;rcases D.new b o v h with h'|h'|h'
  ·simp_all
  ·exact .inr (.inl h')
  ·simp_all
 ·grind
 ·grind
 ·intro k _ e;cases hc:ak k U.boxes with
  | none=>exact absurd hc e
  | some cs=>exact⟨by rw[(J k cs hc).1];simp,rfl,rfl⟩
 ·rintro cells rfl;have hg:ak 999999 (qv 999999 (some cells)).boxes=some (cells.map AV.c):=by simp[qv,au]
  obtain⟨b,K,H,b3,b4⟩:=B.box 999999 _ hg;have hor:=D.boxes 999999 _ b hg K;refine⟨b,K,H,b3,?_,?_,?_,?_,B.room 999999 _ b hg K⟩
  ·have:∀(l:List CV) (o:Nat),cr w' g' b o (l.map AV.c)->cr w' g1 b o (l.map AV.c):=by
    intro l
    induction l with
    | nil=>intro o _;trivial
    | cons c l ih =>
     intro o h;obtain⟨⟨u,h1,h2,E⟩,h4,h5⟩:=h;exact⟨⟨u,h1,BI,E⟩,h4,ih _ h5⟩
   exact this _ _ b4
  ·intro k cs e W;obtain⟨e0,I⟩:=J k cs e;obtain⟨b',O,f2,_⟩:=T.box k cs e0;rw[W]at O;cases O;rcases hor with h|⟨k0,N,h1,h2⟩
   ·omega
   ·obtain⟨Y,M,E,h4,h5⟩:=h0 k0 N b h1 h2;have:=T.fB k Y cs M b e0 h4 W h5;subst this;exact I E
  ·rintro k n b' S Q e I rfl;rw[XM]at e;obtain⟨fS,O,f2⟩:=T.tok k n e;rw[I]at O;simp at O;subst O;obtain⟨f3,_,f5⟩:=f2 _ S Q rfl;rcases hor with h|⟨k0,N,h1,h2⟩
   ·omega
   ·grind
  ·grind
theorem S3 {O w:World} {g0 g:Gh} {Mu σ:St} (T:Inv w g σ) (D:gQ O g0 Mu w g σ) {d:Nat} (hd:d ∉ σ.used) (jm:d<1000000) {b R:Nat} {cells:List AV} (hb:b<w.heap.size) (hG:∀o,g.G b o=none) (hc:cr w g b 0 cells)
  (z8:∀k cs,ak k σ.boxes=some cs->g.box k≠some b) (B1:∀k n P S Q,ak k σ.toks=some n->g.tok k=some (n,some (P,S,Q))->P≠b)
  (q:O.heap.size<=b\/∃p N,ak p Mu.boxes=some N/\g0.box p=some b) (K:∀o,(o<R->∃u,w.cell? ⟨b,o,none⟩=some u)/\w.frozen? ⟨b,o,none⟩=false) :
  let g':Gh:=⟨g.G,fun k=>if k=d then some b else g.box k,g.tok,fun k=>if k=d then R else g.room k⟩
  Inv w g' (σ.dX d cells)/\gQ O g0 Mu w g' (σ.dX d cells)/\g.le g':=by
 intro g';have SL:g.box d=none:=by
  cases h:g.box d with
  | none=>rfl
  | some x=>exact absurd (T.used d (.inl oe)) hd
 have J:g.le g':=by
  refine⟨jk.le.refl _,fun k x h=>?_,fun k x h=>?_,fun k hw A h=>⟨hw,A,h,aak _,fun _=>rfl⟩⟩
  ·grind
  ·grind
 have V:∀k cs,ak k (σ.dX d cells).boxes=some cs->(k=d/\cs=cells)\/(k≠d/\ak k σ.boxes=some cs):=by
  intro k cs e;simp only[St.dX,au]at e;split at e
  ·simp_all
  ·simp_all
 refine⟨⟨T.oI,?_,?_,?_,T.gw,?_,?_⟩,⟨D.os,D.tape,D.output,D.size,D.block,D.kept,D.le,D.new,?_,D.toks,?_⟩,J⟩
 ·intro k cs e;rcases V k cs e with ⟨rfl,rfl⟩|⟨h1,h2⟩
  ·exact⟨b,Wj,hb,hG,hc.mono J⟩
  ·obtain⟨P,H,E,B,f4⟩:=T.box k cs h2;exact⟨P,by simp[g',h1,H],E,B,f4.mono J⟩
 ·intro k k' cs M P e e' C U;simp only[g']at C U;rcases V k cs e with ⟨rfl,rfl⟩|⟨h1,h2⟩
  ·grind
  ·rw[if_neg h1]at C;rcases V k' M e' with ⟨rfl,rfl⟩|⟨xb,yQ⟩
   ·simp_all
   ·rw[if_neg xb]at U;exact T.fB k k' cs M P h2 yQ C U
 ·intro k n e;obtain⟨A,C,U⟩:=T.tok k n e;refine⟨A,C,fun P S Q I=>?_⟩;obtain⟨e3,e4,e5⟩:=U P S Q I;subst I;have zP:=B1 k n P S Q e C;refine⟨e3,e4,fun k' cs e'=>?_⟩;simp only[g'];rcases V k' cs e' with ⟨rfl,rfl⟩|⟨h1,h2⟩
  ·grind
  ·simp_all
 ·intro k e;show k∈d::σ.used;by_cases Y:k=d
  ·simp[Y]
  ·simp only[List.mem_cons];right;apply T.used k;simpa[g',Y]using e
 ·intro k cs P e C o;simp only[g']at C ⊢;rcases V k cs e with ⟨rfl,rfl⟩|⟨h1,h2⟩
  ·simp_all
  ·rw[if_neg h1]at C;rw[if_neg h1];exact T.room k cs P h2 C o
 ·intro k cs P e C;simp only[g']at C;rcases V k cs e with ⟨rfl,rfl⟩|⟨h1,h2⟩
  ·simp_all
  ·rw[if_neg h1]at C;exact D.boxes k cs P h2 C
 ·intro k wZ e;cases W:ak k (σ.dX d cells).boxes with
  | none=>exact absurd W e
  | some cs =>
   rcases V k cs W with ⟨rfl,rfl⟩|⟨h1,h2⟩
   ·omega
   ·obtain⟨H,E,B⟩:=D.ids k wZ (by rw[h2];simp);exact⟨H,by simp[g',h1,E],by simp[g',h1,B]⟩
section
variable {P : Program} {X : Ctx}
theorem J4 (u:Nat):gR (fun σ=>σ.eH u) ⟨[],[u]⟩ where
 out:=fun σ k D=>by
  simp at D;refine⟨?_,rfl,Iff.rfl⟩;simp only[St.eH,jM];rw[if_neg D]
 same:=fun σ G h k D=>by
  obtain⟨h1,h2,V⟩:=h k (.inr D);refine⟨?_,h2,V⟩;simp only[St.eH,jM];split
  ·rfl
  ·exact h1
theorem bU.lG {o:Oper} {env:Env} {σ:St} {f:FuncId} {args:Array Operand} {E:Array TypeId} (p:o.op = .call {callee := .value (.func f),args:=args,argTypes:=E})
  {d:Nat} (H:d<1000000) (U:mem d σ.used=false) {S:List CV} (M:gV (aL X env) args.toList=some S) {s n:Nat} {cells:List CV} (hq:dS P X f none (S.map AV.c) (.gv 999999 0 s n) (some cells)) :
  bU P X o env σ (.gv d 0 s n) (fun σ=>σ.dX d (cells.map AV.c)) ⟨[],[d]⟩:=by
 intro K G w g a next Q h1 h2 T Y B A;have q:gV (aL X K) args.toList=some S:=by
  rw[jz _ (fun x O=>h1 x (by rw[p];simp only[Op.operands,Call.operands,Array.toList_append,List.mem_append];exact .inr O))];exact M
 have fU:=nF (g:=g) (ev:=a.eval) (fun x v O=>ct B Y O) q;have D:(execOp a.eval o).run P w = .ok (.enter f (args.map a.eval)) w:=by
  obtain⟨dst,op,W,pos,J,guard⟩:=o;simp only at p;subst p;simp[execOp,resolve,Deferred.ofValue,invoke,Act.eval,hq.1 _ w]
 unfold Oper.wp;rw[D,Oper.upon_enter];have N:=Mt T none none (fun _ h=>by cases h) (fun _=>rfl);have:=hq.2 (g.fW (rE none)) w (args.toList.map a.eval) N Y (oV (g:=g.fW (rE none)) fU);rw[show(args.toList.map a.eval).toArray=args.map a.eval from by rw[<- Array.toList_map]]at this;refine this.mono ?_;rintro e w' ⟨u,g',rfl,V,h4,h5⟩;obtain⟨k1,k2,k3,k4⟩:=SZ (g0:=g.fW (rE none)) (Mu:=qv 1000000 none) T rfl (oB _ _) none (fun k cs b e=>by simp[qv,ak]at e) h4 h5 G (.inl ⟨rfl,rfl⟩);obtain⟨b,c1,c2,c3,c4,c5,c6,c7,c8⟩:=k4 cells rfl;have SY:d ∉ G.used:=fun h=>cS U ((h2 d (.inr c9)).2.2.1 h);obtain⟨p1,p2,p3⟩:=S3 k1 k2 SY H c2 c3 c4 c5 c6 c7 c8;refine A u w' _ ?_ p1 p2 (k3.trans p3);simp only[aK]at V ⊢;obtain⟨b',I,oo,C,e2,e3,e4,e5⟩:=V;rw[c1]at C;cases C;exact⟨b,I,oo,c9,e2,e3,by simpa using e4,e5⟩
theorem bU.GS {o:Oper} {env:Env} {σ:St} {f:FuncId} {args:Array Operand} {E:Array TypeId} (p:o.op = .call {callee := .value (.func f),args:=args,argTypes:=E})
  {x:Operand} {rest:List Operand} (U:args.toList=x::rest) {Y B S:Nat} (O:aL X env x=some (.gv Y 0 B S)) {N:List CV} (ha:gV (aL X env) rest=some N)
  {cells:List CV} (W:ak Y σ.boxes=some (cells.map AV.c)) {v:CV} (hq:dS P X f (some cells) (.gv 1000000 0 B S::N.map AV.c) (.c v) none) :
  bU P X o env σ (.c v) (fun σ=>σ.eH Y) ⟨[],[Y]⟩:=by
 intro cV G w g a next Q h1 h2 T M di A;have qh:∀y∈args.toList,y∈o.op.operands.toList:=by
  intro y J;rw[p];simp only[Op.operands,Call.operands,Array.toList_append,List.mem_append];exact .inr J
 have xP:gV (aL X cV) rest=some N:=by
  rw[jz _ (fun y J=>h1 y (qh y (by rw[U];exact List.mem_cons_of_mem _ J)))];exact ha
 have K:aL X cV x=some (.gv Y 0 B S):=by rw[h1 x (qh x (by simp[U]))];exact O
 have fU:=nF (g:=g) (ev:=a.eval) (fun x v O=>ct di M O) xP;have Z3:=ct (a:=a) di M K;have J5:ak Y G.boxes=some (cells.map AV.c):=by rw[(h2 Y (.inr c9)).1];exact W
 have D:(execOp a.eval o).run P w = .ok (.enter f (args.map a.eval)) w:=by
  obtain⟨dst,op,type,pos,I,guard⟩:=o;simp only at p;subst p;simp[execOp,resolve,Deferred.ofValue,invoke,Act.eval,hq.1 _ w]
 unfold Oper.wp;rw[D,Oper.upon_enter];have q:=Mt T (some Y) (some cells) (fun _ h=>by cases h;exact⟨Y,rfl,J5⟩) (fun h=>by cases h);have XJ:∀V,(g.fW (rE (some Y))).box V=if V=1000000 then g.box Y else none:=by
  intro V;by_cases h:V=1000000<;>simp[Gh.fW,rE,h]
 have:=hq.2 (g.fW (rE (some Y))) w (args.toList.map a.eval) q M (by
  rw[U];simp only[List.map_cons,bF];refine⟨_,_,rfl,?_,oV (g:=g.fW (rE (some Y))) fU⟩;simp only[aK]at Z3 ⊢;obtain⟨b,H,oo,C,e2,e3,e4,e5⟩:=Z3
  exact⟨b,H,oo,by rw[XJ];simpa using C,e2,e3,by simpa[Gh.fW,rE]using e4,e5⟩)
 rw[show(args.toList.map a.eval).toArray=args.map a.eval from by rw[<- Array.toList_map]]at this;refine this.mono ?_;rintro e w' ⟨u,g',rfl,h3,h4,h5⟩
 obtain⟨k1,k2,k3,_⟩:=SZ (g0:=g.fW (rE (some Y))) (Mu:=qv 1000000 (some cells)) T rfl (oB _ _) (some Y) (fun k cs b e C=>by
  obtain⟨rfl,_⟩:=wB e;rw[XJ]at C
  exact⟨Y,_,rfl,J5,VI⟩) h4 h5 (G.eH Y) (.inr ⟨Y,rfl,rfl⟩)
 exact A u w' _ We k1 k2 k3
end
section
variable {P : Program} {X : Ctx} {ops : Array Oper} {o : Oper} {rest : List Oper} {env : Env} {acc : List Fp} {Q : Env -> St -> List Fp -> Prop} {bs : List (Nat × List AV)} {ts : List (Nat × Nat)} {us : List Nat} {σ : St}
theorem ai.lG (kn:List Nat) (U:cU ops.toList kn env o=some true) {f:FuncId} {args:Array Operand} {E:Array TypeId} (p:o.op = .call {callee := .value (.func f),args:=args,argTypes:=E})
  {d:Nat} (H:o.dst=some d) (B:Nat.blt d 1000000=true) (A:mem d us=false) {S:List CV} (u:gV (aL X env) args.toList=some S) {s n:Nat} {cells:List CV} {Y:List AV} (hq:dS P X f none Y (.gv 999999 0 s n) (some cells)) (W:Y=S.map AV.c)
  (k:ai P X ops rest ((d,.gv d 0 s n)::env) ⟨(d,cells.map AV.c)::bs,ts,d::us⟩ (⟨[],[d]⟩::acc) Q):ai P X ops (o::rest) env ⟨bs,ts,us⟩ acc Q:=by
 subst W;exact ai.step (dj U) (bU.lG (σ:=⟨bs,ts,us⟩) p (Nat.blt_eq.mp B) A u hq) (pZ d _) xu
theorem ai.GS (kn:List Nat) (O:cU ops.toList kn env o=some true) {f:FuncId} {args:Array Operand} {E:Array TypeId} (p:o.op = .call {callee := .value (.func f),args:=args,argTypes:=E})
  {x:Operand} {W:List Operand} (U:args.toList=x::W) {d:Nat} (H:o.dst=some d) {u B V:Nat} (N:aL X env x=some (.gv u 0 B V)) {S:List CV} (C:gV (aL X env) W=some S)
  {cells:List CV} (Y:ak u bs=some (cells.map AV.c)) {v:CV} {T:List AV} (hq:dS P X f (some cells) T (.c v) none) (M:T = .gv 1000000 0 B V::S.map AV.c) {bs':List (Nat×List AV)} (D:BT u bs=bs')
  (k:ai P X ops rest ((d,.c v)::env) ⟨bs',ts,us⟩ (⟨[],[u]⟩::acc) Q):ai P X ops (o::rest) env ⟨bs,ts,us⟩ acc Q:=by
 subst M D;exact ai.step (dj O) (bU.GS (σ:=⟨bs,ts,us⟩) p U N C Y hq) (J4 u) xu
end
end Go.cq
namespace Go.cq
theorem dS.of {P:Program} {X:Ctx} {f:FuncId} {Y:Func} {c:Code} {H G:Option (List CV)} {args:List AV} {r:AV} (hf:P.funcs[f]?=some Y) (Q:Y.body=some c) (O:Enters P f)
  (E:args.length<=Y.ntmps) (env:Env) (σ:St) (N:env=(args.zipIdx.map fun(v,i)=>(i,v))) (A:qv 1000000 H=σ)
  (h:∀β,AK P X f Y.ntmps β (GR β r G) [.code c] env σ):dS P X f H args r G:=by
 subst A;refine⟨O,fun g w vs T M U cs=>?_⟩;have S:=(bF.get U).1;have K:Live X ⟨w,g,qv 1000000 H⟩ Y.ntmps env (qv 1000000 H) g w {tmps:=vs.toArray++Array.replicate (Y.ntmps-vs.toArray.size) undef,defers:=[]}:=by
  refine⟨T,M,?_,gQ.refl _ _ _,?_,rfl⟩
  ·intro t a e;subst N;have V:∀(l:List AV) (us:List Value) (k:Nat),bF g l us->ak t ((l.zipIdx k).map fun(v,i)=>(i,v))=some a->k<=t/\∃u,us[t-k]?=some u/\aK g a u:=by
    intro l
    induction l with
    | nil=>intro us k _ e;simp[ak]at e
    | cons v l D =>
     intro us k I e;simp only[bF]at I;obtain⟨u,us,rfl,h1,h2⟩:=I;simp only[List.zipIdx_cons,List.map_cons,au]at e;split at e
     ·simp_all
     ·grind
   obtain⟨_,u,W,p⟩:=V args vs 0 U e;simp at W;have C:t<vs.length:=(List.getElem?_eq_some_iff.1 W).1;have:(vs.toArray++Array.replicate (Y.ntmps-vs.toArray.size) undef).getD t undef=u:=by
    rw[Array.getD_eq_getD_getElem?,Array.getElem?_append_left VI];simp[W]
   rw[this];exact p
  ·simp;omega
 obtain⟨e,w',fr,h1,W,p,B⟩:=h ⟨w,g,qv 1000000 H⟩ g w _ cs K;have J:Frame.enter P f vs.toArray .normal =
   (top f).at {tmps:=vs.toArray++Array.replicate (Y.ntmps-vs.toArray.size) undef,defers:=[]} [.code c]:=by
  simp[Frame.enter,Frame.at,hf,Q,top]
 exact⟨_,w',fr,h1,by rw[J];exact W,p,B⟩
section
variable {P : Program} {X : Ctx} {f : FuncId} {n : Nat} {β : jG} {K : List Item} {env : Env}
theorem AK.Xa (hX:cx P X) {W:Func} (hf:P.funcs[f]?=some W) {bs:List (Nat×List AV)} {ts:List (Nat×Nat)} {us:List Nat} {Y s m:Nat} {cells:List CV} {cs:List AV}
  (M:tg X bs env W.results.toList=some [.gv Y 0 s m]) (G:ak Y bs=some cs) (V:cs=cells.map AV.c):AK P X f n β (GR β (.gv 999999 0 s m) (some cells)) (.code .ret::K) env ⟨bs,ts,us⟩:=by
 subst V;intro g w a cs A;obtain⟨u,T,U⟩:=oU hX A M
 obtain⟨S,Q⟩:=A.inv.fW ⟨fun k=>if k=999999 then some Y else none,fun _=>none⟩ (qv 999999 (some cells)) (by
   intro k c e;obtain⟨rfl,q,C,rfl⟩:=wB e;cases C;exact⟨Y,_,c9,G,dz _⟩) (by
   intro k k' p e e';simp only at e e';split at e
   ·simp_all
   ·simp at e) (by
   intro k n e;rw[oB]at e;simp[ak]at e) (by intro k k' m m' p e;simp at e) (by
   intro k e;simp only[ne_eq,not_true,or_false]at e;by_cases D:k=999999
   ·subst D;simp[qv]
   ·simp[D]at e)
 refine⟨.returned u,w,_,⟨u,_,rfl,?_,S,A.frame.trans (Q fun k D e=>?_)⟩,.one step_ret,rfl,rfl,A.defers,rfl,W,hf,T⟩
 ·simp only[aK]at U ⊢;obtain⟨b,I,O,C,N,B,J,H⟩:=U;exact⟨b,I,O,by simpa[Gh.fW]using C,N,B,by simpa[Gh.fW]using J,H⟩
 ·cases E:ak k (qv 999999 (some cells)).boxes with
  | none=>exact absurd E e
  | some c=>obtain⟨rfl,_⟩:=wB E;omega
end
theorem AJ {g:Gh}:∀{cs:List CV} {vs:List Value},bF g (cs.map AV.c) vs->bL g.G cs vs
 | [],vs,h=>by simpa[bF,bL]using h
 | c::cs,vs,h=>by
  simp only[List.map_cons,bF]at h;obtain⟨u,us,rfl,h1,h2⟩:=h;simp only[bL];exact⟨u,us,rfl,Q9,AJ h2⟩
structure N6 (w:World) (b:Nat) (w':World) (b':Nat) (news:List Value):Prop where
 os:w'.os=w.os
 tape:w'.tape=w.tape
 output:w'.output=w.output
 size:w.heap.size<=w'.heap.size
 blk:b'=b\/w.heap.size<=b'
 cells:∀(j:Nat) u,news[j]?=some u->w'.cell? ⟨b',j,none⟩=some u
 rest:∀b2,b2<w.heap.size->b2≠b->w'.heap[b2]?=w.heap[b2]?
theorem tF {w w':World} {b:Nat} (h:w'.heap[b]?=w.heap[b]?) (o:Nat):w'.cell? ⟨b,o,none⟩=w.cell? ⟨b,o,none⟩:=by
 unfold World.cell?;simp only[h]
theorem zm {w w':World} {b:Nat} (h:w'.heap[b]?=w.heap[b]?) (o:Nat):w'.frozen? ⟨b,o,none⟩=w.frozen? ⟨b,o,none⟩:=by
 unfold World.frozen?;simp only[h]
theorem C8 {w:World} {b o:Nat} {v:Value} (h:w.cell? ⟨b,o,none⟩=some v):b<w.heap.size:=by
 rcases Nat.lt_or_ge b w.heap.size with E|E
 ·exact E
 ·simp[World.cell?,Array.getElem?_eq_none E]at h
theorem dS.raw {P:Program} {X:Ctx} {f:FuncId} {cells:List CV} {s M:Nat} {H:List CV} (he:Enters P f) (h0:0<M) {rows:List CV} (J:∀r∈rows,r.cells.length=s) (N:(bI rows).all CV.one=true)
  (h:∀(w:World) (G:jk) (b I:Nat) (vs us:List Value),b<w.heap.size->(∀o,G b o=none)->(∀b o v,G b o=some v->w.cell? ⟨b,o,none⟩=some v)->bL G cells vs ->
   (∀(j:Nat) u,vs[j]?=some u->w.cell? ⟨b,j,none⟩=some u)->cells.all CV.one=true->M<=I->(∀o,(o<I*s->∃u,w.cell? ⟨b,o,none⟩=some u)/\w.frozen? ⟨b,o,none⟩=false)->bL G H us ->
   ∃news,bL G (bI rows) news/\Calls P f (.slice (some ⟨b,0,none⟩) M I::us).toArray w fun e w'=>∃S W,e = .returned (.slice (some ⟨S,0,none⟩) rows.length W)/\rows.length<=W/\N6 w b w' S news) :
  dS P X f (some cells) (.gv 1000000 0 s M::H.map AV.c) (.c (.sl s rows)) none:=by
 refine⟨he,fun g w vs T cy A=>?_⟩;simp only[bF]at A;obtain⟨u,us,rfl,D,pT⟩:=A;simp only[aK]at D;obtain⟨b,I,o,C,rfl,e2,e3,e4⟩:=D;have p:o=some ⟨b,0,none⟩:=by grind
 subst p;have E:ak 1000000 (qv 1000000 (some cells)).boxes=some (cells.map AV.c):=by simp[qv,au]
 obtain⟨S,q,c2,c3,c4⟩:=T.box 1000000 _ E;rw[C]at q;cases q;obtain⟨vs,v1,v2,v3⟩:=oA (tail:=[]) (by simpa using c4);have V:=T.room 1000000 _ b E C;obtain⟨news,n1,hc⟩:=h w g.G b I vs us c2 c3 T.oI v1 (fun j u K=>by have:=v2 j u K;rwa[Nat.zero_add]at this) v3 e2 (fun o=>⟨fun p=>(V o).1 bn,(V o).2⟩) (AJ pT);refine hc.mono ?_;rintro e w' ⟨S,W,rfl,S4,R⟩;let Q:jk:=fun B o=>if B=S then(if o<(bI rows).length then w'.cell? ⟨S,o,none⟩else none)else g.G B o
 have S5:∀B o v,g.G B o=some v->B≠b/\B<w.heap.size/\B≠S:=by
  intro B o v Y;have h1:B≠b:=by rintro rfl;rw[c3]at Y;simp at Y
  have h2:=C8 (T.oI B o v Y);refine⟨h1,h2,?_⟩;rintro rfl;rcases R.blk with h|h
  ·exact h1 h
  ·omega
 have Ms:g.G.le Q:=by
  intro B o v Y;simp only[Q,(S5 B o v Y).2.2,if_false];exact Y
 have ij:∀B o v,Q B o=some v->w'.cell? ⟨B,o,none⟩=some v:=by
  intro B o v Y;simp only[Q]at Y;split at Y
  ·simp_all
  ·obtain⟨h1,h2,_⟩:=S5 B o v Y;rw[tF (R.rest B h2 h1)];exact T.oI B o v Y
 have Oq:=(bL.get n1).1
 have fM:eX Q s S 0 rows:=pg.2 ⟨mP (bL.mono Ms _ _ n1) (fun j u K=>by
  have hlt:j<news.length:=(List.getElem?_eq_some_iff.1 K).1;simp only[Q,if_pos,Nat.zero_add];rw[if_pos bn]
  exact R.cells j u K) N,J⟩
 refine⟨_,⟨Q,fun _=>none,fun _=>none,fun _=>0⟩,rfl,?_,?_,?_⟩
 ·simp only[aK,Rel];exact⟨_,_,_,rfl,rfl,S4,.inr ⟨S,0,rfl,fM⟩⟩
 ·exact⟨ij,fun k cs e=>by simp[qv,ak]at e,fun k k' cs cs' b e=>by simp[qv,ak]at e,fun k n e=>by simp[qv,ak]at e,fun k k' n n' b lo hi lo' hi' e=>by simp[qv,ak]at e,fun k e=>by simp at e,fun k cs b e=>by simp[qv,ak]at e⟩
 ·have O:∀U,(∀o,¬iJ g (qv 1000000 (some cells)) U o)\/(∃o,¬iJ g (qv 1000000 (some cells)) U o)->U≠b:=by
   rintro U h rfl;have p:∀o,iJ g (qv 1000000 (some cells)) U o:=fun o => .inl ⟨1000000,_,E,C⟩;rcases h with h|⟨o,h⟩
   ·exact h 0 (p 0)
   ·exact h (p o)
  refine⟨R.os,R.tape,R.output,R.size,fun U h1 h2=>R.rest U h1 (O U (.inl h2)),fun U o h1 h2=>?_,Ms,?_,fun k cs b e=>by simp[qv,ak]at e,fun k n b lo hi e=>by simp[qv,ak]at e,fun k _ e=>by simp[qv,ak]at e⟩
  ·have:=R.rest U h1 (O U (.inr ⟨o,h2⟩));exact⟨tF this o,zm this o⟩
  ·intro B o v Y;simp only[Q]at Y;split at Y
   ·rename_i hb;subst hb;rcases R.blk with h|h
    ·grind
    ·exact .inr (.inl h)
   ·exact .inl Y
end Go.cq
namespace Go.cq
def notNil:AV->Bool
 | .c (.sl _ (_::_))=>true
 | .own _ _ (_::_)=>true
 | .gv _ _ _ n=>Nat.blt 0 n
 | _=>false
def S6:AV->Bool
 | .c (.sl ..)=>true
 | .own .. => true
 | .gv .. => true
 | _=>false
def HC (a:AV):CV:=match notNil a with
 | true => .bool false
 | false => .qG
theorem S7 {g:Gh} {a:AV} {u:Value} (h:S6 a=true) (M:aK g a u):∃base Y I,u = .slice base Y I/\(notNil a=true->base≠none):=by
 unfold S6 at h;split at h
 ·rename_i s rows;simp only[aK,Rel]at M;obtain⟨base,Y,I,rfl,A,E,M⟩:=M;refine⟨base,Y,I,rfl,fun W=>?_⟩;rcases M with rfl|⟨b,o,rfl,_⟩
  ·simp[notNil]at W
  ·simp
 ·rename_i k s rows;simp only[aK]at M;obtain⟨base,Y,I,rfl,A,E,M,_⟩:=M;refine⟨base,Y,I,rfl,fun W=>?_⟩;rcases M with rfl|⟨b,o,rfl,_⟩
  ·simp[notNil]at W
  ·simp
 ·simp only[aK]at M;obtain⟨b,I,o,_,rfl,h1,_,h2⟩:=M;refine⟨_,_,_,rfl,fun W=>?_⟩;have:=Nat.blt_eq.mp W;rcases h2 with h2|h2
  ·omega
  ·simp[h2]
 ·simp at h
section
variable {P : Program} {X : Ctx}
theorem BW {t e:TypeId} {w:World} (d:Nat) (h:(underlying t).run P w = .ok (.slice e) w) (a:Addr) (n m:Nat) :
  (Op.equalIn (d+1) t (.slice (some a) n m) (.slice none 0 0)).run P w = .ok false w:=by simp[Op.equalIn,h]
theorem BX {t e:TypeId} {w:World} (d:Nat) (h:(underlying t).run P w = .ok (.slice e) w) (n m:Nat) :
  (Op.equalIn (d+1) t (.slice none n m) (.slice none 0 0)).run P w = .ok true w:=by simp[Op.equalIn,h]
theorem wW {t e:TypeId} {w:World} (h:(underlying t).run P w = .ok (.slice e) w) (base:Option Addr) (n m:Nat) :
  (Op.equal t (.slice base n m) (.slice none 0 0)).run P w = .ok base.isNone w:=by
 cases base with
 | none=>exact BX 9999 h n m
 | some a=>exact BW 9999 h a n m
theorem bU.S8 (hX:cx P X) {o:Oper} {env:Env} {σ:St} {t U:TypeId} {x:Operand} (p:o.op = .binOp .eql t x (.const (.slice none 0 0)) U) {i:TI} {e:Nat} (T:X.ti t=some i) (D:i.kind = .slice e)
  {a:AV} (O:aL X env x=some a) (u:S6 a=true):bU P X o env σ (.c (HC a)) (fun σ=>σ) ⟨[],[]⟩:=by
 refine bU.val fun A w g W h1 ij S N=>?_;have V:aL X A x=some a:=by rw[h1 x V6];exact O
 obtain⟨base,Y,I,M,K⟩:=S7 u (ct (a:=W) N S V);obtain⟨d1,H,B,Xr⟩:=hX.run_underlying (w:=w) T;rw[D]at B;simp only[eF]at B;subst B;refine⟨Value.bool base.isNone,?_,?_⟩
 ·obtain⟨G,op,Q,C,J,guard⟩:=o;simp only at p;subst p;have E:binOp .eql t (.slice base Y I) (.slice none 0 0)=(do Pure.pure (Value.bool (<- Op.equal t (.slice base Y I) (.slice none 0 0)))):=rfl;have q:W.eval (.const (.slice none 0 0)) = .slice none 0 0:=rfl;simp[execOp,M,q,E,eqGuard_at_slice,wW H]
 ·unfold HC;split
  ·rename_i hh;simp only[aK,Rel];have:=K hh;cases base<;>simp at this ⊢
  ·simp only[aK,Rel];exact⟨_,rfl⟩
variable {ops : Array Oper} {rest : List Oper} {o : Oper} {env : Env} {σ : St} {acc : List Fp} {Q : Env -> St -> List Fp -> Prop}
theorem ai.S8 (hX:cx P X) (kn:List Nat) (E:cU ops.toList kn env o=some true) {t Y:TypeId} {x:Operand} (p:o.op = .binOp .eql t x (.const (.slice none 0 0)) Y) {d:Nat} (H:o.dst=some d) {i:TI} {e:Nat} (W:X.ti t=some i) (D:i.kind = .slice e)
  {a:AV} (O:aL X env x=some a) (u:S6 a=true) {v:CV} (V:HC a=v)
  (k:ai P X ops rest ((d,.c v)::env) σ (⟨[],[]⟩::acc) Q):ai P X ops (o::rest) env σ acc Q:=by
 subst V;exact ai.step (dj E) (bU.S8 hX p W D O u) (gR.id _) xu
variable {f : FuncId} {n : Nat} {β : jG} {R : Ending -> World -> Prop} {K : List Item}
theorem AK.pJ {c:Operand} {x y:Code} (E:aL X env c=some (.c .qG)) (h1:AK P X f n β R (.code x::K) env σ) (h2:AK P X f n β R (.code y::K) env σ) :
  AK P X f n β R (.code (.cond c x y)::K) env σ:=by
 intro g w a cs A;have:=ct A.env A.rC E;simp only[aK,Rel]at this;obtain⟨b,G⟩:=this;cases b
 ·obtain⟨e,w',fr,D,W,p,S⟩:=h2 g w a cs A;have st:=step_cond (P:=P) (b:=top f) (x:=x) (y:=y) (k:=K) (cs:=cs) (w:=w) G;rw[if_neg cc]at st;exact⟨e,w',fr,D,W.of_steps (.one st),p,S⟩
 ·obtain⟨e,w',fr,D,W,p,S⟩:=h1 g w a cs A;have st:=step_cond (P:=P) (b:=top f) (x:=x) (y:=y) (k:=K) (cs:=cs) (w:=w) G;rw[if_pos rfl]at st;exact⟨e,w',fr,D,W.of_steps (.one st),p,S⟩
end
end Go.cq
namespace Go.cq
mutual
def Wk:CV->CV->Prop
 | .sl s rows,.sl t Y=>(s=t/\rows=Y)\/(rows=[]/\Y=[])
 | .agg l,.agg m=>xw l m
 | .gy l,.gy m=>xw l m
 | v,.any=>v.one=true
 | v,w=>v=w
def xw:List CV->List CV->Prop
 | [],[]=>True
 | v::l,w::m=>Wk v w/\xw l m
 | _,_=>False
end
mutual
theorem Wk.refl:∀(v:CV),Wk v v
 | .sl s rows=>by unfold Wk;exact .inl ⟨rfl,rfl⟩
 | .agg l=>by simp only[Wk];exact xw.refl l
 | .gy l=>by simp only[Wk];exact xw.refl l
 | .any=>by simp only[Wk];rfl
 | .int .. => by simp only[Wk]
 | .bool .. => by simp only[Wk]
 | .str .. => by simp only[Wk]
 | .lO=>by simp only[Wk]
 | .undef=>by simp only[Wk]
 | .ip .. => by simp only[Wk]
 | .rM .. => by simp only[Wk]
 | .qG=>by simp only[Wk]
theorem xw.refl:∀(l:List CV),xw l l
 | []=>by simp only[xw]
 | v::l=>by simp only[xw];exact⟨Wk.refl v,xw.refl l⟩
end
theorem Wk.of_eq {v w:CV} (h:v=w):Wk v w:=by subst h;exact Wk.refl v
theorem qM {G:jk} {v:CV} {u:Value} (h:v.one=true) (I:Rel G v u):(∀vs,u ≠ .agg vs)/\∀vs,u ≠ .tuple vs:=by
 cases v<;>simp[CV.one]at h<;>simp only[Rel]at I
 case int=>subst I;simp
 case bool=>subst I;simp
 case str=>subst I;simp
 case lO=>subst I;simp
 case sl=>obtain⟨_,_,_,rfl,_⟩:=I;simp
 case ip=>obtain⟨_,_,rfl,_⟩:=I;simp
 case rM=>obtain⟨_,rfl,_⟩:=I;simp
 case any=>exact I
 case qG=>obtain⟨_,rfl⟩:=I;simp
theorem XO {v w:CV} (h:Wk v w) (h1:v.one=true):w.one=true:=by
 unfold Wk at h;split at h
 ·rfl
 ·simp[CV.one]at h1
 ·simp[CV.one]at h1
 ·rfl
 ·subst h;exact h1
mutual
theorem Wk.rel {G:jk}:∀{v w:CV} {u:Value},Wk v w->Rel G v u->Rel G w u
 | .sl s rows,w,u,h,I=>by
  cases w
  case sl t J7 =>
   unfold Wk at h;rcases h with ⟨rfl,rfl⟩|⟨rfl,rfl⟩
   ·exact I
   ·simp only[Rel]at I ⊢;obtain⟨base,W,M,C,U,B,_⟩:=I;exact⟨base,W,M,C,U,B,c9⟩
  case any=>unfold Wk at h;simp only[Rel];exact qM h I
  all_goals (unfold Wk at h;cases h)
 | .agg l,w,u,h,I=>by
  cases w<;>simp only[Wk]at h
  case agg m =>
   simp only[Rel]at I ⊢;obtain⟨vs,C,U,B⟩:=I;obtain⟨g1,Y,_⟩:=xw.rel h U;exact⟨vs,C,g1,Y B⟩
  case any=>simp[CV.one]at h
  all_goals (cases h)
 | .gy l,w,u,h,I=>by
  cases w<;>simp only[Wk]at h
  case gy m =>
   simp only[Rel]at I ⊢;obtain⟨vs,C,U,B⟩:=I;obtain⟨g1,_,Y⟩:=xw.rel h U;exact⟨vs,C,g1,bn⟩
  case any=>simp[CV.one]at h
  all_goals (cases h)
 | .any,w,u,h,I=>by cases w<;>simp only[Wk]at h<;>first|exact I|cases h
 | .int ..,w,u,h,I=>by cases w<;>simp only[Wk]at h<;>first|(simp only[Rel];exact qM h I)|(rw[<- h];exact I)|cases h
 | .bool ..,w,u,h,I=>by cases w<;>simp only[Wk]at h<;>first|(simp only[Rel];exact qM h I)|(rw[<- h];exact I)|cases h
 | .str ..,w,u,h,I=>by cases w<;>simp only[Wk]at h<;>first|(simp only[Rel];exact qM h I)|(rw[<- h];exact I)|cases h
 | .lO,w,u,h,I=>by cases w<;>simp only[Wk]at h<;>first|(simp only[Rel];exact qM h I)|exact I|cases h
 | .undef,w,u,h,I=>by cases w<;>simp only[Wk]at h<;>first|exact I|(simp[CV.one]at h)|cases h
 | .ip ..,w,u,h,I=>by cases w<;>simp only[Wk]at h<;>first|(simp only[Rel];exact qM h I)|(rw[<- h];exact I)|cases h
 | .rM ..,w,u,h,I=>by cases w<;>simp only[Wk]at h<;>first|(simp only[Rel];exact qM h I)|(rw[<- h];exact I)|cases h
 | .qG,w,u,h,I=>by cases w<;>simp only[Wk]at h<;>first|(simp only[Rel];exact qM h I)|exact I|cases h
theorem xw.rel {G:jk}:∀{l m:List CV} {us:List Value},xw l m->bL G l us->bL G m us/\(l.all CV.one=true->m.all CV.one=true)/\l.length=m.length
 | [],[],us,_,I=>⟨I,id,rfl⟩
 | v::l,w::m,us,h,I=>by
  simp only[xw]at h;simp only[bL]at I ⊢;obtain⟨u,us,rfl,D,V⟩:=I;obtain⟨g1,Y,N⟩:=xw.rel h.2 V;refine⟨⟨u,us,rfl,Wk.rel h.1 D,g1⟩,?_,by simp[N]⟩;simp only[List.all_cons,aai];rintro⟨T,S⟩;exact⟨XO h.1 T,Y S⟩
 | [],_::_,_,h,_=>by simp[xw]at h
 | _::_,[],_,h,_=>by simp[xw]at h
end
theorem zQ {x y:CV} {e:Int} (h1:x.one=true) (h2:y.one=true):Wk (.gy [.agg [x,y],.int .i64 e]) (.gy [.agg [.any,.any],.int .i64 e]):=by
 have O:Wk x .any:=by cases x<;>unfold Wk<;>first|exact h1|rfl
 have N:Wk y .any:=by cases y<;>unfold Wk<;>first|exact h2|rfl
 unfold Wk xw xw xw;refine⟨?_,Wk.refl _,trivial⟩;unfold Wk xw xw xw;exact⟨O,N,trivial⟩
theorem vT {s t:Nat} {b:CV}:Wk (.gy [.sl s [],b]) (.gy [.sl t [],b]):=by
 simp only[Wk,xw];exact⟨.inr ⟨trivial,trivial⟩,Wk.refl b,trivial⟩
theorem UZ {s t:Nat} {b c:CV}:Wk (.gy [.agg [.sl s [],b],c]) (.gy [.agg [.sl t [],b],c]):=by
 simp only[Wk,xw];exact⟨⟨.inr ⟨trivial,trivial⟩,Wk.refl b,trivial⟩,Wk.refl c,trivial⟩
section
variable {P : Program} {X : Ctx}
theorem bh.wk {f:FuncId} {args Y:List CV} {r Q:CV} (C:xw args Y) (I:Wk r Q) (q:bh P X f Y r):bh P X f args Q:=by
 refine⟨q.1,fun G w vs h1 h2 V=>?_⟩;exact Calls.mono (q.2 G w vs h1 h2 (xw.rel C V).1) fun e w' ⟨u,W,U,K,B⟩=>⟨u,W,U,Wk.rel I K,B⟩
variable {f : FuncId} {n : Nat} {β : jG} {K : List Item} {env : Env} {σ : St}
theorem AK.abM (hX:cx P X) {Y:Func} (hf:P.funcs[f]?=some Y) {r:AV} {B W:CV}
  (I:nQ X σ.boxes env Y.results.toList=some r) (E:close r=some B) (V:Wk B W):AK P X f n β (QR β W) (.code .ret::K) env σ:=by
 have h:=AK.Y7 (K:=K) (β:=β) (n:=n) hX hf I E rfl;intro g w a cs A;obtain⟨e,w',fr,⟨u,g',h1,h2,U⟩,h4⟩:=h g w a cs A;exact⟨e,w',fr,⟨u,g',h1,Wk.rel V h2,U⟩,h4⟩
end
end Go.cq
namespace Go.cq
inductive J8 where
 | ok (env:Env) (bs:List (Nat×List AV)) (us:List Nat) (fp:Fp)
 | no
def Js (X:Ctx) (T:List Oper) (o:Oper) (env:Env) (bs:List (Nat×List AV)) (us:List Nat):J8 :=
 match cU T kn env o with
 | some true=>match o.op,o.dst with
  | .box _ x,some d=>match aL X env x with
   | some a=>match jR a with
    | some cells=>match JS d us with
     | false => .ok ((d,.ptr d 0)::env) ((d,cells)::bs) (d::us) ⟨[],[d]⟩
     | true => .no
    | none => .no
   | none => .no
  | .alloc t,some d=>match X.ti t with
   | some i=>match i.zero with
    | some M=>match jR M with
     | some cells=>match JS d us with
      | false => .ok ((d,.ptr d 0)::env) ((d,cells)::bs) (d::us) ⟨[],[d]⟩
      | true => .no
     | none => .no
    | none => .no
   | none => .no
  | .store t x y,none=>match X.ti t,aL X env x,aL X env y with
   | some i,some (.ptr u off),some a=>match ak u bs,jR a with
    | some cells,some vs=>match Nat.beq vs.length i.size,dK off vs cells with
     | true,some r=>match xd u r bs with
      | some bs' => .ok env bs' us ⟨[],[u]⟩
      | none => .no
     | _,_ => .no
    | _,_ => .no
   | _,_,_ => .no
  | .buildSlice t Y H,some d=>match X.ti t with
   | some i=>match i.kind with
    | .slice e=>match X.ti e with
     | some j=>match j.zero,iK (aL X env) 0 H.toList with
      | some _,some rows=>match Nat.beq rows.length Y,ig j.size rows,Nat.ble (Y*j.size) 16777216 with
       | true,true,true => .ok ((d,.own .exact j.size rows)::env) bs us ⟨[],[]⟩
       | _,_,_ => .no
      | _,_ => .no
     | none => .no
    | _ => .no
   | none => .no
  | .build t H,some d=>match X.ti t with
   | some i=>match i.kind with
    | .arr n e=>match X.ti e,i.zero with
     | some j,some (.agg z)=>match sj X (aL X env) (zk j.size e 0 n) H.toList z with
      | some r => .ok ((d,.agg r)::env) bs us ⟨[],[]⟩
      | none => .no
     | _,_ => .no
    | _ => .no
   | none => .no
  | .index t x S,some d=>match X.ti t,aL X env x,aL X env S with
   | some i,some (.agg cs),some ia=>match i.kind,asNat ia with
    | .arr n e,some m=>match X.ti e,Nat.blt m n with
     | some j,true=>match gr (m*j.size) cs with
      | some r=>match xe j r with
       | some v => .ok ((d,v)::env) bs us ⟨[],[]⟩
       | none => .no
      | none => .no
     | _,_ => .no
    | _,_ => .no
   | _,_,_ => .no
  | .binOp .eql t x (.const (.slice none 0 0)) _,some d=>match X.ti t,aL X env x with
   | some i,some a=>match i.kind,S6 a with
    | .slice _,true => .ok ((d,.c (HC a))::env) bs us ⟨[],[]⟩
    | _,_ => .no
   | _,_ => .no
  | _,_ => .no
 | _ => .no
section
variable {P:Program} {X:Ctx} {ops:Array Oper} {o:Oper} {rest:List Oper} {env:Env} {acc:List Fp} {Q:Env->St->List Fp->Prop}
 {bs:List (Nat×List AV)} {ts:List (Nat×Nat)} {us:List Nat}
theorem ai.Js (hX:cx P X) {env':Env} {bs':List (Nat×List AV)} {us':List Nat} {T:Fp} (h:Js X ops.toList o env bs us = .ok env' bs' us' T)
  (k:ai P X ops rest env' ⟨bs',ts,us'⟩ (T::acc) Q):ai P X ops (o::rest) env ⟨bs,ts,us⟩ acc Q:=by
 unfold Go.cq.Js at h;split at h
 ·rename_i E;split at h
  ·rename_i t x d Y p;split at h
   ·rename_i a u;split at h
    ·rename_i cells K;split at h
     ·rename_i M;simp only[J8.ok.injEq]at h;obtain⟨rfl,rfl,rfl,rfl⟩:=h;exact ai.box kn E Y p u K M k
     ·cases h
    ·cases h
   ·cases h
  ·rename_i t d Y p;split at h
   ·rename_i i W;split at h
    ·rename_i S I;split at h
     ·rename_i cells K;split at h
      ·rename_i M;simp only[J8.ok.injEq]at h;obtain⟨rfl,rfl,rfl,rfl⟩:=h;exact ai.alloc hX kn E Y p W I K M k
      ·cases h
     ·cases h
    ·cases h
   ·cases h
  ·rename_i t x y Y p;split at h
   ·rename_i i N off a W O J;split at h
    ·rename_i cells vs G K;split at h
     ·rename_i r A C;split at h
      ·rename_i B q;simp only[J8.ok.injEq]at h;obtain⟨rfl,rfl,rfl,rfl⟩:=h;exact ai.store hX kn E Y p W O J G K A C q k
      ·cases h
     ·cases h
    ·cases h
   ·cases h
  ·rename_i t len H d Y p;split at h
   ·rename_i i W;split at h
    ·rename_i e D;split at h
     ·rename_i j V;split at h
      ·rename_i S rows I hp;split at h
       ·rename_i h1 h2 h3;simp only[J8.ok.injEq]at h;obtain⟨rfl,rfl,rfl,rfl⟩:=h;exact ai.buildSlice hX kn E Y p W D V I hp h1 rfl h2 h3 k
       ·cases h
      ·cases h
     ·cases h
    ·cases h
   ·cases h
  ·rename_i t H d Y p;split at h
   ·rename_i i W;split at h
    ·rename_i n e D;split at h
     ·rename_i j z V I;split at h
      ·rename_i r U;simp only[J8.ok.injEq]at h;obtain⟨rfl,rfl,rfl,rfl⟩:=h;exact ai.DG hX kn E Y p W D V I U k
      ·cases h
     ·cases h
    ·cases h
   ·cases h
  ·rename_i t x ix d Y p;split at h
   ·rename_i i cs ia W O I;split at h
    ·rename_i n e m D M;split at h
     ·rename_i j V G;split at h
      ·rename_i r U;split at h
       ·rename_i v hv;simp only[J8.ok.injEq]at h;obtain⟨rfl,rfl,rfl,rfl⟩:=h;exact ai.DH hX kn E Y p W D V O I M G U hv k
       ·cases h
      ·cases h
     ·cases h
    ·cases h
   ·cases h
  ·rename_i t x yt d Y p;split at h
   ·rename_i i a W O;split at h
    ·rename_i e D u;simp only[J8.ok.injEq]at h;obtain⟨rfl,rfl,rfl,rfl⟩:=h;exact ai.S8 hX kn E Y p W D O u rfl k
    ·cases h
   ·cases h
  ·cases h
 ·cases h
def Jt (X:Ctx) (T:List Oper) (o:Oper) (env:Env) (ts:List (Nat×Nat)) (us:List Nat):Option (Nat×Nat×Nat×Nat×List CV×List CV×Nat×List (Nat×Nat)) :=
 match cU T kn env o with
 | some true=>match o.op,o.dst with
  | .call {callee := .builtin .append,args,argTypes},some d=>match args.toList,argTypes.toList with
   | [xs,y],[t,t1]=>match X.ti t,X.ti t1,aL X env xs,aL X env y with
    | some i,some S,some (.own Y s rows),some b=>match i.kind,kY S.kind,mQ b with
     | .slice e,true,some (W,bZ)=>match X.ti e with
      | some j=>match j.zero,Dt s j.size rows Y,fQ W j.size bZ,Nat.ble 1 j.bytes with
       | some _,true,true,true=>match vk d us ts Y with
        | some (u,n)=>match xd u n ts with
         | some ts'=>some (d,u,n,j.size,rows,bZ,j.bytes,ts')
         | none=>none
        | none=>none
       | _,_,_,_=>none
      | none=>none
     | _,_,_=>none
    | _,_,_,_=>none
   | _,_=>none
  | _,_=>none
 | _=>none
theorem ai.Jt (hX:cx P X) {d u n sz O:Nat} {rows bZ:List CV} {ts':List (Nat×Nat)} (h:Jt X ops.toList o env ts us=some (d,u,n,sz,rows,bZ,O,ts'))
  (Y:(rows.length+bZ.length)*O<=140737488355328)
  (k:ai P X ops rest ((d,.own (.tok u n) sz (rows++bZ))::env) ⟨bs,ts',u::us⟩ (⟨[],[u]⟩::acc) Q):ai P X ops (o::rest) env ⟨bs,ts,us⟩ acc Q:=by
 unfold Go.cq.Jt at h;split at h
 ·rename_i M;split at h
  ·rename_i args K d' T p;split at h
   ·rename_i xs y t t1 U J;split at h
    ·rename_i i i1 ow s J7 b I E C G;split at h
     ·rename_i e s1 D B A W;split at h
      ·rename_i j q;split at h
       ·rename_i za hz hs rS S;split at h
        ·rename_i N n' V;split at h
         ·rename_i Cb H;simp only[Option.some.injEq,Prod.mk.injEq]at h;obtain⟨rfl,rfl,rfl,rfl,rfl,rfl,rfl,rfl⟩:=h;exact ai.append hX kn M T U J p I B q hz E A C G W rfl hs rS V rfl S H Y k
         ·cases h
        ·cases h
       ·cases h
      ·cases h
     ·cases h
    ·cases h
   ·cases h
  ·cases h
 ·cases h
def Ju (X:Ctx) (T:List Oper) (o:Oper) (env:Env):Option (Nat×FuncId×List CV) :=
 match cU T kn env o with
 | some true=>match o.op,o.dst with
  | .call {callee := .value (.func f),args,argTypes:=_},some d=>match gV (aL X env) args.toList with
   | some S=>some (d,f,S)
   | none=>none
  | .call {callee := .value (.tmp x),args,argTypes:=_},some d=>match aL X env (.tmp x),gV (aL X env) args.toList with
   | some (.c (.rM f W)),some S=>some (d,f,S++W)
   | _,_=>none
  | _,_=>none
 | _=>none
theorem ai.Ju {σ:St} {d:Nat} {f:FuncId} {S:List CV} {r:CV} (h:Ju X ops.toList o env=some (d,f,S)) (hq:bh P X f S r)
  (k:ai P X ops rest ((d,.c r)::env) σ (⟨[],[]⟩::acc) Q):ai P X ops (o::rest) env σ acc Q:=by
 unfold Go.cq.Ju at h;split at h
 ·rename_i U;split at h
  ·rename_i N args E T Y p;split at h
   ·rename_i W K;simp only[Option.some.injEq,Prod.mk.injEq]at h;obtain⟨rfl,rfl,rfl⟩:=h;exact ai.SJ kn U Y p K hq k
   ·cases h
  ·rename_i x args E T Y p;split at h
   ·rename_i N V W O K;simp only[Option.some.injEq,Prod.mk.injEq]at h;obtain⟨rfl,rfl,rfl⟩:=h;exact ai.SK kn U Y p O K hq k
   ·cases h
  ·cases h
 ·cases h
def Jv (X:Ctx) (T:List Oper) (o:Oper) (env:Env):Option (Nat×List CV×Int) :=
 match cU T kn env o with
 | some true=>match o.op,o.dst with
  | .indexAddr t x S,some d=>match X.ti t,aL X env x,aL X env S with
   | some i,some a,some (.c (.int _ z))=>match i.kind,rowsOf a with
    | .slice e,some (s,rows)=>match X.ti e with
     | some j=>match Nat.beq s j.size with
      | true=>some (d,rows,z)
      | false=>none
     | none=>none
    | _,_=>none
   | _,_,_=>none
  | _,_=>none
 | _=>none
theorem ai.Jv (hX:cx P X) {σ:St} {d:Nat} {rows:List CV} {z:Int} (h:Jv X ops.toList o env=some (d,rows,z)) (m:Nat) (M:z=m) {r:CV} (K:rows[m]?=some r) {cs:List CV} (Y:r.cells=cs)
  (k:ai P X ops rest ((d,.c (.ip cs))::env) σ (⟨[],[]⟩::acc) Q):ai P X ops (o::rest) env σ acc Q:=by
 unfold Go.cq.Jv at h;split at h
 ·rename_i E;split at h
  ·rename_i t x S C W p;split at h
   ·rename_i i a k' O I u V;split at h
    ·rename_i e s N D U;split at h
     ·rename_i j T;split at h
      ·rename_i G;simp only[Option.some.injEq,Prod.mk.injEq]at h;obtain⟨rfl,rfl,rfl⟩:=h;exact ai.index hX E W p I D T u U G V m M K Y k
      ·cases h
     ·cases h
    ·cases h
   ·cases h
  ·cases h
 ·cases h
end
end Go.cq
namespace Go.cq
theorem dU (b:Nat):∀(vs:List Value) (o:Nat) (w:World),(w.setCells b o vs).heap.size=w.heap.size/\(w.setCells b o vs).os=w.os/\(w.setCells b o vs).tape=w.tape/\(w.setCells b o vs).output=w.output /\
  ∀k,k≠b->(w.setCells b o vs).heap[k]?=w.heap[k]?
 | [],_,w=>⟨rfl,rfl,rfl,rfl,fun _ _=>rfl⟩
 | v::r,o,w=>by
  obtain⟨h1,h2,V,Y,p⟩:=dU b r (o+1) (w.setCell ⟨b,o,none⟩ v);rw[World.setCells];refine⟨by rw[h1];simp[World.setCell],by rw[h2];rfl,by rw[V];rfl,by rw[Y];rfl,fun k D=>?_⟩;rw[p k D];exact heap_setCell w ⟨b,o,none⟩ v _ D
theorem dN {b:Nat} {vs:List Value} {o:Nat} {w:World} (h:∀j,j<vs.length->(w.cell? ⟨b,o+j,none⟩).isSome=true) (j:Nat) :
  (w.setCells b o vs).cell? ⟨b,j,none⟩=if o<=j/\j<o+vs.length then vs[j-o]? else w.cell? ⟨b,j,none⟩:=by
 by_cases O:o<=j/\j<o+vs.length
 ·rw[if_pos O];have:=World.cell?_setCells_in b vs o w h (j-o) bn;rw[show o+(j-o)=j by omega]at this;rw[this,List.getElem?_eq_getElem]
 ·rw[if_neg O];exact World.cell?_setCells_out b vs o w ⟨b,j,none⟩ (fun _ _=>by show j<o\/o+vs.length<=j;omega)
theorem cX {b:Nat} {vs:List Value} {o:Nat} {w:World} (h:∀j,j<vs.length->(w.cell? ⟨b,o+j,none⟩).isSome=true) {j:Nat} (Y:(w.cell? ⟨b,j,none⟩).isSome=true) :
  ((w.setCells b o vs).cell? ⟨b,j,none⟩).isSome=true:=by
 rw[dN h];split
 ·grind
 ·exact Y
theorem mm {P:Program} (w:World) (T S ty Y:TypeId) (b o W V:Nat) (a:Addr) (sLen sCap:Nat) (cs:List Value) (n s:Nat)
  (p:P.underlying T=some (.slice Y)) (G:(P.info? Y).map (·.size)=some s) (Q:n=Nat.min sLen W) (O:cs.length=n*s)
  (I:∀(j:Nat) v,cs[j]?=some v->w.cell? (a.add j)=some v) (E:∀j,j<cs.length->(w.cell? ⟨b,o+j,none⟩).isSome=true) (hf:∀j,j<cs.length->w.frozen? ⟨b,o+j,none⟩=false) (h1:∀v∈cs,v.oneCell'=true) :
  (Builtin.copy_ #[T,S] ty #[.slice (some ⟨b,o,none⟩) W V,.slice (some a) sLen sCap]).run P w = .ok (goInt n) (w.setCells b o cs):=by
 have U:=run_firstCells_some (P:=P) w s n a sLen sCap cs O I;have A:=run_storeCells_cells (P:=P) b o cs 0 w (by simpa using E) (by simpa using hf) h1;simp only[Nat.add_zero]at A;cases hq:P.info? Y with
 | none=>simp[hq]at G
 | some i =>
  have N:i.size=s:=by simpa[hq]using G
  subst Q;simp[Builtin.copy_,run_underlying p,Builtin.lenOf,sizeOf,typeInfo,hq,N,U,A]
theorem J9 {P:Program} (w:World) {o:Oper} {a:Act} {K:Act->World->Prop} {Q:Exit->Act->World->Prop} (d s:Operand) (t Y:TypeId)
  (p:o.op = .call {callee := .builtin .copy,args := #[d,s],argTypes := #[t,Y]}) (v u:Value) (H:a.eval d=v) (G:a.eval s=u) {W:Value} {w':World}
  (I:(Builtin.copy_ #[t,Y] o.type #[v,u]).run P w = .ok W w') (h:K (a.put o.dst W) w'):o.wp P a w K Q:=by
 unfold Oper.wp execOp;simp only[p,resolve,invoke,builtin,Sem.run_bind,Sem.run_pure,Result.andThen_ok,List.map_toArray,List.map_cons,List.map_nil,H,G,I];exact h
theorem kU {P:Program} (w:World) {ops:Array Oper} {rest:List Oper} {o:Oper} {a:Act} {Q:Exit->Act->World->Prop} (Y:o.guard=none) (d s:Operand) (t G:TypeId)
  (p:o.op = .call {callee := .builtin .copy,args := #[d,s],argTypes := #[t,G]}) (v u:Value) (H:a.eval d=v) (V:a.eval s=u) {W:Value} {w':World}
  (I:(Builtin.copy_ #[t,G] o.type #[v,u]).run P w = .ok W w') (h:wpList P ops Q rest (a.put o.dst W) w'):wpList P ops Q (o::rest) a w :=
 wpList_plain Y fun _ U=>J9 w d s t G p v u H V I (U _ _ h)
theorem sO {P:Program} {ops:Array Oper} {o:Oper} {a:Act} {w:World} {K:Act->World->Prop} {Q:Exit->Act->World->Prop} {E:Prop}
  (T:o.guard=none) (d x:Operand) (Y W:TypeId) (V:o.op=Op.call {callee:=Callee.builtin Builtin.copy,args := #[d,x],argTypes := #[Y,W]})
  (v u:Value) (p:a.eval d=v) (O:a.eval x=u) {U:Value} {w':World} (I:(Builtin.copy_ #[Y,W] o.type #[v,u]).run P w = .ok U w') (N:K (a.put o.dst U) w') :
  if Region.wanted o (yielded ops a.tmps)=true then Oper.wp P o a w K Q else E:=by
 rw[if_pos (by simp[Region.wanted,T])];exact J9 w d x Y W V v u p O I N
theorem rR {P:Program} (w:World) (tS tR e:TypeId) (ht:P.underlying tS=some (.slice e)) (size:Nat) (hz:∀w,(Go.sizeOf e).run P w = .ok size w)
  (a b:Addr) (la ca lb cb:Nat) (hne:a.block≠b.block) {u v:Value} (hua:w.cell? ⟨a.block,a.off,none⟩=some u) (hub:w.cell? ⟨b.block,b.off,none⟩=some v) (hfb:∀o,w.frozen? ⟨b.block,o,none⟩=false) (ke:b.spot=none) :
  (Extern.SlicesOverlaps.overlaps #[tS,tS] #[tR] #[.slice (some a) la ca,.slice (some b) lb cb]).run P w = .ok (.bool false) w:=by
 have shp:∀(x:Addr) {v:Value},w.cell? ⟨x.block,x.off,none⟩=some v->∃t k,w.shape? x.block=some (t,k+1):=by
  intro x v hx;unfold World.cell? at hx;unfold World.shape?;split at hx
  ·rename_i c t f hh;simp only at hh hx ⊢;rw[hh];refine⟨t,c.size-1,?_⟩;have:x.off<c.size:=by grind
   simp;omega
  ·cases hx
 obtain⟨tA,kA,hsa⟩:=shp a hua;obtain⟨tB,kB,hsb⟩:=shp b hub;have hnb:(a.block != b.block)=true:=by simpa using hne
 have acH:(a.block==b.block)=false:=by simpa using hne
 have acI:w.frozen? b=false:=by
  have:=hfb b.off;obtain⟨bb,bo,bs⟩:=b;simp only at ke;subst ke;exact this
 have hfe:=hfb (kB+1)
 change Sem.run P (α:=Value) (do
  let some t := (#[tS, tS] : Array TypeId)[0]? | stuck "slices.overlaps: no parameter types"
  let .slice elem ← underlying t | stuck "slices.overlaps: slice type expected"
  let size<-sizeOf elem
  match (some a:Option Addr),(some b:Option Addr)with
  | some a,some b =>
   if la=0\/lb=0\/size=0 then pure (Value.bool false)
   else if a.block != b.block&&(<- frozen a)&&(<- frozen b)then unsupported .addressObserved
   else do
    if a.block != b.block then do
     noView a;noView b
     if ← mayBeOne a b then return Value.bool ((← choose (.extern "sameAddr.stringBytes" 2)) == 1)
    pure (Value.bool (a.block==b.block&&a.off<b.off+lb*size&&b.off<a.off+la*size))
  | _,_=>pure (Value.bool false)) w=_
 by_cases h0:la=0\/lb=0\/size=0
 ·simp[run_underlying ht,hz,h0]
 ·simp[run_underlying ht,hz,h0,hnb,acH,frozen,noView,viewAt,mayBeOne,stringish,shape,Sem.run,hsa,hsb,acI,hfe]
theorem rT {G:jk}:∀{l:List CV} {vs:List Value} (n:Nat),bL G l vs->bL G (l.take n) (vs.take n)
 | _,_,0,_=>by simp[bL]
 | [],vs,n+1,h=>by simp only[bL]at h;subst h;simp[bL]
 | c::l,vs,n+1,h=>by
  simp only[bL]at h;obtain⟨u,us,rfl,h1,h2⟩:=h;simp only[List.take_succ_cons,bL];exact⟨u,_,rfl,h1,rT n h2⟩
theorem rU {G:jk}:∀{l:List CV} {vs:List Value} (n:Nat),bL G l vs->bL G (l.drop n) (vs.drop n)
 | _,_,0,h=>by simpa using h
 | [],vs,n+1,h=>by simp only[bL]at h;subst h;simp[bL]
 | c::l,vs,n+1,h=>by
  simp only[bL]at h;obtain⟨u,us,rfl,h1,h2⟩:=h;simpa using rU n h2
theorem oh {G:jk}:∀{l:List CV} {vs:List Value},bL G l vs->vs.length=l.length
 | [],vs,h=>by simp only[bL]at h;subst h;rfl
 | c::l,vs,h=>by
  simp only[bL]at h;obtain⟨u,us,rfl,h1,h2⟩:=h;simp[oh h2]
theorem sP {s:Nat} {l:List CV} (h:∀r∈l,r.cells.length=s) (i:Nat) (W:i<=l.length):(bI l).take (i*s)=bI (l.take i):=by
 have e:l=l.take i++l.drop i:=(List.take_append_drop i l).symm;have h1:(bI (l.take i)).length=i*s:=by rw[dh (fun r I=>h r (List.mem_of_mem_take I)),List.length_take,Nat.min_eq_left W]
 conv=>lhs;rw[e,dy]
 rw[<- h1];simp
theorem sQ {s:Nat} {l:List CV} (h:∀r∈l,r.cells.length=s) (i:Nat) (W:i<=l.length):(bI l).drop (i*s)=bI (l.drop i):=by
 have e:l=l.take i++l.drop i:=(List.take_append_drop i l).symm;have h1:(bI (l.take i)).length=i*s:=by rw[dh (fun r I=>h r (List.mem_of_mem_take I)),List.length_take,Nat.min_eq_left W]
 conv=>lhs;rw[e,dy]
 rw[<- h1];simp
end Go.cq
namespace Go.cq
section
variable {P : Program} {X : Ctx} {ops : Array Oper} {o : Oper} {rest : List Oper} {env : Env} {σ : St} {acc : List Fp} {Q : Env -> St -> List Fp -> Prop}
end
theorem we {α:Type}:∀(a b:List α),gr a.length (a++b)=some b
 | [],_=>rfl
 | x::a,b=>by simp only[aac,List.cons_append,gr,we a b]
theorem wC {α:Type}:∀(m n:Nat) (l r s:List α),gr m l=some r->gr n r=some s->gr (m+n) l=some s
 | 0,n,l,r,s,h1,h2=>by simp only[gr]at h1;cases h1;rw[Nat.zero_add];exact h2
 | m+1,n,[],r,s,h1,h2=>by simp only[gr]at h1;cases h1
 | m+1,n,x::l,r,s,h1,h2=>by rw[Nat.add_right_comm];simp only[gr]at h1 ⊢;exact wC m n l r s h1 h2
theorem Bs:∀(a b:List AV),a.length=b.length->dK 0 a b=some a
 | [],[],_=>rfl
 | [],_::_,h=>by simp at h
 | _::_,[],h=>by simp at h
 | x::a,y::b,h=>by simp only[dK,Bs a b nu]
end Go.cq
namespace Go.cq
def zn (bs:List (Nat×List AV)):St:=⟨bs,[],bs.map (·.1)⟩
def HR (β:jG) (r:AV) (G:List (Nat×List AV)):Ending->World->Prop:=fun e w' =>
 ∃u g',e = .returned u/\aK g' r u/\Inv w' g' (zn G)/\gQ β.w β.g β.σ w' g' (zn G)
def dI (P:Program) (X:Ctx) (f:FuncId) (H:List (Nat×List AV)) (args:List AV) (r:AV) (T:List (Nat×List AV)):Prop :=
 Enters P f/\∀(g:Gh) (w:World) (vs:List Value),Inv w g (zn H)->nC X g.G->bF g args vs->Calls P f vs.toArray w (HR ⟨w,g,zn H⟩ r T)
mutual
def AV.rn (ψ:Nat->Nat):AV->AV
 | .ptr k o => .ptr (ψ k) o
 | .gv k o s n => .gv (ψ k) o s n
 | .agg l => .agg (P3 ψ l)
 | .gy l => .gy (P3 ψ l)
 | .c v => .c v
 | .own k s rows => .own k s rows
 | .any => .any
def P3 (ψ:Nat->Nat):List AV->List AV
 | []=>[]
 | a::l=>a.rn ψ::P3 ψ l
end
mutual
def Mv (us:List Nat):AV->Bool
 | .own (.tok _ _) _ _=>false
 | .ptr k _=>mem k us
 | .gv k _ _ _=>mem k us
 | .agg l=>wX us l
 | .gy l=>wX us l
 | .own .exact _ _=>true
 | .c _=>true
 | .any=>true
def wX (us:List Nat):List AV->Bool
 | []=>true
 | a::l=>both (Mv us a) (wX us l)
end
theorem Bt (ψ:Nat->Nat):∀l:List CV,P3 ψ (l.map AV.c)=l.map AV.c
 | []=>rfl
 | c::l=>by simp only[List.map_cons,P3,AV.rn,Bt ψ l]
theorem vp (us:List Nat):∀l:List CV,wX us (l.map AV.c)=true
 | []=>rfl
 | c::l=>by simp only[List.map_cons,wX,Mv,both,vp us l]
section
variable {g g1 : Gh} {us : List Nat} {ψ : Nat -> Nat}
mutual
theorem S9 (Y:g1.G=g.G) (h:∀k,mem k us=true->g1.box (ψ k)=g.box k/\g1.room (ψ k)=g.room k):∀{a:AV} {u:Value},Mv us a=true->aK g a u->aK g1 (a.rn ψ) u/\(a.one=true->(a.rn ψ).one=true)
 | .c v,u,_,I=>by simp only[AV.rn,aK,Y]at I ⊢;exact⟨I,id⟩
 | .own .exact s rows,u,_,I=>by simp only[AV.rn,aK,Y]at I ⊢;exact⟨I,id⟩
 | .own (.tok _ _) s rows,u,p,_=>by simp[Mv]at p
 | .ptr k o,u,p,I=>by
  simp only[Mv]at p;simp only[AV.rn,aK,(h k p).1]at I ⊢;exact⟨I,fun _=>rfl⟩
 | .gv k o s n,u,p,I=>by
  simp only[Mv]at p;simp only[AV.rn,aK,(h k p).1,(h k p).2]at I ⊢;exact⟨I,fun _=>rfl⟩
 | .any,u,_,I=>by simp only[AV.rn,aK]at I ⊢;exact⟨I,id⟩
 | .agg l,u,p,I=>by
  simp only[Mv]at p;simp only[AV.rn,aK]at I ⊢;obtain⟨vs,e,h1,h2⟩:=I;obtain⟨V,W⟩:=Mw Y h p h1;exact⟨⟨vs,e,V,W h2⟩,fun h=>by simp[AV.one]at h⟩
 | .gy l,u,p,I=>by
  simp only[Mv]at p;simp only[AV.rn,aK]at I ⊢;obtain⟨vs,e,h1,h2⟩:=I;obtain⟨V,W⟩:=Mw Y h p h1;refine⟨⟨vs,e,V,?_⟩,fun h=>by simp[AV.one]at h⟩;rw[(bF.get V).1,<- (bF.get h1).1];exact h2
theorem Mw (Y:g1.G=g.G) (h:∀k,mem k us=true->g1.box (ψ k)=g.box k/\g1.room (ψ k)=g.room k):∀{l:List AV} {vs:List Value},wX us l=true->bF g l vs->bF g1 (P3 ψ l) vs/\(l.all AV.one=true->(P3 ψ l).all AV.one=true)
 | [],vs,_,I=>by simp only[P3,bF]at I ⊢;exact⟨I,id⟩
 | a::l,vs,p,I=>by
  simp only[wX]at p;obtain⟨T,S⟩:=dW p;simp only[P3,bF]at I ⊢;obtain⟨u,us',e,h1,h2⟩:=I;obtain⟨V,W⟩:=S9 Y h T h1;obtain⟨Q,B⟩:=Mw Y h S h2;refine⟨⟨u,us',e,V,Q⟩,fun U=>?_⟩;simp only[List.all_cons,aai]at U ⊢;exact⟨W U.1,B U.2⟩
end
theorem Ka {w:World} {b:Nat} (Y:g1.G=g.G) (h:∀k,mem k us=true->g1.box (ψ k)=g.box k/\g1.room (ψ k)=g.room k):∀{l:List AV} {o:Nat},wX us l=true->cr w g b o l->cr w g1 b o (P3 ψ l)
 | [],_,_,_=>trivial
 | a::l,o,ho,⟨⟨u,q,J,H⟩,c4,c5⟩=>by
  simp only[wX]at ho;obtain⟨W,V⟩:=dW ho;obtain⟨C,U⟩:=S9 Y h W J;exact⟨⟨u,q,C,U H⟩,c4,Ka Y h V c5⟩
end
def lZ {α:Type}:List Nat->List (Nat×α)->List (Nat×α)
 | [],l=>l
 | k::ks,l=>BT k (lZ ks l)
theorem qN {α:Type} {j:Nat}:∀{ks:List Nat} {l:List (Nat×α)},ak j (lZ ks l)=if j∈ks then none else ak j l
 | [],l=>by simp[lZ]
 | k::ks,l=>by
  simp only[lZ,jM,qN (ks:=ks)];by_cases h:j=k
  ·simp[h]
  ·simp[h]
theorem zo {α:Type} {j:Nat}:∀{a b:List (Nat×α)},ak j (a++b)=match ak j a with
  | some v=>some v
  | none=>ak j b
 | [],b=>rfl
 | (k,v)::a,b=>by
  simp only[List.cons_append,au,zo (a:=a)];split<;>rfl
def Kb (ks:List Nat) (nb:List (Nat×List AV)) (Y:List Nat) (σ:St):St:=⟨nb++lZ ks σ.boxes,σ.toks,Y++σ.used⟩
theorem wD (ks:List Nat) (nb:List (Nat×List AV)) (Y:List Nat):gR (Kb ks nb Y) ⟨[],ks++nb.map (·.1)++Y⟩ where
 out:=fun σ k D=>by
  simp only[List.mem_append,not_or]at D;refine⟨?_,rfl,?_⟩
  ·simp only[Kb,zo,pn D.1.2,qN,if_neg D.1.1]
  ·simp only[Kb,List.mem_append];exact⟨fun h=>h.resolve_left D.2,.inr⟩
 same:=fun σ G h k D=>by
  obtain⟨h1,h2,V⟩:=h k (.inr D);refine⟨?_,h2,?_⟩
  ·simp only[Kb,zo,qN,h1]
  ·simp only[Kb,List.mem_append,V]
structure Z5 (bs:List (Nat×List AV)) (us:List Nat) (bi bo:List (Nat×List AV)) (bx po:List (Nat×Nat)) (ψ:Nat->Nat) (nb:List (Nat×List AV)):Prop where
 d2:distinct (bx.map (·.2))=true
 keys:∀k kk,ak k bx=some kk->k∈bi.map (·.1)/\∃cs,ak kk bs=some cs
 cells:∀ts k cs,ak k bi=some cs->∃old oc,ak k bx=some old/\ak old bs=some oc/\fu ⟨fun k=>ak k bx,fun _=>none⟩ ts cs oc
 nb:∀ck cs',ak ck nb=some cs'->∃ok cs,ak ck po=some ok/\ak ok bo=some cs/\cs'=P3 ψ cs
 psi:∀ck ok,ak ck po=some ok->ψ ok=ck
 outs:∀k,mem k (bo.map (·.1))=true->∃ck,ak ck po=some k
 kept:∀ck ok,ak ck po=some ok->(1000000<=ok/\ak ok bx=some ck/\ak ok bo≠none)\/(ck ∉ us/\ck<1000000)
 names:∀ok cs,ak ok bo=some cs->wX (bo.map (·.1)) cs=true
theorem Z6 {w w':World} {g g':Gh} {σ:St} (T:Inv w g σ) {bi A:List (Nat×List AV)} {bx po:List (Nat×Nat)} {ψ:Nat->Nat} {nb:List (Nat×List AV)}
  (C:Z5 σ.boxes σ.used bi A bx po ψ nb) (q:Inv w' g' (zn A)) (D:gQ w (g.fW ⟨fun k=>ak k bx,fun _=>none⟩) (zn bi) w' g' (zn A)) :
  let g1:Gh:=⟨g'.G,fun k=>match ak k po with|some ok=>g'.box ok|none=>g.box k,g.tok,fun k=>match ak k po with|some ok=>g'.room ok|none=>g.room k⟩
  let IW:=Kb (bx.map (·.2)) nb (po.map (·.1)) σ
  Inv w' g1 IW/\gQ w g σ w' g1 IW/\g.le g1/\∀k,mem k (A.map (·.1))=true->g1.box (ψ k)=g'.box k/\g1.room (ψ k)=g'.room k:=by
 intro g1 IW;have acK:∀k b,(g.fW ⟨fun k=>ak k bx,fun _=>none⟩).box k=some b->∃W,ak k bx=some W/\g.box W=some b:=by
  intro k b e;simp only[Gh.fW]at e;split at e
  ·rename_i W hkk;exact⟨W,hkk,e⟩
  ·simp at e
 have hrG:(g.fW ⟨fun k=>ak k bx,fun _=>none⟩).G=g.G:=rfl;have own:∀b o,iJ (g.fW ⟨fun k=>ak k bx,fun _=>none⟩) (zn bi) b o->∃W M,W∈bx.map (·.2)/\ak W σ.boxes=some M/\g.box W=some b:=by
  rintro b o (⟨k,cs,I,U⟩|⟨k,n,p,hi,I,_⟩)
  ·obtain⟨W,Q,f2⟩:=acK k b U;obtain⟨_,M,f3⟩:=C.keys k W Q;exact⟨W,M,List.mem_map.2 ⟨_,dA Q,rfl⟩,f3,f2⟩
  ·simp[zn,ak]at I
 have Gc:∀b o,iJ (g.fW ⟨fun k=>ak k bx,fun _=>none⟩) (zn bi) b o->iJ g σ b o:=by
  intro b o h;obtain⟨W,M,_,I,U⟩:=own b o h;exact .inl ⟨W,M,I,U⟩
 have XP:∀k ok cs,ak k po=some ok->ak k σ.boxes=some cs->k∈bx.map (·.2):=by
  intro k ok cs I U;rcases C.kept k ok I with ⟨_,h,_⟩|⟨h,_⟩
  ·exact List.mem_map.2 ⟨_,dA h,rfl⟩
  ·obtain⟨b,S,_⟩:=T.box k cs U;exact absurd (T.used k (.inl (by rw[S];simp))) h
 have vn:∀k cs,ak k IW.boxes=some cs->(∃ok V,ak k po=some ok/\ak ok A=some V/\cs=P3 ψ V)\/(ak k po=none/\k ∉ bx.map (·.2)/\ak k σ.boxes=some cs):=by
  intro k cs e;simp only[IW,Kb,zo]at e;cases hn:ak k nb with
  | some v =>
   rw[hn]at e;simp at e;subst e;exact .inl (C.nb k v hn)
  | none =>
   rw[hn]at e;simp only[qN]at e;split at e
   ·simp at e
   ·rename_i hns;refine .inr ⟨?_,hns,e⟩;cases hp:ak k po with
    | none=>rfl
    | some ok=>exact absurd (XP k ok cs hp e) hns
 have hψ:∀k,mem k (A.map (·.1))=true->g1.box (ψ k)=g'.box k/\g1.room (ψ k)=g'.room k:=by
  intro k hkk;obtain⟨ck,h1⟩:=C.outs k hkk;have h2:=C.psi ck k h1;subst h2;simp only[g1,h1,and_self]
 have S0:∀k cs b,k ∉ bx.map (·.2)->ak k σ.boxes=some cs->g.box k=some b->∀o,¬iJ (g.fW ⟨fun k=>ak k bx,fun _=>none⟩) (zn bi) b o:=by
  intro k cs b I U S o ho;obtain⟨W,M,Q,f2,f3⟩:=own b o ho;have:=T.fB k W cs M b U f2 S f3;subst this;exact I Q
 have SL:∀k ok,ak k po=some ok->(∃b,g.box k=some b)->g'.box ok=g.box k/\g'.room ok=g.room k:=by
  intro k ok e ⟨b,S⟩;rcases C.kept k ok e with ⟨h1,h2,P⟩|⟨h1,_⟩
  ·obtain⟨_,h4,h5⟩:=D.ids ok h1 (by simpa[zn]using P);simp only[Gh.fW,h2]at h4 h5;exact⟨h4,h5⟩
  ·exact absurd (T.used k (.inl (by rw[S];simp))) h1
 have hle:g.le g1:=by
  refine⟨fun b o v h=>D.le b o v h,fun k b h=>?_,fun k b h=>?_,fun k hw fS h=>⟨hw,fS,h,aak _,fun _=>rfl⟩⟩
  ·simp only[g1];split
   ·rename_i ok e;rw[(SL k ok e ⟨b,h⟩).1];exact h
   ·exact h
  ·simp only[g1];split
   ·rename_i ok e;exact(SL k ok e ⟨b,h⟩).2
   ·rfl
 have O:∀b o,b<w.heap.size->¬iJ (g.fW ⟨fun k=>ak k bx,fun _=>none⟩) (zn bi) b o->g.G b o=none->g'.G b o=none:=by
  intro b o S Y h;cases hg:g'.G b o with
  | none=>rfl
  | some v =>
   rcases D.new b o v hg with E|E|E
   ·rw[hrG,h]at E;simp at E
   ·omega
   ·exact absurd E Y
 have XN:∀k n b p hi,ak k σ.toks=some n->g.tok k=some (n,some (b,p,hi))->∀o,¬iJ (g.fW ⟨fun k=>ak k bx,fun _=>none⟩) (zn bi) b o:=by
  intro k n b p hi e I o ho;obtain⟨fS,Q,f2⟩:=T.tok k n e;rw[I]at Q;simp at Q;subst Q;obtain⟨W,M,_,U,e3⟩:=own b o ho;exact(f2 b p hi rfl).2.2 W M U e3
 have K:∀ok V b,ak ok A=some V->g'.box ok=some b->w.heap.size<=b\/∃W M,W∈bx.map (·.2)/\ak W σ.boxes=some M/\g.box W=some b:=by
  intro ok V b I U;rcases D.boxes ok V b (by simpa[zn]using I) U with h|⟨k0,cs0,h1,h2⟩
  ·exact .inl h
  ·exact .inr (own b 0 (.inl ⟨k0,cs0,h1,h2⟩))
 have Wy:∀k cs b,ak k σ.boxes=some cs->g.box k=some b->b<w.heap.size/\(∀o,g.G b o=none)/\cr w g b 0 cs:=by
  intro k cs b e S;obtain⟨b',Q,f2,f3,f4⟩:=T.box k cs e;rw[S]at Q;cases Q;exact⟨f2,f3,f4⟩
 have Wz:∀k cs ok V b b',k ∉ bx.map (·.2)->ak k σ.boxes=some cs->g.box k=some b->ak ok A=some V->g'.box ok=some b'->b≠b':=by
  rintro k cs ok V b b' I U e3 e4 e5 rfl;rcases K ok V b e4 e5 with h|⟨W,M,h1,h2,P⟩
  ·have:=(Wy k cs b U e3).1;omega
  ·have:=T.fB k W cs M b U h2 e3 P;subst this;exact I h1
 refine⟨⟨q.oI,?_,?_,?_,?_,?_,?_⟩,⟨D.os,D.tape,D.output,D.size,fun b S Y=>D.block b S (fun o ho=>Y o (Gc b o ho)),fun b o S Y=>D.kept b o S (fun ho=>Y (Gc b o ho)),hle.1,?_,?_,?_,?_⟩,hle,hψ⟩
 ·intro k cs e;rcases vn k cs e with ⟨ok,V,I,U,rfl⟩|⟨H,I,U⟩
  ·obtain⟨b,Q,f2,f3,f4⟩:=q.box ok V (by simpa[zn]using U);exact⟨b,by simp only[g1,I];exact Q,f2,f3,Ka (g:=g') (g1:=g1) (us:=A.map (·.1)) (show g'.G=g'.G from rfl) hψ (C.names ok V U) f4⟩
  ·obtain⟨b,b1,b2,b3,b4⟩:=T.box k cs U;have Y:=S0 k cs b I U b1;exact⟨b,by simp only[g1,H];exact b1,Nat.lt_of_lt_of_le b2 D.size,fun o=>O b o b2 (Y o) (b3 o),(cr.of_same (fun o=>D.kept b o b2 (Y o)) b4).mono hle⟩
 ·intro k k' cs M b e e' f N;simp only[g1]at f N;rcases vn k cs e with ⟨ok,V,I,U,_⟩|⟨H,I,U⟩
  ·rw[I]at f;rcases vn k' M e' with ⟨Z7,Ta,B,J,_⟩|⟨Z8,B,J⟩
   ·rw[B]at N;have:=q.fB ok Z7 V Ta b (by simpa[zn]using U) (by simpa[zn]using J) f N;subst this;rw[<- C.psi k ok I,<- C.psi k' ok B]
   ·rw[Z8]at N;exact absurd rfl (Wz k' M ok V b b B J N U f)
  ·rw[H]at f;rcases vn k' M e' with ⟨Z7,Ta,B,J,_⟩|⟨Z8,B,J⟩
   ·rw[B]at N;exact absurd rfl (Wz k cs Z7 Ta b b I U f J N)
   ·rw[Z8]at N;exact T.fB k k' cs M b U J f N
 ·intro k n e;obtain⟨fS,h1,h2⟩:=T.tok k n e;refine⟨fS,h1,fun b p hi hr=>?_⟩;obtain⟨P,h4,h5⟩:=h2 b p hi hr;subst hr;refine⟨Nat.lt_of_lt_of_le P D.size,fun o I5 LH=>?_,fun k' cs e' N=>?_⟩
  ·obtain⟨h6,⟨u,h7⟩,h8⟩:=h4 o I5 LH;have Y:=XN k n b p hi e h1 o;exact⟨O b o P Y h6,⟨u,(D.kept b o P Y).1.trans h7⟩,(D.kept b o P Y).2.trans h8⟩
  ·simp only[g1]at N;rcases vn k' cs e' with ⟨Z7,Ta,B,J,_⟩|⟨Z8,B,J⟩
   ·rw[B]at N;rcases K Z7 Ta b J N with h|⟨W,M,g1',g2',g3'⟩
    ·omega
    ·exact h5 W M g2' g3'
   ·rw[Z8]at N;exact h5 k' cs J N
 ·exact T.gw
 ·intro k e;show k∈po.map (·.1)++σ.used;simp only[g1]at e;rw[List.mem_append];cases hp:ak k po with
  | some ok=>exact .inl (List.mem_map.2 ⟨_,dA hp,rfl⟩)
  | none =>
   rw[hp]at e;exact .inr (T.used k e)
 ·intro k cs b e f o;simp only[g1]at f ⊢;rcases vn k cs e with ⟨ok,V,I,U,_⟩|⟨H,I,U⟩
  ·rw[I]at f ⊢;exact q.room ok V b (by simpa[zn]using U) f o
  ·rw[H]at f ⊢;have Y:=S0 k cs b I U f o;have b2:=(Wy k cs b U f).1;obtain⟨q1,q2⟩:=T.room k cs b U f o;exact⟨fun ho=>(q1 ho).imp fun u hu=>(D.kept b o b2 Y).1.trans hu,(D.kept b o b2 Y).2.trans q2⟩
 ·intro b o v h;rcases D.new b o v h with E|E|E
  ·exact .inl E
  ·exact .inr (.inl E)
  ·exact .inr (.inr (Gc b o E))
 ·intro k cs b e f;simp only[g1]at f;rcases vn k cs e with ⟨ok,V,I,U,_⟩|⟨H,I,U⟩
  ·rw[I]at f;rcases K ok V b U f with h|⟨W,M,h1,h2,P⟩
   ·exact .inl h
   ·exact .inr ⟨W,M,h2,P⟩
  ·rw[H]at f;exact .inr ⟨k,cs,U,f⟩
 ·intro k n b p hi e I;exact .inr ⟨k,n,p,hi,e,I,aak _,aak _⟩
 ·intro k wZ e;cases hc:ak k IW.boxes with
  | none=>exact absurd hc e
  | some cs =>
   rcases vn k cs hc with ⟨ok,V,I,U,_⟩|⟨H,I,U⟩
   ·rcases C.kept k ok I with ⟨h1,h2,P⟩|⟨_,h2⟩
    ·obtain⟨_,M,h4⟩:=C.keys ok k h2;obtain⟨b,S,_⟩:=T.box k M h4;obtain⟨q1,q2⟩:=SL k ok I ⟨b,S⟩;exact⟨by rw[h4];simp,by simp only[g1,I];exact q1,by simp only[g1,I];exact q2⟩
    ·omega
   ·exact⟨by rw[U];simp,by simp only[g1,H],by simp only[g1,H]⟩
section
variable {P : Program} {X : Ctx}
theorem bU.Gd {o:Oper} {env:Env} {σ:St} {f:FuncId} {args:Array Operand} {E:Array TypeId} (V:o.op = .call {callee := .value (.func f),args:=args,argTypes:=E})
  {l:List AV} (B:gG (aL X env) args.toList=some l) {H Y:List (Nat×List AV)} {S:List AV} {r:AV} (hq:dI P X f H S r Y) {bx po:List (Nat×Nat)} {ψ:Nat->Nat} {nb:List (Nat×List AV)}
  (q:∀ts,fu ⟨fun k=>ak k bx,fun _=>none⟩ ts S l) (C:∀bs us,(∀k∈bx.map (·.2),ak k bs=ak k σ.boxes)->(∀k∈po.map (·.1),k∈us↔k∈σ.used)->Z5 bs us H Y bx po ψ nb) (hr:Mv (Y.map (·.1)) r=true) :
  bU P X o env σ (r.rn ψ) (Kb (bx.map (·.2)) nb (po.map (·.1))) ⟨[],bx.map (·.2)++nb.map (·.1)++po.map (·.1)⟩:=by
 intro cV G w g a next Q h1 h2 T M di A;have W:=C G.boxes G.used (fun k U=>(h2 k (.inr (by simp only[List.mem_append];exact .inl (.inl U)))).1) (fun k U=>(h2 k (.inr (by simp only[List.mem_append];exact .inr U))).2.2);have qh:∀x∈args.toList,x∈o.op.operands.toList:=by
  intro x O;rw[V];simp only[Op.operands,Call.operands,Array.toList_append,List.mem_append];exact .inr O
 have xP:gG (aL X cV) args.toList=some l:=by
  rw[tC _ (fun x O=>h1 x (qh x O))];exact B
 have fU:=AD (g:=g) (ev:=a.eval) (fun x v O=>ct di M O) xP;have D:(execOp a.eval o).run P w = .ok (.enter f (args.map a.eval)) w:=by
  obtain⟨dst,op,K,pos,J,guard⟩:=o;simp only at V;subst V;simp[execOp,resolve,Deferred.ofValue,invoke,Act.eval,hq.1 _ w]
 unfold Oper.wp;rw[D,Oper.upon_enter]
 have N:=(T.fW ⟨fun k=>ak k bx,fun _=>none⟩ (zn H) (fun k cs e=>by
   obtain⟨p,oc,e1,e2,e3⟩:=W.cells G.toks k cs e;exact⟨p,oc,e1,e2,e3⟩) (fun k k' p e e'=>mR W.d2 (dA e) (dA e')) (fun k n e=>by simp[zn,ak]at e) (fun k k' m m' p e=>by simp at e) (fun k e=>by
   simp only[ne_eq,not_true,or_false]at e;cases I:ak k bx with
   | none=>exact absurd I e
   | some kk=>exact(W.keys k kk I).1)).1
 have:=hq.2 (g.fW ⟨fun k=>ak k bx,fun _=>none⟩) w (args.toList.map a.eval) N M (vl (oz T) (q G.toks) fU).1;rw[show(args.toList.map a.eval).toArray=args.map a.eval from by rw[<- Array.toList_map]]at this;refine this.mono ?_;rintro e w' ⟨u,g',rfl,h3,h4,h5⟩;obtain⟨k1,k2,k3,k4⟩:=Z6 T W h4 h5;refine A u w' _ ?_ k1 k2 k3;exact(S9 (g:=g') (us:=Y.map (·.1)) (by rfl) k4 hr h3).1
end
end Go.cq
namespace Go.cq
theorem dI.of {P:Program} {X:Ctx} {f:FuncId} {Y:Func} {c:Code} {H G:List (Nat×List AV)} {args:List AV} {r:AV} (hf:P.funcs[f]?=some Y) (Q:Y.body=some c) (O:Enters P f)
  (E:args.length<=Y.ntmps) (env:Env) (σ:St) (N:env=(args.zipIdx.map fun(v,i)=>(i,v))) (A:zn H=σ)
  (h:∀β,AK P X f Y.ntmps β (HR β r G) [.code c] env σ):dI P X f H args r G:=by
 subst A;refine⟨O,fun g w vs T M U cs=>?_⟩;have S:=(bF.get U).1;have K:Live X ⟨w,g,zn H⟩ Y.ntmps env (zn H) g w {tmps:=vs.toArray++Array.replicate (Y.ntmps-vs.toArray.size) undef,defers:=[]}:=by
  refine⟨T,M,?_,gQ.refl _ _ _,?_,rfl⟩
  ·intro t a e;subst N;have V:∀(l:List AV) (us:List Value) (k:Nat),bF g l us->ak t ((l.zipIdx k).map fun(v,i)=>(i,v))=some a->k<=t/\∃u,us[t-k]?=some u/\aK g a u:=by
    intro l
    induction l with
    | nil=>intro us k _ e;simp[ak]at e
    | cons v l D =>
     intro us k I e;simp only[bF]at I;obtain⟨u,us,rfl,h1,h2⟩:=I;simp only[List.zipIdx_cons,List.map_cons,au]at e;split at e
     ·simp_all
     ·grind
   obtain⟨_,u,W,p⟩:=V args vs 0 U e;simp at W;have C:t<vs.length:=(List.getElem?_eq_some_iff.1 W).1;have:(vs.toArray++Array.replicate (Y.ntmps-vs.toArray.size) undef).getD t undef=u:=by
    rw[Array.getD_eq_getD_getElem?,Array.getElem?_append_left VI];simp[W]
   rw[this];exact p
  ·simp;omega
 obtain⟨e,w',fr,h1,W,p,B⟩:=h ⟨w,g,zn H⟩ g w _ cs K;have J:Frame.enter P f vs.toArray .normal =
   (top f).at {tmps:=vs.toArray++Array.replicate (Y.ntmps-vs.toArray.size) undef,defers:=[]} [.code c]:=by
  simp[Frame.enter,Frame.at,hf,Q,top]
 exact⟨_,w',fr,h1,by rw[J];exact W,p,B⟩
def BS:List AV->AV
 | [] => .c .undef
 | [x]=>x
 | l => .gy l
def vq (bx:List (Nat×Nat)) (ks:List Nat):Bool:=both (distinct (bx.map (·.2))) (both (F8 bx) (Dy ks (fV bx)))
section
variable {P : Program} {X : Ctx} {f : FuncId} {n : Nat} {β : jG} {K : List Item} {env : Env}
theorem AK.Da (N:(∃T,K = .code .ret::T)\/K=[]) (hX:cx P X) {U:Func} (hf:P.funcs[f]?=some U) {bs:List (Nat×List AV)} {ts:List (Nat×Nat)} {us:List Nat} {l:List AV} (I:tg X bs env U.results.toList=some l) (bx:List (Nat×Nat)) {r:AV} {G:List (Nat×List AV)}
  (E:vq bx (fV G)=true) (W:Conv ⟨fun k=>ak k bx,fun _=>none⟩ ts r (Go.cq.BS l)) (V:F6 ⟨fun k=>ak k bx,fun _=>none⟩ ts bs G):AK P X f n β (HR β r G) K env ⟨bs,ts,us⟩:=by
 intro g w a cs A;unfold vq at E;obtain⟨q,E⟩:=dW E;obtain⟨J,H⟩:=dW E;rw[kZ]at H;obtain⟨u,S,Y⟩:=oU hX A I;obtain⟨Q,M⟩:=A.inv.fW ⟨fun k=>ak k bx,fun _=>none⟩ (zn G) (fun k cells e=>sC V k cells e) (fun k k' p O D=>mR q (dA O) (dA D))
  (fun k n e=>by simp[zn,ak]at e) (fun k k' m m' p e=>by simp at e) (fun k e=>by
   simp only[ne_eq,not_true,or_false]at e;have:=sB H k (by rw[kZ];exact nH e)
   exact this)
 suffices C:aK (g.fW ⟨fun k=>ak k bx,fun _=>none⟩) r u/\∀k,1000000<=k->ak k (zn G).boxes≠none->ak k bx=some k by
  rcases N with ⟨T,rfl⟩|rfl
  ·exact⟨.returned u,w,_,⟨u,_,rfl,C.1,Q,A.frame.trans (M C.2)⟩,.one step_ret,rfl,rfl,A.defers,rfl,U,hf,S⟩
  ·exact⟨.returned u,w,_,⟨u,_,rfl,C.1,Q,A.frame.trans (M C.2)⟩,.one step_end,rfl,rfl,A.defers,rfl,U,hf,S⟩
 refine⟨?_,fun k B e=>?_⟩
 ·refine(qK (oz A.inv) W ?_).1;clear W
  match l,I,Y with
  | [],_,Y=>simp only[Go.cq.BS,aK,Rel];exact Y
  | [x],_,Y=>exact Y
  | x::y::r,_,Y=>exact Y
 ·cases E:ak k (zn G).boxes with
  | none=>exact absurd E e
  | some c =>
   obtain⟨p,oc,q1,q2,_⟩:=sC V k c E;have:=wA J k p B q1;subst this;exact q1
theorem AK.BS (hX:cx P X) {V:Func} (hf:P.funcs[f]?=some V) {bs:List (Nat×List AV)} {ts:List (Nat×Nat)} {us:List Nat} {l:List AV} (I:tg X bs env V.results.toList=some l) (bx:List (Nat×Nat)) {r:AV} {G:List (Nat×List AV)}
  (E:vq bx (fV G)=true) (Y:Conv ⟨fun k=>ak k bx,fun _=>none⟩ ts r (Go.cq.BS l)) (W:F6 ⟨fun k=>ak k bx,fun _=>none⟩ ts bs G):AK P X f n β (HR β r G) (.code .ret::K) env ⟨bs,ts,us⟩ :=
 AK.Da (.inl ⟨_,rfl⟩) hX hf I bx E Y W
end
structure MC (c:Nat->Nat->List AV):Prop where
 conv:∀(ρ:Ren) (ts:List (Nat×Nat)) (a b a' b':Nat),ρ.bx a=some a'->ρ.bx b=some b'->fu ρ ts (c a b) (c a' b')
 rn:∀(ψ:Nat->Nat) (a b:Nat),P3 ψ (c a b)=c (ψ a) (ψ b)
 ok:∀(us:List Nat) (a b:Nat),mem a us=true->mem b us=true->wX us (c a b)=true
abbrev mI (c:Nat->Nat->List AV) (s f:List CV):List (Nat×List AV):=[(1000000,c 1000001 1000002),(1000001,s.map AV.c),(1000002,f.map AV.c)]
abbrev mO (c:Nat->Nat->List AV) (s f:List CV):List (Nat×List AV):=[(1000000,c 999991 999992),(999991,s.map AV.c),(999992,f.map AV.c)]
abbrev mI1 (c:Nat->Nat->List AV) (f:List CV):List (Nat×List AV):=[(1000000,c 0 1000002),(1000002,f.map AV.c)]
abbrev mO1 (c:Nat->Nat->List AV) (f:List CV):List (Nat×List AV):=[(1000000,c 0 999992),(999992,f.map AV.c)]
def P4 (U u H:Nat) (k:Nat):Nat:=match Nat.beq k 1000000 with
 | true=>U
 | false=>match Nat.beq k 999991 with
  | true=>u
  | false=>match Nat.beq k 999992 with
   | true=>H
   | false=>k
def vr (us:List Nat) (U D Q u H:Nat):Bool :=
 both (distinct [U,D,Q]) (both (distinct [U,u,H]) (both (match mem u us with|true=>false|false=>true) (both (match mem H us with|true=>false|false=>true) (both (Nat.blt u 1000000) (Nat.blt H 1000000)))))
def wE (us:List Nat) (U Q H:Nat):Bool:=both (distinct [U,Q]) (both (distinct [U,H]) (both (match mem H us with|true=>false|false=>true) (Nat.blt H 1000000)))
theorem Ah {a b c:Nat} (h:distinct [a,b,c]=true):a≠b/\a≠c/\b≠c:=by
 simp only[distinct]at h;split at h
 ·simp at h
 ·rename_i h1;split at h
  ·simp at h
  ·rename_i h2;have V:=cS h1;have Y:=cS h2;simp at V Y;exact⟨V.1,V.2,Y⟩
theorem acM {bs:List (Nat×List AV)} {us:List Nat} {c Y:Nat->Nat->List AV} (O:MC c) (K:MC Y) {s f P N:List CV} {U D G u H:Nat} (Q:vr us U D G u H=true)
  (h1:ak U bs=some (c D G)) (h2:ak D bs=some (s.map AV.c)) (M:ak G bs=some (f.map AV.c)) :
  Z5 bs us (mI c s f) (mO Y P N) [(1000000,U),(1000001,D),(1000002,G)] [(U,1000000),(u,999991),(H,999992)] (P4 U u H) [(U,Y u H),(u,P.map AV.c),(H,N.map AV.c)]:=by
 unfold vr at Q;obtain⟨I,Q⟩:=dW Q;obtain⟨C,Q⟩:=dW Q;obtain⟨B,Q⟩:=dW Q;obtain⟨A,Q⟩:=dW Q;obtain⟨p,b2⟩:=dW Q;have W:mem u us=false:=by split at B<;>simp_all
 have V:mem H us=false:=by split at A<;>simp_all
 obtain⟨S,q,J⟩:=Ah C;refine⟨I,?_,?_,?_,?_,?_,?_,?_⟩
 ·intro k kk e;simp only[au]at e;split at e
  ·simp_all
  ·split at e
   ·simp_all
   ·split at e
    ·simp_all
    ·simp[ak]at e
 ·intro ts k cs e;simp only[au]at e;split at e
  ·simp at e;subst_vars;exact⟨U,_,fe,h1,O.conv _ _ _ _ _ _ fe fe⟩
  ·split at e
   ·simp at e;subst_vars;exact⟨D,_,fe,h2,dz _⟩
   ·split at e
    ·simp at e;subst_vars;exact⟨G,_,fe,M,dz _⟩
    ·simp[ak]at e
 ·intro T cs' e;simp only[au]at e;split at e
  ·simp at e;subst_vars;exact⟨1000000,Y 999991 999992,fe,fe,by rw[K.rn];rfl⟩
  ·split at e
   ·simp at e;subst_vars;exact⟨999991,P.map AV.c,Ux,fe,Xb⟩
   ·split at e
    ·simp at e;subst_vars;exact⟨999992,N.map AV.c,Mf,fe,Xb⟩
    ·simp[ak]at e
 ·intro T ok e;simp only[au]at e;split at e
  ·simp at e;subst_vars;rfl
  ·split at e
   ·simp at e;subst_vars;rfl
   ·split at e
    ·simp at e;subst_vars;rfl
    ·simp[ak]at e
 ·intro k hk;have E:=mem_iff.1 hk;simp at E;rcases E with rfl|rfl|rfl
  ·exact⟨U,fe⟩
  ·exact⟨u,Ux⟩
  ·exact⟨H,Mf⟩
 ·intro T ok e;simp only[au]at e;split at e
  ·simp at e;subst_vars;exact .inl ⟨aak _,fe,fe⟩
  ·split at e
   ·simp at e;subst_vars;exact .inr ⟨cS W,Nat.blt_eq.mp p⟩
   ·split at e
    ·simp at e;subst_vars;exact .inr ⟨cS V,Nat.blt_eq.mp b2⟩
    ·simp[ak]at e
 ·intro ok cs e;simp only[au]at e;split at e
  ·simp at e;subst_vars;exact K.ok _ _ _ rfl rfl
  ·split at e
   ·simp at e;subst_vars;exact vp _ _
   ·split at e
    ·simp at e;subst_vars;exact vp _ _
    ·simp[ak]at e
theorem Z9 {bs:List (Nat×List AV)} {us:List Nat} {c Y:Nat->Nat->List AV} (u:MC c) (K:MC Y) (O:∀ρ ts b P,ρ.bx b=some P->fu ρ ts (c 0 b) (c 0 P)) (W:∀us b,mem b us=true->wX us (Y 0 b)=true) (I:∀a b,Y a b=Y 0 b) {f N:List CV} {U G H:Nat} (Q:wE us U G H=true)
  (h1:ak U bs=some (c 0 G)) (M:ak G bs=some (f.map AV.c)) :
  Z5 bs us (mI1 c f) (mO1 Y N) [(1000000,U),(1000002,G)] [(U,1000000),(H,999992)] (P4 U (H+1) H) [(U,Y 0 H),(H,N.map AV.c)]:=by
 unfold wE at Q;obtain⟨J,Q⟩:=dW Q;obtain⟨T,Q⟩:=dW Q;obtain⟨D,C⟩:=dW Q;have V:mem H us=false:=by split at D<;>simp_all
 have q:U≠H:=by
  simp only[distinct]at T;split at T
  ·simp at T
  ·rename_i h;have:=cS h;simp at this;exact this
 refine⟨J,?_,?_,?_,?_,?_,?_,?_⟩
 ·intro k p e;simp only[au]at e;split at e
  ·simp_all
  ·split at e
   ·simp_all
   ·simp[ak]at e
 ·intro ts k cs e;simp only[au]at e;split at e
  ·simp at e;subst_vars;exact⟨U,_,fe,h1,O _ _ _ _ fe⟩
  ·split at e
   ·simp at e;subst_vars;exact⟨G,_,fe,M,dz _⟩
   ·simp[ak]at e
 ·intro S B e;simp only[au]at e;split at e
  ·simp at e;subst_vars;exact⟨1000000,Y 0 999992,fe,fe,by rw[K.rn,I];rfl⟩
  ·split at e
   ·simp at e;subst_vars;exact⟨999992,N.map AV.c,by simp[au,Ne.symm q],fe,Xb⟩
   ·simp[ak]at e
 ·intro S ok e;simp only[au]at e;split at e
  ·simp at e;subst_vars;rfl
  ·split at e
   ·simp at e;subst_vars;rfl
   ·simp[ak]at e
 ·intro k A;have E:=mem_iff.1 A;simp at E;rcases E with rfl|rfl
  ·exact⟨U,fe⟩
  ·exact⟨H,by simp[au,Ne.symm q]⟩
 ·intro S ok e;simp only[au]at e;split at e
  ·simp at e;subst_vars;exact .inl ⟨aak _,fe,fe⟩
  ·split at e
   ·simp at e;subst_vars;exact .inr ⟨cS V,Nat.blt_eq.mp C⟩
   ·simp[ak]at e
 ·intro ok cs e;simp only[au]at e;split at e
  ·simp at e;subst_vars;exact W _ _ rfl
  ·split at e
   ·simp at e;subst_vars;exact vp _ _
   ·simp[ak]at e
section
variable {P : Program} {X : Ctx} {ops : Array Oper} {o : Oper} {rest : List Oper} {env : Env} {acc : List Fp} {Q : Env -> St -> List Fp -> Prop} {bs : List (Nat × List AV)} {ts : List (Nat × Nat)} {us : List Nat}
theorem ld {bs bs':List (Nat×List AV)} {ks:List Nat} (h:∀k∈ks,ak k bs'=ak k bs) {k:Nat} (D:k∈ks) {v:List AV} (e:ak k bs=some v):ak k bs'=some v:=by rw[h k D];exact e
theorem P5 {us us':List Nat} {U D Q u H:Nat} (h:∀k∈[U,u,H],k∈us'↔k∈us) (e:vr us U D Q u H=true):vr us' U D Q u H=true:=by
 have M:∀k∈[U,u,H],mem k us'=mem k us:=by
  intro k Y;rw[Bool.eq_iff_iff,mem_iff,mem_iff];exact h k Y
 unfold vr at e ⊢;rw[M u c9,M H c9];exact e
theorem ai.aaa (kn:List Nat) (K:cU ops.toList kn env o=some true) {f:FuncId} {args:Array Operand} {E:Array TypeId} (p:o.op = .call {callee := .value (.func f),args:=args,argTypes:=E})
  {c W:Nat->Nat->List AV} {s fr V Y:List CV} {S:List AV} {r:AV} (hq:dI P X f (mI c s fr) S r (mO W V Y)) (J:MC c) (H:MC W) {d:Nat} (B:o.dst=some d)
  {l:List AV} (A:gG (aL X env) args.toList=some l) {U:Nat} {u:List AV} (q:l = .ptr U 0::u) {D G:Nat} {O C N:List AV} (h1:ak U bs=some O) (e1:O=c D G) (h2:ak D bs=some C) (e2:C=s.map AV.c) (h3:ak G bs=some N) (e3:N=fr.map AV.c)
  (qA:∀ts,fu ⟨fun k=>ak k [(1000000,U),(1000001,D),(1000002,G)],fun _=>none⟩ ts S l) (ki:vr us U D G (100000+d) (200000+d)=true) (hr:Mv [1000000,999991,999992] r=true) {M:AV} (I:r.rn (P4 U (100000+d) (200000+d))=M)
  {bs':List (Nat×List AV)} (ke:lZ [U,D,G] bs=bs')
  (k:ai P X ops rest ((d,M)::env) ⟨(U,W (100000+d) (200000+d))::(100000+d,V.map AV.c)::(200000+d,Y.map AV.c)::bs',ts,U::(100000+d)::(200000+d)::us⟩ (⟨[],[U,D,G,U,100000+d,200000+d,U,100000+d,200000+d]⟩::acc) Q):ai P X ops (o::rest) env ⟨bs,ts,us⟩ acc Q:=by
 subst I ke e1 e2 e3;have hs:=bU.Gd (env:=env) (σ:=⟨bs,ts,us⟩) p A hq (bx:=[(1000000,U),(1000001,D),(1000002,G)]) (po:=[(U,1000000),(100000+d,999991),(200000+d,999992)]) (ψ:=P4 U (100000+d) (200000+d)) qA
  (fun Ow P1 T hu=>acM J H (P5 hu ki) (ld T c9 h1) (ld T c9 h2) (ld T c9 h3)) hr
 exact ai.step (dj K) hs (wD _ _ _) (by rw[B];exact k)
theorem ai.XQ (kn:List Nat) (J:cU ops.toList kn env o=some true) {f:FuncId} {args:Array Operand} {E:Array TypeId} (p:o.op = .call {callee := .value (.func f),args:=args,argTypes:=E})
  {c Y:Nat->Nat->List AV} {fr W:List CV} {T:List AV} {r:AV} (hq:dI P X f (mI1 c fr) T r (mO1 Y W)) (H:MC c) (C:MC Y) (B:∀ρ ts b S,ρ.bx b=some S->fu ρ ts (c 0 b) (c 0 S)) (V:∀us b,mem b us=true->wX us (Y 0 b)=true) (A:∀a b,Y a b=Y 0 b) {d:Nat} (u:o.dst=some d)
  {l:List AV} (q:gG (aL X env) args.toList=some l) {U:Nat} {tl:List AV} (hl':l = .ptr U 0::tl) {G:Nat} {D O:List AV} (h1:ak U bs=some D) (e1:D=c 0 G) (h3:ak G bs=some O) (e3:O=fr.map AV.c)
  (qA:∀ts,fu ⟨fun k=>ak k [(1000000,U),(1000002,G)],fun _=>none⟩ ts T l) (N:wE us U G (200000+d)=true) (hr:Mv [1000000,999992] r=true) {M:AV} (I:r.rn (P4 U (200000+d+1) (200000+d))=M)
  {bs':List (Nat×List AV)} (ke:lZ [U,G] bs=bs')
  (k:ai P X ops rest ((d,M)::env) ⟨(U,Y 0 (200000+d))::(200000+d,W.map AV.c)::bs',ts,U::(200000+d)::us⟩ (⟨[],[U,G,U,200000+d,U,200000+d]⟩::acc) Q):ai P X ops (o::rest) env ⟨bs,ts,us⟩ acc Q:=by
 subst I ke e1 e3;have hs:=bU.Gd (env:=env) (σ:=⟨bs,ts,us⟩) p q hq (bx:=[(1000000,U),(1000002,G)]) (po:=[(U,1000000),(200000+d,999992)]) (ψ:=P4 U (200000+d+1) (200000+d)) qA
  (fun Ow P1 K hu=>Z9 H C B V A (by
   have hm:mem (200000+d) P1=mem (200000+d) us:=by
    rw[Bool.eq_iff_iff,mem_iff,mem_iff];exact hu _ c9
   unfold wE at N ⊢
   rw[hm];exact N) (ld K c9 h1) (ld K c9 h3)) hr
 exact ai.step (dj J) hs (wD _ _ _) (by rw[u];exact k)
end
end Go.cq
namespace Go.cq
theorem cr.head {w:World} {g:Gh} {b:Nat}:∀{cells tail:List AV} {o:Nat},cr w g b o (cells++tail)->cr w g b o cells
 | [],_,_,_=>trivial
 | _::_,_,_,⟨h1,h2,V⟩=>⟨h1,h2,cr.head V⟩
theorem Oz {w:World} {g:Gh} {σ:St} (h:Inv w g σ) {u:Nat} {cells cells':List AV} (D:ak u σ.boxes=some cells) (E:∀b,g.box u=some b->cr w g b 0 cells->cr w g b 0 cells') :
  Inv w g ⟨uj u cells' σ.boxes,σ.toks,σ.used⟩/\gQ w g σ w g ⟨uj u cells' σ.boxes,σ.toks,σ.used⟩:=by
 have T:∀k cs,ak k (uj u cells' σ.boxes)=some cs->(k=u/\cs=cells')\/ak k σ.boxes=some cs:=by
  intro k cs e;rw[ew]at e;split at e
  ·simp_all
  ·exact .inr e
 have O:∀k cs,ak k (uj u cells' σ.boxes)=some cs->∃Y,ak k σ.boxes=some Y:=by grind
 refine⟨⟨h.oI,?_,?_,?_,h.gw,h.used,?_⟩,⟨rfl,rfl,rfl,aak _,fun _ _ _=>rfl,fun _ _ _ _=>⟨rfl,rfl⟩,jk.le.refl _,fun _ _ _ h => .inl h,fun k cs b h1 h2=>?_,
   fun k n b S W h1 h2 => .inr ⟨k,n,S,W,h1,h2,aak _,aak _⟩,fun k _ e=>?_⟩⟩
 ·intro k cs e;rcases T k cs e with ⟨rfl,rfl⟩|e'
  ·obtain⟨b,U,Q,P,N⟩:=h.box k _ D;exact⟨b,U,Q,P,E b U N⟩
  ·exact h.box k cs e'
 ·intro k k' cs M b e e';obtain⟨p,q⟩:=O k cs e;obtain⟨V,K⟩:=O k' M e';exact h.fB k k' p V b q K
 ·intro k n e;obtain⟨A,h1,h2⟩:=h.tok k n e;refine⟨A,h1,fun b S W I=>?_⟩;obtain⟨J,H,G⟩:=h2 b S W I;refine⟨J,H,fun k' cs e'=>?_⟩;obtain⟨p,q⟩:=O k' cs e';exact G k' p q
 ·intro k cs b e;obtain⟨p,q⟩:=O k cs e;exact h.room k p b q
 ·grind
 ·cases E:ak k (uj u cells' σ.boxes)with
  | none=>exact absurd E e
  | some cs =>
   obtain⟨p,q⟩:=O k cs E;exact⟨by rw[q];simp,rfl,rfl⟩
section
variable {P : Program} {X : Ctx} {f : FuncId} {n : Nat} {β : jG} {R : Ending -> World -> Prop} {K : List Item} {env : Env}
theorem AK.vt {bs:List (Nat×List AV)} {ts:List (Nat×Nat)} {us:List Nat} (u:Nat) {cells:List AV} (cells' tail:List AV) (D:ak u bs=some cells) (E:cells=cells'++tail) {bs':List (Nat×List AV)} (G:xd u cells' bs=some bs')
  (h:AK P X f n β R K env ⟨bs',ts,us⟩):AK P X f n β R K env ⟨bs,ts,us⟩:=by
 rw[si]at G;simp at G;subst G E;intro g w a cs A;obtain⟨S,M⟩:=Oz A.inv (cells':=cells') D (fun b _ E=>E.head);exact h g w a cs ⟨S,A.rC,A.env,A.frame.trans M,A.size,A.defers⟩
theorem DJ {w:World} {g:Gh} {b:Nat} {x y:AV}:∀{pre tail:List AV} {o:Nat},(∀u,aK g x u->aK g y u)->(x.one=true->y.one=true)->cr w g b o (pre++x::tail)->cr w g b o (pre++y::tail)
 | [],_,_,I,p,⟨⟨u,h1,h2,V⟩,h4,h5⟩=>⟨⟨u,h1,I u h2,p V⟩,h4,h5⟩
 | _::_,_,_,I,p,⟨h1,h2,V⟩=>⟨h1,h2,DJ I p V⟩
theorem AK.empty {bs:List (Nat×List AV)} {ts:List (Nat×Nat)} {us:List Nat} (Y W s:Nat) (pre tail:List AV) {cells V:List AV} {B:Nat} (D:ak Y bs=some cells) (E:cells=pre ++ .own .exact B []::tail) (H:ak W bs=some V)
  {bs':List (Nat×List AV)} (G:xd Y (pre ++ .gv W 0 s 0::tail) bs=some bs') (h:AK P X f n β R K env ⟨bs',ts,us⟩):AK P X f n β R K env ⟨bs,ts,us⟩:=by
 rw[si]at G;simp at G;subst G E;intro g w a cs A;obtain⟨T,M,_⟩:=A.inv.box W V H
 obtain⟨S,Q⟩:=Oz A.inv (cells':=pre ++ .gv W 0 s 0::tail) D (fun b _ E=>DJ (fun u p=>by
  simp only[aK,pS]at p ⊢;obtain⟨base,O,I,C,U,J,_,N⟩:=p;simp at U;subst U N
  exact⟨T,0,base,M,C,aak _,c9,.inl rfl⟩) (fun _=>rfl) E)
 exact h g w a cs ⟨S,A.rC,A.env,A.frame.trans Q,A.size,A.defers⟩
end
section
variable {P : Program} {X : Ctx}
theorem bU.Cc (hX:cx P X) {o:Oper} {env:Env} {σ:St} {t:TypeId} {x:Operand} {H Y:Option Operand} (p:o.op = .slice t x none H Y) {i j:TI} {e:Nat} (M:X.ti t=some i) (C:i.kind = .slice e) (B:X.ti e=some j)
  {u off s n:Nat} (q:aL X env x=some (.gv u off s n)) (hs:j.size=s) {h:Nat} (hh:bound (aL X env) H=some (some h)) (hm:bound (aL X env) Y=some (some h)) (h1:h<=n) :
  bU P X o env σ (.gv u off s h) (fun σ=>σ) ⟨[],[]⟩:=by
 refine bU.val fun A w g W E ij Q V=>?_;have xP:aL X A x=some (.gv u off s n):=by rw[E x V6];exact q
 have U:bound (aL X A) H=some (some h):=by
  rw[kJ H (fun y N=>E y (by rw[p];subst N;simp[Op.operands]))];exact hh
 have T:bound (aL X A) Y=some (some h):=by
  rw[kJ Y (fun y N=>E y (by rw[p];subst N;simp[Op.operands]))];exact hm
 have D:=ct (a:=W) V Q xP;simp only[aK]at D;obtain⟨b,I,S,IU,e1,K,YE,Vt⟩:=D;have b1:eT ((none:Option Operand).map W.eval) none:=oq (g:=g) (ev:=W.eval) (ρ:=aL X A) (fun x v O=>ct V Q O) rfl;have b2:=oq (g:=g) (ev:=W.eval) (fun x v O=>ct V Q O) U;have b3:=oq (g:=g) (ev:=W.eval) (fun x v O=>ct V Q O) T;have hb:∀w,(Instr.sliceBounds true n I ((none:Option Operand).map W.eval) (H.map W.eval) (Y.map W.eval)).run P w = .ok (0,h,h) w :=
  fun w=>pV true b3 b2 b1 (Nat.le_trans h1 K) (aak _)
 refine⟨.slice (if h=0 then S else S.map (·.add (0*j.size))) (h-0) (h-0),?_,?_⟩
 ·obtain⟨dst,op,G,pos,J,guard⟩:=o;simp only at p;subst p;have:=gu (w:=w) hX M C B (base:=S) hb;simp only[Option.map_none]at this;simp[execOp,e1,this]
 ·simp only[aK];refine⟨b,h-0,_,IU,rfl,aak _,?_,?_⟩
  ·have:h*s<=I*s:=Nat.mul_le_mul_right _ (Nat.le_trans h1 K);simp only[Nat.sub_zero];omega
  ·by_cases h0:h=0
   ·left;omega
   ·right;rw[if_neg h0];rcases Vt with h2|h2
    ·omega
    ·rw[h2,Option.map_some,Nat.zero_mul,Addr.add_lit,Nat.add_zero]
end
section
variable {P : Program} {X : Ctx} {ops : Array Oper} {o : Oper} {rest : List Oper} {env : Env} {acc : List Fp} {Q : Env -> St -> List Fp -> Prop} {σ : St}
theorem ai.Cc (hX:cx P X) (kn:List Nat) (E:cU ops.toList kn env o=some true) {t:TypeId} {x:Operand} {H U:Option Operand} (p:o.op = .slice t x none H U) {d:Nat} (T:o.dst=some d) {i j:TI} {e:Nat} (I:X.ti t=some i) (D:i.kind = .slice e) (S:X.ti e=some j)
  {u off s n:Nat} (C:aL X env x=some (.gv u off s n)) (G:j.size=s) {z:Int} {O N:IntKind} {y Y:Operand} (J:H=some y) (W:U=some Y) (M:aL X env y=some (.c (.int O z))) (V:aL X env Y=some (.c (.int N z))) (h:Nat) (K:z=h) (h1:h<=n)
  (k:ai P X ops rest ((d,.gv u off s h)::env) σ (⟨[],[]⟩::acc) Q):ai P X ops (o::rest) env σ acc Q:=by
 subst J W K;have B:bound (aL X env) (some y)=some (some h):=by simp only[bound,M,asNat]
 have A:bound (aL X env) (some Y)=some (some h):=by simp only[bound,V,asNat]
 exact ai.step (dj E) (bU.Cc (σ:=σ) hX p I D S C G B A h1) (gR.id []) (by rw[T];exact k)
end
end Go.cq
namespace Go.cq
theorem dS.Zi {P:Program} {X:Ctx} {f:FuncId} {cells:List CV} {s J:Nat} {oN:List CV} (he:Enters P f) (h0:0<J) {rows:List CV} (N:(bI rows).all CV.one=true)
  (h:∀(w:World) (G:jk) (b I:Nat) (vs us:List Value),b<w.heap.size->(∀o,G b o=none)->(∀b o v,G b o=some v->w.cell? ⟨b,o,none⟩=some v)->bL G cells vs ->
   (∀(j:Nat) u,vs[j]?=some u->w.cell? ⟨b,j,none⟩=some u)->cells.all CV.one=true->J<=I->(∀o,(o<I*s->∃u,w.cell? ⟨b,o,none⟩=some u)/\w.frozen? ⟨b,o,none⟩=false)->bL G oN us ->
   ∃news,bL G (bI rows) news/\Calls P f (.slice (some ⟨b,0,none⟩) J I::us).toArray w fun e w'=>∃W Y,e = .returned (.slice (some ⟨W,0,none⟩) rows.length Y)/\rows.length<=Y/\N6 w b w' W news/\W<w'.heap.size /\
    ∀o,(o<Y*s->∃u,w'.cell? ⟨W,o,none⟩=some u)/\w'.frozen? ⟨W,o,none⟩=false) :
  dS P X f (some cells) (.gv 1000000 0 s J::oN.map AV.c) (.gv 999999 0 s rows.length) (some (bI rows)):=by
 refine⟨he,fun g w vs T cy fU=>?_⟩;simp only[bF]at fU;obtain⟨u,us,rfl,hr,pT⟩:=fU;simp only[aK]at hr;obtain⟨b,I,o,C,rfl,e2,e3,H⟩:=hr;have p:o=some ⟨b,0,none⟩:=by
  rcases H with H|H
  ·omega
  ·exact H
 subst p;have E:ak 1000000 (qv 1000000 (some cells)).boxes=some (cells.map AV.c):=by simp[qv,au]
 obtain⟨W,c1,c2,c3,c4⟩:=T.box 1000000 _ E;rw[C]at c1;cases c1;obtain⟨vs,v1,v2,v3⟩:=oA (tail:=[]) (by simpa using c4);have U:=T.room 1000000 _ b E C;obtain⟨news,n1,D⟩:=h w g.G b I vs us c2 c3 T.oI v1 (fun j u A=>by have:=v2 j u A;rwa[Nat.zero_add]at this) v3 e2 (fun o=>⟨fun p=>(U o).1 bn,(U o).2⟩) (AJ pT);refine D.mono ?_;rintro e w' ⟨W,Y,rfl,S4,R,M,Tb⟩;have S5:∀B o v,g.G B o=some v->B≠b/\B<w.heap.size/\B≠W:=by
  intro B o v S;have h1:B≠b:=by rintro rfl;rw[c3]at S;simp at S
  have h2:=C8 (T.oI B o v S);refine⟨h1,h2,?_⟩;rintro rfl;rcases R.blk with h|h
  ·exact h1 h
  ·omega
 let g':Gh:=⟨g.G,fun k=>if k=999999 then some W else none,fun _=>none,fun k=>if k=999999 then Y*s else 0⟩
 have Oq:=(bL.get n1).1;have O:∀k cs,ak k (qv 999999 (some (bI rows))).boxes=some cs->k=999999/\cs=(bI rows).map AV.c:=by
  intro k cs e;obtain⟨h1,cl,h2,h3⟩:=wB e;cases h2;exact⟨h1,h3⟩
 refine⟨_,g',rfl,?_,?_,?_⟩
 ·simp only[aK];exact⟨W,Y,some ⟨W,0,none⟩,Wj,rfl,S4,Wj,.inr rfl⟩
 ·refine⟨fun B o v S=>?_,?_,?_,fun k n e=>by rw[oB]at e;simp[ak]at e,fun k k' n n' b lo hi lo' hi' e=>by rw[oB]at e;simp[ak]at e,fun k e=>?_,?_⟩
  ·obtain⟨h1,h2,_⟩:=S5 B o v S;rw[tF (R.rest B h2 h1)];exact T.oI B o v S
  ·intro k cs e;obtain⟨rfl,rfl⟩:=O k cs e;refine⟨W,Wj,M,fun o=>?_,?_⟩
   ·cases S:g.G W o with
    | none=>rfl
    | some v=>exact absurd rfl (S5 W o v S).2.2
   ·apply cr.jQ;intro j c A;obtain⟨q1,q2⟩:=bF.get (oV (g:=g') n1);obtain⟨u,hu,Rq⟩:=q2 j c A;have I5:c.one=true:=by
     have:=(sD (bI rows)).trans N;rw[List.all_eq_true]at this;exact this c (aaw A)
    refine⟨⟨u,by rw[Nat.zero_add];exact R.cells j u hu,Rq,I5⟩,by rw[Nat.zero_add];exact(Tb j).2⟩
  ·intro k k' cs q b e e' _ _;rw[(O k cs e).1,(O k' q e').1]
  ·simp only[g',ne_eq,not_true,or_false]at e;by_cases hk:k=999999
   ·subst hk;simp[qv]
   ·simp[hk]at e
  ·intro k cs V e K o;obtain⟨rfl,_⟩:=O k cs e;simp only[g',if_true,Option.some.injEq]at K ⊢;subst K;exact Tb o
 ·have Q:∀V,(∀o,¬iJ g (qv 1000000 (some cells)) V o)\/(∃o,¬iJ g (qv 1000000 (some cells)) V o)->V≠b:=by
   rintro V h rfl;have p:∀o,iJ g (qv 1000000 (some cells)) V o:=fun o => .inl ⟨1000000,_,E,C⟩;rcases h with h|⟨o,h⟩
   ·exact h 0 (p 0)
   ·exact h (p o)
  refine⟨R.os,R.tape,R.output,R.size,fun V h1 h2=>R.rest V h1 (Q V (.inl h2)),fun V o h1 h2=>?_,jk.le.refl _,fun _ _ _ h => .inl h,fun k cs V e K=>?_,fun k n b lo hi e=>by rw[oB]at e;simp[ak]at e,fun k hk e=>?_⟩
  ·have:=R.rest V h1 (Q V (.inr ⟨o,h2⟩));exact⟨tF this o,zm this o⟩
  ·obtain⟨rfl,_⟩:=O k cs e;simp only[g',if_true,Option.some.injEq]at K;subst K;rcases R.blk with h|h
   ·subst h;exact .inr ⟨1000000,_,E,C⟩
   ·exact .inl h
  ·cases D:ak k (qv 999999 (some (bI rows))).boxes with
   | none=>exact absurd D e
   | some cs=>have:=(O k cs D).1;omega
theorem Kc (d u:Nat) (cells:List AV):gR (fun σ=>(σ.eH u).dX d cells) ⟨[],[d,u]⟩ where
 out:=fun σ k D=>by
  simp at D;refine⟨?_,rfl,?_⟩
  ·simp only[St.eH,St.dX,jM,au];rw[if_neg D.1,if_neg D.2]
  ·simp only[St.eH,St.dX,List.mem_cons];exact⟨fun h=>h.resolve_left D.1,.inr⟩
 same:=fun σ G h k D=>by
  obtain⟨h1,h2,V⟩:=h k (.inr D);refine⟨?_,h2,?_⟩
  ·simp only[St.eH,St.dX,jM,au];split
   ·rfl
   ·split
    ·rfl
    ·exact h1
  ·simp only[St.eH,St.dX,List.mem_cons,V]
section
variable {P : Program} {X : Ctx}
theorem bU.rq {o:Oper} {env:Env} {σ:St} {f:FuncId} {args:Array Operand} {E:Array TypeId} (p:o.op = .call {callee := .value (.func f),args:=args,argTypes:=E})
  {d:Nat} (jm:d<1000000) (hu:mem d σ.used=false) {x:Operand} {rest:List Operand} (U:args.toList=x::rest) {Y B S:Nat} (O:aL X env x=some (.gv Y 0 B S)) {N:List CV} (ha:gV (aL X env) rest=some N)
  {cells:List CV} (W:ak Y σ.boxes=some (cells.map AV.c)) {s n:Nat} {cells':List CV} (hq:dS P X f (some cells) (.gv 1000000 0 B S::N.map AV.c) (.gv 999999 0 s n) (some cells')) :
  bU P X o env σ (.gv d 0 s n) (fun σ=>(σ.eH Y).dX d (cells'.map AV.c)) ⟨[],[d,Y]⟩:=by
 intro cV G w g a next Q h1 h2 T M di A;have qh:∀y∈args.toList,y∈o.op.operands.toList:=by
  intro y J;rw[p];simp only[Op.operands,Call.operands,Array.toList_append,List.mem_append];exact .inr J
 have xP:gV (aL X cV) rest=some N:=by
  rw[jz _ (fun y J=>h1 y (qh y (by rw[U];exact List.mem_cons_of_mem _ J)))];exact ha
 have K:aL X cV x=some (.gv Y 0 B S):=by rw[h1 x (qh x (by simp[U]))];exact O
 have fU:=nF (g:=g) (ev:=a.eval) (fun x v O=>ct di M O) xP;have Z3:=ct (a:=a) di M K;have J5:ak Y G.boxes=some (cells.map AV.c):=by rw[(h2 Y (.inr c9)).1];exact W
 have D:(execOp a.eval o).run P w = .ok (.enter f (args.map a.eval)) w:=by
  obtain⟨dst,op,type,pos,H,guard⟩:=o;simp only at p;subst p;simp[execOp,resolve,Deferred.ofValue,invoke,Act.eval,hq.1 _ w]
 unfold Oper.wp;rw[D,Oper.upon_enter];have q:=Mt T (some Y) (some cells) (fun _ h=>by cases h;exact⟨Y,rfl,J5⟩) (fun h=>by cases h);have XJ:∀V,(g.fW (rE (some Y))).box V=if V=1000000 then g.box Y else none:=by
  intro V;by_cases h:V=1000000<;>simp[Gh.fW,rE,h]
 have:=hq.2 (g.fW (rE (some Y))) w (args.toList.map a.eval) q M (by
  rw[U];simp only[List.map_cons,bF];refine⟨_,_,rfl,?_,oV (g:=g.fW (rE (some Y))) fU⟩;simp only[aK]at Z3 ⊢;obtain⟨b,I,oo,C,e2,e3,e4,e5⟩:=Z3
  exact⟨b,I,oo,by rw[XJ];simpa using C,e2,e3,by simpa[Gh.fW,rE]using e4,e5⟩)
 rw[show(args.toList.map a.eval).toArray=args.map a.eval from by rw[<- Array.toList_map]]at this;refine this.mono ?_;rintro e w' ⟨u,g',rfl,h3,h4,h5⟩
 obtain⟨k1,k2,k3,k4⟩:=SZ (g0:=g.fW (rE (some Y))) (Mu:=qv 1000000 (some cells)) T rfl (oB _ _) (some Y) (fun k cs b e C=>by
  obtain⟨rfl,_⟩:=wB e;rw[XJ]at C
  exact⟨Y,_,rfl,J5,VI⟩) h4 h5 (G.eH Y) (.inr ⟨Y,rfl,rfl⟩)
 obtain⟨b,c1,c2,c3,c4,c5,c6,c7,c8⟩:=k4 cells' rfl;have SY:d ∉ (G.eH Y).used:=fun h=>cS hu ((h2 d (.inr c9)).2.2.1 h);obtain⟨p1,p2,p3⟩:=S3 k1 k2 SY jm c2 c3 c4 c5 c6 c7 c8;refine A u w' _ ?_ p1 p2 (k3.trans p3);simp only[aK]at h3 ⊢;obtain⟨b',I,oo,C,e2,e3,e4,e5⟩:=h3;rw[c1]at C;cases C;exact⟨b,I,oo,c9,e2,e3,by simpa using e4,e5⟩
end
section
variable {P : Program} {X : Ctx} {ops : Array Oper} {o : Oper} {rest : List Oper} {env : Env} {acc : List Fp} {Q : Env -> St -> List Fp -> Prop} {bs : List (Nat × List AV)} {ts : List (Nat × Nat)} {us : List Nat} {σ : St}
theorem ai.rq (kn:List Nat) (O:cU ops.toList kn env o=some true) {f:FuncId} {args:Array Operand} {E:Array TypeId} (p:o.op = .call {callee := .value (.func f),args:=args,argTypes:=E})
  {x:Operand} {W:List Operand} (U:args.toList=x::W) {d:Nat} (H:o.dst=some d) (N:Nat.blt d 1000000=true) (A:mem d us=false) {u B V:Nat} (q:aL X env x=some (.gv u 0 B V)) {S:List CV} (C:gV (aL X env) W=some S)
  {cells:List CV} (Y:ak u bs=some (cells.map AV.c)) {s n:Nat} {cells':List CV} {T:List AV} (hq:dS P X f (some cells) T (.gv 999999 0 s n) (some cells')) (M:T = .gv 1000000 0 B V::S.map AV.c) {bs':List (Nat×List AV)} (D:BT u bs=bs')
  (k:ai P X ops rest ((d,.gv d 0 s n)::env) ⟨(d,cells'.map AV.c)::bs',ts,d::us⟩ (⟨[],[d,u]⟩::acc) Q):ai P X ops (o::rest) env ⟨bs,ts,us⟩ acc Q:=by
 subst M D;exact ai.step (dj O) (bU.rq (σ:=⟨bs,ts,us⟩) p (Nat.blt_eq.mp N) A U q C Y hq) (Kc d u _) xu
theorem ai.qk (kn:List Nat) (T:cU ops.toList kn env o=some true) {f:FuncId} {args:Array Operand} {K:Array TypeId} (p:o.op = .call {callee := .value (.func f),args:=args,argTypes:=K})
  {x:Operand} (U:args.toList=[x]) {d:Nat} (H:o.dst=some d) {u B W:Nat} (O:aL X env x=some (.gv u 0 B W)) {cells cells':List CV} {D:List AV} (Y:ak u bs=some D) (C:D=cells.map AV.c)
  (hq:dI P X f [(1000000,cells.map AV.c)] [.gv 1000000 0 B W] (.c .undef) [(1000000,cells'.map AV.c)]) {bs':List (Nat×List AV)} (S:lZ [u] bs=bs')
  (k:ai P X ops rest ((d,.c .undef)::env) ⟨(u,cells'.map AV.c)::bs',ts,u::us⟩ (⟨[],[u,u,u]⟩::acc) Q):ai P X ops (o::rest) env ⟨bs,ts,us⟩ acc Q:=by
 subst S C;have A:gG (aL X env) args.toList=some [.gv u 0 B W]:=by rw[U];simp only[gG,O]
 have G:=bU.Gd (env:=env) (σ:=⟨bs,ts,us⟩) p A hq (bx:=[(1000000,u)]) (po:=[(u,1000000)]) (ψ:=fun _=>u) (nb:=[(u,cells'.map AV.c)]) (fun ts=>⟨_,_,rfl,⟨_,fe,rfl⟩,rfl⟩)
  (fun Ow P1 N q=>by
   have I:=ld N c9 Y;refine⟨rfl,?_,?_,?_,?_,?_,?_,?_⟩
   ·intro k kk e;simp only[au]at e;split at e
    ·simp at e;subst_vars;exact⟨c9,_,I⟩
    ·simp[ak]at e
   ·intro ts k cs e;simp only[au]at e;split at e
    ·simp at e;subst_vars;exact⟨u,_,fe,I,dz _⟩
    ·simp[ak]at e
   ·intro V M e;simp only[au]at e;split at e
    ·simp at e;subst_vars;exact⟨1000000,cells'.map AV.c,fe,fe,Xb⟩
    ·simp[ak]at e
   ·intro V ok e;simp only[au]at e;split at e
    ·rename_i h;exact h.symm
    ·simp[ak]at e
   ·intro k J;have E:=mem_iff.1 J;simp at E;subst E;exact⟨u,fe⟩
   ·intro V ok e;simp only[au]at e;split at e
    ·simp at e;subst_vars;exact .inl ⟨aak _,fe,fe⟩
    ·simp[ak]at e
   ·intro ok cs e;simp only[au]at e;split at e
    ·simp at e;subst_vars;exact vp _ _
    ·simp[ak]at e) rfl
 exact ai.step (dj T) G (wD _ _ _) xu
end
end Go.cq
namespace Go.cq
section
variable {P : Program} {X : Ctx}
theorem bU.Hl (hX:cx P X) {o:Oper} {env:Env} {σ:St} {args:Array Operand} {E:Array TypeId} (p:o.op = .call {callee := .builtin .append,args:=args,argTypes:=E})
  {xs y:Operand} (U:args.toList=[xs,y]) {t S:Nat} (Ax:E.toList=[t,S]) {i j M:TI} {e:Nat} (hi:X.ti t=some i) (hk:i.kind = .slice e) (hj:X.ti e=some j) (Q:X.ti S=some M) (I:kY M.kind=true)
  {s:Nat} (ha:aL X env xs=some (.own .exact s [])) {b:AV} (hb:aL X env y=some b) {s1:Nat} (W:mQ b=some (s1,[])) :
  bU P X o env σ (.own .exact s []) (fun σ=>σ) ⟨[],[]⟩:=by
 refine bU.val fun A w g V K ij H G=>?_;have D:∀x∈args.toList,x∈o.op.operands.toList:=by
  intro x hx;rw[p];simp only[Op.operands,Call.operands,Array.toList_append,List.mem_append];exact .inr hx
 have xP:aL X A xs=some (.own .exact s []):=by rw[K xs (D xs (by simp[U]))];exact ha
 have O:aL X A y=some b:=by rw[K y (D y (by simp[U]))];exact hb
 have C:=ct (a:=V) G H xP;have rB:=ct (a:=V) G H O;simp only[aK,pS]at C;obtain⟨base,len,cap,ex,Y,B,fM,T⟩:=C;simp only[aad]at Y;subst Y T;obtain⟨⟨news,u,n2,n3,n4⟩,n5⟩:=qg (P:=P) (w:=w) (t:=j.size) ij W (by simp only[fQ];split<;>rfl) rB;simp only[bI,bL]at u;subst u;obtain⟨dt,_,N,EU⟩:=hX.run_underlying (w:=w) hi;rw[hk]at N;simp only[eF]at N;subst N;obtain⟨d1,BV,Ga⟩:=zd hX Q (by unfold kY at I;exact I) w;obtain⟨inf,Uv,Ml,_⟩:=hX.ti e j hj;have xS:args = #[xs,y]:=by cases args;simp_all
 have Du:E = #[t,S]:=by cases E;simp_all
 have q:=kX (ty:=o.type) (w':=w) EU BV Ga Uv (base:=base) (sLen:=0) (sCap:=0) n5 WB (aak _) (by cases base<;>simp[storeCells]);refine⟨.slice base 0 0,?_,by simp only[aK,pS];exact⟨base,0,0,rfl,rfl,aak _,.inl rfl,rfl⟩⟩;obtain⟨dst,op,type,pos,J,guard⟩:=o;simp only at p q;subst p;subst xS Du;simp[execOp,resolve,invoke,builtin,ex,q,Result.andThen]
end
section
variable {P : Program} {X : Ctx} {ops : Array Oper} {o : Oper} {rest : List Oper} {env : Env} {acc : List Fp} {Q : Env -> St -> List Fp -> Prop} {bs : List (Nat × List AV)} {ts : List (Nat × Nat)} {us : List Nat} {σ : St}
theorem ai.Hl (hX:cx P X) (kn:List Nat) (T:cU ops.toList kn env o=some true) {args:Array Operand} {E:Array TypeId} (p:o.op = .call {callee := .builtin .append,args:=args,argTypes:=E})
  {xs y:Operand} (U:args.toList=[xs,y]) {t S:Nat} (O:E.toList=[t,S]) {d:Nat} (H:o.dst=some d) {i j V:TI} {e:Nat} (I:X.ti t=some i) (D:i.kind = .slice e) (N:X.ti e=some j) (Y:X.ti S=some V) (M:kY V.kind=true)
  {s:Nat} (u:aL X env xs=some (.own .exact s [])) {b:AV} (G:aL X env y=some b) {K:Nat} (W:mQ b=some (K,[]))
  (k:ai P X ops rest ((d,.own .exact s [])::env) σ (⟨[],[]⟩::acc) Q):ai P X ops (o::rest) env σ acc Q :=
 ai.step (dj T) (bU.Hl hX p U O I D N Y M u G W) (gR.id []) xu
theorem ai.xL (kn:List Nat) (U:cU ops.toList kn env o=some true) {f:FuncId} {args:Array Operand} {E:Array TypeId} (p:o.op = .call {callee := .value (.func f),args:=args,argTypes:=E})
  {Y:List AV} {r:AV} (hq:dI P X f [] Y r []) {d:Nat} (H:o.dst=some d) {l:List AV} (A:gG (aL X env) args.toList=some l) (T:∀ts,fu ⟨fun _=>none,fun _=>none⟩ ts Y l) (M:Mv [] r=true)
  {W:AV} (I:r.rn (fun k=>k)=W) (k:ai P X ops rest ((d,W)::env) ⟨bs,ts,us⟩ (⟨[],[]⟩::acc) Q):ai P X ops (o::rest) env ⟨bs,ts,us⟩ acc Q:=by
 subst I;have G:=bU.Gd (env:=env) (σ:=⟨bs,ts,us⟩) p A hq (bx:=[]) (po:=[]) (ψ:=fun k=>k) (nb:=[]) T
  (fun Ow P1 O N=>⟨rfl,fun k K e=>by simp[ak]at e,fun ts k cs e=>by simp[ak]at e,fun V S e=>by simp[ak]at e,fun V ok e=>by simp[ak]at e,fun k D=>by simp[mem]at D,fun V ok e=>by simp[ak]at e,fun ok cs e=>by simp[ak]at e⟩) M
 exact ai.step (dj U) G (wD _ _ _) xu
theorem ai.Su (kn:List Nat) (U:cU ops.toList kn env o=some true) {f:FuncId} {args:Array Operand} {K:Array TypeId} (p:o.op = .call {callee := .value (.func f),args:=args,argTypes:=K})
  {Y:List AV} {s n:Nat} {cells:List CV} (hq:dI P X f [] Y (.gv 999999 0 s n) [(999999,cells.map AV.c)]) {d:Nat} (H:o.dst=some d) (B:Nat.blt d 1000000=true) (A:mem d us=false) {l:List AV} (V:gG (aL X env) args.toList=some l) (T:∀ts,fu ⟨fun _=>none,fun _=>none⟩ ts Y l)
  (k:ai P X ops rest ((d,.gv d 0 s n)::env) ⟨(d,cells.map AV.c)::bs,ts,d::us⟩ (⟨[],[d,d]⟩::acc) Q):ai P X ops (o::rest) env ⟨bs,ts,us⟩ acc Q:=by
 have G:=bU.Gd (env:=env) (σ:=⟨bs,ts,us⟩) p V hq (bx:=[]) (po:=[(d,999999)]) (ψ:=fun _=>d) (nb:=[(d,cells.map AV.c)]) T
  (fun Ow P1 O S=>⟨rfl,fun k N e=>by simp[ak]at e,fun ts k cs e=>by simp[ak]at e,fun W M e=>by
    simp only[au]at e;split at e
    ·simp at e;subst_vars;exact⟨999999,cells.map AV.c,fe,fe,Xb⟩
    ·simp[ak]at e,fun W ok e=>by
    simp only[au]at e;split at e
    ·rename_i h;exact h.symm
    ·simp[ak]at e,fun k D=>by
    have E:=mem_iff.1 D;simp at E;subst E;exact⟨d,fe⟩,fun W ok e=>by
    simp only[au]at e;split at e
    ·simp at e;subst_vars;refine .inr ⟨fun h=>cS A ((S _ c9).1 h),Nat.blt_eq.mp B⟩
    ·simp[ak]at e,fun ok cs e=>by
    simp only[au]at e;split at e
    ·simp at e;subst_vars;exact vp _ _
    ·simp[ak]at e⟩) rfl
 exact ai.step (dj U) G (wD _ _ _) xu
end
section
variable {P : Program} {X : Ctx} {f : FuncId} {n : Nat} {β : jG} {R : Ending -> World -> Prop} {K : List Item} {env : Env}
def Em (a q:AV):Prop:=q=a\/∃B Y,a = .own .exact B []/\q = .own .exact Y []
theorem Em.rel:∀(g:Gh) (a q:AV) (v:Value),Em a q->aK g a v->aK g q v:=by
 rintro g a q v (rfl|⟨A,W,rfl,rfl⟩) h
 ·exact h
 ·simp only[aK,pS]at h ⊢;obtain⟨base,Y,I,C,U,B,_,K⟩:=h;exact⟨base,Y,I,C,U,B,.inl rfl,K⟩
theorem Em.one:∀(a q:AV),Em a q->a.one=true->q.one=true:=by
 rintro a q (rfl|⟨B,Y,rfl,rfl⟩) h
 ·exact h
 ·rfl
end
end Go.cq
namespace Go.cq
def Tc (U D Q:Nat) (k:Nat):Nat:=match Nat.beq k 1000000 with
 | true=>U
 | false=>match Nat.beq k 1000001 with
  | true=>D
  | false=>match Nat.beq k 1000002 with
   | true=>Q
   | false=>k
theorem aab {bs:List (Nat×List AV)} {us:List Nat} {c Y:Nat->Nat->List AV} (T:MC c) (K:MC Y) {s f P N:List CV} {U D Q:Nat} (W:distinct [U,D,Q]=true)
  (h1:ak U bs=some (c D Q)) (h2:ak D bs=some (s.map AV.c)) (O:ak Q bs=some (f.map AV.c)) :
  Z5 bs us (mI c s f) (mI Y P N) [(1000000,U),(1000001,D),(1000002,Q)] [(U,1000000),(D,1000001),(Q,1000002)] (Tc U D Q) [(U,Y D Q),(D,P.map AV.c),(Q,N.map AV.c)]:=by
 obtain⟨S,q,J⟩:=Ah W;refine⟨W,?_,?_,?_,?_,?_,?_,?_⟩
 ·intro k G e;simp only[au]at e;split at e
  ·simp_all
  ·split at e
   ·simp_all
   ·split at e
    ·simp_all
    ·simp[ak]at e
 ·intro ts k cs e;simp only[au]at e;split at e
  ·simp at e;subst_vars;exact⟨U,_,fe,h1,T.conv _ _ _ _ _ _ fe fe⟩
  ·split at e
   ·simp at e;subst_vars;exact⟨D,_,fe,h2,dz _⟩
   ·split at e
    ·simp at e;subst_vars;exact⟨Q,_,fe,O,dz _⟩
    ·simp[ak]at e
 ·intro V M e;simp only[au]at e;split at e
  ·simp at e;subst_vars;exact⟨1000000,Y 1000001 1000002,fe,fe,by rw[K.rn];rfl⟩
  ·split at e
   ·simp at e;subst_vars;exact⟨1000001,P.map AV.c,Ux,fe,Xb⟩
   ·split at e
    ·simp at e;subst_vars;exact⟨1000002,N.map AV.c,Mf,fe,Xb⟩
    ·simp[ak]at e
 ·intro V ok e;simp only[au]at e;split at e
  ·simp at e;subst_vars;rfl
  ·split at e
   ·simp at e;subst_vars;rfl
   ·split at e
    ·simp at e;subst_vars;rfl
    ·simp[ak]at e
 ·intro k I;have E:=mem_iff.1 I;simp at E;rcases E with rfl|rfl|rfl
  ·exact⟨U,fe⟩
  ·exact⟨D,Ux⟩
  ·exact⟨Q,Mf⟩
 ·intro V ok e;simp only[au]at e;split at e
  ·simp at e;subst_vars;exact .inl ⟨aak _,fe,fe⟩
  ·split at e
   ·simp at e;subst_vars;exact .inl ⟨cc,fe,fe⟩
   ·split at e
    ·simp at e;subst_vars;exact .inl ⟨cc,fe,fe⟩
    ·simp[ak]at e
 ·intro ok cs e;simp only[au]at e;split at e
  ·simp at e;subst_vars;exact K.ok _ _ _ rfl rfl
  ·split at e
   ·simp at e;subst_vars;exact vp _ _
   ·split at e
    ·simp at e;subst_vars;exact vp _ _
    ·simp[ak]at e
section
variable {P : Program} {X : Ctx} {ops : Array Oper} {o : Oper} {rest : List Oper} {env : Env} {acc : List Fp} {Q : Env -> St -> List Fp -> Prop} {bs : List (Nat × List AV)} {ts : List (Nat × Nat)} {us : List Nat}
theorem ai.XR (kn:List Nat) (K:cU ops.toList kn env o=some true) {f:FuncId} {args:Array Operand} {E:Array TypeId} (p:o.op = .call {callee := .value (.func f),args:=args,argTypes:=E})
  {c W:Nat->Nat->List AV} {s fr V Y:List CV} {S:List AV} {r:AV} (hq:dI P X f (mI c s fr) S r (mI W V Y)) (J:MC c) (H:MC W) {d:Nat} (B:o.dst=some d)
  {l:List AV} (A:gG (aL X env) args.toList=some l) {U:Nat} {u:List AV} (q:l = .ptr U 0::u) {D G:Nat} {O C N:List AV} (h1:ak U bs=some O) (e1:O=c D G) (h2:ak D bs=some C) (e2:C=s.map AV.c) (h3:ak G bs=some N) (e3:N=fr.map AV.c)
  (qA:∀ts,fu ⟨fun k=>ak k [(1000000,U),(1000001,D),(1000002,G)],fun _=>none⟩ ts S l) (ki:distinct [U,D,G]=true) (hr:Mv [1000000,1000001,1000002] r=true) {M:AV} (I:r.rn (Tc U D G)=M)
  {bs':List (Nat×List AV)} (ke:lZ [U,D,G] bs=bs')
  (k:ai P X ops rest ((d,M)::env) ⟨(U,W D G)::(D,V.map AV.c)::(G,Y.map AV.c)::bs',ts,U::D::G::us⟩ (⟨[],[U,D,G,U,D,G,U,D,G]⟩::acc) Q):ai P X ops (o::rest) env ⟨bs,ts,us⟩ acc Q:=by
 subst I ke e1 e2 e3;have hs:=bU.Gd (env:=env) (σ:=⟨bs,ts,us⟩) p A hq (bx:=[(1000000,U),(1000001,D),(1000002,G)]) (po:=[(U,1000000),(D,1000001),(G,1000002)]) (ψ:=Tc U D G) qA
  (fun Ow P1 T hu=>aab J H ki (ld T c9 h1) (ld T c9 h2) (ld T c9 h3)) hr
 exact ai.step (dj K) hs (wD _ _ _) (by rw[B];exact k)
end
end Go.cq
