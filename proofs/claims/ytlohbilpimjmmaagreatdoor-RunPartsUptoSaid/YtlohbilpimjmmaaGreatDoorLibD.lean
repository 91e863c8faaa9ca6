/- A layer of abstract values over the model, part D: A box of rows becomes memory that nobody writes. Calls that are given a slice over a block that may be written, or give one. Contracts of calls with slices over boxes: by a walk, and by what is known of the world. Slices told from nil, and condition -/
import Derived.Test.YtlohbilpimjmmaaGreatDoorLibC
import Derived.ArgAppend
import Derived.Lib.AppendZerosOnto
import Derived.Deep.AppendSrc
import Derived.Laws.IdiomCopy
import Derived.Lib.SliceRun
import Derived.Laws.Externs
set_option linter.unusedSimpArgs false
set_option linter.unusedVariables false
namespace Go.cu
def T7 (T:AV->AV->Prop):List AV->List AV->Prop
 | [],[]=>True
 | a::l,b::m=>T a b/\T7 T l m
 | _,_=>False
def Zd (T:AV->AV->Prop) (env:Env):Env->Prop
 | []=>True
 | (t,p)::l=>(∃a,ak t env=some a/\T a p)/\Zd T env l
def Zc (T:AV->AV->Prop) (bs:List (Nat×List AV)):List (Nat×List AV)->Prop
 | []=>True
 | (k,cells')::l=>(∃cells,ak k bs=some cells/\T7 T cells cells')/\Zc T bs l
def T8 (T s:Nat) (rows:List CV) (a p:AV):Prop:=p=a\/∃n,a = .gy T 0 s n/\n=rows.length/\p = .c (.sl s rows)
def Nil (a p:AV):Prop:=p=a\/∃S q,(a = .c (.sl S [])\/a = .own .exact S [])/\p = .c (.sl q [])
theorem Hr {T:AV->AV->Prop} {env:Env}:∀{env':Env},Zd T env env'->∀t p,ak t env'=some p->∃a,ak t env=some a/\T a p
 | [],_,t,p,e=>by simp[ak]at e
 | (Y,P)::l,⟨h1,h2⟩,t,p,e=>by
  simp only[aq]at e;split at e
  ·simp_all
  ·exact Hr h2 t p e
theorem jD {T:AV->AV->Prop} {bs:List (Nat×List AV)}:∀{bs':List (Nat×List AV)},Zc T bs bs'->∀k Y,ak k bs'=some Y->∃cs,ak k bs=some cs/\T7 T cs Y
 | [],_,t,a',e=>by simp[ak]at e
 | (W,P)::l,⟨h1,h2⟩,t,a',e=>by
  simp only[aq]at e;split at e
  ·simp_all
  ·exact jD h2 t a' e
theorem Od {T:Nat}:∀{bs:List (Nat×List AV)},(bs.all fun p => !Nat.beq p.1 T)=true->∀k cs,ak k bs=some cs->k≠T
 | [],_,k,cs,e=>by simp[ak]at e
 | (Y,P)::l,h,k,cs,e=>by
  simp only[List.all_cons,aaj]at h;simp only[aq]at e;split at e
  ·rename_i M;subst M;exact beq_false (by simpa using h.1)
  ·exact Od h.2 k cs e
section
variable {P : Program} {X : Ctx} {f : FuncId} {n : Nat} {β : jH} {R : Ending -> World -> Prop} {K : List Item} {env : Env}
theorem AK.BZ {bs:List (Nat×List AV)} {ts:List (Nat×Nat)} {us:List Nat} (T s:Nat) (rows:List CV) {cells tail:List AV} {env':Env} {bs':List (Nat×List AV)} {ts':List (Nat×Nat)}
  (q:ak T bs=some cells) (hc:cells=ag rows++tail) (hs:∀r∈rows,r.cells.length=s)
  (he:Zd (T8 T s rows) env env') (U:Zc (T8 T s rows) bs bs') (hk':(bs'.all fun p => !Nat.beq p.1 T)=true) (ht:Jv ts ts')
  (h:AK P X f n β R K env' ⟨bs',ts',us⟩):AK P X f n β R K env ⟨bs,ts,us⟩:=by
 intro g w a cs N;obtain⟨b,EB,QN,hb3,I⟩:=N.inv.box T cells q;let C:jm:=fun M o=>if M=b/\o<(bK rows).length then w.cell? ⟨b,o,none⟩else g.G M o
 let g':Gh:=⟨C,g.box,g.tok,g.room⟩
 have Mi:g.G.le C:=by
  intro M o v V;by_cases zG:M=b
  ·simp_all
  ·grind
 have hle:g.le g':=⟨Mi,fun _ _ x=>x,fun _ _ _=>rfl,fun k hw fU x=>⟨hw,fU,x,aam _,fun _=>rfl⟩⟩
 have S:∀M o,M≠b->g.G M o=none->C M o=none:=by grind
 rw[hc]at I;obtain⟨vs,v1,v2,v3⟩:=ov I;have hvl:=(bO.get v1).1;have iP:cO C b 0 (bK rows):=by
  refine mK (bO.mono Mi _ _ v1) (fun j u hj=>?_) v3;have hlt:j<vs.length:=(List.getElem?_eq_some_iff.1 hj).1;show(if b=b/\0+j<(bK rows).length then w.cell? ⟨b,0+j,none⟩else g.G b (0+j))=some u;rw[if_pos ⟨rfl,bn⟩];exact v2 j u hj
 have fP:ff C s b 0 rows:=o9.2 ⟨iP,hs⟩;have hF:∀a a' v,T8 T s rows a a'->aJ g a v->aJ g' a' v:=by
  rintro a a' v (rfl|⟨m,rfl,hm,rfl⟩) H
  ·exact aJ.mono hle _ _ H
  ·simp only[aJ]at H;obtain⟨M,cap,o,A,rfl,E,e3,e4⟩:=H;rw[EB]at A;cases A;simp only[aJ,Rel];refine⟨_,m,cap,rfl,hm,E,?_⟩;rcases e4 with e4|rfl
   ·simp_all
   ·grind
 have hCW:∀(l O:List AV) (M o:Nat),T7 (T8 T s rows) l O->cy w g M o l->cy w g' M o O:=by
  intro l
  induction l with
  | nil=>intro O M o h1 _;cases O with
   | nil=>trivial
   | cons x m=>simp[T7]at h1
  | cons x l ih=>intro O M o h1 h2;cases O with
   | nil=>simp[T7]at h1
   | cons y m =>
    obtain⟨J,h4⟩:=h1;obtain⟨⟨u,f1,f2,f3⟩,f4,f5⟩:=h2;refine⟨⟨u,f1,hF _ _ _ J f2,?_⟩,f4,ih m M (o+1) h4 f5⟩;rcases J with rfl|⟨m,rfl,hm,rfl⟩
    ·exact f3
    ·rfl
 have uZ:∀k cs M,k≠T->ak k bs=some cs->g.box k=some M->M≠b:=by
  rintro k cs M h1 h2 J rfl;exact h1 (N.inv.fF k T cs cells _ h2 q J EB)
 have hT:∀k m,ak k ts'=some m->ak k ts=some m:=fun k m e=>qb ht k m e;have D:Inv w g' ⟨bs',ts',us⟩:=by
  refine⟨?_,?_,?_,?_,?_,N.inv.used,?_⟩
  ·intro M o v V;simp only[g',C]at V;split at V
   ·simp_all
   ·exact N.inv.oF M o v V
  ·intro k W e;have h1:=Od hk' k W e;obtain⟨Y,h2,J⟩:=jD U k W e;obtain⟨M,f1,f2,f3,f4⟩:=N.inv.box k Y h2;exact⟨M,f1,f2,fun o=>S M o (uZ k Y M h1 h2 f1) (f3 o),hCW _ _ _ _ J f4⟩
  ·intro k k' x x' M e e' A E;obtain⟨Y,h2,_⟩:=jD U k x e;obtain⟨cs1,Ap,_⟩:=jD U k' x' e';exact N.inv.fF k k' Y cs1 M h2 Ap A E
  ·intro k m e;obtain⟨fU,A,E⟩:=N.inv.tok k m (hT k m e);refine⟨fU,A,fun M lo hi H=>?_⟩;obtain⟨e3,e4,e5⟩:=E M lo hi H;have zG:M≠b:=by rintro rfl;exact e5 T cells q EB
   refine⟨e3,fun o h1 h2=>?_,fun k' W e'=>?_⟩
   ·grind
   ·obtain⟨Y,h2,_⟩:=jD U k' W e';exact e5 k' Y h2
  ·intro k k' m m' M lo hi lo' hi' e e' A E;exact N.inv.gA k k' m m' M lo hi lo' hi' (hT k m e) (hT k' m' e') A E
  ·intro k W M e A o;obtain⟨Y,h2,_⟩:=jD U k W e;exact N.inv.room k Y M h2 A o
 have Q:gW w g ⟨bs,ts,us⟩ w g' ⟨bs',ts',us⟩:=by
  refine⟨rfl,rfl,rfl,aam _,fun _ _ _=>rfl,fun _ _ _ _=>⟨rfl,rfl⟩,Mi,?_,?_,?_,?_⟩
  ·intro M o v V;simp only[g',C]at V;split at V
   ·rename_i hh;obtain⟨rfl,_⟩:=hh;exact .inr (.inr (.inl ⟨T,cells,q,EB⟩))
   ·exact .inl V
  ·intro k W M e A;obtain⟨Y,h2,_⟩:=jD U k W e;exact .inr ⟨k,Y,h2,A⟩
  ·grind
  ·intro k _ e;cases B:ak k bs' with
   | none=>exact absurd B e
   | some W =>
    obtain⟨Y,h2,_⟩:=jD U k W B;exact⟨by show ak k bs≠none;rw[h2];simp,rfl,rfl⟩
 refine h g' w a cs ⟨D,?_,?_,N.frame.trans Q,N.size,N.defers⟩
 ·exact fun m v hm=>Rel.mono Mi _ _ (N.q8 m v hm)
 ·intro t x e;obtain⟨a0,h1,h2⟩:=Hr he t x e;exact hF _ _ _ h2 (N.env t a0 h1)
theorem AK.weak {bs:List (Nat×List AV)} {ts:List (Nat×Nat)} {us:List Nat} (T:AV->AV->Prop) (hT:∀g a C v,T a C->aJ g a v->aJ g C v) (h1:∀a C,T a C->a.one=true->C.one=true)
  {env':Env} {bs':List (Nat×List AV)} {ts':List (Nat×Nat)} (he:Zd T env env') (W:Zc T bs bs') (ht:Jv ts ts')
  (h:AK P X f n β R K env' ⟨bs',ts',us⟩):AK P X f n β R K env ⟨bs,ts,us⟩:=by
 intro g w a cs N;have J:∀(l G:List AV) (M o:Nat),T7 T l G->cy w g M o l->cy w g M o G:=by
  intro l
  induction l with
  | nil=>intro G M o h1 _;cases G with
   | nil=>trivial
   | cons x m=>simp[T7]at h1
  | cons x l ih=>intro G M o yW h2;cases G with
   | nil=>simp[T7]at yW
   | cons y m =>
    obtain⟨S,h4⟩:=yW;obtain⟨⟨u,I,H,D⟩,q,f5⟩:=h2;exact⟨⟨u,I,hT _ _ _ _ S H,h1 _ _ S D⟩,q,ih m M (o+1) h4 f5⟩
 have V:∀k m,ak k ts'=some m->ak k ts=some m:=fun k m e=>qb ht k m e;have Q:Inv w g ⟨bs',ts',us⟩:=by
  refine⟨N.inv.oF,?_,?_,?_,?_,N.inv.used,?_⟩
  ·intro k Y e;obtain⟨p,h2,S⟩:=jD W k Y e;obtain⟨M,I,H,D,q⟩:=N.inv.box k p h2;exact⟨M,I,H,D,J _ _ _ _ S q⟩
  ·intro k k' x x' M e e' A E;obtain⟨p,h2,_⟩:=jD W k x e;obtain⟨B,Ap,_⟩:=jD W k' x' e';exact N.inv.fF k k' p B M h2 Ap A E
  ·intro k m e;obtain⟨fU,A,E⟩:=N.inv.tok k m (V k m e);refine⟨fU,A,fun M lo hi hr=>?_⟩;obtain⟨e3,e4,e5⟩:=E M lo hi hr;refine⟨e3,e4,fun k' Y e'=>?_⟩;obtain⟨p,h2,_⟩:=jD W k' Y e';exact e5 k' p h2
  ·intro k k' m m' M lo hi lo' hi' e e' A E;exact N.inv.gA k k' m m' M lo hi lo' hi' (V k m e) (V k' m' e') A E
  ·intro k Y M e A o;obtain⟨p,h2,_⟩:=jD W k Y e;exact N.inv.room k p M h2 A o
 have U:gW w g ⟨bs,ts,us⟩ w g ⟨bs',ts',us⟩:=by
  refine⟨rfl,rfl,rfl,aam _,fun _ _ _=>rfl,fun _ _ _ _=>⟨rfl,rfl⟩,jm.le.refl _,fun _ _ _ h => .inl h,?_,?_,?_⟩
  ·intro k Y M e A;obtain⟨p,h2,_⟩:=jD W k Y e;exact .inr ⟨k,p,h2,A⟩
  ·grind
  ·intro k _ e;cases O:ak k bs' with
   | none=>exact absurd O e
   | some Y =>
    obtain⟨p,h2,_⟩:=jD W k Y O;exact⟨by show ak k bs≠none;rw[h2];simp,rfl,rfl⟩
 refine h g w a cs ⟨Q,N.q8,?_,N.frame.trans U,N.size,N.defers⟩;intro t x e;obtain⟨a0,h2,S⟩:=Hr he t x e;exact hT _ _ _ _ S (N.env t a0 h2)
theorem Nil.rel:∀(g:Gh) (a p:AV) (v:Value),Nil a p->aJ g a v->aJ g p v:=by
 rintro g a p v (rfl|⟨S,q,rfl|rfl,rfl⟩) hr
 ·exact hr
 ·simp only[aJ,Rel]at hr ⊢;obtain⟨base,V,E,e,h1,h2,_⟩:=hr;exact⟨base,V,E,e,h1,h2,.inl trivial⟩
 ·simp only[aJ,Rel]at hr ⊢;obtain⟨base,V,E,e,h1,h2,_⟩:=hr;exact⟨base,V,E,e,h1,h2,.inl trivial⟩
theorem Nil.one:∀(a p:AV),Nil a p->a.one=true->p.one=true:=by
 rintro a p (rfl|⟨S,q,rfl|rfl,rfl⟩) h
 ·exact h
 ·rfl
 ·rfl
theorem Bl {v:AV}:∀{o:Nat} {l:List AV},o<l.length->dL o [v] l=some (l.set o v)
 | _,[],h=>by simp at h
 | 0,x::l,_=>by simp[dL]
 | o+1,x::l,h=>by
  have:=Bl (v:=v) (o:=o) (l:=l) lp;simp only[dL,this,List.set_cons_succ]
end
end Go.cu
namespace Go.cu
def qt (k:Nat):Option (List CV)->St
 | none=>⟨[],[],[]⟩
 | some cells=>⟨[(k,cells.map AV.c)],[],[k]⟩
theorem wm {k p:Nat} {E:Option (List CV)} {cs:List AV} (h:ak p (qt k E).boxes=some cs):p=k/\∃cells,E=some cells/\cs=cells.map AV.c:=by
 cases E with
 | none=>simp[qt,ak]at h
 | some cells =>
  simp only[qt,aq]at h;split at h
  ·simp_all
  ·simp[ak]at h
theorem oz (k:Nat) (E:Option (List CV)):(qt k E).toks=[]:=by cases E<;>rfl
def GR (β:jH) (r:AV) (N:Option (List CV)):Ending->World->Prop:=fun e w' =>
 ∃u g',e = .returned u/\aJ g' r u/\Inv w' g' (qt 999999 N)/\gW β.w β.g β.σ w' g' (qt 999999 N)
def dN (P:Program) (X:Ctx) (f:FuncId) (E:Option (List CV)) (args:List AV) (r:AV) (N:Option (List CV)):Prop :=
 Enters P f/\∀(g:Gh) (w:World) (vs:List Value),Inv w g (qt 1000000 E)->nw X g.G->bH g args vs ->
  Calls P f vs.toArray w (GR ⟨w,g,qt 1000000 E⟩ r N)
theorem dD {ρ:Ren} {ts:List (Nat×Nat)}:∀(cs:List CV),fy ρ ts (cs.map AV.c) (cs.map AV.c)
 | []=>by simp[fy]
 | c::cs=>by
  simp only[List.map_cons,fy];exact⟨_,_,rfl,by simp[Conv],dD cs⟩
def rC (T:Option Nat):Ren:=⟨fun k=>if k=1000000 then T else none,fun _=>none⟩
theorem Mj {w:World} {g:Gh} {σ:St} (p:Inv w g σ) (T:Option Nat) (E:Option (List CV)) (h:∀cells,E=some cells->∃Y,T=some Y/\ak Y σ.boxes=some (cells.map AV.c)) (B:E=none->T=none) :
  Inv w (g.fY (rC T)) (qt 1000000 E):=by
 refine(p.fY (rC T) _ ?_ ?_ ?_ ?_ ?_).1
 ·intro k cs e;obtain⟨rfl,cells,A,rfl⟩:=wm e;obtain⟨Y,U,V⟩:=h cells A;exact⟨Y,_,by simp[rC,U],V,dD _⟩
 ·intro k k' H e e';simp only[rC]at e e';split at e
  ·simp_all
  ·simp at e
 ·intro k n e;rw[oz]at e;simp[ak]at e
 ·intro k k' m u H e;simp[rC]at e
 ·intro k e;simp only[rC,ne_eq,not_true,or_false]at e;by_cases D:k=1000000
  ·subst D;cases E with
   | none=>simp[B rfl]at e
   | some cells=>simp[qt]
  ·simp[D]at e
theorem SI {w w':World} {g g0 g':Gh} {σ Mk:St} (p:Inv w g σ) (h0G:g0.G=g.G) (h0t:Mk.toks=[]) (V:Option Nat)
  (h0:∀k cs b,ak k Mk.boxes=some cs->g0.box k=some b->∃Y T,V=some Y/\ak Y σ.boxes=some T/\g.box Y=some b)
  {bo:Option (List CV)} (J:Inv w' g' (qt 999999 bo)) (D:gW w g0 Mk w' g' (qt 999999 bo)) (U:St)
  (hd:(V=none/\U=σ)\/∃Y,V=some Y/\U=σ.eI Y) :
  let g1:Gh:=⟨g'.G,g.box,g.tok,g.room⟩
  Inv w' g1 U/\gW w g σ w' g1 U/\g.le g1 /\
   ∀cells,bo=some cells->∃b,g'.box 999999=some b/\b<w'.heap.size/\(∀o,g'.G b o=none)/\cy w' g1 b 0 (cells.map AV.c) /\
    (∀k cs,ak k U.boxes=some cs->g.box k≠some b)/\(∀k n b' S I,ak k U.toks=some n->g.tok k=some (n,some (b',S,I))->b'≠b) /\
    (w.heap.size<=b\/∃k0 O,ak k0 σ.boxes=some O/\g.box k0=some b)/\∀o,(o<g'.room 999999->∃u,w'.cell? ⟨b,o,none⟩=some u)/\w'.frozen? ⟨b,o,none⟩=false:=by
 intro g1;have own:∀b o,iJ g0 Mk b o->∃Y T,V=some Y/\ak Y σ.boxes=some T/\g.box Y=some b:=by
  rintro b o (⟨k,cs,A,E⟩|⟨k,n,S,I,A,_⟩)
  ·exact h0 k cs b A E
  ·rw[h0t]at A;simp[ak]at A
 have F3:∀b o,iJ g0 Mk b o->iJ g σ b o:=by
  intro b o h;obtain⟨Y,T,_,A,E⟩:=own b o h;exact .inl ⟨Y,T,A,E⟩
 have N:∀k cs,ak k U.boxes=some cs->ak k σ.boxes=some cs/\V≠some k:=by
  intro k cs e;rcases hd with ⟨rfl,rfl⟩|⟨Y,rfl,rfl⟩
  ·exact⟨e,cn⟩
  ·simp only[St.eI,jO]at e;split at e
   ·simp at e
   ·grind
 have XA:U.toks=σ.toks:=by rcases hd with ⟨_,rfl⟩|⟨Y,_,rfl⟩<;>rfl
 have ZQ:U.used=σ.used:=by rcases hd with ⟨_,rfl⟩|⟨Y,_,rfl⟩<;>rfl
 have SJ:∀k cs b,ak k U.boxes=some cs->g.box k=some b->∀o,¬iJ g0 Mk b o:=by
  intro k cs b e W o q;obtain⟨Y,T,A,E,e3⟩:=own b o q;obtain⟨e4,e5⟩:=N k cs e;have:=p.fF k Y cs T b e4 E W e3;subst this;exact e5 A
 have B:g.le g1:=⟨fun b o v h=>D.le b o v (by rw[h0G];exact h),fun _ _ h=>h,fun _ _ _=>rfl,fun k hw fU h=>⟨hw,fU,h,aam _,fun _=>rfl⟩⟩
 have Q:∀b o,b<w.heap.size->¬iJ g0 Mk b o->g.G b o=none->g'.G b o=none:=by
  intro b o W C h;cases hg:g'.G b o with
  | none=>rfl
  | some v =>
   rcases D.new b o v hg with h'|h'|h'
   ·simp_all
   ·omega
   ·exact absurd h' C
 have XB:∀k n b S I,ak k σ.toks=some n->g.tok k=some (n,some (b,S,I))->∀o,¬iJ g0 Mk b o:=by
  intro k n b S I e A o q;obtain⟨fU,P,f2⟩:=p.tok k n e;rw[A]at P;simp at P;subst P;obtain⟨Y,T,_,E,e3⟩:=own b o q;exact(f2 b S I rfl).2.2 Y T E e3
 refine⟨⟨J.oF,?_,?_,?_,?_,?_,?_⟩,⟨D.os,D.tape,D.output,D.size,fun b W C=>D.block b W (fun o q=>C o (F3 b o q)),fun b o W C=>D.kept b o W (fun q=>C (F3 b o q)),?_,?_,?_,?_,?_⟩,B,?_⟩
 ·intro k cs e;obtain⟨e0,_⟩:=N k cs e;obtain⟨b,H,M,b3,b4⟩:=p.box k cs e0;have C:=SJ k cs b e H;exact⟨b,H,Nat.lt_of_lt_of_le M D.size,fun o=>Q b o M (C o) (b3 o),(cy.of_same (fun o=>D.kept b o M (C o)) b4).mono B⟩
 ·intro k k' cs T b e e';exact p.fF k k' cs T b (N k cs e).1 (N k' T e').1
 ·intro k n e;rw[XA]at e;obtain⟨fU,h1,h2⟩:=p.tok k n e;refine⟨fU,h1,fun b S I hr=>?_⟩;obtain⟨K,h4,h5⟩:=h2 b S I hr;subst hr;refine⟨Nat.lt_of_lt_of_le K D.size,fun o IK Lq=>?_,fun k' cs e'=>h5 k' cs (N k' cs e').1⟩;obtain⟨h6,⟨u,h7⟩,h8⟩:=h4 o IK Lq;have C:=XB k n b S I e h1 o;exact⟨Q b o K C h6,⟨u,(D.kept b o K C).1.trans h7⟩,(D.kept b o K C).2.trans h8⟩
 ·rw[XA];exact p.gA
 ·rw[ZQ];exact p.used
 ·intro k cs b e W o;obtain⟨e0,_⟩:=N k cs e;obtain⟨b',H,M,_⟩:=p.box k cs e0;rw[W]at H;cases H;have C:=SJ k cs b e W o;obtain⟨q1,q2⟩:=p.room k cs b e0 W o;exact⟨fun q=>(q1 q).imp fun u hu=>(D.kept b o M C).1.trans hu,(D.kept b o M C).2.trans q2⟩
 ·exact B.1
 ·intro b o v h;rcases D.new b o v h with h'|h'|h'
  ·simp_all
  ·exact .inr (.inl h')
  ·simp_all
 ·grind
 ·grind
 ·intro k _ e;cases hc:ak k U.boxes with
  | none=>exact absurd hc e
  | some cs=>exact⟨by rw[(N k cs hc).1];simp,rfl,rfl⟩
 ·rintro cells rfl;have hg:ak 999999 (qt 999999 (some cells)).boxes=some (cells.map AV.c):=by simp[qt,aq]
  obtain⟨b,H,M,b3,b4⟩:=J.box 999999 _ hg;have hor:=D.boxes 999999 _ b hg H;refine⟨b,H,M,b3,?_,?_,?_,?_,J.room 999999 _ b hg H⟩
  ·have:∀(l:List CV) (o:Nat),cy w' g' b o (l.map AV.c)->cy w' g1 b o (l.map AV.c):=by
    intro l
    induction l with
    | nil=>intro o _;trivial
    | cons c l ih =>
     intro o h;obtain⟨⟨u,h1,h2,K⟩,h4,h5⟩:=h;exact⟨⟨u,h1,uH,K⟩,h4,ih _ h5⟩
   exact this _ _ b4
  ·intro k cs e W;obtain⟨e0,A⟩:=N k cs e;obtain⟨b',P,f2,_⟩:=p.box k cs e0;rw[W]at P;cases P;rcases hor with h|⟨k0,O,h1,h2⟩
   ·omega
   ·obtain⟨Y,T,K,h4,h5⟩:=h0 k0 O b h1 h2;have:=p.fF k Y cs T b e0 h4 W h5;subst this;exact A K
  ·rintro k n b' S I e A rfl;rw[XA]at e;obtain⟨fU,P,f2⟩:=p.tok k n e;rw[A]at P;simp at P;subst P;obtain⟨f3,_,f5⟩:=f2 _ S I rfl;rcases hor with h|⟨k0,O,h1,h2⟩
   ·omega
   ·grind
  ·grind
theorem SK {P w:World} {g0 g:Gh} {Mk σ:St} (p:Inv w g σ) (D:gW P g0 Mk w g σ) {d:Nat} (hd:d ∉ σ.used) (jo:d<1000000) {b R:Nat} {cells:List AV} (hb:b<w.heap.size) (hG:∀o,g.G b o=none) (hc:cy w g b 0 cells)
  (zS:∀k cs,ak k σ.boxes=some cs->g.box k≠some b) (BW:∀k n M S U,ak k σ.toks=some n->g.tok k=some (n,some (M,S,U))->M≠b)
  (B:P.heap.size<=b\/∃q O,ak q Mk.boxes=some O/\g0.box q=some b) (N:∀o,(o<R->∃u,w.cell? ⟨b,o,none⟩=some u)/\w.frozen? ⟨b,o,none⟩=false) :
  let g':Gh:=⟨g.G,fun k=>if k=d then some b else g.box k,g.tok,fun k=>if k=d then R else g.room k⟩
  Inv w g' (σ.dY d cells)/\gW P g0 Mk w g' (σ.dY d cells)/\g.le g':=by
 intro g';have Sw:g.box d=none:=by
  cases h:g.box d with
  | none=>rfl
  | some x=>exact absurd (p.used d (.inl nt)) hd
 have Q:g.le g':=by
  refine⟨jm.le.refl _,fun k x h=>?_,fun k x h=>?_,fun k hw C h=>⟨hw,C,h,aam _,fun _=>rfl⟩⟩
  ·grind
  ·grind
 have I:∀k cs,ak k (σ.dY d cells).boxes=some cs->(k=d/\cs=cells)\/(k≠d/\ak k σ.boxes=some cs):=by
  intro k cs e;simp only[St.dY,aq]at e;split at e
  ·simp_all
  ·simp_all
 refine⟨⟨p.oF,?_,?_,?_,p.gA,?_,?_⟩,⟨D.os,D.tape,D.output,D.size,D.block,D.kept,D.le,D.new,?_,D.toks,?_⟩,Q⟩
 ·intro k cs e;rcases I k cs e with ⟨rfl,rfl⟩|⟨h1,h2⟩
  ·exact⟨b,WK,hb,hG,hc.mono Q⟩
  ·obtain⟨M,K,J,H,f4⟩:=p.box k cs h2;exact⟨M,by simp[g',h1,K],J,H,f4.mono Q⟩
 ·intro k k' cs T M e e' A E;simp only[g']at A E;rcases I k cs e with ⟨rfl,rfl⟩|⟨h1,h2⟩
  ·grind
  ·rw[if_neg h1]at A;rcases I k' T e' with ⟨rfl,rfl⟩|⟨yW,Ap⟩
   ·simp_all
   ·rw[if_neg yW]at E;exact p.fF k k' cs T M h2 Ap A E
 ·intro k n e;obtain⟨C,A,E⟩:=p.tok k n e;refine⟨C,A,fun M S U Y=>?_⟩;obtain⟨e3,e4,e5⟩:=E M S U Y;subst Y;have zG:=BW k n M S U e A;refine⟨e3,e4,fun k' cs e'=>?_⟩;simp only[g'];rcases I k' cs e' with ⟨rfl,rfl⟩|⟨h1,h2⟩
  ·grind
  ·simp_all
 ·intro k e;show k∈d::σ.used;by_cases W:k=d
  ·simp[W]
  ·simp only[List.mem_cons];right;apply p.used k;simpa[g',W]using e
 ·intro k cs M e A o;simp only[g']at A ⊢;rcases I k cs e with ⟨rfl,rfl⟩|⟨h1,h2⟩
  ·simp_all
  ·rw[if_neg h1]at A;rw[if_neg h1];exact p.room k cs M h2 A o
 ·intro k cs M e A;simp only[g']at A;rcases I k cs e with ⟨rfl,rfl⟩|⟨h1,h2⟩
  ·simp_all
  ·rw[if_neg h1]at A;exact D.boxes k cs M h2 A
 ·intro k wQ e;cases V:ak k (σ.dY d cells).boxes with
  | none=>exact absurd V e
  | some cs =>
   rcases I k cs V with ⟨rfl,rfl⟩|⟨h1,h2⟩
   ·omega
   ·obtain⟨K,J,H⟩:=D.ids k wQ (by rw[h2];simp);exact⟨K,by simp[g',h1,J],by simp[g',h1,H]⟩
section
variable {P : Program} {X : Ctx}
theorem JR (T:Nat):gX (fun σ=>σ.eI T) ⟨[],[T]⟩ where
 out:=fun σ k D=>by
  simp at D;refine⟨?_,rfl,Iff.rfl⟩;simp only[St.eI,jO];rw[if_neg D]
 same:=fun σ G h k D=>by
  obtain⟨h1,h2,V⟩:=h k (.inr D);refine⟨?_,h2,V⟩;simp only[St.eI,jO];split
  ·rfl
  ·exact h1
theorem bW.lz {o:Oper} {env:Env} {σ:St} {f:FuncId} {args:Array Operand} {B:Array TypeId} (q:o.op = .call {callee := .value (.func f),args:=args,argTypes:=B})
  {d:Nat} (T:d<1000000) (S:mem d σ.used=false) {W:List CV} (C:hJ (aK X env) args.toList=some W) {s n:Nat} {cells:List CV} (hq:dN P X f none (W.map AV.c) (.gy 999999 0 s n) (some cells)) :
  bW P X o env σ (.gy d 0 s n) (fun σ=>σ.dY d (cells.map AV.c)) ⟨[],[d]⟩:=by
 intro N G w g a next Q h1 h2 p H K Y;have D:hJ (aK X N) args.toList=some W:=by
  rw[jB _ (fun x O=>h1 x (by rw[q];simp only[Op.operands,Call.operands,Array.toList_append,List.mem_append];exact .inr O))];exact C
 have fW:=nC (g:=g) (ev:=a.eval) (fun x v O=>cz K H O) D;have J:(execOp a.eval o).run P w = .ok (.enter f (args.map a.eval)) w:=by
  obtain⟨dst,op,I,pos,V,guard⟩:=o;simp only at q;subst q;simp[execOp,resolve,Deferred.ofValue,invoke,Act.eval,hq.1 _ w]
 unfold Oper.wp;rw[J,Oper.upon_enter];have M:=Mj p none none (fun _ h=>by cases h) (fun _=>rfl);have:=hq.2 (g.fY (rC none)) w (args.toList.map a.eval) M H (oS (g:=g.fY (rC none)) fW);rw[show(args.toList.map a.eval).toArray=args.map a.eval from by rw[<- Array.toList_map]]at this;refine this.mono ?_;rintro e w' ⟨u,g',rfl,U,h4,h5⟩;obtain⟨k1,k2,k3,k4⟩:=SI (g0:=g.fY (rC none)) (Mk:=qt 1000000 none) p rfl (oz _ _) none (fun k cs b e=>by simp[qt,ak]at e) h4 h5 G (.inl ⟨rfl,rfl⟩);obtain⟨b,c1,c2,c3,c4,c5,c6,c7,c8⟩:=k4 cells rfl;have SH:d ∉ G.used:=fun h=>cS S ((h2 d (.inr cn)).2.2.1 h);obtain⟨p1,p2,p3⟩:=SK k1 k2 SH T c2 c3 c4 c5 c6 c7 c8;refine Y u w' _ ?_ p1 p2 (k3.trans p3);simp only[aJ]at U ⊢;obtain⟨b',E,oo,A,e2,e3,e4,e5⟩:=U;rw[c1]at A;cases A;exact⟨b,E,oo,cn,e2,e3,by simpa using e4,e5⟩
theorem bW.GG {o:Oper} {env:Env} {σ:St} {f:FuncId} {args:Array Operand} {B:Array TypeId} (U:o.op = .call {callee := .value (.func f),args:=args,argTypes:=B})
  {x:Operand} {rest:List Operand} (p:args.toList=x::rest) {T S O:Nat} (N:aK X env x=some (.gy T 0 S O)) {M:List CV} (ha:hJ (aK X env) rest=some M)
  {cells:List CV} (q:ak T σ.boxes=some (cells.map AV.c)) {v:CV} (hq:dN P X f (some cells) (.gy 1000000 0 S O::M.map AV.c) (.c v) none) :
  bW P X o env σ (.c v) (fun σ=>σ.eI T) ⟨[],[T]⟩:=by
 intro cW G w g a next Q h1 h2 W H di Y;have qf:∀y∈args.toList,y∈o.op.operands.toList:=by
  intro y K;rw[U];simp only[Op.operands,Call.operands,Array.toList_append,List.mem_append];exact .inr K
 have xI:hJ (aK X cW) rest=some M:=by
  rw[jB _ (fun y K=>h1 y (qf y (by rw[p];exact List.mem_cons_of_mem _ K)))];exact ha
 have I:aK X cW x=some (.gy T 0 S O):=by rw[h1 x (qf x (by simp[p]))];exact N
 have fW:=nC (g:=g) (ev:=a.eval) (fun x v N=>cz di H N) xI;have ZR:=cz (a:=a) di H I;have JS:ak T G.boxes=some (cells.map AV.c):=by rw[(h2 T (.inr cn)).1];exact q
 have J:(execOp a.eval o).run P w = .ok (.enter f (args.map a.eval)) w:=by
  obtain⟨dst,op,type,pos,E,guard⟩:=o;simp only at U;subst U;simp[execOp,resolve,Deferred.ofValue,invoke,Act.eval,hq.1 _ w]
 unfold Oper.wp;rw[J,Oper.upon_enter];have D:=Mj W (some T) (some cells) (fun _ h=>by cases h;exact⟨T,rfl,JS⟩) (fun h=>by cases h);have Xy:∀V,(g.fY (rC (some T))).box V=if V=1000000 then g.box T else none:=by
  intro V;by_cases h:V=1000000<;>simp[Gh.fY,rC,h]
 have:=hq.2 (g.fY (rC (some T))) w (args.toList.map a.eval) D H (by
  rw[p];simp only[List.map_cons,bH];refine⟨_,_,rfl,?_,oS (g:=g.fY (rC (some T))) fW⟩;simp only[aJ]at ZR ⊢;obtain⟨b,C,oo,A,e2,e3,e4,e5⟩:=ZR
  exact⟨b,C,oo,by rw[Xy];simpa using A,e2,e3,by simpa[Gh.fY,rC]using e4,e5⟩)
 rw[show(args.toList.map a.eval).toArray=args.map a.eval from by rw[<- Array.toList_map]]at this;refine this.mono ?_;rintro e w' ⟨u,g',rfl,h3,h4,h5⟩
 obtain⟨k1,k2,k3,_⟩:=SI (g0:=g.fY (rC (some T))) (Mk:=qt 1000000 (some cells)) W rfl (oz _ _) (some T) (fun k cs b e A=>by
  obtain⟨rfl,_⟩:=wm e;rw[Xy]at A
  exact⟨T,_,rfl,JS,by simpa using A⟩) h4 h5 (G.eI T) (.inr ⟨T,rfl,rfl⟩)
 exact Y u w' _ Wt k1 k2 k3
end
section
variable {P : Program} {X : Ctx} {ops : Array Oper} {o : Oper} {rest : List Oper} {env : Env} {acc : List Fp} {Q : Env -> St -> List Fp -> Prop} {bs : List (Nat × List AV)} {ts : List (Nat × Nat)} {us : List Nat} {σ : St}
theorem ai.lz (kn:List Nat) (W:cV ops.toList kn env o=some true) {f:FuncId} {args:Array Operand} {B:Array TypeId} (q:o.op = .call {callee := .value (.func f),args:=args,argTypes:=B})
  {d:Nat} (H:o.dst=some d) (V:Nat.blt d 1000000=true) (A:mem d us=false) {p:List CV} (C:hJ (aK X env) args.toList=some p) {s n:Nat} {cells:List CV} {Y:List AV} (hq:dN P X f none Y (.gy 999999 0 s n) (some cells)) (U:Y=p.map AV.c)
  (k:ai P X ops rest ((d,.gy d 0 s n)::env) ⟨(d,cells.map AV.c)::bs,ts,d::us⟩ (⟨[],[d]⟩::acc) Q):ai P X ops (o::rest) env ⟨bs,ts,us⟩ acc Q:=by
 subst U;exact ai.step (dx W) (bW.lz (σ:=⟨bs,ts,us⟩) q (Nat.blt_eq.mp V) A C hq) (pX d _) JT
theorem ai.GG (kn:List Nat) (U:cV ops.toList kn env o=some true) {f:FuncId} {args:Array Operand} {B:Array TypeId} (O:o.op = .call {callee := .value (.func f),args:=args,argTypes:=B})
  {x:Operand} {Y:List Operand} (p:args.toList=x::Y) {d:Nat} (H:o.dst=some d) {T S W:Nat} (N:aK X env x=some (.gy T 0 S W)) {u:List CV} (C:hJ (aK X env) Y=some u)
  {cells:List CV} (q:ak T bs=some (cells.map AV.c)) {v:CV} {V:List AV} (hq:dN P X f (some cells) V (.c v) none) (M:V = .gy 1000000 0 S W::u.map AV.c) {bs':List (Nat×List AV)} (K:BN T bs=bs')
  (k:ai P X ops rest ((d,.c v)::env) ⟨bs',ts,us⟩ (⟨[],[T]⟩::acc) Q):ai P X ops (o::rest) env ⟨bs,ts,us⟩ acc Q:=by
 subst M K;exact ai.step (dx U) (bW.GG (σ:=⟨bs,ts,us⟩) O p N C q hq) (JR T) JT
end
end Go.cu
namespace Go.cu
theorem dN.of {P:Program} {X:Ctx} {f:FuncId} {T:Func} {c:Code} {E N:Option (List CV)} {args:List AV} {r:AV} (hf:P.funcs[f]?=some T) (S:T.body=some c) (Q:Enters P f)
  (C:args.length<=T.ntmps) (env:Env) (σ:St) (J:env=(args.zipIdx.map fun(v,i)=>(i,v))) (Y:qt 1000000 E=σ)
  (h:∀β,AK P X f T.ntmps β (GR β r N) [.code c] env σ):dN P X f E args r N:=by
 subst Y;refine⟨Q,fun g w vs p O V cs=>?_⟩;have U:=(bH.get V).1;have M:Live X ⟨w,g,qt 1000000 E⟩ T.ntmps env (qt 1000000 E) g w {tmps:=vs.toArray++Array.replicate (T.ntmps-vs.toArray.size) undef,defers:=[]}:=by
  refine⟨p,O,?_,gW.refl _ _ _,?_,rfl⟩
  ·intro t a e;subst J;have W:∀(l:List AV) (us:List Value) (k:Nat),bH g l us->ak t ((l.zipIdx k).map fun(v,i)=>(i,v))=some a->k<=t/\∃u,us[t-k]?=some u/\aJ g a u:=by
    intro l
    induction l with
    | nil=>intro us k _ e;simp[ak]at e
    | cons v l B =>
     intro us k I e;simp only[bH]at I;obtain⟨u,us,rfl,h1,h2⟩:=I;simp only[List.zipIdx_cons,List.map_cons,aq]at e;split at e
     ·simp_all
     ·grind
   obtain⟨_,u,D,q⟩:=W args vs 0 V e;simp at D;have H:t<vs.length:=(List.getElem?_eq_some_iff.1 D).1;have:(vs.toArray++Array.replicate (T.ntmps-vs.toArray.size) undef).getD t undef=u:=by
    rw[Array.getD_eq_getD_getElem?,Array.getElem?_append_left (by simpa using H)];simp[D]
   rw[this];exact q
  ·simp;omega
 obtain⟨e,w',fr,h1,D,q,K⟩:=h ⟨w,g,qt 1000000 E⟩ g w _ cs M;have G:Frame.enter P f vs.toArray .normal =
   (top f).at {tmps:=vs.toArray++Array.replicate (T.ntmps-vs.toArray.size) undef,defers:=[]} [.code c]:=by
  simp[Frame.enter,Frame.at,hf,S,top]
 exact⟨_,w',fr,h1,by rw[G];exact D,q,K⟩
section
variable {P : Program} {X : Ctx} {f : FuncId} {n : Nat} {β : jH} {K : List Item} {env : Env}
theorem AK.WR (hX:cC P X) {Y:Func} (hf:P.funcs[f]?=some Y) {bs:List (Nat×List AV)} {ts:List (Nat×Nat)} {us:List Nat} {T s m:Nat} {cells:List CV} {cs:List AV}
  (I:s8 X bs env Y.results.toList=some [.gy T 0 s m]) (p:ak T bs=some cs) (W:cs=cells.map AV.c):AK P X f n β (GR β (.gy 999999 0 s m) (some cells)) (.code .ret::K) env ⟨bs,ts,us⟩:=by
 subst W;intro g w a cs N;obtain⟨u,S,V⟩:=oR hX N I
 obtain⟨Q,O⟩:=N.inv.fY ⟨fun k=>if k=999999 then some T else none,fun _=>none⟩ (qt 999999 (some cells)) (by
   intro k c e;obtain⟨rfl,q,A,rfl⟩:=wm e;cases A;exact⟨T,_,cn,p,dD _⟩) (by
   intro k k' H e e';simp only at e e';split at e
   ·simp_all
   ·simp at e) (by
   intro k n e;rw[oz]at e;simp[ak]at e) (by intro k k' m m' H e;simp at e) (by
   intro k e;simp only[ne_eq,not_true,or_false]at e;by_cases D:k=999999
   ·subst D;simp[qt]
   ·simp[D]at e)
 refine⟨.returned u,w,_,⟨u,_,rfl,?_,Q,N.frame.trans (O fun k D e=>?_)⟩,.one step_ret,rfl,rfl,N.defers,rfl,Y,hf,S⟩
 ·simp only[aJ]at V ⊢;obtain⟨b,E,M,A,J,B,G,C⟩:=V;exact⟨b,E,M,by simpa[Gh.fY]using A,J,B,by simpa[Gh.fY]using G,C⟩
 ·cases U:ak k (qt 999999 (some cells)).boxes with
  | none=>exact absurd U e
  | some c=>obtain⟨rfl,_⟩:=wm U;omega
end
theorem AB {g:Gh}:∀{cs:List CV} {vs:List Value},bH g (cs.map AV.c) vs->bO g.G cs vs
 | [],vs,h=>by simpa[bH,bO]using h
 | c::cs,vs,h=>by
  simp only[List.map_cons,bH]at h;obtain⟨u,us,rfl,h1,h2⟩:=h;simp only[bO];exact⟨u,us,rfl,RI,AB h2⟩
structure NP (w:World) (b:Nat) (w':World) (b':Nat) (news:List Value):Prop where
 os:w'.os=w.os
 tape:w'.tape=w.tape
 output:w'.output=w.output
 size:w.heap.size<=w'.heap.size
 blk:b'=b\/w.heap.size<=b'
 cells:∀(j:Nat) u,news[j]?=some u->w'.cell? ⟨b',j,none⟩=some u
 rest:∀b2,b2<w.heap.size->b2≠b->w'.heap[b2]?=w.heap[b2]?
theorem tu {w w':World} {b:Nat} (h:w'.heap[b]?=w.heap[b]?) (o:Nat):w'.cell? ⟨b,o,none⟩=w.cell? ⟨b,o,none⟩:=by
 unfold World.cell?;simp only[h]
theorem zd {w w':World} {b:Nat} (h:w'.heap[b]?=w.heap[b]?) (o:Nat):w'.frozen? ⟨b,o,none⟩=w.frozen? ⟨b,o,none⟩:=by
 unfold World.frozen?;simp only[h]
theorem C6 {w:World} {b o:Nat} {v:Value} (h:w.cell? ⟨b,o,none⟩=some v):b<w.heap.size:=by
 rcases Nat.lt_or_ge b w.heap.size with Y|Y
 ·exact Y
 ·simp[World.cell?,Array.getElem?_eq_none Y]at h
theorem dN.raw {P:Program} {X:Ctx} {f:FuncId} {cells:List CV} {s Q:Nat} {J:List CV} (he:Enters P f) (h0:0<Q) {rows:List CV} (N:∀r∈rows,r.cells.length=s) (S:(bK rows).all CV.one=true)
  (h:∀(w:World) (G:jm) (b E:Nat) (vs us:List Value),b<w.heap.size->(∀o,G b o=none)->(∀b o v,G b o=some v->w.cell? ⟨b,o,none⟩=some v)->bO G cells vs ->
   (∀(j:Nat) u,vs[j]?=some u->w.cell? ⟨b,j,none⟩=some u)->cells.all CV.one=true->Q<=E->(∀o,(o<E*s->∃u,w.cell? ⟨b,o,none⟩=some u)/\w.frozen? ⟨b,o,none⟩=false)->bO G J us ->
   ∃news,bO G (bK rows) news/\Calls P f (.slice (some ⟨b,0,none⟩) Q E::us).toArray w fun e w'=>∃M W,e = .returned (.slice (some ⟨M,0,none⟩) rows.length W)/\rows.length<=W/\NP w b w' M news) :
  dN P X f (some cells) (.gy 1000000 0 s Q::J.map AV.c) (.c (.sl s rows)) none:=by
 refine⟨he,fun g w vs p cD D=>?_⟩;simp only[bH]at D;obtain⟨u,us,rfl,I,pR⟩:=D;simp only[aJ]at I;obtain⟨b,E,o,A,rfl,e2,e3,e4⟩:=I;have q:o=some ⟨b,0,none⟩:=by grind
 subst q;have K:ak 1000000 (qt 1000000 (some cells)).boxes=some (cells.map AV.c):=by simp[qt,aq]
 obtain⟨M,H,c2,c3,c4⟩:=p.box 1000000 _ K;rw[A]at H;cases H;obtain⟨vs,v1,v2,v3⟩:=ov (tail:=[]) (by simpa using c4);have U:=p.room 1000000 _ b K A;obtain⟨news,n1,hc⟩:=h w g.G b E vs us c2 c3 p.oF v1 (fun j u O=>by have:=v2 j u O;rwa[Nat.zero_add]at this) v3 e2 (fun o=>⟨fun q=>(U o).1 bn,(U o).2⟩) (AB pR);refine hc.mono ?_;rintro e w' ⟨M,W,rfl,SL,R⟩;let C:jm:=fun T o=>if T=M then(if o<(bK rows).length then w'.cell? ⟨M,o,none⟩else none)else g.G T o
 have SM:∀T o v,g.G T o=some v->T≠b/\T<w.heap.size/\T≠M:=by
  intro T o v Y;have h1:T≠b:=by rintro rfl;rw[c3]at Y;simp at Y
  have h2:=C6 (p.oF T o v Y);refine⟨h1,h2,?_⟩;rintro rfl;rcases R.blk with h|h
  ·exact h1 h
  ·omega
 have Mi:g.G.le C:=by
  intro T o v Y;simp only[C,(SM T o v Y).2.2,if_false];exact Y
 have ir:∀T o v,C T o=some v->w'.cell? ⟨T,o,none⟩=some v:=by
  intro T o v Y;simp only[C]at Y;split at Y
  ·simp_all
  ·obtain⟨h1,h2,_⟩:=SM T o v Y;rw[tu (R.rest T h2 h1)];exact p.oF T o v Y
 have N7:=(bO.get n1).1
 have fP:ff C s M 0 rows:=o9.2 ⟨mK (bO.mono Mi _ _ n1) (fun j u O=>by
  have hlt:j<news.length:=(List.getElem?_eq_some_iff.1 O).1;simp only[C,if_pos,Nat.zero_add];rw[if_pos bn]
  exact R.cells j u O) S,N⟩
 refine⟨_,⟨C,fun _=>none,fun _=>none,fun _=>0⟩,rfl,?_,?_,?_⟩
 ·simp only[aJ,Rel];exact⟨_,_,_,rfl,rfl,SL,.inr ⟨M,0,rfl,fP⟩⟩
 ·exact⟨ir,fun k cs e=>by simp[qt,ak]at e,fun k k' cs cs' b e=>by simp[qt,ak]at e,fun k n e=>by simp[qt,ak]at e,fun k k' n n' b lo hi lo' hi' e=>by simp[qt,ak]at e,fun k e=>by simp at e,fun k cs b e=>by simp[qt,ak]at e⟩
 ·have B:∀V,(∀o,¬iJ g (qt 1000000 (some cells)) V o)\/(∃o,¬iJ g (qt 1000000 (some cells)) V o)->V≠b:=by
   rintro V h rfl;have q:∀o,iJ g (qt 1000000 (some cells)) V o:=fun o => .inl ⟨1000000,_,K,A⟩;rcases h with h|⟨o,h⟩
   ·exact h 0 (q 0)
   ·exact h (q o)
  refine⟨R.os,R.tape,R.output,R.size,fun V h1 h2=>R.rest V h1 (B V (.inl h2)),fun V o h1 h2=>?_,Mi,?_,fun k cs b e=>by simp[qt,ak]at e,fun k n b lo hi e=>by simp[qt,ak]at e,fun k _ e=>by simp[qt,ak]at e⟩
  ·have:=R.rest V h1 (B V (.inr ⟨o,h2⟩));exact⟨tu this o,zd this o⟩
  ·intro T o v Y;simp only[C]at Y;split at Y
   ·rename_i hb;subst hb;rcases R.blk with h|h
    ·grind
    ·exact .inr (.inl h)
   ·exact .inl Y
end Go.cu
namespace Go.cu
def notNil:AV->Bool
 | .c (.sl _ (_::_))=>true
 | .own _ _ (_::_)=>true
 | .gy _ _ _ n=>Nat.blt 0 n
 | _=>false
def SN:AV->Bool
 | .c (.sl ..)=>true
 | .own .. => true
 | .gy .. => true
 | _=>false
def Hs (a:AV):CV:=match notNil a with
 | true => .bool false
 | false => .qF
theorem SO {g:Gh} {a:AV} {u:Value} (h:SN a=true) (I:aJ g a u):∃base V E,u = .slice base V E/\(notNil a=true->base≠none):=by
 unfold SN at h;split at h
 ·rename_i s rows;simp only[aJ,Rel]at I;obtain⟨base,V,E,rfl,C,K,I⟩:=I;refine⟨base,V,E,rfl,fun O=>?_⟩;rcases I with rfl|⟨b,o,rfl,_⟩
  ·simp[notNil]at O
  ·simp
 ·rename_i k s rows;simp only[aJ]at I;obtain⟨base,V,E,rfl,C,K,I,_⟩:=I;refine⟨base,V,E,rfl,fun O=>?_⟩;rcases I with rfl|⟨b,o,rfl,_⟩
  ·simp[notNil]at O
  ·simp
 ·simp only[aJ]at I;obtain⟨b,E,o,_,rfl,h1,_,h2⟩:=I;refine⟨_,_,_,rfl,fun O=>?_⟩;have:=Nat.blt_eq.mp O;rcases h2 with h2|h2
  ·omega
  ·simp[h2]
 ·simp at h
section
variable {P : Program} {X : Ctx}
theorem BQ {t e:TypeId} {w:World} (d:Nat) (h:(underlying t).run P w = .ok (.slice e) w) (a:Addr) (n m:Nat) :
  (Op.equalIn (d+1) t (.slice (some a) n m) (.slice none 0 0)).run P w = .ok false w:=by simp[Op.equalIn,h]
theorem BR {t e:TypeId} {w:World} (d:Nat) (h:(underlying t).run P w = .ok (.slice e) w) (n m:Nat) :
  (Op.equalIn (d+1) t (.slice none n m) (.slice none 0 0)).run P w = .ok true w:=by simp[Op.equalIn,h]
theorem wO {t e:TypeId} {w:World} (h:(underlying t).run P w = .ok (.slice e) w) (base:Option Addr) (n m:Nat) :
  (Op.equal t (.slice base n m) (.slice none 0 0)).run P w = .ok base.isNone w:=by
 cases base with
 | none=>exact BR 9999 h n m
 | some a=>exact BQ 9999 h a n m
theorem bW.SP (hX:cC P X) {o:Oper} {env:Env} {σ:St} {t T:TypeId} {x:Operand} (q:o.op = .binOp .eql t x (.const (.slice none 0 0)) T) {i:TI} {e:Nat} (Q:X.ti t=some i) (D:i.kind = .slice e)
  {a:AV} (O:aK X env x=some a) (p:SN a=true):bW P X o env σ (.c (Hs a)) (fun σ=>σ) ⟨[],[]⟩:=by
 refine bW.val fun N w g S h1 ir H J=>?_;have U:aK X N x=some a:=by rw[h1 x (by rw[q];simp[Op.operands])];exact O
 obtain⟨base,V,E,M,K⟩:=SO p (cz (a:=S) J H U);obtain⟨d1,G,Y,Xg⟩:=hX.run_underlying (w:=w) Q;rw[D]at Y;simp only[eG]at Y;subst Y;refine⟨Value.bool base.isNone,?_,?_⟩
 ·obtain⟨C,op,I,B,W,guard⟩:=o;simp only at q;subst q;have A:binOp .eql t (.slice base V E) (.slice none 0 0)=(do Pure.pure (Value.bool (<- Op.equal t (.slice base V E) (.slice none 0 0)))):=rfl;have u:S.eval (.const (.slice none 0 0)) = .slice none 0 0:=rfl;simp[execOp,M,u,A,eqGuard_at_slice,wO G]
 ·unfold Hs;split
  ·rename_i hh;simp only[aJ,Rel];have:=K hh;cases base<;>simp at this ⊢
  ·simp only[aJ,Rel];exact⟨_,rfl⟩
variable {ops : Array Oper} {rest : List Oper} {o : Oper} {env : Env} {σ : St} {acc : List Fp} {Q : Env -> St -> List Fp -> Prop}
theorem ai.SP (hX:cC P X) (kn:List Nat) (Y:cV ops.toList kn env o=some true) {t W:TypeId} {x:Operand} (q:o.op = .binOp .eql t x (.const (.slice none 0 0)) W) {d:Nat} (H:o.dst=some d) {i:TI} {e:Nat} (I:X.ti t=some i) (D:i.kind = .slice e)
  {a:AV} (O:aK X env x=some a) (p:SN a=true) {v:CV} (T:Hs a=v)
  (k:ai P X ops rest ((d,.c v)::env) σ (⟨[],[]⟩::acc) Q):ai P X ops (o::rest) env σ acc Q:=by
 subst T;exact ai.step (dx Y) (bW.SP hX q I D O p) (gX.id _) JT
variable {f : FuncId} {n : Nat} {β : jH} {R : Ending -> World -> Prop} {K : List Item}
theorem AK.pG {c:Operand} {x y:Code} (E:aK X env c=some (.c .qF)) (h1:AK P X f n β R (.code x::K) env σ) (h2:AK P X f n β R (.code y::K) env σ) :
  AK P X f n β R (.code (.cond c x y)::K) env σ:=by
 intro g w a cs N;have:=cz N.env N.q8 E;simp only[aJ,Rel]at this;obtain⟨b,p⟩:=this;cases b
 ·obtain⟨e,w',fr,D,Q,U,A⟩:=h2 g w a cs N;have st:=step_cond (P:=P) (b:=top f) (x:=x) (y:=y) (k:=K) (cs:=cs) (w:=w) p;rw[if_neg cc]at st;exact⟨e,w',fr,D,Q.of_steps (.one st),U,A⟩
 ·obtain⟨e,w',fr,D,Q,U,A⟩:=h1 g w a cs N;have st:=step_cond (P:=P) (b:=top f) (x:=x) (y:=y) (k:=K) (cs:=cs) (w:=w) p;rw[if_pos rfl]at st;exact⟨e,w',fr,D,Q.of_steps (.one st),U,A⟩
end
end Go.cu
namespace Go.cu
mutual
def Wk:CV->CV->Prop
 | .sl s rows,.sl t Y=>(s=t/\rows=Y)\/(rows=[]/\Y=[])
 | .agg l,.agg m=>xe l m
 | .gB l,.gB m=>xe l m
 | v,.any=>v.one=true
 | v,w=>v=w
def xe:List CV->List CV->Prop
 | [],[]=>True
 | v::l,w::m=>Wk v w/\xe l m
 | _,_=>False
end
mutual
theorem Wk.refl:∀(v:CV),Wk v v
 | .sl s rows=>by unfold Wk;exact .inl ⟨rfl,rfl⟩
 | .agg l=>by simp only[Wk];exact xe.refl l
 | .gB l=>by simp only[Wk];exact xe.refl l
 | .any=>by simp only[Wk];rfl
 | .int .. => by simp only[Wk]
 | .bool .. => by simp only[Wk]
 | .str .. => by simp only[Wk]
 | .lI=>by simp only[Wk]
 | .undef=>by simp only[Wk]
 | .ip .. => by simp only[Wk]
 | .rK .. => by simp only[Wk]
 | .qF=>by simp only[Wk]
theorem xe.refl:∀(l:List CV),xe l l
 | []=>by simp only[xe]
 | v::l=>by simp only[xe];exact⟨Wk.refl v,xe.refl l⟩
end
theorem Wk.of_eq {v w:CV} (h:v=w):Wk v w:=by subst h;exact Wk.refl v
theorem qL {G:jm} {v:CV} {u:Value} (h:v.one=true) (I:Rel G v u):(∀vs,u ≠ .agg vs)/\∀vs,u ≠ .tuple vs:=by
 cases v<;>simp[CV.one]at h<;>simp only[Rel]at I
 case int=>subst I;simp
 case bool=>subst I;simp
 case str=>subst I;simp
 case lI=>subst I;simp
 case sl=>obtain⟨_,_,_,rfl,_⟩:=I;simp
 case ip=>obtain⟨_,_,rfl,_⟩:=I;simp
 case rK=>obtain⟨_,rfl,_⟩:=I;simp
 case any=>exact I
 case qF=>obtain⟨_,rfl⟩:=I;simp
theorem XC {v w:CV} (h:Wk v w) (h1:v.one=true):w.one=true:=by
 unfold Wk at h;split at h
 ·rfl
 ·simp[CV.one]at h1
 ·simp[CV.one]at h1
 ·rfl
 ·subst h;exact h1
mutual
theorem Wk.rel {G:jm}:∀{v w:CV} {u:Value},Wk v w->Rel G v u->Rel G w u
 | .sl s rows,w,u,h,I=>by
  cases w
  case sl t JU =>
   unfold Wk at h;rcases h with ⟨rfl,rfl⟩|⟨rfl,rfl⟩
   ·exact I
   ·simp only[Rel]at I ⊢;obtain⟨base,V,K,A,E,B,_⟩:=I;exact⟨base,V,K,A,E,B,cn⟩
  case any=>unfold Wk at h;simp only[Rel];exact qL h I
  all_goals (unfold Wk at h;cases h)
 | .agg l,w,u,h,I=>by
  cases w<;>simp only[Wk]at h
  case agg m =>
   simp only[Rel]at I ⊢;obtain⟨vs,A,E,B⟩:=I;obtain⟨g1,p,_⟩:=xe.rel h E;exact⟨vs,A,g1,p B⟩
  case any=>simp[CV.one]at h
  all_goals (cases h)
 | .gB l,w,u,h,I=>by
  cases w<;>simp only[Wk]at h
  case gB m =>
   simp only[Rel]at I ⊢;obtain⟨vs,A,E,B⟩:=I;obtain⟨g1,_,p⟩:=xe.rel h E;exact⟨vs,A,g1,bn⟩
  case any=>simp[CV.one]at h
  all_goals (cases h)
 | .any,w,u,h,I=>by cases w<;>simp only[Wk]at h<;>first|exact I|cases h
 | .int ..,w,u,h,I=>by cases w<;>simp only[Wk]at h<;>first|(simp only[Rel];exact qL h I)|(rw[<- h];exact I)|cases h
 | .bool ..,w,u,h,I=>by cases w<;>simp only[Wk]at h<;>first|(simp only[Rel];exact qL h I)|(rw[<- h];exact I)|cases h
 | .str ..,w,u,h,I=>by cases w<;>simp only[Wk]at h<;>first|(simp only[Rel];exact qL h I)|(rw[<- h];exact I)|cases h
 | .lI,w,u,h,I=>by cases w<;>simp only[Wk]at h<;>first|(simp only[Rel];exact qL h I)|exact I|cases h
 | .undef,w,u,h,I=>by cases w<;>simp only[Wk]at h<;>first|exact I|(simp[CV.one]at h)|cases h
 | .ip ..,w,u,h,I=>by cases w<;>simp only[Wk]at h<;>first|(simp only[Rel];exact qL h I)|(rw[<- h];exact I)|cases h
 | .rK ..,w,u,h,I=>by cases w<;>simp only[Wk]at h<;>first|(simp only[Rel];exact qL h I)|(rw[<- h];exact I)|cases h
 | .qF,w,u,h,I=>by cases w<;>simp only[Wk]at h<;>first|(simp only[Rel];exact qL h I)|exact I|cases h
theorem xe.rel {G:jm}:∀{l m:List CV} {us:List Value},xe l m->bO G l us->bO G m us/\(l.all CV.one=true->m.all CV.one=true)/\l.length=m.length
 | [],[],us,_,I=>⟨I,id,rfl⟩
 | v::l,w::m,us,h,I=>by
  simp only[xe]at h;simp only[bO]at I ⊢;obtain⟨u,us,rfl,D,Q⟩:=I;obtain⟨g1,p,Y⟩:=xe.rel h.2 Q;refine⟨⟨u,us,rfl,Wk.rel h.1 D,g1⟩,?_,by simp[Y]⟩;simp only[List.all_cons,aaj];rintro⟨W,N⟩;exact⟨XC h.1 W,p N⟩
 | [],_::_,_,h,_=>by simp[xe]at h
 | _::_,[],_,h,_=>by simp[xe]at h
end
theorem zI {x y:CV} {e:Int} (h1:x.one=true) (h2:y.one=true):Wk (.gB [.agg [x,y],.int .i64 e]) (.gB [.agg [.any,.any],.int .i64 e]):=by
 have O:Wk x .any:=by cases x<;>unfold Wk<;>first|exact h1|rfl
 have T:Wk y .any:=by cases y<;>unfold Wk<;>first|exact h2|rfl
 unfold Wk xe xe xe;refine⟨?_,Wk.refl _,trivial⟩;unfold Wk xe xe xe;exact⟨O,T,trivial⟩
theorem vL {s t:Nat} {b:CV}:Wk (.gB [.sl s [],b]) (.gB [.sl t [],b]):=by
 simp only[Wk,xe];exact⟨.inr ⟨trivial,trivial⟩,Wk.refl b,trivial⟩
theorem UC {s t:Nat} {b c:CV}:Wk (.gB [.agg [.sl s [],b],c]) (.gB [.agg [.sl t [],b],c]):=by
 simp only[Wk,xe];exact⟨⟨.inr ⟨trivial,trivial⟩,Wk.refl b,trivial⟩,Wk.refl c,trivial⟩
section
variable {P : Program} {X : Ctx}
theorem bw.wk {f:FuncId} {args p:List CV} {r O:CV} (W:xe args p) (I:Wk r O) (q:bw P X f p r):bw P X f args O:=by
 refine⟨q.1,fun G w vs h1 h2 V=>?_⟩;exact Calls.mono (q.2 G w vs h1 h2 (xe.rel W V).1) fun e w' ⟨u,C,A,E,B⟩=>⟨u,C,A,Wk.rel I E,B⟩
variable {f : FuncId} {n : Nat} {β : jH} {K : List Item} {env : Env} {σ : St}
theorem AK.abB (hX:cC P X) {T:Func} (hf:P.funcs[f]?=some T) {r:AV} {M Y:CV}
  (I:nL X σ.boxes env T.results.toList=some r) (E:close r=some M) (W:Wk M Y):AK P X f n β (QR β Y) (.code .ret::K) env σ:=by
 have h:=AK.YS (K:=K) (β:=β) (n:=n) hX hf I E rfl;intro g w a cs N;obtain⟨e,w',fr,⟨u,g',h1,h2,V⟩,h4⟩:=h g w a cs N;exact⟨e,w',fr,⟨u,g',h1,Wk.rel W h2,V⟩,h4⟩
end
end Go.cu
namespace Go.cu
inductive JV where
 | ok (env:Env) (bs:List (Nat×List AV)) (us:List Nat) (fp:Fp)
 | no
def I9 (X:Ctx) (G:List Oper) (o:Oper) (env:Env) (bs:List (Nat×List AV)) (us:List Nat):JV :=
 match cV G kn env o with
 | some true=>match o.op,o.dst with
  | .box _ x,some d=>match aK X env x with
   | some a=>match jT a with
    | some cells=>match JF d us with
     | false => .ok ((d,.ptr d 0)::env) ((d,cells)::bs) (d::us) ⟨[],[d]⟩
     | true => .no
    | none => .no
   | none => .no
  | .alloc t,some d=>match X.ti t with
   | some i=>match i.zero with
    | some u=>match jT u with
     | some cells=>match JF d us with
      | false => .ok ((d,.ptr d 0)::env) ((d,cells)::bs) (d::us) ⟨[],[d]⟩
      | true => .no
     | none => .no
    | none => .no
   | none => .no
  | .store t x y,none=>match X.ti t,aK X env x,aK X env y with
   | some i,some (.ptr T off),some a=>match ak T bs,jT a with
    | some cells,some vs=>match Nat.beq vs.length i.size,dL off vs cells with
     | true,some r=>match wU T r bs with
      | some bs' => .ok env bs' us ⟨[],[T]⟩
      | none => .no
     | _,_ => .no
    | _,_ => .no
   | _,_,_ => .no
  | .buildSlice t V C,some d=>match X.ti t with
   | some i=>match i.kind with
    | .slice e=>match X.ti e with
     | some j=>match j.zero,iK (aK X env) 0 C.toList with
      | some _,some rows=>match Nat.beq rows.length V,iq j.size rows,Nat.ble (V*j.size) 16777216 with
       | true,true,true => .ok ((d,.own .exact j.size rows)::env) bs us ⟨[],[]⟩
       | _,_,_ => .no
      | _,_ => .no
     | none => .no
    | _ => .no
   | none => .no
  | .build t C,some d=>match X.ti t with
   | some i=>match i.kind with
    | .arr n e=>match X.ti e,i.zero with
     | some j,some (.agg z)=>match rX X (aK X env) (zb j.size e 0 n) C.toList z with
      | some r => .ok ((d,.agg r)::env) bs us ⟨[],[]⟩
      | none => .no
     | _,_ => .no
    | _ => .no
   | none => .no
  | .index t x B,some d=>match X.ti t,aK X env x,aK X env B with
   | some i,some (.agg cs),some ia=>match i.kind,asNat ia with
    | .arr n e,some m=>match X.ti e,Nat.blt m n with
     | some j,true=>match gv (m*j.size) cs with
      | some r=>match wV j r with
       | some v => .ok ((d,v)::env) bs us ⟨[],[]⟩
       | none => .no
      | none => .no
     | _,_ => .no
    | _,_ => .no
   | _,_,_ => .no
  | .binOp .eql t x (.const (.slice none 0 0)) _,some d=>match X.ti t,aK X env x with
   | some i,some a=>match i.kind,SN a with
    | .slice _,true => .ok ((d,.c (Hs a))::env) bs us ⟨[],[]⟩
    | _,_ => .no
   | _,_ => .no
  | _,_ => .no
 | _ => .no
section
variable {P:Program} {X:Ctx} {ops:Array Oper} {o:Oper} {rest:List Oper} {env:Env} {acc:List Fp} {Q:Env->St->List Fp->Prop}
 {bs:List (Nat×List AV)} {ts:List (Nat×Nat)} {us:List Nat}
theorem ai.I9 (hX:cC P X) {env':Env} {bs':List (Nat×List AV)} {us':List Nat} {N:Fp} (h:I9 X ops.toList o env bs us = .ok env' bs' us' N)
  (k:ai P X ops rest env' ⟨bs',ts,us'⟩ (N::acc) Q):ai P X ops (o::rest) env ⟨bs,ts,us⟩ acc Q:=by
 unfold Go.cu.I9 at h;split at h
 ·rename_i V;split at h
  ·rename_i t x d Y H;split at h
   ·rename_i a p;split at h
    ·rename_i cells E;split at h
     ·rename_i u;simp only[JV.ok.injEq]at h;obtain⟨rfl,rfl,rfl,rfl⟩:=h;exact ai.box kn V Y H p E u k
     ·cases h
    ·cases h
   ·cases h
  ·rename_i t d Y H;split at h
   ·rename_i i W;split at h
    ·rename_i M U;split at h
     ·rename_i cells E;split at h
      ·rename_i u;simp only[JV.ok.injEq]at h;obtain⟨rfl,rfl,rfl,rfl⟩:=h;exact ai.alloc hX kn V Y H W U E u k
      ·cases h
     ·cases h
    ·cases h
   ·cases h
  ·rename_i t x y Y H;split at h
   ·rename_i i K off a W O A;split at h
    ·rename_i cells vs S E;split at h
     ·rename_i r J G;split at h
      ·rename_i B q;simp only[JV.ok.injEq]at h;obtain⟨rfl,rfl,rfl,rfl⟩:=h;exact ai.store hX kn V Y H W O A S E J G q k
      ·cases h
     ·cases h
    ·cases h
   ·cases h
  ·rename_i t len C d Y H;split at h
   ·rename_i i W;split at h
    ·rename_i e D;split at h
     ·rename_i j T;split at h
      ·rename_i M rows U hp;split at h
       ·rename_i h1 h2 h3;simp only[JV.ok.injEq]at h;obtain⟨rfl,rfl,rfl,rfl⟩:=h;exact ai.buildSlice hX kn V Y H W D T U hp h1 rfl h2 h3 k
       ·cases h
      ·cases h
     ·cases h
    ·cases h
   ·cases h
  ·rename_i t C d Y H;split at h
   ·rename_i i W;split at h
    ·rename_i n e D;split at h
     ·rename_i j z T U;split at h
      ·rename_i r I;simp only[JV.ok.injEq]at h;obtain⟨rfl,rfl,rfl,rfl⟩:=h;exact ai.DE hX kn V Y H W D T U I k
      ·cases h
     ·cases h
    ·cases h
   ·cases h
  ·rename_i t x ix d Y H;split at h
   ·rename_i i cs ia W O U;split at h
    ·rename_i n e m D u;split at h
     ·rename_i j T S;split at h
      ·rename_i r I;split at h
       ·rename_i v hv;simp only[JV.ok.injEq]at h;obtain⟨rfl,rfl,rfl,rfl⟩:=h;exact ai.DF hX kn V Y H W D T O U u S I hv k
       ·cases h
      ·cases h
     ·cases h
    ·cases h
   ·cases h
  ·rename_i t x yt d Y H;split at h
   ·rename_i i a W O;split at h
    ·rename_i e D p;simp only[JV.ok.injEq]at h;obtain⟨rfl,rfl,rfl,rfl⟩:=h;exact ai.SP hX kn V Y H W D O p rfl k
    ·cases h
   ·cases h
  ·cases h
 ·cases h
def Ja (X:Ctx) (G:List Oper) (o:Oper) (env:Env) (ts:List (Nat×Nat)) (us:List Nat):Option (Nat×Nat×Nat×Nat×List CV×List CV×Nat×List (Nat×Nat)) :=
 match cV G kn env o with
 | some true=>match o.op,o.dst with
  | .call {callee := .builtin .append,args,argTypes},some d=>match args.toList,argTypes.toList with
   | [xs,y],[t,t1]=>match X.ti t,X.ti t1,aK X env xs,aK X env y with
    | some i,some u,some (.own Y s rows),some b=>match i.kind,kU u.kind,mL b with
     | .slice e,true,some (q,b9)=>match X.ti e with
      | some j=>match j.zero,Dr s j.size rows Y,fT q j.size b9,Nat.ble 1 j.bytes with
       | some _,true,true,true=>match vf d us ts Y with
        | some (T,n)=>match wU T n ts with
         | some ts'=>some (d,T,n,j.size,rows,b9,j.bytes,ts')
         | none=>none
        | none=>none
       | _,_,_,_=>none
      | none=>none
     | _,_,_=>none
    | _,_,_,_=>none
   | _,_=>none
  | _,_=>none
 | _=>none
theorem ai.Ja (hX:cC P X) {d T n sz U:Nat} {rows b9:List CV} {ts':List (Nat×Nat)} (h:Ja X ops.toList o env ts us=some (d,T,n,sz,rows,b9,U,ts'))
  (Y:(rows.length+b9.length)*U<=140737488355328)
  (k:ai P X ops rest ((d,.own (.tok T n) sz (rows++b9))::env) ⟨bs,ts',T::us⟩ (⟨[],[T]⟩::acc) Q):ai P X ops (o::rest) env ⟨bs,ts,us⟩ acc Q:=by
 unfold Go.cu.Ja at h;split at h
 ·rename_i O;split at h
  ·rename_i args N d' W M;split at h
   ·rename_i xs y t t1 p K;split at h
    ·rename_i i i1 ow s JU b I C J G;split at h
     ·rename_i e s1 E D A H;split at h
      ·rename_i j u;split at h
       ·rename_i za hz hs rR V;split at h
        ·rename_i S n' q;split at h
         ·rename_i B5 B;simp only[Option.some.injEq,Prod.mk.injEq]at h;obtain⟨rfl,rfl,rfl,rfl,rfl,rfl,rfl,rfl⟩:=h;exact ai.append hX kn O W p K M I D u hz C A J G H rfl hs rR q rfl V B Y k
         ·cases h
        ·cases h
       ·cases h
      ·cases h
     ·cases h
    ·cases h
   ·cases h
  ·cases h
 ·cases h
def Jb (X:Ctx) (G:List Oper) (o:Oper) (env:Env):Option (Nat×FuncId×List CV) :=
 match cV G kn env o with
 | some true=>match o.op,o.dst with
  | .call {callee := .value (.func f),args,argTypes:=_},some d=>match hJ (aK X env) args.toList with
   | some p=>some (d,f,p)
   | none=>none
  | .call {callee := .value (.tmp x),args,argTypes:=_},some d=>match aK X env (.tmp x),hJ (aK X env) args.toList with
   | some (.c (.rK f W)),some p=>some (d,f,p++W)
   | _,_=>none
  | _,_=>none
 | _=>none
theorem ai.Jb {σ:St} {d:Nat} {f:FuncId} {p:List CV} {r:CV} (h:Jb X ops.toList o env=some (d,f,p)) (hq:bw P X f p r)
  (k:ai P X ops rest ((d,.c r)::env) σ (⟨[],[]⟩::acc) Q):ai P X ops (o::rest) env σ acc Q:=by
 unfold Go.cu.Jb at h;split at h
 ·rename_i V;split at h
  ·rename_i G args B N Y H;split at h
   ·rename_i W E;simp only[Option.some.injEq,Prod.mk.injEq]at h;obtain⟨rfl,rfl,rfl⟩:=h;exact ai.Su kn V Y H E hq k
   ·cases h
  ·rename_i x args B N Y H;split at h
   ·rename_i G U W O E;simp only[Option.some.injEq,Prod.mk.injEq]at h;obtain⟨rfl,rfl,rfl⟩:=h;exact ai.Sv kn V Y H O E hq k
   ·cases h
  ·cases h
 ·cases h
def Jc (X:Ctx) (G:List Oper) (o:Oper) (env:Env):Option (Nat×List CV×Int) :=
 match cV G kn env o with
 | some true=>match o.op,o.dst with
  | .indexAddr t x B,some d=>match X.ti t,aK X env x,aK X env B with
   | some i,some a,some (.c (.int _ z))=>match i.kind,rowsOf a with
    | .slice e,some (s,rows)=>match X.ti e with
     | some j=>match Nat.beq s j.size with
      | true=>some (d,rows,z)
      | false=>none
     | none=>none
    | _,_=>none
   | _,_,_=>none
  | _,_=>none
 | _=>none
theorem ai.Jc (hX:cC P X) {σ:St} {d:Nat} {rows:List CV} {z:Int} (h:Jc X ops.toList o env=some (d,rows,z)) (m:Nat) (W:z=m) {r:CV} (K:rows[m]?=some r) {cs:List CV} (u:r.cells=cs)
  (k:ai P X ops rest ((d,.c (.ip cs))::env) σ (⟨[],[]⟩::acc) Q):ai P X ops (o::rest) env σ acc Q:=by
 unfold Go.cu.Jc at h;split at h
 ·rename_i V;split at h
  ·rename_i t x B N Y H;split at h
   ·rename_i i a k' O I p U;split at h
    ·rename_i e s J D M;split at h
     ·rename_i j T;split at h
      ·rename_i S;simp only[Option.some.injEq,Prod.mk.injEq]at h;obtain⟨rfl,rfl,rfl⟩:=h;exact ai.index hX V Y H I D T p M S U m W K u k
      ·cases h
     ·cases h
    ·cases h
   ·cases h
  ·cases h
 ·cases h
end
end Go.cu
namespace Go.cu
theorem dV (b:Nat):∀(vs:List Value) (o:Nat) (w:World),(w.setCells b o vs).heap.size=w.heap.size/\(w.setCells b o vs).os=w.os/\(w.setCells b o vs).tape=w.tape/\(w.setCells b o vs).output=w.output /\
  ∀k,k≠b->(w.setCells b o vs).heap[k]?=w.heap[k]?
 | [],_,w=>⟨rfl,rfl,rfl,rfl,fun _ _=>rfl⟩
 | v::r,o,w=>by
  obtain⟨h1,h2,V,Y,q⟩:=dV b r (o+1) (w.setCell ⟨b,o,none⟩ v);rw[World.setCells];refine⟨by rw[h1];simp[World.setCell],by rw[h2];rfl,by rw[V];rfl,by rw[Y];rfl,fun k D=>?_⟩;rw[q k D];exact heap_setCell w ⟨b,o,none⟩ v _ D
theorem dQ {b:Nat} {vs:List Value} {o:Nat} {w:World} (h:∀j,j<vs.length->(w.cell? ⟨b,o+j,none⟩).isSome=true) (j:Nat) :
  (w.setCells b o vs).cell? ⟨b,j,none⟩=if o<=j/\j<o+vs.length then vs[j-o]? else w.cell? ⟨b,j,none⟩:=by
 by_cases M:o<=j/\j<o+vs.length
 ·rw[if_pos M];have:=World.cell?_setCells_in b vs o w h (j-o) bn;rw[show o+(j-o)=j by omega]at this;rw[this,List.getElem?_eq_getElem]
 ·rw[if_neg M];exact World.cell?_setCells_out b vs o w ⟨b,j,none⟩ (fun _ _=>by show j<o\/o+vs.length<=j;omega)
theorem cY {b:Nat} {vs:List Value} {o:Nat} {w:World} (h:∀j,j<vs.length->(w.cell? ⟨b,o+j,none⟩).isSome=true) {j:Nat} (P:(w.cell? ⟨b,j,none⟩).isSome=true) :
  ((w.setCells b o vs).cell? ⟨b,j,none⟩).isSome=true:=by
 rw[dQ h];split
 ·grind
 ·exact P
theorem l9 {P:Program} (w:World) (S O ty Y:TypeId) (b o W V:Nat) (a:Addr) (sLen sCap:Nat) (cs:List Value) (n s:Nat)
  (A:P.underlying S=some (.slice Y)) (Q:(P.info? Y).map (·.size)=some s) (N:n=Nat.min sLen W) (C:cs.length=n*s)
  (H:∀(j:Nat) v,cs[j]?=some v->w.cell? (a.add j)=some v) (E:∀j,j<cs.length->(w.cell? ⟨b,o+j,none⟩).isSome=true) (hf:∀j,j<cs.length->w.frozen? ⟨b,o+j,none⟩=false) (h1:∀v∈cs,v.oneCell'=true) :
  (Builtin.copy_ #[S,O] ty #[.slice (some ⟨b,o,none⟩) W V,.slice (some a) sLen sCap]).run P w = .ok (goInt n) (w.setCells b o cs):=by
 have U:=run_firstCells_some (P:=P) w s n a sLen sCap cs C H;have T:=run_storeCells_cells (P:=P) b o cs 0 w (by simpa using E) (by simpa using hf) h1;simp only[Nat.add_zero]at T;cases hq:P.info? Y with
 | none=>simp[hq]at Q
 | some i =>
  have I:i.size=s:=by simpa[hq]using Q
  subst N;simp[Builtin.copy_,run_underlying A,Builtin.lenOf,sizeOf,typeInfo,hq,I,U,T]
theorem JW {P:Program} (w:World) {o:Oper} {a:Act} {K:Act->World->Prop} {Q:Exit->Act->World->Prop} (d s:Operand) (t S:TypeId)
  (q:o.op = .call {callee := .builtin .copy,args := #[d,s],argTypes := #[t,S]}) (v u:Value) (H:a.eval d=v) (W:a.eval s=u) {Y:Value} {w':World}
  (I:(Builtin.copy_ #[t,S] o.type #[v,u]).run P w = .ok Y w') (h:K (a.put o.dst Y) w'):o.wp P a w K Q:=by
 unfold Oper.wp execOp;simp only[q,resolve,invoke,builtin,Sem.run_bind,Sem.run_pure,Result.andThen_ok,List.map_toArray,List.map_cons,List.map_nil,H,W,I];exact h
theorem kQ {P:Program} (w:World) {ops:Array Oper} {rest:List Oper} {o:Oper} {a:Act} {Q:Exit->Act->World->Prop} (Y:o.guard=none) (d s:Operand) (t S:TypeId)
  (q:o.op = .call {callee := .builtin .copy,args := #[d,s],argTypes := #[t,S]}) (v u:Value) (H:a.eval d=v) (V:a.eval s=u) {W:Value} {w':World}
  (I:(Builtin.copy_ #[t,S] o.type #[v,u]).run P w = .ok W w') (h:wpList P ops Q rest (a.put o.dst W) w'):wpList P ops Q (o::rest) a w :=
 wpList_plain Y fun _ U=>JW w d s t S q v u H V I (U _ _ h)
theorem sH {P:Program} {ops:Array Oper} {o:Oper} {a:Act} {w:World} {K:Act->World->Prop} {Q:Exit->Act->World->Prop} {E:Prop}
  (T:o.guard=none) (d x:Operand) (Y W:TypeId) (V:o.op=Op.call {callee:=Callee.builtin Builtin.copy,args := #[d,x],argTypes := #[Y,W]})
  (v u:Value) (H:a.eval d=v) (O:a.eval x=u) {U:Value} {w':World} (I:(Builtin.copy_ #[Y,W] o.type #[v,u]).run P w = .ok U w') (S:K (a.put o.dst U) w') :
  if Region.wanted o (yielded ops a.tmps)=true then Oper.wp P o a w K Q else E:=by
 rw[if_pos (by simp[Region.wanted,T])];exact JW w d x Y W V v u H O I S
theorem rQ {P:Program} (w:World) (tS tR e:TypeId) (ht:P.underlying tS=some (.slice e)) (size:Nat) (hz:∀w,(Go.sizeOf e).run P w = .ok size w)
  (a b:Addr) (la ca lb cb:Nat) (hne:a.block≠b.block) {u v:Value} (hua:w.cell? ⟨a.block,a.off,none⟩=some u) (hub:w.cell? ⟨b.block,b.off,none⟩=some v) (hfb:∀o,w.frozen? ⟨b.block,o,none⟩=false) (j9:b.spot=none) :
  (Extern.SlicesOverlaps.overlaps #[tS,tS] #[tR] #[.slice (some a) la ca,.slice (some b) lb cb]).run P w = .ok (.bool false) w:=by
 have shp:∀(x:Addr) {v:Value},w.cell? ⟨x.block,x.off,none⟩=some v->∃t k,w.shape? x.block=some (t,k+1):=by
  intro x v hx;unfold World.cell? at hx;unfold World.shape?;split at hx
  ·rename_i c t f hh;simp only at hh hx ⊢;rw[hh];refine⟨t,c.size-1,?_⟩;have:x.off<c.size:=by grind
   simp;omega
  ·cases hx
 obtain⟨tA,kA,NU⟩:=shp a hua;obtain⟨tB,kB,hsb⟩:=shp b hub;have hnb:(a.block != b.block)=true:=by simpa using hne
 have acA:(a.block==b.block)=false:=by simpa using hne
 have acB:w.frozen? b=false:=by
  have:=hfb b.off;obtain⟨bb,bo,bs⟩:=b;simp only at j9;subst j9;exact this
 have hfe:=hfb (kB+1)
 change Sem.run P (α:=Value) (do
  let some t := (#[tS, tS] : Array TypeId)[0]? | stuck "slices.overlaps: no parameter types"
  let .slice elem ← underlying t | stuck "slices.overlaps: slice type expected"
  let size<-sizeOf elem
  match (some a:Option Addr),(some b:Option Addr)with
  | some a,some b =>
   if la=0\/lb=0\/size=0 then pure (Value.bool false)
   else if a.block != b.block&&(<- frozen a)&&(<- frozen b)then unsupported .addressObserved
   else do
    if a.block != b.block then do
     noView a;noView b
     if ← mayBeOne a b then return Value.bool ((← choose (.extern "sameAddr.stringBytes" 2)) == 1)
    pure (Value.bool (a.block==b.block&&a.off<b.off+lb*size&&b.off<a.off+la*size))
  | _,_=>pure (Value.bool false)) w=_
 by_cases h0:la=0\/lb=0\/size=0
 ·simp[run_underlying ht,hz,h0]
 ·simp[run_underlying ht,hz,h0,hnb,acA,frozen,noView,viewAt,mayBeOne,stringish,shape,Sem.run,NU,hsb,acB,hfe]
theorem rS {G:jm}:∀{l:List CV} {vs:List Value} (n:Nat),bO G l vs->bO G (l.take n) (vs.take n)
 | _,_,0,_=>by simp[bO]
 | [],vs,n+1,h=>by simp only[bO]at h;subst h;simp[bO]
 | c::l,vs,n+1,h=>by
  simp only[bO]at h;obtain⟨u,us,rfl,h1,h2⟩:=h;simp only[List.take_succ_cons,bO];exact⟨u,_,rfl,h1,rS n h2⟩
theorem rT {G:jm}:∀{l:List CV} {vs:List Value} (n:Nat),bO G l vs->bO G (l.drop n) (vs.drop n)
 | _,_,0,h=>by simpa using h
 | [],vs,n+1,h=>by simp only[bO]at h;subst h;simp[bO]
 | c::l,vs,n+1,h=>by
  simp only[bO]at h;obtain⟨u,us,rfl,h1,h2⟩:=h;simpa using rT n h2
theorem oa {G:jm}:∀{l:List CV} {vs:List Value},bO G l vs->vs.length=l.length
 | [],vs,h=>by simp only[bO]at h;subst h;rfl
 | c::l,vs,h=>by
  simp only[bO]at h;obtain⟨u,us,rfl,h1,h2⟩:=h;simp[oa h2]
theorem sI {s:Nat} {l:List CV} (h:∀r∈l,r.cells.length=s) (i:Nat) (W:i<=l.length):(bK l).take (i*s)=bK (l.take i):=by
 have e:l=l.take i++l.drop i:=(List.take_append_drop i l).symm;have h1:(bK (l.take i)).length=i*s:=by rw[dh (fun r I=>h r (List.mem_of_mem_take I)),List.length_take,Nat.min_eq_left W]
 conv=>lhs;rw[e,dB]
 rw[<- h1];simp
theorem sJ {s:Nat} {l:List CV} (h:∀r∈l,r.cells.length=s) (i:Nat) (W:i<=l.length):(bK l).drop (i*s)=bK (l.drop i):=by
 have e:l=l.take i++l.drop i:=(List.take_append_drop i l).symm;have h1:(bK (l.take i)).length=i*s:=by rw[dh (fun r I=>h r (List.mem_of_mem_take I)),List.length_take,Nat.min_eq_left W]
 conv=>lhs;rw[e,dB]
 rw[<- h1];simp
end Go.cu
namespace Go.cu
section
variable {P : Program} {X : Ctx} {ops : Array Oper} {o : Oper} {rest : List Oper} {env : Env} {σ : St} {acc : List Fp} {Q : Env -> St -> List Fp -> Prop}
end
theorem vV {α:Type}:∀(a b:List α),gv a.length (a++b)=some b
 | [],_=>rfl
 | x::a,b=>by simp only[aaa,List.cons_append,gv,vV a b]
theorem wo {α:Type}:∀(m n:Nat) (l r s:List α),gv m l=some r->gv n r=some s->gv (m+n) l=some s
 | 0,n,l,r,s,h1,h2=>by simp only[gv]at h1;cases h1;rw[Nat.zero_add];exact h2
 | m+1,n,[],r,s,h1,h2=>by simp only[gv]at h1;cases h1
 | m+1,n,x::l,r,s,h1,h2=>by rw[Nat.add_right_comm];simp only[gv]at h1 ⊢;exact wo m n l r s h1 h2
theorem Bm:∀(a b:List AV),a.length=b.length->dL 0 a b=some a
 | [],[],_=>rfl
 | [],_::_,h=>by simp at h
 | _::_,[],h=>by simp at h
 | x::a,y::b,h=>by simp only[dL,Bm a b lp]
end Go.cu
namespace Go.cu
def ze (bs:List (Nat×List AV)):St:=⟨bs,[],bs.map (·.1)⟩
def HR (β:jH) (r:AV) (N:List (Nat×List AV)):Ending->World->Prop:=fun e w' =>
 ∃u g',e = .returned u/\aJ g' r u/\Inv w' g' (ze N)/\gW β.w β.g β.σ w' g' (ze N)
def dJ (P:Program) (X:Ctx) (f:FuncId) (E:List (Nat×List AV)) (args:List AV) (r:AV) (N:List (Nat×List AV)):Prop :=
 Enters P f/\∀(g:Gh) (w:World) (vs:List Value),Inv w g (ze E)->nw X g.G->bH g args vs->Calls P f vs.toArray w (HR ⟨w,g,ze E⟩ r N)
mutual
def AV.rn (ψ:Nat->Nat):AV->AV
 | .ptr k o => .ptr (ψ k) o
 | .gy k o s n => .gy (ψ k) o s n
 | .agg l => .agg (PS ψ l)
 | .gB l => .gB (PS ψ l)
 | .c v => .c v
 | .own k s rows => .own k s rows
 | .any => .any
def PS (ψ:Nat->Nat):List AV->List AV
 | []=>[]
 | a::l=>a.rn ψ::PS ψ l
end
mutual
def Ml (us:List Nat):AV->Bool
 | .own (.tok _ _) _ _=>false
 | .ptr k _=>mem k us
 | .gy k _ _ _=>mem k us
 | .agg l=>wP us l
 | .gB l=>wP us l
 | .own .exact _ _=>true
 | .c _=>true
 | .any=>true
def wP (us:List Nat):List AV->Bool
 | []=>true
 | a::l=>both (Ml us a) (wP us l)
end
theorem Bn (ψ:Nat->Nat):∀l:List CV,PS ψ (l.map AV.c)=l.map AV.c
 | []=>rfl
 | c::l=>by simp only[List.map_cons,PS,AV.rn,Bn ψ l]
theorem vj (us:List Nat):∀l:List CV,wP us (l.map AV.c)=true
 | []=>rfl
 | c::l=>by simp only[List.map_cons,wP,Ml,both,vj us l]
section
variable {g g1 : Gh} {us : List Nat} {ψ : Nat -> Nat}
mutual
theorem SQ (C:g1.G=g.G) (h:∀k,mem k us=true->g1.box (ψ k)=g.box k/\g1.room (ψ k)=g.room k):∀{a:AV} {u:Value},Ml us a=true->aJ g a u->aJ g1 (a.rn ψ) u/\(a.one=true->(a.rn ψ).one=true)
 | .c v,u,_,I=>by simp only[AV.rn,aJ,C]at I ⊢;exact⟨I,id⟩
 | .own .exact s rows,u,_,I=>by simp only[AV.rn,aJ,C]at I ⊢;exact⟨I,id⟩
 | .own (.tok _ _) s rows,u,q,_=>by simp[Ml]at q
 | .ptr k o,u,q,I=>by
  simp only[Ml]at q;simp only[AV.rn,aJ,(h k q).1]at I ⊢;exact⟨I,fun _=>rfl⟩
 | .gy k o s n,u,q,I=>by
  simp only[Ml]at q;simp only[AV.rn,aJ,(h k q).1,(h k q).2]at I ⊢;exact⟨I,fun _=>rfl⟩
 | .any,u,_,I=>by simp only[AV.rn,aJ]at I ⊢;exact⟨I,id⟩
 | .agg l,u,q,I=>by
  simp only[Ml]at q;simp only[AV.rn,aJ]at I ⊢;obtain⟨vs,e,h1,h2⟩:=I;obtain⟨V,D⟩:=Mm C h q h1;exact⟨⟨vs,e,V,D h2⟩,fun h=>by simp[AV.one]at h⟩
 | .gB l,u,q,I=>by
  simp only[Ml]at q;simp only[AV.rn,aJ]at I ⊢;obtain⟨vs,e,h1,h2⟩:=I;obtain⟨V,D⟩:=Mm C h q h1;refine⟨⟨vs,e,V,?_⟩,fun h=>by simp[AV.one]at h⟩;rw[(bH.get V).1,<- (bH.get h1).1];exact h2
theorem Mm (C:g1.G=g.G) (h:∀k,mem k us=true->g1.box (ψ k)=g.box k/\g1.room (ψ k)=g.room k):∀{l:List AV} {vs:List Value},wP us l=true->bH g l vs->bH g1 (PS ψ l) vs/\(l.all AV.one=true->(PS ψ l).all AV.one=true)
 | [],vs,_,I=>by simp only[PS,bH]at I ⊢;exact⟨I,id⟩
 | a::l,vs,q,I=>by
  simp only[wP]at q;obtain⟨W,N⟩:=dW q;simp only[PS,bH]at I ⊢;obtain⟨u,us',e,h1,h2⟩:=I;obtain⟨V,D⟩:=SQ C h W h1;obtain⟨J,U⟩:=Mm C h N h2;refine⟨⟨u,us',e,V,J⟩,fun Y=>?_⟩;simp only[List.all_cons,aaj]at Y ⊢;exact⟨D Y.1,U Y.2⟩
end
theorem JX {w:World} {b:Nat} (C:g1.G=g.G) (h:∀k,mem k us=true->g1.box (ψ k)=g.box k/\g1.room (ψ k)=g.room k):∀{l:List AV} {o:Nat},wP us l=true->cy w g b o l->cy w g1 b o (PS ψ l)
 | [],_,_,_=>trivial
 | a::l,o,ho,⟨⟨u,Y,J,W⟩,c4,c5⟩=>by
  simp only[wP]at ho;obtain⟨V,N⟩:=dW ho;obtain⟨A,E⟩:=SQ C h V J;exact⟨⟨u,Y,A,E W⟩,c4,JX C h N c5⟩
end
def lU {α:Type}:List Nat->List (Nat×α)->List (Nat×α)
 | [],l=>l
 | k::ks,l=>BN k (lU ks l)
theorem qM {α:Type} {j:Nat}:∀{ks:List Nat} {l:List (Nat×α)},ak j (lU ks l)=if j∈ks then none else ak j l
 | [],l=>by simp[lU]
 | k::ks,l=>by
  simp only[lU,jO,qM (ks:=ks)];by_cases h:j=k
  ·simp[h]
  ·simp[h]
theorem zf {α:Type} {j:Nat}:∀{a b:List (Nat×α)},ak j (a++b)=match ak j a with
  | some v=>some v
  | none=>ak j b
 | [],b=>rfl
 | (k,v)::a,b=>by
  simp only[List.cons_append,aq,zf (a:=a)];split<;>rfl
def JY (ks:List Nat) (nb:List (Nat×List AV)) (Y:List Nat) (σ:St):St:=⟨nb++lU ks σ.boxes,σ.toks,Y++σ.used⟩
theorem wq (ks:List Nat) (nb:List (Nat×List AV)) (Y:List Nat):gX (JY ks nb Y) ⟨[],ks++nb.map (·.1)++Y⟩ where
 out:=fun σ k D=>by
  simp only[List.mem_append,not_or]at D;refine⟨?_,rfl,?_⟩
  ·simp only[JY,zf,pe D.1.2,qM,if_neg D.1.1]
  ·simp only[JY,List.mem_append];exact⟨fun h=>h.resolve_left D.2,.inr⟩
 same:=fun σ G h k D=>by
  obtain⟨h1,h2,V⟩:=h k (.inr D);refine⟨?_,h2,?_⟩
  ·simp only[JY,zf,qM,h1]
  ·simp only[JY,List.mem_append,V]
structure ZU (bs:List (Nat×List AV)) (us:List Nat) (bi bo:List (Nat×List AV)) (bx po:List (Nat×Nat)) (ψ:Nat->Nat) (nb:List (Nat×List AV)):Prop where
 d2:distinct (bx.map (·.2))=true
 keys:∀k kk,ak k bx=some kk->k∈bi.map (·.1)/\∃cs,ak kk bs=some cs
 cells:∀ts k cs,ak k bi=some cs->∃old oc,ak k bx=some old/\ak old bs=some oc/\fy ⟨fun k=>ak k bx,fun _=>none⟩ ts cs oc
 nb:∀ck cs',ak ck nb=some cs'->∃ok cs,ak ck po=some ok/\ak ok bo=some cs/\cs'=PS ψ cs
 psi:∀ck ok,ak ck po=some ok->ψ ok=ck
 outs:∀k,mem k (bo.map (·.1))=true->∃ck,ak ck po=some k
 kept:∀ck ok,ak ck po=some ok->(1000000<=ok/\ak ok bx=some ck/\ak ok bo≠none)\/(ck ∉ us/\ck<1000000)
 names:∀ok cs,ak ok bo=some cs->wP (bo.map (·.1)) cs=true
theorem ZV {w w':World} {g g':Gh} {σ:St} (p:Inv w g σ) {bi H:List (Nat×List AV)} {bx po:List (Nat×Nat)} {ψ:Nat->Nat} {nb:List (Nat×List AV)}
  (C:ZU σ.boxes σ.used bi H bx po ψ nb) (B:Inv w' g' (ze H)) (D:gW w (g.fY ⟨fun k=>ak k bx,fun _=>none⟩) (ze bi) w' g' (ze H)) :
  let g1:Gh:=⟨g'.G,fun k=>match ak k po with|some ok=>g'.box ok|none=>g.box k,g.tok,fun k=>match ak k po with|some ok=>g'.room ok|none=>g.room k⟩
  let IB:=JY (bx.map (·.2)) nb (po.map (·.1)) σ
  Inv w' g1 IB/\gW w g σ w' g1 IB/\g.le g1/\∀k,mem k (H.map (·.1))=true->g1.box (ψ k)=g'.box k/\g1.room (ψ k)=g'.room k:=by
 intro g1 IB;have acD:∀k b,(g.fY ⟨fun k=>ak k bx,fun _=>none⟩).box k=some b->∃W,ak k bx=some W/\g.box W=some b:=by
  intro k b e;simp only[Gh.fY]at e;split at e
  ·rename_i W hkk;exact⟨W,hkk,e⟩
  ·simp at e
 have hrG:(g.fY ⟨fun k=>ak k bx,fun _=>none⟩).G=g.G:=rfl;have own:∀b o,iJ (g.fY ⟨fun k=>ak k bx,fun _=>none⟩) (ze bi) b o->∃W T,W∈bx.map (·.2)/\ak W σ.boxes=some T/\g.box W=some b:=by
  rintro b o (⟨k,cs,A,E⟩|⟨k,n,q,hi,A,_⟩)
  ·obtain⟨W,S,f2⟩:=acD k b E;obtain⟨_,T,f3⟩:=C.keys k W S;exact⟨W,T,List.mem_map.2 ⟨_,dF S,rfl⟩,f3,f2⟩
  ·simp[ze,ak]at A
 have F3:∀b o,iJ (g.fY ⟨fun k=>ak k bx,fun _=>none⟩) (ze bi) b o->iJ g σ b o:=by
  intro b o h;obtain⟨W,T,_,A,E⟩:=own b o h;exact .inl ⟨W,T,A,E⟩
 have XD:∀k ok cs,ak k po=some ok->ak k σ.boxes=some cs->k∈bx.map (·.2):=by
  intro k ok cs A E;rcases C.kept k ok A with ⟨_,h,_⟩|⟨h,_⟩
  ·exact List.mem_map.2 ⟨_,dF h,rfl⟩
  ·obtain⟨b,U,_⟩:=p.box k cs E;exact absurd (p.used k (.inl (by rw[U];simp))) h
 have vi:∀k cs,ak k IB.boxes=some cs->(∃ok V,ak k po=some ok/\ak ok H=some V/\cs=PS ψ V)\/(ak k po=none/\k ∉ bx.map (·.2)/\ak k σ.boxes=some cs):=by
  intro k cs e;simp only[IB,JY,zf]at e;cases hn:ak k nb with
  | some v =>
   rw[hn]at e;simp at e;subst e;exact .inl (C.nb k v hn)
  | none =>
   rw[hn]at e;simp only[qM]at e;split at e
   ·simp at e
   ·rename_i hns;refine .inr ⟨?_,hns,e⟩;cases hp:ak k po with
    | none=>rfl
    | some ok=>exact absurd (XD k ok cs hp e) hns
 have hψ:∀k,mem k (H.map (·.1))=true->g1.box (ψ k)=g'.box k/\g1.room (ψ k)=g'.room k:=by
  intro k hkk;obtain⟨ck,h1⟩:=C.outs k hkk;have h2:=C.psi ck k h1;subst h2;simp only[g1,h1,and_self]
 have SJ:∀k cs b,k ∉ bx.map (·.2)->ak k σ.boxes=some cs->g.box k=some b->∀o,¬iJ (g.fY ⟨fun k=>ak k bx,fun _=>none⟩) (ze bi) b o:=by
  intro k cs b A E U o ho;obtain⟨W,T,S,f2,f3⟩:=own b o ho;have:=p.fF k W cs T b E f2 U f3;subst this;exact A S
 have Sw:∀k ok,ak k po=some ok->(∃b,g.box k=some b)->g'.box ok=g.box k/\g'.room ok=g.room k:=by
  intro k ok e ⟨b,U⟩;rcases C.kept k ok e with ⟨h1,h2,Q⟩|⟨h1,_⟩
  ·obtain⟨_,h4,h5⟩:=D.ids ok h1 (by simpa[ze]using Q);simp only[Gh.fY,h2]at h4 h5;exact⟨h4,h5⟩
  ·exact absurd (p.used k (.inl (by rw[U];simp))) h1
 have hle:g.le g1:=by
  refine⟨fun b o v h=>D.le b o v h,fun k b h=>?_,fun k b h=>?_,fun k hw fU h=>⟨hw,fU,h,aam _,fun _=>rfl⟩⟩
  ·simp only[g1];split
   ·rename_i ok e;rw[(Sw k ok e ⟨b,h⟩).1];exact h
   ·exact h
  ·simp only[g1];split
   ·rename_i ok e;exact(Sw k ok e ⟨b,h⟩).2
   ·rfl
 have O:∀b o,b<w.heap.size->¬iJ (g.fY ⟨fun k=>ak k bx,fun _=>none⟩) (ze bi) b o->g.G b o=none->g'.G b o=none:=by
  intro b o U Y h;cases hg:g'.G b o with
  | none=>rfl
  | some v =>
   rcases D.new b o v hg with N|N|N
   ·rw[hrG,h]at N;simp at N
   ·omega
   ·exact absurd N Y
 have XB:∀k n b q hi,ak k σ.toks=some n->g.tok k=some (n,some (b,q,hi))->∀o,¬iJ (g.fY ⟨fun k=>ak k bx,fun _=>none⟩) (ze bi) b o:=by
  intro k n b q hi e A o ho;obtain⟨fU,S,f2⟩:=p.tok k n e;rw[A]at S;simp at S;subst S;obtain⟨W,T,_,E,e3⟩:=own b o ho;exact(f2 b q hi rfl).2.2 W T E e3
 have M:∀ok V b,ak ok H=some V->g'.box ok=some b->w.heap.size<=b\/∃W T,W∈bx.map (·.2)/\ak W σ.boxes=some T/\g.box W=some b:=by
  intro ok V b A E;rcases D.boxes ok V b (by simpa[ze]using A) E with h|⟨k0,cs0,h1,h2⟩
  ·exact .inl h
  ·exact .inr (own b 0 (.inl ⟨k0,cs0,h1,h2⟩))
 have Wf:∀k cs b,ak k σ.boxes=some cs->g.box k=some b->b<w.heap.size/\(∀o,g.G b o=none)/\cy w g b 0 cs:=by
  intro k cs b e U;obtain⟨b',S,f2,f3,f4⟩:=p.box k cs e;rw[U]at S;cases S;exact⟨f2,f3,f4⟩
 have Wg:∀k cs ok V b b',k ∉ bx.map (·.2)->ak k σ.boxes=some cs->g.box k=some b->ak ok H=some V->g'.box ok=some b'->b≠b':=by
  rintro k cs ok V b b' A E e3 e4 e5 rfl;rcases M ok V b e4 e5 with h|⟨W,T,h1,h2,Q⟩
  ·have:=(Wf k cs b E e3).1;omega
  ·have:=p.fF k W cs T b E h2 e3 Q;subst this;exact A h1
 refine⟨⟨B.oF,?_,?_,?_,?_,?_,?_⟩,⟨D.os,D.tape,D.output,D.size,fun b U Y=>D.block b U (fun o ho=>Y o (F3 b o ho)),fun b o U Y=>D.kept b o U (fun ho=>Y (F3 b o ho)),hle.1,?_,?_,?_,?_⟩,hle,hψ⟩
 ·intro k cs e;rcases vi k cs e with ⟨ok,V,A,E,rfl⟩|⟨J,A,E⟩
  ·obtain⟨b,S,f2,f3,f4⟩:=B.box ok V (by simpa[ze]using E);exact⟨b,by simp only[g1,A];exact S,f2,f3,JX (g:=g') (g1:=g1) (us:=H.map (·.1)) (show g'.G=g'.G from rfl) hψ (C.names ok V E) f4⟩
  ·obtain⟨b,b1,b2,b3,b4⟩:=p.box k cs E;have Y:=SJ k cs b A E b1;exact⟨b,by simp only[g1,J];exact b1,Nat.lt_of_lt_of_le b2 D.size,fun o=>O b o b2 (Y o) (b3 o),(cy.of_same (fun o=>D.kept b o b2 (Y o)) b4).mono hle⟩
 ·intro k k' cs T b e e' f P;simp only[g1]at f P;rcases vi k cs e with ⟨ok,V,A,E,_⟩|⟨J,A,E⟩
  ·rw[A]at f;rcases vi k' T e' with ⟨ZW,SR,I,K,_⟩|⟨ZX,I,K⟩
   ·rw[I]at P;have:=B.fF ok ZW V SR b (by simpa[ze]using E) (by simpa[ze]using K) f P;subst this;rw[<- C.psi k ok A,<- C.psi k' ok I]
   ·rw[ZX]at P;exact absurd rfl (Wg k' T ok V b b I K P E f)
  ·rw[J]at f;rcases vi k' T e' with ⟨ZW,SR,I,K,_⟩|⟨ZX,I,K⟩
   ·rw[I]at P;exact absurd rfl (Wg k cs ZW SR b b A E f K P)
   ·rw[ZX]at P;exact p.fF k k' cs T b E K f P
 ·intro k n e;obtain⟨fU,h1,h2⟩:=p.tok k n e;refine⟨fU,h1,fun b q hi hr=>?_⟩;obtain⟨Q,h4,h5⟩:=h2 b q hi hr;subst hr;refine⟨Nat.lt_of_lt_of_le Q D.size,fun o IK Lq=>?_,fun k' cs e' P=>?_⟩
  ·obtain⟨h6,⟨u,h7⟩,h8⟩:=h4 o IK Lq;have Y:=XB k n b q hi e h1 o;exact⟨O b o Q Y h6,⟨u,(D.kept b o Q Y).1.trans h7⟩,(D.kept b o Q Y).2.trans h8⟩
  ·simp only[g1]at P;rcases vi k' cs e' with ⟨ZW,SR,I,K,_⟩|⟨ZX,I,K⟩
   ·rw[I]at P;rcases M ZW SR b K P with h|⟨W,T,g1',g2',g3'⟩
    ·omega
    ·exact h5 W T g2' g3'
   ·rw[ZX]at P;exact h5 k' cs K P
 ·exact p.gA
 ·intro k e;show k∈po.map (·.1)++σ.used;simp only[g1]at e;rw[List.mem_append];cases hp:ak k po with
  | some ok=>exact .inl (List.mem_map.2 ⟨_,dF hp,rfl⟩)
  | none =>
   rw[hp]at e;exact .inr (p.used k e)
 ·intro k cs b e f o;simp only[g1]at f ⊢;rcases vi k cs e with ⟨ok,V,A,E,_⟩|⟨J,A,E⟩
  ·rw[A]at f ⊢;exact B.room ok V b (by simpa[ze]using E) f o
  ·rw[J]at f ⊢;have Y:=SJ k cs b A E f o;have b2:=(Wf k cs b E f).1;obtain⟨q1,q2⟩:=p.room k cs b E f o;exact⟨fun ho=>(q1 ho).imp fun u hu=>(D.kept b o b2 Y).1.trans hu,(D.kept b o b2 Y).2.trans q2⟩
 ·intro b o v h;rcases D.new b o v h with N|N|N
  ·exact .inl N
  ·exact .inr (.inl N)
  ·exact .inr (.inr (F3 b o N))
 ·intro k cs b e f;simp only[g1]at f;rcases vi k cs e with ⟨ok,V,A,E,_⟩|⟨J,A,E⟩
  ·rw[A]at f;rcases M ok V b E f with h|⟨W,T,h1,h2,Q⟩
   ·exact .inl h
   ·exact .inr ⟨W,T,h2,Q⟩
  ·rw[J]at f;exact .inr ⟨k,cs,E,f⟩
 ·intro k n b q hi e A;exact .inr ⟨k,n,q,hi,e,A,aam _,aam _⟩
 ·intro k wQ e;cases hc:ak k IB.boxes with
  | none=>exact absurd hc e
  | some cs =>
   rcases vi k cs hc with ⟨ok,V,A,E,_⟩|⟨J,A,E⟩
   ·rcases C.kept k ok A with ⟨h1,h2,Q⟩|⟨_,h2⟩
    ·obtain⟨_,T,h4⟩:=C.keys ok k h2;obtain⟨b,U,_⟩:=p.box k T h4;obtain⟨q1,q2⟩:=Sw k ok A ⟨b,U⟩;exact⟨by rw[h4];simp,by simp only[g1,A];exact q1,by simp only[g1,A];exact q2⟩
    ·omega
   ·exact⟨by rw[E];simp,by simp only[g1,J],by simp only[g1,J]⟩
section
variable {P : Program} {X : Ctx}
theorem bW.F4 {o:Oper} {env:Env} {σ:St} {f:FuncId} {args:Array Operand} {B:Array TypeId} (q:o.op = .call {callee := .value (.func f),args:=args,argTypes:=B})
  {l:List AV} (S:gI (aK X env) args.toList=some l) {E N:List (Nat×List AV)} {U:List AV} {r:AV} (hq:dJ P X f E U r N) {bx po:List (Nat×Nat)} {ψ:Nat->Nat} {nb:List (Nat×List AV)}
  (A:∀ts,fy ⟨fun k=>ak k bx,fun _=>none⟩ ts U l) (C:∀bs us,(∀k∈bx.map (·.2),ak k bs=ak k σ.boxes)->(∀k∈po.map (·.1),k∈us↔k∈σ.used)->ZU bs us E N bx po ψ nb) (hr:Ml (N.map (·.1)) r=true) :
  bW P X o env σ (r.rn ψ) (JY (bx.map (·.2)) nb (po.map (·.1))) ⟨[],bx.map (·.2)++nb.map (·.1)++po.map (·.1)⟩:=by
 intro cW G w g a next Q h1 h2 p T di Y;have W:=C G.boxes G.used (fun k D=>(h2 k (.inr (by simp only[List.mem_append];exact .inl (.inl D)))).1) (fun k D=>(h2 k (.inr (by simp only[List.mem_append];exact .inr D))).2.2);have qf:∀x∈args.toList,x∈o.op.operands.toList:=by
  intro x O;rw[q];simp only[Op.operands,Call.operands,Array.toList_append,List.mem_append];exact .inr O
 have xI:gI (aK X cW) args.toList=some l:=by
  rw[th _ (fun x O=>h1 x (qf x O))];exact S
 have fW:=Av (g:=g) (ev:=a.eval) (fun x v O=>cz di T O) xI;have J:(execOp a.eval o).run P w = .ok (.enter f (args.map a.eval)) w:=by
  obtain⟨dst,op,I,pos,V,guard⟩:=o;simp only at q;subst q;simp[execOp,resolve,Deferred.ofValue,invoke,Act.eval,hq.1 _ w]
 unfold Oper.wp;rw[J,Oper.upon_enter]
 have M:=(p.fY ⟨fun k=>ak k bx,fun _=>none⟩ (ze E) (fun k cs e=>by
   obtain⟨H,oc,e1,e2,e3⟩:=W.cells G.toks k cs e;exact⟨H,oc,e1,e2,e3⟩) (fun k k' H e e'=>mM W.d2 (dF e) (dF e')) (fun k n e=>by simp[ze,ak]at e) (fun k k' m m' H e=>by simp at e) (fun k e=>by
   simp only[ne_eq,not_true,or_false]at e;cases K:ak k bx with
   | none=>exact absurd K e
   | some kk=>exact(W.keys k kk K).1)).1
 have:=hq.2 (g.fY ⟨fun k=>ak k bx,fun _=>none⟩) w (args.toList.map a.eval) M T (vg (ou p) (A G.toks) fW).1;rw[show(args.toList.map a.eval).toArray=args.map a.eval from by rw[<- Array.toList_map]]at this;refine this.mono ?_;rintro e w' ⟨u,g',rfl,h3,h4,h5⟩;obtain⟨k1,k2,k3,k4⟩:=ZV p W h4 h5;refine Y u w' _ ?_ k1 k2 k3;exact(SQ (g:=g') (us:=N.map (·.1)) (by rfl) k4 hr h3).1
end
end Go.cu
namespace Go.cu
theorem dJ.of {P:Program} {X:Ctx} {f:FuncId} {T:Func} {c:Code} {E N:List (Nat×List AV)} {args:List AV} {r:AV} (hf:P.funcs[f]?=some T) (S:T.body=some c) (Q:Enters P f)
  (C:args.length<=T.ntmps) (env:Env) (σ:St) (J:env=(args.zipIdx.map fun(v,i)=>(i,v))) (Y:ze E=σ)
  (h:∀β,AK P X f T.ntmps β (HR β r N) [.code c] env σ):dJ P X f E args r N:=by
 subst Y;refine⟨Q,fun g w vs p O V cs=>?_⟩;have U:=(bH.get V).1;have M:Live X ⟨w,g,ze E⟩ T.ntmps env (ze E) g w {tmps:=vs.toArray++Array.replicate (T.ntmps-vs.toArray.size) undef,defers:=[]}:=by
  refine⟨p,O,?_,gW.refl _ _ _,?_,rfl⟩
  ·intro t a e;subst J;have W:∀(l:List AV) (us:List Value) (k:Nat),bH g l us->ak t ((l.zipIdx k).map fun(v,i)=>(i,v))=some a->k<=t/\∃u,us[t-k]?=some u/\aJ g a u:=by
    intro l
    induction l with
    | nil=>intro us k _ e;simp[ak]at e
    | cons v l B =>
     intro us k I e;simp only[bH]at I;obtain⟨u,us,rfl,h1,h2⟩:=I;simp only[List.zipIdx_cons,List.map_cons,aq]at e;split at e
     ·simp_all
     ·grind
   obtain⟨_,u,D,q⟩:=W args vs 0 V e;simp at D;have H:t<vs.length:=(List.getElem?_eq_some_iff.1 D).1;have:(vs.toArray++Array.replicate (T.ntmps-vs.toArray.size) undef).getD t undef=u:=by
    rw[Array.getD_eq_getD_getElem?,Array.getElem?_append_left (by simpa using H)];simp[D]
   rw[this];exact q
  ·simp;omega
 obtain⟨e,w',fr,h1,D,q,K⟩:=h ⟨w,g,ze E⟩ g w _ cs M;have G:Frame.enter P f vs.toArray .normal =
   (top f).at {tmps:=vs.toArray++Array.replicate (T.ntmps-vs.toArray.size) undef,defers:=[]} [.code c]:=by
  simp[Frame.enter,Frame.at,hf,S,top]
 exact⟨_,w',fr,h1,by rw[G];exact D,q,K⟩
def BM:List AV->AV
 | [] => .c .undef
 | [x]=>x
 | l => .gB l
def vk (bx:List (Nat×Nat)) (ks:List Nat):Bool:=both (distinct (bx.map (·.2))) (both (FY bx) (Dw ks (fX bx)))
section
variable {P : Program} {X : Ctx} {f : FuncId} {n : Nat} {β : jH} {K : List Item} {env : Env}
theorem AK.C8 (G:(∃U,K = .code .ret::U)\/K=[]) (hX:cC P X) {T:Func} (hf:P.funcs[f]?=some T) {bs:List (Nat×List AV)} {ts:List (Nat×Nat)} {us:List Nat} {l:List AV} (I:s8 X bs env T.results.toList=some l) (bx:List (Nat×Nat)) {r:AV} {J:List (Nat×List AV)}
  (E:vk bx (fX J)=true) (Y:Conv ⟨fun k=>ak k bx,fun _=>none⟩ ts r (Go.cu.BM l)) (W:FW ⟨fun k=>ak k bx,fun _=>none⟩ ts bs J):AK P X f n β (HR β r J) K env ⟨bs,ts,us⟩:=by
 intro g w a cs N;unfold vk at E;obtain⟨C,E⟩:=dW E;obtain⟨B,S⟩:=dW E;rw[kV]at S;obtain⟨u,Q,D⟩:=oR hX N I;obtain⟨O,M⟩:=N.inv.fY ⟨fun k=>ak k bx,fun _=>none⟩ (ze J) (fun k cells e=>sr W k cells e) (fun k k' H A q=>mM C (dF A) (dF q))
  (fun k n e=>by simp[ze,ak]at e) (fun k k' m m' H e=>by simp at e) (fun k e=>by
   simp only[ne_eq,not_true,or_false]at e;have:=sq S k (by rw[kV];exact nE e)
   exact this)
 suffices V:aJ (g.fY ⟨fun k=>ak k bx,fun _=>none⟩) r u/\∀k,1000000<=k->ak k (ze J).boxes≠none->ak k bx=some k by
  rcases G with ⟨U,rfl⟩|rfl
  ·exact⟨.returned u,w,_,⟨u,_,rfl,V.1,O,N.frame.trans (M V.2)⟩,.one step_ret,rfl,rfl,N.defers,rfl,T,hf,Q⟩
  ·exact⟨.returned u,w,_,⟨u,_,rfl,V.1,O,N.frame.trans (M V.2)⟩,.one step_end,rfl,rfl,N.defers,rfl,T,hf,Q⟩
 refine⟨?_,fun k p e=>?_⟩
 ·refine(qJ (ou N.inv) Y ?_).1;clear Y
  match l,I,D with
  | [],_,D=>simp only[Go.cu.BM,aJ,Rel];exact D
  | [x],_,D=>exact D
  | x::y::r,_,D=>exact D
 ·cases E:ak k (ze J).boxes with
  | none=>exact absurd E e
  | some c =>
   obtain⟨H,oc,q1,q2,_⟩:=sr W k c E;have:=wj B k H p q1;subst this;exact q1
theorem AK.BM (hX:cC P X) {T:Func} (hf:P.funcs[f]?=some T) {bs:List (Nat×List AV)} {ts:List (Nat×Nat)} {us:List Nat} {l:List AV} (I:s8 X bs env T.results.toList=some l) (bx:List (Nat×Nat)) {r:AV} {N:List (Nat×List AV)}
  (E:vk bx (fX N)=true) (Y:Conv ⟨fun k=>ak k bx,fun _=>none⟩ ts r (Go.cu.BM l)) (W:FW ⟨fun k=>ak k bx,fun _=>none⟩ ts bs N):AK P X f n β (HR β r N) (.code .ret::K) env ⟨bs,ts,us⟩ :=
 AK.C8 (.inl ⟨_,rfl⟩) hX hf I bx E Y W
end
structure MC (c:Nat->Nat->List AV):Prop where
 conv:∀(ρ:Ren) (ts:List (Nat×Nat)) (a b a' b':Nat),ρ.bx a=some a'->ρ.bx b=some b'->fy ρ ts (c a b) (c a' b')
 rn:∀(ψ:Nat->Nat) (a b:Nat),PS ψ (c a b)=c (ψ a) (ψ b)
 ok:∀(us:List Nat) (a b:Nat),mem a us=true->mem b us=true->wP us (c a b)=true
abbrev mI (c:Nat->Nat->List AV) (s f:List CV):List (Nat×List AV):=[(1000000,c 1000001 1000002),(1000001,s.map AV.c),(1000002,f.map AV.c)]
abbrev mO (c:Nat->Nat->List AV) (s f:List CV):List (Nat×List AV):=[(1000000,c 999991 999992),(999991,s.map AV.c),(999992,f.map AV.c)]
abbrev mI1 (c:Nat->Nat->List AV) (f:List CV):List (Nat×List AV):=[(1000000,c 0 1000002),(1000002,f.map AV.c)]
abbrev mO1 (c:Nat->Nat->List AV) (f:List CV):List (Nat×List AV):=[(1000000,c 0 999992),(999992,f.map AV.c)]
def PT (M u C:Nat) (k:Nat):Nat:=match Nat.beq k 1000000 with
 | true=>M
 | false=>match Nat.beq k 999991 with
  | true=>u
  | false=>match Nat.beq k 999992 with
   | true=>C
   | false=>k
def vl (us:List Nat) (M I U u C:Nat):Bool :=
 both (distinct [M,I,U]) (both (distinct [M,u,C]) (both (match mem u us with|true=>false|false=>true) (both (match mem C us with|true=>false|false=>true) (both (Nat.blt u 1000000) (Nat.blt C 1000000)))))
def wu (us:List Nat) (M U C:Nat):Bool:=both (distinct [M,U]) (both (distinct [M,C]) (both (match mem C us with|true=>false|false=>true) (Nat.blt C 1000000)))
theorem z9 {a b c:Nat} (h:distinct [a,b,c]=true):a≠b/\a≠c/\b≠c:=by
 simp only[distinct]at h;split at h
 ·simp at h
 ·rename_i h1;split at h
  ·simp at h
  ·rename_i h2;have V:=cS h1;have D:=cS h2;simp at V D;exact⟨V.1,V.2,D⟩
theorem acF {bs:List (Nat×List AV)} {us:List Nat} {c G:Nat->Nat->List AV} (N:MC c) (Q:MC G) {s f P V:List CV} {M I U u C:Nat} (H:vl us M I U u C=true)
  (h1:ak M bs=some (c I U)) (h2:ak I bs=some (s.map AV.c)) (J:ak U bs=some (f.map AV.c)) :
  ZU bs us (mI c s f) (mO G P V) [(1000000,M),(1000001,I),(1000002,U)] [(M,1000000),(u,999991),(C,999992)] (PT M u C) [(M,G u C),(u,P.map AV.c),(C,V.map AV.c)]:=by
 unfold vl at H;obtain⟨D,H⟩:=dW H;obtain⟨B,H⟩:=dW H;obtain⟨A,H⟩:=dW H;obtain⟨q,H⟩:=dW H;obtain⟨p,b2⟩:=dW H;have W:mem u us=false:=by split at A<;>simp_all
 have T:mem C us=false:=by split at q<;>simp_all
 obtain⟨K,S,E⟩:=z9 B;refine⟨D,?_,?_,?_,?_,?_,?_,?_⟩
 ·intro k kk e;simp only[aq]at e;split at e
  ·simp_all
  ·split at e
   ·simp_all
   ·split at e
    ·simp_all
    ·simp[ak]at e
 ·intro ts k cs e;simp only[aq]at e;split at e
  ·simp at e;subst_vars;exact⟨M,_,fe,h1,N.conv _ _ _ _ _ _ fe fe⟩
  ·split at e
   ·simp at e;subst_vars;exact⟨I,_,fe,h2,dD _⟩
   ·split at e
    ·simp at e;subst_vars;exact⟨U,_,fe,J,dD _⟩
    ·simp[ak]at e
 ·intro O cs' e;simp only[aq]at e;split at e
  ·simp at e;subst_vars;exact⟨1000000,G 999991 999992,fe,fe,by rw[Q.rn];rfl⟩
  ·split at e
   ·simp at e;subst_vars;exact⟨999991,P.map AV.c,VL,fe,XQ⟩
   ·split at e
    ·simp at e;subst_vars;exact⟨999992,V.map AV.c,by simp[aq,Ne.symm S,Ne.symm E],fe,XQ⟩
    ·simp[ak]at e
 ·intro O ok e;simp only[aq]at e;split at e
  ·simp at e;subst_vars;rfl
  ·split at e
   ·simp at e;subst_vars;rfl
   ·split at e
    ·simp at e;subst_vars;rfl
    ·simp[ak]at e
 ·intro k hk;have Y:=mem_iff.1 hk;simp at Y;rcases Y with rfl|rfl|rfl
  ·exact⟨M,fe⟩
  ·exact⟨u,VL⟩
  ·exact⟨C,by simp[aq,Ne.symm S,Ne.symm E]⟩
 ·intro O ok e;simp only[aq]at e;split at e
  ·simp at e;subst_vars;exact .inl ⟨aam _,fe,fe⟩
  ·split at e
   ·simp at e;subst_vars;exact .inr ⟨cS W,Nat.blt_eq.mp p⟩
   ·split at e
    ·simp at e;subst_vars;exact .inr ⟨cS T,Nat.blt_eq.mp b2⟩
    ·simp[ak]at e
 ·intro ok cs e;simp only[aq]at e;split at e
  ·simp at e;subst_vars;exact Q.ok _ _ _ rfl rfl
  ·split at e
   ·simp at e;subst_vars;exact vj _ _
   ·split at e
    ·simp at e;subst_vars;exact vj _ _
    ·simp[ak]at e
theorem ZY {bs:List (Nat×List AV)} {us:List Nat} {c G:Nat->Nat->List AV} (u:MC c) (N:MC G) (q:∀ρ ts b T,ρ.bx b=some T->fy ρ ts (c 0 b) (c 0 T)) (W:∀us b,mem b us=true->wP us (G 0 b)=true) (K:∀a b,G a b=G 0 b) {f P:List CV} {M U C:Nat} (H:wu us M U C=true)
  (h1:ak M bs=some (c 0 U)) (J:ak U bs=some (f.map AV.c)) :
  ZU bs us (mI1 c f) (mO1 G P) [(1000000,M),(1000002,U)] [(M,1000000),(C,999992)] (PT M (C+1) C) [(M,G 0 C),(C,P.map AV.c)]:=by
 unfold wu at H;obtain⟨I,H⟩:=dW H;obtain⟨O,H⟩:=dW H;obtain⟨E,D⟩:=dW H;have V:mem C us=false:=by split at E<;>simp_all
 have S:M≠C:=by
  simp only[distinct]at O;split at O
  ·simp at O
  ·rename_i h;have:=cS h;simp at this;exact this
 refine⟨I,?_,?_,?_,?_,?_,?_,?_⟩
 ·intro k p e;simp only[aq]at e;split at e
  ·simp_all
  ·split at e
   ·simp_all
   ·simp[ak]at e
 ·intro ts k cs e;simp only[aq]at e;split at e
  ·simp at e;subst_vars;exact⟨M,_,fe,h1,q _ _ _ _ fe⟩
  ·split at e
   ·simp at e;subst_vars;exact⟨U,_,fe,J,dD _⟩
   ·simp[ak]at e
 ·intro Q B e;simp only[aq]at e;split at e
  ·simp at e;subst_vars;exact⟨1000000,G 0 999992,fe,fe,by rw[N.rn,K];rfl⟩
  ·split at e
   ·simp at e;subst_vars;exact⟨999992,P.map AV.c,by simp[aq,Ne.symm S],fe,XQ⟩
   ·simp[ak]at e
 ·intro Q ok e;simp only[aq]at e;split at e
  ·simp at e;subst_vars;rfl
  ·split at e
   ·simp at e;subst_vars;rfl
   ·simp[ak]at e
 ·intro k A;have Y:=mem_iff.1 A;simp at Y;rcases Y with rfl|rfl
  ·exact⟨M,fe⟩
  ·exact⟨C,by simp[aq,Ne.symm S]⟩
 ·intro Q ok e;simp only[aq]at e;split at e
  ·simp at e;subst_vars;exact .inl ⟨aam _,fe,fe⟩
  ·split at e
   ·simp at e;subst_vars;exact .inr ⟨cS V,Nat.blt_eq.mp D⟩
   ·simp[ak]at e
 ·intro ok cs e;simp only[aq]at e;split at e
  ·simp at e;subst_vars;exact W _ _ rfl
  ·split at e
   ·simp at e;subst_vars;exact vj _ _
   ·simp[ak]at e
section
variable {P : Program} {X : Ctx} {ops : Array Oper} {o : Oper} {rest : List Oper} {env : Env} {acc : List Fp} {Q : Env -> St -> List Fp -> Prop} {bs : List (Nat × List AV)} {ts : List (Nat × Nat)} {us : List Nat}
theorem kW {bs bs':List (Nat×List AV)} {ks:List Nat} (h:∀k∈ks,ak k bs'=ak k bs) {k:Nat} (D:k∈ks) {v:List AV} (e:ak k bs=some v):ak k bs'=some v:=by rw[h k D];exact e
theorem PU {us us':List Nat} {M I U u C:Nat} (h:∀k∈[M,u,C],k∈us'↔k∈us) (e:vl us M I U u C=true):vl us' M I U u C=true:=by
 have Y:∀k∈[M,u,C],mem k us'=mem k us:=by
  intro k D;rw[Bool.eq_iff_iff,mem_iff,mem_iff];exact h k D
 unfold vl at e ⊢;rw[Y u cn,Y C cn];exact e
theorem ai.ZZ (kn:List Nat) (K:cV ops.toList kn env o=some true) {f:FuncId} {args:Array Operand} {B:Array TypeId} (q:o.op = .call {callee := .value (.func f),args:=args,argTypes:=B})
  {c G:Nat->Nat->List AV} {s fr V Y:List CV} {N:List AV} {r:AV} (hq:dJ P X f (mI c s fr) N r (mO G V Y)) (E:MC c) (J:MC G) {d:Nat} (D:o.dst=some d)
  {l:List AV} (C:gI (aK X env) args.toList=some l) {M:Nat} {A:List AV} (u:l = .ptr M 0::A) {I U:Nat} {H T S:List AV} (h1:ak M bs=some H) (e1:H=c I U) (h2:ak I bs=some T) (e2:T=s.map AV.c) (h3:ak U bs=some S) (e3:S=fr.map AV.c)
  (qy:∀ts,fy ⟨fun k=>ak k [(1000000,M),(1000001,I),(1000002,U)],fun _=>none⟩ ts N l) (kf:vl us M I U (100000+d) (200000+d)=true) (hr:Ml [1000000,999991,999992] r=true) {O:AV} (W:r.rn (PT M (100000+d) (200000+d))=O)
  {bs':List (Nat×List AV)} (j9:lU [M,I,U] bs=bs')
  (k:ai P X ops rest ((d,O)::env) ⟨(M,G (100000+d) (200000+d))::(100000+d,V.map AV.c)::(200000+d,Y.map AV.c)::bs',ts,M::(100000+d)::(200000+d)::us⟩ (⟨[],[M,I,U,M,100000+d,200000+d,M,100000+d,200000+d]⟩::acc) Q):ai P X ops (o::rest) env ⟨bs,ts,us⟩ acc Q:=by
 subst W j9 e1 e2 e3;have hs:=bW.F4 (env:=env) (σ:=⟨bs,ts,us⟩) q C hq (bx:=[(1000000,M),(1000001,I),(1000002,U)]) (po:=[(M,1000000),(100000+d,999991),(200000+d,999992)]) (ψ:=PT M (100000+d) (200000+d)) qy
  (fun Ob PO p hu=>acF E J (PU hu kf) (kW p cn h1) (kW p cn h2) (kW p cn h3)) hr
 exact ai.step (dx K) hs (wq _ _ _) (by rw[D];exact k)
theorem ai.XE (kn:List Nat) (J:cV ops.toList kn env o=some true) {f:FuncId} {args:Array Operand} {B:Array TypeId} (q:o.op = .call {callee := .value (.func f),args:=args,argTypes:=B})
  {c G:Nat->Nat->List AV} {fr Y:List CV} {N:List AV} {r:AV} (hq:dJ P X f (mI1 c fr) N r (mO1 G Y)) (E:MC c) (I:MC G) (D:∀ρ ts b T,ρ.bx b=some T->fy ρ ts (c 0 b) (c 0 T)) (W:∀us b,mem b us=true->wP us (G 0 b)=true) (C:∀a b,G a b=G 0 b) {d:Nat} (A:o.dst=some d)
  {l:List AV} (u:gI (aK X env) args.toList=some l) {M:Nat} {tl:List AV} (hl':l = .ptr M 0::tl) {U:Nat} {H S:List AV} (h1:ak M bs=some H) (e1:H=c 0 U) (h3:ak U bs=some S) (e3:S=fr.map AV.c)
  (qy:∀ts,fy ⟨fun k=>ak k [(1000000,M),(1000002,U)],fun _=>none⟩ ts N l) (O:wu us M U (200000+d)=true) (hr:Ml [1000000,999992] r=true) {K:AV} (V:r.rn (PT M (200000+d+1) (200000+d))=K)
  {bs':List (Nat×List AV)} (j9:lU [M,U] bs=bs')
  (k:ai P X ops rest ((d,K)::env) ⟨(M,G 0 (200000+d))::(200000+d,Y.map AV.c)::bs',ts,M::(200000+d)::us⟩ (⟨[],[M,U,M,200000+d,M,200000+d]⟩::acc) Q):ai P X ops (o::rest) env ⟨bs,ts,us⟩ acc Q:=by
 subst V j9 e1 e3;have hs:=bW.F4 (env:=env) (σ:=⟨bs,ts,us⟩) q u hq (bx:=[(1000000,M),(1000002,U)]) (po:=[(M,1000000),(200000+d,999992)]) (ψ:=PT M (200000+d+1) (200000+d)) qy
  (fun Ob PO p hu=>ZY E I D W C (by
   have hm:mem (200000+d) PO=mem (200000+d) us:=by
    rw[Bool.eq_iff_iff,mem_iff,mem_iff];exact hu _ cn
   unfold wu at O ⊢
   rw[hm];exact O) (kW p cn h1) (kW p cn h3)) hr
 exact ai.step (dx J) hs (wq _ _ _) (by rw[A];exact k)
end
end Go.cu
namespace Go.cu
theorem cy.head {w:World} {g:Gh} {b:Nat}:∀{cells tail:List AV} {o:Nat},cy w g b o (cells++tail)->cy w g b o cells
 | [],_,_,_=>trivial
 | _::_,_,_,⟨h1,h2,V⟩=>⟨h1,h2,cy.head V⟩
theorem Oe {w:World} {g:Gh} {σ:St} (h:Inv w g σ) {T:Nat} {cells cells':List AV} (D:ak T σ.boxes=some cells) (E:∀b,g.box T=some b->cy w g b 0 cells->cy w g b 0 cells') :
  Inv w g ⟨tZ T cells' σ.boxes,σ.toks,σ.used⟩/\gW w g σ w g ⟨tZ T cells' σ.boxes,σ.toks,σ.used⟩:=by
 have Q:∀k cs,ak k (tZ T cells' σ.boxes)=some cs->(k=T/\cs=cells')\/ak k σ.boxes=some cs:=by
  intro k cs e;rw[ez]at e;split at e
  ·simp_all
  ·exact .inr e
 have O:∀k cs,ak k (tZ T cells' σ.boxes)=some cs->∃p,ak k σ.boxes=some p:=by grind
 refine⟨⟨h.oF,?_,?_,?_,h.gA,h.used,?_⟩,⟨rfl,rfl,rfl,aam _,fun _ _ _=>rfl,fun _ _ _ _=>⟨rfl,rfl⟩,jm.le.refl _,fun _ _ _ h => .inl h,fun k cs b h1 h2=>?_,
   fun k n b S W h1 h2 => .inr ⟨k,n,S,W,h1,h2,aam _,aam _⟩,fun k _ e=>?_⟩⟩
 ·intro k cs e;rcases Q k cs e with ⟨rfl,rfl⟩|e'
  ·obtain⟨b,U,P,N,J⟩:=h.box k _ D;exact⟨b,U,P,N,E b U J⟩
  ·exact h.box k cs e'
 ·intro k k' cs Y b e e';obtain⟨I,q⟩:=O k cs e;obtain⟨V,M⟩:=O k' Y e';exact h.fF k k' I V b q M
 ·intro k n e;obtain⟨C,h1,h2⟩:=h.tok k n e;refine⟨C,h1,fun b S W K=>?_⟩;obtain⟨H,G,B⟩:=h2 b S W K;refine⟨H,G,fun k' cs e'=>?_⟩;obtain⟨I,q⟩:=O k' cs e';exact B k' I q
 ·intro k cs b e;obtain⟨I,q⟩:=O k cs e;exact h.room k I b q
 ·grind
 ·cases E:ak k (tZ T cells' σ.boxes)with
  | none=>exact absurd E e
  | some cs =>
   obtain⟨I,q⟩:=O k cs E;exact⟨by rw[q];simp,rfl,rfl⟩
section
variable {P : Program} {X : Ctx} {f : FuncId} {n : Nat} {β : jH} {R : Ending -> World -> Prop} {K : List Item} {env : Env}
theorem AK.vm {bs:List (Nat×List AV)} {ts:List (Nat×Nat)} {us:List Nat} (T:Nat) {cells:List AV} (cells' tail:List AV) (D:ak T bs=some cells) (E:cells=cells'++tail) {bs':List (Nat×List AV)} (p:wU T cells' bs=some bs')
  (h:AK P X f n β R K env ⟨bs',ts,us⟩):AK P X f n β R K env ⟨bs,ts,us⟩:=by
 rw[rW]at p;simp at p;subst p E;intro g w a cs N;obtain⟨u,Y⟩:=Oe N.inv (cells':=cells') D (fun b _ E=>E.head);exact h g w a cs ⟨u,N.q8,N.env,N.frame.trans Y,N.size,N.defers⟩
theorem DH {w:World} {g:Gh} {b:Nat} {x y:AV}:∀{pre tail:List AV} {o:Nat},(∀u,aJ g x u->aJ g y u)->(x.one=true->y.one=true)->cy w g b o (pre++x::tail)->cy w g b o (pre++y::tail)
 | [],_,_,I,q,⟨⟨u,h1,h2,V⟩,h4,h5⟩=>⟨⟨u,h1,I u h2,q V⟩,h4,h5⟩
 | _::_,_,_,I,q,⟨h1,h2,V⟩=>⟨h1,h2,DH I q V⟩
theorem AK.empty {bs:List (Nat×List AV)} {ts:List (Nat×Nat)} {us:List Nat} (T Y s:Nat) (pre tail:List AV) {cells V:List AV} {S:Nat} (D:ak T bs=some cells) (E:cells=pre ++ .own .exact S []::tail) (H:ak Y bs=some V)
  {bs':List (Nat×List AV)} (p:wU T (pre ++ .gy Y 0 s 0::tail) bs=some bs') (h:AK P X f n β R K env ⟨bs',ts,us⟩):AK P X f n β R K env ⟨bs,ts,us⟩:=by
 rw[rW]at p;simp at p;subst p E;intro g w a cs N;obtain⟨Q,W,_⟩:=N.inv.box Y V H
 obtain⟨O,M⟩:=Oe N.inv (cells':=pre ++ .gy Y 0 s 0::tail) D (fun b _ E=>DH (fun u A=>by
  simp only[aJ,pQ]at A ⊢;obtain⟨base,J,I,G,U,B,_,C⟩:=A;simp at U;subst U C
  exact⟨Q,0,base,W,G,aam _,cn,.inl rfl⟩) (fun _=>rfl) E)
 exact h g w a cs ⟨O,N.q8,N.env,N.frame.trans M,N.size,N.defers⟩
end
section
variable {P : Program} {X : Ctx}
theorem bW.B6 (hX:cC P X) {o:Oper} {env:Env} {σ:St} {t:TypeId} {x:Operand} {O Y:Option Operand} (q:o.op = .slice t x none O Y) {i j:TI} {e:Nat} (G:X.ti t=some i) (C:i.kind = .slice e) (u:X.ti e=some j)
  {T off s n:Nat} (p:aK X env x=some (.gy T off s n)) (hs:j.size=s) {h:Nat} (hh:bound (aK X env) O=some (some h)) (hm:bound (aK X env) Y=some (some h)) (h1:h<=n) :
  bW P X o env σ (.gy T off s h) (fun σ=>σ) ⟨[],[]⟩:=by
 refine bW.val fun W w g S K ir H J=>?_;have xI:aK X W x=some (.gy T off s n):=by rw[K x (by rw[q];simp[Op.operands])];exact p
 have V:bound (aK X W) O=some (some h):=by
  rw[kF O (fun y A=>K y (by rw[q];subst A;simp[Op.operands]))];exact hh
 have U:bound (aK X W) Y=some (some h):=by
  rw[kF Y (fun y A=>K y (by rw[q];subst A;simp[Op.operands]))];exact hm
 have D:=cz (a:=S) J H xI;simp only[aJ]at D;obtain⟨b,E,Q,BL,e1,B,Yq,U9⟩:=D;have b1:eV ((none:Option Operand).map S.eval) none:=oh (g:=g) (ev:=S.eval) (ρ:=aK X W) (fun x v N=>cz J H N) rfl;have b2:=oh (g:=g) (ev:=S.eval) (fun x v N=>cz J H N) V;have b3:=oh (g:=g) (ev:=S.eval) (fun x v N=>cz J H N) U;have hb:∀w,(Instr.sliceBounds true n E ((none:Option Operand).map S.eval) (O.map S.eval) (Y.map S.eval)).run P w = .ok (0,h,h) w :=
  fun w=>pT true b3 b2 b1 (Nat.le_trans h1 B) (aam _)
 refine⟨.slice (if h=0 then Q else Q.map (·.add (0*j.size))) (h-0) (h-0),?_,?_⟩
 ·obtain⟨dst,op,I,pos,M,guard⟩:=o;simp only at q;subst q;have:=gw (w:=w) hX G C u (base:=Q) hb;simp only[Option.map_none]at this;simp[execOp,e1,this]
 ·simp only[aJ];refine⟨b,h-0,_,BL,rfl,aam _,?_,?_⟩
  ·have:h*s<=E*s:=Nat.mul_le_mul_right _ (Nat.le_trans h1 B);simp only[Nat.sub_zero];omega
  ·by_cases h0:h=0
   ·left;omega
   ·right;rw[if_neg h0];rcases U9 with h2|h2
    ·omega
    ·rw[h2,Option.map_some,Nat.zero_mul,Addr.add_lit,Nat.add_zero]
end
section
variable {P : Program} {X : Ctx} {ops : Array Oper} {o : Oper} {rest : List Oper} {env : Env} {acc : List Fp} {Q : Env -> St -> List Fp -> Prop} {σ : St}
theorem ai.B6 (hX:cC P X) (kn:List Nat) (S:cV ops.toList kn env o=some true) {t:TypeId} {x:Operand} {O U:Option Operand} (q:o.op = .slice t x none O U) {d:Nat} (H:o.dst=some d) {i j:TI} {e:Nat} (I:X.ti t=some i) (D:i.kind = .slice e) (N:X.ti e=some j)
  {T off s n:Nat} (p:aK X env x=some (.gy T off s n)) (M:j.size=s) {z:Int} {K J:IntKind} {y Y:Operand} (A:O=some y) (W:U=some Y) (G:aK X env y=some (.c (.int K z))) (V:aK X env Y=some (.c (.int J z))) (h:Nat) (E:z=h) (h1:h<=n)
  (k:ai P X ops rest ((d,.gy T off s h)::env) σ (⟨[],[]⟩::acc) Q):ai P X ops (o::rest) env σ acc Q:=by
 subst A W E;have C:bound (aK X env) (some y)=some (some h):=by simp only[bound,G,asNat]
 have B:bound (aK X env) (some Y)=some (some h):=by simp only[bound,V,asNat]
 exact ai.step (dx S) (bW.B6 (σ:=σ) hX q I D N p M C B h1) (gX.id []) JT
end
end Go.cu
namespace Go.cu
theorem dN.Y9 {P:Program} {X:Ctx} {f:FuncId} {cells:List CV} {s N:Nat} {oJ:List CV} (he:Enters P f) (h0:0<N) {rows:List CV} (S:(bK rows).all CV.one=true)
  (h:∀(w:World) (G:jm) (b E:Nat) (vs us:List Value),b<w.heap.size->(∀o,G b o=none)->(∀b o v,G b o=some v->w.cell? ⟨b,o,none⟩=some v)->bO G cells vs ->
   (∀(j:Nat) u,vs[j]?=some u->w.cell? ⟨b,j,none⟩=some u)->cells.all CV.one=true->N<=E->(∀o,(o<E*s->∃u,w.cell? ⟨b,o,none⟩=some u)/\w.frozen? ⟨b,o,none⟩=false)->bO G oJ us ->
   ∃news,bO G (bK rows) news/\Calls P f (.slice (some ⟨b,0,none⟩) N E::us).toArray w fun e w'=>∃M Y,e = .returned (.slice (some ⟨M,0,none⟩) rows.length Y)/\rows.length<=Y/\NP w b w' M news/\M<w'.heap.size /\
    ∀o,(o<Y*s->∃u,w'.cell? ⟨M,o,none⟩=some u)/\w'.frozen? ⟨M,o,none⟩=false) :
  dN P X f (some cells) (.gy 1000000 0 s N::oJ.map AV.c) (.gy 999999 0 s rows.length) (some (bK rows)):=by
 refine⟨he,fun g w vs p cD fW=>?_⟩;simp only[bH]at fW;obtain⟨u,us,rfl,hr,pR⟩:=fW;simp only[aJ]at hr;obtain⟨b,E,o,A,rfl,e2,e3,K⟩:=hr;have q:o=some ⟨b,0,none⟩:=by
  rcases K with K|K
  ·omega
  ·exact K
 subst q;have J:ak 1000000 (qt 1000000 (some cells)).boxes=some (cells.map AV.c):=by simp[qt,aq]
 obtain⟨M,c1,c2,c3,c4⟩:=p.box 1000000 _ J;rw[A]at c1;cases c1;obtain⟨vs,v1,v2,v3⟩:=ov (tail:=[]) (by simpa using c4);have U:=p.room 1000000 _ b J A;obtain⟨news,n1,H⟩:=h w g.G b E vs us c2 c3 p.oF v1 (fun j u D=>by have:=v2 j u D;rwa[Nat.zero_add]at this) v3 e2 (fun o=>⟨fun q=>(U o).1 bn,(U o).2⟩) (AB pR);refine H.mono ?_;rintro e w' ⟨M,Y,rfl,SL,R,Q,SS⟩;have SM:∀T o v,g.G T o=some v->T≠b/\T<w.heap.size/\T≠M:=by
  intro T o v V;have h1:T≠b:=by rintro rfl;rw[c3]at V;simp at V
  have h2:=C6 (p.oF T o v V);refine⟨h1,h2,?_⟩;rintro rfl;rcases R.blk with h|h
  ·exact h1 h
  ·omega
 let g':Gh:=⟨g.G,fun k=>if k=999999 then some M else none,fun _=>none,fun k=>if k=999999 then Y*s else 0⟩
 have N7:=(bO.get n1).1;have I:∀k cs,ak k (qt 999999 (some (bK rows))).boxes=some cs->k=999999/\cs=(bK rows).map AV.c:=by
  intro k cs e;obtain⟨h1,cl,h2,h3⟩:=wm e;cases h2;exact⟨h1,h3⟩
 refine⟨_,g',rfl,?_,?_,?_⟩
 ·simp only[aJ];exact⟨M,Y,some ⟨M,0,none⟩,WK,rfl,SL,WK,.inr rfl⟩
 ·refine⟨fun T o v V=>?_,?_,?_,fun k n e=>by rw[oz]at e;simp[ak]at e,fun k k' n n' b lo hi lo' hi' e=>by rw[oz]at e;simp[ak]at e,fun k e=>?_,?_⟩
  ·obtain⟨h1,h2,_⟩:=SM T o v V;rw[tu (R.rest T h2 h1)];exact p.oF T o v V
  ·intro k cs e;obtain⟨rfl,rfl⟩:=I k cs e;refine⟨M,WK,Q,fun o=>?_,?_⟩
   ·cases V:g.G M o with
    | none=>rfl
    | some v=>exact absurd rfl (SM M o v V).2.2
   ·apply cy.jS;intro j c D;obtain⟨q1,q2⟩:=bH.get (oS (g:=g') n1);obtain⟨u,hu,Uq⟩:=q2 j c D;have IK:c.one=true:=by
     have:=(su (bK rows)).trans S;rw[List.all_eq_true]at this;exact this c (aaz D)
    refine⟨⟨u,by rw[Nat.zero_add];exact R.cells j u hu,Uq,IK⟩,by rw[Nat.zero_add];exact(SS j).2⟩
  ·intro k k' cs C b e e' _ _;rw[(I k cs e).1,(I k' C e').1]
  ·simp only[g',ne_eq,not_true,or_false]at e;by_cases hk:k=999999
   ·subst hk;simp[qt]
   ·simp[hk]at e
  ·intro k cs W e O o;obtain⟨rfl,_⟩:=I k cs e;simp only[g',if_true,Option.some.injEq]at O ⊢;subst O;exact SS o
 ·have B:∀W,(∀o,¬iJ g (qt 1000000 (some cells)) W o)\/(∃o,¬iJ g (qt 1000000 (some cells)) W o)->W≠b:=by
   rintro W h rfl;have q:∀o,iJ g (qt 1000000 (some cells)) W o:=fun o => .inl ⟨1000000,_,J,A⟩;rcases h with h|⟨o,h⟩
   ·exact h 0 (q 0)
   ·exact h (q o)
  refine⟨R.os,R.tape,R.output,R.size,fun W h1 h2=>R.rest W h1 (B W (.inl h2)),fun W o h1 h2=>?_,jm.le.refl _,fun _ _ _ h => .inl h,fun k cs W e O=>?_,fun k n b lo hi e=>by rw[oz]at e;simp[ak]at e,fun k hk e=>?_⟩
  ·have:=R.rest W h1 (B W (.inr ⟨o,h2⟩));exact⟨tu this o,zd this o⟩
  ·obtain⟨rfl,_⟩:=I k cs e;simp only[g',if_true,Option.some.injEq]at O;subst O;rcases R.blk with h|h
   ·subst h;exact .inr ⟨1000000,_,J,A⟩
   ·exact .inl h
  ·cases H:ak k (qt 999999 (some (bK rows))).boxes with
   | none=>exact absurd H e
   | some cs=>have:=(I k cs H).1;omega
theorem JZ (d T:Nat) (cells:List AV):gX (fun σ=>(σ.eI T).dY d cells) ⟨[],[d,T]⟩ where
 out:=fun σ k D=>by
  simp at D;refine⟨?_,rfl,?_⟩
  ·simp only[St.eI,St.dY,jO,aq];rw[if_neg D.1,if_neg D.2]
  ·simp only[St.eI,St.dY,List.mem_cons];exact⟨fun h=>h.resolve_left D.1,.inr⟩
 same:=fun σ G h k D=>by
  obtain⟨h1,h2,V⟩:=h k (.inr D);refine⟨?_,h2,?_⟩
  ·simp only[St.eI,St.dY,jO,aq];split
   ·rfl
   ·split
    ·rfl
    ·exact h1
  ·simp only[St.eI,St.dY,List.mem_cons,V]
section
variable {P : Program} {X : Ctx}
theorem bW.qZ {o:Oper} {env:Env} {σ:St} {f:FuncId} {args:Array Operand} {B:Array TypeId} (U:o.op = .call {callee := .value (.func f),args:=args,argTypes:=B})
  {d:Nat} (jo:d<1000000) (hu:mem d σ.used=false) {x:Operand} {rest:List Operand} (p:args.toList=x::rest) {T S O:Nat} (N:aK X env x=some (.gy T 0 S O)) {M:List CV} (ha:hJ (aK X env) rest=some M)
  {cells:List CV} (q:ak T σ.boxes=some (cells.map AV.c)) {s n:Nat} {cells':List CV} (hq:dN P X f (some cells) (.gy 1000000 0 S O::M.map AV.c) (.gy 999999 0 s n) (some cells')) :
  bW P X o env σ (.gy d 0 s n) (fun σ=>(σ.eI T).dY d (cells'.map AV.c)) ⟨[],[d,T]⟩:=by
 intro cW G w g a next Q h1 h2 W H di Y;have qf:∀y∈args.toList,y∈o.op.operands.toList:=by
  intro y K;rw[U];simp only[Op.operands,Call.operands,Array.toList_append,List.mem_append];exact .inr K
 have xI:hJ (aK X cW) rest=some M:=by
  rw[jB _ (fun y K=>h1 y (qf y (by rw[p];exact List.mem_cons_of_mem _ K)))];exact ha
 have I:aK X cW x=some (.gy T 0 S O):=by rw[h1 x (qf x (by simp[p]))];exact N
 have fW:=nC (g:=g) (ev:=a.eval) (fun x v N=>cz di H N) xI;have ZR:=cz (a:=a) di H I;have JS:ak T G.boxes=some (cells.map AV.c):=by rw[(h2 T (.inr cn)).1];exact q
 have J:(execOp a.eval o).run P w = .ok (.enter f (args.map a.eval)) w:=by
  obtain⟨dst,op,type,pos,D,guard⟩:=o;simp only at U;subst U;simp[execOp,resolve,Deferred.ofValue,invoke,Act.eval,hq.1 _ w]
 unfold Oper.wp;rw[J,Oper.upon_enter];have C:=Mj W (some T) (some cells) (fun _ h=>by cases h;exact⟨T,rfl,JS⟩) (fun h=>by cases h);have Xy:∀V,(g.fY (rC (some T))).box V=if V=1000000 then g.box T else none:=by
  intro V;by_cases h:V=1000000<;>simp[Gh.fY,rC,h]
 have:=hq.2 (g.fY (rC (some T))) w (args.toList.map a.eval) C H (by
  rw[p];simp only[List.map_cons,bH];refine⟨_,_,rfl,?_,oS (g:=g.fY (rC (some T))) fW⟩;simp only[aJ]at ZR ⊢;obtain⟨b,E,oo,A,e2,e3,e4,e5⟩:=ZR
  exact⟨b,E,oo,by rw[Xy];simpa using A,e2,e3,by simpa[Gh.fY,rC]using e4,e5⟩)
 rw[show(args.toList.map a.eval).toArray=args.map a.eval from by rw[<- Array.toList_map]]at this;refine this.mono ?_;rintro e w' ⟨u,g',rfl,h3,h4,h5⟩
 obtain⟨k1,k2,k3,k4⟩:=SI (g0:=g.fY (rC (some T))) (Mk:=qt 1000000 (some cells)) W rfl (oz _ _) (some T) (fun k cs b e A=>by
  obtain⟨rfl,_⟩:=wm e;rw[Xy]at A
  exact⟨T,_,rfl,JS,by simpa using A⟩) h4 h5 (G.eI T) (.inr ⟨T,rfl,rfl⟩)
 obtain⟨b,c1,c2,c3,c4,c5,c6,c7,c8⟩:=k4 cells' rfl;have SH:d ∉ (G.eI T).used:=fun h=>cS hu ((h2 d (.inr cn)).2.2.1 h);obtain⟨p1,p2,p3⟩:=SK k1 k2 SH jo c2 c3 c4 c5 c6 c7 c8;refine Y u w' _ ?_ p1 p2 (k3.trans p3);simp only[aJ]at h3 ⊢;obtain⟨b',E,oo,A,e2,e3,e4,e5⟩:=h3;rw[c1]at A;cases A;exact⟨b,E,oo,cn,e2,e3,by simpa using e4,e5⟩
end
section
variable {P : Program} {X : Ctx} {ops : Array Oper} {o : Oper} {rest : List Oper} {env : Env} {acc : List Fp} {Q : Env -> St -> List Fp -> Prop} {bs : List (Nat × List AV)} {ts : List (Nat × Nat)} {us : List Nat} {σ : St}
theorem ai.qZ (kn:List Nat) (U:cV ops.toList kn env o=some true) {f:FuncId} {args:Array Operand} {B:Array TypeId} (O:o.op = .call {callee := .value (.func f),args:=args,argTypes:=B})
  {x:Operand} {Y:List Operand} (p:args.toList=x::Y) {d:Nat} (H:o.dst=some d) (N:Nat.blt d 1000000=true) (A:mem d us=false) {T S W:Nat} (M:aK X env x=some (.gy T 0 S W)) {u:List CV} (C:hJ (aK X env) Y=some u)
  {cells:List CV} (q:ak T bs=some (cells.map AV.c)) {s n:Nat} {cells':List CV} {V:List AV} (hq:dN P X f (some cells) V (.gy 999999 0 s n) (some cells')) (K:V = .gy 1000000 0 S W::u.map AV.c) {bs':List (Nat×List AV)} (J:BN T bs=bs')
  (k:ai P X ops rest ((d,.gy d 0 s n)::env) ⟨(d,cells'.map AV.c)::bs',ts,d::us⟩ (⟨[],[d,T]⟩::acc) Q):ai P X ops (o::rest) env ⟨bs,ts,us⟩ acc Q:=by
 subst K J;exact ai.step (dx U) (bW.qZ (σ:=⟨bs,ts,us⟩) O (Nat.blt_eq.mp N) A p M C q hq) (JZ d T _) JT
theorem ai.qi (kn:List Nat) (O:cV ops.toList kn env o=some true) {f:FuncId} {args:Array Operand} {B:Array TypeId} (N:o.op = .call {callee := .value (.func f),args:=args,argTypes:=B})
  {x:Operand} (p:args.toList=[x]) {d:Nat} (M:o.dst=some d) {T S W:Nat} (K:aK X env x=some (.gy T 0 S W)) {cells cells':List CV} {H:List AV} (q:ak T bs=some H) (A:H=cells.map AV.c)
  (hq:dJ P X f [(1000000,cells.map AV.c)] [.gy 1000000 0 S W] (.c .undef) [(1000000,cells'.map AV.c)]) {bs':List (Nat×List AV)} (J:lU [T] bs=bs')
  (k:ai P X ops rest ((d,.c .undef)::env) ⟨(T,cells'.map AV.c)::bs',ts,T::us⟩ (⟨[],[T,T,T]⟩::acc) Q):ai P X ops (o::rest) env ⟨bs,ts,us⟩ acc Q:=by
 subst J A;have C:gI (aK X env) args.toList=some [.gy T 0 S W]:=by rw[p];simp only[gI,K]
 have I:=bW.F4 (env:=env) (σ:=⟨bs,ts,us⟩) N C hq (bx:=[(1000000,T)]) (po:=[(T,1000000)]) (ψ:=fun _=>T) (nb:=[(T,cells'.map AV.c)]) (fun ts=>⟨_,_,rfl,⟨_,fe,rfl⟩,rfl⟩)
  (fun Ob PO G u=>by
   have V:=kW G cn q;refine⟨rfl,?_,?_,?_,?_,?_,?_,?_⟩
   ·intro k kk e;simp only[aq]at e;split at e
    ·simp at e;subst_vars;exact⟨cn,_,V⟩
    ·simp[ak]at e
   ·intro ts k cs e;simp only[aq]at e;split at e
    ·simp at e;subst_vars;exact⟨T,_,fe,V,dD _⟩
    ·simp[ak]at e
   ·intro U E e;simp only[aq]at e;split at e
    ·simp at e;subst_vars;exact⟨1000000,cells'.map AV.c,fe,fe,XQ⟩
    ·simp[ak]at e
   ·intro U ok e;simp only[aq]at e;split at e
    ·rename_i h;exact h.symm
    ·simp[ak]at e
   ·intro k D;have Y:=mem_iff.1 D;simp at Y;subst Y;exact⟨T,fe⟩
   ·intro U ok e;simp only[aq]at e;split at e
    ·simp at e;subst_vars;exact .inl ⟨aam _,fe,fe⟩
    ·simp[ak]at e
   ·intro ok cs e;simp only[aq]at e;split at e
    ·simp at e;subst_vars;exact vj _ _
    ·simp[ak]at e) rfl
 exact ai.step (dx O) I (wq _ _ _) (by rw[M];exact k)
end
end Go.cu
namespace Go.cu
section
variable {P : Program} {X : Ctx}
theorem bW.G5 (hX:cC P X) {o:Oper} {env:Env} {σ:St} {args:Array Operand} {B:Array TypeId} (q:o.op = .call {callee := .builtin .append,args:=args,argTypes:=B})
  {xs y:Operand} (p:args.toList=[xs,y]) {t U:Nat} (Aq:B.toList=[t,U]) {i j u:TI} {e:Nat} (hi:X.ti t=some i) (hk:i.kind = .slice e) (hj:X.ti e=some j) (C:X.ti U=some u) (O:kU u.kind=true)
  {s:Nat} (ha:aK X env xs=some (.own .exact s [])) {b:AV} (hb:aK X env y=some b) {s1:Nat} (H:mL b=some (s1,[])) :
  bW P X o env σ (.own .exact s []) (fun σ=>σ) ⟨[],[]⟩:=by
 refine bW.val fun N w g S E ir M J=>?_;have K:∀x∈args.toList,x∈o.op.operands.toList:=by
  intro x hx;rw[q];simp only[Op.operands,Call.operands,Array.toList_append,List.mem_append];exact .inr hx
 have xI:aK X N xs=some (.own .exact s []):=by rw[E xs (K xs (by simp[p]))];exact ha
 have W:aK X N y=some b:=by rw[E y (K y (by simp[p]))];exact hb
 have I:=cz (a:=S) J M xI;have rB:=cz (a:=S) J M W;simp only[aJ,pQ]at I;obtain⟨base,len,cap,ex,Y,G,fP,V⟩:=I;simp only[aab]at Y;subst Y V;obtain⟨⟨news,D,n2,n3,n4⟩,n5⟩:=qe (P:=P) (w:=w) (t:=j.size) ir H (by simp only[fT];split<;>rfl) rB;simp only[bK,bO]at D;subst D;obtain⟨dt,_,T,EK⟩:=hX.run_underlying (w:=w) hi;rw[hk]at T;simp only[eG]at T;subst T;obtain⟨d1,BP,F0⟩:=yU hX C (by unfold kU at O;exact O) w;obtain⟨inf,T9,Mb,_⟩:=hX.ti e j hj;have xL:args = #[xs,y]:=by cases args;simp_all
 have Ds:B = #[t,U]:=by cases B;simp_all
 have A:=kT (ty:=o.type) (w':=w) EK BP F0 T9 (base:=base) (sLen:=0) (sCap:=0) n5 W9 (aam _) (by cases base<;>simp[storeCells]);refine⟨.slice base 0 0,?_,by simp only[aJ,pQ];exact⟨base,0,0,rfl,rfl,aam _,.inl rfl,rfl⟩⟩;obtain⟨dst,op,type,pos,Q,guard⟩:=o;simp only at q A;subst q;subst xL Ds;simp[execOp,resolve,invoke,builtin,ex,A,Result.andThen]
end
section
variable {P : Program} {X : Ctx} {ops : Array Oper} {o : Oper} {rest : List Oper} {env : Env} {acc : List Fp} {Q : Env -> St -> List Fp -> Prop} {bs : List (Nat × List AV)} {ts : List (Nat × Nat)} {us : List Nat} {σ : St}
theorem ai.G5 (hX:cC P X) (kn:List Nat) (Y:cV ops.toList kn env o=some true) {args:Array Operand} {B:Array TypeId} (q:o.op = .call {callee := .builtin .append,args:=args,argTypes:=B})
  {xs y:Operand} (p:args.toList=[xs,y]) {t U:Nat} (W:B.toList=[t,U]) {d:Nat} (V:o.dst=some d) {i j u:TI} {e:Nat} (I:X.ti t=some i) (D:i.kind = .slice e) (T:X.ti e=some j) (C:X.ti U=some u) (S:kU u.kind=true)
  {s:Nat} (O:aK X env xs=some (.own .exact s [])) {b:AV} (N:aK X env y=some b) {J:Nat} (H:mL b=some (J,[]))
  (k:ai P X ops rest ((d,.own .exact s [])::env) σ (⟨[],[]⟩::acc) Q):ai P X ops (o::rest) env σ acc Q :=
 ai.step (dx Y) (bW.G5 hX q p W I D T C S O N H) (gX.id []) (by rw[V];exact k)
theorem ai.xE (kn:List Nat) (W:cV ops.toList kn env o=some true) {f:FuncId} {args:Array Operand} {B:Array TypeId} (q:o.op = .call {callee := .value (.func f),args:=args,argTypes:=B})
  {N:List AV} {r:AV} (hq:dJ P X f [] N r []) {d:Nat} (V:o.dst=some d) {l:List AV} (C:gI (aK X env) args.toList=some l) (U:∀ts,fy ⟨fun _=>none,fun _=>none⟩ ts N l) (I:Ml [] r=true)
  {O:AV} (Y:r.rn (fun k=>k)=O) (k:ai P X ops rest ((d,O)::env) ⟨bs,ts,us⟩ (⟨[],[]⟩::acc) Q):ai P X ops (o::rest) env ⟨bs,ts,us⟩ acc Q:=by
 subst Y;have T:=bW.F4 (env:=env) (σ:=⟨bs,ts,us⟩) q C hq (bx:=[]) (po:=[]) (ψ:=fun k=>k) (nb:=[]) U
  (fun Ob PO p A=>⟨rfl,fun k M e=>by simp[ak]at e,fun ts k cs e=>by simp[ak]at e,fun H S e=>by simp[ak]at e,fun H ok e=>by simp[ak]at e,fun k D=>by simp[mem]at D,fun H ok e=>by simp[ak]at e,fun ok cs e=>by simp[ak]at e⟩) I
 exact ai.step (dx W) T (wq _ _ _) (by rw[V];exact k)
theorem ai.Sd (kn:List Nat) (W:cV ops.toList kn env o=some true) {f:FuncId} {args:Array Operand} {B:Array TypeId} (q:o.op = .call {callee := .value (.func f),args:=args,argTypes:=B})
  {N:List AV} {s n:Nat} {cells:List CV} (hq:dJ P X f [] N (.gy 999999 0 s n) [(999999,cells.map AV.c)]) {d:Nat} (V:o.dst=some d) (U:Nat.blt d 1000000=true) (A:mem d us=false) {l:List AV} (C:gI (aK X env) args.toList=some l) (T:∀ts,fy ⟨fun _=>none,fun _=>none⟩ ts N l)
  (k:ai P X ops rest ((d,.gy d 0 s n)::env) ⟨(d,cells.map AV.c)::bs,ts,d::us⟩ (⟨[],[d,d]⟩::acc) Q):ai P X ops (o::rest) env ⟨bs,ts,us⟩ acc Q:=by
 have S:=bW.F4 (env:=env) (σ:=⟨bs,ts,us⟩) q C hq (bx:=[]) (po:=[(d,999999)]) (ψ:=fun _=>d) (nb:=[(d,cells.map AV.c)]) T
  (fun Ob PO p O=>⟨rfl,fun k K e=>by simp[ak]at e,fun ts k cs e=>by simp[ak]at e,fun H M e=>by
    simp only[aq]at e;split at e
    ·simp at e;subst_vars;exact⟨999999,cells.map AV.c,fe,fe,XQ⟩
    ·simp[ak]at e,fun H ok e=>by
    simp only[aq]at e;split at e
    ·rename_i h;exact h.symm
    ·simp[ak]at e,fun k D=>by
    have Y:=mem_iff.1 D;simp at Y;subst Y;exact⟨d,fe⟩,fun H ok e=>by
    simp only[aq]at e;split at e
    ·simp at e;subst_vars;refine .inr ⟨fun h=>cS A ((O _ cn).1 h),Nat.blt_eq.mp U⟩
    ·simp[ak]at e,fun ok cs e=>by
    simp only[aq]at e;split at e
    ·simp at e;subst_vars;exact vj _ _
    ·simp[ak]at e⟩) rfl
 exact ai.step (dx W) S (wq _ _ _) (by rw[V];exact k)
end
section
variable {P : Program} {X : Ctx} {f : FuncId} {n : Nat} {β : jH} {R : Ending -> World -> Prop} {K : List Item} {env : Env}
def Em (a p:AV):Prop:=p=a\/∃S q,a = .own .exact S []/\p = .own .exact q []
theorem Em.rel:∀(g:Gh) (a p:AV) (v:Value),Em a p->aJ g a v->aJ g p v:=by
 rintro g a p v (rfl|⟨S,q,rfl,rfl⟩) h
 ·exact h
 ·simp only[aJ,pQ]at h ⊢;obtain⟨base,V,E,A,U,B,_,Q⟩:=h;exact⟨base,V,E,A,U,B,.inl rfl,Q⟩
theorem Em.one:∀(a p:AV),Em a p->a.one=true->p.one=true:=by
 rintro a p (rfl|⟨S,q,rfl,rfl⟩) h
 ·exact h
 ·rfl
end
end Go.cu
namespace Go.cu
def SU (M I U:Nat) (k:Nat):Nat:=match Nat.beq k 1000000 with
 | true=>M
 | false=>match Nat.beq k 1000001 with
  | true=>I
  | false=>match Nat.beq k 1000002 with
   | true=>U
   | false=>k
theorem Z0 {bs:List (Nat×List AV)} {us:List Nat} {c G:Nat->Nat->List AV} (T:MC c) (Q:MC G) {s f P V:List CV} {M I U:Nat} (O:distinct [M,I,U]=true)
  (h1:ak M bs=some (c I U)) (h2:ak I bs=some (s.map AV.c)) (S:ak U bs=some (f.map AV.c)) :
  ZU bs us (mI c s f) (mI G P V) [(1000000,M),(1000001,I),(1000002,U)] [(M,1000000),(I,1000001),(U,1000002)] (SU M I U) [(M,G I U),(I,P.map AV.c),(U,V.map AV.c)]:=by
 obtain⟨K,W,E⟩:=z9 O;refine⟨O,?_,?_,?_,?_,?_,?_,?_⟩
 ·intro k p e;simp only[aq]at e;split at e
  ·simp_all
  ·split at e
   ·simp_all
   ·split at e
    ·simp_all
    ·simp[ak]at e
 ·intro ts k cs e;simp only[aq]at e;split at e
  ·simp at e;subst_vars;exact⟨M,_,fe,h1,T.conv _ _ _ _ _ _ fe fe⟩
  ·split at e
   ·simp at e;subst_vars;exact⟨I,_,fe,h2,dD _⟩
   ·split at e
    ·simp at e;subst_vars;exact⟨U,_,fe,S,dD _⟩
    ·simp[ak]at e
 ·intro H N e;simp only[aq]at e;split at e
  ·simp at e;subst_vars;exact⟨1000000,G 1000001 1000002,fe,fe,by rw[Q.rn];rfl⟩
  ·split at e
   ·simp at e;subst_vars;exact⟨1000001,P.map AV.c,VL,fe,XQ⟩
   ·split at e
    ·simp at e;subst_vars;exact⟨1000002,V.map AV.c,by simp[aq,Ne.symm W,Ne.symm E],fe,XQ⟩
    ·simp[ak]at e
 ·intro H ok e;simp only[aq]at e;split at e
  ·simp at e;subst_vars;rfl
  ·split at e
   ·simp at e;subst_vars;rfl
   ·split at e
    ·simp at e;subst_vars;rfl
    ·simp[ak]at e
 ·intro k D;have Y:=mem_iff.1 D;simp at Y;rcases Y with rfl|rfl|rfl
  ·exact⟨M,fe⟩
  ·exact⟨I,VL⟩
  ·exact⟨U,by simp[aq,Ne.symm W,Ne.symm E]⟩
 ·intro H ok e;simp only[aq]at e;split at e
  ·simp at e;subst_vars;exact .inl ⟨aam _,fe,fe⟩
  ·split at e
   ·simp at e;subst_vars;exact .inl ⟨cc,fe,fe⟩
   ·split at e
    ·simp at e;subst_vars;exact .inl ⟨cc,fe,fe⟩
    ·simp[ak]at e
 ·intro ok cs e;simp only[aq]at e;split at e
  ·simp at e;subst_vars;exact Q.ok _ _ _ rfl rfl
  ·split at e
   ·simp at e;subst_vars;exact vj _ _
   ·split at e
    ·simp at e;subst_vars;exact vj _ _
    ·simp[ak]at e
section
variable {P : Program} {X : Ctx} {ops : Array Oper} {o : Oper} {rest : List Oper} {env : Env} {acc : List Fp} {Q : Env -> St -> List Fp -> Prop} {bs : List (Nat × List AV)} {ts : List (Nat × Nat)} {us : List Nat}
theorem ai.XF (kn:List Nat) (K:cV ops.toList kn env o=some true) {f:FuncId} {args:Array Operand} {B:Array TypeId} (q:o.op = .call {callee := .value (.func f),args:=args,argTypes:=B})
  {c G:Nat->Nat->List AV} {s fr V Y:List CV} {N:List AV} {r:AV} (hq:dJ P X f (mI c s fr) N r (mI G V Y)) (E:MC c) (J:MC G) {d:Nat} (D:o.dst=some d)
  {l:List AV} (C:gI (aK X env) args.toList=some l) {M:Nat} {A:List AV} (u:l = .ptr M 0::A) {I U:Nat} {H T S:List AV} (h1:ak M bs=some H) (e1:H=c I U) (h2:ak I bs=some T) (e2:T=s.map AV.c) (h3:ak U bs=some S) (e3:S=fr.map AV.c)
  (qy:∀ts,fy ⟨fun k=>ak k [(1000000,M),(1000001,I),(1000002,U)],fun _=>none⟩ ts N l) (kf:distinct [M,I,U]=true) (hr:Ml [1000000,1000001,1000002] r=true) {O:AV} (W:r.rn (SU M I U)=O)
  {bs':List (Nat×List AV)} (j9:lU [M,I,U] bs=bs')
  (k:ai P X ops rest ((d,O)::env) ⟨(M,G I U)::(I,V.map AV.c)::(U,Y.map AV.c)::bs',ts,M::I::U::us⟩ (⟨[],[M,I,U,M,I,U,M,I,U]⟩::acc) Q):ai P X ops (o::rest) env ⟨bs,ts,us⟩ acc Q:=by
 subst W j9 e1 e2 e3;have hs:=bW.F4 (env:=env) (σ:=⟨bs,ts,us⟩) q C hq (bx:=[(1000000,M),(1000001,I),(1000002,U)]) (po:=[(M,1000000),(I,1000001),(U,1000002)]) (ψ:=SU M I U) qy
  (fun Ob PO p hu=>Z0 E J kf (kW p cn h1) (kW p cn h2) (kW p cn h3)) hr
 exact ai.step (dx K) hs (wq _ _ _) (by rw[D];exact k)
end
end Go.cu
