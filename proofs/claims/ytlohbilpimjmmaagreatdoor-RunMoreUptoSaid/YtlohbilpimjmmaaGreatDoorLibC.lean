/- A layer of abstract values over the model, part C: Rows of cells as one row of values; appending to a slice whose spare room is one's own. The operation append. The ghost's names turned: boxes and tokens under other keys. Calls with boxes and with slices that may be appended to: what is handed over, -/
import Derived.Test.YtlohbilpimjmmaaGreatDoorLibB
import Derived.Laws.AppendOwn
import Derived.Laws.IdiomStrings
set_option linter.unusedSimpArgs false
set_option linter.unusedVariables false
namespace Go.cq
def bI:List CV->List CV
 | []=>[]
 | r::rs=>r.cells++bI rs
theorem xh {G:jk} {b:Nat}:∀{o:Nat} {a c:List CV},cN G b o (a++c)↔cN G b o a/\cN G b (o+a.length) c
 | o,[],c=>by simp[cN]
 | o,x::a,c=>by
  simp only[List.cons_append,cN,xh (a:=a),aac,and_assoc];rw[show o+(a.length+1)=o+1+a.length from by omega]
theorem pg {G:jk} {s b:Nat}:∀{o:Nat} {rows:List CV},eX G s b o rows↔cN G b o (bI rows)/\∀r∈rows,r.cells.length=s
 | o,[]=>by simp[eX,bI,cN]
 | o,r::rs=>by
  simp only[eX,bI,xh,yU,pg (rows:=rs),List.mem_cons,forall_eq_or_imp];constructor
  ·simp_all
  ·grind
theorem dh {s:Nat}:∀{rows:List CV},(∀r∈rows,r.cells.length=s)->(bI rows).length=rows.length*s
 | [],_=>by simp[bI]
 | r::rs,h=>by
  simp only[bI,aas,aac,h r c9,dh (rows:=rs) (fun x O=>h x (by simp[O])),Nat.add_mul];omega
theorem dy:∀(a c:List CV),bI (a++c)=bI a++bI c
 | [],c=>by simp[bI]
 | r::a,c=>by simp[bI,dy a c]
theorem vj {G:jk} {b:Nat}:∀{o:Nat} {cs:List CV},cN G b o cs->∃vs:List Value,bL G cs vs/\(∀(j:Nat) u,vs[j]?=some u->G b (o+j)=some u)/\cs.all CV.one=true
 | o,[],_=>⟨[],by simp[bL],c9,rfl⟩
 | o,c::cs,h=>by
  simp only[cN]at h;obtain⟨⟨u,h1,h2,V⟩,h4⟩:=h;obtain⟨vs,p,B,U⟩:=vj h4;refine⟨u::vs,by simp only[bL];exact⟨_,_,rfl,h2,p⟩,?_,by simp[V,U]⟩;intro j x Y;cases j with
  | zero=>simp at Y;subst Y;simpa using h1
  | succ j=>simp at Y;have:=B j x Y;rwa[show o+(j+1)=o+1+j from by omega]
theorem mP {G:jk} {b:Nat}:∀{o:Nat} {cs:List CV} {vs:List Value},bL G cs vs->(∀(j:Nat) u,vs[j]?=some u->G b (o+j)=some u)->cs.all CV.one=true->cN G b o cs
 | o,[],_,_,_,_=>trivial
 | o,c::cs,vs,h,Y,p=>by
  simp only[bL]at h;obtain⟨u,us,rfl,h1,h2⟩:=h;simp only[List.all_cons,aai]at p;refine⟨⟨u,by simpa using Y 0 u c9,h1,p.1⟩,mP h2 (fun j x W=>?_) p.2⟩;have:=Y (j+1) x (by simpa using W);rwa[show o+(j+1)=o+1+j from by omega]at this
theorem mH {G:jk}:∀{cs:List CV} {vs:List Value},bL G cs vs->cs.all CV.one=true->∀u∈vs,u.oneCell'=true
 | [],vs,h,_,u,hu=>by simp only[bL]at h;subst h;simp at hu
 | c::cs,vs,h,ho,u,hu=>by
  simp only[bL]at h
  obtain⟨x,us,rfl,h1,h2⟩:=h
  simp only[List.all_cons,aai]at ho
  rcases List.mem_cons.1 hu with rfl|hu
  ·exact vf (g:=⟨G,fun _=>none,fun _=>none,fun _=>0⟩) (a := .c c) ho.1 Q9
  ·exact mH h2 ho.2 u hu
def mQ:AV->Option (Nat×List CV)
 | .own _ s rows=>some (s,rows)
 | .c (.sl s rows)=>some (s,rows)
 | .c (.str l)=>some (1,l.map fun b => .int .u8 b.toNat)
 | _=>none
def fQ (s t:Nat) (rows:List CV):Bool:=match Nat.beq s t with
 | true=>true
 | false=>match rows with
  | []=>true
  | _=>false
theorem nW {s t:Nat} {rows:List CV} (h:fQ s t rows=true):s=t\/rows=[]:=by
 unfold fQ at h;split at h
 ·simp_all
 ·grind
theorem xQ:∀(l:List UInt8),bI (l.map fun b=>CV.int .u8 b.toNat)=l.map fun b=>CV.int .u8 b.toNat
 | []=>rfl
 | b::l=>by simp[bI,CV.cells,xQ l]
section
variable {P : Program} {X : Ctx} {w : World} {g : Gh}
theorem Ds (G:jk):∀(l:List UInt8),bL G (l.map fun b=>CV.int .u8 b.toNat) (l.map fun b=>Value.int .u8 b.toNat)
 | []=>by simp[bL]
 | b::l=>by simp only[List.map_cons,bL];exact⟨_,_,rfl,Og,Ds G l⟩
theorem wo {w:World} (D:∀b o v,g.G b o=some v->w.cell? ⟨b,o,none⟩=some v) {s t:Nat} {base:Option Addr} {rows:List CV} (M:kH g.G s base rows) (W:fQ s t rows=true) (Y I:Nat) (A:Y=rows.length) :
  ∃news:List Value,bL g.G (bI rows) news/\(∀r∈rows,r.cells.length=t)/\(bI rows).all CV.one=true/\(Builtin.firstCells t Y (.slice base Y I)).run P w = .ok news.toArray w:=by
 rcases M with rfl|⟨b,o,rfl,M⟩
 ·refine⟨[],by simp[bI,bL],c9,rfl,?_⟩;simp at A;subst A;cases base with
  | none=>simp[Builtin.firstCells]
  | some a=>exact run_firstCells_some w t 0 a 0 I [] c9 c9
 ·rcases nW W with rfl|rfl
  ·rw[pg]at M;obtain⟨vs,h1,h2,V⟩:=vj M.1;refine⟨vs,h1,M.2,V,?_⟩;refine run_firstCells_some w s Y _ Y I vs ?_ ?_
   ·rw[<- (bL.get h1).1,dh M.2,A]
   ·intro j v U;rw[Addr.add_lit];exact D _ _ _ (h2 j v U)
  ·refine⟨[],by simp[bI,bL],c9,rfl,?_⟩;simp at A;subst A;exact run_firstCells_some w t 0 _ 0 I [] c9 c9
theorem qg {w:World} (D:∀b o v,g.G b o=some v->w.cell? ⟨b,o,none⟩=some v) {a:AV} {s t:Nat} {rows:List CV} (u:mQ a=some (s,rows)) (V:fQ s t rows=true) {x:Value} (O:aK g a x) :
  (∃news:List Value,bL g.G (bI rows) news/\(∀r∈rows,r.cells.length=t)/\(bI rows).all CV.one=true/\(Builtin.firstCells t rows.length x).run P w = .ok news.toArray w)/\(Builtin.lenOf x).run P w = .ok rows.length w:=by
 unfold mQ at u;split at u<;>simp at u
 ·obtain⟨rfl,rfl⟩:=u;simp only[aK]at O;obtain⟨base,Y,I,rfl,h1,h2,U,S⟩:=O;obtain⟨news,K,q,J,T⟩:=wo (P:=P) D U V Y I h1;exact⟨⟨news,K,q,J,by rw[<- h1];exact T⟩,by simp[Builtin.lenOf,h1]⟩
 ·obtain⟨rfl,rfl⟩:=u;simp only[aK,Rel]at O;obtain⟨base,Y,I,rfl,h1,h2,U⟩:=O;obtain⟨news,K,q,J,T⟩:=wo (P:=P) D U V Y I h1;exact⟨⟨news,K,q,J,by rw[<- h1];exact T⟩,by simp[Builtin.lenOf,h1]⟩
 ·rename_i l;obtain⟨rfl,rfl⟩:=u;simp only[aK,Rel]at O;subst O;have W:((l.map fun b=>CV.int .u8 b.toNat).all CV.one)=true:=by simp[CV.one]
  have Q:t=1\/l=[]:=by
   rcases nW V with h|h
   ·exact .inl h.symm
   ·right;simpa using h
  refine⟨⟨l.map fun b=>Value.int .u8 b.toNat,by rw[xQ];exact Ds _ l,?_,by rw[xQ];exact W,?_⟩,?_⟩
  ·intro r M;rcases Q with rfl|rfl
   ·simp at M;obtain⟨b,_,rfl⟩:=M;rfl
   ·simp at M
  ·simp only[Builtin.firstCells,Sem.run_pure,List.length_map];congr 1;have:(ByteArray.mk l.toArray).extract 0 l.length=⟨l.toArray⟩:=by rw[extract_mk];simp
   rw[this];simp
  ·simp[Builtin.lenOf,ByteArray.size]
theorem zd (hX:cx P X) {t:Nat} {i:TI} (W:X.ti t=some i) (D:(match i.kind with | .slice _ | .str=>true|_=>false)=true) (w:World) :
  ∃d,P.underlying t=some d/\(d = .string\/∃e,d = .slice e):=by
 obtain⟨d,h1,h2,V⟩:=hX.run_underlying (w:=w) W;refine⟨d,V,?_⟩;split at D
 ·rename_i e Y;rw[Y]at h2;simp only[eF]at h2;exact .inr ⟨e,h2⟩
 ·rename_i Y;rw[Y]at h2;simp only[eF]at h2;exact .inl h2
 ·simp at D
theorem kX {t S ty e:TypeId} {Y:TypeDesc} (M:P.underlying t=some (.slice e)) (h1:P.underlying S=some Y) (H:Y = .string\/∃e,Y = .slice e) {i:TypeInfo} (I:P.info? e=some i)
  {base:Option Addr} {sLen sCap n:Nat} {x:Value} {news:List Value} (p:(Builtin.lenOf x).run P w = .ok n w) (hf:(Builtin.firstCells i.size n x).run P w = .ok news.toArray w) (W:sLen+n<=sCap)
  {w':World} (A:match (motive:=Option Addr->Prop) base with|some a=>(storeCells (a.add (sLen*i.size)) news).run P w = .ok () w'|none=>w'=w) :
  (Builtin.append_ #[t,S] ty #[.slice base sLen sCap,x]).run P w = .ok (.slice base (sLen+n) sCap) w':=by
 rcases H with rfl|⟨C,rfl⟩
 all_goals
  cases base with
  | none =>
   simp only at A;subst A;simp[Builtin.append_,run_underlying M,run_underlying h1,sizeOf,typeInfo,I,p,W,hf]
  | some a =>
   simp only at A;simp[Builtin.append_,run_underlying M,run_underlying h1,sizeOf,typeInfo,I,p,W,hf,A]
theorem nG {t S ty e:TypeId} {W:TypeDesc} (M:P.underlying t=some (.slice e)) (h1:P.underlying S=some W) (p:W = .string\/∃e,W = .slice e) {i:TypeInfo} (I:P.info? e=some i) {z:Value} (T:i.zero=some z)
  {base:Option Addr} {sLen sCap n:Nat} {x:Value} {olds news:List Value} (A:(Builtin.lenOf x).run P w = .ok n w) (hf:(Builtin.firstCells i.size n x).run P w.drew = .ok news.toArray w.drew)
  (V:(Builtin.firstCells i.size sLen (.slice base sLen sCap)).run P w.drew = .ok olds.toArray w.drew) (E:sCap<sLen+n) (Q:sLen+n<=140737488355328) (G:(sLen+n)*i.bytes<=140737488355328) :
  (Builtin.append_ #[t,S] ty #[.slice base sLen sCap,x]).run P w =
   .ok (.slice (some ⟨w.heap.size,0,none⟩) (sLen+n) (grownCap w (sLen+n) sCap e))
    (w.drew.alloc (.cells (olds.toArray++news.toArray++Builtin.zeroCells z.cells (grownCap w (sLen+n) sCap e-(sLen+n))) e)):=by
 have O:¬(sLen+n<=sCap):=by omega
 have Y:¬(9223372036854775807<((sLen:Int)+(n:Int))):=by omega
 have U:¬(281474976710656<Builtin.nextslicecap (sLen+n) sCap*i.bytes):=by have:=growslice_fits E G;omega
 rcases p with rfl|⟨C,rfl⟩
 all_goals
  simp[Builtin.append_,run_underlying M,run_underlying h1,sizeOf,typeInfo,zeroValue,I,T,A,O,Y,U,Question.forced,hf,V,newRow,grownCap];congr 2;apply Array.ext';simp[List.append_assoc]
theorem XD {w:World} {g:Gh} {σ:St} (hinv:Inv w g σ) (us:Array Value) (t:TypeId) (k:Nat) (hk:k<=us.size) (key n:Nat) (hkey:key ∉ σ.used\/∃n0,ak key σ.toks=some n0/\n0<n) (w':World) (Ve:w'={w with heap:=w.heap.push (.cells us t),drawn:=w'.drawn}) :
  let g':Gh:=⟨fun b o=>if b=w.heap.size/\o<k then us[o]? else g.G b o,g.box,fun j=>if j=key then some (n,some (w.heap.size,k,us.size))else g.tok j,g.room⟩
  let σ':St:=⟨σ.boxes,uj key n σ.toks,key::σ.used⟩
  Inv w' g' σ'/\gQ w g σ w' g' σ'/\g.le g':=by
 intro g' σ'
 have Oo:w'.heap=w.heap.push (.cells us t):=by rw[Ve]
 have F0:∀b o,b<w.heap.size->w'.cell? ⟨b,o,none⟩=w.cell? ⟨b,o,none⟩/\w'.frozen? ⟨b,o,none⟩=w.frozen? ⟨b,o,none⟩:=by
  intro b o hb
  simp only[World.cell?,World.frozen?,Oo]
  rw[Array.getElem?_push,if_neg bn]
  exact⟨rfl,rfl⟩
 have SS:∀o,w'.cell? ⟨w.heap.size,o,none⟩=us[o]?/\w'.frozen? ⟨w.heap.size,o,none⟩=false:=by
  intro o
  simp only[World.cell?,World.frozen?,Oo]
  rw[Array.getElem?_push,if_pos rfl]
  simp
 have hsz:w'.heap.size=w.heap.size+1:=by rw[Oo];simp
 have Hs:∀b o v,g.G b o=some v->b<w.heap.size:=fun b o v h=>World.block_lt_of_cell? w ⟨b,o,none⟩ (hinv.oI b o v h)
 have Vk:∀hw fS,g.tok key=some (hw,fS)->hw<n:=by
  intro hw fS e
  rcases hkey with hkey|⟨n0,h1,h2⟩
  ·exact absurd (hinv.used key (.inr (by rw[e];simp))) hkey
  ·obtain⟨Dc,h3,_⟩:=hinv.tok key n0 h1
   rw[e]at h3;simp at h3;omega
 have hle:g.le g':=by
  refine⟨fun b o v h=>?_,fun _ _ h=>h,fun _ _ _=>rfl,fun j hw fS h=>?_⟩
  ·have:=Hs b o v h
   simp only[g'];rw[if_neg bn];exact h
  ·simp only[g']
   split
   ·rename_i hj;subst hj
    have:=Vk hw fS h
    exact⟨n,_,rfl,bn,bn⟩
   ·exact⟨hw,fS,h,aak _,fun _=>rfl⟩
 have Hw:∀b o,b<w.heap.size->g'.G b o=g.G b o:=by
  intro b o hb;simp only[g'];rw[if_neg bn]
 have pT:w'.os=w.os/\w'.tape=w.tape/\w'.output=w.output:=by rw[Ve];exact⟨rfl,rfl,rfl⟩
 refine⟨⟨?_,?_,hinv.fB,?_,?_,?_,hinv.Ai fun k cs b _ _ hb o=>F0 b o hb⟩,⟨pT.1,pT.2.1,pT.2.2,bn,fun b hb _=>by rw[Oo,Array.getElem?_push,if_neg bn],fun b o hb _=>F0 b o hb,hle.1,?_,?_,?_,fun _ _ h=>⟨h,rfl,rfl⟩⟩,hle⟩
 ·intro b o v h
  simp only[g']at h
  split at h
  ·rename_i hb;obtain⟨rfl,_⟩:=hb;rw[(SS o).1];exact h
  ·rw[(F0 b o (Hs b o v h)).1];exact hinv.oI b o v h
 ·intro k cs e
  obtain⟨b,h1,h2,h3,h4⟩:=hinv.box k cs e
  exact⟨b,h1,bn,fun o=>by rw[Hw b o h2];exact h3 o,(cr.of_same (fun o=>F0 b o h2) h4).mono hle⟩
 ·intro j m e
  simp only[σ',ew]at e
  simp only[g']
  split at e
  ·rename_i hj;subst hj
   simp at e;subst e
   rw[if_pos rfl]
   refine⟨_,rfl,fun b lo hi hr=>?_⟩
   simp at hr;obtain⟨rfl,rfl,rfl⟩:=hr
   refine⟨bn,fun o h1 h2=>⟨?_,⟨us[o],?_⟩,(SS o).2⟩,fun k' cs e' he=>?_⟩
   ·rw[if_neg bn]
    cases hg:g.G w.heap.size o with
    | none=>rfl
    | some v=>have:=Hs _ _ _ hg;omega
   ·rw[(SS o).1];simp[h2]
   ·obtain⟨b',f1,f2,_⟩:=hinv.box k' cs e'
    rw[f1]at he;simp at he;omega
  ·rename_i hj
   rw[if_neg hj]
   obtain⟨fS,h1,h2⟩:=hinv.tok j m e
   refine⟨fS,h1,fun b lo hi hr=>?_⟩
   obtain⟨h3,h4,h5⟩:=h2 b lo hi hr
   refine⟨bn,fun o I5 LH=>?_,h5⟩
   obtain⟨h6,⟨u,h7⟩,h8⟩:=h4 o I5 LH
   exact⟨Rl,⟨u,(F0 b o h3).1.trans h7⟩,(F0 b o h3).2.trans h8⟩
 ·intro j j' m m' b lo hi lo' hi' e e' e1 e2
  simp only[σ',ew]at e e'
  simp only[g']at e1 e2
  split at e
  ·rename_i hj;subst hj
   rw[if_pos rfl]at e1
   simp at e1;obtain⟨_,rfl,_,_⟩:=e1
   split at e'
   ·rename_i hj';exact hj'.symm
   ·rename_i hj'
    rw[if_neg hj']at e2
    obtain⟨fS,h1,h2⟩:=hinv.tok j' m' e'
    rw[e2]at h1;simp at h1
    have:=(h2 _ _ _ h1.symm).1
    omega
  ·rename_i hj
   rw[if_neg hj]at e1
   split at e'
   ·rename_i hj';subst hj'
    rw[if_pos rfl]at e2
    simp at e2;obtain⟨_,rfl,_,_⟩:=e2
    obtain⟨fS,h1,h2⟩:=hinv.tok j m e
    rw[e1]at h1;simp at h1
    have:=(h2 _ _ _ h1.symm).1
    omega
   ·rename_i hj'
    rw[if_neg hj']at e2
    exact hinv.gw j j' m m' b lo hi lo' hi' e e' e1 e2
 ·intro j e
  simp only[σ',List.mem_cons]
  by_cases hj:j=key
  ·exact .inl hj
  ·right;apply hinv.used j;simpa[g',hj]using e
 ·intro b o v h
  simp only[g']at h
  split at h
  ·rename_i hb;right;left;omega
  ·exact .inl h
 ·exact fun k cs b h1 h2 => .inr ⟨k,cs,h1,h2⟩
 ·intro j m b lo hi e1 e2
  simp only[σ',ew]at e1
  simp only[g']at e2
  split at e1
  ·rename_i hj;subst hj
   rw[if_pos rfl]at e2
   simp at e2;left;omega
  ·rename_i hj
   rw[if_neg hj]at e2
   exact .inr ⟨j,m,lo,hi,e1,e2,aak _,aak _⟩
theorem Vm {w:World} {g:Gh} {σ:St} (T:Inv w g σ) (Y n:Nat) (A:Option (Nat×Nat×Nat)) (W:(Y ∉ σ.used/\A=none)\/∃Q,g.tok Y=some (Q,A)/\ak Y σ.toks=some Q/\Q<n) :
  let g':Gh:=⟨g.G,g.box,fun j=>if j=Y then some (n,A)else g.tok j,g.room⟩
  let u:St:=⟨σ.boxes,uj Y n σ.toks,Y::σ.used⟩
  Inv w g' u/\gQ w g σ w g' u/\g.le g':=by
 intro g' u;have J:g.le g':=by
  refine⟨jk.le.refl _,fun _ _ h=>h,fun _ _ _=>rfl,fun j hw r h=>?_⟩;simp only[g'];split
  ·rename_i V;subst V;rcases W with ⟨W,_⟩|⟨Q,h1,h2,M⟩
   ·exact absurd (T.used j (.inr (by rw[h];simp))) W
   ·grind
  ·grind
 refine⟨⟨T.oI,?_,T.fB,?_,?_,?_,T.room⟩,⟨rfl,rfl,rfl,aak _,fun _ _ _=>rfl,fun _ _ _ _=>⟨rfl,rfl⟩,jk.le.refl _,fun _ _ _ h => .inl h,fun k cs b h1 h2 => .inr ⟨k,cs,h1,h2⟩,?_,fun _ _ h=>⟨h,rfl,rfl⟩⟩,J⟩
 ·intro k cs e;obtain⟨b,h1,h2,M,h4⟩:=T.box k cs e;exact⟨b,h1,h2,M,h4.mono J⟩
 ·intro j m e;simp only[u,ew]at e;simp only[g'];split at e
  ·rename_i V;subst V;simp at e;subst e;rw[if_pos rfl];refine⟨_,rfl,fun b S I q=>?_⟩;rcases W with ⟨_,rfl⟩|⟨Q,h1,h2,M⟩
   ·simp at q
   ·obtain⟨Dc,P,K⟩:=T.tok j Q h2;rw[h1]at P;simp at P;subst P;exact K b S I q
  ·rename_i V;rw[if_neg V];exact T.tok j m e
 ·intro j p m m' b S I O H e e' C E;have U:∀j m b S I,ak j u.toks=some m->g'.tok j=some (m,some (b,S,I))->∃N,ak j σ.toks=some N/\g.tok j=some (N,some (b,S,I)):=by
   intro j m b S I e C;simp only[u,ew]at e;simp only[g']at C;split at e
   ·grind
   ·simp_all
  obtain⟨N,P,K⟩:=U j m b S I e C;obtain⟨D,ZF,B⟩:=U p m' b O H e' E;exact T.gw j p N D b S I O H P ZF K B
 ·intro j e;simp only[u,List.mem_cons];by_cases V:j=Y
  ·exact .inl V
  ·right;apply T.used j;simpa[g',V]using e
 ·intro j m b S I C E;simp only[u,ew]at C;simp only[g']at E;split at C
  ·grind
  ·grind
theorem Vn {w w':World} {g:Gh} {σ:St} (hinv:Inv w g σ) {key n b lo hi:Nat} (hk:ak key σ.toks=some n) (hg:g.tok key=some (n,some (b,lo,hi))) (vs:List Value) (hfit:lo+vs.length<=hi)
  (r2:w'.heap.size=w.heap.size/\w'.os=w.os/\w'.tape=w.tape/\w'.output=w.output/\∀b',b'≠b->w'.heap[b']?=w.heap[b']?)
  (r3:∀b' o',b'≠b\/o'<lo\/lo+vs.length<=o'->w'.cell? ⟨b',o',none⟩=w.cell? ⟨b',o',none⟩) (r4:∀b' o',w'.frozen? ⟨b',o',none⟩=w.frozen? ⟨b',o',none⟩)
  (r5:∀j v,vs[j]?=some v->w'.cell? ⟨b,lo+j,none⟩=some v) (hne:vs≠[]) :
  let g':Gh:=⟨fun b' o=>if b'=b/\lo<=o/\o<lo+vs.length then vs[o-lo]? else g.G b' o,g.box,fun j=>if j=key then some (n+1,some (b,lo+vs.length,hi))else g.tok j,g.room⟩
  let σ':St:=⟨σ.boxes,uj key (n+1) σ.toks,key::σ.used⟩
  Inv w' g' σ'/\gQ w g σ w' g' σ'/\g.le g':=by
 intro g' σ'
 obtain⟨afo,t1,t2⟩:=hinv.tok key n hk
 rw[hg]at t1;simp at t1;subst t1
 obtain⟨t3,t4,t5⟩:=t2 b lo hi rfl
 have hlen:0<vs.length:=List.length_pos_iff.2 hne
 have ZO:∀b' o v,g.G b' o=some v->¬(b'=b/\lo<=o/\o<lo+vs.length):=by
  rintro b' o v h ⟨rfl,h1,h2⟩
  rw[(t4 o h1 bn).1]at h;simp at h
 have hle:g.le g':=by
  refine⟨fun b' o v h=>?_,fun _ _ h=>h,fun _ _ _=>rfl,fun j hw r h=>?_⟩
  ·simp only[g'];rw[if_neg (ZO b' o v h)];exact h
  ·simp only[g']
   split
   ·rename_i hj;subst hj
    rw[hg]at h;simp at h;exact⟨n+1,_,rfl,bn,bn⟩
   ·exact⟨hw,r,h,aak _,fun _=>rfl⟩
 have hcell:∀b' o,¬(b'=b/\lo<=o/\o<lo+vs.length)->w'.cell? ⟨b',o,none⟩=w.cell? ⟨b',o,none⟩:=by
  intro b' o h;exact r3 b' o bn
 refine⟨⟨?_,?_,hinv.fB,?_,?_,?_,hinv.Ai fun k cs b' e h1 hb o=>⟨hcell b' o (by rintro⟨rfl,_⟩;exact t5 k cs e h1),r4 b' o⟩⟩,⟨r2.2.1,r2.2.2.1,r2.2.2.2.1,bn,fun b' hb' hno=>r2.2.2.2.2 b' (by rintro rfl;exact hno lo (.inr ⟨key,n,lo,hi,hk,hg,bn,bn⟩)),fun b' o hb' hno=>⟨hcell b' o ?_,r4 b' o⟩,hle.1,?_,fun k cs b h1 h2 => .inr ⟨k,cs,h1,h2⟩,?_,fun _ _ h=>⟨h,rfl,rfl⟩⟩,hle⟩
 ·intro b' o v h
  simp only[g']at h
  split at h
  ·rename_i hb;obtain⟨rfl,h1,h2⟩:=hb
   have:=r5 (o-lo) v h
   rwa[show lo+(o-lo)=o from by omega]at this
  ·rename_i hb;rw[hcell b' o hb];exact hinv.oI b' o v h
 ·intro k cs e
  obtain⟨b',h1,h2,h3,h4⟩:=hinv.box k cs e
  have zP:b'≠b:=by rintro rfl;exact t5 k cs e h1
  exact⟨b',h1,bn,fun o=>by simp only[g'];rw[if_neg bn];exact h3 o,(cr.of_same (fun o=>⟨hcell b' o bn,r4 b' o⟩) h4).mono hle⟩
 ·intro j m e
  simp only[σ',ew]at e
  simp only[g']
  split at e
  ·rename_i hj;subst hj
   simp at e;subst e
   rw[if_pos rfl]
   refine⟨_,rfl,fun b' lo' hi' hr=>?_⟩
   simp at hr;obtain⟨rfl,rfl,rfl⟩:=hr
   refine⟨bn,fun o h1 h2=>?_,t5⟩
   obtain⟨h6,⟨u,h7⟩,h8⟩:=t4 o bn h2
   exact⟨Rl,⟨u,(hcell b o bn).trans h7⟩,(r4 b o).trans h8⟩
  ·rename_i hj
   rw[if_neg hj]
   obtain⟨fS,h1,h2⟩:=hinv.tok j m e
   refine⟨fS,h1,fun b' lo' hi' hr=>?_⟩
   obtain⟨h3,h4,h5⟩:=h2 b' lo' hi' hr
   have zP:b'≠b:=by
    rintro rfl;subst hr
    exact hj (hinv.gw j key m n b' lo' hi' lo hi e hk h1 hg)
   refine⟨bn,fun o I5 LH=>?_,h5⟩
   obtain⟨h6,⟨u,h7⟩,h8⟩:=h4 o I5 LH
   exact⟨Rl,⟨u,(hcell b' o bn).trans h7⟩,(r4 b' o).trans h8⟩
 ·intro j j' m m' b1 Yx hi1 lo2 hi2 e e' e1 e2
  have key':∀j m b1 Yx hi1,ak j σ'.toks=some m->g'.tok j=some (m,some (b1,Yx,hi1))->∃m0 EE qu,ak j σ.toks=some m0/\g.tok j=some (m0,some (b1,EE,qu)):=by
   intro j m b1 Yx hi1 e e1
   simp only[σ',ew]at e
   simp only[g']at e1
   split at e
   ·simp_all
   ·simp_all
  obtain⟨m0,l0,h0,f1,f2⟩:=key' j m b1 Yx hi1 e e1
  obtain⟨m0',l0',XC,ZF,f2'⟩:=key' j' m' b1 lo2 hi2 e' e2
  exact hinv.gw j j' m0 m0' b1 l0 h0 l0' XC f1 ZF f2 f2'
 ·intro j e
  simp only[σ',List.mem_cons]
  by_cases hj:j=key
  ·exact .inl hj
  ·right;apply hinv.used j;simpa[g',hj]using e
 ·rintro⟨rfl,h1,h2⟩;exact hno (.inr ⟨key,n,lo,hi,hk,hg,bn,bn⟩)
 ·intro b' o v h
  simp only[g']at h
  split at h
  ·rename_i hb;obtain⟨rfl,h1,h2⟩:=hb
   exact .inr (.inr (.inr ⟨key,n,lo,hi,hk,hg,bn,bn⟩))
  ·exact .inl h
 ·intro j m b' lo' hi' e1 e2
  simp only[σ',ew]at e1
  simp only[g']at e2
  split at e1
  ·rename_i hj;subst hj
   rw[if_pos rfl]at e2
   simp at e2;obtain⟨_,rfl,rfl,rfl⟩:=e2
   exact .inr ⟨j,n,lo,hi,hk,hg,bn,aak _⟩
  ·rename_i hj
   rw[if_neg hj]at e2
   exact .inr ⟨j,m,lo',hi',e1,e2,aak _,aak _⟩
end
end Go.cq
namespace Go.cq
def vk (d:Nat) (us:List Nat) (ts:List (Nat×Nat)):Vd->Option (Nat×Nat)
 | .exact=>match mem d us with
  | false=>some (d,0)
  | true=>none
 | .tok k m=>match ak k ts with
  | some Y=>match Nat.beq Y m with
   | true=>some (k,m+1)
   | false=>none
  | none=>none
def Dt (s t:Nat) (rows:List CV):Vd->Bool
 | .exact=>fQ s t rows
 | .tok _ _=>Nat.beq s t
theorem ze {s t:Nat} {rows:List CV}:∀{o:Vd},Dt s t rows o=true->fQ s t rows=true
 | .exact,h=>h
 | .tok _ _,h=>by simp only[Dt]at h;simp[fQ,h]
def kY:TK->Bool
 | .slice _ | .str=>true
 | _=>false
theorem Mk (u n:Nat):gR (fun σ=>(⟨σ.boxes,uj u n σ.toks,u::σ.used⟩:St)) ⟨[],[u]⟩ where
 out:=fun σ k D=>by
  have:k≠u:=by simpa using D
  refine⟨rfl,?_,?_⟩
  ·simp only[ew,if_neg this]
  ·simp[this]
 same:=fun σ G h k D=>by
  have:k=u:=by simpa using D
  subst this;refine⟨(h k (.inr c9)).1,?_,?_⟩
  ·simp[ew]
  ·simp
section
variable {P : Program} {X : Ctx}
theorem F1 {Y:jk} {s b o:Nat} {rows bZ:List CV} {olds news:List Value} (h1:bL Y (bI rows) olds) (h2:bL Y (bI bZ) news) (q:∀r∈rows,r.cells.length=s) (J:∀r∈bZ,r.cells.length=s)
  (W:(bI rows).all CV.one=true) (V:(bI bZ).all CV.one=true) (U:∀(j:Nat) u,(olds++news)[j]?=some u->Y b (o+j)=some u):eX Y s b o (rows++bZ):=by
 rw[pg,dy];refine⟨mP (eW h1 h2) U (by rw[List.all_append,W,V];rfl),?_⟩;intro r I;rcases List.mem_append.1 I with I|I
 ·exact q r I
 ·exact J r I
set_option maxHeartbeats 1600000 in
theorem bU.append (hX:cx P X) {o:Oper} {env:Env} {σ:St} {args:Array Operand} {ats:Array TypeId} (ho:o.op = .call {callee := .builtin .append,args:=args,argTypes:=ats})
  {xs y:Operand} (hargs:args.toList=[xs,y]) {t t1:Nat} (Ax:ats.toList=[t,t1]) {d:Nat}
  {i j i1:TI} {e:Nat} (hi:X.ti t=some i) (hk:i.kind = .slice e) (hj:X.ti e=some j) {za:AV} (hz:j.zero=some za) (hi1:X.ti t1=some i1) (qt:kY i1.kind=true)
  {ow:Vd} {s:Nat} {rows:List CV} (ha:aL X env xs=some (.own ow s rows)) {b:AV} (hb:aL X env y=some b) {s1:Nat} {bZ:List CV} (hsrc:mQ b=some (s1,bZ))
  (hs:Dt s j.size rows ow=true) (rS:fQ s1 j.size bZ=true) {key n:Nat} (hkey:vk d σ.used σ.toks ow=some (key,n)) (hby:Nat.ble 1 j.bytes=true) (hbound:(rows.length+bZ.length)*j.bytes<=140737488355328) :
  bU P X o env σ (.own (.tok key n) j.size (rows++bZ)) (fun σ=>⟨σ.boxes,uj key n σ.toks,key::σ.used⟩) ⟨[],[key]⟩:=by
 intro cV σ1 w g act next Q h1 h2 hinv cy di hnext
 have qh:∀x∈args.toList,x∈o.op.operands.toList:=by
  intro x hx
  rw[ho];simp only[Op.operands,Call.operands,Array.toList_append,List.mem_append];exact .inr hx
 have xP:aL X cV xs=some (.own ow s rows):=by rw[h1 xs (qh xs Uy)];exact ha
 have hb':aL X cV y=some b:=by rw[h1 y (qh y Uy)];exact hb
 have rA:=ct (a:=act) di cy xP
 have rB:=ct (a:=act) di cy hb'
 simp only[aK]at rA
 obtain⟨base,len,cap,ex,hlen,hcap,fM,hown⟩:=rA
 obtain⟨⟨news,n1,n2,n3,n4⟩,n5⟩:=qg (P:=P) (w:=w) hinv.oI hsrc rS rB
 obtain⟨⟨news',Wx,YC,ZP,ZQ⟩,_⟩:=qg (P:=P) (w:=w.drew) (fun b o v h=>by rw[World.cell?_drew];exact hinv.oI b o v h) hsrc rS rB
 obtain⟨olds,m1,m2,m3,m4⟩:=wo (P:=P) (w:=w.drew) (g:=g) (fun b o v h=>by rw[World.cell?_drew];exact hinv.oI b o v h) fM (ze hs) len cap hlen
 obtain⟨dt,_,xR,EU⟩:=hX.run_underlying (w:=w) hi
 rw[hk]at xR;simp only[eF]at xR;subst xR
 obtain⟨d1,jm,BV⟩:=zd hX hi1 U7 w
 obtain⟨inf,Uv,Ml,ZR,ZT,_,if6⟩:=hX.ti e j hj
 obtain⟨z,z1,_,z3⟩:=ZT za hz
 have Oq:news.length=bZ.length*j.size:=by rw[<- (bL.get n1).1,dh n2]
 have PX:news'.length=bZ.length*j.size:=by rw[<- (bL.get Wx).1,dh YC]
 have PY:olds.length=rows.length*j.size:=by rw[<- (bL.get m1).1,dh m2]
 have xS:args = #[xs,y]:=by cases args;simp_all
 have Du:ats = #[t,t1]:=by cases ats;simp_all
 have SU:=Nat.le_of_ble_eq_true hby
 have hsmall:rows.length+bZ.length<=140737488355328:=Nat.le_trans (Nat.le_mul_of_pos_right _ SU) hbound
 have SV:∀(v:Value) (w':World),(Builtin.append_ #[t,t1] o.type #[.slice base len cap,act.eval y]).run P w = .ok v w'->(execOp act.eval o).run P w = .ok (.value v) w':=by
  intro v w' hr
  obtain⟨dst,op,type,pos,after,guard⟩:=o
  simp only at ho hr;subst ho
  subst xS Du
  simp[execOp,resolve,invoke,builtin,ex,hr,Result.andThen]
 unfold Oper.wp
 by_cases hroom:len+bZ.length<=cap
 ·by_cases h0:bZ.length=0
  ·obtain rfl:bZ=[]:=List.eq_nil_of_length_eq_zero h0
   have hn0:news=[]:=by simpa[bI,bL]using n1
   subst hn0
   rw[SV _ w (kX (w':=w) EU jm BV Uv n5 WB hroom (by cases base<;>simp[storeCells]))]
   rw[Oper.upon_value]
   have ZU:∃fS,((key ∉ σ1.used/\fS=none)\/∃n0,g.tok key=some (n0,fS)/\ak key σ1.toks=some n0/\n0<n) /\
     (cap=len\/∃b lo hi o,fS=some (b,lo,hi)/\base=some ⟨b,o,none⟩/\lo=o+len*j.size/\hi=o+cap*j.size/\len<=cap):=by
    cases ow with
    | exact =>
     simp only[vk]at hkey
     split at hkey
     ·rename_i hu
      simp at hkey;obtain⟨rfl,rfl⟩:=hkey
      exact⟨none,.inl ⟨fun h=>cS hu ((h2 d (.inr c9)).2.2.1 h),rfl⟩,.inl hown⟩
     ·simp at hkey
    | tok k m =>
     simp only[vk]at hkey
     split at hkey
     ·rename_i m' hm'
      split at hkey
      ·rename_i ZV
       simp at hkey;obtain⟨rfl,rfl⟩:=hkey
       have:=beq_true ZV;subst this
       have IZ:ak k σ1.toks=some m':=by rw[(h2 k (.inr c9)).2.1];exact hm'
       obtain⟨hw,fS,e1,e2,e3⟩:=hown
       obtain⟨Dc,e4,_⟩:=hinv.tok k m' IZ
       rw[e1]at e4;simp at e4;obtain⟨rfl,rfl⟩:=e4
       simp only[Dt]at hs
       have:=beq_true hs;subst this
       exact⟨fS,.inr ⟨hw,e1,IZ,bn⟩,e3 rfl⟩
      ·simp at hkey
     ·simp at hkey
   obtain⟨fS,EH,QY⟩:=ZU
   obtain⟨i1,i2,i3⟩:=Vm hinv key n fS EH
   refine hnext _ w _ ?_ i1 i2 i3
   simp only[aK,List.append_nil,aad,Nat.add_zero]
   refine⟨base,len,cap,rfl,hlen,hcap,?_,n,fS,c9,aak _,fun _=>QY⟩
   rcases fM with rfl|⟨b0,o0,hb0,Uw⟩
   ·exact .inl rfl
   ·rcases nW (ze hs)with rfl|rfl
    ·exact .inr ⟨b0,o0,hb0,Uw⟩
    ·exact .inl rfl
  ·
   cases ow with
   | exact=>simp only[pS]at hown;omega
   | tok k m =>
    simp only[vk]at hkey
    split at hkey
    ·rename_i m' hm'
     split at hkey
     ·rename_i ZV
      simp at hkey;obtain⟨rfl,rfl⟩:=hkey
      have:=beq_true ZV;subst this
      have IZ:ak k σ1.toks=some m':=by rw[(h2 k (.inr c9)).2.1];exact hm'
      obtain⟨hw,fS,e1,e2,e3⟩:=hown
      obtain⟨Dc,e4,e5⟩:=hinv.tok k m' IZ
      rw[e1]at e4;simp at e4;obtain⟨rfl,rfl⟩:=e4
      simp only[Dt]at hs
      have:=beq_true hs;subst this
      rcases e3 rfl with hc|⟨b0,lo,hi',o0,rfl,rfl,rfl,rfl,_⟩
      ·omega
      obtain⟨f1,f2,f3⟩:=e5 _ _ _ rfl
      have hmul:len*j.size+news.length<=cap*j.size:=by
       rw[Oq,<- Nat.add_mul];exact Nat.mul_le_mul_right _ hroom
      obtain⟨w',r1,r2,r3,r4,r5⟩:=mN (P:=P) (w:=w) b0 news (o0+len*j.size) 0 w (mH n1 n3) (by
       intro q hq
       simp only[Nat.add_zero]
       obtain⟨_,g2,g3⟩:=f2 (o0+len*j.size+q) bn bn
       exact⟨g2,g3⟩)
      simp only[Nat.add_zero]at r3 r5
      rw[SV _ w' (kX (w':=w') EU jm BV Uv n5 WB hroom (by simp only[Addr.add_lit,Ml];exact r1))]
      rw[Oper.upon_value]
      obtain⟨i1,i2,i3⟩:=Vn hinv IZ e1 news bn r2 r3 r4 r5 (by
       intro hn;rw[hn]at Oq
       have hz:bZ.length*j.size=0:=Oq.symm
       rcases Nat.mul_eq_zero.1 hz with hz|hz
       ·exact h0 hz
       ·exact if6 hz)
      refine hnext _ w' _ ?_ i1 i2 i3
      simp only[aK]
      refine⟨_,_,_,rfl,by simp[hlen],bn,.inr ⟨b0,o0,rfl,?_⟩,hw+1,some (b0,o0+len*j.size+news.length,o0+cap*j.size),c9,aak _,fun _ => .inr ⟨b0,_,_,o0,rfl,rfl,?_,rfl,bn⟩⟩
      ·refine F1 (olds:=olds) (news:=news) (bL.mono i3.1 _ _ m1) (bL.mono i3.1 _ _ n1) m2 n2 m3 n3 fun q u hq=>?_
       by_cases XE:q<olds.length
       ·rw[List.getElem?_append_left XE]at hq
        rcases fM with rfl|⟨b2,o2,QY,L1⟩
        ·simp_all
        ·simp at QY;obtain⟨rfl,rfl⟩:=QY
         rw[pg]at L1
         obtain⟨vs,v1,v2,v3⟩:=vj L1.1
         have:vs=olds:=by
          have q1:(Builtin.firstCells j.size len (.slice (some ⟨b0,o0,none⟩) len cap)).run P w.drew = .ok vs.toArray w.drew:=by
           refine run_firstCells_some w.drew j.size len _ len cap vs ?_ ?_
           ·rw[<- (bL.get v1).1,dh L1.2,hlen]
           ·intro j v hj;rw[Addr.add_lit,World.cell?_drew];exact hinv.oI _ _ _ (v2 j v hj)
          rw[m4]at q1;simp at q1;exact q1.symm
         subst this
         exact i3.1 _ _ _ (v2 q u hq)
       ·grind
      ·grind
     ·simp at hkey
    ·simp at hkey
 ·have hg:cap<len+bZ.length:=by omega
  have hbd:(len+bZ.length)*inf.bytes<=140737488355328:=by rw[ZR,hlen];exact hbound
  rw[SV _ _ (nG EU jm BV Uv z1 n5 (by rw[Ml];exact ZQ) (by rw[Ml];exact m4) hg bn hbd)]
  rw[Oper.upon_value]
  have hge:=grownCap_ge w (len+bZ.length) cap e
  generalize grownCap w (len+bZ.length) cap e=nc at hge ⊢
  have sS:(olds.toArray++news'.toArray++Builtin.zeroCells z.cells (nc-(len+bZ.length))).size=nc*j.size:=by
   simp only[Array.size_append,List.size_toArray,size_zeroCells,PY,PX,z3,<- hlen,<- Nat.add_mul]
   congr 1;omega
  have aco:(len+bZ.length)*j.size<=(olds.toArray++news'.toArray++Builtin.zeroCells z.cells (nc-(len+bZ.length))).size:=by rw[sS];exact Nat.mul_le_mul_right _ hge
  have hkk:key ∉ σ1.used\/∃n0,ak key σ1.toks=some n0/\n0<n:=by
   cases ow with
   | exact =>
    simp only[vk]at hkey
    split at hkey
    ·rename_i hu
     simp at hkey;obtain⟨rfl,rfl⟩:=hkey
     exact .inl fun h=>cS hu ((h2 d (.inr c9)).2.2.1 h)
    ·simp at hkey
   | tok k m =>
    simp only[vk]at hkey
    split at hkey
    ·rename_i m' hm'
     split at hkey
     ·rename_i ZV
      simp at hkey;obtain⟨rfl,rfl⟩:=hkey
      have:=beq_true ZV;subst this
      exact .inr ⟨m',by rw[(h2 k (.inr c9)).2.1];exact hm',bn⟩
     ·simp at hkey
    ·simp at hkey
  obtain⟨i1,i2,i3⟩:=XD hinv (olds.toArray++news'.toArray++Builtin.zeroCells z.cells (nc-(len+bZ.length))) e ((len+bZ.length)*j.size) aco key n hkk
   (w.drew.alloc (.cells (olds.toArray++news'.toArray++Builtin.zeroCells z.cells (nc-(len+bZ.length))) e)) rfl
  refine hnext _ _ _ ?_ i1 i2 i3
  simp only[aK]
  refine⟨_,_,_,rfl,by simp[hlen],hge,.inr ⟨w.heap.size,0,rfl,?_⟩,n,_,if_pos rfl,aak _,fun _ => .inr ⟨_,_,_,0,rfl,rfl,by rw[Nat.zero_add],by rw[sS,Nat.zero_add],hge⟩⟩
  refine F1 (olds:=olds) (news:=news') (bL.mono i3.1 _ _ m1) (bL.mono i3.1 _ _ Wx) m2 YC m3 ZP fun q u hq=>?_
  have XE:q<(olds++news').length:=(List.getElem?_eq_some_iff.1 hq).1
  have afr:q<(len+bZ.length)*j.size:=by simp only[aas,PY,PX,<- hlen,<- Nat.add_mul]at XE;exact XE
  simp only
  rw[if_pos ⟨trivial,bn⟩,Nat.zero_add]
  rw[show olds.toArray++news'.toArray=(olds++news').toArray from by simp,Array.getElem?_append_left (by simpa using XE)]
  simpa using hq
end
section
variable {P : Program} {X : Ctx} {ops : Array Oper} {o : Oper} {rest : List Oper} {env : Env} {acc : List Fp} {Q : Env -> St -> List Fp -> Prop} {bs : List (Nat × List AV)} {ts : List (Nat × Nat)} {us : List Nat}
theorem ai.append (hX:cx P X) (kn:List Nat) (D:cU ops.toList kn env o=some true) {args:Array Operand} {E:Array TypeId} (p:o.op = .call {callee := .builtin .append,args:=args,argTypes:=E})
  {xs y:Operand} (U:args.toList=[xs,y]) {t J:Nat} (C:E.toList=[t,J]) {d:Nat} (B:o.dst=some d)
  {i j I:TI} {e:Nat} (A:X.ti t=some i) (q:i.kind = .slice e) (hj:X.ti e=some j) {za:AV} (hz:j.zero=some za) (T:X.ti J=some I) (qt:kY I.kind=true)
  {S:Vd} {s:Nat} {rows:List CV} (ha:aL X env xs=some (.own S s rows)) {b:AV} (hb:aL X env y=some b) {G:Nat} {bZ:List CV} (W:mQ b=some (G,bZ))
  {sz:Nat} (O:j.size=sz) (hs:Dt s sz rows S=true) (rS:fQ G sz bZ=true) {u n:Nat} (V:vk d us ts S=some (u,n)) {N:Nat} (M:j.bytes=N) (K:Nat.ble 1 N=true) {ts':List (Nat×Nat)} (H:xd u n ts=some ts')
  (Y:(rows.length+bZ.length)*N<=140737488355328)
  (k:ai P X ops rest ((d,.own (.tok u n) sz (rows++bZ))::env) ⟨bs,ts',u::us⟩ (⟨[],[u]⟩::acc) Q):ai P X ops (o::rest) env ⟨bs,ts,us⟩ acc Q:=by
 subst O M;rw[si]at H;simp at H;subst H;exact ai.step (dj D) (bU.append (σ:=⟨bs,ts,us⟩) hX p U C A q hj hz T qt ha hb W hs rS V K Y) (Mk u n) (by rw[B];exact k)
end
end Go.cq
namespace Go.cq
structure Ren where
 bx:Nat->Option Nat
 tk:Nat->Option (Nat×Option Nat)
def Gh.fW (g:Gh) (ρ:Ren):Gh where
 G:=g.G
 box:=fun k=>match ρ.bx k with
  | some p=>g.box p
  | none=>none
 tok:=fun k=>match ρ.tk k with
  | some (m,none)=>some (m,none)
  | some (m,some p)=>match g.tok p with
   | some (_,A)=>some (m,A)
   | none=>none
  | none=>none
 room:=fun k=>match ρ.bx k with
  | some p=>g.room p
  | none=>0
mutual
def Conv (ρ:Ren) (ts:List (Nat×Nat)):AV->AV->Prop
 | .c v,b=>b = .c v\/close b=some v
 | .own .exact s rows,b=>b = .own .exact s rows
 | .own (.tok k m) s rows,b=>∃o,ρ.tk k=some (m,o)/\(o=none/\(∃q,b = .own .exact q rows/\(q=s\/rows=[]))\/∃p n,o=some p/\ak p ts=some n/\b = .own (.tok p n) s rows)
 | .ptr k off,b=>∃p,ρ.bx k=some p/\b = .ptr p off
 | .gv k off s n,b=>∃p,ρ.bx k=some p/\b = .gv p off s n
 | .any,b=>b.one=true
 | .agg l,b=>∃Y,b = .agg Y/\fu ρ ts l Y
 | .gy l,b=>∃Y,b = .gy Y/\fu ρ ts l Y
def fu (ρ:Ren) (ts:List (Nat×Nat)):List AV->List AV->Prop
 | [],Y=>Y=[]
 | a::l,Y=>∃b r,Y=b::r/\Conv ρ ts a b/\fu ρ ts l r
end
section
variable {g : Gh} {ρ : Ren} {ts : List (Nat × Nat)}
mutual
theorem qK (H:∀k n,ak k ts=some n->∃A,g.tok k=some (n,A)):∀{a b:AV} {u:Value},Conv ρ ts a b->aK g b u->aK (g.fW ρ) a u/\(b.one=true->a.one=true)
 | .c v,b,u,h,I=>by
  simp only[Conv]at h;rcases h with rfl|h
  ·simp only[aK]at I ⊢;exact⟨I,fun h=>h⟩
  ·have:=sn b v u h I;simp only[aK];exact⟨this.1,this.2⟩
 | .own .exact s rows,b,u,h,I=>by
  simp only[Conv]at h;subst h;simp only[aK]at I ⊢;exact⟨I,fun h=>h⟩
 | .own (.tok k m) s rows,b,u,h,I=>by
  simp only[Conv]at h;obtain⟨o,h1,⟨rfl,q,rfl,hq⟩|⟨p,n,rfl,h2,rfl⟩⟩:=h
  ·simp only[aK]at I ⊢;obtain⟨base,Y,M,C,U,B,K,V⟩:=I;refine⟨⟨base,Y,M,C,U,B,?_,m,none,?_,aak _,fun _ => .inl V⟩,fun _=>rfl⟩
   ·rcases hq with rfl|rfl
    ·exact K
    ·exact .inl rfl
   simp only[Gh.fW,h1]
  ·simp only[aK]at I ⊢;obtain⟨base,Y,M,C,U,B,K,J,A,V,G,P⟩:=I;obtain⟨E,S⟩:=H p n h2;rw[V]at S;simp at S;obtain⟨rfl,rfl⟩:=S;refine⟨⟨base,Y,M,C,U,B,K,m,A,?_,aak _,fun _=>P rfl⟩,fun _=>rfl⟩;simp only[Gh.fW,h1,V]
 | .ptr k off,b,u,h,I=>by
  simp only[Conv]at h;obtain⟨p,h1,rfl⟩:=h;simp only[aK]at I ⊢;obtain⟨b,C,U⟩:=I;exact⟨⟨b,by simp only[Gh.fW,h1,C],U⟩,fun _=>rfl⟩
 | .gv k off s n,b,u,h,I=>by
  simp only[Conv]at h;obtain⟨p,h1,rfl⟩:=h;simp only[aK]at I ⊢;obtain⟨b,M,o,C,U,B,K⟩:=I;exact⟨⟨b,M,o,by simp only[Gh.fW,h1,C],U,B,by simp only[Gh.fW,h1];exact K⟩,fun _=>rfl⟩
 | .any,b,u,h,I=>by
  simp only[Conv]at h;have:=vf h I;simp only[aK];refine⟨⟨fun vs e=>?_,fun vs e=>?_⟩,fun _=>rfl⟩<;>(subst e;simp[Value.oneCell']at this)
 | .agg l,b,u,h,I=>by
  simp only[Conv]at h;obtain⟨W,rfl,h1⟩:=h;simp only[aK]at I ⊢;obtain⟨vs,C,U,B⟩:=I;obtain⟨T,Q⟩:=vl H h1 U;exact⟨⟨vs,C,T,Q B⟩,fun h=>by simp[AV.one]at h⟩
 | .gy l,b,u,h,I=>by
  simp only[Conv]at h;obtain⟨W,rfl,h1⟩:=h;simp only[aK]at I ⊢;obtain⟨vs,C,U,B⟩:=I;obtain⟨T,Q⟩:=vl H h1 U;refine⟨⟨vs,C,T,?_⟩,fun h=>by simp[AV.one]at h⟩;rw[(bF.get T).1,<- (bF.get U).1];exact B
theorem vl (H:∀k n,ak k ts=some n->∃A,g.tok k=some (n,A)):∀{l W:List AV} {us:List Value},fu ρ ts l W->bF g W us->bF (g.fW ρ) l us/\(W.all AV.one=true->l.all AV.one=true)
 | [],W,us,h,I=>by
  simp only[fu]at h;subst h;simp only[bF]at I ⊢;exact⟨I,fun h=>h⟩
 | a::l,W,us,h,I=>by
  simp only[fu]at h;obtain⟨b,r,rfl,h1,h2⟩:=h;simp only[bF]at I ⊢;obtain⟨u,us',rfl,O,N⟩:=I;obtain⟨C,U⟩:=qK H h1 O;obtain⟨B,K⟩:=vl H h2 N;refine⟨⟨u,us',rfl,C,B⟩,fun h=>?_⟩;simp only[List.all_cons,aai]at h ⊢;exact⟨U h.1,K h.2⟩
end
theorem Bl {w:World} (H:∀k n,ak k ts=some n->∃A,g.tok k=some (n,A)) {b:Nat}:∀{l p:List AV} {o:Nat},fu ρ ts l p->cr w g b o p->cr w (g.fW ρ) b o l
 | [],_,_,_,_=>trivial
 | a::l,p,o,h,hc=>by
  simp only[fu]at h;obtain⟨x,r,rfl,h1,h2⟩:=h;obtain⟨⟨u,q,J,Y⟩,c4,c5⟩:=hc;obtain⟨C,U⟩:=qK H h1 J;exact⟨⟨u,q,C,U Y⟩,c4,Bl H h2 c5⟩
end
theorem oz {w:World} {g:Gh} {σ:St} (h:Inv w g σ):∀k n,ak k σ.toks=some n->∃A,g.tok k=some (n,A):=fun k n e=>by
 obtain⟨A,C,_⟩:=h.tok k n e;exact⟨A,C⟩
theorem Inv.fW {w:World} {g:Gh} {σ:St} (h:Inv w g σ) (ρ:Ren) (σ':St)
  (hb:∀k cells,ak k σ'.boxes=some cells->∃old oc,ρ.bx k=some old/\ak old σ.boxes=some oc/\fu ρ σ.toks cells oc)
  (hbi:∀k k' old,ρ.bx k=some old->ρ.bx k'=some old->k=k')
  (ht:∀k n,ak k σ'.toks=some n->∃o,ρ.tk k=some (n,o)/\∀old,o=some old->∃n',ak old σ.toks=some n')
  (hti:∀k k' m m' old,ρ.tk k=some (m,some old)->ρ.tk k'=some (m',some old)->k=k')
  (hu:∀k,ρ.bx k≠none\/ρ.tk k≠none->k∈σ'.used) :
  Inv w (g.fW ρ) σ'/\((∀k,1000000<=k->ak k σ'.boxes≠none->ρ.bx k=some k)->gQ w g σ w (g.fW ρ) σ'):=by
 have hts:=oz h
 have XF:∀k n b lo hi,ak k σ'.toks=some n->(g.fW ρ).tok k=some (n,some (b,lo,hi))->∃old n' m,ρ.tk k=some (m,some old)/\ak old σ.toks=some n'/\g.tok old=some (n',some (b,lo,hi)):=by
  intro k n b lo hi e e1
  obtain⟨o,h1,h2⟩:=ht k n e
  cases o with
  | none=>simp[Gh.fW,h1]at e1
  | some old =>
   obtain⟨n',h3⟩:=h2 old rfl
   obtain⟨fS,h4⟩:=hts old n' h3
   simp[Gh.fW,h1,h4]at e1
   subst e1
   exact⟨old,n',n,h1,h3,h4⟩
 have Zq:∀k b,(g.fW ρ).box k=some b->∃old,ρ.bx k=some old/\g.box old=some b:=by
  intro k b e
  simp only[Gh.fW]at e
  split at e
  ·rename_i old ho;exact⟨old,ho,e⟩
  ·simp at e
 refine⟨⟨h.oI,?_,?_,?_,?_,?_,?_⟩,fun acp=>⟨rfl,rfl,rfl,aak _,fun _ _ _=>rfl,fun _ _ _ _=>⟨rfl,rfl⟩,jk.le.refl _,fun _ _ _ h => .inl h,?_,?_,?_⟩⟩
 ·intro k cells e
  obtain⟨old,oc,h1,h2,h3⟩:=hb k cells e
  obtain⟨b,h4,h5,h6,h7⟩:=h.box old oc h2
  exact⟨b,by simp only[Gh.fW,h1,h4],h5,h6,Bl hts h3 h7⟩
 ·intro k k' cs cs' b e e' e1 e2
  obtain⟨old,oc,h1,h2,_⟩:=hb k cs e
  obtain⟨old',Vo,xb,yQ,_⟩:=hb k' cs' e'
  simp only[Gh.fW,h1,xb]at e1 e2
  have:=h.fB old old' oc Vo b h2 yQ e1 e2
  subst this
  exact hbi k k' old h1 xb
 ·intro k n e
  obtain⟨o,h1,h2⟩:=ht k n e
  cases o with
  | none=>exact⟨none,by simp only[Gh.fW,h1],fun _ _ _ h=>by simp at h⟩
  | some old =>
   obtain⟨n',h3⟩:=h2 old rfl
   obtain⟨fS,h4,h5⟩:=h.tok old n' h3
   refine⟨fS,by simp only[Gh.fW,h1,h4],fun b lo hi hr=>?_⟩
   obtain⟨f1,f2,f3⟩:=h5 b lo hi hr
   refine⟨f1,f2,fun k' cs e'=>?_⟩
   obtain⟨old',Vo,g1,g2,_⟩:=hb k' cs e'
   simp only[Gh.fW,g1]
   exact f3 old' Vo g2
 ·intro k k' n n' b lo hi lo' hi' e e' e1 e2
  obtain⟨old,m1,q1,h1,h2,h3⟩:=XF k n b lo hi e e1
  obtain⟨old',m1',q1',xb,yQ,YD⟩:=XF k' n' b lo' hi' e' e2
  have:=h.gw old old' m1 m1' b lo hi lo' hi' h2 yQ h3 YD
  subst this
  exact hti k k' _ _ old h1 xb
 ·intro k e
  apply hu k
  rcases e with e|e
  ·left;intro hn;apply e;simp[Gh.fW,hn]
  ·right;intro hn;apply e;simp[Gh.fW,hn]
 ·intro k cs b e e1 o
  obtain⟨old,oc,h1,h2,_⟩:=hb k cs e
  simp only[Gh.fW,h1]at e1 ⊢
  exact h.room old oc b h2 e1 o
 ·intro k cs b e e1
  obtain⟨old,oc,h1,h2,_⟩:=hb k cs e
  simp only[Gh.fW,h1]at e1
  exact .inr ⟨old,oc,h2,e1⟩
 ·intro k n b lo hi e e1
  obtain⟨old,n',m,h1,h2,h3⟩:=XF k n b lo hi e e1
  exact .inr ⟨old,n',lo,hi,h2,h3,aak _,aak _⟩
 ·intro k hk e
  have h1:=acp k hk e
  cases hc:ak k σ'.boxes with
  | none=>exact absurd hc e
  | some cells =>
   obtain⟨old,oc,h2,h3,_⟩:=hb k cells hc
   rw[h1]at h2;simp at h2;subst h2
   exact⟨by rw[h3];simp,by simp[Gh.fW,h1],by simp[Gh.fW,h1]⟩
def distinct:List Nat->Bool
 | []=>true
 | x::l=>match mem x l with
  | true=>false
  | false=>distinct l
theorem dA {α:Type} {k:Nat} {v:α}:∀{l:List (Nat×α)},ak k l=some v->(k,v)∈l
 | [],h=>by simp[ak]at h
 | (j,x)::l,h=>by
  rw[au]at h;split at h
  ·simp_all
  ·exact List.mem_cons_of_mem _ (dA h)
theorem gf {α:Type} {k:Nat} {v:α}:∀{l:List (Nat×α)},distinct (l.map (·.1))=true->(k,v)∈l->ak k l=some v
 | [],_,h=>by simp at h
 | (j,x)::l,p,h=>by
  simp only[List.map_cons,distinct]at p;split at p
  ·simp at p
  ·rename_i M;rw[au];rcases List.mem_cons.1 h with h1|h1
   ·simp_all
   ·have:k≠j:=by
     intro Y;exact cS M (List.mem_map.2 ⟨(k,v),h1,Y⟩)
    rw[if_neg this];exact gf p h1
theorem pn {α:Type} {k:Nat}:∀{l:List (Nat×α)},k ∉ l.map (·.1)->ak k l=none
 | [],_=>rfl
 | (j,x)::l,h=>by
  simp only[List.map_cons,List.mem_cons,not_or]at h;rw[au,if_neg h.1];exact pn h.2
theorem nH {α:Type} {k:Nat} {l:List (Nat×α)} (h:ak k l≠none):k∈l.map (·.1):=by
 by_cases D:k∈l.map (·.1)
 ·exact D
 ·exact absurd (pn D) h
theorem mR {l:List (Nat×Nat)} (h:distinct (l.map (·.2))=true) {k k' v:Nat} (h1:(k,v)∈l) (h2:(k',v)∈l):k=k':=by
 induction l with
 | nil=>simp at h1
 | cons x l S =>
  simp only[List.map_cons,distinct]at h;split at h
  ·simp at h
  ·rename_i M;have Y:=cS M;rcases List.mem_cons.1 h1 with C|C
   ·grind
   ·grind
def oJ {α:Type}:List (Nat×α)->List (Nat×α)->List (Nat×α)
 | [],b=>b
 | (k,v)::l,b=>oJ l (uj k v b)
def sY {α:Type}:List (Nat×α)->List (Nat×α)->Option (List (Nat×α))
 | [],b=>some b
 | (k,v)::l,b=>match xd k v b with
  | some P=>sY l P
  | none=>none
theorem Dv {α:Type}:∀(l b:List (Nat×α)),sY l b=some (oJ l b)
 | [],b=>rfl
 | (k,v)::l,b=>by simp only[sY,oJ,si,Dv l]
theorem kK {α:Type} {k:Nat}:∀{l b:List (Nat×α)},distinct (l.map (·.1))=true->ak k (oJ l b)=match ak k l with
  | some v=>some v
  | none=>ak k b
 | [],b,_=>rfl
 | (j,x)::l,b,p=>by
  simp only[List.map_cons,distinct]at p;split at p
  ·simp at p
  ·rename_i M;simp only[oJ];rw[kK p,au];by_cases D:k=j
   ·subst D;rw[if_pos rfl,pn (cS M)];simp[ew]
   ·rw[if_neg D,ew,if_neg D]
theorem Mm (nb:List (Nat×List AV)) (Y:List (Nat×Nat)) (W:List Nat) (G:distinct (nb.map (·.1))=true) (M:distinct (Y.map (·.1))=true) :
  gR (fun σ=>(⟨oJ nb σ.boxes,oJ Y σ.toks,W++σ.used⟩:St)) ⟨[],nb.map (·.1)++(Y.map (·.1)++W)⟩ where
 out:=fun σ k D=>by
  simp only[List.mem_append,not_or]at D;refine⟨?_,?_,?_⟩
  ·simp only[kK G,pn D.1]
  ·simp only[kK M,pn D.2.1]
  ·simp[D.2.2]
 same:=fun σ T h k D=>by
  obtain⟨C,U,B⟩:=h k (.inr D);refine⟨?_,?_,?_⟩
  ·simp only[kK G,C]
  ·simp only[kK M,U]
  ·simp_all
end Go.cq
namespace Go.cq
inductive LV where
 | c (v:CV)
 | own (s:Nat) (rows:List CV)
 deriving Inhabited
inductive PA where
 | v (x:LV)
 | box (cells:List LV)
 deriving Inhabited
def LV.av (k m:Nat):LV->AV
 | .c v => .c v
 | .own s rows => .own (.tok k m) s rows
def LV.tk (k m:Nat):LV->List (Nat×Nat)
 | .c _=>[]
 | .own _ _=>[(k,m)]
def Ay (m:Nat):Nat->List LV->List AV
 | _,[]=>[]
 | k,x::l=>x.av k m::Ay m (k+1) l
def xF (m:Nat):Nat->List LV->List (Nat×Nat)
 | _,[]=>[]
 | k,x::l=>x.tk k m++xF m (k+1) l
abbrev pb (i:Nat):Nat:=1000000+1000*i
abbrev rk:Nat:=5000000
def zf:Nat->List PA->List AV
 | _,[]=>[]
 | i,.v x::l=>x.av (pb i) 0::zf (i+1) l
 | i,.box _::l => .ptr (pb i) 0::zf (i+1) l
def Dw:Nat->List PA->List (Nat×List AV)
 | _,[]=>[]
 | i,.v _::l=>Dw (i+1) l
 | i,.box cells::l=>(pb i,Ay 0 (pb i+1) cells)::Dw (i+1) l
def Dx:Nat->List PA->List (Nat×Nat)
 | _,[]=>[]
 | i,.v x::l=>x.tk (pb i) 0++Dx (i+1) l
 | i,.box cells::l=>xF 0 (pb i+1) cells++Dx (i+1) l
def tu (Y:List PA):St:=⟨Dw 0 Y,Dx 0 Y,(Dw 0 Y).map (·.1)++(Dx 0 Y).map (·.1)⟩
def qz:List (Nat×List LV)->List (Nat×List AV)
 | []=>[]
 | (i,cells)::l=>(pb i,Ay 1 (pb i+1) cells)::qz l
def oR:List (Nat×List LV)->List (Nat×Nat)
 | []=>[]
 | (i,cells)::l=>xF 1 (pb i+1) cells++oR l
def xj (Y:List (Nat×List LV)) (rs:List LV):St:=⟨qz Y,oR Y++xF 0 rk rs,(qz Y).map (·.1)++(oR Y++xF 0 rk rs).map (·.1)⟩
def qi (s:Nat):List LV->AV
 | [] => .c .undef
 | [x]=>x.av (rk+s) 0
 | l => .gy (Ay 0 (rk+s) l)
def XG (g:Gh) (rs:List LV) (u:Value):Prop:=aK g (qi 0 rs) u
def ER (β:jG) (rs:List LV) (Y:List (Nat×List LV)):Ending->World->Prop:=fun e w' =>
 ∃u g',e = .returned u/\XG g' rs u/\Inv w' g' (xj Y rs)/\gQ β.w β.g β.σ w' g' (xj Y rs)
def bt (P:Program) (X:Ctx) (f:FuncId) (Y:List PA) (rs:List LV) (W:List (Nat×List LV)):Prop :=
 Enters P f/\∀(g:Gh) (w:World) (vs:List Value),Inv w g (tu Y)->nC X g.G->bF g (zf 0 Y) vs ->
  Calls P f vs.toArray w (ER ⟨w,g,tu Y⟩ rs W)
theorem bt.of {P:Program} {X:Ctx} {f:FuncId} {W:Func} {c:Code} {Y:List PA} {rs:List LV} {Q:List (Nat×List LV)} (hf:P.funcs[f]?=some W) (G:W.body=some c) (M:Enters P f)
  (D:Y.length<=W.ntmps) (env:Env) (K:env=((zf 0 Y).zipIdx.map fun(v,i)=>(i,v)))
  (h:∀β,AK P X f W.ntmps β (ER β rs Q) [.code c] env (tu Y)):bt P X f Y rs Q:=by
 refine⟨M,fun g w vs T J A cs=>?_⟩;have O:=(bF.get A).1;have q:(zf 0 Y).length=Y.length:=by
  have:∀(l:List PA) (i:Nat),(zf i l).length=l.length:=by
   intro l
   induction l with
   | nil=>intro i;rfl
   | cons p l N=>intro i;cases p<;>simp[zf,N]
  exact this Y 0
 have H:Live X ⟨w,g,tu Y⟩ W.ntmps env (tu Y) g w {tmps:=vs.toArray++Array.replicate (W.ntmps-vs.toArray.size) undef,defers:=[]}:=by
  refine⟨T,J,?_,gQ.refl _ _ _,?_,rfl⟩
  ·intro t a e;subst K;have U:∀(l:List AV) (us:List Value) (k:Nat),bF g l us->ak t ((l.zipIdx k).map fun(v,i)=>(i,v))=some a->k<=t/\∃u,us[t-k]?=some u/\aK g a u:=by
    intro l
    induction l with
    | nil=>intro us k _ e;simp[ak]at e
    | cons v l N =>
     intro us k I e;simp only[bF]at I;obtain⟨u,us,rfl,h1,h2⟩:=I;simp only[List.zipIdx_cons,List.map_cons,au]at e;split at e
     ·simp_all
     ·grind
   obtain⟨_,u,V,S⟩:=U (zf 0 Y) vs 0 A e;simp at V;have C:t<vs.length:=(List.getElem?_eq_some_iff.1 V).1;have:(vs.toArray++Array.replicate (W.ntmps-vs.toArray.size) undef).getD t undef=u:=by
    rw[Array.getD_eq_getD_getElem?,Array.getElem?_append_left VI];simp[V]
   rw[this];exact S
  ·simp;omega
 obtain⟨e,w',fr,h1,V,S,B⟩:=h ⟨w,g,tu Y⟩ g w _ cs H;have E:Frame.enter P f vs.toArray .normal =
   (top f).at {tmps:=vs.toArray++Array.replicate (W.ntmps-vs.toArray.size) undef,defers:=[]} [.code c]:=by
  simp[Frame.enter,Frame.at,hf,G,top]
 exact⟨_,w',fr,h1,by rw[E];exact V,S,B⟩
theorem bt.tQ {P:Program} {X:Ctx} {f:FuncId} {Y:Func} {c:Code} {W:List PA} {rs:List LV} {V:List (Nat×List LV)} (hf:P.funcs[f]?=some Y) (G:Y.body=some c) (U:Enters P f)
  (T:W.length<=Y.ntmps) (env:Env) (bs:List (Nat×List AV)) (ts:List (Nat×Nat)) (us:List Nat) (S:env=((zf 0 W).zipIdx.map fun(v,i)=>(i,v))) (A:tu W=⟨bs,ts,us⟩)
  (h:∀β,AK P X f Y.ntmps β (ER β rs V) [.code c] env ⟨bs,ts,us⟩):bt P X f W rs V :=
 bt.of hf G U T env S fun β=>by rw[A];exact h β
def JV (ts:List (Nat×Nat)) (t:Nat):AV->Option (List CV)
 | .own .exact s rows=>match fQ s t rows with
  | true=>some rows
  | false=>none
 | .own (.tok k n) s rows=>match ak k ts with
  | some m=>match Nat.beq m n with
   | true=>match Nat.beq s t with
    | true=>some rows
    | false=>none
   | false=>none
  | none=>none
 | _=>none
def Az (ts:List (Nat×Nat)):LV->AV->Prop
 | .c v,a=>close a=some v
 | .own s rows,a=>JV ts s a=some rows
def jr (ts:List (Nat×Nat)):List LV->List AV->Prop
 | [],l=>l=[]
 | x::xs,l=>∃a r,l=a::r/\Az ts x a/\jr ts xs r
def AA (m k:Nat):LV->AV->List (Nat×(Nat×Option Nat))
 | .own _ _,.own .exact _ _=>[(k,(m,none))]
 | .own _ _,.own (.tok k' _) _ _=>[(k,(m,some k'))]
 | _,_=>[]
def nw (m:Nat):Nat->List LV->List AV->List (Nat×(Nat×Option Nat))
 | _,[],_=>[]
 | _,_::_,[]=>[]
 | k,x::xs,a::l=>AA m k x a++nw m (k+1) xs l
theorem qL {ts:List (Nat×Nat)} {a:AV} {s:Nat} {rows:List CV} (h:JV ts s a=some rows):(∃q,a = .own .exact q rows/\(q=s\/rows=[]))\/∃k n,a = .own (.tok k n) s rows/\ak k ts=some n:=by
 unfold JV at h;split at h
 ·split at h
  ·rename_i Y;simp at h;subst h;exact .inl ⟨_,rfl,nW Y⟩
  ·simp at h
 ·split at h
  ·rename_i m M;split at h
   ·rename_i G;split at h
    ·rename_i Y;simp at h;subst h;have:=beq_true G;subst this;have:=beq_true Y;subst this;exact .inr ⟨_,_,rfl,M⟩
    ·simp at h
   ·simp at h
  ·simp at h
 ·simp at h
theorem Ou {ρ:Ren} {ts:List (Nat×Nat)} {m k:Nat}:∀{x:LV} {a:AV},Az ts x a->(∀e∈AA m k x a,ρ.tk e.1=some e.2)->Conv ρ ts (x.av k m) a
 | .c v,a,h,_=>by simp only[Az]at h;simp only[LV.av,Conv];exact .inr h
 | .own s rows,a,h,M=>by
  simp only[Az]at h;simp only[LV.av,Conv];rcases qL h with ⟨q,rfl,hq⟩|⟨k',n,rfl,Y⟩
  ·exact⟨none,M (k,(m,none)) (by simp[AA]),.inl ⟨rfl,q,rfl,hq⟩⟩
  ·exact⟨some k',M (k,(m,some k')) (by simp[AA]),.inr ⟨k',n,rfl,Y,rfl⟩⟩
theorem zg {ρ:Ren} {ts:List (Nat×Nat)} {m:Nat}:∀{k:Nat} {xs:List LV} {l:List AV},jr ts xs l->(∀e∈nw m k xs l,ρ.tk e.1=some e.2)->fu ρ ts (Ay m k xs) l
 | k,[],l,h,_=>by simp only[jr]at h;subst h;simp[Ay,fu]
 | k,x::xs,l,h,M=>by
  simp only[jr]at h;obtain⟨a,r,rfl,h1,h2⟩:=h;simp only[Ay,fu];simp only[nw,List.mem_append]at M;exact⟨a,r,rfl,Ou h1 (fun e P=>M e (.inl P)),zg h2 (fun e P=>M e (.inr P))⟩
theorem JW {ts:List (Nat×Nat)} {m k j n:Nat}:∀{x:LV} {a:AV},Az ts x a->(j,n)∈x.tk k m->n=m/\∃o,(j,(m,o))∈AA m k x a/\∀p,o=some p->∃H,ak p ts=some H
 | .c v,a,h,M=>by simp[LV.tk]at M
 | .own s rows,a,h,M=>by
  simp only[Az]at h;simp[LV.tk]at M;obtain⟨rfl,rfl⟩:=M;rcases qL h with ⟨q,rfl,hq⟩|⟨k',H,rfl,Y⟩
  ·exact⟨rfl,none,by simp[AA],fun _ h=>by simp at h⟩
  ·exact⟨rfl,some k',by simp[AA],fun p h=>by simp at h;subst h;exact⟨H,Y⟩⟩
theorem wq {ts:List (Nat×Nat)} {m j n:Nat}:∀{k:Nat} {xs:List LV} {l:List AV},jr ts xs l->(j,n)∈xF m k xs->n=m/\∃o,(j,(m,o))∈nw m k xs l/\∀p,o=some p->∃H,ak p ts=some H
 | k,[],l,h,M=>by simp[xF]at M
 | k,x::xs,l,h,M=>by
  simp only[jr]at h;obtain⟨a,r,rfl,h1,h2⟩:=h;simp only[xF,List.mem_append]at M;simp only[nw,List.mem_append];rcases M with M|M
  ·obtain⟨C,o,U,B⟩:=JW h1 M;exact⟨C,o,.inl U,B⟩
  ·obtain⟨C,o,U,B⟩:=wq h2 M;exact⟨C,o,.inr U,B⟩
theorem JX {ts:List (Nat×Nat)} {m k:Nat}:∀{x:LV} {a:AV},Az ts x a->∀e∈AA m k x a,e.1∈(x.tk k m).map (·.1)
 | .c v,a,h,e,P=>by cases a<;>simp[AA]at P
 | .own s rows,a,h,e,P=>by
  simp only[Az]at h;rcases qL h with ⟨q,rfl,hq⟩|⟨k',H,rfl,Y⟩<;>simp[AA]at P<;>subst P<;>simp[LV.tk]
theorem wu {ts:List (Nat×Nat)} {m:Nat}:∀{k:Nat} {xs:List LV} {l:List AV},jr ts xs l->∀e∈nw m k xs l,e.1∈(xF m k xs).map (·.1)
 | k,[],l,h,e,he=>by simp only[jr]at h;subst h;simp[nw]at he
 | k,x::xs,l,h,e,he=>by
  simp only[jr]at h;obtain⟨a,r,rfl,h1,h2⟩:=h;simp only[nw,List.mem_append]at he;simp only[xF,List.map_append,List.mem_append];exact he.imp (JX h1 e) (wu h2 e)
def iX (bs:List (Nat×List AV)) (ts:List (Nat×Nat)):List PA->List AV->Prop
 | [],l=>l=[]
 | .v x::ps,l=>∃a r,l=a::r/\Az ts x a/\iX bs ts ps r
 | .box cells::ps,l=>∃Y W r,l = .ptr Y 0::r/\ak Y bs=some W/\jr ts cells W/\iX bs ts ps r
def jw (bs:List (Nat×List AV)):Nat->List PA->List AV->List (Nat×Nat)
 | _,[],_=>[]
 | _,_::_,[]=>[]
 | i,.v _::ps,_::l=>jw bs (i+1) ps l
 | i,.box _::ps,.ptr kb _::l=>(pb i,kb)::jw bs (i+1) ps l
 | i,.box _::ps,_::l=>jw bs (i+1) ps l
def jl (bs:List (Nat×List AV)):Nat->List PA->List AV->List (Nat×(Nat×Option Nat))
 | _,[],_=>[]
 | _,_::_,[]=>[]
 | i,.v x::ps,a::l=>AA 0 (pb i) x a++jl bs (i+1) ps l
 | i,.box cells::ps,.ptr kb _::l=>(match ak kb bs with
  | some Y=>nw 0 (pb i+1) cells Y
  | none=>[])++jl bs (i+1) ps l
 | i,.box _::ps,_::l=>jl bs (i+1) ps l
section
variable {bs : List (Nat × List AV)} {ts : List (Nat × Nat)}
theorem xT {ρ:Ren}:∀{i:Nat} {Y:List PA} {l:List AV},iX bs ts Y l->(∀e∈jw bs i Y l,ρ.bx e.1=some e.2)->(∀e∈jl bs i Y l,ρ.tk e.1=some e.2)->fu ρ ts (zf i Y) l
 | i,[],l,h,_,_=>by simp only[iX]at h;subst h;simp[zf,fu]
 | i,.v x::Y,l,h,h1,h2=>by
  simp only[iX]at h;obtain⟨a,r,rfl,V,W⟩:=h;simp only[zf,fu];simp only[jl,List.mem_append]at h2;exact⟨a,r,rfl,Ou V (fun e P=>h2 e (.inl P)),xT W (by simpa only[jw]using h1) (fun e P=>h2 e (.inr P))⟩
 | i,.box cells::Y,l,h,h1,h2=>by
  simp only[iX]at h;obtain⟨U,T,r,rfl,V,W,p⟩:=h;simp only[zf,fu];simp only[jl,V,List.mem_append]at h2;simp only[jw,List.mem_cons]at h1;exact⟨_,r,rfl,by simp only[Conv];exact⟨U,h1 (pb i,U) (.inl rfl),rfl⟩,xT p (fun e P=>h1 e (.inr P)) (fun e P=>h2 e (.inr P))⟩
theorem sw:∀{i:Nat} {W:List PA} {l:List AV} {k:Nat} {cells:List AV},iX bs ts W l->(k,cells)∈Dw i W ->
  ∃U V Y,(k,U)∈jw bs i W l/\ak U bs=some V/\cells=Ay 0 (k+1) Y/\jr ts Y V/\∀e∈nw 0 (k+1) Y V,e∈jl bs i W l
 | i,[],l,k,cells,h,M=>by simp[Dw]at M
 | i,.v x::W,l,k,cells,h,M=>by
  simp only[iX]at h;obtain⟨a,r,rfl,Q,O⟩:=h;simp only[Dw]at M;obtain⟨U,V,Y,C,K,B,T,A⟩:=sw O M;simp only[jw,jl,List.mem_append];exact⟨U,V,Y,C,K,B,T,fun e P => .inr (A e P)⟩
 | i,.box cs::W,l,k,cells,h,M=>by
  simp only[iX]at h;obtain⟨U,V,r,rfl,Q,O,p⟩:=h;simp only[Dw,List.mem_cons]at M;simp only[jw,jl,Q,List.mem_append,List.mem_cons];rcases M with M|M
  ·grind
  ·obtain⟨S,N,Y,C,K,B,T,A⟩:=sw p M;exact⟨S,N,Y,.inr C,K,B,T,fun e P => .inr (A e P)⟩
theorem wv:∀{i:Nat} {Y:List PA} {l:List AV} {j n:Nat},iX bs ts Y l->(j,n)∈Dx i Y->n=0/\∃o,(j,(0,o))∈jl bs i Y l/\∀p,o=some p->∃H,ak p ts=some H
 | i,[],l,j,n,h,M=>by simp[Dx]at M
 | i,.v x::Y,l,j,n,h,M=>by
  simp only[iX]at h;obtain⟨a,r,rfl,V,W⟩:=h;simp only[Dx,List.mem_append]at M;simp only[jl,List.mem_append];rcases M with M|M
  ·obtain⟨C,o,U,B⟩:=JW V M;exact⟨C,o,.inl U,B⟩
  ·obtain⟨C,o,U,B⟩:=wv W M;exact⟨C,o,.inr U,B⟩
 | i,.box cs::Y,l,j,n,h,M=>by
  simp only[iX]at h;obtain⟨S,Q,r,rfl,V,W,T⟩:=h;simp only[Dx,List.mem_append]at M;simp only[jl,V,List.mem_append];rcases M with M|M
  ·obtain⟨C,o,U,B⟩:=wq W M;exact⟨C,o,.inl U,B⟩
  ·obtain⟨C,o,U,B⟩:=wv T M;exact⟨C,o,.inr U,B⟩
theorem xU:∀{i:Nat} {Y:List PA} {l:List AV},iX bs ts Y l->(∀e∈jw bs i Y l,e.1∈(Dw i Y).map (·.1))/\(∀e∈jl bs i Y l,e.1∈(Dx i Y).map (·.1))
 | i,[],l,h=>by simp only[iX]at h;subst h;simp[jw,jl]
 | i,.v x::Y,l,h=>by
  simp only[iX]at h;obtain⟨a,r,rfl,V,W⟩:=h;obtain⟨S,M⟩:=xU (i:=i+1) W;simp only[jw,jl,Dw,Dx,List.mem_append,List.map_append];exact⟨S,fun e P=>P.imp (JX V e) (M e)⟩
 | i,.box cs::Y,l,h=>by
  simp only[iX]at h;obtain⟨U,T,r,rfl,V,W,p⟩:=h;obtain⟨S,M⟩:=xU (i:=i+1) p;simp only[jw,jl,Dw,Dx,V,List.mem_append,List.map_append,List.mem_cons,List.map_cons];refine⟨fun e P=>?_,fun e P=>P.imp (wu W e) (M e)⟩;rcases P with rfl|P
  ·exact .inl rfl
  ·exact .inr (S e P)
def cR:List (Nat×(Nat×Option Nat))->List Nat
 | []=>[]
 | (_,(_,some k))::l=>k::cR l
 | (_,(_,none))::l=>cR l
theorem tv {l:List (Nat×(Nat×Option Nat))} {p:Nat}:p∈cR l↔∃k m,(k,(m,some p))∈l:=by
 induction l with
 | nil=>simp[cR]
 | cons x l S =>
  obtain⟨k,m,o⟩:=x;cases o with
  | none=>simp[cR,S]
  | some k' =>
   simp only[cR,List.mem_cons,S];constructor
   ·rintro(rfl|⟨a,b,h⟩)
    ·exact⟨k,m,.inl rfl⟩
    ·exact⟨a,b,.inr h⟩
   ·grind
theorem tw {l:List (Nat×(Nat×Option Nat))} (h:distinct (cR l)=true) {k k' m W H:Nat} (h1:(k,(m,some H))∈l) (h2:(k',(W,some H))∈l):k=k':=by
 induction l with
 | nil=>simp at h1
 | cons x l S =>
  obtain⟨q,p,o⟩:=x;cases o with
  | none =>
   simp only[cR]at h;simp at h1 h2;exact S h h1 h2
  | some z =>
   simp only[cR,distinct]at h;split at h
   ·simp at h
   ·rename_i M;have Y:=cS M;rcases List.mem_cons.1 h1 with C|C
    ·rcases List.mem_cons.1 h2 with U|U
     ·simp_all
     ·simp at C;rw[C.2.2]at U;exact absurd (tv.2 ⟨_,_,U⟩) Y
    ·rcases List.mem_cons.1 h2 with U|U
     ·simp at U;rw[U.2.2]at C;exact absurd (tv.2 ⟨_,_,C⟩) Y
     ·exact S h C U
def xl (bs:List (Nat×List AV)) (Y:List PA) (l:List AV):Ren:=⟨fun k=>ak k (jw bs 0 Y l),fun k=>ak k (jl bs 0 Y l)⟩
end
structure sA (bs:List (Nat×List AV)) (ts:List (Nat×Nat)) (ps:List PA) (l:List AV):Prop where
 ok:iX bs ts ps l
 d1:distinct ((jw bs 0 ps l).map (·.1))=true
 d2:distinct ((jw bs 0 ps l).map (·.2))=true
 d3:distinct ((jl bs 0 ps l).map (·.1))=true
 d4:distinct (cR (jl bs 0 ps l))=true
theorem sA.inv {σ:St} {Y:List PA} {l:List AV} (h:sA σ.boxes σ.toks Y l) {w:World} {g:Gh} (W:Inv w g σ):Inv w (g.fW (xl σ.boxes Y l)) (tu Y):=by
 refine(W.fW (xl σ.boxes Y l) (tu Y) ?_ ?_ ?_ ?_ ?_).1
 ·intro k cells e;obtain⟨V,T,Q,C,U,B,K,A⟩:=sw h.ok (dA e);refine⟨V,T,gf h.d1 C,U,?_⟩;subst B;exact zg K fun e P=>gf h.d3 (A e P)
 ·intro k k' p C U;exact mR h.d2 (dA C) (dA U)
 ·intro k n e;obtain⟨rfl,o,C,U⟩:=wv h.ok (dA e);exact⟨o,gf h.d3 C,U⟩
 ·intro k k' m N p C U;exact tw h.d4 (dA C) (dA U)
 ·intro k e;obtain⟨S,M⟩:=xU (i:=0) h.ok;simp only[tu,List.mem_append];rcases e with e|e
  ·left;obtain⟨x,O,rfl⟩:=List.mem_map.1 (nH e);exact S x O
  ·right;obtain⟨x,O,rfl⟩:=List.mem_map.1 (nH e);exact M x O
theorem sA.rel {σ:St} {Y:List PA} {l:List AV} (h:sA σ.boxes σ.toks Y l) {w:World} {g:Gh} (W:Inv w g σ) {vs:List Value} (V:bF g l vs):bF (g.fW (xl σ.boxes Y l)) (zf 0 Y) vs :=
 (vl (oz W) (xT (ρ:=xl σ.boxes Y l) h.ok (fun e P=>gf h.d1 P) (fun e P=>gf h.d3 P)) V).1
end Go.cq
namespace Go.cq
def pO (s:Nat):List (Nat×Nat)->List (Nat×Nat)
 | []=>[]
 | (k,n)::l=>(k+s,n)::pO s l
def pP (ts:List (Nat×Nat)):List Nat->List (Nat×Nat)
 | []=>[]
 | k::l=>match ak k ts with
  | some n=>(k,n+1)::pP ts l
  | none=>pP ts l
def Mn (m:Nat):Nat->List LV->Option (List AV)
 | _,[]=>some []
 | k,.c v::l=>match Mn m (k+1) l with
  | some r=>some (.c v::r)
  | none=>none
 | k,.own s rows::l=>match Mn m (k+1) l with
  | some r=>some (.own (.tok k m) s rows::r)
  | none=>none
theorem Ca (m:Nat):∀(k:Nat) (l:List LV),Mn m k l=some (Ay m k l)
 | _,[]=>rfl
 | k,.c v::l=>by simp only[Mn,Ca m (k+1) l,Ay,LV.av]
 | k,.own s rows::l=>by simp only[Mn,Ca m (k+1) l,Ay,LV.av]
def G3 (bx:List (Nat×Nat)) (s:Nat):List (Nat×List LV)->Option (List (Nat×List AV))
 | []=>some []
 | (i,cells)::l=>match ak (pb i) bx with
  | some Y=>match Mn 1 (pb i+1+s) cells with
   | some c=>match G3 bx s l with
    | some r=>some ((Y,c)::r)
    | none=>none
   | none=>none
  | none=>none
def fV {α:Type}:List (Nat×α)->List Nat
 | []=>[]
 | (k,_)::l=>k::fV l
theorem kZ {α:Type}:∀(l:List (Nat×α)),fV l=l.map (·.1)
 | []=>rfl
 | (k,_)::l=>by simp[fV,kZ l]
def Dy (l:List Nat):List Nat->Bool
 | []=>true
 | x::r=>match mem x l with
  | true=>Dy l r
  | false=>false
def Hz (l:List Nat):List Nat->Bool
 | []=>true
 | x::r=>match mem x l with
  | true=>false
  | false=>Hz l r
theorem sB {l:List Nat}:∀{r:List Nat},Dy l r=true->∀x∈r,x∈l
 | [],_,x,h=>by simp at h
 | y::r,h,x,O=>by
  simp only[Dy]at h;split at h
  ·rename_i M;rcases List.mem_cons.1 O with rfl|O
   ·exact mem_iff.1 M
   ·exact sB h x O
  ·simp at h
theorem Dz {l:List Nat}:∀{r:List Nat},Hz l r=true->∀x∈r,x ∉ l
 | [],_,x,h=>by simp at h
 | y::r,h,x,O=>by
  simp only[Hz]at h;split at h
  ·simp at h
  ·rename_i M;rcases List.mem_cons.1 O with rfl|O
   ·exact cS M
   ·exact Dz h x O
theorem DA {s:Nat}:∀{l:List (Nat×Nat)} {k n:Nat},ak k (pO s l)=some n->∃j,k=j+s/\ak j l=some n
 | [],k,n,h=>by simp[pO,ak]at h
 | (j,m)::l,k,n,h=>by
  simp only[pO,au]at h;split at h
  ·rename_i D;exact⟨j,D,by rw[au,if_pos rfl];exact h⟩
  ·rename_i D;obtain⟨i,rfl,h2⟩:=DA h;exact⟨i,rfl,by rw[au,if_neg bn];exact h2⟩
theorem Bm {s:Nat}:∀{l:List (Nat×Nat)} {j:Nat},ak (j+s) (pO s l)=ak j l
 | [],j=>rfl
 | (i,m)::l,j=>by
  simp only[pO,au];by_cases h:j=i
  ·simp_all
  ·rw[if_neg bn,if_neg h,Bm]
theorem Bn {α:Type} {k:Nat}:∀{a b:List (Nat×α)},ak k (a++b)=match ak k a with
  | some v=>some v
  | none=>ak k b
 | [],b=>rfl
 | (j,x)::a,b=>by
  simp only[List.cons_append,au];split
  ·rfl
  ·exact Bn
theorem xV {ts:List (Nat×Nat)}:∀{l:List Nat} {k n:Nat},ak k (pP ts l)=some n->k∈l/\∃m,ak k ts=some m/\n=m+1
 | [],k,n,h=>by simp[pP,ak]at h
 | j::l,k,n,h=>by
  simp only[pP]at h
  split at h
  ·rename_i m hm
   rw[au]at h
   split at h
   ·simp_all
   ·obtain⟨h1,h2⟩:=xV h;exact⟨P9,h2⟩
  ·obtain⟨h1,h2⟩:=xV h;exact⟨P9,h2⟩
theorem AB {ts:List (Nat×Nat)}:∀{l:List Nat} {k m:Nat},k∈l->ak k ts=some m->ak k (pP ts l)=some (m+1)
 | [],k,m,h,_=>by simp at h
 | j::l,k,m,h,hm=>by
  simp only[pP];by_cases D:k=j
  ·subst D;rw[hm];simp[au]
  ·have E:k∈l:=by simpa[D]using h
   split
   ·rw[au,if_neg D];exact AB E hm
   ·exact AB E hm
theorem JY {bx:List (Nat×Nat)} {s:Nat}:∀{Y:List (Nat×List LV)} {nb:List (Nat×List AV)},G3 bx s Y=some nb ->
  (∀k v,(k,v)∈nb->∃i cells,(i,cells)∈Y/\ak (pb i) bx=some k/\v=Ay 1 (pb i+1+s) cells)/\(∀i cells k,(i,cells)∈Y->ak (pb i) bx=some k->k∈nb.map (·.1))
 | [],nb,h=>by simp[G3]at h;subst h;simp
 | (i,cells)::Y,nb,h=>by
  simp only[G3,Ca]at h;split at h
  ·rename_i V W;split at h
   ·rename_i r I;simp at h;subst h;obtain⟨h1,h2⟩:=JY I;constructor
    ·grind
    ·grind
   ·simp at h
  ·simp at h
theorem zh:∀{os:List (Nat×List LV)} {k:Nat} {v:List AV},(k,v)∈qz os->∃i cells,(i,cells)∈os/\k=pb i/\v=Ay 1 (pb i+1) cells
 | [],k,v,h=>by simp[qz]at h
 | (i,cells)::os,k,v,h=>by
  simp only[qz,List.mem_cons]at h
  rcases h with h|h
  ·grind
  ·obtain⟨i',c',h1,h2,h3⟩:=zh h;exact⟨i',c',P9,h2,h3⟩
theorem JZ:∀{Y:List (Nat×List LV)} {i:Nat} {cells:List LV},(i,cells)∈Y->(pb i,Ay 1 (pb i+1) cells)∈qz Y
 | [],i,cells,h=>by simp at h
 | (j,c)::Y,i,cells,h=>by
  simp only[qz,List.mem_cons];rcases List.mem_cons.1 h with h|h
  ·simp_all
  ·exact .inr (JZ h)
theorem J0:∀{Y:List (Nat×List LV)} {i:Nat} {cells:List LV} {e:Nat×Nat},(i,cells)∈Y->e∈xF 1 (pb i+1) cells->e∈oR Y
 | [],i,cells,e,h,_=>by simp at h
 | (j,c)::Y,i,cells,e,h,he=>by
  simp only[oR,List.mem_append];rcases List.mem_cons.1 h with h|h
  ·simp_all
  ·exact .inr (J0 h he)
section
variable {g g' : Gh} {s : Nat}
theorem LV.shift (W:g.G.le g'.G) {m k:Nat}:∀{x:LV} {u:Value},(∀e∈x.tk k m,g'.tok (e.1+s)=g.tok e.1)->aK g (x.av k m) u->aK g' (x.av (k+s) m) u/\((x.av k m).one=true->(x.av (k+s) m).one=true)
 | .c v,u,_,h=>by
  simp only[LV.av,aK]at h ⊢;exact⟨Rel.mono W _ _ h,fun h=>h⟩
 | .own q rows,u,M,h=>by
  simp only[LV.av,aK]at h ⊢;obtain⟨base,Y,I,C,U,B,K,O,A,V,T⟩:=h;refine⟨⟨base,Y,I,C,U,B,K.mono W,O,A,?_,T⟩,fun _=>rfl⟩;have:=M (k,m) (by simp[LV.tk]);rw[this];exact V
theorem F3 (Y:g.G.le g'.G) {m:Nat}:∀{k:Nat} {xs:List LV} {us:List Value},(∀e∈xF m k xs,g'.tok (e.1+s)=g.tok e.1)->bF g (Ay m k xs) us->bF g' (Ay m (k+s) xs) us
 | k,[],us,_,h=>by simp only[Ay,bF]at h ⊢;exact h
 | k,x::xs,us,M,h=>by
  simp only[Ay,bF]at h ⊢;simp only[xF,List.mem_append]at M;obtain⟨u,us',C,U,B⟩:=h;refine⟨u,us',C,(LV.shift Y (fun e P=>M e (.inl P)) U).1,?_⟩;have:=F3 Y (k:=k+1) (fun e P=>M e (.inr P)) B;rwa[show k+1+s=k+s+1 from by omega]at this
theorem Bo (Y:g.G.le g'.G) {w:World} {m b:Nat}:∀{k:Nat} {xs:List LV} {o:Nat},(∀e∈xF m k xs,g'.tok (e.1+s)=g.tok e.1)->cr w g b o (Ay m k xs)->cr w g' b o (Ay m (k+s) xs)
 | k,[],o,_,h=>trivial
 | k,x::xs,o,ht,h=>by
  simp only[xF,List.mem_append]at ht;obtain⟨⟨u,q,J,H⟩,c4,c5⟩:=h;obtain⟨C,U⟩:=LV.shift (k:=k) Y (fun e P=>ht e (.inl P)) J;have:=Bo Y (k:=k+1) (fun e P=>ht e (.inr P)) c5;rw[show k+1+s=k+s+1 from by omega]at this;exact⟨⟨u,q,C,U H⟩,c4,this⟩
theorem DB (m:Nat):∀(k:Nat) (xs:List LV),(Ay m k xs).length=xs.length
 | _,[]=>rfl
 | k,x::xs=>by simp[Ay,DB m (k+1) xs]
end
def pq (nb:List (Nat×List AV)) (Y:List (Nat×Nat)) (W:List Nat) (σ:St):St:=⟨oJ nb σ.boxes,oJ Y σ.toks,W++σ.used⟩
set_option maxHeartbeats 1000000 in
theorem PZ {w w':World} {g g':Gh} {σ:St} {ps:List PA} {l:List AV} {os:List (Nat×List LV)} {rs:List LV} (hi:Inv w g σ) (H:sA σ.boxes σ.toks ps l)
  (hi':Inv w' g' (xj os rs)) (hk:gQ w (g.fW (xl σ.boxes ps l)) (tu ps) w' g' (xj os rs)) (s:Nat) {nb:List (Nat×List AV)} (hnb:G3 (jw σ.boxes 0 ps l) s os=some nb)
  (hall:∀x∈(jw σ.boxes 0 ps l).map (·.1),x∈(qz os).map (·.1)) {fr:List (Nat×Nat)} (hfr:fr=pO s (oR os++xF 0 rk rs)) {bu:List (Nat×Nat)} (RP:bu=pP σ.toks (cR (jl σ.boxes 0 ps l)))
  (LF:distinct ((qz os).map (·.1))=true) (jm:distinct (nb.map (·.1))=true) (gZ:distinct ((fr++bu).map (·.1))=true) (hfu:∀x∈fr.map (·.1),x ∉ σ.used) (hot:distinct ((oR os++xF 0 rk rs).map (·.1))=true) :
  ∃xM,Inv w' xM (pq nb (fr++bu) (fr.map (·.1)) σ)/\gQ w g σ w' xM (pq nb (fr++bu) (fr.map (·.1)) σ)/\g.le xM/\∀u,aK g' (qi 0 rs) u->aK xM (qi s rs) u:=by
 have hts:=oz hi;let gc:=g.fW (xl σ.boxes ps l)
 let xM:Gh:=⟨g'.G,g.box,fun k=>match ak k fr with
  | some _=>g'.tok (k-s)
  | none=>match ak k bu with
   | some n=>some (n,none)
   | none=>g.tok k,g.room⟩
 have Mo:∀k cs b,ak k (tu ps).boxes=some cs->gc.box k=some b->∃kb oc,(k,kb)∈jw σ.boxes 0 ps l/\ak kb σ.boxes=some oc/\g.box kb=some b:=by
  intro k cs b e e1;obtain⟨kb,oc,Ov,f1,f2,_⟩:=sw H.ok (dA e);refine⟨kb,oc,f1,f2,?_⟩;have:(xl σ.boxes ps l).bx k=some kb:=gf H.d1 f1;simpa only[gc,Gh.fW,this]using e1
 have SW:∀k n b lo hi,ak k (tu ps).toks=some n->gc.tok k=some (n,some (b,lo,hi))->∃old n',old∈cR (jl σ.boxes 0 ps l)/\ak old σ.toks=some n'/\g.tok old=some (n',some (b,lo,hi)):=by
  intro k n b lo hi e e1;obtain⟨rfl,o,f1,f2⟩:=wv H.ok (dA e);have h1:(xl σ.boxes ps l).tk k=some (0,o):=gf H.d3 f1;cases o with
  | none=>simp[gc,Gh.fW,h1]at e1
  | some old =>
   obtain⟨n',h3⟩:=f2 old rfl;obtain⟨fS,h4⟩:=hts old n' h3;simp[gc,Gh.fW,h1,h4]at e1;subst e1;exact⟨old,n',tv.2 ⟨k,0,f1⟩,h3,h4⟩
 have Mp:∀b o,iJ gc (tu ps) b o->iJ g σ b o:=by
  rintro b o (⟨k,cs,h1,h2⟩|⟨k,n,lo,hi',h1,h2,h3,h4⟩)
  ·obtain⟨kb,oc,_,f2,f3⟩:=Mo k cs b h1 h2;exact .inl ⟨kb,oc,f2,f3⟩
  ·obtain⟨old,n',_,f2,f3⟩:=SW k n b lo hi' h1 h2;exact .inr ⟨old,n',lo,hi',f2,f3,h3,h4⟩
 have hfree:∀k0 c0 b,ak k0 σ.boxes=some c0->g.box k0=some b->k0 ∉ (jw σ.boxes 0 ps l).map (·.2)->∀o,¬iJ gc (tu ps) b o:=by
  rintro k0 c0 b e1 e2 e3 o (⟨k,cs,h1,h2⟩|⟨k,n,lo,hi',h1,h2,h3,h4⟩)
  ·obtain⟨kb,oc,f1,f2,f3⟩:=Mo k cs b h1 h2;have:=hi.fB k0 kb c0 oc b e1 f2 e2 f3;subst this;exact e3 (List.mem_map.2 ⟨_,f1,rfl⟩)
  ·obtain⟨old,n',_,f2,f3⟩:=SW k n b lo hi' h1 h2;obtain⟨fS,f4,f5⟩:=hi.tok old n' f2;rw[f3]at f4;simp at f4;exact(f5 b lo hi' f4.symm).2.2 k0 c0 e1 e2
 have XH:∀k0 n0 b EE qu,ak k0 σ.toks=some n0->g.tok k0=some (n0,some (b,EE,qu))->k0 ∉ cR (jl σ.boxes 0 ps l)->∀o,¬iJ gc (tu ps) b o:=by
  rintro k0 n0 b EE qu e1 e2 e3 o (⟨k,cs,h1,h2⟩|⟨k,n,lo,hi',h1,h2,h3,h4⟩)
  ·obtain⟨kb,oc,f1,f2,f3⟩:=Mo k cs b h1 h2;obtain⟨fS,f4,f5⟩:=hi.tok k0 n0 e1;rw[e2]at f4;simp at f4;exact(f5 b EE qu f4.symm).2.2 kb oc f2 f3
  ·obtain⟨old,n',f1,f2,f3⟩:=SW k n b lo hi' h1 h2;have:=hi.gw k0 old n0 n' b EE qu lo hi' e1 f2 e2 f3;subst this;exact e3 f1
 have hsame:∀b,b<w.heap.size->(∀o,¬iJ gc (tu ps) b o)->∀o,w'.cell? ⟨b,o,none⟩=w.cell? ⟨b,o,none⟩/\w'.frozen? ⟨b,o,none⟩=w.frozen? ⟨b,o,none⟩:=fun b h1 h2 o=>hk.kept b o h1 (h2 o);have XI:∀b o,b<w.heap.size->¬iJ gc (tu ps) b o->g.G b o=none->g'.G b o=none:=by
  intro b o h1 h2 h3;cases hg:g'.G b o with
  | none=>rfl
  | some v =>
   rcases hk.new b o v hg with h|h|h
   ·change g.G b o=some v at h;rw[h3]at h;simp at h
   ·omega
   ·exact absurd h h2
 have ZW:∀k n,ak k fr=some n->∃j,k=j+s/\ak j (oR os++xF 0 rk rs)=some n/\k ∉ σ.used/\xM.tok k=g'.tok j:=by
  intro k n e;have wZ:=dA e;subst hfr;obtain⟨j,rfl,h2⟩:=DA e;exact⟨j,rfl,h2,hfu _ (List.mem_map.2 ⟨_,wZ,rfl⟩),by simp only[xM,e,Nat.add_sub_cancel]⟩
 have ZX:∀k n,ak k bu=some n->k∈cR (jl σ.boxes 0 ps l)/\∃m,ak k σ.toks=some m/\n=m+1:=by
  intro k n e;subst RP;exact xV e
 have ZY:∀e∈(oR os++xF 0 rk rs),xM.tok (e.1+s)=g'.tok e.1:=by
  intro e he;have h1:ak (e.1+s) fr=some e.2:=by
   rw[hfr,Bm];exact gf hot he
  simp only[xM,h1,Nat.add_sub_cancel]
 have hle:g.le xM:=by
  refine⟨hk.le,fun _ _ h=>h,fun _ _ _=>rfl,fun k hw fS e=>?_⟩;cases h1:ak k fr with
  | some n =>
   obtain⟨j,_,_,h2,_⟩:=ZW k n h1;exact absurd (hi.used k (.inr (by rw[e];simp))) h2
  | none =>
   cases h2:ak k bu with
   | some n =>
    obtain⟨_,m,h3,rfl⟩:=ZX k n h2;obtain⟨Dc,h4⟩:=hts k m h3;rw[e]at h4;simp at h4;exact⟨m+1,none,by simp only[xM,h1,h2],bn,bn⟩
   | none=>exact⟨hw,fS,by simp only[xM,h1,h2];exact e,aak _,fun _=>rfl⟩
 obtain⟨ob1,ob2⟩:=JY hnb;have z8:∀k cs,ak k (oJ nb σ.boxes)=some cs->(∃oc,ak k σ.boxes=some oc)/\∃b,g.box k=some b/\b<w.heap.size/\(∀o,g'.G b o=none)/\cr w' xM b 0 cs/\∀o,(o<g.room k->∃u,w'.cell? ⟨b,o,none⟩=some u)/\w'.frozen? ⟨b,o,none⟩=false:=by
  intro k cs e;rw[kK jm]at e;split at e
  ·rename_i v hv;simp at e;subst e;obtain⟨i,cells,h1,h2,rfl⟩:=ob1 k v (dA hv);have hmem:=dA h2;have h3:ak (pb i) (qz os)=some (Ay 1 (pb i+1) cells):=gf LF (JZ h1);have h4:=hk.ids (pb i) (Nat.le_add_right _ _) (by show ak (pb i) (qz os)≠none;rw[h3];simp);cases hc:ak (pb i) (tu ps).boxes with
   | none=>exact absurd hc h4.1
   | some ic =>
    obtain⟨kb,oc,Ov,f1,f2,_⟩:=sw H.ok (dA hc);have:ak (pb i) (jw σ.boxes 0 ps l)=some kb:=gf H.d1 f1;rw[h2]at this;simp at this;subst this;obtain⟨b,b1,b2,b3,b4⟩:=hi.box k oc f2;obtain⟨b',c1,c2,c3,c4⟩:=hi'.box (pb i) _ h3;have xm:gc.box (pb i)=some b:=by
     have:(xl σ.boxes ps l).bx (pb i)=some k:=h2;simp only[gc,Gh.fW,this,b1]
    have XJ:gc.room (pb i)=g.room k:=by
     have:(xl σ.boxes ps l).bx (pb i)=some k:=h2;simp only[gc,Gh.fW,this]
    have YE:=hi'.room (pb i) _ b' h3 c1;rw[h4.2.2,XJ]at YE;rw[h4.2.1,xm]at c1;simp at c1;subst c1;refine⟨⟨oc,f2⟩,b,b1,b2,c3,?_,YE⟩;have:=Bo (g:=g') (g':=xM) (s:=s) (jk.le.refl _) (k:=pb i+1) (fun e he=>ZY e (List.mem_append.2 (.inl (J0 h1 he)))) c4;rwa[show pb i+1+s=pb i+1+s from rfl]at this
  ·rename_i hv;have hnot:k ∉ (jw σ.boxes 0 ps l).map (·.2):=by
    intro hm;obtain⟨x,hx,rfl⟩:=List.mem_map.1 hm;obtain⟨y,hy,hyx⟩:=List.mem_map.1 (hall x.1 (List.mem_map.2 ⟨x,hx,rfl⟩));obtain⟨i,cells,h1,h2,_⟩:=zh (k:=y.1) (v:=y.2) hy;have h3:ak (pb i) (jw σ.boxes 0 ps l)=some x.2:=by rw[<- h2,hyx];exact gf H.d1 hx
    have h4:=ob2 i cells x.2 h1 h3;obtain⟨z,hz,hzx⟩:=List.mem_map.1 h4;have:=gf (k:=z.1) (v:=z.2) jm hz;rw[hzx,hv]at this;simp at this
   obtain⟨b,b1,b2,b3,b4⟩:=hi.box k cs e;have hno:=hfree k cs b e b1 hnot
   exact⟨⟨cs,e⟩,b,b1,b2,fun o=>XI b o b2 (hno o) (b3 o),(cr.of_same (hsame b b2 hno) b4).mono hle,fun o=>by
    obtain⟨q1,q2⟩:=hi.room k cs b e b1 o
    exact⟨fun ho=>(q1 ho).imp fun u hu=>(hsame b b2 hno o).1.trans hu,(hsame b b2 hno o).2.trans q2⟩⟩
 have B1:∀k n,ak k (oJ (fr++bu) σ.toks)=some n->(∃j,k=j+s/\ak j (oR os++xF 0 rk rs)=some n/\xM.tok k=g'.tok j/\k ∉ σ.used)\/xM.tok k=some (n,none) \/
   (ak k σ.toks=some n/\xM.tok k=g.tok k/\k ∉ cR (jl σ.boxes 0 ps l)):=by
  intro k n e;rw[kK gZ,Bn]at e;cases h1:ak k fr with
  | some m =>
   rw[h1]at e;simp at e;subst e;obtain⟨j,rfl,h2,h3,h4⟩:=ZW k m h1;exact .inl ⟨j,rfl,h2,h4,h3⟩
  | none =>
   rw[h1]at e;simp only at e;cases h2:ak k bu with
   | some m =>
    rw[h2]at e;simp at e;subst e;right;left;simp only[xM,h1,h2]
   | none =>
    rw[h2]at e;simp only at e;right;right;refine⟨e,by simp only[xM,h1,h2],fun hm=>?_⟩;rw[RP,AB hm e]at h2;simp at h2
 have HA:∀j n b lo qu,ak j (oR os++xF 0 rk rs)=some n->g'.tok j=some (n,some (b,lo,qu))->w.heap.size<=b\/∃old n',old∈cR (jl σ.boxes 0 ps l)/\ak old σ.toks=some n'/\∃EE hi1,g.tok old=some (n',some (b,EE,hi1))/\EE<=lo/\qu<=hi1:=by
  intro j n b lo qu e e1;rcases hk.toks j n b lo qu e e1 with h|⟨k0,n0,EE,hi1,h1,h2,h3,h4⟩
  ·exact .inl h
  ·grind
 refine⟨xM,⟨hi'.oI,?_,?_,?_,?_,?_,?_⟩,⟨hk.os,hk.tape,hk.output,hk.size,fun b hb hno=>hk.block b hb fun o ho=>hno o (Mp b o ho),fun b o hb hno=>hk.kept b o hb fun ho=>hno (Mp b o ho),hk.le,fun b o v h=>(hk.new b o v h).imp id fun h=>h.imp id (Mp b o),?_,?_,?_⟩,hle,?_⟩
 ·intro k cs e;obtain⟨_,b,b1,b2,b3,b4,_⟩:=z8 k cs e;exact⟨b,b1,Nat.lt_of_lt_of_le b2 hk.size,b3,b4⟩
 ·intro k k' cs cs' b e e' e1 e2;obtain⟨⟨oc,h1⟩,_⟩:=z8 k cs e;obtain⟨⟨Vo,xb⟩,_⟩:=z8 k' cs' e';exact hi.fB k k' oc Vo b h1 xb e1 e2
 ·intro k n e;rcases B1 k n e with ⟨j,rfl,h1,h2,_⟩|h1|⟨h1,h2,h3⟩
  ·obtain⟨fS,h3,h4⟩:=hi'.tok j n h1;refine⟨fS,h2.trans h3,fun b lo qu hr=>?_⟩;obtain⟨f1,f2,f3⟩:=h4 b lo qu hr;refine⟨f1,f2,fun k' cs e'=>?_⟩;obtain⟨⟨oc,g1⟩,b',b1,b2,_⟩:=z8 k' cs e';show g.box k'≠some b;rw[b1];intro zP;simp at zP;subst zP;subst hr;rcases HA j n b' lo qu h1 h3 with h|⟨old,n',_,q2,EE,hi1,q3,_,_⟩
   ·omega
   ·obtain⟨Dc,q4,q5⟩:=hi.tok old n' q2;rw[q3]at q4;simp at q4;exact(q5 _ _ _ q4.symm).2.2 k' oc g1 b1
  ·simp_all
  ·obtain⟨fS,h4,h5⟩:=hi.tok k n h1;refine⟨fS,h2.trans h4,fun b lo qu hr=>?_⟩;obtain⟨f1,f2,f3⟩:=h5 b lo qu hr;subst hr;have hno:=XH k n b lo qu h1 h4 h3;refine⟨Nat.lt_of_lt_of_le f1 hk.size,fun o o1 o2=>?_,fun k' cs e'=>?_⟩
   ·grind
   ·obtain⟨⟨oc,g1⟩,_⟩:=z8 k' cs e';exact f3 k' oc g1
 ·intro k k' n n' b lo qu lo' hi1 e e' e1 e2;rcases B1 k n e with ⟨j,rfl,h1,h2,ZK⟩|h1|⟨h1,h2,h3⟩
  ·rw[h2]at e1;rcases B1 k' n' e' with ⟨j',rfl,xb,yQ,_⟩|xb|⟨xb,yQ,YD⟩
   ·rw[yQ]at e2;have:=hi'.gw j j' n n' b lo qu lo' hi1 h1 xb e1 e2;rw[this]
   ·simp_all
   ·rw[yQ]at e2;exfalso;obtain⟨fS,q1,q2⟩:=hi.tok k' n' xb;rw[e2]at q1;simp at q1;have hlt:=(q2 _ _ _ q1.symm).1;rcases HA j n b lo qu h1 e1 with h|⟨old,m,r1,r2,EE,hi2,r3,_,_⟩
    ·omega
    ·have:=hi.gw k' old n' m b lo' hi1 EE hi2 xb r2 e2 r3;subst this;exact YD r1
  ·simp_all
  ·rw[h2]at e1;rcases B1 k' n' e' with ⟨j',rfl,xb,yQ,_⟩|xb|⟨xb,yQ,YD⟩
   ·rw[yQ]at e2;exfalso;obtain⟨fS,q1,q2⟩:=hi.tok k n h1;rw[e1]at q1;simp at q1;have hlt:=(q2 _ _ _ q1.symm).1;rcases HA j' n' b lo' hi1 xb e2 with h|⟨old,m,r1,r2,EE,hi2,r3,_,_⟩
    ·omega
    ·have:=hi.gw k old n m b lo qu EE hi2 h1 r2 e1 r3;subst this;exact h3 r1
   ·simp_all
   ·rw[yQ]at e2;exact hi.gw k k' n n' b lo qu lo' hi1 h1 xb e1 e2
 ·intro k e;show k∈fr.map (·.1)++σ.used;rw[List.mem_append];rcases e with e|e
  ·exact .inr (hi.used k (.inl e))
  ·cases h1:ak k fr with
   | some m=>exact .inl (List.mem_map.2 ⟨_,dA h1,rfl⟩)
   | none =>
    right;cases h2:ak k bu with
    | some m =>
     obtain⟨_,q,h3,_⟩:=ZX k m h2;obtain⟨fS,h4⟩:=hts k q h3;exact hi.used k (.inr (by rw[h4];simp))
    | none=>apply hi.used k;right;simpa only[xM,h1,h2]using e
 ·intro k cs b e e1;obtain⟨_,b',b1,_,_,_,YE⟩:=z8 k cs e;have P0:g.box k=some b:=e1;rw[b1]at P0;cases P0;exact YE
 ·intro k cs b e e1;obtain⟨⟨oc,h1⟩,_⟩:=z8 k cs e;exact .inr ⟨k,oc,h1,e1⟩
 ·intro k n b lo qu e e1;rcases B1 k n e with ⟨j,rfl,h1,h2,_⟩|h1|⟨h1,h2,h3⟩
  ·grind
  ·simp_all
  ·grind
 ·intro k _ e;cases hc:ak k (oJ nb σ.boxes)with
  | none=>exact absurd hc e
  | some cs =>
   obtain⟨⟨oc,h1⟩,_⟩:=z8 k cs hc;exact⟨by rw[h1];simp,rfl,rfl⟩
 ·intro u h;have hsub:∀e∈xF 0 rk rs,xM.tok (e.1+s)=g'.tok e.1:=fun e he=>ZY e (List.mem_append.2 (.inr he))
  match rs,h,hsub with
  | [],h,_=>simp only[qi,aK,Rel]at h ⊢;exact h
  | [x],h,hsub =>
   simp only[qi]at h ⊢;have:=(LV.shift (g:=g') (g':=xM) (s:=s) (jk.le.refl _) (k:=rk) (fun e he=>hsub e (by simp only[xF,List.mem_append];exact .inl he)) h).1;exact this
  | x::y::r,h,hsub =>
   simp only[qi,aK]at h ⊢;obtain⟨vs,e1,e2,e3⟩:=h;refine⟨vs,e1,F3 (g:=g') (g':=xM) (jk.le.refl _) hsub e2,?_⟩;rw[DB]at e3 ⊢;exact e3
end Go.cq
namespace Go.cq
theorem jH:∀{a b:List (Nat×(Nat×Option Nat))},cR (a++b)=cR a++cR b
 | [],b=>rfl
 | (k,m,none)::a,b=>by simp[cR,jH (a:=a)]
 | (k,m,some o)::a,b=>by simp[cR,jH (a:=a)]
section
variable {bs Ow : List (Nat × List AV)} {ts F4 : List (Nat × Nat)}
theorem DC {m k:Nat}:∀{x:LV} {a:AV},Az ts x a->(∀j∈cR (AA m k x a),ak j F4=ak j ts)->Az F4 x a
 | .c v,a,h,_=>h
 | .own s rows,a,h,M=>by
  simp only[Az]at h ⊢;rcases qL h with ⟨q,rfl,hq⟩|⟨k',n,rfl,Y⟩
  ·exact h
  ·have:=M k' (by simp[AA,cR]);simp only[JV,this,Y];simp[Nat.beq_refl]
theorem Bp {m:Nat}:∀{k:Nat} {xs:List LV} {l:List AV},jr ts xs l->(∀j∈cR (nw m k xs l),ak j F4=ak j ts)->jr F4 xs l
 | k,[],l,h,_=>h
 | k,x::xs,l,h,M=>by
  simp only[jr]at h ⊢;obtain⟨a,r,rfl,h1,h2⟩:=h;simp only[nw,jH,List.mem_append]at M;exact⟨a,r,rfl,DC h1 (fun j Y=>M j (.inl Y)),Bp h2 (fun j Y=>M j (.inr Y))⟩
theorem vm:∀{i:Nat} {Y:List PA} {l:List AV},iX bs ts Y l->(∀k∈(jw bs i Y l).map (·.2),ak k Ow=ak k bs)->(∀k∈cR (jl bs i Y l),ak k F4=ak k ts) ->
  iX Ow F4 Y l/\jw Ow i Y l=jw bs i Y l/\jl Ow i Y l=jl bs i Y l
 | i,[],l,h,_,_=>by simp only[iX]at h;subst h;exact⟨by simp[iX],rfl,rfl⟩
 | i,.v x::Y,l,h,h1,h2=>by
  simp only[iX]at h;obtain⟨a,r,rfl,V,W⟩:=h;simp only[jw]at h1;simp only[jl,jH,List.mem_append]at h2;obtain⟨S,M,q⟩:=vm W h1 (fun k D=>h2 k (.inr D));refine⟨by simp only[iX];exact⟨a,r,rfl,DC V (fun j U=>h2 j (.inl U)),S⟩,?_,?_⟩
  ·simp only[jw,M]
  ·simp only[jl,q]
 | i,.box cells::Y,l,h,h1,h2=>by
  simp only[iX]at h;obtain⟨T,Q,r,rfl,V,W,p⟩:=h;simp only[jw,List.map_cons,List.mem_cons,forall_eq_or_imp]at h1;simp only[jl,V,jH,List.mem_append]at h2;obtain⟨S,M,q⟩:=vm p h1.2 (fun k D=>h2 k (.inr D));refine⟨by simp only[iX];exact⟨T,Q,r,rfl,h1.1.trans V,Bp W (fun j U=>h2 j (.inl U)),S⟩,?_,?_⟩
  ·simp only[jw,M]
  ·simp only[jl,q,h1.1]
end
theorem Bq {ts F4:List (Nat×Nat)}:∀{l:List Nat},(∀k∈l,ak k F4=ak k ts)->pP F4 l=pP ts l
 | [],_=>rfl
 | k::l,h=>by
  simp only[pP,h k c9,Bq (l:=l) (fun j Y=>h j (by simp[Y]))]
def gG (ρ:Operand->Option AV):List Operand->Option (List AV)
 | []=>some []
 | x::l=>match ρ x with
  | some a=>match gG ρ l with
   | some r=>some (a::r)
   | none=>none
  | none=>none
theorem tC {ρ Y:Operand->Option AV}:∀(l:List Operand),(∀x∈l,Y x=ρ x)->gG Y l=gG ρ l
 | [],_=>rfl
 | x::l,h=>by simp only[gG,h x c9,tC l (fun y N=>h y (by simp[N]))]
theorem AD {g:Gh} {ρ:Operand->Option AV} {ev:Operand->Value} (O:∀x v,ρ x=some v->aK g v (ev x)):∀{l:List Operand} {r:List AV},gG ρ l=some r->bF g r (l.map ev)
 | [],r,h=>by simp[gG]at h;subst h;simp[bF]
 | x::l,r,h=>by
  simp only[gG]at h;split at h
  ·rename_i a u;split at h
   ·rename_i Q I;simp at h;subst h;simp only[List.map_cons,bF];exact⟨_,_,rfl,O x a u,AD O I⟩
   ·simp at h
  ·simp at h
theorem gR.more {A:St->St} {W:List Nat} (h:gR A ⟨[],W⟩) (R:List Nat):gR A ⟨R,W⟩ :=
 ⟨fun σ k D=>h.out σ k D,fun σ G u k D=>h.same σ G (fun j Y=>u j (Y.elim (fun x=>by simp at x) .inr)) k D⟩
structure AE (bs:List (Nat×List AV)) (ts:List (Nat×Nat)) (us:List Nat) (ps:List PA) (l:List AV) (rs:List LV) (os:List (Nat×List LV)) (s:Nat) (nb:List (Nat×List AV)) (fr bu:List (Nat×Nat)):Prop where
 H:sA bs ts ps l
 hnb:G3 (jw bs 0 ps l) s os=some nb
 hall:∀x∈(jw bs 0 ps l).map (·.1),x∈(qz os).map (·.1)
 hfr:fr=pO s (oR os++xF 0 rk rs)
 RP:bu=pP ts (cR (jl bs 0 ps l))
 LF:distinct ((qz os).map (·.1))=true
 jm:distinct (nb.map (·.1))=true
 gZ:distinct ((fr++bu).map (·.1))=true
 hfu:∀x∈fr.map (·.1),x ∉ us
 hot:distinct ((oR os++xF 0 rk rs).map (·.1))=true
theorem AE.congr {bs Ow:List (Nat×List AV)} {ts F4:List (Nat×Nat)} {us P1:List Nat} {Y:List PA} {l:List AV} {rs:List LV} {W:List (Nat×List LV)} {s:Nat} {nb:List (Nat×List AV)} {fr V:List (Nat×Nat)}
  (h:AE bs ts us Y l rs W s nb fr V) (h1:∀k∈(jw bs 0 Y l).map (·.2),ak k Ow=ak k bs) (h2:∀k∈cR (jl bs 0 Y l),ak k F4=ak k ts) (P:∀k∈fr.map (·.1),k∈P1↔k∈us) :
  AE Ow F4 P1 Y l rs W s nb fr V:=by
 obtain⟨S,M,q⟩:=vm h.H.ok h1 h2
 exact⟨⟨S,by rw[M];exact h.H.d1,by rw[M];exact h.H.d2,by rw[q];exact h.H.d3,by rw[q];exact h.H.d4⟩,by rw[M];exact h.hnb,by rw[M];exact h.hall,h.hfr,by rw[q,Bq h2];exact h.RP,
  h.LF,h.jm,h.gZ,fun x O A=>h.hfu x O ((P x O).1 A),h.hot⟩
section
variable {P : Program} {X : Ctx}
theorem bU.Mq {o:Oper} {env:Env} {σ:St} {f:FuncId} {args:List Operand} (qh:∀x∈args,x∈o.op.operands.toList) {J:List AV} (hl:gG (aL X env) args=some J) {l:List AV} {U:List PA} {rs:List LV} {M:List (Nat×List LV)}
  (hq:bt P X f U rs M) {s:Nat} {nb:List (Nat×List AV)} {fr O:List (Nat×Nat)} (C:AE σ.boxes σ.toks σ.used U l rs M s nb fr O)
  (I:∀(g:Gh) (w:World) (a:Act) (S:Env),(∀x∈o.op.operands.toList,aL X S x=aL X env x)->tY g S a.tmps->nC X g.G->∃vs:List Value,bF g l vs/\(execOp a.eval o).run P w = .ok (.enter f vs.toArray) w) :
  bU P X o env σ (qi s rs) (pq nb (fr++O) (fr.map (·.1))) ⟨(jw σ.boxes 0 U l).map (·.2)++cR (jl σ.boxes 0 U l),nb.map (·.1)++((fr++O).map (·.1)++fr.map (·.1))⟩:=by
 intro S W w g a next Q h1 h2 T K E A;have Y:=C.congr (Ow:=W.boxes) (F4:=W.toks) (P1:=W.used) (fun k D=>(h2 k (.inl (List.mem_append.2 (.inl D)))).1) (fun k D=>(h2 k (.inl (List.mem_append.2 (.inr D)))).2.1)
  (fun k D=>(h2 k (.inr (by simp only[List.mem_append];exact .inr (.inr D)))).2.2)
 obtain⟨vs,B,V⟩:=I g w a S h1 E K;have N:=Y.H.inv T;have p:=Y.H.rel T B;unfold Oper.wp;rw[V,Oper.upon_enter];refine(hq.2 _ w vs N K p).mono ?_;rintro e w' ⟨u,g',rfl,q,h4,h5⟩;obtain⟨xM,i1,i2,i3,i4⟩:=PZ T Y.H h4 h5 s Y.hnb Y.hall Y.hfr Y.RP Y.LF Y.jm Y.gZ Y.hfu Y.hot;exact A u w' xM (i4 u q) i1 i2 i3
theorem bU.RQ {o:Oper} {env:Env} {σ:St} {f:FuncId} {args:Array Operand} {E:Array TypeId} (p:o.op = .call {callee := .value (.func f),args:=args,argTypes:=E})
  {l:List AV} (A:gG (aL X env) args.toList=some l) {Y:List PA} {rs:List LV} {V:List (Nat×List LV)}
  (hq:bt P X f Y rs V) {s:Nat} {nb:List (Nat×List AV)} {fr W:List (Nat×Nat)} (C:AE σ.boxes σ.toks σ.used Y l rs V s nb fr W) :
  bU P X o env σ (qi s rs) (pq nb (fr++W) (fr.map (·.1))) ⟨(jw σ.boxes 0 Y l).map (·.2)++cR (jl σ.boxes 0 Y l),nb.map (·.1)++((fr++W).map (·.1)++fr.map (·.1))⟩:=by
 have U:∀x∈args.toList,x∈o.op.operands.toList:=by
  intro x O;rw[p];simp only[Op.operands,Call.operands,Array.toList_append,List.mem_append];exact .inr O
 refine bU.Mq U A hq C ?_;intro g w a T h1 S N;have G:gG (aL X T) args.toList=some l:=by
  rw[tC _ (fun x O=>h1 x (U x O))];exact A
 refine⟨args.toList.map a.eval,AD (fun x v O=>ct S N O) G,?_⟩;rw[show(args.toList.map a.eval).toArray=args.map a.eval from by rw[<- Array.toList_map]];obtain⟨M,q,Q,I,J,guard⟩:=o;simp only at p;subst p;simp[execOp,resolve,Deferred.ofValue,invoke,Act.eval,hq.1 _ w]
def acr:List CV->List AV
 | []=>[]
 | v::l => .c v::acr l
def qY:List Nat->Option (List Nat)
 | []=>some []
 | x::l=>match qY l with
  | some r=>some (x::r)
  | none=>none
def jN {α:Type}:List (Nat×α)->Option (List (Nat×α))
 | []=>some []
 | (k,n)::l=>match jN l with
  | some r=>some ((k,n)::r)
  | none=>none
theorem wz:∀{l r:List Nat},qY l=some r->r=l
 | [],r,h=>by simp[qY]at h;exact h
 | x::l,r,h=>by
  simp only[qY]at h;split at h
  ·rename_i Q I;simp at h;rw[<- h,wz I]
  ·simp at h
theorem mu {α:Type}:∀{l r:List (Nat×α)},jN l=some r->r=l
 | [],r,h=>by simp[jN]at h;exact h
 | (k,n)::l,r,h=>by
  simp only[jN]at h;split at h
  ·rename_i Q I;simp at h;rw[<- h,mu I]
  ·simp at h
def both (a b:Bool):Bool:=match a with
 | true=>b
 | false=>false
theorem dW {a b:Bool} (h:both a b=true):a=true/\b=true:=by cases a<;>simp_all [both]
def vX (us:List Nat) (bx:List (Nat×Nat)) (tk:List (Nat×(Nat×Option Nat))) (Y:List (Nat×List AV)) (nb:List (Nat×List AV)) (fr W V:List (Nat×Nat)):Bool :=
 both (distinct (fV bx)) (both (distinct (bx.map (·.2))) (both (distinct (fV tk)) (both (distinct (cR tk)) (both (Dy (fV Y) (fV bx)) (both (distinct (fV Y))
  (both (distinct (fV nb)) (both (distinct (fV (fr++W))) (both (Hz us (fV fr)) (distinct (fV V))))))))))
theorem P2 {bs:List (Nat×List AV)} {ts:List (Nat×Nat)} {us:List Nat} {W:List PA} {l:List AV} {rs:List LV} {Y:List (Nat×List LV)} {s:Nat} {nb:List (Nat×List AV)} {fr V:List (Nat×Nat)}
  (hok:iX bs ts W l) {bx:List (Nat×Nat)} (Q:jN (jw bs 0 W l)=some bx) {tk:List (Nat×(Nat×Option Nat))} (P:jN (jl bs 0 W l)=some tk) (U:G3 bx s Y=some nb)
  (B:jN (pO s (oR Y++xF 0 rk rs))=some fr) (M:jN (pP ts (cR tk))=some V) (E:vX us bx tk (qz Y) nb fr V (oR Y++xF 0 rk rs)=true):AE bs ts us W l rs Y s nb fr V:=by
 have h1:=mu Q;have h2:=mu P;have K:=mu B;have I:=mu M;subst h1 h2 K I;unfold vX at E;obtain⟨q,E⟩:=dW E;obtain⟨J,E⟩:=dW E;obtain⟨H,E⟩:=dW E;obtain⟨c4,E⟩:=dW E;obtain⟨p,E⟩:=dW E;obtain⟨C,E⟩:=dW E;obtain⟨N,E⟩:=dW E;obtain⟨T,E⟩:=dW E;obtain⟨S,IV⟩:=dW E;simp only[kZ]at q J H c4 p C N T S IV;exact⟨⟨hok,q,J,H,c4⟩,U,fun x O=>sB p x O,rfl,rfl,C,N,T,fun x O=>Dz S x O,IV⟩
def LZ (d s:Nat) (rs:List LV) (env:Env):Option Env:=match rs with
 | []=>some ((d,.c .undef)::env)
 | [.c v]=>some ((d,.c v)::env)
 | [.own q rows]=>some ((d,.own (.tok (rk+s) 0) q rows)::env)
 | rs=>match Mn 0 (rk+s) rs with
  | some l=>some ((d,.gy l)::env)
  | none=>none
theorem Vp {d s:Nat} {rs:List LV} {env env':Env} (h:LZ d s rs env=some env'):env'=(d,qi s rs)::env:=by
 match rs,h with
 | [],h=>simp[LZ]at h;subst h;rfl
 | [.c v],h=>simp[LZ]at h;subst h;rfl
 | [.own q rows],h=>simp[LZ]at h;subst h;rfl
 | x::y::r,h=>simp[LZ,Ca]at h;subst h;rfl
end
section
variable {P : Program} {X : Ctx} {ops : Array Oper} {o : Oper} {rest : List Oper} {env : Env} {acc : List Fp} {Q : Env -> St -> List Fp -> Prop} {bs : List (Nat × List AV)} {ts : List (Nat × Nat)} {us : List Nat}
theorem ai.RQ (kn:List Nat) (I:cU ops.toList kn env o=some true) {f:FuncId} {args:Array Operand} {E:Array TypeId} (p:o.op = .call {callee := .value (.func f),args:=args,argTypes:=E})
  {W:List PA} {rs:List LV} {V:List (Nat×List LV)} (hq:bt P X f W rs V) {l:List AV} (A:gG (aL X env) args.toList=some l) (hok:iX bs ts W l) {d:Nat} (G:o.dst=some d)
  {nb:List (Nat×List AV)} {fr Y U:List (Nat×Nat)} {bx:List (Nat×Nat)} (O:jN (jw bs 0 W l)=some bx) {tk:List (Nat×(Nat×Option Nat))} (N:jN (jl bs 0 W l)=some tk) (T:G3 bx (10000000*(d+1)) V=some nb)
  (B:jN (pO (10000000*(d+1)) (oR V++xF 0 rk rs))=some fr) (u:jN (pP ts (cR tk))=some Y) (q:vX us bx tk (qz V) nb fr Y (oR V++xF 0 rk rs)=true)
  {bs':List (Nat×List AV)} (D:sY nb bs=some bs') (S:jN (fr++Y)=some U) {ts':List (Nat×Nat)} (H:sY U ts=some ts') {us':List Nat} (sS:qY (fV fr++us)=some us')
  {M K:List Nat} (hR:qY (bx.map (·.2)++cR tk)=some M) (hW:qY (fV nb++(fV U++fV fr))=some K) {env':Env} (he:LZ d (10000000*(d+1)) rs env=some env')
  (k:ai P X ops rest env' ⟨bs',ts',us'⟩ (⟨M,K⟩::acc) Q):ai P X ops (o::rest) env ⟨bs,ts,us⟩ acc Q:=by
 have C:=P2 hok O N T B u q;have r2:=Vp he;have hs:=bU.RQ (σ:=⟨bs,ts,us⟩) p A hq C;have e1:=mu S;have e2:=wz sS;have e3:=wz hR;have J:=wz hW;rw[Dv]at D H;simp at D H;have hE:gR (pq nb (fr++Y) (fr.map (·.1))) ⟨(jw bs 0 W l).map (·.2)++cR (jl bs 0 W l),nb.map (·.1)++((fr++Y).map (·.1)++fr.map (·.1))⟩:=(Mm nb (fr++Y) (fr.map fun(x:Nat×Nat)=>x.1) C.jm C.gZ).more _;refine ai.step (dj I) hs hE ?_;rw[G];show ai P X ops rest ((d,_)::env) _ _ Q;rw[<- r2];simp only[pq];rw[e1]at H J;rw[D,H,<- kZ fr,<- e2];have h1:=mu O;have h2:=mu N;rw[<- h1,<- h2,<- e3,<- kZ nb,<- kZ (fr++Y),<- J];exact k
end
end Go.cq
namespace Go.cq
def Vq (ts:List (Nat×Nat)):LV->AV->Option LV
 | .c _,a=>match close a with
  | some v=>some (.c v)
  | none=>none
 | .own s _,a=>match JV ts s a with
  | some rows=>some (.own s rows)
  | none=>none
def zi (ts:List (Nat×Nat)):List LV->List AV->Option (List LV)
 | [],[]=>some []
 | x::xs,a::l=>match Vq ts x a with
  | some y=>match zi ts xs l with
   | some r=>some (y::r)
   | none=>none
  | none=>none
 | _,_=>none
def AF (bs:List (Nat×List AV)) (ts:List (Nat×Nat)):List (Nat×List LV)->Option (List (Nat×List LV))
 | []=>some []
 | (i,cells)::l=>match ak (pb i) bs with
  | some Y=>match zi ts cells Y with
   | some y=>match AF bs ts l with
    | some r=>some ((i,y)::r)
    | none=>none
   | none=>none
  | none=>none
def nI (bs:List (Nat×List AV)):List (Nat×List LV)->List (Nat×(Nat×Option Nat))
 | []=>[]
 | (i,cells)::l=>(match ak (pb i) bs with
  | some Y=>nw 1 (pb i+1) cells Y
  | none=>[])++nI bs l
def qj:List (Nat×List LV)->List (Nat×Nat)
 | []=>[]
 | (i,_)::l=>(pb i,pb i)::qj l
theorem Vr {ts:List (Nat×Nat)}:∀{x:LV} {a:AV} {y:LV},Vq ts x a=some y->Az ts y a
 | .c _,a,y,h=>by
  simp only[Vq]at h;split at h
  ·rename_i v Y;simp at h;subst h;exact Y
  ·simp at h
 | .own _ _,a,y,h=>by
  simp only[Vq]at h;split at h
  ·rename_i rows Y;simp at h;subst h;exact Y
  ·simp at h
theorem zj {ts:List (Nat×Nat)}:∀{xs:List LV} {l:List AV} {K:List LV},zi ts xs l=some K->jr ts K l
 | [],[],K,h=>by simp[zi]at h;subst h;simp[jr]
 | [],_::_,K,h=>by simp[zi]at h
 | _::_,[],K,h=>by simp[zi]at h
 | x::xs,a::l,K,h=>by
  simp only[zi]at h;split at h
  ·rename_i y N;split at h
   ·rename_i r I;simp at h;subst h;simp only[jr];exact⟨a,l,rfl,Vr N,zj I⟩
   ·simp at h
  ·simp at h
def AG (bs:List (Nat×List AV)) (ts:List (Nat×Nat)):List (Nat×List LV)->Prop
 | []=>True
 | (i,cells)::l=>(∃Y,ak (pb i) bs=some Y/\jr ts cells Y)/\AG bs ts l
theorem AH {bs:List (Nat×List AV)} {ts:List (Nat×Nat)}:∀{V Y:List (Nat×List LV)},AF bs ts V=some Y->AG bs ts Y
 | [],Y,h=>by simp[AF]at h;subst h;trivial
 | (i,cells)::l,Y,h=>by
  simp only[AF]at h;split at h
  ·rename_i U W;split at h
   ·rename_i y N;split at h
    ·rename_i r I;simp at h;subst h;exact⟨⟨U,W,zj N⟩,AH I⟩
    ·simp at h
   ·simp at h
  ·simp at h
theorem xW {bs:List (Nat×List AV)} {ts:List (Nat×Nat)}:∀{W:List (Nat×List LV)},AG bs ts W->∀i cells,(i,cells)∈W->∃Y,ak (pb i) bs=some Y/\jr ts cells Y/\(∀e∈nw 1 (pb i+1) cells Y,e∈nI bs W)/\(pb i,pb i)∈qj W
 | [],_,i,cells,h=>by simp at h
 | (j,c)::l,⟨⟨Y,h1,h2⟩,h3⟩,i,cells,h=>by
  rcases List.mem_cons.1 h with h|h
  ·simp at h;obtain⟨rfl,rfl⟩:=h;exact⟨Y,h1,h2,fun e P=>by simp only[nI,h1,List.mem_append];exact .inl P,by simp[qj]⟩
  ·obtain⟨V,U,T,S,Q⟩:=xW h3 i cells h;exact⟨V,U,T,fun e P=>by simp only[nI,List.mem_append];exact .inr (S e P),by simp[qj,Q]⟩
theorem DD {bs:List (Nat×List AV)} {ts:List (Nat×Nat)} {j n:Nat}:∀{Y:List (Nat×List LV)},AG bs ts Y->(j,n)∈oR Y->∃o,(j,(n,o))∈nI bs Y/\∀p,o=some p->∃H,ak p ts=some H
 | [],_,h=>by simp[oR]at h
 | (i,c)::l,⟨⟨W,h1,h2⟩,h3⟩,h=>by
  simp only[oR,List.mem_append]at h;simp only[nI,h1,List.mem_append];rcases h with h|h
  ·obtain⟨rfl,o,U,B⟩:=wq h2 h;exact⟨o,.inl U,B⟩
  ·obtain⟨o,U,B⟩:=DD h3 h;exact⟨o,.inr U,B⟩
theorem DE {bs:List (Nat×List AV)} {ts:List (Nat×Nat)}:∀{Y:List (Nat×List LV)},AG bs ts Y->∀e∈nI bs Y,e.1∈(oR Y).map (·.1)
 | [],_,e,h=>by simp[nI]at h
 | (i,c)::l,⟨⟨W,h1,h2⟩,h3⟩,e,h=>by
  simp only[nI,h1,List.mem_append]at h;simp only[oR,List.map_append,List.mem_append];exact h.imp (wu h2 e) (DE h3 e)
theorem DF:∀{Y:List (Nat×List LV)} {k v:Nat},(k,v)∈qj Y->v=k/\k∈(qz Y).map (·.1)
 | [],k,v,h=>by simp[qj]at h
 | (i,c)::l,k,v,h=>by
  simp only[qj,List.mem_cons]at h;simp only[qz,List.map_cons,List.mem_cons];rcases h with h|h
  ·simp_all
  ·obtain⟨C,U⟩:=DF h;exact⟨C,.inr U⟩
section
variable {P : Program} {X : Ctx} {f : FuncId} {n : Nat} {β : jG} {R : Ending -> World -> Prop} {K : List Item} {env : Env}
theorem oU (hX:cx P X) {Y:Func} {σ:St} {g:Gh} {w:World} {a:Act} (A:Live X β n env σ g w a) {l:List AV} (h:tg X σ.boxes env Y.results.toList=some l) :
  ∃u,(results Y a.tmps).run P w = .ok u w/\match l with|[]=>u=undef|[x]=>aK g x u|l=>aK g (.gy l) u:=by
 match l,h with
 | [],h =>
  obtain⟨vs,C,U⟩:=B6 hX A h;simp only[bF]at U;subst U;refine⟨.tuple #[],?_,rfl⟩;have:(Y.results.mapM (Bj a.tmps)).run P w = .ok #[] w:=by
   rw[Array.mapM_eq_mapM_toList];simp only[Sem.run_map,C,Result.andThen_ok]
  rw[xO,Sem.run_bind,this];simp
 | [x],h=>exact th hX A (r:=x) (by unfold nQ;rw[h])
 | x::y::r,h=>exact th hX A (r := .gy (x::y::r)) (by unfold nQ;rw[h])
def tD (bx:List (Nat×Nat)) (tk:List (Nat×(Nat×Option Nat))):Bool :=
 both (distinct (fV bx)) (both (distinct (bx.map (·.2))) (both (distinct (fV tk)) (distinct (cR tk))))
theorem F5 {σ:St} {g:Gh} {w:World} (G:Inv w g σ) {rs:List LV} {Y:List (Nat×List LV)} {l:List AV} (I:jr σ.toks rs l) (p:AG σ.boxes σ.toks Y)
  (E:tD (qj Y) (nI σ.boxes Y++nw 0 rk rs l)=true) (B:distinct (fV (qz Y))=true) :
  let ρ:Ren:=⟨fun k=>ak k (qj Y),fun k=>ak k (nI σ.boxes Y++nw 0 rk rs l)⟩
  Inv w (g.fW ρ) (xj Y rs)/\gQ w g σ w (g.fW ρ) (xj Y rs)/\fu ρ σ.toks (Ay 0 rk rs) l:=by
 intro ρ;unfold tD at E;obtain⟨q,E⟩:=dW E;obtain⟨A,E⟩:=dW E;obtain⟨H,c4⟩:=dW E;rw[kZ]at q H B;have u:fu ρ σ.toks (Ay 0 rk rs) l:=zg I fun e P=>gf H (List.mem_append.2 (.inr P))
 obtain⟨h1,h2⟩:=G.fW ρ (xj Y rs) (by
   intro k cells e;obtain⟨i,W,V,rfl,rfl⟩:=zh (dA e);obtain⟨S,N,K,J,Q⟩:=xW p i W V;exact⟨pb i,S,gf q Q,N,zg K fun e P=>gf H (List.mem_append.2 (.inl (J e P)))⟩) (by
   intro k k' T C U;exact mR A (dA C) (dA U)) (by
   intro k m e;have M:=dA e;simp only[xj]at M;rcases List.mem_append.1 M with M|M
   ·obtain⟨o,C,U⟩:=DD p M;exact⟨o,gf H (List.mem_append.2 (.inl C)),U⟩
   ·obtain⟨rfl,o,C,U⟩:=wq I M;exact⟨o,gf H (List.mem_append.2 (.inr C)),U⟩) (by
   intro k k' m m' T C U;exact tw c4 (dA C) (dA U)) (by
   intro k e;simp only[xj,List.mem_append,List.map_append];rcases e with e|e
   ·left;obtain⟨x,O,rfl⟩:=List.mem_map.1 (nH e);exact(DF (k:=x.1) (v:=x.2) O).2
   ·right;obtain⟨x,O,rfl⟩:=List.mem_map.1 (nH e);rcases List.mem_append.1 O with O|O
    ·exact .inl (DE p x O)
    ·exact .inr (wu I x O))
 refine⟨h1,h2 ?_,u⟩;intro k _ e;cases D:ak k (xj Y rs).boxes with
 | none=>exact absurd D e
 | some cells =>
  obtain⟨i,W,V,rfl,rfl⟩:=zh (dA D);obtain⟨S,N,K,J,Q⟩:=xW p i W V;exact gf q Q
theorem AK.BP (hX:cx P X) {U:Func} (hf:P.funcs[f]?=some U) {bs:List (Nat×List AV)} {ts:List (Nat×Nat)} {us:List Nat} {rs W:List LV} {T Y:List (Nat×List LV)} {l:List AV} (I:tg X bs env U.results.toList=some l)
  (h1:zi ts rs l=some W) (h2:AF bs ts T=some Y) (E:both (tD (qj Y) (nI bs Y++nw 0 rk W l)) (distinct (fV (qz Y)))=true)
  (C:W=rs) (Q:Y=T):AK P X f n β (ER β rs T) (.code .ret::K) env ⟨bs,ts,us⟩:=by
 subst C Q;intro g w a cs A;obtain⟨u,O,S⟩:=oU hX A I;obtain⟨J,D⟩:=dW E;have hok:=zj h1;obtain⟨N,M,V⟩:=F5 A.inv hok (AH h2) J D;refine⟨.returned u,w,_,⟨u,_,rfl,?_,N,A.frame.trans M⟩,.one step_ret,rfl,rfl,A.defers,rfl,U,hf,O⟩;have H:=oz A.inv;show aK _ _ _
 match W,hok,V with
 | [],hok,V =>
  simp only[jr]at hok;subst hok;simp only[qi,aK,Rel];exact S
 | [x],hok,V =>
  simp only[jr]at hok;obtain⟨y,r,rfl,_,rfl⟩:=hok;simp only[Ay,fu]at V;obtain⟨b,r',p,B,_⟩:=V;simp at p;obtain⟨rfl,_⟩:=p;simp only[qi];exact(qK H B S).1
 | x::x'::r,hok,V =>
  simp only[jr]at hok;obtain⟨y,q,rfl,_,G,q',rfl,_,_⟩:=hok;simp only[qi];refine(qK H (b := .gy (y::G::q')) ?_ S).1;simp only[Conv];exact⟨_,rfl,V⟩
def SX (ρ:Ren) (ts:List (Nat×Nat)) (env:Env):Env->Prop
 | []=>True
 | (t,a)::l=>(∃b,ak t env=some b/\Conv ρ ts a b)/\SX ρ ts env l
def F6 (ρ:Ren) (ts:List (Nat×Nat)) (bs:List (Nat×List AV)):List (Nat×List AV)->Prop
 | []=>True
 | (k,cells)::l=>(∃p Y,ρ.bx k=some p/\ak p bs=some Y/\fu ρ ts cells Y)/\F6 ρ ts bs l
theorem F7 {ρ:Ren} {ts:List (Nat×Nat)} {env:Env}:∀{l:Env},SX ρ ts env l->∀t a,ak t l=some a->∃b,ak t env=some b/\Conv ρ ts a b
 | [],_,t,a,e=>by simp[ak]at e
 | (j,x)::l,h,t,a,e=>by
  rw[au]at e;split at e
  ·rename_i M;simp at e;subst M e;exact h.1
  ·exact F7 h.2 t a e
theorem sC {ρ:Ren} {ts:List (Nat×Nat)} {bs:List (Nat×List AV)}:∀{l:List (Nat×List AV)},F6 ρ ts bs l->∀k c,ak k l=some c->∃p Y,ρ.bx k=some p/\ak p bs=some Y/\fu ρ ts c Y
 | [],_,t,a,e=>by simp[ak]at e
 | (j,x)::l,h,t,a,e=>by
  rw[au]at e;split at e
  ·rename_i M;simp at e;subst M e;exact h.1
  ·exact sC h.2 t a e
def J1 (ts:List (Nat×Nat)) (tk:List (Nat×(Nat×Option Nat))):List (Nat×Nat)->Bool
 | []=>true
 | (k,n)::l=>match ak k tk with
  | some (m,none)=>both (Nat.beq m n) (J1 ts tk l)
  | some (m,some p)=>match ak p ts with
   | some _=>both (Nat.beq m n) (J1 ts tk l)
   | none=>false
  | none=>false
theorem AI {ts:List (Nat×Nat)} {tk:List (Nat×(Nat×Option Nat))}:∀{l:List (Nat×Nat)},J1 ts tk l=true->∀k n,ak k l=some n->∃o,ak k tk=some (n,o)/\∀p,o=some p->∃H,ak p ts=some H
 | [],_,k,n,e=>by simp[ak]at e
 | (j,m)::l,h,k,n,e=>by
  simp only[J1]at h;rw[au]at e;split at h
  ·rename_i Y M;obtain⟨W,P⟩:=dW h;split at e
   ·simp_all
   ·exact AI P k n e
  ·rename_i Y p M;split at h
   ·rename_i z I;obtain⟨W,P⟩:=dW h;split at e
    ·simp_all
    ·exact AI P k n e
   ·simp at h
  ·simp at h
def F8:List (Nat×Nat)->Bool
 | []=>true
 | (k,v)::l=>match Nat.blt k 1000000 with
  | true=>F8 l
  | false=>both (Nat.beq v k) (F8 l)
theorem wA:∀{l:List (Nat×Nat)},F8 l=true->∀k v,1000000<=k->ak k l=some v->v=k
 | [],_,k,v,_,e=>by simp[ak]at e
 | (j,x)::l,h,k,v,hk,e=>by
  simp only[F8]at h;rw[au]at e;split at h
  ·rename_i G;have:j<1000000:=by simpa[Nat.blt_eq]using G
   rw[if_neg bn]at e;exact wA h k v hk e
  ·obtain⟨Y,P⟩:=dW h;split at e
   ·simp_all
   ·exact wA P k v hk e
def J2 (bx:List (Nat×Nat)) (tk:List (Nat×(Nat×Option Nat))) (ts ts':List (Nat×Nat)) (us':List Nat):Bool :=
 both (distinct (bx.map (·.2))) (both (distinct (cR tk)) (both (J1 ts tk ts') (both (F8 bx) (both (Dy us' (fV bx)) (Dy us' (fV tk))))))
theorem AK.fW {bs:List (Nat×List AV)} {ts:List (Nat×Nat)} {us:List Nat} (bx:List (Nat×Nat)) (tk:List (Nat×(Nat×Option Nat))) {env':Env} {bs':List (Nat×List AV)} {ts':List (Nat×Nat)} {us':List Nat}
  (Y:SX ⟨fun k=>ak k bx,fun k=>ak k tk⟩ ts env env') (G:F6 ⟨fun k=>ak k bx,fun k=>ak k tk⟩ ts bs bs') (E:J2 bx tk ts ts' us'=true)
  (h:AK P X f n β R K env' ⟨bs',ts',us'⟩):AK P X f n β R K env ⟨bs,ts,us⟩:=by
 unfold J2 at E;obtain⟨q,E⟩:=dW E;obtain⟨J,E⟩:=dW E;obtain⟨W,E⟩:=dW E;obtain⟨c4,E⟩:=dW E;obtain⟨H,I⟩:=dW E;rw[kZ]at H I;intro g w a cs A;obtain⟨h1,h2⟩:=A.inv.fW ⟨fun k=>ak k bx,fun k=>ak k tk⟩ ⟨bs',ts',us'⟩ (fun k cells e=>sC G k cells e) (fun k k' p C U=>mR q (dA C) (dA U))
  (fun k m e=>AI W k m e) (fun k k' m V p C U=>tw J (dA C) (dA U)) (fun k e=>by
   rcases e with e|e
   ·exact sB H k (nH e)
   ·exact sB I k (nH e))
 refine h _ w a cs ⟨h1,A.rC,?_,A.frame.trans (h2 ?_),A.size,A.defers⟩
 ·intro t x e;obtain⟨b,C,U⟩:=F7 Y t x e;exact(qK (oz A.inv) U (A.env t b C)).1
 ·intro k D e;cases E:ak k bs' with
  | none=>exact absurd E e
  | some c =>
   obtain⟨p,T,q1,S,_⟩:=sC G k c E;have:=wA c4 k p D q1;subst this;exact q1
end
end Go.cq
namespace Go.cq
section
variable {P : Program} {X : Ctx} {f : FuncId} {n : Nat} {β : jG} {R : Ending -> World -> Prop} {K : List Item} {env : Env} {σ : St}
theorem AK.CN {c:Operand} {x y:Code} {b:Bool} (E:aL X env c=some (.c (.bool b))) (G:b=true) (h:AK P X f n β R (.code x::K) env σ) :
  AK P X f n β R (.code (.cond c x y)::K) env σ:=by subst G;exact AK.Wv E h
theorem AK.CO {c:Operand} {x y:Code} {b:Bool} (E:aL X env c=some (.c (.bool b))) (G:b=false) (h:AK P X f n β R (.code y::K) env σ) :
  AK P X f n β R (.code (.cond c x y)::K) env σ:=by subst G;exact AK.Ww E h
end
theorem xX {α:Type}:∀{n:Nat} {l:List α},n<=l.length->takeN n l=some (l.take n)
 | 0,l,_=>by simp[takeN]
 | n+1,[],h=>by simp at h
 | n+1,x::l,h=>by simp[takeN,xX (l:=l) (n:=n) nu]
theorem tE {α:Type}:∀{n:Nat} {l:List α},n<=l.length->gr n l=some (l.drop n)
 | 0,l,_=>by simp[gr]
 | n+1,[],h=>by simp at h
 | n+1,x::l,h=>by simp[gr,tE (l:=l) (n:=n) nu]
abbrev cD (l:List UInt8):List CV:=l.map fun b => .int .u8 b.toNat
def byteOf (z:Int):UInt8:=UInt8.ofNat (z%256).toNat
theorem nB (z:Int):((byteOf z).toNat:Int)=IntKind.u8.wrap z:=by
 unfold byteOf;simp[IntKind.wrap,IntKind.bits,IntKind.signed];omega
theorem w8 (z:Int):[CV.int .u8 (IntKind.u8.wrap z)]=cD [byteOf z]:=by
 simp[cD,nB]
section
variable {P : Program} {X : Ctx}
theorem bU.val {o:Oper} {env:Env} {σ:St} {v:AV} (h:∀(Y:Env) (w:World) (g:Gh) (a:Act),(∀x∈o.op.operands.toList,aL X Y x=aL X env x)->(∀b o v,g.G b o=some v->w.cell? ⟨b,o,none⟩=some v) ->
  nC X g.G->tY g Y a.tmps->∃u,(execOp a.eval o).run P w = .ok (.value u) w/\aK g v u):bU P X o env σ v (fun σ=>σ) ⟨[],[]⟩:=by
 intro Y W w g a next Q h1 h2 T V U A;obtain⟨u,D,S⟩:=h Y w g a h1 T.oI V U;unfold Oper.wp;rw[D,Oper.upon_value];exact A u w g S T (gQ.refl _ _ _) (Gh.le.refl _)
theorem bU.concat (hX:cx P X) {o:Oper} {env:Env} {σ:St} {t yt:TypeId} {x y:Operand} (ho:o.op = .binOp .add t x y yt) {a b:List UInt8} (hx:aL X env x=some (.c (.str a))) (hy:aL X env y=some (.c (.str b)))
  (hl:a.length+b.length<=9223372036854775807):bU P X o env σ (.c (.str (a++b))) (fun σ=>σ) ⟨[],[]⟩:=by
 refine bU.val fun cV w g act h1 ij cy di=>?_
 have hx':aL X cV x=some (.c (.str a)):=by rw[h1 x kN];exact hx
 have hy':aL X cV y=some (.c (.str b)):=by rw[h1 y kN];exact hy
 have rx:=ct (a:=act) di cy hx'
 have ry:=ct (a:=act) di cy hy'
 simp only[aK,Rel]at rx ry
 refine⟨.string ⟨(a++b).toArray⟩,?_,by simp only[aK,Rel]⟩
 obtain⟨dst,op,type,pos,after,guard⟩:=o
 simp only at ho;subst ho
 have hsz:¬((9223372036854775807:Int)<(a.length:Int)+(b.length:Int)):=by omega
 have hj:(ByteArray.mk a.toArray)++(ByteArray.mk b.toArray)=⟨(a++b).toArray⟩:=by
  apply ByteArray.ext
  simp[ByteArray.data_append]
 simp[execOp,rx,ry,binOp,eqGuard,Op.stringOp,u9,hsz,hj]
theorem bU.toStr (hX:cx P X) {o:Oper} {env:Env} {σ:St} {s d:TypeId} {x:Operand} (p:o.op = .convert s d x) {i j k:TI} {e:Nat} (hi:X.ti s=some i) (hk:i.kind = .slice e) (he:X.ti e=some k) (Q0:k.kind = .int .u8) (hj:X.ti d=some j) (Xn:j.kind = .str)
  {a:AV} (hx:aL X env x=some a) {q:Nat} {rows:List CV} (M:rowsOf a=some (q,rows)) {l:List UInt8} (fM:rows=cD l) (hq:fQ q 1 rows=true):bU P X o env σ (.c (.str l)) (fun σ=>σ) ⟨[],[]⟩:=by
 refine bU.val fun cV w g Q h1 ij cy di=>?_;have J:aL X cV x=some a:=by rw[h1 x V6];exact hx
 have N:=ct (a:=Q) di cy J;obtain⟨d1,_,B,H⟩:=hX.run_underlying (w:=w) hi;rw[hk]at B;simp only[eF]at B;subst B;obtain⟨d2,_,V,U⟩:=hX.run_underlying (w:=w) he;rw[Q0]at V;simp only[eF]at V;subst V;obtain⟨d3,_,T,S⟩:=hX.run_underlying (w:=w) hj;rw[Xn]at T;simp only[eF]at T;subst T;have O:∃base Y I,Q.eval x = .slice base Y I/\Y=rows.length/\kH g.G q base rows:=by
  unfold rowsOf at M;split at M<;>simp at M
  ·obtain⟨rfl,rfl⟩:=M;simp only[aK]at N;obtain⟨base,Y,I,C,E,e3,D,_⟩:=N;exact⟨base,Y,I,C,E,D⟩
  ·obtain⟨rfl,rfl⟩:=M;simp only[aK,Rel]at N;obtain⟨base,Y,I,C,E,e3,D⟩:=N;exact⟨base,Y,I,C,E,D⟩
 obtain⟨base,Y,I,ex,W,A⟩:=O;refine⟨.string ⟨l.toArray⟩,?_,by simp only[aK,Rel]⟩;have ZZ:(convert s d (.slice base Y I)).run P w = .ok (.string ⟨l.toArray⟩) w:=by
  subst fM;rw[List.length_map]at W;rcases A with Xw|⟨b,o',rfl,hG⟩
  ·have hl:l=[]:=by simpa using Xw
   subst hl;simp at W;subst W;cases base with
   | none=>rw[run_convert_bytes_string w s d e none 0 I H U S];simp[Conv.bytesToString];rfl
   | some ad=>exact run_convert_bytes_back w s d e ad I [] H U S c9
  ·rw[W];refine run_convert_bytes_back w s d e ⟨b,o',none⟩ I l H U S fun m hm=>?_;rw[Addr.add_lit];have K:(cD l)[m]?=some (.int .u8 l[m].toNat):=by simp[cD,hm]
   obtain⟨c1,c2⟩:=hG.get m _ K;simp only[CV.cells,cN]at c1 c2;obtain⟨⟨u,u1,u2,_⟩,_⟩:=c1;simp only[Rel]at u2;subst u2;have XK:q=1:=by simpa using c2.symm
   subst XK;have:=ij _ _ _ u1;rwa[Nat.mul_one]at this
 obtain⟨dst,op,type,pos,after,guard⟩:=o;simp only at p;subst p;simp[execOp,ex,ZZ]
def zk (es e:Nat):Nat->Nat->List (Nat×Nat)
 | _,0=>[]
 | k,n+1=>(k*es,e)::zk es e (k+1) n
theorem F9 {es e:Nat}:∀{n k i off p:Nat},nth (zk es e k n) i=some (off,p)->off=(k+i)*es/\p=e
 | 0,k,i,off,p,h=>by simp[zk,nth]at h
 | n+1,k,0,off,p,h=>by simp[zk,nth]at h;exact⟨by simp[h.1],h.2.symm⟩
 | n+1,k,i+1,off,p,h=>by
  simp only[zk,nth]at h;obtain⟨h1,h2⟩:=F9 h;exact⟨by rw[h1];congr 1;omega,h2⟩
theorem bU.DG (hX:cx P X) {o:Oper} {env:Env} {σ:St} {t:TypeId} {parts:Array (Nat×Operand)} (ho:o.op = .build t parts) {i j:TI} {n e:Nat} (hi:X.ti t=some i) (hk:i.kind = .arr n e) (hj:X.ti e=some j)
  {z r:List AV} (hz:i.zero=some (.agg z)) (h:sj X (aL X env) (zk j.size e 0 n) parts.toList z=some r):bU P X o env σ (.agg r) (fun σ=>σ) ⟨[],[]⟩:=by
 refine bU.val fun cV w g act h1 ij cy di=>?_
 have h':sj X (aL X cV) (zk j.size e 0 n) parts.toList z=some r:=by
  rw[va _ _ _ (fun p hp=>h1 p.2 Fw)];exact h
 obtain⟨d,jm,gZ,_⟩:=hX.run_underlying (w:=w) hi
 rw[hk]at gZ;simp only[eF]at gZ;subst gZ
 obtain⟨zv,z1,z2,z3⟩:=hX.lP (w:=w) hi hz
 have z4:=z2 g
 simp only[aK]at z4
 obtain⟨zs,rfl,z5,z6⟩:=z4
 obtain⟨us,f1,f2,f3⟩:=Dh hX (ρ:=aL X cV) (ev:=act.eval) (fun x v hx=>ct di cy hx) (fun(m:Nat)=>some (m*j.size,j.size)) (by
  intro m off ft j' e1 e2
  obtain⟨rfl,rfl⟩:=F9 e1
  rw[hj]at e2;simp at e2;subst e2
  simp) (vs:=zs.toArray) h' (by simpa using z5) z6
 refine⟨.agg us,?_,QC⟩
 obtain⟨dst,op,type,pos,after,guard⟩:=o
 simp only at ho;subst ho
 have hb:(Instr.build t (parts.map fun(i,x)=>(i,act.eval x))).run P w = .ok (.agg us) w:=by
  simp only[Instr.build,Sem.run_bind,z1,Result.andThen_ok,jm,Value.cells,hX.run_sizeOf hj]
  simp only[Array.toList_map]
  rw[f1];rfl
 simp only[execOp,Sem.run_bind]
 have:(Array.map (fun x=>(x.fst,act.eval x.snd)) parts)=parts.map fun(i,x)=>(i,act.eval x):=rfl
 simp only[this,hb,Result.andThen_ok,Sem.run_pure]
theorem bU.DH (hX:cx P X) {o:Oper} {env:Env} {σ:St} {t:TypeId} {x ix:Operand} (ho:o.op = .index t x ix) {i j:TI} {n e:Nat} (hi:X.ti t=some i) (hk:i.kind = .arr n e) (hj:X.ti e=some j)
  {cs rest:List AV} (hx:aL X env x=some (.agg cs)) {ia:AV} (hz:aL X env ix=some ia) {m:Nat} (hm:asNat ia=some m) (hmn:Nat.blt m n=true) (hd:gr (m*j.size) cs=some rest) {v:AV} (hv:xe j rest=some v) :
  bU P X o env σ v (fun σ=>σ) ⟨[],[]⟩:=by
 refine bU.val fun cV w g act h1 ij cy di=>?_
 have hx':aL X cV x=some (.agg cs):=by rw[h1 x kN];exact hx
 have ZH:aL X cV ix=some ia:=by rw[h1 ix kN];exact hz
 have rx:=ct (a:=act) di cy hx'
 have rz:=ct (a:=act) di cy ZH
 simp only[aK,Rel]at rx
 obtain⟨vs,ex,r1,r2⟩:=rx
 obtain⟨k,rz⟩:=wh hm rz
 obtain⟨d,jm,gZ,_⟩:=hX.run_underlying (w:=w) hi
 rw[hk]at gZ;simp only[eF]at gZ;subst gZ
 obtain⟨u,u1,u2⟩:=Di (P:=P) (w:=w) (vs:=vs.toArray) hX hj (.inl ⟨cs,rest,by simpa using r1,r2,hd,hv⟩)
 refine⟨u,?_,u2⟩
 have hlt:m<n:=by simpa[Nat.blt_eq]using hmn
 obtain⟨dst,op,type,pos,after,guard⟩:=o
 simp only at ho;subst ho
 simp[execOp,ex,rz,Instr.index,asIntOf,jm,hlt,hX.run_sizeOf hj,u1]
end
section
variable {P : Program} {X : Ctx} {ops : Array Oper} {o : Oper} {rest : List Oper} {env : Env} {acc : List Fp} {Q : Env -> St -> List Fp -> Prop} {σ : St}
theorem ai.Y6 (hX:cx P X) (kn:List Nat) (G:simple o.op=true) {acc:List Fp} {Y:List Oper} {env':Env} {W:List Fp}
  (h:Fx X ops.toList σ.boxes kn 0 (o::rest) env acc = .at Y env' W) (k:ai P X ops Y env' σ W Q):ai P X ops (o::rest) env σ acc Q:=ai.LM hX 0 kn h k
theorem ai.uF {j d:Nat} {Y b:Bool} (E:o.guard=some (j,Y)) (G:pW ops j=some d) (T:ak d env=some (.c (.bool b))) (D:b=true)
  (h1:b=true->ai P X ops (o::rest) env σ acc Q):ai P X ops (o::rest) env σ acc Q:=h1 D
theorem ai.uG {j d:Nat} {Y b:Bool} (E:o.guard=some (j,Y)) (G:pW ops j=some d) (T:ak d env=some (.c (.bool b))) (D:b=false)
  (h1:b=false->ai P X ops (o::rest) env σ acc Q):ai P X ops (o::rest) env σ acc Q:=h1 D
theorem ai.concat (hX:cx P X) (kn:List Nat) (hg:cU ops.toList kn env o=some true) {t yt:TypeId} {x y:Operand} (ho:o.op = .binOp .add t x y yt) {d:Nat} (hd:o.dst=some d) {a b:List UInt8}
  (hx:aL X env x=some (.c (.str a))) (hy:aL X env y=some (.c (.str b))) (hl:a.length+b.length<=9223372036854775807)
  (k:ai P X ops rest ((d,.c (.str (a++b)))::env) σ (⟨[],[]⟩::acc) Q):ai P X ops (o::rest) env σ acc Q :=
 ai.step (dj hg) (bU.concat hX ho hx hy hl) (gR.id _) tN
theorem ai.toStr (hX:cx P X) (kn:List Nat) (E:cU ops.toList kn env o=some true) {s t:TypeId} {x:Operand} (p:o.op = .convert s t x) {d:Nat} (H:o.dst=some d) {i j k:TI} {e:Nat} (W:X.ti s=some i) (D:i.kind = .slice e) (Y:X.ti e=some k) (V:k.kind = .int .u8)
  (U:X.ti t=some j) (T:j.kind = .str) {a:AV} (O:aL X env x=some a) {q:Nat} {rows:List CV} (I:rowsOf a=some (q,rows)) {l:List UInt8} (u:rows=cD l) (hq:fQ q 1 rows=true)
  (k:ai P X ops rest ((d,.c (.str l))::env) σ (⟨[],[]⟩::acc) Q):ai P X ops (o::rest) env σ acc Q :=
 ai.step (dj E) (bU.toStr hX p W D Y V U T O I u hq) (gR.id _) xu
theorem ai.DG (hX:cx P X) (kn:List Nat) (E:cU ops.toList kn env o=some true) {t:TypeId} {H:Array (Nat×Operand)} (p:o.op = .build t H) {d:Nat} (Y:o.dst=some d) {i j:TI} {n e:Nat} (W:X.ti t=some i) (D:i.kind = .arr n e) (V:X.ti e=some j)
  {z r:List AV} (I:i.zero=some (.agg z)) (h:sj X (aL X env) (zk j.size e 0 n) H.toList z=some r)
  (k:ai P X ops rest ((d,.agg r)::env) σ (⟨[],[]⟩::acc) Q):ai P X ops (o::rest) env σ acc Q :=
 ai.step (dj E) (bU.DG hX p W D V I h) (gR.id _) (by rw[Y];exact k)
theorem ai.DH (hX:cx P X) (kn:List Nat) (E:cU ops.toList kn env o=some true) {t:TypeId} {x S:Operand} (p:o.op = .index t x S) {d:Nat} (H:o.dst=some d) {i j:TI} {n e:Nat} (I:X.ti t=some i) (D:i.kind = .arr n e) (U:X.ti e=some j)
  {cs Y:List AV} (O:aL X env x=some (.agg cs)) {V:AV} (T:aL X env S=some V) {m:Nat} (M:asNat V=some m) (W:Nat.blt m n=true) (N:gr (m*j.size) cs=some Y) {v:AV} (K:xe j Y=some v)
  (k:ai P X ops rest ((d,v)::env) σ (⟨[],[]⟩::acc) Q):ai P X ops (o::rest) env σ acc Q :=
 ai.step (dj E) (bU.DH hX p I D U O T M W N K) (gR.id _) xu
theorem ai.lN (hX:cx P X) (kn:List Nat) (E:cU ops.toList kn env o=some true) {t:TypeId} {x S:Operand} (p:o.op = .index t x S) {d:Nat} (H:o.dst=some d) {i:TI} (W:X.ti t=some i) (D:i.kind = .str)
  {s:List UInt8} (O:aL X env x=some (.c (.str s))) {k:IntKind} {z:Int} (I:aL X env S=some (.c (.int k z))) {m:Nat} (M:z=m) {b:UInt8} (G:s[m]?=some b)
  (k:ai P X ops rest ((d,.c (.int .u8 b.toNat))::env) σ (⟨[],[]⟩::acc) Q):ai P X ops (o::rest) env σ acc Q:=by
 subst M;refine ai.look hX kn E H ?_ (by rw[p];rfl) k;rw[p];have u:∀q:IntKind,asNat (.c (.int q (m:Int)))=some m:=fun _=>rfl;simp only[gH,W,O,I,u,D,rD,G]
theorem ai.DI (hX:cx P X) (kn:List Nat) (hg:cU ops.toList kn env o=some true) {t:TypeId} {x:Operand} {lo hi':Option Operand} (ho:o.op = .slice t x lo hi' none) {d:Nat} (hd:o.dst=some d) {i:TI} (hi:X.ti t=some i) (hk:i.kind = .str)
  {s:List UInt8} (hx:aL X env x=some (.c (.str s))) {l h:Option Nat} (hl:bound (aL X env) lo=some l) (hh:bound (aL X env) hi'=some h) (h1:h.getD s.length<=s.length) (h2:l.getD 0<=h.getD s.length)
  (k:ai P X ops rest ((d,.c (.str ((s.take (h.getD s.length)).drop (l.getD 0))))::env) σ (⟨[],[]⟩::acc) Q):ai P X ops (o::rest) env σ acc Q:=by
 refine ai.look hX kn hg hd ?_ (by rw[ho];rfl) k
 rw[ho]
 have hb:bound (aL X env) none=some none:=rfl
 simp only[gH,hi,hx,hl,hh,hb,hk,Ao]
 cases h with
 | none =>
  cases l with
  | none=>simp
  | some l=>simp at h2 ⊢;simp[tE h2]
 | some h =>
  simp at h1 h2 ⊢
  cases l with
  | none=>simp[xX h1]
  | some l =>
   simp at h2
   simp[xX h1,tE (l:=s.take h) (n:=l) lD]
theorem ai.sliceFrom (hX:cx P X) (kn:List Nat) (E:cU ops.toList kn env o=some true) {t:TypeId} {x:Operand} {S:Operand} (p:o.op = .slice t x (some S) none none) {d:Nat} (H:o.dst=some d) {i j:TI} {e:Nat} (W:X.ti t=some i) (D:i.kind = .slice e) (Y:X.ti e=some j)
  {s:Nat} {rows:List CV} (O:aL X env x=some (.c (.sl s rows))) (G:Nat.beq s j.size=true) {k:IntKind} {z:Int} (I:aL X env S=some (.c (.int k z))) {m:Nat} (M:z=m) (h1:m<=rows.length)
  (k:ai P X ops rest ((d,.c (.sl s (rows.drop m)))::env) σ (⟨[],[]⟩::acc) Q):ai P X ops (o::rest) env σ acc Q:=by
 subst M;refine ai.look hX kn E H ?_ (by rw[p];rfl) k;rw[p];have u:∀q:IntKind,asNat (.c (.int q (m:Int)))=some m:=fun _=>rfl;simp only[gH,W,O,bound,I,u,D,Y,Ao,G,tE h1]
end
end Go.cq
namespace Go.cq
abbrev ah (rows:List CV):List AV:=(bI rows).map AV.c
theorem Ox {w : World} {g : Gh} {σ : St} (h : Inv w g σ) : Inv w.drew g σ /\ gQ w g σ w.drew g σ :=
  ⟨⟨h.oI, fun k cs e => by
      obtain ⟨b, Y, P, W, V⟩ := h.box k cs e;exact ⟨b, Y, P, W, cr.of_same (w := w) (w' := w.drew) (fun o => ⟨rfl, rfl⟩) V⟩,
    h.fB, h.tok, h.gw, h.used, h.room⟩,
   ⟨rfl, rfl, rfl, aak _, fun _ _ _ => rfl, fun _ _ _ _ => ⟨rfl, rfl⟩, jk.le.refl _, fun _ _ _ h => .inl h, fun k cs b h1 h2 => .inr ⟨k, cs, h1, h2⟩,
    fun k n b S I h1 h2 => .inr ⟨k, n, S, I, h1, h2, aak _, aak _⟩, fun _ _ h => ⟨h, rfl, rfl⟩⟩⟩
theorem oV {g:Gh}:∀{cs:List CV} {vs:List Value},bL g.G cs vs->bF g (cs.map AV.c) vs
 | [],vs,h=>by simp only[bL]at h;subst h;simp[bF]
 | c::cs,vs,h=>by
  simp only[bL]at h
  obtain⟨u,us,rfl,h1,h2⟩:=h
  simp only[List.map_cons,bF]
  exact⟨u,us,rfl,Q9,oV h2⟩
theorem sD:∀(cs:List CV),(cs.map AV.c).all AV.one=cs.all CV.one
 | []=>rfl
 | c::cs=>by simp only[List.map_cons,List.all_cons,sD cs,AV.one]
section
variable {P : Program} {X : Ctx}
theorem wV (w:World) (s:Nat) (base:Option Addr) (I:Nat):(Builtin.firstCells s 0 (.slice base 0 I)).run P w = .ok #[] w:=by
 cases base with
 | none=>simp[Builtin.firstCells]
 | some a=>exact run_firstCells_some w s 0 a 0 I [] c9 (by intro j v h;simp at h)
set_option maxHeartbeats 1600000 in
theorem bU.vW (hX:cx P X) {o:Oper} {env:Env} {σ:St} {args:Array Operand} {ats:Array TypeId} (ho:o.op = .call {callee := .builtin .append,args:=args,argTypes:=ats})
  {xs y:Operand} (hargs:args.toList=[xs,y]) {t t1:Nat} (Ax:ats.toList=[t,t1]) {d:Nat} (jm:d<1000000)
  {i j i1:TI} {e:Nat} (hi:X.ti t=some i) (hk:i.kind = .slice e) (hj:X.ti e=some j) {za:AV} (hz:j.zero=some za) (hi1:X.ti t1=some i1) (qt:kY i1.kind=true)
  {s:Nat} {rows:List CV} (ha:aL X env xs=some (.own .exact s rows)) {b:AV} (hb:aL X env y=some b) {s1:Nat} {bZ:List CV} (hsrc:mQ b=some (s1,bZ))
  (hs:fQ s j.size rows=true) (rS:fQ s1 j.size bZ=true) (hne:bZ≠[]) (hu:mem d σ.used=false) (hby:Nat.ble 1 j.bytes=true) (hbound:(rows.length+bZ.length)*j.bytes<=140737488355328) :
  bU P X o env σ (.gv d 0 j.size (rows++bZ).length) (fun σ=>σ.dX d (ah (rows++bZ))) ⟨[],[d]⟩:=by
 intro cV σ1 w g act next Q h1 h2 hinv cy di hnext
 have qh:∀x∈args.toList,x∈o.op.operands.toList:=by
  intro x hx
  rw[ho];simp only[Op.operands,Call.operands,Array.toList_append,List.mem_append];exact .inr hx
 have xP:aL X cV xs=some (.own .exact s rows):=by rw[h1 xs (qh xs Uy)];exact ha
 have hb':aL X cV y=some b:=by rw[h1 y (qh y Uy)];exact hb
 have rA:=ct (a:=act) di cy xP
 have rB:=ct (a:=act) di cy hb'
 simp only[aK]at rA
 obtain⟨base,len,cap,ex,hlen,hcap,fM,hown⟩:=rA
 obtain⟨_,n5⟩:=qg (P:=P) (w:=w) hinv.oI hsrc rS rB
 obtain⟨⟨news',Wx,YC,ZP,ZQ⟩,_⟩:=qg (P:=P) (w:=w.drew) (fun b o v h=>by rw[World.cell?_drew];exact hinv.oI b o v h) hsrc rS rB
 obtain⟨olds,m1,m2,m3,m4⟩:=wo (P:=P) (w:=w.drew) (g:=g) (fun b o v h=>by rw[World.cell?_drew];exact hinv.oI b o v h) fM hs len cap hlen
 obtain⟨dt,_,xR,EU⟩:=hX.run_underlying (w:=w) hi
 rw[hk]at xR;simp only[eF]at xR;subst xR
 obtain⟨d1,BV,Ga⟩:=zd hX hi1 U7 w
 obtain⟨inf,Uv,Ml,ZR,ZT,_,if6⟩:=hX.ti e j hj
 obtain⟨z,z1,_,z3⟩:=ZT za hz
 have PX:news'.length=bZ.length*j.size:=by rw[<- (bL.get Wx).1,dh YC]
 have PY:olds.length=rows.length*j.size:=by rw[<- (bL.get m1).1,dh m2]
 have xS:args = #[xs,y]:=by cases args;simp_all
 have Du:ats = #[t,t1]:=by cases ats;simp_all
 have SU:=Nat.le_of_ble_eq_true hby
 have hsmall:rows.length+bZ.length<=140737488355328:=Nat.le_trans (Nat.le_mul_of_pos_right _ SU) hbound
 have hpos:0<bZ.length:=List.length_pos_iff.2 hne
 simp only[pS]at hown
 have SV:∀(v:Value) (w':World),(Builtin.append_ #[t,t1] o.type #[.slice base len cap,act.eval y]).run P w = .ok v w'->(execOp act.eval o).run P w = .ok (.value v) w':=by
  intro v w' hr
  obtain⟨dst,op,type,pos,after,guard⟩:=o
  simp only at ho hr;subst ho
  subst xS Du
  simp[execOp,resolve,invoke,builtin,ex,hr,Result.andThen]
 unfold Oper.wp
 have hg:cap<len+bZ.length:=by omega
 have hbd:(len+bZ.length)*inf.bytes<=140737488355328:=by rw[ZR,hlen];exact hbound
 rw[SV _ _ (nG EU BV Ga Uv z1 n5 (by rw[Ml];exact ZQ) (by rw[Ml];exact m4) hg bn hbd)]
 rw[Oper.upon_value]
 have hge:=grownCap_ge w (len+bZ.length) cap e
 generalize grownCap w (len+bZ.length) cap e=nc at hge ⊢
 have sS:(olds.toArray++news'.toArray++Builtin.zeroCells z.cells (nc-(len+bZ.length))).size=nc*j.size:=by
  simp only[Array.size_append,List.size_toArray,size_zeroCells,PY,PX,z3,<- hlen,<- Nat.add_mul]
  congr 1;omega
 have SY:d ∉ σ1.used:=fun h=>cS hu ((h2 d (.inr c9)).2.2.1 h)
 obtain⟨e1,e2⟩:=Ox hinv
 have fU:bL g.G (bI (rows++bZ)) (olds++news'):=by rw[dy];exact eW m1 Wx
 have hfl:(bI (rows++bZ)).length=(olds++news').length:=(bL.get fU).1
 have hrc:bF g (ah (rows++bZ)) ((olds.toArray++news'.toArray++Builtin.zeroCells z.cells (nc-(len+bZ.length))).toList.take (ah (rows++bZ)).length):=by
  rw[List.length_map,hfl]
  simp only[Array.toList_append]
  rw[List.take_left']
  ·exact oV fU
  ·simp
 have hone:(ah (rows++bZ)).all AV.one=true:=by
  rw[sD,dy,List.all_append,m3,ZP];rfl
 obtain⟨i1,i2,i3,i4⟩:=Hr (t:=e) e1 SY jm hrc hone
 refine hnext _ _ _ ?_ i1 (e2.trans i2) i3
 simp only[aK]
 refine⟨w.heap.size,nc,some ⟨w.heap.size,0,none⟩,c9,?_,?_,?_,.inr rfl⟩
 ·simp[hlen]
 ·simp_all
 ·simp_all
end
end Go.cq
namespace Go.cq
def St.eH (σ:St) (u:Nat):St:=⟨BT u σ.boxes,σ.toks,σ.used⟩
theorem Mr {w:World} {g:Gh} {σ:St} (h:Inv w g σ) (u:Nat):Inv w g (σ.eH u)/\gQ w g σ w g (σ.eH u):=by
 have E:∀k cs,ak k (σ.eH u).boxes=some cs->ak k σ.boxes=some cs:=by
  intro k cs e;simp only[St.eH,jM]at e;split at e
  ·simp at e
  ·exact e
 refine⟨⟨h.oI,fun k cs e=>h.box k cs (E k cs e),fun k k' cs M b e e'=>h.fB k k' cs M b (E k cs e) (E k' M e'),?_,h.gw,h.used,fun k cs b e=>h.room k cs b (E k cs e)⟩,
  ⟨rfl,rfl,rfl,aak _,fun _ _ _=>rfl,fun _ _ _ _=>⟨rfl,rfl⟩,jk.le.refl _,fun _ _ _ h => .inl h,fun k cs b h1 h2 => .inr ⟨k,cs,E k cs h1,h2⟩,
   fun k n b S W h1 h2 => .inr ⟨k,n,S,W,h1,h2,aak _,aak _⟩,fun k _ e=>?_⟩⟩
 ·intro k n e;obtain⟨A,h1,h2⟩:=h.tok k n e;refine⟨A,h1,fun b S W I=>?_⟩;obtain⟨V,Y,p⟩:=h2 b S W I;exact⟨V,Y,fun k' cs e'=>p k' cs (E k' cs e')⟩
 ·cases K:ak k (σ.eH u).boxes with
  | none=>exact absurd K e
  | some cs=>exact⟨by rw[E k cs K];simp,rfl,rfl⟩
theorem Vs {w w':World} {g:Gh} {σ:St} {key d b:Nat} {cells cells':List AV} (hinv:Inv w g σ) (hk:ak key σ.boxes=some cells) (hb:g.box key=some b) (hd:d ∉ σ.used) (Xz:d<1000000)
  (r2:w'.heap.size=w.heap.size/\w'.os=w.os/\w'.tape=w.tape/\w'.output=w.output/\∀b',b'≠b->w'.heap[b']?=w.heap[b']?)
  (r3:∀b' o',b'≠b->w'.cell? ⟨b',o',none⟩=w.cell? ⟨b',o',none⟩) (r4:∀b' o',w'.frozen? ⟨b',o',none⟩=w.frozen? ⟨b',o',none⟩)
  (hc:cr w' g b 0 cells') (hr:∀o,o<g.room key->∃u,w'.cell? ⟨b,o,none⟩=some u) :
  let g':Gh:=⟨g.G,fun k=>if k=d then some b else g.box k,g.tok,fun k=>if k=d then g.room key else g.room k⟩
  let σ':St:=(σ.dX d cells').eH key
  Inv w' g' σ'/\gQ w g σ w' g' σ'/\g.le g':=by
 intro g' σ'
 obtain⟨b0,hb0,ZE,Yz,hbc⟩:=hinv.box key cells hk
 rw[hb]at hb0;cases hb0
 have SL:g.box d=none:=by
  cases h:g.box d with
  | none=>rfl
  | some x=>exact absurd (hinv.used d (.inl oe)) hd
 have hkd:key≠d:=by rintro rfl;rw[hb]at SL;simp at SL
 have hle:g.le g':=by
  refine⟨jk.le.refl _,fun k x h=>?_,fun k x h=>?_,fun k hw fS h=>⟨hw,fS,h,aak _,fun _=>rfl⟩⟩
  ·grind
  ·grind
 have kg:∀k cs,ak k σ'.boxes=some cs->(k=d/\cs=cells')\/(k≠d/\k≠key/\ak k σ.boxes=some cs):=by
  intro k cs e
  simp only[σ',St.eH,St.dX,jM,au]at e
  split at e
  ·simp at e
  ·grind
 have vg:∀k cs b',k≠key->ak k σ.boxes=some cs->g.box k=some b'->b'≠b:=by
  rintro k cs b' h1 h2 h3 rfl
  exact h1 (hinv.fB k key cs cells _ h2 hk h3 hb)
 refine⟨⟨?_,?_,?_,?_,hinv.gw,?_,?_⟩,⟨r2.2.1,r2.2.2.1,r2.2.2.2.1,bn,fun b' hb' hno=>r2.2.2.2.2 b' (by rintro rfl;exact hno 0 (.inl ⟨key,cells,hk,hb⟩)),fun b' o hb' hno=>⟨r3 b' o (by rintro rfl;exact hno (.inl ⟨key,cells,hk,hb⟩)),r4 b' o⟩,jk.le.refl _,fun _ _ _ h => .inl h,?_,?_,?_⟩,hle⟩
 ·intro b' o v h
  rw[r3 b' o (by rintro rfl;rw[Yz]at h;simp at h)]
  exact hinv.oI b' o v h
 ·intro k cs e
  rcases kg k cs e with ⟨rfl,rfl⟩|⟨h1,h2,h3⟩
  ·exact⟨b,Wj,bn,Yz,hc.mono hle⟩
  ·obtain⟨b',f1,f2,f3,f4⟩:=hinv.box k cs h3
   have zP:=vg k cs b' h2 h3 f1
   exact⟨b',by simp[g',h1,f1],bn,f3,(cr.of_same (fun o=>⟨r3 b' o zP,r4 b' o⟩) f4).mono hle⟩
 ·intro k k' cs cs' b' e e' e1 e2
  simp only[g']at e1 e2
  rcases kg k cs e with ⟨rfl,rfl⟩|⟨h1,h2,h3⟩
  ·grind
  ·rw[if_neg h1]at e1
   rcases kg k' cs' e' with ⟨rfl,rfl⟩|⟨xb,yQ,YD⟩
   ·grind
   ·rw[if_neg xb]at e2
    exact hinv.fB k k' cs cs' b' h3 YD e1 e2
 ·intro k n e
  obtain⟨fS,e1,e2⟩:=hinv.tok k n e
  refine⟨fS,e1,fun b' lo hi hr'=>?_⟩
  obtain⟨e3,e4,e5⟩:=e2 b' lo hi hr'
  have zP:b'≠b:=by rintro rfl;exact e5 key cells hk hb
  refine⟨bn,fun o h1 h2=>?_,fun k' cs e'=>?_⟩
  ·grind
  ·grind
 ·intro k e
  show k∈d::σ.used
  by_cases hkk:k=d
  ·simp[hkk]
  ·simp only[List.mem_cons];right;apply hinv.used k;simpa[g',hkk]using e
 ·intro k cs b' e e1 o
  simp only[g']at e1 ⊢
  rcases kg k cs e with ⟨rfl,rfl⟩|⟨h1,h2,h3⟩
  ·rw[if_pos rfl]at e1;rw[if_pos rfl];simp at e1;subst e1
   exact⟨hr o,by rw[r4];exact(hinv.room key cells _ hk hb o).2⟩
  ·rw[if_neg h1]at e1;rw[if_neg h1]
   have zP:=vg k cs b' h2 h3 e1
   obtain⟨f1,f2⟩:=hinv.room k cs b' h3 e1 o
   exact⟨fun ho=>(f1 ho).imp fun u hu=>by rw[r3 b' o zP];exact hu,by rw[r4];exact f2⟩
 ·grind
 ·exact X9
 ·intro k wZ e
  cases hc0:ak k σ'.boxes with
  | none=>exact absurd hc0 e
  | some cs =>
   rcases kg k cs hc0 with ⟨rfl,rfl⟩|⟨h1,h2,h3⟩
   ·omega
   ·grind
end Go.cq
namespace Go.cq
theorem oA {w:World} {g:Gh} {b:Nat}:∀{cs:List CV} {tail:List AV} {o:Nat},cr w g b o (cs.map AV.c++tail)->∃vs:List Value,bL g.G cs vs/\(∀(j:Nat) u,vs[j]?=some u->w.cell? ⟨b,o+j,none⟩=some u)/\cs.all CV.one=true
 | [],_,_,_=>⟨[],by simp[bL],fun j u h=>by simp at h,rfl⟩
 | c::cs,tail,o,h=>by
  simp only[List.map_cons,List.cons_append]at h;obtain⟨⟨u,h1,h2,V⟩,_,h4⟩:=h;obtain⟨vs,S,M,q⟩:=oA h4;refine⟨u::vs,by simp only[bL];exact⟨u,vs,rfl,BI,S⟩,fun j v Y=>?_,by simp only[List.all_cons,q,Bool.and_true];simpa only[AV.one]using V⟩;cases j with
  | zero=>simp at Y;subst Y;exact h1
  | succ j =>
   simp at Y;have:=M j v Y;rwa[show o+1+j=o+(j+1)from by omega]at this
theorem J3 (d u:Nat) (cells:List AV) (Y:d≠u):gR (fun σ=>(σ.dX d cells).eH u) ⟨[],[d,u]⟩ where
 out:=fun σ k D=>by
  simp at D;refine⟨?_,rfl,?_⟩
  ·simp only[St.eH,St.dX,jM,au];rw[if_neg D.2,if_neg D.1]
  ·simp only[St.eH,St.dX,List.mem_cons];exact⟨fun h=>h.resolve_left D.1,.inr⟩
 same:=fun σ G h k D=>by
  obtain⟨h1,h2,V⟩:=h k (.inr D);refine⟨?_,h2,?_⟩
  ·simp only[St.eH,St.dX,jM,au];split
   ·rfl
   ·simp_all
  ·simp only[St.eH,St.dX,List.mem_cons,V]
section
variable {P : Program} {X : Ctx}
set_option maxHeartbeats 1600000 in
theorem bU.mL (hX:cx P X) {o:Oper} {env:Env} {σ:St} {args:Array Operand} {ats:Array TypeId} (ho:o.op = .call {callee := .builtin .append,args:=args,argTypes:=ats})
  {xs y:Operand} (hargs:args.toList=[xs,y]) {t t1:Nat} (Ax:ats.toList=[t,t1]) {d:Nat} (jm:d<1000000)
  {i j i1:TI} {e:Nat} (hi:X.ti t=some i) (hk:i.kind = .slice e) (hj:X.ti e=some j) {za:AV} (hz:j.zero=some za) (hi1:X.ti t1=some i1) (qt:kY i1.kind=true)
  {key n:Nat} (ha:aL X env xs=some (.gv key 0 j.size n)) {cells tail:List AV} {rows:List CV} (z8:ak key σ.boxes=some cells) (iQ:cells=ah rows++tail) (hn:n=rows.length) (hfl:(bI rows).length=n*j.size)
  {b:AV} (hb:aL X env y=some b) {s1:Nat} {bZ:List CV} (hsrc:mQ b=some (s1,bZ))
  (rS:fQ s1 j.size bZ=true) (hu:mem d σ.used=false) (hby:Nat.ble 1 j.bytes=true) (hbound:(rows.length+bZ.length)*j.bytes<=140737488355328) :
  bU P X o env σ (.gv d 0 j.size (rows++bZ).length) (fun σ=>(σ.dX d (ah (rows++bZ))).eH key) ⟨[],[d,key]⟩:=by
 intro cV σ1 w g act next Q h1 h2 hinv cy di hnext
 have qh:∀x∈args.toList,x∈o.op.operands.toList:=by
  intro x hx
  rw[ho];simp only[Op.operands,Call.operands,Array.toList_append,List.mem_append];exact .inr hx
 have xP:aL X cV xs=some (.gv key 0 j.size n):=by rw[h1 xs (qh xs Uy)];exact ha
 have hb':aL X cV y=some b:=by rw[h1 y (qh y Uy)];exact hb
 have Ht:ak key σ1.boxes=some cells:=by rw[(h2 key (.inr c9)).1];exact z8
 have rA:=ct (a:=act) di cy xP
 have rB:=ct (a:=act) di cy hb'
 simp only[aK]at rA
 obtain⟨bk,cap,oo,IU,ex,hcap,XL,Vt⟩:=rA
 obtain⟨bk',Z0,ZE,Yz,hbc⟩:=hinv.box key cells Ht
 rw[IU]at Z0;cases Z0
 obtain⟨⟨news,n1,n2,n3,n4⟩,n5⟩:=qg (P:=P) (w:=w) hinv.oI hsrc rS rB
 obtain⟨⟨news',Wx,YC,ZP,ZQ⟩,_⟩:=qg (P:=P) (w:=w.drew) (fun b o v h=>by rw[World.cell?_drew];exact hinv.oI b o v h) hsrc rS rB
 have Z1:=hbc
 rw[iQ]at Z1
 obtain⟨olds,m1,mv,m3⟩:=oA Z1
 obtain⟨dt,_,xR,EU⟩:=hX.run_underlying (w:=w) hi
 rw[hk]at xR;simp only[eF]at xR;subst xR
 obtain⟨d1,BV,Ga⟩:=zd hX hi1 U7 w
 obtain⟨inf,Uv,Ml,ZR,ZT,_,if6⟩:=hX.ti e j hj
 obtain⟨z,z1,_,z3⟩:=ZT za hz
 have Oq:news.length=bZ.length*j.size:=by rw[<- (bL.get n1).1,dh n2]
 have PX:news'.length=bZ.length*j.size:=by rw[<- (bL.get Wx).1,dh YC]
 have PY:olds.length=n*j.size:=by rw[<- (bL.get m1).1,hfl]
 have m4:(Builtin.firstCells j.size n (.slice oo n cap)).run P w.drew = .ok olds.toArray w.drew:=by
  rcases Vt with h0|rfl
  ·have h00:n=0:=by omega
   have:olds.length=0:=by rw[PY,h00];simp
   rw[List.length_eq_zero_iff.1 this,h00]
   exact wV w.drew _ _ _
  ·refine run_firstCells_some w.drew j.size n _ n cap olds PY ?_
   intro q v hq;rw[Addr.add_lit,World.cell?_drew]
   exact mv q v hq
 have xS:args = #[xs,y]:=by cases args;simp_all
 have Du:ats = #[t,t1]:=by cases ats;simp_all
 have SU:=Nat.le_of_ble_eq_true hby
 have hsmall:rows.length+bZ.length<=140737488355328:=Nat.le_trans (Nat.le_mul_of_pos_right _ SU) hbound
 have SY:d ∉ σ1.used:=fun h=>cS hu ((h2 d (.inr c9)).2.2.1 h)
 have hdk:key≠d:=by
  rintro rfl
  exact SY (hinv.used key (.inl (by rw[IU];simp)))
 have hone:(ah (rows++bZ)).all AV.one=true:=by
  rw[sD,dy,List.all_append,m3,ZP];rfl
 have SV:∀(v:Value) (w':World),(Builtin.append_ #[t,t1] o.type #[.slice oo n cap,act.eval y]).run P w = .ok v w'->(execOp act.eval o).run P w = .ok (.value v) w':=by
  intro v w' hr
  obtain⟨dst,op,type,pos,after,guard⟩:=o
  simp only at ho hr;subst ho
  subst xS Du
  simp[execOp,resolve,invoke,builtin,ex,hr,Result.andThen]
 unfold Oper.wp
 by_cases hroom:n+bZ.length<=cap
 ·have hmul:n*j.size+news.length<=cap*j.size:=by
   rw[Oq,<- Nat.add_mul];exact Nat.mul_le_mul_right _ hroom
  obtain⟨w',r1,r2,r3,r4,r5⟩:=mN (P:=P) (w:=w) bk news (n*j.size) 0 w (mH n1 n3) (by
   intro q hq
   simp only[Nat.add_zero]
   exact hinv.Wt key cells bk Ht IU (n*j.size+q) bn)
  simp only[Nat.add_zero]at r3 r5
  rw[SV _ w' (kX (w':=w') EU BV Ga Uv n5 WB hroom (by
   rcases Vt with h0|rfl
   ·have:news.length=0:=by rw[Oq,show bZ.length=0 from by omega];simp
    rw[List.length_eq_zero_iff.1 this]at r1 ⊢
    cases oo
    ·simpa[storeCells,eq_comm]using r1
    ·simpa[storeCells]using r1
   ·simp only[Addr.add_lit,Ml]
    rw[Nat.zero_add];exact r1))]
  rw[Oper.upon_value]
  have fU:bL g.G (bI (rows++bZ)) (olds++news):=by rw[dy];exact eW m1 n1
  have Zs:cr w' g bk 0 (ah (rows++bZ)):=by
   apply cr.jQ
   intro q c hq
   obtain⟨l1,l2⟩:=bF.get (oV fU)
   obtain⟨u,e1,e2⟩:=l2 q c hq
   rw[List.all_eq_true]at hone
   simp only[Nat.zero_add]
   refine⟨⟨u,?_,e2,hone c (aaw hq)⟩,?_⟩
   ·by_cases XE:q<olds.length
    ·rw[List.getElem?_append_left XE]at e1
     rw[r3 bk q (by right;left;omega)]
     have:=mv q u e1
     rwa[Nat.zero_add]at this
    ·rw[List.getElem?_append_right bn]at e1
     have:=r5 (q-olds.length) u e1
     rwa[show n*j.size+(q-olds.length)=q from by omega]at this
   ·rw[r4]
    have acw:q<(olds++news).length:=(List.getElem?_eq_some_iff.1 e1).1
    rw[aas]at acw
    exact(hinv.room key cells bk Ht IU q).2
  obtain⟨i1,i2,i3⟩:=Vs hinv Ht IU SY jm r2 (fun b' o' h=>r3 b' o' (.inl h)) r4 Zs (by
   intro q hq
   obtain⟨⟨u,q1⟩,_⟩:=hinv.Wt key cells bk Ht IU q hq
   by_cases hin:n*j.size<=q/\q<n*j.size+news.length
   ·obtain⟨v,hv⟩:∃v,news[q-n*j.size]?=some v:=⟨_,List.getElem?_eq_getElem bn⟩
    have:=r5 _ v hv
    rw[show n*j.size+(q-n*j.size)=q from by omega]at this
    exact⟨v,this⟩
   ·exact⟨u,by rw[r3 bk q (by right;omega)];exact q1⟩)
  refine hnext _ _ _ ?_ i1 i2 i3
  simp only[aK]
  refine⟨bk,cap,oo,c9,?_,?_,?_,Vt⟩
  ·simp[hn]
  ·simp only[aas];omega
  ·simp only[if_pos];exact XL
 ·have hg:cap<n+bZ.length:=by omega
  have hbd:(n+bZ.length)*inf.bytes<=140737488355328:=by rw[ZR,hn];exact hbound
  rw[SV _ _ (nG EU BV Ga Uv z1 n5 (by rw[Ml];exact ZQ) (by rw[Ml];exact m4) hg bn hbd)]
  rw[Oper.upon_value]
  have hge:=grownCap_ge w (n+bZ.length) cap e
  generalize grownCap w (n+bZ.length) cap e=nc at hge ⊢
  have sS:(olds.toArray++news'.toArray++Builtin.zeroCells z.cells (nc-(n+bZ.length))).size=nc*j.size:=by
   simp only[Array.size_append,List.size_toArray,size_zeroCells,PY,PX,z3,<- Nat.add_mul]
   congr 1;omega
  obtain⟨e1,e2⟩:=Ox hinv
  have fU:bL g.G (bI (rows++bZ)) (olds++news'):=by rw[dy];exact eW m1 Wx
  have acy:(bI (rows++bZ)).length=(olds++news').length:=(bL.get fU).1
  have hrc:bF g (ah (rows++bZ)) ((olds.toArray++news'.toArray++Builtin.zeroCells z.cells (nc-(n+bZ.length))).toList.take (ah (rows++bZ)).length):=by
   rw[List.length_map,acy]
   simp only[Array.toList_append]
   rw[List.take_left']
   ·exact oV fU
   ·simp
  obtain⟨i1,i2,i3,i4⟩:=Hr (t:=e) e1 SY jm hrc hone
  obtain⟨i5,i6⟩:=Mr i1 key
  refine hnext _ _ _ ?_ i5 ((e2.trans i2).trans i6) i3
  simp only[aK]
  refine⟨w.heap.size,nc,some ⟨w.heap.size,0,none⟩,c9,?_,?_,?_,.inr rfl⟩
  ·simp[hn]
  ·simp only[aas];omega
  ·simp only[if_pos,sS];omega
end
end Go.cq
namespace Go.cq
section
variable {P : Program} {X : Ctx}
theorem bU.jf (hX:cx P X) {o:Oper} {env:Env} {σ:St} {t:TypeId} {x ix:Operand} (ho:o.op = .indexAddr t x ix) {i j:TI} {e:Nat} (hi:X.ti t=some i) (hk:i.kind = .slice e) (hj:X.ti e=some j)
  {key off s n:Nat} (ha:aL X env x=some (.gv key off s n)) (hs:j.size=s) {k:IntKind} {z:Int} (hz:aL X env ix=some (.c (.int k z))) {m:Nat} (hm:z=m) (hlt:m<n) :
  bU P X o env σ (.ptr key (off+m*s)) (fun σ=>σ) ⟨[],[]⟩:=by
 refine bU.val fun cV w g act h1 ij cy di=>?_
 have xP:aL X cV x=some (.gv key off s n):=by rw[h1 x kN];exact ha
 have ZH:aL X cV ix=some (.c (.int k z)):=by rw[h1 ix kN];exact hz
 have r1:=ct (a:=act) di cy xP
 simp only[aK]at r1
 obtain⟨b,cap,oo,IU,e1,hcap,_,Vt⟩:=r1
 have e4:=Bh (ct (a:=act) di cy ZH)
 obtain⟨d,jm,gZ,_⟩:=hX.run_underlying (w:=w) hi
 rw[hk]at gZ;simp only[eF]at gZ;subst gZ
 have hoff:oo=some ⟨b,off,none⟩:=by rcases Vt with h|h;omega;exact h
 subst hoff
 refine⟨.pointer (some ⟨b,off+m*j.size,none⟩),?_,by simp only[aK];exact⟨b,IU,by rw[hs]⟩⟩
 obtain⟨dst,op,type,pos,after,guard⟩:=o
 simp only at ho;subst ho
 simp[execOp,e1,e4,hm,Instr.indexAt,asIntOf,jm,hlt,hX.run_sizeOf hj,Addr.add_lit]
theorem bU.sliceB (hX:cx P X) {o:Oper} {env:Env} {σ:St} {t:TypeId} {x:Operand} {lo hi':Option Operand} (ho:o.op = .slice t x lo hi' none) {i j:TI} {e:Nat} (hi:X.ti t=some i) (hk:i.kind = .slice e) (hj:X.ti e=some j)
  {key off s n:Nat} (ha:aL X env x=some (.gv key off s n)) (hs:j.size=s) {l h:Option Nat} (hl:bound (aL X env) lo=some l) (hh:bound (aL X env) hi'=some h) (h1:h.getD n<=n) (h2:l.getD 0<=h.getD n) :
  bU P X o env σ (.gv key (off+l.getD 0*s) s (h.getD n-l.getD 0)) (fun σ=>σ) ⟨[],[]⟩:=by
 refine bU.val fun cV w g act hc ij cy di=>?_
 have xP:aL X cV x=some (.gv key off s n):=by rw[hc x kN];exact ha
 have hl':bound (aL X cV) lo=some l:=by
  rw[kJ lo (fun y hy=>hc y (by rw[ho];subst hy;simp[Op.operands]))];exact hl
 have hh':bound (aL X cV) hi'=some h:=by
  rw[kJ hi' (fun y hy=>hc y (by rw[ho];subst hy;simp[Op.operands]))];exact hh
 have r1:=ct (a:=act) di cy xP
 simp only[aK]at r1
 obtain⟨b,cap,oo,IU,e1,hcap,YE,Vt⟩:=r1
 have b1:=oq (g:=g) (ev:=act.eval) (fun x v hx=>ct di cy hx) hl'
 have b2:=oq (g:=g) (ev:=act.eval) (fun x v hx=>ct di cy hx) hh'
 have hb:∀w,(Instr.sliceBounds true n cap (lo.map act.eval) (hi'.map act.eval) none).run P w = .ok (l.getD 0,h.getD n,cap) w:=by
  intro w
  cases l with
  | none =>
   cases h with
   | none=>exact jY true b2 b1
   | some h=>exact lY true b2 b1 (Nat.le_trans h1 hcap)
  | some l =>
   cases h with
   | none=>exact jX true b2 b1 Ab
   | some h=>exact mM true b2 b1 (Nat.le_trans h1 hcap) Ab
 refine⟨.slice (if cap=l.getD 0 then oo else oo.map (·.add (l.getD 0*j.size))) (h.getD n-l.getD 0) (cap-l.getD 0),?_,?_⟩
 ·obtain⟨dst,op,type,pos,after,guard⟩:=o
  simp only at ho;subst ho
  have:=gu (w:=w) hX hi hk hj (base:=oo) hb
  simp[execOp,e1,this]
 ·simp only[aK]
  generalize l.getD 0=L at *
  generalize h.getD n=H at *
  have hmul:off+L*s+(cap-L)*s=off+cap*s:=by
   rw[Nat.add_assoc,<- Nat.add_mul];congr 2;omega
  by_cases jT:cap=L
  ·grind
  ·refine⟨b,cap-L,oo.map (·.add (L*j.size)),IU,by rw[if_neg jT],bn,bn,.inr ?_⟩
   rcases Vt with h0|h0
   ·omega
   ·rw[h0,Option.map_some,Addr.add_lit,hs]
end
end Go.cq
namespace Go.cq
theorem Gb {G:jk} {s:Nat}:∀{rows:List CV} {Y:List Value},ig s rows=true->bL G rows Y->bL G (bI rows) (flat s Y)/\(bI rows).all CV.one=true
 | [],Y,_,h=>by simp only[bL]at h;subst h;simp[bI,flat,bL]
 | r::rows,Y,W,h=>by
  simp only[bL]at h;obtain⟨u,us,rfl,h1,h2⟩:=h;obtain⟨C,H,p⟩:=qJ (nV W r c9) h1;have V:ig s rows=true:=by
   simp only[ig]at W;split at W
   ·exact W
   ·simp at W
  obtain⟨S,M⟩:=Gb V h2;exact⟨by simp only[bI,flat];exact eW H S,by simp only[bI,List.all_append,p,M];rfl⟩
section
variable {P : Program} {X : Ctx} {ops : Array Oper} {o : Oper} {rest : List Oper} {env : Env} {acc : List Fp} {Q : Env -> St -> List Fp -> Prop} {bs : List (Nat × List AV)} {ts : List (Nat × Nat)} {us : List Nat} {σ : St}
theorem ai.jf (hX:cx P X) (kn:List Nat) (hg:cU ops.toList kn env o=some true) {t:TypeId} {x ix:Operand} (ho:o.op = .indexAddr t x ix) {d:Nat} (hd:o.dst=some d) {i j:TI} {e:Nat} (hi:X.ti t=some i) (hk:i.kind = .slice e) (hj:X.ti e=some j)
  {key off s n:Nat} (ha:aL X env x=some (.gv key off s n)) (hs:j.size=s) {k0:IntKind} {z:Int} (hz:aL X env ix=some (.c (.int k0 z))) (m:Nat) (hm:z=m) (hlt:m<n)
  (k:ai P X ops rest ((d,.ptr key (off+m*s))::env) σ (⟨[],[]⟩::acc) Q):ai P X ops (o::rest) env σ acc Q :=
 ai.step (dj hg) (bU.jf hX ho hi hk hj ha hs hz hm hlt) (gR.id _) tN
theorem ai.sliceB (hX:cx P X) (kn:List Nat) (E:cU ops.toList kn env o=some true) {t:TypeId} {x:Operand} {S H:Option Operand} (p:o.op = .slice t x S H none) {d:Nat} (Y:o.dst=some d) {i j:TI} {e:Nat} (W:X.ti t=some i) (D:i.kind = .slice e) (V:X.ti e=some j)
  {u off s n:Nat} (C:aL X env x=some (.gv u off s n)) (G:j.size=s) {l h:Option Nat} (A:bound (aL X env) S=some l) (U:bound (aL X env) H=some h) (h1:h.getD n<=n) (h2:l.getD 0<=h.getD n)
  (k:ai P X ops rest ((d,.gv u (off+l.getD 0*s) s (h.getD n-l.getD 0))::env) σ (⟨[],[]⟩::acc) Q):ai P X ops (o::rest) env σ acc Q :=
 ai.step (dj E) (bU.sliceB hX p W D V C G A U h1 h2) (gR.id _) (by rw[Y];exact k)
theorem ai.gE (hX:cx P X) (kn:List Nat) (E:cU ops.toList kn env o=some true) {t:TypeId} {x:Operand} (p:o.op = .load t x) {d:Nat} (H:o.dst=some d) {i:TI} (I:X.ti t=some i) {u off:Nat} (O:aL X env x=some (.ptr u off))
  {cells r:List AV} (G:ak u bs=some cells) (V:gr off cells=some r) {v:AV} (U:xe i r=some v)
  (k:ai P X ops rest ((d,v)::env) ⟨bs,ts,us⟩ (⟨[u],[]⟩::acc) Q):ai P X ops (o::rest) env ⟨bs,ts,us⟩ acc Q:=by
 have Y:gH X bs (aL X env) o.op=some v:=by rw[p];simp only[gH,I,O,G,V,U]
 have:=ai.step (Q:=Q) (rest:=rest) (acc:=acc) (dj E) (bU.pure (σ:=⟨bs,ts,us⟩) hX Y) (gR.id _);rw[H,p]at this;have W:lQ (aL X env) (.load t x)=[u]:=by simp only[lQ,O]
 rw[W]at this;exact this k
theorem ai.vW (hX:cx P X) (kn:List Nat) (H:cU ops.toList kn env o=some true) {args:Array Operand} {E:Array TypeId} (p:o.op = .call {callee := .builtin .append,args:=args,argTypes:=E})
  {xs y:Operand} (U:args.toList=[xs,y]) {t K:Nat} (G:E.toList=[t,K]) {d:Nat} (D:o.dst=some d) (B:Nat.blt d 1000000=true)
  {i j J:TI} {e:Nat} (C:X.ti t=some i) (A:i.kind = .slice e) (u:X.ti e=some j) {za:AV} (hz:j.zero=some za) (V:X.ti K=some J) (qt:kY J.kind=true)
  {s:Nat} {rows:List CV} (ha:aL X env xs=some (.own .exact s rows)) {b:AV} (hb:aL X env y=some b) {I:Nat} {bZ:List CV} (W:mQ b=some (I,bZ))
  {sz:Nat} (T:j.size=sz) (hs:fQ s sz rows=true) (rS:fQ I sz bZ=true) (q:bZ≠[]) (hu:mem d us=false) {S:Nat} (O:j.bytes=S) (N:Nat.ble 1 S=true) (Y:(rows.length+bZ.length)*S<=140737488355328)
  {cs:List CV} (M:rows++bZ=cs) {m:Nat} (hm:cs.length=m)
  (k:ai P X ops rest ((d,.gv d 0 sz m)::env) ⟨(d,ah cs)::bs,ts,d::us⟩ (⟨[],[d]⟩::acc) Q):ai P X ops (o::rest) env ⟨bs,ts,us⟩ acc Q:=by
 subst T O M hm;exact ai.step (dj H) (bU.vW (σ:=⟨bs,ts,us⟩) hX p U G (Nat.blt_eq.mp B) C A u hz V qt ha hb W hs rS q hu N Y) (pZ d _) (by rw[D];exact k)
theorem ai.mL (hX:cx P X) (kn:List Nat) (D:cU ops.toList kn env o=some true) {args:Array Operand} {E:Array TypeId} (p:o.op = .call {callee := .builtin .append,args:=args,argTypes:=E})
  {xs y:Operand} (U:args.toList=[xs,y]) {t I:Nat} (C:E.toList=[t,I]) {d:Nat} (B:o.dst=some d) (A:Nat.blt d 1000000=true)
  {i j H:TI} {e:Nat} (q:X.ti t=some i) (hk:i.kind = .slice e) (hj:X.ti e=some j) {za:AV} (hz:j.zero=some za) (T:X.ti I=some H) (qt:kY H.kind=true)
  {sz:Nat} (S:j.size=sz) {u n:Nat} (ha:aL X env xs=some (.gv u 0 sz n)) {cells:List AV} (z8:ak u bs=some cells) (rows:List CV) (tail:List AV) (iQ:cells=ah rows++tail) (hn:n=rows.length) (O:(bI rows).length=n*sz)
  {b:AV} (hb:aL X env y=some b) {G:Nat} {bZ:List CV} (W:mQ b=some (G,bZ))
  (rS:fQ G sz bZ=true) (hu:mem d us=false) (V:Nat.beq d u=false) {N:Nat} (M:j.bytes=N) (K:Nat.ble 1 N=true) (Y:(rows.length+bZ.length)*N<=140737488355328)
  {cs:List CV} (J:rows++bZ=cs) {m:Nat} (hm:cs.length=m) {bs':List (Nat×List AV)} (ke:BT u bs=bs')
  (k:ai P X ops rest ((d,.gv d 0 sz m)::env) ⟨(d,ah cs)::bs',ts,d::us⟩ (⟨[],[d,u]⟩::acc) Q):ai P X ops (o::rest) env ⟨bs,ts,us⟩ acc Q:=by
 subst S M J hm ke
 refine ai.step (dj D) (bU.mL (σ:=⟨bs,ts,us⟩) hX p U C (Nat.blt_eq.mp A) q hk hj hz T qt ha z8 iQ hn O hb W rS hu K Y) (J3 d u _ (beq_false V)) (by
  rw[B];have:((⟨bs,ts,us⟩:St).dX d (ah (rows++bZ))).eH u=⟨(d,ah (rows++bZ))::BT u bs,ts,d::us⟩:=by
   simp only[St.eH,St.dX,BT,V]
  rw[this];exact k)
end
end Go.cq
namespace Go.cq
section
variable {P : Program} {X : Ctx}
theorem bU.iL (hX:cx P X) {o:Oper} {env:Env} {σ:St} {t:TypeId} {Y:Nat} {H:Array (Nat×Operand)} (K:o.op = .buildSlice t Y H) {d:Nat} (jm:d<1000000) (hu:mem d σ.used=false)
  {i j:TI} {e:Nat} (hi:X.ti t=some i) (hk:i.kind = .slice e) (J:X.ti e=some j) {za:AV} (hz:j.zero=some za) {rows:List CV} (I:iK (aL X env) 0 H.toList=some rows)
  (hl:Nat.beq rows.length Y=true) (hs:ig j.size rows=true) (hb:Nat.ble (Y*j.size) 16777216=true) :
  bU P X o env σ (.gv d 0 j.size Y) (fun σ=>σ.dX d (ah rows)) ⟨[],[d]⟩:=by
 intro cV G w g W next Q h1 h2 T cy di A;have Af:iK (aL X cV) 0 H.toList=some rows:=by
  rw[qf _ _ (fun p I=>h1 p.2 (by rw[K];simp only[Op.operands,List.mem_map];exact⟨p,I,rfl⟩))];exact I
 obtain⟨E,c2⟩:=vi (g:=g) (ev:=W.eval) (fun x v C=>ct di cy C) Af;have S:=beq_true hl;have hne:j.size≠0:=by obtain⟨_,_,_,_,_,_,hh⟩:=hX.ti e j J;exact hh
 obtain⟨dd,BV,B,_⟩:=hX.run_underlying (w:=w) hi;rw[hk]at B;simp only[eF]at B;subst B;obtain⟨z,z1,z2,z3⟩:=hX.lP (w:=w) J hz;have O:∀v∈(H.toList.map fun p=>W.eval p.2),v.cells.size=j.size:=by
  intro v hv;obtain⟨m,hm⟩:=List.getElem?_of_mem hv;obtain⟨l1,l2⟩:=bL.get E;have N:m<rows.length:=by rw[l1];exact(List.getElem?_eq_some_iff.1 hm).1
  obtain⟨u,e1,e2⟩:=l2 m rows[m] (by simp[N]);rw[hm]at e1;simp at e1;subst e1;obtain⟨a1,a2,_⟩:=qJ (nV hs rows[m] (List.getElem_mem N)) e2;have:=(bL.get a2).1;simp at this;omega
 have U:(H.toList.map fun p=>W.eval p.2).length=Y:=by rw[<- (bL.get E).1];exact S
 obtain⟨V,r1,r2,r3⟩:=Aw j.size (H.toList.map fun p=>W.eval p.2) 0 ((Array.range (Y*j.size)).map (z.cells[· % z.cells.size]!)) O (by simp at U ⊢;rw[U];exact aak _);have D:(execOp W.eval o).run P w = .ok (.value (.slice (some ⟨w.heap.size,0,none⟩) Y Y)) {w with heap:=w.heap.push (.cells V e)}:=by
  obtain⟨dst,op,type,pos,after,guard⟩:=o;simp only at K;subst K;have zP:¬(2^24<Y*j.size):=by have:=Nat.le_of_ble_eq_true hb;omega
  have JT:∀zc:Array Value,(Array.range (Y*j.size)).map (fun x=>zc[x%zc.size]!)=(Array.range (Y*j.size)).map (fun x=>z.cells[x%z.cells.size]!) ->
    Instr.fill (fun i=>some (i*j.size,j.size)) ((Array.range (Y*j.size)).map (fun x=>zc[x%zc.size]!)) (H.map fun x=>(x.1,W.eval x.2)).toList=some V:=by
   intro zc q2;rw[q2,Array.toList_map];have ZI:(H.toList.map fun x=>(x.1,W.eval x.2))=_:=c2;rw[ZI];exact r1
  simp only[execOp,Instr.buildSlice,Sem.run_bind,BV,Result.andThen_ok,hX.run_sizeOf J];rw[if_neg (by simpa using zP)];by_cases h0:Y*j.size=0
  ·rw[if_pos h0];simp only[Sem.run_bind,Sem.run_pure,Result.andThen_ok];rw[JT #[] (by rw[h0];simp)];simp[newRow]
  ·rw[if_neg h0];simp only[Sem.run_bind,Sem.run_pure,Result.andThen_ok,z1];rw[JT z.cells rfl];simp[newRow]
 unfold Oper.wp;rw[D,Oper.upon_value];have SY:d ∉ G.used:=fun h=>cS hu ((h2 d (.inr c9)).2.2.1 h);obtain⟨f1,f2⟩:=Gb hs E;have hfl:(flat j.size (H.toList.map fun p=>W.eval p.2)).length=Y*j.size:=by
  have:∀l:List Value,(∀v∈l,v.cells.size=j.size)->(flat j.size l).length=l.length*j.size:=by
   intro l
   induction l with
   | nil=>intro _;simp[flat]
   | cons v l ih =>
    intro h;simp only[flat,aas,ih (fun x C=>h x (by simp[C])),aac,Nat.succ_mul];have:=h v c9;simp;omega
  rw[this _ O,U]
 have hsz:V.size=Y*j.size:=by rw[r2];simp
 have M:V.toList=flat j.size (H.toList.map fun p=>W.eval p.2):=by
  apply List.ext_getElem?;intro q;have:=r3 q;simp only[Nat.zero_mul,Nat.zero_add,Nat.sub_zero,Nat.zero_le,true_and]at this;rw[Array.getElem?_toList,this];by_cases hq:q<(flat j.size (H.toList.map fun p=>W.eval p.2)).length
  ·rw[if_pos hq]
  ·simp_all
 obtain⟨i1,i2,i3,i4⟩:=Mg (us:=V) (t:=e) (cells:=ah rows) T SY jm (by rw[M];exact oV f1) (by rw[sD];exact f2);refine A _ _ _ ?_ i1 i2 i3;simp only[aK];exact⟨w.heap.size,Y,some ⟨w.heap.size,0,none⟩,c9,rfl,aak _,by simp only[if_pos,hsz];omega,.inr rfl⟩
end
section
variable {P : Program} {X : Ctx} {ops : Array Oper} {o : Oper} {rest : List Oper} {env : Env} {acc : List Fp} {Q : Env -> St -> List Fp -> Prop} {bs : List (Nat × List AV)} {ts : List (Nat × Nat)} {us : List Nat}
theorem ai.iL (hX:cx P X) (kn:List Nat) (hg:cU ops.toList kn env o=some true) {t:TypeId} {len:Nat} {parts:Array (Nat×Operand)} (ho:o.op = .buildSlice t len parts) {d:Nat} (hd:o.dst=some d) (jm:Nat.blt d 1000000=true) (hu:mem d us=false)
  {i j:TI} {e:Nat} (hi:X.ti t=some i) (hk:i.kind = .slice e) (hj:X.ti e=some j) {za:AV} (hz:j.zero=some za) {rows:List CV} (hp:iK (aL X env) 0 parts.toList=some rows)
  (hl:Nat.beq rows.length len=true) {s:Nat} (hsz:j.size=s) (hs:ig s rows=true) (hb:Nat.ble (len*s) 16777216=true)
  (k:ai P X ops rest ((d,.gv d 0 s len)::env) ⟨(d,ah rows)::bs,ts,d::us⟩ (⟨[],[d]⟩::acc) Q):ai P X ops (o::rest) env ⟨bs,ts,us⟩ acc Q:=by
 subst hsz
 exact ai.step (dj hg) (bU.iL (σ:=⟨bs,ts,us⟩) hX ho (Nat.blt_eq.mp jm) hu hi hk hj hz hp hl hs hb) (pZ d _) tN
end
end Go.cq
