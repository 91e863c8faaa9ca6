/- A layer of abstract values over the model, part C: Rows of cells as one row of values; appending to a slice whose spare room is one's own. The operation append. The ghost's names turned: boxes and tokens under other keys. Calls with boxes and with slices that may be appended to: what is handed over, -/
import Derived.Test.YtlohbilpimjmmaaGreatDoorLibB
import Derived.Laws.AppendOwn
import Derived.Laws.IdiomStrings
set_option linter.unusedSimpArgs false
set_option linter.unusedVariables false
namespace Go.cu
def bK:List CV->List CV
 | []=>[]
 | r::rs=>r.cells++bK rs
theorem wX {G:jm} {b:Nat}:∀{o:Nat} {a c:List CV},cO G b o (a++c)↔cO G b o a/\cO G b (o+a.length) c
 | o,[],c=>by simp[cO]
 | o,x::a,c=>by
  simp only[List.cons_append,cO,wX (a:=a),aaa,and_assoc];rw[show o+(a.length+1)=o+1+a.length from by omega]
theorem o9 {G:jm} {s b:Nat}:∀{o:Nat} {rows:List CV},ff G s b o rows↔cO G b o (bK rows)/\∀r∈rows,r.cells.length=s
 | o,[]=>by simp[ff,bK,cO]
 | o,r::rs=>by
  simp only[ff,bK,wX,yL,o9 (rows:=rs),List.mem_cons,forall_eq_or_imp];constructor
  ·simp_all
  ·grind
theorem dh {s:Nat}:∀{rows:List CV},(∀r∈rows,r.cells.length=s)->(bK rows).length=rows.length*s
 | [],_=>by simp[bK]
 | r::rs,h=>by
  simp only[bK,aax,aaa,h r cn,dh (rows:=rs) (fun x O=>h x (by simp[O])),Nat.add_mul];omega
theorem dB:∀(a c:List CV),bK (a++c)=bK a++bK c
 | [],c=>by simp[bK]
 | r::a,c=>by simp[bK,dB a c]
theorem ve {G:jm} {b:Nat}:∀{o:Nat} {cs:List CV},cO G b o cs->∃vs:List Value,bO G cs vs/\(∀(j:Nat) u,vs[j]?=some u->G b (o+j)=some u)/\cs.all CV.one=true
 | o,[],_=>⟨[],by simp[bO],cn,rfl⟩
 | o,c::cs,h=>by
  simp only[cO]at h;obtain⟨⟨u,h1,h2,V⟩,h4⟩:=h;obtain⟨vs,q,Y,C⟩:=ve h4;refine⟨u::vs,by simp only[bO];exact⟨_,_,rfl,h2,q⟩,?_,by simp[V,C]⟩;intro j x P;cases j with
  | zero=>simp at P;subst P;simpa using h1
  | succ j=>simp at P;have:=Y j x P;rwa[show o+(j+1)=o+1+j from by omega]
theorem mK {G:jm} {b:Nat}:∀{o:Nat} {cs:List CV} {vs:List Value},bO G cs vs->(∀(j:Nat) u,vs[j]?=some u->G b (o+j)=some u)->cs.all CV.one=true->cO G b o cs
 | o,[],_,_,_,_=>trivial
 | o,c::cs,vs,h,C,q=>by
  simp only[bO]at h;obtain⟨u,us,rfl,h1,h2⟩:=h;simp only[List.all_cons,aaj]at q;refine⟨⟨u,by simpa using C 0 u cn,h1,q.1⟩,mK h2 (fun j x P=>?_) q.2⟩;have:=C (j+1) x (by simpa using P);rwa[show o+(j+1)=o+1+j from by omega]at this
theorem mD {G:jm}:∀{cs:List CV} {vs:List Value},bO G cs vs->cs.all CV.one=true->∀u∈vs,u.oneCell'=true
 | [],vs,h,_,u,hu=>by simp only[bO]at h;subst h;simp at hu
 | c::cs,vs,h,ho,u,hu=>by
  simp only[bO]at h
  obtain⟨x,us,rfl,h1,h2⟩:=h
  simp only[List.all_cons,aaj]at ho
  rcases List.mem_cons.1 hu with rfl|hu
  ·exact uY (g:=⟨G,fun _=>none,fun _=>none,fun _=>0⟩) (a := .c c) ho.1 RI
  ·exact mD h2 ho.2 u hu
def mL:AV->Option (Nat×List CV)
 | .own _ s rows=>some (s,rows)
 | .c (.sl s rows)=>some (s,rows)
 | .c (.str l)=>some (1,l.map fun b => .int .u8 b.toNat)
 | _=>none
def fT (s t:Nat) (rows:List CV):Bool:=match Nat.beq s t with
 | true=>true
 | false=>match rows with
  | []=>true
  | _=>false
theorem nT {s t:Nat} {rows:List CV} (h:fT s t rows=true):s=t\/rows=[]:=by
 unfold fT at h;split at h
 ·simp_all
 ·grind
theorem xJ:∀(l:List UInt8),bK (l.map fun b=>CV.int .u8 b.toNat)=l.map fun b=>CV.int .u8 b.toNat
 | []=>rfl
 | b::l=>by simp[bK,CV.cells,xJ l]
section
variable {P : Program} {X : Ctx} {w : World} {g : Gh}
theorem Dq (G:jm):∀(l:List UInt8),bO G (l.map fun b=>CV.int .u8 b.toNat) (l.map fun b=>Value.int .u8 b.toNat)
 | []=>by simp[bO]
 | b::l=>by simp only[List.map_cons,bO];exact⟨_,_,rfl,TS,Dq G l⟩
theorem v8 {w:World} (D:∀b o v,g.G b o=some v->w.cell? ⟨b,o,none⟩=some v) {s t:Nat} {base:Option Addr} {rows:List CV} (I:kD g.G s base rows) (Y:fT s t rows=true) (V E:Nat) (C:V=rows.length) :
  ∃news:List Value,bO g.G (bK rows) news/\(∀r∈rows,r.cells.length=t)/\(bK rows).all CV.one=true/\(Builtin.firstCells t V (.slice base V E)).run P w = .ok news.toArray w:=by
 rcases I with rfl|⟨b,o,rfl,I⟩
 ·refine⟨[],by simp[bK,bO],cn,rfl,?_⟩;simp at C;subst C;cases base with
  | none=>simp[Builtin.firstCells]
  | some a=>exact run_firstCells_some w t 0 a 0 E [] cn cn
 ·rcases nT Y with rfl|rfl
  ·rw[o9]at I;obtain⟨vs,h1,h2,W⟩:=ve I.1;refine⟨vs,h1,I.2,W,?_⟩;refine run_firstCells_some w s V _ V E vs ?_ ?_
   ·rw[<- (bO.get h1).1,dh I.2,C]
   ·intro j v U;rw[Addr.add_lit];exact D _ _ _ (h2 j v U)
  ·refine⟨[],by simp[bK,bO],cn,rfl,?_⟩;simp at C;subst C;exact run_firstCells_some w t 0 _ 0 E [] cn cn
theorem qe {w:World} (D:∀b o v,g.G b o=some v->w.cell? ⟨b,o,none⟩=some v) {a:AV} {s t:Nat} {rows:List CV} (p:mL a=some (s,rows)) (W:fT s t rows=true) {x:Value} (O:aJ g a x) :
  (∃news:List Value,bO g.G (bK rows) news/\(∀r∈rows,r.cells.length=t)/\(bK rows).all CV.one=true/\(Builtin.firstCells t rows.length x).run P w = .ok news.toArray w)/\(Builtin.lenOf x).run P w = .ok rows.length w:=by
 unfold mL at p;split at p<;>simp at p
 ·obtain⟨rfl,rfl⟩:=p;simp only[aJ]at O;obtain⟨base,V,E,rfl,h1,h2,U,N⟩:=O;obtain⟨news,K,T,S,Q⟩:=v8 (P:=P) D U W V E h1;exact⟨⟨news,K,T,S,by rw[<- h1];exact Q⟩,by simp[Builtin.lenOf,h1]⟩
 ·obtain⟨rfl,rfl⟩:=p;simp only[aJ,Rel]at O;obtain⟨base,V,E,rfl,h1,h2,U⟩:=O;obtain⟨news,K,T,S,Q⟩:=v8 (P:=P) D U W V E h1;exact⟨⟨news,K,T,S,by rw[<- h1];exact Q⟩,by simp[Builtin.lenOf,h1]⟩
 ·rename_i l;obtain⟨rfl,rfl⟩:=p;simp only[aJ,Rel]at O;subst O;have Y:((l.map fun b=>CV.int .u8 b.toNat).all CV.one)=true:=by simp[CV.one]
  have M:t=1\/l=[]:=by
   rcases nT W with h|h
   ·exact .inl h.symm
   ·right;simpa using h
  refine⟨⟨l.map fun b=>Value.int .u8 b.toNat,by rw[xJ];exact Dq _ l,?_,by rw[xJ];exact Y,?_⟩,?_⟩
  ·intro r I;rcases M with rfl|rfl
   ·simp at I;obtain⟨b,_,rfl⟩:=I;rfl
   ·simp at I
  ·simp only[Builtin.firstCells,Sem.run_pure,List.length_map];congr 1;have:(ByteArray.mk l.toArray).extract 0 l.length=⟨l.toArray⟩:=by rw[extract_mk];simp
   rw[this];simp
  ·simp[Builtin.lenOf,ByteArray.size]
theorem yU (hX:cC P X) {t:Nat} {i:TI} (W:X.ti t=some i) (D:(match i.kind with | .slice _ | .str=>true|_=>false)=true) (w:World) :
  ∃d,P.underlying t=some d/\(d = .string\/∃e,d = .slice e):=by
 obtain⟨d,h1,h2,V⟩:=hX.run_underlying (w:=w) W;refine⟨d,V,?_⟩;split at D
 ·rename_i e Y;rw[Y]at h2;simp only[eG]at h2;exact .inr ⟨e,h2⟩
 ·rename_i Y;rw[Y]at h2;simp only[eG]at h2;exact .inl h2
 ·simp at D
theorem kT {t N ty e:TypeId} {O:TypeDesc} (M:P.underlying t=some (.slice e)) (h1:P.underlying N=some O) (H:O = .string\/∃e,O = .slice e) {i:TypeInfo} (W:P.info? e=some i)
  {base:Option Addr} {sLen sCap n:Nat} {x:Value} {news:List Value} (C:(Builtin.lenOf x).run P w = .ok n w) (hf:(Builtin.firstCells i.size n x).run P w = .ok news.toArray w) (U:sLen+n<=sCap)
  {w':World} (T:match (motive:=Option Addr->Prop) base with|some a=>(storeCells (a.add (sLen*i.size)) news).run P w = .ok () w'|none=>w'=w) :
  (Builtin.append_ #[t,N] ty #[.slice base sLen sCap,x]).run P w = .ok (.slice base (sLen+n) sCap) w':=by
 rcases H with rfl|⟨A,rfl⟩
 all_goals
  cases base with
  | none =>
   simp only at T;subst T;simp[Builtin.append_,run_underlying M,run_underlying h1,sizeOf,typeInfo,W,C,U,hf]
  | some a =>
   simp only at T;simp[Builtin.append_,run_underlying M,run_underlying h1,sizeOf,typeInfo,W,C,U,hf,T]
theorem nD {t U ty e:TypeId} {O:TypeDesc} (M:P.underlying t=some (.slice e)) (h1:P.underlying U=some O) (H:O = .string\/∃e,O = .slice e) {i:TypeInfo} (I:P.info? e=some i) {z:Value} (T:i.zero=some z)
  {base:Option Addr} {sLen sCap n:Nat} {x:Value} {olds news:List Value} (C:(Builtin.lenOf x).run P w = .ok n w) (hf:(Builtin.firstCells i.size n x).run P w.drew = .ok news.toArray w.drew)
  (W:(Builtin.firstCells i.size sLen (.slice base sLen sCap)).run P w.drew = .ok olds.toArray w.drew) (Q:sCap<sLen+n) (S:sLen+n<=140737488355328) (p:(sLen+n)*i.bytes<=140737488355328) :
  (Builtin.append_ #[t,U] ty #[.slice base sLen sCap,x]).run P w =
   .ok (.slice (some ⟨w.heap.size,0,none⟩) (sLen+n) (grownCap w (sLen+n) sCap e))
    (w.drew.alloc (.cells (olds.toArray++news.toArray++Builtin.zeroCells z.cells (grownCap w (sLen+n) sCap e-(sLen+n))) e)):=by
 have N:¬(sLen+n<=sCap):=by omega
 have Y:¬(9223372036854775807<((sLen:Int)+(n:Int))):=by omega
 have V:¬(281474976710656<Builtin.nextslicecap (sLen+n) sCap*i.bytes):=by have:=growslice_fits Q p;omega
 rcases H with rfl|⟨A,rfl⟩
 all_goals
  simp[Builtin.append_,run_underlying M,run_underlying h1,sizeOf,typeInfo,zeroValue,I,T,C,N,Y,V,Question.forced,hf,W,newRow,grownCap];congr 2;apply Array.ext';simp[List.append_assoc]
theorem Xs {w:World} {g:Gh} {σ:St} (hinv:Inv w g σ) (us:Array Value) (t:TypeId) (k:Nat) (hk:k<=us.size) (key n:Nat) (hkey:key ∉ σ.used\/∃n0,ak key σ.toks=some n0/\n0<n) (w':World) (US:w'={w with heap:=w.heap.push (.cells us t),drawn:=w'.drawn}) :
  let g':Gh:=⟨fun b o=>if b=w.heap.size/\o<k then us[o]? else g.G b o,g.box,fun j=>if j=key then some (n,some (w.heap.size,k,us.size))else g.tok j,g.room⟩
  let σ':St:=⟨σ.boxes,tZ key n σ.toks,key::σ.used⟩
  Inv w' g' σ'/\gW w g σ w' g' σ'/\g.le g':=by
 intro g' σ'
 have N6:w'.heap=w.heap.push (.cells us t):=by rw[US]
 have FP:∀b o,b<w.heap.size->w'.cell? ⟨b,o,none⟩=w.cell? ⟨b,o,none⟩/\w'.frozen? ⟨b,o,none⟩=w.frozen? ⟨b,o,none⟩:=by
  intro b o hb
  simp only[World.cell?,World.frozen?,N6]
  rw[Array.getElem?_push,if_neg bn]
  exact⟨rfl,rfl⟩
 have SC:∀o,w'.cell? ⟨w.heap.size,o,none⟩=us[o]?/\w'.frozen? ⟨w.heap.size,o,none⟩=false:=by
  intro o
  simp only[World.cell?,World.frozen?,N6]
  rw[Array.getElem?_push,if_pos rfl]
  simp
 have hsz:w'.heap.size=w.heap.size+1:=by rw[N6];simp
 have Hf:∀b o v,g.G b o=some v->b<w.heap.size:=fun b o v h=>World.block_lt_of_cell? w ⟨b,o,none⟩ (hinv.oF b o v h)
 have UZ:∀hw fU,g.tok key=some (hw,fU)->hw<n:=by
  intro hw fU e
  rcases hkey with hkey|⟨n0,h1,h2⟩
  ·exact absurd (hinv.used key (.inr (by rw[e];simp))) hkey
  ·obtain⟨Da,h3,_⟩:=hinv.tok key n0 h1
   rw[e]at h3;simp at h3;omega
 have hle:g.le g':=by
  refine⟨fun b o v h=>?_,fun _ _ h=>h,fun _ _ _=>rfl,fun j hw fU h=>?_⟩
  ·have:=Hf b o v h
   simp only[g'];rw[if_neg bn];exact h
  ·simp only[g']
   split
   ·rename_i hj;subst hj
    have:=UZ hw fU h
    exact⟨n,_,rfl,bn,bn⟩
   ·exact⟨hw,fU,h,aam _,fun _=>rfl⟩
 have Hj:∀b o,b<w.heap.size->g'.G b o=g.G b o:=by
  intro b o hb;simp only[g'];rw[if_neg bn]
 have pR:w'.os=w.os/\w'.tape=w.tape/\w'.output=w.output:=by rw[US];exact⟨rfl,rfl,rfl⟩
 refine⟨⟨?_,?_,hinv.fF,?_,?_,?_,hinv.Aa fun k cs b _ _ hb o=>FP b o hb⟩,⟨pR.1,pR.2.1,pR.2.2,bn,fun b hb _=>by rw[N6,Array.getElem?_push,if_neg bn],fun b o hb _=>FP b o hb,hle.1,?_,?_,?_,fun _ _ h=>⟨h,rfl,rfl⟩⟩,hle⟩
 ·intro b o v h
  simp only[g']at h
  split at h
  ·rename_i hb;obtain⟨rfl,_⟩:=hb;rw[(SC o).1];exact h
  ·rw[(FP b o (Hf b o v h)).1];exact hinv.oF b o v h
 ·intro k cs e
  obtain⟨b,h1,h2,h3,h4⟩:=hinv.box k cs e
  exact⟨b,h1,bn,fun o=>by rw[Hj b o h2];exact h3 o,(cy.of_same (fun o=>FP b o h2) h4).mono hle⟩
 ·intro j m e
  simp only[σ',ez]at e
  simp only[g']
  split at e
  ·rename_i hj;subst hj
   simp at e;subst e
   rw[if_pos rfl]
   refine⟨_,rfl,fun b lo hi hr=>?_⟩
   simp at hr;obtain⟨rfl,rfl,rfl⟩:=hr
   refine⟨bn,fun o h1 h2=>⟨?_,⟨us[o],?_⟩,(SC o).2⟩,fun k' cs e' he=>?_⟩
   ·rw[if_neg bn]
    cases hg:g.G w.heap.size o with
    | none=>rfl
    | some v=>have:=Hf _ _ _ hg;omega
   ·rw[(SC o).1];simp[h2]
   ·obtain⟨b',f1,f2,_⟩:=hinv.box k' cs e'
    rw[f1]at he;simp at he;omega
  ·rename_i hj
   rw[if_neg hj]
   obtain⟨fU,h1,h2⟩:=hinv.tok j m e
   refine⟨fU,h1,fun b lo hi hr=>?_⟩
   obtain⟨h3,h4,h5⟩:=h2 b lo hi hr
   refine⟨bn,fun o IK Lq=>?_,h5⟩
   obtain⟨h6,⟨u,h7⟩,h8⟩:=h4 o IK Lq
   exact⟨R3,⟨u,(FP b o h3).1.trans h7⟩,(FP b o h3).2.trans h8⟩
 ·intro j j' m m' b lo hi lo' hi' e e' e1 e2
  simp only[σ',ez]at e e'
  simp only[g']at e1 e2
  split at e
  ·rename_i hj;subst hj
   rw[if_pos rfl]at e1
   simp at e1;obtain⟨_,rfl,_,_⟩:=e1
   split at e'
   ·rename_i hj';exact hj'.symm
   ·rename_i hj'
    rw[if_neg hj']at e2
    obtain⟨fU,h1,h2⟩:=hinv.tok j' m' e'
    rw[e2]at h1;simp at h1
    have:=(h2 _ _ _ h1.symm).1
    omega
  ·rename_i hj
   rw[if_neg hj]at e1
   split at e'
   ·rename_i hj';subst hj'
    rw[if_pos rfl]at e2
    simp at e2;obtain⟨_,rfl,_,_⟩:=e2
    obtain⟨fU,h1,h2⟩:=hinv.tok j m e
    rw[e1]at h1;simp at h1
    have:=(h2 _ _ _ h1.symm).1
    omega
   ·rename_i hj'
    rw[if_neg hj']at e2
    exact hinv.gA j j' m m' b lo hi lo' hi' e e' e1 e2
 ·intro j e
  simp only[σ',List.mem_cons]
  by_cases hj:j=key
  ·exact .inl hj
  ·right;apply hinv.used j;simpa[g',hj]using e
 ·intro b o v h
  simp only[g']at h
  split at h
  ·rename_i hb;right;left;omega
  ·exact .inl h
 ·exact fun k cs b h1 h2 => .inr ⟨k,cs,h1,h2⟩
 ·intro j m b lo hi e1 e2
  simp only[σ',ez]at e1
  simp only[g']at e2
  split at e1
  ·rename_i hj;subst hj
   rw[if_pos rfl]at e2
   simp at e2;left;omega
  ·rename_i hj
   rw[if_neg hj]at e2
   exact .inr ⟨j,m,lo,hi,e1,e2,aam _,aam _⟩
theorem U0 {w:World} {g:Gh} {σ:St} (p:Inv w g σ) (T n:Nat) (C:Option (Nat×Nat×Nat)) (q:(T ∉ σ.used/\C=none)\/∃Q,g.tok T=some (Q,C)/\ak T σ.toks=some Q/\Q<n) :
  let g':Gh:=⟨g.G,g.box,fun j=>if j=T then some (n,C)else g.tok j,g.room⟩
  let D:St:=⟨σ.boxes,tZ T n σ.toks,T::σ.used⟩
  Inv w g' D/\gW w g σ w g' D/\g.le g':=by
 intro g' D;have V:g.le g':=by
  refine⟨jm.le.refl _,fun _ _ h=>h,fun _ _ _=>rfl,fun j hw r h=>?_⟩;simp only[g'];split
  ·rename_i P;subst P;rcases q with ⟨q,_⟩|⟨Q,h1,h2,K⟩
   ·exact absurd (p.used j (.inr (by rw[h];simp))) q
   ·grind
  ·grind
 refine⟨⟨p.oF,?_,p.fF,?_,?_,?_,p.room⟩,⟨rfl,rfl,rfl,aam _,fun _ _ _=>rfl,fun _ _ _ _=>⟨rfl,rfl⟩,jm.le.refl _,fun _ _ _ h => .inl h,fun k cs b h1 h2 => .inr ⟨k,cs,h1,h2⟩,?_,fun _ _ h=>⟨h,rfl,rfl⟩⟩,V⟩
 ·intro k cs e;obtain⟨b,h1,h2,K,h4⟩:=p.box k cs e;exact⟨b,h1,h2,K,h4.mono V⟩
 ·intro j m e;simp only[D,ez]at e;simp only[g'];split at e
  ·rename_i P;subst P;simp at e;subst e;rw[if_pos rfl];refine⟨_,rfl,fun b S W B=>?_⟩;rcases q with ⟨_,rfl⟩|⟨Q,h1,h2,K⟩
   ·simp at B
   ·obtain⟨Da,U,J⟩:=p.tok j Q h2;rw[h1]at U;simp at U;subst U;exact J b S W B
  ·rename_i P;rw[if_neg P];exact p.tok j m e
 ·intro j u m m' b S W O N e e' A E;have Y:∀j m b S W,ak j D.toks=some m->g'.tok j=some (m,some (b,S,W))->∃M,ak j σ.toks=some M/\g.tok j=some (M,some (b,S,W)):=by
   intro j m b S W e A;simp only[D,ez]at e;simp only[g']at A;split at e
   ·grind
   ·simp_all
  obtain⟨M,U,J⟩:=Y j m b S W e A;obtain⟨I,Zw,H⟩:=Y u m' b O N e' E;exact p.gA j u M I b S W O N U Zw J H
 ·intro j e;simp only[D,List.mem_cons];by_cases P:j=T
  ·exact .inl P
  ·right;apply p.used j;simpa[g',P]using e
 ·intro j m b S W A E;simp only[D,ez]at A;simp only[g']at E;split at A
  ·grind
  ·grind
theorem U3 {w w':World} {g:Gh} {σ:St} (hinv:Inv w g σ) {key n b lo hi:Nat} (hk:ak key σ.toks=some n) (hg:g.tok key=some (n,some (b,lo,hi))) (vs:List Value) (hfit:lo+vs.length<=hi)
  (r2:w'.heap.size=w.heap.size/\w'.os=w.os/\w'.tape=w.tape/\w'.output=w.output/\∀b',b'≠b->w'.heap[b']?=w.heap[b']?)
  (r3:∀b' o',b'≠b\/o'<lo\/lo+vs.length<=o'->w'.cell? ⟨b',o',none⟩=w.cell? ⟨b',o',none⟩) (r4:∀b' o',w'.frozen? ⟨b',o',none⟩=w.frozen? ⟨b',o',none⟩)
  (r5:∀j v,vs[j]?=some v->w'.cell? ⟨b,lo+j,none⟩=some v) (hne:vs≠[]) :
  let g':Gh:=⟨fun b' o=>if b'=b/\lo<=o/\o<lo+vs.length then vs[o-lo]? else g.G b' o,g.box,fun j=>if j=key then some (n+1,some (b,lo+vs.length,hi))else g.tok j,g.room⟩
  let σ':St:=⟨σ.boxes,tZ key (n+1) σ.toks,key::σ.used⟩
  Inv w' g' σ'/\gW w g σ w' g' σ'/\g.le g':=by
 intro g' σ'
 obtain⟨ae7,t1,t2⟩:=hinv.tok key n hk
 rw[hg]at t1;simp at t1;subst t1
 obtain⟨t3,t4,t5⟩:=t2 b lo hi rfl
 have hlen:0<vs.length:=List.length_pos_iff.2 hne
 have ZD:∀b' o v,g.G b' o=some v->¬(b'=b/\lo<=o/\o<lo+vs.length):=by
  rintro b' o v h ⟨rfl,h1,h2⟩
  rw[(t4 o h1 bn).1]at h;simp at h
 have hle:g.le g':=by
  refine⟨fun b' o v h=>?_,fun _ _ h=>h,fun _ _ _=>rfl,fun j hw r h=>?_⟩
  ·simp only[g'];rw[if_neg (ZD b' o v h)];exact h
  ·simp only[g']
   split
   ·rename_i hj;subst hj
    rw[hg]at h;simp at h;exact⟨n+1,_,rfl,bn,bn⟩
   ·exact⟨hw,r,h,aam _,fun _=>rfl⟩
 have hcell:∀b' o,¬(b'=b/\lo<=o/\o<lo+vs.length)->w'.cell? ⟨b',o,none⟩=w.cell? ⟨b',o,none⟩:=by
  intro b' o h;exact r3 b' o bn
 refine⟨⟨?_,?_,hinv.fF,?_,?_,?_,hinv.Aa fun k cs b' e h1 hb o=>⟨hcell b' o (by rintro⟨rfl,_⟩;exact t5 k cs e h1),r4 b' o⟩⟩,⟨r2.2.1,r2.2.2.1,r2.2.2.2.1,bn,fun b' hb' hno=>r2.2.2.2.2 b' (by rintro rfl;exact hno lo (.inr ⟨key,n,lo,hi,hk,hg,bn,bn⟩)),fun b' o hb' hno=>⟨hcell b' o ?_,r4 b' o⟩,hle.1,?_,fun k cs b h1 h2 => .inr ⟨k,cs,h1,h2⟩,?_,fun _ _ h=>⟨h,rfl,rfl⟩⟩,hle⟩
 ·intro b' o v h
  simp only[g']at h
  split at h
  ·rename_i hb;obtain⟨rfl,h1,h2⟩:=hb
   have:=r5 (o-lo) v h
   rwa[show lo+(o-lo)=o from by omega]at this
  ·rename_i hb;rw[hcell b' o hb];exact hinv.oF b' o v h
 ·intro k cs e
  obtain⟨b',h1,h2,h3,h4⟩:=hinv.box k cs e
  have zG:b'≠b:=by rintro rfl;exact t5 k cs e h1
  exact⟨b',h1,bn,fun o=>by simp only[g'];rw[if_neg bn];exact h3 o,(cy.of_same (fun o=>⟨hcell b' o bn,r4 b' o⟩) h4).mono hle⟩
 ·intro j m e
  simp only[σ',ez]at e
  simp only[g']
  split at e
  ·rename_i hj;subst hj
   simp at e;subst e
   rw[if_pos rfl]
   refine⟨_,rfl,fun b' lo' hi' hr=>?_⟩
   simp at hr;obtain⟨rfl,rfl,rfl⟩:=hr
   refine⟨bn,fun o h1 h2=>?_,t5⟩
   obtain⟨h6,⟨u,h7⟩,h8⟩:=t4 o bn h2
   exact⟨R3,⟨u,(hcell b o bn).trans h7⟩,(r4 b o).trans h8⟩
  ·rename_i hj
   rw[if_neg hj]
   obtain⟨fU,h1,h2⟩:=hinv.tok j m e
   refine⟨fU,h1,fun b' lo' hi' hr=>?_⟩
   obtain⟨h3,h4,h5⟩:=h2 b' lo' hi' hr
   have zG:b'≠b:=by
    rintro rfl;subst hr
    exact hj (hinv.gA j key m n b' lo' hi' lo hi e hk h1 hg)
   refine⟨bn,fun o IK Lq=>?_,h5⟩
   obtain⟨h6,⟨u,h7⟩,h8⟩:=h4 o IK Lq
   exact⟨R3,⟨u,(hcell b' o bn).trans h7⟩,(r4 b' o).trans h8⟩
 ·intro j j' m m' b1 Yi hi1 lo2 hi2 e e' e1 e2
  have key':∀j m b1 Yi hi1,ak j σ'.toks=some m->g'.tok j=some (m,some (b1,Yi,hi1))->∃m0 Ex qq,ak j σ.toks=some m0/\g.tok j=some (m0,some (b1,Ex,qq)):=by
   intro j m b1 Yi hi1 e e1
   simp only[σ',ez]at e
   simp only[g']at e1
   split at e
   ·simp_all
   ·simp_all
  obtain⟨m0,l0,h0,f1,f2⟩:=key' j m b1 Yi hi1 e e1
  obtain⟨m0',l0',Xr,Zw,f2'⟩:=key' j' m' b1 lo2 hi2 e' e2
  exact hinv.gA j j' m0 m0' b1 l0 h0 l0' Xr f1 Zw f2 f2'
 ·intro j e
  simp only[σ',List.mem_cons]
  by_cases hj:j=key
  ·exact .inl hj
  ·right;apply hinv.used j;simpa[g',hj]using e
 ·rintro⟨rfl,h1,h2⟩;exact hno (.inr ⟨key,n,lo,hi,hk,hg,bn,bn⟩)
 ·intro b' o v h
  simp only[g']at h
  split at h
  ·rename_i hb;obtain⟨rfl,h1,h2⟩:=hb
   exact .inr (.inr (.inr ⟨key,n,lo,hi,hk,hg,bn,bn⟩))
  ·exact .inl h
 ·intro j m b' lo' hi' e1 e2
  simp only[σ',ez]at e1
  simp only[g']at e2
  split at e1
  ·rename_i hj;subst hj
   rw[if_pos rfl]at e2
   simp at e2;obtain⟨_,rfl,rfl,rfl⟩:=e2
   exact .inr ⟨j,n,lo,hi,hk,hg,bn,aam _⟩
  ·rename_i hj
   rw[if_neg hj]at e2
   exact .inr ⟨j,m,lo',hi',e1,e2,aam _,aam _⟩
end
end Go.cu
namespace Go.cu
def vf (d:Nat) (us:List Nat) (ts:List (Nat×Nat)):UR->Option (Nat×Nat)
 | .exact=>match mem d us with
  | false=>some (d,0)
  | true=>none
 | .tok k m=>match ak k ts with
  | some u=>match Nat.beq u m with
   | true=>some (k,m+1)
   | false=>none
  | none=>none
def Dr (s t:Nat) (rows:List CV):UR->Bool
 | .exact=>fT s t rows
 | .tok _ _=>Nat.beq s t
theorem yV {s t:Nat} {rows:List CV}:∀{o:UR},Dr s t rows o=true->fT s t rows=true
 | .exact,h=>h
 | .tok _ _,h=>by simp only[Dr]at h;simp[fT,h]
def kU:TK->Bool
 | .slice _ | .str=>true
 | _=>false
theorem Ma (T n:Nat):gX (fun σ=>(⟨σ.boxes,tZ T n σ.toks,T::σ.used⟩:St)) ⟨[],[T]⟩ where
 out:=fun σ k D=>by
  have:k≠T:=by simpa using D
  refine⟨rfl,?_,?_⟩
  ·simp only[ez,if_neg this]
  ·simp[this]
 same:=fun σ G h k D=>by
  have:k=T:=by simpa using D
  subst this;refine⟨(h k (.inr cn)).1,?_,?_⟩
  ·simp[ez]
  ·simp
section
variable {P : Program} {X : Ctx}
theorem FQ {p:jm} {s b o:Nat} {rows b9:List CV} {olds news:List Value} (h1:bO p (bK rows) olds) (h2:bO p (bK b9) news) (Y:∀r∈rows,r.cells.length=s) (J:∀r∈b9,r.cells.length=s)
  (W:(bK rows).all CV.one=true) (N:(bK b9).all CV.one=true) (C:∀(j:Nat) u,(olds++news)[j]?=some u->p b (o+j)=some u):ff p s b o (rows++b9):=by
 rw[o9,dB];refine⟨mK (eZ h1 h2) C (by rw[List.all_append,W,N];rfl),?_⟩;intro r I;rcases List.mem_append.1 I with I|I
 ·exact Y r I
 ·exact J r I
set_option maxHeartbeats 1600000 in
theorem bW.append (hX:cC P X) {o:Oper} {env:Env} {σ:St} {args:Array Operand} {ats:Array TypeId} (ho:o.op = .call {callee := .builtin .append,args:=args,argTypes:=ats})
  {xs y:Operand} (hargs:args.toList=[xs,y]) {t t1:Nat} (Aq:ats.toList=[t,t1]) {d:Nat}
  {i j i1:TI} {e:Nat} (hi:X.ti t=some i) (hk:i.kind = .slice e) (hj:X.ti e=some j) {za:AV} (hz:j.zero=some za) (hi1:X.ti t1=some i1) (qp:kU i1.kind=true)
  {ow:UR} {s:Nat} {rows:List CV} (ha:aK X env xs=some (.own ow s rows)) {b:AV} (hb:aK X env y=some b) {s1:Nat} {b9:List CV} (hsrc:mL b=some (s1,b9))
  (hs:Dr s j.size rows ow=true) (rR:fT s1 j.size b9=true) {key n:Nat} (hkey:vf d σ.used σ.toks ow=some (key,n)) (hby:Nat.ble 1 j.bytes=true) (hbound:(rows.length+b9.length)*j.bytes<=140737488355328) :
  bW P X o env σ (.own (.tok key n) j.size (rows++b9)) (fun σ=>⟨σ.boxes,tZ key n σ.toks,key::σ.used⟩) ⟨[],[key]⟩:=by
 intro cW σ1 w g act next Q h1 h2 hinv cD di hnext
 have qf:∀x∈args.toList,x∈o.op.operands.toList:=by
  intro x hx
  rw[ho];simp only[Op.operands,Call.operands,Array.toList_append,List.mem_append];exact .inr hx
 have xI:aK X cW xs=some (.own ow s rows):=by rw[h1 xs (qf xs VY)];exact ha
 have hb':aK X cW y=some b:=by rw[h1 y (qf y VY)];exact hb
 have rA:=cz (a:=act) di cD xI
 have rB:=cz (a:=act) di cD hb'
 simp only[aJ]at rA
 obtain⟨base,len,cap,ex,hlen,hcap,fP,hown⟩:=rA
 obtain⟨⟨news,n1,n2,n3,n4⟩,n5⟩:=qe (P:=P) (w:=w) hinv.oF hsrc rR rB
 obtain⟨⟨news',We,Yo,ZE,ZF⟩,_⟩:=qe (P:=P) (w:=w.drew) (fun b o v h=>by rw[World.cell?_drew];exact hinv.oF b o v h) hsrc rR rB
 obtain⟨olds,m1,m2,m3,m4⟩:=v8 (P:=P) (w:=w.drew) (g:=g) (fun b o v h=>by rw[World.cell?_drew];exact hinv.oF b o v h) fP (yV hs) len cap hlen
 obtain⟨dt,_,xK,EK⟩:=hX.run_underlying (w:=w) hi
 rw[hk]at xK;simp only[eG]at xK;subst xK
 obtain⟨d1,jo,BP⟩:=yU hX hi1 V7 w
 obtain⟨inf,T9,Mb,ZG,ZH,_,if6⟩:=hX.ti e j hj
 obtain⟨z,z1,_,z3⟩:=ZH za hz
 have N7:news.length=b9.length*j.size:=by rw[<- (bO.get n1).1,dh n2]
 have PK:news'.length=b9.length*j.size:=by rw[<- (bO.get We).1,dh Yo]
 have PL:olds.length=rows.length*j.size:=by rw[<- (bO.get m1).1,dh m2]
 have xL:args = #[xs,y]:=by cases args;simp_all
 have Ds:ats = #[t,t1]:=by cases ats;simp_all
 have SD:=Nat.le_of_ble_eq_true hby
 have hsmall:rows.length+b9.length<=140737488355328:=Nat.le_trans (Nat.le_mul_of_pos_right _ SD) hbound
 have SE:∀(v:Value) (w':World),(Builtin.append_ #[t,t1] o.type #[.slice base len cap,act.eval y]).run P w = .ok v w'->(execOp act.eval o).run P w = .ok (.value v) w':=by
  intro v w' hr
  obtain⟨dst,op,type,pos,after,guard⟩:=o
  simp only at ho hr;subst ho
  subst xL Ds
  simp[execOp,resolve,invoke,builtin,ex,hr,Result.andThen]
 unfold Oper.wp
 by_cases hroom:len+b9.length<=cap
 ·by_cases h0:b9.length=0
  ·obtain rfl:b9=[]:=List.eq_nil_of_length_eq_zero h0
   have hn0:news=[]:=by simpa[bK,bO]using n1
   subst hn0
   rw[SE _ w (kT (w':=w) EK jo BP T9 n5 W9 hroom (by cases base<;>simp[storeCells]))]
   rw[Oper.upon_value]
   have ZI:∃fU,((key ∉ σ1.used/\fU=none)\/∃n0,g.tok key=some (n0,fU)/\ak key σ1.toks=some n0/\n0<n) /\
     (cap=len\/∃b lo hi o,fU=some (b,lo,hi)/\base=some ⟨b,o,none⟩/\lo=o+len*j.size/\hi=o+cap*j.size/\len<=cap):=by
    cases ow with
    | exact =>
     simp only[vf]at hkey
     split at hkey
     ·rename_i hu
      simp at hkey;obtain⟨rfl,rfl⟩:=hkey
      exact⟨none,.inl ⟨fun h=>cS hu ((h2 d (.inr cn)).2.2.1 h),rfl⟩,.inl hown⟩
     ·simp at hkey
    | tok k m =>
     simp only[vf]at hkey
     split at hkey
     ·rename_i m' hm'
      split at hkey
      ·rename_i ZJ
       simp at hkey;obtain⟨rfl,rfl⟩:=hkey
       have:=beq_true ZJ;subst this
       have Lo:ak k σ1.toks=some m':=by rw[(h2 k (.inr cn)).2.1];exact hm'
       obtain⟨hw,fU,e1,e2,e3⟩:=hown
       obtain⟨Da,e4,_⟩:=hinv.tok k m' Lo
       rw[e1]at e4;simp at e4;obtain⟨rfl,rfl⟩:=e4
       simp only[Dr]at hs
       have:=beq_true hs;subst this
       exact⟨fU,.inr ⟨hw,e1,Lo,bn⟩,e3 rfl⟩
      ·simp at hkey
     ·simp at hkey
   obtain⟨fU,EB,QN⟩:=ZI
   obtain⟨i1,i2,i3⟩:=U0 hinv key n fU EB
   refine hnext _ w _ ?_ i1 i2 i3
   simp only[aJ,List.append_nil,aab,Nat.add_zero]
   refine⟨base,len,cap,rfl,hlen,hcap,?_,n,fU,cn,aam _,fun _=>QN⟩
   rcases fP with rfl|⟨b0,o0,hb0,Ua⟩
   ·exact .inl rfl
   ·rcases nT (yV hs)with rfl|rfl
    ·exact .inr ⟨b0,o0,hb0,Ua⟩
    ·exact .inl rfl
  ·
   cases ow with
   | exact=>simp only[pQ]at hown;omega
   | tok k m =>
    simp only[vf]at hkey
    split at hkey
    ·rename_i m' hm'
     split at hkey
     ·rename_i ZJ
      simp at hkey;obtain⟨rfl,rfl⟩:=hkey
      have:=beq_true ZJ;subst this
      have Lo:ak k σ1.toks=some m':=by rw[(h2 k (.inr cn)).2.1];exact hm'
      obtain⟨hw,fU,e1,e2,e3⟩:=hown
      obtain⟨Da,e4,e5⟩:=hinv.tok k m' Lo
      rw[e1]at e4;simp at e4;obtain⟨rfl,rfl⟩:=e4
      simp only[Dr]at hs
      have:=beq_true hs;subst this
      rcases e3 rfl with hc|⟨b0,lo,hi',o0,rfl,rfl,rfl,rfl,_⟩
      ·omega
      obtain⟨f1,f2,f3⟩:=e5 _ _ _ rfl
      have hmul:len*j.size+news.length<=cap*j.size:=by
       rw[N7,<- Nat.add_mul];exact Nat.mul_le_mul_right _ hroom
      obtain⟨w',r1,r2,r3,r4,r5⟩:=mJ (P:=P) (w:=w) b0 news (o0+len*j.size) 0 w (mD n1 n3) (by
       intro q hq
       simp only[Nat.add_zero]
       obtain⟨_,g2,g3⟩:=f2 (o0+len*j.size+q) bn bn
       exact⟨g2,g3⟩)
      simp only[Nat.add_zero]at r3 r5
      rw[SE _ w' (kT (w':=w') EK jo BP T9 n5 W9 hroom (by simp only[Addr.add_lit,Mb];exact r1))]
      rw[Oper.upon_value]
      obtain⟨i1,i2,i3⟩:=U3 hinv Lo e1 news bn r2 r3 r4 r5 (by
       intro hn;rw[hn]at N7
       have hz:b9.length*j.size=0:=N7.symm
       rcases Nat.mul_eq_zero.1 hz with hz|hz
       ·exact h0 hz
       ·exact if6 hz)
      refine hnext _ w' _ ?_ i1 i2 i3
      simp only[aJ]
      refine⟨_,_,_,rfl,by simp[hlen],bn,.inr ⟨b0,o0,rfl,?_⟩,hw+1,some (b0,o0+len*j.size+news.length,o0+cap*j.size),cn,aam _,fun _ => .inr ⟨b0,_,_,o0,rfl,rfl,?_,rfl,bn⟩⟩
      ·refine FQ (olds:=olds) (news:=news) (bO.mono i3.1 _ _ m1) (bO.mono i3.1 _ _ n1) m2 n2 m3 n3 fun q u hq=>?_
       by_cases Xt:q<olds.length
       ·rw[List.getElem?_append_left Xt]at hq
        rcases fP with rfl|⟨b2,o2,QN,LN⟩
        ·simp_all
        ·simp at QN;obtain⟨rfl,rfl⟩:=QN
         rw[o9]at LN
         obtain⟨vs,v1,v2,v3⟩:=ve LN.1
         have:vs=olds:=by
          have q1:(Builtin.firstCells j.size len (.slice (some ⟨b0,o0,none⟩) len cap)).run P w.drew = .ok vs.toArray w.drew:=by
           refine run_firstCells_some w.drew j.size len _ len cap vs ?_ ?_
           ·rw[<- (bO.get v1).1,dh LN.2,hlen]
           ·intro j v hj;rw[Addr.add_lit,World.cell?_drew];exact hinv.oF _ _ _ (v2 j v hj)
          rw[m4]at q1;simp at q1;exact q1.symm
         subst this
         exact i3.1 _ _ _ (v2 q u hq)
       ·grind
      ·grind
     ·simp at hkey
    ·simp at hkey
 ·have hg:cap<len+b9.length:=by omega
  have hbd:(len+b9.length)*inf.bytes<=140737488355328:=by rw[ZG,hlen];exact hbound
  rw[SE _ _ (nD EK jo BP T9 z1 n5 (by rw[Mb];exact ZF) (by rw[Mb];exact m4) hg bn hbd)]
  rw[Oper.upon_value]
  have hge:=grownCap_ge w (len+b9.length) cap e
  generalize grownCap w (len+b9.length) cap e=nc at hge ⊢
  have tX:(olds.toArray++news'.toArray++Builtin.zeroCells z.cells (nc-(len+b9.length))).size=nc*j.size:=by
   simp only[Array.size_append,List.size_toArray,size_zeroCells,PL,PK,z3,<- hlen,<- Nat.add_mul]
   congr 1;omega
  have acg:(len+b9.length)*j.size<=(olds.toArray++news'.toArray++Builtin.zeroCells z.cells (nc-(len+b9.length))).size:=by rw[tX];exact Nat.mul_le_mul_right _ hge
  have hkk:key ∉ σ1.used\/∃n0,ak key σ1.toks=some n0/\n0<n:=by
   cases ow with
   | exact =>
    simp only[vf]at hkey
    split at hkey
    ·rename_i hu
     simp at hkey;obtain⟨rfl,rfl⟩:=hkey
     exact .inl fun h=>cS hu ((h2 d (.inr cn)).2.2.1 h)
    ·simp at hkey
   | tok k m =>
    simp only[vf]at hkey
    split at hkey
    ·rename_i m' hm'
     split at hkey
     ·rename_i ZJ
      simp at hkey;obtain⟨rfl,rfl⟩:=hkey
      have:=beq_true ZJ;subst this
      exact .inr ⟨m',by rw[(h2 k (.inr cn)).2.1];exact hm',bn⟩
     ·simp at hkey
    ·simp at hkey
  obtain⟨i1,i2,i3⟩:=Xs hinv (olds.toArray++news'.toArray++Builtin.zeroCells z.cells (nc-(len+b9.length))) e ((len+b9.length)*j.size) acg key n hkk
   (w.drew.alloc (.cells (olds.toArray++news'.toArray++Builtin.zeroCells z.cells (nc-(len+b9.length))) e)) rfl
  refine hnext _ _ _ ?_ i1 i2 i3
  simp only[aJ]
  refine⟨_,_,_,rfl,by simp[hlen],hge,.inr ⟨w.heap.size,0,rfl,?_⟩,n,_,if_pos rfl,aam _,fun _ => .inr ⟨_,_,_,0,rfl,rfl,by rw[Nat.zero_add],by rw[tX,Nat.zero_add],hge⟩⟩
  refine FQ (olds:=olds) (news:=news') (bO.mono i3.1 _ _ m1) (bO.mono i3.1 _ _ We) m2 Yo m3 ZE fun q u hq=>?_
  have Xt:q<(olds++news').length:=(List.getElem?_eq_some_iff.1 hq).1
  have afa:q<(len+b9.length)*j.size:=by simp only[aax,PL,PK,<- hlen,<- Nat.add_mul]at Xt;exact Xt
  simp only
  rw[if_pos ⟨trivial,bn⟩,Nat.zero_add]
  rw[show olds.toArray++news'.toArray=(olds++news').toArray from by simp,Array.getElem?_append_left (by simpa using Xt)]
  simpa using hq
end
section
variable {P : Program} {X : Ctx} {ops : Array Oper} {o : Oper} {rest : List Oper} {env : Env} {acc : List Fp} {Q : Env -> St -> List Fp -> Prop} {bs : List (Nat × List AV)} {ts : List (Nat × Nat)} {us : List Nat}
theorem ai.append (hX:cC P X) (kn:List Nat) (K:cV ops.toList kn env o=some true) {args:Array Operand} {V:Array TypeId} (I:o.op = .call {callee := .builtin .append,args:=args,argTypes:=V})
  {xs y:Operand} (p:args.toList=[xs,y]) {t N:Nat} (G:V.toList=[t,N]) {d:Nat} (E:o.dst=some d)
  {i j u:TI} {e:Nat} (D:X.ti t=some i) (A:i.kind = .slice e) (hj:X.ti e=some j) {za:AV} (hz:j.zero=some za) (C:X.ti N=some u) (qp:kU u.kind=true)
  {W:UR} {s:Nat} {rows:List CV} (ha:aK X env xs=some (.own W s rows)) {b:AV} (hb:aK X env y=some b) {M:Nat} {b9:List CV} (H:mL b=some (M,b9))
  {sz:Nat} (J:j.size=sz) (hs:Dr s sz rows W=true) (rR:fT M sz b9=true) {T n:Nat} (q:vf d us ts W=some (T,n)) {U:Nat} (S:j.bytes=U) (O:Nat.ble 1 U=true) {ts':List (Nat×Nat)} (B:wU T n ts=some ts')
  (Y:(rows.length+b9.length)*U<=140737488355328)
  (k:ai P X ops rest ((d,.own (.tok T n) sz (rows++b9))::env) ⟨bs,ts',T::us⟩ (⟨[],[T]⟩::acc) Q):ai P X ops (o::rest) env ⟨bs,ts,us⟩ acc Q:=by
 subst J S;rw[rW]at B;simp at B;subst B;exact ai.step (dx K) (bW.append (σ:=⟨bs,ts,us⟩) hX I p G D A hj hz C qp ha hb H hs rR q O Y) (Ma T n) (by rw[E];exact k)
end
end Go.cu
namespace Go.cu
structure Ren where
 bx:Nat->Option Nat
 tk:Nat->Option (Nat×Option Nat)
def Gh.fY (g:Gh) (ρ:Ren):Gh where
 G:=g.G
 box:=fun k=>match ρ.bx k with
  | some H=>g.box H
  | none=>none
 tok:=fun k=>match ρ.tk k with
  | some (m,none)=>some (m,none)
  | some (m,some H)=>match g.tok H with
   | some (_,C)=>some (m,C)
   | none=>none
  | none=>none
 room:=fun k=>match ρ.bx k with
  | some H=>g.room H
  | none=>0
mutual
def Conv (ρ:Ren) (ts:List (Nat×Nat)):AV->AV->Prop
 | .c v,b=>b = .c v\/close b=some v
 | .own .exact s rows,b=>b = .own .exact s rows
 | .own (.tok k m) s rows,b=>∃o,ρ.tk k=some (m,o)/\(o=none/\(∃q,b = .own .exact q rows/\(q=s\/rows=[]))\/∃H n,o=some H/\ak H ts=some n/\b = .own (.tok H n) s rows)
 | .ptr k off,b=>∃H,ρ.bx k=some H/\b = .ptr H off
 | .gy k off s n,b=>∃H,ρ.bx k=some H/\b = .gy H off s n
 | .any,b=>b.one=true
 | .agg l,b=>∃G,b = .agg G/\fy ρ ts l G
 | .gB l,b=>∃G,b = .gB G/\fy ρ ts l G
def fy (ρ:Ren) (ts:List (Nat×Nat)):List AV->List AV->Prop
 | [],G=>G=[]
 | a::l,G=>∃b r,G=b::r/\Conv ρ ts a b/\fy ρ ts l r
end
section
variable {g : Gh} {ρ : Ren} {ts : List (Nat × Nat)}
mutual
theorem qJ (B:∀k n,ak k ts=some n->∃C,g.tok k=some (n,C)):∀{a b:AV} {u:Value},Conv ρ ts a b->aJ g b u->aJ (g.fY ρ) a u/\(b.one=true->a.one=true)
 | .c v,b,u,h,I=>by
  simp only[Conv]at h;rcases h with rfl|h
  ·simp only[aJ]at I ⊢;exact⟨I,fun h=>h⟩
  ·have:=rY b v u h I;simp only[aJ];exact⟨this.1,this.2⟩
 | .own .exact s rows,b,u,h,I=>by
  simp only[Conv]at h;subst h;simp only[aJ]at I ⊢;exact⟨I,fun h=>h⟩
 | .own (.tok k m) s rows,b,u,h,I=>by
  simp only[Conv]at h;obtain⟨o,h1,⟨rfl,q,rfl,hq⟩|⟨H,n,rfl,h2,rfl⟩⟩:=h
  ·simp only[aJ]at I ⊢;obtain⟨base,Y,K,A,E,V,Q,W⟩:=I;refine⟨⟨base,Y,K,A,E,V,?_,m,none,?_,aam _,fun _ => .inl W⟩,fun _=>rfl⟩
   ·rcases hq with rfl|rfl
    ·exact Q
    ·exact .inl rfl
   simp only[Gh.fY,h1]
  ·simp only[aJ]at I ⊢;obtain⟨base,Y,K,A,E,V,Q,N,C,W,M,S⟩:=I;obtain⟨J,T⟩:=B H n h2;rw[W]at T;simp at T;obtain⟨rfl,rfl⟩:=T;refine⟨⟨base,Y,K,A,E,V,Q,m,C,?_,aam _,fun _=>S rfl⟩,fun _=>rfl⟩;simp only[Gh.fY,h1,W]
 | .ptr k off,b,u,h,I=>by
  simp only[Conv]at h;obtain⟨H,h1,rfl⟩:=h;simp only[aJ]at I ⊢;obtain⟨b,A,E⟩:=I;exact⟨⟨b,by simp only[Gh.fY,h1,A],E⟩,fun _=>rfl⟩
 | .gy k off s n,b,u,h,I=>by
  simp only[Conv]at h;obtain⟨H,h1,rfl⟩:=h;simp only[aJ]at I ⊢;obtain⟨b,K,o,A,E,V,Q⟩:=I;exact⟨⟨b,K,o,by simp only[Gh.fY,h1,A],E,V,by simp only[Gh.fY,h1];exact Q⟩,fun _=>rfl⟩
 | .any,b,u,h,I=>by
  simp only[Conv]at h;have:=uY h I;simp only[aJ];refine⟨⟨fun vs e=>?_,fun vs e=>?_⟩,fun _=>rfl⟩<;>(subst e;simp[Value.oneCell']at this)
 | .agg l,b,u,h,I=>by
  simp only[Conv]at h;obtain⟨G,rfl,h1⟩:=h;simp only[aJ]at I ⊢;obtain⟨vs,A,E,V⟩:=I;obtain⟨U,P⟩:=vg B h1 E;exact⟨⟨vs,A,U,P V⟩,fun h=>by simp[AV.one]at h⟩
 | .gB l,b,u,h,I=>by
  simp only[Conv]at h;obtain⟨G,rfl,h1⟩:=h;simp only[aJ]at I ⊢;obtain⟨vs,A,E,V⟩:=I;obtain⟨U,P⟩:=vg B h1 E;refine⟨⟨vs,A,U,?_⟩,fun h=>by simp[AV.one]at h⟩;rw[(bH.get U).1,<- (bH.get E).1];exact V
theorem vg (B:∀k n,ak k ts=some n->∃C,g.tok k=some (n,C)):∀{l G:List AV} {us:List Value},fy ρ ts l G->bH g G us->bH (g.fY ρ) l us/\(G.all AV.one=true->l.all AV.one=true)
 | [],G,us,h,I=>by
  simp only[fy]at h;subst h;simp only[bH]at I ⊢;exact⟨I,fun h=>h⟩
 | a::l,G,us,h,I=>by
  simp only[fy]at h;obtain⟨b,r,rfl,h1,h2⟩:=h;simp only[bH]at I ⊢;obtain⟨u,us',rfl,O,D⟩:=I;obtain⟨A,E⟩:=qJ B h1 O;obtain⟨V,Q⟩:=vg B h2 D;refine⟨⟨u,us',rfl,A,V⟩,fun h=>?_⟩;simp only[List.all_cons,aaj]at h ⊢;exact⟨E h.1,Q h.2⟩
end
theorem Bf {w:World} (B:∀k n,ak k ts=some n->∃C,g.tok k=some (n,C)) {b:Nat}:∀{l G:List AV} {o:Nat},fy ρ ts l G->cy w g b o G->cy w (g.fY ρ) b o l
 | [],_,_,_,_=>trivial
 | a::l,G,o,h,hc=>by
  simp only[fy]at h;obtain⟨x,r,rfl,h1,h2⟩:=h;obtain⟨⟨u,Y,J,W⟩,c4,c5⟩:=hc;obtain⟨A,E⟩:=qJ B h1 J;exact⟨⟨u,Y,A,E W⟩,c4,Bf B h2 c5⟩
end
theorem ou {w:World} {g:Gh} {σ:St} (h:Inv w g σ):∀k n,ak k σ.toks=some n->∃C,g.tok k=some (n,C):=fun k n e=>by
 obtain⟨C,A,_⟩:=h.tok k n e;exact⟨C,A⟩
theorem Inv.fY {w:World} {g:Gh} {σ:St} (h:Inv w g σ) (ρ:Ren) (σ':St)
  (hb:∀k cells,ak k σ'.boxes=some cells->∃old oc,ρ.bx k=some old/\ak old σ.boxes=some oc/\fy ρ σ.toks cells oc)
  (hbi:∀k k' old,ρ.bx k=some old->ρ.bx k'=some old->k=k')
  (ht:∀k n,ak k σ'.toks=some n->∃o,ρ.tk k=some (n,o)/\∀old,o=some old->∃n',ak old σ.toks=some n')
  (hti:∀k k' m m' old,ρ.tk k=some (m,some old)->ρ.tk k'=some (m',some old)->k=k')
  (hu:∀k,ρ.bx k≠none\/ρ.tk k≠none->k∈σ'.used) :
  Inv w (g.fY ρ) σ'/\((∀k,1000000<=k->ak k σ'.boxes≠none->ρ.bx k=some k)->gW w g σ w (g.fY ρ) σ'):=by
 have hts:=ou h
 have Xu:∀k n b lo hi,ak k σ'.toks=some n->(g.fY ρ).tok k=some (n,some (b,lo,hi))->∃old n' m,ρ.tk k=some (m,some old)/\ak old σ.toks=some n'/\g.tok old=some (n',some (b,lo,hi)):=by
  intro k n b lo hi e e1
  obtain⟨o,h1,h2⟩:=ht k n e
  cases o with
  | none=>simp[Gh.fY,h1]at e1
  | some old =>
   obtain⟨n',h3⟩:=h2 old rfl
   obtain⟨fU,h4⟩:=hts old n' h3
   simp[Gh.fY,h1,h4]at e1
   subst e1
   exact⟨old,n',n,h1,h3,h4⟩
 have Zi:∀k b,(g.fY ρ).box k=some b->∃old,ρ.bx k=some old/\g.box old=some b:=by
  intro k b e
  simp only[Gh.fY]at e
  split at e
  ·rename_i old ho;exact⟨old,ho,e⟩
  ·simp at e
 refine⟨⟨h.oF,?_,?_,?_,?_,?_,?_⟩,fun ach=>⟨rfl,rfl,rfl,aam _,fun _ _ _=>rfl,fun _ _ _ _=>⟨rfl,rfl⟩,jm.le.refl _,fun _ _ _ h => .inl h,?_,?_,?_⟩⟩
 ·intro k cells e
  obtain⟨old,oc,h1,h2,h3⟩:=hb k cells e
  obtain⟨b,h4,h5,h6,h7⟩:=h.box old oc h2
  exact⟨b,by simp only[Gh.fY,h1,h4],h5,h6,Bf hts h3 h7⟩
 ·intro k k' cs cs' b e e' e1 e2
  obtain⟨old,oc,h1,h2,_⟩:=hb k cs e
  obtain⟨old',U4,yW,Ap,_⟩:=hb k' cs' e'
  simp only[Gh.fY,h1,yW]at e1 e2
  have:=h.fF old old' oc U4 b h2 Ap e1 e2
  subst this
  exact hbi k k' old h1 yW
 ·intro k n e
  obtain⟨o,h1,h2⟩:=ht k n e
  cases o with
  | none=>exact⟨none,by simp only[Gh.fY,h1],fun _ _ _ h=>by simp at h⟩
  | some old =>
   obtain⟨n',h3⟩:=h2 old rfl
   obtain⟨fU,h4,h5⟩:=h.tok old n' h3
   refine⟨fU,by simp only[Gh.fY,h1,h4],fun b lo hi hr=>?_⟩
   obtain⟨f1,f2,f3⟩:=h5 b lo hi hr
   refine⟨f1,f2,fun k' cs e'=>?_⟩
   obtain⟨old',U4,g1,g2,_⟩:=hb k' cs e'
   simp only[Gh.fY,g1]
   exact f3 old' U4 g2
 ·intro k k' n n' b lo hi lo' hi' e e' e1 e2
  obtain⟨old,m1,q1,h1,h2,h3⟩:=Xu k n b lo hi e e1
  obtain⟨old',m1',q1',yW,Ap,Yp⟩:=Xu k' n' b lo' hi' e' e2
  have:=h.gA old old' m1 m1' b lo hi lo' hi' h2 Ap h3 Yp
  subst this
  exact hti k k' _ _ old h1 yW
 ·intro k e
  apply hu k
  rcases e with e|e
  ·left;intro hn;apply e;simp[Gh.fY,hn]
  ·right;intro hn;apply e;simp[Gh.fY,hn]
 ·intro k cs b e e1 o
  obtain⟨old,oc,h1,h2,_⟩:=hb k cs e
  simp only[Gh.fY,h1]at e1 ⊢
  exact h.room old oc b h2 e1 o
 ·intro k cs b e e1
  obtain⟨old,oc,h1,h2,_⟩:=hb k cs e
  simp only[Gh.fY,h1]at e1
  exact .inr ⟨old,oc,h2,e1⟩
 ·intro k n b lo hi e e1
  obtain⟨old,n',m,h1,h2,h3⟩:=Xu k n b lo hi e e1
  exact .inr ⟨old,n',lo,hi,h2,h3,aam _,aam _⟩
 ·intro k hk e
  have h1:=ach k hk e
  cases hc:ak k σ'.boxes with
  | none=>exact absurd hc e
  | some cells =>
   obtain⟨old,oc,h2,h3,_⟩:=hb k cells hc
   rw[h1]at h2;simp at h2;subst h2
   exact⟨by rw[h3];simp,by simp[Gh.fY,h1],by simp[Gh.fY,h1]⟩
def distinct:List Nat->Bool
 | []=>true
 | x::l=>match mem x l with
  | true=>false
  | false=>distinct l
theorem dF {α:Type} {k:Nat} {v:α}:∀{l:List (Nat×α)},ak k l=some v->(k,v)∈l
 | [],h=>by simp[ak]at h
 | (j,x)::l,h=>by
  rw[aq]at h;split at h
  ·simp_all
  ·exact List.mem_cons_of_mem _ (dF h)
theorem gl {α:Type} {k:Nat} {v:α}:∀{l:List (Nat×α)},distinct (l.map (·.1))=true->(k,v)∈l->ak k l=some v
 | [],_,h=>by simp at h
 | (j,x)::l,H,h=>by
  simp only[List.map_cons,distinct]at H;split at H
  ·simp at H
  ·rename_i u;rw[aq];rcases List.mem_cons.1 h with h1|h1
   ·simp_all
   ·have:k≠j:=by
     intro Y;exact cS u (List.mem_map.2 ⟨(k,v),h1,Y⟩)
    rw[if_neg this];exact gl H h1
theorem pe {α:Type} {k:Nat}:∀{l:List (Nat×α)},k ∉ l.map (·.1)->ak k l=none
 | [],_=>rfl
 | (j,x)::l,h=>by
  simp only[List.map_cons,List.mem_cons,not_or]at h;rw[aq,if_neg h.1];exact pe h.2
theorem nE {α:Type} {k:Nat} {l:List (Nat×α)} (h:ak k l≠none):k∈l.map (·.1):=by
 by_cases D:k∈l.map (·.1)
 ·exact D
 ·exact absurd (pe D) h
theorem mM {l:List (Nat×Nat)} (h:distinct (l.map (·.2))=true) {k k' v:Nat} (h1:(k,v)∈l) (h2:(k',v)∈l):k=k':=by
 induction l with
 | nil=>simp at h1
 | cons x l S =>
  simp only[List.map_cons,distinct]at h;split at h
  ·simp at h
  ·rename_i u;have Y:=cS u;rcases List.mem_cons.1 h1 with A|A
   ·grind
   ·grind
def oG {α:Type}:List (Nat×α)->List (Nat×α)->List (Nat×α)
 | [],b=>b
 | (k,v)::l,b=>oG l (tZ k v b)
def sO {α:Type}:List (Nat×α)->List (Nat×α)->Option (List (Nat×α))
 | [],b=>some b
 | (k,v)::l,b=>match wU k v b with
  | some M=>sO l M
  | none=>none
theorem Dt {α:Type}:∀(l b:List (Nat×α)),sO l b=some (oG l b)
 | [],b=>rfl
 | (k,v)::l,b=>by simp only[sO,oG,rW,Dt l]
theorem kG {α:Type} {k:Nat}:∀{l b:List (Nat×α)},distinct (l.map (·.1))=true->ak k (oG l b)=match ak k l with
  | some v=>some v
  | none=>ak k b
 | [],b,_=>rfl
 | (j,x)::l,b,H=>by
  simp only[List.map_cons,distinct]at H;split at H
  ·simp at H
  ·rename_i u;simp only[oG];rw[kG H,aq];by_cases D:k=j
   ·subst D;rw[if_pos rfl,pe (cS u)];simp[ez]
   ·rw[if_neg D,ez,if_neg D]
theorem Mc (nb:List (Nat×List AV)) (Y:List (Nat×Nat)) (W:List Nat) (p:distinct (nb.map (·.1))=true) (M:distinct (Y.map (·.1))=true) :
  gX (fun σ=>(⟨oG nb σ.boxes,oG Y σ.toks,W++σ.used⟩:St)) ⟨[],nb.map (·.1)++(Y.map (·.1)++W)⟩ where
 out:=fun σ k D=>by
  simp only[List.mem_append,not_or]at D;refine⟨?_,?_,?_⟩
  ·simp only[kG p,pe D.1]
  ·simp only[kG M,pe D.2.1]
  ·simp[D.2.2]
 same:=fun σ G h k D=>by
  obtain⟨A,E,B⟩:=h k (.inr D);refine⟨?_,?_,?_⟩
  ·simp only[kG p,A]
  ·simp only[kG M,E]
  ·simp_all
end Go.cu
namespace Go.cu
inductive LV where
 | c (v:CV)
 | own (s:Nat) (rows:List CV)
 deriving Inhabited
inductive PA where
 | v (x:LV)
 | box (cells:List LV)
 deriving Inhabited
def LV.av (k m:Nat):LV->AV
 | .c v => .c v
 | .own s rows => .own (.tok k m) s rows
def LV.tk (k m:Nat):LV->List (Nat×Nat)
 | .c _=>[]
 | .own _ _=>[(k,m)]
def Ar (m:Nat):Nat->List LV->List AV
 | _,[]=>[]
 | k,x::l=>x.av k m::Ar m (k+1) l
def xq (m:Nat):Nat->List LV->List (Nat×Nat)
 | _,[]=>[]
 | k,x::l=>x.tk k m++xq m (k+1) l
abbrev pb (i:Nat):Nat:=1000000+1000*i
abbrev rk:Nat:=5000000
def yX:Nat->List PA->List AV
 | _,[]=>[]
 | i,.v x::l=>x.av (pb i) 0::yX (i+1) l
 | i,.box _::l => .ptr (pb i) 0::yX (i+1) l
def Du:Nat->List PA->List (Nat×List AV)
 | _,[]=>[]
 | i,.v _::l=>Du (i+1) l
 | i,.box cells::l=>(pb i,Ar 0 (pb i+1) cells)::Du (i+1) l
def Dv:Nat->List PA->List (Nat×Nat)
 | _,[]=>[]
 | i,.v x::l=>x.tk (pb i) 0++Dv (i+1) l
 | i,.box cells::l=>xq 0 (pb i+1) cells++Dv (i+1) l
def td (p:List PA):St:=⟨Du 0 p,Dv 0 p,(Du 0 p).map (·.1)++(Dv 0 p).map (·.1)⟩
def qx:List (Nat×List LV)->List (Nat×List AV)
 | []=>[]
 | (i,cells)::l=>(pb i,Ar 1 (pb i+1) cells)::qx l
def oP:List (Nat×List LV)->List (Nat×Nat)
 | []=>[]
 | (i,cells)::l=>xq 1 (pb i+1) cells++oP l
def wY (u:List (Nat×List LV)) (rs:List LV):St:=⟨qx u,oP u++xq 0 rk rs,(qx u).map (·.1)++(oP u++xq 0 rk rs).map (·.1)⟩
def qg (s:Nat):List LV->AV
 | [] => .c .undef
 | [x]=>x.av (rk+s) 0
 | l => .gB (Ar 0 (rk+s) l)
def Xv (g:Gh) (rs:List LV) (u:Value):Prop:=aJ g (qg 0 rs) u
def ER (β:jH) (rs:List LV) (C:List (Nat×List LV)):Ending->World->Prop:=fun e w' =>
 ∃u g',e = .returned u/\Xv g' rs u/\Inv w' g' (wY C rs)/\gW β.w β.g β.σ w' g' (wY C rs)
def bz (P:Program) (X:Ctx) (f:FuncId) (p:List PA) (rs:List LV) (u:List (Nat×List LV)):Prop :=
 Enters P f/\∀(g:Gh) (w:World) (vs:List Value),Inv w g (td p)->nw X g.G->bH g (yX 0 p) vs ->
  Calls P f vs.toArray w (ER ⟨w,g,td p⟩ rs u)
theorem bz.of {P:Program} {X:Ctx} {f:FuncId} {T:Func} {c:Code} {Y:List PA} {rs:List LV} {C:List (Nat×List LV)} (hf:P.funcs[f]?=some T) (O:T.body=some c) (N:Enters P f)
  (B:Y.length<=T.ntmps) (env:Env) (J:env=((yX 0 Y).zipIdx.map fun(v,i)=>(i,v)))
  (h:∀β,AK P X f T.ntmps β (ER β rs C) [.code c] env (td Y)):bz P X f Y rs C:=by
 refine⟨N,fun g w vs W M U cs=>?_⟩;have S:=(bH.get U).1;have A:(yX 0 Y).length=Y.length:=by
  have:∀(l:List PA) (i:Nat),(yX i l).length=l.length:=by
   intro l
   induction l with
   | nil=>intro i;rfl
   | cons p l Q=>intro i;cases p<;>simp[yX,Q]
  exact this Y 0
 have K:Live X ⟨w,g,td Y⟩ T.ntmps env (td Y) g w {tmps:=vs.toArray++Array.replicate (T.ntmps-vs.toArray.size) undef,defers:=[]}:=by
  refine⟨W,M,?_,gW.refl _ _ _,?_,rfl⟩
  ·intro t a e;subst J;have V:∀(l:List AV) (us:List Value) (k:Nat),bH g l us->ak t ((l.zipIdx k).map fun(v,i)=>(i,v))=some a->k<=t/\∃u,us[t-k]?=some u/\aJ g a u:=by
    intro l
    induction l with
    | nil=>intro us k _ e;simp[ak]at e
    | cons v l Q =>
     intro us k I e;simp only[bH]at I;obtain⟨u,us,rfl,h1,h2⟩:=I;simp only[List.zipIdx_cons,List.map_cons,aq]at e;split at e
     ·simp_all
     ·grind
   obtain⟨_,u,D,q⟩:=V (yX 0 Y) vs 0 U e;simp at D;have H:t<vs.length:=(List.getElem?_eq_some_iff.1 D).1;have:(vs.toArray++Array.replicate (T.ntmps-vs.toArray.size) undef).getD t undef=u:=by
    rw[Array.getD_eq_getD_getElem?,Array.getElem?_append_left (by simpa using H)];simp[D]
   rw[this];exact q
  ·simp;omega
 obtain⟨e,w',fr,h1,D,q,G⟩:=h ⟨w,g,td Y⟩ g w _ cs K;have E:Frame.enter P f vs.toArray .normal =
   (top f).at {tmps:=vs.toArray++Array.replicate (T.ntmps-vs.toArray.size) undef,defers:=[]} [.code c]:=by
  simp[Frame.enter,Frame.at,hf,O,top]
 exact⟨_,w',fr,h1,by rw[E];exact D,q,G⟩
theorem bz.tI {P:Program} {X:Ctx} {f:FuncId} {T:Func} {c:Code} {p:List PA} {rs:List LV} {u:List (Nat×List LV)} (hf:P.funcs[f]?=some T) (W:T.body=some c) (V:Enters P f)
  (O:p.length<=T.ntmps) (env:Env) (bs:List (Nat×List AV)) (ts:List (Nat×Nat)) (us:List Nat) (q:env=((yX 0 p).zipIdx.map fun(v,i)=>(i,v))) (Y:td p=⟨bs,ts,us⟩)
  (h:∀β,AK P X f T.ntmps β (ER β rs u) [.code c] env ⟨bs,ts,us⟩):bz P X f p rs u :=
 bz.of hf W V O env q fun β=>by rw[Y];exact h β
def JI (ts:List (Nat×Nat)) (t:Nat):AV->Option (List CV)
 | .own .exact s rows=>match fT s t rows with
  | true=>some rows
  | false=>none
 | .own (.tok k n) s rows=>match ak k ts with
  | some m=>match Nat.beq m n with
   | true=>match Nat.beq s t with
    | true=>some rows
    | false=>none
   | false=>none
  | none=>none
 | _=>none
def As (ts:List (Nat×Nat)):LV->AV->Prop
 | .c v,a=>close a=some v
 | .own s rows,a=>JI ts s a=some rows
def jt (ts:List (Nat×Nat)):List LV->List AV->Prop
 | [],l=>l=[]
 | x::xs,l=>∃a r,l=a::r/\As ts x a/\jt ts xs r
def At (m k:Nat):LV->AV->List (Nat×(Nat×Option Nat))
 | .own _ _,.own .exact _ _=>[(k,(m,none))]
 | .own _ _,.own (.tok k' _) _ _=>[(k,(m,some k'))]
 | _,_=>[]
def nk (m:Nat):Nat->List LV->List AV->List (Nat×(Nat×Option Nat))
 | _,[],_=>[]
 | _,_::_,[]=>[]
 | k,x::xs,a::l=>At m k x a++nk m (k+1) xs l
theorem qK {ts:List (Nat×Nat)} {a:AV} {s:Nat} {rows:List CV} (h:JI ts s a=some rows):(∃q,a = .own .exact q rows/\(q=s\/rows=[]))\/∃k n,a = .own (.tok k n) s rows/\ak k ts=some n:=by
 unfold JI at h;split at h
 ·split at h
  ·rename_i Y;simp at h;subst h;exact .inl ⟨_,rfl,nT Y⟩
  ·simp at h
 ·split at h
  ·rename_i m u;split at h
   ·rename_i p;split at h
    ·rename_i Y;simp at h;subst h;have:=beq_true p;subst this;have:=beq_true Y;subst this;exact .inr ⟨_,_,rfl,u⟩
    ·simp at h
   ·simp at h
  ·simp at h
 ·simp at h
theorem N9 {ρ:Ren} {ts:List (Nat×Nat)} {m k:Nat}:∀{x:LV} {a:AV},As ts x a->(∀e∈At m k x a,ρ.tk e.1=some e.2)->Conv ρ ts (x.av k m) a
 | .c v,a,h,_=>by simp only[As]at h;simp only[LV.av,Conv];exact .inr h
 | .own s rows,a,h,M=>by
  simp only[As]at h;simp only[LV.av,Conv];rcases qK h with ⟨q,rfl,hq⟩|⟨k',n,rfl,O⟩
  ·exact⟨none,M (k,(m,none)) (by simp[At]),.inl ⟨rfl,q,rfl,hq⟩⟩
  ·exact⟨some k',M (k,(m,some k')) (by simp[At]),.inr ⟨k',n,rfl,O,rfl⟩⟩
theorem yY {ρ:Ren} {ts:List (Nat×Nat)} {m:Nat}:∀{k:Nat} {xs:List LV} {l:List AV},jt ts xs l->(∀e∈nk m k xs l,ρ.tk e.1=some e.2)->fy ρ ts (Ar m k xs) l
 | k,[],l,h,_=>by simp only[jt]at h;subst h;simp[Ar,fy]
 | k,x::xs,l,h,M=>by
  simp only[jt]at h;obtain⟨a,r,rfl,h1,h2⟩:=h;simp only[Ar,fy];simp only[nk,List.mem_append]at M;exact⟨a,r,rfl,N9 h1 (fun e P=>M e (.inl P)),yY h2 (fun e P=>M e (.inr P))⟩
theorem JJ {ts:List (Nat×Nat)} {m k j n:Nat}:∀{x:LV} {a:AV},As ts x a->(j,n)∈x.tk k m->n=m/\∃o,(j,(m,o))∈At m k x a/\∀H,o=some H->∃B,ak H ts=some B
 | .c v,a,h,u=>by simp[LV.tk]at u
 | .own s rows,a,h,u=>by
  simp only[As]at h;simp[LV.tk]at u;obtain⟨rfl,rfl⟩:=u;rcases qK h with ⟨q,rfl,hq⟩|⟨k',B,rfl,O⟩
  ·exact⟨rfl,none,by simp[At],fun _ h=>by simp at h⟩
  ·exact⟨rfl,some k',by simp[At],fun H h=>by simp at h;subst h;exact⟨B,O⟩⟩
theorem v9 {ts:List (Nat×Nat)} {m j n:Nat}:∀{k:Nat} {xs:List LV} {l:List AV},jt ts xs l->(j,n)∈xq m k xs->n=m/\∃o,(j,(m,o))∈nk m k xs l/\∀H,o=some H->∃V,ak H ts=some V
 | k,[],l,h,u=>by simp[xq]at u
 | k,x::xs,l,h,u=>by
  simp only[jt]at h;obtain⟨a,r,rfl,h1,h2⟩:=h;simp only[xq,List.mem_append]at u;simp only[nk,List.mem_append];rcases u with u|u
  ·obtain⟨A,o,E,B⟩:=JJ h1 u;exact⟨A,o,.inl E,B⟩
  ·obtain⟨A,o,E,B⟩:=v9 h2 u;exact⟨A,o,.inr E,B⟩
theorem JK {ts:List (Nat×Nat)} {m k:Nat}:∀{x:LV} {a:AV},As ts x a->∀e∈At m k x a,e.1∈(x.tk k m).map (·.1)
 | .c v,a,h,e,P=>by cases a<;>simp[At]at P
 | .own s rows,a,h,e,P=>by
  simp only[As]at h;rcases qK h with ⟨q,rfl,hq⟩|⟨k',B,rfl,O⟩<;>simp[At]at P<;>subst P<;>simp[LV.tk]
theorem we {ts:List (Nat×Nat)} {m:Nat}:∀{k:Nat} {xs:List LV} {l:List AV},jt ts xs l->∀e∈nk m k xs l,e.1∈(xq m k xs).map (·.1)
 | k,[],l,h,e,he=>by simp only[jt]at h;subst h;simp[nk]at he
 | k,x::xs,l,h,e,he=>by
  simp only[jt]at h;obtain⟨a,r,rfl,h1,h2⟩:=h;simp only[nk,List.mem_append]at he;simp only[xq,List.map_append,List.mem_append];exact he.imp (JK h1 e) (we h2 e)
def iV (bs:List (Nat×List AV)) (ts:List (Nat×Nat)):List PA->List AV->Prop
 | [],l=>l=[]
 | .v x::ps,l=>∃a r,l=a::r/\As ts x a/\iV bs ts ps r
 | .box cells::ps,l=>∃G Y r,l = .ptr G 0::r/\ak G bs=some Y/\jt ts cells Y/\iV bs ts ps r
def jx (bs:List (Nat×List AV)):Nat->List PA->List AV->List (Nat×Nat)
 | _,[],_=>[]
 | _,_::_,[]=>[]
 | i,.v _::ps,_::l=>jx bs (i+1) ps l
 | i,.box _::ps,.ptr kb _::l=>(pb i,kb)::jx bs (i+1) ps l
 | i,.box _::ps,_::l=>jx bs (i+1) ps l
def jn (bs:List (Nat×List AV)):Nat->List PA->List AV->List (Nat×(Nat×Option Nat))
 | _,[],_=>[]
 | _,_::_,[]=>[]
 | i,.v x::ps,a::l=>At 0 (pb i) x a++jn bs (i+1) ps l
 | i,.box cells::ps,.ptr kb _::l=>(match ak kb bs with
  | some Y=>nk 0 (pb i+1) cells Y
  | none=>[])++jn bs (i+1) ps l
 | i,.box _::ps,_::l=>jn bs (i+1) ps l
section
variable {bs : List (Nat × List AV)} {ts : List (Nat × Nat)}
theorem xM {ρ:Ren}:∀{i:Nat} {p:List PA} {l:List AV},iV bs ts p l->(∀e∈jx bs i p l,ρ.bx e.1=some e.2)->(∀e∈jn bs i p l,ρ.tk e.1=some e.2)->fy ρ ts (yX i p) l
 | i,[],l,h,_,_=>by simp only[iV]at h;subst h;simp[yX,fy]
 | i,.v x::p,l,h,h1,h2=>by
  simp only[iV]at h;obtain⟨a,r,rfl,V,D⟩:=h;simp only[yX,fy];simp only[jn,List.mem_append]at h2;exact⟨a,r,rfl,N9 V (fun e P=>h2 e (.inl P)),xM D (by simpa only[jx]using h1) (fun e P=>h2 e (.inr P))⟩
 | i,.box cells::p,l,h,h1,h2=>by
  simp only[iV]at h;obtain⟨G,Y,r,rfl,V,D,q⟩:=h;simp only[yX,fy];simp only[jn,V,List.mem_append]at h2;simp only[jx,List.mem_cons]at h1;exact⟨_,r,rfl,by simp only[Conv];exact⟨G,h1 (pb i,G) (.inl rfl),rfl⟩,xM q (fun e P=>h1 e (.inr P)) (fun e P=>h2 e (.inr P))⟩
theorem sj:∀{i:Nat} {p:List PA} {l:List AV} {k:Nat} {cells:List AV},iV bs ts p l->(k,cells)∈Du i p ->
  ∃G W Y,(k,G)∈jx bs i p l/\ak G bs=some W/\cells=Ar 0 (k+1) Y/\jt ts Y W/\∀e∈nk 0 (k+1) Y W,e∈jn bs i p l
 | i,[],l,k,cells,h,u=>by simp[Du]at u
 | i,.v x::p,l,k,cells,h,u=>by
  simp only[iV]at h;obtain⟨a,r,rfl,T,D⟩:=h;simp only[Du]at u;obtain⟨G,W,Y,A,E,B,Q,V⟩:=sj D u;simp only[jx,jn,List.mem_append];exact⟨G,W,Y,A,E,B,Q,fun e P => .inr (V e P)⟩
 | i,.box cs::p,l,k,cells,h,u=>by
  simp only[iV]at h;obtain⟨G,W,r,rfl,T,D,q⟩:=h;simp only[Du,List.mem_cons]at u;simp only[jx,jn,T,List.mem_append,List.mem_cons];rcases u with u|u
  ·grind
  ·obtain⟨U,S,Y,A,E,B,Q,V⟩:=sj q u;exact⟨U,S,Y,.inr A,E,B,Q,fun e P => .inr (V e P)⟩
theorem wg:∀{i:Nat} {p:List PA} {l:List AV} {j n:Nat},iV bs ts p l->(j,n)∈Dv i p->n=0/\∃o,(j,(0,o))∈jn bs i p l/\∀H,o=some H->∃Y,ak H ts=some Y
 | i,[],l,j,n,h,u=>by simp[Dv]at u
 | i,.v x::p,l,j,n,h,u=>by
  simp only[iV]at h;obtain⟨a,r,rfl,V,D⟩:=h;simp only[Dv,List.mem_append]at u;simp only[jn,List.mem_append];rcases u with u|u
  ·obtain⟨A,o,E,B⟩:=JJ V u;exact⟨A,o,.inl E,B⟩
  ·obtain⟨A,o,E,B⟩:=wg D u;exact⟨A,o,.inr E,B⟩
 | i,.box cs::p,l,j,n,h,u=>by
  simp only[iV]at h;obtain⟨G,W,r,rfl,V,D,q⟩:=h;simp only[Dv,List.mem_append]at u;simp only[jn,V,List.mem_append];rcases u with u|u
  ·obtain⟨A,o,E,B⟩:=v9 D u;exact⟨A,o,.inl E,B⟩
  ·obtain⟨A,o,E,B⟩:=wg q u;exact⟨A,o,.inr E,B⟩
theorem xN:∀{i:Nat} {p:List PA} {l:List AV},iV bs ts p l->(∀e∈jx bs i p l,e.1∈(Du i p).map (·.1))/\(∀e∈jn bs i p l,e.1∈(Dv i p).map (·.1))
 | i,[],l,h=>by simp only[iV]at h;subst h;simp[jx,jn]
 | i,.v x::p,l,h=>by
  simp only[iV]at h;obtain⟨a,r,rfl,V,D⟩:=h;obtain⟨u,Y⟩:=xN (i:=i+1) D;simp only[jx,jn,Du,Dv,List.mem_append,List.map_append];exact⟨u,fun e P=>P.imp (JK V e) (Y e)⟩
 | i,.box cs::p,l,h=>by
  simp only[iV]at h;obtain⟨G,W,r,rfl,V,D,q⟩:=h;obtain⟨u,Y⟩:=xN (i:=i+1) q;simp only[jx,jn,Du,Dv,V,List.mem_append,List.map_append,List.mem_cons,List.map_cons];refine⟨fun e P=>?_,fun e P=>P.imp (we D e) (Y e)⟩;rcases P with rfl|P
  ·exact .inl rfl
  ·exact .inr (u e P)
def cR:List (Nat×(Nat×Option Nat))->List Nat
 | []=>[]
 | (_,(_,some k))::l=>k::cR l
 | (_,(_,none))::l=>cR l
theorem tf {l:List (Nat×(Nat×Option Nat))} {H:Nat}:H∈cR l↔∃k m,(k,(m,some H))∈l:=by
 induction l with
 | nil=>simp[cR]
 | cons x l S =>
  obtain⟨k,m,o⟩:=x;cases o with
  | none=>simp[cR,S]
  | some k' =>
   simp only[cR,List.mem_cons,S];constructor
   ·rintro(rfl|⟨a,b,h⟩)
    ·exact⟨k,m,.inl rfl⟩
    ·exact⟨a,b,.inr h⟩
   ·grind
theorem tg {l:List (Nat×(Nat×Option Nat))} (h:distinct (cR l)=true) {k k' m u H:Nat} (h1:(k,(m,some H))∈l) (h2:(k',(u,some H))∈l):k=k':=by
 induction l with
 | nil=>simp at h1
 | cons x l S =>
  obtain⟨q,p,o⟩:=x;cases o with
  | none =>
   simp only[cR]at h;simp at h1 h2;exact S h h1 h2
  | some z =>
   simp only[cR,distinct]at h;split at h
   ·simp at h
   ·rename_i W;have Y:=cS W;rcases List.mem_cons.1 h1 with A|A
    ·rcases List.mem_cons.1 h2 with E|E
     ·simp_all
     ·simp at A;rw[A.2.2]at E;exact absurd (tf.2 ⟨_,_,E⟩) Y
    ·rcases List.mem_cons.1 h2 with E|E
     ·simp at E;rw[E.2.2]at A;exact absurd (tf.2 ⟨_,_,A⟩) Y
     ·exact S h A E
def wZ (bs:List (Nat×List AV)) (p:List PA) (l:List AV):Ren:=⟨fun k=>ak k (jx bs 0 p l),fun k=>ak k (jn bs 0 p l)⟩
end
structure sn (bs:List (Nat×List AV)) (ts:List (Nat×Nat)) (ps:List PA) (l:List AV):Prop where
 ok:iV bs ts ps l
 d1:distinct ((jx bs 0 ps l).map (·.1))=true
 d2:distinct ((jx bs 0 ps l).map (·.2))=true
 d3:distinct ((jn bs 0 ps l).map (·.1))=true
 d4:distinct (cR (jn bs 0 ps l))=true
theorem sn.inv {σ:St} {p:List PA} {l:List AV} (h:sn σ.boxes σ.toks p l) {w:World} {g:Gh} (W:Inv w g σ):Inv w (g.fY (wZ σ.boxes p l)) (td p):=by
 refine(W.fY (wZ σ.boxes p l) (td p) ?_ ?_ ?_ ?_ ?_).1
 ·intro k cells e;obtain⟨G,Y,U,A,E,B,Q,V⟩:=sj h.ok (dF e);refine⟨G,Y,gl h.d1 A,E,?_⟩;subst B;exact yY Q fun e P=>gl h.d3 (V e P)
 ·intro k k' H A E;exact mM h.d2 (dF A) (dF E)
 ·intro k n e;obtain⟨rfl,o,A,E⟩:=wg h.ok (dF e);exact⟨o,gl h.d3 A,E⟩
 ·intro k k' m C H A E;exact tg h.d4 (dF A) (dF E)
 ·intro k e;obtain⟨u,D⟩:=xN (i:=0) h.ok;simp only[td,List.mem_append];rcases e with e|e
  ·left;obtain⟨x,O,rfl⟩:=List.mem_map.1 (nE e);exact u x O
  ·right;obtain⟨x,O,rfl⟩:=List.mem_map.1 (nE e);exact D x O
theorem sn.rel {σ:St} {p:List PA} {l:List AV} (h:sn σ.boxes σ.toks p l) {w:World} {g:Gh} (W:Inv w g σ) {vs:List Value} (T:bH g l vs):bH (g.fY (wZ σ.boxes p l)) (yX 0 p) vs :=
 (vg (ou W) (xM (ρ:=wZ σ.boxes p l) h.ok (fun e P=>gl h.d1 P) (fun e P=>gl h.d3 P)) T).1
end Go.cu
namespace Go.cu
def pL (s:Nat):List (Nat×Nat)->List (Nat×Nat)
 | []=>[]
 | (k,n)::l=>(k+s,n)::pL s l
def pM (ts:List (Nat×Nat)):List Nat->List (Nat×Nat)
 | []=>[]
 | k::l=>match ak k ts with
  | some n=>(k,n+1)::pM ts l
  | none=>pM ts l
def Md (m:Nat):Nat->List LV->Option (List AV)
 | _,[]=>some []
 | k,.c v::l=>match Md m (k+1) l with
  | some r=>some (.c v::r)
  | none=>none
 | k,.own s rows::l=>match Md m (k+1) l with
  | some r=>some (.own (.tok k m) s rows::r)
  | none=>none
theorem B4 (m:Nat):∀(k:Nat) (l:List LV),Md m k l=some (Ar m k l)
 | _,[]=>rfl
 | k,.c v::l=>by simp only[Md,B4 m (k+1) l,Ar,LV.av]
 | k,.own s rows::l=>by simp only[Md,B4 m (k+1) l,Ar,LV.av]
def GQ (bx:List (Nat×Nat)) (s:Nat):List (Nat×List LV)->Option (List (Nat×List AV))
 | []=>some []
 | (i,cells)::l=>match ak (pb i) bx with
  | some G=>match Md 1 (pb i+1+s) cells with
   | some c=>match GQ bx s l with
    | some r=>some ((G,c)::r)
    | none=>none
   | none=>none
  | none=>none
def fX {α:Type}:List (Nat×α)->List Nat
 | []=>[]
 | (k,_)::l=>k::fX l
theorem kV {α:Type}:∀(l:List (Nat×α)),fX l=l.map (·.1)
 | []=>rfl
 | (k,_)::l=>by simp[fX,kV l]
def Dw (l:List Nat):List Nat->Bool
 | []=>true
 | x::r=>match mem x l with
  | true=>Dw l r
  | false=>false
def Hp (l:List Nat):List Nat->Bool
 | []=>true
 | x::r=>match mem x l with
  | true=>false
  | false=>Hp l r
theorem sq {l:List Nat}:∀{r:List Nat},Dw l r=true->∀x∈r,x∈l
 | [],_,x,h=>by simp at h
 | y::r,h,x,O=>by
  simp only[Dw]at h;split at h
  ·rename_i u;rcases List.mem_cons.1 O with rfl|O
   ·exact mem_iff.1 u
   ·exact sq h x O
  ·simp at h
theorem Dx {l:List Nat}:∀{r:List Nat},Hp l r=true->∀x∈r,x ∉ l
 | [],_,x,h=>by simp at h
 | y::r,h,x,O=>by
  simp only[Hp]at h;split at h
  ·simp at h
  ·rename_i u;rcases List.mem_cons.1 O with rfl|O
   ·exact cS u
   ·exact Dx h x O
theorem Dy {s:Nat}:∀{l:List (Nat×Nat)} {k n:Nat},ak k (pL s l)=some n->∃j,k=j+s/\ak j l=some n
 | [],k,n,h=>by simp[pL,ak]at h
 | (j,m)::l,k,n,h=>by
  simp only[pL,aq]at h;split at h
  ·rename_i D;exact⟨j,D,by rw[aq,if_pos rfl];exact h⟩
  ·rename_i D;obtain⟨i,rfl,h2⟩:=Dy h;exact⟨i,rfl,by rw[aq,if_neg bn];exact h2⟩
theorem Bg {s:Nat}:∀{l:List (Nat×Nat)} {j:Nat},ak (j+s) (pL s l)=ak j l
 | [],j=>rfl
 | (i,m)::l,j=>by
  simp only[pL,aq];by_cases h:j=i
  ·simp_all
  ·rw[if_neg bn,if_neg h,Bg]
theorem Bh {α:Type} {k:Nat}:∀{a b:List (Nat×α)},ak k (a++b)=match ak k a with
  | some v=>some v
  | none=>ak k b
 | [],b=>rfl
 | (j,x)::a,b=>by
  simp only[List.cons_append,aq];split
  ·rfl
  ·exact Bh
theorem xO {ts:List (Nat×Nat)}:∀{l:List Nat} {k n:Nat},ak k (pM ts l)=some n->k∈l/\∃m,ak k ts=some m/\n=m+1
 | [],k,n,h=>by simp[pM,ak]at h
 | j::l,k,n,h=>by
  simp only[pM]at h
  split at h
  ·rename_i m hm
   rw[aq]at h
   split at h
   ·simp_all
   ·obtain⟨h1,h2⟩:=xO h;exact⟨QZ,h2⟩
  ·obtain⟨h1,h2⟩:=xO h;exact⟨QZ,h2⟩
theorem Au {ts:List (Nat×Nat)}:∀{l:List Nat} {k m:Nat},k∈l->ak k ts=some m->ak k (pM ts l)=some (m+1)
 | [],k,m,h,_=>by simp at h
 | j::l,k,m,h,hm=>by
  simp only[pM];by_cases D:k=j
  ·subst D;rw[hm];simp[aq]
  ·have Y:k∈l:=by simpa[D]using h
   split
   ·rw[aq,if_neg D];exact Au Y hm
   ·exact Au Y hm
theorem JL {bx:List (Nat×Nat)} {s:Nat}:∀{u:List (Nat×List LV)} {nb:List (Nat×List AV)},GQ bx s u=some nb ->
  (∀k v,(k,v)∈nb->∃i cells,(i,cells)∈u/\ak (pb i) bx=some k/\v=Ar 1 (pb i+1+s) cells)/\(∀i cells k,(i,cells)∈u->ak (pb i) bx=some k->k∈nb.map (·.1))
 | [],nb,h=>by simp[GQ]at h;subst h;simp
 | (i,cells)::u,nb,h=>by
  simp only[GQ,B4]at h;split at h
  ·rename_i G Y;split at h
   ·rename_i r I;simp at h;subst h;obtain⟨h1,h2⟩:=JL I;constructor
    ·grind
    ·grind
   ·simp at h
  ·simp at h
theorem yZ:∀{os:List (Nat×List LV)} {k:Nat} {v:List AV},(k,v)∈qx os->∃i cells,(i,cells)∈os/\k=pb i/\v=Ar 1 (pb i+1) cells
 | [],k,v,h=>by simp[qx]at h
 | (i,cells)::os,k,v,h=>by
  simp only[qx,List.mem_cons]at h
  rcases h with h|h
  ·grind
  ·obtain⟨i',c',h1,h2,h3⟩:=yZ h;exact⟨i',c',QZ,h2,h3⟩
theorem JM:∀{u:List (Nat×List LV)} {i:Nat} {cells:List LV},(i,cells)∈u->(pb i,Ar 1 (pb i+1) cells)∈qx u
 | [],i,cells,h=>by simp at h
 | (j,c)::u,i,cells,h=>by
  simp only[qx,List.mem_cons];rcases List.mem_cons.1 h with h|h
  ·simp_all
  ·exact .inr (JM h)
theorem JN:∀{u:List (Nat×List LV)} {i:Nat} {cells:List LV} {e:Nat×Nat},(i,cells)∈u->e∈xq 1 (pb i+1) cells->e∈oP u
 | [],i,cells,e,h,_=>by simp at h
 | (j,c)::u,i,cells,e,h,he=>by
  simp only[oP,List.mem_append];rcases List.mem_cons.1 h with h|h
  ·simp_all
  ·exact .inr (JN h he)
section
variable {g g' : Gh} {s : Nat}
theorem LV.shift (C:g.G.le g'.G) {m k:Nat}:∀{x:LV} {u:Value},(∀e∈x.tk k m,g'.tok (e.1+s)=g.tok e.1)->aJ g (x.av k m) u->aJ g' (x.av (k+s) m) u/\((x.av k m).one=true->(x.av (k+s) m).one=true)
 | .c v,u,_,h=>by
  simp only[LV.av,aJ]at h ⊢;exact⟨Rel.mono C _ _ h,fun h=>h⟩
 | .own q rows,u,M,h=>by
  simp only[LV.av,aJ]at h ⊢;obtain⟨base,V,E,A,U,B,Q,Y,I,W,T⟩:=h;refine⟨⟨base,V,E,A,U,B,Q.mono C,Y,I,?_,T⟩,fun _=>rfl⟩;have:=M (k,m) (by simp[LV.tk]);rw[this];exact W
theorem FR (C:g.G.le g'.G) {m:Nat}:∀{k:Nat} {xs:List LV} {us:List Value},(∀e∈xq m k xs,g'.tok (e.1+s)=g.tok e.1)->bH g (Ar m k xs) us->bH g' (Ar m (k+s) xs) us
 | k,[],us,_,h=>by simp only[Ar,bH]at h ⊢;exact h
 | k,x::xs,us,M,h=>by
  simp only[Ar,bH]at h ⊢;simp only[xq,List.mem_append]at M;obtain⟨u,us',A,E,B⟩:=h;refine⟨u,us',A,(LV.shift C (fun e P=>M e (.inl P)) E).1,?_⟩;have:=FR C (k:=k+1) (fun e P=>M e (.inr P)) B;rwa[show k+1+s=k+s+1 from by omega]at this
theorem Bi (C:g.G.le g'.G) {w:World} {m b:Nat}:∀{k:Nat} {xs:List LV} {o:Nat},(∀e∈xq m k xs,g'.tok (e.1+s)=g.tok e.1)->cy w g b o (Ar m k xs)->cy w g' b o (Ar m (k+s) xs)
 | k,[],o,_,h=>trivial
 | k,x::xs,o,ht,h=>by
  simp only[xq,List.mem_append]at ht;obtain⟨⟨u,Y,J,W⟩,c4,c5⟩:=h;obtain⟨A,E⟩:=LV.shift (k:=k) C (fun e P=>ht e (.inl P)) J;have:=Bi C (k:=k+1) (fun e P=>ht e (.inr P)) c5;rw[show k+1+s=k+s+1 from by omega]at this;exact⟨⟨u,Y,A,E W⟩,c4,this⟩
theorem Dz (m:Nat):∀(k:Nat) (xs:List LV),(Ar m k xs).length=xs.length
 | _,[]=>rfl
 | k,x::xs=>by simp[Ar,Dz m (k+1) xs]
end
def pg (nb:List (Nat×List AV)) (Y:List (Nat×Nat)) (W:List Nat) (σ:St):St:=⟨oG nb σ.boxes,oG Y σ.toks,W++σ.used⟩
set_option maxHeartbeats 1000000 in
theorem PM {w w':World} {g g':Gh} {σ:St} {ps:List PA} {l:List AV} {os:List (Nat×List LV)} {rs:List LV} (hi:Inv w g σ) (H:sn σ.boxes σ.toks ps l)
  (hi':Inv w' g' (wY os rs)) (hk:gW w (g.fY (wZ σ.boxes ps l)) (td ps) w' g' (wY os rs)) (s:Nat) {nb:List (Nat×List AV)} (hnb:GQ (jx σ.boxes 0 ps l) s os=some nb)
  (hall:∀x∈(jx σ.boxes 0 ps l).map (·.1),x∈(qx os).map (·.1)) {fr:List (Nat×Nat)} (hfr:fr=pL s (oP os++xq 0 rk rs)) {bu:List (Nat×Nat)} (RF:bu=pM σ.toks (cR (jn σ.boxes 0 ps l)))
  (Ln:distinct ((qx os).map (·.1))=true) (jo:distinct (nb.map (·.1))=true) (ie:distinct ((fr++bu).map (·.1))=true) (hfu:∀x∈fr.map (·.1),x ∉ σ.used) (hot:distinct ((oP os++xq 0 rk rs).map (·.1))=true) :
  ∃xF,Inv w' xF (pg nb (fr++bu) (fr.map (·.1)) σ)/\gW w g σ w' xF (pg nb (fr++bu) (fr.map (·.1)) σ)/\g.le xF/\∀u,aJ g' (qg 0 rs) u->aJ xF (qg s rs) u:=by
 have hts:=ou hi;let gc:=g.fY (wZ σ.boxes ps l)
 let xF:Gh:=⟨g'.G,g.box,fun k=>match ak k fr with
  | some _=>g'.tok (k-s)
  | none=>match ak k bu with
   | some n=>some (n,none)
   | none=>g.tok k,g.room⟩
 have Me:∀k cs b,ak k (td ps).boxes=some cs->gc.box k=some b->∃kb oc,(k,kb)∈jx σ.boxes 0 ps l/\ak kb σ.boxes=some oc/\g.box kb=some b:=by
  intro k cs b e e1;obtain⟨kb,oc,Oa,f1,f2,_⟩:=sj H.ok (dF e);refine⟨kb,oc,f1,f2,?_⟩;have:(wZ σ.boxes ps l).bx k=some kb:=gl H.d1 f1;simpa only[gc,Gh.fY,this]using e1
 have SF:∀k n b lo hi,ak k (td ps).toks=some n->gc.tok k=some (n,some (b,lo,hi))->∃old n',old∈cR (jn σ.boxes 0 ps l)/\ak old σ.toks=some n'/\g.tok old=some (n',some (b,lo,hi)):=by
  intro k n b lo hi e e1;obtain⟨rfl,o,f1,f2⟩:=wg H.ok (dF e);have h1:(wZ σ.boxes ps l).tk k=some (0,o):=gl H.d3 f1;cases o with
  | none=>simp[gc,Gh.fY,h1]at e1
  | some old =>
   obtain⟨n',h3⟩:=f2 old rfl;obtain⟨fU,h4⟩:=hts old n' h3;simp[gc,Gh.fY,h1,h4]at e1;subst e1;exact⟨old,n',tf.2 ⟨k,0,f1⟩,h3,h4⟩
 have Mf:∀b o,iJ gc (td ps) b o->iJ g σ b o:=by
  rintro b o (⟨k,cs,h1,h2⟩|⟨k,n,lo,hi',h1,h2,h3,h4⟩)
  ·obtain⟨kb,oc,_,f2,f3⟩:=Me k cs b h1 h2;exact .inl ⟨kb,oc,f2,f3⟩
  ·obtain⟨old,n',_,f2,f3⟩:=SF k n b lo hi' h1 h2;exact .inr ⟨old,n',lo,hi',f2,f3,h3,h4⟩
 have hfree:∀k0 c0 b,ak k0 σ.boxes=some c0->g.box k0=some b->k0 ∉ (jx σ.boxes 0 ps l).map (·.2)->∀o,¬iJ gc (td ps) b o:=by
  rintro k0 c0 b e1 e2 e3 o (⟨k,cs,h1,h2⟩|⟨k,n,lo,hi',h1,h2,h3,h4⟩)
  ·obtain⟨kb,oc,f1,f2,f3⟩:=Me k cs b h1 h2;have:=hi.fF k0 kb c0 oc b e1 f2 e2 f3;subst this;exact e3 (List.mem_map.2 ⟨_,f1,rfl⟩)
  ·obtain⟨old,n',_,f2,f3⟩:=SF k n b lo hi' h1 h2;obtain⟨fU,f4,f5⟩:=hi.tok old n' f2;rw[f3]at f4;simp at f4;exact(f5 b lo hi' f4.symm).2.2 k0 c0 e1 e2
 have Xw:∀k0 n0 b Ex qq,ak k0 σ.toks=some n0->g.tok k0=some (n0,some (b,Ex,qq))->k0 ∉ cR (jn σ.boxes 0 ps l)->∀o,¬iJ gc (td ps) b o:=by
  rintro k0 n0 b Ex qq e1 e2 e3 o (⟨k,cs,h1,h2⟩|⟨k,n,lo,hi',h1,h2,h3,h4⟩)
  ·obtain⟨kb,oc,f1,f2,f3⟩:=Me k cs b h1 h2;obtain⟨fU,f4,f5⟩:=hi.tok k0 n0 e1;rw[e2]at f4;simp at f4;exact(f5 b Ex qq f4.symm).2.2 kb oc f2 f3
  ·obtain⟨old,n',f1,f2,f3⟩:=SF k n b lo hi' h1 h2;have:=hi.gA k0 old n0 n' b Ex qq lo hi' e1 f2 e2 f3;subst this;exact e3 f1
 have hsame:∀b,b<w.heap.size->(∀o,¬iJ gc (td ps) b o)->∀o,w'.cell? ⟨b,o,none⟩=w.cell? ⟨b,o,none⟩/\w'.frozen? ⟨b,o,none⟩=w.frozen? ⟨b,o,none⟩:=fun b h1 h2 o=>hk.kept b o h1 (h2 o);have Xx:∀b o,b<w.heap.size->¬iJ gc (td ps) b o->g.G b o=none->g'.G b o=none:=by
  intro b o h1 h2 h3;cases hg:g'.G b o with
  | none=>rfl
  | some v =>
   rcases hk.new b o v hg with h|h|h
   ·change g.G b o=some v at h;rw[h3]at h;simp at h
   ·omega
   ·exact absurd h h2
 have ZK:∀k n,ak k fr=some n->∃j,k=j+s/\ak j (oP os++xq 0 rk rs)=some n/\k ∉ σ.used/\xF.tok k=g'.tok j:=by
  intro k n e;have wQ:=dF e;subst hfr;obtain⟨j,rfl,h2⟩:=Dy e;exact⟨j,rfl,h2,hfu _ (List.mem_map.2 ⟨_,wQ,rfl⟩),by simp only[xF,e,Nat.add_sub_cancel]⟩
 have ZL:∀k n,ak k bu=some n->k∈cR (jn σ.boxes 0 ps l)/\∃m,ak k σ.toks=some m/\n=m+1:=by
  intro k n e;subst RF;exact xO e
 have ZM:∀e∈(oP os++xq 0 rk rs),xF.tok (e.1+s)=g'.tok e.1:=by
  intro e he;have h1:ak (e.1+s) fr=some e.2:=by
   rw[hfr,Bg];exact gl hot he
  simp only[xF,h1,Nat.add_sub_cancel]
 have hle:g.le xF:=by
  refine⟨hk.le,fun _ _ h=>h,fun _ _ _=>rfl,fun k hw fU e=>?_⟩;cases h1:ak k fr with
  | some n =>
   obtain⟨j,_,_,h2,_⟩:=ZK k n h1;exact absurd (hi.used k (.inr (by rw[e];simp))) h2
  | none =>
   cases h2:ak k bu with
   | some n =>
    obtain⟨_,m,h3,rfl⟩:=ZL k n h2;obtain⟨Da,h4⟩:=hts k m h3;rw[e]at h4;simp at h4;exact⟨m+1,none,by simp only[xF,h1,h2],bn,bn⟩
   | none=>exact⟨hw,fU,by simp only[xF,h1,h2];exact e,aam _,fun _=>rfl⟩
 obtain⟨ob1,ob2⟩:=JL hnb;have zS:∀k cs,ak k (oG nb σ.boxes)=some cs->(∃oc,ak k σ.boxes=some oc)/\∃b,g.box k=some b/\b<w.heap.size/\(∀o,g'.G b o=none)/\cy w' xF b 0 cs/\∀o,(o<g.room k->∃u,w'.cell? ⟨b,o,none⟩=some u)/\w'.frozen? ⟨b,o,none⟩=false:=by
  intro k cs e;rw[kG jo]at e;split at e
  ·rename_i v hv;simp at e;subst e;obtain⟨i,cells,h1,h2,rfl⟩:=ob1 k v (dF hv);have hmem:=dF h2;have h3:ak (pb i) (qx os)=some (Ar 1 (pb i+1) cells):=gl Ln (JM h1);have h4:=hk.ids (pb i) (Nat.le_add_right _ _) (by show ak (pb i) (qx os)≠none;rw[h3];simp);cases hc:ak (pb i) (td ps).boxes with
   | none=>exact absurd hc h4.1
   | some ic =>
    obtain⟨kb,oc,Oa,f1,f2,_⟩:=sj H.ok (dF hc);have:ak (pb i) (jx σ.boxes 0 ps l)=some kb:=gl H.d1 f1;rw[h2]at this;simp at this;subst this;obtain⟨b,b1,b2,b3,b4⟩:=hi.box k oc f2;obtain⟨b',c1,c2,c3,c4⟩:=hi'.box (pb i) _ h3;have w8:gc.box (pb i)=some b:=by
     have:(wZ σ.boxes ps l).bx (pb i)=some k:=h2;simp only[gc,Gh.fY,this,b1]
    have Xy:gc.room (pb i)=g.room k:=by
     have:(wZ σ.boxes ps l).bx (pb i)=some k:=h2;simp only[gc,Gh.fY,this]
    have Yq:=hi'.room (pb i) _ b' h3 c1;rw[h4.2.2,Xy]at Yq;rw[h4.2.1,w8]at c1;simp at c1;subst c1;refine⟨⟨oc,f2⟩,b,b1,b2,c3,?_,Yq⟩;have:=Bi (g:=g') (g':=xF) (s:=s) (jm.le.refl _) (k:=pb i+1) (fun e he=>ZM e (List.mem_append.2 (.inl (JN h1 he)))) c4;rwa[show pb i+1+s=pb i+1+s from rfl]at this
  ·rename_i hv;have hnot:k ∉ (jx σ.boxes 0 ps l).map (·.2):=by
    intro hm;obtain⟨x,hx,rfl⟩:=List.mem_map.1 hm;obtain⟨y,hy,hyx⟩:=List.mem_map.1 (hall x.1 (List.mem_map.2 ⟨x,hx,rfl⟩));obtain⟨i,cells,h1,h2,_⟩:=yZ (k:=y.1) (v:=y.2) hy;have h3:ak (pb i) (jx σ.boxes 0 ps l)=some x.2:=by rw[<- h2,hyx];exact gl H.d1 hx
    have h4:=ob2 i cells x.2 h1 h3;obtain⟨z,hz,hzx⟩:=List.mem_map.1 h4;have:=gl (k:=z.1) (v:=z.2) jo hz;rw[hzx,hv]at this;simp at this
   obtain⟨b,b1,b2,b3,b4⟩:=hi.box k cs e;have hno:=hfree k cs b e b1 hnot
   exact⟨⟨cs,e⟩,b,b1,b2,fun o=>Xx b o b2 (hno o) (b3 o),(cy.of_same (hsame b b2 hno) b4).mono hle,fun o=>by
    obtain⟨q1,q2⟩:=hi.room k cs b e b1 o
    exact⟨fun ho=>(q1 ho).imp fun u hu=>(hsame b b2 hno o).1.trans hu,(hsame b b2 hno o).2.trans q2⟩⟩
 have BW:∀k n,ak k (oG (fr++bu) σ.toks)=some n->(∃j,k=j+s/\ak j (oP os++xq 0 rk rs)=some n/\xF.tok k=g'.tok j/\k ∉ σ.used)\/xF.tok k=some (n,none) \/
   (ak k σ.toks=some n/\xF.tok k=g.tok k/\k ∉ cR (jn σ.boxes 0 ps l)):=by
  intro k n e;rw[kG ie,Bh]at e;cases h1:ak k fr with
  | some m =>
   rw[h1]at e;simp at e;subst e;obtain⟨j,rfl,h2,h3,h4⟩:=ZK k m h1;exact .inl ⟨j,rfl,h2,h4,h3⟩
  | none =>
   rw[h1]at e;simp only at e;cases h2:ak k bu with
   | some m =>
    rw[h2]at e;simp at e;subst e;right;left;simp only[xF,h1,h2]
   | none =>
    rw[h2]at e;simp only at e;right;right;refine⟨e,by simp only[xF,h1,h2],fun hm=>?_⟩;rw[RF,Au hm e]at h2;simp at h2
 have Hq:∀j n b lo qq,ak j (oP os++xq 0 rk rs)=some n->g'.tok j=some (n,some (b,lo,qq))->w.heap.size<=b\/∃old n',old∈cR (jn σ.boxes 0 ps l)/\ak old σ.toks=some n'/\∃Ex hi1,g.tok old=some (n',some (b,Ex,hi1))/\Ex<=lo/\qq<=hi1:=by
  intro j n b lo qq e e1;rcases hk.toks j n b lo qq e e1 with h|⟨k0,n0,Ex,hi1,h1,h2,h3,h4⟩
  ·exact .inl h
  ·grind
 refine⟨xF,⟨hi'.oF,?_,?_,?_,?_,?_,?_⟩,⟨hk.os,hk.tape,hk.output,hk.size,fun b hb hno=>hk.block b hb fun o ho=>hno o (Mf b o ho),fun b o hb hno=>hk.kept b o hb fun ho=>hno (Mf b o ho),hk.le,fun b o v h=>(hk.new b o v h).imp id fun h=>h.imp id (Mf b o),?_,?_,?_⟩,hle,?_⟩
 ·intro k cs e;obtain⟨_,b,b1,b2,b3,b4,_⟩:=zS k cs e;exact⟨b,b1,Nat.lt_of_lt_of_le b2 hk.size,b3,b4⟩
 ·intro k k' cs cs' b e e' e1 e2;obtain⟨⟨oc,h1⟩,_⟩:=zS k cs e;obtain⟨⟨U4,yW⟩,_⟩:=zS k' cs' e';exact hi.fF k k' oc U4 b h1 yW e1 e2
 ·intro k n e;rcases BW k n e with ⟨j,rfl,h1,h2,_⟩|h1|⟨h1,h2,h3⟩
  ·obtain⟨fU,h3,h4⟩:=hi'.tok j n h1;refine⟨fU,h2.trans h3,fun b lo qq hr=>?_⟩;obtain⟨f1,f2,f3⟩:=h4 b lo qq hr;refine⟨f1,f2,fun k' cs e'=>?_⟩;obtain⟨⟨oc,g1⟩,b',b1,b2,_⟩:=zS k' cs e';show g.box k'≠some b;rw[b1];intro zG;simp at zG;subst zG;subst hr;rcases Hq j n b' lo qq h1 h3 with h|⟨old,n',_,q2,Ex,hi1,q3,_,_⟩
   ·omega
   ·obtain⟨Da,q4,q5⟩:=hi.tok old n' q2;rw[q3]at q4;simp at q4;exact(q5 _ _ _ q4.symm).2.2 k' oc g1 b1
  ·simp_all
  ·obtain⟨fU,h4,h5⟩:=hi.tok k n h1;refine⟨fU,h2.trans h4,fun b lo qq hr=>?_⟩;obtain⟨f1,f2,f3⟩:=h5 b lo qq hr;subst hr;have hno:=Xw k n b lo qq h1 h4 h3;refine⟨Nat.lt_of_lt_of_le f1 hk.size,fun o o1 o2=>?_,fun k' cs e'=>?_⟩
   ·grind
   ·obtain⟨⟨oc,g1⟩,_⟩:=zS k' cs e';exact f3 k' oc g1
 ·intro k k' n n' b lo qq lo' hi1 e e' e1 e2;rcases BW k n e with ⟨j,rfl,h1,h2,V4⟩|h1|⟨h1,h2,h3⟩
  ·rw[h2]at e1;rcases BW k' n' e' with ⟨j',rfl,yW,Ap,_⟩|yW|⟨yW,Ap,Yp⟩
   ·rw[Ap]at e2;have:=hi'.gA j j' n n' b lo qq lo' hi1 h1 yW e1 e2;rw[this]
   ·simp_all
   ·rw[Ap]at e2;exfalso;obtain⟨fU,q1,q2⟩:=hi.tok k' n' yW;rw[e2]at q1;simp at q1;have hlt:=(q2 _ _ _ q1.symm).1;rcases Hq j n b lo qq h1 e1 with h|⟨old,m,r1,r2,Ex,hi2,r3,_,_⟩
    ·omega
    ·have:=hi.gA k' old n' m b lo' hi1 Ex hi2 yW r2 e2 r3;subst this;exact Yp r1
  ·simp_all
  ·rw[h2]at e1;rcases BW k' n' e' with ⟨j',rfl,yW,Ap,_⟩|yW|⟨yW,Ap,Yp⟩
   ·rw[Ap]at e2;exfalso;obtain⟨fU,q1,q2⟩:=hi.tok k n h1;rw[e1]at q1;simp at q1;have hlt:=(q2 _ _ _ q1.symm).1;rcases Hq j' n' b lo' hi1 yW e2 with h|⟨old,m,r1,r2,Ex,hi2,r3,_,_⟩
    ·omega
    ·have:=hi.gA k old n m b lo qq Ex hi2 h1 r2 e1 r3;subst this;exact h3 r1
   ·simp_all
   ·rw[Ap]at e2;exact hi.gA k k' n n' b lo qq lo' hi1 h1 yW e1 e2
 ·intro k e;show k∈fr.map (·.1)++σ.used;rw[List.mem_append];rcases e with e|e
  ·exact .inr (hi.used k (.inl e))
  ·cases h1:ak k fr with
   | some m=>exact .inl (List.mem_map.2 ⟨_,dF h1,rfl⟩)
   | none =>
    right;cases h2:ak k bu with
    | some m =>
     obtain⟨_,q,h3,_⟩:=ZL k m h2;obtain⟨fU,h4⟩:=hts k q h3;exact hi.used k (.inr (by rw[h4];simp))
    | none=>apply hi.used k;right;simpa only[xF,h1,h2]using e
 ·intro k cs b e e1;obtain⟨_,b',b1,_,_,_,Yq⟩:=zS k cs e;have PN:g.box k=some b:=e1;rw[b1]at PN;cases PN;exact Yq
 ·intro k cs b e e1;obtain⟨⟨oc,h1⟩,_⟩:=zS k cs e;exact .inr ⟨k,oc,h1,e1⟩
 ·intro k n b lo qq e e1;rcases BW k n e with ⟨j,rfl,h1,h2,_⟩|h1|⟨h1,h2,h3⟩
  ·grind
  ·simp_all
  ·grind
 ·intro k _ e;cases hc:ak k (oG nb σ.boxes)with
  | none=>exact absurd hc e
  | some cs =>
   obtain⟨⟨oc,h1⟩,_⟩:=zS k cs hc;exact⟨by rw[h1];simp,rfl,rfl⟩
 ·intro u h;have hsub:∀e∈xq 0 rk rs,xF.tok (e.1+s)=g'.tok e.1:=fun e he=>ZM e (List.mem_append.2 (.inr he))
  match rs,h,hsub with
  | [],h,_=>simp only[qg,aJ,Rel]at h ⊢;exact h
  | [x],h,hsub =>
   simp only[qg]at h ⊢;have:=(LV.shift (g:=g') (g':=xF) (s:=s) (jm.le.refl _) (k:=rk) (fun e he=>hsub e (by simp only[xq,List.mem_append];exact .inl he)) h).1;exact this
  | x::y::r,h,hsub =>
   simp only[qg,aJ]at h ⊢;obtain⟨vs,e1,e2,e3⟩:=h;refine⟨vs,e1,FR (g:=g') (g':=xF) (jm.le.refl _) hsub e2,?_⟩;rw[Dz]at e3 ⊢;exact e3
end Go.cu
namespace Go.cu
theorem jI:∀{a b:List (Nat×(Nat×Option Nat))},cR (a++b)=cR a++cR b
 | [],b=>rfl
 | (k,m,none)::a,b=>by simp[cR,jI (a:=a)]
 | (k,m,some o)::a,b=>by simp[cR,jI (a:=a)]
section
variable {bs Ob : List (Nat × List AV)} {ts FU : List (Nat × Nat)}
theorem DA {m k:Nat}:∀{x:LV} {a:AV},As ts x a->(∀j∈cR (At m k x a),ak j FU=ak j ts)->As FU x a
 | .c v,a,h,_=>h
 | .own s rows,a,h,M=>by
  simp only[As]at h ⊢;rcases qK h with ⟨q,rfl,hq⟩|⟨k',n,rfl,O⟩
  ·exact h
  ·have:=M k' (by simp[At,cR]);simp only[JI,this,O];simp[Nat.beq_refl]
theorem Bj {m:Nat}:∀{k:Nat} {xs:List LV} {l:List AV},jt ts xs l->(∀j∈cR (nk m k xs l),ak j FU=ak j ts)->jt FU xs l
 | k,[],l,h,_=>h
 | k,x::xs,l,h,M=>by
  simp only[jt]at h ⊢;obtain⟨a,r,rfl,h1,h2⟩:=h;simp only[nk,jI,List.mem_append]at M;exact⟨a,r,rfl,DA h1 (fun j P=>M j (.inl P)),Bj h2 (fun j P=>M j (.inr P))⟩
theorem vh:∀{i:Nat} {p:List PA} {l:List AV},iV bs ts p l->(∀k∈(jx bs i p l).map (·.2),ak k Ob=ak k bs)->(∀k∈cR (jn bs i p l),ak k FU=ak k ts) ->
  iV Ob FU p l/\jx Ob i p l=jx bs i p l/\jn Ob i p l=jn bs i p l
 | i,[],l,h,_,_=>by simp only[iV]at h;subst h;exact⟨by simp[iV],rfl,rfl⟩
 | i,.v x::p,l,h,h1,h2=>by
  simp only[iV]at h;obtain⟨a,r,rfl,V,D⟩:=h;simp only[jx]at h1;simp only[jn,jI,List.mem_append]at h2;obtain⟨u,Y,B⟩:=vh D h1 (fun k W=>h2 k (.inr W));refine⟨by simp only[iV];exact⟨a,r,rfl,DA V (fun j P=>h2 j (.inl P)),u⟩,?_,?_⟩
  ·simp only[jx,Y]
  ·simp only[jn,B]
 | i,.box cells::p,l,h,h1,h2=>by
  simp only[iV]at h;obtain⟨G,U,r,rfl,V,D,q⟩:=h;simp only[jx,List.map_cons,List.mem_cons,forall_eq_or_imp]at h1;simp only[jn,V,jI,List.mem_append]at h2;obtain⟨u,Y,B⟩:=vh q h1.2 (fun k W=>h2 k (.inr W));refine⟨by simp only[iV];exact⟨G,U,r,rfl,h1.1.trans V,Bj D (fun j P=>h2 j (.inl P)),u⟩,?_,?_⟩
  ·simp only[jx,Y]
  ·simp only[jn,B,h1.1]
end
theorem Bk {ts FU:List (Nat×Nat)}:∀{l:List Nat},(∀k∈l,ak k FU=ak k ts)->pM FU l=pM ts l
 | [],_=>rfl
 | k::l,h=>by
  simp only[pM,h k cn,Bk (l:=l) (fun j P=>h j (by simp[P]))]
def gI (ρ:Operand->Option AV):List Operand->Option (List AV)
 | []=>some []
 | x::l=>match ρ x with
  | some a=>match gI ρ l with
   | some r=>some (a::r)
   | none=>none
  | none=>none
theorem th {ρ Y:Operand->Option AV}:∀(l:List Operand),(∀x∈l,Y x=ρ x)->gI Y l=gI ρ l
 | [],_=>rfl
 | x::l,h=>by simp only[gI,h x cn,th l (fun y T=>h y (by simp[T]))]
theorem Av {g:Gh} {ρ:Operand->Option AV} {ev:Operand->Value} (W:∀x v,ρ x=some v->aJ g v (ev x)):∀{l:List Operand} {r:List AV},gI ρ l=some r->bH g r (l.map ev)
 | [],r,h=>by simp[gI]at h;subst h;simp[bH]
 | x::l,r,h=>by
  simp only[gI]at h;split at h
  ·rename_i a p;split at h
   ·rename_i O Y;simp at h;subst h;simp only[List.map_cons,bH];exact⟨_,_,rfl,W x a p,Av W Y⟩
   ·simp at h
  ·simp at h
theorem gX.more {Q:St->St} {W:List Nat} (h:gX Q ⟨[],W⟩) (R:List Nat):gX Q ⟨R,W⟩ :=
 ⟨fun σ k D=>h.out σ k D,fun σ G p k D=>h.same σ G (fun j P=>p j (P.elim (fun x=>by simp at x) .inr)) k D⟩
structure Aw (bs:List (Nat×List AV)) (ts:List (Nat×Nat)) (us:List Nat) (ps:List PA) (l:List AV) (rs:List LV) (os:List (Nat×List LV)) (s:Nat) (nb:List (Nat×List AV)) (fr bu:List (Nat×Nat)):Prop where
 H:sn bs ts ps l
 hnb:GQ (jx bs 0 ps l) s os=some nb
 hall:∀x∈(jx bs 0 ps l).map (·.1),x∈(qx os).map (·.1)
 hfr:fr=pL s (oP os++xq 0 rk rs)
 RF:bu=pM ts (cR (jn bs 0 ps l))
 Ln:distinct ((qx os).map (·.1))=true
 jo:distinct (nb.map (·.1))=true
 ie:distinct ((fr++bu).map (·.1))=true
 hfu:∀x∈fr.map (·.1),x ∉ us
 hot:distinct ((oP os++xq 0 rk rs).map (·.1))=true
theorem Aw.congr {bs Ob:List (Nat×List AV)} {ts FU:List (Nat×Nat)} {us PO:List Nat} {p:List PA} {l:List AV} {rs:List LV} {u:List (Nat×List LV)} {s:Nat} {nb:List (Nat×List AV)} {fr Y:List (Nat×Nat)}
  (h:Aw bs ts us p l rs u s nb fr Y) (h1:∀k∈(jx bs 0 p l).map (·.2),ak k Ob=ak k bs) (h2:∀k∈cR (jn bs 0 p l),ak k FU=ak k ts) (V:∀k∈fr.map (·.1),k∈PO↔k∈us) :
  Aw Ob FU PO p l rs u s nb fr Y:=by
 obtain⟨W,D,B⟩:=vh h.H.ok h1 h2
 exact⟨⟨W,by rw[D];exact h.H.d1,by rw[D];exact h.H.d2,by rw[B];exact h.H.d3,by rw[B];exact h.H.d4⟩,by rw[D];exact h.hnb,by rw[D];exact h.hall,h.hfr,by rw[B,Bk h2];exact h.RF,
  h.Ln,h.jo,h.ie,fun x O A=>h.hfu x O ((V x O).1 A),h.hot⟩
section
variable {P : Program} {X : Ctx}
theorem bW.Mg {o:Oper} {env:Env} {σ:St} {f:FuncId} {args:List Operand} (qf:∀x∈args,x∈o.op.operands.toList) {K:List AV} (hl:gI (aK X env) args=some K) {l:List AV} {U:List PA} {rs:List LV} {O:List (Nat×List LV)}
  (hq:bz P X f U rs O) {s:Nat} {nb:List (Nat×List AV)} {fr S:List (Nat×Nat)} (C:Aw σ.boxes σ.toks σ.used U l rs O s nb fr S)
  (I:∀(g:Gh) (w:World) (a:Act) (T:Env),(∀x∈o.op.operands.toList,aK X T x=aK X env x)->tN g T a.tmps->nw X g.G->∃vs:List Value,bH g l vs/\(execOp a.eval o).run P w = .ok (.enter f vs.toArray) w) :
  bW P X o env σ (qg s rs) (pg nb (fr++S) (fr.map (·.1))) ⟨(jx σ.boxes 0 U l).map (·.2)++cR (jn σ.boxes 0 U l),nb.map (·.1)++((fr++S).map (·.1)++fr.map (·.1))⟩:=by
 intro T V w g a next Q h1 h2 p N q W;have Y:=C.congr (Ob:=V.boxes) (FU:=V.toks) (PO:=V.used) (fun k D=>(h2 k (.inl (List.mem_append.2 (.inl D)))).1) (fun k D=>(h2 k (.inl (List.mem_append.2 (.inr D)))).2.1)
  (fun k D=>(h2 k (.inr (by simp only[List.mem_append];exact .inr (.inr D)))).2.2)
 obtain⟨vs,E,J⟩:=I g w a T h1 q N;have M:=Y.H.inv p;have B:=Y.H.rel p E;unfold Oper.wp;rw[J,Oper.upon_enter];refine(hq.2 _ w vs M N B).mono ?_;rintro e w' ⟨u,g',rfl,A,h4,h5⟩;obtain⟨xF,i1,i2,i3,i4⟩:=PM p Y.H h4 h5 s Y.hnb Y.hall Y.hfr Y.RF Y.Ln Y.jo Y.ie Y.hfu Y.hot;exact W u w' xF (i4 u A) i1 i2 i3
theorem bW.RG {o:Oper} {env:Env} {σ:St} {f:FuncId} {args:Array Operand} {B:Array TypeId} (q:o.op = .call {callee := .value (.func f),args:=args,argTypes:=B})
  {l:List AV} (I:gI (aK X env) args.toList=some l) {p:List PA} {rs:List LV} {u:List (Nat×List LV)}
  (hq:bz P X f p rs u) {s:Nat} {nb:List (Nat×List AV)} {fr Y:List (Nat×Nat)} (C:Aw σ.boxes σ.toks σ.used p l rs u s nb fr Y) :
  bW P X o env σ (qg s rs) (pg nb (fr++Y) (fr.map (·.1))) ⟨(jx σ.boxes 0 p l).map (·.2)++cR (jn σ.boxes 0 p l),nb.map (·.1)++((fr++Y).map (·.1)++fr.map (·.1))⟩:=by
 have V:∀x∈args.toList,x∈o.op.operands.toList:=by
  intro x O;rw[q];simp only[Op.operands,Call.operands,Array.toList_append,List.mem_append];exact .inr O
 refine bW.Mg V I hq C ?_;intro g w a T h1 J H;have A:gI (aK X T) args.toList=some l:=by
  rw[th _ (fun x O=>h1 x (V x O))];exact I
 refine⟨args.toList.map a.eval,Av (fun x v O=>cz J H O) A,?_⟩;rw[show(args.toList.map a.eval).toArray=args.map a.eval from by rw[<- Array.toList_map]];obtain⟨S,N,U,Q,W,guard⟩:=o;simp only at q;subst q;simp[execOp,resolve,Deferred.ofValue,invoke,Act.eval,hq.1 _ w]
def acj:List CV->List AV
 | []=>[]
 | v::l => .c v::acj l
def qW:List Nat->Option (List Nat)
 | []=>some []
 | x::l=>match qW l with
  | some r=>some (x::r)
  | none=>none
def jP {α:Type}:List (Nat×α)->Option (List (Nat×α))
 | []=>some []
 | (k,n)::l=>match jP l with
  | some r=>some ((k,n)::r)
  | none=>none
theorem wh:∀{l r:List Nat},qW l=some r->r=l
 | [],r,h=>by simp[qW]at h;exact h
 | x::l,r,h=>by
  simp only[qW]at h;split at h
  ·rename_i O I;simp at h;rw[<- h,wh I]
  ·simp at h
theorem mj {α:Type}:∀{l r:List (Nat×α)},jP l=some r->r=l
 | [],r,h=>by simp[jP]at h;exact h
 | (k,n)::l,r,h=>by
  simp only[jP]at h;split at h
  ·rename_i O I;simp at h;rw[<- h,mj I]
  ·simp at h
def both (a b:Bool):Bool:=match a with
 | true=>b
 | false=>false
theorem dW {a b:Bool} (h:both a b=true):a=true/\b=true:=by cases a<;>simp_all [both]
def vQ (us:List Nat) (bx:List (Nat×Nat)) (tk:List (Nat×(Nat×Option Nat))) (Y:List (Nat×List AV)) (nb:List (Nat×List AV)) (fr W V:List (Nat×Nat)):Bool :=
 both (distinct (fX bx)) (both (distinct (bx.map (·.2))) (both (distinct (fX tk)) (both (distinct (cR tk)) (both (Dw (fX Y) (fX bx)) (both (distinct (fX Y))
  (both (distinct (fX nb)) (both (distinct (fX (fr++W))) (both (Hp us (fX fr)) (distinct (fX V))))))))))
theorem PR {bs:List (Nat×List AV)} {ts:List (Nat×Nat)} {us:List Nat} {p:List PA} {l:List AV} {rs:List LV} {u:List (Nat×List LV)} {s:Nat} {nb:List (Nat×List AV)} {fr Y:List (Nat×Nat)}
  (hok:iV bs ts p l) {bx:List (Nat×Nat)} (N:jP (jx bs 0 p l)=some bx) {tk:List (Nat×(Nat×Option Nat))} (M:jP (jn bs 0 p l)=some tk) (W:GQ bx s u=some nb)
  (J:jP (pL s (oP u++xq 0 rk rs))=some fr) (I:jP (pM ts (cR tk))=some Y) (E:vQ us bx tk (qx u) nb fr Y (oP u++xq 0 rk rs)=true):Aw bs ts us p l rs u s nb fr Y:=by
 have h1:=mj N;have h2:=mj M;have H:=mj J;have G:=mj I;subst h1 h2 H G;unfold vQ at E;obtain⟨V,E⟩:=dW E;obtain⟨D,E⟩:=dW E;obtain⟨U,E⟩:=dW E;obtain⟨c4,E⟩:=dW E;obtain⟨T,E⟩:=dW E;obtain⟨S,E⟩:=dW E;obtain⟨K,E⟩:=dW E;obtain⟨Q,E⟩:=dW E;obtain⟨P,Lk⟩:=dW E;simp only[kV]at V D U c4 T S K Q P Lk;exact⟨⟨hok,V,D,U,c4⟩,W,fun x O=>sq T x O,rfl,rfl,S,K,Q,fun x O=>Dx P x O,Lk⟩
def LJ (d s:Nat) (rs:List LV) (env:Env):Option Env:=match rs with
 | []=>some ((d,.c .undef)::env)
 | [.c v]=>some ((d,.c v)::env)
 | [.own q rows]=>some ((d,.own (.tok (rk+s) 0) q rows)::env)
 | rs=>match Md 0 (rk+s) rs with
  | some l=>some ((d,.gB l)::env)
  | none=>none
theorem U5 {d s:Nat} {rs:List LV} {env env':Env} (h:LJ d s rs env=some env'):env'=(d,qg s rs)::env:=by
 match rs,h with
 | [],h=>simp[LJ]at h;subst h;rfl
 | [.c v],h=>simp[LJ]at h;subst h;rfl
 | [.own q rows],h=>simp[LJ]at h;subst h;rfl
 | x::y::r,h=>simp[LJ,B4]at h;subst h;rfl
end
section
variable {P : Program} {X : Ctx} {ops : Array Oper} {o : Oper} {rest : List Oper} {env : Env} {acc : List Fp} {Q : Env -> St -> List Fp -> Prop} {bs : List (Nat × List AV)} {ts : List (Nat × Nat)} {us : List Nat}
theorem ai.RG (kn:List Nat) (I:cV ops.toList kn env o=some true) {f:FuncId} {args:Array Operand} {V:Array TypeId} (H:o.op = .call {callee := .value (.func f),args:=args,argTypes:=V})
  {p:List PA} {rs:List LV} {u:List (Nat×List LV)} (hq:bz P X f p rs u) {l:List AV} (G:gI (aK X env) args.toList=some l) (hok:iV bs ts p l) {d:Nat} (E:o.dst=some d)
  {nb:List (Nat×List AV)} {fr Y W:List (Nat×Nat)} {bx:List (Nat×Nat)} (N:jP (jx bs 0 p l)=some bx) {tk:List (Nat×(Nat×Option Nat))} (S:jP (jn bs 0 p l)=some tk) (U:GQ bx (10000000*(d+1)) u=some nb)
  (J:jP (pL (10000000*(d+1)) (oP u++xq 0 rk rs))=some fr) (D:jP (pM ts (cR tk))=some Y) (A:vQ us bx tk (qx u) nb fr Y (oP u++xq 0 rk rs)=true)
  {bs':List (Nat×List AV)} (q:sO nb bs=some bs') (T:jP (fr++Y)=some W) {ts':List (Nat×Nat)} (B:sO W ts=some ts') {us':List Nat} (tX:qW (fX fr++us)=some us')
  {O M:List Nat} (hR:qW (bx.map (·.2)++cR tk)=some O) (hW:qW (fX nb++(fX W++fX fr))=some M) {env':Env} (he:LJ d (10000000*(d+1)) rs env=some env')
  (k:ai P X ops rest env' ⟨bs',ts',us'⟩ (⟨O,M⟩::acc) Q):ai P X ops (o::rest) env ⟨bs,ts,us⟩ acc Q:=by
 have C:=PR hok N S U J D A;have r2:=U5 he;have hs:=bW.RG (σ:=⟨bs,ts,us⟩) H G hq C;have e1:=mj T;have e2:=wh tX;have e3:=wh hR;have K:=wh hW;rw[Dt]at q B;simp at q B;have hE:gX (pg nb (fr++Y) (fr.map (·.1))) ⟨(jx bs 0 p l).map (·.2)++cR (jn bs 0 p l),nb.map (·.1)++((fr++Y).map (·.1)++fr.map (·.1))⟩:=(Mc nb (fr++Y) (fr.map fun(x:Nat×Nat)=>x.1) C.jo C.ie).more _;refine ai.step (dx I) hs hE ?_;rw[E];show ai P X ops rest ((d,_)::env) _ _ Q;rw[<- r2];simp only[pg];rw[e1]at B K;rw[q,B,<- kV fr,<- e2];have h1:=mj N;have h2:=mj S;rw[<- h1,<- h2,<- e3,<- kV nb,<- kV (fr++Y),<- K];exact k
end
end Go.cu
namespace Go.cu
def U6 (ts:List (Nat×Nat)):LV->AV->Option LV
 | .c _,a=>match close a with
  | some v=>some (.c v)
  | none=>none
 | .own s _,a=>match JI ts s a with
  | some rows=>some (.own s rows)
  | none=>none
def y8 (ts:List (Nat×Nat)):List LV->List AV->Option (List LV)
 | [],[]=>some []
 | x::xs,a::l=>match U6 ts x a with
  | some y=>match y8 ts xs l with
   | some r=>some (y::r)
   | none=>none
  | none=>none
 | _,_=>none
def Ax (bs:List (Nat×List AV)) (ts:List (Nat×Nat)):List (Nat×List LV)->Option (List (Nat×List LV))
 | []=>some []
 | (i,cells)::l=>match ak (pb i) bs with
  | some Y=>match y8 ts cells Y with
   | some y=>match Ax bs ts l with
    | some r=>some ((i,y)::r)
    | none=>none
   | none=>none
  | none=>none
def nF (bs:List (Nat×List AV)):List (Nat×List LV)->List (Nat×(Nat×Option Nat))
 | []=>[]
 | (i,cells)::l=>(match ak (pb i) bs with
  | some Y=>nk 1 (pb i+1) cells Y
  | none=>[])++nF bs l
def qh:List (Nat×List LV)->List (Nat×Nat)
 | []=>[]
 | (i,_)::l=>(pb i,pb i)::qh l
theorem U7 {ts:List (Nat×Nat)}:∀{x:LV} {a:AV} {y:LV},U6 ts x a=some y->As ts y a
 | .c _,a,y,h=>by
  simp only[U6]at h;split at h
  ·rename_i v T;simp at h;subst h;exact T
  ·simp at h
 | .own _ _,a,y,h=>by
  simp only[U6]at h;split at h
  ·rename_i rows T;simp at h;subst h;exact T
  ·simp at h
theorem y9 {ts:List (Nat×Nat)}:∀{xs:List LV} {l:List AV} {Y:List LV},y8 ts xs l=some Y->jt ts Y l
 | [],[],Y,h=>by simp[y8]at h;subst h;simp[jt]
 | [],_::_,Y,h=>by simp[y8]at h
 | _::_,[],Y,h=>by simp[y8]at h
 | x::xs,a::l,Y,h=>by
  simp only[y8]at h;split at h
  ·rename_i y T;split at h
   ·rename_i r I;simp at h;subst h;simp only[jt];exact⟨a,l,rfl,U7 T,y9 I⟩
   ·simp at h
  ·simp at h
def Ay (bs:List (Nat×List AV)) (ts:List (Nat×Nat)):List (Nat×List LV)->Prop
 | []=>True
 | (i,cells)::l=>(∃Y,ak (pb i) bs=some Y/\jt ts cells Y)/\Ay bs ts l
theorem Az {bs:List (Nat×List AV)} {ts:List (Nat×Nat)}:∀{u Y:List (Nat×List LV)},Ax bs ts u=some Y->Ay bs ts Y
 | [],Y,h=>by simp[Ax]at h;subst h;trivial
 | (i,cells)::l,Y,h=>by
  simp only[Ax]at h;split at h
  ·rename_i V W;split at h
   ·rename_i y T;split at h
    ·rename_i r I;simp at h;subst h;exact⟨⟨V,W,y9 T⟩,Az I⟩
    ·simp at h
   ·simp at h
  ·simp at h
theorem xP {bs:List (Nat×List AV)} {ts:List (Nat×Nat)}:∀{u:List (Nat×List LV)},Ay bs ts u->∀i cells,(i,cells)∈u->∃Y,ak (pb i) bs=some Y/\jt ts cells Y/\(∀e∈nk 1 (pb i+1) cells Y,e∈nF bs u)/\(pb i,pb i)∈qh u
 | [],_,i,cells,h=>by simp at h
 | (j,c)::l,⟨⟨Y,h1,h2⟩,h3⟩,i,cells,h=>by
  rcases List.mem_cons.1 h with h|h
  ·simp at h;obtain⟨rfl,rfl⟩:=h;exact⟨Y,h1,h2,fun e P=>by simp only[nF,h1,List.mem_append];exact .inl P,by simp[qh]⟩
  ·obtain⟨W,V,U,I,q⟩:=xP h3 i cells h;exact⟨W,V,U,fun e P=>by simp only[nF,List.mem_append];exact .inr (I e P),by simp[qh,q]⟩
theorem DB {bs:List (Nat×List AV)} {ts:List (Nat×Nat)} {j n:Nat}:∀{u:List (Nat×List LV)},Ay bs ts u->(j,n)∈oP u->∃o,(j,(n,o))∈nF bs u/\∀H,o=some H->∃V,ak H ts=some V
 | [],_,h=>by simp[oP]at h
 | (i,c)::l,⟨⟨Y,h1,h2⟩,h3⟩,h=>by
  simp only[oP,List.mem_append]at h;simp only[nF,h1,List.mem_append];rcases h with h|h
  ·obtain⟨rfl,o,E,B⟩:=v9 h2 h;exact⟨o,.inl E,B⟩
  ·obtain⟨o,E,B⟩:=DB h3 h;exact⟨o,.inr E,B⟩
theorem DC {bs:List (Nat×List AV)} {ts:List (Nat×Nat)}:∀{u:List (Nat×List LV)},Ay bs ts u->∀e∈nF bs u,e.1∈(oP u).map (·.1)
 | [],_,e,h=>by simp[nF]at h
 | (i,c)::l,⟨⟨Y,h1,h2⟩,h3⟩,e,h=>by
  simp only[nF,h1,List.mem_append]at h;simp only[oP,List.map_append,List.mem_append];exact h.imp (we h2 e) (DC h3 e)
theorem DD:∀{u:List (Nat×List LV)} {k v:Nat},(k,v)∈qh u->v=k/\k∈(qx u).map (·.1)
 | [],k,v,h=>by simp[qh]at h
 | (i,c)::l,k,v,h=>by
  simp only[qh,List.mem_cons]at h;simp only[qx,List.map_cons,List.mem_cons];rcases h with h|h
  ·simp_all
  ·obtain⟨A,E⟩:=DD h;exact⟨A,.inr E⟩
section
variable {P : Program} {X : Ctx} {f : FuncId} {n : Nat} {β : jH} {R : Ending -> World -> Prop} {K : List Item} {env : Env}
theorem oR (hX:cC P X) {T:Func} {σ:St} {g:Gh} {w:World} {a:Act} (N:Live X β n env σ g w a) {l:List AV} (h:s8 X σ.boxes env T.results.toList=some l) :
  ∃u,(results T a.tmps).run P w = .ok u w/\match l with|[]=>u=undef|[x]=>aJ g x u|l=>aJ g (.gB l) u:=by
 match l,h with
 | [],h =>
  obtain⟨vs,A,E⟩:=B0 hX N h;simp only[bH]at E;subst E;refine⟨.tuple #[],?_,rfl⟩;have:(T.results.mapM (Bd a.tmps)).run P w = .ok #[] w:=by
   rw[Array.mapM_eq_mapM_toList];simp only[Sem.run_map,A,Result.andThen_ok]
  rw[xH,Sem.run_bind,this];simp
 | [x],h=>exact s9 hX N (r:=x) (by unfold nL;rw[h])
 | x::y::r,h=>exact s9 hX N (r := .gB (x::y::r)) (by unfold nL;rw[h])
def tj (bx:List (Nat×Nat)) (tk:List (Nat×(Nat×Option Nat))):Bool :=
 both (distinct (fX bx)) (both (distinct (bx.map (·.2))) (both (distinct (fX tk)) (distinct (cR tk))))
theorem FV {σ:St} {g:Gh} {w:World} (G:Inv w g σ) {rs:List LV} {u:List (Nat×List LV)} {l:List AV} (I:jt σ.toks rs l) (q:Ay σ.boxes σ.toks u)
  (K:tj (qh u) (nF σ.boxes u++nk 0 rk rs l)=true) (C:distinct (fX (qx u))=true) :
  let ρ:Ren:=⟨fun k=>ak k (qh u),fun k=>ak k (nF σ.boxes u++nk 0 rk rs l)⟩
  Inv w (g.fY ρ) (wY u rs)/\gW w g σ w (g.fY ρ) (wY u rs)/\fy ρ σ.toks (Ar 0 rk rs) l:=by
 intro ρ;unfold tj at K;obtain⟨V,K⟩:=dW K;obtain⟨B,K⟩:=dW K;obtain⟨W,c4⟩:=dW K;rw[kV]at V W C;have p:fy ρ σ.toks (Ar 0 rk rs) l:=yY I fun e P=>gl W (List.mem_append.2 (.inr P))
 obtain⟨h1,h2⟩:=G.fY ρ (wY u rs) (by
   intro k cells e;obtain⟨i,U,D,rfl,rfl⟩:=yZ (dF e);obtain⟨T,S,Q,N,J⟩:=xP q i U D;exact⟨pb i,T,gl V J,S,yY Q fun e P=>gl W (List.mem_append.2 (.inl (N e P)))⟩) (by
   intro k k' H A E;exact mM B (dF A) (dF E)) (by
   intro k m e;have Y:=dF e;simp only[wY]at Y;rcases List.mem_append.1 Y with Y|Y
   ·obtain⟨o,A,E⟩:=DB q Y;exact⟨o,gl W (List.mem_append.2 (.inl A)),E⟩
   ·obtain⟨rfl,o,A,E⟩:=v9 I Y;exact⟨o,gl W (List.mem_append.2 (.inr A)),E⟩) (by
   intro k k' m m' H A E;exact tg c4 (dF A) (dF E)) (by
   intro k e;simp only[wY,List.mem_append,List.map_append];rcases e with e|e
   ·left;obtain⟨x,O,rfl⟩:=List.mem_map.1 (nE e);exact(DD (k:=x.1) (v:=x.2) O).2
   ·right;obtain⟨x,O,rfl⟩:=List.mem_map.1 (nE e);rcases List.mem_append.1 O with O|O
    ·exact .inl (DC q x O)
    ·exact .inr (we I x O))
 refine⟨h1,h2 ?_,p⟩;intro k _ e;cases M:ak k (wY u rs).boxes with
 | none=>exact absurd M e
 | some cells =>
  obtain⟨i,U,D,rfl,rfl⟩:=yZ (dF M);obtain⟨T,S,Q,N,J⟩:=xP q i U D;exact gl V J
theorem AK.BJ (hX:cC P X) {T:Func} (hf:P.funcs[f]?=some T) {bs:List (Nat×List AV)} {ts:List (Nat×Nat)} {us:List Nat} {rs W:List LV} {C Y:List (Nat×List LV)} {l:List AV} (I:s8 X bs env T.results.toList=some l)
  (h1:y8 ts rs l=some W) (h2:Ax bs ts C=some Y) (E:both (tj (qh Y) (nF bs Y++nk 0 rk W l)) (distinct (fX (qx Y)))=true)
  (A:W=rs) (U:Y=C):AK P X f n β (ER β rs C) (.code .ret::K) env ⟨bs,ts,us⟩:=by
 subst A U;intro g w a cs N;obtain⟨u,S,D⟩:=oR hX N I;obtain⟨Q,O⟩:=dW E;have hok:=y9 h1;obtain⟨M,H,B⟩:=FV N.inv hok (Az h2) Q O;refine⟨.returned u,w,_,⟨u,_,rfl,?_,M,N.frame.trans H⟩,.one step_ret,rfl,rfl,N.defers,rfl,T,hf,S⟩;have V:=ou N.inv;show aJ _ _ _
 match W,hok,B with
 | [],hok,B =>
  simp only[jt]at hok;subst hok;simp only[qg,aJ,Rel];exact D
 | [x],hok,B =>
  simp only[jt]at hok;obtain⟨y,r,rfl,_,rfl⟩:=hok;simp only[Ar,fy]at B;obtain⟨b,r',J,G,_⟩:=B;simp at J;obtain⟨rfl,_⟩:=J;simp only[qg];exact(qJ V G D).1
 | x::x'::r,hok,B =>
  simp only[jt]at hok;obtain⟨y,q,rfl,_,p,q',rfl,_,_⟩:=hok;simp only[qg];refine(qJ V (b := .gB (y::p::q')) ?_ D).1;simp only[Conv];exact⟨_,rfl,B⟩
def SG (ρ:Ren) (ts:List (Nat×Nat)) (env:Env):Env->Prop
 | []=>True
 | (t,a)::l=>(∃b,ak t env=some b/\Conv ρ ts a b)/\SG ρ ts env l
def FW (ρ:Ren) (ts:List (Nat×Nat)) (bs:List (Nat×List AV)):List (Nat×List AV)->Prop
 | []=>True
 | (k,cells)::l=>(∃H Y,ρ.bx k=some H/\ak H bs=some Y/\fy ρ ts cells Y)/\FW ρ ts bs l
theorem FX {ρ:Ren} {ts:List (Nat×Nat)} {env:Env}:∀{l:Env},SG ρ ts env l->∀t a,ak t l=some a->∃b,ak t env=some b/\Conv ρ ts a b
 | [],_,t,a,e=>by simp[ak]at e
 | (j,x)::l,h,t,a,e=>by
  rw[aq]at e;split at e
  ·rename_i M;simp at e;subst M e;exact h.1
  ·exact FX h.2 t a e
theorem sr {ρ:Ren} {ts:List (Nat×Nat)} {bs:List (Nat×List AV)}:∀{l:List (Nat×List AV)},FW ρ ts bs l->∀k c,ak k l=some c->∃H Y,ρ.bx k=some H/\ak H bs=some Y/\fy ρ ts c Y
 | [],_,t,a,e=>by simp[ak]at e
 | (j,x)::l,h,t,a,e=>by
  rw[aq]at e;split at e
  ·rename_i M;simp at e;subst M e;exact h.1
  ·exact sr h.2 t a e
def JO (ts:List (Nat×Nat)) (tk:List (Nat×(Nat×Option Nat))):List (Nat×Nat)->Bool
 | []=>true
 | (k,n)::l=>match ak k tk with
  | some (m,none)=>both (Nat.beq m n) (JO ts tk l)
  | some (m,some H)=>match ak H ts with
   | some _=>both (Nat.beq m n) (JO ts tk l)
   | none=>false
  | none=>false
theorem AA {ts:List (Nat×Nat)} {tk:List (Nat×(Nat×Option Nat))}:∀{l:List (Nat×Nat)},JO ts tk l=true->∀k n,ak k l=some n->∃o,ak k tk=some (n,o)/\∀H,o=some H->∃B,ak H ts=some B
 | [],_,k,n,e=>by simp[ak]at e
 | (j,m)::l,h,k,n,e=>by
  simp only[JO]at h;rw[aq]at e;split at h
  ·rename_i u W;obtain⟨V,Y⟩:=dW h;split at e
   ·simp_all
   ·exact AA Y k n e
  ·rename_i u H W;split at h
   ·rename_i z U;obtain⟨V,Y⟩:=dW h;split at e
    ·simp_all
    ·exact AA Y k n e
   ·simp at h
  ·simp at h
def FY:List (Nat×Nat)->Bool
 | []=>true
 | (k,v)::l=>match Nat.blt k 1000000 with
  | true=>FY l
  | false=>both (Nat.beq v k) (FY l)
theorem wj:∀{l:List (Nat×Nat)},FY l=true->∀k v,1000000<=k->ak k l=some v->v=k
 | [],_,k,v,_,e=>by simp[ak]at e
 | (j,x)::l,h,k,v,hk,e=>by
  simp only[FY]at h;rw[aq]at e;split at h
  ·rename_i p;have:j<1000000:=by simpa[Nat.blt_eq]using p
   rw[if_neg bn]at e;exact wj h k v hk e
  ·obtain⟨H,Y⟩:=dW h;split at e
   ·simp_all
   ·exact wj Y k v hk e
def JP (bx:List (Nat×Nat)) (tk:List (Nat×(Nat×Option Nat))) (ts ts':List (Nat×Nat)) (us':List Nat):Bool :=
 both (distinct (bx.map (·.2))) (both (distinct (cR tk)) (both (JO ts tk ts') (both (FY bx) (both (Dw us' (fX bx)) (Dw us' (fX tk))))))
theorem AK.fY {bs:List (Nat×List AV)} {ts:List (Nat×Nat)} {us:List Nat} (bx:List (Nat×Nat)) (tk:List (Nat×(Nat×Option Nat))) {env':Env} {bs':List (Nat×List AV)} {ts':List (Nat×Nat)} {us':List Nat}
  (Y:SG ⟨fun k=>ak k bx,fun k=>ak k tk⟩ ts env env') (p:FW ⟨fun k=>ak k bx,fun k=>ak k tk⟩ ts bs bs') (E:JP bx tk ts ts' us'=true)
  (h:AK P X f n β R K env' ⟨bs',ts',us'⟩):AK P X f n β R K env ⟨bs,ts,us⟩:=by
 unfold JP at E;obtain⟨W,E⟩:=dW E;obtain⟨J,E⟩:=dW E;obtain⟨S,E⟩:=dW E;obtain⟨c4,E⟩:=dW E;obtain⟨T,V⟩:=dW E;rw[kV]at T V;intro g w a cs N;obtain⟨h1,h2⟩:=N.inv.fY ⟨fun k=>ak k bx,fun k=>ak k tk⟩ ⟨bs',ts',us'⟩ (fun k cells e=>sr p k cells e) (fun k k' H A U=>mM W (dF A) (dF U))
  (fun k m e=>AA S k m e) (fun k k' m u H A U=>tg J (dF A) (dF U)) (fun k e=>by
   rcases e with e|e
   ·exact sq T k (nE e)
   ·exact sq V k (nE e))
 refine h _ w a cs ⟨h1,N.q8,?_,N.frame.trans (h2 ?_),N.size,N.defers⟩
 ·intro t x e;obtain⟨b,A,U⟩:=FX Y t x e;exact(qJ (ou N.inv) U (N.env t b A)).1
 ·intro k D e;cases E:ak k bs' with
  | none=>exact absurd E e
  | some c =>
   obtain⟨H,Q,q1,O,_⟩:=sr p k c E;have:=wj c4 k H D q1;subst this;exact q1
end
end Go.cu
namespace Go.cu
section
variable {P : Program} {X : Ctx} {f : FuncId} {n : Nat} {β : jH} {R : Ending -> World -> Prop} {K : List Item} {env : Env} {σ : St}
theorem AK.CH {c:Operand} {x y:Code} {b:Bool} (E:aK X env c=some (.c (.bool b))) (p:b=true) (h:AK P X f n β R (.code x::K) env σ) :
  AK P X f n β R (.code (.cond c x y)::K) env σ:=by subst p;exact AK.Wc E h
theorem AK.CI {c:Operand} {x y:Code} {b:Bool} (E:aK X env c=some (.c (.bool b))) (p:b=false) (h:AK P X f n β R (.code y::K) env σ) :
  AK P X f n β R (.code (.cond c x y)::K) env σ:=by subst p;exact AK.Wd E h
end
theorem xQ {α:Type}:∀{n:Nat} {l:List α},n<=l.length->takeN n l=some (l.take n)
 | 0,l,_=>by simp[takeN]
 | n+1,[],h=>by simp at h
 | n+1,x::l,h=>by simp[takeN,xQ (l:=l) (n:=n) lp]
theorem tr {α:Type}:∀{n:Nat} {l:List α},n<=l.length->gv n l=some (l.drop n)
 | 0,l,_=>by simp[gv]
 | n+1,[],h=>by simp at h
 | n+1,x::l,h=>by simp[gv,tr (l:=l) (n:=n) lp]
abbrev cG (l:List UInt8):List CV:=l.map fun b => .int .u8 b.toNat
def byteOf (z:Int):UInt8:=UInt8.ofNat (z%256).toNat
theorem nr (z:Int):((byteOf z).toNat:Int)=IntKind.u8.wrap z:=by
 unfold byteOf;simp[IntKind.wrap,IntKind.bits,IntKind.signed];omega
theorem wS (z:Int):[CV.int .u8 (IntKind.u8.wrap z)]=cG [byteOf z]:=by
 simp[cG,nr]
section
variable {P : Program} {X : Ctx}
theorem bW.val {o:Oper} {env:Env} {σ:St} {v:AV} (h:∀(W:Env) (w:World) (g:Gh) (a:Act),(∀x∈o.op.operands.toList,aK X W x=aK X env x)->(∀b o v,g.G b o=some v->w.cell? ⟨b,o,none⟩=some v) ->
  nw X g.G->tN g W a.tmps->∃u,(execOp a.eval o).run P w = .ok (.value u) w/\aJ g v u):bW P X o env σ v (fun σ=>σ) ⟨[],[]⟩:=by
 intro W V w g a next Q h1 h2 p H q Y;obtain⟨u,D,U⟩:=h W w g a h1 p.oF H q;unfold Oper.wp;rw[D,Oper.upon_value];exact Y u w g U p (gW.refl _ _ _) (Gh.le.refl _)
theorem bW.concat (hX:cC P X) {o:Oper} {env:Env} {σ:St} {t yt:TypeId} {x y:Operand} (ho:o.op = .binOp .add t x y yt) {a b:List UInt8} (hx:aK X env x=some (.c (.str a))) (hy:aK X env y=some (.c (.str b)))
  (hl:a.length+b.length<=9223372036854775807):bW P X o env σ (.c (.str (a++b))) (fun σ=>σ) ⟨[],[]⟩:=by
 refine bW.val fun cW w g act h1 ir cD di=>?_
 have hx':aK X cW x=some (.c (.str a)):=by rw[h1 x gY];exact hx
 have hy':aK X cW y=some (.c (.str b)):=by rw[h1 y gY];exact hy
 have rx:=cz (a:=act) di cD hx'
 have ry:=cz (a:=act) di cD hy'
 simp only[aJ,Rel]at rx ry
 refine⟨.string ⟨(a++b).toArray⟩,?_,by simp only[aJ,Rel]⟩
 obtain⟨dst,op,type,pos,after,guard⟩:=o
 simp only at ho;subst ho
 have hsz:¬((9223372036854775807:Int)<(a.length:Int)+(b.length:Int)):=by omega
 have hj:(ByteArray.mk a.toArray)++(ByteArray.mk b.toArray)=⟨(a++b).toArray⟩:=by
  apply ByteArray.ext
  simp[ByteArray.data_append]
 simp[execOp,rx,ry,binOp,eqGuard,Op.stringOp,uU,hsz,hj]
theorem bW.toStr (hX:cC P X) {o:Oper} {env:Env} {σ:St} {s d:TypeId} {x:Operand} (N:o.op = .convert s d x) {i j k:TI} {e:Nat} (hi:X.ti s=some i) (hk:i.kind = .slice e) (he:X.ti e=some k) (QO:k.kind = .int .u8) (hj:X.ti d=some j) (Xd:j.kind = .str)
  {a:AV} (hx:aK X env x=some a) {q:Nat} {rows:List CV} (I:rowsOf a=some (q,rows)) {l:List UInt8} (fP:rows=cG l) (hq:fT q 1 rows=true):bW P X o env σ (.c (.str l)) (fun σ=>σ) ⟨[],[]⟩:=by
 refine bW.val fun cW w g S h1 ir cD di=>?_;have M:aK X cW x=some a:=by rw[h1 x (by rw[N];simp[Op.operands])];exact hx
 have O:=cz (a:=S) di cD M;obtain⟨d1,_,J,H⟩:=hX.run_underlying (w:=w) hi;rw[hk]at J;simp only[eG]at J;subst J;obtain⟨d2,_,Y,W⟩:=hX.run_underlying (w:=w) he;rw[QO]at Y;simp only[eG]at Y;subst Y;obtain⟨d3,_,U,T⟩:=hX.run_underlying (w:=w) hj;rw[Xd]at U;simp only[eG]at U;subst U;have Q:∃base V E,S.eval x = .slice base V E/\V=rows.length/\kD g.G q base rows:=by
  unfold rowsOf at I;split at I<;>simp at I
  ·obtain⟨rfl,rfl⟩:=I;simp only[aJ]at O;obtain⟨base,V,E,A,D,e3,C,_⟩:=O;exact⟨base,V,E,A,D,C⟩
  ·obtain⟨rfl,rfl⟩:=I;simp only[aJ,Rel]at O;obtain⟨base,V,E,A,D,e3,C⟩:=O;exact⟨base,V,E,A,D,C⟩
 obtain⟨base,V,E,ex,p,B⟩:=Q;refine⟨.string ⟨l.toArray⟩,?_,by simp only[aJ,Rel]⟩;have ZN:(convert s d (.slice base V E)).run P w = .ok (.string ⟨l.toArray⟩) w:=by
  subst fP;rw[List.length_map]at p;rcases B with Xl|⟨b,o',rfl,hG⟩
  ·have hl:l=[]:=by simpa using Xl
   subst hl;simp at p;subst p;cases base with
   | none=>rw[run_convert_bytes_string w s d e none 0 E H W T];simp[Conv.bytesToString];rfl
   | some ad=>exact run_convert_bytes_back w s d e ad E [] H W T cn
  ·rw[p];refine run_convert_bytes_back w s d e ⟨b,o',none⟩ E l H W T fun m hm=>?_;rw[Addr.add_lit];have K:(cG l)[m]?=some (.int .u8 l[m].toNat):=by simp[cG,hm]
   obtain⟨c1,c2⟩:=hG.get m _ K;simp only[CV.cells,cO]at c1 c2;obtain⟨⟨u,u1,u2,_⟩,_⟩:=c1;simp only[Rel]at u2;subst u2;have Ew:q=1:=by simpa using c2.symm
   subst Ew;have:=ir _ _ _ u1;rwa[Nat.mul_one]at this
 obtain⟨dst,op,type,pos,after,guard⟩:=o;simp only at N;subst N;simp[execOp,ex,ZN]
def zb (es e:Nat):Nat->Nat->List (Nat×Nat)
 | _,0=>[]
 | k,n+1=>(k*es,e)::zb es e (k+1) n
theorem FZ {es e:Nat}:∀{n k i off S:Nat},nth (zb es e k n) i=some (off,S)->off=(k+i)*es/\S=e
 | 0,k,i,off,S,h=>by simp[zb,nth]at h
 | n+1,k,0,off,S,h=>by simp[zb,nth]at h;exact⟨by simp[h.1],h.2.symm⟩
 | n+1,k,i+1,off,S,h=>by
  simp only[zb,nth]at h;obtain⟨h1,h2⟩:=FZ h;exact⟨by rw[h1];congr 1;omega,h2⟩
theorem bW.DE (hX:cC P X) {o:Oper} {env:Env} {σ:St} {t:TypeId} {parts:Array (Nat×Operand)} (ho:o.op = .build t parts) {i j:TI} {n e:Nat} (hi:X.ti t=some i) (hk:i.kind = .arr n e) (hj:X.ti e=some j)
  {z r:List AV} (hz:i.zero=some (.agg z)) (h:rX X (aK X env) (zb j.size e 0 n) parts.toList z=some r):bW P X o env σ (.agg r) (fun σ=>σ) ⟨[],[]⟩:=by
 refine bW.val fun cW w g act h1 ir cD di=>?_
 have h':rX X (aK X cW) (zb j.size e 0 n) parts.toList z=some r:=by
  rw[uV _ _ _ (fun p hp=>h1 p.2 B3)];exact h
 obtain⟨d,jo,ie,_⟩:=hX.run_underlying (w:=w) hi
 rw[hk]at ie;simp only[eG]at ie;subst ie
 obtain⟨zv,z1,z2,z3⟩:=hX.lK (w:=w) hi hz
 have z4:=z2 g
 simp only[aJ]at z4
 obtain⟨zs,rfl,z5,z6⟩:=z4
 obtain⟨us,f1,f2,f3⟩:=Df hX (ρ:=aK X cW) (ev:=act.eval) (fun x v hx=>cz di cD hx) (fun(m:Nat)=>some (m*j.size,j.size)) (by
  intro m off ft j' e1 e2
  obtain⟨rfl,rfl⟩:=FZ e1
  rw[hj]at e2;simp at e2;subst e2
  simp) (vs:=zs.toArray) h' (by simpa using z5) z6
 refine⟨.agg us,?_,Q0⟩
 obtain⟨dst,op,type,pos,after,guard⟩:=o
 simp only at ho;subst ho
 have hb:(Instr.build t (parts.map fun(i,x)=>(i,act.eval x))).run P w = .ok (.agg us) w:=by
  simp only[Instr.build,Sem.run_bind,z1,Result.andThen_ok,jo,Value.cells,hX.run_sizeOf hj]
  simp only[Array.toList_map]
  rw[f1];rfl
 simp only[execOp,Sem.run_bind]
 have:(Array.map (fun x=>(x.fst,act.eval x.snd)) parts)=parts.map fun(i,x)=>(i,act.eval x):=rfl
 simp only[this,hb,Result.andThen_ok,Sem.run_pure]
theorem bW.DF (hX:cC P X) {o:Oper} {env:Env} {σ:St} {t:TypeId} {x ix:Operand} (ho:o.op = .index t x ix) {i j:TI} {n e:Nat} (hi:X.ti t=some i) (hk:i.kind = .arr n e) (hj:X.ti e=some j)
  {cs rest:List AV} (hx:aK X env x=some (.agg cs)) {ia:AV} (hz:aK X env ix=some ia) {m:Nat} (hm:asNat ia=some m) (hmn:Nat.blt m n=true) (hd:gv (m*j.size) cs=some rest) {v:AV} (hv:wV j rest=some v) :
  bW P X o env σ v (fun σ=>σ) ⟨[],[]⟩:=by
 refine bW.val fun cW w g act h1 ir cD di=>?_
 have hx':aK X cW x=some (.agg cs):=by rw[h1 x gY];exact hx
 have Xa:aK X cW ix=some ia:=by rw[h1 ix gY];exact hz
 have rx:=cz (a:=act) di cD hx'
 have rz:=cz (a:=act) di cD Xa
 simp only[aJ,Rel]at rx
 obtain⟨vs,ex,r1,r2⟩:=rx
 obtain⟨k,rz⟩:=vX hm rz
 obtain⟨d,jo,ie,_⟩:=hX.run_underlying (w:=w) hi
 rw[hk]at ie;simp only[eG]at ie;subst ie
 obtain⟨u,u1,u2⟩:=Dg (P:=P) (w:=w) (vs:=vs.toArray) hX hj (.inl ⟨cs,rest,by simpa using r1,r2,hd,hv⟩)
 refine⟨u,?_,u2⟩
 have hlt:m<n:=by simpa[Nat.blt_eq]using hmn
 obtain⟨dst,op,type,pos,after,guard⟩:=o
 simp only at ho;subst ho
 simp[execOp,ex,rz,Instr.index,asIntOf,jo,hlt,hX.run_sizeOf hj,u1]
end
section
variable {P : Program} {X : Ctx} {ops : Array Oper} {o : Oper} {rest : List Oper} {env : Env} {acc : List Fp} {Q : Env -> St -> List Fp -> Prop} {σ : St}
theorem ai.YR (hX:cC P X) (kn:List Nat) (W:simple o.op=true) {acc:List Fp} {H:List Oper} {env':Env} {Y:List Fp}
  (h:Fo X ops.toList σ.boxes kn 0 (o::rest) env acc = .at H env' Y) (k:ai P X ops H env' σ Y Q):ai P X ops (o::rest) env σ acc Q:=ai.Lw hX 0 kn h k
theorem ai.uu {j d:Nat} {Y b:Bool} (W:o.guard=some (j,Y)) (V:pU ops j=some d) (p:ak d env=some (.c (.bool b))) (D:b=true)
  (h1:b=true->ai P X ops (o::rest) env σ acc Q):ai P X ops (o::rest) env σ acc Q:=h1 D
theorem ai.uv {j d:Nat} {Y b:Bool} (W:o.guard=some (j,Y)) (V:pU ops j=some d) (p:ak d env=some (.c (.bool b))) (D:b=false)
  (h1:b=false->ai P X ops (o::rest) env σ acc Q):ai P X ops (o::rest) env σ acc Q:=h1 D
theorem ai.concat (hX:cC P X) (kn:List Nat) (hg:cV ops.toList kn env o=some true) {t yt:TypeId} {x y:Operand} (ho:o.op = .binOp .add t x y yt) {d:Nat} (hd:o.dst=some d) {a b:List UInt8}
  (hx:aK X env x=some (.c (.str a))) (hy:aK X env y=some (.c (.str b))) (hl:a.length+b.length<=9223372036854775807)
  (k:ai P X ops rest ((d,.c (.str (a++b)))::env) σ (⟨[],[]⟩::acc) Q):ai P X ops (o::rest) env σ acc Q :=
 ai.step (dx hg) (bW.concat hX ho hx hy hl) (gX.id _) rj
theorem ai.toStr (hX:cC P X) (kn:List Nat) (Y:cV ops.toList kn env o=some true) {s t:TypeId} {x:Operand} (W:o.op = .convert s t x) {d:Nat} (H:o.dst=some d) {i j k:TI} {e:Nat} (I:X.ti s=some i) (D:i.kind = .slice e) (V:X.ti e=some k) (U:k.kind = .int .u8)
  (T:X.ti t=some j) (S:j.kind = .str) {a:AV} (O:aK X env x=some a) {q:Nat} {rows:List CV} (M:rowsOf a=some (q,rows)) {l:List UInt8} (N:rows=cG l) (hq:fT q 1 rows=true)
  (k:ai P X ops rest ((d,.c (.str l))::env) σ (⟨[],[]⟩::acc) Q):ai P X ops (o::rest) env σ acc Q :=
 ai.step (dx Y) (bW.toStr hX W I D V U T S O M N hq) (gX.id _) JT
theorem ai.DE (hX:cC P X) (kn:List Nat) (Y:cV ops.toList kn env o=some true) {t:TypeId} {C:Array (Nat×Operand)} (q:o.op = .build t C) {d:Nat} (H:o.dst=some d) {i j:TI} {n e:Nat} (W:X.ti t=some i) (D:i.kind = .arr n e) (V:X.ti e=some j)
  {z r:List AV} (U:i.zero=some (.agg z)) (h:rX X (aK X env) (zb j.size e 0 n) C.toList z=some r)
  (k:ai P X ops rest ((d,.agg r)::env) σ (⟨[],[]⟩::acc) Q):ai P X ops (o::rest) env σ acc Q :=
 ai.step (dx Y) (bW.DE hX q W D V U h) (gX.id _) JT
theorem ai.DF (hX:cC P X) (kn:List Nat) (V:cV ops.toList kn env o=some true) {t:TypeId} {x B:Operand} (q:o.op = .index t x B) {d:Nat} (U:o.dst=some d) {i j:TI} {n e:Nat} (I:X.ti t=some i) (D:i.kind = .arr n e) (T:X.ti e=some j)
  {cs H:List AV} (O:aK X env x=some (.agg cs)) {W:AV} (S:aK X env B=some W) {m:Nat} (u:asNat W=some m) (Y:Nat.blt m n=true) (N:gv (m*j.size) cs=some H) {v:AV} (M:wV j H=some v)
  (k:ai P X ops rest ((d,v)::env) σ (⟨[],[]⟩::acc) Q):ai P X ops (o::rest) env σ acc Q :=
 ai.step (dx V) (bW.DF hX q I D T O S u Y N M) (gX.id _) (by rw[U];exact k)
theorem ai.lH (hX:cC P X) (kn:List Nat) (W:cV ops.toList kn env o=some true) {t:TypeId} {x B:Operand} (Y:o.op = .index t x B) {d:Nat} (H:o.dst=some d) {i:TI} (I:X.ti t=some i) (D:i.kind = .str)
  {s:List UInt8} (O:aK X env x=some (.c (.str s))) {k:IntKind} {z:Int} (V:aK X env B=some (.c (.int k z))) {m:Nat} (u:z=m) {b:UInt8} (p:s[m]?=some b)
  (k:ai P X ops rest ((d,.c (.int .u8 b.toNat))::env) σ (⟨[],[]⟩::acc) Q):ai P X ops (o::rest) env σ acc Q:=by
 subst u;refine ai.look hX kn W H ?_ (by rw[Y];rfl) k;rw[Y];have C:∀q:IntKind,asNat (.c (.int q (m:Int)))=some m:=fun _=>rfl;simp only[gM,I,O,V,C,D,rq,p]
theorem ai.DG (hX:cC P X) (kn:List Nat) (hg:cV ops.toList kn env o=some true) {t:TypeId} {x:Operand} {lo hi':Option Operand} (ho:o.op = .slice t x lo hi' none) {d:Nat} (hd:o.dst=some d) {i:TI} (hi:X.ti t=some i) (hk:i.kind = .str)
  {s:List UInt8} (hx:aK X env x=some (.c (.str s))) {l h:Option Nat} (hl:bound (aK X env) lo=some l) (hh:bound (aK X env) hi'=some h) (h1:h.getD s.length<=s.length) (h2:l.getD 0<=h.getD s.length)
  (k:ai P X ops rest ((d,.c (.str ((s.take (h.getD s.length)).drop (l.getD 0))))::env) σ (⟨[],[]⟩::acc) Q):ai P X ops (o::rest) env σ acc Q:=by
 refine ai.look hX kn hg hd ?_ (by rw[ho];rfl) k
 rw[ho]
 have hb:bound (aK X env) none=some none:=rfl
 simp only[gM,hi,hx,hl,hh,hb,hk,Ag]
 cases h with
 | none =>
  cases l with
  | none=>simp
  | some l=>simp at h2 ⊢;simp[tr h2]
 | some h =>
  simp at h1 h2 ⊢
  cases l with
  | none=>simp[xQ h1]
  | some l =>
   simp at h2
   simp[xQ h1,tr (l:=s.take h) (n:=l) j0]
theorem ai.sliceFrom (hX:cC P X) (kn:List Nat) (W:cV ops.toList kn env o=some true) {t:TypeId} {x:Operand} {S:Operand} (Y:o.op = .slice t x (some S) none none) {d:Nat} (H:o.dst=some d) {i j:TI} {e:Nat} (I:X.ti t=some i) (D:i.kind = .slice e) (V:X.ti e=some j)
  {s:Nat} {rows:List CV} (O:aK X env x=some (.c (.sl s rows))) (U:Nat.beq s j.size=true) {k:IntKind} {z:Int} (T:aK X env S=some (.c (.int k z))) {m:Nat} (u:z=m) (h1:m<=rows.length)
  (k:ai P X ops rest ((d,.c (.sl s (rows.drop m)))::env) σ (⟨[],[]⟩::acc) Q):ai P X ops (o::rest) env σ acc Q:=by
 subst u;refine ai.look hX kn W H ?_ (by rw[Y];rfl) k;rw[Y];have p:∀q:IntKind,asNat (.c (.int q (m:Int)))=some m:=fun _=>rfl;simp only[gM,I,O,bound,T,p,D,V,Ag,U,tr h1]
end
end Go.cu
namespace Go.cu
abbrev ag (rows:List CV):List AV:=(bK rows).map AV.c
theorem Oc {w : World} {g : Gh} {σ : St} (h : Inv w g σ) : Inv w.drew g σ /\ gW w g σ w.drew g σ :=
  ⟨⟨h.oF, fun k cs e => by
      obtain ⟨b, H, Y, U, W⟩ := h.box k cs e;exact ⟨b, H, Y, U, cy.of_same (w := w) (w' := w.drew) (fun o => ⟨rfl, rfl⟩) W⟩,
    h.fF, h.tok, h.gA, h.used, h.room⟩,
   ⟨rfl, rfl, rfl, aam _, fun _ _ _ => rfl, fun _ _ _ _ => ⟨rfl, rfl⟩, jm.le.refl _, fun _ _ _ h => .inl h, fun k cs b h1 h2 => .inr ⟨k, cs, h1, h2⟩,
    fun k n b S I h1 h2 => .inr ⟨k, n, S, I, h1, h2, aam _, aam _⟩, fun _ _ h => ⟨h, rfl, rfl⟩⟩⟩
theorem oS {g:Gh}:∀{cs:List CV} {vs:List Value},bO g.G cs vs->bH g (cs.map AV.c) vs
 | [],vs,h=>by simp only[bO]at h;subst h;simp[bH]
 | c::cs,vs,h=>by
  simp only[bO]at h
  obtain⟨u,us,rfl,h1,h2⟩:=h
  simp only[List.map_cons,bH]
  exact⟨u,us,rfl,RI,oS h2⟩
theorem su:∀(cs:List CV),(cs.map AV.c).all AV.one=cs.all CV.one
 | []=>rfl
 | c::cs=>by simp only[List.map_cons,List.all_cons,su cs,AV.one]
section
variable {P : Program} {X : Ctx}
theorem wN (w:World) (s:Nat) (base:Option Addr) (E:Nat):(Builtin.firstCells s 0 (.slice base 0 E)).run P w = .ok #[] w:=by
 cases base with
 | none=>simp[Builtin.firstCells]
 | some a=>exact run_firstCells_some w s 0 a 0 E [] cn (by intro j v h;simp at h)
set_option maxHeartbeats 1600000 in
theorem bW.vP (hX:cC P X) {o:Oper} {env:Env} {σ:St} {args:Array Operand} {ats:Array TypeId} (ho:o.op = .call {callee := .builtin .append,args:=args,argTypes:=ats})
  {xs y:Operand} (hargs:args.toList=[xs,y]) {t t1:Nat} (Aq:ats.toList=[t,t1]) {d:Nat} (jo:d<1000000)
  {i j i1:TI} {e:Nat} (hi:X.ti t=some i) (hk:i.kind = .slice e) (hj:X.ti e=some j) {za:AV} (hz:j.zero=some za) (hi1:X.ti t1=some i1) (qp:kU i1.kind=true)
  {s:Nat} {rows:List CV} (ha:aK X env xs=some (.own .exact s rows)) {b:AV} (hb:aK X env y=some b) {s1:Nat} {b9:List CV} (hsrc:mL b=some (s1,b9))
  (hs:fT s j.size rows=true) (rR:fT s1 j.size b9=true) (hne:b9≠[]) (hu:mem d σ.used=false) (hby:Nat.ble 1 j.bytes=true) (hbound:(rows.length+b9.length)*j.bytes<=140737488355328) :
  bW P X o env σ (.gy d 0 j.size (rows++b9).length) (fun σ=>σ.dY d (ag (rows++b9))) ⟨[],[d]⟩:=by
 intro cW σ1 w g act next Q h1 h2 hinv cD di hnext
 have qf:∀x∈args.toList,x∈o.op.operands.toList:=by
  intro x hx
  rw[ho];simp only[Op.operands,Call.operands,Array.toList_append,List.mem_append];exact .inr hx
 have xI:aK X cW xs=some (.own .exact s rows):=by rw[h1 xs (qf xs VY)];exact ha
 have hb':aK X cW y=some b:=by rw[h1 y (qf y VY)];exact hb
 have rA:=cz (a:=act) di cD xI
 have rB:=cz (a:=act) di cD hb'
 simp only[aJ]at rA
 obtain⟨base,len,cap,ex,hlen,hcap,fP,hown⟩:=rA
 obtain⟨_,n5⟩:=qe (P:=P) (w:=w) hinv.oF hsrc rR rB
 obtain⟨⟨news',We,Yo,ZE,ZF⟩,_⟩:=qe (P:=P) (w:=w.drew) (fun b o v h=>by rw[World.cell?_drew];exact hinv.oF b o v h) hsrc rR rB
 obtain⟨olds,m1,m2,m3,m4⟩:=v8 (P:=P) (w:=w.drew) (g:=g) (fun b o v h=>by rw[World.cell?_drew];exact hinv.oF b o v h) fP hs len cap hlen
 obtain⟨dt,_,xK,EK⟩:=hX.run_underlying (w:=w) hi
 rw[hk]at xK;simp only[eG]at xK;subst xK
 obtain⟨d1,BP,F0⟩:=yU hX hi1 V7 w
 obtain⟨inf,T9,Mb,ZG,ZH,_,if6⟩:=hX.ti e j hj
 obtain⟨z,z1,_,z3⟩:=ZH za hz
 have PK:news'.length=b9.length*j.size:=by rw[<- (bO.get We).1,dh Yo]
 have PL:olds.length=rows.length*j.size:=by rw[<- (bO.get m1).1,dh m2]
 have xL:args = #[xs,y]:=by cases args;simp_all
 have Ds:ats = #[t,t1]:=by cases ats;simp_all
 have SD:=Nat.le_of_ble_eq_true hby
 have hsmall:rows.length+b9.length<=140737488355328:=Nat.le_trans (Nat.le_mul_of_pos_right _ SD) hbound
 have hpos:0<b9.length:=List.length_pos_iff.2 hne
 simp only[pQ]at hown
 have SE:∀(v:Value) (w':World),(Builtin.append_ #[t,t1] o.type #[.slice base len cap,act.eval y]).run P w = .ok v w'->(execOp act.eval o).run P w = .ok (.value v) w':=by
  intro v w' hr
  obtain⟨dst,op,type,pos,after,guard⟩:=o
  simp only at ho hr;subst ho
  subst xL Ds
  simp[execOp,resolve,invoke,builtin,ex,hr,Result.andThen]
 unfold Oper.wp
 have hg:cap<len+b9.length:=by omega
 have hbd:(len+b9.length)*inf.bytes<=140737488355328:=by rw[ZG,hlen];exact hbound
 rw[SE _ _ (nD EK BP F0 T9 z1 n5 (by rw[Mb];exact ZF) (by rw[Mb];exact m4) hg bn hbd)]
 rw[Oper.upon_value]
 have hge:=grownCap_ge w (len+b9.length) cap e
 generalize grownCap w (len+b9.length) cap e=nc at hge ⊢
 have tX:(olds.toArray++news'.toArray++Builtin.zeroCells z.cells (nc-(len+b9.length))).size=nc*j.size:=by
  simp only[Array.size_append,List.size_toArray,size_zeroCells,PL,PK,z3,<- hlen,<- Nat.add_mul]
  congr 1;omega
 have SH:d ∉ σ1.used:=fun h=>cS hu ((h2 d (.inr cn)).2.2.1 h)
 obtain⟨e1,e2⟩:=Oc hinv
 have fW:bO g.G (bK (rows++b9)) (olds++news'):=by rw[dB];exact eZ m1 We
 have hfl:(bK (rows++b9)).length=(olds++news').length:=(bO.get fW).1
 have hrc:bH g (ag (rows++b9)) ((olds.toArray++news'.toArray++Builtin.zeroCells z.cells (nc-(len+b9.length))).toList.take (ag (rows++b9)).length):=by
  rw[List.length_map,hfl]
  simp only[Array.toList_append]
  rw[List.take_left']
  ·exact oS fW
  ·simp
 have hone:(ag (rows++b9)).all AV.one=true:=by
  rw[su,dB,List.all_append,m3,ZE];rfl
 obtain⟨i1,i2,i3,i4⟩:=He (t:=e) e1 SH jo hrc hone
 refine hnext _ _ _ ?_ i1 (e2.trans i2) i3
 simp only[aJ]
 refine⟨w.heap.size,nc,some ⟨w.heap.size,0,none⟩,cn,?_,?_,?_,.inr rfl⟩
 ·simp[hlen]
 ·simp_all
 ·simp_all
end
end Go.cu
namespace Go.cu
def St.eI (σ:St) (T:Nat):St:=⟨BN T σ.boxes,σ.toks,σ.used⟩
theorem Mh {w:World} {g:Gh} {σ:St} (h:Inv w g σ) (T:Nat):Inv w g (σ.eI T)/\gW w g σ w g (σ.eI T):=by
 have Q:∀k cs,ak k (σ.eI T).boxes=some cs->ak k σ.boxes=some cs:=by
  intro k cs e;simp only[St.eI,jO]at e;split at e
  ·simp at e
  ·exact e
 refine⟨⟨h.oF,fun k cs e=>h.box k cs (Q k cs e),fun k k' cs Y b e e'=>h.fF k k' cs Y b (Q k cs e) (Q k' Y e'),?_,h.gA,h.used,fun k cs b e=>h.room k cs b (Q k cs e)⟩,
  ⟨rfl,rfl,rfl,aam _,fun _ _ _=>rfl,fun _ _ _ _=>⟨rfl,rfl⟩,jm.le.refl _,fun _ _ _ h => .inl h,fun k cs b h1 h2 => .inr ⟨k,cs,Q k cs h1,h2⟩,
   fun k n b S W h1 h2 => .inr ⟨k,n,S,W,h1,h2,aam _,aam _⟩,fun k _ e=>?_⟩⟩
 ·intro k n e;obtain⟨C,h1,h2⟩:=h.tok k n e;refine⟨C,h1,fun b S W I=>?_⟩;obtain⟨V,D,q⟩:=h2 b S W I;exact⟨V,D,fun k' cs e'=>q k' cs (Q k' cs e')⟩
 ·cases E:ak k (σ.eI T).boxes with
  | none=>exact absurd E e
  | some cs=>exact⟨by rw[Q k cs E];simp,rfl,rfl⟩
theorem U8 {w w':World} {g:Gh} {σ:St} {key d b:Nat} {cells cells':List AV} (hinv:Inv w g σ) (hk:ak key σ.boxes=some cells) (hb:g.box key=some b) (hd:d ∉ σ.used) (Xo:d<1000000)
  (r2:w'.heap.size=w.heap.size/\w'.os=w.os/\w'.tape=w.tape/\w'.output=w.output/\∀b',b'≠b->w'.heap[b']?=w.heap[b']?)
  (r3:∀b' o',b'≠b->w'.cell? ⟨b',o',none⟩=w.cell? ⟨b',o',none⟩) (r4:∀b' o',w'.frozen? ⟨b',o',none⟩=w.frozen? ⟨b',o',none⟩)
  (hc:cy w' g b 0 cells') (hr:∀o,o<g.room key->∃u,w'.cell? ⟨b,o,none⟩=some u) :
  let g':Gh:=⟨g.G,fun k=>if k=d then some b else g.box k,g.tok,fun k=>if k=d then g.room key else g.room k⟩
  let σ':St:=(σ.dY d cells').eI key
  Inv w' g' σ'/\gW w g σ w' g' σ'/\g.le g':=by
 intro g' σ'
 obtain⟨b0,hb0,Zv,Yl,hbc⟩:=hinv.box key cells hk
 rw[hb]at hb0;cases hb0
 have Sw:g.box d=none:=by
  cases h:g.box d with
  | none=>rfl
  | some x=>exact absurd (hinv.used d (.inl nt)) hd
 have hkd:key≠d:=by rintro rfl;rw[hb]at Sw;simp at Sw
 have hle:g.le g':=by
  refine⟨jm.le.refl _,fun k x h=>?_,fun k x h=>?_,fun k hw fU h=>⟨hw,fU,h,aam _,fun _=>rfl⟩⟩
  ·grind
  ·grind
 have ke:∀k cs,ak k σ'.boxes=some cs->(k=d/\cs=cells')\/(k≠d/\k≠key/\ak k σ.boxes=some cs):=by
  intro k cs e
  simp only[σ',St.eI,St.dY,jO,aq]at e
  split at e
  ·simp at e
  ·grind
 have uZ:∀k cs b',k≠key->ak k σ.boxes=some cs->g.box k=some b'->b'≠b:=by
  rintro k cs b' h1 h2 h3 rfl
  exact h1 (hinv.fF k key cs cells _ h2 hk h3 hb)
 refine⟨⟨?_,?_,?_,?_,hinv.gA,?_,?_⟩,⟨r2.2.1,r2.2.2.1,r2.2.2.2.1,bn,fun b' hb' hno=>r2.2.2.2.2 b' (by rintro rfl;exact hno 0 (.inl ⟨key,cells,hk,hb⟩)),fun b' o hb' hno=>⟨r3 b' o (by rintro rfl;exact hno (.inl ⟨key,cells,hk,hb⟩)),r4 b' o⟩,jm.le.refl _,fun _ _ _ h => .inl h,?_,?_,?_⟩,hle⟩
 ·intro b' o v h
  rw[r3 b' o (by rintro rfl;rw[Yl]at h;simp at h)]
  exact hinv.oF b' o v h
 ·intro k cs e
  rcases ke k cs e with ⟨rfl,rfl⟩|⟨h1,h2,h3⟩
  ·exact⟨b,WK,bn,Yl,hc.mono hle⟩
  ·obtain⟨b',f1,f2,f3,f4⟩:=hinv.box k cs h3
   have zG:=uZ k cs b' h2 h3 f1
   exact⟨b',by simp[g',h1,f1],bn,f3,(cy.of_same (fun o=>⟨r3 b' o zG,r4 b' o⟩) f4).mono hle⟩
 ·intro k k' cs cs' b' e e' e1 e2
  simp only[g']at e1 e2
  rcases ke k cs e with ⟨rfl,rfl⟩|⟨h1,h2,h3⟩
  ·grind
  ·rw[if_neg h1]at e1
   rcases ke k' cs' e' with ⟨rfl,rfl⟩|⟨yW,Ap,Yp⟩
   ·grind
   ·rw[if_neg yW]at e2
    exact hinv.fF k k' cs cs' b' h3 Yp e1 e2
 ·intro k n e
  obtain⟨fU,e1,e2⟩:=hinv.tok k n e
  refine⟨fU,e1,fun b' lo hi hr'=>?_⟩
  obtain⟨e3,e4,e5⟩:=e2 b' lo hi hr'
  have zG:b'≠b:=by rintro rfl;exact e5 key cells hk hb
  refine⟨bn,fun o h1 h2=>?_,fun k' cs e'=>?_⟩
  ·grind
  ·grind
 ·intro k e
  show k∈d::σ.used
  by_cases hkk:k=d
  ·simp[hkk]
  ·simp only[List.mem_cons];right;apply hinv.used k;simpa[g',hkk]using e
 ·intro k cs b' e e1 o
  simp only[g']at e1 ⊢
  rcases ke k cs e with ⟨rfl,rfl⟩|⟨h1,h2,h3⟩
  ·rw[if_pos rfl]at e1;rw[if_pos rfl];simp at e1;subst e1
   exact⟨hr o,by rw[r4];exact(hinv.room key cells _ hk hb o).2⟩
  ·rw[if_neg h1]at e1;rw[if_neg h1]
   have zG:=uZ k cs b' h2 h3 e1
   obtain⟨f1,f2⟩:=hinv.room k cs b' h3 e1 o
   exact⟨fun ho=>(f1 ho).imp fun u hu=>by rw[r3 b' o zG];exact hu,by rw[r4];exact f2⟩
 ·grind
 ·exact Yb
 ·intro k wQ e
  cases hc0:ak k σ'.boxes with
  | none=>exact absurd hc0 e
  | some cs =>
   rcases ke k cs hc0 with ⟨rfl,rfl⟩|⟨h1,h2,h3⟩
   ·omega
   ·grind
end Go.cu
namespace Go.cu
theorem ov {w:World} {g:Gh} {b:Nat}:∀{cs:List CV} {tail:List AV} {o:Nat},cy w g b o (cs.map AV.c++tail)->∃vs:List Value,bO g.G cs vs/\(∀(j:Nat) u,vs[j]?=some u->w.cell? ⟨b,o+j,none⟩=some u)/\cs.all CV.one=true
 | [],_,_,_=>⟨[],by simp[bO],fun j u h=>by simp at h,rfl⟩
 | c::cs,tail,o,h=>by
  simp only[List.map_cons,List.cons_append]at h;obtain⟨⟨u,h1,h2,V⟩,_,h4⟩:=h;obtain⟨vs,Y,D,B⟩:=ov h4;refine⟨u::vs,by simp only[bO];exact⟨u,vs,rfl,uH,Y⟩,fun j v P=>?_,by simp only[List.all_cons,B,Bool.and_true];simpa only[AV.one]using V⟩;cases j with
  | zero=>simp at P;subst P;exact h1
  | succ j =>
   simp at P;have:=D j v P;rwa[show o+1+j=o+(j+1)from by omega]at this
theorem JQ (d T:Nat) (cells:List AV) (Y:d≠T):gX (fun σ=>(σ.dY d cells).eI T) ⟨[],[d,T]⟩ where
 out:=fun σ k D=>by
  simp at D;refine⟨?_,rfl,?_⟩
  ·simp only[St.eI,St.dY,jO,aq];rw[if_neg D.2,if_neg D.1]
  ·simp only[St.eI,St.dY,List.mem_cons];exact⟨fun h=>h.resolve_left D.1,.inr⟩
 same:=fun σ G h k D=>by
  obtain⟨h1,h2,V⟩:=h k (.inr D);refine⟨?_,h2,?_⟩
  ·simp only[St.eI,St.dY,jO,aq];split
   ·rfl
   ·simp_all
  ·simp only[St.eI,St.dY,List.mem_cons,V]
section
variable {P : Program} {X : Ctx}
set_option maxHeartbeats 1600000 in
theorem bW.mG (hX:cC P X) {o:Oper} {env:Env} {σ:St} {args:Array Operand} {ats:Array TypeId} (ho:o.op = .call {callee := .builtin .append,args:=args,argTypes:=ats})
  {xs y:Operand} (hargs:args.toList=[xs,y]) {t t1:Nat} (Aq:ats.toList=[t,t1]) {d:Nat} (jo:d<1000000)
  {i j i1:TI} {e:Nat} (hi:X.ti t=some i) (hk:i.kind = .slice e) (hj:X.ti e=some j) {za:AV} (hz:j.zero=some za) (hi1:X.ti t1=some i1) (qp:kU i1.kind=true)
  {key n:Nat} (ha:aK X env xs=some (.gy key 0 j.size n)) {cells tail:List AV} {rows:List CV} (zS:ak key σ.boxes=some cells) (iP:cells=ag rows++tail) (hn:n=rows.length) (hfl:(bK rows).length=n*j.size)
  {b:AV} (hb:aK X env y=some b) {s1:Nat} {b9:List CV} (hsrc:mL b=some (s1,b9))
  (rR:fT s1 j.size b9=true) (hu:mem d σ.used=false) (hby:Nat.ble 1 j.bytes=true) (hbound:(rows.length+b9.length)*j.bytes<=140737488355328) :
  bW P X o env σ (.gy d 0 j.size (rows++b9).length) (fun σ=>(σ.dY d (ag (rows++b9))).eI key) ⟨[],[d,key]⟩:=by
 intro cW σ1 w g act next Q h1 h2 hinv cD di hnext
 have qf:∀x∈args.toList,x∈o.op.operands.toList:=by
  intro x hx
  rw[ho];simp only[Op.operands,Call.operands,Array.toList_append,List.mem_append];exact .inr hx
 have xI:aK X cW xs=some (.gy key 0 j.size n):=by rw[h1 xs (qf xs VY)];exact ha
 have hb':aK X cW y=some b:=by rw[h1 y (qf y VY)];exact hb
 have Hg:ak key σ1.boxes=some cells:=by rw[(h2 key (.inr cn)).1];exact zS
 have rA:=cz (a:=act) di cD xI
 have rB:=cz (a:=act) di cD hb'
 simp only[aJ]at rA
 obtain⟨bk,cap,oo,BL,ex,hcap,Xz,U9⟩:=rA
 obtain⟨bk',ZO,Zv,Yl,hbc⟩:=hinv.box key cells Hg
 rw[BL]at ZO;cases ZO
 obtain⟨⟨news,n1,n2,n3,n4⟩,n5⟩:=qe (P:=P) (w:=w) hinv.oF hsrc rR rB
 obtain⟨⟨news',We,Yo,ZE,ZF⟩,_⟩:=qe (P:=P) (w:=w.drew) (fun b o v h=>by rw[World.cell?_drew];exact hinv.oF b o v h) hsrc rR rB
 have ZP:=hbc
 rw[iP]at ZP
 obtain⟨olds,m1,mv,m3⟩:=ov ZP
 obtain⟨dt,_,xK,EK⟩:=hX.run_underlying (w:=w) hi
 rw[hk]at xK;simp only[eG]at xK;subst xK
 obtain⟨d1,BP,F0⟩:=yU hX hi1 V7 w
 obtain⟨inf,T9,Mb,ZG,ZH,_,if6⟩:=hX.ti e j hj
 obtain⟨z,z1,_,z3⟩:=ZH za hz
 have N7:news.length=b9.length*j.size:=by rw[<- (bO.get n1).1,dh n2]
 have PK:news'.length=b9.length*j.size:=by rw[<- (bO.get We).1,dh Yo]
 have PL:olds.length=n*j.size:=by rw[<- (bO.get m1).1,hfl]
 have m4:(Builtin.firstCells j.size n (.slice oo n cap)).run P w.drew = .ok olds.toArray w.drew:=by
  rcases U9 with h0|rfl
  ·have h00:n=0:=by omega
   have:olds.length=0:=by rw[PL,h00];simp
   rw[List.length_eq_zero_iff.1 this,h00]
   exact wN w.drew _ _ _
  ·refine run_firstCells_some w.drew j.size n _ n cap olds PL ?_
   intro q v hq;rw[Addr.add_lit,World.cell?_drew]
   exact mv q v hq
 have xL:args = #[xs,y]:=by cases args;simp_all
 have Ds:ats = #[t,t1]:=by cases ats;simp_all
 have SD:=Nat.le_of_ble_eq_true hby
 have hsmall:rows.length+b9.length<=140737488355328:=Nat.le_trans (Nat.le_mul_of_pos_right _ SD) hbound
 have SH:d ∉ σ1.used:=fun h=>cS hu ((h2 d (.inr cn)).2.2.1 h)
 have hdk:key≠d:=by
  rintro rfl
  exact SH (hinv.used key (.inl (by rw[BL];simp)))
 have hone:(ag (rows++b9)).all AV.one=true:=by
  rw[su,dB,List.all_append,m3,ZE];rfl
 have SE:∀(v:Value) (w':World),(Builtin.append_ #[t,t1] o.type #[.slice oo n cap,act.eval y]).run P w = .ok v w'->(execOp act.eval o).run P w = .ok (.value v) w':=by
  intro v w' hr
  obtain⟨dst,op,type,pos,after,guard⟩:=o
  simp only at ho hr;subst ho
  subst xL Ds
  simp[execOp,resolve,invoke,builtin,ex,hr,Result.andThen]
 unfold Oper.wp
 by_cases hroom:n+b9.length<=cap
 ·have hmul:n*j.size+news.length<=cap*j.size:=by
   rw[N7,<- Nat.add_mul];exact Nat.mul_le_mul_right _ hroom
  obtain⟨w',r1,r2,r3,r4,r5⟩:=mJ (P:=P) (w:=w) bk news (n*j.size) 0 w (mD n1 n3) (by
   intro q hq
   simp only[Nat.add_zero]
   exact hinv.Wa key cells bk Hg BL (n*j.size+q) bn)
  simp only[Nat.add_zero]at r3 r5
  rw[SE _ w' (kT (w':=w') EK BP F0 T9 n5 W9 hroom (by
   rcases U9 with h0|rfl
   ·have:news.length=0:=by rw[N7,show b9.length=0 from by omega];simp
    rw[List.length_eq_zero_iff.1 this]at r1 ⊢
    cases oo
    ·simpa[storeCells,eq_comm]using r1
    ·simpa[storeCells]using r1
   ·simp only[Addr.add_lit,Mb]
    rw[Nat.zero_add];exact r1))]
  rw[Oper.upon_value]
  have fW:bO g.G (bK (rows++b9)) (olds++news):=by rw[dB];exact eZ m1 n1
  have Zk:cy w' g bk 0 (ag (rows++b9)):=by
   apply cy.jS
   intro q c hq
   obtain⟨l1,l2⟩:=bH.get (oS fW)
   obtain⟨u,e1,e2⟩:=l2 q c hq
   rw[List.all_eq_true]at hone
   simp only[Nat.zero_add]
   refine⟨⟨u,?_,e2,hone c (aaz hq)⟩,?_⟩
   ·by_cases Xt:q<olds.length
    ·rw[List.getElem?_append_left Xt]at e1
     rw[r3 bk q (by right;left;omega)]
     have:=mv q u e1
     rwa[Nat.zero_add]at this
    ·rw[List.getElem?_append_right bn]at e1
     have:=r5 (q-olds.length) u e1
     rwa[show n*j.size+(q-olds.length)=q from by omega]at this
   ·rw[r4]
    have aco:q<(olds++news).length:=(List.getElem?_eq_some_iff.1 e1).1
    rw[aax]at aco
    exact(hinv.room key cells bk Hg BL q).2
  obtain⟨i1,i2,i3⟩:=U8 hinv Hg BL SH jo r2 (fun b' o' h=>r3 b' o' (.inl h)) r4 Zk (by
   intro q hq
   obtain⟨⟨u,q1⟩,_⟩:=hinv.Wa key cells bk Hg BL q hq
   by_cases hin:n*j.size<=q/\q<n*j.size+news.length
   ·obtain⟨v,hv⟩:∃v,news[q-n*j.size]?=some v:=⟨_,List.getElem?_eq_getElem bn⟩
    have:=r5 _ v hv
    rw[show n*j.size+(q-n*j.size)=q from by omega]at this
    exact⟨v,this⟩
   ·exact⟨u,by rw[r3 bk q (by right;omega)];exact q1⟩)
  refine hnext _ _ _ ?_ i1 i2 i3
  simp only[aJ]
  refine⟨bk,cap,oo,cn,?_,?_,?_,U9⟩
  ·simp[hn]
  ·simp only[aax];omega
  ·simp only[if_pos];exact Xz
 ·have hg:cap<n+b9.length:=by omega
  have hbd:(n+b9.length)*inf.bytes<=140737488355328:=by rw[ZG,hn];exact hbound
  rw[SE _ _ (nD EK BP F0 T9 z1 n5 (by rw[Mb];exact ZF) (by rw[Mb];exact m4) hg bn hbd)]
  rw[Oper.upon_value]
  have hge:=grownCap_ge w (n+b9.length) cap e
  generalize grownCap w (n+b9.length) cap e=nc at hge ⊢
  have tX:(olds.toArray++news'.toArray++Builtin.zeroCells z.cells (nc-(n+b9.length))).size=nc*j.size:=by
   simp only[Array.size_append,List.size_toArray,size_zeroCells,PL,PK,z3,<- Nat.add_mul]
   congr 1;omega
  obtain⟨e1,e2⟩:=Oc hinv
  have fW:bO g.G (bK (rows++b9)) (olds++news'):=by rw[dB];exact eZ m1 We
  have acp:(bK (rows++b9)).length=(olds++news').length:=(bO.get fW).1
  have hrc:bH g (ag (rows++b9)) ((olds.toArray++news'.toArray++Builtin.zeroCells z.cells (nc-(n+b9.length))).toList.take (ag (rows++b9)).length):=by
   rw[List.length_map,acp]
   simp only[Array.toList_append]
   rw[List.take_left']
   ·exact oS fW
   ·simp
  obtain⟨i1,i2,i3,i4⟩:=He (t:=e) e1 SH jo hrc hone
  obtain⟨i5,i6⟩:=Mh i1 key
  refine hnext _ _ _ ?_ i5 ((e2.trans i2).trans i6) i3
  simp only[aJ]
  refine⟨w.heap.size,nc,some ⟨w.heap.size,0,none⟩,cn,?_,?_,?_,.inr rfl⟩
  ·simp[hn]
  ·simp only[aax];omega
  ·simp only[if_pos,tX];omega
end
end Go.cu
namespace Go.cu
section
variable {P : Program} {X : Ctx}
theorem bW.jg (hX:cC P X) {o:Oper} {env:Env} {σ:St} {t:TypeId} {x ix:Operand} (ho:o.op = .indexAddr t x ix) {i j:TI} {e:Nat} (hi:X.ti t=some i) (hk:i.kind = .slice e) (hj:X.ti e=some j)
  {key off s n:Nat} (ha:aK X env x=some (.gy key off s n)) (hs:j.size=s) {k:IntKind} {z:Int} (hz:aK X env ix=some (.c (.int k z))) {m:Nat} (hm:z=m) (hlt:m<n) :
  bW P X o env σ (.ptr key (off+m*s)) (fun σ=>σ) ⟨[],[]⟩:=by
 refine bW.val fun cW w g act h1 ir cD di=>?_
 have xI:aK X cW x=some (.gy key off s n):=by rw[h1 x gY];exact ha
 have Xa:aK X cW ix=some (.c (.int k z)):=by rw[h1 ix gY];exact hz
 have r1:=cz (a:=act) di cD xI
 simp only[aJ]at r1
 obtain⟨b,cap,oo,BL,e1,hcap,_,U9⟩:=r1
 have e4:=Bb (cz (a:=act) di cD Xa)
 obtain⟨d,jo,ie,_⟩:=hX.run_underlying (w:=w) hi
 rw[hk]at ie;simp only[eG]at ie;subst ie
 have hoff:oo=some ⟨b,off,none⟩:=by rcases U9 with h|h;omega;exact h
 subst hoff
 refine⟨.pointer (some ⟨b,off+m*j.size,none⟩),?_,by simp only[aJ];exact⟨b,BL,by rw[hs]⟩⟩
 obtain⟨dst,op,type,pos,after,guard⟩:=o
 simp only at ho;subst ho
 simp[execOp,e1,e4,hm,Instr.indexAt,asIntOf,jo,hlt,hX.run_sizeOf hj,Addr.add_lit]
theorem bW.sliceB (hX:cC P X) {o:Oper} {env:Env} {σ:St} {t:TypeId} {x:Operand} {lo hi':Option Operand} (ho:o.op = .slice t x lo hi' none) {i j:TI} {e:Nat} (hi:X.ti t=some i) (hk:i.kind = .slice e) (hj:X.ti e=some j)
  {key off s n:Nat} (ha:aK X env x=some (.gy key off s n)) (hs:j.size=s) {l h:Option Nat} (hl:bound (aK X env) lo=some l) (hh:bound (aK X env) hi'=some h) (h1:h.getD n<=n) (h2:l.getD 0<=h.getD n) :
  bW P X o env σ (.gy key (off+l.getD 0*s) s (h.getD n-l.getD 0)) (fun σ=>σ) ⟨[],[]⟩:=by
 refine bW.val fun cW w g act hc ir cD di=>?_
 have xI:aK X cW x=some (.gy key off s n):=by rw[hc x gY];exact ha
 have hl':bound (aK X cW) lo=some l:=by
  rw[kF lo (fun y hy=>hc y (by rw[ho];subst hy;simp[Op.operands]))];exact hl
 have hh':bound (aK X cW) hi'=some h:=by
  rw[kF hi' (fun y hy=>hc y (by rw[ho];subst hy;simp[Op.operands]))];exact hh
 have r1:=cz (a:=act) di cD xI
 simp only[aJ]at r1
 obtain⟨b,cap,oo,BL,e1,hcap,Yq,U9⟩:=r1
 have b1:=oh (g:=g) (ev:=act.eval) (fun x v hx=>cz di cD hx) hl'
 have b2:=oh (g:=g) (ev:=act.eval) (fun x v hx=>cz di cD hx) hh'
 have hb:∀w,(Instr.sliceBounds true n cap (lo.map act.eval) (hi'.map act.eval) none).run P w = .ok (l.getD 0,h.getD n,cap) w:=by
  intro w
  cases l with
  | none =>
   cases h with
   | none=>exact jZ true b2 b1
   | some h=>exact lT true b2 b1 (Nat.le_trans h1 hcap)
  | some l =>
   cases h with
   | none=>exact jY true b2 b1 uG
   | some h=>exact mH true b2 b1 (Nat.le_trans h1 hcap) uG
 refine⟨.slice (if cap=l.getD 0 then oo else oo.map (·.add (l.getD 0*j.size))) (h.getD n-l.getD 0) (cap-l.getD 0),?_,?_⟩
 ·obtain⟨dst,op,type,pos,after,guard⟩:=o
  simp only at ho;subst ho
  have:=gw (w:=w) hX hi hk hj (base:=oo) hb
  simp[execOp,e1,this]
 ·simp only[aJ]
  generalize l.getD 0=L at *
  generalize h.getD n=H at *
  have hmul:off+L*s+(cap-L)*s=off+cap*s:=by
   rw[Nat.add_assoc,<- Nat.add_mul];congr 2;omega
  by_cases jV:cap=L
  ·grind
  ·refine⟨b,cap-L,oo.map (·.add (L*j.size)),BL,by rw[if_neg jV],bn,bn,.inr ?_⟩
   rcases U9 with h0|h0
   ·omega
   ·rw[h0,Option.map_some,Addr.add_lit,hs]
end
end Go.cu
namespace Go.cu
theorem F1 {G:jm} {s:Nat}:∀{rows:List CV} {Y:List Value},iq s rows=true->bO G rows Y->bO G (bK rows) (flat s Y)/\(bK rows).all CV.one=true
 | [],Y,_,h=>by simp only[bO]at h;subst h;simp[bK,flat,bO]
 | r::rows,Y,W,h=>by
  simp only[bO]at h;obtain⟨u,us,rfl,h1,h2⟩:=h;obtain⟨S,C,U⟩:=qI (nR W r cn) h1;have V:iq s rows=true:=by
   simp only[iq]at W;split at W
   ·exact W
   ·simp at W
  obtain⟨T,D⟩:=F1 V h2;exact⟨by simp only[bK,flat];exact eZ C T,by simp only[bK,List.all_append,U,D];rfl⟩
section
variable {P : Program} {X : Ctx} {ops : Array Oper} {o : Oper} {rest : List Oper} {env : Env} {acc : List Fp} {Q : Env -> St -> List Fp -> Prop} {bs : List (Nat × List AV)} {ts : List (Nat × Nat)} {us : List Nat} {σ : St}
theorem ai.jg (hX:cC P X) (kn:List Nat) (hg:cV ops.toList kn env o=some true) {t:TypeId} {x ix:Operand} (ho:o.op = .indexAddr t x ix) {d:Nat} (hd:o.dst=some d) {i j:TI} {e:Nat} (hi:X.ti t=some i) (hk:i.kind = .slice e) (hj:X.ti e=some j)
  {key off s n:Nat} (ha:aK X env x=some (.gy key off s n)) (hs:j.size=s) {k0:IntKind} {z:Int} (hz:aK X env ix=some (.c (.int k0 z))) (m:Nat) (hm:z=m) (hlt:m<n)
  (k:ai P X ops rest ((d,.ptr key (off+m*s))::env) σ (⟨[],[]⟩::acc) Q):ai P X ops (o::rest) env σ acc Q :=
 ai.step (dx hg) (bW.jg hX ho hi hk hj ha hs hz hm hlt) (gX.id _) rj
theorem ai.sliceB (hX:cC P X) (kn:List Nat) (Y:cV ops.toList kn env o=some true) {t:TypeId} {x:Operand} {S O:Option Operand} (q:o.op = .slice t x S O none) {d:Nat} (H:o.dst=some d) {i j:TI} {e:Nat} (W:X.ti t=some i) (D:i.kind = .slice e) (V:X.ti e=some j)
  {T off s n:Nat} (p:aK X env x=some (.gy T off s n)) (U:j.size=s) {l h:Option Nat} (C:bound (aK X env) S=some l) (N:bound (aK X env) O=some h) (h1:h.getD n<=n) (h2:l.getD 0<=h.getD n)
  (k:ai P X ops rest ((d,.gy T (off+l.getD 0*s) s (h.getD n-l.getD 0))::env) σ (⟨[],[]⟩::acc) Q):ai P X ops (o::rest) env σ acc Q :=
 ai.step (dx Y) (bW.sliceB hX q W D V p U C N h1 h2) (gX.id _) JT
theorem ai.gG (hX:cC P X) (kn:List Nat) (V:cV ops.toList kn env o=some true) {t:TypeId} {x:Operand} (q:o.op = .load t x) {d:Nat} (H:o.dst=some d) {i:TI} (I:X.ti t=some i) {T off:Nat} (O:aK X env x=some (.ptr T off))
  {cells r:List AV} (p:ak T bs=some cells) (U:gv off cells=some r) {v:AV} (S:wV i r=some v)
  (k:ai P X ops rest ((d,v)::env) ⟨bs,ts,us⟩ (⟨[T],[]⟩::acc) Q):ai P X ops (o::rest) env ⟨bs,ts,us⟩ acc Q:=by
 have Y:gM X bs (aK X env) o.op=some v:=by rw[q];simp only[gM,I,O,p,U,S]
 have:=ai.step (Q:=Q) (rest:=rest) (acc:=acc) (dx V) (bW.pure (σ:=⟨bs,ts,us⟩) hX Y) (gX.id _);rw[H,q]at this;have W:lM (aK X env) (.load t x)=[T]:=by simp only[lM,O]
 rw[W]at this;exact this k
theorem ai.vP (hX:cC P X) (kn:List Nat) (O:cV ops.toList kn env o=some true) {args:Array Operand} {B:Array TypeId} (M:o.op = .call {callee := .builtin .append,args:=args,argTypes:=B})
  {xs y:Operand} (p:args.toList=[xs,y]) {t N:Nat} (K:B.toList=[t,N]) {d:Nat} (I:o.dst=some d) (G:Nat.blt d 1000000=true)
  {i j S:TI} {e:Nat} (E:X.ti t=some i) (D:i.kind = .slice e) (A:X.ti e=some j) {za:AV} (hz:j.zero=some za) (C:X.ti N=some S) (qp:kU S.kind=true)
  {s:Nat} {rows:List CV} (ha:aK X env xs=some (.own .exact s rows)) {b:AV} (hb:aK X env y=some b) {q:Nat} {b9:List CV} (H:mL b=some (q,b9))
  {sz:Nat} (J:j.size=sz) (hs:fT s sz rows=true) (rR:fT q sz b9=true) (T:b9≠[]) (hu:mem d us=false) {W:Nat} (V:j.bytes=W) (U:Nat.ble 1 W=true) (Y:(rows.length+b9.length)*W<=140737488355328)
  {cs:List CV} (u:rows++b9=cs) {m:Nat} (hm:cs.length=m)
  (k:ai P X ops rest ((d,.gy d 0 sz m)::env) ⟨(d,ag cs)::bs,ts,d::us⟩ (⟨[],[d]⟩::acc) Q):ai P X ops (o::rest) env ⟨bs,ts,us⟩ acc Q:=by
 subst J V u hm;exact ai.step (dx O) (bW.vP (σ:=⟨bs,ts,us⟩) hX M p K (Nat.blt_eq.mp G) E D A hz C qp ha hb H hs rR T hu U Y) (pX d _) (by rw[I];exact k)
theorem ai.mG (hX:cC P X) (kn:List Nat) (K:cV ops.toList kn env o=some true) {args:Array Operand} {B:Array TypeId} (I:o.op = .call {callee := .builtin .append,args:=args,argTypes:=B})
  {xs y:Operand} (p:args.toList=[xs,y]) {t N:Nat} (G:B.toList=[t,N]) {d:Nat} (E:o.dst=some d) (D:Nat.blt d 1000000=true)
  {i j M:TI} {e:Nat} (A:X.ti t=some i) (hk:i.kind = .slice e) (hj:X.ti e=some j) {za:AV} (hz:j.zero=some za) (C:X.ti N=some M) (qp:kU M.kind=true)
  {sz:Nat} (J:j.size=sz) {T n:Nat} (ha:aK X env xs=some (.gy T 0 sz n)) {cells:List AV} (zS:ak T bs=some cells) (rows:List CV) (tail:List AV) (iP:cells=ag rows++tail) (hn:n=rows.length) (V:(bK rows).length=n*sz)
  {b:AV} (hb:aK X env y=some b) {q:Nat} {b9:List CV} (H:mL b=some (q,b9))
  (rR:fT q sz b9=true) (hu:mem d us=false) (W:Nat.beq d T=false) {U:Nat} (S:j.bytes=U) (O:Nat.ble 1 U=true) (Y:(rows.length+b9.length)*U<=140737488355328)
  {cs:List CV} (u:rows++b9=cs) {m:Nat} (hm:cs.length=m) {bs':List (Nat×List AV)} (j9:BN T bs=bs')
  (k:ai P X ops rest ((d,.gy d 0 sz m)::env) ⟨(d,ag cs)::bs',ts,d::us⟩ (⟨[],[d,T]⟩::acc) Q):ai P X ops (o::rest) env ⟨bs,ts,us⟩ acc Q:=by
 subst J S u hm j9
 refine ai.step (dx K) (bW.mG (σ:=⟨bs,ts,us⟩) hX I p G (Nat.blt_eq.mp D) A hk hj hz C qp ha zS iP hn V hb H rR hu O Y) (JQ d T _ (beq_false W)) (by
  rw[E];have:((⟨bs,ts,us⟩:St).dY d (ag (rows++b9))).eI T=⟨(d,ag (rows++b9))::BN T bs,ts,d::us⟩:=by
   simp only[St.eI,St.dY,BN,W]
  rw[this];exact k)
end
end Go.cu
namespace Go.cu
section
variable {P : Program} {X : Ctx}
theorem bW.iL (hX:cC P X) {o:Oper} {env:Env} {σ:St} {t:TypeId} {V:Nat} {C:Array (Nat×Operand)} (I:o.op = .buildSlice t V C) {d:Nat} (jo:d<1000000) (hu:mem d σ.used=false)
  {i j:TI} {e:Nat} (hi:X.ti t=some i) (hk:i.kind = .slice e) (H:X.ti e=some j) {za:AV} (hz:j.zero=some za) {rows:List CV} (A:iK (aK X env) 0 C.toList=some rows)
  (hl:Nat.beq rows.length V=true) (hs:iq j.size rows=true) (hb:Nat.ble (V*j.size) 16777216=true) :
  bW P X o env σ (.gy d 0 j.size V) (fun σ=>σ.dY d (ag rows)) ⟨[],[d]⟩:=by
 intro cW G w g S next Q h1 h2 U cD di Y;have yG:iK (aK X cW) 0 C.toList=some rows:=by
  rw[qd _ _ (fun p A=>h1 p.2 (by rw[I];simp only[Op.operands,List.mem_map];exact⟨p,A,rfl⟩))];exact A
 obtain⟨E,c2⟩:=va (g:=g) (ev:=S.eval) (fun x v D=>cz di cD D) yG;have T:=beq_true hl;have hne:j.size≠0:=by obtain⟨_,_,_,_,_,_,hh⟩:=hX.ti e j H;exact hh
 obtain⟨dd,BP,B,_⟩:=hX.run_underlying (w:=w) hi;rw[hk]at B;simp only[eG]at B;subst B;obtain⟨z,z1,z2,z3⟩:=hX.lK (w:=w) H hz;have O:∀v∈(C.toList.map fun p=>S.eval p.2),v.cells.size=j.size:=by
  intro v hv;obtain⟨m,hm⟩:=List.getElem?_of_mem hv;obtain⟨l1,l2⟩:=bO.get E;have M:m<rows.length:=by rw[l1];exact(List.getElem?_eq_some_iff.1 hm).1
  obtain⟨u,e1,e2⟩:=l2 m rows[m] (by simp[M]);rw[hm]at e1;simp at e1;subst e1;obtain⟨a1,a2,_⟩:=qI (nR hs rows[m] (List.getElem_mem M)) e2;have:=(bO.get a2).1;simp at this;omega
 have N:(C.toList.map fun p=>S.eval p.2).length=V:=by rw[<- (bO.get E).1];exact T
 obtain⟨W,r1,r2,r3⟩:=Ao j.size (C.toList.map fun p=>S.eval p.2) 0 ((Array.range (V*j.size)).map (z.cells[· % z.cells.size]!)) O (by simp at N ⊢;rw[N];exact aam _);have J:(execOp S.eval o).run P w = .ok (.value (.slice (some ⟨w.heap.size,0,none⟩) V V)) {w with heap:=w.heap.push (.cells W e)}:=by
  obtain⟨dst,op,type,pos,after,guard⟩:=o;simp only at I;subst I;have zG:¬(2^24<V*j.size):=by have:=Nat.le_of_ble_eq_true hb;omega
  have JG:∀zc:Array Value,(Array.range (V*j.size)).map (fun x=>zc[x%zc.size]!)=(Array.range (V*j.size)).map (fun x=>z.cells[x%z.cells.size]!) ->
    Instr.fill (fun i=>some (i*j.size,j.size)) ((Array.range (V*j.size)).map (fun x=>zc[x%zc.size]!)) (C.map fun x=>(x.1,S.eval x.2)).toList=some W:=by
   intro zc q2;rw[q2,Array.toList_map];have Zy:(C.toList.map fun x=>(x.1,S.eval x.2))=_:=c2;rw[Zy];exact r1
  simp only[execOp,Instr.buildSlice,Sem.run_bind,BP,Result.andThen_ok,hX.run_sizeOf H];rw[if_neg (by simpa using zG)];by_cases h0:V*j.size=0
  ·rw[if_pos h0];simp only[Sem.run_bind,Sem.run_pure,Result.andThen_ok];rw[JG #[] (by rw[h0];simp)];simp[newRow]
  ·rw[if_neg h0];simp only[Sem.run_bind,Sem.run_pure,Result.andThen_ok,z1];rw[JG z.cells rfl];simp[newRow]
 unfold Oper.wp;rw[J,Oper.upon_value];have SH:d ∉ G.used:=fun h=>cS hu ((h2 d (.inr cn)).2.2.1 h);obtain⟨f1,f2⟩:=F1 hs E;have hfl:(flat j.size (C.toList.map fun p=>S.eval p.2)).length=V*j.size:=by
  have:∀l:List Value,(∀v∈l,v.cells.size=j.size)->(flat j.size l).length=l.length*j.size:=by
   intro l
   induction l with
   | nil=>intro _;simp[flat]
   | cons v l ih =>
    intro h;simp only[flat,aax,ih (fun x D=>h x (by simp[D])),aaa,Nat.succ_mul];have:=h v cn;simp;omega
  rw[this _ O,N]
 have hsz:W.size=V*j.size:=by rw[r2];simp
 have K:W.toList=flat j.size (C.toList.map fun p=>S.eval p.2):=by
  apply List.ext_getElem?;intro q;have:=r3 q;simp only[Nat.zero_mul,Nat.zero_add,Nat.sub_zero,Nat.zero_le,true_and]at this;rw[Array.getElem?_toList,this];by_cases hq:q<(flat j.size (C.toList.map fun p=>S.eval p.2)).length
  ·rw[if_pos hq]
  ·simp_all
 obtain⟨i1,i2,i3,i4⟩:=L6 (us:=W) (t:=e) (cells:=ag rows) U SH jo (by rw[K];exact oS f1) (by rw[su];exact f2);refine Y _ _ _ ?_ i1 i2 i3;simp only[aJ];exact⟨w.heap.size,V,some ⟨w.heap.size,0,none⟩,cn,rfl,aam _,by simp only[if_pos,hsz];omega,.inr rfl⟩
end
section
variable {P : Program} {X : Ctx} {ops : Array Oper} {o : Oper} {rest : List Oper} {env : Env} {acc : List Fp} {Q : Env -> St -> List Fp -> Prop} {bs : List (Nat × List AV)} {ts : List (Nat × Nat)} {us : List Nat}
theorem ai.iL (hX:cC P X) (kn:List Nat) (hg:cV ops.toList kn env o=some true) {t:TypeId} {len:Nat} {parts:Array (Nat×Operand)} (ho:o.op = .buildSlice t len parts) {d:Nat} (hd:o.dst=some d) (jo:Nat.blt d 1000000=true) (hu:mem d us=false)
  {i j:TI} {e:Nat} (hi:X.ti t=some i) (hk:i.kind = .slice e) (hj:X.ti e=some j) {za:AV} (hz:j.zero=some za) {rows:List CV} (hp:iK (aK X env) 0 parts.toList=some rows)
  (hl:Nat.beq rows.length len=true) {s:Nat} (hsz:j.size=s) (hs:iq s rows=true) (hb:Nat.ble (len*s) 16777216=true)
  (k:ai P X ops rest ((d,.gy d 0 s len)::env) ⟨(d,ag rows)::bs,ts,d::us⟩ (⟨[],[d]⟩::acc) Q):ai P X ops (o::rest) env ⟨bs,ts,us⟩ acc Q:=by
 subst hsz
 exact ai.step (dx hg) (bW.iL (σ:=⟨bs,ts,us⟩) hX ho (Nat.blt_eq.mp jo) hu hi hk hj hz hp hl hs hb) (pX d _) rj
end
end Go.cu
