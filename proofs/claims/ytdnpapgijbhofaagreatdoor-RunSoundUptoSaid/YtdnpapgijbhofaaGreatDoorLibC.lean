/- A layer of abstract values over the model, part C: -/
import Derived.Test.YtdnpapgijbhofaaGreatDoorLibB
import Derived.Laws.AppendOwn
import Derived.Laws.IdiomStrings
set_option linter.defProp false
set_option linter.unusedSimpArgs false
set_option linter.unusedVariables false
namespace Go.cM
def bD:L CV->L CV
 |[]=>[]
 |r::rs=>r.cells++bD rs
def vz{G:iJ}{b:Nat}:∀{o:Nat}{a c:L CV},cL G b o (a++c)↔cL G b o a/\cL G b (o+a.length) c
 |o,[],c=>by simp[cL]
 |o,x::a,c=>by
  simp only[Zy,cL,vz (a:=a),aac,and_assoc];rw[show o+(a.length+1)=o+1+a.length from by omega]
def nW{G:iJ}{s b:Nat}:∀{o:Nat}{rows:L CV},eP G s b o rows↔cL G b o (bD rows)/\∀r∈rows,r.cells.length=s
 |o,[]=>by simp[eP,bD,cL]
 |o,r::rs=>by
  simp only[eP,bD,vz,w8,nW (rows:=rs),ZI,forall_eq_or_imp];constructor
  ·simp_all
  ·grind
def cZ{s:Nat}:∀{rows:L CV},(∀r∈rows,r.cells.length=s)->(bD rows).length=rows.length*s
 |[],_=>by simp[bD]
 |r::rs,h=>by
  simp only[bD,aay,aac,h r ek,cZ (rows:=rs) (λx I=>h x (by simp[I])),abp];omega
def dr:∀(a c:L CV),bD (a++c)=bD a++bD c
 |[],c=>by simp[bD]
 |r::a,c=>by simp[bD,dr a c]
def tw{G:iJ}{b:Nat}:∀{o:Nat}{cs:L CV},cL G b o cs->∃vs:L Value,bI G cs vs/\(∀(j:Nat) u,vs[j]?=some u->G b (o+j)=some u)/\cs.all CV.one=true
 |o,[],_=>⟨[],by simp[bI],ek,Z⟩
 |o,c::cs,h=>by
  simp only[cL]at h;obtain⟨⟨u,h1,h2,K⟩,h4⟩:=h;obtain⟨vs,Y,W,V⟩:=tw h4;refine⟨u::vs,by simp only[bI];exact⟨_,_,Z,h2,Y⟩,?_,by simp[K,V]⟩;intro j x T;cases j with
  |zero=>simp at T;subst T;simpa using h1
  |succ j=>simp at T;have:=W j x T;rwa[show o+(j+1)=o+1+j from by omega]
def lN{G:iJ}{b:Nat}:∀{o:Nat}{cs:L CV}{vs:L Value},bI G cs vs->(∀(j:Nat) u,vs[j]?=some u->G b (o+j)=some u)->cs.all CV.one=true->cL G b o cs
 |o,[],_,_,_,_=>trivial
 |o,c::cs,vs,h,B,Y=>by
  simp only[bI]at h;obtain⟨u,us,rfl,h1,h2⟩:=h;simp only[aaE,aal]at Y;refine⟨⟨u,by simpa using B 0 u ek,h1,Y.1⟩,lN h2 (λj x T=>?_) Y.2⟩;have:=B (j+1) x (by simpa using T);rwa[show o+(j+1)=o+1+j from by omega]at this
def lG{G:iJ}:∀{cs:L CV}{vs:L Value},bI G cs vs->cs.all CV.one=true->∀u∈vs,u.oneCell'=true
 |[],vs,h,_,u,hu=>by simp only[bI]at h;subst h;simp at hu
 |c::cs,vs,h,ho,u,hu=>by
  simp only[bI]at h
  obtain⟨x,us,rfl,h1,h2⟩:=h
  simp only[aaE,aal]at ho
  rcases List.mem_cons.1 hu with rfl|hu
  ·exact tg (g:=⟨G,λ_=>none,λ_=>none,λ_=>0⟩) (a := .c c) ho.1 Ui
  ·exact lG h2 ho.2 u hu
def lO:AV->Option (Nat×L CV)
 |.own _ s rows=>some (s,rows)
 |.c (.sl s rows)=>some (s,rows)
 |.c (.str l)=>some (1,l.map λb => .int .u8 b.toNat)
 |_=>none
def fH(s t:Nat)(rows:L CV):Bool:=match Nat.beq s t with
 |true=>true
 |false=>match rows with
  |[]=>true
  |_=>false
def mU{s t:Nat}{rows:L CV}(h:fH s t rows=true):s=t\/rows=[]:=by
 unfold fH at h;split at h
 ·simp_all
 ·grind
def vZ:∀(l:L UInt8),bD (l.map λb=>CV.int .u8 b.toNat)=l.map λb=>CV.int .u8 b.toNat
 |[]=>rfl
 |b::l=>by simp[bD,CV.cells,vZ l]
section
variable {P : Program}{X : Ctx}{w : World}{g : Gh}
def BT(G:iJ):∀(l:L UInt8),bI G (l.map λb=>CV.int .u8 b.toNat) (l.map λb=>Value.int .u8 b.toNat)
 |[]=>by simp[bI]
 |b::l=>by simp only[Zl,bI];exact⟨_,_,Z,VJ,BT G l⟩
def uD{w:World}(O:∀b o v,g.G b o=some v->w.cell? ⟨b,o,none⟩=some v){s t:Nat}{base:Option Addr}{rows:L CV}(E:jJ g.G s base rows)(V:fH s t rows=true)(K D:Nat)(B:K=rows.length) :
  ∃news:L Value,bI g.G (bD rows) news/\(∀r∈rows,r.cells.length=t)/\(bD rows).all CV.one=true/\(Builtin.firstCells t K (.slice base K D)).run P w = .ok news.toArray w:=by
 rcases E with rfl|⟨b,o,rfl,E⟩
 ·refine⟨[],by simp[bD,bI],ek,Z,?_⟩;simp at B;subst B;cases base with
  |none=>simp[Builtin.firstCells]
  |some a=>exact run_firstCells_some w t 0 a 0 D [] ek ek
 ·rcases mU V with rfl|rfl
  ·rw[nW]at E;obtain⟨vs,h1,h2,Y⟩:=tw E.1;refine⟨vs,h1,E.2,Y,?_⟩;refine run_firstCells_some w s K _ K D vs ?_ ?_
   ·rw[<- (bI.get h1).1,cZ E.2,B]
   ·intro j v T;rw[Addr.add_lit];exact O _ _ _ (h2 j v T)
  ·refine⟨[],by simp[bD,bI],ek,Z,?_⟩;simp at B;subst B;exact run_firstCells_some w t 0 _ 0 D [] ek ek
def oR{w:World}(O:∀b o v,g.G b o=some v->w.cell? ⟨b,o,none⟩=some v){a:AV}{s t:Nat}{rows:L CV}(W:lO a=some (s,rows))(V:fH s t rows=true){x:Value}(I:aI g a x) :
  (∃news:L Value,bI g.G (bD rows) news/\(∀r∈rows,r.cells.length=t)/\(bD rows).all CV.one=true/\(Builtin.firstCells t rows.length x).run P w = .ok news.toArray w)/\(Builtin.lenOf x).run P w = .ok rows.length w:=by
 unfold lO at W;split at W<;>simp at W
 ·obtain⟨rfl,rfl⟩:=W;simp only[aI]at I;obtain⟨base,K,D,rfl,h1,h2,U,N⟩:=I;obtain⟨news,T,J,M,S⟩:=uD (P:=P) O U V K D h1;exact⟨⟨news,T,J,M,by rw[<- h1];exact S⟩,by simp[Builtin.lenOf,h1]⟩
 ·obtain⟨rfl,rfl⟩:=W;simp only[aI,Rel]at I;obtain⟨base,K,D,rfl,h1,h2,U⟩:=I;obtain⟨news,T,J,M,S⟩:=uD (P:=P) O U V K D h1;exact⟨⟨news,T,J,M,by rw[<- h1];exact S⟩,by simp[Builtin.lenOf,h1]⟩
 ·rename_i l;obtain⟨rfl,rfl⟩:=W;simp only[aI,Rel]at I;subst I;have Y:((l.map λb=>CV.int .u8 b.toNat).all CV.one)=true:=by simp[CV.one]
  have Q:t=1\/l=[]:=by
   rcases mU V with h|h
   ·exact .inl h.symm
   ·right;simpa using h
  refine⟨⟨l.map λb=>Value.int .u8 b.toNat,by rw[vZ];exact BT _ l,?_,by rw[vZ];exact Y,?_⟩,?_⟩
  ·intro r E;rcases Q with rfl|rfl
   ·simp at E;obtain⟨b,_,rfl⟩:=E;rfl
   ·simp at E
  ·simp only[Builtin.firstCells,Sem.run_pure,aap];congr 1;have:(ByteArray.mk l.toArray).extract 0 l.length=⟨l.toArray⟩:=by rw[extract_mk];simp
   rw[this];simp
  ·simp[Builtin.lenOf,ByteArray.size]
def xm(hX:ct P X){t:Nat}{i:TI}(K:X.ti t=some i)(D:(match i.kind with | .slice _ | .str=>true|_=>false)=true)(w:World) :
  ∃d,P.underlying t=some d/\(d = .string\/∃e,d = .slice e):=by
 obtain⟨d,h1,h2,Y⟩:=hX.run_underlying (w:=w) K;refine⟨d,Y,?_⟩;split at D
 ·rename_i e S;rw[S]at h2;simp only[ey]at h2;exact .inr ⟨e,h2⟩
 ·rename_i S;rw[S]at h2;simp only[ey]at h2;exact .inl h2
 ·simp at D
def j9{t V ty e:TypeId}{W:TypeDesc}(I:P.underlying t=some (.slice e))(h1:P.underlying V=some W)(U:W = .string\/∃e,W = .slice e){i:TypeInfo}(K:P.info? e=some i)
  {base:Option Addr}{sLen sCap n:Nat}{x:Value}{news:L Value}(B:(Builtin.lenOf x).run P w = .ok n w)(hf:(Builtin.firstCells i.size n x).run P w = .ok news.toArray w)(O:sLen+n<=sCap)
  {w':World}(Y:match (motive:=Option Addr->Prop) base with|some a=>(storeCells (a.add (sLen*i.size)) news).run P w = .ok () w'|none=>w'=w) :
  (Builtin.append_ #[t,V] ty #[.slice base sLen sCap,x]).run P w = .ok (.slice base (sLen+n) sCap) w':=by
 rcases U with rfl|⟨C,rfl⟩
 all_goals
  cases base with
  |none =>
   simp only at Y;subst Y;simp[Builtin.append_,run_underlying I,run_underlying h1,sizeOf,typeInfo,K,B,O,hf]
  |some a =>
   simp only at Y;simp[Builtin.append_,run_underlying I,run_underlying h1,sizeOf,typeInfo,K,B,O,hf,Y]
def mF{t O ty e:TypeId}{W:TypeDesc}(I:P.underlying t=some (.slice e))(h1:P.underlying O=some W)(U:W = .string\/∃e,W = .slice e){i:TypeInfo}(K:P.info? e=some i){z:Value}(q:i.zero=some z)
  {base:Option Addr}{sLen sCap n:Nat}{x:Value}{olds news:L Value}(B:(Builtin.lenOf x).run P w = .ok n w)(hf:(Builtin.firstCells i.size n x).run P w.drew = .ok news.toArray w.drew)
  (V:(Builtin.firstCells i.size sLen (.slice base sLen sCap)).run P w.drew = .ok olds.toArray w.drew)(p:sCap<sLen+n)(T:sLen+n<=140737488355328)(A:(sLen+n)*i.bytes<=140737488355328) :
  (Builtin.append_ #[t,O] ty #[.slice base sLen sCap,x]).run P w =
   .ok (.slice (some ⟨w.heap.size,0,none⟩) (sLen+n) (grownCap w (sLen+n) sCap e))
    (w.drew.alloc (.cells (olds.toArray++news.toArray++Builtin.zeroCells z.cells (grownCap w (sLen+n) sCap e-(sLen+n))) e)):=by
 have E:¬(sLen+n<=sCap):=by omega
 have Y:¬(9223372036854775807<((sLen:Int)+(n:Int))):=by omega
 have S:¬(281474976710656<Builtin.nextslicecap (sLen+n) sCap*i.bytes):=by have:=growslice_fits p A;omega
 rcases U with rfl|⟨C,rfl⟩
 all_goals
  simp[Builtin.append_,run_underlying I,run_underlying h1,sizeOf,typeInfo,zeroValue,K,q,B,E,Y,S,Question.forced,hf,V,newRow,grownCap];congr 2;apply Array.ext';simp[aaQ]
def U7{w:World}{g:Gh}{σ:St}(hinv:Inv w g σ)(us:Array Value)(t:TypeId)(k:Nat)(hk:k<=us.size)(key n:Nat)(hkey:key ∉ σ.used\/∃n0,ak key σ.toks=some n0/\n0<n)(w':World)(SK:w'={w with heap:=w.heap.push (.cells us t),drawn:=w'.drawn}) :
  let g':Gh:=⟨λb o=>if b=w.heap.size/\o<k then us[o]? else g.G b o,g.box,λj=>if j=key then some (n,some (w.heap.size,k,us.size))else g.tok j,g.room⟩
  let σ':St:=⟨σ.boxes,sK key n σ.toks,key::σ.used⟩
  Inv w' g' σ'/\gy w g σ w' g' σ'/\g.le g':=by
 intro g' σ'
 have L8:w'.heap=w.heap.push (.cells us t):=by rw[SK]
 have Eb:∀b o,b<w.heap.size->w'.cell? ⟨b,o,none⟩=w.cell? ⟨b,o,none⟩/\w'.frozen? ⟨b,o,none⟩=w.frozen? ⟨b,o,none⟩:=by
  intro b o hb
  simp only[World.cell?,World.frozen?,L8]
  rw[abz,if_neg bn]
  exact⟨Z,Z⟩
 have Qm:∀o,w'.cell? ⟨w.heap.size,o,none⟩=us[o]?/\w'.frozen? ⟨w.heap.size,o,none⟩=false:=by
  intro o
  simp only[World.cell?,World.frozen?,L8]
  rw[abz,if_pos rfl]
  simp
 have hsz:w'.heap.size=w.heap.size+1:=by rw[L8];simp
 have Fw:∀b o v,g.G b o=some v->b<w.heap.size:=λb o v h=>World.block_lt_of_cell? w ⟨b,o,none⟩ (hinv.nF b o v h)
 have SR:∀hw fI,g.tok key=some (hw,fI)->hw<n:=by
  intro hw fI e
  rcases hkey with hkey|⟨n0,h1,h2⟩
  ·exact absurd (hinv.used key (.inr (by rw[e];simp))) hkey
  ·obtain⟨BE,h3,_⟩:=hinv.tok key n0 h1
   rw[e]at h3;simp at h3;omega
 have hle:g.le g':=by
  refine⟨λb o v h=>?_,λ_ _ h=>h,λ_ _ _=>rfl,λj hw fI h=>?_⟩
  ·have:=Fw b o v h
   simp only[g'];rw[if_neg bn];exact h
  ·simp only[g']
   split
   ·rename_i hj;subst hj
    have:=SR hw fI h
    exact⟨n,_,Z,bn,bn⟩
   ·exact⟨hw,fI,h,aav _,λ_=>rfl⟩
 have FA:∀b o,b<w.heap.size->g'.G b o=g.G b o:=by
  intro b o hb;simp only[g'];rw[if_neg bn]
 have oE:w'.os=w.os/\w'.tape=w.tape/\w'.output=w.output:=by rw[SK];exact⟨Z,Z,Z⟩
 refine⟨⟨?_,?_,hinv.fo,?_,?_,?_,hinv.yz λk cs b _ _ hb o=>Eb b o hb⟩,⟨oE.1,oE.2.1,oE.2.2,bn,λb hb _=>by rw[L8,abz,if_neg bn],λb o hb _=>Eb b o hb,hle.1,?_,?_,?_,λ_ _ h=>⟨h,Z,Z⟩⟩,hle⟩
 ·intro b o v h
  simp only[g']at h
  split at h
  ·rename_i hb;obtain⟨rfl,_⟩:=hb;rw[(Qm o).1];exact h
  ·rw[(Eb b o (Fw b o v h)).1];exact hinv.nF b o v h
 ·intro k cs e
  obtain⟨b,h1,h2,h3,h4⟩:=hinv.box k cs e
  exact⟨b,h1,bn,λo=>by rw[FA b o h2];exact h3 o,(cg.of_same (λo=>Eb b o h2) h4).mono hle⟩
 ·intro j m e
  simp only[σ',ej]at e
  simp only[g']
  split at e
  ·rename_i hj;subst hj
   simp at e;subst e
   rw[if_pos rfl]
   refine⟨_,Z,λb lo hi hr=>?_⟩
   simp at hr;obtain⟨rfl,rfl,rfl⟩:=hr
   refine⟨bn,λo h1 h2=>⟨?_,⟨us[o],?_⟩,(Qm o).2⟩,λk' cs e' he=>?_⟩
   ·rw[if_neg bn]
    cases hg:g.G w.heap.size o with
    |none=>rfl
    |some v=>have:=Fw _ _ _ hg;omega
   ·rw[(Qm o).1];simp[h2]
   ·obtain⟨b',f1,f2,_⟩:=hinv.box k' cs e'
    rw[f1]at he;simp at he;omega
  ·rename_i hj
   rw[if_neg hj]
   obtain⟨fI,h1,h2⟩:=hinv.tok j m e
   refine⟨fI,h1,λb lo hi hr=>?_⟩
   obtain⟨h3,h4,h5⟩:=h2 b lo hi hr
   refine⟨bn,λo HK Kj=>?_,h5⟩
   obtain⟨h6,⟨u,h7⟩,h8⟩:=h4 o HK Kj
   exact⟨Uw,⟨u,(Eb b o h3).1.trans h7⟩,(Eb b o h3).2.trans h8⟩
 ·intro j j' m m' b lo hi lo' hi' e e' e1 e2
  simp only[σ',ej]at e e'
  simp only[g']at e1 e2
  split at e
  ·rename_i hj;subst hj
   rw[if_pos rfl]at e1
   simp at e1;obtain⟨_,rfl,_,_⟩:=e1
   split at e'
   ·rename_i hj';exact hj'.symm
   ·rename_i hj'
    rw[if_neg hj']at e2
    obtain⟨fI,h1,h2⟩:=hinv.tok j' m' e'
    rw[e2]at h1;simp at h1
    have:=(h2 _ _ _ h1.symm).1
    omega
  ·rename_i hj
   rw[if_neg hj]at e1
   split at e'
   ·rename_i hj';subst hj'
    rw[if_pos rfl]at e2
    simp at e2;obtain⟨_,rfl,_,_⟩:=e2
    obtain⟨fI,h1,h2⟩:=hinv.tok j m e
    rw[e1]at h1;simp at h1
    have:=(h2 _ _ _ h1.symm).1
    omega
   ·rename_i hj'
    rw[if_neg hj']at e2
    exact hinv.ga j j' m m' b lo hi lo' hi' e e' e1 e2
 ·intro j e
  simp only[σ',ZI]
  by_cases hj:j=key
  ·exact .inl hj
  ·right;apply hinv.used j;simpa[g',hj]using e
 ·intro b o v h
  simp only[g']at h
  split at h
  ·rename_i hb;right;left;omega
  ·exact .inl h
 ·exact λk cs b h1 h2 => .inr ⟨k,cs,h1,h2⟩
 ·intro j m b lo hi e1 e2
  simp only[σ',ej]at e1
  simp only[g']at e2
  split at e1
  ·rename_i hj;subst hj
   rw[if_pos rfl]at e2
   simp at e2;left;omega
  ·rename_i hj
   rw[if_neg hj]at e2
   exact .inr ⟨j,m,lo,hi,e1,e2,aav _,aav _⟩
def SS{w:World}{g:Gh}{σ:St}(Y:Inv w g σ)(M n:Nat)(B:Option (Nat×Nat×Nat))(A:(M ∉ σ.used/\B=none)\/∃V,g.tok M=some (V,B)/\ak M σ.toks=some V/\V<n) :
  let g':Gh:=⟨g.G,g.box,λj=>if j=M then some (n,B)else g.tok j,g.room⟩
  let u:St:=⟨σ.boxes,sK M n σ.toks,M::σ.used⟩
  Inv w g' u/\gy w g σ w g' u/\g.le g':=by
 intro g' u;have D:g.le g':=by
  refine⟨iJ.le.refl _,λ_ _ h=>h,λ_ _ _=>rfl,λj hw r h=>?_⟩;simp only[g'];split
  ·rename_i T;subst T;rcases A with ⟨A,_⟩|⟨V,h1,h2,P⟩
   ·exact absurd (Y.used j (.inr (by rw[h];simp))) A
   ·grind
  ·grind
 refine⟨⟨Y.nF,?_,Y.fo,?_,?_,?_,Y.room⟩,⟨Z,Z,Z,aav _,λ_ _ _=>rfl,λ_ _ _ _=>⟨Z,Z⟩,iJ.le.refl _,λ_ _ _ h => .inl h,λk cs b h1 h2 => .inr ⟨k,cs,h1,h2⟩,?_,λ_ _ h=>⟨h,Z,Z⟩⟩,D⟩
 ·intro k cs e;obtain⟨b,h1,h2,P,N⟩:=Y.box k cs e;exact⟨b,h1,h2,P,N.mono D⟩
 ·intro j m e;simp only[u,ej]at e;simp only[g'];split at e
  ·rename_i T;subst T;simp at e;subst e;rw[if_pos rfl];refine⟨_,Z,λb H K E=>?_⟩;rcases A with ⟨_,rfl⟩|⟨V,h1,h2,P⟩
   ·simp at E
   ·obtain⟨BE,U,p⟩:=Y.tok j V h2;rw[h1]at U;simp at U;subst U;exact p b H K E
  ·rename_i T;rw[if_neg T];exact Y.tok j m e
 ·intro j O m I b H K S Q e e' C J;have W:∀j m b H K,ak j u.toks=some m->g'.tok j=some (m,some (b,H,K))->∃q,ak j σ.toks=some q/\g.tok j=some (q,some (b,H,K)):=by
   intro j m b H K e C;simp only[u,ej]at e;simp only[g']at C;split at e
   ·grind
   ·simp_all
  obtain⟨q,U,p⟩:=W j m b H K e C;obtain⟨Zq,WR,Zr⟩:=W O I b S Q e' J;exact Y.ga j O q Zq b H K S Q U WR p Zr
 ·intro j e;simp only[u,ZI];by_cases T:j=M
  ·exact .inl T
  ·right;apply Y.used j;simpa[g',T]using e
 ·intro j m b H K C J;simp only[u,ej]at C;simp only[g']at J;split at C
  ·grind
  ·grind
def SU{w w':World}{g:Gh}{σ:St}(hinv:Inv w g σ){key n b lo hi:Nat}(hk:ak key σ.toks=some n)(hg:g.tok key=some (n,some (b,lo,hi)))(vs:L Value)(hfit:lo+vs.length<=hi)
  (r2:w'.heap.size=w.heap.size/\w'.os=w.os/\w'.tape=w.tape/\w'.output=w.output/\∀b',b'≠b->w'.heap[b']?=w.heap[b']?)
  (r3:∀b' o',b'≠b\/o'<lo\/lo+vs.length<=o'->w'.cell? ⟨b',o',none⟩=w.cell? ⟨b',o',none⟩)(r4:∀b' o',w'.frozen? ⟨b',o',none⟩=w.frozen? ⟨b',o',none⟩)
  (r5:∀j v,vs[j]?=some v->w'.cell? ⟨b,lo+j,none⟩=some v)(hne:vs≠[]) :
  let g':Gh:=⟨λb' o=>if b'=b/\lo<=o/\o<lo+vs.length then vs[o-lo]? else g.G b' o,g.box,λj=>if j=key then some (n+1,some (b,lo+vs.length,hi))else g.tok j,g.room⟩
  let σ':St:=⟨σ.boxes,sK key (n+1) σ.toks,key::σ.used⟩
  Inv w' g' σ'/\gy w g σ w' g' σ'/\g.le g':=by
 intro g' σ'
 obtain⟨abS,t1,t2⟩:=hinv.tok key n hk
 rw[hg]at t1;simp at t1;subst t1
 obtain⟨t3,t4,t5⟩:=t2 b lo hi rfl
 have hlen:0<vs.length:=List.length_pos_iff.2 hne
 have WZ:∀b' o v,g.G b' o=some v->¬(b'=b/\lo<=o/\o<lo+vs.length):=by
  rintro b' o v h ⟨rfl,h1,h2⟩
  rw[(t4 o h1 bn).1]at h;simp at h
 have hle:g.le g':=by
  refine⟨λb' o v h=>?_,λ_ _ h=>h,λ_ _ _=>rfl,λj hw r h=>?_⟩
  ·simp only[g'];rw[if_neg (WZ b' o v h)];exact h
  ·simp only[g']
   split
   ·rename_i hj;subst hj
    rw[hg]at h;simp at h;exact⟨n+1,_,Z,bn,bn⟩
   ·exact⟨hw,r,h,aav _,λ_=>rfl⟩
 have hcell:∀b' o,¬(b'=b/\lo<=o/\o<lo+vs.length)->w'.cell? ⟨b',o,none⟩=w.cell? ⟨b',o,none⟩:=by
  intro b' o h;exact r3 b' o bn
 refine⟨⟨?_,?_,hinv.fo,?_,?_,?_,hinv.yz λk cs b' e h1 hb o=>⟨hcell b' o (by rintro⟨rfl,_⟩;exact t5 k cs e h1),r4 b' o⟩⟩,⟨r2.2.1,r2.2.2.1,r2.2.2.2.1,bn,λb' hb' hno=>r2.2.2.2.2 b' (by rintro rfl;exact hno lo (.inr ⟨key,n,lo,hi,hk,hg,bn,bn⟩)),λb' o hb' hno=>⟨hcell b' o ?_,r4 b' o⟩,hle.1,?_,λk cs b h1 h2 => .inr ⟨k,cs,h1,h2⟩,?_,λ_ _ h=>⟨h,rfl,rfl⟩⟩,hle⟩
 ·intro b' o v h
  simp only[g']at h
  split at h
  ·rename_i hb;obtain⟨rfl,h1,h2⟩:=hb
   have:=r5 (o-lo) v h
   rwa[show lo+(o-lo)=o from by omega]at this
  ·rename_i hb;rw[hcell b' o hb];exact hinv.nF b' o v h
 ·intro k cs e
  obtain⟨b',h1,h2,h3,h4⟩:=hinv.box k cs e
  have yd:b'≠b:=by rintro rfl;exact t5 k cs e h1
  exact⟨b',h1,bn,λo=>by simp only[g'];rw[if_neg bn];exact h3 o,(cg.of_same (λo=>⟨hcell b' o bn,r4 b' o⟩) h4).mono hle⟩
 ·intro j m e
  simp only[σ',ej]at e
  simp only[g']
  split at e
  ·rename_i hj;subst hj
   simp at e;subst e
   rw[if_pos rfl]
   refine⟨_,Z,λb' lo' hi' hr=>?_⟩
   simp at hr;obtain⟨rfl,rfl,rfl⟩:=hr
   refine⟨bn,λo h1 h2=>?_,t5⟩
   obtain⟨h6,⟨u,h7⟩,h8⟩:=t4 o bn h2
   exact⟨Uw,⟨u,(hcell b o bn).trans h7⟩,(r4 b o).trans h8⟩
  ·rename_i hj
   rw[if_neg hj]
   obtain⟨fI,h1,h2⟩:=hinv.tok j m e
   refine⟨fI,h1,λb' lo' hi' hr=>?_⟩
   obtain⟨h3,h4,h5⟩:=h2 b' lo' hi' hr
   have yd:b'≠b:=by
    rintro rfl;subst hr
    exact hj (hinv.ga j key m n b' lo' hi' lo hi e hk h1 hg)
   refine⟨bn,λo HK Kj=>?_,h5⟩
   obtain⟨h6,⟨u,h7⟩,h8⟩:=h4 o HK Kj
   exact⟨Uw,⟨u,(hcell b' o bn).trans h7⟩,(r4 b' o).trans h8⟩
 ·intro j j' m m' b1 V0 hi1 lo2 hi2 e e' e1 e2
  have key':∀j m b1 V0 hi1,ak j σ'.toks=some m->g'.tok j=some (m,some (b1,V0,hi1))->∃m0 Dd pn,ak j σ.toks=some m0/\g.tok j=some (m0,some (b1,Dd,pn)):=by
   intro j m b1 V0 hi1 e e1
   simp only[σ',ej]at e
   simp only[g']at e1
   split at e
   ·simp_all
   ·simp_all
  obtain⟨m0,l0,h0,f1,f2⟩:=key' j m b1 V0 hi1 e e1
  obtain⟨Zq,l0',U6,WR,Zr⟩:=key' j' m' b1 lo2 hi2 e' e2
  exact hinv.ga j j' m0 Zq b1 l0 h0 l0' U6 f1 WR f2 Zr
 ·intro j e
  simp only[σ',ZI]
  by_cases hj:j=key
  ·exact .inl hj
  ·right;apply hinv.used j;simpa[g',hj]using e
 ·rintro⟨rfl,h1,h2⟩;exact hno (.inr ⟨key,n,lo,hi,hk,hg,bn,bn⟩)
 ·intro b' o v h
  simp only[g']at h
  split at h
  ·rename_i hb;obtain⟨rfl,h1,h2⟩:=hb
   exact .inr (.inr (.inr ⟨key,n,lo,hi,hk,hg,bn,bn⟩))
  ·exact .inl h
 ·intro j m b' lo' hi' e1 e2
  simp only[σ',ej]at e1
  simp only[g']at e2
  split at e1
  ·rename_i hj;subst hj
   rw[if_pos rfl]at e2
   simp at e2;obtain⟨_,rfl,rfl,rfl⟩:=e2
   exact .inr ⟨j,n,lo,hi,hk,hg,bn,aav _⟩
  ·rename_i hj
   rw[if_neg hj]at e2
   exact .inr ⟨j,m,lo',hi',e1,e2,aav _,aav _⟩
end
end Go.cM
namespace Go.cM
def tC(d:Nat)(us:L Nat)(ts:L (Nat×Nat)):SJ->Option (Nat×Nat)
 |.exact=>match mem d us with
  |false=>some (d,0)
  |true=>none
 |.tok k m=>match ak k ts with
  |some Y=>match Nat.beq Y m with
   |true=>some (k,m+1)
   |false=>none
  |none=>none
def BU(s t:Nat)(rows:L CV):SJ->Bool
 |.exact=>fH s t rows
 |.tok _ _=>Nat.beq s t
def xo{s t:Nat}{rows:L CV}:∀{o:SJ},BU s t rows o=true->fH s t rows=true
 |.exact,h=>h
 |.tok _ _,h=>by simp only[BU]at h;simp[fH,h]
def ke:TK->Bool
 |.slice _ | .str=>true
 |_=>false
def Ko(M n:Nat):gA (λσ=>(⟨σ.boxes,sK M n σ.toks,M::σ.used⟩:St)) ⟨[],[M]⟩ where
 out:=λσ k D=>by
  have:k≠M:=by simpa using D
  refine⟨Z,?_,?_⟩
  ·simp only[ej,if_neg this]
  ·simp[this]
 same:=λσ N h k D=>by
  have:k=M:=by simpa using D
  subst this;refine⟨(h k (.inr ek)).1,?_,?_⟩
  ·simp[ej]
  ·simp
section
variable {P : Program}{X : Ctx}
def Ec{Y:iJ}{s b o:Nat}{rows bV:L CV}{olds news:L Value}(h1:bI Y (bD rows) olds)(h2:bI Y (bD bV) news)(W:∀r∈rows,r.cells.length=s)(C:∀r∈bV,r.cells.length=s)
  (V:(bD rows).all CV.one=true)(A:(bD bV).all CV.one=true)(B:∀(j:Nat) u,(olds++news)[j]?=some u->Y b (o+j)=some u):eP Y s b o (rows++bV):=by
 rw[nW,dr];refine⟨lN (eO h1 h2) B (by rw[abm,V,A];rfl),?_⟩;intro r E;rcases List.mem_append.1 E with E|E
 ·exact W r E
 ·exact C r E
set_option maxHeartbeats 1600000 in
def bP.append(hX:ct P X){o:Oper}{env:Env}{σ:St}{args:Array Operand}{ats:Array TypeId}(ho:o.op = .call {callee := .builtin .append,args:=args,argTypes:=ats})
  {xs y:Operand}(hargs:args.toList=[xs,y]){t t1:Nat}(yO:ats.toList=[t,t1]){d:Nat}
  {i j i1:TI}{e:Nat}(hi:X.ti t=some i)(hk:i.kind = .slice e)(hj:X.ti e=some j){za:AV}(hz:j.zero=some za)(hi1:X.ti t1=some i1)(pg:ke i1.kind=true)
  {ow:SJ}{s:Nat}{rows:L CV}(ha:aJ X env xs=some (.own ow s rows)){b:AV}(hb:aJ X env y=some b){s1:Nat}{bV:L CV}(hsrc:lO b=some (s1,bV))
  (hs:BU s j.size rows ow=true)(qu:fH s1 j.size bV=true){key n:Nat}(hkey:tC d σ.used σ.toks ow=some (key,n))(hby:Nat.ble 1 j.bytes=true)(hbound:(rows.length+bV.length)*j.bytes<=140737488355328) :
  bP P X o env σ (.own (.tok key n) j.size (rows++bV)) (λσ=>⟨σ.boxes,sK key n σ.toks,key::σ.used⟩) ⟨[],[key]⟩:=by
 intro cT σ1 w g act next Q h1 h2 hinv cu de hnext
 have oS:∀x∈args.toList,x∈o.op.operands.toList:=by
  intro x hx
  rw[ho];simp only[Op.operands,Call.operands,aaD,Y8];exact .inr hx
 have vX:aJ X cT xs=some (.own ow s rows):=by rw[h1 xs (oS xs WI)];exact ha
 have hb':aJ X cT y=some b:=by rw[h1 y (oS y WI)];exact hb
 have rA:=cn (a:=act) de cu vX
 have rB:=cn (a:=act) de cu hb'
 simp only[aI]at rA
 obtain⟨base,len,cap,ex,hlen,hcap,fF,hown⟩:=rA
 obtain⟨⟨news,n1,n2,n3,n4⟩,n5⟩:=oR (P:=P) (w:=w) hinv.nF hsrc qu rB
 obtain⟨⟨news',T0,V5,W0,W2⟩,_⟩:=oR (P:=P) (w:=w.drew) (λb o v h=>by rw[World.cell?_drew];exact hinv.nF b o v h) hsrc qu rB
 obtain⟨olds,m1,m2,m3,m4⟩:=uD (P:=P) (w:=w.drew) (g:=g) (λb o v h=>by rw[World.cell?_drew];exact hinv.nF b o v h) fF (xo hs) len cap hlen
 obtain⟨dt,_,v8,Dp⟩:=hX.run_underlying (w:=w) hi
 rw[hk]at v8;simp only[ey]at v8;subst v8
 obtain⟨d1,iL,Ay⟩:=xm hX hi1 WY w
 obtain⟨inf,R5,Kp,W3,W4,_,Zs⟩:=hX.ti e j hj
 obtain⟨z,z1,_,z3⟩:=W4 za hz
 have L9:news.length=bV.length*j.size:=by rw[<- (bI.get n1).1,cZ n2]
 have NN:news'.length=bV.length*j.size:=by rw[<- (bI.get T0).1,cZ V5]
 have Nx:olds.length=rows.length*j.size:=by rw[<- (bI.get m1).1,cZ m2]
 have v9:args = #[xs,y]:=by cases args;simp_all
 have BV:ats = #[t,t1]:=by cases ats;simp_all
 have Qn:=ZD hby
 have hsmall:rows.length+bV.length<=140737488355328:=aaG (acd _ Qn) hbound
 have Qo:∀(v:Value)(w':World),(Builtin.append_ #[t,t1] o.type #[.slice base len cap,act.eval y]).run P w = .ok v w'->(execOp act.eval o).run P w = .ok (.value v) w':=by
  intro v w' hr
  obtain⟨dst,op,type,pos,after,guard⟩:=o
  simp only at ho hr;subst ho
  subst v9 BV
  simp[execOp,resolve,invoke,builtin,ex,hr,Result.andThen]
 unfold Oper.wp
 by_cases hroom:len+bV.length<=cap
 ·by_cases h0:bV.length=0
  ·obtain rfl:bV=[]:=abr h0
   have hn0:news=[]:=by simpa[bD,bI]using n1
   subst hn0
   rw[Qo _ w (j9 (w':=w) Dp iL Ay R5 n5 XQ hroom (by cases base<;>simp[storeCells]))]
   rw[Oper.upon_value]
   have W5:∃fI,((key ∉ σ1.used/\fI=none)\/∃n0,g.tok key=some (n0,fI)/\ak key σ1.toks=some n0/\n0<n) /\
     (cap=len\/∃b lo hi o,fI=some (b,lo,hi)/\base=some ⟨b,o,none⟩/\lo=o+len*j.size/\hi=o+cap*j.size/\len<=cap):=by
    cases ow with
    |exact =>
     simp only[tC]at hkey
     split at hkey
     ·rename_i hu
      simp at hkey;obtain⟨rfl,rfl⟩:=hkey
      exact⟨none,.inl ⟨λh=>cQ hu ((h2 d (.inr ek)).2.2.1 h),Z⟩,.inl hown⟩
     ·simp at hkey
    |tok k m =>
     simp only[tC]at hkey
     split at hkey
     ·rename_i m' hm'
      split at hkey
      ·rename_i W6
       simp at hkey;obtain⟨rfl,rfl⟩:=hkey
       have:=beq_true W6;subst this
       have JO:ak k σ1.toks=some m':=by rw[(h2 k (.inr ek)).2.1];exact hm'
       obtain⟨hw,fI,e1,e2,e3⟩:=hown
       obtain⟨BE,e4,_⟩:=hinv.tok k m' JO
       rw[e1]at e4;simp at e4;obtain⟨rfl,rfl⟩:=e4
       simp only[BU]at hs
       have:=beq_true hs;subst this
       exact⟨fI,.inr ⟨hw,e1,JO,bn⟩,e3 Z⟩
      ·simp at hkey
     ·simp at hkey
   obtain⟨fI,Dg,OQ⟩:=W5
   obtain⟨i1,i2,i3⟩:=SS hinv key n fI Dg
   refine hnext _ w _ ?_ i1 i2 i3
   simp only[aI,Zc,aad,aaL]
   refine⟨base,len,cap,Z,hlen,hcap,?_,n,fI,ek,aav _,λ_=>OQ⟩
   rcases fF with rfl|⟨b0,o0,hb0,R6⟩
   ·exact .inl Z
   ·rcases mU (xo hs)with rfl|rfl
    ·exact .inr ⟨b0,o0,hb0,R6⟩
    ·exact .inl Z
  ·
   cases ow with
   |exact=>simp only[oD]at hown;omega
   |tok k m =>
    simp only[tC]at hkey
    split at hkey
    ·rename_i m' hm'
     split at hkey
     ·rename_i W6
      simp at hkey;obtain⟨rfl,rfl⟩:=hkey
      have:=beq_true W6;subst this
      have JO:ak k σ1.toks=some m':=by rw[(h2 k (.inr ek)).2.1];exact hm'
      obtain⟨hw,fI,e1,e2,e3⟩:=hown
      obtain⟨BE,e4,e5⟩:=hinv.tok k m' JO
      rw[e1]at e4;simp at e4;obtain⟨rfl,rfl⟩:=e4
      simp only[BU]at hs
      have:=beq_true hs;subst this
      rcases e3 rfl with hc|⟨b0,lo,hi',o0,rfl,rfl,rfl,rfl,_⟩
      ·omega
      obtain⟨f1,f2,f3⟩:=e5 _ _ _ rfl
      have hmul:len*j.size+news.length<=cap*j.size:=by
       rw[L9,<- abp];exact abk _ hroom
      obtain⟨w',r1,r2,r3,r4,r5⟩:=lM (P:=P) (w:=w) b0 news (o0+len*j.size) 0 w (lG n1 n3) (by
       intro q hq
       simp only[aaL]
       obtain⟨_,g2,g3⟩:=f2 (o0+len*j.size+q) bn bn
       exact⟨g2,g3⟩)
      simp only[aaL]at r3 r5
      rw[Qo _ w' (j9 (w':=w') Dp iL Ay R5 n5 XQ hroom (by simp only[Addr.add_lit,Kp];exact r1))]
      rw[Oper.upon_value]
      obtain⟨i1,i2,i3⟩:=SU hinv JO e1 news bn r2 r3 r4 r5 (by
       intro hn;rw[hn]at L9
       have hz:bV.length*j.size=0:=L9.symm
       rcases Nat.mul_eq_zero.1 hz with hz|hz
       ·exact h0 hz
       ·exact Zs hz)
      refine hnext _ w' _ ?_ i1 i2 i3
      simp only[aI]
      refine⟨_,_,_,Z,by simp[hlen],bn,.inr ⟨b0,o0,Z,?_⟩,hw+1,some (b0,o0+len*j.size+news.length,o0+cap*j.size),ek,aav _,λ_ => .inr ⟨b0,_,_,o0,Z,Z,?_,Z,bn⟩⟩
      ·refine Ec (olds:=olds) (news:=news) (bI.mono i3.1 _ _ m1) (bI.mono i3.1 _ _ n1) m2 n2 m3 n3 λq u hq=>?_
       by_cases U8:q<olds.length
       ·rw[abU U8]at hq
        rcases fF with rfl|⟨b2,o2,OQ,Kq⟩
        ·simp_all
        ·simp at OQ;obtain⟨rfl,rfl⟩:=OQ
         rw[nW]at Kq
         obtain⟨vs,v1,v2,v3⟩:=tw Kq.1
         have:vs=olds:=by
          have q1:(Builtin.firstCells j.size len (.slice (some ⟨b0,o0,none⟩) len cap)).run P w.drew = .ok vs.toArray w.drew:=by
           refine run_firstCells_some w.drew j.size len _ len cap vs ?_ ?_
           ·rw[<- (bI.get v1).1,cZ Kq.2,hlen]
           ·intro j v hj;rw[Addr.add_lit,World.cell?_drew];exact hinv.nF _ _ _ (v2 j v hj)
          rw[m4]at q1;simp at q1;exact q1.symm
         subst this
         exact i3.1 _ _ _ (v2 q u hq)
       ·grind
      ·grind
     ·simp at hkey
    ·simp at hkey
 ·have hg:cap<len+bV.length:=by omega
  have hbd:(len+bV.length)*inf.bytes<=140737488355328:=by rw[W3,hlen];exact hbound
  rw[Qo _ _ (mF Dp iL Ay R5 z1 n5 (by rw[Kp];exact W2) (by rw[Kp];exact m4) hg bn hbd)]
  rw[Oper.upon_value]
  have hge:=grownCap_ge w (len+bV.length) cap e
  generalize grownCap w (len+bV.length) cap e=nc at hge ⊢
  have sI:(olds.toArray++news'.toArray++Builtin.zeroCells z.cells (nc-(len+bV.length))).size=nc*j.size:=by
   simp only[abd,aaR,size_zeroCells,Nx,NN,z3,<- hlen,<- abp]
   congr 1;omega
  have Zt:(len+bV.length)*j.size<=(olds.toArray++news'.toArray++Builtin.zeroCells z.cells (nc-(len+bV.length))).size:=by rw[sI];exact abk _ hge
  have hkk:key ∉ σ1.used\/∃n0,ak key σ1.toks=some n0/\n0<n:=by
   cases ow with
   |exact =>
    simp only[tC]at hkey
    split at hkey
    ·rename_i hu
     simp at hkey;obtain⟨rfl,rfl⟩:=hkey
     exact .inl λh=>cQ hu ((h2 d (.inr ek)).2.2.1 h)
    ·simp at hkey
   |tok k m =>
    simp only[tC]at hkey
    split at hkey
    ·rename_i m' hm'
     split at hkey
     ·rename_i W6
      simp at hkey;obtain⟨rfl,rfl⟩:=hkey
      have:=beq_true W6;subst this
      exact .inr ⟨m',by rw[(h2 k (.inr ek)).2.1];exact hm',bn⟩
     ·simp at hkey
    ·simp at hkey
  obtain⟨i1,i2,i3⟩:=U7 hinv (olds.toArray++news'.toArray++Builtin.zeroCells z.cells (nc-(len+bV.length))) e ((len+bV.length)*j.size) Zt key n hkk
   (w.drew.alloc (.cells (olds.toArray++news'.toArray++Builtin.zeroCells z.cells (nc-(len+bV.length))) e)) Z
  refine hnext _ _ _ ?_ i1 i2 i3
  simp only[aI]
  refine⟨_,_,_,Z,by simp[hlen],hge,.inr ⟨w.heap.size,0,Z,?_⟩,n,_,if_pos Z,aav _,λ_ => .inr ⟨_,_,_,0,Z,Z,by rw[ZG],by rw[sI,ZG],hge⟩⟩
  refine Ec (olds:=olds) (news:=news') (bI.mono i3.1 _ _ m1) (bI.mono i3.1 _ _ T0) m2 V5 m3 W0 λq u hq=>?_
  have U8:q<(olds++news').length:=(List.getElem?_eq_some_iff.1 hq).1
  have abV:q<(len+bV.length)*j.size:=by simp only[aay,Nx,NN,<- hlen,<- abp]at U8;exact U8
  simp only
  rw[if_pos ⟨trivial,bn⟩,ZG]
  rw[show olds.toArray++news'.toArray=(olds++news').toArray from by simp,Z4 (by simpa using U8)]
  simpa using hq
end
section
variable {P : Program}{X : Ctx}{ops : Array Oper}{o : Oper}{rest : L Oper}{env : Env}{acc : L Fp}{Q : Env -> St -> L Fp -> Prop}{bs : L (Nat × L AV)}{ts : L (Nat × Nat)}{us : L Nat}
def ah.append(hX:ct P X)(kn:L Nat)(p:cS ops.toList kn env o=some true){args:Array Operand}{H:Array TypeId}(K:o.op = .call {callee := .builtin .append,args:=args,argTypes:=H})
  {xs y:Operand}(q:args.toList=[xs,y]){t O:Nat}(I:H.toList=[t,O]){d:Nat}(E:o.dst=some d)
  {i j S:TI}{e:Nat}(C:X.ti t=some i)(B:i.kind = .slice e)(hj:X.ti e=some j){za:AV}(hz:j.zero=some za)(G:X.ti O=some S)(pg:ke S.kind=true)
  {W:SJ}{s:Nat}{rows:L CV}(ha:aJ X env xs=some (.own W s rows)){b:AV}(hb:aJ X env y=some b){u:Nat}{bV:L CV}(N:lO b=some (u,bV))
  {sz:Nat}(J:j.size=sz)(hs:BU s sz rows W=true)(qu:fH u sz bV=true){M n:Nat}(A:tC d us ts W=some (M,n)){V:Nat}(U:j.bytes=V)(T:Nat.ble 1 V=true){ts':L (Nat×Nat)}(D:vu M n ts=some ts')
  (Y:(rows.length+bV.length)*V<=140737488355328)
  (k:ah P X ops rest ((d,.own (.tok M n) sz (rows++bV))::env) ⟨bs,ts',M::us⟩ (⟨[],[M]⟩::acc) Q):ah P X ops (o::rest) env ⟨bs,ts,us⟩ acc Q:=by
 subst J U;rw[qC]at D;simp at D;subst D;exact ah.step (dg p) (bP.append (σ:=⟨bs,ts,us⟩) hX K q I C B hj hz G pg ha hb N hs qu A T Y) (Ko M n) (by rw[E];exact k)
end
end Go.cM
namespace Go.cM
structure Ren where
 bx:Nat->Option Nat
 tk:Nat->Option (Nat×Option Nat)
def Gh.fL(g:Gh)(ρ:Ren):Gh where
 G:=g.G
 box:=λk=>match ρ.bx k with
  |some S=>g.box S
  |none=>none
 tok:=λk=>match ρ.tk k with
  |some (m,none)=>some (m,none)
  |some (m,some S)=>match g.tok S with
   |some (_,B)=>some (m,B)
   |none=>none
  |none=>none
 room:=λk=>match ρ.bx k with
  |some S=>g.room S
  |none=>0
mutual
def Conv(ρ:Ren)(ts:L (Nat×Nat)):AV->AV->Prop
 |.c v,b=>b = .c v\/close b=some v
 |.own .exact s rows,b=>b = .own .exact s rows
 |.own (.tok k m) s rows,b=>∃o,ρ.tk k=some (m,o)/\(o=none/\(∃q,b = .own .exact q rows/\(q=s\/rows=[]))\/∃S n,o=some S/\ak S ts=some n/\b = .own (.tok S n) s rows)
 |.ptr k off,b=>∃S,ρ.bx k=some S/\b = .ptr S off
 |.fZ k off s n,b=>∃S,ρ.bx k=some S/\b = .fZ S off s n
 |.any,b=>b.one=true
 |.agg l,b=>∃U,b = .agg U/\eY ρ ts l U
 |.gb l,b=>∃U,b = .gb U/\eY ρ ts l U
def eY(ρ:Ren)(ts:L (Nat×Nat)):L AV->L AV->Prop
 |[],U=>U=[]
 |a::l,U=>∃b r,U=b::r/\Conv ρ ts a b/\eY ρ ts l r
end
section
variable {g : Gh}{ρ : Ren}{ts : L (Nat × Nat)}
mutual
def pO(D:∀k n,ak k ts=some n->∃B,g.tok k=some (n,B)):∀{a b:AV}{u:Value},Conv ρ ts a b->aI g b u->aI (g.fL ρ) a u/\(b.one=true->a.one=true)
 |.c v,b,u,h,E=>by
  simp only[Conv]at h;rcases h with rfl|h
  ·simp only[aI]at E ⊢;exact⟨E,λh=>h⟩
  ·have:=qE b v u h E;simp only[aI];exact⟨this.1,this.2⟩
 |.own .exact s rows,b,u,h,E=>by
  simp only[Conv]at h;subst h;simp only[aI]at E ⊢;exact⟨E,λh=>h⟩
 |.own (.tok k m) s rows,b,u,h,E=>by
  simp only[Conv]at h;obtain⟨o,h1,⟨rfl,q,rfl,hq⟩|⟨S,n,rfl,h2,rfl⟩⟩:=h
  ·simp only[aI]at E ⊢;obtain⟨base,K,Y,C,Q,V,p,W⟩:=E;refine⟨⟨base,K,Y,C,Q,V,?_,m,none,?_,aav _,λ_ => .inl W⟩,λ_=>rfl⟩
   ·rcases hq with rfl|rfl
    ·exact p
    ·exact .inl Z
   simp only[Gh.fL,h1]
  ·simp only[aI]at E ⊢;obtain⟨base,K,Y,C,Q,V,p,I,B,W,H,P⟩:=E;obtain⟨G,T⟩:=D S n h2;rw[W]at T;simp at T;obtain⟨rfl,rfl⟩:=T;refine⟨⟨base,K,Y,C,Q,V,p,m,B,?_,aav _,λ_=>P Z⟩,λ_=>rfl⟩;simp only[Gh.fL,h1,W]
 |.ptr k off,b,u,h,E=>by
  simp only[Conv]at h;obtain⟨S,h1,rfl⟩:=h;simp only[aI]at E ⊢;obtain⟨b,C,Q⟩:=E;exact⟨⟨b,by simp only[Gh.fL,h1,C],Q⟩,λ_=>rfl⟩
 |.fZ k off s n,b,u,h,E=>by
  simp only[Conv]at h;obtain⟨S,h1,rfl⟩:=h;simp only[aI]at E ⊢;obtain⟨b,Y,o,C,Q,V,p⟩:=E;exact⟨⟨b,Y,o,by simp only[Gh.fL,h1,C],Q,V,by simp only[Gh.fL,h1];exact p⟩,λ_=>rfl⟩
 |.any,b,u,h,E=>by
  simp only[Conv]at h;have:=tg h E;simp only[aI];refine⟨⟨λvs e=>?_,λvs e=>?_⟩,λ_=>rfl⟩<;>(subst e;simp[Value.oneCell']at this)
 |.agg l,b,u,h,E=>by
  simp only[Conv]at h;obtain⟨U,rfl,h1⟩:=h;simp only[aI]at E ⊢;obtain⟨vs,C,Q,V⟩:=E;obtain⟨M,N⟩:=tD D h1 Q;exact⟨⟨vs,C,M,N V⟩,λh=>by simp[AV.one]at h⟩
 |.gb l,b,u,h,E=>by
  simp only[Conv]at h;obtain⟨U,rfl,h1⟩:=h;simp only[aI]at E ⊢;obtain⟨vs,C,Q,V⟩:=E;obtain⟨M,N⟩:=tD D h1 Q;refine⟨⟨vs,C,M,?_⟩,λh=>by simp[AV.one]at h⟩;rw[(bC.get M).1,<- (bC.get Q).1];exact V
def tD(D:∀k n,ak k ts=some n->∃B,g.tok k=some (n,B)):∀{l U:L AV}{us:L Value},eY ρ ts l U->bC g U us->bC (g.fL ρ) l us/\(U.all AV.one=true->l.all AV.one=true)
 |[],U,us,h,E=>by
  simp only[eY]at h;subst h;simp only[bC]at E ⊢;exact⟨E,λh=>h⟩
 |a::l,U,us,h,E=>by
  simp only[eY]at h;obtain⟨b,r,rfl,h1,h2⟩:=h;simp only[bC]at E ⊢;obtain⟨u,us',rfl,O,J⟩:=E;obtain⟨C,Q⟩:=pO D h1 O;obtain⟨V,p⟩:=tD D h2 J;refine⟨⟨u,us',Z,C,V⟩,λh=>?_⟩;simp only[aaE,aal]at h ⊢;exact⟨Q h.1,p h.2⟩
end
def zP{w:World}(D:∀k n,ak k ts=some n->∃B,g.tok k=some (n,B)){b:Nat}:∀{l U:L AV}{o:Nat},eY ρ ts l U->cg w g b o U->cg w (g.fL ρ) b o l
 |[],_,_,_,_=>trivial
 |a::l,U,o,h,hc=>by
  simp only[eY]at h;obtain⟨x,r,rfl,h1,h2⟩:=h;obtain⟨⟨u,Y,C,K⟩,c4,c5⟩:=hc;obtain⟨I,Q⟩:=pO D h1 C;exact⟨⟨u,Y,I,Q K⟩,c4,zP D h2 c5⟩
end
def nq{w:World}{g:Gh}{σ:St}(h:Inv w g σ):∀k n,ak k σ.toks=some n->∃B,g.tok k=some (n,B):=λk n e=>by
 obtain⟨B,C,_⟩:=h.tok k n e;exact⟨B,C⟩
def Inv.fL{w:World}{g:Gh}{σ:St}(h:Inv w g σ)(ρ:Ren)(σ':St)
  (hb:∀k cells,ak k σ'.boxes=some cells->∃old oc,ρ.bx k=some old/\ak old σ.boxes=some oc/\eY ρ σ.toks cells oc)
  (hbi:∀k k' old,ρ.bx k=some old->ρ.bx k'=some old->k=k')
  (ht:∀k n,ak k σ'.toks=some n->∃o,ρ.tk k=some (n,o)/\∀old,o=some old->∃n',ak old σ.toks=some n')
  (hti:∀k k' m m' old,ρ.tk k=some (m,some old)->ρ.tk k'=some (m',some old)->k=k')
  (hu:∀k,ρ.bx k≠none\/ρ.tk k≠none->k∈σ'.used) :
  Inv w (g.fL ρ) σ'/\((∀k,1000000<=k->ak k σ'.boxes≠none->ρ.bx k=some k)->gy w g σ w (g.fL ρ) σ'):=by
 have hts:=nq h
 have U9:∀k n b lo hi,ak k σ'.toks=some n->(g.fL ρ).tok k=some (n,some (b,lo,hi))->∃old n' m,ρ.tk k=some (m,some old)/\ak old σ.toks=some n'/\g.tok old=some (n',some (b,lo,hi)):=by
  intro k n b lo hi e e1
  obtain⟨o,h1,h2⟩:=ht k n e
  cases o with
  |none=>simp[Gh.fL,h1]at e1
  |some old =>
   obtain⟨n',h3⟩:=h2 old rfl
   obtain⟨fI,h4⟩:=hts old n' h3
   simp[Gh.fL,h1,h4]at e1
   subst e1
   exact⟨old,n',n,h1,h3,h4⟩
 have WC:∀k b,(g.fL ρ).box k=some b->∃old,ρ.bx k=some old/\g.box old=some b:=by
  intro k b e
  simp only[Gh.fL]at e
  split at e
  ·rename_i old ho;exact⟨old,ho,e⟩
  ·simp at e
 refine⟨⟨h.nF,?_,?_,?_,?_,?_,?_⟩,λZu=>⟨Z,Z,Z,aav _,λ_ _ _=>rfl,λ_ _ _ _=>⟨Z,Z⟩,iJ.le.refl _,λ_ _ _ h => .inl h,?_,?_,?_⟩⟩
 ·intro k cells e
  obtain⟨old,oc,h1,h2,h3⟩:=hb k cells e
  obtain⟨b,h4,h5,h6,h7⟩:=h.box old oc h2
  exact⟨b,by simp only[Gh.fL,h1,h4],h5,h6,zP hts h3 h7⟩
 ·intro k k' cs cs' b e e' e1 e2
  obtain⟨old,oc,h1,h2,_⟩:=hb k cs e
  obtain⟨old',SV,xq,tu,_⟩:=hb k' cs' e'
  simp only[Gh.fL,h1,xq]at e1 e2
  have:=h.fo old old' oc SV b h2 tu e1 e2
  subst this
  exact hbi k k' old h1 xq
 ·intro k n e
  obtain⟨o,h1,h2⟩:=ht k n e
  cases o with
  |none=>exact⟨none,by simp only[Gh.fL,h1],λ_ _ _ h=>by simp at h⟩
  |some old =>
   obtain⟨n',h3⟩:=h2 old rfl
   obtain⟨fI,h4,h5⟩:=h.tok old n' h3
   refine⟨fI,by simp only[Gh.fL,h1,h4],λb lo hi hr=>?_⟩
   obtain⟨f1,f2,f3⟩:=h5 b lo hi hr
   refine⟨f1,f2,λk' cs e'=>?_⟩
   obtain⟨old',SV,g1,g2,_⟩:=hb k' cs e'
   simp only[Gh.fL,g1]
   exact f3 old' SV g2
 ·intro k k' n n' b lo hi lo' hi' e e' e1 e2
  obtain⟨old,m1,q1,h1,h2,h3⟩:=U9 k n b lo hi e e1
  obtain⟨old',Zv,q1',xq,tu,V6⟩:=U9 k' n' b lo' hi' e' e2
  have:=h.ga old old' m1 Zv b lo hi lo' hi' h2 tu h3 V6
  subst this
  exact hti k k' _ _ old h1 xq
 ·intro k e
  apply hu k
  rcases e with e|e
  ·left;intro hn;apply e;simp[Gh.fL,hn]
  ·right;intro hn;apply e;simp[Gh.fL,hn]
 ·intro k cs b e e1 o
  obtain⟨old,oc,h1,h2,_⟩:=hb k cs e
  simp only[Gh.fL,h1]at e1 ⊢
  exact h.room old oc b h2 e1 o
 ·intro k cs b e e1
  obtain⟨old,oc,h1,h2,_⟩:=hb k cs e
  simp only[Gh.fL,h1]at e1
  exact .inr ⟨old,oc,h2,e1⟩
 ·intro k n b lo hi e e1
  obtain⟨old,n',m,h1,h2,h3⟩:=U9 k n b lo hi e e1
  exact .inr ⟨old,n',lo,hi,h2,h3,aav _,aav _⟩
 ·intro k hk e
  have h1:=Zu k hk e
  cases hc:ak k σ'.boxes with
  |none=>exact absurd hc e
  |some cells =>
   obtain⟨old,oc,h2,h3,_⟩:=hb k cells hc
   rw[h1]at h2;simp at h2;subst h2
   exact⟨by rw[h3];simp,by simp[Gh.fL,h1],by simp[Gh.fL,h1]⟩
def distinct:L Nat->Bool
 |[]=>true
 |x::l=>match mem x l with
  |true=>false
  |false=>distinct l
def dx{α:Type}{k:Nat}{v:α}:∀{l:L (Nat×α)},ak k l=some v->(k,v)∈l
 |[],h=>by simp[ak]at h
 |(j,x)::l,h=>by
  rw[an]at h;split at h
  ·simp_all
  ·exact aaM _ (dx h)
def fP{α:Type}{k:Nat}{v:α}:∀{l:L (Nat×α)},distinct (l.map (·.1))=true->(k,v)∈l->ak k l=some v
 |[],_,h=>by simp at h
 |(j,x)::l,Y,h=>by
  simp only[Zl,distinct]at Y;split at Y
  ·simp at Y
  ·rename_i W;rw[an];rcases List.mem_cons.1 h with h1|h1
   ·simp_all
   ·have:k≠j:=by
     intro V;exact cQ W (List.mem_map.2 ⟨(k,v),h1,V⟩)
    rw[if_neg this];exact fP Y h1
def nX{α:Type}{k:Nat}:∀{l:L (Nat×α)},k ∉ l.map (·.1)->ak k l=none
 |[],_=>rfl
 |(j,x)::l,h=>by
  simp only[Zl,ZI,not_or]at h;rw[an,if_neg h.1];exact nX h.2
def mG{α:Type}{k:Nat}{l:L (Nat×α)}(h:ak k l≠none):k∈l.map (·.1):=by
 by_cases D:k∈l.map (·.1)
 ·exact D
 ·exact absurd (nX D) h
def lP{l:L (Nat×Nat)}(h:distinct (l.map (·.2))=true){k k' v:Nat}(h1:(k,v)∈l)(h2:(k',v)∈l):k=k':=by
 induction l with
 |nil=>simp at h1
 |cons x l O =>
  simp only[Zl,distinct]at h;split at h
  ·simp at h
  ·rename_i Y;have W:=cQ Y;rcases List.mem_cons.1 h1 with C|C
   ·grind
   ·grind
def nG{α:Type}:L (Nat×α)->L (Nat×α)->L (Nat×α)
 |[],b=>b
 |(k,v)::l,b=>nG l (sK k v b)
def q8{α:Type}:L (Nat×α)->L (Nat×α)->Option (L (Nat×α))
 |[],b=>some b
 |(k,v)::l,b=>match vu k v b with
  |some Q=>q8 l Q
  |none=>none
def BW{α:Type}:∀(l b:L (Nat×α)),q8 l b=some (nG l b)
 |[],b=>rfl
 |(k,v)::l,b=>by simp only[q8,nG,qC,BW l]
def jM{α:Type}{k:Nat}:∀{l b:L (Nat×α)},distinct (l.map (·.1))=true->ak k (nG l b)=match ak k l with
  |some v=>some v
  |none=>ak k b
 |[],b,_=>rfl
 |(j,x)::l,b,Y=>by
  simp only[Zl,distinct]at Y;split at Y
  ·simp at Y
  ·rename_i W;simp only[nG];rw[jM Y,an];by_cases D:k=j
   ·subst D;rw[if_pos Z,nX (cQ W)];simp[ej]
   ·rw[if_neg D,ej,if_neg D]
def Kr(nb:L (Nat×L AV))(Y:L (Nat×Nat))(W:L Nat)(A:distinct (nb.map (·.1))=true)(I:distinct (Y.map (·.1))=true) :
  gA (λσ=>(⟨nG nb σ.boxes,nG Y σ.toks,W++σ.used⟩:St)) ⟨[],nb.map (·.1)++(Y.map (·.1)++W)⟩ where
 out:=λσ k D=>by
  simp only[Y8,not_or]at D;refine⟨?_,?_,?_⟩
  ·simp only[jM A,nX D.1]
  ·simp only[jM I,nX D.2.1]
  ·simp[D.2.2]
 same:=λσ N h k D=>by
  obtain⟨C,Q,V⟩:=h k (.inr D);refine⟨?_,?_,?_⟩
  ·simp only[jM A,C]
  ·simp only[jM I,Q]
  ·simp_all
end Go.cM
namespace Go.cM
inductive LV where
 |c (v:CV)
 |own (s:Nat) (rows:List CV)
 deriving Inhabited
inductive PA where
 |v (x:LV)
 |box (cells:List LV)
 deriving Inhabited
def LV.av(k m:Nat):LV->AV
 |.c v => .c v
 |.own s rows => .own (.tok k m) s rows
def LV.tk(k m:Nat):LV->L (Nat×Nat)
 |.c _=>[]
 |.own _ _=>[(k,m)]
def yP(m:Nat):Nat->L LV->L AV
 |_,[]=>[]
 |k,x::l=>x.av k m::yP m (k+1) l
def vJ(m:Nat):Nat->L LV->L (Nat×Nat)
 |_,[]=>[]
 |k,x::l=>x.tk k m++vJ m (k+1) l
abbrev pb(i:Nat):Nat:=1000000+1000*i
abbrev rk:Nat:=5000000
def vL:Nat->L PA->L AV
 |_,[]=>[]
 |i,.v x::l=>x.av (pb i) 0::vL (i+1) l
 |i,.box _::l => .ptr (pb i) 0::vL (i+1) l
def BX:Nat->L PA->L (Nat×L AV)
 |_,[]=>[]
 |i,.v _::l=>BX (i+1) l
 |i,.box cells::l=>(pb i,yP 0 (pb i+1) cells)::BX (i+1) l
def BY:Nat->L PA->L (Nat×Nat)
 |_,[]=>[]
 |i,.v x::l=>x.tk (pb i) 0++BY (i+1) l
 |i,.box cells::l=>vJ 0 (pb i+1) cells++BY (i+1) l
def qx(A:L PA):St:=⟨BX 0 A,BY 0 A,(BX 0 A).map (·.1)++(BY 0 A).map (·.1)⟩
def pF:L (Nat×L LV)->L (Nat×L AV)
 |[]=>[]
 |(i,cells)::l=>(pb i,yP 1 (pb i+1) cells)::pF l
def nM:L (Nat×L LV)->L (Nat×Nat)
 |[]=>[]
 |(i,cells)::l=>vJ 1 (pb i+1) cells++nM l
def vA(Y:L (Nat×L LV))(rs:L LV):St:=⟨pF Y,nM Y++vJ 0 rk rs,(pF Y).map (·.1)++(nM Y++vJ 0 rk rs).map (·.1)⟩
def oT(s:Nat):L LV->AV
 |[] => .c .undef
 |[x]=>x.av (rk+s) 0
 |l => .gb (yP 0 (rk+s) l)
def Vb(g:Gh)(rs:L LV)(u:Value):Prop:=aI g (oT 0 rs) u
def ER(β:je)(rs:L LV)(Y:L (Nat×L LV)):Ending->World->Prop:=λe w' =>
 ∃u g',e = .returned u/\Vb g' rs u/\Inv w' g' (vA Y rs)/\gy β.w β.g β.σ w' g' (vA Y rs)
def cx(P:Program)(X:Ctx)(f:FuncId)(A:L PA)(rs:L LV)(Y:L (Nat×L LV)):Prop :=
 Enters P f/\∀(g:Gh)(w:World)(vs:L Value),Inv w g (qx A)->mA X g.G->bC g (vL 0 A) vs ->
  Calls P f vs.toArray w (ER ⟨w,g,qx A⟩ rs Y)
def cx.of{P:Program}{X:Ctx}{f:FuncId}{Y:Func}{c:Code}{A:L PA}{rs:L LV}{T:L (Nat×L LV)}(hf:P.funcs[f]?=some Y)(N:Y.body=some c)(J:Enters P f)
  (q:A.length<=Y.ntmps)(env:Env)(I:env=((vL 0 A).zipIdx.map λ(v,i)=>(i,v)))
  (h:∀β,AK P X f Y.ntmps β (ER β rs T) [.code c] env (qx A)):cx P X f A rs T:=by
 refine⟨J,λg w vs W H K cs=>?_⟩;have S:=(bC.get K).1;have AM:(vL 0 A).length=A.length:=by
  have:∀(l:L PA)(i:Nat),(vL i l).length=l.length:=by
   intro l
   induction l with
   |nil=>intro i;rfl
   |cons p l O=>intro i;cases p<;>simp[vL,O]
  exact this A 0
 have G:Live X ⟨w,g,qx A⟩ Y.ntmps env (qx A) g w {tmps:=vs.toArray++Array.replicate (Y.ntmps-vs.toArray.size) undef,defers:=[]}:=by
  refine⟨W,H,?_,gy.refl _ _ _,?_,Z⟩
  ·intro t a e;subst I;have M:∀(l:L AV)(us:L Value)(k:Nat),bC g l us->ak t ((l.zipIdx k).map λ(v,i)=>(i,v))=some a->k<=t/\∃u,us[t-k]?=some u/\aI g a u:=by
    intro l
    induction l with
    |nil=>intro us k _ e;simp[ak]at e
    |cons v l O =>
     intro us k Q e;simp only[bC]at Q;obtain⟨u,us,rfl,h1,h2⟩:=Q;simp only[abi,Zl,an]at e;split at e
     ·simp_all
     ·grind
   obtain⟨_,u,V,U⟩:=M (vL 0 A) vs 0 K e;simp at V;have E:t<vs.length:=(List.getElem?_eq_some_iff.1 V).1;have:(vs.toArray++Array.replicate (Y.ntmps-vs.toArray.size) undef).getD t undef=u:=by
    rw[aaN,Z4 (by simpa using E)];simp[V]
   rw[this];exact U
  ·simp;omega
 obtain⟨e,w',B,h1,V,U,D⟩:=h ⟨w,g,qx A⟩ g w _ cs G;have C:Frame.enter P f vs.toArray .normal =
   (top f).at {tmps:=vs.toArray++Array.replicate (Y.ntmps-vs.toArray.size) undef,defers:=[]} [.code c]:=by
  simp[Frame.enter,Frame.at,hf,N,top]
 exact⟨_,w',B,h1,by rw[C];exact V,U,D⟩
def cx.ofL{P:Program}{X:Ctx}{f:FuncId}{Y:Func}{c:Code}{A:L PA}{rs:L LV}{V:L (Nat×L LV)}(hf:P.funcs[f]?=some Y)(U:Y.body=some c)(S:Enters P f)
  (E:A.length<=Y.ntmps)(env:Env)(bs:L (Nat×L AV))(ts:L (Nat×Nat))(us:L Nat)(T:env=((vL 0 A).zipIdx.map λ(v,i)=>(i,v)))(W:qx A=⟨bs,ts,us⟩)
  (h:∀β,AK P X f Y.ntmps β (ER β rs V) [.code c] env ⟨bs,ts,us⟩):cx P X f A rs V :=
 cx.of hf U S E env T λβ=>by rw[W];exact h β
def HP(ts:L (Nat×Nat))(t:Nat):AV->Option (L CV)
 |.own .exact s rows=>match fH s t rows with
  |true=>some rows
  |false=>none
 |.own (.tok k n) s rows=>match ak k ts with
  |some m=>match Nat.beq m n with
   |true=>match Nat.beq s t with
    |true=>some rows
    |false=>none
   |false=>none
  |none=>none
 |_=>none
def yQ(ts:L (Nat×Nat)):LV->AV->Prop
 |.c v,a=>close a=some v
 |.own s rows,a=>HP ts s a=some rows
def iO(ts:L (Nat×Nat)):L LV->L AV->Prop
 |[],l=>l=[]
 |x::xs,l=>∃a r,l=a::r/\yQ ts x a/\iO ts xs r
def yR(m k:Nat):LV->AV->L (Nat×(Nat×Option Nat))
 |.own _ _,.own .exact _ _=>[(k,(m,none))]
 |.own _ _,.own (.tok k' _) _ _=>[(k,(m,some k'))]
 |_,_=>[]
def mq(m:Nat):Nat->L LV->L AV->L (Nat×(Nat×Option Nat))
 |_,[],_=>[]
 |_,_::_,[]=>[]
 |k,x::xs,a::l=>yR m k x a++mq m (k+1) xs l
def pP{ts:L (Nat×Nat)}{a:AV}{s:Nat}{rows:L CV}(h:HP ts s a=some rows):(∃q,a = .own .exact q rows/\(q=s\/rows=[]))\/∃k n,a = .own (.tok k n) s rows/\ak k ts=some n:=by
 unfold HP at h;split at h
 ·split at h
  ·rename_i V;simp at h;subst h;exact .inl ⟨_,Z,mU V⟩
  ·simp at h
 ·split at h
  ·rename_i m Y;split at h
   ·rename_i A;split at h
    ·rename_i V;simp at h;subst h;have:=beq_true A;subst this;have:=beq_true V;subst this;exact .inr ⟨_,_,Z,Y⟩
    ·simp at h
   ·simp at h
  ·simp at h
 ·simp at h
def Mb{ρ:Ren}{ts:L (Nat×Nat)}{m k:Nat}:∀{x:LV}{a:AV},yQ ts x a->(∀e∈yR m k x a,ρ.tk e.1=some e.2)->Conv ρ ts (x.av k m) a
 |.c v,a,h,_=>by simp only[yQ]at h;simp only[LV.av,Conv];exact .inr h
 |.own s rows,a,h,I=>by
  simp only[yQ]at h;simp only[LV.av,Conv];rcases pP h with ⟨q,rfl,hq⟩|⟨k',n,rfl,E⟩
  ·exact⟨none,I (k,(m,none)) (by simp[yR]),.inl ⟨Z,q,Z,hq⟩⟩
  ·exact⟨some k',I (k,(m,some k')) (by simp[yR]),.inr ⟨k',n,Z,E,Z⟩⟩
def xu{ρ:Ren}{ts:L (Nat×Nat)}{m:Nat}:∀{k:Nat}{xs:L LV}{l:L AV},iO ts xs l->(∀e∈mq m k xs l,ρ.tk e.1=some e.2)->eY ρ ts (yP m k xs) l
 |k,[],l,h,_=>by simp only[iO]at h;subst h;simp[yP,eY]
 |k,x::xs,l,h,I=>by
  simp only[iO]at h;obtain⟨a,r,rfl,h1,h2⟩:=h;simp only[yP,eY];simp only[mq,Y8]at I;exact⟨a,r,Z,Mb h1 (λe S=>I e (.inl S)),xu h2 (λe S=>I e (.inr S))⟩
def HQ{ts:L (Nat×Nat)}{m k j n:Nat}:∀{x:LV}{a:AV},yQ ts x a->(j,n)∈x.tk k m->n=m/\∃o,(j,(m,o))∈yR m k x a/\∀S,o=some S->∃W,ak S ts=some W
 |.c v,a,h,Y=>by simp[LV.tk]at Y
 |.own s rows,a,h,Y=>by
  simp only[yQ]at h;simp[LV.tk]at Y;obtain⟨rfl,rfl⟩:=Y;rcases pP h with ⟨q,rfl,hq⟩|⟨k',W,rfl,E⟩
  ·exact⟨Z,none,by simp[yR],λ_ h=>by simp at h⟩
  ·exact⟨rfl,some k',by simp[yR],λS h=>by simp at h;subst h;exact⟨W,E⟩⟩
def uE{ts:L (Nat×Nat)}{m j n:Nat}:∀{k:Nat}{xs:L LV}{l:L AV},iO ts xs l->(j,n)∈vJ m k xs->n=m/\∃o,(j,(m,o))∈mq m k xs l/\∀S,o=some S->∃W,ak S ts=some W
 |k,[],l,h,Y=>by simp[vJ]at Y
 |k,x::xs,l,h,Y=>by
  simp only[iO]at h;obtain⟨a,r,rfl,h1,h2⟩:=h;simp only[vJ,Y8]at Y;simp only[mq,Y8];rcases Y with Y|Y
  ·obtain⟨C,o,Q,V⟩:=HQ h1 Y;exact⟨C,o,.inl Q,V⟩
  ·obtain⟨C,o,Q,V⟩:=uE h2 Y;exact⟨C,o,.inr Q,V⟩
def HS{ts:L (Nat×Nat)}{m k:Nat}:∀{x:LV}{a:AV},yQ ts x a->∀e∈yR m k x a,e.1∈(x.tk k m).map (·.1)
 |.c v,a,h,e,S=>by cases a<;>simp[yR]at S
 |.own s rows,a,h,e,S=>by
  simp only[yQ]at h;rcases pP h with ⟨q,rfl,hq⟩|⟨k',W,rfl,E⟩<;>simp[yR]at S<;>subst S<;>simp[LV.tk]
def uF{ts:L (Nat×Nat)}{m:Nat}:∀{k:Nat}{xs:L LV}{l:L AV},iO ts xs l->∀e∈mq m k xs l,e.1∈(vJ m k xs).map (·.1)
 |k,[],l,h,e,he=>by simp only[iO]at h;subst h;simp[mq]at he
 |k,x::xs,l,h,e,he=>by
  simp only[iO]at h;obtain⟨a,r,rfl,h1,h2⟩:=h;simp only[mq,Y8]at he;simp only[vJ,aan,Y8];exact he.imp (HS h1 e) (uF h2 e)
def iw(bs:L (Nat×L AV))(ts:L (Nat×Nat)):L PA->L AV->Prop
 |[],l=>l=[]
 |.v x::ps,l=>∃a r,l=a::r/\yQ ts x a/\iw bs ts ps r
 |.box cells::ps,l=>∃H O r,l = .ptr H 0::r/\ak H bs=some O/\iO ts cells O/\iw bs ts ps r
def iW(bs:L (Nat×L AV)):Nat->L PA->L AV->L (Nat×Nat)
 |_,[],_=>[]
 |_,_::_,[]=>[]
 |i,.v _::ps,_::l=>iW bs (i+1) ps l
 |i,.box _::ps,.ptr kb _::l=>(pb i,kb)::iW bs (i+1) ps l
 |i,.box _::ps,_::l=>iW bs (i+1) ps l
def iK(bs:L (Nat×L AV)):Nat->L PA->L AV->L (Nat×(Nat×Option Nat))
 |_,[],_=>[]
 |_,_::_,[]=>[]
 |i,.v x::ps,a::l=>yR 0 (pb i) x a++iK bs (i+1) ps l
 |i,.box cells::ps,.ptr kb _::l=>(match ak kb bs with
  |some O=>mq 0 (pb i+1) cells O
  |none=>[])++iK bs (i+1) ps l
 |i,.box _::ps,_::l=>iK bs (i+1) ps l
section
variable {bs : L (Nat × L AV)}{ts : L (Nat × Nat)}
def we{ρ:Ren}:∀{i:Nat}{A:L PA}{l:L AV},iw bs ts A l->(∀e∈iW bs i A l,ρ.bx e.1=some e.2)->(∀e∈iK bs i A l,ρ.tk e.1=some e.2)->eY ρ ts (vL i A) l
 |i,[],l,h,_,_=>by simp only[iw]at h;subst h;simp[vL,eY]
 |i,.v x::A,l,h,h1,h2=>by
  simp only[iw]at h;obtain⟨a,r,rfl,K,W⟩:=h;simp only[vL,eY];simp only[iK,Y8]at h2;exact⟨a,r,Z,Mb K (λe S=>h2 e (.inl S)),we W (by simpa only[iW]using h1) (λe S=>h2 e (.inr S))⟩
 |i,.box cells::A,l,h,h1,h2=>by
  simp only[iw]at h;obtain⟨H,O,r,rfl,K,W,Y⟩:=h;simp only[vL,eY];simp only[iK,K,Y8]at h2;simp only[iW,ZI]at h1;exact⟨_,r,Z,by simp only[Conv];exact⟨H,h1 (pb i,H) (.inl Z),Z⟩,we Y (λe S=>h1 e (.inr S)) (λe S=>h2 e (.inr S))⟩
def qJ:∀{i:Nat}{A:L PA}{l:L AV}{k:Nat}{cells:L AV},iw bs ts A l->(k,cells)∈BX i A ->
  ∃H O W,(k,H)∈iW bs i A l/\ak H bs=some O/\cells=yP 0 (k+1) W/\iO ts W O/\∀e∈mq 0 (k+1) W O,e∈iK bs i A l
 |i,[],l,k,cells,h,Y=>by simp[BX]at Y
 |i,.v x::A,l,k,cells,h,Y=>by
  simp only[iw]at h;obtain⟨a,r,rfl,K,T⟩:=h;simp only[BX]at Y;obtain⟨H,O,W,C,Q,V,p,u⟩:=qJ T Y;simp only[iW,iK,Y8];exact⟨H,O,W,C,Q,V,p,λe S => .inr (u e S)⟩
 |i,.box cs::A,l,k,cells,h,Y=>by
  simp only[iw]at h;obtain⟨H,O,r,rfl,K,T,P⟩:=h;simp only[BX,ZI]at Y;simp only[iW,iK,K,Y8,ZI];rcases Y with Y|Y
  ·grind
  ·obtain⟨U,N,W,C,Q,V,p,u⟩:=qJ P Y;exact⟨U,N,W,.inr C,Q,V,p,λe S => .inr (u e S)⟩
def uG:∀{i:Nat}{A:L PA}{l:L AV}{j n:Nat},iw bs ts A l->(j,n)∈BY i A->n=0/\∃o,(j,(0,o))∈iK bs i A l/\∀S,o=some S->∃E,ak S ts=some E
 |i,[],l,j,n,h,Y=>by simp[BY]at Y
 |i,.v x::A,l,j,n,h,Y=>by
  simp only[iw]at h;obtain⟨a,r,rfl,K,W⟩:=h;simp only[BY,Y8]at Y;simp only[iK,Y8];rcases Y with Y|Y
  ·obtain⟨C,o,Q,V⟩:=HQ K Y;exact⟨C,o,.inl Q,V⟩
  ·obtain⟨C,o,Q,V⟩:=uG W Y;exact⟨C,o,.inr Q,V⟩
 |i,.box cs::A,l,j,n,h,Y=>by
  simp only[iw]at h;obtain⟨H,O,r,rfl,K,W,U⟩:=h;simp only[BY,Y8]at Y;simp only[iK,K,Y8];rcases Y with Y|Y
  ·obtain⟨C,o,Q,V⟩:=uE W Y;exact⟨C,o,.inl Q,V⟩
  ·obtain⟨C,o,Q,V⟩:=uG U Y;exact⟨C,o,.inr Q,V⟩
def wg:∀{i:Nat}{A:L PA}{l:L AV},iw bs ts A l->(∀e∈iW bs i A l,e.1∈(BX i A).map (·.1))/\(∀e∈iK bs i A l,e.1∈(BY i A).map (·.1))
 |i,[],l,h=>by simp only[iw]at h;subst h;simp[iW,iK]
 |i,.v x::A,l,h=>by
  simp only[iw]at h;obtain⟨a,r,rfl,K,W⟩:=h;obtain⟨T,M⟩:=wg (i:=i+1) W;simp only[iW,iK,BX,BY,Y8,aan];exact⟨T,λe S=>S.imp (HS K e) (M e)⟩
 |i,.box cs::A,l,h=>by
  simp only[iw]at h;obtain⟨H,O,r,rfl,K,W,Y⟩:=h;obtain⟨T,M⟩:=wg (i:=i+1) Y;simp only[iW,iK,BX,BY,K,Y8,aan,ZI,Zl];refine⟨λe S=>?_,λe S=>S.imp (uF W e) (M e)⟩;rcases S with rfl|S
  ·exact .inl Z
  ·exact .inr (T e S)
def cO:L (Nat×(Nat×Option Nat))->L Nat
 |[]=>[]
 |(_,(_,some k))::l=>k::cO l
 |(_,(_,none))::l=>cO l
def rN{l:L (Nat×(Nat×Option Nat))}{S:Nat}:S∈cO l↔∃k m,(k,(m,some S))∈l:=by
 induction l with
 |nil=>simp[cO]
 |cons x l O =>
  obtain⟨k,m,o⟩:=x;cases o with
  |none=>simp[cO,O]
  |some k' =>
   simp only[cO,ZI,O];constructor
   ·rintro(rfl|⟨a,b,h⟩)
    ·exact⟨k,m,.inl Z⟩
    ·exact⟨a,b,.inr h⟩
   ·grind
def rO{l:L (Nat×(Nat×Option Nat))}(h:distinct (cO l)=true){k k' m W S:Nat}(h1:(k,(m,some S))∈l)(h2:(k',(W,some S))∈l):k=k':=by
 induction l with
 |nil=>simp at h1
 |cons x l O =>
  obtain⟨q,p,o⟩:=x;cases o with
  |none =>
   simp only[cO]at h;simp at h1 h2;exact O h h1 h2
  |some z =>
   simp only[cO,distinct]at h;split at h
   ·simp at h
   ·rename_i V;have Y:=cQ V;rcases List.mem_cons.1 h1 with C|C
    ·rcases List.mem_cons.1 h2 with Q|Q
     ·simp_all
     ·simp at C;rw[C.2.2]at Q;exact absurd (rN.2 ⟨_,_,Q⟩) Y
    ·rcases List.mem_cons.1 h2 with Q|Q
     ·simp at Q;rw[Q.2.2]at C;exact absurd (rN.2 ⟨_,_,C⟩) Y
     ·exact O h C Q
def vB(bs:L (Nat×L AV))(A:L PA)(l:L AV):Ren:=⟨λk=>ak k (iW bs 0 A l),λk=>ak k (iK bs 0 A l)⟩
end
structure qK(bs:List (Nat×List AV))(ts:List (Nat×Nat))(ps:List PA)(l:List AV):Prop where
 ok:iw bs ts ps l
 d1:distinct ((iW bs 0 ps l).map (·.1))=true
 d2:distinct ((iW bs 0 ps l).map (·.2))=true
 d3:distinct ((iK bs 0 ps l).map (·.1))=true
 d4:distinct (cO (iK bs 0 ps l))=true
def qK.inv{σ:St}{A:L PA}{l:L AV}(h:qK σ.boxes σ.toks A l){w:World}{g:Gh}(K:Inv w g σ):Inv w (g.fL (vB σ.boxes A l)) (qx A):=by
 refine(K.fL (vB σ.boxes A l) (qx A) ?_ ?_ ?_ ?_ ?_).1
 ·intro k cells e;obtain⟨H,O,W,C,Q,V,p,u⟩:=qJ h.ok (dx e);refine⟨H,O,fP h.d1 C,Q,?_⟩;subst V;exact xu p λe T=>fP h.d3 (u e T)
 ·intro k k' S C Q;exact lP h.d2 (dx C) (dx Q)
 ·intro k n e;obtain⟨rfl,o,C,Q⟩:=uG h.ok (dx e);exact⟨o,fP h.d3 C,Q⟩
 ·intro k k' m U S C Q;exact rO h.d4 (dx C) (dx Q)
 ·intro k e;obtain⟨Y,M⟩:=wg (i:=0) h.ok;simp only[qx,Y8];rcases e with e|e
  ·left;obtain⟨x,I,rfl⟩:=List.mem_map.1 (mG e);exact Y x I
  ·right;obtain⟨x,I,rfl⟩:=List.mem_map.1 (mG e);exact M x I
def qK.rel{σ:St}{A:L PA}{l:L AV}(h:qK σ.boxes σ.toks A l){w:World}{g:Gh}(K:Inv w g σ){vs:L Value}(B:bC g l vs):bC (g.fL (vB σ.boxes A l)) (vL 0 A) vs :=
 (tD (nq K) (we (ρ:=vB σ.boxes A l) h.ok (λe S=>fP h.d1 S) (λe S=>fP h.d3 S)) B).1
end Go.cM
namespace Go.cM
def ov(s:Nat):L (Nat×Nat)->L (Nat×Nat)
 |[]=>[]
 |(k,n)::l=>(k+s,n)::ov s l
def oz(ts:L (Nat×Nat)):L Nat->L (Nat×Nat)
 |[]=>[]
 |k::l=>match ak k ts with
  |some n=>(k,n+1)::oz ts l
  |none=>oz ts l
def Ks(m:Nat):Nat->L LV->Option (L AV)
 |_,[]=>some []
 |k,.c v::l=>match Ks m (k+1) l with
  |some r=>some (.c v::r)
  |none=>none
 |k,.own s rows::l=>match Ks m (k+1) l with
  |some r=>some (.own (.tok k m) s rows::r)
  |none=>none
def AN(m:Nat):∀(k:Nat)(l:L LV),Ks m k l=some (yP m k l)
 |_,[]=>rfl
 |k,.c v::l=>by simp only[Ks,AN m (k+1) l,yP,LV.av]
 |k,.own s rows::l=>by simp only[Ks,AN m (k+1) l,yP,LV.av]
def Fc(bx:L (Nat×Nat))(s:Nat):L (Nat×L LV)->Option (L (Nat×L AV))
 |[]=>some []
 |(i,cells)::l=>match ak (pb i) bx with
  |some H=>match Ks 1 (pb i+1+s) cells with
   |some c=>match Fc bx s l with
    |some r=>some ((H,c)::r)
    |none=>none
   |none=>none
  |none=>none
def fK{α:Type}:L (Nat×α)->L Nat
 |[]=>[]
 |(k,_)::l=>k::fK l
def kg{α:Type}:∀(l:L (Nat×α)),fK l=l.map (·.1)
 |[]=>rfl
 |(k,_)::l=>by simp[fK,kg l]
def BZ(l:L Nat):L Nat->Bool
 |[]=>true
 |x::r=>match mem x l with
  |true=>BZ l r
  |false=>false
def FD(l:L Nat):L Nat->Bool
 |[]=>true
 |x::r=>match mem x l with
  |true=>false
  |false=>FD l r
def qL{l:L Nat}:∀{r:L Nat},BZ l r=true->∀x∈r,x∈l
 |[],_,x,h=>by simp at h
 |y::r,h,x,I=>by
  simp only[BZ]at h;split at h
  ·rename_i Y;rcases List.mem_cons.1 I with rfl|I
   ·exact mem_iff.1 Y
   ·exact qL h x I
  ·simp at h
def B0{l:L Nat}:∀{r:L Nat},FD l r=true->∀x∈r,x ∉ l
 |[],_,x,h=>by simp at h
 |y::r,h,x,I=>by
  simp only[FD]at h;split at h
  ·simp at h
  ·rename_i Y;rcases List.mem_cons.1 I with rfl|I
   ·exact cQ Y
   ·exact B0 h x I
def B1{s:Nat}:∀{l:L (Nat×Nat)}{k n:Nat},ak k (ov s l)=some n->∃j,k=j+s/\ak j l=some n
 |[],k,n,h=>by simp[ov,ak]at h
 |(j,m)::l,k,n,h=>by
  simp only[ov,an]at h;split at h
  ·rename_i D;exact⟨j,D,by rw[an,if_pos rfl];exact h⟩
  ·rename_i D;obtain⟨i,rfl,h2⟩:=B1 h;exact⟨i,Z,by rw[an,if_neg bn];exact h2⟩
def zQ{s:Nat}:∀{l:L (Nat×Nat)}{j:Nat},ak (j+s) (ov s l)=ak j l
 |[],j=>rfl
 |(i,m)::l,j=>by
  simp only[ov,an];by_cases h:j=i
  ·simp_all
  ·rw[if_neg bn,if_neg h,zQ]
def zR{α:Type}{k:Nat}:∀{a b:L (Nat×α)},ak k (a++b)=match ak k a with
  |some v=>some v
  |none=>ak k b
 |[],b=>rfl
 |(j,x)::a,b=>by
  simp only[Zy,an];split
  ·rfl
  ·exact zR
def wh{ts:L (Nat×Nat)}:∀{l:L Nat}{k n:Nat},ak k (oz ts l)=some n->k∈l/\∃m,ak k ts=some m/\n=m+1
 |[],k,n,h=>by simp[oz,ak]at h
 |j::l,k,n,h=>by
  simp only[oz]at h
  split at h
  ·rename_i m hm
   rw[an]at h
   split at h
   ·simp_all
   ·obtain⟨h1,h2⟩:=wh h;exact⟨TL,h2⟩
  ·obtain⟨h1,h2⟩:=wh h;exact⟨TL,h2⟩
def yS{ts:L (Nat×Nat)}:∀{l:L Nat}{k m:Nat},k∈l->ak k ts=some m->ak k (oz ts l)=some (m+1)
 |[],k,m,h,_=>by simp at h
 |j::l,k,m,h,hm=>by
  simp only[oz];by_cases D:k=j
  ·subst D;rw[hm];simp[an]
  ·have I:k∈l:=by simpa[D]using h
   split
   ·rw[an,if_neg D];exact yS I hm
   ·exact yS I hm
def HT{bx:L (Nat×Nat)}{s:Nat}:∀{Y:L (Nat×L LV)}{nb:L (Nat×L AV)},Fc bx s Y=some nb ->
  (∀k v,(k,v)∈nb->∃i cells,(i,cells)∈Y/\ak (pb i) bx=some k/\v=yP 1 (pb i+1+s) cells)/\(∀i cells k,(i,cells)∈Y->ak (pb i) bx=some k->k∈nb.map (·.1))
 |[],nb,h=>by simp[Fc]at h;subst h;simp
 |(i,cells)::Y,nb,h=>by
  simp only[Fc,AN]at h;split at h
  ·rename_i H W;split at h
   ·rename_i r E;simp at h;subst h;obtain⟨h1,h2⟩:=HT E;constructor
    ·grind
    ·grind
   ·simp at h
  ·simp at h
def xw:∀{os:L (Nat×L LV)}{k:Nat}{v:L AV},(k,v)∈pF os->∃i cells,(i,cells)∈os/\k=pb i/\v=yP 1 (pb i+1) cells
 |[],k,v,h=>by simp[pF]at h
 |(i,cells)::os,k,v,h=>by
  simp only[pF,ZI]at h
  rcases h with h|h
  ·grind
  ·obtain⟨i',c',h1,h2,h3⟩:=xw h;exact⟨i',c',TL,h2,h3⟩
def HU:∀{Y:L (Nat×L LV)}{i:Nat}{cells:L LV},(i,cells)∈Y->(pb i,yP 1 (pb i+1) cells)∈pF Y
 |[],i,cells,h=>by simp at h
 |(j,c)::Y,i,cells,h=>by
  simp only[pF,ZI];rcases List.mem_cons.1 h with h|h
  ·simp_all
  ·exact .inr (HU h)
def HV:∀{Y:L (Nat×L LV)}{i:Nat}{cells:L LV}{e:Nat×Nat},(i,cells)∈Y->e∈vJ 1 (pb i+1) cells->e∈nM Y
 |[],i,cells,e,h,_=>by simp at h
 |(j,c)::Y,i,cells,e,h,he=>by
  simp only[nM,Y8];rcases List.mem_cons.1 h with h|h
  ·simp_all
  ·exact .inr (HV h he)
section
variable {g g' : Gh}{s : Nat}
def LV.shift(B:g.G.le g'.G){m k:Nat}:∀{x:LV}{u:Value},(∀e∈x.tk k m,g'.tok (e.1+s)=g.tok e.1)->aI g (x.av k m) u->aI g' (x.av (k+s) m) u/\((x.av k m).one=true->(x.av (k+s) m).one=true)
 |.c v,u,_,h=>by
  simp only[LV.av,aI]at h ⊢;exact⟨Rel.mono B _ _ h,λh=>h⟩
 |.own q rows,u,I,h=>by
  simp only[LV.av,aI]at h ⊢;obtain⟨base,K,D,C,Q,V,p,J,Y,W,U⟩:=h;refine⟨⟨base,K,D,C,Q,V,p.mono B,J,Y,?_,U⟩,λ_=>rfl⟩;have:=I (k,m) (by simp[LV.tk]);rw[this];exact W
def Ed(B:g.G.le g'.G){m:Nat}:∀{k:Nat}{xs:L LV}{us:L Value},(∀e∈vJ m k xs,g'.tok (e.1+s)=g.tok e.1)->bC g (yP m k xs) us->bC g' (yP m (k+s) xs) us
 |k,[],us,_,h=>by simp only[yP,bC]at h ⊢;exact h
 |k,x::xs,us,I,h=>by
  simp only[yP,bC]at h ⊢;simp only[vJ,Y8]at I;obtain⟨u,us',C,Q,V⟩:=h;refine⟨u,us',C,(LV.shift B (λe S=>I e (.inl S)) Q).1,?_⟩;have:=Ed B (k:=k+1) (λe S=>I e (.inr S)) V;rwa[show k+1+s=k+s+1 from by omega]at this
def zS(B:g.G.le g'.G){w:World}{m b:Nat}:∀{k:Nat}{xs:L LV}{o:Nat},(∀e∈vJ m k xs,g'.tok (e.1+s)=g.tok e.1)->cg w g b o (yP m k xs)->cg w g' b o (yP m (k+s) xs)
 |k,[],o,_,h=>trivial
 |k,x::xs,o,ht,h=>by
  simp only[vJ,Y8]at ht;obtain⟨⟨u,Y,C,K⟩,c4,c5⟩:=h;obtain⟨I,Q⟩:=LV.shift (k:=k) B (λe S=>ht e (.inl S)) C;have:=zS B (k:=k+1) (λe S=>ht e (.inr S)) c5;rw[show k+1+s=k+s+1 from by omega]at this;exact⟨⟨u,Y,I,Q K⟩,c4,this⟩
def B2(m:Nat):∀(k:Nat)(xs:L LV),(yP m k xs).length=xs.length
 |_,[]=>rfl
 |k,x::xs=>by simp[yP,B2 m (k+1) xs]
end
def nY(nb:L (Nat×L AV))(Y:L (Nat×Nat))(W:L Nat)(σ:St):St:=⟨nG nb σ.boxes,nG Y σ.toks,W++σ.used⟩
set_option maxHeartbeats 1000000 in
def NO{w w':World}{g g':Gh}{σ:St}{ps:L PA}{l:L AV}{os:L (Nat×L LV)}{rs:L LV}(hi:Inv w g σ)(H:qK σ.boxes σ.toks ps l)
  (hi':Inv w' g' (vA os rs))(hk:gy w (g.fL (vB σ.boxes ps l)) (qx ps) w' g' (vA os rs))(s:Nat){nb:L (Nat×L AV)}(hnb:Fc (iW σ.boxes 0 ps l) s os=some nb)
  (hall:∀x∈(iW σ.boxes 0 ps l).map (·.1),x∈(pF os).map (·.1)){fr:L (Nat×Nat)}(hfr:fr=ov s (nM os++vJ 0 rk rs)){bu:L (Nat×Nat)}(Pp:bu=oz σ.toks (cO (iK σ.boxes 0 ps l)))
  (JN:distinct ((pF os).map (·.1))=true)(iL:distinct (nb.map (·.1))=true)(gH:distinct ((fr++bu).map (·.1))=true)(Yu:∀x∈fr.map (·.1),x ∉ σ.used)(Yv:distinct ((nM os++vJ 0 rk rs).map (·.1))=true) :
  ∃vU,Inv w' vU (nY nb (fr++bu) (fr.map (·.1)) σ)/\gy w g σ w' vU (nY nb (fr++bu) (fr.map (·.1)) σ)/\g.le vU/\∀u,aI g' (oT 0 rs) u->aI vU (oT s rs) u:=by
 have hts:=nq hi;let gc:=g.fL (vB σ.boxes ps l)
 let vU:Gh:=⟨g'.G,g.box,λk=>match ak k fr with
  |some _=>g'.tok (k-s)
  |none=>match ak k bu with
   |some n=>some (n,none)
   |none=>g.tok k,g.room⟩
 have Kt:∀k cs b,ak k (qx ps).boxes=some cs->gc.box k=some b->∃kb oc,(k,kb)∈iW σ.boxes 0 ps l/\ak kb σ.boxes=some oc/\g.box kb=some b:=by
  intro k cs b e e1;obtain⟨kb,oc,Mc,f1,f2,_⟩:=qJ H.ok (dx e);refine⟨kb,oc,f1,f2,?_⟩;have:(vB σ.boxes ps l).bx k=some kb:=fP H.d1 f1;simpa only[gc,Gh.fL,this]using e1
 have Qp:∀k n b lo hi,ak k (qx ps).toks=some n->gc.tok k=some (n,some (b,lo,hi))->∃old n',old∈cO (iK σ.boxes 0 ps l)/\ak old σ.toks=some n'/\g.tok old=some (n',some (b,lo,hi)):=by
  intro k n b lo hi e e1;obtain⟨rfl,o,f1,f2⟩:=uG H.ok (dx e);have h1:(vB σ.boxes ps l).tk k=some (0,o):=fP H.d3 f1;cases o with
  |none=>simp[gc,Gh.fL,h1]at e1
  |some old =>
   obtain⟨n',h3⟩:=f2 old rfl;obtain⟨fI,h4⟩:=hts old n' h3;simp[gc,Gh.fL,h1,h4]at e1;subst e1;exact⟨old,n',rN.2 ⟨k,0,f1⟩,h3,h4⟩
 have Ku:∀b o,gX gc (qx ps) b o->gX g σ b o:=by
  rintro b o (⟨k,cs,h1,h2⟩|⟨k,n,lo,hi',h1,h2,h3,h4⟩)
  ·obtain⟨kb,oc,_,f2,f3⟩:=Kt k cs b h1 h2;exact .inl ⟨kb,oc,f2,f3⟩
  ·obtain⟨old,n',_,f2,f3⟩:=Qp k n b lo hi' h1 h2;exact .inr ⟨old,n',lo,hi',f2,f3,h3,h4⟩
 have hfree:∀k0 c0 b,ak k0 σ.boxes=some c0->g.box k0=some b->k0 ∉ (iW σ.boxes 0 ps l).map (·.2)->∀o,¬gX gc (qx ps) b o:=by
  rintro k0 c0 b e1 e2 e3 o (⟨k,cs,h1,h2⟩|⟨k,n,lo,hi',h1,h2,h3,h4⟩)
  ·obtain⟨kb,oc,f1,f2,f3⟩:=Kt k cs b h1 h2;have:=hi.fo k0 kb c0 oc b e1 f2 e2 f3;subst this;exact e3 (List.mem_map.2 ⟨_,f1,Z⟩)
  ·obtain⟨old,n',_,f2,f3⟩:=Qp k n b lo hi' h1 h2;obtain⟨fI,f4,f5⟩:=hi.tok old n' f2;rw[f3]at f4;simp at f4;exact(f5 b lo hi' f4.symm).2.2 k0 c0 e1 e2
 have Vc:∀k0 n0 b Dd pn,ak k0 σ.toks=some n0->g.tok k0=some (n0,some (b,Dd,pn))->k0 ∉ cO (iK σ.boxes 0 ps l)->∀o,¬gX gc (qx ps) b o:=by
  rintro k0 n0 b Dd pn e1 e2 e3 o (⟨k,cs,h1,h2⟩|⟨k,n,lo,hi',h1,h2,h3,h4⟩)
  ·obtain⟨kb,oc,f1,f2,f3⟩:=Kt k cs b h1 h2;obtain⟨fI,f4,f5⟩:=hi.tok k0 n0 e1;rw[e2]at f4;simp at f4;exact(f5 b Dd pn f4.symm).2.2 kb oc f2 f3
  ·obtain⟨old,n',f1,f2,f3⟩:=Qp k n b lo hi' h1 h2;have:=hi.ga k0 old n0 n' b Dd pn lo hi' e1 f2 e2 f3;subst this;exact e3 f1
 have hsame:∀b,b<w.heap.size->(∀o,¬gX gc (qx ps) b o)->∀o,w'.cell? ⟨b,o,none⟩=w.cell? ⟨b,o,none⟩/\w'.frozen? ⟨b,o,none⟩=w.frozen? ⟨b,o,none⟩:=λb h1 h2 o=>hk.kept b o h1 (h2 o);have Vd:∀b o,b<w.heap.size->¬gX gc (qx ps) b o->g.G b o=none->g'.G b o=none:=by
  intro b o h1 h2 h3;cases hg:g'.G b o with
  |none=>rfl
  |some v =>
   rcases hk.new b o v hg with h|h|h
   ·change g.G b o=some v at h;rw[h3]at h;simp at h
   ·omega
   ·exact absurd h h2
 have W7:∀k n,ak k fr=some n->∃j,k=j+s/\ak j (nM os++vJ 0 rk rs)=some n/\k ∉ σ.used/\vU.tok k=g'.tok j:=by
  intro k n e;have vr:=dx e;subst hfr;obtain⟨j,rfl,h2⟩:=B1 e;exact⟨j,Z,h2,Yu _ (List.mem_map.2 ⟨_,vr,Z⟩),by simp only[vU,e,aco]⟩
 have W8:∀k n,ak k bu=some n->k∈cO (iK σ.boxes 0 ps l)/\∃m,ak k σ.toks=some m/\n=m+1:=by
  intro k n e;subst Pp;exact wh e
 have W9:∀e∈(nM os++vJ 0 rk rs),vU.tok (e.1+s)=g'.tok e.1:=by
  intro e he;have h1:ak (e.1+s) fr=some e.2:=by
   rw[hfr,zQ];exact fP Yv he
  simp only[vU,h1,aco]
 have hle:g.le vU:=by
  refine⟨hk.le,λ_ _ h=>h,λ_ _ _=>rfl,λk hw fI e=>?_⟩;cases h1:ak k fr with
  |some n =>
   obtain⟨j,_,_,h2,_⟩:=W7 k n h1;exact absurd (hi.used k (.inr (by rw[e];simp))) h2
  |none =>
   cases h2:ak k bu with
   |some n =>
    obtain⟨_,m,h3,rfl⟩:=W8 k n h2;obtain⟨BE,h4⟩:=hts k m h3;rw[e]at h4;simp at h4;exact⟨m+1,none,by simp only[vU,h1,h2],bn,bn⟩
   |none=>exact⟨hw,fI,by simp only[vU,h1,h2];exact e,aav _,λ_=>rfl⟩
 obtain⟨ob1,ob2⟩:=HT hnb;have ym:∀k cs,ak k (nG nb σ.boxes)=some cs->(∃oc,ak k σ.boxes=some oc)/\∃b,g.box k=some b/\b<w.heap.size/\(∀o,g'.G b o=none)/\cg w' vU b 0 cs/\∀o,(o<g.room k->∃u,w'.cell? ⟨b,o,none⟩=some u)/\w'.frozen? ⟨b,o,none⟩=false:=by
  intro k cs e;rw[jM iL]at e;split at e
  ·rename_i v hv;simp at e;subst e;obtain⟨i,cells,h1,h2,rfl⟩:=ob1 k v (dx hv);have hmem:=dx h2;have h3:ak (pb i) (pF os)=some (yP 1 (pb i+1) cells):=fP JN (HU h1);have h4:=hk.ids (pb i) (Nat.le_add_right _ _) (by show ak (pb i) (pF os)≠none;rw[h3];simp);cases hc:ak (pb i) (qx ps).boxes with
   |none=>exact absurd hc h4.1
   |some ic =>
    obtain⟨kb,oc,Mc,f1,f2,_⟩:=qJ H.ok (dx hc);have:ak (pb i) (iW σ.boxes 0 ps l)=some kb:=fP H.d1 f1;rw[h2]at this;simp at this;subst this;obtain⟨b,b1,b2,b3,b4⟩:=hi.box k oc f2;obtain⟨b',c1,c2,c3,c4⟩:=hi'.box (pb i) _ h3;have vC:gc.box (pb i)=some b:=by
     have:(vB σ.boxes ps l).bx (pb i)=some k:=h2;simp only[gc,Gh.fL,this,b1]
    have Ve:gc.room (pb i)=g.room k:=by
     have:(vB σ.boxes ps l).bx (pb i)=some k:=h2;simp only[gc,Gh.fL,this]
    have V7:=hi'.room (pb i) _ b' h3 c1;rw[h4.2.2,Ve]at V7;rw[h4.2.1,vC]at c1;simp at c1;subst c1;refine⟨⟨oc,f2⟩,b,b1,b2,c3,?_,V7⟩;have:=zS (g:=g') (g':=vU) (s:=s) (iJ.le.refl _) (k:=pb i+1) (λe he=>W9 e (List.mem_append.2 (.inl (HV h1 he)))) c4;rwa[show pb i+1+s=pb i+1+s from rfl]at this
  ·rename_i hv;have hnot:k ∉ (iW σ.boxes 0 ps l).map (·.2):=by
    intro hm;obtain⟨x,hx,rfl⟩:=List.mem_map.1 hm;obtain⟨y,hy,hyx⟩:=List.mem_map.1 (hall x.1 (List.mem_map.2 ⟨x,hx,rfl⟩));obtain⟨i,cells,h1,h2,_⟩:=xw (k:=y.1) (v:=y.2) hy;have h3:ak (pb i) (iW σ.boxes 0 ps l)=some x.2:=by rw[<- h2,hyx];exact fP H.d1 hx
    have h4:=ob2 i cells x.2 h1 h3;obtain⟨z,hz,hzx⟩:=List.mem_map.1 h4;have:=fP (k:=z.1) (v:=z.2) iL hz;rw[hzx,hv]at this;simp at this
   obtain⟨b,b1,b2,b3,b4⟩:=hi.box k cs e;have hno:=hfree k cs b e b1 hnot
   exact⟨⟨cs,e⟩,b,b1,b2,λo=>Vd b o b2 (hno o) (b3 o),(cg.of_same (hsame b b2 hno) b4).mono hle,λo=>by
    obtain⟨q1,q2⟩:=hi.room k cs b e b1 o
    exact⟨λho=>(q1 ho).imp λu hu=>(hsame b b2 hno o).1.trans hu,(hsame b b2 hno o).2.trans q2⟩⟩
 have AH:∀k n,ak k (nG (fr++bu) σ.toks)=some n->(∃j,k=j+s/\ak j (nM os++vJ 0 rk rs)=some n/\vU.tok k=g'.tok j/\k ∉ σ.used)\/vU.tok k=some (n,none) \/
   (ak k σ.toks=some n/\vU.tok k=g.tok k/\k ∉ cO (iK σ.boxes 0 ps l)):=by
  intro k n e;rw[jM gH,zR]at e;cases h1:ak k fr with
  |some m =>
   rw[h1]at e;simp at e;subst e;obtain⟨j,rfl,h2,h3,h4⟩:=W7 k m h1;exact .inl ⟨j,Z,h2,h4,h3⟩
  |none =>
   rw[h1]at e;simp only at e;cases h2:ak k bu with
   |some m =>
    rw[h2]at e;simp at e;subst e;right;left;simp only[vU,h1,h2]
   |none =>
    rw[h2]at e;simp only at e;right;right;refine⟨e,by simp only[vU,h1,h2],λhm=>?_⟩;rw[Pp,yS hm e]at h2;simp at h2
 have FE:∀j n b lo pn,ak j (nM os++vJ 0 rk rs)=some n->g'.tok j=some (n,some (b,lo,pn))->w.heap.size<=b\/∃old n',old∈cO (iK σ.boxes 0 ps l)/\ak old σ.toks=some n'/\∃Dd hi1,g.tok old=some (n',some (b,Dd,hi1))/\Dd<=lo/\pn<=hi1:=by
  intro j n b lo pn e e1;rcases hk.toks j n b lo pn e e1 with h|⟨k0,n0,Dd,hi1,h1,h2,h3,h4⟩
  ·exact .inl h
  ·grind
 refine⟨vU,⟨hi'.nF,?_,?_,?_,?_,?_,?_⟩,⟨hk.os,hk.tape,hk.output,hk.size,λb hb hno=>hk.block b hb λo ho=>hno o (Ku b o ho),λb o hb hno=>hk.kept b o hb λho=>hno (Ku b o ho),hk.le,λb o v h=>(hk.new b o v h).imp id λh=>h.imp id (Ku b o),?_,?_,?_⟩,hle,?_⟩
 ·intro k cs e;obtain⟨_,b,b1,b2,b3,b4,_⟩:=ym k cs e;exact⟨b,b1,aaU b2 hk.size,b3,b4⟩
 ·intro k k' cs cs' b e e' e1 e2;obtain⟨⟨oc,h1⟩,_⟩:=ym k cs e;obtain⟨⟨SV,xq⟩,_⟩:=ym k' cs' e';exact hi.fo k k' oc SV b h1 xq e1 e2
 ·intro k n e;rcases AH k n e with ⟨j,rfl,h1,h2,_⟩|h1|⟨h1,h2,h3⟩
  ·obtain⟨fI,h3,h4⟩:=hi'.tok j n h1;refine⟨fI,h2.trans h3,λb lo pn hr=>?_⟩;obtain⟨f1,f2,f3⟩:=h4 b lo pn hr;refine⟨f1,f2,λk' cs e'=>?_⟩;obtain⟨⟨oc,g1⟩,b',b1,b2,_⟩:=ym k' cs e';show g.box k'≠some b;rw[b1];intro yd;simp at yd;subst yd;subst hr;rcases FE j n b' lo pn h1 h3 with h|⟨old,n',_,q2,Dd,hi1,q3,_,_⟩
   ·omega
   ·obtain⟨BE,q4,q5⟩:=hi.tok old n' q2;rw[q3]at q4;simp at q4;exact(q5 _ _ _ q4.symm).2.2 k' oc g1 b1
  ·simp_all
  ·obtain⟨fI,h4,h5⟩:=hi.tok k n h1;refine⟨fI,h2.trans h4,λb lo pn hr=>?_⟩;obtain⟨f1,f2,f3⟩:=h5 b lo pn hr;subst hr;have hno:=Vc k n b lo pn h1 h4 h3;refine⟨aaU f1 hk.size,λo o1 o2=>?_,λk' cs e'=>?_⟩
   ·grind
   ·obtain⟨⟨oc,g1⟩,_⟩:=ym k' cs e';exact f3 k' oc g1
 ·intro k k' n n' b lo pn lo' hi1 e e' e1 e2;rcases AH k n e with ⟨j,rfl,h1,h2,WW⟩|h1|⟨h1,h2,h3⟩
  ·rw[h2]at e1;rcases AH k' n' e' with ⟨j',rfl,xq,tu,_⟩|xq|⟨xq,tu,V6⟩
   ·rw[tu]at e2;have:=hi'.ga j j' n n' b lo pn lo' hi1 h1 xq e1 e2;rw[this]
   ·simp_all
   ·rw[tu]at e2;exfalso;obtain⟨fI,q1,q2⟩:=hi.tok k' n' xq;rw[e2]at q1;simp at q1;have hlt:=(q2 _ _ _ q1.symm).1;rcases FE j n b lo pn h1 e1 with h|⟨old,m,r1,r2,Dd,hi2,r3,_,_⟩
    ·omega
    ·have:=hi.ga k' old n' m b lo' hi1 Dd hi2 xq r2 e2 r3;subst this;exact V6 r1
  ·simp_all
  ·rw[h2]at e1;rcases AH k' n' e' with ⟨j',rfl,xq,tu,_⟩|xq|⟨xq,tu,V6⟩
   ·rw[tu]at e2;exfalso;obtain⟨fI,q1,q2⟩:=hi.tok k n h1;rw[e1]at q1;simp at q1;have hlt:=(q2 _ _ _ q1.symm).1;rcases FE j' n' b lo' hi1 xq e2 with h|⟨old,m,r1,r2,Dd,hi2,r3,_,_⟩
    ·omega
    ·have:=hi.ga k old n m b lo pn Dd hi2 h1 r2 e1 r3;subst this;exact h3 r1
   ·simp_all
   ·rw[tu]at e2;exact hi.ga k k' n n' b lo pn lo' hi1 h1 xq e1 e2
 ·intro k e;show k∈fr.map (·.1)++σ.used;rw[Y8];rcases e with e|e
  ·exact .inr (hi.used k (.inl e))
  ·cases h1:ak k fr with
   |some m=>exact .inl (List.mem_map.2 ⟨_,dx h1,Z⟩)
   |none =>
    right;cases h2:ak k bu with
    |some m =>
     obtain⟨_,q,h3,_⟩:=W8 k m h2;obtain⟨fI,h4⟩:=hts k q h3;exact hi.used k (.inr (by rw[h4];simp))
    |none=>apply hi.used k;right;simpa only[vU,h1,h2]using e
 ·intro k cs b e e1;obtain⟨_,b',b1,_,_,_,V7⟩:=ym k cs e;have NP:g.box k=some b:=e1;rw[b1]at NP;cases NP;exact V7
 ·intro k cs b e e1;obtain⟨⟨oc,h1⟩,_⟩:=ym k cs e;exact .inr ⟨k,oc,h1,e1⟩
 ·intro k n b lo pn e e1;rcases AH k n e with ⟨j,rfl,h1,h2,_⟩|h1|⟨h1,h2,h3⟩
  ·grind
  ·simp_all
  ·grind
 ·intro k _ e;cases hc:ak k (nG nb σ.boxes)with
  |none=>exact absurd hc e
  |some cs =>
   obtain⟨⟨oc,h1⟩,_⟩:=ym k cs hc;exact⟨by rw[h1];simp,Z,Z⟩
 ·intro u h;have hsub:∀e∈vJ 0 rk rs,vU.tok (e.1+s)=g'.tok e.1:=λe he=>W9 e (List.mem_append.2 (.inr he))
  match rs,h,hsub with
  |[],h,_=>simp only[oT,aI,Rel]at h ⊢;exact h
  |[x],h,hsub =>
   simp only[oT]at h ⊢;have:=(LV.shift (g:=g') (g':=vU) (s:=s) (iJ.le.refl _) (k:=rk) (λe he=>hsub e (by simp only[vJ,Y8];exact .inl he)) h).1;exact this
  |x::y::r,h,hsub =>
   simp only[oT,aI]at h ⊢;obtain⟨vs,e1,e2,e3⟩:=h;refine⟨vs,e1,Ed (g:=g') (g':=vU) (iJ.le.refl _) hsub e2,?_⟩;rw[B2]at e3 ⊢;exact e3
end Go.cM
namespace Go.cM
def jg:∀{a b:L (Nat×(Nat×Option Nat))},cO (a++b)=cO a++cO b
 |[],b=>rfl
 |(k,m,none)::a,b=>by simp[cO,jg (a:=a)]
 |(k,m,some o)::a,b=>by simp[cO,jg (a:=a)]
section
variable {bs Md : L (Nat × L AV)}{ts Ee : L (Nat × Nat)}
def B3{m k:Nat}:∀{x:LV}{a:AV},yQ ts x a->(∀j∈cO (yR m k x a),ak j Ee=ak j ts)->yQ Ee x a
 |.c v,a,h,_=>h
 |.own s rows,a,h,I=>by
  simp only[yQ]at h ⊢;rcases pP h with ⟨q,rfl,hq⟩|⟨k',n,rfl,E⟩
  ·exact h
  ·have:=I k' (by simp[yR,cO]);simp only[HP,this,E];simp[Nat.beq_refl]
def zT{m:Nat}:∀{k:Nat}{xs:L LV}{l:L AV},iO ts xs l->(∀j∈cO (mq m k xs l),ak j Ee=ak j ts)->iO Ee xs l
 |k,[],l,h,_=>h
 |k,x::xs,l,h,I=>by
  simp only[iO]at h ⊢;obtain⟨a,r,rfl,h1,h2⟩:=h;simp only[mq,jg,Y8]at I;exact⟨a,r,Z,B3 h1 (λj T=>I j (.inl T)),zT h2 (λj T=>I j (.inr T))⟩
def tE:∀{i:Nat}{A:L PA}{l:L AV},iw bs ts A l->(∀k∈(iW bs i A l).map (·.2),ak k Md=ak k bs)->(∀k∈cO (iK bs i A l),ak k Ee=ak k ts) ->
  iw Md Ee A l/\iW Md i A l=iW bs i A l/\iK Md i A l=iK bs i A l
 |i,[],l,h,_,_=>by simp only[iw]at h;subst h;exact⟨by simp[iw],rfl,rfl⟩
 |i,.v x::A,l,h,h1,h2=>by
  simp only[iw]at h;obtain⟨a,r,rfl,K,W⟩:=h;simp only[iW]at h1;simp only[iK,jg,Y8]at h2;obtain⟨S,M,P⟩:=tE W h1 (λk D=>h2 k (.inr D));refine⟨by simp only[iw];exact⟨a,r,Z,B3 K (λj T=>h2 j (.inl T)),S⟩,?_,?_⟩
  ·simp only[iW,M]
  ·simp only[iK,P]
 |i,.box cells::A,l,h,h1,h2=>by
  simp only[iw]at h;obtain⟨H,O,r,rfl,K,W,Y⟩:=h;simp only[iW,Zl,ZI,forall_eq_or_imp]at h1;simp only[iK,K,jg,Y8]at h2;obtain⟨S,M,P⟩:=tE Y h1.2 (λk D=>h2 k (.inr D));refine⟨by simp only[iw];exact⟨H,O,r,Z,h1.1.trans K,zT W (λj T=>h2 j (.inl T)),S⟩,?_,?_⟩
  ·simp only[iW,M]
  ·simp only[iK,P,h1.1]
end
def zU{ts Ee:L (Nat×Nat)}:∀{l:L Nat},(∀k∈l,ak k Ee=ak k ts)->oz Ee l=oz ts l
 |[],_=>rfl
 |k::l,h=>by
  simp only[oz,h k ek,zU (l:=l) (λj T=>h j (by simp[T]))]
def gk(ρ:Operand->Option AV):L Operand->Option (L AV)
 |[]=>some []
 |x::l=>match ρ x with
  |some a=>match gk ρ l with
   |some r=>some (a::r)
   |none=>none
  |none=>none
def rP{ρ Y:Operand->Option AV}:∀(l:L Operand),(∀x∈l,Y x=ρ x)->gk Y l=gk ρ l
 |[],_=>rfl
 |x::l,h=>by simp only[gk,h x ek,rP l (λy J=>h y (by simp[J]))]
def yT{g:Gh}{ρ:Operand->Option AV}{ev:Operand->Value}(O:∀x v,ρ x=some v->aI g v (ev x)):∀{l:L Operand}{r:L AV},gk ρ l=some r->bC g r (l.map ev)
 |[],r,h=>by simp[gk]at h;subst h;simp[bC]
 |x::l,r,h=>by
  simp only[gk]at h;split at h
  ·rename_i a W;split at h
   ·rename_i Y S;simp at h;subst h;simp only[Zl,bC];exact⟨_,_,Z,O x a W,yT O S⟩
   ·simp at h
  ·simp at h
def gA.more{E:St->St}{W:L Nat}(h:gA E ⟨[],W⟩)(R:L Nat):gA E ⟨R,W⟩ :=
 ⟨λσ k D=>h.out σ k D,λσ N Y k D=>h.same σ N (λj T=>Y j (T.elim (λx=>by simp at x) .inr)) k D⟩
structure yU(bs:List (Nat×List AV))(ts:List (Nat×Nat))(us:List Nat)(ps:List PA)(l:List AV)(rs:List LV)(os:List (Nat×List LV))(s:Nat)(nb:List (Nat×List AV))(fr bu:List (Nat×Nat)):Prop where
 H:qK bs ts ps l
 hnb:Fc (iW bs 0 ps l) s os=some nb
 hall:∀x∈(iW bs 0 ps l).map (·.1),x∈(pF os).map (·.1)
 hfr:fr=ov s (nM os++vJ 0 rk rs)
 Pp:bu=oz ts (cO (iK bs 0 ps l))
 JN:distinct ((pF os).map (·.1))=true
 iL:distinct (nb.map (·.1))=true
 gH:distinct ((fr++bu).map (·.1))=true
 Yu:∀x∈fr.map (·.1),x ∉ us
 Yv:distinct ((nM os++vJ 0 rk rs).map (·.1))=true
def yU.congr{bs Md:L (Nat×L AV)}{ts Ee:L (Nat×Nat)}{us NQ:L Nat}{A:L PA}{l:L AV}{rs:L LV}{Y:L (Nat×L LV)}{s:Nat}{nb:L (Nat×L AV)}{N u:L (Nat×Nat)}
  (h:yU bs ts us A l rs Y s nb N u)(h1:∀k∈(iW bs 0 A l).map (·.2),ak k Md=ak k bs)(h2:∀k∈cO (iK bs 0 A l),ak k Ee=ak k ts)(K:∀k∈N.map (·.1),k∈NQ↔k∈us) :
  yU Md Ee NQ A l rs Y s nb N u:=by
 obtain⟨S,M,P⟩:=tE h.H.ok h1 h2
 exact⟨⟨S,by rw[M];exact h.H.d1,by rw[M];exact h.H.d2,by rw[P];exact h.H.d3,by rw[P];exact h.H.d4⟩,by rw[M];exact h.hnb,by rw[M];exact h.hall,h.hfr,by rw[P,zU h2];exact h.Pp,
  h.JN,h.iL,h.gH,λx I B=>h.Yu x I ((K x I).1 B),h.Yv⟩
section
variable {P : Program}{X : Ctx}
def bP.Kv{o:Oper}{env:Env}{σ:St}{f:FuncId}{J:L Operand}(oS:∀x∈J,x∈o.op.operands.toList){K:L AV}(hl:gk (aJ X env) J=some K){l:L AV}{U:L PA}{rs:L LV}{O:L (Nat×L LV)}
  (hq:cx P X f U rs O){s:Nat}{nb:L (Nat×L AV)}{B S:L (Nat×Nat)}(C:yU σ.boxes σ.toks σ.used U l rs O s nb B S)
  (I:∀(g:Gh)(w:World)(a:Act)(T:Env),(∀x∈o.op.operands.toList,aJ X T x=aJ X env x)->sw g T a.tmps->mA X g.G->∃vs:L Value,bC g l vs/\(execOp a.eval o).run P w = .ok (.enter f vs.toArray) w) :
  bP P X o env σ (oT s rs) (nY nb (B++S) (B.map (·.1))) ⟨(iW σ.boxes 0 U l).map (·.2)++cO (iK σ.boxes 0 U l),nb.map (·.1)++((B++S).map (·.1)++B.map (·.1))⟩:=by
 intro T N w g a next Q h1 h2 W M q V;have Y:=C.congr (Md:=N.boxes) (Ee:=N.toks) (NQ:=N.used) (λk D=>(h2 k (.inl (List.mem_append.2 (.inl D)))).1) (λk D=>(h2 k (.inl (List.mem_append.2 (.inr D)))).2.1)
  (λk D=>(h2 k (.inr (by simp only[Y8];exact .inr (.inr D)))).2.2)
 obtain⟨vs,p,A⟩:=I g w a T h1 q M;have E:=Y.H.inv W;have fJ:=Y.H.rel W p;unfold Oper.wp;rw[A,Oper.upon_enter];refine(hq.2 _ w vs E M fJ).mono ?_;rintro e w' ⟨u,g',rfl,h3,h4,h5⟩;obtain⟨vU,i1,i2,i3,i4⟩:=NO W Y.H h4 h5 s Y.hnb Y.hall Y.hfr Y.Pp Y.JN Y.iL Y.gH Y.Yu Y.Yv;exact V u w' vU (i4 u h3) i1 i2 i3
def bP.Pq{o:Oper}{env:Env}{σ:St}{f:FuncId}{args:Array Operand}{N:Array TypeId}(Y:o.op = .call {callee := .value (.func f),args:=args,argTypes:=N})
  {l:L AV}(B:gk (aJ X env) args.toList=some l){A:L PA}{rs:L LV}{V:L (Nat×L LV)}
  (hq:cx P X f A rs V){s:Nat}{nb:L (Nat×L AV)}{H u:L (Nat×Nat)}(C:yU σ.boxes σ.toks σ.used A l rs V s nb H u) :
  bP P X o env σ (oT s rs) (nY nb (H++u) (H.map (·.1))) ⟨(iW σ.boxes 0 A l).map (·.2)++cO (iK σ.boxes 0 A l),nb.map (·.1)++((H++u).map (·.1)++H.map (·.1))⟩:=by
 have U:∀x∈args.toList,x∈o.op.operands.toList:=by
  intro x I;rw[Y];simp only[Op.operands,Call.operands,aaD,Y8];exact .inr I
 refine bP.Kv U B hq C ?_;intro g w a S h1 Q O;have M:gk (aJ X S) args.toList=some l:=by
  rw[rP _ (λx I=>h1 x (U x I))];exact B
 refine⟨args.toList.map a.eval,yT (λx v I=>cn Q O I) M,?_⟩;rw[show(args.toList.map a.eval).toArray=args.map a.eval from by rw[<- aaP]];obtain⟨K,q,T,G,W,guard⟩:=o;simp only at Y;subst Y;simp[execOp,resolve,Deferred.ofValue,invoke,Act.eval,hq.1 _ w]
def Zw:L CV->L AV
 |[]=>[]
 |v::l => .c v::Zw l
def qc:L Nat->Option (L Nat)
 |[]=>some []
 |x::l=>match qc l with
  |some r=>some (x::r)
  |none=>none
def jm{α:Type}:L (Nat×α)->Option (L (Nat×α))
 |[]=>some []
 |(k,n)::l=>match jm l with
  |some r=>some ((k,n)::r)
  |none=>none
def uH:∀{l r:L Nat},qc l=some r->r=l
 |[],r,h=>by simp[qc]at h;exact h
 |x::l,r,h=>by
  simp only[qc]at h;split at h
  ·rename_i O E;simp at h;rw[<- h,uH E]
  ·simp at h
def lA{α:Type}:∀{l r:L (Nat×α)},jm l=some r->r=l
 |[],r,h=>by simp[jm]at h;exact h
 |(k,n)::l,r,h=>by
  simp only[jm]at h;split at h
  ·rename_i O E;simp at h;rw[<- h,lA E]
  ·simp at h
def both(a b:Bool):Bool:=match a with
 |true=>b
 |false=>false
def dR{a b:Bool}(h:both a b=true):a=true/\b=true:=by cases a<;>simp_all [both]
def ur(us:L Nat)(bx:L (Nat×Nat))(tk:L (Nat×(Nat×Option Nat)))(Y:L (Nat×L AV))(nb:L (Nat×L AV))(H u W:L (Nat×Nat)):Bool :=
 both (distinct (fK bx)) (both (distinct (bx.map (·.2))) (both (distinct (fK tk)) (both (distinct (cO tk)) (both (BZ (fK Y) (fK bx)) (both (distinct (fK Y))
  (both (distinct (fK nb)) (both (distinct (fK (H++u))) (both (FD us (fK H)) (distinct (fK W))))))))))
def NR{bs:L (Nat×L AV)}{ts:L (Nat×Nat)}{us:L Nat}{W:L PA}{l:L AV}{rs:L LV}{Y:L (Nat×L LV)}{s:Nat}{nb:L (Nat×L AV)}{H u:L (Nat×Nat)}
  (hok:iw bs ts W l){bx:L (Nat×Nat)}(N:jm (iW bs 0 W l)=some bx){tk:L (Nat×(Nat×Option Nat))}(M:jm (iK bs 0 W l)=some tk)(V:Fc bx s Y=some nb)
  (Q:jm (ov s (nM Y++vJ 0 rk rs))=some H)(J:jm (oz ts (cO tk))=some u)(A:ur us bx tk (pF Y) nb H u (nM Y++vJ 0 rk rs)=true):yU bs ts us W l rs Y s nb H u:=by
 have h1:=lA N;have h2:=lA M;have G:=lA Q;have E:=lA J;subst h1 h2 G E;unfold ur at A;obtain⟨U,A⟩:=dR A;obtain⟨C,A⟩:=dR A;obtain⟨K,A⟩:=dR A;obtain⟨c4,A⟩:=dR A;obtain⟨p,A⟩:=dR A;obtain⟨T,A⟩:=dR A;obtain⟨S,A⟩:=dR A;obtain⟨P,A⟩:=dR A;obtain⟨O,JK⟩:=dR A;simp only[kg]at U C K c4 p T S P O JK;exact⟨⟨hok,U,C,K,c4⟩,V,λx I=>qL p x I,Z,Z,T,S,P,λx I=>B0 O x I,JK⟩
def J0(d s:Nat)(rs:L LV)(env:Env):Option Env:=match rs with
 |[]=>some ((d,.c .undef)::env)
 |[.c v]=>some ((d,.c v)::env)
 |[.own q rows]=>some ((d,.own (.tok (rk+s) 0) q rows)::env)
 |rs=>match Ks 0 (rk+s) rs with
  |some l=>some ((d,.gb l)::env)
  |none=>none
def SW{d s:Nat}{rs:L LV}{env env':Env}(h:J0 d s rs env=some env'):env'=(d,oT s rs)::env:=by
 match rs,h with
 |[],h=>simp[J0]at h;subst h;rfl
 |[.c v],h=>simp[J0]at h;subst h;rfl
 |[.own q rows],h=>simp[J0]at h;subst h;rfl
 |x::y::r,h=>simp[J0,AN]at h;subst h;rfl
end
section
variable {P : Program}{X : Ctx}{ops : Array Oper}{o : Oper}{rest : L Oper}{env : Env}{acc : L Fp}{Q : Env -> St -> L Fp -> Prop}{bs : L (Nat × L AV)}{ts : L (Nat × Nat)}{us : L Nat}
def ah.Pq(kn:L Nat)(I:cS ops.toList kn env o=some true){f:FuncId}{args:Array Operand}{N:Array TypeId}(G:o.op = .call {callee := .value (.func f),args:=args,argTypes:=N})
  {A:L PA}{rs:L LV}{Y:L (Nat×L LV)}(hq:cx P X f A rs Y){l:L AV}(B:gk (aJ X env) args.toList=some l)(hok:iw bs ts A l){d:Nat}(E:o.dst=some d)
  {nb:L (Nat×L AV)}{H u W:L (Nat×Nat)}{bx:L (Nat×Nat)}(O:jm (iW bs 0 A l)=some bx){tk:L (Nat×(Nat×Option Nat))}(M:jm (iK bs 0 A l)=some tk)(V:Fc bx (10000000*(d+1)) Y=some nb)
  (U:jm (ov (10000000*(d+1)) (nM Y++vJ 0 rk rs))=some H)(q:jm (oz ts (cO tk))=some u)(hc:ur us bx tk (pF Y) nb H u (nM Y++vJ 0 rk rs)=true)
  {bs':L (Nat×L AV)}(T:q8 nb bs=some bs')(S:jm (H++u)=some W){ts':L (Nat×Nat)}(D:q8 W ts=some ts'){us':L Nat}(sI:qc (fK H++us)=some us')
  {K J:L Nat}(hR:qc (bx.map (·.2)++cO tk)=some K)(hW:qc (fK nb++(fK W++fK H))=some J){env':Env}(he:J0 d (10000000*(d+1)) rs env=some env')
  (k:ah P X ops rest env' ⟨bs',ts',us'⟩ (⟨K,J⟩::acc) Q):ah P X ops (o::rest) env ⟨bs,ts,us⟩ acc Q:=by
 have C:=NR hok O M V U q hc;have r2:=SW he;have hs:=bP.Pq (σ:=⟨bs,ts,us⟩) G B hq C;have e1:=lA S;have e2:=uH sI;have e3:=uH hR;have p:=uH hW;rw[BW]at T D;simp at T D;have hE:gA (nY nb (H++u) (H.map (·.1))) ⟨(iW bs 0 A l).map (·.2)++cO (iK bs 0 A l),nb.map (·.1)++((H++u).map (·.1)++H.map (·.1))⟩:=(Kr nb (H++u) (H.map λ(x:Nat×Nat)=>x.1) C.iL C.gH).more _;refine ah.step (dg I) hs hE ?_;rw[E];show ah P X ops rest ((d,_)::env) _ _ Q;rw[<- r2];simp only[nY];rw[e1]at D p;rw[T,D,<- kg H,<- e2];have h1:=lA O;have h2:=lA M;rw[<- h1,<- h2,<- e3,<- kg nb,<- kg (H++u),<- p];exact k
end
end Go.cM
namespace Go.cM
def SX(ts:L (Nat×Nat)):LV->AV->Option LV
 |.c _,a=>match close a with
  |some v=>some (.c v)
  |none=>none
 |.own s _,a=>match HP ts s a with
  |some rows=>some (.own s rows)
  |none=>none
def xx(ts:L (Nat×Nat)):L LV->L AV->Option (L LV)
 |[],[]=>some []
 |x::xs,a::l=>match SX ts x a with
  |some y=>match xx ts xs l with
   |some r=>some (y::r)
   |none=>none
  |none=>none
 |_,_=>none
def yV(bs:L (Nat×L AV))(ts:L (Nat×Nat)):L (Nat×L LV)->Option (L (Nat×L LV))
 |[]=>some []
 |(i,cells)::l=>match ak (pb i) bs with
  |some O=>match xx ts cells O with
   |some y=>match yV bs ts l with
    |some r=>some ((i,y)::r)
    |none=>none
   |none=>none
  |none=>none
def mH(bs:L (Nat×L AV)):L (Nat×L LV)->L (Nat×(Nat×Option Nat))
 |[]=>[]
 |(i,cells)::l=>(match ak (pb i) bs with
  |some O=>mq 1 (pb i+1) cells O
  |none=>[])++mH bs l
def oU:L (Nat×L LV)->L (Nat×Nat)
 |[]=>[]
 |(i,_)::l=>(pb i,pb i)::oU l
def SY{ts:L (Nat×Nat)}:∀{x:LV}{a:AV}{y:LV},SX ts x a=some y->yQ ts y a
 |.c _,a,y,h=>by
  simp only[SX]at h;split at h
  ·rename_i v B;simp at h;subst h;exact B
  ·simp at h
 |.own _ _,a,y,h=>by
  simp only[SX]at h;split at h
  ·rename_i rows B;simp at h;subst h;exact B
  ·simp at h
def xy{ts:L (Nat×Nat)}:∀{xs:L LV}{l:L AV}{Y:L LV},xx ts xs l=some Y->iO ts Y l
 |[],[],Y,h=>by simp[xx]at h;subst h;simp[iO]
 |[],_::_,Y,h=>by simp[xx]at h
 |_::_,[],Y,h=>by simp[xx]at h
 |x::xs,a::l,Y,h=>by
  simp only[xx]at h;split at h
  ·rename_i y J;split at h
   ·rename_i r E;simp at h;subst h;simp only[iO];exact⟨a,l,Z,SY J,xy E⟩
   ·simp at h
  ·simp at h
def yW(bs:L (Nat×L AV))(ts:L (Nat×Nat)):L (Nat×L LV)->Prop
 |[]=>True
 |(i,cells)::l=>(∃O,ak (pb i) bs=some O/\iO ts cells O)/\yW bs ts l
def yX{bs:L (Nat×L AV)}{ts:L (Nat×Nat)}:∀{V Y:L (Nat×L LV)},yV bs ts V=some Y->yW bs ts Y
 |[],Y,h=>by simp[yV]at h;subst h;trivial
 |(i,cells)::l,Y,h=>by
  simp only[yV]at h;split at h
  ·rename_i O W;split at h
   ·rename_i y J;split at h
    ·rename_i r E;simp at h;subst h;exact⟨⟨O,W,xy J⟩,yX E⟩
    ·simp at h
   ·simp at h
  ·simp at h
def wj{bs:L (Nat×L AV)}{ts:L (Nat×Nat)}:∀{Y:L (Nat×L LV)},yW bs ts Y->∀i cells,(i,cells)∈Y->∃O,ak (pb i) bs=some O/\iO ts cells O/\(∀e∈mq 1 (pb i+1) cells O,e∈mH bs Y)/\(pb i,pb i)∈oU Y
 |[],_,i,cells,h=>by simp at h
 |(j,c)::l,⟨⟨O,h1,h2⟩,h3⟩,i,cells,h=>by
  rcases List.mem_cons.1 h with h|h
  ·simp at h;obtain⟨rfl,rfl⟩:=h;exact⟨O,h1,h2,λe S=>by simp only[mH,h1,Y8];exact .inl S,by simp[oU]⟩
  ·obtain⟨W,M,p,G,V⟩:=wj h3 i cells h;exact⟨W,M,p,λe S=>by simp only[mH,Y8];exact .inr (G e S),by simp[oU,V]⟩
def B4{bs:L (Nat×L AV)}{ts:L (Nat×Nat)}{j n:Nat}:∀{Y:L (Nat×L LV)},yW bs ts Y->(j,n)∈nM Y->∃o,(j,(n,o))∈mH bs Y/\∀S,o=some S->∃W,ak S ts=some W
 |[],_,h=>by simp[nM]at h
 |(i,c)::l,⟨⟨O,h1,h2⟩,h3⟩,h=>by
  simp only[nM,Y8]at h;simp only[mH,h1,Y8];rcases h with h|h
  ·obtain⟨rfl,o,Q,V⟩:=uE h2 h;exact⟨o,.inl Q,V⟩
  ·obtain⟨o,Q,V⟩:=B4 h3 h;exact⟨o,.inr Q,V⟩
def B5{bs:L (Nat×L AV)}{ts:L (Nat×Nat)}:∀{Y:L (Nat×L LV)},yW bs ts Y->∀e∈mH bs Y,e.1∈(nM Y).map (·.1)
 |[],_,e,h=>by simp[mH]at h
 |(i,c)::l,⟨⟨O,h1,h2⟩,h3⟩,e,h=>by
  simp only[mH,h1,Y8]at h;simp only[nM,aan,Y8];exact h.imp (uF h2 e) (B5 h3 e)
def B6:∀{Y:L (Nat×L LV)}{k v:Nat},(k,v)∈oU Y->v=k/\k∈(pF Y).map (·.1)
 |[],k,v,h=>by simp[oU]at h
 |(i,c)::l,k,v,h=>by
  simp only[oU,ZI]at h;simp only[pF,Zl,ZI];rcases h with h|h
  ·simp_all
  ·obtain⟨C,Q⟩:=B6 h;exact⟨C,.inr Q⟩
section
variable {P : Program}{X : Ctx}{f : FuncId}{n : Nat}{β : je}{R : Ending -> World -> Prop}{K : L Item}{env : Env}
def nO(hX:ct P X){Y:Func}{σ:St}{g:Gh}{w:World}{a:Act}(W:Live X β n env σ g w a){l:L AV}(h:rJ X σ.boxes env Y.results.toList=some l) :
  ∃u,(results Y a.tmps).run P w = .ok u w/\match l with|[]=>u=undef|[x]=>aI g x u|l=>aI g (.gb l) u:=by
 match l,h with
 |[],h =>
  obtain⟨vs,C,Q⟩:=AI hX W h;simp only[bC]at Q;subst Q;refine⟨.tuple #[],?_,Z⟩;have:(Y.results.mapM (zN a.tmps)).run P w = .ok #[] w:=by
   rw[abW];simp only[Sem.run_map,C,Result.andThen_ok]
  rw[vW,Sem.run_bind,this];simp
 |[x],h=>exact rK hX W (r:=x) (by unfold mP;rw[h])
 |x::y::r,h=>exact rK hX W (r := .gb (x::y::r)) (by unfold mP;rw[h])
def rQ(bx:L (Nat×Nat))(tk:L (Nat×(Nat×Option Nat))):Bool :=
 both (distinct (fK bx)) (both (distinct (bx.map (·.2))) (both (distinct (fK tk)) (distinct (cO tk))))
def Ef{σ:St}{g:Gh}{w:World}(q:Inv w g σ){rs:L LV}{Y:L (Nat×L LV)}{l:L AV}(E:iO σ.toks rs l)(V:yW σ.boxes σ.toks Y)
  (A:rQ (oU Y) (mH σ.boxes Y++mq 0 rk rs l)=true)(J:distinct (fK (pF Y))=true) :
  let ρ:Ren:=⟨λk=>ak k (oU Y),λk=>ak k (mH σ.boxes Y++mq 0 rk rs l)⟩
  Inv w (g.fL ρ) (vA Y rs)/\gy w g σ w (g.fL ρ) (vA Y rs)/\eY ρ σ.toks (yP 0 rk rs) l:=by
 intro ρ;unfold rQ at A;obtain⟨U,A⟩:=dR A;obtain⟨H,A⟩:=dR A;obtain⟨K,c4⟩:=dR A;rw[kg]at U K J;have u:eY ρ σ.toks (yP 0 rk rs) l:=xu E λe S=>fP K (List.mem_append.2 (.inr S))
 obtain⟨h1,h2⟩:=q.fL ρ (vA Y rs) (by
   intro k cells e;obtain⟨i,T,B,rfl,rfl⟩:=xw (dx e);obtain⟨N,M,p,G,P⟩:=wj V i T B;exact⟨pb i,N,fP U P,M,xu p λe S=>fP K (List.mem_append.2 (.inl (G e S)))⟩) (by
   intro k k' O C Q;exact lP H (dx C) (dx Q)) (by
   intro k m e;have W:=dx e;simp only[vA]at W;rcases List.mem_append.1 W with W|W
   ·obtain⟨o,C,Q⟩:=B4 V W;exact⟨o,fP K (List.mem_append.2 (.inl C)),Q⟩
   ·obtain⟨rfl,o,C,Q⟩:=uE E W;exact⟨o,fP K (List.mem_append.2 (.inr C)),Q⟩) (by
   intro k k' m m' O C Q;exact rO c4 (dx C) (dx Q)) (by
   intro k e;simp only[vA,Y8,aan];rcases e with e|e
   ·left;obtain⟨x,I,rfl⟩:=List.mem_map.1 (mG e);exact(B6 (k:=x.1) (v:=x.2) I).2
   ·right;obtain⟨x,I,rfl⟩:=List.mem_map.1 (mG e);rcases List.mem_append.1 I with I|I
    ·exact .inl (B5 V x I)
    ·exact .inr (uF E x I))
 refine⟨h1,h2 ?_,u⟩;intro k _ e;cases D:ak k (vA Y rs).boxes with
 |none=>exact absurd D e
 |some cells =>
  obtain⟨i,T,B,rfl,rfl⟩:=xw (dx D);obtain⟨N,M,p,G,P⟩:=wj V i T B;exact fP U P
def AK.As(hX:ct P X){T:Func}(hf:P.funcs[f]?=some T){bs:L (Nat×L AV)}{ts:L (Nat×Nat)}{us:L Nat}{rs W:L LV}{S Y:L (Nat×L LV)}{l:L AV}(E:rJ X bs env T.results.toList=some l)
  (h1:xx ts rs l=some W)(h2:yV bs ts S=some Y)(A:both (rQ (oU Y) (mH bs Y++mq 0 rk W l)) (distinct (fK (pF Y)))=true)
  (C:W=rs)(J:Y=S):AK P X f n β (ER β rs S) (.code .ret::K) env ⟨bs,ts,us⟩:=by
 subst C J;intro g w a cs U;obtain⟨u,N,Q⟩:=nO hX U E;obtain⟨M,I⟩:=dR A;have hok:=xy h1;obtain⟨H,G,V⟩:=Ef U.inv hok (yX h2) M I;refine⟨.returned u,w,_,⟨u,_,Z,?_,H,U.frame.trans G⟩,.one step_ret,Z,Z,U.defers,Z,T,hf,N⟩;have D:=nq U.inv;show aI _ _ _
 match W,hok,V with
 |[],hok,V =>
  simp only[iO]at hok;subst hok;simp only[oT,aI,Rel];exact Q
 |[x],hok,V =>
  simp only[iO]at hok;obtain⟨y,r,rfl,_,rfl⟩:=hok;simp only[yP,eY]at V;obtain⟨b,r',O,B,_⟩:=V;simp at O;obtain⟨rfl,_⟩:=O;simp only[oT];exact(pO D B Q).1
 |x::x'::r,hok,V =>
  simp only[iO]at hok;obtain⟨y,q,rfl,_,p,q',rfl,_,_⟩:=hok;simp only[oT];refine(pO D (b := .gb (y::p::q')) ?_ Q).1;simp only[Conv];exact⟨_,Z,V⟩
def Qq(ρ:Ren)(ts:L (Nat×Nat))(env:Env):Env->Prop
 |[]=>True
 |(t,a)::l=>(∃b,ak t env=some b/\Conv ρ ts a b)/\Qq ρ ts env l
def Eg(ρ:Ren)(ts:L (Nat×Nat))(bs:L (Nat×L AV)):L (Nat×L AV)->Prop
 |[]=>True
 |(k,cells)::l=>(∃S O,ρ.bx k=some S/\ak S bs=some O/\eY ρ ts cells O)/\Eg ρ ts bs l
def Eh{ρ:Ren}{ts:L (Nat×Nat)}{env:Env}:∀{l:Env},Qq ρ ts env l->∀t a,ak t l=some a->∃b,ak t env=some b/\Conv ρ ts a b
 |[],_,t,a,e=>by simp[ak]at e
 |(j,x)::l,h,t,a,e=>by
  rw[an]at e;split at e
  ·rename_i I;simp at e;subst I e;exact h.1
  ·exact Eh h.2 t a e
def qM{ρ:Ren}{ts:L (Nat×Nat)}{bs:L (Nat×L AV)}:∀{l:L (Nat×L AV)},Eg ρ ts bs l->∀k c,ak k l=some c->∃S O,ρ.bx k=some S/\ak S bs=some O/\eY ρ ts c O
 |[],_,t,a,e=>by simp[ak]at e
 |(j,x)::l,h,t,a,e=>by
  rw[an]at e;split at e
  ·rename_i I;simp at e;subst I e;exact h.1
  ·exact qM h.2 t a e
def HW(ts:L (Nat×Nat))(tk:L (Nat×(Nat×Option Nat))):L (Nat×Nat)->Bool
 |[]=>true
 |(k,n)::l=>match ak k tk with
  |some (m,none)=>both (Nat.beq m n) (HW ts tk l)
  |some (m,some S)=>match ak S ts with
   |some _=>both (Nat.beq m n) (HW ts tk l)
   |none=>false
  |none=>false
def yY{ts:L (Nat×Nat)}{tk:L (Nat×(Nat×Option Nat))}:∀{l:L (Nat×Nat)},HW ts tk l=true->∀k n,ak k l=some n->∃o,ak k tk=some (n,o)/\∀S,o=some S->∃W,ak S ts=some W
 |[],_,k,n,e=>by simp[ak]at e
 |(j,m)::l,h,k,n,e=>by
  simp only[HW]at h;rw[an]at e;split at h
  ·rename_i Y V;obtain⟨M,B⟩:=dR h;split at e
   ·simp_all
   ·exact yY B k n e
  ·rename_i Y S V;split at h
   ·rename_i z K;obtain⟨M,B⟩:=dR h;split at e
    ·simp_all
    ·exact yY B k n e
   ·simp at h
  ·simp at h
def Ei:L (Nat×Nat)->Bool
 |[]=>true
 |(k,v)::l=>match Nat.blt k 1000000 with
  |true=>Ei l
  |false=>both (Nat.beq v k) (Ei l)
def uJ:∀{l:L (Nat×Nat)},Ei l=true->∀k v,1000000<=k->ak k l=some v->v=k
 |[],_,k,v,_,e=>by simp[ak]at e
 |(j,x)::l,h,k,v,hk,e=>by
  simp only[Ei]at h;rw[an]at e;split at h
  ·rename_i A;have:j<1000000:=by simpa[ach]using A
   rw[if_neg bn]at e;exact uJ h k v hk e
  ·obtain⟨M,B⟩:=dR h;split at e
   ·simp_all
   ·exact uJ B k v hk e
def HX(bx:L (Nat×Nat))(tk:L (Nat×(Nat×Option Nat)))(ts ts':L (Nat×Nat))(us':L Nat):Bool :=
 both (distinct (bx.map (·.2))) (both (distinct (cO tk)) (both (HW ts tk ts') (both (Ei bx) (both (BZ us' (fK bx)) (BZ us' (fK tk))))))
def AK.fL{bs:L (Nat×L AV)}{ts:L (Nat×Nat)}{us:L Nat}(bx:L (Nat×Nat))(tk:L (Nat×(Nat×Option Nat))){env':Env}{bs':L (Nat×L AV)}{ts':L (Nat×Nat)}{us':L Nat}
  (T:Qq ⟨λk=>ak k bx,λk=>ak k tk⟩ ts env env')(W:Eg ⟨λk=>ak k bx,λk=>ak k tk⟩ ts bs bs')(A:HX bx tk ts ts' us'=true)
  (h:AK P X f n β R K env' ⟨bs',ts',us'⟩):AK P X f n β R K env ⟨bs,ts,us⟩:=by
 unfold HX at A;obtain⟨U,A⟩:=dR A;obtain⟨I,A⟩:=dR A;obtain⟨q,A⟩:=dR A;obtain⟨c4,A⟩:=dR A;obtain⟨p,V⟩:=dR A;rw[kg]at p V;intro g w a cs Y;obtain⟨h1,h2⟩:=Y.inv.fL ⟨λk=>ak k bx,λk=>ak k tk⟩ ⟨bs',ts',us'⟩ (λk cells e=>qM W k cells e) (λk k' S C Q=>lP U (dx C) (dx Q))
  (λk m e=>yY q k m e) (λk k' m O S C Q=>rO I (dx C) (dx Q)) (λk e=>by
   rcases e with e|e
   ·exact qL p k (mG e)
   ·exact qL V k (mG e))
 refine h _ w a cs ⟨h1,Y.qe,?_,Y.frame.trans (h2 ?_),Y.size,Y.defers⟩
 ·intro t x e;obtain⟨b,C,Q⟩:=Eh T t x e;exact(pO (nq Y.inv) Q (Y.env t b C)).1
 ·intro k D e;cases A:ak k bs' with
  |none=>exact absurd A e
  |some c =>
   obtain⟨S,N,q1,M,_⟩:=qM W k c A;have:=uJ c4 k S D q1;subst this;exact q1
end
end Go.cM
namespace Go.cM
section
variable {P : Program}{X : Ctx}{f : FuncId}{n : Nat}{β : je}{R : Ending -> World -> Prop}{K : L Item}{env : Env}{σ : St}
def AK.Bl{c:Operand}{x y:Code}{b:Bool}(A:aJ X env c=some (.c (.bool b)))(Y:b=true)(h:AK P X f n β R (.code x::K) env σ) :
  AK P X f n β R (.code (.cond c x y)::K) env σ:=by subst Y;exact AK.TY A h
def AK.Bm{c:Operand}{x y:Code}{b:Bool}(A:aJ X env c=some (.c (.bool b)))(Y:b=false)(h:AK P X f n β R (.code y::K) env σ) :
  AK P X f n β R (.code (.cond c x y)::K) env σ:=by subst Y;exact AK.TZ A h
end
def wm{α:Type}:∀{n:Nat}{l:List α},n<=l.length->takeN n l=some (l.take n)
 |0,l,_=>by simp[takeN]
 |n+1,[],h=>by simp at h
 |n+1,x::l,h=>by simp[takeN,wm (l:=l) (n:=n) q6]
def rR{α:Type}:∀{n:Nat}{l:List α},n<=l.length->fX n l=some (l.drop n)
 |0,l,_=>by simp[fX]
 |n+1,[],h=>by simp at h
 |n+1,x::l,h=>by simp[fX,rR (l:=l) (n:=n) q6]
abbrev cB(l:L UInt8):L CV:=l.map λb => .int .u8 b.toNat
def byteOf(z:Int):UInt8:=UInt8.ofNat (z%256).toNat
def mw(z:Int):((byteOf z).toNat:Int)=IntKind.u8.wrap z:=by
 unfold byteOf;simp[IntKind.wrap,IntKind.bits,IntKind.signed];omega
def vt(z:Int):[CV.int .u8 (IntKind.u8.wrap z)]=cB [byteOf z]:=by
 simp[cB,mw]
section
variable {P : Program}{X : Ctx}
def bP.val{o:Oper}{env:Env}{σ:St}{v:AV} (h:∀(V:Env)(w:World)(g:Gh)(a:Act),(∀x∈o.op.operands.toList,aJ X V x=aJ X env x)->(∀b o v,g.G b o=some v->w.cell? ⟨b,o,none⟩=some v) ->
  mA X g.G->sw g V a.tmps->∃u,(execOp a.eval o).run P w = .ok (.value u) w/\aI g v u):bP P X o env σ v (λσ=>σ) ⟨[],[]⟩:=by
 intro V N w g a next Q h1 h2 Y U T W;obtain⟨u,S,O⟩:=h V w g a h1 Y.nF U T;unfold Oper.wp;rw[S,Oper.upon_value];exact W u w g O Y (gy.refl _ _ _) (Gh.le.refl _)
def bP.concat(hX:ct P X){o:Oper}{env:Env}{σ:St}{t yt:TypeId}{x y:Operand}(ho:o.op = .binOp .add t x y yt){a b:L UInt8}(hx:aJ X env x=some (.c (.str a)))(hy:aJ X env y=some (.c (.str b)))
  (hl:a.length+b.length<=9223372036854775807):bP P X o env σ (.c (.str (a++b))) (λσ=>σ) ⟨[],[]⟩:=by
 refine bP.val λcT w g act h1 gL cu de=>?_
 have hx':aJ X cT x=some (.c (.str a)):=by rw[h1 x nu];exact hx
 have hy':aJ X cT y=some (.c (.str b)):=by rw[h1 y nu];exact hy
 have rx:=cn (a:=act) de cu hx'
 have ry:=cn (a:=act) de cu hy'
 simp only[aI,Rel]at rx ry
 refine⟨.string ⟨(a++b).toArray⟩,?_,by simp only[aI,Rel]⟩
 obtain⟨dst,op,type,pos,after,guard⟩:=o
 simp only at ho;subst ho
 have hsz:¬((9223372036854775807:Int)<(a.length:Int)+(b.length:Int)):=by omega
 have hj:(ByteArray.mk a.toArray)++(ByteArray.mk b.toArray)=⟨(a++b).toArray⟩:=by
  apply acE
  simp[ByteArray.data_append]
 simp[execOp,rx,ry,binOp,eqGuard,Op.stringOp,tc,hsz,hj]
def bP.toStr(hX:ct P X){o:Oper}{env:Env}{σ:St}{s d:TypeId}{x:Operand}(S:o.op = .convert s d x){i j k:TI}{e:Nat}(hi:X.ti s=some i)(hk:i.kind = .slice e)(he:X.ti e=some k)(OU:k.kind = .int .u8)(hj:X.ti d=some j)(Va:j.kind = .str)
  {a:AV}(hx:aJ X env x=some a){q:Nat}{rows:L CV}(E:rowsOf a=some (q,rows)){l:L UInt8}(fF:rows=cB l)(hq:fH q 1 rows=true):bP P X o env σ (.c (.str l)) (λσ=>σ) ⟨[],[]⟩:=by
 refine bP.val λcT w g O h1 gL cu de=>?_;have I:aJ X cT x=some a:=by rw[h1 x (by rw[S];simp[Op.operands])];exact hx
 have T:=cn (a:=O) de cu I;obtain⟨d1,_,M,Q⟩:=hX.run_underlying (w:=w) hi;rw[hk]at M;simp only[ey]at M;subst M;obtain⟨d2,_,N,J⟩:=hX.run_underlying (w:=w) he;rw[OU]at N;simp only[ey]at N;subst N;obtain⟨d3,_,W,H⟩:=hX.run_underlying (w:=w) hj;rw[Va]at W;simp only[ey]at W;subst W;have V:∃base K D,O.eval x = .slice base K D/\K=rows.length/\jJ g.G q base rows:=by
  unfold rowsOf at E;split at E<;>simp at E
  ·obtain⟨rfl,rfl⟩:=E;simp only[aI]at T;obtain⟨base,K,D,C,B,e3,p,_⟩:=T;exact⟨base,K,D,C,B,p⟩
  ·obtain⟨rfl,rfl⟩:=E;simp only[aI,Rel]at T;obtain⟨base,K,D,C,B,e3,p⟩:=T;exact⟨base,K,D,C,B,p⟩
 obtain⟨base,K,D,ex,Y,A⟩:=V;refine⟨.string ⟨l.toArray⟩,?_,by simp only[aI,Rel]⟩;have Xa:(convert s d (.slice base K D)).run P w = .ok (.string ⟨l.toArray⟩) w:=by
  subst fF;rw[aap]at Y;rcases A with UY|⟨b,o',rfl,hG⟩
  ·have hl:l=[]:=by simpa using UY
   subst hl;simp at Y;subst Y;cases base with
   |none=>rw[run_convert_bytes_string w s d e none 0 D Q J H];simp[Conv.bytesToString];rfl
   |some ad=>exact run_convert_bytes_back w s d e ad D [] Q J H ek
  ·rw[Y];refine run_convert_bytes_back w s d e ⟨b,o',none⟩ D l Q J H λm hm=>?_;rw[Addr.add_lit];have U:(cB l)[m]?=some (.int .u8 l[m].toNat):=by simp[cB,hm]
   obtain⟨c1,c2⟩:=hG.get m _ U;simp only[CV.cells,cL]at c1 c2;obtain⟨⟨u,u1,u2,_⟩,_⟩:=c1;simp only[Rel]at u2;subst u2;have Vf:q=1:=by simpa using c2.symm
   subst Vf;have:=gL _ _ _ u1;rwa[Nat.mul_one]at this
 obtain⟨dst,op,type,pos,after,guard⟩:=o;simp only at S;subst S;simp[execOp,ex,Xa]
def xz(es e:Nat):Nat->Nat->L (Nat×Nat)
 |_,0=>[]
 |k,n+1=>(k*es,e)::xz es e (k+1) n
def Ej{es e:Nat}:∀{n k i off q:Nat},nth (xz es e k n) i=some (off,q)->off=(k+i)*es/\q=e
 |0,k,i,off,q,h=>by simp[xz,nth]at h
 |n+1,k,0,off,q,h=>by simp[xz,nth]at h;exact⟨by simp[h.1],h.2.symm⟩
 |n+1,k,i+1,off,q,h=>by
  simp only[xz,nth]at h;obtain⟨h1,h2⟩:=Ej h;exact⟨by rw[h1];congr 1;omega,h2⟩
def bP.B7(hX:ct P X){o:Oper}{env:Env}{σ:St}{t:TypeId}{parts:Array (Nat×Operand)}(ho:o.op = .build t parts){i j:TI}{n e:Nat}(hi:X.ti t=some i)(hk:i.kind = .arr n e)(hj:X.ti e=some j)
  {z r:L AV}(hz:i.zero=some (.agg z))(h:qD X (aJ X env) (xz j.size e 0 n) parts.toList z=some r):bP P X o env σ (.agg r) (λσ=>σ) ⟨[],[]⟩:=by
 refine bP.val λcT w g act h1 gL cu de=>?_
 have h':qD X (aJ X cT) (xz j.size e 0 n) parts.toList z=some r:=by
  rw[td _ _ _ (λp hp=>h1 p.2 NG)];exact h
 obtain⟨d,iL,gH,_⟩:=hX.run_underlying (w:=w) hi
 rw[hk]at gH;simp only[ey]at gH;subst gH
 obtain⟨zv,z1,z2,z3⟩:=hX.kL (w:=w) hi hz
 have z4:=z2 g
 simp only[aI]at z4
 obtain⟨zs,rfl,z5,z6⟩:=z4
 obtain⟨us,f1,f2,f3⟩:=BJ hX (ρ:=aJ X cT) (ev:=act.eval) (λx v hx=>cn de cu hx) (λ(m:Nat)=>some (m*j.size,j.size)) (by
  intro m off ft j' e1 e2
  obtain⟨rfl,rfl⟩:=Ej e1
  rw[hj]at e2;simp at e2;subst e2
  simp) (vs:=zs.toArray) h' (by simpa using z5) z6
 refine⟨.agg us,?_,TR⟩
 obtain⟨dst,op,type,pos,after,guard⟩:=o
 simp only at ho;subst ho
 have hb:(Instr.build t (parts.map λ(i,x)=>(i,act.eval x))).run P w = .ok (.agg us) w:=by
  simp only[Instr.build,Sem.run_bind,z1,Result.andThen_ok,iL,Value.cells,hX.run_sizeOf hj]
  simp only[aaP]
  rw[f1];rfl
 simp only[execOp,Sem.run_bind]
 have:(Array.map (λx=>(x.fst,act.eval x.snd)) parts)=parts.map λ(i,x)=>(i,act.eval x):=rfl
 simp only[this,hb,Result.andThen_ok,Sem.run_pure]
def bP.B8(hX:ct P X){o:Oper}{env:Env}{σ:St}{t:TypeId}{x ix:Operand}(ho:o.op = .index t x ix){i j:TI}{n e:Nat}(hi:X.ti t=some i)(hk:i.kind = .arr n e)(hj:X.ti e=some j)
  {cs rest:L AV}(hx:aJ X env x=some (.agg cs)){ia:AV}(hz:aJ X env ix=some ia){m:Nat}(hm:asNat ia=some m)(hmn:Nat.blt m n=true)(hd:fX (m*j.size) cs=some rest){v:AV}(hv:vv j rest=some v) :
  bP P X o env σ v (λσ=>σ) ⟨[],[]⟩:=by
 refine bP.val λcT w g act h1 gL cu de=>?_
 have hx':aJ X cT x=some (.agg cs):=by rw[h1 x nu];exact hx
 have WT:aJ X cT ix=some ia:=by rw[h1 ix nu];exact hz
 have rx:=cn (a:=act) de cu hx'
 have rz:=cn (a:=act) de cu WT
 simp only[aI,Rel]at rx
 obtain⟨vs,ex,r1,r2⟩:=rx
 obtain⟨k,rz⟩:=ux hm rz
 obtain⟨d,iL,gH,_⟩:=hX.run_underlying (w:=w) hi
 rw[hk]at gH;simp only[ey]at gH;subst gH
 obtain⟨u,u1,u2⟩:=BK (P:=P) (w:=w) (vs:=vs.toArray) hX hj (.inl ⟨cs,rest,by simpa using r1,r2,hd,hv⟩)
 refine⟨u,?_,u2⟩
 have hlt:m<n:=by simpa[ach]using hmn
 obtain⟨dst,op,type,pos,after,guard⟩:=o
 simp only at ho;subst ho
 simp[execOp,ex,rz,Instr.index,asIntOf,iL,hlt,hX.run_sizeOf hj,u1]
end
section
variable {P : Program}{X : Ctx}{ops : Array Oper}{o : Oper}{rest : L Oper}{env : Env}{acc : L Fp}{Q : Env -> St -> L Fp -> Prop}{σ : St}
def ah.Ws(hX:ct P X)(kn:L Nat)(V:simple o.op=true){acc:L Fp}{K:L Oper}{env':Env}{Y:L Fp}
  (h:DV X ops.toList σ.boxes kn 0 (o::rest) env acc = .at K env' Y)(k:ah P X ops K env' σ Y Q):ah P X ops (o::rest) env σ acc Q:=ah.JR hX 0 kn h k
def ah.oq{j d:Nat}{Y b:Bool}(p:o.guard=some (j,Y))(V:oH ops j=some d)(A:ak d env=some (.c (.bool b)))(D:b=true)
  (h1:b=true->ah P X ops (o::rest) env σ acc Q):ah P X ops (o::rest) env σ acc Q:=h1 D
def ah.ou{j d:Nat}{Y b:Bool}(p:o.guard=some (j,Y))(V:oH ops j=some d)(A:ak d env=some (.c (.bool b)))(D:b=false)
  (h1:b=false->ah P X ops (o::rest) env σ acc Q):ah P X ops (o::rest) env σ acc Q:=h1 D
def ah.concat(hX:ct P X)(kn:L Nat)(hg:cS ops.toList kn env o=some true){t yt:TypeId}{x y:Operand}(ho:o.op = .binOp .add t x y yt){d:Nat}(hd:o.dst=some d){a b:L UInt8}
  (hx:aJ X env x=some (.c (.str a)))(hy:aJ X env y=some (.c (.str b)))(hl:a.length+b.length<=9223372036854775807)
  (k:ah P X ops rest ((d,.c (.str (a++b)))::env) σ (⟨[],[]⟩::acc) Q):ah P X ops (o::rest) env σ acc Q :=
 ah.step (dg hg) (bP.concat hX ho hx hy hl) (gA.id _) vF
def ah.toStr(hX:ct P X)(kn:L Nat)(p:cS ops.toList kn env o=some true){s t:TypeId}{x:Operand}(Y:o.op = .convert s t x){d:Nat}(W:o.dst=some d){i j k:TI}{e:Nat}(K:X.ti s=some i)(D:i.kind = .slice e)(S:X.ti e=some k)(V:k.kind = .int .u8)
  (T:X.ti t=some j)(U:j.kind = .str){a:AV}(I:aJ X env x=some a){q:Nat}{rows:L CV}(E:rowsOf a=some (q,rows)){l:L UInt8}(J:rows=cB l)(hq:fH q 1 rows=true)
  (k:ah P X ops rest ((d,.c (.str l))::env) σ (⟨[],[]⟩::acc) Q):ah P X ops (o::rest) env σ acc Q :=
 ah.step (dg p) (bP.toStr hX Y K D S V T U I E J hq) (gA.id _) (by rw[W];exact k)
def ah.B7(hX:ct P X)(kn:L Nat)(p:cS ops.toList kn env o=some true){t:TypeId}{Y:Array (Nat×Operand)}(W:o.op = .build t Y){d:Nat}(V:o.dst=some d){i j:TI}{n e:Nat}(K:X.ti t=some i)(D:i.kind = .arr n e)(T:X.ti e=some j)
  {z r:L AV}(q:i.zero=some (.agg z))(h:qD X (aJ X env) (xz j.size e 0 n) Y.toList z=some r)
  (k:ah P X ops rest ((d,.agg r)::env) σ (⟨[],[]⟩::acc) Q):ah P X ops (o::rest) env σ acc Q :=
 ah.step (dg p) (bP.B7 hX W K D T q h) (gA.id _) Yi
def ah.B8(hX:ct P X)(kn:L Nat)(p:cS ops.toList kn env o=some true){t:TypeId}{x S:Operand}(V:o.op = .index t x S){d:Nat}(U:o.dst=some d){i j:TI}{n e:Nat}(q:X.ti t=some i)(D:i.kind = .arr n e)(T:X.ti e=some j)
  {cs K:L AV}(I:aJ X env x=some (.agg cs)){W:AV}(O:aJ X env S=some W){m:Nat}(N:asNat W=some m)(Y:Nat.blt m n=true)(M:fX (m*j.size) cs=some K){v:AV}(B:vv j K=some v)
  (k:ah P X ops rest ((d,v)::env) σ (⟨[],[]⟩::acc) Q):ah P X ops (o::rest) env σ acc Q :=
 ah.step (dg p) (bP.B8 hX V q D T I O N Y M B) (gA.id _) (by rw[U];exact k)
def ah.kF(hX:ct P X)(kn:L Nat)(p:cS ops.toList kn env o=some true){t:TypeId}{x S:Operand}(Y:o.op = .index t x S){d:Nat}(W:o.dst=some d){i:TI}(K:X.ti t=some i)(D:i.kind = .str)
  {s:L UInt8}(I:aJ X env x=some (.c (.str s))){k:IntKind}{z:Int}(V:aJ X env S=some (.c (.int k z))){m:Nat}(U:z=m){b:UInt8}(A:s[m]?=some b)
  (k:ah P X ops rest ((d,.c (.int .u8 b.toNat))::env) σ (⟨[],[]⟩::acc) Q):ah P X ops (o::rest) env σ acc Q:=by
 subst U;refine ah.look hX kn p W ?_ (by rw[Y];rfl) k;rw[Y];have T:∀q:IntKind,asNat (.c (.int q (m:Int)))=some m:=λ_=>rfl;simp only[gl,K,I,V,T,D,qf,A]
def ah.B9(hX:ct P X)(kn:L Nat)(hg:cS ops.toList kn env o=some true){t:TypeId}{x:Operand}{lo hi':Option Operand}(ho:o.op = .slice t x lo hi' none){d:Nat}(hd:o.dst=some d){i:TI}(hi:X.ti t=some i)(hk:i.kind = .str)
  {s:L UInt8}(hx:aJ X env x=some (.c (.str s))){l h:Option Nat}(hl:bound (aJ X env) lo=some l)(hh:bound (aJ X env) hi'=some h)(h1:h.getD s.length<=s.length)(h2:l.getD 0<=h.getD s.length)
  (k:ah P X ops rest ((d,.c (.str ((s.take (h.getD s.length)).drop (l.getD 0))))::env) σ (⟨[],[]⟩::acc) Q):ah P X ops (o::rest) env σ acc Q:=by
 refine ah.look hX kn hg hd ?_ (by rw[ho];rfl) k
 rw[ho]
 have hb:bound (aJ X env) none=some none:=rfl
 simp only[gl,hi,hx,hl,hh,hb,hk,yF]
 cases h with
 |none =>
  cases l with
  |none=>simp
  |some l=>simp at h2 ⊢;simp[rR h2]
 |some h =>
  simp at h1 h2 ⊢
  cases l with
  |none=>simp[wm h1]
  |some l =>
   simp at h2
   simp[wm h1,rR (l:=s.take h) (n:=l) ot]
def ah.sliceFrom(hX:ct P X)(kn:L Nat)(p:cS ops.toList kn env o=some true){t:TypeId}{x:Operand}{H:Operand}(Y:o.op = .slice t x (some H) none none){d:Nat}(W:o.dst=some d){i j:TI}{e:Nat}(K:X.ti t=some i)(D:i.kind = .slice e)(T:X.ti e=some j)
  {s:Nat}{rows:L CV}(I:aJ X env x=some (.c (.sl s rows)))(V:Nat.beq s j.size=true){k:IntKind}{z:Int}(U:aJ X env H=some (.c (.int k z))){m:Nat}(S:z=m)(h1:m<=rows.length)
  (k:ah P X ops rest ((d,.c (.sl s (rows.drop m)))::env) σ (⟨[],[]⟩::acc) Q):ah P X ops (o::rest) env σ acc Q:=by
 subst S;refine ah.look hX kn p W ?_ (by rw[Y];rfl) k;rw[Y];have O:∀q:IntKind,asNat (.c (.int q (m:Int)))=some m:=λ_=>rfl;simp only[gl,K,I,bound,U,O,D,T,yF,V,rR h1]
end
end Go.cM
namespace Go.cM
abbrev ag(rows:L CV):L AV:=(bD rows).map AV.c
def Me{w : World}{g : Gh}{σ : St}(h : Inv w g σ) : Inv w.drew g σ /\ gy w g σ w.drew g σ :=
  ⟨⟨h.nF, λk cs e => by
      obtain ⟨b, M, B, J, Y⟩ := h.box k cs e;exact ⟨b, M, B, J, cg.of_same (w := w) (w' := w.drew) (λo => ⟨Z, Z⟩) Y⟩,
    h.fo, h.tok, h.ga, h.used, h.room⟩,
   ⟨Z, Z, Z, aav _, λ_ _ _ => Z, λ_ _ _ _ => ⟨Z, Z⟩, iJ.le.refl _, λ_ _ _ h => .inl h, λk cs b h1 h2 => .inr ⟨k, cs, h1, h2⟩,
    λk n b H K h1 h2 => .inr ⟨k, n, H, K, h1, h2, aav _, aav _⟩, λ_ _ h => ⟨h, Z, Z⟩⟩⟩
def nP{g:Gh}:∀{cs:L CV}{vs:L Value},bI g.G cs vs->bC g (cs.map AV.c) vs
 |[],vs,h=>by simp only[bI]at h;subst h;simp[bC]
 |c::cs,vs,h=>by
  simp only[bI]at h
  obtain⟨u,us,rfl,h1,h2⟩:=h
  simp only[Zl,bC]
  exact⟨u,us,Z,Ui,nP h2⟩
def qN:∀(cs:L CV),(cs.map AV.c).all AV.one=cs.all CV.one
 |[]=>rfl
 |c::cs=>by simp only[Zl,aaE,qN cs,AV.one]
section
variable {P : Program}{X : Ctx}
def vn(w:World)(s:Nat)(base:Option Addr)(D:Nat):(Builtin.firstCells s 0 (.slice base 0 D)).run P w = .ok #[] w:=by
 cases base with
 |none=>simp[Builtin.firstCells]
 |some a=>exact run_firstCells_some w s 0 a 0 D [] ek (by intro j v h;simp at h)
set_option maxHeartbeats 1600000 in
def bP.uq(hX:ct P X){o:Oper}{env:Env}{σ:St}{args:Array Operand}{ats:Array TypeId}(ho:o.op = .call {callee := .builtin .append,args:=args,argTypes:=ats})
  {xs y:Operand}(hargs:args.toList=[xs,y]){t t1:Nat}(yO:ats.toList=[t,t1]){d:Nat}(iL:d<1000000)
  {i j i1:TI}{e:Nat}(hi:X.ti t=some i)(hk:i.kind = .slice e)(hj:X.ti e=some j){za:AV}(hz:j.zero=some za)(hi1:X.ti t1=some i1)(pg:ke i1.kind=true)
  {s:Nat}{rows:L CV}(ha:aJ X env xs=some (.own .exact s rows)){b:AV}(hb:aJ X env y=some b){s1:Nat}{bV:L CV}(hsrc:lO b=some (s1,bV))
  (hs:fH s j.size rows=true)(qu:fH s1 j.size bV=true)(hne:bV≠[])(hu:mem d σ.used=false)(hby:Nat.ble 1 j.bytes=true)(hbound:(rows.length+bV.length)*j.bytes<=140737488355328) :
  bP P X o env σ (.fZ d 0 j.size (rows++bV).length) (λσ=>σ.dS d (ag (rows++bV))) ⟨[],[d]⟩:=by
 intro cT σ1 w g act next Q h1 h2 hinv cu de hnext
 have oS:∀x∈args.toList,x∈o.op.operands.toList:=by
  intro x hx
  rw[ho];simp only[Op.operands,Call.operands,aaD,Y8];exact .inr hx
 have vX:aJ X cT xs=some (.own .exact s rows):=by rw[h1 xs (oS xs WI)];exact ha
 have hb':aJ X cT y=some b:=by rw[h1 y (oS y WI)];exact hb
 have rA:=cn (a:=act) de cu vX
 have rB:=cn (a:=act) de cu hb'
 simp only[aI]at rA
 obtain⟨base,len,cap,ex,hlen,hcap,fF,hown⟩:=rA
 obtain⟨_,n5⟩:=oR (P:=P) (w:=w) hinv.nF hsrc qu rB
 obtain⟨⟨news',T0,V5,W0,W2⟩,_⟩:=oR (P:=P) (w:=w.drew) (λb o v h=>by rw[World.cell?_drew];exact hinv.nF b o v h) hsrc qu rB
 obtain⟨olds,m1,m2,m3,m4⟩:=uD (P:=P) (w:=w.drew) (g:=g) (λb o v h=>by rw[World.cell?_drew];exact hinv.nF b o v h) fF hs len cap hlen
 obtain⟨dt,_,v8,Dp⟩:=hX.run_underlying (w:=w) hi
 rw[hk]at v8;simp only[ey]at v8;subst v8
 obtain⟨d1,Ay,Ek⟩:=xm hX hi1 WY w
 obtain⟨inf,R5,Kp,W3,W4,_,Zs⟩:=hX.ti e j hj
 obtain⟨z,z1,_,z3⟩:=W4 za hz
 have NN:news'.length=bV.length*j.size:=by rw[<- (bI.get T0).1,cZ V5]
 have Nx:olds.length=rows.length*j.size:=by rw[<- (bI.get m1).1,cZ m2]
 have v9:args = #[xs,y]:=by cases args;simp_all
 have BV:ats = #[t,t1]:=by cases ats;simp_all
 have Qn:=ZD hby
 have hsmall:rows.length+bV.length<=140737488355328:=aaG (acd _ Qn) hbound
 have hpos:0<bV.length:=List.length_pos_iff.2 hne
 simp only[oD]at hown
 have Qo:∀(v:Value)(w':World),(Builtin.append_ #[t,t1] o.type #[.slice base len cap,act.eval y]).run P w = .ok v w'->(execOp act.eval o).run P w = .ok (.value v) w':=by
  intro v w' hr
  obtain⟨dst,op,type,pos,after,guard⟩:=o
  simp only at ho hr;subst ho
  subst v9 BV
  simp[execOp,resolve,invoke,builtin,ex,hr,Result.andThen]
 unfold Oper.wp
 have hg:cap<len+bV.length:=by omega
 have hbd:(len+bV.length)*inf.bytes<=140737488355328:=by rw[W3,hlen];exact hbound
 rw[Qo _ _ (mF Dp Ay Ek R5 z1 n5 (by rw[Kp];exact W2) (by rw[Kp];exact m4) hg bn hbd)]
 rw[Oper.upon_value]
 have hge:=grownCap_ge w (len+bV.length) cap e
 generalize grownCap w (len+bV.length) cap e=nc at hge ⊢
 have sI:(olds.toArray++news'.toArray++Builtin.zeroCells z.cells (nc-(len+bV.length))).size=nc*j.size:=by
  simp only[abd,aaR,size_zeroCells,Nx,NN,z3,<- hlen,<- abp]
  congr 1;omega
 have Qr:d ∉ σ1.used:=λh=>cQ hu ((h2 d (.inr ek)).2.2.1 h)
 obtain⟨e1,e2⟩:=Me hinv
 have fJ:bI g.G (bD (rows++bV)) (olds++news'):=by rw[dr];exact eO m1 T0
 have hfl:(bD (rows++bV)).length=(olds++news').length:=(bI.get fJ).1
 have hrc:bC g (ag (rows++bV)) ((olds.toArray++news'.toArray++Builtin.zeroCells z.cells (nc-(len+bV.length))).toList.take (ag (rows++bV)).length):=by
  rw[aap,hfl]
  simp only[aaD]
  rw[List.take_left']
  ·exact nP fJ
  ·simp
 have hone:(ag (rows++bV)).all AV.one=true:=by
  rw[qN,dr,abm,m3,W0];rfl
 obtain⟨i1,i2,i3,i4⟩:=Fv (t:=e) e1 Qr iL hrc hone
 refine hnext _ _ _ ?_ i1 (e2.trans i2) i3
 simp only[aI]
 refine⟨w.heap.size,nc,some ⟨w.heap.size,0,none⟩,ek,?_,?_,?_,.inr Z⟩
 ·simp[hlen]
 ·simp_all
 ·simp_all
end
end Go.cM
namespace Go.cM
def St.eA(σ:St)(M:Nat):St:=⟨Aw M σ.boxes,σ.toks,σ.used⟩
def Kw{w:World}{g:Gh}{σ:St}(h:Inv w g σ)(M:Nat):Inv w g (σ.eA M)/\gy w g σ w g (σ.eA M):=by
 have p:∀k cs,ak k (σ.eA M).boxes=some cs->ak k σ.boxes=some cs:=by
  intro k cs e;simp only[St.eA,jl]at e;split at e
  ·simp at e
  ·exact e
 refine⟨⟨h.nF,λk cs e=>h.box k cs (p k cs e),λk k' cs P b e e'=>h.fo k k' cs P b (p k cs e) (p k' P e'),?_,h.ga,h.used,λk cs b e=>h.room k cs b (p k cs e)⟩,
  ⟨Z,Z,Z,aav _,λ_ _ _=>rfl,λ_ _ _ _=>⟨Z,Z⟩,iJ.le.refl _,λ_ _ _ h => .inl h,λk cs b h1 h2 => .inr ⟨k,cs,p k cs h1,h2⟩,
   λk n b H K h1 h2 => .inr ⟨k,n,H,K,h1,h2,aav _,aav _⟩,λk _ e=>?_⟩⟩
 ·intro k n e;obtain⟨B,h1,h2⟩:=h.tok k n e;refine⟨B,h1,λb H K E=>?_⟩;obtain⟨Y,W,V⟩:=h2 b H K E;exact⟨Y,W,λk' cs e'=>V k' cs (p k' cs e')⟩
 ·cases A:ak k (σ.eA M).boxes with
  |none=>exact absurd A e
  |some cs=>exact⟨by rw[p k cs A];simp,Z,Z⟩
def SZ{w w':World}{g:Gh}{σ:St}{key d b:Nat}{cells cells':L AV}(hinv:Inv w g σ)(hk:ak key σ.boxes=some cells)(hb:g.box key=some b)(hd:d ∉ σ.used)(U3:d<1000000)
  (r2:w'.heap.size=w.heap.size/\w'.os=w.os/\w'.tape=w.tape/\w'.output=w.output/\∀b',b'≠b->w'.heap[b']?=w.heap[b']?)
  (r3:∀b' o',b'≠b->w'.cell? ⟨b',o',none⟩=w.cell? ⟨b',o',none⟩)(r4:∀b' o',w'.frozen? ⟨b',o',none⟩=w.frozen? ⟨b',o',none⟩)
  (hc:cg w' g b 0 cells')(hr:∀o,o<g.room key->∃u,w'.cell? ⟨b,o,none⟩=some u) :
  let g':Gh:=⟨g.G,λk=>if k=d then some b else g.box k,g.tok,λk=>if k=d then g.room key else g.room k⟩
  let σ':St:=(σ.dS d cells').eA key
  Inv w' g' σ'/\gy w g σ w' g' σ'/\g.le g':=by
 intro g' σ'
 obtain⟨b0,hb0,WQ,V1,hbc⟩:=hinv.box key cells hk
 rw[hb]at hb0;cases hb0
 have Qf:g.box d=none:=by
  cases h:g.box d with
  |none=>rfl
  |some x=>exact absurd (hinv.used d (.inl ri)) hd
 have hkd:key≠d:=by rintro rfl;rw[hb]at Qf;simp at Qf
 have hle:g.le g':=by
  refine⟨iJ.le.refl _,λk x h=>?_,λk x h=>?_,λk hw fI h=>⟨hw,fI,h,aav _,λ_=>rfl⟩⟩
  ·grind
  ·grind
 have jB:∀k cs,ak k σ'.boxes=some cs->(k=d/\cs=cells')\/(k≠d/\k≠key/\ak k σ.boxes=some cs):=by
  intro k cs e
  simp only[σ',St.eA,St.dS,jl,an]at e
  split at e
  ·simp at e
  ·grind
 have th:∀k cs b',k≠key->ak k σ.boxes=some cs->g.box k=some b'->b'≠b:=by
  rintro k cs b' h1 h2 h3 rfl
  exact h1 (hinv.fo k key cs cells _ h2 hk h3 hb)
 refine⟨⟨?_,?_,?_,?_,hinv.ga,?_,?_⟩,⟨r2.2.1,r2.2.2.1,r2.2.2.2.1,bn,λb' hb' hno=>r2.2.2.2.2 b' (by rintro rfl;exact hno 0 (.inl ⟨key,cells,hk,hb⟩)),λb' o hb' hno=>⟨r3 b' o (by rintro rfl;exact hno (.inl ⟨key,cells,hk,hb⟩)),r4 b' o⟩,iJ.le.refl _,λ_ _ _ h => .inl h,?_,?_,?_⟩,hle⟩
 ·intro b' o v h
  rw[r3 b' o (by rintro rfl;rw[V1]at h;simp at h)]
  exact hinv.nF b' o v h
 ·intro k cs e
  rcases jB k cs e with ⟨rfl,rfl⟩|⟨h1,h2,h3⟩
  ·exact⟨b,XM,bn,V1,hc.mono hle⟩
  ·obtain⟨b',f1,f2,f3,f4⟩:=hinv.box k cs h3
   have yd:=th k cs b' h2 h3 f1
   exact⟨b',by simp[g',h1,f1],bn,f3,(cg.of_same (λo=>⟨r3 b' o yd,r4 b' o⟩) f4).mono hle⟩
 ·intro k k' cs cs' b' e e' e1 e2
  simp only[g']at e1 e2
  rcases jB k cs e with ⟨rfl,rfl⟩|⟨h1,h2,h3⟩
  ·grind
  ·rw[if_neg h1]at e1
   rcases jB k' cs' e' with ⟨rfl,rfl⟩|⟨xq,tu,V6⟩
   ·grind
   ·rw[if_neg xq]at e2
    exact hinv.fo k k' cs cs' b' h3 V6 e1 e2
 ·intro k n e
  obtain⟨fI,e1,e2⟩:=hinv.tok k n e
  refine⟨fI,e1,λb' lo hi hr'=>?_⟩
  obtain⟨e3,e4,e5⟩:=e2 b' lo hi hr'
  have yd:b'≠b:=by rintro rfl;exact e5 key cells hk hb
  refine⟨bn,λo h1 h2=>?_,λk' cs e'=>?_⟩
  ·grind
  ·grind
 ·intro k e
  show k∈d::σ.used
  by_cases hkk:k=d
  ·simp[hkk]
  ·simp only[ZI];right;apply hinv.used k;simpa[g',hkk]using e
 ·intro k cs b' e e1 o
  simp only[g']at e1 ⊢
  rcases jB k cs e with ⟨rfl,rfl⟩|⟨h1,h2,h3⟩
  ·rw[if_pos rfl]at e1;rw[if_pos rfl];simp at e1;subst e1
   exact⟨hr o,by rw[r4];exact(hinv.room key cells _ hk hb o).2⟩
  ·rw[if_neg h1]at e1;rw[if_neg h1]
   have yd:=th k cs b' h2 h3 e1
   obtain⟨f1,f2⟩:=hinv.room k cs b' h3 e1 o
   exact⟨λho=>(f1 ho).imp λu hu=>by rw[r3 b' o yd];exact hu,by rw[r4];exact f2⟩
 ·grind
 ·exact YM
 ·intro k vr e
  cases hc0:ak k σ'.boxes with
  |none=>exact absurd hc0 e
  |some cs =>
   rcases jB k cs hc0 with ⟨rfl,rfl⟩|⟨h1,h2,h3⟩
   ·omega
   ·grind
def nr{w:World}{g:Gh}{b:Nat}:∀{cs:L CV}{tail:L AV}{o:Nat},cg w g b o (cs.map AV.c++tail)->∃vs:L Value,bI g.G cs vs/\(∀(j:Nat) u,vs[j]?=some u->w.cell? ⟨b,o+j,none⟩=some u)/\cs.all CV.one=true
 |[],_,_,_=>⟨[],by simp[bI],λj u h=>by simp at h,Z⟩
 |c::cs,tail,o,h=>by
  simp only[Zl,Zy]at h;obtain⟨⟨u,h1,h2,K⟩,_,h4⟩:=h;obtain⟨vs,S,M,P⟩:=nr h4;refine⟨u::vs,by simp only[bI];exact⟨u,vs,Z,KU,S⟩,λj v T=>?_,by simp only[aaE,P,abe];simpa only[AV.one]using K⟩;cases j with
  |zero=>simp at T;subst T;exact h1
  |succ j =>
   simp at T;have:=M j v T;rwa[show o+1+j=o+(j+1)from by omega]at this
def HY(d M:Nat)(cells:L AV)(Y:d≠M):gA (λσ=>(σ.dS d cells).eA M) ⟨[],[d,M]⟩ where
 out:=λσ k D=>by
  simp at D;refine⟨?_,Z,?_⟩
  ·simp only[St.eA,St.dS,jl,an];rw[if_neg D.2,if_neg D.1]
  ·simp only[St.eA,St.dS,ZI];exact⟨λh=>h.resolve_left D.1,.inr⟩
 same:=λσ N h k D=>by
  obtain⟨h1,h2,K⟩:=h k (.inr D);refine⟨?_,h2,?_⟩
  ·simp only[St.eA,St.dS,jl,an];split
   ·rfl
   ·simp_all
  ·simp only[St.eA,St.dS,ZI,K]
section
variable {P : Program}{X : Ctx}
set_option maxHeartbeats 1600000 in
def bP.lQ(hX:ct P X){o:Oper}{env:Env}{σ:St}{args:Array Operand}{ats:Array TypeId}(ho:o.op = .call {callee := .builtin .append,args:=args,argTypes:=ats})
  {xs y:Operand}(hargs:args.toList=[xs,y]){t t1:Nat}(yO:ats.toList=[t,t1]){d:Nat}(iL:d<1000000)
  {i j i1:TI}{e:Nat}(hi:X.ti t=some i)(hk:i.kind = .slice e)(hj:X.ti e=some j){za:AV}(hz:j.zero=some za)(hi1:X.ti t1=some i1)(pg:ke i1.kind=true)
  {key n:Nat}(ha:aJ X env xs=some (.fZ key 0 j.size n)){cells tail:L AV}{rows:L CV}(ym:ak key σ.boxes=some cells)(ie:cells=ag rows++tail)(hn:n=rows.length)(hfl:(bD rows).length=n*j.size)
  {b:AV}(hb:aJ X env y=some b){s1:Nat}{bV:L CV}(hsrc:lO b=some (s1,bV))
  (qu:fH s1 j.size bV=true)(hu:mem d σ.used=false)(hby:Nat.ble 1 j.bytes=true)(hbound:(rows.length+bV.length)*j.bytes<=140737488355328) :
  bP P X o env σ (.fZ d 0 j.size (rows++bV).length) (λσ=>(σ.dS d (ag (rows++bV))).eA key) ⟨[],[d,key]⟩:=by
 intro cT σ1 w g act next Q h1 h2 hinv cu de hnext
 have oS:∀x∈args.toList,x∈o.op.operands.toList:=by
  intro x hx
  rw[ho];simp only[Op.operands,Call.operands,aaD,Y8];exact .inr hx
 have vX:aJ X cT xs=some (.fZ key 0 j.size n):=by rw[h1 xs (oS xs WI)];exact ha
 have hb':aJ X cT y=some b:=by rw[h1 y (oS y WI)];exact hb
 have Fx:ak key σ1.boxes=some cells:=by rw[(h2 key (.inr ek)).1];exact ym
 have rA:=cn (a:=act) de cu vX
 have rB:=cn (a:=act) de cu hb'
 simp only[aI]at rA
 obtain⟨bk,cap,oo,GP,ex,hcap,Vg,S0⟩:=rA
 obtain⟨bk',Xb,WQ,V1,hbc⟩:=hinv.box key cells Fx
 rw[GP]at Xb;cases Xb
 obtain⟨⟨news,n1,n2,n3,n4⟩,n5⟩:=oR (P:=P) (w:=w) hinv.nF hsrc qu rB
 obtain⟨⟨news',T0,V5,W0,W2⟩,_⟩:=oR (P:=P) (w:=w.drew) (λb o v h=>by rw[World.cell?_drew];exact hinv.nF b o v h) hsrc qu rB
 have Xc:=hbc
 rw[ie]at Xc
 obtain⟨olds,m1,mv,m3⟩:=nr Xc
 obtain⟨dt,_,v8,Dp⟩:=hX.run_underlying (w:=w) hi
 rw[hk]at v8;simp only[ey]at v8;subst v8
 obtain⟨d1,Ay,Ek⟩:=xm hX hi1 WY w
 obtain⟨inf,R5,Kp,W3,W4,_,Zs⟩:=hX.ti e j hj
 obtain⟨z,z1,_,z3⟩:=W4 za hz
 have L9:news.length=bV.length*j.size:=by rw[<- (bI.get n1).1,cZ n2]
 have NN:news'.length=bV.length*j.size:=by rw[<- (bI.get T0).1,cZ V5]
 have Nx:olds.length=n*j.size:=by rw[<- (bI.get m1).1,hfl]
 have m4:(Builtin.firstCells j.size n (.slice oo n cap)).run P w.drew = .ok olds.toArray w.drew:=by
  rcases S0 with h0|rfl
  ·have h00:n=0:=by omega
   have:olds.length=0:=by rw[Nx,h00];simp
   rw[List.length_eq_zero_iff.1 this,h00]
   exact vn w.drew _ _ _
  ·refine run_firstCells_some w.drew j.size n _ n cap olds Nx ?_
   intro q v hq;rw[Addr.add_lit,World.cell?_drew]
   exact mv q v hq
 have v9:args = #[xs,y]:=by cases args;simp_all
 have BV:ats = #[t,t1]:=by cases ats;simp_all
 have Qn:=ZD hby
 have hsmall:rows.length+bV.length<=140737488355328:=aaG (acd _ Qn) hbound
 have Qr:d ∉ σ1.used:=λh=>cQ hu ((h2 d (.inr ek)).2.2.1 h)
 have Yw:key≠d:=by
  rintro rfl
  exact Qr (hinv.used key (.inl (by rw[GP];simp)))
 have hone:(ag (rows++bV)).all AV.one=true:=by
  rw[qN,dr,abm,m3,W0];rfl
 have Qo:∀(v:Value)(w':World),(Builtin.append_ #[t,t1] o.type #[.slice oo n cap,act.eval y]).run P w = .ok v w'->(execOp act.eval o).run P w = .ok (.value v) w':=by
  intro v w' hr
  obtain⟨dst,op,type,pos,after,guard⟩:=o
  simp only at ho hr;subst ho
  subst v9 BV
  simp[execOp,resolve,invoke,builtin,ex,hr,Result.andThen]
 unfold Oper.wp
 by_cases hroom:n+bV.length<=cap
 ·have hmul:n*j.size+news.length<=cap*j.size:=by
   rw[L9,<- abp];exact abk _ hroom
  obtain⟨w',r1,r2,r3,r4,r5⟩:=lM (P:=P) (w:=w) bk news (n*j.size) 0 w (lG n1 n3) (by
   intro q hq
   simp only[aaL]
   exact hinv.TV key cells bk Fx GP (n*j.size+q) bn)
  simp only[aaL]at r3 r5
  rw[Qo _ w' (j9 (w':=w') Dp Ay Ek R5 n5 XQ hroom (by
   rcases S0 with h0|rfl
   ·have:news.length=0:=by rw[L9,show bV.length=0 from by omega];simp
    rw[List.length_eq_zero_iff.1 this]at r1 ⊢
    cases oo
    ·simpa[storeCells,eq_comm]using r1
    ·simpa[storeCells]using r1
   ·simp only[Addr.add_lit,Kp]
    rw[ZG];exact r1))]
  rw[Oper.upon_value]
  have fJ:bI g.G (bD (rows++bV)) (olds++news):=by rw[dr];exact eO m1 n1
  have WE:cg w' g bk 0 (ag (rows++bV)):=by
   apply cg.jo
   intro q c hq
   obtain⟨l1,l2⟩:=bC.get (nP fJ)
   obtain⟨u,e1,e2⟩:=l2 q c hq
   rw[abc]at hone
   simp only[ZG]
   refine⟨⟨u,?_,e2,hone c (aaA hq)⟩,?_⟩
   ·by_cases U8:q<olds.length
    ·rw[abU U8]at e1
     rw[r3 bk q (by right;left;omega)]
     have:=mv q u e1
     rwa[ZG]at this
    ·rw[abP bn]at e1
     have:=r5 (q-olds.length) u e1
     rwa[show n*j.size+(q-olds.length)=q from by omega]at this
   ·rw[r4]
    have ZA:q<(olds++news).length:=(List.getElem?_eq_some_iff.1 e1).1
    rw[aay]at ZA
    exact(hinv.room key cells bk Fx GP q).2
  obtain⟨i1,i2,i3⟩:=SZ hinv Fx GP Qr iL r2 (λb' o' h=>r3 b' o' (.inl h)) r4 WE (by
   intro q hq
   obtain⟨⟨u,q1⟩,_⟩:=hinv.TV key cells bk Fx GP q hq
   by_cases hin:n*j.size<=q/\q<n*j.size+news.length
   ·obtain⟨v,hv⟩:∃v,news[q-n*j.size]?=some v:=⟨_,Zn bn⟩
    have:=r5 _ v hv
    rw[show n*j.size+(q-n*j.size)=q from by omega]at this
    exact⟨v,this⟩
   ·exact⟨u,by rw[r3 bk q (by right;omega)];exact q1⟩)
  refine hnext _ _ _ ?_ i1 i2 i3
  simp only[aI]
  refine⟨bk,cap,oo,ek,?_,?_,?_,S0⟩
  ·simp[hn]
  ·simp only[aay];omega
  ·simp only[if_pos];exact Vg
 ·have hg:cap<n+bV.length:=by omega
  have hbd:(n+bV.length)*inf.bytes<=140737488355328:=by rw[W3,hn];exact hbound
  rw[Qo _ _ (mF Dp Ay Ek R5 z1 n5 (by rw[Kp];exact W2) (by rw[Kp];exact m4) hg bn hbd)]
  rw[Oper.upon_value]
  have hge:=grownCap_ge w (n+bV.length) cap e
  generalize grownCap w (n+bV.length) cap e=nc at hge ⊢
  have sI:(olds.toArray++news'.toArray++Builtin.zeroCells z.cells (nc-(n+bV.length))).size=nc*j.size:=by
   simp only[abd,aaR,size_zeroCells,Nx,NN,z3,<- abp]
   congr 1;omega
  obtain⟨e1,e2⟩:=Me hinv
  have fJ:bI g.G (bD (rows++bV)) (olds++news'):=by rw[dr];exact eO m1 T0
  have ZB:(bD (rows++bV)).length=(olds++news').length:=(bI.get fJ).1
  have hrc:bC g (ag (rows++bV)) ((olds.toArray++news'.toArray++Builtin.zeroCells z.cells (nc-(n+bV.length))).toList.take (ag (rows++bV)).length):=by
   rw[aap,ZB]
   simp only[aaD]
   rw[List.take_left']
   ·exact nP fJ
   ·simp
  obtain⟨i1,i2,i3,i4⟩:=Fv (t:=e) e1 Qr iL hrc hone
  obtain⟨i5,i6⟩:=Kw i1 key
  refine hnext _ _ _ ?_ i5 ((e2.trans i2).trans i6) i3
  simp only[aI]
  refine⟨w.heap.size,nc,some ⟨w.heap.size,0,none⟩,ek,?_,?_,?_,.inr Z⟩
  ·simp[hn]
  ·simp only[aay];omega
  ·simp only[if_pos,sI];omega
end
end Go.cM
namespace Go.cM
section
variable {P : Program}{X : Ctx}
def bP.iF(hX:ct P X){o:Oper}{env:Env}{σ:St}{t:TypeId}{x ix:Operand}(ho:o.op = .indexAddr t x ix){i j:TI}{e:Nat}(hi:X.ti t=some i)(hk:i.kind = .slice e)(hj:X.ti e=some j)
  {key off s n:Nat}(ha:aJ X env x=some (.fZ key off s n))(hs:j.size=s){k:IntKind}{z:Int}(hz:aJ X env ix=some (.c (.int k z))){m:Nat}(hm:z=m)(hlt:m<n) :
  bP P X o env σ (.ptr key (off+m*s)) (λσ=>σ) ⟨[],[]⟩:=by
 refine bP.val λcT w g act h1 gL cu de=>?_
 have vX:aJ X cT x=some (.fZ key off s n):=by rw[h1 x nu];exact ha
 have WT:aJ X cT ix=some (.c (.int k z)):=by rw[h1 ix nu];exact hz
 have r1:=cn (a:=act) de cu vX
 simp only[aI]at r1
 obtain⟨b,cap,oo,GP,e1,hcap,_,S0⟩:=r1
 have e4:=zL (cn (a:=act) de cu WT)
 obtain⟨d,iL,gH,_⟩:=hX.run_underlying (w:=w) hi
 rw[hk]at gH;simp only[ey]at gH;subst gH
 have hoff:oo=some ⟨b,off,none⟩:=by rcases S0 with h|h;omega;exact h
 subst hoff
 refine⟨.pointer (some ⟨b,off+m*j.size,none⟩),?_,by simp only[aI];exact⟨b,GP,by rw[hs]⟩⟩
 obtain⟨dst,op,type,pos,after,guard⟩:=o
 simp only at ho;subst ho
 simp[execOp,e1,e4,hm,Instr.indexAt,asIntOf,iL,hlt,hX.run_sizeOf hj,Addr.add_lit]
def bP.sliceB(hX:ct P X){o:Oper}{env:Env}{σ:St}{t:TypeId}{x:Operand}{lo hi':Option Operand}(ho:o.op = .slice t x lo hi' none){i j:TI}{e:Nat}(hi:X.ti t=some i)(hk:i.kind = .slice e)(hj:X.ti e=some j)
  {key off s n:Nat}(ha:aJ X env x=some (.fZ key off s n))(hs:j.size=s){l h:Option Nat}(hl:bound (aJ X env) lo=some l)(hh:bound (aJ X env) hi'=some h)(h1:h.getD n<=n)(h2:l.getD 0<=h.getD n) :
  bP P X o env σ (.fZ key (off+l.getD 0*s) s (h.getD n-l.getD 0)) (λσ=>σ) ⟨[],[]⟩:=by
 refine bP.val λcT w g act hc gL cu de=>?_
 have vX:aJ X cT x=some (.fZ key off s n):=by rw[hc x nu];exact ha
 have hl':bound (aJ X cT) lo=some l:=by
  rw[jL lo (λy hy=>hc y (by rw[ho];subst hy;simp[Op.operands]))];exact hl
 have ZC:bound (aJ X cT) hi'=some h:=by
  rw[jL hi' (λy hy=>hc y (by rw[ho];subst hy;simp[Op.operands]))];exact hh
 have r1:=cn (a:=act) de cu vX
 simp only[aI]at r1
 obtain⟨b,cap,oo,GP,e1,hcap,V7,S0⟩:=r1
 have b1:=ni (g:=g) (ev:=act.eval) (λx v hx=>cn de cu hx) hl'
 have b2:=ni (g:=g) (ev:=act.eval) (λx v hx=>cn de cu hx) ZC
 have hb:∀w,(Instr.sliceBounds true n cap (lo.map act.eval) (hi'.map act.eval) none).run P w = .ok (l.getD 0,h.getD n,cap) w:=by
  intro w
  cases l with
  |none =>
   cases h with
   |none=>exact jx true b2 b1
   |some h=>exact kU true b2 b1 (aaG h1 hcap)
  |some l =>
   cases h with
   |none=>exact jw true b2 b1 JY
   |some h=>exact lK true b2 b1 (aaG h1 hcap) JY
 refine⟨.slice (if cap=l.getD 0 then oo else oo.map (·.add (l.getD 0*j.size))) (h.getD n-l.getD 0) (cap-l.getD 0),?_,?_⟩
 ·obtain⟨dst,op,type,pos,after,guard⟩:=o
  simp only at ho;subst ho
  have:=fY (w:=w) hX hi hk hj (base:=oo) hb
  simp[execOp,e1,this]
 ·simp only[aI]
  generalize l.getD 0=Ll at *
  generalize h.getD n=H at *
  have hmul:off+Ll*s+(cap-Ll)*s=off+cap*s:=by
   rw[acp,<- abp];congr 2;omega
  by_cases ju:cap=Ll
  ·grind
  ·refine⟨b,cap-Ll,oo.map (·.add (Ll*j.size)),GP,by rw[if_neg ju],bn,bn,.inr ?_⟩
   rcases S0 with h0|h0
   ·omega
   ·rw[h0,ace,Addr.add_lit,hs]
end
end Go.cM
namespace Go.cM
def El{G:iJ}{s:Nat}:∀{rows:L CV}{Y:L Value},gK s rows=true->bI G rows Y->bI G (bD rows) (flat s Y)/\(bD rows).all CV.one=true
 |[],Y,_,h=>by simp only[bI]at h;subst h;simp[bD,flat,bI]
 |r::rows,Y,V,h=>by
  simp only[bI]at h;obtain⟨u,us,rfl,h1,h2⟩:=h;obtain⟨T,U,q⟩:=pM (mT V r ek) h1;have W:gK s rows=true:=by
   simp only[gK]at V;split at V
   ·exact V
   ·simp at V
  obtain⟨S,M⟩:=El W h2;exact⟨by simp only[bD,flat];exact eO U S,by simp only[bD,abm,q,M];rfl⟩
section
variable {P : Program}{X : Ctx}{ops : Array Oper}{o : Oper}{rest : L Oper}{env : Env}{acc : L Fp}{Q : Env -> St -> L Fp -> Prop}{bs : L (Nat × L AV)}{ts : L (Nat × Nat)}{us : L Nat}{σ : St}
def ah.iF(hX:ct P X)(kn:L Nat)(hg:cS ops.toList kn env o=some true){t:TypeId}{x ix:Operand}(ho:o.op = .indexAddr t x ix){d:Nat}(hd:o.dst=some d){i j:TI}{e:Nat}(hi:X.ti t=some i)(hk:i.kind = .slice e)(hj:X.ti e=some j)
  {key off s n:Nat}(ha:aJ X env x=some (.fZ key off s n))(hs:j.size=s){k0:IntKind}{z:Int}(hz:aJ X env ix=some (.c (.int k0 z)))(m:Nat)(hm:z=m)(hlt:m<n)
  (k:ah P X ops rest ((d,.ptr key (off+m*s))::env) σ (⟨[],[]⟩::acc) Q):ah P X ops (o::rest) env σ acc Q :=
 ah.step (dg hg) (bP.iF hX ho hi hk hj ha hs hz hm hlt) (gA.id _) vF
def ah.sliceB(hX:ct P X)(kn:L Nat)(p:cS ops.toList kn env o=some true){t:TypeId}{x:Operand}{Y H:Option Operand}(W:o.op = .slice t x Y H none){d:Nat}(V:o.dst=some d){i j:TI}{e:Nat}(K:X.ti t=some i)(D:i.kind = .slice e)(T:X.ti e=some j)
  {M off s n:Nat}(U:aJ X env x=some (.fZ M off s n))(S:j.size=s){l h:Option Nat}(B:bound (aJ X env) Y=some l)(O:bound (aJ X env) H=some h)(h1:h.getD n<=n)(h2:l.getD 0<=h.getD n)
  (k:ah P X ops rest ((d,.fZ M (off+l.getD 0*s) s (h.getD n-l.getD 0))::env) σ (⟨[],[]⟩::acc) Q):ah P X ops (o::rest) env σ acc Q :=
 ah.step (dg p) (bP.sliceB hX W K D T U S B O h1 h2) (gA.id _) Yi
def ah.gh(hX:ct P X)(kn:L Nat)(p:cS ops.toList kn env o=some true){t:TypeId}{x:Operand}(W:o.op = .load t x){d:Nat}(V:o.dst=some d){i:TI}(K:X.ti t=some i){M off:Nat}(I:aJ X env x=some (.ptr M off))
  {cells r:L AV}(A:ak M bs=some cells)(U:fX off cells=some r){v:AV}(B:vv i r=some v)
  (k:ah P X ops rest ((d,v)::env) ⟨bs,ts,us⟩ (⟨[M],[]⟩::acc) Q):ah P X ops (o::rest) env ⟨bs,ts,us⟩ acc Q:=by
 have T:gl X bs (aJ X env) o.op=some v:=by rw[W];simp only[gl,K,I,A,U,B]
 have:=ah.step (Q:=Q) (rest:=rest) (acc:=acc) (dg p) (bP.pure (σ:=⟨bs,ts,us⟩) hX T) (gA.id _);rw[V,W]at this;have Y:kM (aJ X env) (.load t x)=[M]:=by simp only[kM,I]
 rw[Y]at this;exact this k
def ah.uq(hX:ct P X)(kn:L Nat)(p:cS ops.toList kn env o=some true){args:Array Operand}{H:Array TypeId}(K:o.op = .call {callee := .builtin .append,args:=args,argTypes:=H})
  {xs y:Operand}(q:args.toList=[xs,y]){t O:Nat}(I:H.toList=[t,O]){d:Nat}(E:o.dst=some d)(D:Nat.blt d 1000000=true)
  {i j u:TI}{e:Nat}(C:X.ti t=some i)(B:i.kind = .slice e)(A:X.ti e=some j){za:AV}(hz:j.zero=some za)(G:X.ti O=some u)(pg:ke u.kind=true)
  {s:Nat}{rows:L CV}(ha:aJ X env xs=some (.own .exact s rows)){b:AV}(hb:aJ X env y=some b){M:Nat}{bV:L CV}(N:lO b=some (M,bV))
  {sz:Nat}(J:j.size=sz)(hs:fH s sz rows=true)(qu:fH M sz bV=true)(W:bV≠[])(hu:mem d us=false){V:Nat}(U:j.bytes=V)(T:Nat.ble 1 V=true)(Y:(rows.length+bV.length)*V<=140737488355328)
  {cs:L CV}(S:rows++bV=cs){m:Nat}(hm:cs.length=m)
  (k:ah P X ops rest ((d,.fZ d 0 sz m)::env) ⟨(d,ag cs)::bs,ts,d::us⟩ (⟨[],[d]⟩::acc) Q):ah P X ops (o::rest) env ⟨bs,ts,us⟩ acc Q:=by
 subst J U S hm;exact ah.step (dg p) (bP.uq (σ:=⟨bs,ts,us⟩) hX K q I (Nat.blt_eq.mp D) C B A hz G pg ha hb N hs qu W hu T Y) (oK d _) (by rw[E];exact k)
def ah.lQ(hX:ct P X)(kn:L Nat)(p:cS ops.toList kn env o=some true){args:Array Operand}{H:Array TypeId}(E:o.op = .call {callee := .builtin .append,args:=args,argTypes:=H})
  {xs y:Operand}(q:args.toList=[xs,y]){t O:Nat}(D:H.toList=[t,O]){d:Nat}(C:o.dst=some d)(B:Nat.blt d 1000000=true)
  {i j u:TI}{e:Nat}(A:X.ti t=some i)(hk:i.kind = .slice e)(hj:X.ti e=some j){za:AV}(hz:j.zero=some za)(G:X.ti O=some u)(pg:ke u.kind=true)
  {sz:Nat}(J:j.size=sz){M n:Nat}(ha:aJ X env xs=some (.fZ M 0 sz n)){cells:L AV}(ym:ak M bs=some cells)(rows:L CV)(tail:L AV)(ie:cells=ag rows++tail)(hn:n=rows.length)(W:(bD rows).length=n*sz)
  {b:AV}(hb:aJ X env y=some b){K:Nat}{bV:L CV}(N:lO b=some (K,bV))
  (qu:fH K sz bV=true)(hu:mem d us=false)(I:Nat.beq d M=false){V:Nat}(U:j.bytes=V)(T:Nat.ble 1 V=true)(Y:(rows.length+bV.length)*V<=140737488355328)
  {cs:L CV}(S:rows++bV=cs){m:Nat}(hm:cs.length=m){bs':L (Nat×L AV)}(jC:Aw M bs=bs')
  (k:ah P X ops rest ((d,.fZ d 0 sz m)::env) ⟨(d,ag cs)::bs',ts,d::us⟩ (⟨[],[d,M]⟩::acc) Q):ah P X ops (o::rest) env ⟨bs,ts,us⟩ acc Q:=by
 subst J U S hm jC
 refine ah.step (dg p) (bP.lQ (σ:=⟨bs,ts,us⟩) hX E q D (Nat.blt_eq.mp B) A hk hj hz G pg ha ym ie hn W hb N qu hu T Y) (HY d M _ (beq_false I)) (by
  rw[C];have:((⟨bs,ts,us⟩:St).dS d (ag (rows++bV))).eA M=⟨(d,ag (rows++bV))::Aw M bs,ts,d::us⟩:=by
   simp only[St.eA,St.dS,Aw,I]
  rw[this];exact k)
end
end Go.cM
namespace Go.cM
section
variable {P : Program}{X : Ctx}
def bP.gZ(hX:ct P X){o:Oper}{env:Env}{σ:St}{t:TypeId}{K:Nat}{Y:Array (Nat×Operand)}(I:o.op = .buildSlice t K Y){d:Nat}(iL:d<1000000)(hu:mem d σ.used=false)
  {i j:TI}{e:Nat}(hi:X.ti t=some i)(hk:i.kind = .slice e)(C:X.ti e=some j){za:AV}(hz:j.zero=some za){rows:L CV}(D:gY (aJ X env) 0 Y.toList=some rows)
  (hl:Nat.beq rows.length K=true)(hs:gK j.size rows=true)(hb:Nat.ble (K*j.size) 16777216=true) :
  bP P X o env σ (.fZ d 0 j.size K) (λσ=>σ.dS d (ag rows)) ⟨[],[d]⟩:=by
 intro cT H w g O next Q h1 h2 T cu de V;have yu:gY (aJ X cT) 0 Y.toList=some rows:=by
  rw[oQ _ _ (λp D=>h1 p.2 (by rw[I];simp only[Op.operands,acM];exact⟨p,D,Z⟩))];exact D
 obtain⟨G,c2⟩:=tr (g:=g) (ev:=O.eval) (λx v E=>cn de cu E) yu;have S:=beq_true hl;have hne:j.size≠0:=by obtain⟨_,_,_,_,_,_,hh⟩:=hX.ti e j C;exact hh
 obtain⟨dd,Ay,A,_⟩:=hX.run_underlying (w:=w) hi;rw[hk]at A;simp only[ey]at A;subst A;obtain⟨z,z1,z2,z3⟩:=hX.kL (w:=w) C hz;have N:∀v∈(Y.toList.map λp=>O.eval p.2),v.cells.size=j.size:=by
  intro v hv;obtain⟨m,hm⟩:=abv hv;obtain⟨l1,l2⟩:=bI.get G;have M:m<rows.length:=by rw[l1];exact(List.getElem?_eq_some_iff.1 hm).1
  obtain⟨u,e1,e2⟩:=l2 m rows[m] (by simp[M]);rw[hm]at e1;simp at e1;subst e1;obtain⟨a1,a2,_⟩:=pM (mT hs rows[m] (abI M)) e2;have:=(bI.get a2).1;simp at this;omega
 have U:(Y.toList.map λp=>O.eval p.2).length=K:=by rw[<- (bI.get G).1];exact S
 obtain⟨W,r1,r2,r3⟩:=yN j.size (Y.toList.map λp=>O.eval p.2) 0 ((Array.range (K*j.size)).map (z.cells[· % z.cells.size]!)) N (by simp at U ⊢;rw[U];exact aav _);have B:(execOp O.eval o).run P w = .ok (.value (.slice (some ⟨w.heap.size,0,none⟩) K K)) {w with heap:=w.heap.push (.cells W e)}:=by
  obtain⟨dst,op,type,pos,after,guard⟩:=o;simp only at I;subst I;have yd:¬(2^24<K*j.size):=by have:=ZD hb;omega
  have HN:∀zc:Array Value,(Array.range (K*j.size)).map (λx=>zc[x%zc.size]!)=(Array.range (K*j.size)).map (λx=>z.cells[x%z.cells.size]!) ->
    Instr.fill (λi=>some (i*j.size,j.size)) ((Array.range (K*j.size)).map (λx=>zc[x%zc.size]!)) (Y.map λx=>(x.1,O.eval x.2)).toList=some W:=by
   intro zc q2;rw[q2,aaP];have WU:(Y.toList.map λx=>(x.1,O.eval x.2))=_:=c2;rw[WU];exact r1
  simp only[execOp,Instr.buildSlice,Sem.run_bind,Ay,Result.andThen_ok,hX.run_sizeOf C];rw[if_neg (by simpa using yd)];by_cases h0:K*j.size=0
  ·rw[if_pos h0];simp only[Sem.run_bind,Sem.run_pure,Result.andThen_ok];rw[HN #[] (by rw[h0];simp)];simp[newRow]
  ·rw[if_neg h0];simp only[Sem.run_bind,Sem.run_pure,Result.andThen_ok,z1];rw[HN z.cells rfl];simp[newRow]
 unfold Oper.wp;rw[B,Oper.upon_value];have Qr:d ∉ H.used:=λh=>cQ hu ((h2 d (.inr ek)).2.2.1 h);obtain⟨f1,f2⟩:=El hs G;have hfl:(flat j.size (Y.toList.map λp=>O.eval p.2)).length=K*j.size:=by
  have:∀l:L Value,(∀v∈l,v.cells.size=j.size)->(flat j.size l).length=l.length*j.size:=by
   intro l
   induction l with
   |nil=>intro _;simp[flat]
   |cons v l ih =>
    intro h;simp only[flat,aay,ih (λx E=>h x (by simp[E])),aac,abR];have:=h v ek;simp;omega
  rw[this _ N,U]
 have hsz:W.size=K*j.size:=by rw[r2];simp
 have J:W.toList=flat j.size (Y.toList.map λp=>O.eval p.2):=by
  apply List.ext_getElem?;intro q;have:=r3 q;simp only[Nat.zero_mul,ZG,acu,aaF,true_and]at this;rw[acf,this];by_cases hq:q<(flat j.size (Y.toList.map λp=>O.eval p.2)).length
  ·rw[if_pos hq]
  ·simp_all
 obtain⟨i1,i2,i3,i4⟩:=Kk (us:=W) (t:=e) (cells:=ag rows) T Qr iL (by rw[J];exact nP f1) (by rw[qN];exact f2);refine V _ _ _ ?_ i1 i2 i3;simp only[aI];exact⟨w.heap.size,K,some ⟨w.heap.size,0,none⟩,ek,Z,aav _,by simp only[if_pos,hsz];omega,.inr Z⟩
end
section
variable {P : Program}{X : Ctx}{ops : Array Oper}{o : Oper}{rest : L Oper}{env : Env}{acc : L Fp}{Q : Env -> St -> L Fp -> Prop}{bs : L (Nat × L AV)}{ts : L (Nat × Nat)}{us : L Nat}
def ah.gZ(hX:ct P X)(kn:L Nat)(hg:cS ops.toList kn env o=some true){t:TypeId}{len:Nat}{parts:Array (Nat×Operand)}(ho:o.op = .buildSlice t len parts){d:Nat}(hd:o.dst=some d)(iL:Nat.blt d 1000000=true)(hu:mem d us=false)
  {i j:TI}{e:Nat}(hi:X.ti t=some i)(hk:i.kind = .slice e)(hj:X.ti e=some j){za:AV}(hz:j.zero=some za){rows:L CV}(hp:gY (aJ X env) 0 parts.toList=some rows)
  (hl:Nat.beq rows.length len=true){s:Nat}(hsz:j.size=s)(hs:gK s rows=true)(hb:Nat.ble (len*s) 16777216=true)
  (k:ah P X ops rest ((d,.fZ d 0 s len)::env) ⟨(d,ag rows)::bs,ts,d::us⟩ (⟨[],[d]⟩::acc) Q):ah P X ops (o::rest) env ⟨bs,ts,us⟩ acc Q:=by
 subst hsz
 exact ah.step (dg hg) (bP.gZ (σ:=⟨bs,ts,us⟩) hX ho (Nat.blt_eq.mp iL) hu hi hk hj hz hp hl hs hb) (oK d _) vF
end
end Go.cM
