/- A layer of abstract values over the model, part C: -/
import Derived.Test.YteanleefnjknoaaGreatDoorLibB
import Derived.Laws.AppendOwn
import Derived.Laws.IdiomStrings
set_option linter.defProp false
set_option linter.unusedSimpArgs false
set_option linter.unusedVariables false
namespace Go.cK
def bC:L CV->L CV
 |[]=>[]
 |r::rs=>r.cells++bC rs
def yW{G:j8}{b:Nat}:∀{o:Nat}{a c:L CV},dy G b o (a++c)↔dy G b o a/\dy G b (o+a.length) c
 |o,[],c=>by simp[dy]
 |o,x::a,c=>by
  simp only[adU,dy,yW (a:=a),aac,and_assoc];rw[show o+(a.length+1)=o+1+a.length from by omega]
def qu{G:j8}{s b:Nat}:∀{o:Nat}{rows:L CV},fL G s b o rows↔dy G b o (bC rows)/\∀r∈rows,r.cells.length=s
 |o,[]=>by simp[fL,bC,dy]
 |o,r::rs=>by
  simp only[fL,bC,yW,AO,qu (rows:=rs),aeB,forall_eq_or_imp];constructor
  ·simp_all
  ·grind
def dK{s:Nat}:∀{rows:L CV},(∀r∈rows,r.cells.length=s)->(bC rows).length=rows.length*s
 |[],_=>by simp[bC]
 |r::rs,h=>by
  simp only[bC,aaz,aac,h r cS,dK (rows:=rs) (λx O=>h x abB),afO];omega
def dS:∀(a c:L CV),bC (a++c)=bC a++bC c
 |[],c=>by simp[bC]
 |r::a,c=>by simp[bC,dS a c]
def wZ{G:j8}{b:Nat}:∀{o:Nat}{cs:L CV},dy G b o cs->∃vs:L Value,bR G cs vs/\(∀(j:Nat) u,vs[j]?=some u->G b (o+j)=some u)/\cs.all CV.one=true
 |o,[],_=>⟨[],by simp[bR],cS,Z⟩
 |o,c::cs,h=>by
  simp only[dy]at h;obtain⟨⟨u,h1,h2,V⟩,h4⟩:=h;obtain⟨vs,K,q,H⟩:=wZ h4;refine⟨u::vs,by simp only[bR];exact⟨_,_,Z,h2,K⟩,?_,by simp[V,H]⟩;intro j x Y;cases j with
  |zero=>simp at Y;subst Y;simpa using h1
  |succ j=>simp at Y;have:=q j x Y;rwa[show o+(j+1)=o+1+j from by omega]
def nO{G:j8}{b:Nat}:∀{o:Nat}{cs:L CV}{vs:L Value},bR G cs vs->(∀(j:Nat) u,vs[j]?=some u->G b (o+j)=some u)->cs.all CV.one=true->dy G b o cs
 |o,[],_,_,_,_=>trivial
 |o,c::cs,vs,h,Y,p=>by
  simp only[bR]at h;obtain⟨u,us,rfl,h1,h2⟩:=h;simp only[aeL,aai]at p;refine⟨⟨u,by simpa using Y 0 u cS,h1,p.1⟩,nO h2 (λj x W=>?_) p.2⟩;have:=Y (j+1) x (by simpa using W);rwa[show o+(j+1)=o+1+j from by omega]at this
def nD{G:j8}:∀{cs:L CV}{vs:L Value},bR G cs vs->cs.all CV.one=true->∀u∈vs,u.oneCell'=true
 |[],vs,h,_,u,hu=>by simp only[bR]at h;subst h;simp at hu
 |c::cs,vs,h,ho,u,hu=>by
  simp only[bR]at h
  obtain⟨x,us,rfl,h1,h2⟩:=h
  simp only[aeL,aai]at ho
  rcases List.mem_cons.1 hu with rfl|hu
  ·exact wV (g:=⟨G,λ_=>none,λ_=>none,λ_=>0⟩) (a := .c c) ho.1 abV
  ·exact nD h2 ho.2 u hu
def nP:AV->Option (Nat×L CV)
 |.own _ s rows=>some (s,rows)
 |.c (.sl s rows)=>some (s,rows)
 |.c (.str l)=>some (1,l.map λb => .int .u8 b.toNat)
 |_=>none
def gI(s t:Nat)(rows:L CV):Bool:=match Nat.beq s t with
 |true=>true
 |false=>match rows with
  |[]=>true
  |_=>false
def oT{s t:Nat}{rows:L CV}(h:gI s t rows=true):s=t\/rows=[]:=by
 unfold gI at h;split at h
 ·simp_all
 ·grind
def zK:∀(l:L UInt8),bC (l.map λb=>CV.int .u8 b.toNat)=l.map λb=>CV.int .u8 b.toNat
 |[]=>rfl
 |b::l=>by simp[bC,CV.cells,zK l]
section
variable {P : Program}{X : Ctx}{w : World}{g : Gh}
def FA(G:j8):∀(l:L UInt8),bR G (l.map λb=>CV.int .u8 b.toNat) (l.map λb=>Value.int .u8 b.toNat)
 |[]=>by simp[bR]
 |b::l=>by simp only[aed,bR];exact⟨_,_,Z,acD,FA G l⟩
def yb{w:World}(M:∀b o v,g.G b o=some v->w.cell? ⟨b,o,none⟩=some v){s t:Nat}{base:Option Addr}{rows:L CV}(C:lK g.G s base rows)(Y:gI s t rows=true)(p V:Nat)(E:p=rows.length) :
  ∃news:L Value,bR g.G (bC rows) news/\(∀r∈rows,r.cells.length=t)/\(bC rows).all CV.one=true/\(Builtin.firstCells t p (.slice base p V)).run P w = .ok news.toArray w:=by
 rcases C with rfl|⟨b,o,rfl,C⟩
 ·refine⟨[],by simp[bC,bR],cS,Z,?_⟩;simp at E;subst E;cases base with
  |none=>simp[Builtin.firstCells]
  |some a=>exact run_firstCells_some w t 0 a 0 V [] cS cS
 ·rcases oT Y with rfl|rfl
  ·rw[qu]at C;obtain⟨vs,h1,h2,W⟩:=wZ C.1;refine⟨vs,h1,C.2,W,?_⟩;refine run_firstCells_some w s p _ p V vs ?_ ?_
   ·rw[<- (bR.get h1).1,dK C.2,E]
   ·intro j v U;rw[Addr.add_lit];exact M _ _ _ (h2 j v U)
  ·refine⟨[],by simp[bC,bR],cS,Z,?_⟩;simp at E;subst E;exact run_firstCells_some w t 0 _ 0 V [] cS cS
def rq{w:World}(M:∀b o v,g.G b o=some v->w.cell? ⟨b,o,none⟩=some v){a:AV}{s t:Nat}{rows:L CV}(ha:nP a=some (s,rows))(W:gI s t rows=true){x:Value}(O:aL g a x) :
  (∃news:L Value,bR g.G (bC rows) news/\(∀r∈rows,r.cells.length=t)/\(bC rows).all CV.one=true/\(Builtin.firstCells t rows.length x).run P w = .ok news.toArray w)/\(Builtin.lenOf x).run P w = .ok rows.length w:=by
 unfold nP at ha;split at ha<;>simp at ha
 ·obtain⟨rfl,rfl⟩:=ha;simp only[aL]at O;obtain⟨base,p,V,rfl,h1,h2,U,S⟩:=O;obtain⟨news,T,q,n3,E⟩:=yb (P:=P) M U W p V h1;exact⟨⟨news,T,q,n3,by rw[<- h1];exact E⟩,by simp[Builtin.lenOf,h1]⟩
 ·obtain⟨rfl,rfl⟩:=ha;simp only[aL,Rel]at O;obtain⟨base,p,V,rfl,h1,h2,U⟩:=O;obtain⟨news,T,q,n3,E⟩:=yb (P:=P) M U W p V h1;exact⟨⟨news,T,q,n3,by rw[<- h1];exact E⟩,by simp[Builtin.lenOf,h1]⟩
 ·rename_i l;obtain⟨rfl,rfl⟩:=ha;simp only[aL,Rel]at O;subst O;have Y:((l.map λb=>CV.int .u8 b.toNat).all CV.one)=true:=by simp[CV.one]
  have I:t=1\/l=[]:=by
   rcases oT W with h|h
   ·exact .inl h.symm
   ·right;simpa using h
  refine⟨⟨l.map λb=>Value.int .u8 b.toNat,by rw[zK];exact FA _ l,?_,by rw[zK];exact Y,?_⟩,?_⟩
  ·intro r C;rcases I with rfl|rfl
   ·simp at C;obtain⟨b,_,rfl⟩:=C;rfl
   ·simp at C
  ·simp only[Builtin.firstCells,Sem.run_pure,aeA];congr 1;have:(ByteArray.mk l.toArray).extract 0 l.length=⟨l.toArray⟩:=by rw[extract_mk];simp
   rw[this];simp
  ·simp[Builtin.lenOf,ByteArray.size]
def AX(hX:cF P X){t:Nat}{i:TI}(K:X.ti t=some i)(D:(match i.kind with | .slice _ | .str=>true|_=>false)=true)(w:World) :
  ∃d,P.underlying t=some d/\(d = .string\/∃e,d = .slice e):=by
 obtain⟨d,h1,h2,V⟩:=hX.run_underlying (w:=w) K;refine⟨d,V,?_⟩;split at D
 ·rename_i e S;rw[S]at h2;simp only[ff]at h2;exact .inr ⟨e,h2⟩
 ·rename_i S;rw[S]at h2;simp only[ff]at h2;exact .inl h2
 ·simp at D
def l9{t W ty e:TypeId}{Y:TypeDesc}(I:P.underlying t=some (.slice e))(h1:P.underlying W=some Y)(N:Y = .string\/∃e,Y = .slice e){i:TypeInfo}(K:P.info? e=some i)
  {base:Option Addr}{sLen sCap n:Nat}{x:Value}{news:L Value}(E:(Builtin.lenOf x).run P w = .ok n w)(hf:(Builtin.firstCells i.size n x).run P w = .ok news.toArray w)(p:sLen+n<=sCap)
  {w':World}(O:match (motive:=Option Addr->Prop) base with|some a=>(storeCells (a.add (sLen*i.size)) news).run P w = .ok () w'|none=>w'=w) :
  (Builtin.append_ #[t,W] ty #[.slice base sLen sCap,x]).run P w = .ok (.slice base (sLen+n) sCap) w':=by
 rcases N with rfl|⟨M,rfl⟩
 all_goals
  cases base with
  |none =>
   simp only at O;subst O;simp[Builtin.append_,run_underlying I,run_underlying h1,sizeOf,typeInfo,K,E,p,hf]
  |some a =>
   simp only at O;simp[Builtin.append_,run_underlying I,run_underlying h1,sizeOf,typeInfo,K,E,p,hf,O]
def oG{t T ty e:TypeId}{W:TypeDesc}(I:P.underlying t=some (.slice e))(h1:P.underlying T=some W)(O:W = .string\/∃e,W = .slice e){i:TypeInfo}(K:P.info? e=some i){z:Value}(D:i.zero=some z)
  {base:Option Addr}{sLen sCap n:Nat}{x:Value}{olds news:L Value}(E:(Builtin.lenOf x).run P w = .ok n w)(hf:(Builtin.firstCells i.size n x).run P w.drew = .ok news.toArray w.drew)
  (V:(Builtin.firstCells i.size sLen (.slice base sLen sCap)).run P w.drew = .ok olds.toArray w.drew)(G:sCap<sLen+n)(S:sLen+n<=140737488355328)(Q:(sLen+n)*i.bytes<=140737488355328) :
  (Builtin.append_ #[t,T] ty #[.slice base sLen sCap,x]).run P w =
   .ok (.slice (some ⟨w.heap.size,0,none⟩) (sLen+n) (grownCap w (sLen+n) sCap e))
    (w.drew.alloc (.cells (olds.toArray++news.toArray++Builtin.zeroCells z.cells (grownCap w (sLen+n) sCap e-(sLen+n))) e)):=by
 have B:¬(sLen+n<=sCap):=by omega
 have Y:¬(9223372036854775807<((sLen:Int)+(n:Int))):=by omega
 have U:¬(281474976710656<Builtin.nextslicecap (sLen+n) sCap*i.bytes):=by have:=growslice_fits G Q;omega
 rcases O with rfl|⟨M,rfl⟩
 all_goals
  simp[Builtin.append_,run_underlying I,run_underlying h1,sizeOf,typeInfo,zeroValue,K,D,E,B,Y,U,Question.forced,hf,V,newRow,grownCap];congr 2;apply Array.ext';simp[aeG]
def abq{w:World}{g:Gh}{σ:St}(hinv:Inv w g σ)(us:Array Value)(t:TypeId)(k:Nat)(hk:k<=us.size)(key n:Nat)(hkey:key ∉ σ.used\/∃n0,an key σ.toks=some n0/\n0<n)(w':World)(Y3:w'={w with heap:=w.heap.push (.cells us t),drawn:=w'.drawn}) :
  let g':Gh:=⟨λb o=>if b=w.heap.size/\o<k then us[o]? else g.G b o,g.box,λj=>if j=key then some (n,some (w.heap.size,k,us.size))else g.tok j,g.room⟩
  let σ':St:=⟨σ.boxes,vL key n σ.toks,key::σ.used⟩
  Inv w' g' σ'/\iK w g σ w' g' σ'/\g.le g':=by
 intro g' σ'
 have RI:w'.heap=w.heap.push (.cells us t):=by rw[Y3]
 have Iy:∀b o,b<w.heap.size->w'.cell? ⟨b,o,none⟩=w.cell? ⟨b,o,none⟩/\w'.frozen? ⟨b,o,none⟩=w.frozen? ⟨b,o,none⟩:=by
  intro b o hb
  simp only[World.cell?,World.frozen?,RI]
  rw[age,if_neg bn]
  exact⟨Z,Z⟩
 have Ws:∀o,w'.cell? ⟨w.heap.size,o,none⟩=us[o]?/\w'.frozen? ⟨w.heap.size,o,none⟩=false:=by
  intro o
  simp only[World.cell?,World.frozen?,RI]
  rw[age,if_pos rfl]
  simp
 have hsz:w'.heap.size=w.heap.size+1:=by rw[RI];simp
 have J6:∀b o v,g.G b o=some v->b<w.heap.size:=λb o v h=>World.block_lt_of_cell? w ⟨b,o,none⟩ (hinv.pQ b o v h)
 have Y9:∀hw gK,g.tok key=some (hw,gK)->hw<n:=by
  intro hw gK e
  rcases hkey with hkey|⟨n0,h1,h2⟩
  ·exact absurd (hinv.used key (.inr (by rw[e];simp))) hkey
  ·obtain⟨Fh,h3,_⟩:=hinv.tok key n0 h1
   rw[e]at h3;simp at h3;omega
 have hle:g.le g':=by
  refine⟨λb o v h=>?_,λ_ _ h=>h,λ_ _ _=>rfl,λj hw gK h=>?_⟩
  ·have:=J6 b o v h
   simp only[g'];rw[if_neg bn];exact h
  ·simp only[g']
   split
   ·rename_i hj;subst hj
    have:=Y9 hw gK h
    exact⟨n,_,Z,bn,bn⟩
   ·exact⟨hw,gK,h,aaj _,λ_=>rfl⟩
 have Ka:∀b o,b<w.heap.size->g'.G b o=g.G b o:=by
  intro b o hb;simp only[g'];rw[if_neg bn]
 have qO:w'.os=w.os/\w'.tape=w.tape/\w'.output=w.output:=by rw[Y3];exact⟨Z,Z,Z⟩
 refine⟨⟨?_,?_,hinv.gk,?_,?_,?_,hinv.BW λk cs b _ _ hb o=>Iy b o hb⟩,⟨qO.1,qO.2.1,qO.2.2,bn,λb hb _=>by rw[RI,age,if_neg bn],λb o hb _=>Iy b o hb,hle.1,?_,?_,?_,λ_ _ h=>⟨h,Z,Z⟩⟩,hle⟩
 ·intro b o v h
  simp only[g']at h
  split at h
  ·rename_i hb;obtain⟨rfl,_⟩:=hb;rw[(Ws o).1];exact h
  ·rw[(Iy b o (J6 b o v h)).1];exact hinv.pQ b o v h
 ·intro k cs e
  obtain⟨b,h1,h2,h3,h4⟩:=hinv.box k cs e
  exact⟨b,h1,bn,λo=>by rw[Ka b o h2];exact h3 o,(cB.of_same (λo=>Iy b o h2) h4).mono hle⟩
 ·intro j m e
  simp only[σ',eZ]at e
  simp only[g']
  split at e
  ·rename_i hj;subst hj
   simp at e;subst e
   rw[if_pos rfl]
   refine⟨_,Z,λb lo hi hr=>?_⟩
   simp at hr;obtain⟨rfl,rfl,rfl⟩:=hr
   refine⟨bn,λo h1 h2=>⟨?_,⟨us[o],?_⟩,(Ws o).2⟩,λk' cs e' he=>?_⟩
   ·rw[if_neg bn]
    cases hg:g.G w.heap.size o with
    |none=>rfl
    |some v=>have:=J6 _ _ _ hg;omega
   ·rw[(Ws o).1];simp[h2]
   ·obtain⟨b',f1,f2,_⟩:=hinv.box k' cs e'
    rw[f1]at he;simp at he;omega
  ·rename_i hj
   rw[if_neg hj]
   obtain⟨gK,h1,h2⟩:=hinv.tok j m e
   refine⟨gK,h1,λb lo hi hr=>?_⟩
   obtain⟨h3,h4,h5⟩:=h2 b lo hi hr
   refine⟨bn,λo MW PB=>?_,h5⟩
   obtain⟨h6,⟨u,h7⟩,h8⟩:=h4 o MW PB
   exact⟨abW,⟨u,(Iy b o h3).1.trans h7⟩,(Iy b o h3).2.trans h8⟩
 ·intro j j' m m' b lo hi lo' hi' e e' e1 e2
  simp only[σ',eZ]at e e'
  simp only[g']at e1 e2
  split at e
  ·rename_i hj;subst hj
   rw[if_pos rfl]at e1
   simp at e1;obtain⟨_,rfl,_,_⟩:=e1
   split at e'
   ·rename_i hj';exact hj'.symm
   ·rename_i hj'
    rw[if_neg hj']at e2
    obtain⟨gK,h1,h2⟩:=hinv.tok j' m' e'
    rw[e2]at h1;simp at h1
    have:=(h2 _ _ _ h1.symm).1
    omega
  ·rename_i hj
   rw[if_neg hj]at e1
   split at e'
   ·rename_i hj';subst hj'
    rw[if_pos rfl]at e2
    simp at e2;obtain⟨_,rfl,_,_⟩:=e2
    obtain⟨gK,h1,h2⟩:=hinv.tok j m e
    rw[e1]at h1;simp at h1
    have:=(h2 _ _ _ h1.symm).1
    omega
   ·rename_i hj'
    rw[if_neg hj']at e2
    exact hinv.iu j j' m m' b lo hi lo' hi' e e' e1 e2
 ·intro j e
  simp only[σ',aeB]
  by_cases hj:j=key
  ·exact .inl hj
  ·right;apply hinv.used j;simpa[g',hj]using e
 ·intro b o v h
  simp only[g']at h
  split at h
  ·rename_i hb;right;left;omega
  ·exact .inl h
 ·exact λk cs b h1 h2 => .inr ⟨k,cs,h1,h2⟩
 ·intro j m b lo hi e1 e2
  simp only[σ',eZ]at e1
  simp only[g']at e2
  split at e1
  ·rename_i hj;subst hj
   rw[if_pos rfl]at e2
   simp at e2;left;omega
  ·rename_i hj
   rw[if_neg hj]at e2
   exact .inr ⟨j,m,lo,hi,e1,e2,aaj _,aaj _⟩
def Za{w:World}{g:Gh}{σ:St}(N:Inv w g σ)(p n:Nat)(Q:Option (Nat×Nat×Nat))(I:(p ∉ σ.used/\Q=none)\/∃n0,g.tok p=some (n0,Q)/\an p σ.toks=some n0/\n0<n) :
  let g':Gh:=⟨g.G,g.box,λj=>if j=p then some (n,Q)else g.tok j,g.room⟩
  let O:St:=⟨σ.boxes,vL p n σ.toks,p::σ.used⟩
  Inv w g' O/\iK w g σ w g' O/\g.le g':=by
 intro g' O;have V:g.le g':=by
  refine⟨j8.le.refl _,λ_ _ h=>h,λ_ _ _=>rfl,λj hw r h=>?_⟩;simp only[g'];split
  ·rename_i Y;subst Y;rcases I with ⟨I,_⟩|⟨n0,h1,h2,M⟩
   ·exact absurd (N.used j (.inr (by rw[h];simp))) I
   ·grind
  ·grind
 refine⟨⟨N.pQ,?_,N.gk,?_,?_,?_,N.room⟩,⟨Z,Z,Z,aaj _,λ_ _ _=>rfl,λ_ _ _ _=>⟨Z,Z⟩,j8.le.refl _,λ_ _ _ h => .inl h,λk cs b h1 h2 => .inr ⟨k,cs,h1,h2⟩,?_,λ_ _ h=>⟨h,Z,Z⟩⟩,V⟩
 ·intro k cs e;obtain⟨b,h1,h2,M,h4⟩:=N.box k cs e;exact⟨b,h1,h2,M,h4.mono V⟩
 ·intro j m e;simp only[O,eZ]at e;simp only[g'];split at e
  ·rename_i Y;subst Y;simp at e;subst e;rw[if_pos rfl];refine⟨_,Z,λb H K A=>?_⟩;rcases I with ⟨_,rfl⟩|⟨n0,h1,h2,M⟩
   ·simp at A
   ·obtain⟨Fh,U,J⟩:=N.tok j n0 h2;rw[h1]at U;simp at U;subst U;exact J b H K A
  ·rename_i Y;rw[if_neg Y];exact N.tok j m e
 ·intro j u m m' b H K T B e e' P q;have W:∀j m b H K,an j O.toks=some m->g'.tok j=some (m,some (b,H,K))->∃S,an j σ.toks=some S/\g.tok j=some (S,some (b,H,K)):=by
   intro j m b H K e P;simp only[O,eZ]at e;simp only[g']at P;split at e
   ·grind
   ·simp_all
  obtain⟨S,U,J⟩:=W j m b H K e P;obtain⟨E,D,C⟩:=W u m' b T B e' q;exact N.iu j u S E b H K T B U D J C
 ·intro j e;simp only[O,aeB];by_cases Y:j=p
  ·exact .inl Y
  ·right;apply N.used j;simpa[g',Y]using e
 ·intro j m b H K P q;simp only[O,eZ]at P;simp only[g']at q;split at P
  ·grind
  ·grind
def Zb{w w':World}{g:Gh}{σ:St}(hinv:Inv w g σ){key n b lo hi:Nat}(hk:an key σ.toks=some n)(hg:g.tok key=some (n,some (b,lo,hi)))(vs:L Value)(hfit:lo+vs.length<=hi)
  (r2:w'.heap.size=w.heap.size/\w'.os=w.os/\w'.tape=w.tape/\w'.output=w.output/\∀b',b'≠b->w'.heap[b']?=w.heap[b']?)
  (r3:∀b' o',b'≠b\/o'<lo\/lo+vs.length<=o'->w'.cell? ⟨b',o',none⟩=w.cell? ⟨b',o',none⟩)(r4:∀b' o',w'.frozen? ⟨b',o',none⟩=w.frozen? ⟨b',o',none⟩)
  (r5:∀j v,vs[j]?=some v->w'.cell? ⟨b,lo+j,none⟩=some v)(hne:vs≠[]) :
  let g':Gh:=⟨λb' o=>if b'=b/\lo<=o/\o<lo+vs.length then vs[o-lo]? else g.G b' o,g.box,λj=>if j=key then some (n+1,some (b,lo+vs.length,hi))else g.tok j,g.room⟩
  let σ':St:=⟨σ.boxes,vL key (n+1) σ.toks,key::σ.used⟩
  Inv w' g' σ'/\iK w g σ w' g' σ'/\g.le g':=by
 intro g' σ'
 obtain⟨aiQ,t1,t2⟩:=hinv.tok key n hk
 rw[hg]at t1;simp at t1;subst t1
 obtain⟨t3,t4,t5⟩:=t2 b lo hi rfl
 have hlen:0<vs.length:=List.length_pos_iff.2 hne
 have adB:∀b' o v,g.G b' o=some v->¬(b'=b/\lo<=o/\o<lo+vs.length):=by
  rintro b' o v h ⟨rfl,h1,h2⟩
  rw[(t4 o h1 bn).1]at h;simp at h
 have hle:g.le g':=by
  refine⟨λb' o v h=>?_,λ_ _ h=>h,λ_ _ _=>rfl,λj hw r h=>?_⟩
  ·simp only[g'];rw[if_neg (adB b' o v h)];exact h
  ·simp only[g']
   split
   ·rename_i hj;subst hj
    rw[hg]at h;simp at h;exact⟨n+1,_,Z,bn,bn⟩
   ·exact⟨hw,r,h,aaj _,λ_=>rfl⟩
 have hcell:∀b' o,¬(b'=b/\lo<=o/\o<lo+vs.length)->w'.cell? ⟨b',o,none⟩=w.cell? ⟨b',o,none⟩:=by
  intro b' o h;exact r3 b' o bn
 refine⟨⟨?_,?_,hinv.gk,?_,?_,?_,hinv.BW λk cs b' e h1 hb o=>⟨hcell b' o (by rintro⟨rfl,_⟩;exact t5 k cs e h1),r4 b' o⟩⟩,⟨r2.2.1,r2.2.2.1,r2.2.2.2.1,bn,λb' hb' hno=>r2.2.2.2.2 b' (by rintro rfl;exact hno lo (.inr ⟨key,n,lo,hi,hk,hg,bn,bn⟩)),λb' o hb' hno=>⟨hcell b' o ?_,r4 b' o⟩,hle.1,?_,λk cs b h1 h2 => .inr ⟨k,cs,h1,h2⟩,?_,λ_ _ h=>⟨h,rfl,rfl⟩⟩,hle⟩
 ·intro b' o v h
  simp only[g']at h
  split at h
  ·rename_i hb;obtain⟨rfl,h1,h2⟩:=hb
   have:=r5 (o-lo) v h
   rwa[show lo+(o-lo)=o from by omega]at this
  ·rename_i hb;rw[hcell b' o hb];exact hinv.pQ b' o v h
 ·intro k cs e
  obtain⟨b',h1,h2,h3,h4⟩:=hinv.box k cs e
  have Bs:b'≠b:=by rintro rfl;exact t5 k cs e h1
  exact⟨b',h1,bn,λo=>by simp only[g'];rw[if_neg bn];exact h3 o,(cB.of_same (λo=>⟨hcell b' o bn,r4 b' o⟩) h4).mono hle⟩
 ·intro j m e
  simp only[σ',eZ]at e
  simp only[g']
  split at e
  ·rename_i hj;subst hj
   simp at e;subst e
   rw[if_pos rfl]
   refine⟨_,Z,λb' lo' hi' hr=>?_⟩
   simp at hr;obtain⟨rfl,rfl,rfl⟩:=hr
   refine⟨bn,λo h1 h2=>?_,t5⟩
   obtain⟨h6,⟨u,h7⟩,h8⟩:=t4 o bn h2
   exact⟨abW,⟨u,(hcell b o bn).trans h7⟩,(r4 b o).trans h8⟩
  ·rename_i hj
   rw[if_neg hj]
   obtain⟨gK,h1,h2⟩:=hinv.tok j m e
   refine⟨gK,h1,λb' lo' hi' hr=>?_⟩
   obtain⟨h3,h4,h5⟩:=h2 b' lo' hi' hr
   have Bs:b'≠b:=by
    rintro rfl;subst hr
    exact hj (hinv.iu j key m n b' lo' hi' lo hi e hk h1 hg)
   refine⟨bn,λo MW PB=>?_,h5⟩
   obtain⟨h6,⟨u,h7⟩,h8⟩:=h4 o MW PB
   exact⟨abW,⟨u,(hcell b' o bn).trans h7⟩,(r4 b' o).trans h8⟩
 ·intro j j' m m' b1 lo1 hi1 lo2 hi2 e e' e1 e2
  have key':∀j m b1 lo1 hi1,an j σ'.toks=some m->g'.tok j=some (m,some (b1,lo1,hi1))->∃m0 GO rK,an j σ.toks=some m0/\g.tok j=some (m0,some (b1,GO,rK)):=by
   intro j m b1 lo1 hi1 e e1
   simp only[σ',eZ]at e
   simp only[g']at e1
   split at e
   ·simp_all
   ·simp_all
  obtain⟨m0,l0,h0,f1,f2⟩:=key' j m b1 lo1 hi1 e e1
  obtain⟨m0',l0',Yx,f1',f2'⟩:=key' j' m' b1 lo2 hi2 e' e2
  exact hinv.iu j j' m0 m0' b1 l0 h0 l0' Yx f1 f1' f2 f2'
 ·intro j e
  simp only[σ',aeB]
  by_cases hj:j=key
  ·exact .inl hj
  ·right;apply hinv.used j;simpa[g',hj]using e
 ·rintro⟨rfl,h1,h2⟩;exact hno (.inr ⟨key,n,lo,hi,hk,hg,bn,bn⟩)
 ·intro b' o v h
  simp only[g']at h
  split at h
  ·rename_i hb;obtain⟨rfl,h1,h2⟩:=hb
   exact .inr (.inr (.inr ⟨key,n,lo,hi,hk,hg,bn,bn⟩))
  ·exact .inl h
 ·intro j m b' lo' hi' e1 e2
  simp only[σ',eZ]at e1
  simp only[g']at e2
  split at e1
  ·rename_i hj;subst hj
   rw[if_pos rfl]at e2
   simp at e2;obtain⟨_,rfl,rfl,rfl⟩:=e2
   exact .inr ⟨j,n,lo,hi,hk,hg,bn,aaj _⟩
  ·rename_i hj
   rw[if_neg hj]at e2
   exact .inr ⟨j,m,lo',hi',e1,e2,aaj _,aaj _⟩
end
end Go.cK
namespace Go.cK
def w9(d:Nat)(us:L Nat)(ts:L (Nat×Nat)):Y2->Option (Nat×Nat)
 |.exact=>match mem d us with
  |false=>some (d,0)
  |true=>none
 |.tok k m=>match an k ts with
  |some P=>match Nat.beq P m with
   |true=>some (k,m+1)
   |false=>none
  |none=>none
def FB(s t:Nat)(rows:L CV):Y2->Bool
 |.exact=>gI s t rows
 |.tok _ _=>Nat.beq s t
def AY{s t:Nat}{rows:L CV}:∀{o:Y2},FB s t rows o=true->gI s t rows=true
 |.exact,h=>h
 |.tok _ _,h=>by simp only[FB]at h;simp[gI,h]
def me:TK->Bool
 |.slice _ | .str=>true
 |_=>false
def PG(p n:Nat):iA (λσ=>(⟨σ.boxes,vL p n σ.toks,p::σ.used⟩:St)) ⟨[],[p]⟩ where
 out:=λσ k D=>by
  have:k≠p:=by simpa using D
  refine⟨Z,?_,?_⟩
  ·simp only[eZ,if_neg this]
  ·simp[this]
 same:=λσ Y h k D=>by
  have:k=p:=by simpa using D
  subst this;refine⟨(h k (.inr cS)).1,?_,?_⟩
  ·simp[eZ]
  ·simp
section
variable {P : Program}{X : Ctx}
def Iz{O:j8}{s b o:Nat}{rows cq:L CV}{olds news:L Value}(h1:bR O (bC rows) olds)(h2:bR O (bC cq) news)(Y:∀r∈rows,r.cells.length=s)(H:∀r∈cq,r.cells.length=s)
  (S:(bC rows).all CV.one=true)(W:(bC cq).all CV.one=true)(V:∀(j:Nat) u,(olds++news)[j]?=some u->O b (o+j)=some u):fL O s b o (rows++cq):=by
 rw[qu,dS];refine⟨nO (fK h1 h2) V (by rw[afL,S,W];rfl),?_⟩;intro r C;rcases List.mem_append.1 C with C|C
 ·exact Y r C
 ·exact H r C
set_option maxHeartbeats 1600000 in
def bU.append(hX:cF P X){o:Oper}{env:Env}{σ:St}{args:Array Operand}{ats:Array TypeId}(ho:o.op = .call {callee := .builtin .append,args:=args,argTypes:=ats})
  {xs y:Operand}(hargs:args.toList=[xs,y]){t t1:Nat}(B9:ats.toList=[t,t1]){d:Nat}
  {i j i1:TI}{e:Nat}(hi:X.ti t=some i)(hk:i.kind = .slice e)(hj:X.ti e=some j){za:AV}(hz:j.zero=some za)(hi1:X.ti t1=some i1)(pK:me i1.kind=true)
  {ow:Y2}{s:Nat}{rows:L CV}(ha:aK X env xs=some (.own ow s rows)){b:AV}(hb:aK X env y=some b){s1:Nat}{cq:L CV}(hsrc:nP b=some (s1,cq))
  (hs:FB s j.size rows ow=true)(td:gI s1 j.size cq=true){key n:Nat}(hkey:w9 d σ.used σ.toks ow=some (key,n))(hby:Nat.ble 1 j.bytes=true)(hbound:(rows.length+cq.length)*j.bytes<=140737488355328) :
  bU P X o env σ (.own (.tok key n) j.size (rows++cq)) (λσ=>⟨σ.boxes,vL key n σ.toks,key::σ.used⟩) ⟨[],[key]⟩:=by
 intro dz σ1 w g act next Q h1 h2 hinv cA dH hnext
 have ru:∀x∈args.toList,x∈o.op.operands.toList:=by
  intro x hx
  rw[ho];simp only[Op.operands,Call.operands,aeP,adT];exact .inr hx
 have yI:aK X dz xs=some (.own ow s rows):=by rw[h1 xs (ru xs acB)];exact ha
 have hb':aK X dz y=some b:=by rw[h1 y (ru y acB)];exact hb
 have rA:=cy (a:=act) dH cA yI
 have rB:=cy (a:=act) dH cA hb'
 simp only[aL]at rA
 obtain⟨base,len,cap,ex,hlen,hcap,gw,hown⟩:=rA
 obtain⟨⟨news,n1,n2,n3,n4⟩,n5⟩:=rq (P:=P) (w:=w) hinv.pQ hsrc td rB
 obtain⟨⟨news',Z8,n2',n3',n4'⟩,_⟩:=rq (P:=P) (w:=w.drew) (λb o v h=>by rw[World.cell?_drew];exact hinv.pQ b o v h) hsrc td rB
 obtain⟨olds,m1,m2,m3,m4⟩:=yb (P:=P) (w:=w.drew) (g:=g) (λb o v h=>by rw[World.cell?_drew];exact hinv.pQ b o v h) gw (AY hs) len cap hlen
 obtain⟨dt,_,zM,Hf⟩:=hX.run_underlying (w:=w) hi
 rw[hk]at zM;simp only[ff]at zM;subst zM
 obtain⟨d1,jQ,DG⟩:=AX hX hi1 acC w
 obtain⟨inf,XY,PI,if3,if4,_,if6⟩:=hX.ti e j hj
 obtain⟨z,z1,_,z3⟩:=if4 za hz
 have RJ:news.length=cq.length*j.size:=by rw[<- (bR.get n1).1,dK n2]
 have TA:news'.length=cq.length*j.size:=by rw[<- (bR.get Z8).1,dK n2']
 have Th:olds.length=rows.length*j.size:=by rw[<- (bR.get m1).1,dK m2]
 have zN:args = #[xs,y]:=by cases args;simp_all
 have FC:ats = #[t,t1]:=by cases ats;simp_all
 have Wt:=aep hby
 have hsmall:rows.length+cq.length<=140737488355328:=aeS (agS _ Wt) hbound
 have Wu:∀(v:Value)(w':World),(Builtin.append_ #[t,t1] o.type #[.slice base len cap,act.eval y]).run P w = .ok v w'->(execOp act.eval o).run P w = .ok (.value v) w':=by
  intro v w' hr
  obtain⟨dst,op,type,pos,after,guard⟩:=o
  simp only at ho hr;subst ho
  subst zN FC
  simp[execOp,resolve,invoke,builtin,ex,hr,Result.andThen]
 unfold Oper.wp
 by_cases hroom:len+cq.length<=cap
 ·by_cases h0:cq.length=0
  ·obtain rfl:cq=[]:=afR h0
   have hn0:news=[]:=by simpa[bC,bR]using n1
   subst hn0
   rw[Wu _ w (l9 (w':=w) Hf jQ DG XY n5 ac4 hroom (by cases base<;>simp[storeCells]))]
   rw[Oper.upon_value]
   have adG:∃gK,((key ∉ σ1.used/\gK=none)\/∃n0,g.tok key=some (n0,gK)/\an key σ1.toks=some n0/\n0<n) /\
     (cap=len\/∃b lo hi o,gK=some (b,lo,hi)/\base=some ⟨b,o,none⟩/\lo=o+len*j.size/\hi=o+cap*j.size/\len<=cap):=by
    cases ow with
    |exact =>
     simp only[w9]at hkey
     split at hkey
     ·rename_i hu
      simp at hkey;obtain⟨rfl,rfl⟩:=hkey
      exact⟨none,.inl ⟨λh=>cY hu ((h2 d (.inr cS)).2.2.1 h),Z⟩,.inl hown⟩
     ·simp at hkey
    |tok k m =>
     simp only[w9]at hkey
     split at hkey
     ·rename_i m' hm'
      split at hkey
      ·rename_i Lg
       simp at hkey;obtain⟨rfl,rfl⟩:=hkey
       have:=beq_true Lg;subst this
       have Bt:an k σ1.toks=some m':=by rw[(h2 k (.inr cS)).2.1];exact hm'
       obtain⟨hw,gK,e1,e2,e3⟩:=hown
       obtain⟨Fh,e4,_⟩:=hinv.tok k m' Bt
       rw[e1]at e4;simp at e4;obtain⟨rfl,rfl⟩:=e4
       simp only[FB]at hs
       have:=beq_true hs;subst this
       exact⟨gK,.inr ⟨hw,e1,Bt,bn⟩,e3 Z⟩
      ·simp at hkey
     ·simp at hkey
   obtain⟨gK,GQ,SS⟩:=adG
   obtain⟨i1,i2,i3⟩:=Za hinv key n gK GQ
   refine hnext _ w _ ?_ i1 i2 i3
   simp only[aL,aec,aad,aeT]
   refine⟨base,len,cap,Z,hlen,hcap,?_,n,gK,cS,aaj _,λ_=>SS⟩
   rcases gw with rfl|⟨b0,o0,hb0,XZ⟩
   ·exact .inl Z
   ·rcases oT (AY hs)with rfl|rfl
    ·exact .inr ⟨b0,o0,hb0,XZ⟩
    ·exact .inl Z
  ·
   cases ow with
   |exact=>simp only[qN]at hown;omega
   |tok k m =>
    simp only[w9]at hkey
    split at hkey
    ·rename_i m' hm'
     split at hkey
     ·rename_i Lg
      simp at hkey;obtain⟨rfl,rfl⟩:=hkey
      have:=beq_true Lg;subst this
      have Bt:an k σ1.toks=some m':=by rw[(h2 k (.inr cS)).2.1];exact hm'
      obtain⟨hw,gK,e1,e2,e3⟩:=hown
      obtain⟨Fh,e4,e5⟩:=hinv.tok k m' Bt
      rw[e1]at e4;simp at e4;obtain⟨rfl,rfl⟩:=e4
      simp only[FB]at hs
      have:=beq_true hs;subst this
      rcases e3 rfl with hc|⟨b0,lo,hi',o0,rfl,rfl,rfl,rfl,_⟩
      ·omega
      obtain⟨f1,f2,f3⟩:=e5 _ _ _ rfl
      have hmul:len*j.size+news.length<=cap*j.size:=by
       rw[RJ,<- afO];exact afE _ hroom
      obtain⟨w',r1,r2,r3,r4,r5⟩:=nM (P:=P) (w:=w) b0 news (o0+len*j.size) 0 w (nD n1 n3) (by
       intro q hq
       simp only[aeT]
       obtain⟨_,g2,g3⟩:=f2 (o0+len*j.size+q) bn bn
       exact⟨g2,g3⟩)
      simp only[aeT]at r3 r5
      rw[Wu _ w' (l9 (w':=w') Hf jQ DG XY n5 ac4 hroom (by simp only[Addr.add_lit,PI];exact r1))]
      rw[Oper.upon_value]
      obtain⟨i1,i2,i3⟩:=Zb hinv Bt e1 news bn r2 r3 r4 r5 (by
       intro hn;rw[hn]at RJ
       have hz:cq.length*j.size=0:=RJ.symm
       rcases Nat.mul_eq_zero.1 hz with hz|hz
       ·exact h0 hz
       ·exact if6 hz)
      refine hnext _ w' _ ?_ i1 i2 i3
      simp only[aL]
      refine⟨_,_,_,Z,by simp[hlen],bn,.inr ⟨b0,o0,Z,?_⟩,hw+1,some (b0,o0+len*j.size+news.length,o0+cap*j.size),cS,aaj _,λ_ => .inr ⟨b0,_,_,o0,Z,Z,?_,Z,bn⟩⟩
      ·refine Iz (olds:=olds) (news:=news) (bR.mono i3.1 _ _ m1) (bR.mono i3.1 _ _ n1) m2 n2 m3 n3 λq u hq=>?_
       by_cases hql:q<olds.length
       ·rw[agJ hql]at hq
        rcases gw with rfl|⟨b2,o2,SS,TB⟩
        ·simp_all
        ·simp at SS;obtain⟨rfl,rfl⟩:=SS
         rw[qu]at TB
         obtain⟨vs,v1,v2,v3⟩:=wZ TB.1
         have:vs=olds:=by
          have q1:(Builtin.firstCells j.size len (.slice (some ⟨b0,o0,none⟩) len cap)).run P w.drew = .ok vs.toArray w.drew:=by
           refine run_firstCells_some w.drew j.size len _ len cap vs ?_ ?_
           ·rw[<- (bR.get v1).1,dK TB.2,hlen]
           ·intro j v hj;rw[Addr.add_lit,World.cell?_drew];exact hinv.pQ _ _ _ (v2 j v hj)
          rw[m4]at q1;simp at q1;exact q1.symm
         subst this
         exact i3.1 _ _ _ (v2 q u hq)
       ·grind
      ·grind
     ·simp at hkey
    ·simp at hkey
 ·have hg:cap<len+cq.length:=by omega
  have hbd:(len+cq.length)*inf.bytes<=140737488355328:=by rw[if3,hlen];exact hbound
  rw[Wu _ _ (oG Hf jQ DG XY z1 n5 (by rw[PI];exact n4') (by rw[PI];exact m4) hg bn hbd)]
  rw[Oper.upon_value]
  have hge:=grownCap_ge w (len+cq.length) cap e
  generalize grownCap w (len+cq.length) cap e=nc at hge ⊢
  have vI:(olds.toArray++news'.toArray++Builtin.zeroCells z.cells (nc-(len+cq.length))).size=nc*j.size:=by
   simp only[afp,aeZ,size_zeroCells,Th,TA,z3,<- hlen,<- afO]
   congr 1;omega
  have af9:(len+cq.length)*j.size<=(olds.toArray++news'.toArray++Builtin.zeroCells z.cells (nc-(len+cq.length))).size:=by rw[vI];exact afE _ hge
  have hkk:key ∉ σ1.used\/∃n0,an key σ1.toks=some n0/\n0<n:=by
   cases ow with
   |exact =>
    simp only[w9]at hkey
    split at hkey
    ·rename_i hu
     simp at hkey;obtain⟨rfl,rfl⟩:=hkey
     exact .inl λh=>cY hu ((h2 d (.inr cS)).2.2.1 h)
    ·simp at hkey
   |tok k m =>
    simp only[w9]at hkey
    split at hkey
    ·rename_i m' hm'
     split at hkey
     ·rename_i Lg
      simp at hkey;obtain⟨rfl,rfl⟩:=hkey
      have:=beq_true Lg;subst this
      exact .inr ⟨m',by rw[(h2 k (.inr cS)).2.1];exact hm',bn⟩
     ·simp at hkey
    ·simp at hkey
  obtain⟨i1,i2,i3⟩:=abq hinv (olds.toArray++news'.toArray++Builtin.zeroCells z.cells (nc-(len+cq.length))) e ((len+cq.length)*j.size) af9 key n hkk
   (w.drew.alloc (.cells (olds.toArray++news'.toArray++Builtin.zeroCells z.cells (nc-(len+cq.length))) e)) Z
  refine hnext _ _ _ ?_ i1 i2 i3
  simp only[aL]
  refine⟨_,_,_,Z,by simp[hlen],hge,.inr ⟨w.heap.size,0,Z,?_⟩,n,_,if_pos Z,aaj _,λ_ => .inr ⟨_,_,_,0,Z,Z,by rw[aeq],by rw[vI,aeq],hge⟩⟩
  refine Iz (olds:=olds) (news:=news') (bR.mono i3.1 _ _ m1) (bR.mono i3.1 _ _ Z8) m2 n2' m3 n3' λq u hq=>?_
  have hql:q<(olds++news').length:=(List.getElem?_eq_some_iff.1 hq).1
  have aiT:q<(len+cq.length)*j.size:=by simp only[aaz,Th,TA,<- hlen,<- afO]at hql;exact hql
  simp only
  rw[if_pos ⟨trivial,bn⟩,aeq]
  rw[show olds.toArray++news'.toArray=(olds++news').toArray from by simp,aeK (by simpa using hql)]
  simpa using hq
end
section
variable {P : Program}{X : Ctx}{ops : Array Oper}{o : Oper}{rest : L Oper}{env : Env}{acc : L Fp}{Q : Env -> St -> L Fp -> Prop}{bs : L (Nat × L AV)}{ts : L (Nat × Nat)}{us : L Nat}
def af.append(hX:cF P X)(kn:L Nat)(E:dj ops.toList kn env o=some true){args:Array Operand}{K:Array TypeId}(C:o.op = .call {callee := .builtin .append,args:=args,argTypes:=K})
  {xs y:Operand}(H:args.toList=[xs,y]){t M:Nat}(D:K.toList=[t,M]){d:Nat}(u:o.dst=some d)
  {i j J:TI}{e:Nat}(B:X.ti t=some i)(q:i.kind = .slice e)(hj:X.ti e=some j){za:AV}(hz:j.zero=some za)(S:X.ti M=some J)(pK:me J.kind=true)
  {V:Y2}{s:Nat}{rows:L CV}(ha:aK X env xs=some (.own V s rows)){b:AV}(hb:aK X env y=some b){G:Nat}{cq:L CV}(A:nP b=some (G,cq))
  {sz:Nat}(T:j.size=sz)(hs:FB s sz rows V=true)(td:gI G sz cq=true){p n:Nat}(I:w9 d us ts V=some (p,n)){U:Nat}(O:j.bytes=U)(N:Nat.ble 1 U=true){ts':L (Nat×Nat)}(W:yU p n ts=some ts')
  (Y:(rows.length+cq.length)*U<=140737488355328)
  (k:af P X ops rest ((d,.own (.tok p n) sz (rows++cq))::env) ⟨bs,ts',p::us⟩ (⟨[],[p]⟩::acc) Q):af P X ops (o::rest) env ⟨bs,ts,us⟩ acc Q:=by
 subst T O;rw[tN]at W;simp at W;subst W;exact af.step (dB E) (bU.append (σ:=⟨bs,ts,us⟩) hX C H D B q hj hz S pK ha hb A hs td I N Y) (PG p n) acQ
end
end Go.cK
namespace Go.cK
structure Ren where
 bx:Nat->Option Nat
 tk:Nat->Option (Nat×Option Nat)
def Gh.fV(g:Gh)(ρ:Ren):Gh where
 G:=g.G
 box:=λk=>match ρ.bx k with
  |some O=>g.box O
  |none=>none
 tok:=λk=>match ρ.tk k with
  |some (m,none)=>some (m,none)
  |some (m,some O)=>match g.tok O with
   |some (_,K)=>some (m,K)
   |none=>none
  |none=>none
 room:=λk=>match ρ.bx k with
  |some O=>g.room O
  |none=>0
mutual
def Conv(ρ:Ren)(ts:L (Nat×Nat)):AV->AV->Prop
 |.c v,b=>b = .c v\/close b=some v
 |.own .exact s rows,b=>b = .own .exact s rows
 |.own (.tok k m) s rows,b=>∃o,ρ.tk k=some (m,o)/\(o=none/\(∃q,b = .own .exact q rows/\(q=s\/rows=[]))\/∃O n,o=some O/\an O ts=some n/\b = .own (.tok O n) s rows)
 |.ptr k off,b=>∃O,ρ.bx k=some O/\b = .ptr O off
 |.gS k off s n,b=>∃O,ρ.bx k=some O/\b = .gS O off s n
 |.any,b=>b.one=true
 |.agg l,b=>∃Y,b = .agg Y/\eF ρ ts l Y
 |.eY l,b=>∃Y,b = .eY Y/\eF ρ ts l Y
def eF(ρ:Ren)(ts:L (Nat×Nat)):L AV->L AV->Prop
 |[],Y=>Y=[]
 |a::l,Y=>∃b r,Y=b::r/\Conv ρ ts a b/\eF ρ ts l r
end
section
variable {g : Gh}{ρ : Ren}{ts : L (Nat × Nat)}
mutual
def sn(Y:∀k n,an k ts=some n->∃K,g.tok k=some (n,K)):∀{a b:AV}{u:Value},Conv ρ ts a b->aL g b u->aL (g.fV ρ) a u/\(b.one=true->a.one=true)
 |.c v,b,u,h,C=>by
  simp only[Conv]at h;rcases h with rfl|h
  ·simp only[aL]at C ⊢;exact⟨C,λh=>h⟩
  ·have:=tP b v u h C;simp only[aL];exact⟨this.1,this.2⟩
 |.own .exact s rows,b,u,h,C=>by
  simp only[Conv]at h;subst h;simp only[aL]at C ⊢;exact⟨C,λh=>h⟩
 |.own (.tok k m) s rows,b,u,h,C=>by
  simp only[Conv]at h;obtain⟨o,h1,⟨rfl,q,rfl,hq⟩|⟨O,n,rfl,h2,rfl⟩⟩:=h
  ·simp only[aL]at C ⊢;obtain⟨base,p,V,I,W,G,E,T⟩:=C;refine⟨⟨base,p,V,I,W,G,?_,m,none,?_,aaj _,λ_ => .inl T⟩,λ_=>rfl⟩
   ·rcases hq with rfl|rfl
    ·exact E
    ·exact .inl Z
   simp only[Gh.fV,h1]
  ·simp only[aL]at C ⊢;obtain⟨base,p,V,I,W,G,E,H,K,T,D,N⟩:=C;obtain⟨B,S⟩:=Y O n h2;rw[T]at S;simp at S;obtain⟨rfl,rfl⟩:=S;refine⟨⟨base,p,V,I,W,G,E,m,K,?_,aaj _,λ_=>N Z⟩,λ_=>rfl⟩;simp only[Gh.fV,h1,T]
 |.ptr k off,b,u,h,C=>by
  simp only[Conv]at h;obtain⟨O,h1,rfl⟩:=h;simp only[aL]at C ⊢;obtain⟨b,I,W⟩:=C;exact⟨⟨b,by simp only[Gh.fV,h1,I],W⟩,λ_=>rfl⟩
 |.gS k off s n,b,u,h,C=>by
  simp only[Conv]at h;obtain⟨O,h1,rfl⟩:=h;simp only[aL]at C ⊢;obtain⟨b,V,o,I,W,G,E⟩:=C;exact⟨⟨b,V,o,by simp only[Gh.fV,h1,I],W,G,by simp only[Gh.fV,h1];exact E⟩,λ_=>rfl⟩
 |.any,b,u,h,C=>by
  simp only[Conv]at h;have:=wV h C;simp only[aL];refine⟨⟨λvs e=>?_,λvs e=>?_⟩,λ_=>rfl⟩<;>(subst e;simp[Value.oneCell']at this)
 |.agg l,b,u,h,C=>by
  simp only[Conv]at h;obtain⟨U,rfl,h1⟩:=h;simp only[aL]at C ⊢;obtain⟨vs,I,W,G⟩:=C;obtain⟨P,Q⟩:=xd Y h1 W;exact⟨⟨vs,I,P,Q G⟩,λh=>by simp[AV.one]at h⟩
 |.eY l,b,u,h,C=>by
  simp only[Conv]at h;obtain⟨U,rfl,h1⟩:=h;simp only[aL]at C ⊢;obtain⟨vs,I,W,G⟩:=C;obtain⟨P,Q⟩:=xd Y h1 W;refine⟨⟨vs,I,P,?_⟩,λh=>by simp[AV.one]at h⟩;rw[(bJ.get P).1,<- (bJ.get W).1];exact G
def xd(Y:∀k n,an k ts=some n->∃K,g.tok k=some (n,K)):∀{l U:L AV}{us:L Value},eF ρ ts l U->bJ g U us->bJ (g.fV ρ) l us/\(U.all AV.one=true->l.all AV.one=true)
 |[],U,us,h,C=>by
  simp only[eF]at h;subst h;simp only[bJ]at C ⊢;exact⟨C,λh=>h⟩
 |a::l,U,us,h,C=>by
  simp only[eF]at h;obtain⟨b,r,rfl,h1,h2⟩:=h;simp only[bJ]at C ⊢;obtain⟨u,us',rfl,M,J⟩:=C;obtain⟨I,W⟩:=sn Y h1 M;obtain⟨G,E⟩:=xd Y h2 J;refine⟨⟨u,us',Z,I,G⟩,λh=>?_⟩;simp only[aeL,aai]at h ⊢;exact⟨W h.1,E h.2⟩
end
def C0{w:World}(Y:∀k n,an k ts=some n->∃K,g.tok k=some (n,K)){b:Nat}:∀{l O:L AV}{o:Nat},eF ρ ts l O->cB w g b o O->cB w (g.fV ρ) b o l
 |[],_,_,_,_=>trivial
 |a::l,O,o,h,hc=>by
  simp only[eF]at h;obtain⟨x,r,rfl,h1,h2⟩:=h;obtain⟨⟨u,W,H,p⟩,c4,c5⟩:=hc;obtain⟨I,q⟩:=sn Y h1 H;exact⟨⟨u,W,I,q p⟩,c4,C0 Y h2 c5⟩
end
def pE{w:World}{g:Gh}{σ:St}(h:Inv w g σ):∀k n,an k σ.toks=some n->∃K,g.tok k=some (n,K):=λk n e=>by
 obtain⟨K,I,_⟩:=h.tok k n e;exact⟨K,I⟩
def Inv.fV{w:World}{g:Gh}{σ:St}(h:Inv w g σ)(ρ:Ren)(σ':St)
  (hb:∀k cells,an k σ'.boxes=some cells->∃old oc,ρ.bx k=some old/\an old σ.boxes=some oc/\eF ρ σ.toks cells oc)
  (hbi:∀k k' old,ρ.bx k=some old->ρ.bx k'=some old->k=k')
  (ht:∀k n,an k σ'.toks=some n->∃o,ρ.tk k=some (n,o)/\∀old,o=some old->∃n',an old σ.toks=some n')
  (hti:∀k k' m m' old,ρ.tk k=some (m,some old)->ρ.tk k'=some (m',some old)->k=k')
  (hu:∀k,ρ.bx k≠none\/ρ.tk k≠none->k∈σ'.used) :
  Inv w (g.fV ρ) σ'/\((∀k,1000000<=k->an k σ'.boxes≠none->ρ.bx k=some k)->iK w g σ w (g.fV ρ) σ'):=by
 have hts:=pE h
 have abt:∀k n b lo hi,an k σ'.toks=some n->(g.fV ρ).tok k=some (n,some (b,lo,hi))->∃old n' m,ρ.tk k=some (m,some old)/\an old σ.toks=some n'/\g.tok old=some (n',some (b,lo,hi)):=by
  intro k n b lo hi e e1
  obtain⟨o,h1,h2⟩:=ht k n e
  cases o with
  |none=>simp[Gh.fV,h1]at e1
  |some old =>
   obtain⟨n',h3⟩:=h2 old rfl
   obtain⟨gK,h4⟩:=hts old n' h3
   simp[Gh.fV,h1,h4]at e1
   subst e1
   exact⟨old,n',n,h1,h3,h4⟩
 have adh:∀k b,(g.fV ρ).box k=some b->∃old,ρ.bx k=some old/\g.box old=some b:=by
  intro k b e
  simp only[Gh.fV]at e
  split at e
  ·rename_i old ho;exact⟨old,ho,e⟩
  ·simp at e
 refine⟨⟨h.pQ,?_,?_,?_,?_,?_,?_⟩,λaga=>⟨Z,Z,Z,aaj _,λ_ _ _=>rfl,λ_ _ _ _=>⟨Z,Z⟩,j8.le.refl _,λ_ _ _ h => .inl h,?_,?_,?_⟩⟩
 ·intro k cells e
  obtain⟨old,oc,h1,h2,h3⟩:=hb k cells e
  obtain⟨b,h4,h5,h6,h7⟩:=h.box old oc h2
  exact⟨b,by simp only[Gh.fV,h1,h4],h5,h6,C0 hts h3 h7⟩
 ·intro k k' cs cs' b e e' e1 e2
  obtain⟨old,oc,h1,h2,_⟩:=hb k cs e
  obtain⟨old',Zc,yG,B8,_⟩:=hb k' cs' e'
  simp only[Gh.fV,h1,yG]at e1 e2
  have:=h.gk old old' oc Zc b h2 B8 e1 e2
  subst this
  exact hbi k k' old h1 yG
 ·intro k n e
  obtain⟨o,h1,h2⟩:=ht k n e
  cases o with
  |none=>exact⟨none,by simp only[Gh.fV,h1],λ_ _ _ h=>by simp at h⟩
  |some old =>
   obtain⟨n',h3⟩:=h2 old rfl
   obtain⟨gK,h4,h5⟩:=h.tok old n' h3
   refine⟨gK,by simp only[Gh.fV,h1,h4],λb lo hi hr=>?_⟩
   obtain⟨f1,f2,f3⟩:=h5 b lo hi hr
   refine⟨f1,f2,λk' cs e'=>?_⟩
   obtain⟨old',Zc,g1,g2,_⟩:=hb k' cs e'
   simp only[Gh.fV,g1]
   exact f3 old' Zc g2
 ·intro k k' n n' b lo hi lo' hi' e e' e1 e2
  obtain⟨old,m1,q1,h1,h2,h3⟩:=abt k n b lo hi e e1
  obtain⟨old',m1',q1',yG,B8,Vn⟩:=abt k' n' b lo' hi' e' e2
  have:=h.iu old old' m1 m1' b lo hi lo' hi' h2 B8 h3 Vn
  subst this
  exact hti k k' _ _ old h1 yG
 ·intro k e
  apply hu k
  rcases e with e|e
  ·left;intro hn;apply e;simp[Gh.fV,hn]
  ·right;intro hn;apply e;simp[Gh.fV,hn]
 ·intro k cs b e e1 o
  obtain⟨old,oc,h1,h2,_⟩:=hb k cs e
  simp only[Gh.fV,h1]at e1 ⊢
  exact h.room old oc b h2 e1 o
 ·intro k cs b e e1
  obtain⟨old,oc,h1,h2,_⟩:=hb k cs e
  simp only[Gh.fV,h1]at e1
  exact .inr ⟨old,oc,h2,e1⟩
 ·intro k n b lo hi e e1
  obtain⟨old,n',m,h1,h2,h3⟩:=abt k n b lo hi e e1
  exact .inr ⟨old,n',lo,hi,h2,h3,aaj _,aaj _⟩
 ·intro k hk e
  have h1:=aga k hk e
  cases hc:an k σ'.boxes with
  |none=>exact absurd hc e
  |some cells =>
   obtain⟨old,oc,h2,h3,_⟩:=hb k cells hc
   rw[h1]at h2;simp at h2;subst h2
   exact⟨by rw[h3];simp,by simp[Gh.fV,h1],by simp[Gh.fV,h1]⟩
def distinct:L Nat->Bool
 |[]=>true
 |x::l=>match mem x l with
  |true=>false
  |false=>distinct l
def dW{α:Type}{k:Nat}{v:α}:∀{l:L (Nat×α)},an k l=some v->(k,v)∈l
 |[],h=>by simp[an]at h
 |(j,x)::l,h=>by
  rw[ai]at h;split at h
  ·simp_all
  ·exact aeM _ (dW h)
def gY{α:Type}{k:Nat}{v:α}:∀{l:L (Nat×α)},distinct (l.map (·.1))=true->(k,v)∈l->an k l=some v
 |[],_,h=>by simp at h
 |(j,x)::l,O,h=>by
  simp only[aed,distinct]at O;split at O
  ·simp at O
  ·rename_i C;rw[ai];rcases List.mem_cons.1 h with h1|h1
   ·simp_all
   ·have:k≠j:=by
     intro Y;exact cY C (List.mem_map.2 ⟨(k,v),h1,Y⟩)
    rw[if_neg this];exact gY O h1
def qv{α:Type}{k:Nat}:∀{l:L (Nat×α)},k ∉ l.map (·.1)->an k l=none
 |[],_=>rfl
 |(j,x)::l,h=>by
  simp only[aed,aeB,not_or]at h;rw[ai,if_neg h.1];exact qv h.2
def oH{α:Type}{k:Nat}{l:L (Nat×α)}(h:an k l≠none):k∈l.map (·.1):=by
 by_cases D:k∈l.map (·.1)
 ·exact D
 ·exact absurd (qv D) h
def nQ{l:L (Nat×Nat)}(h:distinct (l.map (·.2))=true){k k' v:Nat}(h1:(k,v)∈l)(h2:(k',v)∈l):k=k':=by
 induction l with
 |nil=>simp at h1
 |cons x l W =>
  simp only[aed,distinct]at h;split at h
  ·simp at h
  ·rename_i C;have Y:=cY C;rcases List.mem_cons.1 h1 with I|I
   ·grind
   ·grind
def pR{α:Type}:L (Nat×α)->L (Nat×α)->L (Nat×α)
 |[],b=>b
 |(k,v)::l,b=>pR l (vL k v b)
def uH{α:Type}:L (Nat×α)->L (Nat×α)->Option (L (Nat×α))
 |[],b=>some b
 |(k,v)::l,b=>match yU k v b with
  |some O=>uH l O
  |none=>none
def FD{α:Type}:∀(l b:L (Nat×α)),uH l b=some (pR l b)
 |[],b=>rfl
 |(k,v)::l,b=>by simp only[uH,pR,tN,FD l]
def lO{α:Type}{k:Nat}:∀{l b:L (Nat×α)},distinct (l.map (·.1))=true->an k (pR l b)=match an k l with
  |some v=>some v
  |none=>an k b
 |[],b,_=>rfl
 |(j,x)::l,b,O=>by
  simp only[aed,distinct]at O;split at O
  ·simp at O
  ·rename_i C;simp only[pR];rw[lO O,ai];by_cases D:k=j
   ·subst D;rw[if_pos Z,qv (cY C)];simp[eZ]
   ·rw[if_neg D,eZ,if_neg D]
def PJ(nb:L (Nat×L AV))(Y:L (Nat×Nat))(W:L Nat)(Q:distinct (nb.map (·.1))=true)(I:distinct (Y.map (·.1))=true) :
  iA (λσ=>(⟨pR nb σ.boxes,pR Y σ.toks,W++σ.used⟩:St)) ⟨[],nb.map (·.1)++(Y.map (·.1)++W)⟩ where
 out:=λσ k D=>by
  simp only[adT,not_or]at D;refine⟨?_,?_,?_⟩
  ·simp only[lO Q,qv D.1]
  ·simp only[lO I,qv D.2.1]
  ·simp[D.2.2]
 same:=λσ V h k D=>by
  obtain⟨P,q,G⟩:=h k (.inr D);refine⟨?_,?_,?_⟩
  ·simp only[lO Q,P]
  ·simp only[lO I,q]
  ·simp_all
end Go.cK
namespace Go.cK
inductive LV where
 |c (v:CV)
 |own (s:Nat) (rows:List CV)
 deriving Inhabited
inductive PA where
 |v (x:LV)
 |box (cells:List LV)
 deriving Inhabited
def LV.av(k m:Nat):LV->AV
 |.c v => .c v
 |.own s rows => .own (.tok k m) s rows
def LV.tk(k m:Nat):LV->L (Nat×Nat)
 |.c _=>[]
 |.own _ _=>[(k,m)]
def Ca(m:Nat):Nat->L LV->L AV
 |_,[]=>[]
 |k,x::l=>x.av k m::Ca m (k+1) l
def zy(m:Nat):Nat->L LV->L (Nat×Nat)
 |_,[]=>[]
 |k,x::l=>x.tk k m++zy m (k+1) l
abbrev pb(i:Nat):Nat:=1000000+1000*i
abbrev rk:Nat:=5000000
def zz:Nat->L PA->L AV
 |_,[]=>[]
 |i,.v x::l=>x.av (pb i) 0::zz (i+1) l
 |i,.box _::l => .ptr (pb i) 0::zz (i+1) l
def FE:Nat->L PA->L (Nat×L AV)
 |_,[]=>[]
 |i,.v _::l=>FE (i+1) l
 |i,.box cells::l=>(pb i,Ca 0 (pb i+1) cells)::FE (i+1) l
def FF:Nat->L PA->L (Nat×Nat)
 |_,[]=>[]
 |i,.v x::l=>x.tk (pb i) 0++FF (i+1) l
 |i,.box cells::l=>zy 0 (pb i+1) cells++FF (i+1) l
def tG(U:L PA):St:=⟨FE 0 U,FF 0 U,(FE 0 U).map (·.1)++(FF 0 U).map (·.1)⟩
def rQ:L (Nat×L LV)->L (Nat×L AV)
 |[]=>[]
 |(i,cells)::l=>(pb i,Ca 1 (pb i+1) cells)::rQ l
def qf:L (Nat×L LV)->L (Nat×Nat)
 |[]=>[]
 |(i,cells)::l=>zy 1 (pb i+1) cells++qf l
def yX(M:L (Nat×L LV))(rs:L LV):St:=⟨rQ M,qf M++zy 0 rk rs,(rQ M).map (·.1)++(qf M++zy 0 rk rs).map (·.1)⟩
def rC(s:Nat):L LV->AV
 |[] => .c .undef
 |[x]=>x.av (rk+s) 0
 |l => .eY (Ca 0 (rk+s) l)
def abv(g:Gh)(rs:L LV)(u:Value):Prop:=aL g (rC 0 rs) u
def ER(β:jZ)(rs:L LV)(M:L (Nat×L LV)):Ending->World->Prop:=λe w' =>
 ∃u g',e = .returned u/\abv g' rs u/\Inv w' g' (yX M rs)/\iK β.w β.g β.σ w' g' (yX M rs)
def cn(P:Program)(X:Ctx)(f:FuncId)(U:L PA)(rs:L LV)(M:L (Nat×L LV)):Prop :=
 Enters P f/\∀(g:Gh)(w:World)(vs:L Value),Inv w g (tG U)->pP X g.G->bJ g (zz 0 U) vs ->
  Calls P f vs.toArray w (ER ⟨w,g,tG U⟩ rs M)
def cn.of{P:Program}{X:Ctx}{f:FuncId}{S:Func}{c:Code}{U:L PA}{rs:L LV}{M:L (Nat×L LV)}(hf:P.funcs[f]?=some S)(Q:S.body=some c)(B:Enters P f)
  (A:U.length<=S.ntmps)(env:Env)(D:env=((zz 0 U).zipIdx.map λ(v,i)=>(i,v)))
  (h:∀β,AK P X f S.ntmps β (ER β rs M) [.code c] env (tG U)):cn P X f U rs M:=by
 refine⟨B,λg w vs N O q cs=>?_⟩;have W:=(bJ.get q).1;have DZ:(zz 0 U).length=U.length:=by
  have:∀(l:L PA)(i:Nat),(zz i l).length=l.length:=by
   intro l
   induction l with
   |nil=>intro i;rfl
   |cons p l V=>intro i;cases p<;>simp[zz,V]
  exact this U 0
 have J:Live X ⟨w,g,tG U⟩ S.ntmps env (tG U) g w {tmps:=vs.toArray++Array.replicate (S.ntmps-vs.toArray.size) undef,defers:=[]}:=by
  refine⟨N,O,?_,iK.refl _ _ _,?_,Z⟩
  ·intro t a e;subst D;have Y:∀(l:L AV)(us:L Value)(k:Nat),bJ g l us->an t ((l.zipIdx k).map λ(v,i)=>(i,v))=some a->k<=t/\∃u,us[t-k]?=some u/\aL g a u:=by
    intro l
    induction l with
    |nil=>intro us k _ e;simp[an]at e
    |cons v l V =>
     intro us k I e;simp only[bJ]at I;obtain⟨u,us,rfl,h1,h2⟩:=I;simp only[afx,aed,ai]at e;split at e
     ·simp_all
     ·grind
   obtain⟨_,u,T,K⟩:=Y (zz 0 U) vs 0 q e;simp at T;have C:t<vs.length:=(List.getElem?_eq_some_iff.1 T).1;have:(vs.toArray++Array.replicate (S.ntmps-vs.toArray.size) undef).getD t undef=u:=by
    rw[aeW,aeK acR];simp[T]
   rw[this];exact K
  ·simp;omega
 obtain⟨e,w',H,h1,T,K,G⟩:=h ⟨w,g,tG U⟩ g w _ cs J;have E:Frame.enter P f vs.toArray .normal =
   (top f).at {tmps:=vs.toArray++Array.replicate (S.ntmps-vs.toArray.size) undef,defers:=[]} [.code c]:=by
  simp[Frame.enter,Frame.at,hf,Q,top]
 exact⟨_,w',H,h1,by rw[E];exact T,K,G⟩
def cn.ofL{P:Program}{X:Ctx}{f:FuncId}{S:Func}{c:Code}{U:L PA}{rs:L LV}{M:L (Nat×L LV)}(hf:P.funcs[f]?=some S)(Q:S.body=some c)(B:Enters P f)
  (V:U.length<=S.ntmps)(env:Env)(bs:L (Nat×L AV))(ts:L (Nat×Nat))(us:L Nat)(q:env=((zz 0 U).zipIdx.map λ(v,i)=>(i,v)))(O:tG U=⟨bs,ts,us⟩)
  (h:∀β,AK P X f S.ntmps β (ER β rs M) [.code c] env ⟨bs,ts,us⟩):cn P X f U rs M :=
 cn.of hf Q B V env q λβ=>by rw[O];exact h β
def M1(ts:L (Nat×Nat))(t:Nat):AV->Option (L CV)
 |.own .exact s rows=>match gI s t rows with
  |true=>some rows
  |false=>none
 |.own (.tok k n) s rows=>match an k ts with
  |some m=>match Nat.beq m n with
   |true=>match Nat.beq s t with
    |true=>some rows
    |false=>none
   |false=>none
  |none=>none
 |_=>none
def Cb(ts:L (Nat×Nat)):LV->AV->Prop
 |.c v,a=>close a=some v
 |.own s rows,a=>M1 ts s a=some rows
def ki(ts:L (Nat×Nat)):L LV->L AV->Prop
 |[],l=>l=[]
 |x::xs,l=>∃a r,l=a::r/\Cb ts x a/\ki ts xs r
def Cc(m k:Nat):LV->AV->L (Nat×(Nat×Option Nat))
 |.own _ _,.own .exact _ _=>[(k,(m,none))]
 |.own _ _,.own (.tok k' _) _ _=>[(k,(m,some k'))]
 |_,_=>[]
def oC(m:Nat):Nat->L LV->L AV->L (Nat×(Nat×Option Nat))
 |_,[],_=>[]
 |_,_::_,[]=>[]
 |k,x::xs,a::l=>Cc m k x a++oC m (k+1) xs l
def sq{ts:L (Nat×Nat)}{a:AV}{s:Nat}{rows:L CV}(h:M1 ts s a=some rows):(∃q,a = .own .exact q rows/\(q=s\/rows=[]))\/∃k n,a = .own (.tok k n) s rows/\an k ts=some n:=by
 unfold M1 at h;split at h
 ·split at h
  ·rename_i Y;simp at h;subst h;exact .inl ⟨_,Z,oT Y⟩
  ·simp at h
 ·split at h
  ·rename_i m C;split at h
   ·rename_i Q;split at h
    ·rename_i Y;simp at h;subst h;have:=beq_true Q;subst this;have:=beq_true Y;subst this;exact .inr ⟨_,_,Z,C⟩
    ·simp at h
   ·simp at h
  ·simp at h
 ·simp at h
def RL{ρ:Ren}{ts:L (Nat×Nat)}{m k:Nat}:∀{x:LV}{a:AV},Cb ts x a->(∀e∈Cc m k x a,ρ.tk e.1=some e.2)->Conv ρ ts (x.av k m) a
 |.c v,a,h,_=>by simp only[Cb]at h;simp only[LV.av,Conv];exact .inr h
 |.own s rows,a,h,I=>by
  simp only[Cb]at h;simp only[LV.av,Conv];rcases sq h with ⟨q,rfl,hq⟩|⟨k',n,rfl,B⟩
  ·exact⟨none,I (k,(m,none)) (by simp[Cc]),.inl ⟨Z,q,Z,hq⟩⟩
  ·exact⟨some k',I (k,(m,some k')) (by simp[Cc]),.inr ⟨k',n,Z,B,Z⟩⟩
def AZ{ρ:Ren}{ts:L (Nat×Nat)}{m:Nat}:∀{k:Nat}{xs:L LV}{l:L AV},ki ts xs l->(∀e∈oC m k xs l,ρ.tk e.1=some e.2)->eF ρ ts (Ca m k xs) l
 |k,[],l,h,_=>by simp only[ki]at h;subst h;simp[Ca,eF]
 |k,x::xs,l,h,I=>by
  simp only[ki]at h;obtain⟨a,r,rfl,h1,h2⟩:=h;simp only[Ca,eF];simp only[oC,adT]at I;exact⟨a,r,Z,RL h1 (λe S=>I e (.inl S)),AZ h2 (λe S=>I e (.inr S))⟩
def M3{ts:L (Nat×Nat)}{m k j n:Nat}:∀{x:LV}{a:AV},Cb ts x a->(j,n)∈x.tk k m->n=m/\∃o,(j,(m,o))∈Cc m k x a/\∀O,o=some O->∃W,an O ts=some W
 |.c v,a,h,C=>by simp[LV.tk]at C
 |.own s rows,a,h,C=>by
  simp only[Cb]at h;simp[LV.tk]at C;obtain⟨rfl,rfl⟩:=C;rcases sq h with ⟨q,rfl,hq⟩|⟨k',W,rfl,B⟩
  ·exact⟨Z,none,by simp[Cc],λ_ h=>by simp at h⟩
  ·exact⟨rfl,some k',by simp[Cc],λO h=>by simp at h;subst h;exact⟨W,B⟩⟩
def yc{ts:L (Nat×Nat)}{m j n:Nat}:∀{k:Nat}{xs:L LV}{l:L AV},ki ts xs l->(j,n)∈zy m k xs->n=m/\∃o,(j,(m,o))∈oC m k xs l/\∀O,o=some O->∃q,an O ts=some q
 |k,[],l,h,C=>by simp[zy]at C
 |k,x::xs,l,h,C=>by
  simp only[ki]at h;obtain⟨a,r,rfl,h1,h2⟩:=h;simp only[zy,adT]at C;simp only[oC,adT];rcases C with C|C
  ·obtain⟨I,o,W,Y⟩:=M3 h1 C;exact⟨I,o,.inl W,Y⟩
  ·obtain⟨I,o,W,Y⟩:=yc h2 C;exact⟨I,o,.inr W,Y⟩
def M4{ts:L (Nat×Nat)}{m k:Nat}:∀{x:LV}{a:AV},Cb ts x a->∀e∈Cc m k x a,e.1∈(x.tk k m).map (·.1)
 |.c v,a,h,e,S=>by cases a<;>simp[Cc]at S
 |.own s rows,a,h,e,S=>by
  simp only[Cb]at h;rcases sq h with ⟨q,rfl,hq⟩|⟨k',W,rfl,B⟩<;>simp[Cc]at S<;>subst S<;>simp[LV.tk]
def yd{ts:L (Nat×Nat)}{m:Nat}:∀{k:Nat}{xs:L LV}{l:L AV},ki ts xs l->∀e∈oC m k xs l,e.1∈(zy m k xs).map (·.1)
 |k,[],l,h,e,he=>by simp only[ki]at h;subst h;simp[oC]at he
 |k,x::xs,l,h,e,he=>by
  simp only[ki]at h;obtain⟨a,r,rfl,h1,h2⟩:=h;simp only[oC,adT]at he;simp only[zy,aeC,adT];exact he.imp (M4 h1 e) (yd h2 e)
def jJ(bs:L (Nat×L AV))(ts:L (Nat×Nat)):L PA->L AV->Prop
 |[],l=>l=[]
 |.v x::ps,l=>∃a r,l=a::r/\Cb ts x a/\jJ bs ts ps r
 |.box cells::ps,l=>∃Y G r,l = .ptr Y 0::r/\an Y bs=some G/\ki ts cells G/\jJ bs ts ps r
def kF(bs:L (Nat×L AV)):Nat->L PA->L AV->L (Nat×Nat)
 |_,[],_=>[]
 |_,_::_,[]=>[]
 |i,.v _::ps,_::l=>kF bs (i+1) ps l
 |i,.box _::ps,.ptr kb _::l=>(pb i,kb)::kF bs (i+1) ps l
 |i,.box _::ps,_::l=>kF bs (i+1) ps l
def j7(bs:L (Nat×L AV)):Nat->L PA->L AV->L (Nat×(Nat×Option Nat))
 |_,[],_=>[]
 |_,_::_,[]=>[]
 |i,.v x::ps,a::l=>Cc 0 (pb i) x a++j7 bs (i+1) ps l
 |i,.box cells::ps,.ptr kb _::l=>(match an kb bs with
  |some G=>oC 0 (pb i+1) cells G
  |none=>[])++j7 bs (i+1) ps l
 |i,.box _::ps,_::l=>j7 bs (i+1) ps l
section
variable {bs : L (Nat × L AV)}{ts : L (Nat × Nat)}
def zO{ρ:Ren}:∀{i:Nat}{U:L PA}{l:L AV},jJ bs ts U l->(∀e∈kF bs i U l,ρ.bx e.1=some e.2)->(∀e∈j7 bs i U l,ρ.tk e.1=some e.2)->eF ρ ts (zz i U) l
 |i,[],l,h,_,_=>by simp only[jJ]at h;subst h;simp[zz,eF]
 |i,.v x::U,l,h,h1,h2=>by
  simp only[jJ]at h;obtain⟨a,r,rfl,V,T⟩:=h;simp only[zz,eF];simp only[j7,adT]at h2;exact⟨a,r,Z,RL V (λe S=>h2 e (.inl S)),zO T (by simpa only[kF]using h1) (λe S=>h2 e (.inr S))⟩
 |i,.box cells::U,l,h,h1,h2=>by
  simp only[jJ]at h;obtain⟨Y,G,r,rfl,V,T,K⟩:=h;simp only[zz,eF];simp only[j7,V,adT]at h2;simp only[kF,aeB]at h1;exact⟨_,r,Z,by simp only[Conv];exact⟨Y,h1 (pb i,Y) (.inl Z),Z⟩,zO K (λe S=>h1 e (.inr S)) (λe S=>h2 e (.inr S))⟩
def tW:∀{i:Nat}{U:L PA}{l:L AV}{k:Nat}{cells:L AV},jJ bs ts U l->(k,cells)∈FE i U ->
  ∃W G Y,(k,W)∈kF bs i U l/\an W bs=some G/\cells=Ca 0 (k+1) Y/\ki ts Y G/\∀e∈oC 0 (k+1) Y G,e∈j7 bs i U l
 |i,[],l,k,cells,h,C=>by simp[FE]at C
 |i,.v x::U,l,k,cells,h,C=>by
  simp only[jJ]at h;obtain⟨a,r,rfl,P,O⟩:=h;simp only[FE]at C;obtain⟨W,G,Y,I,q,V,E,T⟩:=tW O C;simp only[kF,j7,adT];exact⟨W,G,Y,I,q,V,E,λe S => .inr (T e S)⟩
 |i,.box cs::U,l,k,cells,h,C=>by
  simp only[jJ]at h;obtain⟨W,G,r,rfl,P,O,K⟩:=h;simp only[FE,aeB]at C;simp only[kF,j7,P,adT,aeB];rcases C with C|C
  ·grind
  ·obtain⟨Q,N,Y,I,q,V,E,T⟩:=tW K C;exact⟨Q,N,Y,.inr I,q,V,E,λe S => .inr (T e S)⟩
def ye:∀{i:Nat}{U:L PA}{l:L AV}{j n:Nat},jJ bs ts U l->(j,n)∈FF i U->n=0/\∃o,(j,(0,o))∈j7 bs i U l/\∀O,o=some O->∃q,an O ts=some q
 |i,[],l,j,n,h,C=>by simp[FF]at C
 |i,.v x::U,l,j,n,h,C=>by
  simp only[jJ]at h;obtain⟨a,r,rfl,V,S⟩:=h;simp only[FF,adT]at C;simp only[j7,adT];rcases C with C|C
  ·obtain⟨I,o,W,Y⟩:=M3 V C;exact⟨I,o,.inl W,Y⟩
  ·obtain⟨I,o,W,Y⟩:=ye S C;exact⟨I,o,.inr W,Y⟩
 |i,.box cs::U,l,j,n,h,C=>by
  simp only[jJ]at h;obtain⟨T,G,r,rfl,V,S,K⟩:=h;simp only[FF,adT]at C;simp only[j7,V,adT];rcases C with C|C
  ·obtain⟨I,o,W,Y⟩:=yc S C;exact⟨I,o,.inl W,Y⟩
  ·obtain⟨I,o,W,Y⟩:=ye K C;exact⟨I,o,.inr W,Y⟩
def zP:∀{i:Nat}{U:L PA}{l:L AV},jJ bs ts U l->(∀e∈kF bs i U l,e.1∈(FE i U).map (·.1))/\(∀e∈j7 bs i U l,e.1∈(FF i U).map (·.1))
 |i,[],l,h=>by simp only[jJ]at h;subst h;simp[kF,j7]
 |i,.v x::U,l,h=>by
  simp only[jJ]at h;obtain⟨a,r,rfl,V,T⟩:=h;obtain⟨K,Y⟩:=zP (i:=i+1) T;simp only[kF,j7,FE,FF,adT,aeC];exact⟨K,λe S=>S.imp (M4 V e) (Y e)⟩
 |i,.box cs::U,l,h=>by
  simp only[jJ]at h;obtain⟨Q,G,r,rfl,V,T,W⟩:=h;obtain⟨K,Y⟩:=zP (i:=i+1) W;simp only[kF,j7,FE,FF,V,adT,aeC,aeB,aed];refine⟨λe S=>?_,λe S=>S.imp (yd T e) (Y e)⟩;rcases S with rfl|S
  ·exact .inl Z
  ·exact .inr (K e S)
def dx:L (Nat×(Nat×Option Nat))->L Nat
 |[]=>[]
 |(_,(_,some k))::l=>k::dx l
 |(_,(_,none))::l=>dx l
def uX{l:L (Nat×(Nat×Option Nat))}{O:Nat}:O∈dx l↔∃k m,(k,(m,some O))∈l:=by
 induction l with
 |nil=>simp[dx]
 |cons x l Y =>
  obtain⟨k,m,o⟩:=x;cases o with
  |none=>simp[dx,Y]
  |some k' =>
   simp only[dx,aeB,Y];constructor
   ·rintro(rfl|⟨a,b,h⟩)
    ·exact⟨k,m,.inl Z⟩
    ·exact⟨a,b,.inr h⟩
   ·grind
def uY{l:L (Nat×(Nat×Option Nat))}(h:distinct (dx l)=true){k k' m P O:Nat}(h1:(k,(m,some O))∈l)(h2:(k',(P,some O))∈l):k=k':=by
 induction l with
 |nil=>simp at h1
 |cons x l V =>
  obtain⟨q,p,o⟩:=x;cases o with
  |none =>
   simp only[dx]at h;simp at h1 h2;exact V h h1 h2
  |some z =>
   simp only[dx,distinct]at h;split at h
   ·simp at h
   ·rename_i C;have Y:=cY C;rcases List.mem_cons.1 h1 with I|I
    ·rcases List.mem_cons.1 h2 with W|W
     ·simp_all
     ·simp at I;rw[I.2.2]at W;exact absurd (uX.2 ⟨_,_,W⟩) Y
    ·rcases List.mem_cons.1 h2 with W|W
     ·simp at W;rw[W.2.2]at I;exact absurd (uX.2 ⟨_,_,I⟩) Y
     ·exact V h I W
def yY(bs:L (Nat×L AV))(U:L PA)(l:L AV):Ren:=⟨λk=>an k (kF bs 0 U l),λk=>an k (j7 bs 0 U l)⟩
end
structure tX(bs:List (Nat×List AV))(ts:List (Nat×Nat))(ps:List PA)(l:List AV):Prop where
 ok:jJ bs ts ps l
 d1:distinct ((kF bs 0 ps l).map (·.1))=true
 d2:distinct ((kF bs 0 ps l).map (·.2))=true
 d3:distinct ((j7 bs 0 ps l).map (·.1))=true
 d4:distinct (dx (j7 bs 0 ps l))=true
def tX.inv{σ:St}{U:L PA}{l:L AV}(h:tX σ.boxes σ.toks U l){w:World}{g:Gh}(K:Inv w g σ):Inv w (g.fV (yY σ.boxes U l)) (tG U):=by
 refine(K.fV (yY σ.boxes U l) (tG U) ?_ ?_ ?_ ?_ ?_).1
 ·intro k cells e;obtain⟨Y,G,P,I,W,V,E,q⟩:=tW h.ok (dW e);refine⟨Y,G,gY h.d1 I,W,?_⟩;subst V;exact AZ E λe S=>gY h.d3 (q e S)
 ·intro k k' O I W;exact nQ h.d2 (dW I) (dW W)
 ·intro k n e;obtain⟨rfl,o,I,W⟩:=ye h.ok (dW e);exact⟨o,gY h.d3 I,W⟩
 ·intro k k' m M O I W;exact uY h.d4 (dW I) (dW W)
 ·intro k e;obtain⟨T,Q⟩:=zP (i:=0) h.ok;simp only[tG,adT];rcases e with e|e
  ·left;obtain⟨x,N,rfl⟩:=List.mem_map.1 (oH e);exact T x N
  ·right;obtain⟨x,N,rfl⟩:=List.mem_map.1 (oH e);exact Q x N
def tX.rel{σ:St}{U:L PA}{l:L AV}(h:tX σ.boxes σ.toks U l){w:World}{g:Gh}(K:Inv w g σ){vs:L Value}(M:bJ g l vs):bJ (g.fV (yY σ.boxes U l)) (zz 0 U) vs :=
 (xd (pE K) (zO (ρ:=yY σ.boxes U l) h.ok (λe S=>gY h.d1 S) (λe S=>gY h.d3 S)) M).1
end Go.cK
namespace Go.cK
def qJ(s:Nat):L (Nat×Nat)->L (Nat×Nat)
 |[]=>[]
 |(k,n)::l=>(k+s,n)::qJ s l
def qK(ts:L (Nat×Nat)):L Nat->L (Nat×Nat)
 |[]=>[]
 |k::l=>match an k ts with
  |some n=>(k,n+1)::qK ts l
  |none=>qK ts l
def PK(m:Nat):Nat->L LV->Option (L AV)
 |_,[]=>some []
 |k,.c v::l=>match PK m (k+1) l with
  |some r=>some (.c v::r)
  |none=>none
 |k,.own s rows::l=>match PK m (k+1) l with
  |some r=>some (.own (.tok k m) s rows::r)
  |none=>none
def D0(m:Nat):∀(k:Nat)(l:L LV),PK m k l=some (Ca m k l)
 |_,[]=>rfl
 |k,.c v::l=>by simp only[PK,D0 m (k+1) l,Ca,LV.av]
 |k,.own s rows::l=>by simp only[PK,D0 m (k+1) l,Ca,LV.av]
def JN(bx:L (Nat×Nat))(s:Nat):L (Nat×L LV)->Option (L (Nat×L AV))
 |[]=>some []
 |(i,cells)::l=>match an (pb i) bx with
  |some Y=>match PK 1 (pb i+1+s) cells with
   |some c=>match JN bx s l with
    |some r=>some ((Y,c)::r)
    |none=>none
   |none=>none
  |none=>none
def gN{α:Type}:L (Nat×α)->L Nat
 |[]=>[]
 |(k,_)::l=>k::gN l
def mg{α:Type}:∀(l:L (Nat×α)),gN l=l.map (·.1)
 |[]=>rfl
 |(k,_)::l=>by simp[gN,mg l]
def FG(l:L Nat):L Nat->Bool
 |[]=>true
 |x::r=>match mem x l with
  |true=>FG l r
  |false=>false
def Kc(l:L Nat):L Nat->Bool
 |[]=>true
 |x::r=>match mem x l with
  |true=>false
  |false=>Kc l r
def tY{l:L Nat}:∀{r:L Nat},FG l r=true->∀x∈r,x∈l
 |[],_,x,h=>by simp at h
 |y::r,h,x,O=>by
  simp only[FG]at h;split at h
  ·rename_i C;rcases List.mem_cons.1 O with rfl|O
   ·exact mem_iff.1 C
   ·exact tY h x O
  ·simp at h
def FH{l:L Nat}:∀{r:L Nat},Kc l r=true->∀x∈r,x ∉ l
 |[],_,x,h=>by simp at h
 |y::r,h,x,O=>by
  simp only[Kc]at h;split at h
  ·simp at h
  ·rename_i C;rcases List.mem_cons.1 O with rfl|O
   ·exact cY C
   ·exact FH h x O
def FI{s:Nat}:∀{l:L (Nat×Nat)}{k n:Nat},an k (qJ s l)=some n->∃j,k=j+s/\an j l=some n
 |[],k,n,h=>by simp[qJ,an]at h
 |(j,m)::l,k,n,h=>by
  simp only[qJ,ai]at h;split at h
  ·rename_i D;exact⟨j,D,by rw[ai,if_pos rfl];exact h⟩
  ·rename_i D;obtain⟨i,rfl,h2⟩:=FI h;exact⟨i,Z,by rw[ai,if_neg bn];exact h2⟩
def C2{s:Nat}:∀{l:L (Nat×Nat)}{j:Nat},an (j+s) (qJ s l)=an j l
 |[],j=>rfl
 |(i,m)::l,j=>by
  simp only[qJ,ai];by_cases h:j=i
  ·simp_all
  ·rw[if_neg bn,if_neg h,C2]
def C3{α:Type}{k:Nat}:∀{a b:L (Nat×α)},an k (a++b)=match an k a with
  |some v=>some v
  |none=>an k b
 |[],b=>rfl
 |(j,x)::a,b=>by
  simp only[adU,ai];split
  ·rfl
  ·exact C3
def zQ{ts:L (Nat×Nat)}:∀{l:L Nat}{k n:Nat},an k (qK ts l)=some n->k∈l/\∃m,an k ts=some m/\n=m+1
 |[],k,n,h=>by simp[qK,an]at h
 |j::l,k,n,h=>by
  simp only[qK]at h
  split at h
  ·rename_i m hm
   rw[ai]at h
   split at h
   ·simp_all
   ·obtain⟨h1,h2⟩:=zQ h;exact⟨abu,h2⟩
  ·obtain⟨h1,h2⟩:=zQ h;exact⟨abu,h2⟩
def Cd{ts:L (Nat×Nat)}:∀{l:L Nat}{k m:Nat},k∈l->an k ts=some m->an k (qK ts l)=some (m+1)
 |[],k,m,h,_=>by simp at h
 |j::l,k,m,h,hm=>by
  simp only[qK];by_cases D:k=j
  ·subst D;rw[hm];simp[ai]
  ·have Y:k∈l:=by simpa[D]using h
   split
   ·rw[ai,if_neg D];exact Cd Y hm
   ·exact Cd Y hm
def M5{bx:L (Nat×Nat)}{s:Nat}:∀{M:L (Nat×L LV)}{nb:L (Nat×L AV)},JN bx s M=some nb ->
  (∀k v,(k,v)∈nb->∃i cells,(i,cells)∈M/\an (pb i) bx=some k/\v=Ca 1 (pb i+1+s) cells)/\(∀i cells k,(i,cells)∈M->an (pb i) bx=some k->k∈nb.map (·.1))
 |[],nb,h=>by simp[JN]at h;subst h;simp
 |(i,cells)::M,nb,h=>by
  simp only[JN,D0]at h;split at h
  ·rename_i W Y;split at h
   ·rename_i r C;simp at h;subst h;obtain⟨h1,h2⟩:=M5 C;constructor
    ·grind
    ·grind
   ·simp at h
  ·simp at h
def A0:∀{os:L (Nat×L LV)}{k:Nat}{v:L AV},(k,v)∈rQ os->∃i cells,(i,cells)∈os/\k=pb i/\v=Ca 1 (pb i+1) cells
 |[],k,v,h=>by simp[rQ]at h
 |(i,cells)::os,k,v,h=>by
  simp only[rQ,aeB]at h
  rcases h with h|h
  ·grind
  ·obtain⟨i',c',h1,h2,h3⟩:=A0 h;exact⟨i',c',abu,h2,h3⟩
def M6:∀{M:L (Nat×L LV)}{i:Nat}{cells:L LV},(i,cells)∈M->(pb i,Ca 1 (pb i+1) cells)∈rQ M
 |[],i,cells,h=>by simp at h
 |(j,c)::M,i,cells,h=>by
  simp only[rQ,aeB];rcases List.mem_cons.1 h with h|h
  ·simp_all
  ·exact .inr (M6 h)
def M7:∀{M:L (Nat×L LV)}{i:Nat}{cells:L LV}{e:Nat×Nat},(i,cells)∈M->e∈zy 1 (pb i+1) cells->e∈qf M
 |[],i,cells,e,h,_=>by simp at h
 |(j,c)::M,i,cells,e,h,he=>by
  simp only[qf,adT];rcases List.mem_cons.1 h with h|h
  ·simp_all
  ·exact .inr (M7 h he)
section
variable {g g' : Gh}{s : Nat}
def LV.shift(Y:g.G.le g'.G){m k:Nat}:∀{x:LV}{u:Value},(∀e∈x.tk k m,g'.tok (e.1+s)=g.tok e.1)->aL g (x.av k m) u->aL g' (x.av (k+s) m) u/\((x.av k m).one=true->(x.av (k+s) m).one=true)
 |.c v,u,_,h=>by
  simp only[LV.av,aL]at h ⊢;exact⟨Rel.mono Y _ _ h,λh=>h⟩
 |.own q rows,u,I,h=>by
  simp only[LV.av,aL]at h ⊢;obtain⟨base,p,V,P,W,U,E,N,K,T,S⟩:=h;refine⟨⟨base,p,V,P,W,U,E.mono Y,N,K,?_,S⟩,λ_=>rfl⟩;have:=I (k,m) (by simp[LV.tk]);rw[this];exact T
def IA(Y:g.G.le g'.G){m:Nat}:∀{k:Nat}{xs:L LV}{us:L Value},(∀e∈zy m k xs,g'.tok (e.1+s)=g.tok e.1)->bJ g (Ca m k xs) us->bJ g' (Ca m (k+s) xs) us
 |k,[],us,_,h=>by simp only[Ca,bJ]at h ⊢;exact h
 |k,x::xs,us,I,h=>by
  simp only[Ca,bJ]at h ⊢;simp only[zy,adT]at I;obtain⟨u,us',P,W,V⟩:=h;refine⟨u,us',P,(LV.shift Y (λe S=>I e (.inl S)) W).1,?_⟩;have:=IA Y (k:=k+1) (λe S=>I e (.inr S)) V;rwa[show k+1+s=k+s+1 from by omega]at this
def C4(Y:g.G.le g'.G){w:World}{m b:Nat}:∀{k:Nat}{xs:L LV}{o:Nat},(∀e∈zy m k xs,g'.tok (e.1+s)=g.tok e.1)->cB w g b o (Ca m k xs)->cB w g' b o (Ca m (k+s) xs)
 |k,[],o,_,h=>trivial
 |k,x::xs,o,ht,h=>by
  simp only[zy,adT]at ht;obtain⟨⟨u,W,H,p⟩,c4,c5⟩:=h;obtain⟨I,q⟩:=LV.shift (k:=k) Y (λe S=>ht e (.inl S)) H;have:=C4 Y (k:=k+1) (λe S=>ht e (.inr S)) c5;rw[show k+1+s=k+s+1 from by omega]at this;exact⟨⟨u,W,I,q p⟩,c4,this⟩
def FJ(m:Nat):∀(k:Nat)(xs:L LV),(Ca m k xs).length=xs.length
 |_,[]=>rfl
 |k,x::xs=>by simp[Ca,FJ m (k+1) xs]
end
def qw(nb:L (Nat×L AV))(Y:L (Nat×Nat))(W:L Nat)(σ:St):St:=⟨pR nb σ.boxes,pR Y σ.toks,W++σ.used⟩
set_option maxHeartbeats 1000000 in
def TC{w w':World}{g g':Gh}{σ:St}{ps:L PA}{l:L AV}{os:L (Nat×L LV)}{rs:L LV}(hi:Inv w g σ)(H:tX σ.boxes σ.toks ps l)
  (hi':Inv w' g' (yX os rs))(hk:iK w (g.fV (yY σ.boxes ps l)) (tG ps) w' g' (yX os rs))(s:Nat){nb:L (Nat×L AV)}(hnb:JN (kF σ.boxes 0 ps l) s os=some nb)
  (hall:∀x∈(kF σ.boxes 0 ps l).map (·.1),x∈(rQ os).map (·.1)){fr:L (Nat×Nat)}(hfr:fr=qJ s (qf os++zy 0 rk rs)){bu:L (Nat×Nat)}(Vy:bu=qK σ.toks (dx (j7 σ.boxes 0 ps l)))
  (OL:distinct ((rQ os).map (·.1))=true)(jQ:distinct (nb.map (·.1))=true)(iN:distinct ((fr++bu).map (·.1))=true)(hfu:∀x∈fr.map (·.1),x ∉ σ.used)(hot:distinct ((qf os++zy 0 rk rs).map (·.1))=true) :
  ∃zG,Inv w' zG (qw nb (fr++bu) (fr.map (·.1)) σ)/\iK w g σ w' zG (qw nb (fr++bu) (fr.map (·.1)) σ)/\g.le zG/\∀u,aL g' (rC 0 rs) u->aL zG (rC s rs) u:=by
 have hts:=pE hi;let gc:=g.fV (yY σ.boxes ps l)
 let zG:Gh:=⟨g'.G,g.box,λk=>match an k fr with
  |some _=>g'.tok (k-s)
  |none=>match an k bu with
   |some n=>some (n,none)
   |none=>g.tok k,g.room⟩
 have PL:∀k cs b,an k (tG ps).boxes=some cs->gc.box k=some b->∃kb oc,(k,kb)∈kF σ.boxes 0 ps l/\an kb σ.boxes=some oc/\g.box kb=some b:=by
  intro k cs b e e1;obtain⟨kb,oc,RM,f1,f2,_⟩:=tW H.ok (dW e);refine⟨kb,oc,f1,f2,?_⟩;have:(yY σ.boxes ps l).bx k=some kb:=gY H.d1 f1;simpa only[gc,Gh.fV,this]using e1
 have Wv:∀k n b lo hi,an k (tG ps).toks=some n->gc.tok k=some (n,some (b,lo,hi))->∃old n',old∈dx (j7 σ.boxes 0 ps l)/\an old σ.toks=some n'/\g.tok old=some (n',some (b,lo,hi)):=by
  intro k n b lo hi e e1;obtain⟨rfl,o,f1,f2⟩:=ye H.ok (dW e);have h1:(yY σ.boxes ps l).tk k=some (0,o):=gY H.d3 f1;cases o with
  |none=>simp[gc,Gh.fV,h1]at e1
  |some old =>
   obtain⟨n',h3⟩:=f2 old rfl;obtain⟨gK,h4⟩:=hts old n' h3;simp[gc,Gh.fV,h1,h4]at e1;subst e1;exact⟨old,n',uX.2 ⟨k,0,f1⟩,h3,h4⟩
 have PM:∀b o,jt gc (tG ps) b o->jt g σ b o:=by
  rintro b o (⟨k,cs,h1,h2⟩|⟨k,n,lo,hi',h1,h2,h3,h4⟩)
  ·obtain⟨kb,oc,_,f2,f3⟩:=PL k cs b h1 h2;exact .inl ⟨kb,oc,f2,f3⟩
  ·obtain⟨old,n',_,f2,f3⟩:=Wv k n b lo hi' h1 h2;exact .inr ⟨old,n',lo,hi',f2,f3,h3,h4⟩
 have hfree:∀k0 c0 b,an k0 σ.boxes=some c0->g.box k0=some b->k0 ∉ (kF σ.boxes 0 ps l).map (·.2)->∀o,¬jt gc (tG ps) b o:=by
  rintro k0 c0 b e1 e2 e3 o (⟨k,cs,h1,h2⟩|⟨k,n,lo,hi',h1,h2,h3,h4⟩)
  ·obtain⟨kb,oc,f1,f2,f3⟩:=PL k cs b h1 h2;have:=hi.gk k0 kb c0 oc b e1 f2 e2 f3;subst this;exact e3 (List.mem_map.2 ⟨_,f1,Z⟩)
  ·obtain⟨old,n',_,f2,f3⟩:=Wv k n b lo hi' h1 h2;obtain⟨gK,f4,f5⟩:=hi.tok old n' f2;rw[f3]at f4;simp at f4;exact(f5 b lo hi' f4.symm).2.2 k0 c0 e1 e2
 have abw:∀k0 n0 b GO rK,an k0 σ.toks=some n0->g.tok k0=some (n0,some (b,GO,rK))->k0 ∉ dx (j7 σ.boxes 0 ps l)->∀o,¬jt gc (tG ps) b o:=by
  rintro k0 n0 b GO rK e1 e2 e3 o (⟨k,cs,h1,h2⟩|⟨k,n,lo,hi',h1,h2,h3,h4⟩)
  ·obtain⟨kb,oc,f1,f2,f3⟩:=PL k cs b h1 h2;obtain⟨gK,f4,f5⟩:=hi.tok k0 n0 e1;rw[e2]at f4;simp at f4;exact(f5 b GO rK f4.symm).2.2 kb oc f2 f3
  ·obtain⟨old,n',f1,f2,f3⟩:=Wv k n b lo hi' h1 h2;have:=hi.iu k0 old n0 n' b GO rK lo hi' e1 f2 e2 f3;subst this;exact e3 f1
 have hsame:∀b,b<w.heap.size->(∀o,¬jt gc (tG ps) b o)->∀o,w'.cell? ⟨b,o,none⟩=w.cell? ⟨b,o,none⟩/\w'.frozen? ⟨b,o,none⟩=w.frozen? ⟨b,o,none⟩:=λb h1 h2 o=>hk.kept b o h1 (h2 o);have abx:∀b o,b<w.heap.size->¬jt gc (tG ps) b o->g.G b o=none->g'.G b o=none:=by
  intro b o h1 h2 h3;cases hg:g'.G b o with
  |none=>rfl
  |some v =>
   rcases hk.new b o v hg with h|h|h
   ·change g.G b o=some v at h;rw[h3]at h;simp at h
   ·omega
   ·exact absurd h h2
 have adH:∀k n,an k fr=some n->∃j,k=j+s/\an j (qf os++zy 0 rk rs)=some n/\k ∉ σ.used/\zG.tok k=g'.tok j:=by
  intro k n e;have yO:=dW e;subst hfr;obtain⟨j,rfl,h2⟩:=FI e;exact⟨j,Z,h2,hfu _ (List.mem_map.2 ⟨_,yO,Z⟩),by simp only[zG,e,ahm]⟩
 have adI:∀k n,an k bu=some n->k∈dx (j7 σ.boxes 0 ps l)/\∃m,an k σ.toks=some m/\n=m+1:=by
  intro k n e;subst Vy;exact zQ e
 have adJ:∀e∈(qf os++zy 0 rk rs),zG.tok (e.1+s)=g'.tok e.1:=by
  intro e he;have h1:an (e.1+s) fr=some e.2:=by
   rw[hfr,C2];exact gY hot he
  simp only[zG,h1,ahm]
 have hle:g.le zG:=by
  refine⟨hk.le,λ_ _ h=>h,λ_ _ _=>rfl,λk hw gK e=>?_⟩;cases h1:an k fr with
  |some n =>
   obtain⟨j,_,_,h2,_⟩:=adH k n h1;exact absurd (hi.used k (.inr (by rw[e];simp))) h2
  |none =>
   cases h2:an k bu with
   |some n =>
    obtain⟨_,m,h3,rfl⟩:=adI k n h2;obtain⟨Fh,h4⟩:=hts k m h3;rw[e]at h4;simp at h4;exact⟨m+1,none,by simp only[zG,h1,h2],bn,bn⟩
   |none=>exact⟨hw,gK,by simp only[zG,h1,h2];exact e,aaj _,λ_=>rfl⟩
 obtain⟨ob1,ob2⟩:=M5 hnb;have BN:∀k cs,an k (pR nb σ.boxes)=some cs->(∃oc,an k σ.boxes=some oc)/\∃b,g.box k=some b/\b<w.heap.size/\(∀o,g'.G b o=none)/\cB w' zG b 0 cs/\∀o,(o<g.room k->∃u,w'.cell? ⟨b,o,none⟩=some u)/\w'.frozen? ⟨b,o,none⟩=false:=by
  intro k cs e;rw[lO jQ]at e;split at e
  ·rename_i v hv;simp at e;subst e;obtain⟨i,cells,h1,h2,rfl⟩:=ob1 k v (dW hv);have hmem:=dW h2;have h3:an (pb i) (rQ os)=some (Ca 1 (pb i+1) cells):=gY OL (M6 h1);have h4:=hk.ids (pb i) (Nat.le_add_right _ _) (by show an (pb i) (rQ os)≠none;rw[h3];simp);cases hc:an (pb i) (tG ps).boxes with
   |none=>exact absurd hc h4.1
   |some ic =>
    obtain⟨kb,oc,RM,f1,f2,_⟩:=tW H.ok (dW hc);have:an (pb i) (kF σ.boxes 0 ps l)=some kb:=gY H.d1 f1;rw[h2]at this;simp at this;subst this;obtain⟨b,b1,b2,b3,b4⟩:=hi.box k oc f2;obtain⟨b',c1,c2,c3,c4⟩:=hi'.box (pb i) _ h3;have yZ:gc.box (pb i)=some b:=by
     have:(yY σ.boxes ps l).bx (pb i)=some k:=h2;simp only[gc,Gh.fV,this,b1]
    have hgr:gc.room (pb i)=g.room k:=by
     have:(yY σ.boxes ps l).bx (pb i)=some k:=h2;simp only[gc,Gh.fV,this]
    have hrm:=hi'.room (pb i) _ b' h3 c1;rw[h4.2.2,hgr]at hrm;rw[h4.2.1,yZ]at c1;simp at c1;subst c1;refine⟨⟨oc,f2⟩,b,b1,b2,c3,?_,hrm⟩;have:=C4 (g:=g') (g':=zG) (s:=s) (j8.le.refl _) (k:=pb i+1) (λe he=>adJ e (List.mem_append.2 (.inl (M7 h1 he)))) c4;rwa[show pb i+1+s=pb i+1+s from rfl]at this
  ·rename_i hv;have hnot:k ∉ (kF σ.boxes 0 ps l).map (·.2):=by
    intro hm;obtain⟨x,hx,rfl⟩:=List.mem_map.1 hm;obtain⟨y,hy,hyx⟩:=List.mem_map.1 (hall x.1 (List.mem_map.2 ⟨x,hx,rfl⟩));obtain⟨i,cells,h1,h2,_⟩:=A0 (k:=y.1) (v:=y.2) hy;have h3:an (pb i) (kF σ.boxes 0 ps l)=some x.2:=by rw[<- h2,hyx];exact gY H.d1 hx
    have h4:=ob2 i cells x.2 h1 h3;obtain⟨z,hz,hzx⟩:=List.mem_map.1 h4;have:=gY (k:=z.1) (v:=z.2) jQ hz;rw[hzx,hv]at this;simp at this
   obtain⟨b,b1,b2,b3,b4⟩:=hi.box k cs e;have hno:=hfree k cs b e b1 hnot
   exact⟨⟨cs,e⟩,b,b1,b2,λo=>abx b o b2 (hno o) (b3 o),(cB.of_same (hsame b b2 hno) b4).mono hle,λo=>by
    obtain⟨q1,q2⟩:=hi.room k cs b e b1 o
    exact⟨λho=>(q1 ho).imp λu hu=>(hsame b b2 hno o).1.trans hu,(hsame b b2 hno o).2.trans q2⟩⟩
 have DU:∀k n,an k (pR (fr++bu) σ.toks)=some n->(∃j,k=j+s/\an j (qf os++zy 0 rk rs)=some n/\zG.tok k=g'.tok j/\k ∉ σ.used)\/zG.tok k=some (n,none) \/
   (an k σ.toks=some n/\zG.tok k=g.tok k/\k ∉ dx (j7 σ.boxes 0 ps l)):=by
  intro k n e;rw[lO iN,C3]at e;cases h1:an k fr with
  |some m =>
   rw[h1]at e;simp at e;subst e;obtain⟨j,rfl,h2,h3,h4⟩:=adH k m h1;exact .inl ⟨j,Z,h2,h4,h3⟩
  |none =>
   rw[h1]at e;simp only at e;cases h2:an k bu with
   |some m =>
    rw[h2]at e;simp at e;subst e;right;left;simp only[zG,h1,h2]
   |none =>
    rw[h2]at e;simp only at e;right;right;refine⟨e,by simp only[zG,h1,h2],λhm=>?_⟩;rw[Vy,Cd hm e]at h2;simp at h2
 have Kd:∀j n b lo rK,an j (qf os++zy 0 rk rs)=some n->g'.tok j=some (n,some (b,lo,rK))->w.heap.size<=b\/∃old n',old∈dx (j7 σ.boxes 0 ps l)/\an old σ.toks=some n'/\∃GO hi1,g.tok old=some (n',some (b,GO,hi1))/\GO<=lo/\rK<=hi1:=by
  intro j n b lo rK e e1;rcases hk.toks j n b lo rK e e1 with h|⟨k0,n0,GO,hi1,h1,h2,h3,h4⟩
  ·exact .inl h
  ·grind
 refine⟨zG,⟨hi'.pQ,?_,?_,?_,?_,?_,?_⟩,⟨hk.os,hk.tape,hk.output,hk.size,λb hb hno=>hk.block b hb λo ho=>hno o (PM b o ho),λb o hb hno=>hk.kept b o hb λho=>hno (PM b o ho),hk.le,λb o v h=>(hk.new b o v h).imp id λh=>h.imp id (PM b o),?_,?_,?_⟩,hle,?_⟩
 ·intro k cs e;obtain⟨_,b,b1,b2,b3,b4,_⟩:=BN k cs e;exact⟨b,b1,afc b2 hk.size,b3,b4⟩
 ·intro k k' cs cs' b e e' e1 e2;obtain⟨⟨oc,h1⟩,_⟩:=BN k cs e;obtain⟨⟨Zc,yG⟩,_⟩:=BN k' cs' e';exact hi.gk k k' oc Zc b h1 yG e1 e2
 ·intro k n e;rcases DU k n e with ⟨j,rfl,h1,h2,_⟩|h1|⟨h1,h2,h3⟩
  ·obtain⟨gK,h3,h4⟩:=hi'.tok j n h1;refine⟨gK,h2.trans h3,λb lo rK hr=>?_⟩;obtain⟨f1,f2,f3⟩:=h4 b lo rK hr;refine⟨f1,f2,λk' cs e'=>?_⟩;obtain⟨⟨oc,g1⟩,b',b1,b2,_⟩:=BN k' cs e';show g.box k'≠some b;rw[b1];intro Bs;simp at Bs;subst Bs;subst hr;rcases Kd j n b' lo rK h1 h3 with h|⟨old,n',_,q2,GO,hi1,q3,_,_⟩
   ·omega
   ·obtain⟨Fh,q4,q5⟩:=hi.tok old n' q2;rw[q3]at q4;simp at q4;exact(q5 _ _ _ q4.symm).2.2 k' oc g1 b1
  ·simp_all
  ·obtain⟨gK,h4,h5⟩:=hi.tok k n h1;refine⟨gK,h2.trans h4,λb lo rK hr=>?_⟩;obtain⟨f1,f2,f3⟩:=h5 b lo rK hr;subst hr;have hno:=abw k n b lo rK h1 h4 h3;refine⟨afc f1 hk.size,λo o1 o2=>?_,λk' cs e'=>?_⟩
   ·grind
   ·obtain⟨⟨oc,g1⟩,_⟩:=BN k' cs e';exact f3 k' oc g1
 ·intro k k' n n' b lo rK lo' hi1 e e' e1 e2;rcases DU k n e with ⟨j,rfl,h1,h2,hu1⟩|h1|⟨h1,h2,h3⟩
  ·rw[h2]at e1;rcases DU k' n' e' with ⟨j',rfl,yG,B8,_⟩|yG|⟨yG,B8,Vn⟩
   ·rw[B8]at e2;have:=hi'.iu j j' n n' b lo rK lo' hi1 h1 yG e1 e2;rw[this]
   ·simp_all
   ·rw[B8]at e2;exfalso;obtain⟨gK,q1,q2⟩:=hi.tok k' n' yG;rw[e2]at q1;simp at q1;have hlt:=(q2 _ _ _ q1.symm).1;rcases Kd j n b lo rK h1 e1 with h|⟨old,m,r1,r2,GO,hi2,r3,_,_⟩
    ·omega
    ·have:=hi.iu k' old n' m b lo' hi1 GO hi2 yG r2 e2 r3;subst this;exact Vn r1
  ·simp_all
  ·rw[h2]at e1;rcases DU k' n' e' with ⟨j',rfl,yG,B8,_⟩|yG|⟨yG,B8,Vn⟩
   ·rw[B8]at e2;exfalso;obtain⟨gK,q1,q2⟩:=hi.tok k n h1;rw[e1]at q1;simp at q1;have hlt:=(q2 _ _ _ q1.symm).1;rcases Kd j' n' b lo' hi1 yG e2 with h|⟨old,m,r1,r2,GO,hi2,r3,_,_⟩
    ·omega
    ·have:=hi.iu k old n m b lo rK GO hi2 h1 r2 e1 r3;subst this;exact h3 r1
   ·simp_all
   ·rw[B8]at e2;exact hi.iu k k' n n' b lo rK lo' hi1 h1 yG e1 e2
 ·intro k e;show k∈fr.map (·.1)++σ.used;rw[adT];rcases e with e|e
  ·exact .inr (hi.used k (.inl e))
  ·cases h1:an k fr with
   |some m=>exact .inl (List.mem_map.2 ⟨_,dW h1,Z⟩)
   |none =>
    right;cases h2:an k bu with
    |some m =>
     obtain⟨_,q,h3,_⟩:=adI k m h2;obtain⟨gK,h4⟩:=hts k q h3;exact hi.used k (.inr (by rw[h4];simp))
    |none=>apply hi.used k;right;simpa only[zG,h1,h2]using e
 ·intro k cs b e e1;obtain⟨_,b',b1,_,_,_,hrm⟩:=BN k cs e;have TD:g.box k=some b:=e1;rw[b1]at TD;cases TD;exact hrm
 ·intro k cs b e e1;obtain⟨⟨oc,h1⟩,_⟩:=BN k cs e;exact .inr ⟨k,oc,h1,e1⟩
 ·intro k n b lo rK e e1;rcases DU k n e with ⟨j,rfl,h1,h2,_⟩|h1|⟨h1,h2,h3⟩
  ·grind
  ·simp_all
  ·grind
 ·intro k _ e;cases hc:an k (pR nb σ.boxes)with
  |none=>exact absurd hc e
  |some cs =>
   obtain⟨⟨oc,h1⟩,_⟩:=BN k cs hc;exact⟨by rw[h1];simp,Z,Z⟩
 ·intro u h;have hsub:∀e∈zy 0 rk rs,zG.tok (e.1+s)=g'.tok e.1:=λe he=>adJ e (List.mem_append.2 (.inr he))
  match rs,h,hsub with
  |[],h,_=>simp only[rC,aL,Rel]at h ⊢;exact h
  |[x],h,hsub =>
   simp only[rC]at h ⊢;have:=(LV.shift (g:=g') (g':=zG) (s:=s) (j8.le.refl _) (k:=rk) (λe he=>hsub e (by simp only[zy,adT];exact .inl he)) h).1;exact this
  |x::y::r,h,hsub =>
   simp only[rC,aL]at h ⊢;obtain⟨vs,e1,e2,e3⟩:=h;refine⟨vs,e1,IA (g:=g') (g':=zG) (j8.le.refl _) hsub e2,?_⟩;rw[FJ]at e3 ⊢;exact e3
end Go.cK
namespace Go.cK
def kP:∀{a b:L (Nat×(Nat×Option Nat))},dx (a++b)=dx a++dx b
 |[],b=>rfl
 |(k,m,none)::a,b=>by simp[dx,kP (a:=a)]
 |(k,m,some o)::a,b=>by simp[dx,kP (a:=a)]
section
variable {bs LN : L (Nat × L AV)}{ts IB : L (Nat × Nat)}
def FK{m k:Nat}:∀{x:LV}{a:AV},Cb ts x a->(∀j∈dx (Cc m k x a),an j IB=an j ts)->Cb IB x a
 |.c v,a,h,_=>h
 |.own s rows,a,h,I=>by
  simp only[Cb]at h ⊢;rcases sq h with ⟨q,rfl,hq⟩|⟨k',n,rfl,B⟩
  ·exact h
  ·have:=I k' (by simp[Cc,dx]);simp only[M1,this,B];simp[Nat.beq_refl]
def C5{m:Nat}:∀{k:Nat}{xs:L LV}{l:L AV},ki ts xs l->(∀j∈dx (oC m k xs l),an j IB=an j ts)->ki IB xs l
 |k,[],l,h,_=>h
 |k,x::xs,l,h,I=>by
  simp only[ki]at h ⊢;obtain⟨a,r,rfl,h1,h2⟩:=h;simp only[oC,kP,adT]at I;exact⟨a,r,Z,FK h1 (λj Y=>I j (.inl Y)),C5 h2 (λj Y=>I j (.inr Y))⟩
def xe:∀{i:Nat}{U:L PA}{l:L AV},jJ bs ts U l->(∀k∈(kF bs i U l).map (·.2),an k LN=an k bs)->(∀k∈dx (j7 bs i U l),an k IB=an k ts) ->
  jJ LN IB U l/\kF LN i U l=kF bs i U l/\j7 LN i U l=j7 bs i U l
 |i,[],l,h,_,_=>by simp only[jJ]at h;subst h;exact⟨by simp[jJ],rfl,rfl⟩
 |i,.v x::U,l,h,h1,h2=>by
  simp only[jJ]at h;obtain⟨a,r,rfl,V,S⟩:=h;simp only[kF]at h1;simp only[j7,kP,adT]at h2;obtain⟨K,Y,D⟩:=xe S h1 (λk W=>h2 k (.inr W));refine⟨by simp only[jJ];exact⟨a,r,Z,FK V (λj T=>h2 j (.inl T)),K⟩,?_,?_⟩
  ·simp only[kF,Y]
  ·simp only[j7,D]
 |i,.box cells::U,l,h,h1,h2=>by
  simp only[jJ]at h;obtain⟨Q,G,r,rfl,V,S,P⟩:=h;simp only[kF,aed,aeB,forall_eq_or_imp]at h1;simp only[j7,V,kP,adT]at h2;obtain⟨K,Y,D⟩:=xe P h1.2 (λk W=>h2 k (.inr W));refine⟨by simp only[jJ];exact⟨Q,G,r,Z,h1.1.trans V,C5 S (λj T=>h2 j (.inl T)),K⟩,?_,?_⟩
  ·simp only[kF,Y]
  ·simp only[j7,D,h1.1]
end
def C6{ts IB:L (Nat×Nat)}:∀{l:L Nat},(∀k∈l,an k IB=an k ts)->qK IB l=qK ts l
 |[],_=>rfl
 |k::l,h=>by
  simp only[qK,h k cS,C6 (l:=l) (λj Y=>h j (by simp[Y]))]
def gE(ρ:Operand->Option AV):L Operand->Option (L AV)
 |[]=>some []
 |x::l=>match ρ x with
  |some a=>match gE ρ l with
   |some r=>some (a::r)
   |none=>none
  |none=>none
def uZ{ρ Y:Operand->Option AV}:∀(l:L Operand),(∀x∈l,Y x=ρ x)->gE Y l=gE ρ l
 |[],_=>rfl
 |x::l,h=>by simp only[gE,h x cS,uZ l (λy Q=>h y (by simp[Q]))]
def Ce{g:Gh}{ρ:Operand->Option AV}{ev:Operand->Value}(u:∀x v,ρ x=some v->aL g v (ev x)):∀{l:L Operand}{r:L AV},gE ρ l=some r->bJ g r (l.map ev)
 |[],r,h=>by simp[gE]at h;subst h;simp[bJ]
 |x::l,r,h=>by
  simp only[gE]at h;split at h
  ·rename_i a ha;split at h
   ·rename_i C M;simp at h;subst h;simp only[aed,bJ];exact⟨_,_,Z,u x a ha,Ce u M⟩
   ·simp at h
  ·simp at h
def iA.more{K:St->St}{W:L Nat}(h:iA K ⟨[],W⟩)(R:L Nat):iA K ⟨R,W⟩ :=
 ⟨λσ k D=>h.out σ k D,λσ Y ha k D=>h.same σ Y (λj V=>ha j (V.elim (λx=>by simp at x) .inr)) k D⟩
structure Cf(bs:List (Nat×List AV))(ts:List (Nat×Nat))(us:List Nat)(ps:List PA)(l:List AV)(rs:List LV)(os:List (Nat×List LV))(s:Nat)(nb:List (Nat×List AV))(fr bu:List (Nat×Nat)):Prop where
 H:tX bs ts ps l
 hnb:JN (kF bs 0 ps l) s os=some nb
 hall:∀x∈(kF bs 0 ps l).map (·.1),x∈(rQ os).map (·.1)
 hfr:fr=qJ s (qf os++zy 0 rk rs)
 Vy:bu=qK ts (dx (j7 bs 0 ps l))
 OL:distinct ((rQ os).map (·.1))=true
 jQ:distinct (nb.map (·.1))=true
 iN:distinct ((fr++bu).map (·.1))=true
 hfu:∀x∈fr.map (·.1),x ∉ us
 hot:distinct ((qf os++zy 0 rk rs).map (·.1))=true
def Cf.congr{bs LN:L (Nat×L AV)}{ts IB:L (Nat×Nat)}{us Jv:L Nat}{U:L PA}{l:L AV}{rs:L LV}{M:L (Nat×L LV)}{s:Nat}{nb:L (Nat×L AV)}{B V:L (Nat×Nat)}
  (h:Cf bs ts us U l rs M s nb B V)(h1:∀k∈(kF bs 0 U l).map (·.2),an k LN=an k bs)(h2:∀k∈dx (j7 bs 0 U l),an k IB=an k ts)(W:∀k∈B.map (·.1),k∈Jv↔k∈us) :
  Cf LN IB Jv U l rs M s nb B V:=by
 obtain⟨K,Y,D⟩:=xe h.H.ok h1 h2
 exact⟨⟨K,by rw[Y];exact h.H.d1,by rw[Y];exact h.H.d2,by rw[D];exact h.H.d3,by rw[D];exact h.H.d4⟩,by rw[Y];exact h.hnb,by rw[Y];exact h.hall,h.hfr,by rw[D,C6 h2];exact h.Vy,
  h.OL,h.jQ,h.iN,λx O E=>h.hfu x O ((W x O).1 E),h.hot⟩
section
variable {P : Program}{X : Ctx}
def bU.PN{o:Oper}{env:Env}{σ:St}{f:FuncId}{J:L Operand}(ru:∀x∈J,x∈o.op.operands.toList){E:L AV}(hl:gE (aK X env) J=some E){l:L AV}{U:L PA}{rs:L LV}{K:L (Nat×L LV)}
  (hq:cn P X f U rs K){s:Nat}{nb:L (Nat×L AV)}{B O:L (Nat×Nat)}(C:Cf σ.boxes σ.toks σ.used U l rs K s nb B O)
  (A:∀(g:Gh)(w:World)(a:Act)(T:Env),(∀x∈o.op.operands.toList,aK X T x=aK X env x)->vB g T a.tmps->pP X g.G->∃vs:L Value,bJ g l vs/\(execOp a.eval o).run P w = .ok (.enter f vs.toArray) w) :
  bU P X o env σ (rC s rs) (qw nb (B++O) (B.map (·.1))) ⟨(kF σ.boxes 0 U l).map (·.2)++dx (j7 σ.boxes 0 U l),nb.map (·.1)++((B++O).map (·.1)++B.map (·.1))⟩:=by
 intro T W w g a next Q h1 h2 N I q S;have Y:=C.congr (LN:=W.boxes) (IB:=W.toks) (Jv:=W.used) (λk D=>(h2 k (.inl (List.mem_append.2 (.inl D)))).1) (λk D=>(h2 k (.inl (List.mem_append.2 (.inr D)))).2.1)
  (λk D=>(h2 k (.inr (by simp only[adT];exact .inr (.inr D)))).2.2)
 obtain⟨vs,p,V⟩:=A g w a T h1 q I;have M:=Y.H.inv N;have gL:=Y.H.rel N p;unfold Oper.wp;rw[V,Oper.upon_enter];refine(hq.2 _ w vs M I gL).mono ?_;rintro e w' ⟨u,g',rfl,h3,h4,h5⟩;obtain⟨zG,i1,i2,i3,i4⟩:=TC N Y.H h4 h5 s Y.hnb Y.hall Y.hfr Y.Vy Y.OL Y.jQ Y.iN Y.hfu Y.hot;exact S u w' zG (i4 u h3) i1 i2 i3
def bU.Vz{o:Oper}{env:Env}{σ:St}{f:FuncId}{args:Array Operand}{K:Array TypeId}(p:o.op = .call {callee := .value (.func f),args:=args,argTypes:=K})
  {l:L AV}(E:gE (aK X env) args.toList=some l){U:L PA}{rs:L LV}{M:L (Nat×L LV)}
  (hq:cn P X f U rs M){s:Nat}{nb:L (Nat×L AV)}{H V:L (Nat×Nat)}(C:Cf σ.boxes σ.toks σ.used U l rs M s nb H V) :
  bU P X o env σ (rC s rs) (qw nb (H++V) (H.map (·.1))) ⟨(kF σ.boxes 0 U l).map (·.2)++dx (j7 σ.boxes 0 U l),nb.map (·.1)++((H++V).map (·.1)++H.map (·.1))⟩:=by
 have W:∀x∈args.toList,x∈o.op.operands.toList:=by
  intro x O;rw[p];simp only[Op.operands,Call.operands,aeP,adT];exact .inr O
 refine bU.PN W E hq C ?_;intro g w a S h1 q Q;have N:gE (aK X S) args.toList=some l:=by
  rw[uZ _ (λx O=>h1 x (W x O))];exact E
 refine⟨args.toList.map a.eval,Ce (λx v O=>cy q Q O) N,?_⟩;rw[show(args.toList.map a.eval).toArray=args.map a.eval from by rw[<- aeY]];obtain⟨u,I,T,J,Y,guard⟩:=o;simp only at p;subst p;simp[execOp,resolve,Deferred.ofValue,invoke,Act.eval,hq.1 _ w]
def agc:L CV->L AV
 |[]=>[]
 |v::l => .c v::agc l
def sN:L Nat->Option (L Nat)
 |[]=>some []
 |x::l=>match sN l with
  |some r=>some (x::r)
  |none=>none
def kU{α:Type}:L (Nat×α)->Option (L (Nat×α))
 |[]=>some []
 |(k,n)::l=>match kU l with
  |some r=>some ((k,n)::r)
  |none=>none
def yf:∀{l r:L Nat},sN l=some r->r=l
 |[],r,h=>by simp[sN]at h;exact h
 |x::l,r,h=>by
  simp only[sN]at h;split at h
  ·rename_i Y C;simp at h;rw[<- h,yf C]
  ·simp at h
def nr{α:Type}:∀{l r:L (Nat×α)},kU l=some r->r=l
 |[],r,h=>by simp[kU]at h;exact h
 |(k,n)::l,r,h=>by
  simp only[kU]at h;split at h
  ·rename_i Y C;simp at h;rw[<- h,nr C]
  ·simp at h
def both(a b:Bool):Bool:=match a with
 |true=>b
 |false=>false
def ej{a b:Bool}(h:both a b=true):a=true/\b=true:=by cases a<;>simp_all [both]
def xY(us:L Nat)(bx:L (Nat×Nat))(tk:L (Nat×(Nat×Option Nat)))(Y:L (Nat×L AV))(nb:L (Nat×L AV))(H V W:L (Nat×Nat)):Bool :=
 both (distinct (gN bx)) (both (distinct (bx.map (·.2))) (both (distinct (gN tk)) (both (distinct (dx tk)) (both (FG (gN Y) (gN bx)) (both (distinct (gN Y))
  (both (distinct (gN nb)) (both (distinct (gN (H++V))) (both (Kc us (gN H)) (distinct (gN W))))))))))
def TE{bs:L (Nat×L AV)}{ts:L (Nat×Nat)}{us:L Nat}{U:L PA}{l:L AV}{rs:L LV}{M:L (Nat×L LV)}{s:Nat}{nb:L (Nat×L AV)}{H V:L (Nat×Nat)}
  (hok:jJ bs ts U l){bx:L (Nat×Nat)}(J:kU (kF bs 0 U l)=some bx){tk:L (Nat×(Nat×Option Nat))}(I:kU (j7 bs 0 U l)=some tk)(Y:JN bx s M=some nb)
  (W:kU (qJ s (qf M++zy 0 rk rs))=some H)(G:kU (qK ts (dx tk))=some V)(A:xY us bx tk (rQ M) nb H V (qf M++zy 0 rk rs)=true):Cf bs ts us U l rs M s nb H V:=by
 have h1:=nr J;have h2:=nr I;have E:=nr W;have D:=nr G;subst h1 h2 E D;unfold xY at A;obtain⟨u,A⟩:=ej A;obtain⟨S,A⟩:=ej A;obtain⟨p,A⟩:=ej A;obtain⟨c4,A⟩:=ej A;obtain⟨T,A⟩:=ej A;obtain⟨Q,A⟩:=ej A;obtain⟨P,A⟩:=ej A;obtain⟨N,A⟩:=ej A;obtain⟨K,OI⟩:=ej A;simp only[mg]at u S p c4 T Q P N K OI;exact⟨⟨hok,u,S,p,c4⟩,Y,λx O=>tY T x O,Z,Z,Q,P,N,λx O=>FH K x O,OI⟩
def Pg(d s:Nat)(rs:L LV)(env:Env):Option Env:=match rs with
 |[]=>some ((d,.c .undef)::env)
 |[.c v]=>some ((d,.c v)::env)
 |[.own q rows]=>some ((d,.own (.tok (rk+s) 0) q rows)::env)
 |rs=>match PK 0 (rk+s) rs with
  |some l=>some ((d,.eY l)::env)
  |none=>none
def Zd{d s:Nat}{rs:L LV}{env env':Env}(h:Pg d s rs env=some env'):env'=(d,rC s rs)::env:=by
 match rs,h with
 |[],h=>simp[Pg]at h;subst h;rfl
 |[.c v],h=>simp[Pg]at h;subst h;rfl
 |[.own q rows],h=>simp[Pg]at h;subst h;rfl
 |x::y::r,h=>simp[Pg,D0]at h;subst h;rfl
end
section
variable {P : Program}{X : Ctx}{ops : Array Oper}{o : Oper}{rest : L Oper}{env : Env}{acc : L Fp}{Q : Env -> St -> L Fp -> Prop}{bs : L (Nat × L AV)}{ts : L (Nat × Nat)}{us : L Nat}
def af.Vz(kn:L Nat)(p:dj ops.toList kn env o=some true){f:FuncId}{args:Array Operand}{K:Array TypeId}(D:o.op = .call {callee := .value (.func f),args:=args,argTypes:=K})
  {U:L PA}{rs:L LV}{M:L (Nat×L LV)}(hq:cn P X f U rs M){l:L AV}(B:gE (aK X env) args.toList=some l)(hok:jJ bs ts U l){d:Nat}(u:o.dst=some d)
  {nb:L (Nat×L AV)}{H V W:L (Nat×Nat)}{bx:L (Nat×Nat)}(N:kU (kF bs 0 U l)=some bx){tk:L (Nat×(Nat×Option Nat))}(J:kU (j7 bs 0 U l)=some tk)(T:JN bx (10000000*(d+1)) M=some nb)
  (S:kU (qJ (10000000*(d+1)) (qf M++zy 0 rk rs))=some H)(q:kU (qK ts (dx tk))=some V)(hc:xY us bx tk (rQ M) nb H V (qf M++zy 0 rk rs)=true)
  {bs':L (Nat×L AV)}(A:uH nb bs=some bs')(O:kU (H++V)=some W){ts':L (Nat×Nat)}(Y:uH W ts=some ts'){us':L Nat}(vI:sN (gN H++us)=some us')
  {I G:L Nat}(hR:sN (bx.map (·.2)++dx tk)=some I)(hW:sN (gN nb++(gN W++gN H))=some G){env':Env}(he:Pg d (10000000*(d+1)) rs env=some env')
  (k:af P X ops rest env' ⟨bs',ts',us'⟩ (⟨I,G⟩::acc) Q):af P X ops (o::rest) env ⟨bs,ts,us⟩ acc Q:=by
 have C:=TE hok N J T S q hc;have r2:=Zd he;have hs:=bU.Vz (σ:=⟨bs,ts,us⟩) D B hq C;have e1:=nr O;have e2:=yf vI;have e3:=yf hR;have E:=yf hW;rw[FD]at A Y;simp at A Y;have hE:iA (qw nb (H++V) (H.map (·.1))) ⟨(kF bs 0 U l).map (·.2)++dx (j7 bs 0 U l),nb.map (·.1)++((H++V).map (·.1)++H.map (·.1))⟩:=(PJ nb (H++V) (H.map λ(x:Nat×Nat)=>x.1) C.jQ C.iN).more _;refine af.step (dB p) hs hE ?_;rw[u];show af P X ops rest ((d,_)::env) _ _ Q;rw[<- r2];simp only[qw];rw[e1]at Y E;rw[A,Y,<- mg H,<- e2];have h1:=nr N;have h2:=nr J;rw[<- h1,<- h2,<- e3,<- mg nb,<- mg (H++V),<- E];exact k
end
end Go.cK
namespace Go.cK
def Ze(ts:L (Nat×Nat)):LV->AV->Option LV
 |.c _,a=>match close a with
  |some v=>some (.c v)
  |none=>none
 |.own s _,a=>match M1 ts s a with
  |some rows=>some (.own s rows)
  |none=>none
def A1(ts:L (Nat×Nat)):L LV->L AV->Option (L LV)
 |[],[]=>some []
 |x::xs,a::l=>match Ze ts x a with
  |some y=>match A1 ts xs l with
   |some r=>some (y::r)
   |none=>none
  |none=>none
 |_,_=>none
def Cg(bs:L (Nat×L AV))(ts:L (Nat×Nat)):L (Nat×L LV)->Option (L (Nat×L LV))
 |[]=>some []
 |(i,cells)::l=>match an (pb i) bs with
  |some G=>match A1 ts cells G with
   |some y=>match Cg bs ts l with
    |some r=>some ((i,y)::r)
    |none=>none
   |none=>none
  |none=>none
def oI(bs:L (Nat×L AV)):L (Nat×L LV)->L (Nat×(Nat×Option Nat))
 |[]=>[]
 |(i,cells)::l=>(match an (pb i) bs with
  |some G=>oC 1 (pb i+1) cells G
  |none=>[])++oI bs l
def rD:L (Nat×L LV)->L (Nat×Nat)
 |[]=>[]
 |(i,_)::l=>(pb i,pb i)::rD l
def Zf{ts:L (Nat×Nat)}:∀{x:LV}{a:AV}{y:LV},Ze ts x a=some y->Cb ts y a
 |.c _,a,y,h=>by
  simp only[Ze]at h;split at h
  ·rename_i v M;simp at h;subst h;exact M
  ·simp at h
 |.own _ _,a,y,h=>by
  simp only[Ze]at h;split at h
  ·rename_i rows M;simp at h;subst h;exact M
  ·simp at h
def A2{ts:L (Nat×Nat)}:∀{xs:L LV}{l:L AV}{Q:L LV},A1 ts xs l=some Q->ki ts Q l
 |[],[],Q,h=>by simp[A1]at h;subst h;simp[ki]
 |[],_::_,Q,h=>by simp[A1]at h
 |_::_,[],Q,h=>by simp[A1]at h
 |x::xs,a::l,Q,h=>by
  simp only[A1]at h;split at h
  ·rename_i y G;split at h
   ·rename_i r C;simp at h;subst h;simp only[ki];exact⟨a,l,Z,Zf G,A2 C⟩
   ·simp at h
  ·simp at h
def Ch(bs:L (Nat×L AV))(ts:L (Nat×Nat)):L (Nat×L LV)->Prop
 |[]=>True
 |(i,cells)::l=>(∃G,an (pb i) bs=some G/\ki ts cells G)/\Ch bs ts l
def Ci{bs:L (Nat×L AV)}{ts:L (Nat×Nat)}:∀{M Y:L (Nat×L LV)},Cg bs ts M=some Y->Ch bs ts Y
 |[],Y,h=>by simp[Cg]at h;subst h;trivial
 |(i,cells)::l,Y,h=>by
  simp only[Cg]at h;split at h
  ·rename_i G W;split at h
   ·rename_i y Q;split at h
    ·rename_i r C;simp at h;subst h;exact⟨⟨G,W,A2 Q⟩,Ci C⟩
    ·simp at h
   ·simp at h
  ·simp at h
def zR{bs:L (Nat×L AV)}{ts:L (Nat×Nat)}:∀{M:L (Nat×L LV)},Ch bs ts M->∀i cells,(i,cells)∈M->∃G,an (pb i) bs=some G/\ki ts cells G/\(∀e∈oC 1 (pb i+1) cells G,e∈oI bs M)/\(pb i,pb i)∈rD M
 |[],_,i,cells,h=>by simp at h
 |(j,c)::l,⟨⟨G,h1,h2⟩,h3⟩,i,cells,h=>by
  rcases List.mem_cons.1 h with h|h
  ·simp at h;obtain⟨rfl,rfl⟩:=h;exact⟨G,h1,h2,λe S=>by simp only[oI,h1,adT];exact .inl S,by simp[rD]⟩
  ·obtain⟨Y,P,W,B,A⟩:=zR h3 i cells h;exact⟨Y,P,W,λe S=>by simp only[oI,adT];exact .inr (B e S),by simp[rD,A]⟩
def FL{bs:L (Nat×L AV)}{ts:L (Nat×Nat)}{j n:Nat}:∀{M:L (Nat×L LV)},Ch bs ts M->(j,n)∈qf M->∃o,(j,(n,o))∈oI bs M/\∀O,o=some O->∃q,an O ts=some q
 |[],_,h=>by simp[qf]at h
 |(i,c)::l,⟨⟨G,h1,h2⟩,h3⟩,h=>by
  simp only[qf,adT]at h;simp only[oI,h1,adT];rcases h with h|h
  ·obtain⟨rfl,o,W,Y⟩:=yc h2 h;exact⟨o,.inl W,Y⟩
  ·obtain⟨o,W,Y⟩:=FL h3 h;exact⟨o,.inr W,Y⟩
def FM{bs:L (Nat×L AV)}{ts:L (Nat×Nat)}:∀{M:L (Nat×L LV)},Ch bs ts M->∀e∈oI bs M,e.1∈(qf M).map (·.1)
 |[],_,e,h=>by simp[oI]at h
 |(i,c)::l,⟨⟨G,h1,h2⟩,h3⟩,e,h=>by
  simp only[oI,h1,adT]at h;simp only[qf,aeC,adT];exact h.imp (yd h2 e) (FM h3 e)
def FN:∀{M:L (Nat×L LV)}{k v:Nat},(k,v)∈rD M->v=k/\k∈(rQ M).map (·.1)
 |[],k,v,h=>by simp[rD]at h
 |(i,c)::l,k,v,h=>by
  simp only[rD,aeB]at h;simp only[rQ,aed,aeB];rcases h with h|h
  ·simp_all
  ·obtain⟨I,W⟩:=FN h;exact⟨I,.inr W⟩
section
variable {P : Program}{X : Ctx}{f : FuncId}{n : Nat}{β : jZ}{R : Ending -> World -> Prop}{K : L Item}{env : Env}
def qg(hX:cF P X){S:Func}{σ:St}{g:Gh}{w:World}{a:Act}(Y:Live X β n env σ g w a){l:L AV}(h:qF X σ.boxes env S.results.toList=some l) :
  ∃u,(results S a.tmps).run P w = .ok u w/\match l with|[]=>u=undef|[x]=>aL g x u|l=>aL g (.eY l) u:=by
 match l,h with
 |[],h =>
  obtain⟨vs,I,W⟩:=DW hX Y h;simp only[bJ]at W;subst W;refine⟨.tuple #[],?_,Z⟩;have:(S.results.mapM (CY a.tmps)).run P w = .ok #[] w:=by
   rw[agK];simp only[Sem.run_map,I,Result.andThen_ok]
  rw[zI,Sem.run_bind,this];simp
 |[x],h=>exact zJ hX Y (r:=x) (by unfold lZ;rw[h])
 |x::y::r,h=>exact zJ hX Y (r := .eY (x::y::r)) (by unfold lZ;rw[h])
def u9(bx:L (Nat×Nat))(tk:L (Nat×(Nat×Option Nat))):Bool :=
 both (distinct (gN bx)) (both (distinct (bx.map (·.2))) (both (distinct (gN tk)) (distinct (dx tk))))
def IC{σ:St}{g:Gh}{w:World}(J:Inv w g σ){rs:L LV}{M:L (Nat×L LV)}{l:L AV}(Y:ki σ.toks rs l)(K:Ch σ.boxes σ.toks M)
  (A:u9 (rD M) (oI σ.boxes M++oC 0 rk rs l)=true)(H:distinct (gN (rQ M))=true) :
  let ρ:Ren:=⟨λk=>an k (rD M),λk=>an k (oI σ.boxes M++oC 0 rk rs l)⟩
  Inv w (g.fV ρ) (yX M rs)/\iK w g σ w (g.fV ρ) (yX M rs)/\eF ρ σ.toks (Ca 0 rk rs) l:=by
 intro ρ;unfold u9 at A;obtain⟨u,A⟩:=ej A;obtain⟨E,A⟩:=ej A;obtain⟨p,c4⟩:=ej A;rw[mg]at u p H;have q:eF ρ σ.toks (Ca 0 rk rs) l:=AZ Y λe S=>gY p (List.mem_append.2 (.inr S))
 obtain⟨h1,h2⟩:=J.fV ρ (yX M rs) (by
   intro k cells e;obtain⟨i,V,U,rfl,rfl⟩:=A0 (dW e);obtain⟨G,P,Q,B,T⟩:=zR K i V U;exact⟨pb i,G,gY u T,P,AZ Q λe S=>gY p (List.mem_append.2 (.inl (B e S)))⟩) (by
   intro k k' N I W;exact nQ E (dW I) (dW W)) (by
   intro k m e;have C:=dW e;simp only[yX]at C;rcases List.mem_append.1 C with C|C
   ·obtain⟨o,I,W⟩:=FL K C;exact⟨o,gY p (List.mem_append.2 (.inl I)),W⟩
   ·obtain⟨rfl,o,I,W⟩:=yc Y C;exact⟨o,gY p (List.mem_append.2 (.inr I)),W⟩) (by
   intro k k' m m' N I W;exact uY c4 (dW I) (dW W)) (by
   intro k e;simp only[yX,adT,aeC];rcases e with e|e
   ·left;obtain⟨x,O,rfl⟩:=List.mem_map.1 (oH e);exact(FN (k:=x.1) (v:=x.2) O).2
   ·right;obtain⟨x,O,rfl⟩:=List.mem_map.1 (oH e);rcases List.mem_append.1 O with O|O
    ·exact .inl (FM K x O)
    ·exact .inr (yd Y x O))
 refine⟨h1,h2 ?_,q⟩;intro k _ e;cases D:an k (yX M rs).boxes with
 |none=>exact absurd D e
 |some cells =>
  obtain⟨i,V,U,rfl,rfl⟩:=A0 (dW D);obtain⟨G,P,Q,B,T⟩:=zR K i V U;exact gY u T
def AK.DA(hX:cF P X){S:Func}(hf:P.funcs[f]?=some S){bs:L (Nat×L AV)}{ts:L (Nat×Nat)}{us:L Nat}{rs W:L LV}{M Y:L (Nat×L LV)}{l:L AV}(C:qF X bs env S.results.toList=some l)
  (h1:A1 ts rs l=some W)(h2:Cg bs ts M=some Y)(A:both (u9 (rD Y) (oI bs Y++oC 0 rk W l)) (distinct (gN (rQ Y)))=true)
  (I:W=rs)(O:Y=M):AK P X f n β (ER β rs M) (.code .ret::K) env ⟨bs,ts,us⟩:=by
 subst I O;intro g w a cs V;obtain⟨u,N,T⟩:=qg hX V C;obtain⟨J,H⟩:=ej A;have hok:=A2 h1;obtain⟨G,E,D⟩:=IC V.inv hok (Ci h2) J H;refine⟨.returned u,w,_,⟨u,_,Z,?_,G,V.frame.trans E⟩,.one step_ret,Z,Z,V.defers,Z,S,hf,N⟩;have U:=pE V.inv;show aL _ _ _
 match W,hok,D with
 |[],hok,D =>
  simp only[ki]at hok;subst hok;simp only[rC,aL,Rel];exact T
 |[x],hok,D =>
  simp only[ki]at hok;obtain⟨y,r,rfl,_,rfl⟩:=hok;simp only[Ca,eF]at D;obtain⟨b,r',Q,B,_⟩:=D;simp at Q;obtain⟨rfl,_⟩:=Q;simp only[rC];exact(sn U B T).1
 |x::x'::r,hok,D =>
  simp only[ki]at hok;obtain⟨y,q,rfl,_,p,q',rfl,_,_⟩:=hok;simp only[rC];refine(sn U (b := .eY (y::p::q')) ?_ T).1;simp only[Conv];exact⟨_,Z,D⟩
def Ww(ρ:Ren)(ts:L (Nat×Nat))(env:Env):Env->Prop
 |[]=>True
 |(t,a)::l=>(∃b,an t env=some b/\Conv ρ ts a b)/\Ww ρ ts env l
def ID(ρ:Ren)(ts:L (Nat×Nat))(bs:L (Nat×L AV)):L (Nat×L AV)->Prop
 |[]=>True
 |(k,cells)::l=>(∃O G,ρ.bx k=some O/\an O bs=some G/\eF ρ ts cells G)/\ID ρ ts bs l
def IE{ρ:Ren}{ts:L (Nat×Nat)}{env:Env}:∀{l:Env},Ww ρ ts env l->∀t a,an t l=some a->∃b,an t env=some b/\Conv ρ ts a b
 |[],_,t,a,e=>by simp[an]at e
 |(j,x)::l,h,t,a,e=>by
  rw[ai]at e;split at e
  ·rename_i I;simp at e;subst I e;exact h.1
  ·exact IE h.2 t a e
def tZ{ρ:Ren}{ts:L (Nat×Nat)}{bs:L (Nat×L AV)}:∀{l:L (Nat×L AV)},ID ρ ts bs l->∀k c,an k l=some c->∃O G,ρ.bx k=some O/\an O bs=some G/\eF ρ ts c G
 |[],_,t,a,e=>by simp[an]at e
 |(j,x)::l,h,t,a,e=>by
  rw[ai]at e;split at e
  ·rename_i I;simp at e;subst I e;exact h.1
  ·exact tZ h.2 t a e
def M8(ts:L (Nat×Nat))(tk:L (Nat×(Nat×Option Nat))):L (Nat×Nat)->Bool
 |[]=>true
 |(k,n)::l=>match an k tk with
  |some (m,none)=>both (Nat.beq m n) (M8 ts tk l)
  |some (m,some O)=>match an O ts with
   |some _=>both (Nat.beq m n) (M8 ts tk l)
   |none=>false
  |none=>false
def Cj{ts:L (Nat×Nat)}{tk:L (Nat×(Nat×Option Nat))}:∀{l:L (Nat×Nat)},M8 ts tk l=true->∀k n,an k l=some n->∃o,an k tk=some (n,o)/\∀O,o=some O->∃W,an O ts=some W
 |[],_,k,n,e=>by simp[an]at e
 |(j,m)::l,h,k,n,e=>by
  simp only[M8]at h;rw[ai]at e;split at h
  ·rename_i P C;obtain⟨S,q⟩:=ej h;split at e
   ·simp_all
   ·exact Cj q k n e
  ·rename_i P O C;split at h
   ·rename_i z D;obtain⟨S,q⟩:=ej h;split at e
    ·simp_all
    ·exact Cj q k n e
   ·simp at h
  ·simp at h
def IF:L (Nat×Nat)->Bool
 |[]=>true
 |(k,v)::l=>match Nat.blt k 1000000 with
  |true=>IF l
  |false=>both (Nat.beq v k) (IF l)
def yg:∀{l:L (Nat×Nat)},IF l=true->∀k v,1000000<=k->an k l=some v->v=k
 |[],_,k,v,_,e=>by simp[an]at e
 |(j,x)::l,h,k,v,hk,e=>by
  simp only[IF]at h;rw[ai]at e;split at h
  ·rename_i Q;have:j<1000000:=by simpa[afj]using Q
   rw[if_neg bn]at e;exact yg h k v hk e
  ·obtain⟨S,q⟩:=ej h;split at e
   ·simp_all
   ·exact yg q k v hk e
def M9(bx:L (Nat×Nat))(tk:L (Nat×(Nat×Option Nat)))(ts ts':L (Nat×Nat))(us':L Nat):Bool :=
 both (distinct (bx.map (·.2))) (both (distinct (dx tk)) (both (M8 ts tk ts') (both (IF bx) (both (FG us' (gN bx)) (FG us' (gN tk))))))
def AK.fV{bs:L (Nat×L AV)}{ts:L (Nat×Nat)}{us:L Nat}(bx:L (Nat×Nat))(tk:L (Nat×(Nat×Option Nat))){env':Env}{bs':L (Nat×L AV)}{ts':L (Nat×Nat)}{us':L Nat}
  (S:Ww ⟨λk=>an k bx,λk=>an k tk⟩ ts env env')(Q:ID ⟨λk=>an k bx,λk=>an k tk⟩ ts bs bs')(A:M9 bx tk ts ts' us'=true)
  (h:AK P X f n β R K env' ⟨bs',ts',us'⟩):AK P X f n β R K env ⟨bs,ts,us⟩:=by
 unfold M9 at A;obtain⟨u,A⟩:=ej A;obtain⟨H,A⟩:=ej A;obtain⟨p,A⟩:=ej A;obtain⟨c4,A⟩:=ej A;obtain⟨V,U⟩:=ej A;rw[mg]at V U;intro g w a cs Y;obtain⟨h1,h2⟩:=Y.inv.fV ⟨λk=>an k bx,λk=>an k tk⟩ ⟨bs',ts',us'⟩ (λk cells e=>tZ Q k cells e) (λk k' O I W=>nQ u (dW I) (dW W))
  (λk m e=>Cj p k m e) (λk k' m T O I W=>uY H (dW I) (dW W)) (λk e=>by
   rcases e with e|e
   ·exact tY V k (oH e)
   ·exact tY U k (oH e))
 refine h _ w a cs ⟨h1,Y.tO,?_,Y.frame.trans (h2 ?_),Y.size,Y.defers⟩
 ·intro t x e;obtain⟨b,I,W⟩:=IE S t x e;exact(sn (pE Y.inv) W (Y.env t b I)).1
 ·intro k D e;cases A:an k bs' with
  |none=>exact absurd A e
  |some c =>
   obtain⟨O,G,q1,N,_⟩:=tZ Q k c A;have:=yg c4 k O D q1;subst this;exact q1
end
end Go.cK
namespace Go.cK
section
variable {P : Program}{X : Ctx}{f : FuncId}{n : Nat}{β : jZ}{R : Ending -> World -> Prop}{K : L Item}{env : Env}{σ : St}
def AK.BG{c:Operand}{x y:Code}{b:Bool}(A:aK X env c=some (.c (.bool b)))(Q:b=true)(h:AK P X f n β R (.code x::K) env σ) :
  AK P X f n β R (.code (.cond c x y)::K) env σ:=by subst Q;exact AK.Z6 A h
def AK.BH{c:Operand}{x y:Code}{b:Bool}(A:aK X env c=some (.c (.bool b)))(Q:b=false)(h:AK P X f n β R (.code y::K) env σ) :
  AK P X f n β R (.code (.cond c x y)::K) env σ:=by subst Q;exact AK.Z7 A h
end
def zS{α:Type}:∀{n:Nat}{l:List α},n<=l.length->takeN n l=some (l.take n)
 |0,l,_=>by simp[takeN]
 |n+1,[],h=>by simp at h
 |n+1,x::l,h=>by simp[takeN,zS (l:=l) (n:=n) oy]
def zT{α:Type}:∀{n:Nat}{l:List α},n<=l.length->eu n l=some (l.drop n)
 |0,l,_=>by simp[eu]
 |n+1,[],h=>by simp at h
 |n+1,x::l,h=>by simp[eu,zT (l:=l) (n:=n) oy]
abbrev cO(l:L UInt8):L CV:=l.map λb => .int .u8 b.toNat
def byteOf(z:Int):UInt8:=UInt8.ofNat (z%256).toNat
def oD(z:Int):((byteOf z).toNat:Int)=IntKind.u8.wrap z:=by
 unfold byteOf;simp[IntKind.wrap,IntKind.bits,IntKind.signed];omega
def yT(z:Int):[CV.int .u8 (IntKind.u8.wrap z)]=cO [byteOf z]:=by
 simp[cO,oD]
section
variable {P : Program}{X : Ctx}
def bU.val{o:Oper}{env:Env}{σ:St}{v:AV} (h:∀(Y:Env)(w:World)(g:Gh)(a:Act),(∀x∈o.op.operands.toList,aK X Y x=aK X env x)->(∀b o v,g.G b o=some v->w.cell? ⟨b,o,none⟩=some v) ->
  pP X g.G->vB g Y a.tmps->∃u,(execOp a.eval o).run P w = .ok (.value u) w/\aL g v u):bU P X o env σ v (λσ=>σ) ⟨[],[]⟩:=by
 intro Y W w g a next Q h1 h2 N M q S;obtain⟨u,V,J⟩:=h Y w g a h1 N.pQ M q;unfold Oper.wp;rw[V,Oper.upon_value];exact S u w g J N (iK.refl _ _ _) (Gh.le.refl _)
def bU.concat(hX:cF P X){o:Oper}{env:Env}{σ:St}{t yt:TypeId}{x y:Operand}(ho:o.op = .binOp .add t x y yt){a b:L UInt8}(hx:aK X env x=some (.c (.str a)))(hy:aK X env y=some (.c (.str b)))
  (hl:a.length+b.length<=9223372036854775807):bU P X o env σ (.c (.str (a++b))) (λσ=>σ) ⟨[],[]⟩:=by
 refine bU.val λdz w g act h1 iW cA dH=>?_
 have hx':aK X dz x=some (.c (.str a)):=by rw[h1 x mc];exact hx
 have hy':aK X dz y=some (.c (.str b)):=by rw[h1 y mc];exact hy
 have rx:=cy (a:=act) dH cA hx'
 have ry:=cy (a:=act) dH cA hy'
 simp only[aL,Rel]at rx ry
 refine⟨.string ⟨(a++b).toArray⟩,?_,by simp only[aL,Rel]⟩
 obtain⟨dst,op,type,pos,after,guard⟩:=o
 simp only at ho;subst ho
 have hsz:¬((9223372036854775807:Int)<(a.length:Int)+(b.length:Int)):=by omega
 have hj:(ByteArray.mk a.toArray)++(ByteArray.mk b.toArray)=⟨(a++b).toArray⟩:=by
  apply ahx
  simp[ByteArray.data_append]
 simp[execOp,rx,ry,binOp,eqGuard,Op.stringOp,wS,hsz,hj]
def bU.toStr(hX:cF P X){o:Oper}{env:Env}{σ:St}{s d:TypeId}{x:Operand}(N:o.op = .convert s d x){i j k:TI}{e:Nat}(hi:X.ti s=some i)(hk:i.kind = .slice e)(he:X.ti e=some k)(UG:k.kind = .int .u8)(hj:X.ti d=some j)(M:j.kind = .str)
  {a:AV}(hx:aK X env x=some a){q:Nat}{rows:L CV}(C:rowsOf a=some (q,rows)){l:L UInt8}(gw:rows=cO l)(hq:gI q 1 rows=true):bU P X o env σ (.c (.str l)) (λσ=>σ) ⟨[],[]⟩:=by
 refine bU.val λdz w g J h1 iW cA dH=>?_;have H:aK X dz x=some a:=by rw[h1 x (by rw[N];simp[Op.operands])];exact hx
 have O:=cy (a:=J) dH cA H;obtain⟨d1,_,E,Y⟩:=hX.run_underlying (w:=w) hi;rw[hk]at E;simp only[ff]at E;subst E;obtain⟨d2,_,W,U⟩:=hX.run_underlying (w:=w) he;rw[UG]at W;simp only[ff]at W;subst W;obtain⟨d3,_,T,S⟩:=hX.run_underlying (w:=w) hj;rw[M]at T;simp only[ff]at T;subst T;have Q:∃base p V,J.eval x = .slice base p V/\p=rows.length/\lK g.G q base rows:=by
  unfold rowsOf at C;split at C<;>simp at C
  ·obtain⟨rfl,rfl⟩:=C;simp only[aL]at O;obtain⟨base,p,V,D,B,e3,A,_⟩:=O;exact⟨base,p,V,D,B,A⟩
  ·obtain⟨rfl,rfl⟩:=C;simp only[aL,Rel]at O;obtain⟨base,p,V,D,B,e3,A⟩:=O;exact⟨base,p,V,D,B,A⟩
 obtain⟨base,p,V,ex,K,hrw⟩:=Q;refine⟨.string ⟨l.toArray⟩,?_,by simp only[aL,Rel]⟩;have adK:(convert s d (.slice base p V)).run P w = .ok (.string ⟨l.toArray⟩) w:=by
  subst gw;rw[aeA]at K;rcases hrw with abk|⟨b,o',rfl,hG⟩
  ·have hl:l=[]:=by simpa using abk
   subst hl;simp at K;subst K;cases base with
   |none=>rw[run_convert_bytes_string w s d e none 0 V Y U S];simp[Conv.bytesToString];rfl
   |some ad=>exact run_convert_bytes_back w s d e ad V [] Y U S cS
  ·rw[K];refine run_convert_bytes_back w s d e ⟨b,o',none⟩ V l Y U S λm hm=>?_;rw[Addr.add_lit];have I:(cO l)[m]?=some (.int .u8 l[m].toNat):=by simp[cO,hm]
   obtain⟨c1,c2⟩:=hG.get m _ I;simp only[CV.cells,dy]at c1 c2;obtain⟨⟨u,u1,u2,_⟩,_⟩:=c1;simp only[Rel]at u2;subst u2;have hq1:q=1:=by simpa using c2.symm
   subst hq1;have:=iW _ _ _ u1;rwa[Nat.mul_one]at this
 obtain⟨dst,op,type,pos,after,guard⟩:=o;simp only at N;subst N;simp[execOp,ex,adK]
def A3(es e:Nat):Nat->Nat->L (Nat×Nat)
 |_,0=>[]
 |k,n+1=>(k*es,e)::A3 es e (k+1) n
def IG{es e:Nat}:∀{n k i off Y:Nat},nth (A3 es e k n) i=some (off,Y)->off=(k+i)*es/\Y=e
 |0,k,i,off,Y,h=>by simp[A3,nth]at h
 |n+1,k,0,off,Y,h=>by simp[A3,nth]at h;exact⟨by simp[h.1],h.2.symm⟩
 |n+1,k,i+1,off,Y,h=>by
  simp only[A3,nth]at h;obtain⟨h1,h2⟩:=IG h;exact⟨by rw[h1];congr 1;omega,h2⟩
def bU.FO(hX:cF P X){o:Oper}{env:Env}{σ:St}{t:TypeId}{parts:Array (Nat×Operand)}(ho:o.op = .build t parts){i j:TI}{n e:Nat}(hi:X.ti t=some i)(hk:i.kind = .arr n e)(hj:X.ti e=some j)
  {z r:L AV}(hz:i.zero=some (.agg z))(h:rW X (aK X env) (A3 j.size e 0 n) parts.toList z=some r):bU P X o env σ (.agg r) (λσ=>σ) ⟨[],[]⟩:=by
 refine bU.val λdz w g act h1 iW cA dH=>?_
 have h':rW X (aK X dz) (A3 j.size e 0 n) parts.toList z=some r:=by
  rw[wT _ _ _ (λp hp=>h1 p.2 RK)];exact h
 obtain⟨d,jQ,iN,_⟩:=hX.run_underlying (w:=w) hi
 rw[hk]at iN;simp only[ff]at iN;subst iN
 obtain⟨zv,z1,z2,z3⟩:=hX.mK (w:=w) hi hz
 have z4:=z2 g
 simp only[aL]at z4
 obtain⟨zs,rfl,z5,z6⟩:=z4
 obtain⟨us,f1,f2,f3⟩:=Fo hX (ρ:=aK X dz) (ev:=act.eval) (λx v hx=>cy dH cA hx) (λ(m:Nat)=>some (m*j.size,j.size)) (by
  intro m off ft j' e1 e2
  obtain⟨rfl,rfl⟩:=IG e1
  rw[hj]at e2;simp at e2;subst e2
  simp) (vs:=zs.toArray) h' (by simpa using z5) z6
 refine⟨.agg us,?_,aby⟩
 obtain⟨dst,op,type,pos,after,guard⟩:=o
 simp only at ho;subst ho
 have hb:(Instr.build t (parts.map λ(i,x)=>(i,act.eval x))).run P w = .ok (.agg us) w:=by
  simp only[Instr.build,Sem.run_bind,z1,Result.andThen_ok,jQ,Value.cells,hX.run_sizeOf hj]
  simp only[aeY]
  rw[f1];rfl
 simp only[execOp,Sem.run_bind]
 have:(Array.map (λx=>(x.fst,act.eval x.snd)) parts)=parts.map λ(i,x)=>(i,act.eval x):=rfl
 simp only[this,hb,Result.andThen_ok,Sem.run_pure]
def bU.gq(hX:cF P X){o:Oper}{env:Env}{σ:St}{t:TypeId}{x ix:Operand}(ho:o.op = .index t x ix){i j:TI}{n e:Nat}(hi:X.ti t=some i)(hk:i.kind = .arr n e)(hj:X.ti e=some j)
  {cs rest:L AV}(hx:aK X env x=some (.agg cs)){ia:AV}(hz:aK X env ix=some ia){m:Nat}(hm:asNat ia=some m)(hmn:Nat.blt m n=true)(hd:eu (m*j.size) cs=some rest){v:AV}(hv:lH j rest=some v) :
  bU P X o env σ v (λσ=>σ) ⟨[],[]⟩:=by
 refine bU.val λdz w g act h1 iW cA dH=>?_
 have hx':aK X dz x=some (.agg cs):=by rw[h1 x mc];exact hx
 have GN:aK X dz ix=some ia:=by rw[h1 ix mc];exact hz
 have rx:=cy (a:=act) dH cA hx'
 have rz:=cy (a:=act) dH cA GN
 simp only[aL,Rel]at rx
 obtain⟨vs,ex,r1,r2⟩:=rx
 obtain⟨k,rz⟩:=x8 hm rz
 obtain⟨d,jQ,iN,_⟩:=hX.run_underlying (w:=w) hi
 rw[hk]at iN;simp only[ff]at iN;subst iN
 obtain⟨u,u1,u2⟩:=Fq (P:=P) (w:=w) (vs:=vs.toArray) hX hj (.inl ⟨cs,rest,by simpa using r1,r2,hd,hv⟩)
 refine⟨u,?_,u2⟩
 have hlt:m<n:=by simpa[afj]using hmn
 obtain⟨dst,op,type,pos,after,guard⟩:=o
 simp only at ho;subst ho
 simp[execOp,ex,rz,Instr.index,asIntOf,jQ,hlt,hX.run_sizeOf hj,u1]
end
section
variable {P : Program}{X : Ctx}{ops : Array Oper}{o : Oper}{rest : L Oper}{env : Env}{acc : L Fp}{Q : Env -> St -> L Fp -> Prop}{σ : St}
def af.acV(hX:cF P X)(kn:L Nat)(G:simple o.op=true){acc:L Fp}{Y:L Oper}{env':Env}{W:L Fp}
  (h:H7 X ops.toList σ.boxes kn 0 (o::rest) env acc = .at Y env' W)(k:af P X ops Y env' σ W Q):af P X ops (o::rest) env σ acc Q:=af.OO hX 0 kn h k
def af.pM{j d:Nat}{Y b:Bool}(G:o.guard=some (j,Y))(W:qR ops j=some d)(V:an d env=some (.c (.bool b)))(D:b=true)
  (h1:b=true->af P X ops (o::rest) env σ acc Q):af P X ops (o::rest) env σ acc Q:=h1 D
def af.pN{j d:Nat}{Y b:Bool}(G:o.guard=some (j,Y))(W:qR ops j=some d)(V:an d env=some (.c (.bool b)))(D:b=false)
  (h1:b=false->af P X ops (o::rest) env σ acc Q):af P X ops (o::rest) env σ acc Q:=h1 D
def af.concat(hX:cF P X)(kn:L Nat)(hg:dj ops.toList kn env o=some true){t yt:TypeId}{x y:Operand}(ho:o.op = .binOp .add t x y yt){d:Nat}(hd:o.dst=some d){a b:L UInt8}
  (hx:aK X env x=some (.c (.str a)))(hy:aK X env y=some (.c (.str b)))(hl:a.length+b.length<=9223372036854775807)
  (k:af P X ops rest ((d,.c (.str (a++b)))::env) σ (⟨[],[]⟩::acc) Q):af P X ops (o::rest) env σ acc Q :=
 af.step (dB hg) (bU.concat hX ho hx hy hl) (iA.id _) Ai
def af.toStr(hX:cF P X)(kn:L Nat)(G:dj ops.toList kn env o=some true){s t:TypeId}{x:Operand}(p:o.op = .convert s t x){d:Nat}(O:o.dst=some d){i j k:TI}{e:Nat}(K:X.ti s=some i)(D:i.kind = .slice e)(S:X.ti e=some k)(W:k.kind = .int .u8)
  (V:X.ti t=some j)(Y:j.kind = .str){a:AV}(N:aK X env x=some a){q:Nat}{rows:L CV}(C:rowsOf a=some (q,rows)){l:L UInt8}(U:rows=cO l)(hq:gI q 1 rows=true)
  (k:af P X ops rest ((d,.c (.str l))::env) σ (⟨[],[]⟩::acc) Q):af P X ops (o::rest) env σ acc Q :=
 af.step (dB G) (bU.toStr hX p K D S W V Y N C U hq) (iA.id _) ri
def af.FO(hX:cF P X)(kn:L Nat)(G:dj ops.toList kn env o=some true){t:TypeId}{S:Array (Nat×Operand)}(p:o.op = .build t S){d:Nat}(O:o.dst=some d){i j:TI}{n e:Nat}(K:X.ti t=some i)(D:i.kind = .arr n e)(Y:X.ti e=some j)
  {z r:L AV}(W:i.zero=some (.agg z))(h:rW X (aK X env) (A3 j.size e 0 n) S.toList z=some r)
  (k:af P X ops rest ((d,.agg r)::env) σ (⟨[],[]⟩::acc) Q):af P X ops (o::rest) env σ acc Q :=
 af.step (dB G) (bU.FO hX p K D Y W h) (iA.id _) ri
def af.gq(hX:cF P X)(kn:L Nat)(G:dj ops.toList kn env o=some true){t:TypeId}{x q:Operand}(p:o.op = .index t x q){d:Nat}(O:o.dst=some d){i j:TI}{n e:Nat}(K:X.ti t=some i)(D:i.kind = .arr n e)(U:X.ti e=some j)
  {cs Y:L AV}(N:aK X env x=some (.agg cs)){V:AV}(T:aK X env q=some V){m:Nat}(C:asNat V=some m)(W:Nat.blt m n=true)(S:eu (m*j.size) cs=some Y){v:AV}(M:lH j Y=some v)
  (k:af P X ops rest ((d,v)::env) σ (⟨[],[]⟩::acc) Q):af P X ops (o::rest) env σ acc Q :=
 af.step (dB G) (bU.gq hX p K D U N T C W S M) (iA.id _) ri
def af.mG(hX:cF P X)(kn:L Nat)(G:dj ops.toList kn env o=some true){t:TypeId}{x W:Operand}(p:o.op = .index t x W){d:Nat}(O:o.dst=some d){i:TI}(K:X.ti t=some i)(D:i.kind = .str)
  {s:L UInt8}(N:aK X env x=some (.c (.str s))){k:IntKind}{z:Int}(Y:aK X env W=some (.c (.int k z))){m:Nat}(C:z=m){b:UInt8}(V:s[m]?=some b)
  (k:af P X ops rest ((d,.c (.int .u8 b.toNat))::env) σ (⟨[],[]⟩::acc) Q):af P X ops (o::rest) env σ acc Q:=by
 subst C;refine af.look hX kn G O ?_ (by rw[p];rfl) k;rw[p];have ha:∀q:IntKind,asNat (.c (.int q (m:Int)))=some m:=λ_=>rfl;simp only[gy,K,N,Y,ha,D,sO,V]
def af.FP(hX:cF P X)(kn:L Nat)(hg:dj ops.toList kn env o=some true){t:TypeId}{x:Operand}{lo hi':Option Operand}(ho:o.op = .slice t x lo hi' none){d:Nat}(hd:o.dst=some d){i:TI}(hi:X.ti t=some i)(hk:i.kind = .str)
  {s:L UInt8}(hx:aK X env x=some (.c (.str s))){l h:Option Nat}(hl:bound (aK X env) lo=some l)(hh:bound (aK X env) hi'=some h)(h1:h.getD s.length<=s.length)(h2:l.getD 0<=h.getD s.length)
  (k:af P X ops rest ((d,.c (.str ((s.take (h.getD s.length)).drop (l.getD 0))))::env) σ (⟨[],[]⟩::acc) Q):af P X ops (o::rest) env σ acc Q:=by
 refine af.look hX kn hg hd ?_ (by rw[ho];rfl) k
 rw[ho]
 have hb:bound (aK X env) none=some none:=rfl
 simp only[gy,hi,hx,hl,hh,hb,hk,Fk]
 cases h with
 |none =>
  cases l with
  |none=>simp
  |some l=>simp at h2 ⊢;simp[zT h2]
 |some h =>
  simp at h1 h2 ⊢
  cases l with
  |none=>simp[zS h1]
  |some l =>
   simp at h2
   simp[zS h1,zT (l:=s.take h) (n:=l) ob]
end
end Go.cK
namespace Go.cK
abbrev ak(rows:L CV):L AV:=(bC rows).map AV.c
def RN{w : World}{g : Gh}{σ : St}(h : Inv w g σ) : Inv w.drew g σ /\ iK w g σ w.drew g σ :=
  ⟨⟨h.pQ, λk cs e => by
      obtain ⟨b, S, q, B, N⟩ := h.box k cs e;exact ⟨b, S, q, B, cB.of_same (w := w) (w' := w.drew) (λo => ⟨Z, Z⟩) N⟩,
    h.gk, h.tok, h.iu, h.used, h.room⟩,
   ⟨Z, Z, Z, aaj _, λ_ _ _ => Z, λ_ _ _ _ => ⟨Z, Z⟩, j8.le.refl _, λ_ _ _ h => .inl h, λk cs b h1 h2 => .inr ⟨k, cs, h1, h2⟩,
    λk n b H K h1 h2 => .inr ⟨k, n, H, K, h1, h2, aaj _, aaj _⟩, λ_ _ h => ⟨h, Z, Z⟩⟩⟩
def qh{g:Gh}:∀{cs:L CV}{vs:L Value},bR g.G cs vs->bJ g (cs.map AV.c) vs
 |[],vs,h=>by simp only[bR]at h;subst h;simp[bJ]
 |c::cs,vs,h=>by
  simp only[bR]at h
  obtain⟨u,us,rfl,h1,h2⟩:=h
  simp only[aed,bJ]
  exact⟨u,us,Z,abV,qh h2⟩
def ua:∀(cs:L CV),(cs.map AV.c).all AV.one=cs.all CV.one
 |[]=>rfl
 |c::cs=>by simp only[aed,aeL,ua cs,AV.one]
section
variable {P : Program}{X : Ctx}
def yM(w:World)(s:Nat)(base:Option Addr)(V:Nat):(Builtin.firstCells s 0 (.slice base 0 V)).run P w = .ok #[] w:=by
 cases base with
 |none=>simp[Builtin.firstCells]
 |some a=>exact run_firstCells_some w s 0 a 0 V [] cS (by intro j v h;simp at h)
set_option maxHeartbeats 1600000 in
def bU.uu(hX:cF P X){o:Oper}{env:Env}{σ:St}{args:Array Operand}{ats:Array TypeId}(ho:o.op = .call {callee := .builtin .append,args:=args,argTypes:=ats})
  {xs y:Operand}(hargs:args.toList=[xs,y]){t t1:Nat}(B9:ats.toList=[t,t1]){d:Nat}(jQ:d<1000000)
  {i j i1:TI}{e:Nat}(hi:X.ti t=some i)(hk:i.kind = .slice e)(hj:X.ti e=some j){za:AV}(hz:j.zero=some za)(hi1:X.ti t1=some i1)(pK:me i1.kind=true)
  {s:Nat}{rows:L CV}(ha:aK X env xs=some (.own .exact s rows)){b:AV}(hb:aK X env y=some b){s1:Nat}{cq:L CV}(hsrc:nP b=some (s1,cq))
  (hs:gI s j.size rows=true)(td:gI s1 j.size cq=true)(hne:cq≠[])(hu:mem d σ.used=false)(hby:Nat.ble 1 j.bytes=true)(hbound:(rows.length+cq.length)*j.bytes<=140737488355328) :
  bU P X o env σ (.gS d 0 j.size (rows++cq).length) (λσ=>σ.eM d (ak (rows++cq))) ⟨[],[d]⟩:=by
 intro dz σ1 w g act next Q h1 h2 hinv cA dH hnext
 have ru:∀x∈args.toList,x∈o.op.operands.toList:=by
  intro x hx
  rw[ho];simp only[Op.operands,Call.operands,aeP,adT];exact .inr hx
 have yI:aK X dz xs=some (.own .exact s rows):=by rw[h1 xs (ru xs acB)];exact ha
 have hb':aK X dz y=some b:=by rw[h1 y (ru y acB)];exact hb
 have rA:=cy (a:=act) dH cA yI
 have rB:=cy (a:=act) dH cA hb'
 simp only[aL]at rA
 obtain⟨base,len,cap,ex,hlen,hcap,gw,hown⟩:=rA
 obtain⟨_,n5⟩:=rq (P:=P) (w:=w) hinv.pQ hsrc td rB
 obtain⟨⟨news',Z8,n2',n3',n4'⟩,_⟩:=rq (P:=P) (w:=w.drew) (λb o v h=>by rw[World.cell?_drew];exact hinv.pQ b o v h) hsrc td rB
 obtain⟨olds,m1,m2,m3,m4⟩:=yb (P:=P) (w:=w.drew) (g:=g) (λb o v h=>by rw[World.cell?_drew];exact hinv.pQ b o v h) gw hs len cap hlen
 obtain⟨dt,_,zM,Hf⟩:=hX.run_underlying (w:=w) hi
 rw[hk]at zM;simp only[ff]at zM;subst zM
 obtain⟨d1,DG,II⟩:=AX hX hi1 acC w
 obtain⟨inf,XY,PI,if3,if4,_,if6⟩:=hX.ti e j hj
 obtain⟨z,z1,_,z3⟩:=if4 za hz
 have TA:news'.length=cq.length*j.size:=by rw[<- (bR.get Z8).1,dK n2']
 have Th:olds.length=rows.length*j.size:=by rw[<- (bR.get m1).1,dK m2]
 have zN:args = #[xs,y]:=by cases args;simp_all
 have FC:ats = #[t,t1]:=by cases ats;simp_all
 have Wt:=aep hby
 have hsmall:rows.length+cq.length<=140737488355328:=aeS (agS _ Wt) hbound
 have hpos:0<cq.length:=List.length_pos_iff.2 hne
 simp only[qN]at hown
 have Wu:∀(v:Value)(w':World),(Builtin.append_ #[t,t1] o.type #[.slice base len cap,act.eval y]).run P w = .ok v w'->(execOp act.eval o).run P w = .ok (.value v) w':=by
  intro v w' hr
  obtain⟨dst,op,type,pos,after,guard⟩:=o
  simp only at ho hr;subst ho
  subst zN FC
  simp[execOp,resolve,invoke,builtin,ex,hr,Result.andThen]
 unfold Oper.wp
 have hg:cap<len+cq.length:=by omega
 have hbd:(len+cq.length)*inf.bytes<=140737488355328:=by rw[if3,hlen];exact hbound
 rw[Wu _ _ (oG Hf DG II XY z1 n5 (by rw[PI];exact n4') (by rw[PI];exact m4) hg bn hbd)]
 rw[Oper.upon_value]
 have hge:=grownCap_ge w (len+cq.length) cap e
 generalize grownCap w (len+cq.length) cap e=nc at hge ⊢
 have vI:(olds.toArray++news'.toArray++Builtin.zeroCells z.cells (nc-(len+cq.length))).size=nc*j.size:=by
  simp only[afp,aeZ,size_zeroCells,Th,TA,z3,<- hlen,<- afO]
  congr 1;omega
 have Wx:d ∉ σ1.used:=λh=>cY hu ((h2 d (.inr cS)).2.2.1 h)
 obtain⟨e1,e2⟩:=RN hinv
 have gL:bR g.G (bC (rows++cq)) (olds++news'):=by rw[dS];exact fK m1 Z8
 have hfl:(bC (rows++cq)).length=(olds++news').length:=(bR.get gL).1
 have hrc:bJ g (ak (rows++cq)) ((olds.toArray++news'.toArray++Builtin.zeroCells z.cells (nc-(len+cq.length))).toList.take (ak (rows++cq)).length):=by
  rw[aeA,hfl]
  simp only[aeP]
  rw[List.take_left']
  ·exact qh gL
  ·simp
 have hone:(ak (rows++cq)).all AV.one=true:=by
  rw[ua,dS,afL,m3,n3'];rfl
 obtain⟨i1,i2,i3,i4⟩:=J5 (t:=e) e1 Wx jQ hrc hone
 refine hnext _ _ _ ?_ i1 (e2.trans i2) i3
 simp only[aL]
 refine⟨w.heap.size,nc,some ⟨w.heap.size,0,none⟩,cS,?_,?_,?_,.inr Z⟩
 ·simp[hlen]
 ·simp_all
 ·simp_all
end
end Go.cK
namespace Go.cK
def St.fq(σ:St)(p:Nat):St:=⟨DE p σ.boxes,σ.toks,σ.used⟩
def PO{w:World}{g:Gh}{σ:St}(h:Inv w g σ)(p:Nat):Inv w g (σ.fq p)/\iK w g σ w g (σ.fq p):=by
 have G:∀k cs,an k (σ.fq p).boxes=some cs->an k σ.boxes=some cs:=by
  intro k cs e;simp only[St.fq,kT]at e;split at e
  ·simp at e
  ·exact e
 refine⟨⟨h.pQ,λk cs e=>h.box k cs (G k cs e),λk k' cs H b e e'=>h.gk k k' cs H b (G k cs e) (G k' H e'),?_,h.iu,h.used,λk cs b e=>h.room k cs b (G k cs e)⟩,
  ⟨Z,Z,Z,aaj _,λ_ _ _=>rfl,λ_ _ _ _=>⟨Z,Z⟩,j8.le.refl _,λ_ _ _ h => .inl h,λk cs b h1 h2 => .inr ⟨k,cs,G k cs h1,h2⟩,
   λk n b Y K h1 h2 => .inr ⟨k,n,Y,K,h1,h2,aaj _,aaj _⟩,λk _ e=>?_⟩⟩
 ·intro k n e;obtain⟨I,h1,h2⟩:=h.tok k n e;refine⟨I,h1,λb Y K C=>?_⟩;obtain⟨V,S,W⟩:=h2 b Y K C;exact⟨V,S,λk' cs e'=>W k' cs (G k' cs e')⟩
 ·cases A:an k (σ.fq p).boxes with
  |none=>exact absurd A e
  |some cs=>exact⟨by rw[G k cs A];simp,Z,Z⟩
def Zg{w w':World}{g:Gh}{σ:St}{key d b:Nat}{cells cells':L AV}(hinv:Inv w g σ)(hk:an key σ.boxes=some cells)(hb:g.box key=some b)(hd:d ∉ σ.used)(abn:d<1000000)
  (r2:w'.heap.size=w.heap.size/\w'.os=w.os/\w'.tape=w.tape/\w'.output=w.output/\∀b',b'≠b->w'.heap[b']?=w.heap[b']?)
  (r3:∀b' o',b'≠b->w'.cell? ⟨b',o',none⟩=w.cell? ⟨b',o',none⟩)(r4:∀b' o',w'.frozen? ⟨b',o',none⟩=w.frozen? ⟨b',o',none⟩)
  (hc:cB w' g b 0 cells')(hr:∀o,o<g.room key->∃u,w'.cell? ⟨b,o,none⟩=some u) :
  let g':Gh:=⟨g.G,λk=>if k=d then some b else g.box k,g.tok,λk=>if k=d then g.room key else g.room k⟩
  let σ':St:=(σ.eM d cells').fq key
  Inv w' g' σ'/\iK w g σ w' g' σ'/\g.le g':=by
 intro g' σ'
 obtain⟨b0,hb0,adt,hbG,hbc⟩:=hinv.box key cells hk
 rw[hb]at hb0;cases hb0
 have Wn:g.box d=none:=by
  cases h:g.box d with
  |none=>rfl
  |some x=>exact absurd (hinv.used d (.inl p8)) hd
 have hkd:key≠d:=by rintro rfl;rw[hb]at Wn;simp at Wn
 have hle:g.le g':=by
  refine⟨j8.le.refl _,λk x h=>?_,λk x h=>?_,λk hw gK h=>⟨hw,gK,h,aaj _,λ_=>rfl⟩⟩
  ·grind
  ·grind
 have jg:∀k cs,an k σ'.boxes=some cs->(k=d/\cs=cells')\/(k≠d/\k≠key/\an k σ.boxes=some cs):=by
  intro k cs e
  simp only[σ',St.fq,St.eM,kT,ai]at e
  split at e
  ·simp at e
  ·grind
 have wW:∀k cs b',k≠key->an k σ.boxes=some cs->g.box k=some b'->b'≠b:=by
  rintro k cs b' h1 h2 h3 rfl
  exact h1 (hinv.gk k key cs cells _ h2 hk h3 hb)
 refine⟨⟨?_,?_,?_,?_,hinv.iu,?_,?_⟩,⟨r2.2.1,r2.2.2.1,r2.2.2.2.1,bn,λb' hb' hno=>r2.2.2.2.2 b' (by rintro rfl;exact hno 0 (.inl ⟨key,cells,hk,hb⟩)),λb' o hb' hno=>⟨r3 b' o (by rintro rfl;exact hno (.inl ⟨key,cells,hk,hb⟩)),r4 b' o⟩,j8.le.refl _,λ_ _ _ h => .inl h,?_,?_,?_⟩,hle⟩
 ·intro b' o v h
  rw[r3 b' o (by rintro rfl;rw[hbG]at h;simp at h)]
  exact hinv.pQ b' o v h
 ·intro k cs e
  rcases jg k cs e with ⟨rfl,rfl⟩|⟨h1,h2,h3⟩
  ·exact⟨b,ac0,bn,hbG,hc.mono hle⟩
  ·obtain⟨b',f1,f2,f3,f4⟩:=hinv.box k cs h3
   have Bs:=wW k cs b' h2 h3 f1
   exact⟨b',by simp[g',h1,f1],bn,f3,(cB.of_same (λo=>⟨r3 b' o Bs,r4 b' o⟩) f4).mono hle⟩
 ·intro k k' cs cs' b' e e' e1 e2
  simp only[g']at e1 e2
  rcases jg k cs e with ⟨rfl,rfl⟩|⟨h1,h2,h3⟩
  ·grind
  ·rw[if_neg h1]at e1
   rcases jg k' cs' e' with ⟨rfl,rfl⟩|⟨yG,B8,Vn⟩
   ·grind
   ·rw[if_neg yG]at e2
    exact hinv.gk k k' cs cs' b' h3 Vn e1 e2
 ·intro k n e
  obtain⟨gK,e1,e2⟩:=hinv.tok k n e
  refine⟨gK,e1,λb' lo hi hr'=>?_⟩
  obtain⟨e3,e4,e5⟩:=e2 b' lo hi hr'
  have Bs:b'≠b:=by rintro rfl;exact e5 key cells hk hb
  refine⟨bn,λo h1 h2=>?_,λk' cs e'=>?_⟩
  ·grind
  ·grind
 ·intro k e
  show k∈d::σ.used
  by_cases hkk:k=d
  ·simp[hkk]
  ·simp only[aeB];right;apply hinv.used k;simpa[g',hkk]using e
 ·intro k cs b' e e1 o
  simp only[g']at e1 ⊢
  rcases jg k cs e with ⟨rfl,rfl⟩|⟨h1,h2,h3⟩
  ·rw[if_pos rfl]at e1;rw[if_pos rfl];simp at e1;subst e1
   exact⟨hr o,by rw[r4];exact(hinv.room key cells _ hk hb o).2⟩
  ·rw[if_neg h1]at e1;rw[if_neg h1]
   have Bs:=wW k cs b' h2 h3 e1
   obtain⟨f1,f2⟩:=hinv.room k cs b' h3 e1 o
   exact⟨λho=>(f1 ho).imp λu hu=>by rw[r3 b' o Bs];exact hu,by rw[r4];exact f2⟩
 ·grind
 ·exact adN
 ·intro k yO e
  cases hc0:an k σ'.boxes with
  |none=>exact absurd hc0 e
  |some cs =>
   rcases jg k cs hc0 with ⟨rfl,rfl⟩|⟨h1,h2,h3⟩
   ·omega
   ·grind
def pF{w:World}{g:Gh}{b:Nat}:∀{cs:L CV}{tail:L AV}{o:Nat},cB w g b o (cs.map AV.c++tail)->∃vs:L Value,bR g.G cs vs/\(∀(j:Nat) u,vs[j]?=some u->w.cell? ⟨b,o+j,none⟩=some u)/\cs.all CV.one=true
 |[],_,_,_=>⟨[],by simp[bR],λj u h=>by simp at h,Z⟩
 |c::cs,tail,o,h=>by
  simp only[aed,adU]at h;obtain⟨⟨u,h1,h2,V⟩,_,h4⟩:=h;obtain⟨vs,K,U,D⟩:=pF h4;refine⟨u::vs,by simp only[bR];exact⟨u,vs,Z,MO,K⟩,λj v Y=>?_,by simp only[aeL,D,afl];simpa only[AV.one]using V⟩;cases j with
  |zero=>simp at Y;subst Y;exact h1
  |succ j =>
   simp at Y;have:=U j v Y;rwa[show o+1+j=o+(j+1)from by omega]at this
def Na(d p:Nat)(cells:L AV)(Y:d≠p):iA (λσ=>(σ.eM d cells).fq p) ⟨[],[d,p]⟩ where
 out:=λσ k D=>by
  simp at D;refine⟨?_,Z,?_⟩
  ·simp only[St.fq,St.eM,kT,ai];rw[if_neg D.2,if_neg D.1]
  ·simp only[St.fq,St.eM,aeB];exact⟨λh=>h.resolve_left D.1,.inr⟩
 same:=λσ W h k D=>by
  obtain⟨h1,h2,V⟩:=h k (.inr D);refine⟨?_,h2,?_⟩
  ·simp only[St.fq,St.eM,kT,ai];split
   ·rfl
   ·simp_all
  ·simp only[St.fq,St.eM,aeB,V]
section
variable {P : Program}{X : Ctx}
set_option maxHeartbeats 1600000 in
def bU.mR(hX:cF P X){o:Oper}{env:Env}{σ:St}{args:Array Operand}{ats:Array TypeId}(ho:o.op = .call {callee := .builtin .append,args:=args,argTypes:=ats})
  {xs y:Operand}(hargs:args.toList=[xs,y]){t t1:Nat}(B9:ats.toList=[t,t1]){d:Nat}(jQ:d<1000000)
  {i j i1:TI}{e:Nat}(hi:X.ti t=some i)(hk:i.kind = .slice e)(hj:X.ti e=some j){za:AV}(hz:j.zero=some za)(hi1:X.ti t1=some i1)(pK:me i1.kind=true)
  {key n:Nat}(ha:aK X env xs=some (.gS key 0 j.size n)){cells tail:L AV}{rows:L CV}(BN:an key σ.boxes=some cells)(jz:cells=ak rows++tail)(hn:n=rows.length)(hfl:(bC rows).length=n*j.size)
  {b:AV}(hb:aK X env y=some b){s1:Nat}{cq:L CV}(hsrc:nP b=some (s1,cq))
  (td:gI s1 j.size cq=true)(hu:mem d σ.used=false)(hby:Nat.ble 1 j.bytes=true)(hbound:(rows.length+cq.length)*j.bytes<=140737488355328) :
  bU P X o env σ (.gS d 0 j.size (rows++cq).length) (λσ=>(σ.eM d (ak (rows++cq))).fq key) ⟨[],[d,key]⟩:=by
 intro dz σ1 w g act next Q h1 h2 hinv cA dH hnext
 have ru:∀x∈args.toList,x∈o.op.operands.toList:=by
  intro x hx
  rw[ho];simp only[Op.operands,Call.operands,aeP,adT];exact .inr hx
 have yI:aK X dz xs=some (.gS key 0 j.size n):=by rw[h1 xs (ru xs acB)];exact ha
 have hb':aK X dz y=some b:=by rw[h1 y (ru y acB)];exact hb
 have J7:an key σ1.boxes=some cells:=by rw[(h2 key (.inr cS)).1];exact BN
 have rA:=cy (a:=act) dH cA yI
 have rB:=cy (a:=act) dH cA hb'
 simp only[aL]at rA
 obtain⟨bk,cap,oo,Li,ex,hcap,abA,Zh⟩:=rA
 obtain⟨bk',adL,adt,hbG,hbc⟩:=hinv.box key cells J7
 rw[Li]at adL;cases adL
 obtain⟨⟨news,n1,n2,n3,n4⟩,n5⟩:=rq (P:=P) (w:=w) hinv.pQ hsrc td rB
 obtain⟨⟨news',Z8,n2',n3',n4'⟩,_⟩:=rq (P:=P) (w:=w.drew) (λb o v h=>by rw[World.cell?_drew];exact hinv.pQ b o v h) hsrc td rB
 have adM:=hbc
 rw[jz]at adM
 obtain⟨olds,m1,mv,m3⟩:=pF adM
 obtain⟨dt,_,zM,Hf⟩:=hX.run_underlying (w:=w) hi
 rw[hk]at zM;simp only[ff]at zM;subst zM
 obtain⟨d1,DG,II⟩:=AX hX hi1 acC w
 obtain⟨inf,XY,PI,if3,if4,_,if6⟩:=hX.ti e j hj
 obtain⟨z,z1,_,z3⟩:=if4 za hz
 have RJ:news.length=cq.length*j.size:=by rw[<- (bR.get n1).1,dK n2]
 have TA:news'.length=cq.length*j.size:=by rw[<- (bR.get Z8).1,dK n2']
 have Th:olds.length=n*j.size:=by rw[<- (bR.get m1).1,hfl]
 have m4:(Builtin.firstCells j.size n (.slice oo n cap)).run P w.drew = .ok olds.toArray w.drew:=by
  rcases Zh with h0|rfl
  ·have h00:n=0:=by omega
   have:olds.length=0:=by rw[Th,h00];simp
   rw[List.length_eq_zero_iff.1 this,h00]
   exact yM w.drew _ _ _
  ·refine run_firstCells_some w.drew j.size n _ n cap olds Th ?_
   intro q v hq;rw[Addr.add_lit,World.cell?_drew]
   exact mv q v hq
 have zN:args = #[xs,y]:=by cases args;simp_all
 have FC:ats = #[t,t1]:=by cases ats;simp_all
 have Wt:=aep hby
 have hsmall:rows.length+cq.length<=140737488355328:=aeS (agS _ Wt) hbound
 have Wx:d ∉ σ1.used:=λh=>cY hu ((h2 d (.inr cS)).2.2.1 h)
 have hdk:key≠d:=by
  rintro rfl
  exact Wx (hinv.used key (.inl (by rw[Li];simp)))
 have hone:(ak (rows++cq)).all AV.one=true:=by
  rw[ua,dS,afL,m3,n3'];rfl
 have Wu:∀(v:Value)(w':World),(Builtin.append_ #[t,t1] o.type #[.slice oo n cap,act.eval y]).run P w = .ok v w'->(execOp act.eval o).run P w = .ok (.value v) w':=by
  intro v w' hr
  obtain⟨dst,op,type,pos,after,guard⟩:=o
  simp only at ho hr;subst ho
  subst zN FC
  simp[execOp,resolve,invoke,builtin,ex,hr,Result.andThen]
 unfold Oper.wp
 by_cases hroom:n+cq.length<=cap
 ·have hmul:n*j.size+news.length<=cap*j.size:=by
   rw[RJ,<- afO];exact afE _ hroom
  obtain⟨w',r1,r2,r3,r4,r5⟩:=nM (P:=P) (w:=w) bk news (n*j.size) 0 w (nD n1 n3) (by
   intro q hq
   simp only[aeT]
   exact hinv.Z4 key cells bk J7 Li (n*j.size+q) bn)
  simp only[aeT]at r3 r5
  rw[Wu _ w' (l9 (w':=w') Hf DG II XY n5 ac4 hroom (by
   rcases Zh with h0|rfl
   ·have:news.length=0:=by rw[RJ,show cq.length=0 from by omega];simp
    rw[List.length_eq_zero_iff.1 this]at r1 ⊢
    cases oo
    ·simpa[storeCells,eq_comm]using r1
    ·simpa[storeCells]using r1
   ·simp only[Addr.add_lit,PI]
    rw[aeq];exact r1))]
  rw[Oper.upon_value]
  have gL:bR g.G (bC (rows++cq)) (olds++news):=by rw[dS];exact fK m1 n1
  have hcw:cB w' g bk 0 (ak (rows++cq)):=by
   apply cB.kV
   intro q c hq
   obtain⟨l1,l2⟩:=bJ.get (qh gL)
   obtain⟨u,e1,e2⟩:=l2 q c hq
   rw[afn]at hone
   simp only[aeq]
   refine⟨⟨u,?_,e2,hone c (aaB hq)⟩,?_⟩
   ·by_cases hql:q<olds.length
    ·rw[agJ hql]at e1
     rw[r3 bk q (by right;left;omega)]
     have:=mv q u e1
     rwa[aeq]at this
    ·rw[agE bn]at e1
     have:=r5 (q-olds.length) u e1
     rwa[show n*j.size+(q-olds.length)=q from by omega]at this
   ·rw[r4]
    have agh:q<(olds++news).length:=(List.getElem?_eq_some_iff.1 e1).1
    rw[aaz]at agh
    exact(hinv.room key cells bk J7 Li q).2
  obtain⟨i1,i2,i3⟩:=Zg hinv J7 Li Wx jQ r2 (λb' o' h=>r3 b' o' (.inl h)) r4 hcw (by
   intro q hq
   obtain⟨⟨u,q1⟩,_⟩:=hinv.Z4 key cells bk J7 Li q hq
   by_cases hin:n*j.size<=q/\q<n*j.size+news.length
   ·obtain⟨v,hv⟩:∃v,news[q-n*j.size]?=some v:=⟨_,aea bn⟩
    have:=r5 _ v hv
    rw[show n*j.size+(q-n*j.size)=q from by omega]at this
    exact⟨v,this⟩
   ·exact⟨u,by rw[r3 bk q (by right;omega)];exact q1⟩)
  refine hnext _ _ _ ?_ i1 i2 i3
  simp only[aL]
  refine⟨bk,cap,oo,cS,?_,?_,?_,Zh⟩
  ·simp[hn]
  ·simp only[aaz];omega
  ·simp only[if_pos];exact abA
 ·have hg:cap<n+cq.length:=by omega
  have hbd:(n+cq.length)*inf.bytes<=140737488355328:=by rw[if3,hn];exact hbound
  rw[Wu _ _ (oG Hf DG II XY z1 n5 (by rw[PI];exact n4') (by rw[PI];exact m4) hg bn hbd)]
  rw[Oper.upon_value]
  have hge:=grownCap_ge w (n+cq.length) cap e
  generalize grownCap w (n+cq.length) cap e=nc at hge ⊢
  have vI:(olds.toArray++news'.toArray++Builtin.zeroCells z.cells (nc-(n+cq.length))).size=nc*j.size:=by
   simp only[afp,aeZ,size_zeroCells,Th,TA,z3,<- afO]
   congr 1;omega
  obtain⟨e1,e2⟩:=RN hinv
  have gL:bR g.G (bC (rows++cq)) (olds++news'):=by rw[dS];exact fK m1 Z8
  have agi:(bC (rows++cq)).length=(olds++news').length:=(bR.get gL).1
  have hrc:bJ g (ak (rows++cq)) ((olds.toArray++news'.toArray++Builtin.zeroCells z.cells (nc-(n+cq.length))).toList.take (ak (rows++cq)).length):=by
   rw[aeA,agi]
   simp only[aeP]
   rw[List.take_left']
   ·exact qh gL
   ·simp
  obtain⟨i1,i2,i3,i4⟩:=J5 (t:=e) e1 Wx jQ hrc hone
  obtain⟨i5,i6⟩:=PO i1 key
  refine hnext _ _ _ ?_ i5 ((e2.trans i2).trans i6) i3
  simp only[aL]
  refine⟨w.heap.size,nc,some ⟨w.heap.size,0,none⟩,cS,?_,?_,?_,.inr Z⟩
  ·simp[hn]
  ·simp only[aaz];omega
  ·simp only[if_pos,vI];omega
end
end Go.cK
namespace Go.cK
section
variable {P : Program}{X : Ctx}
def bU.jV(hX:cF P X){o:Oper}{env:Env}{σ:St}{t:TypeId}{x ix:Operand}(ho:o.op = .indexAddr t x ix){i j:TI}{e:Nat}(hi:X.ti t=some i)(hk:i.kind = .slice e)(hj:X.ti e=some j)
  {key off s n:Nat}(ha:aK X env x=some (.gS key off s n))(hs:j.size=s){k:IntKind}{z:Int}(hz:aK X env ix=some (.c (.int k z))){m:Nat}(hm:z=m)(hlt:m<n) :
  bU P X o env σ (.ptr key (off+m*s)) (λσ=>σ) ⟨[],[]⟩:=by
 refine bU.val λdz w g act h1 iW cA dH=>?_
 have yI:aK X dz x=some (.gS key off s n):=by rw[h1 x mc];exact ha
 have GN:aK X dz ix=some (.c (.int k z)):=by rw[h1 ix mc];exact hz
 have r1:=cy (a:=act) dH cA yI
 simp only[aL]at r1
 obtain⟨b,cap,oo,Li,e1,hcap,_,Zh⟩:=r1
 have e4:=we (cy (a:=act) dH cA GN)
 obtain⟨d,jQ,iN,_⟩:=hX.run_underlying (w:=w) hi
 rw[hk]at iN;simp only[ff]at iN;subst iN
 have hoff:oo=some ⟨b,off,none⟩:=by rcases Zh with h|h;omega;exact h
 subst hoff
 refine⟨.pointer (some ⟨b,off+m*j.size,none⟩),?_,by simp only[aL];exact⟨b,Li,by rw[hs]⟩⟩
 obtain⟨dst,op,type,pos,after,guard⟩:=o
 simp only at ho;subst ho
 simp[execOp,e1,e4,hm,Instr.indexAt,asIntOf,jQ,hlt,hX.run_sizeOf hj,Addr.add_lit]
def bU.sliceB(hX:cF P X){o:Oper}{env:Env}{σ:St}{t:TypeId}{x:Operand}{lo hi':Option Operand}(ho:o.op = .slice t x lo hi' none){i j:TI}{e:Nat}(hi:X.ti t=some i)(hk:i.kind = .slice e)(hj:X.ti e=some j)
  {key off s n:Nat}(ha:aK X env x=some (.gS key off s n))(hs:j.size=s){l h:Option Nat}(hl:bound (aK X env) lo=some l)(hh:bound (aK X env) hi'=some h)(h1:h.getD n<=n)(h2:l.getD 0<=h.getD n) :
  bU P X o env σ (.gS key (off+l.getD 0*s) s (h.getD n-l.getD 0)) (λσ=>σ) ⟨[],[]⟩:=by
 refine bU.val λdz w g act hc iW cA dH=>?_
 have yI:aK X dz x=some (.gS key off s n):=by rw[hc x mc];exact ha
 have hl':bound (aK X dz) lo=some l:=by
  rw[lN lo (λy hy=>hc y (by rw[ho];subst hy;simp[Op.operands]))];exact hl
 have hh':bound (aK X dz) hi'=some h:=by
  rw[lN hi' (λy hy=>hc y (by rw[ho];subst hy;simp[Op.operands]))];exact hh
 have r1:=cy (a:=act) dH cA yI
 simp only[aL]at r1
 obtain⟨b,cap,oo,Li,e1,hcap,hrm,Zh⟩:=r1
 have b1:=pn (g:=g) (ev:=act.eval) (λx v hx=>cy dH cA hx) hl'
 have b2:=pn (g:=g) (ev:=act.eval) (λx v hx=>cy dH cA hx) hh'
 have hb:∀w,(Instr.sliceBounds true n cap (lo.map act.eval) (hi'.map act.eval) none).run P w = .ok (l.getD 0,h.getD n,cap) w:=by
  intro w
  cases l with
  |none =>
   cases h with
   |none=>exact lq true b2 b1
   |some h=>exact mX true b2 b1 (aeS h1 hcap)
  |some l =>
   cases h with
   |none=>exact lp true b2 b1 K0
   |some h=>exact nL true b2 b1 (aeS h1 hcap) K0
 refine⟨.slice (if cap=l.getD 0 then oo else oo.map (·.add (l.getD 0*j.size))) (h.getD n-l.getD 0) (cap-l.getD 0),?_,?_⟩
 ·obtain⟨dst,op,type,pos,after,guard⟩:=o
  simp only at ho;subst ho
  have:=ij (w:=w) hX hi hk hj (base:=oo) hb
  simp[execOp,e1,this]
 ·simp only[aL]
  generalize l.getD 0=Ll at *
  generalize h.getD n=H at *
  have hmul:off+Ll*s+(cap-Ll)*s=off+cap*s:=by
   rw[ahn,<- afO];congr 2;omega
  by_cases kZ:cap=Ll
  ·grind
  ·refine⟨b,cap-Ll,oo.map (·.add (Ll*j.size)),Li,by rw[if_neg kZ],bn,bn,.inr ?_⟩
   rcases Zh with h0|h0
   ·omega
   ·rw[h0,agC,Addr.add_lit,hs]
end
end Go.cK
namespace Go.cK
def IJ{G:j8}{s:Nat}:∀{rows:L CV}{Y:L Value},iY s rows=true->bR G rows Y->bR G (bC rows) (flat s Y)/\(bC rows).all CV.one=true
 |[],Y,_,h=>by simp only[bR]at h;subst h;simp[bC,flat,bR]
 |r::rows,Y,W,h=>by
  simp only[bR]at h;obtain⟨u,us,rfl,h1,h2⟩:=h;obtain⟨T,a2,D⟩:=sj (oS W r cS) h1;have V:iY s rows=true:=by
   simp only[iY]at W;split at W
   ·exact W
   ·simp at W
  obtain⟨K,U⟩:=IJ V h2;exact⟨by simp only[bC,flat];exact fK a2 K,by simp only[bC,afL,D,U];rfl⟩
section
variable {P : Program}{X : Ctx}{ops : Array Oper}{o : Oper}{rest : L Oper}{env : Env}{acc : L Fp}{Q : Env -> St -> L Fp -> Prop}{bs : L (Nat × L AV)}{ts : L (Nat × Nat)}{us : L Nat}{σ : St}
def af.jV(hX:cF P X)(kn:L Nat)(hg:dj ops.toList kn env o=some true){t:TypeId}{x ix:Operand}(ho:o.op = .indexAddr t x ix){d:Nat}(hd:o.dst=some d){i j:TI}{e:Nat}(hi:X.ti t=some i)(hk:i.kind = .slice e)(hj:X.ti e=some j)
  {key off s n:Nat}(ha:aK X env x=some (.gS key off s n))(hs:j.size=s){k0:IntKind}{z:Int}(hz:aK X env ix=some (.c (.int k0 z)))(m:Nat)(hm:z=m)(hlt:m<n)
  (k:af P X ops rest ((d,.ptr key (off+m*s))::env) σ (⟨[],[]⟩::acc) Q):af P X ops (o::rest) env σ acc Q :=
 af.step (dB hg) (bU.jV hX ho hi hk hj ha hs hz hm hlt) (iA.id _) Ai
def af.sliceB(hX:cF P X)(kn:L Nat)(G:dj ops.toList kn env o=some true){t:TypeId}{x:Operand}{Y H:Option Operand}(K:o.op = .slice t x Y H none){d:Nat}(O:o.dst=some d){i j:TI}{e:Nat}(I:X.ti t=some i)(D:i.kind = .slice e)(W:X.ti e=some j)
  {p off s n:Nat}(ha:aK X env x=some (.gS p off s n))(V:j.size=s){l h:Option Nat}(E:bound (aK X env) Y=some l)(U:bound (aK X env) H=some h)(h1:h.getD n<=n)(h2:l.getD 0<=h.getD n)
  (k:af P X ops rest ((d,.gS p (off+l.getD 0*s) s (h.getD n-l.getD 0))::env) σ (⟨[],[]⟩::acc) Q):af P X ops (o::rest) env σ acc Q :=
 af.step (dB G) (bU.sliceB hX K I D W ha V E U h1 h2) (iA.id _) ri
def af.dD(hX:cF P X)(kn:L Nat)(G:dj ops.toList kn env o=some true){t:TypeId}{x:Operand}(K:o.op = .load t x){d:Nat}(N:o.dst=some d){i:TI}(I:X.ti t=some i){p off:Nat}(O:aK X env x=some (.ptr p off))
  {cells r:L AV}(V:an p bs=some cells)(U:eu off cells=some r){v:AV}(M:lH i r=some v)
  (k:af P X ops rest ((d,v)::env) ⟨bs,ts,us⟩ (⟨[p],[]⟩::acc) Q):af P X ops (o::rest) env ⟨bs,ts,us⟩ acc Q:=by
 have Y:gy X bs (aK X env) o.op=some v:=by rw[K];simp only[gy,I,O,V,U,M]
 have:=af.step (Q:=Q) (rest:=rest) (acc:=acc) (dB G) (bU.pure (σ:=⟨bs,ts,us⟩) hX Y) (iA.id _);rw[N,K]at this;have W:mL (aK X env) (.load t x)=[p]:=by simp only[mL,O]
 rw[W]at this;exact this k
def af.uu(hX:cF P X)(kn:L Nat)(G:dj ops.toList kn env o=some true){args:Array Operand}{K:Array TypeId}(p:o.op = .call {callee := .builtin .append,args:=args,argTypes:=K})
  {xs y:Operand}(H:args.toList=[xs,y]){t M:Nat}(E:K.toList=[t,M]){d:Nat}(u:o.dst=some d)(D:Nat.blt d 1000000=true)
  {i j J:TI}{e:Nat}(C:X.ti t=some i)(B:i.kind = .slice e)(q:X.ti e=some j){za:AV}(hz:j.zero=some za)(S:X.ti M=some J)(pK:me J.kind=true)
  {s:Nat}{rows:L CV}(ha:aK X env xs=some (.own .exact s rows)){b:AV}(hb:aK X env y=some b){I:Nat}{cq:L CV}(A:nP b=some (I,cq))
  {sz:Nat}(T:j.size=sz)(hs:gI s sz rows=true)(td:gI I sz cq=true)(W:cq≠[])(hu:mem d us=false){V:Nat}(U:j.bytes=V)(O:Nat.ble 1 V=true)(Y:(rows.length+cq.length)*V<=140737488355328)
  {cs:L CV}(N:rows++cq=cs){m:Nat}(hm:cs.length=m)
  (k:af P X ops rest ((d,.gS d 0 sz m)::env) ⟨(d,ak cs)::bs,ts,d::us⟩ (⟨[],[d]⟩::acc) Q):af P X ops (o::rest) env ⟨bs,ts,us⟩ acc Q:=by
 subst T U N hm;exact af.step (dB G) (bU.uu (σ:=⟨bs,ts,us⟩) hX p H E (Nat.blt_eq.mp D) C B q hz S pK ha hb A hs td W hu O Y) (qU d _) acQ
def af.mR(hX:cF P X)(kn:L Nat)(E:dj ops.toList kn env o=some true){args:Array Operand}{K:Array TypeId}(C:o.op = .call {callee := .builtin .append,args:=args,argTypes:=K})
  {xs y:Operand}(H:args.toList=[xs,y]){t J:Nat}(D:K.toList=[t,J]){d:Nat}(u:o.dst=some d)(B:Nat.blt d 1000000=true)
  {i j I:TI}{e:Nat}(q:X.ti t=some i)(hk:i.kind = .slice e)(hj:X.ti e=some j){za:AV}(hz:j.zero=some za)(S:X.ti J=some I)(pK:me I.kind=true)
  {sz:Nat}(T:j.size=sz){p n:Nat}(ha:aK X env xs=some (.gS p 0 sz n)){cells:L AV}(BN:an p bs=some cells)(rows:L CV)(tail:L AV)(jz:cells=ak rows++tail)(hn:n=rows.length)(V:(bC rows).length=n*sz)
  {b:AV}(hb:aK X env y=some b){G:Nat}{cq:L CV}(A:nP b=some (G,cq))
  (td:gI G sz cq=true)(hu:mem d us=false)(W:Nat.beq d p=false){U:Nat}(O:j.bytes=U)(N:Nat.ble 1 U=true)(Y:(rows.length+cq.length)*U<=140737488355328)
  {cs:L CV}(M:rows++cq=cs){m:Nat}(hm:cs.length=m){bs':L (Nat×L AV)}(jG:DE p bs=bs')
  (k:af P X ops rest ((d,.gS d 0 sz m)::env) ⟨(d,ak cs)::bs',ts,d::us⟩ (⟨[],[d,p]⟩::acc) Q):af P X ops (o::rest) env ⟨bs,ts,us⟩ acc Q:=by
 subst T O M hm jG
 refine af.step (dB E) (bU.mR (σ:=⟨bs,ts,us⟩) hX C H D (Nat.blt_eq.mp B) q hk hj hz S pK ha BN jz hn V hb A td hu N Y) (Na d p _ (beq_false W)) (by
  rw[u];have:((⟨bs,ts,us⟩:St).eM d (ak (rows++cq))).fq p=⟨(d,ak (rows++cq))::DE p bs,ts,d::us⟩:=by
   simp only[St.fq,St.eM,DE,W]
  rw[this];exact k)
end
end Go.cK
namespace Go.cK
section
variable {P : Program}{X : Ctx}
def bU.jv(hX:cF P X){o:Oper}{env:Env}{σ:St}{t:TypeId}{G:Nat}{S:Array (Nat×Operand)}(C:o.op = .buildSlice t G S){d:Nat}(jQ:d<1000000)(hu:mem d σ.used=false)
  {i j:TI}{e:Nat}(hi:X.ti t=some i)(hk:i.kind = .slice e)(O:X.ti e=some j){za:AV}(hz:j.zero=some za){rows:L CV}(M:ju (aK X env) 0 S.toList=some rows)
  (hl:Nat.beq rows.length G=true)(hs:iY j.size rows=true)(hb:Nat.ble (G*j.size) 16777216=true) :
  bU P X o env σ (.gS d 0 j.size G) (λσ=>σ.eM d (ak rows)) ⟨[],[d]⟩:=by
 intro dz I w g J next Q h1 h2 N cA dH B;have BA:ju (aK X dz) 0 S.toList=some rows:=by
  rw[q8 _ _ (λp M=>h1 p.2 (by rw[C];simp only[Op.operands,ahD];exact⟨p,M,Z⟩))];exact M
 obtain⟨H,c2⟩:=wY (g:=g) (ev:=J.eval) (λx v D=>cy dH cA D) BA;have K:=beq_true hl;have hne:j.size≠0:=by obtain⟨_,_,_,_,_,_,hh⟩:=hX.ti e j O;exact hh
 obtain⟨dd,DG,A,_⟩:=hX.run_underlying (w:=w) hi;rw[hk]at A;simp only[ff]at A;subst A;obtain⟨z,z1,z2,z3⟩:=hX.mK (w:=w) O hz;have W:∀v∈(S.toList.map λp=>J.eval p.2),v.cells.size=j.size:=by
  intro v hv;obtain⟨m,hm⟩:=afS hv;obtain⟨l1,l2⟩:=bR.get H;have V:m<rows.length:=by rw[l1];exact(List.getElem?_eq_some_iff.1 hm).1
  obtain⟨u,e1,e2⟩:=l2 m rows[m] (by simp[V]);rw[hm]at e1;simp at e1;subst e1;obtain⟨a1,a2,_⟩:=sj (oS hs rows[m] (ags V)) e2;have:=(bR.get a2).1;simp at this;omega
 have E:(S.toList.map λp=>J.eval p.2).length=G:=by rw[<- (bR.get H).1];exact K
 obtain⟨Y,r1,r2,r3⟩:=B7 j.size (S.toList.map λp=>J.eval p.2) 0 ((Array.range (G*j.size)).map (z.cells[· % z.cells.size]!)) W (by simp at E ⊢;rw[E];exact aaj _);have U:(execOp J.eval o).run P w = .ok (.value (.slice (some ⟨w.heap.size,0,none⟩) G G)) {w with heap:=w.heap.push (.cells Y e)}:=by
  obtain⟨dst,op,type,pos,after,guard⟩:=o;simp only at C;subst C;have Bs:¬(2^24<G*j.size):=by have:=aep hb;omega
  have MZ:∀zc:Array Value,(Array.range (G*j.size)).map (λx=>zc[x%zc.size]!)=(Array.range (G*j.size)).map (λx=>z.cells[x%z.cells.size]!) ->
    Instr.fill (λi=>some (i*j.size,j.size)) ((Array.range (G*j.size)).map (λx=>zc[x%zc.size]!)) (S.map λx=>(x.1,J.eval x.2)).toList=some Y:=by
   intro zc q2;rw[q2,aeY];have c2':(S.toList.map λx=>(x.1,J.eval x.2))=_:=c2;rw[c2'];exact r1
  simp only[execOp,Instr.buildSlice,Sem.run_bind,DG,Result.andThen_ok,hX.run_sizeOf O];rw[if_neg (by simpa using Bs)];by_cases h0:G*j.size=0
  ·rw[if_pos h0];simp only[Sem.run_bind,Sem.run_pure,Result.andThen_ok];rw[MZ #[] (by rw[h0];simp)];simp[newRow]
  ·rw[if_neg h0];simp only[Sem.run_bind,Sem.run_pure,Result.andThen_ok,z1];rw[MZ z.cells rfl];simp[newRow]
 unfold Oper.wp;rw[U,Oper.upon_value];have Wx:d ∉ I.used:=λh=>cY hu ((h2 d (.inr cS)).2.2.1 h);obtain⟨f1,f2⟩:=IJ hs H;have hfl:(flat j.size (S.toList.map λp=>J.eval p.2)).length=G*j.size:=by
  have:∀l:L Value,(∀v∈l,v.cells.size=j.size)->(flat j.size l).length=l.length*j.size:=by
   intro l
   induction l with
   |nil=>intro _;simp[flat]
   |cons v l ih =>
    intro h;simp only[flat,aaz,ih (λx D=>h x adj),aac,agG];have:=h v cS;simp;omega
  rw[this _ W,E]
 have hsz:Y.size=G*j.size:=by rw[r2];simp
 have T:Y.toList=flat j.size (S.toList.map λp=>J.eval p.2):=by
  apply List.ext_getElem?;intro q;have:=r3 q;simp only[Nat.zero_mul,aeq,ahp,aeE,true_and]at this;rw[agZ,this];by_cases hq:q<(flat j.size (S.toList.map λp=>J.eval p.2)).length
  ·rw[if_pos hq]
  ·simp_all
 obtain⟨i1,i2,i3,i4⟩:=PC (us:=Y) (t:=e) (cells:=ak rows) N Wx jQ (by rw[T];exact qh f1) (by rw[ua];exact f2);refine B _ _ _ ?_ i1 i2 i3;simp only[aL];exact⟨w.heap.size,G,some ⟨w.heap.size,0,none⟩,cS,Z,aaj _,by simp only[if_pos,hsz];omega,.inr Z⟩
end
section
variable {P : Program}{X : Ctx}{ops : Array Oper}{o : Oper}{rest : L Oper}{env : Env}{acc : L Fp}{Q : Env -> St -> L Fp -> Prop}{bs : L (Nat × L AV)}{ts : L (Nat × Nat)}{us : L Nat}
def af.jv(hX:cF P X)(kn:L Nat)(hg:dj ops.toList kn env o=some true){t:TypeId}{len:Nat}{parts:Array (Nat×Operand)}(ho:o.op = .buildSlice t len parts){d:Nat}(hd:o.dst=some d)(jQ:Nat.blt d 1000000=true)(hu:mem d us=false)
  {i j:TI}{e:Nat}(hi:X.ti t=some i)(hk:i.kind = .slice e)(hj:X.ti e=some j){za:AV}(hz:j.zero=some za){rows:L CV}(hp:ju (aK X env) 0 parts.toList=some rows)
  (hl:Nat.beq rows.length len=true){s:Nat}(hsz:j.size=s)(hs:iY s rows=true)(hb:Nat.ble (len*s) 16777216=true)
  (k:af P X ops rest ((d,.gS d 0 s len)::env) ⟨(d,ak rows)::bs,ts,d::us⟩ (⟨[],[d]⟩::acc) Q):af P X ops (o::rest) env ⟨bs,ts,us⟩ acc Q:=by
 subst hsz
 exact af.step (dB hg) (bU.jv (σ:=⟨bs,ts,us⟩) hX ho (Nat.blt_eq.mp jQ) hu hi hk hj hz hp hl hs hb) (qU d _) Ai
end
end Go.cK
