/- A layer of abstract values over the model, part C: -/
import Derived.Test.YtdnpapgijbhofaaGreatDoorLibB
import Derived.Laws.AppendOwn
import Derived.Laws.IdiomStrings
set_option linter.defProp false
set_option linter.unusedSimpArgs false
set_option linter.unusedVariables false
namespace Go.cw
def bz:L CV->L CV
 |[]=>[]
 |r::rs=>r.cells++bz rs
def Ak{G:kE}{b:Nat}:∀{o:Nat}{a c:L CV},dJ G b o (a++c)↔dJ G b o a/\dJ G b (o+a.length) c
 |o,[],c=>by simp[dJ]
 |o,x::a,c=>by simp only[aeN,dJ,Ak (a:=a)];grind
def rE{G:kE}{s b:Nat}:∀{o:Nat}{rows:L CV},gF G s b o rows↔dJ G b o (bz rows)/\∀r∈rows,r.cells.length=s
 |o,[]=>by simp[gF,bz,dJ]
 |o,r::rs=>by simp only[gF,bz,Ak,BK,rE (rows:=rs)];grind
def dz{s:Nat}:∀{rows:L CV},(∀r∈rows,r.cells.length=s)->(bz rows).length=rows.length*s
 |[],_=>by simp[bz]
 |r::rs,h=>by simp only[bz,aaZ,aag,h r cc,dz (rows:=rs) (λx D=>h x K0),agX];omega
def dP:∀(a c:L CV),bz (a++c)=bz a++bz c
 |[],c=>by simp[bz]
 |r::a,c=>by simp[bz,dP a c]
def yj{G:kE}{b:Nat}:∀{o:Nat}{cs:L CV},dJ G b o cs->∃vs:L Value,b9 G cs vs/\(∀(j:Nat) u,vs[j]?=some u->G b (o+j)=some u)/\cs.all CV.one=true
 |o,[],_=>⟨[],by simp[b9],cc,Z⟩
 |o,c::cs,h=>by
  obtain⟨⟨u,h1,h2,K⟩,h4⟩:=h;obtain⟨vs,M,C,I⟩:=yj h4;refine⟨u::vs,by simp_all;exact⟨_,_,Z,h2,M⟩,?_,by simp[K,I]⟩;intro j x Y;cases j with
  |zero=>simp at Y;subst Y;simpa using h1
  |succ j=>simp at Y;have:=C j x Y;rwa[show o+(j+1)=o+1+j from by omega]
def oG{G:kE}{b:Nat}:∀{o:Nat}{cs:L CV}{vs:L Value},b9 G cs vs->(∀(j:Nat) u,vs[j]?=some u->G b (o+j)=some u)->cs.all CV.one=true->dJ G b o cs
 |o,[],_,_,_,_=>trivial
 |o,c::cs,vs,h,Y,T=>by obtain⟨u,us,rfl,h1,h2⟩:=h;simp only[afQ,aaN]at T;refine⟨⟨u,by simpa using Y 0 u cc,h1,T.1⟩,oG h2 (λj x W=>?_) T.2⟩;have:=Y (j+1) x (by simpa using W);grind
def og{G:kE}:∀{cs:L CV}{vs:L Value},b9 G cs vs->cs.all CV.one=true->∀u∈vs,u.oneCell'=true
 |[],vs,h,_,u,hu=>by simp only[b9]at h;subst h;simp at hu
 |c::cs,vs,h,ho,u,hu=>by
  obtain⟨x,us,rfl,h1,h2⟩:=h
  simp only[afQ,aaN]at ho
  rcases List.mem_cons.1 hu with rfl|hu
  ·exact yd (g:=⟨G,λ_=>none,λ_=>none,λ_=>0⟩) (a := .c c) ho.1 acm
  ·exact og h2 ho.2 u hu
def oH:AV->Option (Nat×L CV)
 |.own _ s rows=>some (s,rows)
 |.c (.sl s rows)=>some (s,rows)
 |.c (.str l)=>some (1,l.map λb => .int .u8 b.toNat)
 |_=>none
def gO(s t:Nat)(rows:L CV):Bool:=match Nat.beq s t with
 |true=>true
 |false=>match rows with
  |[]=>true
  |_=>false
def qc{s t:Nat}{rows:L CV}(h:gO s t rows=true):s=t\/rows=[]:=by unfold gO at h;split at h;simp_all;grind
def AS:∀(l:L UInt8),bz (l.map λb=>CV.int .u8 b.toNat)=l.map λb=>CV.int .u8 b.toNat
 |[]=>rfl
 |b::l=>by simp[bz,CV.cells,AS l]
section
variable {P : Program}{X : Ctx}{w : World}{g : Gh}
def GI(G:kE):∀(l:L UInt8),b9 G (l.map λb=>CV.int .u8 b.toNat) (l.map λb=>Value.int .u8 b.toNat)
 |[]=>by simp[b9]
 |b::l=>by simp;exact⟨_,_,Z,adH,GI G l⟩
def zp{w:World}(Y:∀b o v,g.G b o=some v->w.cell? ⟨b,o,none⟩=some v){s t:Nat}{base:Option Addr}{rows:L CV}(B:mh g.G s base rows)(C:gO s t rows=true)(u N:Nat)(I:u=rows.length) :
  ∃news:L Value,b9 g.G (bz rows) news/\(∀r∈rows,r.cells.length=t)/\(bz rows).all CV.one=true/\(Builtin.firstCells t u (.slice base u N)).run P w = .ok news.toArray w:=by
 rcases B with rfl|⟨b,o,rfl,B⟩
 ·refine⟨[],by simp[bz,b9],cc,Z,?_⟩;subst I;cases base with
  |none=>simp[Builtin.firstCells]
  |some a=>exact run_firstCells_some w t 0 a 0 N [] cc cc
 rcases qc C with rfl|rfl
 rw[rE]at B;obtain⟨vs,h1,h2,K⟩:=yj B.1;refine⟨vs,h1,B.2,K,?_⟩;refine run_firstCells_some w s u _ u N vs ?_ ?_;rw[<- (b9.get h1).1,dz B.2,I];intro j v W;rw[Addr.add_lit];exact Y _ _ _ (h2 j v W);refine⟨[],by simp[bz,b9],cc,Z,?_⟩;subst I;exact run_firstCells_some w t 0 _ 0 N [] cc cc
def sC{w:World}(U:∀b o v,g.G b o=some v->w.cell? ⟨b,o,none⟩=some v){a:AV}{s t:Nat}{rows:L CV}(T:oH a=some (s,rows))(C:gO s t rows=true){x:Value}(D:aP g a x) :
  (∃news:L Value,b9 g.G (bz rows) news/\(∀r∈rows,r.cells.length=t)/\(bz rows).all CV.one=true/\(Builtin.firstCells t rows.length x).run P w = .ok news.toArray w)/\(Builtin.lenOf x).run P w = .ok rows.length w:=by
 unfold oH at T;split at T<;>simp at T;obtain⟨rfl,rfl⟩:=T;obtain⟨base,u,N,rfl,h1,h2,K,Q⟩:=D;obtain⟨news,W,V,n3,M⟩:=zp (P:=P) U K C u N h1;exact⟨⟨news,W,V,n3,by rw[<- h1];exact M⟩,by simp[Builtin.lenOf,h1]⟩;obtain⟨rfl,rfl⟩:=T;obtain⟨base,u,N,rfl,h1,h2,K⟩:=D;obtain⟨news,W,V,n3,M⟩:=zp (P:=P) U K C u N h1;exact⟨⟨news,W,V,n3,by rw[<- h1];exact M⟩,by simp[Builtin.lenOf,h1]⟩;rename_i l;obtain⟨rfl,rfl⟩:=T;subst D;have Y:((l.map λb=>CV.int .u8 b.toNat).all CV.one)=true:=by simp[CV.one]
 have S:t=1\/l=[]:=by
  rcases qc C with h|h
  omega;simp_all
 refine⟨⟨l.map λb=>Value.int .u8 b.toNat,by rw[AS];exact GI _ l,?_,by rw[AS];exact Y,?_⟩,?_⟩
 ·intro r B;rcases S with rfl|rfl
  simp at B;obtain⟨b,_,rfl⟩:=B;rfl;grind
 ·simp only[Builtin.firstCells,aeU];have:(ByteArray.mk l.toArray).extract 0 l.length=⟨l.toArray⟩:=by rw[extract_mk];simp
  simp
 simp[Builtin.lenOf,ByteArray.size]
def BR(hX:cB P X){t:Nat}{i:TI}(U:X.ti t=some i)(A:(match i.kind with | .slice _ | .str=>true|_=>false)=true)(w:World) :
  ∃d,P.underlying t=some d/\(d = .string\/∃e,d = .slice e):=by
 obtain⟨d,h1,h2,K⟩:=hX.run_underlying (w:=w) U;refine⟨d,K,?_⟩;split at A;rename_i e O;rw[O]at h2;exact .inr ⟨e,h2⟩;rename_i O;rw[O]at h2;exact .inl h2;grind
def mL{t Q ty e:TypeId}{q:TypeDesc}(C:P.underlying t=some (.slice e))(h1:P.underlying Q=some q)(M:q = .string\/∃e,q = .slice e){i:TypeInfo}(U:P.info? e=some i)
  {base:Option Addr}{sLen sCap n:Nat}{x:Value}{news:L Value}(I:(Builtin.lenOf x).run P w = .ok n w)(hf:(Builtin.firstCells i.size n x).run P w = .ok news.toArray w)(Y:sLen+n<=sCap)
  {w':World}(u:match (motive:=Option Addr->Prop) base with|some a=>(storeCells (a.add (sLen*i.size)) news).run P w = .ok () w'|none=>w'=w) :
  (Builtin.append_ #[t,Q] ty #[.slice base sLen sCap,x]).run P w = .ok (.slice base (sLen+n) sCap) w':=by
 rcases M with rfl|⟨E,rfl⟩
 all_goals
  cases base with
  |none =>
   simp only at u;subst u;simp[Builtin.append_,run_underlying C,run_underlying h1,sizeOf,typeInfo,U,I,Y,hf]
  |some a =>
   simp only at u;simp[Builtin.append_,run_underlying C,run_underlying h1,sizeOf,typeInfo,U,I,Y,hf,u]
def pM{t Q ty e:TypeId}{q:TypeDesc}(C:P.underlying t=some (.slice e))(h1:P.underlying Q=some q)(I:q = .string\/∃e,q = .slice e){i:TypeInfo}(U:P.info? e=some i){z:Value}(V:i.zero=some z)
  {base:Option Addr}{sLen sCap n:Nat}{x:Value}{olds news:L Value}(M:(Builtin.lenOf x).run P w = .ok n w)(hf:(Builtin.firstCells i.size n x).run P w.drew = .ok news.toArray w.drew)
  (Y:(Builtin.firstCells i.size sLen (.slice base sLen sCap)).run P w.drew = .ok olds.toArray w.drew)(G:sCap<sLen+n)(T:sLen+n<=140737488355328)(S:(sLen+n)*i.bytes<=140737488355328) :
  (Builtin.append_ #[t,Q] ty #[.slice base sLen sCap,x]).run P w =
   .ok (.slice (some ⟨w.heap.size,0,none⟩) (sLen+n) (grownCap w (sLen+n) sCap e))
    (w.drew.alloc (.cells (olds.toArray++news.toArray++Builtin.zeroCells z.cells (grownCap w (sLen+n) sCap e-(sLen+n))) e)):=by
 have B:¬(sLen+n<=sCap):=by omega
 have W:¬(9223372036854775807<((sLen:Int)+(n:Int))):=by omega
 have O:¬(281474976710656<Builtin.nextslicecap (sLen+n) sCap*i.bytes):=by have:=growslice_fits G S;omega
 rcases I with rfl|⟨E,rfl⟩
 all_goals
  simp[Builtin.append_,run_underlying C,run_underlying h1,sizeOf,typeInfo,zeroValue,U,V,M,Question.forced,hf,Y,newRow,grownCap];grind
def adA{w:World}{g:Gh}{σ:St}(hinv:Inv w g σ)(us:Array Value)(t:TypeId)(k:Nat)(hk:k<=us.size)(key n:Nat)(hkey:key ∉ σ.used\/∃n0,aq key σ.toks=some n0/\n0<n)(w':World)(hw':w'={w with heap:=w.heap.push (.cells us t),drawn:=w'.drawn}) :
  let g':Gh:=⟨λb o=>if b=w.heap.size/\o<k then us[o]? else g.G b o,g.box,λj=>if j=key then some (n,some (w.heap.size,k,us.size))else g.tok j,g.room⟩
  let σ':St:=⟨σ.boxes,xd key n σ.toks,key::σ.used⟩
  Inv w' g' σ'/\iS w g σ w' g' σ'/\g.le g':=by
 intro g' σ'
 have XR:w'.heap=w.heap.push (.cells us t):=by rw[hw']
 have JL:∀b o,b<w.heap.size->w'.cell? ⟨b,o,none⟩=w.cell? ⟨b,o,none⟩/\w'.frozen? ⟨b,o,none⟩=w.frozen? ⟨b,o,none⟩:=by
  intro b o hb
  simp only[World.cell?,World.frozen?]
  grind
 have XS:∀o,w'.cell? ⟨w.heap.size,o,none⟩=us[o]?/\w'.frozen? ⟨w.heap.size,o,none⟩=false:=by
  simp only[World.cell?,World.frozen?,XR]
  simp
 have hsz:w'.heap.size=w.heap.size+1:=by rw[XR];simp
 have N9:∀b o v,g.G b o=some v->b<w.heap.size:=λb o v h=>World.block_lt_of_cell? w ⟨b,o,none⟩ (hinv.qK b o v h)
 have aaO:∀hw gQ,g.tok key=some (hw,gQ)->hw<n:=by
  intro hw gQ e
  rcases hkey with hkey|⟨n0,h1,h2⟩
  ·exact absurd (hinv.used key (.inr (by rw[e];simp))) hkey
  ·obtain⟨Gn,h3,_⟩:=hinv.tok key n0 h1
   rw[e]at h3;simp at h3;omega
 have hle:g.le g':=by
  refine⟨λb o v h=>?_,λ_ _ h=>h,λ_ _ _=>rfl,λj hw gQ h=>?_⟩
  ·have:=N9 b o v h
   simp only[g'];rw[if_neg ai];exact h
  ·simp only[g']
   split
   ·rename_i hj;subst hj
    have:=aaO hw gQ h
    exact⟨n,_,Z,ai,ai⟩
   ·exact⟨hw,gQ,h,aaV _,λ_=>rfl⟩
 have Lm:∀b o,b<w.heap.size->g'.G b o=g.G b o:=by
  intro b o hb;simp only[g'];rw[if_neg ai]
 have rZ:w'.os=w.os/\w'.tape=w.tape/\w'.output=w.output:=by rw[hw'];exact⟨Z,Z,Z⟩
 refine⟨⟨?_,?_,hinv.gr,?_,?_,?_,hinv.C4 λk cs b _ _ hb o=>JL b o hb⟩,⟨rZ.1,rZ.2.1,rZ.2.2,ai,λb hb _=>by rw[XR,aie,if_neg ai],λb o hb _=>JL b o hb,hle.1,?_,?_,?_,λ_ _ h=>⟨h,Z,Z⟩⟩,hle⟩
 ·intro b o v h
  simp only[g']at h
  split at h
  ·rename_i hb;obtain⟨rfl,_⟩:=hb;rw[(XS o).1];exact h
  ·rw[(JL b o (N9 b o v h)).1];exact hinv.qK b o v h
 ·intro k cs e
  obtain⟨b,h1,h2,h3,h4⟩:=hinv.box k cs e
  exact⟨b,h1,ai,λo=>by rw[Lm b o h2];exact h3 o,(cx.of_same (λo=>JL b o h2) h4).mono hle⟩
 ·intro j m e
  simp only[σ',fj]at e
  simp only[g']
  split at e
  ·rename_i hj;subst hj
   simp at e;subst e
   rw[if_pos rfl]
   refine⟨_,Z,λb lo hi hr=>?_⟩
   simp at hr;obtain⟨rfl,rfl,rfl⟩:=hr
   refine⟨ai,λo h1 h2=>⟨?_,⟨us[o],?_⟩,(XS o).2⟩,λk' cs e' he=>?_⟩
   ·rw[if_neg ai]
    cases hg:g.G w.heap.size o with
    |none=>rfl
    |some v=>have:=N9 _ _ _ hg;omega
   ·rw[(XS o).1];simp[h2]
   ·obtain⟨b',f1,f2,_⟩:=hinv.box k' cs e'
    rw[f1]at he;simp at he;omega
  ·rename_i hj
   rw[if_neg hj]
   obtain⟨gQ,h1,h2⟩:=hinv.tok j m e
   refine⟨gQ,h1,λb lo hi hr=>?_⟩
   obtain⟨h3,h4,h5⟩:=h2 b lo hi hr
   refine⟨ai,λo N8 QY=>?_,h5⟩
   obtain⟨h6,⟨u,h7⟩,h8⟩:=h4 o N8 QY
   exact⟨acn,⟨u,(JL b o h3).1.trans h7⟩,(JL b o h3).2.trans h8⟩
 ·intro j j' m m' b lo hi lo' hi' e e' e1 e2
  simp only[σ',fj]at e e'
  simp only[g']at e1 e2
  split at e
  ·rename_i hj;subst hj
   rw[if_pos rfl]at e1
   simp at e1;obtain⟨_,rfl,_,_⟩:=e1
   split at e'
   ·rename_i hj';exact hj'.symm
   ·rename_i hj'
    rw[if_neg hj']at e2
    obtain⟨gQ,h1,h2⟩:=hinv.tok j' m' e'
    rw[e2]at h1;simp at h1
    have:=(h2 _ _ _ h1.symm).1
    omega
  ·rename_i hj
   rw[if_neg hj]at e1
   split at e'
   ·rename_i hj';subst hj'
    rw[if_pos rfl]at e2
    simp at e2;obtain⟨_,rfl,_,_⟩:=e2
    obtain⟨gQ,h1,h2⟩:=hinv.tok j m e
    rw[e1]at h1;simp at h1
    have:=(h2 _ _ _ h1.symm).1
    omega
   ·rename_i hj'
    rw[if_neg hj']at e2
    exact hinv.iF j j' m m' b lo hi lo' hi' e e' e1 e2
 ·intro j e
  simp only[σ',afp]
  by_cases hj:j=key
  ·exact .inl hj
  ·right;apply hinv.used j;simpa[g',hj]using e
 ·intro b o v h
  simp only[g']at h
  split at h
  ·rename_i hb;right;left;omega
  ·exact .inl h
 ·exact λk cs b h1 h2 => .inr ⟨k,cs,h1,h2⟩
 ·intro j m b lo hi e1 e2
  simp only[σ',fj]at e1
  simp only[g']at e2
  split at e1
  ·rename_i hj;subst hj
   rw[if_pos rfl]at e2
   simp at e2;left;omega
  ·rename_i hj
   rw[if_neg hj]at e2
   exact .inr ⟨j,m,lo,hi,e1,e2,aaV _,aaV _⟩
def aaP{w:World}{g:Gh}{σ:St}(H:Inv w g σ)(Y n:Nat)(O:Option (Nat×Nat×Nat))(N:(Y ∉ σ.used/\O=none)\/∃n0,g.tok Y=some (n0,O)/\aq Y σ.toks=some n0/\n0<n) :
  let g':Gh:=⟨g.G,g.box,λj=>if j=Y then some (n,O)else g.tok j,g.room⟩;let P:St:=⟨σ.boxes,xd Y n σ.toks,Y::σ.used⟩
  Inv w g' P/\iS w g σ w g' P/\g.le g':=by
 intro g' P;have T:g.le g':=by
  refine⟨kE.le.refl _,λ_ _ h=>h,λ_ _ _=>rfl,λj hw r h=>?_⟩;simp only[g'];split
  ·rename_i W;subst W;rcases N with ⟨N,_⟩|⟨n0,h1,h2,K⟩
   exact absurd (H.used j (.inr (by rw[h];simp))) N;grind
  grind
 refine⟨⟨H.qK,?_,H.gr,?_,?_,?_,H.room⟩,⟨Z,Z,Z,aaV _,λ_ _ _=>rfl,λ_ _ _ _=>⟨Z,Z⟩,kE.le.refl _,λ_ _ _ h => .inl h,λk cs b h1 h2 => .inr ⟨k,cs,h1,h2⟩,?_,λ_ _ h=>⟨h,Z,Z⟩⟩,T⟩;intro k cs e;obtain⟨b,h1,h2,K,h4⟩:=H.box k cs e;exact⟨b,h1,h2,K,h4.mono T⟩
 ·intro j m e;simp only[P,fj]at e;simp only[g'];split at e
  ·rename_i W;subst W;simp at e;subst e;rw[if_pos rfl];refine⟨_,Z,λb J U A=>?_⟩;rcases N with ⟨_,rfl⟩|⟨n0,h1,h2,K⟩
   simp at A;obtain⟨Gn,D,M⟩:=H.tok j n0 h2;rw[h1]at D;simp at D;subst D;exact M b J U A
  rename_i W;rw[if_neg W];exact H.tok j m e
 ·intro j j' m m' b J U S Q e e' E q;have V:∀j m b J U,aq j P.toks=some m->g'.tok j=some (m,some (b,J,U))->∃u,aq j σ.toks=some u/\g.tok j=some (u,some (b,J,U)):=by intro j m b J U e E;simp only[P,fj]at e;simp only[g']at E;split at e;grind;simp_all
  obtain⟨u,D,M⟩:=V j m b J U e E;obtain⟨I,C,B⟩:=V j' m' b S Q e' q;exact H.iF j j' u I b J U S Q D C M B
 intro j e;simp only[P,afp];by_cases W:j=Y;exact .inl W;right;apply H.used j;simpa[g',W]using e;intro j m b J U E q;simp only[P,fj]at E;simp only[g']at q;split at E;grind;grind
def aaQ{w w':World}{g:Gh}{σ:St}(hinv:Inv w g σ){key n b lo hi:Nat}(hk:aq key σ.toks=some n)(hg:g.tok key=some (n,some (b,lo,hi)))(vs:L Value)(hfit:lo+vs.length<=hi)
  (r2:w'.heap.size=w.heap.size/\w'.os=w.os/\w'.tape=w.tape/\w'.output=w.output/\∀b',b'≠b->w'.heap[b']?=w.heap[b']?)
  (r3:∀b' o',b'≠b\/o'<lo\/lo+vs.length<=o'->w'.cell? ⟨b',o',none⟩=w.cell? ⟨b',o',none⟩)(r4:∀b' o',w'.frozen? ⟨b',o',none⟩=w.frozen? ⟨b',o',none⟩)
  (r5:∀j v,vs[j]?=some v->w'.cell? ⟨b,lo+j,none⟩=some v)(hne:vs≠[]) :
  let g':Gh:=⟨λb' o=>if b'=b/\lo<=o/\o<lo+vs.length then vs[o-lo]? else g.G b' o,g.box,λj=>if j=key then some (n+1,some (b,lo+vs.length,hi))else g.tok j,g.room⟩
  let σ':St:=⟨σ.boxes,xd key (n+1) σ.toks,key::σ.used⟩
  Inv w' g' σ'/\iS w g σ w' g' σ'/\g.le g':=by
 intro g' σ'
 obtain⟨ak9,t1,t2⟩:=hinv.tok key n hk
 rw[hg]at t1;simp at t1;subst t1
 obtain⟨t3,t4,t5⟩:=t2 b lo hi rfl
 have hlen:0<vs.length:=List.length_pos_iff.2 hne
 have afD:∀b' o v,g.G b' o=some v->¬(b'=b/\lo<=o/\o<lo+vs.length):=by
  rintro b' o v h ⟨rfl,h1,h2⟩
  rw[(t4 o h1 ai).1]at h;simp at h
 have hle:g.le g':=by
  refine⟨λb' o v h=>?_,λ_ _ h=>h,λ_ _ _=>rfl,λj hw r h=>?_⟩
  ·simp only[g'];rw[if_neg (afD b' o v h)];exact h
  ·simp only[g']
   split
   ·rename_i hj;subst hj
    rw[hg]at h;simp at h;exact⟨n+1,_,Z,ai,ai⟩
   ·exact⟨hw,r,h,aaV _,λ_=>rfl⟩
 have hcell:∀b' o,¬(b'=b/\lo<=o/\o<lo+vs.length)->w'.cell? ⟨b',o,none⟩=w.cell? ⟨b',o,none⟩:=by
  intro b' o h;exact r3 b' o ai
 refine⟨⟨?_,?_,hinv.gr,?_,?_,?_,hinv.C4 λk cs b' e h1 hb o=>⟨hcell b' o (by rintro⟨rfl,_⟩;exact t5 k cs e h1),r4 b' o⟩⟩,⟨r2.2.1,r2.2.2.1,r2.2.2.2.1,ai,λb' hb' hno=>r2.2.2.2.2 b' (by rintro rfl;exact hno lo (.inr ⟨key,n,lo,hi,hk,hg,ai,ai⟩)),λb' o hb' hno=>⟨hcell b' o ?_,r4 b' o⟩,hle.1,?_,λk cs b h1 h2 => .inr ⟨k,cs,h1,h2⟩,?_,λ_ _ h=>⟨h,rfl,rfl⟩⟩,hle⟩
 ·intro b' o v h
  simp only[g']at h
  split at h
  ·rename_i hb;obtain⟨rfl,h1,h2⟩:=hb
   have:=r5 (o-lo) v h
   rwa[show lo+(o-lo)=o from by omega]at this
  ·rename_i hb;rw[hcell b' o hb];exact hinv.qK b' o v h
 ·intro k cs e
  obtain⟨b',h1,h2,h3,h4⟩:=hinv.box k cs e
  have Da:b'≠b:=by rintro rfl;exact t5 k cs e h1
  exact⟨b',h1,ai,λo=>by simp only[g'];rw[if_neg ai];exact h3 o,(cx.of_same (λo=>⟨hcell b' o ai,r4 b' o⟩) h4).mono hle⟩
 ·intro j m e
  simp only[σ',fj]at e
  simp only[g']
  split at e
  ·rename_i hj;subst hj
   simp at e;subst e
   rw[if_pos rfl]
   refine⟨_,Z,λb' lo' hi' hr=>?_⟩
   simp at hr;obtain⟨rfl,rfl,rfl⟩:=hr
   refine⟨ai,λo h1 h2=>?_,t5⟩
   obtain⟨h6,⟨u,h7⟩,h8⟩:=t4 o ai h2
   exact⟨acn,⟨u,(hcell b o ai).trans h7⟩,(r4 b o).trans h8⟩
  ·rename_i hj
   rw[if_neg hj]
   obtain⟨gQ,h1,h2⟩:=hinv.tok j m e
   refine⟨gQ,h1,λb' lo' hi' hr=>?_⟩
   obtain⟨h3,h4,h5⟩:=h2 b' lo' hi' hr
   have Da:b'≠b:=by
    rintro rfl;subst hr
    exact hj (hinv.iF j key m n b' lo' hi' lo hi e hk h1 hg)
   refine⟨ai,λo N8 QY=>?_,h5⟩
   obtain⟨h6,⟨u,h7⟩,h8⟩:=h4 o N8 QY
   exact⟨acn,⟨u,(hcell b' o ai).trans h7⟩,(r4 b' o).trans h8⟩
 ·intro j j' m m' b1 lo1 hi1 lo2 hi2 e e' e1 e2
  have key':∀j m b1 lo1 hi1,aq j σ'.toks=some m->g'.tok j=some (m,some (b1,lo1,hi1))->∃m0 Ij sM,aq j σ.toks=some m0/\g.tok j=some (m0,some (b1,Ij,sM)):=by
   intro j m b1 lo1 hi1 e e1
   simp only[σ',fj]at e
   simp only[g']at e1
   split at e
   ·simp_all
   ·simp_all
  obtain⟨m0,l0,h0,f1,f2⟩:=key' j m b1 lo1 hi1 e e1
  obtain⟨m0',l0',h0',f1',f2'⟩:=key' j' m' b1 lo2 hi2 e' e2
  exact hinv.iF j j' m0 m0' b1 l0 h0 l0' h0' f1 f1' f2 f2'
 ·intro j e
  simp only[σ',afp]
  by_cases hj:j=key
  ·exact .inl hj
  ·right;apply hinv.used j;simpa[g',hj]using e
 ·rintro⟨rfl,h1,h2⟩;exact hno (.inr ⟨key,n,lo,hi,hk,hg,ai,ai⟩)
 ·intro b' o v h
  simp only[g']at h
  split at h
  ·rename_i hb;obtain⟨rfl,h1,h2⟩:=hb
   exact .inr (.inr (.inr ⟨key,n,lo,hi,hk,hg,ai,ai⟩))
  ·exact .inl h
 ·intro j m b' lo' hi' e1 e2
  simp only[σ',fj]at e1
  simp only[g']at e2
  split at e1
  ·rename_i hj;subst hj
   rw[if_pos rfl]at e2
   simp at e2;obtain⟨_,rfl,rfl,rfl⟩:=e2
   exact .inr ⟨j,n,lo,hi,hk,hg,ai,aaV _⟩
  ·rename_i hj
   rw[if_neg hj]at e2
   exact .inr ⟨j,m,lo',hi',e1,e2,aaV _,aaV _⟩
end
end Go.cw
namespace Go.cw
def yl(d:Nat)(us:L Nat)(ts:L (Nat×Nat)):Own->Option (Nat×Nat)
 |.exact=>match mem d us with
  |false=>some (d,0)
  |true=>none
 |.tok k m=>match aq k ts with
  |some I=>match Nat.beq I m with
   |true=>some (k,m+1)
   |false=>none
  |none=>none
def GJ(s t:Nat)(rows:L CV):Own->Bool
 |.exact=>gO s t rows
 |.tok _ _=>Nat.beq s t
def BS{s t:Nat}{rows:L CV}:∀{o:Own},GJ s t rows o=true->gO s t rows=true
 |.exact,h=>h
 |.tok _ _,h=>by simp only[GJ]at h;simp[gO,h]
def mM:TK->Bool
 |.slice _ | .str=>true
 |_=>false
def Q3(Y n:Nat):iJ (λσ=>(⟨σ.boxes,xd Y n σ.toks,Y::σ.used⟩:St)) ⟨[],[Y]⟩ where
 out:=λσ k A=>by
  have:k≠Y:=by simpa using A
  refine⟨Z,?_,?_⟩;simp only[fj,if_neg this];simp_all
 same:=λσ N h k A=>by
  have:k=Y:=by simpa using A
  subst this;refine⟨(h k (.inr cc)).1,?_,?_⟩;simp[fj];simp
section
variable {P : Program}{X : Ctx}
def JM{V:kE}{s b o:Nat}{rows bV:L CV}{olds news:L Value}(h1:b9 V (bz rows) olds)(h2:b9 V (bz bV) news)(W:∀r∈rows,r.cells.length=s)(K:∀r∈bV,r.cells.length=s)
  (I:(bz rows).all CV.one=true)(P:(bz bV).all CV.one=true)(Y:∀(j:Nat) u,(olds++news)[j]?=some u->V b (o+j)=some u):gF V s b o (rows++bV):=by
 rw[rE,dP];refine⟨oG (fO h1 h2) Y (by rw[agV,I,P];rfl),?_⟩;grind
set_option maxHeartbeats 1600000 in
def bN.append(hX:cB P X){o:Oper}{env:Env}{σ:St}{args:Array Operand}{ats:Array TypeId}(ho:o.op = .call {callee := .builtin .append,args:=args,argTypes:=ats})
  {xs y:Operand}(hargs:args.toList=[xs,y]){t t1:Nat}(Dh:ats.toList=[t,t1]){d:Nat}
  {i j i1:TI}{e:Nat}(hi:X.ti t=some i)(hk:i.kind = .slice e)(hj:X.ti e=some j){za:AV}(hz:j.zero=some za)(hi1:X.ti t1=some i1)(sW:mM i1.kind=true)
  {ow:Own}{s:Nat}{rows:L CV}(ha:aG X env xs=some (.own ow s rows)){b:AV}(hb:aG X env y=some b){s1:Nat}{bV:L CV}(hsrc:oH b=some (s1,bV))
  (hs:GJ s j.size rows ow=true)(uo:gO s1 j.size bV=true){key n:Nat}(hkey:yl d σ.used σ.toks ow=some (key,n))(hby:Nat.ble 1 j.bytes=true)(hbound:(rows.length+bV.length)*j.bytes<=140737488355328) :
  bN P X o env σ (.own (.tok key n) j.size (rows++bV)) (λσ=>⟨σ.boxes,xd key n σ.toks,key::σ.used⟩) ⟨[],[key]⟩:=by
 intro de σ1 w g act next Q h1 h2 hinv cu dr hnext
 have sD:∀x∈args.toList,x∈o.op.operands.toList:=by
  intro x hx
  rw[ho];simp only[Op.operands,Call.operands,afG,aeK];exact .inr hx
 have zY:aG X de xs=some (.own ow s rows):=by rw[h1 xs (sD xs adB)];exact ha
 have hb':aG X de y=some b:=by rw[h1 y (sD y adB)];exact hb
 have rA:=cr (a:=act) dr cu zY
 have rB:=cr (a:=act) dr cu hb'
 simp only[aP]at rA
 obtain⟨base,len,cap,ex,hlen,hcap,gE,hown⟩:=rA
 obtain⟨⟨news,n1,n2,n3,n4⟩,n5⟩:=sC (P:=P) (w:=w) hinv.qK hsrc uo rB
 obtain⟨⟨news',n1',n2',n3',n4'⟩,_⟩:=sC (P:=P) (w:=w.drew) (λb o v h=>by rw[World.cell?_drew];exact hinv.qK b o v h) hsrc uo rB
 obtain⟨olds,m1,m2,m3,m4⟩:=zp (P:=P) (w:=w.drew) (g:=g) (λb o v h=>by rw[World.cell?_drew];exact hinv.qK b o v h) gE (BS hs) len cap hlen
 obtain⟨dt,_,BT,ID⟩:=hX.run_underlying (w:=w) hi
 rw[hk]at BT;simp only[jA]at BT;subst BT
 obtain⟨d1,jM,EO⟩:=BR hX hi1 adD w
 obtain⟨inf,ZJ,Q4,if3,if4,_,if6⟩:=hX.ti e j hj
 obtain⟨z,z1,_,z3⟩:=if4 za hz
 have Td:news.length=bV.length*j.size:=by rw[<- (b9.get n1).1,dz n2]
 have UT:news'.length=bV.length*j.size:=by rw[<- (b9.get n1').1,dz n2']
 have UH:olds.length=rows.length*j.size:=by rw[<- (b9.get m1).1,dz m2]
 have AT:args = #[xs,y]:=by cases args;simp_all
 have GK:ats = #[t,t1]:=by cases ats;simp_all
 have XT:=aeP hby
 have hsmall:rows.length+bV.length<=140737488355328:=afC (ahX _ XT) hbound
 have XU:∀(v:Value)(w':World),(Builtin.append_ #[t,t1] o.type #[.slice base len cap,act.eval y]).run P w = .ok v w'->(execOp act.eval o).run P w = .ok (.value v) w':=by
  intro v w' hr
  obtain⟨dst,op,type,pos,after,guard⟩:=o
  simp only at ho hr;subst ho
  subst AT GK
  simp[execOp,resolve,invoke,builtin,ex,hr,Result.andThen]
 unfold Oper.wp
 by_cases hroom:len+bV.length<=cap
 ·by_cases h0:bV.length=0
  ·obtain rfl:bV=[]:=agZ h0
   have hn0:news=[]:=by simpa[bz,b9]using n1
   subst hn0
   rw[XU _ w (mL (w':=w) ID jM EO ZJ n5 aeh hroom (by cases base<;>simp[storeCells]))]
   rw[Oper.upon_value]
   have afI:∃gQ,((key ∉ σ1.used/\gQ=none)\/∃n0,g.tok key=some (n0,gQ)/\aq key σ1.toks=some n0/\n0<n) /\
     (cap=len\/∃b lo hi o,gQ=some (b,lo,hi)/\base=some ⟨b,o,none⟩/\lo=o+len*j.size/\hi=o+cap*j.size/\len<=cap):=by
    cases ow with
    |exact =>
     simp only[yl]at hkey
     split at hkey
     ·rename_i hu
      simp at hkey;obtain⟨rfl,rfl⟩:=hkey
      exact⟨none,.inl ⟨λh=>cT hu ((h2 d (.inr cc)).2.2.1 h),Z⟩,.inl hown⟩
     ·simp at hkey
    |tok k m =>
     simp only[yl]at hkey
     split at hkey
     ·rename_i m' hm'
      split at hkey
      ·rename_i FW
       simp at hkey;obtain⟨rfl,rfl⟩:=hkey
       have:=beq_true FW;subst this
       have Bm:aq k σ1.toks=some m':=by rw[(h2 k (.inr cc)).2.1];exact hm'
       obtain⟨hw,gQ,e1,e2,e3⟩:=hown
       obtain⟨Gn,e4,_⟩:=hinv.tok k m' Bm
       rw[e1]at e4;simp at e4;obtain⟨rfl,rfl⟩:=e4
       simp only[GJ]at hs
       have:=beq_true hs;subst this
       exact⟨gQ,.inr ⟨hw,e1,Bm,ai⟩,e3 Z⟩
      ·simp at hkey
     ·simp at hkey
   obtain⟨gQ,FF,Qp⟩:=afI
   obtain⟨i1,i2,i3⟩:=aaP hinv key n gQ FF
   refine hnext _ w _ ?_ i1 i2 i3
   simp only[aP,aeO,aay,agb]
   refine⟨base,len,cap,Z,hlen,hcap,?_,n,gQ,cc,aaV _,λ_=>Qp⟩
   rcases gE with rfl|⟨b0,o0,hb0,ZK⟩
   ·exact .inl Z
   ·rcases qc (BS hs)with rfl|rfl
    ·exact .inr ⟨b0,o0,hb0,ZK⟩
    ·exact .inl Z
  ·
   cases ow with
   |exact=>simp only[Ah]at hown;omega
   |tok k m =>
    simp only[yl]at hkey
    split at hkey
    ·rename_i m' hm'
     split at hkey
     ·rename_i FW
      simp at hkey;obtain⟨rfl,rfl⟩:=hkey
      have:=beq_true FW;subst this
      have Bm:aq k σ1.toks=some m':=by rw[(h2 k (.inr cc)).2.1];exact hm'
      obtain⟨hw,gQ,e1,e2,e3⟩:=hown
      obtain⟨Gn,e4,e5⟩:=hinv.tok k m' Bm
      rw[e1]at e4;simp at e4;obtain⟨rfl,rfl⟩:=e4
      simp only[GJ]at hs
      have:=beq_true hs;subst this
      rcases e3 rfl with hc|⟨b0,lo,hi',o0,rfl,rfl,rfl,rfl,_⟩
      ·omega
      obtain⟨f1,f2,f3⟩:=e5 _ _ _ rfl
      have hmul:len*j.size+news.length<=cap*j.size:=by
       rw[Td,<- agX];exact agT _ hroom
      obtain⟨w',r1,r2,r3,r4,r5⟩:=oF (P:=P) (w:=w) b0 news (o0+len*j.size) 0 w (og n1 n3) (by
       intro q hq
       simp only[agb]
       obtain⟨_,g2,g3⟩:=f2 (o0+len*j.size+q) ai ai
       exact⟨g2,g3⟩)
      simp only[agb]at r3 r5
      rw[XU _ w' (mL (w':=w') ID jM EO ZJ n5 aeh hroom (by simp only[Addr.add_lit,Q4];exact r1))]
      rw[Oper.upon_value]
      obtain⟨i1,i2,i3⟩:=aaQ hinv Bm e1 news ai r2 r3 r4 r5 (by
       intro hn;rw[hn]at Td
       have hz:bV.length*j.size=0:=Td.symm
       rcases Nat.mul_eq_zero.1 hz with hz|hz
       ·exact h0 hz
       ·exact if6 hz)
      refine hnext _ w' _ ?_ i1 i2 i3
      simp only[aP]
      refine⟨_,_,_,Z,by simp[hlen],ai,.inr ⟨b0,o0,Z,?_⟩,hw+1,some (b0,o0+len*j.size+news.length,o0+cap*j.size),cc,aaV _,λ_ => .inr ⟨b0,_,_,o0,Z,Z,?_,Z,ai⟩⟩
      ·refine JM (olds:=olds) (news:=news) (b9.mono i3.1 _ _ m1) (b9.mono i3.1 _ _ n1) m2 n2 m3 n3 λq u hq=>?_
       by_cases hql:q<olds.length
       ·rw[ahQ hql]at hq
        rcases gE with rfl|⟨b2,o2,Qp,UU⟩
        ·simp_all
        ·simp at Qp;obtain⟨rfl,rfl⟩:=Qp
         rw[rE]at UU
         obtain⟨vs,v1,v2,v3⟩:=yj UU.1
         have:vs=olds:=by
          have q1:(Builtin.firstCells j.size len (.slice (some ⟨b0,o0,none⟩) len cap)).run P w.drew = .ok vs.toArray w.drew:=by
           refine run_firstCells_some w.drew j.size len _ len cap vs ?_ ?_
           ·rw[<- (b9.get v1).1,dz UU.2,hlen]
           ·intro j v hj;rw[Addr.add_lit,World.cell?_drew];exact hinv.qK _ _ _ (v2 j v hj)
          rw[m4]at q1;simp at q1;exact q1.symm
         subst this
         exact i3.1 _ _ _ (v2 q u hq)
       ·grind
      ·grind
     ·simp at hkey
    ·simp at hkey
 ·have hg:cap<len+bV.length:=by omega
  have hbd:(len+bV.length)*inf.bytes<=140737488355328:=by rw[if3,hlen];exact hbound
  rw[XU _ _ (pM ID jM EO ZJ z1 n5 (by rw[Q4];exact n4') (by rw[Q4];exact m4) hg ai hbd)]
  rw[Oper.upon_value]
  have hge:=grownCap_ge w (len+bV.length) cap e
  generalize grownCap w (len+bV.length) cap e=nc at hge ⊢
  have wY:(olds.toArray++news'.toArray++Builtin.zeroCells z.cells (nc-(len+bV.length))).size=nc*j.size:=by
   simp only[agK,agf,size_zeroCells,UH,UT,z3,<- hlen,<- agX]
   congr 1;omega
  have aij:(len+bV.length)*j.size<=(olds.toArray++news'.toArray++Builtin.zeroCells z.cells (nc-(len+bV.length))).size:=by rw[wY];exact agT _ hge
  have hkk:key ∉ σ1.used\/∃n0,aq key σ1.toks=some n0/\n0<n:=by
   cases ow with
   |exact =>
    simp only[yl]at hkey
    split at hkey
    ·rename_i hu
     simp at hkey;obtain⟨rfl,rfl⟩:=hkey
     exact .inl λh=>cT hu ((h2 d (.inr cc)).2.2.1 h)
    ·simp at hkey
   |tok k m =>
    simp only[yl]at hkey
    split at hkey
    ·rename_i m' hm'
     split at hkey
     ·rename_i FW
      simp at hkey;obtain⟨rfl,rfl⟩:=hkey
      have:=beq_true FW;subst this
      exact .inr ⟨m',by rw[(h2 k (.inr cc)).2.1];exact hm',ai⟩
     ·simp at hkey
    ·simp at hkey
  obtain⟨i1,i2,i3⟩:=adA hinv (olds.toArray++news'.toArray++Builtin.zeroCells z.cells (nc-(len+bV.length))) e ((len+bV.length)*j.size) aij key n hkk
   (w.drew.alloc (.cells (olds.toArray++news'.toArray++Builtin.zeroCells z.cells (nc-(len+bV.length))) e)) Z
  refine hnext _ _ _ ?_ i1 i2 i3
  simp only[aP]
  refine⟨_,_,_,Z,by simp[hlen],hge,.inr ⟨w.heap.size,0,Z,?_⟩,n,_,if_pos Z,aaV _,λ_ => .inr ⟨_,_,_,0,Z,Z,by rw[aeS],by rw[wY,aeS],hge⟩⟩
  refine JM (olds:=olds) (news:=news') (b9.mono i3.1 _ _ m1) (b9.mono i3.1 _ _ n1') m2 n2' m3 n3' λq u hq=>?_
  have hql:q<(olds++news').length:=(List.getElem?_eq_some_iff.1 hq).1
  have alc:q<(len+bV.length)*j.size:=by simp only[aaZ,UH,UT,<- hlen,<- agX]at hql;exact hql
  simp only
  rw[if_pos ⟨trivial,ai⟩,aeS]
  rw[show olds.toArray++news'.toArray=(olds++news').toArray from by simp,afq (by simpa using hql)]
  simpa using hq
end
section
variable {P : Program}{X : Ctx}{ops : Array Oper}{o : Oper}{rest : L Oper}{env : Env}{acc : L Fp}{Q : Env -> St -> L Fp -> Prop}{bs : L (Nat × L AV)}{ts : L (Nat × Nat)}{us : L Nat}
def ah.append(hX:cB P X)(kn:L Nat)(E:cY ops.toList kn env o=some true){args:Array Operand}{H:Array TypeId}(C:o.op = .call {callee := .builtin .append,args:=args,argTypes:=H})
  {xs y:Operand}(V:args.toList=[xs,y]){t J:Nat}(B:H.toList=[t,J]){d:Nat}(A:o.dst=some d)
  {i j I:TI}{e:Nat}(q:X.ti t=some i)(hk:i.kind = .slice e)(hj:X.ti e=some j){za:AV}(hz:j.zero=some za)(T:X.ti J=some I)(sW:mM I.kind=true)
  {S:Own}{s:Nat}{rows:L CV}(ha:aG X env xs=some (.own S s rows)){b:AV}(hb:aG X env y=some b){G:Nat}{bV:L CV}(U:oH b=some (G,bV))
  {sz:Nat}(u:j.size=sz)(hs:GJ s sz rows S=true)(uo:gO G sz bV=true){Y n:Nat}(N:yl d us ts S=some (Y,n)){O:Nat}(M:j.bytes=O)(K:Nat.ble 1 O=true){ts':L (Nat×Nat)}(D:Ai Y n ts=some ts')
  (W:(rows.length+bV.length)*O<=140737488355328)
  (k:ah P X ops rest ((d,.own (.tok Y n) sz (rows++bV))::env) ⟨bs,ts',Y::us⟩ (⟨[],[Y]⟩::acc) Q):ah P X ops (o::rest) env ⟨bs,ts,us⟩ acc Q:=by
 subst u M;rw[uV]at D;simp at D;subst D;exact ah.step (dh E) (bN.append (σ:=⟨bs,ts,us⟩) hX C V B q hk hj hz T sW ha hb U hs uo N K W) (Q3 Y n) (by rw[A];exact k)
end
end Go.cw
namespace Go.cw
structure Ren where
 bx:Nat->Option Nat
 tk:Nat->Option (Nat×Option Nat)
def Gh.fY(g:Gh)(ρ:Ren):Gh where
 G:=g.G
 box:=λk=>match ρ.bx k with
  |some W=>g.box W
  |none=>none
 tok:=λk=>match ρ.tk k with
  |some (m,none)=>some (m,none)
  |some (m,some W)=>match g.tok W with
   |some (_,T)=>some (m,T)
   |none=>none
  |none=>none
 room:=λk=>match ρ.bx k with
  |some W=>g.room W
  |none=>0
mutual
def Conv(ρ:Ren)(ts:L (Nat×Nat)):AV->AV->Prop
 |.c v,b=>b = .c v\/close b=some v
 |.own .exact s rows,b=>b = .own .exact s rows
 |.own (.tok k m) s rows,b=>∃o,ρ.tk k=some (m,o)/\(o=none/\(∃q,b = .own .exact q rows/\(q=s\/rows=[]))\/∃W n,o=some W/\aq W ts=some n/\b = .own (.tok W n) s rows)
 |.ptr k off,b=>∃W,ρ.bx k=some W/\b = .ptr W off
 |.gY k off s n,b=>∃W,ρ.bx k=some W/\b = .gY W off s n
 |.any,b=>b.one=true
 |.agg l,b=>∃N,b = .agg N/\fq ρ ts l N
 |.eF l,b=>∃N,b = .eF N/\fq ρ ts l N
def fq(ρ:Ren)(ts:L (Nat×Nat)):L AV->L AV->Prop
 |[],N=>N=[]
 |a::l,N=>∃b r,N=b::r/\Conv ρ ts a b/\fq ρ ts l r
end
section
variable {g : Gh}{ρ : Ren}{ts : L (Nat × Nat)}
mutual
def tC(D:∀k n,aq k ts=some n->∃T,g.tok k=some (n,T)):∀{a b:AV}{u:Value},Conv ρ ts a b->aP g b u->aP (g.fY ρ) a u/\(b.one=true->a.one=true)
 |.c v,b,u,h,B=>by
  rcases h with rfl|h
  exact⟨B,λh=>h⟩;have:=uY b v u h B;exact⟨this.1,this.2⟩
 |.own .exact s rows,b,u,h,B=>by subst h;exact⟨B,λh=>h⟩
 |.own (.tok k m) s rows,b,u,h,B=>by
  obtain⟨o,h1,⟨rfl,q,rfl,hq⟩|⟨W,n,rfl,h2,rfl⟩⟩:=h
  ·simp only[aP]at B ⊢;obtain⟨base,Y,J,E,N,H,C,U⟩:=B;refine⟨⟨base,Y,J,E,N,H,?_,m,none,?_,aaV _,λ_ => .inl U⟩,λ_=>rfl⟩
   ·rcases hq with rfl|rfl
    exact C;exact .inl Z
   simp only[Gh.fY,h1]
  simp only[aP]at B ⊢;obtain⟨base,Y,J,E,N,H,C,I,T,U,G,O⟩:=B;obtain⟨A,Q⟩:=D W n h2;rw[U]at Q;obtain⟨rfl,rfl⟩:=Q;refine⟨⟨base,Y,J,E,N,H,C,m,T,?_,aaV _,λ_=>O Z⟩,λ_=>rfl⟩;simp only[Gh.fY,h1,U]
 |.ptr k off,b,u,h,B=>by simp only[Conv]at h;obtain⟨W,h1,rfl⟩:=h;simp only[aP]at B ⊢;obtain⟨b,E,N⟩:=B;exact⟨⟨b,by simp only[Gh.fY,h1,E],N⟩,λ_=>rfl⟩
 |.gY k off s n,b,u,h,B=>by simp only[Conv]at h;obtain⟨W,h1,rfl⟩:=h;simp only[aP]at B ⊢;obtain⟨b,J,o,E,N,H,C⟩:=B;exact⟨⟨b,J,o,by simp only[Gh.fY,h1,E],N,H,by simp only[Gh.fY,h1];exact C⟩,λ_=>rfl⟩
 |.any,b,u,h,B=>by simp only[Conv]at h;have:=yd h B;simp only[aP];refine⟨⟨λvs e=>?_,λvs e=>?_⟩,λ_=>rfl⟩<;>(subst e;simp[Value.oneCell']at this)
 |.agg l,b,u,h,B=>by simp only[Conv]at h;obtain⟨V,rfl,h1⟩:=h;simp only[aP]at B ⊢;obtain⟨vs,E,N,H⟩:=B;obtain⟨S,P⟩:=ym D h1 N;exact⟨⟨vs,E,S,P H⟩,λh=>by simp[AV.one]at h⟩
 |.eF l,b,u,h,B=>by simp only[Conv]at h;obtain⟨V,rfl,h1⟩:=h;simp only[aP]at B ⊢;obtain⟨vs,E,N,H⟩:=B;obtain⟨S,P⟩:=ym D h1 N;refine⟨⟨vs,E,S,?_⟩,λh=>by simp[AV.one]at h⟩;rw[(bW.get S).1,<- (bW.get N).1];exact H
def ym(D:∀k n,aq k ts=some n->∃T,g.tok k=some (n,T)):∀{l V:L AV}{us:L Value},fq ρ ts l V->bW g V us->bW (g.fY ρ) l us/\(V.all AV.one=true->l.all AV.one=true)
 |[],V,us,h,B=>by simp only[fq]at h;subst h;simp only[bW]at B ⊢;exact⟨B,λh=>h⟩
 |a::l,V,us,h,B=>by simp only[fq]at h;obtain⟨b,r,rfl,h1,h2⟩:=h;simp only[bW]at B ⊢;obtain⟨u,us',rfl,K,M⟩:=B;obtain⟨E,N⟩:=tC D h1 K;obtain⟨H,C⟩:=ym D h2 M;refine⟨⟨u,us',rfl,E,H⟩,λh=>?_⟩;simp only[afQ,aaN]at h ⊢;exact⟨N h.1,C h.2⟩
end
def D4{w:World}(D:∀k n,aq k ts=some n->∃T,g.tok k=some (n,T)){b:Nat}:∀{l N:L AV}{o:Nat},fq ρ ts l N->cx w g b o N->cx w (g.fY ρ) b o l
 |[],_,_,_,_=>trivial
 |a::l,N,o,h,hc=>by obtain⟨x,r,rfl,h1,h2⟩:=h;obtain⟨⟨u,Y,K,W⟩,c4,c5⟩:=hc;obtain⟨E,q⟩:=tC D h1 K;exact⟨⟨u,Y,E,q W⟩,c4,D4 D h2 c5⟩
end
def qu{w:World}{g:Gh}{σ:St}(h:Inv w g σ):∀k n,aq k σ.toks=some n->∃T,g.tok k=some (n,T):=λk n e=>by obtain⟨T,E,_⟩:=h.tok k n e;exact⟨T,E⟩
def Inv.fY{w:World}{g:Gh}{σ:St}(h:Inv w g σ)(ρ:Ren)(σ':St)
  (hb:∀k cells,aq k σ'.boxes=some cells->∃old oc,ρ.bx k=some old/\aq old σ.boxes=some oc/\fq ρ σ.toks cells oc)
  (hbi:∀k k' old,ρ.bx k=some old->ρ.bx k'=some old->k=k')
  (ht:∀k n,aq k σ'.toks=some n->∃o,ρ.tk k=some (n,o)/\∀old,o=some old->∃n',aq old σ.toks=some n')
  (hti:∀k k' m m' old,ρ.tk k=some (m,some old)->ρ.tk k'=some (m',some old)->k=k')
  (hu:∀k,ρ.bx k≠none\/ρ.tk k≠none->k∈σ'.used) :
  Inv w (g.fY ρ) σ'/\((∀k,1000000<=k->aq k σ'.boxes≠none->ρ.bx k=some k)->iS w g σ w (g.fY ρ) σ'):=by
 have hts:=qu h
 have adC:∀k n b lo hi,aq k σ'.toks=some n->(g.fY ρ).tok k=some (n,some (b,lo,hi))->∃old n' m,ρ.tk k=some (m,some old)/\aq old σ.toks=some n'/\g.tok old=some (n',some (b,lo,hi)):=by
  intro k n b lo hi e e1
  obtain⟨o,h1,h2⟩:=ht k n e
  cases o with
  |none=>simp[Gh.fY,h1]at e1
  |some old =>
   obtain⟨n',h3⟩:=h2 old rfl
   obtain⟨gQ,h4⟩:=hts old n' h3
   simp[Gh.fY]at e1
   grind
 refine⟨⟨h.qK,?_,?_,?_,?_,?_,?_⟩,λaik=>⟨Z,Z,Z,aaV _,λ_ _ _=>rfl,λ_ _ _ _=>⟨Z,Z⟩,kE.le.refl _,λ_ _ _ h => .inl h,?_,?_,?_⟩⟩
 ·intro k cells e
  obtain⟨old,oc,h1,h2,h3⟩:=hb k cells e
  obtain⟨b,h4,h5,h6,h7⟩:=h.box old oc h2
  exact⟨b,by simp only[Gh.fY,h1,h4],h5,h6,D4 hts h3 h7⟩
 ·intro k k' cs cs' b e e' e1 e2
  obtain⟨old,oc,h1,h2,_⟩:=hb k cs e
  obtain⟨old',oc',z9,D2,_⟩:=hb k' cs' e'
  simp only[Gh.fY,h1,z9]at e1 e2
  have:=h.gr old old' oc oc' b h2 D2 e1 e2
  subst this
  exact hbi k k' old h1 z9
 ·intro k n e
  obtain⟨o,h1,h2⟩:=ht k n e
  cases o with
  |none=>exact⟨none,by simp only[Gh.fY,h1],λ_ _ _ h=>by simp at h⟩
  |some old =>
   obtain⟨n',h3⟩:=h2 old rfl
   obtain⟨gQ,h4,h5⟩:=h.tok old n' h3
   refine⟨gQ,by simp only[Gh.fY,h1,h4],λb lo hi hr=>?_⟩
   obtain⟨f1,f2,f3⟩:=h5 b lo hi hr
   refine⟨f1,f2,λk' cs e'=>?_⟩
   obtain⟨old',oc',g1,g2,_⟩:=hb k' cs e'
   simp only[Gh.fY,g1]
   exact f3 old' oc' g2
 ·intro k k' n n' b lo hi lo' hi' e e' e1 e2
  obtain⟨old,m1,q1,h1,h2,h3⟩:=adC k n b lo hi e e1
  obtain⟨old',m1',q1',z9,D2,WQ⟩:=adC k' n' b lo' hi' e' e2
  have:=h.iF old old' m1 m1' b lo hi lo' hi' h2 D2 h3 WQ
  subst this
  exact hti k k' _ _ old h1 z9
 ·intro k e
  apply hu k
  rcases e with e|e
  ·left;intro hn;apply e;simp[Gh.fY,hn]
  ·right;intro hn;apply e;simp[Gh.fY,hn]
 ·intro k cs b e e1 o
  obtain⟨old,oc,h1,h2,_⟩:=hb k cs e
  simp only[Gh.fY,h1]at e1 ⊢
  exact h.room old oc b h2 e1 o
 ·intro k cs b e e1
  obtain⟨old,oc,h1,h2,_⟩:=hb k cs e
  simp only[Gh.fY,h1]at e1
  exact .inr ⟨old,oc,h2,e1⟩
 ·intro k n b lo hi e e1
  obtain⟨old,n',m,h1,h2,h3⟩:=adC k n b lo hi e e1
  exact .inr ⟨old,n',lo,hi,h2,h3,aaV _,aaV _⟩
 ·intro k hk e
  have h1:=aik k hk e
  cases hc:aq k σ'.boxes with
  |none=>exact absurd hc e
  |some cells =>
   obtain⟨old,oc,h2,h3,_⟩:=hb k cells hc
   rw[h1]at h2;simp at h2;subst h2
   exact⟨by rw[h3];simp,by simp[Gh.fY,h1],by simp[Gh.fY,h1]⟩
def distinct:L Nat->Bool
 |[]=>true
 |x::l=>match mem x l with
  |true=>false
  |false=>distinct l
def dW{α:Type}{k:Nat}{v:α}:∀{l:L (Nat×α)},aq k l=some v->(k,v)∈l
 |[],h=>by simp[aq]at h
 |(j,x)::l,h=>by rw[aj]at h;split at h;grind;exact afH _ (dW h)
def iw{α:Type}{k:Nat}{v:α}:∀{l:L (Nat×α)},distinct (l.map (·.1))=true->(k,v)∈l->aq k l=some v
 |[],_,h=>by simp at h
 |(j,x)::l,I,h=>by
  simp only[aeX,distinct]at I;split at I;grind;rename_i q;rw[aj];rcases List.mem_cons.1 h with h1|h1
  grind;have:k≠j:=by intro Y;exact cT q (List.mem_map.2 ⟨(k,v),h1,Y⟩)
  rw[if_neg this];exact iw I h1
def rF{α:Type}{k:Nat}:∀{l:L (Nat×α)},k ∉ l.map (·.1)->aq k l=none
 |[],_=>rfl
 |(j,x)::l,h=>by simp only[aeX,afp,not_or]at h;rw[aj,if_neg h.1];exact rF h.2
def pN{α:Type}{k:Nat}{l:L (Nat×α)}(h:aq k l≠none):k∈l.map (·.1):=by by_cases A:k∈l.map (·.1);omega;exact absurd (rF A) h
def oI{l:L (Nat×Nat)}(h:distinct (l.map (·.2))=true){k k' v:Nat}(h1:(k,v)∈l)(h2:(k',v)∈l):k=k':=by
 induction l with
 |nil=>simp at h1
 |cons x l W =>
  simp only[aeX,distinct]at h;split at h;grind;rename_i q;have Y:=cT q;grind
def qL{α:Type}:L (Nat×α)->L (Nat×α)->L (Nat×α)
 |[],b=>b
 |(k,v)::l,b=>qL l (xd k v b)
def vM{α:Type}:L (Nat×α)->L (Nat×α)->Option (L (Nat×α))
 |[],b=>some b
 |(k,v)::l,b=>match Ai k v b with
  |some O=>vM l O
  |none=>none
def GL{α:Type}:∀(l b:L (Nat×α)),vM l b=some (qL l b)
 |[],b=>rfl
 |(k,v)::l,b=>by simp only[vM,qL,uV,GL l]
def mo{α:Type}{k:Nat}:∀{l b:L (Nat×α)},distinct (l.map (·.1))=true->aq k (qL l b)=match aq k l with
  |some v=>some v
  |none=>aq k b
 |[],b,_=>rfl
 |(j,x)::l,b,I=>by simp only[aeX,distinct]at I;split at I;grind;rename_i q;simp only[qL];rw[mo I,aj];by_cases A:k=j;subst A;rw[if_pos rfl,rF (cT q)];simp[fj];rw[if_neg A,fj,if_neg A]
def Q5(nb:L (Nat×L AV))(Y:L (Nat×Nat))(W:L Nat)(U:distinct (nb.map (·.1))=true)(C:distinct (Y.map (·.1))=true) :
  iJ (λσ=>(⟨qL nb σ.boxes,qL Y σ.toks,W++σ.used⟩:St)) ⟨[],nb.map (·.1)++(Y.map (·.1)++W)⟩ where
 out:=λσ k A=>by simp only[aeK,not_or]at A;refine⟨?_,?_,?_⟩;simp only[mo U,rF A.1];simp only[mo C,rF A.2.1];simp_all
 same:=λσ N h k A=>by obtain⟨E,q,H⟩:=h k (.inr A);refine⟨?_,?_,?_⟩;simp only[mo U,E];simp only[mo C,q];grind
end Go.cw
namespace Go.cw
inductive LV where
 |c (v:CV)
 |own (s:Nat) (rows:List CV)
 deriving Inhabited
inductive PA where
 |v (x:LV)
 |box (cells:List LV)
 deriving Inhabited
def LV.av(k m:Nat):LV->AV
 |.c v => .c v
 |.own s rows => .own (.tok k m) s rows
def LV.tk(k m:Nat):LV->L (Nat×Nat)
 |.c _=>[]
 |.own _ _=>[(k,m)]
def E9(m:Nat):Nat->L LV->L AV
 |_,[]=>[]
 |k,x::l=>x.av k m::E9 m (k+1) l
def AB(m:Nat):Nat->L LV->L (Nat×Nat)
 |_,[]=>[]
 |k,x::l=>x.tk k m++AB m (k+1) l
abbrev pb(i:Nat):Nat:=1000000+1000*i
abbrev rk:Nat:=5000000
def CT:Nat->L PA->L AV
 |_,[]=>[]
 |i,.v x::l=>x.av (pb i) 0::CT (i+1) l
 |i,.box _::l => .ptr (pb i) 0::CT (i+1) l
def Lo:Nat->L PA->L (Nat×L AV)
 |_,[]=>[]
 |i,.v _::l=>Lo (i+1) l
 |i,.box cells::l=>(pb i,E9 0 (pb i+1) cells)::Lo (i+1) l
def GM:Nat->L PA->L (Nat×Nat)
 |_,[]=>[]
 |i,.v x::l=>x.tk (pb i) 0++GM (i+1) l
 |i,.box cells::l=>AB 0 (pb i+1) cells++GM (i+1) l
def uJ(K:L PA):St:=⟨Lo 0 K,GM 0 K,(Lo 0 K).map (·.1)++(GM 0 K).map (·.1)⟩
def sS:L (Nat×L LV)->L (Nat×L AV)
 |[]=>[]
 |(i,cells)::l=>(pb i,E9 1 (pb i+1) cells)::sS l
def qX:L (Nat×L LV)->L (Nat×Nat)
 |[]=>[]
 |(i,cells)::l=>AB 1 (pb i+1) cells++qX l
def BU(M:L (Nat×L LV))(rs:L LV):St:=⟨sS M,qX M++AB 0 rk rs,(sS M).map (·.1)++(qX M++AB 0 rk rs).map (·.1)⟩
def wR(s:Nat):L LV->AV
 |[] => .c .undef
 |[x]=>x.av (rk+s) 0
 |l => .eF (E9 0 (rk+s) l)
def adE(g:Gh)(rs:L LV)(u:Value):Prop:=aP g (wR 0 rs) u
def ER(β:kz)(rs:L LV)(M:L (Nat×L LV)):Ending->World->Prop:=λe w' =>
 ∃u g',e = .returned u/\adE g' rs u/\Inv w' g' (BU M rs)/\iS β.w β.g β.σ w' g' (BU M rs)
def bM(P:Program)(X:Ctx)(f:FuncId)(K:L PA)(rs:L LV)(M:L (Nat×L LV)):Prop :=
 Enters P f/\∀(g:Gh)(w:World)(vs:L Value),Inv w g (uJ K)->qJ X g.G->bW g (CT 0 K) vs ->
  Calls P f vs.toArray w (ER ⟨w,g,uJ K⟩ rs M)
def bM.of{P:Program}{X:Ctx}{f:FuncId}{C:Func}{c:Code}{K:L PA}{rs:L LV}{V:L (Nat×L LV)}(hf:P.funcs[f]?=some C)(q:C.body=some c)(T:Enters P f)
  (A:K.length<=C.ntmps)(env:Env)(Q:env=((CT 0 K).zipIdx.map λ(v,i)=>(i,v)))
  (h:∀β,AK P X f C.ntmps β (ER β rs V) [.code c] env (uJ K)):bM P X f K rs V:=by
 refine⟨T,λg w vs H I O cs=>?_⟩;have S:=(bW.get O).1;have Fa:(CT 0 K).length=K.length:=by
  have:∀(l:L PA)(i:Nat),(CT i l).length=l.length:=by
   intro l
   induction l with
   |nil=>intro i;rfl
   |cons p l U=>intro i;cases p<;>simp[CT,U]
  exact this K 0
 have J:Live X ⟨w,g,uJ K⟩ C.ntmps env (uJ K) g w {tmps:=vs.toArray++Array.replicate (C.ntmps-vs.toArray.size) undef,defers:=[]}:=by
  refine⟨H,I,?_,iS.refl _ _ _,?_,Z⟩
  ·intro t a e;subst Q;have W:∀(l:L AV)(us:L Value)(k:Nat),bW g l us->aq t ((l.zipIdx k).map λ(v,i)=>(i,v))=some a->k<=t/\∃u,us[t-k]?=some u/\aP g a u:=by
    intro l
    induction l with
    |nil=>intro us k _ e;simp[aq]at e
    |cons v l U =>
     intro us k B e;obtain⟨u,us,rfl,h1,h2⟩:=B;simp only[agR,aeX,aj]at e;grind
   obtain⟨_,u,Y,M⟩:=W (CT 0 K) vs 0 O e;simp at Y;have G:t<vs.length:=(List.getElem?_eq_some_iff.1 Y).1;have:(vs.toArray++Array.replicate (C.ntmps-vs.toArray.size) undef).getD t undef=u:=(by rw[agA,afq aep];simp[Y]);rw[this];exact M
  simp;omega
 obtain⟨e,w',N,h1,Y,M,E⟩:=h ⟨w,g,uJ K⟩ g w _ cs J;have D:Frame.enter P f vs.toArray .normal =
   (top f).at {tmps:=vs.toArray++Array.replicate (C.ntmps-vs.toArray.size) undef,defers:=[]} [.code c]:=by
  simp[Frame.enter,Frame.at,hf,q,top]
 exact⟨_,w',N,h1,by rw[D];exact Y,M,E⟩
def bM.ofL{P:Program}{X:Ctx}{f:FuncId}{C:Func}{c:Code}{K:L PA}{rs:L LV}{M:L (Nat×L LV)}(hf:P.funcs[f]?=some C)(U:C.body=some c)(O:Enters P f)
  (B:K.length<=C.ntmps)(env:Env)(bs:L (Nat×L AV))(ts:L (Nat×Nat))(us:L Nat)(Y:env=((CT 0 K).zipIdx.map λ(v,i)=>(i,v)))(u:uJ K=⟨bs,ts,us⟩)
  (h:∀β,AK P X f C.ntmps β (ER β rs M) [.code c] env ⟨bs,ts,us⟩):bM P X f K rs M :=
 bM.of hf U O B env Y λβ=>by rw[u];exact h β
def Oe(ts:L (Nat×Nat))(t:Nat):AV->Option (L CV)
 |.own .exact s rows=>match gO s t rows with
  |true=>some rows
  |false=>none
 |.own (.tok k n) s rows=>match aq k ts with
  |some m=>match Nat.beq m n with
   |true=>match Nat.beq s t with
    |true=>some rows
    |false=>none
   |false=>none
  |none=>none
 |_=>none
def IE(ts:L (Nat×Nat)):LV->AV->Prop
 |.c v,a=>close a=some v
 |.own s rows,a=>Oe ts s a=some rows
def pz(ts:L (Nat×Nat)):L LV->L AV->Prop
 |[],l=>l=[]
 |x::xs,l=>∃a r,l=a::r/\IE ts x a/\pz ts xs r
def Di(m k:Nat):LV->AV->L (Nat×(Nat×Option Nat))
 |.own _ _,.own .exact _ _=>[(k,(m,none))]
 |.own _ _,.own (.tok k' _) _ _=>[(k,(m,some k'))]
 |_,_=>[]
def pE(m:Nat):Nat->L LV->L AV->L (Nat×(Nat×Option Nat))
 |_,[],_=>[]
 |_,_::_,[]=>[]
 |k,x::xs,a::l=>Di m k x a++pE m (k+1) xs l
def tD{ts:L (Nat×Nat)}{a:AV}{s:Nat}{rows:L CV}(h:Oe ts s a=some rows):(∃q,a = .own .exact q rows/\(q=s\/rows=[]))\/∃k n,a = .own (.tok k n) s rows/\aq k ts=some n:=by unfold Oe at h;split at h;split at h;rename_i C;simp at h;subst h;exact .inl ⟨_,rfl,qc C⟩;grind;split at h;rename_i m D;split at h;rename_i U;split at h;rename_i C;simp at h;have:=beq_true U;have:=beq_true C;grind;grind;grind;grind;grind
def Tf{ρ:Ren}{ts:L (Nat×Nat)}{m k:Nat}:∀{x:LV}{a:AV},IE ts x a->(∀e∈Di m k x a,ρ.tk e.1=some e.2)->Conv ρ ts (x.av k m) a
 |.c v,a,h,_=>by simp only[IE]at h;exact .inr h
 |.own s rows,a,h,C=>by
  rcases tD h with ⟨q,rfl,hq⟩|⟨k',n,rfl,B⟩
  exact⟨none,C (k,(m,none)) (by simp[Di]),.inl ⟨Z,q,Z,hq⟩⟩;exact⟨some k',C (k,(m,some k')) (by simp[Di]),.inr ⟨k',n,Z,B,Z⟩⟩
def BV{ρ:Ren}{ts:L (Nat×Nat)}{m:Nat}:∀{k:Nat}{xs:L LV}{l:L AV},pz ts xs l->(∀e∈pE m k xs l,ρ.tk e.1=some e.2)->fq ρ ts (E9 m k xs) l
 |k,[],l,h,_=>by simp only[pz]at h;subst h;simp[E9,fq]
 |k,x::xs,l,h,C=>by obtain⟨a,r,rfl,h1,h2⟩:=h;simp only[pE,aeK]at C;exact⟨a,r,rfl,Tf h1 (λe O=>C e (.inl O)),BV h2 (λe O=>C e (.inr O))⟩
def Of{ts:L (Nat×Nat)}{m k j n:Nat}:∀{x:LV}{a:AV},IE ts x a->(j,n)∈x.tk k m->n=m/\∃o,(j,(m,o))∈Di m k x a/\∀W,o=some W->∃Y,aq W ts=some Y
 |.c v,a,h,D=>by simp[LV.tk]at D
 |.own s rows,a,h,D=>by
  simp[LV.tk]at D;obtain⟨rfl,rfl⟩:=D;rcases tD h with ⟨q,rfl,hq⟩|⟨k',Y,rfl,B⟩
  exact⟨Z,none,by simp[Di],λ_ h=>by simp at h⟩;exact⟨rfl,some k',by simp[Di],λW h=>by simp at h;subst h;exact⟨Y,B⟩⟩
def zx{ts:L (Nat×Nat)}{m j n:Nat}:∀{k:Nat}{xs:L LV}{l:L AV},pz ts xs l->(j,n)∈AB m k xs->n=m/\∃o,(j,(m,o))∈pE m k xs l/\∀W,o=some W->∃Y,aq W ts=some Y
 |k,[],l,h,q=>by simp[AB]at q
 |k,x::xs,l,h,q=>by
  obtain⟨a,r,rfl,h1,h2⟩:=h;simp only[AB,aeK]at q;simp only[pE,aeK];rcases q with q|q
  obtain⟨E,o,N,H⟩:=Of h1 q;exact⟨E,o,.inl N,H⟩;obtain⟨E,o,N,H⟩:=zx h2 q;exact⟨E,o,.inr N,H⟩
def Og{ts:L (Nat×Nat)}{m k:Nat}:∀{x:LV}{a:AV},IE ts x a->∀e∈Di m k x a,e.1∈(x.tk k m).map (·.1)
 |.c v,a,h,e,O=>by cases a<;>simp[Di]at O
 |.own s rows,a,h,e,O=>by rcases tD h with ⟨q,rfl,hq⟩|⟨k',Y,rfl,B⟩<;>simp[Di]at O<;>subst O<;>simp[LV.tk]
def zy{ts:L (Nat×Nat)}{m:Nat}:∀{k:Nat}{xs:L LV}{l:L AV},pz ts xs l->∀e∈pE m k xs l,e.1∈(AB m k xs).map (·.1)
 |k,[],l,h,e,he=>by simp only[pz]at h;simp[pE]at he
 |k,x::xs,l,h,e,he=>by obtain⟨a,r,rfl,h1,h2⟩:=h;simp only[pE,aeK]at he;simp only[AB,afa,aeK];exact he.imp (Og h1 e) (zy h2 e)
def ql(bs:L (Nat×L AV))(ts:L (Nat×Nat)):L PA->L AV->Prop
 |[],l=>l=[]
 |.v x::ps,l=>∃a r,l=a::r/\IE ts x a/\ql bs ts ps r
 |.box cells::ps,l=>∃K u r,l = .ptr K 0::r/\aq K bs=some u/\pz ts cells u/\ql bs ts ps r
def lF(bs:L (Nat×L AV)):Nat->L PA->L AV->L (Nat×Nat)
 |_,[],_=>[]
 |_,_::_,[]=>[]
 |i,.v _::ps,_::l=>lF bs (i+1) ps l
 |i,.box _::ps,.ptr kb _::l=>(pb i,kb)::lF bs (i+1) ps l
 |i,.box _::ps,_::l=>lF bs (i+1) ps l
def kD(bs:L (Nat×L AV)):Nat->L PA->L AV->L (Nat×(Nat×Option Nat))
 |_,[],_=>[]
 |_,_::_,[]=>[]
 |i,.v x::ps,a::l=>Di 0 (pb i) x a++kD bs (i+1) ps l
 |i,.box cells::ps,.ptr kb _::l=>(match aq kb bs with
  |some u=>pE 0 (pb i+1) cells u
  |none=>[])++kD bs (i+1) ps l
 |i,.box _::ps,_::l=>kD bs (i+1) ps l
section
variable {bs : L (Nat × L AV)}{ts : L (Nat × Nat)}
def AU{ρ:Ren}:∀{i:Nat}{K:L PA}{l:L AV},ql bs ts K l->(∀e∈lF bs i K l,ρ.bx e.1=some e.2)->(∀e∈kD bs i K l,ρ.tk e.1=some e.2)->fq ρ ts (CT i K) l
 |i,[],l,h,_,_=>by simp only[ql]at h;subst h;simp[CT,fq]
 |i,.v x::K,l,h,h1,h2=>by obtain⟨a,r,rfl,I,Y⟩:=h;simp only[kD,aeK]at h2;exact⟨a,r,rfl,Tf I (λe O=>h2 e (.inl O)),AU Y (by simpa only[lF]using h1) (λe O=>h2 e (.inr O))⟩
 |i,.box cells::K,l,h,h1,h2=>by obtain⟨W,u,r,rfl,I,Y,M⟩:=h;simp only[kD,aeK]at h2;simp only[lF,afp]at h1;exact⟨_,r,rfl,by simp only[Conv];exact⟨W,h1 (pb i,W) (.inl rfl),rfl⟩,AU M (λe O=>h1 e (.inr O)) (λe O=>h2 e (.inr O))⟩
def ve:∀{i:Nat}{K:L PA}{l:L AV}{k:Nat}{cells:L AV},ql bs ts K l->(k,cells)∈Lo i K ->
  ∃W u Y,(k,W)∈lF bs i K l/\aq W bs=some u/\cells=E9 0 (k+1) Y/\pz ts Y u/\∀e∈pE 0 (k+1) Y u,e∈kD bs i K l
 |i,[],l,k,cells,h,q=>by simp[Lo]at q
 |i,.v x::K,l,k,cells,h,q=>by obtain⟨a,r,rfl,I,V⟩:=h;obtain⟨W,u,Y,E,N,H,C,J⟩:=ve V q;simp only[lF,kD];grind
 |i,.box cs::K,l,k,cells,h,q=>by
  obtain⟨W,u,r,rfl,I,V,M⟩:=h;simp only[Lo,afp]at q;simp only[lF,kD];rcases q with q|q
  grind;obtain⟨U,T,Y,E,N,H,C,J⟩:=ve M q;grind
def zz:∀{i:Nat}{K:L PA}{l:L AV}{j n:Nat},ql bs ts K l->(j,n)∈GM i K->n=0/\∃o,(j,(0,o))∈kD bs i K l/\∀W,o=some W->∃V,aq W ts=some V
 |i,[],l,j,n,h,q=>by simp[GM]at q
 |i,.v x::K,l,j,n,h,q=>by
  obtain⟨a,r,rfl,I,Y⟩:=h;simp only[GM,aeK]at q;simp only[kD,aeK];rcases q with q|q
  obtain⟨E,o,N,H⟩:=Of I q;exact⟨E,o,.inl N,H⟩;obtain⟨E,o,N,H⟩:=zz Y q;exact⟨E,o,.inr N,H⟩
 |i,.box cs::K,l,j,n,h,q=>by
  obtain⟨U,u,r,rfl,I,Y,M⟩:=h;simp only[GM,aeK]at q;simp only[kD,I,aeK];rcases q with q|q
  obtain⟨E,o,N,H⟩:=zx Y q;exact⟨E,o,.inl N,H⟩;obtain⟨E,o,N,H⟩:=zz M q;exact⟨E,o,.inr N,H⟩
def AW:∀{i:Nat}{K:L PA}{l:L AV},ql bs ts K l->(∀e∈lF bs i K l,e.1∈(Lo i K).map (·.1))/\(∀e∈kD bs i K l,e.1∈(GM i K).map (·.1))
 |i,[],l,h=>by simp only[ql]at h;simp[lF,kD]
 |i,.v x::K,l,h=>by obtain⟨a,r,rfl,I,Y⟩:=h;obtain⟨Q,S⟩:=AW (i:=i+1) Y;simp only[kD,GM,aeK,afa];exact⟨Q,λe O=>O.imp (Og I e) (S e)⟩
 |i,.box cs::K,l,h=>by obtain⟨W,u,r,rfl,I,Y,M⟩:=h;obtain⟨Q,S⟩:=AW (i:=i+1) M;simp only[lF,kD,Lo,GM,I,aeK,afa];refine⟨λe O=>?_,λe O=>O.imp (zy Y e) (S e)⟩;grind
def di:L (Nat×(Nat×Option Nat))->L Nat
 |[]=>[]
 |(_,(_,some k))::l=>k::di l
 |(_,(_,none))::l=>di l
def vW{l:L (Nat×(Nat×Option Nat))}{W:Nat}:W∈di l↔∃k m,(k,(m,some W))∈l:=by
 induction l with
 |nil=>simp[di]
 |cons x l Y =>
  obtain⟨k,m,o⟩:=x;cases o with
  |none=>simp[di,Y]
  |some k' =>
   simp only[di,afp,Y];constructor;rintro(rfl|⟨a,b,h⟩);grind;grind;grind
def vX{l:L (Nat×(Nat×Option Nat))}(h:distinct (di l)=true){k k' m I W:Nat}(h1:(k,(m,some W))∈l)(h2:(k',(I,some W))∈l):k=k':=by
 induction l with
 |nil=>simp at h1
 |cons x l V =>
  obtain⟨q,p,o⟩:=x;cases o with
  |none =>
   simp at h1 h2;exact V h h1 h2
  |some z =>
   simp only[di,distinct]at h;split at h;grind;rename_i D;have Y:=cT D;rcases List.mem_cons.1 h1 with E|E
   ·rcases List.mem_cons.1 h2 with N|N
    grind;simp at E;rw[E.2.2]at N;exact absurd (vW.2 ⟨_,_,N⟩) Y
   rcases List.mem_cons.1 h2 with N|N
   simp at N;rw[N.2.2]at E;exact absurd (vW.2 ⟨_,_,E⟩) Y;simp_all
def Al(bs:L (Nat×L AV))(K:L PA)(l:L AV):Ren:=⟨λk=>aq k (lF bs 0 K l),λk=>aq k (kD bs 0 K l)⟩
end
structure vf(bs:List (Nat×List AV))(ts:List (Nat×Nat))(ps:List PA)(l:List AV):Prop where
 ok:ql bs ts ps l
 d1:distinct ((lF bs 0 ps l).map (·.1))=true
 d2:distinct ((lF bs 0 ps l).map (·.2))=true
 d3:distinct ((kD bs 0 ps l).map (·.1))=true
 d4:distinct (di (kD bs 0 ps l))=true
def vf.inv{σ:St}{K:L PA}{l:L AV}(h:vf σ.boxes σ.toks K l){w:World}{g:Gh}(U:Inv w g σ):Inv w (g.fY (Al σ.boxes K l)) (uJ K):=by
 refine(U.fY (Al σ.boxes K l) (uJ K) ?_ ?_ ?_ ?_ ?_).1;intro k cells e;obtain⟨Y,u,V,E,N,H,C,q⟩:=ve h.ok (dW e);refine⟨Y,u,iw h.d1 E,N,?_⟩;subst H;exact BV C λe O=>iw h.d3 (q e O);intro k k' W E N;exact oI h.d2 (dW E) (dW N);intro k n e;obtain⟨rfl,o,E,N⟩:=zz h.ok (dW e);exact⟨o,iw h.d3 E,N⟩;intro k k' m I W E N;exact vX h.d4 (dW E) (dW N);intro k e;obtain⟨Q,S⟩:=AW (i:=0) h.ok;simp only[uJ,aeK];rcases e with e|e
 left;obtain⟨x,D,rfl⟩:=List.mem_map.1 (pN e);exact Q x D;right;obtain⟨x,D,rfl⟩:=List.mem_map.1 (pN e);exact S x D
def vf.rel{σ:St}{K:L PA}{l:L AV}(h:vf σ.boxes σ.toks K l){w:World}{g:Gh}(U:Inv w g σ){vs:L Value}(N:bW g l vs):bW (g.fY (Al σ.boxes K l)) (CT 0 K) vs :=
 (ym (qu U) (AU (ρ:=Al σ.boxes K l) h.ok (λe O=>iw h.d1 O) (λe O=>iw h.d3 O)) N).1
end Go.cw
namespace Go.cw
def rT(s:Nat):L (Nat×Nat)->L (Nat×Nat)
 |[]=>[]
 |(k,n)::l=>(k+s,n)::rT s l
def rU(ts:L (Nat×Nat)):L Nat->L (Nat×Nat)
 |[]=>[]
 |k::l=>match aq k ts with
  |some n=>(k,n+1)::rU ts l
  |none=>rU ts l
def Q6(m:Nat):Nat->L LV->Option (L AV)
 |_,[]=>some []
 |k,.c v::l=>match Q6 m (k+1) l with
  |some r=>some (.c v::r)
  |none=>none
 |k,.own s rows::l=>match Q6 m (k+1) l with
  |some r=>some (.own (.tok k m) s rows::r)
  |none=>none
def Fb(m:Nat):∀(k:Nat)(l:L LV),Q6 m k l=some (E9 m k l)
 |_,[]=>rfl
 |k,.c v::l=>by simp only[Q6,Fb m (k+1) l,E9,LV.av]
 |k,.own s rows::l=>by simp only[Q6,Fb m (k+1) l,E9,LV.av]
def KX(bx:L (Nat×Nat))(s:Nat):L (Nat×L LV)->Option (L (Nat×L AV))
 |[]=>some []
 |(i,cells)::l=>match aq (pb i) bx with
  |some K=>match Q6 1 (pb i+1+s) cells with
   |some c=>match KX bx s l with
    |some r=>some ((K,c)::r)
    |none=>none
   |none=>none
  |none=>none
def gT{α:Type}:L (Nat×α)->L Nat
 |[]=>[]
 |(k,_)::l=>k::gT l
def mN{α:Type}:∀(l:L (Nat×α)),gT l=l.map (·.1)
 |[]=>rfl
 |(k,_)::l=>by simp[gT,mN l]
def GN(l:L Nat):L Nat->Bool
 |[]=>true
 |x::r=>match mem x l with
  |true=>GN l r
  |false=>false
def Lp(l:L Nat):L Nat->Bool
 |[]=>true
 |x::r=>match mem x l with
  |true=>false
  |false=>Lp l r
def vg{l:L Nat}:∀{r:L Nat},GN l r=true->∀x∈r,x∈l
 |[],_,x,h=>by simp at h
 |y::r,h,x,D=>by
  simp only[GN]at h;split at h
  ·rename_i q;rcases List.mem_cons.1 D with rfl|D
   exact mem_iff.1 q;exact vg h x D
  grind
def GO{l:L Nat}:∀{r:L Nat},Lp l r=true->∀x∈r,x ∉ l
 |[],_,x,h=>by simp at h
 |y::r,h,x,D=>by
  simp only[Lp]at h;split at h;grind;rename_i q;rcases List.mem_cons.1 D with rfl|D
  exact cT q;exact GO h x D
def GP{s:Nat}:∀{l:L (Nat×Nat)}{k n:Nat},aq k (rT s l)=some n->∃j,k=j+s/\aq j l=some n
 |[],k,n,h=>by simp[rT,aq]at h
 |(j,m)::l,k,n,h=>by simp only[rT,aj]at h;split at h;rename_i A;exact⟨j,A,by rw[aj,if_pos rfl];exact h⟩;rename_i A;obtain⟨i,rfl,h2⟩:=GP h;exact⟨i,rfl,by rw[aj,if_neg ai];exact h2⟩
def D5{s:Nat}:∀{l:L (Nat×Nat)}{j:Nat},aq (j+s) (rT s l)=aq j l
 |[],j=>rfl
 |(i,m)::l,j=>by simp only[rT,aj];by_cases h:j=i;grind;rw[if_neg ai,if_neg h,D5]
def D6{α:Type}{k:Nat}:∀{a b:L (Nat×α)},aq k (a++b)=match aq k a with
  |some v=>some v
  |none=>aq k b
 |[],b=>rfl
 |(j,x)::a,b=>by simp only[aeN,aj];split;rfl;exact D6
def AX{ts:L (Nat×Nat)}:∀{l:L Nat}{k n:Nat},aq k (rU ts l)=some n->k∈l/\∃m,aq k ts=some m/\n=m+1
 |[],k,n,h=>by simp[rU,aq]at h
 |j::l,k,n,h=>by
  simp only[rU]at h
  split at h
  ·rename_i m hm
   rw[aj]at h
   split at h
   ·grind
   ·obtain⟨h1,h2⟩:=AX h;exact⟨ab3,h2⟩
  ·obtain⟨h1,h2⟩:=AX h;exact⟨ab3,h2⟩
def Dj{ts:L (Nat×Nat)}:∀{l:L Nat}{k m:Nat},k∈l->aq k ts=some m->aq k (rU ts l)=some (m+1)
 |[],k,m,h,_=>by simp at h
 |j::l,k,m,h,hm=>by
  simp only[rU];by_cases A:k=j;subst A;rw[hm];simp[aj];have B:k∈l:=by simpa[A]using h
  split;rw[aj,if_neg A];exact Dj B hm;exact Dj B hm
def Oh{bx:L (Nat×Nat)}{s:Nat}:∀{M:L (Nat×L LV)}{nb:L (Nat×L AV)},KX bx s M=some nb ->
  (∀k v,(k,v)∈nb->∃i cells,(i,cells)∈M/\aq (pb i) bx=some k/\v=E9 1 (pb i+1+s) cells)/\(∀i cells k,(i,cells)∈M->aq (pb i) bx=some k->k∈nb.map (·.1))
 |[],nb,h=>by simp[KX]at h;subst h;simp
 |(i,cells)::M,nb,h=>by simp only[KX,Fb]at h;split at h;rename_i K Y;split at h;rename_i r B;obtain⟨h1,h2⟩:=Oh B;grind;grind;grind
def BW:∀{os:L (Nat×L LV)}{k:Nat}{v:L AV},(k,v)∈sS os->∃i cells,(i,cells)∈os/\k=pb i/\v=E9 1 (pb i+1) cells
 |[],k,v,h=>by simp[sS]at h
 |(i,cells)::os,k,v,h=>by
  simp only[sS,afp]at h
  rcases h with h|h
  ·grind
  ·obtain⟨i',c',h1,h2,h3⟩:=BW h;exact⟨i',c',ab3,h2,h3⟩
def Oi:∀{M:L (Nat×L LV)}{i:Nat}{cells:L LV},(i,cells)∈M->(pb i,E9 1 (pb i+1) cells)∈sS M
 |[],i,cells,h=>by simp at h
 |(j,c)::M,i,cells,h=>by
  simp only[sS,afp];rcases List.mem_cons.1 h with h|h
  grind;exact .inr (Oi h)
def Oj:∀{M:L (Nat×L LV)}{i:Nat}{cells:L LV}{e:Nat×Nat},(i,cells)∈M->e∈AB 1 (pb i+1) cells->e∈qX M
 |[],i,cells,e,h,_=>by simp at h
 |(j,c)::M,i,cells,e,h,he=>by
  simp only[qX,aeK];rcases List.mem_cons.1 h with h|h
  grind;exact .inr (Oj h he)
section
variable {g g' : Gh}{s : Nat}
def LV.shift(W:g.G.le g'.G){m k:Nat}:∀{x:LV}{u:Value},(∀e∈x.tk k m,g'.tok (e.1+s)=g.tok e.1)->aP g (x.av k m) u->aP g' (x.av (k+s) m) u/\((x.av k m).one=true->(x.av (k+s) m).one=true)
 |.c v,u,_,h=>by exact⟨Rel.mono W _ _ h,λh=>h⟩
 |.own q rows,u,C,h=>by obtain⟨base,Y,N,E,J,H,B,M,T,U,V⟩:=h;refine⟨⟨base,Y,N,E,J,H,B.mono W,M,T,?_,V⟩,λ_=>rfl⟩;have:=C (k,m) (by simp[LV.tk]);grind
def JN(Y:g.G.le g'.G){m:Nat}:∀{k:Nat}{xs:L LV}{us:L Value},(∀e∈AB m k xs,g'.tok (e.1+s)=g.tok e.1)->bW g (E9 m k xs) us->bW g' (E9 m (k+s) xs) us
 |k,[],us,_,h=>by simp only[E9]at h ⊢;exact h
 |k,x::xs,us,C,h=>by simp only[AB,aeK]at C;obtain⟨u,us',E,N,H⟩:=h;refine⟨u,us',E,(LV.shift Y (λe O=>C e (.inl O)) N).1,?_⟩;have:=JN Y (k:=k+1) (λe O=>C e (.inr O)) H;grind
def D7(Y:g.G.le g'.G){w:World}{m b:Nat}:∀{k:Nat}{xs:L LV}{o:Nat},(∀e∈AB m k xs,g'.tok (e.1+s)=g.tok e.1)->cx w g b o (E9 m k xs)->cx w g' b o (E9 m (k+s) xs)
 |k,[],o,_,h=>trivial
 |k,x::xs,o,ht,h=>by simp only[AB,aeK]at ht;obtain⟨⟨u,W,K,T⟩,c4,c5⟩:=h;obtain⟨E,N⟩:=LV.shift (k:=k) Y (λe O=>ht e (.inl O)) K;have:=D7 Y (k:=k+1) (λe O=>ht e (.inr O)) c5;rw[show k+1+s=k+s+1 from by omega]at this;exact⟨⟨u,W,E,N T⟩,c4,this⟩
def GQ(m:Nat):∀(k:Nat)(xs:L LV),(E9 m k xs).length=xs.length
 |_,[]=>rfl
 |k,x::xs=>by simp[E9,GQ m (k+1) xs]
end
def rG(nb:L (Nat×L AV))(Y:L (Nat×Nat))(W:L Nat)(σ:St):St:=⟨qL nb σ.boxes,qL Y σ.toks,W++σ.used⟩
set_option maxHeartbeats 1000000 in
def UW{w w':World}{g g':Gh}{σ:St}{ps:L PA}{l:L AV}{os:L (Nat×L LV)}{rs:L LV}(hi:Inv w g σ)(H:vf σ.boxes σ.toks ps l)
  (hi':Inv w' g' (BU os rs))(hk:iS w (g.fY (Al σ.boxes ps l)) (uJ ps) w' g' (BU os rs))(s:Nat){nb:L (Nat×L AV)}(hnb:KX (lF σ.boxes 0 ps l) s os=some nb)
  (hall:∀x∈(lF σ.boxes 0 ps l).map (·.1),x∈(sS os).map (·.1)){fr:L (Nat×Nat)}(hfr:fr=rT s (qX os++AB 0 rk rs)){bu:L (Nat×Nat)}(W2:bu=rU σ.toks (di (kD σ.boxes 0 ps l)))
  (Qe:distinct ((sS os).map (·.1))=true)(jM:distinct (nb.map (·.1))=true)(jz:distinct ((fr++bu).map (·.1))=true)(hfu:∀x∈fr.map (·.1),x ∉ σ.used)(hot:distinct ((qX os++AB 0 rk rs).map (·.1))=true) :
  ∃AO,Inv w' AO (rG nb (fr++bu) (fr.map (·.1)) σ)/\iS w g σ w' AO (rG nb (fr++bu) (fr.map (·.1)) σ)/\g.le AO/\∀u,aP g' (wR 0 rs) u->aP AO (wR s rs) u:=by
 have hts:=qu hi;let gc:=g.fY (Al σ.boxes ps l)
 let AO:Gh:=⟨g'.G,g.box,λk=>match aq k fr with
  |some _=>g'.tok (k-s)
  |none=>match aq k bu with
   |some n=>some (n,none)
   |none=>g.tok k,g.room⟩
 have Q7:∀k cs b,aq k (uJ ps).boxes=some cs->gc.box k=some b->∃kb oc,(k,kb)∈lF σ.boxes 0 ps l/\aq kb σ.boxes=some oc/\g.box kb=some b:=by intro k cs b e e1;obtain⟨kb,oc,We,f1,f2,_⟩:=ve H.ok (dW e);refine⟨kb,oc,f1,f2,?_⟩;have:(Al σ.boxes ps l).bx k=some kb:=iw H.d1 f1;simpa only[gc,Gh.fY,this]using e1
 have XV:∀k n b lo hi,aq k (uJ ps).toks=some n->gc.tok k=some (n,some (b,lo,hi))->∃old n',old∈di (kD σ.boxes 0 ps l)/\aq old σ.toks=some n'/\g.tok old=some (n',some (b,lo,hi)):=by
  intro k n b lo hi e e1;obtain⟨rfl,o,f1,f2⟩:=zz H.ok (dW e);have h1:(Al σ.boxes ps l).tk k=some (0,o):=iw H.d3 f1;cases o with
  |none=>simp[gc,Gh.fY,h1]at e1
  |some old =>
   obtain⟨n',h3⟩:=f2 old rfl;obtain⟨gQ,h4⟩:=hts old n' h3;simp[gc,Gh.fY,h1,h4]at e1;subst e1;exact⟨old,n',vW.2 ⟨k,0,f1⟩,h3,h4⟩
 have Q8:∀b o,jH gc (uJ ps) b o->jH g σ b o:=by rintro b o (⟨k,cs,h1,h2⟩|⟨k,n,lo,hi',h1,h2,h3,h4⟩);obtain⟨kb,oc,_,f2,f3⟩:=Q7 k cs b h1 h2;exact .inl ⟨kb,oc,f2,f3⟩;obtain⟨old,n',_,f2,f3⟩:=XV k n b lo hi' h1 h2;exact .inr ⟨old,n',lo,hi',f2,f3,h3,h4⟩
 have hfree:∀k0 c0 b,aq k0 σ.boxes=some c0->g.box k0=some b->k0 ∉ (lF σ.boxes 0 ps l).map (·.2)->∀o,¬jH gc (uJ ps) b o:=by rintro k0 c0 b e1 e2 e3 o (⟨k,cs,h1,h2⟩|⟨k,n,lo,hi',h1,h2,h3,h4⟩);obtain⟨kb,oc,f1,f2,f3⟩:=Q7 k cs b h1 h2;have:=hi.gr k0 kb c0 oc b e1 f2 e2 f3;subst this;exact e3 (List.mem_map.2 ⟨_,f1,Z⟩);obtain⟨old,n',_,f2,f3⟩:=XV k n b lo hi' h1 h2;obtain⟨gQ,f4,f5⟩:=hi.tok old n' f2;rw[f3]at f4;simp at f4;exact(f5 b lo hi' f4.symm).2.2 k0 c0 e1 e2
 have adF:∀k0 n0 b Ij sM,aq k0 σ.toks=some n0->g.tok k0=some (n0,some (b,Ij,sM))->k0 ∉ di (kD σ.boxes 0 ps l)->∀o,¬jH gc (uJ ps) b o:=by rintro k0 n0 b Ij sM e1 e2 e3 o (⟨k,cs,h1,h2⟩|⟨k,n,lo,hi',h1,h2,h3,h4⟩);obtain⟨kb,oc,f1,f2,f3⟩:=Q7 k cs b h1 h2;obtain⟨gQ,f4,f5⟩:=hi.tok k0 n0 e1;rw[e2]at f4;simp at f4;exact(f5 b Ij sM f4.symm).2.2 kb oc f2 f3;obtain⟨old,n',f1,f2,f3⟩:=XV k n b lo hi' h1 h2;have:=hi.iF k0 old n0 n' b Ij sM lo hi' e1 f2 e2 f3;subst this;exact e3 f1
 have hsame:∀b,b<w.heap.size->(∀o,¬jH gc (uJ ps) b o)->∀o,w'.cell? ⟨b,o,none⟩=w.cell? ⟨b,o,none⟩/\w'.frozen? ⟨b,o,none⟩=w.frozen? ⟨b,o,none⟩:=λb h1 h2 o=>hk.kept b o h1 (h2 o);have adG:∀b o,b<w.heap.size->¬jH gc (uJ ps) b o->g.G b o=none->g'.G b o=none:=by
  intro b o h1 h2 h3;cases hg:g'.G b o with
  |none=>rfl
  |some v =>
   rcases hk.new b o v hg with h|h|h
   change g.G b o=some v at h;rw[h3]at h;simp at h;omega;exact absurd h h2
 have afJ:∀k n,aq k fr=some n->∃j,k=j+s/\aq j (qX os++AB 0 rk rs)=some n/\k ∉ σ.used/\AO.tok k=g'.tok j:=by intro k n e;have FA:=dW e;subst hfr;obtain⟨j,rfl,h2⟩:=GP e;exact⟨j,Z,h2,hfu _ (List.mem_map.2 ⟨_,FA,Z⟩),by simp only[AO,e,aih]⟩
 have afK:∀k n,aq k bu=some n->k∈di (kD σ.boxes 0 ps l)/\∃m,aq k σ.toks=some m/\n=m+1:=by intro k n e;subst W2;exact AX e
 have afL:∀e∈(qX os++AB 0 rk rs),AO.tok (e.1+s)=g'.tok e.1:=by
  intro e he;have h1:aq (e.1+s) fr=some e.2:=by rw[hfr,D5];exact iw hot he
  simp only[AO,h1,aih]
 have hle:g.le AO:=by
  refine⟨hk.le,λ_ _ h=>h,λ_ _ _=>rfl,λk hw gQ e=>?_⟩;cases h1:aq k fr with
  |some n =>
   obtain⟨j,_,_,h2,_⟩:=afJ k n h1;exact absurd (hi.used k (.inr (by rw[e];simp))) h2
  |none =>
   cases h2:aq k bu with
   |some n =>
    obtain⟨_,m,h3,rfl⟩:=afK k n h2;obtain⟨Gn,h4⟩:=hts k m h3;rw[e]at h4;simp at h4;exact⟨m+1,none,by simp only[AO,h1,h2],ai,ai⟩
   |none=>exact⟨hw,gQ,by simp only[AO,h1,h2];exact e,aaV _,λ_=>rfl⟩
 obtain⟨ob1,ob2⟩:=Oh hnb;have CQ:∀k cs,aq k (qL nb σ.boxes)=some cs->(∃oc,aq k σ.boxes=some oc)/\∃b,g.box k=some b/\b<w.heap.size/\(∀o,g'.G b o=none)/\cx w' AO b 0 cs/\∀o,(o<g.room k->∃u,w'.cell? ⟨b,o,none⟩=some u)/\w'.frozen? ⟨b,o,none⟩=false:=by
  intro k cs e;rw[mo jM]at e;split at e
  ·rename_i v hv;simp at e;subst e;obtain⟨i,cells,h1,h2,rfl⟩:=ob1 k v (dW hv);have hmem:=dW h2;have h3:aq (pb i) (sS os)=some (E9 1 (pb i+1) cells):=iw Qe (Oi h1);have h4:=hk.ids (pb i) (Nat.le_add_right _ _) (by show aq (pb i) (sS os)≠none;rw[h3];simp);cases hc:aq (pb i) (uJ ps).boxes with
   |none=>exact absurd hc h4.1
   |some ic =>
    obtain⟨kb,oc,We,f1,f2,_⟩:=ve H.ok (dW hc);have:aq (pb i) (lF σ.boxes 0 ps l)=some kb:=iw H.d1 f1;rw[h2]at this;simp at this;subst this;obtain⟨b,b1,b2,b3,b4⟩:=hi.box k oc f2;obtain⟨b',c1,c2,c3,c4⟩:=hi'.box (pb i) _ h3;have Am:gc.box (pb i)=some b:=(by have:(Al σ.boxes ps l).bx (pb i)=some k:=h2;simp only[gc,Gh.fY,this,b1]);have hgr:gc.room (pb i)=g.room k:=(by have:(Al σ.boxes ps l).bx (pb i)=some k:=h2;simp only[gc,Gh.fY,this]);have hrm:=hi'.room (pb i) _ b' h3 c1;rw[h4.2.2,hgr]at hrm;rw[h4.2.1,Am]at c1;simp at c1;subst c1;refine⟨⟨oc,f2⟩,b,b1,b2,c3,?_,hrm⟩;have:=D7 (g:=g') (g':=AO) (s:=s) (kE.le.refl _) (k:=pb i+1) (λe he=>afL e (List.mem_append.2 (.inl (Oj h1 he)))) c4;rwa[show pb i+1+s=pb i+1+s from rfl]at this
  rename_i hv;have hnot:k ∉ (lF σ.boxes 0 ps l).map (·.2):=by intro hm;obtain⟨x,hx,rfl⟩:=List.mem_map.1 hm;obtain⟨y,hy,hyx⟩:=List.mem_map.1 (hall x.1 (List.mem_map.2 ⟨x,hx,rfl⟩));obtain⟨i,cells,h1,h2,_⟩:=BW (k:=y.1) (v:=y.2) hy;have h3:aq (pb i) (lF σ.boxes 0 ps l)=some x.2:=(by rw[<- h2,hyx];exact iw H.d1 hx);have h4:=ob2 i cells x.2 h1 h3;obtain⟨z,hz,hzx⟩:=List.mem_map.1 h4;have:=iw (k:=z.1) (v:=z.2) jM hz;rw[hzx,hv]at this;simp at this
  obtain⟨b,b1,b2,b3,b4⟩:=hi.box k cs e;have hno:=hfree k cs b e b1 hnot
  exact⟨⟨cs,e⟩,b,b1,b2,λo=>adG b o b2 (hno o) (b3 o),(cx.of_same (hsame b b2 hno) b4).mono hle,λo=>by
   obtain⟨q1,q2⟩:=hi.room k cs b e b1 o
   exact⟨λho=>(q1 ho).imp λu hu=>(hsame b b2 hno o).1.trans hu,(hsame b b2 hno o).2.trans q2⟩⟩
 have E4:∀k n,aq k (qL (fr++bu) σ.toks)=some n->(∃j,k=j+s/\aq j (qX os++AB 0 rk rs)=some n/\AO.tok k=g'.tok j/\k ∉ σ.used)\/AO.tok k=some (n,none) \/
   (aq k σ.toks=some n/\AO.tok k=g.tok k/\k ∉ di (kD σ.boxes 0 ps l)):=by
  intro k n e;rw[mo jz,D6]at e;cases h1:aq k fr with
  |some m =>
   rw[h1]at e;simp at e;subst e;obtain⟨j,rfl,h2,h3,h4⟩:=afJ k m h1;exact .inl ⟨j,Z,h2,h4,h3⟩
  |none =>
   rw[h1]at e;simp only at e;cases h2:aq k bu with
   |some m =>
    rw[h2]at e;simp at e;subst e;right;left;simp only[AO,h1,h2]
   |none =>
    rw[h2]at e;simp only at e;right;right;refine⟨e,by simp only[AO,h1,h2],λhm=>?_⟩;rw[W2,Dj hm e]at h2;simp at h2
 have Lq:∀j n b lo sM,aq j (qX os++AB 0 rk rs)=some n->g'.tok j=some (n,some (b,lo,sM))->w.heap.size<=b\/∃old n',old∈di (kD σ.boxes 0 ps l)/\aq old σ.toks=some n'/\∃Ij hi1,g.tok old=some (n',some (b,Ij,hi1))/\Ij<=lo/\sM<=hi1:=by
  intro j n b lo sM e e1;rcases hk.toks j n b lo sM e e1 with h|⟨k0,n0,Ij,hi1,h1,h2,h3,h4⟩
  exact .inl h;grind
 refine⟨AO,⟨hi'.qK,?_,?_,?_,?_,?_,?_⟩,⟨hk.os,hk.tape,hk.output,hk.size,λb hb hno=>hk.block b hb λo ho=>hno o (Q8 b o ho),λb o hb hno=>hk.kept b o hb λho=>hno (Q8 b o ho),hk.le,λb o v h=>(hk.new b o v h).imp id λh=>h.imp id (Q8 b o),?_,?_,?_⟩,hle,?_⟩;intro k cs e;obtain⟨_,b,b1,b2,b3,b4,_⟩:=CQ k cs e;exact⟨b,b1,agm b2 hk.size,b3,b4⟩;intro k k' cs cs' b e e' e1 e2;obtain⟨⟨oc,h1⟩,_⟩:=CQ k cs e;obtain⟨⟨oc',z9⟩,_⟩:=CQ k' cs' e';exact hi.gr k k' oc oc' b h1 z9 e1 e2
 ·intro k n e;rcases E4 k n e with ⟨j,rfl,h1,h2,_⟩|h1|⟨h1,h2,h3⟩
  ·obtain⟨gQ,h3,h4⟩:=hi'.tok j n h1;refine⟨gQ,h2.trans h3,λb lo sM hr=>?_⟩;obtain⟨f1,f2,f3⟩:=h4 b lo sM hr;refine⟨f1,f2,λk' cs e'=>?_⟩;obtain⟨⟨oc,g1⟩,b',b1,b2,_⟩:=CQ k' cs e';show g.box k'≠some b;rw[b1];intro Da;simp at Da;subst Da;subst hr;rcases Lq j n b' lo sM h1 h3 with h|⟨old,n',_,q2,Ij,hi1,q3,_,_⟩
   omega;obtain⟨Gn,q4,q5⟩:=hi.tok old n' q2;rw[q3]at q4;simp at q4;exact(q5 _ _ _ q4.symm).2.2 k' oc g1 b1
  simp_all;obtain⟨gQ,h4,h5⟩:=hi.tok k n h1;refine⟨gQ,h2.trans h4,λb lo sM hr=>?_⟩;obtain⟨f1,f2,f3⟩:=h5 b lo sM hr;subst hr;have hno:=adF k n b lo sM h1 h4 h3;refine⟨agm f1 hk.size,λo o1 o2=>?_,λk' cs e'=>?_⟩;grind;obtain⟨⟨oc,g1⟩,_⟩:=CQ k' cs e';exact f3 k' oc g1
 ·intro k k' n n' b lo sM lo' hi1 e e' e1 e2;rcases E4 k n e with ⟨j,rfl,h1,h2,hu1⟩|h1|⟨h1,h2,h3⟩
  ·rw[h2]at e1;rcases E4 k' n' e' with ⟨j',rfl,z9,D2,_⟩|z9|⟨z9,D2,WQ⟩
   rw[D2]at e2;have:=hi'.iF j j' n n' b lo sM lo' hi1 h1 z9 e1 e2;rw[this];simp_all;rw[D2]at e2;exfalso;obtain⟨gQ,q1,q2⟩:=hi.tok k' n' z9;rw[e2]at q1;simp at q1;have hlt:=(q2 _ _ _ q1.symm).1;rcases Lq j n b lo sM h1 e1 with h|⟨old,m,r1,r2,Ij,hi2,r3,_,_⟩
   omega;have:=hi.iF k' old n' m b lo' hi1 Ij hi2 z9 r2 e2 r3;subst this;exact WQ r1
  simp_all;rw[h2]at e1;rcases E4 k' n' e' with ⟨j',rfl,z9,D2,_⟩|z9|⟨z9,D2,WQ⟩
  ·rw[D2]at e2;exfalso;obtain⟨gQ,q1,q2⟩:=hi.tok k n h1;rw[e1]at q1;simp at q1;have hlt:=(q2 _ _ _ q1.symm).1;rcases Lq j' n' b lo' hi1 z9 e2 with h|⟨old,m,r1,r2,Ij,hi2,r3,_,_⟩
   omega;have:=hi.iF k old n m b lo sM Ij hi2 h1 r2 e1 r3;subst this;exact h3 r1
  simp_all;rw[D2]at e2;exact hi.iF k k' n n' b lo sM lo' hi1 h1 z9 e1 e2
 ·intro k e;show k∈fr.map (·.1)++σ.used;rw[aeK];rcases e with e|e
  exact .inr (hi.used k (.inl e));cases h1:aq k fr with
  |some m=>exact .inl (List.mem_map.2 ⟨_,dW h1,Z⟩)
  |none =>
   right;cases h2:aq k bu with
   |some m =>
    obtain⟨_,q,h3,_⟩:=afK k m h2;obtain⟨gQ,h4⟩:=hts k q h3;exact hi.used k (.inr (by rw[h4];simp))
   |none=>apply hi.used k;right;simpa only[AO,h1,h2]using e
 intro k cs b e e1;obtain⟨_,b',b1,_,_,_,hrm⟩:=CQ k cs e;have UX:g.box k=some b:=e1;rw[b1]at UX;cases UX;exact hrm;intro k cs b e e1;obtain⟨⟨oc,h1⟩,_⟩:=CQ k cs e;exact .inr ⟨k,oc,h1,e1⟩
 ·intro k n b lo sM e e1;rcases E4 k n e with ⟨j,rfl,h1,h2,_⟩|h1|⟨h1,h2,h3⟩
  grind;simp_all;grind
 ·intro k _ e;cases hc:aq k (qL nb σ.boxes)with
  |none=>exact absurd hc e
  |some cs =>
   obtain⟨⟨oc,h1⟩,_⟩:=CQ k cs hc;exact⟨by rw[h1];simp,Z,Z⟩
 intro u h;have hsub:∀e∈AB 0 rk rs,AO.tok (e.1+s)=g'.tok e.1:=λe he=>afL e (List.mem_append.2 (.inr he))
 match rs,h,hsub with
 |[],h,_=>simp only[wR,aP,Rel]at h ⊢;exact h
 |[x],h,hsub =>
  simp only[wR]at h ⊢;have:=(LV.shift (g:=g') (g':=AO) (s:=s) (kE.le.refl _) (k:=rk) (λe he=>hsub e (by simp only[AB,aeK];exact .inl he)) h).1;exact this
 |x::y::r,h,hsub =>
  simp only[wR,aP]at h ⊢;obtain⟨vs,e1,e2,e3⟩:=h;refine⟨vs,e1,JN (g:=g') (g':=AO) (kE.le.refl _) hsub e2,?_⟩;rw[GQ]at e3 ⊢;exact e3
end Go.cw
namespace Go.cw
def lg:∀{a b:L (Nat×(Nat×Option Nat))},di (a++b)=di a++di b
 |[],b=>rfl
 |(k,m,none)::a,b=>by simp[di,lg (a:=a)]
 |(k,m,some o)::a,b=>by simp[di,lg (a:=a)]
section
variable {bs Nh : L (Nat × L AV)}{ts JO : L (Nat × Nat)}
def GS{m k:Nat}:∀{x:LV}{a:AV},IE ts x a->(∀j∈di (Di m k x a),aq j JO=aq j ts)->IE JO x a
 |.c v,a,h,_=>h
 |.own s rows,a,h,C=>by
  simp only[IE]at h ⊢;rcases tD h with ⟨q,rfl,hq⟩|⟨k',n,rfl,B⟩
  exact h;have:=C k' (by simp[Di,di]);simp only[Oe,this,B];simp
def D8{m:Nat}:∀{k:Nat}{xs:L LV}{l:L AV},pz ts xs l->(∀j∈di (pE m k xs l),aq j JO=aq j ts)->pz JO xs l
 |k,[],l,h,_=>h
 |k,x::xs,l,h,C=>by obtain⟨a,r,rfl,h1,h2⟩:=h;simp only[pE,lg,aeK]at C;exact⟨a,r,rfl,GS h1 (λj Y=>C j (.inl Y)),D8 h2 (λj Y=>C j (.inr Y))⟩
def yo:∀{i:Nat}{K:L PA}{l:L AV},ql bs ts K l->(∀k∈(lF bs i K l).map (·.2),aq k Nh=aq k bs)->(∀k∈di (kD bs i K l),aq k JO=aq k ts) ->
  ql Nh JO K l/\lF Nh i K l=lF bs i K l/\kD Nh i K l=kD bs i K l
 |i,[],l,h,_,_=>by simp only[ql]at h;subst h;exact⟨by simp[ql],rfl,rfl⟩
 |i,.v x::K,l,h,h1,h2=>by obtain⟨a,r,rfl,I,Y⟩:=h;simp only[kD,lg,aeK]at h2;obtain⟨Q,S,u⟩:=yo Y h1 (λk A=>h2 k (.inr A));refine⟨by simp_all;exact⟨a,r,rfl,GS I (λj W=>h2 j (.inl W)),Q⟩,?_,?_⟩;simp only[lF,S];simp only[kD,u]
 |i,.box cells::K,l,h,h1,h2=>by obtain⟨V,J,r,rfl,I,Y,M⟩:=h;simp only[lF,aeX,afp,forall_eq_or_imp]at h1;simp only[kD,I,lg,aeK]at h2;obtain⟨Q,S,u⟩:=yo M h1.2 (λk A=>h2 k (.inr A));refine⟨by simp only[ql];exact⟨V,J,r,rfl,h1.1.trans I,D8 Y (λj W=>h2 j (.inl W)),Q⟩,?_,?_⟩;simp only[lF,S];simp only[kD,u,h1.1]
end
def D9{ts JO:L (Nat×Nat)}:∀{l:L Nat},(∀k∈l,aq k JO=aq k ts)->rU JO l=rU ts l
 |[],_=>rfl
 |k::l,h=>by simp only[rU,h k cc,D9 (l:=l) (λj Y=>h j (by simp[Y]))]
def gI(ρ:Operand->Option AV):L Operand->Option (L AV)
 |[]=>some []
 |x::l=>match ρ x with
  |some a=>match gI ρ l with
   |some r=>some (a::r)
   |none=>none
  |none=>none
def vY{ρ Y:Operand->Option AV}:∀(l:L Operand),(∀x∈l,Y x=ρ x)->gI Y l=gI ρ l
 |[],_=>rfl
 |x::l,h=>by simp only[gI,h x cc,vY l (λy U=>h y (by simp[U]))]
def Dk{g:Gh}{ρ:Operand->Option AV}{ev:Operand->Value}(O:∀x v,ρ x=some v->aP g v (ev x)):∀{l:L Operand}{r:L AV},gI ρ l=some r->bW g r (l.map ev)
 |[],r,h=>by simp[gI]at h;subst h;simp[bW]
 |x::l,r,h=>by simp only[gI]at h;split at h;rename_i a T;split at h;rename_i Y P;simp at h;subst h;exact⟨_,_,rfl,O x a T,Dk O P⟩;grind;grind
def iJ.more{Y:St->St}{W:L Nat}(h:iJ Y ⟨[],W⟩)(R:L Nat):iJ Y ⟨R,W⟩ :=
 ⟨λσ k A=>h.out σ k A,λσ N T k A=>h.same σ N (λj V=>T j (V.elim (λx=>by simp at x) .inr)) k A⟩
structure Dl(bs:List (Nat×List AV))(ts:List (Nat×Nat))(us:List Nat)(ps:List PA)(l:List AV)(rs:List LV)(os:List (Nat×List LV))(s:Nat)(nb:List (Nat×List AV))(fr bu:List (Nat×Nat)):Prop where
 H:vf bs ts ps l
 hnb:KX (lF bs 0 ps l) s os=some nb
 hall:∀x∈(lF bs 0 ps l).map (·.1),x∈(sS os).map (·.1)
 hfr:fr=rT s (qX os++AB 0 rk rs)
 W2:bu=rU ts (di (kD bs 0 ps l))
 Qe:distinct ((sS os).map (·.1))=true
 jM:distinct (nb.map (·.1))=true
 jz:distinct ((fr++bu).map (·.1))=true
 hfu:∀x∈fr.map (·.1),x ∉ us
 hot:distinct ((qX os++AB 0 rk rs).map (·.1))=true
def Dl.congr{bs Nh:L (Nat×L AV)}{ts JO:L (Nat×Nat)}{us KQ:L Nat}{K:L PA}{l:L AV}{rs:L LV}{M:L (Nat×L LV)}{s:Nat}{nb:L (Nat×L AV)}{Y W:L (Nat×Nat)}
  (h:Dl bs ts us K l rs M s nb Y W)(h1:∀k∈(lF bs 0 K l).map (·.2),aq k Nh=aq k bs)(h2:∀k∈di (kD bs 0 K l),aq k JO=aq k ts)(I:∀k∈Y.map (·.1),k∈KQ↔k∈us) :
  Dl Nh JO KQ K l rs M s nb Y W:=by
 obtain⟨Q,S,u⟩:=yo h.H.ok h1 h2
 exact⟨⟨Q,by rw[S];exact h.H.d1,by rw[S];exact h.H.d2,by rw[u];exact h.H.d3,by rw[u];exact h.H.d4⟩,by rw[S];exact h.hnb,by rw[S];exact h.hall,h.hfr,by rw[u,D9 h2];exact h.W2,
  h.Qe,h.jM,h.jz,λx D T=>h.hfu x D ((I x D).1 T),h.hot⟩
section
variable {P : Program}{X : Ctx}
def bN.Q9{o:Oper}{env:Env}{σ:St}{f:FuncId}{M:L Operand}(sD:∀x∈M,x∈o.op.operands.toList){D:L AV}(hl:gI (aG X env) M=some D){l:L AV}{K:L PA}{rs:L LV}{I:L (Nat×L LV)}
  (hq:bM P X f K rs I){s:Nat}{nb:L (Nat×L AV)}{U O:L (Nat×Nat)}(C:Dl σ.boxes σ.toks σ.used K l rs I s nb U O)
  (B:∀(g:Gh)(w:World)(a:Act)(T:Env),(∀x∈o.op.operands.toList,aG X T x=aG X env x)->wN g T a.tmps->qJ X g.G->∃vs:L Value,bW g l vs/\(execOp a.eval o).run P w = .ok (.enter f vs.toArray) w) :
  bN P X o env σ (wR s rs) (rG nb (U++O) (U.map (·.1))) ⟨(lF σ.boxes 0 K l).map (·.2)++di (kD σ.boxes 0 K l),nb.map (·.1)++((U++O).map (·.1)++U.map (·.1))⟩:=by
 intro T N w g a next Q h1 h2 W E q V;have Y:=C.congr (Nh:=N.boxes) (JO:=N.toks) (KQ:=N.used) (λk A=>(h2 k (.inl (List.mem_append.2 (.inl A)))).1) (λk A=>(h2 k (.inl (List.mem_append.2 (.inr A)))).2.1)
  (λk A=>(h2 k (.inr (by simp only[aeK];exact .inr (.inr A)))).2.2)
 obtain⟨vs,hv,S⟩:=B g w a T h1 q E;have J:=Y.H.inv W;have gZ:=Y.H.rel W hv;unfold Oper.wp;rw[S,Oper.upon_enter];refine(hq.2 _ w vs J E gZ).mono ?_;rintro e w' ⟨u,g',rfl,h3,h4,h5⟩;obtain⟨AO,i1,i2,i3,i4⟩:=UW W Y.H h4 h5 s Y.hnb Y.hall Y.hfr Y.W2 Y.Qe Y.jM Y.jz Y.hfu Y.hot;exact V u w' AO (i4 u h3) i1 i2 i3
def bN.W3{o:Oper}{env:Env}{σ:St}{f:FuncId}{args:Array Operand}{Y:Array TypeId}(T:o.op = .call {callee := .value (.func f),args:=args,argTypes:=Y})
  {l:L AV}(I:gI (aG X env) args.toList=some l){K:L PA}{rs:L LV}{M:L (Nat×L LV)}
  (hq:bM P X f K rs M){s:Nat}{nb:L (Nat×L AV)}{H W:L (Nat×Nat)}(C:Dl σ.boxes σ.toks σ.used K l rs M s nb H W) :
  bN P X o env σ (wR s rs) (rG nb (H++W) (H.map (·.1))) ⟨(lF σ.boxes 0 K l).map (·.2)++di (kD σ.boxes 0 K l),nb.map (·.1)++((H++W).map (·.1)++H.map (·.1))⟩:=by
 have U:∀x∈args.toList,x∈o.op.operands.toList:=by intro x D;rw[T];simp only[Op.operands,Call.operands,afG,aeK];exact .inr D
 refine bN.Q9 U I hq C ?_;intro g w a S h1 O Q;have N:gI (aG X S) args.toList=some l:=by rw[vY _ (λx D=>h1 x (U x D))];exact I
 refine⟨args.toList.map a.eval,Dk (λx v D=>cr O Q D) N,?_⟩;rw[show(args.toList.map a.eval).toArray=args.map a.eval from by rw[<- agI]];obtain⟨J,E,B,G,V,guard⟩:=o;subst T;simp[execOp,resolve,Deferred.ofValue,invoke,Act.eval,hq.1 _ w]
def aim:L CV->L AV
 |[]=>[]
 |v::l => .c v::aim l
def tX:L Nat->Option (L Nat)
 |[]=>some []
 |x::l=>match tX l with
  |some r=>some (x::r)
  |none=>none
def lE{α:Type}:L (Nat×α)->Option (L (Nat×α))
 |[]=>some []
 |(k,n)::l=>match lE l with
  |some r=>some ((k,n)::r)
  |none=>none
def zA:∀{l r:L Nat},tX l=some r->r=l
 |[],r,h=>by simp[tX]at h;exact h
 |x::l,r,h=>by simp only[tX]at h;split at h;rename_i O B;simp at h;rw[<- h,zA B];grind
def nT{α:Type}:∀{l r:L (Nat×α)},lE l=some r->r=l
 |[],r,h=>by simp[lE]at h;exact h
 |(k,n)::l,r,h=>by simp only[lE]at h;split at h;rename_i O B;simp at h;rw[<- h,nT B];grind
def both(a b:Bool):Bool:=match a with
 |true=>b
 |false=>false
def eo{a b:Bool}(h:both a b=true):a=true/\b=true:=by cases a<;>simp_all [both]
def CS(us:L Nat)(bx:L (Nat×Nat))(tk:L (Nat×(Nat×Option Nat)))(Y:L (Nat×L AV))(nb:L (Nat×L AV))(H K W:L (Nat×Nat)):Bool :=
 both (distinct (gT bx)) (both (distinct (bx.map (·.2))) (both (distinct (gT tk)) (both (distinct (di tk)) (both (GN (gT Y) (gT bx)) (both (distinct (gT Y))
  (both (distinct (gT nb)) (both (distinct (gT (H++K))) (both (Lp us (gT H)) (distinct (gT W))))))))))
def UY{bs:L (Nat×L AV)}{ts:L (Nat×Nat)}{us:L Nat}{K:L PA}{l:L AV}{rs:L LV}{M:L (Nat×L LV)}{s:Nat}{nb:L (Nat×L AV)}{H W:L (Nat×Nat)}
  (hok:ql bs ts K l){bx:L (Nat×Nat)}(J:lE (lF bs 0 K l)=some bx){tk:L (Nat×(Nat×Option Nat))}(I:lE (kD bs 0 K l)=some tk)(V:KX bx s M=some nb)
  (T:lE (rT s (qX M++AB 0 rk rs))=some H)(G:lE (rU ts (di tk))=some W)(Y:CS us bx tk (sS M) nb H W (qX M++AB 0 rk rs)=true):Dl bs ts us K l rs M s nb H W:=by
 have h1:=nT J;have h2:=nT I;have E:=nT T;have C:=nT G;subst h1 h2 E C;obtain⟨u,Y⟩:=eo Y;obtain⟨U,Y⟩:=eo Y;obtain⟨S,Y⟩:=eo Y;obtain⟨c4,Y⟩:=eo Y;obtain⟨Q,Y⟩:=eo Y;obtain⟨B,Y⟩:=eo Y;obtain⟨P,Y⟩:=eo Y;obtain⟨O,Y⟩:=eo Y;obtain⟨N,CA⟩:=eo Y;simp only[mN]at u U S c4 Q B P O N CA;exact⟨⟨hok,u,U,S,c4⟩,V,λx D=>vg Q x D,Z,Z,B,P,O,λx D=>GO N x D,CA⟩
def QF(d s:Nat)(rs:L LV)(env:Env):Option Env:=match rs with
 |[]=>some ((d,.c .undef)::env)
 |[.c v]=>some ((d,.c v)::env)
 |[.own q rows]=>some ((d,.own (.tok (rk+s) 0) q rows)::env)
 |rs=>match Q6 0 (rk+s) rs with
  |some l=>some ((d,.eF l)::env)
  |none=>none
def aaR{d s:Nat}{rs:L LV}{env env':Env}(h:QF d s rs env=some env'):env'=(d,wR s rs)::env:=by
 match rs,h with
 |[],h=>simp[QF]at h;subst h;rfl
 |[.c v],h=>simp[QF]at h;subst h;rfl
 |[.own q rows],h=>simp[QF]at h;subst h;rfl
 |x::y::r,h=>simp[QF,Fb]at h;subst h;rfl
end
section
variable {P : Program}{X : Ctx}{ops : Array Oper}{o : Oper}{rest : L Oper}{env : Env}{acc : L Fp}{Q : Env -> St -> L Fp -> Prop}{bs : L (Nat × L AV)}{ts : L (Nat × Nat)}{us : L Nat}
def ah.W3(kn:L Nat)(E:cY ops.toList kn env o=some true){f:FuncId}{args:Array Operand}{W:Array TypeId}(A:o.op = .call {callee := .value (.func f),args:=args,argTypes:=W})
  {Y:L PA}{rs:L LV}{M:L (Nat×L LV)}(hq:bM P X f Y rs M){l:L AV}(u:gI (aG X env) args.toList=some l)(hok:ql bs ts Y l){d:Nat}(q:o.dst=some d)
  {nb:L (Nat×L AV)}{H K V:L (Nat×Nat)}{bx:L (Nat×Nat)}(N:lE (lF bs 0 Y l)=some bx){tk:L (Nat×(Nat×Option Nat))}(J:lE (kD bs 0 Y l)=some tk)(U:KX bx (10000000*(d+1)) M=some nb)
  (T:lE (rT (10000000*(d+1)) (qX M++AB 0 rk rs))=some H)(W2:lE (rU ts (di tk))=some K)(hc:CS us bx tk (sS M) nb H K (qX M++AB 0 rk rs)=true)
  {bs':L (Nat×L AV)}(S:vM nb bs=some bs')(O:lE (H++K)=some V){ts':L (Nat×Nat)}(D:vM V ts=some ts'){us':L Nat}(wY:tX (gT H++us)=some us')
  {I G:L Nat}(hR:tX (bx.map (·.2)++di tk)=some I)(hW:tX (gT nb++(gT V++gT H))=some G){env':Env}(he:QF d (10000000*(d+1)) rs env=some env')
  (k:ah P X ops rest env' ⟨bs',ts',us'⟩ (⟨I,G⟩::acc) Q):ah P X ops (o::rest) env ⟨bs,ts,us⟩ acc Q:=by
 have C:=UY hok N J U T W2 hc;have r2:=aaR he;have hs:=bN.W3 (σ:=⟨bs,ts,us⟩) A u hq C;have e1:=nT O;have e2:=zA wY;have e3:=zA hR;have B:=zA hW;rw[GL]at S D;simp at S D;have hE:iJ (rG nb (H++K) (H.map (·.1))) ⟨(lF bs 0 Y l).map (·.2)++di (kD bs 0 Y l),nb.map (·.1)++((H++K).map (·.1)++H.map (·.1))⟩:=(Q5 nb (H++K) (H.map λ(x:Nat×Nat)=>x.1) C.jM C.jz).more _;refine ah.step (dh E) hs hE ?_;rw[q];show ah P X ops rest ((d,_)::env) _ _ Q;rw[<- r2];simp only[rG];rw[e1]at D B;rw[S,D,<- mN H,<- e2];have h1:=nT N;have h2:=nT J;rw[<- h1,<- h2,<- e3,<- mN nb,<- mN (H++K),<- B];exact k
end
end Go.cw
namespace Go.cw
def aaS(ts:L (Nat×Nat)):LV->AV->Option LV
 |.c _,a=>match close a with
  |some v=>some (.c v)
  |none=>none
 |.own s _,a=>match Oe ts s a with
  |some rows=>some (.own s rows)
  |none=>none
def BX(ts:L (Nat×Nat)):L LV->L AV->Option (L LV)
 |[],[]=>some []
 |x::xs,a::l=>match aaS ts x a with
  |some y=>match BX ts xs l with
   |some r=>some (y::r)
   |none=>none
  |none=>none
 |_,_=>none
def Dm(bs:L (Nat×L AV))(ts:L (Nat×Nat)):L (Nat×L LV)->Option (L (Nat×L LV))
 |[]=>some []
 |(i,cells)::l=>match aq (pb i) bs with
  |some u=>match BX ts cells u with
   |some y=>match Dm bs ts l with
    |some r=>some ((i,y)::r)
    |none=>none
   |none=>none
  |none=>none
def pO(bs:L (Nat×L AV)):L (Nat×L LV)->L (Nat×(Nat×Option Nat))
 |[]=>[]
 |(i,cells)::l=>(match aq (pb i) bs with
  |some u=>pE 1 (pb i+1) cells u
  |none=>[])++pO bs l
def sE:L (Nat×L LV)->L (Nat×Nat)
 |[]=>[]
 |(i,_)::l=>(pb i,pb i)::sE l
def aaT{ts:L (Nat×Nat)}:∀{x:LV}{a:AV}{y:LV},aaS ts x a=some y->IE ts y a
 |.c _,a,y,h=>by simp only[aaS]at h;split at h;rename_i v N;simp at h;subst h;exact N;grind
 |.own _ _,a,y,h=>by simp only[aaS]at h;split at h;rename_i rows N;simp at h;subst h;exact N;grind
def BY{ts:L (Nat×Nat)}:∀{xs:L LV}{l:L AV}{P:L LV},BX ts xs l=some P->pz ts P l
 |[],[],P,h=>by simp[BX]at h;subst h;simp[pz]
 |[],_::_,P,h=>by simp[BX]at h
 |_::_,[],P,h=>by simp[BX]at h
 |x::xs,a::l,P,h=>by simp only[BX]at h;split at h;rename_i y U;split at h;rename_i r B;simp at h;subst h;exact⟨a,l,rfl,aaT U,BY B⟩;grind;grind
def Dn(bs:L (Nat×L AV))(ts:L (Nat×Nat)):L (Nat×L LV)->Prop
 |[]=>True
 |(i,cells)::l=>(∃u,aq (pb i) bs=some u/\pz ts cells u)/\Dn bs ts l
def Dp{bs:L (Nat×L AV)}{ts:L (Nat×Nat)}:∀{M Y:L (Nat×L LV)},Dm bs ts M=some Y->Dn bs ts Y
 |[],Y,h=>by simp[Dm]at h;subst h;trivial
 |(i,cells)::l,Y,h=>by simp only[Dm]at h;split at h;rename_i u W;split at h;rename_i y U;split at h;rename_i r B;simp at h;subst h;exact⟨⟨u,W,BY U⟩,Dp B⟩;grind;grind;grind
def AY{bs:L (Nat×L AV)}{ts:L (Nat×Nat)}:∀{M:L (Nat×L LV)},Dn bs ts M->∀i cells,(i,cells)∈M->∃u,aq (pb i) bs=some u/\pz ts cells u/\(∀e∈pE 1 (pb i+1) cells u,e∈pO bs M)/\(pb i,pb i)∈sE M
 |[],_,i,cells,h=>by simp at h
 |(j,c)::l,⟨⟨u,h1,h2⟩,h3⟩,i,cells,h=>by
  rcases List.mem_cons.1 h with h|h
  obtain⟨rfl,rfl⟩:=h;exact⟨u,h1,h2,λe O=>by simp only[pO,h1,aeK];exact .inl O,by simp[sE]⟩;obtain⟨Y,D,W,U,N⟩:=AY h3 i cells h;exact⟨Y,D,W,λe O=>by simp only[pO,aeK];exact .inr (U e O),by simp[sE,N]⟩
def GU{bs:L (Nat×L AV)}{ts:L (Nat×Nat)}{j n:Nat}:∀{M:L (Nat×L LV)},Dn bs ts M->(j,n)∈qX M->∃o,(j,(n,o))∈pO bs M/\∀W,o=some W->∃Y,aq W ts=some Y
 |[],_,h=>by simp[qX]at h
 |(i,c)::l,⟨⟨u,h1,h2⟩,h3⟩,h=>by
  simp only[qX,aeK]at h;simp only[pO,h1,aeK];rcases h with h|h
  obtain⟨rfl,o,N,H⟩:=zx h2 h;exact⟨o,.inl N,H⟩;obtain⟨o,N,H⟩:=GU h3 h;exact⟨o,.inr N,H⟩
def GV{bs:L (Nat×L AV)}{ts:L (Nat×Nat)}:∀{M:L (Nat×L LV)},Dn bs ts M->∀e∈pO bs M,e.1∈(qX M).map (·.1)
 |[],_,e,h=>by simp[pO]at h
 |(i,c)::l,⟨⟨u,h1,h2⟩,h3⟩,e,h=>by simp only[pO,h1,aeK]at h;simp only[qX,afa,aeK];exact h.imp (zy h2 e) (GV h3 e)
def GW:∀{M:L (Nat×L LV)}{k v:Nat},(k,v)∈sE M->v=k/\k∈(sS M).map (·.1)
 |[],k,v,h=>by simp[sE]at h
 |(i,c)::l,k,v,h=>by
  simp only[sE,afp]at h;simp only[sS,aeX,afp];rcases h with h|h
  grind;obtain⟨E,N⟩:=GW h;exact⟨E,.inr N⟩
section
variable {P : Program}{X : Ctx}{f : FuncId}{n : Nat}{β : kz}{R : Ending -> World -> Prop}{K : L Item}{env : Env}
def qY(hX:cB P X){C:Func}{σ:St}{g:Gh}{w:World}{a:Act}(J:Live X β n env σ g w a){l:L AV}(h:qT X σ.boxes env C.results.toList=some l) :
  ∃u,(results C a.tmps).run P w = .ok u w/\match l with|[]=>u=undef|[x]=>aP g x u|l=>aP g (.eF l) u:=by
 match l,h with
 |[],h =>
  obtain⟨vs,E,N⟩:=E5 hX J h;subst N;refine⟨.tuple #[],?_,Z⟩;have:(C.results.mapM (GB a.tmps)).run P w = .ok #[] w:=by rw[ahR];simp_all
  rw[AQ,Sem.run_bind,this];simp
 |[x],h=>exact AR hX J (r:=x) (by unfold kQ;rw[h])
 |x::y::r,h=>exact AR hX J (r := .eF (x::y::r)) (by unfold kQ;rw[h])
def AZ(bx:L (Nat×Nat))(tk:L (Nat×(Nat×Option Nat))):Bool :=
 both (distinct (gT bx)) (both (distinct (bx.map (·.2))) (both (distinct (gT tk)) (distinct (di tk))))
def JP{σ:St}{g:Gh}{w:World}(H:Inv w g σ){rs:L LV}{M:L (Nat×L LV)}{l:L AV}(B:pz σ.toks rs l)(W:Dn σ.boxes σ.toks M)
  (Y:AZ (sE M) (pO σ.boxes M++pE 0 rk rs l)=true)(G:distinct (gT (sS M))=true) :
  let ρ:Ren:=⟨λk=>aq k (sE M),λk=>aq k (pO σ.boxes M++pE 0 rk rs l)⟩
  Inv w (g.fY ρ) (BU M rs)/\iS w g σ w (g.fY ρ) (BU M rs)/\fq ρ σ.toks (E9 0 rk rs) l:=by
 intro ρ;obtain⟨u,Y⟩:=eo Y;obtain⟨C,Y⟩:=eo Y;obtain⟨T,c4⟩:=eo Y;rw[mN]at u T G;have pX:fq ρ σ.toks (E9 0 rk rs) l:=BV B λe O=>iw T (List.mem_append.2 (.inr O))
 obtain⟨h1,h2⟩:=H.fY ρ (BU M rs) (by
   intro k cells e;obtain⟨i,V,U,rfl,rfl⟩:=BW (dW e);obtain⟨J,P,K,I,S⟩:=AY W i V U;exact⟨pb i,J,iw u S,P,BV K λe O=>iw T (List.mem_append.2 (.inl (I e O)))⟩) (by
   intro k k' Q E N;exact oI C (dW E) (dW N)) (by
   intro k m e;have q:=dW e;rcases List.mem_append.1 q with q|q
   obtain⟨o,E,N⟩:=GU W q;exact⟨o,iw T (List.mem_append.2 (.inl E)),N⟩
   ·obtain⟨rfl,o,E,N⟩:=zx B q;exact⟨o,iw T (List.mem_append.2 (.inr E)),N⟩) (by
   intro k k' m m' Q E N;exact vX c4 (dW E) (dW N)) (by
   intro k e;simp only[BU,aeK,afa];rcases e with e|e
   left;obtain⟨x,D,rfl⟩:=List.mem_map.1 (pN e);exact(GW (k:=x.1) (v:=x.2) D).2;right;obtain⟨x,D,rfl⟩:=List.mem_map.1 (pN e);rcases List.mem_append.1 D with D|D
   exact .inl (GV W x D)
   exact .inr (zy B x D))
 refine⟨h1,h2 ?_,pX⟩;intro k _ e;cases A:aq k (BU M rs).boxes with
 |none=>exact absurd A e
 |some cells =>
  obtain⟨i,V,U,rfl,rfl⟩:=BW (dW A);obtain⟨J,P,K,I,S⟩:=AY W i V U;exact iw u S
def AK.ED(hX:cB P X){C:Func}(hf:P.funcs[f]?=some C){bs:L (Nat×L AV)}{ts:L (Nat×Nat)}{us:L Nat}{rs W:L LV}{M Y:L (Nat×L LV)}{l:L AV}(B:qT X bs env C.results.toList=some l)
  (h1:BX ts rs l=some W)(h2:Dm bs ts M=some Y)(I:both (AZ (sE Y) (pO bs Y++pE 0 rk W l)) (distinct (gT (sS Y)))=true)
  (E:W=rs)(N:Y=M):AK P X f n β (ER β rs M) (.code .ret::K) env ⟨bs,ts,us⟩:=by
 subst E N;intro g w a cs V;obtain⟨u,T,U⟩:=qY hX V B;obtain⟨S,Q⟩:=eo I;have hok:=BY h1;obtain⟨O,A,J⟩:=JP V.inv hok (Dp h2) S Q;refine⟨.returned u,w,_,⟨u,_,Z,?_,O,V.frame.trans A⟩,.one step_ret,Z,Z,V.defers,Z,C,hf,T⟩;have D:=qu V.inv
 match W,hok,J with
 |[],hok,J =>
  subst hok;exact U
 |[x],hok,J =>
  obtain⟨y,r,rfl,_,rfl⟩:=hok;obtain⟨b,r',H,G,_⟩:=J;obtain⟨rfl,_⟩:=H;exact(tC D G U).1
 |x::x'::r,hok,J =>
  obtain⟨y,q,rfl,_,y',q',rfl,_,_⟩:=hok;refine(tC D (b := .eF (y::y'::q')) ?_ U).1;exact⟨_,Z,J⟩
def XW(ρ:Ren)(ts:L (Nat×Nat))(env:Env):Env->Prop
 |[]=>True
 |(t,a)::l=>(∃b,aq t env=some b/\Conv ρ ts a b)/\XW ρ ts env l
def JQ(ρ:Ren)(ts:L (Nat×Nat))(bs:L (Nat×L AV)):L (Nat×L AV)->Prop
 |[]=>True
 |(k,cells)::l=>(∃W u,ρ.bx k=some W/\aq W bs=some u/\fq ρ ts cells u)/\JQ ρ ts bs l
def JR{ρ:Ren}{ts:L (Nat×Nat)}{env:Env}:∀{l:Env},XW ρ ts env l->∀t a,aq t l=some a->∃b,aq t env=some b/\Conv ρ ts a b
 |[],_,t,a,e=>by simp[aq]at e
 |(j,x)::l,h,t,a,e=>by rw[aj]at e;split at e;rename_i C;simp at e;subst C e;exact h.1;exact JR h.2 t a e
def vh{ρ:Ren}{ts:L (Nat×Nat)}{bs:L (Nat×L AV)}:∀{l:L (Nat×L AV)},JQ ρ ts bs l->∀k c,aq k l=some c->∃W u,ρ.bx k=some W/\aq W bs=some u/\fq ρ ts c u
 |[],_,t,a,e=>by simp[aq]at e
 |(j,x)::l,h,t,a,e=>by rw[aj]at e;split at e;rename_i C;simp at e;subst C e;exact h.1;exact vh h.2 t a e
def Ok(ts:L (Nat×Nat))(tk:L (Nat×(Nat×Option Nat))):L (Nat×Nat)->Bool
 |[]=>true
 |(k,n)::l=>match aq k tk with
  |some (m,none)=>both (Nat.beq m n) (Ok ts tk l)
  |some (m,some W)=>match aq W ts with
   |some _=>both (Nat.beq m n) (Ok ts tk l)
   |none=>false
  |none=>false
def Dq{ts:L (Nat×Nat)}{tk:L (Nat×(Nat×Option Nat))}:∀{l:L (Nat×Nat)},Ok ts tk l=true->∀k n,aq k l=some n->∃o,aq k tk=some (n,o)/\∀W,o=some W->∃V,aq W ts=some V
 |[],_,k,n,e=>by simp[aq]at e
 |(j,m)::l,h,k,n,e=>by simp only[Ok]at h;rw[aj]at e;split at h;rename_i I q;obtain⟨U,Y⟩:=eo h;split at e;simp_all;exact Dq Y k n e;rename_i I W q;split at h;rename_i z T;obtain⟨U,Y⟩:=eo h;split at e;simp_all;exact Dq Y k n e;grind;grind
def JS:L (Nat×Nat)->Bool
 |[]=>true
 |(k,v)::l=>match Nat.blt k 1000000 with
  |true=>JS l
  |false=>both (Nat.beq v k) (JS l)
def zB:∀{l:L (Nat×Nat)},JS l=true->∀k v,1000000<=k->aq k l=some v->v=k
 |[],_,k,v,_,e=>by simp[aq]at e
 |(j,x)::l,h,k,v,hk,e=>by simp only[JS]at h;rw[aj]at e;split at h;rename_i U;have:j<1000000:=(by simpa using U);rw[if_neg ai]at e;exact zB h k v hk e;obtain⟨W,Y⟩:=eo h;split at e;simp_all;exact zB Y k v hk e
def XX(bx:L (Nat×Nat))(tk:L (Nat×(Nat×Option Nat)))(ts ts':L (Nat×Nat))(us':L Nat):Bool :=
 both (distinct (bx.map (·.2))) (both (distinct (di tk)) (both (Ok ts tk ts') (both (JS bx) (both (GN us' (gT bx)) (GN us' (gT tk))))))
def AK.fY{bs:L (Nat×L AV)}{ts:L (Nat×Nat)}{us:L Nat}(bx:L (Nat×Nat))(tk:L (Nat×(Nat×Option Nat))){env':Env}{bs':L (Nat×L AV)}{ts':L (Nat×Nat)}{us':L Nat}
  (O:XW ⟨λk=>aq k bx,λk=>aq k tk⟩ ts env env')(U:JQ ⟨λk=>aq k bx,λk=>aq k tk⟩ ts bs bs')(Y:XX bx tk ts ts' us'=true)
  (h:AK P X f n β R K env' ⟨bs',ts',us'⟩):AK P X f n β R K env ⟨bs,ts,us⟩:=by
 obtain⟨V,Y⟩:=eo Y;obtain⟨T,Y⟩:=eo Y;obtain⟨Q,Y⟩:=eo Y;obtain⟨c4,Y⟩:=eo Y;obtain⟨S,B⟩:=eo Y;rw[mN]at S B;intro g w a cs u;obtain⟨h1,h2⟩:=u.inv.fY ⟨λk=>aq k bx,λk=>aq k tk⟩ ⟨bs',ts',us'⟩ (λk cells e=>vh U k cells e) (λk k' W E N=>oI V (dW E) (dW N))
  (λk m e=>Dq Q k m e) (λk k' m I W E N=>vX T (dW E) (dW N)) (λk e=>by
   rcases e with e|e
   exact vg S k (pN e)
   exact vg B k (pN e))
 refine h _ w a cs ⟨h1,u.uX,?_,u.frame.trans (h2 ?_),u.size,u.defers⟩;intro t x e;obtain⟨b,E,N⟩:=JR O t x e;exact(tC (qu u.inv) N (u.env t b E)).1;intro k A e;cases Y:aq k bs' with
 |none=>exact absurd Y e
 |some c =>
  obtain⟨W,J,q1,M,_⟩:=vh U k c Y;have:=zB c4 k W A q1;simp_all
end
end Go.cw
namespace Go.cw
section
variable {P : Program}{X : Ctx}{f : FuncId}{n : Nat}{β : kz}{R : Ending -> World -> Prop}{K : L Item}{env : Env}{σ : St}
def AK.CL{c:Operand}{x y:Code}{b:Bool}(Y:aG X env c=some (.c (.bool b)))(U:b=true)(h:AK P X f n β R (.code x::K) env σ) :
  AK P X f n β R (.code (.cond c x y)::K) env σ:=by subst U;exact AK.ab7 Y h
def AK.CM{c:Operand}{x y:Code}{b:Bool}(Y:aG X env c=some (.c (.bool b)))(U:b=false)(h:AK P X f n β R (.code y::K) env σ) :
  AK P X f n β R (.code (.cond c x y)::K) env σ:=by subst U;exact AK.ab8 Y h
end
def A0{α:Type}:∀{n:Nat}{l:List α},n<=l.length->takeN n l=some (l.take n)
 |0,l,_=>by simp[takeN]
 |n+1,[],h=>by simp at h
 |n+1,x::l,h=>by simp[takeN,A0 (l:=l) (n:=n) oe]
def A1{α:Type}:∀{n:Nat}{l:List α},n<=l.length->dV n l=some (l.drop n)
 |0,l,_=>by simp[dV]
 |n+1,[],h=>by simp at h
 |n+1,x::l,h=>by simp[dV,A1 (l:=l) (n:=n) oe]
abbrev cO(l:L UInt8):L CV:=l.map λb => .int .u8 b.toNat
def byteOf(z:Int):UInt8:=UInt8.ofNat (z%256).toNat
def pG(z:Int):((byteOf z).toNat:Int)=IntKind.u8.wrap z:=by unfold byteOf;simp[IntKind.wrap,IntKind.bits,IntKind.signed];omega
def Ag(z:Int):[CV.int .u8 (IntKind.u8.wrap z)]=cO [byteOf z]:=by simp[cO,pG]
section
variable {P : Program}{X : Ctx}
def bN.val{o:Oper}{env:Env}{σ:St}{v:AV} (h:∀(M:Env)(w:World)(g:Gh)(a:Act),(∀x∈o.op.operands.toList,aG X M x=aG X env x)->(∀b o v,g.G b o=some v->w.cell? ⟨b,o,none⟩=some v) ->
  qJ X g.G->wN g M a.tmps->∃u,(execOp a.eval o).run P w = .ok (.value u) w/\aP g v u):bN P X o env σ v (λσ=>σ) ⟨[],[]⟩:=by
 intro M N w g a next Q h1 h2 H I O Y;obtain⟨u,W,V⟩:=h M w g a h1 H.qK I O;unfold Oper.wp;rw[W,Oper.upon_value];exact Y u w g V H (iS.refl _ _ _) (Gh.le.refl _)
def bN.concat(hX:cB P X){o:Oper}{env:Env}{σ:St}{t yt:TypeId}{x y:Operand}(ho:o.op = .binOp .add t x y yt){a b:L UInt8}(hx:aG X env x=some (.c (.str a)))(hy:aG X env y=some (.c (.str b)))
  (hl:a.length+b.length<=9223372036854775807):bN P X o env σ (.c (.str (a++b))) (λσ=>σ) ⟨[],[]⟩:=by
 refine bN.val λde w g act h1 jl cu dr=>?_
 have hx':aG X de x=some (.c (.str a)):=by rw[h1 x mA];exact hx
 have hy':aG X de y=some (.c (.str b)):=by rw[h1 y mA];exact hy
 have rx:=cr (a:=act) dr cu hx'
 have ry:=cr (a:=act) dr cu hy'
 simp only[aP,Rel]at rx ry
 refine⟨.string ⟨(a++b).toArray⟩,?_,by simp only[aP,Rel]⟩
 obtain⟨dst,op,type,pos,after,guard⟩:=o
 subst ho
 have hsz:¬((9223372036854775807:Int)<(a.length:Int)+(b.length:Int)):=by omega
 have hj:(ByteArray.mk a.toArray)++(ByteArray.mk b.toArray)=⟨(a++b).toArray⟩:=by rfl
 simp[execOp,rx,ry,binOp,eqGuard,Op.stringOp,yb,hsz,hj]
def bN.toStr(hX:cB P X){o:Oper}{env:Env}{σ:St}{s d:TypeId}{x:Operand}(C:o.op = .convert s d x){i j k:TI}{e:Nat}(hi:X.ti s=some i)(hk:i.kind = .slice e)(he:X.ti e=some k)(Wd:k.kind = .int .u8)(hj:X.ti d=some j)(O:j.kind = .str)
  {a:AV}(hx:aG X env x=some a){q:Nat}{rows:L CV}(B:rowsOf a=some (q,rows)){l:L UInt8}(gE:rows=cO l)(hq:gO q 1 rows=true):bN P X o env σ (.c (.str l)) (λσ=>σ) ⟨[],[]⟩:=by
 refine bN.val λde w g A h1 jl cu dr=>?_;have M:aG X de x=some a:=by rw[h1 x (by rw[C];simp[Op.operands])];exact hx
 have rx:=cr (a:=A) dr cu M;obtain⟨d1,_,jz,W⟩:=hX.run_underlying (w:=w) hi;rw[hk]at jz;subst jz;obtain⟨d2,_,T,V⟩:=hX.run_underlying (w:=w) he;rw[Wd]at T;subst T;obtain⟨d3,_,Q,U⟩:=hX.run_underlying (w:=w) hj;rw[O]at Q;subst Q;have H:∃base Y N,A.eval x = .slice base Y N/\Y=rows.length/\mh g.G q base rows:=by unfold rowsOf at B;split at B<;>simp at B;obtain⟨rfl,rfl⟩:=B;obtain⟨base,Y,N,e1,e2,e3,e4,_⟩:=rx;grind;obtain⟨rfl,rfl⟩:=B;obtain⟨base,Y,N,e1,e2,e3,e4⟩:=rx;exact⟨base,Y,N,e1,e2,e4⟩
 obtain⟨base,Y,N,ex,S,K⟩:=H;refine⟨.string ⟨l.toArray⟩,?_,by simp only[aP,Rel]⟩;have J:(convert s d (.slice base Y N)).run P w = .ok (.string ⟨l.toArray⟩) w:=by
  subst gE;rw[aeU]at S;rcases K with I|⟨b,o',rfl,hG⟩
  ·have hl:l=[]:=(by simpa using I);subst hl;simp at S;subst S;cases base with
   |none=>rw[run_convert_bytes_string w s d e none 0 N W V U];rfl
   |some ad=>exact run_convert_bytes_back w s d e ad N [] W V U cc
  rw[S];refine run_convert_bytes_back w s d e ⟨b,o',none⟩ N l W V U λm hm=>?_;rw[Addr.add_lit];have D:(cO l)[m]?=some (.int .u8 l[m].toNat):=by simp[hm]
  obtain⟨c1,c2⟩:=hG.get m _ D;simp only[CV.cells]at c1 c2;obtain⟨⟨u,u1,u2,_⟩,_⟩:=c1;subst u2;have ZL:q=1:=by simpa using c2.symm
  subst ZL;have:=jl _ _ _ u1;rwa[Nat.mul_one]at this
 obtain⟨dst,op,type,pos,E,guard⟩:=o;subst C;simp[execOp,ex,J]
def BZ(es e:Nat):Nat->Nat->L (Nat×Nat)
 |_,0=>[]
 |k,n+1=>(k*es,e)::BZ es e (k+1) n
def JT{es e:Nat}:∀{n k i off Y:Nat},nth (BZ es e k n) i=some (off,Y)->off=(k+i)*es/\Y=e
 |0,k,i,off,Y,h=>by simp[BZ,nth]at h
 |n+1,k,0,off,Y,h=>by simp[BZ,nth]at h;exact⟨by simp[h.1],h.2.symm⟩
 |n+1,k,i+1,off,Y,h=>by simp only[BZ]at h;obtain⟨h1,h2⟩:=JT h;grind
def bN.GX(hX:cB P X){o:Oper}{env:Env}{σ:St}{t:TypeId}{parts:Array (Nat×Operand)}(ho:o.op = .build t parts){i j:TI}{n e:Nat}(hi:X.ti t=some i)(hk:i.kind = .arr n e)(hj:X.ti e=some j)
  {z r:L AV}(hz:i.zero=some (.agg z))(h:sY X (aG X env) (BZ j.size e 0 n) parts.toList z=some r):bN P X o env σ (.agg r) (λσ=>σ) ⟨[],[]⟩:=by
 refine bN.val λde w g act h1 jl cu dr=>?_
 have h':sY X (aG X de) (BZ j.size e 0 n) parts.toList z=some r:=by
  rw[yc _ _ _ (λp hp=>h1 p.2 Wb)];exact h
 obtain⟨d,jM,jz,_⟩:=hX.run_underlying (w:=w) hi
 rw[hk]at jz;subst jz
 obtain⟨zv,z1,z2,z3⟩:=hX.nj (w:=w) hi hz
 have z4:=z2 g
 obtain⟨zs,rfl,z5,z6⟩:=z4
 obtain⟨us,f1,f2,f3⟩:=Gw hX (ρ:=aG X de) (ev:=act.eval) (λx v hx=>cr dr cu hx) (λ(m:Nat)=>some (m*j.size,j.size)) (by
  intro m off ft j' e1 e2
  obtain⟨rfl,rfl⟩:=JT e1
  rw[hj]at e2;simp at e2;subst e2
  simp) (vs:=zs.toArray) h' (by simpa using z5) z6
 refine⟨.agg us,?_,by simp only[aP];exact⟨us.toList,cc,f2,f3⟩⟩
 obtain⟨dst,op,type,pos,after,guard⟩:=o
 subst ho
 have hb:(Instr.build t (parts.map λ(i,x)=>(i,act.eval x))).run P w = .ok (.agg us) w:=by
  simp only[Instr.build,Sem.run_bind,z1,Result.andThen_ok,jM,Value.cells,hX.run_sizeOf hj]
  simp_all
 simp only[execOp]
 simp_all
def bN.fy(hX:cB P X){o:Oper}{env:Env}{σ:St}{t:TypeId}{x ix:Operand}(ho:o.op = .index t x ix){i j:TI}{n e:Nat}(hi:X.ti t=some i)(hk:i.kind = .arr n e)(hj:X.ti e=some j)
  {cs rest:L AV}(hx:aG X env x=some (.agg cs)){ia:AV}(hz:aG X env ix=some ia){m:Nat}(hm:asNat ia=some m)(hmn:Nat.blt m n=true)(hd:dV (m*j.size) cs=some rest){v:AV}(hv:lO j rest=some v) :
  bN P X o env σ v (λσ=>σ) ⟨[],[]⟩:=by
 refine bN.val λde w g act h1 jl cu dr=>?_
 have hx':aG X de x=some (.agg cs):=by rw[h1 x mA];exact hx
 have Ih:aG X de ix=some ia:=by rw[h1 ix mA];exact hz
 have rx:=cr (a:=act) dr cu hx'
 have rz:=cr (a:=act) dr cu Ih
 obtain⟨vs,ex,r1,r2⟩:=rx
 obtain⟨k,rz⟩:=zm hm rz
 obtain⟨d,jM,jz,_⟩:=hX.run_underlying (w:=w) hi
 rw[hk]at jz;subst jz
 obtain⟨u,u1,u2⟩:=Gx (P:=P) (w:=w) (vs:=vs.toArray) hX hj (.inl ⟨cs,rest,by simpa using r1,r2,hd,hv⟩)
 refine⟨u,?_,u2⟩
 have hlt:m<n:=by simpa using hmn
 obtain⟨dst,op,type,pos,after,guard⟩:=o
 subst ho
 simp[execOp,ex,rz,Instr.index,asIntOf,jM,hlt,hX.run_sizeOf hj,u1]
end
section
variable {P : Program}{X : Ctx}{ops : Array Oper}{o : Oper}{rest : L Oper}{env : Env}{acc : L Fp}{Q : Env -> St -> L Fp -> Prop}{σ : St}
def ah.ae6(hX:cB P X)(kn:L Nat)(C:simple o.op=true){acc:L Fp}{Y:L Oper}{env':Env}{W:L Fp}
  (h:Jr X ops.toList σ.boxes kn 0 (o::rest) env acc = .at Y env' W)(k:ah P X ops Y env' σ W Q):ah P X ops (o::rest) env σ acc Q:=ah.Qi hX 0 kn h k
def ah.qG{j d:Nat}{Y b:Bool}(G:o.guard=some (j,Y))(C:si ops j=some d)(U:aq d env=some (.c (.bool b)))(A:b=true)
  (h1:b=true->ah P X ops (o::rest) env σ acc Q):ah P X ops (o::rest) env σ acc Q:=h1 A
def ah.qH{j d:Nat}{Y b:Bool}(G:o.guard=some (j,Y))(C:si ops j=some d)(U:aq d env=some (.c (.bool b)))(A:b=false)
  (h1:b=false->ah P X ops (o::rest) env σ acc Q):ah P X ops (o::rest) env σ acc Q:=h1 A
def ah.concat(hX:cB P X)(kn:L Nat)(hg:cY ops.toList kn env o=some true){t yt:TypeId}{x y:Operand}(ho:o.op = .binOp .add t x y yt){d:Nat}(hd:o.dst=some d){a b:L UInt8}
  (hx:aG X env x=some (.c (.str a)))(hy:aG X env y=some (.c (.str b)))(hl:a.length+b.length<=9223372036854775807)
  (k:ah P X ops rest ((d,.c (.str (a++b)))::env) σ (⟨[],[]⟩::acc) Q):ah P X ops (o::rest) env σ acc Q :=
 ah.step (dh hg) (bN.concat hX ho hx hy hl) (iJ.id _) C1
def ah.toStr(hX:cB P X)(kn:L Nat)(G:cY ops.toList kn env o=some true){s t:TypeId}{x:Operand}(T:o.op = .convert s t x){d:Nat}(I:o.dst=some d){i j k:TI}{e:Nat}(U:X.ti s=some i)(A:i.kind = .slice e)(O:X.ti e=some k)(W:k.kind = .int .u8)
  (V:X.ti t=some j)(Y:j.kind = .str){a:AV}(D:aG X env x=some a){q:Nat}{rows:L CV}(B:rowsOf a=some (q,rows)){l:L UInt8}(S:rows=cO l)(hq:gO q 1 rows=true)
  (k:ah P X ops rest ((d,.c (.str l))::env) σ (⟨[],[]⟩::acc) Q):ah P X ops (o::rest) env σ acc Q :=
 ah.step (dh G) (bN.toStr hX T U A O W V Y D B S hq) (iJ.id _) u6
def ah.GX(hX:cB P X)(kn:L Nat)(G:cY ops.toList kn env o=some true){t:TypeId}{A:Array (Nat×Operand)}(T:o.op = .build t A){d:Nat}(I:o.dst=some d){i j:TI}{n e:Nat}(U:X.ti t=some i)(Y:i.kind = .arr n e)(W:X.ti e=some j)
  {z r:L AV}(V:i.zero=some (.agg z))(h:sY X (aG X env) (BZ j.size e 0 n) A.toList z=some r)
  (k:ah P X ops rest ((d,.agg r)::env) σ (⟨[],[]⟩::acc) Q):ah P X ops (o::rest) env σ acc Q :=
 ah.step (dh G) (bN.GX hX T U Y W V h) (iJ.id _) u6
def ah.fy(hX:cB P X)(kn:L Nat)(G:cY ops.toList kn env o=some true){t:TypeId}{x V:Operand}(T:o.op = .index t x V){d:Nat}(I:o.dst=some d){i j:TI}{n e:Nat}(S:X.ti t=some i)(A:i.kind = .arr n e)(O:X.ti e=some j)
  {cs Y:L AV}(D:aG X env x=some (.agg cs)){U:AV}(N:aG X env V=some U){m:Nat}(q:asNat U=some m)(W:Nat.blt m n=true)(M:dV (m*j.size) cs=some Y){v:AV}(K:lO j Y=some v)
  (k:ah P X ops rest ((d,v)::env) σ (⟨[],[]⟩::acc) Q):ah P X ops (o::rest) env σ acc Q :=
 ah.step (dh G) (bN.fy hX T S A O D N q W M K) (iJ.id _) u6
def ah.nh(hX:cB P X)(kn:L Nat)(G:cY ops.toList kn env o=some true){t:TypeId}{x V:Operand}(T:o.op = .index t x V){d:Nat}(I:o.dst=some d){i:TI}(U:X.ti t=some i)(A:i.kind = .str)
  {s:L UInt8}(D:aG X env x=some (.c (.str s))){k:IntKind}{z:Int}(Y:aG X env V=some (.c (.int k z))){m:Nat}(W:z=m){b:UInt8}(S:s[m]?=some b)
  (k:ah P X ops rest ((d,.c (.int .u8 b.toNat))::env) σ (⟨[],[]⟩::acc) Q):ah P X ops (o::rest) env σ acc Q:=by
 subst W;refine ah.look hX kn G I ?_ (by rw[T];rfl) k;rw[T];have O:∀q:IntKind,asNat (.c (.int q (m:Int)))=some m:=λ_=>rfl;simp only[gv,U,D,Y,O,A,tY,S]
def ah.GY(hX:cB P X)(kn:L Nat)(hg:cY ops.toList kn env o=some true){t:TypeId}{x:Operand}{lo hi':Option Operand}(ho:o.op = .slice t x lo hi' none){d:Nat}(hd:o.dst=some d){i:TI}(hi:X.ti t=some i)(hk:i.kind = .str)
  {s:L UInt8}(hx:aG X env x=some (.c (.str s))){l h:Option Nat}(hl:bound (aG X env) lo=some l)(hh:bound (aG X env) hi'=some h)(h1:h.getD s.length<=s.length)(h2:l.getD 0<=h.getD s.length)
  (k:ah P X ops rest ((d,.c (.str ((s.take (h.getD s.length)).drop (l.getD 0))))::env) σ (⟨[],[]⟩::acc) Q):ah P X ops (o::rest) env σ acc Q:=by
 refine ah.look hX kn hg hd ?_ (by rw[ho];rfl) k
 rw[ho]
 have hb:bound (aG X env) none=some none:=rfl
 simp only[gv,hi,hx,hl,hh,hb,hk,Gt]
 cases h with
 |none =>
  cases l with
  |none=>simp
  |some l=>simp at h2 ⊢;simp[A1 h2]
 |some h =>
  simp at h1 h2 ⊢
  cases l with
  |none=>simp[A0 h1]
  |some l =>
   simp at h2
   simp[A0 h1,A1 (l:=s.take h) (n:=l) ob]
end
end Go.cw
namespace Go.cw
abbrev ak(rows:L CV):L AV:=(bz rows).map AV.c
def Tg{w : World}{g : Gh}{σ : St}(h : Inv w g σ) : Inv w.drew g σ /\ iS w g σ w.drew g σ :=
  ⟨⟨h.qK, λk cs e => by
      obtain ⟨b, Y, W, H, V⟩ := h.box k cs e;exact ⟨b, Y, W, H, cx.of_same (w := w) (w' := w.drew) (λo => ⟨Z, Z⟩) V⟩,
    h.gr, h.tok, h.iF, h.used, h.room⟩,
   ⟨Z, Z, Z, aaV _, λ_ _ _ => Z, λ_ _ _ _ => ⟨Z, Z⟩, kE.le.refl _, λ_ _ _ h => .inl h, λk cs b h1 h2 => .inr ⟨k, cs, h1, h2⟩,
    λk n b J U h1 h2 => .inr ⟨k, n, J, U, h1, h2, aaV _, aaV _⟩, λ_ _ h => ⟨h, Z, Z⟩⟩⟩
def qZ{g:Gh}:∀{cs:L CV}{vs:L Value},b9 g.G cs vs->bW g (cs.map AV.c) vs
 |[],vs,h=>by simp only[b9]at h;subst h;simp[bW]
 |c::cs,vs,h=>by
  obtain⟨u,us,rfl,h1,h2⟩:=h
  exact⟨u,us,Z,acm,qZ h2⟩
def vi:∀(cs:L CV),(cs.map AV.c).all AV.one=cs.all CV.one
 |[]=>rfl
 |c::cs=>by simp only[aeX,afQ,vi cs,AV.one]
section
variable {P : Program}{X : Ctx}
def Aa(w:World)(s:Nat)(base:Option Addr)(N:Nat):(Builtin.firstCells s 0 (.slice base 0 N)).run P w = .ok #[] w:=by
 cases base with
 |none=>simp[Builtin.firstCells]
 |some a=>exact run_firstCells_some w s 0 a 0 N [] cc (by intro j v h;simp at h)
set_option maxHeartbeats 1600000 in
def bN.sV(hX:cB P X){o:Oper}{env:Env}{σ:St}{args:Array Operand}{ats:Array TypeId}(ho:o.op = .call {callee := .builtin .append,args:=args,argTypes:=ats})
  {xs y:Operand}(hargs:args.toList=[xs,y]){t t1:Nat}(Dh:ats.toList=[t,t1]){d:Nat}(jM:d<1000000)
  {i j i1:TI}{e:Nat}(hi:X.ti t=some i)(hk:i.kind = .slice e)(hj:X.ti e=some j){za:AV}(hz:j.zero=some za)(hi1:X.ti t1=some i1)(sW:mM i1.kind=true)
  {s:Nat}{rows:L CV}(ha:aG X env xs=some (.own .exact s rows)){b:AV}(hb:aG X env y=some b){s1:Nat}{bV:L CV}(hsrc:oH b=some (s1,bV))
  (hs:gO s j.size rows=true)(uo:gO s1 j.size bV=true)(hne:bV≠[])(hu:mem d σ.used=false)(hby:Nat.ble 1 j.bytes=true)(hbound:(rows.length+bV.length)*j.bytes<=140737488355328) :
  bN P X o env σ (.gY d 0 j.size (rows++bV).length) (λσ=>σ.eM d (ak (rows++bV))) ⟨[],[d]⟩:=by
 intro de σ1 w g act next Q h1 h2 hinv cu dr hnext
 have sD:∀x∈args.toList,x∈o.op.operands.toList:=by
  intro x hx
  rw[ho];simp only[Op.operands,Call.operands,afG,aeK];exact .inr hx
 have zY:aG X de xs=some (.own .exact s rows):=by rw[h1 xs (sD xs adB)];exact ha
 have hb':aG X de y=some b:=by rw[h1 y (sD y adB)];exact hb
 have rA:=cr (a:=act) dr cu zY
 have rB:=cr (a:=act) dr cu hb'
 simp only[aP]at rA
 obtain⟨base,len,cap,ex,hlen,hcap,gE,hown⟩:=rA
 obtain⟨_,n5⟩:=sC (P:=P) (w:=w) hinv.qK hsrc uo rB
 obtain⟨⟨news',n1',n2',n3',n4'⟩,_⟩:=sC (P:=P) (w:=w.drew) (λb o v h=>by rw[World.cell?_drew];exact hinv.qK b o v h) hsrc uo rB
 obtain⟨olds,m1,m2,m3,m4⟩:=zp (P:=P) (w:=w.drew) (g:=g) (λb o v h=>by rw[World.cell?_drew];exact hinv.qK b o v h) gE hs len cap hlen
 obtain⟨dt,_,BT,ID⟩:=hX.run_underlying (w:=w) hi
 rw[hk]at BT;simp only[jA]at BT;subst BT
 obtain⟨d1,EO,JU⟩:=BR hX hi1 adD w
 obtain⟨inf,ZJ,Q4,if3,if4,_,if6⟩:=hX.ti e j hj
 obtain⟨z,z1,_,z3⟩:=if4 za hz
 have UT:news'.length=bV.length*j.size:=by rw[<- (b9.get n1').1,dz n2']
 have UH:olds.length=rows.length*j.size:=by rw[<- (b9.get m1).1,dz m2]
 have AT:args = #[xs,y]:=by cases args;simp_all
 have GK:ats = #[t,t1]:=by cases ats;simp_all
 have XT:=aeP hby
 have hsmall:rows.length+bV.length<=140737488355328:=afC (ahX _ XT) hbound
 have hpos:0<bV.length:=List.length_pos_iff.2 hne
 simp only[Ah]at hown
 have XU:∀(v:Value)(w':World),(Builtin.append_ #[t,t1] o.type #[.slice base len cap,act.eval y]).run P w = .ok v w'->(execOp act.eval o).run P w = .ok (.value v) w':=by
  intro v w' hr
  obtain⟨dst,op,type,pos,after,guard⟩:=o
  simp only at ho hr;subst ho
  subst AT GK
  simp[execOp,resolve,invoke,builtin,ex,hr,Result.andThen]
 unfold Oper.wp
 have hg:cap<len+bV.length:=by omega
 have hbd:(len+bV.length)*inf.bytes<=140737488355328:=by rw[if3,hlen];exact hbound
 rw[XU _ _ (pM ID EO JU ZJ z1 n5 (by rw[Q4];exact n4') (by rw[Q4];exact m4) hg ai hbd)]
 rw[Oper.upon_value]
 have hge:=grownCap_ge w (len+bV.length) cap e
 generalize grownCap w (len+bV.length) cap e=nc at hge ⊢
 have wY:(olds.toArray++news'.toArray++Builtin.zeroCells z.cells (nc-(len+bV.length))).size=nc*j.size:=by
  simp only[agK,agf,size_zeroCells,UH,UT,z3,<- hlen,<- agX]
  congr 1;omega
 have XY:d ∉ σ1.used:=λh=>cT hu ((h2 d (.inr cc)).2.2.1 h)
 obtain⟨e1,e2⟩:=Tg hinv
 have gZ:b9 g.G (bz (rows++bV)) (olds++news'):=by rw[dP];exact fO m1 n1'
 have hfl:(bz (rows++bV)).length=(olds++news').length:=(b9.get gZ).1
 have hrc:bW g (ak (rows++bV)) ((olds.toArray++news'.toArray++Builtin.zeroCells z.cells (nc-(len+bV.length))).toList.take (ak (rows++bV)).length):=by
  rw[aeU,hfl]
  simp only[afG]
  rw[List.take_left']
  ·exact qZ gZ
  ·simp
 have hone:(ak (rows++bV)).all AV.one=true:=by
  rw[vi,dP,agV,m3,n3'];rfl
 obtain⟨i1,i2,i3,i4⟩:=Li (t:=e) e1 XY jM hrc hone
 refine hnext _ _ _ ?_ i1 (e2.trans i2) i3
 simp only[aP]
 refine⟨w.heap.size,nc,some ⟨w.heap.size,0,none⟩,cc,?_,?_,?_,.inr Z⟩
 ·simp[hlen]
 ·simp_all
 ·simp_all
end
end Go.cw
namespace Go.cw
def St.fA(σ:St)(Y:Nat):St:=⟨EM Y σ.boxes,σ.toks,σ.used⟩
def Ra{w:World}{g:Gh}{σ:St}(h:Inv w g σ)(Y:Nat):Inv w g (σ.fA Y)/\iS w g σ w g (σ.fA Y):=by
 have G:∀k cs,aq k (σ.fA Y).boxes=some cs->aq k σ.boxes=some cs:=by intro k cs e;simp only[St.fA,lA]at e;simp_all
 refine⟨⟨h.qK,λk cs e=>h.box k cs (G k cs e),λk k' cs O b e e'=>h.gr k k' cs O b (G k cs e) (G k' O e'),?_,h.iF,h.used,λk cs b e=>h.room k cs b (G k cs e)⟩,
  ⟨Z,Z,Z,aaV _,λ_ _ _=>rfl,λ_ _ _ _=>⟨Z,Z⟩,kE.le.refl _,λ_ _ _ h => .inl h,λk cs b h1 h2 => .inr ⟨k,cs,G k cs h1,h2⟩,
   λk n b J U h1 h2 => .inr ⟨k,n,J,U,h1,h2,aaV _,aaV _⟩,λk _ e=>?_⟩⟩
 intro k n e;obtain⟨T,h1,h2⟩:=h.tok k n e;refine⟨T,h1,λb J U B=>?_⟩;simp_all;cases I:aq k (σ.fA Y).boxes with
 |none=>exact absurd I e
 |some cs=>exact⟨by rw[G k cs I];simp,Z,Z⟩
def aaU{w w':World}{g:Gh}{σ:St}{key d b:Nat}{cells cells':L AV}(hinv:Inv w g σ)(hk:aq key σ.boxes=some cells)(hb:g.box key=some b)(hd:d ∉ σ.used)(adx:d<1000000)
  (r2:w'.heap.size=w.heap.size/\w'.os=w.os/\w'.tape=w.tape/\w'.output=w.output/\∀b',b'≠b->w'.heap[b']?=w.heap[b']?)
  (r3:∀b' o',b'≠b->w'.cell? ⟨b',o',none⟩=w.cell? ⟨b',o',none⟩)(r4:∀b' o',w'.frozen? ⟨b',o',none⟩=w.frozen? ⟨b',o',none⟩)
  (hc:cx w' g b 0 cells')(hr:∀o,o<g.room key->∃u,w'.cell? ⟨b,o,none⟩=some u) :
  let g':Gh:=⟨g.G,λk=>if k=d then some b else g.box k,g.tok,λk=>if k=d then g.room key else g.room k⟩
  let σ':St:=(σ.eM d cells').fA key
  Inv w' g' σ'/\iS w g σ w' g' σ'/\g.le g':=by
 intro g' σ'
 obtain⟨b0,hb0,afv,hbG,hbc⟩:=hinv.box key cells hk
 rw[hb]at hb0;cases hb0
 have hbn:g.box d=none:=by
  cases h:g.box d with
  |none=>rfl
  |some x=>exact absurd (hinv.used d (.inl ta)) hd
 have hkd:key≠d:=by rintro rfl;rw[hb]at hbn;simp at hbn
 have hle:g.le g':=by
  refine⟨kE.le.refl _,λk x h=>?_,λk x h=>?_,λk hw gQ h=>⟨hw,gQ,h,aaV _,λ_=>rfl⟩⟩
  ·grind
  ·grind
 have jy:∀k cs,aq k σ'.boxes=some cs->(k=d/\cs=cells')\/(k≠d/\k≠key/\aq k σ.boxes=some cs):=by
  intro k cs e
  simp only[σ',St.fA,St.eM,lA,aj]at e
  split at e
  ·simp at e
  ·grind
 have ye:∀k cs b',k≠key->aq k σ.boxes=some cs->g.box k=some b'->b'≠b:=by
  rintro k cs b' h1 h2 h3 rfl
  exact h1 (hinv.gr k key cs cells _ h2 hk h3 hb)
 refine⟨⟨?_,?_,?_,?_,hinv.iF,?_,?_⟩,⟨r2.2.1,r2.2.2.1,r2.2.2.2.1,ai,λb' hb' hno=>r2.2.2.2.2 b' (by rintro rfl;exact hno 0 (.inl ⟨key,cells,hk,hb⟩)),λb' o hb' hno=>⟨r3 b' o (by rintro rfl;exact hno (.inl ⟨key,cells,hk,hb⟩)),r4 b' o⟩,kE.le.refl _,λ_ _ _ h => .inl h,?_,?_,?_⟩,hle⟩
 ·intro b' o v h
  rw[r3 b' o (by rintro rfl;rw[hbG]at h;simp at h)]
  exact hinv.qK b' o v h
 ·intro k cs e
  rcases jy k cs e with ⟨rfl,rfl⟩|⟨h1,h2,h3⟩
  ·exact⟨b,ad5,ai,hbG,hc.mono hle⟩
  ·obtain⟨b',f1,f2,f3,f4⟩:=hinv.box k cs h3
   have Da:=ye k cs b' h2 h3 f1
   exact⟨b',by simp[g',h1,f1],ai,f3,(cx.of_same (λo=>⟨r3 b' o Da,r4 b' o⟩) f4).mono hle⟩
 ·intro k k' cs cs' b' e e' e1 e2
  simp only[g']at e1 e2
  rcases jy k cs e with ⟨rfl,rfl⟩|⟨h1,h2,h3⟩
  ·grind
  ·rw[if_neg h1]at e1
   rcases jy k' cs' e' with ⟨rfl,rfl⟩|⟨z9,D2,WQ⟩
   ·grind
   ·rw[if_neg z9]at e2
    exact hinv.gr k k' cs cs' b' h3 WQ e1 e2
 ·intro k n e
  obtain⟨gQ,e1,e2⟩:=hinv.tok k n e
  refine⟨gQ,e1,λb' lo hi hr'=>?_⟩
  obtain⟨e3,e4,e5⟩:=e2 b' lo hi hr'
  have Da:b'≠b:=by rintro rfl;exact e5 key cells hk hb
  refine⟨ai,λo h1 h2=>?_,λk' cs e'=>?_⟩
  ·grind
  ·grind
 ·intro k e
  show k∈d::σ.used
  by_cases hkk:k=d
  ·simp[hkk]
  ·simp only[afp];right;apply hinv.used k;simpa[g',hkk]using e
 ·intro k cs b' e e1 o
  simp only[g']at e1 ⊢
  rcases jy k cs e with ⟨rfl,rfl⟩|⟨h1,h2,h3⟩
  ·rw[if_pos rfl]at e1;rw[if_pos rfl];simp at e1;subst e1
   exact⟨hr o,by rw[r4];exact(hinv.room key cells _ hk hb o).2⟩
  ·rw[if_neg h1]at e1;rw[if_neg h1]
   have Da:=ye k cs b' h2 h3 e1
   obtain⟨f1,f2⟩:=hinv.room k cs b' h3 e1 o
   exact⟨λho=>(f1 ho).imp λu hu=>by rw[r3 b' o Da];exact hu,by rw[r4];exact f2⟩
 ·grind
 ·exact aez
 ·intro k FA e
  cases hc0:aq k σ'.boxes with
  |none=>exact absurd hc0 e
  |some cs =>
   rcases jy k cs hc0 with ⟨rfl,rfl⟩|⟨h1,h2,h3⟩
   ·omega
   ·grind
def qv{w:World}{g:Gh}{b:Nat}:∀{cs:L CV}{tail:L AV}{o:Nat},cx w g b o (cs.map AV.c++tail)->∃vs:L Value,b9 g.G cs vs/\(∀(j:Nat) u,vs[j]?=some u->w.cell? ⟨b,o+j,none⟩=some u)/\cs.all CV.one=true
 |[],_,_,_=>⟨[],by simp[b9],λj u h=>by simp at h,Z⟩
 |c::cs,tail,o,h=>by
  obtain⟨⟨u,h1,h2,K⟩,_,h4⟩:=h;obtain⟨vs,Q,S,J⟩:=qv h4;refine⟨u::vs,by simp_all;exact⟨u,vs,Z,Rl,Q⟩,λj v Y=>?_,by simp_all;simpa only[AV.one]using K⟩;cases j with
  |zero=>simp at Y;subst Y;exact h1
  |succ j =>
   grind
def Ol(d Y:Nat)(cells:L AV)(W:d≠Y):iJ (λσ=>(σ.eM d cells).fA Y) ⟨[],[d,Y]⟩ where
 out:=λσ k A=>by simp at A;refine⟨?_,Z,?_⟩;simp only[St.fA,St.eM,lA,aj];simp_all;simp only[St.fA,St.eM];simp_all
 same:=λσ N h k A=>by obtain⟨h1,h2,K⟩:=h k (.inr A);refine⟨?_,h2,?_⟩;simp only[St.fA,St.eM,lA,aj];simp_all;simp only[St.fA,St.eM,afp,K]
section
variable {P : Program}{X : Ctx}
set_option maxHeartbeats 1600000 in
def bN.nA(hX:cB P X){o:Oper}{env:Env}{σ:St}{args:Array Operand}{ats:Array TypeId}(ho:o.op = .call {callee := .builtin .append,args:=args,argTypes:=ats})
  {xs y:Operand}(hargs:args.toList=[xs,y]){t t1:Nat}(Dh:ats.toList=[t,t1]){d:Nat}(jM:d<1000000)
  {i j i1:TI}{e:Nat}(hi:X.ti t=some i)(hk:i.kind = .slice e)(hj:X.ti e=some j){za:AV}(hz:j.zero=some za)(hi1:X.ti t1=some i1)(sW:mM i1.kind=true)
  {key n:Nat}(ha:aG X env xs=some (.gY key 0 j.size n)){cells tail:L AV}{rows:L CV}(CQ:aq key σ.boxes=some cells)(jP:cells=ak rows++tail)(hn:n=rows.length)(hfl:(bz rows).length=n*j.size)
  {b:AV}(hb:aG X env y=some b){s1:Nat}{bV:L CV}(hsrc:oH b=some (s1,bV))
  (uo:gO s1 j.size bV=true)(hu:mem d σ.used=false)(hby:Nat.ble 1 j.bytes=true)(hbound:(rows.length+bV.length)*j.bytes<=140737488355328) :
  bN P X o env σ (.gY d 0 j.size (rows++bV).length) (λσ=>(σ.eM d (ak (rows++bV))).fA key) ⟨[],[d,key]⟩:=by
 intro de σ1 w g act next Q h1 h2 hinv cu dr hnext
 have sD:∀x∈args.toList,x∈o.op.operands.toList:=by
  intro x hx
  rw[ho];simp only[Op.operands,Call.operands,afG,aeK];exact .inr hx
 have zY:aG X de xs=some (.gY key 0 j.size n):=by rw[h1 xs (sD xs adB)];exact ha
 have hb':aG X de y=some b:=by rw[h1 y (sD y adB)];exact hb
 have Lj:aq key σ1.boxes=some cells:=by rw[(h2 key (.inr cc)).1];exact CQ
 have rA:=cr (a:=act) dr cu zY
 have rB:=cr (a:=act) dr cu hb'
 simp only[aP]at rA
 obtain⟨bk,cap,oo,MJ,ex,hcap,adI,hoo⟩:=rA
 obtain⟨bk',afN,afv,hbG,hbc⟩:=hinv.box key cells Lj
 rw[MJ]at afN;cases afN
 obtain⟨⟨news,n1,n2,n3,n4⟩,n5⟩:=sC (P:=P) (w:=w) hinv.qK hsrc uo rB
 obtain⟨⟨news',n1',n2',n3',n4'⟩,_⟩:=sC (P:=P) (w:=w.drew) (λb o v h=>by rw[World.cell?_drew];exact hinv.qK b o v h) hsrc uo rB
 have afO:=hbc
 rw[jP]at afO
 obtain⟨olds,m1,mv,m3⟩:=qv afO
 obtain⟨dt,_,BT,ID⟩:=hX.run_underlying (w:=w) hi
 rw[hk]at BT;simp only[jA]at BT;subst BT
 obtain⟨d1,EO,JU⟩:=BR hX hi1 adD w
 obtain⟨inf,ZJ,Q4,if3,if4,_,if6⟩:=hX.ti e j hj
 obtain⟨z,z1,_,z3⟩:=if4 za hz
 have Td:news.length=bV.length*j.size:=by rw[<- (b9.get n1).1,dz n2]
 have UT:news'.length=bV.length*j.size:=by rw[<- (b9.get n1').1,dz n2']
 have UH:olds.length=n*j.size:=by rw[<- (b9.get m1).1,hfl]
 have m4:(Builtin.firstCells j.size n (.slice oo n cap)).run P w.drew = .ok olds.toArray w.drew:=by
  rcases hoo with h0|rfl
  ·have h00:n=0:=by omega
   have:olds.length=0:=by rw[UH,h00];simp
   rw[List.length_eq_zero_iff.1 this,h00]
   exact Aa w.drew _ _ _
  ·refine run_firstCells_some w.drew j.size n _ n cap olds UH ?_
   intro q v hq;rw[Addr.add_lit,World.cell?_drew]
   exact mv q v hq
 have AT:args = #[xs,y]:=by cases args;simp_all
 have GK:ats = #[t,t1]:=by cases ats;simp_all
 have XT:=aeP hby
 have hsmall:rows.length+bV.length<=140737488355328:=afC (ahX _ XT) hbound
 have XY:d ∉ σ1.used:=λh=>cT hu ((h2 d (.inr cc)).2.2.1 h)
 have hdk:key≠d:=by
  rintro rfl
  exact XY (hinv.used key (.inl (by rw[MJ];simp)))
 have hone:(ak (rows++bV)).all AV.one=true:=by
  rw[vi,dP,agV,m3,n3'];rfl
 have XU:∀(v:Value)(w':World),(Builtin.append_ #[t,t1] o.type #[.slice oo n cap,act.eval y]).run P w = .ok v w'->(execOp act.eval o).run P w = .ok (.value v) w':=by
  intro v w' hr
  obtain⟨dst,op,type,pos,after,guard⟩:=o
  simp only at ho hr;subst ho
  subst AT GK
  simp[execOp,resolve,invoke,builtin,ex,hr,Result.andThen]
 unfold Oper.wp
 by_cases hroom:n+bV.length<=cap
 ·have hmul:n*j.size+news.length<=cap*j.size:=by
   rw[Td,<- agX];exact agT _ hroom
  obtain⟨w',r1,r2,r3,r4,r5⟩:=oF (P:=P) (w:=w) bk news (n*j.size) 0 w (og n1 n3) (by
   intro q hq
   simp only[agb]
   exact hinv.ab4 key cells bk Lj MJ (n*j.size+q) ai)
  simp only[agb]at r3 r5
  rw[XU _ w' (mL (w':=w') ID EO JU ZJ n5 aeh hroom (by
   rcases hoo with h0|rfl
   ·have:news.length=0:=by rw[Td,show bV.length=0 from by omega];simp
    rw[List.length_eq_zero_iff.1 this]at r1 ⊢
    cases oo
    ·simpa[storeCells,eq_comm]using r1
    ·simpa[storeCells]using r1
   ·simp only[Addr.add_lit,Q4]
    rw[aeS];exact r1))]
  rw[Oper.upon_value]
  have gZ:b9 g.G (bz (rows++bV)) (olds++news):=by rw[dP];exact fO m1 n1
  have hcw:cx w' g bk 0 (ak (rows++bV)):=by
   apply cx.lG
   intro q c hq
   obtain⟨l1,l2⟩:=bW.get (qZ gZ)
   obtain⟨u,e1,e2⟩:=l2 q c hq
   rw[aha]at hone
   simp only[aeS]
   refine⟨⟨u,?_,e2,hone c (abz hq)⟩,?_⟩
   ·by_cases hql:q<olds.length
    ·rw[ahQ hql]at e1
     rw[r3 bk q (by right;left;omega)]
     have:=mv q u e1
     rwa[aeS]at this
    ·rw[ahc ai]at e1
     have:=r5 (q-olds.length) u e1
     rwa[show n*j.size+(q-olds.length)=q from by omega]at this
   ·rw[r4]
    have aip:q<(olds++news).length:=(List.getElem?_eq_some_iff.1 e1).1
    rw[aaZ]at aip
    exact(hinv.room key cells bk Lj MJ q).2
  obtain⟨i1,i2,i3⟩:=aaU hinv Lj MJ XY jM r2 (λb' o' h=>r3 b' o' (.inl h)) r4 hcw (by
   intro q hq
   obtain⟨⟨u,q1⟩,_⟩:=hinv.ab4 key cells bk Lj MJ q hq
   by_cases hin:n*j.size<=q/\q<n*j.size+news.length
   ·obtain⟨v,hv⟩:∃v,news[q-n*j.size]?=some v:=⟨_,aeL ai⟩
    have:=r5 _ v hv
    rw[show n*j.size+(q-n*j.size)=q from by omega]at this
    exact⟨v,this⟩
   ·exact⟨u,by rw[r3 bk q (by right;omega)];exact q1⟩)
  refine hnext _ _ _ ?_ i1 i2 i3
  simp only[aP]
  refine⟨bk,cap,oo,cc,?_,?_,?_,hoo⟩
  ·simp[hn]
  ·simp only[aaZ];omega
  ·simp only[if_pos];exact adI
 ·have hg:cap<n+bV.length:=by omega
  have hbd:(n+bV.length)*inf.bytes<=140737488355328:=by rw[if3,hn];exact hbound
  rw[XU _ _ (pM ID EO JU ZJ z1 n5 (by rw[Q4];exact n4') (by rw[Q4];exact m4) hg ai hbd)]
  rw[Oper.upon_value]
  have hge:=grownCap_ge w (n+bV.length) cap e
  generalize grownCap w (n+bV.length) cap e=nc at hge ⊢
  have wY:(olds.toArray++news'.toArray++Builtin.zeroCells z.cells (nc-(n+bV.length))).size=nc*j.size:=by
   simp only[agK,agf,size_zeroCells,UH,UT,z3,<- agX]
   congr 1;omega
  obtain⟨e1,e2⟩:=Tg hinv
  have gZ:b9 g.G (bz (rows++bV)) (olds++news'):=by rw[dP];exact fO m1 n1'
  have aiq:(bz (rows++bV)).length=(olds++news').length:=(b9.get gZ).1
  have hrc:bW g (ak (rows++bV)) ((olds.toArray++news'.toArray++Builtin.zeroCells z.cells (nc-(n+bV.length))).toList.take (ak (rows++bV)).length):=by
   rw[aeU,aiq]
   simp only[afG]
   rw[List.take_left']
   ·exact qZ gZ
   ·simp
  obtain⟨i1,i2,i3,i4⟩:=Li (t:=e) e1 XY jM hrc hone
  obtain⟨i5,i6⟩:=Ra i1 key
  refine hnext _ _ _ ?_ i5 ((e2.trans i2).trans i6) i3
  simp only[aP]
  refine⟨w.heap.size,nc,some ⟨w.heap.size,0,none⟩,cc,?_,?_,?_,.inr Z⟩
  ·simp[hn]
  ·simp only[aaZ];omega
  ·simp only[if_pos,wY];omega
end
end Go.cw
namespace Go.cw
section
variable {P : Program}{X : Ctx}
def bN.jU(hX:cB P X){o:Oper}{env:Env}{σ:St}{t:TypeId}{x ix:Operand}(ho:o.op = .indexAddr t x ix){i j:TI}{e:Nat}(hi:X.ti t=some i)(hk:i.kind = .slice e)(hj:X.ti e=some j)
  {key off s n:Nat}(ha:aG X env x=some (.gY key off s n))(hs:j.size=s){k:IntKind}{z:Int}(hz:aG X env ix=some (.c (.int k z))){m:Nat}(hm:z=m)(hlt:m<n) :
  bN P X o env σ (.ptr key (off+m*s)) (λσ=>σ) ⟨[],[]⟩:=by
 refine bN.val λde w g act h1 jl cu dr=>?_
 have zY:aG X de x=some (.gY key off s n):=by rw[h1 x mA];exact ha
 have Ih:aG X de ix=some (.c (.int k z)):=by rw[h1 ix mA];exact hz
 have r1:=cr (a:=act) dr cu zY
 obtain⟨b,cap,oo,MJ,e1,hcap,_,hoo⟩:=r1
 have e4:=xO (cr (a:=act) dr cu Ih)
 obtain⟨d,jM,jz,_⟩:=hX.run_underlying (w:=w) hi
 rw[hk]at jz;subst jz
 have hoff:oo=some ⟨b,off,none⟩:=by rcases hoo with h|h;omega;exact h
 subst hoff
 refine⟨.pointer (some ⟨b,off+m*j.size,none⟩),?_,by simp only[aP];exact⟨b,MJ,by rw[hs]⟩⟩
 obtain⟨dst,op,type,pos,after,guard⟩:=o
 subst ho
 simp[execOp,e1,e4,hm,Instr.indexAt,asIntOf,jM,hlt,hX.run_sizeOf hj,Addr.add_lit]
def bN.sliceB(hX:cB P X){o:Oper}{env:Env}{σ:St}{t:TypeId}{x:Operand}{lo hi':Option Operand}(ho:o.op = .slice t x lo hi' none){i j:TI}{e:Nat}(hi:X.ti t=some i)(hk:i.kind = .slice e)(hj:X.ti e=some j)
  {key off s n:Nat}(ha:aG X env x=some (.gY key off s n))(hs:j.size=s){l h:Option Nat}(hl:bound (aG X env) lo=some l)(hh:bound (aG X env) hi'=some h)(h1:h.getD n<=n)(h2:l.getD 0<=h.getD n) :
  bN P X o env σ (.gY key (off+l.getD 0*s) s (h.getD n-l.getD 0)) (λσ=>σ) ⟨[],[]⟩:=by
 refine bN.val λde w g act hc jl cu dr=>?_
 have zY:aG X de x=some (.gY key off s n):=by rw[hc x mA];exact ha
 have hl':bound (aG X de) lo=some l:=by
  rw[mm lo (λy hy=>hc y (by rw[ho];subst hy;simp[Op.operands]))];exact hl
 have hh':bound (aG X de) hi'=some h:=by
  rw[mm hi' (λy hy=>hc y (by rw[ho];subst hy;simp[Op.operands]))];exact hh
 have r1:=cr (a:=act) dr cu zY
 obtain⟨b,cap,oo,MJ,e1,hcap,hrm,hoo⟩:=r1
 have b1:=qo (g:=g) (ev:=act.eval) (λx v hx=>cr dr cu hx) hl'
 have b2:=qo (g:=g) (ev:=act.eval) (λx v hx=>cr dr cu hx) hh'
 have hb:∀w,(Instr.sliceBounds true n cap (lo.map act.eval) (hi'.map act.eval) none).run P w = .ok (l.getD 0,h.getD n,cap) w:=by
  intro w
  cases l with
  |none =>
   cases h with
   |none=>exact lS true b2 b1
   |some h=>exact nG true b2 b1 (afC h1 hcap)
  |some l =>
   cases h with
   |none=>exact lR true b2 b1 VQ
   |some h=>exact oE true b2 b1 (afC h1 hcap) VQ
 refine⟨.slice (if cap=l.getD 0 then oo else oo.map (·.add (l.getD 0*j.size))) (h.getD n-l.getD 0) (cap-l.getD 0),?_,?_⟩
 ·obtain⟨dst,op,type,pos,after,guard⟩:=o
  subst ho
  have:=iE (w:=w) hX hi hk hj (base:=oo) hb
  simp[execOp,e1,this]
 ·simp only[aP]
  generalize l.getD 0=Ll at *
  generalize h.getD n=H at *
  have hmul:off+Ll*s+(cap-Ll)*s=off+cap*s:=by
   rw[aii,<- agX];congr 2;omega
  by_cases lM:cap=Ll
  ·grind
  ·refine⟨b,cap-Ll,oo.map (·.add (Ll*j.size)),MJ,by rw[if_neg lM],ai,ai,.inr ?_⟩
   rcases hoo with h0|h0
   ·omega
   ·rw[h0,ahK,Addr.add_lit,hs]
end
end Go.cw
namespace Go.cw
def JV{G:kE}{s:Nat}:∀{rows:L CV}{Y:L Value},jk s rows=true->b9 G rows Y->b9 G (bz rows) (flat s Y)/\(bz rows).all CV.one=true
 |[],Y,_,h=>by simp only[b9]at h;subst h;simp[bz,flat,b9]
 |r::rows,Y,hs,h=>by
  obtain⟨u,us,rfl,h1,h2⟩:=h;obtain⟨V,a2,A⟩:=tw (qb hs r cc) h1;have W:jk s rows=true:=by simp only[jk]at hs;grind
  obtain⟨Q,S⟩:=JV W h2;exact⟨by simp_all;exact fO a2 Q,by simp only[bz,agV,A,S];rfl⟩
section
variable {P : Program}{X : Ctx}{ops : Array Oper}{o : Oper}{rest : L Oper}{env : Env}{acc : L Fp}{Q : Env -> St -> L Fp -> Prop}{bs : L (Nat × L AV)}{ts : L (Nat × Nat)}{us : L Nat}{σ : St}
def ah.jU(hX:cB P X)(kn:L Nat)(hg:cY ops.toList kn env o=some true){t:TypeId}{x ix:Operand}(ho:o.op = .indexAddr t x ix){d:Nat}(hd:o.dst=some d){i j:TI}{e:Nat}(hi:X.ti t=some i)(hk:i.kind = .slice e)(hj:X.ti e=some j)
  {key off s n:Nat}(ha:aG X env x=some (.gY key off s n))(hs:j.size=s){k0:IntKind}{z:Int}(hz:aG X env ix=some (.c (.int k0 z)))(m:Nat)(hm:z=m)(hlt:m<n)
  (k:ah P X ops rest ((d,.ptr key (off+m*s))::env) σ (⟨[],[]⟩::acc) Q):ah P X ops (o::rest) env σ acc Q :=
 ah.step (dh hg) (bN.jU hX ho hi hk hj ha hs hz hm hlt) (iJ.id _) C1
def ah.sliceB(hX:cB P X)(kn:L Nat)(G:cY ops.toList kn env o=some true){t:TypeId}{x:Operand}{J U:Option Operand}(T:o.op = .slice t x J U none){d:Nat}(I:o.dst=some d){i j:TI}{e:Nat}(W:X.ti t=some i)(A:i.kind = .slice e)(V:X.ti e=some j)
  {Y off s n:Nat}(S:aG X env x=some (.gY Y off s n))(C:j.size=s){l h:Option Nat}(M:bound (aG X env) J=some l)(D:bound (aG X env) U=some h)(h1:h.getD n<=n)(h2:l.getD 0<=h.getD n)
  (k:ah P X ops rest ((d,.gY Y (off+l.getD 0*s) s (h.getD n-l.getD 0))::env) σ (⟨[],[]⟩::acc) Q):ah P X ops (o::rest) env σ acc Q :=
 ah.step (dh G) (bN.sliceB hX T W A V S C M D h1 h2) (iJ.id _) u6
def ah.dj(hX:cB P X)(kn:L Nat)(G:cY ops.toList kn env o=some true){t:TypeId}{x:Operand}(T:o.op = .load t x){d:Nat}(I:o.dst=some d){i:TI}(U:X.ti t=some i){Y off:Nat}(D:aG X env x=some (.ptr Y off))
  {cells r:L AV}(q:aq Y bs=some cells)(S:dV off cells=some r){v:AV}(N:lO i r=some v)
  (k:ah P X ops rest ((d,v)::env) ⟨bs,ts,us⟩ (⟨[Y],[]⟩::acc) Q):ah P X ops (o::rest) env ⟨bs,ts,us⟩ acc Q:=by
 have W:gv X bs (aG X env) o.op=some v:=by rw[T];simp only[gv,U,D,q,S,N]
 have:=ah.step (Q:=Q) (rest:=rest) (acc:=acc) (dh G) (bN.pure (σ:=⟨bs,ts,us⟩) hX W) (iJ.id _);rw[I,T]at this;have V:nk (aG X env) (.load t x)=[Y]:=by simp only[nk,D]
 rw[V]at this;exact this k
def ah.sV(hX:cB P X)(kn:L Nat)(G:cY ops.toList kn env o=some true){args:Array Operand}{H:Array TypeId}(I:o.op = .call {callee := .builtin .append,args:=args,argTypes:=H})
  {xs y:Operand}(W:args.toList=[xs,y]){t M:Nat}(E:H.toList=[t,M]){d:Nat}(D:o.dst=some d)(A:Nat.blt d 1000000=true)
  {i j K:TI}{e:Nat}(C:X.ti t=some i)(q:i.kind = .slice e)(hj:X.ti e=some j){za:AV}(hz:j.zero=some za)(T:X.ti M=some K)(sW:mM K.kind=true)
  {s:Nat}{rows:L CV}(ha:aG X env xs=some (.own .exact s rows)){b:AV}(hb:aG X env y=some b){J:Nat}{bV:L CV}(V:oH b=some (J,bV))
  {sz:Nat}(u:j.size=sz)(hs:gO s sz rows=true)(uo:gO J sz bV=true)(O:bV≠[])(hu:mem d us=false){U:Nat}(S:j.bytes=U)(N:Nat.ble 1 U=true)(Y:(rows.length+bV.length)*U<=140737488355328)
  {cs:L CV}(B:rows++bV=cs){m:Nat}(hm:cs.length=m)
  (k:ah P X ops rest ((d,.gY d 0 sz m)::env) ⟨(d,ak cs)::bs,ts,d::us⟩ (⟨[],[d]⟩::acc) Q):ah P X ops (o::rest) env ⟨bs,ts,us⟩ acc Q:=by
 subst u S B hm;exact ah.step (dh G) (bN.sV (σ:=⟨bs,ts,us⟩) hX I W E (Nat.blt_eq.mp A) C q hj hz T sW ha hb V hs uo O hu N Y) (sq d _) (by rw[D];exact k)
def ah.nA(hX:cB P X)(kn:L Nat)(E:cY ops.toList kn env o=some true){args:Array Operand}{H:Array TypeId}(D:o.op = .call {callee := .builtin .append,args:=args,argTypes:=H})
  {xs y:Operand}(V:args.toList=[xs,y]){t J:Nat}(C:H.toList=[t,J]){d:Nat}(A:o.dst=some d)(q:Nat.blt d 1000000=true)
  {i j I:TI}{e:Nat}(hi:X.ti t=some i)(hk:i.kind = .slice e)(hj:X.ti e=some j){za:AV}(hz:j.zero=some za)(S:X.ti J=some I)(sW:mM I.kind=true)
  {sz:Nat}(u:j.size=sz){Y n:Nat}(ha:aG X env xs=some (.gY Y 0 sz n)){cells:L AV}(CQ:aq Y bs=some cells)(rows:L CV)(tail:L AV)(jP:cells=ak rows++tail)(hn:n=rows.length)(O:(bz rows).length=n*sz)
  {b:AV}(hb:aG X env y=some b){G:Nat}{bV:L CV}(U:oH b=some (G,bV))
  (uo:gO G sz bV=true)(hu:mem d us=false)(T:Nat.beq d Y=false){N:Nat}(M:j.bytes=N)(K:Nat.ble 1 N=true)(W:(rows.length+bV.length)*N<=140737488355328)
  {cs:L CV}(B:rows++bV=cs){m:Nat}(hm:cs.length=m){bs':L (Nat×L AV)}(iU:EM Y bs=bs')
  (k:ah P X ops rest ((d,.gY d 0 sz m)::env) ⟨(d,ak cs)::bs',ts,d::us⟩ (⟨[],[d,Y]⟩::acc) Q):ah P X ops (o::rest) env ⟨bs,ts,us⟩ acc Q:=by
 subst u M B hm iU
 refine ah.step (dh E) (bN.nA (σ:=⟨bs,ts,us⟩) hX D V C (Nat.blt_eq.mp q) hi hk hj hz S sW ha CQ jP hn O hb U uo hu K W) (Ol d Y _ (beq_false T)) (by
  rw[A];have:((⟨bs,ts,us⟩:St).eM d (ak (rows++bV))).fA Y=⟨(d,ak (rows++bV))::EM Y bs,ts,d::us⟩:=by simp only[St.fA,St.eM,EM,T]
  rw[this];exact k)
end
end Go.cw
namespace Go.cw
section
variable {P : Program}{X : Ctx}
def bN.jJ(hX:cB P X){o:Oper}{env:Env}{σ:St}{t:TypeId}{Y:Nat}{A:Array (Nat×Operand)}(M:o.op = .buildSlice t Y A){d:Nat}(jM:d<1000000)(hu:mem d σ.used=false)
  {i j:TI}{e:Nat}(hi:X.ti t=some i)(hk:i.kind = .slice e)(K:X.ti e=some j){za:AV}(hz:j.zero=some za){rows:L CV}(J:jI (aG X env) 0 A.toList=some rows)
  (hl:Nat.beq rows.length Y=true)(hs:jk j.size rows=true)(hb:Nat.ble (Y*j.size) 16777216=true) :
  bN P X o env σ (.gY d 0 j.size Y) (λσ=>σ.eM d (ak rows)) ⟨[],[d]⟩:=by
 intro de I w g W next Q h1 h2 U cu dr H;have EI:jI (aG X de) 0 A.toList=some rows:=by rw[sB _ _ (λp J=>h1 p.2 (by rw[M];simp only[Op.operands,aiJ];exact⟨p,J,Z⟩))];exact J
 obtain⟨E,c2⟩:=yh (g:=g) (ev:=W.eval) (λx v D=>cr dr cu D) EI;have S:=beq_true hl;have hne:j.size≠0:=by obtain⟨_,_,_,_,_,_,hh⟩:=hX.ti e j K;exact hh
 obtain⟨dd,EO,C,_⟩:=hX.run_underlying (w:=w) hi;rw[hk]at C;simp only[jA]at C;subst C;obtain⟨z,z1,z2,z3⟩:=hX.nj (w:=w) K hz;have B:∀v∈(A.toList.map λp=>W.eval p.2),v.cells.size=j.size:=by
  intro v hv;obtain⟨m,hm⟩:=ahd hv;obtain⟨l1,l2⟩:=b9.get E;have T:m<rows.length:=by rw[l1];exact(List.getElem?_eq_some_iff.1 hm).1
  obtain⟨u,e1,e2⟩:=l2 m rows[m] (by simp[T]);rw[hm]at e1;simp at e1;subst e1;obtain⟨a1,a2,_⟩:=tw (qb hs rows[m] (ahi T)) e2;have:=(b9.get a2).1;simp at this;omega
 have G:(A.toList.map λp=>W.eval p.2).length=Y:=by rw[<- (b9.get E).1];exact S
 obtain⟨V,r1,r2,r3⟩:=Dg j.size (A.toList.map λp=>W.eval p.2) 0 ((Array.range (Y*j.size)).map (z.cells[· % z.cells.size]!)) B (by simp at G ⊢;rw[G];exact aaV _);have O:(execOp W.eval o).run P w = .ok (.value (.slice (some ⟨w.heap.size,0,none⟩) Y Y)) {w with heap:=w.heap.push (.cells V e)}:=by
  obtain⟨dst,op,type,pos,after,guard⟩:=o;simp only at M;subst M;have Da:¬(2^24<Y*j.size):=by have:=aeP hb;omega
  have Oc:∀zc:Array Value,(Array.range (Y*j.size)).map (λx=>zc[x%zc.size]!)=(Array.range (Y*j.size)).map (λx=>z.cells[x%z.cells.size]!) ->
    Instr.fill (λi=>some (i*j.size,j.size)) ((Array.range (Y*j.size)).map (λx=>zc[x%zc.size]!)) (A.map λx=>(x.1,W.eval x.2)).toList=some V:=by
   intro zc q2;rw[q2,agI];have c2':(A.toList.map λx=>(x.1,W.eval x.2))=_:=c2;rw[c2'];exact r1
  simp only[execOp,Instr.buildSlice,Sem.run_bind,EO,Result.andThen_ok,hX.run_sizeOf K];rw[if_neg (by simpa using Da)];by_cases h0:Y*j.size=0;rw[if_pos h0];simp only[Sem.run_bind,Sem.run_pure,Result.andThen_ok];rw[Oc #[] (by rw[h0];simp)];simp[newRow];rw[if_neg h0];simp only[Sem.run_bind,Sem.run_pure,Result.andThen_ok,z1];rw[Oc z.cells rfl];simp[newRow]
 unfold Oper.wp;rw[O,Oper.upon_value];have XY:d ∉ I.used:=λh=>cT hu ((h2 d (.inr cc)).2.2.1 h);obtain⟨f1,f2⟩:=JV hs E;have hfl:(flat j.size (A.toList.map λp=>W.eval p.2)).length=Y*j.size:=by
  have:∀l:L Value,(∀v∈l,v.cells.size=j.size)->(flat j.size l).length=l.length*j.size:=by
   intro l
   induction l with
   |nil=>intro _;simp[flat]
   |cons v l ih =>
    intro h;simp only[flat,aaZ,ih (λx D=>h x K0),aag,air];have:=h v cc;simp;omega
  rw[this _ B,G]
 have hsz:V.size=Y*j.size:=by rw[r2];simp
 have N:V.toList=flat j.size (A.toList.map λp=>W.eval p.2):=by apply List.ext_getElem?;intro q;have:=r3 q;simp only[Nat.zero_mul,aeS,Nat.sub_zero,aeW,true_and]at this;rw[Array.getElem?_toList,this];by_cases hq:q<(flat j.size (A.toList.map λp=>W.eval p.2)).length;rw[if_pos hq];simp_all
 obtain⟨i1,i2,i3,i4⟩:=QZ (us:=V) (t:=e) (cells:=ak rows) U XY jM (by rw[N];exact qZ f1) (by rw[vi];exact f2);refine H _ _ _ ?_ i1 i2 i3;simp only[aP];exact⟨w.heap.size,Y,some ⟨w.heap.size,0,none⟩,cc,Z,aaV _,by simp only[if_pos,hsz];omega,.inr Z⟩
end
section
variable {P : Program}{X : Ctx}{ops : Array Oper}{o : Oper}{rest : L Oper}{env : Env}{acc : L Fp}{Q : Env -> St -> L Fp -> Prop}{bs : L (Nat × L AV)}{ts : L (Nat × Nat)}{us : L Nat}
def ah.jJ(hX:cB P X)(kn:L Nat)(hg:cY ops.toList kn env o=some true){t:TypeId}{len:Nat}{parts:Array (Nat×Operand)}(ho:o.op = .buildSlice t len parts){d:Nat}(hd:o.dst=some d)(jM:Nat.blt d 1000000=true)(hu:mem d us=false)
  {i j:TI}{e:Nat}(hi:X.ti t=some i)(hk:i.kind = .slice e)(hj:X.ti e=some j){za:AV}(hz:j.zero=some za){rows:L CV}(hp:jI (aG X env) 0 parts.toList=some rows)
  (hl:Nat.beq rows.length len=true){s:Nat}(hsz:j.size=s)(hs:jk s rows=true)(hb:Nat.ble (len*s) 16777216=true)
  (k:ah P X ops rest ((d,.gY d 0 s len)::env) ⟨(d,ak rows)::bs,ts,d::us⟩ (⟨[],[d]⟩::acc) Q):ah P X ops (o::rest) env ⟨bs,ts,us⟩ acc Q:=by
 subst hsz
 exact ah.step (dh hg) (bN.jJ (σ:=⟨bs,ts,us⟩) hX ho (Nat.blt_eq.mp jM) hu hi hk hj hz hp hl hs hb) (sq d _) C1
end
end Go.cw
