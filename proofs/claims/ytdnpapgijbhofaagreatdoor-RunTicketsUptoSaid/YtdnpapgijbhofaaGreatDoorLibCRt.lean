/- A layer of abstract values over the model, part C: -/
import Derived.Test.YtdnpapgijbhofaaGreatDoorLibBRt
import Derived.Laws.AppendOwn
import Derived.Laws.IdiomStrings
set_option linter.defProp false
set_option linter.unusedSimpArgs false
set_option linter.unusedVariables false
namespace Go.cB
def bB:L CV->L CV
 |[]=>[]
 |r::rs=>r.cells++bB rs
def wM{G:ja}{b:Nat}:∀{o:Nat}{a c:L CV},cW G b o (a++c)↔cW G b o a/\cW G b (o+a.length) c
 |o,[],c=>by simp[cW]
 |o,x::a,c=>by simp only[abh,cW,wM (a:=a)];grind
def oY{G:ja}{s b:Nat}:∀{o:Nat}{rows:L CV},fE G s b o rows↔cW G b o (bB rows)/\∀r∈rows,r.cells.length=s
 |o,[]=>by simp[fE,bB,cW]
 |o,r::rs=>by simp only[fE,bB,wM,yB,oY (rows:=rs)];grind
def cV{s:Nat}:∀{rows:L CV},(∀r∈rows,r.cells.length=s)->(bB rows).length=rows.length*s
 |[],_=>by simp[bB]
 |r::rs,h=>by simp only[bB,aao,aaa,h r c9,cV (rows:=rs) (λx O=>h x (by simp[O])),acF];omega
def dg:∀(a c:L CV),bB (a++c)=bB a++bB c
 |[],c=>by simp[bB]
 |r::a,c=>by simp[bB,dg a c]
def uD{G:ja}{b:Nat}:∀{o:Nat}{cs:L CV},cW G b o cs->∃vs:L Value,bT G cs vs/\(∀(j:Nat) u,vs[j]?=some u->G b (o+j)=some u)/\cs.all CV.one=true
 |o,[],_=>⟨[],by simp[bT],c9,Z⟩
 |o,c::cs,h=>by
  obtain⟨⟨u,h1,h2,U⟩,h4⟩:=h;obtain⟨vs,Q,S,Y⟩:=uD h4;refine⟨u::vs,by simp_all;exact⟨_,_,Z,h2,Q⟩,?_,by simp[U,Y]⟩;intro j x T;cases j with
  |zero=>simp at T;subst T;simpa using h1
  |succ j=>simp at T;have:=S j x T;rwa[show o+(j+1)=o+1+j from by omega]
def mw{G:ja}{b:Nat}:∀{o:Nat}{cs:L CV}{vs:L Value},bT G cs vs->(∀(j:Nat) u,vs[j]?=some u->G b (o+j)=some u)->cs.all CV.one=true->cW G b o cs
 |o,[],_,_,_,_=>trivial
 |o,c::cs,vs,h,O,Y=>by obtain⟨u,us,rfl,h1,h2⟩:=h;simp only[abQ,aak]at Y;refine⟨⟨u,by simpa using O 0 u c9,h1,Y.1⟩,mw h2 (λj x T=>?_) Y.2⟩;have:=O (j+1) x aaE;grind
def me{G:ja}:∀{cs:L CV}{vs:L Value},bT G cs vs->cs.all CV.one=true->∀u∈vs,u.oneCell'=true
 |[],vs,h,_,u,hu=>by simp only[bT]at h;subst h;simp at hu
 |c::cs,vs,h,ho,u,hu=>by
  obtain⟨x,us,rfl,h1,h2⟩:=h
  simp only[abQ,aak]at ho
  rcases List.mem_cons.1 hu with rfl|hu
  ·exact uv (g:=⟨G,λ_=>none,λ_=>none,λ_=>0⟩) (a := .c c) ho.1 Vz
  ·exact me h2 ho.2 u hu
def mz:AV->Option (Nat×L CV)
 |.own _ s rows=>some (s,rows)
 |.c (.sl s rows)=>some (s,rows)
 |.c (.str l)=>some (1,l.map λb => .int .u8 b.toNat)
 |_=>none
def fH(s t:Nat)(rows:L CV):Bool:=match Nat.beq s t with
 |true=>true
 |false=>match rows with
  |[]=>true
  |_=>false
def nI{s t:Nat}{rows:L CV}(h:fH s t rows=true):s=t\/rows=[]:=by unfold fH at h;split at h;simp_all;grind
def xq:∀(l:L UInt8),bB (l.map λb=>CV.int .u8 b.toNat)=l.map λb=>CV.int .u8 b.toNat
 |[]=>rfl
 |b::l=>by simp[bB,CV.cells,xq l]
section
variable {P : Program}{X : Ctx}{w : World}{g : Gh}
def Dd(G:ja):∀(l:L UInt8),bT G (l.map λb=>CV.int .u8 b.toNat) (l.map λb=>Value.int .u8 b.toNat)
 |[]=>by simp[bT]
 |b::l=>by simp;exact⟨_,_,Z,X3,Dd G l⟩
def vG{w:World}(Q:∀b o v,g.G b o=some v->w.cell? ⟨b,o,none⟩=some v){s t:Nat}{base:Option Addr}{rows:L CV}(A:jZ g.G s base rows)(C:fH s t rows=true)(B E:Nat)(V:B=rows.length) :
  ∃news:L Value,bT g.G (bB rows) news/\(∀r∈rows,r.cells.length=t)/\(bB rows).all CV.one=true/\(Builtin.firstCells t B (.slice base B E)).run P w = .ok news.toArray w:=by
 rcases A with rfl|⟨b,o,rfl,A⟩
 ·refine⟨[],by simp[bB,bT],c9,Z,?_⟩;subst V;cases base with
  |none=>simp[Builtin.firstCells]
  |some a=>exact run_firstCells_some w t 0 a 0 E [] c9 c9
 rcases nI C with rfl|rfl
 rw[oY]at A;obtain⟨vs,h1,h2,U⟩:=uD A.1;refine⟨vs,h1,A.2,U,?_⟩;refine run_firstCells_some w s B _ B E vs ?_ ?_;rw[<- (bT.get h1).1,cV A.2,V];intro j v T;rw[Addr.add_lit];exact Q _ _ _ (h2 j v T);refine⟨[],by simp[bB,bT],c9,Z,?_⟩;subst V;exact run_firstCells_some w t 0 _ 0 E [] c9 c9
def pW{w:World}(Q:∀b o v,g.G b o=some v->w.cell? ⟨b,o,none⟩=some v){a:AV}{s t:Nat}{rows:L CV}(W:mz a=some (s,rows))(C:fH s t rows=true){x:Value}(O:aP g a x) :
  (∃news:L Value,bT g.G (bB rows) news/\(∀r∈rows,r.cells.length=t)/\(bB rows).all CV.one=true/\(Builtin.firstCells t rows.length x).run P w = .ok news.toArray w)/\(Builtin.lenOf x).run P w = .ok rows.length w:=by
 unfold mz at W;split at W<;>simp at W;obtain⟨rfl,rfl⟩:=W;obtain⟨base,B,E,rfl,h1,h2,U,T⟩:=O;obtain⟨news,K,V,D,M⟩:=vG (P:=P) Q U C B E h1;exact⟨⟨news,K,V,D,by rw[<- h1];exact M⟩,by simp[Builtin.lenOf,h1]⟩;obtain⟨rfl,rfl⟩:=W;obtain⟨base,B,E,rfl,h1,h2,U⟩:=O;obtain⟨news,K,V,D,M⟩:=vG (P:=P) Q U C B E h1;exact⟨⟨news,K,V,D,by rw[<- h1];exact M⟩,by simp[Builtin.lenOf,h1]⟩;rename_i l;obtain⟨rfl,rfl⟩:=W;subst O;have Y:((l.map λb=>CV.int .u8 b.toNat).all CV.one)=true:=by simp[CV.one]
 have p:t=1\/l=[]:=by
  rcases nI C with h|h
  omega;simp_all
 refine⟨⟨l.map λb=>Value.int .u8 b.toNat,by rw[xq];exact Dd _ l,?_,by rw[xq];exact Y,?_⟩,?_⟩
 ·intro r A;rcases p with rfl|rfl
  simp at A;obtain⟨b,_,rfl⟩:=A;rfl;grind
 ·simp only[Builtin.firstCells,abB];have:(ByteArray.mk l.toArray).extract 0 l.length=⟨l.toArray⟩:=by rw[extract_mk];simp
  simp
 simp[Builtin.lenOf,ByteArray.size]
def yI(hX:cg P X){t:Nat}{i:TI}(W:X.ti t=some i)(E:(match i.kind with | .slice _ | .str=>true|_=>false)=true)(w:World) :
  ∃d,P.underlying t=some d/\(d = .string\/∃e,d = .slice e):=by
 obtain⟨d,h1,h2,U⟩:=hX.run_underlying (w:=w) W;refine⟨d,U,?_⟩;split at E;rename_i e Y;rw[Y]at h2;exact .inr ⟨e,h2⟩;rename_i Y;rw[Y]at h2;exact .inl h2;grind
def kK{t U ty e:TypeId}{T:TypeDesc}(A:P.underlying t=some (.slice e))(h1:P.underlying U=some T)(J:T = .string\/∃e,T = .slice e){i:TypeInfo}(W:P.info? e=some i)
  {base:Option Addr}{sLen sCap n:Nat}{x:Value}{news:L Value}(Y:(Builtin.lenOf x).run P w = .ok n w)(hf:(Builtin.firstCells i.size n x).run P w = .ok news.toArray w)(V:sLen+n<=sCap)
  {w':World}(M:match (motive:=Option Addr->Prop) base with|some a=>(storeCells (a.add (sLen*i.size)) news).run P w = .ok () w'|none=>w'=w) :
  (Builtin.append_ #[t,U] ty #[.slice base sLen sCap,x]).run P w = .ok (.slice base (sLen+n) sCap) w':=by
 rcases J with rfl|⟨B,rfl⟩
 all_goals
  cases base with
  |none =>
   simp only at M;subst M;simp[Builtin.append_,run_underlying A,run_underlying h1,sizeOf,typeInfo,W,Y,V,hf]
  |some a =>
   simp only at M;simp[Builtin.append_,run_underlying A,run_underlying h1,sizeOf,typeInfo,W,Y,V,hf,M]
def nq{t U ty e:TypeId}{T:TypeDesc}(A:P.underlying t=some (.slice e))(h1:P.underlying U=some T)(J:T = .string\/∃e,T = .slice e){i:TypeInfo}(E:P.info? e=some i){z:Value}(B:i.zero=some z)
  {base:Option Addr}{sLen sCap n:Nat}{x:Value}{olds news:L Value}(V:(Builtin.lenOf x).run P w = .ok n w)(hf:(Builtin.firstCells i.size n x).run P w.drew = .ok news.toArray w.drew)
  (Y:(Builtin.firstCells i.size sLen (.slice base sLen sCap)).run P w.drew = .ok olds.toArray w.drew)(Q:sCap<sLen+n)(S:sLen+n<=140737488355328)(O:(sLen+n)*i.bytes<=140737488355328) :
  (Builtin.append_ #[t,U] ty #[.slice base sLen sCap,x]).run P w =
   .ok (.slice (some ⟨w.heap.size,0,none⟩) (sLen+n) (grownCap w (sLen+n) sCap e))
    (w.drew.alloc (.cells (olds.toArray++news.toArray++Builtin.zeroCells z.cells (grownCap w (sLen+n) sCap e-(sLen+n))) e)):=by
 have q:¬(sLen+n<=sCap):=by omega
 have W:¬(9223372036854775807<((sLen:Int)+(n:Int))):=by omega
 have N:¬(281474976710656<Builtin.nextslicecap (sLen+n) sCap*i.bytes):=by have:=growslice_fits Q O;omega
 rcases J with rfl|⟨M,rfl⟩
 all_goals
  simp[Builtin.append_,run_underlying A,run_underlying h1,sizeOf,typeInfo,zeroValue,E,B,V,Question.forced,hf,Y,newRow,grownCap];grind
def XB{w:World}{g:Gh}{σ:St}(hinv:Inv w g σ)(us:Array Value)(t:TypeId)(k:Nat)(hk:k<=us.size)(key n:Nat)(hkey:key ∉ σ.used\/∃n0,ak key σ.toks=some n0/\n0<n)(w':World)(Wc:w'={w with heap:=w.heap.push (.cells us t),drawn:=w'.drawn}) :
  let g':Gh:=⟨λb o=>if b=w.heap.size/\o<k then us[o]? else g.G b o,g.box,λj=>if j=key then some (n,some (w.heap.size,k,us.size))else g.tok j,g.room⟩
  let σ':St:=⟨σ.boxes,tT key n σ.toks,key::σ.used⟩
  Inv w' g' σ'/\gG w g σ w' g' σ'/\g.le g':=by
 intro g' σ'
 have Sv:w'.heap=w.heap.push (.cells us t):=by rw[Wc]
 have FD:∀b o,b<w.heap.size->w'.cell? ⟨b,o,none⟩=w.cell? ⟨b,o,none⟩/\w'.frozen? ⟨b,o,none⟩=w.frozen? ⟨b,o,none⟩:=by
  intro b o hb
  simp only[World.cell?,World.frozen?]
  grind
 have Sw:∀o,w'.cell? ⟨w.heap.size,o,none⟩=us[o]?/\w'.frozen? ⟨w.heap.size,o,none⟩=false:=by
  simp only[World.cell?,World.frozen?,Sv]
  simp
 have hsz:w'.heap.size=w.heap.size+1:=by rw[Sv];simp
 have JR:∀b o v,g.G b o=some v->b<w.heap.size:=λb o v h=>World.block_lt_of_cell? w ⟨b,o,none⟩ (hinv.oC b o v h)
 have Vh:∀hw fI,g.tok key=some (hw,fI)->hw<n:=by
  intro hw fI e
  rcases hkey with hkey|⟨n0,h1,h2⟩
  ·exact absurd (hinv.used key (.inr (by rw[e];simp))) hkey
  ·obtain⟨CS,h3,_⟩:=hinv.tok key n0 h1
   rw[e]at h3;simp at h3;omega
 have hle:g.le g':=by
  refine⟨λb o v h=>?_,λ_ _ h=>h,λ_ _ _=>rfl,λj hw fI h=>?_⟩
  ·have:=JR b o v h
   simp only[g'];rw[if_neg bn];exact h
  ·simp only[g']
   split
   ·rename_i hj;subst hj
    have:=Vh hw fI h
    exact⟨n,_,Z,bn,bn⟩
   ·exact⟨hw,fI,h,aal _,λ_=>rfl⟩
 have G9:∀b o,b<w.heap.size->g'.G b o=g.G b o:=by
  intro b o hb;simp only[g'];rw[if_neg bn]
 have pK:w'.os=w.os/\w'.tape=w.tape/\w'.output=w.output:=by rw[Wc];exact⟨Z,Z,Z⟩
 refine⟨⟨?_,?_,hinv.fq,?_,?_,?_,hinv.zZ λk cs b _ _ hb o=>FD b o hb⟩,⟨pK.1,pK.2.1,pK.2.2,bn,λb hb _=>by rw[Sv,adG,if_neg bn],λb o hb _=>FD b o hb,hle.1,?_,?_,?_,λ_ _ h=>⟨h,Z,Z⟩⟩,hle⟩
 ·intro b o v h
  simp only[g']at h
  split at h
  ·rename_i hb;obtain⟨rfl,_⟩:=hb;rw[(Sw o).1];exact h
  ·rw[(FD b o (JR b o v h)).1];exact hinv.oC b o v h
 ·intro k cs e
  obtain⟨b,h1,h2,h3,h4⟩:=hinv.box k cs e
  exact⟨b,h1,bn,λo=>by rw[G9 b o h2];exact h3 o,(bU.of_same (λo=>FD b o h2) h4).mono hle⟩
 ·intro j m e
  simp only[σ',eu]at e
  simp only[g']
  split at e
  ·rename_i hj;subst hj
   simp at e;subst e
   rw[if_pos rfl]
   refine⟨_,Z,λb lo hi hr=>?_⟩
   simp at hr;obtain⟨rfl,rfl,rfl⟩:=hr
   refine⟨bn,λo h1 h2=>⟨?_,⟨us[o],?_⟩,(Sw o).2⟩,λk' cs e' he=>?_⟩
   ·rw[if_neg bn]
    cases hg:g.G w.heap.size o with
    |none=>rfl
    |some v=>have:=JR _ _ _ hg;omega
   ·rw[(Sw o).1];simp[h2]
   ·obtain⟨b',f1,f2,_⟩:=hinv.box k' cs e'
    rw[f1]at he;simp at he;omega
  ·rename_i hj
   rw[if_neg hj]
   obtain⟨fI,h1,h2⟩:=hinv.tok j m e
   refine⟨fI,h1,λb lo hi hr=>?_⟩
   obtain⟨h3,h4,h5⟩:=h2 b lo hi hr
   refine⟨bn,λo JQ Mj=>?_,h5⟩
   obtain⟨h6,⟨u,h7⟩,h8⟩:=h4 o JQ Mj
   exact⟨V1,⟨u,(FD b o h3).1.trans h7⟩,(FD b o h3).2.trans h8⟩
 ·intro j j' m m' b lo hi lo' hi' e e' e1 e2
  simp only[σ',eu]at e e'
  simp only[g']at e1 e2
  split at e
  ·rename_i hj;subst hj
   rw[if_pos rfl]at e1
   simp at e1;obtain⟨_,rfl,_,_⟩:=e1
   split at e'
   ·rename_i hj';exact hj'.symm
   ·rename_i hj'
    rw[if_neg hj']at e2
    obtain⟨fI,h1,h2⟩:=hinv.tok j' m' e'
    rw[e2]at h1;simp at h1
    have:=(h2 _ _ _ h1.symm).1
    omega
  ·rename_i hj
   rw[if_neg hj]at e1
   split at e'
   ·rename_i hj';subst hj'
    rw[if_pos rfl]at e2
    simp at e2;obtain⟨_,rfl,_,_⟩:=e2
    obtain⟨fI,h1,h2⟩:=hinv.tok j m e
    rw[e1]at h1;simp at h1
    have:=(h2 _ _ _ h1.symm).1
    omega
   ·rename_i hj'
    rw[if_neg hj']at e2
    exact hinv.gh j j' m m' b lo hi lo' hi' e e' e1 e2
 ·intro j e
  simp only[σ',abu]
  by_cases hj:j=key
  ·exact .inl hj
  ·right;apply hinv.used j;simpa[g',hj]using e
 ·intro b o v h
  simp only[g']at h
  split at h
  ·rename_i hb;right;left;omega
  ·exact .inl h
 ·exact λk cs b h1 h2 => .inr ⟨k,cs,h1,h2⟩
 ·intro j m b lo hi e1 e2
  simp only[σ',eu]at e1
  simp only[g']at e2
  split at e1
  ·rename_i hj;subst hj
   rw[if_pos rfl]at e2
   simp at e2;left;omega
  ·rename_i hj
   rw[if_neg hj]at e2
   exact .inr ⟨j,m,lo,hi,e1,e2,aal _,aal _⟩
def Vi{w:World}{g:Gh}{σ:St}(U:Inv w g σ)(P n:Nat)(K:Option (Nat×Nat×Nat))(Y:(P ∉ σ.used/\K=none)\/∃S,g.tok P=some (S,K)/\ak P σ.toks=some S/\S<n) :
  let g':Gh:=⟨g.G,g.box,λj=>if j=P then some (n,K)else g.tok j,g.room⟩;let D:St:=⟨σ.boxes,tT P n σ.toks,P::σ.used⟩
  Inv w g' D/\gG w g σ w g' D/\g.le g':=by
 intro g' D;have A:g.le g':=by
  refine⟨ja.le.refl _,λ_ _ h=>h,λ_ _ _=>rfl,λj hw r h=>?_⟩;simp only[g'];split
  ·rename_i T;subst T;rcases Y with ⟨Y,_⟩|⟨S,h1,h2,J⟩
   exact absurd (U.used j (.inr (by rw[h];simp))) Y;grind
  grind
 refine⟨⟨U.oC,?_,U.fq,?_,?_,?_,U.room⟩,⟨Z,Z,Z,aal _,λ_ _ _=>rfl,λ_ _ _ _=>⟨Z,Z⟩,ja.le.refl _,λ_ _ _ h => .inl h,λk cs b h1 h2 => .inr ⟨k,cs,h1,h2⟩,?_,λ_ _ h=>⟨h,Z,Z⟩⟩,A⟩;intro k cs e;obtain⟨b,h1,h2,J,h4⟩:=U.box k cs e;exact⟨b,h1,h2,J,h4.mono A⟩
 ·intro j m e;simp only[D,eu]at e;simp only[g'];split at e
  ·rename_i T;subst T;simp at e;subst e;rw[if_pos rfl];refine⟨_,Z,λb Q W p=>?_⟩;rcases Y with ⟨_,rfl⟩|⟨S,h1,h2,J⟩
   simp at p;obtain⟨CS,O,I⟩:=U.tok j S h2;rw[h1]at O;simp at O;subst O;exact I b Q W p
  rename_i T;rw[if_neg T];exact U.tok j m e
 ·intro j q m m' b Q W u N e e' B H;have V:∀j m b Q W,ak j D.toks=some m->g'.tok j=some (m,some (b,Q,W))->∃M,ak j σ.toks=some M/\g.tok j=some (M,some (b,Q,W)):=by intro j m b Q W e B;simp only[D,eu]at e;simp only[g']at B;split at e;grind;simp_all
  obtain⟨M,O,I⟩:=V j m b Q W e B;obtain⟨E,Zf,C⟩:=V q m' b u N e' H;exact U.gh j q M E b Q W u N O Zf I C
 intro j e;simp only[D,abu];by_cases T:j=P;exact .inl T;right;apply U.used j;simpa[g',T]using e;intro j m b Q W B H;simp only[D,eu]at B;simp only[g']at H;split at B;grind;grind
def Vj{w w':World}{g:Gh}{σ:St}(hinv:Inv w g σ){key n b lo hi:Nat}(hk:ak key σ.toks=some n)(hg:g.tok key=some (n,some (b,lo,hi)))(vs:L Value)(hfit:lo+vs.length<=hi)
  (r2:w'.heap.size=w.heap.size/\w'.os=w.os/\w'.tape=w.tape/\w'.output=w.output/\∀b',b'≠b->w'.heap[b']?=w.heap[b']?)
  (r3:∀b' o',b'≠b\/o'<lo\/lo+vs.length<=o'->w'.cell? ⟨b',o',none⟩=w.cell? ⟨b',o',none⟩)(r4:∀b' o',w'.frozen? ⟨b',o',none⟩=w.frozen? ⟨b',o',none⟩)
  (r5:∀j v,vs[j]?=some v->w'.cell? ⟨b,lo+j,none⟩=some v)(hne:vs≠[]) :
  let g':Gh:=⟨λb' o=>if b'=b/\lo<=o/\o<lo+vs.length then vs[o-lo]? else g.G b' o,g.box,λj=>if j=key then some (n+1,some (b,lo+vs.length,hi))else g.tok j,g.room⟩
  let σ':St:=⟨σ.boxes,tT key (n+1) σ.toks,key::σ.used⟩
  Inv w' g' σ'/\gG w g σ w' g' σ'/\g.le g':=by
 intro g' σ'
 obtain⟨aeB,t1,t2⟩:=hinv.tok key n hk
 rw[hg]at t1;simp at t1;subst t1
 obtain⟨t3,t4,t5⟩:=t2 b lo hi rfl
 have hlen:0<vs.length:=List.length_pos_iff.2 hne
 have Zm:∀b' o v,g.G b' o=some v->¬(b'=b/\lo<=o/\o<lo+vs.length):=by
  rintro b' o v h ⟨rfl,h1,h2⟩
  rw[(t4 o h1 bn).1]at h;simp at h
 have hle:g.le g':=by
  refine⟨λb' o v h=>?_,λ_ _ h=>h,λ_ _ _=>rfl,λj hw r h=>?_⟩
  ·simp only[g'];rw[if_neg (Zm b' o v h)];exact h
  ·simp only[g']
   split
   ·rename_i hj;subst hj
    rw[hg]at h;simp at h;exact⟨n+1,_,Z,bn,bn⟩
   ·exact⟨hw,r,h,aal _,λ_=>rfl⟩
 have hcell:∀b' o,¬(b'=b/\lo<=o/\o<lo+vs.length)->w'.cell? ⟨b',o,none⟩=w.cell? ⟨b',o,none⟩:=by
  intro b' o h;exact r3 b' o bn
 refine⟨⟨?_,?_,hinv.fq,?_,?_,?_,hinv.zZ λk cs b' e h1 hb o=>⟨hcell b' o (by rintro⟨rfl,_⟩;exact t5 k cs e h1),r4 b' o⟩⟩,⟨r2.2.1,r2.2.2.1,r2.2.2.2.1,bn,λb' hb' hno=>r2.2.2.2.2 b' (by rintro rfl;exact hno lo (.inr ⟨key,n,lo,hi,hk,hg,bn,bn⟩)),λb' o hb' hno=>⟨hcell b' o ?_,r4 b' o⟩,hle.1,?_,λk cs b h1 h2 => .inr ⟨k,cs,h1,h2⟩,?_,λ_ _ h=>⟨h,rfl,rfl⟩⟩,hle⟩
 ·intro b' o v h
  simp only[g']at h
  split at h
  ·rename_i hb;obtain⟨rfl,h1,h2⟩:=hb
   have:=r5 (o-lo) v h
   rwa[show lo+(o-lo)=o from by omega]at this
  ·rename_i hb;rw[hcell b' o hb];exact hinv.oC b' o v h
 ·intro k cs e
  obtain⟨b',h1,h2,h3,h4⟩:=hinv.box k cs e
  have Ae:b'≠b:=by rintro rfl;exact t5 k cs e h1
  exact⟨b',h1,bn,λo=>by simp only[g'];rw[if_neg bn];exact h3 o,(bU.of_same (λo=>⟨hcell b' o bn,r4 b' o⟩) h4).mono hle⟩
 ·intro j m e
  simp only[σ',eu]at e
  simp only[g']
  split at e
  ·rename_i hj;subst hj
   simp at e;subst e
   rw[if_pos rfl]
   refine⟨_,Z,λb' lo' hi' hr=>?_⟩
   simp at hr;obtain⟨rfl,rfl,rfl⟩:=hr
   refine⟨bn,λo h1 h2=>?_,t5⟩
   obtain⟨h6,⟨u,h7⟩,h8⟩:=t4 o bn h2
   exact⟨V1,⟨u,(hcell b o bn).trans h7⟩,(r4 b o).trans h8⟩
  ·rename_i hj
   rw[if_neg hj]
   obtain⟨fI,h1,h2⟩:=hinv.tok j m e
   refine⟨fI,h1,λb' lo' hi' hr=>?_⟩
   obtain⟨h3,h4,h5⟩:=h2 b' lo' hi' hr
   have Ae:b'≠b:=by
    rintro rfl;subst hr
    exact hj (hinv.gh j key m n b' lo' hi' lo hi e hk h1 hg)
   refine⟨bn,λo JQ Mj=>?_,h5⟩
   obtain⟨h6,⟨u,h7⟩,h8⟩:=h4 o JQ Mj
   exact⟨V1,⟨u,(hcell b' o bn).trans h7⟩,(r4 b' o).trans h8⟩
 ·intro j j' m m' b1 Ym hi1 lo2 hi2 e e' e1 e2
  have key':∀j m b1 Ym hi1,ak j σ'.toks=some m->g'.tok j=some (m,some (b1,Ym,hi1))->∃m0 Es qh,ak j σ.toks=some m0/\g.tok j=some (m0,some (b1,Es,qh)):=by
   intro j m b1 Ym hi1 e e1
   simp only[σ',eu]at e
   simp only[g']at e1
   split at e
   ·simp_all
   ·simp_all
  obtain⟨m0,l0,h0,f1,f2⟩:=key' j m b1 Ym hi1 e e1
  obtain⟨m0',l0',Um,Zf,f2'⟩:=key' j' m' b1 lo2 hi2 e' e2
  exact hinv.gh j j' m0 m0' b1 l0 h0 l0' Um f1 Zf f2 f2'
 ·intro j e
  simp only[σ',abu]
  by_cases hj:j=key
  ·exact .inl hj
  ·right;apply hinv.used j;simpa[g',hj]using e
 ·rintro⟨rfl,h1,h2⟩;exact hno (.inr ⟨key,n,lo,hi,hk,hg,bn,bn⟩)
 ·intro b' o v h
  simp only[g']at h
  split at h
  ·rename_i hb;obtain⟨rfl,h1,h2⟩:=hb
   exact .inr (.inr (.inr ⟨key,n,lo,hi,hk,hg,bn,bn⟩))
  ·exact .inl h
 ·intro j m b' lo' hi' e1 e2
  simp only[σ',eu]at e1
  simp only[g']at e2
  split at e1
  ·rename_i hj;subst hj
   rw[if_pos rfl]at e2
   simp at e2;obtain⟨_,rfl,rfl,rfl⟩:=e2
   exact .inr ⟨j,n,lo,hi,hk,hg,bn,aal _⟩
  ·rename_i hj
   rw[if_neg hj]at e2
   exact .inr ⟨j,m,lo',hi',e1,e2,aal _,aal _⟩
end
end Go.cB
namespace Go.cB
def uE(d:Nat)(us:L Nat)(ts:L (Nat×Nat)):Va->Option (Nat×Nat)
 |.exact=>match mem d us with
  |false=>some (d,0)
  |true=>none
 |.tok k m=>match ak k ts with
  |some S=>match Nat.beq S m with
   |true=>some (k,m+1)
   |false=>none
  |none=>none
def De(s t:Nat)(rows:L CV):Va->Bool
 |.exact=>fH s t rows
 |.tok _ _=>Nat.beq s t
def yJ{s t:Nat}{rows:L CV}:∀{o:Va},De s t rows o=true->fH s t rows=true
 |.exact,h=>h
 |.tok _ _,h=>by simp only[De]at h;simp[fH,h]
def kL:TK->Bool
 |.slice _ | .str=>true
 |_=>false
def Mo(P n:Nat):gE (λσ=>(⟨σ.boxes,tT P n σ.toks,P::σ.used⟩:St)) ⟨[],[P]⟩ where
 out:=λσ k E=>by
  have:k≠P:=by simpa using E
  refine⟨Z,?_,?_⟩;simp only[eu,if_neg this];simp_all
 same:=λσ B h k E=>by
  have:k=P:=by simpa using E
  subst this;refine⟨(h k (.inr c9)).1,?_,?_⟩;simp[eu];simp
section
variable {P : Program}{X : Ctx}
def FE{P:ja}{s b o:Nat}{rows bL:L CV}{olds news:L Value}(h1:bT P (bB rows) olds)(h2:bT P (bB bL) news)(p:∀r∈rows,r.cells.length=s)(M:∀r∈bL,r.cells.length=s)
  (C:(bB rows).all CV.one=true)(D:(bB bL).all CV.one=true)(O:∀(j:Nat) u,(olds++news)[j]?=some u->P b (o+j)=some u):fE P s b o (rows++bL):=by
 rw[oY,dg];refine⟨mw (fu h1 h2) O (by rw[acT,C,D];rfl),?_⟩;grind
set_option maxHeartbeats 1600000 in
def bI.append(hX:cg P X){o:Oper}{env:Env}{σ:St}{args:Array Operand}{ats:Array TypeId}(ho:o.op = .call {callee := .builtin .append,args:=args,argTypes:=ats})
  {xs y:Operand}(hargs:args.toList=[xs,y]){t t1:Nat}(Am:ats.toList=[t,t1]){d:Nat}
  {i j i1:TI}{e:Nat}(hi:X.ti t=some i)(hk:i.kind = .slice e)(hj:X.ti e=some j){za:AV}(hz:j.zero=some za)(hi1:X.ti t1=some i1)(tE:kL i1.kind=true)
  {ow:Va}{s:Nat}{rows:L CV}(ha:aH X env xs=some (.own ow s rows)){b:AV}(hb:aH X env y=some b){s1:Nat}{bL:L CV}(hsrc:mz b=some (s1,bL))
  (hs:De s j.size rows ow=true)(rG:fH s1 j.size bL=true){key n:Nat}(hkey:uE d σ.used σ.toks ow=some (key,n))(hby:Nat.ble 1 j.bytes=true)(hbound:(rows.length+bL.length)*j.bytes<=140737488355328) :
  bI P X o env σ (.own (.tok key n) j.size (rows++bL)) (λσ=>⟨σ.boxes,tT key n σ.toks,key::σ.used⟩) ⟨[],[key]⟩:=by
 intro cH σ1 w g act next Q h1 h2 hinv bZ cX hnext
 have pX:∀x∈args.toList,x∈o.op.operands.toList:=by
  intro x hx
  rw[ho];simp only[Op.operands,Call.operands,abF,aaV];exact .inr hx
 have xo:aH X cH xs=some (.own ow s rows):=by rw[h1 xs (pX xs Y9)];exact ha
 have hb':aH X cH y=some b:=by rw[h1 y (pX y Y9)];exact hb
 have rA:=bV (a:=act) cX bZ xo
 have rB:=bV (a:=act) cX bZ hb'
 simp only[aP]at rA
 obtain⟨base,len,cap,ex,hlen,hcap,fD,hown⟩:=rA
 obtain⟨⟨news,n1,n2,n3,n4⟩,n5⟩:=pW (P:=P) (w:=w) hinv.oC hsrc rG rB
 obtain⟨⟨news',Wj,Yq,Zn,Zo⟩,_⟩:=pW (P:=P) (w:=w.drew) (λb o v h=>by rw[World.cell?_drew];exact hinv.oC b o v h) hsrc rG rB
 obtain⟨olds,m1,m2,m3,m4⟩:=vG (P:=P) (w:=w.drew) (g:=g) (λb o v h=>by rw[World.cell?_drew];exact hinv.oC b o v h) fD (yJ hs) len cap hlen
 obtain⟨dt,_,yK,EE⟩:=hX.run_underlying (w:=w) hi
 rw[hk]at yK;simp only[iE]at yK;subst yK
 obtain⟨d1,jc,BJ⟩:=yI hX hi1 Zl w
 obtain⟨inf,Uo,Mp,Zp,Zq,_,if6⟩:=hX.ti e j hj
 obtain⟨z,z1,_,z3⟩:=Zq za hz
 have Oq:news.length=bL.length*j.size:=by rw[<- (bT.get n1).1,cV n2]
 have PD:news'.length=bL.length*j.size:=by rw[<- (bT.get Wj).1,cV Yq]
 have Pf:olds.length=rows.length*j.size:=by rw[<- (bT.get m1).1,cV m2]
 have xu:args = #[xs,y]:=by cases args;simp_all
 have Df:ats = #[t,t1]:=by cases ats;simp_all
 have Sx:=abf hby
 have hsmall:rows.length+bL.length<=140737488355328:=abJ (adu _ Sx) hbound
 have Sy:∀(v:Value)(w':World),(Builtin.append_ #[t,t1] o.type #[.slice base len cap,act.eval y]).run P w = .ok v w'->(execOp act.eval o).run P w = .ok (.value v) w':=by
  intro v w' hr
  obtain⟨dst,op,type,pos,after,guard⟩:=o
  simp only at ho hr;subst ho
  subst xu Df
  simp[execOp,resolve,invoke,builtin,ex,hr,Result.andThen]
 unfold Oper.wp
 by_cases hroom:len+bL.length<=cap
 ·by_cases h0:bL.length=0
  ·obtain rfl:bL=[]:=acG h0
   have hn0:news=[]:=by simpa[bB,bT]using n1
   subst hn0
   rw[Sy _ w (kK (w':=w) EE jc BJ Uo n5 aav hroom (by cases base<;>simp[storeCells]))]
   rw[Oper.upon_value]
   have Zr:∃fI,((key ∉ σ1.used/\fI=none)\/∃n0,g.tok key=some (n0,fI)/\ak key σ1.toks=some n0/\n0<n) /\
     (cap=len\/∃b lo hi o,fI=some (b,lo,hi)/\base=some ⟨b,o,none⟩/\lo=o+len*j.size/\hi=o+cap*j.size/\len<=cap):=by
    cases ow with
    |exact =>
     simp only[uE]at hkey
     split at hkey
     ·rename_i hu
      simp at hkey;obtain⟨rfl,rfl⟩:=hkey
      exact⟨none,.inl ⟨λh=>cE hu ((h2 d (.inr c9)).2.2.1 h),Z⟩,.inl hown⟩
     ·simp at hkey
    |tok k m =>
     simp only[uE]at hkey
     split at hkey
     ·rename_i m' hm'
      split at hkey
      ·rename_i Zs
       simp at hkey;obtain⟨rfl,rfl⟩:=hkey
       have:=beq_true Zs;subst this
       have LA:ak k σ1.toks=some m':=by rw[(h2 k (.inr c9)).2.1];exact hm'
       obtain⟨hw,fI,e1,e2,e3⟩:=hown
       obtain⟨CS,e4,_⟩:=hinv.tok k m' LA
       rw[e1]at e4;simp at e4;obtain⟨rfl,rfl⟩:=e4
       simp only[De]at hs
       have:=beq_true hs;subst this
       exact⟨fI,.inr ⟨hw,e1,LA,bn⟩,e3 Z⟩
      ·simp at hkey
     ·simp at hkey
   obtain⟨fI,Co,N4⟩:=Zr
   obtain⟨i1,i2,i3⟩:=Vi hinv key n fI Co
   refine hnext _ w _ ?_ i1 i2 i3
   simp only[aP,aba,aab,abI]
   refine⟨base,len,cap,Z,hlen,hcap,?_,n,fI,c9,aal _,λ_=>N4⟩
   rcases fD with rfl|⟨b0,o0,hb0,QA⟩
   ·exact .inl Z
   ·rcases nI (yJ hs)with rfl|rfl
    ·exact .inr ⟨b0,o0,hb0,QA⟩
    ·exact .inl Z
  ·
   cases ow with
   |exact=>simp only[wI]at hown;omega
   |tok k m =>
    simp only[uE]at hkey
    split at hkey
    ·rename_i m' hm'
     split at hkey
     ·rename_i Zs
      simp at hkey;obtain⟨rfl,rfl⟩:=hkey
      have:=beq_true Zs;subst this
      have LA:ak k σ1.toks=some m':=by rw[(h2 k (.inr c9)).2.1];exact hm'
      obtain⟨hw,fI,e1,e2,e3⟩:=hown
      obtain⟨CS,e4,e5⟩:=hinv.tok k m' LA
      rw[e1]at e4;simp at e4;obtain⟨rfl,rfl⟩:=e4
      simp only[De]at hs
      have:=beq_true hs;subst this
      rcases e3 rfl with hc|⟨b0,lo,hi',o0,rfl,rfl,rfl,rfl,_⟩
      ·omega
      obtain⟨f1,f2,f3⟩:=e5 _ _ _ rfl
      have hmul:len*j.size+news.length<=cap*j.size:=by
       rw[Oq,<- acF];exact acz _ hroom
      obtain⟨w',r1,r2,r3,r4,r5⟩:=mu (P:=P) (w:=w) b0 news (o0+len*j.size) 0 w (me n1 n3) (by
       intro q hq
       simp only[abI]
       obtain⟨_,g2,g3⟩:=f2 (o0+len*j.size+q) bn bn
       exact⟨g2,g3⟩)
      simp only[abI]at r3 r5
      rw[Sy _ w' (kK (w':=w') EE jc BJ Uo n5 aav hroom (by simp only[Addr.add_lit,Mp];exact r1))]
      rw[Oper.upon_value]
      obtain⟨i1,i2,i3⟩:=Vj hinv LA e1 news bn r2 r3 r4 r5 (by
       intro hn;rw[hn]at Oq
       have hz:bL.length*j.size=0:=Oq.symm
       rcases Nat.mul_eq_zero.1 hz with hz|hz
       ·exact h0 hz
       ·exact if6 hz)
      refine hnext _ w' _ ?_ i1 i2 i3
      simp only[aP]
      refine⟨_,_,_,Z,by simp[hlen],bn,.inr ⟨b0,o0,Z,?_⟩,hw+1,some (b0,o0+len*j.size+news.length,o0+cap*j.size),c9,aal _,λ_ => .inr ⟨b0,_,_,o0,Z,Z,?_,Z,bn⟩⟩
      ·refine FE (olds:=olds) (news:=news) (bT.mono i3.1 _ _ m1) (bT.mono i3.1 _ _ n1) m2 n2 m3 n3 λq u hq=>?_
       by_cases XC:q<olds.length
       ·rw[adq XC]at hq
        rcases fD with rfl|⟨b2,o2,N4,LX⟩
        ·simp_all
        ·simp at N4;obtain⟨rfl,rfl⟩:=N4
         rw[oY]at LX
         obtain⟨vs,v1,v2,v3⟩:=uD LX.1
         have:vs=olds:=by
          have q1:(Builtin.firstCells j.size len (.slice (some ⟨b0,o0,none⟩) len cap)).run P w.drew = .ok vs.toArray w.drew:=by
           refine run_firstCells_some w.drew j.size len _ len cap vs ?_ ?_
           ·rw[<- (bT.get v1).1,cV LX.2,hlen]
           ·intro j v hj;rw[Addr.add_lit,World.cell?_drew];exact hinv.oC _ _ _ (v2 j v hj)
          rw[m4]at q1;simp at q1;exact q1.symm
         subst this
         exact i3.1 _ _ _ (v2 q u hq)
       ·grind
      ·grind
     ·simp at hkey
    ·simp at hkey
 ·have hg:cap<len+bL.length:=by omega
  have hbd:(len+bL.length)*inf.bytes<=140737488355328:=by rw[Zp,hlen];exact hbound
  rw[Sy _ _ (nq EE jc BJ Uo z1 n5 (by rw[Mp];exact Zo) (by rw[Mp];exact m4) hg bn hbd)]
  rw[Oper.upon_value]
  have hge:=grownCap_ge w (len+bL.length) cap e
  generalize grownCap w (len+bL.length) cap e=nc at hge ⊢
  have tP:(olds.toArray++news'.toArray++Builtin.zeroCells z.cells (nc-(len+bL.length))).size=nc*j.size:=by
   simp only[acj,abT,size_zeroCells,Pf,PD,z3,<- hlen,<- acF]
   congr 1;omega
  have abL:(len+bL.length)*j.size<=(olds.toArray++news'.toArray++Builtin.zeroCells z.cells (nc-(len+bL.length))).size:=by rw[tP];exact acz _ hge
  have hkk:key ∉ σ1.used\/∃n0,ak key σ1.toks=some n0/\n0<n:=by
   cases ow with
   |exact =>
    simp only[uE]at hkey
    split at hkey
    ·rename_i hu
     simp at hkey;obtain⟨rfl,rfl⟩:=hkey
     exact .inl λh=>cE hu ((h2 d (.inr c9)).2.2.1 h)
    ·simp at hkey
   |tok k m =>
    simp only[uE]at hkey
    split at hkey
    ·rename_i m' hm'
     split at hkey
     ·rename_i Zs
      simp at hkey;obtain⟨rfl,rfl⟩:=hkey
      have:=beq_true Zs;subst this
      exact .inr ⟨m',by rw[(h2 k (.inr c9)).2.1];exact hm',bn⟩
     ·simp at hkey
    ·simp at hkey
  obtain⟨i1,i2,i3⟩:=XB hinv (olds.toArray++news'.toArray++Builtin.zeroCells z.cells (nc-(len+bL.length))) e ((len+bL.length)*j.size) abL key n hkk
   (w.drew.alloc (.cells (olds.toArray++news'.toArray++Builtin.zeroCells z.cells (nc-(len+bL.length))) e)) Z
  refine hnext _ _ _ ?_ i1 i2 i3
  simp only[aP]
  refine⟨_,_,_,Z,by simp[hlen],hge,.inr ⟨w.heap.size,0,Z,?_⟩,n,_,if_pos Z,aal _,λ_ => .inr ⟨_,_,_,0,Z,Z,by rw[abi],by rw[tP,abi],hge⟩⟩
  refine FE (olds:=olds) (news:=news') (bT.mono i3.1 _ _ m1) (bT.mono i3.1 _ _ Wj) m2 Yq m3 Zn λq u hq=>?_
  have XC:q<(olds++news').length:=(List.getElem?_eq_some_iff.1 hq).1
  have aeE:q<(len+bL.length)*j.size:=by simp only[aao,Pf,PD,<- hlen,<- acF]at XC;exact XC
  simp only
  rw[if_pos ⟨trivial,bn⟩,abi]
  rw[show olds.toArray++news'.toArray=(olds++news').toArray from by simp,abo (by simpa using XC)]
  simpa using hq
end
section
variable {P : Program}{X : Ctx}{ops : Array Oper}{o : Oper}{rest : L Oper}{env : Env}{acc : L Fp}{Q : Env -> St -> L Fp -> Prop}{bs : L (Nat × L AV)}{ts : L (Nat × Nat)}{us : L Nat}
def ai.append(hX:cg P X)(kn:L Nat)(I:cP ops.toList kn env o=some true){args:Array Operand}{B:Array TypeId}(H:o.op = .call {callee := .builtin .append,args:=args,argTypes:=B})
  {xs y:Operand}(T:args.toList=[xs,y]){t K:Nat}(E:B.toList=[t,K]){d:Nat}(A:o.dst=some d)
  {i j J:TI}{e:Nat}(q:X.ti t=some i)(p:i.kind = .slice e)(hj:X.ti e=some j){za:AV}(hz:j.zero=some za)(G:X.ti K=some J)(tE:kL J.kind=true)
  {V:Va}{s:Nat}{rows:L CV}(ha:aH X env xs=some (.own V s rows)){b:AV}(hb:aH X env y=some b){u:Nat}{bL:L CV}(N:mz b=some (u,bL))
  {sz:Nat}(U:j.size=sz)(hs:De s sz rows V=true)(rG:fH u sz bL=true){Y n:Nat}(D:uE d us ts V=some (Y,n)){S:Nat}(O:j.bytes=S)(M:Nat.ble 1 S=true){ts':L (Nat×Nat)}(C:wJ Y n ts=some ts')
  (W:(rows.length+bL.length)*S<=140737488355328)
  (k:ai P X ops rest ((d,.own (.tok Y n) sz (rows++bL))::env) ⟨bs,ts',Y::us⟩ (⟨[],[Y]⟩::acc) Q):ai P X ops (o::rest) env ⟨bs,ts,us⟩ acc Q:=by
 subst U O;rw[rS]at C;simp at C;subst C;exact ai.step (cZ I) (bI.append (σ:=⟨bs,ts,us⟩) hX H T E q p hj hz G tE ha hb N hs rG D M W) (Mo Y n) (by rw[A];exact k)
end
end Go.cB
namespace Go.cB
structure Ren where
 bx:Nat->Option Nat
 tk:Nat->Option (Nat×Option Nat)
def Gh.fQ(g:Gh)(ρ:Ren):Gh where
 G:=g.G
 box:=λk=>match ρ.bx k with
  |some J=>g.box J
  |none=>none
 tok:=λk=>match ρ.tk k with
  |some (m,none)=>some (m,none)
  |some (m,some J)=>match g.tok J with
   |some (_,Y)=>some (m,Y)
   |none=>none
  |none=>none
 room:=λk=>match ρ.bx k with
  |some J=>g.room J
  |none=>0
mutual
def Conv(ρ:Ren)(ts:L (Nat×Nat)):AV->AV->Prop
 |.c v,b=>b = .c v\/close b=some v
 |.own .exact s rows,b=>b = .own .exact s rows
 |.own (.tok k m) s rows,b=>∃o,ρ.tk k=some (m,o)/\(o=none/\(∃q,b = .own .exact q rows/\(q=s\/rows=[]))\/∃J n,o=some J/\ak J ts=some n/\b = .own (.tok J n) s rows)
 |.ptr k off,b=>∃J,ρ.bx k=some J/\b = .ptr J off
 |.gf k off s n,b=>∃J,ρ.bx k=some J/\b = .gf J off s n
 |.any,b=>b.one=true
 |.agg l,b=>∃p,b = .agg p/\fO ρ ts l p
 |.fG l,b=>∃p,b = .fG p/\fO ρ ts l p
def fO(ρ:Ren)(ts:L (Nat×Nat)):L AV->L AV->Prop
 |[],p=>p=[]
 |a::l,p=>∃b r,p=b::r/\Conv ρ ts a b/\fO ρ ts l r
end
section
variable {g : Gh}{ρ : Ren}{ts : L (Nat × Nat)}
mutual
def qE(C:∀k n,ak k ts=some n->∃T,g.tok k=some (n,T)):∀{a b:AV}{u:Value},Conv ρ ts a b->aP g b u->aP (g.fQ ρ) a u/\(b.one=true->a.one=true)
 |.c v,b,u,h,A=>by
  rcases h with rfl|h
  exact⟨A,λh=>h⟩;have:=rV b v u h A;exact⟨this.1,this.2⟩
 |.own .exact s rows,b,u,h,A=>by subst h;exact⟨A,λh=>h⟩
 |.own (.tok k m) s rows,b,u,h,A=>by
  obtain⟨o,h1,⟨rfl,q,rfl,hq⟩|⟨J,n,rfl,h2,rfl⟩⟩:=h
  ·simp only[aP]at A ⊢;obtain⟨base,W,E,Y,B,U,p,S⟩:=A;refine⟨⟨base,W,E,Y,B,U,?_,m,none,?_,aal _,λ_ => .inl S⟩,λ_=>rfl⟩
   ·rcases hq with rfl|rfl
    exact p;exact .inl Z
   simp only[Gh.fQ,h1]
  simp only[aP]at A ⊢;obtain⟨base,W,E,Y,B,U,p,I,T,S,H,N⟩:=A;obtain⟨G,Q⟩:=C J n h2;rw[S]at Q;obtain⟨rfl,rfl⟩:=Q;refine⟨⟨base,W,E,Y,B,U,p,m,T,?_,aal _,λ_=>N Z⟩,λ_=>rfl⟩;simp only[Gh.fQ,h1,S]
 |.ptr k off,b,u,h,A=>by simp only[Conv]at h;obtain⟨J,h1,rfl⟩:=h;simp only[aP]at A ⊢;obtain⟨b,Y,B⟩:=A;exact⟨⟨b,by simp only[Gh.fQ,h1,Y],B⟩,λ_=>rfl⟩
 |.gf k off s n,b,u,h,A=>by simp only[Conv]at h;obtain⟨J,h1,rfl⟩:=h;simp only[aP]at A ⊢;obtain⟨b,E,o,Y,B,U,p⟩:=A;exact⟨⟨b,E,o,by simp only[Gh.fQ,h1,Y],B,U,by simp only[Gh.fQ,h1];exact p⟩,λ_=>rfl⟩
 |.any,b,u,h,A=>by simp only[Conv]at h;have:=uv h A;simp only[aP];refine⟨⟨λvs e=>?_,λvs e=>?_⟩,λ_=>rfl⟩<;>(subst e;simp[Value.oneCell']at this)
 |.agg l,b,u,h,A=>by simp only[Conv]at h;obtain⟨V,rfl,h1⟩:=h;simp only[aP]at A ⊢;obtain⟨vs,Y,B,U⟩:=A;obtain⟨O,P⟩:=uF C h1 B;exact⟨⟨vs,Y,O,P U⟩,λh=>by simp[AV.one]at h⟩
 |.fG l,b,u,h,A=>by simp only[Conv]at h;obtain⟨V,rfl,h1⟩:=h;simp only[aP]at A ⊢;obtain⟨vs,Y,B,U⟩:=A;obtain⟨O,P⟩:=uF C h1 B;refine⟨⟨vs,Y,O,?_⟩,λh=>by simp[AV.one]at h⟩;rw[(bM.get O).1,<- (bM.get B).1];exact U
def uF(C:∀k n,ak k ts=some n->∃T,g.tok k=some (n,T)):∀{l V:L AV}{us:L Value},fO ρ ts l V->bM g V us->bM (g.fQ ρ) l us/\(V.all AV.one=true->l.all AV.one=true)
 |[],V,us,h,A=>by simp only[fO]at h;subst h;simp only[bM]at A ⊢;exact⟨A,λh=>h⟩
 |a::l,V,us,h,A=>by simp only[fO]at h;obtain⟨b,r,rfl,h1,h2⟩:=h;simp only[bM]at A ⊢;obtain⟨u,us',rfl,M,K⟩:=A;obtain⟨Y,B⟩:=qE C h1 M;obtain⟨U,p⟩:=uF C h2 K;refine⟨⟨u,us',rfl,Y,U⟩,λh=>?_⟩;simp only[abQ,aak]at h ⊢;exact⟨B h.1,p h.2⟩
end
def A9{w:World}(C:∀k n,ak k ts=some n->∃Y,g.tok k=some (n,Y)){b:Nat}:∀{l p:L AV}{o:Nat},fO ρ ts l p->bU w g b o p->bU w (g.fQ ρ) b o l
 |[],_,_,_,_=>trivial
 |a::l,p,o,h,hc=>by obtain⟨x,r,rfl,h1,h2⟩:=h;obtain⟨⟨u,W,M,V⟩,c4,c5⟩:=hc;obtain⟨B,U⟩:=qE C h1 M;exact⟨⟨u,W,B,U V⟩,c4,A9 C h2 c5⟩
end
def oa{w:World}{g:Gh}{σ:St}(h:Inv w g σ):∀k n,ak k σ.toks=some n->∃Y,g.tok k=some (n,Y):=λk n e=>by obtain⟨Y,B,_⟩:=h.tok k n e;exact⟨Y,B⟩
def Inv.fQ{w:World}{g:Gh}{σ:St}(h:Inv w g σ)(ρ:Ren)(σ':St)
  (hb:∀k cells,ak k σ'.boxes=some cells->∃old oc,ρ.bx k=some old/\ak old σ.boxes=some oc/\fO ρ σ.toks cells oc)
  (hbi:∀k k' old,ρ.bx k=some old->ρ.bx k'=some old->k=k')
  (ht:∀k n,ak k σ'.toks=some n->∃o,ρ.tk k=some (n,o)/\∀old,o=some old->∃n',ak old σ.toks=some n')
  (hti:∀k k' m m' old,ρ.tk k=some (m,some old)->ρ.tk k'=some (m',some old)->k=k')
  (hu:∀k,ρ.bx k≠none\/ρ.tk k≠none->k∈σ'.used) :
  Inv w (g.fQ ρ) σ'/\((∀k,1000000<=k->ak k σ'.boxes≠none->ρ.bx k=some k)->gG w g σ w (g.fQ ρ) σ'):=by
 have hts:=oa h
 have XD:∀k n b lo hi,ak k σ'.toks=some n->(g.fQ ρ).tok k=some (n,some (b,lo,hi))->∃old n' m,ρ.tk k=some (m,some old)/\ak old σ.toks=some n'/\g.tok old=some (n',some (b,lo,hi)):=by
  intro k n b lo hi e e1
  obtain⟨o,h1,h2⟩:=ht k n e
  cases o with
  |none=>simp[Gh.fQ,h1]at e1
  |some old =>
   obtain⟨n',h3⟩:=h2 old rfl
   obtain⟨fI,h4⟩:=hts old n' h3
   simp[Gh.fQ]at e1
   grind
 refine⟨⟨h.oC,?_,?_,?_,?_,?_,?_⟩,λabM=>⟨Z,Z,Z,aal _,λ_ _ _=>rfl,λ_ _ _ _=>⟨Z,Z⟩,ja.le.refl _,λ_ _ _ h => .inl h,?_,?_,?_⟩⟩
 ·intro k cells e
  obtain⟨old,oc,h1,h2,h3⟩:=hb k cells e
  obtain⟨b,h4,h5,h6,h7⟩:=h.box old oc h2
  exact⟨b,by simp only[Gh.fQ,h1,h4],h5,h6,A9 hts h3 h7⟩
 ·intro k k' cs cs' b e e' e1 e2
  obtain⟨old,oc,h1,h2,_⟩:=hb k cs e
  obtain⟨old',Wm,rC,yA,_⟩:=hb k' cs' e'
  simp only[Gh.fQ,h1,rC]at e1 e2
  have:=h.fq old old' oc Wm b h2 yA e1 e2
  subst this
  exact hbi k k' old h1 rC
 ·intro k n e
  obtain⟨o,h1,h2⟩:=ht k n e
  cases o with
  |none=>exact⟨none,by simp only[Gh.fQ,h1],λ_ _ _ h=>by simp at h⟩
  |some old =>
   obtain⟨n',h3⟩:=h2 old rfl
   obtain⟨fI,h4,h5⟩:=h.tok old n' h3
   refine⟨fI,by simp only[Gh.fQ,h1,h4],λb lo hi hr=>?_⟩
   obtain⟨f1,f2,f3⟩:=h5 b lo hi hr
   refine⟨f1,f2,λk' cs e'=>?_⟩
   obtain⟨old',Wm,g1,g2,_⟩:=hb k' cs e'
   simp only[Gh.fQ,g1]
   exact f3 old' Wm g2
 ·intro k k' n n' b lo hi lo' hi' e e' e1 e2
  obtain⟨old,m1,q1,h1,h2,h3⟩:=XD k n b lo hi e e1
  obtain⟨old',m1',q1',rC,yA,Yr⟩:=XD k' n' b lo' hi' e' e2
  have:=h.gh old old' m1 m1' b lo hi lo' hi' h2 yA h3 Yr
  subst this
  exact hti k k' _ _ old h1 rC
 ·intro k e
  apply hu k
  rcases e with e|e
  ·left;intro hn;apply e;simp[Gh.fQ,hn]
  ·right;intro hn;apply e;simp[Gh.fQ,hn]
 ·intro k cs b e e1 o
  obtain⟨old,oc,h1,h2,_⟩:=hb k cs e
  simp only[Gh.fQ,h1]at e1 ⊢
  exact h.room old oc b h2 e1 o
 ·intro k cs b e e1
  obtain⟨old,oc,h1,h2,_⟩:=hb k cs e
  simp only[Gh.fQ,h1]at e1
  exact .inr ⟨old,oc,h2,e1⟩
 ·intro k n b lo hi e e1
  obtain⟨old,n',m,h1,h2,h3⟩:=XD k n b lo hi e e1
  exact .inr ⟨old,n',lo,hi,h2,h3,aal _,aal _⟩
 ·intro k hk e
  have h1:=abM k hk e
  cases hc:ak k σ'.boxes with
  |none=>exact absurd hc e
  |some cells =>
   obtain⟨old,oc,h2,h3,_⟩:=hb k cells hc
   rw[h1]at h2;simp at h2;subst h2
   exact⟨by rw[h3];simp,by simp[Gh.fQ,h1],by simp[Gh.fQ,h1]⟩
def distinct:L Nat->Bool
 |[]=>true
 |x::l=>match mem x l with
  |true=>false
  |false=>distinct l
def dj{α:Type}{k:Nat}{v:α}:∀{l:L (Nat×α)},ak k l=some v->(k,v)∈l
 |[],h=>by simp[ak]at h
 |(j,x)::l,h=>by rw[an]at h;split at h;grind;exact abN _ (dj h)
def fV{α:Type}{k:Nat}{v:α}:∀{l:L (Nat×α)},distinct (l.map (·.1))=true->(k,v)∈l->ak k l=some v
 |[],_,h=>by simp at h
 |(j,x)::l,J,h=>by
  simp only[abk,distinct]at J;split at J;grind;rename_i T;rw[an];rcases List.mem_cons.1 h with h1|h1
  grind;have:k≠j:=by intro Y;exact cE T (List.mem_map.2 ⟨(k,v),h1,Y⟩)
  rw[if_neg this];exact fV J h1
def oZ{α:Type}{k:Nat}:∀{l:L (Nat×α)},k ∉ l.map (·.1)->ak k l=none
 |[],_=>rfl
 |(j,x)::l,h=>by simp only[abk,abu,not_or]at h;rw[an,if_neg h.1];exact oZ h.2
def nr{α:Type}{k:Nat}{l:L (Nat×α)}(h:ak k l≠none):k∈l.map (·.1):=by by_cases E:k∈l.map (·.1);omega;exact absurd (oZ E) h
def mA{l:L (Nat×Nat)}(h:distinct (l.map (·.2))=true){k k' v:Nat}(h1:(k,v)∈l)(h2:(k',v)∈l):k=k':=by
 induction l with
 |nil=>simp at h1
 |cons x l S =>
  simp only[abk,distinct]at h;split at h;grind;rename_i T;have Y:=cE T;grind
def oD{α:Type}:L (Nat×α)->L (Nat×α)->L (Nat×α)
 |[],b=>b
 |(k,v)::l,b=>oD l (tT k v b)
def sH{α:Type}:L (Nat×α)->L (Nat×α)->Option (L (Nat×α))
 |[],b=>some b
 |(k,v)::l,b=>match wJ k v b with
  |some N=>sH l N
  |none=>none
def Dg{α:Type}:∀(l b:L (Nat×α)),sH l b=some (oD l b)
 |[],b=>rfl
 |(k,v)::l,b=>by simp only[sH,oD,rS,Dg l]
def j8{α:Type}{k:Nat}:∀{l b:L (Nat×α)},distinct (l.map (·.1))=true->ak k (oD l b)=match ak k l with
  |some v=>some v
  |none=>ak k b
 |[],b,_=>rfl
 |(j,x)::l,b,J=>by simp only[abk,distinct]at J;split at J;grind;rename_i T;simp only[oD];rw[j8 J,an];by_cases E:k=j;subst E;rw[if_pos rfl,oZ (cE T)];simp[eu];rw[if_neg E,eu,if_neg E]
def Mq(nb:L (Nat×L AV))(Y:L (Nat×Nat))(W:L Nat)(A:distinct (nb.map (·.1))=true)(p:distinct (Y.map (·.1))=true) :
  gE (λσ=>(⟨oD nb σ.boxes,oD Y σ.toks,W++σ.used⟩:St)) ⟨[],nb.map (·.1)++(Y.map (·.1)++W)⟩ where
 out:=λσ k E=>by simp only[aaV,not_or]at E;refine⟨?_,?_,?_⟩;simp only[j8 A,oZ E.1];simp only[j8 p,oZ E.2.1];simp_all
 same:=λσ B h k E=>by obtain⟨V,U,T⟩:=h k (.inr E);refine⟨?_,?_,?_⟩;simp only[j8 A,V];simp only[j8 p,U];grind
end Go.cB
namespace Go.cB
inductive LV where
 |c (v:CV)
 |own (s:Nat) (rows:List CV)
 deriving Inhabited
inductive PA where
 |v (x:LV)
 |box (cells:List LV)
 deriving Inhabited
def LV.av(k m:Nat):LV->AV
 |.c v => .c v
 |.own s rows => .own (.tok k m) s rows
def LV.tk(k m:Nat):LV->L (Nat×Nat)
 |.c _=>[]
 |.own _ _=>[(k,m)]
def BX(m:Nat):Nat->L LV->L AV
 |_,[]=>[]
 |k,x::l=>x.av k m::BX m (k+1) l
def wX(m:Nat):Nat->L LV->L (Nat×Nat)
 |_,[]=>[]
 |k,x::l=>x.tk k m++wX m (k+1) l
abbrev pb(i:Nat):Nat:=1000000+1000*i
abbrev rk:Nat:=5000000
def zI:Nat->L PA->L AV
 |_,[]=>[]
 |i,.v x::l=>x.av (pb i) 0::zI (i+1) l
 |i,.box _::l => .ptr (pb i) 0::zI (i+1) l
def Hf:Nat->L PA->L (Nat×L AV)
 |_,[]=>[]
 |i,.v _::l=>Hf (i+1) l
 |i,.box cells::l=>(pb i,BX 0 (pb i+1) cells)::Hf (i+1) l
def Dh:Nat->L PA->L (Nat×Nat)
 |_,[]=>[]
 |i,.v x::l=>x.tk (pb i) 0++Dh (i+1) l
 |i,.box cells::l=>wX 0 (pb i+1) cells++Dh (i+1) l
def rJ(p:L PA):St:=⟨Hf 0 p,Dh 0 p,(Hf 0 p).map (·.1)++(Dh 0 p).map (·.1)⟩
def ql:L (Nat×L LV)->L (Nat×L AV)
 |[]=>[]
 |(i,cells)::l=>(pb i,BX 1 (pb i+1) cells)::ql l
def oL:L (Nat×L LV)->L (Nat×Nat)
 |[]=>[]
 |(i,cells)::l=>wX 1 (pb i+1) cells++oL l
def yL(u:L (Nat×L LV))(rs:L LV):St:=⟨ql u,oL u++wX 0 rk rs,(ql u).map (·.1)++(oL u++wX 0 rk rs).map (·.1)⟩
def tK(s:Nat):L LV->AV
 |[] => .c .undef
 |[x]=>x.av (rk+s) 0
 |l => .fG (BX 0 (rk+s) l)
def XF(g:Gh)(rs:L LV)(u:Value):Prop:=aP g (tK 0 rs) u
def ER(β:jq)(rs:L LV)(H:L (Nat×L LV)):Ending->World->Prop:=λe w' =>
 ∃u g',e = .returned u/\XF g' rs u/\Inv w' g' (yL H rs)/\gG β.w β.g β.σ w' g' (yL H rs)
def bW(P:Program)(X:Ctx)(f:FuncId)(p:L PA)(rs:L LV)(u:L (Nat×L LV)):Prop :=
 Enters P f/\∀(g:Gh)(w:World)(vs:L Value),Inv w g (rJ p)->oz X g.G->bM g (zI 0 p) vs ->
  Calls P f vs.toArray w (ER ⟨w,g,rJ p⟩ rs u)
def bW.of{P:Program}{X:Ctx}{f:FuncId}{W:Func}{c:Code}{Y:L PA}{rs:L LV}{S:L (Nat×L LV)}(hf:P.funcs[f]?=some W)(A:W.body=some c)(N:Enters P f)
  (q:Y.length<=W.ntmps)(env:Env)(M:env=((zI 0 Y).zipIdx.map λ(v,i)=>(i,v)))
  (h:∀β,AK P X f W.ntmps β (ER β rs S) [.code c] env (rJ Y)):bW P X f Y rs S:=by
 refine⟨N,λg w vs U J K cs=>?_⟩;have C:=(bM.get K).1;have BY:(zI 0 Y).length=Y.length:=by
  have:∀(l:L PA)(i:Nat),(zI i l).length=l.length:=by
   intro l
   induction l with
   |nil=>intro i;rfl
   |cons p l O=>intro i;cases p<;>simp[zI,O]
  exact this Y 0
 have D:Live X ⟨w,g,rJ Y⟩ W.ntmps env (rJ Y) g w {tmps:=vs.toArray++Array.replicate (W.ntmps-vs.toArray.size) undef,defers:=[]}:=by
  refine⟨U,J,?_,gG.refl _ _ _,?_,Z⟩
  ·intro t a e;subst M;have T:∀(l:L AV)(us:L Value)(k:Nat),bM g l us->ak t ((l.zipIdx k).map λ(v,i)=>(i,v))=some a->k<=t/\∃u,us[t-k]?=some u/\aP g a u:=by
    intro l
    induction l with
    |nil=>intro us k _ e;simp[ak]at e
    |cons v l O =>
     intro us k I e;obtain⟨u,us,rfl,h1,h2⟩:=I;simp only[acr,abk,an]at e;grind
   obtain⟨_,u,V,Q⟩:=T (zI 0 Y) vs 0 K e;simp at V;have H:t<vs.length:=(List.getElem?_eq_some_iff.1 V).1;have:(vs.toArray++Array.replicate (W.ntmps-vs.toArray.size) undef).getD t undef=u:=(by rw[acf,abo aaF];simp[V]);rw[this];exact Q
  simp;omega
 obtain⟨e,w',G,h1,V,Q,E⟩:=h ⟨w,g,rJ Y⟩ g w _ cs D;have B:Frame.enter P f vs.toArray .normal =
   (top f).at {tmps:=vs.toArray++Array.replicate (W.ntmps-vs.toArray.size) undef,defers:=[]} [.code c]:=by
  simp[Frame.enter,Frame.at,hf,A,top]
 exact⟨_,w',G,h1,by rw[B];exact V,Q,E⟩
def bW.ofL{P:Program}{X:Ctx}{f:FuncId}{Y:Func}{c:Code}{p:L PA}{rs:L LV}{u:L (Nat×L LV)}(hf:P.funcs[f]?=some Y)(A:Y.body=some c)(W:Enters P f)
  (O:p.length<=Y.ntmps)(env:Env)(bs:L (Nat×L AV))(ts:L (Nat×Nat))(us:L Nat)(H:env=((zI 0 p).zipIdx.map λ(v,i)=>(i,v)))(M:rJ p=⟨bs,ts,us⟩)
  (h:∀β,AK P X f Y.ntmps β (ER β rs u) [.code c] env ⟨bs,ts,us⟩):bW P X f p rs u :=
 bW.of hf A W O env H λβ=>by rw[M];exact h β
def JW(ts:L (Nat×Nat))(t:Nat):AV->Option (L CV)
 |.own .exact s rows=>match fH s t rows with
  |true=>some rows
  |false=>none
 |.own (.tok k n) s rows=>match ak k ts with
  |some m=>match Nat.beq m n with
   |true=>match Nat.beq s t with
    |true=>some rows
    |false=>none
   |false=>none
  |none=>none
 |_=>none
def EF(ts:L (Nat×Nat)):LV->AV->Prop
 |.c v,a=>close a=some v
 |.own s rows,a=>JW ts s a=some rows
def mW(ts:L (Nat×Nat)):L LV->L AV->Prop
 |[],l=>l=[]
 |x::xs,l=>∃a r,l=a::r/\EF ts x a/\mW ts xs r
def An(m k:Nat):LV->AV->L (Nat×(Nat×Option Nat))
 |.own _ _,.own .exact _ _=>[(k,(m,none))]
 |.own _ _,.own (.tok k' _) _ _=>[(k,(m,some k'))]
 |_,_=>[]
def mX(m:Nat):Nat->L LV->L AV->L (Nat×(Nat×Option Nat))
 |_,[],_=>[]
 |_,_::_,[]=>[]
 |k,x::xs,a::l=>An m k x a++mX m (k+1) xs l
def qF{ts:L (Nat×Nat)}{a:AV}{s:Nat}{rows:L CV}(h:JW ts s a=some rows):(∃q,a = .own .exact q rows/\(q=s\/rows=[]))\/∃k n,a = .own (.tok k n) s rows/\ak k ts=some n:=by unfold JW at h;split at h;split at h;rename_i C;simp at h;subst h;exact .inl ⟨_,rfl,nI C⟩;grind;split at h;rename_i m T;split at h;rename_i A;split at h;rename_i C;simp at h;have:=beq_true A;have:=beq_true C;grind;grind;grind;grind;grind
def Ou{ρ:Ren}{ts:L (Nat×Nat)}{m k:Nat}:∀{x:LV}{a:AV},EF ts x a->(∀e∈An m k x a,ρ.tk e.1=some e.2)->Conv ρ ts (x.av k m) a
 |.c v,a,h,_=>by simp only[EF]at h;exact .inr h
 |.own s rows,a,h,A=>by
  rcases qF h with ⟨q,rfl,hq⟩|⟨k',n,rfl,O⟩
  exact⟨none,A (k,(m,none)) (by simp[An]),.inl ⟨Z,q,Z,hq⟩⟩;exact⟨some k',A (k,(m,some k')) (by simp[An]),.inr ⟨k',n,Z,O,Z⟩⟩
def yM{ρ:Ren}{ts:L (Nat×Nat)}{m:Nat}:∀{k:Nat}{xs:L LV}{l:L AV},mW ts xs l->(∀e∈mX m k xs l,ρ.tk e.1=some e.2)->fO ρ ts (BX m k xs) l
 |k,[],l,h,_=>by simp only[mW]at h;subst h;simp[BX,fO]
 |k,x::xs,l,h,A=>by obtain⟨a,r,rfl,h1,h2⟩:=h;simp only[mX,aaV]at A;exact⟨a,r,rfl,Ou h1 (λe Y=>A e (.inl Y)),yM h2 (λe Y=>A e (.inr Y))⟩
def JX{ts:L (Nat×Nat)}{m k j n:Nat}:∀{x:LV}{a:AV},EF ts x a->(j,n)∈x.tk k m->n=m/\∃o,(j,(m,o))∈An m k x a/\∀J,o=some J->∃K,ak J ts=some K
 |.c v,a,h,T=>by simp[LV.tk]at T
 |.own s rows,a,h,T=>by
  simp[LV.tk]at T;obtain⟨rfl,rfl⟩:=T;rcases qF h with ⟨q,rfl,hq⟩|⟨k',K,rfl,O⟩
  exact⟨Z,none,by simp[An],λ_ h=>by simp at h⟩;exact⟨rfl,some k',by simp[An],λJ h=>by simp at h;subst h;exact⟨K,O⟩⟩
def vH{ts:L (Nat×Nat)}{m j n:Nat}:∀{k:Nat}{xs:L LV}{l:L AV},mW ts xs l->(j,n)∈wX m k xs->n=m/\∃o,(j,(m,o))∈mX m k xs l/\∀J,o=some J->∃K,ak J ts=some K
 |k,[],l,h,T=>by simp[wX]at T
 |k,x::xs,l,h,T=>by
  obtain⟨a,r,rfl,h1,h2⟩:=h;simp only[wX,aaV]at T;simp only[mX,aaV];rcases T with T|T
  obtain⟨Y,o,B,U⟩:=JX h1 T;exact⟨Y,o,.inl B,U⟩;obtain⟨Y,o,B,U⟩:=vH h2 T;exact⟨Y,o,.inr B,U⟩
def JY{ts:L (Nat×Nat)}{m k:Nat}:∀{x:LV}{a:AV},EF ts x a->∀e∈An m k x a,e.1∈(x.tk k m).map (·.1)
 |.c v,a,h,e,Y=>by cases a<;>simp[An]at Y
 |.own s rows,a,h,e,Y=>by rcases qF h with ⟨q,rfl,hq⟩|⟨k',K,rfl,O⟩<;>simp[An]at Y<;>subst Y<;>simp[LV.tk]
def vI{ts:L (Nat×Nat)}{m:Nat}:∀{k:Nat}{xs:L LV}{l:L AV},mW ts xs l->∀e∈mX m k xs l,e.1∈(wX m k xs).map (·.1)
 |k,[],l,h,e,he=>by simp only[mW]at h;simp[mX]at he
 |k,x::xs,l,h,e,he=>by obtain⟨a,r,rfl,h1,h2⟩:=h;simp only[mX,aaV]at he;simp only[wX,abr,aaV];exact he.imp (JY h1 e) (vI h2 e)
def nR(bs:L (Nat×L AV))(ts:L (Nat×Nat)):L PA->L AV->Prop
 |[],l=>l=[]
 |.v x::ps,l=>∃a r,l=a::r/\EF ts x a/\nR bs ts ps r
 |.box cells::ps,l=>∃O D r,l = .ptr O 0::r/\ak O bs=some D/\mW ts cells D/\nR bs ts ps r
def jB(bs:L (Nat×L AV)):Nat->L PA->L AV->L (Nat×Nat)
 |_,[],_=>[]
 |_,_::_,[]=>[]
 |i,.v _::ps,_::l=>jB bs (i+1) ps l
 |i,.box _::ps,.ptr kb _::l=>(pb i,kb)::jB bs (i+1) ps l
 |i,.box _::ps,_::l=>jB bs (i+1) ps l
def iZ(bs:L (Nat×L AV)):Nat->L PA->L AV->L (Nat×(Nat×Option Nat))
 |_,[],_=>[]
 |_,_::_,[]=>[]
 |i,.v x::ps,a::l=>An 0 (pb i) x a++iZ bs (i+1) ps l
 |i,.box cells::ps,.ptr kb _::l=>(match ak kb bs with
  |some D=>mX 0 (pb i+1) cells D
  |none=>[])++iZ bs (i+1) ps l
 |i,.box _::ps,_::l=>iZ bs (i+1) ps l
section
variable {bs : L (Nat × L AV)}{ts : L (Nat × Nat)}
def xw{ρ:Ren}:∀{i:Nat}{p:L PA}{l:L AV},nR bs ts p l->(∀e∈jB bs i p l,ρ.bx e.1=some e.2)->(∀e∈iZ bs i p l,ρ.tk e.1=some e.2)->fO ρ ts (zI i p) l
 |i,[],l,h,_,_=>by simp only[nR]at h;subst h;simp[zI,fO]
 |i,.v x::p,l,h,h1,h2=>by obtain⟨a,r,rfl,U,P⟩:=h;simp only[iZ,aaV]at h2;exact⟨a,r,rfl,Ou U (λe Y=>h2 e (.inl Y)),xw P (by simpa only[jB]using h1) (λe Y=>h2 e (.inr Y))⟩
 |i,.box cells::p,l,h,h1,h2=>by obtain⟨O,D,r,rfl,U,P,Q⟩:=h;simp only[iZ,aaV]at h2;simp only[jB,abu]at h1;exact⟨_,r,rfl,by simp only[Conv];exact⟨O,h1 (pb i,O) (.inl rfl),rfl⟩,xw Q (λe Y=>h1 e (.inr Y)) (λe Y=>h2 e (.inr Y))⟩
def rZ:∀{i:Nat}{p:L PA}{l:L AV}{k:Nat}{cells:L AV},nR bs ts p l->(k,cells)∈Hf i p ->
  ∃O D Y,(k,O)∈jB bs i p l/\ak O bs=some D/\cells=BX 0 (k+1) Y/\mW ts Y D/\∀e∈mX 0 (k+1) Y D,e∈iZ bs i p l
 |i,[],l,k,cells,h,T=>by simp[Hf]at T
 |i,.v x::p,l,k,cells,h,T=>by obtain⟨a,r,rfl,U,P⟩:=h;obtain⟨O,D,Y,B,W,V,S,A⟩:=rZ P T;simp only[jB,iZ];grind
 |i,.box cs::p,l,k,cells,h,T=>by
  obtain⟨O,D,r,rfl,U,P,Q⟩:=h;simp only[Hf,abu]at T;simp only[jB,iZ];rcases T with T|T
  grind;obtain⟨N,M,Y,B,W,V,S,A⟩:=rZ Q T;grind
def vJ:∀{i:Nat}{p:L PA}{l:L AV}{j n:Nat},nR bs ts p l->(j,n)∈Dh i p->n=0/\∃o,(j,(0,o))∈iZ bs i p l/\∀J,o=some J->∃K,ak J ts=some K
 |i,[],l,j,n,h,T=>by simp[Dh]at T
 |i,.v x::p,l,j,n,h,T=>by
  obtain⟨a,r,rfl,S,P⟩:=h;simp only[Dh,aaV]at T;simp only[iZ,aaV];rcases T with T|T
  obtain⟨Y,o,B,U⟩:=JX S T;exact⟨Y,o,.inl B,U⟩;obtain⟨Y,o,B,U⟩:=vJ P T;exact⟨Y,o,.inr B,U⟩
 |i,.box cs::p,l,j,n,h,T=>by
  obtain⟨O,D,r,rfl,S,P,Q⟩:=h;simp only[Dh,aaV]at T;simp only[iZ,S,aaV];rcases T with T|T
  obtain⟨Y,o,B,U⟩:=vH P T;exact⟨Y,o,.inl B,U⟩;obtain⟨Y,o,B,U⟩:=vJ Q T;exact⟨Y,o,.inr B,U⟩
def xx:∀{i:Nat}{p:L PA}{l:L AV},nR bs ts p l->(∀e∈jB bs i p l,e.1∈(Hf i p).map (·.1))/\(∀e∈iZ bs i p l,e.1∈(Dh i p).map (·.1))
 |i,[],l,h=>by simp only[nR]at h;simp[jB,iZ]
 |i,.v x::p,l,h=>by obtain⟨a,r,rfl,U,P⟩:=h;obtain⟨S,W⟩:=xx (i:=i+1) P;simp only[iZ,Dh,aaV,abr];exact⟨S,λe Y=>Y.imp (JY U e) (W e)⟩
 |i,.box cs::p,l,h=>by obtain⟨O,D,r,rfl,U,P,Q⟩:=h;obtain⟨S,W⟩:=xx (i:=i+1) Q;simp only[jB,iZ,Hf,Dh,U,aaV,abr];refine⟨λe Y=>?_,λe Y=>Y.imp (vI P e) (W e)⟩;grind
def cG:L (Nat×(Nat×Option Nat))->L Nat
 |[]=>[]
 |(_,(_,some k))::l=>k::cG l
 |(_,(_,none))::l=>cG l
def sY{l:L (Nat×(Nat×Option Nat))}{J:Nat}:J∈cG l↔∃k m,(k,(m,some J))∈l:=by
 induction l with
 |nil=>simp[cG]
 |cons x l S =>
  obtain⟨k,m,o⟩:=x;cases o with
  |none=>simp[cG,S]
  |some k' =>
   simp only[cG,abu,S];constructor;rintro(rfl|⟨a,b,h⟩);grind;grind;grind
def sZ{l:L (Nat×(Nat×Option Nat))}(h:distinct (cG l)=true){k k' m S J:Nat}(h1:(k,(m,some J))∈l)(h2:(k',(S,some J))∈l):k=k':=by
 induction l with
 |nil=>simp at h1
 |cons x l O =>
  obtain⟨q,p,o⟩:=x;cases o with
  |none =>
   simp at h1 h2;exact O h h1 h2
  |some z =>
   simp only[cG,distinct]at h;split at h;grind;rename_i T;have Y:=cE T;rcases List.mem_cons.1 h1 with W|W
   ·rcases List.mem_cons.1 h2 with B|B
    grind;simp at W;rw[W.2.2]at B;exact absurd (sY.2 ⟨_,_,B⟩) Y
   rcases List.mem_cons.1 h2 with B|B
   simp at B;rw[B.2.2]at W;exact absurd (sY.2 ⟨_,_,W⟩) Y;simp_all
def wN(bs:L (Nat×L AV))(p:L PA)(l:L AV):Ren:=⟨λk=>ak k (jB bs 0 p l),λk=>ak k (iZ bs 0 p l)⟩
end
structure r8(bs:List (Nat×List AV))(ts:List (Nat×Nat))(ps:List PA)(l:List AV):Prop where
 ok:nR bs ts ps l
 d1:distinct ((jB bs 0 ps l).map (·.1))=true
 d2:distinct ((jB bs 0 ps l).map (·.2))=true
 d3:distinct ((iZ bs 0 ps l).map (·.1))=true
 d4:distinct (cG (iZ bs 0 ps l))=true
def r8.inv{σ:St}{p:L PA}{l:L AV}(h:r8 σ.boxes σ.toks p l){w:World}{g:Gh}(W:Inv w g σ):Inv w (g.fQ (wN σ.boxes p l)) (rJ p):=by
 refine(W.fQ (wN σ.boxes p l) (rJ p) ?_ ?_ ?_ ?_ ?_).1;intro k cells e;obtain⟨N,D,P,Y,B,U,V,A⟩:=rZ h.ok (dj e);refine⟨N,D,fV h.d1 Y,B,?_⟩;subst U;exact yM V λe T=>fV h.d3 (A e T);intro k k' J Y B;exact mA h.d2 (dj Y) (dj B);intro k n e;obtain⟨rfl,o,Y,B⟩:=vJ h.ok (dj e);exact⟨o,fV h.d3 Y,B⟩;intro k k' m M J Y B;exact sZ h.d4 (dj Y) (dj B);intro k e;obtain⟨S,Q⟩:=xx (i:=0) h.ok;simp only[rJ,aaV];rcases e with e|e
 left;obtain⟨x,O,rfl⟩:=List.mem_map.1 (nr e);exact S x O;right;obtain⟨x,O,rfl⟩:=List.mem_map.1 (nr e);exact Q x O
def r8.rel{σ:St}{p:L PA}{l:L AV}(h:r8 σ.boxes σ.toks p l){w:World}{g:Gh}(W:Inv w g σ){vs:L Value}(q:bM g l vs):bM (g.fQ (wN σ.boxes p l)) (zI 0 p) vs :=
 (uF (oa W) (xw (ρ:=wN σ.boxes p l) h.ok (λe Y=>fV h.d1 Y) (λe Y=>fV h.d3 Y)) q).1
end Go.cB
namespace Go.cB
def pz(s:Nat):L (Nat×Nat)->L (Nat×Nat)
 |[]=>[]
 |(k,n)::l=>(k+s,n)::pz s l
def pE(ts:L (Nat×Nat)):L Nat->L (Nat×Nat)
 |[]=>[]
 |k::l=>match ak k ts with
  |some n=>(k,n+1)::pE ts l
  |none=>pE ts l
def Mr(m:Nat):Nat->L LV->Option (L AV)
 |_,[]=>some []
 |k,.c v::l=>match Mr m (k+1) l with
  |some r=>some (.c v::r)
  |none=>none
 |k,.own s rows::l=>match Mr m (k+1) l with
  |some r=>some (.own (.tok k m) s rows::r)
  |none=>none
def BZ(m:Nat):∀(k:Nat)(l:L LV),Mr m k l=some (BX m k l)
 |_,[]=>rfl
 |k,.c v::l=>by simp only[Mr,BZ m (k+1) l,BX,LV.av]
 |k,.own s rows::l=>by simp only[Mr,BZ m (k+1) l,BX,LV.av]
def Gz(bx:L (Nat×Nat))(s:Nat):L (Nat×L LV)->Option (L (Nat×L AV))
 |[]=>some []
 |(i,cells)::l=>match ak (pb i) bx with
  |some O=>match Mr 1 (pb i+1+s) cells with
   |some c=>match Gz bx s l with
    |some r=>some ((O,c)::r)
    |none=>none
   |none=>none
  |none=>none
def fK{α:Type}:L (Nat×α)->L Nat
 |[]=>[]
 |(k,_)::l=>k::fK l
def kM{α:Type}:∀(l:L (Nat×α)),fK l=l.map (·.1)
 |[]=>rfl
 |(k,_)::l=>by simp[fK,kM l]
def Di(l:L Nat):L Nat->Bool
 |[]=>true
 |x::r=>match mem x l with
  |true=>Di l r
  |false=>false
def Hg(l:L Nat):L Nat->Bool
 |[]=>true
 |x::r=>match mem x l with
  |true=>false
  |false=>Hg l r
def r9{l:L Nat}:∀{r:L Nat},Di l r=true->∀x∈r,x∈l
 |[],_,x,h=>by simp at h
 |y::r,h,x,O=>by
  simp only[Di]at h;split at h
  ·rename_i T;rcases List.mem_cons.1 O with rfl|O
   exact mem_iff.1 T;exact r9 h x O
  grind
def Dj{l:L Nat}:∀{r:L Nat},Hg l r=true->∀x∈r,x ∉ l
 |[],_,x,h=>by simp at h
 |y::r,h,x,O=>by
  simp only[Hg]at h;split at h;grind;rename_i T;rcases List.mem_cons.1 O with rfl|O
  exact cE T;exact Dj h x O
def Dk{s:Nat}:∀{l:L (Nat×Nat)}{k n:Nat},ak k (pz s l)=some n->∃j,k=j+s/\ak j l=some n
 |[],k,n,h=>by simp[pz,ak]at h
 |(j,m)::l,k,n,h=>by simp only[pz,an]at h;split at h;rename_i E;exact⟨j,E,by rw[an,if_pos rfl];exact h⟩;rename_i E;obtain⟨i,rfl,h2⟩:=Dk h;exact⟨i,rfl,by rw[an,if_neg bn];exact h2⟩
def Ba{s:Nat}:∀{l:L (Nat×Nat)}{j:Nat},ak (j+s) (pz s l)=ak j l
 |[],j=>rfl
 |(i,m)::l,j=>by simp only[pz,an];by_cases h:j=i;grind;rw[if_neg bn,if_neg h,Ba]
def Bb{α:Type}{k:Nat}:∀{a b:L (Nat×α)},ak k (a++b)=match ak k a with
  |some v=>some v
  |none=>ak k b
 |[],b=>rfl
 |(j,x)::a,b=>by simp only[abh,an];split;rfl;exact Bb
def xy{ts:L (Nat×Nat)}:∀{l:L Nat}{k n:Nat},ak k (pE ts l)=some n->k∈l/\∃m,ak k ts=some m/\n=m+1
 |[],k,n,h=>by simp[pE,ak]at h
 |j::l,k,n,h=>by
  simp only[pE]at h
  split at h
  ·rename_i m hm
   rw[an]at h
   split at h
   ·grind
   ·obtain⟨h1,h2⟩:=xy h;exact⟨T1,h2⟩
  ·obtain⟨h1,h2⟩:=xy h;exact⟨T1,h2⟩
def Ao{ts:L (Nat×Nat)}:∀{l:L Nat}{k m:Nat},k∈l->ak k ts=some m->ak k (pE ts l)=some (m+1)
 |[],k,m,h,_=>by simp at h
 |j::l,k,m,h,hm=>by
  simp only[pE];by_cases E:k=j;subst E;rw[hm];simp[an];have U:k∈l:=by simpa[E]using h
  split;rw[an,if_neg E];exact Ao U hm;exact Ao U hm
def JZ{bx:L (Nat×Nat)}{s:Nat}:∀{u:L (Nat×L LV)}{nb:L (Nat×L AV)},Gz bx s u=some nb ->
  (∀k v,(k,v)∈nb->∃i cells,(i,cells)∈u/\ak (pb i) bx=some k/\v=BX 1 (pb i+1+s) cells)/\(∀i cells k,(i,cells)∈u->ak (pb i) bx=some k->k∈nb.map (·.1))
 |[],nb,h=>by simp[Gz]at h;subst h;simp
 |(i,cells)::u,nb,h=>by simp only[Gz,BZ]at h;split at h;rename_i O Y;split at h;rename_i r A;obtain⟨h1,h2⟩:=JZ A;grind;grind;grind
def yN:∀{os:L (Nat×L LV)}{k:Nat}{v:L AV},(k,v)∈ql os->∃i cells,(i,cells)∈os/\k=pb i/\v=BX 1 (pb i+1) cells
 |[],k,v,h=>by simp[ql]at h
 |(i,cells)::os,k,v,h=>by
  simp only[ql,abu]at h
  rcases h with h|h
  ·grind
  ·obtain⟨i',c',h1,h2,h3⟩:=yN h;exact⟨i',c',T1,h2,h3⟩
def J0:∀{u:L (Nat×L LV)}{i:Nat}{cells:L LV},(i,cells)∈u->(pb i,BX 1 (pb i+1) cells)∈ql u
 |[],i,cells,h=>by simp at h
 |(j,c)::u,i,cells,h=>by
  simp only[ql,abu];rcases List.mem_cons.1 h with h|h
  grind;exact .inr (J0 h)
def J1:∀{u:L (Nat×L LV)}{i:Nat}{cells:L LV}{e:Nat×Nat},(i,cells)∈u->e∈wX 1 (pb i+1) cells->e∈oL u
 |[],i,cells,e,h,_=>by simp at h
 |(j,c)::u,i,cells,e,h,he=>by
  simp only[oL,aaV];rcases List.mem_cons.1 h with h|h
  grind;exact .inr (J1 h he)
section
variable {g g' : Gh}{s : Nat}
def LV.shift(O:g.G.le g'.G){m k:Nat}:∀{x:LV}{u:Value},(∀e∈x.tk k m,g'.tok (e.1+s)=g.tok e.1)->aP g (x.av k m) u->aP g' (x.av (k+s) m) u/\((x.av k m).one=true->(x.av (k+s) m).one=true)
 |.c v,u,_,h=>by exact⟨Rel.mono O _ _ h,λh=>h⟩
 |.own q rows,u,A,h=>by obtain⟨base,B,E,Y,W,U,p,V,T,Q,S⟩:=h;refine⟨⟨base,B,E,Y,W,U,p.mono O,V,T,?_,S⟩,λ_=>rfl⟩;have:=A (k,m) (by simp[LV.tk]);grind
def FF(O:g.G.le g'.G){m:Nat}:∀{k:Nat}{xs:L LV}{us:L Value},(∀e∈wX m k xs,g'.tok (e.1+s)=g.tok e.1)->bM g (BX m k xs) us->bM g' (BX m (k+s) xs) us
 |k,[],us,_,h=>by simp only[BX]at h ⊢;exact h
 |k,x::xs,us,A,h=>by simp only[wX,aaV]at A;obtain⟨u,us',B,W,U⟩:=h;refine⟨u,us',B,(LV.shift O (λe Y=>A e (.inl Y)) W).1,?_⟩;have:=FF O (k:=k+1) (λe Y=>A e (.inr Y)) U;grind
def Bc(O:g.G.le g'.G){w:World}{m b:Nat}:∀{k:Nat}{xs:L LV}{o:Nat},(∀e∈wX m k xs,g'.tok (e.1+s)=g.tok e.1)->bU w g b o (BX m k xs)->bU w g' b o (BX m (k+s) xs)
 |k,[],o,_,h=>trivial
 |k,x::xs,o,ht,h=>by simp only[wX,aaV]at ht;obtain⟨⟨u,p,M,W⟩,c4,c5⟩:=h;obtain⟨B,V⟩:=LV.shift (k:=k) O (λe Y=>ht e (.inl Y)) M;have:=Bc O (k:=k+1) (λe Y=>ht e (.inr Y)) c5;rw[show k+1+s=k+s+1 from by omega]at this;exact⟨⟨u,p,B,V W⟩,c4,this⟩
def Dl(m:Nat):∀(k:Nat)(xs:L LV),(BX m k xs).length=xs.length
 |_,[]=>rfl
 |k,x::xs=>by simp[BX,Dl m (k+1) xs]
end
def o8(nb:L (Nat×L AV))(Y:L (Nat×Nat))(W:L Nat)(σ:St):St:=⟨oD nb σ.boxes,oD Y σ.toks,W++σ.used⟩
set_option maxHeartbeats 1000000 in
def PE{w w':World}{g g':Gh}{σ:St}{ps:L PA}{l:L AV}{os:L (Nat×L LV)}{rs:L LV}(hi:Inv w g σ)(H:r8 σ.boxes σ.toks ps l)
  (hi':Inv w' g' (yL os rs))(hk:gG w (g.fQ (wN σ.boxes ps l)) (rJ ps) w' g' (yL os rs))(s:Nat){nb:L (Nat×L AV)}(hnb:Gz (jB σ.boxes 0 ps l) s os=some nb)
  (hall:∀x∈(jB σ.boxes 0 ps l).map (·.1),x∈(ql os).map (·.1)){fr:L (Nat×Nat)}(hfr:fr=pz s (oL os++wX 0 rk rs)){bu:L (Nat×Nat)}(Q9:bu=pE σ.toks (cG (iZ σ.boxes 0 ps l)))
  (Lz:distinct ((ql os).map (·.1))=true)(jc:distinct (nb.map (·.1))=true)(iF:distinct ((fr++bu).map (·.1))=true)(hfu:∀x∈fr.map (·.1),x ∉ σ.used)(hot:distinct ((oL os++wX 0 rk rs).map (·.1))=true) :
  ∃xh,Inv w' xh (o8 nb (fr++bu) (fr.map (·.1)) σ)/\gG w g σ w' xh (o8 nb (fr++bu) (fr.map (·.1)) σ)/\g.le xh/\∀u,aP g' (tK 0 rs) u->aP xh (tK s rs) u:=by
 have hts:=oa hi;let gc:=g.fQ (wN σ.boxes ps l)
 let xh:Gh:=⟨g'.G,g.box,λk=>match ak k fr with
  |some _=>g'.tok (k-s)
  |none=>match ak k bu with
   |some n=>some (n,none)
   |none=>g.tok k,g.room⟩
 have Ms:∀k cs b,ak k (rJ ps).boxes=some cs->gc.box k=some b->∃kb oc,(k,kb)∈jB σ.boxes 0 ps l/\ak kb σ.boxes=some oc/\g.box kb=some b:=by intro k cs b e e1;obtain⟨kb,oc,QD,f1,f2,_⟩:=rZ H.ok (dj e);refine⟨kb,oc,f1,f2,?_⟩;have:(wN σ.boxes ps l).bx k=some kb:=fV H.d1 f1;simpa only[gc,Gh.fQ,this]using e1
 have Sz:∀k n b lo hi,ak k (rJ ps).toks=some n->gc.tok k=some (n,some (b,lo,hi))->∃old n',old∈cG (iZ σ.boxes 0 ps l)/\ak old σ.toks=some n'/\g.tok old=some (n',some (b,lo,hi)):=by
  intro k n b lo hi e e1;obtain⟨rfl,o,f1,f2⟩:=vJ H.ok (dj e);have h1:(wN σ.boxes ps l).tk k=some (0,o):=fV H.d3 f1;cases o with
  |none=>simp[gc,Gh.fQ,h1]at e1
  |some old =>
   obtain⟨n',h3⟩:=f2 old rfl;obtain⟨fI,h4⟩:=hts old n' h3;simp[gc,Gh.fQ,h1,h4]at e1;subst e1;exact⟨old,n',sY.2 ⟨k,0,f1⟩,h3,h4⟩
 have Mt:∀b o,ir gc (rJ ps) b o->ir g σ b o:=by rintro b o (⟨k,cs,h1,h2⟩|⟨k,n,lo,hi',h1,h2,h3,h4⟩);obtain⟨kb,oc,_,f2,f3⟩:=Ms k cs b h1 h2;exact .inl ⟨kb,oc,f2,f3⟩;obtain⟨old,n',_,f2,f3⟩:=Sz k n b lo hi' h1 h2;exact .inr ⟨old,n',lo,hi',f2,f3,h3,h4⟩
 have hfree:∀k0 c0 b,ak k0 σ.boxes=some c0->g.box k0=some b->k0 ∉ (jB σ.boxes 0 ps l).map (·.2)->∀o,¬ir gc (rJ ps) b o:=by rintro k0 c0 b e1 e2 e3 o (⟨k,cs,h1,h2⟩|⟨k,n,lo,hi',h1,h2,h3,h4⟩);obtain⟨kb,oc,f1,f2,f3⟩:=Ms k cs b h1 h2;have:=hi.fq k0 kb c0 oc b e1 f2 e2 f3;subst this;exact e3 (List.mem_map.2 ⟨_,f1,Z⟩);obtain⟨old,n',_,f2,f3⟩:=Sz k n b lo hi' h1 h2;obtain⟨fI,f4,f5⟩:=hi.tok old n' f2;rw[f3]at f4;simp at f4;exact(f5 b lo hi' f4.symm).2.2 k0 c0 e1 e2
 have XG:∀k0 n0 b Es qh,ak k0 σ.toks=some n0->g.tok k0=some (n0,some (b,Es,qh))->k0 ∉ cG (iZ σ.boxes 0 ps l)->∀o,¬ir gc (rJ ps) b o:=by rintro k0 n0 b Es qh e1 e2 e3 o (⟨k,cs,h1,h2⟩|⟨k,n,lo,hi',h1,h2,h3,h4⟩);obtain⟨kb,oc,f1,f2,f3⟩:=Ms k cs b h1 h2;obtain⟨fI,f4,f5⟩:=hi.tok k0 n0 e1;rw[e2]at f4;simp at f4;exact(f5 b Es qh f4.symm).2.2 kb oc f2 f3;obtain⟨old,n',f1,f2,f3⟩:=Sz k n b lo hi' h1 h2;have:=hi.gh k0 old n0 n' b Es qh lo hi' e1 f2 e2 f3;subst this;exact e3 f1
 have hsame:∀b,b<w.heap.size->(∀o,¬ir gc (rJ ps) b o)->∀o,w'.cell? ⟨b,o,none⟩=w.cell? ⟨b,o,none⟩/\w'.frozen? ⟨b,o,none⟩=w.frozen? ⟨b,o,none⟩:=λb h1 h2 o=>hk.kept b o h1 (h2 o);have XH:∀b o,b<w.heap.size->¬ir gc (rJ ps) b o->g.G b o=none->g'.G b o=none:=by
  intro b o h1 h2 h3;cases hg:g'.G b o with
  |none=>rfl
  |some v =>
   rcases hk.new b o v hg with h|h|h
   change g.G b o=some v at h;rw[h3]at h;simp at h;omega;exact absurd h h2
 have Zt:∀k n,ak k fr=some n->∃j,k=j+s/\ak j (oL os++wX 0 rk rs)=some n/\k ∉ σ.used/\xh.tok k=g'.tok j:=by intro k n e;have Cj:=dj e;subst hfr;obtain⟨j,rfl,h2⟩:=Dk e;exact⟨j,Z,h2,hfu _ (List.mem_map.2 ⟨_,Cj,Z⟩),by simp only[xh,e,adI]⟩
 have Zu:∀k n,ak k bu=some n->k∈cG (iZ σ.boxes 0 ps l)/\∃m,ak k σ.toks=some m/\n=m+1:=by intro k n e;subst Q9;exact xy e
 have Zv:∀e∈(oL os++wX 0 rk rs),xh.tok (e.1+s)=g'.tok e.1:=by
  intro e he;have h1:ak (e.1+s) fr=some e.2:=by rw[hfr,Ba];exact fV hot he
  simp only[xh,h1,adI]
 have hle:g.le xh:=by
  refine⟨hk.le,λ_ _ h=>h,λ_ _ _=>rfl,λk hw fI e=>?_⟩;cases h1:ak k fr with
  |some n =>
   obtain⟨j,_,_,h2,_⟩:=Zt k n h1;exact absurd (hi.used k (.inr (by rw[e];simp))) h2
  |none =>
   cases h2:ak k bu with
   |some n =>
    obtain⟨_,m,h3,rfl⟩:=Zu k n h2;obtain⟨CS,h4⟩:=hts k m h3;rw[e]at h4;simp at h4;exact⟨m+1,none,by simp only[xh,h1,h2],bn,bn⟩
   |none=>exact⟨hw,fI,by simp only[xh,h1,h2];exact e,aal _,λ_=>rfl⟩
 obtain⟨ob1,ob2⟩:=JZ hnb;have zG:∀k cs,ak k (oD nb σ.boxes)=some cs->(∃oc,ak k σ.boxes=some oc)/\∃b,g.box k=some b/\b<w.heap.size/\(∀o,g'.G b o=none)/\bU w' xh b 0 cs/\∀o,(o<g.room k->∃u,w'.cell? ⟨b,o,none⟩=some u)/\w'.frozen? ⟨b,o,none⟩=false:=by
  intro k cs e;rw[j8 jc]at e;split at e
  ·rename_i v hv;simp at e;subst e;obtain⟨i,cells,h1,h2,rfl⟩:=ob1 k v (dj hv);have hmem:=dj h2;have h3:ak (pb i) (ql os)=some (BX 1 (pb i+1) cells):=fV Lz (J0 h1);have h4:=hk.ids (pb i) (Nat.le_add_right _ _) (by show ak (pb i) (ql os)≠none;rw[h3];simp);cases hc:ak (pb i) (rJ ps).boxes with
   |none=>exact absurd hc h4.1
   |some ic =>
    obtain⟨kb,oc,QD,f1,f2,_⟩:=rZ H.ok (dj hc);have:ak (pb i) (jB σ.boxes 0 ps l)=some kb:=fV H.d1 f1;rw[h2]at this;simp at this;subst this;obtain⟨b,b1,b2,b3,b4⟩:=hi.box k oc f2;obtain⟨b',c1,c2,c3,c4⟩:=hi'.box (pb i) _ h3;have wv:gc.box (pb i)=some b:=(by have:(wN σ.boxes ps l).bx (pb i)=some k:=h2;simp only[gc,Gh.fQ,this,b1]);have XI:gc.room (pb i)=g.room k:=(by have:(wN σ.boxes ps l).bx (pb i)=some k:=h2;simp only[gc,Gh.fQ,this]);have Ys:=hi'.room (pb i) _ b' h3 c1;rw[h4.2.2,XI]at Ys;rw[h4.2.1,wv]at c1;simp at c1;subst c1;refine⟨⟨oc,f2⟩,b,b1,b2,c3,?_,Ys⟩;have:=Bc (g:=g') (g':=xh) (s:=s) (ja.le.refl _) (k:=pb i+1) (λe he=>Zv e (List.mem_append.2 (.inl (J1 h1 he)))) c4;rwa[show pb i+1+s=pb i+1+s from rfl]at this
  rename_i hv;have hnot:k ∉ (jB σ.boxes 0 ps l).map (·.2):=by intro hm;obtain⟨x,hx,rfl⟩:=List.mem_map.1 hm;obtain⟨y,hy,hyx⟩:=List.mem_map.1 (hall x.1 (List.mem_map.2 ⟨x,hx,rfl⟩));obtain⟨i,cells,h1,h2,_⟩:=yN (k:=y.1) (v:=y.2) hy;have h3:ak (pb i) (jB σ.boxes 0 ps l)=some x.2:=(by rw[<- h2,hyx];exact fV H.d1 hx);have h4:=ob2 i cells x.2 h1 h3;obtain⟨z,hz,hzx⟩:=List.mem_map.1 h4;have:=fV (k:=z.1) (v:=z.2) jc hz;rw[hzx,hv]at this;simp at this
  obtain⟨b,b1,b2,b3,b4⟩:=hi.box k cs e;have hno:=hfree k cs b e b1 hnot
  exact⟨⟨cs,e⟩,b,b1,b2,λo=>XH b o b2 (hno o) (b3 o),(bU.of_same (hsame b b2 hno) b4).mono hle,λo=>by
   obtain⟨q1,q2⟩:=hi.room k cs b e b1 o
   exact⟨λho=>(q1 ho).imp λu hu=>(hsame b b2 hno o).1.trans hu,(hsame b b2 hno o).2.trans q2⟩⟩
 have wW:∀k n,ak k (oD (fr++bu) σ.toks)=some n->(∃j,k=j+s/\ak j (oL os++wX 0 rk rs)=some n/\xh.tok k=g'.tok j/\k ∉ σ.used)\/xh.tok k=some (n,none) \/
   (ak k σ.toks=some n/\xh.tok k=g.tok k/\k ∉ cG (iZ σ.boxes 0 ps l)):=by
  intro k n e;rw[j8 iF,Bb]at e;cases h1:ak k fr with
  |some m =>
   rw[h1]at e;simp at e;subst e;obtain⟨j,rfl,h2,h3,h4⟩:=Zt k m h1;exact .inl ⟨j,Z,h2,h4,h3⟩
  |none =>
   rw[h1]at e;simp only at e;cases h2:ak k bu with
   |some m =>
    rw[h2]at e;simp at e;subst e;right;left;simp only[xh,h1,h2]
   |none =>
    rw[h2]at e;simp only at e;right;right;refine⟨e,by simp only[xh,h1,h2],λhm=>?_⟩;rw[Q9,Ao hm e]at h2;simp at h2
 have Hh:∀j n b lo qh,ak j (oL os++wX 0 rk rs)=some n->g'.tok j=some (n,some (b,lo,qh))->w.heap.size<=b\/∃old n',old∈cG (iZ σ.boxes 0 ps l)/\ak old σ.toks=some n'/\∃Es hi1,g.tok old=some (n',some (b,Es,hi1))/\Es<=lo/\qh<=hi1:=by
  intro j n b lo qh e e1;rcases hk.toks j n b lo qh e e1 with h|⟨k0,n0,Es,hi1,h1,h2,h3,h4⟩
  exact .inl h;grind
 refine⟨xh,⟨hi'.oC,?_,?_,?_,?_,?_,?_⟩,⟨hk.os,hk.tape,hk.output,hk.size,λb hb hno=>hk.block b hb λo ho=>hno o (Mt b o ho),λb o hb hno=>hk.kept b o hb λho=>hno (Mt b o ho),hk.le,λb o v h=>(hk.new b o v h).imp id λh=>h.imp id (Mt b o),?_,?_,?_⟩,hle,?_⟩;intro k cs e;obtain⟨_,b,b1,b2,b3,b4,_⟩:=zG k cs e;exact⟨b,b1,abX b2 hk.size,b3,b4⟩;intro k k' cs cs' b e e' e1 e2;obtain⟨⟨oc,h1⟩,_⟩:=zG k cs e;obtain⟨⟨Wm,rC⟩,_⟩:=zG k' cs' e';exact hi.fq k k' oc Wm b h1 rC e1 e2
 ·intro k n e;rcases wW k n e with ⟨j,rfl,h1,h2,_⟩|h1|⟨h1,h2,h3⟩
  ·obtain⟨fI,h3,h4⟩:=hi'.tok j n h1;refine⟨fI,h2.trans h3,λb lo qh hr=>?_⟩;obtain⟨f1,f2,f3⟩:=h4 b lo qh hr;refine⟨f1,f2,λk' cs e'=>?_⟩;obtain⟨⟨oc,g1⟩,b',b1,b2,_⟩:=zG k' cs e';show g.box k'≠some b;rw[b1];intro Ae;simp at Ae;subst Ae;subst hr;rcases Hh j n b' lo qh h1 h3 with h|⟨old,n',_,q2,Es,hi1,q3,_,_⟩
   omega;obtain⟨CS,q4,q5⟩:=hi.tok old n' q2;rw[q3]at q4;simp at q4;exact(q5 _ _ _ q4.symm).2.2 k' oc g1 b1
  simp_all;obtain⟨fI,h4,h5⟩:=hi.tok k n h1;refine⟨fI,h2.trans h4,λb lo qh hr=>?_⟩;obtain⟨f1,f2,f3⟩:=h5 b lo qh hr;subst hr;have hno:=XG k n b lo qh h1 h4 h3;refine⟨abX f1 hk.size,λo o1 o2=>?_,λk' cs e'=>?_⟩;grind;obtain⟨⟨oc,g1⟩,_⟩:=zG k' cs e';exact f3 k' oc g1
 ·intro k k' n n' b lo qh lo' hi1 e e' e1 e2;rcases wW k n e with ⟨j,rfl,h1,h2,Zj⟩|h1|⟨h1,h2,h3⟩
  ·rw[h2]at e1;rcases wW k' n' e' with ⟨j',rfl,rC,yA,_⟩|rC|⟨rC,yA,Yr⟩
   rw[yA]at e2;have:=hi'.gh j j' n n' b lo qh lo' hi1 h1 rC e1 e2;rw[this];simp_all;rw[yA]at e2;exfalso;obtain⟨fI,q1,q2⟩:=hi.tok k' n' rC;rw[e2]at q1;simp at q1;have hlt:=(q2 _ _ _ q1.symm).1;rcases Hh j n b lo qh h1 e1 with h|⟨old,m,r1,r2,Es,hi2,r3,_,_⟩
   omega;have:=hi.gh k' old n' m b lo' hi1 Es hi2 rC r2 e2 r3;subst this;exact Yr r1
  simp_all;rw[h2]at e1;rcases wW k' n' e' with ⟨j',rfl,rC,yA,_⟩|rC|⟨rC,yA,Yr⟩
  ·rw[yA]at e2;exfalso;obtain⟨fI,q1,q2⟩:=hi.tok k n h1;rw[e1]at q1;simp at q1;have hlt:=(q2 _ _ _ q1.symm).1;rcases Hh j' n' b lo' hi1 rC e2 with h|⟨old,m,r1,r2,Es,hi2,r3,_,_⟩
   omega;have:=hi.gh k old n m b lo qh Es hi2 h1 r2 e1 r3;subst this;exact h3 r1
  simp_all;rw[yA]at e2;exact hi.gh k k' n n' b lo qh lo' hi1 h1 rC e1 e2
 ·intro k e;show k∈fr.map (·.1)++σ.used;rw[aaV];rcases e with e|e
  exact .inr (hi.used k (.inl e));cases h1:ak k fr with
  |some m=>exact .inl (List.mem_map.2 ⟨_,dj h1,Z⟩)
  |none =>
   right;cases h2:ak k bu with
   |some m =>
    obtain⟨_,q,h3,_⟩:=Zu k m h2;obtain⟨fI,h4⟩:=hts k q h3;exact hi.used k (.inr (by rw[h4];simp))
   |none=>apply hi.used k;right;simpa only[xh,h1,h2]using e
 intro k cs b e e1;obtain⟨_,b',b1,_,_,_,Ys⟩:=zG k cs e;have PF:g.box k=some b:=e1;rw[b1]at PF;cases PF;exact Ys;intro k cs b e e1;obtain⟨⟨oc,h1⟩,_⟩:=zG k cs e;exact .inr ⟨k,oc,h1,e1⟩
 ·intro k n b lo qh e e1;rcases wW k n e with ⟨j,rfl,h1,h2,_⟩|h1|⟨h1,h2,h3⟩
  grind;simp_all;grind
 ·intro k _ e;cases hc:ak k (oD nb σ.boxes)with
  |none=>exact absurd hc e
  |some cs =>
   obtain⟨⟨oc,h1⟩,_⟩:=zG k cs hc;exact⟨by rw[h1];simp,Z,Z⟩
 intro u h;have hsub:∀e∈wX 0 rk rs,xh.tok (e.1+s)=g'.tok e.1:=λe he=>Zv e (List.mem_append.2 (.inr he))
 match rs,h,hsub with
 |[],h,_=>simp only[tK,aP,Rel]at h ⊢;exact h
 |[x],h,hsub =>
  simp only[tK]at h ⊢;have:=(LV.shift (g:=g') (g':=xh) (s:=s) (ja.le.refl _) (k:=rk) (λe he=>hsub e (by simp only[wX,aaV];exact .inl he)) h).1;exact this
 |x::y::r,h,hsub =>
  simp only[tK,aP]at h ⊢;obtain⟨vs,e1,e2,e3⟩:=h;refine⟨vs,e1,FF (g:=g') (g':=xh) (ja.le.refl _) hsub e2,?_⟩;rw[Dl]at e3 ⊢;exact e3
end Go.cB
namespace Go.cB
def ju:∀{a b:L (Nat×(Nat×Option Nat))},cG (a++b)=cG a++cG b
 |[],b=>rfl
 |(k,m,none)::a,b=>by simp[cG,ju (a:=a)]
 |(k,m,some o)::a,b=>by simp[cG,ju (a:=a)]
section
variable {bs Ov : L (Nat × L AV)}{ts xz : L (Nat × Nat)}
def Dm{m k:Nat}:∀{x:LV}{a:AV},EF ts x a->(∀j∈cG (An m k x a),ak j xz=ak j ts)->EF xz x a
 |.c v,a,h,_=>h
 |.own s rows,a,h,A=>by
  simp only[EF]at h ⊢;rcases qF h with ⟨q,rfl,hq⟩|⟨k',n,rfl,O⟩
  exact h;have:=A k' (by simp[An,cG]);simp only[JW,this,O];simp
def Bd{m:Nat}:∀{k:Nat}{xs:L LV}{l:L AV},mW ts xs l->(∀j∈cG (mX m k xs l),ak j xz=ak j ts)->mW xz xs l
 |k,[],l,h,_=>h
 |k,x::xs,l,h,A=>by obtain⟨a,r,rfl,h1,h2⟩:=h;simp only[mX,ju,aaV]at A;exact⟨a,r,rfl,Dm h1 (λj T=>A j (.inl T)),Bd h2 (λj T=>A j (.inr T))⟩
def uG:∀{i:Nat}{p:L PA}{l:L AV},nR bs ts p l->(∀k∈(jB bs i p l).map (·.2),ak k Ov=ak k bs)->(∀k∈cG (iZ bs i p l),ak k xz=ak k ts) ->
  nR Ov xz p l/\jB Ov i p l=jB bs i p l/\iZ Ov i p l=iZ bs i p l
 |i,[],l,h,_,_=>by simp only[nR]at h;subst h;exact⟨by simp[nR],rfl,rfl⟩
 |i,.v x::p,l,h,h1,h2=>by obtain⟨a,r,rfl,U,P⟩:=h;simp only[iZ,ju,aaV]at h2;obtain⟨S,Y,A⟩:=uG P h1 (λk E=>h2 k (.inr E));refine⟨by simp_all;exact⟨a,r,rfl,Dm U (λj T=>h2 j (.inl T)),S⟩,?_,?_⟩;simp only[jB,Y];simp only[iZ,A]
 |i,.box cells::p,l,h,h1,h2=>by obtain⟨O,D,r,rfl,U,P,Q⟩:=h;simp only[jB,abk,abu,forall_eq_or_imp]at h1;simp only[iZ,U,ju,aaV]at h2;obtain⟨S,Y,A⟩:=uG Q h1.2 (λk E=>h2 k (.inr E));refine⟨by simp only[nR];exact⟨O,D,r,rfl,h1.1.trans U,Bd P (λj T=>h2 j (.inl T)),S⟩,?_,?_⟩;simp only[jB,Y];simp only[iZ,A,h1.1]
end
def Be{ts xz:L (Nat×Nat)}:∀{l:L Nat},(∀k∈l,ak k xz=ak k ts)->pE xz l=pE ts l
 |[],_=>rfl
 |k::l,h=>by simp only[pE,h k c9,Be (l:=l) (λj T=>h j aaI)]
def gq(ρ:Operand->Option AV):L Operand->Option (L AV)
 |[]=>some []
 |x::l=>match ρ x with
  |some a=>match gq ρ l with
   |some r=>some (a::r)
   |none=>none
  |none=>none
def s7{ρ Y:Operand->Option AV}:∀(l:L Operand),(∀x∈l,Y x=ρ x)->gq Y l=gq ρ l
 |[],_=>rfl
 |x::l,h=>by simp only[gq,h x c9,s7 l (λy G=>h y (by simp[G]))]
def Ap{g:Gh}{ρ:Operand->Option AV}{ev:Operand->Value}(Y:∀x v,ρ x=some v->aP g v (ev x)):∀{l:L Operand}{r:L AV},gq ρ l=some r->bM g r (l.map ev)
 |[],r,h=>by simp[gq]at h;subst h;simp[bM]
 |x::l,r,h=>by simp only[gq]at h;split at h;rename_i a W;split at h;rename_i V M;simp at h;subst h;exact⟨_,_,rfl,Y x a W,Ap Y M⟩;grind;grind
def gE.more{A:St->St}{W:L Nat}(h:gE A ⟨[],W⟩)(R:L Nat):gE A ⟨R,W⟩ :=
 ⟨λσ k E=>h.out σ k E,λσ B Y k E=>h.same σ B (λj T=>Y j (T.elim (λx=>by simp at x) .inr)) k E⟩
structure Aq(bs:List (Nat×List AV))(ts:List (Nat×Nat))(us:List Nat)(ps:List PA)(l:List AV)(rs:List LV)(os:List (Nat×List LV))(s:Nat)(nb:List (Nat×List AV))(fr bu:List (Nat×Nat)):Prop where
 H:r8 bs ts ps l
 hnb:Gz (jB bs 0 ps l) s os=some nb
 hall:∀x∈(jB bs 0 ps l).map (·.1),x∈(ql os).map (·.1)
 hfr:fr=pz s (oL os++wX 0 rk rs)
 Q9:bu=pE ts (cG (iZ bs 0 ps l))
 Lz:distinct ((ql os).map (·.1))=true
 jc:distinct (nb.map (·.1))=true
 iF:distinct ((fr++bu).map (·.1))=true
 hfu:∀x∈fr.map (·.1),x ∉ us
 hot:distinct ((oL os++wX 0 rk rs).map (·.1))=true
def Aq.congr{bs Ov:L (Nat×L AV)}{ts xz:L (Nat×Nat)}{us sB:L Nat}{p:L PA}{l:L AV}{rs:L LV}{u:L (Nat×L LV)}{s:Nat}{nb:L (Nat×L AV)}{I W:L (Nat×Nat)}
  (h:Aq bs ts us p l rs u s nb I W)(h1:∀k∈(jB bs 0 p l).map (·.2),ak k Ov=ak k bs)(h2:∀k∈cG (iZ bs 0 p l),ak k xz=ak k ts)(U:∀k∈I.map (·.1),k∈sB↔k∈us) :
  Aq Ov xz sB p l rs u s nb I W:=by
 obtain⟨S,Y,A⟩:=uG h.H.ok h1 h2
 exact⟨⟨S,by rw[Y];exact h.H.d1,by rw[Y];exact h.H.d2,by rw[A];exact h.H.d3,by rw[A];exact h.H.d4⟩,by rw[Y];exact h.hnb,by rw[Y];exact h.hall,h.hfr,by rw[A,Be h2];exact h.Q9,
  h.Lz,h.jc,h.iF,λx O E=>h.hfu x O ((U x O).1 E),h.hot⟩
section
variable {P : Program}{X : Ctx}
def bI.Mu{o:Oper}{env:Env}{σ:St}{f:FuncId}{args:L Operand}(pX:∀x∈args,x∈o.op.operands.toList){S:L AV}(hl:gq (aH X env) args=some S){l:L AV}{p:L PA}{rs:L LV}{V:L (Nat×L LV)}
  (hq:bW P X f p rs V){s:Nat}{nb:L (Nat×L AV)}{I W:L (Nat×Nat)}(C:Aq σ.boxes σ.toks σ.used p l rs V s nb I W)
  (M:∀(g:Gh)(w:World)(a:Act)(A:Env),(∀x∈o.op.operands.toList,aH X A x=aH X env x)->tH g A a.tmps->oz X g.G->∃vs:L Value,bM g l vs/\(execOp a.eval o).run P w = .ok (.enter f vs.toArray) w) :
  bI P X o env σ (tK s rs) (o8 nb (I++W) (I.map (·.1))) ⟨(jB σ.boxes 0 p l).map (·.2)++cG (iZ σ.boxes 0 p l),nb.map (·.1)++((I++W).map (·.1)++I.map (·.1))⟩:=by
 intro A B w g a next Q h1 h2 U T K N;have Y:=C.congr (Ov:=B.boxes) (xz:=B.toks) (sB:=B.used) (λk E=>(h2 k (.inl (List.mem_append.2 (.inl E)))).1) (λk E=>(h2 k (.inl (List.mem_append.2 (.inr E)))).2.1)
  (λk E=>(h2 k (.inr (by simp only[aaV];exact .inr (.inr E)))).2.2)
 obtain⟨vs,J,q⟩:=M g w a A h1 K T;have O:=Y.H.inv U;have D:=Y.H.rel U J;unfold Oper.wp;rw[q,Oper.upon_enter];refine(hq.2 _ w vs O T D).mono ?_;rintro e w' ⟨u,g',rfl,h3,h4,h5⟩;obtain⟨xh,i1,i2,i3,i4⟩:=PE U Y.H h4 h5 s Y.hnb Y.hall Y.hfr Y.Q9 Y.Lz Y.jc Y.iF Y.hfu Y.hot;exact N u w' xh (i4 u h3) i1 i2 i3
def bI.Ra{o:Oper}{env:Env}{σ:St}{f:FuncId}{args:Array Operand}{Y:Array TypeId}(V:o.op = .call {callee := .value (.func f),args:=args,argTypes:=Y})
  {l:L AV}(U:gq (aH X env) args.toList=some l){p:L PA}{rs:L LV}{H:L (Nat×L LV)}
  (hq:bW P X f p rs H){s:Nat}{nb:L (Nat×L AV)}{I u:L (Nat×Nat)}(C:Aq σ.boxes σ.toks σ.used p l rs H s nb I u) :
  bI P X o env σ (tK s rs) (o8 nb (I++u) (I.map (·.1))) ⟨(jB σ.boxes 0 p l).map (·.2)++cG (iZ σ.boxes 0 p l),nb.map (·.1)++((I++u).map (·.1)++I.map (·.1))⟩:=by
 have T:∀x∈args.toList,x∈o.op.operands.toList:=by intro x O;rw[V];simp only[Op.operands,Call.operands,abF,aaV];exact .inr O
 refine bI.Mu T U hq C ?_;intro g w a A h1 Q N;have E:gq (aH X A) args.toList=some l:=by rw[s7 _ (λx O=>h1 x (T x O))];exact U
 refine⟨args.toList.map a.eval,Ap (λx v O=>bV Q N O) E,?_⟩;rw[show(args.toList.map a.eval).toArray=args.map a.eval from by rw[<- aci]];obtain⟨M,J,S,K,W,guard⟩:=o;subst V;simp[execOp,resolve,Deferred.ofValue,invoke,Act.eval,hq.1 _ w]
def abO:L CV->L AV
 |[]=>[]
 |v::l => .c v::abO l
def qS:L Nat->Option (L Nat)
 |[]=>some []
 |x::l=>match qS l with
  |some r=>some (x::r)
  |none=>none
def jA{α:Type}:L (Nat×α)->Option (L (Nat×α))
 |[]=>some []
 |(k,n)::l=>match jA l with
  |some r=>some ((k,n)::r)
  |none=>none
def vL:∀{l r:L Nat},qS l=some r->r=l
 |[],r,h=>by simp[qS]at h;exact h
 |x::l,r,h=>by simp only[qS]at h;split at h;rename_i Y A;simp at h;rw[<- h,vL A];grind
def lW{α:Type}:∀{l r:L (Nat×α)},jA l=some r->r=l
 |[],r,h=>by simp[jA]at h;exact h
 |(k,n)::l,r,h=>by simp only[jA]at h;split at h;rename_i Y A;simp at h;rw[<- h,lW A];grind
def both(a b:Bool):Bool:=match a with
 |true=>b
 |false=>false
def dU{a b:Bool}(h:both a b=true):a=true/\b=true:=by cases a<;>simp_all [both]
def zH(us:L Nat)(bx:L (Nat×Nat))(tk:L (Nat×(Nat×Option Nat)))(Y:L (Nat×L AV))(nb:L (Nat×L AV))(I u W:L (Nat×Nat)):Bool :=
 both (distinct (fK bx)) (both (distinct (bx.map (·.2))) (both (distinct (fK tk)) (both (distinct (cG tk)) (both (Di (fK Y) (fK bx)) (both (distinct (fK Y))
  (both (distinct (fK nb)) (both (distinct (fK (I++u))) (both (Hg us (fK I)) (distinct (fK W))))))))))
def PG{bs:L (Nat×L AV)}{ts:L (Nat×Nat)}{us:L Nat}{p:L PA}{l:L AV}{rs:L LV}{u:L (Nat×L LV)}{s:Nat}{nb:L (Nat×L AV)}{I H:L (Nat×Nat)}
  (hok:nR bs ts p l){bx:L (Nat×Nat)}(K:jA (jB bs 0 p l)=some bx){tk:L (Nat×(Nat×Option Nat))}(J:jA (iZ bs 0 p l)=some tk)(Y:Gz bx s u=some nb)
  (W:jA (pz s (oL u++wX 0 rk rs))=some I)(G:jA (pE ts (cG tk))=some H)(D:zH us bx tk (ql u) nb I H (oL u++wX 0 rk rs)=true):Aq bs ts us p l rs u s nb I H:=by
 have h1:=lW K;have h2:=lW J;have E:=lW W;have C:=lW G;subst h1 h2 E C;obtain⟨V,D⟩:=dU D;obtain⟨M,D⟩:=dU D;obtain⟨U,D⟩:=dU D;obtain⟨c4,D⟩:=dU D;obtain⟨T,D⟩:=dU D;obtain⟨S,D⟩:=dU D;obtain⟨P,D⟩:=dU D;obtain⟨Q,D⟩:=dU D;obtain⟨N,vv⟩:=dU D;simp only[kM]at V M U c4 T S P Q N vv;exact⟨⟨hok,V,M,U,c4⟩,Y,λx O=>r9 T x O,Z,Z,S,P,Q,λx O=>Dj N x O,vv⟩
def LO(d s:Nat)(rs:L LV)(env:Env):Option Env:=match rs with
 |[]=>some ((d,.c .undef)::env)
 |[.c v]=>some ((d,.c v)::env)
 |[.own q rows]=>some ((d,.own (.tok (rk+s) 0) q rows)::env)
 |rs=>match Mr 0 (rk+s) rs with
  |some l=>some ((d,.fG l)::env)
  |none=>none
def Vk{d s:Nat}{rs:L LV}{env env':Env}(h:LO d s rs env=some env'):env'=(d,tK s rs)::env:=by
 match rs,h with
 |[],h=>simp[LO]at h;subst h;rfl
 |[.c v],h=>simp[LO]at h;subst h;rfl
 |[.own q rows],h=>simp[LO]at h;subst h;rfl
 |x::y::r,h=>simp[LO,BZ]at h;subst h;rfl
end
section
variable {P : Program}{X : Ctx}{ops : Array Oper}{o : Oper}{rest : L Oper}{env : Env}{acc : L Fp}{Q : Env -> St -> L Fp -> Prop}{bs : L (Nat × L AV)}{ts : L (Nat × Nat)}{us : L Nat}
def ai.Ra(kn:L Nat)(G:cP ops.toList kn env o=some true){f:FuncId}{args:Array Operand}{B:Array TypeId}(E:o.op = .call {callee := .value (.func f),args:=args,argTypes:=B})
  {p:L PA}{rs:L LV}{H:L (Nat×L LV)}(hq:bW P X f p rs H){l:L AV}(D:gq (aH X env) args.toList=some l)(hok:nR bs ts p l){d:Nat}(A:o.dst=some d)
  {nb:L (Nat×L AV)}{I u W:L (Nat×Nat)}{bx:L (Nat×Nat)}(N:jA (jB bs 0 p l)=some bx){tk:L (Nat×(Nat×Option Nat))}(O:jA (iZ bs 0 p l)=some tk)(V:Gz bx (10000000*(d+1)) H=some nb)
  (U:jA (pz (10000000*(d+1)) (oL H++wX 0 rk rs))=some I)(q:jA (pE ts (cG tk))=some u)(hc:zH us bx tk (ql H) nb I u (oL H++wX 0 rk rs)=true)
  {bs':L (Nat×L AV)}(T:sH nb bs=some bs')(S:jA (I++u)=some W){ts':L (Nat×Nat)}(Y:sH W ts=some ts'){us':L Nat}(tP:qS (fK I++us)=some us')
  {M K:L Nat}(hR:qS (bx.map (·.2)++cG tk)=some M)(hW:qS (fK nb++(fK W++fK I))=some K){env':Env}(he:LO d (10000000*(d+1)) rs env=some env')
  (k:ai P X ops rest env' ⟨bs',ts',us'⟩ (⟨M,K⟩::acc) Q):ai P X ops (o::rest) env ⟨bs,ts,us⟩ acc Q:=by
 have C:=PG hok N O V U q hc;have r2:=Vk he;have hs:=bI.Ra (σ:=⟨bs,ts,us⟩) E D hq C;have e1:=lW S;have e2:=vL tP;have e3:=vL hR;have J:=vL hW;rw[Dg]at T Y;simp at T Y;have hE:gE (o8 nb (I++u) (I.map (·.1))) ⟨(jB bs 0 p l).map (·.2)++cG (iZ bs 0 p l),nb.map (·.1)++((I++u).map (·.1)++I.map (·.1))⟩:=(Mq nb (I++u) (I.map λ(x:Nat×Nat)=>x.1) C.jc C.iF).more _;refine ai.step (cZ G) hs hE ?_;rw[A];show ai P X ops rest ((d,_)::env) _ _ Q;rw[<- r2];simp only[o8];rw[e1]at Y J;rw[T,Y,<- kM I,<- e2];have h1:=lW N;have h2:=lW O;rw[<- h1,<- h2,<- e3,<- kM nb,<- kM (I++u),<- J];exact k
end
end Go.cB
namespace Go.cB
def Vm(ts:L (Nat×Nat)):LV->AV->Option LV
 |.c _,a=>match close a with
  |some v=>some (.c v)
  |none=>none
 |.own s _,a=>match JW ts s a with
  |some rows=>some (.own s rows)
  |none=>none
def yO(ts:L (Nat×Nat)):L LV->L AV->Option (L LV)
 |[],[]=>some []
 |x::xs,a::l=>match Vm ts x a with
  |some y=>match yO ts xs l with
   |some r=>some (y::r)
   |none=>none
  |none=>none
 |_,_=>none
def Ar(bs:L (Nat×L AV))(ts:L (Nat×Nat)):L (Nat×L LV)->Option (L (Nat×L LV))
 |[]=>some []
 |(i,cells)::l=>match ak (pb i) bs with
  |some D=>match yO ts cells D with
   |some y=>match Ar bs ts l with
    |some r=>some ((i,y)::r)
    |none=>none
   |none=>none
  |none=>none
def nv(bs:L (Nat×L AV)):L (Nat×L LV)->L (Nat×(Nat×Option Nat))
 |[]=>[]
 |(i,cells)::l=>(match ak (pb i) bs with
  |some D=>mX 1 (pb i+1) cells D
  |none=>[])++nv bs l
def pY:L (Nat×L LV)->L (Nat×Nat)
 |[]=>[]
 |(i,_)::l=>(pb i,pb i)::pY l
def Vn{ts:L (Nat×Nat)}:∀{x:LV}{a:AV}{y:LV},Vm ts x a=some y->EF ts y a
 |.c _,a,y,h=>by simp only[Vm]at h;split at h;rename_i v q;simp at h;subst h;exact q;grind
 |.own _ _,a,y,h=>by simp only[Vm]at h;split at h;rename_i rows q;simp at h;subst h;exact q;grind
def yP{ts:L (Nat×Nat)}:∀{xs:L LV}{l:L AV}{q:L LV},yO ts xs l=some q->mW ts q l
 |[],[],q,h=>by simp[yO]at h;subst h;simp[mW]
 |[],_::_,q,h=>by simp[yO]at h
 |_::_,[],q,h=>by simp[yO]at h
 |x::xs,a::l,q,h=>by simp only[yO]at h;split at h;rename_i y G;split at h;rename_i r A;simp at h;subst h;exact⟨a,l,rfl,Vn G,yP A⟩;grind;grind
def As(bs:L (Nat×L AV))(ts:L (Nat×Nat)):L (Nat×L LV)->Prop
 |[]=>True
 |(i,cells)::l=>(∃D,ak (pb i) bs=some D/\mW ts cells D)/\As bs ts l
def At{bs:L (Nat×L AV)}{ts:L (Nat×Nat)}:∀{u Y:L (Nat×L LV)},Ar bs ts u=some Y->As bs ts Y
 |[],Y,h=>by simp[Ar]at h;subst h;trivial
 |(i,cells)::l,Y,h=>by simp only[Ar]at h;split at h;rename_i D W;split at h;rename_i y G;split at h;rename_i r A;simp at h;subst h;exact⟨⟨D,W,yP G⟩,At A⟩;grind;grind;grind
def xB{bs:L (Nat×L AV)}{ts:L (Nat×Nat)}:∀{u:L (Nat×L LV)},As bs ts u->∀i cells,(i,cells)∈u->∃D,ak (pb i) bs=some D/\mW ts cells D/\(∀e∈mX 1 (pb i+1) cells D,e∈nv bs u)/\(pb i,pb i)∈pY u
 |[],_,i,cells,h=>by simp at h
 |(j,c)::l,⟨⟨D,h1,h2⟩,h3⟩,i,cells,h=>by
  rcases List.mem_cons.1 h with h|h
  obtain⟨rfl,rfl⟩:=h;exact⟨D,h1,h2,λe Y=>by simp only[nv,h1,aaV];exact .inl Y,by simp[pY]⟩;obtain⟨W,O,A,p,Q⟩:=xB h3 i cells h;exact⟨W,O,A,λe Y=>by simp only[nv,aaV];exact .inr (p e Y),by simp[pY,Q]⟩
def Dn{bs:L (Nat×L AV)}{ts:L (Nat×Nat)}{j n:Nat}:∀{u:L (Nat×L LV)},As bs ts u->(j,n)∈oL u->∃o,(j,(n,o))∈nv bs u/\∀J,o=some J->∃K,ak J ts=some K
 |[],_,h=>by simp[oL]at h
 |(i,c)::l,⟨⟨D,h1,h2⟩,h3⟩,h=>by
  simp only[oL,aaV]at h;simp only[nv,h1,aaV];rcases h with h|h
  obtain⟨rfl,o,B,U⟩:=vH h2 h;exact⟨o,.inl B,U⟩;obtain⟨o,B,U⟩:=Dn h3 h;exact⟨o,.inr B,U⟩
def Dp{bs:L (Nat×L AV)}{ts:L (Nat×Nat)}:∀{u:L (Nat×L LV)},As bs ts u->∀e∈nv bs u,e.1∈(oL u).map (·.1)
 |[],_,e,h=>by simp[nv]at h
 |(i,c)::l,⟨⟨D,h1,h2⟩,h3⟩,e,h=>by simp only[nv,h1,aaV]at h;simp only[oL,abr,aaV];exact h.imp (vI h2 e) (Dp h3 e)
def Dq:∀{u:L (Nat×L LV)}{k v:Nat},(k,v)∈pY u->v=k/\k∈(ql u).map (·.1)
 |[],k,v,h=>by simp[pY]at h
 |(i,c)::l,k,v,h=>by
  simp only[pY,abu]at h;simp only[ql,abk,abu];rcases h with h|h
  grind;obtain⟨Y,B⟩:=Dq h;exact⟨Y,.inr B⟩
section
variable {P : Program}{X : Ctx}{f : FuncId}{n : Nat}{β : jq}{R : Ending -> World -> Prop}{K : L Item}{env : Env}
def oN(hX:cg P X){Y:Func}{σ:St}{g:Gh}{w:World}{a:Act}(D:Live X β n env σ g w a){l:L AV}(h:sV X σ.boxes env Y.results.toList=some l) :
  ∃u,(results Y a.tmps).run P w = .ok u w/\match l with|[]=>u=undef|[x]=>aP g x u|l=>aP g (.fG l) u:=by
 match l,h with
 |[],h =>
  obtain⟨vs,W,B⟩:=BT hX D h;subst B;refine⟨.tuple #[],?_,Z⟩;have:(Y.results.mapM (C7 a.tmps)).run P w = .ok #[] w:=by rw[adr];simp_all
  rw[xl,Sem.run_bind,this];simp
 |[x],h=>exact xm hX D (r:=x) (by unfold oK;rw[h])
 |x::y::r,h=>exact xm hX D (r := .fG (x::y::r)) (by unfold oK;rw[h])
def xC(bx:L (Nat×Nat))(tk:L (Nat×(Nat×Option Nat))):Bool :=
 both (distinct (fK bx)) (both (distinct (bx.map (·.2))) (both (distinct (fK tk)) (distinct (cG tk))))
def FG{σ:St}{g:Gh}{w:World}(I:Inv w g σ){rs:L LV}{u:L (Nat×L LV)}{l:L AV}(A:mW σ.toks rs l)(V:As σ.boxes σ.toks u)
  (D:xC (pY u) (nv σ.boxes u++mX 0 rk rs l)=true)(H:distinct (fK (ql u))=true) :
  let ρ:Ren:=⟨λk=>ak k (pY u),λk=>ak k (nv σ.boxes u++mX 0 rk rs l)⟩
  Inv w (g.fQ ρ) (yL u rs)/\gG w g σ w (g.fQ ρ) (yL u rs)/\fO ρ σ.toks (BX 0 rk rs) l:=by
 intro ρ;obtain⟨p,D⟩:=dU D;obtain⟨C,D⟩:=dU D;obtain⟨W,c4⟩:=dU D;rw[kM]at p W H;have q:fO ρ σ.toks (BX 0 rk rs) l:=yM A λe U=>fV W (List.mem_append.2 (.inr U))
 obtain⟨h1,h2⟩:=I.fQ ρ (yL u rs) (by
   intro k cells e;obtain⟨i,S,Q,rfl,rfl⟩:=yN (dj e);obtain⟨P,N,M,K,G⟩:=xB V i S Q;exact⟨pb i,P,fV p G,N,yM M λe U=>fV W (List.mem_append.2 (.inl (K e U)))⟩) (by
   intro k k' J Y B;exact mA C (dj Y) (dj B)) (by
   intro k m e;have T:=dj e;rcases List.mem_append.1 T with T|T
   obtain⟨o,Y,B⟩:=Dn V T;exact⟨o,fV W (List.mem_append.2 (.inl Y)),B⟩
   ·obtain⟨rfl,o,Y,B⟩:=vH A T;exact⟨o,fV W (List.mem_append.2 (.inr Y)),B⟩) (by
   intro k k' m m' J Y B;exact sZ c4 (dj Y) (dj B)) (by
   intro k e;simp only[yL,aaV,abr];rcases e with e|e
   left;obtain⟨x,O,rfl⟩:=List.mem_map.1 (nr e);exact(Dq (k:=x.1) (v:=x.2) O).2;right;obtain⟨x,O,rfl⟩:=List.mem_map.1 (nr e);rcases List.mem_append.1 O with O|O
   exact .inl (Dp V x O)
   exact .inr (vI A x O))
 refine⟨h1,h2 ?_,q⟩;intro k _ e;cases E:ak k (yL u rs).boxes with
 |none=>exact absurd E e
 |some cells =>
  obtain⟨i,S,Q,rfl,rfl⟩:=yN (dj E);obtain⟨P,N,M,K,G⟩:=xB V i S Q;exact fV p G
def AK.BB(hX:cg P X){V:Func}(hf:P.funcs[f]?=some V){bs:L (Nat×L AV)}{ts:L (Nat×Nat)}{us:L Nat}{rs W:L LV}{H Y:L (Nat×L LV)}{l:L AV}(p:sV X bs env V.results.toList=some l)
  (h1:yO ts rs l=some W)(h2:Ar bs ts H=some Y)(T:both (xC (pY Y) (nv bs Y++mX 0 rk W l)) (distinct (fK (ql Y)))=true)
  (B:W=rs)(S:Y=H):AK P X f n β (ER β rs H) (.code .ret::K) env ⟨bs,ts,us⟩:=by
 subst B S;intro g w a cs D;obtain⟨u,Q,U⟩:=oN hX D p;obtain⟨O,M⟩:=dU T;have hok:=yP h1;obtain⟨N,J,A⟩:=FG D.inv hok (At h2) O M;refine⟨.returned u,w,_,⟨u,_,Z,?_,N,D.frame.trans J⟩,.one step_ret,Z,Z,D.defers,Z,V,hf,Q⟩;have C:=oa D.inv
 match W,hok,A with
 |[],hok,A =>
  subst hok;exact U
 |[x],hok,A =>
  obtain⟨y,r,rfl,_,rfl⟩:=hok;obtain⟨b,r',I,G,_⟩:=A;obtain⟨rfl,_⟩:=I;exact(qE C G U).1
 |x::x'::r,hok,A =>
  obtain⟨y,q,rfl,_,E,q',rfl,_,_⟩:=hok;refine(qE C (b := .fG (y::E::q')) ?_ U).1;exact⟨_,Z,A⟩
def SA(ρ:Ren)(ts:L (Nat×Nat))(env:Env):Env->Prop
 |[]=>True
 |(t,a)::l=>(∃b,ak t env=some b/\Conv ρ ts a b)/\SA ρ ts env l
def FH(ρ:Ren)(ts:L (Nat×Nat))(bs:L (Nat×L AV)):L (Nat×L AV)->Prop
 |[]=>True
 |(k,cells)::l=>(∃J D,ρ.bx k=some J/\ak J bs=some D/\fO ρ ts cells D)/\FH ρ ts bs l
def FI{ρ:Ren}{ts:L (Nat×Nat)}{env:Env}:∀{l:Env},SA ρ ts env l->∀t a,ak t l=some a->∃b,ak t env=some b/\Conv ρ ts a b
 |[],_,t,a,e=>by simp[ak]at e
 |(j,x)::l,h,t,a,e=>by rw[an]at e;split at e;rename_i A;simp at e;subst A e;exact h.1;exact FI h.2 t a e
def si{ρ:Ren}{ts:L (Nat×Nat)}{bs:L (Nat×L AV)}:∀{l:L (Nat×L AV)},FH ρ ts bs l->∀k c,ak k l=some c->∃J D,ρ.bx k=some J/\ak J bs=some D/\fO ρ ts c D
 |[],_,t,a,e=>by simp[ak]at e
 |(j,x)::l,h,t,a,e=>by rw[an]at e;split at e;rename_i A;simp at e;subst A e;exact h.1;exact si h.2 t a e
def J2(ts:L (Nat×Nat))(tk:L (Nat×(Nat×Option Nat))):L (Nat×Nat)->Bool
 |[]=>true
 |(k,n)::l=>match ak k tk with
  |some (m,none)=>both (Nat.beq m n) (J2 ts tk l)
  |some (m,some J)=>match ak J ts with
   |some _=>both (Nat.beq m n) (J2 ts tk l)
   |none=>false
  |none=>false
def Au{ts:L (Nat×Nat)}{tk:L (Nat×(Nat×Option Nat))}:∀{l:L (Nat×Nat)},J2 ts tk l=true->∀k n,ak k l=some n->∃o,ak k tk=some (n,o)/\∀J,o=some J->∃K,ak J ts=some K
 |[],_,k,n,e=>by simp[ak]at e
 |(j,m)::l,h,k,n,e=>by simp only[J2]at h;rw[an]at e;split at h;rename_i S T;obtain⟨p,M⟩:=dU h;split at e;simp_all;exact Au M k n e;rename_i S J T;split at h;rename_i z Y;obtain⟨p,M⟩:=dU h;split at e;simp_all;exact Au M k n e;grind;grind
def FJ:L (Nat×Nat)->Bool
 |[]=>true
 |(k,v)::l=>match Nat.blt k 1000000 with
  |true=>FJ l
  |false=>both (Nat.beq v k) (FJ l)
def vM:∀{l:L (Nat×Nat)},FJ l=true->∀k v,1000000<=k->ak k l=some v->v=k
 |[],_,k,v,_,e=>by simp[ak]at e
 |(j,x)::l,h,k,v,hk,e=>by simp only[FJ]at h;rw[an]at e;split at h;rename_i A;have:j<1000000:=(by simpa using A);rw[if_neg bn]at e;exact vM h k v hk e;obtain⟨p,M⟩:=dU h;split at e;simp_all;exact vM M k v hk e
def SB(bx:L (Nat×Nat))(tk:L (Nat×(Nat×Option Nat)))(ts ts':L (Nat×Nat))(us':L Nat):Bool :=
 both (distinct (bx.map (·.2))) (both (distinct (cG tk)) (both (J2 ts tk ts') (both (FJ bx) (both (Di us' (fK bx)) (Di us' (fK tk))))))
def AK.fQ{bs:L (Nat×L AV)}{ts:L (Nat×Nat)}{us:L Nat}(bx:L (Nat×Nat))(tk:L (Nat×(Nat×Option Nat))){env':Env}{bs':L (Nat×L AV)}{ts':L (Nat×Nat)}{us':L Nat}
  (T:SA ⟨λk=>ak k bx,λk=>ak k tk⟩ ts env env')(A:FH ⟨λk=>ak k bx,λk=>ak k tk⟩ ts bs bs')(D:SB bx tk ts ts' us'=true)
  (h:AK P X f n β R K env' ⟨bs',ts',us'⟩):AK P X f n β R K env ⟨bs,ts,us⟩:=by
 obtain⟨p,D⟩:=dU D;obtain⟨M,D⟩:=dU D;obtain⟨S,D⟩:=dU D;obtain⟨c4,D⟩:=dU D;obtain⟨V,U⟩:=dU D;rw[kM]at V U;intro g w a cs Y;obtain⟨h1,h2⟩:=Y.inv.fQ ⟨λk=>ak k bx,λk=>ak k tk⟩ ⟨bs',ts',us'⟩ (λk cells e=>si A k cells e) (λk k' J B W=>mA p (dj B) (dj W))
  (λk m e=>Au S k m e) (λk k' m Q J B W=>sZ M (dj B) (dj W)) (λk e=>by
   rcases e with e|e
   exact r9 V k (nr e)
   exact r9 U k (nr e))
 refine h _ w a cs ⟨h1,Y.rT,?_,Y.frame.trans (h2 ?_),Y.size,Y.defers⟩;intro t x e;obtain⟨b,B,W⟩:=FI T t x e;exact(qE (oa Y.inv) W (Y.env t b B)).1;intro k E e;cases D:ak k bs' with
 |none=>exact absurd D e
 |some c =>
  obtain⟨J,O,q1,N,_⟩:=si A k c D;have:=vM c4 k J E q1;simp_all
end
end Go.cB
namespace Go.cB
section
variable {P : Program}{X : Ctx}{f : FuncId}{n : Nat}{β : jq}{R : Ending -> World -> Prop}{K : L Item}{env : Env}{σ : St}
def AK.Cq{c:Operand}{x y:Code}{b:Bool}(D:aH X env c=some (.c (.bool b)))(A:b=true)(h:AK P X f n β R (.code x::K) env σ) :
  AK P X f n β R (.code (.cond c x y)::K) env σ:=by subst A;exact AK.Wf D h
def AK.Cr{c:Operand}{x y:Code}{b:Bool}(D:aH X env c=some (.c (.bool b)))(A:b=false)(h:AK P X f n β R (.code y::K) env σ) :
  AK P X f n β R (.code (.cond c x y)::K) env σ:=by subst A;exact AK.Wg D h
end
def xD{α:Type}:∀{n:Nat}{l:List α},n<=l.length->takeN n l=some (l.take n)
 |0,l,_=>by simp[takeN]
 |n+1,[],h=>by simp at h
 |n+1,x::l,h=>by simp[takeN,xD (l:=l) (n:=n) nW]
def xE{α:Type}:∀{n:Nat}{l:List α},n<=l.length->gl n l=some (l.drop n)
 |0,l,_=>by simp[gl]
 |n+1,[],h=>by simp at h
 |n+1,x::l,h=>by simp[gl,xE (l:=l) (n:=n) nW]
abbrev cx(l:L UInt8):L CV:=l.map λb => .int .u8 b.toNat
def byteOf(z:Int):UInt8:=UInt8.ofNat (z%256).toNat
def ng(z:Int):((byteOf z).toNat:Int)=IntKind.u8.wrap z:=by unfold byteOf;simp[IntKind.wrap,IntKind.bits,IntKind.signed];omega
def wD(z:Int):[CV.int .u8 (IntKind.u8.wrap z)]=cx [byteOf z]:=by simp[cx,ng]
section
variable {P : Program}{X : Ctx}
def bI.val{o:Oper}{env:Env}{σ:St}{v:AV} (h:∀(A:Env)(w:World)(g:Gh)(a:Act),(∀x∈o.op.operands.toList,aH X A x=aH X env x)->(∀b o v,g.G b o=some v->w.cell? ⟨b,o,none⟩=some v) ->
  oz X g.G->tH g A a.tmps->∃u,(execOp a.eval o).run P w = .ok (.value u) w/\aP g v u):bI P X o env σ v (λσ=>σ) ⟨[],[]⟩:=by
 intro A B w g a next Q h1 h2 U V H N;obtain⟨u,q,K⟩:=h A w g a h1 U.oC V H;unfold Oper.wp;rw[q,Oper.upon_value];exact N u w g K U (gG.refl _ _ _) (Gh.le.refl _)
def bI.concat(hX:cg P X){o:Oper}{env:Env}{σ:St}{t yt:TypeId}{x y:Operand}(ho:o.op = .binOp .add t x y yt){a b:L UInt8}(hx:aH X env x=some (.c (.str a)))(hy:aH X env y=some (.c (.str b)))
  (hl:a.length+b.length<=9223372036854775807):bI P X o env σ (.c (.str (a++b))) (λσ=>σ) ⟨[],[]⟩:=by
 refine bI.val λcH w g act h1 hD bZ cX=>?_
 have hx':aH X cH x=some (.c (.str a)):=by rw[h1 x lA];exact hx
 have hy':aH X cH y=some (.c (.str b)):=by rw[h1 y lA];exact hy
 have rx:=bV (a:=act) cX bZ hx'
 have ry:=bV (a:=act) cX bZ hy'
 simp only[aP,Rel]at rx ry
 refine⟨.string ⟨(a++b).toArray⟩,?_,by simp only[aP,Rel]⟩
 obtain⟨dst,op,type,pos,after,guard⟩:=o
 subst ho
 have hsz:¬((9223372036854775807:Int)<(a.length:Int)+(b.length:Int)):=by omega
 have hj:(ByteArray.mk a.toArray)++(ByteArray.mk b.toArray)=⟨(a++b).toArray⟩:=by rfl
 simp[execOp,rx,ry,binOp,eqGuard,Op.stringOp,ur,hsz,hj]
def bI.toStr(hX:cg P X){o:Oper}{env:Env}{σ:St}{s d:TypeId}{x:Operand}(I:o.op = .convert s d x){i j k:TI}{e:Nat}(hi:X.ti s=some i)(hk:i.kind = .slice e)(he:X.ti e=some k)(QC:k.kind = .int .u8)(hj:X.ti d=some j)(XE:j.kind = .str)
  {a:AV}(hx:aH X env x=some a){q:Nat}{rows:L CV}(A:rowsOf a=some (q,rows)){l:L UInt8}(fD:rows=cx l)(hq:fH q 1 rows=true):bI P X o env σ (.c (.str l)) (λσ=>σ) ⟨[],[]⟩:=by
 refine bI.val λcH w g Q h1 hD bZ cX=>?_;have N:aH X cH x=some a:=by rw[h1 x (by rw[I];simp[Op.operands])];exact hx
 have H:=bV (a:=Q) cX bZ N;obtain⟨d1,_,D,M⟩:=hX.run_underlying (w:=w) hi;rw[hk]at D;subst D;obtain⟨d2,_,V,Y⟩:=hX.run_underlying (w:=w) he;rw[QC]at V;subst V;obtain⟨d3,_,U,W⟩:=hX.run_underlying (w:=w) hj;rw[XE]at U;subst U;have S:∃base B E,Q.eval x = .slice base B E/\B=rows.length/\jZ g.G q base rows:=by unfold rowsOf at A;split at A<;>simp at A;obtain⟨rfl,rfl⟩:=A;obtain⟨base,B,E,C,p,e3,e4,_⟩:=H;grind;obtain⟨rfl,rfl⟩:=A;obtain⟨base,B,E,C,p,e3,e4⟩:=H;exact⟨base,B,E,C,p,e4⟩
 obtain⟨base,B,E,ex,T,K⟩:=S;refine⟨.string ⟨l.toArray⟩,?_,by simp only[aP,Rel]⟩;have Zw:(convert s d (.slice base B E)).run P w = .ok (.string ⟨l.toArray⟩) w:=by
  subst fD;rw[abB]at T;rcases K with Xt|⟨b,o',rfl,hG⟩
  ·have hl:l=[]:=(by simpa using Xt);subst hl;simp at T;subst T;cases base with
   |none=>rw[run_convert_bytes_string w s d e none 0 E M Y W];rfl
   |some ad=>exact run_convert_bytes_back w s d e ad E [] M Y W c9
  rw[T];refine run_convert_bytes_back w s d e ⟨b,o',none⟩ E l M Y W λm hm=>?_;rw[Addr.add_lit];have O:(cx l)[m]?=some (.int .u8 l[m].toNat):=by simp[hm]
  obtain⟨c1,c2⟩:=hG.get m _ O;simp only[CV.cells]at c1 c2;obtain⟨⟨u,u1,u2,_⟩,_⟩:=c1;subst u2;have RW:q=1:=by simpa using c2.symm
  subst RW;have:=hD _ _ _ u1;rwa[Nat.mul_one]at this
 obtain⟨dst,op,type,pos,J,guard⟩:=o;subst I;simp[execOp,ex,Zw]
def yQ(es e:Nat):Nat->Nat->L (Nat×Nat)
 |_,0=>[]
 |k,n+1=>(k*es,e)::yQ es e (k+1) n
def FK{es e:Nat}:∀{n k i off U:Nat},nth (yQ es e k n) i=some (off,U)->off=(k+i)*es/\U=e
 |0,k,i,off,U,h=>by simp[yQ,nth]at h
 |n+1,k,0,off,U,h=>by simp[yQ,nth]at h;exact⟨by simp[h.1],h.2.symm⟩
 |n+1,k,i+1,off,U,h=>by simp only[yQ]at h;obtain⟨h1,h2⟩:=FK h;grind
def bI.Dr(hX:cg P X){o:Oper}{env:Env}{σ:St}{t:TypeId}{parts:Array (Nat×Operand)}(ho:o.op = .build t parts){i j:TI}{n e:Nat}(hi:X.ti t=some i)(hk:i.kind = .arr n e)(hj:X.ti e=some j)
  {z r:L AV}(hz:i.zero=some (.agg z))(h:rU X (aH X env) (yQ j.size e 0 n) parts.toList z=some r):bI P X o env σ (.agg r) (λσ=>σ) ⟨[],[]⟩:=by
 refine bI.val λcH w g act h1 hD bZ cX=>?_
 have h':rU X (aH X cH) (yQ j.size e 0 n) parts.toList z=some r:=by
  rw[uu _ _ _ (λp hp=>h1 p.2 Lv)];exact h
 obtain⟨d,jc,iF,_⟩:=hX.run_underlying (w:=w) hi
 rw[hk]at iF;subst iF
 obtain⟨zv,z1,z2,z3⟩:=hX.lq (w:=w) hi hz
 have z4:=z2 g
 obtain⟨zs,rfl,z5,z6⟩:=z4
 obtain⟨us,f1,f2,f3⟩:=C2 hX (ρ:=aH X cH) (ev:=act.eval) (λx v hx=>bV cX bZ hx) (λ(m:Nat)=>some (m*j.size,j.size)) (by
  intro m off ft j' e1 e2
  obtain⟨rfl,rfl⟩:=FK e1
  rw[hj]at e2;simp at e2;subst e2
  simp) (vs:=zs.toArray) h' (by simpa using z5) z6
 refine⟨.agg us,?_,by simp only[aP];exact⟨us.toList,c9,f2,f3⟩⟩
 obtain⟨dst,op,type,pos,after,guard⟩:=o
 subst ho
 have hb:(Instr.build t (parts.map λ(i,x)=>(i,act.eval x))).run P w = .ok (.agg us) w:=by
  simp only[Instr.build,Sem.run_bind,z1,Result.andThen_ok,jc,Value.cells,hX.run_sizeOf hj]
  simp_all
 simp only[execOp]
 simp_all
def bI.Ds(hX:cg P X){o:Oper}{env:Env}{σ:St}{t:TypeId}{x ix:Operand}(ho:o.op = .index t x ix){i j:TI}{n e:Nat}(hi:X.ti t=some i)(hk:i.kind = .arr n e)(hj:X.ti e=some j)
  {cs rest:L AV}(hx:aH X env x=some (.agg cs)){ia:AV}(hz:aH X env ix=some ia){m:Nat}(hm:asNat ia=some m)(hmn:Nat.blt m n=true)(hd:gl (m*j.size) cs=some rest){v:AV}(hv:wK j rest=some v) :
  bI P X o env σ v (λσ=>σ) ⟨[],[]⟩:=by
 refine bI.val λcH w g act h1 hD bZ cX=>?_
 have hx':aH X cH x=some (.agg cs):=by rw[h1 x lA];exact hx
 have Zh:aH X cH ix=some ia:=by rw[h1 ix lA];exact hz
 have rx:=bV (a:=act) cX bZ hx'
 have rz:=bV (a:=act) cX bZ Zh
 obtain⟨vs,ex,r1,r2⟩:=rx
 obtain⟨k,rz⟩:=vD hm rz
 obtain⟨d,jc,iF,_⟩:=hX.run_underlying (w:=w) hi
 rw[hk]at iF;subst iF
 obtain⟨u,u1,u2⟩:=C3 (P:=P) (w:=w) (vs:=vs.toArray) hX hj (.inl ⟨cs,rest,by simpa using r1,r2,hd,hv⟩)
 refine⟨u,?_,u2⟩
 have hlt:m<n:=by simpa using hmn
 obtain⟨dst,op,type,pos,after,guard⟩:=o
 subst ho
 simp[execOp,ex,rz,Instr.index,asIntOf,jc,hlt,hX.run_sizeOf hj,u1]
end
section
variable {P : Program}{X : Ctx}{ops : Array Oper}{o : Oper}{rest : L Oper}{env : Env}{acc : L Fp}{Q : Env -> St -> L Fp -> Prop}{σ : St}
def ai.YL(hX:cg P X)(kn:L Nat)(C:simple o.op=true){acc:L Fp}{K:L Oper}{env':Env}{Y:L Fp}
  (h:Fb X ops.toList σ.boxes kn 0 (o::rest) env acc = .at K env' Y)(k:ai P X ops K env' σ Y Q):ai P X ops (o::rest) env σ acc Q:=ai.LF hX 0 kn h k
def ai.pn{j d:Nat}{Y b:Bool}(G:o.guard=some (j,Y))(C:pN ops j=some d)(A:ak d env=some (.c (.bool b)))(E:b=true)
  (h1:b=true->ai P X ops (o::rest) env σ acc Q):ai P X ops (o::rest) env σ acc Q:=h1 E
def ai.pq{j d:Nat}{Y b:Bool}(G:o.guard=some (j,Y))(C:pN ops j=some d)(A:ak d env=some (.c (.bool b)))(E:b=false)
  (h1:b=false->ai P X ops (o::rest) env σ acc Q):ai P X ops (o::rest) env σ acc Q:=h1 E
def ai.concat(hX:cg P X)(kn:L Nat)(hg:cP ops.toList kn env o=some true){t yt:TypeId}{x y:Operand}(ho:o.op = .binOp .add t x y yt){d:Nat}(hd:o.dst=some d){a b:L UInt8}
  (hx:aH X env x=some (.c (.str a)))(hy:aH X env y=some (.c (.str b)))(hl:a.length+b.length<=9223372036854775807)
  (k:ai P X ops rest ((d,.c (.str (a++b)))::env) σ (⟨[],[]⟩::acc) Q):ai P X ops (o::rest) env σ acc Q :=
 ai.step (cZ hg) (bI.concat hX ho hx hy hl) (gE.id _) th
def ai.toStr(hX:cg P X)(kn:L Nat)(G:cP ops.toList kn env o=some true){s t:TypeId}{x:Operand}(Y:o.op = .convert s t x){d:Nat}(J:o.dst=some d){i j k:TI}{e:Nat}(W:X.ti s=some i)(E:i.kind = .slice e)(A:X.ti e=some k)(V:k.kind = .int .u8)
  (T:X.ti t=some j)(U:j.kind = .str){a:AV}(O:aH X env x=some a){q:Nat}{rows:L CV}(p:rowsOf a=some (q,rows)){l:L UInt8}(S:rows=cx l)(hq:fH q 1 rows=true)
  (k:ai P X ops rest ((d,.c (.str l))::env) σ (⟨[],[]⟩::acc) Q):ai P X ops (o::rest) env σ acc Q :=
 ai.step (cZ G) (bI.toStr hX Y W E A V T U O p S hq) (gE.id _) p8
def ai.Dr(hX:cg P X)(kn:L Nat)(G:cP ops.toList kn env o=some true){t:TypeId}{A:Array (Nat×Operand)}(Y:o.op = .build t A){d:Nat}(J:o.dst=some d){i j:TI}{n e:Nat}(W:X.ti t=some i)(E:i.kind = .arr n e)(T:X.ti e=some j)
  {z r:L AV}(B:i.zero=some (.agg z))(h:rU X (aH X env) (yQ j.size e 0 n) A.toList z=some r)
  (k:ai P X ops rest ((d,.agg r)::env) σ (⟨[],[]⟩::acc) Q):ai P X ops (o::rest) env σ acc Q :=
 ai.step (cZ G) (bI.Dr hX Y W E T B h) (gE.id _) p8
def ai.Ds(hX:cg P X)(kn:L Nat)(G:cP ops.toList kn env o=some true){t:TypeId}{x p:Operand}(V:o.op = .index t x p){d:Nat}(J:o.dst=some d){i j:TI}{n e:Nat}(E:X.ti t=some i)(U:i.kind = .arr n e)(T:X.ti e=some j)
  {cs K:L AV}(O:aH X env x=some (.agg cs)){W:AV}(B:aH X env p=some W){m:Nat}(u:asNat W=some m)(Y:Nat.blt m n=true)(S:gl (m*j.size) cs=some K){v:AV}(q:wK j K=some v)
  (k:ai P X ops rest ((d,v)::env) σ (⟨[],[]⟩::acc) Q):ai P X ops (o::rest) env σ acc Q :=
 ai.step (cZ G) (bI.Ds hX V E U T O B u Y S q) (gE.id _) p8
def ai.kZ(hX:cg P X)(kn:L Nat)(G:cP ops.toList kn env o=some true){t:TypeId}{x p:Operand}(Y:o.op = .index t x p){d:Nat}(J:o.dst=some d){i:TI}(W:X.ti t=some i)(E:i.kind = .str)
  {s:L UInt8}(O:aH X env x=some (.c (.str s))){k:IntKind}{z:Int}(B:aH X env p=some (.c (.int k z))){m:Nat}(T:z=m){b:UInt8}(A:s[m]?=some b)
  (k:ai P X ops rest ((d,.c (.int .u8 b.toNat))::env) σ (⟨[],[]⟩::acc) Q):ai P X ops (o::rest) env σ acc Q:=by
 subst T;refine ai.look hX kn G J ?_ (by rw[Y];rfl) k;rw[Y];have V:∀q:IntKind,asNat (.c (.int q (m:Int)))=some m:=λ_=>rfl;simp only[gN,W,O,B,V,E,qV,A]
def ai.Dt(hX:cg P X)(kn:L Nat)(hg:cP ops.toList kn env o=some true){t:TypeId}{x:Operand}{lo hi':Option Operand}(ho:o.op = .slice t x lo hi' none){d:Nat}(hd:o.dst=some d){i:TI}(hi:X.ti t=some i)(hk:i.kind = .str)
  {s:L UInt8}(hx:aH X env x=some (.c (.str s))){l h:Option Nat}(hl:bound (aH X env) lo=some l)(hh:bound (aH X env) hi'=some h)(h1:h.getD s.length<=s.length)(h2:l.getD 0<=h.getD s.length)
  (k:ai P X ops rest ((d,.c (.str ((s.take (h.getD s.length)).drop (l.getD 0))))::env) σ (⟨[],[]⟩::acc) Q):ai P X ops (o::rest) env σ acc Q:=by
 refine ai.look hX kn hg hd ?_ (by rw[ho];rfl) k
 rw[ho]
 have hb:bound (aH X env) none=some none:=rfl
 simp only[gN,hi,hx,hl,hh,hb,hk,CY]
 cases h with
 |none =>
  cases l with
  |none=>simp
  |some l=>simp at h2 ⊢;simp[xE h2]
 |some h =>
  simp at h1 h2 ⊢
  cases l with
  |none=>simp[xD h1]
  |some l =>
   simp at h2
   simp[xD h1,xE (l:=s.take h) (n:=l) ob]
end
end Go.cB
namespace Go.cB
abbrev ah(rows:L CV):L AV:=(bB rows).map AV.c
def Ow{w : World}{g : Gh}{σ : St}(h : Inv w g σ) : Inv w.drew g σ /\ gG w g σ w.drew g σ :=
  ⟨⟨h.oC, λk cs e => by
      obtain ⟨b, p, M, P, Y⟩ := h.box k cs e;exact ⟨b, p, M, P, bU.of_same (w := w) (w' := w.drew) (λo => ⟨Z, Z⟩) Y⟩,
    h.fq, h.tok, h.gh, h.used, h.room⟩,
   ⟨Z, Z, Z, aal _, λ_ _ _ => Z, λ_ _ _ _ => ⟨Z, Z⟩, ja.le.refl _, λ_ _ _ h => .inl h, λk cs b h1 h2 => .inr ⟨k, cs, h1, h2⟩,
    λk n b Q W h1 h2 => .inr ⟨k, n, Q, W, h1, h2, aal _, aal _⟩, λ_ _ h => ⟨h, Z, Z⟩⟩⟩
def oO{g:Gh}:∀{cs:L CV}{vs:L Value},bT g.G cs vs->bM g (cs.map AV.c) vs
 |[],vs,h=>by simp only[bT]at h;subst h;simp[bM]
 |c::cs,vs,h=>by
  obtain⟨u,us,rfl,h1,h2⟩:=h
  exact⟨u,us,Z,Vz,oO h2⟩
def sj:∀(cs:L CV),(cs.map AV.c).all AV.one=cs.all CV.one
 |[]=>rfl
 |c::cs=>by simp only[abk,abQ,sj cs,AV.one]
section
variable {P : Program}{X : Ctx}
def wB(w:World)(s:Nat)(base:Option Addr)(E:Nat):(Builtin.firstCells s 0 (.slice base 0 E)).run P w = .ok #[] w:=by
 cases base with
 |none=>simp[Builtin.firstCells]
 |some a=>exact run_firstCells_some w s 0 a 0 E [] c9 (by intro j v h;simp at h)
set_option maxHeartbeats 1600000 in
def bI.vt(hX:cg P X){o:Oper}{env:Env}{σ:St}{args:Array Operand}{ats:Array TypeId}(ho:o.op = .call {callee := .builtin .append,args:=args,argTypes:=ats})
  {xs y:Operand}(hargs:args.toList=[xs,y]){t t1:Nat}(Am:ats.toList=[t,t1]){d:Nat}(jc:d<1000000)
  {i j i1:TI}{e:Nat}(hi:X.ti t=some i)(hk:i.kind = .slice e)(hj:X.ti e=some j){za:AV}(hz:j.zero=some za)(hi1:X.ti t1=some i1)(tE:kL i1.kind=true)
  {s:Nat}{rows:L CV}(ha:aH X env xs=some (.own .exact s rows)){b:AV}(hb:aH X env y=some b){s1:Nat}{bL:L CV}(hsrc:mz b=some (s1,bL))
  (hs:fH s j.size rows=true)(rG:fH s1 j.size bL=true)(hne:bL≠[])(hu:mem d σ.used=false)(hby:Nat.ble 1 j.bytes=true)(hbound:(rows.length+bL.length)*j.bytes<=140737488355328) :
  bI P X o env σ (.gf d 0 j.size (rows++bL).length) (λσ=>σ.dY d (ah (rows++bL))) ⟨[],[d]⟩:=by
 intro cH σ1 w g act next Q h1 h2 hinv bZ cX hnext
 have pX:∀x∈args.toList,x∈o.op.operands.toList:=by
  intro x hx
  rw[ho];simp only[Op.operands,Call.operands,abF,aaV];exact .inr hx
 have xo:aH X cH xs=some (.own .exact s rows):=by rw[h1 xs (pX xs Y9)];exact ha
 have hb':aH X cH y=some b:=by rw[h1 y (pX y Y9)];exact hb
 have rA:=bV (a:=act) cX bZ xo
 have rB:=bV (a:=act) cX bZ hb'
 simp only[aP]at rA
 obtain⟨base,len,cap,ex,hlen,hcap,fD,hown⟩:=rA
 obtain⟨_,n5⟩:=pW (P:=P) (w:=w) hinv.oC hsrc rG rB
 obtain⟨⟨news',Wj,Yq,Zn,Zo⟩,_⟩:=pW (P:=P) (w:=w.drew) (λb o v h=>by rw[World.cell?_drew];exact hinv.oC b o v h) hsrc rG rB
 obtain⟨olds,m1,m2,m3,m4⟩:=vG (P:=P) (w:=w.drew) (g:=g) (λb o v h=>by rw[World.cell?_drew];exact hinv.oC b o v h) fD hs len cap hlen
 obtain⟨dt,_,yK,EE⟩:=hX.run_underlying (w:=w) hi
 rw[hk]at yK;simp only[iE]at yK;subst yK
 obtain⟨d1,BJ,FL⟩:=yI hX hi1 Zl w
 obtain⟨inf,Uo,Mp,Zp,Zq,_,if6⟩:=hX.ti e j hj
 obtain⟨z,z1,_,z3⟩:=Zq za hz
 have PD:news'.length=bL.length*j.size:=by rw[<- (bT.get Wj).1,cV Yq]
 have Pf:olds.length=rows.length*j.size:=by rw[<- (bT.get m1).1,cV m2]
 have xu:args = #[xs,y]:=by cases args;simp_all
 have Df:ats = #[t,t1]:=by cases ats;simp_all
 have Sx:=abf hby
 have hsmall:rows.length+bL.length<=140737488355328:=abJ (adu _ Sx) hbound
 have hpos:0<bL.length:=List.length_pos_iff.2 hne
 simp only[wI]at hown
 have Sy:∀(v:Value)(w':World),(Builtin.append_ #[t,t1] o.type #[.slice base len cap,act.eval y]).run P w = .ok v w'->(execOp act.eval o).run P w = .ok (.value v) w':=by
  intro v w' hr
  obtain⟨dst,op,type,pos,after,guard⟩:=o
  simp only at ho hr;subst ho
  subst xu Df
  simp[execOp,resolve,invoke,builtin,ex,hr,Result.andThen]
 unfold Oper.wp
 have hg:cap<len+bL.length:=by omega
 have hbd:(len+bL.length)*inf.bytes<=140737488355328:=by rw[Zp,hlen];exact hbound
 rw[Sy _ _ (nq EE BJ FL Uo z1 n5 (by rw[Mp];exact Zo) (by rw[Mp];exact m4) hg bn hbd)]
 rw[Oper.upon_value]
 have hge:=grownCap_ge w (len+bL.length) cap e
 generalize grownCap w (len+bL.length) cap e=nc at hge ⊢
 have tP:(olds.toArray++news'.toArray++Builtin.zeroCells z.cells (nc-(len+bL.length))).size=nc*j.size:=by
  simp only[acj,abT,size_zeroCells,Pf,PD,z3,<- hlen,<- acF]
  congr 1;omega
 have SC:d ∉ σ1.used:=λh=>cE hu ((h2 d (.inr c9)).2.2.1 h)
 obtain⟨e1,e2⟩:=Ow hinv
 have fP:bT g.G (bB (rows++bL)) (olds++news'):=by rw[dg];exact fu m1 Wj
 have hfl:(bB (rows++bL)).length=(olds++news').length:=(bT.get fP).1
 have hrc:bM g (ah (rows++bL)) ((olds.toArray++news'.toArray++Builtin.zeroCells z.cells (nc-(len+bL.length))).toList.take (ah (rows++bL)).length):=by
  rw[abB,hfl]
  simp only[abF]
  rw[List.take_left']
  ·exact oO fP
  ·simp
 have hone:(ah (rows++bL)).all AV.one=true:=by
  rw[sj,dg,acT,m3,Zn];rfl
 obtain⟨i1,i2,i3,i4⟩:=G5 (t:=e) e1 SC jc hrc hone
 refine hnext _ _ _ ?_ i1 (e2.trans i2) i3
 simp only[aP]
 refine⟨w.heap.size,nc,some ⟨w.heap.size,0,none⟩,c9,?_,?_,?_,.inr Z⟩
 ·simp[hlen]
 ·simp_all
 ·simp_all
end
end Go.cB
namespace Go.cB
def St.eF(σ:St)(P:Nat):St:=⟨BH P σ.boxes,σ.toks,σ.used⟩
def Mv{w:World}{g:Gh}{σ:St}(h:Inv w g σ)(P:Nat):Inv w g (σ.eF P)/\gG w g σ w g (σ.eF P):=by
 have Q:∀k cs,ak k (σ.eF P).boxes=some cs->ak k σ.boxes=some cs:=by intro k cs e;simp only[St.eF,jy]at e;simp_all
 refine⟨⟨h.oC,λk cs e=>h.box k cs (Q k cs e),λk k' cs Y b e e'=>h.fq k k' cs Y b (Q k cs e) (Q k' Y e'),?_,h.gh,h.used,λk cs b e=>h.room k cs b (Q k cs e)⟩,
  ⟨Z,Z,Z,aal _,λ_ _ _=>rfl,λ_ _ _ _=>⟨Z,Z⟩,ja.le.refl _,λ_ _ _ h => .inl h,λk cs b h1 h2 => .inr ⟨k,cs,Q k cs h1,h2⟩,
   λk n b W E h1 h2 => .inr ⟨k,n,W,E,h1,h2,aal _,aal _⟩,λk _ e=>?_⟩⟩
 intro k n e;obtain⟨B,h1,h2⟩:=h.tok k n e;refine⟨B,h1,λb W E A=>?_⟩;simp_all;cases D:ak k (σ.eF P).boxes with
 |none=>exact absurd D e
 |some cs=>exact⟨by rw[Q k cs D];simp,Z,Z⟩
def Vo{w w':World}{g:Gh}{σ:St}{key d b:Nat}{cells cells':L AV}(hinv:Inv w g σ)(hk:ak key σ.boxes=some cells)(hb:g.box key=some b)(hd:d ∉ σ.used)(Xw:d<1000000)
  (r2:w'.heap.size=w.heap.size/\w'.os=w.os/\w'.tape=w.tape/\w'.output=w.output/\∀b',b'≠b->w'.heap[b']?=w.heap[b']?)
  (r3:∀b' o',b'≠b->w'.cell? ⟨b',o',none⟩=w.cell? ⟨b',o',none⟩)(r4:∀b' o',w'.frozen? ⟨b',o',none⟩=w.frozen? ⟨b',o',none⟩)
  (hc:bU w' g b 0 cells')(hr:∀o,o<g.room key->∃u,w'.cell? ⟨b,o,none⟩=some u) :
  let g':Gh:=⟨g.G,λk=>if k=d then some b else g.box k,g.tok,λk=>if k=d then g.room key else g.room k⟩
  let σ':St:=(σ.dY d cells').eF key
  Inv w' g' σ'/\gG w g σ w' g' σ'/\g.le g':=by
 intro g' σ'
 obtain⟨b0,hb0,Ze,Yn,hbc⟩:=hinv.box key cells hk
 rw[hb]at hb0;cases hb0
 have Wh:g.box d=none:=by
  cases h:g.box d with
  |none=>rfl
  |some x=>exact absurd (hinv.used d (.inl oy)) hd
 have hkd:key≠d:=by rintro rfl;rw[hb]at Wh;simp at Wh
 have hle:g.le g':=by
  refine⟨ja.le.refl _,λk x h=>?_,λk x h=>?_,λk hw fI h=>⟨hw,fI,h,aal _,λ_=>rfl⟩⟩
  ·grind
  ·grind
 have kD:∀k cs,ak k σ'.boxes=some cs->(k=d/\cs=cells')\/(k≠d/\k≠key/\ak k σ.boxes=some cs):=by
  intro k cs e
  simp only[σ',St.eF,St.dY,jy,an]at e
  split at e
  ·simp at e
  ·grind
 have uw:∀k cs b',k≠key->ak k σ.boxes=some cs->g.box k=some b'->b'≠b:=by
  rintro k cs b' h1 h2 h3 rfl
  exact h1 (hinv.fq k key cs cells _ h2 hk h3 hb)
 refine⟨⟨?_,?_,?_,?_,hinv.gh,?_,?_⟩,⟨r2.2.1,r2.2.2.1,r2.2.2.2.1,bn,λb' hb' hno=>r2.2.2.2.2 b' (by rintro rfl;exact hno 0 (.inl ⟨key,cells,hk,hb⟩)),λb' o hb' hno=>⟨r3 b' o (by rintro rfl;exact hno (.inl ⟨key,cells,hk,hb⟩)),r4 b' o⟩,ja.le.refl _,λ_ _ _ h => .inl h,?_,?_,?_⟩,hle⟩
 ·intro b' o v h
  rw[r3 b' o (by rintro rfl;rw[Yn]at h;simp at h)]
  exact hinv.oC b' o v h
 ·intro k cs e
  rcases kD k cs e with ⟨rfl,rfl⟩|⟨h1,h2,h3⟩
  ·exact⟨b,aat,bn,Yn,hc.mono hle⟩
  ·obtain⟨b',f1,f2,f3,f4⟩:=hinv.box k cs h3
   have Ae:=uw k cs b' h2 h3 f1
   exact⟨b',by simp[g',h1,f1],bn,f3,(bU.of_same (λo=>⟨r3 b' o Ae,r4 b' o⟩) f4).mono hle⟩
 ·intro k k' cs cs' b' e e' e1 e2
  simp only[g']at e1 e2
  rcases kD k cs e with ⟨rfl,rfl⟩|⟨h1,h2,h3⟩
  ·grind
  ·rw[if_neg h1]at e1
   rcases kD k' cs' e' with ⟨rfl,rfl⟩|⟨rC,yA,Yr⟩
   ·grind
   ·rw[if_neg rC]at e2
    exact hinv.fq k k' cs cs' b' h3 Yr e1 e2
 ·intro k n e
  obtain⟨fI,e1,e2⟩:=hinv.tok k n e
  refine⟨fI,e1,λb' lo hi hr'=>?_⟩
  obtain⟨e3,e4,e5⟩:=e2 b' lo hi hr'
  have Ae:b'≠b:=by rintro rfl;exact e5 key cells hk hb
  refine⟨bn,λo h1 h2=>?_,λk' cs e'=>?_⟩
  ·grind
  ·grind
 ·intro k e
  show k∈d::σ.used
  by_cases hkk:k=d
  ·simp[hkk]
  ·simp only[abu];right;apply hinv.used k;simpa[g',hkk]using e
 ·intro k cs b' e e1 o
  simp only[g']at e1 ⊢
  rcases kD k cs e with ⟨rfl,rfl⟩|⟨h1,h2,h3⟩
  ·rw[if_pos rfl]at e1;rw[if_pos rfl];simp at e1;subst e1
   exact⟨hr o,by rw[r4];exact(hinv.room key cells _ hk hb o).2⟩
  ·rw[if_neg h1]at e1;rw[if_neg h1]
   have Ae:=uw k cs b' h2 h3 e1
   obtain⟨f1,f2⟩:=hinv.room k cs b' h3 e1 o
   exact⟨λho=>(f1 ho).imp λu hu=>by rw[r3 b' o Ae];exact hu,by rw[r4];exact f2⟩
 ·grind
 ·exact aaP
 ·intro k Cj e
  cases hc0:ak k σ'.boxes with
  |none=>exact absurd hc0 e
  |some cs =>
   rcases kD k cs hc0 with ⟨rfl,rfl⟩|⟨h1,h2,h3⟩
   ·omega
   ·grind
def od{w:World}{g:Gh}{b:Nat}:∀{cs:L CV}{tail:L AV}{o:Nat},bU w g b o (cs.map AV.c++tail)->∃vs:L Value,bT g.G cs vs/\(∀(j:Nat) u,vs[j]?=some u->w.cell? ⟨b,o+j,none⟩=some u)/\cs.all CV.one=true
 |[],_,_,_=>⟨[],by simp[bT],λj u h=>by simp at h,Z⟩
 |c::cs,tail,o,h=>by
  obtain⟨⟨u,h1,h2,U⟩,_,h4⟩:=h;obtain⟨vs,S,Y,A⟩:=od h4;refine⟨u::vs,by simp_all;exact⟨u,vs,Z,C1,S⟩,λj v T=>?_,by simp_all;simpa only[AV.one]using U⟩;cases j with
  |zero=>simp at T;subst T;exact h1
  |succ j =>
   grind
def J3(d P:Nat)(cells:L AV)(Y:d≠P):gE (λσ=>(σ.dY d cells).eF P) ⟨[],[d,P]⟩ where
 out:=λσ k E=>by simp at E;refine⟨?_,Z,?_⟩;simp only[St.eF,St.dY,jy,an];simp_all;simp only[St.eF,St.dY];simp_all
 same:=λσ B h k E=>by obtain⟨h1,h2,U⟩:=h k (.inr E);refine⟨?_,h2,?_⟩;simp only[St.eF,St.dY,jy,an];simp_all;simp only[St.eF,St.dY,abu,U]
section
variable {P : Program}{X : Ctx}
set_option maxHeartbeats 1600000 in
def bI.mB(hX:cg P X){o:Oper}{env:Env}{σ:St}{args:Array Operand}{ats:Array TypeId}(ho:o.op = .call {callee := .builtin .append,args:=args,argTypes:=ats})
  {xs y:Operand}(hargs:args.toList=[xs,y]){t t1:Nat}(Am:ats.toList=[t,t1]){d:Nat}(jc:d<1000000)
  {i j i1:TI}{e:Nat}(hi:X.ti t=some i)(hk:i.kind = .slice e)(hj:X.ti e=some j){za:AV}(hz:j.zero=some za)(hi1:X.ti t1=some i1)(tE:kL i1.kind=true)
  {key n:Nat}(ha:aH X env xs=some (.gf key 0 j.size n)){cells tail:L AV}{rows:L CV}(zG:ak key σ.boxes=some cells)(iD:cells=ah rows++tail)(hn:n=rows.length)(hfl:(bB rows).length=n*j.size)
  {b:AV}(hb:aH X env y=some b){s1:Nat}{bL:L CV}(hsrc:mz b=some (s1,bL))
  (rG:fH s1 j.size bL=true)(hu:mem d σ.used=false)(hby:Nat.ble 1 j.bytes=true)(hbound:(rows.length+bL.length)*j.bytes<=140737488355328) :
  bI P X o env σ (.gf d 0 j.size (rows++bL).length) (λσ=>(σ.dY d (ah (rows++bL))).eF key) ⟨[],[d,key]⟩:=by
 intro cH σ1 w g act next Q h1 h2 hinv bZ cX hnext
 have pX:∀x∈args.toList,x∈o.op.operands.toList:=by
  intro x hx
  rw[ho];simp only[Op.operands,Call.operands,abF,aaV];exact .inr hx
 have xo:aH X cH xs=some (.gf key 0 j.size n):=by rw[h1 xs (pX xs Y9)];exact ha
 have hb':aH X cH y=some b:=by rw[h1 y (pX y Y9)];exact hb
 have G6:ak key σ1.boxes=some cells:=by rw[(h2 key (.inr c9)).1];exact zG
 have rA:=bV (a:=act) cX bZ xo
 have rB:=bV (a:=act) cX bZ hb'
 simp only[aP]at rA
 obtain⟨bk,cap,oo,IV,ex,hcap,XJ,Vp⟩:=rA
 obtain⟨bk',Zx,Ze,Yn,hbc⟩:=hinv.box key cells G6
 rw[IV]at Zx;cases Zx
 obtain⟨⟨news,n1,n2,n3,n4⟩,n5⟩:=pW (P:=P) (w:=w) hinv.oC hsrc rG rB
 obtain⟨⟨news',Wj,Yq,Zn,Zo⟩,_⟩:=pW (P:=P) (w:=w.drew) (λb o v h=>by rw[World.cell?_drew];exact hinv.oC b o v h) hsrc rG rB
 have Zy:=hbc
 rw[iD]at Zy
 obtain⟨olds,m1,mv,m3⟩:=od Zy
 obtain⟨dt,_,yK,EE⟩:=hX.run_underlying (w:=w) hi
 rw[hk]at yK;simp only[iE]at yK;subst yK
 obtain⟨d1,BJ,FL⟩:=yI hX hi1 Zl w
 obtain⟨inf,Uo,Mp,Zp,Zq,_,if6⟩:=hX.ti e j hj
 obtain⟨z,z1,_,z3⟩:=Zq za hz
 have Oq:news.length=bL.length*j.size:=by rw[<- (bT.get n1).1,cV n2]
 have PD:news'.length=bL.length*j.size:=by rw[<- (bT.get Wj).1,cV Yq]
 have Pf:olds.length=n*j.size:=by rw[<- (bT.get m1).1,hfl]
 have m4:(Builtin.firstCells j.size n (.slice oo n cap)).run P w.drew = .ok olds.toArray w.drew:=by
  rcases Vp with h0|rfl
  ·have h00:n=0:=by omega
   have:olds.length=0:=by rw[Pf,h00];simp
   rw[List.length_eq_zero_iff.1 this,h00]
   exact wB w.drew _ _ _
  ·refine run_firstCells_some w.drew j.size n _ n cap olds Pf ?_
   intro q v hq;rw[Addr.add_lit,World.cell?_drew]
   exact mv q v hq
 have xu:args = #[xs,y]:=by cases args;simp_all
 have Df:ats = #[t,t1]:=by cases ats;simp_all
 have Sx:=abf hby
 have hsmall:rows.length+bL.length<=140737488355328:=abJ (adu _ Sx) hbound
 have SC:d ∉ σ1.used:=λh=>cE hu ((h2 d (.inr c9)).2.2.1 h)
 have hdk:key≠d:=by
  rintro rfl
  exact SC (hinv.used key (.inl (by rw[IV];simp)))
 have hone:(ah (rows++bL)).all AV.one=true:=by
  rw[sj,dg,acT,m3,Zn];rfl
 have Sy:∀(v:Value)(w':World),(Builtin.append_ #[t,t1] o.type #[.slice oo n cap,act.eval y]).run P w = .ok v w'->(execOp act.eval o).run P w = .ok (.value v) w':=by
  intro v w' hr
  obtain⟨dst,op,type,pos,after,guard⟩:=o
  simp only at ho hr;subst ho
  subst xu Df
  simp[execOp,resolve,invoke,builtin,ex,hr,Result.andThen]
 unfold Oper.wp
 by_cases hroom:n+bL.length<=cap
 ·have hmul:n*j.size+news.length<=cap*j.size:=by
   rw[Oq,<- acF];exact acz _ hroom
  obtain⟨w',r1,r2,r3,r4,r5⟩:=mu (P:=P) (w:=w) bk news (n*j.size) 0 w (me n1 n3) (by
   intro q hq
   simp only[abI]
   exact hinv.Wd key cells bk G6 IV (n*j.size+q) bn)
  simp only[abI]at r3 r5
  rw[Sy _ w' (kK (w':=w') EE BJ FL Uo n5 aav hroom (by
   rcases Vp with h0|rfl
   ·have:news.length=0:=by rw[Oq,show bL.length=0 from by omega];simp
    rw[List.length_eq_zero_iff.1 this]at r1 ⊢
    cases oo
    ·simpa[storeCells,eq_comm]using r1
    ·simpa[storeCells]using r1
   ·simp only[Addr.add_lit,Mp]
    rw[abi];exact r1))]
  rw[Oper.upon_value]
  have fP:bT g.G (bB (rows++bL)) (olds++news):=by rw[dg];exact fu m1 n1
  have Y6:bU w' g bk 0 (ah (rows++bL)):=by
   apply bU.jF
   intro q c hq
   obtain⟨l1,l2⟩:=bM.get (oO fP)
   obtain⟨u,e1,e2⟩:=l2 q c hq
   rw[acK]at hone
   simp only[abi]
   refine⟨⟨u,?_,e2,hone c (aap hq)⟩,?_⟩
   ·by_cases XC:q<olds.length
    ·rw[adq XC]at e1
     rw[r3 bk q (by right;left;omega)]
     have:=mv q u e1
     rwa[abi]at this
    ·rw[adn bn]at e1
     have:=r5 (q-olds.length) u e1
     rwa[show n*j.size+(q-olds.length)=q from by omega]at this
   ·rw[r4]
    have abR:q<(olds++news).length:=(List.getElem?_eq_some_iff.1 e1).1
    rw[aao]at abR
    exact(hinv.room key cells bk G6 IV q).2
  obtain⟨i1,i2,i3⟩:=Vo hinv G6 IV SC jc r2 (λb' o' h=>r3 b' o' (.inl h)) r4 Y6 (by
   intro q hq
   obtain⟨⟨u,q1⟩,_⟩:=hinv.Wd key cells bk G6 IV q hq
   by_cases hin:n*j.size<=q/\q<n*j.size+news.length
   ·obtain⟨v,hv⟩:∃v,news[q-n*j.size]?=some v:=⟨_,abe bn⟩
    have:=r5 _ v hv
    rw[show n*j.size+(q-n*j.size)=q from by omega]at this
    exact⟨v,this⟩
   ·exact⟨u,by rw[r3 bk q (by right;omega)];exact q1⟩)
  refine hnext _ _ _ ?_ i1 i2 i3
  simp only[aP]
  refine⟨bk,cap,oo,c9,?_,?_,?_,Vp⟩
  ·simp[hn]
  ·simp only[aao];omega
  ·simp only[if_pos];exact XJ
 ·have hg:cap<n+bL.length:=by omega
  have hbd:(n+bL.length)*inf.bytes<=140737488355328:=by rw[Zp,hn];exact hbound
  rw[Sy _ _ (nq EE BJ FL Uo z1 n5 (by rw[Mp];exact Zo) (by rw[Mp];exact m4) hg bn hbd)]
  rw[Oper.upon_value]
  have hge:=grownCap_ge w (n+bL.length) cap e
  generalize grownCap w (n+bL.length) cap e=nc at hge ⊢
  have tP:(olds.toArray++news'.toArray++Builtin.zeroCells z.cells (nc-(n+bL.length))).size=nc*j.size:=by
   simp only[acj,abT,size_zeroCells,Pf,PD,z3,<- acF]
   congr 1;omega
  obtain⟨e1,e2⟩:=Ow hinv
  have fP:bT g.G (bB (rows++bL)) (olds++news'):=by rw[dg];exact fu m1 Wj
  have abS:(bB (rows++bL)).length=(olds++news').length:=(bT.get fP).1
  have hrc:bM g (ah (rows++bL)) ((olds.toArray++news'.toArray++Builtin.zeroCells z.cells (nc-(n+bL.length))).toList.take (ah (rows++bL)).length):=by
   rw[abB,abS]
   simp only[abF]
   rw[List.take_left']
   ·exact oO fP
   ·simp
  obtain⟨i1,i2,i3,i4⟩:=G5 (t:=e) e1 SC jc hrc hone
  obtain⟨i5,i6⟩:=Mv i1 key
  refine hnext _ _ _ ?_ i5 ((e2.trans i2).trans i6) i3
  simp only[aP]
  refine⟨w.heap.size,nc,some ⟨w.heap.size,0,none⟩,c9,?_,?_,?_,.inr Z⟩
  ·simp[hn]
  ·simp only[aao];omega
  ·simp only[if_pos,tP];omega
end
end Go.cB
namespace Go.cB
section
variable {P : Program}{X : Ctx}
def bI.iT(hX:cg P X){o:Oper}{env:Env}{σ:St}{t:TypeId}{x ix:Operand}(ho:o.op = .indexAddr t x ix){i j:TI}{e:Nat}(hi:X.ti t=some i)(hk:i.kind = .slice e)(hj:X.ti e=some j)
  {key off s n:Nat}(ha:aH X env x=some (.gf key off s n))(hs:j.size=s){k:IntKind}{z:Int}(hz:aH X env ix=some (.c (.int k z))){m:Nat}(hm:z=m)(hlt:m<n) :
  bI P X o env σ (.ptr key (off+m*s)) (λσ=>σ) ⟨[],[]⟩:=by
 refine bI.val λcH w g act h1 hD bZ cX=>?_
 have xo:aH X cH x=some (.gf key off s n):=by rw[h1 x lA];exact ha
 have Zh:aH X cH ix=some (.c (.int k z)):=by rw[h1 ix lA];exact hz
 have r1:=bV (a:=act) cX bZ xo
 obtain⟨b,cap,oo,IV,e1,hcap,_,Vp⟩:=r1
 have e4:=A6 (bV (a:=act) cX bZ Zh)
 obtain⟨d,jc,iF,_⟩:=hX.run_underlying (w:=w) hi
 rw[hk]at iF;subst iF
 have hoff:oo=some ⟨b,off,none⟩:=by rcases Vp with h|h;omega;exact h
 subst hoff
 refine⟨.pointer (some ⟨b,off+m*j.size,none⟩),?_,by simp only[aP];exact⟨b,IV,by rw[hs]⟩⟩
 obtain⟨dst,op,type,pos,after,guard⟩:=o
 subst ho
 simp[execOp,e1,e4,hm,Instr.indexAt,asIntOf,jc,hlt,hX.run_sizeOf hj,Addr.add_lit]
def bI.sliceB(hX:cg P X){o:Oper}{env:Env}{σ:St}{t:TypeId}{x:Operand}{lo hi':Option Operand}(ho:o.op = .slice t x lo hi' none){i j:TI}{e:Nat}(hi:X.ti t=some i)(hk:i.kind = .slice e)(hj:X.ti e=some j)
  {key off s n:Nat}(ha:aH X env x=some (.gf key off s n))(hs:j.size=s){l h:Option Nat}(hl:bound (aH X env) lo=some l)(hh:bound (aH X env) hi'=some h)(h1:h.getD n<=n)(h2:l.getD 0<=h.getD n) :
  bI P X o env σ (.gf key (off+l.getD 0*s) s (h.getD n-l.getD 0)) (λσ=>σ) ⟨[],[]⟩:=by
 refine bI.val λcH w g act hc hD bZ cX=>?_
 have xo:aH X cH x=some (.gf key off s n):=by rw[hc x lA];exact ha
 have hl':bound (aH X cH) lo=some l:=by
  rw[j7 lo (λy hy=>hc y (by rw[ho];subst hy;simp[Op.operands]))];exact hl
 have hh':bound (aH X cH) hi'=some h:=by
  rw[j7 hi' (λy hy=>hc y (by rw[ho];subst hy;simp[Op.operands]))];exact hh
 have r1:=bV (a:=act) cX bZ xo
 obtain⟨b,cap,oo,IV,e1,hcap,Ys,Vp⟩:=r1
 have b1:=nY (g:=g) (ev:=act.eval) (λx v hx=>bV cX bZ hx) hl'
 have b2:=nY (g:=g) (ev:=act.eval) (λx v hx=>bV cX bZ hx) hh'
 have hb:∀w,(Instr.sliceBounds true n cap (lo.map act.eval) (hi'.map act.eval) none).run P w = .ok (l.getD 0,h.getD n,cap) w:=by
  intro w
  cases l with
  |none =>
   cases h with
   |none=>exact jO true b2 b1
   |some h=>exact lI true b2 b1 (abJ h1 hcap)
  |some l =>
   cases h with
   |none=>exact jN true b2 b1 K0
   |some h=>exact mq true b2 b1 (abJ h1 hcap) K0
 refine⟨.slice (if cap=l.getD 0 then oo else oo.map (·.add (l.getD 0*j.size))) (h.getD n-l.getD 0) (cap-l.getD 0),?_,?_⟩
 ·obtain⟨dst,op,type,pos,after,guard⟩:=o
  subst ho
  have:=gb (w:=w) hX hi hk hj (base:=oo) hb
  simp[execOp,e1,this]
 ·simp only[aP]
  generalize l.getD 0=Ll at *
  generalize h.getD n=H at *
  have hmul:off+Ll*s+(cap-Ll)*s=off+cap*s:=by
   rw[adJ,<- acF];congr 2;omega
  by_cases jJ:cap=Ll
  ·grind
  ·refine⟨b,cap-Ll,oo.map (·.add (Ll*j.size)),IV,by rw[if_neg jJ],bn,bn,.inr ?_⟩
   rcases Vp with h0|h0
   ·omega
   ·rw[h0,adB,Addr.add_lit,hs]
end
end Go.cB
namespace Go.cB
def FM{G:ja}{s:Nat}:∀{rows:L CV}{Y:L Value},gR s rows=true->bT G rows Y->bT G (bB rows) (flat s Y)/\(bB rows).all CV.one=true
 |[],Y,_,h=>by simp only[bT]at h;subst h;simp[bB,flat,bT]
 |r::rows,Y,hs,h=>by
  obtain⟨u,us,rfl,h1,h2⟩:=h;obtain⟨T,B,V⟩:=qD (nH hs r c9) h1;have W:gR s rows=true:=by simp only[gR]at hs;grind
  obtain⟨S,U⟩:=FM W h2;exact⟨by simp_all;exact fu B S,by simp only[bB,acT,V,U];rfl⟩
section
variable {P : Program}{X : Ctx}{ops : Array Oper}{o : Oper}{rest : L Oper}{env : Env}{acc : L Fp}{Q : Env -> St -> L Fp -> Prop}{bs : L (Nat × L AV)}{ts : L (Nat × Nat)}{us : L Nat}{σ : St}
def ai.iT(hX:cg P X)(kn:L Nat)(hg:cP ops.toList kn env o=some true){t:TypeId}{x ix:Operand}(ho:o.op = .indexAddr t x ix){d:Nat}(hd:o.dst=some d){i j:TI}{e:Nat}(hi:X.ti t=some i)(hk:i.kind = .slice e)(hj:X.ti e=some j)
  {key off s n:Nat}(ha:aH X env x=some (.gf key off s n))(hs:j.size=s){k0:IntKind}{z:Int}(hz:aH X env ix=some (.c (.int k0 z)))(m:Nat)(hm:z=m)(hlt:m<n)
  (k:ai P X ops rest ((d,.ptr key (off+m*s))::env) σ (⟨[],[]⟩::acc) Q):ai P X ops (o::rest) env σ acc Q :=
 ai.step (cZ hg) (bI.iT hX ho hi hk hj ha hs hz hm hlt) (gE.id _) th
def ai.sliceB(hX:cg P X)(kn:L Nat)(G:cP ops.toList kn env o=some true){t:TypeId}{x:Operand}{W O:Option Operand}(V:o.op = .slice t x W O none){d:Nat}(J:o.dst=some d){i j:TI}{e:Nat}(E:X.ti t=some i)(U:i.kind = .slice e)(T:X.ti e=some j)
  {Y off s n:Nat}(S:aH X env x=some (.gf Y off s n))(C:j.size=s){l h:Option Nat}(N:bound (aH X env) W=some l)(M:bound (aH X env) O=some h)(h1:h.getD n<=n)(h2:l.getD 0<=h.getD n)
  (k:ai P X ops rest ((d,.gf Y (off+l.getD 0*s) s (h.getD n-l.getD 0))::env) σ (⟨[],[]⟩::acc) Q):ai P X ops (o::rest) env σ acc Q :=
 ai.step (cZ G) (bI.sliceB hX V E U T S C N M h1 h2) (gE.id _) p8
def ai.gm(hX:cg P X)(kn:L Nat)(G:cP ops.toList kn env o=some true){t:TypeId}{x:Operand}(V:o.op = .load t x){d:Nat}(J:o.dst=some d){i:TI}(E:X.ti t=some i){Y off:Nat}(O:aH X env x=some (.ptr Y off))
  {cells r:L AV}(A:ak Y bs=some cells)(U:gl off cells=some r){v:AV}(q:wK i r=some v)
  (k:ai P X ops rest ((d,v)::env) ⟨bs,ts,us⟩ (⟨[Y],[]⟩::acc) Q):ai P X ops (o::rest) env ⟨bs,ts,us⟩ acc Q:=by
 have T:gN X bs (aH X env) o.op=some v:=by rw[V];simp only[gN,E,O,A,U,q]
 have:=ai.step (Q:=Q) (rest:=rest) (acc:=acc) (cZ G) (bI.pure (σ:=⟨bs,ts,us⟩) hX T) (gE.id _);rw[J,V]at this;have W:lu (aH X env) (.load t x)=[Y]:=by simp only[lu,O]
 rw[W]at this;exact this k
def ai.vt(hX:cg P X)(kn:L Nat)(J:cP ops.toList kn env o=some true){args:Array Operand}{B:Array TypeId}(I:o.op = .call {callee := .builtin .append,args:=args,argTypes:=B})
  {xs y:Operand}(T:args.toList=[xs,y]){t O:Nat}(E:B.toList=[t,O]){d:Nat}(D:o.dst=some d)(C:Nat.blt d 1000000=true)
  {i j K:TI}{e:Nat}(A:X.ti t=some i)(q:i.kind = .slice e)(p:X.ti e=some j){za:AV}(hz:j.zero=some za)(G:X.ti O=some K)(tE:kL K.kind=true)
  {s:Nat}{rows:L CV}(ha:aH X env xs=some (.own .exact s rows)){b:AV}(hb:aH X env y=some b){u:Nat}{bL:L CV}(N:mz b=some (u,bL))
  {sz:Nat}(W:j.size=sz)(hs:fH s sz rows=true)(rG:fH u sz bL=true)(H:bL≠[])(hu:mem d us=false){V:Nat}(U:j.bytes=V)(S:Nat.ble 1 V=true)(Y:(rows.length+bL.length)*V<=140737488355328)
  {cs:L CV}(M:rows++bL=cs){m:Nat}(hm:cs.length=m)
  (k:ai P X ops rest ((d,.gf d 0 sz m)::env) ⟨(d,ah cs)::bs,ts,d::us⟩ (⟨[],[d]⟩::acc) Q):ai P X ops (o::rest) env ⟨bs,ts,us⟩ acc Q:=by
 subst W U M hm;exact ai.step (cZ J) (bI.vt (σ:=⟨bs,ts,us⟩) hX I T E (Nat.blt_eq.mp C) A q p hz G tE ha hb N hs rG H hu S Y) (pQ d _) (by rw[D];exact k)
def ai.mB(hX:cg P X)(kn:L Nat)(E:cP ops.toList kn env o=some true){args:Array Operand}{B:Array TypeId}(D:o.op = .call {callee := .builtin .append,args:=args,argTypes:=B})
  {xs y:Operand}(T:args.toList=[xs,y]){t I:Nat}(C:B.toList=[t,I]){d:Nat}(A:o.dst=some d)(q:Nat.blt d 1000000=true)
  {i j H:TI}{e:Nat}(p:X.ti t=some i)(hk:i.kind = .slice e)(hj:X.ti e=some j){za:AV}(hz:j.zero=some za)(G:X.ti I=some H)(tE:kL H.kind=true)
  {sz:Nat}(U:j.size=sz){Y n:Nat}(ha:aH X env xs=some (.gf Y 0 sz n)){cells:L AV}(zG:ak Y bs=some cells)(rows:L CV)(tail:L AV)(iD:cells=ah rows++tail)(hn:n=rows.length)(S:(bB rows).length=n*sz)
  {b:AV}(hb:aH X env y=some b){u:Nat}{bL:L CV}(N:mz b=some (u,bL))
  (rG:fH u sz bL=true)(hu:mem d us=false)(V:Nat.beq d Y=false){O:Nat}(M:j.bytes=O)(K:Nat.ble 1 O=true)(W:(rows.length+bL.length)*O<=140737488355328)
  {cs:L CV}(J:rows++bL=cs){m:Nat}(hm:cs.length=m){bs':L (Nat×L AV)}(jS:BH Y bs=bs')
  (k:ai P X ops rest ((d,.gf d 0 sz m)::env) ⟨(d,ah cs)::bs',ts,d::us⟩ (⟨[],[d,Y]⟩::acc) Q):ai P X ops (o::rest) env ⟨bs,ts,us⟩ acc Q:=by
 subst U M J hm jS
 refine ai.step (cZ E) (bI.mB (σ:=⟨bs,ts,us⟩) hX D T C (Nat.blt_eq.mp q) p hk hj hz G tE ha zG iD hn S hb N rG hu K W) (J3 d Y _ (beq_false V)) (by
  rw[A];have:((⟨bs,ts,us⟩:St).dY d (ah (rows++bL))).eF Y=⟨(d,ah (rows++bL))::BH Y bs,ts,d::us⟩:=by simp only[St.eF,St.dY,BH,V]
  rw[this];exact k)
end
end Go.cB
namespace Go.cB
section
variable {P : Program}{X : Ctx}
def bI.iw(hX:cg P X){o:Oper}{env:Env}{σ:St}{t:TypeId}{B:Nat}{A:Array (Nat×Operand)}(O:o.op = .buildSlice t B A){d:Nat}(jc:d<1000000)(hu:mem d σ.used=false)
  {i j:TI}{e:Nat}(hi:X.ti t=some i)(hk:i.kind = .slice e)(C:X.ti e=some j){za:AV}(hz:j.zero=some za){rows:L CV}(D:iu (aH X env) 0 A.toList=some rows)
  (hl:Nat.beq rows.length B=true)(hs:gR j.size rows=true)(hb:Nat.ble (B*j.size) 16777216=true) :
  bI P X o env σ (.gf d 0 j.size B) (λσ=>σ.dY d (ah rows)) ⟨[],[d]⟩:=by
 intro cH I w g Y next Q h1 h2 U bZ cX N;have BF:iu (aH X cH) 0 A.toList=some rows:=by rw[pV _ _ (λp D=>h1 p.2 (by rw[O];simp only[Op.operands,adZ];exact⟨p,D,Z⟩))];exact D
 obtain⟨H,c2⟩:=uz (g:=g) (ev:=Y.eval) (λx v G=>bV cX bZ G) BF;have K:=beq_true hl;have hne:j.size≠0:=by obtain⟨_,_,_,_,_,_,hh⟩:=hX.ti e j C;exact hh
 obtain⟨dd,BJ,E,_⟩:=hX.run_underlying (w:=w) hi;rw[hk]at E;simp only[iE]at E;subst E;obtain⟨z,z1,z2,z3⟩:=hX.lq (w:=w) C hz;have M:∀v∈(A.toList.map λp=>Y.eval p.2),v.cells.size=j.size:=by
  intro v hv;obtain⟨m,hm⟩:=acV hv;obtain⟨l1,l2⟩:=bT.get H;have V:m<rows.length:=by rw[l1];exact(List.getElem?_eq_some_iff.1 hm).1
  obtain⟨u,e1,e2⟩:=l2 m rows[m] aaH;rw[hm]at e1;simp at e1;subst e1;obtain⟨a1,a2,_⟩:=qD (nH hs rows[m] (adw V)) e2;have:=(bT.get a2).1;simp at this;omega
 have T:(A.toList.map λp=>Y.eval p.2).length=B:=by rw[<- (bT.get H).1];exact K
 obtain⟨W,r1,r2,r3⟩:=Al j.size (A.toList.map λp=>Y.eval p.2) 0 ((Array.range (B*j.size)).map (z.cells[· % z.cells.size]!)) M (by simp at T ⊢;rw[T];exact aal _);have J:(execOp Y.eval o).run P w = .ok (.value (.slice (some ⟨w.heap.size,0,none⟩) B B)) {w with heap:=w.heap.push (.cells W e)}:=by
  obtain⟨dst,op,type,pos,after,guard⟩:=o;simp only at O;subst O;have Ae:¬(2^24<B*j.size):=by have:=abf hb;omega
  have JU:∀zc:Array Value,(Array.range (B*j.size)).map (λx=>zc[x%zc.size]!)=(Array.range (B*j.size)).map (λx=>z.cells[x%z.cells.size]!) ->
    Instr.fill (λi=>some (i*j.size,j.size)) ((Array.range (B*j.size)).map (λx=>zc[x%zc.size]!)) (A.map λx=>(x.1,Y.eval x.2)).toList=some W:=by
   intro zc q2;rw[q2,aci];have Xz:(A.toList.map λx=>(x.1,Y.eval x.2))=_:=c2;rw[Xz];exact r1
  simp only[execOp,Instr.buildSlice,Sem.run_bind,BJ,Result.andThen_ok,hX.run_sizeOf C];rw[if_neg (by simpa using Ae)];by_cases h0:B*j.size=0;rw[if_pos h0];simp only[Sem.run_bind,Sem.run_pure,Result.andThen_ok];rw[JU #[] (by rw[h0];simp)];simp[newRow];rw[if_neg h0];simp only[Sem.run_bind,Sem.run_pure,Result.andThen_ok,z1];rw[JU z.cells rfl];simp[newRow]
 unfold Oper.wp;rw[J,Oper.upon_value];have SC:d ∉ I.used:=λh=>cE hu ((h2 d (.inr c9)).2.2.1 h);obtain⟨f1,f2⟩:=FM hs H;have hfl:(flat j.size (A.toList.map λp=>Y.eval p.2)).length=B*j.size:=by
  have:∀l:L Value,(∀v∈l,v.cells.size=j.size)->(flat j.size l).length=l.length*j.size:=by
   intro l
   induction l with
   |nil=>intro _;simp[flat]
   |cons v l ih =>
    intro h;simp only[flat,aao,ih (λx G=>h x (by simp[G])),aaa,aeb];have:=h v c9;simp;omega
  rw[this _ M,T]
 have hsz:W.size=B*j.size:=by rw[r2];simp
 have S:W.toList=flat j.size (A.toList.map λp=>Y.eval p.2):=by apply List.ext_getElem?;intro q;have:=r3 q;simp only[Nat.zero_mul,abi,Nat.sub_zero,abG,true_and]at this;rw[Array.getElem?_toList,this];by_cases hq:q<(flat j.size (A.toList.map λp=>Y.eval p.2)).length;rw[if_pos hq];simp_all
 obtain⟨i1,i2,i3,i4⟩:=Mk (us:=W) (t:=e) (cells:=ah rows) U SC jc (by rw[S];exact oO f1) (by rw[sj];exact f2);refine N _ _ _ ?_ i1 i2 i3;simp only[aP];exact⟨w.heap.size,B,some ⟨w.heap.size,0,none⟩,c9,Z,aal _,by simp only[if_pos,hsz];omega,.inr Z⟩
end
section
variable {P : Program}{X : Ctx}{ops : Array Oper}{o : Oper}{rest : L Oper}{env : Env}{acc : L Fp}{Q : Env -> St -> L Fp -> Prop}{bs : L (Nat × L AV)}{ts : L (Nat × Nat)}{us : L Nat}
def ai.iw(hX:cg P X)(kn:L Nat)(hg:cP ops.toList kn env o=some true){t:TypeId}{len:Nat}{parts:Array (Nat×Operand)}(ho:o.op = .buildSlice t len parts){d:Nat}(hd:o.dst=some d)(jc:Nat.blt d 1000000=true)(hu:mem d us=false)
  {i j:TI}{e:Nat}(hi:X.ti t=some i)(hk:i.kind = .slice e)(hj:X.ti e=some j){za:AV}(hz:j.zero=some za){rows:L CV}(hp:iu (aH X env) 0 parts.toList=some rows)
  (hl:Nat.beq rows.length len=true){s:Nat}(hsz:j.size=s)(hs:gR s rows=true)(hb:Nat.ble (len*s) 16777216=true)
  (k:ai P X ops rest ((d,.gf d 0 s len)::env) ⟨(d,ah rows)::bs,ts,d::us⟩ (⟨[],[d]⟩::acc) Q):ai P X ops (o::rest) env ⟨bs,ts,us⟩ acc Q:=by
 subst hsz
 exact ai.step (cZ hg) (bI.iw (σ:=⟨bs,ts,us⟩) hX ho (Nat.blt_eq.mp jc) hu hi hk hj hz hp hl hs hb) (pQ d _) th
end
end Go.cB
