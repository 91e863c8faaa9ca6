/- A part of the proof. -/
import Derived.Test.YtpnpbmbdkinajaaGreatDoorLibBG
import Derived.Laws.AppendOwn
import Derived.Laws.IdiomStrings
set_option linter.all false
set_option maxRecDepth 100000
namespace Go.cE
def bD:Ψ->Ψ
 |[]=>[]
 |r::rs=>r.cells++bD rs
def Bu{G b}:∀{o a c},dS G b o (a++c)↔dS G b o a/\dS G b (o+a.length) c
 |o,[],c=>by simp[dS]
 |o,x::a,c=>by simp only[ahk,dS,Bu (a:=a)];grind
def sO{G s b}:∀{o rows},ig G s b o rows↔dS G b o (bD rows)/\∀r∈rows,r.cells.length=s
 |o,[]=>by simp[ig,bD,dS]
 |o,r::rs=>by simp only[ig,bD,Bu,C0,sO (rows:=rs)];grind
def dL{s}:∀{rows},(∀r∈rows,r.cells.length=s)->(bD rows).length=rows.length*s
 |[],_=>by simp[bD]
 |r::rs,h=>by simp only[bD,acg,aat,h r cS,dL (rows:=rs) (λx O=>h x Ko),ajM];omega
def eg:∀a c,bD (a++c)=bD a++bD c
 |[],c=>by simp[bD]
 |r::a,c=>by simp[bD,eg a c]
def zO{G b}:∀{o V},dS G b o V->∃T,cy G V T/\(∀(j) u,T[j]?=some u->G b (o+j)=some u)/\V.all CV.one
 |o,[],_=>⟨[],by simp[cy],cS,Z⟩
 |o,c::V,h=>by
  obtain⟨⟨u,S,O,B⟩,h4⟩:=h;obtain⟨T,W,M,U⟩:=zO h4;refine⟨u::T,by simp_all;exact⟨_,_,Z,O,W⟩,?_,by simp[B,U]⟩;intro j x Y;cases j with
  |zero=>simp at Y;subst Y;simpa using S
  |succ j=>simp at Y;have:=M j x Y;rwa[show o+(j+1)=o+1+j from by omega]
def pg{G b}:∀{o V U},cy G V U->(∀(j) u,U[j]?=some u->G b (o+j)=some u)->V.all CV.one->dS G b o V
 |o,[],_,_,_,_=>trivial
 |o,c::V,U,h,K,Y=>by obtain⟨u,us,rfl,T,S⟩:=h;simp only[aiK,aaI]at Y;refine⟨⟨u,by simpa using K 0 u cS,T,Y.1⟩,pg S (λj x W=>?_) Y.2⟩;have:=K (j+1) x (by simpa using W);grind
def oL{G}:∀{cs vs},cy G cs vs->cs.all CV.one->∀u∈vs,u.oneCell'
 |[],vs,h,_,u,hu=>by simp only[cy]at h;subst h;simp at hu
 |c::cs,vs,h,ho,u,hu=>by
  obtain⟨x,us,rfl,h1,h2⟩:=h
  simp only[aiK,aaI]at ho
  rcases List.mem_cons.1 hu with rfl|hu
  ·exact zI (g:=⟨G,λ_=>none,λ_=>none,λ_=>0⟩) (a := .c c) ho.1 adX
  ·exact oL h2 ho.2 u hu
def pn:AV->Option (Nat×Ψ)
 |.own _ s Y=>some (s,Y)
 |.c (.sl s Y)=>some (s,Y)
 |.c (.str l)=>some (1,l.map λb => .int .u8 b.toNat)
 |_=>none
def iu(s t:Nat)(Y:Ψ):Bool:=match Nat.beq s t with
 |true=>true
 |false=>match Y with
  |[]=>true
  |_=>false
theorem qE{s t Y}(h:iu s t Y):s=t\/Y=[]:=by unfold iu at h;split at h;simp_all;grind
def BX:∀(l:Δ),bD (l.map λb=>CV.int .u8 b.toNat)=l.map λb=>CV.int .u8 b.toNat
 |[]=>rfl
 |b::l=>by simp[bD,CV.cells,BX l]
section
variable {P:Program}{X:Ctx}{w:World}{g:Gh}
def Iz G:∀(l:Δ),cy G (l.map λb=>CV.int .u8 b.toNat) (l.map λb=>Value.int .u8 b.toNat)
 |[]=>by simp[cy]
 |b::l=>by simp;exact⟨_,_,Z,aeI,Iz G l⟩
def AM{w}(B:∀b o v,g.G b o=some v->w.cell? ⟨b,o,none⟩=some v){s t O S}(V:mQ g.G s O S)(I:iu s t S)(Y T)(E:Y=S.length) :
  ∃N,cy g.G (bD S) N/\(∀r∈S,r.cells.length=t)/\(bD S).all CV.one/\(Builtin.firstCells t Y (.slice O Y T)).run P w = .ok N.toArray w:=by
 rcases V with rfl|⟨b,o,rfl,V⟩
 ·refine⟨[],by simp[bD,cy],cS,Z,?_⟩;subst E;cases O with
  |none=>simp[Builtin.firstCells]
  |some a=>exact run_firstCells_some w t 0 a 0 T [] cS cS
 rcases qE I with rfl|rfl
 rw[sO]at V;obtain⟨M,J,F,W⟩:=zO V.1;refine⟨M,J,V.2,W,?_⟩;refine run_firstCells_some w s Y _ Y T M ?_ ?_;rw[<- (cy.get J).1,dL V.2,E];intro j v U;rw[Addr.add_lit];exact B _ _ _ (F j v U);refine⟨[],by simp[bD,cy],cS,Z,?_⟩;subst E;exact run_firstCells_some w t 0 _ 0 T [] cS cS
def tU{w}(Q:∀b o v,g.G b o=some v->w.cell? ⟨b,o,none⟩=some v){a s t J}(W:pn a=some (s,J))(I:iu s t J){x}(O:aX g a x) :
  (∃F,cy g.G (bD J) F/\(∀r∈J,r.cells.length=t)/\(bD J).all CV.one/\(Builtin.firstCells t J.length x).run P w = .ok F.toArray w)/\(Builtin.lenOf x).run P w = .ok J.length w:=by
 unfold pn at W;split at W<;>simp at W;obtain⟨rfl,rfl⟩:=W;obtain⟨D,Y,T,rfl,E,z,B,M⟩:=O;obtain⟨F,U,S,n3,A⟩:=AM (P:=P) Q B I Y T E;exact⟨⟨F,U,S,n3,by rw[<- E];exact A⟩,by simp[Builtin.lenOf,E]⟩;obtain⟨rfl,rfl⟩:=W;obtain⟨D,Y,T,rfl,E,z,B⟩:=O;obtain⟨F,U,S,n3,A⟩:=AM (P:=P) Q B I Y T E;exact⟨⟨F,U,S,n3,by rw[<- E];exact A⟩,by simp[Builtin.lenOf,E]⟩;rename_i l;obtain⟨rfl,rfl⟩:=W;subst O;have V:((l.map λb=>CV.int .u8 b.toNat).all CV.one):=by simp[CV.one]
 have N:t=1\/l=[]:=by
  rcases qE I with h|h
  omega;simp_all
 refine⟨⟨l.map λb=>Value.int .u8 b.toNat,by rw[BX];exact Iz _ l,?_,by rw[BX];exact V,?_⟩,?_⟩
 ·intro r C;rcases N with rfl|rfl
  simp at C;obtain⟨b,_,rfl⟩:=C;rfl;grind
 ·simp only[Builtin.firstCells,ahY];have:(ByteArray.mk l.toArray).extract 0 l.length=⟨l.toArray⟩:=by rw[extract_mk];simp
  simp
 simp[Builtin.lenOf,ByteArray.size]
def C8(hX:cI P X){t i}(H:X.ti t=some i)(I:(match i.kind with | .slice _ | .str=>true|_=>false)=true)(w:World) :
  ∃d,P.underlying t=some d/\(d = .string\/∃e,d = .slice e):=by
 obtain⟨d,U,V,B⟩:=hX.run_underlying (w:=w) H;refine⟨d,B,?_⟩;split at I;rename_i e Y;rw[Y]at V;exact .inr ⟨e,V⟩;rename_i Y;rw[Y]at V;exact .inl V;grind
def nA{t t1 ty e G}(C:P.underlying t=some (.slice e))(U:P.underlying t1=some G)(A:G = .string\/∃e,G = .slice e){i}(H:P.info? e=some i)
  {base sLen sCap n x}{V:L Value}(E:(Builtin.lenOf x).run P w = .ok n w)(hf:(Builtin.firstCells i.size n x).run P w = .ok V.toArray w)(B:sLen+n<=sCap)
  {w'}(p:match (motive:=Option Addr->Prop) base with|some a=>(storeCells (a.add (sLen*i.size)) V).run P w = .ok () w'|none=>w'=w) :
  (Builtin.append_ #[t,t1] ty #[.slice base sLen sCap,x]).run P w = .ok (.slice base (sLen+n) sCap) w':=by
 rcases A with rfl|⟨Y,rfl⟩
 all_goals
  cases base with
  |none =>
   simp only at p;subst p;simp[Builtin.append_,run_underlying C,run_underlying U,sizeOf,typeInfo,H,E,B,hf]
  |some a =>
   simp only at p;simp[Builtin.append_,run_underlying C,run_underlying U,sizeOf,typeInfo,H,E,B,hf,p]
def qg{t t1 B e G}(C:P.underlying t=some (.slice e))(y:P.underlying t1=some G)(A:G = .string\/∃e,G = .slice e){i}(H:P.info? e=some i){z}(V:i.zero=some z)
  {J O M n x}{F D:L Value}(E:(Builtin.lenOf x).run P w = .ok n w)(hf:(Builtin.firstCells i.size n x).run P w.drew = .ok D.toArray w.drew)
  (Y:(Builtin.firstCells i.size O (.slice J O M)).run P w.drew = .ok F.toArray w.drew)(N:M<O+n)(U:O+n<=140737488355328)(T:(O+n)*i.bytes<=140737488355328) :
  (Builtin.append_ #[t,t1] B #[.slice J O M,x]).run P w =
   .ok (.slice (some ⟨w.heap.size,0,none⟩) (O+n) (grownCap w (O+n) M e))
    (w.drew.alloc (.cells (F.toArray++D.toArray++Builtin.zeroCells z.cells (grownCap w (O+n) M e-(O+n))) e)):=by
 have I:¬(O+n<=M):=by omega
 have W:¬(9223372036854775807<((O:Int)+(n:Int))):=by omega
 have S:¬(281474976710656<Builtin.nextslicecap (O+n) M*i.bytes):=by have:=growslice_fits N T;omega
 rcases A with rfl|⟨Q,rfl⟩
 all_goals
  simp[Builtin.append_,run_underlying C,run_underlying y,sizeOf,typeInfo,zeroValue,H,V,E,Question.forced,hf,Y,newRow,grownCap];grind
def agb{w g σ}(hinv:Inv w g σ)(us)(t)(k)(hk:k<=us.size)(key n)(hkey:key ∉ σ.used\/∃n0,au key σ.toks=some n0/\n0<n)(w')(hw':w'={w with heap:=w.heap.push (.cells us t),drawn:=w'.drawn}) :
  let g':Gh:=⟨λb o=>if b=w.heap.size/\o<k then us[o]? else g.G b o,g.box,λj=>if j=key then some (n,some (w.heap.size,k,us.size))else g.tok j,g.room⟩
  let σ':St:=⟨σ.boxes,yC key n σ.toks,key::σ.used⟩
  Inv w' g' σ'/\jv w g σ w' g' σ'/\g.le g':=by
 intro g' σ'
 have ZT:w'.heap=w.heap.push (.cells us t):=by rw[hw']
 have Lq:∀b o,b<w.heap.size->w'.cell? ⟨b,o,none⟩=w.cell? ⟨b,o,none⟩/\w'.frozen? ⟨b,o,none⟩=w.frozen? ⟨b,o,none⟩:=by
  intro b o hb
  simp only[World.cell?,World.frozen?]
  grind
 have ZU:∀o,w'.cell? ⟨w.heap.size,o,none⟩=us[o]?/\w'.frozen? ⟨w.heap.size,o,none⟩=false:=by
  simp only[World.cell?,World.frozen?,ZT]
  simp
 have hsz:w'.heap.size=w.heap.size+1:=by rw[ZT];simp
 have Qs:∀b o v,g.G b o=some v->b<w.heap.size:=λb o v h=>World.block_lt_of_cell? w ⟨b,o,none⟩ (hinv.rS b o v h)
 have adi:∀hw iy,g.tok key=some (hw,iy)->hw<n:=by
  intro hw iy e
  rcases hkey with hkey|⟨n0,h1,h2⟩
  ·exact absurd (hinv.used key (.inr (by rw[e];simp))) hkey
  ·obtain⟨Ig,h3,_⟩:=hinv.tok key n0 h1
   rw[e]at h3;simp at h3;omega
 have hle:g.le g':=by
  refine⟨λb o v h=>?_,λ_ _ h=>h,λ_ _ _=>rfl,λj hw iy h=>?_⟩
  ·have:=Qs b o v h
   simp only[g'];rw[if_neg ai];exact h
  ·simp only[g']
   split
   ·rename_i hj;subst hj
    have:=adi hw iy h
    exact⟨n,_,Z,ai,ai⟩
   ·exact⟨hw,iy,h,acd _,λ_=>rfl⟩
 have Nf:∀b o,b<w.heap.size->g'.G b o=g.G b o:=by
  intro b o hb;simp only[g'];rw[if_neg ai]
 have tF:w'.os=w.os/\w'.tape=w.tape/\w'.output=w.output:=by rw[hw'];exact⟨Z,Z,Z⟩
 refine⟨⟨?_,?_,hinv.gR,?_,?_,?_,hinv.Eo λk cs b _ _ hb o=>Lq b o hb⟩,⟨tF.1,tF.2.1,tF.2.2,ai,λb hb _=>by rw[ZT,akQ,if_neg ai],λb o hb _=>Lq b o hb,hle.1,?_,?_,?_,λ_ _ h=>⟨h,Z,Z⟩⟩,hle⟩
 ·intro b o v h
  simp only[g']at h
  split at h
  ·rename_i hb;obtain⟨rfl,_⟩:=hb;rw[(ZU o).1];exact h
  ·rw[(Lq b o (Qs b o v h)).1];exact hinv.rS b o v h
 ·intro k cs e
  obtain⟨b,h1,h2,h3,h4⟩:=hinv.box k cs e
  exact⟨b,h1,ai,λo=>by rw[Nf b o h2];exact h3 o,(cC.of_same (λo=>Lq b o h2) h4).mono hle⟩
 ·intro j m e
  simp only[σ',fP]at e
  simp only[g']
  split at e
  ·rename_i hj;subst hj
   simp at e;subst e
   rw[if_pos rfl]
   refine⟨_,Z,λb lo hi hr=>?_⟩
   simp at hr;obtain⟨rfl,rfl,rfl⟩:=hr
   refine⟨ai,λo h1 h2=>⟨?_,⟨us[o],?_⟩,(ZU o).2⟩,λk' cs e' he=>?_⟩
   ·rw[if_neg ai]
    cases hg:g.G w.heap.size o with
    |none=>rfl
    |some v=>have:=Qs _ _ _ hg;omega
   ·rw[(ZU o).1];simp[h2]
   ·obtain⟨b',f1,f2,_⟩:=hinv.box k' cs e'
    rw[f1]at he;simp at he;omega
  ·rename_i hj
   rw[if_neg hj]
   obtain⟨iy,h1,h2⟩:=hinv.tok j m e
   refine⟨iy,h1,λb lo hi hr=>?_⟩
   obtain⟨h3,h4,h5⟩:=h2 b lo hi hr
   refine⟨ai,λo P6 Te=>?_,h5⟩
   obtain⟨h6,⟨u,h7⟩,h8⟩:=h4 o P6 Te
   exact⟨ad1,⟨u,(Lq b o h3).1.trans h7⟩,(Lq b o h3).2.trans h8⟩
 ·intro j j' m m' b lo hi lo' hi' e e' e1 e2
  simp only[σ',fP]at e e'
  simp only[g']at e1 e2
  split at e
  ·rename_i hj;subst hj
   rw[if_pos rfl]at e1
   simp at e1;obtain⟨_,rfl,_,_⟩:=e1
   split at e'
   ·rename_i hj';exact hj'.symm
   ·rename_i hj'
    rw[if_neg hj']at e2
    obtain⟨iy,h1,h2⟩:=hinv.tok j' m' e'
    rw[e2]at h1;simp at h1
    have:=(h2 _ _ _ h1.symm).1
    omega
  ·rename_i hj
   rw[if_neg hj]at e1
   split at e'
   ·rename_i hj';subst hj'
    rw[if_pos rfl]at e2
    simp at e2;obtain⟨_,rfl,_,_⟩:=e2
    obtain⟨iy,h1,h2⟩:=hinv.tok j m e
    rw[e1]at h1;simp at h1
    have:=(h2 _ _ _ h1.symm).1
    omega
   ·rename_i hj'
    rw[if_neg hj']at e2
    exact hinv.iX j j' m m' b lo hi lo' hi' e e' e1 e2
 ·intro j e
  simp only[σ',aim]
  by_cases hj:j=key
  ·exact .inl hj
  ·right;apply hinv.used j;simpa[g',hj]using e
 ·intro b o v h
  simp only[g']at h
  split at h
  ·rename_i hb;right;left;omega
  ·exact .inl h
 ·exact λk cs b h1 h2 => .inr ⟨k,cs,h1,h2⟩
 ·intro j m b lo hi e1 e2
  simp only[σ',fP]at e1
  simp only[g']at e2
  split at e1
  ·rename_i hj;subst hj
   rw[if_pos rfl]at e2
   simp at e2;left;omega
  ·rename_i hj
   rw[if_neg hj]at e2
   exact .inr ⟨j,m,lo,hi,e1,e2,acd _,acd _⟩
def adj{w g σ}(W:Inv w g σ)(K n)(q)(V:(K ∉ σ.used/\q=none)\/∃n0,g.tok K=some (n0,q)/\au K σ.toks=some n0/\n0<n) :
  let g':Gh:=⟨g.G,g.box,λj=>if j=K then some (n,q)else g.tok j,g.room⟩;let O:St:=⟨σ.boxes,yC K n σ.toks,K::σ.used⟩
  Inv w g' O/\jv w g σ w g' O/\g.le g':=by
 intro g' O;have u:g.le g':=by
  refine⟨lB.le.refl _,λ_ _ h=>h,λ_ _ _=>rfl,λj d r h=>?_⟩;simp only[g'];split
  ·rename_i Y;subst Y;rcases V with ⟨V,_⟩|⟨n0,F,z,B⟩
   exact absurd (W.used j (.inr (by rw[h];simp))) V;grind
  grind
 refine⟨⟨W.rS,?_,W.gR,?_,?_,?_,W.room⟩,⟨Z,Z,Z,acd _,λ_ _ _=>rfl,λ_ _ _ _=>⟨Z,Z⟩,lB.le.refl _,λ_ _ _ h => .inl h,λk y b F z => .inr ⟨k,y,F,z⟩,?_,λ_ _ h=>⟨h,Z,Z⟩⟩,u⟩;intro k y e;obtain⟨b,F,z,B,x⟩:=W.box k y e;exact⟨b,F,z,B,x.mono u⟩
 ·intro j m e;simp only[O,fP]at e;simp only[g'];split at e
  ·rename_i Y;subst Y;simp at e;subst e;rw[if_pos rfl];refine⟨_,Z,λb D H C=>?_⟩;rcases V with ⟨_,rfl⟩|⟨n0,F,z,B⟩
   simp at C;obtain⟨a,T,S⟩:=W.tok j n0 z;rw[F]at T;simp at T;subst T;exact S b D H C
  rename_i Y;rw[if_neg Y];exact W.tok j m e
 ·intro j I m t b D H E N e i A Q;have U:∀j m b D H,au j O.toks=some m->g'.tok j=some (m,some (b,D,H))->∃p,au j σ.toks=some p/\g.tok j=some (p,some (b,D,H)):=by intro j m b D H e A;simp only[O,fP]at e;simp only[g']at A;split at e;grind;simp_all
  obtain⟨p,T,S⟩:=U j m b D H e A;obtain⟨P,M,J⟩:=U I t b E N i Q;exact W.iX j I p P b D H E N T M S J
 intro j e;simp only[O,aim];by_cases Y:j=K;exact .inl Y;right;apply W.used j;simpa[g',Y]using e;intro j m b D H A Q;simp only[O,fP]at A;simp only[g']at Q;split at A;grind;grind
def adk{w w' g σ}(hinv:Inv w g σ){key n b lo hi}(hk:au key σ.toks=some n)(hg:g.tok key=some (n,some (b,lo,hi)))(vs:L Value)(hfit:lo+vs.length<=hi)
  (r2:w'.heap.size=w.heap.size/\w'.os=w.os/\w'.tape=w.tape/\w'.output=w.output/\∀b',b'≠b->w'.heap[b']?=w.heap[b']?)
  (r3:∀b' o',b'≠b\/o'<lo\/lo+vs.length<=o'->w'.cell? ⟨b',o',none⟩=w.cell? ⟨b',o',none⟩)(r4:∀b' o',w'.frozen? ⟨b',o',none⟩=w.frozen? ⟨b',o',none⟩)
  (r5:∀j v,vs[j]?=some v->w'.cell? ⟨b,lo+j,none⟩=some v)(hne:vs≠[]) :
  let g':Gh:=⟨λb' o=>if b'=b/\lo<=o/\o<lo+vs.length then vs[o-lo]? else g.G b' o,g.box,λj=>if j=key then some (n+1,some (b,lo+vs.length,hi))else g.tok j,g.room⟩
  let σ':St:=⟨σ.boxes,yC key (n+1) σ.toks,key::σ.used⟩
  Inv w' g' σ'/\jv w g σ w' g' σ'/\g.le g':=by
 intro g' σ'
 obtain⟨aoi,t1,t2⟩:=hinv.tok key n hk
 rw[hg]at t1;simp at t1;subst t1
 obtain⟨t3,t4,t5⟩:=t2 b lo hi rfl
 have hlen:0<vs.length:=List.length_pos_iff.2 hne
 have aic:∀b' o v,g.G b' o=some v->¬(b'=b/\lo<=o/\o<lo+vs.length):=by
  rintro b' o v h ⟨rfl,h1,h2⟩
  rw[(t4 o h1 ai).1]at h;simp at h
 have hle:g.le g':=by
  refine⟨λb' o v h=>?_,λ_ _ h=>h,λ_ _ _=>rfl,λj hw r h=>?_⟩
  ·simp only[g'];rw[if_neg (aic b' o v h)];exact h
  ·simp only[g']
   split
   ·rename_i hj;subst hj
    rw[hg]at h;simp at h;exact⟨n+1,_,Z,ai,ai⟩
   ·exact⟨hw,r,h,acd _,λ_=>rfl⟩
 have hcell:∀b' o,¬(b'=b/\lo<=o/\o<lo+vs.length)->w'.cell? ⟨b',o,none⟩=w.cell? ⟨b',o,none⟩:=by
  intro b' o h;exact r3 b' o ai
 refine⟨⟨?_,?_,hinv.gR,?_,?_,?_,hinv.Eo λk cs b' e h1 hb o=>⟨hcell b' o (by rintro⟨rfl,_⟩;exact t5 k cs e h1),r4 b' o⟩⟩,⟨r2.2.1,r2.2.2.1,r2.2.2.2.1,ai,λb' hb' hno=>r2.2.2.2.2 b' (by rintro rfl;exact hno lo (.inr ⟨key,n,lo,hi,hk,hg,ai,ai⟩)),λb' o hb' hno=>⟨hcell b' o ?_,r4 b' o⟩,hle.1,?_,λk cs b h1 h2 => .inr ⟨k,cs,h1,h2⟩,?_,λ_ _ h=>⟨h,rfl,rfl⟩⟩,hle⟩
 ·intro b' o v h
  simp only[g']at h
  split at h
  ·rename_i hb;obtain⟨rfl,h1,h2⟩:=hb
   have:=r5 (o-lo) v h
   rwa[show lo+(o-lo)=o from by omega]at this
  ·rename_i hb;rw[hcell b' o hb];exact hinv.rS b' o v h
 ·intro k cs e
  obtain⟨b',h1,h2,h3,h4⟩:=hinv.box k cs e
  have Ew:b'≠b:=by rintro rfl;exact t5 k cs e h1
  exact⟨b',h1,ai,λo=>by simp only[g'];rw[if_neg ai];exact h3 o,(cC.of_same (λo=>⟨hcell b' o ai,r4 b' o⟩) h4).mono hle⟩
 ·intro j m e
  simp only[σ',fP]at e
  simp only[g']
  split at e
  ·rename_i hj;subst hj
   simp at e;subst e
   rw[if_pos rfl]
   refine⟨_,Z,λb' lo' hi' hr=>?_⟩
   simp at hr;obtain⟨rfl,rfl,rfl⟩:=hr
   refine⟨ai,λo h1 h2=>?_,t5⟩
   obtain⟨h6,⟨u,h7⟩,h8⟩:=t4 o ai h2
   exact⟨ad1,⟨u,(hcell b o ai).trans h7⟩,(r4 b o).trans h8⟩
  ·rename_i hj
   rw[if_neg hj]
   obtain⟨iy,h1,h2⟩:=hinv.tok j m e
   refine⟨iy,h1,λb' lo' hi' hr=>?_⟩
   obtain⟨h3,h4,h5⟩:=h2 b' lo' hi' hr
   have Ew:b'≠b:=by
    rintro rfl;subst hr
    exact hj (hinv.iX j key m n b' lo' hi' lo hi e hk h1 hg)
   refine⟨ai,λo P6 Te=>?_,h5⟩
   obtain⟨h6,⟨u,h7⟩,h8⟩:=h4 o P6 Te
   exact⟨ad1,⟨u,(hcell b' o ai).trans h7⟩,(r4 b' o).trans h8⟩
 ·intro j j' m m' b1 lo1 hi1 lo2 hi2 e e' e1 e2
  have key':∀j m b1 lo1 hi1,au j σ'.toks=some m->g'.tok j=some (m,some (b1,lo1,hi1))->∃m0 J4 uo,au j σ.toks=some m0/\g.tok j=some (m0,some (b1,J4,uo)):=by
   intro j m b1 lo1 hi1 e e1
   simp only[σ',fP]at e
   simp only[g']at e1
   split at e
   ·simp_all
   ·simp_all
  obtain⟨m0,l0,h0,f1,f2⟩:=key' j m b1 lo1 hi1 e e1
  obtain⟨m0',l0',S3,f1',f2'⟩:=key' j' m' b1 lo2 hi2 e' e2
  exact hinv.iX j j' m0 m0' b1 l0 h0 l0' S3 f1 f1' f2 f2'
 ·intro j e
  simp only[σ',aim]
  by_cases hj:j=key
  ·exact .inl hj
  ·right;apply hinv.used j;simpa[g',hj]using e
 ·rintro⟨rfl,h1,h2⟩;exact hno (.inr ⟨key,n,lo,hi,hk,hg,ai,ai⟩)
 ·intro b' o v h
  simp only[g']at h
  split at h
  ·rename_i hb;obtain⟨rfl,h1,h2⟩:=hb
   exact .inr (.inr (.inr ⟨key,n,lo,hi,hk,hg,ai,ai⟩))
  ·exact .inl h
 ·intro j m b' lo' hi' e1 e2
  simp only[σ',fP]at e1
  simp only[g']at e2
  split at e1
  ·rename_i hj;subst hj
   rw[if_pos rfl]at e2
   simp at e2;obtain⟨_,rfl,rfl,rfl⟩:=e2
   exact .inr ⟨j,n,lo,hi,hk,hg,ai,acd _⟩
  ·rename_i hj
   rw[if_neg hj]at e2
   exact .inr ⟨j,m,lo',hi',e1,e2,acd _,acd _⟩
end
def zP(d:Nat)(us:Ω)(ts:tad):Own->Option (Nat×Nat)
 |.exact=>match mem d us with
  |false=>some (d,0)
  |true=>none
 |.tok k m=>match au k ts with
  |some J=>match Nat.beq J m with
   |true=>some (k,m+1)
   |false=>none
  |none=>none
def IA(s t:Nat)(Y:Ψ):Own->Bool
 |.exact=>iu s t Y
 |.tok _ _=>Nat.beq s t
def C9{s t Y}:∀{o},IA s t Y o->iu s t Y
 |.exact,h=>h
 |.tok _ _,h=>by simp only[IA]at h;simp[iu,h]
def nB:TK->Bool
 |.slice _ | .str=>true
 |_=>false
def Tt(K n):jf (λσ=>(⟨σ.boxes,yC K n σ.toks,K::σ.used⟩)) ⟨[],[K]⟩ where
 out:=λσ k I=>by
  have:k≠K:=by simpa using I
  refine⟨Z,?_,?_⟩;simp only[fP,if_neg this];simp_all
 same:=λσ p h k I=>by
  have:k=K:=by simpa using I
  subst this;refine⟨(h k (.inr cS)).1,?_,?_⟩;simp[fP];simp
section
variable {P:Program}{X:Ctx}
def Lr{U s b o V b9 olds news}(T:cy U (bD V) olds)(S:cy U (bD b9) news)(G:∀r∈V,r.cells.length=s)(Y:∀r∈b9,r.cells.length=s)
  (J:(bD V).all CV.one)(K:(bD b9).all CV.one)(I:∀(j) u,(olds++news)[j]?=some u->U b (o+j)=some u):ig U s b o (V++b9):=by
 rw[sO,eg];refine⟨pg (gD T S) I (by rw[ajJ,J,K];rfl),?_⟩;grind
set_option maxHeartbeats 1600000 in
def bR.append(hX:cI P X){o:Oper}{env:Env}{σ:St}{args:tam}{ats:Array TypeId}(ho:o.op = .call {callee := .builtin .append,args:=args,argTypes:=ats})
  {xs y:Operand}(hargs:args.toList=[xs,y]){t t1:Nat}(EE:ats.toList=[t,t1]){d:Nat}
  {i j i1:TI}{e:Nat}(hi:X.ti t=some i)(hk:i.kind = .slice e)(hj:X.ti e=some j){za:AV}(hz:j.zero=some za)(hi1:X.ti t1=some i1)(rZ:nB i1.kind)
  {ow:Own}{s:Nat}{rows:Ψ}(ha:aJ X env xs=some (.own ow s rows)){b:AV}(hb:aJ X env y=some b){s1:Nat}{b9:Ψ}(hsrc:pn b=some (s1,b9))
  (hs:IA s j.size rows ow)(uq:iu s1 j.size b9){key n:Nat}(hkey:zP d σ.used σ.toks ow=some (key,n))(hby:Nat.ble 1 j.bytes)(hbound:(rows.length+b9.length)*j.bytes<=140737488355328) :
  bR P X o env σ (.own (.tok key n) j.size (rows++b9)) (λσ=>⟨σ.boxes,yC key n σ.toks,key::σ.used⟩) ⟨[],[key]⟩:=by
 intro dx σ1 w g act next Q h1 h2 hinv cB dI hnext
 have tV:∀x∈args.toList,x∈o.op.operands.toList:=by
  intro x hx
  rw[ho];simp only[Op.operands,Call.operands,aiu,ahj];exact .inr hx
 have Bg:aJ X dx xs=some (.own ow s rows):=by rw[h1 xs (tV xs ae5)];exact ha
 have hb':aJ X dx y=some b:=by rw[h1 y (tV y ae5)];exact hb
 have rA:=cz (a:=act) dI cB Bg
 have rB:=cz (a:=act) dI cB hb'
 simp only[aX]at rA
 obtain⟨base,len,cap,ex,hlen,hcap,ie,hown⟩:=rA
 obtain⟨⟨news,n1,n2,n3,n4⟩,n5⟩:=tU (P:=P) (w:=w) hinv.rS hsrc uq rB
 obtain⟨⟨news',n1',n2',n3',n4'⟩,_⟩:=tU (P:=P) (w:=w.drew) (λb o v h=>by rw[World.cell?_drew];exact hinv.rS b o v h) hsrc uq rB
 obtain⟨olds,m1,m2,m3,m4⟩:=AM (P:=P) (w:=w.drew) (g:=g) (λb o v h=>by rw[World.cell?_drew];exact hinv.rS b o v h) ie (C9 hs) len cap hlen
 obtain⟨dt,_,Da,Km⟩:=hX.run_underlying (w:=w) hi
 rw[hk]at Da;simp only[jX]at Da;subst Da
 obtain⟨d1,kV,Gu⟩:=C8 hX hi1 afg w
 obtain⟨inf,if1,Tu,if3,if4,_,if6⟩:=hX.ti e j hj
 obtain⟨z,z1,_,z3⟩:=if4 za hz
 have VJ:news.length=b9.length*j.size:=by rw[<- (cy.get n1).1,dL n2]
 have Xk:news'.length=b9.length*j.size:=by rw[<- (cy.get n1').1,dL n2']
 have Xe:olds.length=rows.length*j.size:=by rw[<- (cy.get m1).1,dL m2]
 have BY:args = #[xs,y]:=by cases args;simp_all
 have IB:ats = #[t,t1]:=by cases ats;simp_all
 have ZV:=ahw hby
 have hsmall:rows.length+b9.length<=140737488355328:=aiq (akz _ ZV) hbound
 have ZW:∀(v:Value)(w':World),(Builtin.append_ #[t,t1] o.type #[.slice base len cap,act.eval y]).run P w = .ok v w'->(execOp act.eval o).run P w = .ok (.value v) w':=by
  intro v w' hr
  obtain⟨dst,op,type,pos,after,guard⟩:=o
  simp only at ho hr;subst ho
  subst BY IB
  simp[execOp,resolve,invoke,builtin,ex,hr,Result.andThen]
 unfold Oper.wp
 by_cases hroom:len+b9.length<=cap
 ·by_cases h0:b9.length=0
  ·obtain rfl:b9=[]:=ajN h0
   have hn0:news=[]:=by simpa[bD,cy]using n1
   subst hn0
   rw[ZW _ w (nA (w':=w) Km kV Gu if1 n5 af1 hroom (by cases base<;>simp[storeCells]))]
   rw[Oper.upon_value]
   have aii:∃iy,((key ∉ σ1.used/\iy=none)\/∃n0,g.tok key=some (n0,iy)/\au key σ1.toks=some n0/\n0<n) /\
     (cap=len\/∃b lo hi o,iy=some (b,lo,hi)/\base=some ⟨b,o,none⟩/\lo=o+len*j.size/\hi=o+cap*j.size/\len<=cap):=by
    cases ow with
    |exact =>
     simp only[zP]at hkey
     split at hkey
     ·rename_i hu
      simp at hkey;obtain⟨rfl,rfl⟩:=hkey
      exact⟨none,.inl ⟨λh=>cX hu ((h2 d (.inr cS)).2.2.1 h),Z⟩,.inl hown⟩
     ·simp at hkey
    |tok k m =>
     simp only[zP]at hkey
     split at hkey
     ·rename_i m' hm'
      split at hkey
      ·rename_i O7
       simp at hkey;obtain⟨rfl,rfl⟩:=hkey
       have:=beq_true O7;subst this
       have yI:au k σ1.toks=some m':=by rw[(h2 k (.inr cS)).2.1];exact hm'
       obtain⟨hw,iy,e1,e2,e3⟩:=hown
       obtain⟨Ig,e4,_⟩:=hinv.tok k m' yI
       rw[e1]at e4;simp at e4;obtain⟨rfl,rfl⟩:=e4
       simp only[IA]at hs
       have:=beq_true hs;subst this
       exact⟨iy,.inr ⟨hw,e1,yI,ai⟩,e3 Z⟩
      ·simp at hkey
     ·simp at hkey
   obtain⟨iy,DW,SA⟩:=aii
   obtain⟨i1,i2,i3⟩:=adj hinv key n iy DW
   refine hnext _ w _ ?_ i1 i2 i3
   simp only[aX,ahq,aav,aiI]
   refine⟨base,len,cap,Z,hlen,hcap,?_,n,iy,cS,acd _,λ_=>SA⟩
   rcases ie with rfl|⟨b0,o0,hb0,Ys⟩
   ·exact .inl Z
   ·rcases qE (C9 hs)with rfl|rfl
    ·exact .inr ⟨b0,o0,hb0,Ys⟩
    ·exact .inl Z
  ·
   cases ow with
   |exact=>simp only[Br]at hown;omega
   |tok k m =>
    simp only[zP]at hkey
    split at hkey
    ·rename_i m' hm'
     split at hkey
     ·rename_i O7
      simp at hkey;obtain⟨rfl,rfl⟩:=hkey
      have:=beq_true O7;subst this
      have yI:au k σ1.toks=some m':=by rw[(h2 k (.inr cS)).2.1];exact hm'
      obtain⟨hw,iy,e1,e2,e3⟩:=hown
      obtain⟨Ig,e4,e5⟩:=hinv.tok k m' yI
      rw[e1]at e4;simp at e4;obtain⟨rfl,rfl⟩:=e4
      simp only[IA]at hs
      have:=beq_true hs;subst this
      rcases e3 rfl with hc|⟨b0,lo,hi',o0,rfl,rfl,rfl,rfl,_⟩
      ·omega
      obtain⟨f1,f2,f3⟩:=e5 _ _ _ rfl
      have hmul:len*j.size+news.length<=cap*j.size:=by
       rw[VJ,<- ajM];exact ajG _ hroom
      obtain⟨w',r1,r2,r3,r4,r5⟩:=pe (P:=P) (w:=w) b0 news (o0+len*j.size) 0 w (oL n1 n3) (by
       intro q hq
       simp only[aiI]
       obtain⟨_,g2,g3⟩:=f2 (o0+len*j.size+q) ai ai
       exact⟨g2,g3⟩)
      simp only[aiI]at r3 r5
      rw[ZW _ w' (nA (w':=w') Km kV Gu if1 n5 af1 hroom (by simp only[Addr.add_lit,Tu];exact r1))]
      rw[Oper.upon_value]
      obtain⟨i1,i2,i3⟩:=adk hinv yI e1 news ai r2 r3 r4 r5 (by
       intro hn;rw[hn]at VJ
       have hz:b9.length*j.size=0:=VJ.symm
       rcases Nat.mul_eq_zero.1 hz with hz|hz
       ·exact h0 hz
       ·exact if6 hz)
      refine hnext _ w' _ ?_ i1 i2 i3
      simp only[aX]
      refine⟨_,_,_,Z,by simp[hlen],ai,.inr ⟨b0,o0,Z,?_⟩,hw+1,some (b0,o0+len*j.size+news.length,o0+cap*j.size),cS,acd _,λ_ => .inr ⟨b0,_,_,o0,Z,Z,?_,Z,ai⟩⟩
      ·refine Lr (olds:=olds) (news:=news) (cy.mono i3.1 _ _ m1) (cy.mono i3.1 _ _ n1) m2 n2 m3 n3 λq u hq=>?_
       by_cases hql:q<olds.length
       ·rw[akq hql]at hq
        rcases ie with rfl|⟨b2,o2,SA,Tb⟩
        ·simp_all
        ·simp at SA;obtain⟨rfl,rfl⟩:=SA
         rw[sO]at Tb
         obtain⟨vs,v1,v2,v3⟩:=zO Tb.1
         have:vs=olds:=by
          have q1:(Builtin.firstCells j.size len (.slice (some ⟨b0,o0,none⟩) len cap)).run P w.drew = .ok vs.toArray w.drew:=by
           refine run_firstCells_some w.drew j.size len _ len cap vs ?_ ?_
           ·rw[<- (cy.get v1).1,dL Tb.2,hlen]
           ·intro j v hj;rw[Addr.add_lit,World.cell?_drew];exact hinv.rS _ _ _ (v2 j v hj)
          rw[m4]at q1;simp at q1;exact q1.symm
         subst this
         exact i3.1 _ _ _ (v2 q u hq)
       ·grind
      ·grind
     ·simp at hkey
    ·simp at hkey
 ·have hg:cap<len+b9.length:=by omega
  have hbd:(len+b9.length)*inf.bytes<=140737488355328:=by rw[if3,hlen];exact hbound
  rw[ZW _ _ (qg Km kV Gu if1 z1 n5 (by rw[Tu];exact n4') (by rw[Tu];exact m4) hg ai hbd)]
  rw[Oper.upon_value]
  have hge:=grownCap_ge w (len+b9.length) cap e
  generalize grownCap w (len+b9.length) cap e=nc at hge ⊢
  have yA:(olds.toArray++news'.toArray++Builtin.zeroCells z.cells (nc-(len+b9.length))).size=nc*j.size:=by
   simp only[ajr,aiS,size_zeroCells,Xe,Xk,z3,<- hlen,<- ajM]
   congr 1;omega
  have alj:(len+b9.length)*j.size<=(olds.toArray++news'.toArray++Builtin.zeroCells z.cells (nc-(len+b9.length))).size:=by rw[yA];exact ajG _ hge
  have hkk:key ∉ σ1.used\/∃n0,au key σ1.toks=some n0/\n0<n:=by
   cases ow with
   |exact =>
    simp only[zP]at hkey
    split at hkey
    ·rename_i hu
     simp at hkey;obtain⟨rfl,rfl⟩:=hkey
     exact .inl λh=>cX hu ((h2 d (.inr cS)).2.2.1 h)
    ·simp at hkey
   |tok k m =>
    simp only[zP]at hkey
    split at hkey
    ·rename_i m' hm'
     split at hkey
     ·rename_i O7
      simp at hkey;obtain⟨rfl,rfl⟩:=hkey
      have:=beq_true O7;subst this
      exact .inr ⟨m',by rw[(h2 k (.inr cS)).2.1];exact hm',ai⟩
     ·simp at hkey
    ·simp at hkey
  obtain⟨i1,i2,i3⟩:=agb hinv (olds.toArray++news'.toArray++Builtin.zeroCells z.cells (nc-(len+b9.length))) e ((len+b9.length)*j.size) alj key n hkk
   (w.drew.alloc (.cells (olds.toArray++news'.toArray++Builtin.zeroCells z.cells (nc-(len+b9.length))) e)) Z
  refine hnext _ _ _ ?_ i1 i2 i3
  simp only[aX]
  refine⟨_,_,_,Z,by simp[hlen],hge,.inr ⟨w.heap.size,0,Z,?_⟩,n,_,if_pos Z,acd _,λ_ => .inr ⟨_,_,_,0,Z,Z,by rw[ahr],by rw[yA,ahr],hge⟩⟩
  refine Lr (olds:=olds) (news:=news') (cy.mono i3.1 _ _ m1) (cy.mono i3.1 _ _ n1') m2 n2' m3 n3' λq u hq=>?_
  have hql:q<(olds++news').length:=(List.getElem?_eq_some_iff.1 hq).1
  have aol:q<(len+b9.length)*j.size:=by simp only[acg,Xe,Xk,<- hlen,<- ajM]at hql;exact hql
  simp only
  rw[if_pos ⟨trivial,ai⟩,ahr]
  rw[show olds.toArray++news'.toArray=(olds++news').toArray from by simp,aif (by simpa using hql)]
  simpa using hq
end
section
variable {P:Program}{X:Ctx}{ops:tal}{o:Oper}{rest:L Oper}{env:Env}{acc:L Fp}{Q:Env->St->L Fp->Prop}{bs:tab}{ts:tad}{us:Ω}
def ag.append(hX:cI P X)(kn)(q:cZ ops.toList kn env o=some true){args T}(I:o.op = .call {callee := .builtin .append,args:=args,argTypes:=T})
  {x y}(C:args.toList=[x,y]){t t1:Nat}(G:T.toList=[t,t1]){d:Nat}(A:o.dst=some d)
  {i j J e}(E:X.ti t=some i)(D:i.kind = .slice e)(B:X.ti e=some j){r}(m:j.zero=some r)(U:X.ti t1=some J)(a:nB J.kind)
  {S s}{F:Ψ}(ha:aJ X env x=some (.own S s F)){b}(hb:aJ X env y=some b){H b9}(W:pn b=some (H,b9))
  {sz}(p:j.size=sz)(hs:IA s sz F S)(uq:iu H sz b9){K n}(V:zP d us ts S=some (K,n)){O}(N:j.bytes=O)(M:Nat.ble 1 O){z}(u:Bs K n ts=some z)
  (Y:(F.length+b9.length)*O<=140737488355328)
  (k:ag P X ops rest ((d,.own (.tok K n) sz (F++b9))::env) ⟨bs,z,K::us⟩ (⟨[],[K]⟩::acc) Q):ag P X ops (o::rest) env ⟨bs,ts,us⟩ acc Q:=by
 subst p N;rw[wD]at u;simp at u;subst u;exact ag.step (dA q) (bR.append (σ:=⟨bs,ts,us⟩) hX I C G E D B m U a ha hb W hs uq V M Y) (Tt K n) ob
end
structure Ren where
 bx:Nat->Option Nat
 tk:Nat->Option (Nat×Option Nat)
def Gh.gK(g:Gh)(ρ:Ren):Gh where
 G:=g.G
 box:=λk=>match ρ.bx k with
  |some B=>g.box B
  |none=>none
 tok:=λk=>match ρ.tk k with
  |some (m,none)=>some (m,none)
  |some (m,some B)=>match g.tok B with
   |some (_,U)=>some (m,U)
   |none=>none
  |none=>none
 room:=λk=>match ρ.bx k with
  |some B=>g.room B
  |none=>0
mutual
def Conv(ρ:Ren)(ts:tad):AV->AV->Prop
 |.c v,b=>b = .c v\/close b=some v
 |.own .exact s Y,b=>b = .own .exact s Y
 |.own (.tok k m) s Y,b=>∃o,ρ.tk k=some (m,o)/\(o=none/\(∃q,b = .own .exact q Y/\(q=s\/Y=[]))\/∃B n,o=some B/\au B ts=some n/\b = .own (.tok B n) s Y)
 |.ptr k V,b=>∃B,ρ.bx k=some B/\b = .ptr B V
 |.iI k V s n,b=>∃B,ρ.bx k=some B/\b = .iI B V s n
 |.any,b=>b.one=true
 |.agg l,b=>∃p,b = .agg p/\fT ρ ts l p
 |.eK l,b=>∃p,b = .eK p/\fT ρ ts l p
def fT(ρ:Ren)(ts:tad):Φ->Φ->Prop
 |[],p=>p=[]
 |a::l,p=>∃b r,p=b::r/\Conv ρ ts a b/\fT ρ ts l r
end
section
variable {g:Gh}{ρ:Ren}{ts:tad}
mutual
def uV(J:∀k n,au k ts=some n->∃U,g.tok k=some (n,U)):∀{a b:AV}{u:Value},Conv ρ ts a b->aX g b u->aX (g.gK ρ) a u/\(b.one->a.one)
 |.c v,b,u,h,V=>by
  rcases h with rfl|h
  exact⟨V,λh=>h⟩;have:=wG b v u h V;exact⟨this.1,this.2⟩
 |.own .exact s F,b,u,h,V=>by subst h;exact⟨V,λh=>h⟩
 |.own (.tok k m) s F,b,u,h,V=>by
  obtain⟨o,M,⟨rfl,q,rfl,y⟩|⟨B,n,rfl,x,rfl⟩⟩:=h
  ·simp only[aX]at V ⊢;obtain⟨I,Y,T,A,Q,K,G,W⟩:=V;refine⟨⟨I,Y,T,A,Q,K,?_,m,none,?_,acd _,λ_ => .inl W⟩,λ_=>rfl⟩
   ·rcases y with rfl|rfl
    exact G;exact .inl Z
   simp only[Gh.gK,M]
  simp only[aX]at V ⊢;obtain⟨I,Y,T,A,Q,K,G,D,U,W,H,N⟩:=V;obtain⟨E,P⟩:=J B n x;rw[W]at P;obtain⟨rfl,rfl⟩:=P;refine⟨⟨I,Y,T,A,Q,K,G,m,U,?_,acd _,λ_=>N Z⟩,λ_=>rfl⟩;simp only[Gh.gK,M,W]
 |.ptr k z,b,u,h,V=>by simp only[Conv]at h;obtain⟨B,M,rfl⟩:=h;simp only[aX]at V ⊢;obtain⟨b,A,Q⟩:=V;exact⟨⟨b,by simp only[Gh.gK,M,A],Q⟩,λ_=>rfl⟩
 |.iI k z s n,b,u,h,V=>by simp only[Conv]at h;obtain⟨B,M,rfl⟩:=h;simp only[aX]at V ⊢;obtain⟨b,T,o,A,Q,K,G⟩:=V;exact⟨⟨b,T,o,by simp only[Gh.gK,M,A],Q,K,by simp only[Gh.gK,M];exact G⟩,λ_=>rfl⟩
 |.any,b,u,h,V=>by simp only[Conv]at h;have:=zI h V;simp only[aX];refine⟨⟨λC e=>?_,λC e=>?_⟩,λ_=>rfl⟩<;>(subst e;simp[Value.oneCell']at this)
 |.agg l,b,u,h,V=>by simp only[Conv]at h;obtain⟨p,rfl,M⟩:=h;simp only[aX]at V ⊢;obtain⟨C,A,Q,K⟩:=V;obtain⟨S,O⟩:=zQ J M Q;exact⟨⟨C,A,S,O K⟩,λh=>by simp[AV.one]at h⟩
 |.eK l,b,u,h,V=>by simp only[Conv]at h;obtain⟨p,rfl,M⟩:=h;simp only[aX]at V ⊢;obtain⟨C,A,Q,K⟩:=V;obtain⟨S,O⟩:=zQ J M Q;refine⟨⟨C,A,S,?_⟩,λh=>by simp[AV.one]at h⟩;rw[(cn.get S).1,<- (cn.get Q).1];exact K
def zQ(J:∀k n,au k ts=some n->∃U,g.tok k=some (n,U)):∀{l p:Φ}{us:L Value},fT ρ ts l p->cn g p us->cn (g.gK ρ) l us/\(p.all AV.one->l.all AV.one)
 |[],p,us,h,V=>by simp only[fT]at h;subst h;simp only[cn]at V ⊢;exact⟨V,λh=>h⟩
 |a::l,p,us,h,V=>by simp only[fT]at h;obtain⟨b,r,rfl,T,S⟩:=h;simp only[cn]at V ⊢;obtain⟨u,Y,rfl,M,I⟩:=V;obtain⟨A,Q⟩:=uV J T M;obtain⟨K,G⟩:=zQ J S I;refine⟨⟨u,Y,rfl,A,K⟩,λh=>?_⟩;simp only[aiK,aaI]at h ⊢;exact⟨Q h.1,G h.2⟩
end
def FK{w}(J:∀k n,au k ts=some n->∃U,g.tok k=some (n,U)){b}:∀{l p o},fT ρ ts l p->cC w g b o p->cC w (g.gK ρ) b o l
 |[],_,_,_,_=>trivial
 |a::l,p,o,h,hc=>by obtain⟨x,r,rfl,V,T⟩:=h;obtain⟨⟨u,G,Y,B⟩,c4,c5⟩:=hc;obtain⟨A,Q⟩:=uV J V Y;exact⟨⟨u,G,A,Q B⟩,c4,FK J T c5⟩
end
def qX{w g σ}(h:Inv w g σ):∀k n,au k σ.toks=some n->∃U,g.tok k=some (n,U):=λk n e=>by obtain⟨U,A,_⟩:=h.tok k n e;exact⟨U,A⟩
def Inv.gK{w g σ}(h:Inv w g σ)(ρ)(σ':St)
  (hb:∀k cells,au k σ'.boxes=some cells->∃old oc,ρ.bx k=some old/\au old σ.boxes=some oc/\fT ρ σ.toks cells oc)
  (hbi:∀k k' old,ρ.bx k=some old->ρ.bx k'=some old->k=k')
  (ht:∀k n,au k σ'.toks=some n->∃o,ρ.tk k=some (n,o)/\∀old,o=some old->∃n',au old σ.toks=some n')
  (hti:∀k k' m m' old,ρ.tk k=some (m,some old)->ρ.tk k'=some (m',some old)->k=k')
  (hu:∀k,ρ.bx k≠none\/ρ.tk k≠none->k∈σ'.used) :
  Inv w (g.gK ρ) σ'/\((∀k,1000000<=k->au k σ'.boxes≠none->ρ.bx k=some k)->jv w g σ w (g.gK ρ) σ'):=by
 have hts:=qX h
 have agd:∀k n b lo hi,au k σ'.toks=some n->(g.gK ρ).tok k=some (n,some (b,lo,hi))->∃old n' m,ρ.tk k=some (m,some old)/\au old σ.toks=some n'/\g.tok old=some (n',some (b,lo,hi)):=by
  intro k n b lo hi e e1
  obtain⟨o,h1,h2⟩:=ht k n e
  cases o with
  |none=>simp[Gh.gK,h1]at e1
  |some old =>
   obtain⟨n',h3⟩:=h2 old rfl
   obtain⟨iy,h4⟩:=hts old n' h3
   simp[Gh.gK]at e1
   grind
 refine⟨⟨h.rS,?_,?_,?_,?_,?_,?_⟩,λalk=>⟨Z,Z,Z,acd _,λ_ _ _=>rfl,λ_ _ _ _=>⟨Z,Z⟩,lB.le.refl _,λ_ _ _ h => .inl h,?_,?_,?_⟩⟩
 ·intro k cells e
  obtain⟨old,oc,h1,h2,h3⟩:=hb k cells e
  obtain⟨b,h4,h5,h6,h7⟩:=h.box old oc h2
  exact⟨b,by simp only[Gh.gK,h1,h4],h5,h6,FK hts h3 h7⟩
 ·intro k k' cs cs' b e e' e1 e2
  obtain⟨old,oc,h1,h2,_⟩:=hb k cs e
  obtain⟨old',oc',uu,FI,_⟩:=hb k' cs' e'
  simp only[Gh.gK,h1,uu]at e1 e2
  have:=h.gR old old' oc oc' b h2 FI e1 e2
  subst this
  exact hbi k k' old h1 uu
 ·intro k n e
  obtain⟨o,h1,h2⟩:=ht k n e
  cases o with
  |none=>exact⟨none,by simp only[Gh.gK,h1],λ_ _ _ h=>by simp at h⟩
  |some old =>
   obtain⟨n',h3⟩:=h2 old rfl
   obtain⟨iy,h4,h5⟩:=h.tok old n' h3
   refine⟨iy,by simp only[Gh.gK,h1,h4],λb lo hi hr=>?_⟩
   obtain⟨f1,f2,f3⟩:=h5 b lo hi hr
   refine⟨f1,f2,λk' cs e'=>?_⟩
   obtain⟨old',oc',g1,g2,_⟩:=hb k' cs e'
   simp only[Gh.gK,g1]
   exact f3 old' oc' g2
 ·intro k k' n n' b lo hi lo' hi' e e' e1 e2
  obtain⟨old,m1,q1,h1,h2,h3⟩:=agd k n b lo hi e e1
  obtain⟨old',m1',q1',uu,FI,Yp⟩:=agd k' n' b lo' hi' e' e2
  have:=h.iX old old' m1 m1' b lo hi lo' hi' h2 FI h3 Yp
  subst this
  exact hti k k' _ _ old h1 uu
 ·intro k e
  apply hu k
  rcases e with e|e
  ·left;intro hn;apply e;simp[Gh.gK,hn]
  ·right;intro hn;apply e;simp[Gh.gK,hn]
 ·intro k cs b e e1 o
  obtain⟨old,oc,h1,h2,_⟩:=hb k cs e
  simp only[Gh.gK,h1]at e1 ⊢
  exact h.room old oc b h2 e1 o
 ·intro k cs b e e1
  obtain⟨old,oc,h1,h2,_⟩:=hb k cs e
  simp only[Gh.gK,h1]at e1
  exact .inr ⟨old,oc,h2,e1⟩
 ·intro k n b lo hi e e1
  obtain⟨old,n',m,h1,h2,h3⟩:=agd k n b lo hi e e1
  exact .inr ⟨old,n',lo,hi,h2,h3,acd _,acd _⟩
 ·intro k hk e
  have h1:=alk k hk e
  cases hc:au k σ'.boxes with
  |none=>exact absurd hc e
  |some cells =>
   obtain⟨old,oc,h2,h3,_⟩:=hb k cells hc
   rw[h1]at h2;simp at h2;subst h2
   exact⟨by rw[h3];simp,by simp[Gh.gK,h1],by simp[Gh.gK,h1]⟩
def distinct:Ω->Bool
 |[]=>true
 |x::l=>match mem x l with
  |true=>false
  |false=>distinct l
def eu{Y k v}:∀{l:L (Nat×Y)},au k l=some v->(k,v)∈l
 |[],h=>by simp[au]at h
 |(j,x)::l,h=>by rw[ak]at h;split at h;grind;exact aix _ (eu h)
def iO{U k v}:∀{l:L (Nat×U)},distinct (l.map (·.1))->(k,v)∈l->au k l=some v
 |[],_,h=>by simp at h
 |(j,x)::l,A,h=>by
  simp only[ahM,distinct]at A;split at A;grind;rename_i W;rw[ak];rcases List.mem_cons.1 h with V|V
  grind;have:k≠j:=by intro Y;exact cX W (List.mem_map.2 ⟨(k,v),V,Y⟩)
  rw[if_neg this];exact iO A V
def sP{Y k}:∀{l:L (Nat×Y)},k ∉ l.map (·.1)->au k l=none
 |[],_=>rfl
 |(j,x)::l,h=>by simp only[ahM,aim,not_or]at h;rw[ak,if_neg h.1];exact sP h.2
def qh{Y k}{l:L (Nat×Y)}(h:au k l≠none):k∈l.map (·.1):=by by_cases I:k∈l.map (·.1);omega;exact absurd (sP I) h
def pq{l:tad}(h:distinct (l.map (·.2))){k V v}(U:(k,v)∈l)(T:(V,v)∈l):k=V:=by
 induction l with
 |nil=>simp at U
 |cons x l S =>
  simp only[ahM,distinct]at h;split at h;grind;rename_i Y;have W:=cX Y;grind
def rT{Y:Type}:L (Nat×Y)->L (Nat×Y)->L (Nat×Y)
 |[],b=>b
 |(k,v)::l,b=>rT l (yC k v b)
def xH{Y:Type}:L (Nat×Y)->L (Nat×Y)->Option (L (Nat×Y))
 |[],b=>some b
 |(k,v)::l,b=>match Bs k v b with
  |some V=>xH l V
  |none=>none
def IC{Y}:∀(l b:L (Nat×Y)),xH l b=some (rT l b)
 |[],b=>rfl
 |(k,v)::l,b=>by simp only[xH,rT,wD,IC l]
def mT{V k}:∀{l b:L (Nat×V)},distinct (l.map (·.1))->au k (rT l b)=match au k l with
  |some v=>some v
  |none=>au k b
 |[],b,_=>rfl
 |(j,x)::l,b,A=>by simp only[ahM,distinct]at A;split at A;grind;rename_i Y;simp only[rT];rw[mT A,ak];by_cases I:k=j;subst I;rw[if_pos rfl,sP (cX Y)];simp[fP];rw[if_neg I,fP,if_neg I]
def Tv(nb:tab)Y(W:Ω)(U:distinct (nb.map (·.1)))(C:distinct (Y.map (·.1))) :
  jf (λσ=>(⟨rT nb σ.boxes,rT Y σ.toks,W++σ.used⟩)) ⟨[],nb.map (·.1)++(Y.map (·.1)++W)⟩ where
 out:=λσ k I=>by simp only[ahj,not_or]at I;refine⟨?_,?_,?_⟩;simp only[mT U,sP I.1];simp only[mT C,sP I.2.1];simp_all
 same:=λσ p h k I=>by obtain⟨A,Q,K⟩:=h k (.inr I);refine⟨?_,?_,?_⟩;simp only[mT U,A];simp only[mT C,Q];grind
inductive LV where
 |c (v:CV)
 |own (s:Nat) (rows:List CV)
 deriving Inhabited
inductive PA where
 |v (x:LV)
 |box (cells:List LV)
 deriving Inhabited
def LV.av(k m:Nat):LV->AV
 |.c v => .c v
 |.own s Y => .own (.tok k m) s Y
def LV.tk(k m:Nat):LV->tad
 |.c _=>[]
 |.own _ _=>[(k,m)]
def GN(m:Nat):Nat->L LV->Φ
 |_,[]=>[]
 |k,x::l=>x.av k m::GN m (k+1) l
def BK(m:Nat):Nat->L LV->tad
 |_,[]=>[]
 |k,x::l=>x.tk k m++BK m (k+1) l
abbrev pb(i:Nat):Nat:=1000000+1000*i
abbrev rk:Nat:=5000000
def Ec:Nat->L PA->Φ
 |_,[]=>[]
 |i,.v x::l=>x.av (pb i) 0::Ec (i+1) l
 |i,.box _::l => .ptr (pb i) 0::Ec (i+1) l
def Nh:Nat->L PA->tab
 |_,[]=>[]
 |i,.v _::l=>Nh (i+1) l
 |i,.box cells::l=>(pb i,GN 0 (pb i+1) cells)::Nh (i+1) l
def ID:Nat->L PA->tad
 |_,[]=>[]
 |i,.v x::l=>x.tk (pb i) 0++ID (i+1) l
 |i,.box cells::l=>BK 0 (pb i+1) cells++ID (i+1) l
def wh(M:L PA):St:=⟨Nh 0 M,ID 0 M,(Nh 0 M).map (·.1)++(ID 0 M).map (·.1)⟩
def uy:L (Nat×L LV)->tab
 |[]=>[]
 |(i,cells)::l=>(pb i,GN 1 (pb i+1) cells)::uy l
def sw:L (Nat×L LV)->tad
 |[]=>[]
 |(i,cells)::l=>BK 1 (pb i+1) cells++sw l
def Db(Q:L (Nat×L LV))(Y:L LV):St:=⟨uy Q,sw Q++BK 0 rk Y,(uy Q).map (·.1)++(sw Q++BK 0 rk Y).map (·.1)⟩
def yu(s:Nat):L LV->AV
 |[] => .c .undef
 |[x]=>x.av (rk+s) 0
 |l => .eK (GN 0 (rk+s) l)
def agf(g:Gh)(Y:L LV)(u:Value):Prop:=aX g (yu 0 Y) u
def ER(β:lu)(Y:L LV)(Q:L (Nat×L LV)):Ending->World->Prop:=λe V =>
 ∃u g',e = .returned u/\agf g' Y u/\Inv V g' (Db Q Y)/\jv β.w β.g β.σ V g' (Db Q Y)
def bS(P:Program)(X:Ctx)(f:FuncId)(M:L PA)(V:L LV)(Q:L (Nat×L LV)):Prop :=
 Enters P f/\∀(g:Gh)(w:World)(Y:L Value),Inv w g (wh M)->rR X g.G->cn g (Ec 0 M) Y ->
  Calls P f Y.toArray w (ER ⟨w,g,wh M⟩ V Q)
def bS.of{P X f K c M z Q}(hf:P.funcs[f]?=some K)(O:K.body=some c)(J:Enters P f)
  (D:M.length<=K.ntmps)(env:Env)(I:env=((Ec 0 M).zipIdx.map λ(v,i)=>(i,v)))
  (h:∀β,AK P X f K.ntmps β (ER β z Q) [.code c] env (wh M)):bS P X f M z Q:=by
 refine⟨J,λg w F W B A x=>?_⟩;have S:=(cn.get A).1;have m:(Ec 0 M).length=M.length:=by
  have:∀(l:L PA)(i:Nat),(Ec i l).length=l.length:=by
   intro l
   induction l with
   |nil=>intro i;rfl
   |cons p l N=>intro i;cases p<;>simp[Ec,N]
  exact this M 0
 have q:Live X ⟨w,g,wh M⟩ K.ntmps env (wh M) g w {tmps:=F.toArray++Array.replicate (K.ntmps-F.toArray.size) undef,defers:=[]}:=by
  refine⟨W,B,?_,jv.refl _ _ _,?_,Z⟩
  ·intro t a e;subst I;have V:∀(l:Φ)(us:L Value)(k:Nat),cn g l us->au t ((l.zipIdx k).map λ(v,i)=>(i,v))=some a->k<=t/\∃u,us[t-k]?=some u/\aX g a u:=by
    intro l
    induction l with
    |nil=>intro us k _ e;simp[au]at e
    |cons v l N =>
     intro us k G e;obtain⟨u,us,rfl,y,j⟩:=G;simp only[ajE,ahM,ak]at e;grind
   obtain⟨_,u,Y,U⟩:=V (Ec 0 M) F 0 A e;simp at Y;have T:t<F.length:=(List.getElem?_eq_some_iff.1 Y).1;have:(F.toArray++Array.replicate (K.ntmps-F.toArray.size) undef).getD t undef=u:=(by rw[ajf,aif (by simpa using T)];simp[Y]);rw[this];exact U
  simp;omega
 obtain⟨e,r,C,y,Y,U,H⟩:=h ⟨w,g,wh M⟩ g w _ x q;have E:Frame.enter P f F.toArray .normal =
   (top f).at {tmps:=F.toArray++Array.replicate (K.ntmps-F.toArray.size) undef,defers:=[]} [.code c]:=by
  simp[Frame.enter,Frame.at,hf,O,top]
 exact⟨_,r,C,y,by rw[E];exact Y,U,H⟩
def bS.ofL{P X f K c M V Q}(hf:P.funcs[f]?=some K)(U:K.body=some c)(Y:Enters P f)
  (I:M.length<=K.ntmps)(env:Env)(bs:tab)(ts:tad)(us:Ω)(W:env=((Ec 0 M).zipIdx.map λ(v,i)=>(i,v)))(p:wh M=⟨bs,ts,us⟩)
  (h:∀β,AK P X f K.ntmps β (ER β V Q) [.code c] env ⟨bs,ts,us⟩):bS P X f M V Q :=
 bS.of hf U Y I env W λβ=>by rw[p];exact h β
def Qx(ts:tad)(t:Nat):AV->Option (Ψ)
 |.own .exact s Y=>match iu s t Y with
  |true=>some Y
  |false=>none
 |.own (.tok k n) s Y=>match au k ts with
  |some m=>match Nat.beq m n with
   |true=>match Nat.beq s t with
    |true=>some Y
    |false=>none
   |false=>none
  |none=>none
 |_=>none
def Kn(ts:tad):LV->AV->Prop
 |.c v,a=>close a=some v
 |.own s Y,a=>Qx ts s a=some Y
def pY(ts:tad):L LV->Φ->Prop
 |[],l=>l=[]
 |x::xs,l=>∃a r,l=a::r/\Kn ts x a/\pY ts xs r
def EF(m k:Nat):LV->AV->L (Nat×(Nat×Option Nat))
 |.own _ _,.own .exact _ _=>[(k,(m,none))]
 |.own _ _,.own (.tok Y _) _ _=>[(k,(m,some Y))]
 |_,_=>[]
def pZ(m:Nat):Nat->L LV->Φ->L (Nat×(Nat×Option Nat))
 |_,[],_=>[]
 |_,_::_,[]=>[]
 |k,x::xs,a::l=>EF m k x a++pZ m (k+1) xs l
theorem uX{ts a s V}(h:Qx ts s a=some V):(∃q,a = .own .exact q V/\(q=s\/V=[]))\/∃k n,a = .own (.tok k n) s V/\au k ts=some n:=by unfold Qx at h;split at h;split at h;rename_i Y;simp at h;subst h;exact .inl ⟨_,rfl,qE Y⟩;grind;split at h;rename_i m W;split at h;rename_i U;split at h;rename_i Y;simp at h;have:=beq_true U;have:=beq_true Y;grind;grind;grind;grind;grind
def VL{ρ ts m k}:∀{x a},Kn ts x a->(∀e∈EF m k x a,ρ.tk e.1=some e.2)->Conv ρ ts (x.av k m) a
 |.c v,a,h,_=>by simp only[Kn]at h;exact .inr h
 |.own s V,a,h,C=>by
  rcases uX h with ⟨q,rfl,U⟩|⟨Y,n,rfl,I⟩
  exact⟨none,C (k,(m,none)) (by simp[EF]),.inl ⟨Z,q,Z,U⟩⟩;exact⟨some Y,C (k,(m,some Y)) (by simp[EF]),.inr ⟨Y,n,Z,I,Z⟩⟩
def Dc{ρ ts m}:∀{k V l},pY ts V l->(∀e∈pZ m k V l,ρ.tk e.1=some e.2)->fT ρ ts (GN m k V) l
 |k,[],l,h,_=>by simp only[pY]at h;subst h;simp[GN,fT]
 |k,x::V,l,h,C=>by obtain⟨a,r,rfl,U,T⟩:=h;simp only[pZ,ahj]at C;exact⟨a,r,rfl,VL U (λe Y=>C e (.inl Y)),Dc T (λe Y=>C e (.inr Y))⟩
def Qy{ts m k j n}:∀{x a},Kn ts x a->(j,n)∈x.tk k m->n=m/\∃o,(j,(m,o))∈EF m k x a/\∀B,o=some B->∃W,au B ts=some W
 |.c v,a,h,Y=>by simp[LV.tk]at Y
 |.own s V,a,h,Y=>by
  simp[LV.tk]at Y;obtain⟨rfl,rfl⟩:=Y;rcases uX h with ⟨q,rfl,T⟩|⟨U,W,rfl,I⟩
  exact⟨Z,none,by simp[EF],λ_ h=>by simp at h⟩;exact⟨rfl,some U,by simp[EF],λB h=>by simp at h;subst h;exact⟨W,I⟩⟩
def AN{ts m j n}:∀{k V l},pY ts V l->(j,n)∈BK m k V->n=m/\∃o,(j,(m,o))∈pZ m k V l/\∀B,o=some B->∃W,au B ts=some W
 |k,[],l,h,Y=>by simp[BK]at Y
 |k,x::V,l,h,Y=>by
  obtain⟨a,r,rfl,U,T⟩:=h;simp only[BK,ahj]at Y;simp only[pZ,ahj];rcases Y with Y|Y
  obtain⟨A,o,Q,K⟩:=Qy U Y;exact⟨A,o,.inl Q,K⟩;obtain⟨A,o,Q,K⟩:=AN T Y;exact⟨A,o,.inr Q,K⟩
def Qz{ts m k}:∀{x a},Kn ts x a->∀e∈EF m k x a,e.1∈(x.tk k m).map (·.1)
 |.c v,a,h,e,Y=>by cases a<;>simp[EF]at Y
 |.own s V,a,h,e,Y=>by rcases uX h with ⟨q,rfl,U⟩|⟨T,W,rfl,I⟩<;>simp[EF]at Y<;>subst Y<;>simp[LV.tk]
def AO{ts m}:∀{k Y l},pY ts Y l->∀e∈pZ m k Y l,e.1∈(BK m k Y).map (·.1)
 |k,[],l,h,e,he=>by simp only[pY]at h;simp[pZ]at he
 |k,x::Y,l,h,e,he=>by obtain⟨a,r,rfl,V,U⟩:=h;simp only[pZ,ahj]at he;simp only[BK,aib,ahj];exact he.imp (Qz V e) (AO U e)
def qR(bs:tab)(ts:tad):L PA->Φ->Prop
 |[],l=>l=[]
 |.v x::ps,l=>∃a r,l=a::r/\Kn ts x a/\qR bs ts ps r
 |.box cells::ps,l=>∃B W r,l = .ptr B 0::r/\au B bs=some W/\pY ts cells W/\qR bs ts ps r
def mj(bs:tab):Nat->L PA->Φ->tad
 |_,[],_=>[]
 |_,_::_,[]=>[]
 |i,.v _::ps,_::l=>mj bs (i+1) ps l
 |i,.box _::ps,.ptr kb _::l=>(pb i,kb)::mj bs (i+1) ps l
 |i,.box _::ps,_::l=>mj bs (i+1) ps l
def lA(bs:tab):Nat->L PA->Φ->L (Nat×(Nat×Option Nat))
 |_,[],_=>[]
 |_,_::_,[]=>[]
 |i,.v x::ps,a::l=>EF 0 (pb i) x a++lA bs (i+1) ps l
 |i,.box cells::ps,.ptr kb _::l=>(match au kb bs with
  |some W=>pZ 0 (pb i+1) cells W
  |none=>[])++lA bs (i+1) ps l
 |i,.box _::ps,_::l=>lA bs (i+1) ps l
section
variable {bs:tab}{ts:tad}
def BZ{ρ}:∀{i M l},qR bs ts M l->(∀e∈mj bs i M l,ρ.bx e.1=some e.2)->(∀e∈lA bs i M l,ρ.tk e.1=some e.2)->fT ρ ts (Ec i M) l
 |i,[],l,h,_,_=>by simp only[qR]at h;subst h;simp[Ec,fT]
 |i,.v x::M,l,h,O,T=>by obtain⟨a,r,rfl,B,W⟩:=h;simp only[lA,ahj]at T;exact⟨a,r,rfl,VL B (λe Y=>T e (.inl Y)),BZ W (by simpa only[mj]using O) (λe Y=>T e (.inr Y))⟩
 |i,.box cells::M,l,h,O,T=>by obtain⟨V,S,r,rfl,B,W,U⟩:=h;simp only[lA,ahj]at T;simp only[mj,aim]at O;exact⟨_,r,rfl,by simp only[Conv];exact⟨V,O (pb i,V) (.inl rfl),rfl⟩,BZ U (λe Y=>O e (.inr Y)) (λe Y=>T e (.inr Y))⟩
def wK:∀{i M l k cells},qR bs ts M l->(k,cells)∈Nh i M ->
  ∃B W V,(k,B)∈mj bs i M l/\au B bs=some W/\cells=GN 0 (k+1) V/\pY ts V W/\∀e∈pZ 0 (k+1) V W,e∈lA bs i M l
 |i,[],l,k,cells,h,Y=>by simp[Nh]at Y
 |i,.v x::M,l,k,cells,h,Y=>by obtain⟨a,r,rfl,T,U⟩:=h;obtain⟨B,W,V,A,Q,K,G,q⟩:=wK U Y;simp only[mj,lA];grind
 |i,.box N::M,l,k,cells,h,Y=>by
  obtain⟨B,W,r,rfl,T,U,S⟩:=h;simp only[Nh,aim]at Y;simp only[mj,lA];rcases Y with Y|Y
  grind;obtain⟨P,O,V,A,Q,K,G,q⟩:=wK S Y;grind
def AP:∀{i M l j n},qR bs ts M l->(j,n)∈ID i M->n=0/\∃o,(j,(0,o))∈lA bs i M l/\∀B,o=some B->∃U,au B ts=some U
 |i,[],l,j,n,h,Y=>by simp[ID]at Y
 |i,.v x::M,l,j,n,h,Y=>by
  obtain⟨a,r,rfl,W,V⟩:=h;simp only[ID,ahj]at Y;simp only[lA,ahj];rcases Y with Y|Y
  obtain⟨A,o,Q,K⟩:=Qy W Y;exact⟨A,o,.inl Q,K⟩;obtain⟨A,o,Q,K⟩:=AP V Y;exact⟨A,o,.inr Q,K⟩
 |i,.box O::M,l,j,n,h,Y=>by
  obtain⟨S,P,r,rfl,W,V,T⟩:=h;simp only[ID,ahj]at Y;simp only[lA,W,ahj];rcases Y with Y|Y
  obtain⟨A,o,Q,K⟩:=AN V Y;exact⟨A,o,.inl Q,K⟩;obtain⟨A,o,Q,K⟩:=AP T Y;exact⟨A,o,.inr Q,K⟩
def B0:∀{i M l},qR bs ts M l->(∀e∈mj bs i M l,e.1∈(Nh i M).map (·.1))/\(∀e∈lA bs i M l,e.1∈(ID i M).map (·.1))
 |i,[],l,h=>by simp only[qR]at h;simp[mj,lA]
 |i,.v x::M,l,h=>by obtain⟨a,r,rfl,B,W⟩:=h;obtain⟨P,V⟩:=B0 (i:=i+1) W;simp only[lA,ID,ahj,aib];exact⟨P,λe Y=>Y.imp (Qz B e) (V e)⟩
 |i,.box O::M,l,h=>by obtain⟨T,S,r,rfl,B,W,U⟩:=h;obtain⟨P,V⟩:=B0 (i:=i+1) U;simp only[mj,lA,Nh,ID,B,ahj,aib];refine⟨λe Y=>?_,λe Y=>Y.imp (AO W e) (V e)⟩;grind
def dB:L (Nat×(Nat×Option Nat))->Ω
 |[]=>[]
 |(_,(_,some k))::l=>k::dB l
 |(_,(_,none))::l=>dB l
def xP{l B}:B∈dB l↔∃k m,(k,(m,some B))∈l:=by
 induction l with
 |nil=>simp[dB]
 |cons x l S =>
  obtain⟨k,m,o⟩:=x;cases o with
  |none=>simp[dB,S]
  |some Y =>
   simp only[dB,aim,S];constructor;rintro(rfl|⟨a,b,h⟩);grind;grind;grind
def xQ{l}(h:distinct (dB l)){k T m J B}(V:(k,(m,some B))∈l)(U:(T,(J,some B))∈l):k=T:=by
 induction l with
 |nil=>simp at V
 |cons x l S =>
  obtain⟨q,p,o⟩:=x;cases o with
  |none =>
   simp at V U;exact S h V U
  |some z =>
   simp only[dB,distinct]at h;split at h;grind;rename_i W;have Y:=cX W;rcases List.mem_cons.1 V with A|A
   ·rcases List.mem_cons.1 U with Q|Q
    grind;simp at A;rw[A.2.2]at Q;exact absurd (xP.2 ⟨_,_,Q⟩) Y
   rcases List.mem_cons.1 U with Q|Q
   simp at Q;rw[Q.2.2]at A;exact absurd (xP.2 ⟨_,_,A⟩) Y;simp_all
def Bv(bs:tab)(M:L PA)(l:Φ):Ren:=⟨λk=>au k (mj bs 0 M l),λk=>au k (lA bs 0 M l)⟩
end
structure wL(bs:List (Nat×List AV))(ts:List (Nat×Nat))(ps:List PA)(l:List AV):Prop where
 ok:qR bs ts ps l
 d1:distinct ((mj bs 0 ps l).map (·.1))=true
 d2:distinct ((mj bs 0 ps l).map (·.2))=true
 d3:distinct ((lA bs 0 ps l).map (·.1))=true
 d4:distinct (dB (lA bs 0 ps l))=true
def wL.inv{σ}{M:L PA}{l:Φ}(h:wL σ.boxes σ.toks M l){w g}(H:Inv w g σ):Inv w (g.gK (Bv σ.boxes M l)) (wh M):=by
 refine(H.gK (Bv σ.boxes M l) (wh M) ?_ ?_ ?_ ?_ ?_).1;intro k cells e;obtain⟨Y,W,N,A,Q,K,V,U⟩:=wK h.ok (eu e);refine⟨Y,W,iO h.d1 A,Q,?_⟩;subst K;exact Dc V λe T=>iO h.d3 (U e T);intro k I B A Q;exact pq h.d2 (eu A) (eu Q);intro k n e;obtain⟨rfl,o,A,Q⟩:=AP h.ok (eu e);exact⟨o,iO h.d3 A,Q⟩;intro k I m J B A Q;exact xQ h.d4 (eu A) (eu Q);intro k e;obtain⟨P,S⟩:=B0 (i:=0) h.ok;simp only[wh,ahj];rcases e with e|e
 left;obtain⟨x,O,rfl⟩:=List.mem_map.1 (qh e);exact P x O;right;obtain⟨x,O,rfl⟩:=List.mem_map.1 (qh e);exact S x O
def wL.rel{σ}{M:L PA}{l:Φ}(h:wL σ.boxes σ.toks M l){w g}(H:Inv w g σ){V}(u:cn g l V):cn (g.gK (Bv σ.boxes M l)) (Ec 0 M) V :=
 (zQ (qX H) (BZ (ρ:=Bv σ.boxes M l) h.ok (λe Y=>iO h.d1 Y) (λe Y=>iO h.d3 Y)) u).1
def tw(s:Nat):tad->tad
 |[]=>[]
 |(k,n)::l=>(k+s,n)::tw s l
def tC(ts:tad):Ω->tad
 |[]=>[]
 |k::l=>match au k ts with
  |some n=>(k,n+1)::tC ts l
  |none=>tC ts l
def Tw(m:Nat):Nat->L LV->Option (Φ)
 |_,[]=>some []
 |k,.c v::l=>match Tw m (k+1) l with
  |some r=>some (.c v::r)
  |none=>none
 |k,.own s Y::l=>match Tw m (k+1) l with
  |some r=>some (.own (.tok k m) s Y::r)
  |none=>none
def GP m:∀k l,Tw m k l=some (GN m k l)
 |_,[]=>rfl
 |k,.c v::l=>by simp only[Tw,GP m (k+1) l,GN,LV.av]
 |k,.own s Y::l=>by simp only[Tw,GP m (k+1) l,GN,LV.av]
def MK(bx:tad)(s:Nat):L (Nat×L LV)->Option (tab)
 |[]=>some []
 |(i,cells)::l=>match au (pb i) bx with
  |some B=>match Tw 1 (pb i+1+s) cells with
   |some c=>match MK bx s l with
    |some r=>some ((B,c)::r)
    |none=>none
   |none=>none
  |none=>none
def iB{Y:Type}:L (Nat×Y)->Ω
 |[]=>[]
 |(k,_)::l=>k::iB l
def nC{Y}:∀(l:L (Nat×Y)),iB l=l.map (·.1)
 |[]=>rfl
 |(k,_)::l=>by simp[iB,nC l]
def IE(l:Ω):Ω->Bool
 |[]=>true
 |x::r=>match mem x l with
  |true=>IE l r
  |false=>false
def Ni(l:Ω):Ω->Bool
 |[]=>true
 |x::r=>match mem x l with
  |true=>false
  |false=>Ni l r
def wM{l}:∀{r},IE l r->∀x∈r,x∈l
 |[],_,x,h=>by simp at h
 |y::r,h,x,O=>by
  simp only[IE]at h;split at h
  ·rename_i Y;rcases List.mem_cons.1 O with rfl|O
   exact mem_iff.1 Y;exact wM h x O
  grind
def IF{l}:∀{r},Ni l r->∀x∈r,x ∉ l
 |[],_,x,h=>by simp at h
 |y::r,h,x,O=>by
  simp only[Ni]at h;split at h;grind;rename_i Y;rcases List.mem_cons.1 O with rfl|O
  exact cX Y;exact IF h x O
def IG{s}:∀{l k n},au k (tw s l)=some n->∃j,k=j+s/\au j l=some n
 |[],k,n,h=>by simp[tw,au]at h
 |(j,m)::l,k,n,h=>by simp only[tw,ak]at h;split at h;rename_i I;exact⟨j,I,by rw[ak,if_pos rfl];exact h⟩;rename_i I;obtain⟨i,rfl,Y⟩:=IG h;exact⟨i,rfl,by rw[ak,if_neg ai];exact Y⟩
def FL{s}:∀{l j},au (j+s) (tw s l)=au j l
 |[],j=>rfl
 |(i,m)::l,j=>by simp only[tw,ak];by_cases h:j=i;grind;rw[if_neg ai,if_neg h,FL]
def FM{Y k}:∀{a b:L (Nat×Y)},au k (a++b)=match au k a with
  |some v=>some v
  |none=>au k b
 |[],b=>rfl
 |(j,x)::a,b=>by simp only[ahk,ak];split;rfl;exact FM
def B1{ts}:∀{l k n},au k (tC ts l)=some n->k∈l/\∃m,au k ts=some m/\n=m+1
 |[],k,n,h=>by simp[tC,au]at h
 |j::l,k,n,h=>by
  simp only[tC]at h
  split at h
  ·rename_i m hm
   rw[ak]at h
   split at h
   ·grind
   ·obtain⟨h1,h2⟩:=B1 h;exact⟨adx,h2⟩
  ·obtain⟨h1,h2⟩:=B1 h;exact⟨adx,h2⟩
def EG{ts}:∀{l k m},k∈l->au k ts=some m->au k (tC ts l)=some (m+1)
 |[],k,m,h,_=>by simp at h
 |j::l,k,m,h,Y=>by
  simp only[tC];by_cases I:k=j;subst I;rw[Y];simp[ak];have p:k∈l:=by simpa[I]using h
  split;rw[ak,if_neg I];exact EG p Y;exact EG p Y
def QA{bx s}:∀{Q nb},MK bx s Q=some nb ->
  (∀k v,(k,v)∈nb->∃i cells,(i,cells)∈Q/\au (pb i) bx=some k/\v=GN 1 (pb i+1+s) cells)/\(∀i cells k,(i,cells)∈Q->au (pb i) bx=some k->k∈nb.map (·.1))
 |[],nb,h=>by simp[MK]at h;subst h;simp
 |(i,cells)::Q,nb,h=>by simp only[MK,GP]at h;split at h;rename_i B Y;split at h;rename_i r V;obtain⟨U,T⟩:=QA V;grind;grind;grind
def Dd:∀{os k v},(k,v)∈uy os->∃i cells,(i,cells)∈os/\k=pb i/\v=GN 1 (pb i+1) cells
 |[],k,v,h=>by simp[uy]at h
 |(i,cells)::os,k,v,h=>by
  simp only[uy,aim]at h
  rcases h with h|h
  ·grind
  ·obtain⟨i',c',h1,h2,h3⟩:=Dd h;exact⟨i',c',adx,h2,h3⟩
def QB:∀{Q i cells},(i,cells)∈Q->(pb i,GN 1 (pb i+1) cells)∈uy Q
 |[],i,cells,h=>by simp at h
 |(j,c)::Q,i,cells,h=>by
  simp only[uy,aim];rcases List.mem_cons.1 h with h|h
  grind;exact .inr (QB h)
def QC:∀{Q i cells e},(i,cells)∈Q->e∈BK 1 (pb i+1) cells->e∈sw Q
 |[],i,cells,e,h,_=>by simp at h
 |(j,c)::Q,i,cells,e,h,Y=>by
  simp only[sw,ahj];rcases List.mem_cons.1 h with h|h
  grind;exact .inr (QC h Y)
section
variable {g g':Gh}{s:Nat}
def LV.shift(K:g.G.le g'.G){m k}:∀{x:LV}{u},(∀e∈x.tk k m,g'.tok (e.1+s)=g.tok e.1)->aX g (x.av k m) u->aX g' (x.av (k+s) m) u/\((x.av k m).one->(x.av (k+s) m).one)
 |.c v,u,_,h=>by exact⟨Rel.mono K _ _ h,λh=>h⟩
 |.own q O,u,C,h=>by obtain⟨S,Y,T,A,Q,I,V,D,U,W,M⟩:=h;refine⟨⟨S,Y,T,A,Q,I,V.mono K,D,U,?_,M⟩,λ_=>rfl⟩;have:=C (k,m) (by simp[LV.tk]);grind
def Ls(K:g.G.le g'.G){m}:∀{k V us},(∀e∈BK m k V,g'.tok (e.1+s)=g.tok e.1)->cn g (GN m k V) us->cn g' (GN m (k+s) V) us
 |k,[],us,_,h=>by simp only[GN]at h ⊢;exact h
 |k,x::V,us,C,h=>by simp only[BK,ahj]at C;obtain⟨u,U,A,Q,I⟩:=h;refine⟨u,U,A,(LV.shift K (λe Y=>C e (.inl Y)) Q).1,?_⟩;have:=Ls K (k:=k+1) (λe Y=>C e (.inr Y)) I;grind
def FN(K:g.G.le g'.G){w m b}:∀{k U o},(∀e∈BK m k U,g'.tok (e.1+s)=g.tok e.1)->cC w g b o (GN m k U)->cC w g' b o (GN m (k+s) U)
 |k,[],o,_,h=>trivial
 |k,x::U,o,ht,h=>by simp only[BK,ahj]at ht;obtain⟨⟨u,B,W,V⟩,c4,c5⟩:=h;obtain⟨A,Q⟩:=LV.shift (k:=k) K (λe Y=>ht e (.inl Y)) W;have:=FN K (k:=k+1) (λe Y=>ht e (.inr Y)) c5;rw[show k+1+s=k+s+1 from by omega]at this;exact⟨⟨u,B,A,Q V⟩,c4,this⟩
def II(m):∀k Y,(GN m k Y).length=Y.length
 |_,[]=>rfl
 |k,x::Y=>by simp[GN,II m (k+1) Y]
end
def sQ(nb:tab)(Y:tad)(W:Ω)(σ:St):St:=⟨rT nb σ.boxes,rT Y σ.toks,W++σ.used⟩
set_option maxHeartbeats 1000000 in
def Xl{w w':World}{g g':Gh}{σ:St}{O:L PA}{l:Φ}{os:L (Nat×L LV)}{rs:L LV}(hi:Inv w g σ)(H:wL σ.boxes σ.toks O l)
  (N:Inv w' g' (Db os rs))(d:jv w (g.gK (Bv σ.boxes O l)) (wh O) w' g' (Db os rs))(s:Nat){nb:tab}(hnb:MK (mj σ.boxes 0 O l) s os=some nb)
  (hall:∀x∈(mj σ.boxes 0 O l).map (·.1),x∈(uy os).map (·.1)){fr:tad}(hfr:fr=tw s (sw os++BK 0 rk rs)){bu:tad}(Za:bu=tC σ.toks (dB (lA σ.boxes 0 O l)))
  (Pc:distinct ((uy os).map (·.1)))(kV:distinct (nb.map (·.1)))(jS:distinct ((fr++bu).map (·.1)))(hfu:∀x∈fr.map (·.1),x ∉ σ.used)(hot:distinct ((sw os++BK 0 rk rs).map (·.1))) :
  ∃I,Inv w' I (sQ nb (fr++bu) (fr.map (·.1)) σ)/\jv w g σ w' I (sQ nb (fr++bu) (fr.map (·.1)) σ)/\g.le I/\∀u,aX g' (yu 0 rs) u->aX I (yu s rs) u:=by
 have χ:=qX hi;let gc:=g.gK (Bv σ.boxes O l)
 let I:Gh:=⟨g'.G,g.box,λk=>match au k fr with
  |some _=>g'.tok (k-s)
  |none=>match au k bu with
   |some n=>some (n,none)
   |none=>g.tok k,g.room⟩
 have Tx:∀k T b,au k (wh O).boxes=some T->gc.box k=some b->∃kb E,(k,kb)∈mj σ.boxes 0 O l/\au kb σ.boxes=some E/\g.box kb=some b:=by intro k T b e S;obtain⟨kb,E,Yt,f1,f2,_⟩:=wK H.ok (eu e);refine⟨kb,E,f1,f2,?_⟩;have:(Bv σ.boxes O l).bx k=some kb:=iO H.d1 f1;simpa only[gc,Gh.gK,this]using S
 have ZX:∀k n b lo hi,au k (wh O).toks=some n->gc.tok k=some (n,some (b,lo,hi))->∃U F,U∈dB (lA σ.boxes 0 O l)/\au U σ.toks=some F/\g.tok U=some (F,some (b,lo,hi)):=by
  intro k n b lo hi e S;obtain⟨rfl,o,f1,f2⟩:=AP H.ok (eu e);have Y:(Bv σ.boxes O l).tk k=some (0,o):=iO H.d3 f1;cases o with
  |none=>simp[gc,Gh.gK,Y]at S
  |some U =>
   obtain⟨F,M⟩:=f2 U rfl;obtain⟨iy,J⟩:=χ U F M;simp[gc,Gh.gK,Y,J]at S;subst S;exact⟨U,F,xP.2 ⟨k,0,f1⟩,M,J⟩
 have Tz:∀b o,ko gc (wh O) b o->ko g σ b o:=by rintro b o (⟨k,T,Y,V⟩|⟨k,n,lo,N,Y,V,M,J⟩);obtain⟨kb,E,_,f2,f3⟩:=Tx k T b Y V;exact .inl ⟨kb,E,f2,f3⟩;obtain⟨U,F,_,f2,f3⟩:=ZX k n b lo N Y V;exact .inr ⟨U,F,lo,N,f2,f3,M,J⟩
 have υ:∀k0 c0 b,au k0 σ.boxes=some c0->g.box k0=some b->k0 ∉ (mj σ.boxes 0 O l).map (·.2)->∀o,¬ko gc (wh O) b o:=by rintro k0 c0 b S C e3 o (⟨k,T,Y,V⟩|⟨k,n,lo,N,Y,V,M,J⟩);obtain⟨kb,E,f1,f2,f3⟩:=Tx k T b Y V;have:=hi.gR k0 kb c0 E b S f2 C f3;subst this;exact e3 (List.mem_map.2 ⟨_,f1,Z⟩);obtain⟨U,F,_,f2,f3⟩:=ZX k n b lo N Y V;obtain⟨iy,f4,f5⟩:=hi.tok U F f2;rw[f3]at f4;simp at f4;exact(f5 b lo N f4.symm).2.2 k0 c0 S C
 have κ:∀k0 n0 b J4 D,au k0 σ.toks=some n0->g.tok k0=some (n0,some (b,J4,D))->k0 ∉ dB (lA σ.boxes 0 O l)->∀o,¬ko gc (wh O) b o:=by rintro k0 n0 b J4 D S C e3 o (⟨k,T,Y,V⟩|⟨k,n,lo,N,Y,V,M,J⟩);obtain⟨kb,E,f1,f2,f3⟩:=Tx k T b Y V;obtain⟨iy,f4,f5⟩:=hi.tok k0 n0 S;rw[C]at f4;simp at f4;exact(f5 b J4 D f4.symm).2.2 kb E f2 f3;obtain⟨U,F,f1,f2,f3⟩:=ZX k n b lo N Y V;have:=hi.iX k0 U n0 F b J4 D lo N S f2 C f3;subst this;exact e3 f1
 have a:∀b,b<w.heap.size->(∀o,¬ko gc (wh O) b o)->∀o,w'.cell? ⟨b,o,none⟩=w.cell? ⟨b,o,none⟩/\w'.frozen? ⟨b,o,none⟩=w.frozen? ⟨b,o,none⟩:=λb Y V o=>d.kept b o Y (V o);have ι:∀b o,b<w.heap.size->¬ko gc (wh O) b o->g.G b o=none->g'.G b o=none:=by
  intro b o Y V M;cases hg:g'.G b o with
  |none=>rfl
  |some v =>
   rcases d.new b o v hg with h|h|h
   change g.G b o=some v at h;rw[M]at h;simp at h;omega;exact absurd h V
 have π:∀k n,au k fr=some n->∃j,k=j+s/\au j (sw os++BK 0 rk rs)=some n/\k ∉ σ.used/\I.tok k=g'.tok j:=by intro k n e;have He:=eu e;subst hfr;obtain⟨j,rfl,V⟩:=IG e;exact⟨j,Z,V,hfu _ (List.mem_map.2 ⟨_,He,Z⟩),by simp only[I,e,akV]⟩
 have ο:∀k n,au k bu=some n->k∈dB (lA σ.boxes 0 O l)/\∃m,au k σ.toks=some m/\n=m+1:=by intro k n e;subst Za;exact B1 e
 have ξ:∀e∈(sw os++BK 0 rk rs),I.tok (e.1+s)=g'.tok e.1:=by
  intro e he;have Y:au (e.1+s) fr=some e.2:=by rw[hfr,FL];exact iO hot he
  simp only[I,Y,akV]
 have ν:g.le I:=by
  refine⟨d.le,λ_ _ h=>h,λ_ _ _=>rfl,λk hw iy e=>?_⟩;cases Y:au k fr with
  |some n =>
   obtain⟨j,_,_,V,_⟩:=π k n Y;exact absurd (hi.used k (.inr (by rw[e];simp))) V
  |none =>
   cases V:au k bu with
   |some n =>
    obtain⟨_,m,M,rfl⟩:=ο k n V;obtain⟨Ig,J⟩:=χ k m M;rw[e]at J;simp at J;exact⟨m+1,none,by simp only[I,Y,V],ai,ai⟩
   |none=>exact⟨hw,iy,by simp only[I,Y,V];exact e,acd _,λ_=>rfl⟩
 obtain⟨θ,η⟩:=QA hnb;have Ea:∀k T,au k (rT nb σ.boxes)=some T->(∃E,au k σ.boxes=some E)/\∃b,g.box k=some b/\b<w.heap.size/\(∀o,g'.G b o=none)/\cC w' I b 0 T/\∀o,(o<g.room k->∃u,w'.cell? ⟨b,o,none⟩=some u)/\w'.frozen? ⟨b,o,none⟩=false:=by
  intro k T e;rw[mT kV]at e;split at e
  ·rename_i v hv;simp at e;subst e;obtain⟨i,cells,Y,V,rfl⟩:=θ k v (eu hv);have hmem:=eu V;have M:au (pb i) (uy os)=some (GN 1 (pb i+1) cells):=iO Pc (QB Y);have J:=d.ids (pb i) (Nat.le_add_right _ _) (by show au (pb i) (uy os)≠none;rw[M];simp);cases hc:au (pb i) (wh O).boxes with
   |none=>exact absurd hc J.1
   |some ic =>
    obtain⟨kb,E,Yt,f1,f2,_⟩:=wK H.ok (eu hc);have:au (pb i) (mj σ.boxes 0 O l)=some kb:=iO H.d1 f1;rw[V]at this;simp at this;subst this;obtain⟨b,b1,b2,b3,b4⟩:=hi.box k E f2;obtain⟨b',c1,c2,c3,c4⟩:=N.box (pb i) _ M;have Bj:gc.box (pb i)=some b:=(by have:(Bv σ.boxes O l).bx (pb i)=some k:=V;simp only[gc,Gh.gK,this,b1]);have ζ:gc.room (pb i)=g.room k:=(by have:(Bv σ.boxes O l).bx (pb i)=some k:=V;simp only[gc,Gh.gK,this]);have ω:=N.room (pb i) _ b' M c1;rw[J.2.2,ζ]at ω;rw[J.2.1,Bj]at c1;simp at c1;subst c1;refine⟨⟨E,f2⟩,b,b1,b2,c3,?_,ω⟩;have:=FN (g:=g') (g':=I) (s:=s) (lB.le.refl _) (k:=pb i+1) (λe he=>ξ e (List.mem_append.2 (.inl (QC Y he)))) c4;rwa[show pb i+1+s=pb i+1+s from rfl]at this
  rename_i hv;have μ:k ∉ (mj σ.boxes 0 O l).map (·.2):=by intro hm;obtain⟨x,hx,rfl⟩:=List.mem_map.1 hm;obtain⟨y,hy,ε⟩:=List.mem_map.1 (hall x.1 (List.mem_map.2 ⟨x,hx,rfl⟩));obtain⟨i,cells,Y,V,_⟩:=Dd (k:=y.1) (v:=y.2) hy;have M:au (pb i) (mj σ.boxes 0 O l)=some x.2:=(by rw[<- V,ε];exact iO H.d1 hx);have J:=η i cells x.2 Y M;obtain⟨z,hz,δ⟩:=List.mem_map.1 J;have:=iO (k:=z.1) (v:=z.2) kV hz;rw[δ,hv]at this;simp at this
  obtain⟨b,b1,b2,b3,b4⟩:=hi.box k T e;have B:=υ k T b e b1 μ
  exact⟨⟨T,e⟩,b,b1,b2,λo=>ι b o b2 (B o) (b3 o),(cC.of_same (a b b2 B) b4).mono ν,λo=>by
   obtain⟨q1,q2⟩:=hi.room k T b e b1 o
   exact⟨λho=>(q1 ho).imp λu hu=>(a b b2 B o).1.trans hu,(a b b2 B o).2.trans q2⟩⟩
 have GI:∀k n,au k (rT (fr++bu) σ.toks)=some n->(∃j,k=j+s/\au j (sw os++BK 0 rk rs)=some n/\I.tok k=g'.tok j/\k ∉ σ.used)\/I.tok k=some (n,none) \/
   (au k σ.toks=some n/\I.tok k=g.tok k/\k ∉ dB (lA σ.boxes 0 O l)):=by
  intro k n e;rw[mT jS,FM]at e;cases Y:au k fr with
  |some m =>
   rw[Y]at e;simp at e;subst e;obtain⟨j,rfl,V,M,J⟩:=π k m Y;exact .inl ⟨j,Z,V,J,M⟩
  |none =>
   rw[Y]at e;simp only at e;cases V:au k bu with
   |some m =>
    rw[V]at e;simp at e;subst e;right;left;simp only[I,Y,V]
   |none =>
    rw[V]at e;simp only at e;right;right;refine⟨e,by simp only[I,Y,V],λhm=>?_⟩;rw[Za,EG hm e]at V;simp at V
 have Nj:∀j n b lo D,au j (sw os++BK 0 rk rs)=some n->g'.tok j=some (n,some (b,lo,D))->w.heap.size<=b\/∃U F,U∈dB (lA σ.boxes 0 O l)/\au U σ.toks=some F/\∃J4 A,g.tok U=some (F,some (b,J4,A))/\J4<=lo/\D<=A:=by
  intro j n b lo D e S;rcases d.toks j n b lo D e S with h|⟨k0,n0,J4,A,Y,V,M,J⟩
  exact .inl h;grind
 refine⟨I,⟨N.rS,?_,?_,?_,?_,?_,?_⟩,⟨d.os,d.tape,d.output,d.size,λb hb B=>d.block b hb λo ho=>B o (Tz b o ho),λb o hb B=>d.kept b o hb λho=>B (Tz b o ho),d.le,λb o v h=>(d.new b o v h).imp id λh=>h.imp id (Tz b o),?_,?_,?_⟩,ν,?_⟩;intro k T e;obtain⟨_,b,b1,b2,b3,b4,_⟩:=Ea k T e;exact⟨b,b1,aja b2 d.size,b3,b4⟩;intro k k' T γ b e e' S C;obtain⟨⟨E,Y⟩,_⟩:=Ea k T e;obtain⟨⟨oc',uu⟩,_⟩:=Ea k' γ e';exact hi.gR k k' E oc' b Y uu S C
 ·intro k n e;rcases GI k n e with ⟨j,rfl,Y,V,_⟩|Y|⟨Y,V,M⟩
  ·obtain⟨iy,M,J⟩:=N.tok j n Y;refine⟨iy,V.trans M,λb lo D hr=>?_⟩;obtain⟨f1,f2,f3⟩:=J b lo D hr;refine⟨f1,f2,λk' T e'=>?_⟩;obtain⟨⟨E,g1⟩,b',b1,b2,_⟩:=Ea k' T e';show g.box k'≠some b;rw[b1];intro Ew;simp at Ew;subst Ew;subst hr;rcases Nj j n b' lo D Y M with h|⟨U,F,_,q2,J4,A,q3,_,_⟩
   omega;obtain⟨Ig,q4,q5⟩:=hi.tok U F q2;rw[q3]at q4;simp at q4;exact(q5 _ _ _ q4.symm).2.2 k' E g1 b1
  simp_all;obtain⟨iy,J,h5⟩:=hi.tok k n Y;refine⟨iy,V.trans J,λb lo D hr=>?_⟩;obtain⟨f1,f2,f3⟩:=h5 b lo D hr;subst hr;have B:=κ k n b lo D Y J M;refine⟨aja f1 d.size,λo o1 o2=>?_,λk' T e'=>?_⟩;grind;obtain⟨⟨E,g1⟩,_⟩:=Ea k' T e';exact f3 k' E g1
 ·intro k k' n F b lo D ψ A e e' S C;rcases GI k n e with ⟨j,rfl,Y,V,hu1⟩|Y|⟨Y,V,M⟩
  ·rw[V]at S;rcases GI k' F e' with ⟨j',rfl,uu,FI,_⟩|uu|⟨uu,FI,Yp⟩
   rw[FI]at C;have:=N.iX j j' n F b lo D ψ A Y uu S C;rw[this];simp_all;rw[FI]at C;exfalso;obtain⟨iy,q1,q2⟩:=hi.tok k' F uu;rw[C]at q1;simp at q1;have hlt:=(q2 _ _ _ q1.symm).1;rcases Nj j n b lo D Y S with h|⟨U,m,r1,r2,J4,τ,r3,_,_⟩
   omega;have:=hi.iX k' U F m b ψ A J4 τ uu r2 C r3;subst this;exact Yp r1
  simp_all;rw[V]at S;rcases GI k' F e' with ⟨j',rfl,uu,FI,_⟩|uu|⟨uu,FI,Yp⟩
  ·rw[FI]at C;exfalso;obtain⟨iy,q1,q2⟩:=hi.tok k n Y;rw[S]at q1;simp at q1;have hlt:=(q2 _ _ _ q1.symm).1;rcases Nj j' F b ψ A uu C with h|⟨U,m,r1,r2,J4,τ,r3,_,_⟩
   omega;have:=hi.iX k U n m b lo D J4 τ Y r2 S r3;subst this;exact M r1
  simp_all;rw[FI]at C;exact hi.iX k k' n F b lo D ψ A Y uu S C
 ·intro k e;show k∈fr.map (·.1)++σ.used;rw[ahj];rcases e with e|e
  exact .inr (hi.used k (.inl e));cases Y:au k fr with
  |some m=>exact .inl (List.mem_map.2 ⟨_,eu Y,Z⟩)
  |none =>
   right;cases V:au k bu with
   |some m =>
    obtain⟨_,q,M,_⟩:=ο k m V;obtain⟨iy,J⟩:=χ k q M;exact hi.used k (.inr (by rw[J];simp))
   |none=>apply hi.used k;right;simpa only[I,Y,V]using e
 intro k T b e S;obtain⟨_,b',b1,_,_,_,ω⟩:=Ea k T e;have Xm:g.box k=some b:=S;rw[b1]at Xm;cases Xm;exact ω;intro k T b e S;obtain⟨⟨E,Y⟩,_⟩:=Ea k T e;exact .inr ⟨k,E,Y,S⟩
 ·intro k n b lo D e S;rcases GI k n e with ⟨j,rfl,Y,V,_⟩|Y|⟨Y,V,M⟩
  grind;simp_all;grind
 ·intro k _ e;cases hc:au k (rT nb σ.boxes)with
  |none=>exact absurd hc e
  |some T =>
   obtain⟨⟨E,Y⟩,_⟩:=Ea k T hc;exact⟨by rw[Y];simp,Z,Z⟩
 intro u h;have t:∀e∈BK 0 rk rs,I.tok (e.1+s)=g'.tok e.1:=λe he=>ξ e (List.mem_append.2 (.inr he))
 match rs,h,t with
 |[],h,_=>simp only[yu,aX,Rel]at h ⊢;exact h
 |[x],h,t =>
  simp only[yu]at h ⊢;have:=(LV.shift (g:=g') (g':=I) (s:=s) (lB.le.refl _) (k:=rk) (λe he=>t e (by simp only[BK,ahj];exact .inl he)) h).1;exact this
 |x::y::r,h,t =>
  simp only[yu,aX]at h ⊢;obtain⟨vs,S,C,e3⟩:=h;refine⟨vs,S,Ls (g:=g') (g':=I) (lB.le.refl _) t C,?_⟩;rw[II]at e3 ⊢;exact e3
def lW:∀{a b},dB (a++b)=dB a++dB b
 |[],b=>rfl
 |(k,m,none)::a,b=>by simp[dB,lW (a:=a)]
 |(k,m,some o)::a,b=>by simp[dB,lW (a:=a)]
section
variable {bs PG:tab}{ts B2:tad}
def IJ{m k}:∀{x a},Kn ts x a->(∀j∈dB (EF m k x a),au j B2=au j ts)->Kn B2 x a
 |.c v,a,h,_=>h
 |.own s Y,a,h,C=>by
  simp only[Kn]at h ⊢;rcases uX h with ⟨q,rfl,U⟩|⟨V,n,rfl,I⟩
  exact h;have:=C V (by simp[EF,dB]);simp only[Qx,this,I];simp
def FO{m}:∀{k Y l},pY ts Y l->(∀j∈dB (pZ m k Y l),au j B2=au j ts)->pY B2 Y l
 |k,[],l,h,_=>h
 |k,x::Y,l,h,C=>by obtain⟨a,r,rfl,V,U⟩:=h;simp only[pZ,lW,ahj]at C;exact⟨a,r,rfl,IJ V (λj G=>C j (.inl G)),FO U (λj G=>C j (.inr G))⟩
def zR:∀{i M l},qR bs ts M l->(∀k∈(mj bs i M l).map (·.2),au k PG=au k bs)->(∀k∈dB (lA bs i M l),au k B2=au k ts) ->
  qR PG B2 M l/\mj PG i M l=mj bs i M l/\lA PG i M l=lA bs i M l
 |i,[],l,h,_,_=>by simp only[qR]at h;subst h;exact⟨by simp[qR],rfl,rfl⟩
 |i,.v x::M,l,h,N,O=>by obtain⟨a,r,rfl,B,Y⟩:=h;simp only[lA,lW,ahj]at O;obtain⟨P,V,T⟩:=zR Y N (λk I=>O k (.inr I));refine⟨by simp_all;exact⟨a,r,rfl,IJ B (λj G=>O j (.inl G)),P⟩,?_,?_⟩;simp only[mj,V];simp only[lA,T]
 |i,.box cells::M,l,h,N,O=>by obtain⟨W,S,r,rfl,B,Y,U⟩:=h;simp only[mj,ahM,aim,forall_eq_or_imp]at N;simp only[lA,B,lW,ahj]at O;obtain⟨P,V,T⟩:=zR U N.2 (λk I=>O k (.inr I));refine⟨by simp only[qR];exact⟨W,S,r,rfl,N.1.trans B,FO Y (λj G=>O j (.inl G)),P⟩,?_,?_⟩;simp only[mj,V];simp only[lA,T,N.1]
end
def FP{ts B2}:∀{l},(∀k∈l,au k B2=au k ts)->tC B2 l=tC ts l
 |[],_=>rfl
 |k::l,h=>by simp only[tC,h k cS,FP (l:=l) (λj G=>h j aga)]
def ir(ρ:Operand->Option AV):L Operand->Option (Φ)
 |[]=>some []
 |x::l=>match ρ x with
  |some a=>match ir ρ l with
   |some r=>some (a::r)
   |none=>none
  |none=>none
def xR{ρ Y:Operand->Option AV}:∀l,(∀x∈l,Y x=ρ x)->ir Y l=ir ρ l
 |[],_=>rfl
 |x::l,h=>by simp only[ir,h x cS,xR l (λy V=>h y agc)]
def EH{g}{ρ:Operand->Option AV}{ev:Operand->Value}(V:∀x v,ρ x=some v->aX g v (ev x)):∀{l r},ir ρ l=some r->cn g r (l.map ev)
 |[],r,h=>by simp[ir]at h;subst h;simp[cn]
 |x::l,r,h=>by simp only[ir]at h;split at h;rename_i a Y;split at h;rename_i H W;simp at h;subst h;exact⟨_,_,rfl,V x a Y,EH V W⟩;grind;grind
def jf.more{Y:St->St}{W:Ω}(h:jf Y ⟨[],W⟩)(R:Ω):jf Y ⟨R,W⟩ :=
 ⟨λσ k I=>h.out σ k I,λσ p V k I=>h.same σ p (λj G=>V j (G.elim (λx=>by simp at x) .inr)) k I⟩
structure EI(bs:List (Nat×List AV))(ts:List (Nat×Nat))(us:List Nat)(ps:List PA)(l:List AV)(rs:List LV)(os:List (Nat×List LV))(s:Nat)(nb:List (Nat×List AV))(fr bu:List (Nat×Nat)):Prop where
 H:wL bs ts ps l
 hnb:MK (mj bs 0 ps l) s os=some nb
 hall:∀x∈(mj bs 0 ps l).map (·.1),x∈(uy os).map (·.1)
 hfr:fr=tw s (sw os++BK 0 rk rs)
 Za:bu=tC ts (dB (lA bs 0 ps l))
 Pc:distinct ((uy os).map (·.1))=true
 kV:distinct (nb.map (·.1))=true
 jS:distinct ((fr++bu).map (·.1))=true
 hfu:∀x∈fr.map (·.1),x ∉ us
 hot:distinct ((sw os++BK 0 rk rs).map (·.1))=true
def EI.congr{bs PG:tab}{ts B2:tad}{us tc:Ω}{M:L PA}{l:Φ}{U:L LV}{Q:L (Nat×L LV)}{s}{nb:tab}{C Y:tad}
  (h:EI bs ts us M l U Q s nb C Y)(N:∀k∈(mj bs 0 M l).map (·.2),au k PG=au k bs)(S:∀k∈dB (lA bs 0 M l),au k B2=au k ts)(B:∀k∈C.map (·.1),k∈tc↔k∈us) :
  EI PG B2 tc M l U Q s nb C Y:=by
 obtain⟨P,V,T⟩:=zR h.H.ok N S
 exact⟨⟨P,by rw[V];exact h.H.d1,by rw[V];exact h.H.d2,by rw[T];exact h.H.d3,by rw[T];exact h.H.d4⟩,by rw[V];exact h.hnb,by rw[V];exact h.hall,h.hfr,by rw[T,FP S];exact h.Za,
  h.Pc,h.kV,h.jS,λx O p=>h.hfu x O ((B x O).1 p),h.hot⟩
section
variable {P:Program}{X:Ctx}
def bR.TA{o}{env:Env}{σ f F}(tV:∀x∈F,x∈o.op.operands.toList){N}(hl:ir (aJ X env) F=some N){l:Φ}{M y T}
  (r:bS P X f M y T){s}{nb:tab}{B U:tad}(C:EI σ.boxes σ.toks σ.used M l y T s nb B U)
  (K:∀(g)(w)(a:Act)(S:Env),(∀x∈o.op.operands.toList,aJ X S x=aJ X env x)->yo g S a.tmps->rR X g.G->∃z,cn g l z/\(execOp a.eval o).run P w = .ok (.enter f z.toArray) w) :
  bR P X o env σ (yu s y) (sQ nb (B++U) (B.map (·.1))) ⟨(mj σ.boxes 0 M l).map (·.2)++dB (lA σ.boxes 0 M l),nb.map (·.1)++((B++U).map (·.1)++B.map (·.1))⟩:=by
 intro S p w g a next Q m t W O J q;have Y:=C.congr (PG:=p.boxes) (B2:=p.toks) (tc:=p.used) (λk I=>(t k (.inl (List.mem_append.2 (.inl I)))).1) (λk I=>(t k (.inl (List.mem_append.2 (.inr I)))).2.1)
  (λk I=>(t k (.inr (by simp only[ahj];exact .inr (.inr I)))).2.2)
 obtain⟨z,E,V⟩:=K g w a S m J O;have A:=Y.H.inv W;have D:=Y.H.rel W E;unfold Oper.wp;rw[V,Oper.upon_enter];refine(r.2 _ w z A O D).mono ?_;rintro e j ⟨u,g',rfl,i,d,b⟩;obtain⟨BT,i1,i2,i3,i4⟩:=Xl W Y.H d b s Y.hnb Y.hall Y.hfr Y.Za Y.Pc Y.kV Y.jS Y.hfu Y.hot;exact q u j BT (i4 u i) i1 i2 i3
def bR.Zb{o}{env:Env}{σ f args T}(W:o.op = .call {callee := .value (.func f),args:=args,argTypes:=T})
  {l}(E:ir (aJ X env) args.toList=some l){M F Q}
  (D:bS P X f M F Q){s}{nb:tab}{B V:tad}(C:EI σ.boxes σ.toks σ.used M l F Q s nb B V) :
  bR P X o env σ (yu s F) (sQ nb (B++V) (B.map (·.1))) ⟨(mj σ.boxes 0 M l).map (·.2)++dB (lA σ.boxes 0 M l),nb.map (·.1)++((B++V).map (·.1)++B.map (·.1))⟩:=by
 have U:∀x∈args.toList,x∈o.op.operands.toList:=by intro x O;rw[W];simp only[Op.operands,Call.operands,aiu,ahj];exact .inr O
 refine bR.TA U E D C ?_;intro g w a S A N J;have u:ir (aJ X S) args.toList=some l:=by rw[xR _ (λx O=>A x (U x O))];exact E
 refine⟨args.toList.map a.eval,EH (λx v O=>cz N J O) u,?_⟩;rw[show(args.toList.map a.eval).toArray=args.map a.eval from by rw[<- ajp]];obtain⟨I,q,K,H,Y,guard⟩:=o;subst W;simp[execOp,resolve,Deferred.ofValue,invoke,Act.eval,D.1 _ w]
def alm:Ψ->Φ
 |[]=>[]
 |v::l => .c v::alm l
def vC:Ω->Option (Ω)
 |[]=>some []
 |x::l=>match vC l with
  |some r=>some (x::r)
  |none=>none
def mh{Y:Type}:L (Nat×Y)->Option (L (Nat×Y))
 |[]=>some []
 |(k,n)::l=>match mh l with
  |some r=>some ((k,n)::r)
  |none=>none
def AQ:∀{l r},vC l=some r->r=l
 |[],r,h=>by simp[vC]at h;exact h
 |x::l,r,h=>by simp only[vC]at h;split at h;rename_i H V;simp at h;rw[<- h,AQ V];grind
def oE{Y}:∀{l r:L (Nat×Y)},mh l=some r->r=l
 |[],r,h=>by simp[mh]at h;exact h
 |(k,n)::l,r,h=>by simp only[mh]at h;split at h;rename_i H V;simp at h;rw[<- h,oE V];grind
def both(a b:Bool):Bool:=match a with
 |true=>b
 |false=>false
def eG{a b}(h:both a b):a=true/\b=true:=by cases a<;>simp_all [both]
def Eb(us:Ω)(bx:tad)(tk:L (Nat×(Nat×Option Nat)))(Y:tab)(nb:tab)(C V W:tad):Bool :=
 both (distinct (iB bx)) (both (distinct (bx.map (·.2))) (both (distinct (iB tk)) (both (distinct (dB tk)) (both (IE (iB Y) (iB bx)) (both (distinct (iB Y))
  (both (distinct (iB nb)) (both (distinct (iB (C++V))) (both (Ni us (iB C)) (distinct (iB W))))))))))
def Xn{bs ts us M l F Q s nb C V}
  (E:qR bs ts M l){bx}(P:mh (mj bs 0 M l)=some bx){tk}(N:mh (lA bs 0 M l)=some tk)(Y:MK bx s Q=some nb)
  (u:mh (tw s (sw Q++BK 0 rk F))=some C)(J:mh (tC ts (dB tk))=some V)(D:Eb us bx tk (uy Q) nb C V (sw Q++BK 0 rk F)):EI bs ts us M l F Q s nb C V:=by
 have A:=oE P;have z:=oE N;have I:=oE u;have H:=oE J;subst A z I H;obtain⟨G,D⟩:=eG D;obtain⟨W,D⟩:=eG D;obtain⟨B,D⟩:=eG D;obtain⟨c4,D⟩:=eG D;obtain⟨p,D⟩:=eG D;obtain⟨U,D⟩:=eG D;obtain⟨S,D⟩:=eG D;obtain⟨K,D⟩:=eG D;obtain⟨T,vR⟩:=eG D;simp only[nC]at G W B c4 p U S K T vR;exact⟨⟨E,G,W,B,c4⟩,Y,λx O=>wM p x O,Z,Z,U,S,K,λx O=>IF T x O,vR⟩
def S9(d s:Nat)(V:L LV)(env:Env):Option Env:=match V with
 |[]=>some ((d,.c .undef)::env)
 |[.c v]=>some ((d,.c v)::env)
 |[.own q Y]=>some ((d,.own (.tok (rk+s) 0) q Y)::env)
 |V=>match Tw 0 (rk+s) V with
  |some l=>some ((d,.eK l)::env)
  |none=>none
def adm{d s V env Y}(h:S9 d s V env=some Y):Y=(d,yu s V)::env:=by
 match V,h with
 |[],h=>simp[S9]at h;subst h;rfl
 |[.c v],h=>simp[S9]at h;subst h;rfl
 |[.own q U],h=>simp[S9]at h;subst h;rfl
 |x::y::r,h=>simp[S9,GP]at h;subst h;rfl
end
section
variable {P:Program}{X:Ctx}{ops:tal}{o:Oper}{rest:L Oper}{env:Env}{acc:L Fp}{Q:Env->St->L Fp->Prop}{bs:tab}{ts:tad}{us:Ω}
def ag.Zb(kn)(q:cZ ops.toList kn env o=some true){f args T}(E:o.op = .call {callee := .value (.func f),args:=args,argTypes:=T})
  {M r Y}(j:bS P X f M r Y){l}(D:ir (aJ X env) args.toList=some l)(m:qR bs ts M l){d:Nat}(A:o.dst=some d)
  {nb B V W bx}(N:mh (mj bs 0 M l)=some bx){tk}(K:mh (lA bs 0 M l)=some tk)(U:MK bx (10000000*(d+1)) Y=some nb)
  (J:mh (tw (10000000*(d+1)) (sw Y++BK 0 rk r))=some B)(p:mh (tC ts (dB tk))=some V)(i:Eb us bx tk (uy Y) nb B V (sw Y++BK 0 rk r))
  {z}(S:xH nb bs=some z)(O:mh (B++V)=some W){y}(u:xH W ts=some y){t}(b:vC (iB B++us)=some t)
  {I H}(a:vC (bx.map (·.2)++dB tk)=some I)(hW:vC (iB nb++(iB W++iB B))=some H){F}(he:S9 d (10000000*(d+1)) r env=some F)
  (k:ag P X ops rest F ⟨z,y,t⟩ (⟨I,H⟩::acc) Q):ag P X ops (o::rest) env ⟨bs,ts,us⟩ acc Q:=by
 have C:=Xn m N K U J p i;have r2:=adm he;have hs:=bR.Zb (σ:=⟨bs,ts,us⟩) E D j C;have e1:=oE O;have e2:=AQ b;have e3:=AQ a;have G:=AQ hW;rw[IC]at S u;simp at S u;have hE:jf (sQ nb (B++V) (B.map (·.1))) ⟨(mj bs 0 M l).map (·.2)++dB (lA bs 0 M l),nb.map (·.1)++((B++V).map (·.1)++B.map (·.1))⟩:=(Tv nb (B++V) (B.map λ(x:Nat×Nat)=>x.1) C.kV C.jS).more _;refine ag.step (dA q) hs hE ?_;rw[A];show ag P X ops rest ((d,_)::env) _ _ Q;rw[<- r2];simp only[sQ];rw[e1]at u G;rw[S,u,<- nC B,<- e2];have h1:=oE N;have h2:=oE K;rw[<- h1,<- h2,<- e3,<- nC nb,<- nC (B++V),<- G];exact k
end
def adn(ts:tad):LV->AV->Option LV
 |.c _,a=>match close a with
  |some v=>some (.c v)
  |none=>none
 |.own s _,a=>match Qx ts s a with
  |some Y=>some (.own s Y)
  |none=>none
def De(ts:tad):L LV->Φ->Option (L LV)
 |[],[]=>some []
 |x::xs,a::l=>match adn ts x a with
  |some y=>match De ts xs l with
   |some r=>some (y::r)
   |none=>none
  |none=>none
 |_,_=>none
def EJ(bs:tab)(ts:tad):L (Nat×L LV)->Option (L (Nat×L LV))
 |[]=>some []
 |(i,cells)::l=>match au (pb i) bs with
  |some W=>match De ts cells W with
   |some y=>match EJ bs ts l with
    |some r=>some ((i,y)::r)
    |none=>none
   |none=>none
  |none=>none
def qi(bs:tab):L (Nat×L LV)->L (Nat×(Nat×Option Nat))
 |[]=>[]
 |(i,cells)::l=>(match au (pb i) bs with
  |some W=>pZ 1 (pb i+1) cells W
  |none=>[])++qi bs l
def tW:L (Nat×L LV)->tad
 |[]=>[]
 |(i,_)::l=>(pb i,pb i)::tW l
def ado{ts}:∀{x a y},adn ts x a=some y->Kn ts y a
 |.c _,a,y,h=>by simp only[adn]at h;split at h;rename_i v u;simp at h;subst h;exact u;grind
 |.own _ _,a,y,h=>by simp only[adn]at h;split at h;rename_i Y u;simp at h;subst h;exact u;grind
def Df{ts}:∀{Y l S},De ts Y l=some S->pY ts S l
 |[],[],S,h=>by simp[De]at h;subst h;simp[pY]
 |[],_::_,S,h=>by simp[De]at h
 |_::_,[],S,h=>by simp[De]at h
 |x::Y,a::l,S,h=>by simp only[De]at h;split at h;rename_i y V;split at h;rename_i r G;simp at h;subst h;exact⟨a,l,rfl,ado V,Df G⟩;grind;grind
def EK(bs:tab)(ts:tad):L (Nat×L LV)->Prop
 |[]=>True
 |(i,cells)::l=>(∃W,au (pb i) bs=some W/\pY ts cells W)/\EK bs ts l
def EL{bs ts}:∀{Q Y},EJ bs ts Q=some Y->EK bs ts Y
 |[],Y,h=>by simp[EJ]at h;subst h;trivial
 |(i,cells)::l,Y,h=>by simp only[EJ]at h;split at h;rename_i S W;split at h;rename_i y V;split at h;rename_i r G;simp at h;subst h;exact⟨⟨S,W,Df V⟩,EL G⟩;grind;grind;grind
def B3{bs ts}:∀{Q},EK bs ts Q->∀i cells,(i,cells)∈Q->∃W,au (pb i) bs=some W/\pY ts cells W/\(∀e∈pZ 1 (pb i+1) cells W,e∈qi bs Q)/\(pb i,pb i)∈tW Q
 |[],_,i,cells,h=>by simp at h
 |(j,c)::l,⟨⟨W,T,S⟩,h3⟩,i,cells,h=>by
  rcases List.mem_cons.1 h with h|h
  obtain⟨rfl,rfl⟩:=h;exact⟨W,T,S,λe Y=>by simp only[qi,T,ahj];exact .inl Y,by simp[tW]⟩;obtain⟨V,U,G,C,M⟩:=B3 h3 i cells h;exact⟨V,U,G,λe Y=>by simp only[qi,ahj];exact .inr (C e Y),by simp[tW,M]⟩
def IK{bs ts j n}:∀{Q},EK bs ts Q->(j,n)∈sw Q->∃o,(j,(n,o))∈qi bs Q/\∀B,o=some B->∃W,au B ts=some W
 |[],_,h=>by simp[sw]at h
 |(i,c)::l,⟨⟨S,V,U⟩,h3⟩,h=>by
  simp only[sw,ahj]at h;simp only[qi,V,ahj];rcases h with h|h
  obtain⟨rfl,o,Y,K⟩:=AN U h;exact⟨o,.inl Y,K⟩;obtain⟨o,Y,K⟩:=IK h3 h;exact⟨o,.inr Y,K⟩
def IL{bs ts}:∀{Q},EK bs ts Q->∀e∈qi bs Q,e.1∈(sw Q).map (·.1)
 |[],_,e,h=>by simp[qi]at h
 |(i,c)::l,⟨⟨W,Y,V⟩,U⟩,e,h=>by simp only[qi,Y,ahj]at h;simp only[sw,aib,ahj];exact h.imp (AO V e) (IL U e)
def IM:∀{Q k v},(k,v)∈tW Q->v=k/\k∈(uy Q).map (·.1)
 |[],k,v,h=>by simp[tW]at h
 |(i,c)::l,k,v,h=>by
  simp only[tW,aim]at h;simp only[uy,ahM,aim];rcases h with h|h
  grind;obtain⟨A,Y⟩:=IM h;exact⟨A,.inr Y⟩
section
variable {P:Program}{X:Ctx}{f:FuncId}{n:Nat}{β:lu}{R:Ending->World->Prop}{K:L Item}{env:Env}
def sC(hX:cI P X){K σ g w a}(q:Live X β n env σ g w a){l}(h:sZ X σ.boxes env K.results.toList=some l) :
  ∃u,(results K a.tmps).run P w = .ok u w/\match l with|[]=>u=undef|[x]=>aX g x u|l=>aX g (.eK l) u:=by
 match l,h with
 |[],h =>
  obtain⟨Y,A,Q⟩:=GJ hX q h;subst Q;refine⟨.tuple #[],?_,Z⟩;have:(K.results.mapM (Is a.tmps)).run P w = .ok #[] w:=by rw[akr];simp_all
  rw[BV,Sem.run_bind,this];simp
 |[x],h=>exact BW hX q (r:=x) (by unfold nh;rw[h])
 |x::y::r,h=>exact BW hX q (r := .eK (x::y::r)) (by unfold nh;rw[h])
def B4(bx:tad)(tk:L (Nat×(Nat×Option Nat))):Bool :=
 both (distinct (iB bx)) (both (distinct (bx.map (·.2))) (both (distinct (iB tk)) (distinct (dB tk))))
def Lt{σ g w}(E:Inv w g σ){F Q l}(C:pY σ.toks F l)(V:EK σ.boxes σ.toks Q)
  (D:B4 (tW Q) (qi σ.boxes Q++pZ 0 rk F l))(u:distinct (iB (uy Q))) :
  let ρ:Ren:=⟨λk=>au k (tW Q),λk=>au k (qi σ.boxes Q++pZ 0 rk F l)⟩
  Inv w (g.gK ρ) (Db Q F)/\jv w g σ w (g.gK ρ) (Db Q F)/\fT ρ σ.toks (GN 0 rk F) l:=by
 intro ρ;obtain⟨B,D⟩:=eG D;obtain⟨q,D⟩:=eG D;obtain⟨G,c4⟩:=eG D;rw[nC]at B G u;have p:fT ρ σ.toks (GN 0 rk F) l:=Dc C λe U=>iO G (List.mem_append.2 (.inr U))
 obtain⟨z,y⟩:=E.gK ρ (Db Q F) (by
   intro k cells e;obtain⟨i,T,S,rfl,rfl⟩:=Dd (eu e);obtain⟨N,K,J,I,M⟩:=B3 V i T S;exact⟨pb i,N,iO B M,K,Dc J λe U=>iO G (List.mem_append.2 (.inl (I e U)))⟩) (by
   intro k t P A Y;exact pq q (eu A) (eu Y)) (by
   intro k m e;have W:=eu e;rcases List.mem_append.1 W with W|W
   obtain⟨o,A,Y⟩:=IK V W;exact⟨o,iO G (List.mem_append.2 (.inl A)),Y⟩
   ·obtain⟨rfl,o,A,Y⟩:=AN C W;exact⟨o,iO G (List.mem_append.2 (.inr A)),Y⟩) (by
   intro k t m r P A Y;exact xQ c4 (eu A) (eu Y)) (by
   intro k e;simp only[Db,ahj,aib];rcases e with e|e
   left;obtain⟨x,O,rfl⟩:=List.mem_map.1 (qh e);exact(IM (k:=x.1) (v:=x.2) O).2;right;obtain⟨x,O,rfl⟩:=List.mem_map.1 (qh e);rcases List.mem_append.1 O with O|O
   exact .inl (IL V x O)
   exact .inr (AO C x O))
 refine⟨z,y ?_,p⟩;intro k _ e;cases H:au k (Db Q F).boxes with
 |none=>exact absurd H e
 |some cells =>
  obtain⟨i,T,S,rfl,rfl⟩:=Dd (eu H);obtain⟨N,K,J,I,M⟩:=B3 V i T S;exact iO B M
def AK.Gk(hX:cI P X){V}(hf:P.funcs[f]?=some V){bs ts}{us:Ω}{z W Q Y l}(G:sZ X bs env V.results.toList=some l)
  (t:De ts z l=some W)(m:EJ bs ts Q=some Y)(S:both (B4 (tW Y) (qi bs Y++pZ 0 rk W l)) (distinct (iB (uy Y))))
  (A:W=z)(O:Y=Q):AK P X f n β (ER β z Q) (.code .ret::K) env ⟨bs,ts,us⟩:=by
 subst A O;intro g w a i D;obtain⟨u,B,U⟩:=sC hX D G;obtain⟨N,M⟩:=eG S;have F:=Df t;obtain⟨I,H,T⟩:=Lt D.inv F (EL m) N M;refine⟨.returned u,w,_,⟨u,_,Z,?_,I,D.frame.trans H⟩,.one step_ret,Z,Z,D.defers,Z,V,hf,B⟩;have J:=qX D.inv
 match W,F,T with
 |[],F,T =>
  subst F;exact U
 |[x],F,T =>
  obtain⟨y,r,rfl,_,rfl⟩:=F;obtain⟨b,d,E,C,_⟩:=T;obtain⟨rfl,_⟩:=E;exact(uV J C U).1
 |x::x'::r,F,T =>
  obtain⟨y,q,rfl,_,p,j,rfl,_,_⟩:=F;refine(uV J (b := .eK (y::p::j)) ?_ U).1;exact⟨_,Z,T⟩
def ZY(ρ:Ren)(ts:tad)(env:Env):Env->Prop
 |[]=>True
 |(t,a)::l=>(∃b,au t env=some b/\Conv ρ ts a b)/\ZY ρ ts env l
def Lu(ρ:Ren)(ts:tad)(bs:tab):tab->Prop
 |[]=>True
 |(k,cells)::l=>(∃B W,ρ.bx k=some B/\au B bs=some W/\fT ρ ts cells W)/\Lu ρ ts bs l
def Lv{ρ ts env}:∀{l},ZY ρ ts env l->∀t a,au t l=some a->∃b,au t env=some b/\Conv ρ ts a b
 |[],_,t,a,e=>by simp[au]at e
 |(j,x)::l,h,t,a,e=>by rw[ak]at e;split at e;rename_i C;simp at e;subst C e;exact h.1;exact Lv h.2 t a e
def wN{ρ ts bs}:∀{l},Lu ρ ts bs l->∀k c,au k l=some c->∃B W,ρ.bx k=some B/\au B bs=some W/\fT ρ ts c W
 |[],_,t,a,e=>by simp[au]at e
 |(j,x)::l,h,t,a,e=>by rw[ak]at e;split at e;rename_i C;simp at e;subst C e;exact h.1;exact wN h.2 t a e
def QD(ts:tad)(tk:L (Nat×(Nat×Option Nat))):tad->Bool
 |[]=>true
 |(k,n)::l=>match au k tk with
  |some (m,none)=>both (Nat.beq m n) (QD ts tk l)
  |some (m,some B)=>match au B ts with
   |some _=>both (Nat.beq m n) (QD ts tk l)
   |none=>false
  |none=>false
def EM{ts tk}:∀{l},QD ts tk l->∀k n,au k l=some n->∃o,au k tk=some (n,o)/\∀B,o=some B->∃Y,au B ts=some Y
 |[],_,k,n,e=>by simp[au]at e
 |(j,m)::l,h,k,n,e=>by simp only[QD]at h;rw[ak]at e;split at h;rename_i J W;obtain⟨C,u⟩:=eG h;split at e;simp_all;exact EM u k n e;rename_i J B W;split at h;rename_i z P;obtain⟨C,u⟩:=eG h;split at e;simp_all;exact EM u k n e;grind;grind
def Lw:tad->Bool
 |[]=>true
 |(k,v)::l=>match Nat.blt k 1000000 with
  |true=>Lw l
  |false=>both (Nat.beq v k) (Lw l)
def AR:∀{l},Lw l->∀k v,1000000<=k->au k l=some v->v=k
 |[],_,k,v,_,e=>by simp[au]at e
 |(j,x)::l,h,k,v,hk,e=>by simp only[Lw]at h;rw[ak]at e;split at h;rename_i U;have:j<1000000:=(by simpa using U);rw[if_neg ai]at e;exact AR h k v hk e;obtain⟨C,u⟩:=eG h;split at e;simp_all;exact AR u k v hk e
def ZZ(bx:tad)(tk:L (Nat×(Nat×Option Nat)))(ts V:tad)(Y:Ω):Bool :=
 both (distinct (bx.map (·.2))) (both (distinct (dB tk)) (both (QD ts tk V) (both (Lw bx) (both (IE Y (iB bx)) (IE Y (iB tk))))))
def AK.gK{bs ts}{us:Ω}(bx)(tk){env' bs' ts' us'}
  (Y:ZY ⟨λk=>au k bx,λk=>au k tk⟩ ts env env')(U:Lu ⟨λk=>au k bx,λk=>au k tk⟩ ts bs bs')(D:ZZ bx tk ts ts' us')
  (h:AK P X f n β R K env' ⟨bs',ts',us'⟩):AK P X f n β R K env ⟨bs,ts,us⟩:=by
 obtain⟨W,D⟩:=eG D;obtain⟨u,D⟩:=eG D;obtain⟨V,D⟩:=eG D;obtain⟨c4,D⟩:=eG D;obtain⟨p,G⟩:=eG D;rw[nC]at p G;intro g w a O q;obtain⟨N,M⟩:=q.inv.gK ⟨λk=>au k bx,λk=>au k tk⟩ ⟨bs',ts',us'⟩ (λk cells e=>wN U k cells e) (λk F B A Q=>pq W (eu A) (eu Q))
  (λk m e=>EM V k m e) (λk F m J B A Q=>xQ u (eu A) (eu Q)) (λk e=>by
   rcases e with e|e
   exact wM p k (qh e)
   exact wM G k (qh e))
 refine h _ w a O ⟨N,q.wE,?_,q.frame.trans (M ?_),q.size,q.defers⟩;intro t x e;obtain⟨b,A,Q⟩:=Lv Y t x e;exact(uV (qX q.inv) Q (q.env t b A)).1;intro k I e;cases D:au k bs' with
 |none=>exact absurd D e
 |some c =>
  obtain⟨B,S,q1,T,_⟩:=wN U k c D;have:=AR c4 k B I q1;simp_all
end
section
variable {P:Program}{X:Ctx}{f:FuncId}{n:Nat}{β:lu}{R:Ending->World->Prop}{K:L Item}{env:Env}{σ:St}
def AK.D5{c x y b}(D:aJ X env c=some (.c (.bool b)))(U:b=true)(h:AK P X f n β R (.code x::K) env σ) :
  AK P X f n β R (.code (.cond c x y)::K) env σ:=by subst U;exact AK.aeB D h
def AK.D6{c x y b}(D:aJ X env c=some (.c (.bool b)))(U:b=false)(h:AK P X f n β R (.code y::K) env σ) :
  AK P X f n β R (.code (.cond c x y)::K) env σ:=by subst U;exact AK.aeC D h
end
def xS{α}:∀{n}{l:List α},n<=l.length->takeN n l=some (l.take n)
 |0,l,_=>by simp[takeN]
 |n+1,[],h=>by simp at h
 |n+1,x::l,h=>by simp[takeN,xS (l:=l) (n:=n) nu]
def xT{α}:∀{n}{l:List α},n<=l.length->eB n l=some (l.drop n)
 |0,l,_=>by simp[eB]
 |n+1,[],h=>by simp at h
 |n+1,x::l,h=>by simp[eB,xT (l:=l) (n:=n) nu]
abbrev cU(l:L UInt8):L CV:=l.map λb => .int .u8 b.toNat
def byteOf(z:Int):UInt8:=UInt8.ofNat (z%256).toNat
def qb(z):((byteOf z).toNat)=IntKind.u8.wrap z:=by unfold byteOf;simp[IntKind.wrap,IntKind.bits,IntKind.signed];omega
def Bo(z):[CV.int .u8 (IntKind.u8.wrap z)]=cU [byteOf z]:=by simp[cU,qb]
section
variable {P:Program}{X:Ctx}
def bR.val{o}{env:Env}{σ v} (h:∀(S:Env)(w)(g)(a:Act),(∀x∈o.op.operands.toList,aJ X S x=aJ X env x)->(∀b o v,g.G b o=some v->w.cell? ⟨b,o,none⟩=some v) ->
  rR X g.G->yo g S a.tmps->∃u,(execOp a.eval o).run P w = .ok (.value u) w/\aX g v u):bR P X o env σ v (λσ=>σ) ⟨[],[]⟩:=by
 intro S p w g a next Q V U W B Y q;obtain⟨u,E,H⟩:=h S w g a V W.rS B Y;unfold Oper.wp;rw[E,Oper.upon_value];exact q u w g H W (jv.refl _ _ _) (Gh.le.refl _)
def bR.concat(hX:cI P X){o}{env:Env}{σ t yt x y}(ho:o.op = .binOp .add t x y yt){a b:Δ}(hx:aJ X env x=some (.c (.str a)))(hy:aJ X env y=some (.c (.str b)))
  (hl:a.length+b.length<=9223372036854775807):bR P X o env σ (.c (.str (a++b))) (λσ=>σ) ⟨[],[]⟩:=by
 refine bR.val λdx w g act h1 jH cB dI=>?_
 have hx':aJ X dx x=some (.c (.str a)):=by rw[h1 x lf];exact hx
 have hy':aJ X dx y=some (.c (.str b)):=by rw[h1 y lf];exact hy
 have rx:=cz (a:=act) dI cB hx'
 have ry:=cz (a:=act) dI cB hy'
 simp only[aX,Rel]at rx ry
 refine⟨.string ⟨(a++b).toArray⟩,?_,by simp only[aX,Rel]⟩
 obtain⟨dst,op,type,pos,after,guard⟩:=o
 subst ho
 have hsz:¬((9223372036854775807:Int)<(a.length:Int)+(b.length:Int)):=by omega
 have hj:(ByteArray.mk a.toArray)++(ByteArray.mk b.toArray)=⟨(a++b).toArray⟩:=by rfl
 simp[execOp,rx,ry,binOp,eqGuard,Op.stringOp,zG,hsz,hj]
def bR.toStr(hX:cI P X){o}{env:Env}{σ}{s d:TypeId}{x}(D:o.op = .convert s d x){i j k e}(hi:X.ti s=some i)(hk:i.kind = .slice e)(he:X.ti e=some k)(Yq:k.kind = .int .u8)(hj:X.ti d=some j)(M:j.kind = .str)
  {a}(hx:aJ X env x=some a){q z}(C:rowsOf a=some (q,z)){l}(ie:z=cU l)(hq:iu q 1 z):bR P X o env σ (.c (.str l)) (λσ=>σ) ⟨[],[]⟩:=by
 refine bR.val λdx w g H h1 jH cB dI=>?_;have A:aJ X dx x=some a:=by rw[h1 x (by rw[D];simp[Op.operands])];exact hx
 have p:=cz (a:=H) dI cB A;obtain⟨d1,_,jS,V⟩:=hX.run_underlying (w:=w) hi;rw[hk]at jS;subst jS;obtain⟨d2,_,Q,U⟩:=hX.run_underlying (w:=w) he;rw[Yq]at Q;subst Q;obtain⟨d3,_,O,S⟩:=hX.run_underlying (w:=w) hj;rw[M]at O;subst O;have N:∃F Y T,H.eval x = .slice F Y T/\Y=z.length/\mQ g.G q F z:=by unfold rowsOf at C;split at C<;>simp at C;obtain⟨rfl,rfl⟩:=C;obtain⟨F,Y,T,y,t,e3,r,_⟩:=p;grind;obtain⟨rfl,rfl⟩:=C;obtain⟨F,Y,T,y,t,e3,r⟩:=p;exact⟨F,Y,T,y,t,r⟩
 obtain⟨F,Y,T,ex,W,K⟩:=N;refine⟨.string ⟨l.toArray⟩,?_,by simp only[aX,Rel]⟩;have J:(convert s d (.slice F Y T)).run P w = .ok (.string ⟨l.toArray⟩) w:=by
  subst ie;rw[ahY]at W;rcases K with I|⟨b,o',rfl,hG⟩
  ·have hl:l=[]:=(by simpa using I);subst hl;simp at W;subst W;cases F with
   |none=>rw[run_convert_bytes_string w s d e none 0 T V U S];rfl
   |some ad=>exact run_convert_bytes_back w s d e ad T [] V U S cS
  rw[W];refine run_convert_bytes_back w s d e ⟨b,o',none⟩ T l V U S λm hm=>?_;rw[Addr.add_lit];have B:(cU l)[m]?=some (.int .u8 l[m].toNat):=by simp[hm]
  obtain⟨c1,c2⟩:=hG.get m _ B;simp only[CV.cells]at c1 c2;obtain⟨⟨u,u1,u2,_⟩,_⟩:=c1;subst u2;have J5:q=1:=by simpa using c2.symm
  subst J5;have:=jH _ _ _ u1;rwa[Nat.mul_one]at this
 obtain⟨ψ,op,ω,pos,E,guard⟩:=o;subst D;simp[execOp,ex,J]
def Dg(Y e:Nat):Nat->Nat->tad
 |_,0=>[]
 |k,n+1=>(k*Y,e)::Dg Y e (k+1) n
def Lx{V e}:∀{n k i Y K},nth (Dg V e k n) i=some (Y,K)->Y=(k+i)*V/\K=e
 |0,k,i,Y,K,h=>by simp[Dg,nth]at h
 |n+1,k,0,Y,K,h=>by simp[Dg,nth]at h;exact⟨by simp[h.1],h.2.symm⟩
 |n+1,k,i+1,Y,K,h=>by simp only[Dg]at h;obtain⟨U,T⟩:=Lx h;grind
def bR.IN(hX:cI P X){o}{env:Env}{σ}{t:TypeId}{parts}(ho:o.op = .build t parts){i j n e}(hi:X.ti t=some i)(hk:i.kind = .arr n e)(hj:X.ti e=some j)
  {z r:Φ}(hz:i.zero=some (.agg z))(h:uD X (aJ X env) (Dg j.size e 0 n) parts.toList z=some r):bR P X o env σ (.agg r) (λσ=>σ) ⟨[],[]⟩:=by
 refine bR.val λdx w g act h1 jH cB dI=>?_
 have h':uD X (aJ X dx) (Dg j.size e 0 n) parts.toList z=some r:=by
  rw[zH _ _ _ (λp hp=>h1 p.2 Wb)];exact h
 obtain⟨d,kV,jS,_⟩:=hX.run_underlying (w:=w) hi
 rw[hk]at jS;subst jS
 obtain⟨zv,z1,z2,z3⟩:=hX.nW (w:=w) hi hz
 have z4:=z2 g
 obtain⟨zs,rfl,z5,z6⟩:=z4
 obtain⟨us,f1,f2,f3⟩:=Im hX (ρ:=aJ X dx) (ev:=act.eval) (λx v hx=>cz dI cB hx) (λ(m:Nat)=>some (m*j.size,j.size)) (by
  intro m off ft j' e1 e2
  obtain⟨rfl,rfl⟩:=Lx e1
  rw[hj]at e2;simp at e2;subst e2
  simp) (vs:=zs.toArray) h' (by simpa using z5) z6
 refine⟨.agg us,?_,by simp only[aX];exact⟨us.toList,cS,f2,f3⟩⟩
 obtain⟨dst,op,type,pos,after,guard⟩:=o
 subst ho
 have hb:(Instr.build t (parts.map λ(i,x)=>(i,act.eval x))).run P w = .ok (.agg us) w:=by
  simp only[Instr.build,Sem.run_bind,z1,Result.andThen_ok,kV,Value.cells,hX.run_sizeOf hj]
  simp_all
 simp only[execOp]
 simp_all
def bR.eW(hX:cI P X){o}{env:Env}{σ}{t:TypeId}{x ix}(ho:o.op = .index t x ix){i j n e}(hi:X.ti t=some i)(hk:i.kind = .arr n e)(hj:X.ti e=some j)
  {cs rest:Φ}(hx:aJ X env x=some (.agg cs)){ia}(hz:aJ X env ix=some ia){m}(hm:asNat ia=some m)(hmn:Nat.blt m n)(hd:eB (m*j.size) cs=some rest){v}(hv:mK j rest=some v) :
  bR P X o env σ v (λσ=>σ) ⟨[],[]⟩:=by
 refine bR.val λdx w g act h1 jH cB dI=>?_
 have hx':aJ X dx x=some (.agg cs):=by rw[h1 x lf];exact hx
 have J2:aJ X dx ix=some ia:=by rw[h1 ix lf];exact hz
 have rx:=cz (a:=act) dI cB hx'
 have rz:=cz (a:=act) dI cB J2
 obtain⟨vs,ex,r1,r2⟩:=rx
 obtain⟨k,rz⟩:=AI hm rz
 obtain⟨d,kV,jS,_⟩:=hX.run_underlying (w:=w) hi
 rw[hk]at jS;subst jS
 obtain⟨u,u1,u2⟩:=Io (P:=P) (w:=w) (vs:=vs.toArray) hX hj (.inl ⟨cs,rest,by simpa using r1,r2,hd,hv⟩)
 refine⟨u,?_,u2⟩
 have hlt:m<n:=by simpa using hmn
 obtain⟨dst,op,type,pos,after,guard⟩:=o
 subst ho
 simp[execOp,ex,rz,Instr.index,asIntOf,kV,hlt,hX.run_sizeOf hj,u1]
end
section
variable {P:Program}{X:Ctx}{ops:tal}{o:Oper}{rest:L Oper}{env:Env}{acc:L Fp}{Q:Env->St->L Fp->Prop}{σ:St}
def ag.ahJ(hX:cI P X)(kn)(I:simple o.op){acc}{Y:L Oper}{V}{W:L Fp}
  (h:K5 X ops.toList σ.boxes kn 0 (o::rest) env acc = .at Y V W)(k:ag P X ops Y V σ W Q):ag P X ops (o::rest) env σ acc Q:=ag.SH hX 0 kn h k
def ag.rN{j d Y b}(N:o.guard=some (j,Y))(W:tI ops j=some d)(U:au d env=some (.c (.bool b)))(I:b=true)
  (V:b=true->ag P X ops (o::rest) env σ acc Q):ag P X ops (o::rest) env σ acc Q:=V I
def ag.rO{j d Y b}(N:o.guard=some (j,Y))(W:tI ops j=some d)(U:au d env=some (.c (.bool b)))(I:b=false)
  (V:b=false->ag P X ops (o::rest) env σ acc Q):ag P X ops (o::rest) env σ acc Q:=V I
def ag.concat(hX:cI P X)(kn)(hg:cZ ops.toList kn env o=some true){t yt x y}(ho:o.op = .binOp .add t x y yt){d:Nat}(hd:o.dst=some d){a b:Δ}
  (hx:aJ X env x=some (.c (.str a)))(hy:aJ X env y=some (.c (.str b)))(hl:a.length+b.length<=9223372036854775807)
  (k:ag P X ops rest ((d,.c (.str (a++b)))::env) σ (⟨[],[]⟩::acc) Q):ag P X ops (o::rest) env σ acc Q :=
 ag.step (dA hg) (bR.concat hX ho hx hy hl) (jf.id _) zw
def ag.toStr(hX:cI P X)(kn)(N:cZ ops.toList kn env o=some true){s t x}(W:o.op = .convert s t x){d:Nat}(A:o.dst=some d){i j k e}(H:X.ti s=some i)(I:i.kind = .slice e)(V:X.ti e=some k)(U:k.kind = .int .u8)
  (G:X.ti t=some j)(Y:j.kind = .str){a}(O:aJ X env x=some a){q T}(C:rowsOf a=some (q,T)){l}(p:T=cU l)(S:iu q 1 T)
  (k:ag P X ops rest ((d,.c (.str l))::env) σ (⟨[],[]⟩::acc) Q):ag P X ops (o::rest) env σ acc Q :=
 ag.step (dA N) (bR.toStr hX W H I V U G Y O C p S) (jf.id _) ob
def ag.IN(hX:cI P X)(kn)(N:cZ ops.toList kn env o=some true){t Y}(W:o.op = .build t Y){d:Nat}(A:o.dst=some d){i j n e}(H:X.ti t=some i)(I:i.kind = .arr n e)(G:X.ti e=some j)
  {z r:Φ}(V:i.zero=some (.agg z))(h:uD X (aJ X env) (Dg j.size e 0 n) Y.toList z=some r)
  (k:ag P X ops rest ((d,.agg r)::env) σ (⟨[],[]⟩::acc) Q):ag P X ops (o::rest) env σ acc Q :=
 ag.step (dA N) (bR.IN hX W H I G V h) (jf.id _) ob
def ag.eW(hX:cI P X)(kn)(N:cZ ops.toList kn env o=some true){t x V}(T:o.op = .index t x V){d:Nat}(A:o.dst=some d){i j n e}(H:X.ti t=some i)(I:i.kind = .arr n e)(G:X.ti e=some j)
  {J Y:Φ}(O:aJ X env x=some (.agg J)){U}(S:aJ X env V=some U){m}(M:asNat U=some m)(W:Nat.blt m n)(K:eB (m*j.size) J=some Y){v}(u:mK j Y=some v)
  (k:ag P X ops rest ((d,v)::env) σ (⟨[],[]⟩::acc) Q):ag P X ops (o::rest) env σ acc Q :=
 ag.step (dA N) (bR.eW hX T H I G O S M W K u) (jf.id _) ob
def ag.nV(hX:cI P X)(kn)(N:cZ ops.toList kn env o=some true){t x Y}(W:o.op = .index t x Y){d:Nat}(A:o.dst=some d){i}(H:X.ti t=some i)(I:i.kind = .str)
  {s:Δ}(O:aJ X env x=some (.c (.str s))){k z}(V:aJ X env Y=some (.c (.int k z))){m:Nat}(U:z=m){b}(T:s[m]?=some b)
  (k:ag P X ops rest ((d,.c (.int .u8 b.toNat))::env) σ (⟨[],[]⟩::acc) Q):ag P X ops (o::rest) env σ acc Q:=by
 subst U;refine ag.look hX kn N A ?_ (by rw[W];rfl) k;rw[W];have S:∀q:IntKind,asNat (.c (.int q (m:Int)))=some m:=λ_=>rfl;simp only[gX,H,O,V,S,I,vF,T]
def ag.IP(hX:cI P X)(kn)(hg:cZ ops.toList kn env o=some true){t x lo hi'}(ho:o.op = .slice t x lo hi' none){d:Nat}(hd:o.dst=some d){i}(hi:X.ti t=some i)(hk:i.kind = .str)
  {s:Δ}(hx:aJ X env x=some (.c (.str s))){l h}(hl:bound (aJ X env) lo=some l)(hh:bound (aJ X env) hi'=some h)(h1:h.getD s.length<=s.length)(h2:l.getD 0<=h.getD s.length)
  (k:ag P X ops rest ((d,.c (.str ((s.take (h.getD s.length)).drop (l.getD 0))))::env) σ (⟨[],[]⟩::acc) Q):ag P X ops (o::rest) env σ acc Q:=by
 refine ag.look hX kn hg hd ?_ (by rw[ho];rfl) k
 rw[ho]
 have hb:bound (aJ X env) none=some none:=rfl
 simp only[gX,hi,hx,hl,hh,hb,hk,Et]
 cases h with
 |none =>
  cases l with
  |none=>simp
  |some l=>simp at h2 ⊢;simp[xT h2]
 |some h =>
  simp at h1 h2 ⊢
  cases l with
  |none=>simp[xS h1]
  |some l =>
   simp at h2
   simp[xS h1,xT (l:=s.take h) (n:=l) oe]
end
abbrev aq(rows:L CV):L AV:=(bD rows).map AV.c
def VM{w }{g }{σ }(h : Inv w g σ) : Inv w.drew g σ /\ jv w g σ w.drew g σ :=
  ⟨⟨h.rS, λk Y e => by
      obtain ⟨b, C, u, E, A⟩ := h.box k Y e;exact ⟨b, C, u, E, cC.of_same (w := w) (w' := w.drew) (λo => ⟨Z, Z⟩) A⟩,
    h.gR, h.tok, h.iX, h.used, h.room⟩,
   ⟨Z, Z, Z, acd _, λ_ _ _ => Z, λ_ _ _ _ => ⟨Z, Z⟩, lB.le.refl _, λ_ _ _ h => .inl h, λk Y b V U => .inr ⟨k, Y, V, U⟩,
    λk n b D H V U => .inr ⟨k, n, D, H, V, U, acd _, acd _⟩, λ_ _ h => ⟨h, Z, Z⟩⟩⟩
def sD{g}:∀{cs vs},cy g.G cs vs->cn g (cs.map AV.c) vs
 |[],vs,h=>by simp only[cy]at h;subst h;simp[cn]
 |c::cs,vs,h=>by
  obtain⟨u,us,rfl,h1,h2⟩:=h
  exact⟨u,us,Z,adX,sD h2⟩
def wP:∀(Y:Ψ),(Y.map AV.c).all AV.one=Y.all CV.one
 |[]=>rfl
 |c::Y=>by simp only[ahM,aiK,wP Y,AV.one]
section
variable {P:Program}{X:Ctx}
def Bk w(s)Y(T):(Builtin.firstCells s 0 (.slice Y 0 T)).run P w = .ok #[] w:=by
 cases Y with
 |none=>simp[Builtin.firstCells]
 |some a=>exact run_firstCells_some w s 0 a 0 T [] cS (by intro j v h;simp at h)
set_option maxHeartbeats 1600000 in
def bR.xg(hX:cI P X){o:Oper}{env:Env}{σ:St}{args:tam}{ats:Array TypeId}(ho:o.op = .call {callee := .builtin .append,args:=args,argTypes:=ats})
  {xs y:Operand}(hargs:args.toList=[xs,y]){t t1:Nat}(EE:ats.toList=[t,t1]){d:Nat}(kV:d<1000000)
  {i j i1:TI}{e:Nat}(hi:X.ti t=some i)(hk:i.kind = .slice e)(hj:X.ti e=some j){za:AV}(hz:j.zero=some za)(hi1:X.ti t1=some i1)(rZ:nB i1.kind)
  {s:Nat}{rows:Ψ}(ha:aJ X env xs=some (.own .exact s rows)){b:AV}(hb:aJ X env y=some b){s1:Nat}{b9:Ψ}(hsrc:pn b=some (s1,b9))
  (hs:iu s j.size rows)(uq:iu s1 j.size b9)(hne:b9≠[])(hu:mem d σ.used=false)(hby:Nat.ble 1 j.bytes)(hbound:(rows.length+b9.length)*j.bytes<=140737488355328) :
  bR P X o env σ (.iI d 0 j.size (rows++b9).length) (λσ=>σ.fA d (aq (rows++b9))) ⟨[],[d]⟩:=by
 intro dx σ1 w g act next Q h1 h2 hinv cB dI hnext
 have tV:∀x∈args.toList,x∈o.op.operands.toList:=by
  intro x hx
  rw[ho];simp only[Op.operands,Call.operands,aiu,ahj];exact .inr hx
 have Bg:aJ X dx xs=some (.own .exact s rows):=by rw[h1 xs (tV xs ae5)];exact ha
 have hb':aJ X dx y=some b:=by rw[h1 y (tV y ae5)];exact hb
 have rA:=cz (a:=act) dI cB Bg
 have rB:=cz (a:=act) dI cB hb'
 simp only[aX]at rA
 obtain⟨base,len,cap,ex,hlen,hcap,ie,hown⟩:=rA
 obtain⟨_,n5⟩:=tU (P:=P) (w:=w) hinv.rS hsrc uq rB
 obtain⟨⟨news',n1',n2',n3',n4'⟩,_⟩:=tU (P:=P) (w:=w.drew) (λb o v h=>by rw[World.cell?_drew];exact hinv.rS b o v h) hsrc uq rB
 obtain⟨olds,m1,m2,m3,m4⟩:=AM (P:=P) (w:=w.drew) (g:=g) (λb o v h=>by rw[World.cell?_drew];exact hinv.rS b o v h) ie hs len cap hlen
 obtain⟨dt,_,Da,Km⟩:=hX.run_underlying (w:=w) hi
 rw[hk]at Da;simp only[jX]at Da;subst Da
 obtain⟨d1,Gu,Ly⟩:=C8 hX hi1 afg w
 obtain⟨inf,if1,Tu,if3,if4,_,if6⟩:=hX.ti e j hj
 obtain⟨z,z1,_,z3⟩:=if4 za hz
 have Xk:news'.length=b9.length*j.size:=by rw[<- (cy.get n1').1,dL n2']
 have Xe:olds.length=rows.length*j.size:=by rw[<- (cy.get m1).1,dL m2]
 have BY:args = #[xs,y]:=by cases args;simp_all
 have IB:ats = #[t,t1]:=by cases ats;simp_all
 have ZV:=ahw hby
 have hsmall:rows.length+b9.length<=140737488355328:=aiq (akz _ ZV) hbound
 have hpos:0<b9.length:=List.length_pos_iff.2 hne
 simp only[Br]at hown
 have ZW:∀(v:Value)(w':World),(Builtin.append_ #[t,t1] o.type #[.slice base len cap,act.eval y]).run P w = .ok v w'->(execOp act.eval o).run P w = .ok (.value v) w':=by
  intro v w' hr
  obtain⟨dst,op,type,pos,after,guard⟩:=o
  simp only at ho hr;subst ho
  subst BY IB
  simp[execOp,resolve,invoke,builtin,ex,hr,Result.andThen]
 unfold Oper.wp
 have hg:cap<len+b9.length:=by omega
 have hbd:(len+b9.length)*inf.bytes<=140737488355328:=by rw[if3,hlen];exact hbound
 rw[ZW _ _ (qg Km Gu Ly if1 z1 n5 (by rw[Tu];exact n4') (by rw[Tu];exact m4) hg ai hbd)]
 rw[Oper.upon_value]
 have hge:=grownCap_ge w (len+b9.length) cap e
 generalize grownCap w (len+b9.length) cap e=nc at hge ⊢
 have yA:(olds.toArray++news'.toArray++Builtin.zeroCells z.cells (nc-(len+b9.length))).size=nc*j.size:=by
  simp only[ajr,aiS,size_zeroCells,Xe,Xk,z3,<- hlen,<- ajM]
  congr 1;omega
 have Z0:d ∉ σ1.used:=λh=>cX hu ((h2 d (.inr cS)).2.2.1 h)
 obtain⟨e1,e2⟩:=VM hinv
 have gP:cy g.G (bD (rows++b9)) (olds++news'):=by rw[eg];exact gD m1 n1'
 have hfl:(bD (rows++b9)).length=(olds++news').length:=(cy.get gP).1
 have hrc:cn g (aq (rows++b9)) ((olds.toArray++news'.toArray++Builtin.zeroCells z.cells (nc-(len+b9.length))).toList.take (aq (rows++b9)).length):=by
  rw[ahY,hfl]
  simp only[aiu]
  rw[List.take_left']
  ·exact sD gP
  ·simp
 have hone:(aq (rows++b9)).all AV.one:=by
  rw[wP,eg,ajJ,m3,n3'];rfl
 obtain⟨i1,i2,i3,i4⟩:=M9 (t:=e) e1 Z0 kV hrc hone
 refine hnext _ _ _ ?_ i1 (e2.trans i2) i3
 simp only[aX]
 refine⟨w.heap.size,nc,some ⟨w.heap.size,0,none⟩,cS,?_,?_,?_,.inr Z⟩
 ·simp[hlen]
 ·simp_all
 ·simp_all
end
def St.fW(σ:St)(K:Nat):St:=⟨Gs K σ.boxes,σ.toks,σ.used⟩
def TB{w g σ}(h:Inv w g σ)(K):Inv w g (σ.fW K)/\jv w g σ w g (σ.fW K):=by
 have N:∀k T,au k (σ.fW K).boxes=some T->au k σ.boxes=some T:=by intro k T e;simp only[St.fW,l9]at e;simp_all
 refine⟨⟨h.rS,λk T e=>h.box k T (N k T e),λk M T E b e J=>h.gR k M T E b (N k T e) (N M E J),?_,h.iX,h.used,λk T b e=>h.room k T b (N k T e)⟩,
  ⟨Z,Z,Z,acd _,λ_ _ _=>rfl,λ_ _ _ _=>⟨Z,Z⟩,lB.le.refl _,λ_ _ _ h => .inl h,λk T b S O => .inr ⟨k,T,N k T S,O⟩,
   λk n b D H S O => .inr ⟨k,n,D,H,S,O,acd _,acd _⟩,λk _ e=>?_⟩⟩
 intro k n e;obtain⟨U,S,O⟩:=h.tok k n e;refine⟨U,S,λb D H V=>?_⟩;simp_all;cases Y:au k (σ.fW K).boxes with
 |none=>exact absurd Y e
 |some T=>exact⟨by rw[N k T Y];simp,Z,Z⟩
def adp{w w' g σ key d b}{cells cells':Φ}(hinv:Inv w g σ)(hk:au key σ.boxes=some cells)(hb:g.box key=some b)(hd:d ∉ σ.used)(af7:d<1000000)
  (r2:w'.heap.size=w.heap.size/\w'.os=w.os/\w'.tape=w.tape/\w'.output=w.output/\∀b',b'≠b->w'.heap[b']?=w.heap[b']?)
  (r3:∀b' o',b'≠b->w'.cell? ⟨b',o',none⟩=w.cell? ⟨b',o',none⟩)(r4:∀b' o',w'.frozen? ⟨b',o',none⟩=w.frozen? ⟨b',o',none⟩)
  (hc:cC w' g b 0 cells')(hr:∀o,o<g.room key->∃u,w'.cell? ⟨b,o,none⟩=some u) :
  let g':Gh:=⟨g.G,λk=>if k=d then some b else g.box k,g.tok,λk=>if k=d then g.room key else g.room k⟩
  let σ':St:=(σ.fA d cells').fW key
  Inv w' g' σ'/\jv w g σ w' g' σ'/\g.le g':=by
 intro g' σ'
 obtain⟨b0,hb0,ah4,hbG,hbc⟩:=hinv.box key cells hk
 rw[hb]at hb0;cases hb0
 have hbn:g.box d=none:=by
  cases h:g.box d with
  |none=>rfl
  |some x=>exact absurd (hinv.used d (.inl ri)) hd
 have hkd:key≠d:=by rintro rfl;rw[hb]at hbn;simp at hbn
 have hle:g.le g':=by
  refine⟨lB.le.refl _,λk x h=>?_,λk x h=>?_,λk hw iy h=>⟨hw,iy,h,acd _,λ_=>rfl⟩⟩
  ·grind
  ·grind
 have jW:∀k cs,au k σ'.boxes=some cs->(k=d/\cs=cells')\/(k≠d/\k≠key/\au k σ.boxes=some cs):=by
  intro k cs e
  simp only[σ',St.fW,St.fA,l9,ak]at e
  split at e
  ·simp at e
  ·grind
 have zJ:∀k cs b',k≠key->au k σ.boxes=some cs->g.box k=some b'->b'≠b:=by
  rintro k cs b' h1 h2 h3 rfl
  exact h1 (hinv.gR k key cs cells _ h2 hk h3 hb)
 refine⟨⟨?_,?_,?_,?_,hinv.iX,?_,?_⟩,⟨r2.2.1,r2.2.2.1,r2.2.2.2.1,ai,λb' hb' hno=>r2.2.2.2.2 b' (by rintro rfl;exact hno 0 (.inl ⟨key,cells,hk,hb⟩)),λb' o hb' hno=>⟨r3 b' o (by rintro rfl;exact hno (.inl ⟨key,cells,hk,hb⟩)),r4 b' o⟩,lB.le.refl _,λ_ _ _ h => .inl h,?_,?_,?_⟩,hle⟩
 ·intro b' o v h
  rw[r3 b' o (by rintro rfl;rw[hbG]at h;simp at h)]
  exact hinv.rS b' o v h
 ·intro k cs e
  rcases jW k cs e with ⟨rfl,rfl⟩|⟨h1,h2,h3⟩
  ·exact⟨b,afW,ai,hbG,hc.mono hle⟩
  ·obtain⟨b',f1,f2,f3,f4⟩:=hinv.box k cs h3
   have Ew:=zJ k cs b' h2 h3 f1
   exact⟨b',by simp[g',h1,f1],ai,f3,(cC.of_same (λo=>⟨r3 b' o Ew,r4 b' o⟩) f4).mono hle⟩
 ·intro k k' cs cs' b' e e' e1 e2
  simp only[g']at e1 e2
  rcases jW k cs e with ⟨rfl,rfl⟩|⟨h1,h2,h3⟩
  ·grind
  ·rw[if_neg h1]at e1
   rcases jW k' cs' e' with ⟨rfl,rfl⟩|⟨uu,FI,Yp⟩
   ·grind
   ·rw[if_neg uu]at e2
    exact hinv.gR k k' cs cs' b' h3 Yp e1 e2
 ·intro k n e
  obtain⟨iy,e1,e2⟩:=hinv.tok k n e
  refine⟨iy,e1,λb' lo hi hr'=>?_⟩
  obtain⟨e3,e4,e5⟩:=e2 b' lo hi hr'
  have Ew:b'≠b:=by rintro rfl;exact e5 key cells hk hb
  refine⟨ai,λo h1 h2=>?_,λk' cs e'=>?_⟩
  ·grind
  ·grind
 ·intro k e
  show k∈d::σ.used
  by_cases hkk:k=d
  ·simp[hkk]
  ·simp only[aim];right;apply hinv.used k;simpa[g',hkk]using e
 ·intro k cs b' e e1 o
  simp only[g']at e1 ⊢
  rcases jW k cs e with ⟨rfl,rfl⟩|⟨h1,h2,h3⟩
  ·rw[if_pos rfl]at e1;rw[if_pos rfl];simp at e1;subst e1
   exact⟨hr o,by rw[r4];exact(hinv.room key cells _ hk hb o).2⟩
  ·rw[if_neg h1]at e1;rw[if_neg h1]
   have Ew:=zJ k cs b' h2 h3 e1
   obtain⟨f1,f2⟩:=hinv.room k cs b' h3 e1 o
   exact⟨λho=>(f1 ho).imp λu hu=>by rw[r3 b' o Ew];exact hu,by rw[r4];exact f2⟩
 ·grind
 ·exact ahc
 ·intro k He e
  cases hc0:au k σ'.boxes with
  |none=>exact absurd hc0 e
  |some cs =>
   rcases jW k cs hc0 with ⟨rfl,rfl⟩|⟨h1,h2,h3⟩
   ·omega
   ·grind
def qY{w g b}:∀{S:Ψ}{tail o},cC w g b o (S.map AV.c++tail)->∃U,cy g.G S U/\(∀(j) u,U[j]?=some u->w.cell? ⟨b,o+j,none⟩=some u)/\S.all CV.one
 |[],_,_,_=>⟨[],by simp[cy],λj u h=>by simp at h,Z⟩
 |c::S,tail,o,h=>by
  obtain⟨⟨u,O,h2,B⟩,_,h4⟩:=h;obtain⟨U,P,V,T⟩:=qY h4;refine⟨u::U,by simp_all;exact⟨u,U,Z,K0,P⟩,λj v Y=>?_,by simp_all;simpa only[AV.one]using B⟩;cases j with
  |zero=>simp at Y;subst Y;exact O
  |succ j =>
   grind
def QE(d K cells)(Y:d≠K):jf (λσ=>(σ.fA d cells).fW K) ⟨[],[d,K]⟩ where
 out:=λσ k I=>by simp at I;refine⟨?_,Z,?_⟩;simp only[St.fW,St.fA,l9,ak];simp_all;simp only[St.fW,St.fA];simp_all
 same:=λσ p h k I=>by obtain⟨U,V,B⟩:=h k (.inr I);refine⟨?_,V,?_⟩;simp only[St.fW,St.fA,l9,ak];simp_all;simp only[St.fW,St.fA,aim,B]
section
variable {P:Program}{X:Ctx}
set_option maxHeartbeats 1600000 in
def bR.od(hX:cI P X){o:Oper}{env:Env}{σ:St}{args:tam}{ats:Array TypeId}(ho:o.op = .call {callee := .builtin .append,args:=args,argTypes:=ats})
  {xs y:Operand}(hargs:args.toList=[xs,y]){t t1:Nat}(EE:ats.toList=[t,t1]){d:Nat}(kV:d<1000000)
  {i j i1:TI}{e:Nat}(hi:X.ti t=some i)(hk:i.kind = .slice e)(hj:X.ti e=some j){za:AV}(hz:j.zero=some za)(hi1:X.ti t1=some i1)(rZ:nB i1.kind)
  {key n:Nat}(ha:aJ X env xs=some (.iI key 0 j.size n)){cells tail:Φ}{rows:Ψ}(Ea:au key σ.boxes=some cells)(kF:cells=aq rows++tail)(hn:n=rows.length)(hfl:(bD rows).length=n*j.size)
  {b:AV}(hb:aJ X env y=some b){s1:Nat}{b9:Ψ}(hsrc:pn b=some (s1,b9))
  (uq:iu s1 j.size b9)(hu:mem d σ.used=false)(hby:Nat.ble 1 j.bytes)(hbound:(rows.length+b9.length)*j.bytes<=140737488355328) :
  bR P X o env σ (.iI d 0 j.size (rows++b9).length) (λσ=>(σ.fA d (aq (rows++b9))).fW key) ⟨[],[d,key]⟩:=by
 intro dx σ1 w g act next Q h1 h2 hinv cB dI hnext
 have tV:∀x∈args.toList,x∈o.op.operands.toList:=by
  intro x hx
  rw[ho];simp only[Op.operands,Call.operands,aiu,ahj];exact .inr hx
 have Bg:aJ X dx xs=some (.iI key 0 j.size n):=by rw[h1 xs (tV xs ae5)];exact ha
 have hb':aJ X dx y=some b:=by rw[h1 y (tV y ae5)];exact hb
 have Na:au key σ1.boxes=some cells:=by rw[(h2 key (.inr cS)).1];exact Ea
 have rA:=cz (a:=act) dI cB Bg
 have rB:=cz (a:=act) dI cB hb'
 simp only[aX]at rA
 obtain⟨bk,cap,oo,O9,ex,hcap,agk,hoo⟩:=rA
 obtain⟨bk',ain,ah4,hbG,hbc⟩:=hinv.box key cells Na
 rw[O9]at ain;cases ain
 obtain⟨⟨news,n1,n2,n3,n4⟩,n5⟩:=tU (P:=P) (w:=w) hinv.rS hsrc uq rB
 obtain⟨⟨news',n1',n2',n3',n4'⟩,_⟩:=tU (P:=P) (w:=w.drew) (λb o v h=>by rw[World.cell?_drew];exact hinv.rS b o v h) hsrc uq rB
 have aio:=hbc
 rw[kF]at aio
 obtain⟨olds,m1,mv,m3⟩:=qY aio
 obtain⟨dt,_,Da,Km⟩:=hX.run_underlying (w:=w) hi
 rw[hk]at Da;simp only[jX]at Da;subst Da
 obtain⟨d1,Gu,Ly⟩:=C8 hX hi1 afg w
 obtain⟨inf,if1,Tu,if3,if4,_,if6⟩:=hX.ti e j hj
 obtain⟨z,z1,_,z3⟩:=if4 za hz
 have VJ:news.length=b9.length*j.size:=by rw[<- (cy.get n1).1,dL n2]
 have Xk:news'.length=b9.length*j.size:=by rw[<- (cy.get n1').1,dL n2']
 have Xe:olds.length=n*j.size:=by rw[<- (cy.get m1).1,hfl]
 have m4:(Builtin.firstCells j.size n (.slice oo n cap)).run P w.drew = .ok olds.toArray w.drew:=by
  rcases hoo with h0|rfl
  ·have h00:n=0:=by omega
   have:olds.length=0:=by rw[Xe,h00];simp
   rw[List.length_eq_zero_iff.1 this,h00]
   exact Bk w.drew _ _ _
  ·refine run_firstCells_some w.drew j.size n _ n cap olds Xe ?_
   intro q v hq;rw[Addr.add_lit,World.cell?_drew]
   exact mv q v hq
 have BY:args = #[xs,y]:=by cases args;simp_all
 have IB:ats = #[t,t1]:=by cases ats;simp_all
 have ZV:=ahw hby
 have hsmall:rows.length+b9.length<=140737488355328:=aiq (akz _ ZV) hbound
 have Z0:d ∉ σ1.used:=λh=>cX hu ((h2 d (.inr cS)).2.2.1 h)
 have hdk:key≠d:=by
  rintro rfl
  exact Z0 (hinv.used key (.inl (by rw[O9];simp)))
 have hone:(aq (rows++b9)).all AV.one:=by
  rw[wP,eg,ajJ,m3,n3'];rfl
 have ZW:∀(v:Value)(w':World),(Builtin.append_ #[t,t1] o.type #[.slice oo n cap,act.eval y]).run P w = .ok v w'->(execOp act.eval o).run P w = .ok (.value v) w':=by
  intro v w' hr
  obtain⟨dst,op,type,pos,after,guard⟩:=o
  simp only at ho hr;subst ho
  subst BY IB
  simp[execOp,resolve,invoke,builtin,ex,hr,Result.andThen]
 unfold Oper.wp
 by_cases hroom:n+b9.length<=cap
 ·have hmul:n*j.size+news.length<=cap*j.size:=by
   rw[VJ,<- ajM];exact ajG _ hroom
  obtain⟨w',r1,r2,r3,r4,r5⟩:=pe (P:=P) (w:=w) bk news (n*j.size) 0 w (oL n1 n3) (by
   intro q hq
   simp only[aiI]
   exact hinv.aez key cells bk Na O9 (n*j.size+q) ai)
  simp only[aiI]at r3 r5
  rw[ZW _ w' (nA (w':=w') Km Gu Ly if1 n5 af1 hroom (by
   rcases hoo with h0|rfl
   ·have:news.length=0:=by rw[VJ,show b9.length=0 from by omega];simp
    rw[List.length_eq_zero_iff.1 this]at r1 ⊢
    cases oo
    ·simpa[storeCells,eq_comm]using r1
    ·simpa[storeCells]using r1
   ·simp only[Addr.add_lit,Tu]
    rw[ahr];exact r1))]
  rw[Oper.upon_value]
  have gP:cy g.G (bD (rows++b9)) (olds++news):=by rw[eg];exact gD m1 n1
  have hcw:cC w' g bk 0 (aq (rows++b9)):=by
   apply cC.mm
   intro q c hq
   obtain⟨l1,l2⟩:=cn.get (sD gP)
   obtain⟨u,e1,e2⟩:=l2 q c hq
   rw[ajO]at hone
   simp only[ahr]
   refine⟨⟨u,?_,e2,hone c (acm hq)⟩,?_⟩
   ·by_cases hql:q<olds.length
    ·rw[akq hql]at e1
     rw[r3 bk q (by right;left;omega)]
     have:=mv q u e1
     rwa[ahr]at this
    ·rw[akk ai]at e1
     have:=r5 (q-olds.length) u e1
     rwa[show n*j.size+(q-olds.length)=q from by omega]at this
   ·rw[r4]
    have alp:q<(olds++news).length:=(List.getElem?_eq_some_iff.1 e1).1
    rw[acg]at alp
    exact(hinv.room key cells bk Na O9 q).2
  obtain⟨i1,i2,i3⟩:=adp hinv Na O9 Z0 kV r2 (λb' o' h=>r3 b' o' (.inl h)) r4 hcw (by
   intro q hq
   obtain⟨⟨u,q1⟩,_⟩:=hinv.aez key cells bk Na O9 q hq
   by_cases hin:n*j.size<=q/\q<n*j.size+news.length
   ·obtain⟨v,hv⟩:∃v,news[q-n*j.size]?=some v:=⟨_,ahl ai⟩
    have:=r5 _ v hv
    rw[show n*j.size+(q-n*j.size)=q from by omega]at this
    exact⟨v,this⟩
   ·exact⟨u,by rw[r3 bk q (by right;omega)];exact q1⟩)
  refine hnext _ _ _ ?_ i1 i2 i3
  simp only[aX]
  refine⟨bk,cap,oo,cS,?_,?_,?_,hoo⟩
  ·simp[hn]
  ·simp only[acg];omega
  ·simp only[if_pos];exact agk
 ·have hg:cap<n+b9.length:=by omega
  have hbd:(n+b9.length)*inf.bytes<=140737488355328:=by rw[if3,hn];exact hbound
  rw[ZW _ _ (qg Km Gu Ly if1 z1 n5 (by rw[Tu];exact n4') (by rw[Tu];exact m4) hg ai hbd)]
  rw[Oper.upon_value]
  have hge:=grownCap_ge w (n+b9.length) cap e
  generalize grownCap w (n+b9.length) cap e=nc at hge ⊢
  have yA:(olds.toArray++news'.toArray++Builtin.zeroCells z.cells (nc-(n+b9.length))).size=nc*j.size:=by
   simp only[ajr,aiS,size_zeroCells,Xe,Xk,z3,<- ajM]
   congr 1;omega
  obtain⟨e1,e2⟩:=VM hinv
  have gP:cy g.G (bD (rows++b9)) (olds++news'):=by rw[eg];exact gD m1 n1'
  have alq:(bD (rows++b9)).length=(olds++news').length:=(cy.get gP).1
  have hrc:cn g (aq (rows++b9)) ((olds.toArray++news'.toArray++Builtin.zeroCells z.cells (nc-(n+b9.length))).toList.take (aq (rows++b9)).length):=by
   rw[ahY,alq]
   simp only[aiu]
   rw[List.take_left']
   ·exact sD gP
   ·simp
  obtain⟨i1,i2,i3,i4⟩:=M9 (t:=e) e1 Z0 kV hrc hone
  obtain⟨i5,i6⟩:=TB i1 key
  refine hnext _ _ _ ?_ i5 ((e2.trans i2).trans i6) i3
  simp only[aX]
  refine⟨w.heap.size,nc,some ⟨w.heap.size,0,none⟩,cS,?_,?_,?_,.inr Z⟩
  ·simp[hn]
  ·simp only[acg];omega
  ·simp only[if_pos,yA];omega
def bR.kZ(hX:cI P X){o}{env:Env}{σ}{t:TypeId}{x ix}(ho:o.op = .indexAddr t x ix){i j e}(hi:X.ti t=some i)(hk:i.kind = .slice e)(hj:X.ti e=some j)
  {key off s n}(ha:aJ X env x=some (.iI key off s n))(hs:j.size=s){k z}(hz:aJ X env ix=some (.c (.int k z))){m:Nat}(hm:z=m)(hlt:m<n) :
  bR P X o env σ (.ptr key (off+m*s)) (λσ=>σ) ⟨[],[]⟩:=by
 refine bR.val λdx w g act h1 jH cB dI=>?_
 have Bg:aJ X dx x=some (.iI key off s n):=by rw[h1 x lf];exact ha
 have J2:aJ X dx ix=some (.c (.int k z)):=by rw[h1 ix lf];exact hz
 have r1:=cz (a:=act) dI cB Bg
 obtain⟨b,cap,oo,O9,e1,hcap,_,hoo⟩:=r1
 have e4:=zg (cz (a:=act) dI cB J2)
 obtain⟨d,kV,jS,_⟩:=hX.run_underlying (w:=w) hi
 rw[hk]at jS;subst jS
 have hoff:oo=some ⟨b,off,none⟩:=by rcases hoo with h|h;omega;exact h
 subst hoff
 refine⟨.pointer (some ⟨b,off+m*j.size,none⟩),?_,by simp only[aX];exact⟨b,O9,by rw[hs]⟩⟩
 obtain⟨dst,op,type,pos,after,guard⟩:=o
 subst ho
 simp[execOp,e1,e4,hm,Instr.indexAt,asIntOf,kV,hlt,hX.run_sizeOf hj,Addr.add_lit]
def bR.sliceB(hX:cI P X){o}{env:Env}{σ}{t:TypeId}{x lo hi'}(ho:o.op = .slice t x lo hi' none){i j e}(hi:X.ti t=some i)(hk:i.kind = .slice e)(hj:X.ti e=some j)
  {key off s n}(ha:aJ X env x=some (.iI key off s n))(hs:j.size=s){l h}(hl:bound (aJ X env) lo=some l)(hh:bound (aJ X env) hi'=some h)(h1:h.getD n<=n)(h2:l.getD 0<=h.getD n) :
  bR P X o env σ (.iI key (off+l.getD 0*s) s (h.getD n-l.getD 0)) (λσ=>σ) ⟨[],[]⟩:=by
 refine bR.val λdx w g act hc jH cB dI=>?_
 have Bg:aJ X dx x=some (.iI key off s n):=by rw[hc x lf];exact ha
 have hl':bound (aJ X dx) lo=some l:=by
  rw[mS lo (λy hy=>hc y (by rw[ho];subst hy;simp[Op.operands]))];exact hl
 have hh':bound (aJ X dx) hi'=some h:=by
  rw[mS hi' (λy hy=>hc y (by rw[ho];subst hy;simp[Op.operands]))];exact hh
 have r1:=cz (a:=act) dI cB Bg
 obtain⟨b,cap,oo,O9,e1,hcap,hrm,hoo⟩:=r1
 have b1:=qT (g:=g) (ev:=act.eval) (λx v hx=>cz dI cB hx) hl'
 have b2:=qT (g:=g) (ev:=act.eval) (λx v hx=>cz dI cB hx) hh'
 have hb:∀w,(Instr.sliceBounds true n cap (lo.map act.eval) (hi'.map act.eval) none).run P w = .ok (l.getD 0,h.getD n,cap) w:=by
  intro w
  cases l with
  |none =>
   cases h with
   |none=>exact mA true b2 b1
   |some h=>exact oq true b2 b1 (aiq h1 hcap)
  |some l =>
   cases h with
   |none=>exact mz true b2 b1 VK
   |some h=>exact o9 true b2 b1 (aiq h1 hcap) VK
 refine⟨.slice (if cap=l.getD 0 then oo else oo.map (·.add (l.getD 0*j.size))) (h.getD n-l.getD 0) (cap-l.getD 0),?_,?_⟩
 ·obtain⟨dst,op,type,pos,after,guard⟩:=o
  subst ho
  have:=iU (w:=w) hX hi hk hj (base:=oo) hb
  simp[execOp,e1,this]
 ·simp only[aX]
  generalize l.getD 0=Ll at *
  generalize h.getD n=H at *
  have hmul:off+Ll*s+(cap-Ll)*s=off+cap*s:=by
   rw[akf,<- ajM];congr 2;omega
  by_cases kO:cap=Ll
  ·grind
  ·refine⟨b,cap-Ll,oo.map (·.add (Ll*j.size)),O9,by rw[if_neg kO],ai,ai,.inr ?_⟩
   rcases hoo with h0|h0
   ·omega
   ·rw[h0,aki,Addr.add_lit,hs]
end
def Lz{G s}:∀{U Y},jF s U->cy G U Y->cy G (bD U) (flat s Y)/\(bD U).all CV.one
 |[],Y,_,h=>by simp only[cy]at h;subst h;simp[bD,flat,cy]
 |r::U,Y,S,h=>by
  obtain⟨u,us,rfl,O,N⟩:=h;obtain⟨T,M,I⟩:=uU (qD S r cS) O;have W:jF s U:=by simp only[jF]at S;grind
  obtain⟨P,V⟩:=Lz W N;exact⟨by simp_all;exact gD M P,by simp only[bD,ajJ,I,V];rfl⟩
section
variable {P:Program}{X:Ctx}{ops:tal}{o:Oper}{rest:L Oper}{env:Env}{acc:L Fp}{Q:Env->St->L Fp->Prop}{bs:tab}{ts:tad}{us:Ω}{σ:St}
def ag.kZ(hX:cI P X)(kn)(hg:cZ ops.toList kn env o=some true){t x ix}(ho:o.op = .indexAddr t x ix){d:Nat}(hd:o.dst=some d){i j e}(hi:X.ti t=some i)(hk:i.kind = .slice e)(hj:X.ti e=some j)
  {key off s n}(ha:aJ X env x=some (.iI key off s n))(hs:j.size=s){k0 z}(hz:aJ X env ix=some (.c (.int k0 z)))(m:Nat)(hm:z=m)(hlt:m<n)
  (k:ag P X ops rest ((d,.ptr key (off+m*s))::env) σ (⟨[],[]⟩::acc) Q):ag P X ops (o::rest) env σ acc Q :=
 ag.step (dA hg) (bR.kZ hX ho hi hk hj ha hs hz hm hlt) (jf.id _) zw
def ag.sliceB(hX:cI P X)(kn)(q:cZ ops.toList kn env o=some true){t x D N}(Y:o.op = .slice t x D N none){d:Nat}(A:o.dst=some d){i j e}(H:X.ti t=some i)(I:i.kind = .slice e)(G:X.ti e=some j)
  {K U s n}(W:aJ X env x=some (.iI K U s n))(V:j.size=s){l h}(E:bound (aJ X env) D=some l)(p:bound (aJ X env) N=some h)(T:h.getD n<=n)(S:l.getD 0<=h.getD n)
  (k:ag P X ops rest ((d,.iI K (U+l.getD 0*s) s (h.getD n-l.getD 0))::env) σ (⟨[],[]⟩::acc) Q):ag P X ops (o::rest) env σ acc Q :=
 ag.step (dA q) (bR.sliceB hX Y H I G W V E p T S) (jf.id _) ob
def ag.dy(hX:cI P X)(kn)(N:cZ ops.toList kn env o=some true){t x}(V:o.op = .load t x){d:Nat}(A:o.dst=some d){i}(H:X.ti t=some i){K S}(O:aJ X env x=some (.ptr K S))
  {cells r:Φ}(U:au K bs=some cells)(T:eB S cells=some r){v}(u:mK i r=some v)
  (k:ag P X ops rest ((d,v)::env) ⟨bs,ts,us⟩ (⟨[K],[]⟩::acc) Q):ag P X ops (o::rest) env ⟨bs,ts,us⟩ acc Q:=by
 have Y:gX X bs (aJ X env) o.op=some v:=by rw[V];simp only[gX,H,O,U,T,u]
 have:=ag.step (Q:=Q) (rest:=rest) (acc:=acc) (dA N) (bR.pure (σ:=⟨bs,ts,us⟩) hX Y) (jf.id _);rw[A,V]at this;have W:nX (aJ X env) (.load t x)=[K]:=by simp only[nX,O]
 rw[W]at this;exact this k
def ag.xg(hX:cI P X)(kn)(N:cZ ops.toList kn env o=some true){args T}(M:o.op = .call {callee := .builtin .append,args:=args,argTypes:=T})
  {x y}(C:args.toList=[x,y]){t t1:Nat}(J:T.toList=[t,t1]){d:Nat}(A:o.dst=some d)(I:Nat.blt d 1000000)
  {i j O e}(E:X.ti t=some i)(D:i.kind = .slice e)(B:X.ti e=some j){q}(r:j.zero=some q)(u:X.ti t1=some O)(a:nB O.kind)
  {s}{F:Ψ}(ha:aJ X env x=some (.own .exact s F)){b}(hb:aJ X env y=some b){H b9}(W:pn b=some (H,b9))
  {sz}(p:j.size=sz)(hs:iu s sz F)(uq:iu H sz b9)(K:b9≠[])(hu:mem d us=false){V}(U:j.bytes=V)(S:Nat.ble 1 V)(Y:(F.length+b9.length)*V<=140737488355328)
  {z}(G:F++b9=z){m}(hm:z.length=m)
  (k:ag P X ops rest ((d,.iI d 0 sz m)::env) ⟨(d,aq z)::bs,ts,d::us⟩ (⟨[],[d]⟩::acc) Q):ag P X ops (o::rest) env ⟨bs,ts,us⟩ acc Q:=by
 subst p U G hm;exact ag.step (dA N) (bR.xg (σ:=⟨bs,ts,us⟩) hX M C J (Nat.blt_eq.mp I) E D B r u a ha hb W hs uq K hu S Y) (tL d _) ob
def ag.od(hX:cI P X)(kn)(q:cZ ops.toList kn env o=some true){args T}(J:o.op = .call {callee := .builtin .append,args:=args,argTypes:=T})
  {a y}(C:args.toList=[a,y]){t t1:Nat}(I:T.toList=[t,t1]){d:Nat}(A:o.dst=some d)(E:Nat.blt d 1000000)
  {i j M e}(D:X.ti t=some i)(B:i.kind = .slice e)(hj:X.ti e=some j){za}(hz:j.zero=some za)(u:X.ti t1=some M)(rZ:nB M.kind)
  {sz}(p:j.size=sz){K n}(ha:aJ X env a=some (.iI K 0 sz n)){cells}(Ea:au K bs=some cells)(F)(z)(kF:cells=aq F++z)(hn:n=F.length)(U:(bD F).length=n*sz)
  {b}(hb:aJ X env y=some b){H b9}(W:pn b=some (H,b9))
  (uq:iu H sz b9)(hu:mem d us=false)(V:Nat.beq d K=false){S}(O:j.bytes=S)(N:Nat.ble 1 S)(Y:(F.length+b9.length)*S<=140737488355328)
  {r}(G:F++b9=r){m}(hm:r.length=m){x}(jN:Gs K bs=x)
  (k:ag P X ops rest ((d,.iI d 0 sz m)::env) ⟨(d,aq r)::x,ts,d::us⟩ (⟨[],[d,K]⟩::acc) Q):ag P X ops (o::rest) env ⟨bs,ts,us⟩ acc Q:=by
 subst p O G hm jN
 refine ag.step (dA q) (bR.od (σ:=⟨bs,ts,us⟩) hX J C I (Nat.blt_eq.mp E) D B hj hz u rZ ha Ea kF hn U hb W uq hu N Y) (QE d K _ (beq_false V)) (by
  rw[A];have:((⟨bs,ts,us⟩:St).fA d (aq (F++b9))).fW K=⟨(d,aq (F++b9))::Gs K bs,ts,d::us⟩:=by simp only[St.fW,St.fA,Gs,V]
  rw[this];exact k)
end
section
variable {P:Program}{X:Ctx}
def bR.ku(hX:cI P X){o}{env:Env}{σ}{t:TypeId}{W:Nat}{Y}(S:o.op = .buildSlice t W Y){d}(kV:d<1000000)(hu:mem d σ.used=false)
  {i j e}(hi:X.ti t=some i)(hk:i.kind = .slice e)(M:X.ti e=some j){za}(hz:j.zero=some za){F}(K:kr (aJ X env) 0 Y.toList=some F)
  (hl:Nat.beq F.length W)(hs:jF j.size F)(hb:Nat.ble (W*j.size) 16777216) :
  bR P X o env σ (.iI d 0 j.size W) (λσ=>σ.fA d (aq F)) ⟨[],[d]⟩:=by
 intro dx J w g H next Q h1 h2 E cB dI D;have Gm:kr (aJ X dx) 0 Y.toList=some F:=by rw[tQ _ _ (λp K=>h1 p.2 (by rw[S];simp only[Op.operands,alu];exact⟨p,K,Z⟩))];exact K
 obtain⟨B,c2⟩:=zN (g:=g) (ev:=H.eval) (λx v I=>cz dI cB I) Gm;have T:=beq_true hl;have τ:j.size≠0:=by obtain⟨_,_,_,_,_,_,hh⟩:=hX.ti e j M;exact hh
 obtain⟨dd,Gu,A,_⟩:=hX.run_underlying (w:=w) hi;rw[hk]at A;simp only[jX]at A;subst A;obtain⟨z,z1,z2,z3⟩:=hX.nW (w:=w) M hz;have G:∀v∈(Y.toList.map λp=>H.eval p.2),v.cells.size=j.size:=by
  intro v hv;obtain⟨m,hm⟩:=ajQ hv;obtain⟨l1,l2⟩:=cy.get B;have U:m<F.length:=by rw[l1];exact(List.getElem?_eq_some_iff.1 hm).1
  obtain⟨u,y,e2⟩:=l2 m F[m] (by simp[U]);rw[hm]at y;simp at y;subst y;obtain⟨a1,a2,_⟩:=uU (qD hs F[m] (akF U)) e2;have:=(cy.get a2).1;simp at this;omega
 have N:(Y.toList.map λp=>H.eval p.2).length=W:=by rw[<- (cy.get B).1];exact T
 obtain⟨V,r1,r2,r3⟩:=EC j.size (Y.toList.map λp=>H.eval p.2) 0 ((Array.range (W*j.size)).map (z.cells[· % z.cells.size]!)) G (by simp at N ⊢;rw[N];exact acd _);have C:(execOp H.eval o).run P w = .ok (.value (.slice (some ⟨w.heap.size,0,none⟩) W W)) {w with heap:=w.heap.push (.cells V e)}:=by
  obtain⟨π,op,υ,pos,ω,guard⟩:=o;simp only at S;subst S;have Ew:¬(2^24<W*j.size):=by have:=ahw hb;omega
  have Qv:∀zc:Array Value,(Array.range (W*j.size)).map (λx=>zc[x%zc.size]!)=(Array.range (W*j.size)).map (λx=>z.cells[x%z.cells.size]!) ->
    Instr.fill (λi=>some (i*j.size,j.size)) ((Array.range (W*j.size)).map (λx=>zc[x%zc.size]!)) (Y.map λx=>(x.1,H.eval x.2)).toList=some V:=by
   intro zc q2;rw[q2,ajp];have ψ:(Y.toList.map λx=>(x.1,H.eval x.2))=_:=c2;rw[ψ];exact r1
  simp only[execOp,Instr.buildSlice,Sem.run_bind,Gu,Result.andThen_ok,hX.run_sizeOf M];rw[if_neg (by simpa using Ew)];by_cases h0:W*j.size=0;rw[if_pos h0];simp only[Sem.run_bind,Sem.run_pure,Result.andThen_ok];rw[Qv #[] (by rw[h0];simp)];simp[newRow];rw[if_neg h0];simp only[Sem.run_bind,Sem.run_pure,Result.andThen_ok,z1];rw[Qv z.cells rfl];simp[newRow]
 unfold Oper.wp;rw[C,Oper.upon_value];have Z0:d ∉ J.used:=λh=>cX hu ((h2 d (.inr cS)).2.2.1 h);obtain⟨f1,f2⟩:=Lz hs B;have ο:(flat j.size (Y.toList.map λp=>H.eval p.2)).length=W*j.size:=by
  have:∀l:L Value,(∀v∈l,v.cells.size=j.size)->(flat j.size l).length=l.length*j.size:=by
   intro l
   induction l with
   |nil=>intro _;simp[flat]
   |cons v l ih =>
    intro h;simp only[flat,acg,ih (λx I=>h x (by simp[I])),aat,akY];have:=h v cS;simp;omega
  rw[this _ G,N]
 have χ:V.size=W*j.size:=by rw[r2];simp
 have O:V.toList=flat j.size (Y.toList.map λp=>H.eval p.2):=by apply List.ext_getElem?;intro q;have:=r3 q;simp only[Nat.zero_mul,ahr,Nat.sub_zero,ahp,true_and]at this;rw[Array.getElem?_toList,this];by_cases hq:q<(flat j.size (Y.toList.map λp=>H.eval p.2)).length;rw[if_pos hq];simp_all
 obtain⟨i1,i2,i3,i4⟩:=Tp (us:=V) (t:=e) (cells:=aq F) E Z0 kV (by rw[O];exact sD f1) (by rw[wP];exact f2);refine D _ _ _ ?_ i1 i2 i3;simp only[aX];exact⟨w.heap.size,W,some ⟨w.heap.size,0,none⟩,cS,Z,acd _,by simp only[if_pos,χ];omega,.inr Z⟩
end
section
variable {P:Program}{X:Ctx}{ops:tal}{o:Oper}{rest:L Oper}{env:Env}{acc:L Fp}{Q:Env->St->L Fp->Prop}{bs:tab}{ts:tad}{us:Ω}
def ag.ku(hX:cI P X)(kn)(hg:cZ ops.toList kn env o=some true){t len parts}(ho:o.op = .buildSlice t len parts){d:Nat}(hd:o.dst=some d)(kV:Nat.blt d 1000000)(hu:mem d us=false)
  {i j e}(hi:X.ti t=some i)(hk:i.kind = .slice e)(hj:X.ti e=some j){za}(hz:j.zero=some za){rows}(hp:kr (aJ X env) 0 parts.toList=some rows)
  (hl:Nat.beq rows.length len){s}(hsz:j.size=s)(hs:jF s rows)(hb:Nat.ble (len*s) 16777216)
  (k:ag P X ops rest ((d,.iI d 0 s len)::env) ⟨(d,aq rows)::bs,ts,d::us⟩ (⟨[],[d]⟩::acc) Q):ag P X ops (o::rest) env ⟨bs,ts,us⟩ acc Q:=by
 subst hsz
 exact ag.step (dA hg) (bR.ku (σ:=⟨bs,ts,us⟩) hX ho (Nat.blt_eq.mp kV) hu hi hk hj hz hp hl hs hb) (tL d _) zw
end
end Go.cE
