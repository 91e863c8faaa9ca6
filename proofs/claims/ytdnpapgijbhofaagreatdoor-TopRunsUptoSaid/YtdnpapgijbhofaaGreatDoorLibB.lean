/- A layer of abstract values over the model, part B: -/
import Derived.Test.YtdnpapgijbhofaaGreatDoorLibA
import Derived.RowKit
import Derived.ReadAgain
import Derived.JoinedOf
set_option linter.defProp false
set_option linter.unusedSimpArgs false
set_option linter.unusedVariables false
namespace Go.cw
def vT{ops:Array Oper}{Y:L Fp}(h:rS ops Y=true){i:Nat}{o:Oper}(T:ops[i]?=some o):∀e∈qa o,e<i:=by
 have U:i<ops.size:=by grind
 simp only[rS]at h;simp_all
def N3{ops:Array Oper}{Y:L Fp}(h:rS ops Y=true){i j:Nat}(U:i<ops.size)(W:j<i) :
  ((XL ops).getD i 0).testBit j=true\/indep ops j i (Y.getD j ⟨[],[]⟩) (Y.getD i ⟨[],[]⟩)=true:=by
 simp only[rS]at h;simp_all
def JH{ops:Array Oper}{i j:Nat}{o:Oper}(T:ops[i]?=some o)(h:((XL ops).getD i 0).testBit j=true) :
  ∃e∈qa o,e=j\/((XL ops).getD e 0).testBit j=true:=by
 have U:i<ops.size:=by grind
 obtain⟨e,h1,h2⟩:=GA (ops.toList.map qa) [] i cc (by simpa using U) j h;refine⟨e,?_,h2⟩;simp_all
def N4{ops:Array Oper}{P:L Fp}(I:rS ops P=true){Y:Array Bool}
  (E:∀i o,Y.getD i false=true->ops[i]?=some o->∀e∈qa o,Y.getD e false=true) :
  ∀(n i:Nat),i<=n->∀o,ops[i]?=some o->(∀e∈qa o,Y.getD e false=true)->∀j,((XL ops).getD i 0).testBit j=true->Y.getD j false=true:=by
 intro n
 induction n with
 |zero =>
  intro i S o T O j V;obtain⟨e,h1,h2⟩:=JH T V;have:=vT I T e h1;omega
 |succ n N =>
  intro i S o T O j V;obtain⟨e,h1,h2⟩:=JH T V;rcases h2 with rfl|h2
  simp_all;have G:=vT I T e h1;have U:=O e h1;cases W:ops[e]? with
  |none =>
   have S:i<ops.size:=(by grind);rw[Array.getElem?_eq_none_iff]at W;omega
  |some Q=>exact N e ai Q W (E e Q U W) j h2
def C9{ops:Array Oper}{Y:Array Bool}{i:Nat}:i∈Region.ready .any ops Y ↔
  i<ops.size/\Y.getD i true=false/\∃o,ops[i]?=some o/\∀e∈qa o,Y.getD e false=true:=by
 unfold Region.ready;simp only[List.mem_filter,List.mem_range,aaN,aio];constructor
 ·rintro⟨h1,h2,K⟩;refine⟨h1,h2,?_⟩;cases T:ops[i]? with
  |none=>rw[T]at K;simp at K
  |some o =>
   refine⟨o,Z,?_⟩;rw[T]at K;simp only[ahK,ahY,Array.all_eq_true']at K;intro e O;simp only[qa]at O;grind
 rintro⟨h1,h2,o,T,K⟩;refine⟨h1,h2,?_⟩;rw[T];simp only[ahK,ahY,Array.all_eq_true'];intro W V;by_cases U:Region.binds .any W;have:=K W.on (List.mem_filterMap.2 ⟨W,adZ,by simp[U]⟩);simp[this];grind
def xe.any{P:Program}{X:Ctx}{β:kz}{n:Nat}{ops:Array Oper}(hd:tW ops n=true){Iy:L Fp}(hok:rS ops Iy=true){Q:Exit->Act->World->Prop} :
  ∀(r:L (Nat×It))(listed:Array Bool),listed.size=ops.size ->
   (∀i,i∈r.map (·.1)↔i<ops.size/\listed.getD i true=false)->(r.map (·.1)).Pairwise (· < ·) ->
   (∀x∈r,x.2.fp=Iy.getD x.1 ⟨[],[]⟩) ->
   (∀i o,listed.getD i false=true->ops[i]?=some o->∀e∈qa o,listed.getD e false=true) ->
   ∀{env env':Env}{σ σ':St},xe P X ops r env σ env' σ'->∀{g:Gh}{w:World}{a:Act},Live X β n env σ g w a ->
   (∀g' w' a',Live X β n env' σ' g' w' a'->Q .normal a' w')->wpAny P .any ops Q r.length listed a w:=by
 intro r
 generalize hlen:r.length=len
 induction len generalizing r with
 |zero =>
  intro listed hsz hmem wQ hfp lM env env' σ σ' hO g w a hL hQ
  have:r=[]:=agZ hlen
  subst this
  obtain⟨rfl,rfl⟩:=hO
  refine⟨?_,hQ g w a hL⟩
  apply List.eq_nil_iff_forall_not_mem.2
  intro i hi
  obtain⟨h1,h2,_⟩:=C9.1 hi
  have:=(hmem i).2 ⟨h1,h2⟩
  simp at this
 |succ len ih =>
  intro listed hsz hmem wQ hfp lM env env' σ σ' hO g w a hL hQ
  refine⟨λadu=>?_,λi hi=>?_⟩
  ·exfalso
   cases r with
   |nil=>simp at hlen
   |cons x r =>
    obtain⟨i,it⟩:=x
    have hm:=(hmem i).1 cc
    have ho:∃o,ops[i]?=some o:=⟨ops[i]'hm.1,cc⟩
    obtain⟨o,ho⟩:=ho
    have:i∈Region.ready .any ops listed:=by
     refine C9.2 ⟨hm.1,hm.2,o,ho,λe he=>?_⟩
     have hlt:=vT hok ho e he
     cases hle:listed.getD e true with
     |true =>
      have:e<listed.size:=by omega
      simpa[this]using hle
     |false =>
      have:=(hmem e).2 ⟨ai,hle⟩
      simp only[aeX,afp]at this
      rcases this with h|h
      ·omega
      ·simp only[aeX,ail]at wQ
       have:=wQ.1 e h
       omega
    rw[adu]at this
    simp at this
  ·obtain⟨h1,h2,o,ho,h3⟩:=C9.1 hi
   have hm:=(hmem i).2 ⟨h1,h2⟩
   obtain⟨⟨i',it⟩,hx,rfl⟩:=List.mem_map.1 hm
   simp only at *
   obtain⟨p,q,rfl⟩:=List.append_of_mem hx
   have hidx:∀x∈p,x.1<i':=by
    intro x hxp
    simp only[afa,ahA]at wQ
    exact wQ.2.2 x.1 (List.mem_map_of_mem hxp) i' cc
   have ah3:∀x∈p,indep ops x.1 i' x.2.fp it.fp=true:=by
    intro x hxp
    have hlt:=hidx x hxp
    rcases N3 hok h1 hlt with hb|hb
    ·exfalso
     have:=N4 hok lM i' i' (aaV _) o ho h3 x.1 hb
     have hm2:=(hmem x.1).1 (by simp;exact .inl ⟨x.2,hxp⟩)
     have ah4:x.1<listed.size:=by omega
     simp[ah4]at this hm2
     rw[this]at hm2;simp at hm2
    ·rw[hfp x (by simp[hxp]),hfp (i',it) cc];exact hb
   obtain⟨e1,s1,e2,s2,g1,g2,g3⟩:=xe.front ah3 hO
   refine g1.wp hd hL λg' w' a' hL'=>?_
   have afs:∀k,(listed.setIfInBounds i' true).getD k true=if k=i' then true else listed.getD k true:=by
    intro k
    simp only[agA,aiu]
    by_cases hk:i'=k
    ·subst hk;simp[hsz,h1]
    ·rw[if_neg hk,if_neg (λe=>hk e.symm)]
   have adv:∀k,(listed.setIfInBounds i' true).getD k false=if k=i' then true else listed.getD k false:=by
    intro k
    simp only[agA,aiu]
    by_cases hk:i'=k
    ·subst hk;simp[hsz,h1]
    ·rw[if_neg hk,if_neg (λe=>hk e.symm)]
   have ZI:i' ∉ (p++q).map (·.1):=by
    intro h
    simp only[afa,aeK]at h
    simp only[afa,aeX,ahA,ail]at wQ
    rcases h with h|h
    ·have:=wQ.2.2 i' h i' cc;omega
    ·have:=wQ.2.1.1 i' h;omega
   refine ih (p++q) (by simp at hlen ⊢;omega) _ (by simpa using hsz) ?_ ?_ ?_ ?_ g2 hL' ?_
   ·intro k
    rw[afs]
    have hk:=hmem k
    simp only[afa,aeX,aeK,afp]at hk ⊢
    by_cases hki:k=i'
    ·subst hki
     simp only[afa,aeK]at ZI
     exact⟨λh=>absurd h ZI,λh=>by simp at h⟩
    ·simp only[hki,false_or,agL]at hk ⊢
     exact hk
   ·simp only[afa,aeX,ahA,ail]at wQ ⊢
    exact⟨wQ.1,wQ.2.1.2,λa ha b hb=>wQ.2.2 a ha b (by simp[hb])⟩
   ·intro x SU
    exact hfp x (by simp at SU ⊢;rcases SU with h|h<;>simp[h])
   ·intro k ok sW hk2 e he
    rw[adv]at sW ⊢
    by_cases Wd:e=i'
    ·simp[Wd]
    ·rw[if_neg Wd]
     by_cases hki:k=i'
     ·subst hki
      rw[ho]at hk2;simp at hk2;subst hk2
      exact h3 e he
     ·rw[if_neg hki]at sW
      exact lM k ok sW hk2 e he
   ·intro AO w'' a'' ah5
    exact hQ AO w'' a'' (ah5.ext ⟨λt=>(g3.1 t).symm,λk=>(g3.2 k).symm⟩)
def nk(ρ:Operand->Option AV):Op->L Nat
 |.load _ x=>match ρ x with
  |some (.ptr k _)=>[k]
  |_=>[]
 |_=>[]
def yc{X:Ctx}{ρ Y:Operand->Option AV}(B:L (Nat×Nat)):∀(A:L (Nat×Operand))(cells:L AV),(∀p∈A,Y p.2=ρ p.2) ->
  sY X Y B A cells=sY X ρ B A cells
 |[],_,_=>rfl
 |(i,x)::rest,cells,h=>by simp only[sY];have W:=λc=>yc (X:=X) B rest c (λp S=>h p (by simp[S]));simp_all
def kS{ρ Lf:Operand->Option AV}:∀(l:L Operand),(∀x∈l,Lf x=ρ x)->gU Lf l=gU ρ l
 |[],_=>rfl
 |x::l,h=>by
  simp only[gU,h x cc,kS l (λy hy=>h y (by simp[hy]))]
def mm{ρ Y:Operand->Option AV}(o:Option Operand)(h:∀x,o=some x->Y x=ρ x):bound Y o=bound ρ o:=by
 cases o with
 |none=>rfl
 |some x=>simp only[bound,h x rfl]
def N5{X:Ctx}{boxes XM:L (Nat×L AV)}{ρ Lf:Operand->Option AV}{op:Op}(h:∀x∈op.operands.toList,Lf x=ρ x)
  (hb:∀k∈nk ρ op,aq k XM=aq k boxes):gv X XM Lf op=gv X boxes ρ op:=by
 cases op with
 |move x=>exact h x j0
 |assign x=>exact h x j0
 |pick c a b=>simp only[gv,h c j0,h a j0,h b j0]
 |load t x =>
  have hx:=h x j0
  simp only[gv,hx]
  simp only[nk]at hb
  cases X.ti t with
  |none=>rfl
  |some i =>
   cases hr:ρ x with
   |none=>rfl
   |some a =>
    rw[hr]at hb
    cases a with
    |ptr k o=>simp only[hb k cc]
    |c v=>cases v<;>rfl
    |_=>rfl
 |nilCheck x=>simp only[gv,h x j0]
 |binOp op t x y yt=>simp only[gv,h x j0,h y j0]
 |unOp op t x=>simp only[gv,h x j0]
 |convert s d x=>simp only[gv,h x j0]
 |fieldAddr t x f=>simp only[gv,h x j0]
 |field t x f=>simp only[gv,h x j0]
 |indexAddr t x i=>simp only[gv,h x j0,h i j0]
 |index t x i=>simp only[gv,h x j0,h i j0]
 |extract x n=>simp only[gv,h x j0]
 |build t parts =>
  have:=λfs z=>yc (X:=X) fs parts.toList z (λp hp=>h p.2 (by
   simp only[Op.operands,aiJ];exact⟨p,hp,Z⟩))
  simp only[gv,this]
 |slice t x lo hi mx =>
  have h1:=mm lo (λy hy=>h y ac4)
  have h2:=mm hi (λy hy=>h y ac4)
  have h3:=mm mx (λy hy=>h y ac4)
  simp only[gv,h x j0,h1,h2,h3]
 |makeFunc fn first caps =>
  cases fn with
  |func f =>
   have:=kS caps.toList (λy hy=>h y (by simp only[Op.operands,afG,aeK];exact .inr hy))
   simp only[gv,this]
  |_=>rfl
 |call c =>
  obtain⟨callee,args,argTypes⟩:=c
  cases callee with
  |builtin b =>
   have hargs:∀x∈args.toList,Lf x=ρ x:=λx hx=>h x (by simpa[Op.operands,Call.operands]using hx)
   have hmap:args.toList.map Lf=args.toList.map ρ:=List.map_congr_left hargs
   cases b with
   |len =>
    simp only[gv]
    cases hl:args.toList with
    |nil=>rfl
    |cons x l =>
     rw[hl]at hargs
     have:=hargs x cc
     cases l with
     |cons y l=>rfl
     |nil =>
      cases argTypes.toList with
      |nil=>rfl
      |cons t l' =>
       cases l' with
       |nil=>simp only[this]
       |cons _ _=>rfl
   |min=>simp only[gv,hmap]
   |max=>simp only[gv,hmap]
   |_=>rfl
  |_=>rfl
 |_=>rfl
def bN.pure{P:Program}{X:Ctx}(hX:cB P X){o:Oper}{env:Env}{σ:St}{v:AV}(h:gv X σ.boxes (aG X env) o.op=some v) :
  bN P X o env σ v (λσ=>σ) ⟨nk (aG X env) o.op,[]⟩:=by
 intro M N w g a next Q h1 h2 H I O Y;have W:gv X N.boxes (aG X M) o.op=some v:=by rw[N5 h1 (λk A=>(h2 k (.inl A)).1)];exact h
 obtain⟨u,G,V⟩:=N0 (P:=P) (w:=w) (g:=g) hX H.qK (λk cs e=>by
  obtain⟨b,U,_,_,T⟩:=H.box k cs e;exact⟨b,U,T⟩) (ev:=a.eval) (λx v D=>cr O I D) W
 unfold Oper.wp;rw[G,Oper.upon_value];exact Y u w g V H (iS.refl _ _ _) (Gh.le.refl _)
def ah(P:Program)(X:Ctx)(ops:Array Oper)(rest:L Oper)(env:Env)(σ:St)(acc:L Fp)(Q:Env->St->L Fp->Prop):Prop :=
 ∀i,ops.toList.drop i=rest->∃(W:L It) (env':Env) (Y:St),W.length=rest.length/\xe P X ops ((List.range' i rest.length).zip W) env σ env' Y /\
  Q env' Y (acc.reverse++W.map It.fp)
section
variable {P : Program}{X : Ctx}{ops : Array Oper}{i : Nat}{o : Oper}{rest : L Oper}{env : Env}{σ : St}{acc : L Fp}{Q : Env -> St -> L Fp -> Prop}
def ah.nil(h:Q env σ acc.reverse):ah P X ops [] env σ acc Q :=
 λ_ _=>⟨[],env,σ,Z,⟨Z,Z⟩,oe⟩
def JI{ops:Array Oper}(h:ops.toList.drop i=o::rest):ops[i]?=some o/\ops.toList.drop (i+1)=rest:=by constructor;have:=C8 h;simpa using this;have:=aeM List.tail h;simpa using this
def ah.step{v:AV}{Bk:St->St}{fp:Fp}(hg:tr ops o env)(hs:bN P X o env σ v Bk fp)(hE:iJ Bk fp)
  (k:ah P X ops rest (BP o.dst v env) (Bk σ) (fp::acc) Q):ah P X ops (o::rest) env σ acc Q:=by
 intro i h
 obtain⟨ho,hr⟩:=JI h
 obtain⟨UR,env',σ',h1,h2,h3⟩:=k (i+1) hr
 refine⟨⟨true,v,Bk,fp⟩::UR,env',σ',ab3,?_,by simpa using h3⟩
 exact⟨_,_,⟨o,ho,Z,Z,hE,.inr ⟨Z,hg,hs⟩⟩,h2⟩
def ah.skip(hg:sj ops o env)(k:ah P X ops rest (BP o.dst (.c .undef) env) σ (⟨[],[]⟩::acc) Q):ah P X ops (o::rest) env σ acc Q:=by
 intro i h
 obtain⟨ho,hr⟩:=JI h
 obtain⟨UR,env',σ',h1,h2,h3⟩:=k (i+1) hr
 refine⟨It.skip::UR,env',σ',ab3,?_,by simpa[It.skip]using h3⟩
 exact⟨_,_,⟨o,ho,Z,Z,iJ.id _,.inl ⟨Z,hg⟩⟩,h2⟩
def simple:Op->Bool
 |.indexAddr _ _ _=>false
 |.index _ _ _=>false
 |.slice _ _ _ _ _=>false
 |.binOp .quo _ _ (.tmp _) _=>false
 |.binOp .rem _ _ (.tmp _) _=>false
 |.binOp .shl _ _ (.tmp _) _=>false
 |.binOp .shr _ _ (.tmp _) _=>false
 |_=>true
def mem(k:Nat):L Nat->Bool
 |[]=>false
 |x::l=>match Nat.beq x k with
  |true=>true
  |false=>mem k l
def cY(P:L Oper)(kn:L Nat)(env:Env)(o:Oper):Option Bool :=
 match o.guard with
 |none=>some true
 |some (j,Y)=>match mem j kn with
  |false=>none
  |true=>match nth P j with
   |none=>none
   |some W=>match W.dst with
    |none=>none
    |some d=>match aq d env with
     |some (.c (.bool b))=>match Y with
      |true=>some b
      |false=>some (!b)
     |some (.c .undef)=>some false
     |_=>none
def ah6(ks:L Nat)(acc:L Fp):L Fp:=match ks with
 |[]=>⟨[],[]⟩::acc
 |k::l=>⟨k::l,[]⟩::acc
inductive adw where
 |at(rest:List Oper) (env:Env) (acc:List Fp)
 |stuck
def z8(X:Ctx)(P:L Oper)(Y:L (Nat×L AV))(kn:L Nat):Nat->L Oper->Env->L Fp->adw
 |0,rest,env,acc => .at rest env acc
 |_+1,[],env,acc => .at [] env acc
 |n+1,o::rest,env,acc=>match simple o.op with
  |false => .at (o::rest) env acc
  |true=>match cY P kn env o with
   |none => .at (o::rest) env acc
   |some false=>match o.dst with
    |some d=>z8 X P Y kn n rest ((d,.c .undef)::env) (⟨[],[]⟩::acc)
    |none=>z8 X P Y kn n rest env (⟨[],[]⟩::acc)
   |some true=>match gv X Y (aG X env) o.op with
    |none => .at (o::rest) env acc
    |some v=>match o.dst,nk (aG X env) o.op with
     |some d,[]=>z8 X P Y kn n rest ((d,v)::env) (⟨[],[]⟩::acc)
     |some d,k::l=>z8 X P Y kn n rest ((d,v)::env) (⟨k::l,[]⟩::acc)
     |none,ks=>z8 X P Y kn n rest env (⟨ks,[]⟩::acc)
def u9{kn:L Nat}{b:Bool}(h:cY ops.toList kn env o=some b):if b then tr ops o env else sj ops o env:=by
 unfold cY at h;unfold tr sj;split at h;grind;rename_i j W G;split at h;grind;split at h;grind;rename_i V Y;split at h;grind;rename_i d I;have C:si ops j=some d:=by rw[tY]at Y;simp only[si];simp_all
 grind
def ah.run(hX:cB P X)(n:Nat)(kn:L Nat):∀{rest:L Oper}{env:Env}{acc:L Fp}{Y:L Oper}{env':Env}{W:L Fp},
  z8 X ops.toList σ.boxes kn n rest env acc = .at Y env' W->ah P X ops Y env' σ W Q->ah P X ops rest env σ acc Q:=by
 induction n with
 |zero=>intro rest env acc Y env' W h k;obtain⟨rfl,rfl,rfl⟩:=h;exact k
 |succ n U =>
  intro rest env acc Y env' W h k;cases rest with
  |nil=>simp[z8]at h;obtain⟨rfl,rfl,rfl⟩:=h;exact k
  |cons o rest =>
   have stop:adw.at (o::rest) env acc = .at Y env' W->ah P X ops (o::rest) env σ acc Q:=(by simp_all);simp only[z8]at h;split at h;simp_all;split at h;simp_all
   ·rename_i G;have:=u9 G;split at h
    ·rename_i d I;refine ah.skip this ?_;rw[I];exact U h k
    rename_i I;refine ah.skip this ?_;rw[I];exact U h k
   rename_i G;have:=u9 G;split at h;simp_all;rename_i v N;have V:ah P X ops rest (BP o.dst v env) σ (⟨nk (aG X env) o.op,[]⟩::acc) Q->ah P X ops (o::rest) env σ acc Q :=
    ah.step this (bN.pure hX N) (iJ.id _)
   split at h;rename_i d I A;rw[I,A]at V;exact V (U h k);rename_i d k' l I A;rw[I,A]at V;exact V (U h k);rename_i I;rw[I]at V;exact V (U h k)
def Jr(X:Ctx)(P:L Oper)(Y:L (Nat×L AV))(kn:L Nat)(n:Nat)(rest:L Oper)(env:Env)(acc:L Fp):adw :=
 match rest with
 |[] => .stuck
 |o::rest=>match cY P kn env o with
  |none => .stuck
  |some false=>match o.dst with
   |some d=>z8 X P Y kn n rest ((d,.c .undef)::env) (⟨[],[]⟩::acc)
   |none=>z8 X P Y kn n rest env (⟨[],[]⟩::acc)
  |some true=>match gv X Y (aG X env) o.op with
   |none => .stuck
   |some v=>match o.dst,nk (aG X env) o.op with
    |some d,[]=>z8 X P Y kn n rest ((d,v)::env) (⟨[],[]⟩::acc)
    |some d,k::l=>z8 X P Y kn n rest ((d,v)::env) (⟨k::l,[]⟩::acc)
    |none,ks=>z8 X P Y kn n rest env (⟨ks,[]⟩::acc)
def ah.Qi(hX:cB P X)(n:Nat)(kn:L Nat){env:Env}{acc:L Fp}{W:L Oper}{env':Env}{V:L Fp}
  (h:Jr X ops.toList σ.boxes kn n rest env acc = .at W env' V)(k:ah P X ops W env' σ V Q):ah P X ops rest env σ acc Q:=by
 unfold Jr at h;split at h;grind;rename_i o rest;split at h;grind
 ·rename_i G;have:=u9 G;refine ah.skip this ?_;split at h<;>rename_i I<;>rw[I]<;>exact ah.run hX n kn h k
 rename_i G;have:=u9 G;split at h;grind;rename_i v N;have Y:ah P X ops rest (BP o.dst v env) σ (⟨nk (aG X env) o.op,[]⟩::acc) Q->ah P X ops (o::rest) env σ acc Q :=
  ah.step this (bN.pure hX N) (iJ.id _)
 split at h;rename_i d I A;rw[I,A]at Y;exact Y (ah.run hX n kn h k);rename_i d k' l I A;rw[I,A]at Y;exact Y (ah.run hX n kn h k);rename_i I;rw[I]at Y;exact Y (ah.run hX n kn h k)
def Lg(Y:Option Nat):L Oper->Nat
 |[]=>1
 |o::rest=>match o.guard with
  |none=>Lg Y rest+1
  |some (j,_)=>match Y with
   |some W=>match Nat.beq j W with
    |true=>Lg Y rest+1
    |false=>0
   |none=>0
def S7:L Oper->Nat
 |[]=>0
 |o::rest=>match o.guard with
  |none=>Lg none rest
  |some (j,_)=>Lg (some j) rest
def ah.ahO(hX:cB P X)(kn:L Nat){rest:L Oper}{env:Env}{acc:L Fp}{Y:L Oper}{env':Env}{W:L Fp}
  (h:Jr X ops.toList σ.boxes kn (S7 rest) rest env acc = .at Y env' W)(k:ah P X ops Y env' σ W Q):ah P X ops rest env σ acc Q:=ah.Qi hX _ kn h k
def ah.split{j d:Nat}{Y b:Bool}(G:o.guard=some (j,Y))(C:si ops j=some d)(U:aq d env=some (.c (.bool b)))
  (h1:b=true->ah P X ops (o::rest) env σ acc Q)(h2:b=false->ah P X ops (o::rest) env σ acc Q):ah P X ops (o::rest) env σ acc Q:=by grind
end
end Go.cw
namespace Go.cw
def top(f:FuncId):Frame:={(default:Frame)with fn:=f,kind := .normal}
def AK(P:Program)(X:Ctx)(f:FuncId)(n:Nat)(β:kz)(R:Ending->World->Prop)(K:L Item)(env:Env)(σ:St):Prop :=
 ∀(g:Gh)(w:World)(a:Act)(cs:L Frame),Live X β n env σ g w a ->
  ∃e w' H,R e w'/\Comes P (lone ((top f).at a K) cs w) (lone H cs w') e/\H.fn=f/\H.leaving P w' e
section
variable {P : Program}{X : Ctx}{f : FuncId}{n : Nat}{β : kz}{R : Ending -> World -> Prop}{K : L Item}{env : Env}{σ : St}
def AK.go{W:L Item}(C:∀(a:Act)(cs:L Frame)(w:World),Steps P (lone ((top f).at a K) cs w) (lone ((top f).at a W) cs w))(h:AK P X f n β R W env σ):AK P X f n β R K env σ :=
 λg w a cs u=>let ⟨e,w',H,h1,h2,I,Y⟩:=h g w a cs u;⟨e,w',H,h1,h2.of_steps (C a cs w),I,Y⟩
def AK.seq{x y:Code}(h:AK P X f n β R (.code x :: .code y::K) env σ):AK P X f n β R (.code (.seq x y)::K) env σ :=
 AK.go (λ_ _ _ => .one step_seq) h
def AK.skip(h:AK P X f n β R K env σ):AK P X f n β R (.code .skip::K) env σ :=
 AK.go (λ_ _ _ => .one step_skip) h
def AK.block{id:Nat}{c:Code}(h:AK P X f n β R (.code c :: .inBlock id::K) env σ):AK P X f n β R (.code (.block id c)::K) env σ :=
 AK.go (λ_ _ _ => .one step_block) h
def AK.inBlock{id:Nat}(h:AK P X f n β R K env σ):AK P X f n β R (.inBlock id::K) env σ :=
 AK.go (λ_ _ _ => .one step_inBlock) h
def AK.loop{c:Code}(h:AK P X f n β R (.code c :: .inLoop c::K) env σ):AK P X f n β R (.code (.loop c)::K) env σ :=
 AK.go (λ_ _ _ => .one step_loop) h
def AK.inLoop{c:Code}(h:AK P X f n β R (.code c :: .inLoop c::K) env σ):AK P X f n β R (.inLoop c::K) env σ :=
 AK.go (λ_ _ _ => .one step_inLoop) h
def AK.exit{id:Nat}{W:L Item}(e:exitTo id K=some W)(h:AK P X f n β R W env σ):AK P X f n β R (.code (.exit id)::K) env σ :=
 AK.go (λ_ _ _ => .one (step_exit e)) h
def AK.cond{c:Operand}{x y:Code}{b:Bool}(Y:aG X env c=some (.c (.bool b)))(h:AK P X f n β R (.code (if b then x else y)::K) env σ) :
  AK P X f n β R (.code (.cond c x y)::K) env σ:=by
 intro g w a cs u;obtain⟨e,w',H,h1,h2,I,W⟩:=h g w a cs u;have:=cr u.env u.uX Y;exact⟨e,w',H,h1,h2.of_steps (.one (step_cond this)),I,W⟩
def AK.ab7{c:Operand}{x y:Code}(hc:aG X env c=some (.c (.bool true)))(h:AK P X f n β R (.code x::K) env σ) :
  AK P X f n β R (.code (.cond c x y)::K) env σ:=AK.cond hc oe
def AK.ab8{c:Operand}{x y:Code}(hc:aG X env c=some (.c (.bool false)))(h:AK P X f n β R (.code y::K) env σ) :
  AK P X f n β R (.code (.cond c x y)::K) env σ:=AK.cond hc oe
def AK.DR{c:Operand}{x y:Code}{b:Bool}(Y:aG X env c=some (.c (.bool b)))(h1:b=true->AK P X f n β R (.code x::K) env σ)
  (h2:b=false->AK P X f n β R (.code y::K) env σ):AK P X f n β R (.code (.cond c x y)::K) env σ:=by
 cases b;exact AK.ab8 Y (h2 Z);exact AK.ab7 Y (h1 Z)
def AK.region(hm:P.follows .mixedOrders=true){id:Nat}{ops:Array Oper}{draw:Bool}(hd:tW ops n=true)
  (h:ah P X ops ops.toList env σ [] (λenv' σ' Iy=>(draw=true->rS ops Iy=true)/\AK P X f n β R K env' σ')) :
  AK P X f n β R (.code (.region id ops draw)::K) env σ:=by
 obtain⟨UR,env',σ',hlen,aft,KJ,hK⟩:=h 0 cc
 intro g w a cs hL
 have hlen':UR.length=ops.size:=by simpa using hlen
 have hmap:(((List.range' 0 ops.toList.length).zip UR).map (·.1))=List.range ops.size:=by
  rw[List.map_fst_zip (by simp[hlen'])];simp[List.range_eq_range']
 have hwp:(Code.region id ops draw).wp P (λe a' w'=>e = .normal/\∃g',Live X β n env' σ' g' w' a') a w:=by
  cases draw with
  |false =>
   apply wp_region
   rw[<- hmap]
   exact xe.wp hd aft hL λg' w' a' hL'=>⟨Z,g',hL'⟩
  |true =>
   apply wp_region_any hm
   have hL2:Live X β n env σ g {w with drawn:=w.drawn+1} a :=
    ⟨⟨hL.inv.qK,λk cs e=>by
      obtain⟨b,b1,b2,b3,b4⟩:=hL.inv.box k cs e
      exact⟨b,b1,b2,b3,cx.of_same (w:=w) (w':={w with drawn:=w.drawn+1}) (λo=>⟨rfl,rfl⟩) b4⟩,
     hL.inv.gr,hL.inv.tok,hL.inv.iF,hL.inv.used,hL.inv.room⟩,hL.uX,hL.env,
     hL.frame.trans ⟨Z,Z,Z,aaV _,λ_ _ _=>rfl,λ_ _ _ _=>⟨Z,Z⟩,kE.le.refl _,λ_ _ _ h => .inl h,λk cs b h1 h2 => .inr ⟨k,cs,h1,h2⟩,
      λk n b lo hi h1 h2 => .inr ⟨k,n,lo,hi,h1,h2,aaV _,aaV _⟩,λ_ _ h=>⟨h,Z,Z⟩⟩,hL.size,hL.defers⟩
   have hl:((List.range' 0 ops.toList.length).zip UR).length=ops.size:=by simp[hlen']
   have akP:=xe.any hd (KJ Z) ((List.range' 0 ops.toList.length).zip UR) (Array.replicate ops.size false) cc ?_ ?_ ?_ ?_ aft hL2
    (Q:=λe a' w'=>e = .normal/\∃g',Live X β n env' σ' g' w' a') λg' w' a' hL'=>⟨Z,g',hL'⟩
   ·simp_all
   ·simp_all
   ·rw[hmap];exact List.pairwise_lt_range
   ·intro x hx
    obtain⟨k,hk⟩:=ahd hx
    rw[List.getElem?_zip_eq_some]at hk
    obtain⟨k1,k2⟩:=hk
    have k3:k=x.1:=by
     have hlt:k<ops.toList.length:=by
      have:=(List.getElem?_eq_some_iff.1 k1).1;simpa using this
     rw[List.getElem?_range' hlt]at k1
     simpa using k1
    subst k3
    simp[k2]
   ·intro i o hi
    exfalso
    simp only[Array.getD]at hi
    split at hi
    ·simp at hi
    ·simp at hi
 obtain⟨e,a',w',⟨rfl,g',hL'⟩,ah7⟩:=hwp (top f) K cs
 obtain⟨e,w'',fr,h1,h2,h3,h4⟩:=hK g' w' a' cs hL'
 exact⟨e,w'',fr,h1,h2.of_steps ah7,h3,h4⟩
def ah.done{ops:Array Oper}{acc:L Fp}(h:AK P X f n β R K env σ) :
  ah P X ops [] env σ acc (λenv' Y W=>(false=true->rS ops W=true)/\AK P X f n β R K env' Y) :=
 ah.nil ⟨(λh=>by simp at h),h⟩
def ah.drawn{ops:Array Oper}{acc:L Fp}(hok:rS ops acc.reverse=true)(h:AK P X f n β R K env σ) :
  ah P X ops [] env σ acc (λenv' Y W=>(true=true->rS ops W=true)/\AK P X f n β R K env' Y) :=
 ah.nil ⟨λ_=>hok,h⟩
def qT(X:Ctx)(Y:L (Nat×L AV))(env:Env):L ResultVar->Option (L AV)
 |[]=>some []
 |.tmp t::l=>match aq t env,qT X Y env l with
  |some a,some r=>some (a::r)
  |_,_=>none
 |.cell t ty::l=>match gv X Y (aG X env) (.load ty (.tmp t)),qT X Y env l with
  |some a,some r=>some (a::r)
  |_,_=>none
def kQ(X:Ctx)(Y:L (Nat×L AV))(env:Env)(rs:L ResultVar):Option AV :=
 match qT X Y env rs with
 |some [a]=>some a
 |some (a::b::l)=>some (.eF (a::b::l))
 |_=>none
def GB(V:Array Value):ResultVar->Sem Value
 |.tmp t=>pure (V.getD t undef)
 |.cell b t=>do loadVar t (<- asAddr (V.getD b undef))
def AQ(C:Func)(V:Array Value):results C V=(do
  let vs<-C.results.mapM (GB V)
  pure (if h:vs.size=1 then vs[0]else .tuple vs)):=by
 congr
def N6(Y:Addr):asAddr (.pointer (some Y))=pure Y:=rfl
def E5(hX:cB P X){g:Gh}{w:World}{a:Act}(hL:Live X β n env σ g w a):∀{rs:L ResultVar}{l:L AV},qT X σ.boxes env rs=some l ->
  ∃vs:L Value,(rs.mapM (GB a.tmps)).run P w = .ok vs w/\bW g l vs
 |[],l,h=>by simp[qT]at h;subst h;exact⟨[],cc,by simp[bW]⟩
 |.tmp t::rs,l,h=>by simp only[qT]at h;split at h;rename_i x r h1 h2;simp at h;subst h;obtain⟨vs,e1,e2⟩:=E5 hX hL h2;refine⟨a.tmps.getD t undef::vs,?_,by simp only[bW];exact⟨_,_,rfl,hL.env t x h1,e2⟩⟩;simp only[aiz,GB];simp_all;grind
 |.cell t ty::rs,l,h=>by
  simp only[qT]at h;split at h
  ·rename_i x r h1 h2;simp at h;subst h;obtain⟨vs,e1,e2⟩:=E5 hX hL h2
   obtain⟨u,r1,r2⟩:=N0 (P:=P) (w:=w) (g:=g) hX hL.inv.qK (λk cs e=>by
    obtain ⟨b, b1, _, _, b2⟩ := hL.inv.box k cs e; exact ⟨b, b1, b2⟩) (ev := a.eval) (fun x v hx => cr hL.env hL.uX hx) (o := ⟨none, .load ty (.tmp t), 0, "", #[], none⟩) h1
   simp only[execOp,Act.eval,Instr.loadAt]at r1;have r3:∃ad,a.tmps.getD t undef = .pointer (some ad)/\(loadVar ty ad).run P w = .ok u w:=by
    cases hv:a.tmps.getD t undef with
    |pointer p =>
     cases p with
     |none=>rw[hv]at r1;simp[Instr.sureAddr]at r1
     |some ad =>
      refine⟨ad,Z,?_⟩;rw[hv]at r1;simp only[Instr.sureAddr,Sem.run_bind,Sem.run_pure,Result.andThen_ok]at r1;cases hr:(loadVar ty ad).run P w with
      |ok u' w'=>rw[hr]at r1;simp at r1;obtain⟨rfl,rfl⟩:=r1;rfl
      |halt _ _=>rw[hr]at r1;simp at r1
    |_=>rw[hv]at r1;simp[Instr.sureAddr]at r1
   obtain⟨ad,r4,r5⟩:=r3;refine⟨u::vs,?_,by simp only[bW];exact⟨_,_,Z,r2,e2⟩⟩;simp only[aiz,GB,Sem.run_bind,r4,N6,Sem.run_pure,Result.andThen_ok,r5];simp only[show(List.mapM (GB a.tmps) rs).run P w = .ok vs w from e1];rfl
  simp at h
def AR(hX:cB P X){fn:Func}{g:Gh}{w:World}{a:Act}(hL:Live X β n env σ g w a){r:AV}(h:kQ X σ.boxes env fn.results.toList=some r) :
  ∃u,(results fn a.tmps).run P w = .ok u w/\aP g r u:=by
 unfold kQ at h
 have key:∀l,qT X σ.boxes env fn.results.toList=some l->∃vs:L Value,(fn.results.mapM (GB a.tmps)).run P w = .ok vs.toArray w/\bW g l vs:=by
  intro l hl
  obtain⟨vs,e1,e2⟩:=E5 hX hL hl
  refine⟨vs,?_,e2⟩
  rw[ahR]
  simp_all
 split at h
 ·rename_i x hl
  simp at h;subst h
  obtain⟨vs,e1,e2⟩:=key _ hl
  obtain⟨u,us,rfl,e3,rfl⟩:=e2
  refine⟨u,?_,e3⟩
  rw[AQ,Sem.run_bind,e1]
  simp
 ·rename_i x y l hl
  simp at h;subst h
  obtain⟨vs,e1,e2⟩:=key _ hl
  have Lh:=e2
  obtain⟨u,us,rfl,e3,u2,us2,rfl,e4,e5⟩:=Lh
  refine⟨.tuple (u::u2::us2).toArray,?_,by simp_all;exact⟨_,Z,e2,cc⟩⟩
  rw[AQ,Sem.run_bind,e1]
  simp
 ·grind
def AK.ret(hX:cB P X){C:Func}(hf:P.funcs[f]?=some C){r:AV}(B:kQ X σ.boxes env C.results.toList=some r)
  (h:∀g w u,aP g r u->Inv w g σ->qJ X g.G->iS β.w β.g β.σ w g σ->R (.returned u) w):AK P X f n β R (.code .ret::K) env σ:=by
 intro g w a cs J;obtain⟨u,h1,h2⟩:=AR hX J B;exact⟨.returned u,w,_,h g w u h2 J.inv J.uX J.frame,.one step_ret,Z,Z,J.defers,Z,C,hf,h1⟩
end
end Go.cw
namespace Go.cw
def Enters(P:Program)(f:FuncId):Prop:=∀(M:Array Value)(w:World),(callFunc f M).run P w = .ok (.enter f M) w
structure N7(w:World)(G:kE)(w':World)(G':kE):Prop where
 os:w'.os=w.os
 tape:w'.tape=w.tape
 output:w'.output=w.output
 size:w.heap.size<=w'.heap.size
 block:∀b,b<w.heap.size->w'.heap[b]?=w.heap[b]?
 le:G.le G'
 new:∀b o v,G' b o=some v->G b o=some v\/w.heap.size<=b
 qK:∀b o v,G' b o=some v->w'.cell? ⟨b,o,none⟩=some v
def aR(P:Program)(X:Ctx)(f:FuncId)(M:L CV)(r:CV):Prop :=
 Enters P f/\∀(G:kE)(w:World)(vs:L Value),(∀b o v,G b o=some v->w.cell? ⟨b,o,none⟩=some v)->qJ X G->b9 G M vs ->
  Calls P f vs.toArray w λe w'=>∃u V,e = .returned u/\Rel V r u/\N7 w G w' V
def N7.kept{w w':World}{G V:kE}(h:N7 w G w' V)(b o:Nat)(U:b<w.heap.size) :
  w'.cell? ⟨b,o,none⟩=w.cell? ⟨b,o,none⟩/\w'.frozen? ⟨b,o,none⟩=w.frozen? ⟨b,o,none⟩:=by
 have:=h.block b U;constructor;simp only[World.cell?,this];simp only[World.frozen?,this]
def aR.of{P:Program}{X:Ctx}{f:FuncId}{fn:Func}{c:Code}{args:L CV}{r:CV}(hf:P.funcs[f]?=some fn)(hb:fn.body=some c)(he:Enters P f)
  (hn:args.length<=fn.ntmps)(env:Env)(dr:env=(args.zipIdx.map λ(v,i)=>(i,AV.c v)))
  (h:∀β,β.σ=⟨[],[],[]⟩->AK P X f fn.ntmps β (λe w'=>∃u g',e = .returned u/\Rel g'.G r u/\iS β.w β.g β.σ w' g' ⟨[],[],[]⟩/\∀b o v,g'.G b o=some v->w'.cell? ⟨b,o,none⟩=some v) [.code c] env ⟨[],[],[]⟩) :
  aR P X f args r:=by
 refine⟨he,λG w vs jl cu gZ cs=>?_⟩
 let g:Gh:=⟨G,λ_=>none,λ_=>none,λ_=>0⟩
 let β:kz:=⟨w,g,⟨[],[],[]⟩⟩
 have hlen:=(b9.get gZ).1
 have hL:Live X β fn.ntmps env ⟨[],[],[]⟩ g w {tmps:=vs.toArray++Array.replicate (fn.ntmps-vs.toArray.size) undef,defers:=[]}:=by
  refine⟨⟨jl,?_,?_,?_,?_,?_,λk cs b e=>by simp[aq]at e⟩,cu,?_,iS.refl _ _ _,?_,Z⟩
  ·intro k cs e;simp[aq]at e
  ·simp_all
  ·intro k n e;simp[aq]at e
  ·simp_all
  ·grind
  ·intro t a e
   subst dr
   have key:∀(l:L CV)(us:L Value)(k:Nat),b9 G l us->aq t ((l.zipIdx k).map λ(v,i)=>(i,AV.c v))=some a->k<=t/\∃u,us[t-k]?=some u/\aP g a u:=by
    intro l
    induction l with
    |nil=>intro us k _ e;simp[aq]at e
    |cons v l ih =>
     intro us k hr e
     simp only[b9]at hr
     obtain⟨u,us,rfl,h1,h2⟩:=hr
     simp only[agR,aeX,aj]at e
     split at e
     ·rename_i ht;subst ht;simp at e;subst e
      exact⟨aaV _,u,cc,acm⟩
     ·grind
   obtain⟨_,u,h4,h5⟩:=key args vs 0 gZ e
   simp at h4
   have hlt:t<vs.length:=(List.getElem?_eq_some_iff.1 h4).1
   have:(vs.toArray++Array.replicate (fn.ntmps-vs.toArray.size) undef).getD t undef=u:=by
    rw[agA,afq (by simpa using hlt)]
    simp[h4]
   rw[this];exact h5
  ·simp;omega
 obtain⟨e,w',fr,⟨u,g',rfl,h1,h2,h3⟩,h4,h5,h6⟩:=h β rfl g w _ cs hL
 have vU:Frame.enter P f vs.toArray .normal =
   (top f).at {tmps:=vs.toArray++Array.replicate (fn.ntmps-vs.toArray.size) undef,defers:=[]} [.code c]:=by
  simp[Frame.enter,Frame.at,hf,hb,top]
 refine⟨_,w',fr,⟨u,g'.G,Z,h1,⟨h2.os,h2.tape,h2.output,h2.size,λb hb=>h2.block b hb ?_,h2.le,λb o v hv=>?_,h3⟩⟩,by rw[vU];exact h4,h5,h6⟩
 ·rintro o (⟨k,cs,e,_⟩|⟨k,n,lo,hi,e,_⟩)<;>simp[β,aq]at e
 ·rcases h2.new b o v hv with h|h|h
  ·exact .inl h
  ·exact .inr h
  ·rcases h with ⟨k,cs,e,_⟩|⟨k,n,lo,hi,e,_⟩<;>simp[β,aq]at e
section
variable {P : Program}{X : Ctx}
abbrev QR(β:kz)(r:CV):Ending->World->Prop:=λe w'=>∃u g',e = .returned u/\Rel g'.G r u/\iS β.w β.g β.σ w' g' ⟨[],[],[]⟩/\∀b o v,g'.G b o=some v->w'.cell? ⟨b,o,none⟩=some v
def iS.forget{w w':World}{g g':Gh}{σ P:St}(h:iS w g σ w' g' P):iS w g σ w' g' ⟨[],[],[]⟩ where
 os:=h.os
 tape:=h.tape
 output:=h.output
 size:=h.size
 block:=h.block
 kept:=h.kept
 le:=h.le
 new:=h.new
 boxes:=λk cs b e=>by simp[aq]at e
 toks:=λk n b J U e=>by simp[aq]at e
 ids:=λk _ e=>by simp[aq]at e
def AK.ae7(hX:cB P X){f:FuncId}{n:Nat}{β:kz}{K:L Item}{env:Env}{σ:St}{C:Func}(hf:P.funcs[f]?=some C){r:AV}{Y W:CV}
  (B:kQ X σ.boxes env C.results.toList=some r)(I:close r=some Y)(O:Y=W):AK P X f n β (QR β W) (.code .ret::K) env σ:=by
 subst O;refine AK.ret hX hf B λg w u h1 h2 U V=>?_;exact⟨u,g,Z,(uY r Y u I h1).1,V.forget,h2.qK⟩
def fO{G:kE}:∀{a b:L CV}{us vs:L Value},b9 G a us->b9 G b vs->b9 G (a++b) (us++vs)
 |[],b,us,vs,h1,h2=>by simp only[b9]at h1;subst h1;simpa using h2
 |x::a,b,us,vs,h1,h2=>by obtain⟨u,us,rfl,K,Y⟩:=h1;exact⟨u,us++vs,rfl,K,fO Y h2⟩
def GC{w w':World}{g:Gh}{σ:St}{V:kE}(U:Inv w g σ)(Y:N7 w g.G w' V) :
  Inv w' ⟨V,g.box,g.tok,g.room⟩ σ/\iS w g σ w' ⟨V,g.box,g.tok,g.room⟩ σ/\g.le ⟨V,g.box,g.tok,g.room⟩:=by
 have T:g.le ⟨V,g.box,g.tok,g.room⟩:=⟨Y.le,λ_ _ h=>h,λ_ _ _=>rfl,λk M Q h=>⟨M,Q,h,aaV _,λ_=>rfl⟩⟩;have W:∀b o,b<w.heap.size->g.G b o=none->V b o=none:=by
  intro b o q h;cases O:V b o with
  |none=>rfl
  |some v =>
   rcases Y.new b o v O with H|H
   grind;omega
 refine⟨⟨Y.qK,?_,U.gr,?_,U.iF,U.used,?_⟩,⟨Y.os,Y.tape,Y.output,Y.size,λb q _=>Y.block b q,λb o q _=>Y.kept b o q,Y.le,λb o v h=>?_,?_,?_,?_⟩,T⟩;intro k cs e;obtain⟨b,h1,h2,K,S⟩:=U.box k cs e;exact⟨b,h1,agm h2 Y.size,λo=>W b o h2 (K o),(cx.of_same (λo=>Y.kept b o h2) S).mono T⟩;intro k n e;obtain⟨Q,h1,h2⟩:=U.tok k n e;refine⟨Q,h1,λb J P B=>?_⟩;obtain⟨K,S,N⟩:=h2 b J P B;refine⟨agm K Y.size,λo I E=>?_,N⟩;obtain⟨C,⟨u,D⟩,h8⟩:=S o I E;exact⟨W b o K C,⟨u,(Y.kept b o K).1.trans D⟩,(Y.kept b o K).2.trans h8⟩;intro k cs b e q o;obtain⟨b',h1,h2,_⟩:=U.box k cs e;rw[q]at h1;cases h1;obtain⟨K,S⟩:=U.room k cs b e q o;exact⟨λA=>(K A).imp λu hu=>(Y.kept b o h2).1.trans hu,(Y.kept b o h2).2.trans S⟩;exact(Y.new b o v h).imp id .inl;grind;grind;simp_all
def bN.xS{o:Oper}{env:Env}{σ:St}{f:FuncId}{args:Array Operand}{ts:Array TypeId}(ho:o.op = .call {callee := .value (.func f),args:=args,argTypes:=ts})
  {qP:L CV}{r:CV}(ha:gU (aG X env) args.toList=some qP)(hq:aR P X f qP r):bN P X o env σ (.c r) (λσ=>σ) ⟨[],[]⟩:=by
 intro de σ1 w g a next Q h1 h2 hinv cu dr hnext
 have zY:gU (aG X de) args.toList=some qP:=by
  rw[kS _ (λx hx=>h1 x wC)];exact ha
 have gZ:=pK (g:=g) (ev:=a.eval) (λx v hx=>cr dr cu hx) zY
 have hrun:(execOp a.eval o).run P w = .ok (.enter f (args.map a.eval)) w:=by
  obtain⟨dst,op,type,pos,after,guard⟩:=o
  subst ho
  simp[execOp,resolve,Deferred.ofValue,invoke,Act.eval,hq.1 _ w]
 unfold Oper.wp
 rw[hrun,Oper.upon_enter]
 have:=hq.2 g.G w _ hinv.qK cu gZ
 rw[show(args.toList.map a.eval).toArray=args.map a.eval from by rw[<- agI]]at this
 refine this.mono ?_
 rintro e w' ⟨u,G',rfl,h3,h4⟩
 obtain⟨h5,h6,h7⟩:=GC hinv h4
 exact hnext u w' _ ad4 h5 h6 h7
def bN.M9{o:Oper}{env:Env}{σ:St}{f:FuncId}{x:Operand}{caps:L CV}{args:Array Operand}{ts:Array TypeId}(ho:o.op = .call {callee := .value x,args:=args,argTypes:=ts})
  (hx:aG X env x=some (.c (.sU f caps))){qP:L CV}{r:CV}(ha:gU (aG X env) args.toList=some qP)(hq:aR P X f (qP++caps) r) :
  bN P X o env σ (.c r) (λσ=>σ) ⟨[],[]⟩:=by
 intro de σ1 w g a next Q h1 h2 hinv cu dr hnext
 have zY:gU (aG X de) args.toList=some qP:=by
  rw[kS _ (λx hx=>h1 x wC)];exact ha
 have hx':aG X de x=some (.c (.sU f caps)):=by
  rw[h1 x XH];exact hx
 have gZ:=pK (g:=g) (ev:=a.eval) (λx v hx=>cr dr cu hx) zY
 have ah9:=cr (a:=a) dr cu hx'
 obtain⟨us,hu,afu⟩:=ah9
 have hrun:(execOp a.eval o).run P w = .ok (.enter f (args.map a.eval++us.toArray)) w:=by
  obtain⟨dst,op,type,pos,after,guard⟩:=o
  subst ho
  simp[execOp,resolve,hu,Deferred.ofValue,invoke,hq.1 _ w]
 unfold Oper.wp
 rw[hrun,Oper.upon_enter]
 have:=hq.2 g.G w _ hinv.qK cu (fO gZ afu)
 rw[show(args.toList.map a.eval++us).toArray=args.map a.eval++us.toArray from by rw[<- agI];simp]at this
 refine this.mono ?_
 rintro e w' ⟨u,G',rfl,h3,h4⟩
 obtain⟨h5,h6,h7⟩:=GC hinv h4
 exact hnext u w' _ ad4 h5 h6 h7
end
end Go.cw
namespace Go.cw
def St.eM(σ:St)(d:Nat)(cells:L AV):St:=⟨(d,cells)::σ.boxes,σ.toks,d::σ.used⟩
def sq(d:Nat)(cells:L AV):iJ (λσ=>σ.eM d cells) ⟨[],[d]⟩ where
 out:=λσ k A=>by
  have:k≠d:=by simpa using A
  refine⟨?_,Z,?_⟩;simp only[St.eM,aj,if_neg this];simp[St.eM,this]
 same:=λσ N h k A=>by
  have:k=d:=by simpa using A
  subst this;refine⟨?_,(h k (.inr cc)).2.1,?_⟩;simp[St.eM,aj];simp[St.eM]
def yd{g:Gh}{a:AV}{u:Value}(h:a.one=true)(B:aP g a u):u.oneCell'=true:=by
 cases a with
 |c v =>
  simp only[AV.one]at h;simp only[aP]at B;cases v<;>simp[CV.one]at h<;>simp only[Rel]at B
  case int=>subst B;rfl
  case bool=>subst B;rfl
  case str=>subst B;rfl
  case mX=>subst B;rfl
  case sl=>obtain⟨_,_,_,rfl,_⟩:=B;rfl
  case ip=>obtain⟨_,_,rfl,_⟩:=B;rfl
  case sU=>obtain⟨_,rfl,_⟩:=B;rfl
  case any=>cases u<;>first|rfl|exact absurd Z (B.1 _)|exact absurd Z (B.2 _)
  case uU=>obtain⟨_,rfl⟩:=B;rfl
 |own=>simp only[aP]at B;obtain⟨_,_,_,rfl,_⟩:=B;rfl
 |ptr=>simp only[aP]at B;obtain⟨_,_,rfl⟩:=B;rfl
 |gY=>simp only[aP]at B;obtain⟨_,_,_,_,rfl,_⟩:=B;rfl
 |any =>
  cases u<;>first|rfl|exact absurd Z (B.1 _)|exact absurd Z (B.2 _)
 |agg=>simp[AV.one]at h
 |eF=>simp[AV.one]at h
section
variable {P : Program}{X : Ctx}
def Li{w:World}{g:Gh}{σ:St}{d:Nat}{cells:L AV}{us:Array Value}{t:TypeId}(hinv:Inv w g σ)(hd:d ∉ σ.used)(adx:d<1000000)(hr:bW g cells (us.toList.take cells.length))(ho:cells.all AV.one=true) :
  let g':Gh:=⟨g.G,λk=>if k=d then some w.heap.size else g.box k,g.tok,λk=>if k=d then us.size else g.room k⟩
  let w':World:={w with heap:=w.heap.push (.cells us t)}
  Inv w' g' (σ.eM d cells)/\iS w g σ w' g' (σ.eM d cells)/\g.le g'/\aP g' (.ptr d 0) (.pointer (some ⟨w.heap.size,0,none⟩)):=by
 intro g' w'
 have hbn:g.box d=none:=by
  cases h:g.box d with
  |none=>rfl
  |some b=>exact absurd (hinv.used d (.inl ta)) hd
 have hle:g.le g':=⟨kE.le.refl _,λk b h=>by
  by_cases hk:k=d
  ·simp_all
  ·simp[g',hk,h],λk b h=>by
  by_cases hk:k=d
  ·simp_all
  ·simp[g',hk],λk hw gQ h=>⟨hw,gQ,h,aaV _,λ_=>rfl⟩⟩
 have hold:∀b o,b<w.heap.size->w'.cell? ⟨b,o,none⟩=w.cell? ⟨b,o,none⟩/\w'.frozen? ⟨b,o,none⟩=w.frozen? ⟨b,o,none⟩:=by
  intro b o hb
  exact⟨World.cell?_alloc_old w _ ⟨b,o,none⟩ Zb,World.frozen?_alloc_old w _ ⟨b,o,none⟩ Zb⟩
 have hsz:w'.heap.size=w.heap.size+1:=by simp[w']
 have N9:∀b o v,g.G b o=some v->b<w.heap.size:=λb o v h=>World.block_lt_of_cell? w ⟨b,o,none⟩ (hinv.qK b o v h)
 have jP:cx w' g' w.heap.size 0 cells:=by
  obtain⟨h1,h2⟩:=bW.get hr
  apply cx.lG
  intro j c hj
  obtain⟨u,e1,e2⟩:=h2 j c hj
  refine⟨⟨u,?_,aP.mono hle _ _ e2,?_⟩,?_⟩
  ·have:=World.cell?_alloc_new w us t (0+j)
   rw[show(w.alloc (.cells us t))=w' from rfl]at this
   rw[this]
   rw[agB]at e1
   split at e1
   ·simpa using e1
   ·simp at e1
  ·rw[aha]at ho;exact ho c (abz hj)
  ·exact World.frozen?_alloc_new w us t (0+j)
 refine⟨⟨?_,?_,?_,?_,hinv.iF,?_,?_⟩,⟨Z,Z,Z,ai,λb hb _=>by show(w.heap.push _)[b]?=_;rw[aie,if_neg ai],λb o hb _=>hold b o hb,kE.le.refl _,λ_ _ _ h => .inl h,?_,?_,λk hk h=>⟨by simp only[St.eM,aj]at h;rwa[if_neg ai]at h,by simp only[g'];rw[if_neg ai],by simp only[g'];rw[if_neg ai]⟩⟩,hle,by simp_all;exact⟨_,ad5,Z⟩⟩
 ·intro b o v h
  rw[(hold b o (N9 b o v h)).1];exact hinv.qK b o v h
 ·intro k cs e
  simp only[St.eM,aj]at e
  split at e
  ·rename_i hk;subst hk;simp at e;subst e
   refine⟨w.heap.size,ad5,ai,?_,jP⟩
   intro o
   cases hg:g.G w.heap.size o with
   |none=>rfl
   |some v=>have:=N9 _ _ _ hg;omega
  ·rename_i hk
   obtain⟨b,h1,h2,h3,h4⟩:=hinv.box k cs e
   exact⟨b,by simp[g',hk,h1],ai,h3,(cx.of_same (λo=>hold b o h2) h4).mono hle⟩
 ·intro k k' cs cs' b e e' h1 h2
  simp only[St.eM,aj]at e e'
  simp only[g']at h1 h2
  split at e
  ·rename_i hk
   rw[if_pos hk]at h1;simp at h1
   split at e'
   ·rename_i hk';rw[hk,hk']
   ·rename_i hk'
    rw[if_neg hk']at h2
    obtain⟨b',h3,h4,_⟩:=hinv.box k' cs' e'
    rw[h3]at h2;simp at h2;omega
  ·rename_i hk
   rw[if_neg hk]at h1
   split at e'
   ·rename_i hk'
    rw[if_pos hk']at h2;simp at h2
    obtain⟨b',h3,h4,_⟩:=hinv.box k cs e
    rw[h3]at h1;simp at h1;omega
   ·rename_i hk'
    rw[if_neg hk']at h2
    exact hinv.gr k k' cs cs' b e e' h1 h2
 ·intro k n e
  obtain⟨gQ,h1,h2⟩:=hinv.tok k n e
  refine⟨gQ,h1,λb lo hi hr=>?_⟩
  obtain⟨h3,h4,h5⟩:=h2 b lo hi hr
  refine⟨ai,λo N8 QY=>?_,λk' cs e'=>?_⟩
  ·obtain⟨h6,⟨u,h7⟩,h8⟩:=h4 o N8 QY
   exact⟨h6,⟨u,(hold b o h3).1.trans h7⟩,(hold b o h3).2.trans h8⟩
  ·simp only[St.eM,aj]at e'
   simp only[g']
   split at e'
   ·rename_i hk;rw[if_pos hk];simp;omega
   ·rename_i hk;rw[if_neg hk];exact h5 k' cs e'
 ·intro k e
  simp only[St.eM,afp]
  by_cases hk:k=d
  ·exact .inl hk
  ·right
   apply hinv.used k
   simpa[g',hk]using e
 ·intro k cs b e h o
  simp only[St.eM,aj]at e
  simp only[g']at h ⊢
  split at e
  ·rename_i hk
   rw[if_pos hk]at h
   rw[if_pos hk]
   simp at h;subst h
   have h1:=World.cell?_alloc_new w us t o
   rw[show(w.alloc (.cells us t))=w' from rfl]at h1
   have h2:=World.frozen?_alloc_new w us t o
   rw[show(w.alloc (.cells us t))=w' from rfl]at h2
   exact⟨λho=>⟨us[o],by rw[h1];simp[ho]⟩,h2⟩
  ·rename_i hk
   rw[if_neg hk]at h
   rw[if_neg hk]
   obtain⟨b',h3,h4,_⟩:=hinv.box k cs e
   rw[h]at h3;cases h3
   obtain⟨h5,h6⟩:=hinv.room k cs b e h o
   exact⟨λho=>(h5 ho).imp λu hu=>(hold b o h4).1.trans hu,(hold b o h4).2.trans h6⟩
 ·intro k cs b e h
  simp only[St.eM,aj]at e
  simp only[g']at h
  split at e
  ·rename_i hk;rw[if_pos hk]at h;simp at h;left;omega
  ·rename_i hk;rw[if_neg hk]at h;exact .inr ⟨k,cs,e,h⟩
 ·exact aez
def QZ{w:World}{g:Gh}{σ:St}{d:Nat}{cells:L AV}{us:Array Value}{t:TypeId}(hinv:Inv w g σ)(hd:d ∉ σ.used)(adx:d<1000000)(hr:bW g cells us.toList)(ho:cells.all AV.one=true) :
  let g':Gh:=⟨g.G,λk=>if k=d then some w.heap.size else g.box k,g.tok,λk=>if k=d then us.size else g.room k⟩
  let w':World:={w with heap:=w.heap.push (.cells us t)}
  Inv w' g' (σ.eM d cells)/\iS w g σ w' g' (σ.eM d cells)/\g.le g'/\aP g' (.ptr d 0) (.pointer (some ⟨w.heap.size,0,none⟩)):=by
 have hl:cells.length=us.toList.length:=(bW.get hr).1
 exact Li (t:=t) hinv hd adx (by rw[hl,ait];exact hr) ho
def cT{d:Nat}:∀{l:L Nat},mem d l=false->d ∉ l
 |[],_=>by simp
 |x::l,h=>by simp only[mem]at h;split at h;grind;rename_i D;have:=beq_false D;simp[cT h,Ne.symm this]
def Oa(d:Nat)(l:L Nat):Bool:=match Nat.blt d 1000000 with
 |true=>mem d l
 |false=>true
def E6{d:Nat}{l:L Nat}(h:Oa d l=false):d<1000000/\mem d l=false:=by unfold Oa at h;split at h;simp_all;grind
def bN.box{o:Oper}{env:Env}{σ:St}{t:TypeId}{x:Operand}{d:Nat}(ho:o.op = .box t x)(hd:o.dst=some d){a:AV}(ha:aG X env x=some a){cells:L AV}
  (hc:jQ a=some cells)(hu:Oa d σ.used=false):bN P X o env σ (.ptr d 0) (λσ=>σ.eM d cells) ⟨[],[d]⟩:=by
 intro de σ1 w g act next Q h1 h2 hinv cu dr hnext
 have zY:aG X de x=some a:=by rw[h1 x mA];exact ha
 obtain⟨c1,c2⟩:=zn hc (cr (a:=act) dr cu zY)
 have hd':d ∉ σ1.used:=λh=>cT (E6 hu).2 ((h2 d (.inr cc)).2.2.1 h)
 have hrun:(execOp act.eval o).run P w = .ok (.value (.pointer (some ⟨w.heap.size,0,none⟩))) {w with heap:=w.heap.push (.cells (act.eval x).cells t)}:=by
  obtain⟨dst,op,type,pos,after,guard⟩:=o
  subst ho
  rfl
 unfold Oper.wp
 rw[hrun,Oper.upon_value]
 obtain⟨h3,h4,h5,h6⟩:=QZ (t:=t) hinv hd' (E6 hu).1 c1 c2
 grind
def bN.alloc(hX:cB P X){o:Oper}{env:Env}{σ:St}{t:TypeId}{d:Nat}(ho:o.op = .alloc t)(hd:o.dst=some d){i:TI}(hi:X.ti t=some i){za:AV}(hz:i.zero=some za){cells:L AV}
  (hc:jQ za=some cells)(hu:Oa d σ.used=false):bN P X o env σ (.ptr d 0) (λσ=>σ.eM d cells) ⟨[],[d]⟩:=by
 intro de σ1 w g act next Q h1 h2 hinv cu dr hnext
 obtain⟨z,z1,z2,z3⟩:=hX.nj (w:=w) hi hz
 obtain⟨c1,c2⟩:=zn hc (z2 g)
 have hd':d ∉ σ1.used:=λh=>cT (E6 hu).2 ((h2 d (.inr cc)).2.2.1 h)
 have hrun:(execOp act.eval o).run P w = .ok (.value (.pointer (some ⟨w.heap.size,0,none⟩))) {w with heap:=w.heap.push (.cells z.cells t)}:=by
  obtain⟨dst,op,type,pos,after,guard⟩:=o
  subst ho
  simp[execOp,Instr.alloc,newVar,newRow,z1]
 unfold Oper.wp
 rw[hrun,Oper.upon_value]
 obtain⟨h3,h4,h5,h6⟩:=QZ (t:=t) hinv hd' (E6 hu).1 c1 c2
 grind
def St.sr(σ:St)(k:Nat)(cells:L AV):St:=⟨xd k cells σ.boxes,σ.toks,σ.used⟩
def Q0(k:Nat)(cells:L AV):iJ (λσ=>σ.sr k cells) ⟨[],[k]⟩ where
 out:=λσ j Y=>by
  have:j≠k:=by simpa using Y
  exact⟨by simp only[St.sr,fj,if_neg this],Z,Iff.rfl⟩
 same:=λσ N h j Y=>by
  have:j=k:=by simpa using Y
  subst this;exact⟨by simp[St.sr,fj],(h j (.inr cc)).2.1,(h j (.inr cc)).2.2⟩
def heap_setCell(w:World)(a:Addr)(u:Value)(k:Nat)(h:k≠a.block):(w.setCell a u).heap[k]?=w.heap[k]?:=by simp only[World.setCell];grind
def oF{w:World}(b:Nat):∀(vs:L Value)(o i:Nat)(w:World),(∀v∈vs,v.oneCell'=true) ->
  (∀j,j<vs.length->(∃u,w.cell? ⟨b,o+i+j,none⟩=some u)/\w.frozen? ⟨b,o+i+j,none⟩=false) ->
  ∃w',(storeCells ⟨b,o,none⟩ vs i).run P w = .ok () w'/\(w'.heap.size=w.heap.size/\w'.os=w.os/\w'.tape=w.tape/\w'.output=w.output/\∀b',b'≠b->w'.heap[b']?=w.heap[b']?) /\
   (∀b' o',b'≠b\/o'<o+i\/o+i+vs.length<=o'->w'.cell? ⟨b',o',none⟩=w.cell? ⟨b',o',none⟩) /\
   (∀b' o',w'.frozen? ⟨b',o',none⟩=w.frozen? ⟨b',o',none⟩) /\
   ∀j v,vs[j]?=some v->w'.cell? ⟨b,o+i+j,none⟩=some v
 |[],o,i,w,_,_=>⟨w,by simp[storeCells],⟨Z,Z,Z,Z,λ_ _=>rfl⟩,λ_ _ _=>rfl,λ_ _=>rfl,cc⟩
 |v::vs,o,i,w,h1,h2=>by
  obtain⟨⟨u,hu⟩,hf⟩:=h2 0 cc
  simp at hu hf
  have hv:=h1 v cc
  have hst:(store (Addr.add ⟨b,o,none⟩ i) v).run P w = .ok () (w.setCell ⟨b,o+i,none⟩ v):=by
   rw[Addr.add_lit]
   have:=run_store P w ⟨b,o+i,none⟩ v .plain hv
   simp_all
  obtain⟨w',r1,r2,r3,r4,r5⟩:=oF (w:=w) b vs o (i+1) (w.setCell ⟨b,o+i,none⟩ v) (λx hx=>h1 x (by simp[hx])) (by
   intro j hj
   obtain⟨⟨u',hu'⟩,hf'⟩:=h2 (j+1) ob
   refine⟨⟨u',?_⟩,?_⟩
   ·rw[World.cell?_setCell_other w _ _ _ ob]
    rwa[show o+(i+1)+j=o+i+(j+1)from by omega]
   ·rw[World.frozen?_setCell]
    rwa[show o+(i+1)+j=o+i+(j+1)from by omega])
  refine⟨w',?_,⟨by simpa using r2.1,r2.2.1,r2.2.2.1,r2.2.2.2.1,λb' hb'=>(r2.2.2.2.2 b' hb').trans (heap_setCell w _ _ _ hb')⟩,?_,?_,?_⟩
  ·simp only[storeCells,Sem.run_bind,hst,Result.andThen_ok,r1]
  ·intro b' o' h
   rw[r3 b' o' (by simp at h ⊢;omega),World.cell?_setCell_other w]
   intro e
   simp at e h
   obtain⟨rfl,rfl⟩:=e
   omega
  ·simp_all
  ·intro j v' hj
   cases j with
   |zero =>
    simp at hj;subst hj
    rw[r3 b _ (by right;left;omega)]
    exact World.cell?_setCell_same w _ _ hu
   |succ j =>
    simp at hj
    have:=r5 j v' hj
    rwa[show o+(i+1)+j=o+i+(j+1)from by omega]at this
def bN.store(hX:cB P X){o:Oper}{env:Env}{σ:St}{t:TypeId}{x y:Operand}(ho:o.op = .store t x y)(hd:o.dst=none){i:TI}(hi:X.ti t=some i){key off:Nat}
  (hx:aG X env x=some (.ptr key off)){a:AV}(hy:aG X env y=some a){cells vs r:L AV}(hb:aq key σ.boxes=some cells)(hc:jQ a=some vs)
  (hl:vs.length=i.size)(hw:bG off vs cells=some r):bN P X o env σ (.c .undef) (λσ=>σ.sr key r) ⟨[],[key]⟩:=by
 intro de σ1 w g act next Q h1 h2 hinv cu dr hnext
 have hx':aG X de x=some (.ptr key off):=by rw[h1 x mA];exact hx
 have hy':aG X de y=some a:=by rw[h1 y mA];exact hy
 have hb':aq key σ1.boxes=some cells:=by rw[(h2 key (.inr cc)).1];exact hb
 have rx:=cr (a:=act) dr cu hx'
 simp only[aP]at rx
 obtain⟨b,CQ,ex⟩:=rx
 obtain⟨c1,c2⟩:=zn hc (cr (a:=act) dr cu hy')
 obtain⟨b',Lj,afv,hbG,hbc⟩:=hinv.box key cells hb'
 rw[CQ]at Lj;simp at Lj;subst Lj
 obtain⟨l1,l2⟩:=bW.get c1
 have hne:i.size≠0:=by obtain⟨_,_,_,_,_,_,hh⟩:=hX.ti t i hi;exact hh
 obtain⟨w1,w2,w3⟩:=qp hw
 have hfit:off+vs.length<=cells.length:=by
  cases vs with
  |nil=>simp at hl;omega
  |cons u us=>exact QW hw
 obtain⟨w',r1,r2,r3,r4,r5⟩:=oF (P:=P) (w:=w) b (act.eval y).cells.toList off 0 w (by
   intro u hu
   obtain⟨j,hj⟩:=ahd hu
   have hjl:j<vs.length:=by rw[l1];exact(List.getElem?_eq_some_iff.1 hj).1
   obtain⟨u',e1,e2⟩:=l2 j vs[j] (by simp[hjl])
   rw[hj]at e1;simp at e1;subst e1
   rw[aha]at c2
   exact yd (c2 _ (ahi hjl)) e2) (by
   intro j hj
   have hjl:off+j<cells.length:=by rw[<- l1]at hj;omega
   obtain⟨⟨u,e1,_⟩,e2⟩:=hbc.get (off+j) cells[off+j] (by simp[hjl])
   simp only[aeS,agb]at e1 e2 ⊢
   exact⟨⟨u,e1⟩,e2⟩)
 have hrun:(execOp act.eval o).run P w = .ok .skip w':=by
  obtain⟨dst,op,type,pos,after,guard⟩:=o
  simp only at ho;subst ho
  have hsz:(act.eval y).cells.size=i.size:=by rw[<- hl,l1];simp
  simp only[execOp,ex,Instr.storeAt,Instr.sureAddr,storeVar,Sem.run_bind,Sem.run_pure,Result.andThen_ok,hX.run_sizeOf hi]
  rw[if_neg (by simpa using hsz),r1];rfl
 unfold Oper.wp
 rw[hrun,Oper.upon_skip,hd]
 have ye:∀b' o',b'≠b->w'.cell? ⟨b',o',none⟩=w.cell? ⟨b',o',none⟩:=λb' o' h=>r3 b' o' (.inl h)
 have aia:∀b' o' v,g.G b' o'=some v->b'≠b:=by
  rintro b' o' v h rfl;rw[hbG]at h;simp at h
 have:=hnext Go.undef w' g ri ⟨?_,?_,?_,?_,hinv.iF,hinv.used,?_⟩ ⟨r2.2.1,r2.2.2.1,r2.2.2.2.1,ai,λb' hb0 hno=>r2.2.2.2.2 b' (by rintro rfl;exact hno 0 (.inl ⟨key,cells,hb',CQ⟩)),?_,kE.le.refl _,λ_ _ _ h => .inl h,?_,?_,λk _ h=>⟨by simp only[St.sr,fj]at h;split at h;(· rename_i hk;subst hk;rw[hb'];simp);(· exact h),rfl,rfl⟩⟩ (Gh.le.refl _)
 ·simp_all
 ·intro b' o' v h
  rw[ye b' o' (aia b' o' v h)];exact hinv.qK b' o' v h
 ·intro k cs e
  simp only[St.sr,fj]at e
  split at e
  ·rename_i hk;subst hk;simp at e;subst e
   refine⟨b,CQ,ai,hbG,?_⟩
   apply cx.lG
   intro j c hj
   rw[w3]at hj
   simp only[aeS]
   split at hj
   ·rename_i hin
    obtain⟨u,e1,e2⟩:=l2 _ _ hj
    refine⟨⟨u,?_,e2,?_⟩,?_⟩
    ·have:=r5 (j-off) u (by simpa using e1)
     rwa[show off+0+(j-off)=j from by omega]at this
    ·rw[aha]at c2;exact c2 c (abz hj)
    ·rw[r4]
     have hjl:j<cells.length:=by omega
     have:=(hbc.get j cells[j] (by simp[hjl])).2
     simpa using this
   ·rename_i hin
    obtain⟨⟨u,e1,e2,e3⟩,e4⟩:=hbc.get j c hj
    simp only[aeS]at e1 e4
    refine⟨⟨u,?_,e2,e3⟩,by rw[r4];exact e4⟩
    rw[r3 b j (by right;have:=l1;omega)];exact e1
  ·rename_i hk
   obtain⟨b',e1,e2,e3,e4⟩:=hinv.box k cs e
   have Da:b'≠b:=by
    rintro rfl
    exact hk (hinv.gr k key cs cells _ e hb' e1 CQ)
   exact⟨b',e1,ai,e3,cx.of_same (λo=>⟨ye b' o Da,r4 b' o⟩) e4⟩
 ·intro k k' cs cs' b'' e e' e1 e2
  have hex:∀k cs,aq k (σ1.sr key r).boxes=some cs->∃cs,aq k σ1.boxes=some cs:=by
   intro k cs e
   simp only[St.sr,fj]at e
   split at e
   ·simp_all
   ·exact⟨_,e⟩
  obtain⟨c1,f1⟩:=hex k cs e
  obtain⟨c2,f2⟩:=hex k' cs' e'
  exact hinv.gr k k' c1 c2 b'' f1 f2 e1 e2
 ·intro k n e
  obtain⟨gQ,e1,e2⟩:=hinv.tok k n e
  refine⟨gQ,e1,λb' lo hi hr=>?_⟩
  obtain⟨e3,e4,e5⟩:=e2 b' lo hi hr
  have Da:b'≠b:=by
   rintro rfl;exact e5 key cells hb' CQ
  refine⟨ai,λo' h1 h2=>?_,λk' cs e'=>?_⟩
  ·simp_all
  ·simp only[St.sr,fj]at e'
   split at e'
   ·rename_i hk;subst hk;exact e5 _ cells hb'
   ·exact e5 k' cs e'
 ·intro k cs b0 e hb0 o0
  have hex:∃cs0,aq k σ1.boxes=some cs0:=by
   simp only[St.sr,fj]at e
   split at e
   ·simp_all
   ·exact⟨_,e⟩
  obtain⟨cs0,e0⟩:=hex
  obtain⟨q0,q2⟩:=hinv.room k cs0 b0 e0 hb0 o0
  refine⟨λho0=>?_,by rw[r4];exact q2⟩
  obtain⟨u,q1⟩:=q0 ho0
  by_cases hw0:b0=b/\off<=o0/\o0<off+(act.eval y).cells.toList.length
  ·obtain⟨rfl,h5,h6⟩:=hw0
   obtain⟨v,hj⟩:∃v,(act.eval y).cells.toList[o0-off]?=some v:=⟨_,aeL ai⟩
   have:=r5 (o0-off) v hj
   rw[show off+0+(o0-off)=o0 from by omega]at this
   exact⟨v,this⟩
  ·refine⟨u,?_⟩
   rw[r3 b0 o0 (by
    by_cases Da:b0=b
    ·omega
    ·exact .inl Da)]
   exact q1
 ·intro b' o' hlt hno
  refine⟨ye b' o' ?_,r4 b' o'⟩
  rintro rfl
  exact hno (.inl ⟨key,cells,hb',CQ⟩)
 ·intro k cs b' e e1
  simp only[St.sr,fj]at e
  split at e
  ·rename_i hk;subst hk;exact .inr ⟨_,_,hb',e1⟩
  ·exact .inr ⟨k,cs,e,e1⟩
 ·exact aez
end
end Go.cw
namespace Go.cw
def Lk:AV->Value->Bool
 |.c (.int k n),.int k' n'=>k==k'&&n==n'
 |.c (.bool b),.bool b'=>b==b'
 |.c (.str []),.string s=>s.data.toList.isEmpty
 |.c .mX,.pointer none=>true
 |.own .exact _ [],.slice none 0 0=>true
 |_,_=>false
def Db:L AV->L Value->Bool
 |[],[]=>true
 |a::l,v::vs=>Lk a v&&Db l vs
 |_,_=>false
def XN:AV->Value->Bool
 |.agg l,.agg cs=>Db l cs.toList
 |a,v=>Lk a v
def JJ{a:AV}{v:Value}(h:Lk a v=true)(g:Gh):aP g a v/\a.one=true:=by unfold Lk at h;split at h<;>simp at h;obtain⟨rfl,rfl⟩:=h;simp[aP,Rel,AV.one,CV.one];subst h;simp[aP,Rel,AV.one,CV.one];rename_i s;simp only[AV.one,CV.one,ahC];congr 1;apply ByteArray.ext;simp[h];simp[aP,Rel,AV.one,CV.one];simp only[AV.one,ahC];exact⟨_,_,_,rfl,rfl,aaV _,.inl rfl,rfl⟩
def JK(g:Gh):∀{l:L AV}{vs:L Value},Db l vs=true->bW g l vs/\l.all AV.one=true
 |[],[],_=>by simp[bW]
 |[],_::_,h=>by simp[Db]at h
 |_::_,[],h=>by simp[Db]at h
 |a::l,v::vs,h=>by simp only[Db,aaN]at h;obtain⟨h1,h2⟩:=JJ h.1 g;obtain⟨K,Y⟩:=JK g h.2;exact⟨by simp_all;exact⟨v,vs,rfl,h1,K⟩,by simp only[afQ,h2];exact Y⟩
def XO{a:AV}{v:Value}(h:XN a v=true)(g:Gh):aP g a v:=by unfold XN at h;split at h;rename_i l cs;obtain⟨h1,h2⟩:=JK g h;exact⟨cs.toList,cc,h1,h2⟩;exact(JJ h g).1
def Q1(P:Program)(k:TK)(d:TypeDesc):Bool :=
 match k,d with
 |.int k,.int k'=>k==k'
 |.bool,.bool=>true
 |.str,.string=>true
 |.ptr e,.pointer e'=>e==e'
 |.slice e,.slice e'=>e==e'
 |.arr n e,.array W e'=>n==W&&e==e'
 |.struct B,.struct Y=>Y.toList.map (λf=>(f.offset,f.type))==B&&Y.toList.all λf=>match P.info? f.type with
  |some G=>G.size != 0
  |none=>false
 |.other,.func .. => true
 |.other,.map .. => true
 |.other,.tuple .. => true
 |_,_=>false
def US{P:Program}{k:TK}{d:TypeDesc}(h:Q1 P k d=true):jA P k d:=by unfold Q1 at h;split at h<;>simp at h<;>simp only[jA];rw[h];rw[h];rw[h];simp_all;rename_i B Y;refine⟨Y,rfl,by simpa using h.1,λf hf=>?_⟩;obtain⟨i,U,O⟩:=Array.getElem_of_mem (Array.mem_toList_iff.1 hf);grind
def WX(P:Program)(t:Nat)(i:TI):Bool :=
 match P.info? t,P.underlying t with
 |some G,some d=>G.size==i.size&&G.bytes==i.bytes&&i.size != 0&&Q1 P i.kind d &&
  (match i.zero with
   |none=>true
   |some a=>match G.zero with
    |none=>false
    |some z=>XN a z&&z.cells.size==i.size)
 |_,_=>false
def WY{P:Program}{table:L (Nat×TI)}{X:Ctx}(hX:X.ti=λt=>aq t table)(h:table.all (λp=>WX P p.1 p.2)=true):cB P X where
 ti:=λt i e=>by
  rw[hX]at e;have Y:∀(l:L (Nat×TI)),l.all (λp=>WX P p.1 p.2)=true->aq t l=some i->WX P t i=true:=by
   intro l
   induction l with
   |nil=>intro _ e;simp[aq]at e
   |cons x l S =>
    intro h e;simp at h;simp only[aq]at e;split at e;simp_all;simp_all
  have:=Y table h e;unfold WX at this;split at this;rename_i G d h1 h2;simp at this;obtain⟨⟨⟨⟨W,a2⟩,a3⟩,U⟩,V⟩:=this;refine⟨G,h1,W,a2,?_,⟨d,h2,US U⟩,a3⟩;intro a T;rw[T]at V;simp only at V;split at V;grind;rename_i z I;simp at V;exact⟨z,I,XO V.1,V.2⟩;simp_all
section
variable {P:Program}{X:Ctx}{ops:Array Oper}{o:Oper}{rest:L Oper}{env:Env}{σ:St}{acc:L Fp}{Q:Env->St->L Fp->Prop}
 {bs:L (Nat×L AV)} {ts:L (Nat×Nat)} {us:L Nat} {kn:L Nat}
def dh(h:cY ops.toList kn env o=some true):tr ops o env:=by have:=u9 h;simpa using this
def ah.xS(kn:L Nat)(hg:cY ops.toList kn env o=some true){f:FuncId}{args:Array Operand}{ats:Array TypeId}(ho:o.op = .call {callee := .value (.func f),args:=args,argTypes:=ats})
  {d:Nat}(hd:o.dst=some d){qP:L CV}(ha:gU (aG X env) args.toList=some qP){r:CV}(hq:aR P X f qP r)
  (k:ah P X ops rest ((d,.c r)::env) σ (⟨[],[]⟩::acc) Q):ah P X ops (o::rest) env σ acc Q :=
 ah.step (dh hg) (bN.xS ho ha hq) (iJ.id _) C1
def ah.M9(kn:L Nat)(hg:cY ops.toList kn env o=some true){x:Operand}{args:Array Operand}{ats:Array TypeId}(ho:o.op = .call {callee := .value x,args:=args,argTypes:=ats})
  {d:Nat}(hd:o.dst=some d){f:FuncId}{caps:L CV}(hx:aG X env x=some (.c (.sU f caps))){qP:L CV}(ha:gU (aG X env) args.toList=some qP){r:CV}(hq:aR P X f (qP++caps) r)
  (k:ah P X ops rest ((d,.c r)::env) σ (⟨[],[]⟩::acc) Q):ah P X ops (o::rest) env σ acc Q :=
 ah.step (dh hg) (bN.M9 ho hx ha hq) (iJ.id _) C1
def ah.box(kn:L Nat)(hg:cY ops.toList kn env o=some true){t:TypeId}{x:Operand}(ho:o.op = .box t x){d:Nat}(hd:o.dst=some d){a:AV}(ha:aG X env x=some a)
  {cells:L AV}(hc:jQ a=some cells)(hu:Oa d us=false)(k:ah P X ops rest ((d,.ptr d 0)::env) ⟨(d,cells)::bs,ts,d::us⟩ (⟨[],[d]⟩::acc) Q) :
  ah P X ops (o::rest) env ⟨bs,ts,us⟩ acc Q :=
 ah.step (dh hg) (bN.box ho hd ha hc hu) (sq d cells) C1
def ah.alloc(hX:cB P X)(kn:L Nat)(hg:cY ops.toList kn env o=some true){t:TypeId}(ho:o.op = .alloc t){d:Nat}(hd:o.dst=some d){i:TI}(hi:X.ti t=some i){za:AV}(hz:i.zero=some za)
  {cells:L AV}(hc:jQ za=some cells)(hu:Oa d us=false)(k:ah P X ops rest ((d,.ptr d 0)::env) ⟨(d,cells)::bs,ts,d::us⟩ (⟨[],[d]⟩::acc) Q) :
  ah P X ops (o::rest) env ⟨bs,ts,us⟩ acc Q :=
 ah.step (dh hg) (bN.alloc hX ho hd hi hz hc hu) (sq d cells) C1
def ah.store(hX:cB P X)(kn:L Nat)(hg:cY ops.toList kn env o=some true){t:TypeId}{x y:Operand}(ho:o.op = .store t x y)(hd:o.dst=none){i:TI}(hi:X.ti t=some i){key off:Nat}
  (hx:aG X env x=some (.ptr key off)){a:AV}(hy:aG X env y=some a){cells vs r:L AV}(hb:aq key bs=some cells)(hc:jQ a=some vs)
  (hl:Nat.beq vs.length i.size=true)(hw:bG off vs cells=some r){bs':L (Nat×L AV)}(hs:Ai key r bs=some bs')
  (k:ah P X ops rest env ⟨bs',ts,us⟩ (⟨[],[key]⟩::acc) Q):ah P X ops (o::rest) env ⟨bs,ts,us⟩ acc Q:=by
 rw[uV]at hs
 simp at hs
 subst hs
 exact ah.step (dh hg) (bN.store hX ho hd hi hx hy hb hc (beq_true hl) hw) (Q0 key r) C1
end
end Go.cw
namespace Go.cw
def closeAll:L AV->Option (L CV)
 |[]=>some []
 |.c v::l=>match closeAll l with
  |some r=>some (v::r)
  |none=>none
 |.own _ s rows::l=>match closeAll l with
  |some r=>some (.sl s rows::r)
  |none=>none
 |_=>none
mutual
def su(k:Nat)(cs:L CV):AV->Option AV
 |.ptr j off=>match Nat.beq j k with
  |true=>match dV off cs with
   |some r=>some (.c (.ip r))
   |none=>none
  |false=>some (.ptr j off)
 |.gY j off s n=>match Nat.beq j k with
  |true=>none
  |false=>some (.gY j off s n)
 |.agg l=>match sv k cs l with
  |some r=>some (.agg r)
  |none=>none
 |.eF l=>match sv k cs l with
  |some r=>some (.eF r)
  |none=>none
 |a=>some a
def sv(k:Nat)(cs:L CV):L AV->Option (L AV)
 |[]=>some []
 |a::l=>match su k cs a with
  |some x=>match sv k cs l with
   |some r=>some (x::r)
   |none=>none
  |none=>none
end
def GD(k:Nat)(cs:L CV):Env->Option Env
 |[]=>some []
 |(t,a)::l=>match su k cs a with
  |some x=>match GD k cs l with
   |some r=>some ((t,x)::r)
   |none=>none
  |none=>none
def Dc(k:Nat)(cs:L CV):L (Nat×L AV)->Option (L (Nat×L AV))
 |[]=>some []
 |(j,a)::l=>match Nat.beq j k with
  |true=>Dc k cs l
  |false=>match sv k cs a with
   |some x=>match Dc k cs l with
    |some r=>some ((j,x)::r)
    |none=>none
   |none=>none
section
variable {P : Program}{X : Ctx}
def yf{w:World}{g:Gh}{b:Nat}:∀{cells:L AV}{cs:L CV}{o:Nat},closeAll cells=some cs->cx w g b o cells ->
  cells.length=cs.length/\∀(j:Nat) c,cs[j]?=some c->∃u,w.cell? ⟨b,o+j,none⟩=some u/\Rel g.G c u/\c.one=true
 |[],cs,o,h,_=>by simp[closeAll]at h;subst h;simp
 |.c v::l,cs,o,h,hc=>by
  simp only[closeAll]at h
  split at h
  ·rename_i r hr
   simp at h;subst h
   obtain⟨⟨u,h1,h2,h3⟩,_,h4⟩:=hc
   obtain⟨i1,i2⟩:=yf hr h4
   refine⟨by simp[i1],λj c hj=>?_⟩
   cases j with
   |zero=>simp at hj;subst hj;exact⟨u,h1,Rl,h3⟩
   |succ j =>
    grind
  ·grind
 |.own k s rows::l,cs,o,h,hc=>by
  simp only[closeAll]at h
  split at h
  ·rename_i r hr
   simp at h;subst h
   obtain⟨⟨u,h1,h2,h3⟩,_,h4⟩:=hc
   obtain⟨i1,i2⟩:=yf hr h4
   refine⟨by simp[i1],λj c hj=>?_⟩
   cases j with
   |zero =>
    simp at hj;subst hj
    have:=uY (.own k s rows) (.sl s rows) u Z h2
    exact⟨u,h1,this.1,Z⟩
   |succ j =>
    have:=i2 j c hj
    rwa[show o+1+j=o+(j+1)from by omega]at this
  ·grind
 |.ptr _ _::l,cs,o,h,hc=>by simp[closeAll]at h
 |.gY .. :: l,cs,o,h,hc=>by simp[closeAll]at h
 |.any::l,cs,o,h,hc=>by simp[closeAll]at h
 |.agg _::l,cs,o,h,hc=>by simp[closeAll]at h
 |.eF _::l,cs,o,h,hc=>by simp[closeAll]at h
def Gh.freeze(g:Gh)(w:World)(k b n:Nat):Gh :=
 ⟨λO o=>if O=b/\o<n then w.cell? ⟨O,o,none⟩else g.G O o,λj=>if j=k then none else g.box j,g.tok,g.room⟩
def Dd{g:Gh}{w:World}{k b n:Nat}(P:∀b o v,g.G b o=some v->w.cell? ⟨b,o,none⟩=some v):g.G.le (g.freeze w k b n).G:=by intro O o v h;simp only[Gh.freeze];grind
mutual
def De{g:Gh}{w:World}{k b:Nat}{cs:L CV}(Y:∀b o v,g.G b o=some v->w.cell? ⟨b,o,none⟩=some v)(U:g.box k=some b)
  (H:dJ (g.freeze w k b cs.length).G b 0 cs):∀{a x:AV}{u:Value},su k cs a=some x->aP g a u->aP (g.freeze w k b cs.length) x u/\(a.one=true->x.one=true)
 |.ptr j off,x,u,h,B=>by simp only[su]at h;simp only[aP]at B;obtain⟨O,h1,rfl⟩:=B;split at h;rename_i W;have:=beq_true W;subst this;rw[U]at h1;simp at h1;subst h1;split at h;rename_i r B;simp at h;subst h;obtain⟨rfl,E⟩:=mj B;refine⟨?_,λ_=>rfl⟩;simp only[aP,Rel];exact⟨b,off,rfl,by simpa using H.drop (n:=off)⟩;simp at h;rename_i W;have:=beq_false W;simp at h;subst h;exact⟨by simp only[aP];exact⟨O,by simp[Gh.freeze,this,h1],rfl⟩,id⟩
 |.gY j off s n,x,u,h,B=>by simp only[su]at h;simp only[aP]at B;obtain⟨O,N,o,h1,rfl,h2,K⟩:=B;split at h;simp at h;rename_i W;have:=beq_false W;simp at h;subst h;exact⟨by simp only[aP];exact⟨O,N,o,by simp[Gh.freeze,this,h1],rfl,h2,K⟩,id⟩
 |.any,x,u,h,B=>by simp[su]at h;subst h;exact⟨by simp only[aP]at B ⊢;exact B,id⟩
 |.agg l,x,u,h,B=>by simp only[su]at h;split at h;rename_i r P;simp at h;subst h;simp only[aP]at B;obtain⟨vs,rfl,h1,h2⟩:=B;obtain⟨Q,S⟩:=Df Y U H P h1;exact⟨by simp only[aP];exact⟨vs,rfl,Q,S h2⟩,λh=>by simp[AV.one]at h⟩;simp at h
 |.eF l,x,u,h,B=>by simp only[su]at h;split at h;rename_i r P;simp at h;subst h;simp only[aP]at B;obtain⟨vs,rfl,h1,h2⟩:=B;obtain⟨Q,S⟩:=Df Y U H P h1;have A:r.length=l.length:=(by have C:=(bW.get Q).1;have a2:=(bW.get h1).1;omega);exact⟨by simp only[aP];exact⟨vs,rfl,Q,ai⟩,λh=>by simp[AV.one]at h⟩;simp at h
 |.c v,x,u,h,B=>by simp[su]at h;subst h;exact⟨by simp only[aP]at B ⊢;exact Rel.mono (Dd Y) _ _ B,id⟩
 |.own o s rows,x,u,h,B=>by
  simp[su]at h;subst h;refine⟨?_,id⟩;simp only[aP]at B ⊢;obtain⟨base,V,N,e,h1,h2,K,T⟩:=B;refine⟨base,V,N,e,h1,h2,K.mono (Dd Y),?_⟩;cases o with
  |exact=>exact T
  |tok M n=>exact T
def Df{g:Gh}{w:World}{k b:Nat}{cs:L CV}(Y:∀b o v,g.G b o=some v->w.cell? ⟨b,o,none⟩=some v)(U:g.box k=some b)
  (H:dJ (g.freeze w k b cs.length).G b 0 cs):∀{l r:L AV}{us:L Value},sv k cs l=some r->bW g l us->bW (g.freeze w k b cs.length) r us/\(l.all AV.one=true->r.all AV.one=true)
 |[],r,us,h,B=>by simp[sv]at h;subst h;simp only[bW]at B ⊢;exact⟨B,id⟩
 |a::l,r,us,h,B=>by simp only[sv]at h;split at h;rename_i x D;split at h;rename_i q P;simp at h;subst h;simp only[bW]at B;obtain⟨u,us,rfl,h1,h2⟩:=B;obtain⟨Q,S⟩:=De Y U H D h1;obtain⟨J,I⟩:=Df Y U H P h2;refine⟨by simp only[bW];exact⟨u,us,rfl,Q,J⟩,λh=>?_⟩;simp only[afQ,aaN]at h ⊢;exact⟨S h.1,I h.2⟩;simp at h;simp at h
end
def GF{k:Nat}{cs:L CV}:∀{env env':Env},GD k cs env=some env'->∀t x,aq t env'=some x->∃a,aq t env=some a/\su k cs a=some x
 |[],env',h,t,x,e=>by simp[GD]at h;subst h;simp[aq]at e
 |(j,a)::l,env',h,t,x,e=>by simp only[GD]at h;split at h;rename_i y U;split at h;rename_i r B;simp at h;subst h;rw[aj]at e;rw[aj];split at e;grind;rename_i C;rw[if_neg C];exact GF B t x e;grind;grind
def kT{k:Nat}{cs:L CV}:∀{bs bs':L (Nat×L AV)},Dc k cs bs=some bs'->∀j x,aq j bs'=some x->j≠k/\∃a,aq j bs=some a/\sv k cs a=some x
 |[],bs',h,j,x,e=>by simp[Dc]at h;subst h;simp[aq]at e
 |(i,a)::l,bs',h,j,x,e=>by simp only[Dc]at h;split at h;rename_i U;have:=beq_true U;subst this;obtain⟨h1,B,h2,K⟩:=kT h j x e;exact⟨h1,B,by rw[aj,if_neg h1];exact h2,K⟩;rename_i U;have O:=beq_false U;split at h;rename_i y q;split at h;rename_i r H;simp at h;subst h;rw[aj]at e;rw[aj];split at e;grind;rename_i Y;obtain⟨h1,B,h2,K⟩:=kT H j x e;simp_all;grind;grind
def AK.freeze{f:FuncId}{n:Nat}{β:kz}{R:Ending->World->Prop}{K:L Item}{env env':Env}{bs bs':L (Nat×L AV)}{ts:L (Nat×Nat)}{us:L Nat}(k:Nat)
  {cells:L AV}{cs:L CV}(A:aq k bs=some cells)(hc:closeAll cells=some cs)(he:GD k cs env=some env')(U:Dc k cs bs=some bs')
  (h:AK P X f n β R K env' ⟨bs',ts,us⟩):AK P X f n β R K env ⟨bs,ts,us⟩:=by
 intro g w a cst J;obtain⟨b,I,hlt,hGn,hcw⟩:=J.inv.box k cells A;obtain⟨hlen,V⟩:=yf hc hcw;let g':=g.freeze w k b cs.length;have T:g.G.le g'.G:=Dd J.inv.qK;have B:dJ g'.G b 0 cs:=by apply dJ.lG;intro j c hj;obtain⟨u,E,q,e3⟩:=V j c hj;have hjl:j<cs.length:=(List.getElem?_eq_some_iff.1 hj).1;refine⟨u,?_,Rel.mono T _ _ q,e3⟩;simp only[g',Gh.freeze,aeS,hjl];simpa using E
 have Y:∀O o,O≠b->g'.G O o=g.G O o:=by intro O o W;simp only[g',Gh.freeze,W,false_and,agL]
 have jP:∀(O:Nat)(l r:L AV)(o:Nat),sv k cs l=some r->cx w g O o l->cx w g' O o r:=by
  intro O l
  induction l with
  |nil=>intro r o h1 _;simp[sv]at h1;subst h1;trivial
  |cons x l ih =>
   intro r o h1 h2;simp only[sv]at h1;split at h1;rename_i y hy;split at h1;rename_i r' hr';simp at h1;subst h1;obtain⟨⟨u,h3,h4,h5⟩,h6,h7⟩:=h2;obtain⟨i1,i2⟩:=De J.inv.qK I B hy h4;exact⟨⟨u,h3,i1,i2 h5⟩,h6,ih r' (o+1) hr' h7⟩;simp at h1;simp at h1
 refine h g' w a cst ⟨⟨?_,?_,?_,?_,?_,?_,?_⟩,?_,?_,?_,J.size,J.defers⟩;intro O o v S;simp only[g',Gh.freeze]at S;split at S;exact S;exact J.inv.qK _ _ _ S
 ·intro j x e;obtain⟨N,l,E,q⟩:=kT U j x e;obtain⟨O,D,f2,f3,f4⟩:=J.inv.box j l E;have M:O≠b:=by rintro rfl;exact N (J.inv.gr j k l cells O E A D I)
  exact⟨O,by simp[g',Gh.freeze,N,D],f2,λo=>by rw[Y O o M];exact f3 o,jP O l x 0 q f4⟩
 intro j Q x x' O e e' E q;obtain⟨N,l,D,_⟩:=kT U j x e;obtain⟨aib,l',f1',_⟩:=kT U Q x' e';simp only[g',Gh.freeze,N,aib,agL]at E q;exact J.inv.gr j Q l l' O D f1' E q
 ·intro j m e;obtain⟨gQ,E,q⟩:=J.inv.tok j m e;refine⟨gQ,E,λO H C hr=>?_⟩;obtain⟨D,f2,f3⟩:=q O H C hr;have M:O≠b:=by rintro rfl;exact f3 k cells A I
  refine⟨D,λo o1 o2=>?_,λQ x e'=>?_⟩;obtain⟨f4,f5,f6⟩:=f2 o o1 o2;exact⟨by rw[Y O o M];exact f4,f5,f6⟩;obtain⟨N,l,f7,_⟩:=kT U Q x e';simp only[g',Gh.freeze,N,agL];exact f3 Q l f7
 intro j Q m m' O H C lo' hi' e e' E q;exact J.inv.iF j Q m m' O H C lo' hi' e e' E q
 ·intro j e;apply J.inv.used j;simp only[g',Gh.freeze]at e;rcases e with e|e
  left;intro hn;apply e;split;rfl;exact hn;exact .inr e
 intro j x O e W o;obtain⟨N,l,D,_⟩:=kT U j x e;simp only[g',Gh.freeze,N,agL]at W ⊢;exact J.inv.room j l O D W o;intro m v hm;exact Rel.mono T _ _ (J.uX m v hm);intro t x e;obtain⟨y,E,q⟩:=GF he t x e;exact(De J.inv.qK I B q (J.env t y E)).1;refine J.frame.trans ⟨Z,Z,Z,aaV _,λ_ _ _=>rfl,λ_ _ _ _=>⟨Z,Z⟩,T,λO o v S=>?_,λj x O e E=>?_,λj m O H C e E => .inr ⟨j,m,H,C,e,E,aaV _,aaV _⟩,λj _ h=>?_⟩;by_cases M:O=b;subst M;exact .inr (.inr (.inl ⟨k,cells,A,I⟩));rw[Y O o M]at S;exact .inl S;obtain⟨N,l,D,_⟩:=kT U j x e;simp only[g',Gh.freeze,N,agL]at E;exact .inr ⟨j,l,D,E⟩;cases hc:aq j bs' with
 |none=>exact absurd hc h
 |some x =>
  obtain⟨N,l,D,_⟩:=kT U j x hc;exact⟨by rw[D];simp,by simp[g',Gh.freeze,N],by simp[g',Gh.freeze]⟩
end
end Go.cw
namespace Go.cw
mutual
def Ii(us:L Nat):AV->Bool
 |.c _=>true
 |.own .exact _ _=>true
 |.own (.tok Y _) _ _=>mem Y us
 |.ptr Y _=>mem Y us
 |.gY Y _ _ _=>mem Y us
 |.any=>true
 |.agg l=>qI us l
 |.eF l=>qI us l
def qI(us:L Nat):L AV->Bool
 |[]=>true
 |a::l=>match Ii us a with
  |true=>qI us l
  |false=>false
end
def NY(us:L Nat):Env->Bool
 |[]=>true
 |(_,a)::l=>match Ii us a with
  |true=>NY us l
  |false=>false
def okB(us:L Nat):L (Nat×L AV)->Bool
 |[]=>true
 |(k,a)::l=>match mem k us,qI us a with
  |true,true=>okB us l
  |_,_=>false
def okT(us:L Nat):L (Nat×Nat)->Bool
 |[]=>true
 |(k,_)::l=>match mem k us with
  |true=>okT us l
  |false=>false
def Has(env:Env)(t:Nat)(a:AV):Prop:=aq t env=some a\/∃b v,aq t env=some b/\close b=some v/\a = .c v
def GG(env:Env):Env->Prop
 |[]=>True
 |(t,a)::l=>Has env t a/\GG env l
def Qq(bs:L (Nat×L AV)):L (Nat×L AV)->Prop
 |[]=>True
 |(k,a)::l=>aq k bs=some a/\Qq bs l
def Ob(ts:L (Nat×Nat)):L (Nat×Nat)->Prop
 |[]=>True
 |(k,a)::l=>aq k ts=some a/\Ob ts l
def mem_iff{k:Nat}:∀{l:L Nat},mem k l=true↔k∈l
 |[]=>by simp[mem]
 |x::l=>by simp only[mem];split;simp_all;rename_i h;have:=beq_false h;simp[mem_iff (l:=l),Ne.symm this]
def Gh.only(g:Gh)(us:L Nat):Gh:=⟨g.G,λk=>if mem k us then g.box k else none,λk=>if mem k us then g.tok k else none,g.room⟩
mutual
def Q2{g:Gh}{us:L Nat}:∀{a:AV}{u:Value},Ii us a=true->aP g a u->aP (g.only us) a u
 |.c v,u,_,h=>by simp only[aP]at h ⊢;exact h
 |.own .exact s rows,u,_,h=>by simp only[aP]at h ⊢;exact h
 |.own (.tok Y n) s rows,u,T,h=>by simp only[Ii]at T;obtain⟨base,W,N,e,h1,h2,K,M,U,V,Q⟩:=h;exact⟨base,W,N,e,h1,h2,K,M,U,by simp[Gh.only,T,V],Q⟩
 |.ptr Y off,u,T,h=>by simp only[Ii]at T;obtain⟨b,h1,h2⟩:=h;exact⟨b,by simp[Gh.only,T,h1],h2⟩
 |.gY Y off s n,u,T,h=>by simp only[Ii]at T;obtain⟨b,N,o,h1,h2,K,V⟩:=h;exact⟨b,N,o,by simp[Gh.only,T,h1],h2,K,V⟩
 |.any,u,_,h=>by simp only[aP]at h ⊢;exact h
 |.agg l,u,T,h=>by obtain⟨vs,e,h1,h2⟩:=h;exact⟨vs,e,Ll T h1,h2⟩
 |.eF l,u,T,h=>by obtain⟨vs,e,h1,h2⟩:=h;exact⟨vs,e,Ll T h1,h2⟩
def Ll{g:Gh}{us:L Nat}:∀{l:L AV}{vs:L Value},qI us l=true->bW g l vs->bW (g.only us) l vs
 |[],vs,_,h=>by simpa only[bW]using h
 |a::l,vs,T,h=>by simp only[qI]at T;split at T;rename_i h1;simp only[bW]at h ⊢;obtain⟨u,us',e,h2,K⟩:=h;exact⟨u,us',e,Q2 h1 h2,Ll T K⟩;simp at T
end
def Tc{us:L Nat}:∀{env:Env},NY us env=true->∀t a,aq t env=some a->Ii us a=true
 |[],_,t,a,e=>by simp[aq]at e
 |(j,x)::l,h,t,a,e=>by simp only[NY]at h;split at h;rename_i D;rw[aj]at e;split at e;grind;exact Tc h t a e;grind
def tu{us:L Nat}:∀{bs:L (Nat×L AV)},okB us bs=true->∀k a,aq k bs=some a->mem k us=true/\qI us a=true
 |[],_,t,a,e=>by simp[aq]at e
 |(j,x)::l,h,t,a,e=>by simp only[okB]at h;split at h;rename_i Y D;rw[aj]at e;split at e;grind;exact tu h t a e;grind
def BQ{us:L Nat}:∀{ts:L (Nat×Nat)},okT us ts=true->∀k a,aq k ts=some a->mem k us=true
 |[],_,t,a,e=>by simp[aq]at e
 |(j,x)::l,h,t,a,e=>by simp only[okT]at h;split at h;rename_i Y;rw[aj]at e;split at e;grind;exact BQ h t a e;grind
def GH{env:Env}:∀{l:Env},GG env l->∀t a,aq t l=some a->Has env t a
 |[],_,t,a,e=>by simp[aq]at e
 |(j,x)::l,h,t,a,e=>by rw[aj]at e;split at e;rename_i C;subst C;simp at e;subst e;exact h.1;exact GH h.2 t a e
def qt{bs:L (Nat×L AV)}:∀{l:L (Nat×L AV)},Qq bs l->∀k a,aq k l=some a->aq k bs=some a
 |[],_,t,a,e=>by simp[aq]at e
 |(j,x)::l,h,t,a,e=>by rw[aj]at e;split at e;rename_i C;subst C;simp at e;subst e;exact h.1;exact qt h.2 t a e
def sw{ts:L (Nat×Nat)}:∀{l:L (Nat×Nat)},Ob ts l->∀k a,aq k l=some a->aq k ts=some a
 |[],_,t,a,e=>by simp[aq]at e
 |(j,x)::l,h,t,a,e=>by rw[aj]at e;split at e;rename_i C;subst C;simp at e;subst e;exact h.1;exact sw h.2 t a e
section
variable {P : Program}{X : Ctx}
def AK.XP{f:FuncId}{n:Nat}{β:kz}{R:Ending->World->Prop}{K:L Item}{env:Env}{bs:L (Nat×L AV)}{ts:L (Nat×Nat)}{us:L Nat}
  (env':Env)(bs':L (Nat×L AV))(ts':L (Nat×Nat))(us':L Nat)
  (G:GG env env')(U:Qq bs bs')(C:Ob ts ts')(h1:NY us' env'=true)(h2:okB us' bs'=true)(I:okT us' ts'=true)
  (h:AK P X f n β R K env' ⟨bs',ts',us'⟩):AK P X f n β R K env ⟨bs,ts,us⟩:=by
 intro g w a cs J;refine h (g.only us') w a cs ⟨⟨J.inv.qK,?_,?_,?_,?_,?_,?_⟩,J.uX,?_,?_,J.size,J.defers⟩
 ·intro k x e;obtain⟨B,m2⟩:=tu h2 k x e;obtain⟨b,E,N,e3,e4⟩:=J.inv.box k x (qt U k x e);refine⟨b,by simp[Gh.only,B,E],N,e3,?_⟩;have key:∀(l:L AV)(o:Nat),qI us' l=true->cx w g b o l->cx w (g.only us') b o l:=by
   intro l
   induction l with
   |nil=>intro _ _ _;trivial
   |cons y l ih =>
    intro o h1 h2;simp only[qI]at h1;split at h1;rename_i q;obtain⟨⟨u,W,V,T⟩,f4,f5⟩:=h2;exact⟨⟨u,W,Q2 q V,T⟩,f4,ih (o+1) h1 f5⟩;grind
  grind
 intro k k' x S b e e' E N;simp only[Gh.only,(tu h2 k x e).1,(tu h2 k' S e').1]at E N;exact J.inv.gr k k' x S b (qt U k x e) (qt U k' S e') E N;intro k m e;obtain⟨gQ,E,N⟩:=J.inv.tok k m (sw C k m e);refine⟨gQ,by simp[Gh.only,BQ I k m e,E],λb D Y hr=>?_⟩;obtain⟨W,V,T⟩:=N b D Y hr;refine⟨W,V,λk' x e'=>?_⟩;simp only[Gh.only,(tu h2 k' x e').1];exact T k' x (qt U k' x e');intro k k' m M b D Y Q O e e' E N;simp only[Gh.only,BQ I k m e,BQ I k' M e',if_true]at E N;exact J.inv.iF k k' m M b D Y Q O (sw C k m e) (sw C k' M e') E N;intro k e;simp only[Gh.only]at e;rw[<- mem_iff (l:=us')];by_cases A:mem k us'=true;exact A;simp[A]at e;intro k x b e E o;simp only[Gh.only,(tu h2 k x e).1,if_true]at E;exact J.inv.room k x b (qt U k x e) E o
 ·intro t x e;rcases GH G t x e with hx|⟨y,v,q,hv,rfl⟩
  exact Q2 (Tc h1 t x e) (J.env t x hx);have:=(uY y v _ hv (J.env t y q)).1;simp only[aP];exact this
 refine J.frame.trans ⟨Z,Z,Z,aaV _,λ_ _ _=>rfl,λ_ _ _ _=>⟨Z,Z⟩,kE.le.refl _,λ_ _ _ h => .inl h,λk x b e E=>?_,λk m b D Y e E=>?_,λk _ h=>?_⟩;simp only[Gh.only,(tu h2 k x e).1,if_true]at E;exact .inr ⟨k,x,qt U k x e,E⟩;simp only[Gh.only,BQ I k m e,if_true]at E;exact .inr ⟨k,m,D,Y,sw C k m e,E,aaV _,aaV _⟩;cases H:aq k bs' with
 |none=>exact absurd H h
 |some x=>exact⟨by rw[qt U k x H];simp,by simp[Gh.only,(tu h2 k x H).1],Z⟩
end
end Go.cw
namespace Go.cw
abbrev kn:L Nat:=[0,1,2,3,4,5,6,7,8,9,10,11,12,13,14,15,16,17,18,19,20,21,22,23,24,25,26,27,28,29,30,31,32,33,34,35,36,37,38,39,40,41,42,43,44,45,46,47,48,49,50,51,52,53,54,55,56,57,58,59,60,61,62,63,64,65,66,67,68,69]
inductive ady where
 |at(K:List Item) (env:Env)
 |stuck
def tv(X:Ctx)(n:Nat)(Y:L (Nat×L AV)):Nat->L Item->Env->ady
 |0,K,env => .at K env
 |m+1,K,env=>match K with
  |.code (.seq x y)::K'=>tv X n Y m (.code x :: .code y::K') env
  |.code .skip::K'=>tv X n Y m K' env
  |.code (.block id c)::K'=>tv X n Y m (.code c :: .inBlock id::K') env
  |.inBlock _::K'=>tv X n Y m K' env
  |.code (.exit id)::K'=>match exitTo id K' with
   |some W=>tv X n Y m W env
   |none => .at K env
  |.code (.region _ ops false)::K'=>match tW ops n with
   |true=>match z8 X ops.toList Y [] 500 ops.toList env []with
    |.at [] env' _=>tv X n Y m K' env'
    |_ => .at K env
   |false => .at K env
  |_ => .at K env
def QE(X:Ctx)(n:Nat)(Y:L (Nat×L AV))(m:Nat)(K:L Item)(env:Env):ady:=match K with
 |.code (.seq x y)::K'=>tv X n Y m (.code x :: .code y::K') env
 |.code .skip::K'=>tv X n Y m K' env
 |.code (.block id c)::K'=>tv X n Y m (.code c :: .inBlock id::K') env
 |.inBlock _::K'=>tv X n Y m K' env
 |.code (.exit id)::K'=>match exitTo id K' with
  |some W=>tv X n Y m W env
  |none => .stuck
 |.code (.region _ ops false)::K'=>match tW ops n with
  |true=>match z8 X ops.toList Y [] 500 ops.toList env []with
   |.at [] env' _=>tv X n Y m K' env'
   |_ => .stuck
  |false => .stuck
 |_ => .stuck
section
variable {P : Program}{X : Ctx}{f : FuncId}{n : Nat}{β : kz}{R : Ending -> World -> Prop}
def AK.afx(hX:cB P X)(q:P.follows .mixedOrders=true){id:Nat}{ops:Array Oper}{K:L Item}{env env':Env}{σ:St}{acc:L Fp}(I:tW ops n=true)
  (h:z8 X ops.toList σ.boxes [] 500 ops.toList env [] = .at [] env' acc)(k:AK P X f n β R K env' σ):AK P X f n β R (.code (.region id ops false)::K) env σ :=
 AK.region q I (ah.run hX 500 [] h (ah.done k))
def va(hX:cB P X)(q:P.follows .mixedOrders=true){σ:St}:∀(m:Nat){K W:L Item}{env env':Env},tv X n σ.boxes m K env = .at W env' ->
  AK P X f n β R W env' σ->AK P X f n β R K env σ:=by
 intro m
 induction m with
 |zero=>intro K W env env' h k;obtain⟨rfl,rfl⟩:=h;exact k
 |succ m Y =>
  intro K W env env' h k;have stop:ady.at K env = .at W env'->AK P X f n β R K env σ:=by simp_all
  simp only[tv]at h;split at h;exact AK.seq (Y h k)
  ·exact AK.skip (Y h k)
  exact AK.block (Y h k);exact AK.inBlock (Y h k);split at h;rename_i e;exact AK.exit e (Y h k);simp_all;split at h;rename_i I;split at h;rename_i e;exact AK.afx hX q I e (Y h k);simp_all;simp_all;simp_all
def AK.Qi(hX:cB P X)(q:P.follows .mixedOrders=true){σ:St}(m:Nat){K W:L Item}{env env':Env}(h:QE X n σ.boxes m K env = .at W env')
  (k:AK P X f n β R W env' σ):AK P X f n β R K env σ:=by
 unfold QE at h;split at h;exact AK.seq (va hX q m h k)
 ·exact AK.skip (va hX q m h k)
 exact AK.block (va hX q m h k);exact AK.inBlock (va hX q m h k);split at h;rename_i e;exact AK.exit e (va hX q m h k);grind;split at h;rename_i I;split at h;rename_i e;exact AK.afx hX q I e (va hX q m h k);grind;grind;grind
def AK.again{K:L Item}{env:Env}{bs:L (Nat×L AV)}{ts:L (Nat×Nat)}{us:L Nat}{env':Env}{bs':L (Nat×L AV)}{ts':L (Nat×Nat)}{us':L Nat}
  (h:AK P X f n β R K env' ⟨bs',ts',us'⟩)(O:GG env env')(U:Qq bs bs')(C:Ob ts ts')(h1:NY us' env'=true)(h2:okB us' bs'=true)(I:okT us' ts'=true) :
  AK P X f n β R K env ⟨bs,ts,us⟩:=AK.XP env' bs' ts' us' O U C h1 h2 I h
def AK.dN{C:Code}{K:L Item}{env:Env}{bs:L (Nat×L AV)}{ts:L (Nat×Nat)}{us:L Nat}{α:Type}(I:α->Prop)(W:α->Nat)
  (E:α->Env)(B:α->L (Nat×L AV))(T:α->L (Nat×Nat))(U:L Nat)(Y:α)(S:I Y)
  (O:GG env (E Y))(q:Qq bs (B Y))(Q:Ob ts (T Y))(h1:NY U (E Y)=true)(h2:okB U (B Y)=true)(N:okT U (T Y)=true)
  (step:∀x,I x->(∀y,I y->W y<W x->AK P X f n β R (.inLoop C::K) (E y) ⟨B y,T y,U⟩)->AK P X f n β R (.code C :: .inLoop C::K) (E x) ⟨B x,T x,U⟩) :
  AK P X f n β R (.code (.loop C)::K) env ⟨bs,ts,us⟩:=by
 refine AK.loop (AK.XP (E Y) (B Y) (T Y) U O q Q h1 h2 N ?_);have V:∀(m:Nat)(x:α),W x<m->I x->AK P X f n β R (.code C :: .inLoop C::K) (E x) ⟨B x,T x,U⟩:=by
  intro m
  induction m with
  |zero=>intro x D;omega
  |succ m M =>
   intro x D J;exact step x J λy H G=>AK.inLoop (M y ai H)
 exact V (W Y+1) Y ai S
end
section
variable {P : Program}{X : Ctx}{ops : Array Oper}{o : Oper}{rest : L Oper}{env : Env}{σ : St}{acc : L Fp}{Q : Env -> St -> L Fp -> Prop}
def bN.index(hX:cB P X){t:TypeId}{x ix:Operand}(ho:o.op = .indexAddr t x ix){i j:TI}{e:Nat}(hi:X.ti t=some i)(hk:i.kind = .slice e)(hj:X.ti e=some j)
  {a:AV}{s:Nat}{rows:L CV}(ha:aG X env x=some a)(hr:rowsOf a=some (s,rows))(hs:Nat.beq s j.size=true){k:IntKind}{z:Int}(hz:aG X env ix=some (.c (.int k z)))
  {m:Nat}(hm:z=m){r:CV}(hrow:rows[m]?=some r):bN P X o env σ (.c (.ip r.cells)) (λσ=>σ) ⟨[],[]⟩:=by
 intro de σ1 w g act next Q h1 h2 hinv cu dr hnext
 have zY:aG X de x=some a:=by rw[h1 x mA];exact ha
 have Ih:aG X de ix=some (.c (.int k z)):=by rw[h1 ix mA];exact hz
 obtain⟨base,len,cap,e1,e2,_,e3⟩:=Gu hr (cr (a:=act) dr cu zY)
 have e4:=xO (cr (a:=act) dr cu Ih)
 have hlt:m<rows.length:=(List.getElem?_eq_some_iff.1 hrow).1
 obtain⟨d,jM,jz,_⟩:=hX.run_underlying (w:=w) hi
 rw[hk]at jz;subst jz
 have hss:=beq_true hs
 rcases e3 with rfl|⟨b,o',rfl,gE⟩
 ·simp_all
 ·have hg:=(gE.get m r hrow).1
  have hrun:(execOp act.eval o).run P w = .ok (.value (.pointer (some ⟨b,o'+m*j.size,none⟩))) w:=by
   obtain⟨dst,op,type,pos,after,guard⟩:=o
   subst ho
   simp[execOp,e1,e4,hm,Instr.indexAt,asIntOf,jM,e2,hlt,hX.run_sizeOf hj,Addr.add_lit]
  unfold Oper.wp
  rw[hrun,Oper.upon_value]
  refine hnext _ w g ?_ hinv (iS.refl _ _ _) (Gh.le.refl _)
  exact⟨b,_,Z,by rw[<- hss];exact hg⟩
def ah.index(hX:cB P X)(hg:cY ops.toList kn env o=some true){t:TypeId}{x ix:Operand}(ho:o.op = .indexAddr t x ix){d:Nat}(hd:o.dst=some d)
  {i j:TI}{e:Nat}(hi:X.ti t=some i)(hk:i.kind = .slice e)(hj:X.ti e=some j)
  {a:AV}{s:Nat}{rows:L CV}(ha:aG X env x=some a)(hr:rowsOf a=some (s,rows))(hs:Nat.beq s j.size=true){k:IntKind}{z:Int}(hz:aG X env ix=some (.c (.int k z)))
  (m:Nat)(hm:z=m){r:CV}(hrow:rows[m]?=some r){cs:L CV}(hcs:r.cells=cs)(k:ah P X ops rest ((d,.c (.ip cs))::env) σ (⟨[],[]⟩::acc) Q) :
  ah P X ops (o::rest) env σ acc Q:=by
 subst hcs
 exact ah.step (dh hg) (bN.index hX ho hi hk hj ha hr hs hz hm hrow) (iJ.id _) C1
end
end Go.cw
namespace Go.cw
def yg(s:Nat)(v:CV):Bool:=match v with
 |.eF _=>false
 |.undef=>false
 |.agg cs=>Nat.beq cs.length s
 |_=>Nat.beq 1 s
def jk(s:Nat):L CV->Bool
 |[]=>true
 |v::l=>match yg s v with
  |true=>jk s l
  |false=>false
def tw{s:Nat}{v:CV}(h:yg s v=true){G:kE}{u:Value}(hr:Rel G v u):v.cells.length=s/\b9 G v.cells u.cells.toList/\v.cells.all CV.one=true:=by
 have one:∀(v:CV)(u:Value),v.one=true->Rel G v u->u.cells.toList=[u]:=by
  intro v u ho hr
  cases v<;>simp only[Rel]at hr<;>simp[CV.one]at ho
  case int=>subst hr;rfl
  case bool=>subst hr;rfl
  case str=>subst hr;rfl
  case mX=>subst hr;rfl
  case sl=>obtain⟨_,_,_,rfl,_⟩:=hr;rfl
  case ip=>obtain⟨_,_,rfl,_⟩:=hr;rfl
  case sU=>obtain⟨_,rfl,_⟩:=hr;rfl
  case any=>cases u<;>first|rfl|exact absurd Z (hr.1 _)
  case uU=>obtain⟨_,rfl⟩:=hr;rfl
 have fin:∀(v:CV),v.one=true->v.cells=[v]->Rel G v u->Nat.beq 1 s=true->v.cells.length=s/\b9 G v.cells u.cells.toList/\v.cells.all CV.one=true:=by
  intro v ho hc hr hs
  rw[hc,one v u ho hr]
  exact⟨beq_true hs,by simp_all;exact⟨u,[],Z,hr,Z⟩,by simp[ho]⟩
 cases v with
 |eF=>simp[yg]at h
 |undef=>simp[yg]at h
 |agg cs =>
  obtain⟨vs,rfl,h1,h2⟩:=hr
  exact⟨beq_true h,by simpa[CV.cells,Value.cells]using h1,h2⟩
 |int=>exact fin _ Z Z hr h
 |bool=>exact fin _ Z Z hr h
 |str=>exact fin _ Z Z hr h
 |mX=>exact fin _ Z Z hr h
 |sl=>exact fin _ Z Z hr h
 |ip=>exact fin _ Z Z hr h
 |sU=>exact fin _ Z Z hr h
 |any=>exact fin _ Z Z hr h
 |uU=>exact fin _ Z Z hr h
def qb{s:Nat}:∀{l:L CV},jk s l=true->∀v∈l,yg s v=true
 |[],_,v,h=>by simp at h
 |x::l,h,v,N=>by
  simp only[jk]at h;split at h
  ·rename_i D;rcases List.mem_cons.1 N with rfl|N
   omega;exact qb h v N
  grind
def flat(s:Nat):L Value->L Value
 |[]=>[]
 |v::l=>v.cells.toList++flat s l
def gF.of_flat{G:kE}{s b:Nat}:∀{rows:L CV}{vs:L Value}{o:Nat},jk s rows=true->b9 G rows vs->(∀(j:Nat) u,(flat s vs)[j]?=some u->G b (o+j)=some u)->gF G s b o rows
 |[],vs,o,_,_,_=>by simp[gF]
 |r::rows,vs,o,C,hr,hG=>by simp only[jk]at C;split at C;rename_i Y;obtain⟨u,us,rfl,h1,h2⟩:=hr;obtain⟨W,K,U⟩:=tw Y h1;obtain⟨S,Q⟩:=b9.get K;simp only[flat]at hG;refine⟨(BK G b o r).2 (dJ.lG λj c P=>?_),W,gF.of_flat C h2 λj V T=>?_⟩;grind;have:=hG (s+j) V (by rw[ahc ai];rw[show s+j-u.cells.toList.length=j from by omega];exact T);grind;grind
section
variable {P : Program}{X : Ctx}
def adz{w:World}{g:Gh}{σ:St}(hinv:Inv w g σ)(us:Array Value)(t:TypeId) :
  let g':Gh:=⟨λb o=>if b=w.heap.size then us[o]? else g.G b o,g.box,g.tok,g.room⟩
  let w':World:={w with heap:=w.heap.push (.cells us t)}
  Inv w' g' σ/\iS w g σ w' g' σ/\g.le g':=by
 intro g' w'
 have hold:∀b o,b<w.heap.size->w'.cell? ⟨b,o,none⟩=w.cell? ⟨b,o,none⟩/\w'.frozen? ⟨b,o,none⟩=w.frozen? ⟨b,o,none⟩:=by
  intro b o hb
  exact⟨World.cell?_alloc_old w _ ⟨b,o,none⟩ Zb,World.frozen?_alloc_old w _ ⟨b,o,none⟩ Zb⟩
 have hsz:w'.heap.size=w.heap.size+1:=by simp[w']
 have N9:∀b o v,g.G b o=some v->b<w.heap.size:=λb o v h=>World.block_lt_of_cell? w ⟨b,o,none⟩ (hinv.qK b o v h)
 have hle:g.le g':=by
  refine⟨λb o v h=>?_,λ_ _ h=>h,λ_ _ _=>rfl,λk hw gQ h=>⟨hw,gQ,h,aaV _,λ_=>rfl⟩⟩
  grind
 have Lm:∀b o,b<w.heap.size->g'.G b o=g.G b o:=by grind
 refine⟨⟨?_,?_,hinv.gr,?_,hinv.iF,hinv.used,hinv.C4 λk cs b _ _ hb o=>hold b o hb⟩,⟨Z,Z,Z,ai,λb hb _=>by show(w.heap.push _)[b]?=_;rw[aie,if_neg ai],λb o hb _=>hold b o hb,hle.1,?_,?_,?_,?_⟩,hle⟩
 ·intro b o v h
  simp only[g']at h
  split at h
  ·rename_i hb;subst hb
   have:=World.cell?_alloc_new w us t o
   rw[show(w.alloc (.cells us t))=w' from rfl]at this
   rw[this];exact h
  ·rw[(hold b o (N9 b o v h)).1];exact hinv.qK b o v h
 ·intro k cs e
  obtain⟨b,h1,h2,h3,h4⟩:=hinv.box k cs e
  exact⟨b,h1,ai,λo=>by rw[Lm b o h2];exact h3 o,(cx.of_same (λo=>hold b o h2) h4).mono hle⟩
 ·intro k n e
  obtain⟨gQ,h1,h2⟩:=hinv.tok k n e
  refine⟨gQ,h1,λb lo hi hr=>?_⟩
  obtain⟨h3,h4,h5⟩:=h2 b lo hi hr
  refine⟨ai,λo N8 QY=>?_,h5⟩
  obtain⟨h6,⟨u,h7⟩,h8⟩:=h4 o N8 QY
  exact⟨by rw[Lm b o h3];exact h6,⟨u,(hold b o h3).1.trans h7⟩,(hold b o h3).2.trans h8⟩
 ·grind
 ·grind
 ·grind
 ·grind
def jI(ρ:Operand->Option AV):Nat->L (Nat×Operand)->Option (L CV)
 |_,[]=>some []
 |i,(j,x)::l=>match Nat.beq j i,ρ x with
  |true,some a=>match close a with
   |some v=>match jI ρ (i+1) l with
    |some r=>some (v::r)
    |none=>none
   |none=>none
  |_,_=>none
def sB{ρ Y:Operand->Option AV}:∀(l:L (Nat×Operand))(i:Nat),(∀p∈l,Y p.2=ρ p.2)->jI Y i l=jI ρ i l
 |[],_,_=>rfl
 |(j,x)::l,i,h=>by simp only[jI,h (j,x) cc,sB l (i+1) (λp S=>h p (by simp[S]))]
def yh{g:Gh}{ρ:Operand->Option AV}{ev:Operand->Value}(O:∀x v,ρ x=some v->aP g v (ev x)):∀{l:L (Nat×Operand)}{i:Nat}{rows:L CV},
  jI ρ i l=some rows->b9 g.G rows (l.map λp=>ev p.2)/\(l.map λ(j,x)=>(j,ev x))=((l.map λp=>ev p.2).zipIdx i).map λ(v,j)=>(j,v)
 |[],i,rows,h=>by simp[jI]at h;subst h;simp[b9]
 |(j,x)::l,i,rows,h=>by simp only[jI]at h;split at h;rename_i a Y D;split at h;rename_i v N;split at h;rename_i r B;simp at h;subst h;obtain⟨h1,h2⟩:=yh O B;have:=beq_true Y;refine⟨by simp;exact⟨_,_,rfl,(uY a v _ N (O x a D)).1,h1⟩,?_⟩;simp_all;grind;grind;grind
def Dg(s:Nat):∀(vals:L Value)(k:Nat)(arr:Array Value),(∀v∈vals,v.cells.size=s)->(k+vals.length)*s<=arr.size ->
  ∃res,Instr.fill (λi=>some (i*s,s)) arr ((vals.zipIdx k).map λ(v,j)=>(j,v))=some res/\res.size=arr.size /\
   ∀(j:Nat),res[j]?=if k*s<=j/\j<k*s+(flat s vals).length then(flat s vals)[j-k*s]? else arr[j]?
 |[],k,arr,_,_=>⟨arr,by simp[Instr.fill],Z,λj=>by simp[flat];intros;omega⟩
 |v::vals,k,arr,h1,h2=>by
  have hv:=h1 v cc
  have hks:(k+1)*s=k*s+s:=air k s
  have D2:(k+1+vals.length)*s<=arr.size:=by simp at h2;rwa[show k+1+vals.length=k+(vals.length+1)from by omega]
  have hfit:k*s+s<=arr.size:=by grind
  obtain⟨f1,f2⟩:=Gv (k*s) v.cells.toList 0 arr ob
  obtain⟨res,r1,r2,r3⟩:=Dg s vals (k+1) _ (λx hx=>h1 x (by simp[hx])) (by rw[f1];exact D2)
  refine⟨res,?_,by rw[r2,f1],λj=>?_⟩
  ·simp only[agR,aeX,Instr.fill]
   rw[if_neg ob]
   have XI:v.cells.zipIdx.foldl (λcs (c,j)=>cs.setIfInBounds (k*s+j) c) arr =
     (v.cells.toList.zipIdx 0).foldl (λ(cs:Array Value)(p:Value×Nat)=>cs.setIfInBounds (k*s+p.2) p.1) arr:=by
    rw[<- Array.foldl_toList];simp
   rw[XI];exact r1
  ·rw[r3,f2]
   have hl:v.cells.toList.length=s:=by simpa using hv
   simp only[flat,aaZ,hks,hl,agb]
   by_cases c1:k*s+s<=j/\j<k*s+s+(flat s vals).length
   ·grind
   ·grind
def bN.buildSlice(hX:cB P X){o:Oper}{env:Env}{σ:St}{t:TypeId}{len:Nat}{parts:Array (Nat×Operand)}(ho:o.op = .buildSlice t len parts)
  {i j:TI}{e:Nat}(hi:X.ti t=some i)(hk:i.kind = .slice e)(hj:X.ti e=some j){za:AV}(hz:j.zero=some za){rows:L CV}(hp:jI (aG X env) 0 parts.toList=some rows)
  (hl:Nat.beq rows.length len=true)(hs:jk j.size rows=true)(hb:Nat.ble (len*j.size) 16777216=true) :
  bN P X o env σ (.own .exact j.size rows) (λσ=>σ) ⟨[],[]⟩:=by
 intro de σ1 w g act next Q h1 h2 hinv cu dr hnext
 have EI:jI (aG X de) 0 parts.toList=some rows:=by
  rw[sB _ _ (λp hp=>h1 p.2 Wb)];exact hp
 obtain⟨c1,c2⟩:=yh (g:=g) (ev:=act.eval) (λx v hx=>cr dr cu hx) EI
 have hlen:=beq_true hl
 obtain⟨d,jM,jz,_⟩:=hX.run_underlying (w:=w) hi
 rw[hk]at jz;subst jz
 obtain⟨z,z1,z2,z3⟩:=hX.nj (w:=w) hj hz
 have hcs:∀v∈(parts.toList.map λp=>act.eval p.2),v.cells.size=j.size:=by
  intro v hv
  obtain⟨m,hm⟩:=ahd hv
  obtain⟨l1,l2⟩:=b9.get c1
  have hml:m<rows.length:=by rw[l1];exact(List.getElem?_eq_some_iff.1 hm).1
  obtain⟨u,e1,e2⟩:=l2 m rows[m] cc
  rw[hm]at e1;simp at e1;subst e1
  obtain⟨a1,a2,_⟩:=tw (qb hs rows[m] (ahi hml)) e2
  have:=(b9.get a2).1
  simp at this;omega
 have hvl:(parts.toList.map λp=>act.eval p.2).length=len:=by rw[<- (b9.get c1).1];exact hlen
 obtain⟨res,r1,r2,r3⟩:=Dg j.size (parts.toList.map λp=>act.eval p.2) 0 ((Array.range (len*j.size)).map (z.cells[· % z.cells.size]!)) hcs (by simp at hvl ⊢;rw[hvl];exact aaV _)
 have hrun:(execOp act.eval o).run P w = .ok (.value (.slice (some ⟨w.heap.size,0,none⟩) len len)) {w with heap:=w.heap.push (.cells res e)}:=by
  obtain⟨dst,op,type,pos,after,guard⟩:=o
  simp only at ho;subst ho
  have Da:¬(2^24<len*j.size):=by have:=aeP hb;omega
  have Oc:∀zc:Array Value,(Array.range (len*j.size)).map (λx=>zc[x%zc.size]!)=(Array.range (len*j.size)).map (λx=>z.cells[x%z.cells.size]!) ->
    Instr.fill (λi=>some (i*j.size,j.size)) ((Array.range (len*j.size)).map (λx=>zc[x%zc.size]!)) (parts.map λx=>(x.1,act.eval x.2)).toList=some res:=by
   intro zc q2
   rw[q2,agI]
   have c2':(parts.toList.map λx=>(x.1,act.eval x.2))=_:=c2
   rw[c2'];exact r1
  simp only[execOp,Instr.buildSlice,Sem.run_bind,jM,Result.andThen_ok,hX.run_sizeOf hj]
  rw[if_neg (by simpa using Da)]
  by_cases h0:len*j.size=0
  ·rw[if_pos h0]
   simp only[Sem.run_bind,Sem.run_pure,Result.andThen_ok]
   rw[Oc #[] (by rw[h0];simp)]
   simp[newRow]
  ·rw[if_neg h0]
   simp only[Sem.run_bind,Sem.run_pure,Result.andThen_ok,z1]
   rw[Oc z.cells rfl]
   simp[newRow]
 unfold Oper.wp
 rw[hrun,Oper.upon_value]
 obtain⟨i1,i2,i3⟩:=adz hinv res e
 refine hnext _ _ _ ?_ i1 i2 i3
 simp only[aP]
 refine⟨_,_,_,Z,hlen.symm,aaV _,?_,Z⟩
 right
 refine⟨w.heap.size,0,Z,gF.of_flat hs (b9.mono i3.1 _ _ c1) λm u hu=>?_⟩
 simp only[if_true,aeS]
 have hm:m<(flat j.size (parts.toList.map λp=>act.eval p.2)).length:=(List.getElem?_eq_some_iff.1 hu).1
 rw[r3 m,if_pos ai]
 simpa using hu
end
section
variable {P : Program}{X : Ctx}{ops : Array Oper}{o : Oper}{rest : L Oper}{env : Env}{σ : St}{acc : L Fp}{Q : Env -> St -> L Fp -> Prop}
def ah.buildSlice(hX:cB P X)(kn:L Nat)(hg:cY ops.toList kn env o=some true){t:TypeId}{len:Nat}{parts:Array (Nat×Operand)}(ho:o.op = .buildSlice t len parts){d:Nat}(hd:o.dst=some d)
  {i j:TI}{e:Nat}(hi:X.ti t=some i)(hk:i.kind = .slice e)(hj:X.ti e=some j){za:AV}(hz:j.zero=some za){rows:L CV}(hp:jI (aG X env) 0 parts.toList=some rows)
  (hl:Nat.beq rows.length len=true){s:Nat}(hsz:j.size=s)(hs:jk s rows=true)(hb:Nat.ble (len*s) 16777216=true)
  (k:ah P X ops rest ((d,.own .exact s rows)::env) σ (⟨[],[]⟩::acc) Q):ah P X ops (o::rest) env σ acc Q:=by
 subst hsz
 exact ah.step (dh hg) (bN.buildSlice hX ho hi hk hj hz hp hl hs hb) (iJ.id _) C1
end
end Go.cw
namespace Go.cw
open Go.ChangeShapes Go.WideShapes Go.RowKit
def rX(w:World):kE:=λb o=>w.cell? ⟨b,o,none⟩
section
variable {H : Type}{enc : TypeId × Value -> H}{P : Program}{W : World}{B : DataW H -> Nat}
def RD(enc:TypeId×Value->H)(P:Program)(W:World)(B:DataW H->Nat)(n:Nat)(t:TypeId)(R:CV->Nat->Prop):Prop :=
 ∀Y,Y<=n->∀cs x,DataW.trod enc P W 0 (λ_=>true) true Y t cs=some x ->
  ∃c:CV,b9 (rX W) c.cells cs/\c.cells.all CV.one=true/\R c (B x.1)
def RD.mono{n m:Nat}{t:TypeId}{R V:CV->Nat->Prop}(h:RD enc P W B n t R)(q:m<=n)(hR:∀c k,R c k->V c k):RD enc P W B m t V :=
 λY hf cs x D=>by obtain⟨c,h1,h2,K⟩:=h Y (afC hf q) cs x D;grind
def RD.zero{t:TypeId}{R:CV->Nat->Prop}:RD enc P W B 0 t R:=λY hf cs x D=>by
 obtain rfl:Y=0:=by omega
 simp[DataW.trod]at D
structure CY(B:DataW H->Nat):Prop where
 lit:∀l,1<=B (.lit l)
 str:∀s,s.length+1<=B (.lit (.string s))
 nil:1<=B .nil
 slice:∀l r,(l.map B).sum+1<=B (.slice l r)
 agg:∀l,(l.map B).sum+1<=B (.agg l)
def RD.int(hB:CY B){n:Nat}{t:TypeId}{k:IntKind}(hu:P.underlying t=some (.int k)) :
  RD enc P W B n t λc m=>∃z,c = .int k z/\(Lit.int k z).wf=true/\1<=m:=λfuel hf cs x hx=>by
 obtain⟨z,rfl,rfl,hw⟩:=DataW.trod_int hu hx
 exact⟨.int k z,by simp[CV.cells,b9,Rel],Yp,z,Z,hw,hB.lit _⟩
def RD.str(hB:CY B){n:Nat}{t:TypeId}(hu:P.underlying t=some .string) :
  RD enc P W B n t λc m=>∃s,c = .str s/\s.length+1<=m:=λfuel hf cs x hx=>by
 obtain⟨s,rfl,rfl,hw⟩:=DataW.trod_string hu hx
 exact⟨.str s.data.toList,by simp[CV.cells,b9,Rel],Yp,_,Z,hB.str _⟩
def DX(R:CV->Nat->Prop):L CV->Nat->Prop
 |[],m=>0<=m
 |r::rs,m=>∃k I,R r k/\DX R rs I/\k+I<=m
def RD.slice(hB:CY B){n:Nat}{t e:TypeId}{s:Nat}(hu:P.underlying t=some (.slice e))(hs:P.cellsOf e=s)(h0:0<s){R:CV->Nat->Prop}(h:RD enc P W B n e R) :
  RD enc P W B (n+1) t λc m=>∃rows,c = .sl s rows/\∃m',DX R rows m'/\m'+1<=m:=λfuel hf cs x hx=>by
 subst hs
 rcases DataW.trod_slice hu hx with ⟨rfl,rfl⟩|⟨a,len,cap,elems,rest,n',rfl,rfl,rfl,_,hl,hc,hlen,hel,_,_⟩
 ·refine⟨.sl _ [],?_,Yp,[],Z,0,aaV _,by simpa using hB.nil⟩
  refine⟨_,_,Z,?_,Z⟩
  simp only[Rel]
  grind
 ·have hs:elems=[]\/∃b o,a=⟨b,o,none⟩:=by
   cases elems with
   |nil=>exact .inl Z
   |cons y l =>
    right
    have h0':=hel 0 (by simp at hlen;omega)
    simp only[ahq,aiH]at h0'
    obtain⟨vs,hvs,hy⟩:=h0'
    obtain⟨_,hvl,hcell⟩:=World.cells?_some hvs
    obtain⟨b,o,spot⟩:=a
    have g0:=hcell 0 h0
    obtain⟨v0,Uo⟩:∃v0,vs[0]?=some v0:=by simp_all
    rw[Uo]at g0
    have h9:=World.cell?_spot g0
    have afz:spot=none:=by simpa[Addr.add]using h9
    exact⟨b,o,by rw[afz]⟩
  have key:∀(b o:Nat),a=⟨b,o,none⟩->∀(l:L (DataW H×L MemPlace))(k:Nat),(∀i,i<l.length->(W.cells? 0 (a.add ((k+i)*P.cellsOf e)) (P.cellsOf e)).bind (DataW.trod enc P W 0 (λ_=>true) true n' e)=l[i]?) ->
    ∃rows,rows.length=l.length/\DX R rows ((l.map λx=>B x.1).sum)/\gF (rX W) (P.cellsOf e) b (o+k*P.cellsOf e) rows:=by
   intro b o hab l
   subst hab
   induction l with
   |nil=>intro k _;exact⟨[],Z,by simp[DX],by simp[gF]⟩
   |cons y l ih =>
    intro k hk
    obtain⟨rows,h1,h2,h4⟩:=ih (k+1) λi hi=>by
     have:=hk (i+1) ob
     rw[show k+1+i=k+(i+1)from by omega];simpa using this
    have h0':=hk 0 cc
    simp only[agb,ahq,aiH]at h0'
    obtain⟨vs,hvs,hy⟩:=h0'
    obtain⟨c,c1,c2,c3⟩:=h n' ai vs y hy
    obtain⟨_,hvl,hcell⟩:=World.cells?_some hvs
    refine⟨c::rows,ab3,⟨_,_,c3,h2,cc⟩,?_⟩
    simp only[gF]
    refine⟨(BK _ _ _ _).2 (dJ.lG λj cj hj=>?_),by rw[(b9.get c1).1,hvl],?_⟩
    ·obtain⟨u,hu1,hu2⟩:=(b9.get c1).2 j cj hj
     refine⟨u,?_,hu2,List.all_eq_true.1 c2 cj (abz hj)⟩
     have hjl:j<P.cellsOf e:=by rw[<- hvl];exact(List.getElem?_eq_some_iff.1 hu1).1
     have:=hcell j hjl
     rw[add_plain,add_plain]at this
     rw[rX,this,hu1]
    ·rwa[show o+(k+1)*P.cellsOf e=o+k*P.cellsOf e+P.cellsOf e from by rw[air];omega]at h4
  have hBs:(elems.map λx=>B x.1).sum+1<=B (.slice (elems.map (·.1)) (rest.map (·.1))):=by
   have:=hB.slice (elems.map (·.1)) (rest.map (·.1));rwa[List.map_map]at this
  rcases hs with rfl|⟨b,o,rfl⟩
  ·refine⟨.sl _ [],?_,Yp,[],Z,0,aaV _,by simpa using hBs⟩
   simp only[CV.cells,b9]
   refine⟨_,_,Z,?_,Z⟩
   simp only[Rel]
   exact⟨_,_,_,Z,by simpa using hlen.symm,hl,.inl trivial⟩
  ·obtain⟨rows,h1,h2,h4⟩:=key b o rfl elems 0 λi hi=>by rw[aeS];exact hel i ai
   refine⟨.sl _ rows,?_,Yp,rows,Z,_,h2,hBs⟩
   simp only[CV.cells,b9]
   refine⟨_,_,Z,?_,Z⟩
   simp only[Rel]
   exact⟨_,_,_,Z,ai,hl,.inr ⟨b,o,Z,by simpa using h4⟩⟩
def E7:L (CV->Nat->Prop)->L CV->Nat->Prop
 |[],l,_=>l=[]
 |R::Rs,l,m=>∃c k N I,l=c.cells++N/\R c k/\E7 Rs N I/\k+I<=m
def E8(enc:TypeId×Value->H)(P:Program)(W:World)(B:DataW H->Nat)(n:Nat):Nat->L (Nat×TypeId)->L (CV->Nat->Prop)->Prop
 |o,[],Rs=>Rs=[]
 |o,(K,t)::fs,Rs=>∃R Y,Rs=R::Y/\K=o/\RD enc P W B n t R/\E8 enc P W B n (o+P.cellsOf t) fs Y
def pH(P:Program):Nat->L (Nat×TypeId)->Nat
 |o,[]=>o
 |o,(_,t)::fs=>pH P (o+P.cellsOf t) fs
def D3{n:Nat}{cs:L Value}:∀(Y:L (Nat×TypeId))(o:Nat)(Rs:L (CV->Nat->Prop))(xs:L (DataW H×L MemPlace)),E8 enc P W B n o Y Rs ->
  (∀(i:Nat)(K:Nat)(t:TypeId),Y[i]?=some (K,t)->DataW.trod enc P W 0 (λ_=>true) true n t ((cs.drop K).take (P.cellsOf t))=xs[i]?)->xs.length=Y.length->cs.length=pH P o Y ->
  ∃l,b9 (rX W) l (cs.drop o)/\l.all CV.one=true/\E7 Rs l ((xs.map λx=>B x.1).sum)
 |[],o,Rs,xs,I,hx,hl,O=>by simp only[E8]at I;subst I;simp only[pH]at O;exact⟨[],by simp[b9,O],cc,by simp[E7]⟩
 |(K,t)::Y,o,Rs,[],I,hx,hl,O=>by simp at hl
 |(K,t)::Y,o,Rs,x::xs,I,hx,hl,O=>by obtain⟨R,V,rfl,rfl,hR,I⟩:=I;have C:=hx 0 K t cc;obtain⟨c,u,U,T⟩:=hR n (aaV _) _ _ C;obtain⟨l,S,Q,N⟩:=D3 Y _ V xs I (λi M J G=>by simpa using hx (i+1) M J aep) (by simpa using hl) O;refine⟨c.cells++l,?_,by rw[agV,U,Q];rfl,c,_,l,_,rfl,T,N,cc⟩;have:=fO u S;rwa[<- List.drop_drop,agc]at this
def RD.struct(u:CY B){n:Nat}{t:TypeId}{H:Array Field}(S:P.underlying t=some (.struct H)){Y:L (Nat×TypeId)}(V:H.toList.map (λf=>(f.offset,f.type))=Y)
  {Rs:L (CV->Nat->Prop)}(M:∀m,m<=n->E8 enc P W B m 0 Y Rs)(O:P.cellsOf t=pH P 0 Y) :
  RD enc P W B (n+1) t λc m=>∃l,c = .agg l/\∃I,E7 Rs l I/\I+1<=m:=λU hf cs x D=>by
 obtain⟨xs,Q,rfl,rfl,N,K,J⟩:=DataW.trod_struct S D;subst V
 obtain⟨l,C,G,E⟩:=D3 (cs:=cs) _ 0 Rs xs (M Q ai) (λi A q T=>by
  simp at T;obtain⟨f,hf,O⟩:=T;obtain⟨rfl,rfl⟩:=O
  exact J i f (by simpa using hf)) adS (N.trans O)
 refine⟨.agg l,by simpa[CV.cells]using C,by simpa[CV.cells]using G,l,Z,_,E,?_⟩;have:=u.agg (xs.map (·.1));rwa[List.map_map]at this
def Gd(R:CV->Nat->Prop):Nat->L CV->Nat->Prop
 |0,l,_=>l=[]
 |n+1,l,m=>∃c k N I,l=c.cells++N/\R c k/\Gd R n N I/\k+I<=m
def RD.array(hB:CY B){n:Nat}{t e:TypeId}{len:Nat}(hu:P.underlying t=some (.array len e))(he:P.cellsOf t=len*P.cellsOf e){R:CV->Nat->Prop}(h:RD enc P W B n e R) :
  RD enc P W B (n+1) t λc m=>∃l,c = .agg l/\∃m',Gd R len l m'/\m'+1<=m:=λfuel hf cs x hx=>by
 have hx':∃(xs:L (DataW H×L MemPlace)) (m:Nat),fuel=m+1/\x=(.agg (xs.map (·.1)),xs.flatMap (·.2))/\cs.length=P.cellsOf t/\xs.length=len /\
   ∀(i:Nat),i<len->DataW.trod enc P W 0 (λ_=>true) true m e ((cs.drop (i*P.cellsOf e)).take (P.cellsOf e))=xs[i]?:=by
  cases fuel with
  |zero=>simp[DataW.trod]at hx
  |succ m =>
   unfold DataW.trod at hx
   rw[hu]at hx
   split at hx<;>simp_all
   obtain⟨hl,xs,hp,hd⟩:=hx
   exact⟨xs,hd.symm,by simpa using mapM_some_length hp,λi hi=>mapM_some_get hp i i (by simp[hi])⟩
 obtain⟨xs,m,rfl,rfl,hl,ZH,jy⟩:=hx'
 have key:∀(ys:L (DataW H×L MemPlace))(k:Nat),(∀i,i<ys.length->DataW.trod enc P W 0 (λ_=>true) true m e ((cs.drop ((k+i)*P.cellsOf e)).take (P.cellsOf e))=ys[i]?)->cs.length=(k+ys.length)*P.cellsOf e ->
   ∃l,b9 (rX W) l (cs.drop (k*P.cellsOf e))/\l.all CV.one=true/\Gd R ys.length l ((ys.map λx=>B x.1).sum):=by
  intro ys
  induction ys with
  |nil=>intro k _ hk;exact⟨[],by simp only[b9,List.drop_eq_nil_iff];simp at hk;omega,cc,by simp[Gd]⟩
  |cons y ys ih =>
   intro k hk hle
   obtain⟨l,l1,l2,l3⟩:=ih (k+1) (λi hi=>by
    have:=hk (i+1) ob
    rw[show k+1+i=k+(i+1)from by omega];simpa using this) (by rw[hle];congr 1;simp;omega)
   have h0:=hk 0 cc
   simp only[agb,ahq]at h0
   obtain⟨c,c1,c2,c3⟩:=h m ai _ _ h0
   refine⟨c.cells++l,?_,by rw[agV,c2,l2];rfl,c,_,l,_,Z,c3,l3,cc⟩
   have:=fO c1 l1
   rwa[air,<- List.drop_drop,agc]at this
 obtain⟨l,l1,l2,l3⟩:=key xs 0 (λi hi=>by rw[aeS];exact jy i ai) (by rw[hl,he,ZH,aeS])
 rw[ZH]at l3
 refine⟨.agg l,by simpa[CV.cells]using l1,by simpa[CV.cells]using l2,l,Z,_,l3,?_⟩
 have:=hB.agg (xs.map (·.1));rwa[List.map_map]at this
def BH{R:CV->Nat->Prop}{t e:TypeId}{v:Value}{d:DataW H}{U:L MemPlace}{J:Nat}{r:Reach}(T:P.underlying t=some (.slice e))(V:∀n,RD enc P W B n t R)
  (I:DataW.Trod enc P W 0 (λ_=>true) true t v d U)(hok:Value.okWide P W r J t v)(hR:∀c k,R c k->∃s l,c = .sl s l):∃c,Rel (rX W) c v/\R c (B d):=by
 obtain⟨Y,hf⟩:=I;obtain⟨c,h1,h2,K⟩:=V Y Y (aaV _) _ _ hf;refine⟨c,?_,K⟩;obtain⟨s,l,rfl⟩:=hR _ _ K;obtain⟨a,u,N,rfl⟩:=okWide_slice T hok;simp only[CV.cells,Value.cells,b9]at h1;simp_all
def adl(W:World):∀b o v,rX W b o=some v->W.cell? ⟨b,o,none⟩=some v:=λ_ _ _ h=>h
def Ln{w:World}{Y:Nat->Bool}:DataW.TrodVars enc P w Y [] [] []:=by simp[DataW.TrodVars]
def QL{f:Func}{s:ChangeSpec}{Y M V again:Bool}{Q:World}{G G':kE}{args:Array Value}{v:Value}{S gs:L (DataW H)}{before:L MemPlace}
  (A:DataW.Whole enc P f.params.toList s.vars Y W args.toList S gs before)(U:s.vars=[])
  (hl:laidOutB P=true)(hm:mapsRowed P=true)(hz:∀t e,t<P.types.size->P.underlying t=some (.slice e)->0<P.cellsOf e)(hT:∀t∈f.params.toList,t<P.types.size)
  (I:N7 W G Q G'){tb:TypeId}(hr:f.resultTypes = #[tb])(hb:P.underlying tb=some .bool){b:Bool}(hv:v = .bool b)
  (E:s.fn H (S++gs)={results:=[.lit (.bool b)],args:=S}):s.post enc P f Y M V again W args v Q:=by
 subst hv;have K:=A.lt;have u:=A;obtain⟨p,q,hA,hV,rfl,hfz,ZI⟩:=A;rw[U]at hV;obtain⟨rfl,rfl⟩:=trodVars_none hV;simp only[aeO]at *;have J:∀x∈p,W.sameAt Q x:=by
  intro x D;have:=I.block x.block (K x D);cases x with
  |cell C off=>simp only[World.sameAt,World.cell?];simp only[MemPlace.block]at this;rw[this]
  |map C=>exact this
 have T:∀O:Nat->Bool,(∀x∈p,O x.block=true)->DataW.TrodAll enc P Q 0 O true f.params.toList args.toList S p:=by
  intro O hsp;have h1:=DataW.TrodAll.respare (kids_rows hl hm) hz hT hA hsp;have:∀(ts:L TypeId)(vs:L Value)(S:L (DataW H))(B:L MemPlace),DataW.TrodAll enc P W 0 O true ts vs S B->(∀x∈B,W.sameAt Q x)->DataW.TrodAll enc P Q 0 O true ts vs S B:=by
   intro ts
   induction ts with
   |nil=>intro vs S B h _;obtain⟨rfl,rfl,rfl⟩:=trodAll_nil h;rfl
   |cons t ts ih =>
    intro vs S B h hs;obtain⟨v,vs',d,ds',p1,q1,rfl,rfl,rfl,⟨n,h2⟩,h3⟩:=trodAll_cons h;exact⟨p1,q1,⟨n,DataW.trod_carry n _ _ _ h2 λx D=>hs x (List.mem_append_left _ D)⟩,ih _ _ _ h3 λx D=>hs x (List.mem_append_right _ D),Z⟩
  exact this _ _ _ _ h1 J
 have N:∀(b0:Nat)(O:Nat->Bool)(hd:Bool),DataW.TrodAll enc P Q b0 O hd f.resultTypes.toList ((Value.bool b).resultList f.resultTypes.size) [.lit (.bool b)] []:=by intro b0 O hd;rw[hr];exact trodAll_mk1 (shut_bool hb b)
 have afB:W.keptBut Q (· ∈ p):=by
  refine⟨I.os,I.output,λi hi=>?_⟩;rw[I.block i hi];cases W.heap[i]? with
  |none=>simp
  |some o=>cases o<;>simp
 refine⟨S,[],p,[],p,[],by simpa using u,by simp only[aeO,E];exact N _ _ _,by simp only[aeO,E];exact T _ λx D=>by simpa using K x D,
  by simp_all;rfl,World.keptBut_mono (λx D=>⟨D,.inr (.inl D)⟩) afB,λ_=>?_⟩
 refine⟨ok_one hr Z (okWide_bool_mk hb b),_,_,([]++p)++[],⟨[]++p,[],trodAll_append (T _ (λ_ _=>rfl)) (N _ _ _),(by rw[U];exact Ln),Z,?_,?_⟩,?_⟩
 ·intro C off hp;have EI:MemPlace.cell C off∈p:=by simpa using hp
  rw[(I.kept C off (K _ EI)).2];exact hfz C off (by simpa using EI)
 simp_all;simp_all
end
end Go.cw
namespace Go.cw
section
variable {P : Program}{X : Ctx}{ops : Array Oper}{o : Oper}{rest : L Oper}{env : Env}{σ : St}{acc : L Fp}{Q : Env -> St -> L Fp -> Prop}
def ah.look(hX:cB P X)(kn:L Nat)(G:cY ops.toList kn env o=some true){d:Nat}(I:o.dst=some d){v:AV}(N:gv X σ.boxes (aG X env) o.op=some v)
  (B:nk (aG X env) o.op=[])(k:ah P X ops rest ((d,v)::env) σ (⟨[],[]⟩::acc) Q):ah P X ops (o::rest) env σ acc Q:=by
 have:=ah.step (Q:=Q) (rest:=rest) (acc:=acc) (dh G) (bN.pure (σ:=σ) hX N) (iJ.id _);rw[I,B]at this;exact this k
def ah.quo(hX:cB P X)(kn:L Nat)(G:cY ops.toList kn env o=some true){t Y:TypeId}{x y:Operand}(T:o.op = .binOp .quo t x y Y){d:Nat}(I:o.dst=some d){i:TI}(U:X.ti t=some i)
  {q:IntKind}{a b:Int}(D:aG X env x=some (.c (.int q a)))(W:aG X env y=some (.c (.int q b)))(A:sameKind q q=true)(V:b≠0)
  (k:ah P X ops rest ((d,.c (.int q (q.wrap (a.tdiv b))))::env) σ (⟨[],[]⟩::acc) Q):ah P X ops (o::rest) env σ acc Q:=by
 refine ah.look hX kn G I ?_ ?_ k;rw[T];simp only[gv,XE,XD];grind;rw[T];rfl
def ah.rem(hX:cB P X)(kn:L Nat)(G:cY ops.toList kn env o=some true){t Y:TypeId}{x y:Operand}(T:o.op = .binOp .rem t x y Y){d:Nat}(I:o.dst=some d){i:TI}(U:X.ti t=some i)
  {q:IntKind}{a b:Int}(D:aG X env x=some (.c (.int q a)))(W:aG X env y=some (.c (.int q b)))(A:sameKind q q=true)(V:b≠0)
  (k:ah P X ops rest ((d,.c (.int q (a.tmod b)))::env) σ (⟨[],[]⟩::acc) Q):ah P X ops (o::rest) env σ acc Q:=by
 refine ah.look hX kn G I ?_ ?_ k;rw[T];simp only[gv,XE,XD];grind;rw[T];rfl
end
end Go.cw
namespace Go.cw
def Xk:Char:=Char.ofNat 32
def chs(l:L Nat):L Char:=l.map Char.ofNat
def vV(b:L Char):∀(a:L Char),(a.all λc=>c != Xk)=true->wordsSigns (a++Xk::b)=a::wordsSigns b
 |[],_=>rfl
 |c::a,h=>by simp only[afQ,aaN,aiC]at h;have Y:=vV b a h.2;rw[aeN,wordsSigns];rw[Y];exact h.1
def Xl{P:Program}{a b c:L Char}{d:L Char}(h:P.initOrder=String.ofList (a++Xk::(b++Xk::(c++Xk::d))))(Y:(a.all λc=>c != Xk)=true)(U:(b.all λc=>c != Xk)=true)(I:(c.all λc=>c != Xk)=true)
  (M:∀T,behindMainWord (a::b::T)=T):∃T,behindMainWord (wordsSigns P.initOrder.toList)=c::T:=by
 refine⟨wordsSigns d,?_⟩;rw[h,String.toList_ofList,vV _ _ Y,vV _ _ U,vV _ _ I,M]
def aaz {P : Program} {c : L Char} (h : ∃ T, behindMainWord (wordsSigns P.initOrder.toList) = c :: T) (h1 : (c == "gc".toList || c == "spec".toList) = false) (h2 : (c == "cut".toList) = true) : P.make = some .cut := by
 obtain⟨T,h⟩:=h;unfold Program.make;simp_all
def Od{c:L Char}(T:L (L Char))(C:(liftWords.all λo=>c != o.toList)=true):stripLifts liftWords (c::T)=([],c::T):=by
 have Y:∀(l:L String),(l.all λo=>c != o.toList)=true->stripLifts l (c::T)=([],c::T):=by
  intro l
  induction l with
  |nil=>intro _;rfl
  |cons o l W =>
   intro h;simp at h;simp only[stripLifts];simp_all
 exact Y _ C
def XQ {P : Program} {c : L Char} (h : ∃ T, behindMainWord (wordsSigns P.initOrder.toList) = c :: T) (hs : (liftWords.all fun o => c != o.toList) = true) (h2 : (c == "cut".toList) = true) : P.headLifts = [] := by
 obtain⟨T,h⟩:=h;have D2 : c = "cut".toList := eq_of_beq h2;unfold Program.headLifts;rw[h,Od T hs];simp
def Xo {P : Program} {c : L Char} (h : ∃ T, behindMainWord (wordsSigns P.initOrder.toList) = c :: T) (hs : (liftWords.all fun o => c != o.toList) = true) (h2 : (c == "cut".toList) = true) (h3 : (c == "carried".toList) = false) : P.liftsFinal = false := by
 have h4:=XQ h hs h2;obtain⟨T,h⟩:=h;unfold Program.liftsFinal;simp_all
def Xp {P : Program} {c : L Char} (h : ∃ T, behindMainWord (wordsSigns P.initOrder.toList) = c :: T) (hs : (liftWords.all fun o => c != o.toList) = true) (h2 : (c == "cut".toList) = true)
  (h5:P.laysLater=false) (h6:P.bearsReflect=false) (h7:P.doorFits []=true):P.mayEnter=true:=by
 obtain⟨T,h⟩:=h;have D2 : c = "cut".toList := eq_of_beq h2;unfold Program.mayEnter;rw[h];simp only[Od T hs,h5,h6,h7];simp[D2]
def pL{P:Program}{f:FuncId}{C:Func}{s:ChangeSpec}{c:OpenClaim}(u:c.wf (OpenSpec.ofChange s)=true)(B:laidOutB P=true)(A:mapsRowed P=true)
  (q:C.params.all (P.readableRec ·)=true)(k5:namedTie P c.named s.vars=true)
  (k6:(c.stops==[])=true)(k7:(P.stops==[])=true)(k8:(c.knobs==[])=true)(k9:(P.stopKnobs==[])=true)
  (U:(c.inPlace==P.inPlace f)=true)(T:(c.unfollowed==P.unfollowed f)=true)(S:(c.recurses==P.recurses f)=true)(Q:(c.named==P.varsNamed f)=true)
  (W:((c.maps==(C.params.toList++s.plain.varTypes P).any (P.mapsRec ·))&&(c.ifaces==(C.params.toList++s.plain.varTypes P).any (P.ifacesRec ·))&&(c.mapsOut==P.mapsAmong C.resultTypes.toList))=true)
  (V:((c.loops==(C.params.toList++s.plain.varTypes P).any (P.loopsFrom ·))&&(c.wideKeys==(C.params.toList++s.plain.varTypes P++C.resultTypes.toList).any (P.wideKeysFrom ·)))=true)
  (Y:(s.vars.all (P.varReadable ·)&&C.resultTypes.all (λt=>P.readableRec t&&decide (t<P.types.size))&&(c.ifacesOut==C.resultTypes.toList.any (P.ifacesRec ·))&&(c.loopsOut==C.resultTypes.toList.any (P.loopsFrom ·)))=true)
  (O:(c.plainKeys==P.plainKeys)=true)(N:c.shortTexts.isNone=true)(M:P.stopsHeard=true)(K:P.mayEnter=true)(J:(c.lifted==P.liftsFinal)=true)(I:(P.make==some c.make)=true)
  (H:(c.kinds==(if c.domain.isEmpty then []else C.params.toList.map λt=>match P.underlying t with|some (.int k)=>some k|_=>none))=true)(G:(c.pinned==c.pinnedBy)=true)
  (E:(c.veiled==(C.params.toList++s.plain.varTypes P++C.resultTypes.toList).any (P.veiledRec ·))=true)(D:c.veiledFits P C.params.toList (C.params.toList++s.plain.varTypes P++C.resultTypes.toList)=true) :
  joinedFacts P f C s c=true:=by
 simp only[aaN]at W V Y;unfold joinedFacts;simp only[aaN];exact⟨⟨⟨⟨⟨⟨⟨⟨⟨⟨⟨⟨⟨⟨⟨⟨⟨⟨⟨⟨⟨⟨⟨⟨⟨⟨⟨⟨⟨⟨⟨u,B⟩,A⟩,q⟩,k5⟩,k6⟩,k7⟩,k8⟩,k9⟩,U⟩,T⟩,S⟩,Q⟩,W.1.1⟩,W.1.2⟩,W.2⟩,V.1⟩,V.2⟩,Y.1.1.1⟩,Y.1.1.2⟩,Y.1.2⟩,Y.2⟩,O⟩,N⟩,M⟩,K⟩,J⟩,I⟩,H⟩,G⟩,E⟩,D⟩
end Go.cw
