/- A layer of abstract values over the model, part B: -/
import Derived.Test.YtdnpapgijbhofaaGreatDoorLibA
import Derived.RowKit
import Derived.ReadAgain
import Derived.JoinedOf
set_option linter.defProp false
set_option linter.unusedSimpArgs false
set_option linter.unusedVariables false
namespace Go.cM
def rI{ops:Array Oper}{Y:L Fp}(h:om ops Y=true){i:Nat}{o:Oper}(W:ops[i]?=some o):∀e∈mS o,e<i:=by
 have K:i<ops.size:=by grind
 simp only[om,abc,ack,aal]at h;intro e S;have:=(h i K).1 e (by simpa[W]using S);simpa[ach]using this
def HF{ops:Array Oper}{Y:L Fp}(h:om ops Y=true){i j:Nat}(K:i<ops.size)(T:j<i) :
  ((Qb ops).getD i 0).testBit j=true\/indep ops j i (Y.getD j ⟨[],[]⟩) (Y.getD i ⟨[],[]⟩)=true:=by
 simp only[om,abc,ack,aal,aaz]at h;exact(h i K).2 j T
def D6{ops:Array Oper}{i j:Nat}{o:Oper}(Y:ops[i]?=some o)(h:((Qb ops).getD i 0).testBit j=true) :
  ∃e∈mS o,e=j\/((Qb ops).getD e 0).testBit j=true:=by
 have K:i<ops.size:=by grind
 obtain⟨e,h1,h2⟩:=BN (ops.toList.map mS) [] i ek (by simpa using K) j h;refine⟨e,?_,h2⟩;simp only[aad,acu,List.getD,List.getElem?_map,acf,Y]at h1;simpa using h1
def HG{ops:Array Oper}{P:L Fp}(U:om ops P=true){Y:Array Bool}
  (p:∀i o,Y.getD i false=true->ops[i]?=some o->∀e∈mS o,Y.getD e false=true) :
  ∀(n i:Nat),i<=n->∀o,ops[i]?=some o->(∀e∈mS o,Y.getD e false=true)->∀j,((Qb ops).getD i 0).testBit j=true->Y.getD j false=true:=by
 intro n
 induction n with
 |zero =>
  intro i K o W S j T;obtain⟨e,h1,h2⟩:=D6 W T;have:=rI U W e h1;omega
 |succ n O =>
  intro i K o W S j T;obtain⟨e,h1,h2⟩:=D6 W T;rcases h2 with rfl|h2
  ·exact S _ h1
  ·have E:=rI U W e h1;have D:=S e h1;cases V:ops[e]? with
   |none =>
    have K:i<ops.size:=by grind
    rw[Array.getElem?_eq_none_iff]at V;omega
   |some Q=>exact O e bn Q V (p e Q D V) j h2
def yH{ops:Array Oper}{Y:Array Bool}{i:Nat}:i∈Region.ready .any ops Y ↔
  i<ops.size/\Y.getD i true=false/\∃o,ops[i]?=some o/\∀e∈mS o,Y.getD e false=true:=by
 unfold Region.ready;simp only[List.mem_filter,ack,aal,acr];constructor
 ·rintro⟨h1,h2,K⟩;refine⟨h1,h2,?_⟩;cases W:ops[i]? with
  |none=>rw[W]at K;simp at K
  |some o =>
   refine⟨o,Z,?_⟩;rw[W]at K;simp only[ace,abJ,Array.all_eq_true']at K;intro e S;simp only[mS,List.mem_filterMap]at S;obtain⟨V,Q,T⟩:=S;split at T
   ·grind
   ·simp at T
 ·rintro⟨h1,h2,o,W,K⟩;refine⟨h1,h2,?_⟩;rw[W];simp only[ace,abJ,Array.all_eq_true'];intro V U;by_cases A:Region.binds .any V
  ·have:=K V.on (List.mem_filterMap.2 ⟨V,by simpa using U,by simp[A]⟩);simp[this]
  ·simp[A]
def sL.any{P:Program}{X:Ctx}{β:je}{n:Nat}{ops:Array Oper}(hd:qb ops n=true){Dh:L Fp}(hok:om ops Dh=true){Q:Exit->Act->World->Prop} :
  ∀(r:L (Nat×It))(listed:Array Bool),listed.size=ops.size ->
   (∀i,i∈r.map (·.1)↔i<ops.size/\listed.getD i true=false)->(r.map (·.1)).Pairwise (· < ·) ->
   (∀x∈r,x.2.fp=Dh.getD x.1 ⟨[],[]⟩) ->
   (∀i o,listed.getD i false=true->ops[i]?=some o->∀e∈mS o,listed.getD e false=true) ->
   ∀{env env':Env}{σ σ':St},sL P X ops r env σ env' σ'->∀{g:Gh}{w:World}{a:Act},Live X β n env σ g w a ->
   (∀g' w' a',Live X β n env' σ' g' w' a'->Q .normal a' w')->wpAny P .any ops Q r.length listed a w:=by
 intro r
 generalize hlen:r.length=len
 induction len generalizing r with
 |zero =>
  intro listed hsz hmem sB Yp ju env env' σ σ' hO g w a hL hQ
  have:r=[]:=abr hlen
  subst this
  obtain⟨rfl,rfl⟩:=hO
  refine⟨?_,hQ g w a hL⟩
  apply List.eq_nil_iff_forall_not_mem.2
  intro i hi
  obtain⟨h1,h2,_⟩:=yH.1 hi
  have:=(hmem i).2 ⟨h1,h2⟩
  simp at this
 |succ len ih =>
  intro listed hsz hmem sB Yp ju env env' σ σ' hO g w a hL hQ
  refine⟨λUY=>?_,λi hi=>?_⟩
  ·exfalso
   cases r with
   |nil=>simp at hlen
   |cons x r =>
    obtain⟨i,it⟩:=x
    have hm:=(hmem i).1 ek
    have ho:∃o,ops[i]?=some o:=⟨ops[i]'hm.1,by simp[hm.1]⟩
    obtain⟨o,ho⟩:=ho
    have:i∈Region.ready .any ops listed:=by
     refine yH.2 ⟨hm.1,hm.2,o,ho,λe he=>?_⟩
     have hlt:=rI hok ho e he
     cases hle:listed.getD e true with
     |true =>
      have:e<listed.size:=by omega
      simpa[Array.getD,this]using hle
     |false =>
      have:=(hmem e).2 ⟨bn,hle⟩
      simp only[Zl,ZI]at this
      rcases this with h|h
      ·omega
      ·simp only[Zl,acq]at sB
       have:=sB.1 e h
       omega
    rw[UY]at this
    simp at this
  ·obtain⟨h1,h2,o,ho,h3⟩:=yH.1 hi
   have hm:=(hmem i).2 ⟨h1,h2⟩
   obtain⟨⟨i',it⟩,hx,rfl⟩:=List.mem_map.1 hm
   simp only at *
   obtain⟨p,q,rfl⟩:=List.append_of_mem hx
   have hidx:∀x∈p,x.1<i':=by
    intro x WJ
    simp only[aan,Zl,acj]at sB
    exact sB.2.2 x.1 (List.mem_map_of_mem WJ) i' ek
   have Zd:∀x∈p,indep ops x.1 i' x.2.fp it.fp=true:=by
    intro x WJ
    have hlt:=hidx x WJ
    rcases HF hok h1 hlt with hb|hb
    ·exfalso
     have:=HG hok ju i' i' (aav _) o ho h3 x.1 hb
     have hm2:=(hmem x.1).1 (by simp;exact .inl ⟨x.2,WJ⟩)
     have Ze:x.1<listed.size:=by omega
     simp[Array.getD,Ze]at this hm2
     rw[this]at hm2;simp at hm2
    ·rw[Yp x (by simp[WJ]),Yp (i',it) ek];exact hb
   obtain⟨e1,s1,e2,s2,g1,g2,g3⟩:=sL.front Zd hO
   refine g1.wp hd hL λg' w' a' hL'=>?_
   have WK:∀k,(listed.setIfInBounds i' true).getD k true=if k=i' then true else listed.getD k true:=by
    intro k
    simp only[aaN,abN]
    by_cases hk:i'=k
    ·subst hk;simp[hsz,h1]
    ·rw[if_neg hk,if_neg (λe=>hk e.symm)]
   have UZ:∀k,(listed.setIfInBounds i' true).getD k false=if k=i' then true else listed.getD k false:=by
    intro k
    simp only[aaN,abN]
    by_cases hk:i'=k
    ·subst hk;simp[hsz,h1]
    ·rw[if_neg hk,if_neg (λe=>hk e.symm)]
   have Yq:i' ∉ (p++q).map (·.1):=by
    intro h
    simp only[aan,Y8]at h
    simp only[aan,Zl,acj,acq]at sB
    rcases h with h|h
    ·have:=sB.2.2 i' h i' ek;omega
    ·have:=sB.2.1.1 i' h;omega
   refine ih (p++q) (by simp at hlen ⊢;omega) _ (by simpa using hsz) ?_ ?_ ?_ ?_ g2 hL' ?_
   ·intro k
    rw[WK]
    have hk:=hmem k
    simp only[aan,Zl,Y8,ZI]at hk ⊢
    by_cases hki:k=i'
    ·subst hki
     simp only[aan,Y8]at Yq
     exact⟨λh=>absurd h Yq,λh=>by simp at h⟩
    ·simp only[hki,false_or,abg]at hk ⊢
     exact hk
   ·simp only[aan,Zl,acj,acq]at sB ⊢
    exact⟨sB.1,sB.2.1.2,λa ha b hb=>sB.2.2 a ha b (by simp[hb])⟩
   ·intro x VX
    exact Yp x (by simp at VX ⊢;rcases VX with h|h<;>simp[h])
   ·intro k ok pg hk2 e he
    rw[UZ]at pg ⊢
    by_cases OU:e=i'
    ·simp[OU]
    ·rw[if_neg OU]
     by_cases hki:k=i'
     ·subst hki
      rw[ho]at hk2;simp at hk2;subst hk2
      exact h3 e he
     ·rw[if_neg hki]at pg
      exact ju k ok pg hk2 e he
   ·intro vU w'' a'' Zf
    exact hQ vU w'' a'' (Zf.ext ⟨λt=>(g3.1 t).symm,λk=>(g3.2 k).symm⟩)
def kM(ρ:Operand->Option AV):Op->L Nat
 |.load _ x=>match ρ x with
  |some (.ptr k _)=>[k]
  |_=>[]
 |_=>[]
def td{X:Ctx}{ρ V:Operand->Option AV}(W:L (Nat×Nat)):∀(Y:L (Nat×Operand))(cells:L AV),(∀p∈Y,V p.2=ρ p.2) ->
  qD X V W Y cells=qD X ρ W Y cells
 |[],_,_=>rfl
 |(i,x)::rest,cells,h=>by
  simp only[qD,h (i,x) ek];have O:=λc=>td (X:=X) W rest c (λp q=>h p (by simp[q]));split
  ·simp_all
  ·rfl
def iX{ρ Ft:Operand->Option AV}:∀(l:L Operand),(∀x∈l,Ft x=ρ x)->gE Ft l=gE ρ l
 |[],_=>rfl
 |x::l,h=>by
  simp only[gE,h x ek,iX l (λy hy=>h y (by simp[hy]))]
def jL{ρ Y:Operand->Option AV}(o:Option Operand)(h:∀x,o=some x->Y x=ρ x):bound Y o=bound ρ o:=by
 cases o with
 |none=>rfl
 |some x=>simp only[bound,h x rfl]
def HH{X:Ctx}{boxes Qc:L (Nat×L AV)}{ρ Ft:Operand->Option AV}{op:Op}(h:∀x∈op.operands.toList,Ft x=ρ x)
  (hb:∀k∈kM ρ op,ak k Qc=ak k boxes):gl X Qc Ft op=gl X boxes ρ op:=by
 cases op with
 |move x=>exact h x lf
 |assign x=>exact h x lf
 |pick c a b=>simp only[gl,h c lf,h a lf,h b lf]
 |load t x =>
  have hx:=h x lf
  simp only[gl,hx]
  simp only[kM]at hb
  cases X.ti t with
  |none=>rfl
  |some i =>
   cases hr:ρ x with
   |none=>rfl
   |some a =>
    rw[hr]at hb
    cases a with
    |ptr k o=>simp only[hb k ek]
    |c v=>cases v<;>rfl
    |_=>rfl
 |nilCheck x=>simp only[gl,h x lf]
 |binOp op t x y yt=>simp only[gl,h x lf,h y lf]
 |unOp op t x=>simp only[gl,h x lf]
 |convert s d x=>simp only[gl,h x lf]
 |fieldAddr t x f=>simp only[gl,h x lf]
 |field t x f=>simp only[gl,h x lf]
 |indexAddr t x i=>simp only[gl,h x lf,h i lf]
 |index t x i=>simp only[gl,h x lf,h i lf]
 |extract x n=>simp only[gl,h x lf]
 |build t parts =>
  have:=λfs z=>td (X:=X) fs parts.toList z (λp hp=>h p.2 (by
   simp only[Op.operands,acM];exact⟨p,hp,Z⟩))
  simp only[gl,this]
 |slice t x lo hi mx =>
  have h1:=jL lo (λy hy=>h y Wc)
  have h2:=jL hi (λy hy=>h y Wc)
  have h3:=jL mx (λy hy=>h y Wc)
  simp only[gl,h x lf,h1,h2,h3]
 |makeFunc fn first caps =>
  cases fn with
  |func f =>
   have:=iX caps.toList (λy hy=>h y (by simp only[Op.operands,aaD,Y8];exact .inr hy))
   simp only[gl,this]
  |_=>rfl
 |call c =>
  obtain⟨callee,args,argTypes⟩:=c
  cases callee with
  |builtin b =>
   have hargs:∀x∈args.toList,Ft x=ρ x:=λx hx=>h x (by simpa[Op.operands,Call.operands]using hx)
   have hmap:args.toList.map Ft=args.toList.map ρ:=List.map_congr_left hargs
   cases b with
   |len =>
    simp only[gl]
    cases hl:args.toList with
    |nil=>rfl
    |cons x l =>
     rw[hl]at hargs
     have:=hargs x ek
     cases l with
     |cons y l=>rfl
     |nil =>
      cases argTypes.toList with
      |nil=>rfl
      |cons t l' =>
       cases l' with
       |nil=>simp only[this]
       |cons _ _=>rfl
   |min=>simp only[gl,hmap]
   |max=>simp only[gl,hmap]
   |_=>rfl
  |_=>rfl
 |_=>rfl
def bP.pure{P:Program}{X:Ctx}(hX:ct P X){o:Oper}{env:Env}{σ:St}{v:AV}(h:gl X σ.boxes (aJ X env) o.op=some v) :
  bP P X o env σ v (λσ=>σ) ⟨kM (aJ X env) o.op,[]⟩:=by
 intro V N w g a next Q h1 h2 Y U T W;have C:gl X N.boxes (aJ X V) o.op=some v:=by
  rw[HH h1 (λk D=>(h2 k (.inl D)).1)];exact h
 obtain⟨u,S,O⟩:=HD (P:=P) (w:=w) (g:=g) hX Y.nF (λk cs e=>by
  obtain⟨b,M,_,_,B⟩:=Y.box k cs e;exact⟨b,M,B⟩) (ev:=a.eval) (λx v I=>cn T U I) C
 unfold Oper.wp;rw[S,Oper.upon_value];exact W u w g O Y (gy.refl _ _ _) (Gh.le.refl _)
def ah(P:Program)(X:Ctx)(ops:Array Oper)(rest:L Oper)(env:Env)(σ:St)(acc:L Fp)(Q:Env->St->L Fp->Prop):Prop :=
 ∀i,ops.toList.drop i=rest->∃(Y:L It) (env':Env) (u:St),Y.length=rest.length/\sL P X ops ((List.range' i rest.length).zip Y) env σ env' u /\
  Q env' u (acc.reverse++Y.map It.fp)
section
variable {P : Program}{X : Ctx}{ops : Array Oper}{i : Nat}{o : Oper}{rest : L Oper}{env : Env}{σ : St}{acc : L Fp}{Q : Env -> St -> L Fp -> Prop}
def ah.nil(h:Q env σ acc.reverse):ah P X ops [] env σ acc Q :=
 λ_ _=>⟨[],env,σ,Z,⟨Z,Z⟩,q6⟩
def D7{ops:Array Oper}(h:ops.toList.drop i=o::rest):ops[i]?=some o/\ops.toList.drop (i+1)=rest:=by
 constructor
 ·have:=yG h;simpa using this
 ·have:=Zb List.tail h;simpa[List.tail_drop]using this
def ah.step{v:AV}{wL:St->St}{fp:Fp}(hg:pK ops o env)(hs:bP P X o env σ v wL fp)(hE:gA wL fp)
  (k:ah P X ops rest (xg o.dst v env) (wL σ) (fp::acc) Q):ah P X ops (o::rest) env σ acc Q:=by
 intro i h
 obtain⟨ho,hr⟩:=D7 h
 obtain⟨NJ,env',σ',h1,h2,h3⟩:=k (i+1) hr
 refine⟨⟨true,v,wL,fp⟩::NJ,env',σ',TL,?_,by simpa using h3⟩
 simp only[aac,List.range'_succ,List.zip_cons_cons]
 exact⟨_,_,⟨o,ho,Z,Z,hE,.inr ⟨Z,hg,hs⟩⟩,h2⟩
def ah.skip(hg:oI ops o env)(k:ah P X ops rest (xg o.dst (.c .undef) env) σ (⟨[],[]⟩::acc) Q):ah P X ops (o::rest) env σ acc Q:=by
 intro i h
 obtain⟨ho,hr⟩:=D7 h
 obtain⟨NJ,env',σ',h1,h2,h3⟩:=k (i+1) hr
 refine⟨It.skip::NJ,env',σ',TL,?_,by simpa[It.skip]using h3⟩
 simp only[aac,List.range'_succ,List.zip_cons_cons]
 exact⟨_,_,⟨o,ho,Z,Z,gA.id _,.inl ⟨Z,hg⟩⟩,h2⟩
def simple:Op->Bool
 |.indexAddr _ _ _=>false
 |.index _ _ _=>false
 |.slice _ _ _ _ _=>false
 |.binOp .quo _ _ (.tmp _) _=>false
 |.binOp .rem _ _ (.tmp _) _=>false
 |.binOp .shl _ _ (.tmp _) _=>false
 |.binOp .shr _ _ (.tmp _) _=>false
 |_=>true
def mem(k:Nat):L Nat->Bool
 |[]=>false
 |x::l=>match Nat.beq x k with
  |true=>true
  |false=>mem k l
def cS(W:L Oper)(kn:L Nat)(env:Env)(o:Oper):Option Bool :=
 match o.guard with
 |none=>some true
 |some (j,Y)=>match mem j kn with
  |false=>none
  |true=>match nth W j with
   |none=>none
   |some V=>match V.dst with
    |none=>none
    |some d=>match ak d env with
     |some (.c (.bool b))=>match Y with
      |true=>some b
      |false=>some (!b)
     |some (.c .undef)=>some false
     |_=>none
def Zg(ks:L Nat)(acc:L Fp):L Fp:=match ks with
 |[]=>⟨[],[]⟩::acc
 |k::l=>⟨k::l,[]⟩::acc
inductive U0 where
 |at(rest:List Oper) (env:Env) (acc:List Fp)
 |stuck
def tf(X:Ctx)(Y:L Oper)(W:L (Nat×L AV))(kn:L Nat):Nat->L Oper->Env->L Fp->U0
 |0,rest,env,acc => .at rest env acc
 |_+1,[],env,acc => .at [] env acc
 |n+1,o::rest,env,acc=>match simple o.op with
  |false => .at (o::rest) env acc
  |true=>match cS Y kn env o with
   |none => .at (o::rest) env acc
   |some false=>match o.dst with
    |some d=>tf X Y W kn n rest ((d,.c .undef)::env) (⟨[],[]⟩::acc)
    |none=>tf X Y W kn n rest env (⟨[],[]⟩::acc)
   |some true=>match gl X W (aJ X env) o.op with
    |none => .at (o::rest) env acc
    |some v=>match o.dst,kM (aJ X env) o.op with
     |some d,[]=>tf X Y W kn n rest ((d,v)::env) (⟨[],[]⟩::acc)
     |some d,k::l=>tf X Y W kn n rest ((d,v)::env) (⟨k::l,[]⟩::acc)
     |none,ks=>tf X Y W kn n rest env (⟨ks,[]⟩::acc)
def qG{kn:L Nat}{b:Bool}(h:cS ops.toList kn env o=some b):if b then pK ops o env else oI ops o env:=by
 unfold cS at h;unfold pK oI;split at h
 ·simp_all
 ·rename_i j W p;simp only[p];split at h
  ·simp at h
  ·split at h
   ·simp at h
   ·rename_i U Y;split at h
    ·simp at h
    ·rename_i d V;have T:oH ops j=some d:=by
      rw[qf]at Y;simp only[oH];rw[<- acf,Y];simp[V]
     split at h
     ·grind
     ·simp_all
     ·simp at h
def ah.run(hX:ct P X)(n:Nat)(kn:L Nat):∀{rest:L Oper}{env:Env}{acc:L Fp}{K:L Oper}{env':Env}{Y:L Fp},
  tf X ops.toList σ.boxes kn n rest env acc = .at K env' Y->ah P X ops K env' σ Y Q->ah P X ops rest env σ acc Q:=by
 induction n with
 |zero=>intro rest env acc K env' Y h k;simp[tf]at h;obtain⟨rfl,rfl,rfl⟩:=h;exact k
 |succ n O =>
  intro rest env acc K env' Y h k;cases rest with
  |nil=>simp[tf]at h;obtain⟨rfl,rfl,rfl⟩:=h;exact k
  |cons o rest =>
   have stop:U0.at (o::rest) env acc = .at K env' Y->ah P X ops (o::rest) env σ acc Q:=by simp_all
   simp only[tf]at h;split at h
   ·exact stop h
   ·split at h
    ·exact stop h
    ·rename_i p;have:=qG p;simp at this;split at h
     ·rename_i d W;refine ah.skip this ?_;rw[W];exact O h k
     ·rename_i W;refine ah.skip this ?_;rw[W];exact O h k
    ·rename_i p;have:=qG p;simp at this;split at h
     ·exact stop h
     ·rename_i v B;have M:ah P X ops rest (xg o.dst v env) σ (⟨kM (aJ X env) o.op,[]⟩::acc) Q->ah P X ops (o::rest) env σ acc Q :=
       ah.step this (bP.pure hX B) (gA.id _)
      split at h
      ·rename_i d W D;rw[W,D]at M;exact M (O h k)
      ·rename_i d k' l W D;rw[W,D]at M;exact M (O h k)
      ·rename_i W;rw[W]at M;exact M (O h k)
def DV(X:Ctx)(Y:L Oper)(W:L (Nat×L AV))(kn:L Nat)(n:Nat)(rest:L Oper)(env:Env)(acc:L Fp):U0 :=
 match rest with
 |[] => .stuck
 |o::rest=>match cS Y kn env o with
  |none => .stuck
  |some false=>match o.dst with
   |some d=>tf X Y W kn n rest ((d,.c .undef)::env) (⟨[],[]⟩::acc)
   |none=>tf X Y W kn n rest env (⟨[],[]⟩::acc)
  |some true=>match gl X W (aJ X env) o.op with
   |none => .stuck
   |some v=>match o.dst,kM (aJ X env) o.op with
    |some d,[]=>tf X Y W kn n rest ((d,v)::env) (⟨[],[]⟩::acc)
    |some d,k::l=>tf X Y W kn n rest ((d,v)::env) (⟨k::l,[]⟩::acc)
    |none,ks=>tf X Y W kn n rest env (⟨ks,[]⟩::acc)
def ah.JR(hX:ct P X)(n:Nat)(kn:L Nat){env:Env}{acc:L Fp}{K:L Oper}{env':Env}{Y:L Fp}
  (h:DV X ops.toList σ.boxes kn n rest env acc = .at K env' Y)(k:ah P X ops K env' σ Y Q):ah P X ops rest env σ acc Q:=by
 unfold DV at h;split at h
 ·simp at h
 ·rename_i o rest;split at h
  ·simp at h
  ·rename_i p;have:=qG p;simp at this;refine ah.skip this ?_;split at h<;>rename_i W<;>rw[W]<;>exact ah.run hX n kn h k
  ·rename_i p;have:=qG p;simp at this;split at h
   ·simp at h
   ·rename_i v B;have M:ah P X ops rest (xg o.dst v env) σ (⟨kM (aJ X env) o.op,[]⟩::acc) Q->ah P X ops (o::rest) env σ acc Q :=
     ah.step this (bP.pure hX B) (gA.id _)
    split at h
    ·rename_i d W D;rw[W,D]at M;exact M (ah.run hX n kn h k)
    ·rename_i d k' l W D;rw[W,D]at M;exact M (ah.run hX n kn h k)
    ·rename_i W;rw[W]at M;exact M (ah.run hX n kn h k)
def Fu(Y:Option Nat):L Oper->Nat
 |[]=>1
 |o::rest=>match o.guard with
  |none=>Fu Y rest+1
  |some (j,_)=>match Y with
   |some W=>match Nat.beq j W with
    |true=>Fu Y rest+1
    |false=>0
   |none=>0
def L1:L Oper->Nat
 |[]=>0
 |o::rest=>match o.guard with
  |none=>Fu none rest
  |some (j,_)=>Fu (some j) rest
def ah.Y0(hX:ct P X)(kn:L Nat){rest:L Oper}{env:Env}{acc:L Fp}{K:L Oper}{env':Env}{Y:L Fp}
  (h:DV X ops.toList σ.boxes kn (L1 rest) rest env acc = .at K env' Y)(k:ah P X ops K env' σ Y Q):ah P X ops rest env σ acc Q:=ah.JR hX _ kn h k
def ah.split{j d:Nat}{Y b:Bool}(p:o.guard=some (j,Y))(V:oH ops j=some d)(A:ak d env=some (.c (.bool b)))
  (h1:b=true->ah P X ops (o::rest) env σ acc Q)(h2:b=false->ah P X ops (o::rest) env σ acc Q):ah P X ops (o::rest) env σ acc Q:=by grind
end
end Go.cM
namespace Go.cM
def top(f:FuncId):Frame:={(default:Frame)with fn:=f,kind := .normal}
def AK(P:Program)(X:Ctx)(f:FuncId)(n:Nat)(β:je)(R:Ending->World->Prop)(K:L Item)(env:Env)(σ:St):Prop :=
 ∀(g:Gh)(w:World)(a:Act)(cs:L Frame),Live X β n env σ g w a ->
  ∃e w' H,R e w'/\Comes P (lone ((top f).at a K) cs w) (lone H cs w') e/\H.fn=f/\H.leaving P w' e
section
variable {P : Program}{X : Ctx}{f : FuncId}{n : Nat}{β : je}{R : Ending -> World -> Prop}{K : L Item}{env : Env}{σ : St}
def AK.go{M:L Item}(V:∀(a:Act)(cs:L Frame)(w:World),Steps P (lone ((top f).at a K) cs w) (lone ((top f).at a M) cs w))(h:AK P X f n β R M env σ):AK P X f n β R K env σ :=
 λg w a cs Y=>let ⟨e,w',H,h1,h2,W,U⟩:=h g w a cs Y;⟨e,w',H,h1,h2.of_steps (V a cs w),W,U⟩
def AK.seq{x y:Code}(h:AK P X f n β R (.code x :: .code y::K) env σ):AK P X f n β R (.code (.seq x y)::K) env σ :=
 AK.go (λ_ _ _ => .one step_seq) h
def AK.skip(h:AK P X f n β R K env σ):AK P X f n β R (.code .skip::K) env σ :=
 AK.go (λ_ _ _ => .one step_skip) h
def AK.block{id:Nat}{c:Code}(h:AK P X f n β R (.code c :: .inBlock id::K) env σ):AK P X f n β R (.code (.block id c)::K) env σ :=
 AK.go (λ_ _ _ => .one step_block) h
def AK.inBlock{id:Nat}(h:AK P X f n β R K env σ):AK P X f n β R (.inBlock id::K) env σ :=
 AK.go (λ_ _ _ => .one step_inBlock) h
def AK.loop{c:Code}(h:AK P X f n β R (.code c :: .inLoop c::K) env σ):AK P X f n β R (.code (.loop c)::K) env σ :=
 AK.go (λ_ _ _ => .one step_loop) h
def AK.inLoop{c:Code}(h:AK P X f n β R (.code c :: .inLoop c::K) env σ):AK P X f n β R (.inLoop c::K) env σ :=
 AK.go (λ_ _ _ => .one step_inLoop) h
def AK.exit{id:Nat}{M:L Item}(e:exitTo id K=some M)(h:AK P X f n β R M env σ):AK P X f n β R (.code (.exit id)::K) env σ :=
 AK.go (λ_ _ _ => .one (step_exit e)) h
def AK.cond{c:Operand}{x y:Code}{b:Bool}(A:aJ X env c=some (.c (.bool b)))(h:AK P X f n β R (.code (if b then x else y)::K) env σ) :
  AK P X f n β R (.code (.cond c x y)::K) env σ:=by
 intro g w a cs Y;obtain⟨e,w',H,h1,h2,W,V⟩:=h g w a cs Y;have:=cn Y.env Y.qe A;simp only[aI,Rel]at this;exact⟨e,w',H,h1,h2.of_steps (.one (step_cond this)),W,V⟩
def AK.TY{c:Operand}{x y:Code}(hc:aJ X env c=some (.c (.bool true)))(h:AK P X f n β R (.code x::K) env σ) :
  AK P X f n β R (.code (.cond c x y)::K) env σ:=AK.cond hc q6
def AK.TZ{c:Operand}{x y:Code}(hc:aJ X env c=some (.c (.bool false)))(h:AK P X f n β R (.code y::K) env σ) :
  AK P X f n β R (.code (.cond c x y)::K) env σ:=AK.cond hc q6
def AK.zB{c:Operand}{x y:Code}{b:Bool}(A:aJ X env c=some (.c (.bool b)))(h1:b=true->AK P X f n β R (.code x::K) env σ)
  (h2:b=false->AK P X f n β R (.code y::K) env σ):AK P X f n β R (.code (.cond c x y)::K) env σ:=by
 cases b
 ·exact AK.TZ A (h2 Z)
 ·exact AK.TY A (h1 Z)
def AK.region(hm:P.follows .mixedOrders=true){id:Nat}{ops:Array Oper}{draw:Bool}(hd:qb ops n=true)
  (h:ah P X ops ops.toList env σ [] (λenv' σ' Dh=>(draw=true->om ops Dh=true)/\AK P X f n β R K env' σ')) :
  AK P X f n β R (.code (.region id ops draw)::K) env σ:=by
 obtain⟨NJ,env',σ',hlen,WL,L6,hK⟩:=h 0 ek
 intro g w a cs hL
 have hlen':NJ.length=ops.size:=by simpa using hlen
 rw[List.reverse_nil,aaV]at L6
 have hmap:(((List.range' 0 ops.toList.length).zip NJ).map (·.1))=List.range ops.size:=by
  rw[List.map_fst_zip (by simp[hlen'])];simp[List.range_eq_range']
 have hwp:(Code.region id ops draw).wp P (λe a' w'=>e = .normal/\∃g',Live X β n env' σ' g' w' a') a w:=by
  cases draw with
  |false =>
   apply wp_region
   rw[<- hmap]
   exact sL.wp hd WL hL λg' w' a' hL'=>⟨Z,g',hL'⟩
  |true =>
   apply wp_region_any hm
   have hL2:Live X β n env σ g {w with drawn:=w.drawn+1} a :=
    ⟨⟨hL.inv.nF,λk cs e=>by
      obtain⟨b,b1,b2,b3,b4⟩:=hL.inv.box k cs e
      exact⟨b,b1,b2,b3,cg.of_same (w:=w) (w':={w with drawn:=w.drawn+1}) (λo=>⟨rfl,rfl⟩) b4⟩,
     hL.inv.fo,hL.inv.tok,hL.inv.ga,hL.inv.used,hL.inv.room⟩,hL.qe,hL.env,
     hL.frame.trans ⟨Z,Z,Z,aav _,λ_ _ _=>rfl,λ_ _ _ _=>⟨Z,Z⟩,iJ.le.refl _,λ_ _ _ h => .inl h,λk cs b h1 h2 => .inr ⟨k,cs,h1,h2⟩,
      λk n b lo hi h1 h2 => .inr ⟨k,n,lo,hi,h1,h2,aav _,aav _⟩,λ_ _ h=>⟨h,Z,Z⟩⟩,hL.size,hL.defers⟩
   have hl:((List.range' 0 ops.toList.length).zip NJ).length=ops.size:=by simp[hlen']
   have WM:=sL.any hd (L6 Z) ((List.range' 0 ops.toList.length).zip NJ) (Array.replicate ops.size false) ek ?_ ?_ ?_ ?_ WL hL2
    (Q:=λe a' w'=>e = .normal/\∃g',Live X β n env' σ' g' w' a') λg' w' a' hL'=>⟨Z,g',hL'⟩
   ·rw[hl]at WM;exact WM
   ·intro i
    rw[hmap]
    simp only[ack]
    constructor
    ·intro hi;exact⟨hi,by simp[Array.getD,hi]⟩
    ·exact λh=>h.1
   ·rw[hmap];exact List.pairwise_lt_range
   ·intro x hx
    obtain⟨k,hk⟩:=abv hx
    rw[List.getElem?_zip_eq_some]at hk
    obtain⟨k1,k2⟩:=hk
    have k3:k=x.1:=by
     have hlt:k<ops.toList.length:=by
      have:=(List.getElem?_eq_some_iff.1 k1).1;simpa using this
     rw[List.getElem?_range' hlt]at k1
     simpa using k1
    subst k3
    simp[List.getD,k2]
   ·intro i o hi
    exfalso
    simp only[Array.getD]at hi
    split at hi
    ·simp at hi
    ·simp at hi
 obtain⟨e,a',w',⟨rfl,g',hL'⟩,Zh⟩:=hwp (top f) K cs
 obtain⟨e,w'',fr,h1,h2,h3,h4⟩:=hK g' w' a' cs hL'
 exact⟨e,w'',fr,h1,h2.of_steps Zh,h3,h4⟩
def ah.done{ops:Array Oper}{acc:L Fp}(h:AK P X f n β R K env σ) :
  ah P X ops [] env σ acc (λenv' u Y=>(false=true->om ops Y=true)/\AK P X f n β R K env' u) :=
 ah.nil ⟨(λh=>by simp at h),h⟩
def ah.drawn{ops:Array Oper}{acc:L Fp}(hok:om ops acc.reverse=true)(h:AK P X f n β R K env σ) :
  ah P X ops [] env σ acc (λenv' u Y=>(true=true->om ops Y=true)/\AK P X f n β R K env' u) :=
 ah.nil ⟨λ_=>hok,h⟩
def rJ(X:Ctx)(W:L (Nat×L AV))(env:Env):L ResultVar->Option (L AV)
 |[]=>some []
 |.tmp t::l=>match ak t env,rJ X W env l with
  |some a,some r=>some (a::r)
  |_,_=>none
 |.cell t ty::l=>match gl X W (aJ X env) (.load ty (.tmp t)),rJ X W env l with
  |some a,some r=>some (a::r)
  |_,_=>none
def mP(X:Ctx)(W:L (Nat×L AV))(env:Env)(rs:L ResultVar):Option AV :=
 match rJ X W env rs with
 |some [a]=>some a
 |some (a::b::l)=>some (.gb (a::b::l))
 |_=>none
def zN(Y:Array Value):ResultVar->Sem Value
 |.tmp t=>pure (Y.getD t undef)
 |.cell b t=>do loadVar t (<- asAddr (Y.getD b undef))
def vW(P:Func)(Y:Array Value):results P Y=(do
  let vs<-P.results.mapM (zN Y)
  pure (if h:vs.size=1 then vs[0]else .tuple vs)):=by
 unfold results;congr
def HI(Y:Addr):asAddr (.pointer (some Y))=pure Y:=rfl
def AI(hX:ct P X){g:Gh}{w:World}{a:Act}(hL:Live X β n env σ g w a):∀{rs:L ResultVar}{l:L AV},rJ X σ.boxes env rs=some l ->
  ∃vs:L Value,(rs.mapM (zN a.tmps)).run P w = .ok vs w/\bC g l vs
 |[],l,h=>by simp[rJ]at h;subst h;exact⟨[],ek,by simp[bC]⟩
 |.tmp t::rs,l,h=>by
  simp only[rJ]at h;split at h
  ·rename_i x r h1 h2;simp at h;subst h;obtain⟨vs,e1,e2⟩:=AI hX hL h2;refine⟨a.tmps.getD t undef::vs,?_,by simp only[bC];exact⟨_,_,Z,hL.env t x h1,e2⟩⟩;simp only[acB,zN,Sem.run_bind,Sem.run_pure,Result.andThen_ok];simp only[show(List.mapM (zN a.tmps) rs).run P w = .ok vs w from e1];rfl
  ·simp at h
 |.cell t ty::rs,l,h=>by
  simp only[rJ]at h;split at h
  ·rename_i x r h1 h2;simp at h;subst h;obtain⟨vs,e1,e2⟩:=AI hX hL h2
   obtain⟨u,r1,r2⟩:=HD (P:=P) (w:=w) (g:=g) hX hL.inv.nF (λk cs e=>by
    obtain ⟨b, b1, _, _, b2⟩ := hL.inv.box k cs e; exact ⟨b, b1, b2⟩) (ev := a.eval) (fun x v hx => cn hL.env hL.qe hx) (o := ⟨none, .load ty (.tmp t), 0, "", #[], none⟩) h1
   simp only[execOp,Act.eval,Instr.loadAt]at r1;have r3:∃ad,a.tmps.getD t undef = .pointer (some ad)/\(loadVar ty ad).run P w = .ok u w:=by
    cases hv:a.tmps.getD t undef with
    |pointer p =>
     cases p with
     |none=>rw[hv]at r1;simp[Instr.sureAddr]at r1
     |some ad =>
      refine⟨ad,Z,?_⟩;rw[hv]at r1;simp only[Instr.sureAddr,Sem.run_bind,Sem.run_pure,Result.andThen_ok]at r1;cases hr:(loadVar ty ad).run P w with
      |ok u' w'=>rw[hr]at r1;simp at r1;obtain⟨rfl,rfl⟩:=r1;rfl
      |halt _ _=>rw[hr]at r1;simp at r1
    |_=>rw[hv]at r1;simp[Instr.sureAddr]at r1
   obtain⟨ad,r4,r5⟩:=r3;refine⟨u::vs,?_,by simp only[bC];exact⟨_,_,Z,r2,e2⟩⟩;simp only[acB,zN,Sem.run_bind,r4,HI,Sem.run_pure,Result.andThen_ok,r5];simp only[show(List.mapM (zN a.tmps) rs).run P w = .ok vs w from e1];rfl
  ·simp at h
def rK(hX:ct P X){fn:Func}{g:Gh}{w:World}{a:Act}(hL:Live X β n env σ g w a){r:AV}(h:mP X σ.boxes env fn.results.toList=some r) :
  ∃u,(results fn a.tmps).run P w = .ok u w/\aI g r u:=by
 unfold mP at h
 have key:∀l,rJ X σ.boxes env fn.results.toList=some l->∃vs:L Value,(fn.results.mapM (zN a.tmps)).run P w = .ok vs.toArray w/\bC g l vs:=by
  intro l hl
  obtain⟨vs,e1,e2⟩:=AI hX hL hl
  refine⟨vs,?_,e2⟩
  rw[abW]
  simp only[Sem.run_map,e1,Result.andThen_ok]
 split at h
 ·rename_i x hl
  simp at h;subst h
  obtain⟨vs,e1,e2⟩:=key _ hl
  simp only[bC]at e2
  obtain⟨u,us,rfl,e3,rfl⟩:=e2
  refine⟨u,?_,e3⟩
  rw[vW,Sem.run_bind,e1]
  simp
 ·rename_i x y l hl
  simp at h;subst h
  obtain⟨vs,e1,e2⟩:=key _ hl
  have D8:=e2
  simp only[bC]at D8
  obtain⟨u,us,rfl,e3,u2,Zi,rfl,e4,e5⟩:=D8
  refine⟨.tuple (u::u2::Zi).toArray,?_,by simp only[aI];exact⟨_,Z,e2,ek⟩⟩
  rw[vW,Sem.run_bind,e1]
  simp
 ·simp at h
def AK.ret(hX:ct P X){W:Func}(hf:P.funcs[f]?=some W){r:AV}(E:mP X σ.boxes env W.results.toList=some r)
  (h:∀g w u,aI g r u->Inv w g σ->mA X g.G->gy β.w β.g β.σ w g σ->R (.returned u) w):AK P X f n β R (.code .ret::K) env σ:=by
 intro g w a cs Y;obtain⟨u,h1,h2⟩:=rK hX Y E;exact⟨.returned u,w,_,h g w u h2 Y.inv Y.qe Y.frame,.one step_ret,Z,Z,Y.defers,Z,W,hf,h1⟩
def AK.fin(hX:ct P X){W:Func}(hf:P.funcs[f]?=some W){r:AV}(E:mP X σ.boxes env W.results.toList=some r)
  (h:∀g w u,aI g r u->Inv w g σ->mA X g.G->gy β.w β.g β.σ w g σ->R (.returned u) w):AK P X f n β R [] env σ:=by
 intro g w a cs Y;obtain⟨u,h1,h2⟩:=rK hX Y E;exact⟨.returned u,w,_,h g w u h2 Y.inv Y.qe Y.frame,.one step_end,Z,Z,Y.defers,Z,W,hf,h1⟩
end
end Go.cM
namespace Go.cM
def Enters(P:Program)(f:FuncId):Prop:=∀(J:Array Value)(w:World),(callFunc f J).run P w = .ok (.enter f J) w
structure HJ(w:World)(G:iJ)(w':World)(G':iJ):Prop where
 os:w'.os=w.os
 tape:w'.tape=w.tape
 output:w'.output=w.output
 size:w.heap.size<=w'.heap.size
 block:∀b,b<w.heap.size->w'.heap[b]?=w.heap[b]?
 le:G.le G'
 new:∀b o v,G' b o=some v->G b o=some v\/w.heap.size<=b
 nF:∀b o v,G' b o=some v->w'.cell? ⟨b,o,none⟩=some v
def aZ(P:Program)(X:Ctx)(f:FuncId)(J:L CV)(r:CV):Prop :=
 Enters P f/\∀(G:iJ)(w:World)(vs:L Value),(∀b o v,G b o=some v->w.cell? ⟨b,o,none⟩=some v)->mA X G->bI G J vs ->
  Calls P f vs.toArray w λe w'=>∃u Y,e = .returned u/\Rel Y r u/\HJ w G w' Y
def HJ.kept{w w':World}{G Y:iJ}(h:HJ w G w' Y)(b o:Nat)(A:b<w.heap.size) :
  w'.cell? ⟨b,o,none⟩=w.cell? ⟨b,o,none⟩/\w'.frozen? ⟨b,o,none⟩=w.frozen? ⟨b,o,none⟩:=by
 have:=h.block b A;constructor
 ·simp only[World.cell?,this]
 ·simp only[World.frozen?,this]
def aZ.of{P:Program}{X:Ctx}{f:FuncId}{fn:Func}{c:Code}{args:L CV}{r:CV}(hf:P.funcs[f]?=some fn)(hb:fn.body=some c)(he:Enters P f)
  (hn:args.length<=fn.ntmps)(env:Env)(de:env=(args.zipIdx.map λ(v,i)=>(i,AV.c v)))
  (h:∀β,β.σ=⟨[],[],[]⟩->AK P X f fn.ntmps β (λe w'=>∃u g',e = .returned u/\Rel g'.G r u/\gy β.w β.g β.σ w' g' ⟨[],[],[]⟩/\∀b o v,g'.G b o=some v->w'.cell? ⟨b,o,none⟩=some v) [.code c] env ⟨[],[],[]⟩) :
  aZ P X f args r:=by
 refine⟨he,λG w vs gL cu fJ cs=>?_⟩
 let g:Gh:=⟨G,λ_=>none,λ_=>none,λ_=>0⟩
 let β:je:=⟨w,g,⟨[],[],[]⟩⟩
 have hlen:=(bI.get fJ).1
 have hL:Live X β fn.ntmps env ⟨[],[],[]⟩ g w {tmps:=vs.toArray++Array.replicate (fn.ntmps-vs.toArray.size) undef,defers:=[]}:=by
  refine⟨⟨gL,?_,?_,?_,?_,?_,λk cs b e=>by simp[ak]at e⟩,cu,?_,gy.refl _ _ _,?_,Z⟩
  ·intro k cs e;simp[ak]at e
  ·simp_all
  ·intro k n e;simp[ak]at e
  ·simp_all
  ·grind
  ·intro t a e
   subst de
   have key:∀(l:L CV)(us:L Value)(k:Nat),bI G l us->ak t ((l.zipIdx k).map λ(v,i)=>(i,AV.c v))=some a->k<=t/\∃u,us[t-k]?=some u/\aI g a u:=by
    intro l
    induction l with
    |nil=>intro us k _ e;simp[ak]at e
    |cons v l ih =>
     intro us k hr e
     simp only[bI]at hr
     obtain⟨u,us,rfl,h1,h2⟩:=hr
     simp only[abi,Zl,an]at e
     split at e
     ·rename_i ht;subst ht;simp at e;subst e
      exact⟨aav _,u,ek,Ui⟩
     ·grind
   obtain⟨_,u,h4,h5⟩:=key args vs 0 fJ e
   simp at h4
   have hlt:t<vs.length:=(List.getElem?_eq_some_iff.1 h4).1
   have:(vs.toArray++Array.replicate (fn.ntmps-vs.toArray.size) undef).getD t undef=u:=by
    rw[aaN,Z4 (by simpa using hlt)]
    simp[h4]
   rw[this];exact h5
  ·simp;omega
 obtain⟨e,w',fr,⟨u,g',rfl,h1,h2,h3⟩,h4,h5,h6⟩:=h β rfl g w _ cs hL
 have rL:Frame.enter P f vs.toArray .normal =
   (top f).at {tmps:=vs.toArray++Array.replicate (fn.ntmps-vs.toArray.size) undef,defers:=[]} [.code c]:=by
  simp[Frame.enter,Frame.at,hf,hb,top]
 refine⟨_,w',fr,⟨u,g'.G,Z,h1,⟨h2.os,h2.tape,h2.output,h2.size,λb hb=>h2.block b hb ?_,h2.le,λb o v hv=>?_,h3⟩⟩,by rw[rL];exact h4,h5,h6⟩
 ·rintro o (⟨k,cs,e,_⟩|⟨k,n,lo,hi,e,_⟩)<;>simp[β,ak]at e
 ·rcases h2.new b o v hv with h|h|h
  ·exact .inl h
  ·exact .inr h
  ·rcases h with ⟨k,cs,e,_⟩|⟨k,n,lo,hi,e,_⟩<;>simp[β,ak]at e
section
variable {P : Program}{X : Ctx}
abbrev QR(β:je)(r:CV):Ending->World->Prop:=λe w'=>∃u g',e = .returned u/\Rel g'.G r u/\gy β.w β.g β.σ w' g' ⟨[],[],[]⟩/\∀b o v,g'.G b o=some v->w'.cell? ⟨b,o,none⟩=some v
def gy.forget{w w':World}{g g':Gh}{σ u:St}(h:gy w g σ w' g' u):gy w g σ w' g' ⟨[],[],[]⟩ where
 os:=h.os
 tape:=h.tape
 output:=h.output
 size:=h.size
 block:=h.block
 kept:=h.kept
 le:=h.le
 new:=h.new
 boxes:=λk cs b e=>by simp[ak]at e
 toks:=λk n b H K e=>by simp[ak]at e
 ids:=λk _ e=>by simp[ak]at e
def AK.Wt(hX:ct P X){f:FuncId}{n:Nat}{β:je}{K:L Item}{env:Env}{σ:St}{Y:Func}(hf:P.funcs[f]?=some Y){r:AV}{E W:CV}
  (V:mP X σ.boxes env Y.results.toList=some r)(A:close r=some E)(S:E=W):AK P X f n β (QR β W) (.code .ret::K) env σ:=by
 subst S;refine AK.ret hX hf V λg w u h1 h2 T U=>?_;exact⟨u,g,Z,(qE r E u A h1).1,U.forget,h2.nF⟩
def eO{G:iJ}:∀{a b:L CV}{us vs:L Value},bI G a us->bI G b vs->bI G (a++b) (us++vs)
 |[],b,us,vs,h1,h2=>by simp only[bI]at h1;subst h1;simpa using h2
 |x::a,b,us,vs,h1,h2=>by
  simp only[bI]at h1;obtain⟨u,us,rfl,K,W⟩:=h1;simp only[Zy,bI];exact⟨u,us++vs,Z,K,eO W h2⟩
def BO{w w':World}{g:Gh}{σ:St}{W:iJ}(q:Inv w g σ)(B:HJ w g.G w' W) :
  Inv w' ⟨W,g.box,g.tok,g.room⟩ σ/\gy w g σ w' ⟨W,g.box,g.tok,g.room⟩ σ/\g.le ⟨W,g.box,g.tok,g.room⟩:=by
 have D:g.le ⟨W,g.box,g.tok,g.room⟩:=⟨B.le,λ_ _ h=>h,λ_ _ _=>rfl,λk J U h=>⟨J,U,h,aav _,λ_=>rfl⟩⟩
 have Y:∀b o,b<w.heap.size->g.G b o=none->W b o=none:=by
  intro b o A h;cases p:W b o with
  |none=>rfl
  |some v =>
   rcases B.new b o v p with C|C
   ·simp_all
   ·omega
 refine⟨⟨B.nF,?_,q.fo,?_,q.ga,q.used,?_⟩,⟨B.os,B.tape,B.output,B.size,λb A _=>B.block b A,λb o A _=>B.kept b o A,B.le,λb o v h=>?_,?_,?_,?_⟩,D⟩
 ·intro k cs e;obtain⟨b,h1,h2,K,V⟩:=q.box k cs e;exact⟨b,h1,aaU h2 B.size,λo=>Y b o h2 (K o),(cg.of_same (λo=>B.kept b o h2) V).mono D⟩
 ·intro k n e;obtain⟨U,h1,h2⟩:=q.tok k n e;refine⟨U,h1,λb T H E=>?_⟩;obtain⟨K,V,S⟩:=h2 b T H E;refine⟨aaU K B.size,λo Q P=>?_,S⟩;obtain⟨O,⟨u,N⟩,h8⟩:=V o Q P;exact⟨Y b o K O,⟨u,(B.kept b o K).1.trans N⟩,(B.kept b o K).2.trans h8⟩
 ·intro k cs b e A o;obtain⟨b',h1,h2,_⟩:=q.box k cs e;rw[A]at h1;cases h1;obtain⟨K,V⟩:=q.room k cs b e A o;exact⟨λM=>(K M).imp λu I=>(B.kept b o h2).1.trans I,(B.kept b o h2).2.trans V⟩
 ·exact(B.new b o v h).imp id .inl
 ·grind
 ·grind
 ·simp_all
def bP.Qd{o:Oper}{env:Env}{σ:St}{f:FuncId}{args:Array Operand}{ts:Array TypeId}(ho:o.op = .call {callee := .value (.func f),args:=args,argTypes:=ts})
  {nJ:L CV}{r:CV}(ha:gE (aJ X env) args.toList=some nJ)(hq:aZ P X f nJ r):bP P X o env σ (.c r) (λσ=>σ) ⟨[],[]⟩:=by
 intro cT σ1 w g a next Q h1 h2 hinv cu de hnext
 have vX:gE (aJ X cT) args.toList=some nJ:=by
  rw[iX _ (λx hx=>h1 x sk)];exact ha
 have fJ:=mE (g:=g) (ev:=a.eval) (λx v hx=>cn de cu hx) vX
 have hrun:(execOp a.eval o).run P w = .ok (.enter f (args.map a.eval)) w:=by
  obtain⟨dst,op,type,pos,after,guard⟩:=o
  simp only at ho;subst ho
  simp[execOp,resolve,Deferred.ofValue,invoke,Act.eval,hq.1 _ w]
 unfold Oper.wp
 rw[hrun,Oper.upon_enter]
 have:=hq.2 g.G w _ hinv.nF cu fJ
 rw[show(args.toList.map a.eval).toArray=args.map a.eval from by rw[<- aaP]]at this
 refine this.mono ?_
 rintro e w' ⟨u,G',rfl,h3,h4⟩
 obtain⟨h5,h6,h7⟩:=BO hinv h4
 exact hnext u w' _ Xw h5 h6 h7
def bP.Qe{o:Oper}{env:Env}{σ:St}{f:FuncId}{x:Operand}{caps:L CV}{args:Array Operand}{ts:Array TypeId}(ho:o.op = .call {callee := .value x,args:=args,argTypes:=ts})
  (hx:aJ X env x=some (.c (.sH f caps))){nJ:L CV}{r:CV}(ha:gE (aJ X env) args.toList=some nJ)(hq:aZ P X f (nJ++caps) r) :
  bP P X o env σ (.c r) (λσ=>σ) ⟨[],[]⟩:=by
 intro cT σ1 w g a next Q h1 h2 hinv cu de hnext
 have vX:gE (aJ X cT) args.toList=some nJ:=by
  rw[iX _ (λx hx=>h1 x sk)];exact ha
 have hx':aJ X cT x=some (.c (.sH f caps)):=by
  rw[h1 x P5];exact hx
 have fJ:=mE (g:=g) (ev:=a.eval) (λx v hx=>cn de cu hx) vX
 have WN:=cn (a:=a) de cu hx'
 simp only[aI,Rel]at WN
 obtain⟨us,hu,WO⟩:=WN
 have hrun:(execOp a.eval o).run P w = .ok (.enter f (args.map a.eval++us.toArray)) w:=by
  obtain⟨dst,op,type,pos,after,guard⟩:=o
  simp only at ho;subst ho
  simp[execOp,resolve,hu,Deferred.ofValue,invoke,hq.1 _ w]
 unfold Oper.wp
 rw[hrun,Oper.upon_enter]
 have:=hq.2 g.G w _ hinv.nF cu (eO fJ WO)
 rw[show(args.toList.map a.eval++us).toArray=args.map a.eval++us.toArray from by rw[<- aaP];simp]at this
 refine this.mono ?_
 rintro e w' ⟨u,G',rfl,h3,h4⟩
 obtain⟨h5,h6,h7⟩:=BO hinv h4
 exact hnext u w' _ Xw h5 h6 h7
end
end Go.cM
namespace Go.cM
def St.dS(σ:St)(d:Nat)(cells:L AV):St:=⟨(d,cells)::σ.boxes,σ.toks,d::σ.used⟩
def oK(d:Nat)(cells:L AV):gA (λσ=>σ.dS d cells) ⟨[],[d]⟩ where
 out:=λσ k D=>by
  have:k≠d:=by simpa using D
  refine⟨?_,Z,?_⟩
  ·simp only[St.dS,an,if_neg this]
  ·simp[St.dS,this]
 same:=λσ N h k D=>by
  have:k=d:=by simpa using D
  subst this;refine⟨?_,(h k (.inr ek)).2.1,?_⟩
  ·simp[St.dS,an]
  ·simp[St.dS]
def tg{g:Gh}{a:AV}{u:Value}(h:a.one=true)(E:aI g a u):u.oneCell'=true:=by
 cases a with
 |c v =>
  simp only[AV.one]at h;simp only[aI]at E;cases v<;>simp[CV.one]at h<;>simp only[Rel]at E
  case int=>subst E;rfl
  case bool=>subst E;rfl
  case str=>subst E;rfl
  case kI=>subst E;rfl
  case sl=>obtain⟨_,_,_,rfl,_⟩:=E;rfl
  case ip=>obtain⟨_,_,rfl,_⟩:=E;rfl
  case sH=>obtain⟨_,rfl,_⟩:=E;rfl
  case any=>cases u<;>first|rfl|exact absurd Z (E.1 _)|exact absurd Z (E.2 _)
  case pJ=>obtain⟨_,rfl⟩:=E;rfl
 |own=>simp only[aI]at E;obtain⟨_,_,_,rfl,_⟩:=E;rfl
 |ptr=>simp only[aI]at E;obtain⟨_,_,rfl⟩:=E;rfl
 |fZ=>simp only[aI]at E;obtain⟨_,_,_,_,rfl,_⟩:=E;rfl
 |any =>
  simp only[aI]at E;cases u<;>first|rfl|exact absurd Z (E.1 _)|exact absurd Z (E.2 _)
 |agg=>simp[AV.one]at h
 |gb=>simp[AV.one]at h
section
variable {P : Program}{X : Ctx}
def Fv{w:World}{g:Gh}{σ:St}{d:Nat}{cells:L AV}{us:Array Value}{t:TypeId}(hinv:Inv w g σ)(hd:d ∉ σ.used)(U3:d<1000000)(hr:bC g cells (us.toList.take cells.length))(ho:cells.all AV.one=true) :
  let g':Gh:=⟨g.G,λk=>if k=d then some w.heap.size else g.box k,g.tok,λk=>if k=d then us.size else g.room k⟩
  let w':World:={w with heap:=w.heap.push (.cells us t)}
  Inv w' g' (σ.dS d cells)/\gy w g σ w' g' (σ.dS d cells)/\g.le g'/\aI g' (.ptr d 0) (.pointer (some ⟨w.heap.size,0,none⟩)):=by
 intro g' w'
 have Qf:g.box d=none:=by
  cases h:g.box d with
  |none=>rfl
  |some b=>exact absurd (hinv.used d (.inl ri)) hd
 have hdb:∀k cs,ak k σ.boxes=some cs->k≠d:=by
  rintro k cs e rfl
  obtain⟨b,h1,_⟩:=hinv.box _ cs e
  rw[Qf]at h1;simp at h1
 have hle:g.le g':=⟨iJ.le.refl _,λk b h=>by
  by_cases hk:k=d
  ·subst hk;rw[Qf]at h;simp at h
  ·simp[g',hk,h],λk b h=>by
  by_cases hk:k=d
  ·subst hk;rw[Qf]at h;simp at h
  ·simp[g',hk],λk hw fI h=>⟨hw,fI,h,aav _,λ_=>rfl⟩⟩
 have hold:∀b o,b<w.heap.size->w'.cell? ⟨b,o,none⟩=w.cell? ⟨b,o,none⟩/\w'.frozen? ⟨b,o,none⟩=w.frozen? ⟨b,o,none⟩:=by
  intro b o hb
  exact⟨World.cell?_alloc_old w _ ⟨b,o,none⟩ QF,World.frozen?_alloc_old w _ ⟨b,o,none⟩ QF⟩
 have hsz:w'.heap.size=w.heap.size+1:=by simp[w']
 have Fw:∀b o v,g.G b o=some v->b<w.heap.size:=λb o v h=>World.block_lt_of_cell? w ⟨b,o,none⟩ (hinv.nF b o v h)
 have ie:cg w' g' w.heap.size 0 cells:=by
  obtain⟨h1,h2⟩:=bC.get hr
  apply cg.jo
  intro j c hj
  obtain⟨u,e1,e2⟩:=h2 j c hj
  refine⟨⟨u,?_,aI.mono hle _ _ e2,?_⟩,?_⟩
  ·have:=World.cell?_alloc_new w us t (0+j)
   rw[show(w.alloc (.cells us t))=w' from rfl]at this
   rw[this]
   rw[aba]at e1
   split at e1
   ·simpa using e1
   ·simp at e1
  ·rw[abc]at ho;exact ho c (aaA hj)
  ·exact World.frozen?_alloc_new w us t (0+j)
 refine⟨⟨?_,?_,?_,?_,hinv.ga,?_,?_⟩,⟨Z,Z,Z,bn,λb hb _=>by show(w.heap.push _)[b]?=_;rw[abz,if_neg bn],λb o hb _=>hold b o hb,iJ.le.refl _,λ_ _ _ h => .inl h,?_,?_,λk hk h=>⟨by simp only[St.dS,an]at h;rwa[if_neg bn]at h,by simp only[g'];rw[if_neg bn],by simp only[g'];rw[if_neg bn]⟩⟩,hle,by simp only[aI];exact⟨_,XM,Z⟩⟩
 ·intro b o v h
  rw[(hold b o (Fw b o v h)).1];exact hinv.nF b o v h
 ·intro k cs e
  simp only[St.dS,an]at e
  split at e
  ·rename_i hk;subst hk;simp at e;subst e
   refine⟨w.heap.size,XM,bn,?_,ie⟩
   intro o
   cases hg:g.G w.heap.size o with
   |none=>rfl
   |some v=>have:=Fw _ _ _ hg;omega
  ·rename_i hk
   obtain⟨b,h1,h2,h3,h4⟩:=hinv.box k cs e
   exact⟨b,by simp[g',hk,h1],bn,h3,(cg.of_same (λo=>hold b o h2) h4).mono hle⟩
 ·intro k k' cs cs' b e e' h1 h2
  simp only[St.dS,an]at e e'
  simp only[g']at h1 h2
  split at e
  ·rename_i hk
   rw[if_pos hk]at h1;simp at h1
   split at e'
   ·rename_i hk';rw[hk,hk']
   ·rename_i hk'
    rw[if_neg hk']at h2
    obtain⟨b',h3,h4,_⟩:=hinv.box k' cs' e'
    rw[h3]at h2;simp at h2;omega
  ·rename_i hk
   rw[if_neg hk]at h1
   split at e'
   ·rename_i hk'
    rw[if_pos hk']at h2;simp at h2
    obtain⟨b',h3,h4,_⟩:=hinv.box k cs e
    rw[h3]at h1;simp at h1;omega
   ·rename_i hk'
    rw[if_neg hk']at h2
    exact hinv.fo k k' cs cs' b e e' h1 h2
 ·intro k n e
  obtain⟨fI,h1,h2⟩:=hinv.tok k n e
  refine⟨fI,h1,λb lo hi hr=>?_⟩
  obtain⟨h3,h4,h5⟩:=h2 b lo hi hr
  refine⟨bn,λo HK Kj=>?_,λk' cs e'=>?_⟩
  ·obtain⟨h6,⟨u,h7⟩,h8⟩:=h4 o HK Kj
   exact⟨h6,⟨u,(hold b o h3).1.trans h7⟩,(hold b o h3).2.trans h8⟩
  ·simp only[St.dS,an]at e'
   simp only[g']
   split at e'
   ·rename_i hk;rw[if_pos hk];simp;omega
   ·rename_i hk;rw[if_neg hk];exact h5 k' cs e'
 ·intro k e
  simp only[St.dS,ZI]
  by_cases hk:k=d
  ·exact .inl hk
  ·right
   apply hinv.used k
   simpa[g',hk]using e
 ·intro k cs b e h o
  simp only[St.dS,an]at e
  simp only[g']at h ⊢
  split at e
  ·rename_i hk
   rw[if_pos hk]at h
   rw[if_pos hk]
   simp at h;subst h
   have h1:=World.cell?_alloc_new w us t o
   rw[show(w.alloc (.cells us t))=w' from rfl]at h1
   have h2:=World.frozen?_alloc_new w us t o
   rw[show(w.alloc (.cells us t))=w' from rfl]at h2
   exact⟨λho=>⟨us[o],by rw[h1];simp[ho]⟩,h2⟩
  ·rename_i hk
   rw[if_neg hk]at h
   rw[if_neg hk]
   obtain⟨b',h3,h4,_⟩:=hinv.box k cs e
   rw[h]at h3;cases h3
   obtain⟨h5,h6⟩:=hinv.room k cs b e h o
   exact⟨λho=>(h5 ho).imp λu hu=>(hold b o h4).1.trans hu,(hold b o h4).2.trans h6⟩
 ·intro k cs b e h
  simp only[St.dS,an]at e
  simp only[g']at h
  split at e
  ·rename_i hk;rw[if_pos hk]at h;simp at h;left;omega
  ·rename_i hk;rw[if_neg hk]at h;exact .inr ⟨k,cs,e,h⟩
 ·exact YM
def Kk{w:World}{g:Gh}{σ:St}{d:Nat}{cells:L AV}{us:Array Value}{t:TypeId}(hinv:Inv w g σ)(hd:d ∉ σ.used)(U3:d<1000000)(hr:bC g cells us.toList)(ho:cells.all AV.one=true) :
  let g':Gh:=⟨g.G,λk=>if k=d then some w.heap.size else g.box k,g.tok,λk=>if k=d then us.size else g.room k⟩
  let w':World:={w with heap:=w.heap.push (.cells us t)}
  Inv w' g' (σ.dS d cells)/\gy w g σ w' g' (σ.dS d cells)/\g.le g'/\aI g' (.ptr d 0) (.pointer (some ⟨w.heap.size,0,none⟩)):=by
 have hl:cells.length=us.toList.length:=(bC.get hr).1
 exact Fv (t:=t) hinv hd U3 (by rw[hl,List.take_length];exact hr) ho
def cQ{d:Nat}:∀{l:L Nat},mem d l=false->d ∉ l
 |[],_=>by simp
 |x::l,h=>by
  simp only[mem]at h;split at h
  ·simp at h
  ·rename_i I;have:=beq_false I;simp[cQ h,Ne.symm this]
def HL(d:Nat)(l:L Nat):Bool:=match Nat.blt d 1000000 with
 |true=>mem d l
 |false=>true
def AJ{d:Nat}{l:L Nat}(h:HL d l=false):d<1000000/\mem d l=false:=by
 unfold HL at h;split at h
 ·simp_all
 ·simp at h
def bP.box{o:Oper}{env:Env}{σ:St}{t:TypeId}{x:Operand}{d:Nat}(ho:o.op = .box t x)(hd:o.dst=some d){a:AV}(ha:aJ X env x=some a){cells:L AV}
  (hc:jq a=some cells)(hu:HL d σ.used=false):bP P X o env σ (.ptr d 0) (λσ=>σ.dS d cells) ⟨[],[d]⟩:=by
 intro cT σ1 w g act next Q h1 h2 hinv cu de hnext
 have vX:aJ X cT x=some a:=by rw[h1 x nu];exact ha
 obtain⟨c1,c2⟩:=uy hc (cn (a:=act) de cu vX)
 have hd':d ∉ σ1.used:=λh=>cQ (AJ hu).2 ((h2 d (.inr ek)).2.2.1 h)
 have hrun:(execOp act.eval o).run P w = .ok (.value (.pointer (some ⟨w.heap.size,0,none⟩))) {w with heap:=w.heap.push (.cells (act.eval x).cells t)}:=by
  obtain⟨dst,op,type,pos,after,guard⟩:=o
  simp only at ho;subst ho
  simp[execOp,Instr.box,newVar,newRow]
 unfold Oper.wp
 rw[hrun,Oper.upon_value]
 obtain⟨h3,h4,h5,h6⟩:=Kk (t:=t) hinv hd' (AJ hu).1 c1 c2
 exact hnext _ _ _ h6 h3 h4 h5
def bP.alloc(hX:ct P X){o:Oper}{env:Env}{σ:St}{t:TypeId}{d:Nat}(ho:o.op = .alloc t)(hd:o.dst=some d){i:TI}(hi:X.ti t=some i){za:AV}(hz:i.zero=some za){cells:L AV}
  (hc:jq za=some cells)(hu:HL d σ.used=false):bP P X o env σ (.ptr d 0) (λσ=>σ.dS d cells) ⟨[],[d]⟩:=by
 intro cT σ1 w g act next Q h1 h2 hinv cu de hnext
 obtain⟨z,z1,z2,z3⟩:=hX.kL (w:=w) hi hz
 obtain⟨c1,c2⟩:=uy hc (z2 g)
 have hd':d ∉ σ1.used:=λh=>cQ (AJ hu).2 ((h2 d (.inr ek)).2.2.1 h)
 have hrun:(execOp act.eval o).run P w = .ok (.value (.pointer (some ⟨w.heap.size,0,none⟩))) {w with heap:=w.heap.push (.cells z.cells t)}:=by
  obtain⟨dst,op,type,pos,after,guard⟩:=o
  simp only at ho;subst ho
  simp[execOp,Instr.alloc,newVar,newRow,z1]
 unfold Oper.wp
 rw[hrun,Oper.upon_value]
 obtain⟨h3,h4,h5,h6⟩:=Kk (t:=t) hinv hd' (AJ hu).1 c1 c2
 exact hnext _ _ _ h6 h3 h4 h5
def St.oL(σ:St)(k:Nat)(cells:L AV):St:=⟨sK k cells σ.boxes,σ.toks,σ.used⟩
def Kl(k:Nat)(cells:L AV):gA (λσ=>σ.oL k cells) ⟨[],[k]⟩ where
 out:=λσ j T=>by
  have:j≠k:=by simpa using T
  exact⟨by simp only[St.oL,ej,if_neg this],Z,Iff.rfl⟩
 same:=λσ N h j T=>by
  have:j=k:=by simpa using T
  subst this;exact⟨by simp[St.oL,ej],(h j (.inr ek)).2.1,(h j (.inr ek)).2.2⟩
def heap_setCell(w:World)(a:Addr)(u:Value)(k:Nat)(h:k≠a.block):(w.setCell a u).heap[k]?=w.heap[k]?:=by
 simp only[World.setCell,Array.getElem?_modify];rw[if_neg bn]
def lM{w:World}(b:Nat):∀(vs:L Value)(o i:Nat)(w:World),(∀v∈vs,v.oneCell'=true) ->
  (∀j,j<vs.length->(∃u,w.cell? ⟨b,o+i+j,none⟩=some u)/\w.frozen? ⟨b,o+i+j,none⟩=false) ->
  ∃w',(storeCells ⟨b,o,none⟩ vs i).run P w = .ok () w'/\(w'.heap.size=w.heap.size/\w'.os=w.os/\w'.tape=w.tape/\w'.output=w.output/\∀b',b'≠b->w'.heap[b']?=w.heap[b']?) /\
   (∀b' o',b'≠b\/o'<o+i\/o+i+vs.length<=o'->w'.cell? ⟨b',o',none⟩=w.cell? ⟨b',o',none⟩) /\
   (∀b' o',w'.frozen? ⟨b',o',none⟩=w.frozen? ⟨b',o',none⟩) /\
   ∀j v,vs[j]?=some v->w'.cell? ⟨b,o+i+j,none⟩=some v
 |[],o,i,w,_,_=>⟨w,by simp[storeCells],⟨Z,Z,Z,Z,λ_ _=>rfl⟩,λ_ _ _=>rfl,λ_ _=>rfl,ek⟩
 |v::vs,o,i,w,h1,h2=>by
  obtain⟨⟨u,hu⟩,hf⟩:=h2 0 ek
  simp only[aaL]at hu hf
  have hv:=h1 v ek
  have hst:(store (Addr.add ⟨b,o,none⟩ i) v).run P w = .ok () (w.setCell ⟨b,o+i,none⟩ v):=by
   rw[Addr.add_lit]
   have:=run_store P w ⟨b,o+i,none⟩ v .plain hv
   rw[this];simp[hu,hf]
  obtain⟨w',r1,r2,r3,r4,r5⟩:=lM (w:=w) b vs o (i+1) (w.setCell ⟨b,o+i,none⟩ v) (λx hx=>h1 x (by simp[hx])) (by
   intro j hj
   obtain⟨⟨u',Yr⟩,hf'⟩:=h2 (j+1) ot
   refine⟨⟨u',?_⟩,?_⟩
   ·rw[World.cell?_setCell_other w _ _ _ ot]
    rwa[show o+(i+1)+j=o+i+(j+1)from by omega]
   ·rw[World.frozen?_setCell]
    rwa[show o+(i+1)+j=o+i+(j+1)from by omega])
  refine⟨w',?_,⟨by simpa using r2.1,r2.2.1,r2.2.2.1,r2.2.2.2.1,λb' hb'=>(r2.2.2.2.2 b' hb').trans (heap_setCell w _ _ _ hb')⟩,?_,?_,?_⟩
  ·simp only[storeCells,Sem.run_bind,hst,Result.andThen_ok,r1]
  ·intro b' o' h
   rw[r3 b' o' (by simp at h ⊢;omega),World.cell?_setCell_other w]
   intro e
   simp at e h
   obtain⟨rfl,rfl⟩:=e
   omega
  ·simp_all
  ·intro j v' hj
   cases j with
   |zero =>
    simp at hj;subst hj
    rw[r3 b _ (by right;left;omega)]
    exact World.cell?_setCell_same w _ _ hu
   |succ j =>
    simp at hj
    have:=r5 j v' hj
    rwa[show o+(i+1)+j=o+i+(j+1)from by omega]at this
def bP.store(hX:ct P X){o:Oper}{env:Env}{σ:St}{t:TypeId}{x y:Operand}(ho:o.op = .store t x y)(hd:o.dst=none){i:TI}(hi:X.ti t=some i){key off:Nat}
  (hx:aJ X env x=some (.ptr key off)){a:AV}(hy:aJ X env y=some a){cells vs r:L AV}(hb:ak key σ.boxes=some cells)(hc:jq a=some vs)
  (hl:vs.length=i.size)(hw:dI off vs cells=some r):bP P X o env σ (.c .undef) (λσ=>σ.oL key r) ⟨[],[key]⟩:=by
 intro cT σ1 w g act next Q h1 h2 hinv cu de hnext
 have hx':aJ X cT x=some (.ptr key off):=by rw[h1 x nu];exact hx
 have hy':aJ X cT y=some a:=by rw[h1 y nu];exact hy
 have hb':ak key σ1.boxes=some cells:=by rw[(h2 key (.inr ek)).1];exact hb
 have rx:=cn (a:=act) de cu hx'
 simp only[aI]at rx
 obtain⟨b,ym,ex⟩:=rx
 obtain⟨c1,c2⟩:=uy hc (cn (a:=act) de cu hy')
 obtain⟨b',Fx,WQ,V1,hbc⟩:=hinv.box key cells hb'
 rw[ym]at Fx;simp at Fx;subst Fx
 obtain⟨l1,l2⟩:=bC.get c1
 have hne:i.size≠0:=by obtain⟨_,_,_,_,_,_,hh⟩:=hX.ti t i hi;exact hh
 obtain⟨w1,w2,w3⟩:=nj hw
 have hfit:off+vs.length<=cells.length:=by
  cases vs with
  |nil=>simp at hl;omega
  |cons u us=>exact Kh hw
 obtain⟨w',r1,r2,r3,r4,r5⟩:=lM (P:=P) (w:=w) b (act.eval y).cells.toList off 0 w (by
   intro u hu
   obtain⟨j,hj⟩:=abv hu
   have hjl:j<vs.length:=by rw[l1];exact(List.getElem?_eq_some_iff.1 hj).1
   obtain⟨u',e1,e2⟩:=l2 j vs[j] (by simp[hjl])
   rw[hj]at e1;simp at e1;subst e1
   rw[abc]at c2
   exact tg (c2 _ (abI hjl)) e2) (by
   intro j hj
   have hjl:off+j<cells.length:=by rw[<- l1]at hj;omega
   obtain⟨⟨u,e1,_⟩,e2⟩:=hbc.get (off+j) cells[off+j] (by simp[hjl])
   simp only[ZG,aaL]at e1 e2 ⊢
   exact⟨⟨u,e1⟩,e2⟩)
 have hrun:(execOp act.eval o).run P w = .ok .skip w':=by
  obtain⟨dst,op,type,pos,after,guard⟩:=o
  simp only at ho;subst ho
  have hsz:(act.eval y).cells.size=i.size:=by rw[<- hl,l1];simp
  simp only[execOp,ex,Instr.storeAt,Instr.sureAddr,storeVar,Sem.run_bind,Sem.run_pure,Result.andThen_ok,hX.run_sizeOf hi]
  rw[if_neg (by simpa using hsz),r1];rfl
 unfold Oper.wp
 rw[hrun,Oper.upon_skip,hd]
 have th:∀b' o',b'≠b->w'.cell? ⟨b',o',none⟩=w.cell? ⟨b',o',none⟩:=λb' o' h=>r3 b' o' (.inl h)
 have Zj:∀b' o' v,g.G b' o'=some v->b'≠b:=by
  rintro b' o' v h rfl;rw[V1]at h;simp at h
 have:=hnext Go.undef w' g rj ⟨?_,?_,?_,?_,hinv.ga,hinv.used,?_⟩ ⟨r2.2.1,r2.2.2.1,r2.2.2.2.1,bn,λb' hb0 hno=>r2.2.2.2.2 b' (by rintro rfl;exact hno 0 (.inl ⟨key,cells,hb',ym⟩)),?_,iJ.le.refl _,λ_ _ _ h => .inl h,?_,?_,λk _ h=>⟨by simp only[St.oL,ej]at h;split at h;(· rename_i hk;subst hk;rw[hb'];simp);(· exact h),rfl,rfl⟩⟩ (Gh.le.refl _)
 ·simp_all
 ·intro b' o' v h
  rw[th b' o' (Zj b' o' v h)];exact hinv.nF b' o' v h
 ·intro k cs e
  simp only[St.oL,ej]at e
  split at e
  ·rename_i hk;subst hk;simp at e;subst e
   refine⟨b,ym,bn,V1,?_⟩
   apply cg.jo
   intro j c hj
   rw[w3]at hj
   simp only[ZG]
   split at hj
   ·rename_i hin
    obtain⟨u,e1,e2⟩:=l2 _ _ hj
    refine⟨⟨u,?_,e2,?_⟩,?_⟩
    ·have:=r5 (j-off) u (by simpa using e1)
     rwa[show off+0+(j-off)=j from by omega]at this
    ·rw[abc]at c2;exact c2 c (aaA hj)
    ·rw[r4]
     have hjl:j<cells.length:=by omega
     have:=(hbc.get j cells[j] (by simp[hjl])).2
     simpa using this
   ·rename_i hin
    obtain⟨⟨u,e1,e2,e3⟩,e4⟩:=hbc.get j c hj
    simp only[ZG]at e1 e4
    refine⟨⟨u,?_,e2,e3⟩,by rw[r4];exact e4⟩
    rw[r3 b j (by right;have:=l1;omega)];exact e1
  ·rename_i hk
   obtain⟨b',e1,e2,e3,e4⟩:=hinv.box k cs e
   have yd:b'≠b:=by
    rintro rfl
    exact hk (hinv.fo k key cs cells _ e hb' e1 ym)
   exact⟨b',e1,bn,e3,cg.of_same (λo=>⟨th b' o yd,r4 b' o⟩) e4⟩
 ·intro k k' cs cs' b'' e e' e1 e2
  have hex:∀k cs,ak k (σ1.oL key r).boxes=some cs->∃cs,ak k σ1.boxes=some cs:=by
   intro k cs e
   simp only[St.oL,ej]at e
   split at e
   ·simp_all
   ·exact⟨_,e⟩
  obtain⟨c1,f1⟩:=hex k cs e
  obtain⟨c2,f2⟩:=hex k' cs' e'
  exact hinv.fo k k' c1 c2 b'' f1 f2 e1 e2
 ·intro k n e
  obtain⟨fI,e1,e2⟩:=hinv.tok k n e
  refine⟨fI,e1,λb' lo hi hr=>?_⟩
  obtain⟨e3,e4,e5⟩:=e2 b' lo hi hr
  have yd:b'≠b:=by
   rintro rfl;exact e5 key cells hb' ym
  refine⟨bn,λo' h1 h2=>?_,λk' cs e'=>?_⟩
  ·simp_all
  ·simp only[St.oL,ej]at e'
   split at e'
   ·rename_i hk;subst hk;exact e5 _ cells hb'
   ·exact e5 k' cs e'
 ·intro k cs b0 e hb0 o0
  have hex:∃cs0,ak k σ1.boxes=some cs0:=by
   simp only[St.oL,ej]at e
   split at e
   ·simp_all
   ·exact⟨_,e⟩
  obtain⟨cs0,e0⟩:=hex
  obtain⟨q0,q2⟩:=hinv.room k cs0 b0 e0 hb0 o0
  refine⟨λho0=>?_,by rw[r4];exact q2⟩
  obtain⟨u,q1⟩:=q0 ho0
  by_cases hw0:b0=b/\off<=o0/\o0<off+(act.eval y).cells.toList.length
  ·obtain⟨rfl,h5,h6⟩:=hw0
   obtain⟨v,hj⟩:∃v,(act.eval y).cells.toList[o0-off]?=some v:=⟨_,Zn bn⟩
   have:=r5 (o0-off) v hj
   rw[show off+0+(o0-off)=o0 from by omega]at this
   exact⟨v,this⟩
  ·refine⟨u,?_⟩
   rw[r3 b0 o0 (by
    by_cases yd:b0=b
    ·omega
    ·exact .inl yd)]
   exact q1
 ·intro b' o' hlt hno
  refine⟨th b' o' ?_,r4 b' o'⟩
  rintro rfl
  exact hno (.inl ⟨key,cells,hb',ym⟩)
 ·intro k cs b' e e1
  simp only[St.oL,ej]at e
  split at e
  ·rename_i hk;subst hk;exact .inr ⟨_,_,hb',e1⟩
  ·exact .inr ⟨k,cs,e,e1⟩
 ·exact YM
end
end Go.cM
namespace Go.cM
def Fy:AV->Value->Bool
 |.c (.int k n),.int k' n'=>k==k'&&n==n'
 |.c (.bool b),.bool b'=>b==b'
 |.c (.str []),.string s=>s.data.toList.isEmpty
 |.c .kI,.pointer none=>true
 |.own .exact _ [],.slice none 0 0=>true
 |_,_=>false
def yI:L AV->L Value->Bool
 |[],[]=>true
 |a::l,v::vs=>Fy a v&&yI l vs
 |_,_=>false
def Qg:AV->Value->Bool
 |.agg l,.agg cs=>yI l cs.toList
 |a,v=>Fy a v
def D9{a:AV}{v:Value}(h:Fy a v=true)(g:Gh):aI g a v/\a.one=true:=by
 unfold Fy at h;split at h<;>simp at h
 ·obtain⟨rfl,rfl⟩:=h;simp[aI,Rel,AV.one,CV.one]
 ·subst h;simp[aI,Rel,AV.one,CV.one]
 ·rename_i s;simp only[aI,Rel,AV.one,CV.one,abM];congr 1;apply acE;simp[h]
 ·simp[aI,Rel,AV.one,CV.one]
 ·simp only[aI,AV.one,abM];exact⟨_,_,_,Z,Z,aav _,.inl Z,Z⟩
def Ea(g:Gh):∀{l:L AV}{vs:L Value},yI l vs=true->bC g l vs/\l.all AV.one=true
 |[],[],_=>by simp[bC]
 |[],_::_,h=>by simp[yI]at h
 |_::_,[],h=>by simp[yI]at h
 |a::l,v::vs,h=>by
  simp only[yI,aal]at h;obtain⟨h1,h2⟩:=D9 h.1 g;obtain⟨K,W⟩:=Ea g h.2;exact⟨by simp only[bC];exact⟨v,vs,Z,h1,K⟩,by simp only[aaE,h2,aaI];exact W⟩
def Qh{a:AV}{v:Value}(h:Qg a v=true)(g:Gh):aI g a v:=by
 unfold Qg at h;split at h
 ·rename_i l cs;obtain⟨h1,h2⟩:=Ea g h;simp only[aI];exact⟨cs.toList,ek,h1,h2⟩
 ·exact(D9 h g).1
def Km(P:Program)(k:TK)(d:TypeDesc):Bool :=
 match k,d with
 |.int k,.int k'=>k==k'
 |.bool,.bool=>true
 |.str,.string=>true
 |.ptr e,.pointer e'=>e==e'
 |.slice e,.slice e'=>e==e'
 |.arr n e,.array W e'=>n==W&&e==e'
 |.struct V,.struct Y=>Y.toList.map (λf=>(f.offset,f.type))==V&&Y.toList.all λf=>match P.info? f.type with
  |some Q=>Q.size != 0
  |none=>false
 |.other,.func .. => true
 |.other,.map .. => true
 |.other,.tuple .. => true
 |_,_=>false
def NK{P:Program}{k:TK}{d:TypeDesc}(h:Km P k d=true):ey P k d:=by
 unfold Km at h;split at h<;>simp at h<;>simp only[ey]
 ·rw[h]
 ·rw[h]
 ·rw[h]
 ·rw[h.1,h.2]
 ·rename_i W Y;refine⟨Y,Z,by simpa using h.1,λf hf=>?_⟩;obtain⟨i,K,S⟩:=Array.getElem_of_mem (Array.mem_toList_iff.1 hf);have:=h.2 i K;rw[S]at this;split at this
  ·simp_all
  ·simp at this
def Pk(P:Program)(t:Nat)(i:TI):Bool :=
 match P.info? t,P.underlying t with
 |some Q,some d=>Q.size==i.size&&Q.bytes==i.bytes&&i.size != 0&&Km P i.kind d &&
  (match i.zero with
   |none=>true
   |some a=>match Q.zero with
    |none=>false
    |some z=>Qg a z&&z.cells.size==i.size)
 |_,_=>false
def Pm{P:Program}{table:L (Nat×TI)}{X:Ctx}(hX:X.ti=λt=>ak t table)(h:table.all (λp=>Pk P p.1 p.2)=true):ct P X where
 ti:=λt i e=>by
  rw[hX]at e;have M:∀(l:L (Nat×TI)),l.all (λp=>Pk P p.1 p.2)=true->ak t l=some i->Pk P t i=true:=by
   intro l
   induction l with
   |nil=>intro _ e;simp[ak]at e
   |cons x l O =>
    intro h e;obtain⟨j,y⟩:=x;simp only[aaE,aal]at h;simp only[ak]at e;split at e
    ·rename_i T;have Y:=beq_true T;rw[<- Y];simp at e;rw[<- e];exact h.1
    ·exact O h.2 e
  have:=M table h e;unfold Pk at this;split at this
  ·rename_i Q d h1 h2;simp only[aal,acD,abY]at this;obtain⟨⟨⟨⟨W,G⟩,a3⟩,A⟩,H⟩:=this;refine⟨Q,h1,W,G,?_,⟨d,h2,NK A⟩,a3⟩;intro a V;rw[V]at H;simp only at H;split at H
   ·simp at H
   ·rename_i z K;simp only[aal,acD]at H;exact⟨z,K,Qh H.1,H.2⟩
  ·simp at this
section
variable {P:Program}{X:Ctx}{ops:Array Oper}{o:Oper}{rest:L Oper}{env:Env}{σ:St}{acc:L Fp}{Q:Env->St->L Fp->Prop}
 {bs:L (Nat×L AV)} {ts:L (Nat×Nat)} {us:L Nat} {kn:L Nat}
def dg(h:cS ops.toList kn env o=some true):pK ops o env:=by
 have:=qG h;simpa using this
def ah.Qd(kn:L Nat)(hg:cS ops.toList kn env o=some true){f:FuncId}{args:Array Operand}{ats:Array TypeId}(ho:o.op = .call {callee := .value (.func f),args:=args,argTypes:=ats})
  {d:Nat}(hd:o.dst=some d){nJ:L CV}(ha:gE (aJ X env) args.toList=some nJ){r:CV}(hq:aZ P X f nJ r)
  (k:ah P X ops rest ((d,.c r)::env) σ (⟨[],[]⟩::acc) Q):ah P X ops (o::rest) env σ acc Q :=
 ah.step (dg hg) (bP.Qd ho ha hq) (gA.id _) vF
def ah.Qe(kn:L Nat)(hg:cS ops.toList kn env o=some true){x:Operand}{args:Array Operand}{ats:Array TypeId}(ho:o.op = .call {callee := .value x,args:=args,argTypes:=ats})
  {d:Nat}(hd:o.dst=some d){f:FuncId}{caps:L CV}(hx:aJ X env x=some (.c (.sH f caps))){nJ:L CV}(ha:gE (aJ X env) args.toList=some nJ){r:CV}(hq:aZ P X f (nJ++caps) r)
  (k:ah P X ops rest ((d,.c r)::env) σ (⟨[],[]⟩::acc) Q):ah P X ops (o::rest) env σ acc Q :=
 ah.step (dg hg) (bP.Qe ho hx ha hq) (gA.id _) vF
def ah.box(kn:L Nat)(hg:cS ops.toList kn env o=some true){t:TypeId}{x:Operand}(ho:o.op = .box t x){d:Nat}(hd:o.dst=some d){a:AV}(ha:aJ X env x=some a)
  {cells:L AV}(hc:jq a=some cells)(hu:HL d us=false)(k:ah P X ops rest ((d,.ptr d 0)::env) ⟨(d,cells)::bs,ts,d::us⟩ (⟨[],[d]⟩::acc) Q) :
  ah P X ops (o::rest) env ⟨bs,ts,us⟩ acc Q :=
 ah.step (dg hg) (bP.box ho hd ha hc hu) (oK d cells) vF
def ah.alloc(hX:ct P X)(kn:L Nat)(hg:cS ops.toList kn env o=some true){t:TypeId}(ho:o.op = .alloc t){d:Nat}(hd:o.dst=some d){i:TI}(hi:X.ti t=some i){za:AV}(hz:i.zero=some za)
  {cells:L AV}(hc:jq za=some cells)(hu:HL d us=false)(k:ah P X ops rest ((d,.ptr d 0)::env) ⟨(d,cells)::bs,ts,d::us⟩ (⟨[],[d]⟩::acc) Q) :
  ah P X ops (o::rest) env ⟨bs,ts,us⟩ acc Q :=
 ah.step (dg hg) (bP.alloc hX ho hd hi hz hc hu) (oK d cells) vF
def ah.store(hX:ct P X)(kn:L Nat)(hg:cS ops.toList kn env o=some true){t:TypeId}{x y:Operand}(ho:o.op = .store t x y)(hd:o.dst=none){i:TI}(hi:X.ti t=some i){key off:Nat}
  (hx:aJ X env x=some (.ptr key off)){a:AV}(hy:aJ X env y=some a){cells vs r:L AV}(hb:ak key bs=some cells)(hc:jq a=some vs)
  (hl:Nat.beq vs.length i.size=true)(hw:dI off vs cells=some r){bs':L (Nat×L AV)}(hs:vu key r bs=some bs')
  (k:ah P X ops rest env ⟨bs',ts,us⟩ (⟨[],[key]⟩::acc) Q):ah P X ops (o::rest) env ⟨bs,ts,us⟩ acc Q:=by
 rw[qC]at hs
 simp only[aaJ]at hs
 subst hs
 exact ah.step (dg hg) (bP.store hX ho hd hi hx hy hb hc (beq_true hl) hw) (Kl key r) vF
end
end Go.cM
namespace Go.cM
def closeAll:L AV->Option (L CV)
 |[]=>some []
 |.c v::l=>match closeAll l with
  |some r=>some (v::r)
  |none=>none
 |.own _ s rows::l=>match closeAll l with
  |some r=>some (.sl s rows::r)
  |none=>none
 |_=>none
mutual
def oM(k:Nat)(cs:L CV):AV->Option AV
 |.ptr j off=>match Nat.beq j k with
  |true=>match fX off cs with
   |some r=>some (.c (.ip r))
   |none=>none
  |false=>some (.ptr j off)
 |.fZ j off s n=>match Nat.beq j k with
  |true=>none
  |false=>some (.fZ j off s n)
 |.agg l=>match oN k cs l with
  |some r=>some (.agg r)
  |none=>none
 |.gb l=>match oN k cs l with
  |some r=>some (.gb r)
  |none=>none
 |a=>some a
def oN(k:Nat)(cs:L CV):L AV->Option (L AV)
 |[]=>some []
 |a::l=>match oM k cs a with
  |some x=>match oN k cs l with
   |some r=>some (x::r)
   |none=>none
  |none=>none
end
def BP(k:Nat)(cs:L CV):Env->Option Env
 |[]=>some []
 |(t,a)::l=>match oM k cs a with
  |some x=>match BP k cs l with
   |some r=>some ((t,x)::r)
   |none=>none
  |none=>none
def yJ(k:Nat)(cs:L CV):L (Nat×L AV)->Option (L (Nat×L AV))
 |[]=>some []
 |(j,a)::l=>match Nat.beq j k with
  |true=>yJ k cs l
  |false=>match oN k cs a with
   |some x=>match yJ k cs l with
    |some r=>some ((j,x)::r)
    |none=>none
   |none=>none
section
variable {P : Program}{X : Ctx}
def tj{w:World}{g:Gh}{b:Nat}:∀{cells:L AV}{cs:L CV}{o:Nat},closeAll cells=some cs->cg w g b o cells ->
  cells.length=cs.length/\∀(j:Nat) c,cs[j]?=some c->∃u,w.cell? ⟨b,o+j,none⟩=some u/\Rel g.G c u/\c.one=true
 |[],cs,o,h,_=>by simp[closeAll]at h;subst h;simp
 |.c v::l,cs,o,h,hc=>by
  simp only[closeAll]at h
  split at h
  ·rename_i r hr
   simp at h;subst h
   obtain⟨⟨u,h1,h2,h3⟩,_,h4⟩:=hc
   obtain⟨i1,i2⟩:=tj hr h4
   refine⟨by simp[i1],λj c hj=>?_⟩
   cases j with
   |zero=>simp at hj;subst hj;exact⟨u,h1,KU,h3⟩
   |succ j =>
    simp at hj
    have:=i2 j c hj
    rwa[show o+1+j=o+(j+1)from by omega]at this
  ·simp at h
 |.own k s rows::l,cs,o,h,hc=>by
  simp only[closeAll]at h
  split at h
  ·rename_i r hr
   simp at h;subst h
   obtain⟨⟨u,h1,h2,h3⟩,_,h4⟩:=hc
   obtain⟨i1,i2⟩:=tj hr h4
   refine⟨by simp[i1],λj c hj=>?_⟩
   cases j with
   |zero =>
    simp at hj;subst hj
    have:=qE (.own k s rows) (.sl s rows) u Z h2
    exact⟨u,h1,this.1,Z⟩
   |succ j =>
    simp at hj
    have:=i2 j c hj
    rwa[show o+1+j=o+(j+1)from by omega]at this
  ·simp at h
 |.ptr _ _::l,cs,o,h,hc=>by simp[closeAll]at h
 |.fZ .. :: l,cs,o,h,hc=>by simp[closeAll]at h
 |.any::l,cs,o,h,hc=>by simp[closeAll]at h
 |.agg _::l,cs,o,h,hc=>by simp[closeAll]at h
 |.gb _::l,cs,o,h,hc=>by simp[closeAll]at h
def Gh.freeze(g:Gh)(w:World)(k b n:Nat):Gh :=
 ⟨λQ o=>if Q=b/\o<n then w.cell? ⟨Q,o,none⟩else g.G Q o,λj=>if j=k then none else g.box j,g.tok,g.room⟩
def yK{g:Gh}{w:World}{k b n:Nat}(O:∀b o v,g.G b o=some v->w.cell? ⟨b,o,none⟩=some v):g.G.le (g.freeze w k b n).G:=by
 intro Q o v h;simp only[Gh.freeze];split
 ·exact O _ _ _ h
 ·exact h
mutual
def yL{g:Gh}{w:World}{k b:Nat}{cs:L CV}(O:∀b o v,g.G b o=some v->w.cell? ⟨b,o,none⟩=some v)(A:g.box k=some b)
  (Y:cL (g.freeze w k b cs.length).G b 0 cs):∀{a x:AV}{u:Value},oM k cs a=some x->aI g a u->aI (g.freeze w k b cs.length) x u/\(a.one=true->x.one=true)
 |.ptr j off,x,u,h,E=>by
  simp only[oM]at h;simp only[aI]at E;obtain⟨Q,h1,rfl⟩:=E;split at h
  ·rename_i U;have:=beq_true U;subst this;rw[A]at h1;simp at h1;subst h1;split at h
   ·rename_i r E;simp at h;subst h;obtain⟨rfl,B⟩:=jK E;refine⟨?_,λ_=>rfl⟩;simp only[aI,Rel];exact⟨b,off,Z,by simpa using Y.drop (n:=off)⟩
   ·simp at h
  ·rename_i U;have:=beq_false U;simp at h;subst h;exact⟨by simp only[aI];exact⟨Q,by simp[Gh.freeze,this,h1],Z⟩,id⟩
 |.fZ j off s n,x,u,h,E=>by
  simp only[oM]at h;simp only[aI]at E;obtain⟨Q,D,o,h1,rfl,h2,K⟩:=E;split at h
  ·simp at h
  ·rename_i U;have:=beq_false U;simp at h;subst h;exact⟨by simp only[aI];exact⟨Q,D,o,by simp[Gh.freeze,this,h1],Z,h2,K⟩,id⟩
 |.any,x,u,h,E=>by
  simp[oM]at h;subst h;exact⟨by simp only[aI]at E ⊢;exact E,id⟩
 |.agg l,x,u,h,E=>by
  simp only[oM]at h;split at h
  ·rename_i r S;simp at h;subst h;simp only[aI]at E;obtain⟨vs,rfl,h1,h2⟩:=E;obtain⟨T,M⟩:=yM O A Y S h1;exact⟨by simp only[aI];exact⟨vs,Z,T,M h2⟩,λh=>by simp[AV.one]at h⟩
  ·simp at h
 |.gb l,x,u,h,E=>by
  simp only[oM]at h;split at h
  ·rename_i r S;simp at h;subst h;simp only[aI]at E;obtain⟨vs,rfl,h1,h2⟩:=E;obtain⟨T,M⟩:=yM O A Y S h1;have V:r.length=l.length:=by
    have C:=(bC.get T).1;have q:=(bC.get h1).1;omega
   exact⟨by simp only[aI];exact⟨vs,Z,T,bn⟩,λh=>by simp[AV.one]at h⟩
  ·simp at h
 |.c v,x,u,h,E=>by
  simp[oM]at h;subst h;exact⟨by simp only[aI]at E ⊢;exact Rel.mono (yK O) _ _ E,id⟩
 |.own o s rows,x,u,h,E=>by
  simp[oM]at h;subst h;refine⟨?_,id⟩;simp only[aI]at E ⊢;obtain⟨base,W,D,e,h1,h2,K,P⟩:=E;refine⟨base,W,D,e,h1,h2,K.mono (yK O),?_⟩;cases o with
  |exact=>exact P
  |tok N n=>exact P
def yM{g:Gh}{w:World}{k b:Nat}{cs:L CV}(O:∀b o v,g.G b o=some v->w.cell? ⟨b,o,none⟩=some v)(A:g.box k=some b)
  (Y:cL (g.freeze w k b cs.length).G b 0 cs):∀{l r:L AV}{us:L Value},oN k cs l=some r->bC g l us->bC (g.freeze w k b cs.length) r us/\(l.all AV.one=true->r.all AV.one=true)
 |[],r,us,h,E=>by
  simp[oN]at h;subst h;simp only[bC]at E ⊢;exact⟨E,id⟩
 |a::l,r,us,h,E=>by
  simp only[oN]at h;split at h
  ·rename_i x I;split at h
   ·rename_i p S;simp at h;subst h;simp only[bC]at E;obtain⟨u,us,rfl,h1,h2⟩:=E;obtain⟨T,M⟩:=yL O A Y I h1;obtain⟨J,H⟩:=yM O A Y S h2;refine⟨by simp only[bC];exact⟨u,us,Z,T,J⟩,λh=>?_⟩;simp only[aaE,aal]at h ⊢;exact⟨M h.1,H h.2⟩
   ·simp at h
  ·simp at h
end
def BQ{k:Nat}{cs:L CV}:∀{env env':Env},BP k cs env=some env'->∀t x,ak t env'=some x->∃a,ak t env=some a/\oM k cs a=some x
 |[],env',h,t,x,e=>by simp[BP]at h;subst h;simp[ak]at e
 |(j,a)::l,env',h,t,x,e=>by
  simp only[BP]at h;split at h
  ·rename_i y J;split at h
   ·rename_i r E;simp at h;subst h;rw[an]at e;rw[an];split at e
    ·simp_all
    ·rename_i I;rw[if_neg I];exact BQ E t x e
   ·simp at h
  ·simp at h
def iY{k:Nat}{cs:L CV}:∀{bs bs':L (Nat×L AV)},yJ k cs bs=some bs'->∀j x,ak j bs'=some x->j≠k/\∃a,ak j bs=some a/\oN k cs a=some x
 |[],bs',h,j,x,e=>by simp[yJ]at h;subst h;simp[ak]at e
 |(i,a)::l,bs',h,j,x,e=>by
  simp only[yJ]at h;split at h
  ·rename_i K;have:=beq_true K;subst this;obtain⟨h1,Y,h2,W⟩:=iY h j x e;exact⟨h1,Y,by rw[an,if_neg h1];exact h2,W⟩
  ·rename_i K;have V:=beq_false K;split at h
   ·rename_i y J;split at h
    ·rename_i r E;simp at h;subst h;rw[an]at e;rw[an];split at e
     ·simp_all
     ·rename_i T;obtain⟨h1,Y,h2,W⟩:=iY E j x e;exact⟨h1,Y,by rw[if_neg T];exact h2,W⟩
    ·simp at h
   ·simp at h
def AK.freeze{f:FuncId}{n:Nat}{β:je}{R:Ending->World->Prop}{K:L Item}{env env':Env}{bs bs':L (Nat×L AV)}{ts:L (Nat×Nat)}{us:L Nat}(k:Nat)
  {cells:L AV}{cs:L CV}(J:ak k bs=some cells)(I:closeAll cells=some cs)(he:BP k cs env=some env')(A:yJ k cs bs=some bs')
  (h:AK P X f n β R K env' ⟨bs',ts,us⟩):AK P X f n β R K env ⟨bs,ts,us⟩:=by
 intro g w a cst W;obtain⟨b,GP,hlt,Yh,WE⟩:=W.inv.box k cells J;obtain⟨hlen,V⟩:=tj I WE;let g':=g.freeze w k b cs.length;have D:g.G.le g'.G:=yK W.inv.nF;have S:cL g'.G b 0 cs:=by
  apply cL.jo;intro j c hj;obtain⟨u,C,q,e3⟩:=V j c hj;have hjl:j<cs.length:=(List.getElem?_eq_some_iff.1 hj).1;refine⟨u,?_,Rel.mono D _ _ q,e3⟩;simp only[g',Gh.freeze,ZG,true_and,hjl,if_true];simpa using C
 have T:∀Q o,Q≠b->g'.G Q o=g.G Q o:=by
  intro Q o O;simp only[g',Gh.freeze,O,false_and,abg]
 have ie:∀(Q:Nat)(l r:L AV)(o:Nat),oN k cs l=some r->cg w g Q o l->cg w g' Q o r:=by
  intro Q l
  induction l with
  |nil=>intro r o h1 _;simp[oN]at h1;subst h1;trivial
  |cons x l ih =>
   intro r o h1 h2;simp only[oN]at h1;split at h1
   ·rename_i y hy;split at h1
    ·rename_i r' hr';simp at h1;subst h1;obtain⟨⟨u,h3,h4,h5⟩,h6,h7⟩:=h2;obtain⟨i1,i2⟩:=yL W.inv.nF GP S hy h4;exact⟨⟨u,h3,i1,i2 h5⟩,h6,ih r' (o+1) hr' h7⟩
    ·simp at h1
   ·simp at h1
 refine h g' w a cst ⟨⟨?_,?_,?_,?_,?_,?_,?_⟩,?_,?_,?_,W.size,W.defers⟩
 ·intro Q o v B;simp only[g',Gh.freeze]at B;split at B
  ·exact B
  ·exact W.inv.nF _ _ _ B
 ·intro j x e;obtain⟨Y,l,C,q⟩:=iY A j x e;obtain⟨Q,M,f2,E,f4⟩:=W.inv.box j l C;have U:Q≠b:=by
   rintro rfl;exact Y (W.inv.fo j k l cells Q C J M GP)
  exact⟨Q,by simp[g',Gh.freeze,Y,M],f2,λo=>by rw[T Q o U];exact E o,ie Q l x 0 q f4⟩
 ·intro j p x x' Q e e' C q;obtain⟨Y,l,M,_⟩:=iY A j x e;obtain⟨Zk,l',WR,_⟩:=iY A p x' e';simp only[g',Gh.freeze,Y,Zk,abg]at C q;exact W.inv.fo j p l l' Q M WR C q
 ·intro j m e;obtain⟨fI,C,q⟩:=W.inv.tok j m e;refine⟨fI,C,λQ H N hr=>?_⟩;obtain⟨M,f2,E⟩:=q Q H N hr;have U:Q≠b:=by rintro rfl;exact E k cells J GP
  refine⟨M,λo o1 o2=>?_,λp x e'=>?_⟩
  ·obtain⟨f4,f5,f6⟩:=f2 o o1 o2;exact⟨by rw[T Q o U];exact f4,f5,f6⟩
  ·obtain⟨Y,l,f7,_⟩:=iY A p x e';simp only[g',Gh.freeze,Y,abg];exact E p l f7
 ·intro j p m m' Q H N lo' hi' e e' C q;exact W.inv.ga j p m m' Q H N lo' hi' e e' C q
 ·intro j e;apply W.inv.used j;simp only[g',Gh.freeze]at e;rcases e with e|e
  ·left;intro hn;apply e;split
   ·rfl
   ·exact hn
  ·exact .inr e
 ·intro j x Q e O o;obtain⟨Y,l,M,_⟩:=iY A j x e;simp only[g',Gh.freeze,Y,abg]at O ⊢;exact W.inv.room j l Q M O o
 ·intro m v hm;exact Rel.mono D _ _ (W.qe m v hm)
 ·intro t x e;obtain⟨y,C,q⟩:=BQ he t x e;exact(yL W.inv.nF GP S q (W.env t y C)).1
 ·refine W.frame.trans ⟨Z,Z,Z,aav _,λ_ _ _=>rfl,λ_ _ _ _=>⟨Z,Z⟩,D,λQ o v B=>?_,λj x Q e C=>?_,λj m Q H N e C => .inr ⟨j,m,H,N,e,C,aav _,aav _⟩,λj _ h=>?_⟩
  ·by_cases U:Q=b
   ·subst U;exact .inr (.inr (.inl ⟨k,cells,J,GP⟩))
   ·rw[T Q o U]at B;exact .inl B
  ·obtain⟨Y,l,M,_⟩:=iY A j x e;simp only[g',Gh.freeze,Y,abg]at C;exact .inr ⟨j,l,M,C⟩
  ·cases I:ak j bs' with
   |none=>exact absurd I h
   |some x =>
    obtain⟨Y,l,M,_⟩:=iY A j x I;exact⟨by rw[M];simp,by simp[g',Gh.freeze,Y],by simp[g',Gh.freeze]⟩
end
end Go.cM
namespace Go.cM
mutual
def Qi(us:L Nat):AV->Bool
 |.c _=>true
 |.own .exact _ _=>true
 |.own (.tok M _) _ _=>mem M us
 |.ptr M _=>mem M us
 |.fZ M _ _ _=>mem M us
 |.any=>true
 |.agg l=>xh us l
 |.gb l=>xh us l
def xh(us:L Nat):L AV->Bool
 |[]=>true
 |a::l=>match Qi us a with
  |true=>xh us l
  |false=>false
end
def V3(us:L Nat):Env->Bool
 |[]=>true
 |(_,a)::l=>match Qi us a with
  |true=>V3 us l
  |false=>false
def okB(us:L Nat):L (Nat×L AV)->Bool
 |[]=>true
 |(k,a)::l=>match mem k us,xh us a with
  |true,true=>okB us l
  |_,_=>false
def V4(us:L Nat):L (Nat×Nat)->Bool
 |[]=>true
 |(k,_)::l=>match mem k us with
  |true=>V4 us l
  |false=>false
def Has(env:Env)(t:Nat)(a:AV):Prop:=ak t env=some a\/∃b v,ak t env=some b/\close b=some v/\a = .c v
def BR(env:Env):Env->Prop
 |[]=>True
 |(t,a)::l=>Has env t a/\BR env l
def Qj(bs:L (Nat×L AV)):L (Nat×L AV)->Prop
 |[]=>True
 |(k,a)::l=>ak k bs=some a/\Qj bs l
def HM(ts:L (Nat×Nat)):L (Nat×Nat)->Prop
 |[]=>True
 |(k,a)::l=>ak k ts=some a/\HM ts l
def mem_iff{k:Nat}:∀{l:L Nat},mem k l=true↔k∈l
 |[]=>by simp[mem]
 |x::l=>by
  simp only[mem];split
  ·simp_all
  ·rename_i h;have:=beq_false h;simp[mem_iff (l:=l),Ne.symm this]
def Gh.only(g:Gh)(us:L Nat):Gh:=⟨g.G,λk=>if mem k us then g.box k else none,λk=>if mem k us then g.tok k else none,g.room⟩
mutual
def Kn{g:Gh}{us:L Nat}:∀{a:AV}{u:Value},Qi us a=true->aI g a u->aI (g.only us) a u
 |.c v,u,_,h=>by simp only[aI]at h ⊢;exact h
 |.own .exact s rows,u,_,h=>by simp only[aI]at h ⊢;exact h
 |.own (.tok M n) s rows,u,Y,h=>by
  simp only[Qi]at Y;simp only[aI]at h ⊢;obtain⟨base,W,D,e,h1,h2,K,J,B,V,U⟩:=h;exact⟨base,W,D,e,h1,h2,K,J,B,by simp[Gh.only,Y,V],U⟩
 |.ptr M off,u,Y,h=>by
  simp only[Qi]at Y;simp only[aI]at h ⊢;obtain⟨b,h1,h2⟩:=h;exact⟨b,by simp[Gh.only,Y,h1],h2⟩
 |.fZ M off s n,u,Y,h=>by
  simp only[Qi]at Y;simp only[aI]at h ⊢;obtain⟨b,D,o,h1,h2,K,V⟩:=h;exact⟨b,D,o,by simp[Gh.only,Y,h1],h2,K,V⟩
 |.any,u,_,h=>by simp only[aI]at h ⊢;exact h
 |.agg l,u,Y,h=>by
  simp only[Qi]at Y;simp only[aI]at h ⊢;obtain⟨vs,e,h1,h2⟩:=h;exact⟨vs,e,Fz Y h1,h2⟩
 |.gb l,u,Y,h=>by
  simp only[Qi]at Y;simp only[aI]at h ⊢;obtain⟨vs,e,h1,h2⟩:=h;exact⟨vs,e,Fz Y h1,h2⟩
def Fz{g:Gh}{us:L Nat}:∀{l:L AV}{vs:L Value},xh us l=true->bC g l vs->bC (g.only us) l vs
 |[],vs,_,h=>by simpa only[bC]using h
 |a::l,vs,Y,h=>by
  simp only[xh]at Y;split at Y
  ·rename_i h1;simp only[bC]at h ⊢;obtain⟨u,us',e,h2,K⟩:=h;exact⟨u,us',e,Kn h1 h2,Fz Y K⟩
  ·simp at Y
end
def L7{us:L Nat}:∀{env:Env},V3 us env=true->∀t a,ak t env=some a->Qi us a=true
 |[],_,t,a,e=>by simp[ak]at e
 |(j,x)::l,h,t,a,e=>by
  simp only[V3]at h;split at h
  ·rename_i I;rw[an]at e;split at e
   ·simp_all
   ·exact L7 h t a e
  ·simp at h
def pL{us:L Nat}:∀{bs:L (Nat×L AV)},okB us bs=true->∀k a,ak k bs=some a->mem k us=true/\xh us a=true
 |[],_,t,a,e=>by simp[ak]at e
 |(j,x)::l,h,t,a,e=>by
  simp only[okB]at h;split at h
  ·rename_i T I;rw[an]at e;split at e
   ·simp_all
   ·exact pL h t a e
  ·simp at h
def xj{us:L Nat}:∀{ts:L (Nat×Nat)},V4 us ts=true->∀k a,ak k ts=some a->mem k us=true
 |[],_,t,a,e=>by simp[ak]at e
 |(j,x)::l,h,t,a,e=>by
  simp only[V4]at h;split at h
  ·rename_i T;rw[an]at e;split at e
   ·simp_all
   ·exact xj h t a e
  ·simp at h
def BS{env:Env}:∀{l:Env},BR env l->∀t a,ak t l=some a->Has env t a
 |[],_,t,a,e=>by simp[ak]at e
 |(j,x)::l,h,t,a,e=>by
  rw[an]at e;split at e
  ·rename_i I;subst I;simp at e;subst e;exact h.1
  ·exact BS h.2 t a e
def nk{bs:L (Nat×L AV)}:∀{l:L (Nat×L AV)},Qj bs l->∀k a,ak k l=some a->ak k bs=some a
 |[],_,t,a,e=>by simp[ak]at e
 |(j,x)::l,h,t,a,e=>by
  rw[an]at e;split at e
  ·rename_i I;subst I;simp at e;subst e;exact h.1
  ·exact nk h.2 t a e
def oO{ts:L (Nat×Nat)}:∀{l:L (Nat×Nat)},HM ts l->∀k a,ak k l=some a->ak k ts=some a
 |[],_,t,a,e=>by simp[ak]at e
 |(j,x)::l,h,t,a,e=>by
  rw[an]at e;split at e
  ·rename_i I;subst I;simp at e;subst e;exact h.1
  ·exact oO h.2 t a e
section
variable {P : Program}{X : Ctx}
def AK.Qk{f:FuncId}{n:Nat}{β:je}{R:Ending->World->Prop}{K:L Item}{env:Env}{bs:L (Nat×L AV)}{ts:L (Nat×Nat)}{us:L Nat}
  (env':Env)(bs':L (Nat×L AV))(ts':L (Nat×Nat))(us':L Nat)
  (E:BR env env')(A:Qj bs bs')(I:HM ts ts')(h1:V3 us' env'=true)(h2:okB us' bs'=true)(W:V4 us' ts'=true)
  (h:AK P X f n β R K env' ⟨bs',ts',us'⟩):AK P X f n β R K env ⟨bs,ts,us⟩:=by
 intro g w a cs Y;refine h (g.only us') w a cs ⟨⟨Y.inv.nF,?_,?_,?_,?_,?_,?_⟩,Y.qe,?_,?_,Y.size,Y.defers⟩
 ·intro k x e;obtain⟨B,m2⟩:=pL h2 k x e;obtain⟨b,C,Q,e3,e4⟩:=Y.inv.box k x (nk A k x e);refine⟨b,by simp[Gh.only,B,C],Q,e3,?_⟩;have M:∀(l:L AV)(o:Nat),xh us' l=true->cg w g b o l->cg w (g.only us') b o l:=by
   intro l
   induction l with
   |nil=>intro _ _ _;trivial
   |cons y l ih =>
    intro o h1 h2;simp only[xh]at h1;split at h1
    ·rename_i J;obtain⟨⟨u,V,p,G⟩,f4,f5⟩:=h2;exact⟨⟨u,V,Kn J p,G⟩,f4,ih (o+1) h1 f5⟩
    ·simp at h1
  exact M x 0 m2 e4
 ·intro k k' x U b e e' C Q;simp only[Gh.only,(pL h2 k x e).1,(pL h2 k' U e').1,if_true]at C Q;exact Y.inv.fo k k' x U b (nk A k x e) (nk A k' U e') C Q
 ·intro k m e;obtain⟨fI,C,Q⟩:=Y.inv.tok k m (oO I k m e);refine⟨fI,by simp[Gh.only,xj W k m e,C],λb H q hr=>?_⟩;obtain⟨V,p,G⟩:=Q b H q hr;refine⟨V,p,λk' x e'=>?_⟩;simp only[Gh.only,(pL h2 k' x e').1,if_true];exact G k' x (nk A k' x e')
 ·intro k k' m T b H q S O e e' C Q;simp only[Gh.only,xj W k m e,xj W k' T e',if_true]at C Q;exact Y.inv.ga k k' m T b H q S O (oO I k m e) (oO I k' T e') C Q
 ·intro k e;simp only[Gh.only]at e;rw[<- mem_iff (l:=us')];by_cases D:mem k us'=true
  ·exact D
  ·simp[D]at e
 ·intro k x b e C o;simp only[Gh.only,(pL h2 k x e).1,if_true]at C;exact Y.inv.room k x b (nk A k x e) C o
 ·intro t x e;rcases BS E t x e with hx|⟨y,v,J,hv,rfl⟩
  ·exact Kn (L7 h1 t x e) (Y.env t x hx)
  ·have:=(qE y v _ hv (Y.env t y J)).1;simp only[aI];exact this
 ·refine Y.frame.trans ⟨Z,Z,Z,aav _,λ_ _ _=>rfl,λ_ _ _ _=>⟨Z,Z⟩,iJ.le.refl _,λ_ _ _ h => .inl h,λk x b e C=>?_,λk m b H q e C=>?_,λk _ h=>?_⟩
  ·simp only[Gh.only,(pL h2 k x e).1,if_true]at C;exact .inr ⟨k,x,nk A k x e,C⟩
  ·simp only[Gh.only,xj W k m e,if_true]at C;exact .inr ⟨k,m,H,q,oO I k m e,C,aav _,aav _⟩
  ·cases N:ak k bs' with
   |none=>exact absurd N h
   |some x=>exact⟨by rw[nk A k x N];simp,by simp[Gh.only,(pL h2 k x N).1],Z⟩
end
end Go.cM
namespace Go.cM
abbrev kn:L Nat:=[0,1,2,3,4,5,6,7,8,9,10,11,12,13,14,15,16,17,18,19,20,21,22,23,24,25,26,27,28,29,30,31,32,33,34,35,36,37,38,39,40,41,42,43,44,45,46,47,48,49,50,51,52,53,54,55,56,57,58,59,60,61,62,63,64,65,66,67,68,69]
inductive U4 where
 |at(K:List Item) (env:Env)
 |stuck
def oP(X:Ctx)(n:Nat)(W:L (Nat×L AV)):Nat->L Item->Env->U4
 |0,K,env => .at K env
 |m+1,K,env=>match K with
  |.code (.seq x y)::K'=>oP X n W m (.code x :: .code y::K') env
  |.code .skip::K'=>oP X n W m K' env
  |.code (.block id c)::K'=>oP X n W m (.code c :: .inBlock id::K') env
  |.inBlock _::K'=>oP X n W m K' env
  |.code (.exit id)::K'=>match exitTo id K' with
   |some Y=>oP X n W m Y env
   |none => .at K env
  |.code (.region _ ops false)::K'=>match qb ops n with
   |true=>match tf X ops.toList W [] 500 ops.toList env []with
    |.at [] env' _=>oP X n W m K' env'
    |_ => .at K env
   |false => .at K env
  |_ => .at K env
def JZ(X:Ctx)(n:Nat)(W:L (Nat×L AV))(m:Nat)(K:L Item)(env:Env):U4:=match K with
 |.code (.seq x y)::K'=>oP X n W m (.code x :: .code y::K') env
 |.code .skip::K'=>oP X n W m K' env
 |.code (.block id c)::K'=>oP X n W m (.code c :: .inBlock id::K') env
 |.inBlock _::K'=>oP X n W m K' env
 |.code (.exit id)::K'=>match exitTo id K' with
  |some Y=>oP X n W m Y env
  |none => .stuck
 |.code (.region _ ops false)::K'=>match qb ops n with
  |true=>match tf X ops.toList W [] 500 ops.toList env []with
   |.at [] env' _=>oP X n W m K' env'
   |_ => .stuck
  |false => .stuck
 |_ => .stuck
section
variable {P : Program}{X : Ctx}{f : FuncId}{n : Nat}{β : je}{R : Ending -> World -> Prop}
def AK.WS(hX:ct P X)(Y:P.follows .mixedOrders=true){id:Nat}{ops:Array Oper}{K:L Item}{env env':Env}{σ:St}{acc:L Fp}(W:qb ops n=true)
  (h:tf X ops.toList σ.boxes [] 500 ops.toList env [] = .at [] env' acc)(k:AK P X f n β R K env' σ):AK P X f n β R (.code (.region id ops false)::K) env σ :=
 AK.region Y W (ah.run hX 500 [] h (ah.done k))
def qH(hX:ct P X)(Y:P.follows .mixedOrders=true){σ:St}:∀(m:Nat){K M:L Item}{env env':Env},oP X n σ.boxes m K env = .at M env' ->
  AK P X f n β R M env' σ->AK P X f n β R K env σ:=by
 intro m
 induction m with
 |zero=>intro K M env env' h k;simp[oP]at h;obtain⟨rfl,rfl⟩:=h;exact k
 |succ m O =>
  intro K M env env' h k;have stop:U4.at K env = .at M env'->AK P X f n β R K env σ:=by simp_all
  simp only[oP]at h;split at h
  ·exact AK.seq (O h k)
  ·exact AK.skip (O h k)
  ·exact AK.block (O h k)
  ·exact AK.inBlock (O h k)
  ·split at h
   ·rename_i e;exact AK.exit e (O h k)
   ·exact stop h
  ·split at h
   ·rename_i W;split at h
    ·rename_i e;exact AK.WS hX Y W e (O h k)
    ·exact stop h
   ·exact stop h
  ·exact stop h
def AK.JR(hX:ct P X)(Y:P.follows .mixedOrders=true){σ:St}(m:Nat){K M:L Item}{env env':Env}(h:JZ X n σ.boxes m K env = .at M env')
  (k:AK P X f n β R M env' σ):AK P X f n β R K env σ:=by
 unfold JZ at h;split at h
 ·exact AK.seq (qH hX Y m h k)
 ·exact AK.skip (qH hX Y m h k)
 ·exact AK.block (qH hX Y m h k)
 ·exact AK.inBlock (qH hX Y m h k)
 ·split at h
  ·rename_i e;exact AK.exit e (qH hX Y m h k)
  ·simp at h
 ·split at h
  ·rename_i W;split at h
   ·rename_i e;exact AK.WS hX Y W e (qH hX Y m h k)
   ·simp at h
  ·simp at h
 ·simp at h
def AK.again{K:L Item}{env:Env}{bs:L (Nat×L AV)}{ts:L (Nat×Nat)}{us:L Nat}{env':Env}{bs':L (Nat×L AV)}{ts':L (Nat×Nat)}{us':L Nat}
  (h:AK P X f n β R K env' ⟨bs',ts',us'⟩)(S:BR env env')(A:Qj bs bs')(I:HM ts ts')(h1:V3 us' env'=true)(h2:okB us' bs'=true)(Y:V4 us' ts'=true) :
  AK P X f n β R K env ⟨bs,ts,us⟩:=AK.Qk env' bs' ts' us' S A I h1 h2 Y h
def AK.eX{C:Code}{K:L Item}{env:Env}{bs:L (Nat×L AV)}{ts:L (Nat×Nat)}{us:L Nat}{α:Type}(I:α->Prop)(Y:α->Nat)
  (E:α->Env)(B:α->L (Nat×L AV))(T:α->L (Nat×Nat))(U:L Nat)(S:α)(p:I S)
  (u:BR env (E S))(A:Qj bs (B S))(W:HM ts (T S))(h1:V3 U (E S)=true)(h2:okB U (B S)=true)(V:V4 U (T S)=true)
  (step:∀x,I x->(∀y,I y->Y y<Y x->AK P X f n β R (.inLoop C::K) (E y) ⟨B y,T y,U⟩)->AK P X f n β R (.code C :: .inLoop C::K) (E x) ⟨B x,T x,U⟩) :
  AK P X f n β R (.code (.loop C)::K) env ⟨bs,ts,us⟩:=by
 refine AK.loop (AK.Qk (E S) (B S) (T S) U u A W h1 h2 V ?_);have M:∀(m:Nat)(x:α),Y x<m->I x->AK P X f n β R (.code C :: .inLoop C::K) (E x) ⟨B x,T x,U⟩:=by
  intro m
  induction m with
  |zero=>intro x Q;omega
  |succ m O =>
   intro x Q N;exact step x N λy J H=>AK.inLoop (O y bn J)
 exact M (Y S+1) S bn p
end
section
variable {P : Program}{X : Ctx}{ops : Array Oper}{o : Oper}{rest : L Oper}{env : Env}{σ : St}{acc : L Fp}{Q : Env -> St -> L Fp -> Prop}
def bP.index(hX:ct P X){t:TypeId}{x ix:Operand}(ho:o.op = .indexAddr t x ix){i j:TI}{e:Nat}(hi:X.ti t=some i)(hk:i.kind = .slice e)(hj:X.ti e=some j)
  {a:AV}{s:Nat}{rows:L CV}(ha:aJ X env x=some a)(hr:rowsOf a=some (s,rows))(hs:Nat.beq s j.size=true){k:IntKind}{z:Int}(hz:aJ X env ix=some (.c (.int k z)))
  {m:Nat}(hm:z=m){r:CV}(hrow:rows[m]?=some r):bP P X o env σ (.c (.ip r.cells)) (λσ=>σ) ⟨[],[]⟩:=by
 intro cT σ1 w g act next Q h1 h2 hinv cu de hnext
 have vX:aJ X cT x=some a:=by rw[h1 x nu];exact ha
 have WT:aJ X cT ix=some (.c (.int k z)):=by rw[h1 ix nu];exact hz
 obtain⟨base,len,cap,e1,e2,_,e3⟩:=BH hr (cn (a:=act) de cu vX)
 have e4:=zL (cn (a:=act) de cu WT)
 have hlt:m<rows.length:=(List.getElem?_eq_some_iff.1 hrow).1
 obtain⟨d,iL,gH,_⟩:=hX.run_underlying (w:=w) hi
 rw[hk]at gH;simp only[ey]at gH;subst gH
 have VY:=beq_true hs
 rcases e3 with rfl|⟨b,o',rfl,fF⟩
 ·simp at hlt
 ·have hg:=(fF.get m r hrow).1
  have hrun:(execOp act.eval o).run P w = .ok (.value (.pointer (some ⟨b,o'+m*j.size,none⟩))) w:=by
   obtain⟨dst,op,type,pos,after,guard⟩:=o
   simp only at ho;subst ho
   simp[execOp,e1,e4,hm,Instr.indexAt,asIntOf,iL,e2,hlt,hX.run_sizeOf hj,Addr.add_lit]
  unfold Oper.wp
  rw[hrun,Oper.upon_value]
  refine hnext _ w g ?_ hinv (gy.refl _ _ _) (Gh.le.refl _)
  simp only[aI,Rel]
  exact⟨b,_,Z,by rw[<- VY];exact hg⟩
def ah.index(hX:ct P X)(hg:cS ops.toList kn env o=some true){t:TypeId}{x ix:Operand}(ho:o.op = .indexAddr t x ix){d:Nat}(hd:o.dst=some d)
  {i j:TI}{e:Nat}(hi:X.ti t=some i)(hk:i.kind = .slice e)(hj:X.ti e=some j)
  {a:AV}{s:Nat}{rows:L CV}(ha:aJ X env x=some a)(hr:rowsOf a=some (s,rows))(hs:Nat.beq s j.size=true){k:IntKind}{z:Int}(hz:aJ X env ix=some (.c (.int k z)))
  (m:Nat)(hm:z=m){r:CV}(hrow:rows[m]?=some r){cs:L CV}(hcs:r.cells=cs)(k:ah P X ops rest ((d,.c (.ip cs))::env) σ (⟨[],[]⟩::acc) Q) :
  ah P X ops (o::rest) env σ acc Q:=by
 subst hcs
 exact ah.step (dg hg) (bP.index hX ho hi hk hj ha hr hs hz hm hrow) (gA.id _) vF
end
end Go.cM
namespace Go.cM
def qI(s:Nat)(v:CV):Bool:=match v with
 |.gb _=>false
 |.undef=>false
 |.agg cs=>Nat.beq cs.length s
 |_=>Nat.beq 1 s
def gK(s:Nat):L CV->Bool
 |[]=>true
 |v::l=>match qI s v with
  |true=>gK s l
  |false=>false
def pM{s:Nat}{v:CV}(h:qI s v=true){G:iJ}{u:Value}(hr:Rel G v u):v.cells.length=s/\bI G v.cells u.cells.toList/\v.cells.all CV.one=true:=by
 have one:∀(v:CV)(u:Value),v.one=true->Rel G v u->u.cells.toList=[u]:=by
  intro v u ho hr
  cases v<;>simp only[Rel]at hr<;>simp[CV.one]at ho
  case int=>subst hr;rfl
  case bool=>subst hr;rfl
  case str=>subst hr;rfl
  case kI=>subst hr;rfl
  case sl=>obtain⟨_,_,_,rfl,_⟩:=hr;rfl
  case ip=>obtain⟨_,_,rfl,_⟩:=hr;rfl
  case sH=>obtain⟨_,rfl,_⟩:=hr;rfl
  case any=>cases u<;>first|rfl|exact absurd Z (hr.1 _)
  case pJ=>obtain⟨_,rfl⟩:=hr;rfl
 have fin:∀(v:CV),v.one=true->v.cells=[v]->Rel G v u->Nat.beq 1 s=true->v.cells.length=s/\bI G v.cells u.cells.toList/\v.cells.all CV.one=true:=by
  intro v ho hc hr hs
  rw[hc,one v u ho hr]
  exact⟨beq_true hs,by simp only[bI];exact⟨u,[],Z,hr,Z⟩,by simp[ho]⟩
 cases v with
 |gb=>simp[qI]at h
 |undef=>simp[qI]at h
 |agg cs =>
  simp only[qI]at h
  simp only[Rel]at hr
  obtain⟨vs,rfl,h1,h2⟩:=hr
  exact⟨beq_true h,by simpa[CV.cells,Value.cells]using h1,h2⟩
 |int=>exact fin _ Z Z hr h
 |bool=>exact fin _ Z Z hr h
 |str=>exact fin _ Z Z hr h
 |kI=>exact fin _ Z Z hr h
 |sl=>exact fin _ Z Z hr h
 |ip=>exact fin _ Z Z hr h
 |sH=>exact fin _ Z Z hr h
 |any=>exact fin _ Z Z hr h
 |pJ=>exact fin _ Z Z hr h
def mT{s:Nat}:∀{l:L CV},gK s l=true->∀v∈l,qI s v=true
 |[],_,v,h=>by simp at h
 |x::l,h,v,B=>by
  simp only[gK]at h;split at h
  ·rename_i I;rcases List.mem_cons.1 B with rfl|B
   ·exact I
   ·exact mT h v B
  ·simp at h
def flat(s:Nat):L Value->L Value
 |[]=>[]
 |v::l=>v.cells.toList++flat s l
def eP.of_flat{G:iJ}{s b:Nat}:∀{rows:L CV}{vs:L Value}{o:Nat},gK s rows=true->bI G rows vs->(∀(j:Nat) u,(flat s vs)[j]?=some u->G b (o+j)=some u)->eP G s b o rows
 |[],vs,o,_,_,_=>by simp[eP]
 |r::rows,vs,o,V,hr,hG=>by
  simp only[gK]at V;split at V
  ·rename_i Y;simp only[bI]at hr;obtain⟨u,us,rfl,h1,h2⟩:=hr;obtain⟨W,C,K⟩:=pM Y h1;obtain⟨U,T⟩:=bI.get C;simp only[flat]at hG;simp only[eP];refine⟨(w8 G b o r).2 (cL.jo λj c S=>?_),W,eP.of_flat V h2 λj M H=>?_⟩
   ·grind
   ·have:=hG (s+j) M (by rw[abP bn];rw[show s+j-u.cells.toList.length=j from by omega];exact H);rwa[show o+(s+j)=o+s+j from by omega]at this
  ·simp at V
section
variable {P : Program}{X : Ctx}
def U5{w:World}{g:Gh}{σ:St}(hinv:Inv w g σ)(us:Array Value)(t:TypeId) :
  let g':Gh:=⟨λb o=>if b=w.heap.size then us[o]? else g.G b o,g.box,g.tok,g.room⟩
  let w':World:={w with heap:=w.heap.push (.cells us t)}
  Inv w' g' σ/\gy w g σ w' g' σ/\g.le g':=by
 intro g' w'
 have hold:∀b o,b<w.heap.size->w'.cell? ⟨b,o,none⟩=w.cell? ⟨b,o,none⟩/\w'.frozen? ⟨b,o,none⟩=w.frozen? ⟨b,o,none⟩:=by
  intro b o hb
  exact⟨World.cell?_alloc_old w _ ⟨b,o,none⟩ QF,World.frozen?_alloc_old w _ ⟨b,o,none⟩ QF⟩
 have hsz:w'.heap.size=w.heap.size+1:=by simp[w']
 have Fw:∀b o v,g.G b o=some v->b<w.heap.size:=λb o v h=>World.block_lt_of_cell? w ⟨b,o,none⟩ (hinv.nF b o v h)
 have hle:g.le g':=by
  refine⟨λb o v h=>?_,λ_ _ h=>h,λ_ _ _=>rfl,λk hw fI h=>⟨hw,fI,h,aav _,λ_=>rfl⟩⟩
  have:=Fw b o v h
  simp only[g'];rw[if_neg bn];exact h
 have FA:∀b o,b<w.heap.size->g'.G b o=g.G b o:=by grind
 refine⟨⟨?_,?_,hinv.fo,?_,hinv.ga,hinv.used,hinv.yz λk cs b _ _ hb o=>hold b o hb⟩,⟨Z,Z,Z,bn,λb hb _=>by show(w.heap.push _)[b]?=_;rw[abz,if_neg bn],λb o hb _=>hold b o hb,hle.1,?_,?_,?_,?_⟩,hle⟩
 ·intro b o v h
  simp only[g']at h
  split at h
  ·rename_i hb;subst hb
   have:=World.cell?_alloc_new w us t o
   rw[show(w.alloc (.cells us t))=w' from rfl]at this
   rw[this];exact h
  ·rw[(hold b o (Fw b o v h)).1];exact hinv.nF b o v h
 ·intro k cs e
  obtain⟨b,h1,h2,h3,h4⟩:=hinv.box k cs e
  exact⟨b,h1,bn,λo=>by rw[FA b o h2];exact h3 o,(cg.of_same (λo=>hold b o h2) h4).mono hle⟩
 ·intro k n e
  obtain⟨fI,h1,h2⟩:=hinv.tok k n e
  refine⟨fI,h1,λb lo hi hr=>?_⟩
  obtain⟨h3,h4,h5⟩:=h2 b lo hi hr
  refine⟨bn,λo HK Kj=>?_,h5⟩
  obtain⟨h6,⟨u,h7⟩,h8⟩:=h4 o HK Kj
  exact⟨by rw[FA b o h3];exact h6,⟨u,(hold b o h3).1.trans h7⟩,(hold b o h3).2.trans h8⟩
 ·grind
 ·grind
 ·grind
 ·grind
def gY(ρ:Operand->Option AV):Nat->L (Nat×Operand)->Option (L CV)
 |_,[]=>some []
 |i,(j,x)::l=>match Nat.beq j i,ρ x with
  |true,some a=>match close a with
   |some v=>match gY ρ (i+1) l with
    |some r=>some (v::r)
    |none=>none
   |none=>none
  |_,_=>none
def oQ{ρ Y:Operand->Option AV}:∀(l:L (Nat×Operand))(i:Nat),(∀p∈l,Y p.2=ρ p.2)->gY Y i l=gY ρ i l
 |[],_,_=>rfl
 |(j,x)::l,i,h=>by
  simp only[gY,h (j,x) ek,oQ l (i+1) (λp q=>h p (by simp[q]))]
def tr{g:Gh}{ρ:Operand->Option AV}{ev:Operand->Value}(O:∀x v,ρ x=some v->aI g v (ev x)):∀{l:L (Nat×Operand)}{i:Nat}{rows:L CV},
  gY ρ i l=some rows->bI g.G rows (l.map λp=>ev p.2)/\(l.map λ(j,x)=>(j,ev x))=((l.map λp=>ev p.2).zipIdx i).map λ(v,j)=>(j,v)
 |[],i,rows,h=>by simp[gY]at h;subst h;simp[bI]
 |(j,x)::l,i,rows,h=>by
  simp only[gY]at h;split at h
  ·rename_i a T I;split at h
   ·rename_i v B;split at h
    ·rename_i r E;simp at h;subst h;obtain⟨h1,h2⟩:=tr O E;have:=beq_true T;subst this;refine⟨by simp only[Zl,bI];exact⟨_,_,Z,(qE a v _ B (O x a I)).1,h1⟩,?_⟩;simp only[Zl,abi,h2]
    ·simp at h
   ·simp at h
  ·simp at h
def yN(s:Nat):∀(vals:L Value)(k:Nat)(arr:Array Value),(∀v∈vals,v.cells.size=s)->(k+vals.length)*s<=arr.size ->
  ∃res,Instr.fill (λi=>some (i*s,s)) arr ((vals.zipIdx k).map λ(v,j)=>(j,v))=some res/\res.size=arr.size /\
   ∀(j:Nat),res[j]?=if k*s<=j/\j<k*s+(flat s vals).length then(flat s vals)[j-k*s]? else arr[j]?
 |[],k,arr,_,_=>⟨arr,by simp[Instr.fill],Z,λj=>by simp[flat];intros;omega⟩
 |v::vals,k,arr,h1,h2=>by
  have hv:=h1 v ek
  have hks:(k+1)*s=k*s+s:=abR k s
  have tu:(k+1+vals.length)*s<=arr.size:=by simp at h2;rwa[show k+1+vals.length=k+(vals.length+1)from by omega]
  have hfit:k*s+s<=arr.size:=by grind
  obtain⟨f1,f2⟩:=BI (k*s) v.cells.toList 0 arr ot
  obtain⟨res,r1,r2,r3⟩:=yN s vals (k+1) _ (λx hx=>h1 x (by simp[hx])) (by rw[f1];exact tu)
  refine⟨res,?_,by rw[r2,f1],λj=>?_⟩
  ·simp only[abi,Zl,Instr.fill]
   rw[if_neg ot]
   have P8:v.cells.zipIdx.foldl (λcs (c,j)=>cs.setIfInBounds (k*s+j) c) arr =
     (v.cells.toList.zipIdx 0).foldl (λ(cs:Array Value)(p:Value×Nat)=>cs.setIfInBounds (k*s+p.2) p.1) arr:=by
    rw[<- Array.foldl_toList];simp
   rw[P8];exact r1
  ·rw[r3,f2]
   have hl:v.cells.toList.length=s:=by simpa using hv
   simp only[flat,aay,hks,hl,aaL]
   by_cases c1:k*s+s<=j/\j<k*s+s+(flat s vals).length
   ·grind
   ·grind
def bP.buildSlice(hX:ct P X){o:Oper}{env:Env}{σ:St}{t:TypeId}{len:Nat}{parts:Array (Nat×Operand)}(ho:o.op = .buildSlice t len parts)
  {i j:TI}{e:Nat}(hi:X.ti t=some i)(hk:i.kind = .slice e)(hj:X.ti e=some j){za:AV}(hz:j.zero=some za){rows:L CV}(hp:gY (aJ X env) 0 parts.toList=some rows)
  (hl:Nat.beq rows.length len=true)(hs:gK j.size rows=true)(hb:Nat.ble (len*j.size) 16777216=true) :
  bP P X o env σ (.own .exact j.size rows) (λσ=>σ) ⟨[],[]⟩:=by
 intro cT σ1 w g act next Q h1 h2 hinv cu de hnext
 have yu:gY (aJ X cT) 0 parts.toList=some rows:=by
  rw[oQ _ _ (λp hp=>h1 p.2 NG)];exact hp
 obtain⟨c1,c2⟩:=tr (g:=g) (ev:=act.eval) (λx v hx=>cn de cu hx) yu
 have hlen:=beq_true hl
 have hne:j.size≠0:=by obtain⟨_,_,_,_,_,_,hh⟩:=hX.ti e j hj;exact hh
 obtain⟨d,iL,gH,_⟩:=hX.run_underlying (w:=w) hi
 rw[hk]at gH;simp only[ey]at gH;subst gH
 obtain⟨z,z1,z2,z3⟩:=hX.kL (w:=w) hj hz
 have hcs:∀v∈(parts.toList.map λp=>act.eval p.2),v.cells.size=j.size:=by
  intro v hv
  obtain⟨m,hm⟩:=abv hv
  obtain⟨l1,l2⟩:=bI.get c1
  have hml:m<rows.length:=by rw[l1];exact(List.getElem?_eq_some_iff.1 hm).1
  obtain⟨u,e1,e2⟩:=l2 m rows[m] (by simp[hml])
  rw[hm]at e1;simp at e1;subst e1
  obtain⟨a1,a2,_⟩:=pM (mT hs rows[m] (abI hml)) e2
  have:=(bI.get a2).1
  simp at this;omega
 have hvl:(parts.toList.map λp=>act.eval p.2).length=len:=by rw[<- (bI.get c1).1];exact hlen
 obtain⟨res,r1,r2,r3⟩:=yN j.size (parts.toList.map λp=>act.eval p.2) 0 ((Array.range (len*j.size)).map (z.cells[· % z.cells.size]!)) hcs (by simp at hvl ⊢;rw[hvl];exact aav _)
 have hrun:(execOp act.eval o).run P w = .ok (.value (.slice (some ⟨w.heap.size,0,none⟩) len len)) {w with heap:=w.heap.push (.cells res e)}:=by
  obtain⟨dst,op,type,pos,after,guard⟩:=o
  simp only at ho;subst ho
  have yd:¬(2^24<len*j.size):=by have:=ZD hb;omega
  have HN:∀zc:Array Value,(Array.range (len*j.size)).map (λx=>zc[x%zc.size]!)=(Array.range (len*j.size)).map (λx=>z.cells[x%z.cells.size]!) ->
    Instr.fill (λi=>some (i*j.size,j.size)) ((Array.range (len*j.size)).map (λx=>zc[x%zc.size]!)) (parts.map λx=>(x.1,act.eval x.2)).toList=some res:=by
   intro zc q2
   rw[q2,aaP]
   have WU:(parts.toList.map λx=>(x.1,act.eval x.2))=_:=c2
   rw[WU];exact r1
  simp only[execOp,Instr.buildSlice,Sem.run_bind,iL,Result.andThen_ok,hX.run_sizeOf hj]
  rw[if_neg (by simpa using yd)]
  by_cases h0:len*j.size=0
  ·rw[if_pos h0]
   simp only[Sem.run_bind,Sem.run_pure,Result.andThen_ok]
   rw[HN #[] (by rw[h0];simp)]
   simp[newRow]
  ·rw[if_neg h0]
   simp only[Sem.run_bind,Sem.run_pure,Result.andThen_ok,z1]
   rw[HN z.cells rfl]
   simp[newRow]
 unfold Oper.wp
 rw[hrun,Oper.upon_value]
 obtain⟨i1,i2,i3⟩:=U5 hinv res e
 refine hnext _ _ _ ?_ i1 i2 i3
 simp only[aI]
 refine⟨_,_,_,Z,hlen.symm,aav _,?_,Z⟩
 right
 refine⟨w.heap.size,0,Z,eP.of_flat hs (bI.mono i3.1 _ _ c1) λm u hu=>?_⟩
 simp only[if_true,ZG]
 have hm:m<(flat j.size (parts.toList.map λp=>act.eval p.2)).length:=(List.getElem?_eq_some_iff.1 hu).1
 rw[r3 m,if_pos bn]
 simpa using hu
end
section
variable {P : Program}{X : Ctx}{ops : Array Oper}{o : Oper}{rest : L Oper}{env : Env}{σ : St}{acc : L Fp}{Q : Env -> St -> L Fp -> Prop}
def ah.buildSlice(hX:ct P X)(kn:L Nat)(hg:cS ops.toList kn env o=some true){t:TypeId}{len:Nat}{parts:Array (Nat×Operand)}(ho:o.op = .buildSlice t len parts){d:Nat}(hd:o.dst=some d)
  {i j:TI}{e:Nat}(hi:X.ti t=some i)(hk:i.kind = .slice e)(hj:X.ti e=some j){za:AV}(hz:j.zero=some za){rows:L CV}(hp:gY (aJ X env) 0 parts.toList=some rows)
  (hl:Nat.beq rows.length len=true){s:Nat}(hsz:j.size=s)(hs:gK s rows=true)(hb:Nat.ble (len*s) 16777216=true)
  (k:ah P X ops rest ((d,.own .exact s rows)::env) σ (⟨[],[]⟩::acc) Q):ah P X ops (o::rest) env σ acc Q:=by
 subst hsz
 exact ah.step (dg hg) (bP.buildSlice hX ho hi hk hj hz hp hl hs hb) (gA.id _) vF
end
end Go.cM
namespace Go.cM
open Go.ChangeShapes Go.WideShapes Go.RowKit
def lI(w:World):iJ:=λb o=>w.cell? ⟨b,o,none⟩
section
variable {H : Type}{enc : TypeId × Value -> H}{P : Program}{W : World}{B : DataW H -> Nat}
def RD(enc:TypeId×Value->H)(P:Program)(W:World)(B:DataW H->Nat)(n:Nat)(t:TypeId)(R:CV->Nat->Prop):Prop :=
 ∀Y,Y<=n->∀cs x,DataW.trod enc P W 0 (λ_=>true) true Y t cs=some x ->
  ∃c:CV,bI (lI W) c.cells cs/\c.cells.all CV.one=true/\R c (B x.1)
def RD.mono{n m:Nat}{t:TypeId}{R V:CV->Nat->Prop}(h:RD enc P W B n t R)(U:m<=n)(D:∀c k,R c k->V c k):RD enc P W B m t V :=
 λY hf cs x I=>by
  obtain⟨c,h1,h2,K⟩:=h Y (aaG hf U) cs x I;exact⟨c,h1,h2,D _ _ K⟩
def RD.zero{t:TypeId}{R:CV->Nat->Prop}:RD enc P W B 0 t R:=λY hf cs x I=>by
 obtain rfl:Y=0:=by omega
 simp[DataW.trod]at I
structure vY(B:DataW H->Nat):Prop where
 lit:∀l,1<=B (.lit l)
 str:∀s,s.length+1<=B (.lit (.string s))
 nil:1<=B .nil
 slice:∀l r,(l.map B).sum+1<=B (.slice l r)
 agg:∀l,(l.map B).sum+1<=B (.agg l)
def RD.int(hB:vY B){n:Nat}{t:TypeId}{k:IntKind}(hu:P.underlying t=some (.int k)) :
  RD enc P W B n t λc m=>∃z,c = .int k z/\(Lit.int k z).wf=true/\1<=m:=λfuel hf cs x hx=>by
 obtain⟨z,rfl,rfl,hw⟩:=DataW.trod_int hu hx
 exact⟨.int k z,XO,Ma,z,Z,hw,hB.lit _⟩
def RD.bool(hB:vY B){n:Nat}{t:TypeId}(hu:P.underlying t=some .bool) :
  RD enc P W B n t λc m=>∃z,c = .bool z/\1<=m:=λfuel hf cs x hx=>by
 obtain⟨z,rfl,rfl⟩:=DataW.trod_bool hu hx
 exact⟨.bool z,XO,Ma,z,Z,hB.lit _⟩
def RD.str(hB:vY B){n:Nat}{t:TypeId}(hu:P.underlying t=some .string) :
  RD enc P W B n t λc m=>∃s,c = .str s/\s.length+1<=m:=λfuel hf cs x hx=>by
 obtain⟨s,rfl,rfl,hw⟩:=DataW.trod_string hu hx
 exact⟨.str s.data.toList,XO,Ma,_,Z,hB.str _⟩
def tv(R:CV->Nat->Prop):L CV->Nat->Prop
 |[],m=>0<=m
 |r::rs,m=>∃k Y,R r k/\tv R rs Y/\k+Y<=m
def tv.le{R:CV->Nat->Prop}:∀{l:L CV}{m Y:Nat},tv R l m->m<=Y->tv R l Y
 |[],_,_,_,_=>aaF _
 |_::_,_,_,⟨k,B,h1,h2,K⟩,W=>⟨k,B,h1,h2,aaG K W⟩
def RD.slice(hB:vY B){n:Nat}{t e:TypeId}{s:Nat}(hu:P.underlying t=some (.slice e))(hs:P.cellsOf e=s)(h0:0<s){R:CV->Nat->Prop}(h:RD enc P W B n e R) :
  RD enc P W B (n+1) t λc m=>∃rows,c = .sl s rows/\∃m',tv R rows m'/\m'+1<=m:=λfuel hf cs x hx=>by
 subst hs
 rcases DataW.trod_slice hu hx with ⟨rfl,rfl⟩|⟨a,len,cap,elems,rest,n',rfl,rfl,rfl,_,hl,hc,hlen,hel,_,_⟩
 ·refine⟨.sl _ [],?_,Ma,[],Z,0,aav _,by simpa using hB.nil⟩
  simp only[CV.cells,bI]
  refine⟨_,_,Z,?_,Z⟩
  simp only[Rel]
  exact⟨none,0,0,Z,Z,aav _,.inl trivial⟩
 ·have hs:elems=[]\/∃b o,a=⟨b,o,none⟩:=by
   cases elems with
   |nil=>exact .inl Z
   |cons y l =>
    right
    have U6:=hel 0 (by simp at hlen;omega)
    simp only[abq,acG]at U6
    obtain⟨vs,hvs,hy⟩:=U6
    obtain⟨_,hvl,hcell⟩:=World.cells?_some hvs
    obtain⟨b,o,spot⟩:=a
    have g0:=hcell 0 h0
    obtain⟨v0,Nu⟩:∃v0,vs[0]?=some v0:=by
     cases vs with
     |nil=>simp at hvl;omega
     |cons v _=>exact⟨v,Z⟩
    rw[Nu]at g0
    have h9:=World.cell?_spot g0
    have WV:spot=none:=by simpa[Addr.add]using h9
    exact⟨b,o,by rw[WV]⟩
  have key:∀(b o:Nat),a=⟨b,o,none⟩->∀(l:L (DataW H×L MemPlace))(k:Nat),(∀i,i<l.length->(W.cells? 0 (a.add ((k+i)*P.cellsOf e)) (P.cellsOf e)).bind (DataW.trod enc P W 0 (λ_=>true) true n' e)=l[i]?) ->
    ∃rows,rows.length=l.length/\tv R rows ((l.map λx=>B x.1).sum)/\eP (lI W) (P.cellsOf e) b (o+k*P.cellsOf e) rows:=by
   intro b o hab l
   subst hab
   induction l with
   |nil=>intro k _;exact⟨[],Z,by simp[tv],by simp[eP]⟩
   |cons y l ih =>
    intro k hk
    obtain⟨rows,h1,h2,h4⟩:=ih (k+1) λi hi=>by
     have:=hk (i+1) ot
     rw[show k+1+i=k+(i+1)from by omega];simpa using this
    have U6:=hk 0 ek
    simp only[aaL,abq,acG]at U6
    obtain⟨vs,hvs,hy⟩:=U6
    obtain⟨c,c1,c2,c3⟩:=h n' bn vs y hy
    obtain⟨_,hvl,hcell⟩:=World.cells?_some hvs
    refine⟨c::rows,TL,⟨_,_,c3,h2,ek⟩,?_⟩
    simp only[eP]
    refine⟨(w8 _ _ _ _).2 (cL.jo λj cj hj=>?_),by rw[(bI.get c1).1,hvl],?_⟩
    ·obtain⟨u,WW,Sh⟩:=(bI.get c1).2 j cj hj
     refine⟨u,?_,Sh,List.all_eq_true.1 c2 cj (aaA hj)⟩
     have hjl:j<P.cellsOf e:=by rw[<- hvl];exact(List.getElem?_eq_some_iff.1 WW).1
     have:=hcell j hjl
     rw[add_plain,add_plain]at this
     rw[lI,this,WW]
    ·rwa[show o+(k+1)*P.cellsOf e=o+k*P.cellsOf e+P.cellsOf e from by rw[abR];omega]at h4
  have hBs:(elems.map λx=>B x.1).sum+1<=B (.slice (elems.map (·.1)) (rest.map (·.1))):=by
   have:=hB.slice (elems.map (·.1)) (rest.map (·.1));rwa[List.map_map]at this
  rcases hs with rfl|⟨b,o,rfl⟩
  ·refine⟨.sl _ [],?_,Ma,[],Z,0,aav _,by simpa using hBs⟩
   simp only[CV.cells,bI]
   refine⟨_,_,Z,?_,Z⟩
   simp only[Rel]
   exact⟨_,_,_,Z,by simpa using hlen.symm,hl,.inl trivial⟩
  ·obtain⟨rows,h1,h2,h4⟩:=key b o rfl elems 0 λi hi=>by rw[ZG];exact hel i bn
   refine⟨.sl _ rows,?_,Ma,rows,Z,_,h2,hBs⟩
   simp only[CV.cells,bI]
   refine⟨_,_,Z,?_,Z⟩
   simp only[Rel]
   exact⟨_,_,_,Z,bn,hl,.inr ⟨b,o,Z,by simpa using h4⟩⟩
def AL:L (CV->Nat->Prop)->L CV->Nat->Prop
 |[],l,_=>l=[]
 |R::Rs,l,m=>∃c k U Y,l=c.cells++U/\R c k/\AL Rs U Y/\k+Y<=m
def xl(enc:TypeId×Value->H)(P:Program)(W:World)(B:DataW H->Nat)(n:Nat):Nat->L (Nat×TypeId)->L (CV->Nat->Prop)->Prop
 |o,[],Rs=>Rs=[]
 |o,(O,t)::fs,Rs=>∃R Y,Rs=R::Y/\O=o/\RD enc P W B n t R/\xl enc P W B n (o+P.cellsOf t) fs Y
def j8(P:Program):Nat->L (Nat×TypeId)->Nat
 |o,[]=>o
 |o,(_,t)::fs=>j8 P (o+P.cellsOf t) fs
def zO{n:Nat}{cs:L Value}:∀(V:L (Nat×TypeId))(o:Nat)(Rs:L (CV->Nat->Prop))(xs:L (DataW H×L MemPlace)),xl enc P W B n o V Rs ->
  (∀(i:Nat)(O:Nat)(t:TypeId),V[i]?=some (O,t)->DataW.trod enc P W 0 (λ_=>true) true n t ((cs.drop O).take (P.cellsOf t))=xs[i]?)->xs.length=V.length->cs.length=j8 P o V ->
  ∃l,bI (lI W) l (cs.drop o)/\l.all CV.one=true/\AL Rs l ((xs.map λx=>B x.1).sum)
 |[],o,Rs,xs,Y,hx,hl,S=>by
  simp only[xl]at Y;subst Y;simp only[j8]at S;exact⟨[],by simp[bI,S],ek,by simp[AL]⟩
 |(O,t)::V,o,Rs,[],Y,hx,hl,S=>by simp at hl
 |(O,t)::V,o,Rs,x::xs,Y,hx,hl,S=>by
  simp only[xl]at Y;obtain⟨R,U,rfl,rfl,D,Y⟩:=Y;simp only[j8]at S;have p:=hx 0 O t ek;simp only[abq]at p;obtain⟨c,T,C,K⟩:=D n (aav _) _ _ p;obtain⟨l,u,Q,N⟩:=zO V _ U xs Y (λi A M q=>by simpa using hx (i+1) A M (by simpa using q)) (by simpa using hl) S;refine⟨c.cells++l,?_,by rw[abm,C,Q];rfl,c,_,l,_,Z,K,N,ek⟩;have:=eO T u;rwa[<- List.drop_drop,aaY]at this
def RD.struct(H:vY B){n:Nat}{t:TypeId}{U:Array Field}(N:P.underlying t=some (.struct U)){Y:L (Nat×TypeId)}(V:U.toList.map (λf=>(f.offset,f.type))=Y)
  {Rs:L (CV->Nat->Prop)}(O:∀m,m<=n->xl enc P W B m 0 Y Rs)(S:P.cellsOf t=j8 P 0 Y) :
  RD enc P W B (n+1) t λc m=>∃l,c = .agg l/\∃T,AL Rs l T/\T+1<=m:=λQ hf cs x I=>by
 obtain⟨xs,E,rfl,rfl,M,J,G⟩:=DataW.trod_struct N I;subst V
 obtain⟨l,u,D,C⟩:=zO (cs:=cs) _ 0 Rs xs (O E bn) (λi A q K=>by
  simp only[List.getElem?_map,Option.map_eq_some_iff]at K;obtain⟨f,hf,S⟩:=K;simp only[aaW]at S;obtain⟨rfl,rfl⟩:=S
  exact G i f (by simpa using hf)) (by simpa using J) (M.trans S)
 refine⟨.agg l,by simpa[CV.cells]using u,by simpa[CV.cells]using D,l,Z,_,C,?_⟩;have:=H.agg (xs.map (·.1));rwa[List.map_map]at this
def FB(R:CV->Nat->Prop):Nat->L CV->Nat->Prop
 |0,l,_=>l=[]
 |n+1,l,m=>∃c k U Y,l=c.cells++U/\R c k/\FB R n U Y/\k+Y<=m
def RD.array(hB:vY B){n:Nat}{t e:TypeId}{len:Nat}(hu:P.underlying t=some (.array len e))(he:P.cellsOf t=len*P.cellsOf e){R:CV->Nat->Prop}(h:RD enc P W B n e R) :
  RD enc P W B (n+1) t λc m=>∃l,c = .agg l/\∃m',FB R len l m'/\m'+1<=m:=λfuel hf cs x hx=>by
 have hx':∃(xs:L (DataW H×L MemPlace)) (m:Nat),fuel=m+1/\x=(.agg (xs.map (·.1)),xs.flatMap (·.2))/\cs.length=P.cellsOf t/\xs.length=len /\
   ∀(i:Nat),i<len->DataW.trod enc P W 0 (λ_=>true) true m e ((cs.drop (i*P.cellsOf e)).take (P.cellsOf e))=xs[i]?:=by
  cases fuel with
  |zero=>simp[DataW.trod]at hx
  |succ m =>
   unfold DataW.trod at hx
   rw[hu]at hx
   split at hx<;>simp_all
   obtain⟨hl,xs,hp,hd⟩:=hx
   exact⟨xs,hd.symm,by simpa using mapM_some_length hp,λi hi=>mapM_some_get hp i i (by simp[hi])⟩
 obtain⟨xs,m,rfl,rfl,hl,R3,jB⟩:=hx'
 have key:∀(ys:L (DataW H×L MemPlace))(k:Nat),(∀i,i<ys.length->DataW.trod enc P W 0 (λ_=>true) true m e ((cs.drop ((k+i)*P.cellsOf e)).take (P.cellsOf e))=ys[i]?)->cs.length=(k+ys.length)*P.cellsOf e ->
   ∃l,bI (lI W) l (cs.drop (k*P.cellsOf e))/\l.all CV.one=true/\FB R ys.length l ((ys.map λx=>B x.1).sum):=by
  intro ys
  induction ys with
  |nil=>intro k _ hk;exact⟨[],by simp only[bI,List.drop_eq_nil_iff];simp at hk;omega,ek,by simp[FB]⟩
  |cons y ys ih =>
   intro k hk hle
   obtain⟨l,l1,l2,l3⟩:=ih (k+1) (λi hi=>by
    have:=hk (i+1) ot
    rw[show k+1+i=k+(i+1)from by omega];simpa using this) (by rw[hle];congr 1;simp;omega)
   have h0:=hk 0 ek
   simp only[aaL,abq]at h0
   obtain⟨c,c1,c2,c3⟩:=h m bn _ _ h0
   refine⟨c.cells++l,?_,by rw[abm,c2,l2];rfl,c,_,l,_,Z,c3,l3,ek⟩
   have:=eO c1 l1
   rwa[abR,<- List.drop_drop,aaY]at this
 obtain⟨l,l1,l2,l3⟩:=key xs 0 (λi hi=>by rw[ZG];exact jB i bn) (by rw[hl,he,R3,ZG])
 rw[R3]at l3
 refine⟨.agg l,by simpa[CV.cells]using l1,by simpa[CV.cells]using l2,l,Z,_,l3,?_⟩
 have:=hB.agg (xs.map (·.1));rwa[List.map_map]at this
def sC{R:CV->Nat->Prop}{t:TypeId}{v:Value}{d:DataW H}{A:L MemPlace}{V:Nat}{r:Reach}{U:Array Field}(N:P.underlying t=some (.struct U))(T:∀n,RD enc P W B n t R)
  (S:DataW.Trod enc P W 0 (λ_=>true) true t v d A)(hok:Value.okWide P W r V t v)(D:∀c k,R c k->∃l,c = .agg l):∃c,Rel (lI W) c v/\R c (B d):=by
 obtain⟨Y,hf⟩:=S;obtain⟨c,h1,h2,K⟩:=T Y Y (aav _) _ _ hf;refine⟨c,?_,K⟩;obtain⟨l,rfl⟩:=D _ _ K;obtain⟨cs,rfl,_⟩:=okWide_struct N hok;simp only[CV.cells,Value.cells]at h1 h2;simp only[Rel];exact⟨_,Z,h1,h2⟩
def pN{R:CV->Nat->Prop}{t e:TypeId}{v:Value}{d:DataW H}{A:L MemPlace}{U:Nat}{r:Reach}(N:P.underlying t=some (.slice e))(T:∀n,RD enc P W B n t R)
  (S:DataW.Trod enc P W 0 (λ_=>true) true t v d A)(hok:Value.okWide P W r U t v)(D:∀c k,R c k->∃s l,c = .sl s l):∃c,Rel (lI W) c v/\R c (B d):=by
 obtain⟨Y,hf⟩:=S;obtain⟨c,h1,h2,K⟩:=T Y Y (aav _) _ _ hf;refine⟨c,?_,K⟩;obtain⟨s,l,rfl⟩:=D _ _ K;obtain⟨a,Q,O,rfl⟩:=okWide_slice N hok;simp only[CV.cells,Value.cells,bI]at h1;obtain⟨u,us,V,M,rfl⟩:=h1;simp at V;subst V;exact M
def UN(W:World):∀b o v,lI W b o=some v->W.cell? ⟨b,o,none⟩=some v:=λ_ _ _ h=>h
def FC{w:World}{Y:Nat->Bool}:DataW.TrodVars enc P w Y [] [] []:=by simp[DataW.TrodVars]
def J6{f:Func}{s:ChangeSpec}{V M U again:Bool}{Q:World}{G G':iJ}{args:Array Value}{v:Value}{S gs:L (DataW H)}{before:L MemPlace}
  (B:DataW.Whole enc P f.params.toList s.vars V W args.toList S gs before)(Y:s.vars=[])
  (hl:laidOutB P=true)(hm:mapsRowed P=true)(hz:∀t e,t<P.types.size->P.underlying t=some (.slice e)->0<P.cellsOf e)(hT:∀t∈f.params.toList,t<P.types.size)
  (D:HJ W G Q G'){tb:TypeId}(hr:f.resultTypes = #[tb])(hb:P.underlying tb=some .bool){b:Bool}(hv:v = .bool b)
  (K:s.fn H (S++gs)={results:=[.lit (.bool b)],args:=S}):s.post enc P f V M U again W args v Q:=by
 subst hv;have E:=B.lt;have u:=B;obtain⟨p,q,hA,hV,rfl,hfz,Yq⟩:=B;rw[Y]at hV;obtain⟨rfl,rfl⟩:=trodVars_none hV;simp only[Zc]at *;have J:∀x∈p,W.sameAt Q x:=by
  intro x I;have:=D.block x.block (E x I);cases x with
  |cell C off=>simp only[World.sameAt,World.cell?];simp only[MemPlace.block]at this;rw[this]
  |map C=>exact this
 have T:∀O:Nat->Bool,(∀x∈p,O x.block=true)->DataW.TrodAll enc P Q 0 O true f.params.toList args.toList S p:=by
  intro O hsp;have h1:=DataW.TrodAll.respare (kids_rows hl hm) hz hT hA hsp;have:∀(ts:L TypeId)(vs:L Value)(S:L (DataW H))(A:L MemPlace),DataW.TrodAll enc P W 0 O true ts vs S A->(∀x∈A,W.sameAt Q x)->DataW.TrodAll enc P Q 0 O true ts vs S A:=by
   intro ts
   induction ts with
   |nil=>intro vs S A h _;obtain⟨rfl,rfl,rfl⟩:=trodAll_nil h;rfl
   |cons t ts ih =>
    intro vs S A h hs;obtain⟨v,vs',d,ds',p1,q1,rfl,rfl,rfl,⟨n,h2⟩,h3⟩:=trodAll_cons h;exact⟨p1,q1,⟨n,DataW.trod_carry n _ _ _ h2 λx I=>hs x (List.mem_append_left _ I)⟩,ih _ _ _ h3 λx I=>hs x (List.mem_append_right _ I),Z⟩
  exact this _ _ _ _ h1 J
 have N:∀(b0:Nat)(O:Nat->Bool)(hd:Bool),DataW.TrodAll enc P Q b0 O hd f.resultTypes.toList ((Value.bool b).resultList f.resultTypes.size) [.lit (.bool b)] []:=by
  intro b0 O hd;rw[hr];exact trodAll_mk1 (shut_bool hb b)
 have WX:W.keptBut Q (· ∈ p):=by
  refine⟨D.os,D.output,λi hi=>?_⟩;rw[D.block i hi];cases W.heap[i]? with
  |none=>simp
  |some o=>cases o<;>simp
 refine⟨S,[],p,[],p,[],by simpa using u,by simp only[Zc,K];exact N _ _ _,by simp only[Zc,K];exact T _ λx I=>by simpa using E x I,
  by simp only[Zc,K,Y];rfl,World.keptBut_mono (λx I=>⟨I,.inr (.inl I)⟩) WX,λ_=>?_⟩
 refine⟨ok_one hr Z (okWide_bool_mk hb b),_,_,([]++p)++[],⟨[]++p,[],trodAll_append (T _ (λ_ _=>rfl)) (N _ _ _),(by rw[Y];exact FC),Z,?_,?_⟩,?_⟩
 ·intro C off hp;have yu:MemPlace.cell C off∈p:=by simpa using hp
  rw[(D.kept C off (E _ yu)).2];exact hfz C off (by simpa using yu)
 ·simp_all
 ·simp_all
end
end Go.cM
namespace Go.cM
section
variable {P : Program}{X : Ctx}{ops : Array Oper}{o : Oper}{rest : L Oper}{env : Env}{σ : St}{acc : L Fp}{Q : Env -> St -> L Fp -> Prop}
def ah.look(hX:ct P X)(kn:L Nat)(p:cS ops.toList kn env o=some true){d:Nat}(Y:o.dst=some d){v:AV}(B:gl X σ.boxes (aJ X env) o.op=some v)
  (E:kM (aJ X env) o.op=[])(k:ah P X ops rest ((d,v)::env) σ (⟨[],[]⟩::acc) Q):ah P X ops (o::rest) env σ acc Q:=by
 have:=ah.step (Q:=Q) (rest:=rest) (acc:=acc) (dg p) (bP.pure (σ:=σ) hX B) (gA.id _);rw[Y,E]at this;exact this k
def ah.quo(hX:ct P X)(kn:L Nat)(p:cS ops.toList kn env o=some true){t W:TypeId}{x y:Operand}(Y:o.op = .binOp .quo t x y W){d:Nat}(V:o.dst=some d){i:TI}(K:X.ti t=some i)
  {q:IntKind}{a b:Int}(I:aJ X env x=some (.c (.int q a)))(J:aJ X env y=some (.c (.int q b)))(D:sameKind q q=true)(A:b≠0)
  (k:ah P X ops rest ((d,.c (.int q (q.wrap (a.tdiv b))))::env) σ (⟨[],[]⟩::acc) Q):ah P X ops (o::rest) env σ acc Q:=by
 refine ah.look hX kn p V ?_ ?_ k
 ·rw[Y];simp only[gl,K,I,J,Kf,D,P4];have:(b==0)=false:=by simpa using A
  rw[this]
 ·rw[Y];rfl
def ah.rem(hX:ct P X)(kn:L Nat)(p:cS ops.toList kn env o=some true){t W:TypeId}{x y:Operand}(Y:o.op = .binOp .rem t x y W){d:Nat}(V:o.dst=some d){i:TI}(K:X.ti t=some i)
  {q:IntKind}{a b:Int}(I:aJ X env x=some (.c (.int q a)))(J:aJ X env y=some (.c (.int q b)))(D:sameKind q q=true)(A:b≠0)
  (k:ah P X ops rest ((d,.c (.int q (a.tmod b)))::env) σ (⟨[],[]⟩::acc) Q):ah P X ops (o::rest) env σ acc Q:=by
 refine ah.look hX kn p V ?_ ?_ k
 ·rw[Y];simp only[gl,K,I,J,Kf,D,P4];have:(b==0)=false:=by simpa using A
  rw[this]
 ·rw[Y];rfl
def ah.shr(hX:ct P X)(kn:L Nat)(p:cS ops.toList kn env o=some true){t W:TypeId}{x y:Operand}(Y:o.op = .binOp .shr t x y W){d:Nat}(V:o.dst=some d){i:TI}(K:X.ti t=some i)
  {q U:IntKind}{a b:Int}(I:aJ X env x=some (.c (.int q a)))(J:aJ X env y=some (.c (.int U b))){n:Nat}(A:b=n)
  (k:ah P X ops rest ((d,.c (.int q (a.fdiv (2^(min n q.bits)))))::env) σ (⟨[],[]⟩::acc) Q):ah P X ops (o::rest) env σ acc Q:=by
 refine ah.look hX kn p V ?_ ?_ k
 ·subst A;rw[Y];simp only[gl,K,I,J,Kf,yB]
 ·rw[Y];rfl
def ah.shl(hX:ct P X)(kn:L Nat)(p:cS ops.toList kn env o=some true){t W:TypeId}{x y:Operand}(Y:o.op = .binOp .shl t x y W){d:Nat}(V:o.dst=some d){i:TI}(K:X.ti t=some i)
  {q U:IntKind}{a b:Int}(I:aJ X env x=some (.c (.int q a)))(J:aJ X env y=some (.c (.int U b))){n:Nat}(A:b=n)
  (k:ah P X ops rest ((d,.c (.int q (q.wrap (a*2^(min n q.bits)))))::env) σ (⟨[],[]⟩::acc) Q):ah P X ops (o::rest) env σ acc Q:=by
 refine ah.look hX kn p V ?_ ?_ k
 ·subst A;rw[Y];simp only[gl,K,I,J,Kf,yB]
 ·rw[Y];rfl
end
end Go.cM
namespace Go.cM
def PK:Char:=Char.ofNat 32
def SD(l:L Nat):L Char:=l.map Char.ofNat
def rM(b:L Char):∀(a:L Char),(a.all λc=>c != PK)=true->wordsSigns (a++PK::b)=a::wordsSigns b
 |[],_=>rfl
 |c::a,h=>by
  simp only[aaE,aal,abY,ne_eq]at h;have O:=rM b a h.2;rw[Zy,wordsSigns]
  ·rw[O]
  ·exact h.1
def PL{P:Program}{a b c:L Char}{d:L Char}(h:P.initOrder=String.ofList (a++PK::(b++PK::(c++PK::d))))(W:(a.all λc=>c != PK)=true)(A:(b.all λc=>c != PK)=true)(p:(c.all λc=>c != PK)=true)
  (H:∀T,behindMainWord (a::b::T)=T):∃T,behindMainWord (wordsSigns P.initOrder.toList)=c::T:=by
 refine⟨wordsSigns d,?_⟩;rw[h,String.toList_ofList,rM _ _ W,rM _ _ A,rM _ _ p,H]
def SE {P : Program} {c : L Char} (h : ∃ T, behindMainWord (wordsSigns P.initOrder.toList) = c :: T) (h1 : (c == "gc".toList || c == "spec".toList) = false) (h2 : (c == "cut".toList) = true) : P.make = some .cut := by
 obtain⟨T,h⟩:=h;unfold Program.make;rw[h];simp only[h1,h2,Bool.true_or,if_true];rfl
def HO{c:L Char}(T:L (L Char))(V:(liftWords.all λo=>c != o.toList)=true):stripLifts liftWords (c::T)=([],c::T):=by
 have M:∀(l:L String),(l.all λo=>c != o.toList)=true->stripLifts l (c::T)=([],c::T):=by
  intro l
  induction l with
  |nil=>intro _;rfl
  |cons o l O =>
   intro h;simp only[aaE,aal,abY,ne_eq]at h;simp only[stripLifts];rw[if_neg (by simpa using h.1)];exact O h.2
 exact M _ V
def Ql {P : Program} {c : L Char} (h : ∃ T, behindMainWord (wordsSigns P.initOrder.toList) = c :: T) (hs : (liftWords.all fun o => c != o.toList) = true) (h2 : (c == "cut".toList) = true) : P.headLifts = [] := by
 obtain⟨T,h⟩:=h;have tu : c = "cut".toList := eq_of_beq h2;unfold Program.headLifts;rw[h,HO T hs];simp[tu]
def PO {P : Program} {c : L Char} (h : ∃ T, behindMainWord (wordsSigns P.initOrder.toList) = c :: T) (hs : (liftWords.all fun o => c != o.toList) = true) (h2 : (c == "cut".toList) = true) (h3 : (c == "carried".toList) = false) : P.liftsFinal = false := by
 have h4:=Ql h hs h2;obtain⟨T,h⟩:=h;unfold Program.liftsFinal;rw[h4,h];have h5 : (some c == some "carried".toList) = false := by rw [← h3]; rfl
 simp only[List.head?_cons,h5,aaH,Bool.false_or];rfl
def PR {P : Program} {c : L Char} (h : ∃ T, behindMainWord (wordsSigns P.initOrder.toList) = c :: T) (hs : (liftWords.all fun o => c != o.toList) = true) (h2 : (c == "cut".toList) = true)
  (h5:P.laysLater=false) (h6:P.bearsReflect=false) (h7:P.doorFits []=true):P.mayEnter=true:=by
 obtain⟨T,h⟩:=h;have tu : c = "cut".toList := eq_of_beq h2;unfold Program.mayEnter;rw[h];simp only[HO T hs,h5,h6,h7];simp[tu]
def NM{P:Program}{f:FuncId}{Y:Func}{s:ChangeSpec}{c:OpenClaim}(u:c.wf (OpenSpec.ofChange s)=true)(A:laidOutB P=true)(B:mapsRowed P=true)
  (q:Y.params.all (P.readableRec ·)=true)(p:namedTie P c.named s.vars=true)
  (k6:(c.stops==[])=true)(k7:(P.stops==[])=true)(k8:(c.knobs==[])=true)(k9:(P.stopKnobs==[])=true)
  (U:(c.inPlace==P.inPlace f)=true)(T:(c.unfollowed==P.unfollowed f)=true)(S:(c.recurses==P.recurses f)=true)(Q:(c.named==P.varsNamed f)=true)
  (V:((c.maps==(Y.params.toList++s.plain.varTypes P).any (P.mapsRec ·))&&(c.ifaces==(Y.params.toList++s.plain.varTypes P).any (P.ifacesRec ·))&&(c.mapsOut==P.mapsAmong Y.resultTypes.toList))=true)
  (O:((c.loops==(Y.params.toList++s.plain.varTypes P).any (P.loopsFrom ·))&&(c.wideKeys==(Y.params.toList++s.plain.varTypes P++Y.resultTypes.toList).any (P.wideKeysFrom ·)))=true)
  (W:(s.vars.all (P.varReadable ·)&&Y.resultTypes.all (λt=>P.readableRec t&&decide (t<P.types.size))&&(c.ifacesOut==Y.resultTypes.toList.any (P.ifacesRec ·))&&(c.loopsOut==Y.resultTypes.toList.any (P.loopsFrom ·)))=true)
  (N:(c.plainKeys==P.plainKeys)=true)(M:c.shortTexts.isNone=true)(K:P.stopsHeard=true)(J:P.mayEnter=true)(I:(c.lifted==P.liftsFinal)=true)(H:(P.make==some c.make)=true)
  (G:(c.kinds==(if c.domain.isEmpty then []else Y.params.toList.map λt=>match P.underlying t with|some (.int k)=>some k|_=>none))=true)(E:(c.pinned==c.pinnedBy)=true)
  (D:(c.veiled==(Y.params.toList++s.plain.varTypes P++Y.resultTypes.toList).any (P.veiledRec ·))=true)(C:c.veiledFits P Y.params.toList (Y.params.toList++s.plain.varTypes P++Y.resultTypes.toList)=true) :
  joinedFacts P f Y s c=true:=by
 simp only[aal]at V O W;unfold joinedFacts;simp only[aal];exact⟨⟨⟨⟨⟨⟨⟨⟨⟨⟨⟨⟨⟨⟨⟨⟨⟨⟨⟨⟨⟨⟨⟨⟨⟨⟨⟨⟨⟨⟨⟨u,A⟩,B⟩,q⟩,p⟩,k6⟩,k7⟩,k8⟩,k9⟩,U⟩,T⟩,S⟩,Q⟩,V.1.1⟩,V.1.2⟩,V.2⟩,O.1⟩,O.2⟩,W.1.1.1⟩,W.1.1.2⟩,W.1.2⟩,W.2⟩,N⟩,M⟩,K⟩,J⟩,I⟩,H⟩,G⟩,E⟩,D⟩,C⟩
end Go.cM
