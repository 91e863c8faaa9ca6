/- A layer of abstract values over the model, part B: -/
import Derived.Test.YtdnpapgijbhofaaGreatDoorLibARt
import Derived.RowKit
import Derived.ReadAgain
import Derived.JoinedOf
set_option linter.defProp false
set_option linter.unusedSimpArgs false
set_option linter.unusedVariables false
namespace Go.cB
def sU{ops:Array Oper}{Y:L Fp}(h:pg ops Y=true){i:Nat}{o:Oper}(W:ops[i]?=some o):∀e∈nG o,e<i:=by
 have E:i<ops.size:=by grind
 simp only[pg]at h;simp_all
def JL{ops:Array Oper}{Y:L Fp}(h:pg ops Y=true){i j:Nat}(W:i<ops.size)(T:j<i) :
  ((Sk ops).getD i 0).testBit j=true\/indep ops j i (Y.getD j ⟨[],[]⟩) (Y.getD i ⟨[],[]⟩)=true:=by
 simp only[pg]at h;simp_all
def Fz{ops:Array Oper}{i j:Nat}{o:Oper}(Y:ops[i]?=some o)(h:((Sk ops).getD i 0).testBit j=true) :
  ∃e∈nG o,e=j\/((Sk ops).getD e 0).testBit j=true:=by
 have W:i<ops.size:=by grind
 obtain⟨e,h1,h2⟩:=C6 (ops.toList.map nG) [] i c9 (by simpa using W) j h;refine⟨e,?_,h2⟩;simp_all
def JM{ops:Array Oper}{Q:L Fp}(J:pg ops Q=true){Y:Array Bool}
  (D:∀i o,Y.getD i false=true->ops[i]?=some o->∀e∈nG o,Y.getD e false=true) :
  ∀(n i:Nat),i<=n->∀o,ops[i]?=some o->(∀e∈nG o,Y.getD e false=true)->∀j,((Sk ops).getD i 0).testBit j=true->Y.getD j false=true:=by
 intro n
 induction n with
 |zero =>
  intro i E o V U j T;obtain⟨e,h1,h2⟩:=Fz V T;have:=sU J V e h1;omega
 |succ n O =>
  intro i E o V U j T;obtain⟨e,h1,h2⟩:=Fz V T;rcases h2 with rfl|h2
  simp_all;have H:=sU J V e h1;have A:=U e h1;cases W:ops[e]? with
  |none =>
   have E:i<ops.size:=(by grind);rw[Array.getElem?_eq_none_iff]at W;omega
  |some S=>exact O e bn S W (D e S A W) j h2
def Ad{ops:Array Oper}{Y:Array Bool}{i:Nat}:i∈Region.ready .any ops Y ↔
  i<ops.size/\Y.getD i true=false/\∃o,ops[i]?=some o/\∀e∈nG o,Y.getD e false=true:=by
 unfold Region.ready;simp only[List.mem_filter,List.mem_range,aak,Bool.not_eq_true'];constructor
 ·rintro⟨h1,h2,U⟩;refine⟨h1,h2,?_⟩;cases W:ops[i]? with
  |none=>rw[W]at U;simp at U
  |some o =>
   refine⟨o,Z,?_⟩;rw[W]at U;simp only[adB,ady,Array.all_eq_true']at U;intro e A;simp only[nG]at A;grind
 rintro⟨h1,h2,o,W,U⟩;refine⟨h1,h2,?_⟩;rw[W];simp only[adB,ady,Array.all_eq_true'];intro V T;by_cases S:Region.binds .any V;have:=U V.on (List.mem_filterMap.2 ⟨V,aaE,by simp[S]⟩);simp[this];grind
def tU.any{P:Program}{X:Ctx}{β:jq}{n:Nat}{ops:Array Oper}(hd:qR ops n=true){Ew:L Fp}(hok:pg ops Ew=true){Q:Exit->Act->World->Prop} :
  ∀(r:L (Nat×It))(listed:Array Bool),listed.size=ops.size ->
   (∀i,i∈r.map (·.1)↔i<ops.size/\listed.getD i true=false)->(r.map (·.1)).Pairwise (· < ·) ->
   (∀x∈r,x.2.fp=Ew.getD x.1 ⟨[],[]⟩) ->
   (∀i o,listed.getD i false=true->ops[i]?=some o->∀e∈nG o,listed.getD e false=true) ->
   ∀{env env':Env}{σ σ':St},tU P X ops r env σ env' σ'->∀{g:Gh}{w:World}{a:Act},Live X β n env σ g w a ->
   (∀g' w' a',Live X β n env' σ' g' w' a'->Q .normal a' w')->wpAny P .any ops Q r.length listed a w:=by
 intro r
 generalize hlen:r.length=len
 induction len generalizing r with
 |zero =>
  intro listed hsz hmem tJ hfp jJ env env' σ σ' hO g w a hL hQ
  have:r=[]:=acG hlen
  subst this
  obtain⟨rfl,rfl⟩:=hO
  refine⟨?_,hQ g w a hL⟩
  apply List.eq_nil_iff_forall_not_mem.2
  intro i hi
  obtain⟨h1,h2,_⟩:=Ad.1 hi
  have:=(hmem i).2 ⟨h1,h2⟩
  simp at this
 |succ len ih =>
  intro listed hsz hmem tJ hfp jJ env env' σ σ' hO g w a hL hQ
  refine⟨λXt=>?_,λi hi=>?_⟩
  ·exfalso
   cases r with
   |nil=>simp at hlen
   |cons x r =>
    obtain⟨i,it⟩:=x
    have hm:=(hmem i).1 c9
    have ho:∃o,ops[i]?=some o:=⟨ops[i]'hm.1,c9⟩
    obtain⟨o,ho⟩:=ho
    have:i∈Region.ready .any ops listed:=by
     refine Ad.2 ⟨hm.1,hm.2,o,ho,λe he=>?_⟩
     have hlt:=sU hok ho e he
     cases hle:listed.getD e true with
     |true =>
      have:e<listed.size:=by omega
      simpa[this]using hle
     |false =>
      have:=(hmem e).2 ⟨bn,hle⟩
      simp only[abk,abu]at this
      rcases this with h|h
      ·omega
      ·simp only[abk,adK]at tJ
       have:=tJ.1 e h
       omega
    rw[Xt]at this
    simp at this
  ·obtain⟨h1,h2,o,ho,h3⟩:=Ad.1 hi
   have hm:=(hmem i).2 ⟨h1,h2⟩
   obtain⟨⟨i',it⟩,hx,rfl⟩:=List.mem_map.1 hm
   simp only at *
   obtain⟨p,q,rfl⟩:=List.append_of_mem hx
   have hidx:∀x∈p,x.1<i':=by
    intro x Za
    simp only[abr,adE]at tJ
    exact tJ.2.2 x.1 (List.mem_map_of_mem Za) i' c9
   have abw:∀x∈p,indep ops x.1 i' x.2.fp it.fp=true:=by
    intro x Za
    have hlt:=hidx x Za
    rcases JL hok h1 hlt with hb|hb
    ·exfalso
     have:=JM hok jJ i' i' (aal _) o ho h3 x.1 hb
     have hm2:=(hmem x.1).1 (by simp;exact .inl ⟨x.2,Za⟩)
     have abx:x.1<listed.size:=by omega
     simp[abx]at this hm2
     rw[this]at hm2;simp at hm2
    ·rw[hfp x (by simp[Za]),hfp (i',it) c9];exact hb
   obtain⟨e1,s1,e2,s2,g1,g2,g3⟩:=tU.front abw hO
   refine g1.wp hd hL λg' w' a' hL'=>?_
   have Zb:∀k,(listed.setIfInBounds i' true).getD k true=if k=i' then true else listed.getD k true:=by
    intro k
    simp only[acf,adN]
    by_cases hk:i'=k
    ·subst hk;simp[hsz,h1]
    ·rw[if_neg hk,if_neg (λe=>hk e.symm)]
   have Xu:∀k,(listed.setIfInBounds i' true).getD k false=if k=i' then true else listed.getD k false:=by
    intro k
    simp only[acf,adN]
    by_cases hk:i'=k
    ·subst hk;simp[hsz,h1]
    ·rw[if_neg hk,if_neg (λe=>hk e.symm)]
   have hnd:i' ∉ (p++q).map (·.1):=by
    intro h
    simp only[abr,aaV]at h
    simp only[abr,abk,adE,adK]at tJ
    rcases h with h|h
    ·have:=tJ.2.2 i' h i' c9;omega
    ·have:=tJ.2.1.1 i' h;omega
   refine ih (p++q) (by simp at hlen ⊢;omega) _ (by simpa using hsz) ?_ ?_ ?_ ?_ g2 hL' ?_
   ·intro k
    rw[Zb]
    have hk:=hmem k
    simp only[abr,abk,aaV,abu]at hk ⊢
    by_cases hki:k=i'
    ·subst hki
     simp only[abr,aaV]at hnd
     exact⟨λh=>absurd h hnd,λh=>by simp at h⟩
    ·simp only[hki,false_or,acd]at hk ⊢
     exact hk
   ·simp only[abr,abk,adE,adK]at tJ ⊢
    exact⟨tJ.1,tJ.2.1.2,λa ha b hb=>tJ.2.2 a ha b (by simp[hb])⟩
   ·intro x Yi
    exact hfp x (by simp at Yi ⊢;rcases Yi with h|h<;>simp[h])
   ·intro k ok tE hk2 e he
    rw[Xu]at tE ⊢
    by_cases QC:e=i'
    ·simp[QC]
    ·rw[if_neg QC]
     by_cases hki:k=i'
     ·subst hki
      rw[ho]at hk2;simp at hk2;subst hk2
      exact h3 e he
     ·rw[if_neg hki]at tE
      exact jJ k ok tE hk2 e he
   ·intro xh w'' a'' aby
    exact hQ xh w'' a'' (aby.ext ⟨λt=>(g3.1 t).symm,λk=>(g3.2 k).symm⟩)
def lu(ρ:Operand->Option AV):Op->L Nat
 |.load _ x=>match ρ x with
  |some (.ptr k _)=>[k]
  |_=>[]
 |_=>[]
def uu{X:Ctx}{ρ Y:Operand->Option AV}(P:L (Nat×Nat)):∀(A:L (Nat×Operand))(cells:L AV),(∀p∈A,Y p.2=ρ p.2) ->
  rU X Y P A cells=rU X ρ P A cells
 |[],_,_=>rfl
 |(i,x)::rest,cells,h=>by simp only[rU];have S:=λc=>uu (X:=X) P rest c (λp D=>h p (by simp[D]));simp_all
def ji{ρ G2:Operand->Option AV}:∀(l:L Operand),(∀x∈l,G2 x=ρ x)->gL G2 l=gL ρ l
 |[],_=>rfl
 |x::l,h=>by
  simp only[gL,h x c9,ji l (λy hy=>h y (by simp[hy]))]
def j7{ρ Y:Operand->Option AV}(o:Option Operand)(h:∀x,o=some x->Y x=ρ x):bound Y o=bound ρ o:=by
 cases o with
 |none=>rfl
 |some x=>simp only[bound,h x rfl]
def JN{X:Ctx}{boxes Sl:L (Nat×L AV)}{ρ G2:Operand->Option AV}{op:Op}(h:∀x∈op.operands.toList,G2 x=ρ x)
  (hb:∀k∈lu ρ op,ak k Sl=ak k boxes):gN X Sl G2 op=gN X boxes ρ op:=by
 cases op with
 |move x=>exact h x j0
 |assign x=>exact h x j0
 |pick c a b=>simp only[gN,h c j0,h a j0,h b j0]
 |load t x =>
  have hx:=h x j0
  simp only[gN,hx]
  simp only[lu]at hb
  cases X.ti t with
  |none=>rfl
  |some i =>
   cases hr:ρ x with
   |none=>rfl
   |some a =>
    rw[hr]at hb
    cases a with
    |ptr k o=>simp only[hb k c9]
    |c v=>cases v<;>rfl
    |_=>rfl
 |nilCheck x=>simp only[gN,h x j0]
 |binOp op t x y yt=>simp only[gN,h x j0,h y j0]
 |unOp op t x=>simp only[gN,h x j0]
 |convert s d x=>simp only[gN,h x j0]
 |fieldAddr t x f=>simp only[gN,h x j0]
 |field t x f=>simp only[gN,h x j0]
 |indexAddr t x i=>simp only[gN,h x j0,h i j0]
 |index t x i=>simp only[gN,h x j0,h i j0]
 |extract x n=>simp only[gN,h x j0]
 |build t parts =>
  have:=λfs z=>uu (X:=X) fs parts.toList z (λp hp=>h p.2 (by
   simp only[Op.operands,adZ];exact⟨p,hp,Z⟩))
  simp only[gN,this]
 |slice t x lo hi mx =>
  have h1:=j7 lo (λy hy=>h y Yv)
  have h2:=j7 hi (λy hy=>h y Yv)
  have h3:=j7 mx (λy hy=>h y Yv)
  simp only[gN,h x j0,h1,h2,h3]
 |makeFunc fn first caps =>
  cases fn with
  |func f =>
   have:=ji caps.toList (λy hy=>h y (by simp only[Op.operands,abF,aaV];exact .inr hy))
   simp only[gN,this]
  |_=>rfl
 |call c =>
  obtain⟨callee,args,argTypes⟩:=c
  cases callee with
  |builtin b =>
   have hargs:∀x∈args.toList,G2 x=ρ x:=λx hx=>h x (by simpa[Op.operands,Call.operands]using hx)
   have hmap:args.toList.map G2=args.toList.map ρ:=List.map_congr_left hargs
   cases b with
   |len =>
    simp only[gN]
    cases hl:args.toList with
    |nil=>rfl
    |cons x l =>
     rw[hl]at hargs
     have:=hargs x c9
     cases l with
     |cons y l=>rfl
     |nil =>
      cases argTypes.toList with
      |nil=>rfl
      |cons t l' =>
       cases l' with
       |nil=>simp only[this]
       |cons _ _=>rfl
   |min=>simp only[gN,hmap]
   |max=>simp only[gN,hmap]
   |_=>rfl
  |_=>rfl
 |_=>rfl
def bI.pure{P:Program}{X:Ctx}(hX:cg P X){o:Oper}{env:Env}{σ:St}{v:AV}(h:gN X σ.boxes (aH X env) o.op=some v) :
  bI P X o env σ v (λσ=>σ) ⟨lu (aH X env) o.op,[]⟩:=by
 intro A B w g a next Q h1 h2 U V H N;have O:gN X B.boxes (aH X A) o.op=some v:=by rw[JN h1 (λk E=>(h2 k (.inl E)).1)];exact h
 obtain⟨u,q,K⟩:=JJ (P:=P) (w:=w) (g:=g) hX U.oC (λk cs e=>by
  obtain⟨b,p,_,_,M⟩:=U.box k cs e;exact⟨b,p,M⟩) (ev:=a.eval) (λx v Y=>bV H V Y) O
 unfold Oper.wp;rw[q,Oper.upon_value];exact N u w g K U (gG.refl _ _ _) (Gh.le.refl _)
def ai(P:Program)(X:Ctx)(ops:Array Oper)(rest:L Oper)(env:Env)(σ:St)(acc:L Fp)(Q:Env->St->L Fp->Prop):Prop :=
 ∀i,ops.toList.drop i=rest->∃(Y:L It) (env':Env) (D:St),Y.length=rest.length/\tU P X ops ((List.range' i rest.length).zip Y) env σ env' D /\
  Q env' D (acc.reverse++Y.map It.fp)
section
variable {P : Program}{X : Ctx}{ops : Array Oper}{i : Nat}{o : Oper}{rest : L Oper}{env : Env}{σ : St}{acc : L Fp}{Q : Env -> St -> L Fp -> Prop}
def ai.nil(h:Q env σ acc.reverse):ai P X ops [] env σ acc Q :=
 λ_ _=>⟨[],env,σ,Z,⟨Z,Z⟩,nW⟩
def FA{ops:Array Oper}(h:ops.toList.drop i=o::rest):ops[i]?=some o/\ops.toList.drop (i+1)=rest:=by constructor;have:=Ac h;simpa using this;have:=aaZ List.tail h;simpa using this
def ai.step{v:AV}{xW:St->St}{fp:Fp}(hg:qA ops o env)(hs:bI P X o env σ v xW fp)(hE:gE xW fp)
  (k:ai P X ops rest (yG o.dst v env) (xW σ) (fp::acc) Q):ai P X ops (o::rest) env σ acc Q:=by
 intro i h
 obtain⟨ho,hr⟩:=FA h
 obtain⟨Py,env',σ',h1,h2,h3⟩:=k (i+1) hr
 refine⟨⟨true,v,xW,fp⟩::Py,env',σ',T1,?_,by simpa using h3⟩
 exact⟨_,_,⟨o,ho,Z,Z,hE,.inr ⟨Z,hg,hs⟩⟩,h2⟩
def ai.skip(hg:pO ops o env)(k:ai P X ops rest (yG o.dst (.c .undef) env) σ (⟨[],[]⟩::acc) Q):ai P X ops (o::rest) env σ acc Q:=by
 intro i h
 obtain⟨ho,hr⟩:=FA h
 obtain⟨Py,env',σ',h1,h2,h3⟩:=k (i+1) hr
 refine⟨It.skip::Py,env',σ',T1,?_,by simpa[It.skip]using h3⟩
 exact⟨_,_,⟨o,ho,Z,Z,gE.id _,.inl ⟨Z,hg⟩⟩,h2⟩
def simple:Op->Bool
 |.indexAddr _ _ _=>false
 |.index _ _ _=>false
 |.slice _ _ _ _ _=>false
 |.binOp .quo _ _ (.tmp _) _=>false
 |.binOp .rem _ _ (.tmp _) _=>false
 |.binOp .shl _ _ (.tmp _) _=>false
 |.binOp .shr _ _ (.tmp _) _=>false
 |_=>true
def mem(k:Nat):L Nat->Bool
 |[]=>false
 |x::l=>match Nat.beq x k with
  |true=>true
  |false=>mem k l
def cP(W:L Oper)(kn:L Nat)(env:Env)(o:Oper):Option Bool :=
 match o.guard with
 |none=>some true
 |some (j,Y)=>match mem j kn with
  |false=>none
  |true=>match nth W j with
   |none=>none
   |some V=>match V.dst with
    |none=>none
    |some d=>match ak d env with
     |some (.c (.bool b))=>match Y with
      |true=>some b
      |false=>some (!b)
     |some (.c .undef)=>some false
     |_=>none
def abz(ks:L Nat)(acc:L Fp):L Fp:=match ks with
 |[]=>⟨[],[]⟩::acc
 |k::l=>⟨k::l,[]⟩::acc
inductive Xv where
 |at(rest:List Oper) (env:Env) (acc:List Fp)
 |stuck
def wA(X:Ctx)(Y:L Oper)(N:L (Nat×L AV))(kn:L Nat):Nat->L Oper->Env->L Fp->Xv
 |0,rest,env,acc => .at rest env acc
 |_+1,[],env,acc => .at [] env acc
 |n+1,o::rest,env,acc=>match simple o.op with
  |false => .at (o::rest) env acc
  |true=>match cP Y kn env o with
   |none => .at (o::rest) env acc
   |some false=>match o.dst with
    |some d=>wA X Y N kn n rest ((d,.c .undef)::env) (⟨[],[]⟩::acc)
    |none=>wA X Y N kn n rest env (⟨[],[]⟩::acc)
   |some true=>match gN X N (aH X env) o.op with
    |none => .at (o::rest) env acc
    |some v=>match o.dst,lu (aH X env) o.op with
     |some d,[]=>wA X Y N kn n rest ((d,v)::env) (⟨[],[]⟩::acc)
     |some d,k::l=>wA X Y N kn n rest ((d,v)::env) (⟨k::l,[]⟩::acc)
     |none,ks=>wA X Y N kn n rest env (⟨ks,[]⟩::acc)
def rX{kn:L Nat}{b:Bool}(h:cP ops.toList kn env o=some b):if b then qA ops o env else pO ops o env:=by
 unfold cP at h;unfold qA pO;split at h;grind;rename_i j W Q;split at h;grind;split at h;grind;rename_i V Y;split at h;grind;rename_i d J;have C:pN ops j=some d:=by rw[qV]at Y;simp only[pN];simp_all
 grind
def ai.run(hX:cg P X)(n:Nat)(kn:L Nat):∀{rest:L Oper}{env:Env}{acc:L Fp}{K:L Oper}{env':Env}{Y:L Fp},
  wA X ops.toList σ.boxes kn n rest env acc = .at K env' Y->ai P X ops K env' σ Y Q->ai P X ops rest env σ acc Q:=by
 induction n with
 |zero=>intro rest env acc K env' Y h k;obtain⟨rfl,rfl,rfl⟩:=h;exact k
 |succ n S =>
  intro rest env acc K env' Y h k;cases rest with
  |nil=>simp[wA]at h;obtain⟨rfl,rfl,rfl⟩:=h;exact k
  |cons o rest =>
   have stop:Xv.at (o::rest) env acc = .at K env' Y->ai P X ops (o::rest) env σ acc Q:=(by simp_all);simp only[wA]at h;split at h;simp_all;split at h;simp_all
   ·rename_i G;have:=rX G;split at h
    ·rename_i d J;refine ai.skip this ?_;rw[J];exact S h k
    rename_i J;refine ai.skip this ?_;rw[J];exact S h k
   rename_i G;have:=rX G;split at h;simp_all;rename_i v q;have W:ai P X ops rest (yG o.dst v env) σ (⟨lu (aH X env) o.op,[]⟩::acc) Q->ai P X ops (o::rest) env σ acc Q :=
    ai.step this (bI.pure hX q) (gE.id _)
   split at h;rename_i d J E;rw[J,E]at W;exact W (S h k);rename_i d k' l J E;rw[J,E]at W;exact W (S h k);rename_i J;rw[J]at W;exact W (S h k)
def Fb(X:Ctx)(Y:L Oper)(N:L (Nat×L AV))(kn:L Nat)(n:Nat)(rest:L Oper)(env:Env)(acc:L Fp):Xv :=
 match rest with
 |[] => .stuck
 |o::rest=>match cP Y kn env o with
  |none => .stuck
  |some false=>match o.dst with
   |some d=>wA X Y N kn n rest ((d,.c .undef)::env) (⟨[],[]⟩::acc)
   |none=>wA X Y N kn n rest env (⟨[],[]⟩::acc)
  |some true=>match gN X N (aH X env) o.op with
   |none => .stuck
   |some v=>match o.dst,lu (aH X env) o.op with
    |some d,[]=>wA X Y N kn n rest ((d,v)::env) (⟨[],[]⟩::acc)
    |some d,k::l=>wA X Y N kn n rest ((d,v)::env) (⟨k::l,[]⟩::acc)
    |none,ks=>wA X Y N kn n rest env (⟨ks,[]⟩::acc)
def ai.LF(hX:cg P X)(n:Nat)(kn:L Nat){env:Env}{acc:L Fp}{K:L Oper}{env':Env}{W:L Fp}
  (h:Fb X ops.toList σ.boxes kn n rest env acc = .at K env' W)(k:ai P X ops K env' σ W Q):ai P X ops rest env σ acc Q:=by
 unfold Fb at h;split at h;grind;rename_i o rest;split at h;grind
 ·rename_i G;have:=rX G;refine ai.skip this ?_;split at h<;>rename_i J<;>rw[J]<;>exact ai.run hX n kn h k
 rename_i G;have:=rX G;split at h;grind;rename_i v q;have Y:ai P X ops rest (yG o.dst v env) σ (⟨lu (aH X env) o.op,[]⟩::acc) Q->ai P X ops (o::rest) env σ acc Q :=
  ai.step this (bI.pure hX q) (gE.id _)
 split at h;rename_i d J E;rw[J,E]at Y;exact Y (ai.run hX n kn h k);rename_i d k' l J E;rw[J,E]at Y;exact Y (ai.run hX n kn h k);rename_i J;rw[J]at Y;exact Y (ai.run hX n kn h k)
def G3(Y:Option Nat):L Oper->Nat
 |[]=>1
 |o::rest=>match o.guard with
  |none=>G3 Y rest+1
  |some (j,_)=>match Y with
   |some W=>match Nat.beq j W with
    |true=>G3 Y rest+1
    |false=>0
   |none=>0
def N7:L Oper->Nat
 |[]=>0
 |o::rest=>match o.guard with
  |none=>G3 none rest
  |some (j,_)=>G3 (some j) rest
def ai.abb(hX:cg P X)(kn:L Nat){rest:L Oper}{env:Env}{acc:L Fp}{K:L Oper}{env':Env}{Y:L Fp}
  (h:Fb X ops.toList σ.boxes kn (N7 rest) rest env acc = .at K env' Y)(k:ai P X ops K env' σ Y Q):ai P X ops rest env σ acc Q:=ai.LF hX _ kn h k
def ai.split{j d:Nat}{Y b:Bool}(G:o.guard=some (j,Y))(C:pN ops j=some d)(A:ak d env=some (.c (.bool b)))
  (h1:b=true->ai P X ops (o::rest) env σ acc Q)(h2:b=false->ai P X ops (o::rest) env σ acc Q):ai P X ops (o::rest) env σ acc Q:=by grind
end
end Go.cB
namespace Go.cB
def top(f:FuncId):Frame:={(default:Frame)with fn:=f,kind := .normal}
def AK(P:Program)(X:Ctx)(f:FuncId)(n:Nat)(β:jq)(R:Ending->World->Prop)(K:L Item)(env:Env)(σ:St):Prop :=
 ∀(g:Gh)(w:World)(a:Act)(cs:L Frame),Live X β n env σ g w a ->
  ∃e w' I,R e w'/\Comes P (lone ((top f).at a K) cs w) (lone I cs w') e/\I.fn=f/\I.leaving P w' e
section
variable {P : Program}{X : Ctx}{f : FuncId}{n : Nat}{β : jq}{R : Ending -> World -> Prop}{K : L Item}{env : Env}{σ : St}
def AK.go{T:L Item}(C:∀(a:Act)(cs:L Frame)(w:World),Steps P (lone ((top f).at a K) cs w) (lone ((top f).at a T) cs w))(h:AK P X f n β R T env σ):AK P X f n β R K env σ :=
 λg w a cs D=>let ⟨e,w',I,h1,h2,U,Y⟩:=h g w a cs D;⟨e,w',I,h1,h2.of_steps (C a cs w),U,Y⟩
def AK.seq{x y:Code}(h:AK P X f n β R (.code x :: .code y::K) env σ):AK P X f n β R (.code (.seq x y)::K) env σ :=
 AK.go (λ_ _ _ => .one step_seq) h
def AK.skip(h:AK P X f n β R K env σ):AK P X f n β R (.code .skip::K) env σ :=
 AK.go (λ_ _ _ => .one step_skip) h
def AK.block{id:Nat}{c:Code}(h:AK P X f n β R (.code c :: .inBlock id::K) env σ):AK P X f n β R (.code (.block id c)::K) env σ :=
 AK.go (λ_ _ _ => .one step_block) h
def AK.inBlock{id:Nat}(h:AK P X f n β R K env σ):AK P X f n β R (.inBlock id::K) env σ :=
 AK.go (λ_ _ _ => .one step_inBlock) h
def AK.loop{c:Code}(h:AK P X f n β R (.code c :: .inLoop c::K) env σ):AK P X f n β R (.code (.loop c)::K) env σ :=
 AK.go (λ_ _ _ => .one step_loop) h
def AK.inLoop{c:Code}(h:AK P X f n β R (.code c :: .inLoop c::K) env σ):AK P X f n β R (.inLoop c::K) env σ :=
 AK.go (λ_ _ _ => .one step_inLoop) h
def AK.exit{id:Nat}{T:L Item}(e:exitTo id K=some T)(h:AK P X f n β R T env σ):AK P X f n β R (.code (.exit id)::K) env σ :=
 AK.go (λ_ _ _ => .one (step_exit e)) h
def AK.cond{c:Operand}{x y:Code}{b:Bool}(Y:aH X env c=some (.c (.bool b)))(h:AK P X f n β R (.code (if b then x else y)::K) env σ) :
  AK P X f n β R (.code (.cond c x y)::K) env σ:=by
 intro g w a cs D;obtain⟨e,w',I,h1,h2,U,W⟩:=h g w a cs D;have:=bV D.env D.rT Y;exact⟨e,w',I,h1,h2.of_steps (.one (step_cond this)),U,W⟩
def AK.Wf{c:Operand}{x y:Code}(hc:aH X env c=some (.c (.bool true)))(h:AK P X f n β R (.code x::K) env σ) :
  AK P X f n β R (.code (.cond c x y)::K) env σ:=AK.cond hc nW
def AK.Wg{c:Operand}{x y:Code}(hc:aH X env c=some (.c (.bool false)))(h:AK P X f n β R (.code y::K) env σ) :
  AK P X f n β R (.code (.cond c x y)::K) env σ:=AK.cond hc nW
def AK.AR{c:Operand}{x y:Code}{b:Bool}(D:aH X env c=some (.c (.bool b)))(h1:b=true->AK P X f n β R (.code x::K) env σ)
  (h2:b=false->AK P X f n β R (.code y::K) env σ):AK P X f n β R (.code (.cond c x y)::K) env σ:=by
 cases b;exact AK.Wg D (h2 Z);exact AK.Wf D (h1 Z)
def AK.region(hm:P.follows .mixedOrders=true){id:Nat}{ops:Array Oper}{draw:Bool}(hd:qR ops n=true)
  (h:ai P X ops ops.toList env σ [] (λenv' σ' Ew=>(draw=true->pg ops Ew=true)/\AK P X f n β R K env' σ')) :
  AK P X f n β R (.code (.region id ops draw)::K) env σ:=by
 obtain⟨Py,env',σ',hlen,Zc,Pz,hK⟩:=h 0 c9
 intro g w a cs hL
 have hlen':Py.length=ops.size:=by simpa using hlen
 have hmap:(((List.range' 0 ops.toList.length).zip Py).map (·.1))=List.range ops.size:=by
  rw[List.map_fst_zip (by simp[hlen'])];simp[List.range_eq_range']
 have hwp:(Code.region id ops draw).wp P (λe a' w'=>e = .normal/\∃g',Live X β n env' σ' g' w' a') a w:=by
  cases draw with
  |false =>
   apply wp_region
   rw[<- hmap]
   exact tU.wp hd Zc hL λg' w' a' hL'=>⟨Z,g',hL'⟩
  |true =>
   apply wp_region_any hm
   have hL2:Live X β n env σ g {w with drawn:=w.drawn+1} a :=
    ⟨⟨hL.inv.oC,λk cs e=>by
      obtain⟨b,b1,b2,b3,b4⟩:=hL.inv.box k cs e
      exact⟨b,b1,b2,b3,bU.of_same (w:=w) (w':={w with drawn:=w.drawn+1}) (λo=>⟨rfl,rfl⟩) b4⟩,
     hL.inv.fq,hL.inv.tok,hL.inv.gh,hL.inv.used,hL.inv.room⟩,hL.rT,hL.env,
     hL.frame.trans ⟨Z,Z,Z,aal _,λ_ _ _=>rfl,λ_ _ _ _=>⟨Z,Z⟩,ja.le.refl _,λ_ _ _ h => .inl h,λk cs b h1 h2 => .inr ⟨k,cs,h1,h2⟩,
      λk n b lo hi h1 h2 => .inr ⟨k,n,lo,hi,h1,h2,aal _,aal _⟩,λ_ _ h=>⟨h,Z,Z⟩⟩,hL.size,hL.defers⟩
   have hl:((List.range' 0 ops.toList.length).zip Py).length=ops.size:=by simp[hlen']
   have aei:=tU.any hd (Pz Z) ((List.range' 0 ops.toList.length).zip Py) (Array.replicate ops.size false) c9 ?_ ?_ ?_ ?_ Zc hL2
    (Q:=λe a' w'=>e = .normal/\∃g',Live X β n env' σ' g' w' a') λg' w' a' hL'=>⟨Z,g',hL'⟩
   ·simp_all
   ·simp_all
   ·rw[hmap];exact List.pairwise_lt_range
   ·intro x hx
    obtain⟨k,hk⟩:=acV hx
    rw[List.getElem?_zip_eq_some]at hk
    obtain⟨k1,k2⟩:=hk
    have k3:k=x.1:=by
     have hlt:k<ops.toList.length:=by
      have:=(List.getElem?_eq_some_iff.1 k1).1;simpa using this
     rw[List.getElem?_range' hlt]at k1
     simpa using k1
    subst k3
    simp[k2]
   ·intro i o hi
    exfalso
    simp only[Array.getD]at hi
    split at hi
    ·simp at hi
    ·simp at hi
 obtain⟨e,a',w',⟨rfl,g',hL'⟩,abA⟩:=hwp (top f) K cs
 obtain⟨e,w'',fr,h1,h2,h3,h4⟩:=hK g' w' a' cs hL'
 exact⟨e,w'',fr,h1,h2.of_steps abA,h3,h4⟩
def ai.done{ops:Array Oper}{acc:L Fp}(h:AK P X f n β R K env σ) :
  ai P X ops [] env σ acc (λenv' D Y=>(false=true->pg ops Y=true)/\AK P X f n β R K env' D) :=
 ai.nil ⟨(λh=>by simp at h),h⟩
def ai.drawn{ops:Array Oper}{acc:L Fp}(hok:pg ops acc.reverse=true)(h:AK P X f n β R K env σ) :
  ai P X ops [] env σ acc (λenv' D Y=>(true=true->pg ops Y=true)/\AK P X f n β R K env' D) :=
 ai.nil ⟨λ_=>hok,h⟩
def sV(X:Ctx)(N:L (Nat×L AV))(env:Env):L ResultVar->Option (L AV)
 |[]=>some []
 |.tmp t::l=>match ak t env,sV X N env l with
  |some a,some r=>some (a::r)
  |_,_=>none
 |.cell t ty::l=>match gN X N (aH X env) (.load ty (.tmp t)),sV X N env l with
  |some a,some r=>some (a::r)
  |_,_=>none
def oK(X:Ctx)(N:L (Nat×L AV))(env:Env)(rs:L ResultVar):Option AV :=
 match sV X N env rs with
 |some [a]=>some a
 |some (a::b::l)=>some (.fG (a::b::l))
 |_=>none
def C7(B:Array Value):ResultVar->Sem Value
 |.tmp t=>pure (B.getD t undef)
 |.cell b t=>do loadVar t (<- asAddr (B.getD b undef))
def xl(P:Func)(B:Array Value):results P B=(do
  let vs<-P.results.mapM (C7 B)
  pure (if h:vs.size=1 then vs[0]else .tuple vs)):=by
 congr
def JO(Y:Addr):asAddr (.pointer (some Y))=pure Y:=rfl
def BT(hX:cg P X){g:Gh}{w:World}{a:Act}(hL:Live X β n env σ g w a):∀{rs:L ResultVar}{l:L AV},sV X σ.boxes env rs=some l ->
  ∃vs:L Value,(rs.mapM (C7 a.tmps)).run P w = .ok vs w/\bM g l vs
 |[],l,h=>by simp[sV]at h;subst h;exact⟨[],c9,by simp[bM]⟩
 |.tmp t::rs,l,h=>by simp only[sV]at h;split at h;rename_i x r h1 h2;simp at h;subst h;obtain⟨vs,e1,e2⟩:=BT hX hL h2;refine⟨a.tmps.getD t undef::vs,?_,by simp only[bM];exact⟨_,_,rfl,hL.env t x h1,e2⟩⟩;simp only[adS,C7];simp_all;grind
 |.cell t ty::rs,l,h=>by
  simp only[sV]at h;split at h
  ·rename_i x r h1 h2;simp at h;subst h;obtain⟨vs,e1,e2⟩:=BT hX hL h2
   obtain⟨u,r1,r2⟩:=JJ (P:=P) (w:=w) (g:=g) hX hL.inv.oC (λk cs e=>by
    obtain ⟨b, b1, _, _, b2⟩ := hL.inv.box k cs e; exact ⟨b, b1, b2⟩) (ev := a.eval) (fun x v hx => bV hL.env hL.rT hx) (o := ⟨none, .load ty (.tmp t), 0, "", #[], none⟩) h1
   simp only[execOp,Act.eval,Instr.loadAt]at r1;have r3:∃ad,a.tmps.getD t undef = .pointer (some ad)/\(loadVar ty ad).run P w = .ok u w:=by
    cases hv:a.tmps.getD t undef with
    |pointer p =>
     cases p with
     |none=>rw[hv]at r1;simp[Instr.sureAddr]at r1
     |some ad =>
      refine⟨ad,Z,?_⟩;rw[hv]at r1;simp only[Instr.sureAddr,Sem.run_bind,Sem.run_pure,Result.andThen_ok]at r1;cases hr:(loadVar ty ad).run P w with
      |ok u' w'=>rw[hr]at r1;simp at r1;obtain⟨rfl,rfl⟩:=r1;rfl
      |halt _ _=>rw[hr]at r1;simp at r1
    |_=>rw[hv]at r1;simp[Instr.sureAddr]at r1
   obtain⟨ad,r4,r5⟩:=r3;refine⟨u::vs,?_,by simp only[bM];exact⟨_,_,Z,r2,e2⟩⟩;simp only[adS,C7,Sem.run_bind,r4,JO,Sem.run_pure,Result.andThen_ok,r5];simp only[show(List.mapM (C7 a.tmps) rs).run P w = .ok vs w from e1];rfl
  simp at h
def xm(hX:cg P X){fn:Func}{g:Gh}{w:World}{a:Act}(hL:Live X β n env σ g w a){r:AV}(h:oK X σ.boxes env fn.results.toList=some r) :
  ∃u,(results fn a.tmps).run P w = .ok u w/\aP g r u:=by
 unfold oK at h
 have key:∀l,sV X σ.boxes env fn.results.toList=some l->∃vs:L Value,(fn.results.mapM (C7 a.tmps)).run P w = .ok vs.toArray w/\bM g l vs:=by
  intro l hl
  obtain⟨vs,e1,e2⟩:=BT hX hL hl
  refine⟨vs,?_,e2⟩
  rw[adr]
  simp_all
 split at h
 ·rename_i x hl
  simp at h;subst h
  obtain⟨vs,e1,e2⟩:=key _ hl
  obtain⟨u,us,rfl,e3,rfl⟩:=e2
  refine⟨u,?_,e3⟩
  rw[xl,Sem.run_bind,e1]
  simp
 ·rename_i x y l hl
  simp at h;subst h
  obtain⟨vs,e1,e2⟩:=key _ hl
  have G4:=e2
  obtain⟨u,us,rfl,e3,u2,us2,rfl,e4,e5⟩:=G4
  refine⟨.tuple (u::u2::us2).toArray,?_,by simp_all;exact⟨_,Z,e2,c9⟩⟩
  rw[xl,Sem.run_bind,e1]
  simp
 ·grind
def AK.ret(hX:cg P X){Y:Func}(hf:P.funcs[f]?=some Y){r:AV}(A:oK X σ.boxes env Y.results.toList=some r)
  (h:∀g w u,aP g r u->Inv w g σ->oz X g.G->gG β.w β.g β.σ w g σ->R (.returned u) w):AK P X f n β R (.code .ret::K) env σ:=by
 intro g w a cs D;obtain⟨u,h1,h2⟩:=xm hX D A;exact⟨.returned u,w,_,h g w u h2 D.inv D.rT D.frame,.one step_ret,Z,Z,D.defers,Z,Y,hf,h1⟩
end
end Go.cB
namespace Go.cB
def Enters(P:Program)(f:FuncId):Prop:=∀(args:Array Value)(w:World),(callFunc f args).run P w = .ok (.enter f args) w
structure JP(w:World)(G:ja)(w':World)(G':ja):Prop where
 os:w'.os=w.os
 tape:w'.tape=w.tape
 output:w'.output=w.output
 size:w.heap.size<=w'.heap.size
 block:∀b,b<w.heap.size->w'.heap[b]?=w.heap[b]?
 le:G.le G'
 new:∀b o v,G' b o=some v->G b o=some v\/w.heap.size<=b
 oC:∀b o v,G' b o=some v->w'.cell? ⟨b,o,none⟩=some v
def aR(P:Program)(X:Ctx)(f:FuncId)(args:L CV)(r:CV):Prop :=
 Enters P f/\∀(G:ja)(w:World)(vs:L Value),(∀b o v,G b o=some v->w.cell? ⟨b,o,none⟩=some v)->oz X G->bT G args vs ->
  Calls P f vs.toArray w λe w'=>∃u Y,e = .returned u/\Rel Y r u/\JP w G w' Y
def JP.kept{w w':World}{G P:ja}(h:JP w G w' P)(b o:Nat)(A:b<w.heap.size) :
  w'.cell? ⟨b,o,none⟩=w.cell? ⟨b,o,none⟩/\w'.frozen? ⟨b,o,none⟩=w.frozen? ⟨b,o,none⟩:=by
 have:=h.block b A;constructor;simp only[World.cell?,this];simp only[World.frozen?,this]
def aR.of{P:Program}{X:Ctx}{f:FuncId}{fn:Func}{c:Code}{args:L CV}{r:CV}(hf:P.funcs[f]?=some fn)(hb:fn.body=some c)(he:Enters P f)
  (hn:args.length<=fn.ntmps)(env:Env)(cX:env=(args.zipIdx.map λ(v,i)=>(i,AV.c v)))
  (h:∀β,β.σ=⟨[],[],[]⟩->AK P X f fn.ntmps β (λe w'=>∃u g',e = .returned u/\Rel g'.G r u/\gG β.w β.g β.σ w' g' ⟨[],[],[]⟩/\∀b o v,g'.G b o=some v->w'.cell? ⟨b,o,none⟩=some v) [.code c] env ⟨[],[],[]⟩) :
  aR P X f args r:=by
 refine⟨he,λG w vs hD bZ fP cs=>?_⟩
 let g:Gh:=⟨G,λ_=>none,λ_=>none,λ_=>0⟩
 let β:jq:=⟨w,g,⟨[],[],[]⟩⟩
 have hlen:=(bT.get fP).1
 have hL:Live X β fn.ntmps env ⟨[],[],[]⟩ g w {tmps:=vs.toArray++Array.replicate (fn.ntmps-vs.toArray.size) undef,defers:=[]}:=by
  refine⟨⟨hD,?_,?_,?_,?_,?_,λk cs b e=>by simp[ak]at e⟩,bZ,?_,gG.refl _ _ _,?_,Z⟩
  ·intro k cs e;simp[ak]at e
  ·simp_all
  ·intro k n e;simp[ak]at e
  ·simp_all
  ·grind
  ·intro t a e
   subst cX
   have key:∀(l:L CV)(us:L Value)(k:Nat),bT G l us->ak t ((l.zipIdx k).map λ(v,i)=>(i,AV.c v))=some a->k<=t/\∃u,us[t-k]?=some u/\aP g a u:=by
    intro l
    induction l with
    |nil=>intro us k _ e;simp[ak]at e
    |cons v l ih =>
     intro us k hr e
     simp only[bT]at hr
     obtain⟨u,us,rfl,h1,h2⟩:=hr
     simp only[acr,abk,an]at e
     split at e
     ·rename_i ht;subst ht;simp at e;subst e
      exact⟨aal _,u,c9,Vz⟩
     ·grind
   obtain⟨_,u,h4,h5⟩:=key args vs 0 fP e
   simp at h4
   have hlt:t<vs.length:=(List.getElem?_eq_some_iff.1 h4).1
   have:(vs.toArray++Array.replicate (fn.ntmps-vs.toArray.size) undef).getD t undef=u:=by
    rw[acf,abo (by simpa using hlt)]
    simp[h4]
   rw[this];exact h5
  ·simp;omega
 obtain⟨e,w',fr,⟨u,g',rfl,h1,h2,h3⟩,h4,h5,h6⟩:=h β rfl g w _ cs hL
 have sW:Frame.enter P f vs.toArray .normal =
   (top f).at {tmps:=vs.toArray++Array.replicate (fn.ntmps-vs.toArray.size) undef,defers:=[]} [.code c]:=by
  simp[Frame.enter,Frame.at,hf,hb,top]
 refine⟨_,w',fr,⟨u,g'.G,Z,h1,⟨h2.os,h2.tape,h2.output,h2.size,λb hb=>h2.block b hb ?_,h2.le,λb o v hv=>?_,h3⟩⟩,by rw[sW];exact h4,h5,h6⟩
 ·rintro o (⟨k,cs,e,_⟩|⟨k,n,lo,hi,e,_⟩)<;>simp[β,ak]at e
 ·rcases h2.new b o v hv with h|h|h
  ·exact .inl h
  ·exact .inr h
  ·rcases h with ⟨k,cs,e,_⟩|⟨k,n,lo,hi,e,_⟩<;>simp[β,ak]at e
section
variable {P : Program}{X : Ctx}
abbrev QR(β:jq)(r:CV):Ending->World->Prop:=λe w'=>∃u g',e = .returned u/\Rel g'.G r u/\gG β.w β.g β.σ w' g' ⟨[],[],[]⟩/\∀b o v,g'.G b o=some v->w'.cell? ⟨b,o,none⟩=some v
def gG.forget{w w':World}{g g':Gh}{σ D:St}(h:gG w g σ w' g' D):gG w g σ w' g' ⟨[],[],[]⟩ where
 os:=h.os
 tape:=h.tape
 output:=h.output
 size:=h.size
 block:=h.block
 kept:=h.kept
 le:=h.le
 new:=h.new
 boxes:=λk cs b e=>by simp[ak]at e
 toks:=λk n b Q W e=>by simp[ak]at e
 ids:=λk _ e=>by simp[ak]at e
def AK.YM(hX:cg P X){f:FuncId}{n:Nat}{β:jq}{K:L Item}{env:Env}{σ:St}{Y:Func}(hf:P.funcs[f]?=some Y){r:AV}{O W:CV}
  (A:oK X σ.boxes env Y.results.toList=some r)(D:close r=some O)(V:O=W):AK P X f n β (QR β W) (.code .ret::K) env σ:=by
 subst V;refine AK.ret hX hf A λg w u h1 h2 S U=>?_;exact⟨u,g,Z,(rV r O u D h1).1,U.forget,h2.oC⟩
def fu{G:ja}:∀{a b:L CV}{us vs:L Value},bT G a us->bT G b vs->bT G (a++b) (us++vs)
 |[],b,us,vs,h1,h2=>by simp only[bT]at h1;subst h1;simpa using h2
 |x::a,b,us,vs,h1,h2=>by obtain⟨u,us,rfl,U,P⟩:=h1;exact⟨u,us++vs,rfl,U,fu P h2⟩
def C8{w w':World}{g:Gh}{σ:St}{P:ja}(W:Inv w g σ)(O:JP w g.G w' P) :
  Inv w' ⟨P,g.box,g.tok,g.room⟩ σ/\gG w g σ w' ⟨P,g.box,g.tok,g.room⟩ σ/\g.le ⟨P,g.box,g.tok,g.room⟩:=by
 have p:g.le ⟨P,g.box,g.tok,g.room⟩:=⟨O.le,λ_ _ h=>h,λ_ _ _=>rfl,λk S B h=>⟨S,B,h,aal _,λ_=>rfl⟩⟩;have Y:∀b o,b<w.heap.size->g.G b o=none->P b o=none:=by
  intro b o A h;cases Q:P b o with
  |none=>rfl
  |some v =>
   rcases O.new b o v Q with N|N
   grind;omega
 refine⟨⟨O.oC,?_,W.fq,?_,W.gh,W.used,?_⟩,⟨O.os,O.tape,O.output,O.size,λb A _=>O.block b A,λb o A _=>O.kept b o A,O.le,λb o v h=>?_,?_,?_,?_⟩,p⟩;intro k cs e;obtain⟨b,h1,h2,U,V⟩:=W.box k cs e;exact⟨b,h1,abX h2 O.size,λo=>Y b o h2 (U o),(bU.of_same (λo=>O.kept b o h2) V).mono p⟩;intro k n e;obtain⟨B,h1,h2⟩:=W.tok k n e;refine⟨B,h1,λb M T K=>?_⟩;obtain⟨U,V,J⟩:=h2 b M T K;refine⟨abX U O.size,λo I H=>?_,J⟩;obtain⟨E,⟨u,D⟩,h8⟩:=V o I H;exact⟨Y b o U E,⟨u,(O.kept b o U).1.trans D⟩,(O.kept b o U).2.trans h8⟩;intro k cs b e A o;obtain⟨b',h1,h2,_⟩:=W.box k cs e;rw[A]at h1;cases h1;obtain⟨U,V⟩:=W.room k cs b e A o;exact⟨λC=>(U C).imp λu q=>(O.kept b o h2).1.trans q,(O.kept b o h2).2.trans V⟩;exact(O.new b o v h).imp id .inl;grind;grind;simp_all
def bI.Sn{o:Oper}{env:Env}{σ:St}{f:FuncId}{args:Array Operand}{ts:Array TypeId}(ho:o.op = .call {callee := .value (.func f),args:=args,argTypes:=ts})
  {oH:L CV}{r:CV}(ha:gL (aH X env) args.toList=some oH)(hq:aR P X f oH r):bI P X o env σ (.c r) (λσ=>σ) ⟨[],[]⟩:=by
 intro cH σ1 w g a next Q h1 h2 hinv bZ cX hnext
 have xo:gL (aH X cH) args.toList=some oH:=by
  rw[ji _ (λx hx=>h1 x ri)];exact ha
 have fP:=nk (g:=g) (ev:=a.eval) (λx v hx=>bV cX bZ hx) xo
 have hrun:(execOp a.eval o).run P w = .ok (.enter f (args.map a.eval)) w:=by
  obtain⟨dst,op,type,pos,after,guard⟩:=o
  subst ho
  simp[execOp,resolve,Deferred.ofValue,invoke,Act.eval,hq.1 _ w]
 unfold Oper.wp
 rw[hrun,Oper.upon_enter]
 have:=hq.2 g.G w _ hinv.oC bZ fP
 rw[show(args.toList.map a.eval).toArray=args.map a.eval from by rw[<- aci]]at this
 refine this.mono ?_
 rintro e w' ⟨u,G',rfl,h3,h4⟩
 obtain⟨h5,h6,h7⟩:=C8 hinv h4
 exact hnext u w' _ aar h5 h6 h7
def bI.So{o:Oper}{env:Env}{σ:St}{f:FuncId}{x:Operand}{caps:L CV}{args:Array Operand}{ts:Array TypeId}(ho:o.op = .call {callee := .value x,args:=args,argTypes:=ts})
  (hx:aH X env x=some (.c (.tO f caps))){oH:L CV}{r:CV}(ha:gL (aH X env) args.toList=some oH)(hq:aR P X f (oH++caps) r) :
  bI P X o env σ (.c r) (λσ=>σ) ⟨[],[]⟩:=by
 intro cH σ1 w g a next Q h1 h2 hinv bZ cX hnext
 have xo:gL (aH X cH) args.toList=some oH:=by
  rw[ji _ (λx hx=>h1 x ri)];exact ha
 have hx':aH X cH x=some (.c (.tO f caps)):=by
  rw[h1 x Pv];exact hx
 have fP:=nk (g:=g) (ev:=a.eval) (λx v hx=>bV cX bZ hx) xo
 have abC:=bV (a:=a) cX bZ hx'
 obtain⟨us,hu,Zd⟩:=abC
 have hrun:(execOp a.eval o).run P w = .ok (.enter f (args.map a.eval++us.toArray)) w:=by
  obtain⟨dst,op,type,pos,after,guard⟩:=o
  subst ho
  simp[execOp,resolve,hu,Deferred.ofValue,invoke,hq.1 _ w]
 unfold Oper.wp
 rw[hrun,Oper.upon_enter]
 have:=hq.2 g.G w _ hinv.oC bZ (fu fP Zd)
 rw[show(args.toList.map a.eval++us).toArray=args.map a.eval++us.toArray from by rw[<- aci];simp]at this
 refine this.mono ?_
 rintro e w' ⟨u,G',rfl,h3,h4⟩
 obtain⟨h5,h6,h7⟩:=C8 hinv h4
 exact hnext u w' _ aar h5 h6 h7
end
end Go.cB
namespace Go.cB
def St.dY(σ:St)(d:Nat)(cells:L AV):St:=⟨(d,cells)::σ.boxes,σ.toks,d::σ.used⟩
def pQ(d:Nat)(cells:L AV):gE (λσ=>σ.dY d cells) ⟨[],[d]⟩ where
 out:=λσ k E=>by
  have:k≠d:=by simpa using E
  refine⟨?_,Z,?_⟩;simp only[St.dY,an,if_neg this];simp[St.dY,this]
 same:=λσ B h k E=>by
  have:k=d:=by simpa using E
  subst this;refine⟨?_,(h k (.inr c9)).2.1,?_⟩;simp[St.dY,an];simp[St.dY]
def uv{g:Gh}{a:AV}{u:Value}(h:a.one=true)(A:aP g a u):u.oneCell'=true:=by
 cases a with
 |c v =>
  simp only[AV.one]at h;simp only[aP]at A;cases v<;>simp[CV.one]at h<;>simp only[Rel]at A
  case int=>subst A;rfl
  case bool=>subst A;rfl
  case str=>subst A;rfl
  case ld=>subst A;rfl
  case sl=>obtain⟨_,_,_,rfl,_⟩:=A;rfl
  case ip=>obtain⟨_,_,rfl,_⟩:=A;rfl
  case tO=>obtain⟨_,rfl,_⟩:=A;rfl
  case any=>cases u<;>first|rfl|exact absurd Z (A.1 _)|exact absurd Z (A.2 _)
  case rR=>obtain⟨_,rfl⟩:=A;rfl
 |own=>simp only[aP]at A;obtain⟨_,_,_,rfl,_⟩:=A;rfl
 |ptr=>simp only[aP]at A;obtain⟨_,_,rfl⟩:=A;rfl
 |gf=>simp only[aP]at A;obtain⟨_,_,_,_,rfl,_⟩:=A;rfl
 |any =>
  cases u<;>first|rfl|exact absurd Z (A.1 _)|exact absurd Z (A.2 _)
 |agg=>simp[AV.one]at h
 |fG=>simp[AV.one]at h
section
variable {P : Program}{X : Ctx}
def G5{w:World}{g:Gh}{σ:St}{d:Nat}{cells:L AV}{us:Array Value}{t:TypeId}(hinv:Inv w g σ)(hd:d ∉ σ.used)(Xw:d<1000000)(hr:bM g cells (us.toList.take cells.length))(ho:cells.all AV.one=true) :
  let g':Gh:=⟨g.G,λk=>if k=d then some w.heap.size else g.box k,g.tok,λk=>if k=d then us.size else g.room k⟩
  let w':World:={w with heap:=w.heap.push (.cells us t)}
  Inv w' g' (σ.dY d cells)/\gG w g σ w' g' (σ.dY d cells)/\g.le g'/\aP g' (.ptr d 0) (.pointer (some ⟨w.heap.size,0,none⟩)):=by
 intro g' w'
 have Wh:g.box d=none:=by
  cases h:g.box d with
  |none=>rfl
  |some b=>exact absurd (hinv.used d (.inl oy)) hd
 have hle:g.le g':=⟨ja.le.refl _,λk b h=>by
  by_cases hk:k=d
  ·simp_all
  ·simp[g',hk,h],λk b h=>by
  by_cases hk:k=d
  ·simp_all
  ·simp[g',hk],λk hw fI h=>⟨hw,fI,h,aal _,λ_=>rfl⟩⟩
 have hold:∀b o,b<w.heap.size->w'.cell? ⟨b,o,none⟩=w.cell? ⟨b,o,none⟩/\w'.frozen? ⟨b,o,none⟩=w.frozen? ⟨b,o,none⟩:=by
  intro b o hb
  exact⟨World.cell?_alloc_old w _ ⟨b,o,none⟩ RI,World.frozen?_alloc_old w _ ⟨b,o,none⟩ RI⟩
 have hsz:w'.heap.size=w.heap.size+1:=by simp[w']
 have JR:∀b o v,g.G b o=some v->b<w.heap.size:=λb o v h=>World.block_lt_of_cell? w ⟨b,o,none⟩ (hinv.oC b o v h)
 have iD:bU w' g' w.heap.size 0 cells:=by
  obtain⟨h1,h2⟩:=bM.get hr
  apply bU.jF
  intro j c hj
  obtain⟨u,e1,e2⟩:=h2 j c hj
  refine⟨⟨u,?_,aP.mono hle _ _ e2,?_⟩,?_⟩
  ·have:=World.cell?_alloc_new w us t (0+j)
   rw[show(w.alloc (.cells us t))=w' from rfl]at this
   rw[this]
   rw[acg]at e1
   split at e1
   ·simpa using e1
   ·simp at e1
  ·rw[acK]at ho;exact ho c (aap hj)
  ·exact World.frozen?_alloc_new w us t (0+j)
 refine⟨⟨?_,?_,?_,?_,hinv.gh,?_,?_⟩,⟨Z,Z,Z,bn,λb hb _=>by show(w.heap.push _)[b]?=_;rw[adG,if_neg bn],λb o hb _=>hold b o hb,ja.le.refl _,λ_ _ _ h => .inl h,?_,?_,λk hk h=>⟨by simp only[St.dY,an]at h;rwa[if_neg bn]at h,by simp only[g'];rw[if_neg bn],by simp only[g'];rw[if_neg bn]⟩⟩,hle,by simp_all;exact⟨_,aat,Z⟩⟩
 ·intro b o v h
  rw[(hold b o (JR b o v h)).1];exact hinv.oC b o v h
 ·intro k cs e
  simp only[St.dY,an]at e
  split at e
  ·rename_i hk;subst hk;simp at e;subst e
   refine⟨w.heap.size,aat,bn,?_,iD⟩
   intro o
   cases hg:g.G w.heap.size o with
   |none=>rfl
   |some v=>have:=JR _ _ _ hg;omega
  ·rename_i hk
   obtain⟨b,h1,h2,h3,h4⟩:=hinv.box k cs e
   exact⟨b,by simp[g',hk,h1],bn,h3,(bU.of_same (λo=>hold b o h2) h4).mono hle⟩
 ·intro k k' cs cs' b e e' h1 h2
  simp only[St.dY,an]at e e'
  simp only[g']at h1 h2
  split at e
  ·rename_i hk
   rw[if_pos hk]at h1;simp at h1
   split at e'
   ·rename_i hk';rw[hk,hk']
   ·rename_i hk'
    rw[if_neg hk']at h2
    obtain⟨b',h3,h4,_⟩:=hinv.box k' cs' e'
    rw[h3]at h2;simp at h2;omega
  ·rename_i hk
   rw[if_neg hk]at h1
   split at e'
   ·rename_i hk'
    rw[if_pos hk']at h2;simp at h2
    obtain⟨b',h3,h4,_⟩:=hinv.box k cs e
    rw[h3]at h1;simp at h1;omega
   ·rename_i hk'
    rw[if_neg hk']at h2
    exact hinv.fq k k' cs cs' b e e' h1 h2
 ·intro k n e
  obtain⟨fI,h1,h2⟩:=hinv.tok k n e
  refine⟨fI,h1,λb lo hi hr=>?_⟩
  obtain⟨h3,h4,h5⟩:=h2 b lo hi hr
  refine⟨bn,λo JQ Mj=>?_,λk' cs e'=>?_⟩
  ·obtain⟨h6,⟨u,h7⟩,h8⟩:=h4 o JQ Mj
   exact⟨h6,⟨u,(hold b o h3).1.trans h7⟩,(hold b o h3).2.trans h8⟩
  ·simp only[St.dY,an]at e'
   simp only[g']
   split at e'
   ·rename_i hk;rw[if_pos hk];simp;omega
   ·rename_i hk;rw[if_neg hk];exact h5 k' cs e'
 ·intro k e
  simp only[St.dY,abu]
  by_cases hk:k=d
  ·exact .inl hk
  ·right
   apply hinv.used k
   simpa[g',hk]using e
 ·intro k cs b e h o
  simp only[St.dY,an]at e
  simp only[g']at h ⊢
  split at e
  ·rename_i hk
   rw[if_pos hk]at h
   rw[if_pos hk]
   simp at h;subst h
   have h1:=World.cell?_alloc_new w us t o
   rw[show(w.alloc (.cells us t))=w' from rfl]at h1
   have h2:=World.frozen?_alloc_new w us t o
   rw[show(w.alloc (.cells us t))=w' from rfl]at h2
   exact⟨λho=>⟨us[o],by rw[h1];simp[ho]⟩,h2⟩
  ·rename_i hk
   rw[if_neg hk]at h
   rw[if_neg hk]
   obtain⟨b',h3,h4,_⟩:=hinv.box k cs e
   rw[h]at h3;cases h3
   obtain⟨h5,h6⟩:=hinv.room k cs b e h o
   exact⟨λho=>(h5 ho).imp λu hu=>(hold b o h4).1.trans hu,(hold b o h4).2.trans h6⟩
 ·intro k cs b e h
  simp only[St.dY,an]at e
  simp only[g']at h
  split at e
  ·rename_i hk;rw[if_pos hk]at h;simp at h;left;omega
  ·rename_i hk;rw[if_neg hk]at h;exact .inr ⟨k,cs,e,h⟩
 ·exact aaP
def Mk{w:World}{g:Gh}{σ:St}{d:Nat}{cells:L AV}{us:Array Value}{t:TypeId}(hinv:Inv w g σ)(hd:d ∉ σ.used)(Xw:d<1000000)(hr:bM g cells us.toList)(ho:cells.all AV.one=true) :
  let g':Gh:=⟨g.G,λk=>if k=d then some w.heap.size else g.box k,g.tok,λk=>if k=d then us.size else g.room k⟩
  let w':World:={w with heap:=w.heap.push (.cells us t)}
  Inv w' g' (σ.dY d cells)/\gG w g σ w' g' (σ.dY d cells)/\g.le g'/\aP g' (.ptr d 0) (.pointer (some ⟨w.heap.size,0,none⟩)):=by
 have hl:cells.length=us.toList.length:=(bM.get hr).1
 exact G5 (t:=t) hinv hd Xw (by rw[hl,List.take_length];exact hr) ho
def cE{d:Nat}:∀{l:L Nat},mem d l=false->d ∉ l
 |[],_=>by simp
 |x::l,h=>by simp only[mem]at h;split at h;grind;rename_i O;have:=beq_false O;simp[cE h,Ne.symm this]
def JS(d:Nat)(l:L Nat):Bool:=match Nat.blt d 1000000 with
 |true=>mem d l
 |false=>true
def BU{d:Nat}{l:L Nat}(h:JS d l=false):d<1000000/\mem d l=false:=by unfold JS at h;split at h;simp_all;grind
def bI.box{o:Oper}{env:Env}{σ:St}{t:TypeId}{x:Operand}{d:Nat}(ho:o.op = .box t x)(hd:o.dst=some d){a:AV}(ha:aH X env x=some a){cells:L AV}
  (hc:jG a=some cells)(hu:JS d σ.used=false):bI P X o env σ (.ptr d 0) (λσ=>σ.dY d cells) ⟨[],[d]⟩:=by
 intro cH σ1 w g act next Q h1 h2 hinv bZ cX hnext
 have xo:aH X cH x=some a:=by rw[h1 x lA];exact ha
 obtain⟨c1,c2⟩:=vE hc (bV (a:=act) cX bZ xo)
 have hd':d ∉ σ1.used:=λh=>cE (BU hu).2 ((h2 d (.inr c9)).2.2.1 h)
 have hrun:(execOp act.eval o).run P w = .ok (.value (.pointer (some ⟨w.heap.size,0,none⟩))) {w with heap:=w.heap.push (.cells (act.eval x).cells t)}:=by
  obtain⟨dst,op,type,pos,after,guard⟩:=o
  subst ho
  rfl
 unfold Oper.wp
 rw[hrun,Oper.upon_value]
 obtain⟨h3,h4,h5,h6⟩:=Mk (t:=t) hinv hd' (BU hu).1 c1 c2
 grind
def bI.alloc(hX:cg P X){o:Oper}{env:Env}{σ:St}{t:TypeId}{d:Nat}(ho:o.op = .alloc t)(hd:o.dst=some d){i:TI}(hi:X.ti t=some i){za:AV}(hz:i.zero=some za){cells:L AV}
  (hc:jG za=some cells)(hu:JS d σ.used=false):bI P X o env σ (.ptr d 0) (λσ=>σ.dY d cells) ⟨[],[d]⟩:=by
 intro cH σ1 w g act next Q h1 h2 hinv bZ cX hnext
 obtain⟨z,z1,z2,z3⟩:=hX.lq (w:=w) hi hz
 obtain⟨c1,c2⟩:=vE hc (z2 g)
 have hd':d ∉ σ1.used:=λh=>cE (BU hu).2 ((h2 d (.inr c9)).2.2.1 h)
 have hrun:(execOp act.eval o).run P w = .ok (.value (.pointer (some ⟨w.heap.size,0,none⟩))) {w with heap:=w.heap.push (.cells z.cells t)}:=by
  obtain⟨dst,op,type,pos,after,guard⟩:=o
  subst ho
  simp[execOp,Instr.alloc,newVar,newRow,z1]
 unfold Oper.wp
 rw[hrun,Oper.upon_value]
 obtain⟨h3,h4,h5,h6⟩:=Mk (t:=t) hinv hd' (BU hu).1 c1 c2
 grind
def St.pR(σ:St)(k:Nat)(cells:L AV):St:=⟨tT k cells σ.boxes,σ.toks,σ.used⟩
def Ml(k:Nat)(cells:L AV):gE (λσ=>σ.pR k cells) ⟨[],[k]⟩ where
 out:=λσ j T=>by
  have:j≠k:=by simpa using T
  exact⟨by simp only[St.pR,eu,if_neg this],Z,Iff.rfl⟩
 same:=λσ B h j T=>by
  have:j=k:=by simpa using T
  subst this;exact⟨by simp[St.pR,eu],(h j (.inr c9)).2.1,(h j (.inr c9)).2.2⟩
def heap_setCell(w:World)(a:Addr)(u:Value)(k:Nat)(h:k≠a.block):(w.setCell a u).heap[k]?=w.heap[k]?:=by simp only[World.setCell];grind
def mu{w:World}(b:Nat):∀(vs:L Value)(o i:Nat)(w:World),(∀v∈vs,v.oneCell'=true) ->
  (∀j,j<vs.length->(∃u,w.cell? ⟨b,o+i+j,none⟩=some u)/\w.frozen? ⟨b,o+i+j,none⟩=false) ->
  ∃w',(storeCells ⟨b,o,none⟩ vs i).run P w = .ok () w'/\(w'.heap.size=w.heap.size/\w'.os=w.os/\w'.tape=w.tape/\w'.output=w.output/\∀b',b'≠b->w'.heap[b']?=w.heap[b']?) /\
   (∀b' o',b'≠b\/o'<o+i\/o+i+vs.length<=o'->w'.cell? ⟨b',o',none⟩=w.cell? ⟨b',o',none⟩) /\
   (∀b' o',w'.frozen? ⟨b',o',none⟩=w.frozen? ⟨b',o',none⟩) /\
   ∀j v,vs[j]?=some v->w'.cell? ⟨b,o+i+j,none⟩=some v
 |[],o,i,w,_,_=>⟨w,by simp[storeCells],⟨Z,Z,Z,Z,λ_ _=>rfl⟩,λ_ _ _=>rfl,λ_ _=>rfl,c9⟩
 |v::vs,o,i,w,h1,h2=>by
  obtain⟨⟨u,hu⟩,hf⟩:=h2 0 c9
  simp at hu hf
  have hv:=h1 v c9
  have hst:(store (Addr.add ⟨b,o,none⟩ i) v).run P w = .ok () (w.setCell ⟨b,o+i,none⟩ v):=by
   rw[Addr.add_lit]
   have:=run_store P w ⟨b,o+i,none⟩ v .plain hv
   simp_all
  obtain⟨w',r1,r2,r3,r4,r5⟩:=mu (w:=w) b vs o (i+1) (w.setCell ⟨b,o+i,none⟩ v) (λx hx=>h1 x (by simp[hx])) (by
   intro j hj
   obtain⟨⟨u',hu'⟩,hf'⟩:=h2 (j+1) ob
   refine⟨⟨u',?_⟩,?_⟩
   ·rw[World.cell?_setCell_other w _ _ _ ob]
    rwa[show o+(i+1)+j=o+i+(j+1)from by omega]
   ·rw[World.frozen?_setCell]
    rwa[show o+(i+1)+j=o+i+(j+1)from by omega])
  refine⟨w',?_,⟨by simpa using r2.1,r2.2.1,r2.2.2.1,r2.2.2.2.1,λb' hb'=>(r2.2.2.2.2 b' hb').trans (heap_setCell w _ _ _ hb')⟩,?_,?_,?_⟩
  ·simp only[storeCells,Sem.run_bind,hst,Result.andThen_ok,r1]
  ·intro b' o' h
   rw[r3 b' o' (by simp at h ⊢;omega),World.cell?_setCell_other w]
   intro e
   simp at e h
   obtain⟨rfl,rfl⟩:=e
   omega
  ·simp_all
  ·intro j v' hj
   cases j with
   |zero =>
    simp at hj;subst hj
    rw[r3 b _ (by right;left;omega)]
    exact World.cell?_setCell_same w _ _ hu
   |succ j =>
    simp at hj
    have:=r5 j v' hj
    rwa[show o+(i+1)+j=o+i+(j+1)from by omega]at this
def bI.store(hX:cg P X){o:Oper}{env:Env}{σ:St}{t:TypeId}{x y:Operand}(ho:o.op = .store t x y)(hd:o.dst=none){i:TI}(hi:X.ti t=some i){key off:Nat}
  (hx:aH X env x=some (.ptr key off)){a:AV}(hy:aH X env y=some a){cells vs r:L AV}(hb:ak key σ.boxes=some cells)(hc:jG a=some vs)
  (hl:vs.length=i.size)(hw:dH off vs cells=some r):bI P X o env σ (.c .undef) (λσ=>σ.pR key r) ⟨[],[key]⟩:=by
 intro cH σ1 w g act next Q h1 h2 hinv bZ cX hnext
 have hx':aH X cH x=some (.ptr key off):=by rw[h1 x lA];exact hx
 have hy':aH X cH y=some a:=by rw[h1 y lA];exact hy
 have hb':ak key σ1.boxes=some cells:=by rw[(h2 key (.inr c9)).1];exact hb
 have rx:=bV (a:=act) cX bZ hx'
 simp only[aP]at rx
 obtain⟨b,zG,ex⟩:=rx
 obtain⟨c1,c2⟩:=vE hc (bV (a:=act) cX bZ hy')
 obtain⟨b',G6,Ze,Yn,hbc⟩:=hinv.box key cells hb'
 rw[zG]at G6;simp at G6;subst G6
 obtain⟨l1,l2⟩:=bM.get c1
 have hne:i.size≠0:=by obtain⟨_,_,_,_,_,_,hh⟩:=hX.ti t i hi;exact hh
 obtain⟨w1,w2,w3⟩:=nZ hw
 have hfit:off+vs.length<=cells.length:=by
  cases vs with
  |nil=>simp at hl;omega
  |cons u us=>exact Mh hw
 obtain⟨w',r1,r2,r3,r4,r5⟩:=mu (P:=P) (w:=w) b (act.eval y).cells.toList off 0 w (by
   intro u hu
   obtain⟨j,hj⟩:=acV hu
   have hjl:j<vs.length:=by rw[l1];exact(List.getElem?_eq_some_iff.1 hj).1
   obtain⟨u',e1,e2⟩:=l2 j vs[j] (by simp[hjl])
   rw[hj]at e1;simp at e1;subst e1
   rw[acK]at c2
   exact uv (c2 _ (adw hjl)) e2) (by
   intro j hj
   have hjl:off+j<cells.length:=by rw[<- l1]at hj;omega
   obtain⟨⟨u,e1,_⟩,e2⟩:=hbc.get (off+j) cells[off+j] (by simp[hjl])
   simp only[abi,abI]at e1 e2 ⊢
   exact⟨⟨u,e1⟩,e2⟩)
 have hrun:(execOp act.eval o).run P w = .ok .skip w':=by
  obtain⟨dst,op,type,pos,after,guard⟩:=o
  simp only at ho;subst ho
  have hsz:(act.eval y).cells.size=i.size:=by rw[<- hl,l1];simp
  simp only[execOp,ex,Instr.storeAt,Instr.sureAddr,storeVar,Sem.run_bind,Sem.run_pure,Result.andThen_ok,hX.run_sizeOf hi]
  rw[if_neg (by simpa using hsz),r1];rfl
 unfold Oper.wp
 rw[hrun,Oper.upon_skip,hd]
 have uw:∀b' o',b'≠b->w'.cell? ⟨b',o',none⟩=w.cell? ⟨b',o',none⟩:=λb' o' h=>r3 b' o' (.inl h)
 have abD:∀b' o' v,g.G b' o'=some v->b'≠b:=by
  rintro b' o' v h rfl;rw[Yn]at h;simp at h
 have:=hnext Go.undef w' g p5 ⟨?_,?_,?_,?_,hinv.gh,hinv.used,?_⟩ ⟨r2.2.1,r2.2.2.1,r2.2.2.2.1,bn,λb' hb0 hno=>r2.2.2.2.2 b' (by rintro rfl;exact hno 0 (.inl ⟨key,cells,hb',zG⟩)),?_,ja.le.refl _,λ_ _ _ h => .inl h,?_,?_,λk _ h=>⟨by simp only[St.pR,eu]at h;split at h;(· rename_i hk;subst hk;rw[hb'];simp);(· exact h),rfl,rfl⟩⟩ (Gh.le.refl _)
 ·simp_all
 ·intro b' o' v h
  rw[uw b' o' (abD b' o' v h)];exact hinv.oC b' o' v h
 ·intro k cs e
  simp only[St.pR,eu]at e
  split at e
  ·rename_i hk;subst hk;simp at e;subst e
   refine⟨b,zG,bn,Yn,?_⟩
   apply bU.jF
   intro j c hj
   rw[w3]at hj
   simp only[abi]
   split at hj
   ·rename_i hin
    obtain⟨u,e1,e2⟩:=l2 _ _ hj
    refine⟨⟨u,?_,e2,?_⟩,?_⟩
    ·have:=r5 (j-off) u (by simpa using e1)
     rwa[show off+0+(j-off)=j from by omega]at this
    ·rw[acK]at c2;exact c2 c (aap hj)
    ·rw[r4]
     have hjl:j<cells.length:=by omega
     have:=(hbc.get j cells[j] (by simp[hjl])).2
     simpa using this
   ·rename_i hin
    obtain⟨⟨u,e1,e2,e3⟩,e4⟩:=hbc.get j c hj
    simp only[abi]at e1 e4
    refine⟨⟨u,?_,e2,e3⟩,by rw[r4];exact e4⟩
    rw[r3 b j (by right;have:=l1;omega)];exact e1
  ·rename_i hk
   obtain⟨b',e1,e2,e3,e4⟩:=hinv.box k cs e
   have Ae:b'≠b:=by
    rintro rfl
    exact hk (hinv.fq k key cs cells _ e hb' e1 zG)
   exact⟨b',e1,bn,e3,bU.of_same (λo=>⟨uw b' o Ae,r4 b' o⟩) e4⟩
 ·intro k k' cs cs' b'' e e' e1 e2
  have hex:∀k cs,ak k (σ1.pR key r).boxes=some cs->∃cs,ak k σ1.boxes=some cs:=by
   intro k cs e
   simp only[St.pR,eu]at e
   split at e
   ·simp_all
   ·exact⟨_,e⟩
  obtain⟨c1,f1⟩:=hex k cs e
  obtain⟨c2,f2⟩:=hex k' cs' e'
  exact hinv.fq k k' c1 c2 b'' f1 f2 e1 e2
 ·intro k n e
  obtain⟨fI,e1,e2⟩:=hinv.tok k n e
  refine⟨fI,e1,λb' lo hi hr=>?_⟩
  obtain⟨e3,e4,e5⟩:=e2 b' lo hi hr
  have Ae:b'≠b:=by
   rintro rfl;exact e5 key cells hb' zG
  refine⟨bn,λo' h1 h2=>?_,λk' cs e'=>?_⟩
  ·simp_all
  ·simp only[St.pR,eu]at e'
   split at e'
   ·rename_i hk;subst hk;exact e5 _ cells hb'
   ·exact e5 k' cs e'
 ·intro k cs b0 e hb0 o0
  have hex:∃cs0,ak k σ1.boxes=some cs0:=by
   simp only[St.pR,eu]at e
   split at e
   ·simp_all
   ·exact⟨_,e⟩
  obtain⟨cs0,e0⟩:=hex
  obtain⟨q0,q2⟩:=hinv.room k cs0 b0 e0 hb0 o0
  refine⟨λho0=>?_,by rw[r4];exact q2⟩
  obtain⟨u,q1⟩:=q0 ho0
  by_cases hw0:b0=b/\off<=o0/\o0<off+(act.eval y).cells.toList.length
  ·obtain⟨rfl,h5,h6⟩:=hw0
   obtain⟨v,hj⟩:∃v,(act.eval y).cells.toList[o0-off]?=some v:=⟨_,abe bn⟩
   have:=r5 (o0-off) v hj
   rw[show off+0+(o0-off)=o0 from by omega]at this
   exact⟨v,this⟩
  ·refine⟨u,?_⟩
   rw[r3 b0 o0 (by
    by_cases Ae:b0=b
    ·omega
    ·exact .inl Ae)]
   exact q1
 ·intro b' o' hlt hno
  refine⟨uw b' o' ?_,r4 b' o'⟩
  rintro rfl
  exact hno (.inl ⟨key,cells,hb',zG⟩)
 ·intro k cs b' e e1
  simp only[St.pR,eu]at e
  split at e
  ·rename_i hk;subst hk;exact .inr ⟨_,_,hb',e1⟩
  ·exact .inr ⟨k,cs,e,e1⟩
 ·exact aaP
end
end Go.cB
namespace Go.cB
def G7:AV->Value->Bool
 |.c (.int k n),.int k' n'=>k==k'&&n==n'
 |.c (.bool b),.bool b'=>b==b'
 |.c (.str []),.string s=>s.data.toList.isEmpty
 |.c .ld,.pointer none=>true
 |.own .exact _ [],.slice none 0 0=>true
 |_,_=>false
def Af:L AV->L Value->Bool
 |[],[]=>true
 |a::l,v::vs=>G7 a v&&Af l vs
 |_,_=>false
def Sp:AV->Value->Bool
 |.agg l,.agg cs=>Af l cs.toList
 |a,v=>G7 a v
def FB{a:AV}{v:Value}(h:G7 a v=true)(g:Gh):aP g a v/\a.one=true:=by unfold G7 at h;split at h<;>simp at h;obtain⟨rfl,rfl⟩:=h;simp[aP,Rel,AV.one,CV.one];subst h;simp[aP,Rel,AV.one,CV.one];rename_i s;simp only[AV.one,CV.one,adi];congr 1;apply ByteArray.ext;simp[h];simp[aP,Rel,AV.one,CV.one];simp only[AV.one,adi];exact⟨_,_,_,rfl,rfl,aal _,.inl rfl,rfl⟩
def FC(g:Gh):∀{l:L AV}{vs:L Value},Af l vs=true->bM g l vs/\l.all AV.one=true
 |[],[],_=>by simp[bM]
 |[],_::_,h=>by simp[Af]at h
 |_::_,[],h=>by simp[Af]at h
 |a::l,v::vs,h=>by simp only[Af,aak]at h;obtain⟨h1,h2⟩:=FB h.1 g;obtain⟨U,P⟩:=FC g h.2;exact⟨by simp_all;exact⟨v,vs,rfl,h1,U⟩,by simp only[abQ,h2];exact P⟩
def Sq{a:AV}{v:Value}(h:Sp a v=true)(g:Gh):aP g a v:=by unfold Sp at h;split at h;rename_i l cs;obtain⟨h1,h2⟩:=FC g h;exact⟨cs.toList,c9,h1,h2⟩;exact(FB h g).1
def Mm(P:Program)(k:TK)(d:TypeDesc):Bool :=
 match k,d with
 |.int k,.int k'=>k==k'
 |.bool,.bool=>true
 |.str,.string=>true
 |.ptr e,.pointer e'=>e==e'
 |.slice e,.slice e'=>e==e'
 |.arr n e,.array K e'=>n==K&&e==e'
 |.struct W,.struct Y=>Y.toList.map (λf=>(f.offset,f.type))==W&&Y.toList.all λf=>match P.info? f.type with
  |some T=>T.size != 0
  |none=>false
 |.other,.func .. => true
 |.other,.map .. => true
 |.other,.tuple .. => true
 |_,_=>false
def PB{P:Program}{k:TK}{d:TypeDesc}(h:Mm P k d=true):iE P k d:=by unfold Mm at h;split at h<;>simp at h<;>simp only[iE];rw[h];rw[h];rw[h];simp_all;rename_i W Y;refine⟨Y,rfl,by simpa using h.1,λf hf=>?_⟩;obtain⟨i,E,A⟩:=Array.getElem_of_mem (Array.mem_toList_iff.1 hf);grind
def Q5(P:Program)(t:Nat)(i:TI):Bool :=
 match P.info? t,P.underlying t with
 |some T,some d=>T.size==i.size&&T.bytes==i.bytes&&i.size != 0&&Mm P i.kind d &&
  (match i.zero with
   |none=>true
   |some a=>match T.zero with
    |none=>false
    |some z=>Sp a z&&z.cells.size==i.size)
 |_,_=>false
def Q6{P:Program}{table:L (Nat×TI)}{X:Ctx}(hX:X.ti=λt=>ak t table)(h:table.all (λp=>Q5 P p.1 p.2)=true):cg P X where
 ti:=λt i e=>by
  rw[hX]at e;have Y:∀(l:L (Nat×TI)),l.all (λp=>Q5 P p.1 p.2)=true->ak t l=some i->Q5 P t i=true:=by
   intro l
   induction l with
   |nil=>intro _ e;simp[ak]at e
   |cons x l S =>
    intro h e;simp at h;simp only[ak]at e;split at e;simp_all;simp_all
  have:=Y table h e;unfold Q5 at this;split at this;rename_i T d h1 h2;simp at this;obtain⟨⟨⟨⟨W,B⟩,a3⟩,Q⟩,N⟩:=this;refine⟨T,h1,W,B,?_,⟨d,h2,PB Q⟩,a3⟩;intro a V;rw[V]at N;simp only at N;split at N;grind;rename_i z U;simp at N;exact⟨z,U,Sq N.1,N.2⟩;simp_all
section
variable {P:Program}{X:Ctx}{ops:Array Oper}{o:Oper}{rest:L Oper}{env:Env}{σ:St}{acc:L Fp}{Q:Env->St->L Fp->Prop}
 {bs:L (Nat×L AV)} {ts:L (Nat×Nat)} {us:L Nat} {kn:L Nat}
def cZ(h:cP ops.toList kn env o=some true):qA ops o env:=by have:=rX h;simpa using this
def ai.Sn(kn:L Nat)(hg:cP ops.toList kn env o=some true){f:FuncId}{args:Array Operand}{ats:Array TypeId}(ho:o.op = .call {callee := .value (.func f),args:=args,argTypes:=ats})
  {d:Nat}(hd:o.dst=some d){oH:L CV}(ha:gL (aH X env) args.toList=some oH){r:CV}(hq:aR P X f oH r)
  (k:ai P X ops rest ((d,.c r)::env) σ (⟨[],[]⟩::acc) Q):ai P X ops (o::rest) env σ acc Q :=
 ai.step (cZ hg) (bI.Sn ho ha hq) (gE.id _) th
def ai.So(kn:L Nat)(hg:cP ops.toList kn env o=some true){x:Operand}{args:Array Operand}{ats:Array TypeId}(ho:o.op = .call {callee := .value x,args:=args,argTypes:=ats})
  {d:Nat}(hd:o.dst=some d){f:FuncId}{caps:L CV}(hx:aH X env x=some (.c (.tO f caps))){oH:L CV}(ha:gL (aH X env) args.toList=some oH){r:CV}(hq:aR P X f (oH++caps) r)
  (k:ai P X ops rest ((d,.c r)::env) σ (⟨[],[]⟩::acc) Q):ai P X ops (o::rest) env σ acc Q :=
 ai.step (cZ hg) (bI.So ho hx ha hq) (gE.id _) th
def ai.box(kn:L Nat)(hg:cP ops.toList kn env o=some true){t:TypeId}{x:Operand}(ho:o.op = .box t x){d:Nat}(hd:o.dst=some d){a:AV}(ha:aH X env x=some a)
  {cells:L AV}(hc:jG a=some cells)(hu:JS d us=false)(k:ai P X ops rest ((d,.ptr d 0)::env) ⟨(d,cells)::bs,ts,d::us⟩ (⟨[],[d]⟩::acc) Q) :
  ai P X ops (o::rest) env ⟨bs,ts,us⟩ acc Q :=
 ai.step (cZ hg) (bI.box ho hd ha hc hu) (pQ d cells) th
def ai.alloc(hX:cg P X)(kn:L Nat)(hg:cP ops.toList kn env o=some true){t:TypeId}(ho:o.op = .alloc t){d:Nat}(hd:o.dst=some d){i:TI}(hi:X.ti t=some i){za:AV}(hz:i.zero=some za)
  {cells:L AV}(hc:jG za=some cells)(hu:JS d us=false)(k:ai P X ops rest ((d,.ptr d 0)::env) ⟨(d,cells)::bs,ts,d::us⟩ (⟨[],[d]⟩::acc) Q) :
  ai P X ops (o::rest) env ⟨bs,ts,us⟩ acc Q :=
 ai.step (cZ hg) (bI.alloc hX ho hd hi hz hc hu) (pQ d cells) th
def ai.store(hX:cg P X)(kn:L Nat)(hg:cP ops.toList kn env o=some true){t:TypeId}{x y:Operand}(ho:o.op = .store t x y)(hd:o.dst=none){i:TI}(hi:X.ti t=some i){key off:Nat}
  (hx:aH X env x=some (.ptr key off)){a:AV}(hy:aH X env y=some a){cells vs r:L AV}(hb:ak key bs=some cells)(hc:jG a=some vs)
  (hl:Nat.beq vs.length i.size=true)(hw:dH off vs cells=some r){bs':L (Nat×L AV)}(hs:wJ key r bs=some bs')
  (k:ai P X ops rest env ⟨bs',ts,us⟩ (⟨[],[key]⟩::acc) Q):ai P X ops (o::rest) env ⟨bs,ts,us⟩ acc Q:=by
 rw[rS]at hs
 simp at hs
 subst hs
 exact ai.step (cZ hg) (bI.store hX ho hd hi hx hy hb hc (beq_true hl) hw) (Ml key r) th
end
end Go.cB
namespace Go.cB
def closeAll:L AV->Option (L CV)
 |[]=>some []
 |.c v::l=>match closeAll l with
  |some r=>some (v::r)
  |none=>none
 |.own _ s rows::l=>match closeAll l with
  |some r=>some (.sl s rows::r)
  |none=>none
 |_=>none
mutual
def pS(k:Nat)(cs:L CV):AV->Option AV
 |.ptr j off=>match Nat.beq j k with
  |true=>match gl off cs with
   |some r=>some (.c (.ip r))
   |none=>none
  |false=>some (.ptr j off)
 |.gf j off s n=>match Nat.beq j k with
  |true=>none
  |false=>some (.gf j off s n)
 |.agg l=>match pT k cs l with
  |some r=>some (.agg r)
  |none=>none
 |.fG l=>match pT k cs l with
  |some r=>some (.fG r)
  |none=>none
 |a=>some a
def pT(k:Nat)(cs:L CV):L AV->Option (L AV)
 |[]=>some []
 |a::l=>match pS k cs a with
  |some x=>match pT k cs l with
   |some r=>some (x::r)
   |none=>none
  |none=>none
end
def C9(k:Nat)(cs:L CV):Env->Option Env
 |[]=>some []
 |(t,a)::l=>match pS k cs a with
  |some x=>match C9 k cs l with
   |some r=>some ((t,x)::r)
   |none=>none
  |none=>none
def Ag(k:Nat)(cs:L CV):L (Nat×L AV)->Option (L (Nat×L AV))
 |[]=>some []
 |(j,a)::l=>match Nat.beq j k with
  |true=>Ag k cs l
  |false=>match pT k cs a with
   |some x=>match Ag k cs l with
    |some r=>some ((j,x)::r)
    |none=>none
   |none=>none
section
variable {P : Program}{X : Ctx}
def ux{w:World}{g:Gh}{b:Nat}:∀{cells:L AV}{cs:L CV}{o:Nat},closeAll cells=some cs->bU w g b o cells ->
  cells.length=cs.length/\∀(j:Nat) c,cs[j]?=some c->∃u,w.cell? ⟨b,o+j,none⟩=some u/\Rel g.G c u/\c.one=true
 |[],cs,o,h,_=>by simp[closeAll]at h;subst h;simp
 |.c v::l,cs,o,h,hc=>by
  simp only[closeAll]at h
  split at h
  ·rename_i r hr
   simp at h;subst h
   obtain⟨⟨u,h1,h2,h3⟩,_,h4⟩:=hc
   obtain⟨i1,i2⟩:=ux hr h4
   refine⟨by simp[i1],λj c hj=>?_⟩
   cases j with
   |zero=>simp at hj;subst hj;exact⟨u,h1,C1,h3⟩
   |succ j =>
    grind
  ·grind
 |.own k s rows::l,cs,o,h,hc=>by
  simp only[closeAll]at h
  split at h
  ·rename_i r hr
   simp at h;subst h
   obtain⟨⟨u,h1,h2,h3⟩,_,h4⟩:=hc
   obtain⟨i1,i2⟩:=ux hr h4
   refine⟨by simp[i1],λj c hj=>?_⟩
   cases j with
   |zero =>
    simp at hj;subst hj
    have:=rV (.own k s rows) (.sl s rows) u Z h2
    exact⟨u,h1,this.1,Z⟩
   |succ j =>
    have:=i2 j c hj
    rwa[show o+1+j=o+(j+1)from by omega]at this
  ·grind
 |.ptr _ _::l,cs,o,h,hc=>by simp[closeAll]at h
 |.gf .. :: l,cs,o,h,hc=>by simp[closeAll]at h
 |.any::l,cs,o,h,hc=>by simp[closeAll]at h
 |.agg _::l,cs,o,h,hc=>by simp[closeAll]at h
 |.fG _::l,cs,o,h,hc=>by simp[closeAll]at h
def Gh.freeze(g:Gh)(w:World)(k b n:Nat):Gh :=
 ⟨λN o=>if N=b/\o<n then w.cell? ⟨N,o,none⟩else g.G N o,λj=>if j=k then none else g.box j,g.tok,g.room⟩
def Ah{g:Gh}{w:World}{k b n:Nat}(Q:∀b o v,g.G b o=some v->w.cell? ⟨b,o,none⟩=some v):g.G.le (g.freeze w k b n).G:=by intro N o v h;simp only[Gh.freeze];grind
mutual
def Ai{g:Gh}{w:World}{k b:Nat}{cs:L CV}(Q:∀b o v,g.G b o=some v->w.cell? ⟨b,o,none⟩=some v)(Y:g.box k=some b)
  (M:cW (g.freeze w k b cs.length).G b 0 cs):∀{a x:AV}{u:Value},pS k cs a=some x->aP g a u->aP (g.freeze w k b cs.length) x u/\(a.one=true->x.one=true)
 |.ptr j off,x,u,h,A=>by simp only[pS]at h;simp only[aP]at A;obtain⟨N,h1,rfl⟩:=A;split at h;rename_i T;have:=beq_true T;subst this;rw[Y]at h1;simp at h1;subst h1;split at h;rename_i r A;simp at h;subst h;obtain⟨rfl,D⟩:=j6 A;refine⟨?_,λ_=>rfl⟩;simp only[aP,Rel];exact⟨b,off,rfl,by simpa using M.drop (n:=off)⟩;simp at h;rename_i T;have:=beq_false T;simp at h;subst h;exact⟨by simp only[aP];exact⟨N,by simp[Gh.freeze,this,h1],rfl⟩,id⟩
 |.gf j off s n,x,u,h,A=>by simp only[pS]at h;simp only[aP]at A;obtain⟨N,E,o,h1,rfl,h2,U⟩:=A;split at h;simp at h;rename_i T;have:=beq_false T;simp at h;subst h;exact⟨by simp only[aP];exact⟨N,E,o,by simp[Gh.freeze,this,h1],rfl,h2,U⟩,id⟩
 |.any,x,u,h,A=>by simp[pS]at h;subst h;exact⟨by simp only[aP]at A ⊢;exact A,id⟩
 |.agg l,x,u,h,A=>by simp only[pS]at h;split at h;rename_i r H;simp at h;subst h;simp only[aP]at A;obtain⟨vs,rfl,h1,h2⟩:=A;obtain⟨S,W⟩:=Aj Q Y M H h1;exact⟨by simp only[aP];exact⟨vs,rfl,S,W h2⟩,λh=>by simp[AV.one]at h⟩;simp at h
 |.fG l,x,u,h,A=>by simp only[pS]at h;split at h;rename_i r H;simp at h;subst h;simp only[aP]at A;obtain⟨vs,rfl,h1,h2⟩:=A;obtain⟨S,W⟩:=Aj Q Y M H h1;have K:r.length=l.length:=(by have C:=(bM.get S).1;have q:=(bM.get h1).1;omega);exact⟨by simp only[aP];exact⟨vs,rfl,S,bn⟩,λh=>by simp[AV.one]at h⟩;simp at h
 |.c v,x,u,h,A=>by simp[pS]at h;subst h;exact⟨by simp only[aP]at A ⊢;exact Rel.mono (Ah Q) _ _ A,id⟩
 |.own o s rows,x,u,h,A=>by
  simp[pS]at h;subst h;refine⟨?_,id⟩;simp only[aP]at A ⊢;obtain⟨base,B,E,e,h1,h2,U,P⟩:=A;refine⟨base,B,E,e,h1,h2,U.mono (Ah Q),?_⟩;cases o with
  |exact=>exact P
  |tok V n=>exact P
def Aj{g:Gh}{w:World}{k b:Nat}{cs:L CV}(Q:∀b o v,g.G b o=some v->w.cell? ⟨b,o,none⟩=some v)(Y:g.box k=some b)
  (M:cW (g.freeze w k b cs.length).G b 0 cs):∀{l r:L AV}{us:L Value},pT k cs l=some r->bM g l us->bM (g.freeze w k b cs.length) r us/\(l.all AV.one=true->r.all AV.one=true)
 |[],r,us,h,A=>by simp[pT]at h;subst h;simp only[bM]at A ⊢;exact⟨A,id⟩
 |a::l,r,us,h,A=>by simp only[pT]at h;split at h;rename_i x O;split at h;rename_i p H;simp at h;subst h;simp only[bM]at A;obtain⟨u,us,rfl,h1,h2⟩:=A;obtain⟨S,W⟩:=Ai Q Y M O h1;obtain⟨J,I⟩:=Aj Q Y M H h2;refine⟨by simp only[bM];exact⟨u,us,rfl,S,J⟩,λh=>?_⟩;simp only[abQ,aak]at h ⊢;exact⟨W h.1,I h.2⟩;simp at h;simp at h
end
def Da{k:Nat}{cs:L CV}:∀{env env':Env},C9 k cs env=some env'->∀t x,ak t env'=some x->∃a,ak t env=some a/\pS k cs a=some x
 |[],env',h,t,x,e=>by simp[C9]at h;subst h;simp[ak]at e
 |(j,a)::l,env',h,t,x,e=>by simp only[C9]at h;split at h;rename_i y G;split at h;rename_i r A;simp at h;subst h;rw[an]at e;rw[an];split at e;grind;rename_i p;rw[if_neg p];exact Da A t x e;grind;grind
def jj{k:Nat}{cs:L CV}:∀{bs bs':L (Nat×L AV)},Ag k cs bs=some bs'->∀j x,ak j bs'=some x->j≠k/\∃a,ak j bs=some a/\pT k cs a=some x
 |[],bs',h,j,x,e=>by simp[Ag]at h;subst h;simp[ak]at e
 |(i,a)::l,bs',h,j,x,e=>by simp only[Ag]at h;split at h;rename_i W;have:=beq_true W;subst this;obtain⟨h1,p,h2,U⟩:=jj h j x e;exact⟨h1,p,by rw[an,if_neg h1];exact h2,U⟩;rename_i W;have H:=beq_false W;split at h;rename_i y G;split at h;rename_i r A;simp at h;subst h;rw[an]at e;rw[an];split at e;grind;rename_i T;obtain⟨h1,p,h2,U⟩:=jj A j x e;simp_all;grind;grind
def AK.freeze{f:FuncId}{n:Nat}{β:jq}{R:Ending->World->Prop}{K:L Item}{env env':Env}{bs bs':L (Nat×L AV)}{ts:L (Nat×Nat)}{us:L Nat}(k:Nat)
  {cells:L AV}{cs:L CV}(I:ak k bs=some cells)(C:closeAll cells=some cs)(he:C9 k cs env=some env')(A:Ag k cs bs=some bs')
  (h:AK P X f n β R K env' ⟨bs',ts,us⟩):AK P X f n β R K env ⟨bs,ts,us⟩:=by
 intro g w a cst D;obtain⟨b,S,hlt,hGn,Y6⟩:=D.inv.box k cells I;obtain⟨hlen,V⟩:=ux C Y6;let g':=g.freeze w k b cs.length;have p:g.G.le g'.G:=Ah D.inv.oC;have M:cW g'.G b 0 cs:=by apply cW.jF;intro j c hj;obtain⟨u,Y,B,e3⟩:=V j c hj;have hjl:j<cs.length:=(List.getElem?_eq_some_iff.1 hj).1;refine⟨u,?_,Rel.mono p _ _ B,e3⟩;simp only[g',Gh.freeze,abi,hjl];simpa using Y
 have q:∀N o,N≠b->g'.G N o=g.G N o:=by intro N o W;simp only[g',Gh.freeze,W,false_and,acd]
 have iD:∀(N:Nat)(l r:L AV)(o:Nat),pT k cs l=some r->bU w g N o l->bU w g' N o r:=by
  intro N l
  induction l with
  |nil=>intro r o h1 _;simp[pT]at h1;subst h1;trivial
  |cons x l ih =>
   intro r o h1 h2;simp only[pT]at h1;split at h1;rename_i y hy;split at h1;rename_i r' hr';simp at h1;subst h1;obtain⟨⟨u,h3,h4,h5⟩,h6,h7⟩:=h2;obtain⟨i1,i2⟩:=Ai D.inv.oC S M hy h4;exact⟨⟨u,h3,i1,i2 h5⟩,h6,ih r' (o+1) hr' h7⟩;simp at h1;simp at h1
 refine h g' w a cst ⟨⟨?_,?_,?_,?_,?_,?_,?_⟩,?_,?_,?_,D.size,D.defers⟩;intro N o v U;simp only[g',Gh.freeze]at U;split at U;exact U;exact D.inv.oC _ _ _ U
 ·intro j x e;obtain⟨H,l,Y,B⟩:=jj A j x e;obtain⟨N,O,f2,f3,f4⟩:=D.inv.box j l Y;have Q:N≠b:=by rintro rfl;exact H (D.inv.fq j k l cells N Y I O S)
  exact⟨N,by simp[g',Gh.freeze,H,O],f2,λo=>by rw[q N o Q];exact f3 o,iD N l x 0 B f4⟩
 intro j T x x' N e e' Y B;obtain⟨H,l,O,_⟩:=jj A j x e;obtain⟨abE,l',Zf,_⟩:=jj A T x' e';simp only[g',Gh.freeze,H,abE,acd]at Y B;exact D.inv.fq j T l l' N O Zf Y B
 ·intro j m e;obtain⟨fI,Y,B⟩:=D.inv.tok j m e;refine⟨fI,Y,λN J E hr=>?_⟩;obtain⟨O,f2,f3⟩:=B N J E hr;have Q:N≠b:=by rintro rfl;exact f3 k cells I S
  refine⟨O,λo o1 o2=>?_,λT x e'=>?_⟩;obtain⟨f4,f5,f6⟩:=f2 o o1 o2;exact⟨by rw[q N o Q];exact f4,f5,f6⟩;obtain⟨H,l,f7,_⟩:=jj A T x e';simp only[g',Gh.freeze,H,acd];exact f3 T l f7
 intro j T m m' N J E lo' hi' e e' Y B;exact D.inv.gh j T m m' N J E lo' hi' e e' Y B
 ·intro j e;apply D.inv.used j;simp only[g',Gh.freeze]at e;rcases e with e|e
  left;intro hn;apply e;split;rfl;exact hn;exact .inr e
 intro j x N e W o;obtain⟨H,l,O,_⟩:=jj A j x e;simp only[g',Gh.freeze,H,acd]at W ⊢;exact D.inv.room j l N O W o;intro m v hm;exact Rel.mono p _ _ (D.rT m v hm);intro t x e;obtain⟨y,Y,B⟩:=Da he t x e;exact(Ai D.inv.oC S M B (D.env t y Y)).1;refine D.frame.trans ⟨Z,Z,Z,aal _,λ_ _ _=>rfl,λ_ _ _ _=>⟨Z,Z⟩,p,λN o v U=>?_,λj x N e Y=>?_,λj m N J E e Y => .inr ⟨j,m,J,E,e,Y,aal _,aal _⟩,λj _ h=>?_⟩;by_cases Q:N=b;subst Q;exact .inr (.inr (.inl ⟨k,cells,I,S⟩));rw[q N o Q]at U;exact .inl U;obtain⟨H,l,O,_⟩:=jj A j x e;simp only[g',Gh.freeze,H,acd]at Y;exact .inr ⟨j,l,O,Y⟩;cases C:ak j bs' with
 |none=>exact absurd C h
 |some x =>
  obtain⟨H,l,O,_⟩:=jj A j x C;exact⟨by rw[O];simp,by simp[g',Gh.freeze,H],by simp[g',Gh.freeze]⟩
end
end Go.cB
namespace Go.cB
mutual
def Wi(us:L Nat):AV->Bool
 |.c _=>true
 |.own .exact _ _=>true
 |.own (.tok P _) _ _=>mem P us
 |.ptr P _=>mem P us
 |.gf P _ _ _=>mem P us
 |.any=>true
 |.agg l=>Ak us l
 |.fG l=>Ak us l
def Ak(us:L Nat):L AV->Bool
 |[]=>true
 |a::l=>match Wi us a with
  |true=>Ak us l
  |false=>false
end
def Yo(us:L Nat):Env->Bool
 |[]=>true
 |(_,a)::l=>match Wi us a with
  |true=>Yo us l
  |false=>false
def okB(us:L Nat):L (Nat×L AV)->Bool
 |[]=>true
 |(k,a)::l=>match mem k us,Ak us a with
  |true,true=>okB us l
  |_,_=>false
def Yp(us:L Nat):L (Nat×Nat)->Bool
 |[]=>true
 |(k,_)::l=>match mem k us with
  |true=>Yp us l
  |false=>false
def Has(env:Env)(t:Nat)(a:AV):Prop:=ak t env=some a\/∃b v,ak t env=some b/\close b=some v/\a = .c v
def Db(env:Env):Env->Prop
 |[]=>True
 |(t,a)::l=>Has env t a/\Db env l
def Sr(bs:L (Nat×L AV)):L (Nat×L AV)->Prop
 |[]=>True
 |(k,a)::l=>ak k bs=some a/\Sr bs l
def JT(ts:L (Nat×Nat)):L (Nat×Nat)->Prop
 |[]=>True
 |(k,a)::l=>ak k ts=some a/\JT ts l
def mem_iff{k:Nat}:∀{l:L Nat},mem k l=true↔k∈l
 |[]=>by simp[mem]
 |x::l=>by simp only[mem];split;simp_all;rename_i h;have:=beq_false h;simp[mem_iff (l:=l),Ne.symm this]
def Gh.only(g:Gh)(us:L Nat):Gh:=⟨g.G,λk=>if mem k us then g.box k else none,λk=>if mem k us then g.tok k else none,g.room⟩
mutual
def Mn{g:Gh}{us:L Nat}:∀{a:AV}{u:Value},Wi us a=true->aP g a u->aP (g.only us) a u
 |.c v,u,_,h=>by simp only[aP]at h ⊢;exact h
 |.own .exact s rows,u,_,h=>by simp only[aP]at h ⊢;exact h
 |.own (.tok P n) s rows,u,Y,h=>by simp only[Wi]at Y;obtain⟨base,B,E,e,h1,h2,U,V,T,W,Q⟩:=h;exact⟨base,B,E,e,h1,h2,U,V,T,by simp[Gh.only,Y,W],Q⟩
 |.ptr P off,u,Y,h=>by simp only[Wi]at Y;obtain⟨b,h1,h2⟩:=h;exact⟨b,by simp[Gh.only,Y,h1],h2⟩
 |.gf P off s n,u,Y,h=>by simp only[Wi]at Y;obtain⟨b,E,o,h1,h2,U,W⟩:=h;exact⟨b,E,o,by simp[Gh.only,Y,h1],h2,U,W⟩
 |.any,u,_,h=>by simp only[aP]at h ⊢;exact h
 |.agg l,u,Y,h=>by obtain⟨vs,e,h1,h2⟩:=h;exact⟨vs,e,G8 Y h1,h2⟩
 |.fG l,u,Y,h=>by obtain⟨vs,e,h1,h2⟩:=h;exact⟨vs,e,G8 Y h1,h2⟩
def G8{g:Gh}{us:L Nat}:∀{l:L AV}{vs:L Value},Ak us l=true->bM g l vs->bM (g.only us) l vs
 |[],vs,_,h=>by simpa only[bM]using h
 |a::l,vs,Y,h=>by simp only[Ak]at Y;split at Y;rename_i h1;simp only[bM]at h ⊢;obtain⟨u,us',e,h2,U⟩:=h;exact⟨u,us',e,Mn h1 h2,G8 Y U⟩;simp at Y
end
def Oo{us:L Nat}:∀{env:Env},Yo us env=true->∀t a,ak t env=some a->Wi us a=true
 |[],_,t,a,e=>by simp[ak]at e
 |(j,x)::l,h,t,a,e=>by simp only[Yo]at h;split at h;rename_i O;rw[an]at e;split at e;grind;exact Oo h t a e;grind
def qB{us:L Nat}:∀{bs:L (Nat×L AV)},okB us bs=true->∀k a,ak k bs=some a->mem k us=true/\Ak us a=true
 |[],_,t,a,e=>by simp[ak]at e
 |(j,x)::l,h,t,a,e=>by simp only[okB]at h;split at h;rename_i T O;rw[an]at e;split at e;grind;exact qB h t a e;grind
def yH{us:L Nat}:∀{ts:L (Nat×Nat)},Yp us ts=true->∀k a,ak k ts=some a->mem k us=true
 |[],_,t,a,e=>by simp[ak]at e
 |(j,x)::l,h,t,a,e=>by simp only[Yp]at h;split at h;rename_i T;rw[an]at e;split at e;grind;exact yH h t a e;grind
def Dc{env:Env}:∀{l:Env},Db env l->∀t a,ak t l=some a->Has env t a
 |[],_,t,a,e=>by simp[ak]at e
 |(j,x)::l,h,t,a,e=>by rw[an]at e;split at e;rename_i A;subst A;simp at e;subst e;exact h.1;exact Dc h.2 t a e
def n9{bs:L (Nat×L AV)}:∀{l:L (Nat×L AV)},Sr bs l->∀k a,ak k l=some a->ak k bs=some a
 |[],_,t,a,e=>by simp[ak]at e
 |(j,x)::l,h,t,a,e=>by rw[an]at e;split at e;rename_i A;subst A;simp at e;subst e;exact h.1;exact n9 h.2 t a e
def pU{ts:L (Nat×Nat)}:∀{l:L (Nat×Nat)},JT ts l->∀k a,ak k l=some a->ak k ts=some a
 |[],_,t,a,e=>by simp[ak]at e
 |(j,x)::l,h,t,a,e=>by rw[an]at e;split at e;rename_i A;subst A;simp at e;subst e;exact h.1;exact pU h.2 t a e
section
variable {P : Program}{X : Ctx}
def AK.Ss{f:FuncId}{n:Nat}{β:jq}{R:Ending->World->Prop}{K:L Item}{env:Env}{bs:L (Nat×L AV)}{ts:L (Nat×Nat)}{us:L Nat}
  (env':Env)(bs':L (Nat×L AV))(ts':L (Nat×Nat))(us':L Nat)
  (I:Db env env')(A:Sr bs bs')(p:JT ts ts')(h1:Yo us' env'=true)(h2:okB us' bs'=true)(U:Yp us' ts'=true)
  (h:AK P X f n β R K env' ⟨bs',ts',us'⟩):AK P X f n β R K env ⟨bs,ts,us⟩:=by
 intro g w a cs D;refine h (g.only us') w a cs ⟨⟨D.inv.oC,?_,?_,?_,?_,?_,?_⟩,D.rT,?_,?_,D.size,D.defers⟩
 ·intro k x e;obtain⟨H,m2⟩:=qB h2 k x e;obtain⟨b,Y,B,q,e4⟩:=D.inv.box k x (n9 A k x e);refine⟨b,by simp[Gh.only,H,Y],B,q,?_⟩;have key:∀(l:L AV)(o:Nat),Ak us' l=true->bU w g b o l->bU w (g.only us') b o l:=by
   intro l
   induction l with
   |nil=>intro _ _ _;trivial
   |cons y l ih =>
    intro o h1 h2;simp only[Ak]at h1;split at h1;rename_i G;obtain⟨⟨u,O,V,T⟩,f4,f5⟩:=h2;exact⟨⟨u,O,Mn G V,T⟩,f4,ih (o+1) h1 f5⟩;grind
  grind
 intro k k' x C b e e' Y B;simp only[Gh.only,(qB h2 k x e).1,(qB h2 k' C e').1]at Y B;exact D.inv.fq k k' x C b (n9 A k x e) (n9 A k' C e') Y B;intro k m e;obtain⟨fI,Y,B⟩:=D.inv.tok k m (pU p k m e);refine⟨fI,by simp[Gh.only,yH U k m e,Y],λb Q W hr=>?_⟩;obtain⟨O,V,T⟩:=B b Q W hr;refine⟨O,V,λk' x e'=>?_⟩;simp only[Gh.only,(qB h2 k' x e').1];exact T k' x (n9 A k' x e');intro k k' m S b Q W N M e e' Y B;simp only[Gh.only,yH U k m e,yH U k' S e',if_true]at Y B;exact D.inv.gh k k' m S b Q W N M (pU p k m e) (pU p k' S e') Y B;intro k e;simp only[Gh.only]at e;rw[<- mem_iff (l:=us')];by_cases E:mem k us'=true;exact E;simp[E]at e;intro k x b e Y o;simp only[Gh.only,(qB h2 k x e).1,if_true]at Y;exact D.inv.room k x b (n9 A k x e) Y o
 ·intro t x e;rcases Dc I t x e with hx|⟨y,v,G,hv,rfl⟩
  exact Mn (Oo h1 t x e) (D.env t x hx);have:=(rV y v _ hv (D.env t y G)).1;simp only[aP];exact this
 refine D.frame.trans ⟨Z,Z,Z,aal _,λ_ _ _=>rfl,λ_ _ _ _=>⟨Z,Z⟩,ja.le.refl _,λ_ _ _ h => .inl h,λk x b e Y=>?_,λk m b Q W e Y=>?_,λk _ h=>?_⟩;simp only[Gh.only,(qB h2 k x e).1,if_true]at Y;exact .inr ⟨k,x,n9 A k x e,Y⟩;simp only[Gh.only,yH U k m e,if_true]at Y;exact .inr ⟨k,m,Q,W,pU p k m e,Y,aal _,aal _⟩;cases J:ak k bs' with
 |none=>exact absurd J h
 |some x=>exact⟨by rw[n9 A k x J];simp,by simp[Gh.only,(qB h2 k x J).1],Z⟩
end
end Go.cB
namespace Go.cB
abbrev kn:L Nat:=[0,1,2,3,4,5,6,7,8,9,10,11,12,13,14,15,16,17,18,19,20,21,22,23,24,25,26,27,28,29,30,31,32,33,34,35,36,37,38,39,40,41,42,43,44,45,46,47,48,49,50,51,52,53,54,55,56,57,58,59,60,61,62,63,64,65,66,67,68,69]
inductive Xx where
 |at(K:List Item) (env:Env)
 |stuck
def qC(X:Ctx)(n:Nat)(N:L (Nat×L AV)):Nat->L Item->Env->Xx
 |0,K,env => .at K env
 |m+1,K,env=>match K with
  |.code (.seq x y)::K'=>qC X n N m (.code x :: .code y::K') env
  |.code .skip::K'=>qC X n N m K' env
  |.code (.block id c)::K'=>qC X n N m (.code c :: .inBlock id::K') env
  |.inBlock _::K'=>qC X n N m K' env
  |.code (.exit id)::K'=>match exitTo id K' with
   |some Y=>qC X n N m Y env
   |none => .at K env
  |.code (.region _ ops false)::K'=>match qR ops n with
   |true=>match wA X ops.toList N [] 500 ops.toList env []with
    |.at [] env' _=>qC X n N m K' env'
    |_ => .at K env
   |false => .at K env
  |_ => .at K env
def LN(X:Ctx)(n:Nat)(N:L (Nat×L AV))(m:Nat)(K:L Item)(env:Env):Xx:=match K with
 |.code (.seq x y)::K'=>qC X n N m (.code x :: .code y::K') env
 |.code .skip::K'=>qC X n N m K' env
 |.code (.block id c)::K'=>qC X n N m (.code c :: .inBlock id::K') env
 |.inBlock _::K'=>qC X n N m K' env
 |.code (.exit id)::K'=>match exitTo id K' with
  |some Y=>qC X n N m Y env
  |none => .stuck
 |.code (.region _ ops false)::K'=>match qR ops n with
  |true=>match wA X ops.toList N [] 500 ops.toList env []with
   |.at [] env' _=>qC X n N m K' env'
   |_ => .stuck
  |false => .stuck
 |_ => .stuck
section
variable {P : Program}{X : Ctx}{f : FuncId}{n : Nat}{β : jq}{R : Ending -> World -> Prop}
def AK.Zg(hX:cg P X)(T:P.follows .mixedOrders=true){id:Nat}{ops:Array Oper}{K:L Item}{env env':Env}{σ:St}{acc:L Fp}(J:qR ops n=true)
  (h:wA X ops.toList σ.boxes [] 500 ops.toList env [] = .at [] env' acc)(k:AK P X f n β R K env' σ):AK P X f n β R (.code (.region id ops false)::K) env σ :=
 AK.region T J (ai.run hX 500 [] h (ai.done k))
def rY(hX:cg P X)(u:P.follows .mixedOrders=true){σ:St}:∀(m:Nat){K T:L Item}{env env':Env},qC X n σ.boxes m K env = .at T env' ->
  AK P X f n β R T env' σ->AK P X f n β R K env σ:=by
 intro m
 induction m with
 |zero=>intro K T env env' h k;obtain⟨rfl,rfl⟩:=h;exact k
 |succ m S =>
  intro K T env env' h k;have stop:Xx.at K env = .at T env'->AK P X f n β R K env σ:=by simp_all
  simp only[qC]at h;split at h;exact AK.seq (S h k)
  ·exact AK.skip (S h k)
  exact AK.block (S h k);exact AK.inBlock (S h k);split at h;rename_i e;exact AK.exit e (S h k);simp_all;split at h;rename_i J;split at h;rename_i e;exact AK.Zg hX u J e (S h k);simp_all;simp_all;simp_all
def AK.LF(hX:cg P X)(T:P.follows .mixedOrders=true){σ:St}(m:Nat){K u:L Item}{env env':Env}(h:LN X n σ.boxes m K env = .at u env')
  (k:AK P X f n β R u env' σ):AK P X f n β R K env σ:=by
 unfold LN at h;split at h;exact AK.seq (rY hX T m h k)
 ·exact AK.skip (rY hX T m h k)
 exact AK.block (rY hX T m h k);exact AK.inBlock (rY hX T m h k);split at h;rename_i e;exact AK.exit e (rY hX T m h k);grind;split at h;rename_i J;split at h;rename_i e;exact AK.Zg hX T J e (rY hX T m h k);grind;grind;grind
def AK.again{K:L Item}{env:Env}{bs:L (Nat×L AV)}{ts:L (Nat×Nat)}{us:L Nat}{env':Env}{bs':L (Nat×L AV)}{ts':L (Nat×Nat)}{us':L Nat}
  (h:AK P X f n β R K env' ⟨bs',ts',us'⟩)(Y:Db env env')(A:Sr bs bs')(p:JT ts ts')(h1:Yo us' env'=true)(h2:okB us' bs'=true)(U:Yp us' ts'=true) :
  AK P X f n β R K env ⟨bs,ts,us⟩:=AK.Ss env' bs' ts' us' Y A p h1 h2 U h
def AK.dI{C:Code}{K:L Item}{env:Env}{bs:L (Nat×L AV)}{ts:L (Nat×Nat)}{us:L Nat}{α:Type}(I:α->Prop)(W:α->Nat)
  (E:α->Env)(B:α->L (Nat×L AV))(T:α->L (Nat×Nat))(U:L Nat)(Y:α)(M:I Y)
  (A:Db env (E Y))(S:Sr bs (B Y))(p:JT ts (T Y))(h1:Yo U (E Y)=true)(h2:okB U (B Y)=true)(Q:Yp U (T Y)=true)
  (step:∀x,I x->(∀y,I y->W y<W x->AK P X f n β R (.inLoop C::K) (E y) ⟨B y,T y,U⟩)->AK P X f n β R (.code C :: .inLoop C::K) (E x) ⟨B x,T x,U⟩) :
  AK P X f n β R (.code (.loop C)::K) env ⟨bs,ts,us⟩:=by
 refine AK.loop (AK.Ss (E Y) (B Y) (T Y) U A S p h1 h2 Q ?_);have V:∀(m:Nat)(x:α),W x<m->I x->AK P X f n β R (.code C :: .inLoop C::K) (E x) ⟨B x,T x,U⟩:=by
  intro m
  induction m with
  |zero=>intro x O;omega
  |succ m N =>
   intro x O J;exact step x J λy G H=>AK.inLoop (N y bn G)
 exact V (W Y+1) Y bn M
end
section
variable {P : Program}{X : Ctx}{ops : Array Oper}{o : Oper}{rest : L Oper}{env : Env}{σ : St}{acc : L Fp}{Q : Env -> St -> L Fp -> Prop}
def bI.index(hX:cg P X){t:TypeId}{x ix:Operand}(ho:o.op = .indexAddr t x ix){i j:TI}{e:Nat}(hi:X.ti t=some i)(hk:i.kind = .slice e)(hj:X.ti e=some j)
  {a:AV}{s:Nat}{rows:L CV}(ha:aH X env x=some a)(hr:rowsOf a=some (s,rows))(hs:Nat.beq s j.size=true){k:IntKind}{z:Int}(hz:aH X env ix=some (.c (.int k z)))
  {m:Nat}(hm:z=m){r:CV}(hrow:rows[m]?=some r):bI P X o env σ (.c (.ip r.cells)) (λσ=>σ) ⟨[],[]⟩:=by
 intro cH σ1 w g act next Q h1 h2 hinv bZ cX hnext
 have xo:aH X cH x=some a:=by rw[h1 x lA];exact ha
 have Zh:aH X cH ix=some (.c (.int k z)):=by rw[h1 ix lA];exact hz
 obtain⟨base,len,cap,e1,e2,_,e3⟩:=CZ hr (bV (a:=act) cX bZ xo)
 have e4:=A6 (bV (a:=act) cX bZ Zh)
 have hlt:m<rows.length:=(List.getElem?_eq_some_iff.1 hrow).1
 obtain⟨d,jc,iF,_⟩:=hX.run_underlying (w:=w) hi
 rw[hk]at iF;subst iF
 have Yj:=beq_true hs
 rcases e3 with rfl|⟨b,o',rfl,fD⟩
 ·simp_all
 ·have hg:=(fD.get m r hrow).1
  have hrun:(execOp act.eval o).run P w = .ok (.value (.pointer (some ⟨b,o'+m*j.size,none⟩))) w:=by
   obtain⟨dst,op,type,pos,after,guard⟩:=o
   subst ho
   simp[execOp,e1,e4,hm,Instr.indexAt,asIntOf,jc,e2,hlt,hX.run_sizeOf hj,Addr.add_lit]
  unfold Oper.wp
  rw[hrun,Oper.upon_value]
  refine hnext _ w g ?_ hinv (gG.refl _ _ _) (Gh.le.refl _)
  exact⟨b,_,Z,by rw[<- Yj];exact hg⟩
def ai.index(hX:cg P X)(hg:cP ops.toList kn env o=some true){t:TypeId}{x ix:Operand}(ho:o.op = .indexAddr t x ix){d:Nat}(hd:o.dst=some d)
  {i j:TI}{e:Nat}(hi:X.ti t=some i)(hk:i.kind = .slice e)(hj:X.ti e=some j)
  {a:AV}{s:Nat}{rows:L CV}(ha:aH X env x=some a)(hr:rowsOf a=some (s,rows))(hs:Nat.beq s j.size=true){k:IntKind}{z:Int}(hz:aH X env ix=some (.c (.int k z)))
  (m:Nat)(hm:z=m){r:CV}(hrow:rows[m]?=some r){cs:L CV}(hcs:r.cells=cs)(k:ai P X ops rest ((d,.c (.ip cs))::env) σ (⟨[],[]⟩::acc) Q) :
  ai P X ops (o::rest) env σ acc Q:=by
 subst hcs
 exact ai.step (cZ hg) (bI.index hX ho hi hk hj ha hr hs hz hm hrow) (gE.id _) th
end
end Go.cB
namespace Go.cB
def uy(s:Nat)(v:CV):Bool:=match v with
 |.fG _=>false
 |.undef=>false
 |.agg cs=>Nat.beq cs.length s
 |_=>Nat.beq 1 s
def gR(s:Nat):L CV->Bool
 |[]=>true
 |v::l=>match uy s v with
  |true=>gR s l
  |false=>false
def qD{s:Nat}{v:CV}(h:uy s v=true){G:ja}{u:Value}(hr:Rel G v u):v.cells.length=s/\bT G v.cells u.cells.toList/\v.cells.all CV.one=true:=by
 have one:∀(v:CV)(u:Value),v.one=true->Rel G v u->u.cells.toList=[u]:=by
  intro v u ho hr
  cases v<;>simp only[Rel]at hr<;>simp[CV.one]at ho
  case int=>subst hr;rfl
  case bool=>subst hr;rfl
  case str=>subst hr;rfl
  case ld=>subst hr;rfl
  case sl=>obtain⟨_,_,_,rfl,_⟩:=hr;rfl
  case ip=>obtain⟨_,_,rfl,_⟩:=hr;rfl
  case tO=>obtain⟨_,rfl,_⟩:=hr;rfl
  case any=>cases u<;>first|rfl|exact absurd Z (hr.1 _)
  case rR=>obtain⟨_,rfl⟩:=hr;rfl
 have fin:∀(v:CV),v.one=true->v.cells=[v]->Rel G v u->Nat.beq 1 s=true->v.cells.length=s/\bT G v.cells u.cells.toList/\v.cells.all CV.one=true:=by
  intro v ho hc hr hs
  rw[hc,one v u ho hr]
  exact⟨beq_true hs,by simp_all;exact⟨u,[],Z,hr,Z⟩,by simp[ho]⟩
 cases v with
 |fG=>simp[uy]at h
 |undef=>simp[uy]at h
 |agg cs =>
  obtain⟨vs,rfl,h1,h2⟩:=hr
  exact⟨beq_true h,by simpa[CV.cells,Value.cells]using h1,h2⟩
 |int=>exact fin _ Z Z hr h
 |bool=>exact fin _ Z Z hr h
 |str=>exact fin _ Z Z hr h
 |ld=>exact fin _ Z Z hr h
 |sl=>exact fin _ Z Z hr h
 |ip=>exact fin _ Z Z hr h
 |tO=>exact fin _ Z Z hr h
 |any=>exact fin _ Z Z hr h
 |rR=>exact fin _ Z Z hr h
def nH{s:Nat}:∀{l:L CV},gR s l=true->∀v∈l,uy s v=true
 |[],_,v,h=>by simp at h
 |x::l,h,v,q=>by
  simp only[gR]at h;split at h
  ·rename_i O;rcases List.mem_cons.1 q with rfl|q
   omega;exact nH h v q
  grind
def flat(s:Nat):L Value->L Value
 |[]=>[]
 |v::l=>v.cells.toList++flat s l
def fE.of_flat{G:ja}{s b:Nat}:∀{rows:L CV}{vs:L Value}{o:Nat},gR s rows=true->bT G rows vs->(∀(j:Nat) u,(flat s vs)[j]?=some u->G b (o+j)=some u)->fE G s b o rows
 |[],vs,o,_,_,_=>by simp[fE]
 |r::rows,vs,o,C,hr,hG=>by simp only[gR]at C;split at C;rename_i Y;obtain⟨u,us,rfl,h1,h2⟩:=hr;obtain⟨p,M,V⟩:=qD Y h1;obtain⟨K,E⟩:=bT.get M;simp only[flat]at hG;refine⟨(yB G b o r).2 (cW.jF λj c T=>?_),p,fE.of_flat C h2 λj H W=>?_⟩;grind;have:=hG (s+j) H (by rw[adn bn];rw[show s+j-u.cells.toList.length=j from by omega];exact W);grind;grind
section
variable {P : Program}{X : Ctx}
def Xy{w:World}{g:Gh}{σ:St}(hinv:Inv w g σ)(us:Array Value)(t:TypeId) :
  let g':Gh:=⟨λb o=>if b=w.heap.size then us[o]? else g.G b o,g.box,g.tok,g.room⟩
  let w':World:={w with heap:=w.heap.push (.cells us t)}
  Inv w' g' σ/\gG w g σ w' g' σ/\g.le g':=by
 intro g' w'
 have hold:∀b o,b<w.heap.size->w'.cell? ⟨b,o,none⟩=w.cell? ⟨b,o,none⟩/\w'.frozen? ⟨b,o,none⟩=w.frozen? ⟨b,o,none⟩:=by
  intro b o hb
  exact⟨World.cell?_alloc_old w _ ⟨b,o,none⟩ RI,World.frozen?_alloc_old w _ ⟨b,o,none⟩ RI⟩
 have hsz:w'.heap.size=w.heap.size+1:=by simp[w']
 have JR:∀b o v,g.G b o=some v->b<w.heap.size:=λb o v h=>World.block_lt_of_cell? w ⟨b,o,none⟩ (hinv.oC b o v h)
 have hle:g.le g':=by
  refine⟨λb o v h=>?_,λ_ _ h=>h,λ_ _ _=>rfl,λk hw fI h=>⟨hw,fI,h,aal _,λ_=>rfl⟩⟩
  grind
 have G9:∀b o,b<w.heap.size->g'.G b o=g.G b o:=by grind
 refine⟨⟨?_,?_,hinv.fq,?_,hinv.gh,hinv.used,hinv.zZ λk cs b _ _ hb o=>hold b o hb⟩,⟨Z,Z,Z,bn,λb hb _=>by show(w.heap.push _)[b]?=_;rw[adG,if_neg bn],λb o hb _=>hold b o hb,hle.1,?_,?_,?_,?_⟩,hle⟩
 ·intro b o v h
  simp only[g']at h
  split at h
  ·rename_i hb;subst hb
   have:=World.cell?_alloc_new w us t o
   rw[show(w.alloc (.cells us t))=w' from rfl]at this
   rw[this];exact h
  ·rw[(hold b o (JR b o v h)).1];exact hinv.oC b o v h
 ·intro k cs e
  obtain⟨b,h1,h2,h3,h4⟩:=hinv.box k cs e
  exact⟨b,h1,bn,λo=>by rw[G9 b o h2];exact h3 o,(bU.of_same (λo=>hold b o h2) h4).mono hle⟩
 ·intro k n e
  obtain⟨fI,h1,h2⟩:=hinv.tok k n e
  refine⟨fI,h1,λb lo hi hr=>?_⟩
  obtain⟨h3,h4,h5⟩:=h2 b lo hi hr
  refine⟨bn,λo JQ Mj=>?_,h5⟩
  obtain⟨h6,⟨u,h7⟩,h8⟩:=h4 o JQ Mj
  exact⟨by rw[G9 b o h3];exact h6,⟨u,(hold b o h3).1.trans h7⟩,(hold b o h3).2.trans h8⟩
 ·grind
 ·grind
 ·grind
 ·grind
def iu(ρ:Operand->Option AV):Nat->L (Nat×Operand)->Option (L CV)
 |_,[]=>some []
 |i,(j,x)::l=>match Nat.beq j i,ρ x with
  |true,some a=>match close a with
   |some v=>match iu ρ (i+1) l with
    |some r=>some (v::r)
    |none=>none
   |none=>none
  |_,_=>none
def pV{ρ Y:Operand->Option AV}:∀(l:L (Nat×Operand))(i:Nat),(∀p∈l,Y p.2=ρ p.2)->iu Y i l=iu ρ i l
 |[],_,_=>rfl
 |(j,x)::l,i,h=>by simp only[iu,h (j,x) c9,pV l (i+1) (λp D=>h p (by simp[D]))]
def uz{g:Gh}{ρ:Operand->Option AV}{ev:Operand->Value}(Y:∀x v,ρ x=some v->aP g v (ev x)):∀{l:L (Nat×Operand)}{i:Nat}{rows:L CV},
  iu ρ i l=some rows->bT g.G rows (l.map λp=>ev p.2)/\(l.map λ(j,x)=>(j,ev x))=((l.map λp=>ev p.2).zipIdx i).map λ(v,j)=>(j,v)
 |[],i,rows,h=>by simp[iu]at h;subst h;simp[bT]
 |(j,x)::l,i,rows,h=>by simp only[iu]at h;split at h;rename_i a T O;split at h;rename_i v q;split at h;rename_i r A;simp at h;subst h;obtain⟨h1,h2⟩:=uz Y A;have:=beq_true T;refine⟨by simp;exact⟨_,_,rfl,(rV a v _ q (Y x a O)).1,h1⟩,?_⟩;simp_all;grind;grind;grind
def Al(s:Nat):∀(vals:L Value)(k:Nat)(arr:Array Value),(∀v∈vals,v.cells.size=s)->(k+vals.length)*s<=arr.size ->
  ∃res,Instr.fill (λi=>some (i*s,s)) arr ((vals.zipIdx k).map λ(v,j)=>(j,v))=some res/\res.size=arr.size /\
   ∀(j:Nat),res[j]?=if k*s<=j/\j<k*s+(flat s vals).length then(flat s vals)[j-k*s]? else arr[j]?
 |[],k,arr,_,_=>⟨arr,by simp[Instr.fill],Z,λj=>by simp[flat];intros;omega⟩
 |v::vals,k,arr,h1,h2=>by
  have hv:=h1 v c9
  have hks:(k+1)*s=k*s+s:=aeb k s
  have yA:(k+1+vals.length)*s<=arr.size:=by simp at h2;rwa[show k+1+vals.length=k+(vals.length+1)from by omega]
  have hfit:k*s+s<=arr.size:=by grind
  obtain⟨f1,f2⟩:=C0 (k*s) v.cells.toList 0 arr ob
  obtain⟨res,r1,r2,r3⟩:=Al s vals (k+1) _ (λx hx=>h1 x (by simp[hx])) (by rw[f1];exact yA)
  refine⟨res,?_,by rw[r2,f1],λj=>?_⟩
  ·simp only[acr,abk,Instr.fill]
   rw[if_neg ob]
   have Sh:v.cells.zipIdx.foldl (λcs (c,j)=>cs.setIfInBounds (k*s+j) c) arr =
     (v.cells.toList.zipIdx 0).foldl (λ(cs:Array Value)(p:Value×Nat)=>cs.setIfInBounds (k*s+p.2) p.1) arr:=by
    rw[<- Array.foldl_toList];simp
   rw[Sh];exact r1
  ·rw[r3,f2]
   have hl:v.cells.toList.length=s:=by simpa using hv
   simp only[flat,aao,hks,hl,abI]
   by_cases c1:k*s+s<=j/\j<k*s+s+(flat s vals).length
   ·grind
   ·grind
def bI.buildSlice(hX:cg P X){o:Oper}{env:Env}{σ:St}{t:TypeId}{len:Nat}{parts:Array (Nat×Operand)}(ho:o.op = .buildSlice t len parts)
  {i j:TI}{e:Nat}(hi:X.ti t=some i)(hk:i.kind = .slice e)(hj:X.ti e=some j){za:AV}(hz:j.zero=some za){rows:L CV}(hp:iu (aH X env) 0 parts.toList=some rows)
  (hl:Nat.beq rows.length len=true)(hs:gR j.size rows=true)(hb:Nat.ble (len*j.size) 16777216=true) :
  bI P X o env σ (.own .exact j.size rows) (λσ=>σ) ⟨[],[]⟩:=by
 intro cH σ1 w g act next Q h1 h2 hinv bZ cX hnext
 have BF:iu (aH X cH) 0 parts.toList=some rows:=by
  rw[pV _ _ (λp hp=>h1 p.2 Lv)];exact hp
 obtain⟨c1,c2⟩:=uz (g:=g) (ev:=act.eval) (λx v hx=>bV cX bZ hx) BF
 have hlen:=beq_true hl
 obtain⟨d,jc,iF,_⟩:=hX.run_underlying (w:=w) hi
 rw[hk]at iF;subst iF
 obtain⟨z,z1,z2,z3⟩:=hX.lq (w:=w) hj hz
 have hcs:∀v∈(parts.toList.map λp=>act.eval p.2),v.cells.size=j.size:=by
  intro v hv
  obtain⟨m,hm⟩:=acV hv
  obtain⟨l1,l2⟩:=bT.get c1
  have hml:m<rows.length:=by rw[l1];exact(List.getElem?_eq_some_iff.1 hm).1
  obtain⟨u,e1,e2⟩:=l2 m rows[m] c9
  rw[hm]at e1;simp at e1;subst e1
  obtain⟨a1,a2,_⟩:=qD (nH hs rows[m] (adw hml)) e2
  have:=(bT.get a2).1
  simp at this;omega
 have hvl:(parts.toList.map λp=>act.eval p.2).length=len:=by rw[<- (bT.get c1).1];exact hlen
 obtain⟨res,r1,r2,r3⟩:=Al j.size (parts.toList.map λp=>act.eval p.2) 0 ((Array.range (len*j.size)).map (z.cells[· % z.cells.size]!)) hcs (by simp at hvl ⊢;rw[hvl];exact aal _)
 have hrun:(execOp act.eval o).run P w = .ok (.value (.slice (some ⟨w.heap.size,0,none⟩) len len)) {w with heap:=w.heap.push (.cells res e)}:=by
  obtain⟨dst,op,type,pos,after,guard⟩:=o
  simp only at ho;subst ho
  have Ae:¬(2^24<len*j.size):=by have:=abf hb;omega
  have JU:∀zc:Array Value,(Array.range (len*j.size)).map (λx=>zc[x%zc.size]!)=(Array.range (len*j.size)).map (λx=>z.cells[x%z.cells.size]!) ->
    Instr.fill (λi=>some (i*j.size,j.size)) ((Array.range (len*j.size)).map (λx=>zc[x%zc.size]!)) (parts.map λx=>(x.1,act.eval x.2)).toList=some res:=by
   intro zc q2
   rw[q2,aci]
   have Xz:(parts.toList.map λx=>(x.1,act.eval x.2))=_:=c2
   rw[Xz];exact r1
  simp only[execOp,Instr.buildSlice,Sem.run_bind,jc,Result.andThen_ok,hX.run_sizeOf hj]
  rw[if_neg (by simpa using Ae)]
  by_cases h0:len*j.size=0
  ·rw[if_pos h0]
   simp only[Sem.run_bind,Sem.run_pure,Result.andThen_ok]
   rw[JU #[] (by rw[h0];simp)]
   simp[newRow]
  ·rw[if_neg h0]
   simp only[Sem.run_bind,Sem.run_pure,Result.andThen_ok,z1]
   rw[JU z.cells rfl]
   simp[newRow]
 unfold Oper.wp
 rw[hrun,Oper.upon_value]
 obtain⟨i1,i2,i3⟩:=Xy hinv res e
 refine hnext _ _ _ ?_ i1 i2 i3
 simp only[aP]
 refine⟨_,_,_,Z,hlen.symm,aal _,?_,Z⟩
 right
 refine⟨w.heap.size,0,Z,fE.of_flat hs (bT.mono i3.1 _ _ c1) λm u hu=>?_⟩
 simp only[if_true,abi]
 have hm:m<(flat j.size (parts.toList.map λp=>act.eval p.2)).length:=(List.getElem?_eq_some_iff.1 hu).1
 rw[r3 m,if_pos bn]
 simpa using hu
end
section
variable {P : Program}{X : Ctx}{ops : Array Oper}{o : Oper}{rest : L Oper}{env : Env}{σ : St}{acc : L Fp}{Q : Env -> St -> L Fp -> Prop}
def ai.buildSlice(hX:cg P X)(kn:L Nat)(hg:cP ops.toList kn env o=some true){t:TypeId}{len:Nat}{parts:Array (Nat×Operand)}(ho:o.op = .buildSlice t len parts){d:Nat}(hd:o.dst=some d)
  {i j:TI}{e:Nat}(hi:X.ti t=some i)(hk:i.kind = .slice e)(hj:X.ti e=some j){za:AV}(hz:j.zero=some za){rows:L CV}(hp:iu (aH X env) 0 parts.toList=some rows)
  (hl:Nat.beq rows.length len=true){s:Nat}(hsz:j.size=s)(hs:gR s rows=true)(hb:Nat.ble (len*s) 16777216=true)
  (k:ai P X ops rest ((d,.own .exact s rows)::env) σ (⟨[],[]⟩::acc) Q):ai P X ops (o::rest) env σ acc Q:=by
 subst hsz
 exact ai.step (cZ hg) (bI.buildSlice hX ho hi hk hj hz hp hl hs hb) (gE.id _) th
end
end Go.cB
namespace Go.cB
open Go.ChangeShapes Go.WideShapes Go.RowKit
def mV(w:World):ja:=λb o=>w.cell? ⟨b,o,none⟩
section
variable {H : Type}{enc : TypeId × Value -> H}{P : Program}{W : World}{B : DataW H -> Nat}
def RD(enc:TypeId×Value->H)(P:Program)(W:World)(B:DataW H->Nat)(n:Nat)(t:TypeId)(R:CV->Nat->Prop):Prop :=
 ∀Y,Y<=n->∀cs x,DataW.trod enc P W 0 (λ_=>true) true Y t cs=some x ->
  ∃c:CV,bT (mV W) c.cells cs/\c.cells.all CV.one=true/\R c (B x.1)
def RD.mono{n m:Nat}{t:TypeId}{R V:CV->Nat->Prop}(h:RD enc P W B n t R)(T:m<=n)(U:∀c k,R c k->V c k):RD enc P W B m t V :=
 λY hf cs x O=>by obtain⟨c,h1,h2,S⟩:=h Y (abJ hf T) cs x O;grind
def RD.zero{t:TypeId}{R:CV->Nat->Prop}:RD enc P W B 0 t R:=λY hf cs x O=>by
 obtain rfl:Y=0:=by omega
 simp[DataW.trod]at O
structure CA(B:DataW H->Nat):Prop where
 lit:∀l,1<=B (.lit l)
 str:∀s,s.length+1<=B (.lit (.string s))
 nil:1<=B .nil
 slice:∀l r,(l.map B).sum+1<=B (.slice l r)
 agg:∀l,(l.map B).sum+1<=B (.agg l)
def RD.int(hB:CA B){n:Nat}{t:TypeId}{k:IntKind}(hu:P.underlying t=some (.int k)) :
  RD enc P W B n t λc m=>∃z,c = .int k z/\(Lit.int k z).wf=true/\1<=m:=λfuel hf cs x hx=>by
 obtain⟨z,rfl,rfl,hw⟩:=DataW.trod_int hu hx
 exact⟨.int k z,by simp[CV.cells,bT,Rel],Rl,z,Z,hw,hB.lit _⟩
def RD.str(hB:CA B){n:Nat}{t:TypeId}(hu:P.underlying t=some .string) :
  RD enc P W B n t λc m=>∃s,c = .str s/\s.length+1<=m:=λfuel hf cs x hx=>by
 obtain⟨s,rfl,rfl,hw⟩:=DataW.trod_string hu hx
 exact⟨.str s.data.toList,by simp[CV.cells,bT,Rel],Rl,_,Z,hB.str _⟩
def AX(R:CV->Nat->Prop):L CV->Nat->Prop
 |[],m=>0<=m
 |r::rs,m=>∃k S,R r k/\AX R rs S/\k+S<=m
def RD.slice(hB:CA B){n:Nat}{t e:TypeId}{s:Nat}(hu:P.underlying t=some (.slice e))(hs:P.cellsOf e=s)(h0:0<s){R:CV->Nat->Prop}(h:RD enc P W B n e R) :
  RD enc P W B (n+1) t λc m=>∃rows,c = .sl s rows/\∃m',AX R rows m'/\m'+1<=m:=λfuel hf cs x hx=>by
 subst hs
 rcases DataW.trod_slice hu hx with ⟨rfl,rfl⟩|⟨a,len,cap,elems,rest,n',rfl,rfl,rfl,_,hl,hc,hlen,hel,_,_⟩
 ·refine⟨.sl _ [],?_,Rl,[],Z,0,aal _,by simpa using hB.nil⟩
  refine⟨_,_,Z,?_,Z⟩
  simp only[Rel]
  grind
 ·have hs:elems=[]\/∃b o,a=⟨b,o,none⟩:=by
   cases elems with
   |nil=>exact .inl Z
   |cons y l =>
    right
    have Um:=hel 0 (by simp at hlen;omega)
    simp only[adv,adV]at Um
    obtain⟨vs,hvs,hy⟩:=Um
    obtain⟨_,hvl,hcell⟩:=World.cells?_some hvs
    obtain⟨b,o,spot⟩:=a
    have g0:=hcell 0 h0
    obtain⟨v0,Pc⟩:∃v0,vs[0]?=some v0:=by simp_all
    rw[Pc]at g0
    have h9:=World.cell?_spot g0
    have Zi:spot=none:=by simpa[Addr.add]using h9
    exact⟨b,o,by rw[Zi]⟩
  have key:∀(b o:Nat),a=⟨b,o,none⟩->∀(l:L (DataW H×L MemPlace))(k:Nat),(∀i,i<l.length->(W.cells? 0 (a.add ((k+i)*P.cellsOf e)) (P.cellsOf e)).bind (DataW.trod enc P W 0 (λ_=>true) true n' e)=l[i]?) ->
    ∃rows,rows.length=l.length/\AX R rows ((l.map λx=>B x.1).sum)/\fE (mV W) (P.cellsOf e) b (o+k*P.cellsOf e) rows:=by
   intro b o hab l
   subst hab
   induction l with
   |nil=>intro k _;exact⟨[],Z,by simp[AX],by simp[fE]⟩
   |cons y l ih =>
    intro k hk
    obtain⟨rows,h1,h2,h4⟩:=ih (k+1) λi hi=>by
     have:=hk (i+1) ob
     rw[show k+1+i=k+(i+1)from by omega];simpa using this
    have Um:=hk 0 c9
    simp only[abI,adv,adV]at Um
    obtain⟨vs,hvs,hy⟩:=Um
    obtain⟨c,c1,c2,c3⟩:=h n' bn vs y hy
    obtain⟨_,hvl,hcell⟩:=World.cells?_some hvs
    refine⟨c::rows,T1,⟨_,_,c3,h2,c9⟩,?_⟩
    simp only[fE]
    refine⟨(yB _ _ _ _).2 (cW.jF λj cj hj=>?_),by rw[(bT.get c1).1,hvl],?_⟩
    ·obtain⟨u,Zj,Vg⟩:=(bT.get c1).2 j cj hj
     refine⟨u,?_,Vg,List.all_eq_true.1 c2 cj (aap hj)⟩
     have hjl:j<P.cellsOf e:=by rw[<- hvl];exact(List.getElem?_eq_some_iff.1 Zj).1
     have:=hcell j hjl
     rw[add_plain,add_plain]at this
     rw[mV,this,Zj]
    ·rwa[show o+(k+1)*P.cellsOf e=o+k*P.cellsOf e+P.cellsOf e from by rw[aeb];omega]at h4
  have hBs:(elems.map λx=>B x.1).sum+1<=B (.slice (elems.map (·.1)) (rest.map (·.1))):=by
   have:=hB.slice (elems.map (·.1)) (rest.map (·.1));rwa[List.map_map]at this
  rcases hs with rfl|⟨b,o,rfl⟩
  ·refine⟨.sl _ [],?_,Rl,[],Z,0,aal _,by simpa using hBs⟩
   simp only[CV.cells,bT]
   refine⟨_,_,Z,?_,Z⟩
   simp only[Rel]
   exact⟨_,_,_,Z,by simpa using hlen.symm,hl,.inl trivial⟩
  ·obtain⟨rows,h1,h2,h4⟩:=key b o rfl elems 0 λi hi=>by rw[abi];exact hel i bn
   refine⟨.sl _ rows,?_,Rl,rows,Z,_,h2,hBs⟩
   simp only[CV.cells,bT]
   refine⟨_,_,Z,?_,Z⟩
   simp only[Rel]
   exact⟨_,_,_,Z,bn,hl,.inr ⟨b,o,Z,by simpa using h4⟩⟩
def BV:L (CV->Nat->Prop)->L CV->Nat->Prop
 |[],l,_=>l=[]
 |R::Rs,l,m=>∃c k p S,l=c.cells++p/\R c k/\BV Rs p S/\k+S<=m
def BW(enc:TypeId×Value->H)(P:Program)(W:World)(B:DataW H->Nat)(n:Nat):Nat->L (Nat×TypeId)->L (CV->Nat->Prop)->Prop
 |o,[],Rs=>Rs=[]
 |o,(O,t)::fs,Rs=>∃R Y,Rs=R::Y/\O=o/\RD enc P W B n t R/\BW enc P W B n (o+P.cellsOf t) fs Y
def lS(P:Program):Nat->L (Nat×TypeId)->Nat
 |o,[]=>o
 |o,(_,t)::fs=>lS P (o+P.cellsOf t) fs
def A8{n:Nat}{cs:L Value}:∀(Y:L (Nat×TypeId))(o:Nat)(Rs:L (CV->Nat->Prop))(xs:L (DataW H×L MemPlace)),BW enc P W B n o Y Rs ->
  (∀(i:Nat)(O:Nat)(t:TypeId),Y[i]?=some (O,t)->DataW.trod enc P W 0 (λ_=>true) true n t ((cs.drop O).take (P.cellsOf t))=xs[i]?)->xs.length=Y.length->cs.length=lS P o Y ->
  ∃l,bT (mV W) l (cs.drop o)/\l.all CV.one=true/\BV Rs l ((xs.map λx=>B x.1).sum)
 |[],o,Rs,xs,J,hx,hl,A=>by simp only[BW]at J;subst J;simp only[lS]at A;exact⟨[],by simp[bT,A],c9,by simp[BV]⟩
 |(O,t)::Y,o,Rs,[],J,hx,hl,A=>by simp at hl
 |(O,t)::Y,o,Rs,x::xs,J,hx,hl,A=>by obtain⟨R,V,rfl,rfl,U,J⟩:=J;have M:=hx 0 O t c9;obtain⟨c,p,Q,T⟩:=U n (aal _) _ _ M;obtain⟨l,K,E,S⟩:=A8 Y _ V xs J (λi D C N=>by simpa using hx (i+1) D C (by simpa using N)) (by simpa using hl) A;refine⟨c.cells++l,?_,by rw[acT,Q,E];rfl,c,_,l,_,rfl,T,S,c9⟩;have:=fu p K;rwa[<- List.drop_drop,abK]at this
def RD.struct(Q:CA B){n:Nat}{t:TypeId}{U:Array Field}(O:P.underlying t=some (.struct U)){Y:L (Nat×TypeId)}(V:U.toList.map (λf=>(f.offset,f.type))=Y)
  {Rs:L (CV->Nat->Prop)}(J:∀m,m<=n->BW enc P W B m 0 Y Rs)(A:P.cellsOf t=lS P 0 Y) :
  RD enc P W B (n+1) t λc m=>∃l,c = .agg l/\∃S,BV Rs l S/\S+1<=m:=λT hf cs x N=>by
 obtain⟨xs,K,rfl,rfl,M,I,q⟩:=DataW.trod_struct O N;subst V
 obtain⟨l,H,G,D⟩:=A8 (cs:=cs) _ 0 Rs xs (J K bn) (λi C p E=>by
  simp at E;obtain⟨f,hf,A⟩:=E;obtain⟨rfl,rfl⟩:=A
  exact q i f (by simpa using hf)) (by simpa using I) (M.trans A)
 refine⟨.agg l,by simpa[CV.cells]using H,by simpa[CV.cells]using G,l,Z,_,D,?_⟩;have:=Q.agg (xs.map (·.1));rwa[List.map_map]at this
def XA(R:CV->Nat->Prop):Nat->L CV->Nat->Prop
 |0,l,_=>l=[]
 |n+1,l,m=>∃c k p S,l=c.cells++p/\R c k/\XA R n p S/\k+S<=m
def tC{R:CV->Nat->Prop}{t:TypeId}{v:Value}{d:DataW H}{p:L MemPlace}{T:Nat}{r:Reach}{S:Array Field}(E:P.underlying t=some (.struct S))(V:∀n,RD enc P W B n t R)
  (J:DataW.Trod enc P W 0 (λ_=>true) true t v d p)(hok:Value.okWide P W r T t v)(Q:∀c k,R c k->∃l,c = .agg l):∃c,Rel (mV W) c v/\R c (B d):=by
 obtain⟨Y,hf⟩:=J;obtain⟨c,h1,h2,U⟩:=V Y Y (aal _) _ _ hf;refine⟨c,?_,U⟩;obtain⟨l,rfl⟩:=Q _ _ U;obtain⟨cs,rfl,_⟩:=okWide_struct E hok;exact⟨_,Z,h1,h2⟩
def qq{R:CV->Nat->Prop}{t e:TypeId}{v:Value}{d:DataW H}{p:L MemPlace}{T:Nat}{r:Reach}(E:P.underlying t=some (.slice e))(V:∀n,RD enc P W B n t R)
  (J:DataW.Trod enc P W 0 (λ_=>true) true t v d p)(hok:Value.okWide P W r T t v)(S:∀c k,R c k->∃s l,c = .sl s l):∃c,Rel (mV W) c v/\R c (B d):=by
 obtain⟨Y,hf⟩:=J;obtain⟨c,h1,h2,U⟩:=V Y Y (aal _) _ _ hf;refine⟨c,?_,U⟩;obtain⟨s,l,rfl⟩:=S _ _ U;obtain⟨a,Q,O,rfl⟩:=okWide_slice E hok;simp only[CV.cells,Value.cells,bT]at h1;simp_all
def Xb(W:World):∀b o v,mV W b o=some v->W.cell? ⟨b,o,none⟩=some v:=λ_ _ _ h=>h
def He{w:World}{Y:Nat->Bool}:DataW.TrodVars enc P w Y [] [] []:=by simp[DataW.TrodVars]
def LY{f:Func}{s:ChangeSpec}{Y K V again:Bool}{Q:World}{G G':ja}{args:Array Value}{v:Value}{S gs:L (DataW H)}{before:L MemPlace}
  (A:DataW.Whole enc P f.params.toList s.vars Y W args.toList S gs before)(U:s.vars=[])
  (hl:laidOutB P=true)(hm:mapsRowed P=true)(hz:∀t e,t<P.types.size->P.underlying t=some (.slice e)->0<P.cellsOf e)(hT:∀t∈f.params.toList,t<P.types.size)
  (E:JP W G Q G'){tb:TypeId}(hr:f.resultTypes = #[tb])(hb:P.underlying tb=some .bool){b:Bool}(hv:v = .bool b)
  (D:s.fn H (S++gs)={results:=[.lit (.bool b)],args:=S}):s.post enc P f Y K V again W args v Q:=by
 subst hv;have J:=A.lt;have u:=A;obtain⟨p,q,hA,hV,rfl,hfz,hnd⟩:=A;rw[U]at hV;obtain⟨rfl,rfl⟩:=trodVars_none hV;simp only[aba]at *;have I:∀x∈p,W.sameAt Q x:=by
  intro x O;have:=E.block x.block (J x O);cases x with
  |cell C off=>simp only[World.sameAt,World.cell?];simp only[MemPlace.block]at this;rw[this]
  |map C=>exact this
 have T:∀N:Nat->Bool,(∀x∈p,N x.block=true)->DataW.TrodAll enc P Q 0 N true f.params.toList args.toList S p:=by
  intro N hsp;have h1:=DataW.TrodAll.respare (kids_rows hl hm) hz hT hA hsp;have:∀(ts:L TypeId)(vs:L Value)(S:L (DataW H))(B:L MemPlace),DataW.TrodAll enc P W 0 N true ts vs S B->(∀x∈B,W.sameAt Q x)->DataW.TrodAll enc P Q 0 N true ts vs S B:=by
   intro ts
   induction ts with
   |nil=>intro vs S B h _;obtain⟨rfl,rfl,rfl⟩:=trodAll_nil h;rfl
   |cons t ts ih =>
    intro vs S B h hs;obtain⟨v,vs',d,ds',p1,q1,rfl,rfl,rfl,⟨n,h2⟩,h3⟩:=trodAll_cons h;exact⟨p1,q1,⟨n,DataW.trod_carry n _ _ _ h2 λx O=>hs x (List.mem_append_left _ O)⟩,ih _ _ _ h3 λx O=>hs x (List.mem_append_right _ O),Z⟩
  exact this _ _ _ _ h1 I
 have M:∀(b0:Nat)(N:Nat->Bool)(hd:Bool),DataW.TrodAll enc P Q b0 N hd f.resultTypes.toList ((Value.bool b).resultList f.resultTypes.size) [.lit (.bool b)] []:=by intro b0 N hd;rw[hr];exact trodAll_mk1 (shut_bool hb b)
 have Zk:W.keptBut Q (· ∈ p):=by
  refine⟨E.os,E.output,λi hi=>?_⟩;rw[E.block i hi];cases W.heap[i]? with
  |none=>simp
  |some o=>cases o<;>simp
 refine⟨S,[],p,[],p,[],by simpa using u,by simp only[aba,D];exact M _ _ _,by simp only[aba,D];exact T _ λx O=>by simpa using J x O,
  by simp_all;rfl,World.keptBut_mono (λx O=>⟨O,.inr (.inl O)⟩) Zk,λ_=>?_⟩
 refine⟨ok_one hr Z (okWide_bool_mk hb b),_,_,([]++p)++[],⟨[]++p,[],trodAll_append (T _ (λ_ _=>rfl)) (M _ _ _),(by rw[U];exact He),Z,?_,?_⟩,?_⟩
 ·intro C off hp;have BF:MemPlace.cell C off∈p:=by simpa using hp
  rw[(E.kept C off (J _ BF)).2];exact hfz C off (by simpa using BF)
 simp_all;simp_all
end
end Go.cB
namespace Go.cB
section
variable {P : Program}{X : Ctx}{ops : Array Oper}{o : Oper}{rest : L Oper}{env : Env}{σ : St}{acc : L Fp}{Q : Env -> St -> L Fp -> Prop}
def ai.look(hX:cg P X)(kn:L Nat)(G:cP ops.toList kn env o=some true){d:Nat}(J:o.dst=some d){v:AV}(q:gN X σ.boxes (aH X env) o.op=some v)
  (A:lu (aH X env) o.op=[])(k:ai P X ops rest ((d,v)::env) σ (⟨[],[]⟩::acc) Q):ai P X ops (o::rest) env σ acc Q:=by
 have:=ai.step (Q:=Q) (rest:=rest) (acc:=acc) (cZ G) (bI.pure (σ:=σ) hX q) (gE.id _);rw[J,A]at this;exact this k
def ai.quo(hX:cg P X)(kn:L Nat)(G:cP ops.toList kn env o=some true){t W:TypeId}{x y:Operand}(Y:o.op = .binOp .quo t x y W){d:Nat}(J:o.dst=some d){i:TI}(E:X.ti t=some i)
  {q:IntKind}{a b:Int}(O:aH X env x=some (.c (.int q a)))(T:aH X env y=some (.c (.int q b)))(U:sameKind q q=true)(A:b≠0)
  (k:ai P X ops rest ((d,.c (.int q (q.wrap (a.tdiv b))))::env) σ (⟨[],[]⟩::acc) Q):ai P X ops (o::rest) env σ acc Q:=by
 refine ai.look hX kn G J ?_ ?_ k;rw[Y];simp only[gN,Sd,Sc];grind;rw[Y];rfl
def ai.rem(hX:cg P X)(kn:L Nat)(G:cP ops.toList kn env o=some true){t W:TypeId}{x y:Operand}(Y:o.op = .binOp .rem t x y W){d:Nat}(J:o.dst=some d){i:TI}(E:X.ti t=some i)
  {q:IntKind}{a b:Int}(O:aH X env x=some (.c (.int q a)))(T:aH X env y=some (.c (.int q b)))(U:sameKind q q=true)(A:b≠0)
  (k:ai P X ops rest ((d,.c (.int q (a.tmod b)))::env) σ (⟨[],[]⟩::acc) Q):ai P X ops (o::rest) env σ acc Q:=by
 refine ai.look hX kn G J ?_ ?_ k;rw[Y];simp only[gN,Sd,Sc];grind;rw[Y];rfl
end
end Go.cB
namespace Go.cB
def Rt:Char:=Char.ofNat 32
def UX(l:L Nat):L Char:=l.map Char.ofNat
def sX(b:L Char):∀(a:L Char),(a.all λc=>c != Rt)=true->wordsSigns (a++Rt::b)=a::wordsSigns b
 |[],_=>rfl
 |c::a,h=>by simp only[abQ,aak,adL]at h;have S:=sX b a h.2;rw[abh,wordsSigns];rw[S];exact h.1
def Ru{P:Program}{a b c:L Char}{d:L Char}(h:P.initOrder=String.ofList (a++Rt::(b++Rt::(c++Rt::d))))(W:(a.all λc=>c != Rt)=true)(A:(b.all λc=>c != Rt)=true)(D:(c.all λc=>c != Rt)=true)
  (Y:∀T,behindMainWord (a::b::T)=T):∃T,behindMainWord (wordsSigns P.initOrder.toList)=c::T:=by
 refine⟨wordsSigns d,?_⟩;rw[h,String.toList_ofList,sX _ _ W,sX _ _ A,sX _ _ D,Y]
def UY {P : Program} {c : L Char} (h : ∃ T, behindMainWord (wordsSigns P.initOrder.toList) = c :: T) (h1 : (c == "gc".toList || c == "spec".toList) = false) (h2 : (c == "cut".toList) = true) : P.make = some .cut := by
 obtain⟨T,h⟩:=h;unfold Program.make;simp_all
def JV{c:L Char}(T:L (L Char))(C:(liftWords.all λo=>c != o.toList)=true):stripLifts liftWords (c::T)=([],c::T):=by
 have P:∀(l:L String),(l.all λo=>c != o.toList)=true->stripLifts l (c::T)=([],c::T):=by
  intro l
  induction l with
  |nil=>intro _;rfl
  |cons o l S =>
   intro h;simp at h;simp only[stripLifts];simp_all
 exact P _ C
def Su {P : Program} {c : L Char} (h : ∃ T, behindMainWord (wordsSigns P.initOrder.toList) = c :: T) (hs : (liftWords.all fun o => c != o.toList) = true) (h2 : (c == "cut".toList) = true) : P.headLifts = [] := by
 obtain⟨T,h⟩:=h;have yA : c = "cut".toList := eq_of_beq h2;unfold Program.headLifts;rw[h,JV T hs];simp
def Rx {P : Program} {c : L Char} (h : ∃ T, behindMainWord (wordsSigns P.initOrder.toList) = c :: T) (hs : (liftWords.all fun o => c != o.toList) = true) (h2 : (c == "cut".toList) = true) (h3 : (c == "carried".toList) = false) : P.liftsFinal = false := by
 have h4:=Su h hs h2;obtain⟨T,h⟩:=h;unfold Program.liftsFinal;simp_all
def Ry {P : Program} {c : L Char} (h : ∃ T, behindMainWord (wordsSigns P.initOrder.toList) = c :: T) (hs : (liftWords.all fun o => c != o.toList) = true) (h2 : (c == "cut".toList) = true)
  (h5:P.laysLater=false) (h6:P.bearsReflect=false) (h7:P.doorFits []=true):P.mayEnter=true:=by
 obtain⟨T,h⟩:=h;have yA : c = "cut".toList := eq_of_beq h2;unfold Program.mayEnter;rw[h];simp only[JV T hs,h5,h6,h7];simp[yA]
def PC{P:Program}{f:FuncId}{Y:Func}{s:ChangeSpec}{c:OpenClaim}(q:c.wf (OpenSpec.ofChange s)=true)(B:laidOutB P=true)(A:mapsRowed P=true)
  (u:Y.params.all (P.readableRec ·)=true)(p:namedTie P c.named s.vars=true)
  (k6:(c.stops==[])=true)(k7:(P.stops==[])=true)(k8:(c.knobs==[])=true)(k9:(P.stopKnobs==[])=true)
  (T:(c.inPlace==P.inPlace f)=true)(S:(c.unfollowed==P.unfollowed f)=true)(Q:(c.recurses==P.recurses f)=true)(O:(c.named==P.varsNamed f)=true)
  (W:((c.maps==(Y.params.toList++s.plain.varTypes P).any (P.mapsRec ·))&&(c.ifaces==(Y.params.toList++s.plain.varTypes P).any (P.ifacesRec ·))&&(c.mapsOut==P.mapsAmong Y.resultTypes.toList))=true)
  (V:((c.loops==(Y.params.toList++s.plain.varTypes P).any (P.loopsFrom ·))&&(c.wideKeys==(Y.params.toList++s.plain.varTypes P++Y.resultTypes.toList).any (P.wideKeysFrom ·)))=true)
  (U:(s.vars.all (P.varReadable ·)&&Y.resultTypes.all (λt=>P.readableRec t&&decide (t<P.types.size))&&(c.ifacesOut==Y.resultTypes.toList.any (P.ifacesRec ·))&&(c.loopsOut==Y.resultTypes.toList.any (P.loopsFrom ·)))=true)
  (N:(c.plainKeys==P.plainKeys)=true)(M:c.shortTexts.isNone=true)(K:P.stopsHeard=true)(J:P.mayEnter=true)(I:(c.lifted==P.liftsFinal)=true)(H:(P.make==some c.make)=true)
  (G:(c.kinds==(if c.domain.isEmpty then []else Y.params.toList.map λt=>match P.underlying t with|some (.int k)=>some k|_=>none))=true)(E:(c.pinned==c.pinnedBy)=true)
  (D:(c.veiled==(Y.params.toList++s.plain.varTypes P++Y.resultTypes.toList).any (P.veiledRec ·))=true)(C:c.veiledFits P Y.params.toList (Y.params.toList++s.plain.varTypes P++Y.resultTypes.toList)=true) :
  joinedFacts P f Y s c=true:=by
 simp only[aak]at W V U;unfold joinedFacts;simp only[aak];exact⟨⟨⟨⟨⟨⟨⟨⟨⟨⟨⟨⟨⟨⟨⟨⟨⟨⟨⟨⟨⟨⟨⟨⟨⟨⟨⟨⟨⟨⟨⟨q,B⟩,A⟩,u⟩,p⟩,k6⟩,k7⟩,k8⟩,k9⟩,T⟩,S⟩,Q⟩,O⟩,W.1.1⟩,W.1.2⟩,W.2⟩,V.1⟩,V.2⟩,U.1.1.1⟩,U.1.1.2⟩,U.1.2⟩,U.2⟩,N⟩,M⟩,K⟩,J⟩,I⟩,H⟩,G⟩,E⟩,D⟩,C⟩
end Go.cB
