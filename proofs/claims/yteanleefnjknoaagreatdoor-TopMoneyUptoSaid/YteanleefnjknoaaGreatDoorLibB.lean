/- A layer of abstract values over the model, part B: -/
import Derived.Test.YteanleefnjknoaaGreatDoorLibA
import Derived.RowKit
import Derived.ReadAgain
import Derived.JoinedOf
set_option linter.defProp false
set_option linter.unusedSimpArgs false
set_option linter.unusedVariables false
namespace Go.cK
def uT{ops:Array Oper}{Y:L Fp}(h:qI ops Y=true){i:Nat}{o:Oper}(p:ops[i]?=some o):∀e∈oR o,e<i:=by
 have K:i<ops.size:=by grind
 simp only[qI,afn,ahg,aai]at h;intro e S;have:=(h i K).1 e (by simpa[p]using S);simpa[afj]using this
def MP{ops:Array Oper}{Y:L Fp}(h:qI ops Y=true){i j:Nat}(K:i<ops.size)(W:j<i) :
  ((Wj ops).getD i 0).testBit j=true\/indep ops j i (Y.getD j ⟨[],[]⟩) (Y.getD i ⟨[],[]⟩)=true:=by
 simp only[qI,afn,ahg,aai,aaA]at h;exact(h i K).2 j W
def Is{ops:Array Oper}{i j:Nat}{o:Oper}(p:ops[i]?=some o)(h:((Wj ops).getD i 0).testBit j=true) :
  ∃e∈oR o,e=j\/((Wj ops).getD e 0).testBit j=true:=by
 have K:i<ops.size:=by grind
 obtain⟨e,h1,h2⟩:=Fu (ops.toList.map oR) [] i cS (by simpa using K) j h;refine⟨e,?_,h2⟩;simp only[aad,ahp,List.getD,List.getElem?_map,agZ,p]at h1;simpa using h1
def MQ{ops:Array Oper}{Q:L Fp}(O:qI ops Q=true){Y:Array Bool}
  (P:∀i o,Y.getD i false=true->ops[i]?=some o->∀e∈oR o,Y.getD e false=true) :
  ∀(n i:Nat),i<=n->∀o,ops[i]?=some o->(∀e∈oR o,Y.getD e false=true)->∀j,((Wj ops).getD i 0).testBit j=true->Y.getD j false=true:=by
 intro n
 induction n with
 |zero =>
  intro i K o p S j V;obtain⟨e,h1,h2⟩:=Is p V;have:=uT O p e h1;omega
 |succ n N =>
  intro i K o p S j V;obtain⟨e,h1,h2⟩:=Is p V;rcases h2 with rfl|h2
  ·exact S _ h1
  ·have C:=uT O p e h1;have U:=S e h1;cases W:ops[e]? with
   |none =>
    have K:i<ops.size:=by grind
    rw[Array.getElem?_eq_none_iff]at W;omega
   |some T=>exact N e bn T W (P e T U W) j h2
def B1{ops:Array Oper}{Y:Array Bool}{i:Nat}:i∈Region.ready .any ops Y ↔
  i<ops.size/\Y.getD i true=false/\∃o,ops[i]?=some o/\∀e∈oR o,Y.getD e false=true:=by
 unfold Region.ready;simp only[List.mem_filter,ahg,aai,agn];constructor
 ·rintro⟨h1,h2,V⟩;refine⟨h1,h2,?_⟩;cases p:ops[i]? with
  |none=>rw[p]at V;simp at V
  |some o =>
   refine⟨o,Z,?_⟩;rw[p]at V;simp only[agC,agu,Array.all_eq_true']at V;intro e S;simp only[oR,List.mem_filterMap]at S;obtain⟨W,T,K⟩:=S;split at K
   ·grind
   ·simp at K
 ·rintro⟨h1,h2,o,p,V⟩;refine⟨h1,h2,?_⟩;rw[p];simp only[agC,agu,Array.all_eq_true'];intro W U;by_cases Q:Region.binds .any W
  ·have:=V W.on (List.mem_filterMap.2 ⟨W,by simpa using U,by simp[Q]⟩);simp[this]
  ·simp[Q]
def vM.any{P:Program}{X:Ctx}{β:jZ}{n:Nat}{ops:Array Oper}(hd:sM ops n=true){G4:L Fp}(hok:qI ops G4=true){Q:Exit->Act->World->Prop} :
  ∀(r:L (Nat×It))(listed:Array Bool),listed.size=ops.size ->
   (∀i,i∈r.map (·.1)↔i<ops.size/\listed.getD i true=false)->(r.map (·.1)).Pairwise (· < ·) ->
   (∀x∈r,x.2.fp=G4.getD x.1 ⟨[],[]⟩) ->
   (∀i o,listed.getD i false=true->ops[i]?=some o->∀e∈oR o,listed.getD e false=true) ->
   ∀{env env':Env}{σ σ':St},vM P X ops r env σ env' σ'->∀{g:Gh}{w:World}{a:Act},Live X β n env σ g w a ->
   (∀g' w' a',Live X β n env' σ' g' w' a'->Q .normal a' w')->wpAny P .any ops Q r.length listed a w:=by
 intro r
 generalize hlen:r.length=len
 induction len generalizing r with
 |zero =>
  intro listed hsz hmem vD hfp kZ env env' σ σ' hO g w a hL hQ
  have:r=[]:=afR hlen
  subst this
  obtain⟨rfl,rfl⟩:=hO
  refine⟨?_,hQ g w a hL⟩
  apply List.eq_nil_iff_forall_not_mem.2
  intro i hi
  obtain⟨h1,h2,_⟩:=B1.1 hi
  have:=(hmem i).2 ⟨h1,h2⟩
  simp at this
 |succ len ih =>
  intro listed hsz hmem vD hfp kZ env env' σ σ' hO g w a hL hQ
  refine⟨λabk=>?_,λi hi=>?_⟩
  ·exfalso
   cases r with
   |nil=>simp at hlen
   |cons x r =>
    obtain⟨i,it⟩:=x
    have hm:=(hmem i).1 cS
    have ho:∃o,ops[i]?=some o:=⟨ops[i]'hm.1,by simp[hm.1]⟩
    obtain⟨o,ho⟩:=ho
    have:i∈Region.ready .any ops listed:=by
     refine B1.2 ⟨hm.1,hm.2,o,ho,λe he=>?_⟩
     have hlt:=uT hok ho e he
     cases hle:listed.getD e true with
     |true =>
      have:e<listed.size:=by omega
      simpa[Array.getD,this]using hle
     |false =>
      have:=(hmem e).2 ⟨bn,hle⟩
      simp only[aed,aeB]at this
      rcases this with h|h
      ·omega
      ·simp only[aed,aho]at vD
       have:=vD.1 e h
       omega
    rw[abk]at this
    simp at this
  ·obtain⟨h1,h2,o,ho,h3⟩:=B1.1 hi
   have hm:=(hmem i).2 ⟨h1,h2⟩
   obtain⟨⟨i',it⟩,hx,rfl⟩:=List.mem_map.1 hm
   simp only at *
   obtain⟨p,q,rfl⟩:=List.append_of_mem hx
   have hidx:∀x∈p,x.1<i':=by
    intro x hxp
    simp only[aeC,aed,ahf]at vD
    exact vD.2.2 x.1 (List.mem_map_of_mem hxp) i' cS
   have afU:∀x∈p,indep ops x.1 i' x.2.fp it.fp=true:=by
    intro x hxp
    have hlt:=hidx x hxp
    rcases MP hok h1 hlt with hb|hb
    ·exfalso
     have:=MQ hok kZ i' i' (aaj _) o ho h3 x.1 hb
     have hm2:=(hmem x.1).1 (by simp;exact .inl ⟨x.2,hxp⟩)
     have afV:x.1<listed.size:=by omega
     simp[Array.getD,afV]at this hm2
     rw[this]at hm2;simp at hm2
    ·rw[hfp x (by simp[hxp]),hfp (i',it) cS];exact hb
   obtain⟨e1,s1,e2,s2,g1,g2,g3⟩:=vM.front afU hO
   refine g1.wp hd hL λg' w' a' hL'=>?_
   have ado:∀k,(listed.setIfInBounds i' true).getD k true=if k=i' then true else listed.getD k true:=by
    intro k
    simp only[aeW,agz]
    by_cases hk:i'=k
    ·subst hk;simp[hsz,h1]
    ·rw[if_neg hk,if_neg (λe=>hk e.symm)]
   have abl:∀k,(listed.setIfInBounds i' true).getD k false=if k=i' then true else listed.getD k false:=by
    intro k
    simp only[aeW,agz]
    by_cases hk:i'=k
    ·subst hk;simp[hsz,h1]
    ·rw[if_neg hk,if_neg (λe=>hk e.symm)]
   have hnd:i' ∉ (p++q).map (·.1):=by
    intro h
    simp only[aeC,adT]at h
    simp only[aeC,aed,ahf,aho]at vD
    rcases h with h|h
    ·have:=vD.2.2 i' h i' cS;omega
    ·have:=vD.2.1.1 i' h;omega
   refine ih (p++q) (by simp at hlen ⊢;omega) _ (by simpa using hsz) ?_ ?_ ?_ ?_ g2 hL' ?_
   ·intro k
    rw[ado]
    have hk:=hmem k
    simp only[aeC,aed,adT,aeB]at hk ⊢
    by_cases hki:k=i'
    ·subst hki
     simp only[aeC,adT]at hnd
     exact⟨λh=>absurd h hnd,λh=>by simp at h⟩
    ·simp only[hki,false_or,aft]at hk ⊢
     exact hk
   ·simp only[aeC,aed,ahf,aho]at vD ⊢
    exact⟨vD.1,vD.2.1.2,λa ha b hb=>vD.2.2 a ha b (by simp[hb])⟩
   ·intro x Re
    exact hfp x (by simp at Re ⊢;rcases Re with h|h<;>simp[h])
   ·intro k ok pK hk2 e he
    rw[abl]at pK ⊢
    by_cases UG:e=i'
    ·simp[UG]
    ·rw[if_neg UG]
     by_cases hki:k=i'
     ·subst hki
      rw[ho]at hk2;simp at hk2;subst hk2
      exact h3 e he
     ·rw[if_neg hki]at pK
      exact kZ k ok pK hk2 e he
   ·intro zG w'' a'' afW
    exact hQ zG w'' a'' (afW.ext ⟨λt=>(g3.1 t).symm,λk=>(g3.2 k).symm⟩)
def mL(ρ:Operand->Option AV):Op->L Nat
 |.load _ x=>match ρ x with
  |some (.ptr k _)=>[k]
  |_=>[]
 |_=>[]
def wT{X:Ctx}{ρ Y:Operand->Option AV}(Q:L (Nat×Nat)):∀(S:L (Nat×Operand))(cells:L AV),(∀p∈S,Y p.2=ρ p.2) ->
  rW X Y Q S cells=rW X ρ Q S cells
 |[],_,_=>rfl
 |(i,x)::rest,cells,h=>by
  simp only[rW,h (i,x) cS];have V:=λc=>wT (X:=X) Q rest c (λp W=>h p (by simp[W]));split
  ·simp_all
  ·rfl
def kH{ρ J3:Operand->Option AV}:∀(l:L Operand),(∀x∈l,J3 x=ρ x)->gO J3 l=gO ρ l
 |[],_=>rfl
 |x::l,h=>by
  simp only[gO,h x cS,kH l (λy hy=>h y (by simp[hy]))]
def lN{ρ Y:Operand->Option AV}(o:Option Operand)(h:∀x,o=some x->Y x=ρ x):bound Y o=bound ρ o:=by
 cases o with
 |none=>rfl
 |some x=>simp only[bound,h x rfl]
def MS{X:Ctx}{boxes Wm:L (Nat×L AV)}{ρ J3:Operand->Option AV}{op:Op}(h:∀x∈op.operands.toList,J3 x=ρ x)
  (hb:∀k∈mL ρ op,an k Wm=an k boxes):gy X Wm J3 op=gy X boxes ρ op:=by
 cases op with
 |move x=>exact h x gM
 |assign x=>exact h x gM
 |pick c a b=>simp only[gy,h c gM,h a gM,h b gM]
 |load t x =>
  have hx:=h x gM
  simp only[gy,hx]
  simp only[mL]at hb
  cases X.ti t with
  |none=>rfl
  |some i =>
   cases hr:ρ x with
   |none=>rfl
   |some a =>
    rw[hr]at hb
    cases a with
    |ptr k o=>simp only[hb k cS]
    |c v=>cases v<;>rfl
    |_=>rfl
 |nilCheck x=>simp only[gy,h x gM]
 |binOp op t x y yt=>simp only[gy,h x gM,h y gM]
 |unOp op t x=>simp only[gy,h x gM]
 |convert s d x=>simp only[gy,h x gM]
 |fieldAddr t x f=>simp only[gy,h x gM]
 |field t x f=>simp only[gy,h x gM]
 |indexAddr t x i=>simp only[gy,h x gM,h i gM]
 |index t x i=>simp only[gy,h x gM,h i gM]
 |extract x n=>simp only[gy,h x gM]
 |build t parts =>
  have:=λfs z=>wT (X:=X) fs parts.toList z (λp hp=>h p.2 (by
   simp only[Op.operands,ahD];exact⟨p,hp,Z⟩))
  simp only[gy,this]
 |slice t x lo hi mx =>
  have h1:=lN lo (λy hy=>h y acp)
  have h2:=lN hi (λy hy=>h y acp)
  have h3:=lN mx (λy hy=>h y acp)
  simp only[gy,h x gM,h1,h2,h3]
 |makeFunc fn first caps =>
  cases fn with
  |func f =>
   have:=kH caps.toList (λy hy=>h y (by simp only[Op.operands,aeP,adT];exact .inr hy))
   simp only[gy,this]
  |_=>rfl
 |call c =>
  obtain⟨callee,args,argTypes⟩:=c
  cases callee with
  |builtin b =>
   have hargs:∀x∈args.toList,J3 x=ρ x:=λx hx=>h x (by simpa[Op.operands,Call.operands]using hx)
   have hmap:args.toList.map J3=args.toList.map ρ:=List.map_congr_left hargs
   cases b with
   |len =>
    simp only[gy]
    cases hl:args.toList with
    |nil=>rfl
    |cons x l =>
     rw[hl]at hargs
     have:=hargs x cS
     cases l with
     |cons y l=>rfl
     |nil =>
      cases argTypes.toList with
      |nil=>rfl
      |cons t l' =>
       cases l' with
       |nil=>simp only[this]
       |cons _ _=>rfl
   |min=>simp only[gy,hmap]
   |max=>simp only[gy,hmap]
   |_=>rfl
  |_=>rfl
 |_=>rfl
def bU.pure{P:Program}{X:Ctx}(hX:cF P X){o:Oper}{env:Env}{σ:St}{v:AV}(h:gy X σ.boxes (aK X env) o.op=some v) :
  bU P X o env σ v (λσ=>σ) ⟨mL (aK X env) o.op,[]⟩:=by
 intro W Y w g a next Q h1 h2 N M q S;have C:gy X Y.boxes (aK X W) o.op=some v:=by
  rw[MS h1 (λk D=>(h2 k (.inl D)).1)];exact h
 obtain⟨u,V,J⟩:=MN (P:=P) (w:=w) (g:=g) hX N.pQ (λk cs e=>by
  obtain⟨b,B,_,_,U⟩:=N.box k cs e;exact⟨b,B,U⟩) (ev:=a.eval) (λx v O=>cy q M O) C
 unfold Oper.wp;rw[V,Oper.upon_value];exact S u w g J N (iK.refl _ _ _) (Gh.le.refl _)
def af(P:Program)(X:Ctx)(ops:Array Oper)(rest:L Oper)(env:Env)(σ:St)(acc:L Fp)(Q:Env->St->L Fp->Prop):Prop :=
 ∀i,ops.toList.drop i=rest->∃(Y:L It) (env':Env) (O:St),Y.length=rest.length/\vM P X ops ((List.range' i rest.length).zip Y) env σ env' O /\
  Q env' O (acc.reverse++Y.map It.fp)
section
variable {P : Program}{X : Ctx}{ops : Array Oper}{i : Nat}{o : Oper}{rest : L Oper}{env : Env}{σ : St}{acc : L Fp}{Q : Env -> St -> L Fp -> Prop}
def af.nil(h:Q env σ acc.reverse):af P X ops [] env σ acc Q :=
 λ_ _=>⟨[],env,σ,Z,⟨Z,Z⟩,oy⟩
def Iu{ops:Array Oper}(h:ops.toList.drop i=o::rest):ops[i]?=some o/\ops.toList.drop (i+1)=rest:=by
 constructor
 ·have:=B0 h;simpa using this
 ·have:=aeb List.tail h;simpa[List.tail_drop]using this
def af.step{v:AV}{Ah:St->St}{fp:Fp}(hg:r9 ops o env)(hs:bU P X o env σ v Ah fp)(hE:iA Ah fp)
  (k:af P X ops rest (AT o.dst v env) (Ah σ) (fp::acc) Q):af P X ops (o::rest) env σ acc Q:=by
 intro i h
 obtain⟨ho,hr⟩:=Iu h
 obtain⟨Tw,env',σ',h1,h2,h3⟩:=k (i+1) hr
 refine⟨⟨true,v,Ah,fp⟩::Tw,env',σ',abu,?_,by simpa using h3⟩
 simp only[aac,List.range'_succ,List.zip_cons_cons]
 exact⟨_,_,⟨o,ho,Z,Z,hE,.inr ⟨Z,hg,hs⟩⟩,h2⟩
def af.skip(hg:qS ops o env)(k:af P X ops rest (AT o.dst (.c .undef) env) σ (⟨[],[]⟩::acc) Q):af P X ops (o::rest) env σ acc Q:=by
 intro i h
 obtain⟨ho,hr⟩:=Iu h
 obtain⟨Tw,env',σ',h1,h2,h3⟩:=k (i+1) hr
 refine⟨It.skip::Tw,env',σ',abu,?_,by simpa[It.skip]using h3⟩
 simp only[aac,List.range'_succ,List.zip_cons_cons]
 exact⟨_,_,⟨o,ho,Z,Z,iA.id _,.inl ⟨Z,hg⟩⟩,h2⟩
def simple:Op->Bool
 |.indexAddr _ _ _=>false
 |.index _ _ _=>false
 |.slice _ _ _ _ _=>false
 |.binOp .quo _ _ (.tmp _) _=>false
 |.binOp .rem _ _ (.tmp _) _=>false
 |.binOp .shl _ _ (.tmp _) _=>false
 |.binOp .shr _ _ (.tmp _) _=>false
 |_=>true
def mem(k:Nat):L Nat->Bool
 |[]=>false
 |x::l=>match Nat.beq x k with
  |true=>true
  |false=>mem k l
def dj(N:L Oper)(kn:L Nat)(env:Env)(o:Oper):Option Bool :=
 match o.guard with
 |none=>some true
 |some (j,Y)=>match mem j kn with
  |false=>none
  |true=>match nth N j with
   |none=>none
   |some W=>match W.dst with
    |none=>none
    |some d=>match an d env with
     |some (.c (.bool b))=>match Y with
      |true=>some b
      |false=>some (!b)
     |some (.c .undef)=>some false
     |_=>none
def afX(ks:L Nat)(acc:L Fp):L Fp:=match ks with
 |[]=>⟨[],[]⟩::acc
 |k::l=>⟨k::l,[]⟩::acc
inductive abm where
 |at(rest:List Oper) (env:Env) (acc:List Fp)
 |stuck
def wU(X:Ctx)(N:L Oper)(Y:L (Nat×L AV))(kn:L Nat):Nat->L Oper->Env->L Fp->abm
 |0,rest,env,acc => .at rest env acc
 |_+1,[],env,acc => .at [] env acc
 |n+1,o::rest,env,acc=>match simple o.op with
  |false => .at (o::rest) env acc
  |true=>match dj N kn env o with
   |none => .at (o::rest) env acc
   |some false=>match o.dst with
    |some d=>wU X N Y kn n rest ((d,.c .undef)::env) (⟨[],[]⟩::acc)
    |none=>wU X N Y kn n rest env (⟨[],[]⟩::acc)
   |some true=>match gy X Y (aK X env) o.op with
    |none => .at (o::rest) env acc
    |some v=>match o.dst,mL (aK X env) o.op with
     |some d,[]=>wU X N Y kn n rest ((d,v)::env) (⟨[],[]⟩::acc)
     |some d,k::l=>wU X N Y kn n rest ((d,v)::env) (⟨k::l,[]⟩::acc)
     |none,ks=>wU X N Y kn n rest env (⟨ks,[]⟩::acc)
def tT{kn:L Nat}{b:Bool}(h:dj ops.toList kn env o=some b):if b then r9 ops o env else qS ops o env:=by
 unfold dj at h;unfold r9 qS;split at h
 ·simp_all
 ·rename_i j W G;simp only[G];split at h
  ·simp at h
  ·split at h
   ·simp at h
   ·rename_i V Y;split at h
    ·simp at h
    ·rename_i d O;have U:qR ops j=some d:=by
      rw[sO]at Y;simp only[qR];rw[<- agZ,Y];simp[O]
     split at h
     ·grind
     ·simp_all
     ·simp at h
def af.run(hX:cF P X)(n:Nat)(kn:L Nat):∀{rest:L Oper}{env:Env}{acc:L Fp}{Y:L Oper}{env':Env}{W:L Fp},
  wU X ops.toList σ.boxes kn n rest env acc = .at Y env' W->af P X ops Y env' σ W Q->af P X ops rest env σ acc Q:=by
 induction n with
 |zero=>intro rest env acc Y env' W h k;simp[wU]at h;obtain⟨rfl,rfl,rfl⟩:=h;exact k
 |succ n V =>
  intro rest env acc Y env' W h k;cases rest with
  |nil=>simp[wU]at h;obtain⟨rfl,rfl,rfl⟩:=h;exact k
  |cons o rest =>
   have stop:abm.at (o::rest) env acc = .at Y env' W->af P X ops (o::rest) env σ acc Q:=by simp_all
   simp only[wU]at h;split at h
   ·exact stop h
   ·split at h
    ·exact stop h
    ·rename_i G;have:=tT G;simp at this;split at h
     ·rename_i d O;refine af.skip this ?_;rw[O];exact V h k
     ·rename_i O;refine af.skip this ?_;rw[O];exact V h k
    ·rename_i G;have:=tT G;simp at this;split at h
     ·exact stop h
     ·rename_i v M;have p:af P X ops rest (AT o.dst v env) σ (⟨mL (aK X env) o.op,[]⟩::acc) Q->af P X ops (o::rest) env σ acc Q :=
       af.step this (bU.pure hX M) (iA.id _)
      split at h
      ·rename_i d O D;rw[O,D]at p;exact p (V h k)
      ·rename_i d k' l O D;rw[O,D]at p;exact p (V h k)
      ·rename_i O;rw[O]at p;exact p (V h k)
def H7(X:Ctx)(N:L Oper)(Y:L (Nat×L AV))(kn:L Nat)(n:Nat)(rest:L Oper)(env:Env)(acc:L Fp):abm :=
 match rest with
 |[] => .stuck
 |o::rest=>match dj N kn env o with
  |none => .stuck
  |some false=>match o.dst with
   |some d=>wU X N Y kn n rest ((d,.c .undef)::env) (⟨[],[]⟩::acc)
   |none=>wU X N Y kn n rest env (⟨[],[]⟩::acc)
  |some true=>match gy X Y (aK X env) o.op with
   |none => .stuck
   |some v=>match o.dst,mL (aK X env) o.op with
    |some d,[]=>wU X N Y kn n rest ((d,v)::env) (⟨[],[]⟩::acc)
    |some d,k::l=>wU X N Y kn n rest ((d,v)::env) (⟨k::l,[]⟩::acc)
    |none,ks=>wU X N Y kn n rest env (⟨ks,[]⟩::acc)
def af.OO(hX:cF P X)(n:Nat)(kn:L Nat){env:Env}{acc:L Fp}{Y:L Oper}{env':Env}{W:L Fp}
  (h:H7 X ops.toList σ.boxes kn n rest env acc = .at Y env' W)(k:af P X ops Y env' σ W Q):af P X ops rest env σ acc Q:=by
 unfold H7 at h;split at h
 ·simp at h
 ·rename_i o rest;split at h
  ·simp at h
  ·rename_i G;have:=tT G;simp at this;refine af.skip this ?_;split at h<;>rename_i O<;>rw[O]<;>exact af.run hX n kn h k
  ·rename_i G;have:=tT G;simp at this;split at h
   ·simp at h
   ·rename_i v M;have p:af P X ops rest (AT o.dst v env) σ (⟨mL (aK X env) o.op,[]⟩::acc) Q->af P X ops (o::rest) env σ acc Q :=
     af.step this (bU.pure hX M) (iA.id _)
    split at h
    ·rename_i d O D;rw[O,D]at p;exact p (af.run hX n kn h k)
    ·rename_i d k' l O D;rw[O,D]at p;exact p (af.run hX n kn h k)
    ·rename_i O;rw[O]at p;exact p (af.run hX n kn h k)
def J4(Y:Option Nat):L Oper->Nat
 |[]=>1
 |o::rest=>match o.guard with
  |none=>J4 Y rest+1
  |some (j,_)=>match Y with
   |some W=>match Nat.beq j W with
    |true=>J4 Y rest+1
    |false=>0
   |none=>0
def Rx:L Oper->Nat
 |[]=>0
 |o::rest=>match o.guard with
  |none=>J4 none rest
  |some (j,_)=>J4 (some j) rest
def af.afA(hX:cF P X)(kn:L Nat){rest:L Oper}{env:Env}{acc:L Fp}{Y:L Oper}{env':Env}{W:L Fp}
  (h:H7 X ops.toList σ.boxes kn (Rx rest) rest env acc = .at Y env' W)(k:af P X ops Y env' σ W Q):af P X ops rest env σ acc Q:=af.OO hX _ kn h k
def af.split{j d:Nat}{Y b:Bool}(G:o.guard=some (j,Y))(W:qR ops j=some d)(V:an d env=some (.c (.bool b)))
  (h1:b=true->af P X ops (o::rest) env σ acc Q)(h2:b=false->af P X ops (o::rest) env σ acc Q):af P X ops (o::rest) env σ acc Q:=by grind
end
end Go.cK
namespace Go.cK
def top(f:FuncId):Frame:={(default:Frame)with fn:=f,kind := .normal}
def AK(P:Program)(X:Ctx)(f:FuncId)(n:Nat)(β:jZ)(R:Ending->World->Prop)(K:L Item)(env:Env)(σ:St):Prop :=
 ∀(g:Gh)(w:World)(a:Act)(cs:L Frame),Live X β n env σ g w a ->
  ∃e w' H,R e w'/\Comes P (lone ((top f).at a K) cs w) (lone H cs w') e/\H.fn=f/\H.leaving P w' e
section
variable {P : Program}{X : Ctx}{f : FuncId}{n : Nat}{β : jZ}{R : Ending -> World -> Prop}{K : L Item}{env : Env}{σ : St}
def AK.go{Q:L Item}(Y:∀(a:Act)(cs:L Frame)(w:World),Steps P (lone ((top f).at a K) cs w) (lone ((top f).at a Q) cs w))(h:AK P X f n β R Q env σ):AK P X f n β R K env σ :=
 λg w a cs W=>let ⟨e,w',H,h1,h2,V,S⟩:=h g w a cs W;⟨e,w',H,h1,h2.of_steps (Y a cs w),V,S⟩
def AK.seq{x y:Code}(h:AK P X f n β R (.code x :: .code y::K) env σ):AK P X f n β R (.code (.seq x y)::K) env σ :=
 AK.go (λ_ _ _ => .one step_seq) h
def AK.skip(h:AK P X f n β R K env σ):AK P X f n β R (.code .skip::K) env σ :=
 AK.go (λ_ _ _ => .one step_skip) h
def AK.block{id:Nat}{c:Code}(h:AK P X f n β R (.code c :: .inBlock id::K) env σ):AK P X f n β R (.code (.block id c)::K) env σ :=
 AK.go (λ_ _ _ => .one step_block) h
def AK.inBlock{id:Nat}(h:AK P X f n β R K env σ):AK P X f n β R (.inBlock id::K) env σ :=
 AK.go (λ_ _ _ => .one step_inBlock) h
def AK.loop{c:Code}(h:AK P X f n β R (.code c :: .inLoop c::K) env σ):AK P X f n β R (.code (.loop c)::K) env σ :=
 AK.go (λ_ _ _ => .one step_loop) h
def AK.inLoop{c:Code}(h:AK P X f n β R (.code c :: .inLoop c::K) env σ):AK P X f n β R (.inLoop c::K) env σ :=
 AK.go (λ_ _ _ => .one step_inLoop) h
def AK.exit{id:Nat}{Q:L Item}(e:exitTo id K=some Q)(h:AK P X f n β R Q env σ):AK P X f n β R (.code (.exit id)::K) env σ :=
 AK.go (λ_ _ _ => .one (step_exit e)) h
def AK.cond{c:Operand}{x y:Code}{b:Bool}(A:aK X env c=some (.c (.bool b)))(h:AK P X f n β R (.code (if b then x else y)::K) env σ) :
  AK P X f n β R (.code (.cond c x y)::K) env σ:=by
 intro g w a cs Y;obtain⟨e,w',H,h1,h2,V,S⟩:=h g w a cs Y;have:=cy Y.env Y.tO A;simp only[aL,Rel]at this;exact⟨e,w',H,h1,h2.of_steps (.one (step_cond this)),V,S⟩
def AK.Z6{c:Operand}{x y:Code}(hc:aK X env c=some (.c (.bool true)))(h:AK P X f n β R (.code x::K) env σ) :
  AK P X f n β R (.code (.cond c x y)::K) env σ:=AK.cond hc oy
def AK.Z7{c:Operand}{x y:Code}(hc:aK X env c=some (.c (.bool false)))(h:AK P X f n β R (.code y::K) env σ) :
  AK P X f n β R (.code (.cond c x y)::K) env σ:=AK.cond hc oy
def AK.CH{c:Operand}{x y:Code}{b:Bool}(A:aK X env c=some (.c (.bool b)))(h1:b=true->AK P X f n β R (.code x::K) env σ)
  (h2:b=false->AK P X f n β R (.code y::K) env σ):AK P X f n β R (.code (.cond c x y)::K) env σ:=by
 cases b
 ·exact AK.Z7 A (h2 Z)
 ·exact AK.Z6 A (h1 Z)
def AK.region(hm:P.follows .mixedOrders=true){id:Nat}{ops:Array Oper}{draw:Bool}(hd:sM ops n=true)
  (h:af P X ops ops.toList env σ [] (λenv' σ' G4=>(draw=true->qI ops G4=true)/\AK P X f n β R K env' σ')) :
  AK P X f n β R (.code (.region id ops draw)::K) env σ:=by
 obtain⟨Tw,env',σ',hlen,adp,Lh,hK⟩:=h 0 cS
 intro g w a cs hL
 have hlen':Tw.length=ops.size:=by simpa using hlen
 rw[List.reverse_nil,aeU]at Lh
 have hmap:(((List.range' 0 ops.toList.length).zip Tw).map (·.1))=List.range ops.size:=by
  rw[List.map_fst_zip (by simp[hlen'])];simp[List.range_eq_range']
 have hwp:(Code.region id ops draw).wp P (λe a' w'=>e = .normal/\∃g',Live X β n env' σ' g' w' a') a w:=by
  cases draw with
  |false =>
   apply wp_region
   rw[<- hmap]
   exact vM.wp hd adp hL λg' w' a' hL'=>⟨Z,g',hL'⟩
  |true =>
   apply wp_region_any hm
   have hL2:Live X β n env σ g {w with drawn:=w.drawn+1} a :=
    ⟨⟨hL.inv.pQ,λk cs e=>by
      obtain⟨b,b1,b2,b3,b4⟩:=hL.inv.box k cs e
      exact⟨b,b1,b2,b3,cB.of_same (w:=w) (w':={w with drawn:=w.drawn+1}) (λo=>⟨rfl,rfl⟩) b4⟩,
     hL.inv.gk,hL.inv.tok,hL.inv.iu,hL.inv.used,hL.inv.room⟩,hL.tO,hL.env,
     hL.frame.trans ⟨Z,Z,Z,aaj _,λ_ _ _=>rfl,λ_ _ _ _=>⟨Z,Z⟩,j8.le.refl _,λ_ _ _ h => .inl h,λk cs b h1 h2 => .inr ⟨k,cs,h1,h2⟩,
      λk n b lo hi h1 h2 => .inr ⟨k,n,lo,hi,h1,h2,aaj _,aaj _⟩,λ_ _ h=>⟨h,Z,Z⟩⟩,hL.size,hL.defers⟩
   have hl:((List.range' 0 ops.toList.length).zip Tw).length=ops.size:=by simp[hlen']
   have adq:=vM.any hd (Lh Z) ((List.range' 0 ops.toList.length).zip Tw) (Array.replicate ops.size false) cS ?_ ?_ ?_ ?_ adp hL2
    (Q:=λe a' w'=>e = .normal/\∃g',Live X β n env' σ' g' w' a') λg' w' a' hL'=>⟨Z,g',hL'⟩
   ·rw[hl]at adq;exact adq
   ·intro i
    rw[hmap]
    simp only[ahg]
    constructor
    ·intro hi;exact⟨hi,by simp[Array.getD,hi]⟩
    ·exact λh=>h.1
   ·rw[hmap];exact List.pairwise_lt_range
   ·intro x hx
    obtain⟨k,hk⟩:=afS hx
    rw[List.getElem?_zip_eq_some]at hk
    obtain⟨k1,k2⟩:=hk
    have k3:k=x.1:=by
     have hlt:k<ops.toList.length:=by
      have:=(List.getElem?_eq_some_iff.1 k1).1;simpa using this
     rw[List.getElem?_range' hlt]at k1
     simpa using k1
    subst k3
    simp[List.getD,k2]
   ·intro i o hi
    exfalso
    simp only[Array.getD]at hi
    split at hi
    ·simp at hi
    ·simp at hi
 obtain⟨e,a',w',⟨rfl,g',hL'⟩,afY⟩:=hwp (top f) K cs
 obtain⟨e,w'',fr,h1,h2,h3,h4⟩:=hK g' w' a' cs hL'
 exact⟨e,w'',fr,h1,h2.of_steps afY,h3,h4⟩
def af.done{ops:Array Oper}{acc:L Fp}(h:AK P X f n β R K env σ) :
  af P X ops [] env σ acc (λenv' O Y=>(false=true->qI ops Y=true)/\AK P X f n β R K env' O) :=
 af.nil ⟨(λh=>by simp at h),h⟩
def af.drawn{ops:Array Oper}{acc:L Fp}(hok:qI ops acc.reverse=true)(h:AK P X f n β R K env σ) :
  af P X ops [] env σ acc (λenv' O Y=>(true=true->qI ops Y=true)/\AK P X f n β R K env' O) :=
 af.nil ⟨λ_=>hok,h⟩
def qF(X:Ctx)(Y:L (Nat×L AV))(env:Env):L ResultVar->Option (L AV)
 |[]=>some []
 |.tmp t::l=>match an t env,qF X Y env l with
  |some a,some r=>some (a::r)
  |_,_=>none
 |.cell t ty::l=>match gy X Y (aK X env) (.load ty (.tmp t)),qF X Y env l with
  |some a,some r=>some (a::r)
  |_,_=>none
def lZ(X:Ctx)(Y:L (Nat×L AV))(env:Env)(rs:L ResultVar):Option AV :=
 match qF X Y env rs with
 |some [a]=>some a
 |some (a::b::l)=>some (.eY (a::b::l))
 |_=>none
def CY(S:Array Value):ResultVar->Sem Value
 |.tmp t=>pure (S.getD t undef)
 |.cell b t=>do loadVar t (<- asAddr (S.getD b undef))
def zI(T:Func)(S:Array Value):results T S=(do
  let vs<-T.results.mapM (CY S)
  pure (if h:vs.size=1 then vs[0]else .tuple vs)):=by
 unfold results;congr
def MU(Y:Addr):asAddr (.pointer (some Y))=pure Y:=rfl
def DW(hX:cF P X){g:Gh}{w:World}{a:Act}(hL:Live X β n env σ g w a):∀{rs:L ResultVar}{l:L AV},qF X σ.boxes env rs=some l ->
  ∃vs:L Value,(rs.mapM (CY a.tmps)).run P w = .ok vs w/\bJ g l vs
 |[],l,h=>by simp[qF]at h;subst h;exact⟨[],cS,by simp[bJ]⟩
 |.tmp t::rs,l,h=>by
  simp only[qF]at h;split at h
  ·rename_i x r h1 h2;simp at h;subst h;obtain⟨vs,e1,e2⟩:=DW hX hL h2;refine⟨a.tmps.getD t undef::vs,?_,by simp only[bJ];exact⟨_,_,Z,hL.env t x h1,e2⟩⟩;simp only[ahu,CY,Sem.run_bind,Sem.run_pure,Result.andThen_ok];simp only[show(List.mapM (CY a.tmps) rs).run P w = .ok vs w from e1];rfl
  ·simp at h
 |.cell t ty::rs,l,h=>by
  simp only[qF]at h;split at h
  ·rename_i x r h1 h2;simp at h;subst h;obtain⟨vs,e1,e2⟩:=DW hX hL h2
   obtain⟨u,r1,r2⟩:=MN (P:=P) (w:=w) (g:=g) hX hL.inv.pQ (λk cs e=>by
    obtain ⟨b, b1, _, _, b2⟩ := hL.inv.box k cs e; exact ⟨b, b1, b2⟩) (ev := a.eval) (fun x v hx => cy hL.env hL.tO hx) (o := ⟨none, .load ty (.tmp t), 0, "", #[], none⟩) h1
   simp only[execOp,Act.eval,Instr.loadAt]at r1;have r3:∃ad,a.tmps.getD t undef = .pointer (some ad)/\(loadVar ty ad).run P w = .ok u w:=by
    cases hv:a.tmps.getD t undef with
    |pointer p =>
     cases p with
     |none=>rw[hv]at r1;simp[Instr.sureAddr]at r1
     |some ad =>
      refine⟨ad,Z,?_⟩;rw[hv]at r1;simp only[Instr.sureAddr,Sem.run_bind,Sem.run_pure,Result.andThen_ok]at r1;cases hr:(loadVar ty ad).run P w with
      |ok u' w'=>rw[hr]at r1;simp at r1;obtain⟨rfl,rfl⟩:=r1;rfl
      |halt _ _=>rw[hr]at r1;simp at r1
    |_=>rw[hv]at r1;simp[Instr.sureAddr]at r1
   obtain⟨ad,r4,r5⟩:=r3;refine⟨u::vs,?_,by simp only[bJ];exact⟨_,_,Z,r2,e2⟩⟩;simp only[ahu,CY,Sem.run_bind,r4,MU,Sem.run_pure,Result.andThen_ok,r5];simp only[show(List.mapM (CY a.tmps) rs).run P w = .ok vs w from e1];rfl
  ·simp at h
def zJ(hX:cF P X){fn:Func}{g:Gh}{w:World}{a:Act}(hL:Live X β n env σ g w a){r:AV}(h:lZ X σ.boxes env fn.results.toList=some r) :
  ∃u,(results fn a.tmps).run P w = .ok u w/\aL g r u:=by
 unfold lZ at h
 have key:∀l,qF X σ.boxes env fn.results.toList=some l->∃vs:L Value,(fn.results.mapM (CY a.tmps)).run P w = .ok vs.toArray w/\bJ g l vs:=by
  intro l hl
  obtain⟨vs,e1,e2⟩:=DW hX hL hl
  refine⟨vs,?_,e2⟩
  rw[agK]
  simp only[Sem.run_map,e1,Result.andThen_ok]
 split at h
 ·rename_i x hl
  simp at h;subst h
  obtain⟨vs,e1,e2⟩:=key _ hl
  simp only[bJ]at e2
  obtain⟨u,us,rfl,e3,rfl⟩:=e2
  refine⟨u,?_,e3⟩
  rw[zI,Sem.run_bind,e1]
  simp
 ·rename_i x y l hl
  simp at h;subst h
  obtain⟨vs,e1,e2⟩:=key _ hl
  have Iv:=e2
  simp only[bJ]at Iv
  obtain⟨u,us,rfl,e3,u2,us2,rfl,e4,e5⟩:=Iv
  refine⟨.tuple (u::u2::us2).toArray,?_,by simp only[aL];exact⟨_,Z,e2,cS⟩⟩
  rw[zI,Sem.run_bind,e1]
  simp
 ·simp at h
def AK.ret(hX:cF P X){S:Func}(hf:P.funcs[f]?=some S){r:AV}(C:lZ X σ.boxes env S.results.toList=some r)
  (h:∀g w u,aL g r u->Inv w g σ->pP X g.G->iK β.w β.g β.σ w g σ->R (.returned u) w):AK P X f n β R (.code .ret::K) env σ:=by
 intro g w a cs Y;obtain⟨u,h1,h2⟩:=zJ hX Y C;exact⟨.returned u,w,_,h g w u h2 Y.inv Y.tO Y.frame,.one step_ret,Z,Z,Y.defers,Z,S,hf,h1⟩
end
end Go.cK
namespace Go.cK
def Enters(P:Program)(f:FuncId):Prop:=∀(J:Array Value)(w:World),(callFunc f J).run P w = .ok (.enter f J) w
structure MV(w:World)(G:j8)(w':World)(G':j8):Prop where
 os:w'.os=w.os
 tape:w'.tape=w.tape
 output:w'.output=w.output
 size:w.heap.size<=w'.heap.size
 block:∀b,b<w.heap.size->w'.heap[b]?=w.heap[b]?
 le:G.le G'
 new:∀b o v,G' b o=some v->G b o=some v\/w.heap.size<=b
 pQ:∀b o v,G' b o=some v->w'.cell? ⟨b,o,none⟩=some v
def bg(P:Program)(X:Ctx)(f:FuncId)(J:L CV)(r:CV):Prop :=
 Enters P f/\∀(G:j8)(w:World)(vs:L Value),(∀b o v,G b o=some v->w.cell? ⟨b,o,none⟩=some v)->pP X G->bR G J vs ->
  Calls P f vs.toArray w λe w'=>∃u O,e = .returned u/\Rel O r u/\MV w G w' O
def MV.kept{w w':World}{G O:j8}(h:MV w G w' O)(b o:Nat)(Q:b<w.heap.size) :
  w'.cell? ⟨b,o,none⟩=w.cell? ⟨b,o,none⟩/\w'.frozen? ⟨b,o,none⟩=w.frozen? ⟨b,o,none⟩:=by
 have:=h.block b Q;constructor
 ·simp only[World.cell?,this]
 ·simp only[World.frozen?,this]
def bg.of{P:Program}{X:Ctx}{f:FuncId}{fn:Func}{c:Code}{args:L CV}{r:CV}(hf:P.funcs[f]?=some fn)(hb:fn.body=some c)(he:Enters P f)
  (hn:args.length<=fn.ntmps)(env:Env)(dH:env=(args.zipIdx.map λ(v,i)=>(i,AV.c v)))
  (h:∀β,β.σ=⟨[],[],[]⟩->AK P X f fn.ntmps β (λe w'=>∃u g',e = .returned u/\Rel g'.G r u/\iK β.w β.g β.σ w' g' ⟨[],[],[]⟩/\∀b o v,g'.G b o=some v->w'.cell? ⟨b,o,none⟩=some v) [.code c] env ⟨[],[],[]⟩) :
  bg P X f args r:=by
 refine⟨he,λG w vs iW cA gL cs=>?_⟩
 let g:Gh:=⟨G,λ_=>none,λ_=>none,λ_=>0⟩
 let β:jZ:=⟨w,g,⟨[],[],[]⟩⟩
 have hlen:=(bR.get gL).1
 have hL:Live X β fn.ntmps env ⟨[],[],[]⟩ g w {tmps:=vs.toArray++Array.replicate (fn.ntmps-vs.toArray.size) undef,defers:=[]}:=by
  refine⟨⟨iW,?_,?_,?_,?_,?_,λk cs b e=>by simp[an]at e⟩,cA,?_,iK.refl _ _ _,?_,Z⟩
  ·intro k cs e;simp[an]at e
  ·simp_all
  ·intro k n e;simp[an]at e
  ·simp_all
  ·grind
  ·intro t a e
   subst dH
   have key:∀(l:L CV)(us:L Value)(k:Nat),bR G l us->an t ((l.zipIdx k).map λ(v,i)=>(i,AV.c v))=some a->k<=t/\∃u,us[t-k]?=some u/\aL g a u:=by
    intro l
    induction l with
    |nil=>intro us k _ e;simp[an]at e
    |cons v l ih =>
     intro us k hr e
     simp only[bR]at hr
     obtain⟨u,us,rfl,h1,h2⟩:=hr
     simp only[afx,aed,ai]at e
     split at e
     ·rename_i ht;subst ht;simp at e;subst e
      exact⟨aaj _,u,cS,abV⟩
     ·grind
   obtain⟨_,u,h4,h5⟩:=key args vs 0 gL e
   simp at h4
   have hlt:t<vs.length:=(List.getElem?_eq_some_iff.1 h4).1
   have:(vs.toArray++Array.replicate (fn.ntmps-vs.toArray.size) undef).getD t undef=u:=by
    rw[aeW,aeK (by simpa using hlt)]
    simp[h4]
   rw[this];exact h5
  ·simp;omega
 obtain⟨e,w',fr,⟨u,g',rfl,h1,h2,h3⟩,h4,h5,h6⟩:=h β rfl g w _ cs hL
 have uU:Frame.enter P f vs.toArray .normal =
   (top f).at {tmps:=vs.toArray++Array.replicate (fn.ntmps-vs.toArray.size) undef,defers:=[]} [.code c]:=by
  simp[Frame.enter,Frame.at,hf,hb,top]
 refine⟨_,w',fr,⟨u,g'.G,Z,h1,⟨h2.os,h2.tape,h2.output,h2.size,λb hb=>h2.block b hb ?_,h2.le,λb o v hv=>?_,h3⟩⟩,by rw[uU];exact h4,h5,h6⟩
 ·rintro o (⟨k,cs,e,_⟩|⟨k,n,lo,hi,e,_⟩)<;>simp[β,an]at e
 ·rcases h2.new b o v hv with h|h|h
  ·exact .inl h
  ·exact .inr h
  ·rcases h with ⟨k,cs,e,_⟩|⟨k,n,lo,hi,e,_⟩<;>simp[β,an]at e
section
variable {P : Program}{X : Ctx}
abbrev QR(β:jZ)(r:CV):Ending->World->Prop:=λe w'=>∃u g',e = .returned u/\Rel g'.G r u/\iK β.w β.g β.σ w' g' ⟨[],[],[]⟩/\∀b o v,g'.G b o=some v->w'.cell? ⟨b,o,none⟩=some v
def iK.forget{w w':World}{g g':Gh}{σ O:St}(h:iK w g σ w' g' O):iK w g σ w' g' ⟨[],[],[]⟩ where
 os:=h.os
 tape:=h.tape
 output:=h.output
 size:=h.size
 block:=h.block
 kept:=h.kept
 le:=h.le
 new:=h.new
 boxes:=λk cs b e=>by simp[an]at e
 toks:=λk n b H K e=>by simp[an]at e
 ids:=λk _ e=>by simp[an]at e
def AK.acW(hX:cF P X){f:FuncId}{n:Nat}{β:jZ}{K:L Item}{env:Env}{σ:St}{S:Func}(hf:P.funcs[f]?=some S){r:AV}{Y W:CV}
  (C:lZ X σ.boxes env S.results.toList=some r)(A:close r=some Y)(B:Y=W):AK P X f n β (QR β W) (.code .ret::K) env σ:=by
 subst B;refine AK.ret hX hf C λg w u h1 h2 V T=>?_;exact⟨u,g,Z,(tP r Y u A h1).1,T.forget,h2.pQ⟩
def fK{G:j8}:∀{a b:L CV}{us vs:L Value},bR G a us->bR G b vs->bR G (a++b) (us++vs)
 |[],b,us,vs,h1,h2=>by simp only[bR]at h1;subst h1;simpa using h2
 |x::a,b,us,vs,h1,h2=>by
  simp only[bR]at h1;obtain⟨u,us,rfl,V,S⟩:=h1;simp only[adU,bR];exact⟨u,us++vs,Z,V,fK S h2⟩
def Fv{w w':World}{g:Gh}{σ:St}{O:j8}(K:Inv w g σ)(Y:MV w g.G w' O) :
  Inv w' ⟨O,g.box,g.tok,g.room⟩ σ/\iK w g σ w' ⟨O,g.box,g.tok,g.room⟩ σ/\g.le ⟨O,g.box,g.tok,g.room⟩:=by
 have U:g.le ⟨O,g.box,g.tok,g.room⟩:=⟨Y.le,λ_ _ h=>h,λ_ _ _=>rfl,λk N I h=>⟨N,I,h,aaj _,λ_=>rfl⟩⟩
 have W:∀b o,b<w.heap.size->g.G b o=none->O b o=none:=by
  intro b o Q h;cases p:O b o with
  |none=>rfl
  |some v =>
   rcases Y.new b o v p with C|C
   ·simp_all
   ·omega
 refine⟨⟨Y.pQ,?_,K.gk,?_,K.iu,K.used,?_⟩,⟨Y.os,Y.tape,Y.output,Y.size,λb Q _=>Y.block b Q,λb o Q _=>Y.kept b o Q,Y.le,λb o v h=>?_,?_,?_,?_⟩,U⟩
 ·intro k cs e;obtain⟨b,h1,h2,V,S⟩:=K.box k cs e;exact⟨b,h1,afc h2 Y.size,λo=>W b o h2 (V o),(cB.of_same (λo=>Y.kept b o h2) S).mono U⟩
 ·intro k n e;obtain⟨I,h1,h2⟩:=K.tok k n e;refine⟨I,h1,λb T H P=>?_⟩;obtain⟨V,S,M⟩:=h2 b T H P;refine⟨afc V Y.size,λo J E=>?_,M⟩;obtain⟨q,⟨u,D⟩,h8⟩:=S o J E;exact⟨W b o V q,⟨u,(Y.kept b o V).1.trans D⟩,(Y.kept b o V).2.trans h8⟩
 ·intro k cs b e Q o;obtain⟨b',h1,h2,_⟩:=K.box k cs e;rw[Q]at h1;cases h1;obtain⟨V,S⟩:=K.room k cs b e Q o;exact⟨λB=>(V B).imp λu A=>(Y.kept b o h2).1.trans A,(Y.kept b o h2).2.trans S⟩
 ·exact(Y.new b o v h).imp id .inl
 ·grind
 ·grind
 ·simp_all
def bU.LR{o:Oper}{env:Env}{σ:St}{f:FuncId}{args:Array Operand}{ts:Array TypeId}(ho:o.op = .call {callee := .value (.func f),args:=args,argTypes:=ts})
  {pW:L CV}{r:CV}(ha:gO (aK X env) args.toList=some pW)(hq:bg P X f pW r):bU P X o env σ (.c r) (λσ=>σ) ⟨[],[]⟩:=by
 intro dz σ1 w g a next Q h1 h2 hinv cA dH hnext
 have yI:gO (aK X dz) args.toList=some pW:=by
  rw[kH _ (λx hx=>h1 x u6)];exact ha
 have gL:=oF (g:=g) (ev:=a.eval) (λx v hx=>cy dH cA hx) yI
 have hrun:(execOp a.eval o).run P w = .ok (.enter f (args.map a.eval)) w:=by
  obtain⟨dst,op,type,pos,after,guard⟩:=o
  simp only at ho;subst ho
  simp[execOp,resolve,Deferred.ofValue,invoke,Act.eval,hq.1 _ w]
 unfold Oper.wp
 rw[hrun,Oper.upon_enter]
 have:=hq.2 g.G w _ hinv.pQ cA gL
 rw[show(args.toList.map a.eval).toArray=args.map a.eval from by rw[<- aeY]]at this
 refine this.mono ?_
 rintro e w' ⟨u,G',rfl,h3,h4⟩
 obtain⟨h5,h6,h7⟩:=Fv hinv h4
 exact hnext u w' _ acU h5 h6 h7
def bU.Mz{o:Oper}{env:Env}{σ:St}{f:FuncId}{x:Operand}{caps:L CV}{args:Array Operand}{ts:Array TypeId}(ho:o.op = .call {callee := .value x,args:=args,argTypes:=ts})
  (hx:aK X env x=some (.c (.rR f caps))){pW:L CV}{r:CV}(ha:gO (aK X env) args.toList=some pW)(hq:bg P X f (pW++caps) r) :
  bU P X o env σ (.c r) (λσ=>σ) ⟨[],[]⟩:=by
 intro dz σ1 w g a next Q h1 h2 hinv cA dH hnext
 have yI:gO (aK X dz) args.toList=some pW:=by
  rw[kH _ (λx hx=>h1 x u6)];exact ha
 have hx':aK X dz x=some (.c (.rR f caps)):=by
  rw[h1 x Wl];exact hx
 have gL:=oF (g:=g) (ev:=a.eval) (λx v hx=>cy dH cA hx) yI
 have adr:=cy (a:=a) dH cA hx'
 simp only[aL,Rel]at adr
 obtain⟨us,hu,ads⟩:=adr
 have hrun:(execOp a.eval o).run P w = .ok (.enter f (args.map a.eval++us.toArray)) w:=by
  obtain⟨dst,op,type,pos,after,guard⟩:=o
  simp only at ho;subst ho
  simp[execOp,resolve,hu,Deferred.ofValue,invoke,hq.1 _ w]
 unfold Oper.wp
 rw[hrun,Oper.upon_enter]
 have:=hq.2 g.G w _ hinv.pQ cA (fK gL ads)
 rw[show(args.toList.map a.eval++us).toArray=args.map a.eval++us.toArray from by rw[<- aeY];simp]at this
 refine this.mono ?_
 rintro e w' ⟨u,G',rfl,h3,h4⟩
 obtain⟨h5,h6,h7⟩:=Fv hinv h4
 exact hnext u w' _ acU h5 h6 h7
end
end Go.cK
namespace Go.cK
def St.eM(σ:St)(d:Nat)(cells:L AV):St:=⟨(d,cells)::σ.boxes,σ.toks,d::σ.used⟩
def qU(d:Nat)(cells:L AV):iA (λσ=>σ.eM d cells) ⟨[],[d]⟩ where
 out:=λσ k D=>by
  have:k≠d:=by simpa using D
  refine⟨?_,Z,?_⟩
  ·simp only[St.eM,ai,if_neg this]
  ·simp[St.eM,this]
 same:=λσ Y h k D=>by
  have:k=d:=by simpa using D
  subst this;refine⟨?_,(h k (.inr cS)).2.1,?_⟩
  ·simp[St.eM,ai]
  ·simp[St.eM]
def wV{g:Gh}{a:AV}{u:Value}(h:a.one=true)(C:aL g a u):u.oneCell'=true:=by
 cases a with
 |c v =>
  simp only[AV.one]at h;simp only[aL]at C;cases v<;>simp[CV.one]at h<;>simp only[Rel]at C
  case int=>subst C;rfl
  case bool=>subst C;rfl
  case str=>subst C;rfl
  case mw=>subst C;rfl
  case sl=>obtain⟨_,_,_,rfl,_⟩:=C;rfl
  case ip=>obtain⟨_,_,rfl,_⟩:=C;rfl
  case rR=>obtain⟨_,rfl,_⟩:=C;rfl
  case any=>cases u<;>first|rfl|exact absurd Z (C.1 _)|exact absurd Z (C.2 _)
  case r8=>obtain⟨_,rfl⟩:=C;rfl
 |own=>simp only[aL]at C;obtain⟨_,_,_,rfl,_⟩:=C;rfl
 |ptr=>simp only[aL]at C;obtain⟨_,_,rfl⟩:=C;rfl
 |gS=>simp only[aL]at C;obtain⟨_,_,_,_,rfl,_⟩:=C;rfl
 |any =>
  simp only[aL]at C;cases u<;>first|rfl|exact absurd Z (C.1 _)|exact absurd Z (C.2 _)
 |agg=>simp[AV.one]at h
 |eY=>simp[AV.one]at h
section
variable {P : Program}{X : Ctx}
def J5{w:World}{g:Gh}{σ:St}{d:Nat}{cells:L AV}{us:Array Value}{t:TypeId}(hinv:Inv w g σ)(hd:d ∉ σ.used)(abn:d<1000000)(hr:bJ g cells (us.toList.take cells.length))(ho:cells.all AV.one=true) :
  let g':Gh:=⟨g.G,λk=>if k=d then some w.heap.size else g.box k,g.tok,λk=>if k=d then us.size else g.room k⟩
  let w':World:={w with heap:=w.heap.push (.cells us t)}
  Inv w' g' (σ.eM d cells)/\iK w g σ w' g' (σ.eM d cells)/\g.le g'/\aL g' (.ptr d 0) (.pointer (some ⟨w.heap.size,0,none⟩)):=by
 intro g' w'
 have Wn:g.box d=none:=by
  cases h:g.box d with
  |none=>rfl
  |some b=>exact absurd (hinv.used d (.inl p8)) hd
 have hdb:∀k cs,an k σ.boxes=some cs->k≠d:=by
  rintro k cs e rfl
  obtain⟨b,h1,_⟩:=hinv.box _ cs e
  rw[Wn]at h1;simp at h1
 have hle:g.le g':=⟨j8.le.refl _,λk b h=>by
  by_cases hk:k=d
  ·subst hk;rw[Wn]at h;simp at h
  ·simp[g',hk,h],λk b h=>by
  by_cases hk:k=d
  ·subst hk;rw[Wn]at h;simp at h
  ·simp[g',hk],λk hw gK h=>⟨hw,gK,h,aaj _,λ_=>rfl⟩⟩
 have hold:∀b o,b<w.heap.size->w'.cell? ⟨b,o,none⟩=w.cell? ⟨b,o,none⟩/\w'.frozen? ⟨b,o,none⟩=w.frozen? ⟨b,o,none⟩:=by
  intro b o hb
  exact⟨World.cell?_alloc_old w _ ⟨b,o,none⟩ Z1,World.frozen?_alloc_old w _ ⟨b,o,none⟩ Z1⟩
 have hsz:w'.heap.size=w.heap.size+1:=by simp[w']
 have J6:∀b o v,g.G b o=some v->b<w.heap.size:=λb o v h=>World.block_lt_of_cell? w ⟨b,o,none⟩ (hinv.pQ b o v h)
 have jz:cB w' g' w.heap.size 0 cells:=by
  obtain⟨h1,h2⟩:=bJ.get hr
  apply cB.kV
  intro j c hj
  obtain⟨u,e1,e2⟩:=h2 j c hj
  refine⟨⟨u,?_,aL.mono hle _ _ e2,?_⟩,?_⟩
  ·have:=World.cell?_alloc_new w us t (0+j)
   rw[show(w.alloc (.cells us t))=w' from rfl]at this
   rw[this]
   rw[afm]at e1
   split at e1
   ·simpa using e1
   ·simp at e1
  ·rw[afn]at ho;exact ho c (aaB hj)
  ·exact World.frozen?_alloc_new w us t (0+j)
 refine⟨⟨?_,?_,?_,?_,hinv.iu,?_,?_⟩,⟨Z,Z,Z,bn,λb hb _=>by show(w.heap.push _)[b]?=_;rw[age,if_neg bn],λb o hb _=>hold b o hb,j8.le.refl _,λ_ _ _ h => .inl h,?_,?_,λk hk h=>⟨by simp only[St.eM,ai]at h;rwa[if_neg bn]at h,by simp only[g'];rw[if_neg bn],by simp only[g'];rw[if_neg bn]⟩⟩,hle,by simp only[aL];exact⟨_,ac0,Z⟩⟩
 ·intro b o v h
  rw[(hold b o (J6 b o v h)).1];exact hinv.pQ b o v h
 ·intro k cs e
  simp only[St.eM,ai]at e
  split at e
  ·rename_i hk;subst hk;simp at e;subst e
   refine⟨w.heap.size,ac0,bn,?_,jz⟩
   intro o
   cases hg:g.G w.heap.size o with
   |none=>rfl
   |some v=>have:=J6 _ _ _ hg;omega
  ·rename_i hk
   obtain⟨b,h1,h2,h3,h4⟩:=hinv.box k cs e
   exact⟨b,by simp[g',hk,h1],bn,h3,(cB.of_same (λo=>hold b o h2) h4).mono hle⟩
 ·intro k k' cs cs' b e e' h1 h2
  simp only[St.eM,ai]at e e'
  simp only[g']at h1 h2
  split at e
  ·rename_i hk
   rw[if_pos hk]at h1;simp at h1
   split at e'
   ·rename_i hk';rw[hk,hk']
   ·rename_i hk'
    rw[if_neg hk']at h2
    obtain⟨b',h3,h4,_⟩:=hinv.box k' cs' e'
    rw[h3]at h2;simp at h2;omega
  ·rename_i hk
   rw[if_neg hk]at h1
   split at e'
   ·rename_i hk'
    rw[if_pos hk']at h2;simp at h2
    obtain⟨b',h3,h4,_⟩:=hinv.box k cs e
    rw[h3]at h1;simp at h1;omega
   ·rename_i hk'
    rw[if_neg hk']at h2
    exact hinv.gk k k' cs cs' b e e' h1 h2
 ·intro k n e
  obtain⟨gK,h1,h2⟩:=hinv.tok k n e
  refine⟨gK,h1,λb lo hi hr=>?_⟩
  obtain⟨h3,h4,h5⟩:=h2 b lo hi hr
  refine⟨bn,λo MW PB=>?_,λk' cs e'=>?_⟩
  ·obtain⟨h6,⟨u,h7⟩,h8⟩:=h4 o MW PB
   exact⟨h6,⟨u,(hold b o h3).1.trans h7⟩,(hold b o h3).2.trans h8⟩
  ·simp only[St.eM,ai]at e'
   simp only[g']
   split at e'
   ·rename_i hk;rw[if_pos hk];simp;omega
   ·rename_i hk;rw[if_neg hk];exact h5 k' cs e'
 ·intro k e
  simp only[St.eM,aeB]
  by_cases hk:k=d
  ·exact .inl hk
  ·right
   apply hinv.used k
   simpa[g',hk]using e
 ·intro k cs b e h o
  simp only[St.eM,ai]at e
  simp only[g']at h ⊢
  split at e
  ·rename_i hk
   rw[if_pos hk]at h
   rw[if_pos hk]
   simp at h;subst h
   have h1:=World.cell?_alloc_new w us t o
   rw[show(w.alloc (.cells us t))=w' from rfl]at h1
   have h2:=World.frozen?_alloc_new w us t o
   rw[show(w.alloc (.cells us t))=w' from rfl]at h2
   exact⟨λho=>⟨us[o],by rw[h1];simp[ho]⟩,h2⟩
  ·rename_i hk
   rw[if_neg hk]at h
   rw[if_neg hk]
   obtain⟨b',h3,h4,_⟩:=hinv.box k cs e
   rw[h]at h3;cases h3
   obtain⟨h5,h6⟩:=hinv.room k cs b e h o
   exact⟨λho=>(h5 ho).imp λu hu=>(hold b o h4).1.trans hu,(hold b o h4).2.trans h6⟩
 ·intro k cs b e h
  simp only[St.eM,ai]at e
  simp only[g']at h
  split at e
  ·rename_i hk;rw[if_pos hk]at h;simp at h;left;omega
  ·rename_i hk;rw[if_neg hk]at h;exact .inr ⟨k,cs,e,h⟩
 ·exact adN
def PC{w:World}{g:Gh}{σ:St}{d:Nat}{cells:L AV}{us:Array Value}{t:TypeId}(hinv:Inv w g σ)(hd:d ∉ σ.used)(abn:d<1000000)(hr:bJ g cells us.toList)(ho:cells.all AV.one=true) :
  let g':Gh:=⟨g.G,λk=>if k=d then some w.heap.size else g.box k,g.tok,λk=>if k=d then us.size else g.room k⟩
  let w':World:={w with heap:=w.heap.push (.cells us t)}
  Inv w' g' (σ.eM d cells)/\iK w g σ w' g' (σ.eM d cells)/\g.le g'/\aL g' (.ptr d 0) (.pointer (some ⟨w.heap.size,0,none⟩)):=by
 have hl:cells.length=us.toList.length:=(bJ.get hr).1
 exact J5 (t:=t) hinv hd abn (by rw[hl,ahr];exact hr) ho
def cY{d:Nat}:∀{l:L Nat},mem d l=false->d ∉ l
 |[],_=>by simp
 |x::l,h=>by
  simp only[mem]at h;split at h
  ·simp at h
  ·rename_i O;have:=beq_false O;simp[cY h,Ne.symm this]
def MX(d:Nat)(l:L Nat):Bool:=match Nat.blt d 1000000 with
 |true=>mem d l
 |false=>true
def DX{d:Nat}{l:L Nat}(h:MX d l=false):d<1000000/\mem d l=false:=by
 unfold MX at h;split at h
 ·simp_all
 ·simp at h
def bU.box{o:Oper}{env:Env}{σ:St}{t:TypeId}{x:Operand}{d:Nat}(ho:o.op = .box t x)(hd:o.dst=some d){a:AV}(ha:aK X env x=some a){cells:L AV}
  (hc:jA a=some cells)(hu:MX d σ.used=false):bU P X o env σ (.ptr d 0) (λσ=>σ.eM d cells) ⟨[],[d]⟩:=by
 intro dz σ1 w g act next Q h1 h2 hinv cA dH hnext
 have yI:aK X dz x=some a:=by rw[h1 x mc];exact ha
 obtain⟨c1,c2⟩:=x9 hc (cy (a:=act) dH cA yI)
 have hd':d ∉ σ1.used:=λh=>cY (DX hu).2 ((h2 d (.inr cS)).2.2.1 h)
 have hrun:(execOp act.eval o).run P w = .ok (.value (.pointer (some ⟨w.heap.size,0,none⟩))) {w with heap:=w.heap.push (.cells (act.eval x).cells t)}:=by
  obtain⟨dst,op,type,pos,after,guard⟩:=o
  simp only at ho;subst ho
  simp[execOp,Instr.box,newVar,newRow]
 unfold Oper.wp
 rw[hrun,Oper.upon_value]
 obtain⟨h3,h4,h5,h6⟩:=PC (t:=t) hinv hd' (DX hu).1 c1 c2
 exact hnext _ _ _ h6 h3 h4 h5
def bU.alloc(hX:cF P X){o:Oper}{env:Env}{σ:St}{t:TypeId}{d:Nat}(ho:o.op = .alloc t)(hd:o.dst=some d){i:TI}(hi:X.ti t=some i){za:AV}(hz:i.zero=some za){cells:L AV}
  (hc:jA za=some cells)(hu:MX d σ.used=false):bU P X o env σ (.ptr d 0) (λσ=>σ.eM d cells) ⟨[],[d]⟩:=by
 intro dz σ1 w g act next Q h1 h2 hinv cA dH hnext
 obtain⟨z,z1,z2,z3⟩:=hX.mK (w:=w) hi hz
 obtain⟨c1,c2⟩:=x9 hc (z2 g)
 have hd':d ∉ σ1.used:=λh=>cY (DX hu).2 ((h2 d (.inr cS)).2.2.1 h)
 have hrun:(execOp act.eval o).run P w = .ok (.value (.pointer (some ⟨w.heap.size,0,none⟩))) {w with heap:=w.heap.push (.cells z.cells t)}:=by
  obtain⟨dst,op,type,pos,after,guard⟩:=o
  simp only at ho;subst ho
  simp[execOp,Instr.alloc,newVar,newRow,z1]
 unfold Oper.wp
 rw[hrun,Oper.upon_value]
 obtain⟨h3,h4,h5,h6⟩:=PC (t:=t) hinv hd' (DX hu).1 c1 c2
 exact hnext _ _ _ h6 h3 h4 h5
def St.qV(σ:St)(k:Nat)(cells:L AV):St:=⟨vL k cells σ.boxes,σ.toks,σ.used⟩
def PD(k:Nat)(cells:L AV):iA (λσ=>σ.qV k cells) ⟨[],[k]⟩ where
 out:=λσ j Y=>by
  have:j≠k:=by simpa using Y
  exact⟨by simp only[St.qV,eZ,if_neg this],Z,Iff.rfl⟩
 same:=λσ W h j Y=>by
  have:j=k:=by simpa using Y
  subst this;exact⟨by simp[St.qV,eZ],(h j (.inr cS)).2.1,(h j (.inr cS)).2.2⟩
def heap_setCell(w:World)(a:Addr)(u:Value)(k:Nat)(h:k≠a.block):(w.setCell a u).heap[k]?=w.heap[k]?:=by
 simp only[World.setCell,Array.getElem?_modify];rw[if_neg bn]
def nM{w:World}(b:Nat):∀(vs:L Value)(o i:Nat)(w:World),(∀v∈vs,v.oneCell'=true) ->
  (∀j,j<vs.length->(∃u,w.cell? ⟨b,o+i+j,none⟩=some u)/\w.frozen? ⟨b,o+i+j,none⟩=false) ->
  ∃w',(storeCells ⟨b,o,none⟩ vs i).run P w = .ok () w'/\(w'.heap.size=w.heap.size/\w'.os=w.os/\w'.tape=w.tape/\w'.output=w.output/\∀b',b'≠b->w'.heap[b']?=w.heap[b']?) /\
   (∀b' o',b'≠b\/o'<o+i\/o+i+vs.length<=o'->w'.cell? ⟨b',o',none⟩=w.cell? ⟨b',o',none⟩) /\
   (∀b' o',w'.frozen? ⟨b',o',none⟩=w.frozen? ⟨b',o',none⟩) /\
   ∀j v,vs[j]?=some v->w'.cell? ⟨b,o+i+j,none⟩=some v
 |[],o,i,w,_,_=>⟨w,by simp[storeCells],⟨Z,Z,Z,Z,λ_ _=>rfl⟩,λ_ _ _=>rfl,λ_ _=>rfl,cS⟩
 |v::vs,o,i,w,h1,h2=>by
  obtain⟨⟨u,hu⟩,hf⟩:=h2 0 cS
  simp only[aeT]at hu hf
  have hv:=h1 v cS
  have hst:(store (Addr.add ⟨b,o,none⟩ i) v).run P w = .ok () (w.setCell ⟨b,o+i,none⟩ v):=by
   rw[Addr.add_lit]
   have:=run_store P w ⟨b,o+i,none⟩ v .plain hv
   rw[this];simp[hu,hf]
  obtain⟨w',r1,r2,r3,r4,r5⟩:=nM (w:=w) b vs o (i+1) (w.setCell ⟨b,o+i,none⟩ v) (λx hx=>h1 x (by simp[hx])) (by
   intro j hj
   obtain⟨⟨u',hu'⟩,hf'⟩:=h2 (j+1) ob
   refine⟨⟨u',?_⟩,?_⟩
   ·rw[World.cell?_setCell_other w _ _ _ ob]
    rwa[show o+(i+1)+j=o+i+(j+1)from by omega]
   ·rw[World.frozen?_setCell]
    rwa[show o+(i+1)+j=o+i+(j+1)from by omega])
  refine⟨w',?_,⟨by simpa using r2.1,r2.2.1,r2.2.2.1,r2.2.2.2.1,λb' hb'=>(r2.2.2.2.2 b' hb').trans (heap_setCell w _ _ _ hb')⟩,?_,?_,?_⟩
  ·simp only[storeCells,Sem.run_bind,hst,Result.andThen_ok,r1]
  ·intro b' o' h
   rw[r3 b' o' (by simp at h ⊢;omega),World.cell?_setCell_other w]
   intro e
   simp at e h
   obtain⟨rfl,rfl⟩:=e
   omega
  ·simp_all
  ·intro j v' hj
   cases j with
   |zero =>
    simp at hj;subst hj
    rw[r3 b _ (by right;left;omega)]
    exact World.cell?_setCell_same w _ _ hu
   |succ j =>
    simp at hj
    have:=r5 j v' hj
    rwa[show o+(i+1)+j=o+i+(j+1)from by omega]at this
def bU.store(hX:cF P X){o:Oper}{env:Env}{σ:St}{t:TypeId}{x y:Operand}(ho:o.op = .store t x y)(hd:o.dst=none){i:TI}(hi:X.ti t=some i){key off:Nat}
  (hx:aK X env x=some (.ptr key off)){a:AV}(hy:aK X env y=some a){cells vs r:L AV}(hb:an key σ.boxes=some cells)(hc:jA a=some vs)
  (hl:vs.length=i.size)(hw:bV off vs cells=some r):bU P X o env σ (.c .undef) (λσ=>σ.qV key r) ⟨[],[key]⟩:=by
 intro dz σ1 w g act next Q h1 h2 hinv cA dH hnext
 have hx':aK X dz x=some (.ptr key off):=by rw[h1 x mc];exact hx
 have hy':aK X dz y=some a:=by rw[h1 y mc];exact hy
 have hb':an key σ1.boxes=some cells:=by rw[(h2 key (.inr cS)).1];exact hb
 have rx:=cy (a:=act) dH cA hx'
 simp only[aL]at rx
 obtain⟨b,BN,ex⟩:=rx
 obtain⟨c1,c2⟩:=x9 hc (cy (a:=act) dH cA hy')
 obtain⟨b',J7,adt,hbG,hbc⟩:=hinv.box key cells hb'
 rw[BN]at J7;simp at J7;subst J7
 obtain⟨l1,l2⟩:=bJ.get c1
 have hne:i.size≠0:=by obtain⟨_,_,_,_,_,_,hh⟩:=hX.ti t i hi;exact hh
 obtain⟨w1,w2,w3⟩:=pq hw
 have hfit:off+vs.length<=cells.length:=by
  cases vs with
  |nil=>simp at hl;omega
  |cons u us=>exact Py hw
 obtain⟨w',r1,r2,r3,r4,r5⟩:=nM (P:=P) (w:=w) b (act.eval y).cells.toList off 0 w (by
   intro u hu
   obtain⟨j,hj⟩:=afS hu
   have hjl:j<vs.length:=by rw[l1];exact(List.getElem?_eq_some_iff.1 hj).1
   obtain⟨u',e1,e2⟩:=l2 j vs[j] (by simp[hjl])
   rw[hj]at e1;simp at e1;subst e1
   rw[afn]at c2
   exact wV (c2 _ (ags hjl)) e2) (by
   intro j hj
   have hjl:off+j<cells.length:=by rw[<- l1]at hj;omega
   obtain⟨⟨u,e1,_⟩,e2⟩:=hbc.get (off+j) cells[off+j] (by simp[hjl])
   simp only[aeq,aeT]at e1 e2 ⊢
   exact⟨⟨u,e1⟩,e2⟩)
 have hrun:(execOp act.eval o).run P w = .ok .skip w':=by
  obtain⟨dst,op,type,pos,after,guard⟩:=o
  simp only at ho;subst ho
  have hsz:(act.eval y).cells.size=i.size:=by rw[<- hl,l1];simp
  simp only[execOp,ex,Instr.storeAt,Instr.sureAddr,storeVar,Sem.run_bind,Sem.run_pure,Result.andThen_ok,hX.run_sizeOf hi]
  rw[if_neg (by simpa using hsz),r1];rfl
 unfold Oper.wp
 rw[hrun,Oper.upon_skip,hd]
 have wW:∀b' o',b'≠b->w'.cell? ⟨b',o',none⟩=w.cell? ⟨b',o',none⟩:=λb' o' h=>r3 b' o' (.inl h)
 have af0:∀b' o' v,g.G b' o'=some v->b'≠b:=by
  rintro b' o' v h rfl;rw[hbG]at h;simp at h
 have:=hnext Go.undef w' g q6 ⟨?_,?_,?_,?_,hinv.iu,hinv.used,?_⟩ ⟨r2.2.1,r2.2.2.1,r2.2.2.2.1,bn,λb' hb0 hno=>r2.2.2.2.2 b' (by rintro rfl;exact hno 0 (.inl ⟨key,cells,hb',BN⟩)),?_,j8.le.refl _,λ_ _ _ h => .inl h,?_,?_,λk _ h=>⟨by simp only[St.qV,eZ]at h;split at h;(· rename_i hk;subst hk;rw[hb'];simp);(· exact h),rfl,rfl⟩⟩ (Gh.le.refl _)
 ·simp_all
 ·intro b' o' v h
  rw[wW b' o' (af0 b' o' v h)];exact hinv.pQ b' o' v h
 ·intro k cs e
  simp only[St.qV,eZ]at e
  split at e
  ·rename_i hk;subst hk;simp at e;subst e
   refine⟨b,BN,bn,hbG,?_⟩
   apply cB.kV
   intro j c hj
   rw[w3]at hj
   simp only[aeq]
   split at hj
   ·rename_i hin
    obtain⟨u,e1,e2⟩:=l2 _ _ hj
    refine⟨⟨u,?_,e2,?_⟩,?_⟩
    ·have:=r5 (j-off) u (by simpa using e1)
     rwa[show off+0+(j-off)=j from by omega]at this
    ·rw[afn]at c2;exact c2 c (aaB hj)
    ·rw[r4]
     have hjl:j<cells.length:=by omega
     have:=(hbc.get j cells[j] (by simp[hjl])).2
     simpa using this
   ·rename_i hin
    obtain⟨⟨u,e1,e2,e3⟩,e4⟩:=hbc.get j c hj
    simp only[aeq]at e1 e4
    refine⟨⟨u,?_,e2,e3⟩,by rw[r4];exact e4⟩
    rw[r3 b j (by right;have:=l1;omega)];exact e1
  ·rename_i hk
   obtain⟨b',e1,e2,e3,e4⟩:=hinv.box k cs e
   have Bs:b'≠b:=by
    rintro rfl
    exact hk (hinv.gk k key cs cells _ e hb' e1 BN)
   exact⟨b',e1,bn,e3,cB.of_same (λo=>⟨wW b' o Bs,r4 b' o⟩) e4⟩
 ·intro k k' cs cs' b'' e e' e1 e2
  have hex:∀k cs,an k (σ1.qV key r).boxes=some cs->∃cs,an k σ1.boxes=some cs:=by
   intro k cs e
   simp only[St.qV,eZ]at e
   split at e
   ·simp_all
   ·exact⟨_,e⟩
  obtain⟨c1,f1⟩:=hex k cs e
  obtain⟨c2,f2⟩:=hex k' cs' e'
  exact hinv.gk k k' c1 c2 b'' f1 f2 e1 e2
 ·intro k n e
  obtain⟨gK,e1,e2⟩:=hinv.tok k n e
  refine⟨gK,e1,λb' lo hi hr=>?_⟩
  obtain⟨e3,e4,e5⟩:=e2 b' lo hi hr
  have Bs:b'≠b:=by
   rintro rfl;exact e5 key cells hb' BN
  refine⟨bn,λo' h1 h2=>?_,λk' cs e'=>?_⟩
  ·simp_all
  ·simp only[St.qV,eZ]at e'
   split at e'
   ·rename_i hk;subst hk;exact e5 _ cells hb'
   ·exact e5 k' cs e'
 ·intro k cs b0 e hb0 o0
  have hex:∃cs0,an k σ1.boxes=some cs0:=by
   simp only[St.qV,eZ]at e
   split at e
   ·simp_all
   ·exact⟨_,e⟩
  obtain⟨cs0,e0⟩:=hex
  obtain⟨q0,q2⟩:=hinv.room k cs0 b0 e0 hb0 o0
  refine⟨λho0=>?_,by rw[r4];exact q2⟩
  obtain⟨u,q1⟩:=q0 ho0
  by_cases hw0:b0=b/\off<=o0/\o0<off+(act.eval y).cells.toList.length
  ·obtain⟨rfl,h5,h6⟩:=hw0
   obtain⟨v,hj⟩:∃v,(act.eval y).cells.toList[o0-off]?=some v:=⟨_,aea bn⟩
   have:=r5 (o0-off) v hj
   rw[show off+0+(o0-off)=o0 from by omega]at this
   exact⟨v,this⟩
  ·refine⟨u,?_⟩
   rw[r3 b0 o0 (by
    by_cases Bs:b0=b
    ·omega
    ·exact .inl Bs)]
   exact q1
 ·intro b' o' hlt hno
  refine⟨wW b' o' ?_,r4 b' o'⟩
  rintro rfl
  exact hno (.inl ⟨key,cells,hb',BN⟩)
 ·intro k cs b' e e1
  simp only[St.qV,eZ]at e
  split at e
  ·rename_i hk;subst hk;exact .inr ⟨_,_,hb',e1⟩
  ·exact .inr ⟨k,cs,e,e1⟩
 ·exact adN
end
end Go.cK
namespace Go.cK
def J8:AV->Value->Bool
 |.c (.int k n),.int k' n'=>k==k'&&n==n'
 |.c (.bool b),.bool b'=>b==b'
 |.c (.str []),.string s=>s.data.toList.isEmpty
 |.c .mw,.pointer none=>true
 |.own .exact _ [],.slice none 0 0=>true
 |_,_=>false
def B2:L AV->L Value->Bool
 |[],[]=>true
 |a::l,v::vs=>J8 a v&&B2 l vs
 |_,_=>false
def Wo:AV->Value->Bool
 |.agg l,.agg cs=>B2 l cs.toList
 |a,v=>J8 a v
def Iw{a:AV}{v:Value}(h:J8 a v=true)(g:Gh):aL g a v/\a.one=true:=by
 unfold J8 at h;split at h<;>simp at h
 ·obtain⟨rfl,rfl⟩:=h;simp[aL,Rel,AV.one,CV.one]
 ·subst h;simp[aL,Rel,AV.one,CV.one]
 ·rename_i s;simp only[aL,Rel,AV.one,CV.one,agy];congr 1;apply ahx;simp[h]
 ·simp[aL,Rel,AV.one,CV.one]
 ·simp only[aL,AV.one,agy];exact⟨_,_,_,Z,Z,aaj _,.inl Z,Z⟩
def Ix(g:Gh):∀{l:L AV}{vs:L Value},B2 l vs=true->bJ g l vs/\l.all AV.one=true
 |[],[],_=>by simp[bJ]
 |[],_::_,h=>by simp[B2]at h
 |_::_,[],h=>by simp[B2]at h
 |a::l,v::vs,h=>by
  simp only[B2,aai]at h;obtain⟨h1,h2⟩:=Iw h.1 g;obtain⟨V,S⟩:=Ix g h.2;exact⟨by simp only[bJ];exact⟨v,vs,Z,h1,V⟩,by simp only[aeL,h2,aeR];exact S⟩
def Wp{a:AV}{v:Value}(h:Wo a v=true)(g:Gh):aL g a v:=by
 unfold Wo at h;split at h
 ·rename_i l cs;obtain⟨h1,h2⟩:=Ix g h;simp only[aL];exact⟨cs.toList,cS,h1,h2⟩
 ·exact(Iw h g).1
def PE(P:Program)(k:TK)(d:TypeDesc):Bool :=
 match k,d with
 |.int k,.int k'=>k==k'
 |.bool,.bool=>true
 |.str,.string=>true
 |.ptr e,.pointer e'=>e==e'
 |.slice e,.slice e'=>e==e'
 |.arr n e,.array W e'=>n==W&&e==e'
 |.struct Q,.struct Y=>Y.toList.map (λf=>(f.offset,f.type))==Q&&Y.toList.all λf=>match P.info? f.type with
  |some D=>D.size != 0
  |none=>false
 |.other,.func .. => true
 |.other,.map .. => true
 |.other,.tuple .. => true
 |_,_=>false
def Tx{P:Program}{k:TK}{d:TypeDesc}(h:PE P k d=true):ff P k d:=by
 unfold PE at h;split at h<;>simp at h<;>simp only[ff]
 ·rw[h]
 ·rw[h]
 ·rw[h]
 ·rw[h.1,h.2]
 ·rename_i Q Y;refine⟨Y,Z,by simpa using h.1,λf hf=>?_⟩;obtain⟨i,K,S⟩:=Array.getElem_of_mem (Array.mem_toList_iff.1 hf);have:=h.2 i K;rw[S]at this;split at this
  ·simp_all
  ·simp at this
def Vu(P:Program)(t:Nat)(i:TI):Bool :=
 match P.info? t,P.underlying t with
 |some D,some d=>D.size==i.size&&D.bytes==i.bytes&&i.size != 0&&PE P i.kind d &&
  (match i.zero with
   |none=>true
   |some a=>match D.zero with
    |none=>false
    |some z=>Wo a z&&z.cells.size==i.size)
 |_,_=>false
def Vv{P:Program}{table:L (Nat×TI)}{X:Ctx}(hX:X.ti=λt=>an t table)(h:table.all (λp=>Vu P p.1 p.2)=true):cF P X where
 ti:=λt i e=>by
  rw[hX]at e;have Y:∀(l:L (Nat×TI)),l.all (λp=>Vu P p.1 p.2)=true->an t l=some i->Vu P t i=true:=by
   intro l
   induction l with
   |nil=>intro _ e;simp[an]at e
   |cons x l V =>
    intro h e;obtain⟨j,y⟩:=x;simp only[aeL,aai]at h;simp only[an]at e;split at e
    ·rename_i U;have W:=beq_true U;rw[<- W];simp at e;rw[<- e];exact h.1
    ·exact V h.2 e
  have:=Y table h e;unfold Vu at this;split at this
  ·rename_i D d h1 h2;simp only[aai,agA,ahd]at this;obtain⟨⟨⟨⟨T,a2⟩,a3⟩,S⟩,C⟩:=this;refine⟨D,h1,T,a2,?_,⟨d,h2,Tx S⟩,a3⟩;intro a ha;rw[ha]at C;simp only at C;split at C
   ·simp at C
   ·rename_i z Q;simp only[aai,agA]at C;exact⟨z,Q,Wp C.1,C.2⟩
  ·simp at this
section
variable {P:Program}{X:Ctx}{ops:Array Oper}{o:Oper}{rest:L Oper}{env:Env}{σ:St}{acc:L Fp}{Q:Env->St->L Fp->Prop}
 {bs:L (Nat×L AV)} {ts:L (Nat×Nat)} {us:L Nat} {kn:L Nat}
def dB(h:dj ops.toList kn env o=some true):r9 ops o env:=by
 have:=tT h;simpa using this
def af.LR(kn:L Nat)(hg:dj ops.toList kn env o=some true){f:FuncId}{args:Array Operand}{ats:Array TypeId}(ho:o.op = .call {callee := .value (.func f),args:=args,argTypes:=ats})
  {d:Nat}(hd:o.dst=some d){pW:L CV}(ha:gO (aK X env) args.toList=some pW){r:CV}(hq:bg P X f pW r)
  (k:af P X ops rest ((d,.c r)::env) σ (⟨[],[]⟩::acc) Q):af P X ops (o::rest) env σ acc Q :=
 af.step (dB hg) (bU.LR ho ha hq) (iA.id _) Ai
def af.Mz(kn:L Nat)(hg:dj ops.toList kn env o=some true){x:Operand}{args:Array Operand}{ats:Array TypeId}(ho:o.op = .call {callee := .value x,args:=args,argTypes:=ats})
  {d:Nat}(hd:o.dst=some d){f:FuncId}{caps:L CV}(hx:aK X env x=some (.c (.rR f caps))){pW:L CV}(ha:gO (aK X env) args.toList=some pW){r:CV}(hq:bg P X f (pW++caps) r)
  (k:af P X ops rest ((d,.c r)::env) σ (⟨[],[]⟩::acc) Q):af P X ops (o::rest) env σ acc Q :=
 af.step (dB hg) (bU.Mz ho hx ha hq) (iA.id _) Ai
def af.box(kn:L Nat)(hg:dj ops.toList kn env o=some true){t:TypeId}{x:Operand}(ho:o.op = .box t x){d:Nat}(hd:o.dst=some d){a:AV}(ha:aK X env x=some a)
  {cells:L AV}(hc:jA a=some cells)(hu:MX d us=false)(k:af P X ops rest ((d,.ptr d 0)::env) ⟨(d,cells)::bs,ts,d::us⟩ (⟨[],[d]⟩::acc) Q) :
  af P X ops (o::rest) env ⟨bs,ts,us⟩ acc Q :=
 af.step (dB hg) (bU.box ho hd ha hc hu) (qU d cells) Ai
def af.alloc(hX:cF P X)(kn:L Nat)(hg:dj ops.toList kn env o=some true){t:TypeId}(ho:o.op = .alloc t){d:Nat}(hd:o.dst=some d){i:TI}(hi:X.ti t=some i){za:AV}(hz:i.zero=some za)
  {cells:L AV}(hc:jA za=some cells)(hu:MX d us=false)(k:af P X ops rest ((d,.ptr d 0)::env) ⟨(d,cells)::bs,ts,d::us⟩ (⟨[],[d]⟩::acc) Q) :
  af P X ops (o::rest) env ⟨bs,ts,us⟩ acc Q :=
 af.step (dB hg) (bU.alloc hX ho hd hi hz hc hu) (qU d cells) Ai
def af.store(hX:cF P X)(kn:L Nat)(hg:dj ops.toList kn env o=some true){t:TypeId}{x y:Operand}(ho:o.op = .store t x y)(hd:o.dst=none){i:TI}(hi:X.ti t=some i){key off:Nat}
  (hx:aK X env x=some (.ptr key off)){a:AV}(hy:aK X env y=some a){cells vs r:L AV}(hb:an key bs=some cells)(hc:jA a=some vs)
  (hl:Nat.beq vs.length i.size=true)(hw:bV off vs cells=some r){bs':L (Nat×L AV)}(hs:yU key r bs=some bs')
  (k:af P X ops rest env ⟨bs',ts,us⟩ (⟨[],[key]⟩::acc) Q):af P X ops (o::rest) env ⟨bs,ts,us⟩ acc Q:=by
 rw[tN]at hs
 simp only[aeO]at hs
 subst hs
 exact af.step (dB hg) (bU.store hX ho hd hi hx hy hb hc (beq_true hl) hw) (PD key r) Ai
end
end Go.cK
namespace Go.cK
def closeAll:L AV->Option (L CV)
 |[]=>some []
 |.c v::l=>match closeAll l with
  |some r=>some (v::r)
  |none=>none
 |.own _ s rows::l=>match closeAll l with
  |some r=>some (.sl s rows::r)
  |none=>none
 |_=>none
mutual
def qW(k:Nat)(cs:L CV):AV->Option AV
 |.ptr j off=>match Nat.beq j k with
  |true=>match eu off cs with
   |some r=>some (.c (.ip r))
   |none=>none
  |false=>some (.ptr j off)
 |.gS j off s n=>match Nat.beq j k with
  |true=>none
  |false=>some (.gS j off s n)
 |.agg l=>match qX k cs l with
  |some r=>some (.agg r)
  |none=>none
 |.eY l=>match qX k cs l with
  |some r=>some (.eY r)
  |none=>none
 |a=>some a
def qX(k:Nat)(cs:L CV):L AV->Option (L AV)
 |[]=>some []
 |a::l=>match qW k cs a with
  |some x=>match qX k cs l with
   |some r=>some (x::r)
   |none=>none
  |none=>none
end
def Fw(k:Nat)(cs:L CV):Env->Option Env
 |[]=>some []
 |(t,a)::l=>match qW k cs a with
  |some x=>match Fw k cs l with
   |some r=>some ((t,x)::r)
   |none=>none
  |none=>none
def B3(k:Nat)(cs:L CV):L (Nat×L AV)->Option (L (Nat×L AV))
 |[]=>some []
 |(j,a)::l=>match Nat.beq j k with
  |true=>B3 k cs l
  |false=>match qX k cs a with
   |some x=>match B3 k cs l with
    |some r=>some ((j,x)::r)
    |none=>none
   |none=>none
section
variable {P : Program}{X : Ctx}
def wX{w:World}{g:Gh}{b:Nat}:∀{cells:L AV}{cs:L CV}{o:Nat},closeAll cells=some cs->cB w g b o cells ->
  cells.length=cs.length/\∀(j:Nat) c,cs[j]?=some c->∃u,w.cell? ⟨b,o+j,none⟩=some u/\Rel g.G c u/\c.one=true
 |[],cs,o,h,_=>by simp[closeAll]at h;subst h;simp
 |.c v::l,cs,o,h,hc=>by
  simp only[closeAll]at h
  split at h
  ·rename_i r hr
   simp at h;subst h
   obtain⟨⟨u,h1,h2,h3⟩,_,h4⟩:=hc
   obtain⟨i1,i2⟩:=wX hr h4
   refine⟨by simp[i1],λj c hj=>?_⟩
   cases j with
   |zero=>simp at hj;subst hj;exact⟨u,h1,MO,h3⟩
   |succ j =>
    simp at hj
    have:=i2 j c hj
    rwa[show o+1+j=o+(j+1)from by omega]at this
  ·simp at h
 |.own k s rows::l,cs,o,h,hc=>by
  simp only[closeAll]at h
  split at h
  ·rename_i r hr
   simp at h;subst h
   obtain⟨⟨u,h1,h2,h3⟩,_,h4⟩:=hc
   obtain⟨i1,i2⟩:=wX hr h4
   refine⟨by simp[i1],λj c hj=>?_⟩
   cases j with
   |zero =>
    simp at hj;subst hj
    have:=tP (.own k s rows) (.sl s rows) u Z h2
    exact⟨u,h1,this.1,Z⟩
   |succ j =>
    simp at hj
    have:=i2 j c hj
    rwa[show o+1+j=o+(j+1)from by omega]at this
  ·simp at h
 |.ptr _ _::l,cs,o,h,hc=>by simp[closeAll]at h
 |.gS .. :: l,cs,o,h,hc=>by simp[closeAll]at h
 |.any::l,cs,o,h,hc=>by simp[closeAll]at h
 |.agg _::l,cs,o,h,hc=>by simp[closeAll]at h
 |.eY _::l,cs,o,h,hc=>by simp[closeAll]at h
def Gh.freeze(g:Gh)(w:World)(k b n:Nat):Gh :=
 ⟨λO o=>if O=b/\o<n then w.cell? ⟨O,o,none⟩else g.G O o,λj=>if j=k then none else g.box j,g.tok,g.room⟩
def B4{g:Gh}{w:World}{k b n:Nat}(M:∀b o v,g.G b o=some v->w.cell? ⟨b,o,none⟩=some v):g.G.le (g.freeze w k b n).G:=by
 intro O o v h;simp only[Gh.freeze];split
 ·exact M _ _ _ h
 ·exact h
mutual
def B5{g:Gh}{w:World}{k b:Nat}{cs:L CV}(Y:∀b o v,g.G b o=some v->w.cell? ⟨b,o,none⟩=some v)(Q:g.box k=some b)
  (P:dy (g.freeze w k b cs.length).G b 0 cs):∀{a x:AV}{u:Value},qW k cs a=some x->aL g a u->aL (g.freeze w k b cs.length) x u/\(a.one=true->x.one=true)
 |.ptr j off,x,u,h,C=>by
  simp only[qW]at h;simp only[aL]at C;obtain⟨O,h1,rfl⟩:=C;split at h
  ·rename_i W;have:=beq_true W;subst this;rw[Q]at h1;simp at h1;subst h1;split at h
   ·rename_i r C;simp at h;subst h;obtain⟨rfl,E⟩:=lM C;refine⟨?_,λ_=>rfl⟩;simp only[aL,Rel];exact⟨b,off,Z,by simpa using P.drop (n:=off)⟩
   ·simp at h
  ·rename_i W;have:=beq_false W;simp at h;subst h;exact⟨by simp only[aL];exact⟨O,by simp[Gh.freeze,this,h1],Z⟩,id⟩
 |.gS j off s n,x,u,h,C=>by
  simp only[qW]at h;simp only[aL]at C;obtain⟨O,V,o,h1,rfl,h2,T⟩:=C;split at h
  ·simp at h
  ·rename_i W;have:=beq_false W;simp at h;subst h;exact⟨by simp only[aL];exact⟨O,V,o,by simp[Gh.freeze,this,h1],Z,h2,T⟩,id⟩
 |.any,x,u,h,C=>by
  simp[qW]at h;subst h;exact⟨by simp only[aL]at C ⊢;exact C,id⟩
 |.agg l,x,u,h,C=>by
  simp only[qW]at h;split at h
  ·rename_i r M;simp at h;subst h;simp only[aL]at C;obtain⟨vs,rfl,h1,h2⟩:=C;obtain⟨K,U⟩:=B6 Y Q P M h1;exact⟨by simp only[aL];exact⟨vs,Z,K,U h2⟩,λh=>by simp[AV.one]at h⟩
  ·simp at h
 |.eY l,x,u,h,C=>by
  simp only[qW]at h;split at h
  ·rename_i r M;simp at h;subst h;simp only[aL]at C;obtain⟨vs,rfl,h1,h2⟩:=C;obtain⟨K,U⟩:=B6 Y Q P M h1;have S:r.length=l.length:=by
    have B:=(bJ.get K).1;have a2:=(bJ.get h1).1;omega
   exact⟨by simp only[aL];exact⟨vs,Z,K,bn⟩,λh=>by simp[AV.one]at h⟩
  ·simp at h
 |.c v,x,u,h,C=>by
  simp[qW]at h;subst h;exact⟨by simp only[aL]at C ⊢;exact Rel.mono (B4 Y) _ _ C,id⟩
 |.own o s rows,x,u,h,C=>by
  simp[qW]at h;subst h;refine⟨?_,id⟩;simp only[aL]at C ⊢;obtain⟨base,p,V,e,h1,h2,T,N⟩:=C;refine⟨base,p,V,e,h1,h2,T.mono (B4 Y),?_⟩;cases o with
  |exact=>exact N
  |tok J n=>exact N
def B6{g:Gh}{w:World}{k b:Nat}{cs:L CV}(Y:∀b o v,g.G b o=some v->w.cell? ⟨b,o,none⟩=some v)(Q:g.box k=some b)
  (P:dy (g.freeze w k b cs.length).G b 0 cs):∀{l r:L AV}{us:L Value},qX k cs l=some r->bJ g l us->bJ (g.freeze w k b cs.length) r us/\(l.all AV.one=true->r.all AV.one=true)
 |[],r,us,h,C=>by
  simp[qX]at h;subst h;simp only[bJ]at C ⊢;exact⟨C,id⟩
 |a::l,r,us,h,C=>by
  simp only[qX]at h;split at h
  ·rename_i x I;split at h
   ·rename_i A M;simp at h;subst h;simp only[bJ]at C;obtain⟨u,us,rfl,h1,h2⟩:=C;obtain⟨K,U⟩:=B5 Y Q P I h1;obtain⟨D,H⟩:=B6 Y Q P M h2;refine⟨by simp only[bJ];exact⟨u,us,Z,K,D⟩,λh=>?_⟩;simp only[aeL,aai]at h ⊢;exact⟨U h.1,H h.2⟩
   ·simp at h
  ·simp at h
end
def Fx{k:Nat}{cs:L CV}:∀{env env':Env},Fw k cs env=some env'->∀t x,an t env'=some x->∃a,an t env=some a/\qW k cs a=some x
 |[],env',h,t,x,e=>by simp[Fw]at h;subst h;simp[an]at e
 |(j,a)::l,env',h,t,x,e=>by
  simp only[Fw]at h;split at h
  ·rename_i y Q;split at h
   ·rename_i r C;simp at h;subst h;rw[ai]at e;rw[ai];split at e
    ·simp_all
    ·rename_i I;rw[if_neg I];exact Fx C t x e
   ·simp at h
  ·simp at h
def kI{k:Nat}{cs:L CV}:∀{bs bs':L (Nat×L AV)},B3 k cs bs=some bs'->∀j x,an j bs'=some x->j≠k/\∃a,an j bs=some a/\qX k cs a=some x
 |[],bs',h,j,x,e=>by simp[B3]at h;subst h;simp[an]at e
 |(i,a)::l,bs',h,j,x,e=>by
  simp only[B3]at h;split at h
  ·rename_i K;have:=beq_true K;subst this;obtain⟨h1,A,h2,V⟩:=kI h j x e;exact⟨h1,A,by rw[ai,if_neg h1];exact h2,V⟩
  ·rename_i K;have Y:=beq_false K;split at h
   ·rename_i y Q;split at h
    ·rename_i r C;simp at h;subst h;rw[ai]at e;rw[ai];split at e
     ·simp_all
     ·rename_i W;obtain⟨h1,A,h2,V⟩:=kI C j x e;exact⟨h1,A,by rw[if_neg W];exact h2,V⟩
    ·simp at h
   ·simp at h
def AK.freeze{f:FuncId}{n:Nat}{β:jZ}{R:Ending->World->Prop}{K:L Item}{env env':Env}{bs bs':L (Nat×L AV)}{ts:L (Nat×Nat)}{us:L Nat}(k:Nat)
  {cells:L AV}{cs:L CV}(A:an k bs=some cells)(p:closeAll cells=some cs)(he:Fw k cs env=some env')(Q:B3 k cs bs=some bs')
  (h:AK P X f n β R K env' ⟨bs',ts,us⟩):AK P X f n β R K env ⟨bs,ts,us⟩:=by
 intro g w a cst W;obtain⟨b,E,hlt,hGn,hcw⟩:=W.inv.box k cells A;obtain⟨hlen,S⟩:=wX p hcw;let g':=g.freeze w k b cs.length;have N:g.G.le g'.G:=B4 W.inv.pQ;have D:dy g'.G b 0 cs:=by
  apply dy.kV;intro j c hj;obtain⟨u,I,q,e3⟩:=S j c hj;have hjl:j<cs.length:=(List.getElem?_eq_some_iff.1 hj).1;refine⟨u,?_,Rel.mono N _ _ q,e3⟩;simp only[g',Gh.freeze,aeq,true_and,hjl,if_true];simpa using I
 have U:∀O o,O≠b->g'.G O o=g.G O o:=by
  intro O o T;simp only[g',Gh.freeze,T,false_and,aft]
 have jz:∀(O:Nat)(l r:L AV)(o:Nat),qX k cs l=some r->cB w g O o l->cB w g' O o r:=by
  intro O l
  induction l with
  |nil=>intro r o h1 _;simp[qX]at h1;subst h1;trivial
  |cons x l ih =>
   intro r o h1 h2;simp only[qX]at h1;split at h1
   ·rename_i y hy;split at h1
    ·rename_i r' hr';simp at h1;subst h1;obtain⟨⟨u,h3,h4,h5⟩,h6,h7⟩:=h2;obtain⟨i1,i2⟩:=B5 W.inv.pQ E D hy h4;exact⟨⟨u,h3,i1,i2 h5⟩,h6,ih r' (o+1) hr' h7⟩
    ·simp at h1
   ·simp at h1
 refine h g' w a cst ⟨⟨?_,?_,?_,?_,?_,?_,?_⟩,?_,?_,?_,W.size,W.defers⟩
 ·intro O o v M;simp only[g',Gh.freeze]at M;split at M
  ·exact M
  ·exact W.inv.pQ _ _ _ M
 ·intro j x e;obtain⟨Y,l,I,q⟩:=kI Q j x e;obtain⟨O,V,f2,f3,f4⟩:=W.inv.box j l I;have H:O≠b:=by
   rintro rfl;exact Y (W.inv.gk j k l cells O I A V E)
  exact⟨O,by simp[g',Gh.freeze,Y,V],f2,λo=>by rw[U O o H];exact f3 o,jz O l x 0 q f4⟩
 ·intro j J x x' O e e' I q;obtain⟨Y,l,V,_⟩:=kI Q j x e;obtain⟨af1,l',f1',_⟩:=kI Q J x' e';simp only[g',Gh.freeze,Y,af1,aft]at I q;exact W.inv.gk j J l l' O V f1' I q
 ·intro j m e;obtain⟨gK,I,q⟩:=W.inv.tok j m e;refine⟨gK,I,λO C B hr=>?_⟩;obtain⟨V,f2,f3⟩:=q O C B hr;have H:O≠b:=by rintro rfl;exact f3 k cells A E
  refine⟨V,λo o1 o2=>?_,λJ x e'=>?_⟩
  ·obtain⟨f4,f5,f6⟩:=f2 o o1 o2;exact⟨by rw[U O o H];exact f4,f5,f6⟩
  ·obtain⟨Y,l,f7,_⟩:=kI Q J x e';simp only[g',Gh.freeze,Y,aft];exact f3 J l f7
 ·intro j J m m' O C B lo' hi' e e' I q;exact W.inv.iu j J m m' O C B lo' hi' e e' I q
 ·intro j e;apply W.inv.used j;simp only[g',Gh.freeze]at e;rcases e with e|e
  ·left;intro hn;apply e;split
   ·rfl
   ·exact hn
  ·exact .inr e
 ·intro j x O e T o;obtain⟨Y,l,V,_⟩:=kI Q j x e;simp only[g',Gh.freeze,Y,aft]at T ⊢;exact W.inv.room j l O V T o
 ·intro m v hm;exact Rel.mono N _ _ (W.tO m v hm)
 ·intro t x e;obtain⟨y,I,q⟩:=Fx he t x e;exact(B5 W.inv.pQ E D q (W.env t y I)).1
 ·refine W.frame.trans ⟨Z,Z,Z,aaj _,λ_ _ _=>rfl,λ_ _ _ _=>⟨Z,Z⟩,N,λO o v M=>?_,λj x O e I=>?_,λj m O C B e I => .inr ⟨j,m,C,B,e,I,aaj _,aaj _⟩,λj _ h=>?_⟩
  ·by_cases H:O=b
   ·subst H;exact .inr (.inr (.inl ⟨k,cells,A,E⟩))
   ·rw[U O o H]at M;exact .inl M
  ·obtain⟨Y,l,V,_⟩:=kI Q j x e;simp only[g',Gh.freeze,Y,aft]at I;exact .inr ⟨j,l,V,I⟩
  ·cases p:an j bs' with
   |none=>exact absurd p h
   |some x =>
    obtain⟨Y,l,V,_⟩:=kI Q j x p;exact⟨by rw[V];simp,by simp[g',Gh.freeze,Y],by simp[g',Gh.freeze]⟩
end
end Go.cK
namespace Go.cK
mutual
def HQ(us:L Nat):AV->Bool
 |.c _=>true
 |.own .exact _ _=>true
 |.own (.tok p _) _ _=>mem p us
 |.ptr p _=>mem p us
 |.gS p _ _ _=>mem p us
 |.any=>true
 |.agg l=>o9 us l
 |.eY l=>o9 us l
def o9(us:L Nat):L AV->Bool
 |[]=>true
 |a::l=>match HQ us a with
  |true=>o9 us l
  |false=>false
end
def UF(us:L Nat):Env->Bool
 |[]=>true
 |(_,a)::l=>match HQ us a with
  |true=>UF us l
  |false=>false
def okB(us:L Nat):L (Nat×L AV)->Bool
 |[]=>true
 |(k,a)::l=>match mem k us,o9 us a with
  |true,true=>okB us l
  |_,_=>false
def okT(us:L Nat):L (Nat×Nat)->Bool
 |[]=>true
 |(k,_)::l=>match mem k us with
  |true=>okT us l
  |false=>false
def Has(env:Env)(t:Nat)(a:AV):Prop:=an t env=some a\/∃b v,an t env=some b/\close b=some v/\a = .c v
def Fy(env:Env):Env->Prop
 |[]=>True
 |(t,a)::l=>Has env t a/\Fy env l
def O5(bs:L (Nat×L AV)):L (Nat×L AV)->Prop
 |[]=>True
 |(k,a)::l=>an k bs=some a/\O5 bs l
def MY(ts:L (Nat×Nat)):L (Nat×Nat)->Prop
 |[]=>True
 |(k,a)::l=>an k ts=some a/\MY ts l
def mem_iff{k:Nat}:∀{l:L Nat},mem k l=true↔k∈l
 |[]=>by simp[mem]
 |x::l=>by
  simp only[mem];split
  ·simp_all
  ·rename_i h;have:=beq_false h;simp[mem_iff (l:=l),Ne.symm this]
def Gh.only(g:Gh)(us:L Nat):Gh:=⟨g.G,λk=>if mem k us then g.box k else none,λk=>if mem k us then g.tok k else none,g.room⟩
mutual
def PF{g:Gh}{us:L Nat}:∀{a:AV}{u:Value},HQ us a=true->aL g a u->aL (g.only us) a u
 |.c v,u,_,h=>by simp only[aL]at h ⊢;exact h
 |.own .exact s rows,u,_,h=>by simp only[aL]at h ⊢;exact h
 |.own (.tok Y n) s rows,u,p,h=>by
  simp only[HQ]at p;simp only[aL]at h ⊢;obtain⟨base,G,V,e,h1,h2,W,N,K,S,U⟩:=h;exact⟨base,G,V,e,h1,h2,W,N,K,by simp[Gh.only,p,S],U⟩
 |.ptr Y off,u,p,h=>by
  simp only[HQ]at p;simp only[aL]at h ⊢;obtain⟨b,h1,h2⟩:=h;exact⟨b,by simp[Gh.only,p,h1],h2⟩
 |.gS Y off s n,u,p,h=>by
  simp only[HQ]at p;simp only[aL]at h ⊢;obtain⟨b,V,o,h1,h2,W,S⟩:=h;exact⟨b,V,o,by simp[Gh.only,p,h1],h2,W,S⟩
 |.any,u,_,h=>by simp only[aL]at h ⊢;exact h
 |.agg l,u,p,h=>by
  simp only[HQ]at p;simp only[aL]at h ⊢;obtain⟨vs,e,h1,h2⟩:=h;exact⟨vs,e,J9 p h1,h2⟩
 |.eY l,u,p,h=>by
  simp only[HQ]at p;simp only[aL]at h ⊢;obtain⟨vs,e,h1,h2⟩:=h;exact⟨vs,e,J9 p h1,h2⟩
def J9{g:Gh}{us:L Nat}:∀{l:L AV}{vs:L Value},o9 us l=true->bJ g l vs->bJ (g.only us) l vs
 |[],vs,_,h=>by simpa only[bJ]using h
 |a::l,vs,p,h=>by
  simp only[o9]at p;split at p
  ·rename_i h1;simp only[bJ]at h ⊢;obtain⟨u,us',e,h2,W⟩:=h;exact⟨u,us',e,PF h1 h2,J9 p W⟩
  ·simp at p
end
def RH{us:L Nat}:∀{env:Env},UF us env=true->∀t a,an t env=some a->HQ us a=true
 |[],_,t,a,e=>by simp[an]at e
 |(j,x)::l,h,t,a,e=>by
  simp only[UF]at h;split at h
  ·rename_i O;rw[ai]at e;split at e
   ·simp_all
   ·exact RH h t a e
  ·simp at h
def si{us:L Nat}:∀{bs:L (Nat×L AV)},okB us bs=true->∀k a,an k bs=some a->mem k us=true/\o9 us a=true
 |[],_,t,a,e=>by simp[an]at e
 |(j,x)::l,h,t,a,e=>by
  simp only[okB]at h;split at h
  ·rename_i Y O;rw[ai]at e;split at e
   ·simp_all
   ·exact si h t a e
  ·simp at h
def AU{us:L Nat}:∀{ts:L (Nat×Nat)},okT us ts=true->∀k a,an k ts=some a->mem k us=true
 |[],_,t,a,e=>by simp[an]at e
 |(j,x)::l,h,t,a,e=>by
  simp only[okT]at h;split at h
  ·rename_i Y;rw[ai]at e;split at e
   ·simp_all
   ·exact AU h t a e
  ·simp at h
def Fz{env:Env}:∀{l:Env},Fy env l->∀t a,an t l=some a->Has env t a
 |[],_,t,a,e=>by simp[an]at e
 |(j,x)::l,h,t,a,e=>by
  rw[ai]at e;split at e
  ·rename_i I;subst I;simp at e;subst e;exact h.1
  ·exact Fz h.2 t a e
def pz{bs:L (Nat×L AV)}:∀{l:L (Nat×L AV)},O5 bs l->∀k a,an k l=some a->an k bs=some a
 |[],_,t,a,e=>by simp[an]at e
 |(j,x)::l,h,t,a,e=>by
  rw[ai]at e;split at e
  ·rename_i I;subst I;simp at e;subst e;exact h.1
  ·exact pz h.2 t a e
def qY{ts:L (Nat×Nat)}:∀{l:L (Nat×Nat)},MY ts l->∀k a,an k l=some a->an k ts=some a
 |[],_,t,a,e=>by simp[an]at e
 |(j,x)::l,h,t,a,e=>by
  rw[ai]at e;split at e
  ·rename_i I;subst I;simp at e;subst e;exact h.1
  ·exact qY h.2 t a e
section
variable {P : Program}{X : Ctx}
def AK.Wq{f:FuncId}{n:Nat}{β:jZ}{R:Ending->World->Prop}{K:L Item}{env:Env}{bs:L (Nat×L AV)}{ts:L (Nat×Nat)}{us:L Nat}
  (env':Env)(bs':L (Nat×L AV))(ts':L (Nat×Nat))(us':L Nat)
  (C:Fy env env')(Q:O5 bs bs')(M:MY ts ts')(h1:UF us' env'=true)(h2:okB us' bs'=true)(U:okT us' ts'=true)
  (h:AK P X f n β R K env' ⟨bs',ts',us'⟩):AK P X f n β R K env ⟨bs,ts,us⟩:=by
 intro g w a cs Y;refine h (g.only us') w a cs ⟨⟨Y.inv.pQ,?_,?_,?_,?_,?_,?_⟩,Y.tO,?_,?_,Y.size,Y.defers⟩
 ·intro k x e;obtain⟨q,m2⟩:=si h2 k x e;obtain⟨b,I,W,e3,e4⟩:=Y.inv.box k x (pz Q k x e);refine⟨b,by simp[Gh.only,q,I],W,e3,?_⟩;have p:∀(l:L AV)(o:Nat),o9 us' l=true->cB w g b o l->cB w (g.only us') b o l:=by
   intro l
   induction l with
   |nil=>intro _ _ _;trivial
   |cons y l ih =>
    intro o h1 h2;simp only[o9]at h1;split at h1
    ·rename_i G;obtain⟨⟨u,T,S,B⟩,f4,f5⟩:=h2;exact⟨⟨u,T,PF G S,B⟩,f4,ih (o+1) h1 f5⟩
    ·simp at h1
  exact p x 0 m2 e4
 ·intro k k' x O b e e' I W;simp only[Gh.only,(si h2 k x e).1,(si h2 k' O e').1,if_true]at I W;exact Y.inv.gk k k' x O b (pz Q k x e) (pz Q k' O e') I W
 ·intro k m e;obtain⟨gK,I,W⟩:=Y.inv.tok k m (qY M k m e);refine⟨gK,by simp[Gh.only,AU U k m e,I],λb H V hr=>?_⟩;obtain⟨T,S,B⟩:=W b H V hr;refine⟨T,S,λk' x e'=>?_⟩;simp only[Gh.only,(si h2 k' x e').1,if_true];exact B k' x (pz Q k' x e')
 ·intro k k' m N b H V J E e e' I W;simp only[Gh.only,AU U k m e,AU U k' N e',if_true]at I W;exact Y.inv.iu k k' m N b H V J E (qY M k m e) (qY M k' N e') I W
 ·intro k e;simp only[Gh.only]at e;rw[<- mem_iff (l:=us')];by_cases D:mem k us'=true
  ·exact D
  ·simp[D]at e
 ·intro k x b e I o;simp only[Gh.only,(si h2 k x e).1,if_true]at I;exact Y.inv.room k x b (pz Q k x e) I o
 ·intro t x e;rcases Fz C t x e with hx|⟨y,v,G,hv,rfl⟩
  ·exact PF (RH h1 t x e) (Y.env t x hx)
  ·have:=(tP y v _ hv (Y.env t y G)).1;simp only[aL];exact this
 ·refine Y.frame.trans ⟨Z,Z,Z,aaj _,λ_ _ _=>rfl,λ_ _ _ _=>⟨Z,Z⟩,j8.le.refl _,λ_ _ _ h => .inl h,λk x b e I=>?_,λk m b H V e I=>?_,λk _ h=>?_⟩
  ·simp only[Gh.only,(si h2 k x e).1,if_true]at I;exact .inr ⟨k,x,pz Q k x e,I⟩
  ·simp only[Gh.only,AU U k m e,if_true]at I;exact .inr ⟨k,m,H,V,qY M k m e,I,aaj _,aaj _⟩
  ·cases A:an k bs' with
   |none=>exact absurd A h
   |some x=>exact⟨by rw[pz Q k x A];simp,by simp[Gh.only,(si h2 k x A).1],Z⟩
end
end Go.cK
namespace Go.cK
abbrev kn:L Nat:=[0,1,2,3,4,5,6,7,8,9,10,11,12,13,14,15,16,17,18,19,20,21,22,23,24,25,26,27,28,29,30,31,32,33,34,35,36,37,38,39,40,41,42,43,44,45,46,47,48,49,50,51,52,53,54,55,56,57,58,59,60,61,62,63,64,65,66,67,68,69]
inductive abo where
 |at(K:List Item) (env:Env)
 |stuck
def qZ(X:Ctx)(n:Nat)(Y:L (Nat×L AV)):Nat->L Item->Env->abo
 |0,K,env => .at K env
 |m+1,K,env=>match K with
  |.code (.seq x y)::K'=>qZ X n Y m (.code x :: .code y::K') env
  |.code .skip::K'=>qZ X n Y m K' env
  |.code (.block id c)::K'=>qZ X n Y m (.code c :: .inBlock id::K') env
  |.inBlock _::K'=>qZ X n Y m K' env
  |.code (.exit id)::K'=>match exitTo id K' with
   |some W=>qZ X n Y m W env
   |none => .at K env
  |.code (.region _ ops false)::K'=>match sM ops n with
   |true=>match wU X ops.toList Y [] 500 ops.toList env []with
    |.at [] env' _=>qZ X n Y m K' env'
    |_ => .at K env
   |false => .at K env
  |_ => .at K env
def Pf(X:Ctx)(n:Nat)(Y:L (Nat×L AV))(m:Nat)(K:L Item)(env:Env):abo:=match K with
 |.code (.seq x y)::K'=>qZ X n Y m (.code x :: .code y::K') env
 |.code .skip::K'=>qZ X n Y m K' env
 |.code (.block id c)::K'=>qZ X n Y m (.code c :: .inBlock id::K') env
 |.inBlock _::K'=>qZ X n Y m K' env
 |.code (.exit id)::K'=>match exitTo id K' with
  |some W=>qZ X n Y m W env
  |none => .stuck
 |.code (.region _ ops false)::K'=>match sM ops n with
  |true=>match wU X ops.toList Y [] 500 ops.toList env []with
   |.at [] env' _=>qZ X n Y m K' env'
   |_ => .stuck
  |false => .stuck
 |_ => .stuck
section
variable {P : Program}{X : Ctx}{f : FuncId}{n : Nat}{β : jZ}{R : Ending -> World -> Prop}
def AK.adv(hX:cF P X)(C:P.follows .mixedOrders=true){id:Nat}{ops:Array Oper}{K:L Item}{env env':Env}{σ:St}{acc:L Fp}(O:sM ops n=true)
  (h:wU X ops.toList σ.boxes [] 500 ops.toList env [] = .at [] env' acc)(k:AK P X f n β R K env' σ):AK P X f n β R (.code (.region id ops false)::K) env σ :=
 AK.region C O (af.run hX 500 [] h (af.done k))
def tU(hX:cF P X)(C:P.follows .mixedOrders=true){σ:St}:∀(m:Nat){K Q:L Item}{env env':Env},qZ X n σ.boxes m K env = .at Q env' ->
  AK P X f n β R Q env' σ->AK P X f n β R K env σ:=by
 intro m
 induction m with
 |zero=>intro K Q env env' h k;simp[qZ]at h;obtain⟨rfl,rfl⟩:=h;exact k
 |succ m Y =>
  intro K Q env env' h k;have stop:abo.at K env = .at Q env'->AK P X f n β R K env σ:=by simp_all
  simp only[qZ]at h;split at h
  ·exact AK.seq (Y h k)
  ·exact AK.skip (Y h k)
  ·exact AK.block (Y h k)
  ·exact AK.inBlock (Y h k)
  ·split at h
   ·rename_i e;exact AK.exit e (Y h k)
   ·exact stop h
  ·split at h
   ·rename_i O;split at h
    ·rename_i e;exact AK.adv hX C O e (Y h k)
    ·exact stop h
   ·exact stop h
  ·exact stop h
def AK.OO(hX:cF P X)(C:P.follows .mixedOrders=true){σ:St}(m:Nat){K Q:L Item}{env env':Env}(h:Pf X n σ.boxes m K env = .at Q env')
  (k:AK P X f n β R Q env' σ):AK P X f n β R K env σ:=by
 unfold Pf at h;split at h
 ·exact AK.seq (tU hX C m h k)
 ·exact AK.skip (tU hX C m h k)
 ·exact AK.block (tU hX C m h k)
 ·exact AK.inBlock (tU hX C m h k)
 ·split at h
  ·rename_i e;exact AK.exit e (tU hX C m h k)
  ·simp at h
 ·split at h
  ·rename_i O;split at h
   ·rename_i e;exact AK.adv hX C O e (tU hX C m h k)
   ·simp at h
  ·simp at h
 ·simp at h
def AK.again{K:L Item}{env:Env}{bs:L (Nat×L AV)}{ts:L (Nat×Nat)}{us:L Nat}{env':Env}{bs':L (Nat×L AV)}{ts':L (Nat×Nat)}{us':L Nat}
  (h:AK P X f n β R K env' ⟨bs',ts',us'⟩)(S:Fy env env')(Q:O5 bs bs')(I:MY ts ts')(h1:UF us' env'=true)(h2:okB us' bs'=true)(V:okT us' ts'=true) :
  AK P X f n β R K env ⟨bs,ts,us⟩:=AK.Wq env' bs' ts' us' S Q I h1 h2 V h
def AK.eL{C:Code}{K:L Item}{env:Env}{bs:L (Nat×L AV)}{ts:L (Nat×Nat)}{us:L Nat}{α:Type}(I:α->Prop)(W:α->Nat)
  (E:α->Env)(B:α->L (Nat×L AV))(T:α->L (Nat×Nat))(U:L Nat)(Y:α)(Q:I Y)
  (S:Fy env (E Y))(G:O5 bs (B Y))(M:MY ts (T Y))(h1:UF U (E Y)=true)(h2:okB U (B Y)=true)(V:okT U (T Y)=true)
  (step:∀x,I x->(∀y,I y->W y<W x->AK P X f n β R (.inLoop C::K) (E y) ⟨B y,T y,U⟩)->AK P X f n β R (.code C :: .inLoop C::K) (E x) ⟨B x,T x,U⟩) :
  AK P X f n β R (.code (.loop C)::K) env ⟨bs,ts,us⟩:=by
 refine AK.loop (AK.Wq (E Y) (B Y) (T Y) U S G M h1 h2 V ?_);have p:∀(m:Nat)(x:α),W x<m->I x->AK P X f n β R (.code C :: .inLoop C::K) (E x) ⟨B x,T x,U⟩:=by
  intro m
  induction m with
  |zero=>intro x O;omega
  |succ m N =>
   intro x O J;exact step x J λy H D=>AK.inLoop (N y bn H)
 exact p (W Y+1) Y bn Q
end
section
variable {P : Program}{X : Ctx}{ops : Array Oper}{o : Oper}{rest : L Oper}{env : Env}{σ : St}{acc : L Fp}{Q : Env -> St -> L Fp -> Prop}
def bU.index(hX:cF P X){t:TypeId}{x ix:Operand}(ho:o.op = .indexAddr t x ix){i j:TI}{e:Nat}(hi:X.ti t=some i)(hk:i.kind = .slice e)(hj:X.ti e=some j)
  {a:AV}{s:Nat}{rows:L CV}(ha:aK X env x=some a)(hr:rowsOf a=some (s,rows))(hs:Nat.beq s j.size=true){k:IntKind}{z:Int}(hz:aK X env ix=some (.c (.int k z)))
  {m:Nat}(hm:z=m){r:CV}(hrow:rows[m]?=some r):bU P X o env σ (.c (.ip r.cells)) (λσ=>σ) ⟨[],[]⟩:=by
 intro dz σ1 w g act next Q h1 h2 hinv cA dH hnext
 have yI:aK X dz x=some a:=by rw[h1 x mc];exact ha
 have GN:aK X dz ix=some (.c (.int k z)):=by rw[h1 ix mc];exact hz
 obtain⟨base,len,cap,e1,e2,_,e3⟩:=Fl hr (cy (a:=act) dH cA yI)
 have e4:=we (cy (a:=act) dH cA GN)
 have hlt:m<rows.length:=(List.getElem?_eq_some_iff.1 hrow).1
 obtain⟨d,jQ,iN,_⟩:=hX.run_underlying (w:=w) hi
 rw[hk]at iN;simp only[ff]at iN;subst iN
 have hss:=beq_true hs
 rcases e3 with rfl|⟨b,o',rfl,gw⟩
 ·simp at hlt
 ·have hg:=(gw.get m r hrow).1
  have hrun:(execOp act.eval o).run P w = .ok (.value (.pointer (some ⟨b,o'+m*j.size,none⟩))) w:=by
   obtain⟨dst,op,type,pos,after,guard⟩:=o
   simp only at ho;subst ho
   simp[execOp,e1,e4,hm,Instr.indexAt,asIntOf,jQ,e2,hlt,hX.run_sizeOf hj,Addr.add_lit]
  unfold Oper.wp
  rw[hrun,Oper.upon_value]
  refine hnext _ w g ?_ hinv (iK.refl _ _ _) (Gh.le.refl _)
  simp only[aL,Rel]
  exact⟨b,_,Z,by rw[<- hss];exact hg⟩
def af.index(hX:cF P X)(hg:dj ops.toList kn env o=some true){t:TypeId}{x ix:Operand}(ho:o.op = .indexAddr t x ix){d:Nat}(hd:o.dst=some d)
  {i j:TI}{e:Nat}(hi:X.ti t=some i)(hk:i.kind = .slice e)(hj:X.ti e=some j)
  {a:AV}{s:Nat}{rows:L CV}(ha:aK X env x=some a)(hr:rowsOf a=some (s,rows))(hs:Nat.beq s j.size=true){k:IntKind}{z:Int}(hz:aK X env ix=some (.c (.int k z)))
  (m:Nat)(hm:z=m){r:CV}(hrow:rows[m]?=some r){cs:L CV}(hcs:r.cells=cs)(k:af P X ops rest ((d,.c (.ip cs))::env) σ (⟨[],[]⟩::acc) Q) :
  af P X ops (o::rest) env σ acc Q:=by
 subst hcs
 exact af.step (dB hg) (bU.index hX ho hi hk hj ha hr hs hz hm hrow) (iA.id _) Ai
end
end Go.cK
namespace Go.cK
def tV(s:Nat)(v:CV):Bool:=match v with
 |.eY _=>false
 |.undef=>false
 |.agg cs=>Nat.beq cs.length s
 |_=>Nat.beq 1 s
def iY(s:Nat):L CV->Bool
 |[]=>true
 |v::l=>match tV s v with
  |true=>iY s l
  |false=>false
def sj{s:Nat}{v:CV}(h:tV s v=true){G:j8}{u:Value}(hr:Rel G v u):v.cells.length=s/\bR G v.cells u.cells.toList/\v.cells.all CV.one=true:=by
 have one:∀(v:CV)(u:Value),v.one=true->Rel G v u->u.cells.toList=[u]:=by
  intro v u ho hr
  cases v<;>simp only[Rel]at hr<;>simp[CV.one]at ho
  case int=>subst hr;rfl
  case bool=>subst hr;rfl
  case str=>subst hr;rfl
  case mw=>subst hr;rfl
  case sl=>obtain⟨_,_,_,rfl,_⟩:=hr;rfl
  case ip=>obtain⟨_,_,rfl,_⟩:=hr;rfl
  case rR=>obtain⟨_,rfl,_⟩:=hr;rfl
  case any=>cases u<;>first|rfl|exact absurd Z (hr.1 _)
  case r8=>obtain⟨_,rfl⟩:=hr;rfl
 have fin:∀(v:CV),v.one=true->v.cells=[v]->Rel G v u->Nat.beq 1 s=true->v.cells.length=s/\bR G v.cells u.cells.toList/\v.cells.all CV.one=true:=by
  intro v ho hc hr hs
  rw[hc,one v u ho hr]
  exact⟨beq_true hs,by simp only[bR];exact⟨u,[],Z,hr,Z⟩,by simp[ho]⟩
 cases v with
 |eY=>simp[tV]at h
 |undef=>simp[tV]at h
 |agg cs =>
  simp only[tV]at h
  simp only[Rel]at hr
  obtain⟨vs,rfl,h1,h2⟩:=hr
  exact⟨beq_true h,by simpa[CV.cells,Value.cells]using h1,h2⟩
 |int=>exact fin _ Z Z hr h
 |bool=>exact fin _ Z Z hr h
 |str=>exact fin _ Z Z hr h
 |mw=>exact fin _ Z Z hr h
 |sl=>exact fin _ Z Z hr h
 |ip=>exact fin _ Z Z hr h
 |rR=>exact fin _ Z Z hr h
 |any=>exact fin _ Z Z hr h
 |r8=>exact fin _ Z Z hr h
def oS{s:Nat}:∀{l:L CV},iY s l=true->∀v∈l,tV s v=true
 |[],_,v,h=>by simp at h
 |x::l,h,v,M=>by
  simp only[iY]at h;split at h
  ·rename_i O;rcases List.mem_cons.1 M with rfl|M
   ·exact O
   ·exact oS h v M
  ·simp at h
def flat(s:Nat):L Value->L Value
 |[]=>[]
 |v::l=>v.cells.toList++flat s l
def fL.of_flat{G:j8}{s b:Nat}:∀{rows:L CV}{vs:L Value}{o:Nat},iY s rows=true->bR G rows vs->(∀(j:Nat) u,(flat s vs)[j]?=some u->G b (o+j)=some u)->fL G s b o rows
 |[],vs,o,_,_,_=>by simp[fL]
 |r::rows,vs,o,Y,hr,hG=>by
  simp only[iY]at Y;split at Y
  ·rename_i W;simp only[bR]at hr;obtain⟨u,us,rfl,h1,h2⟩:=hr;obtain⟨V,H,p⟩:=sj W h1;obtain⟨T,S⟩:=bR.get H;simp only[flat]at hG;simp only[fL];refine⟨(AO G b o r).2 (dy.kV λj c Q=>?_),V,fL.of_flat Y h2 λj U E=>?_⟩
   ·grind
   ·have:=hG (s+j) U (by rw[agE bn];rw[show s+j-u.cells.toList.length=j from by omega];exact E);rwa[show o+(s+j)=o+s+j from by omega]at this
  ·simp at Y
section
variable {P : Program}{X : Ctx}
def abp{w:World}{g:Gh}{σ:St}(hinv:Inv w g σ)(us:Array Value)(t:TypeId) :
  let g':Gh:=⟨λb o=>if b=w.heap.size then us[o]? else g.G b o,g.box,g.tok,g.room⟩
  let w':World:={w with heap:=w.heap.push (.cells us t)}
  Inv w' g' σ/\iK w g σ w' g' σ/\g.le g':=by
 intro g' w'
 have hold:∀b o,b<w.heap.size->w'.cell? ⟨b,o,none⟩=w.cell? ⟨b,o,none⟩/\w'.frozen? ⟨b,o,none⟩=w.frozen? ⟨b,o,none⟩:=by
  intro b o hb
  exact⟨World.cell?_alloc_old w _ ⟨b,o,none⟩ Z1,World.frozen?_alloc_old w _ ⟨b,o,none⟩ Z1⟩
 have hsz:w'.heap.size=w.heap.size+1:=by simp[w']
 have J6:∀b o v,g.G b o=some v->b<w.heap.size:=λb o v h=>World.block_lt_of_cell? w ⟨b,o,none⟩ (hinv.pQ b o v h)
 have hle:g.le g':=by
  refine⟨λb o v h=>?_,λ_ _ h=>h,λ_ _ _=>rfl,λk hw gK h=>⟨hw,gK,h,aaj _,λ_=>rfl⟩⟩
  have:=J6 b o v h
  simp only[g'];rw[if_neg bn];exact h
 have Ka:∀b o,b<w.heap.size->g'.G b o=g.G b o:=by grind
 refine⟨⟨?_,?_,hinv.gk,?_,hinv.iu,hinv.used,hinv.BW λk cs b _ _ hb o=>hold b o hb⟩,⟨Z,Z,Z,bn,λb hb _=>by show(w.heap.push _)[b]?=_;rw[age,if_neg bn],λb o hb _=>hold b o hb,hle.1,?_,?_,?_,?_⟩,hle⟩
 ·intro b o v h
  simp only[g']at h
  split at h
  ·rename_i hb;subst hb
   have:=World.cell?_alloc_new w us t o
   rw[show(w.alloc (.cells us t))=w' from rfl]at this
   rw[this];exact h
  ·rw[(hold b o (J6 b o v h)).1];exact hinv.pQ b o v h
 ·intro k cs e
  obtain⟨b,h1,h2,h3,h4⟩:=hinv.box k cs e
  exact⟨b,h1,bn,λo=>by rw[Ka b o h2];exact h3 o,(cB.of_same (λo=>hold b o h2) h4).mono hle⟩
 ·intro k n e
  obtain⟨gK,h1,h2⟩:=hinv.tok k n e
  refine⟨gK,h1,λb lo hi hr=>?_⟩
  obtain⟨h3,h4,h5⟩:=h2 b lo hi hr
  refine⟨bn,λo MW PB=>?_,h5⟩
  obtain⟨h6,⟨u,h7⟩,h8⟩:=h4 o MW PB
  exact⟨by rw[Ka b o h3];exact h6,⟨u,(hold b o h3).1.trans h7⟩,(hold b o h3).2.trans h8⟩
 ·grind
 ·grind
 ·grind
 ·grind
def ju(ρ:Operand->Option AV):Nat->L (Nat×Operand)->Option (L CV)
 |_,[]=>some []
 |i,(j,x)::l=>match Nat.beq j i,ρ x with
  |true,some a=>match close a with
   |some v=>match ju ρ (i+1) l with
    |some r=>some (v::r)
    |none=>none
   |none=>none
  |_,_=>none
def q8{ρ Y:Operand->Option AV}:∀(l:L (Nat×Operand))(i:Nat),(∀p∈l,Y p.2=ρ p.2)->ju Y i l=ju ρ i l
 |[],_,_=>rfl
 |(j,x)::l,i,h=>by
  simp only[ju,h (j,x) cS,q8 l (i+1) (λp W=>h p (by simp[W]))]
def wY{g:Gh}{ρ:Operand->Option AV}{ev:Operand->Value}(u:∀x v,ρ x=some v->aL g v (ev x)):∀{l:L (Nat×Operand)}{i:Nat}{rows:L CV},
  ju ρ i l=some rows->bR g.G rows (l.map λp=>ev p.2)/\(l.map λ(j,x)=>(j,ev x))=((l.map λp=>ev p.2).zipIdx i).map λ(v,j)=>(j,v)
 |[],i,rows,h=>by simp[ju]at h;subst h;simp[bR]
 |(j,x)::l,i,rows,h=>by
  simp only[ju]at h;split at h
  ·rename_i a Y O;split at h
   ·rename_i v M;split at h
    ·rename_i r C;simp at h;subst h;obtain⟨h1,h2⟩:=wY u C;have:=beq_true Y;subst this;refine⟨by simp only[aed,bR];exact⟨_,_,Z,(tP a v _ M (u x a O)).1,h1⟩,?_⟩;simp only[aed,afx,h2]
    ·simp at h
   ·simp at h
  ·simp at h
def B7(s:Nat):∀(vals:L Value)(k:Nat)(arr:Array Value),(∀v∈vals,v.cells.size=s)->(k+vals.length)*s<=arr.size ->
  ∃res,Instr.fill (λi=>some (i*s,s)) arr ((vals.zipIdx k).map λ(v,j)=>(j,v))=some res/\res.size=arr.size /\
   ∀(j:Nat),res[j]?=if k*s<=j/\j<k*s+(flat s vals).length then(flat s vals)[j-k*s]? else arr[j]?
 |[],k,arr,_,_=>⟨arr,by simp[Instr.fill],Z,λj=>by simp[flat];intros;omega⟩
 |v::vals,k,arr,h1,h2=>by
  have hv:=h1 v cS
  have hks:(k+1)*s=k*s+s:=agG k s
  have B8:(k+1+vals.length)*s<=arr.size:=by simp at h2;rwa[show k+1+vals.length=k+(vals.length+1)from by omega]
  have hfit:k*s+s<=arr.size:=by grind
  obtain⟨f1,f2⟩:=Fm (k*s) v.cells.toList 0 arr ob
  obtain⟨res,r1,r2,r3⟩:=B7 s vals (k+1) _ (λx hx=>h1 x (by simp[hx])) (by rw[f1];exact B8)
  refine⟨res,?_,by rw[r2,f1],λj=>?_⟩
  ·simp only[afx,aed,Instr.fill]
   rw[if_neg ob]
   have Wg:v.cells.zipIdx.foldl (λcs (c,j)=>cs.setIfInBounds (k*s+j) c) arr =
     (v.cells.toList.zipIdx 0).foldl (λ(cs:Array Value)(p:Value×Nat)=>cs.setIfInBounds (k*s+p.2) p.1) arr:=by
    rw[<- Array.foldl_toList];simp
   rw[Wg];exact r1
  ·rw[r3,f2]
   have hl:v.cells.toList.length=s:=by simpa using hv
   simp only[flat,aaz,hks,hl,aeT]
   by_cases c1:k*s+s<=j/\j<k*s+s+(flat s vals).length
   ·grind
   ·grind
def bU.buildSlice(hX:cF P X){o:Oper}{env:Env}{σ:St}{t:TypeId}{len:Nat}{parts:Array (Nat×Operand)}(ho:o.op = .buildSlice t len parts)
  {i j:TI}{e:Nat}(hi:X.ti t=some i)(hk:i.kind = .slice e)(hj:X.ti e=some j){za:AV}(hz:j.zero=some za){rows:L CV}(hp:ju (aK X env) 0 parts.toList=some rows)
  (hl:Nat.beq rows.length len=true)(hs:iY j.size rows=true)(hb:Nat.ble (len*j.size) 16777216=true) :
  bU P X o env σ (.own .exact j.size rows) (λσ=>σ) ⟨[],[]⟩:=by
 intro dz σ1 w g act next Q h1 h2 hinv cA dH hnext
 have BA:ju (aK X dz) 0 parts.toList=some rows:=by
  rw[q8 _ _ (λp hp=>h1 p.2 RK)];exact hp
 obtain⟨c1,c2⟩:=wY (g:=g) (ev:=act.eval) (λx v hx=>cy dH cA hx) BA
 have hlen:=beq_true hl
 have hne:j.size≠0:=by obtain⟨_,_,_,_,_,_,hh⟩:=hX.ti e j hj;exact hh
 obtain⟨d,jQ,iN,_⟩:=hX.run_underlying (w:=w) hi
 rw[hk]at iN;simp only[ff]at iN;subst iN
 obtain⟨z,z1,z2,z3⟩:=hX.mK (w:=w) hj hz
 have hcs:∀v∈(parts.toList.map λp=>act.eval p.2),v.cells.size=j.size:=by
  intro v hv
  obtain⟨m,hm⟩:=afS hv
  obtain⟨l1,l2⟩:=bR.get c1
  have hml:m<rows.length:=by rw[l1];exact(List.getElem?_eq_some_iff.1 hm).1
  obtain⟨u,e1,e2⟩:=l2 m rows[m] (by simp[hml])
  rw[hm]at e1;simp at e1;subst e1
  obtain⟨a1,a2,_⟩:=sj (oS hs rows[m] (ags hml)) e2
  have:=(bR.get a2).1
  simp at this;omega
 have hvl:(parts.toList.map λp=>act.eval p.2).length=len:=by rw[<- (bR.get c1).1];exact hlen
 obtain⟨res,r1,r2,r3⟩:=B7 j.size (parts.toList.map λp=>act.eval p.2) 0 ((Array.range (len*j.size)).map (z.cells[· % z.cells.size]!)) hcs (by simp at hvl ⊢;rw[hvl];exact aaj _)
 have hrun:(execOp act.eval o).run P w = .ok (.value (.slice (some ⟨w.heap.size,0,none⟩) len len)) {w with heap:=w.heap.push (.cells res e)}:=by
  obtain⟨dst,op,type,pos,after,guard⟩:=o
  simp only at ho;subst ho
  have Bs:¬(2^24<len*j.size):=by have:=aep hb;omega
  have MZ:∀zc:Array Value,(Array.range (len*j.size)).map (λx=>zc[x%zc.size]!)=(Array.range (len*j.size)).map (λx=>z.cells[x%z.cells.size]!) ->
    Instr.fill (λi=>some (i*j.size,j.size)) ((Array.range (len*j.size)).map (λx=>zc[x%zc.size]!)) (parts.map λx=>(x.1,act.eval x.2)).toList=some res:=by
   intro zc q2
   rw[q2,aeY]
   have c2':(parts.toList.map λx=>(x.1,act.eval x.2))=_:=c2
   rw[c2'];exact r1
  simp only[execOp,Instr.buildSlice,Sem.run_bind,jQ,Result.andThen_ok,hX.run_sizeOf hj]
  rw[if_neg (by simpa using Bs)]
  by_cases h0:len*j.size=0
  ·rw[if_pos h0]
   simp only[Sem.run_bind,Sem.run_pure,Result.andThen_ok]
   rw[MZ #[] (by rw[h0];simp)]
   simp[newRow]
  ·rw[if_neg h0]
   simp only[Sem.run_bind,Sem.run_pure,Result.andThen_ok,z1]
   rw[MZ z.cells rfl]
   simp[newRow]
 unfold Oper.wp
 rw[hrun,Oper.upon_value]
 obtain⟨i1,i2,i3⟩:=abp hinv res e
 refine hnext _ _ _ ?_ i1 i2 i3
 simp only[aL]
 refine⟨_,_,_,Z,hlen.symm,aaj _,?_,Z⟩
 right
 refine⟨w.heap.size,0,Z,fL.of_flat hs (bR.mono i3.1 _ _ c1) λm u hu=>?_⟩
 simp only[if_true,aeq]
 have hm:m<(flat j.size (parts.toList.map λp=>act.eval p.2)).length:=(List.getElem?_eq_some_iff.1 hu).1
 rw[r3 m,if_pos bn]
 simpa using hu
end
section
variable {P : Program}{X : Ctx}{ops : Array Oper}{o : Oper}{rest : L Oper}{env : Env}{σ : St}{acc : L Fp}{Q : Env -> St -> L Fp -> Prop}
def af.buildSlice(hX:cF P X)(kn:L Nat)(hg:dj ops.toList kn env o=some true){t:TypeId}{len:Nat}{parts:Array (Nat×Operand)}(ho:o.op = .buildSlice t len parts){d:Nat}(hd:o.dst=some d)
  {i j:TI}{e:Nat}(hi:X.ti t=some i)(hk:i.kind = .slice e)(hj:X.ti e=some j){za:AV}(hz:j.zero=some za){rows:L CV}(hp:ju (aK X env) 0 parts.toList=some rows)
  (hl:Nat.beq rows.length len=true){s:Nat}(hsz:j.size=s)(hs:iY s rows=true)(hb:Nat.ble (len*s) 16777216=true)
  (k:af P X ops rest ((d,.own .exact s rows)::env) σ (⟨[],[]⟩::acc) Q):af P X ops (o::rest) env σ acc Q:=by
 subst hsz
 exact af.step (dB hg) (bU.buildSlice hX ho hi hk hj hz hp hl hs hb) (iA.id _) Ai
end
end Go.cK
namespace Go.cK
open Go.ChangeShapes Go.WideShapes Go.RowKit
def qM(w:World):j8:=λb o=>w.cell? ⟨b,o,none⟩
section
variable {H : Type}{enc : TypeId × Value -> H}{P : Program}{W : World}{B : DataW H -> Nat}
def RD(enc:TypeId×Value->H)(P:Program)(W:World)(B:DataW H->Nat)(n:Nat)(t:TypeId)(R:CV->Nat->Prop):Prop :=
 ∀Y,Y<=n->∀cs x,DataW.trod enc P W 0 (λ_=>true) true Y t cs=some x ->
  ∃c:CV,bR (qM W) c.cells cs/\c.cells.all CV.one=true/\R c (B x.1)
def RD.mono{n m:Nat}{t:TypeId}{R V:CV->Nat->Prop}(h:RD enc P W B n t R)(C:m<=n)(U:∀c k,R c k->V c k):RD enc P W B m t V :=
 λY hf cs x O=>by
  obtain⟨c,h1,h2,T⟩:=h Y (aeS hf C) cs x O;exact⟨c,h1,h2,U _ _ T⟩
def RD.zero{t:TypeId}{R:CV->Nat->Prop}:RD enc P W B 0 t R:=λY hf cs x O=>by
 obtain rfl:Y=0:=by omega
 simp[DataW.trod]at O
structure BR(B:DataW H->Nat):Prop where
 lit:∀l,1<=B (.lit l)
 str:∀s,s.length+1<=B (.lit (.string s))
 nil:1<=B .nil
 slice:∀l r,(l.map B).sum+1<=B (.slice l r)
 agg:∀l,(l.map B).sum+1<=B (.agg l)
def RD.int(hB:BR B){n:Nat}{t:TypeId}{k:IntKind}(hu:P.underlying t=some (.int k)) :
  RD enc P W B n t λc m=>∃z,c = .int k z/\(Lit.int k z).wf=true/\1<=m:=λfuel hf cs x hx=>by
 obtain⟨z,rfl,rfl,hw⟩:=DataW.trod_int hu hx
 exact⟨.int k z,by simp[CV.cells,bR,Rel],Xa,z,Z,hw,hB.lit _⟩
def RD.str(hB:BR B){n:Nat}{t:TypeId}(hu:P.underlying t=some .string) :
  RD enc P W B n t λc m=>∃s,c = .str s/\s.length+1<=m:=λfuel hf cs x hx=>by
 obtain⟨s,rfl,rfl,hw⟩:=DataW.trod_string hu hx
 exact⟨.str s.data.toList,by simp[CV.cells,bR,Rel],Xa,_,Z,hB.str _⟩
def CQ(R:CV->Nat->Prop):L CV->Nat->Prop
 |[],m=>0<=m
 |r::rs,m=>∃k P,R r k/\CQ R rs P/\k+P<=m
def RD.slice(hB:BR B){n:Nat}{t e:TypeId}{s:Nat}(hu:P.underlying t=some (.slice e))(hs:P.cellsOf e=s)(h0:0<s){R:CV->Nat->Prop}(h:RD enc P W B n e R) :
  RD enc P W B (n+1) t λc m=>∃rows,c = .sl s rows/\∃m',CQ R rows m'/\m'+1<=m:=λfuel hf cs x hx=>by
 subst hs
 rcases DataW.trod_slice hu hx with ⟨rfl,rfl⟩|⟨a,len,cap,elems,rest,n',rfl,rfl,rfl,_,hl,hc,hlen,hel,_,_⟩
 ·refine⟨.sl _ [],?_,Xa,[],Z,0,aaj _,by simpa using hB.nil⟩
  simp only[CV.cells,bR]
  refine⟨_,_,Z,?_,Z⟩
  simp only[Rel]
  exact⟨none,0,0,Z,Z,aaj _,.inl trivial⟩
 ·have hs:elems=[]\/∃b o,a=⟨b,o,none⟩:=by
   cases elems with
   |nil=>exact .inl Z
   |cons y l =>
    right
    have Yx:=hel 0 (by simp at hlen;omega)
    simp only[afP,ahA]at Yx
    obtain⟨vs,hvs,hy⟩:=Yx
    obtain⟨_,hvl,hcell⟩:=World.cells?_some hvs
    obtain⟨b,o,spot⟩:=a
    have g0:=hcell 0 h0
    obtain⟨v0,SV⟩:∃v0,vs[0]?=some v0:=by
     cases vs with
     |nil=>simp at hvl;omega
     |cons v _=>exact⟨v,Z⟩
    rw[SV]at g0
    have h9:=World.cell?_spot g0
    have adx:spot=none:=by simpa[Addr.add]using h9
    exact⟨b,o,by rw[adx]⟩
  have key:∀(b o:Nat),a=⟨b,o,none⟩->∀(l:L (DataW H×L MemPlace))(k:Nat),(∀i,i<l.length->(W.cells? 0 (a.add ((k+i)*P.cellsOf e)) (P.cellsOf e)).bind (DataW.trod enc P W 0 (λ_=>true) true n' e)=l[i]?) ->
    ∃rows,rows.length=l.length/\CQ R rows ((l.map λx=>B x.1).sum)/\fL (qM W) (P.cellsOf e) b (o+k*P.cellsOf e) rows:=by
   intro b o hab l
   subst hab
   induction l with
   |nil=>intro k _;exact⟨[],Z,by simp[CQ],by simp[fL]⟩
   |cons y l ih =>
    intro k hk
    obtain⟨rows,h1,h2,h4⟩:=ih (k+1) λi hi=>by
     have:=hk (i+1) ob
     rw[show k+1+i=k+(i+1)from by omega];simpa using this
    have Yx:=hk 0 cS
    simp only[aeT,afP,ahA]at Yx
    obtain⟨vs,hvs,hy⟩:=Yx
    obtain⟨c,c1,c2,c3⟩:=h n' bn vs y hy
    obtain⟨_,hvl,hcell⟩:=World.cells?_some hvs
    refine⟨c::rows,abu,⟨_,_,c3,h2,cS⟩,?_⟩
    simp only[fL]
    refine⟨(AO _ _ _ _).2 (dy.kV λj cj hj=>?_),by rw[(bR.get c1).1,hvl],?_⟩
    ·obtain⟨u,hu1,X9⟩:=(bR.get c1).2 j cj hj
     refine⟨u,?_,X9,List.all_eq_true.1 c2 cj (aaB hj)⟩
     have hjl:j<P.cellsOf e:=by rw[<- hvl];exact(List.getElem?_eq_some_iff.1 hu1).1
     have:=hcell j hjl
     rw[add_plain,add_plain]at this
     rw[qM,this,hu1]
    ·rwa[show o+(k+1)*P.cellsOf e=o+k*P.cellsOf e+P.cellsOf e from by rw[agG];omega]at h4
  have hBs:(elems.map λx=>B x.1).sum+1<=B (.slice (elems.map (·.1)) (rest.map (·.1))):=by
   have:=hB.slice (elems.map (·.1)) (rest.map (·.1));rwa[List.map_map]at this
  rcases hs with rfl|⟨b,o,rfl⟩
  ·refine⟨.sl _ [],?_,Xa,[],Z,0,aaj _,by simpa using hBs⟩
   simp only[CV.cells,bR]
   refine⟨_,_,Z,?_,Z⟩
   simp only[Rel]
   exact⟨_,_,_,Z,by simpa using hlen.symm,hl,.inl trivial⟩
  ·obtain⟨rows,h1,h2,h4⟩:=key b o rfl elems 0 λi hi=>by rw[aeq];exact hel i bn
   refine⟨.sl _ rows,?_,Xa,rows,Z,_,h2,hBs⟩
   simp only[CV.cells,bR]
   refine⟨_,_,Z,?_,Z⟩
   simp only[Rel]
   exact⟨_,_,_,Z,bn,hl,.inr ⟨b,o,Z,by simpa using h4⟩⟩
def DY:L (CV->Nat->Prop)->L CV->Nat->Prop
 |[],l,_=>l=[]
 |R::Rs,l,m=>∃c k O P,l=c.cells++O/\R c k/\DY Rs O P/\k+P<=m
def AW(enc:TypeId×Value->H)(P:Program)(W:World)(B:DataW H->Nat)(n:Nat):Nat->L (Nat×TypeId)->L (CV->Nat->Prop)->Prop
 |o,[],Rs=>Rs=[]
 |o,(q,t)::fs,Rs=>∃R Y,Rs=R::Y/\q=o/\RD enc P W B n t R/\AW enc P W B n (o+P.cellsOf t) fs Y
def nk(P:Program):Nat->L (Nat×TypeId)->Nat
 |o,[]=>o
 |o,(_,t)::fs=>nk P (o+P.cellsOf t) fs
def CZ{n:Nat}{cs:L Value}:∀(Q:L (Nat×TypeId))(o:Nat)(Rs:L (CV->Nat->Prop))(xs:L (DataW H×L MemPlace)),AW enc P W B n o Q Rs ->
  (∀(i:Nat)(q:Nat)(t:TypeId),Q[i]?=some (q,t)->DataW.trod enc P W 0 (λ_=>true) true n t ((cs.drop q).take (P.cellsOf t))=xs[i]?)->xs.length=Q.length->cs.length=nk P o Q ->
  ∃l,bR (qM W) l (cs.drop o)/\l.all CV.one=true/\DY Rs l ((xs.map λx=>B x.1).sum)
 |[],o,Rs,xs,O,hx,hl,S=>by
  simp only[AW]at O;subst O;simp only[nk]at S;exact⟨[],by simp[bR,S],cS,by simp[DY]⟩
 |(q,t)::Q,o,Rs,[],O,hx,hl,S=>by simp at hl
 |(q,t)::Q,o,Rs,x::xs,O,hx,hl,S=>by
  simp only[AW]at O;obtain⟨R,Y,rfl,rfl,U,O⟩:=O;simp only[nk]at S;have V:=hx 0 q t cS;simp only[afP]at V;obtain⟨c,u,T,p⟩:=U n (aaj _) _ _ V;obtain⟨l,N,M,K⟩:=CZ Q _ Y xs O (λi J I G=>by simpa using hx (i+1) J I (by simpa using G)) (by simpa using hl) S;refine⟨c.cells++l,?_,by rw[afL,T,M];rfl,c,_,l,_,Z,p,K,cS⟩;have:=fK u N;rwa[<- List.drop_drop,afk]at this
def RD.struct(q:BR B){n:Nat}{t:TypeId}{Q:Array Field}(E:P.underlying t=some (.struct Q)){Y:L (Nat×TypeId)}(V:Q.toList.map (λf=>(f.offset,f.type))=Y)
  {Rs:L (CV->Nat->Prop)}(O:∀m,m<=n->AW enc P W B m 0 Y Rs)(S:P.cellsOf t=nk P 0 Y) :
  RD enc P W B (n+1) t λc m=>∃l,c = .agg l/\∃U,DY Rs l U/\U+1<=m:=λT hf cs x N=>by
 obtain⟨xs,M,rfl,rfl,J,I,u⟩:=DataW.trod_struct E N;subst V
 obtain⟨l,H,G,D⟩:=CZ (cs:=cs) _ 0 Rs xs (O M bn) (λi C A K=>by
  simp only[List.getElem?_map,Option.map_eq_some_iff]at K;obtain⟨f,hf,S⟩:=K;simp only[aff]at S;obtain⟨rfl,rfl⟩:=S
  exact u i f (by simpa using hf)) (by simpa using I) (J.trans S)
 refine⟨.agg l,by simpa[CV.cells]using H,by simpa[CV.cells]using G,l,Z,_,D,?_⟩;have:=q.agg (xs.map (·.1));rwa[List.map_map]at this
def E6(R:CV->Nat->Prop):Nat->L CV->Nat->Prop
 |0,l,_=>l=[]
 |n+1,l,m=>∃c k O P,l=c.cells++O/\R c k/\E6 R n O P/\k+P<=m
def RD.array(hB:BR B){n:Nat}{t e:TypeId}{len:Nat}(hu:P.underlying t=some (.array len e))(he:P.cellsOf t=len*P.cellsOf e){R:CV->Nat->Prop}(h:RD enc P W B n e R) :
  RD enc P W B (n+1) t λc m=>∃l,c = .agg l/\∃m',E6 R len l m'/\m'+1<=m:=λfuel hf cs x hx=>by
 have hx':∃(xs:L (DataW H×L MemPlace)) (m:Nat),fuel=m+1/\x=(.agg (xs.map (·.1)),xs.flatMap (·.2))/\cs.length=P.cellsOf t/\xs.length=len /\
   ∀(i:Nat),i<len->DataW.trod enc P W 0 (λ_=>true) true m e ((cs.drop (i*P.cellsOf e)).take (P.cellsOf e))=xs[i]?:=by
  cases fuel with
  |zero=>simp[DataW.trod]at hx
  |succ m =>
   unfold DataW.trod at hx
   rw[hu]at hx
   split at hx<;>simp_all
   obtain⟨hl,xs,hp,hd⟩:=hx
   exact⟨xs,hd.symm,by simpa using mapM_some_length hp,λi hi=>mapM_some_get hp i i (by simp[hi])⟩
 obtain⟨xs,m,rfl,rfl,hl,XW,jg⟩:=hx'
 have key:∀(ys:L (DataW H×L MemPlace))(k:Nat),(∀i,i<ys.length->DataW.trod enc P W 0 (λ_=>true) true m e ((cs.drop ((k+i)*P.cellsOf e)).take (P.cellsOf e))=ys[i]?)->cs.length=(k+ys.length)*P.cellsOf e ->
   ∃l,bR (qM W) l (cs.drop (k*P.cellsOf e))/\l.all CV.one=true/\E6 R ys.length l ((ys.map λx=>B x.1).sum):=by
  intro ys
  induction ys with
  |nil=>intro k _ hk;exact⟨[],by simp only[bR,List.drop_eq_nil_iff];simp at hk;omega,cS,by simp[E6]⟩
  |cons y ys ih =>
   intro k hk hle
   obtain⟨l,l1,l2,l3⟩:=ih (k+1) (λi hi=>by
    have:=hk (i+1) ob
    rw[show k+1+i=k+(i+1)from by omega];simpa using this) (by rw[hle];congr 1;simp;omega)
   have h0:=hk 0 cS
   simp only[aeT,afP]at h0
   obtain⟨c,c1,c2,c3⟩:=h m bn _ _ h0
   refine⟨c.cells++l,?_,by rw[afL,c2,l2];rfl,c,_,l,_,Z,c3,l3,cS⟩
   have:=fK c1 l1
   rwa[agG,<- List.drop_drop,afk]at this
 obtain⟨l,l1,l2,l3⟩:=key xs 0 (λi hi=>by rw[aeq];exact jg i bn) (by rw[hl,he,XW,aeq])
 rw[XW]at l3
 refine⟨.agg l,by simpa[CV.cells]using l1,by simpa[CV.cells]using l2,l,Z,_,l3,?_⟩
 have:=hB.agg (xs.map (·.1));rwa[List.map_map]at this
def AL{R:CV->Nat->Prop}{t e:TypeId}{v:Value}{d:DataW H}{T:L MemPlace}{E:Nat}{r:Reach}(Q:P.underlying t=some (.slice e))(V:∀n,RD enc P W B n t R)
  (O:DataW.Trod enc P W 0 (λ_=>true) true t v d T)(hok:Value.okWide P W r E t v)(N:∀c k,R c k->∃s l,c = .sl s l):∃c,Rel (qM W) c v/\R c (B d):=by
 obtain⟨Y,hf⟩:=O;obtain⟨c,h1,h2,U⟩:=V Y Y (aaj _) _ _ hf;refine⟨c,?_,U⟩;obtain⟨s,l,rfl⟩:=N _ _ U;obtain⟨a,G,M,rfl⟩:=okWide_slice Q hok;simp only[CV.cells,Value.cells,bR]at h1;obtain⟨u,us,S,K,rfl⟩:=h1;simp at S;subst S;exact K
def aba(W:World):∀b o v,qM W b o=some v->W.cell? ⟨b,o,none⟩=some v:=λ_ _ _ h=>h
def Kb{w:World}{Y:Nat->Bool}:DataW.TrodVars enc P w Y [] [] []:=by simp[DataW.TrodVars]
def Pq{f:Func}{s:ChangeSpec}{V M U again:Bool}{Q:World}{G G':j8}{args:Array Value}{v:Value}{S gs:L (DataW H)}{before:L MemPlace}
  (B:DataW.Whole enc P f.params.toList s.vars V W args.toList S gs before)(Y:s.vars=[])
  (hl:laidOutB P=true)(hm:mapsRowed P=true)(hz:∀t e,t<P.types.size->P.underlying t=some (.slice e)->0<P.cellsOf e)(hT:∀t∈f.params.toList,t<P.types.size)
  (I:MV W G Q G'){tb:TypeId}(hr:f.resultTypes = #[tb])(hb:P.underlying tb=some .bool){b:Bool}(hv:v = .bool b)
  (K:s.fn H (S++gs)={results:=[.lit (.bool b)],args:=S}):s.post enc P f V M U again W args v Q:=by
 subst hv;have C:=B.lt;have A:=B;obtain⟨p,q,hA,hV,rfl,hfz,hnd⟩:=B;rw[Y]at hV;obtain⟨rfl,rfl⟩:=trodVars_none hV;simp only[aec]at *;have J:∀x∈p,W.sameAt Q x:=by
  intro x O;have:=I.block x.block (C x O);cases x with
  |cell E off=>simp only[World.sameAt,World.cell?];simp only[MemPlace.block]at this;rw[this]
  |map E=>exact this
 have T:∀N:Nat->Bool,(∀x∈p,N x.block=true)->DataW.TrodAll enc P Q 0 N true f.params.toList args.toList S p:=by
  intro N hsp;have h1:=DataW.TrodAll.respare (kids_rows hl hm) hz hT hA hsp;have:∀(ts:L TypeId)(vs:L Value)(S:L (DataW H))(D:L MemPlace),DataW.TrodAll enc P W 0 N true ts vs S D->(∀x∈D,W.sameAt Q x)->DataW.TrodAll enc P Q 0 N true ts vs S D:=by
   intro ts
   induction ts with
   |nil=>intro vs S D h _;obtain⟨rfl,rfl,rfl⟩:=trodAll_nil h;rfl
   |cons t ts ih =>
    intro vs S D h hs;obtain⟨v,vs',d,ds',p1,q1,rfl,rfl,rfl,⟨n,h2⟩,h3⟩:=trodAll_cons h;exact⟨p1,q1,⟨n,DataW.trod_carry n _ _ _ h2 λx O=>hs x (List.mem_append_left _ O)⟩,ih _ _ _ h3 λx O=>hs x (List.mem_append_right _ O),Z⟩
  exact this _ _ _ _ h1 J
 have u:∀(b0:Nat)(N:Nat->Bool)(hd:Bool),DataW.TrodAll enc P Q b0 N hd f.resultTypes.toList ((Value.bool b).resultList f.resultTypes.size) [.lit (.bool b)] []:=by
  intro b0 N hd;rw[hr];exact trodAll_mk1 (shut_bool hb b)
 have adz:W.keptBut Q (· ∈ p):=by
  refine⟨I.os,I.output,λi hi=>?_⟩;rw[I.block i hi];cases W.heap[i]? with
  |none=>simp
  |some o=>cases o<;>simp
 refine⟨S,[],p,[],p,[],by simpa using A,by simp only[aec,K];exact u _ _ _,by simp only[aec,K];exact T _ λx O=>by simpa using C x O,
  by simp only[aec,K,Y];rfl,World.keptBut_mono (λx O=>⟨O,.inr (.inl O)⟩) adz,λ_=>?_⟩
 refine⟨ok_one hr Z (okWide_bool_mk hb b),_,_,([]++p)++[],⟨[]++p,[],trodAll_append (T _ (λ_ _=>rfl)) (u _ _ _),(by rw[Y];exact Kb),Z,?_,?_⟩,?_⟩
 ·intro E off hp;have BA:MemPlace.cell E off∈p:=by simpa using hp
  rw[(I.kept E off (C _ BA)).2];exact hfz E off (by simpa using BA)
 ·simp_all
 ·simp_all
end
end Go.cK
namespace Go.cK
section
variable {P : Program}{X : Ctx}{ops : Array Oper}{o : Oper}{rest : L Oper}{env : Env}{σ : St}{acc : L Fp}{Q : Env -> St -> L Fp -> Prop}
def af.look(hX:cF P X)(kn:L Nat)(G:dj ops.toList kn env o=some true){d:Nat}(O:o.dst=some d){v:AV}(M:gy X σ.boxes (aK X env) o.op=some v)
  (C:mL (aK X env) o.op=[])(k:af P X ops rest ((d,v)::env) σ (⟨[],[]⟩::acc) Q):af P X ops (o::rest) env σ acc Q:=by
 have:=af.step (Q:=Q) (rest:=rest) (acc:=acc) (dB G) (bU.pure (σ:=σ) hX M) (iA.id _);rw[O,C]at this;exact this k
def af.quo(hX:cF P X)(kn:L Nat)(G:dj ops.toList kn env o=some true){t Y:TypeId}{x y:Operand}(p:o.op = .binOp .quo t x y Y){d:Nat}(O:o.dst=some d){i:TI}(K:X.ti t=some i)
  {q:IntKind}{a b:Int}(N:aK X env x=some (.c (.int q a)))(W:aK X env y=some (.c (.int q b)))(D:sameKind q q=true)(V:b≠0)
  (k:af P X ops rest ((d,.c (.int q (q.wrap (a.tdiv b))))::env) σ (⟨[],[]⟩::acc) Q):af P X ops (o::rest) env σ acc Q:=by
 refine af.look hX kn G O ?_ ?_ k
 ·rw[p];simp only[gy,K,N,W,Wc,D,Wb];have:(b==0)=false:=by simpa using V
  rw[this]
 ·rw[p];rfl
def af.rem(hX:cF P X)(kn:L Nat)(G:dj ops.toList kn env o=some true){t Y:TypeId}{x y:Operand}(p:o.op = .binOp .rem t x y Y){d:Nat}(O:o.dst=some d){i:TI}(K:X.ti t=some i)
  {q:IntKind}{a b:Int}(N:aK X env x=some (.c (.int q a)))(W:aK X env y=some (.c (.int q b)))(D:sameKind q q=true)(V:b≠0)
  (k:af P X ops rest ((d,.c (.int q (a.tmod b)))::env) σ (⟨[],[]⟩::acc) Q):af P X ops (o::rest) env σ acc Q:=by
 refine af.look hX kn G O ?_ ?_ k
 ·rw[p];simp only[gy,K,N,W,Wc,D,Wb];have:(b==0)=false:=by simpa using V
  rw[this]
 ·rw[p];rfl
end
end Go.cK
namespace Go.cK
def VR:Char:=Char.ofNat 32
def YT(l:L Nat):L Char:=l.map Char.ofNat
def uV(b:L Char):∀(a:L Char),(a.all λc=>c != VR)=true->wordsSigns (a++VR::b)=a::wordsSigns b
 |[],_=>rfl
 |c::a,h=>by
  simp only[aeL,aai,ahd,ne_eq]at h;have Y:=uV b a h.2;rw[adU,wordsSigns]
  ·rw[Y]
  ·exact h.1
def VS{P:Program}{a b c:L Char}{d:L Char}(h:P.initOrder=String.ofList (a++VR::(b++VR::(c++VR::d))))(ha:(a.all λc=>c != VR)=true)(Q:(b.all λc=>c != VR)=true)(A:(c.all λc=>c != VR)=true)
  (H:∀T,behindMainWord (a::b::T)=T):∃T,behindMainWord (wordsSigns P.initOrder.toList)=c::T:=by
 refine⟨wordsSigns d,?_⟩;rw[h,String.toList_ofList,uV _ _ ha,uV _ _ Q,uV _ _ A,H]
def YU {P : Program} {c : L Char} (h : ∃ T, behindMainWord (wordsSigns P.initOrder.toList) = c :: T) (h1 : (c == "gc".toList || c == "spec".toList) = false) (h2 : (c == "cut".toList) = true) : P.make = some .cut := by
 obtain⟨T,h⟩:=h;unfold Program.make;rw[h];simp only[h1,h2,Bool.true_or,if_true];rfl
def M0{c:L Char}(T:L (L Char))(Y:(liftWords.all λo=>c != o.toList)=true):stripLifts liftWords (c::T)=([],c::T):=by
 have p:∀(l:L String),(l.all λo=>c != o.toList)=true->stripLifts l (c::T)=([],c::T):=by
  intro l
  induction l with
  |nil=>intro _;rfl
  |cons o l W =>
   intro h;simp only[aeL,aai,ahd,ne_eq]at h;simp only[stripLifts];rw[if_neg (by simpa using h.1)];exact W h.2
 exact p _ Y
def Wr {P : Program} {c : L Char} (h : ∃ T, behindMainWord (wordsSigns P.initOrder.toList) = c :: T) (hs : (liftWords.all fun o => c != o.toList) = true) (h2 : (c == "cut".toList) = true) : P.headLifts = [] := by
 obtain⟨T,h⟩:=h;have B8 : c = "cut".toList := eq_of_beq h2;unfold Program.headLifts;rw[h,M0 T hs];simp[B8]
def VV {P : Program} {c : L Char} (h : ∃ T, behindMainWord (wordsSigns P.initOrder.toList) = c :: T) (hs : (liftWords.all fun o => c != o.toList) = true) (h2 : (c == "cut".toList) = true) (h3 : (c == "carried".toList) = false) : P.liftsFinal = false := by
 have h4:=Wr h hs h2;obtain⟨T,h⟩:=h;unfold Program.liftsFinal;rw[h4,h];have h5 : (some c == some "carried".toList) = false := by rw [← h3]; rfl
 simp only[List.head?_cons,h5,aez,ahl];rfl
def VW {P : Program} {c : L Char} (h : ∃ T, behindMainWord (wordsSigns P.initOrder.toList) = c :: T) (hs : (liftWords.all fun o => c != o.toList) = true) (h2 : (c == "cut".toList) = true)
  (h5:P.laysLater=false) (h6:P.bearsReflect=false) (h7:P.doorFits []=true):P.mayEnter=true:=by
 obtain⟨T,h⟩:=h;have B8 : c = "cut".toList := eq_of_beq h2;unfold Program.mayEnter;rw[h];simp only[M0 T hs,h5,h6,h7];simp[B8]
def Tz{P:Program}{f:FuncId}{S:Func}{s:ChangeSpec}{c:OpenClaim}(u:c.wf (OpenSpec.ofChange s)=true)(A:laidOutB P=true)(B:mapsRowed P=true)
  (q:S.params.all (P.readableRec ·)=true)(p:namedTie P c.named s.vars=true)
  (k6:(c.stops==[])=true)(k7:(P.stops==[])=true)(k8:(c.knobs==[])=true)(k9:(P.stopKnobs==[])=true)
  (U:(c.inPlace==P.inPlace f)=true)(T:(c.unfollowed==P.unfollowed f)=true)(Q:(c.recurses==P.recurses f)=true)(O:(c.named==P.varsNamed f)=true)
  (W:((c.maps==(S.params.toList++s.plain.varTypes P).any (P.mapsRec ·))&&(c.ifaces==(S.params.toList++s.plain.varTypes P).any (P.ifacesRec ·))&&(c.mapsOut==P.mapsAmong S.resultTypes.toList))=true)
  (V:((c.loops==(S.params.toList++s.plain.varTypes P).any (P.loopsFrom ·))&&(c.wideKeys==(S.params.toList++s.plain.varTypes P++S.resultTypes.toList).any (P.wideKeysFrom ·)))=true)
  (Y:(s.vars.all (P.varReadable ·)&&S.resultTypes.all (λt=>P.readableRec t&&decide (t<P.types.size))&&(c.ifacesOut==S.resultTypes.toList.any (P.ifacesRec ·))&&(c.loopsOut==S.resultTypes.toList.any (P.loopsFrom ·)))=true)
  (N:(c.plainKeys==P.plainKeys)=true)(M:c.shortTexts.isNone=true)(K:P.stopsHeard=true)(J:P.mayEnter=true)(I:(c.lifted==P.liftsFinal)=true)(H:(P.make==some c.make)=true)
  (G:(c.kinds==(if c.domain.isEmpty then []else S.params.toList.map λt=>match P.underlying t with|some (.int k)=>some k|_=>none))=true)(E:(c.pinned==c.pinnedBy)=true)
  (D:(c.veiled==(S.params.toList++s.plain.varTypes P++S.resultTypes.toList).any (P.veiledRec ·))=true)(C:c.veiledFits P S.params.toList (S.params.toList++s.plain.varTypes P++S.resultTypes.toList)=true) :
  joinedFacts P f S s c=true:=by
 simp only[aai]at W V Y;unfold joinedFacts;simp only[aai];exact⟨⟨⟨⟨⟨⟨⟨⟨⟨⟨⟨⟨⟨⟨⟨⟨⟨⟨⟨⟨⟨⟨⟨⟨⟨⟨⟨⟨⟨⟨⟨u,A⟩,B⟩,q⟩,p⟩,k6⟩,k7⟩,k8⟩,k9⟩,U⟩,T⟩,Q⟩,O⟩,W.1.1⟩,W.1.2⟩,W.2⟩,V.1⟩,V.2⟩,Y.1.1.1⟩,Y.1.1.2⟩,Y.1.2⟩,Y.2⟩,N⟩,M⟩,K⟩,J⟩,I⟩,H⟩,G⟩,E⟩,D⟩,C⟩
end Go.cK
