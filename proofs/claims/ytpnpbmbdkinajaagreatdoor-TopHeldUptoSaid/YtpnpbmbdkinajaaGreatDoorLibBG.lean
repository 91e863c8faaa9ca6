/- A part of the proof. -/
import Derived.Test.YtpnpbmbdkinajaaGreatDoorLibAG
import Derived.JoinedOf
import Derived.ReadAgain
import Derived.RowKit
set_option linter.all false
set_option maxRecDepth 100000
namespace Go.cE
def xM{ops Y}(h:tv ops Y){i o}(W:ops[i]?=some o):∀e∈qC o,e<i:=by
 have H:i<ops.size:=by grind
 simp only[tv]at h;simp_all
def Qm{ops Y}(h:tv ops Y){i j}(H:i<ops.size)(G:j<i) :
  ((ZM ops).getD i 0).testBit j=true\/indep ops j i (Y.getD j ⟨[],[]⟩) (Y.getD i ⟨[],[]⟩)=true:=by
 simp only[tv]at h;simp_all
def Lm{ops i j o}(Y:ops[i]?=some o)(h:((ZM ops).getD i 0).testBit j=true) :
  ∃e∈qC o,e=j\/((ZM ops).getD e 0).testBit j=true:=by
 have H:i<ops.size:=by grind
 obtain⟨e,U,V⟩:=Ir (ops.toList.map qC) [] i cS (by simpa using H) j h;refine⟨e,?_,V⟩;simp_all
def Qn{ops S}(A:tv ops S){Y:Array Bool}
  (Q:∀i o,Y.getD i false=true->ops[i]?=some o->∀e∈qC o,Y.getD e false=true) :
  ∀n i,i<=n->∀o,ops[i]?=some o->(∀e∈qC o,Y.getD e false=true)->∀j,((ZM ops).getD i 0).testBit j=true->Y.getD j false=true:=by
 intro n
 induction n with
 |zero =>
  intro i H o V U j G;obtain⟨e,O,M⟩:=Lm V G;have:=xM A V e O;omega
 |succ n N =>
  intro i H o V U j G;obtain⟨e,O,M⟩:=Lm V G;rcases M with rfl|M
  simp_all;have P:=xM A V e O;have u:=U e O;cases W:ops[e]? with
  |none =>
   have H:i<ops.size:=(by grind);rw[Array.getElem?_eq_none_iff]at W;omega
  |some T=>exact N e ai T W (Q e T u W) j M
def Ev{ops Y i}:i∈Region.ready .any ops Y ↔
  i<ops.size/\Y.getD i true=false/\∃o,ops[i]?=some o/\∀e∈qC o,Y.getD e false=true:=by
 unfold Region.ready;simp only[List.mem_filter,List.mem_range,aaI,akX];constructor
 ·rintro⟨O,N,B⟩;refine⟨O,N,?_⟩;cases W:ops[i]? with
  |none=>rw[W]at B;simp at B
  |some o =>
   refine⟨o,Z,?_⟩;rw[W]at B;simp only[aki,akG,Array.all_eq_true']at B;intro e T;simp only[qC]at T;grind
 rintro⟨O,N,o,W,B⟩;refine⟨O,N,?_⟩;rw[W];simp only[aki,akG,Array.all_eq_true'];intro V U;by_cases S:Region.binds .any V;have:=B V.on (List.mem_filterMap.2 ⟨V,by simpa using U,by simp[S]⟩);simp[this];grind
def yD.any{P X β n ops}(hd:vB ops n){Kh}(hok:tv ops Kh){Q:Exit->Act->World->Prop} :
  ∀(r)listed,listed.size=ops.size ->
   (∀i,i∈r.map (·.1)↔i<ops.size/\listed.getD i true=false)->(r.map (·.1)).Pairwise (· < ·) ->
   (∀x∈r,x.2.fp=Kh.getD x.1 ⟨[],[]⟩) ->
   (∀i o,listed.getD i false=true->ops[i]?=some o->∀e∈qC o,listed.getD e false=true) ->
   ∀{env env' σ σ'},yD P X ops r env σ env' σ'->∀{g w a},Live X β n env σ g w a ->
   (∀g' w' a',Live X β n env' σ' g' w' a'->Q .normal a' w')->wpAny P .any ops Q r.length listed a w:=by
 intro r
 generalize hlen:r.length=len
 induction len generalizing r with
 |zero =>
  intro listed hsz hmem yq hfp kO env env' σ σ' hO g w a hL hQ
  have:r=[]:=ajN hlen
  subst this
  obtain⟨rfl,rfl⟩:=hO
  refine⟨?_,hQ g w a hL⟩
  apply List.eq_nil_iff_forall_not_mem.2
  intro i hi
  obtain⟨h1,h2,_⟩:=Ev.1 hi
  have:=(hmem i).2 ⟨h1,h2⟩
  simp at this
 |succ len ih =>
  intro listed hsz hmem yq hfp kO env env' σ σ' hO g w a hL hQ
  refine⟨λaf4=>?_,λi hi=>?_⟩
  ·exfalso
   cases r with
   |nil=>simp at hlen
   |cons x r =>
    obtain⟨i,it⟩:=x
    have hm:=(hmem i).1 cS
    have ho:∃o,ops[i]?=some o:=⟨ops[i]'hm.1,cS⟩
    obtain⟨o,ho⟩:=ho
    have:i∈Region.ready .any ops listed:=by
     refine Ev.2 ⟨hm.1,hm.2,o,ho,λe he=>?_⟩
     have hlt:=xM hok ho e he
     cases hle:listed.getD e true with
     |true =>
      have:e<listed.size:=by omega
      simpa[this]using hle
     |false =>
      have:=(hmem e).2 ⟨ai,hle⟩
      simp only[ahM,aim]at this
      rcases this with h|h
      ·omega
      ·simp only[ahM,akW]at yq
       have:=yq.1 e h
       omega
    rw[af4]at this
    simp at this
  ·obtain⟨h1,h2,o,ho,h3⟩:=Ev.1 hi
   have hm:=(hmem i).2 ⟨h1,h2⟩
   obtain⟨⟨i',it⟩,hx,rfl⟩:=List.mem_map.1 hm
   simp only at *
   obtain⟨p,q,rfl⟩:=List.append_of_mem hx
   have hidx:∀x∈p,x.1<i':=by
    intro x hxp
    simp only[aib,ake]at yq
    exact yq.2.2 x.1 (List.mem_map_of_mem hxp) i' cS
   have ak4:∀x∈p,indep ops x.1 i' x.2.fp it.fp:=by
    intro x hxp
    have hlt:=hidx x hxp
    rcases Qm hok h1 hlt with hb|hb
    ·exfalso
     have:=Qn hok kO i' i' (acd _) o ho h3 x.1 hb
     have hm2:=(hmem x.1).1 (by simp;exact .inl ⟨x.2,hxp⟩)
     have ak5:x.1<listed.size:=by omega
     simp[ak5]at this hm2
     rw[this]at hm2;simp at hm2
    ·rw[hfp x (by simp[hxp]),hfp (i',it) cS];exact hb
   obtain⟨e1,s1,e2,s2,g1,g2,g3⟩:=yD.front ak4 hO
   refine g1.wp hd hL λg' w' a' hL'=>?_
   have ah2:∀k,(listed.setIfInBounds i' true).getD k true=if k=i' then true else listed.getD k true:=by
    intro k
    simp only[ajf,ale]
    by_cases hk:i'=k
    ·subst hk;simp[hsz,h1]
    ·rw[if_neg hk,if_neg (λe=>hk e.symm)]
   have af5:∀k,(listed.setIfInBounds i' true).getD k false=if k=i' then true else listed.getD k false:=by
    intro k
    simp only[ajf,ale]
    by_cases hk:i'=k
    ·subst hk;simp[hsz,h1]
    ·rw[if_neg hk,if_neg (λe=>hk e.symm)]
   have hnd:i' ∉ (p++q).map (·.1):=by
    intro h
    simp only[aib,ahj]at h
    simp only[aib,ahM,ake,akW]at yq
    rcases h with h|h
    ·have:=yq.2.2 i' h i' cS;omega
    ·have:=yq.2.1.1 i' h;omega
   refine ih (p++q) (by simp at hlen ⊢;omega) _ (by simpa using hsz) ?_ ?_ ?_ ?_ g2 hL' ?_
   ·intro k
    rw[ah2]
    have hk:=hmem k
    simp only[aib,ahM,ahj,aim]at hk ⊢
    by_cases hki:k=i'
    ·subst hki
     simp only[aib,ahj]at hnd
     exact⟨λh=>absurd h hnd,λh=>by simp at h⟩
    ·simp only[hki,false_or,aiQ]at hk ⊢
     exact hk
   ·simp only[aib,ahM,ake,akW]at yq ⊢
    exact⟨yq.1,yq.2.1.2,λa ha b hb=>yq.2.2 a ha b (by simp[hb])⟩
   ·intro x Hp
    exact hfp x (by simp at Hp ⊢;rcases Hp with h|h<;>simp[h])
   ·intro k ok rZ hk2 e he
    rw[af5]at rZ ⊢
    by_cases Yq:e=i'
    ·simp[Yq]
    ·rw[if_neg Yq]
     by_cases hki:k=i'
     ·subst hki
      rw[ho]at hk2;simp at hk2;subst hk2
      exact h3 e he
     ·rw[if_neg hki]at rZ
      exact kO k ok rZ hk2 e he
   ·intro BT w'' a'' ak6
    exact hQ BT w'' a'' (ak6.ext ⟨λt=>(g3.1 t).symm,λk=>(g3.2 k).symm⟩)
def nX(Y:Operand->Option AV):Op->Ω
 |.load _ x=>match Y x with
  |some (.ptr k _)=>[k]
  |_=>[]
 |_=>[]
def zH{X}{V W:Operand->Option AV}A:∀(Y)cells,(∀p∈Y,W p.2=V p.2) ->
  uD X W A Y cells=uD X V A Y cells
 |[],_,_=>rfl
 |(i,x)::rest,cells,h=>by simp only[uD];have S:=λc=>zH (X:=X) A rest c (λp M=>h p (by simp[M]));simp_all
def lN{ρ M6:Operand->Option AV}:∀l,(∀x∈l,M6 x=ρ x)->iC M6 l=iC ρ l
 |[],_=>rfl
 |x::l,h=>by
  simp only[iC,h x cS,lN l (λy hy=>h y (by simp[hy]))]
def mS{V Y:Operand->Option AV}o(h:∀x,o=some x->Y x=V x):bound Y o=bound V o:=by
 cases o with
 |none=>rfl
 |some x=>simp only[bound,h x rfl]
def Qo{X boxes ZN}{ρ M6:Operand->Option AV}{op}(h:∀x∈op.operands.toList,M6 x=ρ x)
  (hb:∀k∈nX ρ op,au k ZN=au k boxes):gX X ZN M6 op=gX X boxes ρ op:=by
 cases op with
 |move x=>exact h x gE
 |assign x=>exact h x gE
 |pick c a b=>simp only[gX,h c gE,h a gE,h b gE]
 |load t x =>
  have hx:=h x gE
  simp only[gX,hx]
  simp only[nX]at hb
  cases X.ti t with
  |none=>rfl
  |some i =>
   cases hr:ρ x with
   |none=>rfl
   |some a =>
    rw[hr]at hb
    cases a with
    |ptr k o=>simp only[hb k cS]
    |c v=>cases v<;>rfl
    |_=>rfl
 |nilCheck x=>simp only[gX,h x gE]
 |binOp op t x y yt=>simp only[gX,h x gE,h y gE]
 |unOp op t x=>simp only[gX,h x gE]
 |convert s d x=>simp only[gX,h x gE]
 |fieldAddr t x f=>simp only[gX,h x gE]
 |field t x f=>simp only[gX,h x gE]
 |indexAddr t x i=>simp only[gX,h x gE,h i gE]
 |index t x i=>simp only[gX,h x gE,h i gE]
 |extract x n=>simp only[gX,h x gE]
 |build t parts =>
  have:=λfs z=>zH (X:=X) fs parts.toList z (λp hp=>h p.2 (by
   simp only[Op.operands,alu];exact⟨p,hp,Z⟩))
  simp only[gX,this]
 |slice t x lo hi mx =>
  have h1:=mS lo (λy hy=>h y aeN)
  have h2:=mS hi (λy hy=>h y aeN)
  have h3:=mS mx (λy hy=>h y aeN)
  simp only[gX,h x gE,h1,h2,h3]
 |makeFunc fn first caps =>
  cases fn with
  |func f =>
   have:=lN caps.toList (λy hy=>h y (by simp only[Op.operands,aiu,ahj];exact .inr hy))
   simp only[gX,this]
  |_=>rfl
 |call c =>
  obtain⟨callee,args,argTypes⟩:=c
  cases callee with
  |builtin b =>
   have hargs:∀x∈args.toList,M6 x=ρ x:=λx hx=>h x (by simpa[Op.operands,Call.operands]using hx)
   have hmap:args.toList.map M6=args.toList.map ρ:=List.map_congr_left hargs
   cases b with
   |len =>
    simp only[gX]
    cases hl:args.toList with
    |nil=>rfl
    |cons x l =>
     rw[hl]at hargs
     have:=hargs x cS
     cases l with
     |cons y l=>rfl
     |nil =>
      cases argTypes.toList with
      |nil=>rfl
      |cons t l' =>
       cases l' with
       |nil=>simp only[this]
       |cons _ _=>rfl
   |min=>simp only[gX,hmap]
   |max=>simp only[gX,hmap]
   |_=>rfl
  |_=>rfl
 |_=>rfl
def bR.pure{P X}(hX:cI P X){o}{env:Env}{σ v}(h:gX X σ.boxes (aJ X env) o.op=some v) :
  bR P X o env σ v (λσ=>σ) ⟨nX (aJ X env) o.op,[]⟩:=by
 intro S p w g a next Q U T W B Y q;have E:gX X p.boxes (aJ X S) o.op=some v:=by rw[Qo U (λk I=>(T k (.inl I)).1)];exact h
 obtain⟨u,V,H⟩:=Qk (P:=P) (w:=w) (g:=g) hX W.rS (λk N e=>by
  obtain⟨b,C,_,_,J⟩:=W.box k N e;exact⟨b,C,J⟩) (ev:=a.eval) (λx v O=>cz Y B O) E
 unfold Oper.wp;rw[V,Oper.upon_value];exact q u w g H W (jv.refl _ _ _) (Gh.le.refl _)
def ag(P:Program)(X:Ctx)(ops:tal)(rest:L Oper)(env:Env)(σ:St)(acc:L Fp)(Q:Env->St->L Fp->Prop):Prop :=
 ∀i,ops.toList.drop i=rest->∃(Y:L It) (V:Env) (O:St),Y.length=rest.length/\yD P X ops ((List.range' i rest.length).zip Y) env σ V O /\
  Q V O (acc.reverse++Y.map It.fp)
section
variable {P:Program}{X:Ctx}{ops:tal}{i:Nat}{o:Oper}{rest:L Oper}{env:Env}{σ:St}{acc:L Fp}{Q:Env->St->L Fp->Prop}
def ag.nil(h:Q env σ acc.reverse):ag P X ops [] env σ acc Q :=
 λ_ _=>⟨[],env,σ,Z,⟨Z,Z⟩,nu⟩
def Ln{ops:tal}(h:ops.toList.drop i=o::rest):ops[i]?=some o/\ops.toList.drop (i+1)=rest:=by constructor;have:=Eu h;simpa using this;have:=ahm List.tail h;simpa using this
def ag.step{v}{Ct:St->St}{fp}(hg:uN ops o env)(hs:bR P X o env σ v Ct fp)(hE:jf Ct fp)
  (k:ag P X ops rest (C6 o.dst v env) (Ct σ) (fp::acc) Q):ag P X ops (o::rest) env σ acc Q:=by
 intro i h
 obtain⟨ho,hr⟩:=Ln h
 obtain⟨Yr,env',σ',h1,h2,h3⟩:=k (i+1) hr
 refine⟨⟨true,v,Ct,fp⟩::Yr,env',σ',adx,?_,by simpa using h3⟩
 exact⟨_,_,⟨o,ho,Z,Z,hE,.inr ⟨Z,hg,hs⟩⟩,h2⟩
def ag.skip(hg:tJ ops o env)(k:ag P X ops rest (C6 o.dst (.c .undef) env) σ (⟨[],[]⟩::acc) Q):ag P X ops (o::rest) env σ acc Q:=by
 intro i h
 obtain⟨ho,hr⟩:=Ln h
 obtain⟨Yr,env',σ',h1,h2,h3⟩:=k (i+1) hr
 refine⟨It.skip::Yr,env',σ',adx,?_,by simpa[It.skip]using h3⟩
 exact⟨_,_,⟨o,ho,Z,Z,jf.id _,.inl ⟨Z,hg⟩⟩,h2⟩
def simple:Op->Bool
 |.indexAddr _ _ _=>false
 |.index _ _ _=>false
 |.slice _ _ _ _ _=>false
 |.binOp .quo _ _ (.tmp _) _=>false
 |.binOp .rem _ _ (.tmp _) _=>false
 |.binOp .shl _ _ (.tmp _) _=>false
 |.binOp .shr _ _ (.tmp _) _=>false
 |_=>true
def mem(k:Nat):Ω->Bool
 |[]=>false
 |x::l=>match Nat.beq x k with
  |true=>true
  |false=>mem k l
def cZ(V:L Oper)(kn:Ω)(env:Env)(o:Oper):Option Bool :=
 match o.guard with
 |none=>some true
 |some (j,Y)=>match mem j kn with
  |false=>none
  |true=>match nth V j with
   |none=>none
   |some W=>match W.dst with
    |none=>none
    |some d=>match au d env with
     |some (.c (.bool b))=>match Y with
      |true=>some b
      |false=>some (!b)
     |some (.c .undef)=>some false
     |_=>none
def ak7(Y:Ω)(acc:L Fp):L Fp:=match Y with
 |[]=>⟨[],[]⟩::acc
 |k::l=>⟨k::l,[]⟩::acc
inductive af6 where
 |at(rest:List Oper) (env:Env) (acc:List Fp)
 |stuck
def Bi(X:Ctx)(V:L Oper)(T:tab)(kn:Ω):Nat->L Oper->Env->L Fp->af6
 |0,rest,env,acc => .at rest env acc
 |_+1,[],env,acc => .at [] env acc
 |n+1,o::rest,env,acc=>match simple o.op with
  |false => .at (o::rest) env acc
  |true=>match cZ V kn env o with
   |none => .at (o::rest) env acc
   |some false=>match o.dst with
    |some d=>Bi X V T kn n rest ((d,.c .undef)::env) (⟨[],[]⟩::acc)
    |none=>Bi X V T kn n rest env (⟨[],[]⟩::acc)
   |some true=>match gX X T (aJ X env) o.op with
    |none => .at (o::rest) env acc
    |some v=>match o.dst,nX (aJ X env) o.op with
     |some d,[]=>Bi X V T kn n rest ((d,v)::env) (⟨[],[]⟩::acc)
     |some d,k::l=>Bi X V T kn n rest ((d,v)::env) (⟨k::l,[]⟩::acc)
     |none,Y=>Bi X V T kn n rest env (⟨Y,[]⟩::acc)
def wI{kn b}(h:cZ ops.toList kn env o=some b):if b then uN ops o env else tJ ops o env:=by
 unfold cZ at h;unfold uN tJ;split at h;grind;rename_i j W N;split at h;grind;split at h;grind;rename_i V Y;split at h;grind;rename_i d A;have I:tI ops j=some d:=by rw[vF]at Y;simp only[tI];simp_all
 grind
def ag.run(hX:cI P X)(n kn):∀{rest env acc}{Y:L Oper}{V}{W:L Fp},
  Bi X ops.toList σ.boxes kn n rest env acc = .at Y V W->ag P X ops Y V σ W Q->ag P X ops rest env σ acc Q:=by
 induction n with
 |zero=>intro rest env acc Y V W h k;obtain⟨rfl,rfl,rfl⟩:=h;exact k
 |succ n S =>
  intro rest env acc Y V W h k;cases rest with
  |nil=>simp[Bi]at h;obtain⟨rfl,rfl,rfl⟩:=h;exact k
  |cons o rest =>
   have stop:af6.at (o::rest) env acc = .at Y V W->ag P X ops (o::rest) env σ acc Q:=(by simp_all);simp only[Bi]at h;split at h;simp_all;split at h;simp_all
   ·rename_i N;have:=wI N;split at h
    ·rename_i d A;refine ag.skip this ?_;rw[A];exact S h k
    rename_i A;refine ag.skip this ?_;rw[A];exact S h k
   rename_i N;have:=wI N;split at h;simp_all;rename_i v u;have K:ag P X ops rest (C6 o.dst v env) σ (⟨nX (aJ X env) o.op,[]⟩::acc) Q->ag P X ops (o::rest) env σ acc Q :=
    ag.step this (bR.pure hX u) (jf.id _)
   split at h;rename_i d A I;rw[A,I]at K;exact K (S h k);rename_i d U l A I;rw[A,I]at K;exact K (S h k);rename_i A;rw[A]at K;exact K (S h k)
def K5(X:Ctx)(V:L Oper)(T:tab)(kn:Ω)(n:Nat)(rest:L Oper)(env:Env)(acc:L Fp):af6 :=
 match rest with
 |[] => .stuck
 |o::rest=>match cZ V kn env o with
  |none => .stuck
  |some false=>match o.dst with
   |some d=>Bi X V T kn n rest ((d,.c .undef)::env) (⟨[],[]⟩::acc)
   |none=>Bi X V T kn n rest env (⟨[],[]⟩::acc)
  |some true=>match gX X T (aJ X env) o.op with
   |none => .stuck
   |some v=>match o.dst,nX (aJ X env) o.op with
    |some d,[]=>Bi X V T kn n rest ((d,v)::env) (⟨[],[]⟩::acc)
    |some d,k::l=>Bi X V T kn n rest ((d,v)::env) (⟨k::l,[]⟩::acc)
    |none,Y=>Bi X V T kn n rest env (⟨Y,[]⟩::acc)
def ag.SH(hX:cI P X)(n)(kn){env acc}{Y:L Oper}{V}{W:L Fp}
  (h:K5 X ops.toList σ.boxes kn n rest env acc = .at Y V W)(k:ag P X ops Y V σ W Q):ag P X ops rest env σ acc Q:=by
 unfold K5 at h;split at h;grind;rename_i o rest;split at h;grind
 ·rename_i N;have:=wI N;refine ag.skip this ?_;split at h<;>rename_i A<;>rw[A]<;>exact ag.run hX n kn h k
 rename_i N;have:=wI N;split at h;grind;rename_i v u;have K:ag P X ops rest (C6 o.dst v env) σ (⟨nX (aJ X env) o.op,[]⟩::acc) Q->ag P X ops (o::rest) env σ acc Q :=
  ag.step this (bR.pure hX u) (jf.id _)
 split at h;rename_i d A I;rw[A,I]at K;exact K (ag.run hX n kn h k);rename_i d U l A I;rw[A,I]at K;exact K (ag.run hX n kn h k);rename_i A;rw[A]at K;exact K (ag.run hX n kn h k)
def M7(Y:Option Nat):L Oper->Nat
 |[]=>1
 |o::rest=>match o.guard with
  |none=>M7 Y rest+1
  |some (j,_)=>match Y with
   |some W=>match Nat.beq j W with
    |true=>M7 Y rest+1
    |false=>0
   |none=>0
def VC:L Oper->Nat
 |[]=>0
 |o::rest=>match o.guard with
  |none=>M7 none rest
  |some (j,_)=>M7 (some j) rest
def ag.akM(hX:cI P X)kn{rest env acc}{Y:L Oper}{V}{W:L Fp}
  (h:K5 X ops.toList σ.boxes kn (VC rest) rest env acc = .at Y V W)(k:ag P X ops Y V σ W Q):ag P X ops rest env σ acc Q:=ag.SH hX _ kn h k
def ag.split{j d Y b}(N:o.guard=some (j,Y))(I:tI ops j=some d)(U:au d env=some (.c (.bool b)))
  (V:b=true->ag P X ops (o::rest) env σ acc Q)(T:b=false->ag P X ops (o::rest) env σ acc Q):ag P X ops (o::rest) env σ acc Q:=by grind
end
def top(f:FuncId):Frame:={(default:Frame)with fn:=f,kind := .normal}
def AK(P:Program)(X:Ctx)(f:FuncId)(n:Nat)(β:lu)(R:Ending->World->Prop)(K:L Item)(env:Env)(σ:St):Prop :=
 ∀(g:Gh)(w:World)(a:Act)(V:L Frame),Live X β n env σ g w a ->
  ∃e Y C,R e Y/\Comes P (lone ((top f).at a K) V w) (lone C V Y) e/\C.fn=f/\C.leaving P Y e
section
variable {P:Program}{X:Ctx}{f:FuncId}{n:Nat}{β:lu}{R:Ending->World->Prop}{K:L Item}{env:Env}{σ:St}
def AK.go{D:L Item}(Y:∀(a)(V:L Frame)(w),Steps P (lone ((top f).at a K) V w) (lone ((top f).at a D) V w))(h:AK P X f n β R D env σ):AK P X f n β R K env σ :=
 λg w a V q=>let ⟨e,U,C,T,S,B,W⟩:=h g w a V q;⟨e,U,C,T,S.of_steps (Y a V w),B,W⟩
def AK.seq{x y}(h:AK P X f n β R (.code x :: .code y::K) env σ):AK P X f n β R (.code (.seq x y)::K) env σ :=
 AK.go (λ_ _ _ => .one step_seq) h
def AK.skip(h:AK P X f n β R K env σ):AK P X f n β R (.code .skip::K) env σ :=
 AK.go (λ_ _ _ => .one step_skip) h
def AK.block{id c}(h:AK P X f n β R (.code c :: .inBlock id::K) env σ):AK P X f n β R (.code (.block id c)::K) env σ :=
 AK.go (λ_ _ _ => .one step_block) h
def AK.inBlock{id}(h:AK P X f n β R K env σ):AK P X f n β R (.inBlock id::K) env σ :=
 AK.go (λ_ _ _ => .one step_inBlock) h
def AK.loop{c}(h:AK P X f n β R (.code c :: .inLoop c::K) env σ):AK P X f n β R (.code (.loop c)::K) env σ :=
 AK.go (λ_ _ _ => .one step_loop) h
def AK.inLoop{c}(h:AK P X f n β R (.code c :: .inLoop c::K) env σ):AK P X f n β R (.inLoop c::K) env σ :=
 AK.go (λ_ _ _ => .one step_inLoop) h
def AK.exit{id}{D:L Item}(e:exitTo id K=some D)(h:AK P X f n β R D env σ):AK P X f n β R (.code (.exit id)::K) env σ :=
 AK.go (λ_ _ _ => .one (step_exit e)) h
def AK.cond{c x y b}(D:aJ X env c=some (.c (.bool b)))(h:AK P X f n β R (.code (if b then x else y)::K) env σ) :
  AK P X f n β R (.code (.cond c x y)::K) env σ:=by
 intro g w a V q;obtain⟨e,U,C,T,S,B,Y⟩:=h g w a V q;have:=cz q.env q.wE D;exact⟨e,U,C,T,S.of_steps (.one (step_cond this)),B,Y⟩
def AK.aeB{c x y}(hc:aJ X env c=some (.c (.bool true)))(h:AK P X f n β R (.code x::K) env σ) :
  AK P X f n β R (.code (.cond c x y)::K) env σ:=AK.cond hc nu
def AK.aeC{c x y}(hc:aJ X env c=some (.c (.bool false)))(h:AK P X f n β R (.code y::K) env σ) :
  AK P X f n β R (.code (.cond c x y)::K) env σ:=AK.cond hc nu
def AK.Fw{c x y b}(D:aJ X env c=some (.c (.bool b)))(Y:b=true->AK P X f n β R (.code x::K) env σ)
  (V:b=false->AK P X f n β R (.code y::K) env σ):AK P X f n β R (.code (.cond c x y)::K) env σ:=by
 cases b;exact AK.aeC D (V Z);exact AK.aeB D (Y Z)
def AK.region(hm:P.follows .mixedOrders){id ops draw}(hd:vB ops n)
  (h:ag P X ops ops.toList env σ [] (λenv' σ' Kh=>(draw=true->tv ops Kh)/\AK P X f n β R K env' σ')) :
  AK P X f n β R (.code (.region id ops draw)::K) env σ:=by
 obtain⟨Yr,env',σ',hlen,Qp,Pt,hK⟩:=h 0 cS
 intro g w a cs hL
 have hlen':Yr.length=ops.size:=by simpa using hlen
 have hmap:(((List.range' 0 ops.toList.length).zip Yr).map (·.1))=List.range ops.size:=by
  rw[List.map_fst_zip (by simp[hlen'])];simp[List.range_eq_range']
 have hwp:(Code.region id ops draw).wp P (λe a' w'=>e = .normal/\∃g',Live X β n env' σ' g' w' a') a w:=by
  cases draw with
  |false =>
   apply wp_region
   rw[<- hmap]
   exact yD.wp hd Qp hL λg' w' a' hL'=>⟨Z,g',hL'⟩
  |true =>
   apply wp_region_any hm
   have hL2:Live X β n env σ g {w with drawn:=w.drawn+1} a :=
    ⟨⟨hL.inv.rS,λk cs e=>by
      obtain⟨b,b1,b2,b3,b4⟩:=hL.inv.box k cs e
      exact⟨b,b1,b2,b3,cC.of_same (w:=w) (w':={w with drawn:=w.drawn+1}) (λo=>⟨rfl,rfl⟩) b4⟩,
     hL.inv.gR,hL.inv.tok,hL.inv.iX,hL.inv.used,hL.inv.room⟩,hL.wE,hL.env,
     hL.frame.trans ⟨Z,Z,Z,acd _,λ_ _ _=>rfl,λ_ _ _ _=>⟨Z,Z⟩,lB.le.refl _,λ_ _ _ h => .inl h,λk cs b h1 h2 => .inr ⟨k,cs,h1,h2⟩,
      λk n b lo hi h1 h2 => .inr ⟨k,n,lo,hi,h1,h2,acd _,acd _⟩,λ_ _ h=>⟨h,Z,Z⟩⟩,hL.size,hL.defers⟩
   have hl:((List.range' 0 ops.toList.length).zip Yr).length=ops.size:=by simp[hlen']
   have anZ:=yD.any hd (Pt Z) ((List.range' 0 ops.toList.length).zip Yr) (Array.replicate ops.size false) cS ?_ ?_ ?_ ?_ Qp hL2
    (Q:=λe a' w'=>e = .normal/\∃g',Live X β n env' σ' g' w' a') λg' w' a' hL'=>⟨Z,g',hL'⟩
   ·simp_all
   ·simp_all
   ·rw[hmap];exact List.pairwise_lt_range
   ·intro x hx
    obtain⟨k,hk⟩:=ajQ hx
    rw[List.getElem?_zip_eq_some]at hk
    obtain⟨k1,k2⟩:=hk
    have k3:k=x.1:=by
     have hlt:k<ops.toList.length:=by
      have:=(List.getElem?_eq_some_iff.1 k1).1;simpa using this
     rw[List.getElem?_range' hlt]at k1
     simpa using k1
    subst k3
    simp[k2]
   ·intro i o hi
    exfalso
    simp only[Array.getD]at hi
    split at hi
    ·simp at hi
    ·simp at hi
 obtain⟨e,a',w',⟨rfl,g',hL'⟩,ak8⟩:=hwp (top f) K cs
 obtain⟨e,w'',fr,h1,h2,h3,h4⟩:=hK g' w' a' cs hL'
 exact⟨e,w'',fr,h1,h2.of_steps ak8,h3,h4⟩
def ag.done{ops acc}(h:AK P X f n β R K env σ) :
  ag P X ops [] env σ acc (λV O Y=>(false=true->tv ops Y)/\AK P X f n β R K V O) :=
 ag.nil ⟨(λh=>by simp at h),h⟩
def ag.drawn{ops acc}(U:tv ops acc.reverse)(h:AK P X f n β R K env σ) :
  ag P X ops [] env σ acc (λV O Y=>(true=true->tv ops Y)/\AK P X f n β R K V O) :=
 ag.nil ⟨λ_=>U,h⟩
def sZ(X:Ctx)(T:tab)(env:Env):L ResultVar->Option (Φ)
 |[]=>some []
 |.tmp t::l=>match au t env,sZ X T env l with
  |some a,some r=>some (a::r)
  |_,_=>none
 |.cell t Y::l=>match gX X T (aJ X env) (.load Y (.tmp t)),sZ X T env l with
  |some a,some r=>some (a::r)
  |_,_=>none
def nh(X:Ctx)(T:tab)(env:Env)(Y:L ResultVar):Option AV :=
 match sZ X T env Y with
 |some [a]=>some a
 |some (a::b::l)=>some (.eK (a::b::l))
 |_=>none
def Is(G:Array Value):ResultVar->Sem Value
 |.tmp t=>pure (G.getD t undef)
 |.cell b t=>do loadVar t (<- asAddr (G.getD b undef))
def BV K(G):results K G=(do
  let Y<-K.results.mapM (Is G)
  pure (if h:Y.size=1 then Y[0]else .tuple Y)):=by
 congr
def Qq(Y):asAddr (.pointer (some Y))=pure Y:=rfl
def GJ(hX:cI P X){g w a}(hL:Live X β n env σ g w a):∀{rs l},sZ X σ.boxes env rs=some l ->
  ∃vs:L Value,(rs.mapM (Is a.tmps)).run P w = .ok vs w/\cn g l vs
 |[],l,h=>by simp[sZ]at h;subst h;exact⟨[],cS,by simp[cn]⟩
 |.tmp t::rs,l,h=>by simp only[sZ]at h;split at h;rename_i x r h1 h2;simp at h;subst h;obtain⟨vs,e1,e2⟩:=GJ hX hL h2;refine⟨a.tmps.getD t undef::vs,?_,by simp only[cn];exact⟨_,_,rfl,hL.env t x h1,e2⟩⟩;simp only[alh,Is];simp_all;grind
 |.cell t ty::rs,l,h=>by
  simp only[sZ]at h;split at h
  ·rename_i x r h1 h2;simp at h;subst h;obtain⟨vs,e1,e2⟩:=GJ hX hL h2
   obtain⟨u,r1,r2⟩:=Qk (P:=P) (w:=w) (g:=g) hX hL.inv.rS (λk cs e=>by
    obtain ⟨b, b1, _, _, b2⟩ := hL.inv.box k cs e; exact ⟨b, b1, b2⟩) (ev := a.eval) (fun x v hx => cz hL.env hL.wE hx) (o := ⟨none, .load ty (.tmp t), 0, "", #[], none⟩) h1
   simp only[execOp,Act.eval,Instr.loadAt]at r1;have r3:∃ad,a.tmps.getD t undef = .pointer (some ad)/\(loadVar ty ad).run P w = .ok u w:=by
    cases hv:a.tmps.getD t undef with
    |pointer p =>
     cases p with
     |none=>rw[hv]at r1;simp[Instr.sureAddr]at r1
     |some ad =>
      refine⟨ad,Z,?_⟩;rw[hv]at r1;simp only[Instr.sureAddr,Sem.run_bind,Sem.run_pure,Result.andThen_ok]at r1;cases hr:(loadVar ty ad).run P w with
      |ok u' w'=>rw[hr]at r1;simp at r1;obtain⟨rfl,rfl⟩:=r1;rfl
      |halt _ _=>rw[hr]at r1;simp at r1
    |_=>rw[hv]at r1;simp[Instr.sureAddr]at r1
   obtain⟨ad,r4,r5⟩:=r3;refine⟨u::vs,?_,by simp only[cn];exact⟨_,_,Z,r2,e2⟩⟩;simp only[alh,Is,Sem.run_bind,r4,Qq,Sem.run_pure,Result.andThen_ok,r5];simp only[show(List.mapM (Is a.tmps) rs).run P w = .ok vs w from e1];rfl
  simp at h
def BW(hX:cI P X){fn g w a}(hL:Live X β n env σ g w a){r}(h:nh X σ.boxes env fn.results.toList=some r) :
  ∃u,(results fn a.tmps).run P w = .ok u w/\aX g r u:=by
 unfold nh at h
 have key:∀l,sZ X σ.boxes env fn.results.toList=some l->∃vs:L Value,(fn.results.mapM (Is a.tmps)).run P w = .ok vs.toArray w/\cn g l vs:=by
  intro l hl
  obtain⟨vs,e1,e2⟩:=GJ hX hL hl
  refine⟨vs,?_,e2⟩
  rw[akr]
  simp_all
 split at h
 ·rename_i x hl
  simp at h;subst h
  obtain⟨vs,e1,e2⟩:=key _ hl
  obtain⟨u,us,rfl,e3,rfl⟩:=e2
  refine⟨u,?_,e3⟩
  rw[BV,Sem.run_bind,e1]
  simp
 ·rename_i x y l hl
  simp at h;subst h
  obtain⟨vs,e1,e2⟩:=key _ hl
  have M8:=e2
  obtain⟨u,us,rfl,e3,u2,us2,rfl,e4,e5⟩:=M8
  refine⟨.tuple (u::u2::us2).toArray,?_,by simp_all;exact⟨_,Z,e2,cS⟩⟩
  rw[BV,Sem.run_bind,e1]
  simp
 ·grind
def AK.ret(hX:cI P X){Y}(hf:P.funcs[f]?=some Y){r}(V:nh X σ.boxes env Y.results.toList=some r)
  (h:∀g w u,aX g r u->Inv w g σ->rR X g.G->jv β.w β.g β.σ w g σ->R (.returned u) w):AK P X f n β R (.code .ret::K) env σ:=by
 intro g w a S q;obtain⟨u,U,T⟩:=BW hX q V;exact⟨.returned u,w,_,h g w u T q.inv q.wE q.frame,.one step_ret,Z,Z,q.defers,Z,Y,hf,U⟩
end
def Enters(P:Program)(f:FuncId):Prop:=∀(Y:Array Value)(w:World),(callFunc f Y).run P w = .ok (.enter f Y) w
structure Qr(w:World)(G:lB)(w':World)(G':lB):Prop where
 os:w'.os=w.os
 tape:w'.tape=w.tape
 output:w'.output=w.output
 size:w.heap.size<=w'.heap.size
 block:∀b,b<w.heap.size->w'.heap[b]?=w.heap[b]?
 le:G.le G'
 new:∀b o v,G' b o=some v->G b o=some v\/w.heap.size<=b
 rS:∀b o v,G' b o=some v->w'.cell? ⟨b,o,none⟩=some v
def aZ(P:Program)(X:Ctx)(f:FuncId)(Y:Ψ)(r:CV):Prop :=
 Enters P f/\∀(G:lB)(w:World)(V:L Value),(∀b o v,G b o=some v->w.cell? ⟨b,o,none⟩=some v)->rR X G->cy G Y V ->
  Calls P f V.toArray w λe T=>∃u U,e = .returned u/\Rel U r u/\Qr w G T U
def Qr.kept{w V G U}(h:Qr w G V U)(b o)(Y:b<w.heap.size) :
  V.cell? ⟨b,o,none⟩=w.cell? ⟨b,o,none⟩/\V.frozen? ⟨b,o,none⟩=w.frozen? ⟨b,o,none⟩:=by
 have:=h.block b Y;constructor;simp only[World.cell?,this];simp only[World.frozen?,this]
def aZ.of{P X f fn c args r}(hf:P.funcs[f]?=some fn)(hb:fn.body=some c)(he:Enters P f)
  (hn:args.length<=fn.ntmps)(env)(dI:env=(args.zipIdx.map λ(v,i)=>(i,AV.c v)))
  (h:∀β,β.σ=⟨[],[],[]⟩->AK P X f fn.ntmps β (λe w'=>∃u g',e = .returned u/\Rel g'.G r u/\jv β.w β.g β.σ w' g' ⟨[],[],[]⟩/\∀b o v,g'.G b o=some v->w'.cell? ⟨b,o,none⟩=some v) [.code c] env ⟨[],[],[]⟩) :
  aZ P X f args r:=by
 refine⟨he,λG w vs jH cB gP cs=>?_⟩
 let g:Gh:=⟨G,λ_=>none,λ_=>none,λ_=>0⟩
 let β:lu:=⟨w,g,⟨[],[],[]⟩⟩
 have hlen:=(cy.get gP).1
 have hL:Live X β fn.ntmps env ⟨[],[],[]⟩ g w {tmps:=vs.toArray++Array.replicate (fn.ntmps-vs.toArray.size) undef,defers:=[]}:=by
  refine⟨⟨jH,?_,?_,?_,?_,?_,λk cs b e=>by simp[au]at e⟩,cB,?_,jv.refl _ _ _,?_,Z⟩
  ·intro k cs e;simp[au]at e
  ·simp_all
  ·intro k n e;simp[au]at e
  ·simp_all
  ·grind
  ·intro t a e
   subst dI
   have key:∀(l:Ψ)(us:L Value)(k:Nat),cy G l us->au t ((l.zipIdx k).map λ(v,i)=>(i,AV.c v))=some a->k<=t/\∃u,us[t-k]?=some u/\aX g a u:=by
    intro l
    induction l with
    |nil=>intro us k _ e;simp[au]at e
    |cons v l ih =>
     intro us k hr e
     simp only[cy]at hr
     obtain⟨u,us,rfl,h1,h2⟩:=hr
     simp only[ajE,ahM,ak]at e
     split at e
     ·rename_i ht;subst ht;simp at e;subst e
      exact⟨acd _,u,cS,adX⟩
     ·grind
   obtain⟨_,u,h4,h5⟩:=key args vs 0 gP e
   simp at h4
   have hlt:t<vs.length:=(List.getElem?_eq_some_iff.1 h4).1
   have:(vs.toArray++Array.replicate (fn.ntmps-vs.toArray.size) undef).getD t undef=u:=by
    rw[ajf,aif (by simpa using hlt)]
    simp[h4]
   rw[this];exact h5
  ·simp;omega
 obtain⟨e,w',fr,⟨u,g',rfl,h1,h2,h3⟩,h4,h5,h6⟩:=h β rfl g w _ cs hL
 have xN:Frame.enter P f vs.toArray .normal =
   (top f).at {tmps:=vs.toArray++Array.replicate (fn.ntmps-vs.toArray.size) undef,defers:=[]} [.code c]:=by
  simp[Frame.enter,Frame.at,hf,hb,top]
 refine⟨_,w',fr,⟨u,g'.G,Z,h1,⟨h2.os,h2.tape,h2.output,h2.size,λb hb=>h2.block b hb ?_,h2.le,λb o v hv=>?_,h3⟩⟩,by rw[xN];exact h4,h5,h6⟩
 ·rintro o (⟨k,cs,e,_⟩|⟨k,n,lo,hi,e,_⟩)<;>simp[β,au]at e
 ·rcases h2.new b o v hv with h|h|h
  ·exact .inl h
  ·exact .inr h
  ·rcases h with ⟨k,cs,e,_⟩|⟨k,n,lo,hi,e,_⟩<;>simp[β,au]at e
section
variable {P:Program}{X:Ctx}
abbrev QR(β:lu)(r:CV):Ending->World->Prop:=λe w'=>∃u g',e = .returned u/\Rel g'.G r u/\jv β.w β.g β.σ w' g' ⟨[],[],[]⟩/\∀b o v,g'.G b o=some v->w'.cell? ⟨b,o,none⟩=some v
def jv.forget{w Y g V σ O}(h:jv w g σ Y V O):jv w g σ Y V ⟨[],[],[]⟩ where
 os:=h.os
 tape:=h.tape
 output:=h.output
 size:=h.size
 block:=h.block
 kept:=h.kept
 le:=h.le
 new:=h.new
 boxes:=λk U b e=>by simp[au]at e
 toks:=λk n b D H e=>by simp[au]at e
 ids:=λk _ e=>by simp[au]at e
def AK.ahK(hX:cI P X){f n β}{K:L Item}{env σ W}(hf:P.funcs[f]?=some W){r Y V}
  (G:nh X σ.boxes env W.results.toList=some r)(D:close r=some Y)(U:Y=V):AK P X f n β (QR β V) (.code .ret::K) env σ:=by
 subst U;refine AK.ret hX hf G λg w u S O B T=>?_;exact⟨u,g,Z,(wG r Y u D S).1,T.forget,O.rS⟩
def gD{G}:∀{a b V U},cy G a V->cy G b U->cy G (a++b) (V++U)
 |[],b,V,U,h1,T=>by simp only[cy]at h1;subst h1;simpa using T
 |x::a,b,V,U,h1,T=>by obtain⟨u,V,rfl,B,Y⟩:=h1;exact⟨u,V++U,rfl,B,gD Y T⟩
def Iu{w x g σ U}(H:Inv w g σ)(K:Qr w g.G x U) :
  Inv x ⟨U,g.box,g.tok,g.room⟩ σ/\jv w g σ x ⟨U,g.box,g.tok,g.room⟩ σ/\g.le ⟨U,g.box,g.tok,g.room⟩:=by
 have J:g.le ⟨U,g.box,g.tok,g.room⟩:=⟨K.le,λ_ _ h=>h,λ_ _ _=>rfl,λk D q h=>⟨D,q,h,acd _,λ_=>rfl⟩⟩;have Y:∀b o,b<w.heap.size->g.G b o=none->U b o=none:=by
  intro b o W h;cases T:U b o with
  |none=>rfl
  |some v =>
   rcases K.new b o v T with E|E
   grind;omega
 refine⟨⟨K.rS,?_,H.gR,?_,H.iX,H.used,?_⟩,⟨K.os,K.tape,K.output,K.size,λb W _=>K.block b W,λb o W _=>K.kept b o W,K.le,λb o v h=>?_,?_,?_,?_⟩,J⟩;intro k y e;obtain⟨b,z,F,B,V⟩:=H.box k y e;exact⟨b,z,aja F K.size,λo=>Y b o F (B o),(cC.of_same (λo=>K.kept b o F) V).mono J⟩;intro k n e;obtain⟨q,z,F⟩:=H.tok k n e;refine⟨q,z,λb S N C=>?_⟩;obtain⟨B,V,Q⟩:=F b S N C;refine⟨aja B K.size,λo P O=>?_,Q⟩;obtain⟨M,⟨u,I⟩,h8⟩:=V o P O;exact⟨Y b o B M,⟨u,(K.kept b o B).1.trans I⟩,(K.kept b o B).2.trans h8⟩;intro k y b e W o;obtain⟨t,z,F,_⟩:=H.box k y e;rw[W]at z;cases z;obtain⟨B,V⟩:=H.room k y b e W o;exact⟨λA=>(B A).imp λu p=>(K.kept b o F).1.trans p,(K.kept b o F).2.trans V⟩;exact(K.new b o v h).imp id .inl;grind;grind;simp_all
def bR.KU{o}{env:Env}{σ f args ts}(ho:o.op = .call {callee := .value (.func f),args:=args,argTypes:=ts})
  {r8 r}(ha:iC (aJ X env) args.toList=some r8)(hq:aZ P X f r8 r):bR P X o env σ (.c r) (λσ=>σ) ⟨[],[]⟩:=by
 intro dx σ1 w g a next Q h1 h2 hinv cB dI hnext
 have Bg:iC (aJ X dx) args.toList=some r8:=by
  rw[lN _ (λx hx=>h1 x ta)];exact ha
 have gP:=qf (g:=g) (ev:=a.eval) (λx v hx=>cz dI cB hx) Bg
 have hrun:(execOp a.eval o).run P w = .ok (.enter f (args.map a.eval)) w:=by
  obtain⟨dst,op,type,pos,after,guard⟩:=o
  subst ho
  simp[execOp,resolve,Deferred.ofValue,invoke,Act.eval,hq.1 _ w]
 unfold Oper.wp
 rw[hrun,Oper.upon_enter]
 have:=hq.2 g.G w _ hinv.rS cB gP
 rw[show(args.toList.map a.eval).toArray=args.map a.eval from by rw[<- ajp]]at this
 refine this.mono ?_
 rintro e w' ⟨u,G',rfl,h3,h4⟩
 obtain⟨h5,h6,h7⟩:=Iu hinv h4
 exact hnext u w' _ afG h5 h6 h7
def bR.Ht{o}{env:Env}{σ f x}{caps:Ψ}{args ts}(ho:o.op = .call {callee := .value x,args:=args,argTypes:=ts})
  (hx:aJ X env x=some (.c (.sX f caps))){r8 r}(ha:iC (aJ X env) args.toList=some r8)(hq:aZ P X f (r8++caps) r) :
  bR P X o env σ (.c r) (λσ=>σ) ⟨[],[]⟩:=by
 intro dx σ1 w g a next Q h1 h2 hinv cB dI hnext
 have Bg:iC (aJ X dx) args.toList=some r8:=by
  rw[lN _ (λx hx=>h1 x ta)];exact ha
 have hx':aJ X dx x=some (.c (.sX f caps)):=by
  rw[h1 x ZI];exact hx
 have gP:=qf (g:=g) (ev:=a.eval) (λx v hx=>cz dI cB hx) Bg
 have ala:=cz (a:=a) dI cB hx'
 obtain⟨us,hu,ah3⟩:=ala
 have hrun:(execOp a.eval o).run P w = .ok (.enter f (args.map a.eval++us.toArray)) w:=by
  obtain⟨dst,op,type,pos,after,guard⟩:=o
  subst ho
  simp[execOp,resolve,hu,Deferred.ofValue,invoke,hq.1 _ w]
 unfold Oper.wp
 rw[hrun,Oper.upon_enter]
 have:=hq.2 g.G w _ hinv.rS cB (gD gP ah3)
 rw[show(args.toList.map a.eval++us).toArray=args.map a.eval++us.toArray from by rw[<- ajp];simp]at this
 refine this.mono ?_
 rintro e w' ⟨u,G',rfl,h3,h4⟩
 obtain⟨h5,h6,h7⟩:=Iu hinv h4
 exact hnext u w' _ afG h5 h6 h7
end
def St.fA(σ:St)(d:Nat)(cells:Φ):St:=⟨(d,cells)::σ.boxes,σ.toks,d::σ.used⟩
def tL(d cells):jf (λσ=>σ.fA d cells) ⟨[],[d]⟩ where
 out:=λσ k I=>by
  have:k≠d:=by simpa using I
  refine⟨?_,Z,?_⟩;simp only[St.fA,ak,if_neg this];simp[St.fA,this]
 same:=λσ p h k I=>by
  have:k=d:=by simpa using I
  subst this;refine⟨?_,(h k (.inr cS)).2.1,?_⟩;simp[St.fA,ak];simp[St.fA]
def zI{g a u}(h:a.one)(V:aX g a u):u.oneCell':=by
 cases a with
 |c v =>
  simp only[AV.one]at h;simp only[aX]at V;cases v<;>simp[CV.one]at h<;>simp only[Rel]at V
  case int=>subst V;rfl
  case bool=>subst V;rfl
  case str=>subst V;rfl
  case nL=>subst V;rfl
  case sl=>obtain⟨_,_,_,rfl,_⟩:=V;rfl
  case ip=>obtain⟨_,_,rfl,_⟩:=V;rfl
  case sX=>obtain⟨_,rfl,_⟩:=V;rfl
  case any=>cases u<;>first|rfl|exact absurd Z (V.1 _)|exact absurd Z (V.2 _)
  case wC=>obtain⟨_,rfl⟩:=V;rfl
 |own=>simp only[aX]at V;obtain⟨_,_,_,rfl,_⟩:=V;rfl
 |ptr=>simp only[aX]at V;obtain⟨_,_,rfl⟩:=V;rfl
 |iI=>simp only[aX]at V;obtain⟨_,_,_,_,rfl,_⟩:=V;rfl
 |any =>
  cases u<;>first|rfl|exact absurd Z (V.1 _)|exact absurd Z (V.2 _)
 |agg=>simp[AV.one]at h
 |eK=>simp[AV.one]at h
section
variable {P:Program}{X:Ctx}
def M9{w g σ d cells us t}(hinv:Inv w g σ)(hd:d ∉ σ.used)(af7:d<1000000)(hr:cn g cells (us.toList.take cells.length))(ho:cells.all AV.one) :
  let g':Gh:=⟨g.G,λk=>if k=d then some w.heap.size else g.box k,g.tok,λk=>if k=d then us.size else g.room k⟩
  let w':World:={w with heap:=w.heap.push (.cells us t)}
  Inv w' g' (σ.fA d cells)/\jv w g σ w' g' (σ.fA d cells)/\g.le g'/\aX g' (.ptr d 0) (.pointer (some ⟨w.heap.size,0,none⟩)):=by
 intro g' w'
 have hbn:g.box d=none:=by
  cases h:g.box d with
  |none=>rfl
  |some b=>exact absurd (hinv.used d (.inl ri)) hd
 have hle:g.le g':=⟨lB.le.refl _,λk b h=>by
  by_cases hk:k=d
  ·simp_all
  ·simp[g',hk,h],λk b h=>by
  by_cases hk:k=d
  ·simp_all
  ·simp[g',hk],λk hw iy h=>⟨hw,iy,h,acd _,λ_=>rfl⟩⟩
 have hold:∀b o,b<w.heap.size->w'.cell? ⟨b,o,none⟩=w.cell? ⟨b,o,none⟩/\w'.frozen? ⟨b,o,none⟩=w.frozen? ⟨b,o,none⟩:=by
  intro b o hb
  exact⟨World.cell?_alloc_old w _ ⟨b,o,none⟩ ab5,World.frozen?_alloc_old w _ ⟨b,o,none⟩ ab5⟩
 have hsz:w'.heap.size=w.heap.size+1:=by simp[w']
 have Qs:∀b o v,g.G b o=some v->b<w.heap.size:=λb o v h=>World.block_lt_of_cell? w ⟨b,o,none⟩ (hinv.rS b o v h)
 have kF:cC w' g' w.heap.size 0 cells:=by
  obtain⟨h1,h2⟩:=cn.get hr
  apply cC.mm
  intro j c hj
  obtain⟨u,e1,e2⟩:=h2 j c hj
  refine⟨⟨u,?_,aX.mono hle _ _ e2,?_⟩,?_⟩
  ·have:=World.cell?_alloc_new w us t (0+j)
   rw[show(w.alloc (.cells us t))=w' from rfl]at this
   rw[this]
   rw[ajl]at e1
   split at e1
   ·simpa using e1
   ·simp at e1
  ·rw[ajO]at ho;exact ho c (acm hj)
  ·exact World.frozen?_alloc_new w us t (0+j)
 refine⟨⟨?_,?_,?_,?_,hinv.iX,?_,?_⟩,⟨Z,Z,Z,ai,λb hb _=>by show(w.heap.push _)[b]?=_;rw[akQ,if_neg ai],λb o hb _=>hold b o hb,lB.le.refl _,λ_ _ _ h => .inl h,?_,?_,λk hk h=>⟨by simp only[St.fA,ak]at h;rwa[if_neg ai]at h,by simp only[g'];rw[if_neg ai],by simp only[g'];rw[if_neg ai]⟩⟩,hle,by simp_all;exact⟨_,afW,Z⟩⟩
 ·intro b o v h
  rw[(hold b o (Qs b o v h)).1];exact hinv.rS b o v h
 ·intro k cs e
  simp only[St.fA,ak]at e
  split at e
  ·rename_i hk;subst hk;simp at e;subst e
   refine⟨w.heap.size,afW,ai,?_,kF⟩
   intro o
   cases hg:g.G w.heap.size o with
   |none=>rfl
   |some v=>have:=Qs _ _ _ hg;omega
  ·rename_i hk
   obtain⟨b,h1,h2,h3,h4⟩:=hinv.box k cs e
   exact⟨b,by simp[g',hk,h1],ai,h3,(cC.of_same (λo=>hold b o h2) h4).mono hle⟩
 ·intro k k' cs cs' b e e' h1 h2
  simp only[St.fA,ak]at e e'
  simp only[g']at h1 h2
  split at e
  ·rename_i hk
   rw[if_pos hk]at h1;simp at h1
   split at e'
   ·rename_i hk';rw[hk,hk']
   ·rename_i hk'
    rw[if_neg hk']at h2
    obtain⟨b',h3,h4,_⟩:=hinv.box k' cs' e'
    rw[h3]at h2;simp at h2;omega
  ·rename_i hk
   rw[if_neg hk]at h1
   split at e'
   ·rename_i hk'
    rw[if_pos hk']at h2;simp at h2
    obtain⟨b',h3,h4,_⟩:=hinv.box k cs e
    rw[h3]at h1;simp at h1;omega
   ·rename_i hk'
    rw[if_neg hk']at h2
    exact hinv.gR k k' cs cs' b e e' h1 h2
 ·intro k n e
  obtain⟨iy,h1,h2⟩:=hinv.tok k n e
  refine⟨iy,h1,λb lo hi hr=>?_⟩
  obtain⟨h3,h4,h5⟩:=h2 b lo hi hr
  refine⟨ai,λo P6 Te=>?_,λk' cs e'=>?_⟩
  ·obtain⟨h6,⟨u,h7⟩,h8⟩:=h4 o P6 Te
   exact⟨h6,⟨u,(hold b o h3).1.trans h7⟩,(hold b o h3).2.trans h8⟩
  ·simp only[St.fA,ak]at e'
   simp only[g']
   split at e'
   ·rename_i hk;rw[if_pos hk];simp;omega
   ·rename_i hk;rw[if_neg hk];exact h5 k' cs e'
 ·intro k e
  simp only[St.fA,aim]
  by_cases hk:k=d
  ·exact .inl hk
  ·right
   apply hinv.used k
   simpa[g',hk]using e
 ·intro k cs b e h o
  simp only[St.fA,ak]at e
  simp only[g']at h ⊢
  split at e
  ·rename_i hk
   rw[if_pos hk]at h
   rw[if_pos hk]
   simp at h;subst h
   have h1:=World.cell?_alloc_new w us t o
   rw[show(w.alloc (.cells us t))=w' from rfl]at h1
   have h2:=World.frozen?_alloc_new w us t o
   rw[show(w.alloc (.cells us t))=w' from rfl]at h2
   exact⟨λho=>⟨us[o],by rw[h1];simp[ho]⟩,h2⟩
  ·rename_i hk
   rw[if_neg hk]at h
   rw[if_neg hk]
   obtain⟨b',h3,h4,_⟩:=hinv.box k cs e
   rw[h]at h3;cases h3
   obtain⟨h5,h6⟩:=hinv.room k cs b e h o
   exact⟨λho=>(h5 ho).imp λu hu=>(hold b o h4).1.trans hu,(hold b o h4).2.trans h6⟩
 ·intro k cs b e h
  simp only[St.fA,ak]at e
  simp only[g']at h
  split at e
  ·rename_i hk;rw[if_pos hk]at h;simp at h;left;omega
  ·rename_i hk;rw[if_neg hk]at h;exact .inr ⟨k,cs,e,h⟩
 ·exact ahc
def Tp{w g σ d cells us t}(hinv:Inv w g σ)(hd:d ∉ σ.used)(af7:d<1000000)(hr:cn g cells us.toList)(ho:cells.all AV.one) :
  let g':Gh:=⟨g.G,λk=>if k=d then some w.heap.size else g.box k,g.tok,λk=>if k=d then us.size else g.room k⟩
  let w':World:={w with heap:=w.heap.push (.cells us t)}
  Inv w' g' (σ.fA d cells)/\jv w g σ w' g' (σ.fA d cells)/\g.le g'/\aX g' (.ptr d 0) (.pointer (some ⟨w.heap.size,0,none⟩)):=by
 have hl:cells.length=us.toList.length:=(cn.get hr).1
 exact M9 (t:=t) hinv hd af7 (by rw[hl,ald];exact hr) ho
def cX{d}:∀{l},mem d l=false->d ∉ l
 |[],_=>by simp
 |x::l,h=>by simp only[mem]at h;split at h;grind;rename_i O;have:=beq_false O;simp[cX h,Ne.symm this]
def Qt(d:Nat)(l:Ω):Bool:=match Nat.blt d 1000000 with
 |true=>mem d l
 |false=>true
theorem GK{d l}(h:Qt d l=false):d<1000000/\mem d l=false:=by unfold Qt at h;split at h;simp_all;grind
def bR.box{o:Oper}{env:Env}{σ t x}{d:Nat}(ho:o.op = .box t x)(hd:o.dst=some d){a}(ha:aJ X env x=some a){cells}
  (hc:kG a=some cells)(hu:Qt d σ.used=false):bR P X o env σ (.ptr d 0) (λσ=>σ.fA d cells) ⟨[],[d]⟩:=by
 intro dx σ1 w g act next Q h1 h2 hinv cB dI hnext
 have Bg:aJ X dx x=some a:=by rw[h1 x lf];exact ha
 obtain⟨c1,c2⟩:=AJ hc (cz (a:=act) dI cB Bg)
 have hd':d ∉ σ1.used:=λh=>cX (GK hu).2 ((h2 d (.inr cS)).2.2.1 h)
 have hrun:(execOp act.eval o).run P w = .ok (.value (.pointer (some ⟨w.heap.size,0,none⟩))) {w with heap:=w.heap.push (.cells (act.eval x).cells t)}:=by
  obtain⟨dst,op,type,pos,after,guard⟩:=o
  subst ho
  rfl
 unfold Oper.wp
 rw[hrun,Oper.upon_value]
 obtain⟨h3,h4,h5,h6⟩:=Tp (t:=t) hinv hd' (GK hu).1 c1 c2
 grind
def bR.alloc(hX:cI P X){o:Oper}{env σ t}{d:Nat}(ho:o.op = .alloc t)(hd:o.dst=some d){i}(hi:X.ti t=some i){za}(hz:i.zero=some za){cells}
  (hc:kG za=some cells)(hu:Qt d σ.used=false):bR P X o env σ (.ptr d 0) (λσ=>σ.fA d cells) ⟨[],[d]⟩:=by
 intro dx σ1 w g act next Q h1 h2 hinv cB dI hnext
 obtain⟨z,z1,z2,z3⟩:=hX.nW (w:=w) hi hz
 obtain⟨c1,c2⟩:=AJ hc (z2 g)
 have hd':d ∉ σ1.used:=λh=>cX (GK hu).2 ((h2 d (.inr cS)).2.2.1 h)
 have hrun:(execOp act.eval o).run P w = .ok (.value (.pointer (some ⟨w.heap.size,0,none⟩))) {w with heap:=w.heap.push (.cells z.cells t)}:=by
  obtain⟨dst,op,type,pos,after,guard⟩:=o
  subst ho
  simp[execOp,Instr.alloc,newVar,newRow,z1]
 unfold Oper.wp
 rw[hrun,Oper.upon_value]
 obtain⟨h3,h4,h5,h6⟩:=Tp (t:=t) hinv hd' (GK hu).1 c1 c2
 grind
def St.tM(σ:St)(k:Nat)(cells:Φ):St:=⟨yC k cells σ.boxes,σ.toks,σ.used⟩
def Tq(k cells):jf (λσ=>σ.tM k cells) ⟨[],[k]⟩ where
 out:=λσ j G=>by
  have:j≠k:=by simpa using G
  exact⟨by simp only[St.tM,fP,if_neg this],Z,Iff.rfl⟩
 same:=λσ p h j G=>by
  have:j=k:=by simpa using G
  subst this;exact⟨by simp[St.tM,fP],(h j (.inr cS)).2.1,(h j (.inr cS)).2.2⟩
theorem heap_setCell(w:World)(a u k)(h:k≠a.block):(w.setCell a u).heap[k]?=w.heap[k]?:=by simp only[World.setCell];grind
def pe{w:World}(b):∀(vs:L Value)(o i)(w),(∀v∈vs,v.oneCell') ->
  (∀j,j<vs.length->(∃u,w.cell? ⟨b,o+i+j,none⟩=some u)/\w.frozen? ⟨b,o+i+j,none⟩=false) ->
  ∃w',(storeCells ⟨b,o,none⟩ vs i).run P w = .ok () w'/\(w'.heap.size=w.heap.size/\w'.os=w.os/\w'.tape=w.tape/\w'.output=w.output/\∀b',b'≠b->w'.heap[b']?=w.heap[b']?) /\
   (∀b' o',b'≠b\/o'<o+i\/o+i+vs.length<=o'->w'.cell? ⟨b',o',none⟩=w.cell? ⟨b',o',none⟩) /\
   (∀b' o',w'.frozen? ⟨b',o',none⟩=w.frozen? ⟨b',o',none⟩) /\
   ∀j v,vs[j]?=some v->w'.cell? ⟨b,o+i+j,none⟩=some v
 |[],o,i,w,_,_=>⟨w,by simp[storeCells],⟨Z,Z,Z,Z,λ_ _=>rfl⟩,λ_ _ _=>rfl,λ_ _=>rfl,cS⟩
 |v::vs,o,i,w,h1,h2=>by
  obtain⟨⟨u,hu⟩,hf⟩:=h2 0 cS
  simp at hu hf
  have hv:=h1 v cS
  have hst:(store (Addr.add ⟨b,o,none⟩ i) v).run P w = .ok () (w.setCell ⟨b,o+i,none⟩ v):=by
   rw[Addr.add_lit]
   have:=run_store P w ⟨b,o+i,none⟩ v .plain hv
   simp_all
  obtain⟨w',r1,r2,r3,r4,r5⟩:=pe (w:=w) b vs o (i+1) (w.setCell ⟨b,o+i,none⟩ v) (λx hx=>h1 x (by simp[hx])) (by
   intro j hj
   obtain⟨⟨u',hu'⟩,hf'⟩:=h2 (j+1) oe
   refine⟨⟨u',?_⟩,?_⟩
   ·rw[World.cell?_setCell_other w _ _ _ oe]
    rwa[show o+(i+1)+j=o+i+(j+1)from by omega]
   ·rw[World.frozen?_setCell]
    rwa[show o+(i+1)+j=o+i+(j+1)from by omega])
  refine⟨w',?_,⟨by simpa using r2.1,r2.2.1,r2.2.2.1,r2.2.2.2.1,λb' hb'=>(r2.2.2.2.2 b' hb').trans (heap_setCell w _ _ _ hb')⟩,?_,?_,?_⟩
  ·simp only[storeCells,Sem.run_bind,hst,Result.andThen_ok,r1]
  ·intro b' o' h
   rw[r3 b' o' (by simp at h ⊢;omega),World.cell?_setCell_other w]
   intro e
   simp at e h
   obtain⟨rfl,rfl⟩:=e
   omega
  ·simp_all
  ·intro j v' hj
   cases j with
   |zero =>
    simp at hj;subst hj
    rw[r3 b _ (by right;left;omega)]
    exact World.cell?_setCell_same w _ _ hu
   |succ j =>
    simp at hj
    have:=r5 j v' hj
    rwa[show o+(i+1)+j=o+i+(j+1)from by omega]at this
def bR.store(hX:cI P X){o}{env:Env}{σ:St}{t:TypeId}{x y}(ho:o.op = .store t x y)(hd:o.dst=none){i}(hi:X.ti t=some i){key off}
  (hx:aJ X env x=some (.ptr key off)){a}(hy:aJ X env y=some a){cells vs r:Φ}(hb:au key σ.boxes=some cells)(hc:kG a=some vs)
  (hl:vs.length=i.size)(hw:bQ off vs cells=some r):bR P X o env σ (.c .undef) (λσ=>σ.tM key r) ⟨[],[key]⟩:=by
 intro dx σ1 w g act next Q h1 h2 hinv cB dI hnext
 have hx':aJ X dx x=some (.ptr key off):=by rw[h1 x lf];exact hx
 have hy':aJ X dx y=some a:=by rw[h1 y lf];exact hy
 have hb':au key σ1.boxes=some cells:=by rw[(h2 key (.inr cS)).1];exact hb
 have rx:=cz (a:=act) dI cB hx'
 simp only[aX]at rx
 obtain⟨b,Ea,ex⟩:=rx
 obtain⟨c1,c2⟩:=AJ hc (cz (a:=act) dI cB hy')
 obtain⟨b',Na,ah4,hbG,hbc⟩:=hinv.box key cells hb'
 rw[Ea]at Na;simp at Na;subst Na
 obtain⟨l1,l2⟩:=cn.get c1
 have hne:i.size≠0:=by obtain⟨_,_,_,_,_,_,hh⟩:=hX.ti t i hi;exact hh
 obtain⟨w1,w2,w3⟩:=qU hw
 have hfit:off+vs.length<=cells.length:=by
  cases vs with
  |nil=>simp at hl;omega
  |cons u us=>exact Tn hw
 obtain⟨w',r1,r2,r3,r4,r5⟩:=pe (P:=P) (w:=w) b (act.eval y).cells.toList off 0 w (by
   intro u hu
   obtain⟨j,hj⟩:=ajQ hu
   have hjl:j<vs.length:=by rw[l1];exact(List.getElem?_eq_some_iff.1 hj).1
   obtain⟨u',e1,e2⟩:=l2 j vs[j] (by simp[hjl])
   rw[hj]at e1;simp at e1;subst e1
   rw[ajO]at c2
   exact zI (c2 _ (akF hjl)) e2) (by
   intro j hj
   have hjl:off+j<cells.length:=by rw[<- l1]at hj;omega
   obtain⟨⟨u,e1,_⟩,e2⟩:=hbc.get (off+j) cells[off+j] (by simp[hjl])
   simp only[ahr,aiI]at e1 e2 ⊢
   exact⟨⟨u,e1⟩,e2⟩)
 have hrun:(execOp act.eval o).run P w = .ok .skip w':=by
  obtain⟨dst,op,type,pos,after,guard⟩:=o
  simp only at ho;subst ho
  have hsz:(act.eval y).cells.size=i.size:=by rw[<- hl,l1];simp
  simp only[execOp,ex,Instr.storeAt,Instr.sureAddr,storeVar,Sem.run_bind,Sem.run_pure,Result.andThen_ok,hX.run_sizeOf hi]
  rw[if_neg (by simpa using hsz),r1];rfl
 unfold Oper.wp
 rw[hrun,Oper.upon_skip,hd]
 have zJ:∀b' o',b'≠b->w'.cell? ⟨b',o',none⟩=w.cell? ⟨b',o',none⟩:=λb' o' h=>r3 b' o' (.inl h)
 have alb:∀b' o' v,g.G b' o'=some v->b'≠b:=by
  rintro b' o' v h rfl;rw[hbG]at h;simp at h
 have:=hnext Go.undef w' g rj ⟨?_,?_,?_,?_,hinv.iX,hinv.used,?_⟩ ⟨r2.2.1,r2.2.2.1,r2.2.2.2.1,ai,λb' hb0 hno=>r2.2.2.2.2 b' (by rintro rfl;exact hno 0 (.inl ⟨key,cells,hb',Ea⟩)),?_,lB.le.refl _,λ_ _ _ h => .inl h,?_,?_,λk _ h=>⟨by simp only[St.tM,fP]at h;split at h;(· rename_i hk;subst hk;rw[hb'];simp);(· exact h),rfl,rfl⟩⟩ (Gh.le.refl _)
 ·simp_all
 ·intro b' o' v h
  rw[zJ b' o' (alb b' o' v h)];exact hinv.rS b' o' v h
 ·intro k cs e
  simp only[St.tM,fP]at e
  split at e
  ·rename_i hk;subst hk;simp at e;subst e
   refine⟨b,Ea,ai,hbG,?_⟩
   apply cC.mm
   intro j c hj
   rw[w3]at hj
   simp only[ahr]
   split at hj
   ·rename_i hin
    obtain⟨u,e1,e2⟩:=l2 _ _ hj
    refine⟨⟨u,?_,e2,?_⟩,?_⟩
    ·have:=r5 (j-off) u (by simpa using e1)
     rwa[show off+0+(j-off)=j from by omega]at this
    ·rw[ajO]at c2;exact c2 c (acm hj)
    ·rw[r4]
     have hjl:j<cells.length:=by omega
     have:=(hbc.get j cells[j] (by simp[hjl])).2
     simpa using this
   ·rename_i hin
    obtain⟨⟨u,e1,e2,e3⟩,e4⟩:=hbc.get j c hj
    simp only[ahr]at e1 e4
    refine⟨⟨u,?_,e2,e3⟩,by rw[r4];exact e4⟩
    rw[r3 b j (by right;have:=l1;omega)];exact e1
  ·rename_i hk
   obtain⟨b',e1,e2,e3,e4⟩:=hinv.box k cs e
   have Ew:b'≠b:=by
    rintro rfl
    exact hk (hinv.gR k key cs cells _ e hb' e1 Ea)
   exact⟨b',e1,ai,e3,cC.of_same (λo=>⟨zJ b' o Ew,r4 b' o⟩) e4⟩
 ·intro k k' cs cs' b'' e e' e1 e2
  have hex:∀k cs,au k (σ1.tM key r).boxes=some cs->∃cs,au k σ1.boxes=some cs:=by
   intro k cs e
   simp only[St.tM,fP]at e
   split at e
   ·simp_all
   ·exact⟨_,e⟩
  obtain⟨c1,f1⟩:=hex k cs e
  obtain⟨c2,f2⟩:=hex k' cs' e'
  exact hinv.gR k k' c1 c2 b'' f1 f2 e1 e2
 ·intro k n e
  obtain⟨iy,e1,e2⟩:=hinv.tok k n e
  refine⟨iy,e1,λb' lo hi hr=>?_⟩
  obtain⟨e3,e4,e5⟩:=e2 b' lo hi hr
  have Ew:b'≠b:=by
   rintro rfl;exact e5 key cells hb' Ea
  refine⟨ai,λo' h1 h2=>?_,λk' cs e'=>?_⟩
  ·simp_all
  ·simp only[St.tM,fP]at e'
   split at e'
   ·rename_i hk;subst hk;exact e5 _ cells hb'
   ·exact e5 k' cs e'
 ·intro k cs b0 e hb0 o0
  have hex:∃cs0,au k σ1.boxes=some cs0:=by
   simp only[St.tM,fP]at e
   split at e
   ·simp_all
   ·exact⟨_,e⟩
  obtain⟨cs0,e0⟩:=hex
  obtain⟨q0,q2⟩:=hinv.room k cs0 b0 e0 hb0 o0
  refine⟨λho0=>?_,by rw[r4];exact q2⟩
  obtain⟨u,q1⟩:=q0 ho0
  by_cases hw0:b0=b/\off<=o0/\o0<off+(act.eval y).cells.toList.length
  ·obtain⟨rfl,h5,h6⟩:=hw0
   obtain⟨v,hj⟩:∃v,(act.eval y).cells.toList[o0-off]?=some v:=⟨_,ahl ai⟩
   have:=r5 (o0-off) v hj
   rw[show off+0+(o0-off)=o0 from by omega]at this
   exact⟨v,this⟩
  ·refine⟨u,?_⟩
   rw[r3 b0 o0 (by
    by_cases Ew:b0=b
    ·omega
    ·exact .inl Ew)]
   exact q1
 ·intro b' o' hlt hno
  refine⟨zJ b' o' ?_,r4 b' o'⟩
  rintro rfl
  exact hno (.inl ⟨key,cells,hb',Ea⟩)
 ·intro k cs b' e e1
  simp only[St.tM,fP]at e
  split at e
  ·rename_i hk;subst hk;exact .inr ⟨_,_,hb',e1⟩
  ·exact .inr ⟨k,cs,e,e1⟩
 ·exact ahc
end
def Nb:AV->Value->Bool
 |.c (.int k n),.int k' n'=>k==k'&&n==n'
 |.c (.bool b),.bool b'=>b==b'
 |.c (.str []),.string s=>s.data.toList.isEmpty
 |.c .nL,.pointer none=>true
 |.own .exact _ [],.slice none 0 0=>true
 |_,_=>false
def Ex:Φ->L Value->Bool
 |[],[]=>true
 |a::l,v::vs=>Nb a v&&Ex l vs
 |_,_=>false
def ZO:AV->Value->Bool
 |.agg l,.agg Y=>Ex l Y.toList
 |a,v=>Nb a v
def Lo{a v}(h:Nb a v)g:aX g a v/\a.one:=by unfold Nb at h;split at h<;>simp at h;obtain⟨rfl,rfl⟩:=h;simp[aX,Rel,AV.one,CV.one];subst h;simp[aX,Rel,AV.one,CV.one];rename_i s;simp only[AV.one,CV.one,akb];congr 1;apply ByteArray.ext;simp[h];simp[aX,Rel,AV.one,CV.one];simp only[AV.one,akb];exact⟨_,_,_,rfl,rfl,acd _,.inl rfl,rfl⟩
def Lp(g):∀{l V},Ex l V->cn g l V/\l.all AV.one
 |[],[],_=>by simp[cn]
 |[],_::_,h=>by simp[Ex]at h
 |_::_,[],h=>by simp[Ex]at h
 |a::l,v::V,h=>by simp only[Ex,aaI]at h;obtain⟨U,T⟩:=Lo h.1 g;obtain⟨B,Y⟩:=Lp g h.2;exact⟨by simp_all;exact⟨v,V,rfl,U,B⟩,by simp only[aiK,T];exact Y⟩
def ZP{a v}(h:ZO a v)(g):aX g a v:=by unfold ZO at h;split at h;rename_i l Y;obtain⟨V,U⟩:=Lp g h;exact⟨Y.toList,cS,V,U⟩;exact(Lo h g).1
def Tr(P:Program)(k:TK)(d:TypeDesc):Bool :=
 match k,d with
 |.int k,.int U=>k==U
 |.bool,.bool=>true
 |.str,.string=>true
 |.ptr e,.pointer V=>e==V
 |.slice e,.slice V=>e==V
 |.arr n e,.array W V=>n==W&&e==V
 |.struct A,.struct Y=>Y.toList.map (λf=>(f.offset,f.type))==A&&Y.toList.all λf=>match P.info? f.type with
  |some M=>M.size != 0
  |none=>false
 |.other,.func .. => true
 |.other,.map .. => true
 |.other,.tuple .. => true
 |_,_=>false
theorem Xj{P k d}(h:Tr P k d):jX P k d:=by unfold Tr at h;split at h<;>simp at h<;>simp only[jX];rw[h];rw[h];rw[h];simp_all;rename_i A Y;refine⟨Y,rfl,by simpa using h.1,λf hf=>?_⟩;obtain⟨i,H,W⟩:=Array.getElem_of_mem (Array.mem_toList_iff.1 hf);grind
def Y6(P:Program)(t:Nat)(i:TI):Bool :=
 match P.info? t,P.underlying t with
 |some M,some d=>M.size==i.size&&M.bytes==i.bytes&&i.size != 0&&Tr P i.kind d &&
  (match i.zero with
   |none=>true
   |some a=>match M.zero with
    |none=>false
    |some z=>ZO a z&&z.cells.size==i.size)
 |_,_=>false
def Y7{P table X}(hX:X.ti=λt=>au t table)(h:table.all (λp=>Y6 P p.1 p.2)):cI P X where
 ti:=λt i e=>by
  rw[hX]at e;have K:∀(l:L (Nat×TI)),l.all (λp=>Y6 P p.1 p.2)->au t l=some i->Y6 P t i:=by
   intro l
   induction l with
   |nil=>intro _ e;simp[au]at e
   |cons x l S =>
    intro h e;simp at h;simp only[au]at e;split at e;simp_all;simp_all
  have:=K table h e;unfold Y6 at this;split at this;rename_i M d U O;simp at this;obtain⟨⟨⟨⟨T,J⟩,a3⟩,N⟩,W⟩:=this;refine⟨M,U,T,J,?_,⟨d,O,Xj N⟩,a3⟩;intro a Y;rw[Y]at W;simp only at W;split at W;grind;rename_i z V;simp at W;exact⟨z,V,ZP W.1,W.2⟩;simp_all
section
variable {P:Program}{X:Ctx}{ops:tal}{o:Oper}{rest:L Oper}{env:Env}{σ:St}{acc:L Fp}{Q:Env->St->L Fp->Prop}
 {bs:tab} {ts:tad} {us:Ω} {kn:Ω}
def dA(h:cZ ops.toList kn env o=some true):uN ops o env:=by have:=wI h;simpa using this
def ag.KU(kn)(hg:cZ ops.toList kn env o=some true){f args ats}(ho:o.op = .call {callee := .value (.func f),args:=args,argTypes:=ats})
  {d:Nat}(hd:o.dst=some d){r8}(ha:iC (aJ X env) args.toList=some r8){r}(hq:aZ P X f r8 r)
  (k:ag P X ops rest ((d,.c r)::env) σ (⟨[],[]⟩::acc) Q):ag P X ops (o::rest) env σ acc Q :=
 ag.step (dA hg) (bR.KU ho ha hq) (jf.id _) zw
def ag.Ht(kn)(hg:cZ ops.toList kn env o=some true){x args ats}(ho:o.op = .call {callee := .value x,args:=args,argTypes:=ats})
  {d:Nat}(hd:o.dst=some d){f}{caps:Ψ}(hx:aJ X env x=some (.c (.sX f caps))){r8}(ha:iC (aJ X env) args.toList=some r8){r}(hq:aZ P X f (r8++caps) r)
  (k:ag P X ops rest ((d,.c r)::env) σ (⟨[],[]⟩::acc) Q):ag P X ops (o::rest) env σ acc Q :=
 ag.step (dA hg) (bR.Ht ho hx ha hq) (jf.id _) zw
def ag.box(kn)(hg:cZ ops.toList kn env o=some true){t x}(ho:o.op = .box t x){d:Nat}(hd:o.dst=some d){a}(ha:aJ X env x=some a)
  {cells}(hc:kG a=some cells)(hu:Qt d us=false)(k:ag P X ops rest ((d,.ptr d 0)::env) ⟨(d,cells)::bs,ts,d::us⟩ (⟨[],[d]⟩::acc) Q) :
  ag P X ops (o::rest) env ⟨bs,ts,us⟩ acc Q :=
 ag.step (dA hg) (bR.box ho hd ha hc hu) (tL d cells) zw
def ag.alloc(hX:cI P X)(kn)(hg:cZ ops.toList kn env o=some true){t}(ho:o.op = .alloc t){d:Nat}(hd:o.dst=some d){i}(hi:X.ti t=some i){za}(hz:i.zero=some za)
  {cells}(hc:kG za=some cells)(hu:Qt d us=false)(k:ag P X ops rest ((d,.ptr d 0)::env) ⟨(d,cells)::bs,ts,d::us⟩ (⟨[],[d]⟩::acc) Q) :
  ag P X ops (o::rest) env ⟨bs,ts,us⟩ acc Q :=
 ag.step (dA hg) (bR.alloc hX ho hd hi hz hc hu) (tL d cells) zw
def ag.store(hX:cI P X)(kn)(hg:cZ ops.toList kn env o=some true){t x y}(ho:o.op = .store t x y)(hd:o.dst=none){i}(hi:X.ti t=some i){key off}
  (hx:aJ X env x=some (.ptr key off)){a}(hy:aJ X env y=some a){cells vs r}(hb:au key bs=some cells)(hc:kG a=some vs)
  (hl:Nat.beq vs.length i.size)(hw:bQ off vs cells=some r){bs'}(hs:Bs key r bs=some bs')
  (k:ag P X ops rest env ⟨bs',ts,us⟩ (⟨[],[key]⟩::acc) Q):ag P X ops (o::rest) env ⟨bs,ts,us⟩ acc Q:=by
 rw[wD]at hs
 simp at hs
 subst hs
 exact ag.step (dA hg) (bR.store hX ho hd hi hx hy hb hc (beq_true hl) hw) (Tq key r) zw
end
def closeAll:Φ->Option (Ψ)
 |[]=>some []
 |.c v::l=>match closeAll l with
  |some r=>some (v::r)
  |none=>none
 |.own _ s Y::l=>match closeAll l with
  |some r=>some (.sl s Y::r)
  |none=>none
 |_=>none
mutual
def tN(k:Nat)(V:Ψ):AV->Option AV
 |.ptr j Y=>match Nat.beq j k with
  |true=>match eB Y V with
   |some r=>some (.c (.ip r))
   |none=>none
  |false=>some (.ptr j Y)
 |.iI j Y s n=>match Nat.beq j k with
  |true=>none
  |false=>some (.iI j Y s n)
 |.agg l=>match tO k V l with
  |some r=>some (.agg r)
  |none=>none
 |.eK l=>match tO k V l with
  |some r=>some (.eK r)
  |none=>none
 |a=>some a
def tO(k:Nat)(Y:Ψ):Φ->Option (Φ)
 |[]=>some []
 |a::l=>match tN k Y a with
  |some x=>match tO k Y l with
   |some r=>some (x::r)
   |none=>none
  |none=>none
end
def Iv(k:Nat)(Y:Ψ):Env->Option Env
 |[]=>some []
 |(t,a)::l=>match tN k Y a with
  |some x=>match Iv k Y l with
   |some r=>some ((t,x)::r)
   |none=>none
  |none=>none
def Ey(k:Nat)(Y:Ψ):tab->Option (tab)
 |[]=>some []
 |(j,a)::l=>match Nat.beq j k with
  |true=>Ey k Y l
  |false=>match tO k Y a with
   |some x=>match Ey k Y l with
    |some r=>some ((j,x)::r)
    |none=>none
   |none=>none
section
variable {P:Program}{X:Ctx}
def zK{w g b}:∀{cells cs o},closeAll cells=some cs->cC w g b o cells ->
  cells.length=cs.length/\∀(j) c,cs[j]?=some c->∃u,w.cell? ⟨b,o+j,none⟩=some u/\Rel g.G c u/\c.one
 |[],cs,o,h,_=>by simp[closeAll]at h;subst h;simp
 |.c v::l,cs,o,h,hc=>by
  simp only[closeAll]at h
  split at h
  ·rename_i r hr
   simp at h;subst h
   obtain⟨⟨u,h1,h2,h3⟩,_,h4⟩:=hc
   obtain⟨i1,i2⟩:=zK hr h4
   refine⟨by simp[i1],λj c hj=>?_⟩
   cases j with
   |zero=>simp at hj;subst hj;exact⟨u,h1,K0,h3⟩
   |succ j =>
    grind
  ·grind
 |.own k s rows::l,cs,o,h,hc=>by
  simp only[closeAll]at h
  split at h
  ·rename_i r hr
   simp at h;subst h
   obtain⟨⟨u,h1,h2,h3⟩,_,h4⟩:=hc
   obtain⟨i1,i2⟩:=zK hr h4
   refine⟨by simp[i1],λj c hj=>?_⟩
   cases j with
   |zero =>
    simp at hj;subst hj
    have:=wG (.own k s rows) (.sl s rows) u Z h2
    exact⟨u,h1,this.1,Z⟩
   |succ j =>
    have:=i2 j c hj
    rwa[show o+1+j=o+(j+1)from by omega]at this
  ·grind
 |.ptr _ _::l,cs,o,h,hc=>by simp[closeAll]at h
 |.iI .. :: l,cs,o,h,hc=>by simp[closeAll]at h
 |.any::l,cs,o,h,hc=>by simp[closeAll]at h
 |.agg _::l,cs,o,h,hc=>by simp[closeAll]at h
 |.eK _::l,cs,o,h,hc=>by simp[closeAll]at h
def Gh.freeze(g:Gh)(w:World)(k b n:Nat):Gh :=
 ⟨λV o=>if V=b/\o<n then w.cell? ⟨V,o,none⟩else g.G V o,λj=>if j=k then none else g.box j,g.tok,g.room⟩
theorem Ez{g:Gh}{w k b n}(B:∀b o v,g.G b o=some v->w.cell? ⟨b,o,none⟩=some v):g.G.le (g.freeze w k b n).G:=by intro V o v h;simp only[Gh.freeze];grind
mutual
def EA{g:Gh}{w:World}{k b:Nat}{y:Ψ}(B:∀b o v,g.G b o=some v->w.cell? ⟨b,o,none⟩=some v)(U:g.box k=some b)
  (C:dS (g.freeze w k b y.length).G b 0 y):∀{a x:AV}{u:Value},tN k y a=some x->aX g a u->aX (g.freeze w k b y.length) x u/\(a.one->x.one)
 |.ptr j F,x,u,h,V=>by simp only[tN]at h;simp only[aX]at V;obtain⟨Q,I,rfl⟩:=V;split at h;rename_i Y;have:=beq_true Y;subst this;rw[U]at I;simp at I;subst I;split at h;rename_i r V;simp at h;subst h;obtain⟨rfl,D⟩:=mR V;refine⟨?_,λ_=>rfl⟩;simp only[aX,Rel];exact⟨b,F,rfl,by simpa using C.drop (n:=F)⟩;simp at h;rename_i Y;have:=beq_false Y;simp at h;subst h;exact⟨by simp only[aX];exact⟨Q,by simp[Gh.freeze,this,I],rfl⟩,id⟩
 |.iI j F s n,x,u,h,V=>by simp only[tN]at h;simp only[aX]at V;obtain⟨Q,T,o,I,rfl,E,O⟩:=V;split at h;simp at h;rename_i Y;have:=beq_false Y;simp at h;subst h;exact⟨by simp only[aX];exact⟨Q,T,o,by simp[Gh.freeze,this,I],rfl,E,O⟩,id⟩
 |.any,x,u,h,V=>by simp[tN]at h;subst h;exact⟨by simp only[aX]at V ⊢;exact V,id⟩
 |.agg l,x,u,h,V=>by simp only[tN]at h;split at h;rename_i r W;simp at h;subst h;simp only[aX]at V;obtain⟨t,rfl,I,E⟩:=V;obtain⟨P,S⟩:=EB B U C W I;exact⟨by simp only[aX];exact⟨t,rfl,P,S E⟩,λh=>by simp[AV.one]at h⟩;simp at h
 |.eK l,x,u,h,V=>by simp only[tN]at h;split at h;rename_i r W;simp at h;subst h;simp only[aX]at V;obtain⟨t,rfl,I,E⟩:=V;obtain⟨P,S⟩:=EB B U C W I;have M:r.length=l.length:=(by have A:=(cn.get P).1;have m:=(cn.get I).1;omega);exact⟨by simp only[aX];exact⟨t,rfl,P,ai⟩,λh=>by simp[AV.one]at h⟩;simp at h
 |.c v,x,u,h,V=>by simp[tN]at h;subst h;exact⟨by simp only[aX]at V ⊢;exact Rel.mono (Ez B) _ _ V,id⟩
 |.own o s q,x,u,h,V=>by
  simp[tN]at h;subst h;refine⟨?_,id⟩;simp only[aX]at V ⊢;obtain⟨z,N,T,e,I,E,O,K⟩:=V;refine⟨z,N,T,e,I,E,O.mono (Ez B),?_⟩;cases o with
  |exact=>exact K
  |tok J n=>exact K
def EB{g:Gh}{w:World}{k b:Nat}{T:Ψ}(B:∀b o v,g.G b o=some v->w.cell? ⟨b,o,none⟩=some v)(U:g.box k=some b)
  (C:dS (g.freeze w k b T.length).G b 0 T):∀{l r:Φ}{Y:L Value},tO k T l=some r->cn g l Y->cn (g.freeze w k b T.length) r Y/\(l.all AV.one->r.all AV.one)
 |[],r,Y,h,V=>by simp[tO]at h;subst h;simp only[cn]at V ⊢;exact⟨V,id⟩
 |a::l,r,Y,h,V=>by simp only[tO]at h;split at h;rename_i x I;split at h;rename_i q W;simp at h;subst h;simp only[cn]at V;obtain⟨u,Y,rfl,O,N⟩:=V;obtain⟨P,S⟩:=EA B U C I O;obtain⟨H,E⟩:=EB B U C W N;refine⟨by simp only[cn];exact⟨u,Y,rfl,P,H⟩,λh=>?_⟩;simp only[aiK,aaI]at h ⊢;exact⟨S h.1,E h.2⟩;simp at h;simp at h
end
def Iw{k U}:∀{env Y},Iv k U env=some Y->∀t x,au t Y=some x->∃a,au t env=some a/\tN k U a=some x
 |[],Y,h,t,x,e=>by simp[Iv]at h;subst h;simp[au]at e
 |(j,a)::l,Y,h,t,x,e=>by simp only[Iv]at h;split at h;rename_i y G;split at h;rename_i r V;simp at h;subst h;rw[ak]at e;rw[ak];split at e;grind;rename_i C;rw[if_neg C];exact Iw V t x e;grind;grind
def lO{k O}:∀{N T},Ey k O N=some T->∀j x,au j T=some x->j≠k/\∃a,au j N=some a/\tO k O a=some x
 |[],T,h,j,x,e=>by simp[Ey]at h;subst h;simp[au]at e
 |(i,a)::l,T,h,j,x,e=>by simp only[Ey]at h;split at h;rename_i H;have:=beq_true H;subst this;obtain⟨S,U,M,B⟩:=lO h j x e;exact⟨S,U,by rw[ak,if_neg S];exact M,B⟩;rename_i H;have K:=beq_false H;split at h;rename_i y G;split at h;rename_i r V;simp at h;subst h;rw[ak]at e;rw[ak];split at e;grind;rename_i Y;obtain⟨S,U,M,B⟩:=lO V j x e;simp_all;grind;grind
def AK.freeze{f n β}{R:Ending->World->Prop}{K env d bs ω}{ts:tad}{us:Ω}(k)
  {cells cs}(B:au k bs=some cells)(p:closeAll cells=some cs)(he:Iv k cs env=some d)(U:Ey k cs bs=some ω)
  (h:AK P X f n β R K d ⟨ω,ts,us⟩):AK P X f n β R K env ⟨bs,ts,us⟩:=by
 intro g w a ψ q;obtain⟨b,M,μ,κ,χ⟩:=q.inv.box k cells B;obtain⟨ν,T⟩:=zK p χ;let F:=g.freeze w k b cs.length;have J:g.G.le F.G:=Ez q.inv.rS;have C:dS F.G b 0 cs:=by apply dS.mm;intro j c hj;obtain⟨u,A,Q,e3⟩:=T j c hj;have υ:j<cs.length:=(List.getElem?_eq_some_iff.1 hj).1;refine⟨u,?_,Rel.mono J _ _ Q,e3⟩;simp only[F,Gh.freeze,ahr,υ];simpa using A
 have W:∀V o,V≠b->F.G V o=g.G V o:=by intro V o D;simp only[F,Gh.freeze,D,false_and,aiQ]
 have kF:∀(V:Nat)(l r:Φ)(o:Nat),tO k cs l=some r->cC w g V o l->cC w F V o r:=by
  intro V l
  induction l with
  |nil=>intro r o z _;simp[tO]at z;subst z;trivial
  |cons x l ih =>
   intro r o z h2;simp only[tO]at z;split at z;rename_i y hy;split at z;rename_i r' τ;simp at z;subst z;obtain⟨⟨u,h3,h4,h5⟩,h6,h7⟩:=h2;obtain⟨i1,i2⟩:=EA q.inv.rS M C hy h4;exact⟨⟨u,h3,i1,i2 h5⟩,h6,ih r' (o+1) τ h7⟩;simp at z;simp at z
 refine h F w a ψ ⟨⟨?_,?_,?_,?_,?_,?_,?_⟩,?_,?_,?_,q.size,q.defers⟩;intro V o v S;simp only[F,Gh.freeze]at S;split at S;exact S;exact q.inv.rS _ _ _ S
 ·intro j x e;obtain⟨I,l,A,Q⟩:=lO U j x e;obtain⟨V,Y,f2,f3,f4⟩:=q.inv.box j l A;have N:V≠b:=by rintro rfl;exact I (q.inv.gR j k l cells V A B Y M)
  exact⟨V,by simp[F,Gh.freeze,I,Y],f2,λo=>by rw[W V o N];exact f3 o,kF V l x 0 Q f4⟩
 intro j O x x' V e e' A Q;obtain⟨I,l,Y,_⟩:=lO U j x e;obtain⟨ρ,l',π,_⟩:=lO U O x' e';simp only[F,Gh.freeze,I,ρ,aiQ]at A Q;exact q.inv.gR j O l l' V Y π A Q
 ·intro j m e;obtain⟨iy,A,Q⟩:=q.inv.tok j m e;refine⟨iy,A,λV H E hr=>?_⟩;obtain⟨Y,f2,f3⟩:=Q V H E hr;have N:V≠b:=by rintro rfl;exact f3 k cells B M
  refine⟨Y,λo o1 o2=>?_,λO x e'=>?_⟩;obtain⟨f4,f5,f6⟩:=f2 o o1 o2;exact⟨by rw[W V o N];exact f4,f5,f6⟩;obtain⟨I,l,f7,_⟩:=lO U O x e';simp only[F,Gh.freeze,I,aiQ];exact f3 O l f7
 intro j O m m' V H E ο ξ e e' A Q;exact q.inv.iX j O m m' V H E ο ξ e e' A Q
 ·intro j e;apply q.inv.used j;simp only[F,Gh.freeze]at e;rcases e with e|e
  left;intro hn;apply e;split;rfl;exact hn;exact .inr e
 intro j x V e D o;obtain⟨I,l,Y,_⟩:=lO U j x e;simp only[F,Gh.freeze,I,aiQ]at D ⊢;exact q.inv.room j l V Y D o;intro m v hm;exact Rel.mono J _ _ (q.wE m v hm);intro t x e;obtain⟨y,A,Q⟩:=Iw he t x e;exact(EA q.inv.rS M C Q (q.env t y A)).1;refine q.frame.trans ⟨Z,Z,Z,acd _,λ_ _ _=>rfl,λ_ _ _ _=>⟨Z,Z⟩,J,λV o v S=>?_,λj x V e A=>?_,λj m V H E e A => .inr ⟨j,m,H,E,e,A,acd _,acd _⟩,λj _ h=>?_⟩;by_cases N:V=b;subst N;exact .inr (.inr (.inl ⟨k,cells,B,M⟩));rw[W V o N]at S;exact .inl S;obtain⟨I,l,Y,_⟩:=lO U j x e;simp only[F,Gh.freeze,I,aiQ]at A;exact .inr ⟨j,l,Y,A⟩;cases p:au j ω with
 |none=>exact absurd p h
 |some x =>
  obtain⟨I,l,Y,_⟩:=lO U j x p;exact⟨by rw[Y];simp,by simp[F,Gh.freeze,I],by simp[F,Gh.freeze]⟩
end
mutual
def Ft(Y:Ω):AV->Bool
 |.c _=>true
 |.own .exact _ _=>true
 |.own (.tok K _) _ _=>mem K Y
 |.ptr K _=>mem K Y
 |.iI K _ _ _=>mem K Y
 |.any=>true
 |.agg l=>rP Y l
 |.eK l=>rP Y l
def rP(Y:Ω):Φ->Bool
 |[]=>true
 |a::l=>match Ft Y a with
  |true=>rP Y l
  |false=>false
end
def Kl(Y:Ω):Env->Bool
 |[]=>true
 |(_,a)::l=>match Ft Y a with
  |true=>Kl Y l
  |false=>false
def okB(Y:Ω):tab->Bool
 |[]=>true
 |(k,a)::l=>match mem k Y,rP Y a with
  |true,true=>okB Y l
  |_,_=>false
def okT(Y:Ω):tad->Bool
 |[]=>true
 |(k,_)::l=>match mem k Y with
  |true=>okT Y l
  |false=>false
def Has(env:Env)(t:Nat)(a:AV):Prop:=au t env=some a\/∃b v,au t env=some b/\close b=some v/\a = .c v
def Ix(env:Env):Env->Prop
 |[]=>True
 |(t,a)::l=>Has env t a/\Ix env l
def SO(Y:tab):tab->Prop
 |[]=>True
 |(k,a)::l=>au k Y=some a/\SO Y l
def Qu(Y:tad):tad->Prop
 |[]=>True
 |(k,a)::l=>au k Y=some a/\Qu Y l
def mem_iff{k}:∀{l},mem k l↔k∈l
 |[]=>by simp[mem]
 |x::l=>by simp only[mem];split;simp_all;rename_i h;have:=beq_false h;simp[mem_iff (l:=l),Ne.symm this]
def Gh.only(g:Gh)(Y:Ω):Gh:=⟨g.G,λk=>if mem k Y then g.box k else none,λk=>if mem k Y then g.tok k else none,g.room⟩
mutual
def Ts{g:Gh}{E:Ω}:∀{a:AV}{u:Value},Ft E a->aX g a u->aX (g.only E) a u
 |.c v,u,_,h=>by simp only[aX]at h ⊢;exact h
 |.own .exact s M,u,_,h=>by simp only[aX]at h ⊢;exact h
 |.own (.tok K n) s M,u,Y,h=>by simp only[Ft]at Y;obtain⟨J,W,T,e,O,N,B,q,U,V,S⟩:=h;exact⟨J,W,T,e,O,N,B,q,U,by simp[Gh.only,Y,V],S⟩
 |.ptr K I,u,Y,h=>by simp only[Ft]at Y;obtain⟨b,O,N⟩:=h;exact⟨b,by simp[Gh.only,Y,O],N⟩
 |.iI K I s n,u,Y,h=>by simp only[Ft]at Y;obtain⟨b,T,o,O,N,B,V⟩:=h;exact⟨b,T,o,by simp[Gh.only,Y,O],N,B,V⟩
 |.any,u,_,h=>by simp only[aX]at h ⊢;exact h
 |.agg l,u,Y,h=>by obtain⟨F,e,O,N⟩:=h;exact⟨F,e,Nc Y O,N⟩
 |.eK l,u,Y,h=>by obtain⟨F,e,O,N⟩:=h;exact⟨F,e,Nc Y O,N⟩
def Nc{g:Gh}{T:Ω}:∀{l:Φ}{V:L Value},rP T l->cn g l V->cn (g.only T) l V
 |[],V,_,h=>by simpa only[cn]using h
 |a::l,V,Y,h=>by simp only[rP]at Y;split at Y;rename_i S;simp only[cn]at h ⊢;obtain⟨u,U,e,O,B⟩:=h;exact⟨u,U,e,Ts S O,Nc Y B⟩;simp at Y
end
def VI{Y}:∀{env},Kl Y env->∀t a,au t env=some a->Ft Y a
 |[],_,t,a,e=>by simp[au]at e
 |(j,x)::l,h,t,a,e=>by simp only[Kl]at h;split at h;rename_i O;rw[ak]at e;split at e;grind;exact VI h t a e;grind
def uO{Y}:∀{V},okB Y V->∀k a,au k V=some a->mem k Y/\rP Y a
 |[],_,t,a,e=>by simp[au]at e
 |(j,x)::l,h,t,a,e=>by simp only[okB]at h;split at h;rename_i G O;rw[ak]at e;split at e;grind;exact uO h t a e;grind
def C7{Y}:∀{V},okT Y V->∀k a,au k V=some a->mem k Y
 |[],_,t,a,e=>by simp[au]at e
 |(j,x)::l,h,t,a,e=>by simp only[okT]at h;split at h;rename_i G;rw[ak]at e;split at e;grind;exact C7 h t a e;grind
def Iy{env}:∀{l},Ix env l->∀t a,au t l=some a->Has env t a
 |[],_,t,a,e=>by simp[au]at e
 |(j,x)::l,h,t,a,e=>by rw[ak]at e;split at e;rename_i C;subst C;simp at e;subst e;exact h.1;exact Iy h.2 t a e
def qV{Y}:∀{l},SO Y l->∀k a,au k l=some a->au k Y=some a
 |[],_,t,a,e=>by simp[au]at e
 |(j,x)::l,h,t,a,e=>by rw[ak]at e;split at e;rename_i C;subst C;simp at e;subst e;exact h.1;exact qV h.2 t a e
def tP{Y}:∀{l},Qu Y l->∀k a,au k l=some a->au k Y=some a
 |[],_,t,a,e=>by simp[au]at e
 |(j,x)::l,h,t,a,e=>by rw[ak]at e;split at e;rename_i C;subst C;simp at e;subst e;exact h.1;exact tP h.2 t a e
section
variable {P:Program}{X:Ctx}
def AK.ZQ{f n β}{R:Ending->World->Prop}{K env bs ts}{us:Ω}
  env'(r)ω(F)
  (S:Ix env env')(U:SO bs r)(C:Qu ts ω)(h1:Kl F env')(j:okB F r)(B:okT F ω)
  (h:AK P X f n β R K env' ⟨r,ω,F⟩):AK P X f n β R K env ⟨bs,ts,us⟩:=by
 intro g w a cs q;refine h (g.only F) w a cs ⟨⟨q.inv.rS,?_,?_,?_,?_,?_,?_⟩,q.wE,?_,?_,q.size,q.defers⟩
 ·intro k x e;obtain⟨O,m2⟩:=uO j k x e;obtain⟨b,A,Q,p,e4⟩:=q.inv.box k x (qV U k x e);refine⟨b,by simp[Gh.only,O,A],Q,p,?_⟩;have ψ:∀(l:Φ)(o:Nat),rP F l->cC w g b o l->cC w (g.only F) b o l:=by
   intro l
   induction l with
   |nil=>intro _ _ _;trivial
   |cons y l ih =>
    intro o h1 j;simp only[rP]at h1;split at h1;rename_i V;obtain⟨⟨u,Y,G,W⟩,f4,f5⟩:=j;exact⟨⟨u,Y,Ts V G,W⟩,f4,ih (o+1) h1 f5⟩;grind
  grind
 intro k z x I b e d A Q;simp only[Gh.only,(uO j k x e).1,(uO j z I d).1]at A Q;exact q.inv.gR k z x I b (qV U k x e) (qV U z I d) A Q;intro k m e;obtain⟨iy,A,Q⟩:=q.inv.tok k m (tP C k m e);refine⟨iy,by simp[Gh.only,C7 B k m e,A],λb D H hr=>?_⟩;obtain⟨Y,G,W⟩:=Q b D H hr;refine⟨Y,G,λz x d=>?_⟩;simp only[Gh.only,(uO j z x d).1];exact W z x (qV U z x d);intro k z m J b D H E N e d A Q;simp only[Gh.only,C7 B k m e,C7 B z J d,if_true]at A Q;exact q.inv.iX k z m J b D H E N (tP C k m e) (tP C z J d) A Q;intro k e;simp only[Gh.only]at e;rw[<- mem_iff (l:=F)];by_cases M:mem k F;exact M;simp[M]at e;intro k x b e A o;simp only[Gh.only,(uO j k x e).1,if_true]at A;exact q.inv.room k x b (qV U k x e) A o
 ·intro t x e;rcases Iy S t x e with hx|⟨y,v,V,hv,rfl⟩
  exact Ts (VI h1 t x e) (q.env t x hx);have:=(wG y v _ hv (q.env t y V)).1;simp only[aX];exact this
 refine q.frame.trans ⟨Z,Z,Z,acd _,λ_ _ _=>rfl,λ_ _ _ _=>⟨Z,Z⟩,lB.le.refl _,λ_ _ _ h => .inl h,λk x b e A=>?_,λk m b D H e A=>?_,λk _ h=>?_⟩;simp only[Gh.only,(uO j k x e).1,if_true]at A;exact .inr ⟨k,x,qV U k x e,A⟩;simp only[Gh.only,C7 B k m e,if_true]at A;exact .inr ⟨k,m,D,H,tP C k m e,A,acd _,acd _⟩;cases T:au k r with
 |none=>exact absurd T h
 |some x=>exact⟨by rw[qV U k x T];simp,by simp[Gh.only,(uO j k x T).1],Z⟩
end
abbrev kn:L Nat:=[0,1,2,3,4,5,6,7,8,9,10,11,12,13,14,15,16,17,18,19,20,21,22,23,24,25,26,27,28,29,30,31,32,33,34,35,36,37,38,39,40,41,42,43,44,45,46,47,48,49,50,51,52,53,54,55,56,57,58,59,60,61,62,63,64,65,66,67,68,69]
inductive af8 where
 |at(K:List Item) (env:Env)
 |stuck
def uT(X:Ctx)(n:Nat)(T:tab):Nat->L Item->Env->af8
 |0,K,env => .at K env
 |m+1,K,env=>match K with
  |.code (.seq x y)::K'=>uT X n T m (.code x :: .code y::K') env
  |.code .skip::K'=>uT X n T m K' env
  |.code (.block id c)::K'=>uT X n T m (.code c :: .inBlock id::K') env
  |.inBlock _::K'=>uT X n T m K' env
  |.code (.exit id)::K'=>match exitTo id K' with
   |some Y=>uT X n T m Y env
   |none => .at K env
  |.code (.region _ ops false)::K'=>match vB ops n with
   |true=>match Bi X ops.toList T [] 500 ops.toList env []with
    |.at [] env' _=>uT X n T m K' env'
    |_ => .at K env
   |false => .at K env
  |_ => .at K env
def S8(X:Ctx)(n:Nat)(T:tab)(m:Nat)(K:L Item)(env:Env):af8:=match K with
 |.code (.seq x y)::K'=>uT X n T m (.code x :: .code y::K') env
 |.code .skip::K'=>uT X n T m K' env
 |.code (.block id c)::K'=>uT X n T m (.code c :: .inBlock id::K') env
 |.inBlock _::K'=>uT X n T m K' env
 |.code (.exit id)::K'=>match exitTo id K' with
  |some Y=>uT X n T m Y env
  |none => .stuck
 |.code (.region _ ops false)::K'=>match vB ops n with
  |true=>match Bi X ops.toList T [] 500 ops.toList env []with
   |.at [] env' _=>uT X n T m K' env'
   |_ => .stuck
  |false => .stuck
 |_ => .stuck
section
variable {P:Program}{X:Ctx}{f:FuncId}{n:Nat}{β:lu}{R:Ending->World->Prop}
def AK.ah6(hX:cI P X)(Y:P.follows .mixedOrders){id ops K env V σ}{acc:L Fp}(A:vB ops n)
  (h:Bi X ops.toList σ.boxes [] 500 ops.toList env [] = .at [] V acc)(k:AK P X f n β R K V σ):AK P X f n β R (.code (.region id ops false)::K) env σ :=
 AK.region Y A (ag.run hX 500 [] h (ag.done k))
def wJ(hX:cI P X)(Y:P.follows .mixedOrders){σ}:∀(m){K D:L Item}{env V},uT X n σ.boxes m K env = .at D V ->
  AK P X f n β R D V σ->AK P X f n β R K env σ:=by
 intro m
 induction m with
 |zero=>intro K D env V h k;obtain⟨rfl,rfl⟩:=h;exact k
 |succ m S =>
  intro K D env V h k;have stop:af8.at K env = .at D V->AK P X f n β R K env σ:=by simp_all
  simp only[uT]at h;split at h;exact AK.seq (S h k)
  ·exact AK.skip (S h k)
  exact AK.block (S h k);exact AK.inBlock (S h k);split at h;rename_i e;exact AK.exit e (S h k);simp_all;split at h;rename_i A;split at h;rename_i e;exact AK.ah6 hX Y A e (S h k);simp_all;simp_all;simp_all
def AK.SH(hX:cI P X)(Y:P.follows .mixedOrders){σ}(m){K D:L Item}{env V}(h:S8 X n σ.boxes m K env = .at D V)
  (k:AK P X f n β R D V σ):AK P X f n β R K env σ:=by
 unfold S8 at h;split at h;exact AK.seq (wJ hX Y m h k)
 ·exact AK.skip (wJ hX Y m h k)
 exact AK.block (wJ hX Y m h k);exact AK.inBlock (wJ hX Y m h k);split at h;rename_i e;exact AK.exit e (wJ hX Y m h k);grind;split at h;rename_i A;split at h;rename_i e;exact AK.ah6 hX Y A e (wJ hX Y m h k);grind;grind;grind
def AK.again{K env N M}{J:Ω}{V}{S:tab}{O:tad}{T:Ω}
  (h:AK P X f n β R K V ⟨S,O,T⟩)(Y:Ix env V)(U:SO N S)(C:Qu M O)(I:Kl T V)(F:okB T S)(B:okT T O) :
  AK P X f n β R K env ⟨N,M,J⟩:=AK.ZQ V S O T Y U C I F B h
def AK.dg{C}{K:L Item}{env F D}{z:Ω}{α:Type}(I:α->Prop)(Y:α->Nat)
  (E:α->Env)(B:α->tab)(T:α->tad)(U)(V)(A:I V)
  (S:Ix env (E V))(Q:SO F (B V))(O:Qu D (T V))(t:Kl U (E V))(r:okB U (B V))(N:okT U (T V))
  (step:∀x,I x->(∀y,I y->Y y<Y x->AK P X f n β R (.inLoop C::K) (E y) ⟨B y,T y,U⟩)->AK P X f n β R (.code C :: .inLoop C::K) (E x) ⟨B x,T x,U⟩) :
  AK P X f n β R (.code (.loop C)::K) env ⟨F,D,z⟩:=by
 refine AK.loop (AK.ZQ (E V) (B V) (T V) U S Q O t r N ?_);have W:∀(m:Nat)(x:α),Y x<m->I x->AK P X f n β R (.code C :: .inLoop C::K) (E x) ⟨B x,T x,U⟩:=by
  intro m
  induction m with
  |zero=>intro x u;omega
  |succ m M =>
   intro x u J;exact step x J λy G H=>AK.inLoop (M y ai G)
 exact W (Y V+1) V ai A
end
section
variable {P:Program}{X:Ctx}{ops:tal}{o:Oper}{rest:L Oper}{env:Env}{σ:St}{acc:L Fp}{Q:Env->St->L Fp->Prop}
def bR.index(hX:cI P X){t x ix}(ho:o.op = .indexAddr t x ix){i j e}(hi:X.ti t=some i)(hk:i.kind = .slice e)(hj:X.ti e=some j)
  {a s rows}(ha:aJ X env x=some a)(hr:rowsOf a=some (s,rows))(hs:Nat.beq s j.size){k z}(hz:aJ X env ix=some (.c (.int k z)))
  {m:Nat}(hm:z=m){r}(hrow:rows[m]?=some r):bR P X o env σ (.c (.ip r.cells)) (λσ=>σ) ⟨[],[]⟩:=by
 intro dx σ1 w g act next Q h1 h2 hinv cB dI hnext
 have Bg:aJ X dx x=some a:=by rw[h1 x lf];exact ha
 have J2:aJ X dx ix=some (.c (.int k z)):=by rw[h1 ix lf];exact hz
 obtain⟨base,len,cap,e1,e2,_,e3⟩:=Ik hr (cz (a:=act) dI cB Bg)
 have e4:=zg (cz (a:=act) dI cB J2)
 have hlt:m<rows.length:=(List.getElem?_eq_some_iff.1 hrow).1
 obtain⟨d,kV,jS,_⟩:=hX.run_underlying (w:=w) hi
 rw[hk]at jS;subst jS
 have hss:=beq_true hs
 rcases e3 with rfl|⟨b,o',rfl,ie⟩
 ·simp_all
 ·have hg:=(ie.get m r hrow).1
  have hrun:(execOp act.eval o).run P w = .ok (.value (.pointer (some ⟨b,o'+m*j.size,none⟩))) w:=by
   obtain⟨dst,op,type,pos,after,guard⟩:=o
   subst ho
   simp[execOp,e1,e4,hm,Instr.indexAt,asIntOf,kV,e2,hlt,hX.run_sizeOf hj,Addr.add_lit]
  unfold Oper.wp
  rw[hrun,Oper.upon_value]
  refine hnext _ w g ?_ hinv (jv.refl _ _ _) (Gh.le.refl _)
  exact⟨b,_,Z,by rw[<- hss];exact hg⟩
def ag.index(hX:cI P X)(hg:cZ ops.toList kn env o=some true){t x ix}(ho:o.op = .indexAddr t x ix){d:Nat}(hd:o.dst=some d)
  {i j e}(hi:X.ti t=some i)(hk:i.kind = .slice e)(hj:X.ti e=some j)
  {a s rows}(ha:aJ X env x=some a)(hr:rowsOf a=some (s,rows))(hs:Nat.beq s j.size){k z}(hz:aJ X env ix=some (.c (.int k z)))
  (m:Nat)(hm:z=m){r}(hrow:rows[m]?=some r){cs}(hcs:r.cells=cs)(k:ag P X ops rest ((d,.c (.ip cs))::env) σ (⟨[],[]⟩::acc) Q) :
  ag P X ops (o::rest) env σ acc Q:=by
 subst hcs
 exact ag.step (dA hg) (bR.index hX ho hi hk hj ha hr hs hz hm hrow) (jf.id _) zw
end
def zM(s:Nat)(v:CV):Bool:=match v with
 |.eK _=>false
 |.undef=>false
 |.agg Y=>Nat.beq Y.length s
 |_=>Nat.beq 1 s
def jF(s:Nat):Ψ->Bool
 |[]=>true
 |v::l=>match zM s v with
  |true=>jF s l
  |false=>false
def uU{s v}(h:zM s v){G u}(hr:Rel G v u):v.cells.length=s/\cy G v.cells u.cells.toList/\v.cells.all CV.one:=by
 have one:∀(v:CV)(u:Value),v.one->Rel G v u->u.cells.toList=[u]:=by
  intro v u ho hr
  cases v<;>simp only[Rel]at hr<;>simp[CV.one]at ho
  case int=>subst hr;rfl
  case bool=>subst hr;rfl
  case str=>subst hr;rfl
  case nL=>subst hr;rfl
  case sl=>obtain⟨_,_,_,rfl,_⟩:=hr;rfl
  case ip=>obtain⟨_,_,rfl,_⟩:=hr;rfl
  case sX=>obtain⟨_,rfl,_⟩:=hr;rfl
  case any=>cases u<;>first|rfl|exact absurd Z (hr.1 _)
  case wC=>obtain⟨_,rfl⟩:=hr;rfl
 have fin:∀(v:CV),v.one->v.cells=[v]->Rel G v u->Nat.beq 1 s->v.cells.length=s/\cy G v.cells u.cells.toList/\v.cells.all CV.one:=by
  intro v ho hc hr hs
  rw[hc,one v u ho hr]
  exact⟨beq_true hs,by simp_all;exact⟨u,[],Z,hr,Z⟩,by simp[ho]⟩
 cases v with
 |eK=>simp[zM]at h
 |undef=>simp[zM]at h
 |agg cs =>
  obtain⟨vs,rfl,h1,h2⟩:=hr
  exact⟨beq_true h,by simpa[CV.cells,Value.cells]using h1,h2⟩
 |int=>exact fin _ Z Z hr h
 |bool=>exact fin _ Z Z hr h
 |str=>exact fin _ Z Z hr h
 |nL=>exact fin _ Z Z hr h
 |sl=>exact fin _ Z Z hr h
 |ip=>exact fin _ Z Z hr h
 |sX=>exact fin _ Z Z hr h
 |any=>exact fin _ Z Z hr h
 |wC=>exact fin _ Z Z hr h
def qD{s}:∀{l},jF s l->∀v∈l,zM s v
 |[],_,v,h=>by simp at h
 |x::l,h,v,u=>by
  simp only[jF]at h;split at h
  ·rename_i O;rcases List.mem_cons.1 u with rfl|u
   omega;exact qD h v u
  grind
def flat(s:Nat):L Value->L Value
 |[]=>[]
 |v::l=>v.cells.toList++flat s l
def ig.of_flat{G s b}:∀{O N o},jF s O->cy G O N->(∀(j) u,(flat s N)[j]?=some u->G b (o+j)=some u)->ig G s b o O
 |[],N,o,_,_,_=>by simp[ig]
 |r::O,N,o,Y,hr,hG=>by simp only[jF]at Y;split at Y;rename_i W;obtain⟨u,I,rfl,M,J⟩:=hr;obtain⟨B,V,U⟩:=uU W M;obtain⟨T,S⟩:=cy.get V;simp only[flat]at hG;refine⟨(C0 G b o r).2 (dS.mm λj c Q=>?_),B,ig.of_flat Y J λj q p=>?_⟩;grind;have:=hG (s+j) q (by rw[akk ai];rw[show s+j-u.cells.toList.length=j from by omega];exact p);grind;grind
section
variable {P:Program}{X:Ctx}
def af9{w g σ}(hinv:Inv w g σ)(us)(t) :
  let g':Gh:=⟨λb o=>if b=w.heap.size then us[o]? else g.G b o,g.box,g.tok,g.room⟩
  let w':World:={w with heap:=w.heap.push (.cells us t)}
  Inv w' g' σ/\jv w g σ w' g' σ/\g.le g':=by
 intro g' w'
 have hold:∀b o,b<w.heap.size->w'.cell? ⟨b,o,none⟩=w.cell? ⟨b,o,none⟩/\w'.frozen? ⟨b,o,none⟩=w.frozen? ⟨b,o,none⟩:=by
  intro b o hb
  exact⟨World.cell?_alloc_old w _ ⟨b,o,none⟩ ab5,World.frozen?_alloc_old w _ ⟨b,o,none⟩ ab5⟩
 have hsz:w'.heap.size=w.heap.size+1:=by simp[w']
 have Qs:∀b o v,g.G b o=some v->b<w.heap.size:=λb o v h=>World.block_lt_of_cell? w ⟨b,o,none⟩ (hinv.rS b o v h)
 have hle:g.le g':=by
  refine⟨λb o v h=>?_,λ_ _ h=>h,λ_ _ _=>rfl,λk hw iy h=>⟨hw,iy,h,acd _,λ_=>rfl⟩⟩
  grind
 have Nf:∀b o,b<w.heap.size->g'.G b o=g.G b o:=by grind
 refine⟨⟨?_,?_,hinv.gR,?_,hinv.iX,hinv.used,hinv.Eo λk cs b _ _ hb o=>hold b o hb⟩,⟨Z,Z,Z,ai,λb hb _=>by show(w.heap.push _)[b]?=_;rw[akQ,if_neg ai],λb o hb _=>hold b o hb,hle.1,?_,?_,?_,?_⟩,hle⟩
 ·intro b o v h
  simp only[g']at h
  split at h
  ·rename_i hb;subst hb
   have:=World.cell?_alloc_new w us t o
   rw[show(w.alloc (.cells us t))=w' from rfl]at this
   rw[this];exact h
  ·rw[(hold b o (Qs b o v h)).1];exact hinv.rS b o v h
 ·intro k cs e
  obtain⟨b,h1,h2,h3,h4⟩:=hinv.box k cs e
  exact⟨b,h1,ai,λo=>by rw[Nf b o h2];exact h3 o,(cC.of_same (λo=>hold b o h2) h4).mono hle⟩
 ·intro k n e
  obtain⟨iy,h1,h2⟩:=hinv.tok k n e
  refine⟨iy,h1,λb lo hi hr=>?_⟩
  obtain⟨h3,h4,h5⟩:=h2 b lo hi hr
  refine⟨ai,λo P6 Te=>?_,h5⟩
  obtain⟨h6,⟨u,h7⟩,h8⟩:=h4 o P6 Te
  exact⟨by rw[Nf b o h3];exact h6,⟨u,(hold b o h3).1.trans h7⟩,(hold b o h3).2.trans h8⟩
 ·grind
 ·grind
 ·grind
 ·grind
def kr(Y:Operand->Option AV):Nat->L (Nat×Operand)->Option (Ψ)
 |_,[]=>some []
 |i,(j,x)::l=>match Nat.beq j i,Y x with
  |true,some a=>match close a with
   |some v=>match kr Y (i+1) l with
    |some r=>some (v::r)
    |none=>none
   |none=>none
  |_,_=>none
def tQ{V Y:Operand->Option AV}:∀(l)i,(∀p∈l,Y p.2=V p.2)->kr Y i l=kr V i l
 |[],_,_=>rfl
 |(j,x)::l,i,h=>by simp only[kr,h (j,x) cS,tQ l (i+1) (λp M=>h p (by simp[M]))]
def zN{g}{T:Operand->Option AV}{ev:Operand->Value}(V:∀x v,T x=some v->aX g v (ev x)):∀{l i U},
  kr T i l=some U->cy g.G U (l.map λp=>ev p.2)/\(l.map λ(j,x)=>(j,ev x))=((l.map λp=>ev p.2).zipIdx i).map λ(v,j)=>(j,v)
 |[],i,U,h=>by simp[kr]at h;subst h;simp[cy]
 |(j,x)::l,i,U,h=>by simp only[kr]at h;split at h;rename_i a Y O;split at h;rename_i v u;split at h;rename_i r C;simp at h;subst h;obtain⟨S,N⟩:=zN V C;have:=beq_true Y;refine⟨by simp;exact⟨_,_,rfl,(wG a v _ u (V x a O)).1,S⟩,?_⟩;simp_all;grind;grind;grind
def EC(s):∀vals k arr,(∀v∈vals,v.cells.size=s)->(k+vals.length)*s<=arr.size ->
  ∃res,Instr.fill (λi=>some (i*s,s)) arr ((vals.zipIdx k).map λ(v,j)=>(j,v))=some res/\res.size=arr.size /\
   ∀j,res[j]?=if k*s<=j/\j<k*s+(flat s vals).length then(flat s vals)[j-k*s]? else arr[j]?
 |[],k,arr,_,_=>⟨arr,by simp[Instr.fill],Z,λj=>by simp[flat];intros;omega⟩
 |v::vals,k,arr,h1,h2=>by
  have hv:=h1 v cS
  have hks:(k+1)*s=k*s+s:=akY k s
  have FI:(k+1+vals.length)*s<=arr.size:=by simp at h2;rwa[show k+1+vals.length=k+(vals.length+1)from by omega]
  have hfit:k*s+s<=arr.size:=by grind
  obtain⟨f1,f2⟩:=Il (k*s) v.cells.toList 0 arr oe
  obtain⟨res,r1,r2,r3⟩:=EC s vals (k+1) _ (λx hx=>h1 x (by simp[hx])) (by rw[f1];exact FI)
  refine⟨res,?_,by rw[r2,f1],λj=>?_⟩
  ·simp only[ajE,ahM,Instr.fill]
   rw[if_neg oe]
   have ZJ:v.cells.zipIdx.foldl (λcs (c,j)=>cs.setIfInBounds (k*s+j) c) arr =
     (v.cells.toList.zipIdx 0).foldl (λ(cs:Array Value)(p:Value×Nat)=>cs.setIfInBounds (k*s+p.2) p.1) arr:=by
    rw[<- Array.foldl_toList];simp
   rw[ZJ];exact r1
  ·rw[r3,f2]
   have hl:v.cells.toList.length=s:=by simpa using hv
   simp only[flat,acg,hks,hl,aiI]
   by_cases c1:k*s+s<=j/\j<k*s+s+(flat s vals).length
   ·grind
   ·grind
def bR.buildSlice(hX:cI P X){o}{env:Env}{σ}{t:TypeId}{len:Nat}{parts}(ho:o.op = .buildSlice t len parts)
  {i j e}(hi:X.ti t=some i)(hk:i.kind = .slice e)(hj:X.ti e=some j){za}(hz:j.zero=some za){rows}(hp:kr (aJ X env) 0 parts.toList=some rows)
  (hl:Nat.beq rows.length len)(hs:jF j.size rows)(hb:Nat.ble (len*j.size) 16777216) :
  bR P X o env σ (.own .exact j.size rows) (λσ=>σ) ⟨[],[]⟩:=by
 intro dx σ1 w g act next Q h1 h2 hinv cB dI hnext
 have Gm:kr (aJ X dx) 0 parts.toList=some rows:=by
  rw[tQ _ _ (λp hp=>h1 p.2 Wb)];exact hp
 obtain⟨c1,c2⟩:=zN (g:=g) (ev:=act.eval) (λx v hx=>cz dI cB hx) Gm
 have hlen:=beq_true hl
 obtain⟨d,kV,jS,_⟩:=hX.run_underlying (w:=w) hi
 rw[hk]at jS;subst jS
 obtain⟨z,z1,z2,z3⟩:=hX.nW (w:=w) hj hz
 have hcs:∀v∈(parts.toList.map λp=>act.eval p.2),v.cells.size=j.size:=by
  intro v hv
  obtain⟨m,hm⟩:=ajQ hv
  obtain⟨l1,l2⟩:=cy.get c1
  have hml:m<rows.length:=by rw[l1];exact(List.getElem?_eq_some_iff.1 hm).1
  obtain⟨u,e1,e2⟩:=l2 m rows[m] cS
  rw[hm]at e1;simp at e1;subst e1
  obtain⟨a1,a2,_⟩:=uU (qD hs rows[m] (akF hml)) e2
  have:=(cy.get a2).1
  simp at this;omega
 have hvl:(parts.toList.map λp=>act.eval p.2).length=len:=by rw[<- (cy.get c1).1];exact hlen
 obtain⟨res,r1,r2,r3⟩:=EC j.size (parts.toList.map λp=>act.eval p.2) 0 ((Array.range (len*j.size)).map (z.cells[· % z.cells.size]!)) hcs (by simp at hvl ⊢;rw[hvl];exact acd _)
 have hrun:(execOp act.eval o).run P w = .ok (.value (.slice (some ⟨w.heap.size,0,none⟩) len len)) {w with heap:=w.heap.push (.cells res e)}:=by
  obtain⟨dst,op,type,pos,after,guard⟩:=o
  simp only at ho;subst ho
  have Ew:¬(2^24<len*j.size):=by have:=ahw hb;omega
  have Qv:∀zc:Array Value,(Array.range (len*j.size)).map (λx=>zc[x%zc.size]!)=(Array.range (len*j.size)).map (λx=>z.cells[x%z.cells.size]!) ->
    Instr.fill (λi=>some (i*j.size,j.size)) ((Array.range (len*j.size)).map (λx=>zc[x%zc.size]!)) (parts.map λx=>(x.1,act.eval x.2)).toList=some res:=by
   intro zc q2
   rw[q2,ajp]
   have c2':(parts.toList.map λx=>(x.1,act.eval x.2))=_:=c2
   rw[c2'];exact r1
  simp only[execOp,Instr.buildSlice,Sem.run_bind,kV,Result.andThen_ok,hX.run_sizeOf hj]
  rw[if_neg (by simpa using Ew)]
  by_cases h0:len*j.size=0
  ·rw[if_pos h0]
   simp only[Sem.run_bind,Sem.run_pure,Result.andThen_ok]
   rw[Qv #[] (by rw[h0];simp)]
   simp[newRow]
  ·rw[if_neg h0]
   simp only[Sem.run_bind,Sem.run_pure,Result.andThen_ok,z1]
   rw[Qv z.cells rfl]
   simp[newRow]
 unfold Oper.wp
 rw[hrun,Oper.upon_value]
 obtain⟨i1,i2,i3⟩:=af9 hinv res e
 refine hnext _ _ _ ?_ i1 i2 i3
 simp only[aX]
 refine⟨_,_,_,Z,hlen.symm,acd _,?_,Z⟩
 right
 refine⟨w.heap.size,0,Z,ig.of_flat hs (cy.mono i3.1 _ _ c1) λm u hu=>?_⟩
 simp only[if_true,ahr]
 have hm:m<(flat j.size (parts.toList.map λp=>act.eval p.2)).length:=(List.getElem?_eq_some_iff.1 hu).1
 rw[r3 m,if_pos ai]
 simpa using hu
end
section
variable {P:Program}{X:Ctx}{ops:tal}{o:Oper}{rest:L Oper}{env:Env}{σ:St}{acc:L Fp}{Q:Env->St->L Fp->Prop}
def ag.buildSlice(hX:cI P X)(kn)(hg:cZ ops.toList kn env o=some true){t len parts}(ho:o.op = .buildSlice t len parts){d:Nat}(hd:o.dst=some d)
  {i j e}(hi:X.ti t=some i)(hk:i.kind = .slice e)(hj:X.ti e=some j){za}(hz:j.zero=some za){rows}(hp:kr (aJ X env) 0 parts.toList=some rows)
  (hl:Nat.beq rows.length len){s}(hsz:j.size=s)(hs:jF s rows)(hb:Nat.ble (len*s) 16777216)
  (k:ag P X ops rest ((d,.own .exact s rows)::env) σ (⟨[],[]⟩::acc) Q):ag P X ops (o::rest) env σ acc Q:=by
 subst hsz
 exact ag.step (dA hg) (bR.buildSlice hX ho hi hk hj hz hp hl hs hb) (jf.id _) zw
end
end Go.cE
namespace Go.cE
open Go.ChangeShapes Go.WideShapes Go.RowKit
def oU(w:World):lB:=λb o=>w.cell? ⟨b,o,none⟩
section
variable {H:Type}{enc:TypeId×Value->H}{P:Program}{W:World}{B:DataW H->Nat}
def RD(enc:TypeId×Value->H)(P:Program)(W:World)(B:DataW H->Nat)(n:Nat)(t:TypeId)(R:CV->Nat->Prop):Prop :=
 ∀Y,Y<=n->∀V x,DataW.trod enc P W 0 (λ_=>true) true Y t V=some x ->
  ∃c:CV,cy (oU W) c.cells V/\c.cells.all CV.one/\R c (B x.1)
def RD.mono{n m t}{R V:CV->Nat->Prop}(h:RD enc P W B n t R)(U:m<=n)(N:∀c k,R c k->V c k):RD enc P W B m t V :=
 λY hf S x O=>by obtain⟨c,M,J,T⟩:=h Y (aiq hf U) S x O;grind
def RD.zero{t}{R:CV->Nat->Prop}:RD enc P W B 0 t R:=λY hf V x O=>by
 obtain rfl:Y=0:=by omega
 simp[DataW.trod]at O
structure Ed(B:DataW H->Nat):Prop where
 lit:∀l,1<=B (.lit l)
 str:∀s,s.length+1<=B (.lit (.string s))
 nil:1<=B .nil
 slice:∀l r,(l.map B).sum+1<=B (.slice l r)
 agg:∀l,(l.map B).sum+1<=B (.agg l)
def RD.int(hB:Ed B){n t k}(hu:P.underlying t=some (.int k)) :
  RD enc P W B n t λc m=>∃z,c = .int k z/\(Lit.int k z).wf/\1<=m:=λfuel hf cs x hx=>by
 obtain⟨z,rfl,rfl,hw⟩:=DataW.trod_int hu hx
 exact⟨.int k z,by simp[CV.cells,cy,Rel],aap,z,Z,hw,hB.lit _⟩
def RD.str(hB:Ed B){n t}(hu:P.underlying t=some .string) :
  RD enc P W B n t λc m=>∃s,c = .str s/\s.length+1<=m:=λfuel hf cs x hx=>by
 obtain⟨s,rfl,rfl,hw⟩:=DataW.trod_string hu hx
 exact⟨.str s.data.toList,by simp[CV.cells,cy,Rel],aap,_,Z,hB.str _⟩
def Bp(R:CV->Nat->Prop):Ψ->Nat->Prop
 |[],m=>0<=m
 |r::rs,m=>∃k J,R r k/\Bp R rs J/\k+J<=m
def RD.slice(hB:Ed B){n t e s}(hu:P.underlying t=some (.slice e))(hs:P.cellsOf e=s)(h0:0<s){R:CV->Nat->Prop}(h:RD enc P W B n e R) :
  RD enc P W B (n+1) t λc m=>∃rows,c = .sl s rows/\∃m',Bp R rows m'/\m'+1<=m:=λfuel hf cs x hx=>by
 subst hs
 rcases DataW.trod_slice hu hx with ⟨rfl,rfl⟩|⟨a,len,cap,elems,rest,n',rfl,rfl,rfl,_,hl,hc,hlen,hel,_,_⟩
 ·refine⟨.sl _ [],?_,aap,[],Z,0,acd _,by simpa using hB.nil⟩
  refine⟨_,_,Z,?_,Z⟩
  simp only[Rel]
  grind
 ·have hs:elems=[]\/∃b o,a=⟨b,o,none⟩:=by
   cases elems with
   |nil=>exact .inl Z
   |cons y l =>
    right
    have S3:=hel 0 (by simp at hlen;omega)
    simp only[ajX,als]at S3
    obtain⟨vs,hvs,hy⟩:=S3
    obtain⟨_,hvl,hcell⟩:=World.cells?_some hvs
    obtain⟨b,o,spot⟩:=a
    have g0:=hcell 0 h0
    obtain⟨v0,WH⟩:∃v0,vs[0]?=some v0:=by simp_all
    rw[WH]at g0
    have h9:=World.cell?_spot g0
    have ah8:spot=none:=by simpa[Addr.add]using h9
    exact⟨b,o,by rw[ah8]⟩
  have key:∀(b o:Nat),a=⟨b,o,none⟩->∀(l:L (DataW H×L MemPlace))(k:Nat),(∀i,i<l.length->(W.cells? 0 (a.add ((k+i)*P.cellsOf e)) (P.cellsOf e)).bind (DataW.trod enc P W 0 (λ_=>true) true n' e)=l[i]?) ->
    ∃rows,rows.length=l.length/\Bp R rows ((l.map λx=>B x.1).sum)/\ig (oU W) (P.cellsOf e) b (o+k*P.cellsOf e) rows:=by
   intro b o hab l
   subst hab
   induction l with
   |nil=>intro k _;exact⟨[],Z,by simp[Bp],by simp[ig]⟩
   |cons y l ih =>
    intro k hk
    obtain⟨rows,h1,h2,h4⟩:=ih (k+1) λi hi=>by
     have:=hk (i+1) oe
     rw[show k+1+i=k+(i+1)from by omega];simpa using this
    have S3:=hk 0 cS
    simp only[aiI,ajX,als]at S3
    obtain⟨vs,hvs,hy⟩:=S3
    obtain⟨c,c1,c2,c3⟩:=h n' ai vs y hy
    obtain⟨_,hvl,hcell⟩:=World.cells?_some hvs
    refine⟨c::rows,adx,⟨_,_,c3,h2,cS⟩,?_⟩
    simp only[ig]
    refine⟨(C0 _ _ _ _).2 (dS.mm λj cj hj=>?_),by rw[(cy.get c1).1,hvl],?_⟩
    ·obtain⟨u,hu1,hu2⟩:=(cy.get c1).2 j cj hj
     refine⟨u,?_,hu2,List.all_eq_true.1 c2 cj (acm hj)⟩
     have hjl:j<P.cellsOf e:=by rw[<- hvl];exact(List.getElem?_eq_some_iff.1 hu1).1
     have:=hcell j hjl
     rw[add_plain,add_plain]at this
     rw[oU,this,hu1]
    ·rwa[show o+(k+1)*P.cellsOf e=o+k*P.cellsOf e+P.cellsOf e from by rw[akY];omega]at h4
  have hBs:(elems.map λx=>B x.1).sum+1<=B (.slice (elems.map (·.1)) (rest.map (·.1))):=by
   have:=hB.slice (elems.map (·.1)) (rest.map (·.1));rwa[List.map_map]at this
  rcases hs with rfl|⟨b,o,rfl⟩
  ·refine⟨.sl _ [],?_,aap,[],Z,0,acd _,by simpa using hBs⟩
   simp only[CV.cells,cy]
   refine⟨_,_,Z,?_,Z⟩
   simp only[Rel]
   exact⟨_,_,_,Z,by simpa using hlen.symm,hl,.inl trivial⟩
  ·obtain⟨rows,h1,h2,h4⟩:=key b o rfl elems 0 λi hi=>by rw[ahr];exact hel i ai
   refine⟨.sl _ rows,?_,aap,rows,Z,_,h2,hBs⟩
   simp only[CV.cells,cy]
   refine⟨_,_,Z,?_,Z⟩
   simp only[Rel]
   exact⟨_,_,_,Z,ai,hl,.inr ⟨b,o,Z,by simpa using h4⟩⟩
def GL:L (CV->Nat->Prop)->Ψ->Nat->Prop
 |[],l,_=>l=[]
 |R::Rs,l,m=>∃c k p J,l=c.cells++p/\R c k/\GL Rs p J/\k+J<=m
def GM(enc:TypeId×Value->H)(P:Program)(W:World)(B:DataW H->Nat)(n:Nat):Nat->L (Nat×TypeId)->L (CV->Nat->Prop)->Prop
 |o,[],V=>V=[]
 |o,(T,t)::fs,V=>∃R Y,V=R::Y/\T=o/\RD enc P W B n t R/\GM enc P W B n (o+P.cellsOf t) fs Y
def nj(P:Program):Nat->L (Nat×TypeId)->Nat
 |o,[]=>o
 |o,(_,t)::fs=>nj P (o+P.cellsOf t) fs
def FJ{n}{cs:L Value}:∀(A)o(F:L (CV->Nat->Prop))(J:L (DataW H×L MemPlace)),GM enc P W B n o A F ->
  (∀(i:Nat)(T)(t),A[i]?=some (T,t)->DataW.trod enc P W 0 (λ_=>true) true n t ((cs.drop T).take (P.cellsOf t))=J[i]?)->J.length=A.length->cs.length=nj P o A ->
  ∃l,cy (oU W) l (cs.drop o)/\l.all CV.one/\GL F l ((J.map λx=>B x.1).sum)
 |[],o,F,J,Y,hx,E,V=>by simp only[GM]at Y;subst Y;simp only[nj]at V;exact⟨[],by simp[cy,V],cS,by simp[GL]⟩
 |(T,t)::A,o,F,[],Y,hx,E,V=>by simp at E
 |(T,t)::A,o,F,x::J,Y,hx,E,V=>by obtain⟨R,U,rfl,rfl,D,Y⟩:=Y;have C:=hx 0 T t cS;obtain⟨c,G,u,S⟩:=D n (acd _) _ _ C;obtain⟨l,Q,O,N⟩:=FJ A _ U J Y (λi K I M=>by simpa using hx (i+1) K I (by simpa using M)) (by simpa using E) V;refine⟨c.cells++l,?_,by rw[ajJ,u,O];rfl,c,_,l,_,rfl,S,N,cS⟩;have:=gD G Q;rwa[<- List.drop_drop,aiD]at this
def RD.struct(Q:Ed B){n t A}(p:P.underlying t=some (.struct A)){Y:L (Nat×TypeId)}(V:A.toList.map (λf=>(f.offset,f.type))=Y)
  {Rs:L (CV->Nat->Prop)}(O:∀m,m<=n->GM enc P W B m 0 Y Rs)(U:P.cellsOf t=nj P 0 Y) :
  RD enc P W B (n+1) t λc m=>∃l,c = .agg l/\∃J,GL Rs l J/\J+1<=m:=λS hf cs x N=>by
 obtain⟨F,M,rfl,rfl,E,T,q⟩:=DataW.trod_struct p N;subst V
 obtain⟨l,K,I,G⟩:=FJ (cs:=cs) _ 0 Rs F (O M ai) (λi D C H=>by
  simp at H;obtain⟨f,hf,U⟩:=H;obtain⟨rfl,rfl⟩:=U
  exact q i f (by simpa using hf)) (by simpa using T) (E.trans U)
 refine⟨.agg l,by simpa[CV.cells]using K,by simpa[CV.cells]using I,l,Z,_,G,?_⟩;have:=Q.agg (F.map (·.1));rwa[List.map_map]at this
def HK(R:CV->Nat->Prop):Nat->Ψ->Nat->Prop
 |0,l,_=>l=[]
 |n+1,l,m=>∃c k p J,l=c.cells++p/\R c k/\HK R n p J/\k+J<=m
def RD.array(hB:Ed B){n t e len}(hu:P.underlying t=some (.array len e))(he:P.cellsOf t=len*P.cellsOf e){R:CV->Nat->Prop}(h:RD enc P W B n e R) :
  RD enc P W B (n+1) t λc m=>∃l,c = .agg l/\∃m',HK R len l m'/\m'+1<=m:=λfuel hf cs x hx=>by
 have hx':∃(xs:L (DataW H×L MemPlace)) (m:Nat),fuel=m+1/\x=(.agg (xs.map (·.1)),xs.flatMap (·.2))/\cs.length=P.cellsOf t/\xs.length=len /\
   ∀(i:Nat),i<len->DataW.trod enc P W 0 (λ_=>true) true m e ((cs.drop (i*P.cellsOf e)).take (P.cellsOf e))=xs[i]?:=by
  cases fuel with
  |zero=>simp[DataW.trod]at hx
  |succ m =>
   unfold DataW.trod at hx
   rw[hu]at hx
   split at hx<;>simp_all
   obtain⟨hl,xs,hp,hd⟩:=hx
   exact⟨xs,hd.symm,by simpa using mapM_some_length hp,λi hi=>mapM_some_get hp i i (by simp[hi])⟩
 obtain⟨xs,m,rfl,rfl,hl,hxl,jW⟩:=hx'
 have key:∀(ys:L (DataW H×L MemPlace))(k:Nat),(∀i,i<ys.length->DataW.trod enc P W 0 (λ_=>true) true m e ((cs.drop ((k+i)*P.cellsOf e)).take (P.cellsOf e))=ys[i]?)->cs.length=(k+ys.length)*P.cellsOf e ->
   ∃l,cy (oU W) l (cs.drop (k*P.cellsOf e))/\l.all CV.one/\HK R ys.length l ((ys.map λx=>B x.1).sum):=by
  intro ys
  induction ys with
  |nil=>intro k _ hk;exact⟨[],by simp only[cy,List.drop_eq_nil_iff];simp at hk;omega,cS,by simp[HK]⟩
  |cons y ys ih =>
   intro k hk hle
   obtain⟨l,l1,l2,l3⟩:=ih (k+1) (λi hi=>by
    have:=hk (i+1) oe
    rw[show k+1+i=k+(i+1)from by omega];simpa using this) (by rw[hle];congr 1;simp;omega)
   have h0:=hk 0 cS
   simp only[aiI,ajX]at h0
   obtain⟨c,c1,c2,c3⟩:=h m ai _ _ h0
   refine⟨c.cells++l,?_,by rw[ajJ,c2,l2];rfl,c,_,l,_,Z,c3,l3,cS⟩
   have:=gD c1 l1
   rwa[akY,<- List.drop_drop,aiD]at this
 obtain⟨l,l1,l2,l3⟩:=key xs 0 (λi hi=>by rw[ahr];exact jW i ai) (by rw[hl,he,hxl,ahr])
 rw[hxl]at l3
 refine⟨.agg l,by simpa[CV.cells]using l1,by simpa[CV.cells]using l2,l,Z,_,l3,?_⟩
 have:=hB.agg (xs.map (·.1));rwa[List.map_map]at this
def rQ{R:CV->Nat->Prop}{t v d}{M:L MemPlace}{T r A}(p:P.underlying t=some (.struct A))(V:∀n,RD enc P W B n t R)
  (S:DataW.Trod enc P W 0 (λ_=>true) true t v d M)(O:Value.okWide P W r T t v)(N:∀c k,R c k->∃l,c = .agg l):∃c,Rel (oU W) c v/\R c (B d):=by
 obtain⟨Y,hf⟩:=S;obtain⟨c,J,I,U⟩:=V Y Y (acd _) _ _ hf;refine⟨c,?_,U⟩;obtain⟨l,rfl⟩:=N _ _ U;obtain⟨F,rfl,_⟩:=okWide_struct p O;exact⟨_,Z,J,I⟩
def CN{R:CV->Nat->Prop}{t e v d}{M:L MemPlace}{T r}(p:P.underlying t=some (.slice e))(V:∀n,RD enc P W B n t R)
  (A:DataW.Trod enc P W 0 (λ_=>true) true t v d M)(O:Value.okWide P W r T t v)(N:∀c k,R c k->∃s l,c = .sl s l):∃c,Rel (oU W) c v/\R c (B d):=by
 obtain⟨Y,hf⟩:=A;obtain⟨c,J,I,U⟩:=V Y Y (acd _) _ _ hf;refine⟨c,?_,U⟩;obtain⟨s,l,rfl⟩:=N _ _ U;obtain⟨a,S,Q,rfl⟩:=okWide_slice p O;simp only[CV.cells,Value.cells,cy]at J;simp_all
def afS(W):∀b o v,oU W b o=some v->W.cell? ⟨b,o,none⟩=some v:=λ_ _ _ h=>h
def Ng{w}{Y:Nat->Bool}:DataW.TrodVars enc P w Y [] [] []:=by simp[DataW.TrodVars]
def Tc{f:Func}{s:ChangeSpec}{Y K V again Q G G' args v}{S gs:L (DataW H)}{before:L MemPlace}
  (A:DataW.Whole enc P f.params.toList s.vars Y W args.toList S gs before)(U:s.vars=[])
  (hl:laidOutB P)(hm:mapsRowed P)(hz:∀t e,t<P.types.size->P.underlying t=some (.slice e)->0<P.cellsOf e)(hT:∀t∈f.params.toList,t<P.types.size)
  (E:Qr W G Q G'){tb}(hr:f.resultTypes = #[tb])(hb:P.underlying tb=some .bool){b}(hv:v = .bool b)
  (D:s.fn H (S++gs)={results:=[.lit (.bool b)],args:=S}):s.post enc P f Y K V again W args v Q:=by
 subst hv;have J:=A.lt;have u:=A;obtain⟨p,q,hA,hV,rfl,hfz,hnd⟩:=A;rw[U]at hV;obtain⟨rfl,rfl⟩:=trodVars_none hV;simp only[ahq]at *;have I:∀x∈p,W.sameAt Q x:=by
  intro x O;have:=E.block x.block (J x O);cases x with
  |cell C off=>simp only[World.sameAt,World.cell?];simp only[MemPlace.block]at this;rw[this]
  |map C=>exact this
 have T:∀N:Nat->Bool,(∀x∈p,N x.block)->DataW.TrodAll enc P Q 0 N true f.params.toList args.toList S p:=by
  intro N hsp;have h1:=DataW.TrodAll.respare (kids_rows hl hm) hz hT hA hsp;have:∀(ts:L TypeId)(vs:L Value)(S:L (DataW H))(B:L MemPlace),DataW.TrodAll enc P W 0 N true ts vs S B->(∀x∈B,W.sameAt Q x)->DataW.TrodAll enc P Q 0 N true ts vs S B:=by
   intro ts
   induction ts with
   |nil=>intro vs S B h _;obtain⟨rfl,rfl,rfl⟩:=trodAll_nil h;rfl
   |cons t ts ih =>
    intro vs S B h hs;obtain⟨v,vs',d,ds',p1,q1,rfl,rfl,rfl,⟨n,h2⟩,h3⟩:=trodAll_cons h;exact⟨p1,q1,⟨n,DataW.trod_carry n _ _ _ h2 λx O=>hs x (List.mem_append_left _ O)⟩,ih _ _ _ h3 λx O=>hs x (List.mem_append_right _ O),Z⟩
  exact this _ _ _ _ h1 I
 have M:∀(b0:Nat)(N:Nat->Bool)(hd:Bool),DataW.TrodAll enc P Q b0 N hd f.resultTypes.toList ((Value.bool b).resultList f.resultTypes.size) [.lit (.bool b)] []:=by intro b0 N hd;rw[hr];exact trodAll_mk1 (shut_bool hb b)
 have aia:W.keptBut Q (· ∈ p):=by
  refine⟨E.os,E.output,λi hi=>?_⟩;rw[E.block i hi];cases W.heap[i]? with
  |none=>simp
  |some o=>cases o<;>simp
 refine⟨S,[],p,[],p,[],afl,by simp only[ahq,D];exact M _ _ _,by simp only[ahq,D];exact T _ λx O=>by simpa using J x O,
  by simp_all;rfl,World.keptBut_mono (λx O=>⟨O,.inr (.inl O)⟩) aia,λ_=>?_⟩
 refine⟨ok_one hr Z (okWide_bool_mk hb b),_,_,([]++p)++[],⟨[]++p,[],trodAll_append (T _ (λ_ _=>rfl)) (M _ _ _),(by rw[U];exact Ng),Z,?_,?_⟩,?_⟩
 ·intro C off hp;have Gm:MemPlace.cell C off∈p:=by simpa using hp
  rw[(E.kept C off (J _ Gm)).2];exact hfz C off (by simpa using Gm)
 simp_all;simp_all
end
end Go.cE
namespace Go.cE
section
variable {P:Program}{X:Ctx}{ops:tal}{o:Oper}{rest:L Oper}{env:Env}{σ:St}{acc:L Fp}{Q:Env->St->L Fp->Prop}
def ag.look(hX:cI P X)(kn)(N:cZ ops.toList kn env o=some true){d:Nat}(A:o.dst=some d){v}(u:gX X σ.boxes (aJ X env) o.op=some v)
  (V:nX (aJ X env) o.op=[])(k:ag P X ops rest ((d,v)::env) σ (⟨[],[]⟩::acc) Q):ag P X ops (o::rest) env σ acc Q:=by
 have:=ag.step (Q:=Q) (rest:=rest) (acc:=acc) (dA N) (bR.pure (σ:=σ) hX u) (jf.id _);rw[A,V]at this;exact this k
def ag.quo(hX:cI P X)(kn)(N:cZ ops.toList kn env o=some true){t W x y}(Y:o.op = .binOp .quo t x y W){d:Nat}(A:o.dst=some d){i}(H:X.ti t=some i)
  {q a b}(O:aJ X env x=some (.c (.int q a)))(V:aJ X env y=some (.c (.int q b)))(I:sameKind q q)(U:b≠0)
  (k:ag P X ops rest ((d,.c (.int q (q.wrap (a.tdiv b))))::env) σ (⟨[],[]⟩::acc) Q):ag P X ops (o::rest) env σ acc Q:=by
 refine ag.look hX kn N A ?_ ?_ k;rw[Y];simp only[gX,ZF,ZE];grind;rw[Y];rfl
def ag.rem(hX:cI P X)(kn)(N:cZ ops.toList kn env o=some true){t W x y}(Y:o.op = .binOp .rem t x y W){d:Nat}(A:o.dst=some d){i}(H:X.ti t=some i)
  {q a b}(O:aJ X env x=some (.c (.int q a)))(V:aJ X env y=some (.c (.int q b)))(I:sameKind q q)(U:b≠0)
  (k:ag P X ops rest ((d,.c (.int q (a.tmod b)))::env) σ (⟨[],[]⟩::acc) Q):ag P X ops (o::rest) env σ acc Q:=by
 refine ag.look hX kn N A ?_ ?_ k;rw[Y];simp only[gX,ZF,ZE];grind;rw[Y];rfl
end
def Zj:Char:=Char.ofNat 32
def chs(l:Ω):L Char:=l.map Char.ofNat
def xO(b:L Char):∀(a:L Char),(a.all λc=>c != Zj)->wordsSigns (a++Zj::b)=a::wordsSigns b
 |[],_=>rfl
 |c::a,h=>by simp only[aiK,aaI,aln]at h;have S:=xO b a h.2;rw[ahk,wordsSigns];rw[S];exact h.1
def Zk{P:Program}{a b c:L Char}{d:L Char}(h:P.initOrder=String.ofList (a++Zj::(b++Zj::(c++Zj::d))))(W:(a.all λc=>c != Zj))(U:(b.all λc=>c != Zj))(D:(c.all λc=>c != Zj))
  (Y:∀T,behindMainWord (a::b::T)=T):∃T,behindMainWord (wordsSigns P.initOrder.toList)=c::T:=by
 refine⟨wordsSigns d,?_⟩;rw[h,String.toList_ofList,xO _ _ W,xO _ _ U,xO _ _ D,Y]
def acU {P : Program} {c : L Char} (h : ∃ T, behindMainWord (wordsSigns P.initOrder.toList) = c :: T) (h1 : (c == "gc".toList || c == "spec".toList) = false) (h2 : (c == "cut".toList) = true) : P.make = some .cut := by
 obtain⟨T,h⟩:=h;unfold Program.make;simp_all
def Qw{c:L Char}(T:L (L Char))(Y:(liftWords.all λo=>c != o.toList)):stripLifts liftWords (c::T)=([],c::T):=by
 have K:∀(l:L String),(l.all λo=>c != o.toList)->stripLifts l (c::T)=([],c::T):=by
  intro l
  induction l with
  |nil=>intro _;rfl
  |cons o l S =>
   intro h;simp at h;simp only[stripLifts];simp_all
 exact K _ Y
def ZR {P : Program} {c : L Char} (h : ∃ T, behindMainWord (wordsSigns P.initOrder.toList) = c :: T) (hs : (liftWords.all fun o => c != o.toList) = true) (h2 : (c == "cut".toList) = true) : P.headLifts = [] := by
 obtain⟨T,h⟩:=h;have FI : c = "cut".toList := eq_of_beq h2;unfold Program.headLifts;rw[h,Qw T hs];simp
def Zn {P : Program} {c : L Char} (h : ∃ T, behindMainWord (wordsSigns P.initOrder.toList) = c :: T) (hs : (liftWords.all fun o => c != o.toList) = true) (h2 : (c == "cut".toList) = true) (h3 : (c == "carried".toList) = false) : P.liftsFinal = false := by
 have h4:=ZR h hs h2;obtain⟨T,h⟩:=h;unfold Program.liftsFinal;simp_all
def Zo {P : Program} {c : L Char} (h : ∃ T, behindMainWord (wordsSigns P.initOrder.toList) = c :: T) (hs : (liftWords.all fun o => c != o.toList) = true) (h2 : (c == "cut".toList) = true)
  (h5:P.laysLater=false) (h6:P.bearsReflect=false) (h7:P.doorFits []=true):P.mayEnter=true:=by
 obtain⟨T,h⟩:=h;have FI : c = "cut".toList := eq_of_beq h2;unfold Program.mayEnter;rw[h];simp only[Qw T hs,h5,h6,h7];simp[FI]
def ED{P f}{K:Func}{s}{c:OpenClaim}(B:c.wf (OpenSpec.ofChange s))(A:laidOutB P)(u:mapsRowed P)
  (q:K.params.all (P.readableRec ·))(p:namedTie P c.named s.vars)
  (F:(c.stops==[]))(z:(P.stops==[]))(y:(c.knobs==[]))(x:(P.stopKnobs==[]))
  (U:(c.inPlace==P.inPlace f))(T:(c.unfollowed==P.unfollowed f))(S:(c.recurses==P.recurses f))(Q:(c.named==P.varsNamed f))
  (W:((c.maps==(K.params.toList++s.plain.varTypes P).any (P.mapsRec ·))&&(c.ifaces==(K.params.toList++s.plain.varTypes P).any (P.ifacesRec ·))&&(c.mapsOut==P.mapsAmong K.resultTypes.toList)))
  (V:((c.loops==(K.params.toList++s.plain.varTypes P).any (P.loopsFrom ·))&&(c.wideKeys==(K.params.toList++s.plain.varTypes P++K.resultTypes.toList).any (P.wideKeysFrom ·))))
  (Y:(s.vars.all (P.varReadable ·)&&K.resultTypes.all (λt=>P.readableRec t&&decide (t<P.types.size))&&(c.ifacesOut==K.resultTypes.toList.any (P.ifacesRec ·))&&(c.loopsOut==K.resultTypes.toList.any (P.loopsFrom ·))))
  (O:(c.plainKeys==P.plainKeys))(N:c.shortTexts.isNone)(M:P.stopsHeard)(J:P.mayEnter)(I:(c.lifted==P.liftsFinal))(H:(P.make==some c.make))
  (G:(c.kinds==(if c.domain.isEmpty then []else K.params.toList.map λt=>match P.underlying t with|some (.int k)=>some k|_=>none))=true)(E:(c.pinned==c.pinnedBy))
  (D:(c.veiled==(K.params.toList++s.plain.varTypes P++K.resultTypes.toList).any (P.veiledRec ·)))(C:c.veiledFits P K.params.toList (K.params.toList++s.plain.varTypes P++K.resultTypes.toList)) :
  joinedFacts P f K s c:=by
 simp only[aaI]at W V Y;unfold joinedFacts;simp only[aaI];exact⟨⟨⟨⟨⟨⟨⟨⟨⟨⟨⟨⟨⟨⟨⟨⟨⟨⟨⟨⟨⟨⟨⟨⟨⟨⟨⟨⟨⟨⟨⟨B,A⟩,u⟩,q⟩,p⟩,F⟩,z⟩,y⟩,x⟩,U⟩,T⟩,S⟩,Q⟩,W.1.1⟩,W.1.2⟩,W.2⟩,V.1⟩,V.2⟩,Y.1.1.1⟩,Y.1.1.2⟩,Y.1.2⟩,Y.2⟩,O⟩,N⟩,M⟩,J⟩,I⟩,H⟩,G⟩,E⟩,D⟩,C⟩
end Go.cE
