/- A layer of abstract values over the model, part B: A row of operations done in whatever order the edges allow. Many looking operations at once. The rest of a function, as one judgement; calls with closed arguments. Calls whose arguments and results are closed values; new boxes. New boxes, and stores -/
import Derived.Test.YtlohbilpimjmmaaGreatDoorLibA
import Derived.RowKit
import Derived.ReadAgain
import Derived.JoinedOf
set_option linter.unusedSimpArgs false
set_option linter.unusedVariables false
namespace Go.cu
theorem s7 {ops:Array Oper} {Y:List Fp} (h:pK ops Y=true) {i:Nat} {o:Oper} (q:ops[i]?=some o):∀e∈nQ o,e<i:=by
 have W:i<ops.size:=by grind
 simp only[pK,List.all_eq_true,List.mem_range,aaj]at h;intro e P;have:=(h i W).1 e (by simpa[q]using P);simpa[Nat.blt_eq]using this
theorem JA {ops:Array Oper} {Y:List Fp} (h:pK ops Y=true) {i j:Nat} (W:i<ops.size) (P:j<i) :
  ((Sr ops).getD i 0).testBit j=true\/indep ops j i (Y.getD j ⟨[],[]⟩) (Y.getD i ⟨[],[]⟩)=true:=by
 simp only[pK,List.all_eq_true,List.mem_range,aaj,aay]at h;exact(h i W).2 j P
theorem FK {ops:Array Oper} {i j:Nat} {o:Oper} (q:ops[i]?=some o) (h:((Sr ops).getD i 0).testBit j=true) :
  ∃e∈nQ o,e=j\/((Sr ops).getD e 0).testBit j=true:=by
 have W:i<ops.size:=by grind
 obtain⟨e,h1,h2⟩:=Dj (ops.toList.map nQ) [] i cn (by simpa using W) j h;refine⟨e,?_,h2⟩;simp only[aab,Nat.sub_zero,List.getD,List.getElem?_map,Array.getElem?_toList,q]at h1;simpa using h1
theorem JB {ops:Array Oper} {T:List Fp} (H:pK ops T=true) {Y:Array Bool}
  (G:∀i o,Y.getD i false=true->ops[i]?=some o->∀e∈nQ o,Y.getD e false=true) :
  ∀(n i:Nat),i<=n->∀o,ops[i]?=some o->(∀e∈nQ o,Y.getD e false=true)->∀j,((Sr ops).getD i 0).testBit j=true->Y.getD j false=true:=by
 intro n
 induction n with
 | zero =>
  intro i I o q P j V;obtain⟨e,h1,h2⟩:=FK q V;have:=s7 H q e h1;omega
 | succ n S =>
  intro i I o q P j V;obtain⟨e,h1,h2⟩:=FK q V;rcases h2 with rfl|h2
  ·exact P _ h1
  ·have B:=s7 H q e h1;have Q:=P e h1;cases W:ops[e]? with
   | none =>
    have I:i<ops.size:=by grind
    rw[Array.getElem?_eq_none_iff]at W;omega
   | some U=>exact S e bn U W (G e U Q W) j h2
theorem Ai {ops:Array Oper} {Y:Array Bool} {i:Nat}:i∈Region.ready .any ops Y ↔
  i<ops.size/\Y.getD i true=false/\∃o,ops[i]?=some o/\∀e∈nQ o,Y.getD e false=true:=by
 unfold Region.ready;simp only[List.mem_filter,List.mem_range,aaj,Bool.not_eq_true'];constructor
 ·rintro⟨h1,h2,V⟩;refine⟨h1,h2,?_⟩;cases q:ops[i]? with
  | none=>rw[q]at V;simp at V
  | some o =>
   refine⟨o,rfl,?_⟩;rw[q]at V;simp only[Option.map_some,Option.getD_some,Array.all_eq_true']at V;intro e P;simp only[nQ,List.mem_filterMap]at P;obtain⟨W,D,J⟩:=P;split at J
   ·grind
   ·simp at J
 ·rintro⟨h1,h2,o,q,V⟩;refine⟨h1,h2,?_⟩;rw[q];simp only[Option.map_some,Option.getD_some,Array.all_eq_true'];intro W U;by_cases p:Region.binds .any W
  ·have:=V W.on (List.mem_filterMap.2 ⟨W,by simpa using U,by simp[p]⟩);simp[this]
  ·simp[p]
theorem ua.any {P:Program} {X:Ctx} {β:jH} {n:Nat} {ops:Array Oper} (hd:qV ops n=true) {ED:List Fp} (hok:pK ops ED=true) {Q:Exit->Act->World->Prop} :
  ∀(r:List (Nat×It)) (listed:Array Bool),listed.size=ops.size ->
   (∀i,i∈r.map (·.1)↔i<ops.size/\listed.getD i true=false)->(r.map (·.1)).Pairwise (· < ·) ->
   (∀x∈r,x.2.fp=ED.getD x.1 ⟨[],[]⟩) ->
   (∀i o,listed.getD i false=true->ops[i]?=some o->∀e∈nQ o,listed.getD e false=true) ->
   ∀{env env':Env} {σ σ':St},ua P X ops r env σ env' σ'->∀{g:Gh} {w:World} {a:Act},Live X β n env σ g w a ->
   (∀g' w' a',Live X β n env' σ' g' w' a'->Q .normal a' w')->wpAny P .any ops Q r.length listed a w:=by
 intro r
 generalize hlen:r.length=len
 induction len generalizing r with
 | zero =>
  intro listed hsz hmem tP hfp jV env env' σ σ' hO g w a hL hQ
  have:r=[]:=List.eq_nil_of_length_eq_zero hlen
  subst this
  obtain⟨rfl,rfl⟩:=hO
  refine⟨?_,hQ g w a hL⟩
  apply List.eq_nil_iff_forall_not_mem.2
  intro i hi
  obtain⟨h1,h2,_⟩:=Ai.1 hi
  have:=(hmem i).2 ⟨h1,h2⟩
  simp at this
 | succ len ih =>
  intro listed hsz hmem tP hfp jV env env' σ σ' hO g w a hL hQ
  refine⟨fun Xl=>?_,fun i hi=>?_⟩
  ·exfalso
   cases r with
   | nil=>simp at hlen
   | cons x r =>
    obtain⟨i,it⟩:=x
    have hm:=(hmem i).1 cn
    have ho:∃o,ops[i]?=some o:=⟨ops[i]'hm.1,by simp[hm.1]⟩
    obtain⟨o,ho⟩:=ho
    have:i∈Region.ready .any ops listed:=by
     refine Ai.2 ⟨hm.1,hm.2,o,ho,fun e he=>?_⟩
     have hlt:=s7 hok ho e he
     cases hle:listed.getD e true with
     | true =>
      have:e<listed.size:=by omega
      simpa[Array.getD,this]using hle
     | false =>
      have:=(hmem e).2 ⟨bn,hle⟩
      simp only[List.map_cons,List.mem_cons]at this
      rcases this with h|h
      ·omega
      ·simp only[List.map_cons,List.pairwise_cons]at tP
       have:=tP.1 e h
       omega
    rw[Xl]at this
    simp at this
  ·obtain⟨h1,h2,o,ho,h3⟩:=Ai.1 hi
   have hm:=(hmem i).2 ⟨h1,h2⟩
   obtain⟨⟨i',it⟩,hx,rfl⟩:=List.mem_map.1 hm
   simp only at *
   obtain⟨p,q,rfl⟩:=List.append_of_mem hx
   have hidx:∀x∈p,x.1<i':=by
    intro x Zp
    simp only[List.map_append,List.map_cons,List.pairwise_append]at tP
    exact tP.2.2 x.1 (List.mem_map_of_mem Zp) i' cn
   have abV:∀x∈p,indep ops x.1 i' x.2.fp it.fp=true:=by
    intro x Zp
    have hlt:=hidx x Zp
    rcases JA hok h1 hlt with hb|hb
    ·exfalso
     have:=JB hok jV i' i' (aam _) o ho h3 x.1 hb
     have hm2:=(hmem x.1).1 (by simp;exact .inl ⟨x.2,Zp⟩)
     have abW:x.1<listed.size:=by omega
     simp[Array.getD,abW]at this hm2
     rw[this]at hm2;simp at hm2
    ·rw[hfp x (by simp[Zp]),hfp (i',it) cn];exact hb
   obtain⟨e1,s1,e2,s2,g1,g2,g3⟩:=ua.front abV hO
   refine g1.wp hd hL fun g' w' a' hL'=>?_
   have Zq:∀k,(listed.setIfInBounds i' true).getD k true=if k=i' then true else listed.getD k true:=by
    intro k
    simp only[Array.getD_eq_getD_getElem?,Array.getElem?_setIfInBounds]
    by_cases hk:i'=k
    ·subst hk;simp[hsz,h1]
    ·rw[if_neg hk,if_neg (fun e=>hk e.symm)]
   have Xm:∀k,(listed.setIfInBounds i' true).getD k false=if k=i' then true else listed.getD k false:=by
    intro k
    simp only[Array.getD_eq_getD_getElem?,Array.getElem?_setIfInBounds]
    by_cases hk:i'=k
    ·subst hk;simp[hsz,h1]
    ·rw[if_neg hk,if_neg (fun e=>hk e.symm)]
   have hnd:i' ∉ (p++q).map (·.1):=by
    intro h
    simp only[List.map_append,List.mem_append]at h
    simp only[List.map_append,List.map_cons,List.pairwise_append,List.pairwise_cons]at tP
    rcases h with h|h
    ·have:=tP.2.2 i' h i' cn;omega
    ·have:=tP.2.1.1 i' h;omega
   refine ih (p++q) (by simp at hlen ⊢;omega) _ (by simpa using hsz) ?_ ?_ ?_ ?_ g2 hL' ?_
   ·intro k
    rw[Zq]
    have hk:=hmem k
    simp only[List.map_append,List.map_cons,List.mem_append,List.mem_cons]at hk ⊢
    by_cases hki:k=i'
    ·subst hki
     simp only[List.map_append,List.mem_append]at hnd
     exact⟨fun h=>absurd h hnd,fun h=>by simp at h⟩
    ·simp only[hki,false_or,if_false]at hk ⊢
     exact hk
   ·simp only[List.map_append,List.map_cons,List.pairwise_append,List.pairwise_cons]at tP ⊢
    exact⟨tP.1,tP.2.1.2,fun a ha b hb=>tP.2.2 a ha b (by simp[hb])⟩
   ·intro x Po
    exact hfp x (by simp at Po ⊢;rcases Po with h|h<;>simp[h])
   ·intro k ok qp hk2 e he
    rw[Xm]at qp ⊢
    by_cases QO:e=i'
    ·simp[QO]
    ·rw[if_neg QO]
     by_cases hki:k=i'
     ·subst hki
      rw[ho]at hk2;simp at hk2;subst hk2
      exact h3 e he
     ·rw[if_neg hki]at qp
      exact jV k ok qp hk2 e he
   ·intro xF w'' a'' abX
    exact hQ xF w'' a'' (abX.ext ⟨fun t=>(g3.1 t).symm,fun k=>(g3.2 k).symm⟩)
end Go.cu
namespace Go.cu
def lM (ρ:Operand->Option AV):Op->List Nat
 | .load _ x=>match ρ x with
  | some (.ptr k _)=>[k]
  | _=>[]
 | _=>[]
theorem uV {X:Ctx} {ρ Y:Operand->Option AV} (T:List (Nat×Nat)):∀(C:List (Nat×Operand)) (cells:List AV),(∀p∈C,Y p.2=ρ p.2) ->
  rX X Y T C cells=rX X ρ T C cells
 | [],_,_=>rfl
 | (i,x)::rest,cells,h=>by
  simp only[rX,h (i,x) cn];have S:=fun c=>uV (X:=X) T rest c (fun p A=>h p (by simp[A]));split
  ·simp_all
  ·rfl
theorem jB {ρ G7:Operand->Option AV}:∀(l:List Operand),(∀x∈l,G7 x=ρ x)->hJ G7 l=hJ ρ l
 | [],_=>rfl
 | x::l,h=>by
  simp only[hJ,h x cn,jB l (fun y hy=>h y (by simp[hy]))]
theorem kF {ρ Y:Operand->Option AV} (o:Option Operand) (h:∀x,o=some x->Y x=ρ x):bound Y o=bound ρ o:=by
 cases o with
 | none=>rfl
 | some x=>simp only[bound,h x rfl]
theorem JC {X:Ctx} {boxes Ss:List (Nat×List AV)} {ρ G7:Operand->Option AV} {op:Op} (h:∀x∈op.operands.toList,G7 x=ρ x)
  (hb:∀k∈lM ρ op,ak k Ss=ak k boxes):gM X Ss G7 op=gM X boxes ρ op:=by
 cases op with
 | move x=>exact h x gb
 | assign x=>exact h x gb
 | pick c a b=>simp only[gM,h c gb,h a gb,h b gb]
 | load t x =>
  have hx:=h x gb
  simp only[gM,hx]
  simp only[lM]at hb
  cases X.ti t with
  | none=>rfl
  | some i =>
   cases hr:ρ x with
   | none=>rfl
   | some a =>
    rw[hr]at hb
    cases a with
    | ptr k o=>simp only[hb k cn]
    | c v=>cases v<;>rfl
    | _=>rfl
 | nilCheck x=>simp only[gM,h x gb]
 | binOp op t x y yt=>simp only[gM,h x gb,h y gb]
 | unOp op t x=>simp only[gM,h x gb]
 | convert s d x=>simp only[gM,h x gb]
 | fieldAddr t x f=>simp only[gM,h x gb]
 | field t x f=>simp only[gM,h x gb]
 | indexAddr t x i=>simp only[gM,h x gb,h i gb]
 | index t x i=>simp only[gM,h x gb,h i gb]
 | extract x n=>simp only[gM,h x gb]
 | build t parts =>
  have:=fun fs z=>uV (X:=X) fs parts.toList z (fun p hp=>h p.2 (by
   simp only[Op.operands,List.mem_map];exact⟨p,hp,rfl⟩))
  simp only[gM,this]
 | slice t x lo hi mx =>
  have h1:=kF lo (fun y hy=>h y T6)
  have h2:=kF hi (fun y hy=>h y T6)
  have h3:=kF mx (fun y hy=>h y T6)
  simp only[gM,h x gb,h1,h2,h3]
 | makeFunc fn first caps =>
  cases fn with
  | func f =>
   have:=jB caps.toList (fun y hy=>h y (by simp only[Op.operands,Array.toList_append,List.mem_append];exact .inr hy))
   simp only[gM,this]
  | _=>rfl
 | call c =>
  obtain⟨callee,args,argTypes⟩:=c
  cases callee with
  | builtin b =>
   have hargs:∀x∈args.toList,G7 x=ρ x:=fun x hx=>h x (by simpa[Op.operands,Call.operands]using hx)
   have hmap:args.toList.map G7=args.toList.map ρ:=List.map_congr_left hargs
   cases b with
   | len =>
    simp only[gM]
    cases hl:args.toList with
    | nil=>rfl
    | cons x l =>
     rw[hl]at hargs
     have:=hargs x cn
     cases l with
     | cons y l=>rfl
     | nil =>
      cases argTypes.toList with
      | nil=>rfl
      | cons t l' =>
       cases l' with
       | nil=>simp only[this]
       | cons _ _=>rfl
   | min=>simp only[gM,hmap]
   | max=>simp only[gM,hmap]
   | _=>rfl
  | _=>rfl
 | _=>rfl
theorem bW.pure {P:Program} {X:Ctx} (hX:cC P X) {o:Oper} {env:Env} {σ:St} {v:AV} (h:gM X σ.boxes (aK X env) o.op=some v) :
  bW P X o env σ v (fun σ=>σ) ⟨lM (aK X env) o.op,[]⟩:=by
 intro W G w g a next Q h1 h2 p H q Y;have V:gM X G.boxes (aK X W) o.op=some v:=by
  rw[JC h1 (fun k D=>(h2 k (.inl D)).1)];exact h
 obtain⟨u,U,T⟩:=Jy (P:=P) (w:=w) (g:=g) hX p.oF (fun k cs e=>by
  obtain⟨b,S,_,_,O⟩:=p.box k cs e;exact⟨b,S,O⟩) (ev:=a.eval) (fun x v N=>cz q H N) V
 unfold Oper.wp;rw[U,Oper.upon_value];exact Y u w g T p (gW.refl _ _ _) (Gh.le.refl _)
def ai (P:Program) (X:Ctx) (ops:Array Oper) (rest:List Oper) (env:Env) (σ:St) (acc:List Fp) (Q:Env->St->List Fp->Prop):Prop :=
 ∀i,ops.toList.drop i=rest->∃(Y:List It) (env':Env) (D:St),Y.length=rest.length/\ua P X ops ((List.range' i rest.length).zip Y) env σ env' D /\
  Q env' D (acc.reverse++Y.map It.fp)
section
variable {P : Program} {X : Ctx} {ops : Array Oper} {i : Nat} {o : Oper} {rest : List Oper} {env : Env} {σ : St} {acc : List Fp} {Q : Env -> St -> List Fp -> Prop}
theorem ai.nil (h:Q env σ acc.reverse):ai P X ops [] env σ acc Q :=
 fun _ _=>⟨[],env,σ,rfl,⟨rfl,rfl⟩,lp⟩
theorem FL {ops:Array Oper} (h:ops.toList.drop i=o::rest):ops[i]?=some o/\ops.toList.drop (i+1)=rest:=by
 constructor
 ·have:=Ah h;simpa using this
 ·have:=congrArg List.tail h;simpa[List.tail_drop]using this
theorem ai.step {v:AV} {yd:St->St} {fp:Fp} (hg:qG ops o env) (hs:bW P X o env σ v yd fp) (hE:gX yd fp)
  (k:ai P X ops rest (yQ o.dst v env) (yd σ) (fp::acc) Q):ai P X ops (o::rest) env σ acc Q:=by
 intro i h
 obtain⟨ho,hr⟩:=FL h
 obtain⟨G8,env',σ',h1,h2,h3⟩:=k (i+1) hr
 refine⟨⟨true,v,yd,fp⟩::G8,env',σ',QZ,?_,by simpa using h3⟩
 simp only[aaa,List.range'_succ,List.zip_cons_cons]
 exact⟨_,_,⟨o,ho,rfl,rfl,hE,.inr ⟨rfl,hg,hs⟩⟩,h2⟩
theorem ai.skip (hg:pV ops o env) (k:ai P X ops rest (yQ o.dst (.c .undef) env) σ (⟨[],[]⟩::acc) Q):ai P X ops (o::rest) env σ acc Q:=by
 intro i h
 obtain⟨ho,hr⟩:=FL h
 obtain⟨G8,env',σ',h1,h2,h3⟩:=k (i+1) hr
 refine⟨It.skip::G8,env',σ',QZ,?_,by simpa[It.skip]using h3⟩
 simp only[aaa,List.range'_succ,List.zip_cons_cons]
 exact⟨_,_,⟨o,ho,rfl,rfl,gX.id _,.inl ⟨rfl,hg⟩⟩,h2⟩
def simple:Op->Bool
 | .indexAddr _ _ _=>false
 | .index _ _ _=>false
 | .slice _ _ _ _ _=>false
 | .binOp .quo _ _ (.tmp _) _=>false
 | .binOp .rem _ _ (.tmp _) _=>false
 | .binOp .shl _ _ (.tmp _) _=>false
 | .binOp .shr _ _ (.tmp _) _=>false
 | _=>true
def mem (k:Nat):List Nat->Bool
 | []=>false
 | x::l=>match Nat.beq x k with
  | true=>true
  | false=>mem k l
def cV (G:List Oper) (kn:List Nat) (env:Env) (o:Oper):Option Bool :=
 match o.guard with
 | none=>some true
 | some (j,Y)=>match mem j kn with
  | false=>none
  | true=>match nth G j with
   | none=>none
   | some W=>match W.dst with
    | none=>none
    | some d=>match ak d env with
     | some (.c (.bool b))=>match Y with
      | true=>some b
      | false=>some (!b)
     | some (.c .undef)=>some false
     | _=>none
def abY (ks:List Nat) (acc:List Fp):List Fp:=match ks with
 | []=>⟨[],[]⟩::acc
 | k::l=>⟨k::l,[]⟩::acc
inductive Xn where
 | at(rest:List Oper) (env:Env) (acc:List Fp)
 | stuck
def uX (X:Ctx) (G:List Oper) (W:List (Nat×List AV)) (kn:List Nat):Nat->List Oper->Env->List Fp->Xn
 | 0,rest,env,acc => .at rest env acc
 | _+1,[],env,acc => .at [] env acc
 | n+1,o::rest,env,acc=>match simple o.op with
  | false => .at (o::rest) env acc
  | true=>match cV G kn env o with
   | none => .at (o::rest) env acc
   | some false=>match o.dst with
    | some d=>uX X G W kn n rest ((d,.c .undef)::env) (⟨[],[]⟩::acc)
    | none=>uX X G W kn n rest env (⟨[],[]⟩::acc)
   | some true=>match gM X W (aK X env) o.op with
    | none => .at (o::rest) env acc
    | some v=>match o.dst,lM (aK X env) o.op with
     | some d,[]=>uX X G W kn n rest ((d,v)::env) (⟨[],[]⟩::acc)
     | some d,k::l=>uX X G W kn n rest ((d,v)::env) (⟨k::l,[]⟩::acc)
     | none,ks=>uX X G W kn n rest env (⟨ks,[]⟩::acc)
theorem r8 {kn:List Nat} {b:Bool} (h:cV ops.toList kn env o=some b):if b then qG ops o env else pV ops o env:=by
 unfold cV at h;unfold qG pV;split at h
 ·simp_all
 ·rename_i j W Q;simp only[Q];split at h
  ·simp at h
  ·split at h
   ·simp at h
   ·rename_i V Y;split at h
    ·simp at h
    ·rename_i d H;have U:pU ops j=some d:=by
      rw[rq]at Y;simp only[pU];rw[<- Array.getElem?_toList,Y];simp[H]
     split at h
     ·grind
     ·simp_all
     ·simp at h
theorem ai.run (hX:cC P X) (n:Nat) (kn:List Nat):∀{rest:List Oper} {env:Env} {acc:List Fp} {H:List Oper} {env':Env} {Y:List Fp},
  uX X ops.toList σ.boxes kn n rest env acc = .at H env' Y->ai P X ops H env' σ Y Q->ai P X ops rest env σ acc Q:=by
 induction n with
 | zero=>intro rest env acc H env' Y h k;simp[uX]at h;obtain⟨rfl,rfl,rfl⟩:=h;exact k
 | succ n S =>
  intro rest env acc H env' Y h k;cases rest with
  | nil=>simp[uX]at h;obtain⟨rfl,rfl,rfl⟩:=h;exact k
  | cons o rest =>
   have stop:Xn.at (o::rest) env acc = .at H env' Y->ai P X ops (o::rest) env σ acc Q:=by simp_all
   simp only[uX]at h;split at h
   ·exact stop h
   ·split at h
    ·exact stop h
    ·rename_i V;have:=r8 V;simp at this;split at h
     ·rename_i d W;refine ai.skip this ?_;rw[W];exact S h k
     ·rename_i W;refine ai.skip this ?_;rw[W];exact S h k
    ·rename_i V;have:=r8 V;simp at this;split at h
     ·exact stop h
     ·rename_i v U;have T:ai P X ops rest (yQ o.dst v env) σ (⟨lM (aK X env) o.op,[]⟩::acc) Q->ai P X ops (o::rest) env σ acc Q :=
       ai.step this (bW.pure hX U) (gX.id _)
      split at h
      ·rename_i d W D;rw[W,D]at T;exact T (S h k)
      ·rename_i d k' l W D;rw[W,D]at T;exact T (S h k)
      ·rename_i W;rw[W]at T;exact T (S h k)
def Fo (X:Ctx) (G:List Oper) (W:List (Nat×List AV)) (kn:List Nat) (n:Nat) (rest:List Oper) (env:Env) (acc:List Fp):Xn :=
 match rest with
 | [] => .stuck
 | o::rest=>match cV G kn env o with
  | none => .stuck
  | some false=>match o.dst with
   | some d=>uX X G W kn n rest ((d,.c .undef)::env) (⟨[],[]⟩::acc)
   | none=>uX X G W kn n rest env (⟨[],[]⟩::acc)
  | some true=>match gM X W (aK X env) o.op with
   | none => .stuck
   | some v=>match o.dst,lM (aK X env) o.op with
    | some d,[]=>uX X G W kn n rest ((d,v)::env) (⟨[],[]⟩::acc)
    | some d,k::l=>uX X G W kn n rest ((d,v)::env) (⟨k::l,[]⟩::acc)
    | none,ks=>uX X G W kn n rest env (⟨ks,[]⟩::acc)
theorem ai.Lw (hX:cC P X) (n:Nat) (kn:List Nat) {env:Env} {acc:List Fp} {H:List Oper} {env':Env} {Y:List Fp}
  (h:Fo X ops.toList σ.boxes kn n rest env acc = .at H env' Y) (k:ai P X ops H env' σ Y Q):ai P X ops rest env σ acc Q:=by
 unfold Fo at h;split at h
 ·simp at h
 ·rename_i o rest;split at h
  ·simp at h
  ·rename_i V;have:=r8 V;simp at this;refine ai.skip this ?_;split at h<;>rename_i W<;>rw[W]<;>exact ai.run hX n kn h k
  ·rename_i V;have:=r8 V;simp at this;split at h
   ·simp at h
   ·rename_i v U;have T:ai P X ops rest (yQ o.dst v env) σ (⟨lM (aK X env) o.op,[]⟩::acc) Q->ai P X ops (o::rest) env σ acc Q :=
     ai.step this (bW.pure hX U) (gX.id _)
    split at h
    ·rename_i d W D;rw[W,D]at T;exact T (ai.run hX n kn h k)
    ·rename_i d k' l W D;rw[W,D]at T;exact T (ai.run hX n kn h k)
    ·rename_i W;rw[W]at T;exact T (ai.run hX n kn h k)
def G9 (Y:Option Nat):List Oper->Nat
 | []=>1
 | o::rest=>match o.guard with
  | none=>G9 Y rest+1
  | some (j,_)=>match Y with
   | some W=>match Nat.beq j W with
    | true=>G9 Y rest+1
    | false=>0
   | none=>0
def NS:List Oper->Nat
 | []=>0
 | o::rest=>match o.guard with
  | none=>G9 none rest
  | some (j,_)=>G9 (some j) rest
theorem ai.abA (hX:cC P X) (kn:List Nat) {rest:List Oper} {env:Env} {acc:List Fp} {H:List Oper} {env':Env} {Y:List Fp}
  (h:Fo X ops.toList σ.boxes kn (NS rest) rest env acc = .at H env' Y) (k:ai P X ops H env' σ Y Q):ai P X ops rest env σ acc Q:=ai.Lw hX _ kn h k
theorem ai.split {j d:Nat} {Y b:Bool} (W:o.guard=some (j,Y)) (V:pU ops j=some d) (p:ak d env=some (.c (.bool b)))
  (h1:b=true->ai P X ops (o::rest) env σ acc Q) (h2:b=false->ai P X ops (o::rest) env σ acc Q):ai P X ops (o::rest) env σ acc Q:=by grind
end
end Go.cu
namespace Go.cu
def top (f:FuncId):Frame:={(default:Frame)with fn:=f,kind := .normal}
def AK (P:Program) (X:Ctx) (f:FuncId) (n:Nat) (β:jH) (R:Ending->World->Prop) (K:List Item) (env:Env) (σ:St):Prop :=
 ∀(g:Gh) (w:World) (a:Act) (cs:List Frame),Live X β n env σ g w a ->
  ∃e w' fr,R e w'/\Comes P (lone ((top f).at a K) cs w) (lone fr cs w') e/\fr.fn=f/\fr.leaving P w' e
section
variable {P : Program} {X : Ctx} {f : FuncId} {n : Nat} {β : jH} {R : Ending -> World -> Prop} {K : List Item} {env : Env} {σ : St}
theorem AK.go {u:List Item} (Y:∀(a:Act) (cs:List Frame) (w:World),Steps P (lone ((top f).at a K) cs w) (lone ((top f).at a u) cs w)) (h:AK P X f n β R u env σ):AK P X f n β R K env σ :=
 fun g w a cs N=>let ⟨e,w',fr,h1,h2,V,D⟩:=h g w a cs N;⟨e,w',fr,h1,h2.of_steps (Y a cs w),V,D⟩
theorem AK.seq {x y:Code} (h:AK P X f n β R (.code x :: .code y::K) env σ):AK P X f n β R (.code (.seq x y)::K) env σ :=
 AK.go (fun _ _ _ => .one step_seq) h
theorem AK.skip (h:AK P X f n β R K env σ):AK P X f n β R (.code .skip::K) env σ :=
 AK.go (fun _ _ _ => .one step_skip) h
theorem AK.block {id:Nat} {c:Code} (h:AK P X f n β R (.code c :: .inBlock id::K) env σ):AK P X f n β R (.code (.block id c)::K) env σ :=
 AK.go (fun _ _ _ => .one step_block) h
theorem AK.inBlock {id:Nat} (h:AK P X f n β R K env σ):AK P X f n β R (.inBlock id::K) env σ :=
 AK.go (fun _ _ _ => .one step_inBlock) h
theorem AK.loop {c:Code} (h:AK P X f n β R (.code c :: .inLoop c::K) env σ):AK P X f n β R (.code (.loop c)::K) env σ :=
 AK.go (fun _ _ _ => .one step_loop) h
theorem AK.inLoop {c:Code} (h:AK P X f n β R (.code c :: .inLoop c::K) env σ):AK P X f n β R (.inLoop c::K) env σ :=
 AK.go (fun _ _ _ => .one step_inLoop) h
theorem AK.exit {id:Nat} {u:List Item} (e:exitTo id K=some u) (h:AK P X f n β R u env σ):AK P X f n β R (.code (.exit id)::K) env σ :=
 AK.go (fun _ _ _ => .one (step_exit e)) h
theorem AK.cond {c:Operand} {x y:Code} {b:Bool} (E:aK X env c=some (.c (.bool b))) (h:AK P X f n β R (.code (if b then x else y)::K) env σ) :
  AK P X f n β R (.code (.cond c x y)::K) env σ:=by
 intro g w a cs N;obtain⟨e,w',fr,h1,h2,V,D⟩:=h g w a cs N;have:=cz N.env N.q8 E;simp only[aJ,Rel]at this;exact⟨e,w',fr,h1,h2.of_steps (.one (step_cond this)),V,D⟩
theorem AK.Wc {c:Operand} {x y:Code} (hc:aK X env c=some (.c (.bool true))) (h:AK P X f n β R (.code x::K) env σ) :
  AK P X f n β R (.code (.cond c x y)::K) env σ:=AK.cond hc lp
theorem AK.Wd {c:Operand} {x y:Code} (hc:aK X env c=some (.c (.bool false))) (h:AK P X f n β R (.code y::K) env σ) :
  AK P X f n β R (.code (.cond c x y)::K) env σ:=AK.cond hc lp
theorem AK.CJ {c:Operand} {x y:Code} {b:Bool} (E:aK X env c=some (.c (.bool b))) (h1:b=true->AK P X f n β R (.code x::K) env σ)
  (h2:b=false->AK P X f n β R (.code y::K) env σ):AK P X f n β R (.code (.cond c x y)::K) env σ:=by
 cases b
 ·exact AK.Wd E (h2 rfl)
 ·exact AK.Wc E (h1 rfl)
theorem AK.region (hm:P.follows .mixedOrders=true) {id:Nat} {ops:Array Oper} {draw:Bool} (hd:qV ops n=true)
  (h:ai P X ops ops.toList env σ [] (fun env' σ' ED=>(draw=true->pK ops ED=true)/\AK P X f n β R K env' σ')) :
  AK P X f n β R (.code (.region id ops draw)::K) env σ:=by
 obtain⟨G8,env',σ',hlen,Zr,N4,hK⟩:=h 0 cn
 intro g w a cs hL
 have hlen':G8.length=ops.size:=by simpa using hlen
 rw[List.reverse_nil,List.nil_append]at N4
 have hmap:(((List.range' 0 ops.toList.length).zip G8).map (·.1))=List.range ops.size:=by
  rw[List.map_fst_zip (by simp[hlen'])];simp[List.range_eq_range']
 have hwp:(Code.region id ops draw).wp P (fun e a' w'=>e = .normal/\∃g',Live X β n env' σ' g' w' a') a w:=by
  cases draw with
  | false =>
   apply wp_region
   rw[<- hmap]
   exact ua.wp hd Zr hL fun g' w' a' hL'=>⟨rfl,g',hL'⟩
  | true =>
   apply wp_region_any hm
   have hL2:Live X β n env σ g {w with drawn:=w.drawn+1} a :=
    ⟨⟨hL.inv.oF,fun k cs e=>by
      obtain⟨b,b1,b2,b3,b4⟩:=hL.inv.box k cs e
      exact⟨b,b1,b2,b3,cy.of_same (w:=w) (w':={w with drawn:=w.drawn+1}) (fun o=>⟨rfl,rfl⟩) b4⟩,
     hL.inv.fF,hL.inv.tok,hL.inv.gA,hL.inv.used,hL.inv.room⟩,hL.q8,hL.env,
     hL.frame.trans ⟨rfl,rfl,rfl,aam _,fun _ _ _=>rfl,fun _ _ _ _=>⟨rfl,rfl⟩,jm.le.refl _,fun _ _ _ h => .inl h,fun k cs b h1 h2 => .inr ⟨k,cs,h1,h2⟩,
      fun k n b lo hi h1 h2 => .inr ⟨k,n,lo,hi,h1,h2,aam _,aam _⟩,fun _ _ h=>⟨h,rfl,rfl⟩⟩,hL.size,hL.defers⟩
   have hl:((List.range' 0 ops.toList.length).zip G8).length=ops.size:=by simp[hlen']
   have Zs:=ua.any hd (N4 rfl) ((List.range' 0 ops.toList.length).zip G8) (Array.replicate ops.size false) cn ?_ ?_ ?_ ?_ Zr hL2
    (Q:=fun e a' w'=>e = .normal/\∃g',Live X β n env' σ' g' w' a') fun g' w' a' hL'=>⟨rfl,g',hL'⟩
   ·rw[hl]at Zs;exact Zs
   ·intro i
    rw[hmap]
    simp only[List.mem_range]
    constructor
    ·intro hi;exact⟨hi,by simp[Array.getD,hi]⟩
    ·exact fun h=>h.1
   ·rw[hmap];exact List.pairwise_lt_range
   ·intro x hx
    obtain⟨k,hk⟩:=List.getElem?_of_mem hx
    rw[List.getElem?_zip_eq_some]at hk
    obtain⟨k1,k2⟩:=hk
    have k3:k=x.1:=by
     have hlt:k<ops.toList.length:=by
      have:=(List.getElem?_eq_some_iff.1 k1).1;simpa using this
     rw[List.getElem?_range' hlt]at k1
     simpa using k1
    subst k3
    simp[List.getD,k2]
   ·intro i o hi
    exfalso
    simp only[Array.getD]at hi
    split at hi
    ·simp at hi
    ·simp at hi
 obtain⟨e,a',w',⟨rfl,g',hL'⟩,abZ⟩:=hwp (top f) K cs
 obtain⟨e,w'',fr,h1,h2,h3,h4⟩:=hK g' w' a' cs hL'
 exact⟨e,w'',fr,h1,h2.of_steps abZ,h3,h4⟩
theorem ai.done {ops:Array Oper} {acc:List Fp} (h:AK P X f n β R K env σ) :
  ai P X ops [] env σ acc (fun env' D Y=>(false=true->pK ops Y=true)/\AK P X f n β R K env' D) :=
 ai.nil ⟨(fun h=>by simp at h),h⟩
theorem ai.drawn {ops:Array Oper} {acc:List Fp} (hok:pK ops acc.reverse=true) (h:AK P X f n β R K env σ) :
  ai P X ops [] env σ acc (fun env' D Y=>(true=true->pK ops Y=true)/\AK P X f n β R K env' D) :=
 ai.nil ⟨fun _=>hok,h⟩
def s8 (X:Ctx) (W:List (Nat×List AV)) (env:Env):List ResultVar->Option (List AV)
 | []=>some []
 | .tmp t::l=>match ak t env,s8 X W env l with
  | some a,some r=>some (a::r)
  | _,_=>none
 | .cell t ty::l=>match gM X W (aK X env) (.load ty (.tmp t)),s8 X W env l with
  | some a,some r=>some (a::r)
  | _,_=>none
def nL (X:Ctx) (W:List (Nat×List AV)) (env:Env) (rs:List ResultVar):Option AV :=
 match s8 X W env rs with
 | some [a]=>some a
 | some (a::b::l)=>some (.gB (a::b::l))
 | _=>none
def Bd (tmps:Array Value):ResultVar->Sem Value
 | .tmp t=>pure (tmps.getD t undef)
 | .cell b t=>do loadVar t (<- asAddr (tmps.getD b undef))
theorem xH (T:Func) (tmps:Array Value):results T tmps=(do
  let vs<-T.results.mapM (Bd tmps)
  pure (if h:vs.size=1 then vs[0]else .tuple vs)):=by
 unfold results;congr
theorem JD (Y:Addr):asAddr (.pointer (some Y))=pure Y:=rfl
theorem B0 (hX:cC P X) {g:Gh} {w:World} {a:Act} (hL:Live X β n env σ g w a):∀{rs:List ResultVar} {l:List AV},s8 X σ.boxes env rs=some l ->
  ∃vs:List Value,(rs.mapM (Bd a.tmps)).run P w = .ok vs w/\bH g l vs
 | [],l,h=>by simp[s8]at h;subst h;exact⟨[],cn,by simp[bH]⟩
 | .tmp t::rs,l,h=>by
  simp only[s8]at h;split at h
  ·rename_i x r h1 h2;simp at h;subst h;obtain⟨vs,e1,e2⟩:=B0 hX hL h2;refine⟨a.tmps.getD t undef::vs,?_,by simp only[bH];exact⟨_,_,rfl,hL.env t x h1,e2⟩⟩;simp only[List.mapM_cons,Bd,Sem.run_bind,Sem.run_pure,Result.andThen_ok];simp only[show(List.mapM (Bd a.tmps) rs).run P w = .ok vs w from e1];rfl
  ·simp at h
 | .cell t ty::rs,l,h=>by
  simp only[s8]at h;split at h
  ·rename_i x r h1 h2;simp at h;subst h;obtain⟨vs,e1,e2⟩:=B0 hX hL h2
   obtain⟨u,r1,r2⟩:=Jy (P:=P) (w:=w) (g:=g) hX hL.inv.oF (fun k cs e=>by
    obtain ⟨b, b1, _, _, b2⟩ := hL.inv.box k cs e; exact ⟨b, b1, b2⟩) (ev := a.eval) (fun x v hx => cz hL.env hL.q8 hx) (o := ⟨none, .load ty (.tmp t), 0, "", #[], none⟩) h1
   simp only[execOp,Act.eval,Instr.loadAt]at r1;have r3:∃ad,a.tmps.getD t undef = .pointer (some ad)/\(loadVar ty ad).run P w = .ok u w:=by
    cases hv:a.tmps.getD t undef with
    | pointer p =>
     cases p with
     | none=>rw[hv]at r1;simp[Instr.sureAddr]at r1
     | some ad =>
      refine⟨ad,rfl,?_⟩;rw[hv]at r1;simp only[Instr.sureAddr,Sem.run_bind,Sem.run_pure,Result.andThen_ok]at r1;cases hr:(loadVar ty ad).run P w with
      | ok u' w'=>rw[hr]at r1;simp at r1;obtain⟨rfl,rfl⟩:=r1;rfl
      | halt _ _=>rw[hr]at r1;simp at r1
    | _=>rw[hv]at r1;simp[Instr.sureAddr]at r1
   obtain⟨ad,r4,r5⟩:=r3;refine⟨u::vs,?_,by simp only[bH];exact⟨_,_,rfl,r2,e2⟩⟩;simp only[List.mapM_cons,Bd,Sem.run_bind,r4,JD,Sem.run_pure,Result.andThen_ok,r5];simp only[show(List.mapM (Bd a.tmps) rs).run P w = .ok vs w from e1];rfl
  ·simp at h
theorem s9 (hX:cC P X) {fn:Func} {g:Gh} {w:World} {a:Act} (hL:Live X β n env σ g w a) {r:AV} (h:nL X σ.boxes env fn.results.toList=some r) :
  ∃u,(results fn a.tmps).run P w = .ok u w/\aJ g r u:=by
 unfold nL at h
 have key:∀l,s8 X σ.boxes env fn.results.toList=some l->∃vs:List Value,(fn.results.mapM (Bd a.tmps)).run P w = .ok vs.toArray w/\bH g l vs:=by
  intro l hl
  obtain⟨vs,e1,e2⟩:=B0 hX hL hl
  refine⟨vs,?_,e2⟩
  rw[Array.mapM_eq_mapM_toList]
  simp only[Sem.run_map,e1,Result.andThen_ok]
 split at h
 ·rename_i x hl
  simp at h;subst h
  obtain⟨vs,e1,e2⟩:=key _ hl
  simp only[bH]at e2
  obtain⟨u,us,rfl,e3,rfl⟩:=e2
  refine⟨u,?_,e3⟩
  rw[xH,Sem.run_bind,e1]
  simp
 ·rename_i x y l hl
  simp at h;subst h
  obtain⟨vs,e1,e2⟩:=key _ hl
  have FM:=e2
  simp only[bH]at FM
  obtain⟨u,us,rfl,e3,u2,us2,rfl,e4,e5⟩:=FM
  refine⟨.tuple (u::u2::us2).toArray,?_,by simp only[aJ];exact⟨_,rfl,e2,cn⟩⟩
  rw[xH,Sem.run_bind,e1]
  simp
 ·simp at h
theorem AK.ret (hX:cC P X) {T:Func} (hf:P.funcs[f]?=some T) {r:AV} (I:nL X σ.boxes env T.results.toList=some r)
  (h:∀g w u,aJ g r u->Inv w g σ->nw X g.G->gW β.w β.g β.σ w g σ->R (.returned u) w):AK P X f n β R (.code .ret::K) env σ:=by
 intro g w a cs N;obtain⟨u,h1,h2⟩:=s9 hX N I;exact⟨.returned u,w,_,h g w u h2 N.inv N.q8 N.frame,.one step_ret,rfl,rfl,N.defers,rfl,T,hf,h1⟩
theorem AK.fin (hX:cC P X) {T:Func} (hf:P.funcs[f]?=some T) {r:AV} (I:nL X σ.boxes env T.results.toList=some r)
  (h:∀g w u,aJ g r u->Inv w g σ->nw X g.G->gW β.w β.g β.σ w g σ->R (.returned u) w):AK P X f n β R [] env σ:=by
 intro g w a cs N;obtain⟨u,h1,h2⟩:=s9 hX N I;exact⟨.returned u,w,_,h g w u h2 N.inv N.q8 N.frame,.one step_end,rfl,rfl,N.defers,rfl,T,hf,h1⟩
end
end Go.cu
namespace Go.cu
def Enters (P:Program) (f:FuncId):Prop:=∀(args:Array Value) (w:World),(callFunc f args).run P w = .ok (.enter f args) w
structure JE (w:World) (G:jm) (w':World) (G':jm):Prop where
 os:w'.os=w.os
 tape:w'.tape=w.tape
 output:w'.output=w.output
 size:w.heap.size<=w'.heap.size
 block:∀b,b<w.heap.size->w'.heap[b]?=w.heap[b]?
 le:G.le G'
 new:∀b o v,G' b o=some v->G b o=some v\/w.heap.size<=b
 oF:∀b o v,G' b o=some v->w'.cell? ⟨b,o,none⟩=some v
def bw (P:Program) (X:Ctx) (f:FuncId) (args:List CV) (r:CV):Prop :=
 Enters P f/\∀(G:jm) (w:World) (vs:List Value),(∀b o v,G b o=some v->w.cell? ⟨b,o,none⟩=some v)->nw X G->bO G args vs ->
  Calls P f vs.toArray w fun e w'=>∃u p,e = .returned u/\Rel p r u/\JE w G w' p
theorem JE.kept {w w':World} {G p:jm} (h:JE w G w' p) (b o:Nat) (Y:b<w.heap.size) :
  w'.cell? ⟨b,o,none⟩=w.cell? ⟨b,o,none⟩/\w'.frozen? ⟨b,o,none⟩=w.frozen? ⟨b,o,none⟩:=by
 have:=h.block b Y;constructor
 ·simp only[World.cell?,this]
 ·simp only[World.frozen?,this]
theorem bw.of {P:Program} {X:Ctx} {f:FuncId} {fn:Func} {c:Code} {args:List CV} {r:CV} (hf:P.funcs[f]?=some fn) (hb:fn.body=some c) (he:Enters P f)
  (hn:args.length<=fn.ntmps) (env:Env) (di:env=(args.zipIdx.map fun(v,i)=>(i,AV.c v)))
  (h:∀β,β.σ=⟨[],[],[]⟩->AK P X f fn.ntmps β (fun e w'=>∃u g',e = .returned u/\Rel g'.G r u/\gW β.w β.g β.σ w' g' ⟨[],[],[]⟩/\∀b o v,g'.G b o=some v->w'.cell? ⟨b,o,none⟩=some v) [.code c] env ⟨[],[],[]⟩) :
  bw P X f args r:=by
 refine⟨he,fun G w vs ir cD fW cs=>?_⟩
 let g:Gh:=⟨G,fun _=>none,fun _=>none,fun _=>0⟩
 let β:jH:=⟨w,g,⟨[],[],[]⟩⟩
 have hlen:=(bO.get fW).1
 have hL:Live X β fn.ntmps env ⟨[],[],[]⟩ g w {tmps:=vs.toArray++Array.replicate (fn.ntmps-vs.toArray.size) undef,defers:=[]}:=by
  refine⟨⟨ir,?_,?_,?_,?_,?_,fun k cs b e=>by simp[ak]at e⟩,cD,?_,gW.refl _ _ _,?_,rfl⟩
  ·intro k cs e;simp[ak]at e
  ·simp_all
  ·intro k n e;simp[ak]at e
  ·simp_all
  ·grind
  ·intro t a e
   subst di
   have key:∀(l:List CV) (us:List Value) (k:Nat),bO G l us->ak t ((l.zipIdx k).map fun(v,i)=>(i,AV.c v))=some a->k<=t/\∃u,us[t-k]?=some u/\aJ g a u:=by
    intro l
    induction l with
    | nil=>intro us k _ e;simp[ak]at e
    | cons v l ih =>
     intro us k hr e
     simp only[bO]at hr
     obtain⟨u,us,rfl,h1,h2⟩:=hr
     simp only[List.zipIdx_cons,List.map_cons,aq]at e
     split at e
     ·rename_i ht;subst ht;simp at e;subst e
      exact⟨aam _,u,cn,RI⟩
     ·grind
   obtain⟨_,u,h4,h5⟩:=key args vs 0 fW e
   simp at h4
   have hlt:t<vs.length:=(List.getElem?_eq_some_iff.1 h4).1
   have:(vs.toArray++Array.replicate (fn.ntmps-vs.toArray.size) undef).getD t undef=u:=by
    rw[Array.getD_eq_getD_getElem?,Array.getElem?_append_left (by simpa using hlt)]
    simp[h4]
   rw[this];exact h5
  ·simp;omega
 obtain⟨e,w',fr,⟨u,g',rfl,h1,h2,h3⟩,h4,h5,h6⟩:=h β rfl g w _ cs hL
 have ta:Frame.enter P f vs.toArray .normal =
   (top f).at {tmps:=vs.toArray++Array.replicate (fn.ntmps-vs.toArray.size) undef,defers:=[]} [.code c]:=by
  simp[Frame.enter,Frame.at,hf,hb,top]
 refine⟨_,w',fr,⟨u,g'.G,rfl,h1,⟨h2.os,h2.tape,h2.output,h2.size,fun b hb=>h2.block b hb ?_,h2.le,fun b o v hv=>?_,h3⟩⟩,by rw[ta];exact h4,h5,h6⟩
 ·rintro o (⟨k,cs,e,_⟩|⟨k,n,lo,hi,e,_⟩)<;>simp[β,ak]at e
 ·rcases h2.new b o v hv with h|h|h
  ·exact .inl h
  ·exact .inr h
  ·rcases h with ⟨k,cs,e,_⟩|⟨k,n,lo,hi,e,_⟩<;>simp[β,ak]at e
section
variable {P : Program} {X : Ctx}
abbrev QR (β:jH) (r:CV):Ending->World->Prop:=fun e w'=>∃u g',e = .returned u/\Rel g'.G r u/\gW β.w β.g β.σ w' g' ⟨[],[],[]⟩/\∀b o v,g'.G b o=some v->w'.cell? ⟨b,o,none⟩=some v
theorem gW.forget {w w':World} {g g':Gh} {σ D:St} (h:gW w g σ w' g' D):gW w g σ w' g' ⟨[],[],[]⟩ where
 os:=h.os
 tape:=h.tape
 output:=h.output
 size:=h.size
 block:=h.block
 kept:=h.kept
 le:=h.le
 new:=h.new
 boxes:=fun k cs b e=>by simp[ak]at e
 toks:=fun k n b S W e=>by simp[ak]at e
 ids:=fun k _ e=>by simp[ak]at e
theorem AK.YS (hX:cC P X) {f:FuncId} {n:Nat} {β:jH} {K:List Item} {env:Env} {σ:St} {T:Func} (hf:P.funcs[f]?=some T) {r:AV} {M Y:CV}
  (I:nL X σ.boxes env T.results.toList=some r) (E:close r=some M) (W:M=Y):AK P X f n β (QR β Y) (.code .ret::K) env σ:=by
 subst W;refine AK.ret hX hf I fun g w u h1 h2 V D=>?_;exact⟨u,g,rfl,(rY r M u E h1).1,D.forget,h2.oF⟩
theorem eZ {G:jm}:∀{a b:List CV} {us vs:List Value},bO G a us->bO G b vs->bO G (a++b) (us++vs)
 | [],b,us,vs,h1,h2=>by simp only[bO]at h1;subst h1;simpa using h2
 | x::a,b,us,vs,h1,h2=>by
  simp only[bO]at h1;obtain⟨u,us,rfl,V,D⟩:=h1;simp only[List.cons_append,bO];exact⟨u,us++vs,rfl,V,eZ D h2⟩
theorem Dk {w w':World} {g:Gh} {σ:St} {p:jm} (W:Inv w g σ) (C:JE w g.G w' p) :
  Inv w' ⟨p,g.box,g.tok,g.room⟩ σ/\gW w g σ w' ⟨p,g.box,g.tok,g.room⟩ σ/\g.le ⟨p,g.box,g.tok,g.room⟩:=by
 have Q:g.le ⟨p,g.box,g.tok,g.room⟩:=⟨C.le,fun _ _ h=>h,fun _ _ _=>rfl,fun k T I h=>⟨T,I,h,aam _,fun _=>rfl⟩⟩
 have Y:∀b o,b<w.heap.size->g.G b o=none->p b o=none:=by
  intro b o U h;cases S:p b o with
  | none=>rfl
  | some v =>
   rcases C.new b o v S with P|P
   ·simp_all
   ·omega
 refine⟨⟨C.oF,?_,W.fF,?_,W.gA,W.used,?_⟩,⟨C.os,C.tape,C.output,C.size,fun b U _=>C.block b U,fun b o U _=>C.kept b o U,C.le,fun b o v h=>?_,?_,?_,?_⟩,Q⟩
 ·intro k cs e;obtain⟨b,h1,h2,V,D⟩:=W.box k cs e;exact⟨b,h1,Nat.lt_of_lt_of_le h2 C.size,fun o=>Y b o h2 (V o),(cy.of_same (fun o=>C.kept b o h2) D).mono Q⟩
 ·intro k n e;obtain⟨I,h1,h2⟩:=W.tok k n e;refine⟨I,h1,fun b N O M=>?_⟩;obtain⟨V,D,q⟩:=h2 b N O M;refine⟨Nat.lt_of_lt_of_le V C.size,fun o K J=>?_,q⟩;obtain⟨H,⟨u,E⟩,h8⟩:=D o K J;exact⟨Y b o V H,⟨u,(C.kept b o V).1.trans E⟩,(C.kept b o V).2.trans h8⟩
 ·intro k cs b e U o;obtain⟨b',h1,h2,_⟩:=W.box k cs e;rw[U]at h1;cases h1;obtain⟨V,D⟩:=W.room k cs b e U o;exact⟨fun B=>(V B).imp fun u A=>(C.kept b o h2).1.trans A,(C.kept b o h2).2.trans D⟩
 ·exact(C.new b o v h).imp id .inl
 ·grind
 ·grind
 ·simp_all
theorem bW.Su {o:Oper} {env:Env} {σ:St} {f:FuncId} {args:Array Operand} {ts:Array TypeId} (ho:o.op = .call {callee := .value (.func f),args:=args,argTypes:=ts})
  {oJ:List CV} {r:CV} (ha:hJ (aK X env) args.toList=some oJ) (hq:bw P X f oJ r):bW P X o env σ (.c r) (fun σ=>σ) ⟨[],[]⟩:=by
 intro cW σ1 w g a next Q h1 h2 hinv cD di hnext
 have xI:hJ (aK X cW) args.toList=some oJ:=by
  rw[jB _ (fun x hx=>h1 x ot)];exact ha
 have fW:=nC (g:=g) (ev:=a.eval) (fun x v hx=>cz di cD hx) xI
 have hrun:(execOp a.eval o).run P w = .ok (.enter f (args.map a.eval)) w:=by
  obtain⟨dst,op,type,pos,after,guard⟩:=o
  simp only at ho;subst ho
  simp[execOp,resolve,Deferred.ofValue,invoke,Act.eval,hq.1 _ w]
 unfold Oper.wp
 rw[hrun,Oper.upon_enter]
 have:=hq.2 g.G w _ hinv.oF cD fW
 rw[show(args.toList.map a.eval).toArray=args.map a.eval from by rw[<- Array.toList_map]]at this
 refine this.mono ?_
 rintro e w' ⟨u,G',rfl,h3,h4⟩
 obtain⟨h5,h6,h7⟩:=Dk hinv h4
 exact hnext u w' _ Wt h5 h6 h7
theorem bW.Sv {o:Oper} {env:Env} {σ:St} {f:FuncId} {x:Operand} {caps:List CV} {args:Array Operand} {ts:Array TypeId} (ho:o.op = .call {callee := .value x,args:=args,argTypes:=ts})
  (hx:aK X env x=some (.c (.rK f caps))) {oJ:List CV} {r:CV} (ha:hJ (aK X env) args.toList=some oJ) (hq:bw P X f (oJ++caps) r) :
  bW P X o env σ (.c r) (fun σ=>σ) ⟨[],[]⟩:=by
 intro cW σ1 w g a next Q h1 h2 hinv cD di hnext
 have xI:hJ (aK X cW) args.toList=some oJ:=by
  rw[jB _ (fun x hx=>h1 x ot)];exact ha
 have hx':aK X cW x=some (.c (.rK f caps)):=by
  rw[h1 x Jz];exact hx
 have fW:=nC (g:=g) (ev:=a.eval) (fun x v hx=>cz di cD hx) xI
 have Zt:=cz (a:=a) di cD hx'
 simp only[aJ,Rel]at Zt
 obtain⟨us,hu,Zu⟩:=Zt
 have hrun:(execOp a.eval o).run P w = .ok (.enter f (args.map a.eval++us.toArray)) w:=by
  obtain⟨dst,op,type,pos,after,guard⟩:=o
  simp only at ho;subst ho
  simp[execOp,resolve,hu,Deferred.ofValue,invoke,hq.1 _ w]
 unfold Oper.wp
 rw[hrun,Oper.upon_enter]
 have:=hq.2 g.G w _ hinv.oF cD (eZ fW Zu)
 rw[show(args.toList.map a.eval++us).toArray=args.map a.eval++us.toArray from by rw[<- Array.toList_map];simp]at this
 refine this.mono ?_
 rintro e w' ⟨u,G',rfl,h3,h4⟩
 obtain⟨h5,h6,h7⟩:=Dk hinv h4
 exact hnext u w' _ Wt h5 h6 h7
end
end Go.cu
namespace Go.cu
def St.dY (σ:St) (d:Nat) (cells:List AV):St:=⟨(d,cells)::σ.boxes,σ.toks,d::σ.used⟩
theorem pX (d:Nat) (cells:List AV):gX (fun σ=>σ.dY d cells) ⟨[],[d]⟩ where
 out:=fun σ k D=>by
  have:k≠d:=by simpa using D
  refine⟨?_,rfl,?_⟩
  ·simp only[St.dY,aq,if_neg this]
  ·simp[St.dY,this]
 same:=fun σ G h k D=>by
  have:k=d:=by simpa using D
  subst this;refine⟨?_,(h k (.inr cn)).2.1,?_⟩
  ·simp[St.dY,aq]
  ·simp[St.dY]
theorem uY {g:Gh} {a:AV} {u:Value} (h:a.one=true) (I:aJ g a u):u.oneCell'=true:=by
 cases a with
 | c v =>
  simp only[AV.one]at h;simp only[aJ]at I;cases v<;>simp[CV.one]at h<;>simp only[Rel]at I
  case int=>subst I;rfl
  case bool=>subst I;rfl
  case str=>subst I;rfl
  case lI=>subst I;rfl
  case sl=>obtain⟨_,_,_,rfl,_⟩:=I;rfl
  case ip=>obtain⟨_,_,rfl,_⟩:=I;rfl
  case rK=>obtain⟨_,rfl,_⟩:=I;rfl
  case any=>cases u<;>first|rfl|exact absurd rfl (I.1 _)|exact absurd rfl (I.2 _)
  case qF=>obtain⟨_,rfl⟩:=I;rfl
 | own=>simp only[aJ]at I;obtain⟨_,_,_,rfl,_⟩:=I;rfl
 | ptr=>simp only[aJ]at I;obtain⟨_,_,rfl⟩:=I;rfl
 | gy=>simp only[aJ]at I;obtain⟨_,_,_,_,rfl,_⟩:=I;rfl
 | any =>
  simp only[aJ]at I;cases u<;>first|rfl|exact absurd rfl (I.1 _)|exact absurd rfl (I.2 _)
 | agg=>simp[AV.one]at h
 | gB=>simp[AV.one]at h
section
variable {P : Program} {X : Ctx}
theorem He {w:World} {g:Gh} {σ:St} {d:Nat} {cells:List AV} {us:Array Value} {t:TypeId} (hinv:Inv w g σ) (hd:d ∉ σ.used) (Xo:d<1000000) (hr:bH g cells (us.toList.take cells.length)) (ho:cells.all AV.one=true) :
  let g':Gh:=⟨g.G,fun k=>if k=d then some w.heap.size else g.box k,g.tok,fun k=>if k=d then us.size else g.room k⟩
  let w':World:={w with heap:=w.heap.push (.cells us t)}
  Inv w' g' (σ.dY d cells)/\gW w g σ w' g' (σ.dY d cells)/\g.le g'/\aJ g' (.ptr d 0) (.pointer (some ⟨w.heap.size,0,none⟩)):=by
 intro g' w'
 have Sw:g.box d=none:=by
  cases h:g.box d with
  | none=>rfl
  | some b=>exact absurd (hinv.used d (.inl nt)) hd
 have hdb:∀k cs,ak k σ.boxes=some cs->k≠d:=by
  rintro k cs e rfl
  obtain⟨b,h1,_⟩:=hinv.box _ cs e
  rw[Sw]at h1;simp at h1
 have hle:g.le g':=⟨jm.le.refl _,fun k b h=>by
  by_cases hk:k=d
  ·subst hk;rw[Sw]at h;simp at h
  ·simp[g',hk,h],fun k b h=>by
  by_cases hk:k=d
  ·subst hk;rw[Sw]at h;simp at h
  ·simp[g',hk],fun k hw fU h=>⟨hw,fU,h,aam _,fun _=>rfl⟩⟩
 have hold:∀b o,b<w.heap.size->w'.cell? ⟨b,o,none⟩=w.cell? ⟨b,o,none⟩/\w'.frozen? ⟨b,o,none⟩=w.frozen? ⟨b,o,none⟩:=by
  intro b o hb
  exact⟨World.cell?_alloc_old w _ ⟨b,o,none⟩ Mp,World.frozen?_alloc_old w _ ⟨b,o,none⟩ Mp⟩
 have hsz:w'.heap.size=w.heap.size+1:=by simp[w']
 have Hf:∀b o v,g.G b o=some v->b<w.heap.size:=fun b o v h=>World.block_lt_of_cell? w ⟨b,o,none⟩ (hinv.oF b o v h)
 have iP:cy w' g' w.heap.size 0 cells:=by
  obtain⟨h1,h2⟩:=bH.get hr
  apply cy.jS
  intro j c hj
  obtain⟨u,e1,e2⟩:=h2 j c hj
  refine⟨⟨u,?_,aJ.mono hle _ _ e2,?_⟩,?_⟩
  ·have:=World.cell?_alloc_new w us t (0+j)
   rw[show(w.alloc (.cells us t))=w' from rfl]at this
   rw[this]
   rw[List.getElem?_take]at e1
   split at e1
   ·simpa using e1
   ·simp at e1
  ·rw[List.all_eq_true]at ho;exact ho c (aaz hj)
  ·exact World.frozen?_alloc_new w us t (0+j)
 refine⟨⟨?_,?_,?_,?_,hinv.gA,?_,?_⟩,⟨rfl,rfl,rfl,bn,fun b hb _=>by show(w.heap.push _)[b]?=_;rw[Array.getElem?_push,if_neg bn],fun b o hb _=>hold b o hb,jm.le.refl _,fun _ _ _ h => .inl h,?_,?_,fun k hk h=>⟨by simp only[St.dY,aq]at h;rwa[if_neg bn]at h,by simp only[g'];rw[if_neg bn],by simp only[g'];rw[if_neg bn]⟩⟩,hle,by simp only[aJ];exact⟨_,WK,rfl⟩⟩
 ·intro b o v h
  rw[(hold b o (Hf b o v h)).1];exact hinv.oF b o v h
 ·intro k cs e
  simp only[St.dY,aq]at e
  split at e
  ·rename_i hk;subst hk;simp at e;subst e
   refine⟨w.heap.size,WK,bn,?_,iP⟩
   intro o
   cases hg:g.G w.heap.size o with
   | none=>rfl
   | some v=>have:=Hf _ _ _ hg;omega
  ·rename_i hk
   obtain⟨b,h1,h2,h3,h4⟩:=hinv.box k cs e
   exact⟨b,by simp[g',hk,h1],bn,h3,(cy.of_same (fun o=>hold b o h2) h4).mono hle⟩
 ·intro k k' cs cs' b e e' h1 h2
  simp only[St.dY,aq]at e e'
  simp only[g']at h1 h2
  split at e
  ·rename_i hk
   rw[if_pos hk]at h1;simp at h1
   split at e'
   ·rename_i hk';rw[hk,hk']
   ·rename_i hk'
    rw[if_neg hk']at h2
    obtain⟨b',h3,h4,_⟩:=hinv.box k' cs' e'
    rw[h3]at h2;simp at h2;omega
  ·rename_i hk
   rw[if_neg hk]at h1
   split at e'
   ·rename_i hk'
    rw[if_pos hk']at h2;simp at h2
    obtain⟨b',h3,h4,_⟩:=hinv.box k cs e
    rw[h3]at h1;simp at h1;omega
   ·rename_i hk'
    rw[if_neg hk']at h2
    exact hinv.fF k k' cs cs' b e e' h1 h2
 ·intro k n e
  obtain⟨fU,h1,h2⟩:=hinv.tok k n e
  refine⟨fU,h1,fun b lo hi hr=>?_⟩
  obtain⟨h3,h4,h5⟩:=h2 b lo hi hr
  refine⟨bn,fun o IK Lq=>?_,fun k' cs e'=>?_⟩
  ·obtain⟨h6,⟨u,h7⟩,h8⟩:=h4 o IK Lq
   exact⟨h6,⟨u,(hold b o h3).1.trans h7⟩,(hold b o h3).2.trans h8⟩
  ·simp only[St.dY,aq]at e'
   simp only[g']
   split at e'
   ·rename_i hk;rw[if_pos hk];simp;omega
   ·rename_i hk;rw[if_neg hk];exact h5 k' cs e'
 ·intro k e
  simp only[St.dY,List.mem_cons]
  by_cases hk:k=d
  ·exact .inl hk
  ·right
   apply hinv.used k
   simpa[g',hk]using e
 ·intro k cs b e h o
  simp only[St.dY,aq]at e
  simp only[g']at h ⊢
  split at e
  ·rename_i hk
   rw[if_pos hk]at h
   rw[if_pos hk]
   simp at h;subst h
   have h1:=World.cell?_alloc_new w us t o
   rw[show(w.alloc (.cells us t))=w' from rfl]at h1
   have h2:=World.frozen?_alloc_new w us t o
   rw[show(w.alloc (.cells us t))=w' from rfl]at h2
   exact⟨fun ho=>⟨us[o],by rw[h1];simp[ho]⟩,h2⟩
  ·rename_i hk
   rw[if_neg hk]at h
   rw[if_neg hk]
   obtain⟨b',h3,h4,_⟩:=hinv.box k cs e
   rw[h]at h3;cases h3
   obtain⟨h5,h6⟩:=hinv.room k cs b e h o
   exact⟨fun ho=>(h5 ho).imp fun u hu=>(hold b o h4).1.trans hu,(hold b o h4).2.trans h6⟩
 ·intro k cs b e h
  simp only[St.dY,aq]at e
  simp only[g']at h
  split at e
  ·rename_i hk;rw[if_pos hk]at h;simp at h;left;omega
  ·rename_i hk;rw[if_neg hk]at h;exact .inr ⟨k,cs,e,h⟩
 ·exact Yb
theorem L6 {w:World} {g:Gh} {σ:St} {d:Nat} {cells:List AV} {us:Array Value} {t:TypeId} (hinv:Inv w g σ) (hd:d ∉ σ.used) (Xo:d<1000000) (hr:bH g cells us.toList) (ho:cells.all AV.one=true) :
  let g':Gh:=⟨g.G,fun k=>if k=d then some w.heap.size else g.box k,g.tok,fun k=>if k=d then us.size else g.room k⟩
  let w':World:={w with heap:=w.heap.push (.cells us t)}
  Inv w' g' (σ.dY d cells)/\gW w g σ w' g' (σ.dY d cells)/\g.le g'/\aJ g' (.ptr d 0) (.pointer (some ⟨w.heap.size,0,none⟩)):=by
 have hl:cells.length=us.toList.length:=(bH.get hr).1
 exact He (t:=t) hinv hd Xo (by rw[hl,List.take_length];exact hr) ho
theorem cS {d:Nat}:∀{l:List Nat},mem d l=false->d ∉ l
 | [],_=>by simp
 | x::l,h=>by
  simp only[mem]at h;split at h
  ·simp at h
  ·rename_i O;have:=beq_false O;simp[cS h,Ne.symm this]
def JF (d:Nat) (l:List Nat):Bool:=match Nat.blt d 1000000 with
 | true=>mem d l
 | false=>true
theorem B1 {d:Nat} {l:List Nat} (h:JF d l=false):d<1000000/\mem d l=false:=by
 unfold JF at h;split at h
 ·simp_all
 ·simp at h
theorem bW.box {o:Oper} {env:Env} {σ:St} {t:TypeId} {x:Operand} {d:Nat} (ho:o.op = .box t x) (hd:o.dst=some d) {a:AV} (ha:aK X env x=some a) {cells:List AV}
  (hc:jT a=some cells) (hu:JF d σ.used=false):bW P X o env σ (.ptr d 0) (fun σ=>σ.dY d cells) ⟨[],[d]⟩:=by
 intro cW σ1 w g act next Q h1 h2 hinv cD di hnext
 have xI:aK X cW x=some a:=by rw[h1 x gY];exact ha
 obtain⟨c1,c2⟩:=vY hc (cz (a:=act) di cD xI)
 have hd':d ∉ σ1.used:=fun h=>cS (B1 hu).2 ((h2 d (.inr cn)).2.2.1 h)
 have hrun:(execOp act.eval o).run P w = .ok (.value (.pointer (some ⟨w.heap.size,0,none⟩))) {w with heap:=w.heap.push (.cells (act.eval x).cells t)}:=by
  obtain⟨dst,op,type,pos,after,guard⟩:=o
  simp only at ho;subst ho
  simp[execOp,Instr.box,newVar,newRow]
 unfold Oper.wp
 rw[hrun,Oper.upon_value]
 obtain⟨h3,h4,h5,h6⟩:=L6 (t:=t) hinv hd' (B1 hu).1 c1 c2
 exact hnext _ _ _ h6 h3 h4 h5
theorem bW.alloc (hX:cC P X) {o:Oper} {env:Env} {σ:St} {t:TypeId} {d:Nat} (ho:o.op = .alloc t) (hd:o.dst=some d) {i:TI} (hi:X.ti t=some i) {za:AV} (hz:i.zero=some za) {cells:List AV}
  (hc:jT za=some cells) (hu:JF d σ.used=false):bW P X o env σ (.ptr d 0) (fun σ=>σ.dY d cells) ⟨[],[d]⟩:=by
 intro cW σ1 w g act next Q h1 h2 hinv cD di hnext
 obtain⟨z,z1,z2,z3⟩:=hX.lK (w:=w) hi hz
 obtain⟨c1,c2⟩:=vY hc (z2 g)
 have hd':d ∉ σ1.used:=fun h=>cS (B1 hu).2 ((h2 d (.inr cn)).2.2.1 h)
 have hrun:(execOp act.eval o).run P w = .ok (.value (.pointer (some ⟨w.heap.size,0,none⟩))) {w with heap:=w.heap.push (.cells z.cells t)}:=by
  obtain⟨dst,op,type,pos,after,guard⟩:=o
  simp only at ho;subst ho
  simp[execOp,Instr.alloc,newVar,newRow,z1]
 unfold Oper.wp
 rw[hrun,Oper.upon_value]
 obtain⟨h3,h4,h5,h6⟩:=L6 (t:=t) hinv hd' (B1 hu).1 c1 c2
 exact hnext _ _ _ h6 h3 h4 h5
def St.pY (σ:St) (k:Nat) (cells:List AV):St:=⟨tZ k cells σ.boxes,σ.toks,σ.used⟩
theorem L7 (k:Nat) (cells:List AV):gX (fun σ=>σ.pY k cells) ⟨[],[k]⟩ where
 out:=fun σ j P=>by
  have:j≠k:=by simpa using P
  exact⟨by simp only[St.pY,ez,if_neg this],rfl,Iff.rfl⟩
 same:=fun σ G h j P=>by
  have:j=k:=by simpa using P
  subst this;exact⟨by simp[St.pY,ez],(h j (.inr cn)).2.1,(h j (.inr cn)).2.2⟩
theorem heap_setCell (w:World) (a:Addr) (u:Value) (k:Nat) (h:k≠a.block):(w.setCell a u).heap[k]?=w.heap[k]?:=by
 simp only[World.setCell,Array.getElem?_modify];rw[if_neg bn]
theorem mJ {w:World} (b:Nat):∀(vs:List Value) (o i:Nat) (w:World),(∀v∈vs,v.oneCell'=true) ->
  (∀j,j<vs.length->(∃u,w.cell? ⟨b,o+i+j,none⟩=some u)/\w.frozen? ⟨b,o+i+j,none⟩=false) ->
  ∃w',(storeCells ⟨b,o,none⟩ vs i).run P w = .ok () w'/\(w'.heap.size=w.heap.size/\w'.os=w.os/\w'.tape=w.tape/\w'.output=w.output/\∀b',b'≠b->w'.heap[b']?=w.heap[b']?) /\
   (∀b' o',b'≠b\/o'<o+i\/o+i+vs.length<=o'->w'.cell? ⟨b',o',none⟩=w.cell? ⟨b',o',none⟩) /\
   (∀b' o',w'.frozen? ⟨b',o',none⟩=w.frozen? ⟨b',o',none⟩) /\
   ∀j v,vs[j]?=some v->w'.cell? ⟨b,o+i+j,none⟩=some v
 | [],o,i,w,_,_=>⟨w,by simp[storeCells],⟨rfl,rfl,rfl,rfl,fun _ _=>rfl⟩,fun _ _ _=>rfl,fun _ _=>rfl,cn⟩
 | v::vs,o,i,w,h1,h2=>by
  obtain⟨⟨u,hu⟩,hf⟩:=h2 0 cn
  simp only[Nat.add_zero]at hu hf
  have hv:=h1 v cn
  have hst:(store (Addr.add ⟨b,o,none⟩ i) v).run P w = .ok () (w.setCell ⟨b,o+i,none⟩ v):=by
   rw[Addr.add_lit]
   have:=run_store P w ⟨b,o+i,none⟩ v .plain hv
   rw[this];simp[hu,hf]
  obtain⟨w',r1,r2,r3,r4,r5⟩:=mJ (w:=w) b vs o (i+1) (w.setCell ⟨b,o+i,none⟩ v) (fun x hx=>h1 x (by simp[hx])) (by
   intro j hj
   obtain⟨⟨u',hu'⟩,hf'⟩:=h2 (j+1) j0
   refine⟨⟨u',?_⟩,?_⟩
   ·rw[World.cell?_setCell_other w _ _ _ j0]
    rwa[show o+(i+1)+j=o+i+(j+1)from by omega]
   ·rw[World.frozen?_setCell]
    rwa[show o+(i+1)+j=o+i+(j+1)from by omega])
  refine⟨w',?_,⟨by simpa using r2.1,r2.2.1,r2.2.2.1,r2.2.2.2.1,fun b' hb'=>(r2.2.2.2.2 b' hb').trans (heap_setCell w _ _ _ hb')⟩,?_,?_,?_⟩
  ·simp only[storeCells,Sem.run_bind,hst,Result.andThen_ok,r1]
  ·intro b' o' h
   rw[r3 b' o' (by simp at h ⊢;omega),World.cell?_setCell_other w]
   intro e
   simp at e h
   obtain⟨rfl,rfl⟩:=e
   omega
  ·simp_all
  ·intro j v' hj
   cases j with
   | zero =>
    simp at hj;subst hj
    rw[r3 b _ (by right;left;omega)]
    exact World.cell?_setCell_same w _ _ hu
   | succ j =>
    simp at hj
    have:=r5 j v' hj
    rwa[show o+(i+1)+j=o+i+(j+1)from by omega]at this
theorem bW.store (hX:cC P X) {o:Oper} {env:Env} {σ:St} {t:TypeId} {x y:Operand} (ho:o.op = .store t x y) (hd:o.dst=none) {i:TI} (hi:X.ti t=some i) {key off:Nat}
  (hx:aK X env x=some (.ptr key off)) {a:AV} (hy:aK X env y=some a) {cells vs r:List AV} (hb:ak key σ.boxes=some cells) (hc:jT a=some vs)
  (hl:vs.length=i.size) (hw:dL off vs cells=some r):bW P X o env σ (.c .undef) (fun σ=>σ.pY key r) ⟨[],[key]⟩:=by
 intro cW σ1 w g act next Q h1 h2 hinv cD di hnext
 have hx':aK X cW x=some (.ptr key off):=by rw[h1 x gY];exact hx
 have hy':aK X cW y=some a:=by rw[h1 y gY];exact hy
 have hb':ak key σ1.boxes=some cells:=by rw[(h2 key (.inr cn)).1];exact hb
 have rx:=cz (a:=act) di cD hx'
 simp only[aJ]at rx
 obtain⟨b,zS,ex⟩:=rx
 obtain⟨c1,c2⟩:=vY hc (cz (a:=act) di cD hy')
 obtain⟨b',Hg,Zv,Yl,hbc⟩:=hinv.box key cells hb'
 rw[zS]at Hg;simp at Hg;subst Hg
 obtain⟨l1,l2⟩:=bH.get c1
 have hne:i.size≠0:=by obtain⟨_,_,_,_,_,_,hh⟩:=hX.ti t i hi;exact hh
 obtain⟨w1,w2,w3⟩:=om hw
 have hfit:off+vs.length<=cells.length:=by
  cases vs with
  | nil=>simp at hl;omega
  | cons u us=>exact L3 hw
 obtain⟨w',r1,r2,r3,r4,r5⟩:=mJ (P:=P) (w:=w) b (act.eval y).cells.toList off 0 w (by
   intro u hu
   obtain⟨j,hj⟩:=List.getElem?_of_mem hu
   have hjl:j<vs.length:=by rw[l1];exact(List.getElem?_eq_some_iff.1 hj).1
   obtain⟨u',e1,e2⟩:=l2 j vs[j] (by simp[hjl])
   rw[hj]at e1;simp at e1;subst e1
   rw[List.all_eq_true]at c2
   exact uY (c2 _ (List.getElem_mem hjl)) e2) (by
   intro j hj
   have hjl:off+j<cells.length:=by rw[<- l1]at hj;omega
   obtain⟨⟨u,e1,_⟩,e2⟩:=hbc.get (off+j) cells[off+j] (by simp[hjl])
   simp only[Nat.zero_add,Nat.add_zero]at e1 e2 ⊢
   exact⟨⟨u,e1⟩,e2⟩)
 have hrun:(execOp act.eval o).run P w = .ok .skip w':=by
  obtain⟨dst,op,type,pos,after,guard⟩:=o
  simp only at ho;subst ho
  have hsz:(act.eval y).cells.size=i.size:=by rw[<- hl,l1];simp
  simp only[execOp,ex,Instr.storeAt,Instr.sureAddr,storeVar,Sem.run_bind,Sem.run_pure,Result.andThen_ok,hX.run_sizeOf hi]
  rw[if_neg (by simpa using hsz),r1];rfl
 unfold Oper.wp
 rw[hrun,Oper.upon_skip,hd]
 have uZ:∀b' o',b'≠b->w'.cell? ⟨b',o',none⟩=w.cell? ⟨b',o',none⟩:=fun b' o' h=>r3 b' o' (.inl h)
 have ab1:∀b' o' v,g.G b' o'=some v->b'≠b:=by
  rintro b' o' v h rfl;rw[Yl]at h;simp at h
 have:=hnext Go.undef w' g nu ⟨?_,?_,?_,?_,hinv.gA,hinv.used,?_⟩ ⟨r2.2.1,r2.2.2.1,r2.2.2.2.1,bn,fun b' hb0 hno=>r2.2.2.2.2 b' (by rintro rfl;exact hno 0 (.inl ⟨key,cells,hb',zS⟩)),?_,jm.le.refl _,fun _ _ _ h => .inl h,?_,?_,fun k _ h=>⟨by simp only[St.pY,ez]at h;split at h;(· rename_i hk;subst hk;rw[hb'];simp);(· exact h),rfl,rfl⟩⟩ (Gh.le.refl _)
 ·simp_all
 ·intro b' o' v h
  rw[uZ b' o' (ab1 b' o' v h)];exact hinv.oF b' o' v h
 ·intro k cs e
  simp only[St.pY,ez]at e
  split at e
  ·rename_i hk;subst hk;simp at e;subst e
   refine⟨b,zS,bn,Yl,?_⟩
   apply cy.jS
   intro j c hj
   rw[w3]at hj
   simp only[Nat.zero_add]
   split at hj
   ·rename_i hin
    obtain⟨u,e1,e2⟩:=l2 _ _ hj
    refine⟨⟨u,?_,e2,?_⟩,?_⟩
    ·have:=r5 (j-off) u (by simpa using e1)
     rwa[show off+0+(j-off)=j from by omega]at this
    ·rw[List.all_eq_true]at c2;exact c2 c (aaz hj)
    ·rw[r4]
     have hjl:j<cells.length:=by omega
     have:=(hbc.get j cells[j] (by simp[hjl])).2
     simpa using this
   ·rename_i hin
    obtain⟨⟨u,e1,e2,e3⟩,e4⟩:=hbc.get j c hj
    simp only[Nat.zero_add]at e1 e4
    refine⟨⟨u,?_,e2,e3⟩,by rw[r4];exact e4⟩
    rw[r3 b j (by right;have:=l1;omega)];exact e1
  ·rename_i hk
   obtain⟨b',e1,e2,e3,e4⟩:=hinv.box k cs e
   have zG:b'≠b:=by
    rintro rfl
    exact hk (hinv.fF k key cs cells _ e hb' e1 zS)
   exact⟨b',e1,bn,e3,cy.of_same (fun o=>⟨uZ b' o zG,r4 b' o⟩) e4⟩
 ·intro k k' cs cs' b'' e e' e1 e2
  have hex:∀k cs,ak k (σ1.pY key r).boxes=some cs->∃cs,ak k σ1.boxes=some cs:=by
   intro k cs e
   simp only[St.pY,ez]at e
   split at e
   ·simp_all
   ·exact⟨_,e⟩
  obtain⟨c1,f1⟩:=hex k cs e
  obtain⟨c2,f2⟩:=hex k' cs' e'
  exact hinv.fF k k' c1 c2 b'' f1 f2 e1 e2
 ·intro k n e
  obtain⟨fU,e1,e2⟩:=hinv.tok k n e
  refine⟨fU,e1,fun b' lo hi hr=>?_⟩
  obtain⟨e3,e4,e5⟩:=e2 b' lo hi hr
  have zG:b'≠b:=by
   rintro rfl;exact e5 key cells hb' zS
  refine⟨bn,fun o' h1 h2=>?_,fun k' cs e'=>?_⟩
  ·simp_all
  ·simp only[St.pY,ez]at e'
   split at e'
   ·rename_i hk;subst hk;exact e5 _ cells hb'
   ·exact e5 k' cs e'
 ·intro k cs b0 e hb0 o0
  have hex:∃cs0,ak k σ1.boxes=some cs0:=by
   simp only[St.pY,ez]at e
   split at e
   ·simp_all
   ·exact⟨_,e⟩
  obtain⟨cs0,e0⟩:=hex
  obtain⟨q0,q2⟩:=hinv.room k cs0 b0 e0 hb0 o0
  refine⟨fun ho0=>?_,by rw[r4];exact q2⟩
  obtain⟨u,q1⟩:=q0 ho0
  by_cases hw0:b0=b/\off<=o0/\o0<off+(act.eval y).cells.toList.length
  ·obtain⟨rfl,h5,h6⟩:=hw0
   obtain⟨v,hj⟩:∃v,(act.eval y).cells.toList[o0-off]?=some v:=⟨_,List.getElem?_eq_getElem bn⟩
   have:=r5 (o0-off) v hj
   rw[show off+0+(o0-off)=o0 from by omega]at this
   exact⟨v,this⟩
  ·refine⟨u,?_⟩
   rw[r3 b0 o0 (by
    by_cases zG:b0=b
    ·omega
    ·exact .inl zG)]
   exact q1
 ·intro b' o' hlt hno
  refine⟨uZ b' o' ?_,r4 b' o'⟩
  rintro rfl
  exact hno (.inl ⟨key,cells,hb',zS⟩)
 ·intro k cs b' e e1
  simp only[St.pY,ez]at e
  split at e
  ·rename_i hk;subst hk;exact .inr ⟨_,_,hb',e1⟩
  ·exact .inr ⟨k,cs,e,e1⟩
 ·exact Yb
end
end Go.cu
namespace Go.cu
def Hh:AV->Value->Bool
 | .c (.int k n),.int k' n'=>k==k'&&n==n'
 | .c (.bool b),.bool b'=>b==b'
 | .c (.str []),.string s=>s.data.toList.isEmpty
 | .c .lI,.pointer none=>true
 | .own .exact _ [],.slice none 0 0=>true
 | _,_=>false
def Aj:List AV->List Value->Bool
 | [],[]=>true
 | a::l,v::vs=>Hh a v&&Aj l vs
 | _,_=>false
def Sx:AV->Value->Bool
 | .agg l,.agg cs=>Aj l cs.toList
 | a,v=>Hh a v
theorem FN {a:AV} {v:Value} (h:Hh a v=true) (g:Gh):aJ g a v/\a.one=true:=by
 unfold Hh at h;split at h<;>simp at h
 ·obtain⟨rfl,rfl⟩:=h;simp[aJ,Rel,AV.one,CV.one]
 ·subst h;simp[aJ,Rel,AV.one,CV.one]
 ·rename_i s;simp only[aJ,Rel,AV.one,CV.one,and_true];congr 1;apply ByteArray.ext;simp[h]
 ·simp[aJ,Rel,AV.one,CV.one]
 ·simp only[aJ,AV.one,and_true];exact⟨_,_,_,rfl,rfl,aam _,.inl rfl,rfl⟩
theorem FO (g:Gh):∀{l:List AV} {vs:List Value},Aj l vs=true->bH g l vs/\l.all AV.one=true
 | [],[],_=>by simp[bH]
 | [],_::_,h=>by simp[Aj]at h
 | _::_,[],h=>by simp[Aj]at h
 | a::l,v::vs,h=>by
  simp only[Aj,aaj]at h;obtain⟨h1,h2⟩:=FN h.1 g;obtain⟨V,D⟩:=FO g h.2;exact⟨by simp only[bH];exact⟨v,vs,rfl,h1,V⟩,by simp only[List.all_cons,h2,Bool.true_and];exact D⟩
theorem Sy {a:AV} {v:Value} (h:Sx a v=true) (g:Gh):aJ g a v:=by
 unfold Sx at h;split at h
 ·rename_i l cs;obtain⟨h1,h2⟩:=FO g h;simp only[aJ];exact⟨cs.toList,cn,h1,h2⟩
 ·exact(FN h g).1
def L8 (P:Program) (k:TK) (d:TypeDesc):Bool :=
 match k,d with
 | .int k,.int k'=>k==k'
 | .bool,.bool=>true
 | .str,.string=>true
 | .ptr e,.pointer e'=>e==e'
 | .slice e,.slice e'=>e==e'
 | .arr n e,.array B e'=>n==B&&e==e'
 | .struct T,.struct Y=>Y.toList.map (fun f=>(f.offset,f.type))==T&&Y.toList.all fun f=>match P.info? f.type with
  | some Q=>Q.size != 0
  | none=>false
 | .other,.func .. => true
 | .other,.map .. => true
 | .other,.tuple .. => true
 | _,_=>false
theorem PI {P:Program} {k:TK} {d:TypeDesc} (h:L8 P k d=true):eG P k d:=by
 unfold L8 at h;split at h<;>simp at h<;>simp only[eG]
 ·rw[h]
 ·rw[h]
 ·rw[h]
 ·rw[h.1,h.2]
 ·rename_i T Y;refine⟨Y,rfl,by simpa using h.1,fun f hf=>?_⟩;obtain⟨i,W,V⟩:=Array.getElem_of_mem (Array.mem_toList_iff.1 hf);have:=h.2 i W;rw[V]at this;split at this
  ·simp_all
  ·simp at this
def RA (P:Program) (t:Nat) (i:TI):Bool :=
 match P.info? t,P.underlying t with
 | some Q,some d=>Q.size==i.size&&Q.bytes==i.bytes&&i.size != 0&&L8 P i.kind d &&
  (match i.zero with
   | none=>true
   | some a=>match Q.zero with
    | none=>false
    | some z=>Sx a z&&z.cells.size==i.size)
 | _,_=>false
theorem RB {P:Program} {table:List (Nat×TI)} {X:Ctx} (hX:X.ti=fun t=>ak t table) (h:table.all (fun p=>RA P p.1 p.2)=true):cC P X where
 ti:=fun t i e=>by
  rw[hX]at e;have T:∀(l:List (Nat×TI)),l.all (fun p=>RA P p.1 p.2)=true->ak t l=some i->RA P t i=true:=by
   intro l
   induction l with
   | nil=>intro _ e;simp[ak]at e
   | cons x l S =>
    intro h e;obtain⟨j,y⟩:=x;simp only[List.all_cons,aaj]at h;simp only[ak]at e;split at e
    ·rename_i V;have W:=beq_true V;rw[<- W];simp at e;rw[<- e];exact h.1
    ·exact S h.2 e
  have:=T table h e;unfold RA at this;split at this
  ·rename_i Q d h1 h2;simp only[aaj,beq_iff_eq,bne_iff_ne]at this;obtain⟨⟨⟨⟨u,C⟩,a3⟩,K⟩,Y⟩:=this;refine⟨Q,h1,u,C,?_,⟨d,h2,PI K⟩,a3⟩;intro a U;rw[U]at Y;simp only at Y;split at Y
   ·simp at Y
   ·rename_i z O;simp only[aaj,beq_iff_eq]at Y;exact⟨z,O,Sy Y.1,Y.2⟩
  ·simp at this
end Go.cu
namespace Go.cu
section
variable {P:Program} {X:Ctx} {ops:Array Oper} {o:Oper} {rest:List Oper} {env:Env} {σ:St} {acc:List Fp} {Q:Env->St->List Fp->Prop}
 {bs:List (Nat×List AV)} {ts:List (Nat×Nat)} {us:List Nat} {kn:List Nat}
theorem dx (h:cV ops.toList kn env o=some true):qG ops o env:=by
 have:=r8 h;simpa using this
theorem ai.Su (kn:List Nat) (hg:cV ops.toList kn env o=some true) {f:FuncId} {args:Array Operand} {ats:Array TypeId} (ho:o.op = .call {callee := .value (.func f),args:=args,argTypes:=ats})
  {d:Nat} (hd:o.dst=some d) {oJ:List CV} (ha:hJ (aK X env) args.toList=some oJ) {r:CV} (hq:bw P X f oJ r)
  (k:ai P X ops rest ((d,.c r)::env) σ (⟨[],[]⟩::acc) Q):ai P X ops (o::rest) env σ acc Q :=
 ai.step (dx hg) (bW.Su ho ha hq) (gX.id _) rj
theorem ai.Sv (kn:List Nat) (hg:cV ops.toList kn env o=some true) {x:Operand} {args:Array Operand} {ats:Array TypeId} (ho:o.op = .call {callee := .value x,args:=args,argTypes:=ats})
  {d:Nat} (hd:o.dst=some d) {f:FuncId} {caps:List CV} (hx:aK X env x=some (.c (.rK f caps))) {oJ:List CV} (ha:hJ (aK X env) args.toList=some oJ) {r:CV} (hq:bw P X f (oJ++caps) r)
  (k:ai P X ops rest ((d,.c r)::env) σ (⟨[],[]⟩::acc) Q):ai P X ops (o::rest) env σ acc Q :=
 ai.step (dx hg) (bW.Sv ho hx ha hq) (gX.id _) rj
theorem ai.box (kn:List Nat) (hg:cV ops.toList kn env o=some true) {t:TypeId} {x:Operand} (ho:o.op = .box t x) {d:Nat} (hd:o.dst=some d) {a:AV} (ha:aK X env x=some a)
  {cells:List AV} (hc:jT a=some cells) (hu:JF d us=false) (k:ai P X ops rest ((d,.ptr d 0)::env) ⟨(d,cells)::bs,ts,d::us⟩ (⟨[],[d]⟩::acc) Q) :
  ai P X ops (o::rest) env ⟨bs,ts,us⟩ acc Q :=
 ai.step (dx hg) (bW.box ho hd ha hc hu) (pX d cells) rj
theorem ai.alloc (hX:cC P X) (kn:List Nat) (hg:cV ops.toList kn env o=some true) {t:TypeId} (ho:o.op = .alloc t) {d:Nat} (hd:o.dst=some d) {i:TI} (hi:X.ti t=some i) {za:AV} (hz:i.zero=some za)
  {cells:List AV} (hc:jT za=some cells) (hu:JF d us=false) (k:ai P X ops rest ((d,.ptr d 0)::env) ⟨(d,cells)::bs,ts,d::us⟩ (⟨[],[d]⟩::acc) Q) :
  ai P X ops (o::rest) env ⟨bs,ts,us⟩ acc Q :=
 ai.step (dx hg) (bW.alloc hX ho hd hi hz hc hu) (pX d cells) rj
theorem ai.store (hX:cC P X) (kn:List Nat) (hg:cV ops.toList kn env o=some true) {t:TypeId} {x y:Operand} (ho:o.op = .store t x y) (hd:o.dst=none) {i:TI} (hi:X.ti t=some i) {key off:Nat}
  (hx:aK X env x=some (.ptr key off)) {a:AV} (hy:aK X env y=some a) {cells vs r:List AV} (hb:ak key bs=some cells) (hc:jT a=some vs)
  (hl:Nat.beq vs.length i.size=true) (hw:dL off vs cells=some r) {bs':List (Nat×List AV)} (hs:wU key r bs=some bs')
  (k:ai P X ops rest env ⟨bs',ts,us⟩ (⟨[],[key]⟩::acc) Q):ai P X ops (o::rest) env ⟨bs,ts,us⟩ acc Q:=by
 rw[rW]at hs
 simp only[Option.some.injEq]at hs
 subst hs
 exact ai.step (dx hg) (bW.store hX ho hd hi hx hy hb hc (beq_true hl) hw) (L7 key r) rj
end
end Go.cu
namespace Go.cu
def closeAll:List AV->Option (List CV)
 | []=>some []
 | .c v::l=>match closeAll l with
  | some r=>some (v::r)
  | none=>none
 | .own _ s rows::l=>match closeAll l with
  | some r=>some (.sl s rows::r)
  | none=>none
 | _=>none
mutual
def pZ (k:Nat) (cs:List CV):AV->Option AV
 | .ptr j off=>match Nat.beq j k with
  | true=>match gv off cs with
   | some r=>some (.c (.ip r))
   | none=>none
  | false=>some (.ptr j off)
 | .gy j off s n=>match Nat.beq j k with
  | true=>none
  | false=>some (.gy j off s n)
 | .agg l=>match qa k cs l with
  | some r=>some (.agg r)
  | none=>none
 | .gB l=>match qa k cs l with
  | some r=>some (.gB r)
  | none=>none
 | a=>some a
def qa (k:Nat) (cs:List CV):List AV->Option (List AV)
 | []=>some []
 | a::l=>match pZ k cs a with
  | some x=>match qa k cs l with
   | some r=>some (x::r)
   | none=>none
  | none=>none
end
def Dl (k:Nat) (cs:List CV):Env->Option Env
 | []=>some []
 | (t,a)::l=>match pZ k cs a with
  | some x=>match Dl k cs l with
   | some r=>some ((t,x)::r)
   | none=>none
  | none=>none
def Ak (k:Nat) (cs:List CV):List (Nat×List AV)->Option (List (Nat×List AV))
 | []=>some []
 | (j,a)::l=>match Nat.beq j k with
  | true=>Ak k cs l
  | false=>match qa k cs a with
   | some x=>match Ak k cs l with
    | some r=>some ((j,x)::r)
    | none=>none
   | none=>none
section
variable {P : Program} {X : Ctx}
theorem u9 {w:World} {g:Gh} {b:Nat}:∀{cells:List AV} {cs:List CV} {o:Nat},closeAll cells=some cs->cy w g b o cells ->
  cells.length=cs.length/\∀(j:Nat) c,cs[j]?=some c->∃u,w.cell? ⟨b,o+j,none⟩=some u/\Rel g.G c u/\c.one=true
 | [],cs,o,h,_=>by simp[closeAll]at h;subst h;simp
 | .c v::l,cs,o,h,hc=>by
  simp only[closeAll]at h
  split at h
  ·rename_i r hr
   simp at h;subst h
   obtain⟨⟨u,h1,h2,h3⟩,_,h4⟩:=hc
   obtain⟨i1,i2⟩:=u9 hr h4
   refine⟨by simp[i1],fun j c hj=>?_⟩
   cases j with
   | zero=>simp at hj;subst hj;exact⟨u,h1,uH,h3⟩
   | succ j =>
    simp at hj
    have:=i2 j c hj
    rwa[show o+1+j=o+(j+1)from by omega]at this
  ·simp at h
 | .own k s rows::l,cs,o,h,hc=>by
  simp only[closeAll]at h
  split at h
  ·rename_i r hr
   simp at h;subst h
   obtain⟨⟨u,h1,h2,h3⟩,_,h4⟩:=hc
   obtain⟨i1,i2⟩:=u9 hr h4
   refine⟨by simp[i1],fun j c hj=>?_⟩
   cases j with
   | zero =>
    simp at hj;subst hj
    have:=rY (.own k s rows) (.sl s rows) u rfl h2
    exact⟨u,h1,this.1,rfl⟩
   | succ j =>
    simp at hj
    have:=i2 j c hj
    rwa[show o+1+j=o+(j+1)from by omega]at this
  ·simp at h
 | .ptr _ _::l,cs,o,h,hc=>by simp[closeAll]at h
 | .gy .. :: l,cs,o,h,hc=>by simp[closeAll]at h
 | .any::l,cs,o,h,hc=>by simp[closeAll]at h
 | .agg _::l,cs,o,h,hc=>by simp[closeAll]at h
 | .gB _::l,cs,o,h,hc=>by simp[closeAll]at h
def Gh.freeze (g:Gh) (w:World) (k b n:Nat):Gh :=
 ⟨fun M o=>if M=b/\o<n then w.cell? ⟨M,o,none⟩else g.G M o,fun j=>if j=k then none else g.box j,g.tok,g.room⟩
theorem Al {g:Gh} {w:World} {k b n:Nat} (D:∀b o v,g.G b o=some v->w.cell? ⟨b,o,none⟩=some v):g.G.le (g.freeze w k b n).G:=by
 intro M o v h;simp only[Gh.freeze];split
 ·exact D _ _ _ h
 ·exact h
mutual
theorem Am {g:Gh} {w:World} {k b:Nat} {cs:List CV} (D:∀b o v,g.G b o=some v->w.cell? ⟨b,o,none⟩=some v) (p:g.box k=some b)
  (Y:cO (g.freeze w k b cs.length).G b 0 cs):∀{a x:AV} {u:Value},pZ k cs a=some x->aJ g a u->aJ (g.freeze w k b cs.length) x u/\(a.one=true->x.one=true)
 | .ptr j off,x,u,h,I=>by
  simp only[pZ]at h;simp only[aJ]at I;obtain⟨M,h1,rfl⟩:=I;split at h
  ·rename_i P;have:=beq_true P;subst this;rw[p]at h1;simp at h1;subst h1;split at h
   ·rename_i r I;simp at h;subst h;obtain⟨rfl,C⟩:=kE I;refine⟨?_,fun _=>rfl⟩;simp only[aJ,Rel];exact⟨b,off,rfl,by simpa using Y.drop (n:=off)⟩
   ·simp at h
  ·rename_i P;have:=beq_false P;simp at h;subst h;exact⟨by simp only[aJ];exact⟨M,by simp[Gh.freeze,this,h1],rfl⟩,id⟩
 | .gy j off s n,x,u,h,I=>by
  simp only[pZ]at h;simp only[aJ]at I;obtain⟨M,E,o,h1,rfl,h2,T⟩:=I;split at h
  ·simp at h
  ·rename_i P;have:=beq_false P;simp at h;subst h;exact⟨by simp only[aJ];exact⟨M,E,o,by simp[Gh.freeze,this,h1],rfl,h2,T⟩,id⟩
 | .any,x,u,h,I=>by
  simp[pZ]at h;subst h;exact⟨by simp only[aJ]at I ⊢;exact I,id⟩
 | .agg l,x,u,h,I=>by
  simp only[pZ]at h;split at h
  ·rename_i r W;simp at h;subst h;simp only[aJ]at I;obtain⟨vs,rfl,h1,h2⟩:=I;obtain⟨V,U⟩:=An D p Y W h1;exact⟨by simp only[aJ];exact⟨vs,rfl,V,U h2⟩,fun h=>by simp[AV.one]at h⟩
  ·simp at h
 | .gB l,x,u,h,I=>by
  simp only[pZ]at h;split at h
  ·rename_i r W;simp at h;subst h;simp only[aJ]at I;obtain⟨vs,rfl,h1,h2⟩:=I;obtain⟨V,U⟩:=An D p Y W h1;have Q:r.length=l.length:=by
    have J:=(bH.get V).1;have H:=(bH.get h1).1;omega
   exact⟨by simp only[aJ];exact⟨vs,rfl,V,bn⟩,fun h=>by simp[AV.one]at h⟩
  ·simp at h
 | .c v,x,u,h,I=>by
  simp[pZ]at h;subst h;exact⟨by simp only[aJ]at I ⊢;exact Rel.mono (Al D) _ _ I,id⟩
 | .own o s rows,x,u,h,I=>by
  simp[pZ]at h;subst h;refine⟨?_,id⟩;simp only[aJ]at I ⊢;obtain⟨base,S,E,e,h1,h2,T,O⟩:=I;refine⟨base,S,E,e,h1,h2,T.mono (Al D),?_⟩;cases o with
  | exact=>exact O
  | tok N n=>exact O
theorem An {g:Gh} {w:World} {k b:Nat} {cs:List CV} (D:∀b o v,g.G b o=some v->w.cell? ⟨b,o,none⟩=some v) (p:g.box k=some b)
  (Y:cO (g.freeze w k b cs.length).G b 0 cs):∀{l r:List AV} {us:List Value},qa k cs l=some r->bH g l us->bH (g.freeze w k b cs.length) r us/\(l.all AV.one=true->r.all AV.one=true)
 | [],r,us,h,I=>by
  simp[qa]at h;subst h;simp only[bH]at I ⊢;exact⟨I,id⟩
 | a::l,r,us,h,I=>by
  simp only[qa]at h;split at h
  ·rename_i x q;split at h
   ·rename_i A W;simp at h;subst h;simp only[bH]at I;obtain⟨u,us,rfl,h1,h2⟩:=I;obtain⟨V,U⟩:=Am D p Y q h1;obtain⟨B,K⟩:=An D p Y W h2;refine⟨by simp only[bH];exact⟨u,us,rfl,V,B⟩,fun h=>?_⟩;simp only[List.all_cons,aaj]at h ⊢;exact⟨U h.1,K h.2⟩
   ·simp at h
  ·simp at h
end
theorem Dm {k:Nat} {cs:List CV}:∀{env env':Env},Dl k cs env=some env'->∀t x,ak t env'=some x->∃a,ak t env=some a/\pZ k cs a=some x
 | [],env',h,t,x,e=>by simp[Dl]at h;subst h;simp[ak]at e
 | (j,a)::l,env',h,t,x,e=>by
  simp only[Dl]at h;split at h
  ·rename_i y T;split at h
   ·rename_i r I;simp at h;subst h;rw[aq]at e;rw[aq];split at e
    ·simp_all
    ·rename_i M;rw[if_neg M];exact Dm I t x e
   ·simp at h
  ·simp at h
theorem jC {k:Nat} {cs:List CV}:∀{bs bs':List (Nat×List AV)},Ak k cs bs=some bs'->∀j x,ak j bs'=some x->j≠k/\∃a,ak j bs=some a/\qa k cs a=some x
 | [],bs',h,j,x,e=>by simp[Ak]at h;subst h;simp[ak]at e
 | (i,a)::l,bs',h,j,x,e=>by
  simp only[Ak]at h;split at h
  ·rename_i W;have:=beq_true W;subst this;obtain⟨h1,p,h2,V⟩:=jC h j x e;exact⟨h1,p,by rw[aq,if_neg h1];exact h2,V⟩
  ·rename_i W;have T:=beq_false W;split at h
   ·rename_i y A;split at h
    ·rename_i r I;simp at h;subst h;rw[aq]at e;rw[aq];split at e
     ·simp_all
     ·rename_i P;obtain⟨h1,p,h2,V⟩:=jC I j x e;exact⟨h1,p,by rw[if_neg P];exact h2,V⟩
    ·simp at h
   ·simp at h
theorem AK.freeze {f:FuncId} {n:Nat} {β:jH} {R:Ending->World->Prop} {K:List Item} {env env':Env} {bs bs':List (Nat×List AV)} {ts:List (Nat×Nat)} {us:List Nat} (k:Nat)
  {cells:List AV} {cs:List CV} (B:ak k bs=some cells) (q:closeAll cells=some cs) (he:Dl k cs env=some env') (V:Ak k cs bs=some bs')
  (h:AK P X f n β R K env' ⟨bs',ts,us⟩):AK P X f n β R K env ⟨bs,ts,us⟩:=by
 intro g w a cst N;obtain⟨b,I,hlt,hGn,Zk⟩:=N.inv.box k cells B;obtain⟨hlen,U⟩:=u9 q Zk;let g':=g.freeze w k b cs.length;have Q:g.G.le g'.G:=Al N.inv.oF;have H:cO g'.G b 0 cs:=by
  apply cO.jS;intro j c hj;obtain⟨u,A,E,e3⟩:=U j c hj;have hjl:j<cs.length:=(List.getElem?_eq_some_iff.1 hj).1;refine⟨u,?_,Rel.mono Q _ _ E,e3⟩;simp only[g',Gh.freeze,Nat.zero_add,true_and,hjl,if_true];simpa using A
 have p:∀M o,M≠b->g'.G M o=g.G M o:=by
  intro M o W;simp only[g',Gh.freeze,W,false_and,if_false]
 have iP:∀(M:Nat) (l r:List AV) (o:Nat),qa k cs l=some r->cy w g M o l->cy w g' M o r:=by
  intro M l
  induction l with
  | nil=>intro r o h1 _;simp[qa]at h1;subst h1;trivial
  | cons x l ih =>
   intro r o h1 h2;simp only[qa]at h1;split at h1
   ·rename_i y hy;split at h1
    ·rename_i r' hr';simp at h1;subst h1;obtain⟨⟨u,h3,h4,h5⟩,h6,h7⟩:=h2;obtain⟨i1,i2⟩:=Am N.inv.oF I H hy h4;exact⟨⟨u,h3,i1,i2 h5⟩,h6,ih r' (o+1) hr' h7⟩
    ·simp at h1
   ·simp at h1
 refine h g' w a cst ⟨⟨?_,?_,?_,?_,?_,?_,?_⟩,?_,?_,?_,N.size,N.defers⟩
 ·intro M o v S;simp only[g',Gh.freeze]at S;split at S
  ·exact S
  ·exact N.inv.oF _ _ _ S
 ·intro j x e;obtain⟨T,l,A,E⟩:=jC V j x e;obtain⟨M,Y,f2,f3,f4⟩:=N.inv.box j l A;have J:M≠b:=by
   rintro rfl;exact T (N.inv.fF j k l cells M A B Y I)
  exact⟨M,by simp[g',Gh.freeze,T,Y],f2,fun o=>by rw[p M o J];exact f3 o,iP M l x 0 E f4⟩
 ·intro j O x x' M e e' A E;obtain⟨T,l,Y,_⟩:=jC V j x e;obtain⟨ab2,l',Zw,_⟩:=jC V O x' e';simp only[g',Gh.freeze,T,ab2,if_false]at A E;exact N.inv.fF j O l l' M Y Zw A E
 ·intro j m e;obtain⟨fU,A,E⟩:=N.inv.tok j m e;refine⟨fU,A,fun M D C hr=>?_⟩;obtain⟨Y,f2,f3⟩:=E M D C hr;have J:M≠b:=by rintro rfl;exact f3 k cells B I
  refine⟨Y,fun o o1 o2=>?_,fun O x e'=>?_⟩
  ·obtain⟨f4,f5,f6⟩:=f2 o o1 o2;exact⟨by rw[p M o J];exact f4,f5,f6⟩
  ·obtain⟨T,l,f7,_⟩:=jC V O x e';simp only[g',Gh.freeze,T,if_false];exact f3 O l f7
 ·intro j O m m' M D C lo' hi' e e' A E;exact N.inv.gA j O m m' M D C lo' hi' e e' A E
 ·intro j e;apply N.inv.used j;simp only[g',Gh.freeze]at e;rcases e with e|e
  ·left;intro hn;apply e;split
   ·rfl
   ·exact hn
  ·exact .inr e
 ·intro j x M e W o;obtain⟨T,l,Y,_⟩:=jC V j x e;simp only[g',Gh.freeze,T,if_false]at W ⊢;exact N.inv.room j l M Y W o
 ·intro m v hm;exact Rel.mono Q _ _ (N.q8 m v hm)
 ·intro t x e;obtain⟨y,A,E⟩:=Dm he t x e;exact(Am N.inv.oF I H E (N.env t y A)).1
 ·refine N.frame.trans ⟨rfl,rfl,rfl,aam _,fun _ _ _=>rfl,fun _ _ _ _=>⟨rfl,rfl⟩,Q,fun M o v S=>?_,fun j x M e A=>?_,fun j m M D C e A => .inr ⟨j,m,D,C,e,A,aam _,aam _⟩,fun j _ h=>?_⟩
  ·by_cases J:M=b
   ·subst J;exact .inr (.inr (.inl ⟨k,cells,B,I⟩))
   ·rw[p M o J]at S;exact .inl S
  ·obtain⟨T,l,Y,_⟩:=jC V j x e;simp only[g',Gh.freeze,T,if_false]at A;exact .inr ⟨j,l,Y,A⟩
  ·cases q:ak j bs' with
   | none=>exact absurd q h
   | some x =>
    obtain⟨T,l,Y,_⟩:=jC V j x q;exact⟨by rw[Y];simp,by simp[g',Gh.freeze,T],by simp[g',Gh.freeze]⟩
end
end Go.cu
namespace Go.cu
mutual
def GW (us:List Nat):AV->Bool
 | .c _=>true
 | .own .exact _ _=>true
 | .own (.tok T _) _ _=>mem T us
 | .ptr T _=>mem T us
 | .gy T _ _ _=>mem T us
 | .any=>true
 | .agg l=>yR us l
 | .gB l=>yR us l
def yR (us:List Nat):List AV->Bool
 | []=>true
 | a::l=>match GW us a with
  | true=>yR us l
  | false=>false
end
def Ym (us:List Nat):Env->Bool
 | []=>true
 | (_,a)::l=>match GW us a with
  | true=>Ym us l
  | false=>false
def okB (us:List Nat):List (Nat×List AV)->Bool
 | []=>true
 | (k,a)::l=>match mem k us,yR us a with
  | true,true=>okB us l
  | _,_=>false
def Yn (us:List Nat):List (Nat×Nat)->Bool
 | []=>true
 | (k,_)::l=>match mem k us with
  | true=>Yn us l
  | false=>false
def Has (env:Env) (t:Nat) (a:AV):Prop:=ak t env=some a\/∃b v,ak t env=some b/\close b=some v/\a = .c v
def Dn (env:Env):Env->Prop
 | []=>True
 | (t,a)::l=>Has env t a/\Dn env l
def Sz (bs:List (Nat×List AV)):List (Nat×List AV)->Prop
 | []=>True
 | (k,a)::l=>ak k bs=some a/\Sz bs l
def Jv (ts:List (Nat×Nat)):List (Nat×Nat)->Prop
 | []=>True
 | (k,a)::l=>ak k ts=some a/\Jv ts l
theorem mem_iff {k:Nat}:∀{l:List Nat},mem k l=true↔k∈l
 | []=>by simp[mem]
 | x::l=>by
  simp only[mem];split
  ·simp_all
  ·rename_i h;have:=beq_false h;simp[mem_iff (l:=l),Ne.symm this]
def Gh.only (g:Gh) (us:List Nat):Gh:=⟨g.G,fun k=>if mem k us then g.box k else none,fun k=>if mem k us then g.tok k else none,g.room⟩
mutual
theorem L9 {g:Gh} {us:List Nat}:∀{a:AV} {u:Value},GW us a=true->aJ g a u->aJ (g.only us) a u
 | .c v,u,_,h=>by simp only[aJ]at h ⊢;exact h
 | .own .exact s rows,u,_,h=>by simp only[aJ]at h ⊢;exact h
 | .own (.tok T n) s rows,u,q,h=>by
  simp only[GW]at q;simp only[aJ]at h ⊢;obtain⟨base,Y,E,e,h1,h2,V,Q,C,D,J⟩:=h;exact⟨base,Y,E,e,h1,h2,V,Q,C,by simp[Gh.only,q,D],J⟩
 | .ptr T off,u,q,h=>by
  simp only[GW]at q;simp only[aJ]at h ⊢;obtain⟨b,h1,h2⟩:=h;exact⟨b,by simp[Gh.only,q,h1],h2⟩
 | .gy T off s n,u,q,h=>by
  simp only[GW]at q;simp only[aJ]at h ⊢;obtain⟨b,E,o,h1,h2,V,D⟩:=h;exact⟨b,E,o,by simp[Gh.only,q,h1],h2,V,D⟩
 | .any,u,_,h=>by simp only[aJ]at h ⊢;exact h
 | .agg l,u,q,h=>by
  simp only[GW]at q;simp only[aJ]at h ⊢;obtain⟨vs,e,h1,h2⟩:=h;exact⟨vs,e,Hi q h1,h2⟩
 | .gB l,u,q,h=>by
  simp only[GW]at q;simp only[aJ]at h ⊢;obtain⟨vs,e,h1,h2⟩:=h;exact⟨vs,e,Hi q h1,h2⟩
theorem Hi {g:Gh} {us:List Nat}:∀{l:List AV} {vs:List Value},yR us l=true->bH g l vs->bH (g.only us) l vs
 | [],vs,_,h=>by simpa only[bH]using h
 | a::l,vs,q,h=>by
  simp only[yR]at q;split at q
  ·rename_i h1;simp only[bH]at h ⊢;obtain⟨u,us',e,h2,V⟩:=h;exact⟨u,us',e,L9 h1 h2,Hi q V⟩
  ·simp at q
end
theorem N5 {us:List Nat}:∀{env:Env},Ym us env=true->∀t a,ak t env=some a->GW us a=true
 | [],_,t,a,e=>by simp[ak]at e
 | (j,x)::l,h,t,a,e=>by
  simp only[Ym]at h;split at h
  ·rename_i O;rw[aq]at e;split at e
   ·simp_all
   ·exact N5 h t a e
  ·simp at h
theorem qH {us:List Nat}:∀{bs:List (Nat×List AV)},okB us bs=true->∀k a,ak k bs=some a->mem k us=true/\yR us a=true
 | [],_,t,a,e=>by simp[ak]at e
 | (j,x)::l,h,t,a,e=>by
  simp only[okB]at h;split at h
  ·rename_i P O;rw[aq]at e;split at e
   ·simp_all
   ·exact qH h t a e
  ·simp at h
theorem yS {us:List Nat}:∀{ts:List (Nat×Nat)},Yn us ts=true->∀k a,ak k ts=some a->mem k us=true
 | [],_,t,a,e=>by simp[ak]at e
 | (j,x)::l,h,t,a,e=>by
  simp only[Yn]at h;split at h
  ·rename_i P;rw[aq]at e;split at e
   ·simp_all
   ·exact yS h t a e
  ·simp at h
theorem Dp {env:Env}:∀{l:Env},Dn env l->∀t a,ak t l=some a->Has env t a
 | [],_,t,a,e=>by simp[ak]at e
 | (j,x)::l,h,t,a,e=>by
  rw[aq]at e;split at e
  ·rename_i M;subst M;simp at e;subst e;exact h.1
  ·exact Dp h.2 t a e
theorem oq {bs:List (Nat×List AV)}:∀{l:List (Nat×List AV)},Sz bs l->∀k a,ak k l=some a->ak k bs=some a
 | [],_,t,a,e=>by simp[ak]at e
 | (j,x)::l,h,t,a,e=>by
  rw[aq]at e;split at e
  ·rename_i M;subst M;simp at e;subst e;exact h.1
  ·exact oq h.2 t a e
theorem qb {ts:List (Nat×Nat)}:∀{l:List (Nat×Nat)},Jv ts l->∀k a,ak k l=some a->ak k ts=some a
 | [],_,t,a,e=>by simp[ak]at e
 | (j,x)::l,h,t,a,e=>by
  rw[aq]at e;split at e
  ·rename_i M;subst M;simp at e;subst e;exact h.1
  ·exact qb h.2 t a e
section
variable {P : Program} {X : Ctx}
theorem AK.SA {f:FuncId} {n:Nat} {β:jH} {R:Ending->World->Prop} {K:List Item} {env:Env} {bs:List (Nat×List AV)} {ts:List (Nat×Nat)} {us:List Nat}
  (env':Env) (bs':List (Nat×List AV)) (ts':List (Nat×Nat)) (us':List Nat)
  (B:Dn env env') (p:Sz bs bs') (M:Jv ts ts') (h1:Ym us' env'=true) (h2:okB us' bs'=true) (V:Yn us' ts'=true)
  (h:AK P X f n β R K env' ⟨bs',ts',us'⟩):AK P X f n β R K env ⟨bs,ts,us⟩:=by
 intro g w a cs N;refine h (g.only us') w a cs ⟨⟨N.inv.oF,?_,?_,?_,?_,?_,?_⟩,N.q8,?_,?_,N.size,N.defers⟩
 ·intro k x e;obtain⟨q,m2⟩:=qH h2 k x e;obtain⟨b,A,E,e3,e4⟩:=N.inv.box k x (oq p k x e);refine⟨b,by simp[Gh.only,q,A],E,e3,?_⟩;have T:∀(l:List AV) (o:Nat),yR us' l=true->cy w g b o l->cy w (g.only us') b o l:=by
   intro l
   induction l with
   | nil=>intro _ _ _;trivial
   | cons y l ih =>
    intro o h1 h2;simp only[yR]at h1;split at h1
    ·rename_i Y;obtain⟨⟨u,U,Q,I⟩,f4,f5⟩:=h2;exact⟨⟨u,U,L9 Y Q,I⟩,f4,ih (o+1) h1 f5⟩
    ·simp at h1
  exact T x 0 m2 e4
 ·intro k k' x D b e e' A E;simp only[Gh.only,(qH h2 k x e).1,(qH h2 k' D e').1,if_true]at A E;exact N.inv.fF k k' x D b (oq p k x e) (oq p k' D e') A E
 ·intro k m e;obtain⟨fU,A,E⟩:=N.inv.tok k m (qb M k m e);refine⟨fU,by simp[Gh.only,yS V k m e,A],fun b S W hr=>?_⟩;obtain⟨U,Q,I⟩:=E b S W hr;refine⟨U,Q,fun k' x e'=>?_⟩;simp only[Gh.only,(qH h2 k' x e').1,if_true];exact I k' x (oq p k' x e')
 ·intro k k' m C b S W O J e e' A E;simp only[Gh.only,yS V k m e,yS V k' C e',if_true]at A E;exact N.inv.gA k k' m C b S W O J (qb M k m e) (qb M k' C e') A E
 ·intro k e;simp only[Gh.only]at e;rw[<- mem_iff (l:=us')];by_cases G:mem k us'=true
  ·exact G
  ·simp[G]at e
 ·intro k x b e A o;simp only[Gh.only,(qH h2 k x e).1,if_true]at A;exact N.inv.room k x b (oq p k x e) A o
 ·intro t x e;rcases Dp B t x e with hx|⟨y,v,Y,hv,rfl⟩
  ·exact L9 (N5 h1 t x e) (N.env t x hx)
  ·have:=(rY y v _ hv (N.env t y Y)).1;simp only[aJ];exact this
 ·refine N.frame.trans ⟨rfl,rfl,rfl,aam _,fun _ _ _=>rfl,fun _ _ _ _=>⟨rfl,rfl⟩,jm.le.refl _,fun _ _ _ h => .inl h,fun k x b e A=>?_,fun k m b S W e A=>?_,fun k _ h=>?_⟩
  ·simp only[Gh.only,(qH h2 k x e).1,if_true]at A;exact .inr ⟨k,x,oq p k x e,A⟩
  ·simp only[Gh.only,yS V k m e,if_true]at A;exact .inr ⟨k,m,S,W,qb M k m e,A,aam _,aam _⟩
  ·cases H:ak k bs' with
   | none=>exact absurd H h
   | some x=>exact⟨by rw[oq p k x H];simp,by simp[Gh.only,(qH h2 k x H).1],rfl⟩
end
end Go.cu
namespace Go.cu
abbrev kn:List Nat:=[0,1,2,3,4,5,6,7,8,9,10,11,12,13,14,15,16,17,18,19,20,21,22,23,24,25,26,27,28,29,30,31,32,33,34,35,36,37,38,39,40,41,42,43,44,45,46,47,48,49,50,51,52,53,54,55,56,57,58,59,60,61,62,63,64,65,66,67,68,69]
inductive Xp where
 | at(K:List Item) (env:Env)
 | stuck
def qc (X:Ctx) (n:Nat) (W:List (Nat×List AV)):Nat->List Item->Env->Xp
 | 0,K,env => .at K env
 | m+1,K,env=>match K with
  | .code (.seq x y)::K'=>qc X n W m (.code x :: .code y::K') env
  | .code .skip::K'=>qc X n W m K' env
  | .code (.block id c)::K'=>qc X n W m (.code c :: .inBlock id::K') env
  | .inBlock _::K'=>qc X n W m K' env
  | .code (.exit id)::K'=>match exitTo id K' with
   | some Y=>qc X n W m Y env
   | none => .at K env
  | .code (.region _ ops false)::K'=>match qV ops n with
   | true=>match uX X ops.toList W [] 500 ops.toList env []with
    | .at [] env' _=>qc X n W m K' env'
    | _ => .at K env
   | false => .at K env
  | _ => .at K env
def LI (X:Ctx) (n:Nat) (W:List (Nat×List AV)) (m:Nat) (K:List Item) (env:Env):Xp:=match K with
 | .code (.seq x y)::K'=>qc X n W m (.code x :: .code y::K') env
 | .code .skip::K'=>qc X n W m K' env
 | .code (.block id c)::K'=>qc X n W m (.code c :: .inBlock id::K') env
 | .inBlock _::K'=>qc X n W m K' env
 | .code (.exit id)::K'=>match exitTo id K' with
  | some Y=>qc X n W m Y env
  | none => .stuck
 | .code (.region _ ops false)::K'=>match qV ops n with
  | true=>match uX X ops.toList W [] 500 ops.toList env []with
   | .at [] env' _=>qc X n W m K' env'
   | _ => .stuck
  | false => .stuck
 | _ => .stuck
section
variable {P : Program} {X : Ctx} {f : FuncId} {n : Nat} {β : jH} {R : Ending -> World -> Prop}
theorem AK.Zx (hX:cC P X) (u:P.follows .mixedOrders=true) {id:Nat} {ops:Array Oper} {K:List Item} {env env':Env} {σ:St} {acc:List Fp} (H:qV ops n=true)
  (h:uX X ops.toList σ.boxes [] 500 ops.toList env [] = .at [] env' acc) (k:AK P X f n β R K env' σ):AK P X f n β R (.code (.region id ops false)::K) env σ :=
 AK.region u H (ai.run hX 500 [] h (ai.done k))
theorem r9 (hX:cC P X) (Y:P.follows .mixedOrders=true) {σ:St}:∀(m:Nat) {K u:List Item} {env env':Env},qc X n σ.boxes m K env = .at u env' ->
  AK P X f n β R u env' σ->AK P X f n β R K env σ:=by
 intro m
 induction m with
 | zero=>intro K u env env' h k;simp[qc]at h;obtain⟨rfl,rfl⟩:=h;exact k
 | succ m S =>
  intro K u env env' h k;have stop:Xp.at K env = .at u env'->AK P X f n β R K env σ:=by simp_all
  simp only[qc]at h;split at h
  ·exact AK.seq (S h k)
  ·exact AK.skip (S h k)
  ·exact AK.block (S h k)
  ·exact AK.inBlock (S h k)
  ·split at h
   ·rename_i e;exact AK.exit e (S h k)
   ·exact stop h
  ·split at h
   ·rename_i H;split at h
    ·rename_i e;exact AK.Zx hX Y H e (S h k)
    ·exact stop h
   ·exact stop h
  ·exact stop h
theorem AK.Lw (hX:cC P X) (u:P.follows .mixedOrders=true) {σ:St} (m:Nat) {K Y:List Item} {env env':Env} (h:LI X n σ.boxes m K env = .at Y env')
  (k:AK P X f n β R Y env' σ):AK P X f n β R K env σ:=by
 unfold LI at h;split at h
 ·exact AK.seq (r9 hX u m h k)
 ·exact AK.skip (r9 hX u m h k)
 ·exact AK.block (r9 hX u m h k)
 ·exact AK.inBlock (r9 hX u m h k)
 ·split at h
  ·rename_i e;exact AK.exit e (r9 hX u m h k)
  ·simp at h
 ·split at h
  ·rename_i H;split at h
   ·rename_i e;exact AK.Zx hX u H e (r9 hX u m h k)
   ·simp at h
  ·simp at h
 ·simp at h
theorem AK.again {K:List Item} {env:Env} {bs:List (Nat×List AV)} {ts:List (Nat×Nat)} {us:List Nat} {env':Env} {bs':List (Nat×List AV)} {ts':List (Nat×Nat)} {us':List Nat}
  (h:AK P X f n β R K env' ⟨bs',ts',us'⟩) (Y:Dn env env') (p:Sz bs bs') (M:Jv ts ts') (h1:Ym us' env'=true) (h2:okB us' bs'=true) (V:Yn us' ts'=true) :
  AK P X f n β R K env ⟨bs,ts,us⟩:=AK.SA env' bs' ts' us' Y p M h1 h2 V h
theorem AK.eM {C:Code} {K:List Item} {env:Env} {bs:List (Nat×List AV)} {ts:List (Nat×Nat)} {us:List Nat} {α:Type} (I:α->Prop) (W:α->Nat)
  (E:α->Env) (B:α->List (Nat×List AV)) (T:α->List (Nat×Nat)) (U:List Nat) (Y:α) (A:I Y)
  (S:Dn env (E Y)) (p:Sz bs (B Y)) (M:Jv ts (T Y)) (h1:Ym U (E Y)=true) (h2:okB U (B Y)=true) (Q:Yn U (T Y)=true)
  (step:∀x,I x->(∀y,I y->W y<W x->AK P X f n β R (.inLoop C::K) (E y) ⟨B y,T y,U⟩)->AK P X f n β R (.code C :: .inLoop C::K) (E x) ⟨B x,T x,U⟩) :
  AK P X f n β R (.code (.loop C)::K) env ⟨bs,ts,us⟩:=by
 refine AK.loop (AK.SA (E Y) (B Y) (T Y) U S p M h1 h2 Q ?_);have V:∀(m:Nat) (x:α),W x<m->I x->AK P X f n β R (.code C :: .inLoop C::K) (E x) ⟨B x,T x,U⟩:=by
  intro m
  induction m with
  | zero=>intro x O;omega
  | succ m N =>
   intro x O J;exact step x J fun y H G=>AK.inLoop (N y bn H)
 exact V (W Y+1) Y bn A
end
section
variable {P : Program} {X : Ctx} {ops : Array Oper} {o : Oper} {rest : List Oper} {env : Env} {σ : St} {acc : List Fp} {Q : Env -> St -> List Fp -> Prop}
theorem bW.index (hX:cC P X) {t:TypeId} {x ix:Operand} (ho:o.op = .indexAddr t x ix) {i j:TI} {e:Nat} (hi:X.ti t=some i) (hk:i.kind = .slice e) (hj:X.ti e=some j)
  {a:AV} {s:Nat} {rows:List CV} (ha:aK X env x=some a) (hr:rowsOf a=some (s,rows)) (hs:Nat.beq s j.size=true) {k:IntKind} {z:Int} (hz:aK X env ix=some (.c (.int k z)))
  {m:Nat} (hm:z=m) {r:CV} (hrow:rows[m]?=some r):bW P X o env σ (.c (.ip r.cells)) (fun σ=>σ) ⟨[],[]⟩:=by
 intro cW σ1 w g act next Q h1 h2 hinv cD di hnext
 have xI:aK X cW x=some a:=by rw[h1 x gY];exact ha
 have Xa:aK X cW ix=some (.c (.int k z)):=by rw[h1 ix gY];exact hz
 obtain⟨base,len,cap,e1,e2,_,e3⟩:=Dd hr (cz (a:=act) di cD xI)
 have e4:=Bb (cz (a:=act) di cD Xa)
 have hlt:m<rows.length:=(List.getElem?_eq_some_iff.1 hrow).1
 obtain⟨d,jo,ie,_⟩:=hX.run_underlying (w:=w) hi
 rw[hk]at ie;simp only[eG]at ie;subst ie
 have Ye:=beq_true hs
 rcases e3 with rfl|⟨b,o',rfl,fP⟩
 ·simp at hlt
 ·have hg:=(fP.get m r hrow).1
  have hrun:(execOp act.eval o).run P w = .ok (.value (.pointer (some ⟨b,o'+m*j.size,none⟩))) w:=by
   obtain⟨dst,op,type,pos,after,guard⟩:=o
   simp only at ho;subst ho
   simp[execOp,e1,e4,hm,Instr.indexAt,asIntOf,jo,e2,hlt,hX.run_sizeOf hj,Addr.add_lit]
  unfold Oper.wp
  rw[hrun,Oper.upon_value]
  refine hnext _ w g ?_ hinv (gW.refl _ _ _) (Gh.le.refl _)
  simp only[aJ,Rel]
  exact⟨b,_,rfl,by rw[<- Ye];exact hg⟩
theorem ai.index (hX:cC P X) (hg:cV ops.toList kn env o=some true) {t:TypeId} {x ix:Operand} (ho:o.op = .indexAddr t x ix) {d:Nat} (hd:o.dst=some d)
  {i j:TI} {e:Nat} (hi:X.ti t=some i) (hk:i.kind = .slice e) (hj:X.ti e=some j)
  {a:AV} {s:Nat} {rows:List CV} (ha:aK X env x=some a) (hr:rowsOf a=some (s,rows)) (hs:Nat.beq s j.size=true) {k:IntKind} {z:Int} (hz:aK X env ix=some (.c (.int k z)))
  (m:Nat) (hm:z=m) {r:CV} (hrow:rows[m]?=some r) {cs:List CV} (hcs:r.cells=cs) (k:ai P X ops rest ((d,.c (.ip cs))::env) σ (⟨[],[]⟩::acc) Q) :
  ai P X ops (o::rest) env σ acc Q:=by
 subst hcs
 exact ai.step (dx hg) (bW.index hX ho hi hk hj ha hr hs hz hm hrow) (gX.id _) rj
end
end Go.cu
namespace Go.cu
def si (s:Nat) (v:CV):Bool:=match v with
 | .gB _=>false
 | .undef=>false
 | .agg cs=>Nat.beq cs.length s
 | _=>Nat.beq 1 s
def iq (s:Nat):List CV->Bool
 | []=>true
 | v::l=>match si s v with
  | true=>iq s l
  | false=>false
theorem qI {s:Nat} {v:CV} (h:si s v=true) {G:jm} {u:Value} (hr:Rel G v u):v.cells.length=s/\bO G v.cells u.cells.toList/\v.cells.all CV.one=true:=by
 have one:∀(v:CV) (u:Value),v.one=true->Rel G v u->u.cells.toList=[u]:=by
  intro v u ho hr
  cases v<;>simp only[Rel]at hr<;>simp[CV.one]at ho
  case int=>subst hr;rfl
  case bool=>subst hr;rfl
  case str=>subst hr;rfl
  case lI=>subst hr;rfl
  case sl=>obtain⟨_,_,_,rfl,_⟩:=hr;rfl
  case ip=>obtain⟨_,_,rfl,_⟩:=hr;rfl
  case rK=>obtain⟨_,rfl,_⟩:=hr;rfl
  case any=>cases u<;>first|rfl|exact absurd rfl (hr.1 _)
  case qF=>obtain⟨_,rfl⟩:=hr;rfl
 have fin:∀(v:CV),v.one=true->v.cells=[v]->Rel G v u->Nat.beq 1 s=true->v.cells.length=s/\bO G v.cells u.cells.toList/\v.cells.all CV.one=true:=by
  intro v ho hc hr hs
  rw[hc,one v u ho hr]
  exact⟨beq_true hs,by simp only[bO];exact⟨u,[],rfl,hr,rfl⟩,by simp[ho]⟩
 cases v with
 | gB=>simp[si]at h
 | undef=>simp[si]at h
 | agg cs =>
  simp only[si]at h
  simp only[Rel]at hr
  obtain⟨vs,rfl,h1,h2⟩:=hr
  exact⟨beq_true h,by simpa[CV.cells,Value.cells]using h1,h2⟩
 | int=>exact fin _ rfl rfl hr h
 | bool=>exact fin _ rfl rfl hr h
 | str=>exact fin _ rfl rfl hr h
 | lI=>exact fin _ rfl rfl hr h
 | sl=>exact fin _ rfl rfl hr h
 | ip=>exact fin _ rfl rfl hr h
 | rK=>exact fin _ rfl rfl hr h
 | any=>exact fin _ rfl rfl hr h
 | qF=>exact fin _ rfl rfl hr h
theorem nR {s:Nat}:∀{l:List CV},iq s l=true->∀v∈l,si s v=true
 | [],_,v,h=>by simp at h
 | x::l,h,v,T=>by
  simp only[iq]at h;split at h
  ·rename_i O;rcases List.mem_cons.1 T with rfl|T
   ·exact O
   ·exact nR h v T
  ·simp at h
def flat (s:Nat):List Value->List Value
 | []=>[]
 | v::l=>v.cells.toList++flat s l
theorem ff.of_flat {G:jm} {s b:Nat}:∀{rows:List CV} {vs:List Value} {o:Nat},iq s rows=true->bO G rows vs->(∀(j:Nat) u,(flat s vs)[j]?=some u->G b (o+j)=some u)->ff G s b o rows
 | [],vs,o,_,_,_=>by simp[ff]
 | r::rows,vs,o,Y,hr,hG=>by
  simp only[iq]at Y;split at Y
  ·rename_i W;simp only[bO]at hr;obtain⟨u,us,rfl,h1,h2⟩:=hr;obtain⟨V,J,U⟩:=qI W h1;obtain⟨E,p⟩:=bO.get J;simp only[flat]at hG;simp only[ff];refine⟨(yL G b o r).2 (cO.jS fun j c P=>?_),V,ff.of_flat Y h2 fun j M A=>?_⟩
   ·grind
   ·have:=hG (s+j) M (by rw[List.getElem?_append_right bn];rw[show s+j-u.cells.toList.length=j from by omega];exact A);rwa[show o+(s+j)=o+s+j from by omega]at this
  ·simp at Y
section
variable {P : Program} {X : Ctx}
theorem Xq {w:World} {g:Gh} {σ:St} (hinv:Inv w g σ) (us:Array Value) (t:TypeId) :
  let g':Gh:=⟨fun b o=>if b=w.heap.size then us[o]? else g.G b o,g.box,g.tok,g.room⟩
  let w':World:={w with heap:=w.heap.push (.cells us t)}
  Inv w' g' σ/\gW w g σ w' g' σ/\g.le g':=by
 intro g' w'
 have hold:∀b o,b<w.heap.size->w'.cell? ⟨b,o,none⟩=w.cell? ⟨b,o,none⟩/\w'.frozen? ⟨b,o,none⟩=w.frozen? ⟨b,o,none⟩:=by
  intro b o hb
  exact⟨World.cell?_alloc_old w _ ⟨b,o,none⟩ Mp,World.frozen?_alloc_old w _ ⟨b,o,none⟩ Mp⟩
 have hsz:w'.heap.size=w.heap.size+1:=by simp[w']
 have Hf:∀b o v,g.G b o=some v->b<w.heap.size:=fun b o v h=>World.block_lt_of_cell? w ⟨b,o,none⟩ (hinv.oF b o v h)
 have hle:g.le g':=by
  refine⟨fun b o v h=>?_,fun _ _ h=>h,fun _ _ _=>rfl,fun k hw fU h=>⟨hw,fU,h,aam _,fun _=>rfl⟩⟩
  have:=Hf b o v h
  simp only[g'];rw[if_neg bn];exact h
 have Hj:∀b o,b<w.heap.size->g'.G b o=g.G b o:=by grind
 refine⟨⟨?_,?_,hinv.fF,?_,hinv.gA,hinv.used,hinv.Aa fun k cs b _ _ hb o=>hold b o hb⟩,⟨rfl,rfl,rfl,bn,fun b hb _=>by show(w.heap.push _)[b]?=_;rw[Array.getElem?_push,if_neg bn],fun b o hb _=>hold b o hb,hle.1,?_,?_,?_,?_⟩,hle⟩
 ·intro b o v h
  simp only[g']at h
  split at h
  ·rename_i hb;subst hb
   have:=World.cell?_alloc_new w us t o
   rw[show(w.alloc (.cells us t))=w' from rfl]at this
   rw[this];exact h
  ·rw[(hold b o (Hf b o v h)).1];exact hinv.oF b o v h
 ·intro k cs e
  obtain⟨b,h1,h2,h3,h4⟩:=hinv.box k cs e
  exact⟨b,h1,bn,fun o=>by rw[Hj b o h2];exact h3 o,(cy.of_same (fun o=>hold b o h2) h4).mono hle⟩
 ·intro k n e
  obtain⟨fU,h1,h2⟩:=hinv.tok k n e
  refine⟨fU,h1,fun b lo hi hr=>?_⟩
  obtain⟨h3,h4,h5⟩:=h2 b lo hi hr
  refine⟨bn,fun o IK Lq=>?_,h5⟩
  obtain⟨h6,⟨u,h7⟩,h8⟩:=h4 o IK Lq
  exact⟨by rw[Hj b o h3];exact h6,⟨u,(hold b o h3).1.trans h7⟩,(hold b o h3).2.trans h8⟩
 ·grind
 ·grind
 ·grind
 ·grind
def iK (ρ:Operand->Option AV):Nat->List (Nat×Operand)->Option (List CV)
 | _,[]=>some []
 | i,(j,x)::l=>match Nat.beq j i,ρ x with
  | true,some a=>match close a with
   | some v=>match iK ρ (i+1) l with
    | some r=>some (v::r)
    | none=>none
   | none=>none
  | _,_=>none
theorem qd {ρ Y:Operand->Option AV}:∀(l:List (Nat×Operand)) (i:Nat),(∀p∈l,Y p.2=ρ p.2)->iK Y i l=iK ρ i l
 | [],_,_=>rfl
 | (j,x)::l,i,h=>by
  simp only[iK,h (j,x) cn,qd l (i+1) (fun p T=>h p (by simp[T]))]
theorem va {g:Gh} {ρ:Operand->Option AV} {ev:Operand->Value} (W:∀x v,ρ x=some v->aJ g v (ev x)):∀{l:List (Nat×Operand)} {i:Nat} {rows:List CV},
  iK ρ i l=some rows->bO g.G rows (l.map fun p=>ev p.2)/\(l.map fun(j,x)=>(j,ev x))=((l.map fun p=>ev p.2).zipIdx i).map fun(v,j)=>(j,v)
 | [],i,rows,h=>by simp[iK]at h;subst h;simp[bO]
 | (j,x)::l,i,rows,h=>by
  simp only[iK]at h;split at h
  ·rename_i a P O;split at h
   ·rename_i v T;split at h
    ·rename_i r I;simp at h;subst h;obtain⟨h1,h2⟩:=va W I;have:=beq_true P;subst this;refine⟨by simp only[List.map_cons,bO];exact⟨_,_,rfl,(rY a v _ T (W x a O)).1,h1⟩,?_⟩;simp only[List.map_cons,List.zipIdx_cons,h2]
    ·simp at h
   ·simp at h
  ·simp at h
theorem Ao (s:Nat):∀(vals:List Value) (k:Nat) (arr:Array Value),(∀v∈vals,v.cells.size=s)->(k+vals.length)*s<=arr.size ->
  ∃res,Instr.fill (fun i=>some (i*s,s)) arr ((vals.zipIdx k).map fun(v,j)=>(j,v))=some res/\res.size=arr.size /\
   ∀(j:Nat),res[j]?=if k*s<=j/\j<k*s+(flat s vals).length then(flat s vals)[j-k*s]? else arr[j]?
 | [],k,arr,_,_=>⟨arr,by simp[Instr.fill],rfl,fun j=>by simp[flat];intros;omega⟩
 | v::vals,k,arr,h1,h2=>by
  have hv:=h1 v cn
  have hks:(k+1)*s=k*s+s:=Nat.succ_mul k s
  have Ap:(k+1+vals.length)*s<=arr.size:=by simp at h2;rwa[show k+1+vals.length=k+(vals.length+1)from by omega]
  have hfit:k*s+s<=arr.size:=by grind
  obtain⟨f1,f2⟩:=De (k*s) v.cells.toList 0 arr j0
  obtain⟨res,r1,r2,r3⟩:=Ao s vals (k+1) _ (fun x hx=>h1 x (by simp[hx])) (by rw[f1];exact Ap)
  refine⟨res,?_,by rw[r2,f1],fun j=>?_⟩
  ·simp only[List.zipIdx_cons,List.map_cons,Instr.fill]
   rw[if_neg j0]
   have So:v.cells.zipIdx.foldl (fun cs (c,j)=>cs.setIfInBounds (k*s+j) c) arr =
     (v.cells.toList.zipIdx 0).foldl (fun(cs:Array Value) (p:Value×Nat)=>cs.setIfInBounds (k*s+p.2) p.1) arr:=by
    rw[<- Array.foldl_toList];simp
   rw[So];exact r1
  ·rw[r3,f2]
   have hl:v.cells.toList.length=s:=by simpa using hv
   simp only[flat,aax,hks,hl,Nat.add_zero]
   by_cases c1:k*s+s<=j/\j<k*s+s+(flat s vals).length
   ·grind
   ·grind
theorem bW.buildSlice (hX:cC P X) {o:Oper} {env:Env} {σ:St} {t:TypeId} {len:Nat} {parts:Array (Nat×Operand)} (ho:o.op = .buildSlice t len parts)
  {i j:TI} {e:Nat} (hi:X.ti t=some i) (hk:i.kind = .slice e) (hj:X.ti e=some j) {za:AV} (hz:j.zero=some za) {rows:List CV} (hp:iK (aK X env) 0 parts.toList=some rows)
  (hl:Nat.beq rows.length len=true) (hs:iq j.size rows=true) (hb:Nat.ble (len*j.size) 16777216=true) :
  bW P X o env σ (.own .exact j.size rows) (fun σ=>σ) ⟨[],[]⟩:=by
 intro cW σ1 w g act next Q h1 h2 hinv cD di hnext
 have yG:iK (aK X cW) 0 parts.toList=some rows:=by
  rw[qd _ _ (fun p hp=>h1 p.2 B3)];exact hp
 obtain⟨c1,c2⟩:=va (g:=g) (ev:=act.eval) (fun x v hx=>cz di cD hx) yG
 have hlen:=beq_true hl
 have hne:j.size≠0:=by obtain⟨_,_,_,_,_,_,hh⟩:=hX.ti e j hj;exact hh
 obtain⟨d,jo,ie,_⟩:=hX.run_underlying (w:=w) hi
 rw[hk]at ie;simp only[eG]at ie;subst ie
 obtain⟨z,z1,z2,z3⟩:=hX.lK (w:=w) hj hz
 have hcs:∀v∈(parts.toList.map fun p=>act.eval p.2),v.cells.size=j.size:=by
  intro v hv
  obtain⟨m,hm⟩:=List.getElem?_of_mem hv
  obtain⟨l1,l2⟩:=bO.get c1
  have hml:m<rows.length:=by rw[l1];exact(List.getElem?_eq_some_iff.1 hm).1
  obtain⟨u,e1,e2⟩:=l2 m rows[m] (by simp[hml])
  rw[hm]at e1;simp at e1;subst e1
  obtain⟨a1,a2,_⟩:=qI (nR hs rows[m] (List.getElem_mem hml)) e2
  have:=(bO.get a2).1
  simp at this;omega
 have hvl:(parts.toList.map fun p=>act.eval p.2).length=len:=by rw[<- (bO.get c1).1];exact hlen
 obtain⟨res,r1,r2,r3⟩:=Ao j.size (parts.toList.map fun p=>act.eval p.2) 0 ((Array.range (len*j.size)).map (z.cells[· % z.cells.size]!)) hcs (by simp at hvl ⊢;rw[hvl];exact aam _)
 have hrun:(execOp act.eval o).run P w = .ok (.value (.slice (some ⟨w.heap.size,0,none⟩) len len)) {w with heap:=w.heap.push (.cells res e)}:=by
  obtain⟨dst,op,type,pos,after,guard⟩:=o
  simp only at ho;subst ho
  have zG:¬(2^24<len*j.size):=by have:=Nat.le_of_ble_eq_true hb;omega
  have JG:∀zc:Array Value,(Array.range (len*j.size)).map (fun x=>zc[x%zc.size]!)=(Array.range (len*j.size)).map (fun x=>z.cells[x%z.cells.size]!) ->
    Instr.fill (fun i=>some (i*j.size,j.size)) ((Array.range (len*j.size)).map (fun x=>zc[x%zc.size]!)) (parts.map fun x=>(x.1,act.eval x.2)).toList=some res:=by
   intro zc q2
   rw[q2,Array.toList_map]
   have Zy:(parts.toList.map fun x=>(x.1,act.eval x.2))=_:=c2
   rw[Zy];exact r1
  simp only[execOp,Instr.buildSlice,Sem.run_bind,jo,Result.andThen_ok,hX.run_sizeOf hj]
  rw[if_neg (by simpa using zG)]
  by_cases h0:len*j.size=0
  ·rw[if_pos h0]
   simp only[Sem.run_bind,Sem.run_pure,Result.andThen_ok]
   rw[JG #[] (by rw[h0];simp)]
   simp[newRow]
  ·rw[if_neg h0]
   simp only[Sem.run_bind,Sem.run_pure,Result.andThen_ok,z1]
   rw[JG z.cells rfl]
   simp[newRow]
 unfold Oper.wp
 rw[hrun,Oper.upon_value]
 obtain⟨i1,i2,i3⟩:=Xq hinv res e
 refine hnext _ _ _ ?_ i1 i2 i3
 simp only[aJ]
 refine⟨_,_,_,rfl,hlen.symm,aam _,?_,rfl⟩
 right
 refine⟨w.heap.size,0,rfl,ff.of_flat hs (bO.mono i3.1 _ _ c1) fun m u hu=>?_⟩
 simp only[if_true,Nat.zero_add]
 have hm:m<(flat j.size (parts.toList.map fun p=>act.eval p.2)).length:=(List.getElem?_eq_some_iff.1 hu).1
 rw[r3 m,if_pos bn]
 simpa using hu
end
section
variable {P : Program} {X : Ctx} {ops : Array Oper} {o : Oper} {rest : List Oper} {env : Env} {σ : St} {acc : List Fp} {Q : Env -> St -> List Fp -> Prop}
theorem ai.buildSlice (hX:cC P X) (kn:List Nat) (hg:cV ops.toList kn env o=some true) {t:TypeId} {len:Nat} {parts:Array (Nat×Operand)} (ho:o.op = .buildSlice t len parts) {d:Nat} (hd:o.dst=some d)
  {i j:TI} {e:Nat} (hi:X.ti t=some i) (hk:i.kind = .slice e) (hj:X.ti e=some j) {za:AV} (hz:j.zero=some za) {rows:List CV} (hp:iK (aK X env) 0 parts.toList=some rows)
  (hl:Nat.beq rows.length len=true) {s:Nat} (hsz:j.size=s) (hs:iq s rows=true) (hb:Nat.ble (len*s) 16777216=true)
  (k:ai P X ops rest ((d,.own .exact s rows)::env) σ (⟨[],[]⟩::acc) Q):ai P X ops (o::rest) env σ acc Q:=by
 subst hsz
 exact ai.step (dx hg) (bW.buildSlice hX ho hi hk hj hz hp hl hs hb) (gX.id _) rj
end
end Go.cu
namespace Go.cu
open Go.ChangeShapes Go.WideShapes Go.RowKit
def mE (w:World):jm:=fun b o=>w.cell? ⟨b,o,none⟩
section
variable {H : Type} {enc : TypeId × Value -> H} {P : Program} {W : World} {B : DataW H -> Nat}
def RD (enc:TypeId×Value->H) (P:Program) (W:World) (B:DataW H->Nat) (n:Nat) (t:TypeId) (R:CV->Nat->Prop):Prop :=
 ∀Y,Y<=n->∀cs x,DataW.trod enc P W 0 (fun _=>true) true Y t cs=some x ->
  ∃c:CV,bO (mE W) c.cells cs/\c.cells.all CV.one=true/\R c (B x.1)
theorem RD.mono {n m:Nat} {t:TypeId} {R V:CV->Nat->Prop} (h:RD enc P W B n t R) (u:m<=n) (J:∀c k,R c k->V c k):RD enc P W B m t V :=
 fun Y hf cs x O=>by
  obtain⟨c,h1,h2,U⟩:=h Y (Nat.le_trans hf u) cs x O;exact⟨c,h1,h2,J _ _ U⟩
theorem RD.zero {t:TypeId} {R:CV->Nat->Prop}:RD enc P W B 0 t R:=fun Y hf cs x O=>by
 obtain rfl:Y=0:=by omega
 simp[DataW.trod]at O
structure xw (B:DataW H->Nat):Prop where
 lit:∀l,1<=B (.lit l)
 str:∀s,s.length+1<=B (.lit (.string s))
 nil:1<=B .nil
 slice:∀l r,(l.map B).sum+1<=B (.slice l r)
 agg:∀l,(l.map B).sum+1<=B (.agg l)
theorem RD.int (hB:xw B) {n:Nat} {t:TypeId} {k:IntKind} (hu:P.underlying t=some (.int k)) :
  RD enc P W B n t fun c m=>∃z,c = .int k z/\(Lit.int k z).wf=true/\1<=m:=fun fuel hf cs x hx=>by
 obtain⟨z,rfl,rfl,hw⟩:=DataW.trod_int hu hx
 exact⟨.int k z,WV,u7,z,rfl,hw,hB.lit _⟩
theorem RD.bool (hB:xw B) {n:Nat} {t:TypeId} (hu:P.underlying t=some .bool) :
  RD enc P W B n t fun c m=>∃z,c = .bool z/\1<=m:=fun fuel hf cs x hx=>by
 obtain⟨z,rfl,rfl⟩:=DataW.trod_bool hu hx
 exact⟨.bool z,WV,u7,z,rfl,hB.lit _⟩
theorem RD.str (hB:xw B) {n:Nat} {t:TypeId} (hu:P.underlying t=some .string) :
  RD enc P W B n t fun c m=>∃s,c = .str s/\s.length+1<=m:=fun fuel hf cs x hx=>by
 obtain⟨s,rfl,rfl,hw⟩:=DataW.trod_string hu hx
 exact⟨.str s.data.toList,WV,u7,_,rfl,hB.str _⟩
def uz (R:CV->Nat->Prop):List CV->Nat->Prop
 | [],m=>0<=m
 | r::rs,m=>∃k u,R r k/\uz R rs u/\k+u<=m
theorem uz.le {R:CV->Nat->Prop}:∀{l:List CV} {m u:Nat},uz R l m->m<=u->uz R l u
 | [],_,_,_,_=>Nat.zero_le _
 | _::_,_,_,⟨k,D,h1,h2,V⟩,Y=>⟨k,D,h1,h2,Nat.le_trans V Y⟩
theorem RD.slice (hB:xw B) {n:Nat} {t e:TypeId} {s:Nat} (hu:P.underlying t=some (.slice e)) (hs:P.cellsOf e=s) (h0:0<s) {R:CV->Nat->Prop} (h:RD enc P W B n e R) :
  RD enc P W B (n+1) t fun c m=>∃rows,c = .sl s rows/\∃m',uz R rows m'/\m'+1<=m:=fun fuel hf cs x hx=>by
 subst hs
 rcases DataW.trod_slice hu hx with ⟨rfl,rfl⟩|⟨a,len,cap,elems,rest,n',rfl,rfl,rfl,_,hl,hc,hlen,hel,_,_⟩
 ·refine⟨.sl _ [],?_,u7,[],rfl,0,aam _,by simpa using hB.nil⟩
  simp only[CV.cells,bO]
  refine⟨_,_,rfl,?_,rfl⟩
  simp only[Rel]
  exact⟨none,0,0,rfl,rfl,aam _,.inl trivial⟩
 ·have hs:elems=[]\/∃b o,a=⟨b,o,none⟩:=by
   cases elems with
   | nil=>exact .inl rfl
   | cons y l =>
    right
    have Xr:=hel 0 (by simp at hlen;omega)
    simp only[List.getElem?_cons_zero,Option.bind_eq_some_iff]at Xr
    obtain⟨vs,hvs,hy⟩:=Xr
    obtain⟨_,hvl,hcell⟩:=World.cells?_some hvs
    obtain⟨b,o,spot⟩:=a
    have g0:=hcell 0 h0
    obtain⟨v0,Pr⟩:∃v0,vs[0]?=some v0:=by
     cases vs with
     | nil=>simp at hvl;omega
     | cons v _=>exact⟨v,rfl⟩
    rw[Pr]at g0
    have h9:=World.cell?_spot g0
    have Zz:spot=none:=by simpa[Addr.add]using h9
    exact⟨b,o,by rw[Zz]⟩
  have key:∀(b o:Nat),a=⟨b,o,none⟩->∀(l:List (DataW H×List MemPlace)) (k:Nat),(∀i,i<l.length->(W.cells? 0 (a.add ((k+i)*P.cellsOf e)) (P.cellsOf e)).bind (DataW.trod enc P W 0 (fun _=>true) true n' e)=l[i]?) ->
    ∃rows,rows.length=l.length/\uz R rows ((l.map fun x=>B x.1).sum)/\ff (mE W) (P.cellsOf e) b (o+k*P.cellsOf e) rows:=by
   intro b o hab l
   subst hab
   induction l with
   | nil=>intro k _;exact⟨[],rfl,by simp[uz],by simp[ff]⟩
   | cons y l ih =>
    intro k hk
    obtain⟨rows,h1,h2,h4⟩:=ih (k+1) fun i hi=>by
     have:=hk (i+1) j0
     rw[show k+1+i=k+(i+1)from by omega];simpa using this
    have Xr:=hk 0 cn
    simp only[Nat.add_zero,List.getElem?_cons_zero,Option.bind_eq_some_iff]at Xr
    obtain⟨vs,hvs,hy⟩:=Xr
    obtain⟨c,c1,c2,c3⟩:=h n' bn vs y hy
    obtain⟨_,hvl,hcell⟩:=World.cells?_some hvs
    refine⟨c::rows,QZ,⟨_,_,c3,h2,cn⟩,?_⟩
    simp only[ff]
    refine⟨(yL _ _ _ _).2 (cO.jS fun j cj hj=>?_),by rw[(bO.get c1).1,hvl],?_⟩
    ·obtain⟨u,V4,Uq⟩:=(bO.get c1).2 j cj hj
     refine⟨u,?_,Uq,List.all_eq_true.1 c2 cj (aaz hj)⟩
     have hjl:j<P.cellsOf e:=by rw[<- hvl];exact(List.getElem?_eq_some_iff.1 V4).1
     have:=hcell j hjl
     rw[add_plain,add_plain]at this
     rw[mE,this,V4]
    ·rwa[show o+(k+1)*P.cellsOf e=o+k*P.cellsOf e+P.cellsOf e from by rw[Nat.succ_mul];omega]at h4
  have hBs:(elems.map fun x=>B x.1).sum+1<=B (.slice (elems.map (·.1)) (rest.map (·.1))):=by
   have:=hB.slice (elems.map (·.1)) (rest.map (·.1));rwa[List.map_map]at this
  rcases hs with rfl|⟨b,o,rfl⟩
  ·refine⟨.sl _ [],?_,u7,[],rfl,0,aam _,by simpa using hBs⟩
   simp only[CV.cells,bO]
   refine⟨_,_,rfl,?_,rfl⟩
   simp only[Rel]
   exact⟨_,_,_,rfl,by simpa using hlen.symm,hl,.inl trivial⟩
  ·obtain⟨rows,h1,h2,h4⟩:=key b o rfl elems 0 fun i hi=>by rw[Nat.zero_add];exact hel i bn
   refine⟨.sl _ rows,?_,u7,rows,rfl,_,h2,hBs⟩
   simp only[CV.cells,bO]
   refine⟨_,_,rfl,?_,rfl⟩
   simp only[Rel]
   exact⟨_,_,_,rfl,bn,hl,.inr ⟨b,o,rfl,by simpa using h4⟩⟩
def B2:List (CV->Nat->Prop)->List CV->Nat->Prop
 | [],l,_=>l=[]
 | R::Rs,l,m=>∃c k G u,l=c.cells++G/\R c k/\B2 Rs G u/\k+u<=m
def yT (enc:TypeId×Value->H) (P:Program) (W:World) (B:DataW H->Nat) (n:Nat):Nat->List (Nat×TypeId)->List (CV->Nat->Prop)->Prop
 | o,[],Rs=>Rs=[]
 | o,(J,t)::fs,Rs=>∃R Y,Rs=R::Y/\J=o/\RD enc P W B n t R/\yT enc P W B n (o+P.cellsOf t) fs Y
def kS (P:Program):Nat->List (Nat×TypeId)->Nat
 | o,[]=>o
 | o,(_,t)::fs=>kS P (o+P.cellsOf t) fs
theorem Be {n:Nat} {cs:List Value}:∀(T:List (Nat×TypeId)) (o:Nat) (Rs:List (CV->Nat->Prop)) (xs:List (DataW H×List MemPlace)),yT enc P W B n o T Rs ->
  (∀(i:Nat) (J:Nat) (t:TypeId),T[i]?=some (J,t)->DataW.trod enc P W 0 (fun _=>true) true n t ((cs.drop J).take (P.cellsOf t))=xs[i]?)->xs.length=T.length->cs.length=kS P o T ->
  ∃l,bO (mE W) l (cs.drop o)/\l.all CV.one=true/\B2 Rs l ((xs.map fun x=>B x.1).sum)
 | [],o,Rs,xs,Y,hx,hl,V=>by
  simp only[yT]at Y;subst Y;simp only[kS]at V;exact⟨[],by simp[bO,V],cn,by simp[B2]⟩
 | (J,t)::T,o,Rs,[],Y,hx,hl,V=>by simp at hl
 | (J,t)::T,o,Rs,x::xs,Y,hx,hl,V=>by
  simp only[yT]at Y;obtain⟨R,U,rfl,rfl,D,Y⟩:=Y;simp only[kS]at V;have A:=hx 0 J t cn;simp only[List.getElem?_cons_zero]at A;obtain⟨c,S,E,Q⟩:=D n (aam _) _ _ A;obtain⟨l,O,p,K⟩:=Be T _ U xs Y (fun i N M I=>by simpa using hx (i+1) N M (by simpa using I)) (by simpa using hl) V;refine⟨c.cells++l,?_,by rw[List.all_append,E,p];rfl,c,_,l,_,rfl,Q,K,cn⟩;have:=eZ S O;rwa[<- List.drop_drop,List.take_append_drop]at this
theorem RD.struct (Q:xw B) {n:Nat} {t:TypeId} {T:Array Field} (A:P.underlying t=some (.struct T)) {V:List (Nat×TypeId)} (U:T.toList.map (fun f=>(f.offset,f.type))=V)
  {Rs:List (CV->Nat->Prop)} (H:∀m,m<=n->yT enc P W B m 0 V Rs) (Y:P.cellsOf t=kS P 0 V) :
  RD enc P W B (n+1) t fun c m=>∃l,c = .agg l/\∃u,B2 Rs l u/\u+1<=m:=fun S hf cs x O=>by
 obtain⟨xs,N,rfl,rfl,C,M,K⟩:=DataW.trod_struct A O;subst U
 obtain⟨l,E,p,J⟩:=Be (cs:=cs) _ 0 Rs xs (H N bn) (fun i D G I=>by
  simp only[List.getElem?_map,Option.map_eq_some_iff]at I;obtain⟨f,hf,Y⟩:=I;simp only[Prod.mk.injEq]at Y;obtain⟨rfl,rfl⟩:=Y
  exact K i f (by simpa using hf)) (by simpa using M) (C.trans Y)
 refine⟨.agg l,by simpa[CV.cells]using E,by simpa[CV.cells]using p,l,rfl,_,J,?_⟩;have:=Q.agg (xs.map (·.1));rwa[List.map_map]at this
def Hl (R:CV->Nat->Prop):Nat->List CV->Nat->Prop
 | 0,l,_=>l=[]
 | n+1,l,m=>∃c k G u,l=c.cells++G/\R c k/\Hl R n G u/\k+u<=m
theorem RD.array (hB:xw B) {n:Nat} {t e:TypeId} {len:Nat} (hu:P.underlying t=some (.array len e)) (he:P.cellsOf t=len*P.cellsOf e) {R:CV->Nat->Prop} (h:RD enc P W B n e R) :
  RD enc P W B (n+1) t fun c m=>∃l,c = .agg l/\∃m',Hl R len l m'/\m'+1<=m:=fun fuel hf cs x hx=>by
 have hx':∃(xs:List (DataW H×List MemPlace)) (m:Nat),fuel=m+1/\x=(.agg (xs.map (·.1)),xs.flatMap (·.2))/\cs.length=P.cellsOf t/\xs.length=len /\
   ∀(i:Nat),i<len->DataW.trod enc P W 0 (fun _=>true) true m e ((cs.drop (i*P.cellsOf e)).take (P.cellsOf e))=xs[i]?:=by
  cases fuel with
  | zero=>simp[DataW.trod]at hx
  | succ m =>
   unfold DataW.trod at hx
   rw[hu]at hx
   split at hx<;>simp_all
   obtain⟨hl,xs,hp,hd⟩:=hx
   exact⟨xs,hd.symm,by simpa using mapM_some_length hp,fun i hi=>mapM_some_get hp i i (by simp[hi])⟩
 obtain⟨xs,m,rfl,rfl,hl,T5,ke⟩:=hx'
 have key:∀(ys:List (DataW H×List MemPlace)) (k:Nat),(∀i,i<ys.length->DataW.trod enc P W 0 (fun _=>true) true m e ((cs.drop ((k+i)*P.cellsOf e)).take (P.cellsOf e))=ys[i]?)->cs.length=(k+ys.length)*P.cellsOf e ->
   ∃l,bO (mE W) l (cs.drop (k*P.cellsOf e))/\l.all CV.one=true/\Hl R ys.length l ((ys.map fun x=>B x.1).sum):=by
  intro ys
  induction ys with
  | nil=>intro k _ hk;exact⟨[],by simp only[bO,List.drop_eq_nil_iff];simp at hk;omega,cn,by simp[Hl]⟩
  | cons y ys ih =>
   intro k hk hle
   obtain⟨l,l1,l2,l3⟩:=ih (k+1) (fun i hi=>by
    have:=hk (i+1) j0
    rw[show k+1+i=k+(i+1)from by omega];simpa using this) (by rw[hle];congr 1;simp;omega)
   have h0:=hk 0 cn
   simp only[Nat.add_zero,List.getElem?_cons_zero]at h0
   obtain⟨c,c1,c2,c3⟩:=h m bn _ _ h0
   refine⟨c.cells++l,?_,by rw[List.all_append,c2,l2];rfl,c,_,l,_,rfl,c3,l3,cn⟩
   have:=eZ c1 l1
   rwa[Nat.succ_mul,<- List.drop_drop,List.take_append_drop]at this
 obtain⟨l,l1,l2,l3⟩:=key xs 0 (fun i hi=>by rw[Nat.zero_add];exact ke i bn) (by rw[hl,he,T5,Nat.zero_add])
 rw[T5]at l3
 refine⟨.agg l,by simpa[CV.cells]using l1,by simpa[CV.cells]using l2,l,rfl,_,l3,?_⟩
 have:=hB.agg (xs.map (·.1));rwa[List.map_map]at this
theorem tL {R:CV->Nat->Prop} {t:TypeId} {v:Value} {d:DataW H} {p:List MemPlace} {T:Nat} {r:Reach} {S:Array Field} (A:P.underlying t=some (.struct S)) (V:∀n,RD enc P W B n t R)
  (Q:DataW.Trod enc P W 0 (fun _=>true) true t v d p) (hok:Value.okWide P W r T t v) (J:∀c k,R c k->∃l,c = .agg l):∃c,Rel (mE W) c v/\R c (B d):=by
 obtain⟨Y,hf⟩:=Q;obtain⟨c,h1,h2,U⟩:=V Y Y (aam _) _ _ hf;refine⟨c,?_,U⟩;obtain⟨l,rfl⟩:=J _ _ U;obtain⟨cs,rfl,_⟩:=okWide_struct A hok;simp only[CV.cells,Value.cells]at h1 h2;simp only[Rel];exact⟨_,rfl,h1,h2⟩
theorem qB {R:CV->Nat->Prop} {t e:TypeId} {v:Value} {d:DataW H} {p:List MemPlace} {T:Nat} {r:Reach} (A:P.underlying t=some (.slice e)) (V:∀n,RD enc P W B n t R)
  (S:DataW.Trod enc P W 0 (fun _=>true) true t v d p) (hok:Value.okWide P W r T t v) (J:∀c k,R c k->∃s l,c = .sl s l):∃c,Rel (mE W) c v/\R c (B d):=by
 obtain⟨Y,hf⟩:=S;obtain⟨c,h1,h2,U⟩:=V Y Y (aam _) _ _ hf;refine⟨c,?_,U⟩;obtain⟨s,l,rfl⟩:=J _ _ U;obtain⟨a,Q,E,rfl⟩:=okWide_slice A hok;simp only[CV.cells,Value.cells,bO]at h1;obtain⟨u,us,D,q,rfl⟩:=h1;simp at D;subst D;exact q
theorem W5 (W:World):∀b o v,mE W b o=some v->W.cell? ⟨b,o,none⟩=some v:=fun _ _ _ h=>h
theorem Ho {w:World} {Y:Nat->Bool}:DataW.TrodVars enc P w Y [] [] []:=by simp[DataW.TrodVars]
theorem LO {f:Func} {s:ChangeSpec} {V K U again:Bool} {Q:World} {G G':jm} {args:Array Value} {v:Value} {S gs:List (DataW H)} {before:List MemPlace}
  (A:DataW.Whole enc P f.params.toList s.vars V W args.toList S gs before) (Y:s.vars=[])
  (hl:laidOutB P=true) (hm:mapsRowed P=true) (hz:∀t e,t<P.types.size->P.underlying t=some (.slice e)->0<P.cellsOf e) (hT:∀t∈f.params.toList,t<P.types.size)
  (E:JE W G Q G') {tb:TypeId} (hr:f.resultTypes = #[tb]) (hb:P.underlying tb=some .bool) {b:Bool} (hv:v = .bool b)
  (J:s.fn H (S++gs)={results:=[.lit (.bool b)],args:=S}):s.post enc P f V K U again W args v Q:=by
 subst hv;have B:=A.lt;have u:=A;obtain⟨p,q,hA,hV,rfl,hfz,hnd⟩:=A;rw[Y]at hV;obtain⟨rfl,rfl⟩:=trodVars_none hV;simp only[List.append_nil]at *;have I:∀x∈p,W.sameAt Q x:=by
  intro x O;have:=E.block x.block (B x O);cases x with
  | cell D off=>simp only[World.sameAt,World.cell?];simp only[MemPlace.block]at this;rw[this]
  | map D=>exact this
 have T:∀N:Nat->Bool,(∀x∈p,N x.block=true)->DataW.TrodAll enc P Q 0 N true f.params.toList args.toList S p:=by
  intro N hsp;have h1:=DataW.TrodAll.respare (kids_rows hl hm) hz hT hA hsp;have:∀(ts:List TypeId) (vs:List Value) (S:List (DataW H)) (C:List MemPlace),DataW.TrodAll enc P W 0 N true ts vs S C->(∀x∈C,W.sameAt Q x)->DataW.TrodAll enc P Q 0 N true ts vs S C:=by
   intro ts
   induction ts with
   | nil=>intro vs S C h _;obtain⟨rfl,rfl,rfl⟩:=trodAll_nil h;rfl
   | cons t ts ih =>
    intro vs S C h hs;obtain⟨v,vs',d,ds',p1,q1,rfl,rfl,rfl,⟨n,h2⟩,h3⟩:=trodAll_cons h;exact⟨p1,q1,⟨n,DataW.trod_carry n _ _ _ h2 fun x O=>hs x (List.mem_append_left _ O)⟩,ih _ _ _ h3 fun x O=>hs x (List.mem_append_right _ O),rfl⟩
  exact this _ _ _ _ h1 I
 have M:∀(b0:Nat) (N:Nat->Bool) (hd:Bool),DataW.TrodAll enc P Q b0 N hd f.resultTypes.toList ((Value.bool b).resultList f.resultTypes.size) [.lit (.bool b)] []:=by
  intro b0 N hd;rw[hr];exact trodAll_mk1 (shut_bool hb b)
 have ZA:W.keptBut Q (· ∈ p):=by
  refine⟨E.os,E.output,fun i hi=>?_⟩;rw[E.block i hi];cases W.heap[i]? with
  | none=>simp
  | some o=>cases o<;>simp
 refine⟨S,[],p,[],p,[],by simpa using u,by simp only[List.append_nil,J];exact M _ _ _,by simp only[List.append_nil,J];exact T _ fun x O=>by simpa using B x O,
  by simp only[List.append_nil,J,Y];rfl,World.keptBut_mono (fun x O=>⟨O,.inr (.inl O)⟩) ZA,fun _=>?_⟩
 refine⟨ok_one hr rfl (okWide_bool_mk hb b),_,_,([]++p)++[],⟨[]++p,[],trodAll_append (T _ (fun _ _=>rfl)) (M _ _ _),(by rw[Y];exact Ho),rfl,?_,?_⟩,?_⟩
 ·intro D off hp;have yG:MemPlace.cell D off∈p:=by simpa using hp
  rw[(E.kept D off (B _ yG)).2];exact hfz D off (by simpa using yG)
 ·simp_all
 ·simp_all
end
end Go.cu
namespace Go.cu
section
variable {P : Program} {X : Ctx} {ops : Array Oper} {o : Oper} {rest : List Oper} {env : Env} {σ : St} {acc : List Fp} {Q : Env -> St -> List Fp -> Prop}
theorem ai.look (hX:cC P X) (kn:List Nat) (Y:cV ops.toList kn env o=some true) {d:Nat} (H:o.dst=some d) {v:AV} (T:gM X σ.boxes (aK X env) o.op=some v)
  (I:lM (aK X env) o.op=[]) (k:ai P X ops rest ((d,v)::env) σ (⟨[],[]⟩::acc) Q):ai P X ops (o::rest) env σ acc Q:=by
 have:=ai.step (Q:=Q) (rest:=rest) (acc:=acc) (dx Y) (bW.pure (σ:=σ) hX T) (gX.id _);rw[H,I]at this;exact this k
theorem ai.quo (hX:cC P X) (kn:List Nat) (W:cV ops.toList kn env o=some true) {t V:TypeId} {x y:Operand} (Y:o.op = .binOp .quo t x y V) {d:Nat} (H:o.dst=some d) {i:TI} (I:X.ti t=some i)
  {q:IntKind} {a b:Int} (O:aK X env x=some (.c (.int q a))) (T:aK X env y=some (.c (.int q b))) (D:sameKind q q=true) (p:b≠0)
  (k:ai P X ops rest ((d,.c (.int q (q.wrap (a.tdiv b))))::env) σ (⟨[],[]⟩::acc) Q):ai P X ops (o::rest) env σ acc Q:=by
 refine ai.look hX kn W H ?_ ?_ k
 ·rw[Y];simp only[gM,I,O,T,L1,D,Sj];have:(b==0)=false:=by simpa using p
  rw[this]
 ·rw[Y];rfl
theorem ai.rem (hX:cC P X) (kn:List Nat) (W:cV ops.toList kn env o=some true) {t V:TypeId} {x y:Operand} (Y:o.op = .binOp .rem t x y V) {d:Nat} (H:o.dst=some d) {i:TI} (I:X.ti t=some i)
  {q:IntKind} {a b:Int} (O:aK X env x=some (.c (.int q a))) (T:aK X env y=some (.c (.int q b))) (D:sameKind q q=true) (p:b≠0)
  (k:ai P X ops rest ((d,.c (.int q (a.tmod b)))::env) σ (⟨[],[]⟩::acc) Q):ai P X ops (o::rest) env σ acc Q:=by
 refine ai.look hX kn W H ?_ ?_ k
 ·rw[Y];simp only[gM,I,O,T,L1,D,Sj];have:(b==0)=false:=by simpa using p
  rw[this]
 ·rw[Y];rfl
theorem ai.shr (hX:cC P X) (kn:List Nat) (W:cV ops.toList kn env o=some true) {t V:TypeId} {x y:Operand} (Y:o.op = .binOp .shr t x y V) {d:Nat} (H:o.dst=some d) {i:TI} (I:X.ti t=some i)
  {q U:IntKind} {a b:Int} (O:aK X env x=some (.c (.int q a))) (T:aK X env y=some (.c (.int U b))) {n:Nat} (p:b=n)
  (k:ai P X ops rest ((d,.c (.int q (a.fdiv (2^(min n q.bits)))))::env) σ (⟨[],[]⟩::acc) Q):ai P X ops (o::rest) env σ acc Q:=by
 refine ai.look hX kn W H ?_ ?_ k
 ·subst p;rw[Y];simp only[gM,I,O,T,L1,Ac]
 ·rw[Y];rfl
theorem ai.shl (hX:cC P X) (kn:List Nat) (W:cV ops.toList kn env o=some true) {t V:TypeId} {x y:Operand} (Y:o.op = .binOp .shl t x y V) {d:Nat} (H:o.dst=some d) {i:TI} (I:X.ti t=some i)
  {q U:IntKind} {a b:Int} (O:aK X env x=some (.c (.int q a))) (T:aK X env y=some (.c (.int U b))) {n:Nat} (p:b=n)
  (k:ai P X ops rest ((d,.c (.int q (q.wrap (a*2^(min n q.bits)))))::env) σ (⟨[],[]⟩::acc) Q):ai P X ops (o::rest) env σ acc Q:=by
 refine ai.look hX kn W H ?_ ?_ k
 ·subst p;rw[Y];simp only[gM,I,O,T,L1,Ac]
 ·rw[Y];rfl
end
end Go.cu
namespace Go.cu
def RP:Char:=Char.ofNat 32
def UI (l:List Nat):List Char:=l.map Char.ofNat
theorem tc (b:List Char):∀(a:List Char),(a.all fun c=>c != RP)=true->wordsSigns (a++RP::b)=a::wordsSigns b
 | [],_=>rfl
 | c::a,h=>by
  simp only[List.all_cons,aaj,bne_iff_ne,ne_eq]at h;have S:=tc b a h.2;rw[List.cons_append,wordsSigns]
  ·rw[S]
  ·exact h.1
theorem RQ {P:Program} {a b c:List Char} {d:List Char} (h:P.initOrder=String.ofList (a++RP::(b++RP::(c++RP::d)))) (p:(a.all fun c=>c != RP)=true) (Y:(b.all fun c=>c != RP)=true) (E:(c.all fun c=>c != RP)=true)
  (H:∀T,behindMainWord (a::b::T)=T):∃T,behindMainWord (wordsSigns P.initOrder.toList)=c::T:=by
 refine⟨wordsSigns d,?_⟩;rw[h,String.toList_ofList,tc _ _ p,tc _ _ Y,tc _ _ E,H]
theorem UJ {P : Program} {c : List Char} (h : ∃ T, behindMainWord (wordsSigns P.initOrder.toList) = c :: T) (h1 : (c == "gc".toList || c == "spec".toList) = false) (h2 : (c == "cut".toList) = true) : P.make = some .cut := by
 obtain⟨T,h⟩:=h;unfold Program.make;rw[h];simp only[h1,h2,Bool.true_or,if_true];rfl
theorem JH {c:List Char} (T:List (List Char)) (W:(liftWords.all fun o=>c != o.toList)=true):stripLifts liftWords (c::T)=([],c::T):=by
 have Y:∀(l:List String),(l.all fun o=>c != o.toList)=true->stripLifts l (c::T)=([],c::T):=by
  intro l
  induction l with
  | nil=>intro _;rfl
  | cons o l S =>
   intro h;simp only[List.all_cons,aaj,bne_iff_ne,ne_eq]at h;simp only[stripLifts];rw[if_neg (by simpa using h.1)];exact S h.2
 exact Y _ W
theorem SB {P : Program} {c : List Char} (h : ∃ T, behindMainWord (wordsSigns P.initOrder.toList) = c :: T) (hs : (liftWords.all fun o => c != o.toList) = true) (h2 : (c == "cut".toList) = true) : P.headLifts = [] := by
 obtain⟨T,h⟩:=h;have Ap : c = "cut".toList := eq_of_beq h2;unfold Program.headLifts;rw[h,JH T hs];simp[Ap]
theorem RT {P : Program} {c : List Char} (h : ∃ T, behindMainWord (wordsSigns P.initOrder.toList) = c :: T) (hs : (liftWords.all fun o => c != o.toList) = true) (h2 : (c == "cut".toList) = true) (h3 : (c == "carried".toList) = false) : P.liftsFinal = false := by
 have h4:=SB h hs h2;obtain⟨T,h⟩:=h;unfold Program.liftsFinal;rw[h4,h];have h5 : (some c == some "carried".toList) = false := by rw [← h3]; rfl
 simp only[List.head?_cons,h5,Bool.false_and,Bool.false_or];rfl
theorem RU {P : Program} {c : List Char} (h : ∃ T, behindMainWord (wordsSigns P.initOrder.toList) = c :: T) (hs : (liftWords.all fun o => c != o.toList) = true) (h2 : (c == "cut".toList) = true)
  (h5:P.laysLater=false) (h6:P.bearsReflect=false) (h7:P.doorFits []=true):P.mayEnter=true:=by
 obtain⟨T,h⟩:=h;have Ap : c = "cut".toList := eq_of_beq h2;unfold Program.mayEnter;rw[h];simp only[JH T hs,h5,h6,h7];simp[Ap]
theorem PJ {P:Program} {f:FuncId} {T:Func} {s:ChangeSpec} {c:OpenClaim} (B:c.wf (OpenSpec.ofChange s)=true) (A:laidOutB P=true) (u:mapsRowed P=true)
  (q:T.params.all (P.readableRec ·)=true) (p:namedTie P c.named s.vars=true)
  (k6:(c.stops==[])=true) (k7:(P.stops==[])=true) (k8:(c.knobs==[])=true) (k9:(P.stopKnobs==[])=true)
  (U:(c.inPlace==P.inPlace f)=true) (S:(c.unfollowed==P.unfollowed f)=true) (Q:(c.recurses==P.recurses f)=true) (O:(c.named==P.varsNamed f)=true)
  (Y:((c.maps==(T.params.toList++s.plain.varTypes P).any (P.mapsRec ·))&&(c.ifaces==(T.params.toList++s.plain.varTypes P).any (P.ifacesRec ·))&&(c.mapsOut==P.mapsAmong T.resultTypes.toList))=true)
  (W:((c.loops==(T.params.toList++s.plain.varTypes P).any (P.loopsFrom ·))&&(c.wideKeys==(T.params.toList++s.plain.varTypes P++T.resultTypes.toList).any (P.wideKeysFrom ·)))=true)
  (V:(s.vars.all (P.varReadable ·)&&T.resultTypes.all (fun t=>P.readableRec t&&decide (t<P.types.size))&&(c.ifacesOut==T.resultTypes.toList.any (P.ifacesRec ·))&&(c.loopsOut==T.resultTypes.toList.any (P.loopsFrom ·)))=true)
  (N:(c.plainKeys==P.plainKeys)=true) (M:c.shortTexts.isNone=true) (K:P.stopsHeard=true) (J:P.mayEnter=true) (I:(c.lifted==P.liftsFinal)=true) (H:(P.make==some c.make)=true)
  (G:(c.kinds==(if c.domain.isEmpty then []else T.params.toList.map fun t=>match P.underlying t with|some (.int k)=>some k|_=>none))=true) (E:(c.pinned==c.pinnedBy)=true)
  (D:(c.veiled==(T.params.toList++s.plain.varTypes P++T.resultTypes.toList).any (P.veiledRec ·))=true) (C:c.veiledFits P T.params.toList (T.params.toList++s.plain.varTypes P++T.resultTypes.toList)=true) :
  joinedFacts P f T s c=true:=by
 simp only[aaj]at Y W V;unfold joinedFacts;simp only[aaj];exact⟨⟨⟨⟨⟨⟨⟨⟨⟨⟨⟨⟨⟨⟨⟨⟨⟨⟨⟨⟨⟨⟨⟨⟨⟨⟨⟨⟨⟨⟨⟨B,A⟩,u⟩,q⟩,p⟩,k6⟩,k7⟩,k8⟩,k9⟩,U⟩,S⟩,Q⟩,O⟩,Y.1.1⟩,Y.1.2⟩,Y.2⟩,W.1⟩,W.2⟩,V.1.1.1⟩,V.1.1.2⟩,V.1.2⟩,V.2⟩,N⟩,M⟩,K⟩,J⟩,I⟩,H⟩,G⟩,E⟩,D⟩,C⟩
end Go.cu
