/- A layer of abstract values over the model, part B: A row of operations done in whatever order the edges allow. Many looking operations at once. The rest of a function, as one judgement; calls with closed arguments. Calls whose arguments and results are closed values; new boxes. New boxes, and stores -/
import Derived.Test.YtlohbilpimjmmaaGreatDoorLibA
import Derived.RowKit
import Derived.ReadAgain
import Derived.JoinedOf
set_option linter.unusedSimpArgs false
set_option linter.unusedVariables false
namespace Go.cq
theorem tf {ops:Array Oper} {Y:List Fp} (h:pN ops Y=true) {i:Nat} {o:Oper} (p:ops[i]?=some o):∀e∈nU o,e<i:=by
 have W:i<ops.size:=by grind
 simp only[pN,List.all_eq_true,List.mem_range,aai]at h;intro e P;have:=(h i W).1 e (by simpa[p]using P);simpa[Nat.blt_eq]using this
theorem JN {ops:Array Oper} {Y:List Fp} (h:pN ops Y=true) {i j:Nat} (W:i<ops.size) (V:j<i) :
  ((SH ops).getD i 0).testBit j=true\/indep ops j i (Y.getD j ⟨[],[]⟩) (Y.getD i ⟨[],[]⟩)=true:=by
 simp only[pN,List.all_eq_true,List.mem_range,aai,aat]at h;exact(h i W).2 j V
theorem FU {ops:Array Oper} {i j:Nat} {o:Oper} (p:ops[i]?=some o) (h:((SH ops).getD i 0).testBit j=true) :
  ∃e∈nU o,e=j\/((SH ops).getD e 0).testBit j=true:=by
 have W:i<ops.size:=by grind
 obtain⟨e,h1,h2⟩:=Dl (ops.toList.map nU) [] i c9 (by simpa using W) j h;refine⟨e,?_,h2⟩;simp only[aad,Nat.sub_zero,List.getD,List.getElem?_map,Array.getElem?_toList,p]at h1;simpa using h1
theorem JO {ops:Array Oper} {T:List Fp} (H:pN ops T=true) {Y:Array Bool}
  (S:∀i o,Y.getD i false=true->ops[i]?=some o->∀e∈nU o,Y.getD e false=true) :
  ∀(n i:Nat),i<=n->∀o,ops[i]?=some o->(∀e∈nU o,Y.getD e false=true)->∀j,((SH ops).getD i 0).testBit j=true->Y.getD j false=true:=by
 intro n
 induction n with
 | zero =>
  intro i I o p P j V;obtain⟨e,h1,h2⟩:=FU p V;have:=tf H p e h1;omega
 | succ n Q =>
  intro i I o p P j V;obtain⟨e,h1,h2⟩:=FU p V;rcases h2 with rfl|h2
  ·exact P _ h1
  ·have C:=tf H p e h1;have J:=P e h1;cases W:ops[e]? with
   | none =>
    have I:i<ops.size:=by grind
    rw[Array.getElem?_eq_none_iff]at W;omega
   | some U=>exact Q e bn U W (S e U J W) j h2
theorem Aq {ops:Array Oper} {Y:Array Bool} {i:Nat}:i∈Region.ready .any ops Y ↔
  i<ops.size/\Y.getD i true=false/\∃o,ops[i]?=some o/\∀e∈nU o,Y.getD e false=true:=by
 unfold Region.ready;simp only[List.mem_filter,List.mem_range,aai,Bool.not_eq_true'];constructor
 ·rintro⟨h1,h2,V⟩;refine⟨h1,h2,?_⟩;cases p:ops[i]? with
  | none=>rw[p]at V;simp at V
  | some o =>
   refine⟨o,rfl,?_⟩;rw[p]at V;simp only[Option.map_some,Option.getD_some,Array.all_eq_true']at V;intro e P;simp only[nU,List.mem_filterMap]at P;obtain⟨W,S,T⟩:=P;split at T
   ·grind
   ·simp at T
 ·rintro⟨h1,h2,o,p,V⟩;refine⟨h1,h2,?_⟩;rw[p];simp only[Option.map_some,Option.getD_some,Array.all_eq_true'];intro W U;by_cases G:Region.binds .any W
  ·have:=V W.on (List.mem_filterMap.2 ⟨W,by simpa using U,by simp[G]⟩);simp[this]
  ·simp[G]
theorem uk.any {P:Program} {X:Ctx} {β:jG} {n:Nat} {ops:Array Oper} (hd:qX ops n=true) {EJ:List Fp} (hok:pN ops EJ=true) {Q:Exit->Act->World->Prop} :
  ∀(r:List (Nat×It)) (listed:Array Bool),listed.size=ops.size ->
   (∀i,i∈r.map (·.1)↔i<ops.size/\listed.getD i true=false)->(r.map (·.1)).Pairwise (· < ·) ->
   (∀x∈r,x.2.fp=EJ.getD x.1 ⟨[],[]⟩) ->
   (∀i o,listed.getD i false=true->ops[i]?=some o->∀e∈nU o,listed.getD e false=true) ->
   ∀{env env':Env} {σ σ':St},uk P X ops r env σ env' σ'->∀{g:Gh} {w:World} {a:Act},Live X β n env σ g w a ->
   (∀g' w' a',Live X β n env' σ' g' w' a'->Q .normal a' w')->wpAny P .any ops Q r.length listed a w:=by
 intro r
 generalize hlen:r.length=len
 induction len generalizing r with
 | zero =>
  intro listed hsz hmem ua hfp jT env env' σ σ' hO g w a hL hQ
  have:r=[]:=List.eq_nil_of_length_eq_zero hlen
  subst this
  obtain⟨rfl,rfl⟩:=hO
  refine⟨?_,hQ g w a hL⟩
  apply List.eq_nil_iff_forall_not_mem.2
  intro i hi
  obtain⟨h1,h2,_⟩:=Aq.1 hi
  have:=(hmem i).2 ⟨h1,h2⟩
  simp at this
 | succ len ih =>
  intro listed hsz hmem ua hfp jT env env' σ σ' hO g w a hL hQ
  refine⟨fun Xw=>?_,fun i hi=>?_⟩
  ·exfalso
   cases r with
   | nil=>simp at hlen
   | cons x r =>
    obtain⟨i,it⟩:=x
    have hm:=(hmem i).1 c9
    have ho:∃o,ops[i]?=some o:=⟨ops[i]'hm.1,by simp[hm.1]⟩
    obtain⟨o,ho⟩:=ho
    have:i∈Region.ready .any ops listed:=by
     refine Aq.2 ⟨hm.1,hm.2,o,ho,fun e he=>?_⟩
     have hlt:=tf hok ho e he
     cases hle:listed.getD e true with
     | true =>
      have:e<listed.size:=by omega
      simpa[Array.getD,this]using hle
     | false =>
      have:=(hmem e).2 ⟨bn,hle⟩
      simp only[List.map_cons,List.mem_cons]at this
      rcases this with h|h
      ·omega
      ·simp only[List.map_cons,List.pairwise_cons]at ua
       have:=ua.1 e h
       omega
    rw[Xw]at this
    simp at this
  ·obtain⟨h1,h2,o,ho,h3⟩:=Aq.1 hi
   have hm:=(hmem i).2 ⟨h1,h2⟩
   obtain⟨⟨i',it⟩,hx,rfl⟩:=List.mem_map.1 hm
   simp only at *
   obtain⟨p,q,rfl⟩:=List.append_of_mem hx
   have hidx:∀x∈p,x.1<i':=by
    intro x Zx
    simp only[List.map_append,List.map_cons,List.pairwise_append]at ua
    exact ua.2.2 x.1 (List.mem_map_of_mem Zx) i' c9
   have ab2:∀x∈p,indep ops x.1 i' x.2.fp it.fp=true:=by
    intro x Zx
    have hlt:=hidx x Zx
    rcases JN hok h1 hlt with hb|hb
    ·exfalso
     have:=JO hok jT i' i' (aak _) o ho h3 x.1 hb
     have hm2:=(hmem x.1).1 (by simp;exact .inl ⟨x.2,Zx⟩)
     have ab3:x.1<listed.size:=by omega
     simp[Array.getD,ab3]at this hm2
     rw[this]at hm2;simp at hm2
    ·rw[hfp x (by simp[Zx]),hfp (i',it) c9];exact hb
   obtain⟨e1,s1,e2,s2,g1,g2,g3⟩:=uk.front ab2 hO
   refine g1.wp hd hL fun g' w' a' hL'=>?_
   have Zy:∀k,(listed.setIfInBounds i' true).getD k true=if k=i' then true else listed.getD k true:=by
    intro k
    simp only[Array.getD_eq_getD_getElem?,Array.getElem?_setIfInBounds]
    by_cases hk:i'=k
    ·subst hk;simp[hsz,h1]
    ·rw[if_neg hk,if_neg (fun e=>hk e.symm)]
   have Xx:∀k,(listed.setIfInBounds i' true).getD k false=if k=i' then true else listed.getD k false:=by
    intro k
    simp only[Array.getD_eq_getD_getElem?,Array.getElem?_setIfInBounds]
    by_cases hk:i'=k
    ·subst hk;simp[hsz,h1]
    ·rw[if_neg hk,if_neg (fun e=>hk e.symm)]
   have Zz:i' ∉ (p++q).map (·.1):=by
    intro h
    simp only[List.map_append,List.mem_append]at h
    simp only[List.map_append,List.map_cons,List.pairwise_append,List.pairwise_cons]at ua
    rcases h with h|h
    ·have:=ua.2.2 i' h i' c9;omega
    ·have:=ua.2.1.1 i' h;omega
   refine ih (p++q) (by simp at hlen ⊢;omega) _ (by simpa using hsz) ?_ ?_ ?_ ?_ g2 hL' ?_
   ·intro k
    rw[Zy]
    have hk:=hmem k
    simp only[List.map_append,List.map_cons,List.mem_append,List.mem_cons]at hk ⊢
    by_cases hki:k=i'
    ·subst hki
     simp only[List.map_append,List.mem_append]at Zz
     exact⟨fun h=>absurd h Zz,fun h=>by simp at h⟩
    ·simp only[hki,false_or,if_false]at hk ⊢
     exact hk
   ·simp only[List.map_append,List.map_cons,List.pairwise_append,List.pairwise_cons]at ua ⊢
    exact⟨ua.1,ua.2.1.2,fun a ha b hb=>ua.2.2 a ha b (by simp[hb])⟩
   ·intro x Ys
    exact hfp x (by simp at Ys ⊢;rcases Ys with h|h<;>simp[h])
   ·intro k ok qt hk2 e he
    rw[Xx]at qt ⊢
    by_cases Q0:e=i'
    ·simp[Q0]
    ·rw[if_neg Q0]
     by_cases hki:k=i'
     ·subst hki
      rw[ho]at hk2;simp at hk2;subst hk2
      exact h3 e he
     ·rw[if_neg hki]at qt
      exact jT k ok qt hk2 e he
   ·intro xM w'' a'' ab4
    exact hQ xM w'' a'' (ab4.ext ⟨fun t=>(g3.1 t).symm,fun k=>(g3.2 k).symm⟩)
end Go.cq
namespace Go.cq
def lQ (ρ:Operand->Option AV):Op->List Nat
 | .load _ x=>match ρ x with
  | some (.ptr k _)=>[k]
  | _=>[]
 | _=>[]
theorem va {X:Ctx} {ρ W:Operand->Option AV} (Y:List (Nat×Nat)):∀(H:List (Nat×Operand)) (cells:List AV),(∀p∈H,W p.2=ρ p.2) ->
  sj X W Y H cells=sj X ρ Y H cells
 | [],_,_=>rfl
 | (i,x)::rest,cells,h=>by
  simp only[sj,h (i,x) c9];have S:=fun c=>va (X:=X) Y rest c (fun p A=>h p (by simp[A]));split
  ·simp_all
  ·rfl
theorem jz {ρ Hp:Operand->Option AV}:∀(l:List Operand),(∀x∈l,Hp x=ρ x)->gV Hp l=gV ρ l
 | [],_=>rfl
 | x::l,h=>by
  simp only[gV,h x c9,jz l (fun y hy=>h y (by simp[hy]))]
theorem kJ {ρ Y:Operand->Option AV} (o:Option Operand) (h:∀x,o=some x->Y x=ρ x):bound Y o=bound ρ o:=by
 cases o with
 | none=>rfl
 | some x=>simp only[bound,h x rfl]
theorem JP {X:Ctx} {boxes SI:List (Nat×List AV)} {ρ Hp:Operand->Option AV} {op:Op} (h:∀x∈op.operands.toList,Hp x=ρ x)
  (hb:∀k∈lQ ρ op,ak k SI=ak k boxes):gH X SI Hp op=gH X boxes ρ op:=by
 cases op with
 | move x=>exact h x iq
 | assign x=>exact h x iq
 | pick c a b=>simp only[gH,h c iq,h a iq,h b iq]
 | load t x =>
  have hx:=h x iq
  simp only[gH,hx]
  simp only[lQ]at hb
  cases X.ti t with
  | none=>rfl
  | some i =>
   cases hr:ρ x with
   | none=>rfl
   | some a =>
    rw[hr]at hb
    cases a with
    | ptr k o=>simp only[hb k c9]
    | c v=>cases v<;>rfl
    | _=>rfl
 | nilCheck x=>simp only[gH,h x iq]
 | binOp op t x y yt=>simp only[gH,h x iq,h y iq]
 | unOp op t x=>simp only[gH,h x iq]
 | convert s d x=>simp only[gH,h x iq]
 | fieldAddr t x f=>simp only[gH,h x iq]
 | field t x f=>simp only[gH,h x iq]
 | indexAddr t x i=>simp only[gH,h x iq,h i iq]
 | index t x i=>simp only[gH,h x iq,h i iq]
 | extract x n=>simp only[gH,h x iq]
 | build t parts =>
  have:=fun fs z=>va (X:=X) fs parts.toList z (fun p hp=>h p.2 (by
   simp only[Op.operands,List.mem_map];exact⟨p,hp,rfl⟩))
  simp only[gH,this]
 | slice t x lo hi mx =>
  have h1:=kJ lo (fun y hy=>h y Tp)
  have h2:=kJ hi (fun y hy=>h y Tp)
  have h3:=kJ mx (fun y hy=>h y Tp)
  simp only[gH,h x iq,h1,h2,h3]
 | makeFunc fn first caps =>
  cases fn with
  | func f =>
   have:=jz caps.toList (fun y hy=>h y (by simp only[Op.operands,Array.toList_append,List.mem_append];exact .inr hy))
   simp only[gH,this]
  | _=>rfl
 | call c =>
  obtain⟨callee,args,argTypes⟩:=c
  cases callee with
  | builtin b =>
   have hargs:∀x∈args.toList,Hp x=ρ x:=fun x hx=>h x (by simpa[Op.operands,Call.operands]using hx)
   have hmap:args.toList.map Hp=args.toList.map ρ:=List.map_congr_left hargs
   cases b with
   | len =>
    simp only[gH]
    cases hl:args.toList with
    | nil=>rfl
    | cons x l =>
     rw[hl]at hargs
     have:=hargs x c9
     cases l with
     | cons y l=>rfl
     | nil =>
      cases argTypes.toList with
      | nil=>rfl
      | cons t l' =>
       cases l' with
       | nil=>simp only[this]
       | cons _ _=>rfl
   | min=>simp only[gH,hmap]
   | max=>simp only[gH,hmap]
   | _=>rfl
  | _=>rfl
 | _=>rfl
theorem bU.pure {P:Program} {X:Ctx} (hX:cx P X) {o:Oper} {env:Env} {σ:St} {v:AV} (h:gH X σ.boxes (aL X env) o.op=some v) :
  bU P X o env σ v (fun σ=>σ) ⟨lQ (aL X env) o.op,[]⟩:=by
 intro Y G w g a next Q h1 h2 T W V A;have E:gH X G.boxes (aL X Y) o.op=some v:=by
  rw[JP h1 (fun k D=>(h2 k (.inl D)).1)];exact h
 obtain⟨u,U,S⟩:=JL (P:=P) (w:=w) (g:=g) hX T.oI (fun k cs e=>by
  obtain⟨b,O,_,_,N⟩:=T.box k cs e;exact⟨b,O,N⟩) (ev:=a.eval) (fun x v q=>ct V W q) E
 unfold Oper.wp;rw[U,Oper.upon_value];exact A u w g S T (gQ.refl _ _ _) (Gh.le.refl _)
def ai (P:Program) (X:Ctx) (ops:Array Oper) (rest:List Oper) (env:Env) (σ:St) (acc:List Fp) (Q:Env->St->List Fp->Prop):Prop :=
 ∀i,ops.toList.drop i=rest->∃(Y:List It) (env':Env) (u:St),Y.length=rest.length/\uk P X ops ((List.range' i rest.length).zip Y) env σ env' u /\
  Q env' u (acc.reverse++Y.map It.fp)
section
variable {P : Program} {X : Ctx} {ops : Array Oper} {i : Nat} {o : Oper} {rest : List Oper} {env : Env} {σ : St} {acc : List Fp} {Q : Env -> St -> List Fp -> Prop}
theorem ai.nil (h:Q env σ acc.reverse):ai P X ops [] env σ acc Q :=
 fun _ _=>⟨[],env,σ,rfl,⟨rfl,rfl⟩,nu⟩
theorem FV {ops:Array Oper} (h:ops.toList.drop i=o::rest):ops[i]?=some o/\ops.toList.drop (i+1)=rest:=by
 constructor
 ·have:=Ap h;simpa using this
 ·have:=congrArg List.tail h;simpa[List.tail_drop]using this
theorem ai.step {v:AV} {yp:St->St} {fp:Fp} (hg:qH ops o env) (hs:bU P X o env σ v yp fp) (hE:gR yp fp)
  (k:ai P X ops rest (yZ o.dst v env) (yp σ) (fp::acc) Q):ai P X ops (o::rest) env σ acc Q:=by
 intro i h
 obtain⟨ho,hr⟩:=FV h
 obtain⟨EL,env',σ',h1,h2,h3⟩:=k (i+1) hr
 refine⟨⟨true,v,yp,fp⟩::EL,env',σ',P9,?_,by simpa using h3⟩
 simp only[aac,List.range'_succ,List.zip_cons_cons]
 exact⟨_,_,⟨o,ho,rfl,rfl,hE,.inr ⟨rfl,hg,hs⟩⟩,h2⟩
theorem ai.skip (hg:pX ops o env) (k:ai P X ops rest (yZ o.dst (.c .undef) env) σ (⟨[],[]⟩::acc) Q):ai P X ops (o::rest) env σ acc Q:=by
 intro i h
 obtain⟨ho,hr⟩:=FV h
 obtain⟨EL,env',σ',h1,h2,h3⟩:=k (i+1) hr
 refine⟨It.skip::EL,env',σ',P9,?_,by simpa[It.skip]using h3⟩
 simp only[aac,List.range'_succ,List.zip_cons_cons]
 exact⟨_,_,⟨o,ho,rfl,rfl,gR.id _,.inl ⟨rfl,hg⟩⟩,h2⟩
def simple:Op->Bool
 | .indexAddr _ _ _=>false
 | .index _ _ _=>false
 | .slice _ _ _ _ _=>false
 | .binOp .quo _ _ (.tmp _) _=>false
 | .binOp .rem _ _ (.tmp _) _=>false
 | .binOp .shl _ _ (.tmp _) _=>false
 | .binOp .shr _ _ (.tmp _) _=>false
 | _=>true
def mem (k:Nat):List Nat->Bool
 | []=>false
 | x::l=>match Nat.beq x k with
  | true=>true
  | false=>mem k l
def cU (T:List Oper) (kn:List Nat) (env:Env) (o:Oper):Option Bool :=
 match o.guard with
 | none=>some true
 | some (j,Y)=>match mem j kn with
  | false=>none
  | true=>match nth T j with
   | none=>none
   | some W=>match W.dst with
    | none=>none
    | some d=>match ak d env with
     | some (.c (.bool b))=>match Y with
      | true=>some b
      | false=>some (!b)
     | some (.c .undef)=>some false
     | _=>none
def ab5 (ks:List Nat) (acc:List Fp):List Fp:=match ks with
 | []=>⟨[],[]⟩::acc
 | k::l=>⟨k::l,[]⟩::acc
inductive Xy where
 | at(rest:List Oper) (env:Env) (acc:List Fp)
 | stuck
def ve (X:Ctx) (T:List Oper) (K:List (Nat×List AV)) (kn:List Nat):Nat->List Oper->Env->List Fp->Xy
 | 0,rest,env,acc => .at rest env acc
 | _+1,[],env,acc => .at [] env acc
 | n+1,o::rest,env,acc=>match simple o.op with
  | false => .at (o::rest) env acc
  | true=>match cU T kn env o with
   | none => .at (o::rest) env acc
   | some false=>match o.dst with
    | some d=>ve X T K kn n rest ((d,.c .undef)::env) (⟨[],[]⟩::acc)
    | none=>ve X T K kn n rest env (⟨[],[]⟩::acc)
   | some true=>match gH X K (aL X env) o.op with
    | none => .at (o::rest) env acc
    | some v=>match o.dst,lQ (aL X env) o.op with
     | some d,[]=>ve X T K kn n rest ((d,v)::env) (⟨[],[]⟩::acc)
     | some d,k::l=>ve X T K kn n rest ((d,v)::env) (⟨k::l,[]⟩::acc)
     | none,ks=>ve X T K kn n rest env (⟨ks,[]⟩::acc)
theorem sr {kn:List Nat} {b:Bool} (h:cU ops.toList kn env o=some b):if b then qH ops o env else pX ops o env:=by
 unfold cU at h;unfold qH pX;split at h
 ·simp_all
 ·rename_i j W E;simp only[E];split at h
  ·simp at h
  ·split at h
   ·simp at h
   ·rename_i V Y;split at h
    ·simp at h
    ·rename_i d p;have G:pW ops j=some d:=by
      rw[rD]at Y;simp only[pW];rw[<- Array.getElem?_toList,Y];simp[p]
     split at h
     ·grind
     ·simp_all
     ·simp at h
theorem ai.run (hX:cx P X) (n:Nat) (kn:List Nat):∀{rest:List Oper} {env:Env} {acc:List Fp} {Y:List Oper} {env':Env} {W:List Fp},
  ve X ops.toList σ.boxes kn n rest env acc = .at Y env' W->ai P X ops Y env' σ W Q->ai P X ops rest env σ acc Q:=by
 induction n with
 | zero=>intro rest env acc Y env' W h k;simp[ve]at h;obtain⟨rfl,rfl,rfl⟩:=h;exact k
 | succ n S =>
  intro rest env acc Y env' W h k;cases rest with
  | nil=>simp[ve]at h;obtain⟨rfl,rfl,rfl⟩:=h;exact k
  | cons o rest =>
   have stop:Xy.at (o::rest) env acc = .at Y env' W->ai P X ops (o::rest) env σ acc Q:=by simp_all
   simp only[ve]at h;split at h
   ·exact stop h
   ·split at h
    ·exact stop h
    ·rename_i E;have:=sr E;simp at this;split at h
     ·rename_i d p;refine ai.skip this ?_;rw[p];exact S h k
     ·rename_i p;refine ai.skip this ?_;rw[p];exact S h k
    ·rename_i E;have:=sr E;simp at this;split at h
     ·exact stop h
     ·rename_i v V;have u:ai P X ops rest (yZ o.dst v env) σ (⟨lQ (aL X env) o.op,[]⟩::acc) Q->ai P X ops (o::rest) env σ acc Q :=
       ai.step this (bU.pure hX V) (gR.id _)
      split at h
      ·rename_i d p D;rw[p,D]at u;exact u (S h k)
      ·rename_i d k' l p D;rw[p,D]at u;exact u (S h k)
      ·rename_i p;rw[p]at u;exact u (S h k)
def Fx (X:Ctx) (T:List Oper) (K:List (Nat×List AV)) (kn:List Nat) (n:Nat) (rest:List Oper) (env:Env) (acc:List Fp):Xy :=
 match rest with
 | [] => .stuck
 | o::rest=>match cU T kn env o with
  | none => .stuck
  | some false=>match o.dst with
   | some d=>ve X T K kn n rest ((d,.c .undef)::env) (⟨[],[]⟩::acc)
   | none=>ve X T K kn n rest env (⟨[],[]⟩::acc)
  | some true=>match gH X K (aL X env) o.op with
   | none => .stuck
   | some v=>match o.dst,lQ (aL X env) o.op with
    | some d,[]=>ve X T K kn n rest ((d,v)::env) (⟨[],[]⟩::acc)
    | some d,k::l=>ve X T K kn n rest ((d,v)::env) (⟨k::l,[]⟩::acc)
    | none,ks=>ve X T K kn n rest env (⟨ks,[]⟩::acc)
theorem ai.LM (hX:cx P X) (n:Nat) (kn:List Nat) {env:Env} {acc:List Fp} {Y:List Oper} {env':Env} {W:List Fp}
  (h:Fx X ops.toList σ.boxes kn n rest env acc = .at Y env' W) (k:ai P X ops Y env' σ W Q):ai P X ops rest env σ acc Q:=by
 unfold Fx at h;split at h
 ·simp at h
 ·rename_i o rest;split at h
  ·simp at h
  ·rename_i E;have:=sr E;simp at this;refine ai.skip this ?_;split at h<;>rename_i p<;>rw[p]<;>exact ai.run hX n kn h k
  ·rename_i E;have:=sr E;simp at this;split at h
   ·simp at h
   ·rename_i v V;have u:ai P X ops rest (yZ o.dst v env) σ (⟨lQ (aL X env) o.op,[]⟩::acc) Q->ai P X ops (o::rest) env σ acc Q :=
     ai.step this (bU.pure hX V) (gR.id _)
    split at h
    ·rename_i d p D;rw[p,D]at u;exact u (ai.run hX n kn h k)
    ·rename_i d k' l p D;rw[p,D]at u;exact u (ai.run hX n kn h k)
    ·rename_i p;rw[p]at u;exact u (ai.run hX n kn h k)
def Hq (Y:Option Nat):List Oper->Nat
 | []=>1
 | o::rest=>match o.guard with
  | none=>Hq Y rest+1
  | some (j,_)=>match Y with
   | some W=>match Nat.beq j W with
    | true=>Hq Y rest+1
    | false=>0
   | none=>0
def Oa:List Oper->Nat
 | []=>0
 | o::rest=>match o.guard with
  | none=>Hq none rest
  | some (j,_)=>Hq (some j) rest
theorem ai.abL (hX:cx P X) (kn:List Nat) {rest:List Oper} {env:Env} {acc:List Fp} {Y:List Oper} {env':Env} {W:List Fp}
  (h:Fx X ops.toList σ.boxes kn (Oa rest) rest env acc = .at Y env' W) (k:ai P X ops Y env' σ W Q):ai P X ops rest env σ acc Q:=ai.LM hX _ kn h k
theorem ai.split {j d:Nat} {Y b:Bool} (E:o.guard=some (j,Y)) (G:pW ops j=some d) (T:ak d env=some (.c (.bool b)))
  (h1:b=true->ai P X ops (o::rest) env σ acc Q) (h2:b=false->ai P X ops (o::rest) env σ acc Q):ai P X ops (o::rest) env σ acc Q:=by grind
end
end Go.cq
namespace Go.cq
def top (f:FuncId):Frame:={(default:Frame)with fn:=f,kind := .normal}
def AK (P:Program) (X:Ctx) (f:FuncId) (n:Nat) (β:jG) (R:Ending->World->Prop) (K:List Item) (env:Env) (σ:St):Prop :=
 ∀(g:Gh) (w:World) (a:Act) (cs:List Frame),Live X β n env σ g w a ->
  ∃e w' fr,R e w'/\Comes P (lone ((top f).at a K) cs w) (lone fr cs w') e/\fr.fn=f/\fr.leaving P w' e
section
variable {P : Program} {X : Ctx} {f : FuncId} {n : Nat} {β : jG} {R : Ending -> World -> Prop} {K : List Item} {env : Env} {σ : St}
theorem AK.go {B:List Item} (Y:∀(a:Act) (cs:List Frame) (w:World),Steps P (lone ((top f).at a K) cs w) (lone ((top f).at a B) cs w)) (h:AK P X f n β R B env σ):AK P X f n β R K env σ :=
 fun g w a cs A=>let ⟨e,w',fr,h1,h2,V,W⟩:=h g w a cs A;⟨e,w',fr,h1,h2.of_steps (Y a cs w),V,W⟩
theorem AK.seq {x y:Code} (h:AK P X f n β R (.code x :: .code y::K) env σ):AK P X f n β R (.code (.seq x y)::K) env σ :=
 AK.go (fun _ _ _ => .one step_seq) h
theorem AK.skip (h:AK P X f n β R K env σ):AK P X f n β R (.code .skip::K) env σ :=
 AK.go (fun _ _ _ => .one step_skip) h
theorem AK.block {id:Nat} {c:Code} (h:AK P X f n β R (.code c :: .inBlock id::K) env σ):AK P X f n β R (.code (.block id c)::K) env σ :=
 AK.go (fun _ _ _ => .one step_block) h
theorem AK.inBlock {id:Nat} (h:AK P X f n β R K env σ):AK P X f n β R (.inBlock id::K) env σ :=
 AK.go (fun _ _ _ => .one step_inBlock) h
theorem AK.loop {c:Code} (h:AK P X f n β R (.code c :: .inLoop c::K) env σ):AK P X f n β R (.code (.loop c)::K) env σ :=
 AK.go (fun _ _ _ => .one step_loop) h
theorem AK.inLoop {c:Code} (h:AK P X f n β R (.code c :: .inLoop c::K) env σ):AK P X f n β R (.inLoop c::K) env σ :=
 AK.go (fun _ _ _ => .one step_inLoop) h
theorem AK.exit {id:Nat} {B:List Item} (e:exitTo id K=some B) (h:AK P X f n β R B env σ):AK P X f n β R (.code (.exit id)::K) env σ :=
 AK.go (fun _ _ _ => .one (step_exit e)) h
theorem AK.cond {c:Operand} {x y:Code} {b:Bool} (E:aL X env c=some (.c (.bool b))) (h:AK P X f n β R (.code (if b then x else y)::K) env σ) :
  AK P X f n β R (.code (.cond c x y)::K) env σ:=by
 intro g w a cs A;obtain⟨e,w',fr,h1,h2,V,Y⟩:=h g w a cs A;have:=ct A.env A.rC E;simp only[aK,Rel]at this;exact⟨e,w',fr,h1,h2.of_steps (.one (step_cond this)),V,Y⟩
theorem AK.Wv {c:Operand} {x y:Code} (hc:aL X env c=some (.c (.bool true))) (h:AK P X f n β R (.code x::K) env σ) :
  AK P X f n β R (.code (.cond c x y)::K) env σ:=AK.cond hc nu
theorem AK.Ww {c:Operand} {x y:Code} (hc:aL X env c=some (.c (.bool false))) (h:AK P X f n β R (.code y::K) env σ) :
  AK P X f n β R (.code (.cond c x y)::K) env σ:=AK.cond hc nu
theorem AK.CP {c:Operand} {x y:Code} {b:Bool} (E:aL X env c=some (.c (.bool b))) (h1:b=true->AK P X f n β R (.code x::K) env σ)
  (h2:b=false->AK P X f n β R (.code y::K) env σ):AK P X f n β R (.code (.cond c x y)::K) env σ:=by
 cases b
 ·exact AK.Ww E (h2 rfl)
 ·exact AK.Wv E (h1 rfl)
theorem AK.region (hm:P.follows .mixedOrders=true) {id:Nat} {ops:Array Oper} {draw:Bool} (hd:qX ops n=true)
  (h:ai P X ops ops.toList env σ [] (fun env' σ' EJ=>(draw=true->pN ops EJ=true)/\AK P X f n β R K env' σ')) :
  AK P X f n β R (.code (.region id ops draw)::K) env σ:=by
 obtain⟨EL,env',σ',hlen,ZA,Om,hK⟩:=h 0 c9
 intro g w a cs hL
 have hlen':EL.length=ops.size:=by simpa using hlen
 rw[List.reverse_nil,List.nil_append]at Om
 have hmap:(((List.range' 0 ops.toList.length).zip EL).map (·.1))=List.range ops.size:=by
  rw[List.map_fst_zip (by simp[hlen'])];simp[List.range_eq_range']
 have hwp:(Code.region id ops draw).wp P (fun e a' w'=>e = .normal/\∃g',Live X β n env' σ' g' w' a') a w:=by
  cases draw with
  | false =>
   apply wp_region
   rw[<- hmap]
   exact uk.wp hd ZA hL fun g' w' a' hL'=>⟨rfl,g',hL'⟩
  | true =>
   apply wp_region_any hm
   have hL2:Live X β n env σ g {w with drawn:=w.drawn+1} a :=
    ⟨⟨hL.inv.oI,fun k cs e=>by
      obtain⟨b,b1,b2,b3,b4⟩:=hL.inv.box k cs e
      exact⟨b,b1,b2,b3,cr.of_same (w:=w) (w':={w with drawn:=w.drawn+1}) (fun o=>⟨rfl,rfl⟩) b4⟩,
     hL.inv.fB,hL.inv.tok,hL.inv.gw,hL.inv.used,hL.inv.room⟩,hL.rC,hL.env,
     hL.frame.trans ⟨rfl,rfl,rfl,aak _,fun _ _ _=>rfl,fun _ _ _ _=>⟨rfl,rfl⟩,jk.le.refl _,fun _ _ _ h => .inl h,fun k cs b h1 h2 => .inr ⟨k,cs,h1,h2⟩,
      fun k n b lo hi h1 h2 => .inr ⟨k,n,lo,hi,h1,h2,aak _,aak _⟩,fun _ _ h=>⟨h,rfl,rfl⟩⟩,hL.size,hL.defers⟩
   have hl:((List.range' 0 ops.toList.length).zip EL).length=ops.size:=by simp[hlen']
   have ZB:=uk.any hd (Om rfl) ((List.range' 0 ops.toList.length).zip EL) (Array.replicate ops.size false) c9 ?_ ?_ ?_ ?_ ZA hL2
    (Q:=fun e a' w'=>e = .normal/\∃g',Live X β n env' σ' g' w' a') fun g' w' a' hL'=>⟨rfl,g',hL'⟩
   ·rw[hl]at ZB;exact ZB
   ·intro i
    rw[hmap]
    simp only[List.mem_range]
    constructor
    ·intro hi;exact⟨hi,by simp[Array.getD,hi]⟩
    ·exact fun h=>h.1
   ·rw[hmap];exact List.pairwise_lt_range
   ·intro x hx
    obtain⟨k,hk⟩:=List.getElem?_of_mem hx
    rw[List.getElem?_zip_eq_some]at hk
    obtain⟨k1,k2⟩:=hk
    have k3:k=x.1:=by
     have hlt:k<ops.toList.length:=by
      have:=(List.getElem?_eq_some_iff.1 k1).1;simpa using this
     rw[List.getElem?_range' hlt]at k1
     simpa using k1
    subst k3
    simp[List.getD,k2]
   ·intro i o hi
    exfalso
    simp only[Array.getD]at hi
    split at hi
    ·simp at hi
    ·simp at hi
 obtain⟨e,a',w',⟨rfl,g',hL'⟩,ab6⟩:=hwp (top f) K cs
 obtain⟨e,w'',fr,h1,h2,h3,h4⟩:=hK g' w' a' cs hL'
 exact⟨e,w'',fr,h1,h2.of_steps ab6,h3,h4⟩
theorem ai.done {ops:Array Oper} {acc:List Fp} (h:AK P X f n β R K env σ) :
  ai P X ops [] env σ acc (fun env' u Y=>(false=true->pN ops Y=true)/\AK P X f n β R K env' u) :=
 ai.nil ⟨(fun h=>by simp at h),h⟩
theorem ai.drawn {ops:Array Oper} {acc:List Fp} (hok:pN ops acc.reverse=true) (h:AK P X f n β R K env σ) :
  ai P X ops [] env σ acc (fun env' u Y=>(true=true->pN ops Y=true)/\AK P X f n β R K env' u) :=
 ai.nil ⟨fun _=>hok,h⟩
def tg (X:Ctx) (K:List (Nat×List AV)) (env:Env):List ResultVar->Option (List AV)
 | []=>some []
 | .tmp t::l=>match ak t env,tg X K env l with
  | some a,some r=>some (a::r)
  | _,_=>none
 | .cell t ty::l=>match gH X K (aL X env) (.load ty (.tmp t)),tg X K env l with
  | some a,some r=>some (a::r)
  | _,_=>none
def nQ (X:Ctx) (K:List (Nat×List AV)) (env:Env) (rs:List ResultVar):Option AV :=
 match tg X K env rs with
 | some [a]=>some a
 | some (a::b::l)=>some (.gy (a::b::l))
 | _=>none
def Bj (tmps:Array Value):ResultVar->Sem Value
 | .tmp t=>pure (tmps.getD t undef)
 | .cell b t=>do loadVar t (<- asAddr (tmps.getD b undef))
theorem xO (Y:Func) (tmps:Array Value):results Y tmps=(do
  let vs<-Y.results.mapM (Bj tmps)
  pure (if h:vs.size=1 then vs[0]else .tuple vs)):=by
 unfold results;congr
theorem JQ (Y:Addr):asAddr (.pointer (some Y))=pure Y:=rfl
theorem B6 (hX:cx P X) {g:Gh} {w:World} {a:Act} (hL:Live X β n env σ g w a):∀{rs:List ResultVar} {l:List AV},tg X σ.boxes env rs=some l ->
  ∃vs:List Value,(rs.mapM (Bj a.tmps)).run P w = .ok vs w/\bF g l vs
 | [],l,h=>by simp[tg]at h;subst h;exact⟨[],c9,by simp[bF]⟩
 | .tmp t::rs,l,h=>by
  simp only[tg]at h;split at h
  ·rename_i x r h1 h2;simp at h;subst h;obtain⟨vs,e1,e2⟩:=B6 hX hL h2;refine⟨a.tmps.getD t undef::vs,?_,by simp only[bF];exact⟨_,_,rfl,hL.env t x h1,e2⟩⟩;simp only[List.mapM_cons,Bj,Sem.run_bind,Sem.run_pure,Result.andThen_ok];simp only[show(List.mapM (Bj a.tmps) rs).run P w = .ok vs w from e1];rfl
  ·simp at h
 | .cell t ty::rs,l,h=>by
  simp only[tg]at h;split at h
  ·rename_i x r h1 h2;simp at h;subst h;obtain⟨vs,e1,e2⟩:=B6 hX hL h2
   obtain⟨u,r1,r2⟩:=JL (P:=P) (w:=w) (g:=g) hX hL.inv.oI (fun k cs e=>by
    obtain ⟨b, b1, _, _, b2⟩ := hL.inv.box k cs e; exact ⟨b, b1, b2⟩) (ev := a.eval) (fun x v hx => ct hL.env hL.rC hx) (o := ⟨none, .load ty (.tmp t), 0, "", #[], none⟩) h1
   simp only[execOp,Act.eval,Instr.loadAt]at r1;have r3:∃ad,a.tmps.getD t undef = .pointer (some ad)/\(loadVar ty ad).run P w = .ok u w:=by
    cases hv:a.tmps.getD t undef with
    | pointer p =>
     cases p with
     | none=>rw[hv]at r1;simp[Instr.sureAddr]at r1
     | some ad =>
      refine⟨ad,rfl,?_⟩;rw[hv]at r1;simp only[Instr.sureAddr,Sem.run_bind,Sem.run_pure,Result.andThen_ok]at r1;cases hr:(loadVar ty ad).run P w with
      | ok u' w'=>rw[hr]at r1;simp at r1;obtain⟨rfl,rfl⟩:=r1;rfl
      | halt _ _=>rw[hr]at r1;simp at r1
    | _=>rw[hv]at r1;simp[Instr.sureAddr]at r1
   obtain⟨ad,r4,r5⟩:=r3;refine⟨u::vs,?_,by simp only[bF];exact⟨_,_,rfl,r2,e2⟩⟩;simp only[List.mapM_cons,Bj,Sem.run_bind,r4,JQ,Sem.run_pure,Result.andThen_ok,r5];simp only[show(List.mapM (Bj a.tmps) rs).run P w = .ok vs w from e1];rfl
  ·simp at h
theorem th (hX:cx P X) {fn:Func} {g:Gh} {w:World} {a:Act} (hL:Live X β n env σ g w a) {r:AV} (h:nQ X σ.boxes env fn.results.toList=some r) :
  ∃u,(results fn a.tmps).run P w = .ok u w/\aK g r u:=by
 unfold nQ at h
 have key:∀l,tg X σ.boxes env fn.results.toList=some l->∃vs:List Value,(fn.results.mapM (Bj a.tmps)).run P w = .ok vs.toArray w/\bF g l vs:=by
  intro l hl
  obtain⟨vs,e1,e2⟩:=B6 hX hL hl
  refine⟨vs,?_,e2⟩
  rw[Array.mapM_eq_mapM_toList]
  simp only[Sem.run_map,e1,Result.andThen_ok]
 split at h
 ·rename_i x hl
  simp at h;subst h
  obtain⟨vs,e1,e2⟩:=key _ hl
  simp only[bF]at e2
  obtain⟨u,us,rfl,e3,rfl⟩:=e2
  refine⟨u,?_,e3⟩
  rw[xO,Sem.run_bind,e1]
  simp
 ·rename_i x y l hl
  simp at h;subst h
  obtain⟨vs,e1,e2⟩:=key _ hl
  have FW:=e2
  simp only[bF]at FW
  obtain⟨u,us,rfl,e3,u2,us2,rfl,e4,e5⟩:=FW
  refine⟨.tuple (u::u2::us2).toArray,?_,by simp only[aK];exact⟨_,rfl,e2,c9⟩⟩
  rw[xO,Sem.run_bind,e1]
  simp
 ·simp at h
theorem AK.ret (hX:cx P X) {Y:Func} (hf:P.funcs[f]?=some Y) {r:AV} (I:nQ X σ.boxes env Y.results.toList=some r)
  (h:∀g w u,aK g r u->Inv w g σ->nC X g.G->gQ β.w β.g β.σ w g σ->R (.returned u) w):AK P X f n β R (.code .ret::K) env σ:=by
 intro g w a cs A;obtain⟨u,h1,h2⟩:=th hX A I;exact⟨.returned u,w,_,h g w u h2 A.inv A.rC A.frame,.one step_ret,rfl,rfl,A.defers,rfl,Y,hf,h1⟩
theorem AK.fin (hX:cx P X) {Y:Func} (hf:P.funcs[f]?=some Y) {r:AV} (I:nQ X σ.boxes env Y.results.toList=some r)
  (h:∀g w u,aK g r u->Inv w g σ->nC X g.G->gQ β.w β.g β.σ w g σ->R (.returned u) w):AK P X f n β R [] env σ:=by
 intro g w a cs A;obtain⟨u,h1,h2⟩:=th hX A I;exact⟨.returned u,w,_,h g w u h2 A.inv A.rC A.frame,.one step_end,rfl,rfl,A.defers,rfl,Y,hf,h1⟩
end
end Go.cq
namespace Go.cq
def Enters (P:Program) (f:FuncId):Prop:=∀(args:Array Value) (w:World),(callFunc f args).run P w = .ok (.enter f args) w
structure JR (w:World) (G:jk) (w':World) (G':jk):Prop where
 os:w'.os=w.os
 tape:w'.tape=w.tape
 output:w'.output=w.output
 size:w.heap.size<=w'.heap.size
 block:∀b,b<w.heap.size->w'.heap[b]?=w.heap[b]?
 le:G.le G'
 new:∀b o v,G' b o=some v->G b o=some v\/w.heap.size<=b
 oI:∀b o v,G' b o=some v->w'.cell? ⟨b,o,none⟩=some v
def bh (P:Program) (X:Ctx) (f:FuncId) (args:List CV) (r:CV):Prop :=
 Enters P f/\∀(G:jk) (w:World) (vs:List Value),(∀b o v,G b o=some v->w.cell? ⟨b,o,none⟩=some v)->nC X G->bL G args vs ->
  Calls P f vs.toArray w fun e w'=>∃u Y,e = .returned u/\Rel Y r u/\JR w G w' Y
theorem JR.kept {w w':World} {G u:jk} (h:JR w G w' u) (b o:Nat) (T:b<w.heap.size) :
  w'.cell? ⟨b,o,none⟩=w.cell? ⟨b,o,none⟩/\w'.frozen? ⟨b,o,none⟩=w.frozen? ⟨b,o,none⟩:=by
 have:=h.block b T;constructor
 ·simp only[World.cell?,this]
 ·simp only[World.frozen?,this]
theorem bh.of {P:Program} {X:Ctx} {f:FuncId} {fn:Func} {c:Code} {args:List CV} {r:CV} (hf:P.funcs[f]?=some fn) (hb:fn.body=some c) (he:Enters P f)
  (hn:args.length<=fn.ntmps) (env:Env) (di:env=(args.zipIdx.map fun(v,i)=>(i,AV.c v)))
  (h:∀β,β.σ=⟨[],[],[]⟩->AK P X f fn.ntmps β (fun e w'=>∃u g',e = .returned u/\Rel g'.G r u/\gQ β.w β.g β.σ w' g' ⟨[],[],[]⟩/\∀b o v,g'.G b o=some v->w'.cell? ⟨b,o,none⟩=some v) [.code c] env ⟨[],[],[]⟩) :
  bh P X f args r:=by
 refine⟨he,fun G w vs ij cy fU cs=>?_⟩
 let g:Gh:=⟨G,fun _=>none,fun _=>none,fun _=>0⟩
 let β:jG:=⟨w,g,⟨[],[],[]⟩⟩
 have hlen:=(bL.get fU).1
 have hL:Live X β fn.ntmps env ⟨[],[],[]⟩ g w {tmps:=vs.toArray++Array.replicate (fn.ntmps-vs.toArray.size) undef,defers:=[]}:=by
  refine⟨⟨ij,?_,?_,?_,?_,?_,fun k cs b e=>by simp[ak]at e⟩,cy,?_,gQ.refl _ _ _,?_,rfl⟩
  ·intro k cs e;simp[ak]at e
  ·simp_all
  ·intro k n e;simp[ak]at e
  ·simp_all
  ·grind
  ·intro t a e
   subst di
   have key:∀(l:List CV) (us:List Value) (k:Nat),bL G l us->ak t ((l.zipIdx k).map fun(v,i)=>(i,AV.c v))=some a->k<=t/\∃u,us[t-k]?=some u/\aK g a u:=by
    intro l
    induction l with
    | nil=>intro us k _ e;simp[ak]at e
    | cons v l ih =>
     intro us k hr e
     simp only[bL]at hr
     obtain⟨u,us,rfl,h1,h2⟩:=hr
     simp only[List.zipIdx_cons,List.map_cons,au]at e
     split at e
     ·rename_i ht;subst ht;simp at e;subst e
      exact⟨aak _,u,c9,Q9⟩
     ·grind
   obtain⟨_,u,h4,h5⟩:=key args vs 0 fU e
   simp at h4
   have hlt:t<vs.length:=(List.getElem?_eq_some_iff.1 h4).1
   have:(vs.toArray++Array.replicate (fn.ntmps-vs.toArray.size) undef).getD t undef=u:=by
    rw[Array.getD_eq_getD_getElem?,Array.getElem?_append_left (by simpa using hlt)]
    simp[h4]
   rw[this];exact h5
  ·simp;omega
 obtain⟨e,w',fr,⟨u,g',rfl,h1,h2,h3⟩,h4,h5,h6⟩:=h β rfl g w _ cs hL
 have tj:Frame.enter P f vs.toArray .normal =
   (top f).at {tmps:=vs.toArray++Array.replicate (fn.ntmps-vs.toArray.size) undef,defers:=[]} [.code c]:=by
  simp[Frame.enter,Frame.at,hf,hb,top]
 refine⟨_,w',fr,⟨u,g'.G,rfl,h1,⟨h2.os,h2.tape,h2.output,h2.size,fun b hb=>h2.block b hb ?_,h2.le,fun b o v hv=>?_,h3⟩⟩,by rw[tj];exact h4,h5,h6⟩
 ·rintro o (⟨k,cs,e,_⟩|⟨k,n,lo,hi,e,_⟩)<;>simp[β,ak]at e
 ·rcases h2.new b o v hv with h|h|h
  ·exact .inl h
  ·exact .inr h
  ·rcases h with ⟨k,cs,e,_⟩|⟨k,n,lo,hi,e,_⟩<;>simp[β,ak]at e
section
variable {P : Program} {X : Ctx}
abbrev QR (β:jG) (r:CV):Ending->World->Prop:=fun e w'=>∃u g',e = .returned u/\Rel g'.G r u/\gQ β.w β.g β.σ w' g' ⟨[],[],[]⟩/\∀b o v,g'.G b o=some v->w'.cell? ⟨b,o,none⟩=some v
theorem gQ.forget {w w':World} {g g':Gh} {σ u:St} (h:gQ w g σ w' g' u):gQ w g σ w' g' ⟨[],[],[]⟩ where
 os:=h.os
 tape:=h.tape
 output:=h.output
 size:=h.size
 block:=h.block
 kept:=h.kept
 le:=h.le
 new:=h.new
 boxes:=fun k cs b e=>by simp[ak]at e
 toks:=fun k n b S W e=>by simp[ak]at e
 ids:=fun k _ e=>by simp[ak]at e
theorem AK.Y7 (hX:cx P X) {f:FuncId} {n:Nat} {β:jG} {K:List Item} {env:Env} {σ:St} {Y:Func} (hf:P.funcs[f]?=some Y) {r:AV} {B W:CV}
  (I:nQ X σ.boxes env Y.results.toList=some r) (E:close r=some B) (V:B=W):AK P X f n β (QR β W) (.code .ret::K) env σ:=by
 subst V;refine AK.ret hX hf I fun g w u h1 h2 T U=>?_;exact⟨u,g,rfl,(sn r B u E h1).1,U.forget,h2.oI⟩
theorem eW {G:jk}:∀{a b:List CV} {us vs:List Value},bL G a us->bL G b vs->bL G (a++b) (us++vs)
 | [],b,us,vs,h1,h2=>by simp only[bL]at h1;subst h1;simpa using h2
 | x::a,b,us,vs,h1,h2=>by
  simp only[bL]at h1;obtain⟨u,us,rfl,V,Y⟩:=h1;simp only[List.cons_append,bL];exact⟨u,us++vs,rfl,V,eW Y h2⟩
theorem Dm {w w':World} {g:Gh} {σ:St} {U:jk} (I:Inv w g σ) (Y:JR w g.G w' U) :
  Inv w' ⟨U,g.box,g.tok,g.room⟩ σ/\gQ w g σ w' ⟨U,g.box,g.tok,g.room⟩ σ/\g.le ⟨U,g.box,g.tok,g.room⟩:=by
 have J:g.le ⟨U,g.box,g.tok,g.room⟩:=⟨Y.le,fun _ _ h=>h,fun _ _ _=>rfl,fun k O A h=>⟨O,A,h,aak _,fun _=>rfl⟩⟩
 have W:∀b o,b<w.heap.size->g.G b o=none->U b o=none:=by
  intro b o T h;cases E:U b o with
  | none=>rfl
  | some v =>
   rcases Y.new b o v E with K|K
   ·simp_all
   ·omega
 refine⟨⟨Y.oI,?_,I.fB,?_,I.gw,I.used,?_⟩,⟨Y.os,Y.tape,Y.output,Y.size,fun b T _=>Y.block b T,fun b o T _=>Y.kept b o T,Y.le,fun b o v h=>?_,?_,?_,?_⟩,J⟩
 ·intro k cs e;obtain⟨b,h1,h2,V,S⟩:=I.box k cs e;exact⟨b,h1,Nat.lt_of_lt_of_le h2 Y.size,fun o=>W b o h2 (V o),(cr.of_same (fun o=>Y.kept b o h2) S).mono J⟩
 ·intro k n e;obtain⟨A,h1,h2⟩:=I.tok k n e;refine⟨A,h1,fun b Q H M=>?_⟩;obtain⟨V,S,p⟩:=h2 b Q H M;refine⟨Nat.lt_of_lt_of_le V Y.size,fun o P N=>?_,p⟩;obtain⟨B,⟨u,D⟩,h8⟩:=S o P N;exact⟨W b o V B,⟨u,(Y.kept b o V).1.trans D⟩,(Y.kept b o V).2.trans h8⟩
 ·intro k cs b e T o;obtain⟨b',h1,h2,_⟩:=I.box k cs e;rw[T]at h1;cases h1;obtain⟨V,S⟩:=I.room k cs b e T o;exact⟨fun C=>(V C).imp fun u q=>(Y.kept b o h2).1.trans q,(Y.kept b o h2).2.trans S⟩
 ·exact(Y.new b o v h).imp id .inl
 ·grind
 ·grind
 ·simp_all
theorem bU.SJ {o:Oper} {env:Env} {σ:St} {f:FuncId} {args:Array Operand} {ts:Array TypeId} (ho:o.op = .call {callee := .value (.func f),args:=args,argTypes:=ts})
  {oN:List CV} {r:CV} (ha:gV (aL X env) args.toList=some oN) (hq:bh P X f oN r):bU P X o env σ (.c r) (fun σ=>σ) ⟨[],[]⟩:=by
 intro cV σ1 w g a next Q h1 h2 hinv cy di hnext
 have xP:gV (aL X cV) args.toList=some oN:=by
  rw[jz _ (fun x hx=>h1 x qD)];exact ha
 have fU:=nF (g:=g) (ev:=a.eval) (fun x v hx=>ct di cy hx) xP
 have hrun:(execOp a.eval o).run P w = .ok (.enter f (args.map a.eval)) w:=by
  obtain⟨dst,op,type,pos,after,guard⟩:=o
  simp only at ho;subst ho
  simp[execOp,resolve,Deferred.ofValue,invoke,Act.eval,hq.1 _ w]
 unfold Oper.wp
 rw[hrun,Oper.upon_enter]
 have:=hq.2 g.G w _ hinv.oI cy fU
 rw[show(args.toList.map a.eval).toArray=args.map a.eval from by rw[<- Array.toList_map]]at this
 refine this.mono ?_
 rintro e w' ⟨u,G',rfl,h3,h4⟩
 obtain⟨h5,h6,h7⟩:=Dm hinv h4
 exact hnext u w' _ We h5 h6 h7
theorem bU.SK {o:Oper} {env:Env} {σ:St} {f:FuncId} {x:Operand} {caps:List CV} {args:Array Operand} {ts:Array TypeId} (ho:o.op = .call {callee := .value x,args:=args,argTypes:=ts})
  (hx:aL X env x=some (.c (.rM f caps))) {oN:List CV} {r:CV} (ha:gV (aL X env) args.toList=some oN) (hq:bh P X f (oN++caps) r) :
  bU P X o env σ (.c r) (fun σ=>σ) ⟨[],[]⟩:=by
 intro cV σ1 w g a next Q h1 h2 hinv cy di hnext
 have xP:gV (aL X cV) args.toList=some oN:=by
  rw[jz _ (fun x hx=>h1 x qD)];exact ha
 have hx':aL X cV x=some (.c (.rM f caps)):=by
  rw[h1 x K0];exact hx
 have fU:=nF (g:=g) (ev:=a.eval) (fun x v hx=>ct di cy hx) xP
 have ZC:=ct (a:=a) di cy hx'
 simp only[aK,Rel]at ZC
 obtain⟨us,hu,ZD⟩:=ZC
 have hrun:(execOp a.eval o).run P w = .ok (.enter f (args.map a.eval++us.toArray)) w:=by
  obtain⟨dst,op,type,pos,after,guard⟩:=o
  simp only at ho;subst ho
  simp[execOp,resolve,hu,Deferred.ofValue,invoke,hq.1 _ w]
 unfold Oper.wp
 rw[hrun,Oper.upon_enter]
 have:=hq.2 g.G w _ hinv.oI cy (eW fU ZD)
 rw[show(args.toList.map a.eval++us).toArray=args.map a.eval++us.toArray from by rw[<- Array.toList_map];simp]at this
 refine this.mono ?_
 rintro e w' ⟨u,G',rfl,h3,h4⟩
 obtain⟨h5,h6,h7⟩:=Dm hinv h4
 exact hnext u w' _ We h5 h6 h7
end
end Go.cq
namespace Go.cq
def St.dX (σ:St) (d:Nat) (cells:List AV):St:=⟨(d,cells)::σ.boxes,σ.toks,d::σ.used⟩
theorem pZ (d:Nat) (cells:List AV):gR (fun σ=>σ.dX d cells) ⟨[],[d]⟩ where
 out:=fun σ k D=>by
  have:k≠d:=by simpa using D
  refine⟨?_,rfl,?_⟩
  ·simp only[St.dX,au,if_neg this]
  ·simp[St.dX,this]
 same:=fun σ G h k D=>by
  have:k=d:=by simpa using D
  subst this;refine⟨?_,(h k (.inr c9)).2.1,?_⟩
  ·simp[St.dX,au]
  ·simp[St.dX]
theorem vf {g:Gh} {a:AV} {u:Value} (h:a.one=true) (I:aK g a u):u.oneCell'=true:=by
 cases a with
 | c v =>
  simp only[AV.one]at h;simp only[aK]at I;cases v<;>simp[CV.one]at h<;>simp only[Rel]at I
  case int=>subst I;rfl
  case bool=>subst I;rfl
  case str=>subst I;rfl
  case lO=>subst I;rfl
  case sl=>obtain⟨_,_,_,rfl,_⟩:=I;rfl
  case ip=>obtain⟨_,_,rfl,_⟩:=I;rfl
  case rM=>obtain⟨_,rfl,_⟩:=I;rfl
  case any=>cases u<;>first|rfl|exact absurd rfl (I.1 _)|exact absurd rfl (I.2 _)
  case qG=>obtain⟨_,rfl⟩:=I;rfl
 | own=>simp only[aK]at I;obtain⟨_,_,_,rfl,_⟩:=I;rfl
 | ptr=>simp only[aK]at I;obtain⟨_,_,rfl⟩:=I;rfl
 | gv=>simp only[aK]at I;obtain⟨_,_,_,_,rfl,_⟩:=I;rfl
 | any =>
  simp only[aK]at I;cases u<;>first|rfl|exact absurd rfl (I.1 _)|exact absurd rfl (I.2 _)
 | agg=>simp[AV.one]at h
 | gy=>simp[AV.one]at h
section
variable {P : Program} {X : Ctx}
theorem Hr {w:World} {g:Gh} {σ:St} {d:Nat} {cells:List AV} {us:Array Value} {t:TypeId} (hinv:Inv w g σ) (hd:d ∉ σ.used) (Xz:d<1000000) (hr:bF g cells (us.toList.take cells.length)) (ho:cells.all AV.one=true) :
  let g':Gh:=⟨g.G,fun k=>if k=d then some w.heap.size else g.box k,g.tok,fun k=>if k=d then us.size else g.room k⟩
  let w':World:={w with heap:=w.heap.push (.cells us t)}
  Inv w' g' (σ.dX d cells)/\gQ w g σ w' g' (σ.dX d cells)/\g.le g'/\aK g' (.ptr d 0) (.pointer (some ⟨w.heap.size,0,none⟩)):=by
 intro g' w'
 have SL:g.box d=none:=by
  cases h:g.box d with
  | none=>rfl
  | some b=>exact absurd (hinv.used d (.inl oe)) hd
 have hdb:∀k cs,ak k σ.boxes=some cs->k≠d:=by
  rintro k cs e rfl
  obtain⟨b,h1,_⟩:=hinv.box _ cs e
  rw[SL]at h1;simp at h1
 have hle:g.le g':=⟨jk.le.refl _,fun k b h=>by
  by_cases hk:k=d
  ·subst hk;rw[SL]at h;simp at h
  ·simp[g',hk,h],fun k b h=>by
  by_cases hk:k=d
  ·subst hk;rw[SL]at h;simp at h
  ·simp[g',hk],fun k hw fS h=>⟨hw,fS,h,aak _,fun _=>rfl⟩⟩
 have hold:∀b o,b<w.heap.size->w'.cell? ⟨b,o,none⟩=w.cell? ⟨b,o,none⟩/\w'.frozen? ⟨b,o,none⟩=w.frozen? ⟨b,o,none⟩:=by
  intro b o hb
  exact⟨World.cell?_alloc_old w _ ⟨b,o,none⟩ Of,World.frozen?_alloc_old w _ ⟨b,o,none⟩ Of⟩
 have hsz:w'.heap.size=w.heap.size+1:=by simp[w']
 have Hs:∀b o v,g.G b o=some v->b<w.heap.size:=fun b o v h=>World.block_lt_of_cell? w ⟨b,o,none⟩ (hinv.oI b o v h)
 have iQ:cr w' g' w.heap.size 0 cells:=by
  obtain⟨h1,h2⟩:=bF.get hr
  apply cr.jQ
  intro j c hj
  obtain⟨u,e1,e2⟩:=h2 j c hj
  refine⟨⟨u,?_,aK.mono hle _ _ e2,?_⟩,?_⟩
  ·have:=World.cell?_alloc_new w us t (0+j)
   rw[show(w.alloc (.cells us t))=w' from rfl]at this
   rw[this]
   rw[List.getElem?_take]at e1
   split at e1
   ·simpa using e1
   ·simp at e1
  ·rw[List.all_eq_true]at ho;exact ho c (aaw hj)
  ·exact World.frozen?_alloc_new w us t (0+j)
 refine⟨⟨?_,?_,?_,?_,hinv.gw,?_,?_⟩,⟨rfl,rfl,rfl,bn,fun b hb _=>by show(w.heap.push _)[b]?=_;rw[Array.getElem?_push,if_neg bn],fun b o hb _=>hold b o hb,jk.le.refl _,fun _ _ _ h => .inl h,?_,?_,fun k hk h=>⟨by simp only[St.dX,au]at h;rwa[if_neg bn]at h,by simp only[g'];rw[if_neg bn],by simp only[g'];rw[if_neg bn]⟩⟩,hle,by simp only[aK];exact⟨_,Wj,rfl⟩⟩
 ·intro b o v h
  rw[(hold b o (Hs b o v h)).1];exact hinv.oI b o v h
 ·intro k cs e
  simp only[St.dX,au]at e
  split at e
  ·rename_i hk;subst hk;simp at e;subst e
   refine⟨w.heap.size,Wj,bn,?_,iQ⟩
   intro o
   cases hg:g.G w.heap.size o with
   | none=>rfl
   | some v=>have:=Hs _ _ _ hg;omega
  ·rename_i hk
   obtain⟨b,h1,h2,h3,h4⟩:=hinv.box k cs e
   exact⟨b,by simp[g',hk,h1],bn,h3,(cr.of_same (fun o=>hold b o h2) h4).mono hle⟩
 ·intro k k' cs cs' b e e' h1 h2
  simp only[St.dX,au]at e e'
  simp only[g']at h1 h2
  split at e
  ·rename_i hk
   rw[if_pos hk]at h1;simp at h1
   split at e'
   ·rename_i hk';rw[hk,hk']
   ·rename_i hk'
    rw[if_neg hk']at h2
    obtain⟨b',h3,h4,_⟩:=hinv.box k' cs' e'
    rw[h3]at h2;simp at h2;omega
  ·rename_i hk
   rw[if_neg hk]at h1
   split at e'
   ·rename_i hk'
    rw[if_pos hk']at h2;simp at h2
    obtain⟨b',h3,h4,_⟩:=hinv.box k cs e
    rw[h3]at h1;simp at h1;omega
   ·rename_i hk'
    rw[if_neg hk']at h2
    exact hinv.fB k k' cs cs' b e e' h1 h2
 ·intro k n e
  obtain⟨fS,h1,h2⟩:=hinv.tok k n e
  refine⟨fS,h1,fun b lo hi hr=>?_⟩
  obtain⟨h3,h4,h5⟩:=h2 b lo hi hr
  refine⟨bn,fun o I5 LH=>?_,fun k' cs e'=>?_⟩
  ·obtain⟨h6,⟨u,h7⟩,h8⟩:=h4 o I5 LH
   exact⟨h6,⟨u,(hold b o h3).1.trans h7⟩,(hold b o h3).2.trans h8⟩
  ·simp only[St.dX,au]at e'
   simp only[g']
   split at e'
   ·rename_i hk;rw[if_pos hk];simp;omega
   ·rename_i hk;rw[if_neg hk];exact h5 k' cs e'
 ·intro k e
  simp only[St.dX,List.mem_cons]
  by_cases hk:k=d
  ·exact .inl hk
  ·right
   apply hinv.used k
   simpa[g',hk]using e
 ·intro k cs b e h o
  simp only[St.dX,au]at e
  simp only[g']at h ⊢
  split at e
  ·rename_i hk
   rw[if_pos hk]at h
   rw[if_pos hk]
   simp at h;subst h
   have h1:=World.cell?_alloc_new w us t o
   rw[show(w.alloc (.cells us t))=w' from rfl]at h1
   have h2:=World.frozen?_alloc_new w us t o
   rw[show(w.alloc (.cells us t))=w' from rfl]at h2
   exact⟨fun ho=>⟨us[o],by rw[h1];simp[ho]⟩,h2⟩
  ·rename_i hk
   rw[if_neg hk]at h
   rw[if_neg hk]
   obtain⟨b',h3,h4,_⟩:=hinv.box k cs e
   rw[h]at h3;cases h3
   obtain⟨h5,h6⟩:=hinv.room k cs b e h o
   exact⟨fun ho=>(h5 ho).imp fun u hu=>(hold b o h4).1.trans hu,(hold b o h4).2.trans h6⟩
 ·intro k cs b e h
  simp only[St.dX,au]at e
  simp only[g']at h
  split at e
  ·rename_i hk;rw[if_pos hk]at h;simp at h;left;omega
  ·rename_i hk;rw[if_neg hk]at h;exact .inr ⟨k,cs,e,h⟩
 ·exact X9
theorem Mg {w:World} {g:Gh} {σ:St} {d:Nat} {cells:List AV} {us:Array Value} {t:TypeId} (hinv:Inv w g σ) (hd:d ∉ σ.used) (Xz:d<1000000) (hr:bF g cells us.toList) (ho:cells.all AV.one=true) :
  let g':Gh:=⟨g.G,fun k=>if k=d then some w.heap.size else g.box k,g.tok,fun k=>if k=d then us.size else g.room k⟩
  let w':World:={w with heap:=w.heap.push (.cells us t)}
  Inv w' g' (σ.dX d cells)/\gQ w g σ w' g' (σ.dX d cells)/\g.le g'/\aK g' (.ptr d 0) (.pointer (some ⟨w.heap.size,0,none⟩)):=by
 have hl:cells.length=us.toList.length:=(bF.get hr).1
 exact Hr (t:=t) hinv hd Xz (by rw[hl,List.take_length];exact hr) ho
theorem cS {d:Nat}:∀{l:List Nat},mem d l=false->d ∉ l
 | [],_=>by simp
 | x::l,h=>by
  simp only[mem]at h;split at h
  ·simp at h
  ·rename_i O;have:=beq_false O;simp[cS h,Ne.symm this]
def JS (d:Nat) (l:List Nat):Bool:=match Nat.blt d 1000000 with
 | true=>mem d l
 | false=>true
theorem B7 {d:Nat} {l:List Nat} (h:JS d l=false):d<1000000/\mem d l=false:=by
 unfold JS at h;split at h
 ·simp_all
 ·simp at h
theorem bU.box {o:Oper} {env:Env} {σ:St} {t:TypeId} {x:Operand} {d:Nat} (ho:o.op = .box t x) (hd:o.dst=some d) {a:AV} (ha:aL X env x=some a) {cells:List AV}
  (hc:jR a=some cells) (hu:JS d σ.used=false):bU P X o env σ (.ptr d 0) (fun σ=>σ.dX d cells) ⟨[],[d]⟩:=by
 intro cV σ1 w g act next Q h1 h2 hinv cy di hnext
 have xP:aL X cV x=some a:=by rw[h1 x kN];exact ha
 obtain⟨c1,c2⟩:=wj hc (ct (a:=act) di cy xP)
 have hd':d ∉ σ1.used:=fun h=>cS (B7 hu).2 ((h2 d (.inr c9)).2.2.1 h)
 have hrun:(execOp act.eval o).run P w = .ok (.value (.pointer (some ⟨w.heap.size,0,none⟩))) {w with heap:=w.heap.push (.cells (act.eval x).cells t)}:=by
  obtain⟨dst,op,type,pos,after,guard⟩:=o
  simp only at ho;subst ho
  simp[execOp,Instr.box,newVar,newRow]
 unfold Oper.wp
 rw[hrun,Oper.upon_value]
 obtain⟨h3,h4,h5,h6⟩:=Mg (t:=t) hinv hd' (B7 hu).1 c1 c2
 exact hnext _ _ _ h6 h3 h4 h5
theorem bU.alloc (hX:cx P X) {o:Oper} {env:Env} {σ:St} {t:TypeId} {d:Nat} (ho:o.op = .alloc t) (hd:o.dst=some d) {i:TI} (hi:X.ti t=some i) {za:AV} (hz:i.zero=some za) {cells:List AV}
  (hc:jR za=some cells) (hu:JS d σ.used=false):bU P X o env σ (.ptr d 0) (fun σ=>σ.dX d cells) ⟨[],[d]⟩:=by
 intro cV σ1 w g act next Q h1 h2 hinv cy di hnext
 obtain⟨z,z1,z2,z3⟩:=hX.lP (w:=w) hi hz
 obtain⟨c1,c2⟩:=wj hc (z2 g)
 have hd':d ∉ σ1.used:=fun h=>cS (B7 hu).2 ((h2 d (.inr c9)).2.2.1 h)
 have hrun:(execOp act.eval o).run P w = .ok (.value (.pointer (some ⟨w.heap.size,0,none⟩))) {w with heap:=w.heap.push (.cells z.cells t)}:=by
  obtain⟨dst,op,type,pos,after,guard⟩:=o
  simp only at ho;subst ho
  simp[execOp,Instr.alloc,newVar,newRow,z1]
 unfold Oper.wp
 rw[hrun,Oper.upon_value]
 obtain⟨h3,h4,h5,h6⟩:=Mg (t:=t) hinv hd' (B7 hu).1 c1 c2
 exact hnext _ _ _ h6 h3 h4 h5
def St.qa (σ:St) (k:Nat) (cells:List AV):St:=⟨uj k cells σ.boxes,σ.toks,σ.used⟩
theorem Mh (k:Nat) (cells:List AV):gR (fun σ=>σ.qa k cells) ⟨[],[k]⟩ where
 out:=fun σ j Y=>by
  have:j≠k:=by simpa using Y
  exact⟨by simp only[St.qa,ew,if_neg this],rfl,Iff.rfl⟩
 same:=fun σ G h j Y=>by
  have:j=k:=by simpa using Y
  subst this;exact⟨by simp[St.qa,ew],(h j (.inr c9)).2.1,(h j (.inr c9)).2.2⟩
theorem heap_setCell (w:World) (a:Addr) (u:Value) (k:Nat) (h:k≠a.block):(w.setCell a u).heap[k]?=w.heap[k]?:=by
 simp only[World.setCell,Array.getElem?_modify];rw[if_neg bn]
theorem mN {w:World} (b:Nat):∀(vs:List Value) (o i:Nat) (w:World),(∀v∈vs,v.oneCell'=true) ->
  (∀j,j<vs.length->(∃u,w.cell? ⟨b,o+i+j,none⟩=some u)/\w.frozen? ⟨b,o+i+j,none⟩=false) ->
  ∃w',(storeCells ⟨b,o,none⟩ vs i).run P w = .ok () w'/\(w'.heap.size=w.heap.size/\w'.os=w.os/\w'.tape=w.tape/\w'.output=w.output/\∀b',b'≠b->w'.heap[b']?=w.heap[b']?) /\
   (∀b' o',b'≠b\/o'<o+i\/o+i+vs.length<=o'->w'.cell? ⟨b',o',none⟩=w.cell? ⟨b',o',none⟩) /\
   (∀b' o',w'.frozen? ⟨b',o',none⟩=w.frozen? ⟨b',o',none⟩) /\
   ∀j v,vs[j]?=some v->w'.cell? ⟨b,o+i+j,none⟩=some v
 | [],o,i,w,_,_=>⟨w,by simp[storeCells],⟨rfl,rfl,rfl,rfl,fun _ _=>rfl⟩,fun _ _ _=>rfl,fun _ _=>rfl,c9⟩
 | v::vs,o,i,w,h1,h2=>by
  obtain⟨⟨u,hu⟩,hf⟩:=h2 0 c9
  simp only[Nat.add_zero]at hu hf
  have hv:=h1 v c9
  have hst:(store (Addr.add ⟨b,o,none⟩ i) v).run P w = .ok () (w.setCell ⟨b,o+i,none⟩ v):=by
   rw[Addr.add_lit]
   have:=run_store P w ⟨b,o+i,none⟩ v .plain hv
   rw[this];simp[hu,hf]
  obtain⟨w',r1,r2,r3,r4,r5⟩:=mN (w:=w) b vs o (i+1) (w.setCell ⟨b,o+i,none⟩ v) (fun x hx=>h1 x (by simp[hx])) (by
   intro j hj
   obtain⟨⟨u',hu'⟩,hf'⟩:=h2 (j+1) lD
   refine⟨⟨u',?_⟩,?_⟩
   ·rw[World.cell?_setCell_other w _ _ _ lD]
    rwa[show o+(i+1)+j=o+i+(j+1)from by omega]
   ·rw[World.frozen?_setCell]
    rwa[show o+(i+1)+j=o+i+(j+1)from by omega])
  refine⟨w',?_,⟨by simpa using r2.1,r2.2.1,r2.2.2.1,r2.2.2.2.1,fun b' hb'=>(r2.2.2.2.2 b' hb').trans (heap_setCell w _ _ _ hb')⟩,?_,?_,?_⟩
  ·simp only[storeCells,Sem.run_bind,hst,Result.andThen_ok,r1]
  ·intro b' o' h
   rw[r3 b' o' (by simp at h ⊢;omega),World.cell?_setCell_other w]
   intro e
   simp at e h
   obtain⟨rfl,rfl⟩:=e
   omega
  ·simp_all
  ·intro j v' hj
   cases j with
   | zero =>
    simp at hj;subst hj
    rw[r3 b _ (by right;left;omega)]
    exact World.cell?_setCell_same w _ _ hu
   | succ j =>
    simp at hj
    have:=r5 j v' hj
    rwa[show o+(i+1)+j=o+i+(j+1)from by omega]at this
theorem bU.store (hX:cx P X) {o:Oper} {env:Env} {σ:St} {t:TypeId} {x y:Operand} (ho:o.op = .store t x y) (hd:o.dst=none) {i:TI} (hi:X.ti t=some i) {key off:Nat}
  (hx:aL X env x=some (.ptr key off)) {a:AV} (hy:aL X env y=some a) {cells vs r:List AV} (hb:ak key σ.boxes=some cells) (hc:jR a=some vs)
  (hl:vs.length=i.size) (hw:dK off vs cells=some r):bU P X o env σ (.c .undef) (fun σ=>σ.qa key r) ⟨[],[key]⟩:=by
 intro cV σ1 w g act next Q h1 h2 hinv cy di hnext
 have hx':aL X cV x=some (.ptr key off):=by rw[h1 x kN];exact hx
 have hy':aL X cV y=some a:=by rw[h1 y kN];exact hy
 have hb':ak key σ1.boxes=some cells:=by rw[(h2 key (.inr c9)).1];exact hb
 have rx:=ct (a:=act) di cy hx'
 simp only[aK]at rx
 obtain⟨b,z8,ex⟩:=rx
 obtain⟨c1,c2⟩:=wj hc (ct (a:=act) di cy hy')
 obtain⟨b',Ht,ZE,Yz,hbc⟩:=hinv.box key cells hb'
 rw[z8]at Ht;simp at Ht;subst Ht
 obtain⟨l1,l2⟩:=bF.get c1
 have hne:i.size≠0:=by obtain⟨_,_,_,_,_,_,hh⟩:=hX.ti t i hi;exact hh
 obtain⟨w1,w2,w3⟩:=ou hw
 have hfit:off+vs.length<=cells.length:=by
  cases vs with
  | nil=>simp at hl;omega
  | cons u us=>exact Md hw
 obtain⟨w',r1,r2,r3,r4,r5⟩:=mN (P:=P) (w:=w) b (act.eval y).cells.toList off 0 w (by
   intro u hu
   obtain⟨j,hj⟩:=List.getElem?_of_mem hu
   have hjl:j<vs.length:=by rw[l1];exact(List.getElem?_eq_some_iff.1 hj).1
   obtain⟨u',e1,e2⟩:=l2 j vs[j] (by simp[hjl])
   rw[hj]at e1;simp at e1;subst e1
   rw[List.all_eq_true]at c2
   exact vf (c2 _ (List.getElem_mem hjl)) e2) (by
   intro j hj
   have hjl:off+j<cells.length:=by rw[<- l1]at hj;omega
   obtain⟨⟨u,e1,_⟩,e2⟩:=hbc.get (off+j) cells[off+j] (by simp[hjl])
   simp only[Nat.zero_add,Nat.add_zero]at e1 e2 ⊢
   exact⟨⟨u,e1⟩,e2⟩)
 have hrun:(execOp act.eval o).run P w = .ok .skip w':=by
  obtain⟨dst,op,type,pos,after,guard⟩:=o
  simp only at ho;subst ho
  have hsz:(act.eval y).cells.size=i.size:=by rw[<- hl,l1];simp
  simp only[execOp,ex,Instr.storeAt,Instr.sureAddr,storeVar,Sem.run_bind,Sem.run_pure,Result.andThen_ok,hX.run_sizeOf hi]
  rw[if_neg (by simpa using hsz),r1];rfl
 unfold Oper.wp
 rw[hrun,Oper.upon_skip,hd]
 have vg:∀b' o',b'≠b->w'.cell? ⟨b',o',none⟩=w.cell? ⟨b',o',none⟩:=fun b' o' h=>r3 b' o' (.inl h)
 have ab8:∀b' o' v,g.G b' o'=some v->b'≠b:=by
  rintro b' o' v h rfl;rw[Yz]at h;simp at h
 have:=hnext Go.undef w' g ot ⟨?_,?_,?_,?_,hinv.gw,hinv.used,?_⟩ ⟨r2.2.1,r2.2.2.1,r2.2.2.2.1,bn,fun b' hb0 hno=>r2.2.2.2.2 b' (by rintro rfl;exact hno 0 (.inl ⟨key,cells,hb',z8⟩)),?_,jk.le.refl _,fun _ _ _ h => .inl h,?_,?_,fun k _ h=>⟨by simp only[St.qa,ew]at h;split at h;(· rename_i hk;subst hk;rw[hb'];simp);(· exact h),rfl,rfl⟩⟩ (Gh.le.refl _)
 ·simp_all
 ·intro b' o' v h
  rw[vg b' o' (ab8 b' o' v h)];exact hinv.oI b' o' v h
 ·intro k cs e
  simp only[St.qa,ew]at e
  split at e
  ·rename_i hk;subst hk;simp at e;subst e
   refine⟨b,z8,bn,Yz,?_⟩
   apply cr.jQ
   intro j c hj
   rw[w3]at hj
   simp only[Nat.zero_add]
   split at hj
   ·rename_i hin
    obtain⟨u,e1,e2⟩:=l2 _ _ hj
    refine⟨⟨u,?_,e2,?_⟩,?_⟩
    ·have:=r5 (j-off) u (by simpa using e1)
     rwa[show off+0+(j-off)=j from by omega]at this
    ·rw[List.all_eq_true]at c2;exact c2 c (aaw hj)
    ·rw[r4]
     have hjl:j<cells.length:=by omega
     have:=(hbc.get j cells[j] (by simp[hjl])).2
     simpa using this
   ·rename_i hin
    obtain⟨⟨u,e1,e2,e3⟩,e4⟩:=hbc.get j c hj
    simp only[Nat.zero_add]at e1 e4
    refine⟨⟨u,?_,e2,e3⟩,by rw[r4];exact e4⟩
    rw[r3 b j (by right;have:=l1;omega)];exact e1
  ·rename_i hk
   obtain⟨b',e1,e2,e3,e4⟩:=hinv.box k cs e
   have zP:b'≠b:=by
    rintro rfl
    exact hk (hinv.fB k key cs cells _ e hb' e1 z8)
   exact⟨b',e1,bn,e3,cr.of_same (fun o=>⟨vg b' o zP,r4 b' o⟩) e4⟩
 ·intro k k' cs cs' b'' e e' e1 e2
  have hex:∀k cs,ak k (σ1.qa key r).boxes=some cs->∃cs,ak k σ1.boxes=some cs:=by
   intro k cs e
   simp only[St.qa,ew]at e
   split at e
   ·simp_all
   ·exact⟨_,e⟩
  obtain⟨c1,f1⟩:=hex k cs e
  obtain⟨c2,f2⟩:=hex k' cs' e'
  exact hinv.fB k k' c1 c2 b'' f1 f2 e1 e2
 ·intro k n e
  obtain⟨fS,e1,e2⟩:=hinv.tok k n e
  refine⟨fS,e1,fun b' lo hi hr=>?_⟩
  obtain⟨e3,e4,e5⟩:=e2 b' lo hi hr
  have zP:b'≠b:=by
   rintro rfl;exact e5 key cells hb' z8
  refine⟨bn,fun o' h1 h2=>?_,fun k' cs e'=>?_⟩
  ·simp_all
  ·simp only[St.qa,ew]at e'
   split at e'
   ·rename_i hk;subst hk;exact e5 _ cells hb'
   ·exact e5 k' cs e'
 ·intro k cs b0 e hb0 o0
  have hex:∃cs0,ak k σ1.boxes=some cs0:=by
   simp only[St.qa,ew]at e
   split at e
   ·simp_all
   ·exact⟨_,e⟩
  obtain⟨cs0,e0⟩:=hex
  obtain⟨q0,q2⟩:=hinv.room k cs0 b0 e0 hb0 o0
  refine⟨fun ho0=>?_,by rw[r4];exact q2⟩
  obtain⟨u,q1⟩:=q0 ho0
  by_cases hw0:b0=b/\off<=o0/\o0<off+(act.eval y).cells.toList.length
  ·obtain⟨rfl,h5,h6⟩:=hw0
   obtain⟨v,hj⟩:∃v,(act.eval y).cells.toList[o0-off]?=some v:=⟨_,List.getElem?_eq_getElem bn⟩
   have:=r5 (o0-off) v hj
   rw[show off+0+(o0-off)=o0 from by omega]at this
   exact⟨v,this⟩
  ·refine⟨u,?_⟩
   rw[r3 b0 o0 (by
    by_cases zP:b0=b
    ·omega
    ·exact .inl zP)]
   exact q1
 ·intro b' o' hlt hno
  refine⟨vg b' o' ?_,r4 b' o'⟩
  rintro rfl
  exact hno (.inl ⟨key,cells,hb',z8⟩)
 ·intro k cs b' e e1
  simp only[St.qa,ew]at e
  split at e
  ·rename_i hk;subst hk;exact .inr ⟨_,_,hb',e1⟩
  ·exact .inr ⟨k,cs,e,e1⟩
 ·exact X9
end
end Go.cq
namespace Go.cq
def Hu:AV->Value->Bool
 | .c (.int k n),.int k' n'=>k==k'&&n==n'
 | .c (.bool b),.bool b'=>b==b'
 | .c (.str []),.string s=>s.data.toList.isEmpty
 | .c .lO,.pointer none=>true
 | .own .exact _ [],.slice none 0 0=>true
 | _,_=>false
def Ar:List AV->List Value->Bool
 | [],[]=>true
 | a::l,v::vs=>Hu a v&&Ar l vs
 | _,_=>false
def SM:AV->Value->Bool
 | .agg l,.agg cs=>Ar l cs.toList
 | a,v=>Hu a v
theorem FX {a:AV} {v:Value} (h:Hu a v=true) (g:Gh):aK g a v/\a.one=true:=by
 unfold Hu at h;split at h<;>simp at h
 ·obtain⟨rfl,rfl⟩:=h;simp[aK,Rel,AV.one,CV.one]
 ·subst h;simp[aK,Rel,AV.one,CV.one]
 ·rename_i s;simp only[aK,Rel,AV.one,CV.one,and_true];congr 1;apply ByteArray.ext;simp[h]
 ·simp[aK,Rel,AV.one,CV.one]
 ·simp only[aK,AV.one,and_true];exact⟨_,_,_,rfl,rfl,aak _,.inl rfl,rfl⟩
theorem FY (g:Gh):∀{l:List AV} {vs:List Value},Ar l vs=true->bF g l vs/\l.all AV.one=true
 | [],[],_=>by simp[bF]
 | [],_::_,h=>by simp[Ar]at h
 | _::_,[],h=>by simp[Ar]at h
 | a::l,v::vs,h=>by
  simp only[Ar,aai]at h;obtain⟨h1,h2⟩:=FX h.1 g;obtain⟨V,Y⟩:=FY g h.2;exact⟨by simp only[bF];exact⟨v,vs,rfl,h1,V⟩,by simp only[List.all_cons,h2,Bool.true_and];exact Y⟩
theorem SN {a:AV} {v:Value} (h:SM a v=true) (g:Gh):aK g a v:=by
 unfold SM at h;split at h
 ·rename_i l cs;obtain⟨h1,h2⟩:=FY g h;simp only[aK];exact⟨cs.toList,c9,h1,h2⟩
 ·exact(FX h g).1
def Mi (P:Program) (k:TK) (d:TypeDesc):Bool :=
 match k,d with
 | .int k,.int k'=>k==k'
 | .bool,.bool=>true
 | .str,.string=>true
 | .ptr e,.pointer e'=>e==e'
 | .slice e,.slice e'=>e==e'
 | .arr n e,.array H e'=>n==H&&e==e'
 | .struct W,.struct Y=>Y.toList.map (fun f=>(f.offset,f.type))==W&&Y.toList.all fun f=>match P.info? f.type with
  | some G=>G.size != 0
  | none=>false
 | .other,.func .. => true
 | .other,.map .. => true
 | .other,.tuple .. => true
 | _,_=>false
theorem PW {P:Program} {k:TK} {d:TypeDesc} (h:Mi P k d=true):eF P k d:=by
 unfold Mi at h;split at h<;>simp at h<;>simp only[eF]
 ·rw[h]
 ·rw[h]
 ·rw[h]
 ·rw[h.1,h.2]
 ·rename_i U Y;refine⟨Y,rfl,by simpa using h.1,fun f hf=>?_⟩;obtain⟨i,W,V⟩:=Array.getElem_of_mem (Array.mem_toList_iff.1 hf);have:=h.2 i W;rw[V]at this;split at this
  ·simp_all
  ·simp at this
def RL (P:Program) (t:Nat) (i:TI):Bool :=
 match P.info? t,P.underlying t with
 | some G,some d=>G.size==i.size&&G.bytes==i.bytes&&i.size != 0&&Mi P i.kind d &&
  (match i.zero with
   | none=>true
   | some a=>match G.zero with
    | none=>false
    | some z=>SM a z&&z.cells.size==i.size)
 | _,_=>false
theorem RM {P:Program} {table:List (Nat×TI)} {X:Ctx} (hX:X.ti=fun t=>ak t table) (h:table.all (fun p=>RL P p.1 p.2)=true):cx P X where
 ti:=fun t i e=>by
  rw[hX]at e;have u:∀(l:List (Nat×TI)),l.all (fun p=>RL P p.1 p.2)=true->ak t l=some i->RL P t i=true:=by
   intro l
   induction l with
   | nil=>intro _ e;simp[ak]at e
   | cons x l S =>
    intro h e;obtain⟨j,y⟩:=x;simp only[List.all_cons,aai]at h;simp only[ak]at e;split at e
    ·rename_i W;have Y:=beq_true W;rw[<- Y];simp at e;rw[<- e];exact h.1
    ·exact S h.2 e
  have:=u table h e;unfold RL at this;split at this
  ·rename_i G d h1 h2;simp only[aai,beq_iff_eq,bne_iff_ne]at this;obtain⟨⟨⟨⟨C,H⟩,a3⟩,V⟩,J⟩:=this;refine⟨G,h1,C,H,?_,⟨d,h2,PW V⟩,a3⟩;intro a U;rw[U]at J;simp only at J;split at J
   ·simp at J
   ·rename_i z I;simp only[aai,beq_iff_eq]at J;exact⟨z,I,SN J.1,J.2⟩
  ·simp at this
end Go.cq
namespace Go.cq
section
variable {P:Program} {X:Ctx} {ops:Array Oper} {o:Oper} {rest:List Oper} {env:Env} {σ:St} {acc:List Fp} {Q:Env->St->List Fp->Prop}
 {bs:List (Nat×List AV)} {ts:List (Nat×Nat)} {us:List Nat} {kn:List Nat}
theorem dj (h:cU ops.toList kn env o=some true):qH ops o env:=by
 have:=sr h;simpa using this
theorem ai.SJ (kn:List Nat) (hg:cU ops.toList kn env o=some true) {f:FuncId} {args:Array Operand} {ats:Array TypeId} (ho:o.op = .call {callee := .value (.func f),args:=args,argTypes:=ats})
  {d:Nat} (hd:o.dst=some d) {oN:List CV} (ha:gV (aL X env) args.toList=some oN) {r:CV} (hq:bh P X f oN r)
  (k:ai P X ops rest ((d,.c r)::env) σ (⟨[],[]⟩::acc) Q):ai P X ops (o::rest) env σ acc Q :=
 ai.step (dj hg) (bU.SJ ho ha hq) (gR.id _) tN
theorem ai.SK (kn:List Nat) (hg:cU ops.toList kn env o=some true) {x:Operand} {args:Array Operand} {ats:Array TypeId} (ho:o.op = .call {callee := .value x,args:=args,argTypes:=ats})
  {d:Nat} (hd:o.dst=some d) {f:FuncId} {caps:List CV} (hx:aL X env x=some (.c (.rM f caps))) {oN:List CV} (ha:gV (aL X env) args.toList=some oN) {r:CV} (hq:bh P X f (oN++caps) r)
  (k:ai P X ops rest ((d,.c r)::env) σ (⟨[],[]⟩::acc) Q):ai P X ops (o::rest) env σ acc Q :=
 ai.step (dj hg) (bU.SK ho hx ha hq) (gR.id _) tN
theorem ai.box (kn:List Nat) (hg:cU ops.toList kn env o=some true) {t:TypeId} {x:Operand} (ho:o.op = .box t x) {d:Nat} (hd:o.dst=some d) {a:AV} (ha:aL X env x=some a)
  {cells:List AV} (hc:jR a=some cells) (hu:JS d us=false) (k:ai P X ops rest ((d,.ptr d 0)::env) ⟨(d,cells)::bs,ts,d::us⟩ (⟨[],[d]⟩::acc) Q) :
  ai P X ops (o::rest) env ⟨bs,ts,us⟩ acc Q :=
 ai.step (dj hg) (bU.box ho hd ha hc hu) (pZ d cells) tN
theorem ai.alloc (hX:cx P X) (kn:List Nat) (hg:cU ops.toList kn env o=some true) {t:TypeId} (ho:o.op = .alloc t) {d:Nat} (hd:o.dst=some d) {i:TI} (hi:X.ti t=some i) {za:AV} (hz:i.zero=some za)
  {cells:List AV} (hc:jR za=some cells) (hu:JS d us=false) (k:ai P X ops rest ((d,.ptr d 0)::env) ⟨(d,cells)::bs,ts,d::us⟩ (⟨[],[d]⟩::acc) Q) :
  ai P X ops (o::rest) env ⟨bs,ts,us⟩ acc Q :=
 ai.step (dj hg) (bU.alloc hX ho hd hi hz hc hu) (pZ d cells) tN
theorem ai.store (hX:cx P X) (kn:List Nat) (hg:cU ops.toList kn env o=some true) {t:TypeId} {x y:Operand} (ho:o.op = .store t x y) (hd:o.dst=none) {i:TI} (hi:X.ti t=some i) {key off:Nat}
  (hx:aL X env x=some (.ptr key off)) {a:AV} (hy:aL X env y=some a) {cells vs r:List AV} (hb:ak key bs=some cells) (hc:jR a=some vs)
  (hl:Nat.beq vs.length i.size=true) (hw:dK off vs cells=some r) {bs':List (Nat×List AV)} (hs:xd key r bs=some bs')
  (k:ai P X ops rest env ⟨bs',ts,us⟩ (⟨[],[key]⟩::acc) Q):ai P X ops (o::rest) env ⟨bs,ts,us⟩ acc Q:=by
 rw[si]at hs
 simp only[Option.some.injEq]at hs
 subst hs
 exact ai.step (dj hg) (bU.store hX ho hd hi hx hy hb hc (beq_true hl) hw) (Mh key r) tN
end
end Go.cq
namespace Go.cq
def closeAll:List AV->Option (List CV)
 | []=>some []
 | .c v::l=>match closeAll l with
  | some r=>some (v::r)
  | none=>none
 | .own _ s rows::l=>match closeAll l with
  | some r=>some (.sl s rows::r)
  | none=>none
 | _=>none
mutual
def qb (k:Nat) (cs:List CV):AV->Option AV
 | .ptr j off=>match Nat.beq j k with
  | true=>match gr off cs with
   | some r=>some (.c (.ip r))
   | none=>none
  | false=>some (.ptr j off)
 | .gv j off s n=>match Nat.beq j k with
  | true=>none
  | false=>some (.gv j off s n)
 | .agg l=>match qc k cs l with
  | some r=>some (.agg r)
  | none=>none
 | .gy l=>match qc k cs l with
  | some r=>some (.gy r)
  | none=>none
 | a=>some a
def qc (k:Nat) (cs:List CV):List AV->Option (List AV)
 | []=>some []
 | a::l=>match qb k cs a with
  | some x=>match qc k cs l with
   | some r=>some (x::r)
   | none=>none
  | none=>none
end
def Dn (k:Nat) (cs:List CV):Env->Option Env
 | []=>some []
 | (t,a)::l=>match qb k cs a with
  | some x=>match Dn k cs l with
   | some r=>some ((t,x)::r)
   | none=>none
  | none=>none
def As (k:Nat) (cs:List CV):List (Nat×List AV)->Option (List (Nat×List AV))
 | []=>some []
 | (j,a)::l=>match Nat.beq j k with
  | true=>As k cs l
  | false=>match qc k cs a with
   | some x=>match As k cs l with
    | some r=>some ((j,x)::r)
    | none=>none
   | none=>none
section
variable {P : Program} {X : Ctx}
theorem vh {w:World} {g:Gh} {b:Nat}:∀{cells:List AV} {cs:List CV} {o:Nat},closeAll cells=some cs->cr w g b o cells ->
  cells.length=cs.length/\∀(j:Nat) c,cs[j]?=some c->∃u,w.cell? ⟨b,o+j,none⟩=some u/\Rel g.G c u/\c.one=true
 | [],cs,o,h,_=>by simp[closeAll]at h;subst h;simp
 | .c v::l,cs,o,h,hc=>by
  simp only[closeAll]at h
  split at h
  ·rename_i r hr
   simp at h;subst h
   obtain⟨⟨u,h1,h2,h3⟩,_,h4⟩:=hc
   obtain⟨i1,i2⟩:=vh hr h4
   refine⟨by simp[i1],fun j c hj=>?_⟩
   cases j with
   | zero=>simp at hj;subst hj;exact⟨u,h1,BI,h3⟩
   | succ j =>
    simp at hj
    have:=i2 j c hj
    rwa[show o+1+j=o+(j+1)from by omega]at this
  ·simp at h
 | .own k s rows::l,cs,o,h,hc=>by
  simp only[closeAll]at h
  split at h
  ·rename_i r hr
   simp at h;subst h
   obtain⟨⟨u,h1,h2,h3⟩,_,h4⟩:=hc
   obtain⟨i1,i2⟩:=vh hr h4
   refine⟨by simp[i1],fun j c hj=>?_⟩
   cases j with
   | zero =>
    simp at hj;subst hj
    have:=sn (.own k s rows) (.sl s rows) u rfl h2
    exact⟨u,h1,this.1,rfl⟩
   | succ j =>
    simp at hj
    have:=i2 j c hj
    rwa[show o+1+j=o+(j+1)from by omega]at this
  ·simp at h
 | .ptr _ _::l,cs,o,h,hc=>by simp[closeAll]at h
 | .gv .. :: l,cs,o,h,hc=>by simp[closeAll]at h
 | .any::l,cs,o,h,hc=>by simp[closeAll]at h
 | .agg _::l,cs,o,h,hc=>by simp[closeAll]at h
 | .gy _::l,cs,o,h,hc=>by simp[closeAll]at h
def Gh.freeze (g:Gh) (w:World) (k b n:Nat):Gh :=
 ⟨fun P o=>if P=b/\o<n then w.cell? ⟨P,o,none⟩else g.G P o,fun j=>if j=k then none else g.box j,g.tok,g.room⟩
theorem At {g:Gh} {w:World} {k b n:Nat} (D:∀b o v,g.G b o=some v->w.cell? ⟨b,o,none⟩=some v):g.G.le (g.freeze w k b n).G:=by
 intro P o v h;simp only[Gh.freeze];split
 ·exact D _ _ _ h
 ·exact h
mutual
theorem Au {g:Gh} {w:World} {k b:Nat} {cs:List CV} (D:∀b o v,g.G b o=some v->w.cell? ⟨b,o,none⟩=some v) (T:g.box k=some b)
  (Y:cN (g.freeze w k b cs.length).G b 0 cs):∀{a x:AV} {u:Value},qb k cs a=some x->aK g a u->aK (g.freeze w k b cs.length) x u/\(a.one=true->x.one=true)
 | .ptr j off,x,u,h,I=>by
  simp only[qb]at h;simp only[aK]at I;obtain⟨P,h1,rfl⟩:=I;split at h
  ·rename_i V;have:=beq_true V;subst this;rw[T]at h1;simp at h1;subst h1;split at h
   ·rename_i r I;simp at h;subst h;obtain⟨rfl,A⟩:=kI I;refine⟨?_,fun _=>rfl⟩;simp only[aK,Rel];exact⟨b,off,rfl,by simpa using Y.drop (n:=off)⟩
   ·simp at h
  ·rename_i V;have:=beq_false V;simp at h;subst h;exact⟨by simp only[aK];exact⟨P,by simp[Gh.freeze,this,h1],rfl⟩,id⟩
 | .gv j off s n,x,u,h,I=>by
  simp only[qb]at h;simp only[aK]at I;obtain⟨P,W,o,h1,rfl,h2,Q⟩:=I;split at h
  ·simp at h
  ·rename_i V;have:=beq_false V;simp at h;subst h;exact⟨by simp only[aK];exact⟨P,W,o,by simp[Gh.freeze,this,h1],rfl,h2,Q⟩,id⟩
 | .any,x,u,h,I=>by
  simp[qb]at h;subst h;exact⟨by simp only[aK]at I ⊢;exact I,id⟩
 | .agg l,x,u,h,I=>by
  simp only[qb]at h;split at h
  ·rename_i r M;simp at h;subst h;simp only[aK]at I;obtain⟨vs,rfl,h1,h2⟩:=I;obtain⟨S,U⟩:=Av D T Y M h1;exact⟨by simp only[aK];exact⟨vs,rfl,S,U h2⟩,fun h=>by simp[AV.one]at h⟩
  ·simp at h
 | .gy l,x,u,h,I=>by
  simp only[qb]at h;split at h
  ·rename_i r M;simp at h;subst h;simp only[aK]at I;obtain⟨vs,rfl,h1,h2⟩:=I;obtain⟨S,U⟩:=Av D T Y M h1;have N:r.length=l.length:=by
    have C:=(bF.get S).1;have B:=(bF.get h1).1;omega
   exact⟨by simp only[aK];exact⟨vs,rfl,S,bn⟩,fun h=>by simp[AV.one]at h⟩
  ·simp at h
 | .c v,x,u,h,I=>by
  simp[qb]at h;subst h;exact⟨by simp only[aK]at I ⊢;exact Rel.mono (At D) _ _ I,id⟩
 | .own o s rows,x,u,h,I=>by
  simp[qb]at h;subst h;refine⟨?_,id⟩;simp only[aK]at I ⊢;obtain⟨base,O,W,e,h1,h2,Q,K⟩:=I;refine⟨base,O,W,e,h1,h2,Q.mono (At D),?_⟩;cases o with
  | exact=>exact K
  | tok J n=>exact K
theorem Av {g:Gh} {w:World} {k b:Nat} {cs:List CV} (D:∀b o v,g.G b o=some v->w.cell? ⟨b,o,none⟩=some v) (T:g.box k=some b)
  (Y:cN (g.freeze w k b cs.length).G b 0 cs):∀{l r:List AV} {us:List Value},qc k cs l=some r->bF g l us->bF (g.freeze w k b cs.length) r us/\(l.all AV.one=true->r.all AV.one=true)
 | [],r,us,h,I=>by
  simp[qc]at h;subst h;simp only[bF]at I ⊢;exact⟨I,id⟩
 | a::l,r,us,h,I=>by
  simp only[qc]at h;split at h
  ·rename_i x q;split at h
   ·rename_i p M;simp at h;subst h;simp only[bF]at I;obtain⟨u,us,rfl,h1,h2⟩:=I;obtain⟨S,U⟩:=Au D T Y q h1;obtain⟨H,E⟩:=Av D T Y M h2;refine⟨by simp only[bF];exact⟨u,us,rfl,S,H⟩,fun h=>?_⟩;simp only[List.all_cons,aai]at h ⊢;exact⟨U h.1,E h.2⟩
   ·simp at h
  ·simp at h
end
theorem Dp {k:Nat} {cs:List CV}:∀{env env':Env},Dn k cs env=some env'->∀t x,ak t env'=some x->∃a,ak t env=some a/\qb k cs a=some x
 | [],env',h,t,x,e=>by simp[Dn]at h;subst h;simp[ak]at e
 | (j,a)::l,env',h,t,x,e=>by
  simp only[Dn]at h;split at h
  ·rename_i y N;split at h
   ·rename_i r I;simp at h;subst h;rw[au]at e;rw[au];split at e
    ·simp_all
    ·rename_i M;rw[if_neg M];exact Dp I t x e
   ·simp at h
  ·simp at h
theorem jA {k:Nat} {cs:List CV}:∀{bs bs':List (Nat×List AV)},As k cs bs=some bs'->∀j x,ak j bs'=some x->j≠k/\∃a,ak j bs=some a/\qc k cs a=some x
 | [],bs',h,j,x,e=>by simp[As]at h;subst h;simp[ak]at e
 | (i,a)::l,bs',h,j,x,e=>by
  simp only[As]at h;split at h
  ·rename_i W;have:=beq_true W;subst this;obtain⟨h1,q,h2,V⟩:=jA h j x e;exact⟨h1,q,by rw[au,if_neg h1];exact h2,V⟩
  ·rename_i W;have J:=beq_false W;split at h
   ·rename_i y N;split at h
    ·rename_i r I;simp at h;subst h;rw[au]at e;rw[au];split at e
     ·simp_all
     ·rename_i Y;obtain⟨h1,q,h2,V⟩:=jA I j x e;exact⟨h1,q,by rw[if_neg Y];exact h2,V⟩
    ·simp at h
   ·simp at h
theorem AK.freeze {f:FuncId} {n:Nat} {β:jG} {R:Ending->World->Prop} {K:List Item} {env env':Env} {bs bs':List (Nat×List AV)} {ts:List (Nat×Nat)} {us:List Nat} (k:Nat)
  {cells:List AV} {cs:List CV} (B:ak k bs=some cells) (p:closeAll cells=some cs) (he:Dn k cs env=some env') (S:As k cs bs=some bs')
  (h:AK P X f n β R K env' ⟨bs',ts,us⟩):AK P X f n β R K env ⟨bs,ts,us⟩:=by
 intro g w a cst A;obtain⟨b,I,hlt,hGn,Zs⟩:=A.inv.box k cells B;obtain⟨hlen,Q⟩:=vh p Zs;let g':=g.freeze w k b cs.length;have J:g.G.le g'.G:=At A.inv.oI;have H:cN g'.G b 0 cs:=by
  apply cN.jQ;intro j c hj;obtain⟨u,C,U,e3⟩:=Q j c hj;have hjl:j<cs.length:=(List.getElem?_eq_some_iff.1 hj).1;refine⟨u,?_,Rel.mono J _ _ U,e3⟩;simp only[g',Gh.freeze,Nat.zero_add,true_and,hjl,if_true];simpa using C
 have V:∀Y o,Y≠b->g'.G Y o=g.G Y o:=by
  intro Y o T;simp only[g',Gh.freeze,T,false_and,if_false]
 have iQ:∀(Y:Nat) (l r:List AV) (o:Nat),qc k cs l=some r->cr w g Y o l->cr w g' Y o r:=by
  intro Y l
  induction l with
  | nil=>intro r o h1 _;simp[qc]at h1;subst h1;trivial
  | cons x l ih =>
   intro r o h1 h2;simp only[qc]at h1;split at h1
   ·rename_i y hy;split at h1
    ·rename_i r' hr';simp at h1;subst h1;obtain⟨⟨u,h3,h4,h5⟩,h6,h7⟩:=h2;obtain⟨i1,i2⟩:=Au A.inv.oI I H hy h4;exact⟨⟨u,h3,i1,i2 h5⟩,h6,ih r' (o+1) hr' h7⟩
    ·simp at h1
   ·simp at h1
 refine h g' w a cst ⟨⟨?_,?_,?_,?_,?_,?_,?_⟩,?_,?_,?_,A.size,A.defers⟩
 ·intro Y o v O;simp only[g',Gh.freeze]at O;split at O
  ·exact O
  ·exact A.inv.oI _ _ _ O
 ·intro j x e;obtain⟨q,l,C,U⟩:=jA S j x e;obtain⟨Y,W,f2,f3,f4⟩:=A.inv.box j l C;have M:Y≠b:=by
   rintro rfl;exact q (A.inv.fB j k l cells Y C B W I)
  exact⟨Y,by simp[g',Gh.freeze,q,W],f2,fun o=>by rw[V Y o M];exact f3 o,iQ Y l x 0 U f4⟩
 ·intro j N x x' Y e e' C U;obtain⟨q,l,W,_⟩:=jA S j x e;obtain⟨ab9,l',ZF,_⟩:=jA S N x' e';simp only[g',Gh.freeze,q,ab9,if_false]at C U;exact A.inv.fB j N l l' Y W ZF C U
 ·intro j m e;obtain⟨fS,C,U⟩:=A.inv.tok j m e;refine⟨fS,C,fun Y E D hr=>?_⟩;obtain⟨W,f2,f3⟩:=U Y E D hr;have M:Y≠b:=by rintro rfl;exact f3 k cells B I
  refine⟨W,fun o o1 o2=>?_,fun N x e'=>?_⟩
  ·obtain⟨f4,f5,f6⟩:=f2 o o1 o2;exact⟨by rw[V Y o M];exact f4,f5,f6⟩
  ·obtain⟨q,l,f7,_⟩:=jA S N x e';simp only[g',Gh.freeze,q,if_false];exact f3 N l f7
 ·intro j N m m' Y E D lo' hi' e e' C U;exact A.inv.gw j N m m' Y E D lo' hi' e e' C U
 ·intro j e;apply A.inv.used j;simp only[g',Gh.freeze]at e;rcases e with e|e
  ·left;intro hn;apply e;split
   ·rfl
   ·exact hn
  ·exact .inr e
 ·intro j x Y e T o;obtain⟨q,l,W,_⟩:=jA S j x e;simp only[g',Gh.freeze,q,if_false]at T ⊢;exact A.inv.room j l Y W T o
 ·intro m v hm;exact Rel.mono J _ _ (A.rC m v hm)
 ·intro t x e;obtain⟨y,C,U⟩:=Dp he t x e;exact(Au A.inv.oI I H U (A.env t y C)).1
 ·refine A.frame.trans ⟨rfl,rfl,rfl,aak _,fun _ _ _=>rfl,fun _ _ _ _=>⟨rfl,rfl⟩,J,fun Y o v O=>?_,fun j x Y e C=>?_,fun j m Y E D e C => .inr ⟨j,m,E,D,e,C,aak _,aak _⟩,fun j _ h=>?_⟩
  ·by_cases M:Y=b
   ·subst M;exact .inr (.inr (.inl ⟨k,cells,B,I⟩))
   ·rw[V Y o M]at O;exact .inl O
  ·obtain⟨q,l,W,_⟩:=jA S j x e;simp only[g',Gh.freeze,q,if_false]at C;exact .inr ⟨j,l,W,C⟩
  ·cases p:ak j bs' with
   | none=>exact absurd p h
   | some x =>
    obtain⟨q,l,W,_⟩:=jA S j x p;exact⟨by rw[W];simp,by simp[g',Gh.freeze,q],by simp[g',Gh.freeze]⟩
end
end Go.cq
namespace Go.cq
mutual
def SO (us:List Nat):AV->Bool
 | .c _=>true
 | .own .exact _ _=>true
 | .own (.tok u _) _ _=>mem u us
 | .ptr u _=>mem u us
 | .gv u _ _ _=>mem u us
 | .any=>true
 | .agg l=>y8 us l
 | .gy l=>y8 us l
def y8 (us:List Nat):List AV->Bool
 | []=>true
 | a::l=>match SO us a with
  | true=>y8 us l
  | false=>false
end
def YA (us:List Nat):Env->Bool
 | []=>true
 | (_,a)::l=>match SO us a with
  | true=>YA us l
  | false=>false
def okB (us:List Nat):List (Nat×List AV)->Bool
 | []=>true
 | (k,a)::l=>match mem k us,y8 us a with
  | true,true=>okB us l
  | _,_=>false
def YB (us:List Nat):List (Nat×Nat)->Bool
 | []=>true
 | (k,_)::l=>match mem k us with
  | true=>YB us l
  | false=>false
def Has (env:Env) (t:Nat) (a:AV):Prop:=ak t env=some a\/∃b v,ak t env=some b/\close b=some v/\a = .c v
def Dq (env:Env):Env->Prop
 | []=>True
 | (t,a)::l=>Has env t a/\Dq env l
def SP (bs:List (Nat×List AV)):List (Nat×List AV)->Prop
 | []=>True
 | (k,a)::l=>ak k bs=some a/\SP bs l
def JI (ts:List (Nat×Nat)):List (Nat×Nat)->Prop
 | []=>True
 | (k,a)::l=>ak k ts=some a/\JI ts l
theorem mem_iff {k:Nat}:∀{l:List Nat},mem k l=true↔k∈l
 | []=>by simp[mem]
 | x::l=>by
  simp only[mem];split
  ·simp_all
  ·rename_i h;have:=beq_false h;simp[mem_iff (l:=l),Ne.symm this]
def Gh.only (g:Gh) (us:List Nat):Gh:=⟨g.G,fun k=>if mem k us then g.box k else none,fun k=>if mem k us then g.tok k else none,g.room⟩
mutual
theorem Mj {g:Gh} {us:List Nat}:∀{a:AV} {u:Value},SO us a=true->aK g a u->aK (g.only us) a u
 | .c v,u,_,h=>by simp only[aK]at h ⊢;exact h
 | .own .exact s rows,u,_,h=>by simp only[aK]at h ⊢;exact h
 | .own (.tok Y n) s rows,u,p,h=>by
  simp only[SO]at p;simp only[aK]at h ⊢;obtain⟨base,G,I,e,h1,h2,V,O,A,W,U⟩:=h;exact⟨base,G,I,e,h1,h2,V,O,A,by simp[Gh.only,p,W],U⟩
 | .ptr Y off,u,p,h=>by
  simp only[SO]at p;simp only[aK]at h ⊢;obtain⟨b,h1,h2⟩:=h;exact⟨b,by simp[Gh.only,p,h1],h2⟩
 | .gv Y off s n,u,p,h=>by
  simp only[SO]at p;simp only[aK]at h ⊢;obtain⟨b,I,o,h1,h2,V,W⟩:=h;exact⟨b,I,o,by simp[Gh.only,p,h1],h2,V,W⟩
 | .any,u,_,h=>by simp only[aK]at h ⊢;exact h
 | .agg l,u,p,h=>by
  simp only[SO]at p;simp only[aK]at h ⊢;obtain⟨vs,e,h1,h2⟩:=h;exact⟨vs,e,Hv p h1,h2⟩
 | .gy l,u,p,h=>by
  simp only[SO]at p;simp only[aK]at h ⊢;obtain⟨vs,e,h1,h2⟩:=h;exact⟨vs,e,Hv p h1,h2⟩
theorem Hv {g:Gh} {us:List Nat}:∀{l:List AV} {vs:List Value},y8 us l=true->bF g l vs->bF (g.only us) l vs
 | [],vs,_,h=>by simpa only[bF]using h
 | a::l,vs,p,h=>by
  simp only[y8]at p;split at p
  ·rename_i h1;simp only[bF]at h ⊢;obtain⟨u,us',e,h2,V⟩:=h;exact⟨u,us',e,Mj h1 h2,Hv p V⟩
  ·simp at p
end
theorem On {us:List Nat}:∀{env:Env},YA us env=true->∀t a,ak t env=some a->SO us a=true
 | [],_,t,a,e=>by simp[ak]at e
 | (j,x)::l,h,t,a,e=>by
  simp only[YA]at h;split at h
  ·rename_i O;rw[au]at e;split at e
   ·simp_all
   ·exact On h t a e
  ·simp at h
theorem qI {us:List Nat}:∀{bs:List (Nat×List AV)},okB us bs=true->∀k a,ak k bs=some a->mem k us=true/\y8 us a=true
 | [],_,t,a,e=>by simp[ak]at e
 | (j,x)::l,h,t,a,e=>by
  simp only[okB]at h;split at h
  ·rename_i Y O;rw[au]at e;split at e
   ·simp_all
   ·exact qI h t a e
  ·simp at h
theorem y9 {us:List Nat}:∀{ts:List (Nat×Nat)},YB us ts=true->∀k a,ak k ts=some a->mem k us=true
 | [],_,t,a,e=>by simp[ak]at e
 | (j,x)::l,h,t,a,e=>by
  simp only[YB]at h;split at h
  ·rename_i Y;rw[au]at e;split at e
   ·simp_all
   ·exact y9 h t a e
  ·simp at h
theorem Dr {env:Env}:∀{l:Env},Dq env l->∀t a,ak t l=some a->Has env t a
 | [],_,t,a,e=>by simp[ak]at e
 | (j,x)::l,h,t,a,e=>by
  rw[au]at e;split at e
  ·rename_i M;subst M;simp at e;subst e;exact h.1
  ·exact Dr h.2 t a e
theorem ov {bs:List (Nat×List AV)}:∀{l:List (Nat×List AV)},SP bs l->∀k a,ak k l=some a->ak k bs=some a
 | [],_,t,a,e=>by simp[ak]at e
 | (j,x)::l,h,t,a,e=>by
  rw[au]at e;split at e
  ·rename_i M;subst M;simp at e;subst e;exact h.1
  ·exact ov h.2 t a e
theorem qd {ts:List (Nat×Nat)}:∀{l:List (Nat×Nat)},JI ts l->∀k a,ak k l=some a->ak k ts=some a
 | [],_,t,a,e=>by simp[ak]at e
 | (j,x)::l,h,t,a,e=>by
  rw[au]at e;split at e
  ·rename_i M;subst M;simp at e;subst e;exact h.1
  ·exact qd h.2 t a e
section
variable {P : Program} {X : Ctx}
theorem AK.SQ {f:FuncId} {n:Nat} {β:jG} {R:Ending->World->Prop} {K:List Item} {env:Env} {bs:List (Nat×List AV)} {ts:List (Nat×Nat)} {us:List Nat}
  (env':Env) (bs':List (Nat×List AV)) (ts':List (Nat×Nat)) (us':List Nat)
  (q:Dq env env') (G:SP bs bs') (M:JI ts ts') (h1:YA us' env'=true) (h2:okB us' bs'=true) (V:YB us' ts'=true)
  (h:AK P X f n β R K env' ⟨bs',ts',us'⟩):AK P X f n β R K env ⟨bs,ts,us⟩:=by
 intro g w a cs A;refine h (g.only us') w a cs ⟨⟨A.inv.oI,?_,?_,?_,?_,?_,?_⟩,A.rC,?_,?_,A.size,A.defers⟩
 ·intro k x e;obtain⟨p,m2⟩:=qI h2 k x e;obtain⟨b,C,U,e3,e4⟩:=A.inv.box k x (ov G k x e);refine⟨b,by simp[Gh.only,p,C],U,e3,?_⟩;have Y:∀(l:List AV) (o:Nat),y8 us' l=true->cr w g b o l->cr w (g.only us') b o l:=by
   intro l
   induction l with
   | nil=>intro _ _ _;trivial
   | cons y l ih =>
    intro o h1 h2;simp only[y8]at h1;split at h1
    ·rename_i N;obtain⟨⟨u,T,Q,O⟩,f4,f5⟩:=h2;exact⟨⟨u,T,Mj N Q,O⟩,f4,ih (o+1) h1 f5⟩
    ·simp at h1
  exact Y x 0 m2 e4
 ·intro k k' x J b e e' C U;simp only[Gh.only,(qI h2 k x e).1,(qI h2 k' J e').1,if_true]at C U;exact A.inv.fB k k' x J b (ov G k x e) (ov G k' J e') C U
 ·intro k m e;obtain⟨fS,C,U⟩:=A.inv.tok k m (qd M k m e);refine⟨fS,by simp[Gh.only,y9 V k m e,C],fun b S W hr=>?_⟩;obtain⟨T,Q,O⟩:=U b S W hr;refine⟨T,Q,fun k' x e'=>?_⟩;simp only[Gh.only,(qI h2 k' x e').1,if_true];exact O k' x (ov G k' x e')
 ·intro k k' m I b S W H E e e' C U;simp only[Gh.only,y9 V k m e,y9 V k' I e',if_true]at C U;exact A.inv.gw k k' m I b S W H E (qd M k m e) (qd M k' I e') C U
 ·intro k e;simp only[Gh.only]at e;rw[<- mem_iff (l:=us')];by_cases B:mem k us'=true
  ·exact B
  ·simp[B]at e
 ·intro k x b e C o;simp only[Gh.only,(qI h2 k x e).1,if_true]at C;exact A.inv.room k x b (ov G k x e) C o
 ·intro t x e;rcases Dr q t x e with hx|⟨y,v,N,hv,rfl⟩
  ·exact Mj (On h1 t x e) (A.env t x hx)
  ·have:=(sn y v _ hv (A.env t y N)).1;simp only[aK];exact this
 ·refine A.frame.trans ⟨rfl,rfl,rfl,aak _,fun _ _ _=>rfl,fun _ _ _ _=>⟨rfl,rfl⟩,jk.le.refl _,fun _ _ _ h => .inl h,fun k x b e C=>?_,fun k m b S W e C=>?_,fun k _ h=>?_⟩
  ·simp only[Gh.only,(qI h2 k x e).1,if_true]at C;exact .inr ⟨k,x,ov G k x e,C⟩
  ·simp only[Gh.only,y9 V k m e,if_true]at C;exact .inr ⟨k,m,S,W,qd M k m e,C,aak _,aak _⟩
  ·cases D:ak k bs' with
   | none=>exact absurd D h
   | some x=>exact⟨by rw[ov G k x D];simp,by simp[Gh.only,(qI h2 k x D).1],rfl⟩
end
end Go.cq
namespace Go.cq
abbrev kn:List Nat:=[0,1,2,3,4,5,6,7,8,9,10,11,12,13,14,15,16,17,18,19,20,21,22,23,24,25,26,27,28,29,30,31,32,33,34,35,36,37,38,39,40,41,42,43,44,45,46,47,48,49,50,51,52,53,54,55,56,57,58,59,60,61,62,63,64,65,66,67,68,69]
inductive XA where
 | at(K:List Item) (env:Env)
 | stuck
def qe (X:Ctx) (n:Nat) (S:List (Nat×List AV)):Nat->List Item->Env->XA
 | 0,K,env => .at K env
 | m+1,K,env=>match K with
  | .code (.seq x y)::K'=>qe X n S m (.code x :: .code y::K') env
  | .code .skip::K'=>qe X n S m K' env
  | .code (.block id c)::K'=>qe X n S m (.code c :: .inBlock id::K') env
  | .inBlock _::K'=>qe X n S m K' env
  | .code (.exit id)::K'=>match exitTo id K' with
   | some Y=>qe X n S m Y env
   | none => .at K env
  | .code (.region _ ops false)::K'=>match qX ops n with
   | true=>match ve X ops.toList S [] 500 ops.toList env []with
    | .at [] env' _=>qe X n S m K' env'
    | _ => .at K env
   | false => .at K env
  | _ => .at K env
def LY (X:Ctx) (n:Nat) (S:List (Nat×List AV)) (m:Nat) (K:List Item) (env:Env):XA:=match K with
 | .code (.seq x y)::K'=>qe X n S m (.code x :: .code y::K') env
 | .code .skip::K'=>qe X n S m K' env
 | .code (.block id c)::K'=>qe X n S m (.code c :: .inBlock id::K') env
 | .inBlock _::K'=>qe X n S m K' env
 | .code (.exit id)::K'=>match exitTo id K' with
  | some Y=>qe X n S m Y env
  | none => .stuck
 | .code (.region _ ops false)::K'=>match qX ops n with
  | true=>match ve X ops.toList S [] 500 ops.toList env []with
   | .at [] env' _=>qe X n S m K' env'
   | _ => .stuck
  | false => .stuck
 | _ => .stuck
section
variable {P : Program} {X : Ctx} {f : FuncId} {n : Nat} {β : jG} {R : Ending -> World -> Prop}
theorem AK.ZG (hX:cx P X) (M:P.follows .mixedOrders=true) {id:Nat} {ops:Array Oper} {K:List Item} {env env':Env} {σ:St} {acc:List Fp} (p:qX ops n=true)
  (h:ve X ops.toList σ.boxes [] 500 ops.toList env [] = .at [] env' acc) (k:AK P X f n β R K env' σ):AK P X f n β R (.code (.region id ops false)::K) env σ :=
 AK.region M p (ai.run hX 500 [] h (ai.done k))
theorem su (hX:cx P X) (M:P.follows .mixedOrders=true) {σ:St}:∀(m:Nat) {K B:List Item} {env env':Env},qe X n σ.boxes m K env = .at B env' ->
  AK P X f n β R B env' σ->AK P X f n β R K env σ:=by
 intro m
 induction m with
 | zero=>intro K B env env' h k;simp[qe]at h;obtain⟨rfl,rfl⟩:=h;exact k
 | succ m S =>
  intro K B env env' h k;have stop:XA.at K env = .at B env'->AK P X f n β R K env σ:=by simp_all
  simp only[qe]at h;split at h
  ·exact AK.seq (S h k)
  ·exact AK.skip (S h k)
  ·exact AK.block (S h k)
  ·exact AK.inBlock (S h k)
  ·split at h
   ·rename_i e;exact AK.exit e (S h k)
   ·exact stop h
  ·split at h
   ·rename_i p;split at h
    ·rename_i e;exact AK.ZG hX M p e (S h k)
    ·exact stop h
   ·exact stop h
  ·exact stop h
theorem AK.LM (hX:cx P X) (M:P.follows .mixedOrders=true) {σ:St} (m:Nat) {K B:List Item} {env env':Env} (h:LY X n σ.boxes m K env = .at B env')
  (k:AK P X f n β R B env' σ):AK P X f n β R K env σ:=by
 unfold LY at h;split at h
 ·exact AK.seq (su hX M m h k)
 ·exact AK.skip (su hX M m h k)
 ·exact AK.block (su hX M m h k)
 ·exact AK.inBlock (su hX M m h k)
 ·split at h
  ·rename_i e;exact AK.exit e (su hX M m h k)
  ·simp at h
 ·split at h
  ·rename_i p;split at h
   ·rename_i e;exact AK.ZG hX M p e (su hX M m h k)
   ·simp at h
  ·simp at h
 ·simp at h
theorem AK.again {K:List Item} {env:Env} {bs:List (Nat×List AV)} {ts:List (Nat×Nat)} {us:List Nat} {env':Env} {bs':List (Nat×List AV)} {ts':List (Nat×Nat)} {us':List Nat}
  (h:AK P X f n β R K env' ⟨bs',ts',us'⟩) (Y:Dq env env') (G:SP bs bs') (M:JI ts ts') (h1:YA us' env'=true) (h2:okB us' bs'=true) (V:YB us' ts'=true) :
  AK P X f n β R K env ⟨bs,ts,us⟩:=AK.SQ env' bs' ts' us' Y G M h1 h2 V h
theorem AK.eK {C:Code} {K:List Item} {env:Env} {bs:List (Nat×List AV)} {ts:List (Nat×Nat)} {us:List Nat} {α:Type} (I:α->Prop) (Y:α->Nat)
  (E:α->Env) (B:α->List (Nat×List AV)) (T:α->List (Nat×Nat)) (U:List Nat) (A:α) (N:I A)
  (W:Dq env (E A)) (G:SP bs (B A)) (M:JI ts (T A)) (h1:YA U (E A)=true) (h2:okB U (B A)=true) (V:YB U (T A)=true)
  (step:∀x,I x->(∀y,I y->Y y<Y x->AK P X f n β R (.inLoop C::K) (E y) ⟨B y,T y,U⟩)->AK P X f n β R (.code C :: .inLoop C::K) (E x) ⟨B x,T x,U⟩) :
  AK P X f n β R (.code (.loop C)::K) env ⟨bs,ts,us⟩:=by
 refine AK.loop (AK.SQ (E A) (B A) (T A) U W G M h1 h2 V ?_);have u:∀(m:Nat) (x:α),Y x<m->I x->AK P X f n β R (.code C :: .inLoop C::K) (E x) ⟨B x,T x,U⟩:=by
  intro m
  induction m with
  | zero=>intro x O;omega
  | succ m S =>
   intro x O Q;exact step x Q fun y J H=>AK.inLoop (S y bn J)
 exact u (Y A+1) A bn N
end
section
variable {P : Program} {X : Ctx} {ops : Array Oper} {o : Oper} {rest : List Oper} {env : Env} {σ : St} {acc : List Fp} {Q : Env -> St -> List Fp -> Prop}
theorem bU.index (hX:cx P X) {t:TypeId} {x ix:Operand} (ho:o.op = .indexAddr t x ix) {i j:TI} {e:Nat} (hi:X.ti t=some i) (hk:i.kind = .slice e) (hj:X.ti e=some j)
  {a:AV} {s:Nat} {rows:List CV} (ha:aL X env x=some a) (hr:rowsOf a=some (s,rows)) (hs:Nat.beq s j.size=true) {k:IntKind} {z:Int} (hz:aL X env ix=some (.c (.int k z)))
  {m:Nat} (hm:z=m) {r:CV} (hrow:rows[m]?=some r):bU P X o env σ (.c (.ip r.cells)) (fun σ=>σ) ⟨[],[]⟩:=by
 intro cV σ1 w g act next Q h1 h2 hinv cy di hnext
 have xP:aL X cV x=some a:=by rw[h1 x kN];exact ha
 have ZH:aL X cV ix=some (.c (.int k z)):=by rw[h1 ix kN];exact hz
 obtain⟨base,len,cap,e1,e2,_,e3⟩:=Df hr (ct (a:=act) di cy xP)
 have e4:=Bh (ct (a:=act) di cy ZH)
 have hlt:m<rows.length:=(List.getElem?_eq_some_iff.1 hrow).1
 obtain⟨d,jm,gZ,_⟩:=hX.run_underlying (w:=w) hi
 rw[hk]at gZ;simp only[eF]at gZ;subst gZ
 have Yu:=beq_true hs
 rcases e3 with rfl|⟨b,o',rfl,fM⟩
 ·simp at hlt
 ·have hg:=(fM.get m r hrow).1
  have hrun:(execOp act.eval o).run P w = .ok (.value (.pointer (some ⟨b,o'+m*j.size,none⟩))) w:=by
   obtain⟨dst,op,type,pos,after,guard⟩:=o
   simp only at ho;subst ho
   simp[execOp,e1,e4,hm,Instr.indexAt,asIntOf,jm,e2,hlt,hX.run_sizeOf hj,Addr.add_lit]
  unfold Oper.wp
  rw[hrun,Oper.upon_value]
  refine hnext _ w g ?_ hinv (gQ.refl _ _ _) (Gh.le.refl _)
  simp only[aK,Rel]
  exact⟨b,_,rfl,by rw[<- Yu];exact hg⟩
theorem ai.index (hX:cx P X) (hg:cU ops.toList kn env o=some true) {t:TypeId} {x ix:Operand} (ho:o.op = .indexAddr t x ix) {d:Nat} (hd:o.dst=some d)
  {i j:TI} {e:Nat} (hi:X.ti t=some i) (hk:i.kind = .slice e) (hj:X.ti e=some j)
  {a:AV} {s:Nat} {rows:List CV} (ha:aL X env x=some a) (hr:rowsOf a=some (s,rows)) (hs:Nat.beq s j.size=true) {k:IntKind} {z:Int} (hz:aL X env ix=some (.c (.int k z)))
  (m:Nat) (hm:z=m) {r:CV} (hrow:rows[m]?=some r) {cs:List CV} (hcs:r.cells=cs) (k:ai P X ops rest ((d,.c (.ip cs))::env) σ (⟨[],[]⟩::acc) Q) :
  ai P X ops (o::rest) env σ acc Q:=by
 subst hcs
 exact ai.step (dj hg) (bU.index hX ho hi hk hj ha hr hs hz hm hrow) (gR.id _) tN
end
end Go.cq
namespace Go.cq
def sv (s:Nat) (v:CV):Bool:=match v with
 | .gy _=>false
 | .undef=>false
 | .agg cs=>Nat.beq cs.length s
 | _=>Nat.beq 1 s
def ig (s:Nat):List CV->Bool
 | []=>true
 | v::l=>match sv s v with
  | true=>ig s l
  | false=>false
theorem qJ {s:Nat} {v:CV} (h:sv s v=true) {G:jk} {u:Value} (hr:Rel G v u):v.cells.length=s/\bL G v.cells u.cells.toList/\v.cells.all CV.one=true:=by
 have one:∀(v:CV) (u:Value),v.one=true->Rel G v u->u.cells.toList=[u]:=by
  intro v u ho hr
  cases v<;>simp only[Rel]at hr<;>simp[CV.one]at ho
  case int=>subst hr;rfl
  case bool=>subst hr;rfl
  case str=>subst hr;rfl
  case lO=>subst hr;rfl
  case sl=>obtain⟨_,_,_,rfl,_⟩:=hr;rfl
  case ip=>obtain⟨_,_,rfl,_⟩:=hr;rfl
  case rM=>obtain⟨_,rfl,_⟩:=hr;rfl
  case any=>cases u<;>first|rfl|exact absurd rfl (hr.1 _)
  case qG=>obtain⟨_,rfl⟩:=hr;rfl
 have fin:∀(v:CV),v.one=true->v.cells=[v]->Rel G v u->Nat.beq 1 s=true->v.cells.length=s/\bL G v.cells u.cells.toList/\v.cells.all CV.one=true:=by
  intro v ho hc hr hs
  rw[hc,one v u ho hr]
  exact⟨beq_true hs,by simp only[bL];exact⟨u,[],rfl,hr,rfl⟩,by simp[ho]⟩
 cases v with
 | gy=>simp[sv]at h
 | undef=>simp[sv]at h
 | agg cs =>
  simp only[sv]at h
  simp only[Rel]at hr
  obtain⟨vs,rfl,h1,h2⟩:=hr
  exact⟨beq_true h,by simpa[CV.cells,Value.cells]using h1,h2⟩
 | int=>exact fin _ rfl rfl hr h
 | bool=>exact fin _ rfl rfl hr h
 | str=>exact fin _ rfl rfl hr h
 | lO=>exact fin _ rfl rfl hr h
 | sl=>exact fin _ rfl rfl hr h
 | ip=>exact fin _ rfl rfl hr h
 | rM=>exact fin _ rfl rfl hr h
 | any=>exact fin _ rfl rfl hr h
 | qG=>exact fin _ rfl rfl hr h
theorem nV {s:Nat}:∀{l:List CV},ig s l=true->∀v∈l,sv s v=true
 | [],_,v,h=>by simp at h
 | x::l,h,v,Y=>by
  simp only[ig]at h;split at h
  ·rename_i O;rcases List.mem_cons.1 Y with rfl|Y
   ·exact O
   ·exact nV h v Y
  ·simp at h
def flat (s:Nat):List Value->List Value
 | []=>[]
 | v::l=>v.cells.toList++flat s l
theorem eX.of_flat {G:jk} {s b:Nat}:∀{rows:List CV} {vs:List Value} {o:Nat},ig s rows=true->bL G rows vs->(∀(j:Nat) u,(flat s vs)[j]?=some u->G b (o+j)=some u)->eX G s b o rows
 | [],vs,o,_,_,_=>by simp[eX]
 | r::rows,vs,o,Y,hr,hG=>by
  simp only[ig]at Y;split at Y
  ·rename_i W;simp only[bL]at hr;obtain⟨u,us,rfl,h1,h2⟩:=hr;obtain⟨q,J,H⟩:=qJ W h1;obtain⟨P,U⟩:=bL.get J;simp only[flat]at hG;simp only[eX];refine⟨(yU G b o r).2 (cN.jQ fun j c T=>?_),q,eX.of_flat Y h2 fun j V A=>?_⟩
   ·grind
   ·have:=hG (s+j) V (by rw[List.getElem?_append_right bn];rw[show s+j-u.cells.toList.length=j from by omega];exact A);rwa[show o+(s+j)=o+s+j from by omega]at this
  ·simp at Y
section
variable {P : Program} {X : Ctx}
theorem XB {w:World} {g:Gh} {σ:St} (hinv:Inv w g σ) (us:Array Value) (t:TypeId) :
  let g':Gh:=⟨fun b o=>if b=w.heap.size then us[o]? else g.G b o,g.box,g.tok,g.room⟩
  let w':World:={w with heap:=w.heap.push (.cells us t)}
  Inv w' g' σ/\gQ w g σ w' g' σ/\g.le g':=by
 intro g' w'
 have hold:∀b o,b<w.heap.size->w'.cell? ⟨b,o,none⟩=w.cell? ⟨b,o,none⟩/\w'.frozen? ⟨b,o,none⟩=w.frozen? ⟨b,o,none⟩:=by
  intro b o hb
  exact⟨World.cell?_alloc_old w _ ⟨b,o,none⟩ Of,World.frozen?_alloc_old w _ ⟨b,o,none⟩ Of⟩
 have hsz:w'.heap.size=w.heap.size+1:=by simp[w']
 have Hs:∀b o v,g.G b o=some v->b<w.heap.size:=fun b o v h=>World.block_lt_of_cell? w ⟨b,o,none⟩ (hinv.oI b o v h)
 have hle:g.le g':=by
  refine⟨fun b o v h=>?_,fun _ _ h=>h,fun _ _ _=>rfl,fun k hw fS h=>⟨hw,fS,h,aak _,fun _=>rfl⟩⟩
  have:=Hs b o v h
  simp only[g'];rw[if_neg bn];exact h
 have Hw:∀b o,b<w.heap.size->g'.G b o=g.G b o:=by grind
 refine⟨⟨?_,?_,hinv.fB,?_,hinv.gw,hinv.used,hinv.Ai fun k cs b _ _ hb o=>hold b o hb⟩,⟨rfl,rfl,rfl,bn,fun b hb _=>by show(w.heap.push _)[b]?=_;rw[Array.getElem?_push,if_neg bn],fun b o hb _=>hold b o hb,hle.1,?_,?_,?_,?_⟩,hle⟩
 ·intro b o v h
  simp only[g']at h
  split at h
  ·rename_i hb;subst hb
   have:=World.cell?_alloc_new w us t o
   rw[show(w.alloc (.cells us t))=w' from rfl]at this
   rw[this];exact h
  ·rw[(hold b o (Hs b o v h)).1];exact hinv.oI b o v h
 ·intro k cs e
  obtain⟨b,h1,h2,h3,h4⟩:=hinv.box k cs e
  exact⟨b,h1,bn,fun o=>by rw[Hw b o h2];exact h3 o,(cr.of_same (fun o=>hold b o h2) h4).mono hle⟩
 ·intro k n e
  obtain⟨fS,h1,h2⟩:=hinv.tok k n e
  refine⟨fS,h1,fun b lo hi hr=>?_⟩
  obtain⟨h3,h4,h5⟩:=h2 b lo hi hr
  refine⟨bn,fun o I5 LH=>?_,h5⟩
  obtain⟨h6,⟨u,h7⟩,h8⟩:=h4 o I5 LH
  exact⟨by rw[Hw b o h3];exact h6,⟨u,(hold b o h3).1.trans h7⟩,(hold b o h3).2.trans h8⟩
 ·grind
 ·grind
 ·grind
 ·grind
def iK (ρ:Operand->Option AV):Nat->List (Nat×Operand)->Option (List CV)
 | _,[]=>some []
 | i,(j,x)::l=>match Nat.beq j i,ρ x with
  | true,some a=>match close a with
   | some v=>match iK ρ (i+1) l with
    | some r=>some (v::r)
    | none=>none
   | none=>none
  | _,_=>none
theorem qf {ρ Y:Operand->Option AV}:∀(l:List (Nat×Operand)) (i:Nat),(∀p∈l,Y p.2=ρ p.2)->iK Y i l=iK ρ i l
 | [],_,_=>rfl
 | (j,x)::l,i,h=>by
  simp only[iK,h (j,x) c9,qf l (i+1) (fun p A=>h p (by simp[A]))]
theorem vi {g:Gh} {ρ:Operand->Option AV} {ev:Operand->Value} (O:∀x v,ρ x=some v->aK g v (ev x)):∀{l:List (Nat×Operand)} {i:Nat} {rows:List CV},
  iK ρ i l=some rows->bL g.G rows (l.map fun p=>ev p.2)/\(l.map fun(j,x)=>(j,ev x))=((l.map fun p=>ev p.2).zipIdx i).map fun(v,j)=>(j,v)
 | [],i,rows,h=>by simp[iK]at h;subst h;simp[bL]
 | (j,x)::l,i,rows,h=>by
  simp only[iK]at h;split at h
  ·rename_i a Y N;split at h
   ·rename_i v W;split at h
    ·rename_i r I;simp at h;subst h;obtain⟨h1,h2⟩:=vi O I;have:=beq_true Y;subst this;refine⟨by simp only[List.map_cons,bL];exact⟨_,_,rfl,(sn a v _ W (O x a N)).1,h1⟩,?_⟩;simp only[List.map_cons,List.zipIdx_cons,h2]
    ·simp at h
   ·simp at h
  ·simp at h
theorem Aw (s:Nat):∀(vals:List Value) (k:Nat) (arr:Array Value),(∀v∈vals,v.cells.size=s)->(k+vals.length)*s<=arr.size ->
  ∃res,Instr.fill (fun i=>some (i*s,s)) arr ((vals.zipIdx k).map fun(v,j)=>(j,v))=some res/\res.size=arr.size /\
   ∀(j:Nat),res[j]?=if k*s<=j/\j<k*s+(flat s vals).length then(flat s vals)[j-k*s]? else arr[j]?
 | [],k,arr,_,_=>⟨arr,by simp[Instr.fill],rfl,fun j=>by simp[flat];intros;omega⟩
 | v::vals,k,arr,h1,h2=>by
  have hv:=h1 v c9
  have hks:(k+1)*s=k*s+s:=Nat.succ_mul k s
  have yQ:(k+1+vals.length)*s<=arr.size:=by simp at h2;rwa[show k+1+vals.length=k+(vals.length+1)from by omega]
  have hfit:k*s+s<=arr.size:=by grind
  obtain⟨f1,f2⟩:=Dg (k*s) v.cells.toList 0 arr lD
  obtain⟨res,r1,r2,r3⟩:=Aw s vals (k+1) _ (fun x hx=>h1 x (by simp[hx])) (by rw[f1];exact yQ)
  refine⟨res,?_,by rw[r2,f1],fun j=>?_⟩
  ·simp only[List.zipIdx_cons,List.map_cons,Instr.fill]
   rw[if_neg lD]
   have SE:v.cells.zipIdx.foldl (fun cs (c,j)=>cs.setIfInBounds (k*s+j) c) arr =
     (v.cells.toList.zipIdx 0).foldl (fun(cs:Array Value) (p:Value×Nat)=>cs.setIfInBounds (k*s+p.2) p.1) arr:=by
    rw[<- Array.foldl_toList];simp
   rw[SE];exact r1
  ·rw[r3,f2]
   have hl:v.cells.toList.length=s:=by simpa using hv
   simp only[flat,aas,hks,hl,Nat.add_zero]
   by_cases c1:k*s+s<=j/\j<k*s+s+(flat s vals).length
   ·grind
   ·grind
theorem bU.buildSlice (hX:cx P X) {o:Oper} {env:Env} {σ:St} {t:TypeId} {len:Nat} {parts:Array (Nat×Operand)} (ho:o.op = .buildSlice t len parts)
  {i j:TI} {e:Nat} (hi:X.ti t=some i) (hk:i.kind = .slice e) (hj:X.ti e=some j) {za:AV} (hz:j.zero=some za) {rows:List CV} (hp:iK (aL X env) 0 parts.toList=some rows)
  (hl:Nat.beq rows.length len=true) (hs:ig j.size rows=true) (hb:Nat.ble (len*j.size) 16777216=true) :
  bU P X o env σ (.own .exact j.size rows) (fun σ=>σ) ⟨[],[]⟩:=by
 intro cV σ1 w g act next Q h1 h2 hinv cy di hnext
 have Af:iK (aL X cV) 0 parts.toList=some rows:=by
  rw[qf _ _ (fun p hp=>h1 p.2 Fw)];exact hp
 obtain⟨c1,c2⟩:=vi (g:=g) (ev:=act.eval) (fun x v hx=>ct di cy hx) Af
 have hlen:=beq_true hl
 have hne:j.size≠0:=by obtain⟨_,_,_,_,_,_,hh⟩:=hX.ti e j hj;exact hh
 obtain⟨d,jm,gZ,_⟩:=hX.run_underlying (w:=w) hi
 rw[hk]at gZ;simp only[eF]at gZ;subst gZ
 obtain⟨z,z1,z2,z3⟩:=hX.lP (w:=w) hj hz
 have hcs:∀v∈(parts.toList.map fun p=>act.eval p.2),v.cells.size=j.size:=by
  intro v hv
  obtain⟨m,hm⟩:=List.getElem?_of_mem hv
  obtain⟨l1,l2⟩:=bL.get c1
  have hml:m<rows.length:=by rw[l1];exact(List.getElem?_eq_some_iff.1 hm).1
  obtain⟨u,e1,e2⟩:=l2 m rows[m] (by simp[hml])
  rw[hm]at e1;simp at e1;subst e1
  obtain⟨a1,a2,_⟩:=qJ (nV hs rows[m] (List.getElem_mem hml)) e2
  have:=(bL.get a2).1
  simp at this;omega
 have hvl:(parts.toList.map fun p=>act.eval p.2).length=len:=by rw[<- (bL.get c1).1];exact hlen
 obtain⟨res,r1,r2,r3⟩:=Aw j.size (parts.toList.map fun p=>act.eval p.2) 0 ((Array.range (len*j.size)).map (z.cells[· % z.cells.size]!)) hcs (by simp at hvl ⊢;rw[hvl];exact aak _)
 have hrun:(execOp act.eval o).run P w = .ok (.value (.slice (some ⟨w.heap.size,0,none⟩) len len)) {w with heap:=w.heap.push (.cells res e)}:=by
  obtain⟨dst,op,type,pos,after,guard⟩:=o
  simp only at ho;subst ho
  have zP:¬(2^24<len*j.size):=by have:=Nat.le_of_ble_eq_true hb;omega
  have JT:∀zc:Array Value,(Array.range (len*j.size)).map (fun x=>zc[x%zc.size]!)=(Array.range (len*j.size)).map (fun x=>z.cells[x%z.cells.size]!) ->
    Instr.fill (fun i=>some (i*j.size,j.size)) ((Array.range (len*j.size)).map (fun x=>zc[x%zc.size]!)) (parts.map fun x=>(x.1,act.eval x.2)).toList=some res:=by
   intro zc q2
   rw[q2,Array.toList_map]
   have ZI:(parts.toList.map fun x=>(x.1,act.eval x.2))=_:=c2
   rw[ZI];exact r1
  simp only[execOp,Instr.buildSlice,Sem.run_bind,jm,Result.andThen_ok,hX.run_sizeOf hj]
  rw[if_neg (by simpa using zP)]
  by_cases h0:len*j.size=0
  ·rw[if_pos h0]
   simp only[Sem.run_bind,Sem.run_pure,Result.andThen_ok]
   rw[JT #[] (by rw[h0];simp)]
   simp[newRow]
  ·rw[if_neg h0]
   simp only[Sem.run_bind,Sem.run_pure,Result.andThen_ok,z1]
   rw[JT z.cells rfl]
   simp[newRow]
 unfold Oper.wp
 rw[hrun,Oper.upon_value]
 obtain⟨i1,i2,i3⟩:=XB hinv res e
 refine hnext _ _ _ ?_ i1 i2 i3
 simp only[aK]
 refine⟨_,_,_,rfl,hlen.symm,aak _,?_,rfl⟩
 right
 refine⟨w.heap.size,0,rfl,eX.of_flat hs (bL.mono i3.1 _ _ c1) fun m u hu=>?_⟩
 simp only[if_true,Nat.zero_add]
 have hm:m<(flat j.size (parts.toList.map fun p=>act.eval p.2)).length:=(List.getElem?_eq_some_iff.1 hu).1
 rw[r3 m,if_pos bn]
 simpa using hu
end
section
variable {P : Program} {X : Ctx} {ops : Array Oper} {o : Oper} {rest : List Oper} {env : Env} {σ : St} {acc : List Fp} {Q : Env -> St -> List Fp -> Prop}
theorem ai.buildSlice (hX:cx P X) (kn:List Nat) (hg:cU ops.toList kn env o=some true) {t:TypeId} {len:Nat} {parts:Array (Nat×Operand)} (ho:o.op = .buildSlice t len parts) {d:Nat} (hd:o.dst=some d)
  {i j:TI} {e:Nat} (hi:X.ti t=some i) (hk:i.kind = .slice e) (hj:X.ti e=some j) {za:AV} (hz:j.zero=some za) {rows:List CV} (hp:iK (aL X env) 0 parts.toList=some rows)
  (hl:Nat.beq rows.length len=true) {s:Nat} (hsz:j.size=s) (hs:ig s rows=true) (hb:Nat.ble (len*s) 16777216=true)
  (k:ai P X ops rest ((d,.own .exact s rows)::env) σ (⟨[],[]⟩::acc) Q):ai P X ops (o::rest) env σ acc Q:=by
 subst hsz
 exact ai.step (dj hg) (bU.buildSlice hX ho hi hk hj hz hp hl hs hb) (gR.id _) tN
end
end Go.cq
namespace Go.cq
open Go.ChangeShapes Go.WideShapes Go.RowKit
def mJ (w:World):jk:=fun b o=>w.cell? ⟨b,o,none⟩
section
variable {H : Type} {enc : TypeId × Value -> H} {P : Program} {W : World} {B : DataW H -> Nat}
def RD (enc:TypeId×Value->H) (P:Program) (W:World) (B:DataW H->Nat) (n:Nat) (t:TypeId) (R:CV->Nat->Prop):Prop :=
 ∀Y,Y<=n->∀cs x,DataW.trod enc P W 0 (fun _=>true) true Y t cs=some x ->
  ∃c:CV,bL (mJ W) c.cells cs/\c.cells.all CV.one=true/\R c (B x.1)
theorem RD.mono {n m:Nat} {t:TypeId} {R V:CV->Nat->Prop} (h:RD enc P W B n t R) (M:m<=n) (C:∀c k,R c k->V c k):RD enc P W B m t V :=
 fun Y hf cs x O=>by
  obtain⟨c,h1,h2,U⟩:=h Y (Nat.le_trans hf M) cs x O;exact⟨c,h1,h2,C _ _ U⟩
theorem RD.zero {t:TypeId} {R:CV->Nat->Prop}:RD enc P W B 0 t R:=fun Y hf cs x O=>by
 obtain rfl:Y=0:=by omega
 simp[DataW.trod]at O
structure xG (B:DataW H->Nat):Prop where
 lit:∀l,1<=B (.lit l)
 str:∀s,s.length+1<=B (.lit (.string s))
 nil:1<=B .nil
 slice:∀l r,(l.map B).sum+1<=B (.slice l r)
 agg:∀l,(l.map B).sum+1<=B (.agg l)
theorem RD.int (hB:xG B) {n:Nat} {t:TypeId} {k:IntKind} (hu:P.underlying t=some (.int k)) :
  RD enc P W B n t fun c m=>∃z,c = .int k z/\(Lit.int k z).wf=true/\1<=m:=fun fuel hf cs x hx=>by
 obtain⟨z,rfl,rfl,hw⟩:=DataW.trod_int hu hx
 exact⟨.int k z,Ws,DM,z,rfl,hw,hB.lit _⟩
theorem RD.bool (hB:xG B) {n:Nat} {t:TypeId} (hu:P.underlying t=some .bool) :
  RD enc P W B n t fun c m=>∃z,c = .bool z/\1<=m:=fun fuel hf cs x hx=>by
 obtain⟨z,rfl,rfl⟩:=DataW.trod_bool hu hx
 exact⟨.bool z,Ws,DM,z,rfl,hB.lit _⟩
theorem RD.str (hB:xG B) {n:Nat} {t:TypeId} (hu:P.underlying t=some .string) :
  RD enc P W B n t fun c m=>∃s,c = .str s/\s.length+1<=m:=fun fuel hf cs x hx=>by
 obtain⟨s,rfl,rfl,hw⟩:=DataW.trod_string hu hx
 exact⟨.str s.data.toList,Ws,DM,_,rfl,hB.str _⟩
def uJ (R:CV->Nat->Prop):List CV->Nat->Prop
 | [],m=>0<=m
 | r::rs,m=>∃k Y,R r k/\uJ R rs Y/\k+Y<=m
theorem uJ.le {R:CV->Nat->Prop}:∀{l:List CV} {m Y:Nat},uJ R l m->m<=Y->uJ R l Y
 | [],_,_,_,_=>Nat.zero_le _
 | _::_,_,_,⟨k,P,h1,h2,V⟩,M=>⟨k,P,h1,h2,Nat.le_trans V M⟩
theorem RD.slice (hB:xG B) {n:Nat} {t e:TypeId} {s:Nat} (hu:P.underlying t=some (.slice e)) (hs:P.cellsOf e=s) (h0:0<s) {R:CV->Nat->Prop} (h:RD enc P W B n e R) :
  RD enc P W B (n+1) t fun c m=>∃rows,c = .sl s rows/\∃m',uJ R rows m'/\m'+1<=m:=fun fuel hf cs x hx=>by
 subst hs
 rcases DataW.trod_slice hu hx with ⟨rfl,rfl⟩|⟨a,len,cap,elems,rest,n',rfl,rfl,rfl,_,hl,hc,hlen,hel,_,_⟩
 ·refine⟨.sl _ [],?_,DM,[],rfl,0,aak _,by simpa using hB.nil⟩
  simp only[CV.cells,bL]
  refine⟨_,_,rfl,?_,rfl⟩
  simp only[Rel]
  exact⟨none,0,0,rfl,rfl,aak _,.inl trivial⟩
 ·have hs:elems=[]\/∃b o,a=⟨b,o,none⟩:=by
   cases elems with
   | nil=>exact .inl rfl
   | cons y l =>
    right
    have XC:=hel 0 (by simp at hlen;omega)
    simp only[List.getElem?_cons_zero,Option.bind_eq_some_iff]at XC
    obtain⟨vs,hvs,hy⟩:=XC
    obtain⟨_,hvl,hcell⟩:=World.cells?_some hvs
    obtain⟨b,o,spot⟩:=a
    have g0:=hcell 0 h0
    obtain⟨v0,PI⟩:∃v0,vs[0]?=some v0:=by
     cases vs with
     | nil=>simp at hvl;omega
     | cons v _=>exact⟨v,rfl⟩
    rw[PI]at g0
    have h9:=World.cell?_spot g0
    have ZJ:spot=none:=by simpa[Addr.add]using h9
    exact⟨b,o,by rw[ZJ]⟩
  have key:∀(b o:Nat),a=⟨b,o,none⟩->∀(l:List (DataW H×List MemPlace)) (k:Nat),(∀i,i<l.length->(W.cells? 0 (a.add ((k+i)*P.cellsOf e)) (P.cellsOf e)).bind (DataW.trod enc P W 0 (fun _=>true) true n' e)=l[i]?) ->
    ∃rows,rows.length=l.length/\uJ R rows ((l.map fun x=>B x.1).sum)/\eX (mJ W) (P.cellsOf e) b (o+k*P.cellsOf e) rows:=by
   intro b o hab l
   subst hab
   induction l with
   | nil=>intro k _;exact⟨[],rfl,by simp[uJ],by simp[eX]⟩
   | cons y l ih =>
    intro k hk
    obtain⟨rows,h1,h2,h4⟩:=ih (k+1) fun i hi=>by
     have:=hk (i+1) lD
     rw[show k+1+i=k+(i+1)from by omega];simpa using this
    have XC:=hk 0 c9
    simp only[Nat.add_zero,List.getElem?_cons_zero,Option.bind_eq_some_iff]at XC
    obtain⟨vs,hvs,hy⟩:=XC
    obtain⟨c,c1,c2,c3⟩:=h n' bn vs y hy
    obtain⟨_,hvl,hcell⟩:=World.cells?_some hvs
    refine⟨c::rows,P9,⟨_,_,c3,h2,c9⟩,?_⟩
    simp only[eX]
    refine⟨(yU _ _ _ _).2 (cN.jQ fun j cj hj=>?_),by rw[(bL.get c1).1,hvl],?_⟩
    ·obtain⟨u,ZK,Rq⟩:=(bL.get c1).2 j cj hj
     refine⟨u,?_,Rq,List.all_eq_true.1 c2 cj (aaw hj)⟩
     have hjl:j<P.cellsOf e:=by rw[<- hvl];exact(List.getElem?_eq_some_iff.1 ZK).1
     have:=hcell j hjl
     rw[add_plain,add_plain]at this
     rw[mJ,this,ZK]
    ·rwa[show o+(k+1)*P.cellsOf e=o+k*P.cellsOf e+P.cellsOf e from by rw[Nat.succ_mul];omega]at h4
  have hBs:(elems.map fun x=>B x.1).sum+1<=B (.slice (elems.map (·.1)) (rest.map (·.1))):=by
   have:=hB.slice (elems.map (·.1)) (rest.map (·.1));rwa[List.map_map]at this
  rcases hs with rfl|⟨b,o,rfl⟩
  ·refine⟨.sl _ [],?_,DM,[],rfl,0,aak _,by simpa using hBs⟩
   simp only[CV.cells,bL]
   refine⟨_,_,rfl,?_,rfl⟩
   simp only[Rel]
   exact⟨_,_,_,rfl,by simpa using hlen.symm,hl,.inl trivial⟩
  ·obtain⟨rows,h1,h2,h4⟩:=key b o rfl elems 0 fun i hi=>by rw[Nat.zero_add];exact hel i bn
   refine⟨.sl _ rows,?_,DM,rows,rfl,_,h2,hBs⟩
   simp only[CV.cells,bL]
   refine⟨_,_,rfl,?_,rfl⟩
   simp only[Rel]
   exact⟨_,_,_,rfl,bn,hl,.inr ⟨b,o,rfl,by simpa using h4⟩⟩
def B8:List (CV->Nat->Prop)->List CV->Nat->Prop
 | [],l,_=>l=[]
 | R::Rs,l,m=>∃c k p Y,l=c.cells++p/\R c k/\B8 Rs p Y/\k+Y<=m
def zb (enc:TypeId×Value->H) (P:Program) (W:World) (B:DataW H->Nat) (n:Nat):Nat->List (Nat×TypeId)->List (CV->Nat->Prop)->Prop
 | o,[],Rs=>Rs=[]
 | o,(O,t)::fs,Rs=>∃R Y,Rs=R::Y/\O=o/\RD enc P W B n t R/\zb enc P W B n (o+P.cellsOf t) fs Y
def kW (P:Program):Nat->List (Nat×TypeId)->Nat
 | o,[]=>o
 | o,(_,t)::fs=>kW P (o+P.cellsOf t) fs
theorem Bk {n:Nat} {cs:List Value}:∀(Y:List (Nat×TypeId)) (o:Nat) (Rs:List (CV->Nat->Prop)) (xs:List (DataW H×List MemPlace)),zb enc P W B n o Y Rs ->
  (∀(i:Nat) (O:Nat) (t:TypeId),Y[i]?=some (O,t)->DataW.trod enc P W 0 (fun _=>true) true n t ((cs.drop O).take (P.cellsOf t))=xs[i]?)->xs.length=Y.length->cs.length=kW P o Y ->
  ∃l,bL (mJ W) l (cs.drop o)/\l.all CV.one=true/\B8 Rs l ((xs.map fun x=>B x.1).sum)
 | [],o,Rs,xs,p,hx,hl,V=>by
  simp only[zb]at p;subst p;simp only[kW]at V;exact⟨[],by simp[bL,V],c9,by simp[B8]⟩
 | (O,t)::Y,o,Rs,[],p,hx,hl,V=>by simp at hl
 | (O,t)::Y,o,Rs,x::xs,p,hx,hl,V=>by
  simp only[zb]at p;obtain⟨R,U,rfl,rfl,C,p⟩:=p;simp only[kW]at V;have N:=hx 0 O t c9;simp only[List.getElem?_cons_zero]at N;obtain⟨c,q,J,T⟩:=C n (aak _) _ _ N;obtain⟨l,S,Q,M⟩:=Bk Y _ U xs p (fun i K I G=>by simpa using hx (i+1) K I (by simpa using G)) (by simpa using hl) V;refine⟨c.cells++l,?_,by rw[List.all_append,J,Q];rfl,c,_,l,_,rfl,T,M,c9⟩;have:=eW q S;rwa[<- List.drop_drop,List.take_append_drop]at this
theorem RD.struct (K:xG B) {n:Nat} {t:TypeId} {T:Array Field} (A:P.underlying t=some (.struct T)) {V:List (Nat×TypeId)} (U:T.toList.map (fun f=>(f.offset,f.type))=V)
  {Rs:List (CV->Nat->Prop)} (p:∀m,m<=n->zb enc P W B m 0 V Rs) (Y:P.cellsOf t=kW P 0 V) :
  RD enc P W B (n+1) t fun c m=>∃l,c = .agg l/\∃S,B8 Rs l S/\S+1<=m:=fun Q hf cs x O=>by
 obtain⟨xs,H,rfl,rfl,N,M,J⟩:=DataW.trod_struct A O;subst U
 obtain⟨l,G,q,E⟩:=Bk (cs:=cs) _ 0 Rs xs (p H bn) (fun i D C I=>by
  simp only[List.getElem?_map,Option.map_eq_some_iff]at I;obtain⟨f,hf,Y⟩:=I;simp only[Prod.mk.injEq]at Y;obtain⟨rfl,rfl⟩:=Y
  exact J i f (by simpa using hf)) (by simpa using M) (N.trans Y)
 refine⟨.agg l,by simpa[CV.cells]using G,by simpa[CV.cells]using q,l,rfl,_,E,?_⟩;have:=K.agg (xs.map (·.1));rwa[List.map_map]at this
def Hx (R:CV->Nat->Prop):Nat->List CV->Nat->Prop
 | 0,l,_=>l=[]
 | n+1,l,m=>∃c k p Y,l=c.cells++p/\R c k/\Hx R n p Y/\k+Y<=m
theorem RD.array (hB:xG B) {n:Nat} {t e:TypeId} {len:Nat} (hu:P.underlying t=some (.array len e)) (he:P.cellsOf t=len*P.cellsOf e) {R:CV->Nat->Prop} (h:RD enc P W B n e R) :
  RD enc P W B (n+1) t fun c m=>∃l,c = .agg l/\∃m',Hx R len l m'/\m'+1<=m:=fun fuel hf cs x hx=>by
 have hx':∃(xs:List (DataW H×List MemPlace)) (m:Nat),fuel=m+1/\x=(.agg (xs.map (·.1)),xs.flatMap (·.2))/\cs.length=P.cellsOf t/\xs.length=len /\
   ∀(i:Nat),i<len->DataW.trod enc P W 0 (fun _=>true) true m e ((cs.drop (i*P.cellsOf e)).take (P.cellsOf e))=xs[i]?:=by
  cases fuel with
  | zero=>simp[DataW.trod]at hx
  | succ m =>
   unfold DataW.trod at hx
   rw[hu]at hx
   split at hx<;>simp_all
   obtain⟨hl,xs,hp,hd⟩:=hx
   exact⟨xs,hd.symm,by simpa using mapM_some_length hp,fun i hi=>mapM_some_get hp i i (by simp[hi])⟩
 obtain⟨xs,m,rfl,rfl,hl,Up,kg⟩:=hx'
 have key:∀(ys:List (DataW H×List MemPlace)) (k:Nat),(∀i,i<ys.length->DataW.trod enc P W 0 (fun _=>true) true m e ((cs.drop ((k+i)*P.cellsOf e)).take (P.cellsOf e))=ys[i]?)->cs.length=(k+ys.length)*P.cellsOf e ->
   ∃l,bL (mJ W) l (cs.drop (k*P.cellsOf e))/\l.all CV.one=true/\Hx R ys.length l ((ys.map fun x=>B x.1).sum):=by
  intro ys
  induction ys with
  | nil=>intro k _ hk;exact⟨[],by simp only[bL,List.drop_eq_nil_iff];simp at hk;omega,c9,by simp[Hx]⟩
  | cons y ys ih =>
   intro k hk hle
   obtain⟨l,l1,l2,l3⟩:=ih (k+1) (fun i hi=>by
    have:=hk (i+1) lD
    rw[show k+1+i=k+(i+1)from by omega];simpa using this) (by rw[hle];congr 1;simp;omega)
   have h0:=hk 0 c9
   simp only[Nat.add_zero,List.getElem?_cons_zero]at h0
   obtain⟨c,c1,c2,c3⟩:=h m bn _ _ h0
   refine⟨c.cells++l,?_,by rw[List.all_append,c2,l2];rfl,c,_,l,_,rfl,c3,l3,c9⟩
   have:=eW c1 l1
   rwa[Nat.succ_mul,<- List.drop_drop,List.take_append_drop]at this
 obtain⟨l,l1,l2,l3⟩:=key xs 0 (fun i hi=>by rw[Nat.zero_add];exact kg i bn) (by rw[hl,he,Up,Nat.zero_add])
 rw[Up]at l3
 refine⟨.agg l,by simpa[CV.cells]using l1,by simpa[CV.cells]using l2,l,rfl,_,l3,?_⟩
 have:=hB.agg (xs.map (·.1));rwa[List.map_map]at this
theorem tW {R:CV->Nat->Prop} {t:TypeId} {v:Value} {d:DataW H} {T:List MemPlace} {S:Nat} {r:Reach} {Q:Array Field} (A:P.underlying t=some (.struct Q)) (V:∀n,RD enc P W B n t R)
  (p:DataW.Trod enc P W 0 (fun _=>true) true t v d T) (hok:Value.okWide P W r S t v) (C:∀c k,R c k->∃l,c = .agg l):∃c,Rel (mJ W) c v/\R c (B d):=by
 obtain⟨Y,hf⟩:=p;obtain⟨c,h1,h2,U⟩:=V Y Y (aak _) _ _ hf;refine⟨c,?_,U⟩;obtain⟨l,rfl⟩:=C _ _ U;obtain⟨cs,rfl,_⟩:=okWide_struct A hok;simp only[CV.cells,Value.cells]at h1 h2;simp only[Rel];exact⟨_,rfl,h1,h2⟩
theorem qC {R:CV->Nat->Prop} {t e:TypeId} {v:Value} {d:DataW H} {S:List MemPlace} {Q:Nat} {r:Reach} (A:P.underlying t=some (.slice e)) (V:∀n,RD enc P W B n t R)
  (p:DataW.Trod enc P W 0 (fun _=>true) true t v d S) (hok:Value.okWide P W r Q t v) (C:∀c k,R c k->∃s l,c = .sl s l):∃c,Rel (mJ W) c v/\R c (B d):=by
 obtain⟨Y,hf⟩:=p;obtain⟨c,h1,h2,U⟩:=V Y Y (aak _) _ _ hf;refine⟨c,?_,U⟩;obtain⟨s,l,rfl⟩:=C _ _ U;obtain⟨a,G,I,rfl⟩:=okWide_slice A hok;simp only[CV.cells,Value.cells,bL]at h1;obtain⟨u,us,T,O,rfl⟩:=h1;simp at T;subst T;exact O
theorem Xi (W:World):∀b o v,mJ W b o=some v->W.cell? ⟨b,o,none⟩=some v:=fun _ _ _ h=>h
theorem Hy {w:World} {Y:Nat->Bool}:DataW.TrodVars enc P w Y [] [] []:=by simp[DataW.TrodVars]
theorem L2 {f:Func} {s:ChangeSpec} {V K U again:Bool} {Q:World} {G G':jk} {args:Array Value} {v:Value} {S gs:List (DataW H)} {before:List MemPlace}
  (A:DataW.Whole enc P f.params.toList s.vars V W args.toList S gs before) (Y:s.vars=[])
  (hl:laidOutB P=true) (hm:mapsRowed P=true) (hz:∀t e,t<P.types.size->P.underlying t=some (.slice e)->0<P.cellsOf e) (hT:∀t∈f.params.toList,t<P.types.size)
  (E:JR W G Q G') {tb:TypeId} (hr:f.resultTypes = #[tb]) (hb:P.underlying tb=some .bool) {b:Bool} (hv:v = .bool b)
  (J:s.fn H (S++gs)={results:=[.lit (.bool b)],args:=S}):s.post enc P f V K U again W args v Q:=by
 subst hv;have C:=A.lt;have u:=A;obtain⟨p,q,hA,hV,rfl,hfz,Zz⟩:=A;rw[Y]at hV;obtain⟨rfl,rfl⟩:=trodVars_none hV;simp only[List.append_nil]at *;have I:∀x∈p,W.sameAt Q x:=by
  intro x O;have:=E.block x.block (C x O);cases x with
  | cell D off=>simp only[World.sameAt,World.cell?];simp only[MemPlace.block]at this;rw[this]
  | map D=>exact this
 have T:∀N:Nat->Bool,(∀x∈p,N x.block=true)->DataW.TrodAll enc P Q 0 N true f.params.toList args.toList S p:=by
  intro N hsp;have h1:=DataW.TrodAll.respare (kids_rows hl hm) hz hT hA hsp;have:∀(ts:List TypeId) (vs:List Value) (S:List (DataW H)) (B:List MemPlace),DataW.TrodAll enc P W 0 N true ts vs S B->(∀x∈B,W.sameAt Q x)->DataW.TrodAll enc P Q 0 N true ts vs S B:=by
   intro ts
   induction ts with
   | nil=>intro vs S B h _;obtain⟨rfl,rfl,rfl⟩:=trodAll_nil h;rfl
   | cons t ts ih =>
    intro vs S B h hs;obtain⟨v,vs',d,ds',p1,q1,rfl,rfl,rfl,⟨n,h2⟩,h3⟩:=trodAll_cons h;exact⟨p1,q1,⟨n,DataW.trod_carry n _ _ _ h2 fun x O=>hs x (List.mem_append_left _ O)⟩,ih _ _ _ h3 fun x O=>hs x (List.mem_append_right _ O),rfl⟩
  exact this _ _ _ _ h1 I
 have M:∀(b0:Nat) (N:Nat->Bool) (hd:Bool),DataW.TrodAll enc P Q b0 N hd f.resultTypes.toList ((Value.bool b).resultList f.resultTypes.size) [.lit (.bool b)] []:=by
  intro b0 N hd;rw[hr];exact trodAll_mk1 (shut_bool hb b)
 have ZL:W.keptBut Q (· ∈ p):=by
  refine⟨E.os,E.output,fun i hi=>?_⟩;rw[E.block i hi];cases W.heap[i]? with
  | none=>simp
  | some o=>cases o<;>simp
 refine⟨S,[],p,[],p,[],by simpa using u,by simp only[List.append_nil,J];exact M _ _ _,by simp only[List.append_nil,J];exact T _ fun x O=>by simpa using C x O,
  by simp only[List.append_nil,J,Y];rfl,World.keptBut_mono (fun x O=>⟨O,.inr (.inl O)⟩) ZL,fun _=>?_⟩
 refine⟨ok_one hr rfl (okWide_bool_mk hb b),_,_,([]++p)++[],⟨[]++p,[],trodAll_append (T _ (fun _ _=>rfl)) (M _ _ _),(by rw[Y];exact Hy),rfl,?_,?_⟩,?_⟩
 ·intro D off hp;have Af:MemPlace.cell D off∈p:=by simpa using hp
  rw[(E.kept D off (C _ Af)).2];exact hfz D off (by simpa using Af)
 ·simp_all
 ·simp_all
end
end Go.cq
namespace Go.cq
section
variable {P : Program} {X : Ctx} {ops : Array Oper} {o : Oper} {rest : List Oper} {env : Env} {σ : St} {acc : List Fp} {Q : Env -> St -> List Fp -> Prop}
theorem ai.look (hX:cx P X) (kn:List Nat) (E:cU ops.toList kn env o=some true) {d:Nat} (p:o.dst=some d) {v:AV} (Y:gH X σ.boxes (aL X env) o.op=some v)
  (I:lQ (aL X env) o.op=[]) (k:ai P X ops rest ((d,v)::env) σ (⟨[],[]⟩::acc) Q):ai P X ops (o::rest) env σ acc Q:=by
 have:=ai.step (Q:=Q) (rest:=rest) (acc:=acc) (dj E) (bU.pure (σ:=σ) hX Y) (gR.id _);rw[p,I]at this;exact this k
theorem ai.quo (hX:cx P X) (kn:List Nat) (E:cU ops.toList kn env o=some true) {t Y:TypeId} {x y:Operand} (p:o.op = .binOp .quo t x y Y) {d:Nat} (H:o.dst=some d) {i:TI} (W:X.ti t=some i)
  {q:IntKind} {a b:Int} (O:aL X env x=some (.c (.int q a))) (N:aL X env y=some (.c (.int q b))) (D:sameKind q q=true) (G:b≠0)
  (k:ai P X ops rest ((d,.c (.int q (q.wrap (a.tdiv b))))::env) σ (⟨[],[]⟩::acc) Q):ai P X ops (o::rest) env σ acc Q:=by
 refine ai.look hX kn E H ?_ ?_ k
 ·rw[p];simp only[gH,W,O,N,Mb,D,SA];have:(b==0)=false:=by simpa using G
  rw[this]
 ·rw[p];rfl
theorem ai.rem (hX:cx P X) (kn:List Nat) (E:cU ops.toList kn env o=some true) {t Y:TypeId} {x y:Operand} (p:o.op = .binOp .rem t x y Y) {d:Nat} (H:o.dst=some d) {i:TI} (W:X.ti t=some i)
  {q:IntKind} {a b:Int} (O:aL X env x=some (.c (.int q a))) (N:aL X env y=some (.c (.int q b))) (D:sameKind q q=true) (G:b≠0)
  (k:ai P X ops rest ((d,.c (.int q (a.tmod b)))::env) σ (⟨[],[]⟩::acc) Q):ai P X ops (o::rest) env σ acc Q:=by
 refine ai.look hX kn E H ?_ ?_ k
 ·rw[p];simp only[gH,W,O,N,Mb,D,SA];have:(b==0)=false:=by simpa using G
  rw[this]
 ·rw[p];rfl
theorem ai.shr (hX:cx P X) (kn:List Nat) (E:cU ops.toList kn env o=some true) {t Y:TypeId} {x y:Operand} (p:o.op = .binOp .shr t x y Y) {d:Nat} (H:o.dst=some d) {i:TI} (W:X.ti t=some i)
  {q V:IntKind} {a b:Int} (O:aL X env x=some (.c (.int q a))) (N:aL X env y=some (.c (.int V b))) {n:Nat} (G:b=n)
  (k:ai P X ops rest ((d,.c (.int q (a.fdiv (2^(min n q.bits)))))::env) σ (⟨[],[]⟩::acc) Q):ai P X ops (o::rest) env σ acc Q:=by
 refine ai.look hX kn E H ?_ ?_ k
 ·subst G;rw[p];simp only[gH,W,O,N,Mb,Ak]
 ·rw[p];rfl
theorem ai.shl (hX:cx P X) (kn:List Nat) (E:cU ops.toList kn env o=some true) {t Y:TypeId} {x y:Operand} (p:o.op = .binOp .shl t x y Y) {d:Nat} (H:o.dst=some d) {i:TI} (W:X.ti t=some i)
  {q V:IntKind} {a b:Int} (O:aL X env x=some (.c (.int q a))) (N:aL X env y=some (.c (.int V b))) {n:Nat} (G:b=n)
  (k:ai P X ops rest ((d,.c (.int q (q.wrap (a*2^(min n q.bits)))))::env) σ (⟨[],[]⟩::acc) Q):ai P X ops (o::rest) env σ acc Q:=by
 refine ai.look hX kn E H ?_ ?_ k
 ·subst G;rw[p];simp only[gH,W,O,N,Mb,Ak]
 ·rw[p];rfl
end
end Go.cq
namespace Go.cq
def RZ:Char:=Char.ofNat 32
def U0 (l:List Nat):List Char:=l.map Char.ofNat
theorem tr (b:List Char):∀(a:List Char),(a.all fun c=>c != RZ)=true->wordsSigns (a++RZ::b)=a::wordsSigns b
 | [],_=>rfl
 | c::a,h=>by
  simp only[List.all_cons,aai,bne_iff_ne,ne_eq]at h;have S:=tr b a h.2;rw[List.cons_append,wordsSigns]
  ·rw[S]
  ·exact h.1
theorem R0 {P:Program} {a b c:List Char} {d:List Char} (h:P.initOrder=String.ofList (a++RZ::(b++RZ::(c++RZ::d)))) (u:(a.all fun c=>c != RZ)=true) (G:(b.all fun c=>c != RZ)=true) (E:(c.all fun c=>c != RZ)=true)
  (Y:∀T,behindMainWord (a::b::T)=T):∃T,behindMainWord (wordsSigns P.initOrder.toList)=c::T:=by
 refine⟨wordsSigns d,?_⟩;rw[h,String.toList_ofList,tr _ _ u,tr _ _ G,tr _ _ E,Y]
theorem U3 {P : Program} {c : List Char} (h : ∃ T, behindMainWord (wordsSigns P.initOrder.toList) = c :: T) (h1 : (c == "gc".toList || c == "spec".toList) = false) (h2 : (c == "cut".toList) = true) : P.make = some .cut := by
 obtain⟨T,h⟩:=h;unfold Program.make;rw[h];simp only[h1,h2,Bool.true_or,if_true];rfl
theorem JU {c:List Char} (T:List (List Char)) (Y:(liftWords.all fun o=>c != o.toList)=true):stripLifts liftWords (c::T)=([],c::T):=by
 have u:∀(l:List String),(l.all fun o=>c != o.toList)=true->stripLifts l (c::T)=([],c::T):=by
  intro l
  induction l with
  | nil=>intro _;rfl
  | cons o l S =>
   intro h;simp only[List.all_cons,aai,bne_iff_ne,ne_eq]at h;simp only[stripLifts];rw[if_neg (by simpa using h.1)];exact S h.2
 exact u _ Y
theorem SR {P : Program} {c : List Char} (h : ∃ T, behindMainWord (wordsSigns P.initOrder.toList) = c :: T) (hs : (liftWords.all fun o => c != o.toList) = true) (h2 : (c == "cut".toList) = true) : P.headLifts = [] := by
 obtain⟨T,h⟩:=h;have yQ : c = "cut".toList := eq_of_beq h2;unfold Program.headLifts;rw[h,JU T hs];simp[yQ]
theorem R3 {P : Program} {c : List Char} (h : ∃ T, behindMainWord (wordsSigns P.initOrder.toList) = c :: T) (hs : (liftWords.all fun o => c != o.toList) = true) (h2 : (c == "cut".toList) = true) (h3 : (c == "carried".toList) = false) : P.liftsFinal = false := by
 have h4:=SR h hs h2;obtain⟨T,h⟩:=h;unfold Program.liftsFinal;rw[h4,h];have h5 : (some c == some "carried".toList) = false := by rw [← h3]; rfl
 simp only[List.head?_cons,h5,Bool.false_and,Bool.false_or];rfl
theorem R4 {P : Program} {c : List Char} (h : ∃ T, behindMainWord (wordsSigns P.initOrder.toList) = c :: T) (hs : (liftWords.all fun o => c != o.toList) = true) (h2 : (c == "cut".toList) = true)
  (h5:P.laysLater=false) (h6:P.bearsReflect=false) (h7:P.doorFits []=true):P.mayEnter=true:=by
 obtain⟨T,h⟩:=h;have yQ : c = "cut".toList := eq_of_beq h2;unfold Program.mayEnter;rw[h];simp only[JU T hs,h5,h6,h7];simp[yQ]
theorem FZ {P:Program} {f:FuncId} {Y:Func} {s:ChangeSpec} {c:OpenClaim} (B:c.wf (OpenSpec.ofChange s)=true) (A:laidOutB P=true) (u:mapsRowed P=true)
  (q:Y.params.all (P.readableRec ·)=true) (p:namedTie P c.named s.vars=true)
  (k6:(c.stops==[])=true) (k7:(P.stops==[])=true) (k8:(c.knobs==[])=true) (k9:(P.stopKnobs==[])=true)
  (T:(c.inPlace==P.inPlace f)=true) (S:(c.unfollowed==P.unfollowed f)=true) (Q:(c.recurses==P.recurses f)=true) (O:(c.named==P.varsNamed f)=true)
  (W:((c.maps==(Y.params.toList++s.plain.varTypes P).any (P.mapsRec ·))&&(c.ifaces==(Y.params.toList++s.plain.varTypes P).any (P.ifacesRec ·))&&(c.mapsOut==P.mapsAmong Y.resultTypes.toList))=true)
  (V:((c.loops==(Y.params.toList++s.plain.varTypes P).any (P.loopsFrom ·))&&(c.wideKeys==(Y.params.toList++s.plain.varTypes P++Y.resultTypes.toList).any (P.wideKeysFrom ·)))=true)
  (U:(s.vars.all (P.varReadable ·)&&Y.resultTypes.all (fun t=>P.readableRec t&&decide (t<P.types.size))&&(c.ifacesOut==Y.resultTypes.toList.any (P.ifacesRec ·))&&(c.loopsOut==Y.resultTypes.toList.any (P.loopsFrom ·)))=true)
  (N:(c.plainKeys==P.plainKeys)=true) (M:c.shortTexts.isNone=true) (K:P.stopsHeard=true) (J:P.mayEnter=true) (I:(c.lifted==P.liftsFinal)=true) (H:(P.make==some c.make)=true)
  (G:(c.kinds==(if c.domain.isEmpty then []else Y.params.toList.map fun t=>match P.underlying t with|some (.int k)=>some k|_=>none))=true) (E:(c.pinned==c.pinnedBy)=true)
  (D:(c.veiled==(Y.params.toList++s.plain.varTypes P++Y.resultTypes.toList).any (P.veiledRec ·))=true) (C:c.veiledFits P Y.params.toList (Y.params.toList++s.plain.varTypes P++Y.resultTypes.toList)=true) :
  joinedFacts P f Y s c=true:=by
 simp only[aai]at W V U;unfold joinedFacts;simp only[aai];exact⟨⟨⟨⟨⟨⟨⟨⟨⟨⟨⟨⟨⟨⟨⟨⟨⟨⟨⟨⟨⟨⟨⟨⟨⟨⟨⟨⟨⟨⟨⟨B,A⟩,u⟩,q⟩,p⟩,k6⟩,k7⟩,k8⟩,k9⟩,T⟩,S⟩,Q⟩,O⟩,W.1.1⟩,W.1.2⟩,W.2⟩,V.1⟩,V.2⟩,U.1.1.1⟩,U.1.1.2⟩,U.1.2⟩,U.2⟩,N⟩,M⟩,K⟩,J⟩,I⟩,H⟩,G⟩,E⟩,D⟩,C⟩
end Go.cq
