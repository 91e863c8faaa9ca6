/- What the arguments of the laws read as: closed values of the chain's data. What an argument that is a list of types reads as. What arguments read as: lists of values, and who is about. The last text of a law whose code names a package variable of which nothing is known but its shape. -/
import Derived.Test.YtlohbilpimjmmaaGreatDoorRows
import Derived.Test.YtlohbilpimjmmaaGreatDoorTPure
import Derived.Test.YtlohbilpimjmmaaGreatDoorCtx
import Derived.WalkKit
import Derived.ProofKit
import Derived.OpenShut
import Derived.Test.YtlohbilpimjmmaaGreatDoorHead
import Derived.JoinedCond
set_option linter.unusedVariables false
set_option linter.unusedSimpArgs false
namespace Go.Proofs
open Go.cq Go.ChangeShapes Go.WideShapes Go.ChangeAt Go.RowKit
theorem uH {H:Type}:∀(l:List (DataW H)),(l.map YtlohbilpimjmmaaGreatDoor.Rows.uptoBulk).sum=YtlohbilpimjmmaaGreatDoor.Rows.uptoBulkAll l
 | []=>rfl
 | d::l=>by simp only[List.map_cons,List.sum_cons,YtlohbilpimjmmaaGreatDoor.Rows.uptoBulkAll,uH l]
theorem jO {H:Type}:xG (H:=H) YtlohbilpimjmmaaGreatDoor.Rows.uptoBulk where
 lit:=fun l=>by cases l<;>simp[YtlohbilpimjmmaaGreatDoor.Rows.uptoBulk]
 str:=fun s=>by simp[YtlohbilpimjmmaaGreatDoor.Rows.uptoBulk]
 nil:=by simp[YtlohbilpimjmmaaGreatDoor.Rows.uptoBulk]
 slice:=fun l r=>by rw[uH];simp only[YtlohbilpimjmmaaGreatDoor.Rows.uptoBulk];omega
 agg:=fun l=>by rw[uH];simp only[YtlohbilpimjmmaaGreatDoor.Rows.uptoBulk];omega
def Y8:CV->Nat->Prop:=fun c m=>∃t:Ty,c=eB t/\Y9 t/\bA t<=m
def Za:CV->Nat->Prop:=fun c m=>∃t:Nd,c=aX t/\RS t/\b8 t<=m
def RVl:CV->Nat->Prop:=fun c m=>∃t:Vl,c=bM t/\Zb t/\aM t<=m
theorem yL:∀{rows:List CV} {m:Nat},uJ Y8 rows m->∃l:List Ty,rows=aq l/\A7 l/\aY l<=m
 | [],m,_=>⟨[],rfl,trivial,by simp[aY]⟩
 | r::rows,m,⟨k,m',⟨t,h1,h2,V⟩,h4,h5⟩=>by
  obtain⟨l,C,U,B⟩:=yL h4;exact⟨t::l,by rw[h1,C];rfl,⟨h2,U⟩,by simp only[aY];omega⟩
theorem CQ:∀{rows:List CV} {m:Nat},uJ Za rows m->∃l:List Nd,rows=aI l/\Oc l/\aU l<=m
 | [],m,_=>⟨[],rfl,trivial,by simp[aU]⟩
 | r::rows,m,⟨k,m',⟨t,h1,h2,V⟩,h4,h5⟩=>by
  obtain⟨l,C,U,B⟩:=CQ h4;exact⟨t::l,by rw[h1,C];rfl,⟨h2,U⟩,by simp only[aU];omega⟩
theorem CS:∀{rows:List CV} {m:Nat},uJ RVl rows m->∃l:List Vl,rows=aa l/\CT l/\aJ l<=m
 | [],m,_=>⟨[],rfl,trivial,by simp[aJ]⟩
 | r::rows,m,⟨k,m',⟨t,h1,h2,V⟩,h4,h5⟩=>by
  obtain⟨l,C,U,B⟩:=CS h4;exact⟨t::l,by rw[h1,C];rfl,⟨h2,U⟩,by simp only[aJ];omega⟩
abbrev CU:CV->Nat->Prop:=fun c k=>∃z,c = .int .i64 z/\(Lit.int .i64 z).wf=true/\1<=k
abbrev Zc:CV->Nat->Prop:=fun c k=>∃s,c = .str s/\s.length+1<=k
abbrev Wn (s:Nat) (R:CV->Nat->Prop):CV->Nat->Prop:=fun c k=>∃rows,c = .sl s rows/\∃Y,uJ R rows Y/\Y+1<=k
theorem fE:Tryz.prog.cellsOf 3=1:=by kernel_rfl
theorem o8:Tryz.prog.cellsOf 9=1:=by kernel_rfl
theorem z9:Tryz.prog.cellsOf 27=1:=by kernel_rfl
theorem Fy:Tryz.prog.cellsOf 24=1:=by kernel_rfl
theorem Aa:Tryz.prog.cellsOf 28=1:=by kernel_rfl
theorem yM:Tryz.prog.cellsOf 54=2:=by kernel_rfl
theorem CW:Tryz.prog.cellsOf 26=5:=by kernel_rfl
theorem CX:Tryz.prog.cellsOf 36=7:=by kernel_rfl
section
variable {H : Type} {enc : TypeId × Value -> H} {W : World}
theorem L0 {m e t s:Nat} {R:CV->Nat->Prop} (A:Tryz.prog.underlying t=some (.slice e)) (Y:Tryz.prog.cellsOf e=s) (U:0<s) (h:∀k,k<m->RD enc Tryz.prog W YtlohbilpimjmmaaGreatDoor.Rows.uptoBulk k e R) :
  RD (H:=H) enc Tryz.prog W YtlohbilpimjmmaaGreatDoor.Rows.uptoBulk m t (Wn s R):=by
 cases m with
 | zero=>exact RD.zero
 | succ k=>exact RD.slice jO A Y U (h k bn)
theorem Xf:∀(n m:Nat),m<=n->RD (H:=H) enc Tryz.prog W YtlohbilpimjmmaaGreatDoor.Rows.uptoBulk m 54 Y8
 | 0,m,hm=>by(obtain rfl:m=0:=by omega);exact RD.zero
 | n+1,0,_=>RD.zero
 | n+1,m+1,hm=>by
  refine RD.mono (RD.struct jO Tryz.underlying54 rfl (Rs:=[CU,Wn 2 Y8]) (fun k D=>?_) ?_) (aak _) ?_
  ·exact⟨_,_,rfl,rfl,RD.int jO Tryz.underlying3,_,_,rfl,Un,L0 Tryz.underlying27 yM cc (fun q hq=>Xf n q bn),rfl⟩
  ·simp only[List.map,kW,fE,z9,yM]
  ·rintro c k ⟨l,rfl,V,Y,J⟩;obtain⟨T,S,P,Q,rfl,⟨z,rfl,I,_⟩,⟨c2,k2,l2,m2,rfl,⟨rows,rfl,O,M,N⟩,rfl,h4⟩,h5⟩:=Y;obtain⟨u,rfl,U,B⟩:=yL M;exact⟨.mk z u,rfl,⟨bounds_i64 I,U⟩,by simp only[bA];omega⟩
theorem Xg:∀(n m:Nat),m<=n->RD (H:=H) enc Tryz.prog W YtlohbilpimjmmaaGreatDoor.Rows.uptoBulk m 26 Za
 | 0,m,hm=>by(obtain rfl:m=0:=by omega);exact RD.zero
 | n+1,0,_=>RD.zero
 | n+1,m+1,hm=>by
  refine RD.mono (RD.struct jO Tryz.underlying26 rfl (Rs:=[CU,CU,CU,Zc,Wn 5 Za]) (fun k D=>?_) ?_) (aak _) ?_
  ·exact⟨_,_,rfl,rfl,RD.int jO Tryz.underlying3,_,_,rfl,Un,RD.int jO Tryz.underlying3,_,_,rfl,Un,RD.int jO Tryz.underlying3,
    _,_,rfl,Un,RD.str jO Tryz.underlying9,_,_,rfl,by rw[fE,o8],L0 Tryz.underlying24 CW cc (fun q hq=>Xg n q bn),rfl⟩
  ·simp only[List.map,kW,fE,o8,Fy,CW]
  ·rintro c k ⟨l,rfl,Q,Y,J⟩;obtain⟨P,O,N,G,rfl,⟨z,rfl,I,_⟩,⟨c2,k2,l2,m2,rfl,⟨T,rfl,V,_⟩,⟨c3,k3,l3,m3,rfl,⟨U,rfl,S,_⟩,⟨c4,k4,l4,m4,rfl,⟨s,rfl,E⟩,⟨c5,k5,l5,m5,rfl,⟨rows,rfl,C,M,B⟩,rfl,h7⟩,h8⟩,h9⟩,h10⟩,h11⟩:=Y;obtain⟨u,rfl,K,A⟩:=CQ M;exact⟨.mk z T U s u,rfl,⟨bounds_i64 I,bounds_i64 V,bounds_i64 S,K⟩,by simp only[b8];omega⟩
theorem Zd:∀(n m:Nat),m<=n->RD (H:=H) enc Tryz.prog W YtlohbilpimjmmaaGreatDoor.Rows.uptoBulk m 36 RVl
 | 0,m,hm=>by(obtain rfl:m=0:=by omega);exact RD.zero
 | n+1,0,_=>RD.zero
 | n+1,m+1,hm=>by
  refine RD.mono (RD.struct jO Tryz.underlying36 rfl (Rs:=[CU,CU,CU,Zc,Wn 7 RVl,Wn 2 Y8,Wn 5 Za]) (fun k B=>?_) ?_) (aak _) ?_
  ·exact⟨_,_,rfl,rfl,RD.int jO Tryz.underlying3,_,_,rfl,Un,RD.int jO Tryz.underlying3,_,_,rfl,Un,RD.int jO Tryz.underlying3,
    _,_,rfl,Un,RD.str jO Tryz.underlying9,_,_,rfl,by rw[fE,o8],L0 Tryz.underlying28 CX cc (fun q hq=>Zd n q bn),
    _,_,rfl,by rw[fE,o8,Aa],L0 Tryz.underlying27 yM cc (fun q hq=>Xf q q (aak _)),
    _,_,rfl,by rw[fE,o8,Aa,z9],L0 Tryz.underlying24 CW cc (fun q hq=>Xg q q (aak _)),rfl⟩
  ·simp only[List.map,kW,fE,o8,Aa,z9,Fy,CX]
  ·rintro c k ⟨l,rfl,p,T,J⟩
   obtain⟨c1,k1,l1,m1,rfl,⟨z,rfl,I,_⟩,⟨c2,k2,l2,m2,rfl,⟨C,rfl,S,_⟩,⟨c3,k3,l3,m3,rfl,⟨Q,rfl,P,_⟩,⟨c4,k4,l4,m4,rfl,⟨s,rfl,hs⟩,⟨c5,k5,l5,m5,rfl,⟨rows,rfl,m6,M,h6⟩,
    ⟨c6,k6,l6,m7,rfl,⟨O,rfl,m8,N,g6⟩,⟨c7,k7,l7,m9,rfl,⟨K,rfl,G,Y,g7⟩,rfl,g8⟩,g9⟩,h7⟩,h8⟩,h9⟩,h10⟩,h11⟩:=T
   obtain⟨u,rfl,E,e3⟩:=CS M;obtain⟨V,rfl,D,f3⟩:=yL N;obtain⟨U,rfl,A,q3⟩:=CQ Y;exact⟨.mk z C Q s u V U,rfl,⟨bounds_i64 I,bounds_i64 S,bounds_i64 P,E,D,A⟩,by simp only[aM];omega⟩
set_option maxRecDepth 100000 in
theorem RT {v:Value} {d:DataW H} {ps:List MemPlace} {b0:Nat} {r:Reach} (hok:Value.okWide Tryz.prog W r b0 26 v) (hd:DataW.Trod enc Tryz.prog W 0 (fun _=>true) true 26 v d ps) :
  ∃a:Nd,Rel (mJ W) (aX a) v/\RS a/\b8 a<=YtlohbilpimjmmaaGreatDoor.Rows.uptoBulk d:=by
 obtain⟨c,h1,h⟩:=tW (R:=Za) Tryz.underlying26 (fun n=>Xg n n (aak _)) hd hok (fun c k h=>by obtain⟨t,h,_⟩:=h;cases t;exact⟨_,h⟩);obtain⟨a,rfl,h2,h3⟩:=h;exact⟨a,h1,h2,h3⟩
end
end Go.Proofs
namespace Go.Proofs
open Go.cq Go.ChangeShapes Go.WideShapes Go.ChangeAt Go.RowKit
section
variable {H : Type} {enc : TypeId × Value -> H} {W : World}
set_option maxRecDepth 100000 in
theorem G4 {v:Value} {d:DataW H} {ps:List MemPlace} {b0:Nat} {r:Reach} (hok:Value.okWide Tryz.prog W r b0 27 v) (hd:DataW.Trod enc Tryz.prog W 0 (fun _=>true) true 27 v d ps) :
  ∃a:List Ty,Rel (mJ W) (.sl 2 (aq a)) v/\A7 a/\aY a<=YtlohbilpimjmmaaGreatDoor.Rows.uptoBulk d:=by
 obtain⟨c,h1,h⟩:=qC (R:=Wn 2 Y8) Tryz.underlying27 (fun n=>L0 Tryz.underlying27 yM cc (fun k _=>Xf k k (aak _))) hd hok (fun c k h=>by obtain⟨rows,h,_⟩:=h;exact⟨_,_,h⟩);obtain⟨rows,rfl,m',hr,hle⟩:=h;obtain⟨l,rfl,h2,h3⟩:=yL hr;exact⟨l,h1,h2,bn⟩
end
end Go.Proofs
namespace Go.Proofs
open Go.cq Go.ChangeShapes Go.WideShapes Go.ChangeAt Go.RowKit
theorem PL:Tryz.prog.cellsOf 23=4:=by kernel_rfl
def Ze:CV->Nat->Prop:=fun c m=>∃x y z t:Int,c = .agg [.int .i64 x,.int .i64 y,.int .i64 z,.int .i64 t]/\1<=m
section
variable {H : Type} {enc : TypeId × Value -> H} {W : World}
set_option maxRecDepth 100000 in
theorem G5 {v:Value} {d:DataW H} {ps:List MemPlace} {b0:Nat} {r:Reach} (hok:Value.okWide Tryz.prog W r b0 28 v) (hd:DataW.Trod enc Tryz.prog W 0 (fun _=>true) true 28 v d ps) :
  ∃a:List Vl,Rel (mJ W) (.sl 7 (aa a)) v/\CT a/\aJ a<=YtlohbilpimjmmaaGreatDoor.Rows.uptoBulk d:=by
 obtain⟨c,h1,h⟩:=qC (R:=Wn 7 RVl) Tryz.underlying28 (fun n=>L0 Tryz.underlying28 CX cc (fun k _=>Zd k k (aak _))) hd hok (fun c k h=>by obtain⟨rows,h,_⟩:=h;exact⟨_,_,h⟩);obtain⟨rows,rfl,m',hr,hle⟩:=h;obtain⟨l,rfl,h2,h3⟩:=CS hr;exact⟨l,h1,h2,bn⟩
theorem Zf:∀(m:Nat),RD (H:=H) enc Tryz.prog W YtlohbilpimjmmaaGreatDoor.Rows.uptoBulk m 23 Ze
 | 0=>RD.zero
 | m+1=>by
  refine RD.mono (RD.struct jO Tryz.underlying23 rfl (Rs:=[CU,CU,CU,CU]) (fun k D=>?_) ?_) (aak _) ?_
  ·exact⟨_,_,rfl,rfl,RD.int jO Tryz.underlying3,_,_,rfl,Un,RD.int jO Tryz.underlying3,_,_,rfl,Un,RD.int jO Tryz.underlying3,_,_,rfl,Un,RD.int jO Tryz.underlying3,rfl⟩
  ·simp only[List.map,kW,fE,PL]
  ·rintro c k ⟨l,rfl,Q,Y,J⟩;obtain⟨q,P,O,N,rfl,⟨z,rfl,I,_⟩,⟨c2,k2,l2,m2,rfl,⟨T,rfl,M,_⟩,⟨c3,k3,l3,m3,rfl,⟨V,rfl,K,_⟩,⟨c4,k4,l4,m4,rfl,⟨U,rfl,S,_⟩,rfl,h7⟩,h8⟩,h9⟩,h10⟩:=Y;exact⟨z,T,V,U,rfl,bn⟩
set_option maxRecDepth 100000 in
theorem Od {v:Value} {d:DataW H} {ps:List MemPlace} {b0:Nat} {r:Reach} (hok:Value.okWide Tryz.prog W r b0 23 v) (hd:DataW.Trod enc Tryz.prog W 0 (fun _=>true) true 23 v d ps) :
  ∃x y z t:Int,Rel (mJ W) (.agg [.int .i64 x,.int .i64 y,.int .i64 z,.int .i64 t]) v:=by
 obtain⟨c,h1,h⟩:=tW (R:=Ze) Tryz.underlying23 (fun n=>Zf n) hd hok (fun c k h=>by obtain⟨x,y,z,t,h,_⟩:=h;exact⟨_,h⟩);obtain⟨x,y,z,t,rfl,_⟩:=h;exact⟨x,y,z,t,h1⟩
end
end Go.Proofs
namespace Go.cq
open Go.ChangeShapes Go.WideShapes Go.RowKit
theorem CY {P:Program} {w:World} {r:Reach} {base:Nat} {t:TypeId} {v:Value} (h:Cell.ok P w r base t v):(∀vs,v ≠ .agg vs)/\∀vs,v ≠ .tuple vs:=by
 constructor
 ·rintro vs rfl;unfold Cell.ok at h;split at h<;>simp_all
 ·rintro vs rfl;unfold Cell.ok at h;split at h<;>simp_all
theorem RU {P:Program} {w:World} (Q:w.ShapedOpen P) {g:Nat} {zero:Array Value} {t:TypeId} (E:Nat.blt g P.globals.size=true)
  (U:((begin P (fun _ _=>0) default).world.heap[g]?).bind Obj.row?=some (zero,t)) (G:P.buildable t=true) (W:zero.size=2) :
  Rel (mJ w) (.ip [.any,.any]) (.pointer (some ⟨g,0,none⟩)):=by
 obtain⟨cs,h1,h2,V⟩:=Q.1 g zero t (Nat.blt_eq.mp E) U;obtain⟨ts,_,_,Y⟩:=V G;rw[W]at h2;have p:cs[0]?=some cs[0]:=by simp[h2]
 have q:cs[1]?=some cs[1]:=by simp[h2]
 obtain⟨_,_,u⟩:=Y 0 _ p;obtain⟨_,_,D⟩:=Y 1 _ q;simp only[Rel];refine⟨g,0,rfl,?_⟩;simp only[cN];refine⟨⟨cs[0],?_,?_,rfl⟩,⟨cs[1],?_,?_,rfl⟩,trivial⟩
 ·simp[mJ,World.cell?,h1]
 ·simp only[Rel];exact CY u
 ·simp[mJ,World.cell?,h1]
 ·simp only[Rel];exact CY D
section
variable {H : Type} {enc : TypeId × Value -> H} {P : Program} {W : World}
theorem w9 {a:Assume} {C:Checked} {E:Os} {f:FuncId} {N:Func} {s:OpenSpec} {k:(H:Type)->List (DataW H)->Bool} (hk:s.cond=some k) {F:Stop.Interp} {V:List PathCond} {Y Q T again:Bool}
  (own:ownKnob C.prog.godebug=none) (P:E.Started) (M:C.prog.inits.idxOf? f=none) (D:C.prog.funcs[f]?=some N)
  (O:∃(w:World) (U:Tape) (i:Input),w.os=E/\(w.forCall U i).Shaped C.prog/\i.vars=[]/\Input.okWide C.prog (w.forCall U i) .any w.heap.size f i /\
   s.pre6 enc C.prog N V Y (w.forCall U i).memory i.args/\a.holds C.prog (lone (Frame.enter C.prog f i.args .normal) [] (w.forCall U i)))
  (S:∀(W:World) (q:W.ShapedOpen C.prog) (base:Nat) (args:Array Value) (K J:List (DataW H)) (before:List MemPlace),
   (∀(j:Nat) t v,N.params[j]?=some t->args[j]?=some v->Value.okWide C.prog W .any base t v) ->
   DataW.Whole enc C.prog N.params.toList s.vars Y W args.toList K J before ->
   V.all (PathCond.test C.prog ⟨N.params.toList,K,s.bare.plain.varTypes C.prog,J⟩)=true->k H (K++J)=true ->
   a.holds C.prog (lone (Frame.enter C.prog f args .normal) [] W) ->
   Calls C.prog f args W fun e p=>∃v,e = .returned v/\(s.at F).post enc C.prog N Y Q T again W args v p) :
  ReturnsInHanded a C E f .any (s.pre6 enc C.prog N V Y) ((s.at F).post enc C.prog N Y Q T again):=by
 refine returnsInHanded_of_calls own P M O ?_;intro w U i _ q _ hok I Xh;obtain⟨_,_,_,B,A,_,_,_,_,G⟩:=hok;obtain rfl:B=N:=Option.some.inj (A.symm.trans D);obtain⟨K,J,before,hw,hc,u⟩:=(OpenSpec.pre_some hk V Y _ _).1 I.1;refine(S (w.forCall U i) q w.heap.size i.args K J before G (DataW.Whole.of_heap (w':=w.forCall U i) (by rfl) hw) hc u Xh).mono fun e p ⟨v,he,hp⟩=>?_;subst he;exact ChangeSpec.post_blind hp
theorem Fz {X:Ctx} {f:FuncId} {S:Func} {s:ChangeSpec} {Y U V again:Bool} {args:Array Value} {Q N:List (DataW H)} {before:List MemPlace} {cs:List CV}
  (hq:bh P X f cs (.bool true)) (p:bL (mJ W) cs args.toList) (J:nC X (mJ W))
  (I:DataW.Whole enc P S.params.toList s.vars Y W args.toList Q N before) (T:s.vars=[])
  (G:laidOutB P=true) (E:mapsRowed P=true) (D:∀t e,t<P.types.size->P.underlying t=some (.slice e)->0<P.cellsOf e) (C:(S.params.toList.all fun t=>Nat.blt t P.types.size)=true)
  {M:TypeId} (B:S.resultTypes = #[M]) (q:P.underlying M=some .bool) (O:s.fn H (Q++N)={results:=[.lit (.bool true)],args:=Q}) :
  Calls P f args W fun e K=>∃v,e = .returned v/\s.post enc P S Y U V again W args v K:=by
 have h:=hq.2 (mJ W) W args.toList (Xi W) J p;rw[show args.toList.toArray=args from by simp]at h;refine h.mono ?_;rintro e K ⟨u,G',rfl,A,hg⟩;simp only[Rel]at A;subst A;exact⟨_,rfl,L2 I T G E D (fun t ht=>by have:=List.all_eq_true.1 C t ht;simpa[Nat.blt_eq]using this) hg B q rfl O⟩
end
end Go.cq
namespace Go.Proofs
open Go.cq
theorem Tryz.RV {W:World} (Q:W.ShapedOpen Tryz.prog):nC Tryz.X (mJ W):=fun n v V=>by
 have h1:ak n [(0,.ip [.any,.any])]=some v:=V;simp only[ak]at h1;cases Y:Nat.beq 0 n with
 | false=>rw[Y]at h1;cases h1
 | true =>
  rw[Y]at h1;obtain rfl:=Nat.eq_of_beq_eq_true Y;cases h1;exact RU Q (zero := #[.slice none 0 0,.bool false]) (t:=30) (by kernel_rfl) (by kernel_rfl) (by kernel_rfl) rfl
end Go.Proofs
