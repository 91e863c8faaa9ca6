/- What the arguments of the laws read as: -/
import Derived.Test.YtdnpapgijbhofaaGreatDoorRows
import Derived.Test.YtdnpapgijbhofaaGreatDoorTPureRt
import Derived.Test.YtdnpapgijbhofaaGreatDoorCtxRt
import Derived.WalkKit
import Derived.ProofKit
import Derived.OpenShut
import Derived.Test.YtdnpapgijbhofaaGreatDoorHeadRt
import Derived.JoinedCond
set_option linter.defProp false
set_option linter.unusedVariables false
set_option linter.unusedSimpArgs false
namespace Go.Proofs
open Go.cB Go.ChangeShapes Go.WideShapes Go.ChangeAt Go.RowKit
def uk{H:Type}:∀(l:L (DataW H)),(l.map YtdnpapgijbhofaaGreatDoor.Rows.uptoBulk).sum=YtdnpapgijbhofaaGreatDoor.Rows.uptoBulkAll l
 |[]=>rfl
 |d::l=>by simp only[abk,List.sum_cons,YtdnpapgijbhofaaGreatDoor.Rows.uptoBulkAll,uk l]
def jC{H:Type}:CA (H:=H) YtdnpapgijbhofaaGreatDoor.Rows.uptoBulk where
 lit:=λl=>by cases l<;>simp[YtdnpapgijbhofaaGreatDoor.Rows.uptoBulk]
 str:=λs=>by simp[YtdnpapgijbhofaaGreatDoor.Rows.uptoBulk]
 nil:=by simp[YtdnpapgijbhofaaGreatDoor.Rows.uptoBulk]
 slice:=λl r=>by rw[uk];simp only[YtdnpapgijbhofaaGreatDoor.Rows.uptoBulk];omega
 agg:=λl=>by rw[uk];simp only[YtdnpapgijbhofaaGreatDoor.Rows.uptoBulk];omega
def YQ:CV->Nat->Prop:=λc m=>∃t:Ty,c=dA t/\YR t/\bp t<=m
def YS:CV->Nat->Prop:=λc m=>∃t:Nd,c=aS t/\US t/\bR t<=m
def RVl:CV->Nat->Prop:=λc m=>∃t:Vl,c=bA t/\YT t/\aE t<=m
def yj:∀{rows:L CV}{m:Nat},AX YQ rows m->∃l:L Ty,rows=aj l/\Ff l/\aU l<=m
 |[],m,_=>⟨[],Z,trivial,by simp[aU]⟩
 |r::rows,m,⟨k,m',⟨t,h1,h2,U⟩,h4,h5⟩=>by obtain⟨l,Y,B,W⟩:=yj h4;exact⟨t::l,by rw[h1,Y];rfl,⟨h2,B⟩,by simp only[aU];omega⟩
def CB:∀{rows:L CV}{m:Nat},AX YS rows m->∃l:L Nd,rows=aD l/\Ob l/\aM l<=m
 |[],m,_=>⟨[],Z,trivial,by simp[aM]⟩
 |r::rows,m,⟨k,m',⟨t,h1,h2,U⟩,h4,h5⟩=>by obtain⟨l,Y,B,W⟩:=CB h4;exact⟨t::l,by rw[h1,Y];rfl,⟨h2,B⟩,by simp only[aM];omega⟩
def CC:∀{rows:L CV}{m:Nat},AX RVl rows m->∃l:L Vl,rows=aa l/\Jp l/\aB l<=m
 |[],m,_=>⟨[],Z,trivial,by simp[aB]⟩
 |r::rows,m,⟨k,m',⟨t,h1,h2,U⟩,h4,h5⟩=>by obtain⟨l,Y,B,W⟩:=CC h4;exact⟨t::l,by rw[h1,Y];rfl,⟨h2,B⟩,by simp only[aB];omega⟩
abbrev CD:CV->Nat->Prop:=λc k=>∃z,c = .int .i64 z/\(Lit.int .i64 z).wf=true/\1<=k
abbrev YU:CV->Nat->Prop:=λc k=>∃s,c = .str s/\s.length+1<=k
abbrev V7(s:Nat)(R:CV->Nat->Prop):CV->Nat->Prop:=λc k=>∃rows,c = .sl s rows/\∃S,AX R rows S/\S+1<=k
def fy:Tryz.prog.cellsOf 3=1:=by kernel_rfl
def oT:Tryz.prog.cellsOf 9=1:=by kernel_rfl
def zN:Tryz.prog.cellsOf 23=1:=by kernel_rfl
def Fg:Tryz.prog.cellsOf 26=1:=by kernel_rfl
def zO:Tryz.prog.cellsOf 27=1:=by kernel_rfl
def yl:Tryz.prog.cellsOf 25=2:=by kernel_rfl
def CE:Tryz.prog.cellsOf 47=5:=by kernel_rfl
def CF:Tryz.prog.cellsOf 29=7:=by kernel_rfl
section
variable {H : Type}{enc : TypeId × Value -> H}{W : World}
def LW{m e t s:Nat}{R:CV->Nat->Prop}(E:Tryz.prog.underlying t=some (.slice e))(C:Tryz.prog.cellsOf e=s)(M:0<s)(h:∀k,k<m->RD enc Tryz.prog W YtdnpapgijbhofaaGreatDoor.Rows.uptoBulk k e R) :
  RD (H:=H) enc Tryz.prog W YtdnpapgijbhofaaGreatDoor.Rows.uptoBulk m t (V7 s R):=by
 cases m with
 |zero=>exact RD.zero
 |succ k=>exact RD.slice jC E C M (h k bn)
def W7:∀(n m:Nat),m<=n->RD (H:=H) enc Tryz.prog W YtdnpapgijbhofaaGreatDoor.Rows.uptoBulk m 25 YQ
 |0,m,hm=>by(obtain rfl:m=0:=by omega);exact RD.zero
 |n+1,0,_=>RD.zero
 |n+1,m+1,hm=>by refine RD.mono (RD.struct jC Tryz.underlying25 rfl (Rs:=[CD,V7 2 YQ]) (λk E=>?_) ?_) (aal _) ?_;exact⟨_,_,rfl,rfl,RD.int jC Tryz.underlying3,_,_,rfl,Y1,LW Tryz.underlying23 yl cc (λq hq=>W7 n q bn),rfl⟩;simp only[List.map,lS,fy,zN,yl];rintro c k ⟨l,rfl,S,Y,A⟩;obtain⟨U,J,K,T,rfl,⟨z,rfl,B,_⟩,⟨c2,k2,l2,m2,rfl,⟨rows,rfl,u,p,Q⟩,rfl,h4⟩,h5⟩:=Y;obtain⟨D,rfl,V,P⟩:=yj p;exact⟨.mk z D,rfl,⟨bounds_i64 B,V⟩,by simp only[bp];omega⟩
def W8:∀(n m:Nat),m<=n->RD (H:=H) enc Tryz.prog W YtdnpapgijbhofaaGreatDoor.Rows.uptoBulk m 47 YS
 |0,m,hm=>by(obtain rfl:m=0:=by omega);exact RD.zero
 |n+1,0,_=>RD.zero
 |n+1,m+1,hm=>by
  refine RD.mono (RD.struct jC Tryz.underlying47 Z (Rs:=[CD,CD,CD,YU,V7 5 YS]) (λk E=>?_) ?_) (aal _) ?_
  ·exact⟨_,_,Z,Z,RD.int jC Tryz.underlying3,_,_,Z,Y1,RD.int jC Tryz.underlying3,_,_,Z,Y1,RD.int jC Tryz.underlying3,
    _,_,Z,Y1,RD.str jC Tryz.underlying9,_,_,Z,by rw[fy,oT],LW Tryz.underlying26 CE cc (λq hq=>W8 n q bn),Z⟩
  simp only[List.map,lS,fy,oT,Fg,CE];rintro c k ⟨l,rfl,P,Y,A⟩;obtain⟨O,J,K,N,rfl,⟨z,rfl,B,_⟩,⟨c2,k2,l2,m2,rfl,⟨V,rfl,U,_⟩,⟨c3,k3,l3,m3,rfl,⟨D,rfl,T,_⟩,⟨c4,k4,l4,m4,rfl,⟨s,rfl,C⟩,⟨c5,k5,l5,m5,rfl,⟨rows,rfl,M,p,I⟩,rfl,h7⟩,h8⟩,h9⟩,h10⟩,h11⟩:=Y;obtain⟨S,rfl,Q,G⟩:=CB p;exact⟨.mk z V D s S,Z,⟨bounds_i64 B,bounds_i64 U,bounds_i64 T,Q⟩,by simp only[bR];omega⟩
def YV:∀(n m:Nat),m<=n->RD (H:=H) enc Tryz.prog W YtdnpapgijbhofaaGreatDoor.Rows.uptoBulk m 29 RVl
 |0,m,hm=>by(obtain rfl:m=0:=by omega);exact RD.zero
 |n+1,0,_=>RD.zero
 |n+1,m+1,hm=>by
  refine RD.mono (RD.struct jC Tryz.underlying29 Z (Rs:=[CD,CD,CD,YU,V7 7 RVl,V7 2 YQ,V7 5 YS]) (λk C=>?_) ?_) (aal _) ?_
  ·exact⟨_,_,Z,Z,RD.int jC Tryz.underlying3,_,_,Z,Y1,RD.int jC Tryz.underlying3,_,_,Z,Y1,RD.int jC Tryz.underlying3,
    _,_,Z,Y1,RD.str jC Tryz.underlying9,_,_,Z,by rw[fy,oT],LW Tryz.underlying27 CF cc (λq hq=>YV n q bn),
    _,_,Z,by rw[fy,oT,zO],LW Tryz.underlying23 yl cc (λq hq=>W7 q q (aal _)),
    _,_,Z,by rw[fy,oT,zO,zN],LW Tryz.underlying26 CE cc (λq hq=>W8 q q (aal _)),Z⟩
  simp only[List.map,lS,fy,oT,zO,zN,Fg,CF];rintro c k ⟨l,rfl,u,T,A⟩;obtain⟨c1,k1,l1,m1,rfl,⟨z,rfl,B,_⟩,⟨c2,k2,l2,m2,rfl,⟨S,rfl,Q,_⟩,⟨c3,k3,l3,m3,rfl,⟨D,rfl,P,_⟩,⟨c4,k4,l4,m4,rfl,⟨s,rfl,hs⟩,⟨c5,k5,l5,m5,rfl,⟨rows,rfl,m6,p,h6⟩,⟨c6,k6,l6,m7,rfl,⟨O,rfl,m8,N,g6⟩,⟨c7,k7,l7,m9,rfl,⟨M,rfl,K,Y,g7⟩,rfl,g8⟩,g9⟩,h7⟩,h8⟩,h9⟩,h10⟩,h11⟩:=T;obtain⟨J,rfl,I,e3⟩:=CC p;obtain⟨V,rfl,G,f3⟩:=yj N;obtain⟨U,rfl,E,q3⟩:=CB Y;exact⟨.mk z S D s J V U,Z,⟨bounds_i64 B,bounds_i64 Q,bounds_i64 P,I,G,E⟩,by simp only[aE];omega⟩
set_option maxRecDepth 100000 in
def W9{v:Value}{d:DataW H}{ps:L MemPlace}{b0:Nat}{r:Reach}(hok:Value.okWide Tryz.prog W r b0 47 v)(hd:DataW.Trod enc Tryz.prog W 0 (λ_=>true) true 47 v d ps) :
  ∃a:Nd,Rel (mV W) (aS a) v/\US a/\bR a<=YtdnpapgijbhofaaGreatDoor.Rows.uptoBulk d:=by
 obtain⟨c,h1,h⟩:=tC (R:=YS) Tryz.underlying47 (λn=>W8 n n (aal _)) hd hok (λc k h=>by obtain⟨t,h,_⟩:=h;cases t;exact⟨_,h⟩);obtain⟨a,rfl,h2,h3⟩:=h;exact⟨a,h1,h2,h3⟩
end
end Go.Proofs
namespace Go.Proofs
open Go.cB Go.ChangeShapes Go.WideShapes Go.ChangeAt Go.RowKit
section
variable {H : Type}{enc : TypeId × Value -> H}{W : World}
set_option maxRecDepth 100000 in
def UT{v:Value}{d:DataW H}{ps:L MemPlace}{b0:Nat}{r:Reach}(hok:Value.okWide Tryz.prog W r b0 23 v)(hd:DataW.Trod enc Tryz.prog W 0 (λ_=>true) true 23 v d ps) :
  ∃a:L Ty,Rel (mV W) (.sl 2 (aj a)) v/\Ff a/\aU a<=YtdnpapgijbhofaaGreatDoor.Rows.uptoBulk d:=by
 obtain⟨c,h1,h⟩:=qq (R:=V7 2 YQ) Tryz.underlying23 (λn=>LW Tryz.underlying23 yl cc (λk _=>W7 k k (aal _))) hd hok (λc k h=>by obtain⟨rows,h,_⟩:=h;exact⟨_,_,h⟩);obtain⟨rows,rfl,m',hr,hle⟩:=h;obtain⟨l,rfl,h2,h3⟩:=yj hr;exact⟨l,h1,h2,bn⟩
end
end Go.Proofs
namespace Go.Proofs
open Go.cB Go.ChangeShapes Go.WideShapes Go.ChangeAt Go.RowKit
def Ph:Tryz.prog.cellsOf 63=4:=by kernel_rfl
def YW:CV->Nat->Prop:=λc m=>∃x y z t:Int,c = .agg [.int .i64 x,.int .i64 y,.int .i64 z,.int .i64 t]/\1<=m
section
variable {H : Type}{enc : TypeId × Value -> H}{W : World}
set_option maxRecDepth 100000 in
def UU{v:Value}{d:DataW H}{ps:L MemPlace}{b0:Nat}{r:Reach}(hok:Value.okWide Tryz.prog W r b0 27 v)(hd:DataW.Trod enc Tryz.prog W 0 (λ_=>true) true 27 v d ps) :
  ∃a:L Vl,Rel (mV W) (.sl 7 (aa a)) v/\Jp a/\aB a<=YtdnpapgijbhofaaGreatDoor.Rows.uptoBulk d:=by
 obtain⟨c,h1,h⟩:=qq (R:=V7 7 RVl) Tryz.underlying27 (λn=>LW Tryz.underlying27 CF cc (λk _=>YV k k (aal _))) hd hok (λc k h=>by obtain⟨rows,h,_⟩:=h;exact⟨_,_,h⟩);obtain⟨rows,rfl,m',hr,hle⟩:=h;obtain⟨l,rfl,h2,h3⟩:=CC hr;exact⟨l,h1,h2,bn⟩
def YX:∀(m:Nat),RD (H:=H) enc Tryz.prog W YtdnpapgijbhofaaGreatDoor.Rows.uptoBulk m 63 YW
 |0=>RD.zero
 |m+1=>by refine RD.mono (RD.struct jC Tryz.underlying63 rfl (Rs:=[CD,CD,CD,CD]) (λk E=>?_) ?_) (aal _) ?_;exact⟨_,_,rfl,rfl,RD.int jC Tryz.underlying3,_,_,rfl,Y1,RD.int jC Tryz.underlying3,_,_,rfl,Y1,RD.int jC Tryz.underlying3,_,_,rfl,Y1,RD.int jC Tryz.underlying3,rfl⟩;simp only[List.map,lS,fy,Ph];rintro c k ⟨l,rfl,S,Y,A⟩;obtain⟨p,q,K,T,rfl,⟨z,rfl,Q,_⟩,⟨c2,k2,l2,m2,rfl,⟨B,rfl,P,_⟩,⟨c3,k3,l3,m3,rfl,⟨D,rfl,O,_⟩,⟨c4,k4,l4,m4,rfl,⟨V,rfl,U,_⟩,rfl,h7⟩,h8⟩,h9⟩,h10⟩:=Y;exact⟨z,B,D,V,rfl,bn⟩
set_option maxRecDepth 100000 in
def UW{v:Value}{d:DataW H}{ps:L MemPlace}{b0:Nat}{r:Reach}(hok:Value.okWide Tryz.prog W r b0 63 v)(hd:DataW.Trod enc Tryz.prog W 0 (λ_=>true) true 63 v d ps) :
  ∃x y z t:Int,Rel (mV W) (.agg [.int .i64 x,.int .i64 y,.int .i64 z,.int .i64 t]) v:=by
 obtain⟨c,h1,h⟩:=tC (R:=YW) Tryz.underlying63 (λn=>YX n) hd hok (λc k h=>by obtain⟨x,y,z,t,h,_⟩:=h;exact⟨_,h⟩);obtain⟨x,y,z,t,rfl,_⟩:=h;exact⟨x,y,z,t,h1⟩
end
end Go.Proofs
namespace Go.cB
open Go.ChangeShapes Go.WideShapes Go.RowKit
def CG{P:Program}{w:World}{r:Reach}{base:Nat}{t:TypeId}{v:Value}(h:Cell.ok P w r base t v):(∀vs,v ≠ .agg vs)/\∀vs,v ≠ .tuple vs:=by
 constructor
 ·rintro vs rfl;unfold Cell.ok at h;split at h<;>simp_all
 rintro vs rfl;unfold Cell.ok at h;split at h<;>simp_all
def Rp{P:Program}{w:World}(M:w.ShapedOpen P){g:Nat}{zero:Array Value}{t:TypeId}(Q:Nat.blt g P.globals.size=true)
  (W:((begin P (λ_ _=>0) default).world.heap[g]?).bind Obj.row?=some (zero,t))(A:P.buildable t=true)(B:zero.size=2) :
  Rel (mV w) (.ip [.any,.any]) (.pointer (some ⟨g,0,none⟩)):=by
 obtain⟨cs,h1,h2,U⟩:=M.1 g zero t (Nat.blt_eq.mp Q) W;obtain⟨ts,_,_,Y⟩:=U A;rw[B]at h2;have V:cs[0]?=some cs[0]:=by simp[h2]
 have p:cs[1]?=some cs[1]:=by simp[h2]
 obtain⟨_,_,T⟩:=Y 0 _ V;obtain⟨_,_,q⟩:=Y 1 _ p;simp only[Rel];refine⟨g,0,Z,?_⟩;simp only[cW];refine⟨⟨cs[0],?_,?_,Z⟩,⟨cs[1],?_,?_,Z⟩,trivial⟩;simp[mV,World.cell?,h1];simp only[Rel];exact CG T;simp[mV,World.cell?,h1];simp only[Rel];exact CG q
section
variable {H : Type}{enc : TypeId × Value -> H}{P : Program}{W : World}
def EA{a:Assume}{C:Checked}{u:Os}{f:FuncId}{N:Func}{s:OpenSpec}{k:(H:Type)->L (DataW H)->Bool}(hk:s.cond=some k){F:Stop.Interp}{V:L PathCond}{Y Q T again:Bool}
  (own:ownKnob C.prog.godebug=none)(P:u.Started)(M:C.prog.inits.idxOf? f=none)(E:C.prog.funcs[f]?=some N)
  (O:∃(w:World) (U:Tape) (i:Input),w.os=u/\(w.forCall U i).Shaped C.prog/\i.vars=[]/\Input.okWide C.prog (w.forCall U i) .any w.heap.size f i /\
   s.pre6 enc C.prog N V Y (w.forCall U i).memory i.args/\a.holds C.prog (lone (Frame.enter C.prog f i.args .normal) [] (w.forCall U i)))
  (S:∀(W:World)(q:W.ShapedOpen C.prog)(base:Nat)(args:Array Value)(K J:L (DataW H))(before:L MemPlace),
   (∀(j:Nat) t v,N.params[j]?=some t->args[j]?=some v->Value.okWide C.prog W .any base t v) ->
   DataW.Whole enc C.prog N.params.toList s.vars Y W args.toList K J before ->
   V.all (PathCond.test C.prog ⟨N.params.toList,K,s.bare.plain.varTypes C.prog,J⟩)=true->k H (K++J)=true ->
   a.holds C.prog (lone (Frame.enter C.prog f args .normal) [] W) ->
   Calls C.prog f args W λe p=>∃v,e = .returned v/\(s.at F).post enc C.prog N Y Q T again W args v p) :
  ReturnsInHanded a C u f .any (s.pre6 enc C.prog N V Y) ((s.at F).post enc C.prog N Y Q T again):=by
 refine returnsInHanded_of_calls own P M O ?_;intro w U i _ q _ hok I Xa;obtain⟨_,_,_,D,B,_,_,_,_,G⟩:=hok;obtain rfl:D=N:=Option.some.inj (B.symm.trans E);obtain⟨K,J,before,hw,hc,A⟩:=(OpenSpec.pre_some hk V Y _ _).1 I.1;refine(S (w.forCall U i) q w.heap.size i.args K J before G (DataW.Whole.of_heap (w':=w.forCall U i) (by rfl) hw) hc A Xa).mono λe p ⟨v,he,hp⟩=>?_;subst he;exact ChangeSpec.post_blind hp
def Pj{X:Ctx}{f:FuncId}{S:Func}{s:ChangeSpec}{Y U V again:Bool}{args:Array Value}{Q N:L (DataW H)}{before:L MemPlace}{cs:L CV}
  (hq:aR P X f cs (.bool true))(I:bT (mV W) cs args.toList)(J:oz X (mV W))
  (G:DataW.Whole enc P S.params.toList s.vars Y W args.toList Q N before)(T:s.vars=[])
  (D:laidOutB P=true)(C:mapsRowed P=true)(B:∀t e,t<P.types.size->P.underlying t=some (.slice e)->0<P.cellsOf e)(q:(S.params.toList.all λt=>Nat.blt t P.types.size)=true)
  {M:TypeId}(A:S.resultTypes = #[M])(p:P.underlying M=some .bool)(O:s.fn H (Q++N)={results:=[.lit (.bool true)],args:=Q}) :
  Calls P f args W λe K=>∃v,e = .returned v/\s.post enc P S Y U V again W args v K:=by
 have h:=hq.2 (mV W) W args.toList (Xb W) J I;rw[show args.toList.toArray=args from by simp]at h;refine h.mono ?_;rintro e K ⟨u,G',rfl,E,hg⟩;simp only[Rel]at E;subst E;exact⟨_,Z,LY G T D C B (λt ht=>by have:=List.all_eq_true.1 q t ht;simpa[Nat.blt_eq]using this) hg A p Z O⟩
end
end Go.cB
namespace Go.Proofs
open Go.cB
def Tryz.Xc{W:World}(M:W.ShapedOpen Tryz.prog):oz Tryz.X (mV W):=λn v q=>by
 have h1:ak n [(0,.ip [.any,.any])]=some v:=q;simp only[ak]at h1;cases O:Nat.beq 0 n with
 |false=>rw[O]at h1;cases h1
 |true =>
  rw[O]at h1;obtain rfl:=aec O;cases h1;exact Rp M (zero := #[.slice none 0 0,.bool false]) (t:=65) (by kernel_rfl) (by kernel_rfl) (by kernel_rfl) Z
end Go.Proofs
