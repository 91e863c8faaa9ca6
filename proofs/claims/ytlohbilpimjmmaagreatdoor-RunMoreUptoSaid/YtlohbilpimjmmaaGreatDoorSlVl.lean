/- What slices.Delete of one row and slices.Insert of one row do to rows of api.Value, said of the cells. -/
import Derived.Test.YtlohbilpimjmmaaGreatDoorCtx
import Derived.Test.YtlohbilpimjmmaaGreatDoorLibD
import Derived.WalkKit
import Derived.KernelRfl
import Derived.Deep.LoopGhost
import Derived.Deep.RegionLaw
import Derived.Lib.Walk
import Derived.Lib.SliceRun
import Derived.Lib.AppendZeros
import Derived.Laws.IdiomCopy
import Derived.Laws.Externs
import Derived.Shelf.RegionOpenPlain
set_option linter.unusedVariables false
set_option linter.unusedSimpArgs false
namespace Go.Proofs
open Go.RowKit Go.Lib Go.cq
theorem zI:(Tryz.prog.info? 36).map (fun i=>(i.zero,i.size,i.bytes))=some (some (.agg #[.int .i64 0,.int .i64 0,.int .i64 0,.string ⟨#[]⟩,.slice none 0 0,.slice none 0 0,.slice none 0 0]),7,112):=by kernel_rfl
theorem Yd:(Value.agg #[.int .i64 0,.int .i64 0,.int .i64 0,.string ⟨#[]⟩,.slice none 0 0,.slice none 0 0,.slice none 0 0]).cells.size=7:=rfl
theorem T0:(Builtin.zeroCells (Value.agg #[.int .i64 0,.int .i64 0,.int .i64 0,.string ⟨#[]⟩,.slice none 0 0,.slice none 0 0,.slice none 0 0]).cells 1).toList=[.int .i64 0,.int .i64 0,.int .i64 0,.string ⟨#[]⟩,.slice none 0 0,.slice none 0 0,.slice none 0 0]:=by
 simp[Builtin.zeroCells,Value.cells,List.range,List.range.loop]
set_option maxHeartbeats 4000000 in
set_option maxRecDepth 1000000 in
theorem Va (n cap i b:Nat) (w:World) (hi:i<n) (hcap:n<=cap) (news zs:List Value) (hlen:news.length=(n-(i+1))*7) (h1:∀u∈news,u.oneCell'=true)
  (hn:∀(j:Nat) u,news[j]?=some u->w.cell? ⟨b,(i+1)*7+j,none⟩=some u) (hall:∀o,o<cap*7->(w.cell? ⟨b,o,none⟩).isSome=true) (hfr:∀o,w.frozen? ⟨b,o,none⟩=false)
  (hz:zs=[.int .i64 0,.int .i64 0,.int .i64 0,.string ⟨#[]⟩,.slice none 0 0,.slice none 0 0,.slice none 0 0]) :
  Calls Tryz.prog 108 #[.slice (some ⟨b,0,none⟩) n cap,.int .i64 i,.int .i64 ((i+1:Nat):Int)] w fun e w'=>e = .returned (.slice (some ⟨b,0,none⟩) (n-1) cap)/\w'=(w.drew.setCells b (i*7) news).setCells b ((n-1)*7) zs:=by
 have mixed:=Tryz.mixed;have hlt:i+1<=n:=hi;have hne:¬((i:Int)=((i+1:Nat):Int)):=by omega
 obtain⟨i0,qu,Rt,Jh,PF⟩:=info_parts zI;have ts:=Tryz.underlying28;have hic:i<=cap:=by omega
 have hjc:i+1<=cap:=by omega
 have EH:(0:Int)<=(i:Int)+1:=by omega
 have QY:(i:Int)+1<=(n:Int):=by omega
 obtain⟨A,hA,hsrc⟩:∃A:Addr,(if cap=i+1 then(some ⟨b,0,none⟩:Option Addr)else some ⟨b,(i+1)*7,none⟩)=some A/\Hid (∀(t:Nat) u,news[t]?=some u->w.drew.cell? (A.add t)=some u):=by
  by_cases h:cap=i+1
  ·refine⟨⟨b,0,none⟩,oe,fun t u hu=>?_⟩;have h0:news.length=0:=by rw[hlen];omega
   rw[List.length_eq_zero_iff.1 h0]at hu;simp at hu
  ·refine⟨⟨b,(i+1)*7,none⟩,oe,fun t u hu=>?_⟩;rw[Addr.add_lit];exact hn t u hu
 have s1:Hid (news.length=(n-(i+1))*7):=hlen;have s2:Hid (∀u∈news,u.oneCell'=true):=h1;have s3:Hid (∀t,t<news.length->(w.drew.cell? ⟨b,0+i*7+t,none⟩).isSome=true/\w.drew.frozen? ⟨b,0+i*7+t,none⟩=false):=by
  intro t ht;rw[hlen]at ht;exact⟨hall _ bn,hfr _⟩
 obtain⟨W1,uD⟩:∃W1,W1=w.drew.setCells b (0+i*7) news:=⟨_,rfl⟩
 have jT:∀ty,(Builtin.clear_ #[28] ty #[.slice (some ⟨b,(i+(n-(i+1)))*7,none⟩) (n-(i+(n-(i+1)))) (cap-(i+(n-(i+1))))]).run Tryz.prog W1 = .ok (.tuple #[]) (W1.setCells b ((n-1)*7) zs):=by
  intro ty
  have hst:=run_storeCells_cells (P:=Tryz.prog) b ((n-1)*7) zs 0 W1 (fun j hj=>by
    rw[uD,Nat.add_zero]
    exact cX (fun k hk=>by rw[hlen]at hk;exact hall _ bn) (hall _ (by rw[hz]at hj;simp at hj;omega)))
   (fun j hj=>by rw[uD,World.frozen?_setCells];exact hfr _) (by rw[hz];simp[Value.oneCell'])
  rw[show n-(i+(n-(i+1)))=1 by omega,show i+(n-(i+1))=n-1 by omega];rw[hz]at hst ⊢;simp only[Nat.add_zero]at hst;simp[Builtin.clear_,run_underlying ts,Tryz.zeroValue36,T0,hst]
 have hW:Hid (W1=w.drew.setCells b (0+i*7) news):=uD;clear uD hn hall hfr
 go_enter Tryz.func108,Tryz.ntmps108
 go_wp2_with fail
 go_region_law_o (refine step_append_room rfl (.tmp 22) (.tmp 25) 28 rfl 36 i0 7 ts qu Jh b 0 i cap lq A (n-(i+1)) (cap-(i+1)) news lq s1.out hsrc.out s2.out bn s3.out ?_;rw[<- hW.out])
 go_wp2
 go_ret
 have e1:i+(n-(i+1))=n-1:=by omega
 refine⟨by rw[<- e1];rfl,?_⟩;rw[hW.out,hz,Nat.zero_add]
set_option maxHeartbeats 4000000 in
set_option maxRecDepth 100000 in
theorem QI (b n c i vb vo m vc:Nat) (cs vs:List Value) (w:World) (hi:i<n) (hm:0<m) (hroom:n+m<=c) (hnb:n+m<=9000000000000000000) (IT:vb≠b)
  (jT:cs.length=n*7) (hvl:vs.length=m*7)
  (hcs:∀(j:Nat) v,cs[j]?=some v->w.cell? ⟨b,j,none⟩=some v) (hsp:∀j,j<c*7->(w.cell? ⟨b,j,none⟩).isSome=true) (hfz:∀j,w.frozen? ⟨b,j,none⟩=false)
  (hvs:∀(j:Nat) v,vs[j]?=some v->w.cell? ⟨vb,vo+j,none⟩=some v) (h1c:∀v∈cs,v.oneCell'=true) (BL:∀v∈vs,v.oneCell'=true) :
  Calls Tryz.prog 109 #[.slice (some ⟨b,0,none⟩) n c,.int .i64 i,.slice (some ⟨vb,vo,none⟩) m vc] w fun e w' =>
   e = .returned (.slice (some ⟨b,0,none⟩) (n+m) c)/\w'=(w.drew.setCells b ((i+m)*7) (cs.drop (i*7))).setCells b (i*7) vs:=by
 have ts:=Tryz.underlying28;have Jh:¬((m:Int)=0):=by omega
 have Uo:¬((i:Int)=(n:Int)):=by omega
 have Wm:¬((c:Int)<(n:Int)+(m:Int)):=by omega
 have hsz:(Tryz.prog.info? 36).map (·.size)=some 7:=by kernel_rfl
 obtain⟨v0,PI⟩:∃v0,w.cell? ⟨vb,vo,none⟩=some v0:=⟨_,hvs 0 _ (List.getElem?_eq_getElem WL)⟩
 obtain⟨u0,YX⟩:=Option.isSome_iff_exists.1 (hsp ((i+m)*7) bn);have hov:∀lb cb,(callFunc 133 #[.slice (some ⟨vb,vo,none⟩) m vc,.slice (some ⟨b,(i+m)*7,none⟩) lb cb]).run Tryz.prog w = .ok (.value (.bool false)) w:=fun lb cb=>by
  rw[run_callFunc_extern Tryz.func133 (by kernel_rfl) (by kernel_rfl) (by kernel_rfl) (e:=Extern.SlicesOverlaps.overlaps #[28,28] #[4]) (by kernel_rfl),
   rR w 28 4 36 ts 7 Tryz.sizeOf36 ⟨vb,vo,none⟩ ⟨b,(i+m)*7,none⟩ m vc lb cb IT PI YX hfz rfl]
  rfl
 have BM:(cs.drop (i*7)).length=(n-i)*7:=by rw[List.length_drop,jT];omega
 have mixed:=Tryz.mixed;have hw1:IntKind.i64.wrap ((i:Int)+(m:Int))=(i:Int)+(m:Int):=by rw[IntKind.wrap_i64];omega
 have QZ:IntKind.i64.wrap ((n:Int)+(m:Int))=(n:Int)+(m:Int):=by rw[IntKind.wrap_i64];omega
 have EH:(0:Int)<=(i:Int)+(m:Int):=by omega
 have hin:i<=n:=by omega
 have htn:((i:Int)+(m:Int)).toNat=i+m:=by omega
 have QY:¬(c=i+m):=by omega
 have hb3:(i:Int)<=(n:Int)+(m:Int):=by omega
 have hb4:¬(c=i):=by omega
 have Ru:∀ty dc sc,(Builtin.copy_ #[28,28] ty #[.slice (some ⟨b,(i+m)*7,none⟩) (n+m-(i+m)) dc,.slice (some ⟨b,i*7,none⟩) (n+m-i) sc]).run Tryz.prog w.drew = .ok (goInt ((n-i:Nat):Int)) (w.drew.setCells b ((i+m)*7) (cs.drop (i*7))):=fun ty dc sc =>
  mm w.drew _ _ ty 36 b ((i+m)*7) (n+m-(i+m)) dc ⟨b,i*7,none⟩ (n+m-i) sc (cs.drop (i*7)) (n-i) 7 ts hsz lf BM
   (fun j v hj=>by rw[Addr.add_lit];exact hcs (i*7+j) v JM)
   (fun j hj=>hsp _ p8) (fun j hj=>hfz _) (fun v hv=>h1c v (List.mem_of_mem_drop hv))
 obtain⟨W1,uD⟩:∃W1,W1=w.drew.setCells b ((i+m)*7) (cs.drop (i*7)):=⟨_,rfl⟩
 have W5:∀k,k<c*7->(W1.cell? ⟨b,k,none⟩).isSome=true:=fun k hk=>by
  rw[uD];exact cX (w:=w.drew) (fun j hj=>hsp ((i+m)*7+j) p8) (hsp k hk)
 have W6:∀(W:World),(∀x,W.cell? x=W1.cell? x)->(∀x,W.frozen? x=W1.frozen? x)->∀ty dc,(Builtin.copy_ #[28,28] ty #[.slice (some ⟨b,i*7,none⟩) (n+m-i) dc,.slice (some ⟨vb,vo,none⟩) m vc]).run Tryz.prog W = .ok (goInt m) (W.setCells b (i*7) vs):=fun W Ji Rv ty dc =>
  mm W _ _ ty 36 b (i*7) (n+m-i) dc ⟨vb,vo,none⟩ m vc vs m 7 ts hsz lf hvl
   (fun j v hj=>by
    rw[Addr.add_lit,Ji,uD,World.cell?_setCells_out b _ _ _ _ (fun h _=>absurd h IT)]
    exact hvs j v hj)
   (fun j hj=>by rw[Ji];exact W5 _ J6) (fun j hj=>by rw[Rv,uD,World.frozen?_setCells];exact hfz _) BL
 rw[<- uD]at Ru
 go_enter Tryz.func109,Tryz.ntmps109
 go_wp2_with (simp only[hov])
 go_region_law_o (refine sO rfl _ _ 28 28 rfl _ _ lq lq (Ru _ _ _) ?_)
 go_wp2_with (at_builtin;refine kU _ rfl _ _ 28 28 rfl _ _ rfl rfl (W6 _ (fun _=>rfl) (fun _=>rfl) _ _) ?_)
 go_ret
 first|exact⟨rfl,rfl⟩|exact⟨rfl,by rw[uD]⟩
set_option maxHeartbeats 4000000 in
set_option maxRecDepth 100000 in
theorem Lb (b n c vb vo m vc:Nat) (vs:List Value) (w:World) (hm:0<m) (hroom:n+m<=c)
  (hvl:vs.length=m*7) (hsp:∀j,j<c*7->(w.cell? ⟨b,j,none⟩).isSome=true) (hfz:∀j,w.frozen? ⟨b,j,none⟩=false)
  (hvs:∀(j:Nat) v,vs[j]?=some v->w.cell? ⟨vb,vo+j,none⟩=some v) (BL:∀v∈vs,v.oneCell'=true) :
  Calls Tryz.prog 109 #[.slice (some ⟨b,0,none⟩) n c,.int .i64 n,.slice (some ⟨vb,vo,none⟩) m vc] w fun e w' =>
   e = .returned (.slice (some ⟨b,0,none⟩) (n+m) c)/\w'=w.setCells b (n*7) vs:=by
 have ts:=Tryz.underlying28;obtain⟨i0,qu,Rt,hzs,PF⟩:=info_parts zI;have mixed:=Tryz.mixed;have Jh:¬((m:Int)=0):=by omega
 have hap:∀ty,(Builtin.append_ #[28,28] ty #[.slice (some ⟨b,0,none⟩) n c,.slice (some ⟨vb,vo,none⟩) m vc]).run Tryz.prog w = .ok (.slice (some ⟨b,0,none⟩) (n+m) c) (w.setCells b (n*7) vs):=fun ty=>by
  have:=run_append_room_cells w 28 ty 36 i0 ts qu b 0 n c ⟨vb,vo,none⟩ m vc vs (by rw[hzs];exact hvl) (fun j u hj=>by rw[Addr.add_lit];exact hvs j u hj) BL hroom
   (fun j hj=>by rw[hzs];exact hsp _ J6) (fun j hj=>hfz _)
  rw[hzs,Nat.zero_add]at this;exact this
 go_enter Tryz.func109,Tryz.ntmps109
 go_wp2_with (at_builtin;refine Lib.wpList_append_run _ rfl _ _ _ _ rfl _ _ rfl rfl _ _ (hap _) ?_)
 go_ret
 exact⟨rfl,rfl⟩
set_option maxHeartbeats 4000000 in
set_option maxRecDepth 100000 in
theorem Lc (b n c vb vo m vc:Nat) (cs vs:List Value) (w:World) (hm:0<m) (hnc:n<=c) (hroom:c<n+m) (qy:(n+m)*112<=140737488355328)
  (jT:cs.length=n*7) (hvl:vs.length=m*7)
  (hcs:∀(j:Nat) v,cs[j]?=some v->w.cell? ⟨b,j,none⟩=some v)
  (hvs:∀(j:Nat) v,vs[j]?=some v->w.cell? ⟨vb,vo+j,none⟩=some v) (BL:∀v∈vs,v.oneCell'=true) :
  Calls Tryz.prog 109 #[.slice (some ⟨b,0,none⟩) n c,.int .i64 n,.slice (some ⟨vb,vo,none⟩) m vc] w fun e w' =>
   e = .returned (.slice (some ⟨w.heap.size,0,none⟩) (n+m) (grownCap w (n+m) c 36)) /\
   w'=w.drew.alloc (.cells ((cs++vs).toArray++Builtin.zeroCells (Value.agg #[.int .i64 0,.int .i64 0,.int .i64 0,.string ⟨#[]⟩,.slice none 0 0,.slice none 0 0,.slice none 0 0]).cells (grownCap w (n+m) c 36-(n+m))) 36):=by
 have ts:=Tryz.underlying28;obtain⟨i0,qu,Rt,hzs,PF⟩:=info_parts zI;have mixed:=Tryz.mixed;have Jh:¬((m:Int)=0):=by omega
 have hsrc:Src Tryz.prog i0.size 28 (.slice (some ⟨vb,vo,none⟩) m vc) m vs w:=by
  rw[hzs];exact X6
 have hold:(Builtin.firstCells i0.size n (.slice (some ⟨b,0,none⟩) n c)).run Tryz.prog w.drew = .ok cs.toArray w.drew:=by
  rw[hzs];exact run_firstCells_some w.drew 7 n ⟨b,0,none⟩ n c cs jT (fun j v hj=>by rw[Addr.add_lit,Nat.zero_add];exact hcs j v hj)
 have hrun:∀ty,(Builtin.append_ #[28,28] ty #[.slice (some ⟨b,0,none⟩) n c,.slice (some ⟨vb,vo,none⟩) m vc]).run Tryz.prog w=_:=fun ty =>
  run_append_grow_src w 28 28 ty 36 i0 _ ts qu Rt (some ⟨b,0,none⟩) n c cs hold _ m vs hsrc hroom bn (by rw[PF];exact growslice_fits hroom qy)
 go_enter Tryz.func109,Tryz.ntmps109
 go_wp2_with (at_builtin;refine Lib.wpList_append_run _ rfl _ _ _ _ rfl _ _ rfl rfl _ _ (hrun _) ?_)
 all_goals (go_ret;exact⟨rfl,rfl⟩)
set_option maxHeartbeats 4000000 in
set_option maxRecDepth 100000 in
theorem T4 (b n c i vb vo m vc:Nat) (cs vs:List Value) (w:World) (hi:i<n) (hm:0<m) (hnc:n<=c) (hroom:c<n+m) (qy:(n+m)*112<=140737488355328)
  (jT:cs.length=n*7) (hvl:vs.length=m*7)
  (hcs:∀(j:Nat) v,cs[j]?=some v->w.cell? ⟨b,j,none⟩=some v)
  (hvs:∀(j:Nat) v,vs[j]?=some v->w.cell? ⟨vb,vo+j,none⟩=some v) (h1c:∀v∈cs,v.oneCell'=true) (BL:∀v∈vs,v.oneCell'=true) :
  Calls Tryz.prog 109 #[.slice (some ⟨b,0,none⟩) n c,.int .i64 i,.slice (some ⟨vb,vo,none⟩) m vc] w fun e w' =>
   ∃G nv,n+m<=G/\G*7<=nv.size/\(∀j,j<i*7->nv[j]?=cs[j]?)/\e = .returned (.slice (some ⟨w.heap.size,0,none⟩) (n+m) G) /\
   w'=(((w.alloc (.cells nv 36)).drew.setCells w.heap.size (i*7) vs).drew).setCells w.heap.size ((i+m)*7) (cs.drop (i*7)):=by
 have ts:=Tryz.underlying28;have tn:=Tryz.underlying3;have mixed:=Tryz.mixed;obtain⟨i0,qu,Rt,hzs,PF⟩:=info_parts zI;have Jh:¬((m:Int)=0):=by omega
 have Uo:¬((i:Int)=(n:Int)):=by omega
 have Wm:(c:Int)<(n:Int)+(m:Int):=by omega
 have hsz:(Tryz.prog.info? 36).map (·.size)=some 7:=by kernel_rfl
 have YY:b<w.heap.size:=block_lt_of_cell (hcs 0 _ (List.getElem?_eq_getElem (by rw[jT];omega)));have Yt:vb<w.heap.size:=block_lt_of_cell (hvs 0 _ (List.getElem?_eq_getElem WL));have hkk:(n:Int)+(m:Int)-(i:Int)=((n+m-i:Nat):Int):=by omega
 have hik:i+(n+m-i)=n+m:=by omega
 have CK:(cs.take (i*7)).length=i*7:=by rw[List.length_take,jT];omega
 have hold:(Builtin.firstCells i0.size i (.slice (some ⟨b,0,none⟩) i c)).run Tryz.prog w.drew = .ok (cs.take (i*7)).toArray w.drew:=by
  rw[hzs]
  exact run_firstCells_some w.drew 7 i ⟨b,0,none⟩ i c (cs.take (i*7)) CK (fun j v hj=>by
   rw[Addr.add_lit,Nat.zero_add];rw[List.getElem?_take]at hj;split at hj
   ·exact hcs j v hj
   ·cases hj)
 obtain⟨ZS,W7⟩:∃ZS,ZS=(Value.agg #[.int .i64 0,.int .i64 0,.int .i64 0,.string ⟨#[]⟩,.slice none 0 0,.slice none 0 0,.slice none 0 0]).cells:=⟨_,rfl⟩
 have YZ:ZS.size=7:=by rw[W7];rfl
 have Rx:∀k,(Builtin.zeroCells ZS k).size=k*7:=fun k=>by simp[Builtin.zeroCells,YZ]
 have UM:∀ty,(Builtin.append_ #[28,3] ty #[.slice (some ⟨b,0,none⟩) i c,.int .i64 ((n:Int)+(m:Int)-(i:Int))]).run Tryz.prog w =
   .ok (.slice (some ⟨w.heap.size,0,none⟩) (n+m) (grownCap w (n+m) c 36)) (w.drew.alloc (.cells ((cs.take (i*7)).toArray++Builtin.zeroCells ZS (n+m-i)++Builtin.zeroCells ZS (grownCap w (n+m) c 36-(n+m))) 36)):=fun ty=>by
  have h:=Lib.run_append_grow_zeros w 28 3 ty 36 i0 _ .i64 .i64 ts tn qu Rt (some ⟨b,0,none⟩) i c (cs.take (i*7)) hold (n+m-i) bn bn bn bn (by rw[PF];omega) (by rw[PF,hik];exact growslice_fits hroom qy);rw[hik,<- W7]at h;rw[hkk];exact h
 obtain⟨G,hG⟩:∃G,G=grownCap w (n+m) c 36:=⟨_,rfl⟩
 have hGn:n+m<=G:=by rw[hG];exact grownCap_ge w _ _ _
 obtain⟨nv,GY⟩:∃nv:Array Value,nv=(cs.take (i*7)).toArray++Builtin.zeroCells ZS (n+m-i)++Builtin.zeroCells ZS (G-(n+m)):=⟨_,rfl⟩
 rw[<- hG]at UM;rw[<- GY]at UM;have hRs:nv.size=G*7:=by
  rw[GY,Array.size_append,Array.size_append,Rx,Rx,List.size_toArray,CK];omega
 have UN:∀j,j<i*7->nv[j]?=cs[j]?:=fun j hj=>by
  rw[GY,Array.getElem?_append_left PM,Array.getElem?_append_left (by rw[List.size_toArray,CK];exact hj)];rw[List.getElem?_toArray,List.getElem?_take,if_pos hj]
 obtain⟨W1,uD⟩:∃W1,W1=w.drew.alloc (.cells nv 36):=⟨_,rfl⟩
 rw[<- uD]at UM;have hN:∀j,j<G*7->(W1.cell? ⟨w.heap.size,j,none⟩).isSome=true:=fun j hj=>by
  rw[uD,World.cell?_alloc_at (w:=w.drew) nv _ w.heap.size j rfl,Array.getElem?_eq_getElem bn];rfl
 have W8:∀j,W1.frozen? ⟨w.heap.size,j,none⟩=false:=fun j=>by rw[uD];exact World.frozen?_alloc_at (w:=w.drew) nv _ w.heap.size j rfl
 have hOb:∀j v,w.cell? ⟨b,j,none⟩=some v->W1.cell? ⟨b,j,none⟩=some v:=fun j v h=>by rw[uD,World.cell?_alloc_past (w:=w.drew) _ b j YY];exact h
 have hOv:∀j v,w.cell? ⟨vb,j,none⟩=some v->W1.cell? ⟨vb,j,none⟩=some v:=fun j v h=>by rw[uD,World.cell?_alloc_past (w:=w.drew) _ vb j Yt];exact h
 have W9:∀(W:World),(∀x,W.cell? x=W1.cell? x)->(∀x,W.frozen? x=W1.frozen? x)->∀ty dc,(Builtin.copy_ #[28,28] ty #[.slice (some ⟨w.heap.size,i*7,none⟩) (n+m-i) dc,.slice (some ⟨vb,vo,none⟩) m vc]).run Tryz.prog W = .ok (goInt m) (W.setCells w.heap.size (i*7) vs):=fun W Ji Rv ty dc =>
  mm W _ _ ty 36 w.heap.size (i*7) (n+m-i) dc ⟨vb,vo,none⟩ m vc vs m 7 ts hsz lf hvl
   (fun j v hj=>by rw[Addr.add_lit,Ji];exact hOv _ v (hvs j v hj))
   (fun j hj=>by rw[Ji];exact hN _ J6) (fun j hj=>by rw[Rv];exact W8 _) BL
 have abD:G<=9223372036854775807:=by
  have:=grownCap_le_maxLen w (n+m) c 36 (by unfold maxLen;omega);rw[<- hG]at this;unfold maxLen at this;omega
 have hGi:¬(G=i):=by omega
 have abE:¬(G=i+m):=by omega
 have hci:¬(c=i):=by omega
 have hbN:b≠w.heap.size:=by omega
 have BM:(cs.drop (i*7)).length=(n-i)*7:=by rw[List.length_drop,jT];omega
 have Ry:∀(W:World),(∀x,W.cell? x=(W1.setCells w.heap.size (i*7) vs).cell? x)->(∀x,W.frozen? x=(W1.setCells w.heap.size (i*7) vs).frozen? x)->∀ty dc sc,(Builtin.copy_ #[28,28] ty #[.slice (some ⟨w.heap.size,(i+m)*7,none⟩) (n+m-(i+m)) dc,.slice (some ⟨b,i*7,none⟩) (n-i) sc]).run Tryz.prog W = .ok (goInt ((n-i:Nat):Int)) (W.setCells w.heap.size ((i+m)*7) (cs.drop (i*7))):=fun W Ji Rv ty dc sc =>
  mm W _ _ ty 36 w.heap.size ((i+m)*7) (n+m-(i+m)) dc ⟨b,i*7,none⟩ (n-i) sc (cs.drop (i*7)) (n-i) 7 ts hsz lf BM
   (fun j v hj=>by
    rw[Addr.add_lit,Ji,World.cell?_setCells_out _ _ _ _ _ (fun h _=>absurd h hbN)]
    exact hOb _ v (hcs (i*7+j) v JM))
   (fun j hj=>by rw[Ji];exact cX (fun t ht=>hN _ (by rw[hvl]at ht;omega)) (hN _ p8))
   (fun j hj=>by rw[Rv,World.frozen?_setCells];exact W8 _) (fun v hv=>h1c v (List.mem_of_mem_drop hv))
 subst uD;have hE1:∀x,((w.alloc (.cells nv 36)).drew).cell? x=(w.drew.alloc (.cells nv 36)).cell? x:=fun x=>rfl;have hE2:∀x,((w.alloc (.cells nv 36)).drew).frozen? x=(w.drew.alloc (.cells nv 36)).frozen? x:=fun x=>rfl;have hF1:∀x,(((w.alloc (.cells nv 36)).drew.setCells w.heap.size (i*7) vs).drew).cell? x=((w.drew.alloc (.cells nv 36)).setCells w.heap.size (i*7) vs).cell? x:=fun x=>rfl;have hF2:∀x,(((w.alloc (.cells nv 36)).drew.setCells w.heap.size (i*7) vs).drew).frozen? x=((w.drew.alloc (.cells nv 36)).setCells w.heap.size (i*7) vs).frozen? x:=fun x=>rfl;have hw1:IntKind.i64.wrap ((i:Int)+(m:Int))=(i:Int)+(m:Int):=by rw[IntKind.wrap_i64];omega
 have QZ:IntKind.i64.wrap ((n:Int)+(m:Int))=(n:Int)+(m:Int):=by rw[IntKind.wrap_i64];omega
 have hw3:IntKind.i64.wrap ((n:Int)+(m:Int)-(i:Int))=(n:Int)+(m:Int)-(i:Int):=by rw[IntKind.wrap_i64];omega
 have EH:(0:Int)<=(i:Int)+(m:Int):=by omega
 have hin:i<=n:=by omega
 have htn:((i:Int)+(m:Int)).toNat=i+m:=by omega
 have hb3:(i:Int)<=(n:Int):=by omega
 clear hkk hik hold GY hG Rx W7 YZ CK;refine Calls.mono (R:=fun e w'=>e = .returned (.slice (some ⟨w.heap.size,0,none⟩) (n+m) G)/\w'=(((w.alloc (.cells nv 36)).drew.setCells w.heap.size (i*7) vs).drew).setCells w.heap.size ((i+m)*7) (cs.drop (i*7))) ?_ ?_;rotate_left
 ·rintro e w' ⟨h1,h2⟩;exact⟨G,nv,hGn,bn,UN,h1,h2⟩
 clear UN
 go_enter Tryz.func109,Tryz.ntmps109
 go_wp2_with (first
  | (at_builtin;refine Lib.wpList_append_run _ rfl _ _ _ _ rfl _ _ rfl rfl _ _ (UM _) ?_)
  | (at_builtin;refine kU _ rfl _ _ 28 28 rfl _ _ rfl rfl (W9 _ hE1 hE2 _ _) ?_)
  | (at_builtin;refine kU _ rfl _ _ 28 28 rfl _ _ rfl rfl (Ry _ (fun _=>rfl) (fun _=>rfl) _ _ _) ?_))
 go_region_law_o (refine sO rfl _ _ 28 28 rfl (.slice (some ⟨w.heap.size,(i+m)*7,none⟩) (n+m-(i+m)) (G-(i+m))) (.slice (some ⟨b,i*7,none⟩) (n-i) (c-i)) lq lq (Ry _ hF1 hF2 3 (G-(i+m)) (c-i)) ?_)
 go_wp2
 go_ret
 exact⟨rfl,rfl⟩
set_option maxHeartbeats 1000000 in
theorem Vb (b n c i vb vo vc:Nat) (cs vs:List Value) (w:World) (hi:i<=n) (hn0:0<n) (hnc:n<=c) (qy:(n+1)*112<=140737488355328) (IT:vb≠b)
  (jT:cs.length=n*7) (hvl:vs.length=1*7)
  (hcs:∀(j:Nat) v,cs[j]?=some v->w.cell? ⟨b,j,none⟩=some v) (hsp:∀j,j<c*7->(w.cell? ⟨b,j,none⟩).isSome=true) (hfz:∀j,w.frozen? ⟨b,j,none⟩=false)
  (hvs:∀(j:Nat) v,vs[j]?=some v->w.cell? ⟨vb,vo+j,none⟩=some v) (h1c:∀v∈cs,v.oneCell'=true) (BL:∀v∈vs,v.oneCell'=true) :
  Calls Tryz.prog 109 #[.slice (some ⟨b,0,none⟩) n c,.int .i64 i,.slice (some ⟨vb,vo,none⟩) 1 vc] w fun e w' =>
   ∃b' cap',e = .returned (.slice (some ⟨b',0,none⟩) (n+1) cap')/\n+1<=cap'/\N6 w b w' b' (cs.take (i*7)++(vs++cs.drop (i*7)))/\∀o,(o<cap'*7->(w'.cell? ⟨b',o,none⟩).isSome=true)/\w'.frozen? ⟨b',o,none⟩=false:=by
 have CK:(cs.take (i*7)).length=i*7:=by rw[List.length_take,jT];omega
 have YY:b<w.heap.size:=block_lt_of_cell (hcs 0 _ (List.getElem?_eq_getElem (by rw[jT];omega)));have kg:∀(j:Nat) u,(cs.take (i*7)++(vs++cs.drop (i*7)))[j]?=some u->(j<i*7/\cs[j]?=some u)\/(i*7<=j/\j<(i+1)*7/\vs[j-i*7]?=some u)\/((i+1)*7<=j/\(cs.drop (i*7))[j-(i+1)*7]?=some u):=by
  intro j u hj;rw[List.getElem?_append]at hj;split at hj
  ·rename_i h;rw[CK]at h;rw[List.getElem?_take,if_pos h]at hj;exact .inl ⟨h,hj⟩
  ·rename_i h;rw[CK]at h hj;rw[List.getElem?_append]at hj;split at hj
   ·rename_i h2;rw[hvl]at h2;exact .inr (.inl ⟨bn,bn,hj⟩)
   ·rename_i h2;rw[hvl]at h2 hj;refine .inr (.inr ⟨bn,?_⟩);rwa[show j-(i+1)*7=j-i*7-1*7 by omega]
 have BM:(cs.drop (i*7)).length=(n-i)*7:=by rw[List.length_drop,jT];omega
 by_cases he:i=n
 ·subst he;have LF:cs.drop (i*7)=[]:=List.drop_eq_nil_of_le bn;by_cases hr:i+1<=c
  ·refine Calls.mono (Lb b i c vb vo 1 vc vs w bn hr hvl hsp hfz hvs BL) ?_;rintro e w' ⟨h1,rfl⟩;obtain⟨k1,k2,k3,k4,k5⟩:=dU b vs (i*7) w;have Yu:∀j,j<vs.length->(w.cell? ⟨b,i*7+j,none⟩).isSome=true:=fun j hj=>hsp _ bn;refine⟨b,c,h1,hr,⟨k2,k3,k4,bn,.inl rfl,fun j u hj=>?_,fun b2 _ h=>k5 b2 h⟩,fun o=>⟨fun ho=>cX Yu (hsp o ho),by rw[World.frozen?_setCells];exact hfz o⟩⟩;rw[dN Yu];rcases kg j u hj with ⟨h,h'⟩|⟨h,h',h2⟩|⟨h,h2⟩
   ·rw[if_neg bn];exact hcs j u h'
   ·rw[if_pos bn];exact h2
   ·rw[LF]at h2;simp at h2
  ·refine Calls.mono (Lc b i c vb vo 1 vc cs vs w bn hnc bn qy jT hvl hcs hvs BL) ?_;rintro e w' ⟨h1,rfl⟩;have hge:=grownCap_ge w (i+1) c 36;refine⟨_,_,h1,grownCap_ge w _ _ _,⟨rfl,rfl,rfl,by simp[World.alloc],.inr (aak _),fun j u hj=>?_,fun b2 h _=>?_⟩,fun o=>⟨fun ho=>?_,World.frozen?_alloc_at (w:=w.drew) _ _ w.heap.size o rfl⟩⟩;rotate_left 2
   ·rw[World.cell?_alloc_at (w:=w.drew) _ _ w.heap.size o rfl,Array.getElem?_eq_getElem (by
     simp only[Array.size_append,List.size_toArray,aas,jT,hvl,size_zeroCells,Yd]
     omega)];rfl
   ·rw[World.cell?_alloc_at (w:=w.drew) _ _ w.heap.size j rfl];have hjl:j<(cs++vs).length:=by
     rw[aas,jT,hvl];rcases kg j u hj with ⟨h,h'⟩|⟨h,h',h2⟩|⟨h,h2⟩
     ·omega
     ·omega
     ·rw[LF]at h2;simp at h2
    rw[Array.getElem?_append_left (by rw[List.size_toArray];exact hjl),List.getElem?_toArray];rw[LF,List.append_nil,List.take_of_length_le bn]at hj;exact hj
   ·show(w.drew.alloc _).heap[b2]?=_;simp only[World.alloc];rw[Array.getElem?_push_lt (by exact h)];exact(Array.getElem?_eq_getElem (xs:=w.heap) h).symm
 ·have hi':i<n:=by omega
  by_cases hr:n+1<=c
  ·refine Calls.mono (QI b n c i vb vo 1 vc cs vs w hi' bn hr bn IT jT hvl hcs hsp hfz hvs h1c BL) ?_;rintro e w' ⟨h1,rfl⟩;obtain⟨k1,k2,k3,k4,k5⟩:=dU b (cs.drop (i*7)) ((i+1)*7) w.drew;obtain⟨l1,l2,l3,l4,l5⟩:=dU b vs (i*7) (w.drew.setCells b ((i+1)*7) (cs.drop (i*7)));have rS:∀j,j<(cs.drop (i*7)).length->(w.drew.cell? ⟨b,(i+1)*7+j,none⟩).isSome=true:=fun j hj=>hsp _ p8;have oM:∀j,j<vs.length->((w.drew.setCells b ((i+1)*7) (cs.drop (i*7))).cell? ⟨b,i*7+j,none⟩).isSome=true:=fun j hj=>cX rS (hsp _ bn);refine⟨b,c,h1,hr,⟨W0,W3,W4,Wl,.inl rfl,fun j u hj=>?_,fun b2 _ h=>by rw[l5 b2 h,k5 b2 h];rfl⟩,fun o=>⟨fun ho=>cX oM (cX rS (hsp o ho)),by rw[World.frozen?_setCells,World.frozen?_setCells];exact hfz o⟩⟩;rw[dN oM,dN rS];rcases kg j u hj with ⟨h,h'⟩|⟨h,h',h2⟩|⟨h,h2⟩
   ·rw[if_neg bn,if_neg bn];exact hcs j u h'
   ·rw[if_pos bn];exact h2
   ·have Y0:j-(i+1)*7<(cs.drop (i*7)).length:=by
     rcases Nat.lt_or_ge (j-(i+1)*7) (cs.drop (i*7)).length with hh|hh
     ·exact hh
     ·rw[List.getElem?_eq_none hh]at h2;cases h2
    rw[if_neg bn,if_pos bn];exact h2
  ·refine Calls.mono (T4 b n c i vb vo 1 vc cs vs w hi' bn hnc bn qy jT hvl hcs hvs h1c BL) ?_;rintro e w' ⟨G,nv,hG,hR,UN,h1,rfl⟩;obtain⟨w1,hw1⟩:∃w1,w1=(w.alloc (.cells nv 36)).drew:=⟨_,rfl⟩
   have hN:∀j,j<G*7->(w1.cell? ⟨w.heap.size,j,none⟩).isSome=true:=fun j hj=>by
    rw[hw1];show((w.alloc (.cells nv 36)).cell? ⟨w.heap.size,j,none⟩).isSome=true;rw[World.cell?_alloc_at (w:=w) nv _ w.heap.size j rfl,Array.getElem?_eq_getElem bn];rfl
   have hC:∀j u,j<i*7->cs[j]?=some u->w1.cell? ⟨w.heap.size,j,none⟩=some u:=fun j u hj hu=>by
    rw[hw1];show(w.alloc (.cells nv 36)).cell? ⟨w.heap.size,j,none⟩=some u;rw[World.cell?_alloc_at (w:=w) nv _ w.heap.size j rfl,UN j hj];exact hu
   have hH:∀b2,b2<w.heap.size->w1.heap[b2]?=w.heap[b2]?:=fun b2 h=>by
    rw[hw1];show(w.alloc _).heap[b2]?=_;simp only[World.alloc];rw[Array.getElem?_push_lt h];exact(Array.getElem?_eq_getElem (xs:=w.heap) h).symm
   have hS:w1.heap.size=w.heap.size+1:=by rw[hw1];show(w.heap.push _).size=_;rw[Array.size_push]
   have hO:w1.os=w.os/\w1.tape=w.tape/\w1.output=w.output:=by rw[hw1];exact⟨rfl,rfl,rfl⟩
   have W8:∀j,w1.frozen? ⟨w.heap.size,j,none⟩=false:=fun j=>by
    rw[hw1];exact World.frozen?_alloc_at (w:=w) nv _ w.heap.size j rfl
   rw[<- hw1];obtain⟨k1,k2,k3,k4,k5⟩:=dU w.heap.size vs (i*7) w1;obtain⟨l1,l2,l3,l4,l5⟩:=dU w.heap.size (cs.drop (i*7)) ((i+1)*7) (w1.setCells w.heap.size (i*7) vs).drew;have rS:∀j,j<vs.length->(w1.cell? ⟨w.heap.size,i*7+j,none⟩).isSome=true:=fun j hj=>hN _ bn;have oM:∀j,j<(cs.drop (i*7)).length->((w1.setCells w.heap.size (i*7) vs).drew.cell? ⟨w.heap.size,(i+1)*7+j,none⟩).isSome=true:=fun j hj=>by
    show((w1.setCells w.heap.size (i*7) vs).cell? _).isSome=true;exact cX rS (hN _ p8)
   refine⟨_,_,h1,hG,⟨by rw[l2];exact k2.trans hO.1,by rw[l3];exact k3.trans hO.2.1,by rw[l4];exact k4.trans hO.2.2,by rw[l1];show w.heap.size<=(w1.setCells w.heap.size (i*7) vs).heap.size;rw[k1,hS];omega,.inr (aak _),fun j u hj=>?_,fun b2 h _=>?_⟩,fun o=>⟨fun ho=>cX oM (by
     show((w1.setCells w.heap.size (i*7) vs).cell? _).isSome=true
     exact cX rS (hN _ ho)),by
     rw[World.frozen?_setCells];show(w1.setCells w.heap.size (i*7) vs).frozen? _=false
     rw[World.frozen?_setCells];exact W8 o⟩⟩
   ·rw[dN oM];rcases kg j u hj with ⟨h,h'⟩|⟨h,h',h2⟩|⟨h,h2⟩
    ·rw[if_neg bn];show(w1.setCells w.heap.size (i*7) vs).cell? _=_;rw[dN rS,if_neg bn];exact hC j u h h'
    ·rw[if_neg bn];show(w1.setCells w.heap.size (i*7) vs).cell? _=_;rw[dN rS,if_pos bn];exact h2
    ·have Y0:j-(i+1)*7<(cs.drop (i*7)).length:=by
      rcases Nat.lt_or_ge (j-(i+1)*7) (cs.drop (i*7)).length with hh|hh
      ·exact hh
      ·rw[List.getElem?_eq_none hh]at h2;cases h2
     rw[if_pos bn];exact h2
   ·rw[l5 b2 bn];show(w1.setCells w.heap.size (i*7) vs).heap[b2]?=_;rw[k5 b2 bn,hH b2 h]
end Go.Proofs
