/- What slices.Delete of one row and slices.Insert of one row do to rows of api.Value, said of the cells. -/
import Derived.Test.YtlohbilpimjmmaaGreatDoorCtx
import Derived.Test.YtlohbilpimjmmaaGreatDoorLibD
import Derived.WalkKit
import Derived.KernelRfl
import Derived.Deep.LoopGhost
import Derived.Deep.RegionLaw
import Derived.Lib.Walk
import Derived.Lib.SliceRun
import Derived.Lib.AppendZeros
import Derived.Laws.IdiomCopy
import Derived.Laws.Externs
import Derived.Shelf.RegionOpenPlain
set_option linter.unusedVariables false
set_option linter.unusedSimpArgs false
namespace Go.Proofs
open Go.RowKit Go.Lib Go.cu
theorem zz:(Tryz.prog.info? 36).map (fun i=>(i.zero,i.size,i.bytes))=some (some (.agg #[.int .i64 0,.int .i64 0,.int .i64 0,.string ⟨#[]⟩,.slice none 0 0,.slice none 0 0,.slice none 0 0]),7,112):=by kernel_rfl
theorem XX:(Value.agg #[.int .i64 0,.int .i64 0,.int .i64 0,.string ⟨#[]⟩,.slice none 0 0,.slice none 0 0,.slice none 0 0]).cells.size=7:=rfl
theorem TF:(Builtin.zeroCells (Value.agg #[.int .i64 0,.int .i64 0,.int .i64 0,.string ⟨#[]⟩,.slice none 0 0,.slice none 0 0,.slice none 0 0]).cells 1).toList=[.int .i64 0,.int .i64 0,.int .i64 0,.string ⟨#[]⟩,.slice none 0 0,.slice none 0 0,.slice none 0 0]:=by
 simp[Builtin.zeroCells,Value.cells,List.range,List.range.loop]
set_option maxHeartbeats 4000000 in
set_option maxRecDepth 1000000 in
theorem UN (n cap i b:Nat) (w:World) (hi:i<n) (hcap:n<=cap) (news zs:List Value) (hlen:news.length=(n-(i+1))*7) (h1:∀u∈news,u.oneCell'=true)
  (hn:∀(j:Nat) u,news[j]?=some u->w.cell? ⟨b,(i+1)*7+j,none⟩=some u) (hall:∀o,o<cap*7->(w.cell? ⟨b,o,none⟩).isSome=true) (hfr:∀o,w.frozen? ⟨b,o,none⟩=false)
  (hz:zs=[.int .i64 0,.int .i64 0,.int .i64 0,.string ⟨#[]⟩,.slice none 0 0,.slice none 0 0,.slice none 0 0]) :
  Calls Tryz.prog 108 #[.slice (some ⟨b,0,none⟩) n cap,.int .i64 i,.int .i64 ((i+1:Nat):Int)] w fun e w'=>e = .returned (.slice (some ⟨b,0,none⟩) (n-1) cap)/\w'=(w.drew.setCells b (i*7) news).setCells b ((n-1)*7) zs:=by
 have mixed:=Tryz.mixed;have hlt:i+1<=n:=hi;have hne:¬((i:Int)=((i+1:Nat):Int)):=by omega
 obtain⟨i0,qq,Rh,IY,Pp⟩:=info_parts zz;have ts:=Tryz.underlying28;have hic:i<=cap:=by omega
 have hjc:i+1<=cap:=by omega
 have EB:(0:Int)<=(i:Int)+1:=by omega
 have QN:(i:Int)+1<=(n:Int):=by omega
 obtain⟨A,hA,hsrc⟩:∃A:Addr,(if cap=i+1 then(some ⟨b,0,none⟩:Option Addr)else some ⟨b,(i+1)*7,none⟩)=some A/\Hid (∀(t:Nat) u,news[t]?=some u->w.drew.cell? (A.add t)=some u):=by
  by_cases h:cap=i+1
  ·refine⟨⟨b,0,none⟩,nt,fun t u hu=>?_⟩;have h0:news.length=0:=by rw[hlen];omega
   rw[List.length_eq_zero_iff.1 h0]at hu;simp at hu
  ·refine⟨⟨b,(i+1)*7,none⟩,nt,fun t u hu=>?_⟩;rw[Addr.add_lit];exact hn t u hu
 have s1:Hid (news.length=(n-(i+1))*7):=hlen;have s2:Hid (∀u∈news,u.oneCell'=true):=h1;have s3:Hid (∀t,t<news.length->(w.drew.cell? ⟨b,0+i*7+t,none⟩).isSome=true/\w.drew.frozen? ⟨b,0+i*7+t,none⟩=false):=by
  intro t ht;rw[hlen]at ht;exact⟨hall _ bn,hfr _⟩
 obtain⟨W1,uq⟩:∃W1,W1=w.drew.setCells b (0+i*7) news:=⟨_,rfl⟩
 have jV:∀ty,(Builtin.clear_ #[28] ty #[.slice (some ⟨b,(i+(n-(i+1)))*7,none⟩) (n-(i+(n-(i+1)))) (cap-(i+(n-(i+1))))]).run Tryz.prog W1 = .ok (.tuple #[]) (W1.setCells b ((n-1)*7) zs):=by
  intro ty
  have hst:=run_storeCells_cells (P:=Tryz.prog) b ((n-1)*7) zs 0 W1 (fun j hj=>by
    rw[uq,Nat.add_zero]
    exact cY (fun k hk=>by rw[hlen]at hk;exact hall _ bn) (hall _ (by rw[hz]at hj;simp at hj;omega)))
   (fun j hj=>by rw[uq,World.frozen?_setCells];exact hfr _) (by rw[hz];simp[Value.oneCell'])
  rw[show n-(i+(n-(i+1)))=1 by omega,show i+(n-(i+1))=n-1 by omega];rw[hz]at hst ⊢;simp only[Nat.add_zero]at hst;simp[Builtin.clear_,run_underlying ts,Tryz.zeroValue36,TF,hst]
 have hW:Hid (W1=w.drew.setCells b (0+i*7) news):=uq;clear uq hn hall hfr
 go_enter Tryz.func108,Tryz.ntmps108
 go_wp2_with fail
 go_region_law_o (refine step_append_room rfl (.tmp 22) (.tmp 25) 28 rfl 36 i0 7 ts qq IY b 0 i cap jM A (n-(i+1)) (cap-(i+1)) news jM s1.out hsrc.out s2.out bn s3.out ?_;rw[<- hW.out])
 go_wp2
 go_ret
 have e1:i+(n-(i+1))=n-1:=by omega
 refine⟨by rw[<- e1];rfl,?_⟩;rw[hW.out,hz,Nat.zero_add]
set_option maxHeartbeats 4000000 in
set_option maxRecDepth 100000 in
theorem Qz (b n c i vb vo m vc:Nat) (cs vs:List Value) (w:World) (hi:i<n) (hm:0<m) (hroom:n+m<=c) (hnb:n+m<=9000000000000000000) (Iz:vb≠b)
  (jV:cs.length=n*7) (hvl:vs.length=m*7)
  (hcs:∀(j:Nat) v,cs[j]?=some v->w.cell? ⟨b,j,none⟩=some v) (hsp:∀j,j<c*7->(w.cell? ⟨b,j,none⟩).isSome=true) (hfz:∀j,w.frozen? ⟨b,j,none⟩=false)
  (hvs:∀(j:Nat) v,vs[j]?=some v->w.cell? ⟨vb,vo+j,none⟩=some v) (h1c:∀v∈cs,v.oneCell'=true) (BF:∀v∈vs,v.oneCell'=true) :
  Calls Tryz.prog 109 #[.slice (some ⟨b,0,none⟩) n c,.int .i64 i,.slice (some ⟨vb,vo,none⟩) m vc] w fun e w' =>
   e = .returned (.slice (some ⟨b,0,none⟩) (n+m) c)/\w'=(w.drew.setCells b ((i+m)*7) (cs.drop (i*7))).setCells b (i*7) vs:=by
 have ts:=Tryz.underlying28;have IY:¬((m:Int)=0):=by omega
 have T4:¬((i:Int)=(n:Int)):=by omega
 have VZ:¬((c:Int)<(n:Int)+(m:Int)):=by omega
 have hsz:(Tryz.prog.info? 36).map (·.size)=some 7:=by kernel_rfl
 obtain⟨v0,Pr⟩:∃v0,w.cell? ⟨vb,vo,none⟩=some v0:=⟨_,hvs 0 _ (List.getElem?_eq_getElem Xe)⟩
 obtain⟨u0,YI⟩:=Option.isSome_iff_exists.1 (hsp ((i+m)*7) bn);have hov:∀lb cb,(callFunc 133 #[.slice (some ⟨vb,vo,none⟩) m vc,.slice (some ⟨b,(i+m)*7,none⟩) lb cb]).run Tryz.prog w = .ok (.value (.bool false)) w:=fun lb cb=>by
  rw[run_callFunc_extern Tryz.func133 (by kernel_rfl) (by kernel_rfl) (by kernel_rfl) (e:=Extern.SlicesOverlaps.overlaps #[28,28] #[4]) (by kernel_rfl),
   rQ w 28 4 36 ts 7 Tryz.sizeOf36 ⟨vb,vo,none⟩ ⟨b,(i+m)*7,none⟩ m vc lb cb Iz Pr YI hfz rfl]
  rfl
 have BG:(cs.drop (i*7)).length=(n-i)*7:=by rw[List.length_drop,jV];omega
 have mixed:=Tryz.mixed;have hw1:IntKind.i64.wrap ((i:Int)+(m:Int))=(i:Int)+(m:Int):=by rw[IntKind.wrap_i64];omega
 have Fm:IntKind.i64.wrap ((n:Int)+(m:Int))=(n:Int)+(m:Int):=by rw[IntKind.wrap_i64];omega
 have EB:(0:Int)<=(i:Int)+(m:Int):=by omega
 have hin:i<=n:=by omega
 have htn:((i:Int)+(m:Int)).toNat=i+m:=by omega
 have QN:¬(c=i+m):=by omega
 have hb3:(i:Int)<=(n:Int)+(m:Int):=by omega
 have hb4:¬(c=i):=by omega
 have Ri:∀ty dc sc,(Builtin.copy_ #[28,28] ty #[.slice (some ⟨b,(i+m)*7,none⟩) (n+m-(i+m)) dc,.slice (some ⟨b,i*7,none⟩) (n+m-i) sc]).run Tryz.prog w.drew = .ok (goInt ((n-i:Nat):Int)) (w.drew.setCells b ((i+m)*7) (cs.drop (i*7))):=fun ty dc sc =>
  l9 w.drew _ _ ty 36 b ((i+m)*7) (n+m-(i+m)) dc ⟨b,i*7,none⟩ (n+m-i) sc (cs.drop (i*7)) (n-i) 7 ts hsz jb BG
   (fun j v hj=>by rw[Addr.add_lit];exact hcs (i*7+j) v G2)
   (fun j hj=>hsp _ oe) (fun j hj=>hfz _) (fun v hv=>h1c v (List.mem_of_mem_drop hv))
 obtain⟨W1,uq⟩:∃W1,W1=w.drew.setCells b ((i+m)*7) (cs.drop (i*7)):=⟨_,rfl⟩
 have WL:∀k,k<c*7->(W1.cell? ⟨b,k,none⟩).isSome=true:=fun k hk=>by
  rw[uq];exact cY (w:=w.drew) (fun j hj=>hsp ((i+m)*7+j) oe) (hsp k hk)
 have WM:∀(W:World),(∀x,W.cell? x=W1.cell? x)->(∀x,W.frozen? x=W1.frozen? x)->∀ty dc,(Builtin.copy_ #[28,28] ty #[.slice (some ⟨b,i*7,none⟩) (n+m-i) dc,.slice (some ⟨vb,vo,none⟩) m vc]).run Tryz.prog W = .ok (goInt m) (W.setCells b (i*7) vs):=fun W IZ Rj ty dc =>
  l9 W _ _ ty 36 b (i*7) (n+m-i) dc ⟨vb,vo,none⟩ m vc vs m 7 ts hsz jb hvl
   (fun j v hj=>by
    rw[Addr.add_lit,IZ,uq,World.cell?_setCells_out b _ _ _ _ (fun h _=>absurd h Iz)]
    exact hvs j v hj)
   (fun j hj=>by rw[IZ];exact WL _ I3) (fun j hj=>by rw[Rj,uq,World.frozen?_setCells];exact hfz _) BF
 rw[<- uq]at Ri
 go_enter Tryz.func109,Tryz.ntmps109
 go_wp2_with (simp only[hov])
 go_region_law_o (refine sH rfl _ _ 28 28 rfl _ _ jM jM (Ri _ _ _) ?_)
 go_wp2_with (at_builtin;refine kQ _ rfl _ _ 28 28 rfl _ _ rfl rfl (WM _ (fun _=>rfl) (fun _=>rfl) _ _) ?_)
 go_ret
 first|exact⟨rfl,rfl⟩|exact⟨rfl,by rw[uq]⟩
set_option maxHeartbeats 4000000 in
set_option maxRecDepth 100000 in
theorem KT (b n c vb vo m vc:Nat) (vs:List Value) (w:World) (hm:0<m) (hroom:n+m<=c)
  (hvl:vs.length=m*7) (hsp:∀j,j<c*7->(w.cell? ⟨b,j,none⟩).isSome=true) (hfz:∀j,w.frozen? ⟨b,j,none⟩=false)
  (hvs:∀(j:Nat) v,vs[j]?=some v->w.cell? ⟨vb,vo+j,none⟩=some v) (BF:∀v∈vs,v.oneCell'=true) :
  Calls Tryz.prog 109 #[.slice (some ⟨b,0,none⟩) n c,.int .i64 n,.slice (some ⟨vb,vo,none⟩) m vc] w fun e w' =>
   e = .returned (.slice (some ⟨b,0,none⟩) (n+m) c)/\w'=w.setCells b (n*7) vs:=by
 have ts:=Tryz.underlying28;obtain⟨i0,qq,Rh,hzs,Pp⟩:=info_parts zz;have mixed:=Tryz.mixed;have IY:¬((m:Int)=0):=by omega
 have hap:∀ty,(Builtin.append_ #[28,28] ty #[.slice (some ⟨b,0,none⟩) n c,.slice (some ⟨vb,vo,none⟩) m vc]).run Tryz.prog w = .ok (.slice (some ⟨b,0,none⟩) (n+m) c) (w.setCells b (n*7) vs):=fun ty=>by
  have:=run_append_room_cells w 28 ty 36 i0 ts qq b 0 n c ⟨vb,vo,none⟩ m vc vs (by rw[hzs];exact hvl) (fun j u hj=>by rw[Addr.add_lit];exact hvs j u hj) BF hroom
   (fun j hj=>by rw[hzs];exact hsp _ I3) (fun j hj=>hfz _)
  rw[hzs,Nat.zero_add]at this;exact this
 go_enter Tryz.func109,Tryz.ntmps109
 go_wp2_with (at_builtin;refine Lib.wpList_append_run _ rfl _ _ _ _ rfl _ _ rfl rfl _ _ (hap _) ?_)
 go_ret
 exact⟨rfl,rfl⟩
set_option maxHeartbeats 4000000 in
set_option maxRecDepth 100000 in
theorem KU (b n c vb vo m vc:Nat) (cs vs:List Value) (w:World) (hm:0<m) (hnc:n<=c) (hroom:c<n+m) (qw:(n+m)*112<=140737488355328)
  (jV:cs.length=n*7) (hvl:vs.length=m*7)
  (hcs:∀(j:Nat) v,cs[j]?=some v->w.cell? ⟨b,j,none⟩=some v)
  (hvs:∀(j:Nat) v,vs[j]?=some v->w.cell? ⟨vb,vo+j,none⟩=some v) (BF:∀v∈vs,v.oneCell'=true) :
  Calls Tryz.prog 109 #[.slice (some ⟨b,0,none⟩) n c,.int .i64 n,.slice (some ⟨vb,vo,none⟩) m vc] w fun e w' =>
   e = .returned (.slice (some ⟨w.heap.size,0,none⟩) (n+m) (grownCap w (n+m) c 36)) /\
   w'=w.drew.alloc (.cells ((cs++vs).toArray++Builtin.zeroCells (Value.agg #[.int .i64 0,.int .i64 0,.int .i64 0,.string ⟨#[]⟩,.slice none 0 0,.slice none 0 0,.slice none 0 0]).cells (grownCap w (n+m) c 36-(n+m))) 36):=by
 have ts:=Tryz.underlying28;obtain⟨i0,qq,Rh,hzs,Pp⟩:=info_parts zz;have mixed:=Tryz.mixed;have IY:¬((m:Int)=0):=by omega
 have hsrc:Src Tryz.prog i0.size 28 (.slice (some ⟨vb,vo,none⟩) m vc) m vs w:=by
  rw[hzs];exact Ya
 have hold:(Builtin.firstCells i0.size n (.slice (some ⟨b,0,none⟩) n c)).run Tryz.prog w.drew = .ok cs.toArray w.drew:=by
  rw[hzs];exact run_firstCells_some w.drew 7 n ⟨b,0,none⟩ n c cs jV (fun j v hj=>by rw[Addr.add_lit,Nat.zero_add];exact hcs j v hj)
 have hrun:∀ty,(Builtin.append_ #[28,28] ty #[.slice (some ⟨b,0,none⟩) n c,.slice (some ⟨vb,vo,none⟩) m vc]).run Tryz.prog w=_:=fun ty =>
  run_append_grow_src w 28 28 ty 36 i0 _ ts qq Rh (some ⟨b,0,none⟩) n c cs hold _ m vs hsrc hroom bn (by rw[Pp];exact growslice_fits hroom qw)
 go_enter Tryz.func109,Tryz.ntmps109
 go_wp2_with (at_builtin;refine Lib.wpList_append_run _ rfl _ _ _ _ rfl _ _ rfl rfl _ _ (hrun _) ?_)
 all_goals (go_ret;exact⟨rfl,rfl⟩)
set_option maxHeartbeats 4000000 in
set_option maxRecDepth 100000 in
theorem TG (b n c i vb vo m vc:Nat) (cs vs:List Value) (w:World) (hi:i<n) (hm:0<m) (hnc:n<=c) (hroom:c<n+m) (qw:(n+m)*112<=140737488355328)
  (jV:cs.length=n*7) (hvl:vs.length=m*7)
  (hcs:∀(j:Nat) v,cs[j]?=some v->w.cell? ⟨b,j,none⟩=some v)
  (hvs:∀(j:Nat) v,vs[j]?=some v->w.cell? ⟨vb,vo+j,none⟩=some v) (h1c:∀v∈cs,v.oneCell'=true) (BF:∀v∈vs,v.oneCell'=true) :
  Calls Tryz.prog 109 #[.slice (some ⟨b,0,none⟩) n c,.int .i64 i,.slice (some ⟨vb,vo,none⟩) m vc] w fun e w' =>
   ∃G ni,n+m<=G/\G*7<=ni.size/\(∀j,j<i*7->ni[j]?=cs[j]?)/\e = .returned (.slice (some ⟨w.heap.size,0,none⟩) (n+m) G) /\
   w'=(((w.alloc (.cells ni 36)).drew.setCells w.heap.size (i*7) vs).drew).setCells w.heap.size ((i+m)*7) (cs.drop (i*7)):=by
 have ts:=Tryz.underlying28;have tn:=Tryz.underlying3;have mixed:=Tryz.mixed;obtain⟨i0,qq,Rh,hzs,Pp⟩:=info_parts zz;have IY:¬((m:Int)=0):=by omega
 have T4:¬((i:Int)=(n:Int)):=by omega
 have VZ:(c:Int)<(n:Int)+(m:Int):=by omega
 have hsz:(Tryz.prog.info? 36).map (·.size)=some 7:=by kernel_rfl
 have YJ:b<w.heap.size:=block_lt_of_cell (hcs 0 _ (List.getElem?_eq_getElem (by rw[jV];omega)));have hvw:vb<w.heap.size:=block_lt_of_cell (hvs 0 _ (List.getElem?_eq_getElem Xe));have hkk:(n:Int)+(m:Int)-(i:Int)=((n+m-i:Nat):Int):=by omega
 have hik:i+(n+m-i)=n+m:=by omega
 have CE:(cs.take (i*7)).length=i*7:=by rw[List.length_take,jV];omega
 have hold:(Builtin.firstCells i0.size i (.slice (some ⟨b,0,none⟩) i c)).run Tryz.prog w.drew = .ok (cs.take (i*7)).toArray w.drew:=by
  rw[hzs]
  exact run_firstCells_some w.drew 7 i ⟨b,0,none⟩ i c (cs.take (i*7)) CE (fun j v hj=>by
   rw[Addr.add_lit,Nat.zero_add];rw[List.getElem?_take]at hj;split at hj
   ·exact hcs j v hj
   ·cases hj)
 obtain⟨ZS,WN⟩:∃ZS,ZS=(Value.agg #[.int .i64 0,.int .i64 0,.int .i64 0,.string ⟨#[]⟩,.slice none 0 0,.slice none 0 0,.slice none 0 0]).cells:=⟨_,rfl⟩
 have YK:ZS.size=7:=by rw[WN];rfl
 have Rm:∀k,(Builtin.zeroCells ZS k).size=k*7:=fun k=>by simp[Builtin.zeroCells,YK]
 have Us:∀ty,(Builtin.append_ #[28,3] ty #[.slice (some ⟨b,0,none⟩) i c,.int .i64 ((n:Int)+(m:Int)-(i:Int))]).run Tryz.prog w =
   .ok (.slice (some ⟨w.heap.size,0,none⟩) (n+m) (grownCap w (n+m) c 36)) (w.drew.alloc (.cells ((cs.take (i*7)).toArray++Builtin.zeroCells ZS (n+m-i)++Builtin.zeroCells ZS (grownCap w (n+m) c 36-(n+m))) 36)):=fun ty=>by
  have h:=Lib.run_append_grow_zeros w 28 3 ty 36 i0 _ .i64 .i64 ts tn qq Rh (some ⟨b,0,none⟩) i c (cs.take (i*7)) hold (n+m-i) bn bn bn bn (by rw[Pp];omega) (by rw[Pp,hik];exact growslice_fits hroom qw);rw[hik,<- WN]at h;rw[hkk];exact h
 obtain⟨G,hG⟩:∃G,G=grownCap w (n+m) c 36:=⟨_,rfl⟩
 have hGn:n+m<=G:=by rw[hG];exact grownCap_ge w _ _ _
 obtain⟨ni,GL⟩:∃ni:Array Value,ni=(cs.take (i*7)).toArray++Builtin.zeroCells ZS (n+m-i)++Builtin.zeroCells ZS (G-(n+m)):=⟨_,rfl⟩
 rw[<- hG]at Us;rw[<- GL]at Us;have hRs:ni.size=G*7:=by
  rw[GL,Array.size_append,Array.size_append,Rm,Rm,List.size_toArray,CE];omega
 have Ut:∀j,j<i*7->ni[j]?=cs[j]?:=fun j hj=>by
  rw[GL,Array.getElem?_append_left QS,Array.getElem?_append_left (by rw[List.size_toArray,CE];exact hj)];rw[List.getElem?_toArray,List.getElem?_take,if_pos hj]
 obtain⟨W1,uq⟩:∃W1,W1=w.drew.alloc (.cells ni 36):=⟨_,rfl⟩
 rw[<- uq]at Us;have hN:∀j,j<G*7->(W1.cell? ⟨w.heap.size,j,none⟩).isSome=true:=fun j hj=>by
  rw[uq,World.cell?_alloc_at (w:=w.drew) ni _ w.heap.size j rfl,Array.getElem?_eq_getElem bn];rfl
 have WO:∀j,W1.frozen? ⟨w.heap.size,j,none⟩=false:=fun j=>by rw[uq];exact World.frozen?_alloc_at (w:=w.drew) ni _ w.heap.size j rfl
 have hOb:∀j v,w.cell? ⟨b,j,none⟩=some v->W1.cell? ⟨b,j,none⟩=some v:=fun j v h=>by rw[uq,World.cell?_alloc_past (w:=w.drew) _ b j YJ];exact h
 have hOv:∀j v,w.cell? ⟨vb,j,none⟩=some v->W1.cell? ⟨vb,j,none⟩=some v:=fun j v h=>by rw[uq,World.cell?_alloc_past (w:=w.drew) _ vb j hvw];exact h
 have WQ:∀(W:World),(∀x,W.cell? x=W1.cell? x)->(∀x,W.frozen? x=W1.frozen? x)->∀ty dc,(Builtin.copy_ #[28,28] ty #[.slice (some ⟨w.heap.size,i*7,none⟩) (n+m-i) dc,.slice (some ⟨vb,vo,none⟩) m vc]).run Tryz.prog W = .ok (goInt m) (W.setCells w.heap.size (i*7) vs):=fun W IZ Rj ty dc =>
  l9 W _ _ ty 36 w.heap.size (i*7) (n+m-i) dc ⟨vb,vo,none⟩ m vc vs m 7 ts hsz jb hvl
   (fun j v hj=>by rw[Addr.add_lit,IZ];exact hOv _ v (hvs j v hj))
   (fun j hj=>by rw[IZ];exact hN _ I3) (fun j hj=>by rw[Rj];exact WO _) BF
 have abr:G<=9223372036854775807:=by
  have:=grownCap_le_maxLen w (n+m) c 36 (by unfold maxLen;omega);rw[<- hG]at this;unfold maxLen at this;omega
 have hGi:¬(G=i):=by omega
 have abt:¬(G=i+m):=by omega
 have hci:¬(c=i):=by omega
 have hbN:b≠w.heap.size:=by omega
 have BG:(cs.drop (i*7)).length=(n-i)*7:=by rw[List.length_drop,jV];omega
 have Rn:∀(W:World),(∀x,W.cell? x=(W1.setCells w.heap.size (i*7) vs).cell? x)->(∀x,W.frozen? x=(W1.setCells w.heap.size (i*7) vs).frozen? x)->∀ty dc sc,(Builtin.copy_ #[28,28] ty #[.slice (some ⟨w.heap.size,(i+m)*7,none⟩) (n+m-(i+m)) dc,.slice (some ⟨b,i*7,none⟩) (n-i) sc]).run Tryz.prog W = .ok (goInt ((n-i:Nat):Int)) (W.setCells w.heap.size ((i+m)*7) (cs.drop (i*7))):=fun W IZ Rj ty dc sc =>
  l9 W _ _ ty 36 w.heap.size ((i+m)*7) (n+m-(i+m)) dc ⟨b,i*7,none⟩ (n-i) sc (cs.drop (i*7)) (n-i) 7 ts hsz jb BG
   (fun j v hj=>by
    rw[Addr.add_lit,IZ,World.cell?_setCells_out _ _ _ _ _ (fun h _=>absurd h hbN)]
    exact hOb _ v (hcs (i*7+j) v G2))
   (fun j hj=>by rw[IZ];exact cY (fun t ht=>hN _ (by rw[hvl]at ht;omega)) (hN _ oe))
   (fun j hj=>by rw[Rj,World.frozen?_setCells];exact WO _) (fun v hv=>h1c v (List.mem_of_mem_drop hv))
 subst uq;have hE1:∀x,((w.alloc (.cells ni 36)).drew).cell? x=(w.drew.alloc (.cells ni 36)).cell? x:=fun x=>rfl;have hE2:∀x,((w.alloc (.cells ni 36)).drew).frozen? x=(w.drew.alloc (.cells ni 36)).frozen? x:=fun x=>rfl;have hF1:∀x,(((w.alloc (.cells ni 36)).drew.setCells w.heap.size (i*7) vs).drew).cell? x=((w.drew.alloc (.cells ni 36)).setCells w.heap.size (i*7) vs).cell? x:=fun x=>rfl;have hF2:∀x,(((w.alloc (.cells ni 36)).drew.setCells w.heap.size (i*7) vs).drew).frozen? x=((w.drew.alloc (.cells ni 36)).setCells w.heap.size (i*7) vs).frozen? x:=fun x=>rfl;have hw1:IntKind.i64.wrap ((i:Int)+(m:Int))=(i:Int)+(m:Int):=by rw[IntKind.wrap_i64];omega
 have Fm:IntKind.i64.wrap ((n:Int)+(m:Int))=(n:Int)+(m:Int):=by rw[IntKind.wrap_i64];omega
 have hw3:IntKind.i64.wrap ((n:Int)+(m:Int)-(i:Int))=(n:Int)+(m:Int)-(i:Int):=by rw[IntKind.wrap_i64];omega
 have EB:(0:Int)<=(i:Int)+(m:Int):=by omega
 have hin:i<=n:=by omega
 have htn:((i:Int)+(m:Int)).toNat=i+m:=by omega
 have hb3:(i:Int)<=(n:Int):=by omega
 clear hkk hik hold GL hG Rm WN YK CE;refine Calls.mono (R:=fun e w'=>e = .returned (.slice (some ⟨w.heap.size,0,none⟩) (n+m) G)/\w'=(((w.alloc (.cells ni 36)).drew.setCells w.heap.size (i*7) vs).drew).setCells w.heap.size ((i+m)*7) (cs.drop (i*7))) ?_ ?_;rotate_left
 ·rintro e w' ⟨h1,h2⟩;exact⟨G,ni,hGn,bn,Ut,h1,h2⟩
 clear Ut
 go_enter Tryz.func109,Tryz.ntmps109
 go_wp2_with (first
  | (at_builtin;refine Lib.wpList_append_run _ rfl _ _ _ _ rfl _ _ rfl rfl _ _ (Us _) ?_)
  | (at_builtin;refine kQ _ rfl _ _ 28 28 rfl _ _ rfl rfl (WQ _ hE1 hE2 _ _) ?_)
  | (at_builtin;refine kQ _ rfl _ _ 28 28 rfl _ _ rfl rfl (Rn _ (fun _=>rfl) (fun _=>rfl) _ _ _) ?_))
 go_region_law_o (refine sH rfl _ _ 28 28 rfl (.slice (some ⟨w.heap.size,(i+m)*7,none⟩) (n+m-(i+m)) (G-(i+m))) (.slice (some ⟨b,i*7,none⟩) (n-i) (c-i)) jM jM (Rn _ hF1 hF2 3 (G-(i+m)) (c-i)) ?_)
 go_wp2
 go_ret
 exact⟨rfl,rfl⟩
set_option maxHeartbeats 1000000 in
theorem UO (b n c i vb vo vc:Nat) (cs vs:List Value) (w:World) (hi:i<=n) (hn0:0<n) (hnc:n<=c) (qw:(n+1)*112<=140737488355328) (Iz:vb≠b)
  (jV:cs.length=n*7) (hvl:vs.length=1*7)
  (hcs:∀(j:Nat) v,cs[j]?=some v->w.cell? ⟨b,j,none⟩=some v) (hsp:∀j,j<c*7->(w.cell? ⟨b,j,none⟩).isSome=true) (hfz:∀j,w.frozen? ⟨b,j,none⟩=false)
  (hvs:∀(j:Nat) v,vs[j]?=some v->w.cell? ⟨vb,vo+j,none⟩=some v) (h1c:∀v∈cs,v.oneCell'=true) (BF:∀v∈vs,v.oneCell'=true) :
  Calls Tryz.prog 109 #[.slice (some ⟨b,0,none⟩) n c,.int .i64 i,.slice (some ⟨vb,vo,none⟩) 1 vc] w fun e w' =>
   ∃b' cap',e = .returned (.slice (some ⟨b',0,none⟩) (n+1) cap')/\n+1<=cap'/\NP w b w' b' (cs.take (i*7)++(vs++cs.drop (i*7)))/\∀o,(o<cap'*7->(w'.cell? ⟨b',o,none⟩).isSome=true)/\w'.frozen? ⟨b',o,none⟩=false:=by
 have CE:(cs.take (i*7)).length=i*7:=by rw[List.length_take,jV];omega
 have YJ:b<w.heap.size:=block_lt_of_cell (hcs 0 _ (List.getElem?_eq_getElem (by rw[jV];omega)));have ke:∀(j:Nat) u,(cs.take (i*7)++(vs++cs.drop (i*7)))[j]?=some u->(j<i*7/\cs[j]?=some u)\/(i*7<=j/\j<(i+1)*7/\vs[j-i*7]?=some u)\/((i+1)*7<=j/\(cs.drop (i*7))[j-(i+1)*7]?=some u):=by
  intro j u hj;rw[List.getElem?_append]at hj;split at hj
  ·rename_i h;rw[CE]at h;rw[List.getElem?_take,if_pos h]at hj;exact .inl ⟨h,hj⟩
  ·rename_i h;rw[CE]at h hj;rw[List.getElem?_append]at hj;split at hj
   ·rename_i h2;rw[hvl]at h2;exact .inr (.inl ⟨bn,bn,hj⟩)
   ·rename_i h2;rw[hvl]at h2 hj;refine .inr (.inr ⟨bn,?_⟩);rwa[show j-(i+1)*7=j-i*7-1*7 by omega]
 have BG:(cs.drop (i*7)).length=(n-i)*7:=by rw[List.length_drop,jV];omega
 by_cases he:i=n
 ·subst he;have Ln:cs.drop (i*7)=[]:=List.drop_eq_nil_of_le bn;by_cases hr:i+1<=c
  ·refine Calls.mono (KT b i c vb vo 1 vc vs w bn hr hvl hsp hfz hvs BF) ?_;rintro e w' ⟨h1,rfl⟩;obtain⟨k1,k2,k3,k4,k5⟩:=dV b vs (i*7) w;have Ye:∀j,j<vs.length->(w.cell? ⟨b,i*7+j,none⟩).isSome=true:=fun j hj=>hsp _ bn;refine⟨b,c,h1,hr,⟨k2,k3,k4,bn,.inl rfl,fun j u hj=>?_,fun b2 _ h=>k5 b2 h⟩,fun o=>⟨fun ho=>cY Ye (hsp o ho),by rw[World.frozen?_setCells];exact hfz o⟩⟩;rw[dQ Ye];rcases ke j u hj with ⟨h,h'⟩|⟨h,h',h2⟩|⟨h,h2⟩
   ·rw[if_neg bn];exact hcs j u h'
   ·rw[if_pos bn];exact h2
   ·rw[Ln]at h2;simp at h2
  ·refine Calls.mono (KU b i c vb vo 1 vc cs vs w bn hnc bn qw jV hvl hcs hvs BF) ?_;rintro e w' ⟨h1,rfl⟩;have hge:=grownCap_ge w (i+1) c 36;refine⟨_,_,h1,grownCap_ge w _ _ _,⟨rfl,rfl,rfl,by simp[World.alloc],.inr (aam _),fun j u hj=>?_,fun b2 h _=>?_⟩,fun o=>⟨fun ho=>?_,World.frozen?_alloc_at (w:=w.drew) _ _ w.heap.size o rfl⟩⟩;rotate_left 2
   ·rw[World.cell?_alloc_at (w:=w.drew) _ _ w.heap.size o rfl,Array.getElem?_eq_getElem (by
     simp only[Array.size_append,List.size_toArray,aax,jV,hvl,size_zeroCells,XX]
     omega)];rfl
   ·rw[World.cell?_alloc_at (w:=w.drew) _ _ w.heap.size j rfl];have hjl:j<(cs++vs).length:=by
     rw[aax,jV,hvl];rcases ke j u hj with ⟨h,h'⟩|⟨h,h',h2⟩|⟨h,h2⟩
     ·omega
     ·omega
     ·rw[Ln]at h2;simp at h2
    rw[Array.getElem?_append_left (by rw[List.size_toArray];exact hjl),List.getElem?_toArray];rw[Ln,List.append_nil,List.take_of_length_le bn]at hj;exact hj
   ·show(w.drew.alloc _).heap[b2]?=_;simp only[World.alloc];rw[Array.getElem?_push_lt (by exact h)];exact(Array.getElem?_eq_getElem (xs:=w.heap) h).symm
 ·have hi':i<n:=by omega
  by_cases hr:n+1<=c
  ·refine Calls.mono (Qz b n c i vb vo 1 vc cs vs w hi' bn hr bn Iz jV hvl hcs hsp hfz hvs h1c BF) ?_;rintro e w' ⟨h1,rfl⟩;obtain⟨k1,k2,k3,k4,k5⟩:=dV b (cs.drop (i*7)) ((i+1)*7) w.drew;obtain⟨l1,l2,l3,l4,l5⟩:=dV b vs (i*7) (w.drew.setCells b ((i+1)*7) (cs.drop (i*7)));have rR:∀j,j<(cs.drop (i*7)).length->(w.drew.cell? ⟨b,(i+1)*7+j,none⟩).isSome=true:=fun j hj=>hsp _ oe;have oI:∀j,j<vs.length->((w.drew.setCells b ((i+1)*7) (cs.drop (i*7))).cell? ⟨b,i*7+j,none⟩).isSome=true:=fun j hj=>cY rR (hsp _ bn);refine⟨b,c,h1,hr,⟨Xi,Xj,XG,WS,.inl rfl,fun j u hj=>?_,fun b2 _ h=>by rw[l5 b2 h,k5 b2 h];rfl⟩,fun o=>⟨fun ho=>cY oI (cY rR (hsp o ho)),by rw[World.frozen?_setCells,World.frozen?_setCells];exact hfz o⟩⟩;rw[dQ oI,dQ rR];rcases ke j u hj with ⟨h,h'⟩|⟨h,h',h2⟩|⟨h,h2⟩
   ·rw[if_neg bn,if_neg bn];exact hcs j u h'
   ·rw[if_pos bn];exact h2
   ·have YL:j-(i+1)*7<(cs.drop (i*7)).length:=by
     rcases Nat.lt_or_ge (j-(i+1)*7) (cs.drop (i*7)).length with hh|hh
     ·exact hh
     ·rw[List.getElem?_eq_none hh]at h2;cases h2
    rw[if_neg bn,if_pos bn];exact h2
  ·refine Calls.mono (TG b n c i vb vo 1 vc cs vs w hi' bn hnc bn qw jV hvl hcs hvs h1c BF) ?_;rintro e w' ⟨G,ni,hG,hR,Ut,h1,rfl⟩;obtain⟨w1,hw1⟩:∃w1,w1=(w.alloc (.cells ni 36)).drew:=⟨_,rfl⟩
   have hN:∀j,j<G*7->(w1.cell? ⟨w.heap.size,j,none⟩).isSome=true:=fun j hj=>by
    rw[hw1];show((w.alloc (.cells ni 36)).cell? ⟨w.heap.size,j,none⟩).isSome=true;rw[World.cell?_alloc_at (w:=w) ni _ w.heap.size j rfl,Array.getElem?_eq_getElem bn];rfl
   have hC:∀j u,j<i*7->cs[j]?=some u->w1.cell? ⟨w.heap.size,j,none⟩=some u:=fun j u hj hu=>by
    rw[hw1];show(w.alloc (.cells ni 36)).cell? ⟨w.heap.size,j,none⟩=some u;rw[World.cell?_alloc_at (w:=w) ni _ w.heap.size j rfl,Ut j hj];exact hu
   have hH:∀b2,b2<w.heap.size->w1.heap[b2]?=w.heap[b2]?:=fun b2 h=>by
    rw[hw1];show(w.alloc _).heap[b2]?=_;simp only[World.alloc];rw[Array.getElem?_push_lt h];exact(Array.getElem?_eq_getElem (xs:=w.heap) h).symm
   have hS:w1.heap.size=w.heap.size+1:=by rw[hw1];show(w.heap.push _).size=_;rw[Array.size_push]
   have hO:w1.os=w.os/\w1.tape=w.tape/\w1.output=w.output:=by rw[hw1];exact⟨rfl,rfl,rfl⟩
   have WO:∀j,w1.frozen? ⟨w.heap.size,j,none⟩=false:=fun j=>by
    rw[hw1];exact World.frozen?_alloc_at (w:=w) ni _ w.heap.size j rfl
   rw[<- hw1];obtain⟨k1,k2,k3,k4,k5⟩:=dV w.heap.size vs (i*7) w1;obtain⟨l1,l2,l3,l4,l5⟩:=dV w.heap.size (cs.drop (i*7)) ((i+1)*7) (w1.setCells w.heap.size (i*7) vs).drew;have rR:∀j,j<vs.length->(w1.cell? ⟨w.heap.size,i*7+j,none⟩).isSome=true:=fun j hj=>hN _ bn;have oI:∀j,j<(cs.drop (i*7)).length->((w1.setCells w.heap.size (i*7) vs).drew.cell? ⟨w.heap.size,(i+1)*7+j,none⟩).isSome=true:=fun j hj=>by
    show((w1.setCells w.heap.size (i*7) vs).cell? _).isSome=true;exact cY rR (hN _ oe)
   refine⟨_,_,h1,hG,⟨by rw[l2];exact k2.trans hO.1,by rw[l3];exact k3.trans hO.2.1,by rw[l4];exact k4.trans hO.2.2,by rw[l1];show w.heap.size<=(w1.setCells w.heap.size (i*7) vs).heap.size;rw[k1,hS];omega,.inr (aam _),fun j u hj=>?_,fun b2 h _=>?_⟩,fun o=>⟨fun ho=>cY oI (by
     show((w1.setCells w.heap.size (i*7) vs).cell? _).isSome=true
     exact cY rR (hN _ ho)),by
     rw[World.frozen?_setCells];show(w1.setCells w.heap.size (i*7) vs).frozen? _=false
     rw[World.frozen?_setCells];exact WO o⟩⟩
   ·rw[dQ oI];rcases ke j u hj with ⟨h,h'⟩|⟨h,h',h2⟩|⟨h,h2⟩
    ·rw[if_neg bn];show(w1.setCells w.heap.size (i*7) vs).cell? _=_;rw[dQ rR,if_neg bn];exact hC j u h h'
    ·rw[if_neg bn];show(w1.setCells w.heap.size (i*7) vs).cell? _=_;rw[dQ rR,if_pos bn];exact h2
    ·have YL:j-(i+1)*7<(cs.drop (i*7)).length:=by
      rcases Nat.lt_or_ge (j-(i+1)*7) (cs.drop (i*7)).length with hh|hh
      ·exact hh
      ·rw[List.getElem?_eq_none hh]at h2;cases h2
     rw[if_pos bn];exact h2
   ·rw[l5 b2 bn];show(w1.setCells w.heap.size (i*7) vs).heap[b2]?=_;rw[k5 b2 bn,hH b2 h]
end Go.Proofs
