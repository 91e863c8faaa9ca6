/- What slices.Delete of one row and slices.Insert of one row do to rows  -/
import Derived.Test.YtdnpapgijbhofaaGreatDoorCtxRt
import Derived.Test.YtdnpapgijbhofaaGreatDoorLibDRt
import Derived.WalkKit
import Derived.KernelRfl
import Derived.Deep.LoopGhost
import Derived.Deep.RegionLaw
import Derived.Lib.Walk
import Derived.Lib.SliceRun
import Derived.Lib.AppendZeros
import Derived.Laws.IdiomCopy
import Derived.Laws.Externs
import Derived.Shelf.RegionOpenPlain
import Derived.Test.YtdnpapgijbhofaaGreatDoorRun3Rt
open Go.IntKind
open Go.Proofs.Tryz
set_option linter.defProp false
set_option maxHeartbeats 0
set_option linter.unusedVariables false
set_option linter.unusedSimpArgs false
set_option maxRecDepth 100000
namespace Go.Proofs
open Go.RowKit Go.Lib Go.cB
def y8:(Tryz.prog.info? 29).map (λi=>(i.zero,i.size,i.bytes))=some (some (.agg #[.int .i64 0,.int .i64 0,.int .i64 0,.string ⟨#[]⟩,.slice none 0 0,.slice none 0 0,.slice none 0 0]),7,112):=by kernel_rfl
def XX:(Value.agg #[.int .i64 0,.int .i64 0,.int .i64 0,.string ⟨#[]⟩,.slice none 0 0,.slice none 0 0,.slice none 0 0]).cells.size=7:=rfl
def Tc:(Builtin.zeroCells (Value.agg #[.int .i64 0,.int .i64 0,.int .i64 0,.string ⟨#[]⟩,.slice none 0 0,.slice none 0 0,.slice none 0 0]).cells 1).toList=[.int .i64 0,.int .i64 0,.int .i64 0,.string ⟨#[]⟩,.slice none 0 0,.slice none 0 0,.slice none 0 0]:=by simp[Builtin.zeroCells,Value.cells,List.range,List.range.loop]
set_option maxHeartbeats 4000000 in
set_option maxRecDepth 1000000 in
def Vu(n cap i b:Nat)(w:World)(hi:i<n)(hcap:n<=cap)(news zs:L Value)(hlen:news.length=(n-(i+1))*7)(h1:∀u∈news,u.oneCell'=true)
  (hn:∀(j:Nat) u,news[j]?=some u->w.cell? ⟨b,(i+1)*7+j,none⟩=some u)(hall:∀o,o<cap*7->(w.cell? ⟨b,o,none⟩).isSome=true)(hfr:∀o,w.frozen? ⟨b,o,none⟩=false)
  (hz:zs=[.int .i64 0,.int .i64 0,.int .i64 0,.string ⟨#[]⟩,.slice none 0 0,.slice none 0 0,.slice none 0 0]) :
  Calls Tryz.prog 153 #[.slice (some ⟨b,0,none⟩) n cap,.int .i64 i,.int .i64 ((i+1:Nat):Int)] w λe w'=>e = .returned (.slice (some ⟨b,0,none⟩) (n-1) cap)/\w'=(w.drew.setCells b (i*7) news).setCells b ((n-1)*7) zs:=by
 have mixed:=Tryz.mixed;have hlt:i+1<=n:=hi;have hne:¬((i:Int)=((i+1:Nat):Int)):=by omega
 obtain⟨i0,qh,QY,I7,Pa⟩:=info_parts y8;have ts:=Tryz.underlying27;have hic:i<=cap:=by omega
 have hjc:i+1<=cap:=by omega
 have Co:(0:Int)<=(i:Int)+1:=by omega
 have N4:(i:Int)+1<=(n:Int):=by omega
 obtain⟨A,hA,hsrc⟩:∃A:Addr,(if cap=i+1 then(some ⟨b,0,none⟩:Option Addr)else some ⟨b,(i+1)*7,none⟩)=some A/\Hid (∀(t:Nat) u,news[t]?=some u->w.drew.cell? (A.add t)=some u):=by
  by_cases h:cap=i+1
  ·refine⟨⟨b,0,none⟩,oy,λt u hu=>?_⟩;have h0:news.length=0:=by rw[hlen];omega
   rw[List.length_eq_zero_iff.1 h0]at hu;simp at hu
  refine⟨⟨b,(i+1)*7,none⟩,oy,λt u hu=>?_⟩;rw[Addr.add_lit];exact hn t u hu
 have s1:Hid (news.length=(n-(i+1))*7):=hlen;have s2:Hid (∀u∈news,u.oneCell'=true):=h1;have s3:Hid (∀t,t<news.length->(w.drew.cell? ⟨b,0+i*7+t,none⟩).isSome=true/\w.drew.frozen? ⟨b,0+i*7+t,none⟩=false):=by intro t ht;rw[hlen]at ht;exact⟨hall _ bn,hfr _⟩
 obtain⟨W1,uf⟩:∃W1,W1=w.drew.setCells b (0+i*7) news:=⟨_,rfl⟩;have jJ:∀ty,(Builtin.clear_ #[27] ty #[.slice (some ⟨b,(i+(n-(i+1)))*7,none⟩) (n-(i+(n-(i+1)))) (cap-(i+(n-(i+1))))]).run Tryz.prog W1 = .ok (.tuple #[]) (W1.setCells b ((n-1)*7) zs):=by
  intro ty
  have hst:=run_storeCells_cells (P:=Tryz.prog) b ((n-1)*7) zs 0 W1 (λj hj=>by
    rw[uf,abI]
    exact cK (λk hk=>by rw[hlen]at hk;exact hall _ bn) (hall _ (by rw[hz]at hj;simp at hj;omega)))
   (λj hj=>by rw[uf,World.frozen?_setCells];exact hfr _) (by rw[hz];simp[Value.oneCell'])
  rw[show n-(i+(n-(i+1)))=1 by omega,show i+(n-(i+1))=n-1 by omega];rw[hz]at hst ⊢;simp only[abI]at hst;simp[Builtin.clear_,run_underlying ts,Tryz.zeroValue29,Tc,hst]
 have hW:Hid (W1=w.drew.setCells b (0+i*7) news):=uf;clear uf hn hall hfr
 go_enter func153,Tryz.ntmps153
 go_wp2_with fail
 go_region_law_o (refine step_append_room Z (.tmp 22) (.tmp 25) 27 Z 29 i0 7 ts qh I7 b 0 i cap nt A (n-(i+1)) (cap-(i+1)) news nt s1.out hsrc.out s2.out bn s3.out ?_;rw[<- hW.out])
 go_wp2
 go_ret
 have e1:i+(n-(i+1))=n-1:=by omega
 refine⟨by rw[<- e1];rfl,?_⟩;rw[hW.out,hz,abi]
set_option maxHeartbeats 4000000 in
set_option maxRecDepth 100000 in
def PO(b n c i vb vo m vc:Nat)(cs vs:L Value)(w:World)(hi:i<n)(hm:0<m)(hroom:n+m<=c)(hnb:n+m<=9000000000000000000)(IT:vb≠b)
  (jJ:cs.length=n*7)(hvl:vs.length=m*7)
  (hcs:∀(j:Nat) v,cs[j]?=some v->w.cell? ⟨b,j,none⟩=some v)(hsp:∀j,j<c*7->(w.cell? ⟨b,j,none⟩).isSome=true)(hfz:∀j,w.frozen? ⟨b,j,none⟩=false)
  (hvs:∀(j:Nat) v,vs[j]?=some v->w.cell? ⟨vb,vo+j,none⟩=some v)(h1c:∀v∈cs,v.oneCell'=true)(Bz:∀v∈vs,v.oneCell'=true) :
  Calls Tryz.prog 154 #[.slice (some ⟨b,0,none⟩) n c,.int .i64 i,.slice (some ⟨vb,vo,none⟩) m vc] w λe w' =>
   e = .returned (.slice (some ⟨b,0,none⟩) (n+m) c)/\w'=(w.drew.setCells b ((i+m)*7) (cs.drop (i*7))).setCells b (i*7) vs:=by
 have ts:=Tryz.underlying27;have I7:¬((m:Int)=0):=by omega
 have Ug:¬((i:Int)=(n:Int)):=by omega
 have V4:¬((c:Int)<(n:Int)+(m:Int)):=by omega
 have hsz:(Tryz.prog.info? 29).map (·.size)=some 7:=by kernel_rfl
 obtain⟨v0,Pc⟩:∃v0,w.cell? ⟨vb,vo,none⟩=some v0:=⟨_,hvs 0 _ (abe aaz)⟩;obtain⟨u0,YG⟩:=Option.isSome_iff_exists.1 (hsp ((i+m)*7) bn);have hov:∀lb cb,(callFunc 175 #[.slice (some ⟨vb,vo,none⟩) m vc,.slice (some ⟨b,(i+m)*7,none⟩) lb cb]).run Tryz.prog w = .ok (.value (.bool false)) w:=λlb cb=>by
  rw[run_callFunc_extern func175 (by kernel_rfl) (by kernel_rfl) (by kernel_rfl) (e:=Extern.SlicesOverlaps.overlaps #[27,27] #[4]) (by kernel_rfl),
   rF w 27 4 29 ts 7 Tryz.sizeOf29 ⟨vb,vo,none⟩ ⟨b,(i+m)*7,none⟩ m vc lb cb IT Pc YG hfz rfl]
  rfl
 have BA:(cs.drop (i*7)).length=(n-i)*7:=by rw[abp,jJ];omega
 have mixed:=Tryz.mixed;have hw1:i64.wrap ((i:Int)+(m:Int))=(i:Int)+(m:Int):=by rw[IntKind.wrap_i64];omega
 have Uh:i64.wrap ((n:Int)+(m:Int))=(n:Int)+(m:Int):=by rw[IntKind.wrap_i64];omega
 have Co:(0:Int)<=(i:Int)+(m:Int):=by omega
 have hin:i<=n:=by omega
 have htn:((i:Int)+(m:Int)).toNat=i+m:=by omega
 have N4:¬(c=i+m):=by omega
 have hb3:(i:Int)<=(n:Int)+(m:Int):=by omega
 have hb4:¬(c=i):=by omega
 have QZ:∀ty dc sc,(Builtin.copy_ #[27,27] ty #[.slice (some ⟨b,(i+m)*7,none⟩) (n+m-(i+m)) dc,.slice (some ⟨b,i*7,none⟩) (n+m-i) sc]).run Tryz.prog w.drew = .ok (goInt ((n-i:Nat):Int)) (w.drew.setCells b ((i+m)*7) (cs.drop (i*7))):=λty dc sc =>
  lQ w.drew _ _ ty 29 b ((i+m)*7) (n+m-(i+m)) dc ⟨b,i*7,none⟩ (n+m-i) sc (cs.drop (i*7)) (n-i) 7 ts hsz mc BA
   (λj v hj=>by rw[Addr.add_lit];exact hcs (i*7+j) v Ot)
   (λj hj=>hsp _ q6) (λj hj=>hfz _) (λv hv=>h1c v (ach hv))
 obtain⟨W1,uf⟩:∃W1,W1=w.drew.setCells b ((i+m)*7) (cs.drop (i*7)):=⟨_,rfl⟩;have WR:∀k,k<c*7->(W1.cell? ⟨b,k,none⟩).isSome=true:=λk hk=>by rw[uf];exact cK (w:=w.drew) (λj hj=>hsp ((i+m)*7+j) q6) (hsp k hk)
 have WS:∀(W:World),(∀x,W.cell? x=W1.cell? x)->(∀x,W.frozen? x=W1.frozen? x)->∀ty dc,(Builtin.copy_ #[27,27] ty #[.slice (some ⟨b,i*7,none⟩) (n+m-i) dc,.slice (some ⟨vb,vo,none⟩) m vc]).run Tryz.prog W = .ok (goInt m) (W.setCells b (i*7) vs):=λW I8 Q0 ty dc =>
  lQ W _ _ ty 29 b (i*7) (n+m-i) dc ⟨vb,vo,none⟩ m vc vs m 7 ts hsz mc hvl
   (λj v hj=>by
    rw[Addr.add_lit,I8,uf,World.cell?_setCells_out b _ _ _ _ (λh _=>absurd h IT)]
    exact hvs j v hj)
   (λj hj=>by rw[I8];exact WR _ OC) (λj hj=>by rw[Q0,uf,World.frozen?_setCells];exact hfz _) Bz
 rw[<- uf]at QZ
 go_enter func154,Tryz.ntmps154
 go_wp2_with (simp only[hov])
 go_region_law_o (refine sD Z _ _ 27 27 Z _ _ nt nt (QZ _ _ _) ?_)
 go_wp2_with (at_builtin;refine kC _ Z _ _ 27 27 Z _ _ Z Z (WS _ (λ_=>rfl) (λ_=>rfl) _ _) ?_)
 go_ret
 first|exact⟨Z,Z⟩|exact⟨Z,by rw[uf]⟩
set_option maxHeartbeats 4000000 in
set_option maxRecDepth 100000 in
def Kj(b n c vb vo m vc:Nat)(vs:L Value)(w:World)(hm:0<m)(hroom:n+m<=c)
  (hvl:vs.length=m*7)(hsp:∀j,j<c*7->(w.cell? ⟨b,j,none⟩).isSome=true)(hfz:∀j,w.frozen? ⟨b,j,none⟩=false)
  (hvs:∀(j:Nat) v,vs[j]?=some v->w.cell? ⟨vb,vo+j,none⟩=some v)(Bz:∀v∈vs,v.oneCell'=true) :
  Calls Tryz.prog 154 #[.slice (some ⟨b,0,none⟩) n c,.int .i64 n,.slice (some ⟨vb,vo,none⟩) m vc] w λe w' =>
   e = .returned (.slice (some ⟨b,0,none⟩) (n+m) c)/\w'=w.setCells b (n*7) vs:=by
 have ts:=Tryz.underlying27;obtain⟨i0,qh,QY,hzs,Pa⟩:=info_parts y8;have mixed:=Tryz.mixed;have I7:¬((m:Int)=0):=by omega
 have hap:∀ty,(Builtin.append_ #[27,27] ty #[.slice (some ⟨b,0,none⟩) n c,.slice (some ⟨vb,vo,none⟩) m vc]).run Tryz.prog w = .ok (.slice (some ⟨b,0,none⟩) (n+m) c) (w.setCells b (n*7) vs):=λty=>by
  have:=run_append_room_cells w 27 ty 29 i0 ts qh b 0 n c ⟨vb,vo,none⟩ m vc vs (by rw[hzs];exact hvl) (λj u hj=>by rw[Addr.add_lit];exact hvs j u hj) Bz hroom
   (λj hj=>by rw[hzs];exact hsp _ OC) (λj hj=>hfz _)
  rw[hzs,abi]at this;exact this
 go_enter func154,Tryz.ntmps154
 go_wp2_with (at_builtin;refine Lib.wpList_append_run _ Z _ _ _ _ Z _ _ Z Z _ _ (hap _) ?_)
 go_ret
 exact⟨Z,Z⟩
set_option maxHeartbeats 4000000 in
set_option maxRecDepth 100000 in
def Kk(b n c vb vo m vc:Nat)(cs vs:L Value)(w:World)(hm:0<m)(hnc:n<=c)(hroom:c<n+m)(qk:(n+m)*112<=140737488355328)
  (jJ:cs.length=n*7)(hvl:vs.length=m*7)
  (hcs:∀(j:Nat) v,cs[j]?=some v->w.cell? ⟨b,j,none⟩=some v)
  (hvs:∀(j:Nat) v,vs[j]?=some v->w.cell? ⟨vb,vo+j,none⟩=some v)(Bz:∀v∈vs,v.oneCell'=true) :
  Calls Tryz.prog 154 #[.slice (some ⟨b,0,none⟩) n c,.int .i64 n,.slice (some ⟨vb,vo,none⟩) m vc] w λe w' =>
   e = .returned (.slice (some ⟨w.heap.size,0,none⟩) (n+m) (grownCap w (n+m) c 29)) /\
   w'=w.drew.alloc (.cells ((cs++vs).toArray++Builtin.zeroCells (Value.agg #[.int .i64 0,.int .i64 0,.int .i64 0,.string ⟨#[]⟩,.slice none 0 0,.slice none 0 0,.slice none 0 0]).cells (grownCap w (n+m) c 29-(n+m))) 29):=by
 have ts:=Tryz.underlying27;obtain⟨i0,qh,QY,hzs,Pa⟩:=info_parts y8;have mixed:=Tryz.mixed;have I7:¬((m:Int)=0):=by omega
 have hsrc:Src Tryz.prog i0.size 27 (.slice (some ⟨vb,vo,none⟩) m vc) m vs w:=by rw[hzs];exact aaN
 have hold:(Builtin.firstCells i0.size n (.slice (some ⟨b,0,none⟩) n c)).run Tryz.prog w.drew = .ok cs.toArray w.drew:=by rw[hzs];exact run_firstCells_some w.drew 7 n ⟨b,0,none⟩ n c cs jJ (λj v hj=>by rw[Addr.add_lit,abi];exact hcs j v hj)
 have hrun:∀ty,(Builtin.append_ #[27,27] ty #[.slice (some ⟨b,0,none⟩) n c,.slice (some ⟨vb,vo,none⟩) m vc]).run Tryz.prog w=_:=λty =>
  run_append_grow_src w 27 27 ty 29 i0 _ ts qh QY (some ⟨b,0,none⟩) n c cs hold _ m vs hsrc hroom bn (by rw[Pa];exact growslice_fits hroom qk)
 go_enter func154,Tryz.ntmps154
 go_wp2_with (at_builtin;refine Lib.wpList_append_run _ Z _ _ _ _ Z _ _ Z Z _ _ (hrun _) ?_)
 all_goals (go_ret;exact⟨Z,Z⟩)
set_option maxHeartbeats 4000000 in
set_option maxRecDepth 100000 in
def Td(b n c i vb vo m vc:Nat)(cs vs:L Value)(w:World)(hi:i<n)(hm:0<m)(hnc:n<=c)(hroom:c<n+m)(qk:(n+m)*112<=140737488355328)
  (jJ:cs.length=n*7)(hvl:vs.length=m*7)
  (hcs:∀(j:Nat) v,cs[j]?=some v->w.cell? ⟨b,j,none⟩=some v)
  (hvs:∀(j:Nat) v,vs[j]?=some v->w.cell? ⟨vb,vo+j,none⟩=some v)(h1c:∀v∈cs,v.oneCell'=true)(Bz:∀v∈vs,v.oneCell'=true) :
  Calls Tryz.prog 154 #[.slice (some ⟨b,0,none⟩) n c,.int .i64 i,.slice (some ⟨vb,vo,none⟩) m vc] w λe w' =>
   ∃G mT,n+m<=G/\G*7<=mT.size/\(∀j,j<i*7->mT[j]?=cs[j]?)/\e = .returned (.slice (some ⟨w.heap.size,0,none⟩) (n+m) G) /\
   w'=(((w.alloc (.cells mT 29)).drew.setCells w.heap.size (i*7) vs).drew).setCells w.heap.size ((i+m)*7) (cs.drop (i*7)):=by
 have ts:=Tryz.underlying27;have tn:=Tryz.underlying3;have mixed:=Tryz.mixed;obtain⟨i0,qh,QY,hzs,Pa⟩:=info_parts y8;have I7:¬((m:Int)=0):=by omega
 have Ug:¬((i:Int)=(n:Int)):=by omega
 have V4:(c:Int)<(n:Int)+(m:Int):=by omega
 have hsz:(Tryz.prog.info? 29).map (·.size)=some 7:=by kernel_rfl
 have YH:b<w.heap.size:=block_lt_of_cell (hcs 0 _ (abe (by rw[jJ];omega)));have hvw:vb<w.heap.size:=block_lt_of_cell (hvs 0 _ (abe aaz));have hkk:(n:Int)+(m:Int)-(i:Int)=((n+m-i:Nat):Int):=by omega
 have hik:i+(n+m-i)=n+m:=by omega
 have Cp:(cs.take (i*7)).length=i*7:=by rw[abm,jJ];omega
 have hold:(Builtin.firstCells i0.size i (.slice (some ⟨b,0,none⟩) i c)).run Tryz.prog w.drew = .ok (cs.take (i*7)).toArray w.drew:=by
  rw[hzs]
  exact run_firstCells_some w.drew 7 i ⟨b,0,none⟩ i c (cs.take (i*7)) Cp (λj v hj=>by
   rw[Addr.add_lit,abi];rw[acg]at hj;split at hj;exact hcs j v hj
   cases hj)
 obtain⟨ZS,WT⟩:∃ZS,ZS=(Value.agg #[.int .i64 0,.int .i64 0,.int .i64 0,.string ⟨#[]⟩,.slice none 0 0,.slice none 0 0,.slice none 0 0]).cells:=⟨_,rfl⟩;have YI:ZS.size=7:=by rw[WT];rfl
 have Q2:∀k,(Builtin.zeroCells ZS k).size=k*7:=λk=>by simp[Builtin.zeroCells,YI]
 have UA:∀ty,(Builtin.append_ #[27,3] ty #[.slice (some ⟨b,0,none⟩) i c,.int .i64 ((n:Int)+(m:Int)-(i:Int))]).run Tryz.prog w =
   .ok (.slice (some ⟨w.heap.size,0,none⟩) (n+m) (grownCap w (n+m) c 29)) (w.drew.alloc (.cells ((cs.take (i*7)).toArray++Builtin.zeroCells ZS (n+m-i)++Builtin.zeroCells ZS (grownCap w (n+m) c 29-(n+m))) 29)):=λty=>by
  have h:=Lib.run_append_grow_zeros w 27 3 ty 29 i0 _ .i64 .i64 ts tn qh QY (some ⟨b,0,none⟩) i c (cs.take (i*7)) hold (n+m-i) bn bn bn bn (by rw[Pa];omega) (by rw[Pa,hik];exact growslice_fits hroom qk);rw[hik,<- WT]at h;rw[hkk];exact h
 obtain⟨G,hG⟩:∃G,G=grownCap w (n+m) c 29:=⟨_,rfl⟩;have hGn:n+m<=G:=by rw[hG];exact grownCap_ge w _ _ _
 obtain⟨mT,Gv⟩:∃mT:Array Value,mT=(cs.take (i*7)).toArray++Builtin.zeroCells ZS (n+m-i)++Builtin.zeroCells ZS (G-(n+m)):=⟨_,rfl⟩;rw[<- hG]at UA;rw[<- Gv]at UA;have hRs:mT.size=G*7:=by rw[Gv,acj,acj,Q2,Q2,abT,Cp];omega
 have UB:∀j,j<i*7->mT[j]?=cs[j]?:=λj hj=>by rw[Gv,abo Tf,abo (by rw[abT,Cp];exact hj)];rw[adj,acg,if_pos hj]
 obtain⟨W1,uf⟩:∃W1,W1=w.drew.alloc (.cells mT 29):=⟨_,rfl⟩;rw[<- uf]at UA;have hN:∀j,j<G*7->(W1.cell? ⟨w.heap.size,j,none⟩).isSome=true:=λj hj=>by rw[uf,World.cell?_alloc_at (w:=w.drew) mT _ w.heap.size j Z,abv bn];rfl
 have WU:∀j,W1.frozen? ⟨w.heap.size,j,none⟩=false:=λj=>by rw[uf];exact World.frozen?_alloc_at (w:=w.drew) mT _ w.heap.size j Z
 have hOb:∀j v,w.cell? ⟨b,j,none⟩=some v->W1.cell? ⟨b,j,none⟩=some v:=λj v h=>by rw[uf,World.cell?_alloc_past (w:=w.drew) _ b j YH];exact h
 have hOv:∀j v,w.cell? ⟨vb,j,none⟩=some v->W1.cell? ⟨vb,j,none⟩=some v:=λj v h=>by rw[uf,World.cell?_alloc_past (w:=w.drew) _ vb j hvw];exact h
 have WV:∀(W:World),(∀x,W.cell? x=W1.cell? x)->(∀x,W.frozen? x=W1.frozen? x)->∀ty dc,(Builtin.copy_ #[27,27] ty #[.slice (some ⟨w.heap.size,i*7,none⟩) (n+m-i) dc,.slice (some ⟨vb,vo,none⟩) m vc]).run Tryz.prog W = .ok (goInt m) (W.setCells w.heap.size (i*7) vs):=λW I8 Q0 ty dc =>
  lQ W _ _ ty 29 w.heap.size (i*7) (n+m-i) dc ⟨vb,vo,none⟩ m vc vs m 7 ts hsz mc hvl
   (λj v hj=>by rw[Addr.add_lit,I8];exact hOv _ v (hvs j v hj))
   (λj hj=>by rw[I8];exact hN _ OC) (λj hj=>by rw[Q0];exact WU _) Bz
 have aa3:G<=9223372036854775807:=by have:=grownCap_le_maxLen w (n+m) c 29 (by unfold maxLen;omega);rw[<- hG]at this;unfold maxLen at this;omega
 have hGi:¬(G=i):=by omega
 have aa4:¬(G=i+m):=by omega
 have hci:¬(c=i):=by omega
 have hbN:b≠w.heap.size:=by omega
 have BA:(cs.drop (i*7)).length=(n-i)*7:=by rw[abp,jJ];omega
 have Q3:∀(W:World),(∀x,W.cell? x=(W1.setCells w.heap.size (i*7) vs).cell? x)->(∀x,W.frozen? x=(W1.setCells w.heap.size (i*7) vs).frozen? x)->∀ty dc sc,(Builtin.copy_ #[27,27] ty #[.slice (some ⟨w.heap.size,(i+m)*7,none⟩) (n+m-(i+m)) dc,.slice (some ⟨b,i*7,none⟩) (n-i) sc]).run Tryz.prog W = .ok (goInt ((n-i:Nat):Int)) (W.setCells w.heap.size ((i+m)*7) (cs.drop (i*7))):=λW I8 Q0 ty dc sc =>
  lQ W _ _ ty 29 w.heap.size ((i+m)*7) (n+m-(i+m)) dc ⟨b,i*7,none⟩ (n-i) sc (cs.drop (i*7)) (n-i) 7 ts hsz mc BA
   (λj v hj=>by
    rw[Addr.add_lit,I8,World.cell?_setCells_out _ _ _ _ _ (λh _=>absurd h hbN)]
    exact hOb _ v (hcs (i*7+j) v Ot))
   (λj hj=>by rw[I8];exact cK (λt ht=>hN _ (by rw[hvl]at ht;omega)) (hN _ q6))
   (λj hj=>by rw[Q0,World.frozen?_setCells];exact WU _) (λv hv=>h1c v (ach hv))
 subst uf;have hE1:∀x,((w.alloc (.cells mT 29)).drew).cell? x=(w.drew.alloc (.cells mT 29)).cell? x:=λx=>rfl;have hE2:∀x,((w.alloc (.cells mT 29)).drew).frozen? x=(w.drew.alloc (.cells mT 29)).frozen? x:=λx=>rfl;have hF1:∀x,(((w.alloc (.cells mT 29)).drew.setCells w.heap.size (i*7) vs).drew).cell? x=((w.drew.alloc (.cells mT 29)).setCells w.heap.size (i*7) vs).cell? x:=λx=>rfl;have hF2:∀x,(((w.alloc (.cells mT 29)).drew.setCells w.heap.size (i*7) vs).drew).frozen? x=((w.drew.alloc (.cells mT 29)).setCells w.heap.size (i*7) vs).frozen? x:=λx=>rfl;have hw1:i64.wrap ((i:Int)+(m:Int))=(i:Int)+(m:Int):=by rw[IntKind.wrap_i64];omega
 have Uh:i64.wrap ((n:Int)+(m:Int))=(n:Int)+(m:Int):=by rw[IntKind.wrap_i64];omega
 have hw3:i64.wrap ((n:Int)+(m:Int)-(i:Int))=(n:Int)+(m:Int)-(i:Int):=by rw[IntKind.wrap_i64];omega
 have Co:(0:Int)<=(i:Int)+(m:Int):=by omega
 have hin:i<=n:=by omega
 have htn:((i:Int)+(m:Int)).toNat=i+m:=by omega
 have hb3:(i:Int)<=(n:Int):=by omega
 clear hkk hik hold Gv hG Q2 WT YI Cp;refine Calls.mono (R:=λe w'=>e = .returned (.slice (some ⟨w.heap.size,0,none⟩) (n+m) G)/\w'=(((w.alloc (.cells mT 29)).drew.setCells w.heap.size (i*7) vs).drew).setCells w.heap.size ((i+m)*7) (cs.drop (i*7))) ?_ ?_;rotate_left;rintro e w' ⟨h1,h2⟩;exact⟨G,mT,hGn,bn,UB,h1,h2⟩;clear UB
 go_enter func154,Tryz.ntmps154
 go_wp2_with (first
  |(at_builtin;refine Lib.wpList_append_run _ rfl _ _ _ _ rfl _ _ rfl rfl _ _ (UA _) ?_)
  |(at_builtin;refine kC _ rfl _ _ 27 27 rfl _ _ rfl rfl (WV _ hE1 hE2 _ _) ?_)
  |(at_builtin;refine kC _ rfl _ _ 27 27 rfl _ _ rfl rfl (Q3 _ (λ_=>rfl) (λ_=>rfl) _ _ _) ?_))
 go_region_law_o (refine sD Z _ _ 27 27 Z (.slice (some ⟨w.heap.size,(i+m)*7,none⟩) (n+m-(i+m)) (G-(i+m))) (.slice (some ⟨b,i*7,none⟩) (n-i) (c-i)) nt nt (Q3 _ hF1 hF2 3 (G-(i+m)) (c-i)) ?_)
 go_wp2
 go_ret
 exact⟨Z,Z⟩
set_option maxHeartbeats 1000000 in
def Vv(b n c i vb vo vc:Nat)(cs vs:L Value)(w:World)(hi:i<=n)(hn0:0<n)(hnc:n<=c)(qk:(n+1)*112<=140737488355328)(IT:vb≠b)
  (jJ:cs.length=n*7)(hvl:vs.length=1*7)
  (hcs:∀(j:Nat) v,cs[j]?=some v->w.cell? ⟨b,j,none⟩=some v)(hsp:∀j,j<c*7->(w.cell? ⟨b,j,none⟩).isSome=true)(hfz:∀j,w.frozen? ⟨b,j,none⟩=false)
  (hvs:∀(j:Nat) v,vs[j]?=some v->w.cell? ⟨vb,vo+j,none⟩=some v)(h1c:∀v∈cs,v.oneCell'=true)(Bz:∀v∈vs,v.oneCell'=true) :
  Calls Tryz.prog 154 #[.slice (some ⟨b,0,none⟩) n c,.int .i64 i,.slice (some ⟨vb,vo,none⟩) 1 vc] w λe w' =>
   ∃b' cap',e = .returned (.slice (some ⟨b',0,none⟩) (n+1) cap')/\n+1<=cap'/\N5 w b w' b' (cs.take (i*7)++(vs++cs.drop (i*7)))/\∀o,(o<cap'*7->(w'.cell? ⟨b',o,none⟩).isSome=true)/\w'.frozen? ⟨b',o,none⟩=false:=by
 have Cp:(cs.take (i*7)).length=i*7:=by rw[abm,jJ];omega
 have YH:b<w.heap.size:=block_lt_of_cell (hcs 0 _ (abe (by rw[jJ];omega)));have kD:∀(j:Nat) u,(cs.take (i*7)++(vs++cs.drop (i*7)))[j]?=some u->(j<i*7/\cs[j]?=some u)\/(i*7<=j/\j<(i+1)*7/\vs[j-i*7]?=some u)\/((i+1)*7<=j/\(cs.drop (i*7))[j-(i+1)*7]?=some u):=by intro j u hj;rw[acA]at hj;split at hj;rename_i h;rw[Cp]at h;rw[acg,if_pos h]at hj;exact .inl ⟨h,hj⟩;rename_i h;rw[Cp]at h hj;rw[acA]at hj;split at hj;rename_i h2;rw[hvl]at h2;exact .inr (.inl ⟨bn,bn,hj⟩);rename_i h2;rw[hvl]at h2 hj;refine .inr (.inr ⟨bn,?_⟩);rwa[show j-(i+1)*7=j-i*7-1*7 by omega]
 have BA:(cs.drop (i*7)).length=(n-i)*7:=by rw[abp,jJ];omega
 by_cases he:i=n
 ·subst he;have Lz:cs.drop (i*7)=[]:=adX bn;by_cases hr:i+1<=c
  ·refine Calls.mono (Kj b i c vb vo 1 vc vs w bn hr hvl hsp hfz hvs Bz) ?_;rintro e w' ⟨h1,rfl⟩;obtain⟨k1,k2,k3,k4,k5⟩:=dQ b vs (i*7) w;have Yj:∀j,j<vs.length->(w.cell? ⟨b,i*7+j,none⟩).isSome=true:=λj hj=>hsp _ bn;refine⟨b,c,h1,hr,⟨k2,k3,k4,bn,.inl Z,λj u hj=>?_,λb2 _ h=>k5 b2 h⟩,λo=>⟨λho=>cK Yj (hsp o ho),by rw[World.frozen?_setCells];exact hfz o⟩⟩;rw[dL Yj];rcases kD j u hj with ⟨h,h'⟩|⟨h,h',h2⟩|⟨h,h2⟩
   rw[if_neg bn];exact hcs j u h';rw[if_pos bn];exact h2;rw[Lz]at h2;simp at h2
  refine Calls.mono (Kk b i c vb vo 1 vc cs vs w bn hnc bn qk jJ hvl hcs hvs Bz) ?_;rintro e w' ⟨h1,rfl⟩;have hge:=grownCap_ge w (i+1) c 29;refine⟨_,_,h1,grownCap_ge w _ _ _,⟨Z,Z,Z,by simp[World.alloc],.inr (aal _),λj u hj=>?_,λb2 h _=>?_⟩,λo=>⟨λho=>?_,World.frozen?_alloc_at (w:=w.drew) _ _ w.heap.size o Z⟩⟩;rotate_left 2
  ·rw[World.cell?_alloc_at (w:=w.drew) _ _ w.heap.size o Z,abv (by
    simp only[acj,abT,aao,jJ,hvl,size_zeroCells,XX]
    omega)];rfl
  ·rw[World.cell?_alloc_at (w:=w.drew) _ _ w.heap.size j rfl];have hjl:j<(cs++vs).length:=by
    rw[aao,jJ,hvl];rcases kD j u hj with ⟨h,h'⟩|⟨h,h',h2⟩|⟨h,h2⟩
    omega;omega;rw[Lz]at h2;simp at h2
   rw[abo (by rw[abT];exact hjl),adj];rw[Lz,aba,acq bn]at hj;exact hj
  show(w.drew.alloc _).heap[b2]?=_;simp only[World.alloc];rw[adb (by exact h)];exact(abv (xs:=w.heap) h).symm
 have hi':i<n:=by omega
 by_cases hr:n+1<=c
 ·refine Calls.mono (PO b n c i vb vo 1 vc cs vs w hi' bn hr bn IT jJ hvl hcs hsp hfz hvs h1c Bz) ?_;rintro e w' ⟨h1,rfl⟩;obtain⟨k1,k2,k3,k4,k5⟩:=dQ b (cs.drop (i*7)) ((i+1)*7) w.drew;obtain⟨l1,l2,l3,l4,l5⟩:=dQ b vs (i*7) (w.drew.setCells b ((i+1)*7) (cs.drop (i*7)));have rG:∀j,j<(cs.drop (i*7)).length->(w.drew.cell? ⟨b,(i+1)*7+j,none⟩).isSome=true:=λj hj=>hsp _ q6;have oG:∀j,j<vs.length->((w.drew.setCells b ((i+1)*7) (cs.drop (i*7))).cell? ⟨b,i*7+j,none⟩).isSome=true:=λj hj=>cK rG (hsp _ bn);refine⟨b,c,h1,hr,⟨aaA,aaB,aaC,aau,.inl Z,λj u hj=>?_,λb2 _ h=>by rw[l5 b2 h,k5 b2 h];rfl⟩,λo=>⟨λho=>cK oG (cK rG (hsp o ho)),by rw[World.frozen?_setCells,World.frozen?_setCells];exact hfz o⟩⟩;rw[dL oG,dL rG];rcases kD j u hj with ⟨h,h'⟩|⟨h,h',h2⟩|⟨h,h2⟩
  rw[if_neg bn,if_neg bn];exact hcs j u h';rw[if_pos bn];exact h2;have YJ:j-(i+1)*7<(cs.drop (i*7)).length:=by
   rcases acC (j-(i+1)*7) (cs.drop (i*7)).length with hh|hh
   exact hh;rw[acm hh]at h2;cases h2
  rw[if_neg bn,if_pos bn];exact h2
 refine Calls.mono (Td b n c i vb vo 1 vc cs vs w hi' bn hnc bn qk jJ hvl hcs hvs h1c Bz) ?_;rintro e w' ⟨G,mT,hG,hR,UB,h1,rfl⟩;obtain⟨w1,hw1⟩:∃w1,w1=(w.alloc (.cells mT 29)).drew:=⟨_,rfl⟩;have hN:∀j,j<G*7->(w1.cell? ⟨w.heap.size,j,none⟩).isSome=true:=λj hj=>by rw[hw1];show((w.alloc (.cells mT 29)).cell? ⟨w.heap.size,j,none⟩).isSome=true;rw[World.cell?_alloc_at (w:=w) mT _ w.heap.size j Z,abv bn];rfl
 have hC:∀j u,j<i*7->cs[j]?=some u->w1.cell? ⟨w.heap.size,j,none⟩=some u:=λj u hj hu=>by rw[hw1];show(w.alloc (.cells mT 29)).cell? ⟨w.heap.size,j,none⟩=some u;rw[World.cell?_alloc_at (w:=w) mT _ w.heap.size j Z,UB j hj];exact hu
 have hH:∀b2,b2<w.heap.size->w1.heap[b2]?=w.heap[b2]?:=λb2 h=>by rw[hw1];show(w.alloc _).heap[b2]?=_;simp only[World.alloc];rw[adb h];exact(abv (xs:=w.heap) h).symm
 have hS:w1.heap.size=w.heap.size+1:=by rw[hw1];show(w.heap.push _).size=_;rw[Array.size_push]
 have hO:w1.os=w.os/\w1.tape=w.tape/\w1.output=w.output:=by rw[hw1];exact⟨Z,Z,Z⟩
 have WU:∀j,w1.frozen? ⟨w.heap.size,j,none⟩=false:=λj=>by rw[hw1];exact World.frozen?_alloc_at (w:=w) mT _ w.heap.size j Z
 rw[<- hw1];obtain⟨k1,k2,k3,k4,k5⟩:=dQ w.heap.size vs (i*7) w1;obtain⟨l1,l2,l3,l4,l5⟩:=dQ w.heap.size (cs.drop (i*7)) ((i+1)*7) (w1.setCells w.heap.size (i*7) vs).drew;have rG:∀j,j<vs.length->(w1.cell? ⟨w.heap.size,i*7+j,none⟩).isSome=true:=λj hj=>hN _ bn;have oG:∀j,j<(cs.drop (i*7)).length->((w1.setCells w.heap.size (i*7) vs).drew.cell? ⟨w.heap.size,(i+1)*7+j,none⟩).isSome=true:=λj hj=>by show((w1.setCells w.heap.size (i*7) vs).cell? _).isSome=true;exact cK rG (hN _ q6)
 refine⟨_,_,h1,hG,⟨by rw[l2];exact k2.trans hO.1,by rw[l3];exact k3.trans hO.2.1,by rw[l4];exact k4.trans hO.2.2,by rw[l1];show w.heap.size<=(w1.setCells w.heap.size (i*7) vs).heap.size;rw[k1,hS];omega,.inr (aal _),λj u hj=>?_,λb2 h _=>?_⟩,λo=>⟨λho=>cK oG (by
   show((w1.setCells w.heap.size (i*7) vs).cell? _).isSome=true
   exact cK rG (hN _ ho)),by
   rw[World.frozen?_setCells];show(w1.setCells w.heap.size (i*7) vs).frozen? _=false
   rw[World.frozen?_setCells];exact WU o⟩⟩
 ·rw[dL oG];rcases kD j u hj with ⟨h,h'⟩|⟨h,h',h2⟩|⟨h,h2⟩
  rw[if_neg bn];show(w1.setCells w.heap.size (i*7) vs).cell? _=_;rw[dL rG,if_neg bn];exact hC j u h h';rw[if_neg bn];show(w1.setCells w.heap.size (i*7) vs).cell? _=_;rw[dL rG,if_pos bn];exact h2;have YJ:j-(i+1)*7<(cs.drop (i*7)).length:=by
   rcases acC (j-(i+1)*7) (cs.drop (i*7)).length with hh|hh
   exact hh;rw[acm hh]at h2;cases h2
  rw[if_pos bn];exact h2
 rw[l5 b2 bn];show(w1.setCells w.heap.size (i*7) vs).heap[b2]?=_;rw[k5 b2 bn,hH b2 h]
open Go.cB
def B5:∀(l:L Vl),(bB (aa l)).all CV.one=true
 |[]=>rfl
 |.mk _ _ _ _ _ _ _::l=>by simp only[aa,bA,bB,CV.cells,acT,B5 l,acs];rfl
def uX:∀(n:Nat)(l:L Vl),(aa l).take n=aa (l.take n)
 |0,l=>rfl
 |n+1,[]=>rfl
 |n+1,x::l=>by simp only[aa,adF,uX n l]
def tc:∀(n:Nat)(l:L Vl),(aa l).drop n=aa (l.drop n)
 |0,l=>rfl
 |n+1,[]=>rfl
 |n+1,x::l=>by simp only[aa,acW,tc n l]
attribute [local irreducible] AK ai aR bW dG
def eV(x:Vl)(l:L Vl)(V:l.length<=1099511627776):nP 83 none [.c (.sl 7 (aa (x::l)))] (.gf 999999 0 7 (l.length+1)) (some (bB (aa (x::l)))):=by
 have h1:=az l;have T:([]++aa (x::l)).length=l.length+1:=by simp only[aa,acp,aaa,h1]
 have A:((([]:L CV).length)+(aa (x::l)).length)*112<=140737488355328:=by simp only[aa,aaa,aab,h1];omega
 obtain⟨k,Y,W,p,args,types,H⟩:=x;refine dR.of func83 Z (λargs w=>call83 args w) (abf Z) [(0,.c (.sl 7 (aa (.mk k Y W p args types H::l))))] ⟨[],[],[]⟩ Z Z λβ=>?_;have hf:=func83
 repeat' (first|refine sz ?_|refine ze ?_ ?_|(intro h;first|(cases h;done)|rw[h]|skip)|refine AK.pe rfl ?_ ?_|refine ai.vt hX kn rfl rfl rfl rfl rfl rfl rfl rfl rfl rfl rfl rfl rfl rfl rfl rfl rfl rfl (λh=>by cases h) rfl rfl rfl A rfl T ?_|(refine uA rfl ?_ ?_<;>(try (show(_:Nat)*_<=_;dsimp only))))
 exact AK.WW hX hf Z Z Z
def qI(s:L Vl)(i:Nat)(hi:i<s.length)(hl:s.length<=20000000000):nP 153 (some (bB (aa s))) (.gf 1000000 0 7 s.length::[CV.int .i64 (i:Int),CV.int .i64 ((i+1:Nat):Int)].map AV.c)
  (.gf 999999 0 7 (aa (s.take i++s.drop (i+1))).length) (some (bB (aa (s.take i++s.drop (i+1))))):=by
 have z1:=az s;have hc:(bB (aa s)).length=s.length*7:=by rw[cV (fW s),z1]
 have V:bB (aa (s.take i++s.drop (i+1)))=(bB (aa s)).take (i*7)++(bB (aa s)).drop ((i+1)*7):=by rw[ke,dg,sE (fW s) i bn,sF (fW s) (i+1) bn,uX,tc]
 refine dR.ZJ (λargs w=>call153 args w) bn (B5 _) ?_;intro w G b E vs us hb YK hD K J Y U O p;simp only[bT,Rel]at p;obtain⟨_,_,rfl,rfl,_,_,rfl,rfl,rfl⟩:=p;have W:vs.length=s.length*7:=by rw[nQ K,hc]
 have h1:=me K Y;refine⟨vs.take (i*7)++vs.drop ((i+1)*7),by rw[V];exact fu (rH _ K) (rI _ K),?_⟩;have S:∀o,o<E*7->(w.cell? ⟨b,o,none⟩).isSome=true:=λo Q=>by obtain⟨u,P⟩:=(O o).1 Q;rw[P];rfl
 have D:(vs.drop ((i+1)*7)).length=(s.length-(i+1))*7:=by rw[abp,W];omega
 refine Calls.mono (Vu s.length E i b w hi U (vs.drop ((i+1)*7)) _ D (λu P=>h1 u (ach P)) (λj u T=>J _ u (by rwa[adp]at T)) S (λo=>(O o).2) Z) ?_;rintro e w' ⟨e1,rfl⟩;obtain⟨q,k2,k3,k4,k5⟩:=dQ b (vs.drop ((i+1)*7)) (i*7) w.drew;generalize N:[Value.int IntKind.i64 0,Value.int IntKind.i64 0,Value.int IntKind.i64 0,Value.string ⟨#[]⟩,Value.slice none 0 0,Value.slice none 0 0,Value.slice none 0 0]=zs;have hzl:zs.length=7:=by rw[<- N];rfl
 obtain⟨I,l2,l3,l4,l5⟩:=dQ b zs ((s.length-1)*7) (w.drew.setCells b (i*7) (vs.drop ((i+1)*7)));have A:∀j,j<(vs.drop ((i+1)*7)).length->(w.drew.cell? ⟨b,i*7+j,none⟩).isSome=true:=λj T=>S _ (by rw[D]at T;omega);have H:∀j,j<zs.length->((w.drew.setCells b (i*7) (vs.drop ((i+1)*7))).cell? ⟨b,(s.length-1)*7+j,none⟩).isSome=true:=λj T=>cK A (S _ bn);have tV:(aa (s.take i++s.drop (i+1))).length=s.length-1:=by rw[az,aao,abm,abp];omega
 refine⟨b,E,by rw[tV];exact e1,bn,⟨aaA,aaB,aaC,by rw[I,q];exact aal _,.inl Z,λj u T=>?_,λC _ h=>by rw[l5 C h,k5 C h];rfl⟩,by rw[I,q];exact hb,λo=>⟨λQ=>Option.isSome_iff_exists.1 (cK H (cK A (S o Q))),by rw[World.frozen?_setCells,World.frozen?_setCells];exact(O o).2⟩⟩;have B:(vs.take (i*7)).length=i*7:=by rw[abm,W];omega
 rw[dL H,dL A];rw[acA]at T;split at T;rename_i h;rw[B]at h;rw[acg,if_pos h]at T;rw[if_neg bn,if_neg bn];exact J j u T;rename_i h;rw[B]at h T;have YJ:j-i*7<(vs.drop ((i+1)*7)).length:=by
  rcases acC (j-i*7) (vs.drop ((i+1)*7)).length with M|M
  exact M;rw[acm M]at T;cases T
 rw[if_neg bn,if_pos bn];exact T
def uO(s:L Vl)(x:Vl)(i:Nat)(h0:0<s.length)(hi:i<=s.length)(hl:s.length<=20000000000):nP 154 (some (bB (aa s))) (.gf 1000000 0 7 s.length::[CV.int .i64 (i:Int),CV.sl 7 (aa [x])].map AV.c)
  (.gf 999999 0 7 (aa (s.take i++x::s.drop i)).length) (some (bB (aa (s.take i++x::s.drop i)))):=by
 have z1:=az s;have hc:(bB (aa s)).length=s.length*7:=by rw[cV (fW s),z1]
 have C:bB (aa (s.take i++x::s.drop i))=(bB (aa s)).take (i*7)++(bB (aa [x])++(bB (aa s)).drop (i*7)):=by rw[ke,dg,sE (fW s) i bn,sF (fW s) i bn,uX,tc];simp only[aa,bB,aba]
 refine dR.ZJ (λargs w=>call154 args w) h0 (B5 _) ?_;intro w G b E vs us hb YK Q K iD W U O tP;obtain⟨k,nn,a1,s0,args,types,H⟩:=x;simp only[bT,Rel,aa,dA,aaa,aab]at tP;obtain⟨_,_,rfl,rfl,_,_,rfl,⟨base,len,vc,rfl,rfl,hvc,Y⟩,rfl⟩:=tP;have B:vs.length=s.length*7:=by rw[nQ K,hc]
 have h1:=me K W;have A:∀o,o<E*7->(w.cell? ⟨b,o,none⟩).isSome=true:=λo q=>by obtain⟨u,hu⟩:=(O o).1 q;rw[hu];rfl
 rcases Y with Y|⟨vb,vo,rfl,Y⟩
 simp at Y;simp only[fE,ou,cW,adi]at Y;obtain⟨⟨⟨S,g1,r1,o1⟩,⟨P,g2,r2,o2⟩,⟨N,g3,r3,o3⟩,⟨M,g4,r4,o4⟩,⟨J,g5,r5,o5⟩,⟨I,g6,r6,o6⟩,q7⟩,_⟩:=Y;obtain⟨⟨D,g7,r7,o7⟩,_⟩:=q7;have IT:vb≠b:=λh=>by subst h;rw[YK]at g1;cases g1
 have Jd:bT G (bB (aa [.mk k nn a1 s0 args types H])) [S,P,N,M,J,I,D]:=by simp only[aa,dA,bB,CV.cells,aba,bT];exact⟨S,_,Z,r1,P,_,Z,r2,N,_,Z,r3,M,_,Z,r4,J,_,Z,r5,I,_,Z,r6,D,_,Z,r7,Z⟩
 refine⟨vs.take (i*7)++([S,P,N,M,J,I,D]++vs.drop (i*7)),by rw[C];exact fu (rH _ K) (fu Jd (rI _ K)),?_⟩;refine Calls.mono (Vv b s.length E i vb vo vc vs [S,P,N,M,J,I,D] w hi h0 U bn IT B Z iD A (λo=>(O o).2) (λj v T=>?_) h1 (me Jd (B5 _))) ?_
 ·rcases j with _|_|_|_|_|_|_|j
  simp at T;subst T;exact Q _ _ _ g1;simp at T;subst T;exact Q _ _ _ g2;simp at T;subst T;exact Q _ _ _ g3;simp at T;subst T;exact Q _ _ _ g4;simp at T;subst T;exact Q _ _ _ g5;simp at T;subst T;exact Q _ _ _ g6;simp at T;subst T;exact Q _ _ _ g7;simp at T
 rintro e w' ⟨b',V,e1,e2,e3,p⟩;have tV:(aa (s.take i++Vl.mk k nn a1 s0 args types H::s.drop i)).length=s.length+1:=by rw[az,aao,aaa,abm,abp];omega
 obtain⟨u0,YG⟩:=Option.isSome_iff_exists.1 ((p 0).1 bn);exact⟨b',V,by rw[tV];exact e1,by rw[tV];exact e2,e3,Du YG,λo=>⟨λq=>Option.isSome_iff_exists.1 ((p o).1 q),(p o).2⟩⟩
def FU:∀(p x y q:L AV),x.length=y.length->dH p.length x (p++(y++q))=some (p++(x++q))
 |[],x,y,q,h=>by
  induction x generalizing y with
  |nil=>cases y with
   |nil=>cases q<;>simp only[aab,acp,dH]
   |cons _ _=>simp at h
  |cons a x S=>cases y with
   |nil=>simp at h
   |cons b y =>
    have:=S y nW;simp only[aab,acp,abh]at this ⊢;simp only[dH,this]
 |a::p,x,y,q,h=>by
  cases x with
  |nil=>cases y with
   |nil=>simp only[aaa,abh,dH]
   |cons _ _=>simp at h
  |cons b x=>simp only[aaa,abh,dH,FU p (b::x) y q h]
def FV{l:L Vl}{i:Nat}{v:Vl}(h:l[i]?=some v):l=l.take i++v::l.drop (i+1)/\(l.take i).length=i:=by obtain⟨h1,h2⟩:=List.getElem?_eq_some_iff.1 h;constructor;rw[<- FR h,abK];grind
def MQ(a b:L Vl):ah (aa (a++b))=ah (aa a)++ah (aa b):=by rw[ah,ke,dg,abr]
def Te(a:L Vl):(ah (aa a)).length=a.length*7:=by rw[ah,abB,cV (fW _),az]
def Dx{l:L Vl}{i:Nat}{k n a:Int}{s:L UInt8}{args:L Vl}{types:L Ty}{H:L Nd}(h:l[i]?=some (.mk k n a s args types H)):gl (0+i*7) (ah (aa l)) =
  some (.c (aA k) :: .c (aA n) :: .c (aA a) :: .c (.str s) :: .c (.sl 7 (aa args)) :: .c (.sl 2 (aj types)) :: .c (.sl 5 (aD H))::ah (aa (l.drop (i+1)))):=by
 obtain⟨h1,h2⟩:=FV h;have U:=Te (l.take i);rw[h2]at U
 conv=>lhs;rw[h1,MQ,abi,<- U,vP]
 rfl
def FW{l:L Vl}{i:Nat}(h:i<l.length)(k n a:Int)(s:L UInt8)(args:L Vl)(types:L Ty)(H:L Nd):dH (0+i*7) [.c (aA k),.c (aA n),.c (aA a),.c (.str s),.c (.sl 7 (aa args)),.c (.sl 2 (aj types)),.c (.sl 5 (aD H))] (ah (aa l)) =
  some (ah (aa (l.set i (.mk k n a s args types H)))):=by
 obtain⟨v,q⟩:∃v,l[i]?=some v:=⟨_,abe h⟩;obtain⟨h1,h2⟩:=FV q;have U:=Te (l.take i);rw[h2]at U;have Y:l.set i (.mk k n a s args types H)=l.take i ++ .mk k n a s args types H::l.drop (i+1):=by rw[List.set_eq_take_append_cons_drop,if_pos h]
 rw[Y,MQ]
 conv=>lhs;rw[h1,MQ,abi,<- U]
 have O:ah (aa (v::l.drop (i+1)))=ah [bA v]++ah (aa (l.drop (i+1))):=by show ah (bA v::aa (l.drop (i+1)))=_;rw[ah,ah,ah,<- abr];simp only[bB,aba]
 rw[O,FU];rfl;cases v;rfl
def Vw{l m:L Vl}{i:Nat}(M:m.length=l.length)(W:l.length<=2*i+1)(Y:2*i<=l.length+1)(h:∀k,k<l.length->m[k]?=if k<i\/l.length<=k+i then l[l.length-1-k]? else l[k]?):m=l.reverse:=by apply List.ext_getElem?;intro k;by_cases E:k<l.length;grind;simp_all
def jd(l:L Vl)(hl:l.length<=1099511627776):rK 84 [(1000000,ah (aa l))] [.gf 1000000 0 7 l.length] (.c .undef) [(1000000,ah (aa l.reverse))]:=by
 refine dG.of func84 Z (λargs w=>call84 args w) (abf Z) [(0,.gf 1000000 0 7 l.length)] ⟨[(1000000,ah (aa l))],[],[1000000]⟩ Z Z λβ=>?_;have hf:=func84;generalize S:l.reverse=rv;refine dnm ?_;have Q:i64.wrap ((l.length:Nat)-1:Int)=(l.length:Nat)-1:=gM bn bn;refine AK.fQ [(1000000,1000000)] [] (env':=[(0,.gf 1000000 0 7 l.length),(2,.c (aA ((0:Nat):Int))),(3,.c (aA ((l.length:Nat)-1-((0:Nat):Int))))])
  (bs':=[(1000000,ah (aa l))]) (ts':=[]) (us':=[1000000]) ⟨⟨_,Z,⟨_,Z,Z⟩⟩,⟨_,Z,.inl Z⟩,⟨_,Z,.inl (aaZ (λz=>AV.c (.int .i64 z)) (Q.trans bn))⟩,trivial⟩ ⟨⟨_,_,Z,Z,dr _⟩,trivial⟩ Z ?_
 refine AK.dI (α:=Nat×L Vl) (λz=>z.2.length=l.length/\2*z.1<=l.length+1/\∀k,k<l.length->z.2[k]?=if k<z.1\/l.length<=k+z.1 then l[l.length-1-k]? else l[k]?) (λz=>l.length+1-z.1)
  (λz=>[(0,.gf 1000000 0 7 l.length),(2,.c (aA (z.1:Nat))),(3,.c (aA ((l.length:Nat)-1-(z.1:Nat))))]) (λz=>[(1000000,ah (aa z.2))]) (λ_=>[]) [1000000] (0,l)
  ⟨Z,by show 2*0<=_;omega,λk A=>by show l[k]?=if k<0\/l.length<=k+0 then _ else _;rw[if_neg bn]⟩ ce ⟨Z,trivial⟩ trivial Z (OA Z (Hv _ _) Z) Z ?_
 rintro⟨i,m⟩ ⟨h1,h2,U⟩ ih;simp only at h1 h2 U;by_cases hij:2*i+1<l.length
 ·have hc:decide (((i:Nat):Int)<(l.length:Nat)-1-(i:Nat))=true:=aam bn;obtain⟨j,hj⟩:∃j:Nat,j+i+1=l.length:=⟨l.length-1-i,bn⟩;have P:((l.length:Nat)-1-(i:Nat):Int)=(j:Nat):=by omega
  obtain⟨a,ha⟩:∃a,m[j]?=some a:=⟨_,abe bn⟩;obtain⟨b,hb⟩:∃b,m[i]?=some b:=⟨_,abe bn⟩;have Y:∀k,k<l.length->((m.set i a).set j b)[k]?=if k<i+1\/l.length<=k+(i+1)then l[l.length-1-k]? else l[k]?:=by intro k A;by_cases XE:k=j;subst XE;rw[adY ob,if_pos bn,<- hb,U i bn,if_neg bn];congr 1;omega;rw[List.getElem?_set_ne bn];by_cases O:k=i;subst O;rw[adY bn,if_pos bn,<- ha,U j bn,if_neg bn];congr 1;omega;rw[List.getElem?_set_ne bn,U k A];by_cases H:k<i\/l.length<=k+i;rw[if_pos H,if_pos bn];rw[if_neg H,if_neg bn]
  obtain⟨q,K,W,u,p,V,T⟩:=a;obtain⟨I,N,B,M,G,J,E⟩:=b;have r1:=Dx ha;have r2:=Dx hb;have w1:=FW (l:=m) (i:=i) bn q K W u p V T;have w2:=FW (l:=m.set i (.mk q K W u p V T)) (i:=j) (by rw[adO];omega) I N B M G J E;have D:i64.wrap (((i:Nat):Int)+1)=((i+1:Nat):Int):=by rw[gM bn bn];omega
  have C:i64.wrap ((l.length:Nat)-1-(i:Nat)-1:Int)=(l.length:Nat)-1-((i+1:Nat):Int):=by rw[gM bn bn];omega
  repeat' (first|refine mQ ?_|refine zc ?_ ?_|(intro h;first|(cases h;done)|rw[h]|skip)|refine AK.pe Z ?_ ?_|refine ai.iT hX kn Z Z Z Z Z Z Z Z Z j P bn ?_|refine ai.iT hX kn Z Z Z Z Z Z Z Z Z i Z bn ?_|refine ai.gm hX kn Z Z Z Z Z Z r1 Z ?_|refine ai.gm hX kn Z Z Z Z Z Z r2 Z ?_|refine ai.store hX kn Z Z Z Z Z Z Z Z Z w1 Z ?_|refine ai.store hX kn Z Z Z Z Z Z Z Z Z w2 Z ?_|(refine uA Z ?_ ?_<;>(try (show(_:Nat)*_<=_;dsimp only))))
  refine AK.fQ [(1000000,1000000)] [] (env':=[(0,.gf 1000000 0 7 l.length),(2,.c (aA ((i+1:Nat):Int))),(3,.c (aA ((l.length:Nat)-1-((i+1:Nat):Int))))])
   (bs':=[(1000000,ah (aa ((m.set i (.mk q K W u p V T)).set j (.mk I N B M G J E))))]) (ts':=[]) (us':=[1000000])
   ⟨⟨_,Z,⟨_,Z,Z⟩⟩,⟨_,Z,.inl (aaZ (λz=>AV.c (.int .i64 z)) D)⟩,⟨_,Z,.inl (aaZ (λz=>AV.c (.int .i64 z)) C)⟩,trivial⟩ ⟨⟨_,_,Z,Z,dr _⟩,trivial⟩ Z ?_
  exact ih (i+1,(m.set i (.mk q K W u p V T)).set j (.mk I N B M G J E)) ⟨by show(List.set _ _ _).length=_;rw[adO,adO];exact h1,by show 2*(i+1)<=_;omega,Y⟩ (by show l.length+1-(i+1)<l.length+1-i;omega)
 have hc:decide (((i:Nat):Int)<(l.length:Nat)-1-(i:Nat))=false:=aan bn;have hm:m=rv:=by rw[<- S];exact Vw h1 bn h2 U
 subst hm;clear ih
 repeat' (first|refine mQ ?_|refine zc ?_ ?_|(intro h;first|(cases h;done)|rw[h]|skip)|refine AK.pe Z ?_ ?_|(refine uA Z ?_ ?_<;>(try (show(_:Nat)*_<=_;dsimp only))))
 exact AK.Dv (.inr Z) hX hf Z [(1000000,1000000)] Z (.inr Z) ⟨⟨_,_,Z,Z,dr _⟩,trivial⟩
end Go.Proofs
namespace Go.Proofs
open Go.cB
attribute [local irreducible] AK ai aR bW dG
def cu(k n:Int):af 157 [aA k,aA n] (bA (aI k n)):=by exact qdq func157 call157
def je(b:Bool):af 166 [.bool b] (bA (gU b)):=by have h1:=cu 2 1;have M:=cu 2 0;cases b;exact qdq func166 call166;exact qdq func166 call166
def fC(l:L Vl):af 156 [.sl 7 (aa l)] (bA (bN l)):=by exact qdq func156 call156
def gV(a b:Vl):af 155 [bA a,bA b] (bA (aY a b)):=by obtain⟨q,K,W,u,p,Y,V⟩:=a;obtain⟨I,U,B,H,G,T,S⟩:=b;exact qdq func155 call155
def kg(p:Int)(h:40<=p/\p<=95):af 133 [aA p] (aA (bD p:Nat)):=by
 have D:p=40\/p=41\/p=42\/p=43\/p=44\/p=45\/p=46\/p=47\/p=48\/p=49\/p=50\/p=51\/p=52\/p=53\/p=54\/p=55\/p=56\/p=57\/p=58\/p=59\/p=60\/p=61\/p=62\/p=63\/p=64\/p=65\/p=66\/p=67\/p=68\/p=69\/p=70\/p=71\/p=72\/p=73\/p=74\/p=75\/p=76\/p=77\/p=78\/p=79\/p=80\/p=81\/p=82\/p=83\/p=84\/p=85\/p=86\/p=87\/p=88\/p=89\/p=90\/p=91\/p=92\/p=93\/p=94\/p=95:=by omega
 clear h;rcases D with rfl|rfl|rfl|rfl|rfl|rfl|rfl|rfl|rfl|rfl|rfl|rfl|rfl|rfl|rfl|rfl|rfl|rfl|rfl|rfl|rfl|rfl|rfl|rfl|rfl|rfl|rfl|rfl|rfl|rfl|rfl|rfl|rfl|rfl|rfl|rfl|rfl|rfl|rfl|rfl|rfl|rfl|rfl|rfl|rfl|rfl|rfl|rfl|rfl|rfl|rfl|rfl|rfl|rfl|rfl|rfl
 all_goals
  first
  |(refine aR.of func133 rfl (λargs w=>call133 args w) (abf Z) [(0,.c (aA _))] Z λβ Y=>?_;have hf:=func133;exact dq)
def mE(p a b:Int):af 160 [aA p,aA a,aA b] (aA (ofM p a b)):=by
 refine qn func160 call160 λβ hf=>?_
 repeat' (first|refine sz ?_|refine zc ?_ ?_|(intro h;first|(cases h;done)|rw[h]|skip))
 all_goals (show(_:CV)=_;clear hf;unfold ofM;simp_all)
end Go.Proofs
