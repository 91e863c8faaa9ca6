/- What slices.Delete of one row and slices.Insert of one row do to rows  -/
import Derived.Test.YtdnpapgijbhofaaGreatDoorCtxRt
import Derived.Test.YtdnpapgijbhofaaGreatDoorLibDRt
import Derived.WalkKit
import Derived.KernelRfl
import Derived.Deep.LoopGhost
import Derived.Deep.RegionLaw
import Derived.Lib.Walk
import Derived.Lib.SliceRun
import Derived.Lib.AppendZeros
import Derived.Laws.IdiomCopy
import Derived.Laws.Externs
import Derived.Shelf.RegionOpenPlain
import Derived.Test.YtdnpapgijbhofaaGreatDoorChk3Rt
open Go.IntKind
open Go.Proofs.Tryz
set_option linter.defProp false
set_option maxHeartbeats 0
set_option linter.unusedVariables false
set_option linter.unusedSimpArgs false
set_option maxRecDepth 100000
namespace Go.Proofs
open Go.RowKit Go.Lib Go.cB
def yd:(Tryz.prog.info? 25).map (λi=>(i.zero,i.size,i.bytes))=some (some (.agg #[.int .i64 0,.slice none 0 0]),2,32):=by kernel_rfl
def QX:(Builtin.zeroCells (Value.agg #[.int .i64 0,.slice none 0 0]).cells 1).toList=[.int .i64 0,.slice none 0 0]:=by simp[Builtin.zeroCells,Value.cells,List.range,List.range.loop]
set_option maxHeartbeats 4000000 in
set_option maxRecDepth 1000000 in
def Uz(n cap i b:Nat)(w:World)(hi:i<n)(hcap:n<=cap)(news zs:L Value)(hlen:news.length=(n-(i+1))*2)(h1:∀u∈news,u.oneCell'=true)
  (hn:∀(j:Nat) u,news[j]?=some u->w.cell? ⟨b,(i+1)*2+j,none⟩=some u)(hall:∀o,o<cap*2->(w.cell? ⟨b,o,none⟩).isSome=true)(hfr:∀o,w.frozen? ⟨b,o,none⟩=false)
  (hz:zs=[.int .i64 0,.slice none 0 0]) :
  Calls Tryz.prog 146 #[.slice (some ⟨b,0,none⟩) n cap,.int .i64 i,.int .i64 ((i+1:Nat):Int)] w λe w'=>e = .returned (.slice (some ⟨b,0,none⟩) (n-1) cap)/\w'=(w.drew.setCells b (i*2) news).setCells b ((n-1)*2) zs:=by
 have mixed:=Tryz.mixed;have hlt:i+1<=n:=hi;have hne:¬((i:Int)=((i+1:Nat):Int)):=by omega
 obtain⟨i0,qh,QY,I7,Pa⟩:=info_parts yd;have ts:=Tryz.underlying23;have hic:i<=cap:=by omega
 have hjc:i+1<=cap:=by omega
 have Co:(0:Int)<=(i:Int)+1:=by omega
 have N4:(i:Int)+1<=(n:Int):=by omega
 obtain⟨A,hA,hsrc⟩:∃A:Addr,(if cap=i+1 then(some ⟨b,0,none⟩:Option Addr)else some ⟨b,(i+1)*2,none⟩)=some A/\Hid (∀(t:Nat) u,news[t]?=some u->w.drew.cell? (A.add t)=some u):=by
  by_cases h:cap=i+1
  ·refine⟨⟨b,0,none⟩,oy,λt u hu=>?_⟩;have h0:news.length=0:=by rw[hlen];omega
   rw[List.length_eq_zero_iff.1 h0]at hu;simp at hu
  refine⟨⟨b,(i+1)*2,none⟩,oy,λt u hu=>?_⟩;rw[Addr.add_lit];exact hn t u hu
 have s1:Hid (news.length=(n-(i+1))*2):=hlen;have s2:Hid (∀u∈news,u.oneCell'=true):=h1;have s3:Hid (∀t,t<news.length->(w.drew.cell? ⟨b,0+i*2+t,none⟩).isSome=true/\w.drew.frozen? ⟨b,0+i*2+t,none⟩=false):=by intro t ht;rw[hlen]at ht;exact⟨hall _ bn,hfr _⟩
 obtain⟨W1,uf⟩:∃W1,W1=w.drew.setCells b (0+i*2) news:=⟨_,rfl⟩;have jJ:∀ty,(Builtin.clear_ #[23] ty #[.slice (some ⟨b,(i+(n-(i+1)))*2,none⟩) (n-(i+(n-(i+1)))) (cap-(i+(n-(i+1))))]).run Tryz.prog W1 = .ok (.tuple #[]) (W1.setCells b ((n-1)*2) zs):=by
  intro ty
  have hst:=run_storeCells_cells (P:=Tryz.prog) b ((n-1)*2) zs 0 W1 (λj hj=>by
    rw[uf,abI]
    exact cK (λk hk=>by rw[hlen]at hk;exact hall _ bn) (hall _ (by rw[hz]at hj;simp at hj;omega)))
   (λj hj=>by rw[uf,World.frozen?_setCells];exact hfr _) (by rw[hz];simp[Value.oneCell'])
  rw[show n-(i+(n-(i+1)))=1 by omega,show i+(n-(i+1))=n-1 by omega];rw[hz]at hst ⊢;simp only[abI]at hst;simp[Builtin.clear_,run_underlying ts,Tryz.zeroValue25,QX,hst]
 have hW:Hid (W1=w.drew.setCells b (0+i*2) news):=uf;clear uf hn hall hfr
 go_enter func146,Tryz.ntmps146
 go_wp2_with fail
 go_region_law_o (refine step_append_room Z (.tmp 22) (.tmp 25) 23 Z 25 i0 2 ts qh I7 b 0 i cap nt A (n-(i+1)) (cap-(i+1)) news nt s1.out hsrc.out s2.out bn s3.out ?_;rw[<- hW.out])
 go_wp2
 go_ret
 have e1:i+(n-(i+1))=n-1:=by omega
 refine⟨by rw[<- e1];rfl,?_⟩;rw[hW.out,hz,abi]
set_option maxHeartbeats 4000000 in
set_option maxRecDepth 100000 in
def Pb(b n c i vb vo m vc:Nat)(cs vs:L Value)(w:World)(hi:i<n)(hm:0<m)(hroom:n+m<=c)(hnb:n+m<=9000000000000000000)(IT:vb≠b)
  (jJ:cs.length=n*2)(hvl:vs.length=m*2)
  (hcs:∀(j:Nat) v,cs[j]?=some v->w.cell? ⟨b,j,none⟩=some v)(hsp:∀j,j<c*2->(w.cell? ⟨b,j,none⟩).isSome=true)(hfz:∀j,w.frozen? ⟨b,j,none⟩=false)
  (hvs:∀(j:Nat) v,vs[j]?=some v->w.cell? ⟨vb,vo+j,none⟩=some v)(h1c:∀v∈cs,v.oneCell'=true)(Bz:∀v∈vs,v.oneCell'=true) :
  Calls Tryz.prog 147 #[.slice (some ⟨b,0,none⟩) n c,.int .i64 i,.slice (some ⟨vb,vo,none⟩) m vc] w λe w' =>
   e = .returned (.slice (some ⟨b,0,none⟩) (n+m) c)/\w'=(w.drew.setCells b ((i+m)*2) (cs.drop (i*2))).setCells b (i*2) vs:=by
 have ts:=Tryz.underlying23;have I7:¬((m:Int)=0):=by omega
 have Ug:¬((i:Int)=(n:Int)):=by omega
 have V4:¬((c:Int)<(n:Int)+(m:Int)):=by omega
 have hsz:(Tryz.prog.info? 25).map (·.size)=some 2:=by kernel_rfl
 obtain⟨v0,Pc⟩:∃v0,w.cell? ⟨vb,vo,none⟩=some v0:=⟨_,hvs 0 _ (abe aaz)⟩;obtain⟨u0,YG⟩:=Option.isSome_iff_exists.1 (hsp ((i+m)*2) bn);have hov:∀lb cb,(callFunc 173 #[.slice (some ⟨vb,vo,none⟩) m vc,.slice (some ⟨b,(i+m)*2,none⟩) lb cb]).run Tryz.prog w = .ok (.value (.bool false)) w:=λlb cb=>by
  rw[run_callFunc_extern func173 (by kernel_rfl) (by kernel_rfl) (by kernel_rfl) (e:=Extern.SlicesOverlaps.overlaps #[23,23] #[4]) (by kernel_rfl),
   rF w 23 4 25 ts 2 Tryz.sizeOf25 ⟨vb,vo,none⟩ ⟨b,(i+m)*2,none⟩ m vc lb cb IT Pc YG hfz rfl]
  rfl
 have BA:(cs.drop (i*2)).length=(n-i)*2:=by rw[abp,jJ];omega
 have mixed:=Tryz.mixed;have hw1:i64.wrap ((i:Int)+(m:Int))=(i:Int)+(m:Int):=by rw[IntKind.wrap_i64];omega
 have Uh:i64.wrap ((n:Int)+(m:Int))=(n:Int)+(m:Int):=by rw[IntKind.wrap_i64];omega
 have Co:(0:Int)<=(i:Int)+(m:Int):=by omega
 have hin:i<=n:=by omega
 have htn:((i:Int)+(m:Int)).toNat=i+m:=by omega
 have N4:¬(c=i+m):=by omega
 have hb3:(i:Int)<=(n:Int)+(m:Int):=by omega
 have hb4:¬(c=i):=by omega
 have QZ:∀ty dc sc,(Builtin.copy_ #[23,23] ty #[.slice (some ⟨b,(i+m)*2,none⟩) (n+m-(i+m)) dc,.slice (some ⟨b,i*2,none⟩) (n+m-i) sc]).run Tryz.prog w.drew = .ok (goInt ((n-i:Nat):Int)) (w.drew.setCells b ((i+m)*2) (cs.drop (i*2))):=λty dc sc =>
  lQ w.drew _ _ ty 25 b ((i+m)*2) (n+m-(i+m)) dc ⟨b,i*2,none⟩ (n+m-i) sc (cs.drop (i*2)) (n-i) 2 ts hsz mc BA
   (λj v hj=>by rw[Addr.add_lit];exact hcs (i*2+j) v Ot)
   (λj hj=>hsp _ q6) (λj hj=>hfz _) (λv hv=>h1c v (ach hv))
 obtain⟨W1,uf⟩:∃W1,W1=w.drew.setCells b ((i+m)*2) (cs.drop (i*2)):=⟨_,rfl⟩;have WR:∀k,k<c*2->(W1.cell? ⟨b,k,none⟩).isSome=true:=λk hk=>by rw[uf];exact cK (w:=w.drew) (λj hj=>hsp ((i+m)*2+j) q6) (hsp k hk)
 have WS:∀(W:World),(∀x,W.cell? x=W1.cell? x)->(∀x,W.frozen? x=W1.frozen? x)->∀ty dc,(Builtin.copy_ #[23,23] ty #[.slice (some ⟨b,i*2,none⟩) (n+m-i) dc,.slice (some ⟨vb,vo,none⟩) m vc]).run Tryz.prog W = .ok (goInt m) (W.setCells b (i*2) vs):=λW I8 Q0 ty dc =>
  lQ W _ _ ty 25 b (i*2) (n+m-i) dc ⟨vb,vo,none⟩ m vc vs m 2 ts hsz mc hvl
   (λj v hj=>by
    rw[Addr.add_lit,I8,uf,World.cell?_setCells_out b _ _ _ _ (λh _=>absurd h IT)]
    exact hvs j v hj)
   (λj hj=>by rw[I8];exact WR _ OC) (λj hj=>by rw[Q0,uf,World.frozen?_setCells];exact hfz _) Bz
 rw[<- uf]at QZ
 go_enter func147,Tryz.ntmps147
 go_wp2_with (simp only[hov])
 go_region_law_o (refine sD Z _ _ 23 23 Z _ _ nt nt (QZ _ _ _) ?_)
 go_wp2_with (at_builtin;refine kC _ Z _ _ 23 23 Z _ _ Z Z (WS _ (λ_=>rfl) (λ_=>rfl) _ _) ?_)
 go_ret
 first|exact⟨Z,Z⟩|exact⟨Z,by rw[uf]⟩
set_option maxHeartbeats 4000000 in
set_option maxRecDepth 100000 in
def I9(b n c vb vo m vc:Nat)(vs:L Value)(w:World)(hm:0<m)(hroom:n+m<=c)
  (hvl:vs.length=m*2)(hsp:∀j,j<c*2->(w.cell? ⟨b,j,none⟩).isSome=true)(hfz:∀j,w.frozen? ⟨b,j,none⟩=false)
  (hvs:∀(j:Nat) v,vs[j]?=some v->w.cell? ⟨vb,vo+j,none⟩=some v)(Bz:∀v∈vs,v.oneCell'=true) :
  Calls Tryz.prog 147 #[.slice (some ⟨b,0,none⟩) n c,.int .i64 n,.slice (some ⟨vb,vo,none⟩) m vc] w λe w' =>
   e = .returned (.slice (some ⟨b,0,none⟩) (n+m) c)/\w'=w.setCells b (n*2) vs:=by
 have ts:=Tryz.underlying23;obtain⟨i0,qh,QY,hzs,Pa⟩:=info_parts yd;have mixed:=Tryz.mixed;have I7:¬((m:Int)=0):=by omega
 have hap:∀ty,(Builtin.append_ #[23,23] ty #[.slice (some ⟨b,0,none⟩) n c,.slice (some ⟨vb,vo,none⟩) m vc]).run Tryz.prog w = .ok (.slice (some ⟨b,0,none⟩) (n+m) c) (w.setCells b (n*2) vs):=λty=>by
  have:=run_append_room_cells w 23 ty 25 i0 ts qh b 0 n c ⟨vb,vo,none⟩ m vc vs (by rw[hzs];exact hvl) (λj u hj=>by rw[Addr.add_lit];exact hvs j u hj) Bz hroom
   (λj hj=>by rw[hzs];exact hsp _ OC) (λj hj=>hfz _)
  rw[hzs,abi]at this;exact this
 go_enter func147,Tryz.ntmps147
 go_wp2_with (at_builtin;refine Lib.wpList_append_run _ Z _ _ _ _ Z _ _ Z Z _ _ (hap _) ?_)
 go_ret
 exact⟨Z,Z⟩
set_option maxHeartbeats 4000000 in
set_option maxRecDepth 100000 in
def Ja(b n c vb vo m vc:Nat)(cs vs:L Value)(w:World)(hm:0<m)(hnc:n<=c)(hroom:c<n+m)(qk:(n+m)*32<=140737488355328)
  (jJ:cs.length=n*2)(hvl:vs.length=m*2)
  (hcs:∀(j:Nat) v,cs[j]?=some v->w.cell? ⟨b,j,none⟩=some v)
  (hvs:∀(j:Nat) v,vs[j]?=some v->w.cell? ⟨vb,vo+j,none⟩=some v)(Bz:∀v∈vs,v.oneCell'=true) :
  Calls Tryz.prog 147 #[.slice (some ⟨b,0,none⟩) n c,.int .i64 n,.slice (some ⟨vb,vo,none⟩) m vc] w λe w' =>
   e = .returned (.slice (some ⟨w.heap.size,0,none⟩) (n+m) (grownCap w (n+m) c 25)) /\
   w'=w.drew.alloc (.cells ((cs++vs).toArray++Builtin.zeroCells (Value.agg #[.int .i64 0,.slice none 0 0]).cells (grownCap w (n+m) c 25-(n+m))) 25):=by
 have ts:=Tryz.underlying23;obtain⟨i0,qh,QY,hzs,Pa⟩:=info_parts yd;have mixed:=Tryz.mixed;have I7:¬((m:Int)=0):=by omega
 have hsrc:Src Tryz.prog i0.size 23 (.slice (some ⟨vb,vo,none⟩) m vc) m vs w:=by rw[hzs];exact aaN
 have hold:(Builtin.firstCells i0.size n (.slice (some ⟨b,0,none⟩) n c)).run Tryz.prog w.drew = .ok cs.toArray w.drew:=by rw[hzs];exact run_firstCells_some w.drew 2 n ⟨b,0,none⟩ n c cs jJ (λj v hj=>by rw[Addr.add_lit,abi];exact hcs j v hj)
 have hrun:∀ty,(Builtin.append_ #[23,23] ty #[.slice (some ⟨b,0,none⟩) n c,.slice (some ⟨vb,vo,none⟩) m vc]).run Tryz.prog w=_:=λty =>
  run_append_grow_src w 23 23 ty 25 i0 _ ts qh QY (some ⟨b,0,none⟩) n c cs hold _ m vs hsrc hroom bn (by rw[Pa];exact growslice_fits hroom qk)
 go_enter func147,Tryz.ntmps147
 go_wp2_with (at_builtin;refine Lib.wpList_append_run _ Z _ _ _ _ Z _ _ Z Z _ _ (hrun _) ?_)
 all_goals (go_ret;exact⟨Z,Z⟩)
set_option maxHeartbeats 4000000 in
set_option maxRecDepth 100000 in
def Q1(b n c i vb vo m vc:Nat)(cs vs:L Value)(w:World)(hi:i<n)(hm:0<m)(hnc:n<=c)(hroom:c<n+m)(qk:(n+m)*32<=140737488355328)
  (jJ:cs.length=n*2)(hvl:vs.length=m*2)
  (hcs:∀(j:Nat) v,cs[j]?=some v->w.cell? ⟨b,j,none⟩=some v)
  (hvs:∀(j:Nat) v,vs[j]?=some v->w.cell? ⟨vb,vo+j,none⟩=some v)(h1c:∀v∈cs,v.oneCell'=true)(Bz:∀v∈vs,v.oneCell'=true) :
  Calls Tryz.prog 147 #[.slice (some ⟨b,0,none⟩) n c,.int .i64 i,.slice (some ⟨vb,vo,none⟩) m vc] w λe w' =>
   ∃G mT,n+m<=G/\G*2<=mT.size/\(∀j,j<i*2->mT[j]?=cs[j]?)/\e = .returned (.slice (some ⟨w.heap.size,0,none⟩) (n+m) G) /\
   w'=(((w.alloc (.cells mT 25)).drew.setCells w.heap.size (i*2) vs).drew).setCells w.heap.size ((i+m)*2) (cs.drop (i*2)):=by
 have ts:=Tryz.underlying23;have tn:=Tryz.underlying3;have mixed:=Tryz.mixed;obtain⟨i0,qh,QY,hzs,Pa⟩:=info_parts yd;have I7:¬((m:Int)=0):=by omega
 have Ug:¬((i:Int)=(n:Int)):=by omega
 have V4:(c:Int)<(n:Int)+(m:Int):=by omega
 have hsz:(Tryz.prog.info? 25).map (·.size)=some 2:=by kernel_rfl
 have YH:b<w.heap.size:=block_lt_of_cell (hcs 0 _ (abe (by rw[jJ];omega)));have hvw:vb<w.heap.size:=block_lt_of_cell (hvs 0 _ (abe aaz));have hkk:(n:Int)+(m:Int)-(i:Int)=((n+m-i:Nat):Int):=by omega
 have hik:i+(n+m-i)=n+m:=by omega
 have Cp:(cs.take (i*2)).length=i*2:=by rw[abm,jJ];omega
 have hold:(Builtin.firstCells i0.size i (.slice (some ⟨b,0,none⟩) i c)).run Tryz.prog w.drew = .ok (cs.take (i*2)).toArray w.drew:=by
  rw[hzs]
  exact run_firstCells_some w.drew 2 i ⟨b,0,none⟩ i c (cs.take (i*2)) Cp (λj v hj=>by
   rw[Addr.add_lit,abi];rw[acg]at hj;split at hj;exact hcs j v hj
   cases hj)
 obtain⟨ZS,WT⟩:∃ZS,ZS=(Value.agg #[.int .i64 0,.slice none 0 0]).cells:=⟨_,rfl⟩;have YI:ZS.size=2:=by rw[WT];rfl
 have Q2:∀k,(Builtin.zeroCells ZS k).size=k*2:=λk=>by simp[Builtin.zeroCells,YI]
 have UA:∀ty,(Builtin.append_ #[23,3] ty #[.slice (some ⟨b,0,none⟩) i c,.int .i64 ((n:Int)+(m:Int)-(i:Int))]).run Tryz.prog w =
   .ok (.slice (some ⟨w.heap.size,0,none⟩) (n+m) (grownCap w (n+m) c 25)) (w.drew.alloc (.cells ((cs.take (i*2)).toArray++Builtin.zeroCells ZS (n+m-i)++Builtin.zeroCells ZS (grownCap w (n+m) c 25-(n+m))) 25)):=λty=>by
  have h:=Lib.run_append_grow_zeros w 23 3 ty 25 i0 _ .i64 .i64 ts tn qh QY (some ⟨b,0,none⟩) i c (cs.take (i*2)) hold (n+m-i) bn bn bn bn (by rw[Pa];omega) (by rw[Pa,hik];exact growslice_fits hroom qk);rw[hik,<- WT]at h;rw[hkk];exact h
 obtain⟨G,hG⟩:∃G,G=grownCap w (n+m) c 25:=⟨_,rfl⟩;have hGn:n+m<=G:=by rw[hG];exact grownCap_ge w _ _ _
 obtain⟨mT,Gv⟩:∃mT:Array Value,mT=(cs.take (i*2)).toArray++Builtin.zeroCells ZS (n+m-i)++Builtin.zeroCells ZS (G-(n+m)):=⟨_,rfl⟩;rw[<- hG]at UA;rw[<- Gv]at UA;have hRs:mT.size=G*2:=by rw[Gv,acj,acj,Q2,Q2,abT,Cp];omega
 have UB:∀j,j<i*2->mT[j]?=cs[j]?:=λj hj=>by rw[Gv,abo Tf,abo (by rw[abT,Cp];exact hj)];rw[adj,acg,if_pos hj]
 obtain⟨W1,uf⟩:∃W1,W1=w.drew.alloc (.cells mT 25):=⟨_,rfl⟩;rw[<- uf]at UA;have hN:∀j,j<G*2->(W1.cell? ⟨w.heap.size,j,none⟩).isSome=true:=λj hj=>by rw[uf,World.cell?_alloc_at (w:=w.drew) mT _ w.heap.size j Z,abv bn];rfl
 have WU:∀j,W1.frozen? ⟨w.heap.size,j,none⟩=false:=λj=>by rw[uf];exact World.frozen?_alloc_at (w:=w.drew) mT _ w.heap.size j Z
 have hOb:∀j v,w.cell? ⟨b,j,none⟩=some v->W1.cell? ⟨b,j,none⟩=some v:=λj v h=>by rw[uf,World.cell?_alloc_past (w:=w.drew) _ b j YH];exact h
 have hOv:∀j v,w.cell? ⟨vb,j,none⟩=some v->W1.cell? ⟨vb,j,none⟩=some v:=λj v h=>by rw[uf,World.cell?_alloc_past (w:=w.drew) _ vb j hvw];exact h
 have WV:∀(W:World),(∀x,W.cell? x=W1.cell? x)->(∀x,W.frozen? x=W1.frozen? x)->∀ty dc,(Builtin.copy_ #[23,23] ty #[.slice (some ⟨w.heap.size,i*2,none⟩) (n+m-i) dc,.slice (some ⟨vb,vo,none⟩) m vc]).run Tryz.prog W = .ok (goInt m) (W.setCells w.heap.size (i*2) vs):=λW I8 Q0 ty dc =>
  lQ W _ _ ty 25 w.heap.size (i*2) (n+m-i) dc ⟨vb,vo,none⟩ m vc vs m 2 ts hsz mc hvl
   (λj v hj=>by rw[Addr.add_lit,I8];exact hOv _ v (hvs j v hj))
   (λj hj=>by rw[I8];exact hN _ OC) (λj hj=>by rw[Q0];exact WU _) Bz
 have aa3:G<=9223372036854775807:=by have:=grownCap_le_maxLen w (n+m) c 25 (by unfold maxLen;omega);rw[<- hG]at this;unfold maxLen at this;omega
 have hGi:¬(G=i):=by omega
 have aa4:¬(G=i+m):=by omega
 have hci:¬(c=i):=by omega
 have hbN:b≠w.heap.size:=by omega
 have BA:(cs.drop (i*2)).length=(n-i)*2:=by rw[abp,jJ];omega
 have Q3:∀(W:World),(∀x,W.cell? x=(W1.setCells w.heap.size (i*2) vs).cell? x)->(∀x,W.frozen? x=(W1.setCells w.heap.size (i*2) vs).frozen? x)->∀ty dc sc,(Builtin.copy_ #[23,23] ty #[.slice (some ⟨w.heap.size,(i+m)*2,none⟩) (n+m-(i+m)) dc,.slice (some ⟨b,i*2,none⟩) (n-i) sc]).run Tryz.prog W = .ok (goInt ((n-i:Nat):Int)) (W.setCells w.heap.size ((i+m)*2) (cs.drop (i*2))):=λW I8 Q0 ty dc sc =>
  lQ W _ _ ty 25 w.heap.size ((i+m)*2) (n+m-(i+m)) dc ⟨b,i*2,none⟩ (n-i) sc (cs.drop (i*2)) (n-i) 2 ts hsz mc BA
   (λj v hj=>by
    rw[Addr.add_lit,I8,World.cell?_setCells_out _ _ _ _ _ (λh _=>absurd h hbN)]
    exact hOb _ v (hcs (i*2+j) v Ot))
   (λj hj=>by rw[I8];exact cK (λt ht=>hN _ (by rw[hvl]at ht;omega)) (hN _ q6))
   (λj hj=>by rw[Q0,World.frozen?_setCells];exact WU _) (λv hv=>h1c v (ach hv))
 subst uf;have hE1:∀x,((w.alloc (.cells mT 25)).drew).cell? x=(w.drew.alloc (.cells mT 25)).cell? x:=λx=>rfl;have hE2:∀x,((w.alloc (.cells mT 25)).drew).frozen? x=(w.drew.alloc (.cells mT 25)).frozen? x:=λx=>rfl;have hF1:∀x,(((w.alloc (.cells mT 25)).drew.setCells w.heap.size (i*2) vs).drew).cell? x=((w.drew.alloc (.cells mT 25)).setCells w.heap.size (i*2) vs).cell? x:=λx=>rfl;have hF2:∀x,(((w.alloc (.cells mT 25)).drew.setCells w.heap.size (i*2) vs).drew).frozen? x=((w.drew.alloc (.cells mT 25)).setCells w.heap.size (i*2) vs).frozen? x:=λx=>rfl;have hw1:i64.wrap ((i:Int)+(m:Int))=(i:Int)+(m:Int):=by rw[IntKind.wrap_i64];omega
 have Uh:i64.wrap ((n:Int)+(m:Int))=(n:Int)+(m:Int):=by rw[IntKind.wrap_i64];omega
 have hw3:i64.wrap ((n:Int)+(m:Int)-(i:Int))=(n:Int)+(m:Int)-(i:Int):=by rw[IntKind.wrap_i64];omega
 have Co:(0:Int)<=(i:Int)+(m:Int):=by omega
 have hin:i<=n:=by omega
 have htn:((i:Int)+(m:Int)).toNat=i+m:=by omega
 have hb3:(i:Int)<=(n:Int):=by omega
 clear hkk hik hold Gv hG Q2 WT YI Cp;refine Calls.mono (R:=λe w'=>e = .returned (.slice (some ⟨w.heap.size,0,none⟩) (n+m) G)/\w'=(((w.alloc (.cells mT 25)).drew.setCells w.heap.size (i*2) vs).drew).setCells w.heap.size ((i+m)*2) (cs.drop (i*2))) ?_ ?_;rotate_left;rintro e w' ⟨h1,h2⟩;exact⟨G,mT,hGn,bn,UB,h1,h2⟩;clear UB
 go_enter func147,Tryz.ntmps147
 go_wp2_with (first
  |(at_builtin;refine Lib.wpList_append_run _ rfl _ _ _ _ rfl _ _ rfl rfl _ _ (UA _) ?_)
  |(at_builtin;refine kC _ rfl _ _ 23 23 rfl _ _ rfl rfl (WV _ hE1 hE2 _ _) ?_)
  |(at_builtin;refine kC _ rfl _ _ 23 23 rfl _ _ rfl rfl (Q3 _ (λ_=>rfl) (λ_=>rfl) _ _ _) ?_))
 go_region_law_o (refine sD Z _ _ 23 23 Z (.slice (some ⟨w.heap.size,(i+m)*2,none⟩) (n+m-(i+m)) (G-(i+m))) (.slice (some ⟨b,i*2,none⟩) (n-i) (c-i)) nt nt (Q3 _ hF1 hF2 3 (G-(i+m)) (c-i)) ?_)
 go_wp2
 go_ret
 exact⟨Z,Z⟩
set_option maxHeartbeats 1000000 in
def UC(b n c i vb vo vc:Nat)(cs vs:L Value)(w:World)(hi:i<=n)(hn0:0<n)(hnc:n<=c)(qk:(n+1)*32<=140737488355328)(IT:vb≠b)
  (jJ:cs.length=n*2)(hvl:vs.length=1*2)
  (hcs:∀(j:Nat) v,cs[j]?=some v->w.cell? ⟨b,j,none⟩=some v)(hsp:∀j,j<c*2->(w.cell? ⟨b,j,none⟩).isSome=true)(hfz:∀j,w.frozen? ⟨b,j,none⟩=false)
  (hvs:∀(j:Nat) v,vs[j]?=some v->w.cell? ⟨vb,vo+j,none⟩=some v)(h1c:∀v∈cs,v.oneCell'=true)(Bz:∀v∈vs,v.oneCell'=true) :
  Calls Tryz.prog 147 #[.slice (some ⟨b,0,none⟩) n c,.int .i64 i,.slice (some ⟨vb,vo,none⟩) 1 vc] w λe w' =>
   ∃b' cap',e = .returned (.slice (some ⟨b',0,none⟩) (n+1) cap')/\n+1<=cap'/\N5 w b w' b' (cs.take (i*2)++(vs++cs.drop (i*2))):=by
 have Cp:(cs.take (i*2)).length=i*2:=by rw[abm,jJ];omega
 have YH:b<w.heap.size:=block_lt_of_cell (hcs 0 _ (abe (by rw[jJ];omega)));have kD:∀(j:Nat) u,(cs.take (i*2)++(vs++cs.drop (i*2)))[j]?=some u->(j<i*2/\cs[j]?=some u)\/(i*2<=j/\j<(i+1)*2/\vs[j-i*2]?=some u)\/((i+1)*2<=j/\(cs.drop (i*2))[j-(i+1)*2]?=some u):=by intro j u hj;rw[acA]at hj;split at hj;rename_i h;rw[Cp]at h;rw[acg,if_pos h]at hj;exact .inl ⟨h,hj⟩;rename_i h;rw[Cp]at h hj;rw[acA]at hj;split at hj;rename_i h2;rw[hvl]at h2;exact .inr (.inl ⟨bn,bn,hj⟩);rename_i h2;rw[hvl]at h2 hj;refine .inr (.inr ⟨bn,?_⟩);rwa[show j-(i+1)*2=j-i*2-1*2 by omega]
 have BA:(cs.drop (i*2)).length=(n-i)*2:=by rw[abp,jJ];omega
 by_cases he:i=n
 ·subst he;have Lz:cs.drop (i*2)=[]:=adX bn;by_cases hr:i+1<=c
  ·refine Calls.mono (I9 b i c vb vo 1 vc vs w bn hr hvl hsp hfz hvs Bz) ?_;rintro e w' ⟨h1,rfl⟩;obtain⟨k1,k2,k3,k4,k5⟩:=dQ b vs (i*2) w;refine⟨b,c,h1,hr,⟨k2,k3,k4,bn,.inl Z,λj u hj=>?_,λb2 _ h=>k5 b2 h⟩⟩;have Yj:∀j,j<vs.length->(w.cell? ⟨b,i*2+j,none⟩).isSome=true:=λj hj=>hsp _ bn;rw[dL Yj];rcases kD j u hj with ⟨h,h'⟩|⟨h,h',h2⟩|⟨h,h2⟩
   rw[if_neg bn];exact hcs j u h';rw[if_pos bn];exact h2;rw[Lz]at h2;simp at h2
  refine Calls.mono (Ja b i c vb vo 1 vc cs vs w bn hnc bn qk jJ hvl hcs hvs Bz) ?_;rintro e w' ⟨h1,rfl⟩;refine⟨_,_,h1,grownCap_ge w _ _ _,⟨Z,Z,Z,by simp[World.alloc],.inr (aal _),λj u hj=>?_,λb2 h _=>?_⟩⟩
  ·rw[World.cell?_alloc_at (w:=w.drew) _ _ w.heap.size j rfl];have hjl:j<(cs++vs).length:=by
    rw[aao,jJ,hvl];rcases kD j u hj with ⟨h,h'⟩|⟨h,h',h2⟩|⟨h,h2⟩
    omega;omega;rw[Lz]at h2;simp at h2
   rw[abo (by rw[abT];exact hjl),adj];rw[Lz,aba,acq bn]at hj;exact hj
  show(w.drew.alloc _).heap[b2]?=_;simp only[World.alloc];rw[adb (by exact h)];exact(abv (xs:=w.heap) h).symm
 have hi':i<n:=by omega
 by_cases hr:n+1<=c
 ·refine Calls.mono (Pb b n c i vb vo 1 vc cs vs w hi' bn hr bn IT jJ hvl hcs hsp hfz hvs h1c Bz) ?_;rintro e w' ⟨h1,rfl⟩;obtain⟨k1,k2,k3,k4,k5⟩:=dQ b (cs.drop (i*2)) ((i+1)*2) w.drew;obtain⟨l1,l2,l3,l4,l5⟩:=dQ b vs (i*2) (w.drew.setCells b ((i+1)*2) (cs.drop (i*2)));have rG:∀j,j<(cs.drop (i*2)).length->(w.drew.cell? ⟨b,(i+1)*2+j,none⟩).isSome=true:=λj hj=>hsp _ q6;have oG:∀j,j<vs.length->((w.drew.setCells b ((i+1)*2) (cs.drop (i*2))).cell? ⟨b,i*2+j,none⟩).isSome=true:=λj hj=>cK rG (hsp _ bn);refine⟨b,c,h1,hr,⟨aaA,aaB,aaC,aau,.inl Z,λj u hj=>?_,λb2 _ h=>by rw[l5 b2 h,k5 b2 h];rfl⟩⟩;rw[dL oG,dL rG];rcases kD j u hj with ⟨h,h'⟩|⟨h,h',h2⟩|⟨h,h2⟩
  rw[if_neg bn,if_neg bn];exact hcs j u h';rw[if_pos bn];exact h2;have YJ:j-(i+1)*2<(cs.drop (i*2)).length:=by
   rcases acC (j-(i+1)*2) (cs.drop (i*2)).length with hh|hh
   exact hh;rw[acm hh]at h2;cases h2
  rw[if_neg bn,if_pos bn];exact h2
 refine Calls.mono (Q1 b n c i vb vo 1 vc cs vs w hi' bn hnc bn qk jJ hvl hcs hvs h1c Bz) ?_;rintro e w' ⟨G,mT,hG,hR,UB,h1,rfl⟩;obtain⟨w1,hw1⟩:∃w1,w1=(w.alloc (.cells mT 25)).drew:=⟨_,rfl⟩;have hN:∀j,j<G*2->(w1.cell? ⟨w.heap.size,j,none⟩).isSome=true:=λj hj=>by rw[hw1];show((w.alloc (.cells mT 25)).cell? ⟨w.heap.size,j,none⟩).isSome=true;rw[World.cell?_alloc_at (w:=w) mT _ w.heap.size j Z,abv bn];rfl
 have hC:∀j u,j<i*2->cs[j]?=some u->w1.cell? ⟨w.heap.size,j,none⟩=some u:=λj u hj hu=>by rw[hw1];show(w.alloc (.cells mT 25)).cell? ⟨w.heap.size,j,none⟩=some u;rw[World.cell?_alloc_at (w:=w) mT _ w.heap.size j Z,UB j hj];exact hu
 have hH:∀b2,b2<w.heap.size->w1.heap[b2]?=w.heap[b2]?:=λb2 h=>by rw[hw1];show(w.alloc _).heap[b2]?=_;simp only[World.alloc];rw[adb h];exact(abv (xs:=w.heap) h).symm
 have hS:w1.heap.size=w.heap.size+1:=by rw[hw1];show(w.heap.push _).size=_;rw[Array.size_push]
 have hO:w1.os=w.os/\w1.tape=w.tape/\w1.output=w.output:=by rw[hw1];exact⟨Z,Z,Z⟩
 rw[<- hw1];obtain⟨k1,k2,k3,k4,k5⟩:=dQ w.heap.size vs (i*2) w1;obtain⟨l1,l2,l3,l4,l5⟩:=dQ w.heap.size (cs.drop (i*2)) ((i+1)*2) (w1.setCells w.heap.size (i*2) vs).drew;have rG:∀j,j<vs.length->(w1.cell? ⟨w.heap.size,i*2+j,none⟩).isSome=true:=λj hj=>hN _ bn;have oG:∀j,j<(cs.drop (i*2)).length->((w1.setCells w.heap.size (i*2) vs).drew.cell? ⟨w.heap.size,(i+1)*2+j,none⟩).isSome=true:=λj hj=>by show((w1.setCells w.heap.size (i*2) vs).cell? _).isSome=true;exact cK rG (hN _ q6)
 refine⟨_,_,h1,hG,⟨by rw[l2];exact k2.trans hO.1,by rw[l3];exact k3.trans hO.2.1,by rw[l4];exact k4.trans hO.2.2,by rw[l1];show w.heap.size<=(w1.setCells w.heap.size (i*2) vs).heap.size;rw[k1,hS];omega,.inr (aal _),λj u hj=>?_,λb2 h _=>?_⟩⟩
 ·rw[dL oG];rcases kD j u hj with ⟨h,h'⟩|⟨h,h',h2⟩|⟨h,h2⟩
  rw[if_neg bn];show(w1.setCells w.heap.size (i*2) vs).cell? _=_;rw[dL rG,if_neg bn];exact hC j u h h';rw[if_neg bn];show(w1.setCells w.heap.size (i*2) vs).cell? _=_;rw[dL rG,if_pos bn];exact h2;have YJ:j-(i+1)*2<(cs.drop (i*2)).length:=by
   rcases acC (j-(i+1)*2) (cs.drop (i*2)).length with hh|hh
   exact hh;rw[acm hh]at h2;cases h2
  rw[if_pos bn];exact h2
 rw[l5 b2 bn];show(w1.setCells w.heap.size (i*2) vs).heap[b2]?=_;rw[k5 b2 bn,hH b2 h]
open Go.cB
def kE:∀(l:L Ty)(r:CV),r∈aj l->r.cells.length=2
 |[],r,h=>by simp[aj]at h
 |.mk T us::l,r,h=>by
  simp only[aj,abu]at h;rcases h with rfl|h
  rfl;exact kE l r h
def BQ:∀(l:L Ty),(bB (aj l)).all CV.one=true
 |[]=>rfl
 |.mk T us::l=>by simp only[aj,dA,bB,CV.cells,acT,BQ l,acs];rfl
def ug:∀(n:Nat)(l:L Ty),(aj l).take n=aj (l.take n)
 |0,l=>rfl
 |n+1,[]=>rfl
 |n+1,x::l=>by simp only[aj,adF,ug n l]
attribute [local irreducible] AK ai aR bW
def uh(x:Ty)(l:L Ty)(V:l.length<=1099511627776):nP 60 none [.c (.sl 2 (aj (x::l)))] (.gf 999999 0 2 (l.length+1)) (some (bB (aj (x::l)))):=by
 have h1:=aL l;have K:([]++aj (x::l)).length=l.length+1:=by simp only[aj,acp,aaa,h1]
 have A:((([]:L CV).length)+(aj (x::l)).length)*32<=140737488355328:=by simp only[aj,aaa,aab,h1];omega
 obtain⟨T,us⟩:=x;refine dR.of func60 Z (λargs w=>call60 args w) (abf Z) [(0,.c (.sl 2 (aj (.mk T us::l))))] ⟨[],[],[]⟩ Z Z λβ=>?_;have hf:=func60
 repeat' (first|refine kW ?_|refine ze ?_ ?_|(intro h;first|(cases h;done)|rw[h]|skip)|refine AK.pe rfl ?_ ?_|refine ai.vt hX kn rfl rfl rfl rfl rfl rfl rfl rfl rfl rfl rfl rfl rfl rfl rfl rfl rfl rfl (λh=>by cases h) rfl rfl rfl A rfl K ?_|(refine uA rfl ?_ ?_<;>(try (show(_:Nat)*_<=_;dsimp only))))
 exact AK.WW hX hf Z Z Z
def Jb(s:L Ty)(i:Nat)(C:i<s.length)(hl:s.length<=20000000000):nP 146 (some (bB (aj s))) (.gf 1000000 0 2 s.length::[CV.int .i64 (i:Int),CV.int .i64 ((i+1:Nat):Int)].map AV.c)
  (.c (.sl 2 (aj (s.take i++s.drop (i+1))))) none:=by
 have B:=aL s;have q:(bB (aj s)).length=s.length*2:=by rw[cV (kE s),B]
 have V:bB (aj (s.take i++s.drop (i+1)))=(bB (aj s)).take (i*2)++(bB (aj s)).drop ((i+1)*2):=by rw[jw,dg,sE (kE s) i bn,sF (kE s) (i+1) bn,ug,tZ]
 refine dR.raw (λargs w=>call146 args w) bn (kE _) (BQ _) ?_;intro w G b E vs us hb YK hD K M Y U O A;simp only[bT,Rel]at A;obtain⟨_,_,rfl,rfl,_,_,rfl,rfl,rfl⟩:=A;have W:vs.length=s.length*2:=by rw[nQ K,q]
 have h1:=me K Y;refine⟨vs.take (i*2)++vs.drop ((i+1)*2),by rw[V];exact fu (rH _ K) (rI _ K),?_⟩;have S:∀o,o<E*2->(w.cell? ⟨b,o,none⟩).isSome=true:=λo p=>by obtain⟨u,Q⟩:=(O o).1 p;rw[Q];rfl
 have J:(vs.drop ((i+1)*2)).length=(s.length-(i+1))*2:=by rw[abp,W];omega
 refine Calls.mono (Uz s.length E i b w C U (vs.drop ((i+1)*2)) _ J (λu Q=>h1 u (ach Q)) (λj u T=>M _ u (by rwa[adp]at T)) S (λo=>(O o).2) Z) ?_;rintro e w' ⟨e1,rfl⟩;obtain⟨k1,k2,k3,k4,k5⟩:=dQ b (vs.drop ((i+1)*2)) (i*2) w.drew;generalize P:[Value.int IntKind.i64 0,Value.slice none 0 0]=zs;have hzl:zs.length=2:=by rw[<- P];rfl
 obtain⟨l1,l2,l3,l4,l5⟩:=dQ b zs ((s.length-1)*2) (w.drew.setCells b (i*2) (vs.drop ((i+1)*2)));have I:∀j,j<(vs.drop ((i+1)*2)).length->(w.drew.cell? ⟨b,i*2+j,none⟩).isSome=true:=λj T=>S _ (by rw[J]at T;omega);have oG:∀j,j<zs.length->((w.drew.setCells b (i*2) (vs.drop ((i+1)*2))).cell? ⟨b,(s.length-1)*2+j,none⟩).isSome=true:=λj T=>cK I (S _ bn);have tV:(aj (s.take i++s.drop (i+1))).length=s.length-1:=by rw[aL,aao,abm,abp];omega
 refine⟨b,E,by rw[tV];exact e1,bn,⟨aaA,aaB,aaC,aau,.inl Z,λj u T=>?_,λH _ h=>by rw[l5 H h,k5 H h];rfl⟩⟩;have D:(vs.take (i*2)).length=i*2:=by rw[abm,W];omega
 rw[dL oG,dL I];rw[acA]at T;split at T;rename_i h;rw[D]at h;rw[acg,if_pos h]at T;rw[if_neg bn,if_neg bn];exact M j u T;rename_i h;rw[D]at h T;have YJ:j-i*2<(vs.drop ((i+1)*2)).length:=by
  rcases acC (j-i*2) (vs.drop ((i+1)*2)).length with N|N
  exact N;rw[acm N]at T;cases T
 rw[if_neg bn,if_pos bn];exact T
def Jc(s:L Ty)(x:Ty)(i:Nat)(J:0<s.length)(q:i<=s.length)(hl:s.length<=20000000000):nP 147 (some (bB (aj s))) (.gf 1000000 0 2 s.length::[CV.int .i64 (i:Int),CV.sl 2 (aj [x])].map AV.c)
  (.c (.sl 2 (aj (s.take i++x::s.drop i)))) none:=by
 have p:=aL s;have hc:(bB (aj s)).length=s.length*2:=by rw[cV (kE s),p]
 have P:bB (aj (s.take i++x::s.drop i))=(bB (aj s)).take (i*2)++(bB (aj [x])++(bB (aj s)).drop (i*2)):=by rw[jw,dg,sE (kE s) i bn,sF (kE s) i bn,ug,tZ];simp only[aj,bB,aba]
 refine dR.raw (λargs w=>call147 args w) J (kE _) (BQ _) ?_;intro w G b E vs us hb YK H I iD W U O A;obtain⟨T,ts⟩:=x;simp only[bT,Rel,aj,dA,aaa,aab]at A;obtain⟨_,_,rfl,rfl,_,_,rfl,⟨base,len,vc,rfl,rfl,hvc,Y⟩,rfl⟩:=A;have N:vs.length=s.length*2:=by rw[nQ I,hc]
 have h1:=me I W;have M:∀o,o<E*2->(w.cell? ⟨b,o,none⟩).isSome=true:=λo ho=>by obtain⟨u,hu⟩:=(O o).1 ho;rw[hu];rfl
 rcases Y with Y|⟨D,vo,rfl,Y⟩
 simp at Y;simp only[fE,ou,cW,adi]at Y;obtain⟨⟨⟨S,g1,r1,o1⟩,⟨Q,g2,r2,o2⟩⟩,_⟩:=Y;have IT:D≠b:=λh=>by subst h;rw[YK]at g1;cases g1
 have C:bT G (bB (aj [.mk T ts])) [S,Q]:=by simp only[aj,dA,bB,CV.cells,aba,bT];exact⟨S,_,Z,r1,Q,_,Z,r2,Z⟩
 refine⟨vs.take (i*2)++([S,Q]++vs.drop (i*2)),by rw[P];exact fu (rH _ I) (fu C (rI _ I)),?_⟩;refine Calls.mono (UC b s.length E i D vo vc vs [S,Q] w q J U bn IT N Z iD M (λo=>(O o).2) (λj v K=>?_) h1 (me C (BQ _))) ?_
 ·rcases j with _|_|j
  simp at K;subst K;exact H _ _ _ g1;simp at K;subst K;exact H _ _ _ g2;simp at K
 rintro e w' ⟨b',V,e1,e2,e3⟩;have B:(aj (s.take i++Ty.mk T ts::s.drop i)).length=s.length+1:=by rw[aL,aao,aaa,abm,abp];omega
 exact⟨b',V,by rw[B];exact e1,by rw[B];exact e2,e3⟩
end Go.Proofs
namespace Go.Proofs
open Go.cB
attribute [local irreducible] AK ai aR bW dR gT
def Gw(T:Int)(us:L Ty):fz 147 [.v (.own 2 []),.v (.c (.int .i64 0)),.v (.c (.sl 2 [dA (.mk T us)]))] [.own 2 [dA (.mk T us)]] []:=by
 refine en func147 call147 [(0,.own (.tok 1000000 0) 2 ([])),(1,.c (.int .i64 0)),(2,.c (.sl 2 [dA (.mk T us)]))] [] [(1000000,0)] [1000000] λβ hf=>?_
 repeat' (first|refine kW ?_|refine ze ?_ ?_|(intro h;first|(cases h;done)|rw[h]|skip)|(refine uA Z ?_ ?_<;>(try (show(_:Nat)*_<=_;dsimp only))))
 all_goals first|exact Z|(show _<=_;simp only[aaa,aab];omega)
def N6{s:L Ty}{i:Nat}{t:Ty}(h:s[i]?=some t):s.getD i iY=t:=by rw[abV,h];rfl
def Je(P nN:Int)(nS:L UInt8)(args:L Nd)(types s:L Ty)(hP:40<=P/\P<=44)(hf:br P args=some types)(hs:qj s)(G:s.length<=9999999990) :
  af 122 [aS (.mk 2 nN P nS args),.sl 2 (aj s)] (fL (fZ P args s)):=by
 have O9:P=40\/P=41\/P=42\/P=43\/P=44:=by omega
 clear hP;rcases O9 with rfl|rfl|rfl|rfl|rfl
 ·obtain⟨rfl,rfl⟩:=cM hf rfl;clear hf;rcases s with _|⟨⟨T,us⟩,r⟩
  rw[show fZ 40 [] []=aX 5 from by simp[fZ],cT cc];exact qdw func122 call122;rw[show fZ 40 [] (.mk T us::r)=eB r from by simp[fZ],ep];have el:=wS (aj (.mk T us::r)) 0 tF;have D:=AN r;rw[ep]at D;exact qdw func122 call122
 ·obtain⟨N,p,S,xs,rfl,K,n2,rfl⟩:=Gx hf rfl;clear hf;have E:=aL s;by_cases Y:1<=N;rotate_left;rw[show fZ 41 [.mk 0 N p S xs] s=aX 5 from by unfold fZ;rw[if_neg cc,if_neg cc,if_pos rfl];exact if_neg (λh=>Y h.1),cT cc];have e1:decide (N>=1)=false:=aan Y;exact qdw func122 call122;have e1:decide (N>=1)=true:=aam Y;by_cases c2:N<=s.length;rotate_left;rw[show fZ 41 [.mk 0 N p S xs] s=aX 5 from by unfold fZ;rw[if_neg cc,if_neg cc,if_pos rfl];exact if_neg (λh=>c2 h.2.1),cT cc];have B:decide (N<=(((aj s).length:Nat):Int))=false:=aan bn;exact qdw func122 call122;have B:decide (N<=(((aj s).length:Nat):Int))=true:=aam bn;obtain⟨j,hj⟩:∃j:Nat,N-1=(j:Int):=⟨(N-1).toNat,bn⟩;have M:i64.wrap (N-1)=(j:Int):=by rw[gM bn bn,hj]
  obtain⟨t,A⟩:∃t,s[j]?=some t:=⟨s[j]' bn,c9⟩;have C:=hs t (aap A);have htz:=C.2;have J:=sG t bn;have I:=eZ A;have u:=N6 A;have V:zD ([Nd.mk 0 N p S xs].getD 0 oF)=N:=rfl;have hNj:(N-1).toNat=j:=by omega
  have O:fZ 41 [.mk 0 N p S xs] s=if gT t=true then eB (t::s)else aX 5:=by unfold fZ;rw[if_neg cc,if_neg cc,if_pos Z,V,hNj,u];by_cases W:gT t=true;rw[if_pos ⟨Y,c2,W⟩,if_pos W];rw[if_neg (λh=>W h.2.2),if_neg W]
  rw[O];obtain⟨T,us⟩:=t;cases W:gT (.mk T us)with
  |false =>
   rw[W]at J;rw[if_neg cc,cT cc];refine qn func122 call122 λβ hf=>?_
   repeat' (first|refine kW ?_|refine zc ?_ ?_|(intro h;first|(cases h;done)|rw[h]|skip)|refine uI Z (0) Z (Z) Z ?_|refine uI Z j M I Z ?_|refine uC Z J ?_)
   all_goals first|exact Wk.refl _|exact zz Z Z
  |true =>
   rw[W]at J;have D:=mZ s [.mk T us];rw[ep]at D;rw[if_pos Z,ep];refine qn func122 call122 λβ hf=>?_
   repeat' (first|refine kW ?_|refine zc ?_ ?_|(intro h;first|(cases h;done)|rw[h]|skip)|refine uI Z (0) Z (Z) Z ?_|refine uI Z j M I Z ?_|refine uC Z J ?_|refine uC Z D ?_)
   all_goals first|exact Wk.refl _|exact zz Z Z
 ·obtain⟨rfl,rfl⟩:=cM hf rfl;clear hf;rcases s with _|⟨⟨T,us⟩,_|⟨⟨U,vs⟩,q⟩⟩
  rw[show fZ 42 [] []=aX 5 from by simp[fZ],cT cc];exact qdw func122 call122;rw[show fZ 42 [] [.mk T us]=aX 5 from by simp[fZ],cT cc];exact qdw func122 call122;rw[show fZ 42 [] (.mk T us :: .mk U vs::q)=eB (.mk U vs :: .mk T us::q)from by simp[fZ],ep];have el:=wS (aj (.mk T us :: .mk U vs::q)) 1 tF;have D:=mZ q [.mk U vs,.mk T us];rw[ep]at D;exact qdw func122 call122
 ·obtain⟨N,p,S,xs,rfl,K,n2,rfl⟩:=Gx hf rfl;clear hf;have E:=aL s;obtain⟨j,rfl⟩:=adW K;have V:zD ([Nd.mk 0 (j:Int) p S xs].getD 0 oF)=(j:Int):=rfl;by_cases Y:(j:Int)<s.length;rotate_left;rw[show fZ 43 [.mk 0 j p S xs] s=aX 5 from by unfold fZ;rw[if_neg cc,if_neg cc,if_neg cc,if_pos Z,V];exact if_neg Y,cT cc];have B:decide ((j:Int)<(((aj s).length:Nat):Int))=false:=aan bn;exact qdw func122 call122;have Qy:j<s.length:=by omega
  have B:decide ((j:Int)<(((aj s).length:Nat):Int))=true:=aam bn;obtain⟨t,A⟩:∃t,s[j]?=some t:=⟨s[j],by simp[Qy]⟩;have I:=eZ A
  rw[show fZ 43 [.mk 0 j p S xs] s=eB (t::(s.take j++s.drop (j+1)))from by
   unfold fZ;rw[if_neg cc,if_neg cc,if_neg cc,if_pos Z,V,if_pos Y,Int.toNat_natCast,N6 A],ep]
  have M:i64.wrap ((j:Int)+1)=((j+1:Nat):Int):=by rw[gM bn bn];rfl
  have zF:=Jb s j Qy bn;rw[<- M]at zF;have D:=mZ (s.take j++s.drop (j+1)) [t] Uj;rw[ep]at D;clear A;rcases s with _|⟨a,l⟩
  simp at Qy;have H:=uh a l (by simp only[aaa]at G;omega);obtain⟨T,us⟩:=t;refine qn func122 call122 λβ hf=>?_
  repeat' (first|refine kW ?_|refine zc ?_ ?_|(intro h;first|(cases h;done)|rw[h]|skip)|refine uI Z (0) Z (Z) Z ?_|refine uI Z j Z I Z ?_|refine uC Z D ?_|refine ai.kR kn Z Z Z Z Z Z H Z ?_|refine ai.Gy kn Z Z Z Z Z Z Z zF Z Z ?_)
  all_goals first|exact Wk.refl _|exact zz Z Z
 obtain⟨N,p,S,xs,rfl,K,n2,rfl⟩:=Gx hf rfl;clear hf;have E:=aL s;obtain⟨j,rfl⟩:=adW K;have V:zD ([Nd.mk 0 (j:Int) p S xs].getD 0 oF)=(j:Int):=rfl;rcases s with _|⟨⟨T,us⟩,r⟩
 rw[show fZ 44 [.mk 0 j p S xs] []=aX 5 from by simp[fZ],cT cc];have B:decide ((j:Int)<((([]:L CV).length:Nat):Int))=false:=aan c9;exact qdw func122 call122;have O:fZ 44 [.mk 0 j p S xs] (.mk T us::r)=if(j:Int)<r.length+1 then eB (r.take j ++ .mk T us::r.drop j)else aX 5:=by unfold fZ;rw[if_neg cc,if_neg cc,if_neg cc,if_neg cc,if_pos rfl];simp only[V,Int.toNat_natCast]
 rw[O];simp only[aaa]at G E;by_cases Y:(j:Int)<r.length+1;rotate_left;rw[if_neg Y,cT cc];have B:decide ((j:Int)<(((aj (.mk T us::r)).length:Nat):Int))=false:=aan bn;exact qdw func122 call122;rw[if_pos Y,ep];have B:decide ((j:Int)<(((aj (.mk T us::r)).length:Nat):Int))=true:=aam bn;rcases r with _|⟨a,l⟩
 ·obtain rfl:j=0:=by simp at Y;omega
  have H:=eG [] c9;have Q:=Gw T us;exact qdw func122 call122
 have H:=uh a l (by simp only[aaa]at G;omega);have Q:=Jc (a::l) (.mk T us) j c9 bn (by simp only[aaa]at *;omega);refine qn func122 call122 λβ hf=>?_
 repeat' (first|refine kW ?_|refine zc ?_ ?_|(intro h;first|(cases h;done)|rw[h]|skip)|refine uI Z (0) Z (Z) Z ?_|refine ai.kR kn Z Z Z Z Z Z H Z ?_|refine ai.Gy kn Z Z Z Z Z Z Z Q Z Z ?_)
 all_goals first|exact Wk.refl _|exact zz Z Z
end Go.Proofs
