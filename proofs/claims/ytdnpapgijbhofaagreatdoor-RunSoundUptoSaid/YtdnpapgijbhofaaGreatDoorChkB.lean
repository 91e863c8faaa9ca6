/- What slices.Delete of one row and slices.Insert of one row do to rows  -/
import Derived.Test.YtdnpapgijbhofaaGreatDoorCtx
import Derived.Test.YtdnpapgijbhofaaGreatDoorLibD
import Derived.WalkKit
import Derived.KernelRfl
import Derived.Deep.LoopGhost
import Derived.Deep.RegionLaw
import Derived.Lib.Walk
import Derived.Lib.SliceRun
import Derived.Lib.AppendZeros
import Derived.Laws.IdiomCopy
import Derived.Laws.Externs
import Derived.Shelf.RegionOpenPlain
import Derived.Test.YtdnpapgijbhofaaGreatDoorChk3
open Go.IntKind
open Go.Proofs.Tryz
set_option linter.defProp false
set_option maxHeartbeats 0
set_option linter.unusedVariables false
set_option linter.unusedSimpArgs false
set_option maxRecDepth 100000
namespace Go.Proofs
open Go.RowKit Go.Lib Go.cM
def wT:(Tryz.prog.info? 25).map (λi=>(i.zero,i.size,i.bytes))=some (some (.agg #[.int .i64 0,.slice none 0 0]),2,32):=by kernel_rfl
def Pb:(Builtin.zeroCells (Value.agg #[.int .i64 0,.slice none 0 0]).cells 1).toList=[.int .i64 0,.slice none 0 0]:=by
 simp[Builtin.zeroCells,Value.cells,List.range,List.range.loop]
set_option maxHeartbeats 4000000 in
set_option maxRecDepth 1000000 in
def Si(n cap i b:Nat)(w:World)(hi:i<n)(hcap:n<=cap)(news zs:L Value)(hlen:news.length=(n-(i+1))*2)(h1:∀u∈news,u.oneCell'=true)
  (hn:∀(j:Nat) u,news[j]?=some u->w.cell? ⟨b,(i+1)*2+j,none⟩=some u)(hall:∀o,o<cap*2->(w.cell? ⟨b,o,none⟩).isSome=true)(hfr:∀o,w.frozen? ⟨b,o,none⟩=false)
  (hz:zs=[.int .i64 0,.slice none 0 0]) :
  Calls Tryz.prog 146 #[.slice (some ⟨b,0,none⟩) n cap,.int .i64 i,.int .i64 ((i+1:Nat):Int)] w λe w'=>e = .returned (.slice (some ⟨b,0,none⟩) (n-1) cap)/\w'=(w.drew.setCells b (i*2) news).setCells b ((n-1)*2) zs:=by
 have mixed:=Tryz.mixed;have hlt:i+1<=n:=hi;have hne:¬((i:Int)=((i+1:Nat):Int)):=by omega
 obtain⟨i0,pn,Pc,G9,Ns⟩:=info_parts wT;have ts:=Tryz.underlying23;have hic:i<=cap:=by omega
 have hjc:i+1<=cap:=by omega
 have Dg:(0:Int)<=(i:Int)+1:=by omega
 have OQ:(i:Int)+1<=(n:Int):=by omega
 obtain⟨A,hA,hsrc⟩:∃A:Addr,(if cap=i+1 then(some ⟨b,0,none⟩:Option Addr)else some ⟨b,(i+1)*2,none⟩)=some A/\Hid (∀(t:Nat) u,news[t]?=some u->w.drew.cell? (A.add t)=some u):=by
  by_cases h:cap=i+1
  ·refine⟨⟨b,0,none⟩,ri,λt u hu=>?_⟩;have h0:news.length=0:=by rw[hlen];omega
   rw[List.length_eq_zero_iff.1 h0]at hu;simp at hu
  ·refine⟨⟨b,(i+1)*2,none⟩,ri,λt u hu=>?_⟩;rw[Addr.add_lit];exact hn t u hu
 have s1:Hid (news.length=(n-(i+1))*2):=hlen;have s2:Hid (∀u∈news,u.oneCell'=true):=h1;have s3:Hid (∀t,t<news.length->(w.drew.cell? ⟨b,0+i*2+t,none⟩).isSome=true/\w.drew.frozen? ⟨b,0+i*2+t,none⟩=false):=by
  intro t ht;rw[hlen]at ht;exact⟨hall _ bn,hfr _⟩
 obtain⟨W1,sX⟩:∃W1,W1=w.drew.setCells b (0+i*2) news:=⟨_,rfl⟩
 have ju:∀ty,(Builtin.clear_ #[23] ty #[.slice (some ⟨b,(i+(n-(i+1)))*2,none⟩) (n-(i+(n-(i+1)))) (cap-(i+(n-(i+1))))]).run Tryz.prog W1 = .ok (.tuple #[]) (W1.setCells b ((n-1)*2) zs):=by
  intro ty
  have hst:=run_storeCells_cells (P:=Tryz.prog) b ((n-1)*2) zs 0 W1 (λj hj=>by
    rw[sX,aaL]
    exact cU (λk hk=>by rw[hlen]at hk;exact hall _ bn) (hall _ (by rw[hz]at hj;simp at hj;omega)))
   (λj hj=>by rw[sX,World.frozen?_setCells];exact hfr _) (by rw[hz];simp[Value.oneCell'])
  rw[show n-(i+(n-(i+1)))=1 by omega,show i+(n-(i+1))=n-1 by omega];rw[hz]at hst ⊢;simp only[aaL]at hst;simp[Builtin.clear_,run_underlying ts,Tryz.zeroValue25,Pb,hst]
 have hW:Hid (W1=w.drew.setCells b (0+i*2) news):=sX;clear sX hn hall hfr
 go_enter func146,Tryz.ntmps146
 go_wp2_with fail
 go_region_law_o (refine step_append_room Z (.tmp 22) (.tmp 25) 23 Z 25 i0 2 ts pn G9 b 0 i cap oe A (n-(i+1)) (cap-(i+1)) news oe s1.out hsrc.out s2.out bn s3.out ?_;rw[<- hW.out])
 go_wp2
 go_ret
 have e1:i+(n-(i+1))=n-1:=by omega
 refine⟨by rw[<- e1];rfl,?_⟩;rw[hW.out,hz,ZG]
set_option maxHeartbeats 4000000 in
set_option maxRecDepth 100000 in
def Nt(b n c i vb vo m vc:Nat)(cs vs:L Value)(w:World)(hi:i<n)(hm:0<m)(hroom:n+m<=c)(hnb:n+m<=9000000000000000000)(GO:vb≠b)
  (ju:cs.length=n*2)(hvl:vs.length=m*2)
  (hcs:∀(j:Nat) v,cs[j]?=some v->w.cell? ⟨b,j,none⟩=some v)(hsp:∀j,j<c*2->(w.cell? ⟨b,j,none⟩).isSome=true)(hfz:∀j,w.frozen? ⟨b,j,none⟩=false)
  (hvs:∀(j:Nat) v,vs[j]?=some v->w.cell? ⟨vb,vo+j,none⟩=some v)(h1c:∀v∈cs,v.oneCell'=true)(Aq:∀v∈vs,v.oneCell'=true) :
  Calls Tryz.prog 147 #[.slice (some ⟨b,0,none⟩) n c,.int .i64 i,.slice (some ⟨vb,vo,none⟩) m vc] w λe w' =>
   e = .returned (.slice (some ⟨b,0,none⟩) (n+m) c)/\w'=(w.drew.setCells b ((i+m)*2) (cs.drop (i*2))).setCells b (i*2) vs:=by
 have ts:=Tryz.underlying23;have G9:¬((m:Int)=0):=by omega
 have R1:¬((i:Int)=(n:Int)):=by omega
 have TQ:¬((c:Int)<(n:Int)+(m:Int)):=by omega
 have hsz:(Tryz.prog.info? 25).map (·.size)=some 2:=by kernel_rfl
 obtain⟨v0,Nu⟩:∃v0,w.cell? ⟨vb,vo,none⟩=some v0:=⟨_,hvs 0 _ (Zn Yb)⟩
 obtain⟨u0,Wn⟩:=Option.isSome_iff_exists.1 (hsp ((i+m)*2) bn);have YO:∀lb cb,(callFunc 173 #[.slice (some ⟨vb,vo,none⟩) m vc,.slice (some ⟨b,(i+m)*2,none⟩) lb cb]).run Tryz.prog w = .ok (.value (.bool false)) w:=λlb cb=>by
  rw[run_callFunc_extern func173 (by kernel_rfl) (by kernel_rfl) (by kernel_rfl) (e:=Extern.SlicesOverlaps.overlaps #[23,23] #[4]) (by kernel_rfl),
   qt w 23 4 25 ts 2 Tryz.sizeOf25 ⟨vb,vo,none⟩ ⟨b,(i+m)*2,none⟩ m vc lb cb GO Nu Wn hfz rfl]
  rfl
 have Ar:(cs.drop (i*2)).length=(n-i)*2:=by rw[Z7,ju];omega
 have mixed:=Tryz.mixed;have hw1:i64.wrap ((i:Int)+(m:Int))=(i:Int)+(m:Int):=by rw[IntKind.wrap_i64];omega
 have OR:i64.wrap ((n:Int)+(m:Int))=(n:Int)+(m:Int):=by rw[IntKind.wrap_i64];omega
 have Dg:(0:Int)<=(i:Int)+(m:Int):=by omega
 have hin:i<=n:=by omega
 have htn:((i:Int)+(m:Int)).toNat=i+m:=by omega
 have OQ:¬(c=i+m):=by omega
 have Yf:(i:Int)<=(n:Int)+(m:Int):=by omega
 have Yg:¬(c=i):=by omega
 have Pd:∀ty dc sc,(Builtin.copy_ #[23,23] ty #[.slice (some ⟨b,(i+m)*2,none⟩) (n+m-(i+m)) dc,.slice (some ⟨b,i*2,none⟩) (n+m-i) sc]).run Tryz.prog w.drew = .ok (goInt ((n-i:Nat):Int)) (w.drew.setCells b ((i+m)*2) (cs.drop (i*2))):=λty dc sc =>
  lg w.drew _ _ ty 25 b ((i+m)*2) (n+m-(i+m)) dc ⟨b,i*2,none⟩ (n+m-i) sc (cs.drop (i*2)) (n-i) 2 ts hsz ob Ar
   (λj v hj=>by rw[Addr.add_lit];exact hcs (i*2+j) v PF)
   (λj hj=>hsp _ si) (λj hj=>hfz _) (λv hv=>h1c v (abb hv))
 obtain⟨W1,sX⟩:∃W1,W1=w.drew.setCells b ((i+m)*2) (cs.drop (i*2)):=⟨_,rfl⟩
 have Uy:∀k,k<c*2->(W1.cell? ⟨b,k,none⟩).isSome=true:=λk hk=>by
  rw[sX];exact cU (w:=w.drew) (λj hj=>hsp ((i+m)*2+j) si) (hsp k hk)
 have Uz:∀(W:World),(∀x,W.cell? x=W1.cell? x)->(∀x,W.frozen? x=W1.frozen? x)->∀ty dc,(Builtin.copy_ #[23,23] ty #[.slice (some ⟨b,i*2,none⟩) (n+m-i) dc,.slice (some ⟨vb,vo,none⟩) m vc]).run Tryz.prog W = .ok (goInt m) (W.setCells b (i*2) vs):=λW He Pe ty dc =>
  lg W _ _ ty 25 b (i*2) (n+m-i) dc ⟨vb,vo,none⟩ m vc vs m 2 ts hsz ob hvl
   (λj v hj=>by
    rw[Addr.add_lit,He,sX,World.cell?_setCells_out b _ _ _ _ (λh _=>absurd h GO)]
    exact hvs j v hj)
   (λj hj=>by rw[He];exact Uy _ PZ) (λj hj=>by rw[Pe,sX,World.frozen?_setCells];exact hfz _) Aq
 rw[<- sX]at Pd
 go_enter func147,Tryz.ntmps147
 go_wp2_with (simp only[YO])
 go_region_law_o (refine qX Z _ _ 23 23 Z _ _ oe oe (Pd _ _ _) ?_)
 go_wp2_with (at_builtin;refine jY _ Z _ _ 23 23 Z _ _ Z Z (Uz _ (λ_=>rfl) (λ_=>rfl) _ _) ?_)
 go_ret
 first|exact⟨Z,Z⟩|exact⟨Z,by rw[sX]⟩
set_option maxHeartbeats 4000000 in
set_option maxRecDepth 100000 in
def Hf(b n c vb vo m vc:Nat)(vs:L Value)(w:World)(hm:0<m)(hroom:n+m<=c)
  (hvl:vs.length=m*2)(hsp:∀j,j<c*2->(w.cell? ⟨b,j,none⟩).isSome=true)(hfz:∀j,w.frozen? ⟨b,j,none⟩=false)
  (hvs:∀(j:Nat) v,vs[j]?=some v->w.cell? ⟨vb,vo+j,none⟩=some v)(Aq:∀v∈vs,v.oneCell'=true) :
  Calls Tryz.prog 147 #[.slice (some ⟨b,0,none⟩) n c,.int .i64 n,.slice (some ⟨vb,vo,none⟩) m vc] w λe w' =>
   e = .returned (.slice (some ⟨b,0,none⟩) (n+m) c)/\w'=w.setCells b (n*2) vs:=by
 have ts:=Tryz.underlying23;obtain⟨i0,pn,Pc,hzs,Ns⟩:=info_parts wT;have mixed:=Tryz.mixed;have G9:¬((m:Int)=0):=by omega
 have hap:∀ty,(Builtin.append_ #[23,23] ty #[.slice (some ⟨b,0,none⟩) n c,.slice (some ⟨vb,vo,none⟩) m vc]).run Tryz.prog w = .ok (.slice (some ⟨b,0,none⟩) (n+m) c) (w.setCells b (n*2) vs):=λty=>by
  have:=run_append_room_cells w 23 ty 25 i0 ts pn b 0 n c ⟨vb,vo,none⟩ m vc vs (by rw[hzs];exact hvl) (λj u hj=>by rw[Addr.add_lit];exact hvs j u hj) Aq hroom
   (λj hj=>by rw[hzs];exact hsp _ PZ) (λj hj=>hfz _)
  rw[hzs,ZG]at this;exact this
 go_enter func147,Tryz.ntmps147
 go_wp2_with (at_builtin;refine Lib.wpList_append_run _ Z _ _ _ _ Z _ _ Z Z _ _ (hap _) ?_)
 go_ret
 exact⟨Z,Z⟩
set_option maxHeartbeats 4000000 in
set_option maxRecDepth 100000 in
def Hg(b n c vb vo m vc:Nat)(cs vs:L Value)(w:World)(hm:0<m)(hnc:n<=c)(hroom:c<n+m)(pE:(n+m)*32<=140737488355328)
  (ju:cs.length=n*2)(hvl:vs.length=m*2)
  (hcs:∀(j:Nat) v,cs[j]?=some v->w.cell? ⟨b,j,none⟩=some v)
  (hvs:∀(j:Nat) v,vs[j]?=some v->w.cell? ⟨vb,vo+j,none⟩=some v)(Aq:∀v∈vs,v.oneCell'=true) :
  Calls Tryz.prog 147 #[.slice (some ⟨b,0,none⟩) n c,.int .i64 n,.slice (some ⟨vb,vo,none⟩) m vc] w λe w' =>
   e = .returned (.slice (some ⟨w.heap.size,0,none⟩) (n+m) (grownCap w (n+m) c 25)) /\
   w'=w.drew.alloc (.cells ((cs++vs).toArray++Builtin.zeroCells (Value.agg #[.int .i64 0,.slice none 0 0]).cells (grownCap w (n+m) c 25-(n+m))) 25):=by
 have ts:=Tryz.underlying23;obtain⟨i0,pn,Pc,hzs,Ns⟩:=info_parts wT;have mixed:=Tryz.mixed;have G9:¬((m:Int)=0):=by omega
 have hsrc:Src Tryz.prog i0.size 23 (.slice (some ⟨vb,vo,none⟩) m vc) m vs w:=by
  rw[hzs];exact YJ
 have hold:(Builtin.firstCells i0.size n (.slice (some ⟨b,0,none⟩) n c)).run Tryz.prog w.drew = .ok cs.toArray w.drew:=by
  rw[hzs];exact run_firstCells_some w.drew 2 n ⟨b,0,none⟩ n c cs ju (λj v hj=>by rw[Addr.add_lit,ZG];exact hcs j v hj)
 have hrun:∀ty,(Builtin.append_ #[23,23] ty #[.slice (some ⟨b,0,none⟩) n c,.slice (some ⟨vb,vo,none⟩) m vc]).run Tryz.prog w=_:=λty =>
  run_append_grow_src w 23 23 ty 25 i0 _ ts pn Pc (some ⟨b,0,none⟩) n c cs hold _ m vs hsrc hroom bn (by rw[Ns];exact growslice_fits hroom pE)
 go_enter func147,Tryz.ntmps147
 go_wp2_with (at_builtin;refine Lib.wpList_append_run _ Z _ _ _ _ Z _ _ Z Z _ _ (hrun _) ?_)
 all_goals (go_ret;exact⟨Z,Z⟩)
set_option maxHeartbeats 4000000 in
set_option maxRecDepth 100000 in
def Pf(b n c i vb vo m vc:Nat)(cs vs:L Value)(w:World)(hi:i<n)(hm:0<m)(hnc:n<=c)(hroom:c<n+m)(pE:(n+m)*32<=140737488355328)
  (ju:cs.length=n*2)(hvl:vs.length=m*2)
  (hcs:∀(j:Nat) v,cs[j]?=some v->w.cell? ⟨b,j,none⟩=some v)
  (hvs:∀(j:Nat) v,vs[j]?=some v->w.cell? ⟨vb,vo+j,none⟩=some v)(h1c:∀v∈cs,v.oneCell'=true)(Aq:∀v∈vs,v.oneCell'=true) :
  Calls Tryz.prog 147 #[.slice (some ⟨b,0,none⟩) n c,.int .i64 i,.slice (some ⟨vb,vo,none⟩) m vc] w λe w' =>
   ∃G mm,n+m<=G/\G*2<=mm.size/\(∀j,j<i*2->mm[j]?=cs[j]?)/\e = .returned (.slice (some ⟨w.heap.size,0,none⟩) (n+m) G) /\
   w'=(((w.alloc (.cells mm 25)).drew.setCells w.heap.size (i*2) vs).drew).setCells w.heap.size ((i+m)*2) (cs.drop (i*2)):=by
 have ts:=Tryz.underlying23;have tn:=Tryz.underlying3;have mixed:=Tryz.mixed;obtain⟨i0,pn,Pc,hzs,Ns⟩:=info_parts wT;have G9:¬((m:Int)=0):=by omega
 have R1:¬((i:Int)=(n:Int)):=by omega
 have TQ:(c:Int)<(n:Int)+(m:Int):=by omega
 have hsz:(Tryz.prog.info? 25).map (·.size)=some 2:=by kernel_rfl
 have Wo:b<w.heap.size:=block_lt_of_cell (hcs 0 _ (Zn (by rw[ju];omega)));have YP:vb<w.heap.size:=block_lt_of_cell (hvs 0 _ (Zn Yb));have hkk:(n:Int)+(m:Int)-(i:Int)=((n+m-i:Nat):Int):=by omega
 have hik:i+(n+m-i)=n+m:=by omega
 have Bk:(cs.take (i*2)).length=i*2:=by rw[ZQ,ju];omega
 have hold:(Builtin.firstCells i0.size i (.slice (some ⟨b,0,none⟩) i c)).run Tryz.prog w.drew = .ok (cs.take (i*2)).toArray w.drew:=by
  rw[hzs]
  exact run_firstCells_some w.drew 2 i ⟨b,0,none⟩ i c (cs.take (i*2)) Bk (λj v hj=>by
   rw[Addr.add_lit,ZG];rw[aba]at hj;split at hj
   ·exact hcs j v hj
   ·cases hj)
 obtain⟨ZS,UA⟩:∃ZS,ZS=(Value.agg #[.int .i64 0,.slice none 0 0]).cells:=⟨_,rfl⟩
 have Wp:ZS.size=2:=by rw[UA];rfl
 have Pg:∀k,(Builtin.zeroCells ZS k).size=k*2:=λk=>by simp[Builtin.zeroCells,Wp]
 have Sj:∀ty,(Builtin.append_ #[23,3] ty #[.slice (some ⟨b,0,none⟩) i c,.int .i64 ((n:Int)+(m:Int)-(i:Int))]).run Tryz.prog w =
   .ok (.slice (some ⟨w.heap.size,0,none⟩) (n+m) (grownCap w (n+m) c 25)) (w.drew.alloc (.cells ((cs.take (i*2)).toArray++Builtin.zeroCells ZS (n+m-i)++Builtin.zeroCells ZS (grownCap w (n+m) c 25-(n+m))) 25)):=λty=>by
  have h:=Lib.run_append_grow_zeros w 23 3 ty 25 i0 _ .i64 .i64 ts tn pn Pc (some ⟨b,0,none⟩) i c (cs.take (i*2)) hold (n+m-i) bn bn bn bn (by rw[Ns];omega) (by rw[Ns,hik];exact growslice_fits hroom pE);rw[hik,<- UA]at h;rw[hkk];exact h
 obtain⟨G,hG⟩:∃G,G=grownCap w (n+m) c 25:=⟨_,rfl⟩
 have Yh:n+m<=G:=by rw[hG];exact grownCap_ge w _ _ _
 obtain⟨mm,E8⟩:∃mm:Array Value,mm=(cs.take (i*2)).toArray++Builtin.zeroCells ZS (n+m-i)++Builtin.zeroCells ZS (G-(n+m)):=⟨_,rfl⟩
 rw[<- hG]at Sj;rw[<- E8]at Sj;have hRs:mm.size=G*2:=by
  rw[E8,abd,abd,Pg,Pg,aaR,Bk];omega
 have Sk:∀j,j<i*2->mm[j]?=cs[j]?:=λj hj=>by
  rw[E8,Z4 R4,Z4 (by rw[aaR,Bk];exact hj)];rw[abH,aba,if_pos hj]
 obtain⟨W1,sX⟩:∃W1,W1=w.drew.alloc (.cells mm 25):=⟨_,rfl⟩
 rw[<- sX]at Sj;have hN:∀j,j<G*2->(W1.cell? ⟨w.heap.size,j,none⟩).isSome=true:=λj hj=>by
  rw[sX,World.cell?_alloc_at (w:=w.drew) mm _ w.heap.size j Z,aao bn];rfl
 have UB:∀j,W1.frozen? ⟨w.heap.size,j,none⟩=false:=λj=>by rw[sX];exact World.frozen?_alloc_at (w:=w.drew) mm _ w.heap.size j Z
 have YQ:∀j v,w.cell? ⟨b,j,none⟩=some v->W1.cell? ⟨b,j,none⟩=some v:=λj v h=>by rw[sX,World.cell?_alloc_past (w:=w.drew) _ b j Wo];exact h
 have YR:∀j v,w.cell? ⟨vb,j,none⟩=some v->W1.cell? ⟨vb,j,none⟩=some v:=λj v h=>by rw[sX,World.cell?_alloc_past (w:=w.drew) _ vb j YP];exact h
 have UC:∀(W:World),(∀x,W.cell? x=W1.cell? x)->(∀x,W.frozen? x=W1.frozen? x)->∀ty dc,(Builtin.copy_ #[23,23] ty #[.slice (some ⟨w.heap.size,i*2,none⟩) (n+m-i) dc,.slice (some ⟨vb,vo,none⟩) m vc]).run Tryz.prog W = .ok (goInt m) (W.setCells w.heap.size (i*2) vs):=λW He Pe ty dc =>
  lg W _ _ ty 25 w.heap.size (i*2) (n+m-i) dc ⟨vb,vo,none⟩ m vc vs m 2 ts hsz ob hvl
   (λj v hj=>by rw[Addr.add_lit,He];exact YR _ v (hvs j v hj))
   (λj hj=>by rw[He];exact hN _ PZ) (λj hj=>by rw[Pe];exact UB _) Aq
 have YS:G<=9223372036854775807:=by
  have:=grownCap_le_maxLen w (n+m) c 25 (by unfold maxLen;omega);rw[<- hG]at this;unfold maxLen at this;omega
 have hGi:¬(G=i):=by omega
 have YT:¬(G=i+m):=by omega
 have hci:¬(c=i):=by omega
 have YU:b≠w.heap.size:=by omega
 have Ar:(cs.drop (i*2)).length=(n-i)*2:=by rw[Z7,ju];omega
 have Ph:∀(W:World),(∀x,W.cell? x=(W1.setCells w.heap.size (i*2) vs).cell? x)->(∀x,W.frozen? x=(W1.setCells w.heap.size (i*2) vs).frozen? x)->∀ty dc sc,(Builtin.copy_ #[23,23] ty #[.slice (some ⟨w.heap.size,(i+m)*2,none⟩) (n+m-(i+m)) dc,.slice (some ⟨b,i*2,none⟩) (n-i) sc]).run Tryz.prog W = .ok (goInt ((n-i:Nat):Int)) (W.setCells w.heap.size ((i+m)*2) (cs.drop (i*2))):=λW He Pe ty dc sc =>
  lg W _ _ ty 25 w.heap.size ((i+m)*2) (n+m-(i+m)) dc ⟨b,i*2,none⟩ (n-i) sc (cs.drop (i*2)) (n-i) 2 ts hsz ob Ar
   (λj v hj=>by
    rw[Addr.add_lit,He,World.cell?_setCells_out _ _ _ _ _ (λh _=>absurd h YU)]
    exact YQ _ v (hcs (i*2+j) v PF))
   (λj hj=>by rw[He];exact cU (λt ht=>hN _ (by rw[hvl]at ht;omega)) (hN _ si))
   (λj hj=>by rw[Pe,World.frozen?_setCells];exact UB _) (λv hv=>h1c v (abb hv))
 subst sX;have YV:∀x,((w.alloc (.cells mm 25)).drew).cell? x=(w.drew.alloc (.cells mm 25)).cell? x:=λx=>rfl;have YW:∀x,((w.alloc (.cells mm 25)).drew).frozen? x=(w.drew.alloc (.cells mm 25)).frozen? x:=λx=>rfl;have YX:∀x,(((w.alloc (.cells mm 25)).drew.setCells w.heap.size (i*2) vs).drew).cell? x=((w.drew.alloc (.cells mm 25)).setCells w.heap.size (i*2) vs).cell? x:=λx=>rfl;have YY:∀x,(((w.alloc (.cells mm 25)).drew.setCells w.heap.size (i*2) vs).drew).frozen? x=((w.drew.alloc (.cells mm 25)).setCells w.heap.size (i*2) vs).frozen? x:=λx=>rfl;have hw1:i64.wrap ((i:Int)+(m:Int))=(i:Int)+(m:Int):=by rw[IntKind.wrap_i64];omega
 have OR:i64.wrap ((n:Int)+(m:Int))=(n:Int)+(m:Int):=by rw[IntKind.wrap_i64];omega
 have hw3:i64.wrap ((n:Int)+(m:Int)-(i:Int))=(n:Int)+(m:Int)-(i:Int):=by rw[IntKind.wrap_i64];omega
 have Dg:(0:Int)<=(i:Int)+(m:Int):=by omega
 have hin:i<=n:=by omega
 have htn:((i:Int)+(m:Int)).toNat=i+m:=by omega
 have Yf:(i:Int)<=(n:Int):=by omega
 clear hkk hik hold E8 hG Pg UA Wp Bk;refine Calls.mono (R:=λe w'=>e = .returned (.slice (some ⟨w.heap.size,0,none⟩) (n+m) G)/\w'=(((w.alloc (.cells mm 25)).drew.setCells w.heap.size (i*2) vs).drew).setCells w.heap.size ((i+m)*2) (cs.drop (i*2))) ?_ ?_;rotate_left
 ·rintro e w' ⟨h1,h2⟩;exact⟨G,mm,Yh,bn,Sk,h1,h2⟩
 clear Sk
 go_enter func147,Tryz.ntmps147
 go_wp2_with (first
  |(at_builtin;refine Lib.wpList_append_run _ rfl _ _ _ _ rfl _ _ rfl rfl _ _ (Sj _) ?_)
  |(at_builtin;refine jY _ rfl _ _ 23 23 rfl _ _ rfl rfl (UC _ YV YW _ _) ?_)
  |(at_builtin;refine jY _ rfl _ _ 23 23 rfl _ _ rfl rfl (Ph _ (λ_=>rfl) (λ_=>rfl) _ _ _) ?_))
 go_region_law_o (refine qX Z _ _ 23 23 Z (.slice (some ⟨w.heap.size,(i+m)*2,none⟩) (n+m-(i+m)) (G-(i+m))) (.slice (some ⟨b,i*2,none⟩) (n-i) (c-i)) oe oe (Ph _ YX YY 3 (G-(i+m)) (c-i)) ?_)
 go_wp2
 go_ret
 exact⟨Z,Z⟩
set_option maxHeartbeats 1000000 in
def Sl(b n c i vb vo vc:Nat)(cs vs:L Value)(w:World)(hi:i<=n)(hn0:0<n)(hnc:n<=c)(pE:(n+1)*32<=140737488355328)(GO:vb≠b)
  (ju:cs.length=n*2)(hvl:vs.length=1*2)
  (hcs:∀(j:Nat) v,cs[j]?=some v->w.cell? ⟨b,j,none⟩=some v)(hsp:∀j,j<c*2->(w.cell? ⟨b,j,none⟩).isSome=true)(hfz:∀j,w.frozen? ⟨b,j,none⟩=false)
  (hvs:∀(j:Nat) v,vs[j]?=some v->w.cell? ⟨vb,vo+j,none⟩=some v)(h1c:∀v∈cs,v.oneCell'=true)(Aq:∀v∈vs,v.oneCell'=true) :
  Calls Tryz.prog 147 #[.slice (some ⟨b,0,none⟩) n c,.int .i64 i,.slice (some ⟨vb,vo,none⟩) 1 vc] w λe w' =>
   ∃b' cap',e = .returned (.slice (some ⟨b',0,none⟩) (n+1) cap')/\n+1<=cap'/\LZ w b w' b' (cs.take (i*2)++(vs++cs.drop (i*2))):=by
 have Bk:(cs.take (i*2)).length=i*2:=by rw[ZQ,ju];omega
 have Wo:b<w.heap.size:=block_lt_of_cell (hcs 0 _ (Zn (by rw[ju];omega)));have jB:∀(j:Nat) u,(cs.take (i*2)++(vs++cs.drop (i*2)))[j]?=some u->(j<i*2/\cs[j]?=some u)\/(i*2<=j/\j<(i+1)*2/\vs[j-i*2]?=some u)\/((i+1)*2<=j/\(cs.drop (i*2))[j-(i+1)*2]?=some u):=by
  intro j u hj;rw[abl]at hj;split at hj
  ·rename_i h;rw[Bk]at h;rw[aba,if_pos h]at hj;exact .inl ⟨h,hj⟩
  ·rename_i h;rw[Bk]at h hj;rw[abl]at hj;split at hj
   ·rename_i h2;rw[hvl]at h2;exact .inr (.inl ⟨bn,bn,hj⟩)
   ·rename_i h2;rw[hvl]at h2 hj;refine .inr (.inr ⟨bn,?_⟩);rwa[show j-(i+1)*2=j-i*2-1*2 by omega]
 have Ar:(cs.drop (i*2)).length=(n-i)*2:=by rw[Z7,ju];omega
 by_cases he:i=n
 ·subst he;have JN:cs.drop (i*2)=[]:=acK bn;by_cases hr:i+1<=c
  ·refine Calls.mono (Hf b i c vb vo 1 vc vs w bn hr hvl hsp hfz hvs Aq) ?_;rintro e w' ⟨h1,rfl⟩;obtain⟨k1,k2,k3,k4,k5⟩:=dP b vs (i*2) w;refine⟨b,c,h1,hr,⟨k2,k3,k4,bn,.inl Z,λj u hj=>?_,λb2 _ h=>k5 b2 h⟩⟩;have VY:∀j,j<vs.length->(w.cell? ⟨b,i*2+j,none⟩).isSome=true:=λj hj=>hsp _ bn;rw[dL VY];rcases jB j u hj with ⟨h,h'⟩|⟨h,h',h2⟩|⟨h,h2⟩
   ·rw[if_neg bn];exact hcs j u h'
   ·rw[if_pos bn];exact h2
   ·rw[JN]at h2;simp at h2
  ·refine Calls.mono (Hg b i c vb vo 1 vc cs vs w bn hnc bn pE ju hvl hcs hvs Aq) ?_;rintro e w' ⟨h1,rfl⟩;refine⟨_,_,h1,grownCap_ge w _ _ _,⟨Z,Z,Z,by simp[World.alloc],.inr (aav _),λj u hj=>?_,λb2 h _=>?_⟩⟩
   ·rw[World.cell?_alloc_at (w:=w.drew) _ _ w.heap.size j rfl];have hjl:j<(cs++vs).length:=by
     rw[aay,ju,hvl];rcases jB j u hj with ⟨h,h'⟩|⟨h,h',h2⟩|⟨h,h2⟩
     ·omega
     ·omega
     ·rw[JN]at h2;simp at h2
    rw[Z4 (by rw[aaR];exact hjl),abH];rw[JN,Zc,abj bn]at hj;exact hj
   ·show(w.drew.alloc _).heap[b2]?=_;simp only[World.alloc];rw[abD (by exact h)];exact(aao (xs:=w.heap) h).symm
 ·have hi':i<n:=by omega
  by_cases hr:n+1<=c
  ·refine Calls.mono (Nt b n c i vb vo 1 vc cs vs w hi' bn hr bn GO ju hvl hcs hsp hfz hvs h1c Aq) ?_;rintro e w' ⟨h1,rfl⟩;obtain⟨k1,k2,k3,k4,k5⟩:=dP b (cs.drop (i*2)) ((i+1)*2) w.drew;obtain⟨l1,l2,l3,l4,l5⟩:=dP b vs (i*2) (w.drew.setCells b ((i+1)*2) (cs.drop (i*2)));have qu:∀j,j<(cs.drop (i*2)).length->(w.drew.cell? ⟨b,(i+1)*2+j,none⟩).isSome=true:=λj hj=>hsp _ si;have nI:∀j,j<vs.length->((w.drew.setCells b ((i+1)*2) (cs.drop (i*2))).cell? ⟨b,i*2+j,none⟩).isSome=true:=λj hj=>cU qu (hsp _ bn);refine⟨b,c,h1,hr,⟨Yc,Yd,Ye,XN,.inl Z,λj u hj=>?_,λb2 _ h=>by rw[l5 b2 h,k5 b2 h];rfl⟩⟩;rw[dL nI,dL qu];rcases jB j u hj with ⟨h,h'⟩|⟨h,h',h2⟩|⟨h,h2⟩
   ·rw[if_neg bn,if_neg bn];exact hcs j u h'
   ·rw[if_pos bn];exact h2
   ·have Wq:j-(i+1)*2<(cs.drop (i*2)).length:=by
     rcases abn (j-(i+1)*2) (cs.drop (i*2)).length with hh|hh
     ·exact hh
     ·rw[abh hh]at h2;cases h2
    rw[if_neg bn,if_pos bn];exact h2
  ·refine Calls.mono (Pf b n c i vb vo 1 vc cs vs w hi' bn hnc bn pE ju hvl hcs hvs h1c Aq) ?_;rintro e w' ⟨G,mm,hG,hR,Sk,h1,rfl⟩;obtain⟨w1,hw1⟩:∃w1,w1=(w.alloc (.cells mm 25)).drew:=⟨_,rfl⟩
   have hN:∀j,j<G*2->(w1.cell? ⟨w.heap.size,j,none⟩).isSome=true:=λj hj=>by
    rw[hw1];show((w.alloc (.cells mm 25)).cell? ⟨w.heap.size,j,none⟩).isSome=true;rw[World.cell?_alloc_at (w:=w) mm _ w.heap.size j Z,aao bn];rfl
   have hC:∀j u,j<i*2->cs[j]?=some u->w1.cell? ⟨w.heap.size,j,none⟩=some u:=λj u hj hu=>by
    rw[hw1];show(w.alloc (.cells mm 25)).cell? ⟨w.heap.size,j,none⟩=some u;rw[World.cell?_alloc_at (w:=w) mm _ w.heap.size j Z,Sk j hj];exact hu
   have hH:∀b2,b2<w.heap.size->w1.heap[b2]?=w.heap[b2]?:=λb2 h=>by
    rw[hw1];show(w.alloc _).heap[b2]?=_;simp only[World.alloc];rw[abD h];exact(aao (xs:=w.heap) h).symm
   have hS:w1.heap.size=w.heap.size+1:=by rw[hw1];show(w.heap.push _).size=_;rw[Array.size_push]
   have hO:w1.os=w.os/\w1.tape=w.tape/\w1.output=w.output:=by rw[hw1];exact⟨Z,Z,Z⟩
   rw[<- hw1];obtain⟨k1,k2,k3,k4,k5⟩:=dP w.heap.size vs (i*2) w1;obtain⟨l1,l2,l3,l4,l5⟩:=dP w.heap.size (cs.drop (i*2)) ((i+1)*2) (w1.setCells w.heap.size (i*2) vs).drew;have qu:∀j,j<vs.length->(w1.cell? ⟨w.heap.size,i*2+j,none⟩).isSome=true:=λj hj=>hN _ bn;have nI:∀j,j<(cs.drop (i*2)).length->((w1.setCells w.heap.size (i*2) vs).drew.cell? ⟨w.heap.size,(i+1)*2+j,none⟩).isSome=true:=λj hj=>by
    show((w1.setCells w.heap.size (i*2) vs).cell? _).isSome=true;exact cU qu (hN _ si)
   refine⟨_,_,h1,hG,⟨by rw[l2];exact k2.trans hO.1,by rw[l3];exact k3.trans hO.2.1,by rw[l4];exact k4.trans hO.2.2,by rw[l1];show w.heap.size<=(w1.setCells w.heap.size (i*2) vs).heap.size;rw[k1,hS];omega,.inr (aav _),λj u hj=>?_,λb2 h _=>?_⟩⟩
   ·rw[dL nI];rcases jB j u hj with ⟨h,h'⟩|⟨h,h',h2⟩|⟨h,h2⟩
    ·rw[if_neg bn];show(w1.setCells w.heap.size (i*2) vs).cell? _=_;rw[dL qu,if_neg bn];exact hC j u h h'
    ·rw[if_neg bn];show(w1.setCells w.heap.size (i*2) vs).cell? _=_;rw[dL qu,if_pos bn];exact h2
    ·have Wq:j-(i+1)*2<(cs.drop (i*2)).length:=by
      rcases abn (j-(i+1)*2) (cs.drop (i*2)).length with hh|hh
      ·exact hh
      ·rw[abh hh]at h2;cases h2
     rw[if_pos bn];exact h2
   ·rw[l5 b2 bn];show(w1.setCells w.heap.size (i*2) vs).heap[b2]?=_;rw[k5 b2 bn,hH b2 h]
open Go.cM
def jZ:∀(l:L Ty)(r:CV),r∈au l->r.cells.length=2
 |[],r,h=>by simp[au]at h
 |.mk T us::l,r,h=>by
  simp only[au,ZI]at h;rcases h with rfl|h
  ·rfl
  ·exact jZ l r h
def AG:∀(l:L Ty),(bD (au l)).all CV.one=true
 |[]=>rfl
 |.mk T us::l=>by
  simp only[au,er,bD,CV.cells,abm,AG l,abe];rfl
def sY:∀(n:Nat)(l:L Ty),(au l).take n=au (l.take n)
 |0,l=>rfl
 |n+1,[]=>rfl
 |n+1,x::l=>by simp only[au,abo,sY n l]
attribute [local irreducible] AK ah aZ cx
def sZ(x:Ty)(l:L Ty)(B:l.length<=1099511627776):mZ 60 none [.c (.sl 2 (au (x::l)))] (.fZ 999999 0 2 (l.length+1)) (some (bD (au (x::l)))):=by
 have h1:=aR l;have Y:([]++au (x::l)).length=l.length+1:=by simp only[au,aaV,aac,h1]
 have A:((([]:L CV).length)+(au (x::l)).length)*32<=140737488355328:=by simp only[au,aac,aad,h1];omega
 obtain⟨T,us⟩:=x;refine dV.of func60 Z (λJ w=>call60 J w) (ZD Z) [(0,.c (.sl 2 (au (.mk T us::l))))] ⟨[],[],[]⟩ Z Z λβ=>?_;have hf:=func60
 repeat' (first|refine qU ?_|refine ze ?_ ?_|(intro h;first|(cases h;done)|rw[h]|skip)|refine AK.oh rfl ?_ ?_|refine ah.uq hX kn rfl rfl rfl rfl rfl rfl rfl rfl rfl rfl rfl rfl rfl rfl rfl rfl rfl rfl (λh=>by cases h) rfl rfl rfl A rfl Y ?_|(refine uA rfl ?_ ?_<;>(try (show(_:Nat)*_<=_;dsimp only))))
 exact AK.UD hX hf Z Z Z
def Hh(s:L Ty)(i:Nat)(q:i<s.length)(hl:s.length<=20000000000):mZ 146 (some (bD (au s))) (.fZ 1000000 0 2 s.length::[CV.int .i64 (i:Int),CV.int .i64 ((i+1:Nat):Int)].map AV.c)
  (.c (.sl 2 (au (s.take i++s.drop (i+1))))) none:=by
 have C:=aR s;have p:(bD (au s)).length=s.length*2:=by rw[cZ (jZ s),C]
 have U:bD (au (s.take i++s.drop (i+1)))=(bD (au s)).take (i*2)++(bD (au s)).drop ((i+1)*2):=by
  rw[jj,dr,qY (jZ s) i bn,qZ (jZ s) (i+1) bn,sY,sP]
 refine dV.raw (λJ w=>call146 J w) bn (jZ _) (AG _) ?_;intro w G b D vs us hb Wr gL E O Y V B N;simp only[bI,Rel]at N;obtain⟨_,_,rfl,rfl,_,_,rfl,rfl,rfl⟩:=N;have W:vs.length=s.length*2:=by rw[ng E,p]
 have h1:=lG E Y;refine⟨vs.take (i*2)++vs.drop ((i+1)*2),by rw[U];exact eO (qv _ E) (qw _ E),?_⟩;have P:∀o,o<D*2->(w.cell? ⟨b,o,none⟩).isSome=true:=λo ho=>by
  obtain⟨u,H⟩:=(B o).1 ho;rw[H];rfl
 have M:(vs.drop ((i+1)*2)).length=(s.length-(i+1))*2:=by rw[Z7,W];omega
 refine Calls.mono (Si s.length D i b w q V (vs.drop ((i+1)*2)) _ M (λu H=>h1 u (abb H)) (λj u T=>O _ u (by rwa[abT]at T)) P (λo=>(B o).2) Z) ?_;rintro e w' ⟨e1,rfl⟩;obtain⟨k1,k2,k3,k4,k5⟩:=dP b (vs.drop ((i+1)*2)) (i*2) w.drew;generalize S:[Value.int IntKind.i64 0,Value.slice none 0 0]=zs;have hzl:zs.length=2:=by rw[<- S];rfl
 obtain⟨l1,l2,l3,l4,l5⟩:=dP b zs ((s.length-1)*2) (w.drew.setCells b (i*2) (vs.drop ((i+1)*2)));have K:∀j,j<(vs.drop ((i+1)*2)).length->(w.drew.cell? ⟨b,i*2+j,none⟩).isSome=true:=λj T=>P _ (by rw[M]at T;omega);have nI:∀j,j<zs.length->((w.drew.setCells b (i*2) (vs.drop ((i+1)*2))).cell? ⟨b,(s.length-1)*2+j,none⟩).isSome=true:=λj T=>cU K (P _ bn);have wK:(au (s.take i++s.drop (i+1))).length=s.length-1:=by rw[aR,aay,ZQ,Z7];omega
 refine⟨b,D,by rw[wK];exact e1,bn,⟨Yc,Yd,Ye,XN,.inl Z,λj u T=>?_,λA _ h=>by rw[l5 A h,k5 A h];rfl⟩⟩;have I:(vs.take (i*2)).length=i*2:=by rw[ZQ,W];omega
 rw[dL nI,dL K];rw[abl]at T;split at T
 ·rename_i h;rw[I]at h;rw[aba,if_pos h]at T;rw[if_neg bn,if_neg bn];exact O j u T
 ·rename_i h;rw[I]at h T;have Wq:j-i*2<(vs.drop ((i+1)*2)).length:=by
   rcases abn (j-i*2) (vs.drop ((i+1)*2)).length with Q|Q
   ·exact Q
   ·rw[abh Q]at T;cases T
  rw[if_neg bn,if_pos bn];exact T
def Hi(s:L Ty)(x:Ty)(i:Nat)(p:0<s.length)(A:i<=s.length)(hl:s.length<=20000000000):mZ 147 (some (bD (au s))) (.fZ 1000000 0 2 s.length::[CV.int .i64 (i:Int),CV.sl 2 (au [x])].map AV.c)
  (.c (.sl 2 (au (s.take i++x::s.drop i)))) none:=by
 have z1:=aR s;have hc:(bD (au s)).length=s.length*2:=by rw[cZ (jZ s),z1]
 have O:bD (au (s.take i++x::s.drop i))=(bD (au s)).take (i*2)++(bD (au [x])++(bD (au s)).drop (i*2)):=by
  rw[jj,dr,qY (jZ s) i bn,qZ (jZ s) i bn,sY,sP];simp only[au,bD,Zc]
 refine dV.raw (λD w=>call147 D w) p (jZ _) (AG _) ?_;intro w G b Y vs us hb Wr K E ie W V B I;obtain⟨T,ts⟩:=x;simp only[bI,Rel,au,er,aac,aad]at I;obtain⟨_,_,rfl,rfl,_,_,rfl,⟨base,len,vc,rfl,rfl,hvc,J⟩,rfl⟩:=I;have N:vs.length=s.length*2:=by rw[ng E,hc]
 have h1:=lG E W;have M:∀o,o<Y*2->(w.cell? ⟨b,o,none⟩).isSome=true:=λo ho=>by
  obtain⟨u,hu⟩:=(B o).1 ho;rw[hu];rfl
 rcases J with J|⟨q,vo,rfl,J⟩
 ·simp at J
 simp only[eP,nC,cL,abM]at J;obtain⟨⟨⟨Q,g1,r1,o1⟩,⟨P,g2,r2,o2⟩⟩,_⟩:=J;have GO:q≠b:=λh=>by subst h;rw[Wr]at g1;cases g1
 have H:bI G (bD (au [.mk T ts])) [Q,P]:=by
  simp only[au,er,bD,CV.cells,Zc,bI];exact⟨Q,_,Z,r1,P,_,Z,r2,Z⟩
 refine⟨vs.take (i*2)++([Q,P]++vs.drop (i*2)),by rw[O];exact eO (qv _ E) (eO H (qw _ E)),?_⟩;refine Calls.mono (Sl b s.length Y i q vo vc vs [Q,P] w A p V bn GO N Z ie M (λo=>(B o).2) (λj v U=>?_) h1 (lG H (AG _))) ?_
 ·rcases j with _|_|j
  ·simp at U;subst U;exact K _ _ _ g1
  ·simp at U;subst U;exact K _ _ _ g2
  ·simp at U
 ·rintro e w' ⟨b',S,e1,e2,e3⟩;have C:(au (s.take i++Ty.mk T ts::s.drop i)).length=s.length+1:=by rw[aR,aay,aac,ZQ,Z7];omega
  exact⟨b',S,by rw[C];exact e1,by rw[C];exact e2,e3⟩
end Go.Proofs
namespace Go.Proofs
open Go.cM
attribute [local irreducible] AK ah aZ cx dV kH
def E9(T:Int)(us:L Ty):fA 147 [.v (.own 2 []),.v (.c (.int .i64 0)),.v (.c (.sl 2 [er (.mk T us)]))] [.own 2 [er (.mk T us)]] []:=by
 refine en func147 call147 [(0,.own (.tok 1000000 0) 2 ([])),(1,.c (.int .i64 0)),(2,.c (.sl 2 [er (.mk T us)]))] [] [(1000000,0)] [1000000] λβ hf=>?_
 repeat' (first|refine qU ?_|refine ze ?_ ?_|(intro h;first|(cases h;done)|rw[h]|skip)|(refine uA Z ?_ ?_<;>(try (show(_:Nat)*_<=_;dsimp only))))
 all_goals first|exact Z|(show _<=_;simp only[aac,aad];omega)
def L0{s:L Ty}{i:Nat}{t:Ty}(h:s[i]?=some t):s.getD i kG=t:=by rw[aaS,h];rfl
def Hl(P nN:Int)(nS:L UInt8)(J:L Nd)(G s:L Ty)(hP:40<=P/\P<=44)(hf:bJ P J=some G)(hs:pz s)(B:s.length<=9999999990) :
  aj 122 [aY (.mk 2 nN P nS J),.sl 2 (au s)] (iu (fW P J s)):=by
 have Nr:P=40\/P=41\/P=42\/P=43\/P=44:=by omega
 clear hP;rcases Nr with rfl|rfl|rfl|rfl|rfl
 ·obtain⟨rfl,rfl⟩:=cW hf rfl;clear hf;rcases s with _|⟨⟨T,us⟩,r⟩
  ·rw[show fW 40 [] []=aM 5 from by simp[fW],aA cc];refine qn func122 call122 λβ hf=>?_;exact dw
  ·rw[show fW 40 [] (.mk T us::r)=dX r from by simp[fW],aF];have el:=vH (au (.mk T us::r)) 0 Ao;have D:=iM r;rw[aF]at D;refine qn func122 call122 λβ hf=>?_;exact dw
 ·obtain⟨N,p,S,xs,rfl,M,n2,rfl⟩:=Fa hf rfl;clear hf;have u:=aR s;by_cases Y:1<=N;rotate_left
  ·rw[show fW 41 [.mk 0 N p S xs] s=aM 5 from by unfold fW;rw[if_neg cc,if_neg cc,if_pos rfl];exact if_neg (λh=>Y h.1),aA cc];have e1:decide (N>=1)=false:=aax Y;refine qn func122 call122 λβ hf=>?_;exact dw
  have e1:decide (N>=1)=true:=aaw Y;by_cases c2:N<=s.length;rotate_left
  ·rw[show fW 41 [.mk 0 N p S xs] s=aM 5 from by unfold fW;rw[if_neg cc,if_neg cc,if_pos rfl];exact if_neg (λh=>c2 h.2.1),aA cc];have Q:decide (N<=(((au s).length:Nat):Int))=false:=aax bn;refine qn func122 call122 λβ hf=>?_;exact dw
  have Q:decide (N<=(((au s).length:Nat):Int))=true:=aaw bn;obtain⟨j,hj⟩:∃j:Nat,N-1=(j:Int):=⟨(N-1).toNat,bn⟩
  have K:i64.wrap (N-1)=(j:Int):=by rw[gF bn bn,hj]
  obtain⟨t,I⟩:∃t,s[j]?=some t:=⟨s[j]' bn,ek⟩
  have YZ:=hs t (aaA I);have htz:=YZ.2;have A:=qW t bn;have H:=fB I;have hgd:=L0 I;have O:G4 ([Nd.mk 0 N p S xs].getD 0 qV)=N:=rfl;have hNj:(N-1).toNat=j:=by omega
  have W:fW 41 [.mk 0 N p S xs] s=if kH t=true then dX (t::s)else aM 5:=by
   unfold fW;rw[if_neg cc,if_neg cc,if_pos Z,O,hNj,hgd];by_cases V:kH t=true
   ·rw[if_pos ⟨Y,c2,V⟩,if_pos V]
   ·rw[if_neg (λh=>V h.2.2),if_neg V]
  rw[W];obtain⟨T,us⟩:=t;cases V:kH (.mk T us)with
  |false =>
   rw[V]at A;rw[if_neg cc,aA cc];refine qn func122 call122 λβ hf=>?_
   repeat' (first|refine qU ?_|refine zc ?_ ?_|(intro h;first|(cases h;done)|rw[h]|skip)|refine uI Z (0) Z (Z) Z ?_|refine uI Z j K H Z ?_|refine uC Z A ?_)
   all_goals first|exact Wk.refl _|exact ye Z Z
  |true =>
   rw[V]at A;have D:=bA s [.mk T us];rw[aF]at D;rw[if_pos Z,aF];refine qn func122 call122 λβ hf=>?_
   repeat' (first|refine qU ?_|refine zc ?_ ?_|(intro h;first|(cases h;done)|rw[h]|skip)|refine uI Z (0) Z (Z) Z ?_|refine uI Z j K H Z ?_|refine uC Z A ?_|refine uC Z D ?_)
   all_goals first|exact Wk.refl _|exact ye Z Z
 ·obtain⟨rfl,rfl⟩:=cW hf rfl;clear hf;rcases s with _|⟨⟨T,us⟩,_|⟨⟨U,vs⟩,q⟩⟩
  ·rw[show fW 42 [] []=aM 5 from by simp[fW],aA cc];refine qn func122 call122 λβ hf=>?_;exact dw
  ·rw[show fW 42 [] [.mk T us]=aM 5 from by simp[fW],aA cc];refine qn func122 call122 λβ hf=>?_;exact dw
  ·rw[show fW 42 [] (.mk T us :: .mk U vs::q)=dX (.mk U vs :: .mk T us::q)from by simp[fW],aF];have el:=vH (au (.mk T us :: .mk U vs::q)) 1 Ao;have D:=bA q [.mk U vs,.mk T us];rw[aF]at D;refine qn func122 call122 λβ hf=>?_;exact dw
 ·obtain⟨N,p,S,xs,rfl,M,n2,rfl⟩:=Fa hf rfl;clear hf;have u:=aR s;obtain⟨j,rfl⟩:=acI M;have O:G4 ([Nd.mk 0 (j:Int) p S xs].getD 0 qV)=(j:Int):=rfl;by_cases Y:(j:Int)<s.length;rotate_left
  ·rw[show fW 43 [.mk 0 j p S xs] s=aM 5 from by unfold fW;rw[if_neg cc,if_neg cc,if_neg cc,if_pos Z,O];exact if_neg Y,aA cc];have Q:decide ((j:Int)<(((au s).length:Nat):Int))=false:=aax bn;refine qn func122 call122 λβ hf=>?_;exact dw
  have OS:j<s.length:=by omega
  have Q:decide ((j:Int)<(((au s).length:Nat):Int))=true:=aaw bn;obtain⟨t,I⟩:∃t,s[j]?=some t:=⟨s[j],by simp[OS]⟩
  have H:=fB I
  rw[show fW 43 [.mk 0 j p S xs] s=dX (t::(s.take j++s.drop (j+1)))from by
   unfold fW;rw[if_neg cc,if_neg cc,if_neg cc,if_pos Z,O,if_pos Y,aaB,L0 I],aF]
  have K:i64.wrap ((j:Int)+1)=((j+1:Nat):Int):=by rw[gF bn bn];rfl
  have yl:=Hh s j OS bn;rw[<- K]at yl;have D:=bA (s.take j++s.drop (j+1)) [t] T7;rw[aF]at D;clear I;rcases s with _|⟨a,l⟩
  ·simp at OS
  have C:=sZ a l WH;obtain⟨T,us⟩:=t;refine qn func122 call122 λβ hf=>?_
  repeat' (first|refine qU ?_|refine zc ?_ ?_|(intro h;first|(cases h;done)|rw[h]|skip)|refine uI Z (0) Z (Z) Z ?_|refine uI Z j Z H Z ?_|refine uC Z D ?_|refine ah.kr kn Z Z Z Z Z Z C Z ?_|refine ah.Fb kn Z Z Z Z Z Z Z yl Z Z ?_)
  all_goals first|exact Wk.refl _|exact ye Z Z
 ·obtain⟨N,p,S,xs,rfl,M,n2,rfl⟩:=Fa hf rfl;clear hf;have u:=aR s;obtain⟨j,rfl⟩:=acI M;have O:G4 ([Nd.mk 0 (j:Int) p S xs].getD 0 qV)=(j:Int):=rfl;rcases s with _|⟨⟨T,us⟩,r⟩
  ·rw[show fW 44 [.mk 0 j p S xs] []=aM 5 from by simp[fW],aA cc];have Q:decide ((j:Int)<((([]:L CV).length:Nat):Int))=false:=aax ek;refine qn func122 call122 λβ hf=>?_;exact dw
  have W:fW 44 [.mk 0 j p S xs] (.mk T us::r)=if(j:Int)<r.length+1 then dX (r.take j ++ .mk T us::r.drop j)else aM 5:=by
   unfold fW;rw[if_neg cc,if_neg cc,if_neg cc,if_neg cc,if_pos rfl];simp only[O,aaB]
  rw[W];simp only[aac]at B u;by_cases Y:(j:Int)<r.length+1;rotate_left
  ·rw[if_neg Y,aA cc];have Q:decide ((j:Int)<(((au (.mk T us::r)).length:Nat):Int))=false:=aax bn;refine qn func122 call122 λβ hf=>?_;exact dw
  rw[if_pos Y,aF];have Q:decide ((j:Int)<(((au (.mk T us::r)).length:Nat):Int))=true:=aaw bn;rcases r with _|⟨a,l⟩
  ·obtain rfl:j=0:=by simp at Y;omega
   have C:=eB [] ek;have E:=E9 T us;refine qn func122 call122 λβ hf=>?_;exact dw
  ·have C:=sZ a l WH;have E:=Hi (a::l) (.mk T us) j ek bn (by simp only[aac]at *;omega);refine qn func122 call122 λβ hf=>?_
   repeat' (first|refine qU ?_|refine zc ?_ ?_|(intro h;first|(cases h;done)|rw[h]|skip)|refine uI Z (0) Z (Z) Z ?_|refine ah.kr kn Z Z Z Z Z Z C Z ?_|refine ah.Fb kn Z Z Z Z Z Z Z E Z Z ?_)
   all_goals first|exact Wk.refl _|exact ye Z Z
end Go.Proofs
