/- What slices.Delete of one row and slices.Insert of one row do to rows  -/
import Derived.Test.YtdnpapgijbhofaaGreatDoorCtx
import Derived.Test.YtdnpapgijbhofaaGreatDoorLibD
import Derived.WalkKit
import Derived.KernelRfl
import Derived.Deep.LoopGhost
import Derived.Deep.RegionLaw
import Derived.Lib.Walk
import Derived.Lib.SliceRun
import Derived.Lib.AppendZeros
import Derived.Laws.IdiomCopy
import Derived.Laws.Externs
import Derived.Shelf.RegionOpenPlain
import Derived.Test.YtdnpapgijbhofaaGreatDoorRun3
open Go.IntKind
open Go.Proofs.Tryz
set_option linter.defProp false
set_option maxHeartbeats 0
set_option linter.unusedVariables false
set_option linter.unusedSimpArgs false
set_option maxRecDepth 100000
namespace Go.Proofs
open Go.RowKit Go.Lib Go.cM
def xM:(Tryz.prog.info? 29).map (λi=>(i.zero,i.size,i.bytes))=some (some (.agg #[.int .i64 0,.int .i64 0,.int .i64 0,.string ⟨#[]⟩,.slice none 0 0,.slice none 0 0,.slice none 0 0]),7,112):=by kernel_rfl
def VB:(Value.agg #[.int .i64 0,.int .i64 0,.int .i64 0,.string ⟨#[]⟩,.slice none 0 0,.slice none 0 0,.slice none 0 0]).cells.size=7:=rfl
def Rc:(Builtin.zeroCells (Value.agg #[.int .i64 0,.int .i64 0,.int .i64 0,.string ⟨#[]⟩,.slice none 0 0,.slice none 0 0,.slice none 0 0]).cells 1).toList=[.int .i64 0,.int .i64 0,.int .i64 0,.string ⟨#[]⟩,.slice none 0 0,.slice none 0 0,.slice none 0 0]:=by
 simp[Builtin.zeroCells,Value.cells,List.range,List.range.loop]
set_option maxHeartbeats 4000000 in
set_option maxRecDepth 1000000 in
def Td(n cap i b:Nat)(w:World)(hi:i<n)(hcap:n<=cap)(news zs:L Value)(hlen:news.length=(n-(i+1))*7)(h1:∀u∈news,u.oneCell'=true)
  (hn:∀(j:Nat) u,news[j]?=some u->w.cell? ⟨b,(i+1)*7+j,none⟩=some u)(hall:∀o,o<cap*7->(w.cell? ⟨b,o,none⟩).isSome=true)(hfr:∀o,w.frozen? ⟨b,o,none⟩=false)
  (hz:zs=[.int .i64 0,.int .i64 0,.int .i64 0,.string ⟨#[]⟩,.slice none 0 0,.slice none 0 0,.slice none 0 0]) :
  Calls Tryz.prog 153 #[.slice (some ⟨b,0,none⟩) n cap,.int .i64 i,.int .i64 ((i+1:Nat):Int)] w λe w'=>e = .returned (.slice (some ⟨b,0,none⟩) (n-1) cap)/\w'=(w.drew.setCells b (i*7) news).setCells b ((n-1)*7) zs:=by
 have mixed:=Tryz.mixed;have hlt:i+1<=n:=hi;have hne:¬((i:Int)=((i+1:Nat):Int)):=by omega
 obtain⟨i0,pn,Pc,G9,Ns⟩:=info_parts xM;have ts:=Tryz.underlying27;have hic:i<=cap:=by omega
 have hjc:i+1<=cap:=by omega
 have Dg:(0:Int)<=(i:Int)+1:=by omega
 have OQ:(i:Int)+1<=(n:Int):=by omega
 obtain⟨A,hA,hsrc⟩:∃A:Addr,(if cap=i+1 then(some ⟨b,0,none⟩:Option Addr)else some ⟨b,(i+1)*7,none⟩)=some A/\Hid (∀(t:Nat) u,news[t]?=some u->w.drew.cell? (A.add t)=some u):=by
  by_cases h:cap=i+1
  ·refine⟨⟨b,0,none⟩,ri,λt u hu=>?_⟩;have h0:news.length=0:=by rw[hlen];omega
   rw[List.length_eq_zero_iff.1 h0]at hu;simp at hu
  ·refine⟨⟨b,(i+1)*7,none⟩,ri,λt u hu=>?_⟩;rw[Addr.add_lit];exact hn t u hu
 have s1:Hid (news.length=(n-(i+1))*7):=hlen;have s2:Hid (∀u∈news,u.oneCell'=true):=h1;have s3:Hid (∀t,t<news.length->(w.drew.cell? ⟨b,0+i*7+t,none⟩).isSome=true/\w.drew.frozen? ⟨b,0+i*7+t,none⟩=false):=by
  intro t ht;rw[hlen]at ht;exact⟨hall _ bn,hfr _⟩
 obtain⟨W1,sX⟩:∃W1,W1=w.drew.setCells b (0+i*7) news:=⟨_,rfl⟩
 have ju:∀ty,(Builtin.clear_ #[27] ty #[.slice (some ⟨b,(i+(n-(i+1)))*7,none⟩) (n-(i+(n-(i+1)))) (cap-(i+(n-(i+1))))]).run Tryz.prog W1 = .ok (.tuple #[]) (W1.setCells b ((n-1)*7) zs):=by
  intro ty
  have hst:=run_storeCells_cells (P:=Tryz.prog) b ((n-1)*7) zs 0 W1 (λj hj=>by
    rw[sX,aaL]
    exact cU (λk hk=>by rw[hlen]at hk;exact hall _ bn) (hall _ (by rw[hz]at hj;simp at hj;omega)))
   (λj hj=>by rw[sX,World.frozen?_setCells];exact hfr _) (by rw[hz];simp[Value.oneCell'])
  rw[show n-(i+(n-(i+1)))=1 by omega,show i+(n-(i+1))=n-1 by omega];rw[hz]at hst ⊢;simp only[aaL]at hst;simp[Builtin.clear_,run_underlying ts,Tryz.zeroValue29,Rc,hst]
 have hW:Hid (W1=w.drew.setCells b (0+i*7) news):=sX;clear sX hn hall hfr
 go_enter func153,Tryz.ntmps153
 go_wp2_with fail
 go_region_law_o (refine step_append_room Z (.tmp 22) (.tmp 25) 27 Z 29 i0 7 ts pn G9 b 0 i cap oe A (n-(i+1)) (cap-(i+1)) news oe s1.out hsrc.out s2.out bn s3.out ?_;rw[<- hW.out])
 go_wp2
 go_ret
 have e1:i+(n-(i+1))=n-1:=by omega
 refine⟨by rw[<- e1];rfl,?_⟩;rw[hW.out,hz,ZG]
set_option maxHeartbeats 4000000 in
set_option maxRecDepth 100000 in
def N7(b n c i vb vo m vc:Nat)(cs vs:L Value)(w:World)(hi:i<n)(hm:0<m)(hroom:n+m<=c)(hnb:n+m<=9000000000000000000)(GO:vb≠b)
  (ju:cs.length=n*7)(hvl:vs.length=m*7)
  (hcs:∀(j:Nat) v,cs[j]?=some v->w.cell? ⟨b,j,none⟩=some v)(hsp:∀j,j<c*7->(w.cell? ⟨b,j,none⟩).isSome=true)(hfz:∀j,w.frozen? ⟨b,j,none⟩=false)
  (hvs:∀(j:Nat) v,vs[j]?=some v->w.cell? ⟨vb,vo+j,none⟩=some v)(h1c:∀v∈cs,v.oneCell'=true)(Aq:∀v∈vs,v.oneCell'=true) :
  Calls Tryz.prog 154 #[.slice (some ⟨b,0,none⟩) n c,.int .i64 i,.slice (some ⟨vb,vo,none⟩) m vc] w λe w' =>
   e = .returned (.slice (some ⟨b,0,none⟩) (n+m) c)/\w'=(w.drew.setCells b ((i+m)*7) (cs.drop (i*7))).setCells b (i*7) vs:=by
 have ts:=Tryz.underlying27;have G9:¬((m:Int)=0):=by omega
 have R1:¬((i:Int)=(n:Int)):=by omega
 have TQ:¬((c:Int)<(n:Int)+(m:Int)):=by omega
 have hsz:(Tryz.prog.info? 29).map (·.size)=some 7:=by kernel_rfl
 obtain⟨v0,Nu⟩:∃v0,w.cell? ⟨vb,vo,none⟩=some v0:=⟨_,hvs 0 _ (Zn Yb)⟩
 obtain⟨u0,Wn⟩:=Option.isSome_iff_exists.1 (hsp ((i+m)*7) bn);have YO:∀lb cb,(callFunc 175 #[.slice (some ⟨vb,vo,none⟩) m vc,.slice (some ⟨b,(i+m)*7,none⟩) lb cb]).run Tryz.prog w = .ok (.value (.bool false)) w:=λlb cb=>by
  rw[run_callFunc_extern func175 (by kernel_rfl) (by kernel_rfl) (by kernel_rfl) (e:=Extern.SlicesOverlaps.overlaps #[27,27] #[4]) (by kernel_rfl),
   qt w 27 4 29 ts 7 Tryz.sizeOf29 ⟨vb,vo,none⟩ ⟨b,(i+m)*7,none⟩ m vc lb cb GO Nu Wn hfz rfl]
  rfl
 have Ar:(cs.drop (i*7)).length=(n-i)*7:=by rw[Z7,ju];omega
 have mixed:=Tryz.mixed;have hw1:i64.wrap ((i:Int)+(m:Int))=(i:Int)+(m:Int):=by rw[IntKind.wrap_i64];omega
 have OR:i64.wrap ((n:Int)+(m:Int))=(n:Int)+(m:Int):=by rw[IntKind.wrap_i64];omega
 have Dg:(0:Int)<=(i:Int)+(m:Int):=by omega
 have hin:i<=n:=by omega
 have htn:((i:Int)+(m:Int)).toNat=i+m:=by omega
 have OQ:¬(c=i+m):=by omega
 have Yf:(i:Int)<=(n:Int)+(m:Int):=by omega
 have Yg:¬(c=i):=by omega
 have Pd:∀ty dc sc,(Builtin.copy_ #[27,27] ty #[.slice (some ⟨b,(i+m)*7,none⟩) (n+m-(i+m)) dc,.slice (some ⟨b,i*7,none⟩) (n+m-i) sc]).run Tryz.prog w.drew = .ok (goInt ((n-i:Nat):Int)) (w.drew.setCells b ((i+m)*7) (cs.drop (i*7))):=λty dc sc =>
  lg w.drew _ _ ty 29 b ((i+m)*7) (n+m-(i+m)) dc ⟨b,i*7,none⟩ (n+m-i) sc (cs.drop (i*7)) (n-i) 7 ts hsz ob Ar
   (λj v hj=>by rw[Addr.add_lit];exact hcs (i*7+j) v PF)
   (λj hj=>hsp _ si) (λj hj=>hfz _) (λv hv=>h1c v (abb hv))
 obtain⟨W1,sX⟩:∃W1,W1=w.drew.setCells b ((i+m)*7) (cs.drop (i*7)):=⟨_,rfl⟩
 have Uy:∀k,k<c*7->(W1.cell? ⟨b,k,none⟩).isSome=true:=λk hk=>by
  rw[sX];exact cU (w:=w.drew) (λj hj=>hsp ((i+m)*7+j) si) (hsp k hk)
 have Uz:∀(W:World),(∀x,W.cell? x=W1.cell? x)->(∀x,W.frozen? x=W1.frozen? x)->∀ty dc,(Builtin.copy_ #[27,27] ty #[.slice (some ⟨b,i*7,none⟩) (n+m-i) dc,.slice (some ⟨vb,vo,none⟩) m vc]).run Tryz.prog W = .ok (goInt m) (W.setCells b (i*7) vs):=λW He Pe ty dc =>
  lg W _ _ ty 29 b (i*7) (n+m-i) dc ⟨vb,vo,none⟩ m vc vs m 7 ts hsz ob hvl
   (λj v hj=>by
    rw[Addr.add_lit,He,sX,World.cell?_setCells_out b _ _ _ _ (λh _=>absurd h GO)]
    exact hvs j v hj)
   (λj hj=>by rw[He];exact Uy _ PZ) (λj hj=>by rw[Pe,sX,World.frozen?_setCells];exact hfz _) Aq
 rw[<- sX]at Pd
 go_enter func154,Tryz.ntmps154
 go_wp2_with (simp only[YO])
 go_region_law_o (refine qX Z _ _ 27 27 Z _ _ oe oe (Pd _ _ _) ?_)
 go_wp2_with (at_builtin;refine jY _ Z _ _ 27 27 Z _ _ Z Z (Uz _ (λ_=>rfl) (λ_=>rfl) _ _) ?_)
 go_ret
 first|exact⟨Z,Z⟩|exact⟨Z,by rw[sX]⟩
set_option maxHeartbeats 4000000 in
set_option maxRecDepth 100000 in
def IC(b n c vb vo m vc:Nat)(vs:L Value)(w:World)(hm:0<m)(hroom:n+m<=c)
  (hvl:vs.length=m*7)(hsp:∀j,j<c*7->(w.cell? ⟨b,j,none⟩).isSome=true)(hfz:∀j,w.frozen? ⟨b,j,none⟩=false)
  (hvs:∀(j:Nat) v,vs[j]?=some v->w.cell? ⟨vb,vo+j,none⟩=some v)(Aq:∀v∈vs,v.oneCell'=true) :
  Calls Tryz.prog 154 #[.slice (some ⟨b,0,none⟩) n c,.int .i64 n,.slice (some ⟨vb,vo,none⟩) m vc] w λe w' =>
   e = .returned (.slice (some ⟨b,0,none⟩) (n+m) c)/\w'=w.setCells b (n*7) vs:=by
 have ts:=Tryz.underlying27;obtain⟨i0,pn,Pc,hzs,Ns⟩:=info_parts xM;have mixed:=Tryz.mixed;have G9:¬((m:Int)=0):=by omega
 have hap:∀ty,(Builtin.append_ #[27,27] ty #[.slice (some ⟨b,0,none⟩) n c,.slice (some ⟨vb,vo,none⟩) m vc]).run Tryz.prog w = .ok (.slice (some ⟨b,0,none⟩) (n+m) c) (w.setCells b (n*7) vs):=λty=>by
  have:=run_append_room_cells w 27 ty 29 i0 ts pn b 0 n c ⟨vb,vo,none⟩ m vc vs (by rw[hzs];exact hvl) (λj u hj=>by rw[Addr.add_lit];exact hvs j u hj) Aq hroom
   (λj hj=>by rw[hzs];exact hsp _ PZ) (λj hj=>hfz _)
  rw[hzs,ZG]at this;exact this
 go_enter func154,Tryz.ntmps154
 go_wp2_with (at_builtin;refine Lib.wpList_append_run _ Z _ _ _ _ Z _ _ Z Z _ _ (hap _) ?_)
 go_ret
 exact⟨Z,Z⟩
set_option maxHeartbeats 4000000 in
set_option maxRecDepth 100000 in
def ID(b n c vb vo m vc:Nat)(cs vs:L Value)(w:World)(hm:0<m)(hnc:n<=c)(hroom:c<n+m)(pE:(n+m)*112<=140737488355328)
  (ju:cs.length=n*7)(hvl:vs.length=m*7)
  (hcs:∀(j:Nat) v,cs[j]?=some v->w.cell? ⟨b,j,none⟩=some v)
  (hvs:∀(j:Nat) v,vs[j]?=some v->w.cell? ⟨vb,vo+j,none⟩=some v)(Aq:∀v∈vs,v.oneCell'=true) :
  Calls Tryz.prog 154 #[.slice (some ⟨b,0,none⟩) n c,.int .i64 n,.slice (some ⟨vb,vo,none⟩) m vc] w λe w' =>
   e = .returned (.slice (some ⟨w.heap.size,0,none⟩) (n+m) (grownCap w (n+m) c 29)) /\
   w'=w.drew.alloc (.cells ((cs++vs).toArray++Builtin.zeroCells (Value.agg #[.int .i64 0,.int .i64 0,.int .i64 0,.string ⟨#[]⟩,.slice none 0 0,.slice none 0 0,.slice none 0 0]).cells (grownCap w (n+m) c 29-(n+m))) 29):=by
 have ts:=Tryz.underlying27;obtain⟨i0,pn,Pc,hzs,Ns⟩:=info_parts xM;have mixed:=Tryz.mixed;have G9:¬((m:Int)=0):=by omega
 have hsrc:Src Tryz.prog i0.size 27 (.slice (some ⟨vb,vo,none⟩) m vc) m vs w:=by
  rw[hzs];exact YJ
 have hold:(Builtin.firstCells i0.size n (.slice (some ⟨b,0,none⟩) n c)).run Tryz.prog w.drew = .ok cs.toArray w.drew:=by
  rw[hzs];exact run_firstCells_some w.drew 7 n ⟨b,0,none⟩ n c cs ju (λj v hj=>by rw[Addr.add_lit,ZG];exact hcs j v hj)
 have hrun:∀ty,(Builtin.append_ #[27,27] ty #[.slice (some ⟨b,0,none⟩) n c,.slice (some ⟨vb,vo,none⟩) m vc]).run Tryz.prog w=_:=λty =>
  run_append_grow_src w 27 27 ty 29 i0 _ ts pn Pc (some ⟨b,0,none⟩) n c cs hold _ m vs hsrc hroom bn (by rw[Ns];exact growslice_fits hroom pE)
 go_enter func154,Tryz.ntmps154
 go_wp2_with (at_builtin;refine Lib.wpList_append_run _ Z _ _ _ _ Z _ _ Z Z _ _ (hrun _) ?_)
 all_goals (go_ret;exact⟨Z,Z⟩)
set_option maxHeartbeats 4000000 in
set_option maxRecDepth 100000 in
def Re(b n c i vb vo m vc:Nat)(cs vs:L Value)(w:World)(hi:i<n)(hm:0<m)(hnc:n<=c)(hroom:c<n+m)(pE:(n+m)*112<=140737488355328)
  (ju:cs.length=n*7)(hvl:vs.length=m*7)
  (hcs:∀(j:Nat) v,cs[j]?=some v->w.cell? ⟨b,j,none⟩=some v)
  (hvs:∀(j:Nat) v,vs[j]?=some v->w.cell? ⟨vb,vo+j,none⟩=some v)(h1c:∀v∈cs,v.oneCell'=true)(Aq:∀v∈vs,v.oneCell'=true) :
  Calls Tryz.prog 154 #[.slice (some ⟨b,0,none⟩) n c,.int .i64 i,.slice (some ⟨vb,vo,none⟩) m vc] w λe w' =>
   ∃G mm,n+m<=G/\G*7<=mm.size/\(∀j,j<i*7->mm[j]?=cs[j]?)/\e = .returned (.slice (some ⟨w.heap.size,0,none⟩) (n+m) G) /\
   w'=(((w.alloc (.cells mm 29)).drew.setCells w.heap.size (i*7) vs).drew).setCells w.heap.size ((i+m)*7) (cs.drop (i*7)):=by
 have ts:=Tryz.underlying27;have tn:=Tryz.underlying3;have mixed:=Tryz.mixed;obtain⟨i0,pn,Pc,hzs,Ns⟩:=info_parts xM;have G9:¬((m:Int)=0):=by omega
 have R1:¬((i:Int)=(n:Int)):=by omega
 have TQ:(c:Int)<(n:Int)+(m:Int):=by omega
 have hsz:(Tryz.prog.info? 29).map (·.size)=some 7:=by kernel_rfl
 have Wo:b<w.heap.size:=block_lt_of_cell (hcs 0 _ (Zn (by rw[ju];omega)));have YP:vb<w.heap.size:=block_lt_of_cell (hvs 0 _ (Zn Yb));have hkk:(n:Int)+(m:Int)-(i:Int)=((n+m-i:Nat):Int):=by omega
 have hik:i+(n+m-i)=n+m:=by omega
 have Bk:(cs.take (i*7)).length=i*7:=by rw[ZQ,ju];omega
 have hold:(Builtin.firstCells i0.size i (.slice (some ⟨b,0,none⟩) i c)).run Tryz.prog w.drew = .ok (cs.take (i*7)).toArray w.drew:=by
  rw[hzs]
  exact run_firstCells_some w.drew 7 i ⟨b,0,none⟩ i c (cs.take (i*7)) Bk (λj v hj=>by
   rw[Addr.add_lit,ZG];rw[aba]at hj;split at hj
   ·exact hcs j v hj
   ·cases hj)
 obtain⟨ZS,UA⟩:∃ZS,ZS=(Value.agg #[.int .i64 0,.int .i64 0,.int .i64 0,.string ⟨#[]⟩,.slice none 0 0,.slice none 0 0,.slice none 0 0]).cells:=⟨_,rfl⟩
 have Wp:ZS.size=7:=by rw[UA];rfl
 have Pg:∀k,(Builtin.zeroCells ZS k).size=k*7:=λk=>by simp[Builtin.zeroCells,Wp]
 have Sj:∀ty,(Builtin.append_ #[27,3] ty #[.slice (some ⟨b,0,none⟩) i c,.int .i64 ((n:Int)+(m:Int)-(i:Int))]).run Tryz.prog w =
   .ok (.slice (some ⟨w.heap.size,0,none⟩) (n+m) (grownCap w (n+m) c 29)) (w.drew.alloc (.cells ((cs.take (i*7)).toArray++Builtin.zeroCells ZS (n+m-i)++Builtin.zeroCells ZS (grownCap w (n+m) c 29-(n+m))) 29)):=λty=>by
  have h:=Lib.run_append_grow_zeros w 27 3 ty 29 i0 _ .i64 .i64 ts tn pn Pc (some ⟨b,0,none⟩) i c (cs.take (i*7)) hold (n+m-i) bn bn bn bn (by rw[Ns];omega) (by rw[Ns,hik];exact growslice_fits hroom pE);rw[hik,<- UA]at h;rw[hkk];exact h
 obtain⟨G,hG⟩:∃G,G=grownCap w (n+m) c 29:=⟨_,rfl⟩
 have Yh:n+m<=G:=by rw[hG];exact grownCap_ge w _ _ _
 obtain⟨mm,E8⟩:∃mm:Array Value,mm=(cs.take (i*7)).toArray++Builtin.zeroCells ZS (n+m-i)++Builtin.zeroCells ZS (G-(n+m)):=⟨_,rfl⟩
 rw[<- hG]at Sj;rw[<- E8]at Sj;have hRs:mm.size=G*7:=by
  rw[E8,abd,abd,Pg,Pg,aaR,Bk];omega
 have Sk:∀j,j<i*7->mm[j]?=cs[j]?:=λj hj=>by
  rw[E8,Z4 R4,Z4 (by rw[aaR,Bk];exact hj)];rw[abH,aba,if_pos hj]
 obtain⟨W1,sX⟩:∃W1,W1=w.drew.alloc (.cells mm 29):=⟨_,rfl⟩
 rw[<- sX]at Sj;have hN:∀j,j<G*7->(W1.cell? ⟨w.heap.size,j,none⟩).isSome=true:=λj hj=>by
  rw[sX,World.cell?_alloc_at (w:=w.drew) mm _ w.heap.size j Z,aao bn];rfl
 have UB:∀j,W1.frozen? ⟨w.heap.size,j,none⟩=false:=λj=>by rw[sX];exact World.frozen?_alloc_at (w:=w.drew) mm _ w.heap.size j Z
 have YQ:∀j v,w.cell? ⟨b,j,none⟩=some v->W1.cell? ⟨b,j,none⟩=some v:=λj v h=>by rw[sX,World.cell?_alloc_past (w:=w.drew) _ b j Wo];exact h
 have YR:∀j v,w.cell? ⟨vb,j,none⟩=some v->W1.cell? ⟨vb,j,none⟩=some v:=λj v h=>by rw[sX,World.cell?_alloc_past (w:=w.drew) _ vb j YP];exact h
 have UC:∀(W:World),(∀x,W.cell? x=W1.cell? x)->(∀x,W.frozen? x=W1.frozen? x)->∀ty dc,(Builtin.copy_ #[27,27] ty #[.slice (some ⟨w.heap.size,i*7,none⟩) (n+m-i) dc,.slice (some ⟨vb,vo,none⟩) m vc]).run Tryz.prog W = .ok (goInt m) (W.setCells w.heap.size (i*7) vs):=λW He Pe ty dc =>
  lg W _ _ ty 29 w.heap.size (i*7) (n+m-i) dc ⟨vb,vo,none⟩ m vc vs m 7 ts hsz ob hvl
   (λj v hj=>by rw[Addr.add_lit,He];exact YR _ v (hvs j v hj))
   (λj hj=>by rw[He];exact hN _ PZ) (λj hj=>by rw[Pe];exact UB _) Aq
 have YS:G<=9223372036854775807:=by
  have:=grownCap_le_maxLen w (n+m) c 29 (by unfold maxLen;omega);rw[<- hG]at this;unfold maxLen at this;omega
 have hGi:¬(G=i):=by omega
 have YT:¬(G=i+m):=by omega
 have hci:¬(c=i):=by omega
 have YU:b≠w.heap.size:=by omega
 have Ar:(cs.drop (i*7)).length=(n-i)*7:=by rw[Z7,ju];omega
 have Ph:∀(W:World),(∀x,W.cell? x=(W1.setCells w.heap.size (i*7) vs).cell? x)->(∀x,W.frozen? x=(W1.setCells w.heap.size (i*7) vs).frozen? x)->∀ty dc sc,(Builtin.copy_ #[27,27] ty #[.slice (some ⟨w.heap.size,(i+m)*7,none⟩) (n+m-(i+m)) dc,.slice (some ⟨b,i*7,none⟩) (n-i) sc]).run Tryz.prog W = .ok (goInt ((n-i:Nat):Int)) (W.setCells w.heap.size ((i+m)*7) (cs.drop (i*7))):=λW He Pe ty dc sc =>
  lg W _ _ ty 29 w.heap.size ((i+m)*7) (n+m-(i+m)) dc ⟨b,i*7,none⟩ (n-i) sc (cs.drop (i*7)) (n-i) 7 ts hsz ob Ar
   (λj v hj=>by
    rw[Addr.add_lit,He,World.cell?_setCells_out _ _ _ _ _ (λh _=>absurd h YU)]
    exact YQ _ v (hcs (i*7+j) v PF))
   (λj hj=>by rw[He];exact cU (λt ht=>hN _ (by rw[hvl]at ht;omega)) (hN _ si))
   (λj hj=>by rw[Pe,World.frozen?_setCells];exact UB _) (λv hv=>h1c v (abb hv))
 subst sX;have YV:∀x,((w.alloc (.cells mm 29)).drew).cell? x=(w.drew.alloc (.cells mm 29)).cell? x:=λx=>rfl;have YW:∀x,((w.alloc (.cells mm 29)).drew).frozen? x=(w.drew.alloc (.cells mm 29)).frozen? x:=λx=>rfl;have YX:∀x,(((w.alloc (.cells mm 29)).drew.setCells w.heap.size (i*7) vs).drew).cell? x=((w.drew.alloc (.cells mm 29)).setCells w.heap.size (i*7) vs).cell? x:=λx=>rfl;have YY:∀x,(((w.alloc (.cells mm 29)).drew.setCells w.heap.size (i*7) vs).drew).frozen? x=((w.drew.alloc (.cells mm 29)).setCells w.heap.size (i*7) vs).frozen? x:=λx=>rfl;have hw1:i64.wrap ((i:Int)+(m:Int))=(i:Int)+(m:Int):=by rw[IntKind.wrap_i64];omega
 have OR:i64.wrap ((n:Int)+(m:Int))=(n:Int)+(m:Int):=by rw[IntKind.wrap_i64];omega
 have hw3:i64.wrap ((n:Int)+(m:Int)-(i:Int))=(n:Int)+(m:Int)-(i:Int):=by rw[IntKind.wrap_i64];omega
 have Dg:(0:Int)<=(i:Int)+(m:Int):=by omega
 have hin:i<=n:=by omega
 have htn:((i:Int)+(m:Int)).toNat=i+m:=by omega
 have Yf:(i:Int)<=(n:Int):=by omega
 clear hkk hik hold E8 hG Pg UA Wp Bk;refine Calls.mono (R:=λe w'=>e = .returned (.slice (some ⟨w.heap.size,0,none⟩) (n+m) G)/\w'=(((w.alloc (.cells mm 29)).drew.setCells w.heap.size (i*7) vs).drew).setCells w.heap.size ((i+m)*7) (cs.drop (i*7))) ?_ ?_;rotate_left
 ·rintro e w' ⟨h1,h2⟩;exact⟨G,mm,Yh,bn,Sk,h1,h2⟩
 clear Sk
 go_enter func154,Tryz.ntmps154
 go_wp2_with (first
  |(at_builtin;refine Lib.wpList_append_run _ rfl _ _ _ _ rfl _ _ rfl rfl _ _ (Sj _) ?_)
  |(at_builtin;refine jY _ rfl _ _ 27 27 rfl _ _ rfl rfl (UC _ YV YW _ _) ?_)
  |(at_builtin;refine jY _ rfl _ _ 27 27 rfl _ _ rfl rfl (Ph _ (λ_=>rfl) (λ_=>rfl) _ _ _) ?_))
 go_region_law_o (refine qX Z _ _ 27 27 Z (.slice (some ⟨w.heap.size,(i+m)*7,none⟩) (n+m-(i+m)) (G-(i+m))) (.slice (some ⟨b,i*7,none⟩) (n-i) (c-i)) oe oe (Ph _ YX YY 3 (G-(i+m)) (c-i)) ?_)
 go_wp2
 go_ret
 exact⟨Z,Z⟩
set_option maxHeartbeats 1000000 in
def Te(b n c i vb vo vc:Nat)(cs vs:L Value)(w:World)(hi:i<=n)(hn0:0<n)(hnc:n<=c)(pE:(n+1)*112<=140737488355328)(GO:vb≠b)
  (ju:cs.length=n*7)(hvl:vs.length=1*7)
  (hcs:∀(j:Nat) v,cs[j]?=some v->w.cell? ⟨b,j,none⟩=some v)(hsp:∀j,j<c*7->(w.cell? ⟨b,j,none⟩).isSome=true)(hfz:∀j,w.frozen? ⟨b,j,none⟩=false)
  (hvs:∀(j:Nat) v,vs[j]?=some v->w.cell? ⟨vb,vo+j,none⟩=some v)(h1c:∀v∈cs,v.oneCell'=true)(Aq:∀v∈vs,v.oneCell'=true) :
  Calls Tryz.prog 154 #[.slice (some ⟨b,0,none⟩) n c,.int .i64 i,.slice (some ⟨vb,vo,none⟩) 1 vc] w λe w' =>
   ∃b' cap',e = .returned (.slice (some ⟨b',0,none⟩) (n+1) cap')/\n+1<=cap'/\LZ w b w' b' (cs.take (i*7)++(vs++cs.drop (i*7)))/\∀o,(o<cap'*7->(w'.cell? ⟨b',o,none⟩).isSome=true)/\w'.frozen? ⟨b',o,none⟩=false:=by
 have Bk:(cs.take (i*7)).length=i*7:=by rw[ZQ,ju];omega
 have Wo:b<w.heap.size:=block_lt_of_cell (hcs 0 _ (Zn (by rw[ju];omega)));have jB:∀(j:Nat) u,(cs.take (i*7)++(vs++cs.drop (i*7)))[j]?=some u->(j<i*7/\cs[j]?=some u)\/(i*7<=j/\j<(i+1)*7/\vs[j-i*7]?=some u)\/((i+1)*7<=j/\(cs.drop (i*7))[j-(i+1)*7]?=some u):=by
  intro j u hj;rw[abl]at hj;split at hj
  ·rename_i h;rw[Bk]at h;rw[aba,if_pos h]at hj;exact .inl ⟨h,hj⟩
  ·rename_i h;rw[Bk]at h hj;rw[abl]at hj;split at hj
   ·rename_i h2;rw[hvl]at h2;exact .inr (.inl ⟨bn,bn,hj⟩)
   ·rename_i h2;rw[hvl]at h2 hj;refine .inr (.inr ⟨bn,?_⟩);rwa[show j-(i+1)*7=j-i*7-1*7 by omega]
 have Ar:(cs.drop (i*7)).length=(n-i)*7:=by rw[Z7,ju];omega
 by_cases he:i=n
 ·subst he;have JN:cs.drop (i*7)=[]:=acK bn;by_cases hr:i+1<=c
  ·refine Calls.mono (IC b i c vb vo 1 vc vs w bn hr hvl hsp hfz hvs Aq) ?_;rintro e w' ⟨h1,rfl⟩;obtain⟨k1,k2,k3,k4,k5⟩:=dP b vs (i*7) w;have VY:∀j,j<vs.length->(w.cell? ⟨b,i*7+j,none⟩).isSome=true:=λj hj=>hsp _ bn;refine⟨b,c,h1,hr,⟨k2,k3,k4,bn,.inl Z,λj u hj=>?_,λb2 _ h=>k5 b2 h⟩,λo=>⟨λho=>cU VY (hsp o ho),by rw[World.frozen?_setCells];exact hfz o⟩⟩;rw[dL VY];rcases jB j u hj with ⟨h,h'⟩|⟨h,h',h2⟩|⟨h,h2⟩
   ·rw[if_neg bn];exact hcs j u h'
   ·rw[if_pos bn];exact h2
   ·rw[JN]at h2;simp at h2
  ·refine Calls.mono (ID b i c vb vo 1 vc cs vs w bn hnc bn pE ju hvl hcs hvs Aq) ?_;rintro e w' ⟨h1,rfl⟩;have hge:=grownCap_ge w (i+1) c 29;refine⟨_,_,h1,grownCap_ge w _ _ _,⟨Z,Z,Z,by simp[World.alloc],.inr (aav _),λj u hj=>?_,λb2 h _=>?_⟩,λo=>⟨λho=>?_,World.frozen?_alloc_at (w:=w.drew) _ _ w.heap.size o Z⟩⟩;rotate_left 2
   ·rw[World.cell?_alloc_at (w:=w.drew) _ _ w.heap.size o Z,aao (by
     simp only[abd,aaR,aay,ju,hvl,size_zeroCells,VB]
     omega)];rfl
   ·rw[World.cell?_alloc_at (w:=w.drew) _ _ w.heap.size j rfl];have hjl:j<(cs++vs).length:=by
     rw[aay,ju,hvl];rcases jB j u hj with ⟨h,h'⟩|⟨h,h',h2⟩|⟨h,h2⟩
     ·omega
     ·omega
     ·rw[JN]at h2;simp at h2
    rw[Z4 (by rw[aaR];exact hjl),abH];rw[JN,Zc,abj bn]at hj;exact hj
   ·show(w.drew.alloc _).heap[b2]?=_;simp only[World.alloc];rw[abD (by exact h)];exact(aao (xs:=w.heap) h).symm
 ·have hi':i<n:=by omega
  by_cases hr:n+1<=c
  ·refine Calls.mono (N7 b n c i vb vo 1 vc cs vs w hi' bn hr bn GO ju hvl hcs hsp hfz hvs h1c Aq) ?_;rintro e w' ⟨h1,rfl⟩;obtain⟨k1,k2,k3,k4,k5⟩:=dP b (cs.drop (i*7)) ((i+1)*7) w.drew;obtain⟨l1,l2,l3,l4,l5⟩:=dP b vs (i*7) (w.drew.setCells b ((i+1)*7) (cs.drop (i*7)));have qu:∀j,j<(cs.drop (i*7)).length->(w.drew.cell? ⟨b,(i+1)*7+j,none⟩).isSome=true:=λj hj=>hsp _ si;have nI:∀j,j<vs.length->((w.drew.setCells b ((i+1)*7) (cs.drop (i*7))).cell? ⟨b,i*7+j,none⟩).isSome=true:=λj hj=>cU qu (hsp _ bn);refine⟨b,c,h1,hr,⟨Yc,Yd,Ye,XN,.inl Z,λj u hj=>?_,λb2 _ h=>by rw[l5 b2 h,k5 b2 h];rfl⟩,λo=>⟨λho=>cU nI (cU qu (hsp o ho)),by rw[World.frozen?_setCells,World.frozen?_setCells];exact hfz o⟩⟩;rw[dL nI,dL qu];rcases jB j u hj with ⟨h,h'⟩|⟨h,h',h2⟩|⟨h,h2⟩
   ·rw[if_neg bn,if_neg bn];exact hcs j u h'
   ·rw[if_pos bn];exact h2
   ·have Wq:j-(i+1)*7<(cs.drop (i*7)).length:=by
     rcases abn (j-(i+1)*7) (cs.drop (i*7)).length with hh|hh
     ·exact hh
     ·rw[abh hh]at h2;cases h2
    rw[if_neg bn,if_pos bn];exact h2
  ·refine Calls.mono (Re b n c i vb vo 1 vc cs vs w hi' bn hnc bn pE ju hvl hcs hvs h1c Aq) ?_;rintro e w' ⟨G,mm,hG,hR,Sk,h1,rfl⟩;obtain⟨w1,hw1⟩:∃w1,w1=(w.alloc (.cells mm 29)).drew:=⟨_,rfl⟩
   have hN:∀j,j<G*7->(w1.cell? ⟨w.heap.size,j,none⟩).isSome=true:=λj hj=>by
    rw[hw1];show((w.alloc (.cells mm 29)).cell? ⟨w.heap.size,j,none⟩).isSome=true;rw[World.cell?_alloc_at (w:=w) mm _ w.heap.size j Z,aao bn];rfl
   have hC:∀j u,j<i*7->cs[j]?=some u->w1.cell? ⟨w.heap.size,j,none⟩=some u:=λj u hj hu=>by
    rw[hw1];show(w.alloc (.cells mm 29)).cell? ⟨w.heap.size,j,none⟩=some u;rw[World.cell?_alloc_at (w:=w) mm _ w.heap.size j Z,Sk j hj];exact hu
   have hH:∀b2,b2<w.heap.size->w1.heap[b2]?=w.heap[b2]?:=λb2 h=>by
    rw[hw1];show(w.alloc _).heap[b2]?=_;simp only[World.alloc];rw[abD h];exact(aao (xs:=w.heap) h).symm
   have hS:w1.heap.size=w.heap.size+1:=by rw[hw1];show(w.heap.push _).size=_;rw[Array.size_push]
   have hO:w1.os=w.os/\w1.tape=w.tape/\w1.output=w.output:=by rw[hw1];exact⟨Z,Z,Z⟩
   have UB:∀j,w1.frozen? ⟨w.heap.size,j,none⟩=false:=λj=>by
    rw[hw1];exact World.frozen?_alloc_at (w:=w) mm _ w.heap.size j Z
   rw[<- hw1];obtain⟨k1,k2,k3,k4,k5⟩:=dP w.heap.size vs (i*7) w1;obtain⟨l1,l2,l3,l4,l5⟩:=dP w.heap.size (cs.drop (i*7)) ((i+1)*7) (w1.setCells w.heap.size (i*7) vs).drew;have qu:∀j,j<vs.length->(w1.cell? ⟨w.heap.size,i*7+j,none⟩).isSome=true:=λj hj=>hN _ bn;have nI:∀j,j<(cs.drop (i*7)).length->((w1.setCells w.heap.size (i*7) vs).drew.cell? ⟨w.heap.size,(i+1)*7+j,none⟩).isSome=true:=λj hj=>by
    show((w1.setCells w.heap.size (i*7) vs).cell? _).isSome=true;exact cU qu (hN _ si)
   refine⟨_,_,h1,hG,⟨by rw[l2];exact k2.trans hO.1,by rw[l3];exact k3.trans hO.2.1,by rw[l4];exact k4.trans hO.2.2,by rw[l1];show w.heap.size<=(w1.setCells w.heap.size (i*7) vs).heap.size;rw[k1,hS];omega,.inr (aav _),λj u hj=>?_,λb2 h _=>?_⟩,λo=>⟨λho=>cU nI (by
     show((w1.setCells w.heap.size (i*7) vs).cell? _).isSome=true
     exact cU qu (hN _ ho)),by
     rw[World.frozen?_setCells];show(w1.setCells w.heap.size (i*7) vs).frozen? _=false
     rw[World.frozen?_setCells];exact UB o⟩⟩
   ·rw[dL nI];rcases jB j u hj with ⟨h,h'⟩|⟨h,h',h2⟩|⟨h,h2⟩
    ·rw[if_neg bn];show(w1.setCells w.heap.size (i*7) vs).cell? _=_;rw[dL qu,if_neg bn];exact hC j u h h'
    ·rw[if_neg bn];show(w1.setCells w.heap.size (i*7) vs).cell? _=_;rw[dL qu,if_pos bn];exact h2
    ·have Wq:j-(i+1)*7<(cs.drop (i*7)).length:=by
      rcases abn (j-(i+1)*7) (cs.drop (i*7)).length with hh|hh
      ·exact hh
      ·rw[abh hh]at h2;cases h2
     rw[if_pos bn];exact h2
   ·rw[l5 b2 bn];show(w1.setCells w.heap.size (i*7) vs).heap[b2]?=_;rw[k5 b2 bn,hH b2 h]
open Go.cM
def AU:∀(l:L Vl),(bD (aa l)).all CV.one=true
 |[]=>rfl
 |.mk _ _ _ _ _ _ _::l=>by
  simp only[aa,bO,bD,CV.cells,abm,AU l,abe];rfl
def tT:∀(n:Nat)(l:L Vl),(aa l).take n=aa (l.take n)
 |0,l=>rfl
 |n+1,[]=>rfl
 |n+1,x::l=>by simp only[aa,abo,tT n l]
def rX:∀(n:Nat)(l:L Vl),(aa l).drop n=aa (l.drop n)
 |0,l=>rfl
 |n+1,[]=>rfl
 |n+1,x::l=>by simp only[aa,acm,rX n l]
attribute [local irreducible] AK ah aZ cx dM
def eV(x:Vl)(l:L Vl)(B:l.length<=1099511627776):mZ 83 none [.c (.sl 7 (aa (x::l)))] (.fZ 999999 0 7 (l.length+1)) (some (bD (aa (x::l)))):=by
 have h1:=aB l;have W:([]++aa (x::l)).length=l.length+1:=by simp only[aa,aaV,aac,h1]
 have A:((([]:L CV).length)+(aa (x::l)).length)*112<=140737488355328:=by simp only[aa,aac,aad,h1];omega
 obtain⟨k,P,V,O,J,Y,E⟩:=x;refine dV.of func83 Z (λJ w=>call83 J w) (ZD Z) [(0,.c (.sl 7 (aa (.mk k P V O J Y E::l))))] ⟨[],[],[]⟩ Z Z λβ=>?_;have hf:=func83
 repeat' (first|refine sz ?_|refine ze ?_ ?_|(intro h;first|(cases h;done)|rw[h]|skip)|refine AK.oh rfl ?_ ?_|refine ah.uq hX kn rfl rfl rfl rfl rfl rfl rfl rfl rfl rfl rfl rfl rfl rfl rfl rfl rfl rfl (λh=>by cases h) rfl rfl rfl A rfl W ?_|(refine uA rfl ?_ ?_<;>(try (show(_:Nat)*_<=_;dsimp only))))
 exact AK.UD hX hf Z Z Z
def pS(s:L Vl)(i:Nat)(hi:i<s.length)(hl:s.length<=20000000000):mZ 153 (some (bD (aa s))) (.fZ 1000000 0 7 s.length::[CV.int .i64 (i:Int),CV.int .i64 ((i+1:Nat):Int)].map AV.c)
  (.fZ 999999 0 7 (aa (s.take i++s.drop (i+1))).length) (some (bD (aa (s.take i++s.drop (i+1))))):=by
 have z1:=aB s;have hc:(bD (aa s)).length=s.length*7:=by rw[cZ (fQ s),z1]
 have U:bD (aa (s.take i++s.drop (i+1)))=(bD (aa s)).take (i*7)++(bD (aa s)).drop ((i+1)*7):=by
  rw[jO,dr,qY (fQ s) i bn,qZ (fQ s) (i+1) bn,tT,rX]
 refine dV.Xo (λJ w=>call153 J w) bn (AU _) ?_;intro w G b D vs us hb Wr gL E M Y V B K;simp only[bI,Rel]at K;obtain⟨_,_,rfl,rfl,_,_,rfl,rfl,rfl⟩:=K;have W:vs.length=s.length*7:=by rw[ng E,hc]
 have h1:=lG E Y;refine⟨vs.take (i*7)++vs.drop ((i+1)*7),by rw[U];exact eO (qv _ E) (qw _ E),?_⟩;have P:∀o,o<D*7->(w.cell? ⟨b,o,none⟩).isSome=true:=λo S=>by
  obtain⟨u,H⟩:=(B o).1 S;rw[H];rfl
 have I:(vs.drop ((i+1)*7)).length=(s.length-(i+1))*7:=by rw[Z7,W];omega
 refine Calls.mono (Td s.length D i b w hi V (vs.drop ((i+1)*7)) _ I (λu H=>h1 u (abb H)) (λj u T=>M _ u (by rwa[abT]at T)) P (λo=>(B o).2) Z) ?_;rintro e w' ⟨e1,rfl⟩;obtain⟨C,k2,k3,k4,k5⟩:=dP b (vs.drop ((i+1)*7)) (i*7) w.drew;generalize Q:[Value.int IntKind.i64 0,Value.int IntKind.i64 0,Value.int IntKind.i64 0,Value.string ⟨#[]⟩,Value.slice none 0 0,Value.slice none 0 0,Value.slice none 0 0]=zs;have hzl:zs.length=7:=by rw[<- Q];rfl
 obtain⟨A,l2,l3,l4,l5⟩:=dP b zs ((s.length-1)*7) (w.drew.setCells b (i*7) (vs.drop ((i+1)*7)));have O:∀j,j<(vs.drop ((i+1)*7)).length->(w.drew.cell? ⟨b,i*7+j,none⟩).isSome=true:=λj T=>P _ (by rw[I]at T;omega);have q:∀j,j<zs.length->((w.drew.setCells b (i*7) (vs.drop ((i+1)*7))).cell? ⟨b,(s.length-1)*7+j,none⟩).isSome=true:=λj T=>cU O (P _ bn);have wK:(aa (s.take i++s.drop (i+1))).length=s.length-1:=by rw[aB,aay,ZQ,Z7];omega
 refine⟨b,D,by rw[wK];exact e1,bn,⟨Yc,Yd,Ye,by rw[A,C];exact aav _,.inl Z,λj u T=>?_,λp _ h=>by rw[l5 p h,k5 p h];rfl⟩,by rw[A,C];exact hb,λo=>⟨λS=>Option.isSome_iff_exists.1 (cU q (cU O (P o S))),by rw[World.frozen?_setCells,World.frozen?_setCells];exact(B o).2⟩⟩;have Bk:(vs.take (i*7)).length=i*7:=by rw[ZQ,W];omega
 rw[dL q,dL O];rw[abl]at T;split at T
 ·rename_i h;rw[Bk]at h;rw[aba,if_pos h]at T;rw[if_neg bn,if_neg bn];exact M j u T
 ·rename_i h;rw[Bk]at h T;have Wq:j-i*7<(vs.drop ((i+1)*7)).length:=by
   rcases abn (j-i*7) (vs.drop ((i+1)*7)).length with N|N
   ·exact N
   ·rw[abh N]at T;cases T
  rw[if_neg bn,if_pos bn];exact T
def tL(s:L Vl)(x:Vl)(i:Nat)(h0:0<s.length)(hi:i<=s.length)(hl:s.length<=20000000000):mZ 154 (some (bD (aa s))) (.fZ 1000000 0 7 s.length::[CV.int .i64 (i:Int),CV.sl 7 (aa [x])].map AV.c)
  (.fZ 999999 0 7 (aa (s.take i++x::s.drop i)).length) (some (bD (aa (s.take i++x::s.drop i)))):=by
 have z1:=aB s;have hc:(bD (aa s)).length=s.length*7:=by rw[cZ (fQ s),z1]
 have A:bD (aa (s.take i++x::s.drop i))=(bD (aa s)).take (i*7)++(bD (aa [x])++(bD (aa s)).drop (i*7)):=by
  rw[jO,dr,qY (fQ s) i bn,qZ (fQ s) i bn,tT,rX];simp only[aa,bD,Zc]
 refine dV.Xo (λJ w=>call154 J w) h0 (AU _) ?_;intro w G b D vs us hb Wr O E ie U S B sI;obtain⟨k,nn,a1,s0,J,Y,W⟩:=x;simp only[bI,Rel,aa,er,aac,aad]at sI;obtain⟨_,_,rfl,rfl,_,_,rfl,⟨base,len,vc,rfl,rfl,hvc,V⟩,rfl⟩:=sI;have q:vs.length=s.length*7:=by rw[ng E,hc]
 have h1:=lG E U;have p:∀o,o<D*7->(w.cell? ⟨b,o,none⟩).isSome=true:=λo ho=>by
  obtain⟨u,hu⟩:=(B o).1 ho;rw[hu];rfl
 rcases V with V|⟨vb,vo,rfl,V⟩
 ·simp at V
 simp only[eP,nC,cL,abM]at V;obtain⟨⟨⟨P,g1,r1,o1⟩,⟨N,g2,r2,o2⟩,⟨M,g3,r3,o3⟩,⟨K,g4,r4,o4⟩,⟨I,g5,r5,o5⟩,⟨H,g6,r6,o6⟩,q7⟩,_⟩:=V;obtain⟨⟨C,g7,r7,o7⟩,_⟩:=q7;have GO:vb≠b:=λh=>by subst h;rw[Wr]at g1;cases g1
 have Hj:bI G (bD (aa [.mk k nn a1 s0 J Y W])) [P,N,M,K,I,H,C]:=by
  simp only[aa,er,bD,CV.cells,Zc,bI];exact⟨P,_,Z,r1,N,_,Z,r2,M,_,Z,r3,K,_,Z,r4,I,_,Z,r5,H,_,Z,r6,C,_,Z,r7,Z⟩
 refine⟨vs.take (i*7)++([P,N,M,K,I,H,C]++vs.drop (i*7)),by rw[A];exact eO (qv _ E) (eO Hj (qw _ E)),?_⟩;refine Calls.mono (Te b s.length D i vb vo vc vs [P,N,M,K,I,H,C] w hi h0 S bn GO q Z ie p (λo=>(B o).2) (λj v T=>?_) h1 (lG Hj (AU _))) ?_
 ·rcases j with _|_|_|_|_|_|_|j
  ·simp at T;subst T;exact O _ _ _ g1
  ·simp at T;subst T;exact O _ _ _ g2
  ·simp at T;subst T;exact O _ _ _ g3
  ·simp at T;subst T;exact O _ _ _ g4
  ·simp at T;subst T;exact O _ _ _ g5
  ·simp at T;subst T;exact O _ _ _ g6
  ·simp at T;subst T;exact O _ _ _ g7
  ·simp at T
 ·rintro e w' ⟨b',Q,e1,e2,e3,e4⟩;have wK:(aa (s.take i++Vl.mk k nn a1 s0 J Y W::s.drop i)).length=s.length+1:=by rw[aB,aay,aac,ZQ,Z7];omega
  obtain⟨u0,Wn⟩:=Option.isSome_iff_exists.1 ((e4 0).1 bn);exact⟨b',Q,by rw[wK];exact e1,by rw[wK];exact e2,e3,Ca Wn,λo=>⟨λho=>Option.isSome_iff_exists.1 ((e4 o).1 ho),(e4 o).2⟩⟩
def EA:∀(p x y q:L AV),x.length=y.length->dI p.length x (p++(y++q))=some (p++(x++q))
 |[],x,y,q,h=>by
  induction x generalizing y with
  |nil=>cases y with
   |nil=>cases q<;>simp only[aad,aaV,dI]
   |cons _ _=>simp at h
  |cons a x O=>cases y with
   |nil=>simp at h
   |cons b y =>
    have:=O y q6;simp only[aad,aaV,Zy]at this ⊢;simp only[dI,this]
 |a::p,x,y,q,h=>by
  cases x with
  |nil=>cases y with
   |nil=>simp only[aac,Zy,dI]
   |cons _ _=>simp at h
  |cons b x=>simp only[aac,Zy,dI,EA p (b::x) y q h]
def EB{l:L Vl}{i:Nat}{v:Vl}(h:l[i]?=some v):l=l.take i++v::l.drop (i+1)/\(l.take i).length=i:=by
 obtain⟨h1,h2⟩:=List.getElem?_eq_some_iff.1 h;constructor
 ·rw[<- Ez h,aaY]
 ·grind
def KW(a b:L Vl):ag (aa (a++b))=ag (aa a)++ag (aa b):=by rw[ag,jO,dr,aan]
def Rf(a:L Vl):(ag (aa a)).length=a.length*7:=by rw[ag,aap,cZ (fQ _),aB]
def Cd{l:L Vl}{i:Nat}{k n a:Int}{s:L UInt8}{J:L Vl}{Y:L Ty}{W:L Nd}(h:l[i]?=some (.mk k n a s J Y W)):fX (0+i*7) (ag (aa l)) =
  some (.c (aE k) :: .c (aE n) :: .c (aE a) :: .c (.str s) :: .c (.sl 7 (aa J)) :: .c (.sl 2 (au Y)) :: .c (.sl 5 (aG W))::ag (aa (l.drop (i+1)))):=by
 obtain⟨h1,h2⟩:=EB h;have K:=Rf (l.take i);rw[h2]at K
 conv=>lhs;rw[h1,KW,ZG,<- K,uL]
 rfl
def EC{l:L Vl}{i:Nat}(h:i<l.length)(k n a:Int)(s:L UInt8)(J:L Vl)(Y:L Ty)(W:L Nd):dI (0+i*7) [.c (aE k),.c (aE n),.c (aE a),.c (.str s),.c (.sl 7 (aa J)),.c (.sl 2 (au Y)),.c (.sl 5 (aG W))] (ag (aa l)) =
  some (ag (aa (l.set i (.mk k n a s J Y W)))):=by
 obtain⟨v,B⟩:∃v,l[i]?=some v:=⟨_,Zn h⟩
 obtain⟨h1,h2⟩:=EB B;have K:=Rf (l.take i);rw[h2]at K;have C:l.set i (.mk k n a s J Y W)=l.take i ++ .mk k n a s J Y W::l.drop (i+1):=by
  rw[List.set_eq_take_append_cons_drop,if_pos h]
 rw[C,KW]
 conv=>lhs;rw[h1,KW,ZG,<- K]
 have I:ag (aa (v::l.drop (i+1)))=ag [bO v]++ag (aa (l.drop (i+1))):=by
  show ag (bO v::aa (l.drop (i+1)))=_;rw[ag,ag,ag,<- aan];simp only[bD,Zc]
 rw[I,EA]
 ·rfl
 ·cases v;rfl
def Tf{l m:L Vl}{i:Nat}(p:m.length=l.length)(K:l.length<=2*i+1)(Y:2*i<=l.length+1)(h:∀k,k<l.length->m[k]?=if k<i\/l.length<=k+i then l[l.length-1-k]? else l[k]?):m=l.reverse:=by
 apply List.ext_getElem?;intro k;by_cases D:k<l.length
 ·grind
 ·simp_all
def iQ(l:L Vl)(hl:l.length<=1099511627776):qy 84 [(1000000,ag (aa l))] [.fZ 1000000 0 7 l.length] (.c .undef) [(1000000,ag (aa l.reverse))]:=by
 refine dM.of func84 Z (λJ w=>call84 J w) (ZD Z) [(0,.fZ 1000000 0 7 l.length)] ⟨[(1000000,ag (aa l))],[],[1000000]⟩ Z Z λβ=>?_;have hf:=func84;generalize ZW:l.reverse=rv;refine YC ?_;have P:i64.wrap ((l.length:Nat)-1:Int)=(l.length:Nat)-1:=gF bn bn;refine AK.fL [(1000000,1000000)] [] (env':=[(0,.fZ 1000000 0 7 l.length),(2,.c (aE ((0:Nat):Int))),(3,.c (aE ((l.length:Nat)-1-((0:Nat):Int))))])
  (bs':=[(1000000,ag (aa l))]) (ts':=[]) (us':=[1000000]) ⟨⟨_,Z,⟨_,Z,Z⟩⟩,⟨_,Z,.inl Z⟩,⟨_,Z,.inl (Zb (λz=>AV.c (.int .i64 z)) (P.trans bn))⟩,trivial⟩ ⟨⟨_,_,Z,Z,dy _⟩,trivial⟩ Z ?_
 refine AK.eX (α:=Nat×L Vl) (λz=>z.2.length=l.length/\2*z.1<=l.length+1/\∀k,k<l.length->z.2[k]?=if k<z.1\/l.length<=k+z.1 then l[l.length-1-k]? else l[k]?) (λz=>l.length+1-z.1)
  (λz=>[(0,.fZ 1000000 0 7 l.length),(2,.c (aE (z.1:Nat))),(3,.c (aE ((l.length:Nat)-1-(z.1:Nat))))]) (λz=>[(1000000,ag (aa z.2))]) (λ_=>[]) [1000000] (0,l)
  ⟨Z,by show 2*0<=_;omega,λk p=>by show l[k]?=if k<0\/l.length<=k+0 then _ else _;rw[if_neg bn]⟩ ce ⟨Z,trivial⟩ trivial Z (Mm Z (F0 _ _) Z) Z ?_
 rintro⟨i,m⟩ ⟨h1,h2,K⟩ ih;simp only at h1 h2 K;by_cases hij:2*i+1<l.length
 ·have hc:decide (((i:Nat):Int)<(l.length:Nat)-1-(i:Nat))=true:=aaw bn;obtain⟨j,hj⟩:∃j:Nat,j+i+1=l.length:=⟨l.length-1-i,bn⟩
  have O:((l.length:Nat)-1-(i:Nat):Int)=(j:Nat):=by omega
  obtain⟨a,ha⟩:∃a,m[j]?=some a:=⟨_,Zn bn⟩
  obtain⟨b,hb⟩:∃b,m[i]?=some b:=⟨_,Zn bn⟩
  have W:∀k,k<l.length->((m.set i a).set j b)[k]?=if k<i+1\/l.length<=k+(i+1)then l[l.length-1-k]? else l[k]?:=by
   intro k p;by_cases Va:k=j
   ·subst Va;rw[acL ot,if_pos bn,<- hb,K i bn,if_neg bn];congr 1;omega
   ·rw[List.getElem?_set_ne bn];by_cases N:k=i
    ·subst N;rw[acL bn,if_pos bn,<- ha,K j bn,if_neg bn];congr 1;omega
    ·rw[List.getElem?_set_ne bn,K k p];by_cases u:k<i\/l.length<=k+i
     ·rw[if_pos u,if_pos bn]
     ·rw[if_neg u,if_neg bn]
  obtain⟨C,U,V,T,Y,S,Q⟩:=a;obtain⟨A,M,I,q,G,H,E⟩:=b;have r1:=Cd ha;have r2:=Cd hb;have w1:=EC (l:=m) (i:=i) bn C U V T Y S Q;have w2:=EC (l:=m.set i (.mk C U V T Y S Q)) (i:=j) (by rw[acy];omega) A M I q G H E;have D:i64.wrap (((i:Nat):Int)+1)=((i+1:Nat):Int):=by rw[gF bn bn];omega
  have B:i64.wrap ((l.length:Nat)-1-(i:Nat)-1:Int)=(l.length:Nat)-1-((i+1:Nat):Int):=by rw[gF bn bn];omega
  repeat' (first|refine me ?_|refine zc ?_ ?_|(intro h;first|(cases h;done)|rw[h]|skip)|refine AK.oh Z ?_ ?_|refine ah.iF hX kn Z Z Z Z Z Z Z Z Z j O bn ?_|refine ah.iF hX kn Z Z Z Z Z Z Z Z Z i Z bn ?_|refine ah.gh hX kn Z Z Z Z Z Z r1 Z ?_|refine ah.gh hX kn Z Z Z Z Z Z r2 Z ?_|refine ah.store hX kn Z Z Z Z Z Z Z Z Z w1 Z ?_|refine ah.store hX kn Z Z Z Z Z Z Z Z Z w2 Z ?_|(refine uA Z ?_ ?_<;>(try (show(_:Nat)*_<=_;dsimp only))))
  refine AK.fL [(1000000,1000000)] [] (env':=[(0,.fZ 1000000 0 7 l.length),(2,.c (aE ((i+1:Nat):Int))),(3,.c (aE ((l.length:Nat)-1-((i+1:Nat):Int))))])
   (bs':=[(1000000,ag (aa ((m.set i (.mk C U V T Y S Q)).set j (.mk A M I q G H E))))]) (ts':=[]) (us':=[1000000])
   ⟨⟨_,Z,⟨_,Z,Z⟩⟩,⟨_,Z,.inl (Zb (λz=>AV.c (.int .i64 z)) D)⟩,⟨_,Z,.inl (Zb (λz=>AV.c (.int .i64 z)) B)⟩,trivial⟩ ⟨⟨_,_,Z,Z,dy _⟩,trivial⟩ Z ?_
  exact ih (i+1,(m.set i (.mk C U V T Y S Q)).set j (.mk A M I q G H E)) ⟨by show(List.set _ _ _).length=_;rw[acy,acy];exact h1,by show 2*(i+1)<=_;omega,W⟩ (by show l.length+1-(i+1)<l.length+1-i;omega)
 ·have hc:decide (((i:Nat):Int)<(l.length:Nat)-1-(i:Nat))=false:=aax bn;have hm:m=rv:=by rw[<- ZW];exact Tf h1 bn h2 K
  subst hm;clear ih
  repeat' (first|refine me ?_|refine zc ?_ ?_|(intro h;first|(cases h;done)|rw[h]|skip)|refine AK.oh Z ?_ ?_|(refine uA Z ?_ ?_<;>(try (show(_:Nat)*_<=_;dsimp only))))
  exact AK.Cb (.inr Z) hX hf Z [(1000000,1000000)] Z (.inr Z) ⟨⟨_,_,Z,Z,dy _⟩,trivial⟩
end Go.Proofs
namespace Go.Proofs
open Go.cM
attribute [local irreducible] AK ah aZ cx dM
def cE(k n:Int):aj 157 [aE k,aE n] (bO (aL k n)):=by
 refine qn func157 call157 λβ hf=>?_;exact dq
def iR(b:Bool):aj 166 [.bool b] (bO (gM b)):=by
 have h1:=cE 2 1;have p:=cE 2 0;cases b
 ·refine qn func166 call166 λβ hf=>?_;exact dq
 ·refine qn func166 call166 λβ hf=>?_;exact dq
def fE(l:L Vl):aj 156 [.sl 7 (aa l)] (bO (cw l)):=by
 refine qn func156 call156 λβ hf=>?_;exact dq
def gN(a b:Vl):aj 155 [bO a,bO b] (bO (bt a b)):=by
 obtain⟨u,U,W,V,Y,T,S⟩:=a;obtain⟨A,J,Q,q,G,K,I⟩:=b;refine qn func155 call155 λβ hf=>?_;exact dq
def jP(p:Int)(h:40<=p/\p<=95):aj 133 [aE p] (aE (bW p:Nat)):=by
 have q:p=40\/p=41\/p=42\/p=43\/p=44\/p=45\/p=46\/p=47\/p=48\/p=49\/p=50\/p=51\/p=52\/p=53\/p=54\/p=55\/p=56\/p=57\/p=58\/p=59\/p=60\/p=61\/p=62\/p=63\/p=64\/p=65\/p=66\/p=67\/p=68\/p=69\/p=70\/p=71\/p=72\/p=73\/p=74\/p=75\/p=76\/p=77\/p=78\/p=79\/p=80\/p=81\/p=82\/p=83\/p=84\/p=85\/p=86\/p=87\/p=88\/p=89\/p=90\/p=91\/p=92\/p=93\/p=94\/p=95:=by omega
 clear h;rcases q with rfl|rfl|rfl|rfl|rfl|rfl|rfl|rfl|rfl|rfl|rfl|rfl|rfl|rfl|rfl|rfl|rfl|rfl|rfl|rfl|rfl|rfl|rfl|rfl|rfl|rfl|rfl|rfl|rfl|rfl|rfl|rfl|rfl|rfl|rfl|rfl|rfl|rfl|rfl|rfl|rfl|rfl|rfl|rfl|rfl|rfl|rfl|rfl|rfl|rfl|rfl|rfl|rfl|rfl|rfl|rfl
 all_goals
  first
  |(refine aZ.of func133 rfl (λJ w=>call133 J w) (ZD Z) [(0,.c (aE _))] Z λβ Y=>?_;have hf:=func133;exact dq)
def lS(p a b:Int):aj 160 [aE p,aE a,aE b] (aE (ofM p a b)):=by
 refine qn func160 call160 λβ hf=>?_
 repeat' (first|refine sz ?_|refine zc ?_ ?_|(intro h;first|(cases h;done)|rw[h]|skip))
 all_goals (show(_:CV)=_;clear hf;unfold ofM;simp_all)
end Go.Proofs
