/- What slices.Delete of one row and slices.Insert of one row do to rows  -/
import Derived.Test.YteanleefnjknoaaGreatDoorCtx
import Derived.Test.YteanleefnjknoaaGreatDoorLibD
import Derived.WalkKit
import Derived.KernelRfl
import Derived.Deep.LoopGhost
import Derived.Deep.RegionLaw
import Derived.Lib.Walk
import Derived.Lib.SliceRun
import Derived.Lib.AppendZeros
import Derived.Laws.IdiomCopy
import Derived.Laws.Externs
import Derived.Shelf.RegionOpenPlain
import Derived.Test.YteanleefnjknoaaGreatDoorChk3
open Go.IntKind
open Go.Proofs.Tryz
set_option linter.defProp false
set_option maxHeartbeats 0
set_option linter.unusedVariables false
set_option linter.unusedSimpArgs false
namespace Go.Proofs
open Go.RowKit Go.Lib Go.cK
def Aq:(Tryz.prog.info? 25).map (λi=>(i.zero,i.size,i.bytes))=some (some (.agg #[.int .i64 0,.slice none 0 0]),2,32):=by kernel_rfl
def UU:(Builtin.zeroCells (Value.agg #[.int .i64 0,.slice none 0 0]).cells 1).toList=[.int .i64 0,.slice none 0 0]:=by
 simp[Builtin.zeroCells,Value.cells,List.range,List.range.loop]
set_option maxHeartbeats 4000000 in
set_option maxRecDepth 1000000 in
def Ya(n cap i b:Nat)(w:World)(hi:i<n)(hcap:n<=cap)(news zs:L Value)(hlen:news.length=(n-(i+1))*2)(h1:∀u∈news,u.oneCell'=true)
  (hn:∀(j:Nat) u,news[j]?=some u->w.cell? ⟨b,(i+1)*2+j,none⟩=some u)(hall:∀o,o<cap*2->(w.cell? ⟨b,o,none⟩).isSome=true)(hfr:∀o,w.frozen? ⟨b,o,none⟩=false)
  (hz:zs=[.int .i64 0,.slice none 0 0]) :
  Calls Tryz.prog 107 #[.slice (some ⟨b,0,none⟩) n cap,.int .i64 i,.int .i64 ((i+1:Nat):Int)] w λe w'=>e = .returned (.slice (some ⟨b,0,none⟩) (n-1) cap)/\w'=(w.drew.setCells b (i*2) news).setCells b ((n-1)*2) zs:=by
 have mixed:=Tryz.mixed;have hlt:i+1<=n:=hi;have hne:¬((i:Int)=((i+1:Nat):Int)):=by omega
 obtain⟨i0,rK,UW,Lv,SR⟩:=info_parts Aq;have ts:=Tryz.underlying23;have hic:i<=cap:=by omega
 have hjc:i+1<=cap:=by omega
 have GQ:(0:Int)<=(i:Int)+1:=by omega
 have SS:(i:Int)+1<=(n:Int):=by omega
 obtain⟨A,hA,hsrc⟩:∃A:Addr,(if cap=i+1 then(some ⟨b,0,none⟩:Option Addr)else some ⟨b,(i+1)*2,none⟩)=some A/\Hid (∀(t:Nat) u,news[t]?=some u->w.drew.cell? (A.add t)=some u):=by
  by_cases h:cap=i+1
  ·refine⟨⟨b,0,none⟩,p8,λt u hu=>?_⟩;have h0:news.length=0:=by rw[hlen];omega
   rw[List.length_eq_zero_iff.1 h0]at hu;simp at hu
  ·refine⟨⟨b,(i+1)*2,none⟩,p8,λt u hu=>?_⟩;rw[Addr.add_lit];exact hn t u hu
 have s1:Hid (news.length=(n-(i+1))*2):=hlen;have s2:Hid (∀u∈news,u.oneCell'=true):=h1;have s3:Hid (∀t,t<news.length->(w.drew.cell? ⟨b,0+i*2+t,none⟩).isSome=true/\w.drew.frozen? ⟨b,0+i*2+t,none⟩=false):=by
  intro t ht;rw[hlen]at ht;exact⟨hall _ bn,hfr _⟩
 obtain⟨W1,vZ⟩:∃W1,W1=w.drew.setCells b (0+i*2) news:=⟨_,rfl⟩
 have kZ:∀ty,(Builtin.clear_ #[23] ty #[.slice (some ⟨b,(i+(n-(i+1)))*2,none⟩) (n-(i+(n-(i+1)))) (cap-(i+(n-(i+1))))]).run Tryz.prog W1 = .ok (.tuple #[]) (W1.setCells b ((n-1)*2) zs):=by
  intro ty
  have hst:=run_storeCells_cells (P:=Tryz.prog) b ((n-1)*2) zs 0 W1 (λj hj=>by
    rw[vZ,aeT]
    exact dJ (λk hk=>by rw[hlen]at hk;exact hall _ bn) (hall _ (by rw[hz]at hj;simp at hj;omega)))
   (λj hj=>by rw[vZ,World.frozen?_setCells];exact hfr _) (by rw[hz];simp[Value.oneCell'])
  rw[show n-(i+(n-(i+1)))=1 by omega,show i+(n-(i+1))=n-1 by omega];rw[hz]at hst ⊢;simp only[aeT]at hst;simp[Builtin.clear_,run_underlying ts,Tryz.zeroValue25,UU,hst]
 have hW:Hid (W1=w.drew.setCells b (0+i*2) news):=vZ;clear vZ hn hall hfr
 go_enter func107,Tryz.ntmps107
 go_wp2_with fail
 go_region_law_o (refine step_append_room Z (.tmp 22) (.tmp 25) 23 Z 25 i0 2 ts rK Lv b 0 i cap nu A (n-(i+1)) (cap-(i+1)) news nu s1.out hsrc.out s2.out bn s3.out ?_;rw[<- hW.out])
 go_wp2
 go_ret
 have e1:i+(n-(i+1))=n-1:=by omega
 refine⟨by rw[<- e1];rfl,?_⟩;rw[hW.out,hz,aeq]
set_option maxHeartbeats 4000000 in
set_option maxRecDepth 100000 in
def SU(b n c i vb vo m vc:Nat)(cs vs:L Value)(w:World)(hi:i<n)(hm:0<m)(hroom:n+m<=c)(hnb:n+m<=9000000000000000000)(Lc:vb≠b)
  (kZ:cs.length=n*2)(hvl:vs.length=m*2)
  (hcs:∀(j:Nat) v,cs[j]?=some v->w.cell? ⟨b,j,none⟩=some v)(hsp:∀j,j<c*2->(w.cell? ⟨b,j,none⟩).isSome=true)(hfz:∀j,w.frozen? ⟨b,j,none⟩=false)
  (hvs:∀(j:Nat) v,vs[j]?=some v->w.cell? ⟨vb,vo+j,none⟩=some v)(h1c:∀v∈cs,v.oneCell'=true)(Dr:∀v∈vs,v.oneCell'=true) :
  Calls Tryz.prog 108 #[.slice (some ⟨b,0,none⟩) n c,.int .i64 i,.slice (some ⟨vb,vo,none⟩) m vc] w λe w' =>
   e = .returned (.slice (some ⟨b,0,none⟩) (n+m) c)/\w'=(w.drew.setCells b ((i+m)*2) (cs.drop (i*2))).setCells b (i*2) vs:=by
 have ts:=Tryz.underlying23;have Lv:¬((m:Int)=0):=by omega
 have hz2:¬((i:Int)=(n:Int)):=by omega
 have hz3:¬((c:Int)<(n:Int)+(m:Int)):=by omega
 have hsz:(Tryz.prog.info? 25).map (·.size)=some 2:=by kernel_rfl
 obtain⟨v0,SV⟩:∃v0,w.cell? ⟨vb,vo,none⟩=some v0:=⟨_,hvs 0 _ (aea adk)⟩
 obtain⟨u0,hu0⟩:=Option.isSome_iff_exists.1 (hsp ((i+m)*2) bn);have hov:∀lb cb,(callFunc 141 #[.slice (some ⟨vb,vo,none⟩) m vc,.slice (some ⟨b,(i+m)*2,none⟩) lb cb]).run Tryz.prog w = .ok (.value (.bool false)) w:=λlb cb=>by
  rw[run_callFunc_extern func141 (by kernel_rfl) (by kernel_rfl) (by kernel_rfl) (e:=Extern.SlicesOverlaps.overlaps #[23,23] #[4]) (by kernel_rfl),
   tc w 23 4 25 ts 2 Tryz.sizeOf25 ⟨vb,vo,none⟩ ⟨b,(i+m)*2,none⟩ m vc lb cb Lc SV hu0 hfz rfl]
  rfl
 have Ds:(cs.drop (i*2)).length=(n-i)*2:=by rw[aeI,kZ];omega
 have mixed:=Tryz.mixed;have hw1:i64.wrap ((i:Int)+(m:Int))=(i:Int)+(m:Int):=by rw[IntKind.wrap_i64];omega
 have Ux:i64.wrap ((n:Int)+(m:Int))=(n:Int)+(m:Int):=by rw[IntKind.wrap_i64];omega
 have GQ:(0:Int)<=(i:Int)+(m:Int):=by omega
 have hin:i<=n:=by omega
 have htn:((i:Int)+(m:Int)).toNat=i+m:=by omega
 have SS:¬(c=i+m):=by omega
 have hb3:(i:Int)<=(n:Int)+(m:Int):=by omega
 have hb4:¬(c=i):=by omega
 have UX:∀ty dc sc,(Builtin.copy_ #[23,23] ty #[.slice (some ⟨b,(i+m)*2,none⟩) (n+m-(i+m)) dc,.slice (some ⟨b,i*2,none⟩) (n+m-i) sc]).run Tryz.prog w.drew = .ok (goInt ((n-i:Nat):Int)) (w.drew.setCells b ((i+m)*2) (cs.drop (i*2))):=λty dc sc =>
  m9 w.drew _ _ ty 25 b ((i+m)*2) (n+m-(i+m)) dc ⟨b,i*2,none⟩ (n+m-i) sc (cs.drop (i*2)) (n-i) 2 ts hsz nt Ds
   (λj v hj=>by rw[Addr.add_lit];exact hcs (i*2+j) v Wd)
   (λj hj=>hsp _ ta) (λj hj=>hfz _) (λv hv=>h1c v (afb hv))
 obtain⟨W1,vZ⟩:∃W1,W1=w.drew.setCells b ((i+m)*2) (cs.drop (i*2)):=⟨_,rfl⟩
 have aaD:∀k,k<c*2->(W1.cell? ⟨b,k,none⟩).isSome=true:=λk hk=>by
  rw[vZ];exact dJ (w:=w.drew) (λj hj=>hsp ((i+m)*2+j) ta) (hsp k hk)
 have aaE:∀(W:World),(∀x,W.cell? x=W1.cell? x)->(∀x,W.frozen? x=W1.frozen? x)->∀ty dc,(Builtin.copy_ #[23,23] ty #[.slice (some ⟨b,i*2,none⟩) (n+m-i) dc,.slice (some ⟨vb,vo,none⟩) m vc]).run Tryz.prog W = .ok (goInt m) (W.setCells b (i*2) vs):=λW Lw UY ty dc =>
  m9 W _ _ ty 25 b (i*2) (n+m-i) dc ⟨vb,vo,none⟩ m vc vs m 2 ts hsz nt hvl
   (λj v hj=>by
    rw[Addr.add_lit,Lw,vZ,World.cell?_setCells_out b _ _ _ _ (λh _=>absurd h Lc)]
    exact hvs j v hj)
   (λj hj=>by rw[Lw];exact aaD _ Wf) (λj hj=>by rw[UY,vZ,World.frozen?_setCells];exact hfz _) Dr
 rw[<- vZ]at UX
 go_enter func108,Tryz.ntmps108
 go_wp2_with (simp only[hov])
 go_region_law_o (refine ur Z _ _ 23 23 Z _ _ nu nu (UX _ _ _) ?_)
 go_wp2_with (at_builtin;refine lW _ Z _ _ 23 23 Z _ _ Z Z (aaE _ (λ_=>rfl) (λ_=>rfl) _ _) ?_)
 go_ret
 first|exact⟨Z,Z⟩|exact⟨Z,by rw[vZ]⟩
set_option maxHeartbeats 4000000 in
set_option maxRecDepth 100000 in
def Lx(b n c vb vo m vc:Nat)(vs:L Value)(w:World)(hm:0<m)(hroom:n+m<=c)
  (hvl:vs.length=m*2)(hsp:∀j,j<c*2->(w.cell? ⟨b,j,none⟩).isSome=true)(hfz:∀j,w.frozen? ⟨b,j,none⟩=false)
  (hvs:∀(j:Nat) v,vs[j]?=some v->w.cell? ⟨vb,vo+j,none⟩=some v)(Dr:∀v∈vs,v.oneCell'=true) :
  Calls Tryz.prog 108 #[.slice (some ⟨b,0,none⟩) n c,.int .i64 n,.slice (some ⟨vb,vo,none⟩) m vc] w λe w' =>
   e = .returned (.slice (some ⟨b,0,none⟩) (n+m) c)/\w'=w.setCells b (n*2) vs:=by
 have ts:=Tryz.underlying23;obtain⟨i0,rK,UW,hzs,SR⟩:=info_parts Aq;have mixed:=Tryz.mixed;have Lv:¬((m:Int)=0):=by omega
 have hap:∀ty,(Builtin.append_ #[23,23] ty #[.slice (some ⟨b,0,none⟩) n c,.slice (some ⟨vb,vo,none⟩) m vc]).run Tryz.prog w = .ok (.slice (some ⟨b,0,none⟩) (n+m) c) (w.setCells b (n*2) vs):=λty=>by
  have:=run_append_room_cells w 23 ty 25 i0 ts rK b 0 n c ⟨vb,vo,none⟩ m vc vs (by rw[hzs];exact hvl) (λj u hj=>by rw[Addr.add_lit];exact hvs j u hj) Dr hroom
   (λj hj=>by rw[hzs];exact hsp _ Wf) (λj hj=>hfz _)
  rw[hzs,aeq]at this;exact this
 go_enter func108,Tryz.ntmps108
 go_wp2_with (at_builtin;refine Lib.wpList_append_run _ Z _ _ _ _ Z _ _ Z Z _ _ (hap _) ?_)
 go_ret
 exact⟨Z,Z⟩
set_option maxHeartbeats 4000000 in
set_option maxRecDepth 100000 in
def Ly(b n c vb vo m vc:Nat)(cs vs:L Value)(w:World)(hm:0<m)(hnc:n<=c)(hroom:c<n+m)(rN:(n+m)*32<=140737488355328)
  (kZ:cs.length=n*2)(hvl:vs.length=m*2)
  (hcs:∀(j:Nat) v,cs[j]?=some v->w.cell? ⟨b,j,none⟩=some v)
  (hvs:∀(j:Nat) v,vs[j]?=some v->w.cell? ⟨vb,vo+j,none⟩=some v)(Dr:∀v∈vs,v.oneCell'=true) :
  Calls Tryz.prog 108 #[.slice (some ⟨b,0,none⟩) n c,.int .i64 n,.slice (some ⟨vb,vo,none⟩) m vc] w λe w' =>
   e = .returned (.slice (some ⟨w.heap.size,0,none⟩) (n+m) (grownCap w (n+m) c 25)) /\
   w'=w.drew.alloc (.cells ((cs++vs).toArray++Builtin.zeroCells (Value.agg #[.int .i64 0,.slice none 0 0]).cells (grownCap w (n+m) c 25-(n+m))) 25):=by
 have ts:=Tryz.underlying23;obtain⟨i0,rK,UW,hzs,SR⟩:=info_parts Aq;have mixed:=Tryz.mixed;have Lv:¬((m:Int)=0):=by omega
 have hsrc:Src Tryz.prog i0.size 23 (.slice (some ⟨vb,vo,none⟩) m vc) m vs w:=by
  rw[hzs];exact adF
 have hold:(Builtin.firstCells i0.size n (.slice (some ⟨b,0,none⟩) n c)).run Tryz.prog w.drew = .ok cs.toArray w.drew:=by
  rw[hzs];exact run_firstCells_some w.drew 2 n ⟨b,0,none⟩ n c cs kZ (λj v hj=>by rw[Addr.add_lit,aeq];exact hcs j v hj)
 have hrun:∀ty,(Builtin.append_ #[23,23] ty #[.slice (some ⟨b,0,none⟩) n c,.slice (some ⟨vb,vo,none⟩) m vc]).run Tryz.prog w=_:=λty =>
  run_append_grow_src w 23 23 ty 25 i0 _ ts rK UW (some ⟨b,0,none⟩) n c cs hold _ m vs hsrc hroom bn (by rw[SR];exact growslice_fits hroom rN)
 go_enter func108,Tryz.ntmps108
 go_wp2_with (at_builtin;refine Lib.wpList_append_run _ Z _ _ _ _ Z _ _ Z Z _ _ (hrun _) ?_)
 all_goals (go_ret;exact⟨Z,Z⟩)
set_option maxHeartbeats 4000000 in
set_option maxRecDepth 100000 in
def UZ(b n c i vb vo m vc:Nat)(cs vs:L Value)(w:World)(hi:i<n)(hm:0<m)(hnc:n<=c)(hroom:c<n+m)(rN:(n+m)*32<=140737488355328)
  (kZ:cs.length=n*2)(hvl:vs.length=m*2)
  (hcs:∀(j:Nat) v,cs[j]?=some v->w.cell? ⟨b,j,none⟩=some v)
  (hvs:∀(j:Nat) v,vs[j]?=some v->w.cell? ⟨vb,vo+j,none⟩=some v)(h1c:∀v∈cs,v.oneCell'=true)(Dr:∀v∈vs,v.oneCell'=true) :
  Calls Tryz.prog 108 #[.slice (some ⟨b,0,none⟩) n c,.int .i64 i,.slice (some ⟨vb,vo,none⟩) m vc] w λe w' =>
   ∃G oA,n+m<=G/\G*2<=oA.size/\(∀j,j<i*2->oA[j]?=cs[j]?)/\e = .returned (.slice (some ⟨w.heap.size,0,none⟩) (n+m) G) /\
   w'=(((w.alloc (.cells oA 25)).drew.setCells w.heap.size (i*2) vs).drew).setCells w.heap.size ((i+m)*2) (cs.drop (i*2)):=by
 have ts:=Tryz.underlying23;have tn:=Tryz.underlying3;have mixed:=Tryz.mixed;obtain⟨i0,rK,UW,hzs,SR⟩:=info_parts Aq;have Lv:¬((m:Int)=0):=by omega
 have hz2:¬((i:Int)=(n:Int)):=by omega
 have hz3:(c:Int)<(n:Int)+(m:Int):=by omega
 have hsz:(Tryz.prog.info? 25).map (·.size)=some 2:=by kernel_rfl
 have hbw:b<w.heap.size:=block_lt_of_cell (hcs 0 _ (aea (by rw[kZ];omega)));have hvw:vb<w.heap.size:=block_lt_of_cell (hvs 0 _ (aea adk));have hkk:(n:Int)+(m:Int)-(i:Int)=((n+m-i:Nat):Int):=by omega
 have hik:i+(n+m-i)=n+m:=by omega
 have Ev:(cs.take (i*2)).length=i*2:=by rw[aeD,kZ];omega
 have hold:(Builtin.firstCells i0.size i (.slice (some ⟨b,0,none⟩) i c)).run Tryz.prog w.drew = .ok (cs.take (i*2)).toArray w.drew:=by
  rw[hzs]
  exact run_firstCells_some w.drew 2 i ⟨b,0,none⟩ i c (cs.take (i*2)) Ev (λj v hj=>by
   rw[Addr.add_lit,aeq];rw[afm]at hj;split at hj
   ·exact hcs j v hj
   ·cases hj)
 obtain⟨ZS,hZS⟩:∃ZS,ZS=(Value.agg #[.int .i64 0,.slice none 0 0]).cells:=⟨_,rfl⟩
 have hZn:ZS.size=2:=by rw[hZS];rfl
 have SW:∀k,(Builtin.zeroCells ZS k).size=k*2:=λk=>by simp[Builtin.zeroCells,hZn]
 have Yb:∀ty,(Builtin.append_ #[23,3] ty #[.slice (some ⟨b,0,none⟩) i c,.int .i64 ((n:Int)+(m:Int)-(i:Int))]).run Tryz.prog w =
   .ok (.slice (some ⟨w.heap.size,0,none⟩) (n+m) (grownCap w (n+m) c 25)) (w.drew.alloc (.cells ((cs.take (i*2)).toArray++Builtin.zeroCells ZS (n+m-i)++Builtin.zeroCells ZS (grownCap w (n+m) c 25-(n+m))) 25)):=λty=>by
  have h:=Lib.run_append_grow_zeros w 23 3 ty 25 i0 _ .i64 .i64 ts tn rK UW (some ⟨b,0,none⟩) i c (cs.take (i*2)) hold (n+m-i) bn bn bn bn (by rw[SR];omega) (by rw[SR,hik];exact growslice_fits hroom rN);rw[hik,<- hZS]at h;rw[hkk];exact h
 obtain⟨G,hG⟩:∃G,G=grownCap w (n+m) c 25:=⟨_,rfl⟩
 have hGn:n+m<=G:=by rw[hG];exact grownCap_ge w _ _ _
 obtain⟨oA,Jm⟩:∃oA:Array Value,oA=(cs.take (i*2)).toArray++Builtin.zeroCells ZS (n+m-i)++Builtin.zeroCells ZS (G-(n+m)):=⟨_,rfl⟩
 rw[<- hG]at Yb;rw[<- Jm]at Yb;have hRs:oA.size=G*2:=by
  rw[Jm,afp,afp,SW,SW,aeZ,Ev];omega
 have Yc:∀j,j<i*2->oA[j]?=cs[j]?:=λj hj=>by
  rw[Jm,aeK abi,aeK (by rw[aeZ,Ev];exact hj)];rw[agp,afm,if_pos hj]
 obtain⟨W1,vZ⟩:∃W1,W1=w.drew.alloc (.cells oA 25):=⟨_,rfl⟩
 rw[<- vZ]at Yb;have hN:∀j,j<G*2->(W1.cell? ⟨w.heap.size,j,none⟩).isSome=true:=λj hj=>by
  rw[vZ,World.cell?_alloc_at (w:=w.drew) oA _ w.heap.size j Z,aeN bn];rfl
 have hNf:∀j,W1.frozen? ⟨w.heap.size,j,none⟩=false:=λj=>by rw[vZ];exact World.frozen?_alloc_at (w:=w.drew) oA _ w.heap.size j Z
 have hOb:∀j v,w.cell? ⟨b,j,none⟩=some v->W1.cell? ⟨b,j,none⟩=some v:=λj v h=>by rw[vZ,World.cell?_alloc_past (w:=w.drew) _ b j hbw];exact h
 have hOv:∀j v,w.cell? ⟨vb,j,none⟩=some v->W1.cell? ⟨vb,j,none⟩=some v:=λj v h=>by rw[vZ,World.cell?_alloc_past (w:=w.drew) _ vb j hvw];exact h
 have aaH:∀(W:World),(∀x,W.cell? x=W1.cell? x)->(∀x,W.frozen? x=W1.frozen? x)->∀ty dc,(Builtin.copy_ #[23,23] ty #[.slice (some ⟨w.heap.size,i*2,none⟩) (n+m-i) dc,.slice (some ⟨vb,vo,none⟩) m vc]).run Tryz.prog W = .ok (goInt m) (W.setCells w.heap.size (i*2) vs):=λW Lw UY ty dc =>
  m9 W _ _ ty 25 w.heap.size (i*2) (n+m-i) dc ⟨vb,vo,none⟩ m vc vs m 2 ts hsz nt hvl
   (λj v hj=>by rw[Addr.add_lit,Lw];exact hOv _ v (hvs j v hj))
   (λj hj=>by rw[Lw];exact hN _ Wf) (λj hj=>by rw[UY];exact hNf _) Dr
 have afg:G<=9223372036854775807:=by
  have:=grownCap_le_maxLen w (n+m) c 25 (by unfold maxLen;omega);rw[<- hG]at this;unfold maxLen at this;omega
 have hGi:¬(G=i):=by omega
 have afh:¬(G=i+m):=by omega
 have hci:¬(c=i):=by omega
 have hbN:b≠w.heap.size:=by omega
 have Ds:(cs.drop (i*2)).length=(n-i)*2:=by rw[aeI,kZ];omega
 have U0:∀(W:World),(∀x,W.cell? x=(W1.setCells w.heap.size (i*2) vs).cell? x)->(∀x,W.frozen? x=(W1.setCells w.heap.size (i*2) vs).frozen? x)->∀ty dc sc,(Builtin.copy_ #[23,23] ty #[.slice (some ⟨w.heap.size,(i+m)*2,none⟩) (n+m-(i+m)) dc,.slice (some ⟨b,i*2,none⟩) (n-i) sc]).run Tryz.prog W = .ok (goInt ((n-i:Nat):Int)) (W.setCells w.heap.size ((i+m)*2) (cs.drop (i*2))):=λW Lw UY ty dc sc =>
  m9 W _ _ ty 25 w.heap.size ((i+m)*2) (n+m-(i+m)) dc ⟨b,i*2,none⟩ (n-i) sc (cs.drop (i*2)) (n-i) 2 ts hsz nt Ds
   (λj v hj=>by
    rw[Addr.add_lit,Lw,World.cell?_setCells_out _ _ _ _ _ (λh _=>absurd h hbN)]
    exact hOb _ v (hcs (i*2+j) v Wd))
   (λj hj=>by rw[Lw];exact dJ (λt ht=>hN _ (by rw[hvl]at ht;omega)) (hN _ ta))
   (λj hj=>by rw[UY,World.frozen?_setCells];exact hNf _) (λv hv=>h1c v (afb hv))
 subst vZ;have hE1:∀x,((w.alloc (.cells oA 25)).drew).cell? x=(w.drew.alloc (.cells oA 25)).cell? x:=λx=>rfl;have hE2:∀x,((w.alloc (.cells oA 25)).drew).frozen? x=(w.drew.alloc (.cells oA 25)).frozen? x:=λx=>rfl;have hF1:∀x,(((w.alloc (.cells oA 25)).drew.setCells w.heap.size (i*2) vs).drew).cell? x=((w.drew.alloc (.cells oA 25)).setCells w.heap.size (i*2) vs).cell? x:=λx=>rfl;have hF2:∀x,(((w.alloc (.cells oA 25)).drew.setCells w.heap.size (i*2) vs).drew).frozen? x=((w.drew.alloc (.cells oA 25)).setCells w.heap.size (i*2) vs).frozen? x:=λx=>rfl;have hw1:i64.wrap ((i:Int)+(m:Int))=(i:Int)+(m:Int):=by rw[IntKind.wrap_i64];omega
 have Ux:i64.wrap ((n:Int)+(m:Int))=(n:Int)+(m:Int):=by rw[IntKind.wrap_i64];omega
 have hw3:i64.wrap ((n:Int)+(m:Int)-(i:Int))=(n:Int)+(m:Int)-(i:Int):=by rw[IntKind.wrap_i64];omega
 have GQ:(0:Int)<=(i:Int)+(m:Int):=by omega
 have hin:i<=n:=by omega
 have htn:((i:Int)+(m:Int)).toNat=i+m:=by omega
 have hb3:(i:Int)<=(n:Int):=by omega
 clear hkk hik hold Jm hG SW hZS hZn Ev;refine Calls.mono (R:=λe w'=>e = .returned (.slice (some ⟨w.heap.size,0,none⟩) (n+m) G)/\w'=(((w.alloc (.cells oA 25)).drew.setCells w.heap.size (i*2) vs).drew).setCells w.heap.size ((i+m)*2) (cs.drop (i*2))) ?_ ?_;rotate_left
 ·rintro e w' ⟨h1,h2⟩;exact⟨G,oA,hGn,bn,Yc,h1,h2⟩
 clear Yc
 go_enter func108,Tryz.ntmps108
 go_wp2_with (first
  |(at_builtin;refine Lib.wpList_append_run _ rfl _ _ _ _ rfl _ _ rfl rfl _ _ (Yb _) ?_)
  |(at_builtin;refine lW _ rfl _ _ 23 23 rfl _ _ rfl rfl (aaH _ hE1 hE2 _ _) ?_)
  |(at_builtin;refine lW _ rfl _ _ 23 23 rfl _ _ rfl rfl (U0 _ (λ_=>rfl) (λ_=>rfl) _ _ _) ?_))
 go_region_law_o (refine ur Z _ _ 23 23 Z (.slice (some ⟨w.heap.size,(i+m)*2,none⟩) (n+m-(i+m)) (G-(i+m))) (.slice (some ⟨b,i*2,none⟩) (n-i) (c-i)) nu nu (U0 _ hF1 hF2 3 (G-(i+m)) (c-i)) ?_)
 go_wp2
 go_ret
 exact⟨Z,Z⟩
set_option maxHeartbeats 1000000 in
def Yd(b n c i vb vo vc:Nat)(cs vs:L Value)(w:World)(hi:i<=n)(hn0:0<n)(hnc:n<=c)(rN:(n+1)*32<=140737488355328)(Lc:vb≠b)
  (kZ:cs.length=n*2)(hvl:vs.length=1*2)
  (hcs:∀(j:Nat) v,cs[j]?=some v->w.cell? ⟨b,j,none⟩=some v)(hsp:∀j,j<c*2->(w.cell? ⟨b,j,none⟩).isSome=true)(hfz:∀j,w.frozen? ⟨b,j,none⟩=false)
  (hvs:∀(j:Nat) v,vs[j]?=some v->w.cell? ⟨vb,vo+j,none⟩=some v)(h1c:∀v∈cs,v.oneCell'=true)(Dr:∀v∈vs,v.oneCell'=true) :
  Calls Tryz.prog 108 #[.slice (some ⟨b,0,none⟩) n c,.int .i64 i,.slice (some ⟨vb,vo,none⟩) 1 vc] w λe w' =>
   ∃b' cap',e = .returned (.slice (some ⟨b',0,none⟩) (n+1) cap')/\n+1<=cap'/\Rf w b w' b' (cs.take (i*2)++(vs++cs.drop (i*2))):=by
 have Ev:(cs.take (i*2)).length=i*2:=by rw[aeD,kZ];omega
 have hbw:b<w.heap.size:=block_lt_of_cell (hcs 0 _ (aea (by rw[kZ];omega)));have jg:∀(j:Nat) u,(cs.take (i*2)++(vs++cs.drop (i*2)))[j]?=some u->(j<i*2/\cs[j]?=some u)\/(i*2<=j/\j<(i+1)*2/\vs[j-i*2]?=some u)\/((i+1)*2<=j/\(cs.drop (i*2))[j-(i+1)*2]?=some u):=by
  intro j u hj;rw[afI]at hj;split at hj
  ·rename_i h;rw[Ev]at h;rw[afm,if_pos h]at hj;exact .inl ⟨h,hj⟩
  ·rename_i h;rw[Ev]at h hj;rw[afI]at hj;split at hj
   ·rename_i h2;rw[hvl]at h2;exact .inr (.inl ⟨bn,bn,hj⟩)
   ·rename_i h2;rw[hvl]at h2 hj;refine .inr (.inr ⟨bn,?_⟩);rwa[show j-(i+1)*2=j-i*2-1*2 by omega]
 have Ds:(cs.drop (i*2)).length=(n-i)*2:=by rw[aeI,kZ];omega
 by_cases he:i=n
 ·subst he;have OL:cs.drop (i*2)=[]:=afd bn;by_cases hr:i+1<=c
  ·refine Calls.mono (Lx b i c vb vo 1 vc vs w bn hr hvl hsp hfz hvs Dr) ?_;rintro e w' ⟨h1,rfl⟩;obtain⟨k1,k2,k3,k4,k5⟩:=eH b vs (i*2) w;refine⟨b,c,h1,hr,⟨k2,k3,k4,bn,.inl Z,λj u hj=>?_,λb2 _ h=>k5 b2 h⟩⟩;have hss:∀j,j<vs.length->(w.cell? ⟨b,i*2+j,none⟩).isSome=true:=λj hj=>hsp _ bn;rw[eB hss];rcases jg j u hj with ⟨h,h'⟩|⟨h,h',h2⟩|⟨h,h2⟩
   ·rw[if_neg bn];exact hcs j u h'
   ·rw[if_pos bn];exact h2
   ·rw[OL]at h2;simp at h2
  ·refine Calls.mono (Ly b i c vb vo 1 vc cs vs w bn hnc bn rN kZ hvl hcs hvs Dr) ?_;rintro e w' ⟨h1,rfl⟩;refine⟨_,_,h1,grownCap_ge w _ _ _,⟨Z,Z,Z,by simp[World.alloc],.inr (aaj _),λj u hj=>?_,λb2 h _=>?_⟩⟩
   ·rw[World.cell?_alloc_at (w:=w.drew) _ _ w.heap.size j rfl];have hjl:j<(cs++vs).length:=by
     rw[aaz,kZ,hvl];rcases jg j u hj with ⟨h,h'⟩|⟨h,h',h2⟩|⟨h,h2⟩
     ·omega
     ·omega
     ·rw[OL]at h2;simp at h2
    rw[aeK (by rw[aeZ];exact hjl),agp];rw[OL,aec,afC bn]at hj;exact hj
   ·show(w.drew.alloc _).heap[b2]?=_;simp only[World.alloc];rw[agl (by exact h)];exact(aeN (xs:=w.heap) h).symm
 ·have hi':i<n:=by omega
  by_cases hr:n+1<=c
  ·refine Calls.mono (SU b n c i vb vo 1 vc cs vs w hi' bn hr bn Lc kZ hvl hcs hsp hfz hvs h1c Dr) ?_;rintro e w' ⟨h1,rfl⟩;obtain⟨k1,k2,k3,k4,k5⟩:=eH b (cs.drop (i*2)) ((i+1)*2) w.drew;obtain⟨l1,l2,l3,l4,l5⟩:=eH b vs (i*2) (w.drew.setCells b ((i+1)*2) (cs.drop (i*2)));have td:∀j,j<(cs.drop (i*2)).length->(w.drew.cell? ⟨b,(i+1)*2+j,none⟩).isSome=true:=λj hj=>hsp _ ta;have pU:∀j,j<vs.length->((w.drew.setCells b ((i+1)*2) (cs.drop (i*2))).cell? ⟨b,i*2+j,none⟩).isSome=true:=λj hj=>dJ td (hsp _ bn);refine⟨b,c,h1,hr,⟨adl,adm,adn,ac1,.inl Z,λj u hj=>?_,λb2 _ h=>by rw[l5 b2 h,k5 b2 h];rfl⟩⟩;rw[eB pU,eB td];rcases jg j u hj with ⟨h,h'⟩|⟨h,h',h2⟩|⟨h,h2⟩
   ·rw[if_neg bn,if_neg bn];exact hcs j u h'
   ·rw[if_pos bn];exact h2
   ·have hjj:j-(i+1)*2<(cs.drop (i*2)).length:=by
     rcases afN (j-(i+1)*2) (cs.drop (i*2)).length with hh|hh
     ·exact hh
     ·rw[afu hh]at h2;cases h2
    rw[if_neg bn,if_pos bn];exact h2
  ·refine Calls.mono (UZ b n c i vb vo 1 vc cs vs w hi' bn hnc bn rN kZ hvl hcs hvs h1c Dr) ?_;rintro e w' ⟨G,oA,hG,hR,Yc,h1,rfl⟩;obtain⟨w1,hw1⟩:∃w1,w1=(w.alloc (.cells oA 25)).drew:=⟨_,rfl⟩
   have hN:∀j,j<G*2->(w1.cell? ⟨w.heap.size,j,none⟩).isSome=true:=λj hj=>by
    rw[hw1];show((w.alloc (.cells oA 25)).cell? ⟨w.heap.size,j,none⟩).isSome=true;rw[World.cell?_alloc_at (w:=w) oA _ w.heap.size j Z,aeN bn];rfl
   have hC:∀j u,j<i*2->cs[j]?=some u->w1.cell? ⟨w.heap.size,j,none⟩=some u:=λj u hj hu=>by
    rw[hw1];show(w.alloc (.cells oA 25)).cell? ⟨w.heap.size,j,none⟩=some u;rw[World.cell?_alloc_at (w:=w) oA _ w.heap.size j Z,Yc j hj];exact hu
   have hH:∀b2,b2<w.heap.size->w1.heap[b2]?=w.heap[b2]?:=λb2 h=>by
    rw[hw1];show(w.alloc _).heap[b2]?=_;simp only[World.alloc];rw[agl h];exact(aeN (xs:=w.heap) h).symm
   have hS:w1.heap.size=w.heap.size+1:=by rw[hw1];show(w.heap.push _).size=_;rw[Array.size_push]
   have hO:w1.os=w.os/\w1.tape=w.tape/\w1.output=w.output:=by rw[hw1];exact⟨Z,Z,Z⟩
   rw[<- hw1];obtain⟨k1,k2,k3,k4,k5⟩:=eH w.heap.size vs (i*2) w1;obtain⟨l1,l2,l3,l4,l5⟩:=eH w.heap.size (cs.drop (i*2)) ((i+1)*2) (w1.setCells w.heap.size (i*2) vs).drew;have td:∀j,j<vs.length->(w1.cell? ⟨w.heap.size,i*2+j,none⟩).isSome=true:=λj hj=>hN _ bn;have pU:∀j,j<(cs.drop (i*2)).length->((w1.setCells w.heap.size (i*2) vs).drew.cell? ⟨w.heap.size,(i+1)*2+j,none⟩).isSome=true:=λj hj=>by
    show((w1.setCells w.heap.size (i*2) vs).cell? _).isSome=true;exact dJ td (hN _ ta)
   refine⟨_,_,h1,hG,⟨by rw[l2];exact k2.trans hO.1,by rw[l3];exact k3.trans hO.2.1,by rw[l4];exact k4.trans hO.2.2,by rw[l1];show w.heap.size<=(w1.setCells w.heap.size (i*2) vs).heap.size;rw[k1,hS];omega,.inr (aaj _),λj u hj=>?_,λb2 h _=>?_⟩⟩
   ·rw[eB pU];rcases jg j u hj with ⟨h,h'⟩|⟨h,h',h2⟩|⟨h,h2⟩
    ·rw[if_neg bn];show(w1.setCells w.heap.size (i*2) vs).cell? _=_;rw[eB td,if_neg bn];exact hC j u h h'
    ·rw[if_neg bn];show(w1.setCells w.heap.size (i*2) vs).cell? _=_;rw[eB td,if_pos bn];exact h2
    ·have hjj:j-(i+1)*2<(cs.drop (i*2)).length:=by
      rcases afN (j-(i+1)*2) (cs.drop (i*2)).length with hh|hh
      ·exact hh
      ·rw[afu hh]at h2;cases h2
     rw[if_pos bn];exact h2
   ·rw[l5 b2 bn];show(w1.setCells w.heap.size (i*2) vs).heap[b2]?=_;rw[k5 b2 bn,hH b2 h]
open Go.cK
def lX:∀(l:L Ty)(r:CV),r∈aA l->r.cells.length=2
 |[],r,h=>by simp[aA]at h
 |.mk T us::l,r,h=>by
  simp only[aA,aeB]at h;rcases h with rfl|h
  ·rfl
  ·exact lX l r h
def DN:∀(l:L Ty),(bC (aA l)).all CV.one=true
 |[]=>rfl
 |.mk T us::l=>by
  simp only[aA,dg,bC,CV.cells,afL,DN l,afl];rfl
def v8:∀(n:Nat)(l:L Ty),(aA l).take n=aA (l.take n)
 |0,l=>rfl
 |n+1,[]=>rfl
 |n+1,x::l=>by simp only[aA,afi,v8 n l]
attribute [local irreducible] AK af bg cn
def v9(x:Ty)(l:L Ty)(E:l.length<=1099511627776):oY 24 none [.c (.sl 2 (aA (x::l)))] (.gS 999999 0 2 (l.length+1)) (some (bC (aA (x::l)))):=by
 have h1:=aZ l;have p:([]++aA (x::l)).length=l.length+1:=by simp only[aA,aeU,aac,h1]
 have Q:((([]:L CV).length)+(aA (x::l)).length)*32<=140737488355328:=by simp only[aA,aac,aad,h1];omega
 obtain⟨T,us⟩:=x;refine dP.of func24 Z (λJ w=>call24 J w) (aep Z) [(0,.c (.sl 2 (aA (.mk T us::l))))] ⟨[],[],[]⟩ Z Z λβ=>?_;have hf:=func24
 repeat' (first|refine kz ?_|refine ze ?_ ?_|(intro h;first|(cases h;done)|rw[h]|skip)|refine AK.qA rfl ?_ ?_|refine af.uu hX kn rfl rfl rfl rfl rfl rfl rfl rfl rfl rfl rfl rfl rfl rfl rfl rfl rfl rfl (λh=>by cases h) rfl rfl rfl Q rfl p ?_|(refine uA rfl ?_ ?_<;>(try (show(_:Nat)*_<=_;dsimp only))))
 exact AK.aaI hX hf Z Z Z
def Lz(s:L Ty)(i:Nat)(H:i<s.length)(hl:s.length<=20000000000):oY 107 (some (bC (aA s))) (.gS 1000000 0 2 s.length::[CV.int .i64 (i:Int),CV.int .i64 ((i+1:Nat):Int)].map AV.c)
  (.c (.sl 2 (aA (s.take i++s.drop (i+1))))) none:=by
 have B:=aZ s;have A:(bC (aA s)).length=s.length*2:=by rw[dK (lX s),B]
 have U:bC (aA (s.take i++s.drop (i+1)))=(bC (aA s)).take (i*2)++(bC (aA s)).drop ((i+1)*2):=by
  rw[kR,dS,uv (lX s) i bn,uw (lX s) (i+1) bn,v8,vT]
 refine dP.raw (λJ w=>call107 J w) bn (lX _) (DN _) ?_;intro w G b V vs us hb hGb iW q Q W I C P;simp only[bR,Rel]at P;obtain⟨_,_,rfl,rfl,_,_,rfl,rfl,rfl⟩:=P;have E:vs.length=s.length*2:=by rw[oZ q,A]
 have h1:=nD q W;refine⟨vs.take (i*2)++vs.drop ((i+1)*2),by rw[U];exact fK (tf _ q) (tg _ q),?_⟩;have p:∀o,o<V*2->(w.cell? ⟨b,o,none⟩).isSome=true:=λo ho=>by
  obtain⟨u,T⟩:=(C o).1 ho;rw[T];rfl
 have N:(vs.drop ((i+1)*2)).length=(s.length-(i+1))*2:=by rw[aeI,E];omega
 refine Calls.mono (Ya s.length V i b w H I (vs.drop ((i+1)*2)) _ N (λu T=>h1 u (afb T)) (λj u Y=>Q _ u (by rwa[agk]at Y)) p (λo=>(C o).2) Z) ?_;rintro e w' ⟨e1,rfl⟩;obtain⟨k1,k2,k3,k4,k5⟩:=eH b (vs.drop ((i+1)*2)) (i*2) w.drew;generalize S:[Value.int IntKind.i64 0,Value.slice none 0 0]=zs;have hzl:zs.length=2:=by rw[<- S];rfl
 obtain⟨l1,l2,l3,l4,l5⟩:=eH b zs ((s.length-1)*2) (w.drew.setCells b (i*2) (vs.drop ((i+1)*2)));have M:∀j,j<(vs.drop ((i+1)*2)).length->(w.drew.cell? ⟨b,i*2+j,none⟩).isSome=true:=λj Y=>p _ (by rw[N]at Y;omega);have pU:∀j,j<zs.length->((w.drew.setCells b (i*2) (vs.drop ((i+1)*2))).cell? ⟨b,(s.length-1)*2+j,none⟩).isSome=true:=λj Y=>dJ M (p _ bn);have Ag:(aA (s.take i++s.drop (i+1))).length=s.length-1:=by rw[aZ,aaz,aeD,aeI];omega
 refine⟨b,V,by rw[Ag];exact e1,bn,⟨adl,adm,adn,ac1,.inl Z,λj u Y=>?_,λD _ h=>by rw[l5 D h,k5 D h];rfl⟩⟩;have K:(vs.take (i*2)).length=i*2:=by rw[aeD,E];omega
 rw[eB pU,eB M];rw[afI]at Y;split at Y
 ·rename_i h;rw[K]at h;rw[afm,if_pos h]at Y;rw[if_neg bn,if_neg bn];exact Q j u Y
 ·rename_i h;rw[K]at h Y;have hjj:j-i*2<(vs.drop ((i+1)*2)).length:=by
   rcases afN (j-i*2) (vs.drop ((i+1)*2)).length with O|O
   ·exact O
   ·rw[afu O]at Y;cases Y
  rw[if_neg bn,if_pos bn];exact Y
def LA(s:L Ty)(x:Ty)(i:Nat)(M:0<s.length)(hi:i<=s.length)(hl:s.length<=20000000000):oY 108 (some (bC (aA s))) (.gS 1000000 0 2 s.length::[CV.int .i64 (i:Int),CV.sl 2 (aA [x])].map AV.c)
  (.c (.sl 2 (aA (s.take i++x::s.drop i)))) none:=by
 have z1:=aZ s;have hc:(bC (aA s)).length=s.length*2:=by rw[dK (lX s),z1]
 have O:bC (aA (s.take i++x::s.drop i))=(bC (aA s)).take (i*2)++(bC (aA [x])++(bC (aA s)).drop (i*2)):=by
  rw[kR,dS,uv (lX s) i bn,uw (lX s) i bn,v8,vT];simp only[aA,bC,aec]
 refine dP.raw (λJ w=>call108 J w) M (lX _) (DN _) ?_;intro w G b V vs us hb N K q jz W I C H;obtain⟨T,ts⟩:=x;simp only[bR,Rel,aA,dg,aac,aad]at H;obtain⟨_,_,rfl,rfl,_,_,rfl,⟨base,len,vc,rfl,rfl,hvc,Y⟩,rfl⟩:=H;have E:vs.length=s.length*2:=by rw[oZ q,hc]
 have h1:=nD q W;have p:∀o,o<V*2->(w.cell? ⟨b,o,none⟩).isSome=true:=λo ho=>by
  obtain⟨u,hu⟩:=(C o).1 ho;rw[hu];rfl
 rcases Y with Y|⟨D,vo,rfl,Y⟩
 ·simp at Y
 simp only[fL,pL,dy,agy]at Y;obtain⟨⟨⟨Q,g1,r1,o1⟩,⟨P,g2,r2,o2⟩⟩,_⟩:=Y;have Lc:D≠b:=λh=>by subst h;rw[N]at g1;cases g1
 have B:bR G (bC (aA [.mk T ts])) [Q,P]:=by
  simp only[aA,dg,bC,CV.cells,aec,bR];exact⟨Q,_,Z,r1,P,_,Z,r2,Z⟩
 refine⟨vs.take (i*2)++([Q,P]++vs.drop (i*2)),by rw[O];exact fK (tf _ q) (fK B (tg _ q)),?_⟩;refine Calls.mono (Yd b s.length V i D vo vc vs [Q,P] w hi M I bn Lc E Z jz p (λo=>(C o).2) (λj v U=>?_) h1 (nD B (DN _))) ?_
 ·rcases j with _|_|j
  ·simp at U;subst U;exact K _ _ _ g1
  ·simp at U;subst U;exact K _ _ _ g2
  ·simp at U
 ·rintro e w' ⟨b',S,e1,e2,e3⟩;have A:(aA (s.take i++Ty.mk T ts::s.drop i)).length=s.length+1:=by rw[aZ,aaz,aac,aeD,aeI];omega
  exact⟨b',S,by rw[A];exact e1,by rw[A];exact e2,e3⟩
end Go.Proofs
set_option maxRecDepth 100000
namespace Go.Proofs
open Go.cK
attribute [local irreducible] AK af bg cn dP mH
def Jn(T:Int)(us:L Ty):gT 108 [.v (.own 2 []),.v (.c (.int .i64 0)),.v (.c (.sl 2 [dg (.mk T us)]))] [.own 2 [dg (.mk T us)]] []:=by
 refine en func108 call108 [(0,.own (.tok 1000000 0) 2 ([])),(1,.c (.int .i64 0)),(2,.c (.sl 2 [dg (.mk T us)]))] [] [(1000000,0)] [1000000] λβ hf=>?_
 repeat' (first|refine kz ?_|refine ze ?_ ?_|(intro h;first|(cases h;done)|rw[h]|skip)|(refine uA Z ?_ ?_<;>(try (show(_:Nat)*_<=_;dsimp only))))
 all_goals first|exact Z|(show _<=_;simp only[aac,aad];omega)
def Rg{s:L Ty}{i:Nat}{t:Ty}(h:s[i]?=some t):s.getD i kX=t:=by rw[afa,h];rfl
def LC(P nN:Int)(nS:L UInt8)(J:L Nd)(B s:L Ty)(hP:40<=P/\P<=44)(hf:bW P J=some B)(hs:rJ s)(D:s.length<=9999999990) :
  ah 68 [aW (.mk 2 nN P nS J),.sl 2 (aA s)] (jF (gV P J s)):=by
 have SQ:P=40\/P=41\/P=42\/P=43\/P=44:=by omega
 clear hP;rcases SQ with rfl|rfl|rfl|rfl|rfl
 ·obtain⟨rfl,rfl⟩:=dN hf rfl;clear hf;rcases s with _|⟨⟨T,us⟩,r⟩
  ·rw[show gV 40 [] []=aR 5 from by simp[gV],aD bT];refine qn func68 call68 λβ hf=>?_;exact dw
  ·rw[show gV 40 [] (.mk T us::r)=eT r from by simp[gV],aI];have el:=zd (aA (.mk T us::r)) 0 CK;have Y:=ke r;rw[aI]at Y;refine qn func68 call68 λβ hf=>?_;exact dw
 ·obtain⟨N,p,S,xs,rfl,M,n2,rfl⟩:=Jo hf rfl;clear hf;have C:=aZ s;by_cases u:1<=N;rotate_left
  ·rw[show gV 41 [.mk 0 N p S xs] s=aR 5 from by unfold gV;rw[if_neg bT,if_neg bT,if_pos rfl];exact if_neg (λh=>u h.1),aD bT];have e1:decide (N>=1)=false:=aap u;refine qn func68 call68 λβ hf=>?_;exact dw
  have e1:decide (N>=1)=true:=aak u;by_cases c2:N<=s.length;rotate_left
  ·rw[show gV 41 [.mk 0 N p S xs] s=aR 5 from by unfold gV;rw[if_neg bT,if_neg bT,if_pos rfl];exact if_neg (λh=>c2 h.2.1),aD bT];have V:decide (N<=(((aA s).length:Nat):Int))=false:=aap bn;refine qn func68 call68 λβ hf=>?_;exact dw
  have V:decide (N<=(((aA s).length:Nat):Int))=true:=aak bn;obtain⟨j,hj⟩:∃j:Nat,N-1=(j:Int):=⟨(N-1).toNat,bn⟩
  have K:i64.wrap (N-1)=(j:Int):=by rw[iy bn bn,hj]
  obtain⟨t,I⟩:∃t,s[j]?=some t:=⟨s[j]' bn,cS⟩
  have htm:=hs t (aaB I);have htz:=htm.2;have A:=uq t bn;have H:=gA I;have hgd:=Rg I;have Q:Lq ([Nd.mk 0 N p S xs].getD 0 uo)=N:=rfl;have hNj:(N-1).toNat=j:=by omega
  have G:gV 41 [.mk 0 N p S xs] s=if mH t=true then eT (t::s)else aR 5:=by
   unfold gV;rw[if_neg bT,if_neg bT,if_pos Z,Q,hNj,hgd];by_cases W:mH t=true
   ·rw[if_pos ⟨u,c2,W⟩,if_pos W]
   ·rw[if_neg (λh=>W h.2.2),if_neg W]
  rw[G];obtain⟨T,us⟩:=t;cases W:mH (.mk T us)with
  |false =>
   rw[W]at A;rw[if_neg bT,aD bT];refine qn func68 call68 λβ hf=>?_
   repeat' (first|refine kz ?_|refine zc ?_ ?_|(intro h;first|(cases h;done)|rw[h]|skip)|refine uI Z (0) Z (Z) Z ?_|refine uI Z j K H Z ?_|refine uC Z A ?_)
   all_goals first|exact Wk.refl _|exact Bu Z Z
  |true =>
   rw[W]at A;have Y:=bE s [.mk T us];rw[aI]at Y;rw[if_pos Z,aI];refine qn func68 call68 λβ hf=>?_
   repeat' (first|refine kz ?_|refine zc ?_ ?_|(intro h;first|(cases h;done)|rw[h]|skip)|refine uI Z (0) Z (Z) Z ?_|refine uI Z j K H Z ?_|refine uC Z A ?_|refine uC Z Y ?_)
   all_goals first|exact Wk.refl _|exact Bu Z Z
 ·obtain⟨rfl,rfl⟩:=dN hf rfl;clear hf;rcases s with _|⟨⟨T,us⟩,_|⟨⟨U,vs⟩,q⟩⟩
  ·rw[show gV 42 [] []=aR 5 from by simp[gV],aD bT];refine qn func68 call68 λβ hf=>?_;exact dw
  ·rw[show gV 42 [] [.mk T us]=aR 5 from by simp[gV],aD bT];refine qn func68 call68 λβ hf=>?_;exact dw
  ·rw[show gV 42 [] (.mk T us :: .mk U vs::q)=eT (.mk U vs :: .mk T us::q)from by simp[gV],aI];have el:=zd (aA (.mk T us :: .mk U vs::q)) 1 CK;have Y:=bE q [.mk U vs,.mk T us];rw[aI]at Y;refine qn func68 call68 λβ hf=>?_;exact dw
 ·obtain⟨N,p,S,xs,rfl,M,n2,rfl⟩:=Jo hf rfl;clear hf;have C:=aZ s;obtain⟨j,rfl⟩:=afz M;have Q:Lq ([Nd.mk 0 (j:Int) p S xs].getD 0 uo)=(j:Int):=rfl;by_cases u:(j:Int)<s.length;rotate_left
  ·rw[show gV 43 [.mk 0 j p S xs] s=aR 5 from by unfold gV;rw[if_neg bT,if_neg bT,if_neg bT,if_pos Z,Q];exact if_neg u,aD bT];have V:decide ((j:Int)<(((aA s).length:Nat):Int))=false:=aap bn;refine qn func68 call68 λβ hf=>?_;exact dw
  have Uy:j<s.length:=by omega
  have V:decide ((j:Int)<(((aA s).length:Nat):Int))=true:=aak bn;obtain⟨t,I⟩:∃t,s[j]?=some t:=⟨s[j],by simp[Uy]⟩
  have H:=gA I
  rw[show gV 43 [.mk 0 j p S xs] s=eT (t::(s.take j++s.drop (j+1)))from by
   unfold gV;rw[if_neg bT,if_neg bT,if_neg bT,if_pos Z,Q,if_pos u,aaC,Rg I],aI]
  have K:i64.wrap ((j:Int)+1)=((j+1:Nat):Int):=by rw[iy bn bn];rfl
  have Bz:=Lz s j Uy bn;rw[<- K]at Bz;have Y:=bE (s.take j++s.drop (j+1)) [t] abP;rw[aI]at Y;clear I;rcases s with _|⟨a,l⟩
  ·simp at Uy
  have E:=v9 a l (by simp only[aac]at D;omega);obtain⟨T,us⟩:=t;refine qn func68 call68 λβ hf=>?_
  repeat' (first|refine kz ?_|refine zc ?_ ?_|(intro h;first|(cases h;done)|rw[h]|skip)|refine uI Z (0) Z (Z) Z ?_|refine uI Z j Z H Z ?_|refine uC Z Y ?_|refine af.mq kn Z Z Z Z Z Z E Z ?_|refine af.Jp kn Z Z Z Z Z Z Z Bz Z Z ?_)
  all_goals first|exact Wk.refl _|exact Bu Z Z
 ·obtain⟨N,p,S,xs,rfl,M,n2,rfl⟩:=Jo hf rfl;clear hf;have C:=aZ s;obtain⟨j,rfl⟩:=afz M;have Q:Lq ([Nd.mk 0 (j:Int) p S xs].getD 0 uo)=(j:Int):=rfl;rcases s with _|⟨⟨T,us⟩,r⟩
  ·rw[show gV 44 [.mk 0 j p S xs] []=aR 5 from by simp[gV],aD bT];have V:decide ((j:Int)<((([]:L CV).length:Nat):Int))=false:=aap cS;refine qn func68 call68 λβ hf=>?_;exact dw
  have G:gV 44 [.mk 0 j p S xs] (.mk T us::r)=if(j:Int)<r.length+1 then eT (r.take j ++ .mk T us::r.drop j)else aR 5:=by
   unfold gV;rw[if_neg bT,if_neg bT,if_neg bT,if_neg bT,if_pos rfl];simp only[Q,aaC]
  rw[G];simp only[aac]at D C;by_cases u:(j:Int)<r.length+1;rotate_left
  ·rw[if_neg u,aD bT];have V:decide ((j:Int)<(((aA (.mk T us::r)).length:Nat):Int))=false:=aap bn;refine qn func68 call68 λβ hf=>?_;exact dw
  rw[if_pos u,aI];have V:decide ((j:Int)<(((aA (.mk T us::r)).length:Nat):Int))=true:=aak bn;rcases r with _|⟨a,l⟩
  ·obtain rfl:j=0:=by simp at u;omega
   have E:=fu [] cS;have O:=Jn T us;refine qn func68 call68 λβ hf=>?_;exact dw
  ·have E:=v9 a l (by simp only[aac]at D;omega);have O:=LA (a::l) (.mk T us) j cS bn (by simp only[aac]at *;omega);refine qn func68 call68 λβ hf=>?_
   repeat' (first|refine kz ?_|refine zc ?_ ?_|(intro h;first|(cases h;done)|rw[h]|skip)|refine uI Z (0) Z (Z) Z ?_|refine af.mq kn Z Z Z Z Z Z E Z ?_|refine af.Jp kn Z Z Z Z Z Z Z O Z Z ?_)
   all_goals first|exact Wk.refl _|exact Bu Z Z
end Go.Proofs
