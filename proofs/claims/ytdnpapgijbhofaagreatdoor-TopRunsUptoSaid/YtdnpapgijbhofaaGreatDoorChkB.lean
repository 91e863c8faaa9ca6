/- What slices.Delete of one row and slices.Insert of one row do to rows  -/
import Derived.Test.YtdnpapgijbhofaaGreatDoorCtx
import Derived.Test.YtdnpapgijbhofaaGreatDoorLibD
import Derived.WalkKit
import Derived.KernelRfl
import Derived.Deep.LoopGhost
import Derived.Deep.RegionLaw
import Derived.Lib.Walk
import Derived.Lib.SliceRun
import Derived.Lib.AppendZeros
import Derived.Laws.IdiomCopy
import Derived.Laws.Externs
import Derived.Shelf.RegionOpenPlain
import Derived.Test.YtdnpapgijbhofaaGreatDoorChk3
open Go.IntKind
open Go.Proofs.Tryz
set_option linter.defProp false
set_option maxHeartbeats 0
set_option linter.unusedVariables false
set_option linter.unusedSimpArgs false
set_option maxRecDepth 100000
namespace Go.Proofs
open Go.RowKit Go.Lib Go.cw
def Bv:(Tryz.prog.info? 25).map (λi=>(i.zero,i.size,i.bytes))=some (some (.agg #[.int .i64 0,.slice none 0 0]),2,32):=by kernel_rfl
def Wt:(Builtin.zeroCells (Value.agg #[.int .i64 0,.slice none 0 0]).cells 1).toList=[.int .i64 0,.slice none 0 0]:=by simp[Builtin.zeroCells,Value.cells,List.range,List.range.loop]
set_option maxHeartbeats 4000000 in
set_option maxRecDepth 1000000 in
def ZW(n cap i b:Nat)(w:World)(hi:i<n)(hcap:n<=cap)(news zs:L Value)(hlen:news.length=(n-(i+1))*2)(h1:∀u∈news,u.oneCell'=true)
  (hn:∀(j:Nat) u,news[j]?=some u->w.cell? ⟨b,(i+1)*2+j,none⟩=some u)(hall:∀o,o<cap*2->(w.cell? ⟨b,o,none⟩).isSome=true)(hfr:∀o,w.frozen? ⟨b,o,none⟩=false)
  (hz:zs=[.int .i64 0,.slice none 0 0]) :
  Calls Tryz.prog 146 #[.slice (some ⟨b,0,none⟩) n cap,.int .i64 i,.int .i64 ((i+1:Nat):Int)] w λe w'=>e = .returned (.slice (some ⟨b,0,none⟩) (n-1) cap)/\w'=(w.drew.setCells b (i*2) news).setCells b ((n-1)*2) zs:=by
 have mixed:=Tryz.mixed;have hlt:i+1<=n:=hi;have hne:¬((i:Int)=((i+1:Nat):Int)):=by omega
 obtain⟨i0,sM,Wu,MV,Um⟩:=info_parts Bv;have ts:=Tryz.underlying23;have hic:i<=cap:=by omega
 have hjc:i+1<=cap:=by omega
 have FF:(0:Int)<=(i:Int)+1:=by omega
 have Qp:(i:Int)+1<=(n:Int):=by omega
 obtain⟨A,hA,hsrc⟩:∃A:Addr,(if cap=i+1 then(some ⟨b,0,none⟩:Option Addr)else some ⟨b,(i+1)*2,none⟩)=some A/\Hid (∀(t:Nat) u,news[t]?=some u->w.drew.cell? (A.add t)=some u):=by
  by_cases h:cap=i+1
  ·refine⟨⟨b,0,none⟩,ta,λt u hu=>?_⟩;have h0:news.length=0:=by rw[hlen];omega
   rw[List.length_eq_zero_iff.1 h0]at hu;simp at hu
  refine⟨⟨b,(i+1)*2,none⟩,ta,λt u hu=>?_⟩;rw[Addr.add_lit];exact hn t u hu
 have s1:Hid (news.length=(n-(i+1))*2):=hlen;have s2:Hid (∀u∈news,u.oneCell'=true):=h1;have s3:Hid (∀t,t<news.length->(w.drew.cell? ⟨b,0+i*2+t,none⟩).isSome=true/\w.drew.frozen? ⟨b,0+i*2+t,none⟩=false):=by intro t ht;rw[hlen]at ht;exact⟨hall _ ai,hfr _⟩
 obtain⟨W1,xB⟩:∃W1,W1=w.drew.setCells b (0+i*2) news:=⟨_,rfl⟩;have lM:∀ty,(Builtin.clear_ #[23] ty #[.slice (some ⟨b,(i+(n-(i+1)))*2,none⟩) (n-(i+(n-(i+1)))) (cap-(i+(n-(i+1))))]).run Tryz.prog W1 = .ok (.tuple #[]) (W1.setCells b ((n-1)*2) zs):=by
  intro ty
  have hst:=run_storeCells_cells (P:=Tryz.prog) b ((n-1)*2) zs 0 W1 (λj hj=>by
    rw[xB,agb]
    exact dy (λk hk=>by rw[hlen]at hk;exact hall _ ai) (hall _ (by rw[hz]at hj;simp at hj;omega)))
   (λj hj=>by rw[xB,World.frozen?_setCells];exact hfr _) (by rw[hz];simp[Value.oneCell'])
  rw[show n-(i+(n-(i+1)))=1 by omega,show i+(n-(i+1))=n-1 by omega];rw[hz]at hst ⊢;simp only[agb]at hst;simp[Builtin.clear_,run_underlying ts,Tryz.zeroValue25,Wt,hst]
 have hW:Hid (W1=w.drew.setCells b (0+i*2) news):=xB;clear xB hn hall hfr
 go_enter func146,Tryz.ntmps146
 go_wp2_with fail
 go_region_law_o (refine step_append_room Z (.tmp 22) (.tmp 25) 23 Z 25 i0 2 ts sM MV b 0 i cap nu A (n-(i+1)) (cap-(i+1)) news nu s1.out hsrc.out s2.out ai s3.out ?_;rw[<- hW.out])
 go_wp2
 go_ret
 have e1:i+(n-(i+1))=n-1:=by omega
 refine⟨by rw[<- e1];rfl,?_⟩;rw[hW.out,hz,aeS]
set_option maxHeartbeats 4000000 in
set_option maxRecDepth 100000 in
def Un(b n c i vb vo m vc:Nat)(cs vs:L Value)(w:World)(hi:i<n)(hm:0<m)(hroom:n+m<=c)(hnb:n+m<=9000000000000000000)(MD:vb≠b)
  (lM:cs.length=n*2)(hvl:vs.length=m*2)
  (hcs:∀(j:Nat) v,cs[j]?=some v->w.cell? ⟨b,j,none⟩=some v)(hsp:∀j,j<c*2->(w.cell? ⟨b,j,none⟩).isSome=true)(hfz:∀j,w.frozen? ⟨b,j,none⟩=false)
  (hvs:∀(j:Nat) v,vs[j]?=some v->w.cell? ⟨vb,vo+j,none⟩=some v)(h1c:∀v∈cs,v.oneCell'=true)(Ex:∀v∈vs,v.oneCell'=true) :
  Calls Tryz.prog 147 #[.slice (some ⟨b,0,none⟩) n c,.int .i64 i,.slice (some ⟨vb,vo,none⟩) m vc] w λe w' =>
   e = .returned (.slice (some ⟨b,0,none⟩) (n+m) c)/\w'=(w.drew.setCells b ((i+m)*2) (cs.drop (i*2))).setCells b (i*2) vs:=by
 have ts:=Tryz.underlying23;have MV:¬((m:Int)=0):=by omega
 have hz2:¬((i:Int)=(n:Int)):=by omega
 have hz3:¬((c:Int)<(n:Int)+(m:Int)):=by omega
 have hsz:(Tryz.prog.info? 25).map (·.size)=some 2:=by kernel_rfl
 obtain⟨v0,Uo⟩:∃v0,w.cell? ⟨vb,vo,none⟩=some v0:=⟨_,hvs 0 _ (aeL ael)⟩;obtain⟨u0,hu0⟩:=Option.isSome_iff_exists.1 (hsp ((i+m)*2) ai);have hov:∀lb cb,(callFunc 173 #[.slice (some ⟨vb,vo,none⟩) m vc,.slice (some ⟨b,(i+m)*2,none⟩) lb cb]).run Tryz.prog w = .ok (.value (.bool false)) w:=λlb cb=>by
  rw[run_callFunc_extern func173 (by kernel_rfl) (by kernel_rfl) (by kernel_rfl) (e:=Extern.SlicesOverlaps.overlaps #[23,23] #[4]) (by kernel_rfl),
   um w 23 4 25 ts 2 Tryz.sizeOf25 ⟨vb,vo,none⟩ ⟨b,(i+m)*2,none⟩ m vc lb cb MD Uo hu0 hfz rfl]
  rfl
 have Ey:(cs.drop (i*2)).length=(n-i)*2:=by rw[afr,lM];omega
 have mixed:=Tryz.mixed;have hw1:i64.wrap ((i:Int)+(m:Int))=(i:Int)+(m:Int):=by rw[IntKind.wrap_i64];omega
 have Up:i64.wrap ((n:Int)+(m:Int))=(n:Int)+(m:Int):=by rw[IntKind.wrap_i64];omega
 have FF:(0:Int)<=(i:Int)+(m:Int):=by omega
 have hin:i<=n:=by omega
 have htn:((i:Int)+(m:Int)).toNat=i+m:=by omega
 have Qp:¬(c=i+m):=by omega
 have hb3:(i:Int)<=(n:Int)+(m:Int):=by omega
 have hb4:¬(c=i):=by omega
 have Wv:∀ty dc sc,(Builtin.copy_ #[23,23] ty #[.slice (some ⟨b,(i+m)*2,none⟩) (n+m-(i+m)) dc,.slice (some ⟨b,i*2,none⟩) (n+m-i) sc]).run Tryz.prog w.drew = .ok (goInt ((n-i:Nat):Int)) (w.drew.setCells b ((i+m)*2) (cs.drop (i*2))):=λty dc sc =>
  nM w.drew _ _ ty 25 b ((i+m)*2) (n+m-(i+m)) dc ⟨b,i*2,none⟩ (n+m-i) sc (cs.drop (i*2)) (n-i) 2 ts hsz nt Ey
   (λj v hj=>by rw[Addr.add_lit];exact hcs (i*2+j) v Xz)
   (λj hj=>hsp _ u7) (λj hj=>hfz _) (λv hv=>h1c v (afW hv))
 obtain⟨W1,xB⟩:∃W1,W1=w.drew.setCells b ((i+m)*2) (cs.drop (i*2)):=⟨_,rfl⟩;have acO:∀k,k<c*2->(W1.cell? ⟨b,k,none⟩).isSome=true:=λk hk=>by rw[xB];exact dy (w:=w.drew) (λj hj=>hsp ((i+m)*2+j) u7) (hsp k hk)
 have acP:∀(W:World),(∀x,W.cell? x=W1.cell? x)->(∀x,W.frozen? x=W1.frozen? x)->∀ty dc,(Builtin.copy_ #[23,23] ty #[.slice (some ⟨b,i*2,none⟩) (n+m-i) dc,.slice (some ⟨vb,vo,none⟩) m vc]).run Tryz.prog W = .ok (goInt m) (W.setCells b (i*2) vs):=λW MW Ww ty dc =>
  nM W _ _ ty 25 b (i*2) (n+m-i) dc ⟨vb,vo,none⟩ m vc vs m 2 ts hsz nt hvl
   (λj v hj=>by
    rw[Addr.add_lit,MW,xB,World.cell?_setCells_out b _ _ _ _ (λh _=>absurd h MD)]
    exact hvs j v hj)
   (λj hj=>by rw[MW];exact acO _ XF) (λj hj=>by rw[Ww,xB,World.frozen?_setCells];exact hfz _) Ex
 rw[<- xB]at Wv
 go_enter func147,Tryz.ntmps147
 go_wp2_with (simp only[hov])
 go_region_law_o (refine vz Z _ _ 23 23 Z _ _ nu nu (Wv _ _ _) ?_)
 go_wp2_with (at_builtin;refine mE _ Z _ _ 23 23 Z _ _ Z Z (acP _ (λ_=>rfl) (λ_=>rfl) _ _) ?_)
 go_ret
 first|exact⟨Z,Z⟩|exact⟨Z,by rw[xB]⟩
set_option maxHeartbeats 4000000 in
set_option maxRecDepth 100000 in
def MX(b n c vb vo m vc:Nat)(vs:L Value)(w:World)(hm:0<m)(hroom:n+m<=c)
  (hvl:vs.length=m*2)(hsp:∀j,j<c*2->(w.cell? ⟨b,j,none⟩).isSome=true)(hfz:∀j,w.frozen? ⟨b,j,none⟩=false)
  (hvs:∀(j:Nat) v,vs[j]?=some v->w.cell? ⟨vb,vo+j,none⟩=some v)(Ex:∀v∈vs,v.oneCell'=true) :
  Calls Tryz.prog 147 #[.slice (some ⟨b,0,none⟩) n c,.int .i64 n,.slice (some ⟨vb,vo,none⟩) m vc] w λe w' =>
   e = .returned (.slice (some ⟨b,0,none⟩) (n+m) c)/\w'=w.setCells b (n*2) vs:=by
 have ts:=Tryz.underlying23;obtain⟨i0,sM,Wu,hzs,Um⟩:=info_parts Bv;have mixed:=Tryz.mixed;have MV:¬((m:Int)=0):=by omega
 have hap:∀ty,(Builtin.append_ #[23,23] ty #[.slice (some ⟨b,0,none⟩) n c,.slice (some ⟨vb,vo,none⟩) m vc]).run Tryz.prog w = .ok (.slice (some ⟨b,0,none⟩) (n+m) c) (w.setCells b (n*2) vs):=λty=>by
  have:=run_append_room_cells w 23 ty 25 i0 ts sM b 0 n c ⟨vb,vo,none⟩ m vc vs (by rw[hzs];exact hvl) (λj u hj=>by rw[Addr.add_lit];exact hvs j u hj) Ex hroom
   (λj hj=>by rw[hzs];exact hsp _ XF) (λj hj=>hfz _)
  rw[hzs,aeS]at this;exact this
 go_enter func147,Tryz.ntmps147
 go_wp2_with (at_builtin;refine Lib.wpList_append_run _ Z _ _ _ _ Z _ _ Z Z _ _ (hap _) ?_)
 go_ret
 exact⟨Z,Z⟩
set_option maxHeartbeats 4000000 in
set_option maxRecDepth 100000 in
def MY(b n c vb vo m vc:Nat)(cs vs:L Value)(w:World)(hm:0<m)(hnc:n<=c)(hroom:c<n+m)(sP:(n+m)*32<=140737488355328)
  (lM:cs.length=n*2)(hvl:vs.length=m*2)
  (hcs:∀(j:Nat) v,cs[j]?=some v->w.cell? ⟨b,j,none⟩=some v)
  (hvs:∀(j:Nat) v,vs[j]?=some v->w.cell? ⟨vb,vo+j,none⟩=some v)(Ex:∀v∈vs,v.oneCell'=true) :
  Calls Tryz.prog 147 #[.slice (some ⟨b,0,none⟩) n c,.int .i64 n,.slice (some ⟨vb,vo,none⟩) m vc] w λe w' =>
   e = .returned (.slice (some ⟨w.heap.size,0,none⟩) (n+m) (grownCap w (n+m) c 25)) /\
   w'=w.drew.alloc (.cells ((cs++vs).toArray++Builtin.zeroCells (Value.agg #[.int .i64 0,.slice none 0 0]).cells (grownCap w (n+m) c 25-(n+m))) 25):=by
 have ts:=Tryz.underlying23;obtain⟨i0,sM,Wu,hzs,Um⟩:=info_parts Bv;have mixed:=Tryz.mixed;have MV:¬((m:Int)=0):=by omega
 have hsrc:Src Tryz.prog i0.size 23 (.slice (some ⟨vb,vo,none⟩) m vc) m vs w:=by rw[hzs];exact aey
 have hold:(Builtin.firstCells i0.size n (.slice (some ⟨b,0,none⟩) n c)).run Tryz.prog w.drew = .ok cs.toArray w.drew:=by rw[hzs];exact run_firstCells_some w.drew 2 n ⟨b,0,none⟩ n c cs lM (λj v hj=>by rw[Addr.add_lit,aeS];exact hcs j v hj)
 have hrun:∀ty,(Builtin.append_ #[23,23] ty #[.slice (some ⟨b,0,none⟩) n c,.slice (some ⟨vb,vo,none⟩) m vc]).run Tryz.prog w=_:=λty =>
  run_append_grow_src w 23 23 ty 25 i0 _ ts sM Wu (some ⟨b,0,none⟩) n c cs hold _ m vs hsrc hroom ai (by rw[Um];exact growslice_fits hroom sP)
 go_enter func147,Tryz.ntmps147
 go_wp2_with (at_builtin;refine Lib.wpList_append_run _ Z _ _ _ _ Z _ _ Z Z _ _ (hrun _) ?_)
 all_goals (go_ret;exact⟨Z,Z⟩)
set_option maxHeartbeats 4000000 in
set_option maxRecDepth 100000 in
def Wx(b n c i vb vo m vc:Nat)(cs vs:L Value)(w:World)(hi:i<n)(hm:0<m)(hnc:n<=c)(hroom:c<n+m)(sP:(n+m)*32<=140737488355328)
  (lM:cs.length=n*2)(hvl:vs.length=m*2)
  (hcs:∀(j:Nat) v,cs[j]?=some v->w.cell? ⟨b,j,none⟩=some v)
  (hvs:∀(j:Nat) v,vs[j]?=some v->w.cell? ⟨vb,vo+j,none⟩=some v)(h1c:∀v∈cs,v.oneCell'=true)(Ex:∀v∈vs,v.oneCell'=true) :
  Calls Tryz.prog 147 #[.slice (some ⟨b,0,none⟩) n c,.int .i64 i,.slice (some ⟨vb,vo,none⟩) m vc] w λe w' =>
   ∃G pn,n+m<=G/\G*2<=pn.size/\(∀j,j<i*2->pn[j]?=cs[j]?)/\e = .returned (.slice (some ⟨w.heap.size,0,none⟩) (n+m) G) /\
   w'=(((w.alloc (.cells pn 25)).drew.setCells w.heap.size (i*2) vs).drew).setCells w.heap.size ((i+m)*2) (cs.drop (i*2)):=by
 have ts:=Tryz.underlying23;have tn:=Tryz.underlying3;have mixed:=Tryz.mixed;obtain⟨i0,sM,Wu,hzs,Um⟩:=info_parts Bv;have MV:¬((m:Int)=0):=by omega
 have hz2:¬((i:Int)=(n:Int)):=by omega
 have hz3:(c:Int)<(n:Int)+(m:Int):=by omega
 have hsz:(Tryz.prog.info? 25).map (·.size)=some 2:=by kernel_rfl
 have hbw:b<w.heap.size:=block_lt_of_cell (hcs 0 _ (aeL (by rw[lM];omega)));have hvw:vb<w.heap.size:=block_lt_of_cell (hvs 0 _ (aeL ael));have hkk:(n:Int)+(m:Int)-(i:Int)=((n+m-i:Nat):Int):=by omega
 have hik:i+(n+m-i)=n+m:=by omega
 have FG:(cs.take (i*2)).length=i*2:=by rw[afb,lM];omega
 have hold:(Builtin.firstCells i0.size i (.slice (some ⟨b,0,none⟩) i c)).run Tryz.prog w.drew = .ok (cs.take (i*2)).toArray w.drew:=by
  rw[hzs]
  exact run_firstCells_some w.drew 2 i ⟨b,0,none⟩ i c (cs.take (i*2)) FG (λj v hj=>by
   rw[Addr.add_lit,aeS];rw[agB]at hj;split at hj;exact hcs j v hj
   cases hj)
 obtain⟨ZS,hZS⟩:∃ZS,ZS=(Value.agg #[.int .i64 0,.slice none 0 0]).cells:=⟨_,rfl⟩;have hZn:ZS.size=2:=by rw[hZS];rfl
 have Uq:∀k,(Builtin.zeroCells ZS k).size=k*2:=λk=>by simp[Builtin.zeroCells,hZn]
 have ZX:∀ty,(Builtin.append_ #[23,3] ty #[.slice (some ⟨b,0,none⟩) i c,.int .i64 ((n:Int)+(m:Int)-(i:Int))]).run Tryz.prog w =
   .ok (.slice (some ⟨w.heap.size,0,none⟩) (n+m) (grownCap w (n+m) c 25)) (w.drew.alloc (.cells ((cs.take (i*2)).toArray++Builtin.zeroCells ZS (n+m-i)++Builtin.zeroCells ZS (grownCap w (n+m) c 25-(n+m))) 25)):=λty=>by
  have h:=Lib.run_append_grow_zeros w 23 3 ty 25 i0 _ .i64 .i64 ts tn sM Wu (some ⟨b,0,none⟩) i c (cs.take (i*2)) hold (n+m-i) ai ai ai ai (by rw[Um];omega) (by rw[Um,hik];exact growslice_fits hroom sP);rw[hik,<- hZS]at h;rw[hkk];exact h
 obtain⟨G,hG⟩:∃G,G=grownCap w (n+m) c 25:=⟨_,rfl⟩;have hGn:n+m<=G:=by rw[hG];exact grownCap_ge w _ _ _
 obtain⟨pn,KE⟩:∃pn:Array Value,pn=(cs.take (i*2)).toArray++Builtin.zeroCells ZS (n+m-i)++Builtin.zeroCells ZS (G-(n+m)):=⟨_,rfl⟩;rw[<- hG]at ZX;rw[<- KE]at ZX;have hRs:pn.size=G*2:=by rw[KE,agK,agK,Uq,Uq,agf,FG];omega
 have ZY:∀j,j<i*2->pn[j]?=cs[j]?:=λj hj=>by rw[KE,afq ab1,afq (by rw[agf,FG];exact hj)];rw[ahy,agB,if_pos hj]
 obtain⟨W1,xB⟩:∃W1,W1=w.drew.alloc (.cells pn 25):=⟨_,rfl⟩;rw[<- xB]at ZX;have hN:∀j,j<G*2->(W1.cell? ⟨w.heap.size,j,none⟩).isSome=true:=λj hj=>by rw[xB,World.cell?_alloc_at (w:=w.drew) pn _ w.heap.size j Z,afE ai];rfl
 have hNf:∀j,W1.frozen? ⟨w.heap.size,j,none⟩=false:=λj=>by rw[xB];exact World.frozen?_alloc_at (w:=w.drew) pn _ w.heap.size j Z
 have hOb:∀j v,w.cell? ⟨b,j,none⟩=some v->W1.cell? ⟨b,j,none⟩=some v:=λj v h=>by rw[xB,World.cell?_alloc_past (w:=w.drew) _ b j hbw];exact h
 have hOv:∀j v,w.cell? ⟨vb,j,none⟩=some v->W1.cell? ⟨vb,j,none⟩=some v:=λj v h=>by rw[xB,World.cell?_alloc_past (w:=w.drew) _ vb j hvw];exact h
 have acS:∀(W:World),(∀x,W.cell? x=W1.cell? x)->(∀x,W.frozen? x=W1.frozen? x)->∀ty dc,(Builtin.copy_ #[23,23] ty #[.slice (some ⟨w.heap.size,i*2,none⟩) (n+m-i) dc,.slice (some ⟨vb,vo,none⟩) m vc]).run Tryz.prog W = .ok (goInt m) (W.setCells w.heap.size (i*2) vs):=λW MW Ww ty dc =>
  nM W _ _ ty 25 w.heap.size (i*2) (n+m-i) dc ⟨vb,vo,none⟩ m vc vs m 2 ts hsz nt hvl
   (λj v hj=>by rw[Addr.add_lit,MW];exact hOv _ v (hvs j v hj))
   (λj hj=>by rw[MW];exact hN _ XF) (λj hj=>by rw[Ww];exact hNf _) Ex
 have aht:G<=9223372036854775807:=by have:=grownCap_le_maxLen w (n+m) c 25 (by unfold maxLen;omega);rw[<- hG]at this;unfold maxLen at this;omega
 have hGi:¬(G=i):=by omega
 have ahu:¬(G=i+m):=by omega
 have hci:¬(c=i):=by omega
 have hbN:b≠w.heap.size:=by omega
 have Ey:(cs.drop (i*2)).length=(n-i)*2:=by rw[afr,lM];omega
 have Wy:∀(W:World),(∀x,W.cell? x=(W1.setCells w.heap.size (i*2) vs).cell? x)->(∀x,W.frozen? x=(W1.setCells w.heap.size (i*2) vs).frozen? x)->∀ty dc sc,(Builtin.copy_ #[23,23] ty #[.slice (some ⟨w.heap.size,(i+m)*2,none⟩) (n+m-(i+m)) dc,.slice (some ⟨b,i*2,none⟩) (n-i) sc]).run Tryz.prog W = .ok (goInt ((n-i:Nat):Int)) (W.setCells w.heap.size ((i+m)*2) (cs.drop (i*2))):=λW MW Ww ty dc sc =>
  nM W _ _ ty 25 w.heap.size ((i+m)*2) (n+m-(i+m)) dc ⟨b,i*2,none⟩ (n-i) sc (cs.drop (i*2)) (n-i) 2 ts hsz nt Ey
   (λj v hj=>by
    rw[Addr.add_lit,MW,World.cell?_setCells_out _ _ _ _ _ (λh _=>absurd h hbN)]
    exact hOb _ v (hcs (i*2+j) v Xz))
   (λj hj=>by rw[MW];exact dy (λt ht=>hN _ (by rw[hvl]at ht;omega)) (hN _ u7))
   (λj hj=>by rw[Ww,World.frozen?_setCells];exact hNf _) (λv hv=>h1c v (afW hv))
 subst xB;have hE1:∀x,((w.alloc (.cells pn 25)).drew).cell? x=(w.drew.alloc (.cells pn 25)).cell? x:=λx=>rfl;have hE2:∀x,((w.alloc (.cells pn 25)).drew).frozen? x=(w.drew.alloc (.cells pn 25)).frozen? x:=λx=>rfl;have hF1:∀x,(((w.alloc (.cells pn 25)).drew.setCells w.heap.size (i*2) vs).drew).cell? x=((w.drew.alloc (.cells pn 25)).setCells w.heap.size (i*2) vs).cell? x:=λx=>rfl;have hF2:∀x,(((w.alloc (.cells pn 25)).drew.setCells w.heap.size (i*2) vs).drew).frozen? x=((w.drew.alloc (.cells pn 25)).setCells w.heap.size (i*2) vs).frozen? x:=λx=>rfl;have hw1:i64.wrap ((i:Int)+(m:Int))=(i:Int)+(m:Int):=by rw[IntKind.wrap_i64];omega
 have Up:i64.wrap ((n:Int)+(m:Int))=(n:Int)+(m:Int):=by rw[IntKind.wrap_i64];omega
 have hw3:i64.wrap ((n:Int)+(m:Int)-(i:Int))=(n:Int)+(m:Int)-(i:Int):=by rw[IntKind.wrap_i64];omega
 have FF:(0:Int)<=(i:Int)+(m:Int):=by omega
 have hin:i<=n:=by omega
 have htn:((i:Int)+(m:Int)).toNat=i+m:=by omega
 have hb3:(i:Int)<=(n:Int):=by omega
 clear hkk hik hold KE hG Uq hZS hZn FG;refine Calls.mono (R:=λe w'=>e = .returned (.slice (some ⟨w.heap.size,0,none⟩) (n+m) G)/\w'=(((w.alloc (.cells pn 25)).drew.setCells w.heap.size (i*2) vs).drew).setCells w.heap.size ((i+m)*2) (cs.drop (i*2))) ?_ ?_;rotate_left;rintro e w' ⟨h1,h2⟩;exact⟨G,pn,hGn,ai,ZY,h1,h2⟩;clear ZY
 go_enter func147,Tryz.ntmps147
 go_wp2_with (first
  |(at_builtin;refine Lib.wpList_append_run _ rfl _ _ _ _ rfl _ _ rfl rfl _ _ (ZX _) ?_)
  |(at_builtin;refine mE _ rfl _ _ 23 23 rfl _ _ rfl rfl (acS _ hE1 hE2 _ _) ?_)
  |(at_builtin;refine mE _ rfl _ _ 23 23 rfl _ _ rfl rfl (Wy _ (λ_=>rfl) (λ_=>rfl) _ _ _) ?_))
 go_region_law_o (refine vz Z _ _ 23 23 Z (.slice (some ⟨w.heap.size,(i+m)*2,none⟩) (n+m-(i+m)) (G-(i+m))) (.slice (some ⟨b,i*2,none⟩) (n-i) (c-i)) nu nu (Wy _ hF1 hF2 3 (G-(i+m)) (c-i)) ?_)
 go_wp2
 go_ret
 exact⟨Z,Z⟩
set_option maxHeartbeats 1000000 in
def ZZ(b n c i vb vo vc:Nat)(cs vs:L Value)(w:World)(hi:i<=n)(hn0:0<n)(hnc:n<=c)(sP:(n+1)*32<=140737488355328)(MD:vb≠b)
  (lM:cs.length=n*2)(hvl:vs.length=1*2)
  (hcs:∀(j:Nat) v,cs[j]?=some v->w.cell? ⟨b,j,none⟩=some v)(hsp:∀j,j<c*2->(w.cell? ⟨b,j,none⟩).isSome=true)(hfz:∀j,w.frozen? ⟨b,j,none⟩=false)
  (hvs:∀(j:Nat) v,vs[j]?=some v->w.cell? ⟨vb,vo+j,none⟩=some v)(h1c:∀v∈cs,v.oneCell'=true)(Ex:∀v∈vs,v.oneCell'=true) :
  Calls Tryz.prog 147 #[.slice (some ⟨b,0,none⟩) n c,.int .i64 i,.slice (some ⟨vb,vo,none⟩) 1 vc] w λe w' =>
   ∃b' cap',e = .returned (.slice (some ⟨b',0,none⟩) (n+1) cap')/\n+1<=cap'/\SV w b w' b' (cs.take (i*2)++(vs++cs.drop (i*2))):=by
 have FG:(cs.take (i*2)).length=i*2:=by rw[afb,lM];omega
 have hbw:b<w.heap.size:=block_lt_of_cell (hcs 0 _ (aeL (by rw[lM];omega)));have jy:∀(j:Nat) u,(cs.take (i*2)++(vs++cs.drop (i*2)))[j]?=some u->(j<i*2/\cs[j]?=some u)\/(i*2<=j/\j<(i+1)*2/\vs[j-i*2]?=some u)\/((i+1)*2<=j/\(cs.drop (i*2))[j-(i+1)*2]?=some u):=by intro j u hj;rw[agU]at hj;split at hj;rename_i h;rw[FG]at h;rw[agB,if_pos h]at hj;exact .inl ⟨h,hj⟩;rename_i h;rw[FG]at h hj;rw[agU]at hj;split at hj;rename_i h2;rw[hvl]at h2;exact .inr (.inl ⟨ai,ai,hj⟩);rename_i h2;rw[hvl]at h2 hj;refine .inr (.inr ⟨ai,?_⟩);rwa[show j-(i+1)*2=j-i*2-1*2 by omega]
 have Ey:(cs.drop (i*2)).length=(n-i)*2:=by rw[afr,lM];omega
 by_cases he:i=n
 ·subst he;have Qe:cs.drop (i*2)=[]:=afy ai;by_cases hr:i+1<=c
  ·refine Calls.mono (MX b i c vb vo 1 vc vs w ai hr hvl hsp hfz hvs Ex) ?_;rintro e w' ⟨h1,rfl⟩;obtain⟨k1,k2,k3,k4,k5⟩:=eI b vs (i*2) w;refine⟨b,c,h1,hr,⟨k2,k3,k4,ai,.inl Z,λj u hj=>?_,λb2 _ h=>k5 b2 h⟩⟩;have hss:∀j,j<vs.length->(w.cell? ⟨b,i*2+j,none⟩).isSome=true:=λj hj=>hsp _ ai;rw[eC hss];rcases jy j u hj with ⟨h,h'⟩|⟨h,h',h2⟩|⟨h,h2⟩
   rw[if_neg ai];exact hcs j u h';rw[if_pos ai];exact h2;rw[Qe]at h2;simp at h2
  refine Calls.mono (MY b i c vb vo 1 vc cs vs w ai hnc ai sP lM hvl hcs hvs Ex) ?_;rintro e w' ⟨h1,rfl⟩;refine⟨_,_,h1,grownCap_ge w _ _ _,⟨Z,Z,Z,by simp[World.alloc],.inr (aaV _),λj u hj=>?_,λb2 h _=>?_⟩⟩
  ·rw[World.cell?_alloc_at (w:=w.drew) _ _ w.heap.size j rfl];have hjl:j<(cs++vs).length:=by
    rw[aaZ,lM,hvl];rcases jy j u hj with ⟨h,h'⟩|⟨h,h',h2⟩|⟨h,h2⟩
    omega;omega;rw[Qe]at h2;simp at h2
   rw[afq (by rw[agf];exact hjl),ahy];rw[Qe,aeO,agJ ai]at hj;exact hj
  show(w.drew.alloc _).heap[b2]?=_;simp only[World.alloc];rw[ahv (by exact h)];exact(afE (xs:=w.heap) h).symm
 have hi':i<n:=by omega
 by_cases hr:n+1<=c
 ·refine Calls.mono (Un b n c i vb vo 1 vc cs vs w hi' ai hr ai MD lM hvl hcs hsp hfz hvs h1c Ex) ?_;rintro e w' ⟨h1,rfl⟩;obtain⟨k1,k2,k3,k4,k5⟩:=eI b (cs.drop (i*2)) ((i+1)*2) w.drew;obtain⟨l1,l2,l3,l4,l5⟩:=eI b vs (i*2) (w.drew.setCells b ((i+1)*2) (cs.drop (i*2)));have uo:∀j,j<(cs.drop (i*2)).length->(w.drew.cell? ⟨b,(i+1)*2+j,none⟩).isSome=true:=λj hj=>hsp _ u7;have oX:∀j,j<vs.length->((w.drew.setCells b ((i+1)*2) (cs.drop (i*2))).cell? ⟨b,i*2+j,none⟩).isSome=true:=λj hj=>dy uo (hsp _ ai);refine⟨b,c,h1,hr,⟨aem,aen,aeo,ad6,.inl Z,λj u hj=>?_,λb2 _ h=>by rw[l5 b2 h,k5 b2 h];rfl⟩⟩;rw[eC oX,eC uo];rcases jy j u hj with ⟨h,h'⟩|⟨h,h',h2⟩|⟨h,h2⟩
  rw[if_neg ai,if_neg ai];exact hcs j u h';rw[if_pos ai];exact h2;have hjj:j-(i+1)*2<(cs.drop (i*2)).length:=by
   rcases agW (j-(i+1)*2) (cs.drop (i*2)).length with hh|hh
   exact hh;rw[agM hh]at h2;cases h2
  rw[if_neg ai,if_pos ai];exact h2
 refine Calls.mono (Wx b n c i vb vo 1 vc cs vs w hi' ai hnc ai sP lM hvl hcs hvs h1c Ex) ?_;rintro e w' ⟨G,pn,hG,hR,ZY,h1,rfl⟩;obtain⟨w1,hw1⟩:∃w1,w1=(w.alloc (.cells pn 25)).drew:=⟨_,rfl⟩;have hN:∀j,j<G*2->(w1.cell? ⟨w.heap.size,j,none⟩).isSome=true:=λj hj=>by rw[hw1];show((w.alloc (.cells pn 25)).cell? ⟨w.heap.size,j,none⟩).isSome=true;rw[World.cell?_alloc_at (w:=w) pn _ w.heap.size j Z,afE ai];rfl
 have hC:∀j u,j<i*2->cs[j]?=some u->w1.cell? ⟨w.heap.size,j,none⟩=some u:=λj u hj hu=>by rw[hw1];show(w.alloc (.cells pn 25)).cell? ⟨w.heap.size,j,none⟩=some u;rw[World.cell?_alloc_at (w:=w) pn _ w.heap.size j Z,ZY j hj];exact hu
 have hH:∀b2,b2<w.heap.size->w1.heap[b2]?=w.heap[b2]?:=λb2 h=>by rw[hw1];show(w.alloc _).heap[b2]?=_;simp only[World.alloc];rw[ahv h];exact(afE (xs:=w.heap) h).symm
 have hS:w1.heap.size=w.heap.size+1:=by rw[hw1];show(w.heap.push _).size=_;rw[Array.size_push]
 have hO:w1.os=w.os/\w1.tape=w.tape/\w1.output=w.output:=by rw[hw1];exact⟨Z,Z,Z⟩
 rw[<- hw1];obtain⟨k1,k2,k3,k4,k5⟩:=eI w.heap.size vs (i*2) w1;obtain⟨l1,l2,l3,l4,l5⟩:=eI w.heap.size (cs.drop (i*2)) ((i+1)*2) (w1.setCells w.heap.size (i*2) vs).drew;have uo:∀j,j<vs.length->(w1.cell? ⟨w.heap.size,i*2+j,none⟩).isSome=true:=λj hj=>hN _ ai;have oX:∀j,j<(cs.drop (i*2)).length->((w1.setCells w.heap.size (i*2) vs).drew.cell? ⟨w.heap.size,(i+1)*2+j,none⟩).isSome=true:=λj hj=>by show((w1.setCells w.heap.size (i*2) vs).cell? _).isSome=true;exact dy uo (hN _ u7)
 refine⟨_,_,h1,hG,⟨by rw[l2];exact k2.trans hO.1,by rw[l3];exact k3.trans hO.2.1,by rw[l4];exact k4.trans hO.2.2,by rw[l1];show w.heap.size<=(w1.setCells w.heap.size (i*2) vs).heap.size;rw[k1,hS];omega,.inr (aaV _),λj u hj=>?_,λb2 h _=>?_⟩⟩
 ·rw[eC oX];rcases jy j u hj with ⟨h,h'⟩|⟨h,h',h2⟩|⟨h,h2⟩
  rw[if_neg ai];show(w1.setCells w.heap.size (i*2) vs).cell? _=_;rw[eC uo,if_neg ai];exact hC j u h h';rw[if_neg ai];show(w1.setCells w.heap.size (i*2) vs).cell? _=_;rw[eC uo,if_pos ai];exact h2;have hjj:j-(i+1)*2<(cs.drop (i*2)).length:=by
   rcases agW (j-(i+1)*2) (cs.drop (i*2)).length with hh|hh
   exact hh;rw[agM hh]at h2;cases h2
  rw[if_pos ai];exact h2
 rw[l5 b2 ai];show(w1.setCells w.heap.size (i*2) vs).heap[b2]?=_;rw[k5 b2 ai,hH b2 h]
open Go.cw
def mF:∀(l:L Ty)(r:CV),r∈az l->r.cells.length=2
 |[],r,h=>by simp[az]at h
 |.mk T us::l,r,h=>by
  simp only[az,afp]at h;rcases h with rfl|h
  rfl;exact mF l r h
def EZ:∀(l:L Ty),(bz (az l)).all CV.one=true
 |[]=>rfl
 |.mk T us::l=>by simp only[az,cU,bz,CV.cells,agV,EZ l,agO];rfl
def xC:∀(n:Nat)(l:L Ty),(az l).take n=az (l.take n)
 |0,l=>rfl
 |n+1,[]=>rfl
 |n+1,x::l=>by simp only[az,ahj,xC n l]
attribute [local irreducible] AK ah aR bM
def xD(x:Ty)(l:L Ty)(I:l.length<=1099511627776):qh 60 none [.c (.sl 2 (az (x::l)))] (.gY 999999 0 2 (l.length+1)) (some (bz (az (x::l)))):=by
 have h1:=aQ l;have S:([]++az (x::l)).length=l.length+1:=by simp only[az,afM,aag,h1]
 have U:((([]:L CV).length)+(az (x::l)).length)*32<=140737488355328:=by simp only[az,aag,aay,h1];omega
 obtain⟨T,us⟩:=x;refine cX.of func60 Z (λM w=>call60 M w) (aeP Z) [(0,.c (.sl 2 (az (.mk T us::l))))] ⟨[],[],[]⟩ Z Z λβ=>?_;have hf:=func60
 repeat' (first|refine kM ?_|refine ze ?_ ?_|(intro h;first|(cases h;done)|rw[h]|skip)|refine AK.rM rfl ?_ ?_|refine ah.sV hX kn rfl rfl rfl rfl rfl rfl rfl rfl rfl rfl rfl rfl rfl rfl rfl rfl rfl rfl (λh=>by cases h) rfl rfl rfl U rfl S ?_|(refine uA rfl ?_ ?_<;>(try (show(_:Nat)*_<=_;dsimp only))))
 exact AK.acT hX hf Z Z Z
def MZ(s:L Ty)(i:Nat)(B:i<s.length)(hl:s.length<=20000000000):qh 146 (some (bz (az s))) (.gY 1000000 0 2 s.length::[CV.int .i64 (i:Int),CV.int .i64 ((i+1:Nat):Int)].map AV.c)
  (.c (.sl 2 (az (s.take i++s.drop (i+1))))) none:=by
 have q:=aQ s;have hc:(bz (az s)).length=s.length*2:=by rw[dz (mF s),q]
 have V:bz (az (s.take i++s.drop (i+1)))=(bz (az s)).take (i*2)++(bz (az s)).drop ((i+1)*2):=by rw[lq,dP,vA (mF s) i ai,vB (mF s) (i+1) ai,xC,xu]
 refine cX.raw (λM w=>call146 M w) ai (mF _) (EZ _) ?_;intro w G b N vs us hb hGb jl O P W A U D;simp only[b9,Rel]at D;obtain⟨_,_,rfl,rfl,_,_,rfl,rfl,rfl⟩:=D;have Q:vs.length=s.length*2:=by rw[qi O,hc]
 have h1:=og O W;refine⟨vs.take (i*2)++vs.drop ((i+1)*2),by rw[V];exact fO (uq _ O) (ur _ O),?_⟩;have H:∀o,o<N*2->(w.cell? ⟨b,o,none⟩).isSome=true:=λo ho=>by obtain⟨u,T⟩:=(U o).1 ho;rw[T];rfl
 have I:(vs.drop ((i+1)*2)).length=(s.length-(i+1))*2:=by rw[afr,Q];omega
 refine Calls.mono (ZW s.length N i b w B A (vs.drop ((i+1)*2)) _ I (λu T=>h1 u (afW T)) (λj u Y=>P _ u (by rwa[agS]at Y)) H (λo=>(U o).2) Z) ?_;rintro e w' ⟨e1,rfl⟩;obtain⟨k1,k2,k3,k4,k5⟩:=eI b (vs.drop ((i+1)*2)) (i*2) w.drew;generalize S:[Value.int IntKind.i64 0,Value.slice none 0 0]=zs;have hzl:zs.length=2:=by rw[<- S];rfl
 obtain⟨l1,l2,l3,l4,l5⟩:=eI b zs ((s.length-1)*2) (w.drew.setCells b (i*2) (vs.drop ((i+1)*2)));have K:∀j,j<(vs.drop ((i+1)*2)).length->(w.drew.cell? ⟨b,i*2+j,none⟩).isSome=true:=λj Y=>H _ (by rw[I]at Y;omega);have oX:∀j,j<zs.length->((w.drew.setCells b (i*2) (vs.drop ((i+1)*2))).cell? ⟨b,(s.length-1)*2+j,none⟩).isSome=true:=λj Y=>dy K (H _ ai);have Bi:(az (s.take i++s.drop (i+1))).length=s.length-1:=by rw[aQ,aaZ,afb,afr];omega
 refine⟨b,N,ad7,ai,⟨aem,aen,aeo,ad6,.inl Z,λj u Y=>?_,λE _ h=>by rw[l5 E h,k5 E h];rfl⟩⟩;have C:(vs.take (i*2)).length=i*2:=by rw[afb,Q];omega
 rw[eC oX,eC K];rw[agU]at Y;split at Y;rename_i h;rw[C]at h;rw[agB,if_pos h]at Y;rw[if_neg ai,if_neg ai];exact P j u Y;rename_i h;rw[C]at h Y;have hjj:j-i*2<(vs.drop ((i+1)*2)).length:=by
  rcases agW (j-i*2) (vs.drop ((i+1)*2)).length with J|J
  exact J;rw[agM J]at Y;cases Y
 rw[if_neg ai,if_pos ai];exact Y
def M0(s:L Ty)(x:Ty)(i:Nat)(C:0<s.length)(hi:i<=s.length)(hl:s.length<=20000000000):qh 147 (some (bz (az s))) (.gY 1000000 0 2 s.length::[CV.int .i64 (i:Int),CV.sl 2 (az [x])].map AV.c)
  (.c (.sl 2 (az (s.take i++x::s.drop i)))) none:=by
 have z1:=aQ s;have hc:(bz (az s)).length=s.length*2:=by rw[dz (mF s),z1]
 have K:bz (az (s.take i++x::s.drop i))=(bz (az s)).take (i*2)++(bz (az [x])++(bz (az s)).drop (i*2)):=by rw[lq,dP,vA (mF s) i ai,vB (mF s) i ai,xC,xu];simp only[az,bz,aeO]
 refine cX.raw (λM w=>call147 M w) C (mF _) (EZ _) ?_;intro w G b N vs us hb J E O jP W A U D;obtain⟨T,ts⟩:=x;simp only[b9,Rel,az,cU,aag,aay]at D;obtain⟨_,_,rfl,rfl,_,_,rfl,⟨base,len,vc,rfl,rfl,hvc,Y⟩,rfl⟩:=D;have I:vs.length=s.length*2:=by rw[qi O,hc]
 have h1:=og O W;have H:∀o,o<N*2->(w.cell? ⟨b,o,none⟩).isSome=true:=λo ho=>by obtain⟨u,hu⟩:=(U o).1 ho;rw[hu];rfl
 rcases Y with Y|⟨B,vo,rfl,Y⟩
 simp at Y;simp only[gF,qB,dJ,ahC]at Y;obtain⟨⟨⟨Q,g1,r1,o1⟩,⟨P,g2,r2,o2⟩⟩,_⟩:=Y;have MD:B≠b:=λh=>by subst h;rw[J]at g1;cases g1
 have q:b9 G (bz (az [.mk T ts])) [Q,P]:=by simp only[az,cU,bz,CV.cells,aeO,b9];exact⟨Q,_,Z,r1,P,_,Z,r2,Z⟩
 refine⟨vs.take (i*2)++([Q,P]++vs.drop (i*2)),by rw[K];exact fO (uq _ O) (fO q (ur _ O)),?_⟩;refine Calls.mono (ZZ b s.length N i B vo vc vs [Q,P] w hi C A ai MD I Z jP H (λo=>(U o).2) (λj v V=>?_) h1 (og q (EZ _))) ?_
 ·rcases j with _|_|j
  simp at V;subst V;exact E _ _ _ g1;simp at V;subst V;exact E _ _ _ g2;simp at V
 rintro e w' ⟨b',S,e1,e2,e3⟩;have Bi:(az (s.take i++Ty.mk T ts::s.drop i)).length=s.length+1:=by rw[aQ,aaZ,aag,afb,afr];omega
 exact⟨b',S,ad7,by rw[Bi];exact e2,e3⟩
end Go.Proofs
namespace Go.Proofs
open Go.cw
attribute [local irreducible] AK ah aR bM cX ni
def KF(T:Int)(us:L Ty):hJ 147 [.v (.own 2 []),.v (.c (.int .i64 0)),.v (.c (.sl 2 [cU (.mk T us)]))] [.own 2 [cU (.mk T us)]] []:=by
 refine en func147 call147 [(0,.own (.tok 1000000 0) 2 ([])),(1,.c (.int .i64 0)),(2,.c (.sl 2 [cU (.mk T us)]))] [] [(1000000,0)] [1000000] λβ hf=>?_
 repeat' (first|refine kM ?_|refine ze ?_ ?_|(intro h;first|(cases h;done)|rw[h]|skip)|(refine uA Z ?_ ?_<;>(try (show(_:Nat)*_<=_;dsimp only))))
 all_goals first|exact Z|(show _<=_;simp only[aag,aay];omega)
def SW{s:L Ty}{i:Nat}{t:Ty}(h:s[i]?=some t):s.getD i lJ=t:=by rw[agl,h];rfl
def M3(P nN:Int)(nS:L UInt8)(M:L Nd)(V s:L Ty)(hP:40<=P/\P<=44)(hf:bP P M=some V)(hs:sL s)(D:s.length<=9999999990) :
  af 122 [aM (.mk 2 nN P nS M),.sl 2 (az s)] (gV (iD P M s)):=by
 have Ul:P=40\/P=41\/P=42\/P=43\/P=44:=by omega
 clear hP;rcases Ul with rfl|rfl|rfl|rfl|rfl
 ·obtain⟨rfl,rfl⟩:=dG hf rfl;clear hf;rcases s with _|⟨⟨T,us⟩,r⟩
  rw[show iD 40 [] []=bw 5 from by simp[iD],dL bn];exact qdw func122 call122;rw[show iD 40 [] (.mk T us::r)=gy r from by simp[iD],ff];have el:=Ar (az (.mk T us::r)) 0 DU;have B:=DI r;rw[ff]at B;exact qdw func122 call122
 ·obtain⟨N,p,S,xs,rfl,E,n2,rfl⟩:=KG hf rfl;clear hf;have A:=aQ s;by_cases u:1<=N;rotate_left;rw[show iD 41 [.mk 0 N p S xs] s=bw 5 from by unfold iD;rw[if_neg bn,if_neg bn,if_pos rfl];exact if_neg (λh=>u h.1),dL bn];have e1:decide (N>=1)=false:=aaY u;exact qdw func122 call122;have e1:decide (N>=1)=true:=aaX u;by_cases c2:N<=s.length;rotate_left;rw[show iD 41 [.mk 0 N p S xs] s=bw 5 from by unfold iD;rw[if_neg bn,if_neg bn,if_pos rfl];exact if_neg (λh=>c2 h.2.1),dL bn];have J:decide (N<=(((az s).length:Nat):Int))=false:=aaY ai;exact qdw func122 call122;have J:decide (N<=(((az s).length:Nat):Int))=true:=aaX ai;obtain⟨j,hj⟩:∃j:Nat,N-1=(j:Int):=⟨(N-1).toNat,ai⟩;have O:i64.wrap (N-1)=(j:Int):=by rw[iB ai ai,hj]
  obtain⟨t,C⟩:∃t,s[j]?=some t:=⟨s[j]' ai,cc⟩;have htm:=hs t (abz C);have htz:=htm.2;have I:=vC t ai;have K:=gG C;have hgd:=SW C;have W:MS ([Nd.mk 0 N p S xs].getD 0 vw)=N:=rfl;have hNj:(N-1).toNat=j:=by omega
  have H:iD 41 [.mk 0 N p S xs] s=if ni t=true then gy (t::s)else bw 5:=by unfold iD;rw[if_neg bn,if_neg bn,if_pos Z,W,hNj,hgd];by_cases Y:ni t=true;rw[if_pos ⟨u,c2,Y⟩,if_pos Y];rw[if_neg (λh=>Y h.2.2),if_neg Y]
  rw[H];obtain⟨T,us⟩:=t;cases Y:ni (.mk T us)with
  |false =>
   rw[Y]at I;rw[if_neg bn,dL bn];refine qn func122 call122 λβ hf=>?_
   repeat' (first|refine kM ?_|refine zc ?_ ?_|(intro h;first|(cases h;done)|rw[h]|skip)|refine uI Z (0) Z (Z) Z ?_|refine uI Z j O K Z ?_|refine uC Z I ?_)
   all_goals first|exact Wk.refl _|exact CB Z Z
  |true =>
   rw[Y]at I;have B:=pF s [.mk T us];rw[ff]at B;rw[if_pos Z,ff];refine qn func122 call122 λβ hf=>?_
   repeat' (first|refine kM ?_|refine zc ?_ ?_|(intro h;first|(cases h;done)|rw[h]|skip)|refine uI Z (0) Z (Z) Z ?_|refine uI Z j O K Z ?_|refine uC Z I ?_|refine uC Z B ?_)
   all_goals first|exact Wk.refl _|exact CB Z Z
 ·obtain⟨rfl,rfl⟩:=dG hf rfl;clear hf;rcases s with _|⟨⟨T,us⟩,_|⟨⟨U,vs⟩,q⟩⟩
  rw[show iD 42 [] []=bw 5 from by simp[iD],dL bn];exact qdw func122 call122;rw[show iD 42 [] [.mk T us]=bw 5 from by simp[iD],dL bn];exact qdw func122 call122;rw[show iD 42 [] (.mk T us :: .mk U vs::q)=gy (.mk U vs :: .mk T us::q)from by simp[iD],ff];have el:=Ar (az (.mk T us :: .mk U vs::q)) 1 DU;have B:=pF q [.mk U vs,.mk T us];rw[ff]at B;exact qdw func122 call122
 ·obtain⟨N,p,S,xs,rfl,E,n2,rfl⟩:=KG hf rfl;clear hf;have A:=aQ s;obtain⟨j,rfl⟩:=afA E;have W:MS ([Nd.mk 0 (j:Int) p S xs].getD 0 vw)=(j:Int):=rfl;by_cases u:(j:Int)<s.length;rotate_left;rw[show iD 43 [.mk 0 j p S xs] s=bw 5 from by unfold iD;rw[if_neg bn,if_neg bn,if_neg bn,if_pos Z,W];exact if_neg u,dL bn];have J:decide ((j:Int)<(((az s).length:Nat):Int))=false:=aaY ai;exact qdw func122 call122;have V5:j<s.length:=by omega
  have J:decide ((j:Int)<(((az s).length:Nat):Int))=true:=aaX ai;obtain⟨t,C⟩:∃t,s[j]?=some t:=⟨s[j],by simp[V5]⟩;have K:=gG C
  rw[show iD 43 [.mk 0 j p S xs] s=gy (t::(s.take j++s.drop (j+1)))from by
   unfold iD;rw[if_neg bn,if_neg bn,if_neg bn,if_pos Z,W,if_pos u,abU,SW C],ff]
  have O:i64.wrap ((j:Int)+1)=((j+1:Nat):Int):=by rw[iB ai ai];rfl
  have CF:=MZ s j V5 ai;rw[<- O]at CF;have B:=pF (s.take j++s.drop (j+1)) [t] ace;rw[ff]at B;clear C;rcases s with _|⟨a,l⟩
  simp at V5;have G:=xD a l (by simp only[aag]at D;omega);obtain⟨T,us⟩:=t;refine qn func122 call122 λβ hf=>?_
  repeat' (first|refine kM ?_|refine zc ?_ ?_|(intro h;first|(cases h;done)|rw[h]|skip)|refine uI Z (0) Z (Z) Z ?_|refine uI Z j Z K Z ?_|refine uC Z B ?_|refine ah.mU kn Z Z Z Z Z Z G Z ?_|refine ah.KH kn Z Z Z Z Z Z Z CF Z Z ?_)
  all_goals first|exact Wk.refl _|exact CB Z Z
 obtain⟨N,p,S,xs,rfl,E,n2,rfl⟩:=KG hf rfl;clear hf;have A:=aQ s;obtain⟨j,rfl⟩:=afA E;have W:MS ([Nd.mk 0 (j:Int) p S xs].getD 0 vw)=(j:Int):=rfl;rcases s with _|⟨⟨T,us⟩,r⟩
 rw[show iD 44 [.mk 0 j p S xs] []=bw 5 from by simp[iD],dL bn];have J:decide ((j:Int)<((([]:L CV).length:Nat):Int))=false:=aaY cc;exact qdw func122 call122;have H:iD 44 [.mk 0 j p S xs] (.mk T us::r)=if(j:Int)<r.length+1 then gy (r.take j ++ .mk T us::r.drop j)else bw 5:=by unfold iD;rw[if_neg bn,if_neg bn,if_neg bn,if_neg bn,if_pos rfl];simp only[W,abU]
 rw[H];simp only[aag]at D A;by_cases u:(j:Int)<r.length+1;rotate_left;rw[if_neg u,dL bn];have J:decide ((j:Int)<(((az (.mk T us::r)).length:Nat):Int))=false:=aaY ai;exact qdw func122 call122;rw[if_pos u,ff];have J:decide ((j:Int)<(((az (.mk T us::r)).length:Nat):Int))=true:=aaX ai;rcases r with _|⟨a,l⟩
 ·obtain rfl:j=0:=by simp at u;omega
  have G:=fB [] cc;have Q:=KF T us;exact qdw func122 call122
 have G:=xD a l (by simp only[aag]at D;omega);have Q:=M0 (a::l) (.mk T us) j cc ai (by simp only[aag]at *;omega);refine qn func122 call122 λβ hf=>?_
 repeat' (first|refine kM ?_|refine zc ?_ ?_|(intro h;first|(cases h;done)|rw[h]|skip)|refine uI Z (0) Z (Z) Z ?_|refine ah.mU kn Z Z Z Z Z Z G Z ?_|refine ah.KH kn Z Z Z Z Z Z Z Q Z Z ?_)
 all_goals first|exact Wk.refl _|exact CB Z Z
end Go.Proofs
