/- What put of package run's machine does. -/
import Derived.Test.YtdnpapgijbhofaaGreatDoorRun2
import Derived.Test.YtdnpapgijbhofaaGreatDoorVal2
import Derived.Test.YtdnpapgijbhofaaGreatDoorCtx
import Derived.Test.YtdnpapgijbhofaaGreatDoorLibD
import Derived.WalkKit
import Derived.KernelRfl
import Derived.Deep.LoopGhost
import Derived.Deep.RegionLaw
import Derived.Lib.Walk
import Derived.Lib.SliceRun
import Derived.Lib.AppendZeros
import Derived.Laws.IdiomCopy
import Derived.Laws.Externs
import Derived.Shelf.RegionOpenPlain
open Go.IntKind
open Go.Proofs.Tryz
set_option linter.defProp false
set_option maxHeartbeats 0
set_option linter.unusedVariables false
set_option linter.unusedSimpArgs false
set_option maxRecDepth 100000
namespace Go.Proofs
open Go.cw
def JZ{l:L Vl}{i:Nat}{v:Vl}(h:l[i]?=some v):l.drop i=v::l.drop (i+1):=by obtain⟨h1,h2⟩:=List.getElem?_eq_some_iff.1 h;rw[ahh h1,h2]
attribute [local irreducible] AK ah aR bM cn gX
def sG(S:bZ)(l:L Vl)(C:∀v∈l,aH v<=8589934593)(Bi:l.length<=1000)(hl:S.st.length+l.length<=549755813888):cH 152 S [.c (.sl 7 (aa l))] (ag (oK l S.st).1) {S with st:=(oK l S.st).2}:=by
 generalize Y:oK l S.st=res;have A:=aB l;refine mn func152 call152 λβ hf=>?_;refine dnm ?_;refine AK.fY [(1000000,1000000),(3001,1000001),(3002,1000002)] [] (env':=[(0,.ptr 1000000 0),(7,.c (.sl 7 (aa l))),(8,.c (ag ((aa l).length:Nat))),(9,.c (ag (0:Nat)))])
  (bs':=[(1000000,mC {S with st:=S.st} 3001 3002),(3001,ak (sR S.st)),(3002,ak (fR S.fr))]) (ts':=[]) (us':=[1000000,3001,3002])
  ce  (cvB Z Z Z Z Z Z Z Z Z) Z ?_
 refine AK.dN (α:=Nat×L Vl) (λz=>res=oK (l.drop z.1) z.2/\z.1<=l.length/\z.2.length=S.st.length+z.1) (λz=>l.length-z.1)
  (λz=>[(0,.ptr 1000000 0),(7,.c (.sl 7 (aa l))),(8,.c (ag ((aa l).length:Nat))),(9,.c (ag (z.1:Nat)))])
  (λz=>[(1000000,mC {S with st:=z.2} 3001 3002),(3001,ak (sR z.2)),(3002,ak (fR S.fr))]) (λ_=>[]) [1000000,3001,3002] (0,S.st)
  ⟨by rw[<- Y];rfl,aeW _,rfl⟩ ce ⟨rfl,rfl,rfl,trivial⟩ trivial rfl (adV {S with st:=S.st} rfl rfl rfl) rfl ?_
 rintro⟨i,s⟩ ⟨h1,h2,J⟩ ih;simp only at h1 h2 J;by_cases Q:i=l.length
 ·have H:decide (((i:Nat):Int)<(((aa l).length:Nat):Int))=false:=aaY ai;have B:res=(0,s):=by rw[h1,Q,aeT];rfl
  rw[B];clear ih;exact dm
 have H:decide (((i:Nat):Int)<(((aa l).length:Nat):Int))=true:=aaX ai;have G:i<l.length:=by omega
 obtain⟨v,N⟩:∃v,l[i]?=some v:=⟨_,aeL G⟩;have P:=abz N;have O:=C v P;have I:=JZ N;have D:(aa l)[i]?=some (bA v):=by rw[kV,N];rfl
 obtain⟨k,T,W,E,M,V,code⟩:=v;have u:=vL _ O;by_cases K:gX (.mk k T W E M V code)>200
 ·have q:decide (((gX (.mk k T W E M V code):Nat):Int)>200)=true:=aaX ai;have B:res=(13,s):=by rw[h1,I];simp only[oK,K,if_true]
  rw[B];clear ih;exact dm
 have q:decide (((gX (.mk k T W E M V code):Nat):Int)>200)=false:=aaY ai;have B:res=oK (l.drop (i+1)) (.mk k T W E M V code::s):=by rw[h1,I];simp only[oK,K,agL]
 have hw:i64.wrap (((i:Nat):Int)+1)=((i+1:Nat):Int):=by rw[iB ai ai];omega
 have U:=Rt k T W E M V code s
 repeat' (first|refine o9 ?_|refine zc ?_ ?_|(intro h;first|(cases h;done)|rw[h]|skip)|refine uI Z (i) Z (D) Z ?_|refine uC Z u ?_|refine ah.nA hX kn Z Z Z Z Z Z Z Z Z Z Z Z Z Z Z (sR s) [] (aeO _).symm (jV _).symm (v9 _) Z Z Z Z Z Z Z (show((sR s).length+1)*112<=_ by rw[jV];omega) Z (m:=s.length+1) (by rw[aaZ,jV];rfl) Z ?_|refine ah.jU hX kn Z Z Z Z Z Z Z Z Z s.length Z (afo _) ?_|refine ah.store hX kn Z Z Z Z Z Z Z Z Z (U _ Z) Z ?_|(refine uA Z ?_ ?_<;>(try (show(_:Nat)*_<=_;dsimp only))))
 refine AK.fY [(1000000,1000000),(3001,23),(3002,3002)] [] (env':=[(0,.ptr 1000000 0),(7,.c (.sl 7 (aa l))),(8,.c (ag ((aa l).length:Nat))),(9,.c (ag ((i+1:Nat):Int)))])
  (bs':=[(1000000,mC {S with st := .mk k T W E M V code::s} 3001 3002),(3001,ak (sR (.mk k T W E M V code::s))),(3002,ak (fR S.fr))]) (ts':=[]) (us':=[1000000,3001,3002])
  ⟨⟨_,Z,⟨_,Z,Z⟩⟩,⟨_,Z,.inl Z⟩,⟨_,Z,.inl Z⟩,⟨_,Z,.inl (aeM (λz=>AV.c (.int .i64 z)) hw)⟩,trivial⟩ (cvB Z Z Z Z Z Z Z Z Z) Z ?_
 exact ih (i+1,.mk k T W E M V code::s) ⟨B,G,by show(_::s).length=_;simp only[aag];omega⟩ N2
end Go.Proofs
namespace Go.Proofs
open Go.RowKit Go.Lib Go.cw
def Ca:(Tryz.prog.info? 29).map (λi=>(i.zero,i.size,i.bytes))=some (some (.agg #[.int .i64 0,.int .i64 0,.int .i64 0,.string ⟨#[]⟩,.slice none 0 0,.slice none 0 0,.slice none 0 0]),7,112):=by kernel_rfl
def adY:(Value.agg #[.int .i64 0,.int .i64 0,.int .i64 0,.string ⟨#[]⟩,.slice none 0 0,.slice none 0 0,.slice none 0 0]).cells.size=7:=rfl
def Yz:(Builtin.zeroCells (Value.agg #[.int .i64 0,.int .i64 0,.int .i64 0,.string ⟨#[]⟩,.slice none 0 0,.slice none 0 0,.slice none 0 0]).cells 1).toList=[.int .i64 0,.int .i64 0,.int .i64 0,.string ⟨#[]⟩,.slice none 0 0,.slice none 0 0,.slice none 0 0]:=by simp[Builtin.zeroCells,Value.cells,List.range,List.range.loop]
set_option maxHeartbeats 4000000 in
set_option maxRecDepth 1000000 in
def aa2(n cap i b:Nat)(w:World)(hi:i<n)(hcap:n<=cap)(news zs:L Value)(hlen:news.length=(n-(i+1))*7)(h1:∀u∈news,u.oneCell'=true)
  (hn:∀(j:Nat) u,news[j]?=some u->w.cell? ⟨b,(i+1)*7+j,none⟩=some u)(hall:∀o,o<cap*7->(w.cell? ⟨b,o,none⟩).isSome=true)(hfr:∀o,w.frozen? ⟨b,o,none⟩=false)
  (hz:zs=[.int .i64 0,.int .i64 0,.int .i64 0,.string ⟨#[]⟩,.slice none 0 0,.slice none 0 0,.slice none 0 0]) :
  Calls Tryz.prog 153 #[.slice (some ⟨b,0,none⟩) n cap,.int .i64 i,.int .i64 ((i+1:Nat):Int)] w λe w'=>e = .returned (.slice (some ⟨b,0,none⟩) (n-1) cap)/\w'=(w.drew.setCells b (i*7) news).setCells b ((n-1)*7) zs:=by
 have mixed:=Tryz.mixed;have hlt:i+1<=n:=hi;have hne:¬((i:Int)=((i+1:Nat):Int)):=by omega
 obtain⟨i0,sM,Wu,MV,Um⟩:=info_parts Ca;have ts:=Tryz.underlying27;have hic:i<=cap:=by omega
 have hjc:i+1<=cap:=by omega
 have FF:(0:Int)<=(i:Int)+1:=by omega
 have Qp:(i:Int)+1<=(n:Int):=by omega
 obtain⟨A,hA,hsrc⟩:∃A:Addr,(if cap=i+1 then(some ⟨b,0,none⟩:Option Addr)else some ⟨b,(i+1)*7,none⟩)=some A/\Hid (∀(t:Nat) u,news[t]?=some u->w.drew.cell? (A.add t)=some u):=by
  by_cases h:cap=i+1
  ·refine⟨⟨b,0,none⟩,ta,λt u hu=>?_⟩;have h0:news.length=0:=by rw[hlen];omega
   rw[List.length_eq_zero_iff.1 h0]at hu;simp at hu
  refine⟨⟨b,(i+1)*7,none⟩,ta,λt u hu=>?_⟩;rw[Addr.add_lit];exact hn t u hu
 have s1:Hid (news.length=(n-(i+1))*7):=hlen;have s2:Hid (∀u∈news,u.oneCell'=true):=h1;have s3:Hid (∀t,t<news.length->(w.drew.cell? ⟨b,0+i*7+t,none⟩).isSome=true/\w.drew.frozen? ⟨b,0+i*7+t,none⟩=false):=by intro t ht;rw[hlen]at ht;exact⟨hall _ ai,hfr _⟩
 obtain⟨W1,xB⟩:∃W1,W1=w.drew.setCells b (0+i*7) news:=⟨_,rfl⟩;have lM:∀ty,(Builtin.clear_ #[27] ty #[.slice (some ⟨b,(i+(n-(i+1)))*7,none⟩) (n-(i+(n-(i+1)))) (cap-(i+(n-(i+1))))]).run Tryz.prog W1 = .ok (.tuple #[]) (W1.setCells b ((n-1)*7) zs):=by
  intro ty
  have hst:=run_storeCells_cells (P:=Tryz.prog) b ((n-1)*7) zs 0 W1 (λj hj=>by
    rw[xB,agb]
    exact dy (λk hk=>by rw[hlen]at hk;exact hall _ ai) (hall _ (by rw[hz]at hj;simp at hj;omega)))
   (λj hj=>by rw[xB,World.frozen?_setCells];exact hfr _) (by rw[hz];simp[Value.oneCell'])
  rw[show n-(i+(n-(i+1)))=1 by omega,show i+(n-(i+1))=n-1 by omega];rw[hz]at hst ⊢;simp only[agb]at hst;simp[Builtin.clear_,run_underlying ts,Tryz.zeroValue29,Yz,hst]
 have hW:Hid (W1=w.drew.setCells b (0+i*7) news):=xB;clear xB hn hall hfr
 go_enter func153,Tryz.ntmps153
 go_wp2_with fail
 go_region_law_o (refine step_append_room Z (.tmp 22) (.tmp 25) 27 Z 29 i0 7 ts sM MV b 0 i cap nu A (n-(i+1)) (cap-(i+1)) news nu s1.out hsrc.out s2.out ai s3.out ?_;rw[<- hW.out])
 go_wp2
 go_ret
 have e1:i+(n-(i+1))=n-1:=by omega
 refine⟨by rw[<- e1];rfl,?_⟩;rw[hW.out,hz,aeS]
set_option maxHeartbeats 4000000 in
set_option maxRecDepth 100000 in
def Vc(b n c i vb vo m vc:Nat)(cs vs:L Value)(w:World)(hi:i<n)(hm:0<m)(hroom:n+m<=c)(hnb:n+m<=9000000000000000000)(MD:vb≠b)
  (lM:cs.length=n*7)(hvl:vs.length=m*7)
  (hcs:∀(j:Nat) v,cs[j]?=some v->w.cell? ⟨b,j,none⟩=some v)(hsp:∀j,j<c*7->(w.cell? ⟨b,j,none⟩).isSome=true)(hfz:∀j,w.frozen? ⟨b,j,none⟩=false)
  (hvs:∀(j:Nat) v,vs[j]?=some v->w.cell? ⟨vb,vo+j,none⟩=some v)(h1c:∀v∈cs,v.oneCell'=true)(Ex:∀v∈vs,v.oneCell'=true) :
  Calls Tryz.prog 154 #[.slice (some ⟨b,0,none⟩) n c,.int .i64 i,.slice (some ⟨vb,vo,none⟩) m vc] w λe w' =>
   e = .returned (.slice (some ⟨b,0,none⟩) (n+m) c)/\w'=(w.drew.setCells b ((i+m)*7) (cs.drop (i*7))).setCells b (i*7) vs:=by
 have ts:=Tryz.underlying27;have MV:¬((m:Int)=0):=by omega
 have hz2:¬((i:Int)=(n:Int)):=by omega
 have hz3:¬((c:Int)<(n:Int)+(m:Int)):=by omega
 have hsz:(Tryz.prog.info? 29).map (·.size)=some 7:=by kernel_rfl
 obtain⟨v0,Uo⟩:∃v0,w.cell? ⟨vb,vo,none⟩=some v0:=⟨_,hvs 0 _ (aeL ael)⟩;obtain⟨u0,hu0⟩:=Option.isSome_iff_exists.1 (hsp ((i+m)*7) ai);have hov:∀lb cb,(callFunc 175 #[.slice (some ⟨vb,vo,none⟩) m vc,.slice (some ⟨b,(i+m)*7,none⟩) lb cb]).run Tryz.prog w = .ok (.value (.bool false)) w:=λlb cb=>by
  rw[run_callFunc_extern func175 (by kernel_rfl) (by kernel_rfl) (by kernel_rfl) (e:=Extern.SlicesOverlaps.overlaps #[27,27] #[4]) (by kernel_rfl),
   um w 27 4 29 ts 7 Tryz.sizeOf29 ⟨vb,vo,none⟩ ⟨b,(i+m)*7,none⟩ m vc lb cb MD Uo hu0 hfz rfl]
  rfl
 have Ey:(cs.drop (i*7)).length=(n-i)*7:=by rw[afr,lM];omega
 have mixed:=Tryz.mixed;have hw1:i64.wrap ((i:Int)+(m:Int))=(i:Int)+(m:Int):=by rw[IntKind.wrap_i64];omega
 have Up:i64.wrap ((n:Int)+(m:Int))=(n:Int)+(m:Int):=by rw[IntKind.wrap_i64];omega
 have FF:(0:Int)<=(i:Int)+(m:Int):=by omega
 have hin:i<=n:=by omega
 have htn:((i:Int)+(m:Int)).toNat=i+m:=by omega
 have Qp:¬(c=i+m):=by omega
 have hb3:(i:Int)<=(n:Int)+(m:Int):=by omega
 have hb4:¬(c=i):=by omega
 have Wv:∀ty dc sc,(Builtin.copy_ #[27,27] ty #[.slice (some ⟨b,(i+m)*7,none⟩) (n+m-(i+m)) dc,.slice (some ⟨b,i*7,none⟩) (n+m-i) sc]).run Tryz.prog w.drew = .ok (goInt ((n-i:Nat):Int)) (w.drew.setCells b ((i+m)*7) (cs.drop (i*7))):=λty dc sc =>
  nM w.drew _ _ ty 29 b ((i+m)*7) (n+m-(i+m)) dc ⟨b,i*7,none⟩ (n+m-i) sc (cs.drop (i*7)) (n-i) 7 ts hsz nt Ey
   (λj v hj=>by rw[Addr.add_lit];exact hcs (i*7+j) v Xz)
   (λj hj=>hsp _ u7) (λj hj=>hfz _) (λv hv=>h1c v (afW hv))
 obtain⟨W1,xB⟩:∃W1,W1=w.drew.setCells b ((i+m)*7) (cs.drop (i*7)):=⟨_,rfl⟩;have acO:∀k,k<c*7->(W1.cell? ⟨b,k,none⟩).isSome=true:=λk hk=>by rw[xB];exact dy (w:=w.drew) (λj hj=>hsp ((i+m)*7+j) u7) (hsp k hk)
 have acP:∀(W:World),(∀x,W.cell? x=W1.cell? x)->(∀x,W.frozen? x=W1.frozen? x)->∀ty dc,(Builtin.copy_ #[27,27] ty #[.slice (some ⟨b,i*7,none⟩) (n+m-i) dc,.slice (some ⟨vb,vo,none⟩) m vc]).run Tryz.prog W = .ok (goInt m) (W.setCells b (i*7) vs):=λW MW Ww ty dc =>
  nM W _ _ ty 29 b (i*7) (n+m-i) dc ⟨vb,vo,none⟩ m vc vs m 7 ts hsz nt hvl
   (λj v hj=>by
    rw[Addr.add_lit,MW,xB,World.cell?_setCells_out b _ _ _ _ (λh _=>absurd h MD)]
    exact hvs j v hj)
   (λj hj=>by rw[MW];exact acO _ XF) (λj hj=>by rw[Ww,xB,World.frozen?_setCells];exact hfz _) Ex
 rw[<- xB]at Wv
 go_enter func154,Tryz.ntmps154
 go_wp2_with (simp only[hov])
 go_region_law_o (refine vz Z _ _ 27 27 Z _ _ nu nu (Wv _ _ _) ?_)
 go_wp2_with (at_builtin;refine mE _ Z _ _ 27 27 Z _ _ Z Z (acP _ (λ_=>rfl) (λ_=>rfl) _ _) ?_)
 go_ret
 first|exact⟨Z,Z⟩|exact⟨Z,by rw[xB]⟩
set_option maxHeartbeats 4000000 in
set_option maxRecDepth 100000 in
def OH(b n c vb vo m vc:Nat)(vs:L Value)(w:World)(hm:0<m)(hroom:n+m<=c)
  (hvl:vs.length=m*7)(hsp:∀j,j<c*7->(w.cell? ⟨b,j,none⟩).isSome=true)(hfz:∀j,w.frozen? ⟨b,j,none⟩=false)
  (hvs:∀(j:Nat) v,vs[j]?=some v->w.cell? ⟨vb,vo+j,none⟩=some v)(Ex:∀v∈vs,v.oneCell'=true) :
  Calls Tryz.prog 154 #[.slice (some ⟨b,0,none⟩) n c,.int .i64 n,.slice (some ⟨vb,vo,none⟩) m vc] w λe w' =>
   e = .returned (.slice (some ⟨b,0,none⟩) (n+m) c)/\w'=w.setCells b (n*7) vs:=by
 have ts:=Tryz.underlying27;obtain⟨i0,sM,Wu,hzs,Um⟩:=info_parts Ca;have mixed:=Tryz.mixed;have MV:¬((m:Int)=0):=by omega
 have hap:∀ty,(Builtin.append_ #[27,27] ty #[.slice (some ⟨b,0,none⟩) n c,.slice (some ⟨vb,vo,none⟩) m vc]).run Tryz.prog w = .ok (.slice (some ⟨b,0,none⟩) (n+m) c) (w.setCells b (n*7) vs):=λty=>by
  have:=run_append_room_cells w 27 ty 29 i0 ts sM b 0 n c ⟨vb,vo,none⟩ m vc vs (by rw[hzs];exact hvl) (λj u hj=>by rw[Addr.add_lit];exact hvs j u hj) Ex hroom
   (λj hj=>by rw[hzs];exact hsp _ XF) (λj hj=>hfz _)
  rw[hzs,aeS]at this;exact this
 go_enter func154,Tryz.ntmps154
 go_wp2_with (at_builtin;refine Lib.wpList_append_run _ Z _ _ _ _ Z _ _ Z Z _ _ (hap _) ?_)
 go_ret
 exact⟨Z,Z⟩
set_option maxHeartbeats 4000000 in
set_option maxRecDepth 100000 in
def OI(b n c vb vo m vc:Nat)(cs vs:L Value)(w:World)(hm:0<m)(hnc:n<=c)(hroom:c<n+m)(sP:(n+m)*112<=140737488355328)
  (lM:cs.length=n*7)(hvl:vs.length=m*7)
  (hcs:∀(j:Nat) v,cs[j]?=some v->w.cell? ⟨b,j,none⟩=some v)
  (hvs:∀(j:Nat) v,vs[j]?=some v->w.cell? ⟨vb,vo+j,none⟩=some v)(Ex:∀v∈vs,v.oneCell'=true) :
  Calls Tryz.prog 154 #[.slice (some ⟨b,0,none⟩) n c,.int .i64 n,.slice (some ⟨vb,vo,none⟩) m vc] w λe w' =>
   e = .returned (.slice (some ⟨w.heap.size,0,none⟩) (n+m) (grownCap w (n+m) c 29)) /\
   w'=w.drew.alloc (.cells ((cs++vs).toArray++Builtin.zeroCells (Value.agg #[.int .i64 0,.int .i64 0,.int .i64 0,.string ⟨#[]⟩,.slice none 0 0,.slice none 0 0,.slice none 0 0]).cells (grownCap w (n+m) c 29-(n+m))) 29):=by
 have ts:=Tryz.underlying27;obtain⟨i0,sM,Wu,hzs,Um⟩:=info_parts Ca;have mixed:=Tryz.mixed;have MV:¬((m:Int)=0):=by omega
 have hsrc:Src Tryz.prog i0.size 27 (.slice (some ⟨vb,vo,none⟩) m vc) m vs w:=by rw[hzs];exact aey
 have hold:(Builtin.firstCells i0.size n (.slice (some ⟨b,0,none⟩) n c)).run Tryz.prog w.drew = .ok cs.toArray w.drew:=by rw[hzs];exact run_firstCells_some w.drew 7 n ⟨b,0,none⟩ n c cs lM (λj v hj=>by rw[Addr.add_lit,aeS];exact hcs j v hj)
 have hrun:∀ty,(Builtin.append_ #[27,27] ty #[.slice (some ⟨b,0,none⟩) n c,.slice (some ⟨vb,vo,none⟩) m vc]).run Tryz.prog w=_:=λty =>
  run_append_grow_src w 27 27 ty 29 i0 _ ts sM Wu (some ⟨b,0,none⟩) n c cs hold _ m vs hsrc hroom ai (by rw[Um];exact growslice_fits hroom sP)
 go_enter func154,Tryz.ntmps154
 go_wp2_with (at_builtin;refine Lib.wpList_append_run _ Z _ _ _ _ Z _ _ Z Z _ _ (hrun _) ?_)
 all_goals (go_ret;exact⟨Z,Z⟩)
set_option maxHeartbeats 4000000 in
set_option maxRecDepth 100000 in
def YA(b n c i vb vo m vc:Nat)(cs vs:L Value)(w:World)(hi:i<n)(hm:0<m)(hnc:n<=c)(hroom:c<n+m)(sP:(n+m)*112<=140737488355328)
  (lM:cs.length=n*7)(hvl:vs.length=m*7)
  (hcs:∀(j:Nat) v,cs[j]?=some v->w.cell? ⟨b,j,none⟩=some v)
  (hvs:∀(j:Nat) v,vs[j]?=some v->w.cell? ⟨vb,vo+j,none⟩=some v)(h1c:∀v∈cs,v.oneCell'=true)(Ex:∀v∈vs,v.oneCell'=true) :
  Calls Tryz.prog 154 #[.slice (some ⟨b,0,none⟩) n c,.int .i64 i,.slice (some ⟨vb,vo,none⟩) m vc] w λe w' =>
   ∃G pn,n+m<=G/\G*7<=pn.size/\(∀j,j<i*7->pn[j]?=cs[j]?)/\e = .returned (.slice (some ⟨w.heap.size,0,none⟩) (n+m) G) /\
   w'=(((w.alloc (.cells pn 29)).drew.setCells w.heap.size (i*7) vs).drew).setCells w.heap.size ((i+m)*7) (cs.drop (i*7)):=by
 have ts:=Tryz.underlying27;have tn:=Tryz.underlying3;have mixed:=Tryz.mixed;obtain⟨i0,sM,Wu,hzs,Um⟩:=info_parts Ca;have MV:¬((m:Int)=0):=by omega
 have hz2:¬((i:Int)=(n:Int)):=by omega
 have hz3:(c:Int)<(n:Int)+(m:Int):=by omega
 have hsz:(Tryz.prog.info? 29).map (·.size)=some 7:=by kernel_rfl
 have hbw:b<w.heap.size:=block_lt_of_cell (hcs 0 _ (aeL (by rw[lM];omega)));have hvw:vb<w.heap.size:=block_lt_of_cell (hvs 0 _ (aeL ael));have hkk:(n:Int)+(m:Int)-(i:Int)=((n+m-i:Nat):Int):=by omega
 have hik:i+(n+m-i)=n+m:=by omega
 have FG:(cs.take (i*7)).length=i*7:=by rw[afb,lM];omega
 have hold:(Builtin.firstCells i0.size i (.slice (some ⟨b,0,none⟩) i c)).run Tryz.prog w.drew = .ok (cs.take (i*7)).toArray w.drew:=by
  rw[hzs]
  exact run_firstCells_some w.drew 7 i ⟨b,0,none⟩ i c (cs.take (i*7)) FG (λj v hj=>by
   rw[Addr.add_lit,aeS];rw[agB]at hj;split at hj;exact hcs j v hj
   cases hj)
 obtain⟨ZS,hZS⟩:∃ZS,ZS=(Value.agg #[.int .i64 0,.int .i64 0,.int .i64 0,.string ⟨#[]⟩,.slice none 0 0,.slice none 0 0,.slice none 0 0]).cells:=⟨_,rfl⟩;have hZn:ZS.size=7:=by rw[hZS];rfl
 have Uq:∀k,(Builtin.zeroCells ZS k).size=k*7:=λk=>by simp[Builtin.zeroCells,hZn]
 have ZX:∀ty,(Builtin.append_ #[27,3] ty #[.slice (some ⟨b,0,none⟩) i c,.int .i64 ((n:Int)+(m:Int)-(i:Int))]).run Tryz.prog w =
   .ok (.slice (some ⟨w.heap.size,0,none⟩) (n+m) (grownCap w (n+m) c 29)) (w.drew.alloc (.cells ((cs.take (i*7)).toArray++Builtin.zeroCells ZS (n+m-i)++Builtin.zeroCells ZS (grownCap w (n+m) c 29-(n+m))) 29)):=λty=>by
  have h:=Lib.run_append_grow_zeros w 27 3 ty 29 i0 _ .i64 .i64 ts tn sM Wu (some ⟨b,0,none⟩) i c (cs.take (i*7)) hold (n+m-i) ai ai ai ai (by rw[Um];omega) (by rw[Um,hik];exact growslice_fits hroom sP);rw[hik,<- hZS]at h;rw[hkk];exact h
 obtain⟨G,hG⟩:∃G,G=grownCap w (n+m) c 29:=⟨_,rfl⟩;have hGn:n+m<=G:=by rw[hG];exact grownCap_ge w _ _ _
 obtain⟨pn,KE⟩:∃pn:Array Value,pn=(cs.take (i*7)).toArray++Builtin.zeroCells ZS (n+m-i)++Builtin.zeroCells ZS (G-(n+m)):=⟨_,rfl⟩;rw[<- hG]at ZX;rw[<- KE]at ZX;have hRs:pn.size=G*7:=by rw[KE,agK,agK,Uq,Uq,agf,FG];omega
 have ZY:∀j,j<i*7->pn[j]?=cs[j]?:=λj hj=>by rw[KE,afq ab1,afq (by rw[agf,FG];exact hj)];rw[ahy,agB,if_pos hj]
 obtain⟨W1,xB⟩:∃W1,W1=w.drew.alloc (.cells pn 29):=⟨_,rfl⟩;rw[<- xB]at ZX;have hN:∀j,j<G*7->(W1.cell? ⟨w.heap.size,j,none⟩).isSome=true:=λj hj=>by rw[xB,World.cell?_alloc_at (w:=w.drew) pn _ w.heap.size j Z,afE ai];rfl
 have hNf:∀j,W1.frozen? ⟨w.heap.size,j,none⟩=false:=λj=>by rw[xB];exact World.frozen?_alloc_at (w:=w.drew) pn _ w.heap.size j Z
 have hOb:∀j v,w.cell? ⟨b,j,none⟩=some v->W1.cell? ⟨b,j,none⟩=some v:=λj v h=>by rw[xB,World.cell?_alloc_past (w:=w.drew) _ b j hbw];exact h
 have hOv:∀j v,w.cell? ⟨vb,j,none⟩=some v->W1.cell? ⟨vb,j,none⟩=some v:=λj v h=>by rw[xB,World.cell?_alloc_past (w:=w.drew) _ vb j hvw];exact h
 have acS:∀(W:World),(∀x,W.cell? x=W1.cell? x)->(∀x,W.frozen? x=W1.frozen? x)->∀ty dc,(Builtin.copy_ #[27,27] ty #[.slice (some ⟨w.heap.size,i*7,none⟩) (n+m-i) dc,.slice (some ⟨vb,vo,none⟩) m vc]).run Tryz.prog W = .ok (goInt m) (W.setCells w.heap.size (i*7) vs):=λW MW Ww ty dc =>
  nM W _ _ ty 29 w.heap.size (i*7) (n+m-i) dc ⟨vb,vo,none⟩ m vc vs m 7 ts hsz nt hvl
   (λj v hj=>by rw[Addr.add_lit,MW];exact hOv _ v (hvs j v hj))
   (λj hj=>by rw[MW];exact hN _ XF) (λj hj=>by rw[Ww];exact hNf _) Ex
 have aht:G<=9223372036854775807:=by have:=grownCap_le_maxLen w (n+m) c 29 (by unfold maxLen;omega);rw[<- hG]at this;unfold maxLen at this;omega
 have hGi:¬(G=i):=by omega
 have ahu:¬(G=i+m):=by omega
 have hci:¬(c=i):=by omega
 have hbN:b≠w.heap.size:=by omega
 have Ey:(cs.drop (i*7)).length=(n-i)*7:=by rw[afr,lM];omega
 have Wy:∀(W:World),(∀x,W.cell? x=(W1.setCells w.heap.size (i*7) vs).cell? x)->(∀x,W.frozen? x=(W1.setCells w.heap.size (i*7) vs).frozen? x)->∀ty dc sc,(Builtin.copy_ #[27,27] ty #[.slice (some ⟨w.heap.size,(i+m)*7,none⟩) (n+m-(i+m)) dc,.slice (some ⟨b,i*7,none⟩) (n-i) sc]).run Tryz.prog W = .ok (goInt ((n-i:Nat):Int)) (W.setCells w.heap.size ((i+m)*7) (cs.drop (i*7))):=λW MW Ww ty dc sc =>
  nM W _ _ ty 29 w.heap.size ((i+m)*7) (n+m-(i+m)) dc ⟨b,i*7,none⟩ (n-i) sc (cs.drop (i*7)) (n-i) 7 ts hsz nt Ey
   (λj v hj=>by
    rw[Addr.add_lit,MW,World.cell?_setCells_out _ _ _ _ _ (λh _=>absurd h hbN)]
    exact hOb _ v (hcs (i*7+j) v Xz))
   (λj hj=>by rw[MW];exact dy (λt ht=>hN _ (by rw[hvl]at ht;omega)) (hN _ u7))
   (λj hj=>by rw[Ww,World.frozen?_setCells];exact hNf _) (λv hv=>h1c v (afW hv))
 subst xB;have hE1:∀x,((w.alloc (.cells pn 29)).drew).cell? x=(w.drew.alloc (.cells pn 29)).cell? x:=λx=>rfl;have hE2:∀x,((w.alloc (.cells pn 29)).drew).frozen? x=(w.drew.alloc (.cells pn 29)).frozen? x:=λx=>rfl;have hF1:∀x,(((w.alloc (.cells pn 29)).drew.setCells w.heap.size (i*7) vs).drew).cell? x=((w.drew.alloc (.cells pn 29)).setCells w.heap.size (i*7) vs).cell? x:=λx=>rfl;have hF2:∀x,(((w.alloc (.cells pn 29)).drew.setCells w.heap.size (i*7) vs).drew).frozen? x=((w.drew.alloc (.cells pn 29)).setCells w.heap.size (i*7) vs).frozen? x:=λx=>rfl;have hw1:i64.wrap ((i:Int)+(m:Int))=(i:Int)+(m:Int):=by rw[IntKind.wrap_i64];omega
 have Up:i64.wrap ((n:Int)+(m:Int))=(n:Int)+(m:Int):=by rw[IntKind.wrap_i64];omega
 have hw3:i64.wrap ((n:Int)+(m:Int)-(i:Int))=(n:Int)+(m:Int)-(i:Int):=by rw[IntKind.wrap_i64];omega
 have FF:(0:Int)<=(i:Int)+(m:Int):=by omega
 have hin:i<=n:=by omega
 have htn:((i:Int)+(m:Int)).toNat=i+m:=by omega
 have hb3:(i:Int)<=(n:Int):=by omega
 clear hkk hik hold KE hG Uq hZS hZn FG;refine Calls.mono (R:=λe w'=>e = .returned (.slice (some ⟨w.heap.size,0,none⟩) (n+m) G)/\w'=(((w.alloc (.cells pn 29)).drew.setCells w.heap.size (i*7) vs).drew).setCells w.heap.size ((i+m)*7) (cs.drop (i*7))) ?_ ?_;rotate_left;rintro e w' ⟨h1,h2⟩;exact⟨G,pn,hGn,ai,ZY,h1,h2⟩;clear ZY
 go_enter func154,Tryz.ntmps154
 go_wp2_with (first
  |(at_builtin;refine Lib.wpList_append_run _ rfl _ _ _ _ rfl _ _ rfl rfl _ _ (ZX _) ?_)
  |(at_builtin;refine mE _ rfl _ _ 27 27 rfl _ _ rfl rfl (acS _ hE1 hE2 _ _) ?_)
  |(at_builtin;refine mE _ rfl _ _ 27 27 rfl _ _ rfl rfl (Wy _ (λ_=>rfl) (λ_=>rfl) _ _ _) ?_))
 go_region_law_o (refine vz Z _ _ 27 27 Z (.slice (some ⟨w.heap.size,(i+m)*7,none⟩) (n+m-(i+m)) (G-(i+m))) (.slice (some ⟨b,i*7,none⟩) (n-i) (c-i)) nu nu (Wy _ hF1 hF2 3 (G-(i+m)) (c-i)) ?_)
 go_wp2
 go_ret
 exact⟨Z,Z⟩
set_option maxHeartbeats 1000000 in
def aa3(b n c i vb vo vc:Nat)(cs vs:L Value)(w:World)(hi:i<=n)(hn0:0<n)(hnc:n<=c)(sP:(n+1)*112<=140737488355328)(MD:vb≠b)
  (lM:cs.length=n*7)(hvl:vs.length=1*7)
  (hcs:∀(j:Nat) v,cs[j]?=some v->w.cell? ⟨b,j,none⟩=some v)(hsp:∀j,j<c*7->(w.cell? ⟨b,j,none⟩).isSome=true)(hfz:∀j,w.frozen? ⟨b,j,none⟩=false)
  (hvs:∀(j:Nat) v,vs[j]?=some v->w.cell? ⟨vb,vo+j,none⟩=some v)(h1c:∀v∈cs,v.oneCell'=true)(Ex:∀v∈vs,v.oneCell'=true) :
  Calls Tryz.prog 154 #[.slice (some ⟨b,0,none⟩) n c,.int .i64 i,.slice (some ⟨vb,vo,none⟩) 1 vc] w λe w' =>
   ∃b' cap',e = .returned (.slice (some ⟨b',0,none⟩) (n+1) cap')/\n+1<=cap'/\SV w b w' b' (cs.take (i*7)++(vs++cs.drop (i*7)))/\∀o,(o<cap'*7->(w'.cell? ⟨b',o,none⟩).isSome=true)/\w'.frozen? ⟨b',o,none⟩=false:=by
 have FG:(cs.take (i*7)).length=i*7:=by rw[afb,lM];omega
 have hbw:b<w.heap.size:=block_lt_of_cell (hcs 0 _ (aeL (by rw[lM];omega)));have jy:∀(j:Nat) u,(cs.take (i*7)++(vs++cs.drop (i*7)))[j]?=some u->(j<i*7/\cs[j]?=some u)\/(i*7<=j/\j<(i+1)*7/\vs[j-i*7]?=some u)\/((i+1)*7<=j/\(cs.drop (i*7))[j-(i+1)*7]?=some u):=by intro j u hj;rw[agU]at hj;split at hj;rename_i h;rw[FG]at h;rw[agB,if_pos h]at hj;exact .inl ⟨h,hj⟩;rename_i h;rw[FG]at h hj;rw[agU]at hj;split at hj;rename_i h2;rw[hvl]at h2;exact .inr (.inl ⟨ai,ai,hj⟩);rename_i h2;rw[hvl]at h2 hj;refine .inr (.inr ⟨ai,?_⟩);rwa[show j-(i+1)*7=j-i*7-1*7 by omega]
 have Ey:(cs.drop (i*7)).length=(n-i)*7:=by rw[afr,lM];omega
 by_cases he:i=n
 ·subst he;have Qe:cs.drop (i*7)=[]:=afy ai;by_cases hr:i+1<=c
  ·refine Calls.mono (OH b i c vb vo 1 vc vs w ai hr hvl hsp hfz hvs Ex) ?_;rintro e w' ⟨h1,rfl⟩;obtain⟨k1,k2,k3,k4,k5⟩:=eI b vs (i*7) w;have hss:∀j,j<vs.length->(w.cell? ⟨b,i*7+j,none⟩).isSome=true:=λj hj=>hsp _ ai;refine⟨b,c,h1,hr,⟨k2,k3,k4,ai,.inl Z,λj u hj=>?_,λb2 _ h=>k5 b2 h⟩,λo=>⟨λho=>dy hss (hsp o ho),by rw[World.frozen?_setCells];exact hfz o⟩⟩;rw[eC hss];rcases jy j u hj with ⟨h,h'⟩|⟨h,h',h2⟩|⟨h,h2⟩
   rw[if_neg ai];exact hcs j u h';rw[if_pos ai];exact h2;rw[Qe]at h2;simp at h2
  refine Calls.mono (OI b i c vb vo 1 vc cs vs w ai hnc ai sP lM hvl hcs hvs Ex) ?_;rintro e w' ⟨h1,rfl⟩;have hge:=grownCap_ge w (i+1) c 29;refine⟨_,_,h1,grownCap_ge w _ _ _,⟨Z,Z,Z,by simp[World.alloc],.inr (aaV _),λj u hj=>?_,λb2 h _=>?_⟩,λo=>⟨λho=>?_,World.frozen?_alloc_at (w:=w.drew) _ _ w.heap.size o Z⟩⟩;rotate_left 2
  ·rw[World.cell?_alloc_at (w:=w.drew) _ _ w.heap.size o Z,afE (by
    simp only[agK,agf,aaZ,lM,hvl,size_zeroCells,adY]
    omega)];rfl
  ·rw[World.cell?_alloc_at (w:=w.drew) _ _ w.heap.size j rfl];have hjl:j<(cs++vs).length:=by
    rw[aaZ,lM,hvl];rcases jy j u hj with ⟨h,h'⟩|⟨h,h',h2⟩|⟨h,h2⟩
    omega;omega;rw[Qe]at h2;simp at h2
   rw[afq (by rw[agf];exact hjl),ahy];rw[Qe,aeO,agJ ai]at hj;exact hj
  show(w.drew.alloc _).heap[b2]?=_;simp only[World.alloc];rw[ahv (by exact h)];exact(afE (xs:=w.heap) h).symm
 have hi':i<n:=by omega
 by_cases hr:n+1<=c
 ·refine Calls.mono (Vc b n c i vb vo 1 vc cs vs w hi' ai hr ai MD lM hvl hcs hsp hfz hvs h1c Ex) ?_;rintro e w' ⟨h1,rfl⟩;obtain⟨k1,k2,k3,k4,k5⟩:=eI b (cs.drop (i*7)) ((i+1)*7) w.drew;obtain⟨l1,l2,l3,l4,l5⟩:=eI b vs (i*7) (w.drew.setCells b ((i+1)*7) (cs.drop (i*7)));have uo:∀j,j<(cs.drop (i*7)).length->(w.drew.cell? ⟨b,(i+1)*7+j,none⟩).isSome=true:=λj hj=>hsp _ u7;have oX:∀j,j<vs.length->((w.drew.setCells b ((i+1)*7) (cs.drop (i*7))).cell? ⟨b,i*7+j,none⟩).isSome=true:=λj hj=>dy uo (hsp _ ai);refine⟨b,c,h1,hr,⟨aem,aen,aeo,ad6,.inl Z,λj u hj=>?_,λb2 _ h=>by rw[l5 b2 h,k5 b2 h];rfl⟩,λo=>⟨λho=>dy oX (dy uo (hsp o ho)),by rw[World.frozen?_setCells,World.frozen?_setCells];exact hfz o⟩⟩;rw[eC oX,eC uo];rcases jy j u hj with ⟨h,h'⟩|⟨h,h',h2⟩|⟨h,h2⟩
  rw[if_neg ai,if_neg ai];exact hcs j u h';rw[if_pos ai];exact h2;have hjj:j-(i+1)*7<(cs.drop (i*7)).length:=by
   rcases agW (j-(i+1)*7) (cs.drop (i*7)).length with hh|hh
   exact hh;rw[agM hh]at h2;cases h2
  rw[if_neg ai,if_pos ai];exact h2
 refine Calls.mono (YA b n c i vb vo 1 vc cs vs w hi' ai hnc ai sP lM hvl hcs hvs h1c Ex) ?_;rintro e w' ⟨G,pn,hG,hR,ZY,h1,rfl⟩;obtain⟨w1,hw1⟩:∃w1,w1=(w.alloc (.cells pn 29)).drew:=⟨_,rfl⟩;have hN:∀j,j<G*7->(w1.cell? ⟨w.heap.size,j,none⟩).isSome=true:=λj hj=>by rw[hw1];show((w.alloc (.cells pn 29)).cell? ⟨w.heap.size,j,none⟩).isSome=true;rw[World.cell?_alloc_at (w:=w) pn _ w.heap.size j Z,afE ai];rfl
 have hC:∀j u,j<i*7->cs[j]?=some u->w1.cell? ⟨w.heap.size,j,none⟩=some u:=λj u hj hu=>by rw[hw1];show(w.alloc (.cells pn 29)).cell? ⟨w.heap.size,j,none⟩=some u;rw[World.cell?_alloc_at (w:=w) pn _ w.heap.size j Z,ZY j hj];exact hu
 have hH:∀b2,b2<w.heap.size->w1.heap[b2]?=w.heap[b2]?:=λb2 h=>by rw[hw1];show(w.alloc _).heap[b2]?=_;simp only[World.alloc];rw[ahv h];exact(afE (xs:=w.heap) h).symm
 have hS:w1.heap.size=w.heap.size+1:=by rw[hw1];show(w.heap.push _).size=_;rw[Array.size_push]
 have hO:w1.os=w.os/\w1.tape=w.tape/\w1.output=w.output:=by rw[hw1];exact⟨Z,Z,Z⟩
 have hNf:∀j,w1.frozen? ⟨w.heap.size,j,none⟩=false:=λj=>by rw[hw1];exact World.frozen?_alloc_at (w:=w) pn _ w.heap.size j Z
 rw[<- hw1];obtain⟨k1,k2,k3,k4,k5⟩:=eI w.heap.size vs (i*7) w1;obtain⟨l1,l2,l3,l4,l5⟩:=eI w.heap.size (cs.drop (i*7)) ((i+1)*7) (w1.setCells w.heap.size (i*7) vs).drew;have uo:∀j,j<vs.length->(w1.cell? ⟨w.heap.size,i*7+j,none⟩).isSome=true:=λj hj=>hN _ ai;have oX:∀j,j<(cs.drop (i*7)).length->((w1.setCells w.heap.size (i*7) vs).drew.cell? ⟨w.heap.size,(i+1)*7+j,none⟩).isSome=true:=λj hj=>by show((w1.setCells w.heap.size (i*7) vs).cell? _).isSome=true;exact dy uo (hN _ u7)
 refine⟨_,_,h1,hG,⟨by rw[l2];exact k2.trans hO.1,by rw[l3];exact k3.trans hO.2.1,by rw[l4];exact k4.trans hO.2.2,by rw[l1];show w.heap.size<=(w1.setCells w.heap.size (i*7) vs).heap.size;rw[k1,hS];omega,.inr (aaV _),λj u hj=>?_,λb2 h _=>?_⟩,λo=>⟨λho=>dy oX (by
   show((w1.setCells w.heap.size (i*7) vs).cell? _).isSome=true
   exact dy uo (hN _ ho)),by
   rw[World.frozen?_setCells];show(w1.setCells w.heap.size (i*7) vs).frozen? _=false
   rw[World.frozen?_setCells];exact hNf o⟩⟩
 ·rw[eC oX];rcases jy j u hj with ⟨h,h'⟩|⟨h,h',h2⟩|⟨h,h2⟩
  rw[if_neg ai];show(w1.setCells w.heap.size (i*7) vs).cell? _=_;rw[eC uo,if_neg ai];exact hC j u h h';rw[if_neg ai];show(w1.setCells w.heap.size (i*7) vs).cell? _=_;rw[eC uo,if_pos ai];exact h2;have hjj:j-(i+1)*7<(cs.drop (i*7)).length:=by
   rcases agW (j-(i+1)*7) (cs.drop (i*7)).length with hh|hh
   exact hh;rw[agM hh]at h2;cases h2
  rw[if_pos ai];exact h2
 rw[l5 b2 ai];show(w1.setCells w.heap.size (i*7) vs).heap[b2]?=_;rw[k5 b2 ai,hH b2 h]
open Go.cw
def Fj:∀(l:L Vl),(bz (aa l)).all CV.one=true
 |[]=>rfl
 |.mk _ _ _ _ _ _ _::l=>by simp only[aa,bA,bz,CV.cells,agV,Fj l,agO];rfl
def yB:∀(n:Nat)(l:L Vl),(aa l).take n=aa (l.take n)
 |0,l=>rfl
 |n+1,[]=>rfl
 |n+1,x::l=>by simp only[aa,ahj,yB n l]
def wh:∀(n:Nat)(l:L Vl),(aa l).drop n=aa (l.drop n)
 |0,l=>rfl
 |n+1,[]=>rfl
 |n+1,x::l=>by simp only[aa,agQ,wh n l]
attribute [local irreducible] AK ah aR bM cn
def fW(x:Vl)(l:L Vl)(I:l.length<=1099511627776):qh 83 none [.c (.sl 7 (aa (x::l)))] (.gY 999999 0 7 (l.length+1)) (some (bz (aa (x::l)))):=by
 have h1:=aB l;have S:([]++aa (x::l)).length=l.length+1:=by simp only[aa,afM,aag,h1]
 have U:((([]:L CV).length)+(aa (x::l)).length)*112<=140737488355328:=by simp only[aa,aag,aay,h1];omega
 obtain⟨k,T,W,E,M,V,code⟩:=x;refine cX.of func83 Z (λM w=>call83 M w) (aeP Z) [(0,.c (.sl 7 (aa (.mk k T W E M V code::l))))] ⟨[],[],[]⟩ Z Z λβ=>?_;have hf:=func83
 repeat' (first|refine sz ?_|refine ze ?_ ?_|(intro h;first|(cases h;done)|rw[h]|skip)|refine AK.rM rfl ?_ ?_|refine ah.sV hX kn rfl rfl rfl rfl rfl rfl rfl rfl rfl rfl rfl rfl rfl rfl rfl rfl rfl rfl (λh=>by cases h) rfl rfl rfl U rfl S ?_|(refine uA rfl ?_ ?_<;>(try (show(_:Nat)*_<=_;dsimp only))))
 exact AK.acT hX hf Z Z Z
def tG(s:L Vl)(i:Nat)(hi:i<s.length)(hl:s.length<=20000000000):qh 153 (some (bz (aa s))) (.gY 1000000 0 7 s.length::[CV.int .i64 (i:Int),CV.int .i64 ((i+1:Nat):Int)].map AV.c)
  (.gY 999999 0 7 (aa (s.take i++s.drop (i+1))).length) (some (bz (aa (s.take i++s.drop (i+1))))):=by
 have z1:=aB s;have hc:(bz (aa s)).length=s.length*7:=by rw[dz (iy s),z1]
 have V:bz (aa (s.take i++s.drop (i+1)))=(bz (aa s)).take (i*7)++(bz (aa s)).drop ((i+1)*7):=by rw[mu,dP,vA (iy s) i ai,vB (iy s) (i+1) ai,yB,wh]
 refine cX.afZ (λM w=>call153 M w) ai (Fj _) ?_;intro w G b N vs us hb hGb jl O I W A U D;simp only[b9,Rel]at D;obtain⟨_,_,rfl,rfl,_,_,rfl,rfl,rfl⟩:=D;have Q:vs.length=s.length*7:=by rw[qi O,hc]
 have h1:=og O W;refine⟨vs.take (i*7)++vs.drop ((i+1)*7),by rw[V];exact fO (uq _ O) (ur _ O),?_⟩;have H:∀o,o<N*7->(w.cell? ⟨b,o,none⟩).isSome=true:=λo T=>by obtain⟨u,S⟩:=(U o).1 T;rw[S];rfl
 have E:(vs.drop ((i+1)*7)).length=(s.length-(i+1))*7:=by rw[afr,Q];omega
 refine Calls.mono (aa2 s.length N i b w hi A (vs.drop ((i+1)*7)) _ E (λu S=>h1 u (afW S)) (λj u Y=>I _ u (by rwa[agS]at Y)) H (λo=>(U o).2) Z) ?_;rintro e w' ⟨e1,rfl⟩;obtain⟨C,k2,k3,k4,k5⟩:=eI b (vs.drop ((i+1)*7)) (i*7) w.drew;generalize P:[Value.int IntKind.i64 0,Value.int IntKind.i64 0,Value.int IntKind.i64 0,Value.string ⟨#[]⟩,Value.slice none 0 0,Value.slice none 0 0,Value.slice none 0 0]=zs;have hzl:zs.length=7:=by rw[<- P];rfl
 obtain⟨B,l2,l3,l4,l5⟩:=eI b zs ((s.length-1)*7) (w.drew.setCells b (i*7) (vs.drop ((i+1)*7)));have K:∀j,j<(vs.drop ((i+1)*7)).length->(w.drew.cell? ⟨b,i*7+j,none⟩).isSome=true:=λj Y=>H _ (by rw[E]at Y;omega);have q:∀j,j<zs.length->((w.drew.setCells b (i*7) (vs.drop ((i+1)*7))).cell? ⟨b,(s.length-1)*7+j,none⟩).isSome=true:=λj Y=>dy K (H _ ai);have Bi:(aa (s.take i++s.drop (i+1))).length=s.length-1:=by rw[aB,aaZ,afb,afr];omega
 refine⟨b,N,ad7,ai,⟨aem,aen,aeo,by rw[B,C];exact aaV _,.inl Z,λj u Y=>?_,λb2 _ h=>by rw[l5 b2 h,k5 b2 h];rfl⟩,by rw[B,C];exact hb,λo=>⟨λT=>Option.isSome_iff_exists.1 (dy q (dy K (H o T))),by rw[World.frozen?_setCells,World.frozen?_setCells];exact(U o).2⟩⟩;have FG:(vs.take (i*7)).length=i*7:=by rw[afb,Q];omega
 rw[eC q,eC K];rw[agU]at Y;split at Y;rename_i h;rw[FG]at h;rw[agB,if_pos h]at Y;rw[if_neg ai,if_neg ai];exact I j u Y;rename_i h;rw[FG]at h Y;have hjj:j-i*7<(vs.drop ((i+1)*7)).length:=by
  rcases agW (j-i*7) (vs.drop ((i+1)*7)).length with J|J
  exact J;rw[agM J]at Y;cases Y
 rw[if_neg ai,if_pos ai];exact Y
def yx(s:L Vl)(x:Vl)(i:Nat)(h0:0<s.length)(hi:i<=s.length)(hl:s.length<=20000000000):qh 154 (some (bz (aa s))) (.gY 1000000 0 7 s.length::[CV.int .i64 (i:Int),CV.sl 7 (aa [x])].map AV.c)
  (.gY 999999 0 7 (aa (s.take i++x::s.drop i)).length) (some (bz (aa (s.take i++x::s.drop i)))):=by
 have z1:=aB s;have hc:(bz (aa s)).length=s.length*7:=by rw[dz (iy s),z1]
 have C:bz (aa (s.take i++x::s.drop i))=(bz (aa s)).take (i*7)++(bz (aa [x])++(bz (aa s)).drop (i*7)):=by rw[mu,dP,vA (iy s) i ai,vB (iy s) i ai,yB,wh];simp only[aa,bz,aeO]
 refine cX.afZ (λM w=>call154 M w) h0 (Fj _) ?_;intro w G b N vs us hb B P O jP W A U wY;obtain⟨k,nn,a1,s0,M,V,code⟩:=x;simp only[b9,Rel,aa,cU,aag,aay]at wY;obtain⟨_,_,rfl,rfl,_,_,rfl,⟨base,len,vc,rfl,rfl,hvc,T⟩,rfl⟩:=wY;have q:vs.length=s.length*7:=by rw[qi O,hc]
 have h1:=og O W;have hsp:∀o,o<N*7->(w.cell? ⟨b,o,none⟩).isSome=true:=λo ho=>by obtain⟨u,hu⟩:=(U o).1 ho;rw[hu];rfl
 rcases T with T|⟨vb,vo,rfl,T⟩
 simp at T;simp only[gF,qB,dJ,ahC]at T;obtain⟨⟨⟨Q,g1,r1,o1⟩,⟨K,g2,r2,o2⟩,⟨J,g3,r3,o3⟩,⟨I,g4,r4,o4⟩,⟨H,g5,r5,o5⟩,⟨E,g6,r6,o6⟩,q7⟩,_⟩:=T;obtain⟨⟨D,g7,r7,o7⟩,_⟩:=q7;have MD:vb≠b:=λh=>by subst h;rw[B]at g1;cases g1
 have M1:b9 G (bz (aa [.mk k nn a1 s0 M V code])) [Q,K,J,I,H,E,D]:=by simp only[aa,cU,bz,CV.cells,aeO,b9];exact⟨Q,_,Z,r1,K,_,Z,r2,J,_,Z,r3,I,_,Z,r4,H,_,Z,r5,E,_,Z,r6,D,_,Z,r7,Z⟩
 refine⟨vs.take (i*7)++([Q,K,J,I,H,E,D]++vs.drop (i*7)),by rw[C];exact fO (uq _ O) (fO M1 (ur _ O)),?_⟩;refine Calls.mono (aa3 b s.length N i vb vo vc vs [Q,K,J,I,H,E,D] w hi h0 A ai MD q Z jP hsp (λo=>(U o).2) (λj v Y=>?_) h1 (og M1 (Fj _))) ?_
 ·rcases j with _|_|_|_|_|_|_|j
  simp at Y;subst Y;exact P _ _ _ g1;simp at Y;subst Y;exact P _ _ _ g2;simp at Y;subst Y;exact P _ _ _ g3;simp at Y;subst Y;exact P _ _ _ g4;simp at Y;subst Y;exact P _ _ _ g5;simp at Y;subst Y;exact P _ _ _ g6;simp at Y;subst Y;exact P _ _ _ g7;simp at Y
 rintro e w' ⟨b',S,e1,e2,e3,e4⟩;have Bi:(aa (s.take i++Vl.mk k nn a1 s0 M V code::s.drop i)).length=s.length+1:=by rw[aB,aaZ,aag,afb,afr];omega
 obtain⟨u0,hu0⟩:=Option.isSome_iff_exists.1 ((e4 0).1 ai);exact⟨b',S,ad7,by rw[Bi];exact e2,e3,GZ hu0,λo=>⟨λho=>Option.isSome_iff_exists.1 ((e4 o).1 ho),(e4 o).2⟩⟩
def J0:∀(p x y q:L AV),x.length=y.length->bG p.length x (p++(y++q))=some (p++(x++q))
 |[],x,y,q,h=>by
  induction x generalizing y with
  |nil=>cases y with
   |nil=>cases q<;>simp only[aay,afM,bG]
   |cons _ _=>simp at h
  |cons a x Y=>cases y with
   |nil=>simp at h
   |cons b y =>
    have:=Y y oe;simp only[aay,afM,aeN]at this ⊢;simp only[bG,this]
 |a::p,x,y,q,h=>by
  cases x with
  |nil=>cases y with
   |nil=>simp only[aag,aeN,bG]
   |cons _ _=>simp at h
  |cons b x=>simp only[aag,aeN,bG,J0 p (b::x) y q h]
def J1{l:L Vl}{i:Nat}{v:Vl}(h:l[i]?=some v):l=l.take i++v::l.drop (i+1)/\(l.take i).length=i:=by obtain⟨h1,h2⟩:=List.getElem?_eq_some_iff.1 h;constructor;rw[<- JZ h,agc];grind
def Ry(a b:L Vl):ak (aa (a++b))=ak (aa a)++ak (aa b):=by rw[ak,mu,dP,afa]
def YB(a:L Vl):(ak (aa a)).length=a.length*7:=by rw[ak,aeU,dz (iy _),aB]
def G2{l:L Vl}{i:Nat}{k n a:Int}{s:L UInt8}{M:L Vl}{V:L Ty}{code:L Nd}(h:l[i]?=some (.mk k n a s M V code)):dV (0+i*7) (ak (aa l)) =
  some (.c (ag k) :: .c (ag n) :: .c (ag a) :: .c (.str s) :: .c (.sl 7 (aa M)) :: .c (.sl 2 (az V)) :: .c (.sl 5 (aD code))::ak (aa (l.drop (i+1)))):=by
 obtain⟨h1,h2⟩:=J1 h;have K:=YB (l.take i);rw[h2]at K
 conv=>lhs;rw[h1,Ry,aeS,<- K,jg]
 rfl
def J2{l:L Vl}{i:Nat}(h:i<l.length)(k n a:Int)(s:L UInt8)(M:L Vl)(V:L Ty)(code:L Nd):bG (0+i*7) [.c (ag k),.c (ag n),.c (ag a),.c (.str s),.c (.sl 7 (aa M)),.c (.sl 2 (az V)),.c (.sl 5 (aD code))] (ak (aa l)) =
  some (ak (aa (l.set i (.mk k n a s M V code)))):=by
 obtain⟨v,N⟩:∃v,l[i]?=some v:=⟨_,aeL h⟩;obtain⟨h1,h2⟩:=J1 N;have K:=YB (l.take i);rw[h2]at K;have E:l.set i (.mk k n a s M V code)=l.take i ++ .mk k n a s M V code::l.drop (i+1):=by rw[List.set_eq_take_append_cons_drop,if_pos h]
 rw[E,Ry]
 conv=>lhs;rw[h1,Ry,aeS,<- K]
 have D:ak (aa (v::l.drop (i+1)))=ak [bA v]++ak (aa (l.drop (i+1))):=by show ak (bA v::aa (l.drop (i+1)))=_;rw[ak,ak,ak,<- afa];simp only[bz,aeO]
 rw[D,J0];rfl;cases v;rfl
def aa4{l m:L Vl}{i:Nat}(C:m.length=l.length)(U:l.length<=2*i+1)(Y:2*i<=l.length+1)(h:∀k,k<l.length->m[k]?=if k<i\/l.length<=k+i then l[l.length-1-k]? else l[k]?):m=l.reverse:=by apply List.ext_getElem?;intro k;by_cases A:k<l.length;grind;simp_all
def kK(l:L Vl)(hl:l.length<=1099511627776):rQ 84 [(1000000,ak (aa l))] [.gY 1000000 0 7 l.length] (.c .undef) [(1000000,ak (aa l.reverse))]:=by
 refine cn.of func84 Z (λM w=>call84 M w) (aeP Z) [(0,.gY 1000000 0 7 l.length)] ⟨[(1000000,ak (aa l))],[],[1000000]⟩ Z Z λβ=>?_;have hf:=func84;generalize T:l.reverse=rv;refine dnm ?_;have Q:i64.wrap ((l.length:Nat)-1:Int)=(l.length:Nat)-1:=iB ai ai;refine AK.fY [(1000000,1000000)] [] (env':=[(0,.gY 1000000 0 7 l.length),(2,.c (ag ((0:Nat):Int))),(3,.c (ag ((l.length:Nat)-1-((0:Nat):Int))))])
  (bs':=[(1000000,ak (aa l))]) (ts':=[]) (us':=[1000000]) ⟨⟨_,Z,⟨_,Z,Z⟩⟩,⟨_,Z,.inl Z⟩,⟨_,Z,.inl (aeM (λz=>AV.c (.int .i64 z)) (Q.trans ai))⟩,trivial⟩ ⟨⟨_,_,Z,Z,cJ _⟩,trivial⟩ Z ?_
 refine AK.dN (α:=Nat×L Vl) (λz=>z.2.length=l.length/\2*z.1<=l.length+1/\∀k,k<l.length->z.2[k]?=if k<z.1\/l.length<=k+z.1 then l[l.length-1-k]? else l[k]?) (λz=>l.length+1-z.1)
  (λz=>[(0,.gY 1000000 0 7 l.length),(2,.c (ag (z.1:Nat))),(3,.c (ag ((l.length:Nat)-1-(z.1:Nat))))]) (λz=>[(1000000,ak (aa z.2))]) (λ_=>[]) [1000000] (0,l)
  ⟨Z,by show 2*0<=_;omega,λk hk=>by show l[k]?=if k<0\/l.length<=k+0 then _ else _;rw[if_neg ai]⟩ ce ⟨Z,trivial⟩ trivial Z (Tk Z (LD _ _) Z) Z ?_
 rintro⟨i,m⟩ ⟨h1,h2,K⟩ ih;simp only at h1 h2 K;by_cases hij:2*i+1<l.length
 ·have hc:decide (((i:Nat):Int)<(l.length:Nat)-1-(i:Nat))=true:=aaX ai;obtain⟨j,hj⟩:∃j:Nat,j+i+1=l.length:=⟨l.length-1-i,ai⟩;have P:((l.length:Nat)-1-(i:Nat):Int)=(j:Nat):=by omega
  obtain⟨a,ha⟩:∃a,m[j]?=some a:=⟨_,aeL ai⟩;obtain⟨b,hb⟩:∃b,m[i]?=some b:=⟨_,aeL ai⟩;have H:∀k,k<l.length->((m.set i a).set j b)[k]?=if k<i+1\/l.length<=k+(i+1)then l[l.length-1-k]? else l[k]?:=by intro k hk;by_cases N:k=j;subst N;rw[ahb ob,if_pos ai,<- hb,K i ai,if_neg ai];congr 1;omega;rw[List.getElem?_set_ne ai];by_cases J:k=i;subst J;rw[ahb ai,if_pos ai,<- ha,K j ai,if_neg ai];congr 1;omega;rw[List.getElem?_set_ne ai,K k hk];by_cases W:k<i\/l.length<=k+i;rw[if_pos W,if_pos ai];rw[if_neg W,if_neg ai]
  obtain⟨u,E,V,S,O,U,A⟩:=a;obtain⟨I,G,a2,D,Y,C,B⟩:=b;have r1:=G2 ha;have r2:=G2 hb;have w1:=J2 (l:=m) (i:=i) ai u E V S O U A;have w2:=J2 (l:=m.set i (.mk u E V S O U A)) (i:=j) (by rw[ahL];omega) I G a2 D Y C B;have q:i64.wrap (((i:Nat):Int)+1)=((i+1:Nat):Int):=by rw[iB ai ai];omega
  have hj1:i64.wrap ((l.length:Nat)-1-(i:Nat)-1:Int)=(l.length:Nat)-1-((i+1:Nat):Int):=by rw[iB ai ai];omega
  repeat' (first|refine o9 ?_|refine zc ?_ ?_|(intro h;first|(cases h;done)|rw[h]|skip)|refine AK.rM Z ?_ ?_|refine ah.jU hX kn Z Z Z Z Z Z Z Z Z j P ai ?_|refine ah.jU hX kn Z Z Z Z Z Z Z Z Z i Z ai ?_|refine ah.dj hX kn Z Z Z Z Z Z r1 Z ?_|refine ah.dj hX kn Z Z Z Z Z Z r2 Z ?_|refine ah.store hX kn Z Z Z Z Z Z Z Z Z w1 Z ?_|refine ah.store hX kn Z Z Z Z Z Z Z Z Z w2 Z ?_|(refine uA Z ?_ ?_<;>(try (show(_:Nat)*_<=_;dsimp only))))
  refine AK.fY [(1000000,1000000)] [] (env':=[(0,.gY 1000000 0 7 l.length),(2,.c (ag ((i+1:Nat):Int))),(3,.c (ag ((l.length:Nat)-1-((i+1:Nat):Int))))])
   (bs':=[(1000000,ak (aa ((m.set i (.mk u E V S O U A)).set j (.mk I G a2 D Y C B))))]) (ts':=[]) (us':=[1000000])
   ⟨⟨_,Z,⟨_,Z,Z⟩⟩,⟨_,Z,.inl (aeM (λz=>AV.c (.int .i64 z)) q)⟩,⟨_,Z,.inl (aeM (λz=>AV.c (.int .i64 z)) hj1)⟩,trivial⟩ ⟨⟨_,_,Z,Z,cJ _⟩,trivial⟩ Z ?_
  exact ih (i+1,(m.set i (.mk u E V S O U A)).set j (.mk I G a2 D Y C B)) ⟨by show(List.set _ _ _).length=_;rw[ahL,ahL];exact h1,by show 2*(i+1)<=_;omega,H⟩ (by show l.length+1-(i+1)<l.length+1-i;omega)
 have hc:decide (((i:Nat):Int)<(l.length:Nat)-1-(i:Nat))=false:=aaY ai;have hm:m=rv:=by rw[<- T];exact aa4 h1 ai h2 K
 subst hm;clear ih
 repeat' (first|refine o9 ?_|refine zc ?_ ?_|(intro h;first|(cases h;done)|rw[h]|skip)|refine AK.rM Z ?_ ?_|(refine uA Z ?_ ?_<;>(try (show(_:Nat)*_<=_;dsimp only))))
 exact AK.G0 (.inr Z) hX hf Z [(1000000,1000000)] Z (.inr Z) ⟨⟨_,_,Z,Z,cJ _⟩,trivial⟩
end Go.Proofs
