/- What put of package run's machine does. -/
import Derived.Test.YteanleefnjknoaaGreatDoorRun2
import Derived.Test.YteanleefnjknoaaGreatDoorVal2
import Derived.Test.YteanleefnjknoaaGreatDoorCtx
import Derived.Test.YteanleefnjknoaaGreatDoorLibD
import Derived.WalkKit
import Derived.KernelRfl
import Derived.Deep.LoopGhost
import Derived.Deep.RegionLaw
import Derived.Lib.Walk
import Derived.Lib.SliceRun
import Derived.Lib.AppendZeros
import Derived.Laws.IdiomCopy
import Derived.Laws.Externs
import Derived.Shelf.RegionOpenPlain
set_option maxRecDepth 100000
open Go.IntKind
open Go.Proofs.Tryz
set_option linter.defProp false
set_option maxHeartbeats 0
set_option linter.unusedVariables false
set_option linter.unusedSimpArgs false
namespace Go.Proofs
open Go.cK
def IN{l:L Vl}{i:Nat}{v:Vl}(h:l[i]?=some v):l.drop i=v::l.drop (i+1):=by
 obtain⟨h1,h2⟩:=List.getElem?_eq_some_iff.1 h;rw[agd h1,h2]
attribute [local irreducible] AK af bg cn cP gQ
def rF(S:ct)(l:L Vl)(G:∀v∈l,aM v<=8589934593)(Ag:l.length<=1000)(hl:S.st.length+l.length<=549755813888):cJ 118 S [.c (.sl 7 (aa l))] (ag (nI l S.st).1) {S with st:=(nI l S.st).2}:=by
 generalize u:nI l S.st=res;have K:=aG l;refine mn func118 call118 λβ hf=>?_;refine dnm ?_;refine AK.fV [(1000000,1000000),(3001,1000001),(3002,1000002)] [] (env':=[(0,.ptr 1000000 0),(7,.c (.sl 7 (aa l))),(8,.c (ag ((aa l).length:Nat))),(9,.c (ag (0:Nat)))])
  (bs':=[(1000000,mC {S with st:=S.st} 3001 3002),(3001,ak (sR S.st)),(3002,ak (fR S.fr))]) (ts':=[]) (us':=[1000000,3001,3002])
  ce  (cvB Z Z Z Z Z Z Z Z Z) Z ?_
 refine AK.eL (α:=Nat×L Vl) (λz=>res=nI (l.drop z.1) z.2/\z.1<=l.length/\z.2.length=S.st.length+z.1) (λz=>l.length-z.1)
  (λz=>[(0,.ptr 1000000 0),(7,.c (.sl 7 (aa l))),(8,.c (ag ((aa l).length:Nat))),(9,.c (ag (z.1:Nat)))])
  (λz=>[(1000000,mC {S with st:=z.2} 3001 3002),(3001,ak (sR z.2)),(3002,ak (fR S.fr))]) (λ_=>[]) [1000000,3001,3002] (0,S.st)
  ⟨by rw[<- u];rfl,aeE _,rfl⟩ ce ⟨rfl,rfl,rfl,trivial⟩ trivial rfl (abL {S with st:=S.st} rfl rfl rfl) rfl ?_
 rintro⟨i,s⟩ ⟨h1,h2,N⟩ ih;simp only at h1 h2 N;by_cases I:i=l.length
 ·have H:decide (((i:Nat):Int)<(((aa l).length:Nat):Int))=false:=aap bn;have C:res=(0,s):=by rw[h1,I,aex];rfl
  rw[C];clear ih;exact dm
 ·have H:decide (((i:Nat):Int)<(((aa l).length:Nat):Int))=true:=aak bn;have p:i<l.length:=by omega
  obtain⟨v,M⟩:∃v,l[i]?=some v:=⟨_,aea p⟩
  have V:=aaB M;have T:=G v V;have O:=IN M;have E:(aa l)[i]?=some (bH v):=by rw[kK,M];rfl
  obtain⟨k,A,U,Y,J,B,code⟩:=v;have Q:=uF _ T;by_cases P:gQ (.mk k A U Y J B code)>200
  ·have q:decide (((gQ (.mk k A U Y J B code):Nat):Int)>200)=true:=aak bn;have C:res=(13,s):=by rw[h1,O];simp only[nI,P,if_true]
   rw[C];clear ih;exact dm
  ·have q:decide (((gQ (.mk k A U Y J B code):Nat):Int)>200)=false:=aap bn;have C:res=nI (l.drop (i+1)) (.mk k A U Y J B code::s):=by rw[h1,O];simp only[nI,P,aft]
   have D:i64.wrap (((i:Nat):Int)+1)=((i+1:Nat):Int):=by rw[iy bn bn];omega
   have W:=P5 k A U Y J B code s
   repeat' (first|refine om ?_|refine zc ?_ ?_|(intro h;first|(cases h;done)|rw[h]|skip)|refine uI Z (i) Z (E) Z ?_|refine uC Z Q ?_|refine af.mR hX kn Z Z Z Z Z Z Z Z Z Z Z Z Z Z Z (sR s) [] (aec _).symm (jC _).symm (vf _) Z Z Z Z Z Z Z (show((sR s).length+1)*112<=_ by rw[jC];omega) Z (m:=s.length+1) (by rw[aaz,jC];rfl) Z ?_|refine af.jV hX kn Z Z Z Z Z Z Z Z Z s.length Z (aeJ _) ?_|refine af.store hX kn Z Z Z Z Z Z Z Z Z (W _ Z) Z ?_|(refine uA Z ?_ ?_<;>(try (show(_:Nat)*_<=_;dsimp only))))
   refine AK.fV [(1000000,1000000),(3001,23),(3002,3002)] [] (env':=[(0,.ptr 1000000 0),(7,.c (.sl 7 (aa l))),(8,.c (ag ((aa l).length:Nat))),(9,.c (ag ((i+1:Nat):Int)))])
    (bs':=[(1000000,mC {S with st := .mk k A U Y J B code::s} 3001 3002),(3001,ak (sR (.mk k A U Y J B code::s))),(3002,ak (fR S.fr))]) (ts':=[]) (us':=[1000000,3001,3002])
    ⟨⟨_,Z,⟨_,Z,Z⟩⟩,⟨_,Z,.inl Z⟩,⟨_,Z,.inl Z⟩,⟨_,Z,.inl (aeb (λz=>AV.c (.int .i64 z)) D)⟩,trivial⟩ (cvB Z Z Z Z Z Z Z Z Z) Z ?_
   exact ih (i+1,.mk k A U Y J B code::s) ⟨C,p,by show(_::s).length=_;simp only[aac];omega⟩ Hg
end Go.Proofs
namespace Go.Proofs
open Go.RowKit Go.Lib Go.cK
def Ba:(Tryz.prog.info? 29).map (λi=>(i.zero,i.size,i.bytes))=some (some (.agg #[.int .i64 0,.int .i64 0,.int .i64 0,.string ⟨#[]⟩,.slice none 0 0,.slice none 0 0,.slice none 0 0]),7,112):=by kernel_rfl
def abO:(Value.agg #[.int .i64 0,.int .i64 0,.int .i64 0,.string ⟨#[]⟩,.slice none 0 0,.slice none 0 0,.slice none 0 0]).cells.size=7:=rfl
def W7:(Builtin.zeroCells (Value.agg #[.int .i64 0,.int .i64 0,.int .i64 0,.string ⟨#[]⟩,.slice none 0 0,.slice none 0 0,.slice none 0 0]).cells 1).toList=[.int .i64 0,.int .i64 0,.int .i64 0,.string ⟨#[]⟩,.slice none 0 0,.slice none 0 0,.slice none 0 0]:=by
 simp[Builtin.zeroCells,Value.cells,List.range,List.range.loop]
set_option maxHeartbeats 4000000 in
set_option maxRecDepth 1000000 in
def Zl(n cap i b:Nat)(w:World)(hi:i<n)(hcap:n<=cap)(news zs:L Value)(hlen:news.length=(n-(i+1))*7)(h1:∀u∈news,u.oneCell'=true)
  (hn:∀(j:Nat) u,news[j]?=some u->w.cell? ⟨b,(i+1)*7+j,none⟩=some u)(hall:∀o,o<cap*7->(w.cell? ⟨b,o,none⟩).isSome=true)(hfr:∀o,w.frozen? ⟨b,o,none⟩=false)
  (hz:zs=[.int .i64 0,.int .i64 0,.int .i64 0,.string ⟨#[]⟩,.slice none 0 0,.slice none 0 0,.slice none 0 0]) :
  Calls Tryz.prog 119 #[.slice (some ⟨b,0,none⟩) n cap,.int .i64 i,.int .i64 ((i+1:Nat):Int)] w λe w'=>e = .returned (.slice (some ⟨b,0,none⟩) (n-1) cap)/\w'=(w.drew.setCells b (i*7) news).setCells b ((n-1)*7) zs:=by
 have mixed:=Tryz.mixed;have hlt:i+1<=n:=hi;have hne:¬((i:Int)=((i+1:Nat):Int)):=by omega
 obtain⟨i0,rK,UW,Lv,SR⟩:=info_parts Ba;have ts:=Tryz.underlying27;have hic:i<=cap:=by omega
 have hjc:i+1<=cap:=by omega
 have GQ:(0:Int)<=(i:Int)+1:=by omega
 have SS:(i:Int)+1<=(n:Int):=by omega
 obtain⟨A,hA,hsrc⟩:∃A:Addr,(if cap=i+1 then(some ⟨b,0,none⟩:Option Addr)else some ⟨b,(i+1)*7,none⟩)=some A/\Hid (∀(t:Nat) u,news[t]?=some u->w.drew.cell? (A.add t)=some u):=by
  by_cases h:cap=i+1
  ·refine⟨⟨b,0,none⟩,p8,λt u hu=>?_⟩;have h0:news.length=0:=by rw[hlen];omega
   rw[List.length_eq_zero_iff.1 h0]at hu;simp at hu
  ·refine⟨⟨b,(i+1)*7,none⟩,p8,λt u hu=>?_⟩;rw[Addr.add_lit];exact hn t u hu
 have s1:Hid (news.length=(n-(i+1))*7):=hlen;have s2:Hid (∀u∈news,u.oneCell'=true):=h1;have s3:Hid (∀t,t<news.length->(w.drew.cell? ⟨b,0+i*7+t,none⟩).isSome=true/\w.drew.frozen? ⟨b,0+i*7+t,none⟩=false):=by
  intro t ht;rw[hlen]at ht;exact⟨hall _ bn,hfr _⟩
 obtain⟨W1,vZ⟩:∃W1,W1=w.drew.setCells b (0+i*7) news:=⟨_,rfl⟩
 have kZ:∀ty,(Builtin.clear_ #[27] ty #[.slice (some ⟨b,(i+(n-(i+1)))*7,none⟩) (n-(i+(n-(i+1)))) (cap-(i+(n-(i+1))))]).run Tryz.prog W1 = .ok (.tuple #[]) (W1.setCells b ((n-1)*7) zs):=by
  intro ty
  have hst:=run_storeCells_cells (P:=Tryz.prog) b ((n-1)*7) zs 0 W1 (λj hj=>by
    rw[vZ,aeT]
    exact dJ (λk hk=>by rw[hlen]at hk;exact hall _ bn) (hall _ (by rw[hz]at hj;simp at hj;omega)))
   (λj hj=>by rw[vZ,World.frozen?_setCells];exact hfr _) (by rw[hz];simp[Value.oneCell'])
  rw[show n-(i+(n-(i+1)))=1 by omega,show i+(n-(i+1))=n-1 by omega];rw[hz]at hst ⊢;simp only[aeT]at hst;simp[Builtin.clear_,run_underlying ts,Tryz.zeroValue29,W7,hst]
 have hW:Hid (W1=w.drew.setCells b (0+i*7) news):=vZ;clear vZ hn hall hfr
 go_enter func119,Tryz.ntmps119
 go_wp2_with fail
 go_region_law_o (refine step_append_room Z (.tmp 22) (.tmp 25) 27 Z 29 i0 7 ts rK Lv b 0 i cap nu A (n-(i+1)) (cap-(i+1)) news nu s1.out hsrc.out s2.out bn s3.out ?_;rw[<- hW.out])
 go_wp2
 go_ret
 have e1:i+(n-(i+1))=n-1:=by omega
 refine⟨by rw[<- e1];rfl,?_⟩;rw[hW.out,hz,aeq]
set_option maxHeartbeats 4000000 in
set_option maxRecDepth 100000 in
def TN(b n c i vb vo m vc:Nat)(cs vs:L Value)(w:World)(hi:i<n)(hm:0<m)(hroom:n+m<=c)(hnb:n+m<=9000000000000000000)(Lc:vb≠b)
  (kZ:cs.length=n*7)(hvl:vs.length=m*7)
  (hcs:∀(j:Nat) v,cs[j]?=some v->w.cell? ⟨b,j,none⟩=some v)(hsp:∀j,j<c*7->(w.cell? ⟨b,j,none⟩).isSome=true)(hfz:∀j,w.frozen? ⟨b,j,none⟩=false)
  (hvs:∀(j:Nat) v,vs[j]?=some v->w.cell? ⟨vb,vo+j,none⟩=some v)(h1c:∀v∈cs,v.oneCell'=true)(Dr:∀v∈vs,v.oneCell'=true) :
  Calls Tryz.prog 120 #[.slice (some ⟨b,0,none⟩) n c,.int .i64 i,.slice (some ⟨vb,vo,none⟩) m vc] w λe w' =>
   e = .returned (.slice (some ⟨b,0,none⟩) (n+m) c)/\w'=(w.drew.setCells b ((i+m)*7) (cs.drop (i*7))).setCells b (i*7) vs:=by
 have ts:=Tryz.underlying27;have Lv:¬((m:Int)=0):=by omega
 have hz2:¬((i:Int)=(n:Int)):=by omega
 have hz3:¬((c:Int)<(n:Int)+(m:Int)):=by omega
 have hsz:(Tryz.prog.info? 29).map (·.size)=some 7:=by kernel_rfl
 obtain⟨v0,SV⟩:∃v0,w.cell? ⟨vb,vo,none⟩=some v0:=⟨_,hvs 0 _ (aea adk)⟩
 obtain⟨u0,hu0⟩:=Option.isSome_iff_exists.1 (hsp ((i+m)*7) bn);have hov:∀lb cb,(callFunc 146 #[.slice (some ⟨vb,vo,none⟩) m vc,.slice (some ⟨b,(i+m)*7,none⟩) lb cb]).run Tryz.prog w = .ok (.value (.bool false)) w:=λlb cb=>by
  rw[run_callFunc_extern func146 (by kernel_rfl) (by kernel_rfl) (by kernel_rfl) (e:=Extern.SlicesOverlaps.overlaps #[27,27] #[4]) (by kernel_rfl),
   tc w 27 4 29 ts 7 Tryz.sizeOf29 ⟨vb,vo,none⟩ ⟨b,(i+m)*7,none⟩ m vc lb cb Lc SV hu0 hfz rfl]
  rfl
 have Ds:(cs.drop (i*7)).length=(n-i)*7:=by rw[aeI,kZ];omega
 have mixed:=Tryz.mixed;have hw1:i64.wrap ((i:Int)+(m:Int))=(i:Int)+(m:Int):=by rw[IntKind.wrap_i64];omega
 have Ux:i64.wrap ((n:Int)+(m:Int))=(n:Int)+(m:Int):=by rw[IntKind.wrap_i64];omega
 have GQ:(0:Int)<=(i:Int)+(m:Int):=by omega
 have hin:i<=n:=by omega
 have htn:((i:Int)+(m:Int)).toNat=i+m:=by omega
 have SS:¬(c=i+m):=by omega
 have hb3:(i:Int)<=(n:Int)+(m:Int):=by omega
 have hb4:¬(c=i):=by omega
 have UX:∀ty dc sc,(Builtin.copy_ #[27,27] ty #[.slice (some ⟨b,(i+m)*7,none⟩) (n+m-(i+m)) dc,.slice (some ⟨b,i*7,none⟩) (n+m-i) sc]).run Tryz.prog w.drew = .ok (goInt ((n-i:Nat):Int)) (w.drew.setCells b ((i+m)*7) (cs.drop (i*7))):=λty dc sc =>
  m9 w.drew _ _ ty 29 b ((i+m)*7) (n+m-(i+m)) dc ⟨b,i*7,none⟩ (n+m-i) sc (cs.drop (i*7)) (n-i) 7 ts hsz nt Ds
   (λj v hj=>by rw[Addr.add_lit];exact hcs (i*7+j) v Wd)
   (λj hj=>hsp _ ta) (λj hj=>hfz _) (λv hv=>h1c v (afb hv))
 obtain⟨W1,vZ⟩:∃W1,W1=w.drew.setCells b ((i+m)*7) (cs.drop (i*7)):=⟨_,rfl⟩
 have aaD:∀k,k<c*7->(W1.cell? ⟨b,k,none⟩).isSome=true:=λk hk=>by
  rw[vZ];exact dJ (w:=w.drew) (λj hj=>hsp ((i+m)*7+j) ta) (hsp k hk)
 have aaE:∀(W:World),(∀x,W.cell? x=W1.cell? x)->(∀x,W.frozen? x=W1.frozen? x)->∀ty dc,(Builtin.copy_ #[27,27] ty #[.slice (some ⟨b,i*7,none⟩) (n+m-i) dc,.slice (some ⟨vb,vo,none⟩) m vc]).run Tryz.prog W = .ok (goInt m) (W.setCells b (i*7) vs):=λW Lw UY ty dc =>
  m9 W _ _ ty 29 b (i*7) (n+m-i) dc ⟨vb,vo,none⟩ m vc vs m 7 ts hsz nt hvl
   (λj v hj=>by
    rw[Addr.add_lit,Lw,vZ,World.cell?_setCells_out b _ _ _ _ (λh _=>absurd h Lc)]
    exact hvs j v hj)
   (λj hj=>by rw[Lw];exact aaD _ Wf) (λj hj=>by rw[UY,vZ,World.frozen?_setCells];exact hfz _) Dr
 rw[<- vZ]at UX
 go_enter func120,Tryz.ntmps120
 go_wp2_with (simp only[hov])
 go_region_law_o (refine ur Z _ _ 27 27 Z _ _ nu nu (UX _ _ _) ?_)
 go_wp2_with (at_builtin;refine lW _ Z _ _ 27 27 Z _ _ Z Z (aaE _ (λ_=>rfl) (λ_=>rfl) _ _) ?_)
 go_ret
 first|exact⟨Z,Z⟩|exact⟨Z,by rw[vZ]⟩
set_option maxHeartbeats 4000000 in
set_option maxRecDepth 100000 in
def Nu(b n c vb vo m vc:Nat)(vs:L Value)(w:World)(hm:0<m)(hroom:n+m<=c)
  (hvl:vs.length=m*7)(hsp:∀j,j<c*7->(w.cell? ⟨b,j,none⟩).isSome=true)(hfz:∀j,w.frozen? ⟨b,j,none⟩=false)
  (hvs:∀(j:Nat) v,vs[j]?=some v->w.cell? ⟨vb,vo+j,none⟩=some v)(Dr:∀v∈vs,v.oneCell'=true) :
  Calls Tryz.prog 120 #[.slice (some ⟨b,0,none⟩) n c,.int .i64 n,.slice (some ⟨vb,vo,none⟩) m vc] w λe w' =>
   e = .returned (.slice (some ⟨b,0,none⟩) (n+m) c)/\w'=w.setCells b (n*7) vs:=by
 have ts:=Tryz.underlying27;obtain⟨i0,rK,UW,hzs,SR⟩:=info_parts Ba;have mixed:=Tryz.mixed;have Lv:¬((m:Int)=0):=by omega
 have hap:∀ty,(Builtin.append_ #[27,27] ty #[.slice (some ⟨b,0,none⟩) n c,.slice (some ⟨vb,vo,none⟩) m vc]).run Tryz.prog w = .ok (.slice (some ⟨b,0,none⟩) (n+m) c) (w.setCells b (n*7) vs):=λty=>by
  have:=run_append_room_cells w 27 ty 29 i0 ts rK b 0 n c ⟨vb,vo,none⟩ m vc vs (by rw[hzs];exact hvl) (λj u hj=>by rw[Addr.add_lit];exact hvs j u hj) Dr hroom
   (λj hj=>by rw[hzs];exact hsp _ Wf) (λj hj=>hfz _)
  rw[hzs,aeq]at this;exact this
 go_enter func120,Tryz.ntmps120
 go_wp2_with (at_builtin;refine Lib.wpList_append_run _ Z _ _ _ _ Z _ _ Z Z _ _ (hap _) ?_)
 go_ret
 exact⟨Z,Z⟩
set_option maxHeartbeats 4000000 in
set_option maxRecDepth 100000 in
def Nv(b n c vb vo m vc:Nat)(cs vs:L Value)(w:World)(hm:0<m)(hnc:n<=c)(hroom:c<n+m)(rN:(n+m)*112<=140737488355328)
  (kZ:cs.length=n*7)(hvl:vs.length=m*7)
  (hcs:∀(j:Nat) v,cs[j]?=some v->w.cell? ⟨b,j,none⟩=some v)
  (hvs:∀(j:Nat) v,vs[j]?=some v->w.cell? ⟨vb,vo+j,none⟩=some v)(Dr:∀v∈vs,v.oneCell'=true) :
  Calls Tryz.prog 120 #[.slice (some ⟨b,0,none⟩) n c,.int .i64 n,.slice (some ⟨vb,vo,none⟩) m vc] w λe w' =>
   e = .returned (.slice (some ⟨w.heap.size,0,none⟩) (n+m) (grownCap w (n+m) c 29)) /\
   w'=w.drew.alloc (.cells ((cs++vs).toArray++Builtin.zeroCells (Value.agg #[.int .i64 0,.int .i64 0,.int .i64 0,.string ⟨#[]⟩,.slice none 0 0,.slice none 0 0,.slice none 0 0]).cells (grownCap w (n+m) c 29-(n+m))) 29):=by
 have ts:=Tryz.underlying27;obtain⟨i0,rK,UW,hzs,SR⟩:=info_parts Ba;have mixed:=Tryz.mixed;have Lv:¬((m:Int)=0):=by omega
 have hsrc:Src Tryz.prog i0.size 27 (.slice (some ⟨vb,vo,none⟩) m vc) m vs w:=by
  rw[hzs];exact adF
 have hold:(Builtin.firstCells i0.size n (.slice (some ⟨b,0,none⟩) n c)).run Tryz.prog w.drew = .ok cs.toArray w.drew:=by
  rw[hzs];exact run_firstCells_some w.drew 7 n ⟨b,0,none⟩ n c cs kZ (λj v hj=>by rw[Addr.add_lit,aeq];exact hcs j v hj)
 have hrun:∀ty,(Builtin.append_ #[27,27] ty #[.slice (some ⟨b,0,none⟩) n c,.slice (some ⟨vb,vo,none⟩) m vc]).run Tryz.prog w=_:=λty =>
  run_append_grow_src w 27 27 ty 29 i0 _ ts rK UW (some ⟨b,0,none⟩) n c cs hold _ m vs hsrc hroom bn (by rw[SR];exact growslice_fits hroom rN)
 go_enter func120,Tryz.ntmps120
 go_wp2_with (at_builtin;refine Lib.wpList_append_run _ Z _ _ _ _ Z _ _ Z Z _ _ (hrun _) ?_)
 all_goals (go_ret;exact⟨Z,Z⟩)
set_option maxHeartbeats 4000000 in
set_option maxRecDepth 100000 in
def W8(b n c i vb vo m vc:Nat)(cs vs:L Value)(w:World)(hi:i<n)(hm:0<m)(hnc:n<=c)(hroom:c<n+m)(rN:(n+m)*112<=140737488355328)
  (kZ:cs.length=n*7)(hvl:vs.length=m*7)
  (hcs:∀(j:Nat) v,cs[j]?=some v->w.cell? ⟨b,j,none⟩=some v)
  (hvs:∀(j:Nat) v,vs[j]?=some v->w.cell? ⟨vb,vo+j,none⟩=some v)(h1c:∀v∈cs,v.oneCell'=true)(Dr:∀v∈vs,v.oneCell'=true) :
  Calls Tryz.prog 120 #[.slice (some ⟨b,0,none⟩) n c,.int .i64 i,.slice (some ⟨vb,vo,none⟩) m vc] w λe w' =>
   ∃G oA,n+m<=G/\G*7<=oA.size/\(∀j,j<i*7->oA[j]?=cs[j]?)/\e = .returned (.slice (some ⟨w.heap.size,0,none⟩) (n+m) G) /\
   w'=(((w.alloc (.cells oA 29)).drew.setCells w.heap.size (i*7) vs).drew).setCells w.heap.size ((i+m)*7) (cs.drop (i*7)):=by
 have ts:=Tryz.underlying27;have tn:=Tryz.underlying3;have mixed:=Tryz.mixed;obtain⟨i0,rK,UW,hzs,SR⟩:=info_parts Ba;have Lv:¬((m:Int)=0):=by omega
 have hz2:¬((i:Int)=(n:Int)):=by omega
 have hz3:(c:Int)<(n:Int)+(m:Int):=by omega
 have hsz:(Tryz.prog.info? 29).map (·.size)=some 7:=by kernel_rfl
 have hbw:b<w.heap.size:=block_lt_of_cell (hcs 0 _ (aea (by rw[kZ];omega)));have hvw:vb<w.heap.size:=block_lt_of_cell (hvs 0 _ (aea adk));have hkk:(n:Int)+(m:Int)-(i:Int)=((n+m-i:Nat):Int):=by omega
 have hik:i+(n+m-i)=n+m:=by omega
 have Ev:(cs.take (i*7)).length=i*7:=by rw[aeD,kZ];omega
 have hold:(Builtin.firstCells i0.size i (.slice (some ⟨b,0,none⟩) i c)).run Tryz.prog w.drew = .ok (cs.take (i*7)).toArray w.drew:=by
  rw[hzs]
  exact run_firstCells_some w.drew 7 i ⟨b,0,none⟩ i c (cs.take (i*7)) Ev (λj v hj=>by
   rw[Addr.add_lit,aeq];rw[afm]at hj;split at hj
   ·exact hcs j v hj
   ·cases hj)
 obtain⟨ZS,hZS⟩:∃ZS,ZS=(Value.agg #[.int .i64 0,.int .i64 0,.int .i64 0,.string ⟨#[]⟩,.slice none 0 0,.slice none 0 0,.slice none 0 0]).cells:=⟨_,rfl⟩
 have hZn:ZS.size=7:=by rw[hZS];rfl
 have SW:∀k,(Builtin.zeroCells ZS k).size=k*7:=λk=>by simp[Builtin.zeroCells,hZn]
 have Yb:∀ty,(Builtin.append_ #[27,3] ty #[.slice (some ⟨b,0,none⟩) i c,.int .i64 ((n:Int)+(m:Int)-(i:Int))]).run Tryz.prog w =
   .ok (.slice (some ⟨w.heap.size,0,none⟩) (n+m) (grownCap w (n+m) c 29)) (w.drew.alloc (.cells ((cs.take (i*7)).toArray++Builtin.zeroCells ZS (n+m-i)++Builtin.zeroCells ZS (grownCap w (n+m) c 29-(n+m))) 29)):=λty=>by
  have h:=Lib.run_append_grow_zeros w 27 3 ty 29 i0 _ .i64 .i64 ts tn rK UW (some ⟨b,0,none⟩) i c (cs.take (i*7)) hold (n+m-i) bn bn bn bn (by rw[SR];omega) (by rw[SR,hik];exact growslice_fits hroom rN);rw[hik,<- hZS]at h;rw[hkk];exact h
 obtain⟨G,hG⟩:∃G,G=grownCap w (n+m) c 29:=⟨_,rfl⟩
 have hGn:n+m<=G:=by rw[hG];exact grownCap_ge w _ _ _
 obtain⟨oA,Jm⟩:∃oA:Array Value,oA=(cs.take (i*7)).toArray++Builtin.zeroCells ZS (n+m-i)++Builtin.zeroCells ZS (G-(n+m)):=⟨_,rfl⟩
 rw[<- hG]at Yb;rw[<- Jm]at Yb;have hRs:oA.size=G*7:=by
  rw[Jm,afp,afp,SW,SW,aeZ,Ev];omega
 have Yc:∀j,j<i*7->oA[j]?=cs[j]?:=λj hj=>by
  rw[Jm,aeK abi,aeK (by rw[aeZ,Ev];exact hj)];rw[agp,afm,if_pos hj]
 obtain⟨W1,vZ⟩:∃W1,W1=w.drew.alloc (.cells oA 29):=⟨_,rfl⟩
 rw[<- vZ]at Yb;have hN:∀j,j<G*7->(W1.cell? ⟨w.heap.size,j,none⟩).isSome=true:=λj hj=>by
  rw[vZ,World.cell?_alloc_at (w:=w.drew) oA _ w.heap.size j Z,aeN bn];rfl
 have hNf:∀j,W1.frozen? ⟨w.heap.size,j,none⟩=false:=λj=>by rw[vZ];exact World.frozen?_alloc_at (w:=w.drew) oA _ w.heap.size j Z
 have hOb:∀j v,w.cell? ⟨b,j,none⟩=some v->W1.cell? ⟨b,j,none⟩=some v:=λj v h=>by rw[vZ,World.cell?_alloc_past (w:=w.drew) _ b j hbw];exact h
 have hOv:∀j v,w.cell? ⟨vb,j,none⟩=some v->W1.cell? ⟨vb,j,none⟩=some v:=λj v h=>by rw[vZ,World.cell?_alloc_past (w:=w.drew) _ vb j hvw];exact h
 have aaH:∀(W:World),(∀x,W.cell? x=W1.cell? x)->(∀x,W.frozen? x=W1.frozen? x)->∀ty dc,(Builtin.copy_ #[27,27] ty #[.slice (some ⟨w.heap.size,i*7,none⟩) (n+m-i) dc,.slice (some ⟨vb,vo,none⟩) m vc]).run Tryz.prog W = .ok (goInt m) (W.setCells w.heap.size (i*7) vs):=λW Lw UY ty dc =>
  m9 W _ _ ty 29 w.heap.size (i*7) (n+m-i) dc ⟨vb,vo,none⟩ m vc vs m 7 ts hsz nt hvl
   (λj v hj=>by rw[Addr.add_lit,Lw];exact hOv _ v (hvs j v hj))
   (λj hj=>by rw[Lw];exact hN _ Wf) (λj hj=>by rw[UY];exact hNf _) Dr
 have afg:G<=9223372036854775807:=by
  have:=grownCap_le_maxLen w (n+m) c 29 (by unfold maxLen;omega);rw[<- hG]at this;unfold maxLen at this;omega
 have hGi:¬(G=i):=by omega
 have afh:¬(G=i+m):=by omega
 have hci:¬(c=i):=by omega
 have hbN:b≠w.heap.size:=by omega
 have Ds:(cs.drop (i*7)).length=(n-i)*7:=by rw[aeI,kZ];omega
 have U0:∀(W:World),(∀x,W.cell? x=(W1.setCells w.heap.size (i*7) vs).cell? x)->(∀x,W.frozen? x=(W1.setCells w.heap.size (i*7) vs).frozen? x)->∀ty dc sc,(Builtin.copy_ #[27,27] ty #[.slice (some ⟨w.heap.size,(i+m)*7,none⟩) (n+m-(i+m)) dc,.slice (some ⟨b,i*7,none⟩) (n-i) sc]).run Tryz.prog W = .ok (goInt ((n-i:Nat):Int)) (W.setCells w.heap.size ((i+m)*7) (cs.drop (i*7))):=λW Lw UY ty dc sc =>
  m9 W _ _ ty 29 w.heap.size ((i+m)*7) (n+m-(i+m)) dc ⟨b,i*7,none⟩ (n-i) sc (cs.drop (i*7)) (n-i) 7 ts hsz nt Ds
   (λj v hj=>by
    rw[Addr.add_lit,Lw,World.cell?_setCells_out _ _ _ _ _ (λh _=>absurd h hbN)]
    exact hOb _ v (hcs (i*7+j) v Wd))
   (λj hj=>by rw[Lw];exact dJ (λt ht=>hN _ (by rw[hvl]at ht;omega)) (hN _ ta))
   (λj hj=>by rw[UY,World.frozen?_setCells];exact hNf _) (λv hv=>h1c v (afb hv))
 subst vZ;have hE1:∀x,((w.alloc (.cells oA 29)).drew).cell? x=(w.drew.alloc (.cells oA 29)).cell? x:=λx=>rfl;have hE2:∀x,((w.alloc (.cells oA 29)).drew).frozen? x=(w.drew.alloc (.cells oA 29)).frozen? x:=λx=>rfl;have hF1:∀x,(((w.alloc (.cells oA 29)).drew.setCells w.heap.size (i*7) vs).drew).cell? x=((w.drew.alloc (.cells oA 29)).setCells w.heap.size (i*7) vs).cell? x:=λx=>rfl;have hF2:∀x,(((w.alloc (.cells oA 29)).drew.setCells w.heap.size (i*7) vs).drew).frozen? x=((w.drew.alloc (.cells oA 29)).setCells w.heap.size (i*7) vs).frozen? x:=λx=>rfl;have hw1:i64.wrap ((i:Int)+(m:Int))=(i:Int)+(m:Int):=by rw[IntKind.wrap_i64];omega
 have Ux:i64.wrap ((n:Int)+(m:Int))=(n:Int)+(m:Int):=by rw[IntKind.wrap_i64];omega
 have hw3:i64.wrap ((n:Int)+(m:Int)-(i:Int))=(n:Int)+(m:Int)-(i:Int):=by rw[IntKind.wrap_i64];omega
 have GQ:(0:Int)<=(i:Int)+(m:Int):=by omega
 have hin:i<=n:=by omega
 have htn:((i:Int)+(m:Int)).toNat=i+m:=by omega
 have hb3:(i:Int)<=(n:Int):=by omega
 clear hkk hik hold Jm hG SW hZS hZn Ev;refine Calls.mono (R:=λe w'=>e = .returned (.slice (some ⟨w.heap.size,0,none⟩) (n+m) G)/\w'=(((w.alloc (.cells oA 29)).drew.setCells w.heap.size (i*7) vs).drew).setCells w.heap.size ((i+m)*7) (cs.drop (i*7))) ?_ ?_;rotate_left
 ·rintro e w' ⟨h1,h2⟩;exact⟨G,oA,hGn,bn,Yc,h1,h2⟩
 clear Yc
 go_enter func120,Tryz.ntmps120
 go_wp2_with (first
  |(at_builtin;refine Lib.wpList_append_run _ rfl _ _ _ _ rfl _ _ rfl rfl _ _ (Yb _) ?_)
  |(at_builtin;refine lW _ rfl _ _ 27 27 rfl _ _ rfl rfl (aaH _ hE1 hE2 _ _) ?_)
  |(at_builtin;refine lW _ rfl _ _ 27 27 rfl _ _ rfl rfl (U0 _ (λ_=>rfl) (λ_=>rfl) _ _ _) ?_))
 go_region_law_o (refine ur Z _ _ 27 27 Z (.slice (some ⟨w.heap.size,(i+m)*7,none⟩) (n+m-(i+m)) (G-(i+m))) (.slice (some ⟨b,i*7,none⟩) (n-i) (c-i)) nu nu (U0 _ hF1 hF2 3 (G-(i+m)) (c-i)) ?_)
 go_wp2
 go_ret
 exact⟨Z,Z⟩
set_option maxHeartbeats 1000000 in
def Zm(b n c i vb vo vc:Nat)(cs vs:L Value)(w:World)(hi:i<=n)(hn0:0<n)(hnc:n<=c)(rN:(n+1)*112<=140737488355328)(Lc:vb≠b)
  (kZ:cs.length=n*7)(hvl:vs.length=1*7)
  (hcs:∀(j:Nat) v,cs[j]?=some v->w.cell? ⟨b,j,none⟩=some v)(hsp:∀j,j<c*7->(w.cell? ⟨b,j,none⟩).isSome=true)(hfz:∀j,w.frozen? ⟨b,j,none⟩=false)
  (hvs:∀(j:Nat) v,vs[j]?=some v->w.cell? ⟨vb,vo+j,none⟩=some v)(h1c:∀v∈cs,v.oneCell'=true)(Dr:∀v∈vs,v.oneCell'=true) :
  Calls Tryz.prog 120 #[.slice (some ⟨b,0,none⟩) n c,.int .i64 i,.slice (some ⟨vb,vo,none⟩) 1 vc] w λe w' =>
   ∃b' cap',e = .returned (.slice (some ⟨b',0,none⟩) (n+1) cap')/\n+1<=cap'/\Rf w b w' b' (cs.take (i*7)++(vs++cs.drop (i*7)))/\∀o,(o<cap'*7->(w'.cell? ⟨b',o,none⟩).isSome=true)/\w'.frozen? ⟨b',o,none⟩=false:=by
 have Ev:(cs.take (i*7)).length=i*7:=by rw[aeD,kZ];omega
 have hbw:b<w.heap.size:=block_lt_of_cell (hcs 0 _ (aea (by rw[kZ];omega)));have jg:∀(j:Nat) u,(cs.take (i*7)++(vs++cs.drop (i*7)))[j]?=some u->(j<i*7/\cs[j]?=some u)\/(i*7<=j/\j<(i+1)*7/\vs[j-i*7]?=some u)\/((i+1)*7<=j/\(cs.drop (i*7))[j-(i+1)*7]?=some u):=by
  intro j u hj;rw[afI]at hj;split at hj
  ·rename_i h;rw[Ev]at h;rw[afm,if_pos h]at hj;exact .inl ⟨h,hj⟩
  ·rename_i h;rw[Ev]at h hj;rw[afI]at hj;split at hj
   ·rename_i h2;rw[hvl]at h2;exact .inr (.inl ⟨bn,bn,hj⟩)
   ·rename_i h2;rw[hvl]at h2 hj;refine .inr (.inr ⟨bn,?_⟩);rwa[show j-(i+1)*7=j-i*7-1*7 by omega]
 have Ds:(cs.drop (i*7)).length=(n-i)*7:=by rw[aeI,kZ];omega
 by_cases he:i=n
 ·subst he;have OL:cs.drop (i*7)=[]:=afd bn;by_cases hr:i+1<=c
  ·refine Calls.mono (Nu b i c vb vo 1 vc vs w bn hr hvl hsp hfz hvs Dr) ?_;rintro e w' ⟨h1,rfl⟩;obtain⟨k1,k2,k3,k4,k5⟩:=eH b vs (i*7) w;have hss:∀j,j<vs.length->(w.cell? ⟨b,i*7+j,none⟩).isSome=true:=λj hj=>hsp _ bn;refine⟨b,c,h1,hr,⟨k2,k3,k4,bn,.inl Z,λj u hj=>?_,λb2 _ h=>k5 b2 h⟩,λo=>⟨λho=>dJ hss (hsp o ho),by rw[World.frozen?_setCells];exact hfz o⟩⟩;rw[eB hss];rcases jg j u hj with ⟨h,h'⟩|⟨h,h',h2⟩|⟨h,h2⟩
   ·rw[if_neg bn];exact hcs j u h'
   ·rw[if_pos bn];exact h2
   ·rw[OL]at h2;simp at h2
  ·refine Calls.mono (Nv b i c vb vo 1 vc cs vs w bn hnc bn rN kZ hvl hcs hvs Dr) ?_;rintro e w' ⟨h1,rfl⟩;have hge:=grownCap_ge w (i+1) c 29;refine⟨_,_,h1,grownCap_ge w _ _ _,⟨Z,Z,Z,by simp[World.alloc],.inr (aaj _),λj u hj=>?_,λb2 h _=>?_⟩,λo=>⟨λho=>?_,World.frozen?_alloc_at (w:=w.drew) _ _ w.heap.size o Z⟩⟩;rotate_left 2
   ·rw[World.cell?_alloc_at (w:=w.drew) _ _ w.heap.size o Z,aeN (by
     simp only[afp,aeZ,aaz,kZ,hvl,size_zeroCells,abO]
     omega)];rfl
   ·rw[World.cell?_alloc_at (w:=w.drew) _ _ w.heap.size j rfl];have hjl:j<(cs++vs).length:=by
     rw[aaz,kZ,hvl];rcases jg j u hj with ⟨h,h'⟩|⟨h,h',h2⟩|⟨h,h2⟩
     ·omega
     ·omega
     ·rw[OL]at h2;simp at h2
    rw[aeK (by rw[aeZ];exact hjl),agp];rw[OL,aec,afC bn]at hj;exact hj
   ·show(w.drew.alloc _).heap[b2]?=_;simp only[World.alloc];rw[agl (by exact h)];exact(aeN (xs:=w.heap) h).symm
 ·have hi':i<n:=by omega
  by_cases hr:n+1<=c
  ·refine Calls.mono (TN b n c i vb vo 1 vc cs vs w hi' bn hr bn Lc kZ hvl hcs hsp hfz hvs h1c Dr) ?_;rintro e w' ⟨h1,rfl⟩;obtain⟨k1,k2,k3,k4,k5⟩:=eH b (cs.drop (i*7)) ((i+1)*7) w.drew;obtain⟨l1,l2,l3,l4,l5⟩:=eH b vs (i*7) (w.drew.setCells b ((i+1)*7) (cs.drop (i*7)));have td:∀j,j<(cs.drop (i*7)).length->(w.drew.cell? ⟨b,(i+1)*7+j,none⟩).isSome=true:=λj hj=>hsp _ ta;have pU:∀j,j<vs.length->((w.drew.setCells b ((i+1)*7) (cs.drop (i*7))).cell? ⟨b,i*7+j,none⟩).isSome=true:=λj hj=>dJ td (hsp _ bn);refine⟨b,c,h1,hr,⟨adl,adm,adn,ac1,.inl Z,λj u hj=>?_,λb2 _ h=>by rw[l5 b2 h,k5 b2 h];rfl⟩,λo=>⟨λho=>dJ pU (dJ td (hsp o ho)),by rw[World.frozen?_setCells,World.frozen?_setCells];exact hfz o⟩⟩;rw[eB pU,eB td];rcases jg j u hj with ⟨h,h'⟩|⟨h,h',h2⟩|⟨h,h2⟩
   ·rw[if_neg bn,if_neg bn];exact hcs j u h'
   ·rw[if_pos bn];exact h2
   ·have hjj:j-(i+1)*7<(cs.drop (i*7)).length:=by
     rcases afN (j-(i+1)*7) (cs.drop (i*7)).length with hh|hh
     ·exact hh
     ·rw[afu hh]at h2;cases h2
    rw[if_neg bn,if_pos bn];exact h2
  ·refine Calls.mono (W8 b n c i vb vo 1 vc cs vs w hi' bn hnc bn rN kZ hvl hcs hvs h1c Dr) ?_;rintro e w' ⟨G,oA,hG,hR,Yc,h1,rfl⟩;obtain⟨w1,hw1⟩:∃w1,w1=(w.alloc (.cells oA 29)).drew:=⟨_,rfl⟩
   have hN:∀j,j<G*7->(w1.cell? ⟨w.heap.size,j,none⟩).isSome=true:=λj hj=>by
    rw[hw1];show((w.alloc (.cells oA 29)).cell? ⟨w.heap.size,j,none⟩).isSome=true;rw[World.cell?_alloc_at (w:=w) oA _ w.heap.size j Z,aeN bn];rfl
   have hC:∀j u,j<i*7->cs[j]?=some u->w1.cell? ⟨w.heap.size,j,none⟩=some u:=λj u hj hu=>by
    rw[hw1];show(w.alloc (.cells oA 29)).cell? ⟨w.heap.size,j,none⟩=some u;rw[World.cell?_alloc_at (w:=w) oA _ w.heap.size j Z,Yc j hj];exact hu
   have hH:∀b2,b2<w.heap.size->w1.heap[b2]?=w.heap[b2]?:=λb2 h=>by
    rw[hw1];show(w.alloc _).heap[b2]?=_;simp only[World.alloc];rw[agl h];exact(aeN (xs:=w.heap) h).symm
   have hS:w1.heap.size=w.heap.size+1:=by rw[hw1];show(w.heap.push _).size=_;rw[Array.size_push]
   have hO:w1.os=w.os/\w1.tape=w.tape/\w1.output=w.output:=by rw[hw1];exact⟨Z,Z,Z⟩
   have hNf:∀j,w1.frozen? ⟨w.heap.size,j,none⟩=false:=λj=>by
    rw[hw1];exact World.frozen?_alloc_at (w:=w) oA _ w.heap.size j Z
   rw[<- hw1];obtain⟨k1,k2,k3,k4,k5⟩:=eH w.heap.size vs (i*7) w1;obtain⟨l1,l2,l3,l4,l5⟩:=eH w.heap.size (cs.drop (i*7)) ((i+1)*7) (w1.setCells w.heap.size (i*7) vs).drew;have td:∀j,j<vs.length->(w1.cell? ⟨w.heap.size,i*7+j,none⟩).isSome=true:=λj hj=>hN _ bn;have pU:∀j,j<(cs.drop (i*7)).length->((w1.setCells w.heap.size (i*7) vs).drew.cell? ⟨w.heap.size,(i+1)*7+j,none⟩).isSome=true:=λj hj=>by
    show((w1.setCells w.heap.size (i*7) vs).cell? _).isSome=true;exact dJ td (hN _ ta)
   refine⟨_,_,h1,hG,⟨by rw[l2];exact k2.trans hO.1,by rw[l3];exact k3.trans hO.2.1,by rw[l4];exact k4.trans hO.2.2,by rw[l1];show w.heap.size<=(w1.setCells w.heap.size (i*7) vs).heap.size;rw[k1,hS];omega,.inr (aaj _),λj u hj=>?_,λb2 h _=>?_⟩,λo=>⟨λho=>dJ pU (by
     show((w1.setCells w.heap.size (i*7) vs).cell? _).isSome=true
     exact dJ td (hN _ ho)),by
     rw[World.frozen?_setCells];show(w1.setCells w.heap.size (i*7) vs).frozen? _=false
     rw[World.frozen?_setCells];exact hNf o⟩⟩
   ·rw[eB pU];rcases jg j u hj with ⟨h,h'⟩|⟨h,h',h2⟩|⟨h,h2⟩
    ·rw[if_neg bn];show(w1.setCells w.heap.size (i*7) vs).cell? _=_;rw[eB td,if_neg bn];exact hC j u h h'
    ·rw[if_neg bn];show(w1.setCells w.heap.size (i*7) vs).cell? _=_;rw[eB td,if_pos bn];exact h2
    ·have hjj:j-(i+1)*7<(cs.drop (i*7)).length:=by
      rcases afN (j-(i+1)*7) (cs.drop (i*7)).length with hh|hh
      ·exact hh
      ·rw[afu hh]at h2;cases h2
     rw[if_pos bn];exact h2
   ·rw[l5 b2 bn];show(w1.setCells w.heap.size (i*7) vs).heap[b2]?=_;rw[k5 b2 bn,hH b2 h]
open Go.cK
def D6:∀(l:L Vl),(bC (aa l)).all CV.one=true
 |[]=>rfl
 |.mk _ _ _ _ _ _ _::l=>by
  simp only[aa,bH,bC,CV.cells,afL,D6 l,afl];rfl
def xx:∀(n:Nat)(l:L Vl),(aa l).take n=aa (l.take n)
 |0,l=>rfl
 |n+1,[]=>rfl
 |n+1,x::l=>by simp only[aa,afi,xx n l]
def vh:∀(n:Nat)(l:L Vl),(aa l).drop n=aa (l.drop n)
 |0,l=>rfl
 |n+1,[]=>rfl
 |n+1,x::l=>by simp only[aa,afB,vh n l]
attribute [local irreducible] AK af bg cn cP
def fS(x:Vl)(l:L Vl)(E:l.length<=1099511627776):oY 40 none [.c (.sl 7 (aa (x::l)))] (.gS 999999 0 7 (l.length+1)) (some (bC (aa (x::l)))):=by
 have h1:=aG l;have p:([]++aa (x::l)).length=l.length+1:=by simp only[aa,aeU,aac,h1]
 have Q:((([]:L CV).length)+(aa (x::l)).length)*112<=140737488355328:=by simp only[aa,aac,aad,h1];omega
 obtain⟨k,A,U,Y,J,B,code⟩:=x;refine dP.of func40 Z (λJ w=>call40 J w) (aep Z) [(0,.c (.sl 7 (aa (.mk k A U Y J B code::l))))] ⟨[],[],[]⟩ Z Z λβ=>?_;have hf:=func40
 repeat' (first|refine sz ?_|refine ze ?_ ?_|(intro h;first|(cases h;done)|rw[h]|skip)|refine AK.qA rfl ?_ ?_|refine af.uu hX kn rfl rfl rfl rfl rfl rfl rfl rfl rfl rfl rfl rfl rfl rfl rfl rfl rfl rfl (λh=>by cases h) rfl rfl rfl Q rfl p ?_|(refine uA rfl ?_ ?_<;>(try (show(_:Nat)*_<=_;dsimp only))))
 exact AK.aaI hX hf Z Z Z
def sv(s:L Vl)(i:Nat)(hi:i<s.length)(hl:s.length<=20000000000):oY 119 (some (bC (aa s))) (.gS 1000000 0 7 s.length::[CV.int .i64 (i:Int),CV.int .i64 ((i+1:Nat):Int)].map AV.c)
  (.gS 999999 0 7 (aa (s.take i++s.drop (i+1))).length) (some (bC (aa (s.take i++s.drop (i+1))))):=by
 have z1:=aG s;have hc:(bC (aa s)).length=s.length*7:=by rw[dK (gZ s),z1]
 have U:bC (aa (s.take i++s.drop (i+1)))=(bC (aa s)).take (i*7)++(bC (aa s)).drop ((i+1)*7):=by
  rw[lQ,dS,uv (gZ s) i bn,uw (gZ s) (i+1) bn,xx,vh]
 refine dP.adX (λJ w=>call119 J w) bn (D6 _) ?_;intro w G b V vs us hb hGb iW q P W I C N;simp only[bR,Rel]at N;obtain⟨_,_,rfl,rfl,_,_,rfl,rfl,rfl⟩:=N;have E:vs.length=s.length*7:=by rw[oZ q,hc]
 have h1:=nD q W;refine⟨vs.take (i*7)++vs.drop ((i+1)*7),by rw[U];exact fK (tf _ q) (tg _ q),?_⟩;have p:∀o,o<V*7->(w.cell? ⟨b,o,none⟩).isSome=true:=λo K=>by
  obtain⟨u,T⟩:=(C o).1 K;rw[T];rfl
 have M:(vs.drop ((i+1)*7)).length=(s.length-(i+1))*7:=by rw[aeI,E];omega
 refine Calls.mono (Zl s.length V i b w hi I (vs.drop ((i+1)*7)) _ M (λu T=>h1 u (afb T)) (λj u Y=>P _ u (by rwa[agk]at Y)) p (λo=>(C o).2) Z) ?_;rintro e w' ⟨e1,rfl⟩;obtain⟨H,k2,k3,k4,k5⟩:=eH b (vs.drop ((i+1)*7)) (i*7) w.drew;generalize S:[Value.int IntKind.i64 0,Value.int IntKind.i64 0,Value.int IntKind.i64 0,Value.string ⟨#[]⟩,Value.slice none 0 0,Value.slice none 0 0,Value.slice none 0 0]=zs;have hzl:zs.length=7:=by rw[<- S];rfl
 obtain⟨D,l2,l3,l4,l5⟩:=eH b zs ((s.length-1)*7) (w.drew.setCells b (i*7) (vs.drop ((i+1)*7)));have Q:∀j,j<(vs.drop ((i+1)*7)).length->(w.drew.cell? ⟨b,i*7+j,none⟩).isSome=true:=λj Y=>p _ (by rw[M]at Y;omega);have B:∀j,j<zs.length->((w.drew.setCells b (i*7) (vs.drop ((i+1)*7))).cell? ⟨b,(s.length-1)*7+j,none⟩).isSome=true:=λj Y=>dJ Q (p _ bn);have Ag:(aa (s.take i++s.drop (i+1))).length=s.length-1:=by rw[aG,aaz,aeD,aeI];omega
 refine⟨b,V,by rw[Ag];exact e1,bn,⟨adl,adm,adn,by rw[D,H];exact aaj _,.inl Z,λj u Y=>?_,λA _ h=>by rw[l5 A h,k5 A h];rfl⟩,by rw[D,H];exact hb,λo=>⟨λK=>Option.isSome_iff_exists.1 (dJ B (dJ Q (p o K))),by rw[World.frozen?_setCells,World.frozen?_setCells];exact(C o).2⟩⟩;have Ev:(vs.take (i*7)).length=i*7:=by rw[aeD,E];omega
 rw[eB B,eB Q];rw[afI]at Y;split at Y
 ·rename_i h;rw[Ev]at h;rw[afm,if_pos h]at Y;rw[if_neg bn,if_neg bn];exact P j u Y
 ·rename_i h;rw[Ev]at h Y;have hjj:j-i*7<(vs.drop ((i+1)*7)).length:=by
   rcases afN (j-i*7) (vs.drop ((i+1)*7)).length with O|O
   ·exact O
   ·rw[afu O]at Y;cases Y
  rw[if_neg bn,if_pos bn];exact Y
def xo(s:L Vl)(x:Vl)(i:Nat)(h0:0<s.length)(hi:i<=s.length)(hl:s.length<=20000000000):oY 120 (some (bC (aa s))) (.gS 1000000 0 7 s.length::[CV.int .i64 (i:Int),CV.sl 7 (aa [x])].map AV.c)
  (.gS 999999 0 7 (aa (s.take i++x::s.drop i)).length) (some (bC (aa (s.take i++x::s.drop i)))):=by
 have z1:=aG s;have hc:(bC (aa s)).length=s.length*7:=by rw[dK (gZ s),z1]
 have E:bC (aa (s.take i++x::s.drop i))=(bC (aa s)).take (i*7)++(bC (aa [x])++(bC (aa s)).drop (i*7)):=by
  rw[lQ,dS,uv (gZ s) i bn,uw (gZ s) i bn,xx,vh];simp only[aa,bC,aec]
 refine dP.adX (λJ w=>call120 J w) h0 (D6 _) ?_;intro w G b V vs us hb D M q jz U I C vI;obtain⟨k,nn,a1,s0,J,B,code⟩:=x;simp only[bR,Rel,aa,dg,aac,aad]at vI;obtain⟨_,_,rfl,rfl,_,_,rfl,⟨base,len,vc,rfl,rfl,hvc,W⟩,rfl⟩:=vI;have A:vs.length=s.length*7:=by rw[oZ q,hc]
 have h1:=nD q U;have p:∀o,o<V*7->(w.cell? ⟨b,o,none⟩).isSome=true:=λo ho=>by
  obtain⟨u,hu⟩:=(C o).1 ho;rw[hu];rfl
 rcases W with W|⟨vb,vo,rfl,W⟩
 ·simp at W
 simp only[fL,pL,dy,agy]at W;obtain⟨⟨⟨S,g1,r1,o1⟩,⟨Q,g2,r2,o2⟩,⟨P,g3,r3,o3⟩,⟨O,g4,r4,o4⟩,⟨N,g5,r5,o5⟩,⟨K,g6,r6,o6⟩,q7⟩,_⟩:=W;obtain⟨⟨H,g7,r7,o7⟩,_⟩:=q7;have Lc:vb≠b:=λh=>by subst h;rw[D]at g1;cases g1
 have LB:bR G (bC (aa [.mk k nn a1 s0 J B code])) [S,Q,P,O,N,K,H]:=by
  simp only[aa,dg,bC,CV.cells,aec,bR];exact⟨S,_,Z,r1,Q,_,Z,r2,P,_,Z,r3,O,_,Z,r4,N,_,Z,r5,K,_,Z,r6,H,_,Z,r7,Z⟩
 refine⟨vs.take (i*7)++([S,Q,P,O,N,K,H]++vs.drop (i*7)),by rw[E];exact fK (tf _ q) (fK LB (tg _ q)),?_⟩;refine Calls.mono (Zm b s.length V i vb vo vc vs [S,Q,P,O,N,K,H] w hi h0 I bn Lc A Z jz p (λo=>(C o).2) (λj v Y=>?_) h1 (nD LB (D6 _))) ?_
 ·rcases j with _|_|_|_|_|_|_|j
  ·simp at Y;subst Y;exact M _ _ _ g1
  ·simp at Y;subst Y;exact M _ _ _ g2
  ·simp at Y;subst Y;exact M _ _ _ g3
  ·simp at Y;subst Y;exact M _ _ _ g4
  ·simp at Y;subst Y;exact M _ _ _ g5
  ·simp at Y;subst Y;exact M _ _ _ g6
  ·simp at Y;subst Y;exact M _ _ _ g7
  ·simp at Y
 ·rintro e w' ⟨b',T,e1,e2,e3,e4⟩;have Ag:(aa (s.take i++Vl.mk k nn a1 s0 J B code::s.drop i)).length=s.length+1:=by rw[aG,aaz,aac,aeD,aeI];omega
  obtain⟨u0,hu0⟩:=Option.isSome_iff_exists.1 ((e4 0).1 bn);exact⟨b',T,by rw[Ag];exact e1,by rw[Ag];exact e2,e3,FQ hu0,λo=>⟨λho=>Option.isSome_iff_exists.1 ((e4 o).1 ho),(e4 o).2⟩⟩
def IP:∀(p x y q:L AV),x.length=y.length->bV p.length x (p++(y++q))=some (p++(x++q))
 |[],x,y,q,h=>by
  induction x generalizing y with
  |nil=>cases y with
   |nil=>cases q<;>simp only[aad,aeU,bV]
   |cons _ _=>simp at h
  |cons a x Y=>cases y with
   |nil=>simp at h
   |cons b y =>
    have:=Y y oy;simp only[aad,aeU,adU]at this ⊢;simp only[bV,this]
 |a::p,x,y,q,h=>by
  cases x with
  |nil=>cases y with
   |nil=>simp only[aac,adU,bV]
   |cons _ _=>simp at h
  |cons b x=>simp only[aac,adU,bV,IP p (b::x) y q h]
def IQ{l:L Vl}{i:Nat}{v:Vl}(h:l[i]?=some v):l=l.take i++v::l.drop (i+1)/\(l.take i).length=i:=by
 obtain⟨h1,h2⟩:=List.getElem?_eq_some_iff.1 h;constructor
 ·rw[<- IN h,afk]
 ·grind
def P9(a b:L Vl):ak (aa (a++b))=ak (aa a)++ak (aa b):=by rw[ak,lQ,dS,aeC]
def W9(a:L Vl):(ak (aa a)).length=a.length*7:=by rw[ak,aeA,dK (gZ _),aG]
def FV{l:L Vl}{i:Nat}{k n a:Int}{s:L UInt8}{J:L Vl}{B:L Ty}{code:L Nd}(h:l[i]?=some (.mk k n a s J B code)):eu (0+i*7) (ak (aa l)) =
  some (.c (ag k) :: .c (ag n) :: .c (ag a) :: .c (.str s) :: .c (.sl 7 (aa J)) :: .c (.sl 2 (aA B)) :: .c (.sl 5 (aH code))::ak (aa (l.drop (i+1)))):=by
 obtain⟨h1,h2⟩:=IQ h;have V:=W9 (l.take i);rw[h2]at V
 conv=>lhs;rw[h1,P9,aeq,<- V,jj]
 rfl
def IS{l:L Vl}{i:Nat}(h:i<l.length)(k n a:Int)(s:L UInt8)(J:L Vl)(B:L Ty)(code:L Nd):bV (0+i*7) [.c (ag k),.c (ag n),.c (ag a),.c (.str s),.c (.sl 7 (aa J)),.c (.sl 2 (aA B)),.c (.sl 5 (aH code))] (ak (aa l)) =
  some (ak (aa (l.set i (.mk k n a s J B code)))):=by
 obtain⟨v,M⟩:∃v,l[i]?=some v:=⟨_,aea h⟩
 obtain⟨h1,h2⟩:=IQ M;have V:=W9 (l.take i);rw[h2]at V;have I:l.set i (.mk k n a s J B code)=l.take i ++ .mk k n a s J B code::l.drop (i+1):=by
  rw[List.set_eq_take_append_cons_drop,if_pos h]
 rw[I,P9]
 conv=>lhs;rw[h1,P9,aeq,<- V]
 have O:ak (aa (v::l.drop (i+1)))=ak [bH v]++ak (aa (l.drop (i+1))):=by
  show ak (bH v::aa (l.drop (i+1)))=_;rw[ak,ak,ak,<- aeC];simp only[bC,aec]
 rw[O,IP]
 ·rfl
 ·cases v;rfl
def Zn{l m:L Vl}{i:Nat}(Q:m.length=l.length)(K:l.length<=2*i+1)(Y:2*i<=l.length+1)(h:∀k,k<l.length->m[k]?=if k<i\/l.length<=k+i then l[l.length-1-k]? else l[k]?):m=l.reverse:=by
 apply List.ext_getElem?;intro k;by_cases D:k<l.length
 ·grind
 ·simp_all
def ko(l:L Vl)(hl:l.length<=1099511627776):qE 41 [(1000000,ak (aa l))] [.gS 1000000 0 7 l.length] (.c .undef) [(1000000,ak (aa l.reverse))]:=by
 refine cP.of func41 Z (λJ w=>call41 J w) (aep Z) [(0,.gS 1000000 0 7 l.length)] ⟨[(1000000,ak (aa l))],[],[1000000]⟩ Z Z λβ=>?_;have hf:=func41;generalize Q:l.reverse=rv;refine dnm ?_;have O:i64.wrap ((l.length:Nat)-1:Int)=(l.length:Nat)-1:=iy bn bn;refine AK.fV [(1000000,1000000)] [] (env':=[(0,.gS 1000000 0 7 l.length),(2,.c (ag ((0:Nat):Int))),(3,.c (ag ((l.length:Nat)-1-((0:Nat):Int))))])
  (bs':=[(1000000,ak (aa l))]) (ts':=[]) (us':=[1000000]) ⟨⟨_,Z,⟨_,Z,Z⟩⟩,⟨_,Z,.inl Z⟩,⟨_,Z,.inl (aeb (λz=>AV.c (.int .i64 z)) (O.trans bn))⟩,trivial⟩ ⟨⟨_,_,Z,Z,cN _⟩,trivial⟩ Z ?_
 refine AK.eL (α:=Nat×L Vl) (λz=>z.2.length=l.length/\2*z.1<=l.length+1/\∀k,k<l.length->z.2[k]?=if k<z.1\/l.length<=k+z.1 then l[l.length-1-k]? else l[k]?) (λz=>l.length+1-z.1)
  (λz=>[(0,.gS 1000000 0 7 l.length),(2,.c (ag (z.1:Nat))),(3,.c (ag ((l.length:Nat)-1-(z.1:Nat))))]) (λz=>[(1000000,ak (aa z.2))]) (λ_=>[]) [1000000] (0,l)
  ⟨Z,by show 2*0<=_;omega,λk hk=>by show l[k]?=if k<0\/l.length<=k+0 then _ else _;rw[if_neg bn]⟩ ce ⟨Z,trivial⟩ trivial Z (RQ Z (Ko _ _) Z) Z ?_
 rintro⟨i,m⟩ ⟨h1,h2,V⟩ ih;simp only at h1 h2 V;by_cases hij:2*i+1<l.length
 ·have hc:decide (((i:Nat):Int)<(l.length:Nat)-1-(i:Nat))=true:=aak bn;obtain⟨j,hj⟩:∃j:Nat,j+i+1=l.length:=⟨l.length-1-i,bn⟩
  have K:((l.length:Nat)-1-(i:Nat):Int)=(j:Nat):=by omega
  obtain⟨a,ha⟩:∃a,m[j]?=some a:=⟨_,aea bn⟩
  obtain⟨b,hb⟩:∃b,m[i]?=some b:=⟨_,aea bn⟩
  have N:∀k,k<l.length->((m.set i a).set j b)[k]?=if k<i+1\/l.length<=k+(i+1)then l[l.length-1-k]? else l[k]?:=by
   intro k hk;by_cases I:k=j
   ·subst I;rw[agT ob,if_pos bn,<- hb,V i bn,if_neg bn];congr 1;omega
   ·rw[List.getElem?_set_ne bn];by_cases H:k=i
    ·subst H;rw[agT bn,if_pos bn,<- ha,V j bn,if_neg bn];congr 1;omega
    ·rw[List.getElem?_set_ne bn,V k hk];by_cases W:k<i\/l.length<=k+i
     ·rw[if_pos W,if_pos bn]
     ·rw[if_neg W,if_neg bn]
  obtain⟨U,T,S,P,Y,D,M⟩:=a;obtain⟨A,q,a2,G,u,E,p⟩:=b;have r1:=FV ha;have r2:=FV hb;have w1:=IS (l:=m) (i:=i) bn U T S P Y D M;have w2:=IS (l:=m.set i (.mk U T S P Y D M)) (i:=j) (by rw[agD];omega) A q a2 G u E p;have C:i64.wrap (((i:Nat):Int)+1)=((i+1:Nat):Int):=by rw[iy bn bn];omega
  have B:i64.wrap ((l.length:Nat)-1-(i:Nat)-1:Int)=(l.length:Nat)-1-((i+1:Nat):Int):=by rw[iy bn bn];omega
  repeat' (first|refine om ?_|refine zc ?_ ?_|(intro h;first|(cases h;done)|rw[h]|skip)|refine AK.qA Z ?_ ?_|refine af.jV hX kn Z Z Z Z Z Z Z Z Z j K bn ?_|refine af.jV hX kn Z Z Z Z Z Z Z Z Z i Z bn ?_|refine af.dD hX kn Z Z Z Z Z Z r1 Z ?_|refine af.dD hX kn Z Z Z Z Z Z r2 Z ?_|refine af.store hX kn Z Z Z Z Z Z Z Z Z w1 Z ?_|refine af.store hX kn Z Z Z Z Z Z Z Z Z w2 Z ?_|(refine uA Z ?_ ?_<;>(try (show(_:Nat)*_<=_;dsimp only))))
  refine AK.fV [(1000000,1000000)] [] (env':=[(0,.gS 1000000 0 7 l.length),(2,.c (ag ((i+1:Nat):Int))),(3,.c (ag ((l.length:Nat)-1-((i+1:Nat):Int))))])
   (bs':=[(1000000,ak (aa ((m.set i (.mk U T S P Y D M)).set j (.mk A q a2 G u E p))))]) (ts':=[]) (us':=[1000000])
   ⟨⟨_,Z,⟨_,Z,Z⟩⟩,⟨_,Z,.inl (aeb (λz=>AV.c (.int .i64 z)) C)⟩,⟨_,Z,.inl (aeb (λz=>AV.c (.int .i64 z)) B)⟩,trivial⟩ ⟨⟨_,_,Z,Z,cN _⟩,trivial⟩ Z ?_
  exact ih (i+1,(m.set i (.mk U T S P Y D M)).set j (.mk A q a2 G u E p)) ⟨by show(List.set _ _ _).length=_;rw[agD,agD];exact h1,by show 2*(i+1)<=_;omega,N⟩ (by show l.length+1-(i+1)<l.length+1-i;omega)
 ·have hc:decide (((i:Nat):Int)<(l.length:Nat)-1-(i:Nat))=false:=aap bn;have hm:m=rv:=by rw[<- Q];exact Zn h1 bn h2 V
  subst hm;clear ih
  repeat' (first|refine om ?_|refine zc ?_ ?_|(intro h;first|(cases h;done)|rw[h]|skip)|refine AK.qA Z ?_ ?_|(refine uA Z ?_ ?_<;>(try (show(_:Nat)*_<=_;dsimp only))))
  exact AK.FR (.inr Z) hX hf Z [(1000000,1000000)] Z (.inr Z) ⟨⟨_,_,Z,Z,cN _⟩,trivial⟩
end Go.Proofs
