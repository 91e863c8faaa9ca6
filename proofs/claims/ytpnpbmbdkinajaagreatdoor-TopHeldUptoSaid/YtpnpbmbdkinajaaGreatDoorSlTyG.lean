/- A part of the proof. -/
import Derived.Test.YtpnpbmbdkinajaaGreatDoorDataG
import Derived.Deep.LoopGhost
import Derived.Deep.RegionLaw
import Derived.Lib.AppendZeros
import Derived.Lib.Walk
import Derived.Shelf.RegionOpenPlain
set_option linter.all false
set_option maxHeartbeats 0
set_option maxRecDepth 100000
open Go.IntKind Go.Proofs.Tryz
namespace Go.Proofs
open Go.RowKit Go.Lib Go.cE
def CA:(Tryz.prog.info? 28).map (λi=>(i.zero,i.size,i.bytes))=some (some (.agg #[.int .i64 0,.slice none 0 0]),2,32):=by kernel_rfl
def YA:(Builtin.zeroCells (Value.agg #[.int .i64 0,.slice none 0 0]).cells 1).toList=[.int .i64 0,.slice none 0 0]:=by simp[Builtin.zeroCells,Value.cells,List.range,List.range.loop]
set_option maxHeartbeats 4000000 in
set_option maxRecDepth 1000000 in
def ack(n V i b:Nat)(w:World)(hi:i<n)(I:n<=V)(Y O:L Value)(U:Y.length=(n-(i+1))*2)(B:∀u∈Y,u.oneCell')
  (F:∀(j:Nat) u,Y[j]?=some u->w.cell? ⟨b,(i+1)*2+j,none⟩=some u)(hall:∀o,o<V*2->(w.cell? ⟨b,o,none⟩).isSome)(hfr:∀o,w.frozen? ⟨b,o,none⟩=false)
  (N:O=[.int .i64 0,.slice none 0 0]) :
  Calls Tryz.prog 122 #[.slice (some ⟨b,0,none⟩) n V,.int .i64 i,.int .i64 ((i+1:Nat):Int)] w λe z=>e = .returned (.slice (some ⟨b,0,none⟩) (n-1) V)/\z=(w.drew.setCells b (i*2) Y).setCells b ((n-1)*2) O:=by
 have mixed:=Tryz.mixed;have y:i+1<=n:=hi;have x:¬((i:Int)=((i+1:Nat):Int)):=by omega
 obtain⟨r,q,YB,m,WE⟩:=info_parts CA;have E:=Tryz.underlying26;have f:i<=V:=by omega
 have d:i+1<=V:=by omega
 have DW:(0:Int)<=(i:Int)+1:=by omega
 have SA:(i:Int)+1<=(n:Int):=by omega
 obtain⟨A,hA,Q⟩:∃A:Addr,(if V=i+1 then(some ⟨b,0,none⟩:Option Addr)else some ⟨b,(i+1)*2,none⟩)=some A/\Hid (∀(t:Nat) u,Y[t]?=some u->w.drew.cell? (A.add t)=some u):=by
  by_cases h:V=i+1
  ·refine⟨⟨b,0,none⟩,ri,λt u M=>?_⟩;have a:Y.length=0:=by rw[U];omega
   rw[List.length_eq_zero_iff.1 a]at M;simp at M
  refine⟨⟨b,(i+1)*2,none⟩,ri,λt u M=>?_⟩;rw[Addr.add_lit];exact F t u M
 have s1:Hid (Y.length=(n-(i+1))*2):=U;have s2:Hid (∀u∈Y,u.oneCell'):=B;have s3:Hid (∀t,t<Y.length->(w.drew.cell? ⟨b,0+i*2+t,none⟩).isSome/\w.drew.frozen? ⟨b,0+i*2+t,none⟩=false):=by intro t ht;rw[U]at ht;exact⟨hall _ ai,hfr _⟩
 obtain⟨S,K⟩:∃S,S=w.drew.setCells b (0+i*2) Y:=⟨_,rfl⟩;have kO:∀D,(Builtin.clear_ #[26] D #[.slice (some ⟨b,(i+(n-(i+1)))*2,none⟩) (n-(i+(n-(i+1)))) (V-(i+(n-(i+1))))]).run Tryz.prog S = .ok (.tuple #[]) (S.setCells b ((n-1)*2) O):=by
  intro D
  have T:=run_storeCells_cells (P:=Tryz.prog) b ((n-1)*2) O 0 S (λj J=>by
    rw[K,aiI]
    exact dK (λk hk=>by rw[U]at hk;exact hall _ ai) (hall _ (by rw[N]at J;simp at J;omega)))
   (λj J=>by rw[K,World.frozen?_setCells];exact hfr _) (by rw[N];simp[Value.oneCell'])
  rw[show n-(i+(n-(i+1)))=1 by omega,show i+(n-(i+1))=n-1 by omega];rw[N]at T ⊢;simp only[aiI]at T;simp[Builtin.clear_,run_underlying E,Tryz.zeroValue28,YA,T]
 have C:Hid (S=w.drew.setCells b (0+i*2) Y):=K;clear K F hall hfr
 go_enter func122,Tryz.ntmps122
 go_wp2_with fail
 go_region_law_o (refine step_append_room Z (.tmp 22) (.tmp 25) 26 Z 28 r 2 E q m b 0 i V nt A (n-(i+1)) (V-(i+1)) Y nt s1.out Q.out s2.out ai s3.out ?_;rw[<- C.out])
 go_wp2
 go_ret
 have e1:i+(n-(i+1))=n-1:=by omega
 refine⟨by rw[<- e1];rfl,?_⟩;rw[C.out,N,ahr]
set_option maxHeartbeats 4000000 in
set_option maxRecDepth 100000 in
def WG(b n c i V T m N:Nat)(U O:L Value)(w:World)(hi:i<n)(hm:0<m)(F:n+m<=c)(hnb:n+m<=9000000000000000000)(q:V≠b)
  (a:U.length=n*2)(hvl:O.length=m*2)
  (E:∀(j:Nat) v,U[j]?=some v->w.cell? ⟨b,j,none⟩=some v)(Y:∀j,j<c*2->(w.cell? ⟨b,j,none⟩).isSome)(S:∀j,w.frozen? ⟨b,j,none⟩=false)
  (M:∀(j:Nat) v,O[j]?=some v->w.cell? ⟨V,T+j,none⟩=some v)(D:∀v∈U,v.oneCell')(Gd:∀v∈O,v.oneCell') :
  Calls Tryz.prog 123 #[.slice (some ⟨b,0,none⟩) n c,.int .i64 i,.slice (some ⟨V,T,none⟩) m N] w λe w' =>
   e = .returned (.slice (some ⟨b,0,none⟩) (n+m) c)/\w'=(w.drew.setCells b ((i+m)*2) (U.drop (i*2))).setCells b (i*2) O:=by
 have C:=Tryz.underlying26;have Ph:¬((m:Int)=0):=by omega
 have YC:¬((i:Int)=(n:Int)):=by omega
 have ω:¬((c:Int)<(n:Int)+(m:Int)):=by omega
 have K:(Tryz.prog.info? 28).map (·.size)=some 2:=by kernel_rfl
 obtain⟨o,WH⟩:∃o,w.cell? ⟨V,T,none⟩=some o:=⟨_,M 0 _ (ahl age)⟩;obtain⟨u0,B⟩:=Option.isSome_iff_exists.1 (Y ((i+m)*2) ai);have A:∀z y,(callFunc 147 #[.slice (some ⟨V,T,none⟩) m N,.slice (some ⟨b,(i+m)*2,none⟩) z y]).run Tryz.prog w = .ok (.value (.bool false)) w:=λz y=>by
  rw[run_callFunc_extern func147 (by kernel_rfl) (by kernel_rfl) (by kernel_rfl) (e:=Extern.SlicesOverlaps.overlaps #[26,26] #[4]) (by kernel_rfl),
   vT w 26 4 28 C 2 Tryz.sizeOf28 ⟨V,T,none⟩ ⟨b,(i+m)*2,none⟩ m N z y q WH B S rfl]
  rfl
 have Ge:(U.drop (i*2)).length=(n-i)*2:=by rw[aih,a];omega
 have mixed:=Tryz.mixed;have ψ:i64.wrap ((i:Int)+(m:Int))=(i:Int)+(m:Int):=by rw[IntKind.wrap_i64];omega
 have Yj:i64.wrap ((n:Int)+(m:Int))=(n:Int)+(m:Int):=by rw[IntKind.wrap_i64];omega
 have DW:(0:Int)<=(i:Int)+(m:Int):=by omega
 have χ:i<=n:=by omega
 have υ:((i:Int)+(m:Int)).toNat=i+m:=by omega
 have SA:¬(c=i+m):=by omega
 have τ:(i:Int)<=(n:Int)+(m:Int):=by omega
 have ρ:¬(c=i):=by omega
 have f:∀Q P u,(Builtin.copy_ #[26,26] Q #[.slice (some ⟨b,(i+m)*2,none⟩) (n+m-(i+m)) P,.slice (some ⟨b,i*2,none⟩) (n+m-i) u]).run Tryz.prog w.drew = .ok (goInt ((n-i:Nat):Int)) (w.drew.setCells b ((i+m)*2) (U.drop (i*2))):=λQ P u =>
  oB w.drew _ _ Q 28 b ((i+m)*2) (n+m-(i+m)) P ⟨b,i*2,none⟩ (n+m-i) u (U.drop (i*2)) (n-i) 2 C K mc Ge
   (λj v hj=>by rw[Addr.add_lit];exact E (i*2+j) v ZA)
   (λj hj=>Y _ sH) (λj hj=>S _) (λv hv=>D v (aiW hv))
 obtain⟨J,I⟩:∃J,J=w.drew.setCells b ((i+m)*2) (U.drop (i*2)):=⟨_,rfl⟩;have t:∀k,k<c*2->(J.cell? ⟨b,k,none⟩).isSome:=λk hk=>by rw[I];exact dK (w:=w.drew) (λj hj=>Y ((i+m)*2+j) sH) (Y k hk)
 have r:∀(W:World),(∀x,W.cell? x=J.cell? x)->(∀x,W.frozen? x=J.frozen? x)->∀Q P,(Builtin.copy_ #[26,26] Q #[.slice (some ⟨b,i*2,none⟩) (n+m-i) P,.slice (some ⟨V,T,none⟩) m N]).run Tryz.prog W = .ok (goInt m) (W.setCells b (i*2) O):=λW d YE Q P =>
  oB W _ _ Q 28 b (i*2) (n+m-i) P ⟨V,T,none⟩ m N O m 2 C K mc hvl
   (λj v hj=>by
    rw[Addr.add_lit,d,I,World.cell?_setCells_out b _ _ _ _ (λh _=>absurd h q)]
    exact M j v hj)
   (λj hj=>by rw[d];exact t _ ZG) (λj hj=>by rw[YE,I,World.frozen?_setCells];exact S _) Gd
 rw[<- I]at f
 go_enter func123,Tryz.ntmps123
 go_wp2_with (simp only[A])
 go_region_law_o (refine xe Z _ _ 26 26 Z _ _ nt nt (f _ _ _) ?_)
 go_wp2_with (at_builtin;refine mZ _ Z _ _ 26 26 Z _ _ Z Z (r _ (λ_=>rfl) (λ_=>rfl) _ _) ?_)
 go_ret
 first|exact⟨Z,Z⟩|exact⟨Z,by rw[I]⟩
set_option maxHeartbeats 4000000 in
set_option maxRecDepth 100000 in
def Pk(b n c T S m Q:Nat)(U:L Value)(w:World)(C:0<m)(Y:n+m<=c)
  (hvl:U.length=m*2)(P:∀j,j<c*2->(w.cell? ⟨b,j,none⟩).isSome)(O:∀j,w.frozen? ⟨b,j,none⟩=false)
  (N:∀(j:Nat) v,U[j]?=some v->w.cell? ⟨T,S+j,none⟩=some v)(J:∀v∈U,v.oneCell') :
  Calls Tryz.prog 123 #[.slice (some ⟨b,0,none⟩) n c,.int .i64 n,.slice (some ⟨T,S,none⟩) m Q] w λe I =>
   e = .returned (.slice (some ⟨b,0,none⟩) (n+m) c)/\I=w.setCells b (n*2) U:=by
 have F:=Tryz.underlying26;obtain⟨E,D,B,V,A⟩:=info_parts CA;have mixed:=Tryz.mixed;have z:¬((m:Int)=0):=by omega
 have M:∀K,(Builtin.append_ #[26,26] K #[.slice (some ⟨b,0,none⟩) n c,.slice (some ⟨T,S,none⟩) m Q]).run Tryz.prog w = .ok (.slice (some ⟨b,0,none⟩) (n+m) c) (w.setCells b (n*2) U):=λK=>by
  have:=run_append_room_cells w 26 K 28 E F D b 0 n c ⟨T,S,none⟩ m Q U (by rw[V];exact hvl) (λj u hj=>by rw[Addr.add_lit];exact N j u hj) J Y
   (λj hj=>by rw[V];exact P _ ZG) (λj hj=>O _)
  rw[V,ahr]at this;exact this
 go_enter func123,Tryz.ntmps123
 go_wp2_with (at_builtin;refine Lib.wpList_append_run _ Z _ _ _ _ Z _ _ Z Z _ _ (M _) ?_)
 go_ret
 exact⟨Z,Z⟩
set_option maxHeartbeats 4000000 in
set_option maxRecDepth 100000 in
def Pm(b n c vb vo m vc:Nat)(V vs:L Value)(w:World)(C:0<m)(M:n<=c)(Y:c<n+m)(K:(n+m)*32<=140737488355328)
  (J:V.length=n*2)(hvl:vs.length=m*2)
  (P:∀(j:Nat) v,V[j]?=some v->w.cell? ⟨b,j,none⟩=some v)
  (hvs:∀(j:Nat) v,vs[j]?=some v->w.cell? ⟨vb,vo+j,none⟩=some v)(Gd:∀v∈vs,v.oneCell') :
  Calls Tryz.prog 123 #[.slice (some ⟨b,0,none⟩) n c,.int .i64 n,.slice (some ⟨vb,vo,none⟩) m vc] w λe I =>
   e = .returned (.slice (some ⟨w.heap.size,0,none⟩) (n+m) (grownCap w (n+m) c 28)) /\
   I=w.drew.alloc (.cells ((V++vs).toArray++Builtin.zeroCells (Value.agg #[.int .i64 0,.slice none 0 0]).cells (grownCap w (n+m) c 28-(n+m))) 28):=by
 have ts:=Tryz.underlying26;obtain⟨O,F,E,U,D⟩:=info_parts CA;have mixed:=Tryz.mixed;have B:¬((m:Int)=0):=by omega
 have T:Src Tryz.prog O.size 26 (.slice (some ⟨vb,vo,none⟩) m vc) m vs w:=by rw[U];exact aha
 have S:(Builtin.firstCells O.size n (.slice (some ⟨b,0,none⟩) n c)).run Tryz.prog w.drew = .ok V.toArray w.drew:=by rw[U];exact run_firstCells_some w.drew 2 n ⟨b,0,none⟩ n c V J (λj v hj=>by rw[Addr.add_lit,ahr];exact P j v hj)
 have Q:∀N,(Builtin.append_ #[26,26] N #[.slice (some ⟨b,0,none⟩) n c,.slice (some ⟨vb,vo,none⟩) m vc]).run Tryz.prog w=_:=λN =>
  run_append_grow_src w 26 26 N 28 O _ ts F E (some ⟨b,0,none⟩) n c V S _ m vs T Y ai (by rw[D];exact growslice_fits Y K)
 go_enter func123,Tryz.ntmps123
 go_wp2_with (at_builtin;refine Lib.wpList_append_run _ Z _ _ _ _ Z _ _ Z Z _ _ (Q _) ?_)
 all_goals (go_ret;exact⟨Z,Z⟩)
set_option maxHeartbeats 4000000 in
set_option maxRecDepth 100000 in
def YF(b n c i P r m d:Nat)(V U:L Value)(w:World)(hi:i<n)(hm:0<m)(θ:n<=c)(M:c<n+m)(ux:(n+m)*32<=140737488355328)
  (a:V.length=n*2)(hvl:U.length=m*2)
  (K:∀(j:Nat) v,V[j]?=some v->w.cell? ⟨b,j,none⟩=some v)
  (D:∀(j:Nat) v,U[j]?=some v->w.cell? ⟨P,r+j,none⟩=some v)(ω:∀v∈V,v.oneCell')(Gd:∀v∈U,v.oneCell') :
  Calls Tryz.prog 123 #[.slice (some ⟨b,0,none⟩) n c,.int .i64 i,.slice (some ⟨P,r,none⟩) m d] w λe q =>
   ∃G Y,n+m<=G/\G*2<=Y.size/\(∀j,j<i*2->Y[j]?=V[j]?)/\e = .returned (.slice (some ⟨w.heap.size,0,none⟩) (n+m) G) /\
   q=(((w.alloc (.cells Y 28)).drew.setCells w.heap.size (i*2) U).drew).setCells w.heap.size ((i+m)*2) (V.drop (i*2)):=by
 have ts:=Tryz.underlying26;have tn:=Tryz.underlying3;have mixed:=Tryz.mixed;obtain⟨i0,uo,YB,ψ,WE⟩:=info_parts CA;have Ph:¬((m:Int)=0):=by omega
 have YC:¬((i:Int)=(n:Int)):=by omega
 have η:(c:Int)<(n:Int)+(m:Int):=by omega
 have C:(Tryz.prog.info? 28).map (·.size)=some 2:=by kernel_rfl
 have χ:b<w.heap.size:=block_lt_of_cell (K 0 _ (ahl (by rw[a];omega)));have υ:P<w.heap.size:=block_lt_of_cell (D 0 _ (ahl age));have B:(n:Int)+(m:Int)-(i:Int)=((n+m-i:Nat):Int):=by omega
 have J:i+(n+m-i)=n+m:=by omega
 have Hh:(V.take (i*2)).length=i*2:=by rw[ahZ,a];omega
 have O:(Builtin.firstCells i0.size i (.slice (some ⟨b,0,none⟩) i c)).run Tryz.prog w.drew = .ok (V.take (i*2)).toArray w.drew:=by
  rw[ψ]
  exact run_firstCells_some w.drew 2 i ⟨b,0,none⟩ i c (V.take (i*2)) Hh (λj v hj=>by
   rw[Addr.add_lit,ahr];rw[ajl]at hj;split at hj;exact K j v hj
   cases hj)
 obtain⟨N,I⟩:∃N,N=(Value.agg #[.int .i64 0,.slice none 0 0]).cells:=⟨_,rfl⟩;have A:N.size=2:=by rw[I];rfl
 have WI:∀k,(Builtin.zeroCells N k).size=k*2:=λk=>by simp[Builtin.zeroCells,A]
 have Q:∀T,(Builtin.append_ #[26,3] T #[.slice (some ⟨b,0,none⟩) i c,.int .i64 ((n:Int)+(m:Int)-(i:Int))]).run Tryz.prog w =
   .ok (.slice (some ⟨w.heap.size,0,none⟩) (n+m) (grownCap w (n+m) c 28)) (w.drew.alloc (.cells ((V.take (i*2)).toArray++Builtin.zeroCells N (n+m-i)++Builtin.zeroCells N (grownCap w (n+m) c 28-(n+m))) 28)):=λT=>by
  have h:=Lib.run_append_grow_zeros w 26 3 T 28 i0 _ .i64 .i64 ts tn uo YB (some ⟨b,0,none⟩) i c (V.take (i*2)) O (n+m-i) ai ai ai ai (by rw[WE];omega) (by rw[WE,J];exact growslice_fits M ux);rw[J,<- I]at h;rw[B];exact h
 obtain⟨G,o⟩:∃G,G=grownCap w (n+m) c 28:=⟨_,rfl⟩;have τ:n+m<=G:=by rw[o];exact grownCap_ge w _ _ _
 obtain⟨Y,f⟩:∃Y:Array Value,Y=(V.take (i*2)).toArray++Builtin.zeroCells N (n+m-i)++Builtin.zeroCells N (G-(n+m)):=⟨_,rfl⟩;rw[<- o]at Q;rw[<- f]at Q;have ζ:Y.size=G*2:=by rw[f,ajr,ajr,WI,WI,aiS,Hh];omega
 have z:∀j,j<i*2->Y[j]?=V[j]?:=λj hj=>by rw[f,aif adw,aif (by rw[aiS,Hh];exact hj)];rw[akc,ajl,if_pos hj]
 obtain⟨S,E⟩:∃S,S=w.drew.alloc (.cells Y 28):=⟨_,rfl⟩;rw[<- E]at Q;have hN:∀j,j<G*2->(S.cell? ⟨w.heap.size,j,none⟩).isSome:=λj hj=>by rw[E,World.cell?_alloc_at (w:=w.drew) Y _ w.heap.size j Z,air ai];rfl
 have y:∀j,S.frozen? ⟨w.heap.size,j,none⟩=false:=λj=>by rw[E];exact World.frozen?_alloc_at (w:=w.drew) Y _ w.heap.size j Z
 have ρ:∀j v,w.cell? ⟨b,j,none⟩=some v->S.cell? ⟨b,j,none⟩=some v:=λj v h=>by rw[E,World.cell?_alloc_past (w:=w.drew) _ b j χ];exact h
 have π:∀j v,w.cell? ⟨P,j,none⟩=some v->S.cell? ⟨P,j,none⟩=some v:=λj v h=>by rw[E,World.cell?_alloc_past (w:=w.drew) _ P j υ];exact h
 have ο:∀(W:World),(∀x,W.cell? x=S.cell? x)->(∀x,W.frozen? x=S.frozen? x)->∀T F,(Builtin.copy_ #[26,26] T #[.slice (some ⟨w.heap.size,i*2,none⟩) (n+m-i) F,.slice (some ⟨P,r,none⟩) m d]).run Tryz.prog W = .ok (goInt m) (W.setCells w.heap.size (i*2) U):=λW u YE T F =>
  oB W _ _ T 28 w.heap.size (i*2) (n+m-i) F ⟨P,r,none⟩ m d U m 2 ts C mc hvl
   (λj v hj=>by rw[Addr.add_lit,u];exact π _ v (D j v hj))
   (λj hj=>by rw[u];exact hN _ ZG) (λj hj=>by rw[YE];exact y _) Gd
 have ε:G<=9223372036854775807:=by have:=grownCap_le_maxLen w (n+m) c 28 (by unfold maxLen;omega);rw[<- o]at this;unfold maxLen at this;omega
 have δ:¬(G=i):=by omega
 have γ:¬(G=i+m):=by omega
 have hci:¬(c=i):=by omega
 have ξ:b≠w.heap.size:=by omega
 have Ge:(V.drop (i*2)).length=(n-i)*2:=by rw[aih,a];omega
 have YG:∀(W:World),(∀x,W.cell? x=(S.setCells w.heap.size (i*2) U).cell? x)->(∀x,W.frozen? x=(S.setCells w.heap.size (i*2) U).frozen? x)->∀T F sc,(Builtin.copy_ #[26,26] T #[.slice (some ⟨w.heap.size,(i+m)*2,none⟩) (n+m-(i+m)) F,.slice (some ⟨b,i*2,none⟩) (n-i) sc]).run Tryz.prog W = .ok (goInt ((n-i:Nat):Int)) (W.setCells w.heap.size ((i+m)*2) (V.drop (i*2))):=λW u YE T F sc =>
  oB W _ _ T 28 w.heap.size ((i+m)*2) (n+m-(i+m)) F ⟨b,i*2,none⟩ (n-i) sc (V.drop (i*2)) (n-i) 2 ts C mc Ge
   (λj v hj=>by
    rw[Addr.add_lit,u,World.cell?_setCells_out _ _ _ _ _ (λh _=>absurd h ξ)]
    exact ρ _ v (K (i*2+j) v ZA))
   (λj hj=>by rw[u];exact dK (λt ht=>hN _ (by rw[hvl]at ht;omega)) (hN _ sH))
   (λj hj=>by rw[YE,World.frozen?_setCells];exact y _) (λv hv=>ω v (aiW hv))
 subst E;have ν:∀x,((w.alloc (.cells Y 28)).drew).cell? x=(w.drew.alloc (.cells Y 28)).cell? x:=λx=>rfl;have μ:∀x,((w.alloc (.cells Y 28)).drew).frozen? x=(w.drew.alloc (.cells Y 28)).frozen? x:=λx=>rfl;have κ:∀x,(((w.alloc (.cells Y 28)).drew.setCells w.heap.size (i*2) U).drew).cell? x=((w.drew.alloc (.cells Y 28)).setCells w.heap.size (i*2) U).cell? x:=λx=>rfl;have ι:∀x,(((w.alloc (.cells Y 28)).drew.setCells w.heap.size (i*2) U).drew).frozen? x=((w.drew.alloc (.cells Y 28)).setCells w.heap.size (i*2) U).frozen? x:=λx=>rfl;have hw1:i64.wrap ((i:Int)+(m:Int))=(i:Int)+(m:Int):=by rw[IntKind.wrap_i64];omega
 have Yj:i64.wrap ((n:Int)+(m:Int))=(n:Int)+(m:Int):=by rw[IntKind.wrap_i64];omega
 have hw3:i64.wrap ((n:Int)+(m:Int)-(i:Int))=(n:Int)+(m:Int)-(i:Int):=by rw[IntKind.wrap_i64];omega
 have DW:(0:Int)<=(i:Int)+(m:Int):=by omega
 have hin:i<=n:=by omega
 have htn:((i:Int)+(m:Int)).toNat=i+m:=by omega
 have hb3:(i:Int)<=(n:Int):=by omega
 clear B J O f o WI I A Hh;refine Calls.mono (R:=λe q=>e = .returned (.slice (some ⟨w.heap.size,0,none⟩) (n+m) G)/\q=(((w.alloc (.cells Y 28)).drew.setCells w.heap.size (i*2) U).drew).setCells w.heap.size ((i+m)*2) (V.drop (i*2))) ?_ ?_;rotate_left;rintro e q ⟨h1,h2⟩;exact⟨G,Y,τ,ai,z,h1,h2⟩;clear z
 go_enter func123,Tryz.ntmps123
 go_wp2_with (first
  |(at_builtin;refine Lib.wpList_append_run _ rfl _ _ _ _ rfl _ _ rfl rfl _ _ (Q _) ?_)
  |(at_builtin;refine mZ _ rfl _ _ 26 26 rfl _ _ rfl rfl (ο _ ν μ _ _) ?_)
  |(at_builtin;refine mZ _ rfl _ _ 26 26 rfl _ _ rfl rfl (YG _ (λ_=>rfl) (λ_=>rfl) _ _ _) ?_))
 go_region_law_o (refine xe Z _ _ 26 26 Z (.slice (some ⟨w.heap.size,(i+m)*2,none⟩) (n+m-(i+m)) (G-(i+m))) (.slice (some ⟨b,i*2,none⟩) (n-i) (c-i)) nt nt (YG _ κ ι 3 (G-(i+m)) (c-i)) ?_)
 go_wp2
 go_ret
 exact⟨Z,Z⟩
set_option maxHeartbeats 1000000 in
def aco(b n c i I C A:Nat)(Y V:L Value)(w:World)(hi:i<=n)(υ:0<n)(z:n<=c)(ux:(n+1)*32<=140737488355328)(O3:I≠b)
  (F:Y.length=n*2)(Q:V.length=1*2)
  (P:∀(j:Nat) v,Y[j]?=some v->w.cell? ⟨b,j,none⟩=some v)(N:∀j,j<c*2->(w.cell? ⟨b,j,none⟩).isSome)(y:∀j,w.frozen? ⟨b,j,none⟩=false)
  (K:∀(j:Nat) v,V[j]?=some v->w.cell? ⟨I,C+j,none⟩=some v)(x:∀v∈Y,v.oneCell')(f:∀v∈V,v.oneCell') :
  Calls Tryz.prog 123 #[.slice (some ⟨b,0,none⟩) n c,.int .i64 i,.slice (some ⟨I,C,none⟩) 1 A] w λe t =>
   ∃b' J,e = .returned (.slice (some ⟨b',0,none⟩) (n+1) J)/\n+1<=J/\Vs w b t b' (Y.take (i*2)++(V++Y.drop (i*2))):=by
 have Hh:(Y.take (i*2)).length=i*2:=by rw[ahZ,F];omega
 have τ:b<w.heap.size:=block_lt_of_cell (P 0 _ (ahl (by rw[F];omega)));have d:∀(j:Nat) u,(Y.take (i*2)++(V++Y.drop (i*2)))[j]?=some u->(j<i*2/\Y[j]?=some u)\/(i*2<=j/\j<(i+1)*2/\V[j-i*2]?=some u)\/((i+1)*2<=j/\(Y.drop (i*2))[j-(i+1)*2]?=some u):=by intro j u hj;rw[ajH]at hj;split at hj;rename_i h;rw[Hh]at h;rw[ajl,if_pos h]at hj;exact .inl ⟨h,hj⟩;rename_i h;rw[Hh]at h hj;rw[ajH]at hj;split at hj;rename_i U;rw[Q]at U;exact .inr (.inl ⟨ai,ai,hj⟩);rename_i U;rw[Q]at U hj;refine .inr (.inr ⟨ai,?_⟩);rwa[show j-(i+1)*2=j-i*2-1*2 by omega]
 have Ge:(Y.drop (i*2)).length=(n-i)*2:=by rw[aih,F];omega
 by_cases he:i=n
 ·subst he;have Pc:Y.drop (i*2)=[]:=aiJ ai;by_cases r:i+1<=c
  ·refine Calls.mono (Pk b i c I C 1 A V w ai r Q N y K f) ?_;rintro e t ⟨E,rfl⟩;obtain⟨k1,k2,k3,k4,q⟩:=fh b V (i*2) w;refine⟨b,c,E,r,⟨k2,k3,k4,ai,.inl Z,λj u hj=>?_,λS _ h=>q S h⟩⟩;have a:∀j,j<V.length->(w.cell? ⟨b,i*2+j,none⟩).isSome:=λj hj=>N _ ai;rw[eT a];rcases d j u hj with ⟨h,M⟩|⟨h,M,U⟩|⟨h,U⟩
   rw[if_neg ai];exact P j u M;rw[if_pos ai];exact U;rw[Pc]at U;simp at U
  refine Calls.mono (Pm b i c I C 1 A Y V w ai z ai ux F Q P K f) ?_;rintro e t ⟨E,rfl⟩;refine⟨_,_,E,grownCap_ge w _ _ _,⟨Z,Z,Z,by simp[World.alloc],.inr (acd _),λj u hj=>?_,λS h _=>?_⟩⟩
  ·rw[World.cell?_alloc_at (w:=w.drew) _ _ w.heap.size j rfl];have ω:j<(Y++V).length:=by
    rw[acg,F,Q];rcases d j u hj with ⟨h,M⟩|⟨h,M,U⟩|⟨h,U⟩
    omega;omega;rw[Pc]at U;simp at U
   rw[aif (by rw[aiS];exact ω),akc];rw[Pc,ahq,ajD ai]at hj;exact hj
  show(w.drew.alloc _).heap[S]?=_;simp only[World.alloc];rw[ajZ (by exact h)];exact(air (xs:=w.heap) h).symm
 have o:i<n:=by omega
 by_cases r:n+1<=c
 ·refine Calls.mono (WG b n c i I C 1 A Y V w o ai r ai O3 F Q P N y K x f) ?_;rintro e t ⟨E,rfl⟩;obtain⟨k1,k2,k3,k4,q⟩:=fh b (Y.drop (i*2)) ((i+1)*2) w.drew;obtain⟨l1,l2,l3,l4,l5⟩:=fh b V (i*2) (w.drew.setCells b ((i+1)*2) (Y.drop (i*2)));have B:∀j,j<(Y.drop (i*2)).length->(w.drew.cell? ⟨b,(i+1)*2+j,none⟩).isSome:=λj hj=>N _ sH;have oK:∀j,j<V.length->((w.drew.setCells b ((i+1)*2) (Y.drop (i*2))).cell? ⟨b,i*2+j,none⟩).isSome:=λj hj=>dK B (N _ ai);refine⟨b,c,E,r,⟨agj,agl,agm,afY,.inl Z,λj u hj=>?_,λS _ h=>by rw[l5 S h,q S h];rfl⟩⟩;rw[eT oK,eT B];rcases d j u hj with ⟨h,M⟩|⟨h,M,U⟩|⟨h,U⟩
  rw[if_neg ai,if_neg ai];exact P j u M;rw[if_pos ai];exact U;have ψ:j-(i+1)*2<(Y.drop (i*2)).length:=by
   rcases ajK (j-(i+1)*2) (Y.drop (i*2)).length with D|D
   exact D;rw[aiL D]at U;cases U
  rw[if_neg ai,if_pos ai];exact U
 refine Calls.mono (YF b n c i I C 1 A Y V w o ai z ai ux F Q P K x f) ?_;rintro e t ⟨G,m,hG,hR,χ,E,rfl⟩;obtain⟨T,O⟩:∃T,T=(w.alloc (.cells m 28)).drew:=⟨_,rfl⟩;have hN:∀j,j<G*2->(T.cell? ⟨w.heap.size,j,none⟩).isSome:=λj hj=>by rw[O];show((w.alloc (.cells m 28)).cell? ⟨w.heap.size,j,none⟩).isSome;rw[World.cell?_alloc_at (w:=w) m _ w.heap.size j Z,air ai];rfl
 have hC:∀j u,j<i*2->Y[j]?=some u->T.cell? ⟨w.heap.size,j,none⟩=some u:=λj u hj hu=>by rw[O];show(w.alloc (.cells m 28)).cell? ⟨w.heap.size,j,none⟩=some u;rw[World.cell?_alloc_at (w:=w) m _ w.heap.size j Z,χ j hj];exact hu
 have hH:∀S,S<w.heap.size->T.heap[S]?=w.heap[S]?:=λS h=>by rw[O];show(w.alloc _).heap[S]?=_;simp only[World.alloc];rw[ajZ h];exact(air (xs:=w.heap) h).symm
 have hS:T.heap.size=w.heap.size+1:=by rw[O];show(w.heap.push _).size=_;rw[Array.size_push]
 have hO:T.os=w.os/\T.tape=w.tape/\T.output=w.output:=by rw[O];exact⟨Z,Z,Z⟩
 rw[<- O];obtain⟨k1,k2,k3,k4,q⟩:=fh w.heap.size V (i*2) T;obtain⟨l1,l2,l3,l4,l5⟩:=fh w.heap.size (Y.drop (i*2)) ((i+1)*2) (T.setCells w.heap.size (i*2) V).drew;have B:∀j,j<V.length->(T.cell? ⟨w.heap.size,i*2+j,none⟩).isSome:=λj hj=>hN _ ai;have oK:∀j,j<(Y.drop (i*2)).length->((T.setCells w.heap.size (i*2) V).drew.cell? ⟨w.heap.size,(i+1)*2+j,none⟩).isSome:=λj hj=>by show((T.setCells w.heap.size (i*2) V).cell? _).isSome=true;exact dK B (hN _ sH)
 refine⟨_,_,E,hG,⟨by rw[l2];exact k2.trans hO.1,by rw[l3];exact k3.trans hO.2.1,by rw[l4];exact k4.trans hO.2.2,by rw[l1];show w.heap.size<=(T.setCells w.heap.size (i*2) V).heap.size;rw[k1,hS];omega,.inr (acd _),λj u hj=>?_,λS h _=>?_⟩⟩
 ·rw[eT oK];rcases d j u hj with ⟨h,M⟩|⟨h,M,U⟩|⟨h,U⟩
  rw[if_neg ai];show(T.setCells w.heap.size (i*2) V).cell? _=_;rw[eT B,if_neg ai];exact hC j u h M;rw[if_neg ai];show(T.setCells w.heap.size (i*2) V).cell? _=_;rw[eT B,if_pos ai];exact U;have ψ:j-(i+1)*2<(Y.drop (i*2)).length:=by
   rcases ajK (j-(i+1)*2) (Y.drop (i*2)).length with D|D
   exact D;rw[aiL D]at U;cases U
  rw[if_pos ai];exact U
 rw[l5 S ai];show(T.setCells w.heap.size (i*2) V).heap[S]?=_;rw[q S ai,hH S h]
def DD:(Tryz.prog.info? 32).map (λi=>(i.zero,i.size,i.bytes))=some (some (.agg #[.int .i64 0,.int .i64 0,.int .i64 0,.string ⟨#[]⟩,.slice none 0 0,.slice none 0 0,.slice none 0 0]),7,112):=by kernel_rfl
def agK:(Value.agg #[.int .i64 0,.int .i64 0,.int .i64 0,.string ⟨#[]⟩,.slice none 0 0,.slice none 0 0,.slice none 0 0]).cells.size=7:=rfl
def aa4:(Builtin.zeroCells (Value.agg #[.int .i64 0,.int .i64 0,.int .i64 0,.string ⟨#[]⟩,.slice none 0 0,.slice none 0 0,.slice none 0 0]).cells 1).toList=[.int .i64 0,.int .i64 0,.int .i64 0,.string ⟨#[]⟩,.slice none 0 0,.slice none 0 0,.slice none 0 0]:=by simp[Builtin.zeroCells,Value.cells,List.range,List.range.loop]
set_option maxHeartbeats 4000000 in
set_option maxRecDepth 1000000 in
def adr(n V i b:Nat)(w:World)(hi:i<n)(I:n<=V)(Y O:L Value)(U:Y.length=(n-(i+1))*7)(B:∀u∈Y,u.oneCell')
  (F:∀(j:Nat) u,Y[j]?=some u->w.cell? ⟨b,(i+1)*7+j,none⟩=some u)(hall:∀o,o<V*7->(w.cell? ⟨b,o,none⟩).isSome)(hfr:∀o,w.frozen? ⟨b,o,none⟩=false)
  (N:O=[.int .i64 0,.int .i64 0,.int .i64 0,.string ⟨#[]⟩,.slice none 0 0,.slice none 0 0,.slice none 0 0]) :
  Calls Tryz.prog 130 #[.slice (some ⟨b,0,none⟩) n V,.int .i64 i,.int .i64 ((i+1:Nat):Int)] w λe z=>e = .returned (.slice (some ⟨b,0,none⟩) (n-1) V)/\z=(w.drew.setCells b (i*7) Y).setCells b ((n-1)*7) O:=by
 have mixed:=Tryz.mixed;have y:i+1<=n:=hi;have x:¬((i:Int)=((i+1:Nat):Int)):=by omega
 obtain⟨r,q,YB,m,WE⟩:=info_parts DD;have E:=Tryz.underlying30;have f:i<=V:=by omega
 have d:i+1<=V:=by omega
 have DW:(0:Int)<=(i:Int)+1:=by omega
 have SA:(i:Int)+1<=(n:Int):=by omega
 obtain⟨A,hA,Q⟩:∃A:Addr,(if V=i+1 then(some ⟨b,0,none⟩:Option Addr)else some ⟨b,(i+1)*7,none⟩)=some A/\Hid (∀(t:Nat) u,Y[t]?=some u->w.drew.cell? (A.add t)=some u):=by
  by_cases h:V=i+1
  ·refine⟨⟨b,0,none⟩,ri,λt u M=>?_⟩;have a:Y.length=0:=by rw[U];omega
   rw[List.length_eq_zero_iff.1 a]at M;simp at M
  refine⟨⟨b,(i+1)*7,none⟩,ri,λt u M=>?_⟩;rw[Addr.add_lit];exact F t u M
 have s1:Hid (Y.length=(n-(i+1))*7):=U;have s2:Hid (∀u∈Y,u.oneCell'):=B;have s3:Hid (∀t,t<Y.length->(w.drew.cell? ⟨b,0+i*7+t,none⟩).isSome/\w.drew.frozen? ⟨b,0+i*7+t,none⟩=false):=by intro t ht;rw[U]at ht;exact⟨hall _ ai,hfr _⟩
 obtain⟨S,K⟩:∃S,S=w.drew.setCells b (0+i*7) Y:=⟨_,rfl⟩;have kO:∀D,(Builtin.clear_ #[30] D #[.slice (some ⟨b,(i+(n-(i+1)))*7,none⟩) (n-(i+(n-(i+1)))) (V-(i+(n-(i+1))))]).run Tryz.prog S = .ok (.tuple #[]) (S.setCells b ((n-1)*7) O):=by
  intro D
  have T:=run_storeCells_cells (P:=Tryz.prog) b ((n-1)*7) O 0 S (λj J=>by
    rw[K,aiI]
    exact dK (λk hk=>by rw[U]at hk;exact hall _ ai) (hall _ (by rw[N]at J;simp at J;omega)))
   (λj J=>by rw[K,World.frozen?_setCells];exact hfr _) (by rw[N];simp[Value.oneCell'])
  rw[show n-(i+(n-(i+1)))=1 by omega,show i+(n-(i+1))=n-1 by omega];rw[N]at T ⊢;simp only[aiI]at T;simp[Builtin.clear_,run_underlying E,Tryz.zeroValue32,aa4,T]
 have C:Hid (S=w.drew.setCells b (0+i*7) Y):=K;clear K F hall hfr
 go_enter func130,Tryz.ntmps130
 go_wp2_with fail
 go_region_law_o (refine step_append_room Z (.tmp 22) (.tmp 25) 30 Z 32 r 7 E q m b 0 i V nt A (n-(i+1)) (V-(i+1)) Y nt s1.out Q.out s2.out ai s3.out ?_;rw[<- C.out])
 go_wp2
 go_ret
 have e1:i+(n-(i+1))=n-1:=by omega
 refine⟨by rw[<- e1];rfl,?_⟩;rw[C.out,N,ahr]
set_option maxHeartbeats 4000000 in
set_option maxRecDepth 100000 in
def XX(b n c i V T m N:Nat)(U O:L Value)(w:World)(hi:i<n)(hm:0<m)(F:n+m<=c)(hnb:n+m<=9000000000000000000)(q:V≠b)
  (a:U.length=n*7)(hvl:O.length=m*7)
  (E:∀(j:Nat) v,U[j]?=some v->w.cell? ⟨b,j,none⟩=some v)(Y:∀j,j<c*7->(w.cell? ⟨b,j,none⟩).isSome)(S:∀j,w.frozen? ⟨b,j,none⟩=false)
  (M:∀(j:Nat) v,O[j]?=some v->w.cell? ⟨V,T+j,none⟩=some v)(D:∀v∈U,v.oneCell')(Gd:∀v∈O,v.oneCell') :
  Calls Tryz.prog 131 #[.slice (some ⟨b,0,none⟩) n c,.int .i64 i,.slice (some ⟨V,T,none⟩) m N] w λe w' =>
   e = .returned (.slice (some ⟨b,0,none⟩) (n+m) c)/\w'=(w.drew.setCells b ((i+m)*7) (U.drop (i*7))).setCells b (i*7) O:=by
 have C:=Tryz.underlying30;have Ph:¬((m:Int)=0):=by omega
 have YC:¬((i:Int)=(n:Int)):=by omega
 have ω:¬((c:Int)<(n:Int)+(m:Int)):=by omega
 have K:(Tryz.prog.info? 32).map (·.size)=some 7:=by kernel_rfl
 obtain⟨o,WH⟩:∃o,w.cell? ⟨V,T,none⟩=some o:=⟨_,M 0 _ (ahl age)⟩;obtain⟨u0,B⟩:=Option.isSome_iff_exists.1 (Y ((i+m)*7) ai);have A:∀z y,(callFunc 149 #[.slice (some ⟨V,T,none⟩) m N,.slice (some ⟨b,(i+m)*7,none⟩) z y]).run Tryz.prog w = .ok (.value (.bool false)) w:=λz y=>by
  rw[run_callFunc_extern func149 (by kernel_rfl) (by kernel_rfl) (by kernel_rfl) (e:=Extern.SlicesOverlaps.overlaps #[30,30] #[4]) (by kernel_rfl),
   vT w 30 4 32 C 7 Tryz.sizeOf32 ⟨V,T,none⟩ ⟨b,(i+m)*7,none⟩ m N z y q WH B S rfl]
  rfl
 have Ge:(U.drop (i*7)).length=(n-i)*7:=by rw[aih,a];omega
 have mixed:=Tryz.mixed;have ψ:i64.wrap ((i:Int)+(m:Int))=(i:Int)+(m:Int):=by rw[IntKind.wrap_i64];omega
 have Yj:i64.wrap ((n:Int)+(m:Int))=(n:Int)+(m:Int):=by rw[IntKind.wrap_i64];omega
 have DW:(0:Int)<=(i:Int)+(m:Int):=by omega
 have χ:i<=n:=by omega
 have υ:((i:Int)+(m:Int)).toNat=i+m:=by omega
 have SA:¬(c=i+m):=by omega
 have τ:(i:Int)<=(n:Int)+(m:Int):=by omega
 have ρ:¬(c=i):=by omega
 have f:∀Q P u,(Builtin.copy_ #[30,30] Q #[.slice (some ⟨b,(i+m)*7,none⟩) (n+m-(i+m)) P,.slice (some ⟨b,i*7,none⟩) (n+m-i) u]).run Tryz.prog w.drew = .ok (goInt ((n-i:Nat):Int)) (w.drew.setCells b ((i+m)*7) (U.drop (i*7))):=λQ P u =>
  oB w.drew _ _ Q 32 b ((i+m)*7) (n+m-(i+m)) P ⟨b,i*7,none⟩ (n+m-i) u (U.drop (i*7)) (n-i) 7 C K mc Ge
   (λj v hj=>by rw[Addr.add_lit];exact E (i*7+j) v ZA)
   (λj hj=>Y _ sH) (λj hj=>S _) (λv hv=>D v (aiW hv))
 obtain⟨J,I⟩:∃J,J=w.drew.setCells b ((i+m)*7) (U.drop (i*7)):=⟨_,rfl⟩;have t:∀k,k<c*7->(J.cell? ⟨b,k,none⟩).isSome:=λk hk=>by rw[I];exact dK (w:=w.drew) (λj hj=>Y ((i+m)*7+j) sH) (Y k hk)
 have r:∀(W:World),(∀x,W.cell? x=J.cell? x)->(∀x,W.frozen? x=J.frozen? x)->∀Q P,(Builtin.copy_ #[30,30] Q #[.slice (some ⟨b,i*7,none⟩) (n+m-i) P,.slice (some ⟨V,T,none⟩) m N]).run Tryz.prog W = .ok (goInt m) (W.setCells b (i*7) O):=λW d YE Q P =>
  oB W _ _ Q 32 b (i*7) (n+m-i) P ⟨V,T,none⟩ m N O m 7 C K mc hvl
   (λj v hj=>by
    rw[Addr.add_lit,d,I,World.cell?_setCells_out b _ _ _ _ (λh _=>absurd h q)]
    exact M j v hj)
   (λj hj=>by rw[d];exact t _ ZG) (λj hj=>by rw[YE,I,World.frozen?_setCells];exact S _) Gd
 rw[<- I]at f
 go_enter func131,Tryz.ntmps131
 go_wp2_with (simp only[A])
 go_region_law_o (refine xe Z _ _ 30 30 Z _ _ nt nt (f _ _ _) ?_)
 go_wp2_with (at_builtin;refine mZ _ Z _ _ 30 30 Z _ _ Z Z (r _ (λ_=>rfl) (λ_=>rfl) _ _) ?_)
 go_ret
 first|exact⟨Z,Z⟩|exact⟨Z,by rw[I]⟩
set_option maxHeartbeats 4000000 in
set_option maxRecDepth 100000 in
def RT(b n c T S m Q:Nat)(U:L Value)(w:World)(C:0<m)(Y:n+m<=c)
  (hvl:U.length=m*7)(P:∀j,j<c*7->(w.cell? ⟨b,j,none⟩).isSome)(O:∀j,w.frozen? ⟨b,j,none⟩=false)
  (N:∀(j:Nat) v,U[j]?=some v->w.cell? ⟨T,S+j,none⟩=some v)(J:∀v∈U,v.oneCell') :
  Calls Tryz.prog 131 #[.slice (some ⟨b,0,none⟩) n c,.int .i64 n,.slice (some ⟨T,S,none⟩) m Q] w λe I =>
   e = .returned (.slice (some ⟨b,0,none⟩) (n+m) c)/\I=w.setCells b (n*7) U:=by
 have F:=Tryz.underlying30;obtain⟨E,D,B,V,A⟩:=info_parts DD;have mixed:=Tryz.mixed;have z:¬((m:Int)=0):=by omega
 have M:∀K,(Builtin.append_ #[30,30] K #[.slice (some ⟨b,0,none⟩) n c,.slice (some ⟨T,S,none⟩) m Q]).run Tryz.prog w = .ok (.slice (some ⟨b,0,none⟩) (n+m) c) (w.setCells b (n*7) U):=λK=>by
  have:=run_append_room_cells w 30 K 32 E F D b 0 n c ⟨T,S,none⟩ m Q U (by rw[V];exact hvl) (λj u hj=>by rw[Addr.add_lit];exact N j u hj) J Y
   (λj hj=>by rw[V];exact P _ ZG) (λj hj=>O _)
  rw[V,ahr]at this;exact this
 go_enter func131,Tryz.ntmps131
 go_wp2_with (at_builtin;refine Lib.wpList_append_run _ Z _ _ _ _ Z _ _ Z Z _ _ (M _) ?_)
 go_ret
 exact⟨Z,Z⟩
set_option maxHeartbeats 4000000 in
set_option maxRecDepth 100000 in
def RU(b n c vb vo m vc:Nat)(V vs:L Value)(w:World)(C:0<m)(M:n<=c)(Y:c<n+m)(K:(n+m)*112<=140737488355328)
  (J:V.length=n*7)(hvl:vs.length=m*7)
  (P:∀(j:Nat) v,V[j]?=some v->w.cell? ⟨b,j,none⟩=some v)
  (hvs:∀(j:Nat) v,vs[j]?=some v->w.cell? ⟨vb,vo+j,none⟩=some v)(Gd:∀v∈vs,v.oneCell') :
  Calls Tryz.prog 131 #[.slice (some ⟨b,0,none⟩) n c,.int .i64 n,.slice (some ⟨vb,vo,none⟩) m vc] w λe I =>
   e = .returned (.slice (some ⟨w.heap.size,0,none⟩) (n+m) (grownCap w (n+m) c 32)) /\
   I=w.drew.alloc (.cells ((V++vs).toArray++Builtin.zeroCells (Value.agg #[.int .i64 0,.int .i64 0,.int .i64 0,.string ⟨#[]⟩,.slice none 0 0,.slice none 0 0,.slice none 0 0]).cells (grownCap w (n+m) c 32-(n+m))) 32):=by
 have ts:=Tryz.underlying30;obtain⟨O,F,E,U,D⟩:=info_parts DD;have mixed:=Tryz.mixed;have B:¬((m:Int)=0):=by omega
 have T:Src Tryz.prog O.size 30 (.slice (some ⟨vb,vo,none⟩) m vc) m vs w:=by rw[U];exact aha
 have S:(Builtin.firstCells O.size n (.slice (some ⟨b,0,none⟩) n c)).run Tryz.prog w.drew = .ok V.toArray w.drew:=by rw[U];exact run_firstCells_some w.drew 7 n ⟨b,0,none⟩ n c V J (λj v hj=>by rw[Addr.add_lit,ahr];exact P j v hj)
 have Q:∀N,(Builtin.append_ #[30,30] N #[.slice (some ⟨b,0,none⟩) n c,.slice (some ⟨vb,vo,none⟩) m vc]).run Tryz.prog w=_:=λN =>
  run_append_grow_src w 30 30 N 32 O _ ts F E (some ⟨b,0,none⟩) n c V S _ m vs T Y ai (by rw[D];exact growslice_fits Y K)
 go_enter func131,Tryz.ntmps131
 go_wp2_with (at_builtin;refine Lib.wpList_append_run _ Z _ _ _ _ Z _ _ Z Z _ _ (Q _) ?_)
 all_goals (go_ret;exact⟨Z,Z⟩)
set_option maxHeartbeats 4000000 in
set_option maxRecDepth 100000 in
def aa5(b n c i P r m d:Nat)(V U:L Value)(w:World)(hi:i<n)(hm:0<m)(θ:n<=c)(M:c<n+m)(ux:(n+m)*112<=140737488355328)
  (a:V.length=n*7)(hvl:U.length=m*7)
  (K:∀(j:Nat) v,V[j]?=some v->w.cell? ⟨b,j,none⟩=some v)
  (D:∀(j:Nat) v,U[j]?=some v->w.cell? ⟨P,r+j,none⟩=some v)(ω:∀v∈V,v.oneCell')(Gd:∀v∈U,v.oneCell') :
  Calls Tryz.prog 131 #[.slice (some ⟨b,0,none⟩) n c,.int .i64 i,.slice (some ⟨P,r,none⟩) m d] w λe q =>
   ∃G Y,n+m<=G/\G*7<=Y.size/\(∀j,j<i*7->Y[j]?=V[j]?)/\e = .returned (.slice (some ⟨w.heap.size,0,none⟩) (n+m) G) /\
   q=(((w.alloc (.cells Y 32)).drew.setCells w.heap.size (i*7) U).drew).setCells w.heap.size ((i+m)*7) (V.drop (i*7)):=by
 have ts:=Tryz.underlying30;have tn:=Tryz.underlying3;have mixed:=Tryz.mixed;obtain⟨i0,uo,YB,ψ,WE⟩:=info_parts DD;have Ph:¬((m:Int)=0):=by omega
 have YC:¬((i:Int)=(n:Int)):=by omega
 have η:(c:Int)<(n:Int)+(m:Int):=by omega
 have C:(Tryz.prog.info? 32).map (·.size)=some 7:=by kernel_rfl
 have χ:b<w.heap.size:=block_lt_of_cell (K 0 _ (ahl (by rw[a];omega)));have υ:P<w.heap.size:=block_lt_of_cell (D 0 _ (ahl age));have B:(n:Int)+(m:Int)-(i:Int)=((n+m-i:Nat):Int):=by omega
 have J:i+(n+m-i)=n+m:=by omega
 have Hh:(V.take (i*7)).length=i*7:=by rw[ahZ,a];omega
 have O:(Builtin.firstCells i0.size i (.slice (some ⟨b,0,none⟩) i c)).run Tryz.prog w.drew = .ok (V.take (i*7)).toArray w.drew:=by
  rw[ψ]
  exact run_firstCells_some w.drew 7 i ⟨b,0,none⟩ i c (V.take (i*7)) Hh (λj v hj=>by
   rw[Addr.add_lit,ahr];rw[ajl]at hj;split at hj;exact K j v hj
   cases hj)
 obtain⟨N,I⟩:∃N,N=(Value.agg #[.int .i64 0,.int .i64 0,.int .i64 0,.string ⟨#[]⟩,.slice none 0 0,.slice none 0 0,.slice none 0 0]).cells:=⟨_,rfl⟩;have A:N.size=7:=by rw[I];rfl
 have WI:∀k,(Builtin.zeroCells N k).size=k*7:=λk=>by simp[Builtin.zeroCells,A]
 have Q:∀T,(Builtin.append_ #[30,3] T #[.slice (some ⟨b,0,none⟩) i c,.int .i64 ((n:Int)+(m:Int)-(i:Int))]).run Tryz.prog w =
   .ok (.slice (some ⟨w.heap.size,0,none⟩) (n+m) (grownCap w (n+m) c 32)) (w.drew.alloc (.cells ((V.take (i*7)).toArray++Builtin.zeroCells N (n+m-i)++Builtin.zeroCells N (grownCap w (n+m) c 32-(n+m))) 32)):=λT=>by
  have h:=Lib.run_append_grow_zeros w 30 3 T 32 i0 _ .i64 .i64 ts tn uo YB (some ⟨b,0,none⟩) i c (V.take (i*7)) O (n+m-i) ai ai ai ai (by rw[WE];omega) (by rw[WE,J];exact growslice_fits M ux);rw[J,<- I]at h;rw[B];exact h
 obtain⟨G,o⟩:∃G,G=grownCap w (n+m) c 32:=⟨_,rfl⟩;have τ:n+m<=G:=by rw[o];exact grownCap_ge w _ _ _
 obtain⟨Y,f⟩:∃Y:Array Value,Y=(V.take (i*7)).toArray++Builtin.zeroCells N (n+m-i)++Builtin.zeroCells N (G-(n+m)):=⟨_,rfl⟩;rw[<- o]at Q;rw[<- f]at Q;have ζ:Y.size=G*7:=by rw[f,ajr,ajr,WI,WI,aiS,Hh];omega
 have z:∀j,j<i*7->Y[j]?=V[j]?:=λj hj=>by rw[f,aif adw,aif (by rw[aiS,Hh];exact hj)];rw[akc,ajl,if_pos hj]
 obtain⟨S,E⟩:∃S,S=w.drew.alloc (.cells Y 32):=⟨_,rfl⟩;rw[<- E]at Q;have hN:∀j,j<G*7->(S.cell? ⟨w.heap.size,j,none⟩).isSome:=λj hj=>by rw[E,World.cell?_alloc_at (w:=w.drew) Y _ w.heap.size j Z,air ai];rfl
 have y:∀j,S.frozen? ⟨w.heap.size,j,none⟩=false:=λj=>by rw[E];exact World.frozen?_alloc_at (w:=w.drew) Y _ w.heap.size j Z
 have ρ:∀j v,w.cell? ⟨b,j,none⟩=some v->S.cell? ⟨b,j,none⟩=some v:=λj v h=>by rw[E,World.cell?_alloc_past (w:=w.drew) _ b j χ];exact h
 have π:∀j v,w.cell? ⟨P,j,none⟩=some v->S.cell? ⟨P,j,none⟩=some v:=λj v h=>by rw[E,World.cell?_alloc_past (w:=w.drew) _ P j υ];exact h
 have ο:∀(W:World),(∀x,W.cell? x=S.cell? x)->(∀x,W.frozen? x=S.frozen? x)->∀T F,(Builtin.copy_ #[30,30] T #[.slice (some ⟨w.heap.size,i*7,none⟩) (n+m-i) F,.slice (some ⟨P,r,none⟩) m d]).run Tryz.prog W = .ok (goInt m) (W.setCells w.heap.size (i*7) U):=λW u YE T F =>
  oB W _ _ T 32 w.heap.size (i*7) (n+m-i) F ⟨P,r,none⟩ m d U m 7 ts C mc hvl
   (λj v hj=>by rw[Addr.add_lit,u];exact π _ v (D j v hj))
   (λj hj=>by rw[u];exact hN _ ZG) (λj hj=>by rw[YE];exact y _) Gd
 have ε:G<=9223372036854775807:=by have:=grownCap_le_maxLen w (n+m) c 32 (by unfold maxLen;omega);rw[<- o]at this;unfold maxLen at this;omega
 have δ:¬(G=i):=by omega
 have γ:¬(G=i+m):=by omega
 have hci:¬(c=i):=by omega
 have ξ:b≠w.heap.size:=by omega
 have Ge:(V.drop (i*7)).length=(n-i)*7:=by rw[aih,a];omega
 have YG:∀(W:World),(∀x,W.cell? x=(S.setCells w.heap.size (i*7) U).cell? x)->(∀x,W.frozen? x=(S.setCells w.heap.size (i*7) U).frozen? x)->∀T F sc,(Builtin.copy_ #[30,30] T #[.slice (some ⟨w.heap.size,(i+m)*7,none⟩) (n+m-(i+m)) F,.slice (some ⟨b,i*7,none⟩) (n-i) sc]).run Tryz.prog W = .ok (goInt ((n-i:Nat):Int)) (W.setCells w.heap.size ((i+m)*7) (V.drop (i*7))):=λW u YE T F sc =>
  oB W _ _ T 32 w.heap.size ((i+m)*7) (n+m-(i+m)) F ⟨b,i*7,none⟩ (n-i) sc (V.drop (i*7)) (n-i) 7 ts C mc Ge
   (λj v hj=>by
    rw[Addr.add_lit,u,World.cell?_setCells_out _ _ _ _ _ (λh _=>absurd h ξ)]
    exact ρ _ v (K (i*7+j) v ZA))
   (λj hj=>by rw[u];exact dK (λt ht=>hN _ (by rw[hvl]at ht;omega)) (hN _ sH))
   (λj hj=>by rw[YE,World.frozen?_setCells];exact y _) (λv hv=>ω v (aiW hv))
 subst E;have ν:∀x,((w.alloc (.cells Y 32)).drew).cell? x=(w.drew.alloc (.cells Y 32)).cell? x:=λx=>rfl;have μ:∀x,((w.alloc (.cells Y 32)).drew).frozen? x=(w.drew.alloc (.cells Y 32)).frozen? x:=λx=>rfl;have κ:∀x,(((w.alloc (.cells Y 32)).drew.setCells w.heap.size (i*7) U).drew).cell? x=((w.drew.alloc (.cells Y 32)).setCells w.heap.size (i*7) U).cell? x:=λx=>rfl;have ι:∀x,(((w.alloc (.cells Y 32)).drew.setCells w.heap.size (i*7) U).drew).frozen? x=((w.drew.alloc (.cells Y 32)).setCells w.heap.size (i*7) U).frozen? x:=λx=>rfl;have hw1:i64.wrap ((i:Int)+(m:Int))=(i:Int)+(m:Int):=by rw[IntKind.wrap_i64];omega
 have Yj:i64.wrap ((n:Int)+(m:Int))=(n:Int)+(m:Int):=by rw[IntKind.wrap_i64];omega
 have hw3:i64.wrap ((n:Int)+(m:Int)-(i:Int))=(n:Int)+(m:Int)-(i:Int):=by rw[IntKind.wrap_i64];omega
 have DW:(0:Int)<=(i:Int)+(m:Int):=by omega
 have hin:i<=n:=by omega
 have htn:((i:Int)+(m:Int)).toNat=i+m:=by omega
 have hb3:(i:Int)<=(n:Int):=by omega
 clear B J O f o WI I A Hh;refine Calls.mono (R:=λe q=>e = .returned (.slice (some ⟨w.heap.size,0,none⟩) (n+m) G)/\q=(((w.alloc (.cells Y 32)).drew.setCells w.heap.size (i*7) U).drew).setCells w.heap.size ((i+m)*7) (V.drop (i*7))) ?_ ?_;rotate_left;rintro e q ⟨h1,h2⟩;exact⟨G,Y,τ,ai,z,h1,h2⟩;clear z
 go_enter func131,Tryz.ntmps131
 go_wp2_with (first
  |(at_builtin;refine Lib.wpList_append_run _ rfl _ _ _ _ rfl _ _ rfl rfl _ _ (Q _) ?_)
  |(at_builtin;refine mZ _ rfl _ _ 30 30 rfl _ _ rfl rfl (ο _ ν μ _ _) ?_)
  |(at_builtin;refine mZ _ rfl _ _ 30 30 rfl _ _ rfl rfl (YG _ (λ_=>rfl) (λ_=>rfl) _ _ _) ?_))
 go_region_law_o (refine xe Z _ _ 30 30 Z (.slice (some ⟨w.heap.size,(i+m)*7,none⟩) (n+m-(i+m)) (G-(i+m))) (.slice (some ⟨b,i*7,none⟩) (n-i) (c-i)) nt nt (YG _ κ ι 3 (G-(i+m)) (c-i)) ?_)
 go_wp2
 go_ret
 exact⟨Z,Z⟩
set_option maxHeartbeats 1000000 in
def ads(b n c i D z t:Nat)(Y V:L Value)(w:World)(hi:i<=n)(τ:0<n)(r:n<=c)(ux:(n+1)*112<=140737488355328)(O3:D≠b)
  (F:Y.length=n*7)(S:V.length=1*7)
  (N:∀(j:Nat) v,Y[j]?=some v->w.cell? ⟨b,j,none⟩=some v)(P:∀j,j<c*7->(w.cell? ⟨b,j,none⟩).isSome)(J:∀j,w.frozen? ⟨b,j,none⟩=false)
  (I:∀(j:Nat) v,V[j]?=some v->w.cell? ⟨D,z+j,none⟩=some v)(q:∀v∈Y,v.oneCell')(Gd:∀v∈V,v.oneCell') :
  Calls Tryz.prog 131 #[.slice (some ⟨b,0,none⟩) n c,.int .i64 i,.slice (some ⟨D,z,none⟩) 1 t] w λe C =>
   ∃b' M,e = .returned (.slice (some ⟨b',0,none⟩) (n+1) M)/\n+1<=M/\Vs w b C b' (Y.take (i*7)++(V++Y.drop (i*7)))/\∀o,(o<M*7->(C.cell? ⟨b',o,none⟩).isSome)/\C.frozen? ⟨b',o,none⟩=false:=by
 have Hh:(Y.take (i*7)).length=i*7:=by rw[ahZ,F];omega
 have ρ:b<w.heap.size:=block_lt_of_cell (N 0 _ (ahl (by rw[F];omega)));have jW:∀(j:Nat) u,(Y.take (i*7)++(V++Y.drop (i*7)))[j]?=some u->(j<i*7/\Y[j]?=some u)\/(i*7<=j/\j<(i+1)*7/\V[j-i*7]?=some u)\/((i+1)*7<=j/\(Y.drop (i*7))[j-(i+1)*7]?=some u):=by intro j u hj;rw[ajH]at hj;split at hj;rename_i h;rw[Hh]at h;rw[ajl,if_pos h]at hj;exact .inl ⟨h,hj⟩;rename_i h;rw[Hh]at h hj;rw[ajH]at hj;split at hj;rename_i U;rw[S]at U;exact .inr (.inl ⟨ai,ai,hj⟩);rename_i U;rw[S]at U hj;refine .inr (.inr ⟨ai,?_⟩);rwa[show j-(i+1)*7=j-i*7-1*7 by omega]
 have Ge:(Y.drop (i*7)).length=(n-i)*7:=by rw[aih,F];omega
 by_cases he:i=n
 ·subst he;have Pc:Y.drop (i*7)=[]:=aiJ ai;by_cases m:i+1<=c
  ·refine Calls.mono (RT b i c D z 1 t V w ai m S P J I Gd) ?_;rintro e C ⟨B,rfl⟩;obtain⟨k1,k2,k3,k4,f⟩:=fh b V (i*7) w;have d:∀j,j<V.length->(w.cell? ⟨b,i*7+j,none⟩).isSome:=λj hj=>P _ ai;refine⟨b,c,B,m,⟨k2,k3,k4,ai,.inl Z,λj u hj=>?_,λQ _ h=>f Q h⟩,λo=>⟨λy=>dK d (P o y),by rw[World.frozen?_setCells];exact J o⟩⟩;rw[eT d];rcases jW j u hj with ⟨h,K⟩|⟨h,K,U⟩|⟨h,U⟩
   rw[if_neg ai];exact N j u K;rw[if_pos ai];exact U;rw[Pc]at U;simp at U
  refine Calls.mono (RU b i c D z 1 t Y V w ai r ai ux F S N I Gd) ?_;rintro e C ⟨B,rfl⟩;have π:=grownCap_ge w (i+1) c 32;refine⟨_,_,B,grownCap_ge w _ _ _,⟨Z,Z,Z,by simp[World.alloc],.inr (acd _),λj u hj=>?_,λQ h _=>?_⟩,λo=>⟨λy=>?_,World.frozen?_alloc_at (w:=w.drew) _ _ w.heap.size o Z⟩⟩;rotate_left 2
  ·rw[World.cell?_alloc_at (w:=w.drew) _ _ w.heap.size o Z,air (by
    simp only[ajr,aiS,acg,F,S,size_zeroCells,agK]
    omega)];rfl
  ·rw[World.cell?_alloc_at (w:=w.drew) _ _ w.heap.size j rfl];have ω:j<(Y++V).length:=by
    rw[acg,F,S];rcases jW j u hj with ⟨h,K⟩|⟨h,K,U⟩|⟨h,U⟩
    omega;omega;rw[Pc]at U;simp at U
   rw[aif (by rw[aiS];exact ω),akc];rw[Pc,ahq,ajD ai]at hj;exact hj
  show(w.drew.alloc _).heap[Q]?=_;simp only[World.alloc];rw[ajZ (by exact h)];exact(air (xs:=w.heap) h).symm
 have a:i<n:=by omega
 by_cases m:n+1<=c
 ·refine Calls.mono (XX b n c i D z 1 t Y V w a ai m ai O3 F S N P J I q Gd) ?_;rintro e C ⟨B,rfl⟩;obtain⟨k1,k2,k3,k4,f⟩:=fh b (Y.drop (i*7)) ((i+1)*7) w.drew;obtain⟨l1,l2,l3,l4,l5⟩:=fh b V (i*7) (w.drew.setCells b ((i+1)*7) (Y.drop (i*7)));have E:∀j,j<(Y.drop (i*7)).length->(w.drew.cell? ⟨b,(i+1)*7+j,none⟩).isSome:=λj hj=>P _ sH;have oK:∀j,j<V.length->((w.drew.setCells b ((i+1)*7) (Y.drop (i*7))).cell? ⟨b,i*7+j,none⟩).isSome:=λj hj=>dK E (P _ ai);refine⟨b,c,B,m,⟨agj,agl,agm,afY,.inl Z,λj u hj=>?_,λQ _ h=>by rw[l5 Q h,f Q h];rfl⟩,λo=>⟨λy=>dK oK (dK E (P o y)),by rw[World.frozen?_setCells,World.frozen?_setCells];exact J o⟩⟩;rw[eT oK,eT E];rcases jW j u hj with ⟨h,K⟩|⟨h,K,U⟩|⟨h,U⟩
  rw[if_neg ai,if_neg ai];exact N j u K;rw[if_pos ai];exact U;have ψ:j-(i+1)*7<(Y.drop (i*7)).length:=by
   rcases ajK (j-(i+1)*7) (Y.drop (i*7)).length with A|A
   exact A;rw[aiL A]at U;cases U
  rw[if_neg ai,if_pos ai];exact U
 refine Calls.mono (aa5 b n c i D z 1 t Y V w a ai r ai ux F S N I q Gd) ?_;rintro e C ⟨G,x,hG,hR,χ,B,rfl⟩;obtain⟨T,O⟩:∃T,T=(w.alloc (.cells x 32)).drew:=⟨_,rfl⟩;have hN:∀j,j<G*7->(T.cell? ⟨w.heap.size,j,none⟩).isSome:=λj hj=>by rw[O];show((w.alloc (.cells x 32)).cell? ⟨w.heap.size,j,none⟩).isSome;rw[World.cell?_alloc_at (w:=w) x _ w.heap.size j Z,air ai];rfl
 have hC:∀j u,j<i*7->Y[j]?=some u->T.cell? ⟨w.heap.size,j,none⟩=some u:=λj u hj hu=>by rw[O];show(w.alloc (.cells x 32)).cell? ⟨w.heap.size,j,none⟩=some u;rw[World.cell?_alloc_at (w:=w) x _ w.heap.size j Z,χ j hj];exact hu
 have hH:∀Q,Q<w.heap.size->T.heap[Q]?=w.heap[Q]?:=λQ h=>by rw[O];show(w.alloc _).heap[Q]?=_;simp only[World.alloc];rw[ajZ h];exact(air (xs:=w.heap) h).symm
 have hS:T.heap.size=w.heap.size+1:=by rw[O];show(w.heap.push _).size=_;rw[Array.size_push]
 have hO:T.os=w.os/\T.tape=w.tape/\T.output=w.output:=by rw[O];exact⟨Z,Z,Z⟩
 have υ:∀j,T.frozen? ⟨w.heap.size,j,none⟩=false:=λj=>by rw[O];exact World.frozen?_alloc_at (w:=w) x _ w.heap.size j Z
 rw[<- O];obtain⟨k1,k2,k3,k4,f⟩:=fh w.heap.size V (i*7) T;obtain⟨l1,l2,l3,l4,l5⟩:=fh w.heap.size (Y.drop (i*7)) ((i+1)*7) (T.setCells w.heap.size (i*7) V).drew;have E:∀j,j<V.length->(T.cell? ⟨w.heap.size,i*7+j,none⟩).isSome:=λj hj=>hN _ ai;have oK:∀j,j<(Y.drop (i*7)).length->((T.setCells w.heap.size (i*7) V).drew.cell? ⟨w.heap.size,(i+1)*7+j,none⟩).isSome:=λj hj=>by show((T.setCells w.heap.size (i*7) V).cell? _).isSome=true;exact dK E (hN _ sH)
 refine⟨_,_,B,hG,⟨by rw[l2];exact k2.trans hO.1,by rw[l3];exact k3.trans hO.2.1,by rw[l4];exact k4.trans hO.2.2,by rw[l1];show w.heap.size<=(T.setCells w.heap.size (i*7) V).heap.size;rw[k1,hS];omega,.inr (acd _),λj u hj=>?_,λQ h _=>?_⟩,λo=>⟨λy=>dK oK (by
   show((T.setCells w.heap.size (i*7) V).cell? _).isSome
   exact dK E (hN _ y)),by
   rw[World.frozen?_setCells];show(T.setCells w.heap.size (i*7) V).frozen? _=false
   rw[World.frozen?_setCells];exact υ o⟩⟩
 ·rw[eT oK];rcases jW j u hj with ⟨h,K⟩|⟨h,K,U⟩|⟨h,U⟩
  rw[if_neg ai];show(T.setCells w.heap.size (i*7) V).cell? _=_;rw[eT E,if_neg ai];exact hC j u h K;rw[if_neg ai];show(T.setCells w.heap.size (i*7) V).cell? _=_;rw[eT E,if_pos ai];exact U;have ψ:j-(i+1)*7<(Y.drop (i*7)).length:=by
   rcases ajK (j-(i+1)*7) (Y.drop (i*7)).length with A|A
   exact A;rw[aiL A]at U;cases U
  rw[if_pos ai];exact U
 rw[l5 Q ai];show(T.setCells w.heap.size (i*7) V).heap[Q]?=_;rw[f Q ai,hH Q h]
end Go.Proofs
namespace Go.cE
structure MB(c:Nat->List AV)(o:Option (List CV)):Prop where
 conv:∀(ρ:Ren)(ts:List (Nat×Nat))(b b':Nat),(o≠none->ρ.bx b=some b')->fT ρ ts (c b) (c b')
 rn:∀(ψ:Nat->Nat)(b b':Nat),(o≠none->ψ b=b')->SB ψ (c b)=c b'
 ok:∀(us:List Nat)(b:Nat),(o≠none->mem b us=true)->xC us (c b)=true
def bI(c:Nat->Φ):Option (Ψ)->tab
 |none=>[(1000000,c 0)]
 |some f=>[(1000000,c 1000002),(1000002,f.map AV.c)]
def bO(c:Nat->Φ):Option (Ψ)->tab
 |none=>[(1000000,c 0)]
 |some f=>[(1000000,c 999992),(999992,f.map AV.c)]
section
variable {bs:tab}{us:Ω}{c c':Nat->Φ}{f f':Ψ}{km fk a2:Nat}
def ahz(D:MB c none)(O:MB c' none)(Y:au km bs=some (c 0)):HOk bs us (bI c none) (bO c' none) [(1000000,km)] [(km,1000000)] (λ_=>km) [(km,c' 0)]:=by refine⟨rfl,?_,?_,?_,?_,?_,?_,?_⟩;intro k V e;simp only[ak]at e;split at e;simp_all [bI];simp[au]at e;intro ts k U e;simp only[bI,ak]at e;split at e;simp at e;subst_vars;exact⟨km,_,fo,Y,D.conv _ _ _ _ (λh=>absurd rfl h)⟩;simp[au]at e;intro P E e;simp only[ak]at e;split at e;simp at e;subst_vars;exact⟨1000000,c' 0,fo,adg,(O.rn _ _ _ (λh=>absurd rfl h)).symm⟩;simp[au]at e;intro P ok e;simp only[ak]at e;split at e;simp at e;subst_vars;rfl;simp[au]at e;intro k I;have p:=mem_iff.1 I;simp[bO]at p;subst p;exact⟨km,fo⟩;intro P ok e;simp only[ak]at e;split at e;simp at e;subst_vars;exact .inl ⟨acd _,fo,adg⟩;simp[au]at e;intro ok U e;simp only[bO,ak]at e;split at e;simp at e;subst_vars;exact O.ok _ _ (λh=>absurd rfl h);simp[au]at e
def ahA(D:MB c none)(O:MB c' (some f'))(W:km≠a2)(V:mem a2 us=false)(u:a2<1000000)(U:au km bs=some (c 0)):HOk bs us (bI c none) (bO c' (some f')) [(1000000,km)] [(km,1000000),(a2,999992)] (Gf km (a2+1) a2) [(km,c' a2),(a2,f'.map AV.c)]:=by
 refine⟨Z,?_,?_,?_,?_,?_,?_,?_⟩;intro k Y e;simp only[ak]at e;split at e;simp_all [bI];simp[au]at e;intro ts k T e;simp only[bI,ak]at e;split at e;simp at e;subst_vars;exact⟨km,_,fo,U,D.conv _ _ _ _ (λh=>absurd Z h)⟩;simp[au]at e;intro P E e;simp only[ak]at e;split at e;simp at e;subst_vars;exact⟨1000000,c' 999992,fo,adg,(O.rn (Gf _ _ _) 999992 a2 (λ_=>rfl)).symm⟩;split at e;simp at e;subst_vars;exact⟨999992,f'.map AV.c,aeV,adg,afD⟩;simp[au]at e;intro P ok e;simp only[ak]at e;split at e;simp at e;subst_vars;rfl;split at e;simp at e;subst_vars;rfl;simp[au]at e
 ·intro k I;have p:=mem_iff.1 I;simp[bO]at p;rcases p with rfl|rfl
  exact⟨km,fo⟩;exact⟨a2,aeV⟩
 intro P ok e;simp only[ak]at e;split at e;simp at e;subst_vars;exact .inl ⟨acd _,fo,adg⟩;split at e;simp at e;subst_vars;exact .inr ⟨cX V,u⟩;simp[au]at e;intro ok T e;simp only[bO,ak]at e;split at e;simp at e;subst_vars;exact O.ok _ _ (λ_=>rfl);split at e;simp at e;subst_vars;exact vA _ _;simp[au]at e
def ahB(D:MB c (some f))(O:MB c' (some f'))(U:km≠fk)(W:km≠a2)(V:mem a2 us=false)(u:a2<1000000)(S:au km bs=some (c fk))(B:au fk bs=some (f.map AV.c)) :
  HOk bs us (bI c (some f)) (bO c' (some f')) [(1000000,km),(1000002,fk)] [(km,1000000),(a2,999992)] (Gf km (a2+1) a2) [(km,c' a2),(a2,f'.map AV.c)]:=by
 refine⟨by
  have Y:Nat.beq fk km=false:=by
   cases h:Nat.beq fk km with
   |false=>rfl
   |true=>exact absurd (akJ h).symm U
  simp[distinct,mem,Y],?_,?_,?_,?_,?_,?_,?_⟩
 intro k T e;simp only[ak]at e;split at e;simp_all [bI];split at e;simp_all [bI];simp[au]at e;intro ts k N e;simp only[bI,ak]at e;split at e;simp at e;subst_vars;exact⟨km,_,fo,S,D.conv _ _ _ _ (λ_=>by simp[ak])⟩;split at e;simp at e;subst_vars;exact⟨fk,_,fo,B,cO _⟩;simp[au]at e;intro P E e;simp only[ak]at e;split at e;simp at e;subst_vars;exact⟨1000000,c' 999992,fo,adg,(O.rn (Gf _ _ _) 999992 a2 (λ_=>rfl)).symm⟩;split at e;simp at e;subst_vars;exact⟨999992,f'.map AV.c,aeV,adg,afD⟩;simp[au]at e;intro P ok e;simp only[ak]at e;split at e;simp at e;subst_vars;rfl;split at e;simp at e;subst_vars;rfl;simp[au]at e
 ·intro k I;have p:=mem_iff.1 I;simp[bO]at p;rcases p with rfl|rfl
  exact⟨km,fo⟩;exact⟨a2,aeV⟩
 intro P ok e;simp only[ak]at e;split at e;simp at e;subst_vars;exact .inl ⟨acd _,fo,adg⟩;split at e;simp at e;subst_vars;exact .inr ⟨cX V,u⟩;simp[au]at e;intro ok N e;simp only[bO,ak]at e;split at e;simp at e;subst_vars;exact O.ok _ _ (λ_=>rfl);split at e;simp at e;subst_vars;exact vA _ _;simp[au]at e
end
section
variable {P:Program}{X:Ctx}{ops:tal}{o:Oper}{rest:L Oper}{env:Env}{acc:L Fp}{Q:Env->St->L Fp->Prop}{bs:tab}{ts:tad}{us:Ω}
def WW(us:Ω)(km a2:Nat):Bool:=both (match mem a2 us with|true=>false|false=>true) (both (Nat.blt a2 1000000) (match Nat.beq km a2 with|true=>false|false=>true))
def Vy{km a2:Nat}(h:WW us km a2):mem a2 us=false/\a2<1000000/\km≠a2:=by unfold WW at h;obtain⟨Y,h⟩:=eG h;obtain⟨V,B⟩:=eG h;refine⟨by split at Y<;>simp_all,Nat.blt_eq.mp V,?_⟩;intro e;subst e;rw[Nat.beq_refl]at B;cases B
def YS{us Y:Ω}{k:Nat}(h:k∈Y↔k∈us):mem k Y=mem k us:=by rw[aiO,mem_iff,mem_iff];exact h
def ag.afx(kn:Ω)(N:cZ ops.toList kn env o=some true){f:FuncId}{args:tam}{T:Array TypeId}(W:o.op = .call {callee := .value (.func f),args:=args,argTypes:=T})
  {c c':Nat->Φ}{Y:Option (Ψ)}{V:Φ}{r:CV}(z:cA P X f (bI c none) V (.c r) (bO c' Y))(D:MB c none)(O:MB c' Y){d:Nat}(A:o.dst=some d)
  {l:Φ}(E:ir (aJ X env) args.toList=some l){km:Nat}{K:Φ}(y:au km bs=some K)(S:K=c 0)
  (q:∀ts,fT ⟨λk=>au k [(1000000,km)],λ_=>none⟩ ts V l)(M:WW us km (200000+d))
  {F:tab}(J:lK [km] bs=F)
  (G:Y=none->ag P X ops rest ((d,.c r)::env) ⟨(km,c' 0)::F,ts,km::us⟩ (⟨[],[km,km,km]⟩::acc) Q)
  (H:∀f',Y=some f'->ag P X ops rest ((d,.c r)::env) ⟨(km,c' (200000+d))::(200000+d,f'.map AV.c)::F,ts,km::(200000+d)::us⟩ (⟨[],[km,km,200000+d,km,200000+d]⟩::acc) Q) :
  ag P X ops (o::rest) env ⟨bs,ts,us⟩ acc Q:=by
 subst J S;obtain⟨q1,C,B⟩:=Vy M;cases Y with
 |none =>
  have I:=bR.CH (env:=env) (σ:=⟨bs,ts,us⟩) W E z (bx:=[(1000000,km)]) (po:=[(km,1000000)]) (ψ:=λ_=>km) q
   (λx u U p=>ahz D O (jE U cS y)) Z
  exact ag.step (dA N) I (su _ _ _) (by rw[A];exact G Z)
 |some f' =>
  have I:=bR.CH (env:=env) (σ:=⟨bs,ts,us⟩) W E z (bx:=[(1000000,km)]) (po:=[(km,1000000),(200000+d,999992)]) (ψ:=Gf km (200000+d+1) (200000+d)) q
   (λx u U p=>ahA D O B (by rw[YS (p _ cS)];exact q1) C (jE U cS y)) Z
  exact ag.step (dA N) I (su _ _ _) (by rw[A];exact H f' Z)
def ag.afy(kn:Ω)(N:cZ ops.toList kn env o=some true){f:FuncId}{args:tam}{T:Array TypeId}(O:o.op = .call {callee := .value (.func f),args:=args,argTypes:=T})
  {c c':Nat->Φ}{Y W:Ψ}{U:Φ}{r:CV}(z:cA P X f (bI c (some Y)) U (.c r) (bO c' (some W)))(D:MB c (some Y))(u:MB c' (some W)){d:Nat}(A:o.dst=some d)
  {l:Φ}(E:ir (aJ X env) args.toList=some l){km fk:Nat}{V J:Φ}(y:au km bs=some V)(M:V=c fk)(B:au fk bs=some J)(I:J=Y.map AV.c)
  (q:∀ts,fT ⟨λk=>au k [(1000000,km),(1000002,fk)],λ_=>none⟩ ts U l)(H:WW us km (200000+d))(K:Nat.beq km fk=false)
  {F:tab}(G:lK [km,fk] bs=F)
  (C:ag P X ops rest ((d,.c r)::env) ⟨(km,c' (200000+d))::(200000+d,W.map AV.c)::F,ts,km::(200000+d)::us⟩ (⟨[],[km,fk,km,200000+d,km,200000+d]⟩::acc) Q) :
  ag P X ops (o::rest) env ⟨bs,ts,us⟩ acc Q:=by
 subst G M I;obtain⟨q1,p,x⟩:=Vy H;have t:km≠fk:=by rintro rfl;rw[Nat.beq_refl]at K;cases K
 have m:=bR.CH (env:=env) (σ:=⟨bs,ts,us⟩) O E z (bx:=[(1000000,km),(1000002,fk)]) (po:=[(km,1000000),(200000+d,999992)]) (ψ:=Gf km (200000+d+1) (200000+d)) q
  (λPG tc S j=>ahB D u t x (by rw[YS (j _ cS)];exact q1) p (jE S cS y) (jE S cS B)) Z
 exact ag.step (dA N) m (su _ _ _) (by rw[A];exact C)
def bR.GD(hX:cI P X){o:Oper}{env:Env}{σ:St}{t:TypeId}{x Y:Operand}(W:o.op = .indexAddr t x Y){i j:TI}{n e:Nat}(O:X.ti t=some i)(I:i.kind = .arr n e)(N:X.ti e=some j)
  {F:Ψ}(M:aJ X env x=some (.c (.ip F))){k:IntKind}{z:Int}(J:aJ X env Y=some (.c (.int k z))){m:Nat}(C:z=m)(T:m<n){r:Ψ}(A:F.drop (m*j.size)=r):bR P X o env σ (.c (.ip r)) (λσ=>σ) ⟨[],[]⟩:=by
 refine bR.val λS w g H D jH B Q=>?_;have u:aJ X S x=some (.c (.ip F)):=by rw[D x afm];exact M
 have q:aJ X S Y=some (.c (.int k z)):=by rw[D Y afm];exact J
 have E:=cz (a:=H) Q B u;simp only[aX,Rel]at E;obtain⟨b,p,y,V⟩:=E;have e4:=zg (cz (a:=H) Q B q);obtain⟨d,kV,G,_⟩:=hX.run_underlying (w:=w) O;rw[I]at G;simp only[jX]at G;subst G;refine⟨.pointer (some ⟨b,p+m*j.size,none⟩),?_,?_⟩;obtain⟨ω,op,K,pos,U,guard⟩:=o;simp only at W;subst W;simp[execOp,y,e4,C,Instr.indexAt,asIntOf,kV,Instr.sureAddr,T,hX.run_sizeOf N,Addr.add_lit];simp only[aX,Rel];exact⟨b,_,Z,by rw[<- A];exact dS.drop V⟩
def ag.GD(hX:cI P X)(kn:Ω){σ:St}(N:cZ ops.toList kn env o=some true){t:TypeId}{x Y:Operand}(W:o.op = .indexAddr t x Y){d:Nat}(A:o.dst=some d){i j:TI}{n e:Nat}(H:X.ti t=some i)(I:i.kind = .arr n e)(G:X.ti e=some j)
  {O:Ψ}(V:aJ X env x=some (.c (.ip O))){k:IntKind}{z:Int}(U:aJ X env Y=some (.c (.int k z))){m:Nat}(S:z=m)(T:m<n){r:Ψ}(C:O.drop (m*j.size)=r)
  (k:ag P X ops rest ((d,.c (.ip r))::env) σ (⟨[],[]⟩::acc) Q):ag P X ops (o::rest) env σ acc Q :=
 ag.step (dA N) (bR.GD (σ:=σ) hX W H I G V U S T C) (jf.id []) ob
def cA.imp{P:Program}{X:Ctx}{f:FuncId}{Y I:tab}{U:Φ}{r H:AV}(V:∀g u,aX g r u->aX g H u)(q:cA P X f Y U r I):cA P X f Y U H I:=by unfold cA at q ⊢;exact⟨q.1,λg w S O N B=>Calls.mono (q.2 g w S O N B) λe M ⟨u,T,A,Q,K⟩=>⟨u,T,A,V T u Q,K⟩⟩
end
end Go.cE
