/- A part of the proof. -/
import Derived.Calls
import Derived.Laws.Cells
import Derived.Laws.Entries
import Derived.Laws.Strings
import Derived.Orders
set_option linter.all false
set_option maxRecDepth 100000
namespace Go.cE
def ahj:=@List.mem_append
def ahk:=@List.cons_append
def ahl:=@List.getElem?_eq_getElem
def ahm:=@congrArg
def aho:=@List.drop_length
def ahp:=@Nat.zero_le
def ahq:=@List.append_nil
def ahr:=@Nat.zero_add
def ahw:=@Nat.le_of_ble_eq_true
def ahx:=@List.sizeOf_lt_of_mem
def ahG:=@of_decide_eq_true
def ahI:=@Decidable.not_not
def ahM:=@List.map_cons
def ahS:=@Int.le_refl
def ahT:=@Bool.false_and
def ahY:=@List.length_map
def ahZ:=@List.length_take
def aib:=@List.map_append
def aid:=@Nat.lt_succ_self
def aie:=@List.append_assoc
def aif:=@Array.getElem?_append_left
def aih:=@List.length_drop
def aim:=@List.mem_cons
def aip:=@Decidable.byContradiction
def aiq:=@Nat.le_trans
def air:=@Array.getElem?_eq_getElem
def ait:=@List.mem_singleton
def aiu:=@Array.toList_append
def aiw:=@Bool.or_eq_false_iff
def aix:=@List.mem_cons_of_mem
def aiC:=@List.getD_eq_getElem?_getD
def aiD:=@List.take_append_drop
def aiI:=@Nat.add_zero
def aiJ:=@List.drop_eq_nil_of_le
def aiK:=@List.all_cons
def aiL:=@List.getElem?_eq_none
def aiM:=@Bool.true_and
def aiO:=@Bool.eq_iff_iff
def aiP:=@decide_eq_true_eq
def aiQ:=@if_false
def aiR:=@List.nil_append
def aiS:=@List.size_toArray
def aiV:=@Int.eq_ofNat_of_zero_le
def aiW:=@List.mem_of_mem_drop
def aja:=@Nat.lt_of_lt_of_le
def ajd:=@Nat.blt_eq
def aje:=@List.drop_succ_cons
def ajf:=@Array.getD_eq_getD_getElem?
def ajl:=@List.getElem?_take
def ajp:=@Array.toList_map
def ajr:=@Array.size_append
def ajy:=@Bool.and_true
def ajz:=@Nat.succ_le_succ
def ajA:=@decide_eq_false_iff_not
def ajB:=@Option.some.injEq
def ajC:=@beq_eq_false_iff_ne
def ajD:=@List.take_of_length_le
def ajE:=@List.zipIdx_cons
def ajF:=@List.drop_eq_getElem_cons
def ajG:=@Nat.mul_le_mul_right
def ajH:=@List.getElem?_append
def ajI:=@List.reverse_reverse
def ajJ:=@List.all_append
def ajK:=@Nat.lt_or_ge
def ajL:=@List.take_succ_cons
def ajM:=@Nat.add_mul
def ajN:=@List.eq_nil_of_length_eq_zero
def ajO:=@List.all_eq_true
def ajP:=@Prod.mk.injEq
def ajQ:=@List.getElem?_of_mem
def ajR:=@List.mem_of_mem_take
def ajS:=@List.drop_zero
def ajT:=@Nat.le_succ
def ajU:=@List.length_eq_zero_iff
def ajV:=@Bool.false_or
def ajW:=@List.mem_cons_self
def ajX:=@List.getElem?_cons_zero
def ajY:=@List.set_cons_succ
def ajZ:=@Array.getElem?_push_lt
def aka:=@cond_false
def akb:=@and_true
def akc:=@List.getElem?_toArray
def akd:=@Nat.mod_eq_of_lt
def ake:=@List.pairwise_append
def akf:=@Nat.add_assoc
def akg:=@cond_true
def aki:=@Option.map_some
def akj:=@List.length_set
def akk:=@List.getElem?_append_right
def akl:=@Int.fdiv_eq_ediv_of_nonneg
def ako:=@Int.tmod_lt_of_pos
def akp:=@List.getElem?_drop
def akq:=@List.getElem?_append_left
def akr:=@Array.mapM_eq_mapM_toList
def aks:=@bne_self_eq_false
def akt:=@List.reverse_cons
def aku:=@Bool.not_eq_false
def akx:=@List.any_cons
def aky:=@List.getElem?_cons_succ
def akz:=@Nat.le_mul_of_pos_right
def akE:=@Bool.and_self
def akF:=@List.getElem_mem
def akG:=@Option.getD_some
def akI:=@List.getElem?_set_self
def akJ:=@Nat.eq_of_beq_eq_true
def akN:=@UInt8.lt_iff_toNat_lt
def akO:=@beq_iff_eq
def akP:=@Nat.pow_le_pow_right
def akQ:=@Array.getElem?_push
def akS:=@List.reverse_append
def akV:=@Nat.add_sub_cancel
def akW:=@List.pairwise_cons
def akX:=@Bool.not_eq_true'
def akY:=@Nat.succ_mul
def akZ:=@Nat.and_two_pow_sub_one_eq_mod
def ald:=@List.take_length
def ale:=@Array.getElem?_setIfInBounds
def alf:=@Nat.min_eq_left
def alg:=@Int.natAbs_tdiv_le_natAbs
def alh:=@List.mapM_cons
def ali:=@Bool.and_assoc
def aln:=@bne_iff_ne
def alo:=@Int.mul_assoc
def alr:=@List.getD_nil
def als:=@Option.bind_eq_some_iff
def alu:=@List.mem_map
def alv:=@Array.mem_toList_iff
theorem Z{Y}{a:Y}:a=a:=rfl
abbrev L:=@List
abbrev Δ:=L UInt8
abbrev Ω:=L Nat
abbrev tad:=L (Nat×Nat)
abbrev tal:=Array Oper
abbrev tam:=Array Operand
def ai{p:Prop}(h:p:=by omega):p:=h
def bn{p:Prop}(h:p:=by decide):p:=h
def bT{p:Prop}(h:p:=by show List.length q<=_;omega):p:=h
def cS{p:Prop}(h:p:=by simp):p:=h
def ek{p:Prop}(h:p:=by simp only[aat];omega):p:=h
def ew{p:Prop}(h:p:=by assumption):p:=h
def fc{p:Prop}(h:p:=by simp only[fV,eY,gF,jy,jZ,aH];omega):p:=h
def fe{p:Prop}(h:p:=by show args.length-(i+1)<args.length-i;omega):p:=h
def fo{p:Prop}(h:p:=by simp[ak]):p:=h
def ga{p:Prop}(h:p:=by show l.length-(i+1)<l.length-i;omega):p:=h
def gb{p:Prop}(h:p:=by show List.length (aO Y U::aO V W::q)<=_;simp only[aat];omega):p:=h
def gn{p:Prop}(h:p:=by unfold bL;omega):p:=h
def gr{p:Prop}(h:p:=by simp only[fV,eY,gF,aH];omega):p:=h
def gE{p:Prop}(h:p:=by simp[Op.operands]):p:=h
def gM{p:Prop}(h:p:=by show List.length (aO 3 n::q)<=_;simp only[aat];omega):p:=h
def j0{p:Prop}(h:p:=by simp only[bh,bf];omega):p:=h
def lf{p:Prop}(h:p:=by rw[ho];simp[Op.operands]):p:=h
def mc{p:Prop}(h:p:=by simp only[Nat.min_def];split<;>omega):p:=h
def mY{p:Prop}(h:p:=by have:=h1.ok.Fs;show((dG w x).2.made.length)<=(dG w x).2.done+1+1;omega):p:=h
def nt{p:Prop}(h:p:=by simp[Act.eval,Act.put]):p:=h
def nu{p:Prop}(h:p:=by simpa using h):p:=h
def ob{p:Prop}(h:p:=by rw[A];exact k):p:=h
def oe{p:Prop}(h:p:=by simp;omega):p:=h
def ot{p:Prop}(h:p:=by have:=h1.done;have:=D.done;show 0<=(dG w x).2.done+1/\(dG w x).2.done+1<=24;omega):p:=h
def oy{p:Prop}(h:p:=by show List.length (aO 2 n::aO 2 W::q)<=_;simp only[aat];omega):p:=h
def p8{p:Prop}(h:p:=by have:=h1.done;have:=q.done;show 0<=(dG w ⟨src,some o,jl⟩).2.done+1/\(dG w ⟨src,some o,jl⟩).2.done+1<=24;omega):p:=h
def qv{p:Prop}(h:p:=by have:=bp O;omega):p:=h
def qO{p:Prop}(h:p:=by simp[eqGuard_at_pointer,qA,qB,mw C,run_equal_nil_nil C]):p:=h
def ri{p:Prop}(h:p:=by simp[h]):p:=h
def rj{p:Prop}(h:p:=by simp[aX,Rel]):p:=h
def sx{p:Prop}(h:p:=by have:=h1.ok.Fs;show((dG w ⟨src,some o,jl⟩).2.made.length)<=(dG w ⟨src,some o,jl⟩).2.done+1+1;omega):p:=h
def sy{p:Prop}(h:p:=by have:=dV O;omega):p:=h
def sH{p:Prop}(h:p:=by rw[Ge]at hj;omega):p:=h
def ta{p:Prop}(h:p:=by rw[ho];simp only[Op.operands,Call.operands,aiu,ahj];exact .inr hx):p:=h
def u6{p:Prop}(h:p:=by show List.length (Vl.mk 6 0 0 P [] [] [] :: .mk 6 0 0 p [] [] []::q)<=_;simp only[aat];omega):p:=h
def u7{p:Prop}(h:p:=by simp only;omega):p:=h
def xj{p:Prop}(h:p:=by show List.length (aO 5 U::aO 5 W::q)<=_;simp only[aat];omega):p:=h
def yd{p:Prop}(h:p:=by simp only[acg,aat,aav];omega):p:=h
def zw{p:Prop}(h:p:=by rw[hd];exact k):p:=h
def Bc{p:Prop}(h:p:=by simp only[az,aat];omega):p:=h
def By{p:Prop}(h:p:=by simp only[Kl,Ft,je];rfl):p:=h
def C1{p:Prop}(h:p:=by simp only[GA];exact⟨Wk.refl _,by unfold Wk;exact .inr ⟨Z,Z⟩,trivial⟩):p:=h
def DE{p:Prop}(h:p:=by show List.length (aU x y::q)<=_;simp only[aat];omega):p:=h
def FC{p:Prop}(h:p:=by have:=(O (.mk T us) (by simp)).2;omega):p:=h
def Gq{p:Prop}(h:p:=by show cD φ q s<=_;simp only[cD];omega):p:=h
def Hg{p:Prop}(h:p:=by have:=bp hx;omega):p:=h
def JJ{p:Prop}(h:p:=by show List.length (v::q)<=_;simp only[aat];omega):p:=h
def Ko{p:Prop}(h:p:=by simp[O]):p:=h
def K0{p:Prop}(h:p:=by simpa only[aX]using h2):p:=h
def N2{p:Prop}(h:p:=by rw[<- E];exact akf _ _ _):p:=h
def Ql{p:Prop}(h:p:=by have:=J.2;simp only[cr,aG,aH,bf,aP,aav];omega):p:=h
def QH{p:Prop}(h:p:=by show List.length (Vl.mk 6 0 0 P [] [] []::q)<=_;simp only[aat];omega):p:=h
def Rl{p:Prop}(h:p:=by simpa using G):p:=h
def RR{p:Prop}(h:p:=by show List.length (Vl.mk V U Q P Y H B::q)<=_;simp only[aat];omega):p:=h
def T0{p:Prop}(h:p:=by unfold jm;rw[if_pos (by omega)]):p:=h
def UK{p:Prop}(h:p:=by rfl):p:=h
def UZ{p:Prop}(h:p:=by simp only[aat,aav];omega):p:=h
def VK{p:Prop}(h:p:=by simpa using h2):p:=h
def Wb{p:Prop}(h:p:=by rw[ho];simp only[Op.operands,alu];exact⟨p,hp,Z⟩):p:=h
def Wl{p:Prop}(h:p:=by unfold jm;rw[ja yG,ja Hv,if_neg (by omega),if_pos (by omega)]):p:=h
def WT{p:Prop}(h:p:=by show dj s q.reverse.reverse;rw[ajI];exact hq):p:=h
def W9{p:Prop}(h:p:=by show 0≠14;decide):p:=h
def YN{p:Prop}(h:p:=by show st.length<=_;omega):p:=h
def YP{p:Prop}(h:p:=by have:=cN (l:=[u,u']) (x:=w) (by simp at D ⊢;simp[D]);omega):p:=h
def Y8{p:Prop}(h:p:=by show((acc++[_]).length)<=E;simp only[acg,aat,aav];omega):p:=h
def ZA{p:Prop}(h:p:=by rwa[akp]at hj):p:=h
def ZG{p:Prop}(h:p:=by rw[hvl]at hj;omega):p:=h
def ZI{p:Prop}(h:p:=by rw[ho];simp[Op.operands,Call.operands]):p:=h
def ZK{p:Prop}(h:p:=by have:=(N (.mk T us) (by simp)).2;omega):p:=h
def aaa{p:Prop}(h:p:=by show List.length st<=_;omega):p:=h
def aab{p:Prop}(h:p:=by have:=(ahG h.1).2;omega):p:=h
def aap{p:Prop}(h:p:=by simp[CV.cells,CV.one]):p:=h
def aaJ{p:Prop}(h:p:=by show w.bC-r.bC+(w.used+r.bC)=_;omega):p:=h
def aaT{p:Prop}(h:p:=by show 25<=k+(w'.done+1);push_cast at hk;omega):p:=h
def aaV{p:Prop}(h:p:=by have:=W.done;show 25<=(25:Nat)+M.done;omega):p:=h
def ab0{p:Prop}(h:p:=by have:=H.Fs;show w'.made.length<=w'.done+1+1;omega):p:=h
def ab4{p:Prop}(h:p:=by rw[eO]):p:=h
def ab5{p:Prop}(h:p:=by show b≠w.heap.size;omega):p:=h
def ab6{p:Prop}(h:p:=by have:=bp O;show args.length-(i+1)<args.length-i;omega):p:=h
def ab7{p:Prop}(h:p:=by unfold Wk;exact .inr ⟨Z,Z⟩):p:=h
def ab8{p:Prop}(h:p:=by have:=eS O;omega):p:=h
def ab9{p:Prop}(h:p:=by simp only[aat]at yF;omega):p:=h
def acz{p:Prop}(h:p:=by simp only[acg,aat]at E ⊢;push_cast at E ⊢;omega):p:=h
def acB{p:Prop}(h:p:=by rw[acg,aat,ahZ,aih];omega):p:=h
def acC{p:Prop}(h:p:=by show bU (G.drop G.length) (t::s,false)=_;rw[ua];rfl):p:=h
def acP{p:Prop}(h:p:=by simp only[bh];omega):p:=h
def acT{p:Prop}(h:p:=by simp only[aG];omega):p:=h
def ac1{p:Prop}(h:p:=by rw[acy];omega):p:=h
def ac9{p:Prop}(h:p:=by simp only[Kl,Ft,je]):p:=h
def adg{p:Prop}(h:p:=by simp[bO,ak]):p:=h
def adh{p:Prop}(h:p:=by have:=W.done;show(1:Nat)<=25+24*M.done;omega):p:=h
def adl{p:Prop}(h:p:=by show(25-(w'.done+1)).toNat<(25-w.done).toNat;omega):p:=h
def adq{p:Prop}(h:p:=by simp[aL,aQ]):p:=h
def adv{p:Prop}(h:p:=by show 12-(i+1)<12-i;omega):p:=h
def adw{p:Prop}(h:p:=by rw[ajr,aiS,Hh];omega):p:=h
def adx{p:Prop}(h:p:=by simp[h1]):p:=h
def ady{p:Prop}(h:p:=by have:=ahm List.length hq;simp at this;omega):p:=h
def adz{p:Prop}(h:p:=by show bU (G.drop G.length) (s,false)=_;rw[ua];rfl):p:=h
def adB{p:Prop}(h:p:=by rw[acg,ahZ,aih];omega):p:=h
def adT{p:Prop}(h:p:=by show w.used<=w.used+r.bC;omega):p:=h
def adV{p:Prop}(h:p:=by have:=(List.getElem?_eq_some_iff.1 hy).1;omega):p:=h
def adX{p:Prop}(h:p:=by simpa only[aX]using h1):p:=h
def ad1{p:Prop}(h:p:=by rw[if_neg (by omega)];exact h6):p:=h
def ael{p:Prop}(h:p:=by decide +kernel):p:=h
def aeo{p:Prop}(h:p:=by simp only[aG,aH];omega):p:=h
def aep{p:Prop}(h:p:=by rw[bq];unfold bL;omega):p:=h
def aeq{p:Prop}(h:p:=by show(jd b.src (mF l b) b.ops).2.used<=_;omega):p:=h
def aet{p:Prop}(h:p:=by simp only[aG,bf,aP,aav];omega):p:=h
def aeu{p:Prop}(h:p:=by show s.length+cV G<=340;omega):p:=h
def aew{p:Prop}(h:p:=by simp only[okB,fD];rfl):p:=h
def aex{p:Prop}(h:p:=by simp at D ⊢;simp[D]):p:=h
def aey{p:Prop}(h:p:=by simp[bh,bf]):p:=h
def aeD{p:Prop}(h:p:=by simp only[aat,aav]at *;omega):p:=h
def aeE{p:Prop}(h:p:=by simpa using V):p:=h
def aeF{p:Prop}(h:p:=by simp only[acg,aat,aav,ajS];omega):p:=h
def aeI{p:Prop}(h:p:=by simp[Rel]):p:=h
def aeK{p:Prop}(h:p:=by show acc.length<=i+1;omega):p:=h
def aeL{p:Prop}(h:p:=by simp[Builtin.len_,C,goInt]):p:=h
def aeN{p:Prop}(h:p:=by subst hy;simp[Op.operands]):p:=h
def aeO{p:Prop}(h:p:=by rw[mE];rfl):p:=h
def aeQ{p:Prop}(h:p:=by rw[JB];simp only[cD];omega):p:=h
def aeR{p:Prop}(h:p:=by rw[ahZ];omega):p:=h
def aeS{p:Prop}(h:p:=by split at h1<;>omega):p:=h
def aeT{p:Prop}(h:p:=by simp only[Kl,Ft,je]<;>rfl):p:=h
def aeV{p:Prop}(h:p:=by simp[ak,Ne.symm W]):p:=h
def ae2{p:Prop}(h:p:=by simpa using h1):p:=h
def ae3{p:Prop}(h:p:=by show i+1<=12;omega):p:=h
def ae4{p:Prop}(h:p:=by simp only[aat]at E;omega):p:=h
def ae5{p:Prop}(h:p:=by simp[hargs]):p:=h
def afg{p:Prop}(h:p:=by unfold nB at rZ;exact rZ):p:=h
def afh{p:Prop}(h:p:=by show 0<=u+1;omega):p:=h
def afk{p:Prop}(h:p:=by show u+1<=g;omega):p:=h
def afl{p:Prop}(h:p:=by simpa using u):p:=h
def afm{p:Prop}(h:p:=by rw[W];simp[Op.operands]):p:=h
def afr{p:Prop}(h:p:=by simpa using c):p:=h
def afu{p:Prop}(h:p:=by simp only[bE,aav];omega):p:=h
def afv{p:Prop}(h:p:=by simp[C]):p:=h
def afD{p:Prop}(h:p:=by rw[Bm]):p:=h
def afG{p:Prop}(h:p:=by simpa only[aX]using h3):p:=h
def afL{p:Prop}(h:p:=by rw[P];simp):p:=h
def afR{p:Prop}(h:p:=by rw[h1,A];rfl):p:=h
def afW{p:Prop}(h:p:=by simp[g']):p:=h
def afY{p:Prop}(h:p:=by rw[l1,k1];exact acd _):p:=h
def af0{p:Prop}(h:p:=by show w.bC<=3000;omega):p:=h
def af1{p:Prop}(h:p:=by rw[Tu];exact n4):p:=h
def af2{p:Prop}(h:p:=by simp only[acg];omega):p:=h
def aga{p:Prop}(h:p:=by simp[G]):p:=h
def agc{p:Prop}(h:p:=by simp[V]):p:=h
def age{p:Prop}(h:p:=by rw[hvl];omega):p:=h
def agj{p:Prop}(h:p:=by rw[l2,k2];rfl):p:=h
def agl{p:Prop}(h:p:=by rw[l3,k3];rfl):p:=h
def agm{p:Prop}(h:p:=by rw[l4,k4];rfl):p:=h
def ags{p:Prop}(h:p:=by simpa using S):p:=h
def agu{p:Prop}(h:p:=by rw[<- Y]):p:=h
def agx{p:Prop}(h:p:=by simp[J]):p:=h
def agy{p:Prop}(h:p:=by exact AK.again (S (i+1,IntKind.i64.wrap (I+rc),mx M rg) ⟨h2,W⟩ (by show l.length-(i+1)<l.length-i;omega)) ⟨.inl (dz (i:=i) (by omega)),.inl Z,.inl Z,.inl Z,.inl Z,.inl Z,.inl Z,.inl Z,trivial⟩ ⟨Z,Z,trivial⟩ trivial Z Z Z):p:=h
def agB{p:Prop}(h:p:=by exact AK.again (ih (i+1,M+r) ⟨h2,by rw[<- E];exact akf _ _ _⟩ (by show l.length-(i+1)<l.length-i;omega)) ⟨.inl (dz (i:=i) (by omega)),.inl Z,.inl Z,.inl hw,.inl Z,.inl Z,.inl Z,.inl Z,trivial⟩ ⟨Z,Z,Z,trivial⟩ trivial Z Z Z):p:=h
def agC{p:Prop}(h:p:=by exact AK.again D ⟨.inl Z,.inl Z,.inl Z,.inl Z,.inl (dz (i:=k) (by omega)),trivial⟩ ⟨Z,Z,trivial⟩ trivial Z (gh Z Z (gh Z (fD _ _) Z)) Z):p:=h
def agG{p:Prop}(h:p:=by exact AK.again (ih (i+1) ⟨bp hx,hinv⟩ (by have:=bp hx;omega)) ⟨.inl (dz (by have:=bp hx;omega)),.inl Z,.inl Z,.inl Z,trivial⟩ trivial trivial Z Z Z):p:=h
def agH{p:Prop}(h:p:=by exact AK.again ih2 ⟨.inl (dz (i:=j) (by omega)),.inl Z,.inl Z,trivial⟩ ⟨Z,trivial⟩ trivial (by simp only[Kl,Ft,je];rfl) (by simp only[okB,fD];rfl) Z):p:=h
def agP{p:Prop}(h:p:=by exact AK.again D ⟨.inl (dz (i:=i) (by omega)),.inl Z,.inl w1,.inl w2,.inl Z,.inl Z,.inl Z,trivial⟩ ⟨Z,Z,Z,trivial⟩ trivial (by simp only[Kl,Ft,je];rfl) (gh Z (fD _ _) (gh Z (fD _ _) Z)) Z):p:=h
def agY{p:Prop}(h:p:=by exact AK.again D ⟨.inl (dz (i:=i) (by omega)),.inl Z,.inl Z,.inl Z,.inl Z,trivial⟩ trivial trivial (by simp only[Kl,Ft,je]) Z Z):p:=h
def agZ{p:Prop}(h:p:=by exact ih (i+1,acc++[(Vl.mk 11 0 0 [] q [] [])],false) ⟨h2,by simp[J],W,(by simpa using V)⟩ (by show args.length-(i+1)<args.length-i;omega)):p:=h
def ag6{p:Prop}(h:p:=by exact AK.again (ih (i+1) ⟨h2,W⟩ (by omega)) ⟨.inl (dz (i:=i) (by omega)),.inl Z,.inl Z,trivial⟩ trivial trivial Z Z Z):p:=h
def ag8{p:Prop}(h:p:=by exact bG (iE (eA (by simp only[bh,bf];omega) (λt h=>V t (by simp[h])))) (bZ _)):p:=h
def aha{p:Prop}(h:p:=by exact Src.ofSlice w ts ⟨vb,vo,none⟩ m vc vs hvl (λj u hj=>by rw[Addr.add_lit];exact hvs j u hj) Gd):p:=h
def ahb{p:Prop}(h:p:=by exact absurd (C.symm.trans h1) (by decide)):p:=h
def ahc{p:Prop}(h:p:=by exact λk n b lo hi h1 h2 => .inr ⟨k,n,lo,hi,h1,h2,acd _,acd _⟩):p:=h
def ahd{p:Prop}(h:p:=by exact VZ hf Z Z Z Z Z Z Z Z Z):p:=h
def ahe{p:Prop}(h:p:=by exact ag.step (dA N) hs (su _ _ _) (by rw[A];exact k)):p:=h
def ahf{p:Prop}(h:p:=by exact ahm (λl=>[LV.own 1 l]) (b9 rows acc _ _ (by rw[kE _ (by omega)]))):p:=h
def ahg{p:Prop}(h:p:=by exact ag.step (dA N) I (su _ _ _) (by rw[A];exact k)):p:=h
def ahh{p:Prop}(h:p:=by exact AK.Bh Tryz.hX hf (l:=[.own .exact 7 []]) Z [] Z Z trivial):p:=h
def ahi{p:Prop}(h:p:=by exact cA.of hf U W I env _ (by rw[<- Q,GF]) Z λβ=>k β hf):p:=h
def aat{Y:Type}{a}{l:List Y}:(a::l).length=l.length+1:=List.length_cons
def aav{Y:Type}:([]:List Y).length=0:=List.length_nil
def aaw{Y:Type}{a l}{d:Y}:(a::l).getD 0 d=a:=List.getD_cons_zero
def aay{Y:Type}{a l n}{d:Y}:(a::l).getD (n+1) d=l.getD n d:=List.getD_cons_succ
def aaI(a b):((a&&b)=true)=(a=true/\b=true):=Bool.and_eq_true a b
def acd(n:Nat):n<=n:=Nat.le_refl n
def ace{p}[Decidable p](h:p):decide p:=decide_eq_true h
def acf{p}[Decidable p](h:¬p):decide p=false:=decide_eq_false h
def acg{Y:Type}{a b:List Y}:(a++b).length=a.length+b.length:=List.length_append
def acm{Y:Type}{l:List Y}{i:Nat}{a}(h:l[i]?=some a):a∈l:=List.mem_of_getElem? h
def acn(n:Nat):((n:Int)).toNat=n:=Int.toNat_natCast n
def acy{Y:Type}{l:List Y}:l.reverse.length=l.length:=List.length_reverse
inductive CV where
 |int (k:IntKind) (n:Int)
 |bool (b:Bool)
 |str (s:List UInt8)
 |nL
 |undef
 |sl (s:Nat) (rows:List CV)
 |agg (cs:List CV)
 |ip (cs:List CV)
 |sX (f:FuncId) (caps:List CV)
 |eK (cs:List CV)
 |any
 |wC
 deriving Inhabited
abbrev Ψ:=L CV
def CV.cells:CV->Ψ
 |.agg Y=>Y
 |v=>[v]
def CV.one:CV->Bool
 |.agg _ | .eK _ | .undef=>false
 |_=>true
abbrev lB:=Nat->Nat->Option Value
mutual
def Rel(G:lB):CV->Value->Prop
 |.int k n,v=>v = .int k n
 |.bool b,v=>v = .bool b
 |.str s,v=>v = .string ⟨s.toArray⟩
 |.nL,v=>v = .pointer none
 |.undef,v=>v=Go.undef
 |.sl s U,v=>∃S Y T,v = .slice S Y T/\Y=U.length/\Y<=T /\
   (U=[]\/∃b o,S=some ⟨b,o,none⟩/\ig G s b o U)
 |.agg Q,v=>∃V:L Value,v = .agg V.toArray/\cy G Q V/\Q.all CV.one
 |.ip Q,v=>∃b o,v = .pointer (some ⟨b,o,none⟩)/\dS G b o Q
 |.sX f C,v=>∃V:L Value,v = .func (.func f) #[] V.toArray/\cy G C V
 |.eK Q,v=>∃V:L Value,v = .tuple V.toArray/\cy G Q V/\2<=Q.length
 |.any,v=>(∀V,v ≠ .agg V)/\∀V,v ≠ .tuple V
 |.wC,v=>∃x,v = .bool x
def cy(G:lB):Ψ->L Value->Prop
 |[],Y=>Y=[]
 |c::cs,Y=>∃u V,Y=u::V/\Rel G c u/\cy G cs V
def dS(G:lB):Nat->Nat->Ψ->Prop
 |_,_,[]=>True
 |b,o,c::cs=>(∃u,G b o=some u/\Rel G c u/\c.one)/\dS G b (o+1) cs
def rK(G:lB):Nat->Nat->CV->Prop
 |b,o,.agg O=>dS G b o O
 |b,o,.int k n=>G b o=some (.int k n)
 |b,o,.bool x=>G b o=some (.bool x)
 |b,o,.str s=>G b o=some (.string ⟨s.toArray⟩)
 |b,o,.nL=>G b o=some (.pointer none)
 |_,_,.undef=>False
 |b,o,.sl s U=>∃S Y T,G b o=some (.slice S Y T)/\Y=U.length/\Y<=T /\
   (U=[]\/∃V W,S=some ⟨V,W,none⟩/\ig G s V W U)
 |b,o,.ip O=>∃V W,G b o=some (.pointer (some ⟨V,W,none⟩))/\dS G V W O
 |b,o,.sX f C=>∃Q:L Value,G b o=some (.func (.func f) #[] Q.toArray)/\cy G C Q
 |_,_,.eK _=>False
 |b,o,.any=>∃v,G b o=some v/\(∀Q,v ≠ .agg Q)/\∀Q,v ≠ .tuple Q
 |b,o,.wC=>∃x,G b o=some (.bool x)
def ig(G:lB):Nat->Nat->Nat->Ψ->Prop
 |_,_,_,[]=>True
 |s,b,o,r::rs=>rK G b o r/\r.cells.length=s/\ig G s b (o+s) rs
end
def C0 G(b o)r:rK G b o r↔dS G b o r.cells:=by
 cases r with
 |sl s Y =>
  simp only[rK,CV.cells,dS,CV.one,Rel,akb];constructor;grind;simp_all
 |ip V =>
  simp only[rK,CV.cells,dS,CV.one,Rel,akb];constructor;grind;simp_all
 |sX f C =>
  simp only[rK,CV.cells,dS,CV.one,Rel,akb];constructor;simp_all;simp_all
 |wC =>
  simp only[rK,CV.cells,dS,CV.one,Rel,akb];constructor;grind;simp_all
 |_=>simp[rK,CV.cells,dS,CV.one,Rel]
def lB.le(G U:lB):Prop:=∀b o v,G b o=some v->U b o=some v
def lB.le.refl(G:lB):G.le G:=λ_ _ _ h=>h
def lB.le.trans{G U Y:lB}(h:G.le U)(E:U.le Y):G.le Y:=λb o v x=>E b o v (h b o v x)
mutual
def Rel.mono{G U:lB}(h:G.le U):∀(c:CV)(v:Value),Rel G c v->Rel U c v
 |.int _ _,_,x=>by simpa[Rel]using x
 |.bool _,_,x=>by simpa[Rel]using x
 |.str _,_,x=>by simpa[Rel]using x
 |.nL,_,x=>by simpa[Rel]using x
 |.undef,_,x=>by simpa[Rel]using x
 |.sl s O,v,x=>by obtain⟨N,Y,T,e,E,D,V⟩:=x;exact⟨N,Y,T,e,E,D,V.imp id λ⟨b,o,S,V⟩=>⟨b,o,S,ig.mono h s b o O V⟩⟩
 |.agg M,v,x=>by obtain⟨Q,e,V,W⟩:=x;exact⟨Q,e,cy.mono h M Q V,W⟩
 |.ip M,v,x=>by obtain⟨b,o,e,V⟩:=x;exact⟨b,o,e,dS.mono h b o M V⟩
 |.sX f C,v,x=>by obtain⟨Q,e,V⟩:=x;exact⟨Q,e,cy.mono h C Q V⟩
 |.eK M,v,x=>by simp only[Rel]at x ⊢;obtain⟨Q,e,V,W⟩:=x;exact⟨Q,e,cy.mono h M Q V,W⟩
 |.any,_,x=>by simp only[Rel]at x ⊢;exact x
 |.wC,_,x=>by simp only[Rel]at x ⊢;exact x
def cy.mono{G U:lB}(h:G.le U):∀(Y:Ψ)(T:L Value),cy G Y T->cy U Y T
 |[],_,x=>by simpa[cy]using x
 |c::Y,T,x=>by simp only[cy]at x ⊢;obtain⟨u,S,e,D,V⟩:=x;exact⟨u,S,e,Rel.mono h c u D,cy.mono h Y S V⟩
def dS.mono{G U:lB}(h:G.le U):∀(b o:Nat)(Y:Ψ),dS G b o Y->dS U b o Y
 |_,_,[],_=>by simp[dS]
 |b,o,c::Y,x=>by simp only[dS]at x ⊢;obtain⟨⟨u,p,D,W⟩,V⟩:=x;exact⟨⟨u,h b o u p,Rel.mono h c u D,W⟩,dS.mono h b (o+1) Y V⟩
def rK.mono{G U:lB}(h:G.le U):∀(b o:Nat)(r:CV),rK G b o r->rK U b o r
 |b,o,.agg M,x=>by simp only[rK]at x ⊢;exact dS.mono h b o M x
 |b,o,.int _ _,x=>by simp only[rK]at x ⊢;exact h _ _ _ x
 |b,o,.bool _,x=>by simp only[rK]at x ⊢;exact h _ _ _ x
 |b,o,.str _,x=>by simp only[rK]at x ⊢;exact h _ _ _ x
 |b,o,.nL,x=>by simp only[rK]at x ⊢;exact h _ _ _ x
 |_,_,.undef,x=>by simp[rK]at x
 |b,o,.sl s O,x=>by simp only[rK]at x ⊢;obtain⟨N,Y,T,e,E,D,V⟩:=x;exact⟨N,Y,T,h _ _ _ e,E,D,V.imp id λ⟨b,o,S,V⟩=>⟨b,o,S,ig.mono h s b o O V⟩⟩
 |b,o,.ip M,x=>by simp only[rK]at x ⊢;obtain⟨Q,P,e,V⟩:=x;exact⟨Q,P,h _ _ _ e,dS.mono h Q P M V⟩
 |b,o,.sX f C,x=>by simp only[rK]at x ⊢;obtain⟨K,e,V⟩:=x;exact⟨K,h _ _ _ e,cy.mono h C K V⟩
 |_,_,.eK _,x=>by simp[rK]at x
 |b,o,.any,x=>by simp only[rK]at x ⊢;obtain⟨v,e,V⟩:=x;exact⟨v,h _ _ _ e,V⟩
 |b,o,.wC,x=>by simp only[rK]at x ⊢;obtain⟨v,e⟩:=x;exact⟨v,h _ _ _ e⟩
def ig.mono{G U:lB}(h:G.le U):∀(s b o:Nat)(Y:Ψ),ig G s b o Y->ig U s b o Y
 |_,_,_,[],_=>by simp[ig]
 |s,b,o,r::Y,x=>by simp only[ig]at x ⊢;exact⟨rK.mono h b o r x.1,x.2.1,ig.mono h s b (o+s) Y x.2.2⟩
end
inductive Own where
 |exact
 |tok (key n:Nat)
 deriving Inhabited
inductive AV where
 |c (v:CV)
 |own (k:Own) (s:Nat) (rows:List CV)
 |ptr (key off:Nat)
 |iI (key off s n:Nat)
 |any
 |agg (cs:List AV)
 |eK (cs:List AV)
 deriving Inhabited
abbrev Φ:=L AV
abbrev tab:=L (Nat×L AV)
def AV.one:AV->Bool
 |.c v=>v.one
 |.own .. | .ptr .. | .iI .. | .any=>true
 |.agg _ | .eK _=>false
structure Gh where
 G:lB
 box:Nat->Option Nat
 tok:Nat->Option (Nat×Option (Nat×Nat×Nat))
 room:Nat->Nat
def mQ(G:lB)(s:Nat)(V:Option Addr)(Y:Ψ):Prop :=
 Y=[]\/∃b o,V=some ⟨b,o,none⟩/\ig G s b o Y
def Br(g:Gh)(s:Nat)(V:Option Addr)(Y T:Nat):Own->Prop
 |.exact=>T=Y
 |.tok K n=>∃q U,g.tok K=some (q,U)/\n<=q/\(q=n->T=Y \/
   ∃b D H o,U=some (b,D,H)/\V=some ⟨b,o,none⟩/\D=o+Y*s/\H=o+T*s/\Y<=T)
mutual
def aX(g:Gh):AV->Value->Prop
 |.c v,x=>Rel g.G v x
 |.own k s Q,x=>∃V Y T,x = .slice V Y T/\Y=Q.length/\Y<=T/\mQ g.G s V Q/\Br g s V Y T k
 |.ptr K U,x=>∃b,g.box K=some b/\x = .pointer (some ⟨b,U,none⟩)
 |.iI K U s n,x=>∃b T o,g.box K=some b/\x = .slice o n T/\n<=T/\U+T*s<=g.room K/\(T=0\/o=some ⟨b,U,none⟩)
 |.any,x=>(∀S,x ≠ .agg S)/\∀S,x ≠ .tuple S
 |.agg O,x=>∃S:L Value,x = .agg S.toArray/\cn g O S/\O.all AV.one
 |.eK O,x=>∃S:L Value,x = .tuple S.toArray/\cn g O S/\2<=O.length
def cn(g:Gh):Φ->L Value->Prop
 |[],Y=>Y=[]
 |c::cs,Y=>∃u V,Y=u::V/\aX g c u/\cn g cs V
end
def Gh.le(g V:Gh):Prop :=
 g.G.le V.G/\(∀k b,g.box k=some b->V.box k=some b)/\(∀k b,g.box k=some b->V.room k=g.room k) /\
 ∀k q U,g.tok k=some (q,U)->∃Y W,V.tok k=some (Y,W)/\q<=Y/\(Y=q->W=U)
def Gh.le.refl(g:Gh):g.le g:=⟨lB.le.refl _,λ_ _ h=>h,λ_ _ _=>rfl,λ_ q U h=>⟨q,U,h,acd _,λ_=>rfl⟩⟩
theorem Gh.le.trans{g N W:Gh}(h:g.le N)(E:N.le W):g.le W:=by refine⟨h.1.trans E.1,λk b x=>E.2.1 k b (h.2.1 k b x),λk b x=>(E.2.2.1 k b (h.2.1 k b x)).trans (h.2.2.1 k b x),λk q U x=>?_⟩;obtain⟨J,Y,V,S,A⟩:=h.2.2.2 k q U x;obtain⟨Q,T,C,P,O⟩:=E.2.2.2 k J Y V;grind
def mQ.mono{G U}(h:G.le U){s V Y}(x:mQ G s V Y):mQ U s V Y :=
 x.imp id λ⟨b,o,e,r⟩=>⟨b,o,e,ig.mono h s b o Y r⟩
def Br.mono{g O}(h:g.le O){s Q Y T}:∀{k},Br g s Q Y T k->Br O s Q Y T k
 |.exact,x=>x
 |.tok K n,⟨q,U,e,I,G⟩=>by obtain⟨W,S,N,E,V⟩:=h.2.2.2 K q U e;refine⟨W,S,N,aiq I E,λp=>?_⟩;grind
mutual
def aX.mono{g M:Gh}(h:g.le M):∀(a:AV)(v:Value),aX g a v->aX M a v
 |.c v,x,r=>by simp only[aX]at r ⊢;exact Rel.mono h.1 v x r
 |.own k s J,x,r=>by obtain⟨S,W,T,e,E,D,V,Y⟩:=r;exact⟨S,W,T,e,E,D,V.mono h.1,Y.mono h⟩
 |.ptr K O,x,r=>by obtain⟨b,U,e⟩:=r;exact⟨b,h.2.1 _ _ U,e⟩
 |.iI K O s n,x,r=>by obtain⟨b,T,o,U,e,I,F,B⟩:=r;exact⟨b,T,o,h.2.1 _ _ U,e,I,by rw[h.2.2.1 _ _ U];exact F,B⟩
 |.any,x,r=>by simp only[aX]at r ⊢;exact r
 |.agg N,x,r=>by obtain⟨Q,e,V,Y⟩:=r;exact⟨Q,e,cn.mono h N Q V,Y⟩
 |.eK N,x,r=>by obtain⟨Q,e,V,Y⟩:=r;exact⟨Q,e,cn.mono h N Q V,Y⟩
def cn.mono{g T:Gh}(h:g.le T):∀(Y:Φ)(U:L Value),cn g Y U->cn T Y U
 |[],_,r=>by simpa[cn]using r
 |c::Y,U,r=>by obtain⟨u,S,e,D,V⟩:=r;exact⟨u,S,e,aX.mono h c u D,cn.mono h Y S V⟩
end
def au{Y:Type}(k:Nat):L (Nat×Y)->Option Y
 |[]=>none
 |(j,x)::l=>match Nat.beq j k with
  |true=>some x
  |false=>au k l
def Gs{Y:Type}(k:Nat):L (Nat×Y)->L (Nat×Y)
 |[]=>[]
 |(j,x)::l=>match Nat.beq j k with
  |true=>Gs k l
  |false=>(j,x)::Gs k l
def yC{Y:Type}(k:Nat)(y:Y):L (Nat×Y)->L (Nat×Y)
 |[]=>[(k,y)]
 |(j,x)::l=>match Nat.beq j k with
  |true=>(j,y)::l
  |false=>(j,x)::yC k y l
def Bs{Y:Type}(k:Nat)(y:Y):L (Nat×Y)->Option (L (Nat×Y))
 |[]=>some [(k,y)]
 |(j,x)::l=>match Nat.beq j k with
  |true=>some ((j,y)::l)
  |false=>match Bs k y l with
   |some r=>some ((j,x)::r)
   |none=>none
def wD{Y}k(y):∀(l:L (Nat×Y)),Bs k y l=some (yC k y l)
 |[]=>rfl
 |(j,x)::l=>by simp only[Bs,yC,wD k y l];split<;>rfl
def beq_true{j k:Nat}(h:Nat.beq j k):j=k:=akJ h
def beq_false{j k:Nat}(h:Nat.beq j k=false):j≠k:=Nat.ne_of_beq_eq_false h
def l9{Y}(k j)(l:L (Nat×Y)):au j (Gs k l)=if j=k then none else au j l:=by
 induction l with
 |nil=>simp[Gs,au]
 |cons x l S =>
  simp only[Gs];split;rename_i h;rw[S];split;rfl;rename_i K;simp only[au];split;simp_all;rfl;rename_i h;simp only[au];grind
def fP{Y}(k j y)(l:L (Nat×Y)):au j (yC k y l)=if j=k then some y else au j l:=by
 induction l with
 |nil =>
  simp only[yC,au];split;simp_all;rename_i h;have:=beq_false h;rw[if_neg (λe=>this e.symm)]
 |cons x l S =>
  simp only[yC];split;rename_i h;simp only[au];split;simp_all;grind;rename_i h;simp only[au];grind
structure St where
 boxes:List (Nat×List AV)
 toks:List (Nat×Nat)
 used:List Nat
 deriving Inhabited
def cC(w:World)(g:Gh)(b:Nat):Nat->Φ->Prop
 |_,[]=>True
 |o,c::cs=>(∃u,w.cell? ⟨b,o,none⟩=some u/\aX g c u/\c.one)/\w.frozen? ⟨b,o,none⟩=false/\cC w g b (o+1) cs
def cC.mono{w g U}(h:g.le U){b}:∀{o T},cC w g b o T->cC w U b o T
 |_,[],_=>trivial
 |_,_::_,⟨⟨u,p,V,Y⟩,hf,tF⟩=>⟨⟨u,p,aX.mono h _ _ V,Y⟩,hf,cC.mono h tF⟩
def cC.of_same{w w' g b}(h:∀o,w'.cell? ⟨b,o,none⟩=w.cell? ⟨b,o,none⟩/\w'.frozen? ⟨b,o,none⟩=w.frozen? ⟨b,o,none⟩) :
  ∀{o U},cC w g b o U->cC w' g b o U
 |_,[],_=>trivial
 |_,_::_,⟨⟨u,p,V,Y⟩,hf,tF⟩=>⟨⟨u,(h _).1.trans p,V,Y⟩,(h _).2.trans hf,cC.of_same h tF⟩
structure Inv(w:World)(g:Gh)(σ:St):Prop where
 rS:∀b o v,g.G b o=some v->w.cell? ⟨b,o,none⟩=some v
 box:∀k cs,au k σ.boxes=some cs->∃b,g.box k=some b/\b<w.heap.size/\(∀o,g.G b o=none)/\cC w g b 0 cs
 gR:∀k k' cs cs' b,au k σ.boxes=some cs->au k' σ.boxes=some cs'->g.box k=some b->g.box k'=some b->k=k'
 tok:∀k n,au k σ.toks=some n->∃iy,g.tok k=some (n,iy)/\∀b lo hi,iy=some (b,lo,hi)->b<w.heap.size /\
  (∀o,lo<=o->o<hi->g.G b o=none/\(∃u,w.cell? ⟨b,o,none⟩=some u)/\w.frozen? ⟨b,o,none⟩=false) /\
  ∀k' cs,au k' σ.boxes=some cs->g.box k'≠some b
 iX:∀k k' n n' b lo hi lo' hi',au k σ.toks=some n->au k' σ.toks=some n' ->
  g.tok k=some (n,some (b,lo,hi))->g.tok k'=some (n',some (b,lo',hi'))->k=k'
 used:∀k,g.box k≠none\/g.tok k≠none->k∈σ.used
 room:∀k cs b,au k σ.boxes=some cs->g.box k=some b->∀o,(o<g.room k->∃u,w.cell? ⟨b,o,none⟩=some u)/\w.frozen? ⟨b,o,none⟩=false
def Inv.aez{w g σ}(W:Inv w g σ)k(V:Φ)b(e:au k σ.boxes=some V)(U:g.box k=some b)o(Y:o<g.room k):(∃u,w.cell? ⟨b,o,none⟩=some u)/\w.frozen? ⟨b,o,none⟩=false :=
 ⟨(W.room k V b e U o).1 Y,(W.room k V b e U o).2⟩
def Inv.Eo{w S:World}{g σ}(W:Inv w g σ)(h:∀k T b,au k σ.boxes=some T->g.box k=some b->b<w.heap.size->∀o,S.cell? ⟨b,o,none⟩=w.cell? ⟨b,o,none⟩/\S.frozen? ⟨b,o,none⟩=w.frozen? ⟨b,o,none⟩) :
  ∀k T b,au k σ.boxes=some T->g.box k=some b->∀o,(o<g.room k->∃u,S.cell? ⟨b,o,none⟩=some u)/\S.frozen? ⟨b,o,none⟩=false:=by
 intro k T b e U o;obtain⟨V,Q,O,_⟩:=W.box k T e;rw[U]at Q;obtain⟨B,Y⟩:=W.room k T b e U o;grind
def ko(g:Gh)(σ:St)(b o:Nat):Prop :=
 (∃k Y,au k σ.boxes=some Y/\g.box k=some b) \/
 ∃k n D H,au k σ.toks=some n/\g.tok k=some (n,some (b,D,H))/\D<=o/\o<H
structure jv(w:World)(g:Gh)(σ:St)(w':World)(g':Gh)(σ':St):Prop where
 os:w'.os=w.os
 tape:w'.tape=w.tape
 output:w'.output=w.output
 size:w.heap.size<=w'.heap.size
 block:∀b,b<w.heap.size->(∀o,¬ko g σ b o)->w'.heap[b]?=w.heap[b]?
 kept:∀b o,b<w.heap.size->¬ko g σ b o->w'.cell? ⟨b,o,none⟩=w.cell? ⟨b,o,none⟩/\w'.frozen? ⟨b,o,none⟩=w.frozen? ⟨b,o,none⟩
 le:g.G.le g'.G
 new:∀b o v,g'.G b o=some v->g.G b o=some v\/w.heap.size<=b\/ko g σ b o
 boxes:∀k cs b,au k σ'.boxes=some cs->g'.box k=some b->w.heap.size<=b\/∃k0 cs0,au k0 σ.boxes=some cs0/\g.box k0=some b
 toks:∀k n b lo hi,au k σ'.toks=some n->g'.tok k=some (n,some (b,lo,hi))->w.heap.size<=b \/
  ∃k0 n0 J4 uo,au k0 σ.toks=some n0/\g.tok k0=some (n0,some (b,J4,uo))/\J4<=lo/\hi<=uo
 ids:∀k,1000000<=k->au k σ'.boxes≠none->au k σ.boxes≠none/\g'.box k=g.box k/\g'.room k=g.room k
def jv.owned{w J g M σ O}(h:jv w g σ J M O){b o}(Y:ko M O b o):w.heap.size<=b\/ko g σ b o:=by
 rcases Y with ⟨k,I,T,N⟩|⟨k,n,D,H,T,N,V,U⟩
 exact(h.boxes k I b T N).imp id λ⟨G,S,e⟩ => .inl ⟨G,S,e⟩;exact(h.toks k n b D H T N).imp id λ⟨G,n0,W,B,A,Q,K,C⟩ => .inr ⟨G,n0,W,B,A,Q,ai,ai⟩
def jv.refl(w g σ):jv w g σ w g σ where
 os:=rfl
 tape:=rfl
 output:=rfl
 size:=acd _
 block:=λ_ _ _=>rfl
 kept:=λ_ _ _ _=>⟨Z,Z⟩
 le:=lB.le.refl _
 new:=λ_ _ _ h => .inl h
 boxes:=λk U _ Y V => .inr ⟨k,U,Y,V⟩
 toks:=λk n _ D H Y V => .inr ⟨k,n,D,H,Y,V,acd _,acd _⟩
 ids:=λ_ _ h=>⟨h,Z,Z⟩
def jv.trans{w B K g y M σ p Y}(h:jv w g σ B y p)(E:jv B y p K M Y):jv w g σ K M Y where
 os:=E.os.trans h.os
 tape:=E.tape.trans h.tape
 output:=E.output.trans h.output
 size:=aiq h.size E.size
 block:=λb U W=>by
  rw[E.block b (aja U h.size) λo V=>by
   rcases h.owned V with x|x
   omega
   exact W o x]
  exact h.block b U W
 kept:=λb o U W=>by
  have z:=h.kept b o U W;have F:=E.kept b o (aja U h.size) λV=>by
   rcases h.owned V with x|x
   omega;grind
  simp_all
 le:=h.le.trans E.le
 new:=λb o v x=>by
  rcases E.new b o v x with x|x|x
  exact h.new b o v x;exact .inr (.inl (aiq h.size x));rcases h.owned x with x|x
  omega;simp_all
 boxes:=λk r b z F=>by
  rcases E.boxes k r b z F with x|⟨G,S,A,Q⟩
  exact .inl (aiq h.size x);exact h.boxes G S b A Q
 toks:=λk n b D H z F=>by
  rcases E.toks k n b D H z F with x|⟨G,n0,P,O,A,Q,d,a⟩
  exact .inl (aiq h.size x);rcases h.toks G n0 b P O A Q with x|⟨N,q,T,u,J,C,f3,f4⟩
  exact .inl x;exact .inr ⟨N,q,T,u,J,C,ai,ai⟩
 ids:=λk I F=>by obtain⟨m,h4,j⟩:=E.ids k I F;obtain⟨h5,h6,f⟩:=h.ids k I m;simp_all
def yo(g:Gh)(env:L (Nat×AV))(G:Array Value):Prop:=∀t a,au t env=some a->aX g a (G.getD t undef)
def yo.mono{g Y}(h:g.le Y){env G}(x:yo g env G):yo Y env G :=
 λt a e=>aX.mono h _ _ (x t a e)
inductive TK where
 |int (k:IntKind)|bool|str|ptr (e:Nat)|slice (e:Nat)|arr (n e:Nat)|struct (fs:List (Nat×Nat))|other
 deriving Inhabited
structure TI where
 size:Nat
 bytes:Nat
 kind:TK
 zero:Option AV
 deriving Inhabited
def TI.isAgg(i:TI):Bool:=match i.kind with
 |.arr .. | .struct .. => true
 |_=>false
structure Ctx where
 ti:Nat->Option TI
 wE:Nat->Option CV
def jX(P:Program):TK->TypeDesc->Prop
 |.int k,d=>d = .int k
 |.bool,d=>d = .bool
 |.str,d=>d = .string
 |.ptr e,d=>d = .pointer e
 |.slice e,d=>d = .slice e
 |.arr n e,d=>d = .array n e
 |.struct A,d=>∃Y:Array Field,d = .struct Y/\Y.toList.map (λf=>(f.offset,f.type))=A /\
   ∀f∈Y.toList,∃M,P.info? f.type=some M/\M.size≠0
 |.other,d=>(match d with | .struct _ | .array _ _=>false|_=>true)=true
structure cI(P:Program)(X:Ctx):Prop where
 ti:∀t i,X.ti t=some i->∃inf,P.info? t=some inf/\inf.size=i.size/\inf.bytes=i.bytes /\
  (∀a,i.zero=some a->∃z,inf.zero=some z/\(∀g,aX g a z)/\z.cells.size=i.size)/\(∃d,P.underlying t=some d/\jX P i.kind d)/\i.size≠0
def rR(X:Ctx)(G:lB):Prop:=∀n v,X.wE n=some v->Rel G v (.pointer (some ⟨n,0,none⟩))
section types
variable {P:Program}{X:Ctx}{w:World}{t:Nat}{i:TI}
def cI.run_sizeOf(h:cI P X)(e:X.ti t=some i):(sizeOf t).run P w = .ok i.size w:=by obtain⟨M,Y,V,_⟩:=h.ti t i e;simp[sizeOf,typeInfo,Y,V]
def cI.run_underlying(h:cI P X)(e:X.ti t=some i):∃d,(underlying t).run P w = .ok d w/\jX P i.kind d/\P.underlying t=some d:=by obtain⟨M,V,U,B,_,⟨d,Y,W⟩,_⟩:=h.ti t i e;exact⟨d,by simp[underlying,Y],W,Y⟩
def cI.nW(h:cI P X)(e:X.ti t=some i){a}(Y:i.zero=some a):∃z,(zeroValue t).run P w = .ok z w/\(∀g,aX g a z)/\z.cells.size=i.size:=by obtain⟨M,S,Q,B,U,_⟩:=h.ti t i e;obtain⟨z,W,V,T⟩:=U a Y;exact⟨z,by simp[zeroValue,typeInfo,S,W],V,T⟩
def cI.sN(h:cI P X)(e:X.ti t=some i):(isAgg t).run P w = .ok i.isAgg w:=by
 obtain⟨d,U,V,_⟩:=h.run_underlying (w:=w) e;simp only[isAgg,Sem.run_bind,U];unfold TI.isAgg;cases I:i.kind<;>rw[I]at V<;>simp only[jX]at V
 case struct fs=>obtain⟨Y,rfl,_⟩:=V;rfl
 case other=>cases d<;>simp at V<;>rfl
 all_goals subst V;rfl
end types
def takeN{Y:Type}:Nat->List Y->Option (List Y)
 |0,_=>some []
 |_+1,[]=>none
 |n+1,x::l=>match takeN n l with
  |some r=>some (x::r)
  |none=>none
def eB{Y:Type}:Nat->List Y->Option (List Y)
 |0,l=>some l
 |_+1,[]=>none
 |n+1,_::l=>eB n l
def tG{Y}:∀{n}{l r:List Y},takeN n l=some r->r=l.take n/\n<=l.length
 |0,l,r,h=>by simp[takeN]at h;subst h;simp
 |n+1,[],r,h=>by simp[takeN]at h
 |n+1,x::l,r,h=>by simp only[takeN]at h;split at h;rename_i H E;obtain⟨rfl,U⟩:=tG E;simp_all;grind
def mR{Y}:∀{n}{l r:List Y},eB n l=some r->r=l.drop n/\n<=l.length
 |0,l,r,h=>by simp[eB]at h;subst h;simp
 |n+1,[],r,h=>by simp[eB]at h
 |n+1,x::l,r,h=>by simp only[eB]at h;obtain⟨rfl,E⟩:=mR h;simp;exact E
def dS.drop{G b}:∀{o n Y},dS G b o Y->dS G b (o+n) (Y.drop n)
 |o,0,Y,h=>by simpa using h
 |o,n+1,[],h=>by simp[dS]
 |o,n+1,x::Y,h=>by have:=dS.drop (n:=n) h.2;grind
def dS.mm{G b}:∀{o V},(∀(j) c,V[j]?=some c->∃u,G b (o+j)=some u/\Rel G c u/\c.one)->dS G b o V
 |o,[],_=>by simp[dS]
 |o,x::V,h=>by refine⟨by simpa using h 0 x cS,dS.mm λj c Y=>?_⟩;have:=h (j+1) c (by simpa using Y);grind
def ig.get{G s b}:∀{o Y},ig G s b o Y->∀(j) r,Y[j]?=some r->dS G b (o+j*s) r.cells/\r.cells.length=s
 |o,[],_,j,r,h=>by simp at h
 |o,x::Y,h,j,r,hj=>by
  cases j with
  |zero=>simp at hj;subst hj;exact⟨by simpa using (C0 G b o x).1 h.1,h.2.1⟩
  |succ j =>
   have:=h.2.2.get j r hj;grind
def ig.drop{G s b}:∀{o n Y},ig G s b o Y->ig G s b (o+n*s) (Y.drop n)
 |o,0,Y,h=>by simpa using h
 |o,n+1,[],h=>by simp[ig]
 |o,n+1,x::Y,h=>by have:=ig.drop (n:=n) h.2.2;grind
def ig.take{G s b}:∀{o n Y},ig G s b o Y->ig G s b o (Y.take n)
 |o,0,Y,h=>by simp[ig]
 |o,n+1,[],h=>by simp[ig]
 |o,n+1,x::Y,h=>by exact⟨h.1,h.2.1,ig.take h.2.2⟩
def cC.get{w g b}:∀{o Y},cC w g b o Y->∀(j) c,Y[j]?=some c ->
  (∃u,w.cell? ⟨b,o+j,none⟩=some u/\aX g c u/\c.one)/\w.frozen? ⟨b,o+j,none⟩=false
 |o,[],_,j,c,h=>by simp at h
 |o,x::Y,h,j,c,hj=>by
  simp only[cC]at h;cases j with
  |zero=>simp at hj;subst hj;exact⟨h.1,h.2.1⟩
  |succ j =>
   have:=h.2.2.get j c hj;grind
def cC.mm{w g b}:∀{o Y},(∀(j) c,Y[j]?=some c ->
  (∃u,w.cell? ⟨b,o+j,none⟩=some u/\aX g c u/\c.one)/\w.frozen? ⟨b,o+j,none⟩=false)->cC w g b o Y
 |o,[],_=>trivial
 |o,x::Y,h=>by refine⟨by simpa using (h 0 x cS).1,by simpa using (h 0 x cS).2,cC.mm λj c G=>?_⟩;have:=h (j+1) c Rl;grind
def cy.get{G}:∀{T U},cy G T U->T.length=U.length/\∀(j:Nat) c,T[j]?=some c->∃u,U[j]?=some u/\Rel G c u
 |[],U,h=>by simp only[cy]at h;subst h;simp
 |c::T,U,h=>by
  obtain⟨u,Q,rfl,D,V⟩:=h;obtain⟨E,N⟩:=V.get;refine⟨by simp[E],λj S Y=>?_⟩;cases j with
  |zero=>simp at Y;subst Y;exact⟨u,cS,D⟩
  |succ j=>simp at Y;simpa using N j S Y
def cn.get{g}:∀{U Y},cn g U Y->U.length=Y.length/\∀(j:Nat) c,U[j]?=some c->∃u,Y[j]?=some u/\aX g c u
 |[],Y,h=>by simp only[cn]at h;subst h;simp
 |c::U,Y,h=>by
  obtain⟨u,S,rfl,D,V⟩:=h;obtain⟨E,N⟩:=V.get;refine⟨by simp[E],λj T G=>?_⟩;cases j with
  |zero=>simp at G;subst G;exact⟨u,cS,D⟩
  |succ j=>simp at G;simpa using N j T G
def cy.mm{G}:∀{Y V},Y.length=V.length->(∀(j:Nat) c u,Y[j]?=some c->V[j]?=some u->Rel G c u)->cy G Y V
 |[],V,h,_=>by simp_all;exact ajN (by simpa using h.symm)
 |c::Y,[],h,_=>by simp at h
 |c::Y,u::U,h,N=>by exact⟨u,U,Z,N 0 c u cS cS,cy.mm nu λj T q h1 h2=>N (j+1) T q ae2 VK⟩
def cn.mm{g}:∀{Y V},Y.length=V.length->(∀(j:Nat) c u,Y[j]?=some c->V[j]?=some u->aX g c u)->cn g Y V
 |[],V,h,_=>by simp_all;exact ajN (by simpa using h.symm)
 |c::Y,[],h,_=>by simp at h
 |c::Y,u::U,h,N=>by exact⟨u,U,Z,N 0 c u cS cS,cn.mm nu λj T q h1 h2=>N (j+1) T q ae2 VK⟩
def M4:Value->Option AV
 |.int k n=>some (.c (.int k n))
 |.bool b=>some (.c (.bool b))
 |.string s=>some (.c (.str s.data.toList))
 |.pointer none=>some (.c .nL)
 |.slice none 0 0=>some (.own .exact 0 [])
 |_=>none
def Ih:L Value->Option (Φ)
 |[]=>some []
 |v::vs=>match M4 v with
  |some a=>match Ih vs with
   |some l=>some (a::l)
   |none=>none
  |none=>none
def ZB:Value->Option AV
 |.agg Y=>match Ih Y.toList with
  |some l=>some (.agg l)
  |none=>none
 |v=>M4 v
def Li g:∀{v a},M4 v=some a->aX g a v/\a.one:=by intro v a h;unfold M4 at h;split at h<;>simp at h<;>subst h<;>simp[aX,Rel,AV.one,CV.one];exact⟨_,_,_,⟨rfl,rfl,rfl⟩,rfl,acd _,.inl rfl,rfl⟩
def Lj(g):∀{V l},Ih V=some l->cn g l V/\l.all AV.one
 |[],l,h=>by simp[Ih]at h;subst h;simp[cn]
 |v::V,l,h=>by simp only[Ih]at h;split at h;rename_i a Y;split at h;rename_i p E;simp at h;subst h;obtain⟨U,T⟩:=Li g Y;obtain⟨B,W⟩:=Lj g E;exact⟨by simp_all;exact⟨v,V,rfl,U,B⟩,by simp[T];simpa using W⟩;grind;grind
theorem ZC(g){v a}(h:ZB v=some a):aX g a v:=by unfold ZB at h;split at h;rename_i Y;split at h;rename_i l E;simp at h;subst h;obtain⟨V,U⟩:=Lj g E;exact⟨Y.toList,cS,V,U⟩;grind;exact(Li g h).1
def aJ(X:Ctx)(env:L (Nat×AV)):Operand->Option AV
 |.tmp t=>au t env
 |.const v=>ZB v
 |.global n=>match X.wE n with
  |some v=>some (.c v)
  |none=>none
 |.func f=>some (.c (.sX f []))
def cz{X g env}{a:Act}(Y:yo g env a.tmps)(N:rR X g.G){x v}(h:aJ X env x=some v):aX g v (a.eval x):=by
 cases x with
 |tmp t=>exact Y t v h
 |const c=>exact ZC g h
 |global n =>
  simp only[aJ]at h;split at h;rename_i W q;simp at h;subst h;exact N n W q;grind
 |func f=>simp[aJ]at h;subst h;exact⟨[],rfl,by simp[cy]⟩
def nth{Y:Type}:List Y->Nat->Option Y
 |[],_=>none
 |x::_,0=>some x
 |_::l,n+1=>nth l n
def vF{Y}:∀(l:List Y)(n),nth l n=l[n]?
 |[],n=>by simp[nth]
 |x::l,0=>by simp[nth]
 |x::l,n+1=>by simp[nth,vF l n]
def aeA(t:Bool)(a b:AV):Option AV :=
 match a,b with
 |.c (.bool x),.c (.bool y)=>some (.c (.bool (bif t then x else y)))
 |_,_=>match t with
  |true=>some a
  |false=>some b
def mK(i:TI)(cells:Φ):Option AV :=
 match i.isAgg with
 |true=>match takeN i.size cells with
  |some l=>some (.agg l)
  |none=>none
 |false=>match cells with
  |c::_=>some c
  |[]=>none
def Ep(i:TI)(cells:Ψ):Option AV :=
 match i.isAgg with
 |true=>match takeN i.size cells with
  |some l=>some (.c (.agg l))
  |none=>none
 |false=>match cells with
  |c::_=>some (.c c)
  |[]=>none
section
variable {P:Program}{X:Ctx}{w:World}{g:Gh}
def C2(hX:cI P X){t i}(H:X.ti t=some i)(Y:i.isAgg)(b o)(V:L Value)(E:V.length=i.size)
  (h:∀j v,V[j]?=some v->w.cell? ⟨b,o+j,none⟩=some v) :
  (Instr.loadAt t (.pointer (some ⟨b,o,none⟩))).run P w = .ok (.agg V.toArray) w:=by
 have D:=run_loadCells_list (P:=P) w ⟨b,o,none⟩ V (λj v G=>by rw[Addr.add_lit];exact h j v G);simp only[Instr.loadAt,Instr.sureAddr,loadVar,Sem.run_bind,Result.andThen_ok,hX.sN H,Y,if_true,hX.run_sizeOf H];simp_all
def C3(hX:cI P X){t i}(H:X.ti t=some i)(Y:i.isAgg=false)(b o)(v)
  (h:w.cell? ⟨b,o,none⟩=some v) :
  (Instr.loadAt t (.pointer (some ⟨b,o,none⟩))).run P w = .ok v w:=by
 simp[Instr.loadAt,Instr.sureAddr,loadVar,hX.sN H,Y,h]
def ZD(hX:cI P X){t i}(H:X.ti t=some i){b o cells}(D:cC w g b o cells){v}(h:mK i cells=some v) :
  ∃u,(Instr.loadAt t (.pointer (some ⟨b,o,none⟩))).run P w = .ok u w/\aX g v u:=by
 unfold mK at h;split at h
 ·rename_i Y;split at h
  ·rename_i l E;simp at h;subst h;obtain⟨rfl,I⟩:=tG E;have K:∀(n:Nat)(Q:Φ)(o:Nat),cC w g b o Q->n<=Q.length->∃T:L Value,T.length=n/\(∀j v,T[j]?=some v->w.cell? ⟨b,o+j,none⟩=some v)/\cn g (Q.take n) T/\(Q.take n).all AV.one:=by
    intro n
    induction n with
    |zero=>intro Q o _ _;exact⟨[],Z,cS,by simp[cn],cS⟩
    |succ n S =>
     intro Q o V J;cases Q with
     |nil=>simp at J
     |cons x Q =>
      obtain⟨⟨u,p,G,U⟩,_,tF⟩:=V;obtain⟨T,h1,O,B,W⟩:=S Q (o+1) tF (by simpa using J);refine⟨u::T,adx,?_,?_,?_⟩;grind;exact⟨u,T,Z,G,B⟩;grind
   obtain⟨T,h1,O,B,W⟩:=K i.size cells o D I;exact⟨.agg T.toArray,C2 hX H Y b o T h1 O,by simp only[aX];exact⟨T,Z,B,W⟩⟩
  grind
 rename_i Y;split at h;rename_i c rest;simp at h;subst h;obtain⟨⟨u,p,G,_⟩,_,_⟩:=D;exact⟨u,C3 hX H Y b o u p,G⟩;simp at h
def Xh(hX:cI P X)(U:∀b o v,g.G b o=some v->w.cell? ⟨b,o,none⟩=some v){t i}(H:X.ti t=some i){b o cells}
  (D:dS g.G b o cells){v}(h:Ep i cells=some v) :
  ∃u,(Instr.loadAt t (.pointer (some ⟨b,o,none⟩))).run P w = .ok u w/\aX g v u:=by
 unfold Ep at h;split at h
 ·rename_i Y;split at h
  ·rename_i l E;simp at h;subst h;obtain⟨rfl,I⟩:=tG E;have K:∀(n:Nat)(O:Ψ)(o:Nat),dS g.G b o O->n<=O.length->∃Q:L Value,Q.length=n/\(∀j v,Q[j]?=some v->w.cell? ⟨b,o+j,none⟩=some v)/\cy g.G (O.take n) Q/\(O.take n).all CV.one:=by
    intro n
    induction n with
    |zero=>intro O o _ _;exact⟨[],Z,cS,by simp[cy],cS⟩
    |succ n S =>
     intro O o V J;cases O with
     |nil=>simp at J
     |cons x O =>
      obtain⟨⟨u,p,C,T⟩,tF⟩:=V;obtain⟨Q,h1,N,B,W⟩:=S O (o+1) tF (by simpa using J);refine⟨u::Q,adx,?_,?_,?_⟩;grind;exact⟨u,Q,Z,C,B⟩;grind
   obtain⟨Q,h1,N,B,W⟩:=K i.size cells o D I;exact⟨.agg Q.toArray,C2 hX H Y b o Q h1 N,by simp only[aX];exact⟨Q,Z,B,W⟩⟩
  grind
 rename_i Y;split at h;rename_i c rest;simp at h;subst h;simp only[dS]at D;obtain⟨⟨u,p,C,_⟩,_⟩:=D;exact⟨u,C3 hX H Y b o u (U _ _ _ p),by simpa only[aX]using C⟩;simp at h
end
def ZE(N:BinOp)(k:IntKind)(a b:Int):Option CV :=
 match N with
 |.add=>some (.int k (k.wrap (a+b)))
 |.sub=>some (.int k (k.wrap (a-b)))
 |.mul=>some (.int k (k.wrap (a*b)))
 |.quo=>match b==0 with
  |true=>none
  |false=>some (.int k (k.wrap (a.tdiv b)))
 |.rem=>match b==0 with
  |true=>none
  |false=>some (.int k (a.tmod b))
 |.and=>some (.int k (k.wrap (BitVec.ofInt k.bits a&&&BitVec.ofInt k.bits b).toNat))
 |.or=>some (.int k (k.wrap (BitVec.ofInt k.bits a|||BitVec.ofInt k.bits b).toNat))
 |.xor=>some (.int k (k.wrap (BitVec.ofInt k.bits a ^^^ BitVec.ofInt k.bits b).toNat))
 |.eql=>some (.bool (a==b))
 |.neq=>some (.bool (a != b))
 |.lss=>some (.bool (decide (a<b)))
 |.leq=>some (.bool (decide (a<=b)))
 |.gtr=>some (.bool (decide (a>b)))
 |.geq=>some (.bool (decide (a>=b)))
 |_=>none
def sameKind:IntKind->IntKind->Bool
 |.i64,.i64 | .u8,.u8 | .u64,.u64 | .i32,.i32 | .u32,.u32=>true
 |_,_=>false
def Qj{j k}(h:sameKind j k):j=k:=by cases j<;>cases k<;>simp[sameKind]at h<;>rfl
def M5(N:BinOp)(k:IntKind)(a b:Int):Option CV :=
 match N,b with
 |.shl,.ofNat n=>some (.int k (k.wrap (a*2^(min n k.bits))))
 |.shr,.ofNat n=>some (.int k (a.fdiv (2^(min n k.bits))))
 |_,_=>none
def afX(N:BinOp)(a b:Δ):Option CV :=
 match N with
 |.eql=>some (.bool (a==b))
 |.neq=>some (.bool (!(a==b)))
 |.lss=>some (.bool (Op.bytesLess a b))
 |.gtr=>some (.bool (!(Op.bytesLess a b||a==b)))
 |_=>none
def ZF(k:TK)(N:BinOp)(x y:AV):Option AV :=
 match x,y with
 |.c (.int j a),.c (.int j' b) =>
  match N with
  |.shl | .shr=>match M5 N j a b with
   |some v=>some (.c v)
   |none=>none
  |_=>match sameKind j j' with
   |true=>match ZE N j a b with
    |some v=>some (.c v)
    |none=>none
   |false=>none
 |.c (.str a),.c (.str b)=>match afX N a b with
  |some v=>some (.c v)
  |none=>none
 |.c (.bool a),.c (.bool b)=>match k,N with
  |.bool,.eql=>some (.c (.bool (a==b)))
  |.bool,.neq=>some (.c (.bool (!(a==b))))
  |_,_=>none
 |.c (.ip _),.c .nL=>match k,N with
  |.ptr _,.eql=>some (.c (.bool false))
  |.ptr _,.neq=>some (.c (.bool true))
  |_,_=>none
 |.c .nL,.c .nL=>match k,N with
  |.ptr _,.eql=>some (.c (.bool true))
  |.ptr _,.neq=>some (.c (.bool false))
  |_,_=>none
 |_,_=>none
section
variable {P:Program}{X:Ctx}{w:World}{g:Gh}
def ada{N k a b v}(h:ZE N k a b=some v)(t)(x y) :
  ∃u,(do eqGuard N t x y (.int k a) (.int k b);binOp N t (.int k a) (.int k b)).run P w = .ok u w/\Rel g.G v u:=by
 cases N<;>simp only[ZE]at h<;>simp only[eqGuard_at_int]
 case quo =>
  split at h;simp at h;rename_i U;simp at h;subst h;have:b≠0:=by simpa using U
  exact⟨_,by simp[binOp,Op.intDiv,this];rfl,aeI⟩
 case rem =>
  split at h;simp at h;rename_i U;simp at h;subst h;have:b≠0:=by simpa using U
  exact⟨_,by simp[binOp,Op.intDiv,this];rfl,aeI⟩
 all_goals first
  |(simp at h;done)
  |(simp at h;subst h;exact⟨_,by simp[binOp,Op.intArith,Op.intBits,Op.intCmp];rfl,aeI⟩)
def Xi{N k k' a b v}(h:M5 N k a b=some v)(t)(x y) :
  ∃u,(do eqGuard N t x y (.int k a) (.int k' b);binOp N t (.int k a) (.int k' b)).run P w = .ok u w/\Rel g.G v u:=by
 unfold M5 at h;split at h;rename_i n;simp at h;subst h;refine⟨.int k (k.wrap (a*2^(min n k.bits))),?_,aeI⟩;rfl;rename_i n;simp at h;subst h;refine⟨.int k (a.fdiv (2^(min n k.bits))),?_,aeI⟩;rfl;grind
def adb{N a b v}(h:afX N a b=some v)(t)(x y) :
  ∃u,(do eqGuard N t x y (.string ⟨a.toArray⟩) (.string ⟨b.toArray⟩);binOp N t (.string ⟨a.toArray⟩) (.string ⟨b.toArray⟩)).run P w = .ok u w/\Rel g.G v u:=by
 cases N<;>simp only[afX]at h<;>first
  |(simp at h;done)
  |(simp at h;subst h;exact⟨_,by simp;rfl,aeI⟩)
def C4{t}(d)(h:(underlying t).run P w = .ok .bool w)(a b):(Op.equalIn (d+1) t (.bool a) (.bool b)).run P w = .ok (a==b) w:=by simp[Op.equalIn,h]
def Er{t e}(d)(h:(underlying t).run P w = .ok (.pointer e) w)(a):(Op.equalIn (d+1) t (.pointer (some a)) (.pointer none)).run P w = .ok false w:=by simp[Op.equalIn,h]
def Es{t e}(d)(h:(underlying t).run P w = .ok (.pointer e) w):(Op.equalIn (d+1) t (.pointer none) (.pointer none)).run P w = .ok true w:=by simp[Op.equalIn,h]
def run_equal_bool{t}(h:(underlying t).run P w = .ok .bool w)(a b):(Op.equal t (.bool a) (.bool b)).run P w = .ok (a==b) w :=
 C4 9999 h a b
def mw{t e}(h:(underlying t).run P w = .ok (.pointer e) w)(a):(Op.equal t (.pointer (some a)) (.pointer none)).run P w = .ok false w :=
 Er 9999 h a
def run_equal_nil_nil{t e}(h:(underlying t).run P w = .ok (.pointer e) w):(Op.equal t (.pointer none) (.pointer none)).run P w = .ok true w :=
 Es 9999 h
def Ii(t a b):binOp .eql t (.bool a) (.bool b)=(do pure (.bool (<- Op.equal t (.bool a) (.bool b)))):=rfl
def Ij(t a b):binOp .neq t (.bool a) (.bool b)=(do pure (.bool (!(<- Op.equal t (.bool a) (.bool b))))):=rfl
def qA(t a b):binOp .eql t (.pointer a) (.pointer b)=(do pure (.bool (<- Op.equal t (.pointer a) (.pointer b)))):=rfl
def qB(t a b):binOp .neq t (.pointer a) (.pointer b)=(do pure (.bool (!(<- Op.equal t (.pointer a) (.pointer b))))):=rfl
def ade(hX:cI P X){t i}(H:X.ti t=some i){N x y v}(h:ZF i.kind N x y=some v)
  {p q}(M:aX g x p)(Q:aX g y q)(Y W) :
  ∃u,(do eqGuard N t Y W p q;binOp N t p q).run P w = .ok u w/\aX g v u:=by
 obtain⟨d,C,G,T⟩:=hX.run_underlying (w:=w) H;unfold ZF at h;split at h
 ·rename_i j a U b;subst M Q;have S:∀(V:CV),M5 N j a b=some V->∃u,(do eqGuard N t Y W (.int j a) (.int U b);binOp N t (.int j a) (.int U b)).run P w = .ok u w/\aX g (.c V) u:=by intro V J;obtain⟨u,O,h2⟩:=Xi (P:=P) (w:=w) (g:=g) (k':=U) J t Y W;exact⟨u,O,K0⟩
  split at h;grind;grind;split at h;rename_i I;have:=Qj I;subst this;split at h;rename_i V J;simp at h;subst h;obtain⟨u,O,h2⟩:=ada (P:=P) (w:=w) (g:=g) J t Y W;exact⟨u,O,K0⟩;grind;grind
 rename_i a b;subst M Q;split at h;rename_i V J;simp at h;subst h;obtain⟨u,O,h2⟩:=adb (P:=P) (w:=w) (g:=g) J t Y W;exact⟨u,O,K0⟩;simp at h
 ·rename_i a b;subst M Q;split at h<;>simp at h<;>subst h<;>rename_i I<;>rw[I]at G<;>simp only[jX]at G<;>subst G;exact⟨.bool (a==b),by simp[eqGuard_at_bool,Ii,run_equal_bool C],rj⟩;exact⟨.bool (!(a==b)),by simp[eqGuard_at_bool,Ij,run_equal_bool C],rj⟩
 ·rename_i K;simp only[aX,Rel]at M Q;subst Q;obtain⟨b,o,rfl,_⟩:=M;split at h<;>simp at h<;>subst h<;>rename_i I<;>rw[I]at G<;>simp only[jX]at G<;>subst G;exact⟨.bool false,qO,rj⟩;exact⟨.bool true,qO,rj⟩
 ·simp only[aX,Rel]at M Q;subst M Q;split at h<;>simp at h<;>subst h<;>rename_i I<;>rw[I]at G<;>simp only[jX]at G<;>subst G;exact⟨.bool true,qO,rj⟩;exact⟨.bool false,qO,rj⟩
 simp at h
end
def opened:Ψ->Option (Φ)
 |[]=>some []
 |c::cs=>match opened cs with
  |some l=>some (.c c::l)
  |none=>none
def El:∀Y,opened Y=some (Y.map AV.c)
 |[]=>rfl
 |c::Y=>by simp[opened,El Y]
def kG:AV->Option (Φ)
 |.c (.agg Y)=>opened Y
 |.c (.eK _)=>none
 |.c .undef=>none
 |.eK _=>none
 |.agg Y=>some Y
 |a=>some [a]
def bQ:Nat->Φ->Φ->Option (Φ)
 |_,[],l=>some l
 |0,v::vs,_::l=>match bQ 0 vs l with
  |some r=>some (v::r)
  |none=>none
 |n+1,vs,x::l=>match bQ n vs l with
  |some r=>some (x::r)
  |none=>none
 |_,_::_,[]=>none
mutual
def close:AV->Option CV
 |.c v=>some v
 |.own _ s Y=>some (.sl s Y)
 |.ptr _ _=>none
 |.iI .. => none
 |.any=>none
 |.agg V=>match rL V with
  |some l=>some (.agg l)
  |none=>none
 |.eK V=>match rL V with
  |some l=>some (.eK l)
  |none=>none
def rL:Φ->Option (Ψ)
 |[]=>some []
 |a::l=>match close a with
  |some v=>match rL l with
   |some r=>some (v::r)
   |none=>none
  |none=>none
end
def asNat:AV->Option Nat
 |.c (.int _ (.ofNat n))=>some n
 |_=>none
def bound(Y:Operand->Option AV):Option Operand->Option (Option Nat)
 |none=>some none
 |some x=>match Y x with
  |some a=>match asNat a with
   |some n=>some (some n)
   |none=>none
  |none=>none
def FF(s:Nat)(Y:Ψ)(D:Option Nat)(h:Nat)(exact:Bool):Option AV :=
 match takeN h Y with
 |some W=>match (match D with
   |some l=>eB l W
   |none=>some W)with
  |some r=>match exact with
   |true=>some (.own .exact s r)
   |false=>some (.c (.sl s r))
  |none=>none
 |none=>none
def Et(k:TK)(V:Nat)(x:AV)(D H mx:Option Nat):Option AV :=
 match k,x with
 |.str,.c (.str s)=>match mx with
  |some _=>none
  |none=>match (match H with
    |some h=>takeN h s
    |none=>some s)with
   |some P=>match D with
    |some l=>match eB l P with
     |some r=>some (.c (.str r))
     |none=>none
    |none=>some (.c (.str P))
   |none=>none
 |.slice _,.own o s Y=>match Nat.beq s V with
  |false=>none
  |true=>match H,mx with
  |none,none=>match D with
   |some l=>match eB l Y with
    |some r=>some (.own o s r)
    |none=>none
   |none=>some (.own o s Y)
  |some h,none=>FF s Y D h false
  |some h,some m=>match Nat.beq h m with
   |true=>FF s Y D h true
   |false=>none
  |none,some _=>none
 |.slice _,.c (.sl s Y)=>match Nat.beq s V with
  |false=>none
  |true=>match H,mx with
  |none,none=>match D with
   |some l=>match eB l Y with
    |some r=>some (.c (.sl s r))
    |none=>none
   |none=>some (.c (.sl s Y))
  |some h,none=>FF s Y D h false
  |some h,some m=>match Nat.beq h m with
   |true=>FF s Y D h true
   |false=>none
  |none,some _=>none
 |_,_=>none
def rowsOf:AV->Option (Nat×Ψ)
 |.own _ s Y=>some (s,Y)
 |.c (.sl s Y)=>some (s,Y)
 |_=>none
def uD(X:Ctx)(U:Operand->Option AV)(A:tad):L (Nat×Operand)->Φ->Option (Φ)
 |[],cells=>some cells
 |(i,x)::rest,cells=>match nth A i,U x with
  |some (V,K),some a=>match X.ti K,kG a with
   |some j,some T=>match Nat.beq T.length j.size,bQ V T cells with
    |true,some Y=>uD X U A rest Y
    |_,_=>none
   |_,_=>none
  |_,_=>none
def afZ(k:TK)(x:AV):Option AV :=
 match k,x with
 |.slice _,.own _ _ Y=>some (.c (.int .i64 Y.length))
 |.slice _,.iI _ _ _ n=>some (.c (.int .i64 n))
 |.slice _,.c (.sl _ Y)=>some (.c (.int .i64 Y.length))
 |.str,.c (.str s)=>some (.c (.int .i64 s.length))
 |.arr n _,_=>some (.c (.int .i64 n))
 |_,_=>none
def ahV:L (Option AV)->Option AV
 |[some (.c (.int k a)),some (.c (.int _ b))]=>some (.c (.int k (if b<a then b else a)))
 |_=>none
def ahW:L (Option AV)->Option AV
 |[some (.c (.int k a)),some (.c (.int _ b))]=>some (.c (.int k (if b>a then b else a)))
 |_=>none
def iC(Y:Operand->Option AV):L Operand->Option (Ψ)
 |[]=>some []
 |x::l=>match Y x with
  |some a=>match close a with
   |some v=>match iC Y l with
    |some r=>some (v::r)
    |none=>none
   |none=>none
  |none=>none
def gX(X:Ctx)(T:tab)(V:Operand->Option AV):Op->Option AV
 |.move x=>V x
 |.assign x=>V x
 |.pick c a b=>match V c,V a,V b with
  |some (.c (.bool t)),some a,some b=>aeA t a b
  |_,_,_=>none
 |.load t x=>match X.ti t,V x with
  |some i,some (.ptr K U)=>match au K T with
   |some cells=>match eB U cells with
    |some l=>mK i l
    |none=>none
   |none=>none
  |some i,some (.c (.ip S))=>Ep i S
  |_,_=>none
 |.nilCheck x=>match V x with
  |some (.ptr k o)=>some (.ptr k o)
  |some (.c (.ip S))=>some (.c (.ip S))
  |some (.c (.sX f S))=>some (.c (.sX f S))
  |_=>none
 |.binOp N t x y _=>match X.ti t,V x,V y with
  |some i,some a,some b=>ZF i.kind N a b
  |_,_,_=>none
 |.unOp N _ x=>match N,V x with
  |.not,some (.c (.bool b))=>some (.c (.bool (!b)))
  |.neg,some (.c (.int k n))=>some (.c (.int k (k.wrap (0-n))))
  |_,_=>none
 |.convert s d x=>match X.ti s,X.ti d,V x with
  |some _,some j,some (.c (.int _ n))=>match j.kind with
   |.int k=>some (.c (.int k (k.wrap n)))
   |_=>none
  |_,_,_=>none
 |.fieldAddr t x f=>match X.ti t,V x with
  |some i,some a=>match i.kind with
   |.struct A=>match nth A f with
    |some (U,_)=>match a with
     |.ptr k o=>some (.ptr k (o+U))
     |.c (.ip S)=>match eB U S with
      |some r=>some (.c (.ip r))
      |none=>none
     |_=>none
    |none=>none
   |_=>none
  |_,_=>none
 |.field t x f=>match X.ti t,V x with
  |some i,some a=>match i.kind with
   |.struct A=>match nth A f with
    |some (U,I)=>match X.ti I with
     |some j=>match a with
      |.agg S=>match eB U S with
       |some r=>mK j r
       |none=>none
      |.c (.agg S)=>match eB U S with
       |some r=>Ep j r
       |none=>none
      |_=>none
     |none=>none
    |none=>none
   |_=>none
  |_,_=>none
 |.indexAddr t x W=>match X.ti t,V x,V W with
  |some i,some a,some n=>match asNat n with
   |some n=>match i.kind with
    |.slice e=>match X.ti e,rowsOf a with
     |some j,some (s,Q)=>match Nat.beq s j.size,nth Q n with
      |true,some r=>some (.c (.ip r.cells))
      |_,_=>none
     |_,_=>none
    |.arr m e=>match X.ti e,a,Nat.blt n m with
     |some j,.ptr k o,true=>some (.ptr k (o+n*j.size))
     |_,_,_=>none
    |_=>none
   |none=>none
  |_,_,_=>none
 |.index t x W=>match X.ti t,V x,V W with
  |some i,some a,some n=>match asNat n with
   |some n=>match i.kind,a with
    |.str,.c (.str s)=>match nth s n with
     |some b=>some (.c (.int .u8 b.toNat))
     |none=>none
    |_,_=>none
   |none=>none
  |_,_,_=>none
 |.extract x n=>match V x with
  |some (.eK S)=>nth S n
  |some (.c (.eK S))=>match nth S n with
   |some v=>some (.c v)
   |none=>none
  |_=>none
 |.build t Y=>match X.ti t with
  |some i=>match i.kind,i.zero with
   |.struct A,some (.agg z)=>match uD X V A Y.toList z with
    |some cells=>some (.agg cells)
    |none=>none
   |_,_=>none
  |none=>none
 |.slice t x D H mx=>match X.ti t,V x,bound V D,bound V H,bound V mx with
  |some i,some a,some D,some H,some mx=>match i.kind with
   |.slice e=>match X.ti e with
    |some j=>Et i.kind j.size a D H mx
    |none=>none
   |_=>Et i.kind 0 a D H mx
  |_,_,_,_,_=>none
 |.makeFunc (.func f) first caps=>match first.toList,iC V caps.toList with
  |[],some l=>some (.c (.sX f l))
  |_,_=>none
 |.call {callee := .builtin .len,args,argTypes}=>match args.toList,argTypes.toList with
  |[x],[t]=>match X.ti t,V x with
   |some i,some a=>afZ i.kind a
   |_,_=>none
  |_,_=>none
 |.call {callee := .builtin .min,args,argTypes:=_}=>ahV (args.toList.map V)
 |.call {callee := .builtin .max,args,argTypes:=_}=>ahW (args.toList.map V)
 |_=>none
section
variable {P:Program}{X:Ctx}{w:World}{g:Gh}
def zG{s:Δ}:(ByteArray.mk s.toArray).size=s.length:=by simp[ByteArray.size]
def extract_mk(s:Δ)(l h):(ByteArray.mk s.toArray).extract l h=⟨((s.take h).drop l).toArray⟩:=by apply ByteArray.ext;simp;rw[List.drop_take]
def ji{y n:Nat}(h:n<=y)(k c):(Instr.sliceBound (.int k n) y c).run P w = .ok n w:=by simp[Instr.sliceBound,asIntOf,h]
theorem AI{a n}(h:asNat a=some n){u}(V:aX g a u):∃k,u = .int k (Int.ofNat n):=by unfold asNat at h;split at h;simp at h;subst h;exact⟨_,V⟩;grind
def iz(o:Option Value):Option Nat->Prop
 |none=>o=none
 |some n=>∃k,o=some (.int k (Int.ofNat n))
def qT{ρ:Operand->Option AV}{ev:Operand->Value}(V:∀x v,ρ x=some v->aX g v (ev x)){o r}
  (h:bound ρ o=some r):iz (o.map ev) r:=by
 unfold bound at h;split at h;simp at h;subst h;simp[iz];rename_i x;split at h;rename_i a Y;split at h;rename_i n I;simp at h;subst h;obtain⟨k,e⟩:=AI I (V x a Y);exact⟨k,by simp[e]⟩;grind;grind
def o9{Y T h l D H}(W)(p:iz H (some h))(E:iz D (some l))(V:h<=T)(U:l<=h) :
  (Instr.sliceBounds W Y T D H none).run P w = .ok (l,h,T) w:=by
 obtain⟨k,rfl⟩:=p;obtain⟨S,rfl⟩:=E;simp[Instr.sliceBounds,ji V,ji U]
def oq{Y T h D H}(W)(p:iz H (some h))(E:iz D none)(V:h<=T) :
  (Instr.sliceBounds W Y T D H none).run P w = .ok (0,h,T) w:=by
 obtain⟨k,rfl⟩:=p;subst E;simp[Instr.sliceBounds,ji V]
def mz{Y T l D H}(W)(p:iz H none)(E:iz D (some l))(V:l<=Y) :
  (Instr.sliceBounds W Y T D H none).run P w = .ok (l,Y,T) w:=by
 obtain⟨k,rfl⟩:=E;subst p;simp[Instr.sliceBounds,ji V]
def mA{Y T D H}(W)(p:iz H none)(E:iz D none) :
  (Instr.sliceBounds W Y T D H none).run P w = .ok (0,Y,T) w:=by
 subst p E;rfl
def C5{Y T h l m D H mx}(W)(V:iz mx (some m))(p:iz H (some h))(E:iz D (some l))
  (C:m<=T)(S:h<=m)(Q:l<=h) :
  (Instr.sliceBounds W Y T D H mx).run P w = .ok (l,h,m) w:=by
 obtain⟨k,rfl⟩:=p;obtain⟨O,rfl⟩:=E;obtain⟨U,rfl⟩:=V;simp[Instr.sliceBounds,ji C,ji S,ji Q]
def tH{Y T h m D H mx}(W)(V:iz mx (some m))(p:iz H (some h))(E:iz D none)
  (C:m<=T)(S:h<=m) :
  (Instr.sliceBounds W Y T D H mx).run P w = .ok (0,h,m) w:=by
 obtain⟨k,rfl⟩:=p;obtain⟨U,rfl⟩:=V;subst E;simp[Instr.sliceBounds,ji C,ji S]
def mQ.cut{G s T S Y}(U:Y=S.length)(h:mQ G s T S)(l E m)(Q:l<=E)(O:E<=Y)(B:E<=m) :
  mQ G s (if m=l then T else T.map (·.add (l*s))) ((S.take E).drop l):=by
 rcases h with rfl|⟨b,o,rfl,V⟩
 left;simp;by_cases e:m=l;left;simp;omega;right;refine⟨b,o+l*s,by simp[e,Addr.add_lit],?_⟩;exact(V.take (n:=E)).drop
def iU(hX:cI P X){t e i j}(H:X.ti t=some i)(I:i.kind = .slice e)(W:X.ti e=some j){base Y T D N mx}
  {l h m}(U:∀w,(Instr.sliceBounds true Y T D N mx).run P w = .ok (l,h,m) w) :
  (Instr.sliceAt t (.slice base Y T) D N mx).run P w = .ok (.slice (if m=l then base else base.map (·.add (l*j.size))) (h-l) (m-l)) w:=by
 obtain⟨d,C,G,_⟩:=hX.run_underlying (w:=w) H;rw[I]at G;subst G;simp[Instr.sliceAt,Instr.slice,C,U,hX.run_sizeOf W]
def Kk(hX:cI P X){t i}(H:X.ti t=some i)(I:i.kind = .str){s D N}
  {l h m}(U:∀w,(Instr.sliceBounds false s.size s.size D N none).run P w = .ok (l,h,m) w) :
  (Instr.sliceAt t (.string s) D N none).run P w = .ok (.string (s.extract l h)) w:=by
 obtain⟨d,C,G,_⟩:=hX.run_underlying (w:=w) H;rw[I]at G;subst G;simp[Instr.sliceAt,Instr.slice,C,U]
def Ik{a s U}(h:rowsOf a=some (s,U)){u}(V:aX g a u) :
  ∃S Y T,u = .slice S Y T/\Y=U.length/\Y<=T/\mQ g.G s S U:=by
 unfold rowsOf at h;split at h;obtain⟨rfl,rfl⟩:=h;obtain⟨S,Y,T,e,E,D,V,_⟩:=V;grind;obtain⟨rfl,rfl⟩:=h;exact V;grind
def Br.drop{s S Y T l}:∀{k},Br g s S Y T k->l<=Y ->
  Br g s (if T=l then S else S.map (·.add (l*s))) (Y-l) (T-l) k
 |.exact,h,_=>by simp only[Br]at h ⊢;omega
 |.tok K n,h,E=>by
  obtain⟨q,U,e,I,V⟩:=h;refine⟨q,U,e,I,λp=>?_⟩;rcases V p with V|⟨b,D,H,o,rfl,rfl,Q,O,B⟩
  omega;by_cases W:T=l;omega;right;refine⟨b,D,H,o+l*s,Z,by simp[W,Addr.add_lit],?_,?_,ai⟩;rw[Q];rw[akf,<- ajM];congr 2;omega;rw[O];rw[akf,<- ajM];congr 2;omega
def ZH{s V D h ex v}(e:FF s V D h ex=some v) :
  h<=V.length/\D.getD 0<=h/\v=if ex then .own .exact s ((V.take h).drop (D.getD 0))else .c (.sl s ((V.take h).drop (D.getD 0))):=by
 unfold FF at e;split at e
 ·rename_i W U;obtain⟨rfl,E⟩:=tG U;cases D with
  |none =>
   grind
  |some l =>
   split at e;rename_i r T;obtain⟨rfl,Y⟩:=mR T;grind;grind
 grind
def Lk(hX:cI P X){t i}(E:X.ti t=some i){d}(C:∀e,i.kind = .slice e->∃j,X.ti e=some j/\j.size=d)
  {x v D q mx}(h:Et i.kind d x D q mx=some v){u}(m:aX g x u)
  {S Q M}(W:iz S D)(V:iz Q q)(O:iz M mx) :
  ∃r,(Instr.sliceAt t u S Q M).run P w = .ok r w/\aX g v r:=by
 have cut:∀{e:Nat}{F:Ψ}{z:Option Addr}{U A:Nat}{p:Nat}{ex:Bool},i.kind = .slice e->U=F.length->U<=A->mQ g.G d z F ->
   q=some p->(mx=if ex then some p else none)->FF d F D p ex=some v ->
   ∃r,(Instr.sliceAt t (.slice z U A) S Q M).run P w = .ok r w/\aX g v r:=by
  intro e F z U A p ex I T Y N e1 e2 Tm;obtain⟨j,K,J⟩:=C e I;obtain⟨c1,b,c3⟩:=ZH Tm;subst e1;cases ex with
  |false =>
   subst e2;simp only[iz]at O;subst O;have B:∀w,(Instr.sliceBounds true U A S Q none).run P w = .ok (D.getD 0,p,A) w:=by
    intro w;cases D with
    |none=>exact oq true V W ai
    |some l=>exact o9 true V W ai (by simpa using b)
   refine⟨_,iU hX E I K B,?_⟩;rw[c3,J];simp only[Bool.false_eq_true,aiQ,aX,Rel];exact⟨_,_,_,Z,oe,ai,(mQ.cut T N (D.getD 0) p A b ai ai)⟩
  |true =>
   subst e2;have B:∀w,(Instr.sliceBounds true U A S Q M).run P w = .ok (D.getD 0,p,p) w:=by
    intro w;cases D with
    |none=>exact tH true O V W ai ai
    |some l=>exact C5 true O V W ai ai (by simpa using b)
   refine⟨_,iU hX E I K B,?_⟩;rw[c3,J];simp only[aX,if_true];exact⟨_,_,_,Z,oe,ai,(mQ.cut T N (D.getD 0) p p b ai ai),Z⟩
 unfold Et at h;split at h
 ·
  rename_i I;rename_i s;simp only[aX,Rel]at m;subst m;split at h;simp at h;simp only[iz]at O;subst O;have fin:∀{l a:Nat},(∀w,(Instr.sliceBounds false (ByteArray.mk s.toArray).size (ByteArray.mk s.toArray).size S Q none).run P w = .ok (l,a,(ByteArray.mk s.toArray).size) w) ->
    v = .c (.str ((s.take a).drop l))->∃r,(Instr.sliceAt t (.string ⟨s.toArray⟩) S Q none).run P w = .ok r w/\aX g v r:=by
   intro l a B e;refine⟨_,Kk hX E I B,?_⟩;rw[e,extract_mk];simp[aX,Rel]
  cases q with
  |none =>
   simp only at h;cases D with
   |none =>
    simp at h;subst h;exact fin (λw=>mA false V W) (by simp[zG])
   |some l =>
    simp only at h;split at h;rename_i r y;obtain⟨rfl,f⟩:=mR y;simp at h;subst h;exact fin (λw=>mz false V W (by rw[zG];exact f)) (by simp[zG]);simp at h
  |some p =>
   simp only at h;split at h
   ·rename_i s1 uq;obtain⟨rfl,Fg⟩:=tG uq;cases D with
    |none =>
     simp at h;subst h;exact fin (λw=>oq false V W (by rw[zG];exact Fg)) cS
    |some l =>
     simp only at h;split at h;rename_i r y;obtain⟨rfl,f⟩:=mR y;simp at h;subst h;exact fin (λw=>o9 false V W (by rw[zG];exact Fg) (by simp at f;omega)) cS;simp at h
   simp at h
 ·
  rename_i e o s F I;simp only[aX]at m;obtain⟨z,U,A,rfl,T,Y,N,H⟩:=m;split at h;simp at h;rename_i hs;have:=beq_true hs;subst this;obtain⟨j,K,J⟩:=C e I;split at h;simp only[iz]at O;subst O;split at h;rename_i l;split at h;rename_i r y;obtain⟨rfl,f⟩:=mR y;simp at h;subst h;refine⟨_,iU hX E I K (λw=>mz true V W ai),?_⟩;rw[J];simp only[aX];refine⟨_,_,_,Z,oe,ai,?_,H.drop ai⟩;have:=mQ.cut T N l U A ai (acd _) Y;rwa[ajD ai]at this;simp at h;simp at h;subst h;refine⟨_,iU hX E I K (λw=>mA true V W),?_⟩;rw[J];simp only[aX];refine⟨_,_,_,Z,oe,ai,?_,H.drop ai⟩;have:=mQ.cut T N 0 U A ai (acd _) Y;rwa[ajD ai]at this;simp_all;split at h;simp_all;simp at h;simp at h
 rename_i e s F I;simp only[aX,Rel]at m;obtain⟨z,U,A,rfl,T,Y,N⟩:=m;split at h;simp at h;rename_i hs;have:=beq_true hs;subst this;obtain⟨j,K,J⟩:=C e I;split at h;simp only[iz]at O;subst O;split at h;rename_i l;split at h;rename_i r y;obtain⟨rfl,f⟩:=mR y;simp at h;subst h;refine⟨_,iU hX E I K (λw=>mz true V W ai),?_⟩;rw[J];simp only[aX,Rel];refine⟨_,_,_,Z,oe,ai,?_⟩;have:=mQ.cut T N l U A ai (acd _) Y;rwa[ajD ai]at this;simp at h;simp at h;subst h;refine⟨_,iU hX E I K (λw=>mA true V W),?_⟩;rw[J];simp only[aX,Rel];refine⟨_,_,_,Z,oe,ai,?_⟩;have:=mQ.cut T N 0 U A ai (acd _) Y;rwa[ajD ai]at this;exact cut I T Y N Z Z h;split at h;rename_i B;have:=beq_true B;subst this;exact cut (ex:=true) I T Y N Z Z h;simp at h;simp at h;simp at h
end
def qU:∀{Y V l r},bQ Y V l=some r ->
  r.length=l.length/\Y+V.length<=l.length+(if V=[]then Y else 0)/\∀j,r[j]?=if Y<=j/\j<Y+V.length then V[j-Y]? else l[j]?
 |Y,[],l,r,h=>by cases Y<;>simp[bQ]at h<;>subst h<;>simp<;>intros<;>omega
 |0,v::V,[],r,h=>by simp[bQ]at h
 |0,v::V,x::l,r,h=>by simp only[bQ]at h;split at h;rename_i H E;simp at h;subst h;obtain⟨h1,U,B⟩:=qU E;refine⟨adx,?_,?_⟩;simp_all;grind;simp at h
 |n+1,v::V,[],r,h=>by simp[bQ]at h
 |n+1,v::V,x::l,r,h=>by simp only[bQ]at h;split at h;rename_i H E;simp at h;subst h;obtain⟨h1,U,B⟩:=qU E;refine⟨adx,?_,?_⟩;simp at U ⊢;omega;grind;simp at h
def Tn{Y v}{V l r:Φ}(h:bQ Y (v::V) l=some r):Y+(v::V).length<=l.length:=by have:=(qU h).2.1;simpa using this
section
variable {P:Program}{X:Ctx}{w:World}{g:Gh}
def AJ{a F}(h:kG a=some F){u}(V:aX g a u) :
  cn g F u.cells.toList/\F.all AV.one:=by
 have Y:∀(O:Ψ)(M:L Value),cy g.G O M->O.all CV.one->cn g (O.map AV.c) M/\(O.map AV.c).all AV.one:=by
  intro O
  induction O with
  |nil=>intro M J _;subst J;simp[cn]
  |cons c O N =>
   intro M J I;obtain⟨u,M,rfl,D,V⟩:=J;simp at I;obtain⟨B,Q⟩:=N M V (by simpa using I.2);exact⟨by simp;exact⟨u,M,Z,by simpa only[aX]using D,B⟩,by simp only[ahM,aiK,AV.one,I.1];exact Q⟩
 cases a with
 |c v =>
  have U:∀(v:CV)(u:Value),v.one->Rel g.G v u->cn g [.c v] u.cells.toList/\([AV.c v].all AV.one):=by
   intro v u S V;have D:u.cells.toList=[u]:=by
    cases v<;>simp only[Rel]at V<;>simp[CV.one]at S
    case int=>subst V;rfl
    case bool=>subst V;rfl
    case str=>subst V;rfl
    case nL=>subst V;rfl
    case sl=>obtain⟨_,_,_,rfl,_⟩:=V;rfl
    case ip=>obtain⟨_,_,rfl,_⟩:=V;rfl
    case sX=>obtain⟨_,rfl,_⟩:=V;rfl
    case any =>
     cases u<;>first|rfl|(exact absurd Z (V.1 _))
    case wC=>obtain⟨_,rfl⟩:=V;rfl
   rw[D];exact⟨by simp only[cn,aX];exact⟨u,[],Z,V,Z⟩,by simp[AV.one,S]⟩
  simp only[aX]at V;cases v<;>simp only[kG,El,ajB,reduceCtorEq]at h
  case agg O =>
   subst h;simp only[Rel]at V;obtain⟨M,rfl,J,I⟩:=V;have:=Y O M J I;simpa[Value.cells]using this
  all_goals (subst h;exact U _ _ rfl V)
 |own k s C =>
  simp[kG]at h;subst h;have W:=V;simp only[aX]at W;obtain⟨A,P,T,rfl,_⟩:=W;refine⟨?_,Z⟩;simp only[Value.cells,cn];exact⟨_,[],Z,V,Z⟩
 |ptr K E =>
  simp[kG]at h;subst h;have W:=V;simp only[aX]at W;obtain⟨b,_,rfl⟩:=W;refine⟨?_,Z⟩;simp only[Value.cells,cn];exact⟨_,[],Z,V,Z⟩
 |iI K E s n =>
  simp[kG]at h;subst h;have W:=V;simp only[aX]at W;obtain⟨b,T,o,_,rfl,_⟩:=W;refine⟨?_,Z⟩;simp only[Value.cells,cn];exact⟨_,[],Z,V,Z⟩
 |any =>
  simp[kG]at h;subst h;have W:=V;simp only[aX]at W;have D:u.cells.toList=[u]:=by cases u<;>first|rfl|exact absurd Z (W.1 _)
  rw[D];refine⟨?_,Z⟩;simp only[cn];exact⟨_,[],Z,V,Z⟩
 |agg O =>
  simp[kG]at h;subst h;simp only[aX]at V;obtain⟨M,rfl,J,I⟩:=V;exact⟨by simpa[Value.cells]using J,I⟩
 |eK O=>simp[kG]at h
def Il(Y):∀(l:L Value)(k)(cells),Y+k+l.length<=cells.size ->
  ((l.zipIdx k).foldl (λV p=>V.setIfInBounds (Y+p.2) p.1) cells).size=cells.size /\
  ∀j,((l.zipIdx k).foldl (λ(V:Array Value)(p)=>V.setIfInBounds (Y+p.2) p.1) cells)[j]? =
   if Y+k<=j/\j<Y+k+l.length then l[j-(Y+k)]? else cells[j]?
 |[],k,cells,_=>by simp;intros;omega
 |v::l,k,cells,h=>by simp only[ajE,List.foldl_cons];obtain⟨U,T⟩:=Il Y l (k+1) (cells.setIfInBounds (Y+k) v) (by simp at h ⊢;omega);refine⟨by rw[U];simp,λj=>?_⟩;rw[T];by_cases D:Y+(k+1)<=j/\j<Y+(k+1)+l.length;grind;grind
def Im(hX:cI P X){ρ:Operand->Option AV}{ev:Operand->Value}(V:∀x v,ρ x=some v->aX g v (ev x)){A:tad}(Y:Nat->Option (Nat×Nat))
  (T:∀i F K j,nth A i=some (F,K)->X.ti K=some j->Y i=some (F,j.size)) :
  ∀{I cells r vs},uD X ρ A I cells=some r->cn g cells vs.toList->cells.all AV.one ->
   ∃z,Instr.fill Y vs (I.map λ(i,x)=>(i,ev x))=some z/\cn g r z.toList/\r.all AV.one
 |[],cells,r,vs,h,G,W=>by simp[uD]at h;subst h;exact⟨vs,by simp[Instr.fill],G,W⟩
 |(i,x)::rest,cells,r,vs,h,G,W=>by
  simp only[uD]at h;split at h
  ·rename_i F K a f d;split at h
   ·rename_i j z B O;split at h
    ·rename_i m N J;have H:=beq_true N;obtain⟨S,U⟩:=AJ O (V x a d);have Q:z.length=(ev x).cells.size:=(by rw[(cn.get S).1];simp);have E:j.size≠0:=(by obtain⟨_,_,_,_,_,_,D⟩:=hX.ti K j B;exact D);obtain⟨C,c2⟩:=cn.get G;obtain⟨w1,w2,u⟩:=qU J;have q:F+z.length<=cells.length:=(by grind);have b:cells.length=vs.size:=(by rw[C];simp);obtain⟨f1,f2⟩:=Il F (ev x).cells.toList 0 vs oe;have hf:Instr.fill Y vs (((i,x)::rest).map λ(i,x)=>(i,ev x)) =
       Instr.fill Y ((ev x).cells.zipIdx.foldl (λo (c,j)=>o.setIfInBounds (F+j) c) vs) (rest.map λ(i,x)=>(i,ev x)):=by
      simp only[ahM,Instr.fill,T i F K j f B];rw[if_neg];simp;omega
     have ZJ:(ev x).cells.zipIdx.foldl (λo (c,j)=>o.setIfInBounds (F+j) c) vs =
       ((ev x).cells.toList.zipIdx 0).foldl (λ(o:Array Value)(p:Value×Nat)=>o.setIfInBounds (F+p.2) p.1) vs:=by
      rw[<- Array.foldl_toList];simp
     rw[hf,ZJ];obtain⟨a1,a2⟩:=cn.get S;apply Im hX V Y T h;apply cn.mm;simp_all;grind;rw[ajO]at W U ⊢;intro y hy;obtain⟨k,M⟩:=ajQ hy;rw[u]at M;split at M;grind;grind
    simp at h
   simp at h
  simp at h
def wG:(∀a v u,close a=some v->aX g a u->Rel g.G v u/\(a.one->v.one)):=by
 intro a;refine AV.rec (motive_1:=λa=>∀(v:CV)(u:Value),close a=some v->aX g a u->Rel g.G v u/\(a.one->v.one))
  (motive_2:=λl=>∀(A:Ψ)(F:L Value),rL l=some A->cn g l F->cy g.G A F/\(l.all AV.one->A.all CV.one)/\A.length=l.length) ?_ ?_ ?_ ?_ ?_ ?_ ?_ ?_ ?_ a
 intro v j u h V;simp[close]at h;subst h;exact⟨by simpa only[aX]using V,id⟩;intro k s q v u h V;simp[close]at h;subst h;obtain⟨y,Y,T,rfl,D,z,B,_⟩:=V;exact⟨by simp only[Rel];exact⟨y,Y,T,Z,D,z,B⟩,λ_=>rfl⟩;intro K x v u h;simp[close]at h;intro K x s n v u h;simp[close]at h;intro v u h;simp[close]at h;intro o S v u h V;simp only[close]at h;split at h;rename_i l E;simp at h;subst h;obtain⟨F,rfl,D,z⟩:=V;obtain⟨P,O,_⟩:=S l F E D;exact⟨by simp only[Rel];exact⟨F,Z,P,O z⟩,λh=>by simp[AV.one]at h⟩;grind;intro o S v u h V;simp only[close]at h;split at h;rename_i l E;simp at h;subst h;simp only[aX]at V;obtain⟨F,rfl,D,z⟩:=V;obtain⟨P,O,H⟩:=S l F E D;exact⟨by simp only[Rel];exact⟨F,Z,P,ai⟩,λh=>by simp[AV.one]at h⟩;simp at h;intro A F h V;simp[rL]at h;subst h;subst V;simp[cy];intro a l W U A F h V;simp only[rL]at h;split at h;rename_i v J;split at h;rename_i r Q;simp at h;subst h;simp only[cn]at V;obtain⟨u,F,rfl,D,z⟩:=V;obtain⟨N,m⟩:=W v u J D;obtain⟨C,M,I⟩:=U r F Q z;refine⟨by simp only[cy];exact⟨u,F,Z,N,C⟩,λh=>?_,by simp[I]⟩;simp only[aiK,aaI]at h ⊢;exact⟨m h.1,M h.2⟩;simp at h;simp at h
def qf{U:Operand->Option AV}{ev:Operand->Value}(V:∀x v,U x=some v->aX g v (ev x)) :
  ∀{l r},iC U l=some r->cy g.G r (l.map ev)
 |[],r,h=>by simp[iC]at h;subst h;simp[cy]
 |x::l,r,h=>by simp only[iC]at h;split at h;rename_i a Y;split at h;rename_i v u;split at h;rename_i H W;simp at h;subst h;exact⟨_,_,rfl,(wG a v _ u (V x a Y)).1,qf V W⟩;grind;grind;grind
def Eu{U:Type}{V rest:List U}{Y c}(h:V.drop Y=c::rest):V[Y]?=some c:=by have:=ahm (λl=>l[0]?) h;simpa using this
def Io(hX:cI P X){t i}(H:X.ti t=some i){vs off r}
  (h:(∃K rest,cn g K vs.toList/\K.all AV.one/\eB off K=some rest/\mK i rest=some r) \/
   (∃K rest,cy g.G K vs.toList/\K.all CV.one/\eB off K=some rest/\Ep i rest=some r)) :
  ∃u,(part t vs off).run P w = .ok u w/\aX g r u:=by
 have p:i.size≠0:=by obtain⟨_,_,_,_,_,_,O⟩:=hX.ti t i H;exact O
 rcases h with ⟨K,rest,J,F,B,Y⟩|⟨K,rest,J,F,B,Y⟩
 ·obtain⟨rfl,E⟩:=mR B;obtain⟨M,T⟩:=cn.get J;unfold mK at Y;cases W:i.isAgg<;>rw[W]at Y<;>simp only at Y;split at Y;rename_i c V S;simp at Y;subst Y;have N:K[off]?=some c:=Eu S;obtain⟨u,A,Q⟩:=T off c N;refine⟨u,?_,Q⟩;have:vs[off]?=some u:=(by simpa using A);simp[part,hX.sN H,W,this];simp at Y;split at Y;rename_i l U;simp at Y;subst Y;obtain⟨rfl,I⟩:=tG U;refine⟨.agg (vs.extract off (off+i.size)),by simp[part,hX.sN H,W,hX.run_sizeOf H],?_⟩;simp only[aX];refine⟨(vs.extract off (off+i.size)).toList,Z,?_,?_⟩;apply cn.mm;simp_all;grind;grind;simp at Y
 obtain⟨rfl,E⟩:=mR B;obtain⟨M,T⟩:=cy.get J;unfold Ep at Y;cases W:i.isAgg<;>rw[W]at Y<;>simp only at Y
 ·split at Y
  ·rename_i c V S;simp at Y;subst Y;have N:K[off]?=some c:=Eu S;obtain⟨u,A,Q⟩:=T off c N;refine⟨u,?_,by simpa only[aX]using Q⟩;have:vs[off]?=some u:=by simpa using A
   simp[part,hX.sN H,W,this]
  simp at Y
 split at Y;rename_i l U;simp at Y;subst Y;obtain⟨rfl,I⟩:=tG U;refine⟨.agg (vs.extract off (off+i.size)),by simp[part,hX.sN H,W,hX.run_sizeOf H],?_⟩;simp only[aX,Rel];refine⟨(vs.extract off (off+i.size)).toList,Z,?_,?_⟩;apply cy.mm;simp_all;grind;grind;simp at Y
def FG(hX:cI P X){t i}(H:X.ti t=some i){A:tad}(I:i.kind = .struct A){f O K}(hf:nth A f=some (O,K))(b o) :
  (Instr.fieldAt t (.pointer (some ⟨b,o,none⟩)) f).run P w = .ok (.pointer (some ⟨b,o+O,none⟩)) w:=by
 obtain⟨d,C,G,_⟩:=hX.run_underlying (w:=w) H;rw[I]at G;obtain⟨Y,rfl,N,J⟩:=G;rw[vF,<- N]at hf;simp at hf;obtain⟨V,U,Q,S⟩:=hf;have W:V∈Y.toList:=by rw[alv];exact Array.mem_of_getElem? U
 obtain⟨M,T,q⟩:=J V W;simp[Instr.fieldAt,C,U,Instr.sureAddr,fieldPlace,sizeOf,typeInfo,T,q,Q,Addr.add_lit]
def Ll(hX:cI P X){t i}(H:X.ti t=some i){A:tad}(I:i.kind = .struct A){f T K}(hf:nth A f=some (T,K))(S) :
  (Instr.field t (.agg S) f).run P w=(part K S T).run P w:=by
 obtain⟨d,C,G,_⟩:=hX.run_underlying (w:=w) H;rw[I]at G;obtain⟨Y,rfl,O,N⟩:=G;rw[vF,<- O]at hf;simp at hf;obtain⟨U,W,Q,V⟩:=hf;simp[Instr.field,C,W,asAgg,Q,V]
def yp(hX:cI P X):∀(Y:L Field),(∀f∈Y,∃M,P.info? f.type=some M/\M.size≠0) ->
  ∃W:tad,(Y.mapM (m:=Sem) λf=>do pure (f.offset,<- sizeOf f.type)).run P w = .ok W w/\W.length=Y.length /\
   ∀(k:Nat)(f),Y[k]?=some f->∃M,P.info? f.type=some M/\W[k]?=some (f.offset,M.size)
 |[],_=>⟨[],cS,Z,cS⟩
 |f::Y,h=>by obtain⟨M,A,Q⟩:=h f cS;obtain⟨W,V,U,B⟩:=yp hX Y (λf hf=>h f (by simp[hf]));refine⟨(f.offset,M.size)::W,?_,by simp[U],?_⟩;simp only[alh,Sem.run_bind,sizeOf,typeInfo,run_program,Result.andThen_ok,A,Sem.run_pure];simp only[sizeOf,typeInfo]at V;rw[V];rfl;grind
def run_build(hX:cI P X){t i}(H:X.ti t=some i){U:tad}(T:i.kind = .struct U){z r:Φ}(S:i.zero=some (.agg z))
  {F:Operand->Option AV}{y:Operand->Value}(V:∀x v,F x=some v->aX g v (y x)){I:Array (Nat×Operand)}
  (h:uD X F U I.toList z=some r) :
  ∃u,(Instr.build t (I.map λ(i,x)=>(i,y x))).run P w = .ok u w/\aX g (.agg r) u:=by
 obtain⟨d,C,G,_⟩:=hX.run_underlying (w:=w) H;rw[T]at G;obtain⟨Y,rfl,b,a⟩:=G;obtain⟨zv,Q,B,z3⟩:=hX.nW (w:=w) H S;have O:=B g;obtain⟨N,rfl,K,J⟩:=O;obtain⟨E,p1,p2,D⟩:=yp (P:=P) (w:=w) hX Y.toList a
 obtain⟨o,f1,q,p⟩:=Im hX V (λ(i:Nat)=>E[i]?) (by
  intro i ω ft j A e2;rw[vF,<- b]at A;simp at A;obtain⟨fl,e3,e4,e5⟩:=A;obtain⟨ψ,M,e7⟩:=D i fl (by simpa using e3);obtain⟨χ,W,e9,_⟩:=hX.ti ft j e2;rw[e5]at M;rw[M]at W;simp at W;subst W
  simp[e7,e4,e9]) (vs:=N.toArray) h (by simpa using K) J
 refine⟨.agg o,?_,by simp only[aX];exact⟨o.toList,cS,q,p⟩⟩;simp only[Instr.build,Sem.run_bind,Q,Result.andThen_ok,C,Value.cells]
 rw[show(Y.mapM (m:=Sem) λf=>do pure (f.offset,<- sizeOf f.type))=(Y.toList.mapM λf=>do pure (f.offset,<- sizeOf f.type)) >>= λl=>pure l.toArray from by
  rw[akr];rfl]
 simp_all
def zg{g k n u}(h:aX g (.c (.int k n)) u):u = .int k n:=by simpa only[aX,Rel]using h
def adf(hX:cI P X){t i}(H:X.ti t=some i){a v}(h:afZ i.kind a=some v){u}(p:aX g a u)(S) :
  ∃r,(Builtin.len_ #[t] S #[u]).run P w = .ok r w/\aX g v r:=by
 obtain⟨d,C,G,_⟩:=hX.run_underlying (w:=w) H;unfold afZ at h;split at h;rename_i e o s V I;rw[I]at G;simp only[jX]at G;subst G;simp at h;subst h;simp only[aX]at p;obtain⟨U,Y,T,rfl,E,_⟩:=p;exact⟨.int .i64 Y,aeL,by simp[aX,Rel,E]⟩;rename_i e K Q s n I;rw[I]at G;simp only[jX]at G;subst G;simp at h;subst h;simp only[aX]at p;obtain⟨b,T,o,_,rfl,_⟩:=p;exact⟨.int .i64 n,aeL,rj⟩;rename_i e s V I;rw[I]at G;simp only[jX]at G;subst G;simp at h;subst h;simp only[aX,Rel]at p;obtain⟨U,Y,T,rfl,E,_⟩:=p;exact⟨.int .i64 Y,aeL,by simp[aX,Rel,E]⟩;rename_i s I;rw[I]at G;simp only[jX]at G;subst G;simp at h;subst h;simp only[aX,Rel]at p;subst p;exact⟨.int .i64 s.length,by simp[Builtin.len_,C,goInt,zG],rj⟩;rename_i n e I;rw[I]at G;simp only[jX]at G;subst G;simp at h;subst h;exact⟨.int .i64 n,by cases u<;>simp[Builtin.len_,C,goInt],rj⟩;simp at h
def Qk(hX:cI P X){S}
  (jH:∀b o v,g.G b o=some v->w.cell? ⟨b,o,none⟩=some v)
  (ο:∀k cs,au k S=some cs->∃b,g.box k=some b/\cC w g b 0 cs)
  {ρ:Operand->Option AV}{ev:Operand->Value}(V:∀x v,ρ x=some v->aX g v (ev x)){o v}(h:gX X S ρ o.op=some v) :
  ∃u,(execOp ev o).run P w = .ok (.value u) w/\aX g v u:=by
 have fin:∀{s:Sem Value},(∃u,s.run P w = .ok u w/\aX g v u)->∃u,(do pure (Next.value (<- s)):Sem Next).run P w = .ok (.value u) w/\aX g v u:=by simp_all
 have ξ:∀{b n:Nat}{cs r:Φ},cC w g b 0 cs->eB n cs=some r->cC w g b n r:=by intro b n cs r F h2;obtain⟨rfl,_⟩:=mR h2;apply cC.mm;intro j c N;rw[akp]at N;simpa using F.get (n+j) c N
 obtain⟨η,op,υ,pos,ν,guard⟩:=o;simp only at h;unfold gX at h;split at h;rename_i x;exact⟨ev x,by simp[execOp],V x v h⟩;rename_i x;exact⟨ev x,by simp[execOp],V x v h⟩;rename_i c a b;split at h;rename_i t av bv F h2 B;have D:=V c _ F;simp only[aX,Rel]at D;have ha:=V a _ h2;have U:=V b _ B;refine⟨if t then ev a else ev b,by simp[execOp,D,asBool],?_⟩;unfold aeA at h;split at h;grind;grind;simp at h;rename_i t x;split at h;rename_i i μ off F h2;have O:=V x _ h2;simp only[aX]at O;obtain⟨b,U,O⟩:=O;split at h;rename_i cells kF;split at h;rename_i l E;obtain⟨b',q,κ⟩:=ο μ cells kF;rw[U]at q;simp at q;subst q;simp only[execOp];rw[O];exact fin (ZD hX F (ξ κ E) h);simp at h;simp at h;rename_i i cs F h2;have O:=V x _ h2;simp only[aX,Rel]at O;obtain⟨b,o,O,D⟩:=O;simp only[execOp];rw[O];exact fin (Xh hX jH F D h);simp at h;rename_i x;split at h;rename_i k o F;have O:=V x _ F;simp at h;subst h;have A:=O;simp only[aX]at A;obtain⟨b,U,e⟩:=A;exact⟨ev x,by simp[execOp,e],O⟩;rename_i cs F;have O:=V x _ F;simp at h;subst h;have A:=O;simp only[aX,Rel]at A;obtain⟨b,o,e,_⟩:=A;exact⟨ev x,by simp[execOp,e],O⟩;rename_i f cs F;have O:=V x _ F;simp at h;subst h;have A:=O;simp only[aX,Rel]at A;obtain⟨vs,e,_⟩:=A;exact⟨ev x,by simp[execOp,e],O⟩;simp at h;rename_i op t x y _;split at h;rename_i i a b F h2 B;exact fin (ade hX F h (V x _ h2) (V y _ B) x y);simp at h;rename_i op _ x;split at h;rename_i b F;have O:=V x _ F;simp only[aX,Rel]at O;simp at h;subst h;exact⟨.bool !b,by simp[execOp,O,Op.unary],rj⟩;rename_i k n F;have O:=V x _ F;simp only[aX,Rel]at O;simp at h;subst h;exact⟨.int k (k.wrap (0-n)),by simp[execOp,O,Op.unary,Op.intArith],rj⟩;simp at h;rename_i s d x;split at h;rename_i i j k n F h2 B;have O:=V x _ B;simp only[aX,Rel]at O;split at h;rename_i k' I;simp at h;subst h;obtain⟨d1,W,_,J⟩:=hX.run_underlying (w:=w) F;obtain⟨d2,e3,e4,e5⟩:=hX.run_underlying (w:=w) h2;rw[I]at e4;simp only[jX]at e4;subst e4;exact⟨.int k' (k'.wrap n),by simp[execOp,O,convert,W,e3,Conv.intToInt],rj⟩;simp at h;simp at h;rename_i t x f;split at h;rename_i i a F h2;have O:=V x _ h2;split at h;rename_i fs I;split at h;rename_i off ft hf;split at h;rename_i k o;simp at h;subst h;simp only[aX]at O;obtain⟨b,U,e⟩:=O;exact⟨_,by simp[execOp,e,FG hX F I hf];rfl,by simp only[aX];exact⟨b,U,Z⟩⟩;rename_i cs;split at h;rename_i r p;simp at h;subst h;simp only[aX,Rel]at O;obtain⟨b,o,e,D⟩:=O;obtain⟨rfl,_⟩:=mR p;exact⟨_,by simp[execOp,e,FG hX F I hf];rfl,by simp only[aX,Rel];exact⟨b,o+off,Z,D.drop⟩⟩;simp at h;simp at h;simp at h;simp at h;simp at h;rename_i t x f;split at h;rename_i i a F h2;have O:=V x _ h2;split at h;rename_i fs I;split at h;rename_i off ft hf;split at h;rename_i j N;split at h;rename_i cs;split at h;rename_i r p;simp only[aX]at O;obtain⟨vs,e,c1,c2⟩:=O;have:=Io (P:=P) (w:=w) hX N (vs:=vs.toArray) (off:=off) (.inl ⟨cs,r,by simpa using c1,c2,p,h⟩);simp only[execOp,e];refine fin ?_;rw[Ll hX F I hf];exact this;simp at h;rename_i cs;split at h;rename_i r p;simp only[aX,Rel]at O;obtain⟨vs,e,c1,c2⟩:=O;have:=Io (P:=P) (w:=w) hX N (vs:=vs.toArray) (off:=off) (.inr ⟨cs,r,by simpa using c1,c2,p,h⟩);simp only[execOp,e];refine fin ?_;rw[Ll hX F I hf];exact this;simp at h;simp at h;simp at h;simp at h;simp at h;simp at h
 ·rename_i t x ix;split at h
  ·rename_i i a na F h2 B;have O:=V x _ h2;have H:=V ix _ B;split at h
   ·rename_i n ψ;obtain⟨k,H⟩:=AI ψ H;obtain⟨d,kV,K,_⟩:=hX.run_underlying (w:=w) F;split at h
    ·rename_i e I;rw[I]at K;simp only[jX]at K;subst K;split at h
     ·rename_i j s τ N p;split at h
      ·rename_i r U χ;have:=beq_true U;subst this;simp at h;subst h;obtain⟨θ,ζ,ε,W,J,_,e3⟩:=Ik p O;rw[vF]at χ;have T:n<τ.length:=(List.getElem?_eq_some_iff.1 χ).1;rcases e3 with rfl|⟨b,o,rfl,ie⟩
       simp at T;have hg:=(ie.get n r χ).1;refine⟨.pointer (some ⟨b,o+n*j.size,none⟩),?_,by simp only[aX,Rel];exact⟨b,_,Z,hg⟩⟩;simp[execOp,W,H,Instr.indexAt,asIntOf,kV,J,T,hX.run_sizeOf N,Addr.add_lit]
      simp at h
     simp at h
    rename_i m e I;rw[I]at K;simp only[jX]at K;subst K;split at h;rename_i j k' o N π;simp at h;subst h;have T:n<m:=(by simpa[ajd]using π);simp only[aX]at O;obtain⟨b,U,W⟩:=O;refine⟨.pointer (some ⟨b,o+n*j.size,none⟩),?_,by simp only[aX];exact⟨b,U,Z⟩⟩;simp[execOp,W,H,Instr.indexAt,asIntOf,kV,Instr.sureAddr,T,hX.run_sizeOf N,Addr.add_lit];simp at h;simp at h
   simp at h
  simp at h
 rename_i t x ix;split at h;rename_i i a na F h2 B;have O:=V x _ h2;have H:=V ix _ B;split at h;rename_i n ψ;obtain⟨k,H⟩:=AI ψ H;obtain⟨d,kV,K,_⟩:=hX.run_underlying (w:=w) F;split at h;rename_i s I;rw[I]at K;simp only[jX]at K;subst K;simp only[aX,Rel]at O;split at h;rename_i b U;simp at h;subst h;rw[vF]at U;have T:n<s.length:=(List.getElem?_eq_some_iff.1 U).1;have jW:(ByteArray.mk s.toArray)[n]?=some b:=(by rw[getElem?_pos _ _ (by rw[zG];exact T)];congr 1;have:=(List.getElem?_eq_some_iff.1 U).2;rw[<- this];rfl);refine⟨.int .u8 b.toNat,?_,rj⟩;simp[execOp,O,H,Instr.index,asIntOf,kV,jW];simp at h;simp at h;simp at h;simp at h;rename_i x n;split at h;rename_i cs F;have O:=V x _ F;simp only[aX]at O;obtain⟨vs,e,c1,_⟩:=O;rw[vF]at h;obtain⟨u,W,J⟩:=(cn.get c1).2 n v h;exact⟨u,by simp[execOp,e,Instr.extract,W],J⟩;rename_i cs F;have O:=V x _ F;simp only[aX,Rel]at O;obtain⟨vs,e,c1,_⟩:=O;split at h;rename_i cv qx;simp at h;subst h;rw[vF]at qx;obtain⟨u,W,J⟩:=(cy.get c1).2 n cv qx;exact⟨u,by simp[execOp,e,Instr.extract,W],by simpa only[aX]using J⟩;simp at h;simp at h;rename_i t ι;split at h;rename_i i F;split at h;rename_i fs z I hz;split at h;rename_i cells D;simp at h;subst h;exact fin (run_build hX F I hz V D);simp at h;simp at h;simp at h;rename_i t x lo hi mx;split at h;rename_i i a δ γ mx' F h2 B h4 h5;have O:=V x _ h2;have b1:=qT V B;have b2:=qT V h4;have b3:=qT V h5;split at h;rename_i e I;split at h;rename_i j N;exact fin (Lk hX F (λe' M=>by rw[I]at M;simp at M;subst M;exact⟨j,N,rfl⟩) h O b1 b2 b3);simp at h;rename_i I;exact fin (Lk hX F (λe' M=>absurd M (I e')) h O b1 b2 b3);simp at h
 ·rename_i f first C
  split at h
  ·rename_i l F h2;simp at h;subst h;have:=qf V h2;refine⟨.func (.func f) #[] (C.map ev),?_,by simp only[aX,Rel];exact⟨C.toList.map ev,by rw[<- ajp],this⟩⟩;have hf:first = #[]:=by simpa using F
   simp[execOp,hf,Instr.makeFunc]
  simp at h
 rename_i ω Q;split at h;rename_i x t O ht;split at h;rename_i i a F h2;have W:ω = #[x]:=(by simpa using ahm List.toArray O);have J:Q = #[t]:=(by simpa using ahm List.toArray ht);obtain⟨r,r1,r2⟩:=adf (P:=P) (w:=w) hX F h (V x a h2) υ;refine⟨r,?_,r2⟩;simp[execOp,resolve,invoke,builtin,W,J,r1];simp at h;simp at h
 ·rename_i ω _;unfold ahV at h;split at h
  ·rename_i k a k' b Y;simp at h;subst h;cases E:ω.toList with
   |nil=>rw[E]at Y;simp at Y
   |cons x l =>
    cases l with
    |nil=>rw[E]at Y;simp at Y
    |cons y l =>
     cases l with
     |cons z l=>rw[E]at Y;simp at Y
     |nil =>
      rw[E]at Y;simp at Y;have O:=V x _ Y.1;have hy:=V y _ Y.2;simp only[aX,Rel]at O hy;refine⟨.int k (if b<a then b else a),?_,rj⟩;have W:ω = #[x,y]:=(by simpa using ahm List.toArray E);simp[execOp,resolve,invoke,builtin,W,Builtin.min_,Builtin.min2,O,hy]
  simp at h
 ·rename_i ω _;unfold ahW at h;split at h
  ·rename_i k a k' b Y;simp at h;subst h;cases E:ω.toList with
   |nil=>rw[E]at Y;simp at Y
   |cons x l =>
    cases l with
    |nil=>rw[E]at Y;simp at Y
    |cons y l =>
     cases l with
     |cons z l=>rw[E]at Y;simp at Y
     |nil =>
      rw[E]at Y;simp at Y;have O:=V x _ Y.1;have hy:=V y _ Y.2;simp only[aX,Rel]at O hy;refine⟨.int k (if b>a then b else a),?_,rj⟩;have W:ω = #[x,y]:=(by simpa using ahm List.toArray E);simp[execOp,resolve,invoke,builtin,W,Builtin.max_,Builtin.max2,O,hy]
  simp at h
 simp at h
end
structure Fp where
 R:List Nat
 W:List Nat
 deriving Inhabited
abbrev Env:=L (Nat×AV)
def jO(k:Nat)(σ p:St):Prop:=au k p.boxes=au k σ.boxes/\au k p.toks=au k σ.toks/\(k∈p.used↔k∈σ.used)
def Agree(O:Fp)(σ p:St):Prop:=∀k,k∈O.R\/k∈O.W->jO k σ p
structure jf(Ct:St->St)(fp:Fp):Prop where
 out:∀σ k,k ∉ fp.W->jO k σ (Ct σ)
 same:∀σ σ1,Agree fp σ σ1->∀k,k∈fp.W->jO k (Ct σ) (Ct σ1)
def jf.id(R:Ω):jf (λσ=>σ) ⟨R,[]⟩:=⟨λ_ _ _=>⟨Z,Z,Iff.rfl⟩,λ_ _ _ k h=>by simp at h⟩
def bR(P:Program)(X:Ctx)(o:Oper)(env:Env)(σ:St)(v:AV)(Y:St->St)(O:Fp):Prop :=
 ∀(S:Env)(p:St)(w:World)(g:Gh)(a:Act)(next:Act->World->Prop)(Q:Exit->Act->World->Prop),
  (∀x∈o.op.operands.toList,aJ X S x=aJ X env x)->Agree O σ p->Inv w g p->rR X g.G->yo g S a.tmps ->
  (∀u U V,aX V v u->Inv U V (Y p)->jv w g p U V (Y p)->g.le V->next (a.put o.dst u) U)->o.wp P a w next Q
structure It where
 run:Bool
 v:AV
 Ct:St->St
 fp:Fp
def It.skip:It:=⟨false,.c .undef,λσ=>σ,⟨[],[]⟩⟩
def C6(d:Option Nat)(v:AV)(env:Env):Env:=match d with
 |some d=>(d,v)::env
 |none=>env
def tI(ops:tal)(j:Nat):Option Nat:=(ops[j]?).bind (·.dst)
def uN(ops:tal)(o:Oper)(env:Env):Prop:=match o.guard with
 |none=>True
 |some (j,Y)=>∃d,tI ops j=some d/\au d env=some (.c (.bool Y))
def tJ(ops:tal)(o:Oper)(env:Env):Prop:=match o.guard with
 |none=>False
 |some (j,Y)=>∃d,tI ops j=some d/\(au d env=some (.c (.bool (!Y)))\/au d env=some (.c .undef))
def oD(P:Program)(X:Ctx)(ops:tal)(i:Nat)(O:It)(env:Env)(σ:St)(Y:Env)(N:St):Prop :=
 ∃o,ops[i]?=some o/\Y=C6 o.dst O.v env/\N=O.Ct σ/\jf O.Ct O.fp /\
  ((O=It.skip/\tJ ops o env)\/(O.run/\uN ops o env/\bR P X o env σ O.v O.Ct O.fp))
def yD(P:Program)(X:Ctx)(ops:tal):L (Nat×It)->Env->St->Env->St->Prop
 |[],env,σ,env',σ'=>env'=env/\σ'=σ
 |(i,O)::l,env,σ,env',σ'=>∃S p,oD P X ops i O env σ S p/\yD P X ops l S p env' σ'
def Ext(env:Env)(σ:St)(S:Env)(p:St):Prop:=(∀t,au t S=au t env)/\∀k,jO k σ p
def jO.refl(k σ):jO k σ σ:=⟨Z,Z,Iff.rfl⟩
def jO.symm{k σ p}(h:jO k σ p):jO k p σ:=⟨h.1.symm,h.2.1.symm,h.2.2.symm⟩
def jO.trans{k σ p Y}(h:jO k σ p)(E:jO k p Y):jO k σ Y :=
 ⟨E.1.trans h.1,E.2.1.trans h.2.1,E.2.2.trans h.2.2⟩
def Ext.refl(env σ):Ext env σ env σ:=⟨λ_=>rfl,λk=>jO.refl k σ⟩
def Ext.trans{e A Q s P p}(h:Ext e s A P)(E:Ext A P Q p):Ext e s Q p :=
 ⟨λt=>(E.1 t).trans (h.1 t),λk=>(h.2 k).trans (E.2 k)⟩
def ak{Y}(t d v)(l:L (Nat×Y)):au t ((d,v)::l)=if t=d then some v else au t l:=by simp only[au];split;simp_all;rename_i h;rw[if_neg (λe=>beq_false h e.symm)]
def wH(t d v env):au t (C6 d v env)=if d=some t then some v else au t env:=by
 cases d with
 |none=>simp[C6]
 |some d =>
  simp only[C6,ak];grind
def FH{X}{env S:Env}{x:Operand}(h:∀t,x = .tmp t->au t S=au t env):aJ X S x=aJ X env x:=by cases x<;>simp[aJ];exact h _ rfl
def bR.congr{P X o}{env S:Env}{σ p v}{V:St->St}{O}(h:bR P X o env σ v V O)
  (U:∀x∈o.op.operands.toList,aJ X S x=aJ X env x)(T:Agree O σ p):bR P X o S p v V O :=
 λY W w g a next Q M K=>h Y W w g a next Q (λx N=>(M x N).trans (U x N)) (λk I=>(T k I).trans (K k I))
def oD.AL{P X ops i Y env S K σ p N}(h:oD P X ops i Y env σ K N)
  (O:Ext env σ S p):∃V U,oD P X ops i Y S p V U/\Ext K N V U:=by
 obtain⟨o,M,rfl,rfl,T,h⟩:=h;refine⟨_,_,⟨o,M,Z,Z,T,?_⟩,λt=>?_,λk=>?_⟩
 ·rcases h with ⟨F,J⟩|⟨F,J,B⟩
  refine .inl ⟨F,?_⟩;unfold tJ at *;split at J;omega;obtain⟨d,A,Q⟩:=J;exact⟨d,A,by rw[O.1];exact Q⟩;refine .inr ⟨F,?_,B.congr (λx _=>FH λt _=>O.1 t) (λk _=>O.2 k)⟩;unfold uN at *;split at J;trivial;obtain⟨d,A,Q⟩:=J;exact⟨d,A,by rw[O.1];exact Q⟩
 simp only[wH,O.1];by_cases I:k∈Y.fp.W;exact T.same _ _ (λk _=>O.2 k) k I;exact((T.out σ k I).symm.trans (O.2 k)).trans (T.out p k I)
def yD.AL{P X ops}:∀{l env S F σ p O},yD P X ops l env σ F O ->
  Ext env σ S p->∃V U,yD P X ops l S p V U/\Ext F O V U
 |[],_,_,_,_,_,_,⟨E,D⟩,hx=>⟨_,_,⟨rfl,rfl⟩,by subst E D;exact hx⟩
 |(i,N)::l,env,S,F,σ,p,O,⟨J,I,E,D⟩,hx=>by obtain⟨K,M,B,Y⟩:=E.AL hx;obtain⟨G,T,Q,W⟩:=yD.AL D Y;exact⟨G,T,⟨K,M,B,Q⟩,W⟩
def ZL(l r:Ω):Bool:=l.all λx => !r.contains x
def tK{l r}(h:ZL l r){k}(Y:k∈l):k ∉ r:=by simp only[ZL]at h;simp_all
def indep(ops:tal)(i j:Nat)(f g:Fp):Bool:=match ops[i]?,ops[j]? with
 |some x,some y=>Oper.apart ops x y&&ZL f.W g.R&&ZL f.W g.W&&ZL g.W f.R
 |_,_=>false
def Gt{ops}{o:Oper}{t:Nat}(h:Operand.tmp t∈o.op.operands.toList):t∈o.looksAt ops:=by exact List.mem_append_left _ (List.mem_filterMap.2 ⟨_,h,rfl⟩)
def Bt{ops}{o:Oper}{j b d}(h:o.guard=some (j,b))(A:tI ops j=some d):d∈o.looksAt ops:=by refine List.mem_append_right _ ?_;rw[h];simp only;unfold tI at A;rw[A];simp
def oD.before{P X ops i}{o:Oper}(V:ops[i]?=some o){O}{env S:Env}{σ p}
  (E:∀t∈o.looksAt ops,au t S=au t env)(I:Agree O.fp σ p){M N}(h:oD P X ops i O env σ M N) :
  oD P X ops i O S p (C6 o.dst O.v S) (O.Ct p):=by
 obtain⟨U,Y,rfl,rfl,T,h⟩:=h;rw[V]at Y;simp at Y;subst Y;refine⟨o,V,Z,Z,T,?_⟩;rcases h with ⟨J,K⟩|⟨J,K,B⟩
 refine .inl ⟨J,?_⟩;unfold tJ at *;split at K;omega;rename_i j W q;obtain⟨d,A,Q⟩:=K;exact⟨d,A,by rw[E d (Bt q A)];exact Q⟩;refine .inr ⟨J,?_,B.congr (λx u=>FH λt C=>?_) I⟩;unfold uN at *;split at K;trivial;rename_i j W q;obtain⟨d,A,Q⟩:=K;exact⟨d,A,by rw[E d (Bt q A)];exact Q⟩;subst C;exact E t (Gt u)
def oD.swap{P X ops i j x y env F T σ S Q}(G:indep ops i j x.fp y.fp)
  (z:oD P X ops i x env σ F S)(r:oD P X ops j y F S T Q) :
  ∃A H K J,oD P X ops j y env σ A H/\oD P X ops i x A H K J/\Ext T Q K J:=by
 obtain⟨o,O,A,H,Y,a⟩:=id z;obtain⟨E,N,K,J,V,hy⟩:=id r;unfold indep at G;simp only[O,N,aaI]at G;obtain⟨⟨⟨D,kV⟩,jS⟩,hd3⟩:=G;obtain⟨m,a2,f⟩:=Oper.apart_spec D;subst A H;have C:oD P X ops j y env σ (C6 E.dst y.v env) (y.Ct σ):=by
  refine oD.before N ?_ ?_ r;intro t B;rw[wH,if_neg (λe=>m t e B)];intro k I;refine(Y.out σ k λq=>?_).symm;rcases I with I|I
  exact tK kV q I;exact tK jS q I
 have M:Agree x.fp σ (y.Ct σ):=by
  intro k I;refine V.out σ k λq=>?_;rcases I with I|I
  exact tK hd3 q I;exact tK jS I q
 have u:oD P X ops i x (C6 E.dst y.v env) (y.Ct σ) (C6 o.dst x.v (C6 E.dst y.v env)) (x.Ct (y.Ct σ)):=by refine oD.before O ?_ M z;intro t B;rw[wH,if_neg (λe=>f t e B)]
 refine⟨_,_,_,_,C,u,?_,?_⟩;intro t;subst K;simp only[wH];by_cases d:o.dst=some t;simp_all;simp_all;intro k;subst J;by_cases I:k∈x.fp.W
 ·
  have U:k ∉ y.fp.W:=λh=>tK jS I h;exact(V.out (x.Ct σ) k U).symm.trans (Y.same _ _ M k I)
 have e:=Y.out (y.Ct σ) k I;refine jO.trans ?_ e;by_cases U:k∈y.fp.W
 ·refine V.same _ _ ?_ k U;intro b p;refine(Y.out σ b λq=>?_).symm;rcases p with p|p
  exact tK kV q p;exact tK jS q p
 exact((V.out (x.Ct σ) k U).symm.trans (Y.out σ k I).symm).trans (V.out σ k U)
def yD.front{P X ops i Y}:∀{p q:L (Nat×It)}{env F σ O},
  (∀x∈p,indep ops x.1 i x.2.fp Y.fp)->yD P X ops (p++(i,Y)::q) env σ F O ->
  ∃A H Q W,oD P X ops i Y env σ A H/\yD P X ops (p++q) A H Q W/\Ext F O Q W
 |[],q,env,F,σ,O,_,⟨A,H,z,y⟩=>⟨A,H,F,O,z,y,Ext.refl _ _⟩
 |(j,x)::p,q,env,F,σ,O,hp,⟨A,H,z,y⟩=>by obtain⟨Q,W,r,o,B,S,V⟩:=yD.front (λx N=>hp x (aix _ N)) y;obtain⟨G,M,K,J,I,E,U⟩:=oD.swap (hp (j,x) cS) z B;obtain⟨D,C,u,T⟩:=S.AL U;exact⟨G,M,D,C,I,⟨K,J,E,u⟩,V.trans T⟩
structure lu where
 w:World
 g:Gh
 σ:St
structure Live(X:Ctx)(β:lu)(n:Nat)(env:Env)(σ:St)(g:Gh)(w:World)(a:Act):Prop where
 inv:Inv w g σ
 wE:rR X g.G
 env:yo g env a.tmps
 frame:jv β.w β.g β.σ w g σ
 size:a.tmps.size=n
 defers:a.defers=[]
def Inv.ext{w g σ p}(h:Inv w g σ)(O:∀k,jO k σ p):Inv w g p where
 rS:=h.rS
 box:=λk Q e=>h.box k Q ((O k).1.symm.trans e)
 gR:=λk S Q E b e M=>h.gR k S Q E b ((O k).1.symm.trans e) ((O S).1.symm.trans M)
 tok:=λk n e=>by obtain⟨q,K,J⟩:=h.tok k n ((O k).2.1.symm.trans e);refine⟨q,K,λb D H V=>?_⟩;obtain⟨B,Y,W⟩:=J b D H V;exact⟨B,Y,λS Q M=>W S Q ((O S).1.symm.trans M)⟩
 iX:=λk S n T b D H U N e M=>h.iX k S n T b D H U N ((O k).2.1.symm.trans e) ((O S).2.1.symm.trans M)
 used:=λk e=>(O k).2.2.2 (h.used k e)
 room:=λk Q b e=>h.room k Q b ((O k).1.symm.trans e)
def jv.ext{w Y g V σ O p}(h:jv w g σ Y V O)(N:∀k,jO k O p):jv w g σ Y V p where
 os:=h.os
 tape:=h.tape
 output:=h.output
 size:=h.size
 block:=h.block
 kept:=h.kept
 le:=h.le
 new:=h.new
 boxes:=λk U b e=>h.boxes k U b ((N k).1.symm.trans e)
 toks:=λk n b D H e=>h.toks k n b D H ((N k).2.1.symm.trans e)
 ids:=λk I e=>h.ids k I (by rw[<- (N k).1];exact e)
def Live.ext{X Y n env S σ p g w a}(h:Live X Y n env σ g w a)(O:Ext env σ S p):Live X Y n S p g w a where
 inv:=h.inv.ext O.2
 wE:=h.wE
 env:=λt v e=>h.env t v ((O.1 t).symm.trans e)
 frame:=h.frame.ext O.2
 size:=h.size
 defers:=h.defers
def vB(ops:tal)(n:Nat):Bool:=ops.toList.all λo=>match o.dst with
 |some d=>Nat.blt d n
 |none=>true
def To{ops}{n i d:Nat}{o}(h:vB ops n)(Y:ops[i]?=some o)(A:o.dst=some d):d<n:=by simp only[vB,ajO]at h;have:=h o (by rw[alv];exact Array.mem_of_getElem? Y);simp_all
def yo.put{g}{env:Env}{a:Act}{d v u}(h:yo g env a.tmps)(p:aX g v u)(A:∀k,d=some k->k<a.tmps.size) :
  yo g (C6 d v env) (a.put d u).tmps:=by
 intro t x e;rw[wH]at e;cases d with
 |none=>simp at e;exact h t x e
 |some k =>
  simp at e;simp only[Act.put];by_cases I:k=t;simp_all;rw[if_neg I]at e;have:=h t x e;simp_all
def Ip{g ops}{env:Env}{G}(h:yo g env G){j d}(A:tI ops j=some d) :
  (∀b,au d env=some (.c (.bool b))->yielded ops G j=some b)/\(au d env=some (.c .undef)->yielded ops G j=none):=by
 unfold tI at A;constructor;intro b e;have:=h d _ e;simp only[aX,Rel]at this;simp only[yielded];simp only[Array.getD]at this;split at this;simp_all;simp[Go.undef]at this;intro e;have:=h d _ e;simp only[yielded,A,Option.bind_some];simp only[Array.getD]at this;split at this
 ·rename_i T;have:G[d]?=some Go.undef:=by rw[air T];exact ahm some this
  rw[this];rfl
 grind
def oD.wp{P X x n ops}(E:vB ops n){i C env F σ O}(h:oD P X ops i C env σ F O)
  {g w a}(q:Live X x n env σ g w a){K:Act->World->Prop}{Q:Exit->Act->World->Prop}
  (S:∀y z T,Live X x n F O y z T->K T z):wpOp P ops Q i K a w:=by
 obtain⟨o,M,rfl,rfl,f,h⟩:=h;have V:∀k,o.dst=some k->k<a.tmps.size:=λk I=>by rw[q.size];exact To E M I
 have Y:∀u,(a.put o.dst u).tmps.size=n/\(a.put o.dst u).defers=[]:=by cases o.dst<;>simp[Act.put,q.size,q.defers]
 simp only[wpOp,M];rcases h with ⟨rfl,N⟩|⟨b,N,B⟩
 ·have D:Region.wanted o (yielded ops a.tmps)=false:=by unfold tJ at N;unfold Region.wanted;split at N;simp_all;rename_i j W U;obtain⟨d,A,J⟩:=N;obtain⟨G,y2⟩:=Ip q.env A;grind
  rw[if_neg (by simp[D])];refine S g w _ ⟨q.inv,q.wE,q.env.put (by simp[It.skip,aX,Rel]) V,q.frame,(Y _).1,(Y _).2⟩
 have D:Region.wanted o (yielded ops a.tmps):=by unfold uN at N;unfold Region.wanted;split at N;simp_all;rename_i j W U;obtain⟨d,A,J⟩:=N;obtain⟨G,_⟩:=Ip q.env A;simp only[U];rw[G _ J];cases W<;>rfl
 rw[if_pos D];refine .inl (B env σ w g a K Q (λ_ _=>rfl) (λk _=>jO.refl k σ) q.inv q.wE q.env ?_);intro u z y r m p H;refine S y z _ ⟨m,?_,(q.env.mono H).put r V,q.frame.trans p,(Y _).1,(Y _).2⟩;intro k v I;exact Rel.mono H.1 _ _ (q.wE k v I)
def yD.wp{P X K n ops}(A:vB ops n){Q:Exit->Act->World->Prop} :
  ∀{l env T σ O},yD P X ops l env σ T O->∀{g w a},Live X K n env σ g w a ->
  (∀J S U,Live X K n T O J S U->Q .normal U S)->wpOps P ops Q (l.map (·.1)) a w
 |[],env,T,σ,O,⟨N,M⟩,g,w,a,hL,hQ=>by subst N M;exact hQ g w a hL
 |(i,W)::l,env,T,σ,O,⟨V,H,N,M⟩,g,w,a,hL,hQ=>by exact N.wp A hL λJ S U Y=>yD.wp A M Y hQ
def qC(o:Oper):Ω:=o.after.toList.filterMap λe=>if Region.binds .any e then some e.on else none
def BU:L (Ω)->Ω->Ω
 |[],Y=>Y
 |V::rest,Y=>BU rest (Y++[V.foldl (λs e=>s|||2^e|||Y.getD e 0) 0])
def ZM(ops:tal):Ω:=BU (ops.toList.map qC) []
def Iq(Y:Ω)(j):∀(V:Ω)(s),(V.foldl (λs e=>s|||2^e|||Y.getD e 0) s).testBit j=true ->
  s.testBit j\/∃e∈V,e=j\/(Y.getD e 0).testBit j=true
 |[],s,h => .inl h
 |e::V,s,h=>by
  rcases Iq Y j V _ h with h|⟨U,T,S⟩
  grind;grind
def Ir:∀(U)V(i:Nat),V.length<=i->i<V.length+U.length ->
  ∀j,((BU U V).getD i 0).testBit j=true->∃e∈U.getD (i-V.length) [],e=j\/((BU U V).getD e 0).testBit j=true
 |[],V,i,h1,h2,j,h=>by simp at h2;omega
 |x::U,V,i,h1,h2,j,h=>by
  have Y:∀(U:L (Ω))(V:Ω)(k:Nat),k<V.length->(BU U V).getD k 0=V.getD k 0:=by
   intro U
   induction U with
   |nil=>intro V k I;rfl
   |cons y U S =>
    intro V k I;simp only[BU];rw[S _ _ oe];simp[List.getD,akq I]
  simp only[BU]at h ⊢;by_cases H:i=V.length
  ·subst H;rw[Y _ _ _ cS]at h;simp only[List.getD,akk (acd _),Nat.sub_self,ajX,akG]at h;rcases Iq V j x 0 h with h|⟨e,B,W⟩
   simp at h;grind
  obtain⟨e,B,W⟩:=Ir U (V++[x.foldl (λs e=>s|||2^e|||V.getD e 0) 0]) i oe (by simp at h2 ⊢;omega) j h;refine⟨e,?_,W⟩;simp only[acg,aat,aav]at B;rw[show i-V.length=(i-(V.length+(0+1)))+1 from by omega];simpa using B
def tv(ops:tal)(Y:L Fp):Bool :=
 let W:=ZM ops
 (List.range ops.size).all λi=>(((ops[i]?).map qC).getD []).all (λe=>Nat.blt e i) &&
  (List.range i).all λj=>(W.getD i 0).testBit j||indep ops j i (Y.getD j ⟨[],[]⟩) (Y.getD i ⟨[],[]⟩)
end Go.cE
