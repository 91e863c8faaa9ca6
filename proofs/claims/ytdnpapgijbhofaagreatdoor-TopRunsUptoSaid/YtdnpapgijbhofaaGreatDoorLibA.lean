/- A layer of abstract values over the model, part A: -/
import Derived.Calls
import Derived.Laws.Entries
import Derived.Laws.Cells
import Derived.Laws.Strings
import Derived.Orders
set_option linter.defProp false
set_option linter.unusedSimpArgs false
set_option linter.unusedVariables false
namespace Go.cw
def aeK:=@List.mem_append
def aeL:=@List.getElem?_eq_getElem
def aeM:=@congrArg
def aeN:=@List.cons_append
def aeO:=@List.append_nil
def aeP:=@Nat.le_of_ble_eq_true
def aeQ:=@List.sizeOf_lt_of_mem
def aeR:=@of_decide_eq_true
def aeS:=@Nat.zero_add
def aeT:=@List.drop_length
def aeU:=@List.length_map
def aeW:=@Nat.zero_le
def aeX:=@List.map_cons
def afa:=@List.map_append
def afb:=@List.length_take
def afc:=@Bool.false_and
def afn:=@List.append_assoc
def afo:=@Nat.lt_succ_self
def afp:=@List.mem_cons
def afq:=@Array.getElem?_append_left
def afr:=@List.length_drop
def afw:=@Int.le_refl
def afy:=@List.drop_eq_nil_of_le
def afA:=@Int.eq_ofNat_of_zero_le
def afC:=@Nat.le_trans
def afE:=@Array.getElem?_eq_getElem
def afF:=@Decidable.not_not
def afG:=@Array.toList_append
def afH:=@List.mem_cons_of_mem
def afM:=@List.nil_append
def afP:=@Nat.blt_eq
def afQ:=@List.all_cons
def afS:=@Bool.true_and
def afT:=@Bool.eq_iff_iff
def afV:=@Bool.or_eq_false_iff
def afW:=@List.mem_of_mem_drop
def aga:=@List.mem_singleton
def agb:=@Nat.add_zero
def agc:=@List.take_append_drop
def agf:=@List.size_toArray
def agh:=@decide_eq_true_eq
def agl:=@List.getD_eq_getElem?_getD
def agm:=@Nat.lt_of_lt_of_le
def agq:=@Decidable.byContradiction
def agr:=@beq_eq_false_iff_ne
def agA:=@Array.getD_eq_getD_getElem?
def agB:=@List.getElem?_take
def agI:=@Array.toList_map
def agJ:=@List.take_of_length_le
def agK:=@Array.size_append
def agL:=@if_false
def agM:=@List.getElem?_eq_none
def agN:=@Nat.succ_le_succ
def agO:=@Bool.and_true
def agP:=@Option.some.injEq
def agQ:=@List.drop_succ_cons
def agR:=@List.zipIdx_cons
def agS:=@List.getElem?_drop
def agT:=@Nat.mul_le_mul_right
def agU:=@List.getElem?_append
def agV:=@List.all_append
def agW:=@Nat.lt_or_ge
def agX:=@Nat.add_mul
def agY:=@decide_eq_false_iff_not
def agZ:=@List.eq_nil_of_length_eq_zero
def aha:=@List.all_eq_true
def ahb:=@List.getElem?_set_self
def ahc:=@List.getElem?_append_right
def ahd:=@List.getElem?_of_mem
def ahe:=@List.mem_of_mem_take
def ahf:=@List.reverse_reverse
def ahg:=@List.drop_zero
def ahh:=@List.drop_eq_getElem_cons
def ahi:=@List.getElem_mem
def ahj:=@List.take_succ_cons
def ahk:=@List.length_eq_zero_iff
def ahm:=@List.getElem?_cons_succ
def ahp:=@List.mem_cons_self
def ahq:=@List.getElem?_cons_zero
def ahr:=@Prod.mk.injEq
def ahs:=@List.set_cons_succ
def ahv:=@Array.getElem?_push_lt
def ahw:=@cond_false
def ahx:=@Nat.le_succ
def ahy:=@List.getElem?_toArray
def ahz:=@Nat.mod_eq_of_lt
def ahA:=@List.pairwise_append
def ahC:=@and_true
def ahD:=@beq_iff_eq
def ahE:=@cond_true
def ahK:=@Option.map_some
def ahL:=@List.length_set
def ahM:=@Int.fdiv_eq_ediv_of_nonneg
def ahP:=@Int.tmod_lt_of_pos
def ahQ:=@List.getElem?_append_left
def ahR:=@Array.mapM_eq_mapM_toList
def ahS:=@bne_self_eq_false
def ahU:=@List.reverse_cons
def ahW:=@List.any_cons
def ahX:=@Nat.le_mul_of_pos_right
def ahY:=@Option.getD_some
def ahZ:=@Nat.eq_of_beq_eq_true
def aic:=@UInt8.lt_iff_toNat_lt
def aid:=@Nat.pow_le_pow_right
def aie:=@Array.getElem?_push
def aif:=@List.reverse_append
def aih:=@Nat.add_sub_cancel
def aii:=@Nat.add_assoc
def ail:=@List.pairwise_cons
def ain:=@Bool.not_eq_false
def aio:=@Bool.not_eq_true'
def air:=@Nat.succ_mul
def ais:=@Nat.and_two_pow_sub_one_eq_mod
def ait:=@List.take_length
def aiu:=@Array.getElem?_setIfInBounds
def aiv:=@Nat.min_eq_left
def aiw:=@Int.natAbs_tdiv_le_natAbs
def aiz:=@List.mapM_cons
def aiB:=@Bool.and_assoc
def aiC:=@bne_iff_ne
def aiE:=@Bool.false_or
def aiG:=@Int.mul_assoc
def aiH:=@Option.bind_eq_some_iff
def aiI:=@Bool.and_self
def aiJ:=@List.mem_map
def aiK:=@Array.mem_toList_iff
theorem Z{α:Sort _}{a:α}:a=a:=rfl
abbrev L:=@List
def ai{p:Prop}(h:p:=by omega):p:=h
def bn{p:Prop}(h:p:=by decide):p:=h
def bT{p:Prop}(h:p:=by show List.length q<=_;omega):p:=h
def cc{p:Prop}(h:p:=by simp):p:=h
def cS{p:Prop}(h:p:=by simp only[aag];omega):p:=h
def ek{p:Prop}(h:p:=by assumption):p:=h
def fc{p:Prop}(h:p:=by simp only[fz,eD,fT,iV,jB,aI];omega):p:=h
def fe{p:Prop}(h:p:=by simp[aj]):p:=h
def fo{p:Prop}(h:p:=by show M.length-(i+1)<M.length-i;omega):p:=h
def fP{p:Prop}(h:p:=by show List.length (aK M W::aK D Y::q)<=_;simp only[aag];omega):p:=h
def ga{p:Prop}(h:p:=by have:=(B (.mk T us) (by simp)).2;omega):p:=h
def gb{p:Prop}(h:p:=by unfold bJ;omega):p:=h
def gM{p:Prop}(h:p:=by simp only[fz,eD,fT,aI];omega):p:=h
def j0{p:Prop}(h:p:=by simp[Op.operands]):p:=h
def lf{p:Prop}(h:p:=by show List.length (aK 3 n::q)<=_;simp only[aag];omega):p:=h
def mc{p:Prop}(h:p:=by simp only[bf,bp];omega):p:=h
def mA{p:Prop}(h:p:=by rw[ho];simp[Op.operands]):p:=h
def nt{p:Prop}(h:p:=by simp only[Nat.min_def];split<;>omega):p:=h
def nu{p:Prop}(h:p:=by simp[Act.eval,Act.put]):p:=h
def nw{p:Prop}(h:p:=by simp only[b9];exact⟨_,_,Z,e0,Z⟩):p:=h
def ob{p:Prop}(h:p:=by simp;omega):p:=h
def oe{p:Prop}(h:p:=by simpa using h):p:=h
def ot{p:Prop}(h:p:=by show List.length (aK 2 n::aK 2 Y::q)<=_;simp only[aag];omega):p:=h
def oy{p:Prop}(h:p:=by have:=bt D;omega):p:=h
def pW{p:Prop}(h:p:=by simp[eqGuard_at_pointer,pY,pZ,lQ A,run_equal_nil_nil A]):p:=h
def p8{p:Prop}(h:p:=by simp only[NY,Ii,kg];rfl):p:=h
def ri{p:Prop}(h:p:=by simp[aP,Rel]):p:=h
def rj{p:Prop}(h:p:=by decide +kernel):p:=h
def ta{p:Prop}(h:p:=by simp[h]):p:=h
def u6{p:Prop}(h:p:=by rw[I];exact k):p:=h
def u7{p:Prop}(h:p:=by rw[Ey]at hj;omega):p:=h
def wC{p:Prop}(h:p:=by rw[ho];simp only[Op.operands,Call.operands,afG,aeK];exact .inr hx):p:=h
def wX{p:Prop}(h:p:=by show List.length (Vl.mk 6 0 0 Y [] [] [] :: .mk 6 0 0 K [] [] []::q)<=_;simp only[aag];omega):p:=h
def xj{p:Prop}(h:p:=by simp only;omega):p:=h
def zw{p:Prop}(h:p:=by show List.length (aK 5 W::aK 5 Y::q)<=_;simp only[aag];omega):p:=h
def Aq{p:Prop}(h:p:=by simp only[aaZ,aag,aay];omega):p:=h
def C1{p:Prop}(h:p:=by rw[hd];exact k):p:=h
def DU{p:Prop}(h:p:=by simp only[az,aag];omega):p:=h
def IF{p:Prop}(h:p:=by have:=h1.done;have:=M.done;show 0<=(gC w x).2.done+1/\(gC w x).2.done+1<=24;omega):p:=h
def Jx{p:Prop}(h:p:=by simp only[EY];exact⟨Wk.refl _,by unfold Wk;exact .inr ⟨Z,Z⟩,trivial⟩):p:=h
def K0{p:Prop}(h:p:=by simp[D]):p:=h
def N1{p:Prop}(h:p:=by show List.length (bh x y::q)<=_;simp only[aag];omega):p:=h
def N2{p:Prop}(h:p:=by show l.length-(i+1)<l.length-i;omega):p:=h
def Oo{p:Prop}(h:p:=by have:=h1.ok.MF;show((gC w x).2.made.length:Int)<=(gC w x).2.done+1+1;omega):p:=h
def OE{p:Prop}(h:p:=by have:=bt hx;omega):p:=h
def OG{p:Prop}(h:p:=by show List.length (v::q)<=_;simp only[aag];omega):p:=h
def Rl{p:Prop}(h:p:=by simpa only[aP]using h2):p:=h
def Rw{p:Prop}(h:p:=by have:=N.2;simp only[cD,aH,aI,bp,aO,aay];omega):p:=h
def Te{p:Prop}(h:p:=by show List.length (Vl.mk 6 0 0 Y [] [] []::q)<=_;simp only[aag];omega):p:=h
def Tm{p:Prop}(h:p:=by simpa using E):p:=h
def T1{p:Prop}(h:p:=by show List.length (Vl.mk J W Y U O E T::q)<=_;simp only[aag];omega):p:=h
def Uv{p:Prop}(h:p:=by unfold jw;rw[if_pos (by omega)]):p:=h
def UI{p:Prop}(h:p:=by rfl):p:=h
def VL{p:Prop}(h:p:=by simp only[aag,aay];omega):p:=h
def VQ{p:Prop}(h:p:=by simpa using h2):p:=h
def Wb{p:Prop}(h:p:=by rw[ho];simp only[Op.operands,aiJ];exact⟨p,hp,Z⟩):p:=h
def Wc{p:Prop}(h:p:=by unfold jw;rw[iG wJ,iG FQ,if_neg (by omega),if_pos (by omega)]):p:=h
def Wl{p:Prop}(h:p:=by show(0:Int)≠14;decide):p:=h
def Wm{p:Prop}(h:p:=by show st.length<=_;omega):p:=h
def WA{p:Prop}(h:p:=by have:=cI (l:=[u,u']) (x:=w) (by simp at G ⊢;simp[G]);omega):p:=h
def WZ{p:Prop}(h:p:=by show((acc++[_]).length:Int)<=M;simp only[aaZ,aag,aay];omega):p:=h
def Xz{p:Prop}(h:p:=by rwa[agS]at hj):p:=h
def XF{p:Prop}(h:p:=by rw[hvl]at hj;omega):p:=h
def XH{p:Prop}(h:p:=by rw[ho];simp[Op.operands,Call.operands]):p:=h
def XJ{p:Prop}(h:p:=by show List.length st<=_;omega):p:=h
def Yk{p:Prop}(h:p:=by have:=(aeR h.1).2;omega):p:=h
def Yp{p:Prop}(h:p:=by simp[CV.cells,CV.one]):p:=h
def Yq{p:Prop}(h:p:=by show(25:Int)<=(k:Int)+(w'.done+1);push_cast at hk;omega):p:=h
def Yr{p:Prop}(h:p:=by show w.bU-r.bU+(w.used+r.bU)=_;omega):p:=h
def Yy{p:Prop}(h:p:=by have:=Q.done;show(25:Int)<=((25:Nat):Int)+E.done;omega):p:=h
def YC{p:Prop}(h:p:=by have:=T.MF;show(w'.made.length:Int)<=w'.done+1+1;omega):p:=h
def Zb{p:Prop}(h:p:=by show b≠w.heap.size;omega):p:=h
def Zv{p:Prop}(h:p:=by unfold Wk;exact .inr ⟨Z,Z⟩):p:=h
def ZC{p:Prop}(h:p:=by simp only[aag]at Bi;omega):p:=h
def aaM{p:Prop}(h:p:=by have:=eO D;omega):p:=h
def aa1{p:Prop}(h:p:=by simp only[aaZ,aag]at I ⊢;push_cast at I ⊢;omega):p:=h
def aa6{p:Prop}(h:p:=by rw[aaZ,aag,afb,afr];omega):p:=h
def aa7{p:Prop}(h:p:=by rw[abW];omega):p:=h
def abS{p:Prop}(h:p:=by have:=Q.done;show((1:Nat):Int)<=25+24*E.done;omega):p:=h
def abX{p:Prop}(h:p:=by show(25-(w'.done+1)).toNat<(25-w.done).toNat;omega):p:=h
def ab0{p:Prop}(h:p:=by simp[bO,aj]):p:=h
def ab1{p:Prop}(h:p:=by rw[agK,agf,FG];omega):p:=h
def ab2{p:Prop}(h:p:=by rw[T];simp[Op.operands]):p:=h
def ab3{p:Prop}(h:p:=by simp[h1]):p:=h
def ab6{p:Prop}(h:p:=by have:=aeM List.length hq;simp at this;omega):p:=h
def ab9{p:Prop}(h:p:=by have:=hl.h12;omega):p:=h
def acd{p:Prop}(h:p:=by have:=bt D;show M.length-(i+1)<M.length-i;omega):p:=h
def ace{p:Prop}(h:p:=by rw[aaZ,afb,afr];omega):p:=h
def aci{p:Prop}(h:p:=by show w.used<=w.used+r.bU;omega):p:=h
def acj{p:Prop}(h:p:=by have:=(List.getElem?_eq_some_iff.1 hy).1;omega):p:=h
def acm{p:Prop}(h:p:=by simpa only[aP]using h1):p:=h
def acn{p:Prop}(h:p:=by rw[if_neg (by omega)];exact h6):p:=h
def acp{p:Prop}(h:p:=by rw[aZ];unfold bJ;omega):p:=h
def acq{p:Prop}(h:p:=by show(lZ b.src (om l b) b.ops).2.used<=_;omega):p:=h
def acr{p:Prop}(h:p:=by show s.length+cP Y<=340;omega):p:=h
def acs{p:Prop}(h:p:=by simp only[okB,b8];rfl):p:=h
def acz{p:Prop}(h:p:=by simp at G ⊢;simp[G]):p:=h
def acA{p:Prop}(h:p:=by simp[bf,bp]):p:=h
def acL{p:Prop}(h:p:=by have:=fC D;omega):p:=h
def acM{p:Prop}(h:p:=by simp only[aaZ,aag,aay,ahg];omega):p:=h
def acN{p:Prop}(h:p:=by simp only[aag,aay]at *;omega):p:=h
def acQ{p:Prop}(h:p:=by simp only[oR,Bool.or_false];exact dO iU G):p:=h
def acR{p:Prop}(h:p:=by show acc.length<=i+1;omega):p:=h
def acV{p:Prop}(h:p:=by simp only[bf];omega):p:=h
def ac3{p:Prop}(h:p:=by simp[Builtin.len_,W,goInt]):p:=h
def ac4{p:Prop}(h:p:=by subst hy;simp[Op.operands]):p:=h
def ac5{p:Prop}(h:p:=by rw[lW];rfl):p:=h
def adf{p:Prop}(h:p:=by split at h1<;>omega):p:=h
def adk{p:Prop}(h:p:=by rw[Y];simp):p:=h
def adp{p:Prop}(h:p:=by simp[aj,Ne.symm Y]):p:=h
def adr{p:Prop}(h:p:=by rw[iz]):p:=h
def ads{p:Prop}(h:p:=by simpa using h1):p:=h
def adB{p:Prop}(h:p:=by simp[hargs]):p:=h
def adD{p:Prop}(h:p:=by unfold mM at sW;exact sW):p:=h
def adH{p:Prop}(h:p:=by simp[Rel]):p:=h
def adJ{p:Prop}(h:p:=by show 0<=u+1;omega):p:=h
def adR{p:Prop}(h:p:=by show u+1<=g;omega):p:=h
def adS{p:Prop}(h:p:=by simpa using K):p:=h
def adT{p:Prop}(h:p:=by simp only[bD,aay];omega):p:=h
def adZ{p:Prop}(h:p:=by simpa using V):p:=h
def ad0{p:Prop}(h:p:=by rw[Ae]):p:=h
def ad4{p:Prop}(h:p:=by simpa only[aP]using h3):p:=h
def ad5{p:Prop}(h:p:=by simp[g']):p:=h
def ad6{p:Prop}(h:p:=by rw[l1,k1];exact aaV _):p:=h
def ad7{p:Prop}(h:p:=by rw[Bi];exact e1):p:=h
def aeh{p:Prop}(h:p:=by rw[Q4];exact n4):p:=h
def aej{p:Prop}(h:p:=by simp only[aaZ];omega):p:=h
def aek{p:Prop}(h:p:=by simp[E]):p:=h
def ael{p:Prop}(h:p:=by rw[hvl];omega):p:=h
def aem{p:Prop}(h:p:=by rw[l2,k2];rfl):p:=h
def aen{p:Prop}(h:p:=by rw[l3,k3];rfl):p:=h
def aeo{p:Prop}(h:p:=by rw[l4,k4];rfl):p:=h
def aep{p:Prop}(h:p:=by simpa using G):p:=h
def aeq{p:Prop}(h:p:=by exact AK.again S ⟨.inl (dY (i:=i) (by omega)),.inl Z,.inl Z,.inl Z,trivial⟩ ⟨Z,Z,trivial⟩ trivial (by simp only[NY,Ii,kg];rfl) (dI Z (b8 _ _) (dI Z (b8 _ _) Z)) Z):p:=h
def aer{p:Prop}(h:p:=by exact AK.again (ih (i+1) ⟨bt hx,hinv⟩ (by have:=bt hx;omega)) ⟨.inl (dY (by have:=bt hx;omega)),.inl Z,.inl Z,.inl Z,trivial⟩ trivial trivial Z Z Z):p:=h
def aes{p:Prop}(h:p:=by exact AK.again ih2 ⟨.inl (dY (i:=j) (by omega)),.inl Z,.inl Z,trivial⟩ ⟨Z,trivial⟩ trivial (by simp only[NY,Ii,kg];rfl) (by simp only[okB,b8];rfl) Z):p:=h
def aet{p:Prop}(h:p:=by exact AK.again S ⟨.inl (dY (i:=i) (by omega)),.inl Z,.inl Z,.inl Z,.inl Z,trivial⟩ ⟨Z,Z,Z,Z,trivial⟩ trivial Z (dI Z (b8 _ _) (dI Z (b8 _ _) Z)) Z):p:=h
def aeu{p:Prop}(h:p:=by exact AK.again S ⟨.inl Z,.inl Z,.inl Z,.inl Z,.inl (dY (i:=k) (by omega)),trivial⟩ ⟨Z,Z,trivial⟩ trivial Z (dI Z Z (dI Z (b8 _ _) Z)) Z):p:=h
def aev{p:Prop}(h:p:=by exact AK.again P ⟨.inl (dY (i:=i) (by omega)),.inl Z,.inl Z,.inl Z,trivial⟩ ⟨Z,Z,Z,trivial⟩ trivial Z (dI Z (b8 _ _) (dI Z (b8 _ _) Z)) Z):p:=h
def aew{p:Prop}(h:p:=by exact ih (i+1,acc++[(Vl.mk 11 0 0 [] q [] [])],false) ⟨h2,by simp[E],H,(by simpa using V)⟩ (by show M.length-(i+1)<M.length-i;omega)):p:=h
def aex{p:Prop}(h:p:=by exact bB (gW (eg (by simp only[bf,bp];omega) (λt h=>B t (by simp[h])))) (bS _)):p:=h
def aey{p:Prop}(h:p:=by exact Src.ofSlice w ts ⟨vb,vo,none⟩ m vc vs hvl (λj u hj=>by rw[Addr.add_lit];exact hvs j u hj) Ex):p:=h
def aez{p:Prop}(h:p:=by exact λk n b lo hi h1 h2 => .inr ⟨k,n,lo,hi,h1,h2,aaV _,aaV _⟩):p:=h
def aeA{p:Prop}(h:p:=by exact TT hf Z Z Z Z Z Z Z Z Z):p:=h
def aeB{p:Prop}(h:p:=by exact aeM (λl=>[LV.own 1 l]) (bV rows acc _ _ (by rw[jN _ (by omega)]))):p:=h
def aeC{p:Prop}(h:p:=by exact ah.step (dh G) C (qV _ _ _) (by rw[I];exact k)):p:=h
def aeE{p:Prop}(h:p:=by exact AK.zZ Tryz.hX hf (l:=[.own .exact 7 []]) Z [] Z Z trivial):p:=h
def aeF{p:Prop}(h:p:=by exact cn.of hf U O B env _ (by rw[<- Y,E2]) Z λβ=>k β hf):p:=h
def aag{α:Type}{a:α}{l:List α}:(a::l).length=l.length+1:=List.length_cons
def aay{α:Type}:([]:List α).length=0:=List.length_nil
def aaE{α:Type}{a:α}{l:List α}{d:α}:(a::l).getD 0 d=a:=List.getD_cons_zero
def aaH{α:Type}{a:α}{l:List α}{n:Nat}{d:α}:(a::l).getD (n+1) d=l.getD n d:=List.getD_cons_succ
def aaN(a b:Bool):((a&&b)=true)=(a=true/\b=true):=Bool.and_eq_true a b
def aaV(n:Nat):n<=n:=Nat.le_refl n
def aaX{p:Prop}[Decidable p](h:p):decide p=true:=decide_eq_true h
def aaY{p:Prop}[Decidable p](h:¬p):decide p=false:=decide_eq_false h
def aaZ{α:Type}{a b:List α}:(a++b).length=a.length+b.length:=List.length_append
def abz{α:Type}{l:List α}{i:Nat}{a:α}(h:l[i]?=some a):a∈l:=List.mem_of_getElem? h
def abU(n:Nat):((n:Int)).toNat=n:=Int.toNat_natCast n
def abW{α:Type}{l:List α}:l.reverse.length=l.length:=List.length_reverse
inductive CV where
 |int (k:IntKind) (n:Int)
 |bool (b:Bool)
 |str (s:List UInt8)
 |mX
 |undef
 |sl (s:Nat) (rows:List CV)
 |agg (cs:List CV)
 |ip (cs:List CV)
 |sU (f:FuncId) (caps:List CV)
 |eF (cs:List CV)
 |any
 |uU
 deriving Inhabited
def CV.cells:CV->L CV
 |.agg cs=>cs
 |v=>[v]
def CV.one:CV->Bool
 |.agg _ | .eF _ | .undef=>false
 |_=>true
abbrev kE:=Nat->Nat->Option Value
mutual
def Rel(G:kE):CV->Value->Prop
 |.int k n,v=>v = .int k n
 |.bool b,v=>v = .bool b
 |.str s,v=>v = .string ⟨s.toArray⟩
 |.mX,v=>v = .pointer none
 |.undef,v=>v=Go.undef
 |.sl s rows,v=>∃base Y N,v = .slice base Y N/\Y=rows.length/\Y<=N /\
   (rows=[]\/∃b o,base=some ⟨b,o,none⟩/\gF G s b o rows)
 |.agg cs,v=>∃vs:L Value,v = .agg vs.toArray/\b9 G cs vs/\cs.all CV.one=true
 |.ip cs,v=>∃b o,v = .pointer (some ⟨b,o,none⟩)/\dJ G b o cs
 |.sU f W,v=>∃vs:L Value,v = .func (.func f) #[] vs.toArray/\b9 G W vs
 |.eF cs,v=>∃vs:L Value,v = .tuple vs.toArray/\b9 G cs vs/\2<=cs.length
 |.any,v=>(∀vs,v ≠ .agg vs)/\∀vs,v ≠ .tuple vs
 |.uU,v=>∃x,v = .bool x
def b9(G:kE):L CV->L Value->Prop
 |[],vs=>vs=[]
 |c::cs,vs=>∃u us,vs=u::us/\Rel G c u/\b9 G cs us
def dJ(G:kE):Nat->Nat->L CV->Prop
 |_,_,[]=>True
 |b,o,c::cs=>(∃u,G b o=some u/\Rel G c u/\c.one=true)/\dJ G b (o+1) cs
def qB(G:kE):Nat->Nat->CV->Prop
 |b,o,.agg cs=>dJ G b o cs
 |b,o,.int k n=>G b o=some (.int k n)
 |b,o,.bool x=>G b o=some (.bool x)
 |b,o,.str s=>G b o=some (.string ⟨s.toArray⟩)
 |b,o,.mX=>G b o=some (.pointer none)
 |_,_,.undef=>False
 |b,o,.sl s rows=>∃base Y N,G b o=some (.slice base Y N)/\Y=rows.length/\Y<=N /\
   (rows=[]\/∃O K,base=some ⟨O,K,none⟩/\gF G s O K rows)
 |b,o,.ip cs=>∃O K,G b o=some (.pointer (some ⟨O,K,none⟩))/\dJ G O K cs
 |b,o,.sU f W=>∃vs:L Value,G b o=some (.func (.func f) #[] vs.toArray)/\b9 G W vs
 |_,_,.eF _=>False
 |b,o,.any=>∃v,G b o=some v/\(∀vs,v ≠ .agg vs)/\∀vs,v ≠ .tuple vs
 |b,o,.uU=>∃x,G b o=some (.bool x)
def gF(G:kE):Nat->Nat->Nat->L CV->Prop
 |_,_,_,[]=>True
 |s,b,o,r::rs=>qB G b o r/\r.cells.length=s/\gF G s b (o+s) rs
end
def BK(G:kE)(b o:Nat)(r:CV):qB G b o r↔dJ G b o r.cells:=by
 cases r with
 |sl s rows =>
  simp only[qB,CV.cells,dJ,CV.one,Rel,ahC];constructor;grind;simp_all
 |ip cs =>
  simp only[qB,CV.cells,dJ,CV.one,Rel,ahC];constructor;grind;simp_all
 |sU f Y =>
  simp only[qB,CV.cells,dJ,CV.one,Rel,ahC];constructor;simp_all;simp_all
 |uU =>
  simp only[qB,CV.cells,dJ,CV.one,Rel,ahC];constructor;grind;simp_all
 |_=>simp[qB,CV.cells,dJ,CV.one,Rel]
def kE.le(G V:kE):Prop:=∀b o v,G b o=some v->V b o=some v
def kE.le.refl(G:kE):G.le G:=λ_ _ _ h=>h
def kE.le.trans{G V Y:kE}(h:G.le V)(H:V.le Y):G.le Y:=λb o v x=>H b o v (h b o v x)
mutual
def Rel.mono{G V:kE}(h:G.le V):∀(c:CV)(v:Value),Rel G c v->Rel V c v
 |.int _ _,_,x=>by simpa[Rel]using x
 |.bool _,_,x=>by simpa[Rel]using x
 |.str _,_,x=>by simpa[Rel]using x
 |.mX,_,x=>by simpa[Rel]using x
 |.undef,_,x=>by simpa[Rel]using x
 |.sl s rows,v,x=>by obtain⟨base,W,N,e,P,I,B⟩:=x;exact⟨base,W,N,e,P,I,B.imp id λ⟨b,o,U,B⟩=>⟨b,o,U,gF.mono h s b o rows B⟩⟩
 |.agg cs,v,x=>by obtain⟨vs,e,B,T⟩:=x;exact⟨vs,e,b9.mono h cs vs B,T⟩
 |.ip cs,v,x=>by obtain⟨b,o,e,B⟩:=x;exact⟨b,o,e,dJ.mono h b o cs B⟩
 |.sU f Y,v,x=>by obtain⟨vs,e,B⟩:=x;exact⟨vs,e,b9.mono h Y vs B⟩
 |.eF cs,v,x=>by simp only[Rel]at x ⊢;obtain⟨vs,e,B,T⟩:=x;exact⟨vs,e,b9.mono h cs vs B,T⟩
 |.any,_,x=>by simp only[Rel]at x ⊢;exact x
 |.uU,_,x=>by simp only[Rel]at x ⊢;exact x
def b9.mono{G V:kE}(h:G.le V):∀(cs:L CV)(vs:L Value),b9 G cs vs->b9 V cs vs
 |[],_,x=>by simpa[b9]using x
 |c::cs,vs,x=>by simp only[b9]at x ⊢;obtain⟨u,us,e,I,B⟩:=x;exact⟨u,us,e,Rel.mono h c u I,b9.mono h cs us B⟩
def dJ.mono{G V:kE}(h:G.le V):∀(b o:Nat)(cs:L CV),dJ G b o cs->dJ V b o cs
 |_,_,[],_=>by simp[dJ]
 |b,o,c::cs,x=>by simp only[dJ]at x ⊢;obtain⟨⟨u,S,I,T⟩,B⟩:=x;exact⟨⟨u,h b o u S,Rel.mono h c u I,T⟩,dJ.mono h b (o+1) cs B⟩
def qB.mono{G V:kE}(h:G.le V):∀(b o:Nat)(r:CV),qB G b o r->qB V b o r
 |b,o,.agg cs,x=>by simp only[qB]at x ⊢;exact dJ.mono h b o cs x
 |b,o,.int _ _,x=>by simp only[qB]at x ⊢;exact h _ _ _ x
 |b,o,.bool _,x=>by simp only[qB]at x ⊢;exact h _ _ _ x
 |b,o,.str _,x=>by simp only[qB]at x ⊢;exact h _ _ _ x
 |b,o,.mX,x=>by simp only[qB]at x ⊢;exact h _ _ _ x
 |_,_,.undef,x=>by simp[qB]at x
 |b,o,.sl s rows,x=>by simp only[qB]at x ⊢;obtain⟨base,W,N,e,P,I,B⟩:=x;exact⟨base,W,N,h _ _ _ e,P,I,B.imp id λ⟨b,o,U,B⟩=>⟨b,o,U,gF.mono h s b o rows B⟩⟩
 |b,o,.ip cs,x=>by simp only[qB]at x ⊢;obtain⟨O,K,e,B⟩:=x;exact⟨O,K,h _ _ _ e,dJ.mono h O K cs B⟩
 |b,o,.sU f Y,x=>by simp only[qB]at x ⊢;obtain⟨vs,e,B⟩:=x;exact⟨vs,h _ _ _ e,b9.mono h Y vs B⟩
 |_,_,.eF _,x=>by simp[qB]at x
 |b,o,.any,x=>by simp only[qB]at x ⊢;obtain⟨v,e,B⟩:=x;exact⟨v,h _ _ _ e,B⟩
 |b,o,.uU,x=>by simp only[qB]at x ⊢;obtain⟨v,e⟩:=x;exact⟨v,h _ _ _ e⟩
def gF.mono{G V:kE}(h:G.le V):∀(s b o:Nat)(rs:L CV),gF G s b o rs->gF V s b o rs
 |_,_,_,[],_=>by simp[gF]
 |s,b,o,r::rs,x=>by simp only[gF]at x ⊢;exact⟨qB.mono h b o r x.1,x.2.1,gF.mono h s b (o+s) rs x.2.2⟩
end
inductive Own where
 |exact
 |tok (key n:Nat)
 deriving Inhabited
inductive AV where
 |c (v:CV)
 |own (k:Own) (s:Nat) (rows:List CV)
 |ptr (key off:Nat)
 |gY (key off s n:Nat)
 |any
 |agg (cs:List AV)
 |eF (cs:List AV)
 deriving Inhabited
def AV.one:AV->Bool
 |.c v=>v.one
 |.own .. | .ptr .. | .gY .. | .any=>true
 |.agg _ | .eF _=>false
structure Gh where
 G:kE
 box:Nat->Option Nat
 tok:Nat->Option (Nat×Option (Nat×Nat×Nat))
 room:Nat->Nat
def mh(G:kE)(s:Nat)(base:Option Addr)(rows:L CV):Prop :=
 rows=[]\/∃b o,base=some ⟨b,o,none⟩/\gF G s b o rows
def Ah(g:Gh)(s:Nat)(base:Option Addr)(u N:Nat):Own->Prop
 |.exact=>N=u
 |.tok Y n=>∃M T,g.tok Y=some (M,T)/\n<=M/\(M=n->N=u \/
   ∃b J U o,T=some (b,J,U)/\base=some ⟨b,o,none⟩/\J=o+u*s/\U=o+N*s/\u<=N)
mutual
def aP(g:Gh):AV->Value->Prop
 |.c v,x=>Rel g.G v x
 |.own k s rows,x=>∃base Y N,x = .slice base Y N/\Y=rows.length/\Y<=N/\mh g.G s base rows/\Ah g s base Y N k
 |.ptr W off,x=>∃b,g.box W=some b/\x = .pointer (some ⟨b,off,none⟩)
 |.gY W off s n,x=>∃b N o,g.box W=some b/\x = .slice o n N/\n<=N/\off+N*s<=g.room W/\(N=0\/o=some ⟨b,off,none⟩)
 |.any,x=>(∀vs,x ≠ .agg vs)/\∀vs,x ≠ .tuple vs
 |.agg cs,x=>∃vs:L Value,x = .agg vs.toArray/\bW g cs vs/\cs.all AV.one=true
 |.eF cs,x=>∃vs:L Value,x = .tuple vs.toArray/\bW g cs vs/\2<=cs.length
def bW(g:Gh):L AV->L Value->Prop
 |[],vs=>vs=[]
 |c::cs,vs=>∃u us,vs=u::us/\aP g c u/\bW g cs us
end
def Gh.le(g g':Gh):Prop :=
 g.G.le g'.G/\(∀k b,g.box k=some b->g'.box k=some b)/\(∀k b,g.box k=some b->g'.room k=g.room k) /\
 ∀k M T,g.tok k=some (M,T)->∃Y W,g'.tok k=some (Y,W)/\M<=Y/\(Y=M->W=T)
def Gh.le.refl(g:Gh):g.le g:=⟨kE.le.refl _,λ_ _ h=>h,λ_ _ _=>rfl,λ_ M T h=>⟨M,T,h,aaV _,λ_=>rfl⟩⟩
def Gh.le.trans{g g' K:Gh}(h:g.le g')(H:g'.le K):g.le K:=by refine⟨h.1.trans H.1,λk b x=>H.2.1 k b (h.2.1 k b x),λk b x=>(H.2.2.1 k b (h.2.1 k b x)).trans (h.2.2.1 k b x),λk M T x=>?_⟩;obtain⟨A,Y,J,C,E⟩:=h.2.2.2 k M T x;obtain⟨V,W,Q,U,N⟩:=H.2.2.2 k A Y J;grind
def mh.mono{G V:kE}(h:G.le V){s:Nat}{base:Option Addr}{rows:L CV}(x:mh G s base rows):mh V s base rows :=
 x.imp id λ⟨b,o,e,r⟩=>⟨b,o,e,gF.mono h s b o rows r⟩
def Ah.mono{g g':Gh}(h:g.le g'){s:Nat}{base:Option Addr}{u N:Nat}:∀{k:Own},Ah g s base u N k->Ah g' s base u N k
 |.exact,x=>x
 |.tok Y n,⟨M,T,e,B,H⟩=>by obtain⟨W,U,e',I,V⟩:=h.2.2.2 Y M T e;refine⟨W,U,e',afC B I,λJ=>?_⟩;grind
mutual
def aP.mono{g g':Gh}(h:g.le g'):∀(a:AV)(v:Value),aP g a v->aP g' a v
 |.c v,x,r=>by simp only[aP]at r ⊢;exact Rel.mono h.1 v x r
 |.own k s rows,x,r=>by obtain⟨base,Y,N,e,P,I,B,T⟩:=r;exact⟨base,Y,N,e,P,I,B.mono h.1,T.mono h⟩
 |.ptr W off,x,r=>by obtain⟨b,U,e⟩:=r;exact⟨b,h.2.1 _ _ U,e⟩
 |.gY W off s n,x,r=>by obtain⟨b,N,o,U,e,h1,h2,K⟩:=r;exact⟨b,N,o,h.2.1 _ _ U,e,h1,by rw[h.2.2.1 _ _ U];exact h2,K⟩
 |.any,x,r=>by simp only[aP]at r ⊢;exact r
 |.agg cs,x,r=>by obtain⟨vs,e,B,T⟩:=r;exact⟨vs,e,bW.mono h cs vs B,T⟩
 |.eF cs,x,r=>by obtain⟨vs,e,B,T⟩:=r;exact⟨vs,e,bW.mono h cs vs B,T⟩
def bW.mono{g g':Gh}(h:g.le g'):∀(cs:L AV)(vs:L Value),bW g cs vs->bW g' cs vs
 |[],_,r=>by simpa[bW]using r
 |c::cs,vs,r=>by obtain⟨u,us,e,I,B⟩:=r;exact⟨u,us,e,aP.mono h c u I,bW.mono h cs us B⟩
end
def aq{α:Type}(k:Nat):L (Nat×α)->Option α
 |[]=>none
 |(j,x)::l=>match Nat.beq j k with
  |true=>some x
  |false=>aq k l
def EM{α:Type}(k:Nat):L (Nat×α)->L (Nat×α)
 |[]=>[]
 |(j,x)::l=>match Nat.beq j k with
  |true=>EM k l
  |false=>(j,x)::EM k l
def xd{α:Type}(k:Nat)(y:α):L (Nat×α)->L (Nat×α)
 |[]=>[(k,y)]
 |(j,x)::l=>match Nat.beq j k with
  |true=>(j,y)::l
  |false=>(j,x)::xd k y l
def Ai{α:Type}(k:Nat)(y:α):L (Nat×α)->Option (L (Nat×α))
 |[]=>some [(k,y)]
 |(j,x)::l=>match Nat.beq j k with
  |true=>some ((j,y)::l)
  |false=>match Ai k y l with
   |some r=>some ((j,x)::r)
   |none=>none
def uV{α:Type}(k:Nat)(y:α):∀(l:L (Nat×α)),Ai k y l=some (xd k y l)
 |[]=>rfl
 |(j,x)::l=>by simp only[Ai,xd,uV k y l];split<;>rfl
def beq_true{j k:Nat}(h:Nat.beq j k=true):j=k:=ahZ h
def beq_false{j k:Nat}(h:Nat.beq j k=false):j≠k:=Nat.ne_of_beq_eq_false h
def lA{α:Type}(k j:Nat)(l:L (Nat×α)):aq j (EM k l)=if j=k then none else aq j l:=by
 induction l with
 |nil=>simp[EM,aq]
 |cons x l Y =>
  simp only[EM];split;rename_i h;rw[Y];split;rfl;rename_i O;simp only[aq];split;simp_all;rfl;rename_i h;simp only[aq];grind
def fj{α:Type}(k j:Nat)(y:α)(l:L (Nat×α)):aq j (xd k y l)=if j=k then some y else aq j l:=by
 induction l with
 |nil =>
  simp only[xd,aq];split;simp_all;rename_i h;have:=beq_false h;rw[if_neg (λe=>this e.symm)]
 |cons x l Y =>
  simp only[xd];split;rename_i h;simp only[aq];split;simp_all;grind;rename_i h;simp only[aq];grind
structure St where
 boxes:List (Nat×List AV)
 toks:List (Nat×Nat)
 used:List Nat
 deriving Inhabited
def cx(w:World)(g:Gh)(b:Nat):Nat->L AV->Prop
 |_,[]=>True
 |o,c::cs=>(∃u,w.cell? ⟨b,o,none⟩=some u/\aP g c u/\c.one=true)/\w.frozen? ⟨b,o,none⟩=false/\cx w g b (o+1) cs
def cx.mono{w:World}{g g':Gh}(h:g.le g'){b:Nat}:∀{o:Nat}{cs:L AV},cx w g b o cs->cx w g' b o cs
 |_,[],_=>trivial
 |_,_::_,⟨⟨u,T,B,Y⟩,hf,rZ⟩=>⟨⟨u,T,aP.mono h _ _ B,Y⟩,hf,cx.mono h rZ⟩
def cx.of_same{w w':World}{g:Gh}{b:Nat}(h:∀o,w'.cell? ⟨b,o,none⟩=w.cell? ⟨b,o,none⟩/\w'.frozen? ⟨b,o,none⟩=w.frozen? ⟨b,o,none⟩) :
  ∀{o:Nat}{cs:L AV},cx w g b o cs->cx w' g b o cs
 |_,[],_=>trivial
 |_,_::_,⟨⟨u,T,B,Y⟩,hf,rZ⟩=>⟨⟨u,(h _).1.trans T,B,Y⟩,(h _).2.trans hf,cx.of_same h rZ⟩
structure Inv(w:World)(g:Gh)(σ:St):Prop where
 qK:∀b o v,g.G b o=some v->w.cell? ⟨b,o,none⟩=some v
 box:∀k cs,aq k σ.boxes=some cs->∃b,g.box k=some b/\b<w.heap.size/\(∀o,g.G b o=none)/\cx w g b 0 cs
 gr:∀k k' cs cs' b,aq k σ.boxes=some cs->aq k' σ.boxes=some cs'->g.box k=some b->g.box k'=some b->k=k'
 tok:∀k n,aq k σ.toks=some n->∃gQ,g.tok k=some (n,gQ)/\∀b lo hi,gQ=some (b,lo,hi)->b<w.heap.size /\
  (∀o,lo<=o->o<hi->g.G b o=none/\(∃u,w.cell? ⟨b,o,none⟩=some u)/\w.frozen? ⟨b,o,none⟩=false) /\
  ∀k' cs,aq k' σ.boxes=some cs->g.box k'≠some b
 iF:∀k k' n n' b lo hi lo' hi',aq k σ.toks=some n->aq k' σ.toks=some n' ->
  g.tok k=some (n,some (b,lo,hi))->g.tok k'=some (n',some (b,lo',hi'))->k=k'
 used:∀k,g.box k≠none\/g.tok k≠none->k∈σ.used
 room:∀k cs b,aq k σ.boxes=some cs->g.box k=some b->∀o,(o<g.room k->∃u,w.cell? ⟨b,o,none⟩=some u)/\w.frozen? ⟨b,o,none⟩=false
def Inv.ab4{w:World}{g:Gh}{σ:St}(H:Inv w g σ)(k:Nat)(cs:L AV)(b:Nat)(e:aq k σ.boxes=some cs)(U:g.box k=some b)(o:Nat)(T:o<g.room k):(∃u,w.cell? ⟨b,o,none⟩=some u)/\w.frozen? ⟨b,o,none⟩=false :=
 ⟨(H.room k cs b e U o).1 T,(H.room k cs b e U o).2⟩
def Inv.C4{w w':World}{g:Gh}{σ:St}(H:Inv w g σ)(h:∀k cs b,aq k σ.boxes=some cs->g.box k=some b->b<w.heap.size->∀o,w'.cell? ⟨b,o,none⟩=w.cell? ⟨b,o,none⟩/\w'.frozen? ⟨b,o,none⟩=w.frozen? ⟨b,o,none⟩) :
  ∀k cs b,aq k σ.boxes=some cs->g.box k=some b->∀o,(o<g.room k->∃u,w'.cell? ⟨b,o,none⟩=some u)/\w'.frozen? ⟨b,o,none⟩=false:=by
 intro k cs b e U o;obtain⟨O,h1,h2,_⟩:=H.box k cs e;rw[U]at h1;obtain⟨K,Y⟩:=H.room k cs b e U o;grind
def jH(g:Gh)(σ:St)(b o:Nat):Prop :=
 (∃k cs,aq k σ.boxes=some cs/\g.box k=some b) \/
 ∃k n J U,aq k σ.toks=some n/\g.tok k=some (n,some (b,J,U))/\J<=o/\o<U
structure iS(w:World)(g:Gh)(σ:St)(w':World)(g':Gh)(σ':St):Prop where
 os:w'.os=w.os
 tape:w'.tape=w.tape
 output:w'.output=w.output
 size:w.heap.size<=w'.heap.size
 block:∀b,b<w.heap.size->(∀o,¬jH g σ b o)->w'.heap[b]?=w.heap[b]?
 kept:∀b o,b<w.heap.size->¬jH g σ b o->w'.cell? ⟨b,o,none⟩=w.cell? ⟨b,o,none⟩/\w'.frozen? ⟨b,o,none⟩=w.frozen? ⟨b,o,none⟩
 le:g.G.le g'.G
 new:∀b o v,g'.G b o=some v->g.G b o=some v\/w.heap.size<=b\/jH g σ b o
 boxes:∀k cs b,aq k σ'.boxes=some cs->g'.box k=some b->w.heap.size<=b\/∃k0 cs0,aq k0 σ.boxes=some cs0/\g.box k0=some b
 toks:∀k n b lo hi,aq k σ'.toks=some n->g'.tok k=some (n,some (b,lo,hi))->w.heap.size<=b \/
  ∃k0 n0 Ij sM,aq k0 σ.toks=some n0/\g.tok k0=some (n0,some (b,Ij,sM))/\Ij<=lo/\hi<=sM
 ids:∀k,1000000<=k->aq k σ'.boxes≠none->aq k σ.boxes≠none/\g'.box k=g.box k/\g'.room k=g.room k
def iS.owned{w w':World}{g g':Gh}{σ P:St}(h:iS w g σ w' g' P){b o:Nat}(T:jH g' P b o):w.heap.size<=b\/jH g σ b o:=by
 rcases T with ⟨k,cs,h1,h2⟩|⟨k,n,J,U,h1,h2,K,V⟩
 exact(h.boxes k cs b h1 h2).imp id λ⟨Q,H,e⟩ => .inl ⟨Q,H,e⟩;exact(h.toks k n b J U h1 h2).imp id λ⟨Q,n0,Y,E,W,N,S,C⟩ => .inr ⟨Q,n0,Y,E,W,N,ai,ai⟩
def iS.refl(w:World)(g:Gh)(σ:St):iS w g σ w g σ where
 os:=rfl
 tape:=rfl
 output:=rfl
 size:=aaV _
 block:=λ_ _ _=>rfl
 kept:=λ_ _ _ _=>⟨Z,Z⟩
 le:=kE.le.refl _
 new:=λ_ _ _ h => .inl h
 boxes:=λk cs _ h1 h2 => .inr ⟨k,cs,h1,h2⟩
 toks:=λk n _ J U h1 h2 => .inr ⟨k,n,J,U,h1,h2,aaV _,aaV _⟩
 ids:=λ_ _ h=>⟨h,Z,Z⟩
def iS.trans{w C P:World}{g g1 O:Gh}{σ N Y:St}(h:iS w g σ C g1 N)(H:iS C g1 N P O Y):iS w g σ P O Y where
 os:=H.os.trans h.os
 tape:=H.tape.trans h.tape
 output:=H.output.trans h.output
 size:=afC h.size H.size
 block:=λb U T=>by
  rw[H.block b (agm U h.size) λo J=>by
   rcases h.owned J with x|x
   omega
   exact T o x]
  exact h.block b U T
 kept:=λb o U T=>by
  have h1:=h.kept b o U T;have h2:=H.kept b o (agm U h.size) λJ=>by
   rcases h.owned J with x|x
   omega;grind
  simp_all
 le:=h.le.trans H.le
 new:=λb o v x=>by
  rcases H.new b o v x with x|x|x
  exact h.new b o v x;exact .inr (.inl (afC h.size x));rcases h.owned x with x|x
  omega;simp_all
 boxes:=λk cs b h1 h2=>by
  rcases H.boxes k cs b h1 h2 with x|⟨Q,W,E,q⟩
  exact .inl (afC h.size x);exact h.boxes Q W b E q
 toks:=λk n b D M h1 h2=>by
  rcases H.toks k n b D M h1 h2 with x|⟨Q,n0,K,I,E,q,e3,e4⟩
  exact .inl (afC h.size x);rcases h.toks Q n0 b K I E q with x|⟨u,G,V,S,B,f2,f3,f4⟩
  exact .inl x;exact .inr ⟨u,G,V,S,B,f2,ai,ai⟩
 ids:=λk A h2=>by obtain⟨h3,h4,h4'⟩:=H.ids k A h2;obtain⟨h5,h6,h6'⟩:=h.ids k A h3;simp_all
def wN(g:Gh)(env:L (Nat×AV))(V:Array Value):Prop:=∀t a,aq t env=some a->aP g a (V.getD t undef)
def wN.mono{g g':Gh}(h:g.le g'){env:L (Nat×AV)}{V:Array Value}(x:wN g env V):wN g' env V :=
 λt a e=>aP.mono h _ _ (x t a e)
inductive TK where
 |int (k:IntKind)|bool|str|ptr (e:Nat)|slice (e:Nat)|arr (n e:Nat)|struct (fs:List (Nat×Nat))|other
 deriving Inhabited
structure TI where
 size:Nat
 bytes:Nat
 kind:TK
 zero:Option AV
 deriving Inhabited
def TI.isAgg(i:TI):Bool:=match i.kind with
 |.arr .. | .struct .. => true
 |_=>false
structure Ctx where
 ti:Nat->Option TI
 uX:Nat->Option CV
def jA(P:Program):TK->TypeDesc->Prop
 |.int k,d=>d = .int k
 |.bool,d=>d = .bool
 |.str,d=>d = .string
 |.ptr e,d=>d = .pointer e
 |.slice e,d=>d = .slice e
 |.arr n e,d=>d = .array n e
 |.struct B,d=>∃Y:Array Field,d = .struct Y/\Y.toList.map (λf=>(f.offset,f.type))=B /\
   ∀f∈Y.toList,∃G,P.info? f.type=some G/\G.size≠0
 |.other,d=>(match d with | .struct _ | .array _ _=>false|_=>true)=true
structure cB(P:Program)(X:Ctx):Prop where
 ti:∀t i,X.ti t=some i->∃inf,P.info? t=some inf/\inf.size=i.size/\inf.bytes=i.bytes /\
  (∀a,i.zero=some a->∃z,inf.zero=some z/\(∀g,aP g a z)/\z.cells.size=i.size)/\(∃d,P.underlying t=some d/\jA P i.kind d)/\i.size≠0
def qJ(X:Ctx)(G:kE):Prop:=∀n v,X.uX n=some v->Rel G v (.pointer (some ⟨n,0,none⟩))
section types
variable {P : Program}{X : Ctx}{w : World}{t : Nat}{i : TI}
def cB.run_sizeOf(h:cB P X)(e:X.ti t=some i):(sizeOf t).run P w = .ok i.size w:=by obtain⟨G,h1,h2,_⟩:=h.ti t i e;simp[sizeOf,typeInfo,h1,h2]
def cB.run_underlying(h:cB P X)(e:X.ti t=some i):∃d,(underlying t).run P w = .ok d w/\jA P i.kind d/\P.underlying t=some d:=by obtain⟨G,h1,h2,K,_,⟨d,Y,M⟩,_⟩:=h.ti t i e;exact⟨d,by simp[underlying,Y],M,Y⟩
def cB.nj(h:cB P X)(e:X.ti t=some i){a:AV}(Y:i.zero=some a):∃z,(zeroValue t).run P w = .ok z w/\(∀g,aP g a z)/\z.cells.size=i.size:=by obtain⟨G,h1,h2,K,I,_⟩:=h.ti t i e;obtain⟨z,W,M,C⟩:=I a Y;exact⟨z,by simp[zeroValue,typeInfo,h1,W],M,C⟩
def cB.rD(h:cB P X)(e:X.ti t=some i):(isAgg t).run P w = .ok i.isAgg w:=by
 obtain⟨d,h1,h2,_⟩:=h.run_underlying (w:=w) e;simp only[isAgg,Sem.run_bind,h1];unfold TI.isAgg;cases A:i.kind<;>rw[A]at h2<;>simp only[jA]at h2
 case struct fs=>obtain⟨Y,rfl,_⟩:=h2;rfl
 case other=>cases d<;>simp at h2<;>rfl
 all_goals subst h2;rfl
end types
def takeN{α:Type}:Nat->List α->Option (List α)
 |0,_=>some []
 |_+1,[]=>none
 |n+1,x::l=>match takeN n l with
  |some r=>some (x::r)
  |none=>none
def dV{α:Type}:Nat->List α->Option (List α)
 |0,l=>some l
 |_+1,[]=>none
 |n+1,_::l=>dV n l
def r8{α:Type}:∀{n:Nat}{l r:List α},takeN n l=some r->r=l.take n/\n<=l.length
 |0,l,r,h=>by simp[takeN]at h;subst h;simp
 |n+1,[],r,h=>by simp[takeN]at h
 |n+1,x::l,r,h=>by simp only[takeN]at h;split at h;rename_i O H;obtain⟨rfl,I⟩:=r8 H;simp_all;grind
def mj{α:Type}:∀{n:Nat}{l r:List α},dV n l=some r->r=l.drop n/\n<=l.length
 |0,l,r,h=>by simp[dV]at h;subst h;simp
 |n+1,[],r,h=>by simp[dV]at h
 |n+1,x::l,r,h=>by simp only[dV]at h;obtain⟨rfl,I⟩:=mj h;simp;exact I
def dJ.drop{G:kE}{b:Nat}:∀{o n:Nat}{cs:L CV},dJ G b o cs->dJ G b (o+n) (cs.drop n)
 |o,0,cs,h=>by simpa using h
 |o,n+1,[],h=>by simp[dJ]
 |o,n+1,x::cs,h=>by have:=dJ.drop (n:=n) h.2;grind
def dJ.lG{G:kE}{b:Nat}:∀{o:Nat}{cs:L CV},(∀(j:Nat) c,cs[j]?=some c->∃u,G b (o+j)=some u/\Rel G c u/\c.one=true)->dJ G b o cs
 |o,[],_=>by simp[dJ]
 |o,x::cs,h=>by refine⟨by simpa using h 0 x cc,dJ.lG λj c Y=>?_⟩;have:=h (j+1) c (by simpa using Y);grind
def gF.get{G:kE}{s b:Nat}:∀{o:Nat}{rows:L CV},gF G s b o rows->∀(j:Nat) r,rows[j]?=some r->dJ G b (o+j*s) r.cells/\r.cells.length=s
 |o,[],_,j,r,h=>by simp at h
 |o,x::rows,h,j,r,hj=>by
  cases j with
  |zero=>simp at hj;subst hj;exact⟨by simpa using (BK G b o x).1 h.1,h.2.1⟩
  |succ j =>
   have:=h.2.2.get j r hj;grind
def gF.drop{G:kE}{s b:Nat}:∀{o n:Nat}{rows:L CV},gF G s b o rows->gF G s b (o+n*s) (rows.drop n)
 |o,0,rows,h=>by simpa using h
 |o,n+1,[],h=>by simp[gF]
 |o,n+1,x::rows,h=>by have:=gF.drop (n:=n) h.2.2;grind
def gF.take{G:kE}{s b:Nat}:∀{o n:Nat}{rows:L CV},gF G s b o rows->gF G s b o (rows.take n)
 |o,0,rows,h=>by simp[gF]
 |o,n+1,[],h=>by simp[gF]
 |o,n+1,x::rows,h=>by exact⟨h.1,h.2.1,gF.take h.2.2⟩
def cx.get{w:World}{g:Gh}{b:Nat}:∀{o:Nat}{cs:L AV},cx w g b o cs->∀(j:Nat) c,cs[j]?=some c ->
  (∃u,w.cell? ⟨b,o+j,none⟩=some u/\aP g c u/\c.one=true)/\w.frozen? ⟨b,o+j,none⟩=false
 |o,[],_,j,c,h=>by simp at h
 |o,x::cs,h,j,c,hj=>by
  simp only[cx]at h;cases j with
  |zero=>simp at hj;subst hj;exact⟨h.1,h.2.1⟩
  |succ j =>
   have:=h.2.2.get j c hj;grind
def cx.lG{w:World}{g:Gh}{b:Nat}:∀{o:Nat}{cs:L AV},(∀(j:Nat) c,cs[j]?=some c ->
  (∃u,w.cell? ⟨b,o+j,none⟩=some u/\aP g c u/\c.one=true)/\w.frozen? ⟨b,o+j,none⟩=false)->cx w g b o cs
 |o,[],_=>trivial
 |o,x::cs,h=>by refine⟨by simpa using (h 0 x cc).1,by simpa using (h 0 x cc).2,cx.lG λj c Y=>?_⟩;have:=h (j+1) c (by simpa using Y);grind
def b9.get{G:kE}:∀{cs:L CV}{vs:L Value},b9 G cs vs->cs.length=vs.length/\∀(j:Nat) c,cs[j]?=some c->∃u,vs[j]?=some u/\Rel G c u
 |[],vs,h=>by simp only[b9]at h;subst h;simp
 |c::cs,vs,h=>by
  obtain⟨u,us,rfl,I,B⟩:=h;obtain⟨P,W⟩:=B.get;refine⟨by simp[P],λj c' Y=>?_⟩;cases j with
  |zero=>simp at Y;subst Y;exact⟨u,cc,I⟩
  |succ j=>simp at Y;simpa using W j c' Y
def bW.get{g:Gh}:∀{cs:L AV}{vs:L Value},bW g cs vs->cs.length=vs.length/\∀(j:Nat) c,cs[j]?=some c->∃u,vs[j]?=some u/\aP g c u
 |[],vs,h=>by simp only[bW]at h;subst h;simp
 |c::cs,vs,h=>by
  obtain⟨u,us,rfl,I,B⟩:=h;obtain⟨P,G⟩:=B.get;refine⟨by simp[P],λj c' Y=>?_⟩;cases j with
  |zero=>simp at Y;subst Y;exact⟨u,cc,I⟩
  |succ j=>simp at Y;simpa using G j c' Y
def b9.lG{G:kE}:∀{cs:L CV}{vs:L Value},cs.length=vs.length->(∀(j:Nat) c u,cs[j]?=some c->vs[j]?=some u->Rel G c u)->b9 G cs vs
 |[],vs,h,_=>by simp_all;exact agZ (by simpa using h.symm)
 |c::cs,[],h,_=>by simp at h
 |c::cs,u::us,h,Y=>by exact⟨u,us,Z,Y 0 c u cc cc,b9.lG oe λj c' W h1 h2=>Y (j+1) c' W ads VQ⟩
def bW.lG{g:Gh}:∀{cs:L AV}{vs:L Value},cs.length=vs.length->(∀(j:Nat) c u,cs[j]?=some c->vs[j]?=some u->aP g c u)->bW g cs vs
 |[],vs,h,_=>by simp_all;exact agZ (by simpa using h.symm)
 |c::cs,[],h,_=>by simp at h
 |c::cs,u::us,h,G=>by exact⟨u,us,Z,G 0 c u cc cc,bW.lG oe λj c' Y h1 h2=>G (j+1) c' Y ads VQ⟩
end Go.cw
namespace Go.cw
def Ld:Value->Option AV
 |.int k n=>some (.c (.int k n))
 |.bool b=>some (.c (.bool b))
 |.string s=>some (.c (.str s.data.toList))
 |.pointer none=>some (.c .mX)
 |.slice none 0 0=>some (.own .exact 0 [])
 |_=>none
def Gp:L Value->Option (L AV)
 |[]=>some []
 |v::vs=>match Ld v with
  |some a=>match Gp vs with
   |some l=>some (a::l)
   |none=>none
  |none=>none
def XA:Value->Option AV
 |.agg cs=>match Gp cs.toList with
  |some l=>some (.agg l)
  |none=>none
 |v=>Ld v
def JD(g:Gh):∀{v:Value}{a:AV},Ld v=some a->aP g a v/\a.one=true:=by intro v a h;unfold Ld at h;split at h<;>simp at h<;>subst h<;>simp[aP,Rel,AV.one,CV.one];exact⟨_,_,_,⟨rfl,rfl,rfl⟩,rfl,aaV _,.inl rfl,rfl⟩
def JE(g:Gh):∀{vs:L Value}{l:L AV},Gp vs=some l->bW g l vs/\l.all AV.one=true
 |[],l,h=>by simp[Gp]at h;subst h;simp[bW]
 |v::vs,l,h=>by simp only[Gp]at h;split at h;rename_i a T;split at h;rename_i N I;simp at h;subst h;obtain⟨h1,h2⟩:=JD g T;obtain⟨K,Y⟩:=JE g I;exact⟨by simp_all;exact⟨v,vs,rfl,h1,K⟩,by simp[h2];simpa using Y⟩;grind;grind
def XB(g:Gh){v:Value}{a:AV}(h:XA v=some a):aP g a v:=by unfold XA at h;split at h;rename_i cs;split at h;rename_i l I;simp at h;subst h;obtain⟨h1,h2⟩:=JE g I;exact⟨cs.toList,cc,h1,h2⟩;grind;exact(JD g h).1
def aG(X:Ctx)(env:L (Nat×AV)):Operand->Option AV
 |.tmp t=>aq t env
 |.const v=>XA v
 |.global n=>match X.uX n with
  |some v=>some (.c v)
  |none=>none
 |.func f=>some (.c (.sU f []))
def cr{X:Ctx}{g:Gh}{env:L (Nat×AV)}{a:Act}(O:wN g env a.tmps)(Y:qJ X g.G){x:Operand}{v:AV}(h:aG X env x=some v):aP g v (a.eval x):=by
 cases x with
 |tmp t=>exact O t v h
 |const c=>exact XB g h
 |global n =>
  simp only[aG]at h;split at h;rename_i W U;simp at h;subst h;exact Y n W U;grind
 |func f=>simp[aG]at h;subst h;exact⟨[],rfl,by simp[b9]⟩
def nth{α:Type}:List α->Nat->Option α
 |[],_=>none
 |x::_,0=>some x
 |_::l,n+1=>nth l n
def tY{α:Type}:∀(l:List α)(n:Nat),nth l n=l[n]?
 |[],n=>by simp[nth]
 |x::l,0=>by simp[nth]
 |x::l,n+1=>by simp[nth,tY l n]
def ab5(t:Bool)(a b:AV):Option AV :=
 match a,b with
 |.c (.bool x),.c (.bool y)=>some (.c (.bool (bif t then x else y)))
 |_,_=>match t with
  |true=>some a
  |false=>some b
def lO(i:TI)(cells:L AV):Option AV :=
 match i.isAgg with
 |true=>match takeN i.size cells with
  |some l=>some (.agg l)
  |none=>none
 |false=>match cells with
  |c::_=>some c
  |[]=>none
def C5(i:TI)(cells:L CV):Option AV :=
 match i.isAgg with
 |true=>match takeN i.size cells with
  |some l=>some (.c (.agg l))
  |none=>none
 |false=>match cells with
  |c::_=>some (.c c)
  |[]=>none
section
variable {P : Program}{X : Ctx}{w : World}{g : Gh}
def BL(hX:cB P X){t:Nat}{i:TI}(U:X.ti t=some i)(T:i.isAgg=true)(b o:Nat)(vs:L Value)(I:vs.length=i.size)
  (h:∀j v,vs[j]?=some v->w.cell? ⟨b,o+j,none⟩=some v) :
  (Instr.loadAt t (.pointer (some ⟨b,o,none⟩))).run P w = .ok (.agg vs.toArray) w:=by
 have W:=run_loadCells_list (P:=P) w ⟨b,o,none⟩ vs (λj v Y=>by rw[Addr.add_lit];exact h j v Y);simp only[Instr.loadAt,Instr.sureAddr,loadVar,Sem.run_bind,Result.andThen_ok,hX.rD U,T,if_true,hX.run_sizeOf U];simp_all
def BM(hX:cB P X){t:Nat}{i:TI}(U:X.ti t=some i)(T:i.isAgg=false)(b o:Nat)(v:Value)
  (h:w.cell? ⟨b,o,none⟩=some v) :
  (Instr.loadAt t (.pointer (some ⟨b,o,none⟩))).run P w = .ok v w:=by
 simp[Instr.loadAt,Instr.sureAddr,loadVar,hX.rD U,T,h]
def XC(hX:cB P X){t:Nat}{i:TI}(U:X.ti t=some i){b o:Nat}{cells:L AV}(I:cx w g b o cells){v:AV}(h:lO i cells=some v) :
  ∃u,(Instr.loadAt t (.pointer (some ⟨b,o,none⟩))).run P w = .ok u w/\aP g v u:=by
 unfold lO at h;split at h
 ·rename_i T;split at h
  ·rename_i l M;simp at h;subst h;obtain⟨rfl,Q⟩:=r8 M;have Y:∀(n:Nat)(cs:L AV)(o:Nat),cx w g b o cs->n<=cs.length->∃vs:L Value,vs.length=n/\(∀j v,vs[j]?=some v->w.cell? ⟨b,o+j,none⟩=some v)/\bW g (cs.take n) vs/\(cs.take n).all AV.one=true:=by
    intro n
    induction n with
    |zero=>intro cs o _ _;exact⟨[],Z,cc,by simp[bW],cc⟩
    |succ n O =>
     intro cs o B W;cases cs with
     |nil=>simp at W
     |cons x cs =>
      obtain⟨⟨u,V,H,N⟩,_,rZ⟩:=B;obtain⟨vs,h1,h2,K,S⟩:=O cs (o+1) rZ (by simpa using W);refine⟨u::vs,ab3,?_,?_,?_⟩;grind;exact⟨u,vs,Z,H,K⟩;grind
   obtain⟨vs,h1,h2,K,S⟩:=Y i.size cells o I Q;exact⟨.agg vs.toArray,BL hX U T b o vs h1 h2,by simp only[aP];exact⟨vs,Z,K,S⟩⟩
  grind
 rename_i T;split at h;rename_i c rest;simp at h;subst h;obtain⟨⟨u,V,H,_⟩,_,_⟩:=I;exact⟨u,BM hX U T b o u V,H⟩;simp at h
def UP(hX:cB P X)(O:∀b o v,g.G b o=some v->w.cell? ⟨b,o,none⟩=some v){t:Nat}{i:TI}(U:X.ti t=some i){b o:Nat}{cells:L CV}
  (Y:dJ g.G b o cells){v:AV}(h:C5 i cells=some v) :
  ∃u,(Instr.loadAt t (.pointer (some ⟨b,o,none⟩))).run P w = .ok u w/\aP g v u:=by
 unfold C5 at h;split at h
 ·rename_i T;split at h
  ·rename_i l I;simp at h;subst h;obtain⟨rfl,N⟩:=r8 I;have V:∀(n:Nat)(cs:L CV)(o:Nat),dJ g.G b o cs->n<=cs.length->∃vs:L Value,vs.length=n/\(∀j v,vs[j]?=some v->w.cell? ⟨b,o+j,none⟩=some v)/\b9 g.G (cs.take n) vs/\(cs.take n).all CV.one=true:=by
    intro n
    induction n with
    |zero=>intro cs o _ _;exact⟨[],Z,cc,by simp[b9],cc⟩
    |succ n M =>
     intro cs o B W;cases cs with
     |nil=>simp at W
     |cons x cs =>
      obtain⟨⟨u,S,H,J⟩,rZ⟩:=B;obtain⟨vs,h1,h2,K,Q⟩:=M cs (o+1) rZ (by simpa using W);refine⟨u::vs,ab3,?_,?_,?_⟩;grind;exact⟨u,vs,Z,H,K⟩;grind
   obtain⟨vs,h1,h2,K,Q⟩:=V i.size cells o Y N;exact⟨.agg vs.toArray,BL hX U T b o vs h1 h2,by simp only[aP];exact⟨vs,Z,K,Q⟩⟩
  grind
 rename_i T;split at h;rename_i c rest;simp at h;subst h;simp only[dJ]at Y;obtain⟨⟨u,S,H,_⟩,_⟩:=Y;exact⟨u,BM hX U T b o u (O _ _ _ S),by simpa only[aP]using H⟩;simp at h
end
end Go.cw
namespace Go.cw
def XD(H:BinOp)(k:IntKind)(a b:Int):Option CV :=
 match H with
 |.add=>some (.int k (k.wrap (a+b)))
 |.sub=>some (.int k (k.wrap (a-b)))
 |.mul=>some (.int k (k.wrap (a*b)))
 |.quo=>match b==0 with
  |true=>none
  |false=>some (.int k (k.wrap (a.tdiv b)))
 |.rem=>match b==0 with
  |true=>none
  |false=>some (.int k (a.tmod b))
 |.and=>some (.int k (k.wrap (BitVec.ofInt k.bits a&&&BitVec.ofInt k.bits b).toNat))
 |.or=>some (.int k (k.wrap (BitVec.ofInt k.bits a|||BitVec.ofInt k.bits b).toNat))
 |.xor=>some (.int k (k.wrap (BitVec.ofInt k.bits a ^^^ BitVec.ofInt k.bits b).toNat))
 |.eql=>some (.bool (a==b))
 |.neq=>some (.bool (a != b))
 |.lss=>some (.bool (decide (a<b)))
 |.leq=>some (.bool (decide (a<=b)))
 |.gtr=>some (.bool (decide (a>b)))
 |.geq=>some (.bool (decide (a>=b)))
 |_=>none
def sameKind:IntKind->IntKind->Bool
 |.i64,.i64 | .u8,.u8 | .u64,.u64 | .i32,.i32 | .u32,.u32=>true
 |_,_=>false
def NZ{j k:IntKind}(h:sameKind j k=true):j=k:=by cases j<;>cases k<;>simp[sameKind]at h<;>rfl
def Le(H:BinOp)(k:IntKind)(a b:Int):Option CV :=
 match H,b with
 |.shl,.ofNat n=>some (.int k (k.wrap (a*2^(min n k.bits))))
 |.shr,.ofNat n=>some (.int k (a.fdiv (2^(min n k.bits))))
 |_,_=>none
def ado(H:BinOp)(a b:L UInt8):Option CV :=
 match H with
 |.eql=>some (.bool (a==b))
 |.neq=>some (.bool (!(a==b)))
 |.lss=>some (.bool (Op.bytesLess a b))
 |.gtr=>some (.bool (!(Op.bytesLess a b||a==b)))
 |_=>none
def XE(k:TK)(H:BinOp)(x y:AV):Option AV :=
 match x,y with
 |.c (.int j a),.c (.int j' b) =>
  match H with
  |.shl | .shr=>match Le H j a b with
   |some v=>some (.c v)
   |none=>none
  |_=>match sameKind j j' with
   |true=>match XD H j a b with
    |some v=>some (.c v)
    |none=>none
   |false=>none
 |.c (.str a),.c (.str b)=>match ado H a b with
  |some v=>some (.c v)
  |none=>none
 |.c (.bool a),.c (.bool b)=>match k,H with
  |.bool,.eql=>some (.c (.bool (a==b)))
  |.bool,.neq=>some (.c (.bool (!(a==b))))
  |_,_=>none
 |.c (.ip _),.c .mX=>match k,H with
  |.ptr _,.eql=>some (.c (.bool false))
  |.ptr _,.neq=>some (.c (.bool true))
  |_,_=>none
 |.c .mX,.c .mX=>match k,H with
  |.ptr _,.eql=>some (.c (.bool true))
  |.ptr _,.neq=>some (.c (.bool false))
  |_,_=>none
 |_,_=>none
section
variable {P : Program}{X : Ctx}{w : World}{g : Gh}
def aaI{H:BinOp}{k:IntKind}{a b:Int}{v:CV}(h:XD H k a b=some v)(t:TypeId)(x y:Operand) :
  ∃u,(do eqGuard H t x y (.int k a) (.int k b);binOp H t (.int k a) (.int k b)).run P w = .ok u w/\Rel g.G v u:=by
 cases H<;>simp only[XD]at h<;>simp only[eqGuard_at_int]
 case quo =>
  split at h;simp at h;rename_i U;simp at h;subst h;have:b≠0:=by simpa using U
  exact⟨_,by simp[binOp,Op.intDiv,this];rfl,adH⟩
 case rem =>
  split at h;simp at h;rename_i U;simp at h;subst h;have:b≠0:=by simpa using U
  exact⟨_,by simp[binOp,Op.intDiv,this];rfl,adH⟩
 all_goals first
  |(simp at h;done)
  |(simp at h;subst h;exact⟨_,by simp[binOp,Op.intArith,Op.intBits,Op.intCmp];rfl,adH⟩)
def UQ{H:BinOp}{k k':IntKind}{a b:Int}{v:CV}(h:Le H k a b=some v)(t:TypeId)(x y:Operand) :
  ∃u,(do eqGuard H t x y (.int k a) (.int k' b);binOp H t (.int k a) (.int k' b)).run P w = .ok u w/\Rel g.G v u:=by
 unfold Le at h;split at h;rename_i n;simp at h;subst h;refine⟨.int k (k.wrap (a*2^(min n k.bits))),?_,adH⟩;rfl;rename_i n;simp at h;subst h;refine⟨.int k (a.fdiv (2^(min n k.bits))),?_,adH⟩;rfl;grind
def aaJ{H:BinOp}{a b:L UInt8}{v:CV}(h:ado H a b=some v)(t:TypeId)(x y:Operand) :
  ∃u,(do eqGuard H t x y (.string ⟨a.toArray⟩) (.string ⟨b.toArray⟩);binOp H t (.string ⟨a.toArray⟩) (.string ⟨b.toArray⟩)).run P w = .ok u w/\Rel g.G v u:=by
 cases H<;>simp only[ado]at h<;>first
  |(simp at h;done)
  |(simp at h;subst h;exact⟨_,by simp;rfl,adH⟩)
def BN{t:TypeId}(d:Nat)(h:(underlying t).run P w = .ok .bool w)(a b:Bool):(Op.equalIn (d+1) t (.bool a) (.bool b)).run P w = .ok (a==b) w:=by simp[Op.equalIn,h]
def C6{t e:TypeId}(d:Nat)(h:(underlying t).run P w = .ok (.pointer e) w)(a:Addr):(Op.equalIn (d+1) t (.pointer (some a)) (.pointer none)).run P w = .ok false w:=by simp[Op.equalIn,h]
def C7{t e:TypeId}(d:Nat)(h:(underlying t).run P w = .ok (.pointer e) w):(Op.equalIn (d+1) t (.pointer none) (.pointer none)).run P w = .ok true w:=by simp[Op.equalIn,h]
def run_equal_bool{t:TypeId}(h:(underlying t).run P w = .ok .bool w)(a b:Bool):(Op.equal t (.bool a) (.bool b)).run P w = .ok (a==b) w :=
 BN 9999 h a b
def lQ{t e:TypeId}(h:(underlying t).run P w = .ok (.pointer e) w)(a:Addr):(Op.equal t (.pointer (some a)) (.pointer none)).run P w = .ok false w :=
 C6 9999 h a
def run_equal_nil_nil{t e:TypeId}(h:(underlying t).run P w = .ok (.pointer e) w):(Op.equal t (.pointer none) (.pointer none)).run P w = .ok true w :=
 C7 9999 h
def Gq(t:TypeId)(a b:Bool):binOp .eql t (.bool a) (.bool b)=(do pure (.bool (<- Op.equal t (.bool a) (.bool b)))):=rfl
def Gr(t:TypeId)(a b:Bool):binOp .neq t (.bool a) (.bool b)=(do pure (.bool (!(<- Op.equal t (.bool a) (.bool b))))):=rfl
def pY(t:TypeId)(a b:Option Addr):binOp .eql t (.pointer a) (.pointer b)=(do pure (.bool (<- Op.equal t (.pointer a) (.pointer b)))):=rfl
def pZ(t:TypeId)(a b:Option Addr):binOp .neq t (.pointer a) (.pointer b)=(do pure (.bool (!(<- Op.equal t (.pointer a) (.pointer b))))):=rfl
def aaK(hX:cB P X){t:Nat}{i:TI}(N:X.ti t=some i){H:BinOp}{x y:AV}{v:AV}(h:XE i.kind H x y=some v)
  {p q:Value}(S:aP g x p)(hq:aP g y q)(W V:Operand) :
  ∃u,(do eqGuard H t W V p q;binOp H t p q).run P w = .ok u w/\aP g v u:=by
 obtain⟨d,A,U,M⟩:=hX.run_underlying (w:=w) N;unfold XE at h;split at h
 ·rename_i j a O b;subst S hq;have K:∀(T:CV),Le H j a b=some T->∃u,(do eqGuard H t W V (.int j a) (.int O b);binOp H t (.int j a) (.int O b)).run P w = .ok u w/\aP g (.c T) u:=by intro T Q;obtain⟨u,h1,h2⟩:=UQ (P:=P) (w:=w) (g:=g) (k':=O) Q t W V;exact⟨u,h1,Rl⟩
  split at h;grind;grind;split at h;rename_i Y;have:=NZ Y;subst this;split at h;rename_i T Q;simp at h;subst h;obtain⟨u,h1,h2⟩:=aaI (P:=P) (w:=w) (g:=g) Q t W V;exact⟨u,h1,Rl⟩;grind;grind
 rename_i a b;subst S hq;split at h;rename_i T Q;simp at h;subst h;obtain⟨u,h1,h2⟩:=aaJ (P:=P) (w:=w) (g:=g) Q t W V;exact⟨u,h1,Rl⟩;simp at h
 ·rename_i a b;subst S hq;split at h<;>simp at h<;>subst h<;>rename_i Y<;>rw[Y]at U<;>simp only[jA]at U<;>subst U;exact⟨.bool (a==b),by simp[eqGuard_at_bool,Gq,run_equal_bool A],ri⟩;exact⟨.bool (!(a==b)),by simp[eqGuard_at_bool,Gr,run_equal_bool A],ri⟩
 ·rename_i cs;simp only[aP,Rel]at S hq;subst hq;obtain⟨b,o,rfl,_⟩:=S;split at h<;>simp at h<;>subst h<;>rename_i Y<;>rw[Y]at U<;>simp only[jA]at U<;>subst U;exact⟨.bool false,pW,ri⟩;exact⟨.bool true,pW,ri⟩
 ·simp only[aP,Rel]at S hq;subst S hq;split at h<;>simp at h<;>subst h<;>rename_i Y<;>rw[Y]at U<;>simp only[jA]at U<;>subst U;exact⟨.bool true,pW,ri⟩;exact⟨.bool false,pW,ri⟩
 simp at h
end
end Go.cw
namespace Go.cw
def opened:L CV->Option (L AV)
 |[]=>some []
 |c::cs=>match opened cs with
  |some l=>some (.c c::l)
  |none=>none
def C2:∀(cs:L CV),opened cs=some (cs.map AV.c)
 |[]=>rfl
 |c::cs=>by simp[opened,C2 cs]
def jQ:AV->Option (L AV)
 |.c (.agg cs)=>opened cs
 |.c (.eF _)=>none
 |.c .undef=>none
 |.eF _=>none
 |.agg cs=>some cs
 |a=>some [a]
def bG:Nat->L AV->L AV->Option (L AV)
 |_,[],l=>some l
 |0,v::vs,_::l=>match bG 0 vs l with
  |some r=>some (v::r)
  |none=>none
 |n+1,vs,x::l=>match bG n vs l with
  |some r=>some (x::r)
  |none=>none
 |_,_::_,[]=>none
mutual
def close:AV->Option CV
 |.c v=>some v
 |.own _ s rows=>some (.sl s rows)
 |.ptr _ _=>none
 |.gY .. => none
 |.any=>none
 |.agg cs=>match oh cs with
  |some l=>some (.agg l)
  |none=>none
 |.eF cs=>match oh cs with
  |some l=>some (.eF l)
  |none=>none
def oh:L AV->Option (L CV)
 |[]=>some []
 |a::l=>match close a with
  |some v=>match oh l with
   |some r=>some (v::r)
   |none=>none
  |none=>none
end
def asNat:AV->Option Nat
 |.c (.int _ (.ofNat n))=>some n
 |_=>none
def bound(ρ:Operand->Option AV):Option Operand->Option (Option Nat)
 |none=>some none
 |some x=>match ρ x with
  |some a=>match asNat a with
   |some n=>some (some n)
   |none=>none
  |none=>none
def Gs(s:Nat)(rows:L CV)(J:Option Nat)(h:Nat)(exact:Bool):Option AV :=
 match takeN h rows with
 |some G=>match (match J with
   |some l=>dV l G
   |none=>some G)with
  |some r=>match exact with
   |true=>some (.own .exact s r)
   |false=>some (.c (.sl s r))
  |none=>none
 |none=>none
def Gt(k:TK)(es:Nat)(x:AV)(J U O:Option Nat):Option AV :=
 match k,x with
 |.str,.c (.str s)=>match O with
  |some _=>none
  |none=>match (match U with
    |some h=>takeN h s
    |none=>some s)with
   |some S=>match J with
    |some l=>match dV l S with
     |some r=>some (.c (.str r))
     |none=>none
    |none=>some (.c (.str S))
   |none=>none
 |.slice _,.own o s rows=>match Nat.beq s es with
  |false=>none
  |true=>match U,O with
  |none,none=>match J with
   |some l=>match dV l rows with
    |some r=>some (.own o s r)
    |none=>none
   |none=>some (.own o s rows)
  |some h,none=>Gs s rows J h false
  |some h,some m=>match Nat.beq h m with
   |true=>Gs s rows J h true
   |false=>none
  |none,some _=>none
 |.slice _,.c (.sl s rows)=>match Nat.beq s es with
  |false=>none
  |true=>match U,O with
  |none,none=>match J with
   |some l=>match dV l rows with
    |some r=>some (.c (.sl s r))
    |none=>none
   |none=>some (.c (.sl s rows))
  |some h,none=>Gs s rows J h false
  |some h,some m=>match Nat.beq h m with
   |true=>Gs s rows J h true
   |false=>none
  |none,some _=>none
 |_,_=>none
def rowsOf:AV->Option (Nat×L CV)
 |.own _ s rows=>some (s,rows)
 |.c (.sl s rows)=>some (s,rows)
 |_=>none
def sY(X:Ctx)(ρ:Operand->Option AV)(B:L (Nat×Nat)):L (Nat×Operand)->L AV->Option (L AV)
 |[],cells=>some cells
 |(i,x)::rest,cells=>match nth B i,ρ x with
  |some (off,Y),some a=>match X.ti Y,jQ a with
   |some j,some vs=>match Nat.beq vs.length j.size,bG off vs cells with
    |true,some cells'=>sY X ρ B rest cells'
    |_,_=>none
   |_,_=>none
  |_,_=>none
def adq(k:TK)(x:AV):Option AV :=
 match k,x with
 |.slice _,.own _ _ rows=>some (.c (.int .i64 rows.length))
 |.slice _,.gY _ _ _ n=>some (.c (.int .i64 n))
 |.slice _,.c (.sl _ rows)=>some (.c (.int .i64 rows.length))
 |.str,.c (.str s)=>some (.c (.int .i64 s.length))
 |.arr n _,_=>some (.c (.int .i64 n))
 |_,_=>none
def afk:L (Option AV)->Option AV
 |[some (.c (.int k a)),some (.c (.int _ b))]=>some (.c (.int k (if b<a then b else a)))
 |_=>none
def afl:L (Option AV)->Option AV
 |[some (.c (.int k a)),some (.c (.int _ b))]=>some (.c (.int k (if b>a then b else a)))
 |_=>none
def gU(ρ:Operand->Option AV):L Operand->Option (L CV)
 |[]=>some []
 |x::l=>match ρ x with
  |some a=>match close a with
   |some v=>match gU ρ l with
    |some r=>some (v::r)
    |none=>none
   |none=>none
  |none=>none
def gv(X:Ctx)(Y:L (Nat×L AV))(ρ:Operand->Option AV):Op->Option AV
 |.move x=>ρ x
 |.assign x=>ρ x
 |.pick c a b=>match ρ c,ρ a,ρ b with
  |some (.c (.bool t)),some a,some b=>ab5 t a b
  |_,_,_=>none
 |.load t x=>match X.ti t,ρ x with
  |some i,some (.ptr W off)=>match aq W Y with
   |some cells=>match dV off cells with
    |some l=>lO i l
    |none=>none
   |none=>none
  |some i,some (.c (.ip cs))=>C5 i cs
  |_,_=>none
 |.nilCheck x=>match ρ x with
  |some (.ptr k o)=>some (.ptr k o)
  |some (.c (.ip cs))=>some (.c (.ip cs))
  |some (.c (.sU f cs))=>some (.c (.sU f cs))
  |_=>none
 |.binOp H t x y _=>match X.ti t,ρ x,ρ y with
  |some i,some a,some b=>XE i.kind H a b
  |_,_,_=>none
 |.unOp H _ x=>match H,ρ x with
  |.not,some (.c (.bool b))=>some (.c (.bool (!b)))
  |.neg,some (.c (.int k n))=>some (.c (.int k (k.wrap (0-n))))
  |_,_=>none
 |.convert s d x=>match X.ti s,X.ti d,ρ x with
  |some _,some j,some (.c (.int _ n))=>match j.kind with
   |.int k=>some (.c (.int k (k.wrap n)))
   |_=>none
  |_,_,_=>none
 |.fieldAddr t x f=>match X.ti t,ρ x with
  |some i,some a=>match i.kind with
   |.struct B=>match nth B f with
    |some (off,_)=>match a with
     |.ptr k o=>some (.ptr k (o+off))
     |.c (.ip cs)=>match dV off cs with
      |some r=>some (.c (.ip r))
      |none=>none
     |_=>none
    |none=>none
   |_=>none
  |_,_=>none
 |.field t x f=>match X.ti t,ρ x with
  |some i,some a=>match i.kind with
   |.struct B=>match nth B f with
    |some (off,V)=>match X.ti V with
     |some j=>match a with
      |.agg cs=>match dV off cs with
       |some r=>lO j r
       |none=>none
      |.c (.agg cs)=>match dV off cs with
       |some r=>C5 j r
       |none=>none
      |_=>none
     |none=>none
    |none=>none
   |_=>none
  |_,_=>none
 |.indexAddr t x P=>match X.ti t,ρ x,ρ P with
  |some i,some a,some n=>match asNat n with
   |some n=>match i.kind with
    |.slice e=>match X.ti e,rowsOf a with
     |some j,some (s,rows)=>match Nat.beq s j.size,nth rows n with
      |true,some r=>some (.c (.ip r.cells))
      |_,_=>none
     |_,_=>none
    |.arr m e=>match X.ti e,a,Nat.blt n m with
     |some j,.ptr k o,true=>some (.ptr k (o+n*j.size))
     |_,_,_=>none
    |_=>none
   |none=>none
  |_,_,_=>none
 |.index t x P=>match X.ti t,ρ x,ρ P with
  |some i,some a,some n=>match asNat n with
   |some n=>match i.kind,a with
    |.str,.c (.str s)=>match nth s n with
     |some b=>some (.c (.int .u8 b.toNat))
     |none=>none
    |_,_=>none
   |none=>none
  |_,_,_=>none
 |.extract x n=>match ρ x with
  |some (.eF cs)=>nth cs n
  |some (.c (.eF cs))=>match nth cs n with
   |some v=>some (.c v)
   |none=>none
  |_=>none
 |.build t A=>match X.ti t with
  |some i=>match i.kind,i.zero with
   |.struct B,some (.agg z)=>match sY X ρ B A.toList z with
    |some cells=>some (.agg cells)
    |none=>none
   |_,_=>none
  |none=>none
 |.slice t x J U O=>match X.ti t,ρ x,bound ρ J,bound ρ U,bound ρ O with
  |some i,some a,some J,some U,some O=>match i.kind with
   |.slice e=>match X.ti e with
    |some j=>Gt i.kind j.size a J U O
    |none=>none
   |_=>Gt i.kind 0 a J U O
  |_,_,_,_,_=>none
 |.makeFunc (.func f) first caps=>match first.toList,gU ρ caps.toList with
  |[],some l=>some (.c (.sU f l))
  |_,_=>none
 |.call {callee := .builtin .len,args,argTypes}=>match args.toList,argTypes.toList with
  |[x],[t]=>match X.ti t,ρ x with
   |some i,some a=>adq i.kind a
   |_,_=>none
  |_,_=>none
 |.call {callee := .builtin .min,args,argTypes:=_}=>afk (args.toList.map ρ)
 |.call {callee := .builtin .max,args,argTypes:=_}=>afl (args.toList.map ρ)
 |_=>none
section
variable {P : Program}{X : Ctx}{w : World}{g : Gh}
def yb{s:L UInt8}:(ByteArray.mk s.toArray).size=s.length:=by simp[ByteArray.size]
def extract_mk(s:L UInt8)(l h:Nat):(ByteArray.mk s.toArray).extract l h=⟨((s.take h).drop l).toArray⟩:=by apply ByteArray.ext;simp;rw[List.drop_take]
def iL{y n:Nat}(h:n<=y)(k:IntKind)(c:BoundsCode):(Instr.sliceBound (.int k (n:Int)) y c).run P w = .ok n w:=by simp[Instr.sliceBound,asIntOf,h]
def zm{a:AV}{n:Nat}(h:asNat a=some n){u:Value}(B:aP g a u):∃k,u = .int k (Int.ofNat n):=by unfold asNat at h;split at h;simp at h;subst h;exact⟨_,B⟩;grind
def gR(o:Option Value):Option Nat->Prop
 |none=>o=none
 |some n=>∃k,o=some (.int k (Int.ofNat n))
def qo{ρ:Operand->Option AV}{ev:Operand->Value}(O:∀x v,ρ x=some v->aP g v (ev x)){o:Option Operand}{r:Option Nat}
  (h:bound ρ o=some r):gR (o.map ev) r:=by
 unfold bound at h;split at h;simp at h;subst h;simp[gR];rename_i x;split at h;rename_i a T;split at h;rename_i n B;simp at h;subst h;obtain⟨k,e⟩:=zm B (O x a T);exact⟨k,by simp[e]⟩;grind;grind
def oE{u N h l:Nat}{J U:Option Value}(Y:Bool)(D:gR U (some h))(I:gR J (some l))(h1:h<=N)(h2:l<=h) :
  (Instr.sliceBounds Y u N J U none).run P w = .ok (l,h,N) w:=by
 obtain⟨k,rfl⟩:=D;obtain⟨k',rfl⟩:=I;simp[Instr.sliceBounds,iL h1,iL h2]
def nG{u N h:Nat}{J U:Option Value}(Y:Bool)(D:gR U (some h))(I:gR J none)(h1:h<=N) :
  (Instr.sliceBounds Y u N J U none).run P w = .ok (0,h,N) w:=by
 obtain⟨k,rfl⟩:=D;subst I;simp[Instr.sliceBounds,iL h1]
def lR{u N l:Nat}{J U:Option Value}(Y:Bool)(D:gR U none)(I:gR J (some l))(h2:l<=u) :
  (Instr.sliceBounds Y u N J U none).run P w = .ok (l,u,N) w:=by
 obtain⟨k,rfl⟩:=I;subst D;simp[Instr.sliceBounds,iL h2]
def lS{u N:Nat}{J U:Option Value}(Y:Bool)(D:gR U none)(I:gR J none) :
  (Instr.sliceBounds Y u N J U none).run P w = .ok (0,u,N) w:=by
 subst D I;rfl
def BO{u N h l m:Nat}{J U O:Option Value}(Y:Bool)(q:gR O (some m))(D:gR U (some h))(I:gR J (some l))
  (C:m<=N)(h1:h<=m)(h2:l<=h) :
  (Instr.sliceBounds Y u N J U O).run P w = .ok (l,h,m) w:=by
 obtain⟨k,rfl⟩:=D;obtain⟨k',rfl⟩:=I;obtain⟨W,rfl⟩:=q;simp[Instr.sliceBounds,iL C,iL h1,iL h2]
def r9{u N h m:Nat}{J U O:Option Value}(Y:Bool)(q:gR O (some m))(D:gR U (some h))(I:gR J none)
  (C:m<=N)(h1:h<=m) :
  (Instr.sliceBounds Y u N J U O).run P w = .ok (0,h,m) w:=by
 obtain⟨k,rfl⟩:=D;obtain⟨W,rfl⟩:=q;subst I;simp[Instr.sliceBounds,iL C,iL h1]
def mh.cut{G:kE}{s:Nat}{base:Option Addr}{rows:L CV}{u:Nat}(I:u=rows.length)(h:mh G s base rows)(l H m:Nat)(h1:l<=H)(h2:H<=u)(K:H<=m) :
  mh G s (if m=l then base else base.map (·.add (l*s))) ((rows.take H).drop l):=by
 rcases h with rfl|⟨b,o,rfl,B⟩
 left;simp;by_cases e:m=l;left;simp;omega;right;refine⟨b,o+l*s,by simp[e,Addr.add_lit],?_⟩;exact(B.take (n:=H)).drop
def iE(hX:cB P X){t e:Nat}{i j:TI}(Y:X.ti t=some i)(A:i.kind = .slice e)(W:X.ti e=some j){base:Option Addr}{u N:Nat}{J U O:Option Value}
  {l h m:Nat}(V:∀w,(Instr.sliceBounds true u N J U O).run P w = .ok (l,h,m) w) :
  (Instr.sliceAt t (.slice base u N) J U O).run P w = .ok (.slice (if m=l then base else base.map (·.add (l*j.size))) (h-l) (m-l)) w:=by
 obtain⟨d,T,q,_⟩:=hX.run_underlying (w:=w) Y;rw[A]at q;subst q;simp[Instr.sliceAt,Instr.slice,T,V,hX.run_sizeOf W]
def IC(hX:cB P X){t:Nat}{i:TI}(Y:X.ti t=some i)(A:i.kind = .str){s:ByteArray}{J U:Option Value}
  {l h m:Nat}(W:∀w,(Instr.sliceBounds false s.size s.size J U none).run P w = .ok (l,h,m) w) :
  (Instr.sliceAt t (.string s) J U none).run P w = .ok (.string (s.extract l h)) w:=by
 obtain⟨d,V,q,_⟩:=hX.run_underlying (w:=w) Y;rw[A]at q;subst q;simp[Instr.sliceAt,Instr.slice,V,W]
end
end Go.cw
namespace Go.cw
section
variable {P : Program}{X : Ctx}{w : World}{g : Gh}
def Gu{a:AV}{s:Nat}{rows:L CV}(h:rowsOf a=some (s,rows)){u:Value}(B:aP g a u) :
  ∃base Y N,u = .slice base Y N/\Y=rows.length/\Y<=N/\mh g.G s base rows:=by
 unfold rowsOf at h;split at h;obtain⟨rfl,rfl⟩:=h;obtain⟨base,Y,N,e,I,W,B,_⟩:=B;grind;obtain⟨rfl,rfl⟩:=h;exact B;grind
def Ah.drop{s:Nat}{base:Option Addr}{u N l:Nat}:∀{k:Own},Ah g s base u N k->l<=u ->
  Ah g s (if N=l then base else base.map (·.add (l*s))) (u-l) (N-l) k
 |.exact,h,_=>by simp only[Ah]at h ⊢;omega
 |.tok Y n,h,P=>by
  obtain⟨M,T,e,H,B⟩:=h;refine⟨M,T,e,H,λJ=>?_⟩;rcases B J with B|⟨b,D,U,o,rfl,rfl,h1,h2,K⟩
  omega;by_cases I:N=l;omega;right;refine⟨b,D,U,o+l*s,Z,by simp[I,Addr.add_lit],?_,?_,ai⟩;rw[h1];rw[aii,<- agX];congr 2;omega;rw[h2];rw[aii,<- agX];congr 2;omega
def XG{s:Nat}{rows:L CV}{J:Option Nat}{h:Nat}{ex:Bool}{v:AV}(e:Gs s rows J h ex=some v) :
  h<=rows.length/\J.getD 0<=h/\v=if ex then .own .exact s ((rows.take h).drop (J.getD 0))else .c (.sl s ((rows.take h).drop (J.getD 0))):=by
 unfold Gs at e;split at e
 ·rename_i G h1;obtain⟨rfl,I⟩:=r8 h1;cases J with
  |none =>
   grind
  |some l =>
   split at e;rename_i r h2;obtain⟨rfl,Y⟩:=mj h2;grind;grind
 grind
def JF(hX:cB P X){t:Nat}{i:TI}(B:X.ti t=some i){es:Nat}(q:∀e,i.kind = .slice e->∃j,X.ti e=some j/\j.size=es)
  {x v:AV}{J K mx:Option Nat}(h:Gt i.kind es x J K mx=some v){u:Value}(hu:aP g x u)
  {U T I:Option Value}(Y:gR U J)(W:gR T K)(O:gR I mx) :
  ∃r,(Instr.sliceAt t u U T I).run P w = .ok r w/\aP g v r:=by
 have cut:∀{e:Nat}{rows:L CV}{base:Option Addr}{V N:Nat}{D:Nat}{ex:Bool},i.kind = .slice e->V=rows.length->V<=N->mh g.G es base rows ->
   K=some D->(mx=if ex then some D else none)->Gs es rows J D ex=some v ->
   ∃r,(Instr.sliceAt t (.slice base V N) U T I).run P w = .ok r w/\aP g v r:=by
  intro e rows base V N D ex Q S A M e1 e2 QV;obtain⟨j,H,E⟩:=q e Q;obtain⟨c1,c2,c3⟩:=XG QV;subst e1;cases ex with
  |false =>
   subst e2;simp only[gR]at O;subst O;have hb:∀w,(Instr.sliceBounds true V N U T none).run P w = .ok (J.getD 0,D,N) w:=by
    intro w;cases J with
    |none=>exact nG true W Y ai
    |some l=>exact oE true W Y ai (by simpa using c2)
   refine⟨_,iE hX B Q H hb,?_⟩;rw[c3,E];simp only[Bool.false_eq_true,agL,aP,Rel];exact⟨_,_,_,Z,ob,ai,(mh.cut S M (J.getD 0) D N c2 ai ai)⟩
  |true =>
   subst e2;have hb:∀w,(Instr.sliceBounds true V N U T I).run P w = .ok (J.getD 0,D,D) w:=by
    intro w;cases J with
    |none=>exact r9 true O W Y ai ai
    |some l=>exact BO true O W Y ai ai (by simpa using c2)
   refine⟨_,iE hX B Q H hb,?_⟩;rw[c3,E];simp only[aP,if_true];exact⟨_,_,_,Z,ob,ai,(mh.cut S M (J.getD 0) D D c2 ai ai),Z⟩
 unfold Gt at h;split at h
 ·
  rename_i Q;rename_i s;simp only[aP,Rel]at hu;subst hu;split at h;simp at h;simp only[gR]at O;subst O;have fin:∀{l h':Nat},(∀w,(Instr.sliceBounds false (ByteArray.mk s.toArray).size (ByteArray.mk s.toArray).size U T none).run P w = .ok (l,h',(ByteArray.mk s.toArray).size) w) ->
    v = .c (.str ((s.take h').drop l))->∃r,(Instr.sliceAt t (.string ⟨s.toArray⟩) U T none).run P w = .ok r w/\aP g v r:=by
   intro l h' hb e;refine⟨_,IC hX B Q hb,?_⟩;rw[e,extract_mk];simp[aP,Rel]
  cases K with
  |none =>
   simp only at h;cases J with
   |none =>
    simp at h;subst h;exact fin (λw=>lS false W Y) (by simp[yb])
   |some l =>
    simp only at h;split at h;rename_i r hr;obtain⟨rfl,hl⟩:=mj hr;simp at h;subst h;exact fin (λw=>lR false W Y (by rw[yb];exact hl)) (by simp[yb]);simp at h
  |some D =>
   simp only at h;split at h
   ·rename_i s1 uo;obtain⟨rfl,Kz⟩:=r8 uo;cases J with
    |none =>
     simp at h;subst h;exact fin (λw=>nG false W Y (by rw[yb];exact Kz)) cc
    |some l =>
     simp only at h;split at h;rename_i r hr;obtain⟨rfl,hl⟩:=mj hr;simp at h;subst h;exact fin (λw=>oE false W Y (by rw[yb];exact Kz) (by simp at hl;omega)) cc;simp at h
   simp at h
 ·
  rename_i e o s rows Q;simp only[aP]at hu;obtain⟨base,V,N,rfl,S,A,M,C⟩:=hu;split at h;simp at h;rename_i hs;have:=beq_true hs;subst this;obtain⟨j,H,E⟩:=q e Q;split at h;simp only[gR]at O;subst O;split at h;rename_i l;split at h;rename_i r hr;obtain⟨rfl,hl⟩:=mj hr;simp at h;subst h;refine⟨_,iE hX B Q H (λw=>lR true W Y ai),?_⟩;rw[E];simp only[aP];refine⟨_,_,_,Z,ob,ai,?_,C.drop ai⟩;have:=mh.cut S M l V N ai (aaV _) A;rwa[agJ ai]at this;simp at h;simp at h;subst h;refine⟨_,iE hX B Q H (λw=>lS true W Y),?_⟩;rw[E];simp only[aP];refine⟨_,_,_,Z,ob,ai,?_,C.drop ai⟩;have:=mh.cut S M 0 V N ai (aaV _) A;rwa[agJ ai]at this;simp_all;split at h;simp_all;simp at h;simp at h
 rename_i e s rows Q;simp only[aP,Rel]at hu;obtain⟨base,V,N,rfl,S,A,M⟩:=hu;split at h;simp at h;rename_i hs;have:=beq_true hs;subst this;obtain⟨j,H,E⟩:=q e Q;split at h;simp only[gR]at O;subst O;split at h;rename_i l;split at h;rename_i r hr;obtain⟨rfl,hl⟩:=mj hr;simp at h;subst h;refine⟨_,iE hX B Q H (λw=>lR true W Y ai),?_⟩;rw[E];simp only[aP,Rel];refine⟨_,_,_,Z,ob,ai,?_⟩;have:=mh.cut S M l V N ai (aaV _) A;rwa[agJ ai]at this;simp at h;simp at h;subst h;refine⟨_,iE hX B Q H (λw=>lS true W Y),?_⟩;rw[E];simp only[aP,Rel];refine⟨_,_,_,Z,ob,ai,?_⟩;have:=mh.cut S M 0 V N ai (aaV _) A;rwa[agJ ai]at this;exact cut Q S A M Z Z h;split at h;rename_i hb;have:=beq_true hb;subst this;exact cut (ex:=true) Q S A M Z Z h;simp at h;simp at h;simp at h
end
end Go.cw
namespace Go.cw
def qp:∀{off:Nat}{vs l r:L AV},bG off vs l=some r ->
  r.length=l.length/\off+vs.length<=l.length+(if vs=[]then off else 0)/\∀(j:Nat),r[j]?=if off<=j/\j<off+vs.length then vs[j-off]? else l[j]?
 |off,[],l,r,h=>by cases off<;>simp[bG]at h<;>subst h<;>simp<;>intros<;>omega
 |0,v::vs,[],r,h=>by simp[bG]at h
 |0,v::vs,x::l,r,h=>by simp only[bG]at h;split at h;rename_i O H;simp at h;subst h;obtain⟨h1,h2,K⟩:=qp H;refine⟨ab3,?_,?_⟩;simp_all;grind;simp at h
 |n+1,v::vs,[],r,h=>by simp[bG]at h
 |n+1,v::vs,x::l,r,h=>by simp only[bG]at h;split at h;rename_i O H;simp at h;subst h;obtain⟨h1,h2,K⟩:=qp H;refine⟨ab3,?_,?_⟩;simp at h2 ⊢;omega;grind;simp at h
def QW{off:Nat}{v:AV}{vs l r:L AV}(h:bG off (v::vs) l=some r):off+(v::vs).length<=l.length:=by have:=(qp h).2.1;simpa using this
section
variable {P : Program}{X : Ctx}{w : World}{g : Gh}
def zn{a:AV}{vs:L AV}(h:jQ a=some vs){u:Value}(B:aP g a u) :
  bW g vs u.cells.toList/\vs.all AV.one=true:=by
 have Y:∀(cs:L CV)(us:L Value),b9 g.G cs us->cs.all CV.one=true->bW g (cs.map AV.c) us/\(cs.map AV.c).all AV.one=true:=by
  intro cs
  induction cs with
  |nil=>intro us h1 _;subst h1;simp[bW]
  |cons c cs U =>
   intro us h1 h2;obtain⟨u,us,rfl,I,B⟩:=h1;simp at h2;obtain⟨K,S⟩:=U us B (by simpa using h2.2);exact⟨by simp;exact⟨u,us,Z,by simpa only[aP]using I,K⟩,by simp only[aeX,afQ,AV.one,h2.1];exact S⟩
 cases a with
 |c v =>
  have W:∀(v:CV)(u:Value),v.one=true->Rel g.G v u->bW g [.c v] u.cells.toList/\([AV.c v].all AV.one=true):=by
   intro v u T B;have I:u.cells.toList=[u]:=by
    cases v<;>simp only[Rel]at B<;>simp[CV.one]at T
    case int=>subst B;rfl
    case bool=>subst B;rfl
    case str=>subst B;rfl
    case mX=>subst B;rfl
    case sl=>obtain⟨_,_,_,rfl,_⟩:=B;rfl
    case ip=>obtain⟨_,_,rfl,_⟩:=B;rfl
    case sU=>obtain⟨_,rfl,_⟩:=B;rfl
    case any =>
     cases u<;>first|rfl|(exact absurd Z (B.1 _))
    case uU=>obtain⟨_,rfl⟩:=B;rfl
   rw[I];exact⟨by simp only[bW,aP];exact⟨u,[],Z,B,Z⟩,by simp[AV.one,T]⟩
  simp only[aP]at B;cases v<;>simp only[jQ,C2,agP,reduceCtorEq]at h
  case agg cs =>
   subst h;simp only[Rel]at B;obtain⟨us,rfl,h1,h2⟩:=B;have:=Y cs us h1 h2;simpa[Value.cells]using this
  all_goals (subst h;exact W _ _ rfl B)
 |own k s rows =>
  simp[jQ]at h;subst h;have P:=B;simp only[aP]at P;obtain⟨base,Q,N,rfl,_⟩:=P;refine⟨?_,Z⟩;simp only[Value.cells,bW];exact⟨_,[],Z,B,Z⟩
 |ptr V off =>
  simp[jQ]at h;subst h;have P:=B;simp only[aP]at P;obtain⟨b,_,rfl⟩:=P;refine⟨?_,Z⟩;simp only[Value.cells,bW];exact⟨_,[],Z,B,Z⟩
 |gY V off s n =>
  simp[jQ]at h;subst h;have P:=B;simp only[aP]at P;obtain⟨b,N,o,_,rfl,_⟩:=P;refine⟨?_,Z⟩;simp only[Value.cells,bW];exact⟨_,[],Z,B,Z⟩
 |any =>
  simp[jQ]at h;subst h;have P:=B;simp only[aP]at P;have I:u.cells.toList=[u]:=by cases u<;>first|rfl|exact absurd Z (P.1 _)
  rw[I];refine⟨?_,Z⟩;simp only[bW];exact⟨_,[],Z,B,Z⟩
 |agg cs =>
  simp[jQ]at h;subst h;simp only[aP]at B;obtain⟨us,rfl,h1,h2⟩:=B;exact⟨by simpa[Value.cells]using h1,h2⟩
 |eF cs=>simp[jQ]at h
def Gv(off:Nat):∀(l:L Value)(k:Nat)(cells:Array Value),off+k+l.length<=cells.size ->
  ((l.zipIdx k).foldl (λ(cs:Array Value)(p:Value×Nat)=>cs.setIfInBounds (off+p.2) p.1) cells).size=cells.size /\
  ∀j,((l.zipIdx k).foldl (λ(cs:Array Value)(p:Value×Nat)=>cs.setIfInBounds (off+p.2) p.1) cells)[j]? =
   if off+k<=j/\j<off+k+l.length then l[j-(off+k)]? else cells[j]?
 |[],k,cells,_=>by simp;intros;omega
 |v::l,k,cells,h=>by simp only[agR,List.foldl_cons];obtain⟨h1,h2⟩:=Gv off l (k+1) (cells.setIfInBounds (off+k) v) (by simp at h ⊢;omega);refine⟨by rw[h1];simp,λj=>?_⟩;rw[h2];by_cases Y:off+(k+1)<=j/\j<off+(k+1)+l.length;grind;grind
def Gw(hX:cB P X){ρ:Operand->Option AV}{ev:Operand->Value}(O:∀x v,ρ x=some v->aP g v (ev x)){H:L (Nat×Nat)}(Y:Nat->Option (Nat×Nat))
  (U:∀i off W j,nth H i=some (off,W)->X.ti W=some j->Y i=some (off,j.size)) :
  ∀{A:L (Nat×Operand)}{cells r:L AV}{vs:Array Value},sY X ρ H A cells=some r->bW g cells vs.toList->cells.all AV.one=true ->
   ∃us,Instr.fill Y vs (A.map λ(i,x)=>(i,ev x))=some us/\bW g r us.toList/\r.all AV.one=true
 |[],cells,r,vs,h,B,T=>by simp[sY]at h;subst h;exact⟨vs,by simp[Instr.fill],B,T⟩
 |(i,x)::rest,cells,r,vs,h,B,T=>by
  simp only[sY]at h;split at h
  ·rename_i off W a h1 h2;split at h
   ·rename_i j us K M;split at h
    ·rename_i cells' J C;have u:=beq_true J;obtain⟨S,V⟩:=zn M (O x a h2);have Q:us.length=(ev x).cells.size:=(by rw[(bW.get S).1];simp);have I:j.size≠0:=(by obtain⟨_,_,_,_,_,_,D⟩:=hX.ti W j K;exact D);obtain⟨G,c2⟩:=bW.get B;obtain⟨w1,w2,E⟩:=qp C;have q:off+us.length<=cells.length:=(by grind);have hvs:cells.length=vs.size:=(by rw[G];simp);obtain⟨f1,f2⟩:=Gv off (ev x).cells.toList 0 vs ob;have hf:Instr.fill Y vs (((i,x)::rest).map λ(i,x)=>(i,ev x)) =
       Instr.fill Y ((ev x).cells.zipIdx.foldl (λcs (c,j)=>cs.setIfInBounds (off+j) c) vs) (rest.map λ(i,x)=>(i,ev x)):=by
      simp only[aeX,Instr.fill,U i off W j h1 K];rw[if_neg];simp;omega
     have XI:(ev x).cells.zipIdx.foldl (λcs (c,j)=>cs.setIfInBounds (off+j) c) vs =
       ((ev x).cells.toList.zipIdx 0).foldl (λ(cs:Array Value)(p:Value×Nat)=>cs.setIfInBounds (off+p.2) p.1) vs:=by
      rw[<- Array.foldl_toList];simp
     rw[hf,XI];obtain⟨a1,a2⟩:=bW.get S;apply Gw hX O Y U h;apply bW.lG;simp_all;grind;rw[aha]at T V ⊢;intro y hy;obtain⟨k,N⟩:=ahd hy;rw[E]at N;split at N;grind;grind
    simp at h
   simp at h
  simp at h
end
end Go.cw
namespace Go.cw
section
variable {P : Program}{X : Ctx}{w : World}{g : Gh}
def uY:(∀(a:AV)(v:CV)(u:Value),close a=some v->aP g a u->Rel g.G v u/\(a.one=true->v.one=true)):=by
 intro a;refine AV.rec (motive_1:=λa=>∀(v:CV)(u:Value),close a=some v->aP g a u->Rel g.G v u/\(a.one=true->v.one=true))
  (motive_2:=λl=>∀(vs:L CV)(us:L Value),oh l=some vs->bW g l us->b9 g.G vs us/\(l.all AV.one=true->vs.all CV.one=true)/\vs.length=l.length) ?_ ?_ ?_ ?_ ?_ ?_ ?_ ?_ ?_ a
 intro v w' u h B;simp[close]at h;subst h;exact⟨by simpa only[aP]using B,id⟩;intro k s rows v u h B;simp[close]at h;subst h;obtain⟨base,Y,N,rfl,h1,h2,K,_⟩:=B;exact⟨by simp only[Rel];exact⟨base,Y,N,Z,h1,h2,K⟩,λ_=>rfl⟩;intro W off v u h;simp[close]at h;intro W off s n v u h;simp[close]at h;intro v u h;simp[close]at h;intro cs V v u h B;simp only[close]at h;split at h;rename_i l I;simp at h;subst h;obtain⟨us,rfl,h1,h2⟩:=B;obtain⟨Q,S,_⟩:=V l us I h1;exact⟨by simp only[Rel];exact⟨us,Z,Q,S h2⟩,λh=>by simp[AV.one]at h⟩;grind;intro cs V v u h B;simp only[close]at h;split at h;rename_i l I;simp at h;subst h;simp only[aP]at B;obtain⟨us,rfl,h1,h2⟩:=B;obtain⟨Q,S,D⟩:=V l us I h1;exact⟨by simp only[Rel];exact⟨us,Z,Q,ai⟩,λh=>by simp[AV.one]at h⟩;simp at h;intro vs us h B;simp[oh]at h;subst h;subst B;simp[b9];intro a l U T vs us h B;simp only[oh]at h;split at h;rename_i v O;split at h;rename_i r P;simp at h;subst h;simp only[bW]at B;obtain⟨u,us,rfl,h1,h2⟩:=B;obtain⟨M,a2⟩:=U v u O h1;obtain⟨J,H,E⟩:=T r us P h2;refine⟨by simp only[b9];exact⟨u,us,Z,M,J⟩,λh=>?_,aek⟩;simp only[afQ,aaN]at h ⊢;exact⟨a2 h.1,H h.2⟩;simp at h;simp at h
def pK{ρ:Operand->Option AV}{ev:Operand->Value}(O:∀x v,ρ x=some v->aP g v (ev x)) :
  ∀{l:L Operand}{r:L CV},gU ρ l=some r->b9 g.G r (l.map ev)
 |[],r,h=>by simp[gU]at h;subst h;simp[b9]
 |x::l,r,h=>by simp only[gU]at h;split at h;rename_i a T;split at h;rename_i v N;split at h;rename_i Y P;simp at h;subst h;exact⟨_,_,rfl,(uY a v _ N (O x a T)).1,pK O P⟩;grind;grind;grind
def C8{α:Type}{cs rest:List α}{off:Nat}{c:α}(h:cs.drop off=c::rest):cs[off]?=some c:=by have:=aeM (λl=>l[0]?) h;simpa using this
def Gx(hX:cB P X){t:Nat}{i:TI}(U:X.ti t=some i){vs:Array Value}{off:Nat}{r:AV}
  (h:(∃cs rest,bW g cs vs.toList/\cs.all AV.one=true/\dV off cs=some rest/\lO i rest=some r) \/
   (∃cs rest,b9 g.G cs vs.toList/\cs.all CV.one=true/\dV off cs=some rest/\C5 i rest=some r)) :
  ∃u,(part t vs off).run P w = .ok u w/\aP g r u:=by
 have M:i.size≠0:=by obtain⟨_,_,_,_,_,_,J⟩:=hX.ti t i U;exact J
 rcases h with ⟨cs,rest,h1,h2,K,Y⟩|⟨cs,rest,h1,h2,K,Y⟩
 ·obtain⟨rfl,I⟩:=mj K;obtain⟨H,S⟩:=bW.get h1;unfold lO at Y;cases T:i.isAgg<;>rw[T]at Y<;>simp only at Y;split at Y;rename_i c W O;simp at Y;subst Y;have Q:cs[off]?=some c:=C8 O;obtain⟨u,E,N⟩:=S off c Q;refine⟨u,?_,N⟩;have:vs[off]?=some u:=(by simpa using E);simp[part,hX.rD U,T,this];simp at Y;split at Y;rename_i l V;simp at Y;subst Y;obtain⟨rfl,B⟩:=r8 V;refine⟨.agg (vs.extract off (off+i.size)),by simp[part,hX.rD U,T,hX.run_sizeOf U],?_⟩;simp only[aP];refine⟨(vs.extract off (off+i.size)).toList,Z,?_,?_⟩;apply bW.lG;simp_all;grind;grind;simp at Y
 obtain⟨rfl,I⟩:=mj K;obtain⟨H,S⟩:=b9.get h1;unfold C5 at Y;cases T:i.isAgg<;>rw[T]at Y<;>simp only at Y
 ·split at Y
  ·rename_i c W O;simp at Y;subst Y;have Q:cs[off]?=some c:=C8 O;obtain⟨u,E,N⟩:=S off c Q;refine⟨u,?_,by simpa only[aP]using N⟩;have:vs[off]?=some u:=by simpa using E
   simp[part,hX.rD U,T,this]
  simp at Y
 split at Y;rename_i l V;simp at Y;subst Y;obtain⟨rfl,B⟩:=r8 V;refine⟨.agg (vs.extract off (off+i.size)),by simp[part,hX.rD U,T,hX.run_sizeOf U],?_⟩;simp only[aP,Rel];refine⟨(vs.extract off (off+i.size)).toList,Z,?_,?_⟩;apply b9.lG;simp_all;grind;grind;simp at Y
end
end Go.cw
namespace Go.cw
section
variable {P : Program}{X : Ctx}{w : World}{g : Gh}
def D0(hX:cB P X){t:Nat}{i:TI}(T:X.ti t=some i){B:L (Nat×Nat)}(A:i.kind = .struct B){f off S:Nat}(hf:nth B f=some (off,S))(b o:Nat) :
  (Instr.fieldAt t (.pointer (some ⟨b,o,none⟩)) f).run P w = .ok (.pointer (some ⟨b,o+off,none⟩)) w:=by
 obtain⟨d,Q,U,_⟩:=hX.run_underlying (w:=w) T;rw[A]at U;obtain⟨Y,rfl,h1,h2⟩:=U;rw[tY,<- h1]at hf;simp at hf;obtain⟨V,E,N,H⟩:=hf;have W:V∈Y.toList:=by rw[aiK];exact Array.mem_of_getElem? E
 obtain⟨G,C,q⟩:=h2 V W;simp[Instr.fieldAt,Q,E,Instr.sureAddr,fieldPlace,sizeOf,typeInfo,C,q,N,Addr.add_lit]
def JG(hX:cB P X){t:Nat}{i:TI}(V:X.ti t=some i){B:L (Nat×Nat)}(A:i.kind = .struct B){f off W:Nat}(hf:nth B f=some (off,W))(vs:Array Value) :
  (Instr.field t (.agg vs) f).run P w=(part W vs off).run P w:=by
 obtain⟨d,T,U,_⟩:=hX.run_underlying (w:=w) V;rw[A]at U;obtain⟨Y,rfl,h1,h2⟩:=U;rw[tY,<- h1]at hf;simp at hf;obtain⟨S,E,N,H⟩:=hf;simp[Instr.field,T,E,asAgg,N,H]
def wP(hX:cB P X):∀(Y:L Field),(∀f∈Y,∃G,P.info? f.type=some G/\G.size≠0) ->
  ∃K:L (Nat×Nat),(Y.mapM (m:=Sem) λf=>do pure (f.offset,<- sizeOf f.type)).run P w = .ok K w/\K.length=Y.length /\
   ∀(k:Nat)(f:Field),Y[k]?=some f->∃G,P.info? f.type=some G/\K[k]?=some (f.offset,G.size)
 |[],_=>⟨[],cc,Z,cc⟩
 |f::Y,h=>by obtain⟨G,E,N⟩:=h f cc;obtain⟨K,h1,h2,I⟩:=wP hX Y (λf hf=>h f (by simp[hf]));refine⟨(f.offset,G.size)::K,?_,by simp[h2],?_⟩;simp only[aiz,Sem.run_bind,sizeOf,typeInfo,run_program,Result.andThen_ok,E,Sem.run_pure];simp only[sizeOf,typeInfo]at h1;rw[h1];rfl;grind
def run_build(hX:cB P X){t:Nat}{i:TI}(U:X.ti t=some i){B:L (Nat×Nat)}(T:i.kind = .struct B){z r:L AV}(I:i.zero=some (.agg z))
  {ρ:Operand->Option AV}{ev:Operand->Value}(O:∀x v,ρ x=some v->aP g v (ev x)){A:Array (Nat×Operand)}
  (h:sY X ρ B A.toList z=some r) :
  ∃u,(Instr.build t (A.map λ(i,x)=>(i,ev x))).run P w = .ok u w/\aP g (.agg r) u:=by
 obtain⟨d,S,q,_⟩:=hX.run_underlying (w:=w) U;rw[T]at q;obtain⟨Y,rfl,h1,h2⟩:=q;obtain⟨zv,C,Q,z3⟩:=hX.nj (w:=w) U I;have N:=Q g;obtain⟨M,rfl,K,J⟩:=N;obtain⟨H,p1,p2,G⟩:=wP (P:=P) (w:=w) hX Y.toList h2
 obtain⟨us,f1,D,f3⟩:=Gw hX O (λ(i:Nat)=>H[i]?) (by
  intro i off ft j E e2;rw[tY,<- h1]at E;simp at E;obtain⟨fl,e3,e4,e5⟩:=E;obtain⟨inf,V,e7⟩:=G i fl (by simpa using e3);obtain⟨akI,W,e9,_⟩:=hX.ti ft j e2;rw[e5]at V;rw[V]at W;simp at W;subst W
  simp[e7,e4,e9]) (vs:=M.toArray) h adS J
 refine⟨.agg us,?_,by simp only[aP];exact⟨us.toList,cc,D,f3⟩⟩;simp only[Instr.build,Sem.run_bind,C,Result.andThen_ok,S,Value.cells]
 rw[show(Y.mapM (m:=Sem) λf=>do pure (f.offset,<- sizeOf f.type))=(Y.toList.mapM λf=>do pure (f.offset,<- sizeOf f.type)) >>= λl=>pure l.toArray from by
  rw[ahR];rfl]
 simp_all
def xO{g:Gh}{k:IntKind}{n:Int}{u:Value}(h:aP g (.c (.int k n)) u):u = .int k n:=by simpa only[aP,Rel]using h
def aaL(hX:cB P X){t:Nat}{i:TI}(V:X.ti t=some i){a v:AV}(h:adq i.kind a=some v){u:Value}(T:aP g a u)(ty:TypeId) :
  ∃r,(Builtin.len_ #[t] ty #[u]).run P w = .ok r w/\aP g v r:=by
 obtain⟨d,W,U,_⟩:=hX.run_underlying (w:=w) V;unfold adq at h;split at h;rename_i e o s rows A;rw[A]at U;simp only[jA]at U;subst U;simp at h;subst h;simp only[aP]at T;obtain⟨base,Y,N,rfl,I,_⟩:=T;exact⟨.int .i64 Y,ac3,by simp[aP,Rel,I]⟩;rename_i e S off s n A;rw[A]at U;simp only[jA]at U;subst U;simp at h;subst h;simp only[aP]at T;obtain⟨b,N,o,_,rfl,_⟩:=T;exact⟨.int .i64 n,ac3,ri⟩;rename_i e s rows A;rw[A]at U;simp only[jA]at U;subst U;simp at h;subst h;simp only[aP,Rel]at T;obtain⟨base,Y,N,rfl,I,_⟩:=T;exact⟨.int .i64 Y,ac3,by simp[aP,Rel,I]⟩;rename_i s A;rw[A]at U;simp only[jA]at U;subst U;simp at h;subst h;simp only[aP,Rel]at T;subst T;exact⟨.int .i64 s.length,by simp[Builtin.len_,W,goInt,yb],ri⟩;rename_i n e A;rw[A]at U;simp only[jA]at U;subst U;simp at h;subst h;exact⟨.int .i64 n,by cases u<;>simp[Builtin.len_,W,goInt],ri⟩;simp at h
end
end Go.cw
namespace Go.cw
section
variable {P : Program}{X : Ctx}{w : World}{g : Gh}
def N0(hX:cB P X){S:L (Nat×L AV)}
  (jl:∀b o v,g.G b o=some v->w.cell? ⟨b,o,none⟩=some v)
  (ah0:∀k cs,aq k S=some cs->∃b,g.box k=some b/\cx w g b 0 cs)
  {ρ:Operand->Option AV}{ev:Operand->Value}(O:∀x v,ρ x=some v->aP g v (ev x)){o:Oper}{v:AV}(h:gv X S ρ o.op=some v) :
  ∃u,(execOp ev o).run P w = .ok (.value u) w/\aP g v u:=by
 have fin:∀{s:Sem Value},(∃u,s.run P w = .ok u w/\aP g v u)->∃u,(do pure (Next.value (<- s)):Sem Next).run P w = .ok (.value u) w/\aP g v u:=by simp_all
 have afm:∀{b n:Nat}{cs r:L AV},cx w g b 0 cs->dV n cs=some r->cx w g b n r:=by intro b n cs r h1 h2;obtain⟨rfl,_⟩:=mj h2;apply cx.lG;intro j c Q;rw[agS]at Q;simpa using h1.get (n+j) c Q
 obtain⟨dst,op,type,pos,after,guard⟩:=o;simp only at h;unfold gv at h;split at h;rename_i x;exact⟨ev x,by simp[execOp],O x v h⟩;rename_i x;exact⟨ev x,by simp[execOp],O x v h⟩;rename_i c a b;split at h;rename_i t av bv h1 h2 K;have J:=O c _ h1;simp only[aP,Rel]at J;have ha:=O a _ h2;have U:=O b _ K;refine⟨if t then ev a else ev b,by simp[execOp,J,asBool],?_⟩;unfold ab5 at h;split at h;grind;grind;simp at h;rename_i t x;split at h;rename_i i key off h1 h2;have D:=O x _ h2;simp only[aP]at D;obtain⟨b,U,D⟩:=D;split at h;rename_i cells jP;split at h;rename_i l I;obtain⟨b',hb',hcw⟩:=ah0 key cells jP;rw[U]at hb';simp at hb';subst hb';simp only[execOp];rw[D];exact fin (XC hX h1 (afm hcw I) h);simp at h;simp at h;rename_i i cs h1 h2;have D:=O x _ h2;simp only[aP,Rel]at D;obtain⟨b,o,D,J⟩:=D;simp only[execOp];rw[D];exact fin (UP hX jl h1 J h);simp at h;rename_i x;split at h;rename_i k o h1;have D:=O x _ h1;simp at h;subst h;have Y:=D;simp only[aP]at Y;obtain⟨b,U,e⟩:=Y;exact⟨ev x,by simp[execOp,e],D⟩;rename_i cs h1;have D:=O x _ h1;simp at h;subst h;have Y:=D;simp only[aP,Rel]at Y;obtain⟨b,o,e,_⟩:=Y;exact⟨ev x,by simp[execOp,e],D⟩;rename_i f cs h1;have D:=O x _ h1;simp at h;subst h;have Y:=D;simp only[aP,Rel]at Y;obtain⟨vs,e,_⟩:=Y;exact⟨ev x,by simp[execOp,e],D⟩;simp at h;rename_i op t x y _;split at h;rename_i i a b h1 h2 K;exact fin (aaK hX h1 h (O x _ h2) (O y _ K) x y);simp at h;rename_i op _ x;split at h;rename_i b h1;have D:=O x _ h1;simp only[aP,Rel]at D;simp at h;subst h;exact⟨.bool !b,by simp[execOp,D,Op.unary],ri⟩;rename_i k n h1;have D:=O x _ h1;simp only[aP,Rel]at D;simp at h;subst h;exact⟨.int k (k.wrap (0-n)),by simp[execOp,D,Op.unary,Op.intArith],ri⟩;simp at h;rename_i s d x;split at h;rename_i i j k n h1 h2 K;have D:=O x _ K;simp only[aP,Rel]at D;split at h;rename_i k' A;simp at h;subst h;obtain⟨d1,E,_,H⟩:=hX.run_underlying (w:=w) h1;obtain⟨d2,e3,e4,e5⟩:=hX.run_underlying (w:=w) h2;rw[A]at e4;simp only[jA]at e4;subst e4;exact⟨.int k' (k'.wrap n),by simp[execOp,D,convert,E,e3,Conv.intToInt],ri⟩;simp at h;simp at h;rename_i t x f;split at h;rename_i i a h1 h2;have D:=O x _ h2;split at h;rename_i fs A;split at h;rename_i off ft hf;split at h;rename_i k o;simp at h;subst h;simp only[aP]at D;obtain⟨b,U,e⟩:=D;exact⟨_,by simp[execOp,e,D0 hX h1 A hf];rfl,by simp only[aP];exact⟨b,U,Z⟩⟩;rename_i cs;split at h;rename_i r hr;simp at h;subst h;simp only[aP,Rel]at D;obtain⟨b,o,e,J⟩:=D;obtain⟨rfl,_⟩:=mj hr;exact⟨_,by simp[execOp,e,D0 hX h1 A hf];rfl,by simp only[aP,Rel];exact⟨b,o+off,Z,J.drop⟩⟩;simp at h;simp at h;simp at h;simp at h;simp at h;rename_i t x f;split at h;rename_i i a h1 h2;have D:=O x _ h2;split at h;rename_i fs A;split at h;rename_i off ft hf;split at h;rename_i j Q;split at h;rename_i cs;split at h;rename_i r hr;simp only[aP]at D;obtain⟨vs,e,c1,c2⟩:=D;have:=Gx (P:=P) (w:=w) hX Q (vs:=vs.toArray) (off:=off) (.inl ⟨cs,r,by simpa using c1,c2,hr,h⟩);simp only[execOp,e];refine fin ?_;rw[JG hX h1 A hf];exact this;simp at h;rename_i cs;split at h;rename_i r hr;simp only[aP,Rel]at D;obtain⟨vs,e,c1,c2⟩:=D;have:=Gx (P:=P) (w:=w) hX Q (vs:=vs.toArray) (off:=off) (.inr ⟨cs,r,by simpa using c1,c2,hr,h⟩);simp only[execOp,e];refine fin ?_;rw[JG hX h1 A hf];exact this;simp at h;simp at h;simp at h;simp at h;simp at h;simp at h
 ·rename_i t x ix;split at h
  ·rename_i i a na h1 h2 K;have D:=O x _ h2;have B:=O ix _ K;split at h
   ·rename_i n hn';obtain⟨k,B⟩:=zm hn' B;obtain⟨d,jM,q,_⟩:=hX.run_underlying (w:=w) h1;split at h
    ·rename_i e A;rw[A]at q;simp only[jA]at q;subst q;split at h
     ·rename_i j s rows Q hr;split at h
      ·rename_i r U adt;have:=beq_true U;subst this;simp at h;subst h;obtain⟨base,len,cap,E,H,_,e3⟩:=Gu hr D;rw[tY]at adt;have W:n<rows.length:=(List.getElem?_eq_some_iff.1 adt).1;rcases e3 with rfl|⟨b,o,rfl,gE⟩
       simp at W;have hg:=(gE.get n r adt).1;refine⟨.pointer (some ⟨b,o+n*j.size,none⟩),?_,by simp only[aP,Rel];exact⟨b,_,Z,hg⟩⟩;simp[execOp,E,B,Instr.indexAt,asIntOf,jM,H,W,hX.run_sizeOf Q,Addr.add_lit]
      simp at h
     simp at h
    rename_i m e A;rw[A]at q;simp only[jA]at q;subst q;split at h;rename_i j k' o Q hlt';simp at h;subst h;have W:n<m:=(by simpa[afP]using hlt');simp only[aP]at D;obtain⟨b,U,E⟩:=D;refine⟨.pointer (some ⟨b,o+n*j.size,none⟩),?_,by simp only[aP];exact⟨b,U,Z⟩⟩;simp[execOp,E,B,Instr.indexAt,asIntOf,jM,Instr.sureAddr,W,hX.run_sizeOf Q,Addr.add_lit];simp at h;simp at h
   simp at h
  simp at h
 rename_i t x ix;split at h;rename_i i a na h1 h2 K;have D:=O x _ h2;have B:=O ix _ K;split at h;rename_i n hn';obtain⟨k,B⟩:=zm hn' B;obtain⟨d,jM,q,_⟩:=hX.run_underlying (w:=w) h1;split at h;rename_i s A;rw[A]at q;simp only[jA]at q;subst q;simp only[aP,Rel]at D;split at h;rename_i b U;simp at h;subst h;rw[tY]at U;have W:n<s.length:=(List.getElem?_eq_some_iff.1 U).1;have jy:(ByteArray.mk s.toArray)[n]?=some b:=(by rw[getElem?_pos _ _ (by rw[yb];exact W)];congr 1;have:=(List.getElem?_eq_some_iff.1 U).2;rw[<- this];rfl);refine⟨.int .u8 b.toNat,?_,ri⟩;simp[execOp,D,B,Instr.index,asIntOf,jM,jy];simp at h;simp at h;simp at h;simp at h;rename_i x n;split at h;rename_i cs h1;have D:=O x _ h1;simp only[aP]at D;obtain⟨vs,e,c1,_⟩:=D;rw[tY]at h;obtain⟨u,E,H⟩:=(bW.get c1).2 n v h;exact⟨u,by simp[execOp,e,Instr.extract,E],H⟩;rename_i cs h1;have D:=O x _ h1;simp only[aP,Rel]at D;obtain⟨vs,e,c1,_⟩:=D;split at h;rename_i cv pX;simp at h;subst h;rw[tY]at pX;obtain⟨u,E,H⟩:=(b9.get c1).2 n cv pX;exact⟨u,by simp[execOp,e,Instr.extract,E],by simpa only[aP]using H⟩;simp at h;simp at h;rename_i t parts;split at h;rename_i i h1;split at h;rename_i fs z A hz;split at h;rename_i cells J;simp at h;subst h;exact fin (run_build hX h1 A hz O J);simp at h;simp at h;simp at h;rename_i t x lo hi mx;split at h;rename_i i a lo' hi' mx' h1 h2 K h4 h5;have D:=O x _ h2;have b1:=qo O K;have b2:=qo O h4;have b3:=qo O h5;split at h;rename_i e A;split at h;rename_i j Q;exact fin (JF hX h1 (λe' N=>by rw[A]at N;simp at N;subst N;exact⟨j,Q,rfl⟩) h D b1 b2 b3);simp at h;rename_i A;exact fin (JF hX h1 (λe' N=>absurd N (A e')) h D b1 b2 b3);simp at h
 ·rename_i f first C
  split at h
  ·rename_i l h1 h2;simp at h;subst h;have:=pK O h2;refine⟨.func (.func f) #[] (C.map ev),?_,by simp only[aP,Rel];exact⟨C.toList.map ev,by rw[<- agI],this⟩⟩;have hf:first = #[]:=by simpa using h1
   simp[execOp,hf,Instr.makeFunc]
  simp at h
 rename_i V T;split at h;rename_i x t D ht;split at h;rename_i i a h1 h2;have E:V = #[x]:=(by simpa using aeM List.toArray D);have H:T = #[t]:=(by simpa using aeM List.toArray ht);obtain⟨r,r1,r2⟩:=aaL (P:=P) (w:=w) hX h1 h (O x a h2) type;refine⟨r,?_,r2⟩;simp[execOp,resolve,invoke,builtin,E,H,r1];simp at h;simp at h
 ·rename_i V _;unfold afk at h;split at h
  ·rename_i k a k' b M;simp at h;subst h;cases I:V.toList with
   |nil=>rw[I]at M;simp at M
   |cons x l =>
    cases l with
    |nil=>rw[I]at M;simp at M
    |cons y l =>
     cases l with
     |cons z l=>rw[I]at M;simp at M
     |nil =>
      rw[I]at M;simp at M;have D:=O x _ M.1;have hy:=O y _ M.2;simp only[aP,Rel]at D hy;refine⟨.int k (if b<a then b else a),?_,ri⟩;have E:V = #[x,y]:=(by simpa using aeM List.toArray I);simp[execOp,resolve,invoke,builtin,E,Builtin.min_,Builtin.min2,D,hy]
  simp at h
 ·rename_i V _;unfold afl at h;split at h
  ·rename_i k a k' b M;simp at h;subst h;cases I:V.toList with
   |nil=>rw[I]at M;simp at M
   |cons x l =>
    cases l with
    |nil=>rw[I]at M;simp at M
    |cons y l =>
     cases l with
     |cons z l=>rw[I]at M;simp at M
     |nil =>
      rw[I]at M;simp at M;have D:=O x _ M.1;have hy:=O y _ M.2;simp only[aP,Rel]at D hy;refine⟨.int k (if b>a then b else a),?_,ri⟩;have E:V = #[x,y]:=(by simpa using aeM List.toArray I);simp[execOp,resolve,invoke,builtin,E,Builtin.max_,Builtin.max2,D,hy]
  simp at h
 simp at h
end
end Go.cw
namespace Go.cw
structure Fp where
 R:List Nat
 W:List Nat
 deriving Inhabited
abbrev Env:=L (Nat×AV)
def jt(k:Nat)(σ N:St):Prop:=aq k N.boxes=aq k σ.boxes/\aq k N.toks=aq k σ.toks/\(k∈N.used↔k∈σ.used)
def Agree(Y:Fp)(σ N:St):Prop:=∀k,k∈Y.R\/k∈Y.W->jt k σ N
structure iJ(Bk:St->St)(fp:Fp):Prop where
 out:∀σ k,k ∉ fp.W->jt k σ (Bk σ)
 same:∀σ σ1,Agree fp σ σ1->∀k,k∈fp.W->jt k (Bk σ) (Bk σ1)
def iJ.id(R:L Nat):iJ (λσ=>σ) ⟨R,[]⟩:=⟨λ_ _ _=>⟨Z,Z,Iff.rfl⟩,λ_ _ _ k h=>by simp at h⟩
def bN(P:Program)(X:Ctx)(o:Oper)(env:Env)(σ:St)(v:AV)(Y:St->St)(W:Fp):Prop :=
 ∀(M:Env)(N:St)(w:World)(g:Gh)(a:Act)(next:Act->World->Prop)(Q:Exit->Act->World->Prop),
  (∀x∈o.op.operands.toList,aG X M x=aG X env x)->Agree W σ N->Inv w g N->qJ X g.G->wN g M a.tmps ->
  (∀u w' g',aP g' v u->Inv w' g' (Y N)->iS w g N w' g' (Y N)->g.le g'->next (a.put o.dst u) w')->o.wp P a w next Q
structure It where
 run:Bool
 v:AV
 Bk:St->St
 fp:Fp
def It.skip:It:=⟨false,.c .undef,λσ=>σ,⟨[],[]⟩⟩
def BP(d:Option Nat)(v:AV)(env:Env):Env:=match d with
 |some d=>(d,v)::env
 |none=>env
def si(ops:Array Oper)(j:Nat):Option Nat:=(ops[j]?).bind (·.dst)
def tr(ops:Array Oper)(o:Oper)(env:Env):Prop:=match o.guard with
 |none=>True
 |some (j,Y)=>∃d,si ops j=some d/\aq d env=some (.c (.bool Y))
def sj(ops:Array Oper)(o:Oper)(env:Env):Prop:=match o.guard with
 |none=>False
 |some (j,Y)=>∃d,si ops j=some d/\(aq d env=some (.c (.bool (!Y)))\/aq d env=some (.c .undef))
def nR(P:Program)(X:Ctx)(ops:Array Oper)(i:Nat)(q:It)(env:Env)(σ:St)(env':Env)(Y:St):Prop :=
 ∃o,ops[i]?=some o/\env'=BP o.dst q.v env/\Y=q.Bk σ/\iJ q.Bk q.fp /\
  ((q=It.skip/\sj ops o env)\/(q.run=true/\tr ops o env/\bN P X o env σ q.v q.Bk q.fp))
def xe(P:Program)(X:Ctx)(ops:Array Oper):L (Nat×It)->Env->St->Env->St->Prop
 |[],env,σ,env',σ'=>env'=env/\σ'=σ
 |(i,q)::l,env,σ,env',σ'=>∃M N,nR P X ops i q env σ M N/\xe P X ops l M N env' σ'
def Ext(env:Env)(σ:St)(M:Env)(N:St):Prop:=(∀t,aq t M=aq t env)/\∀k,jt k σ N
def jt.refl(k:Nat)(σ:St):jt k σ σ:=⟨Z,Z,Iff.rfl⟩
def jt.symm{k:Nat}{σ N:St}(h:jt k σ N):jt k N σ:=⟨h.1.symm,h.2.1.symm,h.2.2.symm⟩
def jt.trans{k:Nat}{σ N Y:St}(h:jt k σ N)(H:jt k N Y):jt k σ Y :=
 ⟨H.1.trans h.1,H.2.1.trans h.2.1,H.2.2.trans h.2.2⟩
def Ext.refl(env:Env)(σ:St):Ext env σ env σ:=⟨λ_=>rfl,λk=>jt.refl k σ⟩
def Ext.trans{e E N:Env}{s S K:St}(h:Ext e s E S)(H:Ext E S N K):Ext e s N K :=
 ⟨λt=>(H.1 t).trans (h.1 t),λk=>(h.2 k).trans (H.2 k)⟩
def aj{α:Type}(t d:Nat)(v:α)(l:L (Nat×α)):aq t ((d,v)::l)=if t=d then some v else aq t l:=by simp only[aq];split;simp_all;rename_i h;rw[if_neg (λe=>beq_false h e.symm)]
def uZ(t:Nat)(d:Option Nat)(v:AV)(env:Env):aq t (BP d v env)=if d=some t then some v else aq t env:=by
 cases d with
 |none=>simp[BP]
 |some d =>
  simp only[BP,aj];grind
def D1{X:Ctx}{env M:Env}{x:Operand}(h:∀t,x = .tmp t->aq t M=aq t env):aG X M x=aG X env x:=by cases x<;>simp[aG];exact h _ rfl
def bN.congr{P:Program}{X:Ctx}{o:Oper}{env M:Env}{σ N:St}{v:AV}{U:St->St}{Y:Fp}(h:bN P X o env σ v U Y)
  (O:∀x∈o.op.operands.toList,aG X M x=aG X env x)(C:Agree Y σ N):bN P X o M N v U Y :=
 λW V w g a next Q h1 h2=>h W V w g a next Q (λx D=>(h1 x D).trans (O x D)) (λk A=>(C k A).trans (h2 k A))
def nR.zo{P:Program}{X:Ctx}{ops:Array Oper}{i:Nat}{q:It}{env M env':Env}{σ N Y:St}(h:nR P X ops i q env σ env' Y)
  (D:Ext env σ M N):∃V U,nR P X ops i q M N V U/\Ext env' Y V U:=by
 obtain⟨o,T,rfl,rfl,K,h⟩:=h;refine⟨_,_,⟨o,T,Z,Z,K,?_⟩,λt=>?_,λk=>?_⟩
 ·rcases h with ⟨h1,h2⟩|⟨h1,h2,I⟩
  refine .inl ⟨h1,?_⟩;unfold sj at *;split at h2;omega;obtain⟨d,E,J⟩:=h2;exact⟨d,E,by rw[D.1];exact J⟩;refine .inr ⟨h1,?_,I.congr (λx _=>D1 λt _=>D.1 t) (λk _=>D.2 k)⟩;unfold tr at *;split at h2;trivial;obtain⟨d,E,J⟩:=h2;exact⟨d,E,by rw[D.1];exact J⟩
 simp only[uZ,D.1];by_cases A:k∈q.fp.W;exact K.same _ _ (λk _=>D.2 k) k A;exact((K.out σ k A).symm.trans (D.2 k)).trans (K.out N k A)
def xe.zo{P:Program}{X:Ctx}{ops:Array Oper}:∀{l:L (Nat×It)}{env M env':Env}{σ N Y:St},xe P X ops l env σ env' Y ->
  Ext env σ M N->∃U T,xe P X ops l M N U T/\Ext env' Y U T
 |[],_,_,_,_,_,_,⟨h1,h2⟩,hx=>⟨_,_,⟨rfl,rfl⟩,by subst h1 h2;exact hx⟩
 |(i,q)::l,env,M,env',σ,N,Y,⟨J,I,h1,h2⟩,hx=>by obtain⟨H,S,K,W⟩:=h1.zo hx;obtain⟨C,Q,O,V⟩:=xe.zo h2 W;exact⟨C,Q,⟨H,S,K,O⟩,V⟩
def XK(l r:L Nat):Bool:=l.all λx => !r.contains x
def sn{l r:L Nat}(h:XK l r=true){k:Nat}(h1:k∈l):k ∉ r:=by simp only[XK]at h;simp_all
def indep(ops:Array Oper)(i j:Nat)(f g:Fp):Bool:=match ops[i]?,ops[j]? with
 |some x,some y=>Oper.apart ops x y&&XK f.W g.R&&XK f.W g.W&&XK g.W f.R
 |_,_=>false
def EN{ops:Array Oper}{o:Oper}{t:Nat}(h:Operand.tmp t∈o.op.operands.toList):t∈o.looksAt ops:=by exact List.mem_append_left _ (List.mem_filterMap.2 ⟨_,h,rfl⟩)
def Aj{ops:Array Oper}{o:Oper}{j:Nat}{b:Bool}{d:Nat}(h:o.guard=some (j,b))(I:si ops j=some d):d∈o.looksAt ops:=by refine List.mem_append_right _ ?_;rw[h];simp only;unfold si at I;rw[I];simp
def nR.before{P:Program}{X:Ctx}{ops:Array Oper}{i:Nat}{o:Oper}(T:ops[i]?=some o){q:It}{env M:Env}{σ N:St}
  (I:∀t∈o.looksAt ops,aq t M=aq t env)(C:Agree q.fp σ N){env':Env}{V:St}(h:nR P X ops i q env σ env' V) :
  nR P X ops i q M N (BP o.dst q.v M) (q.Bk N):=by
 obtain⟨S,Y,rfl,rfl,K,h⟩:=h;rw[T]at Y;simp at Y;subst Y;refine⟨o,T,Z,Z,K,?_⟩;rcases h with ⟨h1,h2⟩|⟨h1,h2,U⟩
 refine .inl ⟨h1,?_⟩;unfold sj at *;split at h2;omega;rename_i j W G;obtain⟨d,E,J⟩:=h2;exact⟨d,E,by rw[I d (Aj G E)];exact J⟩;refine .inr ⟨h1,?_,U.congr (λx D=>D1 λt B=>?_) C⟩;unfold tr at *;split at h2;trivial;rename_i j W G;obtain⟨d,E,J⟩:=h2;exact⟨d,E,by rw[I d (Aj G E)];exact J⟩;subst B;exact I t (EN D)
def nR.swap{P:Program}{X:Ctx}{ops:Array Oper}{i j:Nat}{x y:It}{env de U:Env}{σ N T:St}(H:indep ops i j x.fp y.fp=true)
  (h1:nR P X ops i x env σ de N)(h2:nR P X ops j y de N U T) :
  ∃K J q I,nR P X ops j y env σ K J/\nR P X ops i x K J q I/\Ext U T q I:=by
 obtain⟨ox,S,K,J,Y,hx⟩:=id h1;obtain⟨G,Q,q,I,V,hy⟩:=id h2;unfold indep at H;simp only[S,Q,aaN]at H;obtain⟨⟨⟨D,jM⟩,jz⟩,hd3⟩:=H;obtain⟨a1,a2,a3⟩:=Oper.apart_spec D;subst K J;have C:nR P X ops j y env σ (BP G.dst y.v env) (y.Bk σ):=by
  refine nR.before Q ?_ ?_ h2;intro t u;rw[uZ,if_neg (λe=>a1 t e u)];intro k A;refine(Y.out σ k λM=>?_).symm;rcases A with A|A
  exact sn jM M A;exact sn jz M A
 have O:Agree x.fp σ (y.Bk σ):=by
  intro k A;refine V.out σ k λM=>?_;rcases A with A|A
  exact sn hd3 M A;exact sn jz A M
 have hx':nR P X ops i x (BP G.dst y.v env) (y.Bk σ) (BP ox.dst x.v (BP G.dst y.v env)) (x.Bk (y.Bk σ)):=by refine nR.before S ?_ O h1;intro t u;rw[uZ,if_neg (λe=>a3 t e u)]
 refine⟨_,_,_,_,C,hx',?_,?_⟩;intro t;subst q;simp only[uZ];by_cases hxd:ox.dst=some t;simp_all;simp_all;intro k;subst I;by_cases A:k∈x.fp.W
 ·
  have E:k ∉ y.fp.W:=λh=>sn jz A h;exact(V.out (x.Bk σ) k E).symm.trans (Y.same _ _ O k A)
 have e:=Y.out (y.Bk σ) k A;refine jt.trans ?_ e;by_cases E:k∈y.fp.W
 ·refine V.same _ _ ?_ k E;intro k' B;refine(Y.out σ k' λM=>?_).symm;rcases B with B|B
  exact sn jM M B;exact sn jz M B
 exact((V.out (x.Bk σ) k E).symm.trans (Y.out σ k A).symm).trans (V.out σ k E)
def xe.front{P:Program}{X:Ctx}{ops:Array Oper}{i:Nat}{D:It}:∀{p q:L (Nat×It)}{env env':Env}{σ Y:St},
  (∀x∈p,indep ops x.1 i x.2.fp D.fp=true)->xe P X ops (p++(i,D)::q) env σ env' Y ->
  ∃E S N K,nR P X ops i D env σ E S/\xe P X ops (p++q) E S N K/\Ext env' Y N K
 |[],q,env,env',σ,Y,_,⟨E,S,h1,h2⟩=>⟨E,S,env',Y,h1,h2,Ext.refl _ _⟩
 |(j,x)::p,q,env,env',σ,Y,hp,⟨E,S,h1,h2⟩=>by obtain⟨N,K,e3,s3,I,T,W⟩:=xe.front (λx Q=>hp x (afH _ Q)) h2;obtain⟨C,O,J,M,H,G,V⟩:=nR.swap (hp (j,x) cc) h1 I;obtain⟨B,A,u,U⟩:=T.zo V;exact⟨C,O,B,A,H,⟨J,M,G,u⟩,W.trans U⟩
structure kz where
 w:World
 g:Gh
 σ:St
structure Live(X:Ctx)(β:kz)(n:Nat)(env:Env)(σ:St)(g:Gh)(w:World)(a:Act):Prop where
 inv:Inv w g σ
 uX:qJ X g.G
 env:wN g env a.tmps
 frame:iS β.w β.g β.σ w g σ
 size:a.tmps.size=n
 defers:a.defers=[]
def Inv.ext{w:World}{g:Gh}{σ N:St}(h:Inv w g σ)(D:∀k,jt k σ N):Inv w g N where
 qK:=h.qK
 box:=λk cs e=>h.box k cs ((D k).1.symm.trans e)
 gr:=λk k' cs O b e e'=>h.gr k k' cs O b ((D k).1.symm.trans e) ((D k').1.symm.trans e')
 tok:=λk n e=>by obtain⟨T,h1,h2⟩:=h.tok k n ((D k).2.1.symm.trans e);refine⟨T,h1,λb J U B=>?_⟩;obtain⟨K,V,M⟩:=h2 b J U B;exact⟨K,V,λk' cs e'=>M k' cs ((D k').1.symm.trans e')⟩
 iF:=λk k' n S b J U Y W e e'=>h.iF k k' n S b J U Y W ((D k).2.1.symm.trans e) ((D k').2.1.symm.trans e')
 used:=λk e=>(D k).2.2.2 (h.used k e)
 room:=λk cs b e=>h.room k cs b ((D k).1.symm.trans e)
def iS.ext{w w':World}{g g':Gh}{σ P N:St}(h:iS w g σ w' g' P)(D:∀k,jt k P N):iS w g σ w' g' N where
 os:=h.os
 tape:=h.tape
 output:=h.output
 size:=h.size
 block:=h.block
 kept:=h.kept
 le:=h.le
 new:=h.new
 boxes:=λk cs b e=>h.boxes k cs b ((D k).1.symm.trans e)
 toks:=λk n b J U e=>h.toks k n b J U ((D k).2.1.symm.trans e)
 ids:=λk A e=>h.ids k A (by rw[<- (D k).1];exact e)
def Live.ext{X:Ctx}{β:kz}{n:Nat}{env M:Env}{σ N:St}{g:Gh}{w:World}{a:Act}(h:Live X β n env σ g w a)(D:Ext env σ M N):Live X β n M N g w a where
 inv:=h.inv.ext D.2
 uX:=h.uX
 env:=λt v e=>h.env t v ((D.1 t).symm.trans e)
 frame:=h.frame.ext D.2
 size:=h.size
 defers:=h.defers
def tW(ops:Array Oper)(n:Nat):Bool:=ops.toList.all λo=>match o.dst with
 |some d=>Nat.blt d n
 |none=>true
def QX{ops:Array Oper}{n i d:Nat}{o:Oper}(h:tW ops n=true)(T:ops[i]?=some o)(I:o.dst=some d):d<n:=by simp only[tW,aha]at h;have:=h o (by rw[aiK];exact Array.mem_of_getElem? T);simp_all
def wN.put{g:Gh}{env:Env}{a:Act}{d:Option Nat}{v:AV}{u:Value}(h:wN g env a.tmps)(T:aP g v u)(I:∀k,d=some k->k<a.tmps.size) :
  wN g (BP d v env) (a.put d u).tmps:=by
 intro t x e;rw[uZ]at e;cases d with
 |none=>simp at e;exact h t x e
 |some k =>
  simp at e;simp only[Act.put];by_cases A:k=t;simp_all;rw[if_neg A]at e;have:=h t x e;simp_all
def Gy{g:Gh}{ops:Array Oper}{env:Env}{V:Array Value}(h:wN g env V){j d:Nat}(I:si ops j=some d) :
  (∀b,aq d env=some (.c (.bool b))->yielded ops V j=some b)/\(aq d env=some (.c .undef)->yielded ops V j=none):=by
 unfold si at I;constructor;intro b e;have:=h d _ e;simp only[aP,Rel]at this;simp only[yielded];simp only[Array.getD]at this;split at this;simp_all;simp[Go.undef]at this;intro e;have:=h d _ e;simp only[yielded,I,Option.bind_some];simp only[Array.getD]at this;split at this
 ·rename_i G;have:V[d]?=some Go.undef:=by rw[afE G];exact aeM some this
  rw[this];rfl
 grind
def nR.wp{P:Program}{X:Ctx}{β:kz}{n:Nat}{ops:Array Oper}(D:tW ops n=true){i:Nat}{q:It}{env env':Env}{σ V:St}(h:nR P X ops i q env σ env' V)
  {g:Gh}{w:World}{a:Act}(J:Live X β n env σ g w a){K:Act->World->Prop}{Q:Exit->Act->World->Prop}
  (S:∀g' w' B,Live X β n env' V g' w' B->K B w'):wpOp P ops Q i K a w:=by
 obtain⟨o,O,rfl,rfl,hE,h⟩:=h;have U:∀k,o.dst=some k->k<a.tmps.size:=λk A=>by rw[J.size];exact QX D O A
 have Y:∀u,(a.put o.dst u).tmps.size=n/\(a.put o.dst u).defers=[]:=by cases o.dst<;>simp[Act.put,J.size,J.defers]
 simp only[wpOp,O];rcases h with ⟨rfl,G⟩|⟨hr,G,C⟩
 ·have M:Region.wanted o (yielded ops a.tmps)=false:=by unfold sj at G;unfold Region.wanted;split at G;simp_all;rename_i j W T;obtain⟨d,E,N⟩:=G;obtain⟨I,y2⟩:=Gy J.env E;grind
  rw[if_neg (by simp[M])];refine S g w _ ⟨J.inv,J.uX,J.env.put (by simp[It.skip,aP,Rel]) U,J.frame,(Y _).1,(Y _).2⟩
 have M:Region.wanted o (yielded ops a.tmps)=true:=by unfold tr at G;unfold Region.wanted;split at G;simp_all;rename_i j W T;obtain⟨d,E,N⟩:=G;obtain⟨I,_⟩:=Gy J.env E;simp only[T];rw[I _ N];cases W<;>rfl
 rw[if_pos M];refine .inl (C env σ w g a K Q (λ_ _=>rfl) (λk _=>jt.refl k σ) J.inv J.uX J.env ?_);intro u w' g' h1 h2 h3 H;refine S g' w' _ ⟨h2,?_,(J.env.mono H).put h1 U,J.frame.trans h3,(Y _).1,(Y _).2⟩;intro k v A;exact Rel.mono H.1 _ _ (J.uX k v A)
def xe.wp{P:Program}{X:Ctx}{β:kz}{n:Nat}{ops:Array Oper}(I:tW ops n=true){Q:Exit->Act->World->Prop} :
  ∀{l:L (Nat×It)}{env env':Env}{σ Y:St},xe P X ops l env σ env' Y->∀{g:Gh}{w:World}{a:Act},Live X β n env σ g w a ->
  (∀g' w' B,Live X β n env' Y g' w' B->Q .normal B w')->wpOps P ops Q (l.map (·.1)) a w
 |[],env,env',σ,Y,⟨h1,h2⟩,g,w,a,hL,hQ=>by subst h1 h2;exact hQ g w a hL
 |(i,q)::l,env,env',σ,Y,⟨E,S,h1,h2⟩,g,w,a,hL,hQ=>by exact h1.wp I hL λg' w' B W=>xe.wp I h2 W hQ
def qa(o:Oper):L Nat:=o.after.toList.filterMap λe=>if Region.binds .any e then some e.on else none
def AP:L (L Nat)->L Nat->L Nat
 |[],acc=>acc
 |es::rest,acc=>AP rest (acc++[es.foldl (λs e=>s|||2^e|||acc.getD e 0) 0])
def XL(ops:Array Oper):L Nat:=AP (ops.toList.map qa) []
def Gz(acc:L Nat)(j:Nat):∀(es:L Nat)(s:Nat),(es.foldl (λs e=>s|||2^e|||acc.getD e 0) s).testBit j=true ->
  s.testBit j=true\/∃e∈es,e=j\/(acc.getD e 0).testBit j=true
 |[],s,h => .inl h
 |e::es,s,h=>by
  rcases Gz acc j es _ h with h|⟨e',h1,h2⟩
  grind;grind
def GA:∀(es:L (L Nat))(acc:L Nat)(i:Nat),acc.length<=i->i<acc.length+es.length ->
  ∀j,((AP es acc).getD i 0).testBit j=true->∃e∈es.getD (i-acc.length) [],e=j\/((AP es acc).getD e 0).testBit j=true
 |[],acc,i,h1,h2,j,h=>by simp at h2;omega
 |x::es,acc,i,h1,h2,j,h=>by
  have Y:∀(es:L (L Nat))(acc:L Nat)(k:Nat),k<acc.length->(AP es acc).getD k 0=acc.getD k 0:=by
   intro es
   induction es with
   |nil=>intro acc k A;rfl
   |cons y es V =>
    intro acc k A;simp only[AP];rw[V _ _ ob];simp[List.getD,ahQ A]
  simp only[AP]at h ⊢;by_cases U:i=acc.length
  ·subst U;rw[Y _ _ _ cc]at h;simp only[List.getD,ahc (aaV _),Nat.sub_self,ahq,ahY]at h;rcases Gz acc j x 0 h with h|⟨e,K,W⟩
   simp at h;grind
  obtain⟨e,K,W⟩:=GA es (acc++[x.foldl (λs e=>s|||2^e|||acc.getD e 0) 0]) i ob (by simp at h2 ⊢;omega) j h;refine⟨e,?_,W⟩;simp only[aaZ,aag,aay]at K;rw[show i-acc.length=(i-(acc.length+(0+1)))+1 from by omega];simpa using K
def rS(ops:Array Oper)(Y:L Fp):Bool :=
 let W:=XL ops
 (List.range ops.size).all λi=>(((ops[i]?).map qa).getD []).all (λe=>Nat.blt e i) &&
  (List.range i).all λj=>(W.getD i 0).testBit j||indep ops j i (Y.getD j ⟨[],[]⟩) (Y.getD i ⟨[],[]⟩)
end Go.cw
