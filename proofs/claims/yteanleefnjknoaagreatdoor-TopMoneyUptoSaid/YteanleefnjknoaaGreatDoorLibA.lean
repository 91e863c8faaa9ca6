/- A layer of abstract values over the model, part A: -/
import Derived.Calls
import Derived.Laws.Entries
import Derived.Laws.Cells
import Derived.Laws.Strings
import Derived.Orders
set_option linter.defProp false
set_option linter.unusedSimpArgs false
set_option linter.unusedVariables false
namespace Go.cK
def adT:=@List.mem_append
def adU:=@List.cons_append
def aea:=@List.getElem?_eq_getElem
def aeb:=@congrArg
def aec:=@List.append_nil
def aed:=@List.map_cons
def aee:=@List.sizeOf_lt_of_mem
def aeg:=@of_decide_eq_true
def aep:=@Nat.le_of_ble_eq_true
def aeq:=@Nat.zero_add
def aex:=@List.drop_length
def aey:=@Decidable.not_not
def aez:=@Bool.false_and
def aeA:=@List.length_map
def aeB:=@List.mem_cons
def aeC:=@List.map_append
def aeD:=@List.length_take
def aeE:=@Nat.zero_le
def aeF:=@List.getElem?_cons_succ
def aeG:=@List.append_assoc
def aeH:=@decide_eq_true_eq
def aeI:=@List.length_drop
def aeJ:=@Nat.lt_succ_self
def aeK:=@Array.getElem?_append_left
def aeL:=@List.all_cons
def aeM:=@List.mem_cons_of_mem
def aeN:=@Array.getElem?_eq_getElem
def aeO:=@Option.some.injEq
def aeP:=@Array.toList_append
def aeQ:=@Bool.or_eq_false_iff
def aeR:=@Bool.true_and
def aeS:=@Nat.le_trans
def aeT:=@Nat.add_zero
def aeU:=@List.nil_append
def aeV:=@Bool.eq_iff_iff
def aeW:=@Array.getD_eq_getD_getElem?
def aeX:=@Int.le_refl
def aeY:=@Array.toList_map
def aeZ:=@List.size_toArray
def afa:=@List.getD_eq_getElem?_getD
def afb:=@List.mem_of_mem_drop
def afc:=@Nat.lt_of_lt_of_le
def afd:=@List.drop_eq_nil_of_le
def afe:=@Decidable.byContradiction
def aff:=@Prod.mk.injEq
def afi:=@List.take_succ_cons
def afj:=@Nat.blt_eq
def afk:=@List.take_append_drop
def afl:=@Bool.and_true
def afm:=@List.getElem?_take
def afn:=@List.all_eq_true
def afp:=@Array.size_append
def afs:=@beq_eq_false_iff_ne
def aft:=@if_false
def afu:=@List.getElem?_eq_none
def afx:=@List.zipIdx_cons
def afy:=@Nat.succ_le_succ
def afz:=@Int.eq_ofNat_of_zero_le
def afB:=@List.drop_succ_cons
def afC:=@List.take_of_length_le
def afD:=@List.mem_singleton
def afE:=@Nat.mul_le_mul_right
def afI:=@List.getElem?_append
def afL:=@List.all_append
def afN:=@Nat.lt_or_ge
def afO:=@Nat.add_mul
def afP:=@List.getElem?_cons_zero
def afQ:=@decide_eq_false_iff_not
def afR:=@List.eq_nil_of_length_eq_zero
def afS:=@List.getElem?_of_mem
def afT:=@List.mem_of_mem_take
def afZ:=@List.reverse_reverse
def agb:=@List.drop_zero
def agd:=@List.drop_eq_getElem_cons
def age:=@Array.getElem?_push
def agf:=@List.length_eq_zero_iff
def agj:=@List.mem_cons_self
def agk:=@List.getElem?_drop
def agl:=@Array.getElem?_push_lt
def agm:=@cond_false
def agn:=@Bool.not_eq_true'
def ago:=@Nat.le_succ
def agp:=@List.getElem?_toArray
def ags:=@List.getElem_mem
def agu:=@Option.getD_some
def agw:=@Nat.mod_eq_of_lt
def agy:=@and_true
def agz:=@Array.getElem?_setIfInBounds
def agA:=@beq_iff_eq
def agB:=@cond_true
def agC:=@Option.map_some
def agD:=@List.length_set
def agE:=@List.getElem?_append_right
def agF:=@Int.fdiv_eq_ediv_of_nonneg
def agG:=@Nat.succ_mul
def agH:=@Int.tmod_lt_of_pos
def agI:=@List.set_cons_succ
def agJ:=@List.getElem?_append_left
def agK:=@Array.mapM_eq_mapM_toList
def agL:=@bne_self_eq_false
def agN:=@List.reverse_cons
def agQ:=@Bool.not_eq_false
def agR:=@List.any_cons
def agS:=@Nat.le_mul_of_pos_right
def agT:=@List.getElem?_set_self
def agZ:=@Array.getElem?_toList
def aha:=@Nat.eq_of_beq_eq_true
def ahc:=@UInt8.lt_iff_toNat_lt
def ahd:=@bne_iff_ne
def ahe:=@Nat.pow_le_pow_right
def ahf:=@List.pairwise_append
def ahg:=@List.mem_range
def ahh:=@List.reverse_append
def ahk:=@or_false
def ahl:=@Bool.false_or
def ahm:=@Nat.add_sub_cancel
def ahn:=@Nat.add_assoc
def aho:=@List.pairwise_cons
def ahp:=@Nat.sub_zero
def ahq:=@Nat.and_two_pow_sub_one_eq_mod
def ahr:=@List.take_length
def ahs:=@Nat.min_eq_left
def aht:=@Int.natAbs_tdiv_le_natAbs
def ahu:=@List.mapM_cons
def ahv:=@Bool.and_assoc
def ahw:=@Nat.add_right_cancel_iff
def ahx:=@ByteArray.ext
def ahy:=@Int.mul_assoc
def ahz:=@List.getD_nil
def ahA:=@Option.bind_eq_some_iff
def ahB:=@not_true
def ahC:=@Bool.and_self
def ahD:=@List.mem_map
def ahF:=@Array.mem_toList_iff
theorem Z{α:Sort _}{a:α}:a=a:=rfl
abbrev L:=@List
def bn{p:Prop}(h:p:=by omega):p:=h
def bT{p:Prop}(h:p:=by decide):p:=h
def cc{p:Prop}(h:p:=by show List.length q<=_;omega):p:=h
def cS{p:Prop}(h:p:=by simp):p:=h
def dG{p:Prop}(h:p:=by simp only[aac];omega):p:=h
def ek{p:Prop}(h:p:=by assumption):p:=h
def fc{p:Prop}(h:p:=by simp only[fm,eD,fO,iM,ji,aO];omega):p:=h
def fe{p:Prop}(h:p:=by simp[ai]):p:=h
def fo{p:Prop}(h:p:=by show J.length-(i+1)<J.length-i;omega):p:=h
def fM{p:Prop}(h:p:=by show List.length (aQ O W::aQ Y D::q)<=_;simp only[aac];omega):p:=h
def ga{p:Prop}(h:p:=by unfold bN;omega):p:=h
def gb{p:Prop}(h:p:=by simp only[fm,eD,fO,aO];omega):p:=h
def gM{p:Prop}(h:p:=by simp[Op.operands]):p:=h
def j0{p:Prop}(h:p:=by show List.length (aQ 3 n::q)<=_;simp only[aac];omega):p:=h
def lf{p:Prop}(h:p:=by have:=(G (.mk T us) (by simp)).2;omega):p:=h
def lS{p:Prop}(h:p:=by simp only[bw,bz];omega):p:=h
def mc{p:Prop}(h:p:=by rw[ho];simp[Op.operands]):p:=h
def nt{p:Prop}(h:p:=by simp only[Nat.min_def];split<;>omega):p:=h
def nu{p:Prop}(h:p:=by simp[Act.eval,Act.put]):p:=h
def ob{p:Prop}(h:p:=by simp;omega):p:=h
def oe{p:Prop}(h:p:=by show List.length (aQ 2 n::aQ 2 D::q)<=_;simp only[aac];omega):p:=h
def ot{p:Prop}(h:p:=by show List.length (v::q)<=_;simp only[aac];omega):p:=h
def oy{p:Prop}(h:p:=by simpa using h):p:=h
def oN{p:Prop}(h:p:=by simp[eqGuard_at_pointer,oP,oQ,lg W,run_equal_nil_nil W]):p:=h
def p8{p:Prop}(h:p:=by simp[h]):p:=h
def q6{p:Prop}(h:p:=by simp[aL,Rel]):p:=h
def ri{p:Prop}(h:p:=by rw[O];exact k):p:=h
def rj{p:Prop}(h:p:=by simp only;omega):p:=h
def rP{p:Prop}(h:p:=by have:=bD O;omega):p:=h
def ta{p:Prop}(h:p:=by rw[Ds]at hj;omega):p:=h
def u6{p:Prop}(h:p:=by rw[ho];simp only[Op.operands,Call.operands,aeP,adT];exact .inr hx):p:=h
def u7{p:Prop}(h:p:=by show List.length (Vl.mk 6 0 0 P [] [] [] :: .mk 6 0 0 A [] [] []::q)<=_;simp only[aac];omega):p:=h
def vn{p:Prop}(h:p:=by show List.length (aQ 5 W::aQ 5 D::q)<=_;simp only[aac];omega):p:=h
def zb{p:Prop}(h:p:=by simp only;have:=Y.1;simp only at this;omega):p:=h
def zw{p:Prop}(h:p:=by simp only[aaz,aac,aad];omega):p:=h
def Ai{p:Prop}(h:p:=by rw[hd];exact k):p:=h
def CK{p:Prop}(h:p:=by simp only[aA,aac];omega):p:=h
def C1{p:Prop}(h:p:=by simp only[Af];exact⟨Wk.refl _,by unfold Wk;exact .inr ⟨Z,Z⟩,trivial⟩):p:=h
def EH{p:Prop}(h:p:=by show List.length (bA x y::q)<=_;simp only[aac];omega):p:=h
def Hg{p:Prop}(h:p:=by show l.length-(i+1)<l.length-i;omega):p:=h
def Ii{p:Prop}(h:p:=by have:=bD hx;omega):p:=h
def K0{p:Prop}(h:p:=by simpa using h2):p:=h
def MO{p:Prop}(h:p:=by simpa only[aL]using h2):p:=h
def Nf{p:Prop}(h:p:=by have:=M.2;simp only[cG,aM,aO,bz,aU,aad];omega):p:=h
def Nt{p:Prop}(h:p:=by show List.length (Vl.mk 6 0 0 P [] [] []::q)<=_;simp only[aac];omega):p:=h
def N2{p:Prop}(h:p:=by show List.length (Vl.mk V Q P O Y D M::q)<=_;simp only[aac];omega):p:=h
def P7{p:Prop}(h:p:=by unfold jH;rw[if_pos (by omega)]):p:=h
def Rl{p:Prop}(h:p:=by simp only[aac,aad];omega):p:=h
def RA{p:Prop}(h:p:=by rfl):p:=h
def RK{p:Prop}(h:p:=by rw[ho];simp only[Op.operands,ahD];exact⟨p,hp,Z⟩):p:=h
def RR{p:Prop}(h:p:=by have:=fy O;omega):p:=h
def Ti{p:Prop}(h:p:=by unfold jH;rw[iR xR,iR EC,if_neg (by omega),if_pos (by omega)]):p:=h
def T1{p:Prop}(h:p:=by show(0:Int)≠14;decide):p:=h
def UD{p:Prop}(h:p:=by show st.length<=_;omega):p:=h
def Vj{p:Prop}(h:p:=by simp[ai,Ne.symm D,Ne.symm n3]):p:=h
def Vw{p:Prop}(h:p:=by have:=cL (l:=[u,u']) (x:=w) (by simp at E ⊢;simp[E]);omega):p:=h
def V6{p:Prop}(h:p:=by show((acc++[_]).length:Int)<=A;simp only[aaz,aac,aad];omega):p:=h
def Wd{p:Prop}(h:p:=by rwa[agk]at hj):p:=h
def Wf{p:Prop}(h:p:=by rw[hvl]at hj;omega):p:=h
def Wh{p:Prop}(h:p:=by simp[ai,Ne.symm q]):p:=h
def Wl{p:Prop}(h:p:=by rw[ho];simp[Op.operands,Call.operands]):p:=h
def WV{p:Prop}(h:p:=by show List.length st<=_;omega):p:=h
def W6{p:Prop}(h:p:=by have:=(aeg h.1).2;omega):p:=h
def Xa{p:Prop}(h:p:=by simp[CV.cells,CV.one]):p:=h
def XM{p:Prop}(h:p:=by show(25:Int)<=(k:Int)+(w'.done+1);push_cast at hk;omega):p:=h
def XS{p:Prop}(h:p:=by show w.cC-r.cC+(w.used+r.cC)=_;omega):p:=h
def Yz{p:Prop}(h:p:=by have:=U.done;show(25:Int)<=((25:Nat):Int)+W.done;omega):p:=h
def ZY{p:Prop}(h:p:=by have:=V.UA;show(w'.made.length:Int)<=w'.done+1+1;omega):p:=h
def Z1{p:Prop}(h:p:=by show b≠w.heap.size;omega):p:=h
def aaG{p:Prop}(h:p:=by unfold Wk;exact .inr ⟨Z,Z⟩):p:=h
def aaQ{p:Prop}(h:p:=by simp only[aac]at Ag;omega):p:=h
def aaR{p:Prop}(h:p:=by simp only[aaz,aac]at E ⊢;push_cast at E ⊢;omega):p:=h
def aaS{p:Prop}(h:p:=by rw[aaz,aac,aeD,aeI];omega):p:=h
def aa0{p:Prop}(h:p:=by simpa using H):p:=h
def aa3{p:Prop}(h:p:=by rw[aaF];omega):p:=h
def aa9{p:Prop}(h:p:=by simp[bO,ai]):p:=h
def abf{p:Prop}(h:p:=by have:=U.done;show((1:Nat):Int)<=25+24*W.done;omega):p:=h
def abh{p:Prop}(h:p:=by show(25-(w'.done+1)).toNat<(25-w.done).toNat;omega):p:=h
def abi{p:Prop}(h:p:=by rw[afp,aeZ,Ev];omega):p:=h
def abr{p:Prop}(h:p:=by simp only[UF,HQ,qp];rfl):p:=h
def abu{p:Prop}(h:p:=by simp[h1]):p:=h
def aby{p:Prop}(h:p:=by simp only[aL];exact⟨us.toList,by simp,f2,f3⟩):p:=h
def abz{p:Prop}(h:p:=by have:=aeb List.length hq;simp at this;omega):p:=h
def abB{p:Prop}(h:p:=by simp[O]):p:=h
def abJ{p:Prop}(h:p:=by have:=bD O;show J.length-(i+1)<J.length-i;omega):p:=h
def abP{p:Prop}(h:p:=by rw[aaz,aeD,aeI];omega):p:=h
def abQ{p:Prop}(h:p:=by show w.used<=w.used+r.cC;omega):p:=h
def abS{p:Prop}(h:p:=by have:=(List.getElem?_eq_some_iff.1 hy).1;omega):p:=h
def abV{p:Prop}(h:p:=by simpa only[aL]using h1):p:=h
def abW{p:Prop}(h:p:=by rw[if_neg (by omega)];exact h6):p:=h
def abX{p:Prop}(h:p:=by rw[bt];unfold bN;omega):p:=h
def ab7{p:Prop}(h:p:=by show(qB b.src (vJ l b) b.ops).2.used<=_;omega):p:=h
def ab9{p:Prop}(h:p:=by show s.length+cV Y<=340;omega):p:=h
def acd{p:Prop}(h:p:=by simp only[okB,mJ];rfl):p:=h
def ace{p:Prop}(h:p:=by simp[eqGuard_at_bool,wQ,wR,run_equal_bool W]):p:=h
def acf{p:Prop}(h:p:=by simp at E ⊢;simp[E]):p:=h
def acg{p:Prop}(h:p:=by simp[bw,bz]):p:=h
def ach{p:Prop}(h:p:=by have:=eX O;omega):p:=h
def aci{p:Prop}(h:p:=by simp only[aaz,aac,aad,agb];omega):p:=h
def acj{p:Prop}(h:p:=by simp only[aac,aad]at *;omega):p:=h
def ack{p:Prop}(h:p:=by simp only[nY,Bool.or_false];exact dQ jG B):p:=h
def acm{p:Prop}(h:p:=by show acc.length<=i+1;omega):p:=h
def acn{p:Prop}(h:p:=by simp only[bw];omega):p:=h
def aco{p:Prop}(h:p:=by simp[Builtin.len_,Y,goInt]):p:=h
def acp{p:Prop}(h:p:=by subst hy;simp[Op.operands]):p:=h
def acr{p:Prop}(h:p:=by rw[lA];rfl):p:=h
def acs{p:Prop}(h:p:=by split at h1<;>omega):p:=h
def acy{p:Prop}(h:p:=by simp only[aac]at hq;omega):p:=h
def acz{p:Prop}(h:p:=by rw[hJ]):p:=h
def acA{p:Prop}(h:p:=by simpa using h1):p:=h
def acB{p:Prop}(h:p:=by simp[hargs]):p:=h
def acC{p:Prop}(h:p:=by unfold me at pK;exact pK):p:=h
def acD{p:Prop}(h:p:=by simp[Rel]):p:=h
def acE{p:Prop}(h:p:=by show 0<=u+1;omega):p:=h
def acO{p:Prop}(h:p:=by show u+1<=g;omega):p:=h
def acP{p:Prop}(h:p:=by rw[p];simp[Op.operands]):p:=h
def acQ{p:Prop}(h:p:=by rw[u];exact k):p:=h
def acR{p:Prop}(h:p:=by simpa using C):p:=h
def acT{p:Prop}(h:p:=by rw[yQ]):p:=h
def acU{p:Prop}(h:p:=by simpa only[aL]using h3):p:=h
def acZ{p:Prop}(h:p:=by rw[K];simp):p:=h
def ac0{p:Prop}(h:p:=by simp[g']):p:=h
def ac1{p:Prop}(h:p:=by rw[l1,k1];exact aaj _):p:=h
def ac4{p:Prop}(h:p:=by rw[PI];exact n4):p:=h
def adg{p:Prop}(h:p:=by simp only[aaz];omega):p:=h
def adj{p:Prop}(h:p:=by simp[D]):p:=h
def adk{p:Prop}(h:p:=by rw[hvl];omega):p:=h
def adl{p:Prop}(h:p:=by rw[l2,k2];rfl):p:=h
def adm{p:Prop}(h:p:=by rw[l3,k3];rfl):p:=h
def adn{p:Prop}(h:p:=by rw[l4,k4];rfl):p:=h
def adu{p:Prop}(h:p:=by simpa using V):p:=h
def adw{p:Prop}(h:p:=by simp[G]):p:=h
def ady{p:Prop}(h:p:=by exact AK.again (ih (i+1) ⟨bD hx,hinv⟩ (by have:=bD hx;omega)) ⟨.inl (gB (by have:=bD hx;omega)),.inl Z,.inl Z,.inl Z,trivial⟩ trivial trivial Z Z Z):p:=h
def adA{p:Prop}(h:p:=by exact AK.again ih2 ⟨.inl (gB (i:=j) (by omega)),.inl Z,.inl Z,trivial⟩ ⟨Z,trivial⟩ trivial (by simp only[UF,HQ,qp];rfl) (by simp only[okB,mJ];rfl) Z):p:=h
def adC{p:Prop}(h:p:=by exact AK.again K ⟨.inl Z,.inl Z,.inl Z,.inl Z,.inl (gB (i:=k) (by omega)),trivial⟩ ⟨Z,Z,trivial⟩ trivial Z (jI Z Z (jI Z (mJ _ _) Z)) Z):p:=h
def adD{p:Prop}(h:p:=by exact ih (i+1,acc++[(Vl.mk 11 0 0 [] q [] [])],false) ⟨h2,by simp[D],W,(by simpa using V)⟩ (by show J.length-(i+1)<J.length-i;omega)):p:=h
def adE{p:Prop}(h:p:=by exact bG (gP (ee (by simp only[bw,bz];omega) (λt h=>C t (by simp[h])))) (b9 _)):p:=h
def adF{p:Prop}(h:p:=by exact Src.ofSlice w ts ⟨vb,vo,none⟩ m vc vs hvl (λj u hj=>by rw[Addr.add_lit];exact hvs j u hj) Dr):p:=h
def adN{p:Prop}(h:p:=by exact λk n b lo hi h1 h2 => .inr ⟨k,n,lo,hi,h1,h2,aaj _,aaj _⟩):p:=h
def adO{p:Prop}(h:p:=by exact Sp hf Z Z Z Z Z Z Z Z Z):p:=h
def adQ{p:Prop}(h:p:=by exact aeb (λl=>[LV.own 1 l]) (cq rows acc _ _ (by rw[jy _ (by omega)]))):p:=h
def adR{p:Prop}(h:p:=by exact AK.yK Tryz.hX hf (l:=[.own .exact 7 []]) Z [] Z Z trivial):p:=h
def aac{α:Type}{a:α}{l:List α}:(a::l).length=l.length+1:=List.length_cons
def aad{α:Type}:([]:List α).length=0:=List.length_nil
def aaf{α:Type}{a:α}{l:List α}{d:α}:(a::l).getD 0 d=a:=List.getD_cons_zero
def aag{α:Type}{a:α}{l:List α}{n:Nat}{d:α}:(a::l).getD (n+1) d=l.getD n d:=List.getD_cons_succ
def aai(a b:Bool):((a&&b)=true)=(a=true/\b=true):=Bool.and_eq_true a b
def aaj(n:Nat):n<=n:=Nat.le_refl n
def aak{p:Prop}[Decidable p](h:p):decide p=true:=decide_eq_true h
def aap{p:Prop}[Decidable p](h:¬p):decide p=false:=decide_eq_false h
def aaz{α:Type}{a b:List α}:(a++b).length=a.length+b.length:=List.length_append
def aaA(a b:Bool):((a||b)=true)=(a=true\/b=true):=Bool.or_eq_true a b
def aaB{α:Type}{l:List α}{i:Nat}{a:α}(h:l[i]?=some a):a∈l:=List.mem_of_getElem? h
def aaC(n:Nat):((n:Int)).toNat=n:=Int.toNat_natCast n
def aaF{α:Type}{l:List α}:l.reverse.length=l.length:=List.length_reverse
inductive CV where
 |int (k:IntKind) (n:Int)
 |bool (b:Bool)
 |str (s:List UInt8)
 |mw
 |undef
 |sl (s:Nat) (rows:List CV)
 |agg (cs:List CV)
 |ip (cs:List CV)
 |rR (f:FuncId) (caps:List CV)
 |eY (cs:List CV)
 |any
 |r8
 deriving Inhabited
def CV.cells:CV->L CV
 |.agg cs=>cs
 |v=>[v]
def CV.one:CV->Bool
 |.agg _ | .eY _ | .undef=>false
 |_=>true
abbrev j8:=Nat->Nat->Option Value
mutual
def Rel(G:j8):CV->Value->Prop
 |.int k n,v=>v = .int k n
 |.bool b,v=>v = .bool b
 |.str s,v=>v = .string ⟨s.toArray⟩
 |.mw,v=>v = .pointer none
 |.undef,v=>v=Go.undef
 |.sl s rows,v=>∃base p V,v = .slice base p V/\p=rows.length/\p<=V /\
   (rows=[]\/∃b o,base=some ⟨b,o,none⟩/\fL G s b o rows)
 |.agg cs,v=>∃vs:L Value,v = .agg vs.toArray/\bR G cs vs/\cs.all CV.one=true
 |.ip cs,v=>∃b o,v = .pointer (some ⟨b,o,none⟩)/\dy G b o cs
 |.rR f W,v=>∃vs:L Value,v = .func (.func f) #[] vs.toArray/\bR G W vs
 |.eY cs,v=>∃vs:L Value,v = .tuple vs.toArray/\bR G cs vs/\2<=cs.length
 |.any,v=>(∀vs,v ≠ .agg vs)/\∀vs,v ≠ .tuple vs
 |.r8,v=>∃x,v = .bool x
def bR(G:j8):L CV->L Value->Prop
 |[],vs=>vs=[]
 |c::cs,vs=>∃u us,vs=u::us/\Rel G c u/\bR G cs us
def dy(G:j8):Nat->Nat->L CV->Prop
 |_,_,[]=>True
 |b,o,c::cs=>(∃u,G b o=some u/\Rel G c u/\c.one=true)/\dy G b (o+1) cs
def pL(G:j8):Nat->Nat->CV->Prop
 |b,o,.agg cs=>dy G b o cs
 |b,o,.int k n=>G b o=some (.int k n)
 |b,o,.bool x=>G b o=some (.bool x)
 |b,o,.str s=>G b o=some (.string ⟨s.toArray⟩)
 |b,o,.mw=>G b o=some (.pointer none)
 |_,_,.undef=>False
 |b,o,.sl s rows=>∃base p V,G b o=some (.slice base p V)/\p=rows.length/\p<=V /\
   (rows=[]\/∃O q,base=some ⟨O,q,none⟩/\fL G s O q rows)
 |b,o,.ip cs=>∃O q,G b o=some (.pointer (some ⟨O,q,none⟩))/\dy G O q cs
 |b,o,.rR f W=>∃vs:L Value,G b o=some (.func (.func f) #[] vs.toArray)/\bR G W vs
 |_,_,.eY _=>False
 |b,o,.any=>∃v,G b o=some v/\(∀vs,v ≠ .agg vs)/\∀vs,v ≠ .tuple vs
 |b,o,.r8=>∃x,G b o=some (.bool x)
def fL(G:j8):Nat->Nat->Nat->L CV->Prop
 |_,_,_,[]=>True
 |s,b,o,r::rs=>pL G b o r/\r.cells.length=s/\fL G s b (o+s) rs
end
def AO(G:j8)(b o:Nat)(r:CV):pL G b o r↔dy G b o r.cells:=by
 cases r with
 |sl s rows =>
  simp only[pL,CV.cells,dy,CV.one,Rel,agy];constructor
  ·grind
  ·simp_all
 |ip cs =>
  simp only[pL,CV.cells,dy,CV.one,Rel,agy];constructor
  ·grind
  ·simp_all
 |rR f W =>
  simp only[pL,CV.cells,dy,CV.one,Rel,agy];constructor
  ·simp_all
  ·simp_all
 |r8 =>
  simp only[pL,CV.cells,dy,CV.one,Rel,agy];constructor
  ·grind
  ·simp_all
 |_=>simp[pL,CV.cells,dy,CV.one,Rel]
def j8.le(G O:j8):Prop:=∀b o v,G b o=some v->O b o=some v
def j8.le.refl(G:j8):G.le G:=λ_ _ _ h=>h
def j8.le.trans{G O Y:j8}(h:G.le O)(C:O.le Y):G.le Y:=λb o v x=>C b o v (h b o v x)
mutual
def Rel.mono{G O:j8}(h:G.le O):∀(c:CV)(v:Value),Rel G c v->Rel O c v
 |.int _ _,_,x=>by simpa[Rel]using x
 |.bool _,_,x=>by simpa[Rel]using x
 |.str _,_,x=>by simpa[Rel]using x
 |.mw,_,x=>by simpa[Rel]using x
 |.undef,_,x=>by simpa[Rel]using x
 |.sl s rows,v,x=>by
  simp only[Rel]at x ⊢;obtain⟨base,p,V,e,E,A,C⟩:=x;exact⟨base,p,V,e,E,A,C.imp id λ⟨b,o,Q,C⟩=>⟨b,o,Q,fL.mono h s b o rows C⟩⟩
 |.agg cs,v,x=>by
  simp only[Rel]at x ⊢;obtain⟨vs,e,C,K⟩:=x;exact⟨vs,e,bR.mono h cs vs C,K⟩
 |.ip cs,v,x=>by
  simp only[Rel]at x ⊢;obtain⟨b,o,e,C⟩:=x;exact⟨b,o,e,dy.mono h b o cs C⟩
 |.rR f W,v,x=>by
  simp only[Rel]at x ⊢;obtain⟨vs,e,C⟩:=x;exact⟨vs,e,bR.mono h W vs C⟩
 |.eY cs,v,x=>by
  simp only[Rel]at x ⊢;obtain⟨vs,e,C,K⟩:=x;exact⟨vs,e,bR.mono h cs vs C,K⟩
 |.any,_,x=>by simp only[Rel]at x ⊢;exact x
 |.r8,_,x=>by simp only[Rel]at x ⊢;exact x
def bR.mono{G O:j8}(h:G.le O):∀(cs:L CV)(vs:L Value),bR G cs vs->bR O cs vs
 |[],_,x=>by simpa[bR]using x
 |c::cs,vs,x=>by
  simp only[bR]at x ⊢;obtain⟨u,us,e,A,C⟩:=x;exact⟨u,us,e,Rel.mono h c u A,bR.mono h cs us C⟩
def dy.mono{G O:j8}(h:G.le O):∀(b o:Nat)(cs:L CV),dy G b o cs->dy O b o cs
 |_,_,[],_=>by simp[dy]
 |b,o,c::cs,x=>by
  simp only[dy]at x ⊢;obtain⟨⟨u,U,A,K⟩,C⟩:=x;exact⟨⟨u,h b o u U,Rel.mono h c u A,K⟩,dy.mono h b (o+1) cs C⟩
def pL.mono{G O:j8}(h:G.le O):∀(b o:Nat)(r:CV),pL G b o r->pL O b o r
 |b,o,.agg cs,x=>by simp only[pL]at x ⊢;exact dy.mono h b o cs x
 |b,o,.int _ _,x=>by simp only[pL]at x ⊢;exact h _ _ _ x
 |b,o,.bool _,x=>by simp only[pL]at x ⊢;exact h _ _ _ x
 |b,o,.str _,x=>by simp only[pL]at x ⊢;exact h _ _ _ x
 |b,o,.mw,x=>by simp only[pL]at x ⊢;exact h _ _ _ x
 |_,_,.undef,x=>by simp[pL]at x
 |b,o,.sl s rows,x=>by
  simp only[pL]at x ⊢;obtain⟨base,p,V,e,E,A,C⟩:=x;exact⟨base,p,V,h _ _ _ e,E,A,C.imp id λ⟨b,o,Q,C⟩=>⟨b,o,Q,fL.mono h s b o rows C⟩⟩
 |b,o,.ip cs,x=>by
  simp only[pL]at x ⊢;obtain⟨Y,q,e,C⟩:=x;exact⟨Y,q,h _ _ _ e,dy.mono h Y q cs C⟩
 |b,o,.rR f W,x=>by
  simp only[pL]at x ⊢;obtain⟨vs,e,C⟩:=x;exact⟨vs,h _ _ _ e,bR.mono h W vs C⟩
 |_,_,.eY _,x=>by simp[pL]at x
 |b,o,.any,x=>by
  simp only[pL]at x ⊢;obtain⟨v,e,C⟩:=x;exact⟨v,h _ _ _ e,C⟩
 |b,o,.r8,x=>by
  simp only[pL]at x ⊢;obtain⟨v,e⟩:=x;exact⟨v,h _ _ _ e⟩
def fL.mono{G O:j8}(h:G.le O):∀(s b o:Nat)(rs:L CV),fL G s b o rs->fL O s b o rs
 |_,_,_,[],_=>by simp[fL]
 |s,b,o,r::rs,x=>by
  simp only[fL]at x ⊢;exact⟨pL.mono h b o r x.1,x.2.1,fL.mono h s b (o+s) rs x.2.2⟩
end
inductive Y2 where
 |exact
 |tok (key n:Nat)
 deriving Inhabited
inductive AV where
 |c (v:CV)
 |own (k:Y2) (s:Nat) (rows:List CV)
 |ptr (key off:Nat)
 |gS (key off s n:Nat)
 |any
 |agg (cs:List AV)
 |eY (cs:List AV)
 deriving Inhabited
def AV.one:AV->Bool
 |.c v=>v.one
 |.own .. | .ptr .. | .gS .. | .any=>true
 |.agg _ | .eY _=>false
structure Gh where
 G:j8
 box:Nat->Option Nat
 tok:Nat->Option (Nat×Option (Nat×Nat×Nat))
 room:Nat->Nat
def lK(G:j8)(s:Nat)(base:Option Addr)(rows:L CV):Prop :=
 rows=[]\/∃b o,base=some ⟨b,o,none⟩/\fL G s b o rows
def qN(g:Gh)(s:Nat)(base:Option Addr)(G V:Nat):Y2->Prop
 |.exact=>V=G
 |.tok p n=>∃N K,g.tok p=some (N,K)/\n<=N/\(N=n->V=G \/
   ∃b H I o,K=some (b,H,I)/\base=some ⟨b,o,none⟩/\H=o+G*s/\I=o+V*s/\G<=V)
mutual
def aL(g:Gh):AV->Value->Prop
 |.c v,x=>Rel g.G v x
 |.own k s rows,x=>∃base p V,x = .slice base p V/\p=rows.length/\p<=V/\lK g.G s base rows/\qN g s base p V k
 |.ptr Y off,x=>∃b,g.box Y=some b/\x = .pointer (some ⟨b,off,none⟩)
 |.gS Y off s n,x=>∃b V o,g.box Y=some b/\x = .slice o n V/\n<=V/\off+V*s<=g.room Y/\(V=0\/o=some ⟨b,off,none⟩)
 |.any,x=>(∀vs,x ≠ .agg vs)/\∀vs,x ≠ .tuple vs
 |.agg cs,x=>∃vs:L Value,x = .agg vs.toArray/\bJ g cs vs/\cs.all AV.one=true
 |.eY cs,x=>∃vs:L Value,x = .tuple vs.toArray/\bJ g cs vs/\2<=cs.length
def bJ(g:Gh):L AV->L Value->Prop
 |[],vs=>vs=[]
 |c::cs,vs=>∃u us,vs=u::us/\aL g c u/\bJ g cs us
end
def Gh.le(g g':Gh):Prop :=
 g.G.le g'.G/\(∀k b,g.box k=some b->g'.box k=some b)/\(∀k b,g.box k=some b->g'.room k=g.room k) /\
 ∀k N K,g.tok k=some (N,K)->∃Y W,g'.tok k=some (Y,W)/\N<=Y/\(Y=N->W=K)
def Gh.le.refl(g:Gh):g.le g:=⟨j8.le.refl _,λ_ _ h=>h,λ_ _ _=>rfl,λ_ N K h=>⟨N,K,h,aaj _,λ_=>rfl⟩⟩
def Gh.le.trans{g g' M:Gh}(h:g.le g')(C:g'.le M):g.le M:=by
 refine⟨h.1.trans C.1,λk b x=>C.2.1 k b (h.2.1 k b x),λk b x=>(C.2.2.1 k b (h.2.1 k b x)).trans (h.2.2.1 k b x),λk N K x=>?_⟩;obtain⟨Y,W,T,S,I⟩:=h.2.2.2 k N K x;obtain⟨U,V,Q,P,q⟩:=C.2.2.2 k Y W T;refine⟨U,V,Q,aeS S P,λe=>?_⟩;have:U=Y:=by omega
 rw[q this,I bn]
def lK.mono{G O:j8}(h:G.le O){s:Nat}{base:Option Addr}{rows:L CV}(x:lK G s base rows):lK O s base rows :=
 x.imp id λ⟨b,o,e,r⟩=>⟨b,o,e,fL.mono h s b o rows r⟩
def qN.mono{g g':Gh}(h:g.le g'){s:Nat}{base:Option Addr}{G V:Nat}:∀{k:Y2},qN g s base G V k->qN g' s base G V k
 |.exact,x=>x
 |.tok p n,⟨N,K,e,B,C⟩=>by
  obtain⟨W,U,e',E,Y⟩:=h.2.2.2 p N K e;refine⟨W,U,e',aeS B E,λO=>?_⟩;have I:W=N:=by omega
  rw[Y I];exact C bn
mutual
def aL.mono{g g':Gh}(h:g.le g'):∀(a:AV)(v:Value),aL g a v->aL g' a v
 |.c v,x,r=>by simp only[aL]at r ⊢;exact Rel.mono h.1 v x r
 |.own k s rows,x,r=>by
  simp only[aL]at r ⊢;obtain⟨base,G,V,e,E,A,C,p⟩:=r;exact⟨base,G,V,e,E,A,C.mono h.1,p.mono h⟩
 |.ptr Y off,x,r=>by
  simp only[aL]at r ⊢;obtain⟨b,Q,e⟩:=r;exact⟨b,h.2.1 _ _ Q,e⟩
 |.gS Y off s n,x,r=>by
  simp only[aL]at r ⊢;obtain⟨b,V,o,Q,e,h1,h2,W⟩:=r;exact⟨b,V,o,h.2.1 _ _ Q,e,h1,by rw[h.2.2.1 _ _ Q];exact h2,W⟩
 |.any,x,r=>by simp only[aL]at r ⊢;exact r
 |.agg cs,x,r=>by
  simp only[aL]at r ⊢;obtain⟨vs,e,C,p⟩:=r;exact⟨vs,e,bJ.mono h cs vs C,p⟩
 |.eY cs,x,r=>by
  simp only[aL]at r ⊢;obtain⟨vs,e,C,p⟩:=r;exact⟨vs,e,bJ.mono h cs vs C,p⟩
def bJ.mono{g g':Gh}(h:g.le g'):∀(cs:L AV)(vs:L Value),bJ g cs vs->bJ g' cs vs
 |[],_,r=>by simpa[bJ]using r
 |c::cs,vs,r=>by
  simp only[bJ]at r ⊢;obtain⟨u,us,e,A,C⟩:=r;exact⟨u,us,e,aL.mono h c u A,bJ.mono h cs us C⟩
end
def an{α:Type}(k:Nat):L (Nat×α)->Option α
 |[]=>none
 |(j,x)::l=>match Nat.beq j k with
  |true=>some x
  |false=>an k l
def DE{α:Type}(k:Nat):L (Nat×α)->L (Nat×α)
 |[]=>[]
 |(j,x)::l=>match Nat.beq j k with
  |true=>DE k l
  |false=>(j,x)::DE k l
def vL{α:Type}(k:Nat)(y:α):L (Nat×α)->L (Nat×α)
 |[]=>[(k,y)]
 |(j,x)::l=>match Nat.beq j k with
  |true=>(j,y)::l
  |false=>(j,x)::vL k y l
def yU{α:Type}(k:Nat)(y:α):L (Nat×α)->Option (L (Nat×α))
 |[]=>some [(k,y)]
 |(j,x)::l=>match Nat.beq j k with
  |true=>some ((j,y)::l)
  |false=>match yU k y l with
   |some r=>some ((j,x)::r)
   |none=>none
def tN{α:Type}(k:Nat)(y:α):∀(l:L (Nat×α)),yU k y l=some (vL k y l)
 |[]=>rfl
 |(j,x)::l=>by
  simp only[yU,vL,tN k y l];split<;>rfl
def beq_true{j k:Nat}(h:Nat.beq j k=true):j=k:=aha h
def beq_false{j k:Nat}(h:Nat.beq j k=false):j≠k:=Nat.ne_of_beq_eq_false h
def kT{α:Type}(k j:Nat)(l:L (Nat×α)):an j (DE k l)=if j=k then none else an j l:=by
 induction l with
 |nil=>simp[DE,an]
 |cons x l W =>
  obtain⟨i,x⟩:=x;simp only[DE];split
  ·rename_i h;have:=beq_true h;subst this;rw[W];split
   ·rfl
   ·rename_i Y;simp only[an];split
    ·simp_all
    ·rfl
  ·rename_i h;have Y:=beq_false h;simp only[an];split
   ·simp_all
   ·rw[W]
def eZ{α:Type}(k j:Nat)(y:α)(l:L (Nat×α)):an j (vL k y l)=if j=k then some y else an j l:=by
 induction l with
 |nil =>
  simp only[vL,an];split
  ·simp_all
  ·rename_i h;have:=beq_false h;rw[if_neg (λe=>this e.symm)]
 |cons x l Y =>
  obtain⟨i,x⟩:=x;simp only[vL];split
  ·rename_i h;have:=beq_true h;subst this;simp only[an];split
   ·simp_all
   ·grind
  ·rename_i h;have W:=beq_false h;simp only[an];split
   ·simp_all
   ·rw[Y]
structure St where
 boxes:List (Nat×List AV)
 toks:List (Nat×Nat)
 used:List Nat
 deriving Inhabited
def cB(w:World)(g:Gh)(b:Nat):Nat->L AV->Prop
 |_,[]=>True
 |o,c::cs=>(∃u,w.cell? ⟨b,o,none⟩=some u/\aL g c u/\c.one=true)/\w.frozen? ⟨b,o,none⟩=false/\cB w g b (o+1) cs
def cB.mono{w:World}{g g':Gh}(h:g.le g'){b:Nat}:∀{o:Nat}{cs:L AV},cB w g b o cs->cB w g' b o cs
 |_,[],_=>trivial
 |_,_::_,⟨⟨u,U,C,p⟩,hf,qO⟩=>⟨⟨u,U,aL.mono h _ _ C,p⟩,hf,cB.mono h qO⟩
def cB.of_same{w w':World}{g:Gh}{b:Nat}(h:∀o,w'.cell? ⟨b,o,none⟩=w.cell? ⟨b,o,none⟩/\w'.frozen? ⟨b,o,none⟩=w.frozen? ⟨b,o,none⟩) :
  ∀{o:Nat}{cs:L AV},cB w g b o cs->cB w' g b o cs
 |_,[],_=>trivial
 |_,_::_,⟨⟨u,U,C,p⟩,hf,qO⟩=>⟨⟨u,(h _).1.trans U,C,p⟩,(h _).2.trans hf,cB.of_same h qO⟩
structure Inv(w:World)(g:Gh)(σ:St):Prop where
 pQ:∀b o v,g.G b o=some v->w.cell? ⟨b,o,none⟩=some v
 box:∀k cs,an k σ.boxes=some cs->∃b,g.box k=some b/\b<w.heap.size/\(∀o,g.G b o=none)/\cB w g b 0 cs
 gk:∀k k' cs cs' b,an k σ.boxes=some cs->an k' σ.boxes=some cs'->g.box k=some b->g.box k'=some b->k=k'
 tok:∀k n,an k σ.toks=some n->∃gK,g.tok k=some (n,gK)/\∀b lo hi,gK=some (b,lo,hi)->b<w.heap.size /\
  (∀o,lo<=o->o<hi->g.G b o=none/\(∃u,w.cell? ⟨b,o,none⟩=some u)/\w.frozen? ⟨b,o,none⟩=false) /\
  ∀k' cs,an k' σ.boxes=some cs->g.box k'≠some b
 iu:∀k k' n n' b lo hi lo' hi',an k σ.toks=some n->an k' σ.toks=some n' ->
  g.tok k=some (n,some (b,lo,hi))->g.tok k'=some (n',some (b,lo',hi'))->k=k'
 used:∀k,g.box k≠none\/g.tok k≠none->k∈σ.used
 room:∀k cs b,an k σ.boxes=some cs->g.box k=some b->∀o,(o<g.room k->∃u,w.cell? ⟨b,o,none⟩=some u)/\w.frozen? ⟨b,o,none⟩=false
def Inv.Z4{w:World}{g:Gh}{σ:St}(N:Inv w g σ)(k:Nat)(cs:L AV)(b:Nat)(e:an k σ.boxes=some cs)(Q:g.box k=some b)(o:Nat)(p:o<g.room k):(∃u,w.cell? ⟨b,o,none⟩=some u)/\w.frozen? ⟨b,o,none⟩=false :=
 ⟨(N.room k cs b e Q o).1 p,(N.room k cs b e Q o).2⟩
def Inv.BW{w w':World}{g:Gh}{σ:St}(N:Inv w g σ)(h:∀k cs b,an k σ.boxes=some cs->g.box k=some b->b<w.heap.size->∀o,w'.cell? ⟨b,o,none⟩=w.cell? ⟨b,o,none⟩/\w'.frozen? ⟨b,o,none⟩=w.frozen? ⟨b,o,none⟩) :
  ∀k cs b,an k σ.boxes=some cs->g.box k=some b->∀o,(o<g.room k->∃u,w'.cell? ⟨b,o,none⟩=some u)/\w'.frozen? ⟨b,o,none⟩=false:=by
 intro k cs b e Q o;obtain⟨O,h1,h2,_⟩:=N.box k cs e;rw[Q]at h1;cases h1;obtain⟨V,S⟩:=N.room k cs b e Q o;have:=h k cs b e Q h2 o;exact⟨λp=>(V p).imp λu U=>this.1.trans U,this.2.trans S⟩
def jt(g:Gh)(σ:St)(b o:Nat):Prop :=
 (∃k cs,an k σ.boxes=some cs/\g.box k=some b) \/
 ∃k n H K,an k σ.toks=some n/\g.tok k=some (n,some (b,H,K))/\H<=o/\o<K
structure iK(w:World)(g:Gh)(σ:St)(w':World)(g':Gh)(σ':St):Prop where
 os:w'.os=w.os
 tape:w'.tape=w.tape
 output:w'.output=w.output
 size:w.heap.size<=w'.heap.size
 block:∀b,b<w.heap.size->(∀o,¬jt g σ b o)->w'.heap[b]?=w.heap[b]?
 kept:∀b o,b<w.heap.size->¬jt g σ b o->w'.cell? ⟨b,o,none⟩=w.cell? ⟨b,o,none⟩/\w'.frozen? ⟨b,o,none⟩=w.frozen? ⟨b,o,none⟩
 le:g.G.le g'.G
 new:∀b o v,g'.G b o=some v->g.G b o=some v\/w.heap.size<=b\/jt g σ b o
 boxes:∀k cs b,an k σ'.boxes=some cs->g'.box k=some b->w.heap.size<=b\/∃k0 cs0,an k0 σ.boxes=some cs0/\g.box k0=some b
 toks:∀k n b lo hi,an k σ'.toks=some n->g'.tok k=some (n,some (b,lo,hi))->w.heap.size<=b \/
  ∃k0 n0 GO rK,an k0 σ.toks=some n0/\g.tok k0=some (n0,some (b,GO,rK))/\GO<=lo/\hi<=rK
 ids:∀k,1000000<=k->an k σ'.boxes≠none->an k σ.boxes≠none/\g'.box k=g.box k/\g'.room k=g.room k
def iK.owned{w w':World}{g g':Gh}{σ O:St}(h:iK w g σ w' g' O){b o:Nat}(p:jt g' O b o):w.heap.size<=b\/jt g σ b o:=by
 rcases p with ⟨k,cs,h1,h2⟩|⟨k,n,H,K,h1,h2,V,S⟩
 ·exact(h.boxes k cs b h1 h2).imp id λ⟨J,B,e⟩ => .inl ⟨J,B,e⟩
 ·exact(h.toks k n b H K h1 h2).imp id λ⟨J,n0,Y,Q,I,W,G,E⟩ => .inr ⟨J,n0,Y,Q,I,W,bn,bn⟩
def iK.refl(w:World)(g:Gh)(σ:St):iK w g σ w g σ where
 os:=rfl
 tape:=rfl
 output:=rfl
 size:=aaj _
 block:=λ_ _ _=>rfl
 kept:=λ_ _ _ _=>⟨Z,Z⟩
 le:=j8.le.refl _
 new:=λ_ _ _ h => .inl h
 boxes:=λk cs _ h1 h2 => .inr ⟨k,cs,h1,h2⟩
 toks:=λk n _ H K h1 h2 => .inr ⟨k,n,H,K,h1,h2,aaj _,aaj _⟩
 ids:=λ_ _ h=>⟨h,Z,Z⟩
def iK.trans{w S P:World}{g g1 N:Gh}{σ Y W:St}(h:iK w g σ S g1 Y)(C:iK S g1 Y P N W):iK w g σ P N W where
 os:=C.os.trans h.os
 tape:=C.tape.trans h.tape
 output:=C.output.trans h.output
 size:=aeS h.size C.size
 block:=λb Q p=>by
  rw[C.block b (afc Q h.size) λo O=>by
   rcases h.owned O with x|x
   ·omega
   ·exact p o x]
  exact h.block b Q p
 kept:=λb o Q p=>by
  have h1:=h.kept b o Q p;have h2:=C.kept b o (afc Q h.size) λO=>by
   rcases h.owned O with x|x
   ·omega
   ·exact p x
  exact⟨h2.1.trans h1.1,h2.2.trans h1.2⟩
 le:=h.le.trans C.le
 new:=λb o v x=>by
  rcases C.new b o v x with x|x|x
  ·exact h.new b o v x
  ·exact .inr (.inl (aeS h.size x))
  ·rcases h.owned x with x|x
   ·exact .inr (.inl x)
   ·exact .inr (.inr x)
 boxes:=λk cs b h1 h2=>by
  rcases C.boxes k cs b h1 h2 with x|⟨J,B,I,q⟩
  ·exact .inl (aeS h.size x)
  ·exact h.boxes J B b I q
 toks:=λk n b M K h1 h2=>by
  rcases C.toks k n b M K h1 h2 with x|⟨J,n0,G,E,I,q,e3,e4⟩
  ·exact .inl (aeS h.size x)
  ·rcases h.toks J n0 b G E I q with x|⟨u,A,V,H,f1,f2,f3,f4⟩
   ·exact .inl x
   ·exact .inr ⟨u,A,V,H,f1,f2,bn,bn⟩
 ids:=λk D h2=>by
  obtain⟨h3,h4,U⟩:=C.ids k D h2;obtain⟨h5,h6,T⟩:=h.ids k D h3;exact⟨h5,h4.trans h6,U.trans T⟩
def vB(g:Gh)(env:L (Nat×AV))(S:Array Value):Prop:=∀t a,an t env=some a->aL g a (S.getD t undef)
def vB.mono{g g':Gh}(h:g.le g'){env:L (Nat×AV)}{S:Array Value}(x:vB g env S):vB g' env S :=
 λt a e=>aL.mono h _ _ (x t a e)
inductive TK where
 |int (k:IntKind)|bool|str|ptr (e:Nat)|slice (e:Nat)|arr (n e:Nat)|struct (fs:List (Nat×Nat))|other
 deriving Inhabited
structure TI where
 size:Nat
 bytes:Nat
 kind:TK
 zero:Option AV
 deriving Inhabited
def TI.isAgg(i:TI):Bool:=match i.kind with
 |.arr .. | .struct .. => true
 |_=>false
structure Ctx where
 ti:Nat->Option TI
 tO:Nat->Option CV
def ff(P:Program):TK->TypeDesc->Prop
 |.int k,d=>d = .int k
 |.bool,d=>d = .bool
 |.str,d=>d = .string
 |.ptr e,d=>d = .pointer e
 |.slice e,d=>d = .slice e
 |.arr n e,d=>d = .array n e
 |.struct Q,d=>∃Y:Array Field,d = .struct Y/\Y.toList.map (λf=>(f.offset,f.type))=Q /\
   ∀f∈Y.toList,∃D,P.info? f.type=some D/\D.size≠0
 |.other,d=>(match d with | .struct _ | .array _ _=>false|_=>true)=true
structure cF(P:Program)(X:Ctx):Prop where
 ti:∀t i,X.ti t=some i->∃inf,P.info? t=some inf/\inf.size=i.size/\inf.bytes=i.bytes /\
  (∀a,i.zero=some a->∃z,inf.zero=some z/\(∀g,aL g a z)/\z.cells.size=i.size)/\(∃d,P.underlying t=some d/\ff P i.kind d)/\i.size≠0
def pP(X:Ctx)(G:j8):Prop:=∀n v,X.tO n=some v->Rel G v (.pointer (some ⟨n,0,none⟩))
section types
variable {P : Program}{X : Ctx}{w : World}{t : Nat}{i : TI}
def cF.run_sizeOf(h:cF P X)(e:X.ti t=some i):(sizeOf t).run P w = .ok i.size w:=by
 obtain⟨D,h1,h2,_⟩:=h.ti t i e;simp[sizeOf,typeInfo,h1,h2]
def cF.run_underlying(h:cF P X)(e:X.ti t=some i):∃d,(underlying t).run P w = .ok d w/\ff P i.kind d/\P.underlying t=some d:=by
 obtain⟨D,h1,h2,V,_,⟨d,S,K⟩,_⟩:=h.ti t i e;exact⟨d,by simp[underlying,S],K,S⟩
def cF.mK(h:cF P X)(e:X.ti t=some i){a:AV}(Y:i.zero=some a):∃z,(zeroValue t).run P w = .ok z w/\(∀g,aL g a z)/\z.cells.size=i.size:=by
 obtain⟨D,h1,h2,V,H,_⟩:=h.ti t i e;obtain⟨z,S,K,q⟩:=H a Y;exact⟨z,by simp[zeroValue,typeInfo,h1,S],K,q⟩
def cF.qt(h:cF P X)(e:X.ti t=some i):(isAgg t).run P w = .ok i.isAgg w:=by
 obtain⟨d,h1,h2,_⟩:=h.run_underlying (w:=w) e;simp only[isAgg,Sem.run_bind,h1,Result.andThen_ok];unfold TI.isAgg;cases D:i.kind<;>rw[D]at h2<;>simp only[ff]at h2
 case struct fs=>obtain⟨Y,rfl,_⟩:=h2;rfl
 case other=>cases d<;>simp at h2<;>rfl
 all_goals subst h2;rfl
end types
def takeN{α:Type}:Nat->List α->Option (List α)
 |0,_=>some []
 |_+1,[]=>none
 |n+1,x::l=>match takeN n l with
  |some r=>some (x::r)
  |none=>none
def eu{α:Type}:Nat->List α->Option (List α)
 |0,l=>some l
 |_+1,[]=>none
 |n+1,_::l=>eu n l
def qP{α:Type}:∀{n:Nat}{l r:List α},takeN n l=some r->r=l.take n/\n<=l.length
 |0,l,r,h=>by simp[takeN]at h;subst h;simp
 |n+1,[],r,h=>by simp[takeN]at h
 |n+1,x::l,r,h=>by
  simp only[takeN]at h;split at h
  ·rename_i Y C;obtain⟨rfl,E⟩:=qP C;simp at h;subst h;simp;exact E
  ·simp at h
def lM{α:Type}:∀{n:Nat}{l r:List α},eu n l=some r->r=l.drop n/\n<=l.length
 |0,l,r,h=>by simp[eu]at h;subst h;simp
 |n+1,[],r,h=>by simp[eu]at h
 |n+1,x::l,r,h=>by
  simp only[eu]at h;obtain⟨rfl,E⟩:=lM h;simp;exact E
def dy.drop{G:j8}{b:Nat}:∀{o n:Nat}{cs:L CV},dy G b o cs->dy G b (o+n) (cs.drop n)
 |o,0,cs,h=>by simpa using h
 |o,n+1,[],h=>by simp[dy]
 |o,n+1,x::cs,h=>by
  simp only[dy]at h;have:=dy.drop (n:=n) h.2;simpa[show o+1+n=o+(n+1)from by omega]using this
def dy.kV{G:j8}{b:Nat}:∀{o:Nat}{cs:L CV},(∀(j:Nat) c,cs[j]?=some c->∃u,G b (o+j)=some u/\Rel G c u/\c.one=true)->dy G b o cs
 |o,[],_=>by simp[dy]
 |o,x::cs,h=>by
  simp only[dy];refine⟨by simpa using h 0 x cS,dy.kV λj c Y=>?_⟩;have:=h (j+1) c (by simpa using Y);rwa[show o+(j+1)=o+1+j from by omega]at this
def fL.get{G:j8}{s b:Nat}:∀{o:Nat}{rows:L CV},fL G s b o rows->∀(j:Nat) r,rows[j]?=some r->dy G b (o+j*s) r.cells/\r.cells.length=s
 |o,[],_,j,r,h=>by simp at h
 |o,x::rows,h,j,r,hj=>by
  simp only[fL]at h;cases j with
  |zero=>simp at hj;subst hj;exact⟨by simpa using (AO G b o x).1 h.1,h.2.1⟩
  |succ j =>
   simp at hj;have:=h.2.2.get j r hj;rwa[show o+s+j*s=o+(j+1)*s from by rw[agG];omega]at this
def fL.drop{G:j8}{s b:Nat}:∀{o n:Nat}{rows:L CV},fL G s b o rows->fL G s b (o+n*s) (rows.drop n)
 |o,0,rows,h=>by simpa using h
 |o,n+1,[],h=>by simp[fL]
 |o,n+1,x::rows,h=>by
  simp only[fL]at h;have:=fL.drop (n:=n) h.2.2;simpa[show o+s+n*s=o+(n+1)*s from by rw[agG];omega]using this
def fL.take{G:j8}{s b:Nat}:∀{o n:Nat}{rows:L CV},fL G s b o rows->fL G s b o (rows.take n)
 |o,0,rows,h=>by simp[fL]
 |o,n+1,[],h=>by simp[fL]
 |o,n+1,x::rows,h=>by
  simp only[fL]at h;simp only[afi,fL];exact⟨h.1,h.2.1,fL.take h.2.2⟩
def cB.get{w:World}{g:Gh}{b:Nat}:∀{o:Nat}{cs:L AV},cB w g b o cs->∀(j:Nat) c,cs[j]?=some c ->
  (∃u,w.cell? ⟨b,o+j,none⟩=some u/\aL g c u/\c.one=true)/\w.frozen? ⟨b,o+j,none⟩=false
 |o,[],_,j,c,h=>by simp at h
 |o,x::cs,h,j,c,hj=>by
  simp only[cB]at h;cases j with
  |zero=>simp at hj;subst hj;exact⟨h.1,h.2.1⟩
  |succ j =>
   simp at hj;have:=h.2.2.get j c hj;rwa[show o+1+j=o+(j+1)from by omega]at this
def cB.kV{w:World}{g:Gh}{b:Nat}:∀{o:Nat}{cs:L AV},(∀(j:Nat) c,cs[j]?=some c ->
  (∃u,w.cell? ⟨b,o+j,none⟩=some u/\aL g c u/\c.one=true)/\w.frozen? ⟨b,o+j,none⟩=false)->cB w g b o cs
 |o,[],_=>trivial
 |o,x::cs,h=>by
  refine⟨by simpa using (h 0 x cS).1,by simpa using (h 0 x cS).2,cB.kV λj c Y=>?_⟩;have:=h (j+1) c (by simpa using Y);rwa[show o+(j+1)=o+1+j from by omega]at this
def bR.get{G:j8}:∀{cs:L CV}{vs:L Value},bR G cs vs->cs.length=vs.length/\∀(j:Nat) c,cs[j]?=some c->∃u,vs[j]?=some u/\Rel G c u
 |[],vs,h=>by simp only[bR]at h;subst h;simp
 |c::cs,vs,h=>by
  simp only[bR]at h;obtain⟨u,us,rfl,A,C⟩:=h;obtain⟨E,p⟩:=C.get;refine⟨by simp[E],λj c' Y=>?_⟩;cases j with
  |zero=>simp at Y;subst Y;exact⟨u,cS,A⟩
  |succ j=>simp at Y;simpa using p j c' Y
def bJ.get{g:Gh}:∀{cs:L AV}{vs:L Value},bJ g cs vs->cs.length=vs.length/\∀(j:Nat) c,cs[j]?=some c->∃u,vs[j]?=some u/\aL g c u
 |[],vs,h=>by simp only[bJ]at h;subst h;simp
 |c::cs,vs,h=>by
  simp only[bJ]at h;obtain⟨u,us,rfl,A,C⟩:=h;obtain⟨E,G⟩:=C.get;refine⟨by simp[E],λj c' Y=>?_⟩;cases j with
  |zero=>simp at Y;subst Y;exact⟨u,cS,A⟩
  |succ j=>simp at Y;simpa using G j c' Y
def bR.kV{G:j8}:∀{cs:L CV}{vs:L Value},cs.length=vs.length->(∀(j:Nat) c u,cs[j]?=some c->vs[j]?=some u->Rel G c u)->bR G cs vs
 |[],vs,h,_=>by simp only[bR];exact afR (by simpa using h.symm)
 |c::cs,[],h,_=>by simp at h
 |c::cs,u::us,h,p=>by
  simp only[bR];exact⟨u,us,Z,p 0 c u cS cS,bR.kV oy λj c' V h1 h2=>p (j+1) c' V acA K0⟩
def bJ.kV{g:Gh}:∀{cs:L AV}{vs:L Value},cs.length=vs.length->(∀(j:Nat) c u,cs[j]?=some c->vs[j]?=some u->aL g c u)->bJ g cs vs
 |[],vs,h,_=>by simp only[bJ];exact afR (by simpa using h.symm)
 |c::cs,[],h,_=>by simp at h
 |c::cs,u::us,h,G=>by
  simp only[bJ];exact⟨u,us,Z,G 0 c u cS cS,bJ.kV oy λj c' V h1 h2=>G (j+1) c' V acA K0⟩
end Go.cK
namespace Go.cK
def J1:Value->Option AV
 |.int k n=>some (.c (.int k n))
 |.bool b=>some (.c (.bool b))
 |.string s=>some (.c (.str s.data.toList))
 |.pointer none=>some (.c .mw)
 |.slice none 0 0=>some (.own .exact 0 [])
 |_=>none
def Fi:L Value->Option (L AV)
 |[]=>some []
 |v::vs=>match J1 v with
  |some a=>match Fi vs with
   |some l=>some (a::l)
   |none=>none
  |none=>none
def V8:Value->Option AV
 |.agg cs=>match Fi cs.toList with
  |some l=>some (.agg l)
  |none=>none
 |v=>J1 v
def Io(g:Gh):∀{v:Value}{a:AV},J1 v=some a->aL g a v/\a.one=true:=by
 intro v a h;unfold J1 at h;split at h<;>simp at h<;>subst h<;>simp[aL,Rel,AV.one,CV.one];exact⟨_,_,_,⟨Z,Z,Z⟩,Z,aaj _,.inl Z,Z⟩
def Ip(g:Gh):∀{vs:L Value}{l:L AV},Fi vs=some l->bJ g l vs/\l.all AV.one=true
 |[],l,h=>by simp[Fi]at h;subst h;simp[bJ]
 |v::vs,l,h=>by
  simp only[Fi]at h;split at h
  ·rename_i a ha;split at h
   ·rename_i O E;simp at h;subst h;obtain⟨h1,h2⟩:=Io g ha;obtain⟨V,S⟩:=Ip g E;exact⟨by simp only[bJ];exact⟨v,vs,Z,h1,V⟩,by simp[h2];simpa using S⟩
   ·simp at h
  ·simp at h
def V9(g:Gh){v:Value}{a:AV}(h:V8 v=some a):aL g a v:=by
 unfold V8 at h;split at h
 ·rename_i cs;split at h
  ·rename_i l E;simp at h;subst h;obtain⟨h1,h2⟩:=Ip g E;simp only[aL];exact⟨cs.toList,cS,h1,h2⟩
  ·simp at h
 ·exact(Io g h).1
def aK(X:Ctx)(env:L (Nat×AV)):Operand->Option AV
 |.tmp t=>an t env
 |.const v=>V8 v
 |.global n=>match X.tO n with
  |some v=>some (.c v)
  |none=>none
 |.func f=>some (.c (.rR f []))
def cy{X:Ctx}{g:Gh}{env:L (Nat×AV)}{a:Act}(S:vB g env a.tmps)(p:pP X g.G){x:Operand}{v:AV}(h:aK X env x=some v):aL g v (a.eval x):=by
 cases x with
 |tmp t=>exact S t v h
 |const c=>exact V9 g h
 |global n =>
  simp only[aK]at h;split at h
  ·rename_i Y W;simp at h;subst h;simp only[aL];exact p n Y W
  ·simp at h
 |func f=>simp[aK]at h;subst h;simp only[aL,Rel];exact⟨[],rfl,by simp[bR]⟩
def nth{α:Type}:List α->Nat->Option α
 |[],_=>none
 |x::_,0=>some x
 |_::l,n+1=>nth l n
def sO{α:Type}:∀(l:List α)(n:Nat),nth l n=l[n]?
 |[],n=>by simp[nth]
 |x::l,0=>by simp[nth]
 |x::l,n+1=>by simp[nth,sO l n]
def Z5(t:Bool)(a b:AV):Option AV :=
 match a,b with
 |.c (.bool x),.c (.bool y)=>some (.c (.bool (bif t then x else y)))
 |_,_=>match t with
  |true=>some a
  |false=>some b
def lH(i:TI)(cells:L AV):Option AV :=
 match i.isAgg with
 |true=>match takeN i.size cells with
  |some l=>some (.agg l)
  |none=>none
 |false=>match cells with
  |c::_=>some c
  |[]=>none
def BX(i:TI)(cells:L CV):Option AV :=
 match i.isAgg with
 |true=>match takeN i.size cells with
  |some l=>some (.c (.agg l))
  |none=>none
 |false=>match cells with
  |c::_=>some (.c c)
  |[]=>none
section
variable {P : Program}{X : Ctx}{w : World}{g : Gh}
def AP(hX:cF P X){t:Nat}{i:TI}(K:X.ti t=some i)(ha:i.isAgg=true)(b o:Nat)(vs:L Value)(E:vs.length=i.size)
  (h:∀j v,vs[j]?=some v->w.cell? ⟨b,o+j,none⟩=some v) :
  (Instr.loadAt t (.pointer (some ⟨b,o,none⟩))).run P w = .ok (.agg vs.toArray) w:=by
 have A:=run_loadCells_list (P:=P) w ⟨b,o,none⟩ vs (λj v Y=>by rw[Addr.add_lit];exact h j v Y);simp only[Instr.loadAt,Instr.sureAddr,loadVar,Sem.run_bind,Sem.run_pure,Result.andThen_ok,hX.qt K,ha,if_true,hX.run_sizeOf K];rw[<- E,A];rfl
def AQ(hX:cF P X){t:Nat}{i:TI}(K:X.ti t=some i)(ha:i.isAgg=false)(b o:Nat)(v:Value)
  (h:w.cell? ⟨b,o,none⟩=some v) :
  (Instr.loadAt t (.pointer (some ⟨b,o,none⟩))).run P w = .ok v w:=by
 simp[Instr.loadAt,Instr.sureAddr,loadVar,hX.qt K,ha,h]
def Wa(hX:cF P X){t:Nat}{i:TI}(K:X.ti t=some i){b o:Nat}{cells:L AV}(A:cB w g b o cells){v:AV}(h:lH i cells=some v) :
  ∃u,(Instr.loadAt t (.pointer (some ⟨b,o,none⟩))).run P w = .ok u w/\aL g v u:=by
 unfold lH at h;split at h
 ·rename_i ha;split at h
  ·rename_i l E;simp at h;subst h;obtain⟨rfl,B⟩:=qP E;have p:∀(n:Nat)(cs:L AV)(o:Nat),cB w g b o cs->n<=cs.length->∃vs:L Value,vs.length=n/\(∀j v,vs[j]?=some v->w.cell? ⟨b,o+j,none⟩=some v)/\bJ g (cs.take n) vs/\(cs.take n).all AV.one=true:=by
    intro n
    induction n with
    |zero=>intro cs o _ _;exact⟨[],Z,cS,by simp[bJ],cS⟩
    |succ n T =>
     intro cs o W Y;cases cs with
     |nil=>simp at Y
     |cons x cs =>
      obtain⟨⟨u,U,C,Q⟩,_,qO⟩:=W;obtain⟨vs,h1,h2,V,S⟩:=T cs (o+1) qO (by simpa using Y);refine⟨u::vs,abu,?_,?_,?_⟩
      ·grind
      ·simp only[afi,bJ];exact⟨u,vs,Z,C,V⟩
      ·simp_all
   obtain⟨vs,h1,h2,V,S⟩:=p i.size cells o A B;exact⟨.agg vs.toArray,AP hX K ha b o vs h1 h2,by simp only[aL];exact⟨vs,Z,V,S⟩⟩
  ·simp at h
 ·rename_i ha;split at h
  ·rename_i c rest;simp at h;subst h;obtain⟨⟨u,U,C,_⟩,_,_⟩:=A;exact⟨u,AQ hX K ha b o u U,C⟩
  ·simp at h
def Tu(hX:cF P X)(M:∀b o v,g.G b o=some v->w.cell? ⟨b,o,none⟩=some v){t:Nat}{i:TI}(K:X.ti t=some i){b o:Nat}{cells:L CV}
  (A:dy g.G b o cells){v:AV}(h:BX i cells=some v) :
  ∃u,(Instr.loadAt t (.pointer (some ⟨b,o,none⟩))).run P w = .ok u w/\aL g v u:=by
 unfold BX at h;split at h
 ·rename_i ha;split at h
  ·rename_i l E;simp at h;subst h;obtain⟨rfl,B⟩:=qP E;have p:∀(n:Nat)(cs:L CV)(o:Nat),dy g.G b o cs->n<=cs.length->∃vs:L Value,vs.length=n/\(∀j v,vs[j]?=some v->w.cell? ⟨b,o+j,none⟩=some v)/\bR g.G (cs.take n) vs/\(cs.take n).all CV.one=true:=by
    intro n
    induction n with
    |zero=>intro cs o _ _;exact⟨[],Z,cS,by simp[bR],cS⟩
    |succ n T =>
     intro cs o Y W;cases cs with
     |nil=>simp at W
     |cons x cs =>
      simp only[dy]at Y;obtain⟨⟨u,U,C,Q⟩,qO⟩:=Y;obtain⟨vs,h1,h2,V,S⟩:=T cs (o+1) qO (by simpa using W);refine⟨u::vs,abu,?_,?_,?_⟩
      ·grind
      ·simp only[afi,bR];exact⟨u,vs,Z,C,V⟩
      ·simp_all
   obtain⟨vs,h1,h2,V,S⟩:=p i.size cells o A B;exact⟨.agg vs.toArray,AP hX K ha b o vs h1 h2,by simp only[aL,Rel];exact⟨vs,Z,V,S⟩⟩
  ·simp at h
 ·rename_i ha;split at h
  ·rename_i c rest;simp at h;subst h;simp only[dy]at A;obtain⟨⟨u,U,C,_⟩,_⟩:=A;exact⟨u,AQ hX K ha b o u (M _ _ _ U),by simpa only[aL]using C⟩
  ·simp at h
end
end Go.cK
namespace Go.cK
def toList_mk(l:L UInt8):(ByteArray.mk l.toArray).toList=l:=by rw[ByteArray.toList_eq]
def Wb(K:BinOp)(k:IntKind)(a b:Int):Option CV :=
 match K with
 |.add=>some (.int k (k.wrap (a+b)))
 |.sub=>some (.int k (k.wrap (a-b)))
 |.mul=>some (.int k (k.wrap (a*b)))
 |.quo=>match b==0 with
  |true=>none
  |false=>some (.int k (k.wrap (a.tdiv b)))
 |.rem=>match b==0 with
  |true=>none
  |false=>some (.int k (a.tmod b))
 |.and=>some (.int k (k.wrap (BitVec.ofInt k.bits a&&&BitVec.ofInt k.bits b).toNat))
 |.or=>some (.int k (k.wrap (BitVec.ofInt k.bits a|||BitVec.ofInt k.bits b).toNat))
 |.xor=>some (.int k (k.wrap (BitVec.ofInt k.bits a ^^^ BitVec.ofInt k.bits b).toNat))
 |.eql=>some (.bool (a==b))
 |.neq=>some (.bool (a != b))
 |.lss=>some (.bool (decide (a<b)))
 |.leq=>some (.bool (decide (a<=b)))
 |.gtr=>some (.bool (decide (a>b)))
 |.geq=>some (.bool (decide (a>=b)))
 |_=>none
def sameKind:IntKind->IntKind->Bool
 |.i64,.i64 | .u8,.u8 | .u64,.u64 | .i32,.i32 | .u32,.u32=>true
 |_,_=>false
def MM{j k:IntKind}(h:sameKind j k=true):j=k:=by
 cases j<;>cases k<;>simp[sameKind]at h<;>rfl
def J2(K:BinOp)(k:IntKind)(a b:Int):Option CV :=
 match K,b with
 |.shl,.ofNat n=>some (.int k (k.wrap (a*2^(min n k.bits))))
 |.shr,.ofNat n=>some (.int k (a.fdiv (2^(min n k.bits))))
 |_,_=>none
def abe(K:BinOp)(a b:L UInt8):Option CV :=
 match K with
 |.eql=>some (.bool (a==b))
 |.neq=>some (.bool (!(a==b)))
 |.lss=>some (.bool (Op.bytesLess a b))
 |.gtr=>some (.bool (!(Op.bytesLess a b||a==b)))
 |_=>none
def Wc(k:TK)(K:BinOp)(x y:AV):Option AV :=
 match x,y with
 |.c (.int j a),.c (.int j' b) =>
  match K with
  |.shl | .shr=>match J2 K j a b with
   |some v=>some (.c v)
   |none=>none
  |_=>match sameKind j j' with
   |true=>match Wb K j a b with
    |some v=>some (.c v)
    |none=>none
   |false=>none
 |.c (.str a),.c (.str b)=>match abe K a b with
  |some v=>some (.c v)
  |none=>none
 |.c (.bool a),.c (.bool b)=>match k,K with
  |.bool,.eql=>some (.c (.bool (a==b)))
  |.bool,.neq=>some (.c (.bool (!(a==b))))
  |_,_=>none
 |.c (.ip _),.c .mw=>match k,K with
  |.ptr _,.eql=>some (.c (.bool false))
  |.ptr _,.neq=>some (.c (.bool true))
  |_,_=>none
 |.c .mw,.c .mw=>match k,K with
  |.ptr _,.eql=>some (.c (.bool true))
  |.ptr _,.neq=>some (.c (.bool false))
  |_,_=>none
 |_,_=>none
section
variable {P : Program}{X : Ctx}{w : World}{g : Gh}
def Y4{K:BinOp}{k:IntKind}{a b:Int}{v:CV}(h:Wb K k a b=some v)(t:TypeId)(x y:Operand) :
  ∃u,(do eqGuard K t x y (.int k a) (.int k b);binOp K t (.int k a) (.int k b)).run P w = .ok u w/\Rel g.G v u:=by
 cases K<;>simp only[Wb]at h<;>simp only[eqGuard_at_int]
 case quo =>
  split at h
  ·simp at h
  ·rename_i Q;simp at h;subst h;have:b≠0:=by simpa using Q
   exact⟨_,by simp[binOp,Op.intDiv,this];rfl,acD⟩
 case rem =>
  split at h
  ·simp at h
  ·rename_i Q;simp at h;subst h;have:b≠0:=by simpa using Q
   exact⟨_,by simp[binOp,Op.intDiv,this];rfl,acD⟩
 all_goals first
  |(simp at h;done)
  |(simp at h;subst h;exact⟨_,by simp[binOp,Op.intArith,Op.intBits,Op.intCmp];rfl,acD⟩)
def Tv{K:BinOp}{k k':IntKind}{a b:Int}{v:CV}(h:J2 K k a b=some v)(t:TypeId)(x y:Operand) :
  ∃u,(do eqGuard K t x y (.int k a) (.int k' b);binOp K t (.int k a) (.int k' b)).run P w = .ok u w/\Rel g.G v u:=by
 unfold J2 at h;split at h
 ·rename_i n;simp at h;subst h;refine⟨.int k (k.wrap (a*2^(min n k.bits))),?_,acD⟩;simp[eqGuard_at_int,binOp,Op.shift,show ¬((n:Int)<0)from by omega]
 ·rename_i n;simp at h;subst h;refine⟨.int k (a.fdiv (2^(min n k.bits))),?_,acD⟩;simp[eqGuard_at_int,binOp,Op.shift,show ¬((n:Int)<0)from by omega]
 ·simp at h
def Y5{K:BinOp}{a b:L UInt8}{v:CV}(h:abe K a b=some v)(t:TypeId)(x y:Operand) :
  ∃u,(do eqGuard K t x y (.string ⟨a.toArray⟩) (.string ⟨b.toArray⟩);binOp K t (.string ⟨a.toArray⟩) (.string ⟨b.toArray⟩)).run P w = .ok u w/\Rel g.G v u:=by
 cases K<;>simp only[abe]at h<;>first
  |(simp at h;done)
  |(simp at h;subst h;exact⟨_,by simp[eqGuard_at_string,binOp,Op.stringOp,toList_mk];rfl,acD⟩)
def AR{t:TypeId}(d:Nat)(h:(underlying t).run P w = .ok .bool w)(a b:Bool):(Op.equalIn (d+1) t (.bool a) (.bool b)).run P w = .ok (a==b) w:=by
 simp[Op.equalIn,h]
def BY{t e:TypeId}(d:Nat)(h:(underlying t).run P w = .ok (.pointer e) w)(a:Addr):(Op.equalIn (d+1) t (.pointer (some a)) (.pointer none)).run P w = .ok false w:=by
 simp[Op.equalIn,h]
def BZ{t e:TypeId}(d:Nat)(h:(underlying t).run P w = .ok (.pointer e) w):(Op.equalIn (d+1) t (.pointer none) (.pointer none)).run P w = .ok true w:=by
 simp[Op.equalIn,h]
def run_equal_bool{t:TypeId}(h:(underlying t).run P w = .ok .bool w)(a b:Bool):(Op.equal t (.bool a) (.bool b)).run P w = .ok (a==b) w :=
 AR 9999 h a b
def lg{t e:TypeId}(h:(underlying t).run P w = .ok (.pointer e) w)(a:Addr):(Op.equal t (.pointer (some a)) (.pointer none)).run P w = .ok false w :=
 BY 9999 h a
def run_equal_nil_nil{t e:TypeId}(h:(underlying t).run P w = .ok (.pointer e) w):(Op.equal t (.pointer none) (.pointer none)).run P w = .ok true w :=
 BZ 9999 h
def wQ(t:TypeId)(a b:Bool):binOp .eql t (.bool a) (.bool b)=(do pure (.bool (<- Op.equal t (.bool a) (.bool b)))):=rfl
def wR(t:TypeId)(a b:Bool):binOp .neq t (.bool a) (.bool b)=(do pure (.bool (!(<- Op.equal t (.bool a) (.bool b))))):=rfl
def oP(t:TypeId)(a b:Option Addr):binOp .eql t (.pointer a) (.pointer b)=(do pure (.bool (<- Op.equal t (.pointer a) (.pointer b)))):=rfl
def oQ(t:TypeId)(a b:Option Addr):binOp .neq t (.pointer a) (.pointer b)=(do pure (.bool (!(<- Op.equal t (.pointer a) (.pointer b))))):=rfl
def Y6(hX:cF P X){t:Nat}{i:TI}(I:X.ti t=some i){K:BinOp}{x y:AV}{v:AV}(h:Wc i.kind K x y=some v)
  {p q:Value}(Y:aL g x p)(hq:aL g y q)(V U:Operand) :
  ∃u,(do eqGuard K t V U p q;binOp K t p q).run P w = .ok u w/\aL g v u:=by
 obtain⟨d,W,O,N⟩:=hX.run_underlying (w:=w) I;unfold Wc at h;split at h
 ·rename_i j a Q b;simp only[aL,Rel]at Y hq;subst Y hq;have M:∀(T:CV),J2 K j a b=some T->∃u,(do eqGuard K t V U (.int j a) (.int Q b);binOp K t (.int j a) (.int Q b)).run P w = .ok u w/\aL g (.c T) u:=by
   intro T S;obtain⟨u,h1,h2⟩:=Tv (P:=P) (w:=w) (g:=g) (k':=Q) S t V U;exact⟨u,h1,MO⟩
  split at h
  ·grind
  ·grind
  ·split at h
   ·rename_i D;have:=MM D;subst this;split at h
    ·rename_i T S;simp at h;subst h;obtain⟨u,h1,h2⟩:=Y4 (P:=P) (w:=w) (g:=g) S t V U;exact⟨u,h1,MO⟩
    ·simp at h
   ·simp at h
 ·rename_i a b;simp only[aL,Rel]at Y hq;subst Y hq;split at h
  ·rename_i T S;simp at h;subst h;obtain⟨u,h1,h2⟩:=Y5 (P:=P) (w:=w) (g:=g) S t V U;exact⟨u,h1,MO⟩
  ·simp at h
 ·rename_i a b;simp only[aL,Rel]at Y hq;subst Y hq;split at h<;>simp at h<;>subst h<;>rename_i D<;>rw[D]at O<;>simp only[ff]at O<;>subst O
  ·exact⟨.bool (a==b),ace,q6⟩
  ·exact⟨.bool (!(a==b)),ace,q6⟩
 ·rename_i cs;simp only[aL,Rel]at Y hq;subst hq;obtain⟨b,o,rfl,_⟩:=Y;split at h<;>simp at h<;>subst h<;>rename_i D<;>rw[D]at O<;>simp only[ff]at O<;>subst O
  ·exact⟨.bool false,oN,q6⟩
  ·exact⟨.bool true,oN,q6⟩
 ·simp only[aL,Rel]at Y hq;subst Y hq;split at h<;>simp at h<;>subst h<;>rename_i D<;>rw[D]at O<;>simp only[ff]at O<;>subst O
  ·exact⟨.bool true,oN,q6⟩
  ·exact⟨.bool false,oN,q6⟩
 ·simp at h
end
end Go.cK
namespace Go.cK
def opened:L CV->Option (L AV)
 |[]=>some []
 |c::cs=>match opened cs with
  |some l=>some (.c c::l)
  |none=>none
def BU:∀(cs:L CV),opened cs=some (cs.map AV.c)
 |[]=>rfl
 |c::cs=>by simp[opened,BU cs]
def jA:AV->Option (L AV)
 |.c (.agg cs)=>opened cs
 |.c (.eY _)=>none
 |.c .undef=>none
 |.eY _=>none
 |.agg cs=>some cs
 |a=>some [a]
def bV:Nat->L AV->L AV->Option (L AV)
 |_,[],l=>some l
 |0,v::vs,_::l=>match bV 0 vs l with
  |some r=>some (v::r)
  |none=>none
 |n+1,vs,x::l=>match bV n vs l with
  |some r=>some (x::r)
  |none=>none
 |_,_::_,[]=>none
mutual
def close:AV->Option CV
 |.c v=>some v
 |.own _ s rows=>some (.sl s rows)
 |.ptr _ _=>none
 |.gS .. => none
 |.any=>none
 |.agg cs=>match pO cs with
  |some l=>some (.agg l)
  |none=>none
 |.eY cs=>match pO cs with
  |some l=>some (.eY l)
  |none=>none
def pO:L AV->Option (L CV)
 |[]=>some []
 |a::l=>match close a with
  |some v=>match pO l with
   |some r=>some (v::r)
   |none=>none
  |none=>none
end
def asNat:AV->Option Nat
 |.c (.int _ (.ofNat n))=>some n
 |_=>none
def bound(ρ:Operand->Option AV):Option Operand->Option (Option Nat)
 |none=>some none
 |some x=>match ρ x with
  |some a=>match asNat a with
   |some n=>some (some n)
   |none=>none
  |none=>none
def Fj(s:Nat)(rows:L CV)(H:Option Nat)(h:Nat)(exact:Bool):Option AV :=
 match takeN h rows with
 |some W=>match (match H with
   |some l=>eu l W
   |none=>some W)with
  |some r=>match exact with
   |true=>some (.own .exact s r)
   |false=>some (.c (.sl s r))
  |none=>none
 |none=>none
def Fk(k:TK)(es:Nat)(x:AV)(H K T:Option Nat):Option AV :=
 match k,x with
 |.str,.c (.str s)=>match T with
  |some _=>none
  |none=>match (match K with
    |some h=>takeN h s
    |none=>some s)with
   |some P=>match H with
    |some l=>match eu l P with
     |some r=>some (.c (.str r))
     |none=>none
    |none=>some (.c (.str P))
   |none=>none
 |.slice _,.own o s rows=>match Nat.beq s es with
  |false=>none
  |true=>match K,T with
  |none,none=>match H with
   |some l=>match eu l rows with
    |some r=>some (.own o s r)
    |none=>none
   |none=>some (.own o s rows)
  |some h,none=>Fj s rows H h false
  |some h,some m=>match Nat.beq h m with
   |true=>Fj s rows H h true
   |false=>none
  |none,some _=>none
 |.slice _,.c (.sl s rows)=>match Nat.beq s es with
  |false=>none
  |true=>match K,T with
  |none,none=>match H with
   |some l=>match eu l rows with
    |some r=>some (.c (.sl s r))
    |none=>none
   |none=>some (.c (.sl s rows))
  |some h,none=>Fj s rows H h false
  |some h,some m=>match Nat.beq h m with
   |true=>Fj s rows H h true
   |false=>none
  |none,some _=>none
 |_,_=>none
def rowsOf:AV->Option (Nat×L CV)
 |.own _ s rows=>some (s,rows)
 |.c (.sl s rows)=>some (s,rows)
 |_=>none
def rW(X:Ctx)(ρ:Operand->Option AV)(Q:L (Nat×Nat)):L (Nat×Operand)->L AV->Option (L AV)
 |[],cells=>some cells
 |(i,x)::rest,cells=>match nth Q i,ρ x with
  |some (off,Y),some a=>match X.ti Y,jA a with
   |some j,some vs=>match Nat.beq vs.length j.size,bV off vs cells with
    |true,some cells'=>rW X ρ Q rest cells'
    |_,_=>none
   |_,_=>none
  |_,_=>none
def abg(k:TK)(x:AV):Option AV :=
 match k,x with
 |.slice _,.own _ _ rows=>some (.c (.int .i64 rows.length))
 |.slice _,.gS _ _ _ n=>some (.c (.int .i64 n))
 |.slice _,.c (.sl _ rows)=>some (.c (.int .i64 rows.length))
 |.str,.c (.str s)=>some (.c (.int .i64 s.length))
 |.arr n _,_=>some (.c (.int .i64 n))
 |_,_=>none
def ade:L (Option AV)->Option AV
 |[some (.c (.int k a)),some (.c (.int _ b))]=>some (.c (.int k (if b<a then b else a)))
 |_=>none
def adf:L (Option AV)->Option AV
 |[some (.c (.int k a)),some (.c (.int _ b))]=>some (.c (.int k (if b>a then b else a)))
 |_=>none
def gO(ρ:Operand->Option AV):L Operand->Option (L CV)
 |[]=>some []
 |x::l=>match ρ x with
  |some a=>match close a with
   |some v=>match gO ρ l with
    |some r=>some (v::r)
    |none=>none
   |none=>none
  |none=>none
def gy(X:Ctx)(Y:L (Nat×L AV))(ρ:Operand->Option AV):Op->Option AV
 |.move x=>ρ x
 |.assign x=>ρ x
 |.pick c a b=>match ρ c,ρ a,ρ b with
  |some (.c (.bool t)),some a,some b=>Z5 t a b
  |_,_,_=>none
 |.load t x=>match X.ti t,ρ x with
  |some i,some (.ptr p off)=>match an p Y with
   |some cells=>match eu off cells with
    |some l=>lH i l
    |none=>none
   |none=>none
  |some i,some (.c (.ip cs))=>BX i cs
  |_,_=>none
 |.nilCheck x=>match ρ x with
  |some (.ptr k o)=>some (.ptr k o)
  |some (.c (.ip cs))=>some (.c (.ip cs))
  |some (.c (.rR f cs))=>some (.c (.rR f cs))
  |_=>none
 |.binOp I t x y _=>match X.ti t,ρ x,ρ y with
  |some i,some a,some b=>Wc i.kind I a b
  |_,_,_=>none
 |.unOp I _ x=>match I,ρ x with
  |.not,some (.c (.bool b))=>some (.c (.bool (!b)))
  |.neg,some (.c (.int k n))=>some (.c (.int k (k.wrap (0-n))))
  |_,_=>none
 |.convert s d x=>match X.ti s,X.ti d,ρ x with
  |some _,some j,some (.c (.int _ n))=>match j.kind with
   |.int k=>some (.c (.int k (k.wrap n)))
   |_=>none
  |_,_,_=>none
 |.fieldAddr t x f=>match X.ti t,ρ x with
  |some i,some a=>match i.kind with
   |.struct Q=>match nth Q f with
    |some (off,_)=>match a with
     |.ptr k o=>some (.ptr k (o+off))
     |.c (.ip cs)=>match eu off cs with
      |some r=>some (.c (.ip r))
      |none=>none
     |_=>none
    |none=>none
   |_=>none
  |_,_=>none
 |.field t x f=>match X.ti t,ρ x with
  |some i,some a=>match i.kind with
   |.struct Q=>match nth Q f with
    |some (off,G)=>match X.ti G with
     |some j=>match a with
      |.agg cs=>match eu off cs with
       |some r=>lH j r
       |none=>none
      |.c (.agg cs)=>match eu off cs with
       |some r=>BX j r
       |none=>none
      |_=>none
     |none=>none
    |none=>none
   |_=>none
  |_,_=>none
 |.indexAddr t x W=>match X.ti t,ρ x,ρ W with
  |some i,some a,some n=>match asNat n with
   |some n=>match i.kind with
    |.slice e=>match X.ti e,rowsOf a with
     |some j,some (s,rows)=>match Nat.beq s j.size,nth rows n with
      |true,some r=>some (.c (.ip r.cells))
      |_,_=>none
     |_,_=>none
    |.arr m e=>match X.ti e,a,Nat.blt n m with
     |some j,.ptr k o,true=>some (.ptr k (o+n*j.size))
     |_,_,_=>none
    |_=>none
   |none=>none
  |_,_,_=>none
 |.index t x W=>match X.ti t,ρ x,ρ W with
  |some i,some a,some n=>match asNat n with
   |some n=>match i.kind,a with
    |.str,.c (.str s)=>match nth s n with
     |some b=>some (.c (.int .u8 b.toNat))
     |none=>none
    |_,_=>none
   |none=>none
  |_,_,_=>none
 |.extract x n=>match ρ x with
  |some (.eY cs)=>nth cs n
  |some (.c (.eY cs))=>match nth cs n with
   |some v=>some (.c v)
   |none=>none
  |_=>none
 |.build t S=>match X.ti t with
  |some i=>match i.kind,i.zero with
   |.struct Q,some (.agg z)=>match rW X ρ Q S.toList z with
    |some cells=>some (.agg cells)
    |none=>none
   |_,_=>none
  |none=>none
 |.slice t x H K T=>match X.ti t,ρ x,bound ρ H,bound ρ K,bound ρ T with
  |some i,some a,some H,some K,some T=>match i.kind with
   |.slice e=>match X.ti e with
    |some j=>Fk i.kind j.size a H K T
    |none=>none
   |_=>Fk i.kind 0 a H K T
  |_,_,_,_,_=>none
 |.makeFunc (.func f) first caps=>match first.toList,gO ρ caps.toList with
  |[],some l=>some (.c (.rR f l))
  |_,_=>none
 |.call {callee := .builtin .len,args,argTypes}=>match args.toList,argTypes.toList with
  |[x],[t]=>match X.ti t,ρ x with
   |some i,some a=>abg i.kind a
   |_,_=>none
  |_,_=>none
 |.call {callee := .builtin .min,args,argTypes:=_}=>ade (args.toList.map ρ)
 |.call {callee := .builtin .max,args,argTypes:=_}=>adf (args.toList.map ρ)
 |_=>none
section
variable {P : Program}{X : Ctx}{w : World}{g : Gh}
def wS{s:L UInt8}:(ByteArray.mk s.toArray).size=s.length:=by simp[ByteArray.size]
def extract_mk(s:L UInt8)(l h:Nat):(ByteArray.mk s.toArray).extract l h=⟨((s.take h).drop l).toArray⟩:=by
 apply ahx;simp[ByteArray.data_extract];rw[List.drop_take]
def iB{y n:Nat}(h:n<=y)(k:IntKind)(c:BoundsCode):(Instr.sliceBound (.int k (n:Int)) y c).run P w = .ok n w:=by
 simp[Instr.sliceBound,asIntOf,h]
def x8{a:AV}{n:Nat}(h:asNat a=some n){u:Value}(C:aL g a u):∃k,u = .int k (Int.ofNat n):=by
 unfold asNat at h;split at h
 ·simp at h;subst h;simp only[aL,Rel]at C;exact⟨_,C⟩
 ·simp at h
def fH(o:Option Value):Option Nat->Prop
 |none=>o=none
 |some n=>∃k,o=some (.int k (Int.ofNat n))
def pn{ρ:Operand->Option AV}{ev:Operand->Value}(u:∀x v,ρ x=some v->aL g v (ev x)){o:Option Operand}{r:Option Nat}
  (h:bound ρ o=some r):fH (o.map ev) r:=by
 unfold bound at h;split at h
 ·simp at h;subst h;simp[fH]
 ·rename_i x;split at h
  ·rename_i a ha;split at h
   ·rename_i n B;simp at h;subst h;obtain⟨k,e⟩:=x8 B (u x a ha);exact⟨k,by simp[e]⟩
   ·simp at h
  ·simp at h
def nL{G V h l:Nat}{H K:Option Value}(Y:Bool)(O:fH K (some h))(E:fH H (some l))(h1:h<=V)(h2:l<=h) :
  (Instr.sliceBounds Y G V H K none).run P w = .ok (l,h,V) w:=by
 obtain⟨k,rfl⟩:=O;obtain⟨k',rfl⟩:=E;simp[Instr.sliceBounds,iB h1,iB h2]
def mX{G V h:Nat}{H K:Option Value}(Y:Bool)(O:fH K (some h))(E:fH H none)(h1:h<=V) :
  (Instr.sliceBounds Y G V H K none).run P w = .ok (0,h,V) w:=by
 obtain⟨k,rfl⟩:=O;simp only[fH]at E;subst E;simp[Instr.sliceBounds,iB h1]
def lp{G V l:Nat}{H K:Option Value}(Y:Bool)(O:fH K none)(E:fH H (some l))(h2:l<=G) :
  (Instr.sliceBounds Y G V H K none).run P w = .ok (l,G,V) w:=by
 obtain⟨k,rfl⟩:=E;simp only[fH]at O;subst O;simp[Instr.sliceBounds,iB h2]
def lq{G V:Nat}{H K:Option Value}(Y:Bool)(O:fH K none)(E:fH H none) :
  (Instr.sliceBounds Y G V H K none).run P w = .ok (0,G,V) w:=by
 simp only[fH]at O E;subst O E;simp[Instr.sliceBounds]
def AS{G V h l m:Nat}{H K T:Option Value}(Y:Bool)(C:fH T (some m))(O:fH K (some h))(E:fH H (some l))
  (Q:m<=V)(h1:h<=m)(h2:l<=h) :
  (Instr.sliceBounds Y G V H K T).run P w = .ok (l,h,m) w:=by
 obtain⟨k,rfl⟩:=O;obtain⟨k',rfl⟩:=E;obtain⟨W,rfl⟩:=C;simp[Instr.sliceBounds,iB Q,iB h1,iB h2]
def qQ{G V h m:Nat}{H K T:Option Value}(Y:Bool)(C:fH T (some m))(O:fH K (some h))(E:fH H none)
  (Q:m<=V)(h1:h<=m) :
  (Instr.sliceBounds Y G V H K T).run P w = .ok (0,h,m) w:=by
 obtain⟨k,rfl⟩:=O;obtain⟨W,rfl⟩:=C;simp only[fH]at E;subst E;simp[Instr.sliceBounds,iB Q,iB h1]
def lK.cut{G:j8}{s:Nat}{base:Option Addr}{rows:L CV}{p:Nat}(E:p=rows.length)(h:lK G s base rows)(l C m:Nat)(h1:l<=C)(h2:C<=p)(V:C<=m) :
  lK G s (if m=l then base else base.map (·.add (l*s))) ((rows.take C).drop l):=by
 rcases h with rfl|⟨b,o,rfl,I⟩
 ·left;simp
 ·by_cases e:m=l
  ·left;simp;omega
  ·right;refine⟨b,o+l*s,by simp[e,Addr.add_lit],?_⟩;exact(I.take (n:=C)).drop
def ij(hX:cF P X){t e:Nat}{i j:TI}(K:X.ti t=some i)(D:i.kind = .slice e)(W:X.ti e=some j){base:Option Addr}{G V:Nat}{Y H T:Option Value}
  {l h m:Nat}(Q:∀w,(Instr.sliceBounds true G V Y H T).run P w = .ok (l,h,m) w) :
  (Instr.sliceAt t (.slice base G V) Y H T).run P w = .ok (.slice (if m=l then base else base.map (·.add (l*j.size))) (h-l) (m-l)) w:=by
 obtain⟨d,u,O,_⟩:=hX.run_underlying (w:=w) K;rw[D]at O;simp only[ff]at O;subst O;simp[Instr.sliceAt,Instr.slice,u,Q,hX.run_sizeOf W]
def He(hX:cF P X){t:Nat}{i:TI}(K:X.ti t=some i)(D:i.kind = .str){s:ByteArray}{Y H:Option Value}
  {l h m:Nat}(Q:∀w,(Instr.sliceBounds false s.size s.size Y H none).run P w = .ok (l,h,m) w) :
  (Instr.sliceAt t (.string s) Y H none).run P w = .ok (.string (s.extract l h)) w:=by
 obtain⟨d,u,O,_⟩:=hX.run_underlying (w:=w) K;rw[D]at O;simp only[ff]at O;subst O;simp[Instr.sliceAt,Instr.slice,u,Q]
end
end Go.cK
namespace Go.cK
section
variable {P : Program}{X : Ctx}{w : World}{g : Gh}
def Fl{a:AV}{s:Nat}{rows:L CV}(h:rowsOf a=some (s,rows)){u:Value}(C:aL g a u) :
  ∃base p V,u = .slice base p V/\p=rows.length/\p<=V/\lK g.G s base rows:=by
 unfold rowsOf at h;split at h
 ·simp at h;obtain⟨rfl,rfl⟩:=h;simp only[aL]at C;obtain⟨base,p,V,e,E,A,C,_⟩:=C;exact⟨base,p,V,e,E,A,C⟩
 ·simp at h;obtain⟨rfl,rfl⟩:=h;simp only[aL,Rel]at C;exact C
 ·simp at h
def qN.drop{s:Nat}{base:Option Addr}{G V l:Nat}:∀{k:Y2},qN g s base G V k->l<=G ->
  qN g s (if V=l then base else base.map (·.add (l*s))) (G-l) (V-l) k
 |.exact,h,_=>by simp only[qN]at h ⊢;omega
 |.tok p n,h,E=>by
  simp only[qN]at h ⊢;obtain⟨N,K,e,B,C⟩:=h;refine⟨N,K,e,B,λO=>?_⟩;rcases C O with C|⟨b,H,I,o,rfl,rfl,h1,h2,Y⟩
  ·left;omega
  ·by_cases A:V=l
   ·left;omega
   ·right;refine⟨b,H,I,o+l*s,Z,by simp[A,Addr.add_lit],?_,?_,bn⟩
    ·rw[h1];rw[ahn,<- afO];congr 2;omega
    ·rw[h2];rw[ahn,<- afO];congr 2;omega
def We{s:Nat}{rows:L CV}{H:Option Nat}{h:Nat}{ex:Bool}{v:AV}(e:Fj s rows H h ex=some v) :
  h<=rows.length/\H.getD 0<=h/\v=if ex then .own .exact s ((rows.take h).drop (H.getD 0))else .c (.sl s ((rows.take h).drop (H.getD 0))):=by
 unfold Fj at e;split at e
 ·rename_i W h1;obtain⟨rfl,E⟩:=qP h1;cases H with
  |none =>
   simp only at e;cases ex<;>simp at e<;>subst e<;>simp[E]
  |some l =>
   simp only at e;split at e
   ·rename_i r h2;obtain⟨rfl,Y⟩:=lM h2;have:l<=h:=by simp at Y;omega
    cases ex<;>simp at e<;>subst e<;>simp[E,this]
   ·simp at e
 ·simp at e
def Iq(hX:cF P X){t:Nat}{i:TI}(C:X.ti t=some i){es:Nat}(A:∀e,i.kind = .slice e->∃j,X.ti e=some j/\j.size=es)
  {x v:AV}{H B mx:Option Nat}(h:Fk i.kind es x H B mx=some v){u:Value}(hu:aL g x u)
  {T S M:Option Value}(Y:fH T H)(W:fH S B)(Q:fH M mx) :
  ∃r,(Instr.sliceAt t u T S M).run P w = .ok r w/\aL g v r:=by
 have cut:∀{e:Nat}{rows:L CV}{base:Option Addr}{U V:Nat}{O:Nat}{ex:Bool},i.kind = .slice e->U=rows.length->U<=V->lK g.G es base rows ->
   B=some O->(mx=if ex then some O else none)->Fj es rows H O ex=some v ->
   ∃r,(Instr.sliceAt t (.slice base U V) T S M).run P w = .ok r w/\aL g v r:=by
  intro e rows base U V O ex D p I N e1 e2 Px;obtain⟨j,K,J⟩:=A e D;obtain⟨c1,c2,c3⟩:=We Px;subst e1;cases ex with
  |false =>
   subst e2;simp only[fH]at Q;subst Q;have q:∀w,(Instr.sliceBounds true U V T S none).run P w = .ok (H.getD 0,O,V) w:=by
    intro w;cases H with
    |none=>exact mX true W Y bn
    |some l=>exact nL true W Y bn (by simpa using c2)
   refine⟨_,ij hX C D K q,?_⟩;rw[c3,J];simp only[Bool.false_eq_true,aft,aL,Rel];exact⟨_,_,_,Z,ob,bn,(lK.cut p N (H.getD 0) O V c2 bn bn)⟩
  |true =>
   subst e2;have q:∀w,(Instr.sliceBounds true U V T S M).run P w = .ok (H.getD 0,O,O) w:=by
    intro w;cases H with
    |none=>exact qQ true Q W Y bn bn
    |some l=>exact AS true Q W Y bn bn (by simpa using c2)
   refine⟨_,ij hX C D K q,?_⟩;rw[c3,J];simp only[aL,if_true];exact⟨_,_,_,Z,ob,bn,(lK.cut p N (H.getD 0) O O c2 bn bn),Z⟩
 unfold Fk at h;split at h
 ·
  rename_i D;rename_i s;simp only[aL,Rel]at hu;subst hu;split at h
  ·simp at h
  ·simp only[fH]at Q;subst Q;have fin:∀{l h':Nat},(∀w,(Instr.sliceBounds false (ByteArray.mk s.toArray).size (ByteArray.mk s.toArray).size T S none).run P w = .ok (l,h',(ByteArray.mk s.toArray).size) w) ->
     v = .c (.str ((s.take h').drop l))->∃r,(Instr.sliceAt t (.string ⟨s.toArray⟩) T S none).run P w = .ok r w/\aL g v r:=by
    intro l h' q e;refine⟨_,He hX C D q,?_⟩;rw[e,extract_mk];simp[aL,Rel]
   cases B with
   |none =>
    simp only at h;cases H with
    |none =>
     simp at h;subst h;exact fin (λw=>lq false W Y) (by simp[wS])
    |some l =>
     simp only at h;split at h
     ·rename_i r hr;obtain⟨rfl,hl⟩:=lM hr;simp at h;subst h;exact fin (λw=>lp false W Y (by rw[wS];exact hl)) (by simp[wS])
     ·simp at h
   |some O =>
    simp only at h;split at h
    ·rename_i s1 td;obtain⟨rfl,Lb⟩:=qP td;cases H with
     |none =>
      simp at h;subst h;exact fin (λw=>mX false W Y (by rw[wS];exact Lb)) cS
     |some l =>
      simp only at h;split at h
      ·rename_i r hr;obtain⟨rfl,hl⟩:=lM hr;simp at h;subst h;exact fin (λw=>nL false W Y (by rw[wS];exact Lb) (by simp at hl;omega)) cS
      ·simp at h
    ·simp at h
 ·
  rename_i e o s rows D;simp only[aL]at hu;obtain⟨base,U,V,rfl,p,I,N,E⟩:=hu;split at h
  ·simp at h
  ·rename_i hs;have:=beq_true hs;subst this;obtain⟨j,K,J⟩:=A e D;split at h
   ·simp only[fH]at Q;subst Q;split at h
    ·rename_i l;split at h
     ·rename_i r hr;obtain⟨rfl,hl⟩:=lM hr;simp at h;subst h;refine⟨_,ij hX C D K (λw=>lp true W Y bn),?_⟩;rw[J];simp only[aL];refine⟨_,_,_,Z,ob,bn,?_,E.drop bn⟩;have:=lK.cut p N l U V bn (aaj _) I;rwa[afC bn]at this
     ·simp at h
    ·simp at h;subst h;refine⟨_,ij hX C D K (λw=>lq true W Y),?_⟩;rw[J];simp only[aL];refine⟨_,_,_,Z,ob,bn,?_,E.drop bn⟩;have:=lK.cut p N 0 U V bn (aaj _) I;rwa[afC bn]at this
   ·simp_all
   ·split at h
    ·simp_all
    ·simp at h
   ·simp at h
 ·rename_i e s rows D;simp only[aL,Rel]at hu;obtain⟨base,U,V,rfl,p,I,N⟩:=hu;split at h
  ·simp at h
  ·rename_i hs;have:=beq_true hs;subst this;obtain⟨j,K,J⟩:=A e D;split at h
   ·simp only[fH]at Q;subst Q;split at h
    ·rename_i l;split at h
     ·rename_i r hr;obtain⟨rfl,hl⟩:=lM hr;simp at h;subst h;refine⟨_,ij hX C D K (λw=>lp true W Y bn),?_⟩;rw[J];simp only[aL,Rel];refine⟨_,_,_,Z,ob,bn,?_⟩;have:=lK.cut p N l U V bn (aaj _) I;rwa[afC bn]at this
     ·simp at h
    ·simp at h;subst h;refine⟨_,ij hX C D K (λw=>lq true W Y),?_⟩;rw[J];simp only[aL,Rel];refine⟨_,_,_,Z,ob,bn,?_⟩;have:=lK.cut p N 0 U V bn (aaj _) I;rwa[afC bn]at this
   ·exact cut D p I N Z Z h
   ·split at h
    ·rename_i q;have:=beq_true q;subst this;exact cut (ex:=true) D p I N Z Z h
    ·simp at h
   ·simp at h
 ·simp at h
end
end Go.cK
namespace Go.cK
def pq:∀{off:Nat}{vs l r:L AV},bV off vs l=some r ->
  r.length=l.length/\off+vs.length<=l.length+(if vs=[]then off else 0)/\∀(j:Nat),r[j]?=if off<=j/\j<off+vs.length then vs[j-off]? else l[j]?
 |off,[],l,r,h=>by
  cases off<;>simp[bV]at h<;>subst h<;>simp<;>intros<;>omega
 |0,v::vs,[],r,h=>by simp[bV]at h
 |0,v::vs,x::l,r,h=>by
  simp only[bV]at h;split at h
  ·rename_i Y C;simp at h;subst h;obtain⟨h1,h2,V⟩:=pq C;refine⟨abu,?_,?_⟩
   ·simp_all
   ·grind
  ·simp at h
 |n+1,v::vs,[],r,h=>by simp[bV]at h
 |n+1,v::vs,x::l,r,h=>by
  simp only[bV]at h;split at h
  ·rename_i Y C;simp at h;subst h;obtain⟨h1,h2,V⟩:=pq C;refine⟨abu,?_,?_⟩
   ·simp at h2 ⊢;omega
   ·grind
  ·simp at h
def Py{off:Nat}{v:AV}{vs l r:L AV}(h:bV off (v::vs) l=some r):off+(v::vs).length<=l.length:=by
 have:=(pq h).2.1;simpa using this
section
variable {P : Program}{X : Ctx}{w : World}{g : Gh}
def x9{a:AV}{vs:L AV}(h:jA a=some vs){u:Value}(C:aL g a u) :
  bJ g vs u.cells.toList/\vs.all AV.one=true:=by
 have Y:∀(cs:L CV)(us:L Value),bR g.G cs us->cs.all CV.one=true->bJ g (cs.map AV.c) us/\(cs.map AV.c).all AV.one=true:=by
  intro cs
  induction cs with
  |nil=>intro us h1 _;simp only[bR]at h1;subst h1;simp[bJ]
  |cons c cs U =>
   intro us h1 h2;simp only[bR]at h1;obtain⟨u,us,rfl,A,C⟩:=h1;simp at h2;obtain⟨T,S⟩:=U us C (by simpa using h2.2);exact⟨by simp only[aed,bJ];exact⟨u,us,Z,by simpa only[aL]using A,T⟩,by simp only[aed,aeL,AV.one,h2.1,aeR];exact S⟩
 cases a with
 |c v =>
  have W:∀(v:CV)(u:Value),v.one=true->Rel g.G v u->bJ g [.c v] u.cells.toList/\([AV.c v].all AV.one=true):=by
   intro v u K C;have A:u.cells.toList=[u]:=by
    cases v<;>simp only[Rel]at C<;>simp[CV.one]at K
    case int=>subst C;rfl
    case bool=>subst C;rfl
    case str=>subst C;rfl
    case mw=>subst C;rfl
    case sl=>obtain⟨_,_,_,rfl,_⟩:=C;rfl
    case ip=>obtain⟨_,_,rfl,_⟩:=C;rfl
    case rR=>obtain⟨_,rfl,_⟩:=C;rfl
    case any =>
     cases u<;>first|rfl|(exact absurd Z (C.1 _))
    case r8=>obtain⟨_,rfl⟩:=C;rfl
   rw[A];exact⟨by simp only[bJ,aL];exact⟨u,[],Z,C,Z⟩,by simp[AV.one,K]⟩
  simp only[aL]at C;cases v<;>simp only[jA,BU,aeO,reduceCtorEq]at h
  case agg cs =>
   subst h;simp only[Rel]at C;obtain⟨us,rfl,h1,h2⟩:=C;have:=Y cs us h1 h2;simpa[Value.cells]using this
  all_goals (subst h;exact W _ _ rfl C)
 |own k s rows =>
  simp[jA]at h;subst h;have M:=C;simp only[aL]at M;obtain⟨base,Q,V,rfl,_⟩:=M;refine⟨?_,Z⟩;simp only[Value.cells,bJ];exact⟨_,[],Z,C,Z⟩
 |ptr p off =>
  simp[jA]at h;subst h;have M:=C;simp only[aL]at M;obtain⟨b,_,rfl⟩:=M;refine⟨?_,Z⟩;simp only[Value.cells,bJ];exact⟨_,[],Z,C,Z⟩
 |gS p off s n =>
  simp[jA]at h;subst h;have M:=C;simp only[aL]at M;obtain⟨b,V,o,_,rfl,_⟩:=M;refine⟨?_,Z⟩;simp only[Value.cells,bJ];exact⟨_,[],Z,C,Z⟩
 |any =>
  simp[jA]at h;subst h;have M:=C;simp only[aL]at M;have A:u.cells.toList=[u]:=by
   cases u<;>first|rfl|exact absurd Z (M.1 _)
  rw[A];refine⟨?_,Z⟩;simp only[bJ];exact⟨_,[],Z,C,Z⟩
 |agg cs =>
  simp[jA]at h;subst h;simp only[aL]at C;obtain⟨us,rfl,h1,h2⟩:=C;exact⟨by simpa[Value.cells]using h1,h2⟩
 |eY cs=>simp[jA]at h
def Fm(off:Nat):∀(l:L Value)(k:Nat)(cells:Array Value),off+k+l.length<=cells.size ->
  ((l.zipIdx k).foldl (λ(cs:Array Value)(p:Value×Nat)=>cs.setIfInBounds (off+p.2) p.1) cells).size=cells.size /\
  ∀j,((l.zipIdx k).foldl (λ(cs:Array Value)(p:Value×Nat)=>cs.setIfInBounds (off+p.2) p.1) cells)[j]? =
   if off+k<=j/\j<off+k+l.length then l[j-(off+k)]? else cells[j]?
 |[],k,cells,_=>by simp;intros;omega
 |v::l,k,cells,h=>by
  simp only[afx,List.foldl_cons];obtain⟨h1,h2⟩:=Fm off l (k+1) (cells.setIfInBounds (off+k) v) (by simp at h ⊢;omega);refine⟨by rw[h1];simp,λj=>?_⟩;rw[h2];by_cases A:off+(k+1)<=j/\j<off+(k+1)+l.length
  ·grind
  ·grind
def Fo(hX:cF P X){ρ:Operand->Option AV}{ev:Operand->Value}(u:∀x v,ρ x=some v->aL g v (ev x)){Q:L (Nat×Nat)}(Y:Nat->Option (Nat×Nat))
  (V:∀i off G j,nth Q i=some (off,G)->X.ti G=some j->Y i=some (off,j.size)) :
  ∀{S:L (Nat×Operand)}{cells r:L AV}{vs:Array Value},rW X ρ Q S cells=some r->bJ g cells vs.toList->cells.all AV.one=true ->
   ∃us,Instr.fill Y vs (S.map λ(i,x)=>(i,ev x))=some us/\bJ g r us.toList/\r.all AV.one=true
 |[],cells,r,vs,h,C,K=>by simp[rW]at h;subst h;exact⟨vs,by simp[Instr.fill],C,K⟩
 |(i,x)::rest,cells,r,vs,h,C,K=>by
  simp only[rW]at h;split at h
  ·rename_i off G a h1 h2;split at h
   ·rename_i j us U N;split at h
    ·rename_i cells' M q;have A:=beq_true M;obtain⟨T,W⟩:=x9 N (u x a h2);have O:us.length=(ev x).cells.size:=by rw[(bJ.get T).1];simp
     have J:j.size≠0:=by obtain⟨_,_,_,_,_,_,I⟩:=hX.ti G j U;exact I
     obtain⟨H,c2⟩:=bJ.get C;obtain⟨w1,w2,E⟩:=pq q;have B:off+us.length<=cells.length:=by grind
     have hvs:cells.length=vs.size:=by rw[H];simp
     obtain⟨f1,f2⟩:=Fm off (ev x).cells.toList 0 vs ob;have hf:Instr.fill Y vs (((i,x)::rest).map λ(i,x)=>(i,ev x)) =
       Instr.fill Y ((ev x).cells.zipIdx.foldl (λcs (c,j)=>cs.setIfInBounds (off+j) c) vs) (rest.map λ(i,x)=>(i,ev x)):=by
      simp only[aed,Instr.fill,V i off G j h1 U];rw[if_neg];simp;omega
     have Wg:(ev x).cells.zipIdx.foldl (λcs (c,j)=>cs.setIfInBounds (off+j) c) vs =
       ((ev x).cells.toList.zipIdx 0).foldl (λ(cs:Array Value)(p:Value×Nat)=>cs.setIfInBounds (off+p.2) p.1) vs:=by
      rw[<- Array.foldl_toList];simp
     rw[hf,Wg];obtain⟨a1,a2⟩:=bJ.get T;apply Fo hX u Y V h
     ·apply bJ.kV
      ·simp_all
      ·grind
     ·rw[afn]at K W ⊢;intro y hy;obtain⟨k,D⟩:=afS hy;rw[E]at D;split at D
      ·grind
      ·grind
    ·simp at h
   ·simp at h
  ·simp at h
end
end Go.cK
namespace Go.cK
section
variable {P : Program}{X : Ctx}{w : World}{g : Gh}
def tP:(∀(a:AV)(v:CV)(u:Value),close a=some v->aL g a u->Rel g.G v u/\(a.one=true->v.one=true)):=by
 intro a;refine AV.rec (motive_1:=λa=>∀(v:CV)(u:Value),close a=some v->aL g a u->Rel g.G v u/\(a.one=true->v.one=true))
  (motive_2:=λl=>∀(vs:L CV)(us:L Value),pO l=some vs->bJ g l us->bR g.G vs us/\(l.all AV.one=true->vs.all CV.one=true)/\vs.length=l.length) ?_ ?_ ?_ ?_ ?_ ?_ ?_ ?_ ?_ a
 ·intro v w' u h C;simp[close]at h;subst h;exact⟨by simpa only[aL]using C,id⟩
 ·intro k s rows v u h C;simp[close]at h;subst h;simp only[aL]at C;obtain⟨base,p,V,rfl,h1,h2,Q,_⟩:=C;exact⟨by simp only[Rel];exact⟨base,p,V,Z,h1,h2,Q⟩,λ_=>rfl⟩
 ·intro Y off v u h;simp[close]at h
 ·intro Y off s n v u h;simp[close]at h
 ·intro v u h;simp[close]at h
 ·intro cs W v u h C;simp only[close]at h;split at h
  ·rename_i l E;simp at h;subst h;simp only[aL]at C;obtain⟨us,rfl,h1,h2⟩:=C;obtain⟨K,S,_⟩:=W l us E h1;exact⟨by simp only[Rel];exact⟨us,Z,K,S h2⟩,λh=>by simp[AV.one]at h⟩
  ·simp at h
 ·intro cs W v u h C;simp only[close]at h;split at h
  ·rename_i l E;simp at h;subst h;simp only[aL]at C;obtain⟨us,rfl,h1,h2⟩:=C;obtain⟨K,S,D⟩:=W l us E h1;exact⟨by simp only[Rel];exact⟨us,Z,K,bn⟩,λh=>by simp[AV.one]at h⟩
  ·simp at h
 ·intro vs us h C;simp[pO]at h;subst h;simp only[bJ]at C;subst C;simp[bR]
 ·intro a l U T vs us h C;simp only[pO]at h;split at h
  ·rename_i v P;split at h
   ·rename_i r M;simp at h;subst h;simp only[bJ]at C;obtain⟨u,us,rfl,h1,h2⟩:=C;obtain⟨O,a2⟩:=U v u P h1;obtain⟨B,q,N⟩:=T r us M h2;refine⟨by simp only[bR];exact⟨u,us,Z,O,B⟩,λh=>?_,by simp[N]⟩;simp only[aeL,aai]at h ⊢;exact⟨a2 h.1,q h.2⟩
   ·simp at h
  ·simp at h
def oF{ρ:Operand->Option AV}{ev:Operand->Value}(u:∀x v,ρ x=some v->aL g v (ev x)) :
  ∀{l:L Operand}{r:L CV},gO ρ l=some r->bR g.G r (l.map ev)
 |[],r,h=>by simp[gO]at h;subst h;simp[bR]
 |x::l,r,h=>by
  simp only[gO]at h;split at h
  ·rename_i a ha;split at h
   ·rename_i v Y;split at h
    ·rename_i C M;simp at h;subst h;simp only[aed,bR];exact⟨_,_,Z,(tP a v _ Y (u x a ha)).1,oF u M⟩
    ·simp at h
   ·simp at h
  ·simp at h
def B0{α:Type}{cs rest:List α}{off:Nat}{c:α}(h:cs.drop off=c::rest):cs[off]?=some c:=by
 have:=aeb (λl=>l[0]?) h;simpa using this
def Fq(hX:cF P X){t:Nat}{i:TI}(K:X.ti t=some i){vs:Array Value}{off:Nat}{r:AV}
  (h:(∃cs rest,bJ g cs vs.toList/\cs.all AV.one=true/\eu off cs=some rest/\lH i rest=some r) \/
   (∃cs rest,bR g.G cs vs.toList/\cs.all CV.one=true/\eu off cs=some rest/\BX i rest=some r)) :
  ∃u,(part t vs off).run P w = .ok u w/\aL g r u:=by
 have T:i.size≠0:=by obtain⟨_,_,_,_,_,_,O⟩:=hX.ti t i K;exact O
 rcases h with ⟨cs,rest,h1,h2,V,S⟩|⟨cs,rest,h1,h2,V,S⟩
 ·obtain⟨rfl,E⟩:=lM V;obtain⟨U,H⟩:=bJ.get h1;unfold lH at S;cases ha:i.isAgg<;>rw[ha]at S<;>simp only at S
  ·split at S
   ·rename_i c Y B;simp at S;subst S;have p:cs[off]?=some c:=B0 B;obtain⟨u,I,q⟩:=H off c p;refine⟨u,?_,q⟩;have:vs[off]?=some u:=by simpa using I
    simp[part,hX.qt K,ha,this]
   ·simp at S
  ·split at S
   ·rename_i l W;simp at S;subst S;obtain⟨rfl,Q⟩:=qP W;refine⟨.agg (vs.extract off (off+i.size)),by simp[part,hX.qt K,ha,hX.run_sizeOf K],?_⟩;simp only[aL];refine⟨(vs.extract off (off+i.size)).toList,Z,?_,?_⟩
    ·apply bJ.kV
     ·simp_all
     ·grind
    ·grind
   ·simp at S
 ·obtain⟨rfl,E⟩:=lM V;obtain⟨U,H⟩:=bR.get h1;unfold BX at S;cases ha:i.isAgg<;>rw[ha]at S<;>simp only at S
  ·split at S
   ·rename_i c Y B;simp at S;subst S;have p:cs[off]?=some c:=B0 B;obtain⟨u,I,q⟩:=H off c p;refine⟨u,?_,by simpa only[aL]using q⟩;have:vs[off]?=some u:=by simpa using I
    simp[part,hX.qt K,ha,this]
   ·simp at S
  ·split at S
   ·rename_i l W;simp at S;subst S;obtain⟨rfl,Q⟩:=qP W;refine⟨.agg (vs.extract off (off+i.size)),by simp[part,hX.qt K,ha,hX.run_sizeOf K],?_⟩;simp only[aL,Rel];refine⟨(vs.extract off (off+i.size)).toList,Z,?_,?_⟩
    ·apply bR.kV
     ·simp_all
     ·grind
    ·grind
   ·simp at S
end
end Go.cK
namespace Go.cK
section
variable {P : Program}{X : Ctx}{w : World}{g : Gh}
def CW(hX:cF P X){t:Nat}{i:TI}(K:X.ti t=some i){Q:L (Nat×Nat)}(D:i.kind = .struct Q){f off G:Nat}(hf:nth Q f=some (off,G))(b o:Nat) :
  (Instr.fieldAt t (.pointer (some ⟨b,o,none⟩)) f).run P w = .ok (.pointer (some ⟨b,o+off,none⟩)) w:=by
 obtain⟨d,u,O,_⟩:=hX.run_underlying (w:=w) K;rw[D]at O;simp only[ff]at O;obtain⟨Y,rfl,h1,h2⟩:=O;rw[sO,<- h1]at hf;simp at hf;obtain⟨V,I,q,S⟩:=hf;have W:V∈Y.toList:=by rw[ahF];exact Array.mem_of_getElem? I
 obtain⟨U,E,T⟩:=h2 V W;simp[Instr.fieldAt,u,I,Instr.sureAddr,fieldPlace,sizeOf,typeInfo,E,T,q,Addr.add_lit]
def Ir(hX:cF P X){t:Nat}{i:TI}(K:X.ti t=some i){Q:L (Nat×Nat)}(D:i.kind = .struct Q){f off G:Nat}(hf:nth Q f=some (off,G))(vs:Array Value) :
  (Instr.field t (.agg vs) f).run P w=(part G vs off).run P w:=by
 obtain⟨d,u,O,_⟩:=hX.run_underlying (w:=w) K;rw[D]at O;simp only[ff]at O;obtain⟨Y,rfl,h1,h2⟩:=O;rw[sO,<- h1]at hf;simp at hf;obtain⟨U,I,W,V⟩:=hf;simp[Instr.field,u,I,asAgg,W,V]
def vC(hX:cF P X):∀(Y:L Field),(∀f∈Y,∃D,P.info? f.type=some D/\D.size≠0) ->
  ∃U:L (Nat×Nat),(Y.mapM (m:=Sem) λf=>do pure (f.offset,<- sizeOf f.type)).run P w = .ok U w/\U.length=Y.length /\
   ∀(k:Nat)(f:Field),Y[k]?=some f->∃D,P.info? f.type=some D/\U[k]?=some (f.offset,D.size)
 |[],_=>⟨[],cS,Z,cS⟩
 |f::Y,h=>by
  obtain⟨D,I,W⟩:=h f cS;obtain⟨U,h1,h2,V⟩:=vC hX Y (λf hf=>h f (by simp[hf]));refine⟨(f.offset,D.size)::U,?_,by simp[h2],?_⟩
  ·simp only[ahu,Sem.run_bind,sizeOf,typeInfo,run_program,Result.andThen_ok,I,Sem.run_pure];simp only[sizeOf,typeInfo]at h1;rw[h1];rfl
  ·grind
def run_build(hX:cF P X){t:Nat}{i:TI}(K:X.ti t=some i){Q:L (Nat×Nat)}(D:i.kind = .struct Q){z r:L AV}(N:i.zero=some (.agg z))
  {ρ:Operand->Option AV}{ev:Operand->Value}(J:∀x v,ρ x=some v->aL g v (ev x)){S:Array (Nat×Operand)}
  (h:rW X ρ Q S.toList z=some r) :
  ∃u,(Instr.build t (S.map λ(i,x)=>(i,ev x))).run P w = .ok u w/\aL g (.agg r) u:=by
 obtain⟨d,M,O,_⟩:=hX.run_underlying (w:=w) K;rw[D]at O;simp only[ff]at O;obtain⟨Y,rfl,h1,h2⟩:=O;obtain⟨zv,G,H,z3⟩:=hX.mK (w:=w) K N;have V:=H g;simp only[aL]at V;obtain⟨A,rfl,E,C⟩:=V;obtain⟨U,B,p2,q⟩:=vC (P:=P) (w:=w) hX Y.toList h2
 obtain⟨us,p,f2,f3⟩:=Fo hX J (λ(i:Nat)=>U[i]?) (by
  intro i off ft j I e2;rw[sO,<- h1]at I;simp at I;obtain⟨fl,e3,e4,e5⟩:=I;obtain⟨inf,T,e7⟩:=q i fl (by simpa using e3);obtain⟨aiq,W,e9,_⟩:=hX.ti ft j e2;rw[e5]at T;rw[T]at W;simp at W;subst W
  simp[e7,e4,e9]) (vs:=A.toArray) h (by simpa using E) C
 refine⟨.agg us,?_,aby⟩;simp only[Instr.build,Sem.run_bind,G,Result.andThen_ok,M,Value.cells]
 rw[show(Y.mapM (m:=Sem) λf=>do pure (f.offset,<- sizeOf f.type))=(Y.toList.mapM λf=>do pure (f.offset,<- sizeOf f.type)) >>= λl=>pure l.toArray from by
  rw[agK];rfl]
 simp only[Sem.run_bind,B,Result.andThen_ok,Sem.run_pure];have:(λ(i:Nat)=>(U.toArray[i]?:Option (Nat×Nat)))=λ(i:Nat)=>U[i]?:=by funext i;simp
 rw[this];simp only[aeY];rw[p];rfl
def we{g:Gh}{k:IntKind}{n:Int}{u:Value}(h:aL g (.c (.int k n)) u):u = .int k n:=by simpa only[aL,Rel]using h
def Y7(hX:cF P X){t:Nat}{i:TI}(K:X.ti t=some i){a v:AV}(h:abg i.kind a=some v){u:Value}(U:aL g a u)(ty:TypeId) :
  ∃r,(Builtin.len_ #[t] ty #[u]).run P w = .ok r w/\aL g v r:=by
 obtain⟨d,Y,O,_⟩:=hX.run_underlying (w:=w) K;unfold abg at h;split at h
 ·rename_i e o s rows D;rw[D]at O;simp only[ff]at O;subst O;simp at h;subst h;simp only[aL]at U;obtain⟨base,G,V,rfl,E,_⟩:=U;exact⟨.int .i64 G,aco,by simp[aL,Rel,E]⟩
 ·rename_i e p off s n D;rw[D]at O;simp only[ff]at O;subst O;simp at h;subst h;simp only[aL]at U;obtain⟨b,V,o,_,rfl,_⟩:=U;exact⟨.int .i64 n,aco,q6⟩
 ·rename_i e s rows D;rw[D]at O;simp only[ff]at O;subst O;simp at h;subst h;simp only[aL,Rel]at U;obtain⟨base,G,V,rfl,E,_⟩:=U;exact⟨.int .i64 G,aco,by simp[aL,Rel,E]⟩
 ·rename_i s D;rw[D]at O;simp only[ff]at O;subst O;simp at h;subst h;simp only[aL,Rel]at U;subst U;exact⟨.int .i64 s.length,by simp[Builtin.len_,Y,goInt,wS],q6⟩
 ·rename_i n e D;rw[D]at O;simp only[ff]at O;subst O;simp at h;subst h;exact⟨.int .i64 n,by cases u<;>simp[Builtin.len_,Y,goInt],q6⟩
 ·simp at h
end
end Go.cK
namespace Go.cK
section
variable {P : Program}{X : Ctx}{w : World}{g : Gh}
def MN(hX:cF P X){U:L (Nat×L AV)}
  (iW:∀b o v,g.G b o=some v->w.cell? ⟨b,o,none⟩=some v)
  (adh:∀k cs,an k U=some cs->∃b,g.box k=some b/\cB w g b 0 cs)
  {ρ:Operand->Option AV}{ev:Operand->Value}(J:∀x v,ρ x=some v->aL g v (ev x)){o:Oper}{v:AV}(h:gy X U ρ o.op=some v) :
  ∃u,(execOp ev o).run P w = .ok (.value u) w/\aL g v u:=by
 have fin:∀{s:Sem Value},(∃u,s.run P w = .ok u w/\aL g v u)->∃u,(do pure (Next.value (<- s)):Sem Next).run P w = .ok (.value u) w/\aL g v u:=by simp_all
 have adi:∀{b n:Nat}{cs r:L AV},cB w g b 0 cs->eu n cs=some r->cB w g b n r:=by
  intro b n cs r h1 h2;obtain⟨rfl,_⟩:=lM h2;apply cB.kV;intro j c T;rw[agk]at T;simpa using h1.get (n+j) c T
 obtain⟨dst,op,type,pos,after,guard⟩:=o;simp only at h;unfold gy at h;split at h
 ·rename_i x;exact⟨ev x,by simp[execOp],J x v h⟩
 ·rename_i x;exact⟨ev x,by simp[execOp],J x v h⟩
 ·rename_i c a b;split at h
  ·rename_i t av bv h1 h2 S;have A:=J c _ h1;simp only[aL,Rel]at A;have ha:=J a _ h2;have Q:=J b _ S;refine⟨if t then ev a else ev b,by simp[execOp,A,asBool],?_⟩;unfold Z5 at h;split at h
   ·grind
   ·grind
  ·simp at h
 ·rename_i t x;split at h
  ·rename_i i key off h1 h2;have O:=J x _ h2;simp only[aL]at O;obtain⟨b,Q,O⟩:=O;split at h
   ·rename_i cells jz;split at h
    ·rename_i l E;obtain⟨b',C,hcw⟩:=adh key cells jz;rw[Q]at C;simp at C;subst C;simp only[execOp];rw[O];exact fin (Wa hX h1 (adi hcw E) h)
    ·simp at h
   ·simp at h
  ·rename_i i cs h1 h2;have O:=J x _ h2;simp only[aL,Rel]at O;obtain⟨b,o,O,A⟩:=O;simp only[execOp];rw[O];exact fin (Tu hX iW h1 A h)
  ·simp at h
 ·rename_i x;split at h
  ·rename_i k o h1;have O:=J x _ h1;simp at h;subst h;have W:=O;simp only[aL]at W;obtain⟨b,Q,e⟩:=W;exact⟨ev x,by simp[execOp,e],O⟩
  ·rename_i cs h1;have O:=J x _ h1;simp at h;subst h;have W:=O;simp only[aL,Rel]at W;obtain⟨b,o,e,_⟩:=W;exact⟨ev x,by simp[execOp,e],O⟩
  ·rename_i f cs h1;have O:=J x _ h1;simp at h;subst h;have W:=O;simp only[aL,Rel]at W;obtain⟨vs,e,_⟩:=W;exact⟨ev x,by simp[execOp,e],O⟩
  ·simp at h
 ·rename_i op t x y _;split at h
  ·rename_i i a b h1 h2 S;exact fin (Y6 hX h1 h (J x _ h2) (J y _ S) x y)
  ·simp at h
 ·rename_i op _ x;split at h
  ·rename_i b h1;have O:=J x _ h1;simp only[aL,Rel]at O;simp at h;subst h;exact⟨.bool !b,by simp[execOp,O,Op.unary],q6⟩
  ·rename_i k n h1;have O:=J x _ h1;simp only[aL,Rel]at O;simp at h;subst h;exact⟨.int k (k.wrap (0-n)),by simp[execOp,O,Op.unary,Op.intArith],q6⟩
  ·simp at h
 ·rename_i s d x;split at h
  ·rename_i i j k n h1 h2 S;have O:=J x _ S;simp only[aL,Rel]at O;split at h
   ·rename_i k' Y;simp at h;subst h;obtain⟨d1,I,_,q⟩:=hX.run_underlying (w:=w) h1;obtain⟨d2,e3,e4,e5⟩:=hX.run_underlying (w:=w) h2;rw[Y]at e4;simp only[ff]at e4;subst e4;exact⟨.int k' (k'.wrap n),by simp[execOp,O,convert,I,e3,Conv.intToInt],q6⟩
   ·simp at h
  ·simp at h
 ·rename_i t x f;split at h
  ·rename_i i a h1 h2;have O:=J x _ h2;split at h
   ·rename_i fs Y;split at h
    ·rename_i off ft hf;split at h
     ·rename_i k o;simp at h;subst h;simp only[aL]at O;obtain⟨b,Q,e⟩:=O;exact⟨_,by simp[execOp,e,CW hX h1 Y hf];rfl,by simp only[aL];exact⟨b,Q,Z⟩⟩
     ·rename_i cs;split at h
      ·rename_i r hr;simp at h;subst h;simp only[aL,Rel]at O;obtain⟨b,o,e,A⟩:=O;obtain⟨rfl,_⟩:=lM hr;exact⟨_,by simp[execOp,e,CW hX h1 Y hf];rfl,by simp only[aL,Rel];exact⟨b,o+off,Z,A.drop⟩⟩
      ·simp at h
     ·simp at h
    ·simp at h
   ·simp at h
  ·simp at h
 ·rename_i t x f;split at h
  ·rename_i i a h1 h2;have O:=J x _ h2;split at h
   ·rename_i fs Y;split at h
    ·rename_i off ft hf;split at h
     ·rename_i j T;split at h
      ·rename_i cs;split at h
       ·rename_i r hr;simp only[aL]at O;obtain⟨vs,e,c1,c2⟩:=O;have:=Fq (P:=P) (w:=w) hX T (vs:=vs.toArray) (off:=off) (.inl ⟨cs,r,by simpa using c1,c2,hr,h⟩);simp only[execOp,e];refine fin ?_;rw[Ir hX h1 Y hf];exact this
       ·simp at h
      ·rename_i cs;split at h
       ·rename_i r hr;simp only[aL,Rel]at O;obtain⟨vs,e,c1,c2⟩:=O;have:=Fq (P:=P) (w:=w) hX T (vs:=vs.toArray) (off:=off) (.inr ⟨cs,r,by simpa using c1,c2,hr,h⟩);simp only[execOp,e];refine fin ?_;rw[Ir hX h1 Y hf];exact this
       ·simp at h
      ·simp at h
     ·simp at h
    ·simp at h
   ·simp at h
  ·simp at h
 ·rename_i t x ix;split at h
  ·rename_i i a na h1 h2 S;have O:=J x _ h2;have B:=J ix _ S;split at h
   ·rename_i n hn';obtain⟨k,B⟩:=x8 hn' B;obtain⟨d,jQ,M,_⟩:=hX.run_underlying (w:=w) h1;split at h
    ·rename_i e Y;rw[Y]at M;simp only[ff]at M;subst M;split at h
     ·rename_i j s rows T hr;split at h
      ·rename_i r Q abj;have:=beq_true Q;subst this;simp at h;subst h;obtain⟨base,len,cap,I,q,_,e3⟩:=Fl hr O;rw[sO]at abj;have p:n<rows.length:=(List.getElem?_eq_some_iff.1 abj).1;rcases e3 with rfl|⟨b,o,rfl,gw⟩
       ·simp at p
       ·have hg:=(gw.get n r abj).1;refine⟨.pointer (some ⟨b,o+n*j.size,none⟩),?_,by simp only[aL,Rel];exact⟨b,_,Z,hg⟩⟩;simp[execOp,I,B,Instr.indexAt,asIntOf,jQ,q,p,hX.run_sizeOf T,Addr.add_lit]
      ·simp at h
     ·simp at h
    ·rename_i m e Y;rw[Y]at M;simp only[ff]at M;subst M;split at h
     ·rename_i j k' o T hlt';simp at h;subst h;have p:n<m:=by simpa[afj]using hlt'
      simp only[aL]at O;obtain⟨b,Q,I⟩:=O;refine⟨.pointer (some ⟨b,o+n*j.size,none⟩),?_,by simp only[aL];exact⟨b,Q,Z⟩⟩;simp[execOp,I,B,Instr.indexAt,asIntOf,jQ,Instr.sureAddr,p,hX.run_sizeOf T,Addr.add_lit]
     ·simp at h
    ·simp at h
   ·simp at h
  ·simp at h
 ·rename_i t x ix;split at h
  ·rename_i i a na h1 h2 S;have O:=J x _ h2;have B:=J ix _ S;split at h
   ·rename_i n hn';obtain⟨k,B⟩:=x8 hn' B;obtain⟨d,jQ,M,_⟩:=hX.run_underlying (w:=w) h1;split at h
    ·rename_i s Y;rw[Y]at M;simp only[ff]at M;subst M;simp only[aL,Rel]at O;split at h
     ·rename_i b Q;simp at h;subst h;rw[sO]at Q;have p:n<s.length:=(List.getElem?_eq_some_iff.1 Q).1;have jg:(ByteArray.mk s.toArray)[n]?=some b:=by
       rw[getElem?_pos _ _ (by rw[wS];exact p)];congr 1;have:=(List.getElem?_eq_some_iff.1 Q).2;rw[<- this];rfl
      refine⟨.int .u8 b.toNat,?_,q6⟩;simp[execOp,O,B,Instr.index,asIntOf,jQ,jg]
     ·simp at h
    ·simp at h
   ·simp at h
  ·simp at h
 ·rename_i x n;split at h
  ·rename_i cs h1;have O:=J x _ h1;simp only[aL]at O;obtain⟨vs,e,c1,_⟩:=O;rw[sO]at h;obtain⟨u,I,q⟩:=(bJ.get c1).2 n v h;exact⟨u,by simp[execOp,e,Instr.extract,I],q⟩
  ·rename_i cs h1;have O:=J x _ h1;simp only[aL,Rel]at O;obtain⟨vs,e,c1,_⟩:=O;split at h
   ·rename_i cv oO;simp at h;subst h;rw[sO]at oO;obtain⟨u,I,q⟩:=(bR.get c1).2 n cv oO;exact⟨u,by simp[execOp,e,Instr.extract,I],by simpa only[aL]using q⟩
   ·simp at h
  ·simp at h
 ·rename_i t parts;split at h
  ·rename_i i h1;split at h
   ·rename_i fs z Y hz;split at h
    ·rename_i cells A;simp at h;subst h;exact fin (run_build hX h1 Y hz J A)
    ·simp at h
   ·simp at h
  ·simp at h
 ·rename_i t x lo hi mx;split at h
  ·rename_i i a lo' hi' mx' h1 h2 S h4 h5;have O:=J x _ h2;have b1:=pn J S;have b2:=pn J h4;have b3:=pn J h5;split at h
   ·rename_i e Y;split at h
    ·rename_i j T;exact fin (Iq hX h1 (λe' N=>by rw[Y]at N;simp at N;subst N;exact⟨j,T,rfl⟩) h O b1 b2 b3)
    ·simp at h
   ·rename_i Y;exact fin (Iq hX h1 (λe' N=>absurd N (Y e')) h O b1 b2 b3)
  ·simp at h
 ·rename_i f first K
  split at h
  ·rename_i l h1 h2;simp at h;subst h;have:=oF J h2;refine⟨.func (.func f) #[] (K.map ev),?_,by simp only[aL,Rel];exact⟨K.toList.map ev,by rw[<- aeY],this⟩⟩;have hf:first = #[]:=by simpa using h1
   simp[execOp,hf,Instr.makeFunc]
  ·simp at h
 ·rename_i D V;split at h
  ·rename_i x t O ht;split at h
   ·rename_i i a h1 h2;have I:D = #[x]:=by simpa using aeb List.toArray O
    have q:V = #[t]:=by simpa using aeb List.toArray ht
    obtain⟨r,r1,r2⟩:=Y7 (P:=P) (w:=w) hX h1 h (J x a h2) type;refine⟨r,?_,r2⟩;simp[execOp,resolve,invoke,builtin,I,q,r1]
   ·simp at h
  ·simp at h
 ·rename_i D _;unfold ade at h;split at h
  ·rename_i k a k' b H;simp at h;subst h;cases E:D.toList with
   |nil=>rw[E]at H;simp at H
   |cons x l =>
    cases l with
    |nil=>rw[E]at H;simp at H
    |cons y l =>
     cases l with
     |cons z l=>rw[E]at H;simp at H
     |nil =>
      rw[E]at H;simp at H;have O:=J x _ H.1;have hy:=J y _ H.2;simp only[aL,Rel]at O hy;refine⟨.int k (if b<a then b else a),?_,q6⟩;have I:D = #[x,y]:=by simpa using aeb List.toArray E
      simp[execOp,resolve,invoke,builtin,I,Builtin.min_,Builtin.min2,O,hy]
  ·simp at h
 ·rename_i D _;unfold adf at h;split at h
  ·rename_i k a k' b H;simp at h;subst h;cases E:D.toList with
   |nil=>rw[E]at H;simp at H
   |cons x l =>
    cases l with
    |nil=>rw[E]at H;simp at H
    |cons y l =>
     cases l with
     |cons z l=>rw[E]at H;simp at H
     |nil =>
      rw[E]at H;simp at H;have O:=J x _ H.1;have hy:=J y _ H.2;simp only[aL,Rel]at O hy;refine⟨.int k (if b>a then b else a),?_,q6⟩;have I:D = #[x,y]:=by simpa using aeb List.toArray E
      simp[execOp,resolve,invoke,builtin,I,Builtin.max_,Builtin.max2,O,hy]
  ·simp at h
 ·simp at h
end
end Go.cK
namespace Go.cK
structure Fp where
 R:List Nat
 W:List Nat
 deriving Inhabited
abbrev Env:=L (Nat×AV)
def jc(k:Nat)(σ Y:St):Prop:=an k Y.boxes=an k σ.boxes/\an k Y.toks=an k σ.toks/\(k∈Y.used↔k∈σ.used)
def Agree(q:Fp)(σ Y:St):Prop:=∀k,k∈q.R\/k∈q.W->jc k σ Y
structure iA(Ah:St->St)(fp:Fp):Prop where
 out:∀σ k,k ∉ fp.W->jc k σ (Ah σ)
 same:∀σ σ1,Agree fp σ σ1->∀k,k∈fp.W->jc k (Ah σ) (Ah σ1)
def iA.id(R:L Nat):iA (λσ=>σ) ⟨R,[]⟩:=⟨λ_ _ _=>⟨Z,Z,Iff.rfl⟩,λ_ _ _ k h=>by simp at h⟩
def bU(P:Program)(X:Ctx)(o:Oper)(env:Env)(σ:St)(v:AV)(K:St->St)(q:Fp):Prop :=
 ∀(W:Env)(Y:St)(w:World)(g:Gh)(a:Act)(next:Act->World->Prop)(Q:Exit->Act->World->Prop),
  (∀x∈o.op.operands.toList,aK X W x=aK X env x)->Agree q σ Y->Inv w g Y->pP X g.G->vB g W a.tmps ->
  (∀u w' g',aL g' v u->Inv w' g' (K Y)->iK w g Y w' g' (K Y)->g.le g'->next (a.put o.dst u) w')->o.wp P a w next Q
structure It where
 run:Bool
 v:AV
 Ah:St->St
 fp:Fp
def It.skip:It:=⟨false,.c .undef,λσ=>σ,⟨[],[]⟩⟩
def AT(d:Option Nat)(v:AV)(env:Env):Env:=match d with
 |some d=>(d,v)::env
 |none=>env
def qR(ops:Array Oper)(j:Nat):Option Nat:=(ops[j]?).bind (·.dst)
def r9(ops:Array Oper)(o:Oper)(env:Env):Prop:=match o.guard with
 |none=>True
 |some (j,Y)=>∃d,qR ops j=some d/\an d env=some (.c (.bool Y))
def qS(ops:Array Oper)(o:Oper)(env:Env):Prop:=match o.guard with
 |none=>False
 |some (j,Y)=>∃d,qR ops j=some d/\(an d env=some (.c (.bool (!Y)))\/an d env=some (.c .undef))
def nq(P:Program)(X:Ctx)(ops:Array Oper)(i:Nat)(U:It)(env:Env)(σ:St)(env':Env)(O:St):Prop :=
 ∃o,ops[i]?=some o/\env'=AT o.dst U.v env/\O=U.Ah σ/\iA U.Ah U.fp /\
  ((U=It.skip/\qS ops o env)\/(U.run=true/\r9 ops o env/\bU P X o env σ U.v U.Ah U.fp))
def vM(P:Program)(X:Ctx)(ops:Array Oper):L (Nat×It)->Env->St->Env->St->Prop
 |[],env,σ,env',σ'=>env'=env/\σ'=σ
 |(i,U)::l,env,σ,env',σ'=>∃W Y,nq P X ops i U env σ W Y/\vM P X ops l W Y env' σ'
def Ext(env:Env)(σ:St)(W:Env)(Y:St):Prop:=(∀t,an t W=an t env)/\∀k,jc k σ Y
def jc.refl(k:Nat)(σ:St):jc k σ σ:=⟨Z,Z,Iff.rfl⟩
def jc.symm{k:Nat}{σ Y:St}(h:jc k σ Y):jc k Y σ:=⟨h.1.symm,h.2.1.symm,h.2.2.symm⟩
def jc.trans{k:Nat}{σ Y W:St}(h:jc k σ Y)(C:jc k Y W):jc k σ W :=
 ⟨C.1.trans h.1,C.2.1.trans h.2.1,C.2.2.trans h.2.2⟩
def Ext.refl(env:Env)(σ:St):Ext env σ env σ:=⟨λ_=>rfl,λk=>jc.refl k σ⟩
def Ext.trans{e I W:Env}{s P T:St}(h:Ext e s I P)(C:Ext I P W T):Ext e s W T :=
 ⟨λt=>(C.1 t).trans (h.1 t),λk=>(h.2 k).trans (C.2 k)⟩
def ai{α:Type}(t d:Nat)(v:α)(l:L (Nat×α)):an t ((d,v)::l)=if t=d then some v else an t l:=by
 simp only[an];split
 ·simp_all
 ·rename_i h;rw[if_neg (λe=>beq_false h e.symm)]
def tQ(t:Nat)(d:Option Nat)(v:AV)(env:Env):an t (AT d v env)=if d=some t then some v else an t env:=by
 cases d with
 |none=>simp[AT]
 |some d =>
  simp only[AT,ai,aeO];by_cases h:t=d
  ·subst h;simp
  ·grind
def CX{X:Ctx}{env Y:Env}{x:Operand}(h:∀t,x = .tmp t->an t Y=an t env):aK X Y x=aK X env x:=by
 cases x<;>simp[aK];exact h _ Z
def bU.congr{P:Program}{X:Ctx}{o:Oper}{env U:Env}{σ Y:St}{v:AV}{K:St->St}{W:Fp}(h:bU P X o env σ v K W)
  (S:∀x∈o.op.operands.toList,aK X U x=aK X env x)(G:Agree W σ Y):bU P X o U Y v K W :=
 λT V w g a next Q h1 h2=>h T V w g a next Q (λx O=>(h1 x O).trans (S x O)) (λk D=>(G k D).trans (h2 k D))
def nq.ya{P:Program}{X:Ctx}{ops:Array Oper}{i:Nat}{E:It}{env T env':Env}{σ Y V:St}(h:nq P X ops i E env σ env' V)
  (O:Ext env σ T Y):∃S Q,nq P X ops i E T Y S Q/\Ext env' V S Q:=by
 obtain⟨o,p,rfl,rfl,U,h⟩:=h;refine⟨_,_,⟨o,p,Z,Z,U,?_⟩,λt=>?_,λk=>?_⟩
 ·rcases h with ⟨h1,h2⟩|⟨h1,h2,N⟩
  ·refine .inl ⟨h1,?_⟩;unfold qS at *;split at h2
   ·exact h2
   ·obtain⟨d,I,q⟩:=h2;exact⟨d,I,by rw[O.1];exact q⟩
  ·refine .inr ⟨h1,?_,N.congr (λx _=>CX λt _=>O.1 t) (λk _=>O.2 k)⟩;unfold r9 at *;split at h2
   ·trivial
   ·obtain⟨d,I,q⟩:=h2;exact⟨d,I,by rw[O.1];exact q⟩
 ·simp only[tQ,O.1]
 ·by_cases D:k∈E.fp.W
  ·exact U.same _ _ (λk _=>O.2 k) k D
  ·exact((U.out σ k D).symm.trans (O.2 k)).trans (U.out Y k D)
def vM.ya{P:Program}{X:Ctx}{ops:Array Oper}:∀{l:L (Nat×It)}{env W env':Env}{σ Y O:St},vM P X ops l env σ env' O ->
  Ext env σ W Y->∃T S,vM P X ops l W Y T S/\Ext env' O T S
 |[],_,_,_,_,_,_,⟨h1,h2⟩,hx=>⟨_,_,⟨rfl,rfl⟩,by subst h1 h2;exact hx⟩
 |(i,K)::l,env,W,env',σ,Y,O,⟨q,A,h1,h2⟩,hx=>by
  obtain⟨G,B,Q,V⟩:=h1.ya hx;obtain⟨E,N,M,U⟩:=vM.ya h2 V;exact⟨E,N,⟨G,B,Q,M⟩,U⟩
def Wi(l r:L Nat):Bool:=l.all λx => !r.contains x
def qT{l r:L Nat}(h:Wi l r=true){k:Nat}(h1:k∈l):k ∉ r:=by
 simp only[Wi,afn]at h;have:=h k h1;simpa using this
def indep(ops:Array Oper)(i j:Nat)(f g:Fp):Bool:=match ops[i]?,ops[j]? with
 |some x,some y=>Oper.apart ops x y&&Wi f.W g.R&&Wi f.W g.W&&Wi g.W f.R
 |_,_=>false
def DF{ops:Array Oper}{o:Oper}{t:Nat}(h:Operand.tmp t∈o.op.operands.toList):t∈o.looksAt ops:=by
 unfold Oper.looksAt;exact List.mem_append_left _ (List.mem_filterMap.2 ⟨_,h,Z⟩)
def yV{ops:Array Oper}{o:Oper}{j:Nat}{b:Bool}{d:Nat}(h:o.guard=some (j,b))(O:qR ops j=some d):d∈o.looksAt ops:=by
 unfold Oper.looksAt;refine List.mem_append_right _ ?_;rw[h];simp only;unfold qR at O;rw[O];simp
def nq.before{P:Program}{X:Ctx}{ops:Array Oper}{i:Nat}{o:Oper}(p:ops[i]?=some o){U:It}{env T:Env}{σ Y:St}
  (E:∀t∈o.looksAt ops,an t T=an t env)(S:Agree U.fp σ Y){env':Env}{O:St}(h:nq P X ops i U env σ env' O) :
  nq P X ops i U T Y (AT o.dst U.v T) (U.Ah Y):=by
 obtain⟨K,W,rfl,rfl,Q,h⟩:=h;rw[p]at W;simp at W;subst W;refine⟨o,p,Z,Z,Q,?_⟩;rcases h with ⟨h1,h2⟩|⟨h1,h2,N⟩
 ·refine .inl ⟨h1,?_⟩;unfold qS at *;split at h2
  ·exact h2
  ·rename_i j V G;obtain⟨d,I,q⟩:=h2;exact⟨d,I,by rw[E d (yV G I)];exact q⟩
 ·refine .inr ⟨h1,?_,N.congr (λx u=>CX λt M=>?_) S⟩
  ·unfold r9 at *;split at h2
   ·trivial
   ·rename_i j V G;obtain⟨d,I,q⟩:=h2;exact⟨d,I,by rw[E d (yV G I)];exact q⟩
  ·subst M;exact E t (DF u)
def nq.swap{P:Program}{X:Ctx}{ops:Array Oper}{i j:Nat}{x y:It}{env p Y8:Env}{σ S Q:St}(H:indep ops i j x.fp y.fp=true)
  (h1:nq P X ops i x env σ p S)(h2:nq P X ops j y p S Y8 Q) :
  ∃I J q A,nq P X ops j y env σ I J/\nq P X ops i x I J q A/\Ext Y8 Q q A:=by
 obtain⟨ox,O,I,J,Y,hx⟩:=id h1;obtain⟨G,M,q,A,V,hy⟩:=id h2;unfold indep at H;simp only[O,M,aai]at H;obtain⟨⟨⟨E,jQ⟩,iN⟩,hd3⟩:=H;obtain⟨a1,a2,a3⟩:=Oper.apart_spec E;subst I J;have C:nq P X ops j y env σ (AT G.dst y.v env) (y.Ah σ):=by
  refine nq.before M ?_ ?_ h2
  ·intro t B;rw[tQ,if_neg (λe=>a1 t e B)]
  ·intro k D;refine(Y.out σ k λN=>?_).symm;rcases D with D|D
   ·exact qT jQ N D
   ·exact qT iN N D
 have K:Agree x.fp σ (y.Ah σ):=by
  intro k D;refine V.out σ k λN=>?_;rcases D with D|D
  ·exact qT hd3 N D
  ·exact qT iN D N
 have u:nq P X ops i x (AT G.dst y.v env) (y.Ah σ) (AT ox.dst x.v (AT G.dst y.v env)) (x.Ah (y.Ah σ)):=by
  refine nq.before O ?_ K h1;intro t B;rw[tQ,if_neg (λe=>a3 t e B)]
 refine⟨_,_,_,_,C,u,?_,?_⟩
 ·intro t;subst q;simp only[tQ];by_cases hxd:ox.dst=some t
  ·simp_all
  ·simp_all
 ·intro k;subst A;by_cases D:k∈x.fp.W
  ·
   have U:k ∉ y.fp.W:=λh=>qT iN D h;exact(V.out (x.Ah σ) k U).symm.trans (Y.same _ _ K k D)
  ·have e:=Y.out (y.Ah σ) k D;refine jc.trans ?_ e;by_cases U:k∈y.fp.W
   ·refine V.same _ _ ?_ k U;intro k' T;refine(Y.out σ k' λN=>?_).symm;rcases T with T|T
    ·exact qT jQ N T
    ·exact qT iN N T
   ·exact((V.out (x.Ah σ) k U).symm.trans (Y.out σ k D).symm).trans (V.out σ k U)
def vM.front{P:Program}{X:Ctx}{ops:Array Oper}{i:Nat}{U:It}:∀{p q:L (Nat×It)}{env env':Env}{σ O:St},
  (∀x∈p,indep ops x.1 i x.2.fp U.fp=true)->vM P X ops (p++(i,U)::q) env σ env' O ->
  ∃I Y W T,nq P X ops i U env σ I Y/\vM P X ops (p++q) I Y W T/\Ext env' O W T
 |[],q,env,env',σ,O,_,⟨I,Y,h1,h2⟩=>⟨I,Y,env',O,h1,h2,Ext.refl _ _⟩
 |(j,x)::p,q,env,env',σ,O,hp,⟨I,Y,h1,h2⟩=>by
  obtain⟨W,T,e3,s3,N,M,V⟩:=vM.front (λx u=>hp x (aeM _ u)) h2;obtain⟨E,K,J,H,G,D,S⟩:=nq.swap (hp (j,x) cS) h1 N;obtain⟨C,B,A,Q⟩:=M.ya S;exact⟨E,K,C,B,G,⟨J,H,D,A⟩,V.trans Q⟩
structure jZ where
 w:World
 g:Gh
 σ:St
structure Live(X:Ctx)(β:jZ)(n:Nat)(env:Env)(σ:St)(g:Gh)(w:World)(a:Act):Prop where
 inv:Inv w g σ
 tO:pP X g.G
 env:vB g env a.tmps
 frame:iK β.w β.g β.σ w g σ
 size:a.tmps.size=n
 defers:a.defers=[]
def Inv.ext{w:World}{g:Gh}{σ Y:St}(h:Inv w g σ)(O:∀k,jc k σ Y):Inv w g Y where
 pQ:=h.pQ
 box:=λk cs e=>h.box k cs ((O k).1.symm.trans e)
 gk:=λk k' cs H b e e'=>h.gk k k' cs H b ((O k).1.symm.trans e) ((O k').1.symm.trans e')
 tok:=λk n e=>by
  obtain⟨I,h1,h2⟩:=h.tok k n ((O k).2.1.symm.trans e);refine⟨I,h1,λb W K C=>?_⟩;obtain⟨V,S,T⟩:=h2 b W K C;exact⟨V,S,λk' cs e'=>T k' cs ((O k').1.symm.trans e')⟩
 iu:=λk k' n q b W K U B e e'=>h.iu k k' n q b W K U B ((O k).2.1.symm.trans e) ((O k').2.1.symm.trans e')
 used:=λk e=>(O k).2.2.2 (h.used k e)
 room:=λk cs b e=>h.room k cs b ((O k).1.symm.trans e)
def iK.ext{w w':World}{g g':Gh}{σ O Y:St}(h:iK w g σ w' g' O)(N:∀k,jc k O Y):iK w g σ w' g' Y where
 os:=h.os
 tape:=h.tape
 output:=h.output
 size:=h.size
 block:=h.block
 kept:=h.kept
 le:=h.le
 new:=h.new
 boxes:=λk cs b e=>h.boxes k cs b ((N k).1.symm.trans e)
 toks:=λk n b H K e=>h.toks k n b H K ((N k).2.1.symm.trans e)
 ids:=λk D e=>h.ids k D (by rw[<- (N k).1];exact e)
def Live.ext{X:Ctx}{β:jZ}{n:Nat}{env W:Env}{σ Y:St}{g:Gh}{w:World}{a:Act}(h:Live X β n env σ g w a)(O:Ext env σ W Y):Live X β n W Y g w a where
 inv:=h.inv.ext O.2
 tO:=h.tO
 env:=λt v e=>h.env t v ((O.1 t).symm.trans e)
 frame:=h.frame.ext O.2
 size:=h.size
 defers:=h.defers
def sM(ops:Array Oper)(n:Nat):Bool:=ops.toList.all λo=>match o.dst with
 |some d=>Nat.blt d n
 |none=>true
def Pz{ops:Array Oper}{n i d:Nat}{o:Oper}(h:sM ops n=true)(p:ops[i]?=some o)(O:o.dst=some d):d<n:=by
 simp only[sM,afn]at h;have:=h o (by rw[ahF];exact Array.mem_of_getElem? p);rw[O]at this;simpa[afj]using this
def vB.put{g:Gh}{env:Env}{a:Act}{d:Option Nat}{v:AV}{u:Value}(h:vB g env a.tmps)(U:aL g v u)(O:∀k,d=some k->k<a.tmps.size) :
  vB g (AT d v env) (a.put d u).tmps:=by
 intro t x e;rw[tQ]at e;cases d with
 |none=>simp at e;exact h t x e
 |some k =>
  simp only[aeO]at e;simp only[Act.put];by_cases D:k=t
  ·subst D;rw[if_pos rfl]at e;simp at e;subst e;have p:=O k Z;simpa[Array.getD,p]using U
  ·rw[if_neg D]at e;have:=h t x e;have G:(a.tmps.setIfInBounds k u).getD t undef=a.tmps.getD t undef:=by
    simp only[aeW,agz,if_neg D]
   rw[G];exact this
def Fs{g:Gh}{ops:Array Oper}{env:Env}{S:Array Value}(h:vB g env S){j d:Nat}(O:qR ops j=some d) :
  (∀b,an d env=some (.c (.bool b))->yielded ops S j=some b)/\(an d env=some (.c .undef)->yielded ops S j=none):=by
 unfold qR at O;constructor
 ·intro b e;have:=h d _ e;simp only[aL,Rel]at this;simp only[yielded,O,Option.bind_some];simp only[Array.getD]at this;split at this
  ·simp_all
  ·simp[Go.undef]at this
 ·intro e;have:=h d _ e;simp only[aL,Rel]at this;simp only[yielded,O,Option.bind_some];simp only[Array.getD]at this;split at this
  ·rename_i p;have:S[d]?=some Go.undef:=by rw[aeN p];exact aeb some this
   rw[this];rfl
  ·simp_all
def nq.wp{P:Program}{X:Ctx}{β:jZ}{n:Nat}{ops:Array Oper}(H:sM ops n=true){i:Nat}{E:It}{env env':Env}{σ O:St}(h:nq P X ops i E env σ env' O)
  {g:Gh}{w:World}{a:Act}(Y:Live X β n env σ g w a){K:Act->World->Prop}{Q:Exit->Act->World->Prop}
  (S:∀g' w' A,Live X β n env' O g' w' A->K A w'):wpOp P ops Q i K a w:=by
 obtain⟨o,p,rfl,rfl,hE,h⟩:=h;have T:∀k,o.dst=some k->k<a.tmps.size:=λk D=>by rw[Y.size];exact Pz H p D
 have W:∀u,(a.put o.dst u).tmps.size=n/\(a.put o.dst u).defers=[]:=by
  intro u;cases o.dst<;>simp[Act.put,Y.size,Y.defers]
 simp only[wpOp,p];rcases h with ⟨rfl,G⟩|⟨hr,G,C⟩
 ·have N:Region.wanted o (yielded ops a.tmps)=false:=by
   unfold qS at G;unfold Region.wanted;split at G
   ·exact G.elim
   ·rename_i j V U;obtain⟨d,I,q⟩:=G;obtain⟨M,B⟩:=Fs Y.env I;simp only[U];rcases q with q|q
    ·grind
    ·rw[B q];rfl
  rw[if_neg (by simp[N])];refine S g w _ ⟨Y.inv,Y.tO,Y.env.put (by simp[It.skip,aL,Rel]) T,Y.frame,(W _).1,(W _).2⟩
 ·have N:Region.wanted o (yielded ops a.tmps)=true:=by
   unfold r9 at G;unfold Region.wanted;split at G
   ·simp_all
   ·rename_i j V U;obtain⟨d,I,q⟩:=G;obtain⟨M,_⟩:=Fs Y.env I;simp only[U];rw[M _ q];cases V<;>rfl
  rw[if_pos N];refine .inl (C env σ w g a K Q (λ_ _=>rfl) (λk _=>jc.refl k σ) Y.inv Y.tO Y.env ?_);intro u w' g' h1 h2 h3 J;refine S g' w' _ ⟨h2,?_,(Y.env.mono J).put h1 T,Y.frame.trans h3,(W _).1,(W _).2⟩;intro k v D;exact Rel.mono J.1 _ _ (Y.tO k v D)
def vM.wp{P:Program}{X:Ctx}{β:jZ}{n:Nat}{ops:Array Oper}(N:sM ops n=true){Q:Exit->Act->World->Prop} :
  ∀{l:L (Nat×It)}{env env':Env}{σ O:St},vM P X ops l env σ env' O->∀{g:Gh}{w:World}{a:Act},Live X β n env σ g w a ->
  (∀g' w' A,Live X β n env' O g' w' A->Q .normal A w')->wpOps P ops Q (l.map (·.1)) a w
 |[],env,env',σ,O,⟨h1,h2⟩,g,w,a,hL,hQ=>by subst h1 h2;exact hQ g w a hL
 |(i,U)::l,env,env',σ,O,⟨I,W,h1,h2⟩,g,w,a,hL,hQ=>by
  rw[aed,wpOps_cons];exact h1.wp N hL λg' w' A Y=>vM.wp N h2 Y hQ
def oR(o:Oper):L Nat:=o.after.toList.filterMap λe=>if Region.binds .any e then some e.on else none
def zH:L (L Nat)->L Nat->L Nat
 |[],acc=>acc
 |es::rest,acc=>zH rest (acc++[es.foldl (λs e=>s|||2^e|||acc.getD e 0) 0])
def Wj(ops:Array Oper):L Nat:=zH (ops.toList.map oR) []
def Ft(acc:L Nat)(j:Nat):∀(es:L Nat)(s:Nat),(es.foldl (λs e=>s|||2^e|||acc.getD e 0) s).testBit j=true ->
  s.testBit j=true\/∃e∈es,e=j\/(acc.getD e 0).testBit j=true
 |[],s,h => .inl h
 |e::es,s,h=>by
  simp only[List.foldl_cons]at h;rcases Ft acc j es _ h with h|⟨e',h1,h2⟩
  ·grind
  ·grind
def Fu:∀(es:L (L Nat))(acc:L Nat)(i:Nat),acc.length<=i->i<acc.length+es.length ->
  ∀j,((zH es acc).getD i 0).testBit j=true->∃e∈es.getD (i-acc.length) [],e=j\/((zH es acc).getD e 0).testBit j=true
 |[],acc,i,h1,h2,j,h=>by simp at h2;omega
 |x::es,acc,i,h1,h2,j,h=>by
  have Y:∀(es:L (L Nat))(acc:L Nat)(k:Nat),k<acc.length->(zH es acc).getD k 0=acc.getD k 0:=by
   intro es
   induction es with
   |nil=>intro acc k D;rfl
   |cons y es W =>
    intro acc k D;simp only[zH];rw[W _ _ ob];simp[List.getD,agJ D]
  simp only[zH]at h ⊢;by_cases K:i=acc.length
  ·subst K;rw[Y _ _ _ cS]at h;simp only[List.getD,agE (aaj _),Nat.sub_self,afP,agu]at h;rcases Ft acc j x 0 h with h|⟨e,V,S⟩
   ·simp at h
   ·grind
  ·obtain⟨e,V,S⟩:=Fu es (acc++[x.foldl (λs e=>s|||2^e|||acc.getD e 0) 0]) i ob (by simp at h2 ⊢;omega) j h;refine⟨e,?_,S⟩;simp only[aaz,aac,aad]at V;rw[show i-acc.length=(i-(acc.length+(0+1)))+1 from by omega];simpa using V
def qI(ops:Array Oper)(Y:L Fp):Bool :=
 let W:=Wj ops
 (List.range ops.size).all λi=>(((ops[i]?).map oR).getD []).all (λe=>Nat.blt e i) &&
  (List.range i).all λj=>(W.getD i 0).testBit j||indep ops j i (Y.getD j ⟨[],[]⟩) (Y.getD i ⟨[],[]⟩)
end Go.cK
