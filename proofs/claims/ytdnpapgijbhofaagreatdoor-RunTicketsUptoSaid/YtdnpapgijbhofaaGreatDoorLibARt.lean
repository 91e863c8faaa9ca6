/- A layer of abstract values over the model, part A: -/
import Derived.Calls
import Derived.Laws.Entries
import Derived.Laws.Cells
import Derived.Laws.Strings
import Derived.Orders
set_option linter.defProp false
set_option linter.unusedSimpArgs false
set_option linter.unusedVariables false
namespace Go.cB
def aaV:=@List.mem_append
def aaW:=@List.drop_length
def aaZ:=@congrArg
def aba:=@List.append_nil
def abd:=@of_decide_eq_true
def abe:=@List.getElem?_eq_getElem
def abf:=@Nat.le_of_ble_eq_true
def abg:=@List.sizeOf_lt_of_mem
def abh:=@List.cons_append
def abi:=@Nat.zero_add
def abk:=@List.map_cons
def abl:=@Nat.lt_succ_self
def abm:=@List.length_take
def abn:=@Bool.false_and
def abo:=@Array.getElem?_append_left
def abp:=@List.length_drop
def abq:=@Bool.true_and
def abr:=@List.map_append
def abu:=@List.mem_cons
def abv:=@Array.getElem?_eq_getElem
def abB:=@List.length_map
def abF:=@Array.toList_append
def abG:=@Nat.zero_le
def abH:=@Decidable.byContradiction
def abI:=@Nat.add_zero
def abJ:=@Nat.le_trans
def abK:=@List.take_append_drop
def abN:=@List.mem_cons_of_mem
def abP:=@Bool.eq_iff_iff
def abQ:=@List.all_cons
def abT:=@List.size_toArray
def abU:=@decide_eq_true_eq
def abV:=@List.getD_eq_getElem?_getD
def abW:=@Bool.or_eq_false_iff
def abX:=@Nat.lt_of_lt_of_le
def acd:=@if_false
def ace:=@List.append_assoc
def acf:=@Array.getD_eq_getD_getElem?
def acg:=@List.getElem?_take
def ach:=@List.mem_of_mem_drop
def aci:=@Array.toList_map
def acj:=@Array.size_append
def ack:=@List.drop_zero
def acm:=@List.getElem?_eq_none
def acp:=@List.nil_append
def acq:=@List.take_of_length_le
def acr:=@List.zipIdx_cons
def acs:=@Bool.and_true
def acv:=@List.drop_eq_getElem_cons
def acz:=@Nat.mul_le_mul_right
def acA:=@List.getElem?_append
def acB:=@List.reverse_reverse
def acC:=@Nat.lt_or_ge
def acF:=@Nat.add_mul
def acG:=@List.eq_nil_of_length_eq_zero
def acK:=@List.all_eq_true
def acS:=@Int.tmod_lt_of_pos
def acT:=@List.all_append
def acU:=@Option.some.injEq
def acV:=@List.getElem?_of_mem
def acW:=@List.drop_succ_cons
def acX:=@List.length_eq_zero_iff
def acY:=@List.mem_cons_self
def acZ:=@Prod.mk.injEq
def ada:=@decide_eq_false_iff_not
def adb:=@Array.getElem?_push_lt
def ade:=@cond_false
def adf:=@bne_self_eq_false
def adg:=@Decidable.not_not
def adh:=@Nat.le_succ
def adi:=@and_true
def adj:=@List.getElem?_toArray
def adk:=@Nat.mod_eq_of_lt
def adl:=@List.mem_of_mem_take
def adm:=@cond_true
def adn:=@List.getElem?_append_right
def ado:=@Int.fdiv_eq_ediv_of_nonneg
def adp:=@List.getElem?_drop
def adq:=@List.getElem?_append_left
def adr:=@Array.mapM_eq_mapM_toList
def ads:=@List.reverse_cons
def adt:=@List.any_cons
def adu:=@Nat.le_mul_of_pos_right
def adv:=@List.getElem?_cons_zero
def adw:=@List.getElem_mem
def ady:=@Option.getD_some
def adB:=@Option.map_some
def adC:=@UInt8.lt_iff_toNat_lt
def adD:=@Nat.pow_le_pow_right
def adE:=@List.pairwise_append
def adF:=@List.take_succ_cons
def adG:=@Array.getElem?_push
def adH:=@List.reverse_append
def adI:=@Nat.add_sub_cancel
def adJ:=@Nat.add_assoc
def adK:=@List.pairwise_cons
def adL:=@bne_iff_ne
def adM:=@Nat.and_two_pow_sub_one_eq_mod
def adN:=@Array.getElem?_setIfInBounds
def adO:=@List.length_set
def adP:=@Nat.min_eq_left
def adQ:=@Int.le_refl
def adR:=@Int.natAbs_tdiv_le_natAbs
def adS:=@List.mapM_cons
def adT:=@Bool.and_assoc
def adU:=@Int.mul_assoc
def adV:=@Option.bind_eq_some_iff
def adW:=@Int.eq_ofNat_of_zero_le
def adX:=@List.drop_eq_nil_of_le
def adY:=@List.getElem?_set_self
def adZ:=@List.mem_map
def aeb:=@Nat.succ_mul
def aec:=@Nat.eq_of_beq_eq_true
def aed:=@Array.mem_toList_iff
theorem Z{α:Sort _}{a:α}:a=a:=rfl
abbrev L:=@List
def bn{p:Prop}(h:p:=by omega):p:=h
def cc{p:Prop}(h:p:=by decide):p:=h
def cm{p:Prop}(h:p:=by show List.length q<=_;omega):p:=h
def c9{p:Prop}(h:p:=by simp):p:=h
def ek{p:Prop}(h:p:=by simp only[aaa];omega):p:=h
def fc{p:Prop}(h:p:=by simp only[eE,dN,eS,gI,ie,aB];omega):p:=h
def fe{p:Prop}(h:p:=by show args.length-(i+1)<args.length-i;omega):p:=h
def fk{p:Prop}(h:p:=by simp[an]):p:=h
def gn{p:Prop}(h:p:=by show List.length (aI Q K::aI W Y::q)<=_;simp only[aaa];omega):p:=h
def gp{p:Prop}(h:p:=by have:=(C (.mk T us) (by simp)).2;omega):p:=h
def gF{p:Prop}(h:p:=by simp only[eE,dN,eS,aB];omega):p:=h
def hM{p:Prop}(h:p:=by unfold bF;omega):p:=h
def j0{p:Prop}(h:p:=by simp[Op.operands]):p:=h
def ko{p:Prop}(h:p:=by show List.length (aI 3 n::q)<=_;simp only[aaa];omega):p:=h
def lf{p:Prop}(h:p:=by simp only[bp,aU];omega):p:=h
def lA{p:Prop}(h:p:=by rw[ho];simp[Op.operands]):p:=h
def mc{p:Prop}(h:p:=by simp only[Nat.min_def];split<;>omega):p:=h
def nt{p:Prop}(h:p:=by simp[Act.eval,Act.put]):p:=h
def nu{p:Prop}(h:p:=by show l.length-(i+1)<l.length-i;omega):p:=h
def nW{p:Prop}(h:p:=by simpa using h):p:=h
def ob{p:Prop}(h:p:=by simp;omega):p:=h
def oe{p:Prop}(h:p:=by show List.length (aI 2 n::aI 2 Y::q)<=_;simp only[aaa];omega):p:=h
def ot{p:Prop}(h:p:=by simp[eqGuard_at_pointer,nE,nF,jM U,run_equal_nil_nil U]):p:=h
def oy{p:Prop}(h:p:=by simp[h]):p:=h
def p5{p:Prop}(h:p:=by simp[aP,Rel]):p:=h
def p8{p:Prop}(h:p:=by rw[J];exact k):p:=h
def q6{p:Prop}(h:p:=by rw[BA]at hj;omega):p:=h
def ri{p:Prop}(h:p:=by rw[ho];simp only[Op.operands,Call.operands,abF,aaV];exact .inr hx):p:=h
def rj{p:Prop}(h:p:=by show List.length (Vl.mk 6 0 0 C [] [] [] :: .mk 6 0 0 H [] [] []::q)<=_;simp only[aaa];omega):p:=h
def sk{p:Prop}(h:p:=by simp only;omega):p:=h
def sx{p:Prop}(h:p:=by show List.length (aI 5 K::aI 5 Y::q)<=_;simp only[aaa];omega):p:=h
def sy{p:Prop}(h:p:=by simp only[aao,aaa,aab];omega):p:=h
def th{p:Prop}(h:p:=by rw[hd];exact k):p:=h
def tF{p:Prop}(h:p:=by simp only[aj,aaa];omega):p:=h
def u5{p:Prop}(h:p:=by simp only[BP];exact⟨Wk.refl _,by unfold Wk;exact .inr ⟨Z,Z⟩,trivial⟩):p:=h
def u6{p:Prop}(h:p:=by show List.length (aY x y::q)<=_;simp only[aaa];omega):p:=h
def u7{p:Prop}(h:p:=by show cr φ q s<=_;simp only[cr];omega):p:=h
def vB{p:Prop}(h:p:=by have:=bh hx;omega):p:=h
def wQ{p:Prop}(h:p:=by show eW tt l _=m+q+eW tt (l.drop (i+1)) _;omega):p:=h
def Bx{p:Prop}(h:p:=by show List.length (v::q)<=_;simp only[aaa];omega):p:=h
def C1{p:Prop}(h:p:=by simpa only[aP]using h2):p:=h
def EG{p:Prop}(h:p:=by have:=W.2;simp only[bN,aE,aB,aU,aM,aab];omega):p:=h
def Fo{p:Prop}(h:p:=by show List.length (Vl.mk 6 0 0 C [] [] []::q)<=_;simp only[aaa];omega):p:=h
def JK{p:Prop}(h:p:=by show List.length (Vl.mk J K W C V U Q::q)<=_;simp only[aaa];omega):p:=h
def J6{p:Prop}(h:p:=by simp only[aaa,aab];omega):p:=h
def K0{p:Prop}(h:p:=by simpa using h2):p:=h
def Lv{p:Prop}(h:p:=by rw[ho];simp only[Op.operands,adZ];exact⟨p,hp,Z⟩):p:=h
def Lw{p:Prop}(h:p:=by show cD s q.reverse.reverse;rw[acB];exact hq):p:=h
def LM{p:Prop}(h:p:=by show st.length<=_;omega):p:=h
def MO{p:Prop}(h:p:=by have:=b9 (l:=[u,u']) (x:=w) (by simp at G ⊢;simp[G]);omega):p:=h
def N2{p:Prop}(h:p:=by show((acc++[_]).length:Int)<=I;simp only[aao,aaa,aab];omega):p:=h
def Ot{p:Prop}(h:p:=by rwa[adp]at hj):p:=h
def OC{p:Prop}(h:p:=by rw[hvl]at hj;omega):p:=h
def Pv{p:Prop}(h:p:=by rw[ho];simp[Op.operands,Call.operands]):p:=h
def QF{p:Prop}(h:p:=by show List.length st<=_;omega):p:=h
def Q7{p:Prop}(h:p:=by have:=(abd h.1).2;omega):p:=h
def Rl{p:Prop}(h:p:=by simp[CV.cells,CV.one]):p:=h
def RI{p:Prop}(h:p:=by show b≠w.heap.size;omega):p:=h
def RP{p:Prop}(h:p:=by unfold Wk;exact .inr ⟨Z,Z⟩):p:=h
def R7{p:Prop}(h:p:=by have:=cI N;omega):p:=h
def Se{p:Prop}(h:p:=by simp only[aaa]at tV;omega):p:=h
def Sg{p:Prop}(h:p:=by show bH (p.drop p.length) (t::s,false)=_;rw[pJ];rfl):p:=h
def Si{p:Prop}(h:p:=by rw[aao,aaa,abm,abp];omega):p:=h
def SR{p:Prop}(h:p:=by rw[aaq];omega):p:=h
def S4{p:Prop}(h:p:=by simp[aG,aK]):p:=h
def Tf{p:Prop}(h:p:=by rw[acj,abT,Cp];omega):p:=h
def T0{p:Prop}(h:p:=by show bH (p.drop p.length) (s,false)=_;rw[pJ];rfl):p:=h
def T1{p:Prop}(h:p:=by simp[h1]):p:=h
def Ua{p:Prop}(h:p:=by have:=aaZ List.length hq;simp at this;omega):p:=h
def Ui{p:Prop}(h:p:=by rw[ack,abi]):p:=h
def Uj{p:Prop}(h:p:=by rw[aao,abm,abp];omega):p:=h
def Un{p:Prop}(h:p:=by rw[ack,ack,abi]):p:=h
def UZ{p:Prop}(h:p:=by have:=(List.getElem?_eq_some_iff.1 hy).1;omega):p:=h
def Vz{p:Prop}(h:p:=by simpa only[aP]using h1):p:=h
def V1{p:Prop}(h:p:=by rw[if_neg (by omega)];exact h6):p:=h
def V6{p:Prop}(h:p:=by rw[bf];unfold bF;omega):p:=h
def Wl{p:Prop}(h:p:=by simp only[aE,aU,aM,aab];omega):p:=h
def Ww{p:Prop}(h:p:=by show s.length+cz p<=340;omega):p:=h
def WA{p:Prop}(h:p:=by simp at G ⊢;simp[G]):p:=h
def W5{p:Prop}(h:p:=by simp[bp,aU]):p:=h
def Xi{p:Prop}(h:p:=by have:=cI O;omega):p:=h
def Xq{p:Prop}(h:p:=by simp only[aao,aaa,aab,ack];omega):p:=h
def Xr{p:Prop}(h:p:=by simp only[aaa,aab]at *;omega):p:=h
def X3{p:Prop}(h:p:=by simp[Rel]):p:=h
def X4{p:Prop}(h:p:=by show acc.length<=i+1;omega):p:=h
def X5{p:Prop}(h:p:=by simp[Builtin.len_,U,goInt]):p:=h
def Yv{p:Prop}(h:p:=by subst hy;simp[Op.operands]):p:=h
def Yw{p:Prop}(h:p:=by rw[DU];simp only[cr];omega):p:=h
def Yz{p:Prop}(h:p:=by rw[jR];rfl):p:=h
def YA{p:Prop}(h:p:=by split at h1<;>omega):p:=h
def Y1{p:Prop}(h:p:=by rw[fy]):p:=h
def Y7{p:Prop}(h:p:=by simpa using h1):p:=h
def Y8{p:Prop}(h:p:=by simp[an,Ne.symm K]):p:=h
def Y9{p:Prop}(h:p:=by simp[hargs]):p:=h
def Zl{p:Prop}(h:p:=by unfold kL at tE;exact tE):p:=h
def ZQ{p:Prop}(h:p:=by show 0<=u+1;omega):p:=h
def ZX{p:Prop}(h:p:=by show u+1<=g;omega):p:=h
def ZZ{p:Prop}(h:p:=by simpa using V):p:=h
def Z1{p:Prop}(h:p:=by have:=bh O;omega):p:=h
def aar{p:Prop}(h:p:=by simpa only[aP]using h3):p:=h
def aas{p:Prop}(h:p:=by rw[I];simp):p:=h
def aat{p:Prop}(h:p:=by simp[g']):p:=h
def aau{p:Prop}(h:p:=by rw[l1,k1];exact aal _):p:=h
def aav{p:Prop}(h:p:=by rw[Mp];exact n4):p:=h
def aax{p:Prop}(h:p:=by simp only[aao];omega):p:=h
def aay{p:Prop}(h:p:=by simp[E]):p:=h
def aaz{p:Prop}(h:p:=by rw[hvl];omega):p:=h
def aaA{p:Prop}(h:p:=by rw[l2,k2];rfl):p:=h
def aaB{p:Prop}(h:p:=by rw[l3,k3];rfl):p:=h
def aaC{p:Prop}(h:p:=by rw[l4,k4];rfl):p:=h
def aaD{p:Prop}(h:p:=by rw[<- W]):p:=h
def aaE{p:Prop}(h:p:=by simpa using T):p:=h
def aaF{p:Prop}(h:p:=by simpa using H):p:=h
def aaG{p:Prop}(h:p:=by rw[Bh]):p:=h
def aaH{p:Prop}(h:p:=by simp[V]):p:=h
def aaI{p:Prop}(h:p:=by simp[T]):p:=h
def aaJ{p:Prop}(h:p:=by exact AK.again (S (i+1) ⟨h2,U⟩ (by omega)) ⟨.inl (ff (i:=i) (by omega)),.inl Z,.inl Z,.inl Z,.inl Z,trivial⟩ ⟨Z,Z,trivial⟩ trivial Z Z Z):p:=h
def aaK{p:Prop}(h:p:=by exact AK.again (ih (i+1) ⟨bh hx,hinv⟩ (by have:=bh hx;omega)) ⟨.inl (ff (by have:=bh hx;omega)),.inl Z,.inl Z,.inl Z,trivial⟩ trivial trivial Z Z Z):p:=h
def aaL{p:Prop}(h:p:=by exact ih (i+1,acc++[(Vl.mk 11 0 0 [] q [] [])],false) ⟨h2,by simp[E],Y,(by simpa using V)⟩ (by show args.length-(i+1)<args.length-i;omega)):p:=h
def aaM{p:Prop}(h:p:=by exact bt (fM (dy (by simp only[bp,aU];omega) (λt h=>A t (by simp[h])))) (bK _)):p:=h
def aaN{p:Prop}(h:p:=by exact Src.ofSlice w ts ⟨vb,vo,none⟩ m vc vs hvl (λj u hj=>by rw[Addr.add_lit];exact hvs j u hj) Bz):p:=h
def aaO{p:Prop}(h:p:=by exact absurd (M.symm.trans h1) (by decide)):p:=h
def aaP{p:Prop}(h:p:=by exact λk n b lo hi h1 h2 => .inr ⟨k,n,lo,hi,h1,h2,aal _,aal _⟩):p:=h
def aaQ{p:Prop}(h:p:=by exact OV hf Z Z Z Z Z Z Z Z Z):p:=h
def aaR{p:Prop}(h:p:=by exact aaZ (λl=>[LV.own 1 l]) (bL rows acc _ _ (by rw[iA _ (by omega)]))):p:=h
def aaS{p:Prop}(h:p:=by exact ai.step (cZ G) C (vR _ _ _) (by rw[J];exact k)):p:=h
def aaU{p:Prop}(h:p:=by exact AK.BM Tryz.hX hf (l:=[.own .exact 7 []]) Z [] Z Z trivial):p:=h
def aaa{α:Type}{a:α}{l:List α}:(a::l).length=l.length+1:=List.length_cons
def aab{α:Type}:([]:List α).length=0:=List.length_nil
def aai{α:Type}{a:α}{l:List α}{d:α}:(a::l).getD 0 d=a:=List.getD_cons_zero
def aaj{α:Type}{a:α}{l:List α}{n:Nat}{d:α}:(a::l).getD (n+1) d=l.getD n d:=List.getD_cons_succ
def aak(a b:Bool):((a&&b)=true)=(a=true/\b=true):=Bool.and_eq_true a b
def aal(n:Nat):n<=n:=Nat.le_refl n
def aam{p:Prop}[Decidable p](h:p):decide p=true:=decide_eq_true h
def aan{p:Prop}[Decidable p](h:¬p):decide p=false:=decide_eq_false h
def aao{α:Type}{a b:List α}:(a++b).length=a.length+b.length:=List.length_append
def aap{α:Type}{l:List α}{i:Nat}{a:α}(h:l[i]?=some a):a∈l:=List.mem_of_getElem? h
def aaq{α:Type}{l:List α}:l.reverse.length=l.length:=List.length_reverse
inductive CV where
 |int (k:IntKind) (n:Int)
 |bool (b:Bool)
 |str (s:List UInt8)
 |ld
 |undef
 |sl (s:Nat) (rows:List CV)
 |agg (cs:List CV)
 |ip (cs:List CV)
 |tO (f:FuncId) (caps:List CV)
 |fG (cs:List CV)
 |any
 |rR
 deriving Inhabited
def CV.cells:CV->L CV
 |.agg cs=>cs
 |v=>[v]
def CV.one:CV->Bool
 |.agg _ | .fG _ | .undef=>false
 |_=>true
abbrev ja:=Nat->Nat->Option Value
mutual
def Rel(G:ja):CV->Value->Prop
 |.int k n,v=>v = .int k n
 |.bool b,v=>v = .bool b
 |.str s,v=>v = .string ⟨s.toArray⟩
 |.ld,v=>v = .pointer none
 |.undef,v=>v=Go.undef
 |.sl s rows,v=>∃base B E,v = .slice base B E/\B=rows.length/\B<=E /\
   (rows=[]\/∃b o,base=some ⟨b,o,none⟩/\fE G s b o rows)
 |.agg cs,v=>∃vs:L Value,v = .agg vs.toArray/\bT G cs vs/\cs.all CV.one=true
 |.ip cs,v=>∃b o,v = .pointer (some ⟨b,o,none⟩)/\cW G b o cs
 |.tO f U,v=>∃vs:L Value,v = .func (.func f) #[] vs.toArray/\bT G U vs
 |.fG cs,v=>∃vs:L Value,v = .tuple vs.toArray/\bT G cs vs/\2<=cs.length
 |.any,v=>(∀vs,v ≠ .agg vs)/\∀vs,v ≠ .tuple vs
 |.rR,v=>∃x,v = .bool x
def bT(G:ja):L CV->L Value->Prop
 |[],vs=>vs=[]
 |c::cs,vs=>∃u us,vs=u::us/\Rel G c u/\bT G cs us
def cW(G:ja):Nat->Nat->L CV->Prop
 |_,_,[]=>True
 |b,o,c::cs=>(∃u,G b o=some u/\Rel G c u/\c.one=true)/\cW G b (o+1) cs
def ou(G:ja):Nat->Nat->CV->Prop
 |b,o,.agg cs=>cW G b o cs
 |b,o,.int k n=>G b o=some (.int k n)
 |b,o,.bool x=>G b o=some (.bool x)
 |b,o,.str s=>G b o=some (.string ⟨s.toArray⟩)
 |b,o,.ld=>G b o=some (.pointer none)
 |_,_,.undef=>False
 |b,o,.sl s rows=>∃base B E,G b o=some (.slice base B E)/\B=rows.length/\B<=E /\
   (rows=[]\/∃N O,base=some ⟨N,O,none⟩/\fE G s N O rows)
 |b,o,.ip cs=>∃N O,G b o=some (.pointer (some ⟨N,O,none⟩))/\cW G N O cs
 |b,o,.tO f U=>∃vs:L Value,G b o=some (.func (.func f) #[] vs.toArray)/\bT G U vs
 |_,_,.fG _=>False
 |b,o,.any=>∃v,G b o=some v/\(∀vs,v ≠ .agg vs)/\∀vs,v ≠ .tuple vs
 |b,o,.rR=>∃x,G b o=some (.bool x)
def fE(G:ja):Nat->Nat->Nat->L CV->Prop
 |_,_,_,[]=>True
 |s,b,o,r::rs=>ou G b o r/\r.cells.length=s/\fE G s b (o+s) rs
end
def yB(G:ja)(b o:Nat)(r:CV):ou G b o r↔cW G b o r.cells:=by
 cases r with
 |sl s rows =>
  simp only[ou,CV.cells,cW,CV.one,Rel,adi];constructor;grind;simp_all
 |ip cs =>
  simp only[ou,CV.cells,cW,CV.one,Rel,adi];constructor;grind;simp_all
 |tO f U =>
  simp only[ou,CV.cells,cW,CV.one,Rel,adi];constructor;simp_all;simp_all
 |rR =>
  simp only[ou,CV.cells,cW,CV.one,Rel,adi];constructor;grind;simp_all
 |_=>simp[ou,CV.cells,cW,CV.one,Rel]
def ja.le(G P:ja):Prop:=∀b o v,G b o=some v->P b o=some v
def ja.le.refl(G:ja):G.le G:=λ_ _ _ h=>h
def ja.le.trans{G P Y:ja}(h:G.le P)(O:P.le Y):G.le Y:=λb o v x=>O b o v (h b o v x)
mutual
def Rel.mono{G P:ja}(h:G.le P):∀(c:CV)(v:Value),Rel G c v->Rel P c v
 |.int _ _,_,x=>by simpa[Rel]using x
 |.bool _,_,x=>by simpa[Rel]using x
 |.str _,_,x=>by simpa[Rel]using x
 |.ld,_,x=>by simpa[Rel]using x
 |.undef,_,x=>by simpa[Rel]using x
 |.sl s rows,v,x=>by obtain⟨base,B,E,e,V,D,A⟩:=x;exact⟨base,B,E,e,V,D,A.imp id λ⟨b,o,W,A⟩=>⟨b,o,W,fE.mono h s b o rows A⟩⟩
 |.agg cs,v,x=>by obtain⟨vs,e,A,Y⟩:=x;exact⟨vs,e,bT.mono h cs vs A,Y⟩
 |.ip cs,v,x=>by obtain⟨b,o,e,A⟩:=x;exact⟨b,o,e,cW.mono h b o cs A⟩
 |.tO f U,v,x=>by obtain⟨vs,e,A⟩:=x;exact⟨vs,e,bT.mono h U vs A⟩
 |.fG cs,v,x=>by simp only[Rel]at x ⊢;obtain⟨vs,e,A,Y⟩:=x;exact⟨vs,e,bT.mono h cs vs A,Y⟩
 |.any,_,x=>by simp only[Rel]at x ⊢;exact x
 |.rR,_,x=>by simp only[Rel]at x ⊢;exact x
def bT.mono{G P:ja}(h:G.le P):∀(cs:L CV)(vs:L Value),bT G cs vs->bT P cs vs
 |[],_,x=>by simpa[bT]using x
 |c::cs,vs,x=>by simp only[bT]at x ⊢;obtain⟨u,us,e,D,A⟩:=x;exact⟨u,us,e,Rel.mono h c u D,bT.mono h cs us A⟩
def cW.mono{G P:ja}(h:G.le P):∀(b o:Nat)(cs:L CV),cW G b o cs->cW P b o cs
 |_,_,[],_=>by simp[cW]
 |b,o,c::cs,x=>by simp only[cW]at x ⊢;obtain⟨⟨u,T,D,Y⟩,A⟩:=x;exact⟨⟨u,h b o u T,Rel.mono h c u D,Y⟩,cW.mono h b (o+1) cs A⟩
def ou.mono{G P:ja}(h:G.le P):∀(b o:Nat)(r:CV),ou G b o r->ou P b o r
 |b,o,.agg cs,x=>by simp only[ou]at x ⊢;exact cW.mono h b o cs x
 |b,o,.int _ _,x=>by simp only[ou]at x ⊢;exact h _ _ _ x
 |b,o,.bool _,x=>by simp only[ou]at x ⊢;exact h _ _ _ x
 |b,o,.str _,x=>by simp only[ou]at x ⊢;exact h _ _ _ x
 |b,o,.ld,x=>by simp only[ou]at x ⊢;exact h _ _ _ x
 |_,_,.undef,x=>by simp[ou]at x
 |b,o,.sl s rows,x=>by simp only[ou]at x ⊢;obtain⟨base,B,E,e,V,D,A⟩:=x;exact⟨base,B,E,h _ _ _ e,V,D,A.imp id λ⟨b,o,W,A⟩=>⟨b,o,W,fE.mono h s b o rows A⟩⟩
 |b,o,.ip cs,x=>by simp only[ou]at x ⊢;obtain⟨N,O,e,A⟩:=x;exact⟨N,O,h _ _ _ e,cW.mono h N O cs A⟩
 |b,o,.tO f U,x=>by simp only[ou]at x ⊢;obtain⟨vs,e,A⟩:=x;exact⟨vs,h _ _ _ e,bT.mono h U vs A⟩
 |_,_,.fG _,x=>by simp[ou]at x
 |b,o,.any,x=>by simp only[ou]at x ⊢;obtain⟨v,e,A⟩:=x;exact⟨v,h _ _ _ e,A⟩
 |b,o,.rR,x=>by simp only[ou]at x ⊢;obtain⟨v,e⟩:=x;exact⟨v,h _ _ _ e⟩
def fE.mono{G P:ja}(h:G.le P):∀(s b o:Nat)(rs:L CV),fE G s b o rs->fE P s b o rs
 |_,_,_,[],_=>by simp[fE]
 |s,b,o,r::rs,x=>by simp only[fE]at x ⊢;exact⟨ou.mono h b o r x.1,x.2.1,fE.mono h s b (o+s) rs x.2.2⟩
end
inductive Va where
 |exact
 |tok (key n:Nat)
 deriving Inhabited
inductive AV where
 |c (v:CV)
 |own (k:Va) (s:Nat) (rows:List CV)
 |ptr (key off:Nat)
 |gf (key off s n:Nat)
 |any
 |agg (cs:List AV)
 |fG (cs:List AV)
 deriving Inhabited
def AV.one:AV->Bool
 |.c v=>v.one
 |.own .. | .ptr .. | .gf .. | .any=>true
 |.agg _ | .fG _=>false
structure Gh where
 G:ja
 box:Nat->Option Nat
 tok:Nat->Option (Nat×Option (Nat×Nat×Nat))
 room:Nat->Nat
def jZ(G:ja)(s:Nat)(base:Option Addr)(rows:L CV):Prop :=
 rows=[]\/∃b o,base=some ⟨b,o,none⟩/\fE G s b o rows
def wI(g:Gh)(s:Nat)(base:Option Addr)(B E:Nat):Va->Prop
 |.exact=>E=B
 |.tok P n=>∃V Y,g.tok P=some (V,Y)/\n<=V/\(V=n->E=B \/
   ∃b Q W o,Y=some (b,Q,W)/\base=some ⟨b,o,none⟩/\Q=o+B*s/\W=o+E*s/\B<=E)
mutual
def aP(g:Gh):AV->Value->Prop
 |.c v,x=>Rel g.G v x
 |.own k s rows,x=>∃base B E,x = .slice base B E/\B=rows.length/\B<=E/\jZ g.G s base rows/\wI g s base B E k
 |.ptr P off,x=>∃b,g.box P=some b/\x = .pointer (some ⟨b,off,none⟩)
 |.gf P off s n,x=>∃b E o,g.box P=some b/\x = .slice o n E/\n<=E/\off+E*s<=g.room P/\(E=0\/o=some ⟨b,off,none⟩)
 |.any,x=>(∀vs,x ≠ .agg vs)/\∀vs,x ≠ .tuple vs
 |.agg cs,x=>∃vs:L Value,x = .agg vs.toArray/\bM g cs vs/\cs.all AV.one=true
 |.fG cs,x=>∃vs:L Value,x = .tuple vs.toArray/\bM g cs vs/\2<=cs.length
def bM(g:Gh):L AV->L Value->Prop
 |[],vs=>vs=[]
 |c::cs,vs=>∃u us,vs=u::us/\aP g c u/\bM g cs us
end
def Gh.le(g g':Gh):Prop :=
 g.G.le g'.G/\(∀k b,g.box k=some b->g'.box k=some b)/\(∀k b,g.box k=some b->g'.room k=g.room k) /\
 ∀k V B,g.tok k=some (V,B)->∃Y W,g'.tok k=some (Y,W)/\V<=Y/\(Y=V->W=B)
def Gh.le.refl(g:Gh):g.le g:=⟨ja.le.refl _,λ_ _ h=>h,λ_ _ _=>rfl,λ_ V Y h=>⟨V,Y,h,aal _,λ_=>rfl⟩⟩
def Gh.le.trans{g g' K:Gh}(h:g.le g')(O:g'.le K):g.le K:=by refine⟨h.1.trans O.1,λk b x=>O.2.1 k b (h.2.1 k b x),λk b x=>(O.2.2.1 k b (h.2.1 k b x)).trans (h.2.2.1 k b x),λk V B x=>?_⟩;obtain⟨C,Y,P,I,U⟩:=h.2.2.2 k V B x;obtain⟨T,W,S,E,Q⟩:=O.2.2.2 k C Y P;grind
def jZ.mono{G P:ja}(h:G.le P){s:Nat}{base:Option Addr}{rows:L CV}(x:jZ G s base rows):jZ P s base rows :=
 x.imp id λ⟨b,o,e,r⟩=>⟨b,o,e,fE.mono h s b o rows r⟩
def wI.mono{g g':Gh}(h:g.le g'){s:Nat}{base:Option Addr}{B E:Nat}:∀{k:Va},wI g s base B E k->wI g' s base B E k
 |.exact,x=>x
 |.tok P n,⟨V,W,e,O,A⟩=>by obtain⟨U,T,e',S,Y⟩:=h.2.2.2 P V W e;refine⟨U,T,e',abJ O S,λQ=>?_⟩;grind
mutual
def aP.mono{g g':Gh}(h:g.le g'):∀(a:AV)(v:Value),aP g a v->aP g' a v
 |.c v,x,r=>by simp only[aP]at r ⊢;exact Rel.mono h.1 v x r
 |.own k s rows,x,r=>by obtain⟨base,B,E,e,V,D,A,Y⟩:=r;exact⟨base,B,E,e,V,D,A.mono h.1,Y.mono h⟩
 |.ptr P off,x,r=>by obtain⟨b,W,e⟩:=r;exact⟨b,h.2.1 _ _ W,e⟩
 |.gf P off s n,x,r=>by obtain⟨b,E,o,W,e,h1,h2,U⟩:=r;exact⟨b,E,o,h.2.1 _ _ W,e,h1,by rw[h.2.2.1 _ _ W];exact h2,U⟩
 |.any,x,r=>by simp only[aP]at r ⊢;exact r
 |.agg cs,x,r=>by obtain⟨vs,e,A,Y⟩:=r;exact⟨vs,e,bM.mono h cs vs A,Y⟩
 |.fG cs,x,r=>by obtain⟨vs,e,A,Y⟩:=r;exact⟨vs,e,bM.mono h cs vs A,Y⟩
def bM.mono{g g':Gh}(h:g.le g'):∀(cs:L AV)(vs:L Value),bM g cs vs->bM g' cs vs
 |[],_,r=>by simpa[bM]using r
 |c::cs,vs,r=>by obtain⟨u,us,e,D,A⟩:=r;exact⟨u,us,e,aP.mono h c u D,bM.mono h cs us A⟩
end
def ak{α:Type}(k:Nat):L (Nat×α)->Option α
 |[]=>none
 |(j,x)::l=>match Nat.beq j k with
  |true=>some x
  |false=>ak k l
def BH{α:Type}(k:Nat):L (Nat×α)->L (Nat×α)
 |[]=>[]
 |(j,x)::l=>match Nat.beq j k with
  |true=>BH k l
  |false=>(j,x)::BH k l
def tT{α:Type}(k:Nat)(y:α):L (Nat×α)->L (Nat×α)
 |[]=>[(k,y)]
 |(j,x)::l=>match Nat.beq j k with
  |true=>(j,y)::l
  |false=>(j,x)::tT k y l
def wJ{α:Type}(k:Nat)(y:α):L (Nat×α)->Option (L (Nat×α))
 |[]=>some [(k,y)]
 |(j,x)::l=>match Nat.beq j k with
  |true=>some ((j,y)::l)
  |false=>match wJ k y l with
   |some r=>some ((j,x)::r)
   |none=>none
def rS{α:Type}(k:Nat)(y:α):∀(l:L (Nat×α)),wJ k y l=some (tT k y l)
 |[]=>rfl
 |(j,x)::l=>by simp only[wJ,tT,rS k y l];split<;>rfl
def beq_true{j k:Nat}(h:Nat.beq j k=true):j=k:=aec h
def beq_false{j k:Nat}(h:Nat.beq j k=false):j≠k:=Nat.ne_of_beq_eq_false h
def jy{α:Type}(k j:Nat)(l:L (Nat×α)):ak j (BH k l)=if j=k then none else ak j l:=by
 induction l with
 |nil=>simp[BH,ak]
 |cons x l S =>
  simp only[BH];split;rename_i h;rw[S];split;rfl;rename_i H;simp only[ak];split;simp_all;rfl;rename_i h;simp only[ak];grind
def eu{α:Type}(k j:Nat)(y:α)(l:L (Nat×α)):ak j (tT k y l)=if j=k then some y else ak j l:=by
 induction l with
 |nil =>
  simp only[tT,ak];split;simp_all;rename_i h;have:=beq_false h;rw[if_neg (λe=>this e.symm)]
 |cons x l S =>
  simp only[tT];split;rename_i h;simp only[ak];split;simp_all;grind;rename_i h;simp only[ak];grind
structure St where
 boxes:List (Nat×List AV)
 toks:List (Nat×Nat)
 used:List Nat
 deriving Inhabited
def bU(w:World)(g:Gh)(b:Nat):Nat->L AV->Prop
 |_,[]=>True
 |o,c::cs=>(∃u,w.cell? ⟨b,o,none⟩=some u/\aP g c u/\c.one=true)/\w.frozen? ⟨b,o,none⟩=false/\bU w g b (o+1) cs
def bU.mono{w:World}{g g':Gh}(h:g.le g'){b:Nat}:∀{o:Nat}{cs:L AV},bU w g b o cs->bU w g' b o cs
 |_,[],_=>trivial
 |_,_::_,⟨⟨u,W,A,Y⟩,hf,pK⟩=>⟨⟨u,W,aP.mono h _ _ A,Y⟩,hf,bU.mono h pK⟩
def bU.of_same{w w':World}{g:Gh}{b:Nat}(h:∀o,w'.cell? ⟨b,o,none⟩=w.cell? ⟨b,o,none⟩/\w'.frozen? ⟨b,o,none⟩=w.frozen? ⟨b,o,none⟩) :
  ∀{o:Nat}{cs:L AV},bU w g b o cs->bU w' g b o cs
 |_,[],_=>trivial
 |_,_::_,⟨⟨u,W,A,Y⟩,hf,pK⟩=>⟨⟨u,(h _).1.trans W,A,Y⟩,(h _).2.trans hf,bU.of_same h pK⟩
structure Inv(w:World)(g:Gh)(σ:St):Prop where
 oC:∀b o v,g.G b o=some v->w.cell? ⟨b,o,none⟩=some v
 box:∀k cs,ak k σ.boxes=some cs->∃b,g.box k=some b/\b<w.heap.size/\(∀o,g.G b o=none)/\bU w g b 0 cs
 fq:∀k k' cs cs' b,ak k σ.boxes=some cs->ak k' σ.boxes=some cs'->g.box k=some b->g.box k'=some b->k=k'
 tok:∀k n,ak k σ.toks=some n->∃fI,g.tok k=some (n,fI)/\∀b lo hi,fI=some (b,lo,hi)->b<w.heap.size /\
  (∀o,lo<=o->o<hi->g.G b o=none/\(∃u,w.cell? ⟨b,o,none⟩=some u)/\w.frozen? ⟨b,o,none⟩=false) /\
  ∀k' cs,ak k' σ.boxes=some cs->g.box k'≠some b
 gh:∀k k' n n' b lo hi lo' hi',ak k σ.toks=some n->ak k' σ.toks=some n' ->
  g.tok k=some (n,some (b,lo,hi))->g.tok k'=some (n',some (b,lo',hi'))->k=k'
 used:∀k,g.box k≠none\/g.tok k≠none->k∈σ.used
 room:∀k cs b,ak k σ.boxes=some cs->g.box k=some b->∀o,(o<g.room k->∃u,w.cell? ⟨b,o,none⟩=some u)/\w.frozen? ⟨b,o,none⟩=false
def Inv.Wd{w:World}{g:Gh}{σ:St}(U:Inv w g σ)(k:Nat)(cs:L AV)(b:Nat)(e:ak k σ.boxes=some cs)(A:g.box k=some b)(o:Nat)(Y:o<g.room k):(∃u,w.cell? ⟨b,o,none⟩=some u)/\w.frozen? ⟨b,o,none⟩=false :=
 ⟨(U.room k cs b e A o).1 Y,(U.room k cs b e A o).2⟩
def Inv.zZ{w w':World}{g:Gh}{σ:St}(U:Inv w g σ)(h:∀k cs b,ak k σ.boxes=some cs->g.box k=some b->b<w.heap.size->∀o,w'.cell? ⟨b,o,none⟩=w.cell? ⟨b,o,none⟩/\w'.frozen? ⟨b,o,none⟩=w.frozen? ⟨b,o,none⟩) :
  ∀k cs b,ak k σ.boxes=some cs->g.box k=some b->∀o,(o<g.room k->∃u,w'.cell? ⟨b,o,none⟩=some u)/\w'.frozen? ⟨b,o,none⟩=false:=by
 intro k cs b e A o;obtain⟨N,h1,h2,_⟩:=U.box k cs e;rw[A]at h1;obtain⟨S,P⟩:=U.room k cs b e A o;grind
def ir(g:Gh)(σ:St)(b o:Nat):Prop :=
 (∃k cs,ak k σ.boxes=some cs/\g.box k=some b) \/
 ∃k n Q W,ak k σ.toks=some n/\g.tok k=some (n,some (b,Q,W))/\Q<=o/\o<W
structure gG(w:World)(g:Gh)(σ:St)(w':World)(g':Gh)(σ':St):Prop where
 os:w'.os=w.os
 tape:w'.tape=w.tape
 output:w'.output=w.output
 size:w.heap.size<=w'.heap.size
 block:∀b,b<w.heap.size->(∀o,¬ir g σ b o)->w'.heap[b]?=w.heap[b]?
 kept:∀b o,b<w.heap.size->¬ir g σ b o->w'.cell? ⟨b,o,none⟩=w.cell? ⟨b,o,none⟩/\w'.frozen? ⟨b,o,none⟩=w.frozen? ⟨b,o,none⟩
 le:g.G.le g'.G
 new:∀b o v,g'.G b o=some v->g.G b o=some v\/w.heap.size<=b\/ir g σ b o
 boxes:∀k cs b,ak k σ'.boxes=some cs->g'.box k=some b->w.heap.size<=b\/∃k0 cs0,ak k0 σ.boxes=some cs0/\g.box k0=some b
 toks:∀k n b lo hi,ak k σ'.toks=some n->g'.tok k=some (n,some (b,lo,hi))->w.heap.size<=b \/
  ∃k0 n0 Es qh,ak k0 σ.toks=some n0/\g.tok k0=some (n0,some (b,Es,qh))/\Es<=lo/\hi<=qh
 ids:∀k,1000000<=k->ak k σ'.boxes≠none->ak k σ.boxes≠none/\g'.box k=g.box k/\g'.room k=g.room k
def gG.owned{w w':World}{g g':Gh}{σ D:St}(h:gG w g σ w' g' D){b o:Nat}(Y:ir g' D b o):w.heap.size<=b\/ir g σ b o:=by
 rcases Y with ⟨k,cs,h1,h2⟩|⟨k,n,V,E,h1,h2,O,N⟩
 exact(h.boxes k cs b h1 h2).imp id λ⟨Q,W,e⟩ => .inl ⟨Q,W,e⟩;exact(h.toks k n b V E h1 h2).imp id λ⟨Q,U,T,S,B,P,M,p⟩ => .inr ⟨Q,U,T,S,B,P,bn,bn⟩
def gG.refl(w:World)(g:Gh)(σ:St):gG w g σ w g σ where
 os:=rfl
 tape:=rfl
 output:=rfl
 size:=aal _
 block:=λ_ _ _=>rfl
 kept:=λ_ _ _ _=>⟨Z,Z⟩
 le:=ja.le.refl _
 new:=λ_ _ _ h => .inl h
 boxes:=λk cs _ h1 h2 => .inr ⟨k,cs,h1,h2⟩
 toks:=λk n _ Q W h1 h2 => .inr ⟨k,n,Q,W,h1,h2,aal _,aal _⟩
 ids:=λ_ _ h=>⟨h,Z,Z⟩
def gG.trans{w N P:World}{g g1 I:Gh}{σ B Y:St}(h:gG w g σ N g1 B)(O:gG N g1 B P I Y):gG w g σ P I Y where
 os:=O.os.trans h.os
 tape:=O.tape.trans h.tape
 output:=O.output.trans h.output
 size:=abJ h.size O.size
 block:=λb A W=>by
  rw[O.block b (abX A h.size) λo S=>by
   rcases h.owned S with x|x
   omega
   exact W o x]
  exact h.block b A W
 kept:=λb o A W=>by
  have h1:=h.kept b o A W;have h2:=O.kept b o (abX A h.size) λS=>by
   rcases h.owned S with x|x
   omega;grind
  simp_all
 le:=h.le.trans O.le
 new:=λb o v x=>by
  rcases O.new b o v x with x|x|x
  exact h.new b o v x;exact .inr (.inl (abJ h.size x));rcases h.owned x with x|x
  omega;simp_all
 boxes:=λk cs b h1 h2=>by
  rcases O.boxes k cs b h1 h2 with x|⟨Q,V,U,T⟩
  exact .inl (abJ h.size x);exact h.boxes Q V b U T
 toks:=λk n b M K h1 h2=>by
  rcases O.toks k n b M K h1 h2 with x|⟨Q,J,H,D,U,T,e3,e4⟩
  exact .inl (abJ h.size x);rcases h.toks Q J b H D U T with x|⟨q,C,u,G,p,f2,f3,f4⟩
  exact .inl x;exact .inr ⟨q,C,u,G,p,f2,bn,bn⟩
 ids:=λk E h2=>by obtain⟨h3,h4,h4'⟩:=O.ids k E h2;obtain⟨h5,h6,h6'⟩:=h.ids k E h3;simp_all
def tH(g:Gh)(env:L (Nat×AV))(B:Array Value):Prop:=∀t a,ak t env=some a->aP g a (B.getD t undef)
def tH.mono{g g':Gh}(h:g.le g'){env:L (Nat×AV)}{B:Array Value}(x:tH g env B):tH g' env B :=
 λt a e=>aP.mono h _ _ (x t a e)
inductive TK where
 |int (k:IntKind)|bool|str|ptr (e:Nat)|slice (e:Nat)|arr (n e:Nat)|struct (fs:List (Nat×Nat))|other
 deriving Inhabited
structure TI where
 size:Nat
 bytes:Nat
 kind:TK
 zero:Option AV
 deriving Inhabited
def TI.isAgg(i:TI):Bool:=match i.kind with
 |.arr .. | .struct .. => true
 |_=>false
structure Ctx where
 ti:Nat->Option TI
 rT:Nat->Option CV
def iE(P:Program):TK->TypeDesc->Prop
 |.int k,d=>d = .int k
 |.bool,d=>d = .bool
 |.str,d=>d = .string
 |.ptr e,d=>d = .pointer e
 |.slice e,d=>d = .slice e
 |.arr n e,d=>d = .array n e
 |.struct W,d=>∃Y:Array Field,d = .struct Y/\Y.toList.map (λf=>(f.offset,f.type))=W /\
   ∀f∈Y.toList,∃T,P.info? f.type=some T/\T.size≠0
 |.other,d=>(match d with | .struct _ | .array _ _=>false|_=>true)=true
structure cg(P:Program)(X:Ctx):Prop where
 ti:∀t i,X.ti t=some i->∃inf,P.info? t=some inf/\inf.size=i.size/\inf.bytes=i.bytes /\
  (∀a,i.zero=some a->∃z,inf.zero=some z/\(∀g,aP g a z)/\z.cells.size=i.size)/\(∃d,P.underlying t=some d/\iE P i.kind d)/\i.size≠0
def oz(X:Ctx)(G:ja):Prop:=∀n v,X.rT n=some v->Rel G v (.pointer (some ⟨n,0,none⟩))
section types
variable {P : Program}{X : Ctx}{w : World}{t : Nat}{i : TI}
def cg.run_sizeOf(h:cg P X)(e:X.ti t=some i):(sizeOf t).run P w = .ok i.size w:=by obtain⟨T,h1,h2,_⟩:=h.ti t i e;simp[sizeOf,typeInfo,h1,h2]
def cg.run_underlying(h:cg P X)(e:X.ti t=some i):∃d,(underlying t).run P w = .ok d w/\iE P i.kind d/\P.underlying t=some d:=by obtain⟨T,h1,h2,U,_,⟨d,Y,Q⟩,_⟩:=h.ti t i e;exact⟨d,by simp[underlying,Y],Q,Y⟩
def cg.lq(h:cg P X)(e:X.ti t=some i){a:AV}(Y:i.zero=some a):∃z,(zeroValue t).run P w = .ok z w/\(∀g,aP g a z)/\z.cells.size=i.size:=by obtain⟨T,h1,h2,U,Q,_⟩:=h.ti t i e;obtain⟨z,W,V,S⟩:=Q a Y;exact⟨z,by simp[zeroValue,typeInfo,h1,W],V,S⟩
def cg.oX(h:cg P X)(e:X.ti t=some i):(isAgg t).run P w = .ok i.isAgg w:=by
 obtain⟨d,h1,h2,_⟩:=h.run_underlying (w:=w) e;simp only[isAgg,Sem.run_bind,h1];unfold TI.isAgg;cases E:i.kind<;>rw[E]at h2<;>simp only[iE]at h2
 case struct fs=>obtain⟨Y,rfl,_⟩:=h2;rfl
 case other=>cases d<;>simp at h2<;>rfl
 all_goals subst h2;rfl
end types
def takeN{α:Type}:Nat->List α->Option (List α)
 |0,_=>some []
 |_+1,[]=>none
 |n+1,x::l=>match takeN n l with
  |some r=>some (x::r)
  |none=>none
def gl{α:Type}:Nat->List α->Option (List α)
 |0,l=>some l
 |_+1,[]=>none
 |n+1,_::l=>gl n l
def pL{α:Type}:∀{n:Nat}{l r:List α},takeN n l=some r->r=l.take n/\n<=l.length
 |0,l,r,h=>by simp[takeN]at h;subst h;simp
 |n+1,[],r,h=>by simp[takeN]at h
 |n+1,x::l,r,h=>by simp only[takeN]at h;split at h;rename_i Y O;obtain⟨rfl,V⟩:=pL O;simp_all;grind
def j6{α:Type}:∀{n:Nat}{l r:List α},gl n l=some r->r=l.drop n/\n<=l.length
 |0,l,r,h=>by simp[gl]at h;subst h;simp
 |n+1,[],r,h=>by simp[gl]at h
 |n+1,x::l,r,h=>by simp only[gl]at h;obtain⟨rfl,V⟩:=j6 h;simp;exact V
def cW.drop{G:ja}{b:Nat}:∀{o n:Nat}{cs:L CV},cW G b o cs->cW G b (o+n) (cs.drop n)
 |o,0,cs,h=>by simpa using h
 |o,n+1,[],h=>by simp[cW]
 |o,n+1,x::cs,h=>by have:=cW.drop (n:=n) h.2;grind
def cW.jF{G:ja}{b:Nat}:∀{o:Nat}{cs:L CV},(∀(j:Nat) c,cs[j]?=some c->∃u,G b (o+j)=some u/\Rel G c u/\c.one=true)->cW G b o cs
 |o,[],_=>by simp[cW]
 |o,x::cs,h=>by refine⟨by simpa using h 0 x c9,cW.jF λj c T=>?_⟩;have:=h (j+1) c aaE;grind
def fE.get{G:ja}{s b:Nat}:∀{o:Nat}{rows:L CV},fE G s b o rows->∀(j:Nat) r,rows[j]?=some r->cW G b (o+j*s) r.cells/\r.cells.length=s
 |o,[],_,j,r,h=>by simp at h
 |o,x::rows,h,j,r,hj=>by
  cases j with
  |zero=>simp at hj;subst hj;exact⟨by simpa using (yB G b o x).1 h.1,h.2.1⟩
  |succ j =>
   have:=h.2.2.get j r hj;grind
def fE.drop{G:ja}{s b:Nat}:∀{o n:Nat}{rows:L CV},fE G s b o rows->fE G s b (o+n*s) (rows.drop n)
 |o,0,rows,h=>by simpa using h
 |o,n+1,[],h=>by simp[fE]
 |o,n+1,x::rows,h=>by have:=fE.drop (n:=n) h.2.2;grind
def fE.take{G:ja}{s b:Nat}:∀{o n:Nat}{rows:L CV},fE G s b o rows->fE G s b o (rows.take n)
 |o,0,rows,h=>by simp[fE]
 |o,n+1,[],h=>by simp[fE]
 |o,n+1,x::rows,h=>by exact⟨h.1,h.2.1,fE.take h.2.2⟩
def bU.get{w:World}{g:Gh}{b:Nat}:∀{o:Nat}{cs:L AV},bU w g b o cs->∀(j:Nat) c,cs[j]?=some c ->
  (∃u,w.cell? ⟨b,o+j,none⟩=some u/\aP g c u/\c.one=true)/\w.frozen? ⟨b,o+j,none⟩=false
 |o,[],_,j,c,h=>by simp at h
 |o,x::cs,h,j,c,hj=>by
  simp only[bU]at h;cases j with
  |zero=>simp at hj;subst hj;exact⟨h.1,h.2.1⟩
  |succ j =>
   have:=h.2.2.get j c hj;grind
def bU.jF{w:World}{g:Gh}{b:Nat}:∀{o:Nat}{cs:L AV},(∀(j:Nat) c,cs[j]?=some c ->
  (∃u,w.cell? ⟨b,o+j,none⟩=some u/\aP g c u/\c.one=true)/\w.frozen? ⟨b,o+j,none⟩=false)->bU w g b o cs
 |o,[],_=>trivial
 |o,x::cs,h=>by refine⟨by simpa using (h 0 x c9).1,by simpa using (h 0 x c9).2,bU.jF λj c T=>?_⟩;have:=h (j+1) c aaE;grind
def bT.get{G:ja}:∀{cs:L CV}{vs:L Value},bT G cs vs->cs.length=vs.length/\∀(j:Nat) c,cs[j]?=some c->∃u,vs[j]?=some u/\Rel G c u
 |[],vs,h=>by simp only[bT]at h;subst h;simp
 |c::cs,vs,h=>by
  obtain⟨u,us,rfl,D,A⟩:=h;obtain⟨V,Q⟩:=A.get;refine⟨aaH,λj Y T=>?_⟩;cases j with
  |zero=>simp at T;subst T;exact⟨u,c9,D⟩
  |succ j=>simp at T;simpa using Q j Y T
def bM.get{g:Gh}:∀{cs:L AV}{vs:L Value},bM g cs vs->cs.length=vs.length/\∀(j:Nat) c,cs[j]?=some c->∃u,vs[j]?=some u/\aP g c u
 |[],vs,h=>by simp only[bM]at h;subst h;simp
 |c::cs,vs,h=>by
  obtain⟨u,us,rfl,D,A⟩:=h;obtain⟨V,Q⟩:=A.get;refine⟨aaH,λj Y T=>?_⟩;cases j with
  |zero=>simp at T;subst T;exact⟨u,c9,D⟩
  |succ j=>simp at T;simpa using Q j Y T
def bT.jF{G:ja}:∀{cs:L CV}{vs:L Value},cs.length=vs.length->(∀(j:Nat) c u,cs[j]?=some c->vs[j]?=some u->Rel G c u)->bT G cs vs
 |[],vs,h,_=>by simp_all;exact acG (by simpa using h.symm)
 |c::cs,[],h,_=>by simp at h
 |c::cs,u::us,h,Q=>by exact⟨u,us,Z,Q 0 c u c9 c9,bT.jF nW λj Y M h1 h2=>Q (j+1) Y M Y7 K0⟩
def bM.jF{g:Gh}:∀{cs:L AV}{vs:L Value},cs.length=vs.length->(∀(j:Nat) c u,cs[j]?=some c->vs[j]?=some u->aP g c u)->bM g cs vs
 |[],vs,h,_=>by simp_all;exact acG (by simpa using h.symm)
 |c::cs,[],h,_=>by simp at h
 |c::cs,u::us,h,Q=>by exact⟨u,us,Z,Q 0 c u c9 c9,bM.jF nW λj Y M h1 h2=>Q (j+1) Y M Y7 K0⟩
end Go.cB
namespace Go.cB
def G0:Value->Option AV
 |.int k n=>some (.c (.int k n))
 |.bool b=>some (.c (.bool b))
 |.string s=>some (.c (.str s.data.toList))
 |.pointer none=>some (.c .ld)
 |.slice none 0 0=>some (.own .exact 0 [])
 |_=>none
def CT:L Value->Option (L AV)
 |[]=>some []
 |v::vs=>match G0 v with
  |some a=>match CT vs with
   |some l=>some (a::l)
   |none=>none
  |none=>none
def R9:Value->Option AV
 |.agg cs=>match CT cs.toList with
  |some l=>some (.agg l)
  |none=>none
 |v=>G0 v
def Fu(g:Gh):∀{v:Value}{a:AV},G0 v=some a->aP g a v/\a.one=true:=by intro v a h;unfold G0 at h;split at h<;>simp at h<;>subst h<;>simp[aP,Rel,AV.one,CV.one];exact⟨_,_,_,⟨rfl,rfl,rfl⟩,rfl,aal _,.inl rfl,rfl⟩
def Fv(g:Gh):∀{vs:L Value}{l:L AV},CT vs=some l->bM g l vs/\l.all AV.one=true
 |[],l,h=>by simp[CT]at h;subst h;simp[bM]
 |v::vs,l,h=>by simp only[CT]at h;split at h;rename_i a W;split at h;rename_i p V;simp at h;subst h;obtain⟨h1,h2⟩:=Fu g W;obtain⟨U,P⟩:=Fv g V;exact⟨by simp_all;exact⟨v,vs,rfl,h1,U⟩,by simp[h2];simpa using P⟩;grind;grind
def Sa(g:Gh){v:Value}{a:AV}(h:R9 v=some a):aP g a v:=by unfold R9 at h;split at h;rename_i cs;split at h;rename_i l V;simp at h;subst h;obtain⟨h1,h2⟩:=Fv g V;exact⟨cs.toList,c9,h1,h2⟩;grind;exact(Fu g h).1
def aH(X:Ctx)(env:L (Nat×AV)):Operand->Option AV
 |.tmp t=>ak t env
 |.const v=>R9 v
 |.global n=>match X.rT n with
  |some v=>some (.c v)
  |none=>none
 |.func f=>some (.c (.tO f []))
def bV{X:Ctx}{g:Gh}{env:L (Nat×AV)}{a:Act}(Y:tH g env a.tmps)(Q:oz X g.G){x:Operand}{v:AV}(h:aH X env x=some v):aP g v (a.eval x):=by
 cases x with
 |tmp t=>exact Y t v h
 |const c=>exact Sa g h
 |global n =>
  simp only[aH]at h;split at h;rename_i O D;simp at h;subst h;exact Q n O D;grind
 |func f=>simp[aH]at h;subst h;exact⟨[],rfl,by simp[bT]⟩
def nth{α:Type}:List α->Nat->Option α
 |[],_=>none
 |x::_,0=>some x
 |_::l,n+1=>nth l n
def qV{α:Type}:∀(l:List α)(n:Nat),nth l n=l[n]?
 |[],n=>by simp[nth]
 |x::l,0=>by simp[nth]
 |x::l,n+1=>by simp[nth,qV l n]
def We(t:Bool)(a b:AV):Option AV :=
 match a,b with
 |.c (.bool x),.c (.bool y)=>some (.c (.bool (bif t then x else y)))
 |_,_=>match t with
  |true=>some a
  |false=>some b
def wK(i:TI)(cells:L AV):Option AV :=
 match i.isAgg with
 |true=>match takeN i.size cells with
  |some l=>some (.agg l)
  |none=>none
 |false=>match cells with
  |c::_=>some c
  |[]=>none
def z8(i:TI)(cells:L CV):Option AV :=
 match i.isAgg with
 |true=>match takeN i.size cells with
  |some l=>some (.c (.agg l))
  |none=>none
 |false=>match cells with
  |c::_=>some (.c c)
  |[]=>none
section
variable {P : Program}{X : Ctx}{w : World}{g : Gh}
def yC(hX:cg P X){t:Nat}{i:TI}(W:X.ti t=some i)(Y:i.isAgg=true)(b o:Nat)(vs:L Value)(V:vs.length=i.size)
  (h:∀j v,vs[j]?=some v->w.cell? ⟨b,o+j,none⟩=some v) :
  (Instr.loadAt t (.pointer (some ⟨b,o,none⟩))).run P w = .ok (.agg vs.toArray) w:=by
 have D:=run_loadCells_list (P:=P) w ⟨b,o,none⟩ vs (λj v T=>by rw[Addr.add_lit];exact h j v T);simp only[Instr.loadAt,Instr.sureAddr,loadVar,Sem.run_bind,Result.andThen_ok,hX.oX W,Y,if_true,hX.run_sizeOf W];simp_all
def yD(hX:cg P X){t:Nat}{i:TI}(W:X.ti t=some i)(Y:i.isAgg=false)(b o:Nat)(v:Value)
  (h:w.cell? ⟨b,o,none⟩=some v) :
  (Instr.loadAt t (.pointer (some ⟨b,o,none⟩))).run P w = .ok v w:=by
 simp[Instr.loadAt,Instr.sureAddr,loadVar,hX.oX W,Y,h]
def Sb(hX:cg P X){t:Nat}{i:TI}(E:X.ti t=some i){b o:Nat}{cells:L AV}(D:bU w g b o cells){v:AV}(h:wK i cells=some v) :
  ∃u,(Instr.loadAt t (.pointer (some ⟨b,o,none⟩))).run P w = .ok u w/\aP g v u:=by
 unfold wK at h;split at h
 ·rename_i W;split at h
  ·rename_i l S;simp at h;subst h;obtain⟨rfl,O⟩:=pL S;have Y:∀(n:Nat)(cs:L AV)(o:Nat),bU w g b o cs->n<=cs.length->∃vs:L Value,vs.length=n/\(∀j v,vs[j]?=some v->w.cell? ⟨b,o+j,none⟩=some v)/\bM g (cs.take n) vs/\(cs.take n).all AV.one=true:=by
    intro n
    induction n with
    |zero=>intro cs o _ _;exact⟨[],Z,c9,by simp[bM],c9⟩
    |succ n Q =>
     intro cs o M A;cases cs with
     |nil=>simp at A
     |cons x cs =>
      obtain⟨⟨u,V,p,N⟩,_,pK⟩:=M;obtain⟨vs,h1,h2,U,T⟩:=Q cs (o+1) pK (by simpa using A);refine⟨u::vs,T1,?_,?_,?_⟩;grind;exact⟨u,vs,Z,p,U⟩;grind
   obtain⟨vs,h1,h2,U,T⟩:=Y i.size cells o D O;exact⟨.agg vs.toArray,yC hX E W b o vs h1 h2,by simp only[aP];exact⟨vs,Z,U,T⟩⟩
  grind
 rename_i W;split at h;rename_i c rest;simp at h;subst h;obtain⟨⟨u,V,p,_⟩,_,_⟩:=D;exact⟨u,yD hX E W b o u V,p⟩;simp at h
def Pw(hX:cg P X)(Q:∀b o v,g.G b o=some v->w.cell? ⟨b,o,none⟩=some v){t:Nat}{i:TI}(E:X.ti t=some i){b o:Nat}{cells:L CV}
  (D:cW g.G b o cells){v:AV}(h:z8 i cells=some v) :
  ∃u,(Instr.loadAt t (.pointer (some ⟨b,o,none⟩))).run P w = .ok u w/\aP g v u:=by
 unfold z8 at h;split at h
 ·rename_i W;split at h
  ·rename_i l S;simp at h;subst h;obtain⟨rfl,O⟩:=pL S;have Y:∀(n:Nat)(cs:L CV)(o:Nat),cW g.G b o cs->n<=cs.length->∃vs:L Value,vs.length=n/\(∀j v,vs[j]?=some v->w.cell? ⟨b,o+j,none⟩=some v)/\bT g.G (cs.take n) vs/\(cs.take n).all CV.one=true:=by
    intro n
    induction n with
    |zero=>intro cs o _ _;exact⟨[],Z,c9,by simp[bT],c9⟩
    |succ n N =>
     intro cs o M A;cases cs with
     |nil=>simp at A
     |cons x cs =>
      obtain⟨⟨u,V,p,K⟩,pK⟩:=M;obtain⟨vs,h1,h2,U,T⟩:=N cs (o+1) pK (by simpa using A);refine⟨u::vs,T1,?_,?_,?_⟩;grind;exact⟨u,vs,Z,p,U⟩;grind
   obtain⟨vs,h1,h2,U,T⟩:=Y i.size cells o D O;exact⟨.agg vs.toArray,yC hX E W b o vs h1 h2,by simp only[aP];exact⟨vs,Z,U,T⟩⟩
  grind
 rename_i W;split at h;rename_i c rest;simp at h;subst h;simp only[cW]at D;obtain⟨⟨u,V,p,_⟩,_⟩:=D;exact⟨u,yD hX E W b o u (Q _ _ _ V),by simpa only[aP]using p⟩;simp at h
end
end Go.cB
namespace Go.cB
def Sc(u:BinOp)(k:IntKind)(a b:Int):Option CV :=
 match u with
 |.add=>some (.int k (k.wrap (a+b)))
 |.sub=>some (.int k (k.wrap (a-b)))
 |.mul=>some (.int k (k.wrap (a*b)))
 |.quo=>match b==0 with
  |true=>none
  |false=>some (.int k (k.wrap (a.tdiv b)))
 |.rem=>match b==0 with
  |true=>none
  |false=>some (.int k (a.tmod b))
 |.and=>some (.int k (k.wrap (BitVec.ofInt k.bits a&&&BitVec.ofInt k.bits b).toNat))
 |.or=>some (.int k (k.wrap (BitVec.ofInt k.bits a|||BitVec.ofInt k.bits b).toNat))
 |.xor=>some (.int k (k.wrap (BitVec.ofInt k.bits a ^^^ BitVec.ofInt k.bits b).toNat))
 |.eql=>some (.bool (a==b))
 |.neq=>some (.bool (a != b))
 |.lss=>some (.bool (decide (a<b)))
 |.leq=>some (.bool (decide (a<=b)))
 |.gtr=>some (.bool (decide (a>b)))
 |.geq=>some (.bool (decide (a>=b)))
 |_=>none
def sameKind:IntKind->IntKind->Bool
 |.i64,.i64 | .u8,.u8 | .u64,.u64 | .i32,.i32 | .u32,.u32=>true
 |_,_=>false
def JI{j k:IntKind}(h:sameKind j k=true):j=k:=by cases j<;>cases k<;>simp[sameKind]at h<;>rfl
def G1(u:BinOp)(k:IntKind)(a b:Int):Option CV :=
 match u,b with
 |.shl,.ofNat n=>some (.int k (k.wrap (a*2^(min n k.bits))))
 |.shr,.ofNat n=>some (.int k (a.fdiv (2^(min n k.bits))))
 |_,_=>none
def Xn(u:BinOp)(a b:L UInt8):Option CV :=
 match u with
 |.eql=>some (.bool (a==b))
 |.neq=>some (.bool (!(a==b)))
 |.lss=>some (.bool (Op.bytesLess a b))
 |.gtr=>some (.bool (!(Op.bytesLess a b||a==b)))
 |_=>none
def Sd(k:TK)(u:BinOp)(x y:AV):Option AV :=
 match x,y with
 |.c (.int j a),.c (.int j' b) =>
  match u with
  |.shl | .shr=>match G1 u j a b with
   |some v=>some (.c v)
   |none=>none
  |_=>match sameKind j j' with
   |true=>match Sc u j a b with
    |some v=>some (.c v)
    |none=>none
   |false=>none
 |.c (.str a),.c (.str b)=>match Xn u a b with
  |some v=>some (.c v)
  |none=>none
 |.c (.bool a),.c (.bool b)=>match k,u with
  |.bool,.eql=>some (.c (.bool (a==b)))
  |.bool,.neq=>some (.c (.bool (!(a==b))))
  |_,_=>none
 |.c (.ip _),.c .ld=>match k,u with
  |.ptr _,.eql=>some (.c (.bool false))
  |.ptr _,.neq=>some (.c (.bool true))
  |_,_=>none
 |.c .ld,.c .ld=>match k,u with
  |.ptr _,.eql=>some (.c (.bool true))
  |.ptr _,.neq=>some (.c (.bool false))
  |_,_=>none
 |_,_=>none
section
variable {P : Program}{X : Ctx}{w : World}{g : Gh}
def Vb{C:BinOp}{k:IntKind}{a b:Int}{v:CV}(h:Sc C k a b=some v)(t:TypeId)(x y:Operand) :
  ∃u,(do eqGuard C t x y (.int k a) (.int k b);binOp C t (.int k a) (.int k b)).run P w = .ok u w/\Rel g.G v u:=by
 cases C<;>simp only[Sc]at h<;>simp only[eqGuard_at_int]
 case quo =>
  split at h;simp at h;rename_i A;simp at h;subst h;have:b≠0:=by simpa using A
  exact⟨_,by simp[binOp,Op.intDiv,this];rfl,X3⟩
 case rem =>
  split at h;simp at h;rename_i A;simp at h;subst h;have:b≠0:=by simpa using A
  exact⟨_,by simp[binOp,Op.intDiv,this];rfl,X3⟩
 all_goals first
  |(simp at h;done)
  |(simp at h;subst h;exact⟨_,by simp[binOp,Op.intArith,Op.intBits,Op.intCmp];rfl,X3⟩)
def Px{C:BinOp}{k k':IntKind}{a b:Int}{v:CV}(h:G1 C k a b=some v)(t:TypeId)(x y:Operand) :
  ∃u,(do eqGuard C t x y (.int k a) (.int k' b);binOp C t (.int k a) (.int k' b)).run P w = .ok u w/\Rel g.G v u:=by
 unfold G1 at h;split at h;rename_i n;simp at h;subst h;refine⟨.int k (k.wrap (a*2^(min n k.bits))),?_,X3⟩;rfl;rename_i n;simp at h;subst h;refine⟨.int k (a.fdiv (2^(min n k.bits))),?_,X3⟩;rfl;grind
def Vc{C:BinOp}{a b:L UInt8}{v:CV}(h:Xn C a b=some v)(t:TypeId)(x y:Operand) :
  ∃u,(do eqGuard C t x y (.string ⟨a.toArray⟩) (.string ⟨b.toArray⟩);binOp C t (.string ⟨a.toArray⟩) (.string ⟨b.toArray⟩)).run P w = .ok u w/\Rel g.G v u:=by
 cases C<;>simp only[Xn]at h<;>first
  |(simp at h;done)
  |(simp at h;subst h;exact⟨_,by simp;rfl,X3⟩)
def yE{t:TypeId}(d:Nat)(h:(underlying t).run P w = .ok .bool w)(a b:Bool):(Op.equalIn (d+1) t (.bool a) (.bool b)).run P w = .ok (a==b) w:=by simp[Op.equalIn,h]
def z9{t e:TypeId}(d:Nat)(h:(underlying t).run P w = .ok (.pointer e) w)(a:Addr):(Op.equalIn (d+1) t (.pointer (some a)) (.pointer none)).run P w = .ok false w:=by simp[Op.equalIn,h]
def Aa{t e:TypeId}(d:Nat)(h:(underlying t).run P w = .ok (.pointer e) w):(Op.equalIn (d+1) t (.pointer none) (.pointer none)).run P w = .ok true w:=by simp[Op.equalIn,h]
def run_equal_bool{t:TypeId}(h:(underlying t).run P w = .ok .bool w)(a b:Bool):(Op.equal t (.bool a) (.bool b)).run P w = .ok (a==b) w :=
 yE 9999 h a b
def jM{t e:TypeId}(h:(underlying t).run P w = .ok (.pointer e) w)(a:Addr):(Op.equal t (.pointer (some a)) (.pointer none)).run P w = .ok false w :=
 z9 9999 h a
def run_equal_nil_nil{t e:TypeId}(h:(underlying t).run P w = .ok (.pointer e) w):(Op.equal t (.pointer none) (.pointer none)).run P w = .ok true w :=
 Aa 9999 h
def CU(t:TypeId)(a b:Bool):binOp .eql t (.bool a) (.bool b)=(do pure (.bool (<- Op.equal t (.bool a) (.bool b)))):=rfl
def CW(t:TypeId)(a b:Bool):binOp .neq t (.bool a) (.bool b)=(do pure (.bool (!(<- Op.equal t (.bool a) (.bool b))))):=rfl
def nE(t:TypeId)(a b:Option Addr):binOp .eql t (.pointer a) (.pointer b)=(do pure (.bool (<- Op.equal t (.pointer a) (.pointer b)))):=rfl
def nF(t:TypeId)(a b:Option Addr):binOp .neq t (.pointer a) (.pointer b)=(do pure (.bool (!(<- Op.equal t (.pointer a) (.pointer b))))):=rfl
def Vd(hX:cg P X){t:Nat}{i:TI}(T:X.ti t=some i){C:BinOp}{x y:AV}{v:AV}(h:Sd i.kind C x y=some v)
  {p q:Value}(D:aP g x p)(hq:aP g y q)(Y W:Operand) :
  ∃u,(do eqGuard C t Y W p q;binOp C t p q).run P w = .ok u w/\aP g v u:=by
 obtain⟨d,U,O,Q⟩:=hX.run_underlying (w:=w) T;unfold Sd at h;split at h
 ·rename_i j a K b;subst D hq;have S:∀(N:CV),G1 C j a b=some N->∃u,(do eqGuard C t Y W (.int j a) (.int K b);binOp C t (.int j a) (.int K b)).run P w = .ok u w/\aP g (.c N) u:=by intro N V;obtain⟨u,h1,h2⟩:=Px (P:=P) (w:=w) (g:=g) (k':=K) V t Y W;exact⟨u,h1,C1⟩
  split at h;grind;grind;split at h;rename_i E;have:=JI E;subst this;split at h;rename_i N V;simp at h;subst h;obtain⟨u,h1,h2⟩:=Vb (P:=P) (w:=w) (g:=g) V t Y W;exact⟨u,h1,C1⟩;grind;grind
 rename_i a b;subst D hq;split at h;rename_i N V;simp at h;subst h;obtain⟨u,h1,h2⟩:=Vc (P:=P) (w:=w) (g:=g) V t Y W;exact⟨u,h1,C1⟩;simp at h
 ·rename_i a b;subst D hq;split at h<;>simp at h<;>subst h<;>rename_i E<;>rw[E]at O<;>simp only[iE]at O<;>subst O;exact⟨.bool (a==b),by simp[eqGuard_at_bool,CU,run_equal_bool U],p5⟩;exact⟨.bool (!(a==b)),by simp[eqGuard_at_bool,CW,run_equal_bool U],p5⟩
 ·rename_i cs;simp only[aP,Rel]at D hq;subst hq;obtain⟨b,o,rfl,_⟩:=D;split at h<;>simp at h<;>subst h<;>rename_i E<;>rw[E]at O<;>simp only[iE]at O<;>subst O;exact⟨.bool false,ot,p5⟩;exact⟨.bool true,ot,p5⟩
 ·simp only[aP,Rel]at D hq;subst D hq;split at h<;>simp at h<;>subst h<;>rename_i E<;>rw[E]at O<;>simp only[iE]at O<;>subst O;exact⟨.bool true,ot,p5⟩;exact⟨.bool false,ot,p5⟩
 simp at h
end
end Go.cB
namespace Go.cB
def opened:L CV->Option (L AV)
 |[]=>some []
 |c::cs=>match opened cs with
  |some l=>some (.c c::l)
  |none=>none
def Fw:∀(cs:L CV),opened cs=some (cs.map AV.c)
 |[]=>rfl
 |c::cs=>by simp[opened,Fw cs]
def jG:AV->Option (L AV)
 |.c (.agg cs)=>opened cs
 |.c (.fG _)=>none
 |.c .undef=>none
 |.fG _=>none
 |.agg cs=>some cs
 |a=>some [a]
def dH:Nat->L AV->L AV->Option (L AV)
 |_,[],l=>some l
 |0,v::vs,_::l=>match dH 0 vs l with
  |some r=>some (v::r)
  |none=>none
 |n+1,vs,x::l=>match dH n vs l with
  |some r=>some (x::r)
  |none=>none
 |_,_::_,[]=>none
mutual
def close:AV->Option CV
 |.c v=>some v
 |.own _ s rows=>some (.sl s rows)
 |.ptr _ _=>none
 |.gf .. => none
 |.any=>none
 |.agg cs=>match Ab cs with
  |some l=>some (.agg l)
  |none=>none
 |.fG cs=>match Ab cs with
  |some l=>some (.fG l)
  |none=>none
def Ab:L AV->Option (L CV)
 |[]=>some []
 |a::l=>match close a with
  |some v=>match Ab l with
   |some r=>some (v::r)
   |none=>none
  |none=>none
end
def asNat:AV->Option Nat
 |.c (.int _ (.ofNat n))=>some n
 |_=>none
def bound(ρ:Operand->Option AV):Option Operand->Option (Option Nat)
 |none=>some none
 |some x=>match ρ x with
  |some a=>match asNat a with
   |some n=>some (some n)
   |none=>none
  |none=>none
def CX(s:Nat)(rows:L CV)(Q:Option Nat)(h:Nat)(exact:Bool):Option AV :=
 match takeN h rows with
 |some q=>match (match Q with
   |some l=>gl l q
   |none=>some q)with
  |some r=>match exact with
   |true=>some (.own .exact s r)
   |false=>some (.c (.sl s r))
  |none=>none
 |none=>none
def CY(k:TK)(es:Nat)(x:AV)(Q W S:Option Nat):Option AV :=
 match k,x with
 |.str,.c (.str s)=>match S with
  |some _=>none
  |none=>match (match W with
    |some h=>takeN h s
    |none=>some s)with
   |some u=>match Q with
    |some l=>match gl l u with
     |some r=>some (.c (.str r))
     |none=>none
    |none=>some (.c (.str u))
   |none=>none
 |.slice _,.own o s rows=>match Nat.beq s es with
  |false=>none
  |true=>match W,S with
  |none,none=>match Q with
   |some l=>match gl l rows with
    |some r=>some (.own o s r)
    |none=>none
   |none=>some (.own o s rows)
  |some h,none=>CX s rows Q h false
  |some h,some m=>match Nat.beq h m with
   |true=>CX s rows Q h true
   |false=>none
  |none,some _=>none
 |.slice _,.c (.sl s rows)=>match Nat.beq s es with
  |false=>none
  |true=>match W,S with
  |none,none=>match Q with
   |some l=>match gl l rows with
    |some r=>some (.c (.sl s r))
    |none=>none
   |none=>some (.c (.sl s rows))
  |some h,none=>CX s rows Q h false
  |some h,some m=>match Nat.beq h m with
   |true=>CX s rows Q h true
   |false=>none
  |none,some _=>none
 |_,_=>none
def rowsOf:AV->Option (Nat×L CV)
 |.own _ s rows=>some (s,rows)
 |.c (.sl s rows)=>some (s,rows)
 |_=>none
def rU(X:Ctx)(ρ:Operand->Option AV)(P:L (Nat×Nat)):L (Nat×Operand)->L AV->Option (L AV)
 |[],cells=>some cells
 |(i,x)::rest,cells=>match nth P i,ρ x with
  |some (off,U),some a=>match X.ti U,jG a with
   |some j,some vs=>match Nat.beq vs.length j.size,dH off vs cells with
    |true,some cells'=>rU X ρ P rest cells'
    |_,_=>none
   |_,_=>none
  |_,_=>none
def Xp(k:TK)(x:AV):Option AV :=
 match k,x with
 |.slice _,.own _ _ rows=>some (.c (.int .i64 rows.length))
 |.slice _,.gf _ _ _ n=>some (.c (.int .i64 n))
 |.slice _,.c (.sl _ rows)=>some (.c (.int .i64 rows.length))
 |.str,.c (.str s)=>some (.c (.int .i64 s.length))
 |.arr n _,_=>some (.c (.int .i64 n))
 |_,_=>none
def Y3:L (Option AV)->Option AV
 |[some (.c (.int k a)),some (.c (.int _ b))]=>some (.c (.int k (if b<a then b else a)))
 |_=>none
def Y4:L (Option AV)->Option AV
 |[some (.c (.int k a)),some (.c (.int _ b))]=>some (.c (.int k (if b>a then b else a)))
 |_=>none
def gL(ρ:Operand->Option AV):L Operand->Option (L CV)
 |[]=>some []
 |x::l=>match ρ x with
  |some a=>match close a with
   |some v=>match gL ρ l with
    |some r=>some (v::r)
    |none=>none
   |none=>none
  |none=>none
def gN(X:Ctx)(N:L (Nat×L AV))(ρ:Operand->Option AV):Op->Option AV
 |.move x=>ρ x
 |.assign x=>ρ x
 |.pick c a b=>match ρ c,ρ a,ρ b with
  |some (.c (.bool t)),some a,some b=>We t a b
  |_,_,_=>none
 |.load t x=>match X.ti t,ρ x with
  |some i,some (.ptr Y off)=>match ak Y N with
   |some cells=>match gl off cells with
    |some l=>wK i l
    |none=>none
   |none=>none
  |some i,some (.c (.ip cs))=>z8 i cs
  |_,_=>none
 |.nilCheck x=>match ρ x with
  |some (.ptr k o)=>some (.ptr k o)
  |some (.c (.ip cs))=>some (.c (.ip cs))
  |some (.c (.tO f cs))=>some (.c (.tO f cs))
  |_=>none
 |.binOp u t x y _=>match X.ti t,ρ x,ρ y with
  |some i,some a,some b=>Sd i.kind u a b
  |_,_,_=>none
 |.unOp u _ x=>match u,ρ x with
  |.not,some (.c (.bool b))=>some (.c (.bool (!b)))
  |.neg,some (.c (.int k n))=>some (.c (.int k (k.wrap (0-n))))
  |_,_=>none
 |.convert s d x=>match X.ti s,X.ti d,ρ x with
  |some _,some j,some (.c (.int _ n))=>match j.kind with
   |.int k=>some (.c (.int k (k.wrap n)))
   |_=>none
  |_,_,_=>none
 |.fieldAddr t x f=>match X.ti t,ρ x with
  |some i,some a=>match i.kind with
   |.struct P=>match nth P f with
    |some (off,_)=>match a with
     |.ptr k o=>some (.ptr k (o+off))
     |.c (.ip cs)=>match gl off cs with
      |some r=>some (.c (.ip r))
      |none=>none
     |_=>none
    |none=>none
   |_=>none
  |_,_=>none
 |.field t x f=>match X.ti t,ρ x with
  |some i,some a=>match i.kind with
   |.struct P=>match nth P f with
    |some (off,U)=>match X.ti U with
     |some j=>match a with
      |.agg cs=>match gl off cs with
       |some r=>wK j r
       |none=>none
      |.c (.agg cs)=>match gl off cs with
       |some r=>z8 j r
       |none=>none
      |_=>none
     |none=>none
    |none=>none
   |_=>none
  |_,_=>none
 |.indexAddr t x p=>match X.ti t,ρ x,ρ p with
  |some i,some a,some n=>match asNat n with
   |some n=>match i.kind with
    |.slice e=>match X.ti e,rowsOf a with
     |some j,some (s,rows)=>match Nat.beq s j.size,nth rows n with
      |true,some r=>some (.c (.ip r.cells))
      |_,_=>none
     |_,_=>none
    |.arr m e=>match X.ti e,a,Nat.blt n m with
     |some j,.ptr k o,true=>some (.ptr k (o+n*j.size))
     |_,_,_=>none
    |_=>none
   |none=>none
  |_,_,_=>none
 |.index t x p=>match X.ti t,ρ x,ρ p with
  |some i,some a,some n=>match asNat n with
   |some n=>match i.kind,a with
    |.str,.c (.str s)=>match nth s n with
     |some b=>some (.c (.int .u8 b.toNat))
     |none=>none
    |_,_=>none
   |none=>none
  |_,_,_=>none
 |.extract x n=>match ρ x with
  |some (.fG cs)=>nth cs n
  |some (.c (.fG cs))=>match nth cs n with
   |some v=>some (.c v)
   |none=>none
  |_=>none
 |.build t A=>match X.ti t with
  |some i=>match i.kind,i.zero with
   |.struct P,some (.agg z)=>match rU X ρ P A.toList z with
    |some cells=>some (.agg cells)
    |none=>none
   |_,_=>none
  |none=>none
 |.slice t x Q W S=>match X.ti t,ρ x,bound ρ Q,bound ρ W,bound ρ S with
  |some i,some a,some Q,some W,some S=>match i.kind with
   |.slice e=>match X.ti e with
    |some j=>CY i.kind j.size a Q W S
    |none=>none
   |_=>CY i.kind 0 a Q W S
  |_,_,_,_,_=>none
 |.makeFunc (.func f) first caps=>match first.toList,gL ρ caps.toList with
  |[],some l=>some (.c (.tO f l))
  |_,_=>none
 |.call {callee := .builtin .len,args,argTypes}=>match args.toList,argTypes.toList with
  |[x],[t]=>match X.ti t,ρ x with
   |some i,some a=>Xp i.kind a
   |_,_=>none
  |_,_=>none
 |.call {callee := .builtin .min,args,argTypes:=_}=>Y3 (args.toList.map ρ)
 |.call {callee := .builtin .max,args,argTypes:=_}=>Y4 (args.toList.map ρ)
 |_=>none
section
variable {P : Program}{X : Ctx}{w : World}{g : Gh}
def ur{s:L UInt8}:(ByteArray.mk s.toArray).size=s.length:=by simp[ByteArray.size]
def extract_mk(s:L UInt8)(l h:Nat):(ByteArray.mk s.toArray).extract l h=⟨((s.take h).drop l).toArray⟩:=by apply ByteArray.ext;simp;rw[List.drop_take]
def gv{y n:Nat}(h:n<=y)(k:IntKind)(c:BoundsCode):(Instr.sliceBound (.int k (n:Int)) y c).run P w = .ok n w:=by simp[Instr.sliceBound,asIntOf,h]
def vD{a:AV}{n:Nat}(h:asNat a=some n){u:Value}(A:aP g a u):∃k,u = .int k (Int.ofNat n):=by unfold asNat at h;split at h;simp at h;subst h;exact⟨_,A⟩;grind
def fJ(o:Option Value):Option Nat->Prop
 |none=>o=none
 |some n=>∃k,o=some (.int k (Int.ofNat n))
def nY{ρ:Operand->Option AV}{ev:Operand->Value}(Y:∀x v,ρ x=some v->aP g v (ev x)){o:Option Operand}{r:Option Nat}
  (h:bound ρ o=some r):fJ (o.map ev) r:=by
 unfold bound at h;split at h;simp at h;subst h;simp[fJ];rename_i x;split at h;rename_i a W;split at h;rename_i n O;simp at h;subst h;obtain⟨k,e⟩:=vD O (Y x a W);exact⟨k,by simp[e]⟩;grind;grind
def mq{B E h l:Nat}{Q W:Option Value}(Y:Bool)(S:fJ W (some h))(V:fJ Q (some l))(h1:h<=E)(h2:l<=h) :
  (Instr.sliceBounds Y B E Q W none).run P w = .ok (l,h,E) w:=by
 obtain⟨k,rfl⟩:=S;obtain⟨k',rfl⟩:=V;simp[Instr.sliceBounds,gv h1,gv h2]
def lI{B E h:Nat}{Q W:Option Value}(Y:Bool)(S:fJ W (some h))(V:fJ Q none)(h1:h<=E) :
  (Instr.sliceBounds Y B E Q W none).run P w = .ok (0,h,E) w:=by
 obtain⟨k,rfl⟩:=S;subst V;simp[Instr.sliceBounds,gv h1]
def jN{B E l:Nat}{Q W:Option Value}(Y:Bool)(S:fJ W none)(V:fJ Q (some l))(h2:l<=B) :
  (Instr.sliceBounds Y B E Q W none).run P w = .ok (l,B,E) w:=by
 obtain⟨k,rfl⟩:=V;subst S;simp[Instr.sliceBounds,gv h2]
def jO{B E:Nat}{Q W:Option Value}(Y:Bool)(S:fJ W none)(V:fJ Q none) :
  (Instr.sliceBounds Y B E Q W none).run P w = .ok (0,B,E) w:=by
 subst S V;rfl
def yF{B E h l m:Nat}{Q W S:Option Value}(Y:Bool)(T:fJ S (some m))(V:fJ W (some h))(U:fJ Q (some l))
  (M:m<=E)(h1:h<=m)(h2:l<=h) :
  (Instr.sliceBounds Y B E Q W S).run P w = .ok (l,h,m) w:=by
 obtain⟨k,rfl⟩:=V;obtain⟨k',rfl⟩:=U;obtain⟨O,rfl⟩:=T;simp[Instr.sliceBounds,gv M,gv h1,gv h2]
def pM{B E h m:Nat}{Q W S:Option Value}(Y:Bool)(T:fJ S (some m))(V:fJ W (some h))(U:fJ Q none)
  (M:m<=E)(h1:h<=m) :
  (Instr.sliceBounds Y B E Q W S).run P w = .ok (0,h,m) w:=by
 obtain⟨k,rfl⟩:=V;obtain⟨O,rfl⟩:=T;subst U;simp[Instr.sliceBounds,gv M,gv h1]
def jZ.cut{G:ja}{s:Nat}{base:Option Addr}{rows:L CV}{B:Nat}(V:B=rows.length)(h:jZ G s base rows)(l O m:Nat)(h1:l<=O)(h2:O<=B)(U:O<=m) :
  jZ G s (if m=l then base else base.map (·.add (l*s))) ((rows.take O).drop l):=by
 rcases h with rfl|⟨b,o,rfl,A⟩
 left;simp;by_cases e:m=l;left;simp;omega;right;refine⟨b,o+l*s,by simp[e,Addr.add_lit],?_⟩;exact(A.take (n:=O)).drop
def gb(hX:cg P X){t e:Nat}{i j:TI}(W:X.ti t=some i)(U:i.kind = .slice e)(T:X.ti e=some j){base:Option Addr}{B E:Nat}{Q O S:Option Value}
  {l h m:Nat}(A:∀w,(Instr.sliceBounds true B E Q O S).run P w = .ok (l,h,m) w) :
  (Instr.sliceAt t (.slice base B E) Q O S).run P w = .ok (.slice (if m=l then base else base.map (·.add (l*j.size))) (h-l) (m-l)) w:=by
 obtain⟨d,Y,N,_⟩:=hX.run_underlying (w:=w) W;rw[U]at N;subst N;simp[Instr.sliceAt,Instr.slice,Y,A,hX.run_sizeOf T]
def ED(hX:cg P X){t:Nat}{i:TI}(W:X.ti t=some i)(E:i.kind = .str){s:ByteArray}{Q O:Option Value}
  {l h m:Nat}(A:∀w,(Instr.sliceBounds false s.size s.size Q O none).run P w = .ok (l,h,m) w) :
  (Instr.sliceAt t (.string s) Q O none).run P w = .ok (.string (s.extract l h)) w:=by
 obtain⟨d,U,N,_⟩:=hX.run_underlying (w:=w) W;rw[E]at N;subst N;simp[Instr.sliceAt,Instr.slice,U,A]
end
end Go.cB
namespace Go.cB
section
variable {P : Program}{X : Ctx}{w : World}{g : Gh}
def CZ{a:AV}{s:Nat}{rows:L CV}(h:rowsOf a=some (s,rows)){u:Value}(A:aP g a u) :
  ∃base B E,u = .slice base B E/\B=rows.length/\B<=E/\jZ g.G s base rows:=by
 unfold rowsOf at h;split at h;obtain⟨rfl,rfl⟩:=h;obtain⟨base,B,E,e,V,D,A,_⟩:=A;grind;obtain⟨rfl,rfl⟩:=h;exact A;grind
def wI.drop{s:Nat}{base:Option Addr}{B E l:Nat}:∀{k:Va},wI g s base B E k->l<=B ->
  wI g s (if E=l then base else base.map (·.add (l*s))) (B-l) (E-l) k
 |.exact,h,_=>by simp only[wI]at h ⊢;omega
 |.tok P n,h,U=>by
  obtain⟨V,Y,e,O,A⟩:=h;refine⟨V,Y,e,O,λS=>?_⟩;rcases A S with A|⟨b,Q,W,o,rfl,rfl,h1,h2,T⟩
  omega;by_cases D:E=l;omega;right;refine⟨b,Q,W,o+l*s,Z,by simp[D,Addr.add_lit],?_,?_,bn⟩;rw[h1];rw[adJ,<- acF];congr 2;omega;rw[h2];rw[adJ,<- acF];congr 2;omega
def Sf{s:Nat}{rows:L CV}{Q:Option Nat}{h:Nat}{ex:Bool}{v:AV}(e:CX s rows Q h ex=some v) :
  h<=rows.length/\Q.getD 0<=h/\v=if ex then .own .exact s ((rows.take h).drop (Q.getD 0))else .c (.sl s ((rows.take h).drop (Q.getD 0))):=by
 unfold CX at e;split at e
 ·rename_i q h1;obtain⟨rfl,V⟩:=pL h1;cases Q with
  |none =>
   grind
  |some l =>
   split at e;rename_i r h2;obtain⟨rfl,Y⟩:=j6 h2;grind;grind
 grind
def Fx(hX:cg P X){t:Nat}{i:TI}(H:X.ti t=some i){es:Nat}(D:∀e,i.kind = .slice e->∃j,X.ti e=some j/\j.size=es)
  {x v:AV}{Q M mx:Option Nat}(h:CY i.kind es x Q M mx=some v){u:Value}(hu:aP g x u)
  {A q K:Option Value}(Y:fJ A Q)(W:fJ q M)(O:fJ K mx) :
  ∃r,(Instr.sliceAt t u A q K).run P w = .ok r w/\aP g v r:=by
 have cut:∀{e:Nat}{rows:L CV}{base:Option Addr}{B E:Nat}{S:Nat}{ex:Bool},i.kind = .slice e->B=rows.length->B<=E->jZ g.G es base rows ->
   M=some S->(mx=if ex then some S else none)->CX es rows Q S ex=some v ->
   ∃r,(Instr.sliceAt t (.slice base B E) A q K).run P w = .ok r w/\aP g v r:=by
  intro e rows base B E S ex V T U N e1 e2 Mg;obtain⟨j,C,J⟩:=D e V;obtain⟨c1,c2,c3⟩:=Sf Mg;subst e1;cases ex with
  |false =>
   subst e2;simp only[fJ]at O;subst O;have p:∀w,(Instr.sliceBounds true B E A q none).run P w = .ok (Q.getD 0,S,E) w:=by
    intro w;cases Q with
    |none=>exact lI true W Y bn
    |some l=>exact mq true W Y bn (by simpa using c2)
   refine⟨_,gb hX H V C p,?_⟩;rw[c3,J];simp only[Bool.false_eq_true,acd,aP,Rel];exact⟨_,_,_,Z,ob,bn,(jZ.cut T N (Q.getD 0) S E c2 bn bn)⟩
  |true =>
   subst e2;have p:∀w,(Instr.sliceBounds true B E A q K).run P w = .ok (Q.getD 0,S,S) w:=by
    intro w;cases Q with
    |none=>exact pM true O W Y bn bn
    |some l=>exact yF true O W Y bn bn (by simpa using c2)
   refine⟨_,gb hX H V C p,?_⟩;rw[c3,J];simp only[aP,if_true];exact⟨_,_,_,Z,ob,bn,(jZ.cut T N (Q.getD 0) S S c2 bn bn),Z⟩
 unfold CY at h;split at h
 ·
  rename_i V;rename_i s;simp only[aP,Rel]at hu;subst hu;split at h;simp at h;simp only[fJ]at O;subst O;have fin:∀{l h':Nat},(∀w,(Instr.sliceBounds false (ByteArray.mk s.toArray).size (ByteArray.mk s.toArray).size A q none).run P w = .ok (l,h',(ByteArray.mk s.toArray).size) w) ->
    v = .c (.str ((s.take h').drop l))->∃r,(Instr.sliceAt t (.string ⟨s.toArray⟩) A q none).run P w = .ok r w/\aP g v r:=by
   intro l h' p e;refine⟨_,ED hX H V p,?_⟩;rw[e,extract_mk];simp[aP,Rel]
  cases M with
  |none =>
   simp only at h;cases Q with
   |none =>
    simp at h;subst h;exact fin (λw=>jO false W Y) (by simp[ur])
   |some l =>
    simp only at h;split at h;rename_i r hr;obtain⟨rfl,hl⟩:=j6 hr;simp at h;subst h;exact fin (λw=>jN false W Y (by rw[ur];exact hl)) (by simp[ur]);simp at h
  |some S =>
   simp only at h;split at h
   ·rename_i s1 rG;obtain⟨rfl,Cf⟩:=pL rG;cases Q with
    |none =>
     simp at h;subst h;exact fin (λw=>lI false W Y (by rw[ur];exact Cf)) c9
    |some l =>
     simp only at h;split at h;rename_i r hr;obtain⟨rfl,hl⟩:=j6 hr;simp at h;subst h;exact fin (λw=>mq false W Y (by rw[ur];exact Cf) (by simp at hl;omega)) c9;simp at h
   simp at h
 ·
  rename_i e o s rows V;simp only[aP]at hu;obtain⟨base,B,E,rfl,T,U,N,I⟩:=hu;split at h;simp at h;rename_i hs;have:=beq_true hs;subst this;obtain⟨j,C,J⟩:=D e V;split at h;simp only[fJ]at O;subst O;split at h;rename_i l;split at h;rename_i r hr;obtain⟨rfl,hl⟩:=j6 hr;simp at h;subst h;refine⟨_,gb hX H V C (λw=>jN true W Y bn),?_⟩;rw[J];simp only[aP];refine⟨_,_,_,Z,ob,bn,?_,I.drop bn⟩;have:=jZ.cut T N l B E bn (aal _) U;rwa[acq bn]at this;simp at h;simp at h;subst h;refine⟨_,gb hX H V C (λw=>jO true W Y),?_⟩;rw[J];simp only[aP];refine⟨_,_,_,Z,ob,bn,?_,I.drop bn⟩;have:=jZ.cut T N 0 B E bn (aal _) U;rwa[acq bn]at this;simp_all;split at h;simp_all;simp at h;simp at h
 rename_i e s rows V;simp only[aP,Rel]at hu;obtain⟨base,B,E,rfl,T,U,N⟩:=hu;split at h;simp at h;rename_i hs;have:=beq_true hs;subst this;obtain⟨j,C,J⟩:=D e V;split at h;simp only[fJ]at O;subst O;split at h;rename_i l;split at h;rename_i r hr;obtain⟨rfl,hl⟩:=j6 hr;simp at h;subst h;refine⟨_,gb hX H V C (λw=>jN true W Y bn),?_⟩;rw[J];simp only[aP,Rel];refine⟨_,_,_,Z,ob,bn,?_⟩;have:=jZ.cut T N l B E bn (aal _) U;rwa[acq bn]at this;simp at h;simp at h;subst h;refine⟨_,gb hX H V C (λw=>jO true W Y),?_⟩;rw[J];simp only[aP,Rel];refine⟨_,_,_,Z,ob,bn,?_⟩;have:=jZ.cut T N 0 B E bn (aal _) U;rwa[acq bn]at this;exact cut V T U N Z Z h;split at h;rename_i p;have:=beq_true p;subst this;exact cut (ex:=true) V T U N Z Z h;simp at h;simp at h;simp at h
end
end Go.cB
namespace Go.cB
def nZ:∀{off:Nat}{vs l r:L AV},dH off vs l=some r ->
  r.length=l.length/\off+vs.length<=l.length+(if vs=[]then off else 0)/\∀(j:Nat),r[j]?=if off<=j/\j<off+vs.length then vs[j-off]? else l[j]?
 |off,[],l,r,h=>by cases off<;>simp[dH]at h<;>subst h<;>simp<;>intros<;>omega
 |0,v::vs,[],r,h=>by simp[dH]at h
 |0,v::vs,x::l,r,h=>by simp only[dH]at h;split at h;rename_i Y O;simp at h;subst h;obtain⟨h1,h2,U⟩:=nZ O;refine⟨T1,?_,?_⟩;simp_all;grind;simp at h
 |n+1,v::vs,[],r,h=>by simp[dH]at h
 |n+1,v::vs,x::l,r,h=>by simp only[dH]at h;split at h;rename_i Y O;simp at h;subst h;obtain⟨h1,h2,U⟩:=nZ O;refine⟨T1,?_,?_⟩;simp at h2 ⊢;omega;grind;simp at h
def Mh{off:Nat}{v:AV}{vs l r:L AV}(h:dH off (v::vs) l=some r):off+(v::vs).length<=l.length:=by have:=(nZ h).2.1;simpa using this
section
variable {P : Program}{X : Ctx}{w : World}{g : Gh}
def vE{a:AV}{vs:L AV}(h:jG a=some vs){u:Value}(A:aP g a u) :
  bM g vs u.cells.toList/\vs.all AV.one=true:=by
 have Y:∀(cs:L CV)(us:L Value),bT g.G cs us->cs.all CV.one=true->bM g (cs.map AV.c) us/\(cs.map AV.c).all AV.one=true:=by
  intro cs
  induction cs with
  |nil=>intro us h1 _;subst h1;simp[bM]
  |cons c cs S =>
   intro us h1 h2;obtain⟨u,us,rfl,D,A⟩:=h1;simp at h2;obtain⟨U,T⟩:=S us A (by simpa using h2.2);exact⟨by simp;exact⟨u,us,Z,by simpa only[aP]using D,U⟩,by simp only[abk,abQ,AV.one,h2.1];exact T⟩
 cases a with
 |c v =>
  have W:∀(v:CV)(u:Value),v.one=true->Rel g.G v u->bM g [.c v] u.cells.toList/\([AV.c v].all AV.one=true):=by
   intro v u V A;have D:u.cells.toList=[u]:=by
    cases v<;>simp only[Rel]at A<;>simp[CV.one]at V
    case int=>subst A;rfl
    case bool=>subst A;rfl
    case str=>subst A;rfl
    case ld=>subst A;rfl
    case sl=>obtain⟨_,_,_,rfl,_⟩:=A;rfl
    case ip=>obtain⟨_,_,rfl,_⟩:=A;rfl
    case tO=>obtain⟨_,rfl,_⟩:=A;rfl
    case any =>
     cases u<;>first|rfl|(exact absurd Z (A.1 _))
    case rR=>obtain⟨_,rfl⟩:=A;rfl
   rw[D];exact⟨by simp only[bM,aP];exact⟨u,[],Z,A,Z⟩,by simp[AV.one,V]⟩
  simp only[aP]at A;cases v<;>simp only[jG,Fw,acU,reduceCtorEq]at h
  case agg cs =>
   subst h;simp only[Rel]at A;obtain⟨us,rfl,h1,h2⟩:=A;have:=Y cs us h1 h2;simpa[Value.cells]using this
  all_goals (subst h;exact W _ _ rfl A)
 |own k s rows =>
  simp[jG]at h;subst h;have M:=A;simp only[aP]at M;obtain⟨base,B,E,rfl,_⟩:=M;refine⟨?_,Z⟩;simp only[Value.cells,bM];exact⟨_,[],Z,A,Z⟩
 |ptr P off =>
  simp[jG]at h;subst h;have M:=A;simp only[aP]at M;obtain⟨b,_,rfl⟩:=M;refine⟨?_,Z⟩;simp only[Value.cells,bM];exact⟨_,[],Z,A,Z⟩
 |gf P off s n =>
  simp[jG]at h;subst h;have M:=A;simp only[aP]at M;obtain⟨b,E,o,_,rfl,_⟩:=M;refine⟨?_,Z⟩;simp only[Value.cells,bM];exact⟨_,[],Z,A,Z⟩
 |any =>
  simp[jG]at h;subst h;have M:=A;simp only[aP]at M;have D:u.cells.toList=[u]:=by cases u<;>first|rfl|exact absurd Z (M.1 _)
  rw[D];refine⟨?_,Z⟩;simp only[bM];exact⟨_,[],Z,A,Z⟩
 |agg cs =>
  simp[jG]at h;subst h;simp only[aP]at A;obtain⟨us,rfl,h1,h2⟩:=A;exact⟨by simpa[Value.cells]using h1,h2⟩
 |fG cs=>simp[jG]at h
def C0(off:Nat):∀(l:L Value)(k:Nat)(cells:Array Value),off+k+l.length<=cells.size ->
  ((l.zipIdx k).foldl (λ(cs:Array Value)(p:Value×Nat)=>cs.setIfInBounds (off+p.2) p.1) cells).size=cells.size /\
  ∀j,((l.zipIdx k).foldl (λ(cs:Array Value)(p:Value×Nat)=>cs.setIfInBounds (off+p.2) p.1) cells)[j]? =
   if off+k<=j/\j<off+k+l.length then l[j-(off+k)]? else cells[j]?
 |[],k,cells,_=>by simp;intros;omega
 |v::l,k,cells,h=>by simp only[acr,List.foldl_cons];obtain⟨h1,h2⟩:=C0 off l (k+1) (cells.setIfInBounds (off+k) v) (by simp at h ⊢;omega);refine⟨by rw[h1];simp,λj=>?_⟩;rw[h2];by_cases D:off+(k+1)<=j/\j<off+(k+1)+l.length;grind;grind
def C2(hX:cg P X){ρ:Operand->Option AV}{ev:Operand->Value}(W:∀x v,ρ x=some v->aP g v (ev x)){S:L (Nat×Nat)}(Y:Nat->Option (Nat×Nat))
  (Q:∀i off U j,nth S i=some (off,U)->X.ti U=some j->Y i=some (off,j.size)) :
  ∀{A:L (Nat×Operand)}{cells r:L AV}{vs:Array Value},rU X ρ S A cells=some r->bM g cells vs.toList->cells.all AV.one=true ->
   ∃us,Instr.fill Y vs (A.map λ(i,x)=>(i,ev x))=some us/\bM g r us.toList/\r.all AV.one=true
 |[],cells,r,vs,h,V,T=>by simp[rU]at h;subst h;exact⟨vs,by simp[Instr.fill],V,T⟩
 |(i,x)::rest,cells,r,vs,h,V,T=>by
  simp only[rU]at h;split at h
  ·rename_i off U a h1 h2;split at h
   ·rename_i j us O M;split at h
    ·rename_i cells' J I;have H:=beq_true J;obtain⟨N,G⟩:=vE M (W x a h2);have K:us.length=(ev x).cells.size:=(by rw[(bM.get N).1];simp);have D:j.size≠0:=(by obtain⟨_,_,_,_,_,_,C⟩:=hX.ti U j O;exact C);obtain⟨B,c2⟩:=bM.get V;obtain⟨w1,w2,u⟩:=nZ I;have q:off+us.length<=cells.length:=(by grind);have hvs:cells.length=vs.size:=(by rw[B];simp);obtain⟨f1,f2⟩:=C0 off (ev x).cells.toList 0 vs ob;have hf:Instr.fill Y vs (((i,x)::rest).map λ(i,x)=>(i,ev x)) =
       Instr.fill Y ((ev x).cells.zipIdx.foldl (λcs (c,j)=>cs.setIfInBounds (off+j) c) vs) (rest.map λ(i,x)=>(i,ev x)):=by
      simp only[abk,Instr.fill,Q i off U j h1 O];rw[if_neg];simp;omega
     have Sh:(ev x).cells.zipIdx.foldl (λcs (c,j)=>cs.setIfInBounds (off+j) c) vs =
       ((ev x).cells.toList.zipIdx 0).foldl (λ(cs:Array Value)(p:Value×Nat)=>cs.setIfInBounds (off+p.2) p.1) vs:=by
      rw[<- Array.foldl_toList];simp
     rw[hf,Sh];obtain⟨a1,a2⟩:=bM.get N;apply C2 hX W Y Q h;apply bM.jF;simp_all;grind;rw[acK]at T G ⊢;intro y hy;obtain⟨k,E⟩:=acV hy;rw[u]at E;split at E;grind;grind
    simp at h
   simp at h
  simp at h
end
end Go.cB
namespace Go.cB
section
variable {P : Program}{X : Ctx}{w : World}{g : Gh}
def rV:(∀(a:AV)(v:CV)(u:Value),close a=some v->aP g a u->Rel g.G v u/\(a.one=true->v.one=true)):=by
 intro a;refine AV.rec (motive_1:=λa=>∀(v:CV)(u:Value),close a=some v->aP g a u->Rel g.G v u/\(a.one=true->v.one=true))
  (motive_2:=λl=>∀(vs:L CV)(us:L Value),Ab l=some vs->bM g l us->bT g.G vs us/\(l.all AV.one=true->vs.all CV.one=true)/\vs.length=l.length) ?_ ?_ ?_ ?_ ?_ ?_ ?_ ?_ ?_ a
 intro v w' u h A;simp[close]at h;subst h;exact⟨by simpa only[aP]using A,id⟩;intro k s rows v u h A;simp[close]at h;subst h;obtain⟨base,B,E,rfl,h1,h2,T,_⟩:=A;exact⟨by simp only[Rel];exact⟨base,B,E,Z,h1,h2,T⟩,λ_=>rfl⟩;intro P off v u h;simp[close]at h;intro P off s n v u h;simp[close]at h;intro v u h;simp[close]at h;intro cs S v u h A;simp only[close]at h;split at h;rename_i l V;simp at h;subst h;obtain⟨us,rfl,h1,h2⟩:=A;obtain⟨O,U,_⟩:=S l us V h1;exact⟨by simp only[Rel];exact⟨us,Z,O,U h2⟩,λh=>by simp[AV.one]at h⟩;grind;intro cs S v u h A;simp only[close]at h;split at h;rename_i l V;simp at h;subst h;simp only[aP]at A;obtain⟨us,rfl,h1,h2⟩:=A;obtain⟨O,U,I⟩:=S l us V h1;exact⟨by simp only[Rel];exact⟨us,Z,O,bn⟩,λh=>by simp[AV.one]at h⟩;simp at h;intro vs us h A;simp[Ab]at h;subst h;subst A;simp[bT];intro a l Y W vs us h A;simp only[Ab]at h;split at h;rename_i v q;split at h;rename_i r M;simp at h;subst h;simp only[bM]at A;obtain⟨u,us,rfl,h1,h2⟩:=A;obtain⟨Q,N⟩:=Y v u q h1;obtain⟨p,K,J⟩:=W r us M h2;refine⟨by simp only[bT];exact⟨u,us,Z,Q,p⟩,λh=>?_,by simp[J]⟩;simp only[abQ,aak]at h ⊢;exact⟨N h.1,K h.2⟩;simp at h;simp at h
def nk{ρ:Operand->Option AV}{ev:Operand->Value}(Y:∀x v,ρ x=some v->aP g v (ev x)) :
  ∀{l:L Operand}{r:L CV},gL ρ l=some r->bT g.G r (l.map ev)
 |[],r,h=>by simp[gL]at h;subst h;simp[bT]
 |x::l,r,h=>by simp only[gL]at h;split at h;rename_i a W;split at h;rename_i v q;split at h;rename_i V M;simp at h;subst h;exact⟨_,_,rfl,(rV a v _ q (Y x a W)).1,nk Y M⟩;grind;grind;grind
def Ac{α:Type}{cs rest:List α}{off:Nat}{c:α}(h:cs.drop off=c::rest):cs[off]?=some c:=by have:=aaZ (λl=>l[0]?) h;simpa using this
def C3(hX:cg P X){t:Nat}{i:TI}(W:X.ti t=some i){vs:Array Value}{off:Nat}{r:AV}
  (h:(∃cs rest,bM g cs vs.toList/\cs.all AV.one=true/\gl off cs=some rest/\wK i rest=some r) \/
   (∃cs rest,bT g.G cs vs.toList/\cs.all CV.one=true/\gl off cs=some rest/\z8 i rest=some r)) :
  ∃u,(part t vs off).run P w = .ok u w/\aP g r u:=by
 have O:i.size≠0:=by obtain⟨_,_,_,_,_,_,N⟩:=hX.ti t i W;exact N
 rcases h with ⟨cs,rest,h1,h2,S,Y⟩|⟨cs,rest,h1,h2,S,Y⟩
 ·obtain⟨rfl,J⟩:=j6 S;obtain⟨p,M⟩:=bM.get h1;unfold wK at Y;cases V:i.isAgg<;>rw[V]at Y<;>simp only at Y;split at Y;rename_i c K A;simp at Y;subst Y;have Q:cs[off]?=some c:=Ac A;obtain⟨u,B,T⟩:=M off c Q;refine⟨u,?_,T⟩;have:vs[off]?=some u:=(by simpa using B);simp[part,hX.oX W,V,this];simp at Y;split at Y;rename_i l U;simp at Y;subst Y;obtain⟨rfl,q⟩:=pL U;refine⟨.agg (vs.extract off (off+i.size)),by simp[part,hX.oX W,V,hX.run_sizeOf W],?_⟩;simp only[aP];refine⟨(vs.extract off (off+i.size)).toList,Z,?_,?_⟩;apply bM.jF;simp_all;grind;grind;simp at Y
 obtain⟨rfl,J⟩:=j6 S;obtain⟨p,M⟩:=bT.get h1;unfold z8 at Y;cases V:i.isAgg<;>rw[V]at Y<;>simp only at Y
 ·split at Y
  ·rename_i c K A;simp at Y;subst Y;have Q:cs[off]?=some c:=Ac A;obtain⟨u,B,T⟩:=M off c Q;refine⟨u,?_,by simpa only[aP]using T⟩;have:vs[off]?=some u:=by simpa using B
   simp[part,hX.oX W,V,this]
  simp at Y
 split at Y;rename_i l U;simp at Y;subst Y;obtain⟨rfl,q⟩:=pL U;refine⟨.agg (vs.extract off (off+i.size)),by simp[part,hX.oX W,V,hX.run_sizeOf W],?_⟩;simp only[aP,Rel];refine⟨(vs.extract off (off+i.size)).toList,Z,?_,?_⟩;apply bT.jF;simp_all;grind;grind;simp at Y
end
end Go.cB
namespace Go.cB
section
variable {P : Program}{X : Ctx}{w : World}{g : Gh}
def A5(hX:cg P X){t:Nat}{i:TI}(E:X.ti t=some i){V:L (Nat×Nat)}(T:i.kind = .struct V){f off S:Nat}(hf:nth V f=some (off,S))(b o:Nat) :
  (Instr.fieldAt t (.pointer (some ⟨b,o,none⟩)) f).run P w = .ok (.pointer (some ⟨b,o+off,none⟩)) w:=by
 obtain⟨d,Q,O,_⟩:=hX.run_underlying (w:=w) E;rw[T]at O;obtain⟨Y,rfl,h1,h2⟩:=O;rw[qV,<- h1]at hf;simp at hf;obtain⟨U,B,N,M⟩:=hf;have W:U∈Y.toList:=by rw[aed];exact Array.mem_of_getElem? B
 obtain⟨K,p,A⟩:=h2 U W;simp[Instr.fieldAt,Q,B,Instr.sureAddr,fieldPlace,sizeOf,typeInfo,p,A,N,Addr.add_lit]
def Fy(hX:cg P X){t:Nat}{i:TI}(E:X.ti t=some i){W:L (Nat×Nat)}(V:i.kind = .struct W){f off U:Nat}(hf:nth W f=some (off,U))(vs:Array Value) :
  (Instr.field t (.agg vs) f).run P w=(part U vs off).run P w:=by
 obtain⟨d,S,O,_⟩:=hX.run_underlying (w:=w) E;rw[V]at O;obtain⟨Y,rfl,h1,h2⟩:=O;rw[qV,<- h1]at hf;simp at hf;obtain⟨N,B,T,Q⟩:=hf;simp[Instr.field,S,B,asAgg,T,Q]
def tI(hX:cg P X):∀(Y:L Field),(∀f∈Y,∃T,P.info? f.type=some T/\T.size≠0) ->
  ∃p:L (Nat×Nat),(Y.mapM (m:=Sem) λf=>do pure (f.offset,<- sizeOf f.type)).run P w = .ok p w/\p.length=Y.length /\
   ∀(k:Nat)(f:Field),Y[k]?=some f->∃T,P.info? f.type=some T/\p[k]?=some (f.offset,T.size)
 |[],_=>⟨[],c9,Z,c9⟩
 |f::Y,h=>by obtain⟨T,B,W⟩:=h f c9;obtain⟨p,h1,h2,U⟩:=tI hX Y (λf hf=>h f (by simp[hf]));refine⟨(f.offset,T.size)::p,?_,by simp[h2],?_⟩;simp only[adS,Sem.run_bind,sizeOf,typeInfo,run_program,Result.andThen_ok,B,Sem.run_pure];simp only[sizeOf,typeInfo]at h1;rw[h1];rfl;grind
def run_build(hX:cg P X){t:Nat}{i:TI}(E:X.ti t=some i){U:L (Nat×Nat)}(S:i.kind = .struct U){z r:L AV}(Q:i.zero=some (.agg z))
  {ρ:Operand->Option AV}{ev:Operand->Value}(W:∀x v,ρ x=some v->aP g v (ev x)){A:Array (Nat×Operand)}
  (h:rU X ρ U A.toList z=some r) :
  ∃u,(Instr.build t (A.map λ(i,x)=>(i,ev x))).run P w = .ok u w/\aP g (.agg r) u:=by
 obtain⟨d,N,O,_⟩:=hX.run_underlying (w:=w) E;rw[S]at O;obtain⟨Y,rfl,h1,h2⟩:=O;obtain⟨zv,M,K,z3⟩:=hX.lq (w:=w) E Q;have J:=K g;obtain⟨I,rfl,H,G⟩:=J;obtain⟨p,p1,p2,D⟩:=tI (P:=P) (w:=w) hX Y.toList h2
 obtain⟨us,f1,C,q⟩:=C2 hX W (λ(i:Nat)=>p[i]?) (by
  intro i off ft j B e2;rw[qV,<- h1]at B;simp at B;obtain⟨fl,e3,e4,e5⟩:=B;obtain⟨inf,T,e7⟩:=D i fl (by simpa using e3);obtain⟨aea,V,e9,_⟩:=hX.ti ft j e2;rw[e5]at T;rw[T]at V;simp at V;subst V
  simp[e7,e4,e9]) (vs:=I.toArray) h aaF G
 refine⟨.agg us,?_,by simp only[aP];exact⟨us.toList,c9,C,q⟩⟩;simp only[Instr.build,Sem.run_bind,M,Result.andThen_ok,N,Value.cells]
 rw[show(Y.mapM (m:=Sem) λf=>do pure (f.offset,<- sizeOf f.type))=(Y.toList.mapM λf=>do pure (f.offset,<- sizeOf f.type)) >>= λl=>pure l.toArray from by
  rw[adr];rfl]
 simp_all
def A6{g:Gh}{k:IntKind}{n:Int}{u:Value}(h:aP g (.c (.int k n)) u):u = .int k n:=by simpa only[aP,Rel]using h
def Ve(hX:cg P X){t:Nat}{i:TI}(T:X.ti t=some i){a v:AV}(h:Xp i.kind a=some v){u:Value}(W:aP g a u)(ty:TypeId) :
  ∃r,(Builtin.len_ #[t] ty #[u]).run P w = .ok r w/\aP g v r:=by
 obtain⟨d,U,O,_⟩:=hX.run_underlying (w:=w) T;unfold Xp at h;split at h;rename_i e o s rows E;rw[E]at O;simp only[iE]at O;subst O;simp at h;subst h;simp only[aP]at W;obtain⟨base,B,Y,rfl,V,_⟩:=W;exact⟨.int .i64 B,X5,by simp[aP,Rel,V]⟩;rename_i e S off s n E;rw[E]at O;simp only[iE]at O;subst O;simp at h;subst h;simp only[aP]at W;obtain⟨b,Y,o,_,rfl,_⟩:=W;exact⟨.int .i64 n,X5,p5⟩;rename_i e s rows E;rw[E]at O;simp only[iE]at O;subst O;simp at h;subst h;simp only[aP,Rel]at W;obtain⟨base,B,Y,rfl,V,_⟩:=W;exact⟨.int .i64 B,X5,by simp[aP,Rel,V]⟩;rename_i s E;rw[E]at O;simp only[iE]at O;subst O;simp at h;subst h;simp only[aP,Rel]at W;subst W;exact⟨.int .i64 s.length,by simp[Builtin.len_,U,goInt,ur],p5⟩;rename_i n e E;rw[E]at O;simp only[iE]at O;subst O;simp at h;subst h;exact⟨.int .i64 n,by cases u<;>simp[Builtin.len_,U,goInt],p5⟩;simp at h
end
end Go.cB
namespace Go.cB
section
variable {P : Program}{X : Ctx}{w : World}{g : Gh}
def JJ(hX:cg P X){N:L (Nat×L AV)}
  (hD:∀b o v,g.G b o=some v->w.cell? ⟨b,o,none⟩=some v)
  (abt:∀k cs,ak k N=some cs->∃b,g.box k=some b/\bU w g b 0 cs)
  {ρ:Operand->Option AV}{ev:Operand->Value}(Y:∀x v,ρ x=some v->aP g v (ev x)){o:Oper}{v:AV}(h:gN X N ρ o.op=some v) :
  ∃u,(execOp ev o).run P w = .ok (.value u) w/\aP g v u:=by
 have fin:∀{s:Sem Value},(∃u,s.run P w = .ok u w/\aP g v u)->∃u,(do pure (Next.value (<- s)):Sem Next).run P w = .ok (.value u) w/\aP g v u:=by simp_all
 have Y5:∀{b n:Nat}{cs r:L AV},bU w g b 0 cs->gl n cs=some r->bU w g b n r:=by intro b n cs r h1 h2;obtain⟨rfl,_⟩:=j6 h2;apply bU.jF;intro j c K;rw[adp]at K;simpa using h1.get (n+j) c K
 obtain⟨dst,op,type,pos,after,guard⟩:=o;simp only at h;unfold gN at h;split at h;rename_i x;exact⟨ev x,by simp[execOp],Y x v h⟩;rename_i x;exact⟨ev x,by simp[execOp],Y x v h⟩;rename_i c a b;split at h;rename_i t av bv h1 h2 S;have D:=Y c _ h1;simp only[aP,Rel]at D;have ha:=Y a _ h2;have A:=Y b _ S;refine⟨if t then ev a else ev b,by simp[execOp,D,asBool],?_⟩;unfold We at h;split at h;grind;grind;simp at h;rename_i t x;split at h;rename_i i key off h1 h2;have O:=Y x _ h2;simp only[aP]at O;obtain⟨b,A,O⟩:=O;split at h;rename_i cells iD;split at h;rename_i l U;obtain⟨b',C,Y6⟩:=abt key cells iD;rw[A]at C;simp at C;subst C;simp only[execOp];rw[O];exact fin (Sb hX h1 (Y5 Y6 U) h);simp at h;simp at h;rename_i i cs h1 h2;have O:=Y x _ h2;simp only[aP,Rel]at O;obtain⟨b,o,O,D⟩:=O;simp only[execOp];rw[O];exact fin (Pw hX hD h1 D h);simp at h;rename_i x;split at h;rename_i k o h1;have O:=Y x _ h1;simp at h;subst h;have V:=O;simp only[aP]at V;obtain⟨b,A,e⟩:=V;exact⟨ev x,by simp[execOp,e],O⟩;rename_i cs h1;have O:=Y x _ h1;simp at h;subst h;have V:=O;simp only[aP,Rel]at V;obtain⟨b,o,e,_⟩:=V;exact⟨ev x,by simp[execOp,e],O⟩;rename_i f cs h1;have O:=Y x _ h1;simp at h;subst h;have V:=O;simp only[aP,Rel]at V;obtain⟨vs,e,_⟩:=V;exact⟨ev x,by simp[execOp,e],O⟩;simp at h;rename_i op t x y _;split at h;rename_i i a b h1 h2 S;exact fin (Vd hX h1 h (Y x _ h2) (Y y _ S) x y);simp at h;rename_i op _ x;split at h;rename_i b h1;have O:=Y x _ h1;simp only[aP,Rel]at O;simp at h;subst h;exact⟨.bool !b,by simp[execOp,O,Op.unary],p5⟩;rename_i k n h1;have O:=Y x _ h1;simp only[aP,Rel]at O;simp at h;subst h;exact⟨.int k (k.wrap (0-n)),by simp[execOp,O,Op.unary,Op.intArith],p5⟩;simp at h;rename_i s d x;split at h;rename_i i j k n h1 h2 S;have O:=Y x _ S;simp only[aP,Rel]at O;split at h;rename_i k' E;simp at h;subst h;obtain⟨d1,B,_,M⟩:=hX.run_underlying (w:=w) h1;obtain⟨d2,e3,e4,e5⟩:=hX.run_underlying (w:=w) h2;rw[E]at e4;simp only[iE]at e4;subst e4;exact⟨.int k' (k'.wrap n),by simp[execOp,O,convert,B,e3,Conv.intToInt],p5⟩;simp at h;simp at h;rename_i t x f;split at h;rename_i i a h1 h2;have O:=Y x _ h2;split at h;rename_i fs E;split at h;rename_i off ft hf;split at h;rename_i k o;simp at h;subst h;simp only[aP]at O;obtain⟨b,A,e⟩:=O;exact⟨_,by simp[execOp,e,A5 hX h1 E hf];rfl,by simp only[aP];exact⟨b,A,Z⟩⟩;rename_i cs;split at h;rename_i r p;simp at h;subst h;simp only[aP,Rel]at O;obtain⟨b,o,e,D⟩:=O;obtain⟨rfl,_⟩:=j6 p;exact⟨_,by simp[execOp,e,A5 hX h1 E hf];rfl,by simp only[aP,Rel];exact⟨b,o+off,Z,D.drop⟩⟩;simp at h;simp at h;simp at h;simp at h;simp at h;rename_i t x f;split at h;rename_i i a h1 h2;have O:=Y x _ h2;split at h;rename_i fs E;split at h;rename_i off ft hf;split at h;rename_i j K;split at h;rename_i cs;split at h;rename_i r p;simp only[aP]at O;obtain⟨vs,e,c1,c2⟩:=O;have:=C3 (P:=P) (w:=w) hX K (vs:=vs.toArray) (off:=off) (.inl ⟨cs,r,by simpa using c1,c2,p,h⟩);simp only[execOp,e];refine fin ?_;rw[Fy hX h1 E hf];exact this;simp at h;rename_i cs;split at h;rename_i r p;simp only[aP,Rel]at O;obtain⟨vs,e,c1,c2⟩:=O;have:=C3 (P:=P) (w:=w) hX K (vs:=vs.toArray) (off:=off) (.inr ⟨cs,r,by simpa using c1,c2,p,h⟩);simp only[execOp,e];refine fin ?_;rw[Fy hX h1 E hf];exact this;simp at h;simp at h;simp at h;simp at h;simp at h;simp at h
 ·rename_i t x ix;split at h
  ·rename_i i a na h1 h2 S;have O:=Y x _ h2;have J:=Y ix _ S;split at h
   ·rename_i n hn';obtain⟨k,J⟩:=vD hn' J;obtain⟨d,jc,q,_⟩:=hX.run_underlying (w:=w) h1;split at h
    ·rename_i e E;rw[E]at q;simp only[iE]at q;subst q;split at h
     ·rename_i j s rows K p;split at h
      ·rename_i r A Xs;have:=beq_true A;subst this;simp at h;subst h;obtain⟨base,len,cap,B,M,_,e3⟩:=CZ p O;rw[qV]at Xs;have H:n<rows.length:=(List.getElem?_eq_some_iff.1 Xs).1;rcases e3 with rfl|⟨b,o,rfl,fD⟩
       simp at H;have hg:=(fD.get n r Xs).1;refine⟨.pointer (some ⟨b,o+n*j.size,none⟩),?_,by simp only[aP,Rel];exact⟨b,_,Z,hg⟩⟩;simp[execOp,B,J,Instr.indexAt,asIntOf,jc,M,H,hX.run_sizeOf K,Addr.add_lit]
      simp at h
     simp at h
    rename_i m e E;rw[E]at q;simp only[iE]at q;subst q;split at h;rename_i j k' o K hlt';simp at h;subst h;have H:n<m:=(by simpa[Nat.blt_eq]using hlt');simp only[aP]at O;obtain⟨b,A,B⟩:=O;refine⟨.pointer (some ⟨b,o+n*j.size,none⟩),?_,by simp only[aP];exact⟨b,A,Z⟩⟩;simp[execOp,B,J,Instr.indexAt,asIntOf,jc,Instr.sureAddr,H,hX.run_sizeOf K,Addr.add_lit];simp at h;simp at h
   simp at h
  simp at h
 rename_i t x ix;split at h;rename_i i a na h1 h2 S;have O:=Y x _ h2;have J:=Y ix _ S;split at h;rename_i n hn';obtain⟨k,J⟩:=vD hn' J;obtain⟨d,jc,q,_⟩:=hX.run_underlying (w:=w) h1;split at h;rename_i s E;rw[E]at q;simp only[iE]at q;subst q;simp only[aP,Rel]at O;split at h;rename_i b A;simp at h;subst h;rw[qV]at A;have H:n<s.length:=(List.getElem?_eq_some_iff.1 A).1;have kD:(ByteArray.mk s.toArray)[n]?=some b:=(by rw[getElem?_pos _ _ (by rw[ur];exact H)];congr 1;have:=(List.getElem?_eq_some_iff.1 A).2;rw[<- this];rfl);refine⟨.int .u8 b.toNat,?_,p5⟩;simp[execOp,O,J,Instr.index,asIntOf,jc,kD];simp at h;simp at h;simp at h;simp at h;rename_i x n;split at h;rename_i cs h1;have O:=Y x _ h1;simp only[aP]at O;obtain⟨vs,e,c1,_⟩:=O;rw[qV]at h;obtain⟨u,B,M⟩:=(bM.get c1).2 n v h;exact⟨u,by simp[execOp,e,Instr.extract,B],M⟩;rename_i cs h1;have O:=Y x _ h1;simp only[aP,Rel]at O;obtain⟨vs,e,c1,_⟩:=O;split at h;rename_i cv qm;simp at h;subst h;rw[qV]at qm;obtain⟨u,B,M⟩:=(bT.get c1).2 n cv qm;exact⟨u,by simp[execOp,e,Instr.extract,B],by simpa only[aP]using M⟩;simp at h;simp at h;rename_i t parts;split at h;rename_i i h1;split at h;rename_i fs z E hz;split at h;rename_i cells D;simp at h;subst h;exact fin (run_build hX h1 E hz Y D);simp at h;simp at h;simp at h;rename_i t x lo hi mx;split at h;rename_i i a lo' hi' mx' h1 h2 S h4 h5;have O:=Y x _ h2;have b1:=nY Y S;have b2:=nY Y h4;have b3:=nY Y h5;split at h;rename_i e E;split at h;rename_i j K;exact fin (Fx hX h1 (λe' Q=>by rw[E]at Q;simp at Q;subst Q;exact⟨j,K,rfl⟩) h O b1 b2 b3);simp at h;rename_i E;exact fin (Fx hX h1 (λe' Q=>absurd Q (E e')) h O b1 b2 b3);simp at h
 ·rename_i f first I
  split at h
  ·rename_i l h1 h2;simp at h;subst h;have:=nk Y h2;refine⟨.func (.func f) #[] (I.map ev),?_,by simp only[aP,Rel];exact⟨I.toList.map ev,by rw[<- aci],this⟩⟩;have hf:first = #[]:=by simpa using h1
   simp[execOp,hf,Instr.makeFunc]
  simp at h
 rename_i args T;split at h;rename_i x t O ht;split at h;rename_i i a h1 h2;have B:args = #[x]:=(by simpa using aaZ List.toArray O);have M:T = #[t]:=(by simpa using aaZ List.toArray ht);obtain⟨r,r1,r2⟩:=Ve (P:=P) (w:=w) hX h1 h (Y x a h2) type;refine⟨r,?_,r2⟩;simp[execOp,resolve,invoke,builtin,B,M,r1];simp at h;simp at h
 ·rename_i args _;unfold Y3 at h;split at h
  ·rename_i k a k' b W;simp at h;subst h;cases U:args.toList with
   |nil=>rw[U]at W;simp at W
   |cons x l =>
    cases l with
    |nil=>rw[U]at W;simp at W
    |cons y l =>
     cases l with
     |cons z l=>rw[U]at W;simp at W
     |nil =>
      rw[U]at W;simp at W;have O:=Y x _ W.1;have hy:=Y y _ W.2;simp only[aP,Rel]at O hy;refine⟨.int k (if b<a then b else a),?_,p5⟩;have B:args = #[x,y]:=(by simpa using aaZ List.toArray U);simp[execOp,resolve,invoke,builtin,B,Builtin.min_,Builtin.min2,O,hy]
  simp at h
 ·rename_i args _;unfold Y4 at h;split at h
  ·rename_i k a k' b W;simp at h;subst h;cases U:args.toList with
   |nil=>rw[U]at W;simp at W
   |cons x l =>
    cases l with
    |nil=>rw[U]at W;simp at W
    |cons y l =>
     cases l with
     |cons z l=>rw[U]at W;simp at W
     |nil =>
      rw[U]at W;simp at W;have O:=Y x _ W.1;have hy:=Y y _ W.2;simp only[aP,Rel]at O hy;refine⟨.int k (if b>a then b else a),?_,p5⟩;have B:args = #[x,y]:=(by simpa using aaZ List.toArray U);simp[execOp,resolve,invoke,builtin,B,Builtin.max_,Builtin.max2,O,hy]
  simp at h
 simp at h
end
end Go.cB
namespace Go.cB
structure Fp where
 R:List Nat
 W:List Nat
 deriving Inhabited
abbrev Env:=L (Nat×AV)
def gX(k:Nat)(σ B:St):Prop:=ak k B.boxes=ak k σ.boxes/\ak k B.toks=ak k σ.toks/\(k∈B.used↔k∈σ.used)
def Agree(N:Fp)(σ B:St):Prop:=∀k,k∈N.R\/k∈N.W->gX k σ B
structure gE(xW:St->St)(fp:Fp):Prop where
 out:∀σ k,k ∉ fp.W->gX k σ (xW σ)
 same:∀σ σ1,Agree fp σ σ1->∀k,k∈fp.W->gX k (xW σ) (xW σ1)
def gE.id(R:L Nat):gE (λσ=>σ) ⟨R,[]⟩:=⟨λ_ _ _=>⟨Z,Z,Iff.rfl⟩,λ_ _ _ k h=>by simp at h⟩
def bI(P:Program)(X:Ctx)(o:Oper)(env:Env)(σ:St)(v:AV)(A:St->St)(N:Fp):Prop :=
 ∀(Y:Env)(B:St)(w:World)(g:Gh)(a:Act)(next:Act->World->Prop)(Q:Exit->Act->World->Prop),
  (∀x∈o.op.operands.toList,aH X Y x=aH X env x)->Agree N σ B->Inv w g B->oz X g.G->tH g Y a.tmps ->
  (∀u w' g',aP g' v u->Inv w' g' (A B)->gG w g B w' g' (A B)->g.le g'->next (a.put o.dst u) w')->o.wp P a w next Q
structure It where
 run:Bool
 v:AV
 xW:St->St
 fp:Fp
def It.skip:It:=⟨false,.c .undef,λσ=>σ,⟨[],[]⟩⟩
def yG(d:Option Nat)(v:AV)(env:Env):Env:=match d with
 |some d=>(d,v)::env
 |none=>env
def pN(ops:Array Oper)(j:Nat):Option Nat:=(ops[j]?).bind (·.dst)
def qA(ops:Array Oper)(o:Oper)(env:Env):Prop:=match o.guard with
 |none=>True
 |some (j,Y)=>∃d,pN ops j=some d/\ak d env=some (.c (.bool Y))
def pO(ops:Array Oper)(o:Oper)(env:Env):Prop:=match o.guard with
 |none=>False
 |some (j,Y)=>∃d,pN ops j=some d/\(ak d env=some (.c (.bool (!Y)))\/ak d env=some (.c .undef))
def lU(P:Program)(X:Ctx)(ops:Array Oper)(i:Nat)(u:It)(env:Env)(σ:St)(env':Env)(D:St):Prop :=
 ∃o,ops[i]?=some o/\env'=yG o.dst u.v env/\D=u.xW σ/\gE u.xW u.fp /\
  ((u=It.skip/\pO ops o env)\/(u.run=true/\qA ops o env/\bI P X o env σ u.v u.xW u.fp))
def tU(P:Program)(X:Ctx)(ops:Array Oper):L (Nat×It)->Env->St->Env->St->Prop
 |[],env,σ,env',σ'=>env'=env/\σ'=σ
 |(i,u)::l,env,σ,env',σ'=>∃A B,lU P X ops i u env σ A B/\tU P X ops l A B env' σ'
def Ext(env:Env)(σ:St)(A:Env)(B:St):Prop:=(∀t,ak t A=ak t env)/\∀k,gX k σ B
def gX.refl(k:Nat)(σ:St):gX k σ σ:=⟨Z,Z,Iff.rfl⟩
def gX.symm{k:Nat}{σ B:St}(h:gX k σ B):gX k B σ:=⟨h.1.symm,h.2.1.symm,h.2.2.symm⟩
def gX.trans{k:Nat}{σ B Y:St}(h:gX k σ B)(O:gX k B Y):gX k σ Y :=
 ⟨O.1.trans h.1,O.2.1.trans h.2.1,O.2.2.trans h.2.2⟩
def Ext.refl(env:Env)(σ:St):Ext env σ env σ:=⟨λ_=>rfl,λk=>gX.refl k σ⟩
def Ext.trans{e Y B:Env}{s u H:St}(h:Ext e s Y u)(O:Ext Y u B H):Ext e s B H :=
 ⟨λt=>(O.1 t).trans (h.1 t),λk=>(h.2 k).trans (O.2 k)⟩
def an{α:Type}(t d:Nat)(v:α)(l:L (Nat×α)):ak t ((d,v)::l)=if t=d then some v else ak t l:=by simp only[ak];split;simp_all;rename_i h;rw[if_neg (λe=>beq_false h e.symm)]
def rW(t:Nat)(d:Option Nat)(v:AV)(env:Env):ak t (yG d v env)=if d=some t then some v else ak t env:=by
 cases d with
 |none=>simp[yG]
 |some d =>
  simp only[yG,an];grind
def A7{X:Ctx}{env A:Env}{x:Operand}(h:∀t,x = .tmp t->ak t A=ak t env):aH X A x=aH X env x:=by cases x<;>simp[aH];exact h _ rfl
def bI.congr{P:Program}{X:Ctx}{o:Oper}{env A:Env}{σ B:St}{v:AV}{W:St->St}{N:Fp}(h:bI P X o env σ v W N)
  (V:∀x∈o.op.operands.toList,aH X A x=aH X env x)(C:Agree N σ B):bI P X o A B v W N :=
 λU Y w g a next Q h1 h2=>h U Y w g a next Q (λx O=>(h1 x O).trans (V x O)) (λk E=>(C k E).trans (h2 k E))
def lU.vF{P:Program}{X:Ctx}{ops:Array Oper}{i:Nat}{u:It}{env A env':Env}{σ B D:St}(h:lU P X ops i u env σ env' D)
  (O:Ext env σ A B):∃T S,lU P X ops i u A B T S/\Ext env' D T S:=by
 obtain⟨o,Q,rfl,rfl,E,h⟩:=h;refine⟨_,_,⟨o,Q,Z,Z,E,?_⟩,λt=>?_,λk=>?_⟩
 ·rcases h with ⟨h1,h2⟩|⟨h1,h2,N⟩
  refine .inl ⟨h1,?_⟩;unfold pO at *;split at h2;omega;obtain⟨d,Y,V⟩:=h2;exact⟨d,Y,by rw[O.1];exact V⟩;refine .inr ⟨h1,?_,N.congr (λx _=>A7 λt _=>O.1 t) (λk _=>O.2 k)⟩;unfold qA at *;split at h2;trivial;obtain⟨d,Y,V⟩:=h2;exact⟨d,Y,by rw[O.1];exact V⟩
 simp only[rW,O.1];by_cases U:k∈u.fp.W;exact E.same _ _ (λk _=>O.2 k) k U;exact((E.out σ k U).symm.trans (O.2 k)).trans (E.out B k U)
def tU.vF{P:Program}{X:Ctx}{ops:Array Oper}:∀{l:L (Nat×It)}{env A env':Env}{σ B D:St},tU P X ops l env σ env' D ->
  Ext env σ A B->∃V U,tU P X ops l A B V U/\Ext env' D V U
 |[],_,_,_,_,_,_,⟨h1,h2⟩,hx=>⟨_,_,⟨rfl,rfl⟩,by subst h1 h2;exact hx⟩
 |(i,C)::l,env,A,env',σ,B,D,⟨N,H,h1,h2⟩,hx=>by obtain⟨T,u,S,Y⟩:=h1.vF hx;obtain⟨p,Q,O,W⟩:=tU.vF h2 Y;exact⟨p,Q,⟨T,u,S,O⟩,W⟩
def Sj(l r:L Nat):Bool:=l.all λx => !r.contains x
def pP{l r:L Nat}(h:Sj l r=true){k:Nat}(h1:k∈l):k ∉ r:=by simp only[Sj]at h;simp_all
def indep(ops:Array Oper)(i j:Nat)(f g:Fp):Bool:=match ops[i]?,ops[j]? with
 |some x,some y=>Oper.apart ops x y&&Sj f.W g.R&&Sj f.W g.W&&Sj g.W f.R
 |_,_=>false
def BI{ops:Array Oper}{o:Oper}{t:Nat}(h:Operand.tmp t∈o.op.operands.toList):t∈o.looksAt ops:=by exact List.mem_append_left _ (List.mem_filterMap.2 ⟨_,h,rfl⟩)
def wL{ops:Array Oper}{o:Oper}{j:Nat}{b:Bool}{d:Nat}(h:o.guard=some (j,b))(J:pN ops j=some d):d∈o.looksAt ops:=by refine List.mem_append_right _ ?_;rw[h];simp only;unfold pN at J;rw[J];simp
def lU.before{P:Program}{X:Ctx}{ops:Array Oper}{i:Nat}{o:Oper}(S:ops[i]?=some o){u:It}{env A:Env}{σ B:St}
  (U:∀t∈o.looksAt ops,ak t A=ak t env)(C:Agree u.fp σ B){env':Env}{D:St}(h:lU P X ops i u env σ env' D) :
  lU P X ops i u A B (yG o.dst u.v A) (u.xW B):=by
 obtain⟨q,Y,rfl,rfl,E,h⟩:=h;rw[S]at Y;simp at Y;subst Y;refine⟨o,S,Z,Z,E,?_⟩;rcases h with ⟨h1,h2⟩|⟨h1,h2,O⟩
 refine .inl ⟨h1,?_⟩;unfold pO at *;split at h2;omega;rename_i j W Q;obtain⟨d,V,T⟩:=h2;exact⟨d,V,by rw[U d (wL Q V)];exact T⟩;refine .inr ⟨h1,?_,O.congr (λx N=>A7 λt p=>?_) C⟩;unfold qA at *;split at h2;trivial;rename_i j W Q;obtain⟨d,V,T⟩:=h2;exact⟨d,V,by rw[U d (wL Q V)];exact T⟩;subst p;exact U t (BI N)
def lU.swap{P:Program}{X:Ctx}{ops:Array Oper}{i j:Nat}{x y:It}{env p Vf:Env}{σ B Y:St}(J:indep ops i j x.fp y.fp=true)
  (h1:lU P X ops i x env σ p B)(h2:lU P X ops j y p B Vf Y) :
  ∃M u K G,lU P X ops j y env σ M u/\lU P X ops i x M u K G/\Ext Vf Y K G:=by
 obtain⟨ox,T,M,u,S,hx⟩:=id h1;obtain⟨I,Q,K,G,O,hy⟩:=id h2;unfold indep at J;simp only[T,Q,aak]at J;obtain⟨⟨⟨D,jc⟩,iF⟩,Xo⟩:=J;obtain⟨a1,a2,a3⟩:=Oper.apart_spec D;subst M u;have C:lU P X ops j y env σ (yG I.dst y.v env) (y.xW σ):=by
  refine lU.before Q ?_ ?_ h2;intro t A;rw[rW,if_neg (λe=>a1 t e A)];intro k E;refine(S.out σ k λV=>?_).symm;rcases E with E|E
  exact pP jc V E;exact pP iF V E
 have N:Agree x.fp σ (y.xW σ):=by
  intro k E;refine O.out σ k λV=>?_;rcases E with E|E
  exact pP Xo V E;exact pP iF E V
 have q:lU P X ops i x (yG I.dst y.v env) (y.xW σ) (yG ox.dst x.v (yG I.dst y.v env)) (x.xW (y.xW σ)):=by refine lU.before T ?_ N h1;intro t A;rw[rW,if_neg (λe=>a3 t e A)]
 refine⟨_,_,_,_,C,q,?_,?_⟩;intro t;subst K;simp only[rW];by_cases hxd:ox.dst=some t;simp_all;simp_all;intro k;subst G;by_cases E:k∈x.fp.W
 ·
  have H:k ∉ y.fp.W:=λh=>pP iF E h;exact(O.out (x.xW σ) k H).symm.trans (S.same _ _ N k E)
 have e:=S.out (y.xW σ) k E;refine gX.trans ?_ e;by_cases H:k∈y.fp.W
 ·refine O.same _ _ ?_ k H;intro k' U;refine(S.out σ k' λV=>?_).symm;rcases U with U|U
  exact pP jc V U;exact pP iF V U
 exact((O.out (x.xW σ) k H).symm.trans (S.out σ k E).symm).trans (O.out σ k H)
def tU.front{P:Program}{X:Ctx}{ops:Array Oper}{i:Nat}{C:It}:∀{p q:L (Nat×It)}{env env':Env}{σ D:St},
  (∀x∈p,indep ops x.1 i x.2.fp C.fp=true)->tU P X ops (p++(i,C)::q) env σ env' D ->
  ∃Y u B H,lU P X ops i C env σ Y u/\tU P X ops (p++q) Y u B H/\Ext env' D B H
 |[],q,env,env',σ,D,_,⟨Y,u,h1,h2⟩=>⟨Y,u,env',D,h1,h2,Ext.refl _ _⟩
 |(j,x)::p,q,env,env',σ,D,hp,⟨Y,u,h1,h2⟩=>by obtain⟨B,H,e3,s3,S,T,W⟩:=tU.front (λx O=>hp x (abN _ O)) h2;obtain⟨Q,N,A,M,K,J,V⟩:=lU.swap (hp (j,x) c9) h1 S;obtain⟨I,G,E,U⟩:=T.vF V;exact⟨Q,N,I,G,K,⟨A,M,J,E⟩,W.trans U⟩
structure jq where
 w:World
 g:Gh
 σ:St
structure Live(X:Ctx)(β:jq)(n:Nat)(env:Env)(σ:St)(g:Gh)(w:World)(a:Act):Prop where
 inv:Inv w g σ
 rT:oz X g.G
 env:tH g env a.tmps
 frame:gG β.w β.g β.σ w g σ
 size:a.tmps.size=n
 defers:a.defers=[]
def Inv.ext{w:World}{g:Gh}{σ B:St}(h:Inv w g σ)(O:∀k,gX k σ B):Inv w g B where
 oC:=h.oC
 box:=λk cs e=>h.box k cs ((O k).1.symm.trans e)
 fq:=λk k' cs Y b e e'=>h.fq k k' cs Y b ((O k).1.symm.trans e) ((O k').1.symm.trans e')
 tok:=λk n e=>by obtain⟨U,h1,h2⟩:=h.tok k n ((O k).2.1.symm.trans e);refine⟨U,h1,λb Q W A=>?_⟩;obtain⟨S,P,N⟩:=h2 b Q W A;exact⟨S,P,λk' cs e'=>N k' cs ((O k').1.symm.trans e')⟩
 gh:=λk k' n K b Q W T V e e'=>h.gh k k' n K b Q W T V ((O k).2.1.symm.trans e) ((O k').2.1.symm.trans e')
 used:=λk e=>(O k).2.2.2 (h.used k e)
 room:=λk cs b e=>h.room k cs b ((O k).1.symm.trans e)
def gG.ext{w w':World}{g g':Gh}{σ D B:St}(h:gG w g σ w' g' D)(O:∀k,gX k D B):gG w g σ w' g' B where
 os:=h.os
 tape:=h.tape
 output:=h.output
 size:=h.size
 block:=h.block
 kept:=h.kept
 le:=h.le
 new:=h.new
 boxes:=λk cs b e=>h.boxes k cs b ((O k).1.symm.trans e)
 toks:=λk n b Q W e=>h.toks k n b Q W ((O k).2.1.symm.trans e)
 ids:=λk E e=>h.ids k E (by rw[<- (O k).1];exact e)
def Live.ext{X:Ctx}{β:jq}{n:Nat}{env A:Env}{σ B:St}{g:Gh}{w:World}{a:Act}(h:Live X β n env σ g w a)(O:Ext env σ A B):Live X β n A B g w a where
 inv:=h.inv.ext O.2
 rT:=h.rT
 env:=λt v e=>h.env t v ((O.1 t).symm.trans e)
 frame:=h.frame.ext O.2
 size:=h.size
 defers:=h.defers
def qR(ops:Array Oper)(n:Nat):Bool:=ops.toList.all λo=>match o.dst with
 |some d=>Nat.blt d n
 |none=>true
def Mi{ops:Array Oper}{n i d:Nat}{o:Oper}(h:qR ops n=true)(Y:ops[i]?=some o)(J:o.dst=some d):d<n:=by simp only[qR,acK]at h;have:=h o (by rw[aed];exact Array.mem_of_getElem? Y);simp_all
def tH.put{g:Gh}{env:Env}{a:Act}{d:Option Nat}{v:AV}{u:Value}(h:tH g env a.tmps)(W:aP g v u)(J:∀k,d=some k->k<a.tmps.size) :
  tH g (yG d v env) (a.put d u).tmps:=by
 intro t x e;rw[rW]at e;cases d with
 |none=>simp at e;exact h t x e
 |some k =>
  simp at e;simp only[Act.put];by_cases E:k=t;simp_all;rw[if_neg E]at e;have:=h t x e;simp_all
def C4{g:Gh}{ops:Array Oper}{env:Env}{B:Array Value}(h:tH g env B){j d:Nat}(J:pN ops j=some d) :
  (∀b,ak d env=some (.c (.bool b))->yielded ops B j=some b)/\(ak d env=some (.c .undef)->yielded ops B j=none):=by
 unfold pN at J;constructor;intro b e;have:=h d _ e;simp only[aP,Rel]at this;simp only[yielded];simp only[Array.getD]at this;split at this;simp_all;simp[Go.undef]at this;intro e;have:=h d _ e;simp only[yielded,J,Option.bind_some];simp only[Array.getD]at this;split at this
 ·rename_i H;have:B[d]?=some Go.undef:=by rw[abv H];exact aaZ some this
  rw[this];rfl
 grind
def lU.wp{P:Program}{X:Ctx}{β:jq}{n:Nat}{ops:Array Oper}(I:qR ops n=true){i:Nat}{C:It}{env env':Env}{σ V:St}(h:lU P X ops i C env σ env' V)
  {g:Gh}{w:World}{a:Act}(D:Live X β n env σ g w a){K:Act->World->Prop}{Q:Exit->Act->World->Prop}
  (O:∀g' w' p,Live X β n env' V g' w' p->K p w'):wpOp P ops Q i K a w:=by
 obtain⟨o,S,rfl,rfl,hE,h⟩:=h;have N:∀k,o.dst=some k->k<a.tmps.size:=λk E=>by rw[D.size];exact Mi I S E
 have Y:∀u,(a.put o.dst u).tmps.size=n/\(a.put o.dst u).defers=[]:=by cases o.dst<;>simp[Act.put,D.size,D.defers]
 simp only[wpOp,S];rcases h with ⟨rfl,G⟩|⟨hr,G,H⟩
 ·have T:Region.wanted o (yielded ops a.tmps)=false:=by unfold pO at G;unfold Region.wanted;split at G;simp_all;rename_i j W U;obtain⟨d,B,M⟩:=G;obtain⟨A,y2⟩:=C4 D.env B;grind
  rw[if_neg aaI];refine O g w _ ⟨D.inv,D.rT,D.env.put (by simp[It.skip,aP,Rel]) N,D.frame,(Y _).1,(Y _).2⟩
 have T:Region.wanted o (yielded ops a.tmps)=true:=by unfold qA at G;unfold Region.wanted;split at G;simp_all;rename_i j W U;obtain⟨d,B,M⟩:=G;obtain⟨A,_⟩:=C4 D.env B;simp only[U];rw[A _ M];cases W<;>rfl
 rw[if_pos T];refine .inl (H env σ w g a K Q (λ_ _=>rfl) (λk _=>gX.refl k σ) D.inv D.rT D.env ?_);intro u w' g' h1 h2 q J;refine O g' w' _ ⟨h2,?_,(D.env.mono J).put h1 N,D.frame.trans q,(Y _).1,(Y _).2⟩;intro k v E;exact Rel.mono J.1 _ _ (D.rT k v E)
def tU.wp{P:Program}{X:Ctx}{β:jq}{n:Nat}{ops:Array Oper}(J:qR ops n=true){Q:Exit->Act->World->Prop} :
  ∀{l:L (Nat×It)}{env env':Env}{σ D:St},tU P X ops l env σ env' D->∀{g:Gh}{w:World}{a:Act},Live X β n env σ g w a ->
  (∀g' w' p,Live X β n env' D g' w' p->Q .normal p w')->wpOps P ops Q (l.map (·.1)) a w
 |[],env,env',σ,D,⟨h1,h2⟩,g,w,a,hL,hQ=>by subst h1 h2;exact hQ g w a hL
 |(i,u)::l,env,env',σ,D,⟨B,C,h1,h2⟩,g,w,a,hL,hQ=>by exact h1.wp J hL λg' w' p Y=>tU.wp J h2 Y hQ
def nG(o:Oper):L Nat:=o.after.toList.filterMap λe=>if Region.binds .any e then some e.on else none
def xj:L (L Nat)->L Nat->L Nat
 |[],acc=>acc
 |es::rest,acc=>xj rest (acc++[es.foldl (λs e=>s|||2^e|||acc.getD e 0) 0])
def Sk(ops:Array Oper):L Nat:=xj (ops.toList.map nG) []
def C5(acc:L Nat)(j:Nat):∀(es:L Nat)(s:Nat),(es.foldl (λs e=>s|||2^e|||acc.getD e 0) s).testBit j=true ->
  s.testBit j=true\/∃e∈es,e=j\/(acc.getD e 0).testBit j=true
 |[],s,h => .inl h
 |e::es,s,h=>by
  rcases C5 acc j es _ h with h|⟨e',h1,h2⟩
  grind;grind
def C6:∀(es:L (L Nat))(acc:L Nat)(i:Nat),acc.length<=i->i<acc.length+es.length ->
  ∀j,((xj es acc).getD i 0).testBit j=true->∃e∈es.getD (i-acc.length) [],e=j\/((xj es acc).getD e 0).testBit j=true
 |[],acc,i,h1,h2,j,h=>by simp at h2;omega
 |x::es,acc,i,h1,h2,j,h=>by
  have Y:∀(es:L (L Nat))(acc:L Nat)(k:Nat),k<acc.length->(xj es acc).getD k 0=acc.getD k 0:=by
   intro es
   induction es with
   |nil=>intro acc k E;rfl
   |cons y es S =>
    intro acc k E;simp only[xj];rw[S _ _ ob];simp[List.getD,adq E]
  simp only[xj]at h ⊢;by_cases W:i=acc.length
  ·subst W;rw[Y _ _ _ c9]at h;simp only[List.getD,adn (aal _),Nat.sub_self,adv,ady]at h;rcases C5 acc j x 0 h with h|⟨e,U,P⟩
   simp at h;grind
  obtain⟨e,U,P⟩:=C6 es (acc++[x.foldl (λs e=>s|||2^e|||acc.getD e 0) 0]) i ob (by simp at h2 ⊢;omega) j h;refine⟨e,?_,P⟩;simp only[aao,aaa,aab]at U;rw[show i-acc.length=(i-(acc.length+(0+1)))+1 from by omega];simpa using U
def pg(ops:Array Oper)(Y:L Fp):Bool :=
 let W:=Sk ops
 (List.range ops.size).all λi=>(((ops[i]?).map nG).getD []).all (λe=>Nat.blt e i) &&
  (List.range i).all λj=>(W.getD i 0).testBit j||indep ops j i (Y.getD j ⟨[],[]⟩) (Y.getD i ⟨[],[]⟩)
end Go.cB
