/- A layer of abstract values over the model, part A: -/
import Derived.Calls
import Derived.Laws.Entries
import Derived.Laws.Cells
import Derived.Laws.Strings
import Derived.Orders
set_option linter.defProp false
set_option linter.unusedSimpArgs false
set_option linter.unusedVariables false
namespace Go.cM
def Y8:=@List.mem_append
def Zb:=@congrArg
def Zc:=@List.append_nil
def Zl:=@List.map_cons
def Zn:=@List.getElem?_eq_getElem
def Zo:=@of_decide_eq_true
def Zp:=@List.sizeOf_lt_of_mem
def Zx:=@List.drop_length
def Zy:=@List.cons_append
def ZD:=@Nat.le_of_ble_eq_true
def ZG:=@Nat.zero_add
def ZI:=@List.mem_cons
def ZQ:=@List.length_take
def ZX:=@Nat.lt_succ_self
def Z4:=@Array.getElem?_append_left
def Z5:=@decide_eq_true_eq
def Z7:=@List.length_drop
def aan:=@List.map_append
def aao:=@Array.getElem?_eq_getElem
def aap:=@List.length_map
def aaD:=@Array.toList_append
def aaE:=@List.all_cons
def aaF:=@Nat.zero_le
def aaG:=@Nat.le_trans
def aaH:=@Bool.false_and
def aaI:=@Bool.true_and
def aaJ:=@Option.some.injEq
def aaK:=@Decidable.not_not
def aaL:=@Nat.add_zero
def aaM:=@List.mem_cons_of_mem
def aaN:=@Array.getD_eq_getD_getElem?
def aaO:=@Bool.eq_iff_iff
def aaP:=@Array.toList_map
def aaQ:=@List.append_assoc
def aaR:=@List.size_toArray
def aaS:=@List.getD_eq_getElem?_getD
def aaT:=@Bool.or_eq_false_iff
def aaU:=@Nat.lt_of_lt_of_le
def aaV:=@List.nil_append
def aaW:=@Prod.mk.injEq
def aaY:=@List.take_append_drop
def aba:=@List.getElem?_take
def abb:=@List.mem_of_mem_drop
def abc:=@List.all_eq_true
def abd:=@Array.size_append
def abe:=@Bool.and_true
def abf:=@Decidable.byContradiction
def abg:=@if_false
def abh:=@List.getElem?_eq_none
def abi:=@List.zipIdx_cons
def abj:=@List.take_of_length_le
def abk:=@Nat.mul_le_mul_right
def abl:=@List.getElem?_append
def abm:=@List.all_append
def abn:=@Nat.lt_or_ge
def abo:=@List.take_succ_cons
def abp:=@Nat.add_mul
def abq:=@List.getElem?_cons_zero
def abr:=@List.eq_nil_of_length_eq_zero
def abu:=@Int.tmod_lt_of_pos
def abv:=@List.getElem?_of_mem
def abw:=@List.reverse_reverse
def abx:=@List.drop_zero
def aby:=@List.drop_eq_getElem_cons
def abz:=@Array.getElem?_push
def abA:=@List.length_eq_zero_iff
def abB:=@List.mem_cons_self
def abC:=@decide_eq_false_iff_not
def abD:=@Array.getElem?_push_lt
def abE:=@cond_false
def abF:=@bne_self_eq_false
def abG:=@Nat.le_succ
def abH:=@List.getElem?_toArray
def abI:=@List.getElem_mem
def abJ:=@Option.getD_some
def abK:=@Nat.mod_eq_of_lt
def abL:=@List.mem_of_mem_take
def abM:=@and_true
def abN:=@Array.getElem?_setIfInBounds
def abO:=@cond_true
def abP:=@List.getElem?_append_right
def abQ:=@Int.fdiv_eq_ediv_of_nonneg
def abR:=@Nat.succ_mul
def abT:=@List.getElem?_drop
def abU:=@List.getElem?_append_left
def abW:=@Array.mapM_eq_mapM_toList
def abX:=@List.reverse_cons
def abY:=@bne_iff_ne
def abZ:=@List.any_cons
def acd:=@Nat.le_mul_of_pos_right
def ace:=@Option.map_some
def acf:=@Array.getElem?_toList
def acg:=@UInt8.lt_iff_toNat_lt
def ach:=@Nat.blt_eq
def aci:=@Nat.pow_le_pow_right
def acj:=@List.pairwise_append
def ack:=@List.mem_range
def acm:=@List.drop_succ_cons
def acn:=@List.reverse_append
def aco:=@Nat.add_sub_cancel
def acp:=@Nat.add_assoc
def acq:=@List.pairwise_cons
def acr:=@Bool.not_eq_true'
def acu:=@Nat.sub_zero
def acv:=@Nat.and_two_pow_sub_one_eq_mod
def acw:=@or_false
def acy:=@List.length_set
def acz:=@Nat.min_eq_left
def acA:=@Int.natAbs_tdiv_le_natAbs
def acB:=@List.mapM_cons
def acC:=@Bool.and_assoc
def acD:=@beq_iff_eq
def acE:=@ByteArray.ext
def acF:=@Int.mul_assoc
def acG:=@Option.bind_eq_some_iff
def acH:=@not_true
def acI:=@Int.eq_ofNat_of_zero_le
def acK:=@List.drop_eq_nil_of_le
def acL:=@List.getElem?_set_self
def acM:=@List.mem_map
def acN:=@Nat.eq_of_beq_eq_true
def acO:=@Array.mem_toList_iff
def acP:=@Int.le_refl
theorem Z{α:Sort _}{a:α}:a=a:=rfl
abbrev L:=@List
def bn{p:Prop}(h:p:=by omega):p:=h
def cc{p:Prop}(h:p:=by decide):p:=h
def c9{p:Prop}(h:p:=by show List.length q<=_;omega):p:=h
def ek{p:Prop}(h:p:=by simp):p:=h
def fc{p:Prop}(h:p:=by simp only[aac];omega):p:=h
def fe{p:Prop}(h:p:=by simp only[ez,dN,eS,gC,gS,aK];omega):p:=h
def fk{p:Prop}(h:p:=by show J.length-(i+1)<J.length-i;omega):p:=h
def gp{p:Prop}(h:p:=by simp[an]):p:=h
def gB{p:Prop}(h:p:=by show List.length (aL P U::aL Y J::q)<=_;simp only[aac];omega):p:=h
def jS{p:Prop}(h:p:=by simp only[ez,dN,eS,aK];omega):p:=h
def j0{p:Prop}(h:p:=by unfold bL;omega):p:=h
def lf{p:Prop}(h:p:=by simp[Op.operands]):p:=h
def mc{p:Prop}(h:p:=by show List.length (aL 3 n::q)<=_;simp only[aac];omega):p:=h
def nt{p:Prop}(h:p:=by simp only[bw,bg];omega):p:=h
def nu{p:Prop}(h:p:=by rw[ho];simp[Op.operands]):p:=h
def ob{p:Prop}(h:p:=by simp only[Nat.min_def];split<;>omega):p:=h
def oe{p:Prop}(h:p:=by simp[Act.eval,Act.put]):p:=h
def ot{p:Prop}(h:p:=by simp;omega):p:=h
def oy{p:Prop}(h:p:=by show List.length (aL 2 n::aL 2 W::q)<=_;simp only[aac];omega):p:=h
def p5{p:Prop}(h:p:=by show List.length (v::q)<=_;simp only[aac];omega):p:=h
def p8{p:Prop}(h:p:=by simp[eqGuard_at_pointer,mQ,mR,jv Y,run_equal_nil_nil Y]):p:=h
def q6{p:Prop}(h:p:=by simpa using h):p:=h
def ri{p:Prop}(h:p:=by simp[h]):p:=h
def rj{p:Prop}(h:p:=by simp[aI,Rel]):p:=h
def rE{p:Prop}(h:p:=by simp only;omega):p:=h
def si{p:Prop}(h:p:=by rw[Ar]at hj;omega):p:=h
def sk{p:Prop}(h:p:=by rw[ho];simp only[Op.operands,Call.operands,aaD,Y8];exact .inr hx):p:=h
def s8{p:Prop}(h:p:=by show List.length (Vl.mk 6 0 0 Y [] [] [] :: .mk 6 0 0 Q [] [] []::q)<=_;simp only[aac];omega):p:=h
def u5{p:Prop}(h:p:=by show List.length (aL 5 U::aL 5 J::q)<=_;simp only[aac];omega):p:=h
def u6{p:Prop}(h:p:=by simp only;have:=O.1;simp only at this;omega):p:=h
def u7{p:Prop}(h:p:=by simp only[aay,aac,aad];omega):p:=h
def vF{p:Prop}(h:p:=by rw[hd];exact k):p:=h
def Ao{p:Prop}(h:p:=by simp only[au,aac];omega):p:=h
def C1{p:Prop}(h:p:=by simp only[vG];exact⟨Wk.refl _,by unfold Wk;exact .inr ⟨Z,Z⟩,trivial⟩):p:=h
def Dq{p:Prop}(h:p:=by show List.length (bt x y::q)<=_;simp only[aac];omega):p:=h
def Ev{p:Prop}(h:p:=by have:=(S (.mk T us) (by simp)).2;omega):p:=h
def HE{p:Prop}(h:p:=by show l.length-(i+1)<l.length-i;omega):p:=h
def H7{p:Prop}(h:p:=by have:=bQ hx;omega):p:=h
def JY{p:Prop}(h:p:=by simpa using h2):p:=h
def KU{p:Prop}(h:p:=by simpa only[aI]using h2):p:=h
def K0{p:Prop}(h:p:=by have:=B.2;simp only[cw,aO,aK,bg,aS,aad];omega):p:=h
def LN{p:Prop}(h:p:=by show List.length (Vl.mk 6 0 0 W [] [] []::q)<=_;simp only[aac];omega):p:=h
def Ma{p:Prop}(h:p:=by simp[CV.cells,CV.one]):p:=h
def Mn{p:Prop}(h:p:=by show List.length (Vl.mk C U Q O Y N M::q)<=_;simp only[aac];omega):p:=h
def Ny{p:Prop}(h:p:=by simp only[aac,aad];omega):p:=h
def NG{p:Prop}(h:p:=by rw[ho];simp only[Op.operands,acM];exact⟨p,hp,Z⟩):p:=h
def N2{p:Prop}(h:p:=by show st.length<=_;omega):p:=h
def OT{p:Prop}(h:p:=by have:=cA (l:=[u,u']) (x:=w) (by simp at D ⊢;simp[D]);omega):p:=h
def OW{p:Prop}(h:p:=by show((acc++[_]).length:Int)<=A;simp only[aay,aac,aad];omega):p:=h
def Pn{p:Prop}(h:p:=by have:=(K (.mk T us) (by simp)).2;omega):p:=h
def PF{p:Prop}(h:p:=by rwa[abT]at hj):p:=h
def PZ{p:Prop}(h:p:=by rw[hvl]at hj;omega):p:=h
def P5{p:Prop}(h:p:=by rw[ho];simp[Op.operands,Call.operands]):p:=h
def P7{p:Prop}(h:p:=by show List.length st<=_;omega):p:=h
def P9{p:Prop}(h:p:=by have:=(Zo h.1).2;omega):p:=h
def QF{p:Prop}(h:p:=by show b≠w.heap.size;omega):p:=h
def QO{p:Prop}(h:p:=by unfold Wk;exact .inr ⟨Z,Z⟩):p:=h
def Rg{p:Prop}(h:p:=by have:=ee I;omega):p:=h
def Rl{p:Prop}(h:p:=by simp only[aac]at wK;omega):p:=h
def RU{p:Prop}(h:p:=by rw[aay,aac,ZQ,Z7];omega):p:=h
def R2{p:Prop}(h:p:=by rw[aaC];omega):p:=h
def R4{p:Prop}(h:p:=by rw[abd,aaR,Bk];omega):p:=h
def TL{p:Prop}(h:p:=by simp[h1]):p:=h
def TR{p:Prop}(h:p:=by simp only[aI];exact⟨us.toList,by simp,f2,f3⟩):p:=h
def TT{p:Prop}(h:p:=by have:=Zb List.length hq;simp at this;omega):p:=h
def T1{p:Prop}(h:p:=by have:=bQ I;show J.length-(i+1)<J.length-i;omega):p:=h
def T7{p:Prop}(h:p:=by rw[aay,ZQ,Z7];omega):p:=h
def Ug{p:Prop}(h:p:=by have:=(List.getElem?_eq_some_iff.1 hy).1;omega):p:=h
def Ui{p:Prop}(h:p:=by simpa only[aI]using h1):p:=h
def Uw{p:Prop}(h:p:=by rw[if_neg (by omega)];exact h6):p:=h
def Ux{p:Prop}(h:p:=by rw[bq];unfold bL;omega):p:=h
def UK{p:Prop}(h:p:=by simp[eqGuard_at_bool,s9,ta,run_equal_bool Y]):p:=h
def UT{p:Prop}(h:p:=by simp at D ⊢;simp[D]):p:=h
def UU{p:Prop}(h:p:=by simp[bw,bg]):p:=h
def VC{p:Prop}(h:p:=by have:=bQ I;omega):p:=h
def VF{p:Prop}(h:p:=by simp only[aay,aac,aad,abx];omega):p:=h
def VI{p:Prop}(h:p:=by simp only[aac,aad]at *;omega):p:=h
def VJ{p:Prop}(h:p:=by simp[Rel]):p:=h
def VK{p:Prop}(h:p:=by simp only[lX,Bool.or_false];exact di jC H):p:=h
def V8{p:Prop}(h:p:=by show acc.length<=i+1;omega):p:=h
def Wb{p:Prop}(h:p:=by simp[Builtin.len_,Y,goInt]):p:=h
def Wc{p:Prop}(h:p:=by subst hy;simp[Op.operands]):p:=h
def Wf{p:Prop}(h:p:=by rw[jA];rfl):p:=h
def Wg{p:Prop}(h:p:=by split at h1<;>omega):p:=h
def Wl{p:Prop}(h:p:=by simp only[aac]at hq;omega):p:=h
def Wy{p:Prop}(h:p:=by simpa using h1):p:=h
def WG{p:Prop}(h:p:=by rw[fz]):p:=h
def WH{p:Prop}(h:p:=by simp only[aac]at B;omega):p:=h
def WI{p:Prop}(h:p:=by simp[hargs]):p:=h
def WY{p:Prop}(h:p:=by unfold ke at pg;exact pg):p:=h
def Xh{p:Prop}(h:p:=by show 0<=u+1;omega):p:=h
def Xs{p:Prop}(h:p:=by show u+1<=g;omega):p:=h
def Xw{p:Prop}(h:p:=by simpa only[aI]using h3):p:=h
def XA{p:Prop}(h:p:=by rw[T];simp):p:=h
def XM{p:Prop}(h:p:=by simp[g']):p:=h
def XN{p:Prop}(h:p:=by rw[l1,k1];exact aav _):p:=h
def XO{p:Prop}(h:p:=by simp[CV.cells,bI,Rel]):p:=h
def XQ{p:Prop}(h:p:=by rw[Kp];exact n4):p:=h
def X9{p:Prop}(h:p:=by simp only[aay];omega):p:=h
def Ya{p:Prop}(h:p:=by simp[H]):p:=h
def Yb{p:Prop}(h:p:=by rw[hvl];omega):p:=h
def Yc{p:Prop}(h:p:=by rw[l2,k2];rfl):p:=h
def Yd{p:Prop}(h:p:=by rw[l3,k3];rfl):p:=h
def Ye{p:Prop}(h:p:=by rw[l4,k4];rfl):p:=h
def Yi{p:Prop}(h:p:=by rw[V];exact k):p:=h
def Ys{p:Prop}(h:p:=by simpa using V):p:=h
def Yt{p:Prop}(h:p:=by rw[zX]):p:=h
def Yy{p:Prop}(h:p:=by exact AK.again (ih (i+1) ⟨bQ hx,hinv⟩ (by have:=bQ hx;omega)) ⟨.inl (iS (by have:=bQ hx;omega)),.inl Z,.inl Z,.inl Z,trivial⟩ trivial trivial Z Z Z):p:=h
def YD{p:Prop}(h:p:=by exact ih (i+1,acc++[(Vl.mk 11 0 0 [] q [] [])],false) ⟨h2,by simp[H],W,(by simpa using V)⟩ (by show J.length-(i+1)<J.length-i;omega)):p:=h
def YH{p:Prop}(h:p:=by exact bB (fM (dA (by simp only[bw,bg];omega) (λt h=>E t (by simp[h])))) (bT _)):p:=h
def YJ{p:Prop}(h:p:=by exact Src.ofSlice w ts ⟨vb,vo,none⟩ m vc vs hvl (λj u hj=>by rw[Addr.add_lit];exact hvs j u hj) Aq):p:=h
def YM{p:Prop}(h:p:=by exact λk n b lo hi h1 h2 => .inr ⟨k,n,lo,hi,h1,h2,aav _,aav _⟩):p:=h
def YN{p:Prop}(h:p:=by exact MW hf Z Z Z Z Z Z Z Z Z):p:=h
def Y3{p:Prop}(h:p:=by exact Zb (λl=>[LV.own 1 l]) (bV rows acc _ _ (by rw[hM _ (by omega)]))):p:=h
def Y7{p:Prop}(h:p:=by exact AK.AB Tryz.hX hf (l:=[.own .exact 7 []]) Z [] Z Z trivial):p:=h
def aac{α:Type}{a:α}{l:List α}:(a::l).length=l.length+1:=List.length_cons
def aad{α:Type}:([]:List α).length=0:=List.length_nil
def aae{α:Type}{a:α}{l:List α}{d:α}:(a::l).getD 0 d=a:=List.getD_cons_zero
def aaf{α:Type}{a:α}{l:List α}{n:Nat}{d:α}:(a::l).getD (n+1) d=l.getD n d:=List.getD_cons_succ
def aal(a b:Bool):((a&&b)=true)=(a=true/\b=true):=Bool.and_eq_true a b
def aav(n:Nat):n<=n:=Nat.le_refl n
def aaw{p:Prop}[Decidable p](h:p):decide p=true:=decide_eq_true h
def aax{p:Prop}[Decidable p](h:¬p):decide p=false:=decide_eq_false h
def aay{α:Type}{a b:List α}:(a++b).length=a.length+b.length:=List.length_append
def aaz(a b:Bool):((a||b)=true)=(a=true\/b=true):=Bool.or_eq_true a b
def aaA{α:Type}{l:List α}{i:Nat}{a:α}(h:l[i]?=some a):a∈l:=List.mem_of_getElem? h
def aaB(n:Nat):((n:Int)).toNat=n:=Int.toNat_natCast n
def aaC{α:Type}{l:List α}:l.reverse.length=l.length:=List.length_reverse
inductive CV where
 |int (k:IntKind) (n:Int)
 |bool (b:Bool)
 |str (s:List UInt8)
 |kI
 |undef
 |sl (s:Nat) (rows:List CV)
 |agg (cs:List CV)
 |ip (cs:List CV)
 |sH (f:FuncId) (caps:List CV)
 |gb (cs:List CV)
 |any
 |pJ
 deriving Inhabited
def CV.cells:CV->L CV
 |.agg cs=>cs
 |v=>[v]
def CV.one:CV->Bool
 |.agg _ | .gb _ | .undef=>false
 |_=>true
abbrev iJ:=Nat->Nat->Option Value
mutual
def Rel(G:iJ):CV->Value->Prop
 |.int k n,v=>v = .int k n
 |.bool b,v=>v = .bool b
 |.str s,v=>v = .string ⟨s.toArray⟩
 |.kI,v=>v = .pointer none
 |.undef,v=>v=Go.undef
 |.sl s rows,v=>∃base K D,v = .slice base K D/\K=rows.length/\K<=D /\
   (rows=[]\/∃b o,base=some ⟨b,o,none⟩/\eP G s b o rows)
 |.agg cs,v=>∃vs:L Value,v = .agg vs.toArray/\bI G cs vs/\cs.all CV.one=true
 |.ip cs,v=>∃b o,v = .pointer (some ⟨b,o,none⟩)/\cL G b o cs
 |.sH f A,v=>∃vs:L Value,v = .func (.func f) #[] vs.toArray/\bI G A vs
 |.gb cs,v=>∃vs:L Value,v = .tuple vs.toArray/\bI G cs vs/\2<=cs.length
 |.any,v=>(∀vs,v ≠ .agg vs)/\∀vs,v ≠ .tuple vs
 |.pJ,v=>∃x,v = .bool x
def bI(G:iJ):L CV->L Value->Prop
 |[],vs=>vs=[]
 |c::cs,vs=>∃u us,vs=u::us/\Rel G c u/\bI G cs us
def cL(G:iJ):Nat->Nat->L CV->Prop
 |_,_,[]=>True
 |b,o,c::cs=>(∃u,G b o=some u/\Rel G c u/\c.one=true)/\cL G b (o+1) cs
def nC(G:iJ):Nat->Nat->CV->Prop
 |b,o,.agg cs=>cL G b o cs
 |b,o,.int k n=>G b o=some (.int k n)
 |b,o,.bool x=>G b o=some (.bool x)
 |b,o,.str s=>G b o=some (.string ⟨s.toArray⟩)
 |b,o,.kI=>G b o=some (.pointer none)
 |_,_,.undef=>False
 |b,o,.sl s rows=>∃base K D,G b o=some (.slice base K D)/\K=rows.length/\K<=D /\
   (rows=[]\/∃Q O,base=some ⟨Q,O,none⟩/\eP G s Q O rows)
 |b,o,.ip cs=>∃Q O,G b o=some (.pointer (some ⟨Q,O,none⟩))/\cL G Q O cs
 |b,o,.sH f A=>∃vs:L Value,G b o=some (.func (.func f) #[] vs.toArray)/\bI G A vs
 |_,_,.gb _=>False
 |b,o,.any=>∃v,G b o=some v/\(∀vs,v ≠ .agg vs)/\∀vs,v ≠ .tuple vs
 |b,o,.pJ=>∃x,G b o=some (.bool x)
def eP(G:iJ):Nat->Nat->Nat->L CV->Prop
 |_,_,_,[]=>True
 |s,b,o,r::rs=>nC G b o r/\r.cells.length=s/\eP G s b (o+s) rs
end
def w8(G:iJ)(b o:Nat)(r:CV):nC G b o r↔cL G b o r.cells:=by
 cases r with
 |sl s rows =>
  simp only[nC,CV.cells,cL,CV.one,Rel,abM];constructor
  ·grind
  ·simp_all
 |ip cs =>
  simp only[nC,CV.cells,cL,CV.one,Rel,abM];constructor
  ·grind
  ·simp_all
 |sH f A =>
  simp only[nC,CV.cells,cL,CV.one,Rel,abM];constructor
  ·simp_all
  ·simp_all
 |pJ =>
  simp only[nC,CV.cells,cL,CV.one,Rel,abM];constructor
  ·grind
  ·simp_all
 |_=>simp[nC,CV.cells,cL,CV.one,Rel]
def iJ.le(G Y:iJ):Prop:=∀b o v,G b o=some v->Y b o=some v
def iJ.le.refl(G:iJ):G.le G:=λ_ _ _ h=>h
def iJ.le.trans{G W Y:iJ}(h:G.le W)(C:W.le Y):G.le Y:=λb o v x=>C b o v (h b o v x)
mutual
def Rel.mono{G Y:iJ}(h:G.le Y):∀(c:CV)(v:Value),Rel G c v->Rel Y c v
 |.int _ _,_,x=>by simpa[Rel]using x
 |.bool _,_,x=>by simpa[Rel]using x
 |.str _,_,x=>by simpa[Rel]using x
 |.kI,_,x=>by simpa[Rel]using x
 |.undef,_,x=>by simpa[Rel]using x
 |.sl s rows,v,x=>by
  simp only[Rel]at x ⊢;obtain⟨base,K,D,e,B,p,E⟩:=x;exact⟨base,K,D,e,B,p,E.imp id λ⟨b,o,V,E⟩=>⟨b,o,V,eP.mono h s b o rows E⟩⟩
 |.agg cs,v,x=>by
  simp only[Rel]at x ⊢;obtain⟨vs,e,E,W⟩:=x;exact⟨vs,e,bI.mono h cs vs E,W⟩
 |.ip cs,v,x=>by
  simp only[Rel]at x ⊢;obtain⟨b,o,e,E⟩:=x;exact⟨b,o,e,cL.mono h b o cs E⟩
 |.sH f A,v,x=>by
  simp only[Rel]at x ⊢;obtain⟨vs,e,E⟩:=x;exact⟨vs,e,bI.mono h A vs E⟩
 |.gb cs,v,x=>by
  simp only[Rel]at x ⊢;obtain⟨vs,e,E,W⟩:=x;exact⟨vs,e,bI.mono h cs vs E,W⟩
 |.any,_,x=>by simp only[Rel]at x ⊢;exact x
 |.pJ,_,x=>by simp only[Rel]at x ⊢;exact x
def bI.mono{G Y:iJ}(h:G.le Y):∀(cs:L CV)(vs:L Value),bI G cs vs->bI Y cs vs
 |[],_,x=>by simpa[bI]using x
 |c::cs,vs,x=>by
  simp only[bI]at x ⊢;obtain⟨u,us,e,p,E⟩:=x;exact⟨u,us,e,Rel.mono h c u p,bI.mono h cs us E⟩
def cL.mono{G Y:iJ}(h:G.le Y):∀(b o:Nat)(cs:L CV),cL G b o cs->cL Y b o cs
 |_,_,[],_=>by simp[cL]
 |b,o,c::cs,x=>by
  simp only[cL]at x ⊢;obtain⟨⟨u,H,p,W⟩,E⟩:=x;exact⟨⟨u,h b o u H,Rel.mono h c u p,W⟩,cL.mono h b (o+1) cs E⟩
def nC.mono{G Y:iJ}(h:G.le Y):∀(b o:Nat)(r:CV),nC G b o r->nC Y b o r
 |b,o,.agg cs,x=>by simp only[nC]at x ⊢;exact cL.mono h b o cs x
 |b,o,.int _ _,x=>by simp only[nC]at x ⊢;exact h _ _ _ x
 |b,o,.bool _,x=>by simp only[nC]at x ⊢;exact h _ _ _ x
 |b,o,.str _,x=>by simp only[nC]at x ⊢;exact h _ _ _ x
 |b,o,.kI,x=>by simp only[nC]at x ⊢;exact h _ _ _ x
 |_,_,.undef,x=>by simp[nC]at x
 |b,o,.sl s rows,x=>by
  simp only[nC]at x ⊢;obtain⟨base,K,D,e,B,p,E⟩:=x;exact⟨base,K,D,h _ _ _ e,B,p,E.imp id λ⟨b,o,V,E⟩=>⟨b,o,V,eP.mono h s b o rows E⟩⟩
 |b,o,.ip cs,x=>by
  simp only[nC]at x ⊢;obtain⟨Q,O,e,E⟩:=x;exact⟨Q,O,h _ _ _ e,cL.mono h Q O cs E⟩
 |b,o,.sH f A,x=>by
  simp only[nC]at x ⊢;obtain⟨vs,e,E⟩:=x;exact⟨vs,h _ _ _ e,bI.mono h A vs E⟩
 |_,_,.gb _,x=>by simp[nC]at x
 |b,o,.any,x=>by
  simp only[nC]at x ⊢;obtain⟨v,e,E⟩:=x;exact⟨v,h _ _ _ e,E⟩
 |b,o,.pJ,x=>by
  simp only[nC]at x ⊢;obtain⟨v,e⟩:=x;exact⟨v,h _ _ _ e⟩
def eP.mono{G Y:iJ}(h:G.le Y):∀(s b o:Nat)(rs:L CV),eP G s b o rs->eP Y s b o rs
 |_,_,_,[],_=>by simp[eP]
 |s,b,o,r::rs,x=>by
  simp only[eP]at x ⊢;exact⟨nC.mono h b o r x.1,x.2.1,eP.mono h s b (o+s) rs x.2.2⟩
end
inductive SJ where
 |exact
 |tok (key n:Nat)
 deriving Inhabited
inductive AV where
 |c (v:CV)
 |own (k:SJ) (s:Nat) (rows:List CV)
 |ptr (key off:Nat)
 |fZ (key off s n:Nat)
 |any
 |agg (cs:List AV)
 |gb (cs:List AV)
 deriving Inhabited
def AV.one:AV->Bool
 |.c v=>v.one
 |.own .. | .ptr .. | .fZ .. | .any=>true
 |.agg _ | .gb _=>false
structure Gh where
 G:iJ
 box:Nat->Option Nat
 tok:Nat->Option (Nat×Option (Nat×Nat×Nat))
 room:Nat->Nat
def jJ(G:iJ)(s:Nat)(base:Option Addr)(rows:L CV):Prop :=
 rows=[]\/∃b o,base=some ⟨b,o,none⟩/\eP G s b o rows
def oD(g:Gh)(s:Nat)(base:Option Addr)(K D:Nat):SJ->Prop
 |.exact=>D=K
 |.tok M n=>∃J B,g.tok M=some (J,B)/\n<=J/\(J=n->D=K \/
   ∃b H q o,B=some (b,H,q)/\base=some ⟨b,o,none⟩/\H=o+K*s/\q=o+D*s/\K<=D)
mutual
def aI(g:Gh):AV->Value->Prop
 |.c v,x=>Rel g.G v x
 |.own k s rows,x=>∃base K D,x = .slice base K D/\K=rows.length/\K<=D/\jJ g.G s base rows/\oD g s base K D k
 |.ptr M off,x=>∃b,g.box M=some b/\x = .pointer (some ⟨b,off,none⟩)
 |.fZ M off s n,x=>∃b D o,g.box M=some b/\x = .slice o n D/\n<=D/\off+D*s<=g.room M/\(D=0\/o=some ⟨b,off,none⟩)
 |.any,x=>(∀vs,x ≠ .agg vs)/\∀vs,x ≠ .tuple vs
 |.agg cs,x=>∃vs:L Value,x = .agg vs.toArray/\bC g cs vs/\cs.all AV.one=true
 |.gb cs,x=>∃vs:L Value,x = .tuple vs.toArray/\bC g cs vs/\2<=cs.length
def bC(g:Gh):L AV->L Value->Prop
 |[],vs=>vs=[]
 |c::cs,vs=>∃u us,vs=u::us/\aI g c u/\bC g cs us
end
def Gh.le(g g':Gh):Prop :=
 g.G.le g'.G/\(∀k b,g.box k=some b->g'.box k=some b)/\(∀k b,g.box k=some b->g'.room k=g.room k) /\
 ∀k J B,g.tok k=some (J,B)->∃Y W,g'.tok k=some (Y,W)/\J<=Y/\(Y=J->W=B)
def Gh.le.refl(g:Gh):g.le g:=⟨iJ.le.refl _,λ_ _ h=>h,λ_ _ _=>rfl,λ_ J B h=>⟨J,B,h,aav _,λ_=>rfl⟩⟩
def Gh.le.trans{g g' O:Gh}(h:g.le g')(C:g'.le O):g.le O:=by
 refine⟨h.1.trans C.1,λk b x=>C.2.1 k b (h.2.1 k b x),λk b x=>(C.2.2.1 k b (h.2.1 k b x)).trans (h.2.2.1 k b x),λk J B x=>?_⟩;obtain⟨U,W,I,u,V⟩:=h.2.2.2 k J B x;obtain⟨Y,T,S,Q,q⟩:=C.2.2.2 k U W I;refine⟨Y,T,S,aaG u Q,λe=>?_⟩;have:Y=U:=by omega
 rw[q this,V bn]
def jJ.mono{G Y:iJ}(h:G.le Y){s:Nat}{base:Option Addr}{rows:L CV}(x:jJ G s base rows):jJ Y s base rows :=
 x.imp id λ⟨b,o,e,r⟩=>⟨b,o,e,eP.mono h s b o rows r⟩
def oD.mono{g g':Gh}(h:g.le g'){s:Nat}{base:Option Addr}{K D:Nat}:∀{k:SJ},oD g s base K D k->oD g' s base K D k
 |.exact,x=>x
 |.tok M n,⟨J,B,e,E,V⟩=>by
  obtain⟨W,U,e',T,Y⟩:=h.2.2.2 M J B e;refine⟨W,U,e',aaG E T,λS=>?_⟩;have C:W=J:=by omega
  rw[Y C];exact V bn
mutual
def aI.mono{g g':Gh}(h:g.le g'):∀(a:AV)(v:Value),aI g a v->aI g' a v
 |.c v,x,r=>by simp only[aI]at r ⊢;exact Rel.mono h.1 v x r
 |.own k s rows,x,r=>by
  simp only[aI]at r ⊢;obtain⟨base,K,D,e,B,p,E,Y⟩:=r;exact⟨base,K,D,e,B,p,E.mono h.1,Y.mono h⟩
 |.ptr M off,x,r=>by
  simp only[aI]at r ⊢;obtain⟨b,A,e⟩:=r;exact⟨b,h.2.1 _ _ A,e⟩
 |.fZ M off s n,x,r=>by
  simp only[aI]at r ⊢;obtain⟨b,D,o,A,e,h1,h2,W⟩:=r;exact⟨b,D,o,h.2.1 _ _ A,e,h1,by rw[h.2.2.1 _ _ A];exact h2,W⟩
 |.any,x,r=>by simp only[aI]at r ⊢;exact r
 |.agg cs,x,r=>by
  simp only[aI]at r ⊢;obtain⟨vs,e,E,Y⟩:=r;exact⟨vs,e,bC.mono h cs vs E,Y⟩
 |.gb cs,x,r=>by
  simp only[aI]at r ⊢;obtain⟨vs,e,E,Y⟩:=r;exact⟨vs,e,bC.mono h cs vs E,Y⟩
def bC.mono{g g':Gh}(h:g.le g'):∀(cs:L AV)(vs:L Value),bC g cs vs->bC g' cs vs
 |[],_,r=>by simpa[bC]using r
 |c::cs,vs,r=>by
  simp only[bC]at r ⊢;obtain⟨u,us,e,p,E⟩:=r;exact⟨u,us,e,aI.mono h c u p,bC.mono h cs us E⟩
end
def ak{α:Type}(k:Nat):L (Nat×α)->Option α
 |[]=>none
 |(j,x)::l=>match Nat.beq j k with
  |true=>some x
  |false=>ak k l
def Aw{α:Type}(k:Nat):L (Nat×α)->L (Nat×α)
 |[]=>[]
 |(j,x)::l=>match Nat.beq j k with
  |true=>Aw k l
  |false=>(j,x)::Aw k l
def sK{α:Type}(k:Nat)(y:α):L (Nat×α)->L (Nat×α)
 |[]=>[(k,y)]
 |(j,x)::l=>match Nat.beq j k with
  |true=>(j,y)::l
  |false=>(j,x)::sK k y l
def vu{α:Type}(k:Nat)(y:α):L (Nat×α)->Option (L (Nat×α))
 |[]=>some [(k,y)]
 |(j,x)::l=>match Nat.beq j k with
  |true=>some ((j,y)::l)
  |false=>match vu k y l with
   |some r=>some ((j,x)::r)
   |none=>none
def qC{α:Type}(k:Nat)(y:α):∀(l:L (Nat×α)),vu k y l=some (sK k y l)
 |[]=>rfl
 |(j,x)::l=>by
  simp only[vu,sK,qC k y l];split<;>rfl
def beq_true{j k:Nat}(h:Nat.beq j k=true):j=k:=acN h
def beq_false{j k:Nat}(h:Nat.beq j k=false):j≠k:=Nat.ne_of_beq_eq_false h
def jl{α:Type}(k j:Nat)(l:L (Nat×α)):ak j (Aw k l)=if j=k then none else ak j l:=by
 induction l with
 |nil=>simp[Aw,ak]
 |cons x l O =>
  obtain⟨i,x⟩:=x;simp only[Aw];split
  ·rename_i h;have:=beq_true h;subst this;rw[O];split
   ·rfl
   ·rename_i Y;simp only[ak];split
    ·simp_all
    ·rfl
  ·rename_i h;have Y:=beq_false h;simp only[ak];split
   ·simp_all
   ·rw[O]
def ej{α:Type}(k j:Nat)(y:α)(l:L (Nat×α)):ak j (sK k y l)=if j=k then some y else ak j l:=by
 induction l with
 |nil =>
  simp only[sK,ak];split
  ·simp_all
  ·rename_i h;have:=beq_false h;rw[if_neg (λe=>this e.symm)]
 |cons x l O =>
  obtain⟨i,x⟩:=x;simp only[sK];split
  ·rename_i h;have:=beq_true h;subst this;simp only[ak];split
   ·simp_all
   ·grind
  ·rename_i h;have Y:=beq_false h;simp only[ak];split
   ·simp_all
   ·rw[O]
structure St where
 boxes:List (Nat×List AV)
 toks:List (Nat×Nat)
 used:List Nat
 deriving Inhabited
def cg(w:World)(g:Gh)(b:Nat):Nat->L AV->Prop
 |_,[]=>True
 |o,c::cs=>(∃u,w.cell? ⟨b,o,none⟩=some u/\aI g c u/\c.one=true)/\w.frozen? ⟨b,o,none⟩=false/\cg w g b (o+1) cs
def cg.mono{w:World}{g g':Gh}(h:g.le g'){b:Nat}:∀{o:Nat}{cs:L AV},cg w g b o cs->cg w g' b o cs
 |_,[],_=>trivial
 |_,_::_,⟨⟨u,H,E,Y⟩,hf,oE⟩=>⟨⟨u,H,aI.mono h _ _ E,Y⟩,hf,cg.mono h oE⟩
def cg.of_same{w w':World}{g:Gh}{b:Nat}(h:∀o,w'.cell? ⟨b,o,none⟩=w.cell? ⟨b,o,none⟩/\w'.frozen? ⟨b,o,none⟩=w.frozen? ⟨b,o,none⟩) :
  ∀{o:Nat}{cs:L AV},cg w g b o cs->cg w' g b o cs
 |_,[],_=>trivial
 |_,_::_,⟨⟨u,H,E,Y⟩,hf,oE⟩=>⟨⟨u,(h _).1.trans H,E,Y⟩,(h _).2.trans hf,cg.of_same h oE⟩
structure Inv(w:World)(g:Gh)(σ:St):Prop where
 nF:∀b o v,g.G b o=some v->w.cell? ⟨b,o,none⟩=some v
 box:∀k cs,ak k σ.boxes=some cs->∃b,g.box k=some b/\b<w.heap.size/\(∀o,g.G b o=none)/\cg w g b 0 cs
 fo:∀k k' cs cs' b,ak k σ.boxes=some cs->ak k' σ.boxes=some cs'->g.box k=some b->g.box k'=some b->k=k'
 tok:∀k n,ak k σ.toks=some n->∃fI,g.tok k=some (n,fI)/\∀b lo hi,fI=some (b,lo,hi)->b<w.heap.size /\
  (∀o,lo<=o->o<hi->g.G b o=none/\(∃u,w.cell? ⟨b,o,none⟩=some u)/\w.frozen? ⟨b,o,none⟩=false) /\
  ∀k' cs,ak k' σ.boxes=some cs->g.box k'≠some b
 ga:∀k k' n n' b lo hi lo' hi',ak k σ.toks=some n->ak k' σ.toks=some n' ->
  g.tok k=some (n,some (b,lo,hi))->g.tok k'=some (n',some (b,lo',hi'))->k=k'
 used:∀k,g.box k≠none\/g.tok k≠none->k∈σ.used
 room:∀k cs b,ak k σ.boxes=some cs->g.box k=some b->∀o,(o<g.room k->∃u,w.cell? ⟨b,o,none⟩=some u)/\w.frozen? ⟨b,o,none⟩=false
def Inv.TV{w:World}{g:Gh}{σ:St}(Y:Inv w g σ)(k:Nat)(cs:L AV)(b:Nat)(e:ak k σ.boxes=some cs)(A:g.box k=some b)(o:Nat)(W:o<g.room k):(∃u,w.cell? ⟨b,o,none⟩=some u)/\w.frozen? ⟨b,o,none⟩=false :=
 ⟨(Y.room k cs b e A o).1 W,(Y.room k cs b e A o).2⟩
def Inv.yz{w w':World}{g:Gh}{σ:St}(Y:Inv w g σ)(h:∀k cs b,ak k σ.boxes=some cs->g.box k=some b->b<w.heap.size->∀o,w'.cell? ⟨b,o,none⟩=w.cell? ⟨b,o,none⟩/\w'.frozen? ⟨b,o,none⟩=w.frozen? ⟨b,o,none⟩) :
  ∀k cs b,ak k σ.boxes=some cs->g.box k=some b->∀o,(o<g.room k->∃u,w'.cell? ⟨b,o,none⟩=some u)/\w'.frozen? ⟨b,o,none⟩=false:=by
 intro k cs b e A o;obtain⟨Q,h1,h2,_⟩:=Y.box k cs e;rw[A]at h1;cases h1;obtain⟨K,W⟩:=Y.room k cs b e A o;have:=h k cs b e A h2 o;exact⟨λV=>(K V).imp λu H=>this.1.trans H,this.2.trans W⟩
def gX(g:Gh)(σ:St)(b o:Nat):Prop :=
 (∃k cs,ak k σ.boxes=some cs/\g.box k=some b) \/
 ∃k n H K,ak k σ.toks=some n/\g.tok k=some (n,some (b,H,K))/\H<=o/\o<K
structure gy(w:World)(g:Gh)(σ:St)(w':World)(g':Gh)(σ':St):Prop where
 os:w'.os=w.os
 tape:w'.tape=w.tape
 output:w'.output=w.output
 size:w.heap.size<=w'.heap.size
 block:∀b,b<w.heap.size->(∀o,¬gX g σ b o)->w'.heap[b]?=w.heap[b]?
 kept:∀b o,b<w.heap.size->¬gX g σ b o->w'.cell? ⟨b,o,none⟩=w.cell? ⟨b,o,none⟩/\w'.frozen? ⟨b,o,none⟩=w.frozen? ⟨b,o,none⟩
 le:g.G.le g'.G
 new:∀b o v,g'.G b o=some v->g.G b o=some v\/w.heap.size<=b\/gX g σ b o
 boxes:∀k cs b,ak k σ'.boxes=some cs->g'.box k=some b->w.heap.size<=b\/∃k0 cs0,ak k0 σ.boxes=some cs0/\g.box k0=some b
 toks:∀k n b lo hi,ak k σ'.toks=some n->g'.tok k=some (n,some (b,lo,hi))->w.heap.size<=b \/
  ∃k0 n0 Dd pn,ak k0 σ.toks=some n0/\g.tok k0=some (n0,some (b,Dd,pn))/\Dd<=lo/\hi<=pn
 ids:∀k,1000000<=k->ak k σ'.boxes≠none->ak k σ.boxes≠none/\g'.box k=g.box k/\g'.room k=g.room k
def gy.owned{w w':World}{g g':Gh}{σ u:St}(h:gy w g σ w' g' u){b o:Nat}(Y:gX g' u b o):w.heap.size<=b\/gX g σ b o:=by
 rcases Y with ⟨k,cs,h1,h2⟩|⟨k,n,H,K,h1,h2,T,S⟩
 ·exact(h.boxes k cs b h1 h2).imp id λ⟨O,p,e⟩ => .inl ⟨O,p,e⟩
 ·exact(h.toks k n b H K h1 h2).imp id λ⟨O,W,V,U,C,Q,P,N⟩ => .inr ⟨O,W,V,U,C,Q,bn,bn⟩
def gy.refl(w:World)(g:Gh)(σ:St):gy w g σ w g σ where
 os:=rfl
 tape:=rfl
 output:=rfl
 size:=aav _
 block:=λ_ _ _=>rfl
 kept:=λ_ _ _ _=>⟨Z,Z⟩
 le:=iJ.le.refl _
 new:=λ_ _ _ h => .inl h
 boxes:=λk cs _ h1 h2 => .inr ⟨k,cs,h1,h2⟩
 toks:=λk n _ H K h1 h2 => .inr ⟨k,n,H,K,h1,h2,aav _,aav _⟩
 ids:=λ_ _ h=>⟨h,Z,Z⟩
def gy.trans{w H q:World}{g g1 S:Gh}{σ N Y:St}(h:gy w g σ H g1 N)(C:gy H g1 N q S Y):gy w g σ q S Y where
 os:=C.os.trans h.os
 tape:=C.tape.trans h.tape
 output:=C.output.trans h.output
 size:=aaG h.size C.size
 block:=λb A W=>by
  rw[C.block b (aaU A h.size) λo V=>by
   rcases h.owned V with x|x
   ·omega
   ·exact W o x]
  exact h.block b A W
 kept:=λb o A W=>by
  have h1:=h.kept b o A W;have h2:=C.kept b o (aaU A h.size) λV=>by
   rcases h.owned V with x|x
   ·omega
   ·exact W x
  exact⟨h2.1.trans h1.1,h2.2.trans h1.2⟩
 le:=h.le.trans C.le
 new:=λb o v x=>by
  rcases C.new b o v x with x|x|x
  ·exact h.new b o v x
  ·exact .inr (.inl (aaG h.size x))
  ·rcases h.owned x with x|x
   ·exact .inr (.inl x)
   ·exact .inr (.inr x)
 boxes:=λk cs b h1 h2=>by
  rcases C.boxes k cs b h1 h2 with x|⟨O,p,I,Q⟩
  ·exact .inl (aaG h.size x)
  ·exact h.boxes O p b I Q
 toks:=λk n b P K h1 h2=>by
  rcases C.toks k n b P K h1 h2 with x|⟨O,M,J,E,I,Q,e3,e4⟩
  ·exact .inl (aaG h.size x)
  ·rcases h.toks O M b J E I Q with x|⟨u,B,V0,G,f1,f2,f3,f4⟩
   ·exact .inl x
   ·exact .inr ⟨u,B,V0,G,f1,f2,bn,bn⟩
 ids:=λk D h2=>by
  obtain⟨h3,h4,U⟩:=C.ids k D h2;obtain⟨h5,h6,T⟩:=h.ids k D h3;exact⟨h5,h4.trans h6,U.trans T⟩
def sw(g:Gh)(env:L (Nat×AV))(Y:Array Value):Prop:=∀t a,ak t env=some a->aI g a (Y.getD t undef)
def sw.mono{g g':Gh}(h:g.le g'){env:L (Nat×AV)}{Y:Array Value}(x:sw g env Y):sw g' env Y :=
 λt a e=>aI.mono h _ _ (x t a e)
inductive TK where
 |int (k:IntKind)|bool|str|ptr (e:Nat)|slice (e:Nat)|arr (n e:Nat)|struct (fs:List (Nat×Nat))|other
 deriving Inhabited
structure TI where
 size:Nat
 bytes:Nat
 kind:TK
 zero:Option AV
 deriving Inhabited
def TI.isAgg(i:TI):Bool:=match i.kind with
 |.arr .. | .struct .. => true
 |_=>false
structure Ctx where
 ti:Nat->Option TI
 qe:Nat->Option CV
def ey(P:Program):TK->TypeDesc->Prop
 |.int k,d=>d = .int k
 |.bool,d=>d = .bool
 |.str,d=>d = .string
 |.ptr e,d=>d = .pointer e
 |.slice e,d=>d = .slice e
 |.arr n e,d=>d = .array n e
 |.struct W,d=>∃Y:Array Field,d = .struct Y/\Y.toList.map (λf=>(f.offset,f.type))=W /\
   ∀f∈Y.toList,∃Q,P.info? f.type=some Q/\Q.size≠0
 |.other,d=>(match d with | .struct _ | .array _ _=>false|_=>true)=true
structure ct(P:Program)(X:Ctx):Prop where
 ti:∀t i,X.ti t=some i->∃inf,P.info? t=some inf/\inf.size=i.size/\inf.bytes=i.bytes /\
  (∀a,i.zero=some a->∃z,inf.zero=some z/\(∀g,aI g a z)/\z.cells.size=i.size)/\(∃d,P.underlying t=some d/\ey P i.kind d)/\i.size≠0
def mA(X:Ctx)(G:iJ):Prop:=∀n v,X.qe n=some v->Rel G v (.pointer (some ⟨n,0,none⟩))
section types
variable {P : Program}{X : Ctx}{w : World}{t : Nat}{i : TI}
def ct.run_sizeOf(h:ct P X)(e:X.ti t=some i):(sizeOf t).run P w = .ok i.size w:=by
 obtain⟨Q,h1,h2,_⟩:=h.ti t i e;simp[sizeOf,typeInfo,h1,h2]
def ct.run_underlying(h:ct P X)(e:X.ti t=some i):∃d,(underlying t).run P w = .ok d w/\ey P i.kind d/\P.underlying t=some d:=by
 obtain⟨Q,h1,h2,K,_,⟨d,W,Y⟩,_⟩:=h.ti t i e;exact⟨d,by simp[underlying,W],Y,W⟩
def ct.kL(h:ct P X)(e:X.ti t=some i){a:AV}(Y:i.zero=some a):∃z,(zeroValue t).run P w = .ok z w/\(∀g,aI g a z)/\z.cells.size=i.size:=by
 obtain⟨Q,h1,h2,K,W,_⟩:=h.ti t i e;obtain⟨z,V,U,T⟩:=W a Y;exact⟨z,by simp[zeroValue,typeInfo,h1,V],U,T⟩
def ct.nV(h:ct P X)(e:X.ti t=some i):(isAgg t).run P w = .ok i.isAgg w:=by
 obtain⟨d,h1,h2,_⟩:=h.run_underlying (w:=w) e;simp only[isAgg,Sem.run_bind,h1,Result.andThen_ok];unfold TI.isAgg;cases D:i.kind<;>rw[D]at h2<;>simp only[ey]at h2
 case struct fs=>obtain⟨Y,rfl,_⟩:=h2;rfl
 case other=>cases d<;>simp at h2<;>rfl
 all_goals subst h2;rfl
end types
def takeN{α:Type}:Nat->List α->Option (List α)
 |0,_=>some []
 |_+1,[]=>none
 |n+1,x::l=>match takeN n l with
  |some r=>some (x::r)
  |none=>none
def fX{α:Type}:Nat->List α->Option (List α)
 |0,l=>some l
 |_+1,[]=>none
 |n+1,_::l=>fX n l
def oF{α:Type}:∀{n:Nat}{l r:List α},takeN n l=some r->r=l.take n/\n<=l.length
 |0,l,r,h=>by simp[takeN]at h;subst h;simp
 |n+1,[],r,h=>by simp[takeN]at h
 |n+1,x::l,r,h=>by
  simp only[takeN]at h;split at h
  ·rename_i O C;obtain⟨rfl,B⟩:=oF C;simp at h;subst h;simp;exact B
  ·simp at h
def jK{α:Type}:∀{n:Nat}{l r:List α},fX n l=some r->r=l.drop n/\n<=l.length
 |0,l,r,h=>by simp[fX]at h;subst h;simp
 |n+1,[],r,h=>by simp[fX]at h
 |n+1,x::l,r,h=>by
  simp only[fX]at h;obtain⟨rfl,B⟩:=jK h;simp;exact B
def cL.get{G:iJ}{b:Nat}:∀{o:Nat}{cs:L CV},cL G b o cs->∀(j:Nat) c,cs[j]?=some c->∃u,G b (o+j)=some u/\Rel G c u/\c.one=true
 |o,[],_,j,c,h=>by simp at h
 |o,x::cs,h,j,c,hj=>by
  simp only[cL]at h;cases j with
  |zero=>simp at hj;subst hj;exact h.1
  |succ j =>
   simp at hj;have:=h.2.get j c hj;rwa[show o+1+j=o+(j+1)from by omega]at this
def cL.drop{G:iJ}{b:Nat}:∀{o n:Nat}{cs:L CV},cL G b o cs->cL G b (o+n) (cs.drop n)
 |o,0,cs,h=>by simpa using h
 |o,n+1,[],h=>by simp[cL]
 |o,n+1,x::cs,h=>by
  simp only[cL]at h;have:=cL.drop (n:=n) h.2;simpa[show o+1+n=o+(n+1)from by omega]using this
def cL.jo{G:iJ}{b:Nat}:∀{o:Nat}{cs:L CV},(∀(j:Nat) c,cs[j]?=some c->∃u,G b (o+j)=some u/\Rel G c u/\c.one=true)->cL G b o cs
 |o,[],_=>by simp[cL]
 |o,x::cs,h=>by
  simp only[cL];refine⟨by simpa using h 0 x ek,cL.jo λj c T=>?_⟩;have:=h (j+1) c (by simpa using T);rwa[show o+(j+1)=o+1+j from by omega]at this
def eP.get{G:iJ}{s b:Nat}:∀{o:Nat}{rows:L CV},eP G s b o rows->∀(j:Nat) r,rows[j]?=some r->cL G b (o+j*s) r.cells/\r.cells.length=s
 |o,[],_,j,r,h=>by simp at h
 |o,x::rows,h,j,r,hj=>by
  simp only[eP]at h;cases j with
  |zero=>simp at hj;subst hj;exact⟨by simpa using (w8 G b o x).1 h.1,h.2.1⟩
  |succ j =>
   simp at hj;have:=h.2.2.get j r hj;rwa[show o+s+j*s=o+(j+1)*s from by rw[abR];omega]at this
def eP.drop{G:iJ}{s b:Nat}:∀{o n:Nat}{rows:L CV},eP G s b o rows->eP G s b (o+n*s) (rows.drop n)
 |o,0,rows,h=>by simpa using h
 |o,n+1,[],h=>by simp[eP]
 |o,n+1,x::rows,h=>by
  simp only[eP]at h;have:=eP.drop (n:=n) h.2.2;simpa[show o+s+n*s=o+(n+1)*s from by rw[abR];omega]using this
def eP.take{G:iJ}{s b:Nat}:∀{o n:Nat}{rows:L CV},eP G s b o rows->eP G s b o (rows.take n)
 |o,0,rows,h=>by simp[eP]
 |o,n+1,[],h=>by simp[eP]
 |o,n+1,x::rows,h=>by
  simp only[eP]at h;simp only[abo,eP];exact⟨h.1,h.2.1,eP.take h.2.2⟩
def cg.get{w:World}{g:Gh}{b:Nat}:∀{o:Nat}{cs:L AV},cg w g b o cs->∀(j:Nat) c,cs[j]?=some c ->
  (∃u,w.cell? ⟨b,o+j,none⟩=some u/\aI g c u/\c.one=true)/\w.frozen? ⟨b,o+j,none⟩=false
 |o,[],_,j,c,h=>by simp at h
 |o,x::cs,h,j,c,hj=>by
  simp only[cg]at h;cases j with
  |zero=>simp at hj;subst hj;exact⟨h.1,h.2.1⟩
  |succ j =>
   simp at hj;have:=h.2.2.get j c hj;rwa[show o+1+j=o+(j+1)from by omega]at this
def cg.jo{w:World}{g:Gh}{b:Nat}:∀{o:Nat}{cs:L AV},(∀(j:Nat) c,cs[j]?=some c ->
  (∃u,w.cell? ⟨b,o+j,none⟩=some u/\aI g c u/\c.one=true)/\w.frozen? ⟨b,o+j,none⟩=false)->cg w g b o cs
 |o,[],_=>trivial
 |o,x::cs,h=>by
  refine⟨by simpa using (h 0 x ek).1,by simpa using (h 0 x ek).2,cg.jo λj c T=>?_⟩;have:=h (j+1) c (by simpa using T);rwa[show o+(j+1)=o+1+j from by omega]at this
def bI.get{G:iJ}:∀{cs:L CV}{vs:L Value},bI G cs vs->cs.length=vs.length/\∀(j:Nat) c,cs[j]?=some c->∃u,vs[j]?=some u/\Rel G c u
 |[],vs,h=>by simp only[bI]at h;subst h;simp
 |c::cs,vs,h=>by
  simp only[bI]at h;obtain⟨u,us,rfl,A,E⟩:=h;obtain⟨B,p⟩:=E.get;refine⟨by simp[B],λj J T=>?_⟩;cases j with
  |zero=>simp at T;subst T;exact⟨u,ek,A⟩
  |succ j=>simp at T;simpa using p j J T
def bC.get{g:Gh}:∀{cs:L AV}{vs:L Value},bC g cs vs->cs.length=vs.length/\∀(j:Nat) c,cs[j]?=some c->∃u,vs[j]?=some u/\aI g c u
 |[],vs,h=>by simp only[bC]at h;subst h;simp
 |c::cs,vs,h=>by
  simp only[bC]at h;obtain⟨u,us,rfl,A,E⟩:=h;obtain⟨B,p⟩:=E.get;refine⟨by simp[B],λj J T=>?_⟩;cases j with
  |zero=>simp at T;subst T;exact⟨u,ek,A⟩
  |succ j=>simp at T;simpa using p j J T
def bI.jo{G:iJ}:∀{cs:L CV}{vs:L Value},cs.length=vs.length->(∀(j:Nat) c u,cs[j]?=some c->vs[j]?=some u->Rel G c u)->bI G cs vs
 |[],vs,h,_=>by simp only[bI];exact abr (by simpa using h.symm)
 |c::cs,[],h,_=>by simp at h
 |c::cs,u::us,h,p=>by
  simp only[bI];exact⟨u,us,Z,p 0 c u ek ek,bI.jo q6 λj J M h1 h2=>p (j+1) J M Wy JY⟩
def bC.jo{g:Gh}:∀{cs:L AV}{vs:L Value},cs.length=vs.length->(∀(j:Nat) c u,cs[j]?=some c->vs[j]?=some u->aI g c u)->bC g cs vs
 |[],vs,h,_=>by simp only[bC];exact abr (by simpa using h.symm)
 |c::cs,[],h,_=>by simp at h
 |c::cs,u::us,h,p=>by
  simp only[bC];exact⟨u,us,Z,p 0 c u ek ek,bC.jo q6 λj J M h1 h2=>p (j+1) J M Wy JY⟩
end Go.cM
namespace Go.cM
def Fs:Value->Option AV
 |.int k n=>some (.c (.int k n))
 |.bool b=>some (.c (.bool b))
 |.string s=>some (.c (.str s.data.toList))
 |.pointer none=>some (.c .kI)
 |.slice none 0 0=>some (.own .exact 0 [])
 |_=>none
def BF:L Value->Option (L AV)
 |[]=>some []
 |v::vs=>match Fs v with
  |some a=>match BF vs with
   |some l=>some (a::l)
   |none=>none
  |none=>none
def P1:Value->Option AV
 |.agg cs=>match BF cs.toList with
  |some l=>some (.agg l)
  |none=>none
 |v=>Fs v
def D1(g:Gh):∀{v:Value}{a:AV},Fs v=some a->aI g a v/\a.one=true:=by
 intro v a h;unfold Fs at h;split at h<;>simp at h<;>subst h<;>simp[aI,Rel,AV.one,CV.one];exact⟨_,_,_,⟨Z,Z,Z⟩,Z,aav _,.inl Z,Z⟩
def D2(g:Gh):∀{vs:L Value}{l:L AV},BF vs=some l->bC g l vs/\l.all AV.one=true
 |[],l,h=>by simp[BF]at h;subst h;simp[bC]
 |v::vs,l,h=>by
  simp only[BF]at h;split at h
  ·rename_i a W;split at h
   ·rename_i U B;simp at h;subst h;obtain⟨h1,h2⟩:=D1 g W;obtain⟨K,Y⟩:=D2 g B;exact⟨by simp only[bC];exact⟨v,vs,Z,h1,K⟩,by simp[h2];simpa using Y⟩
   ·simp at h
  ·simp at h
def P2(g:Gh){v:Value}{a:AV}(h:P1 v=some a):aI g a v:=by
 unfold P1 at h;split at h
 ·rename_i cs;split at h
  ·rename_i l B;simp at h;subst h;obtain⟨h1,h2⟩:=D2 g B;simp only[aI];exact⟨cs.toList,ek,h1,h2⟩
  ·simp at h
 ·exact(D1 g h).1
def aJ(X:Ctx)(env:L (Nat×AV)):Operand->Option AV
 |.tmp t=>ak t env
 |.const v=>P1 v
 |.global n=>match X.qe n with
  |some v=>some (.c v)
  |none=>none
 |.func f=>some (.c (.sH f []))
def cn{X:Ctx}{g:Gh}{env:L (Nat×AV)}{a:Act}(S:sw g env a.tmps)(p:mA X g.G){x:Operand}{v:AV}(h:aJ X env x=some v):aI g v (a.eval x):=by
 cases x with
 |tmp t=>exact S t v h
 |const c=>exact P2 g h
 |global n =>
  simp only[aJ]at h;split at h
  ·rename_i E T;simp at h;subst h;simp only[aI];exact p n E T
  ·simp at h
 |func f=>simp[aJ]at h;subst h;simp only[aI,Rel];exact⟨[],rfl,by simp[bI]⟩
def nth{α:Type}:List α->Nat->Option α
 |[],_=>none
 |x::_,0=>some x
 |_::l,n+1=>nth l n
def qf{α:Type}:∀(l:List α)(n:Nat),nth l n=l[n]?
 |[],n=>by simp[nth]
 |x::l,0=>by simp[nth]
 |x::l,n+1=>by simp[nth,qf l n]
def TW(t:Bool)(a b:AV):Option AV :=
 match a,b with
 |.c (.bool x),.c (.bool y)=>some (.c (.bool (bif t then x else y)))
 |_,_=>match t with
  |true=>some a
  |false=>some b
def vv(i:TI)(cells:L AV):Option AV :=
 match i.isAgg with
 |true=>match takeN i.size cells with
  |some l=>some (.agg l)
  |none=>none
 |false=>match cells with
  |c::_=>some c
  |[]=>none
def yA(i:TI)(cells:L CV):Option AV :=
 match i.isAgg with
 |true=>match takeN i.size cells with
  |some l=>some (.c (.agg l))
  |none=>none
 |false=>match cells with
  |c::_=>some (.c c)
  |[]=>none
section
variable {P : Program}{X : Ctx}{w : World}{g : Gh}
def w9(hX:ct P X){t:Nat}{i:TI}(K:X.ti t=some i)(W:i.isAgg=true)(b o:Nat)(vs:L Value)(B:vs.length=i.size)
  (h:∀j v,vs[j]?=some v->w.cell? ⟨b,o+j,none⟩=some v) :
  (Instr.loadAt t (.pointer (some ⟨b,o,none⟩))).run P w = .ok (.agg vs.toArray) w:=by
 have A:=run_loadCells_list (P:=P) w ⟨b,o,none⟩ vs (λj v T=>by rw[Addr.add_lit];exact h j v T);simp only[Instr.loadAt,Instr.sureAddr,loadVar,Sem.run_bind,Sem.run_pure,Result.andThen_ok,hX.nV K,W,if_true,hX.run_sizeOf K];rw[<- B,A];rfl
def xb(hX:ct P X){t:Nat}{i:TI}(K:X.ti t=some i)(W:i.isAgg=false)(b o:Nat)(v:Value)
  (h:w.cell? ⟨b,o,none⟩=some v) :
  (Instr.loadAt t (.pointer (some ⟨b,o,none⟩))).run P w = .ok v w:=by
 simp[Instr.loadAt,Instr.sureAddr,loadVar,hX.nV K,W,h]
def P3(hX:ct P X){t:Nat}{i:TI}(q:X.ti t=some i){b o:Nat}{cells:L AV}(A:cg w g b o cells){v:AV}(h:vv i cells=some v) :
  ∃u,(Instr.loadAt t (.pointer (some ⟨b,o,none⟩))).run P w = .ok u w/\aI g v u:=by
 unfold vv at h;split at h
 ·rename_i W;split at h
  ·rename_i l B;simp at h;subst h;obtain⟨rfl,U⟩:=oF B;have M:∀(n:Nat)(cs:L AV)(o:Nat),cg w g b o cs->n<=cs.length->∃vs:L Value,vs.length=n/\(∀j v,vs[j]?=some v->w.cell? ⟨b,o+j,none⟩=some v)/\bC g (cs.take n) vs/\(cs.take n).all AV.one=true:=by
    intro n
    induction n with
    |zero=>intro cs o _ _;exact⟨[],Z,ek,by simp[bC],ek⟩
    |succ n O =>
     intro cs o Y D;cases cs with
     |nil=>simp at D
     |cons x cs =>
      obtain⟨⟨u,H,E,T⟩,_,oE⟩:=Y;obtain⟨vs,h1,h2,K,V⟩:=O cs (o+1) oE (by simpa using D);refine⟨u::vs,TL,?_,?_,?_⟩
      ·grind
      ·simp only[abo,bC];exact⟨u,vs,Z,E,K⟩
      ·simp_all
   obtain⟨vs,h1,h2,K,V⟩:=M i.size cells o A U;exact⟨.agg vs.toArray,w9 hX q W b o vs h1 h2,by simp only[aI];exact⟨vs,Z,K,V⟩⟩
  ·simp at h
 ·rename_i W;split at h
  ·rename_i c rest;simp at h;subst h;obtain⟨⟨u,H,E,_⟩,_,_⟩:=A;exact⟨u,xb hX q W b o u H,E⟩
  ·simp at h
def NH(hX:ct P X)(O:∀b o v,g.G b o=some v->w.cell? ⟨b,o,none⟩=some v){t:Nat}{i:TI}(q:X.ti t=some i){b o:Nat}{cells:L CV}
  (A:cL g.G b o cells){v:AV}(h:yA i cells=some v) :
  ∃u,(Instr.loadAt t (.pointer (some ⟨b,o,none⟩))).run P w = .ok u w/\aI g v u:=by
 unfold yA at h;split at h
 ·rename_i W;split at h
  ·rename_i l B;simp at h;subst h;obtain⟨rfl,U⟩:=oF B;have M:∀(n:Nat)(cs:L CV)(o:Nat),cL g.G b o cs->n<=cs.length->∃vs:L Value,vs.length=n/\(∀j v,vs[j]?=some v->w.cell? ⟨b,o+j,none⟩=some v)/\bI g.G (cs.take n) vs/\(cs.take n).all CV.one=true:=by
    intro n
    induction n with
    |zero=>intro cs o _ _;exact⟨[],Z,ek,by simp[bI],ek⟩
    |succ n T =>
     intro cs o Y D;cases cs with
     |nil=>simp at D
     |cons x cs =>
      simp only[cL]at Y;obtain⟨⟨u,H,E,S⟩,oE⟩:=Y;obtain⟨vs,h1,h2,K,V⟩:=T cs (o+1) oE (by simpa using D);refine⟨u::vs,TL,?_,?_,?_⟩
      ·grind
      ·simp only[abo,bI];exact⟨u,vs,Z,E,K⟩
      ·simp_all
   obtain⟨vs,h1,h2,K,V⟩:=M i.size cells o A U;exact⟨.agg vs.toArray,w9 hX q W b o vs h1 h2,by simp only[aI,Rel];exact⟨vs,Z,K,V⟩⟩
  ·simp at h
 ·rename_i W;split at h
  ·rename_i c rest;simp at h;subst h;simp only[cL]at A;obtain⟨⟨u,H,E,_⟩,_⟩:=A;exact⟨u,xb hX q W b o u (O _ _ _ H),by simpa only[aI]using E⟩
  ·simp at h
end
end Go.cM
namespace Go.cM
def toList_mk(l:L UInt8):(ByteArray.mk l.toArray).toList=l:=by rw[ByteArray.toList_eq]
def P4(q:BinOp)(k:IntKind)(a b:Int):Option CV :=
 match q with
 |.add=>some (.int k (k.wrap (a+b)))
 |.sub=>some (.int k (k.wrap (a-b)))
 |.mul=>some (.int k (k.wrap (a*b)))
 |.quo=>match b==0 with
  |true=>none
  |false=>some (.int k (k.wrap (a.tdiv b)))
 |.rem=>match b==0 with
  |true=>none
  |false=>some (.int k (a.tmod b))
 |.and=>some (.int k (k.wrap (BitVec.ofInt k.bits a&&&BitVec.ofInt k.bits b).toNat))
 |.or=>some (.int k (k.wrap (BitVec.ofInt k.bits a|||BitVec.ofInt k.bits b).toNat))
 |.xor=>some (.int k (k.wrap (BitVec.ofInt k.bits a ^^^ BitVec.ofInt k.bits b).toNat))
 |.eql=>some (.bool (a==b))
 |.neq=>some (.bool (a != b))
 |.lss=>some (.bool (decide (a<b)))
 |.leq=>some (.bool (decide (a<=b)))
 |.gtr=>some (.bool (decide (a>b)))
 |.geq=>some (.bool (decide (a>=b)))
 |_=>none
def sameKind:IntKind->IntKind->Bool
 |.i64,.i64 | .u8,.u8 | .u64,.u64 | .i32,.i32 | .u32,.u32=>true
 |_,_=>false
def HC{j k:IntKind}(h:sameKind j k=true):j=k:=by
 cases j<;>cases k<;>simp[sameKind]at h<;>rfl
def yB(q:BinOp)(k:IntKind)(a b:Int):Option CV :=
 match q,b with
 |.shl,.ofNat n=>some (.int k (k.wrap (a*2^(min n k.bits))))
 |.shr,.ofNat n=>some (.int k (a.fdiv (2^(min n k.bits))))
 |_,_=>none
def UQ(q:BinOp)(a b:L UInt8):Option CV :=
 match q with
 |.eql=>some (.bool (a==b))
 |.neq=>some (.bool (!(a==b)))
 |.lss=>some (.bool (Op.bytesLess a b))
 |.gtr=>some (.bool (!(Op.bytesLess a b||a==b)))
 |_=>none
def Kf(k:TK)(q:BinOp)(x y:AV):Option AV :=
 match x,y with
 |.c (.int j a),.c (.int j' b) =>
  match q with
  |.shl | .shr=>match yB q j a b with
   |some v=>some (.c v)
   |none=>none
  |_=>match sameKind j j' with
   |true=>match P4 q j a b with
    |some v=>some (.c v)
    |none=>none
   |false=>none
 |.c (.str a),.c (.str b)=>match UQ q a b with
  |some v=>some (.c v)
  |none=>none
 |.c (.bool a),.c (.bool b)=>match k,q with
  |.bool,.eql=>some (.c (.bool (a==b)))
  |.bool,.neq=>some (.c (.bool (!(a==b))))
  |_,_=>none
 |.c (.ip _),.c .kI=>match k,q with
  |.ptr _,.eql=>some (.c (.bool false))
  |.ptr _,.neq=>some (.c (.bool true))
  |_,_=>none
 |.c .kI,.c .kI=>match k,q with
  |.ptr _,.eql=>some (.c (.bool true))
  |.ptr _,.neq=>some (.c (.bool false))
  |_,_=>none
 |_,_=>none
section
variable {P : Program}{X : Ctx}{w : World}{g : Gh}
def SL{q:BinOp}{k:IntKind}{a b:Int}{v:CV}(h:P4 q k a b=some v)(t:TypeId)(x y:Operand) :
  ∃u,(do eqGuard q t x y (.int k a) (.int k b);binOp q t (.int k a) (.int k b)).run P w = .ok u w/\Rel g.G v u:=by
 cases q<;>simp only[P4]at h<;>simp only[eqGuard_at_int]
 case quo =>
  split at h
  ·simp at h
  ·rename_i A;simp at h;subst h;have:b≠0:=by simpa using A
   exact⟨_,by simp[binOp,Op.intDiv,this];rfl,VJ⟩
 case rem =>
  split at h
  ·simp at h
  ·rename_i A;simp at h;subst h;have:b≠0:=by simpa using A
   exact⟨_,by simp[binOp,Op.intDiv,this];rfl,VJ⟩
 all_goals first
  |(simp at h;done)
  |(simp at h;subst h;exact⟨_,by simp[binOp,Op.intArith,Op.intBits,Op.intCmp];rfl,VJ⟩)
def NI{q:BinOp}{k k':IntKind}{a b:Int}{v:CV}(h:yB q k a b=some v)(t:TypeId)(x y:Operand) :
  ∃u,(do eqGuard q t x y (.int k a) (.int k' b);binOp q t (.int k a) (.int k' b)).run P w = .ok u w/\Rel g.G v u:=by
 unfold yB at h;split at h
 ·rename_i n;simp at h;subst h;refine⟨.int k (k.wrap (a*2^(min n k.bits))),?_,VJ⟩;simp[eqGuard_at_int,binOp,Op.shift,show ¬((n:Int)<0)from by omega]
 ·rename_i n;simp at h;subst h;refine⟨.int k (a.fdiv (2^(min n k.bits))),?_,VJ⟩;simp[eqGuard_at_int,binOp,Op.shift,show ¬((n:Int)<0)from by omega]
 ·simp at h
def SM{q:BinOp}{a b:L UInt8}{v:CV}(h:UQ q a b=some v)(t:TypeId)(x y:Operand) :
  ∃u,(do eqGuard q t x y (.string ⟨a.toArray⟩) (.string ⟨b.toArray⟩);binOp q t (.string ⟨a.toArray⟩) (.string ⟨b.toArray⟩)).run P w = .ok u w/\Rel g.G v u:=by
 cases q<;>simp only[UQ]at h<;>first
  |(simp at h;done)
  |(simp at h;subst h;exact⟨_,by simp[eqGuard_at_string,binOp,Op.stringOp,toList_mk];rfl,VJ⟩)
def xd{t:TypeId}(d:Nat)(h:(underlying t).run P w = .ok .bool w)(a b:Bool):(Op.equalIn (d+1) t (.bool a) (.bool b)).run P w = .ok (a==b) w:=by
 simp[Op.equalIn,h]
def yC{t e:TypeId}(d:Nat)(h:(underlying t).run P w = .ok (.pointer e) w)(a:Addr):(Op.equalIn (d+1) t (.pointer (some a)) (.pointer none)).run P w = .ok false w:=by
 simp[Op.equalIn,h]
def yD{t e:TypeId}(d:Nat)(h:(underlying t).run P w = .ok (.pointer e) w):(Op.equalIn (d+1) t (.pointer none) (.pointer none)).run P w = .ok true w:=by
 simp[Op.equalIn,h]
def run_equal_bool{t:TypeId}(h:(underlying t).run P w = .ok .bool w)(a b:Bool):(Op.equal t (.bool a) (.bool b)).run P w = .ok (a==b) w :=
 xd 9999 h a b
def jv{t e:TypeId}(h:(underlying t).run P w = .ok (.pointer e) w)(a:Addr):(Op.equal t (.pointer (some a)) (.pointer none)).run P w = .ok false w :=
 yC 9999 h a
def run_equal_nil_nil{t e:TypeId}(h:(underlying t).run P w = .ok (.pointer e) w):(Op.equal t (.pointer none) (.pointer none)).run P w = .ok true w :=
 yD 9999 h
def s9(t:TypeId)(a b:Bool):binOp .eql t (.bool a) (.bool b)=(do pure (.bool (<- Op.equal t (.bool a) (.bool b)))):=rfl
def ta(t:TypeId)(a b:Bool):binOp .neq t (.bool a) (.bool b)=(do pure (.bool (!(<- Op.equal t (.bool a) (.bool b))))):=rfl
def mQ(t:TypeId)(a b:Option Addr):binOp .eql t (.pointer a) (.pointer b)=(do pure (.bool (<- Op.equal t (.pointer a) (.pointer b)))):=rfl
def mR(t:TypeId)(a b:Option Addr):binOp .neq t (.pointer a) (.pointer b)=(do pure (.bool (!(<- Op.equal t (.pointer a) (.pointer b))))):=rfl
def SN(hX:ct P X){t:Nat}{i:TI}(K:X.ti t=some i){V:BinOp}{x y:AV}{v:AV}(h:Kf i.kind V x y=some v)
  {p q:Value}(D:aI g x p)(hq:aI g y q)(U T:Operand) :
  ∃u,(do eqGuard V t U T p q;binOp V t p q).run P w = .ok u w/\aI g v u:=by
 obtain⟨d,Y,M,Q⟩:=hX.run_underlying (w:=w) K;unfold Kf at h;split at h
 ·rename_i j a H b;simp only[aI,Rel]at D hq;subst D hq;have S:∀(E:CV),yB V j a b=some E->∃u,(do eqGuard V t U T (.int j a) (.int H b);binOp V t (.int j a) (.int H b)).run P w = .ok u w/\aI g (.c E) u:=by
   intro E G;obtain⟨u,h1,h2⟩:=NI (P:=P) (w:=w) (g:=g) (k':=H) G t U T;exact⟨u,h1,KU⟩
  split at h
  ·grind
  ·grind
  ·split at h
   ·rename_i W;have:=HC W;subst this;split at h
    ·rename_i E G;simp at h;subst h;obtain⟨u,h1,h2⟩:=SL (P:=P) (w:=w) (g:=g) G t U T;exact⟨u,h1,KU⟩
    ·simp at h
   ·simp at h
 ·rename_i a b;simp only[aI,Rel]at D hq;subst D hq;split at h
  ·rename_i E G;simp at h;subst h;obtain⟨u,h1,h2⟩:=SM (P:=P) (w:=w) (g:=g) G t U T;exact⟨u,h1,KU⟩
  ·simp at h
 ·rename_i a b;simp only[aI,Rel]at D hq;subst D hq;split at h<;>simp at h<;>subst h<;>rename_i W<;>rw[W]at M<;>simp only[ey]at M<;>subst M
  ·exact⟨.bool (a==b),UK,rj⟩
  ·exact⟨.bool (!(a==b)),UK,rj⟩
 ·rename_i cs;simp only[aI,Rel]at D hq;subst hq;obtain⟨b,o,rfl,_⟩:=D;split at h<;>simp at h<;>subst h<;>rename_i W<;>rw[W]at M<;>simp only[ey]at M<;>subst M
  ·exact⟨.bool false,p8,rj⟩
  ·exact⟨.bool true,p8,rj⟩
 ·simp only[aI,Rel]at D hq;subst D hq;split at h<;>simp at h<;>subst h<;>rename_i W<;>rw[W]at M<;>simp only[ey]at M<;>subst M
  ·exact⟨.bool true,p8,rj⟩
  ·exact⟨.bool false,p8,rj⟩
 ·simp at h
end
end Go.cM
namespace Go.cM
def opened:L CV->Option (L AV)
 |[]=>some []
 |c::cs=>match opened cs with
  |some l=>some (.c c::l)
  |none=>none
def D3:∀(cs:L CV),opened cs=some (cs.map AV.c)
 |[]=>rfl
 |c::cs=>by simp[opened,D3 cs]
def jq:AV->Option (L AV)
 |.c (.agg cs)=>opened cs
 |.c (.gb _)=>none
 |.c .undef=>none
 |.gb _=>none
 |.agg cs=>some cs
 |a=>some [a]
def dI:Nat->L AV->L AV->Option (L AV)
 |_,[],l=>some l
 |0,v::vs,_::l=>match dI 0 vs l with
  |some r=>some (v::r)
  |none=>none
 |n+1,vs,x::l=>match dI n vs l with
  |some r=>some (x::r)
  |none=>none
 |_,_::_,[]=>none
mutual
def close:AV->Option CV
 |.c v=>some v
 |.own _ s rows=>some (.sl s rows)
 |.ptr _ _=>none
 |.fZ .. => none
 |.any=>none
 |.agg cs=>match yE cs with
  |some l=>some (.agg l)
  |none=>none
 |.gb cs=>match yE cs with
  |some l=>some (.gb l)
  |none=>none
def yE:L AV->Option (L CV)
 |[]=>some []
 |a::l=>match close a with
  |some v=>match yE l with
   |some r=>some (v::r)
   |none=>none
  |none=>none
end
def asNat:AV->Option Nat
 |.c (.int _ (.ofNat n))=>some n
 |_=>none
def bound(ρ:Operand->Option AV):Option Operand->Option (Option Nat)
 |none=>some none
 |some x=>match ρ x with
  |some a=>match asNat a with
   |some n=>some (some n)
   |none=>none
  |none=>none
def BG(s:Nat)(rows:L CV)(H:Option Nat)(h:Nat)(exact:Bool):Option AV :=
 match takeN h rows with
 |some u=>match (match H with
   |some l=>fX l u
   |none=>some u)with
  |some r=>match exact with
   |true=>some (.own .exact s r)
   |false=>some (.c (.sl s r))
  |none=>none
 |none=>none
def yF(k:TK)(es:Nat)(x:AV)(H K Y:Option Nat):Option AV :=
 match k,x with
 |.str,.c (.str s)=>match Y with
  |some _=>none
  |none=>match (match K with
    |some h=>takeN h s
    |none=>some s)with
   |some u=>match H with
    |some l=>match fX l u with
     |some r=>some (.c (.str r))
     |none=>none
    |none=>some (.c (.str u))
   |none=>none
 |.slice _,.own o s rows=>match Nat.beq s es with
  |false=>none
  |true=>match K,Y with
  |none,none=>match H with
   |some l=>match fX l rows with
    |some r=>some (.own o s r)
    |none=>none
   |none=>some (.own o s rows)
  |some h,none=>BG s rows H h false
  |some h,some m=>match Nat.beq h m with
   |true=>BG s rows H h true
   |false=>none
  |none,some _=>none
 |.slice _,.c (.sl s rows)=>match Nat.beq s es with
  |false=>none
  |true=>match K,Y with
  |none,none=>match H with
   |some l=>match fX l rows with
    |some r=>some (.c (.sl s r))
    |none=>none
   |none=>some (.c (.sl s rows))
  |some h,none=>BG s rows H h false
  |some h,some m=>match Nat.beq h m with
   |true=>BG s rows H h true
   |false=>none
  |none,some _=>none
 |_,_=>none
def rowsOf:AV->Option (Nat×L CV)
 |.own _ s rows=>some (s,rows)
 |.c (.sl s rows)=>some (s,rows)
 |_=>none
def qD(X:Ctx)(ρ:Operand->Option AV)(Y:L (Nat×Nat)):L (Nat×Operand)->L AV->Option (L AV)
 |[],cells=>some cells
 |(i,x)::rest,cells=>match nth Y i,ρ x with
  |some (off,q),some a=>match X.ti q,jq a with
   |some j,some vs=>match Nat.beq vs.length j.size,dI off vs cells with
    |true,some cells'=>qD X ρ Y rest cells'
    |_,_=>none
   |_,_=>none
  |_,_=>none
def US(k:TK)(x:AV):Option AV :=
 match k,x with
 |.slice _,.own _ _ rows=>some (.c (.int .i64 rows.length))
 |.slice _,.fZ _ _ _ n=>some (.c (.int .i64 n))
 |.slice _,.c (.sl _ rows)=>some (.c (.int .i64 rows.length))
 |.str,.c (.str s)=>some (.c (.int .i64 s.length))
 |.arr n _,_=>some (.c (.int .i64 n))
 |_,_=>none
def WA:L (Option AV)->Option AV
 |[some (.c (.int k a)),some (.c (.int _ b))]=>some (.c (.int k (if b<a then b else a)))
 |_=>none
def WB:L (Option AV)->Option AV
 |[some (.c (.int k a)),some (.c (.int _ b))]=>some (.c (.int k (if b>a then b else a)))
 |_=>none
def gE(ρ:Operand->Option AV):L Operand->Option (L CV)
 |[]=>some []
 |x::l=>match ρ x with
  |some a=>match close a with
   |some v=>match gE ρ l with
    |some r=>some (v::r)
    |none=>none
   |none=>none
  |none=>none
def gl(X:Ctx)(W:L (Nat×L AV))(ρ:Operand->Option AV):Op->Option AV
 |.move x=>ρ x
 |.assign x=>ρ x
 |.pick c a b=>match ρ c,ρ a,ρ b with
  |some (.c (.bool t)),some a,some b=>TW t a b
  |_,_,_=>none
 |.load t x=>match X.ti t,ρ x with
  |some i,some (.ptr M off)=>match ak M W with
   |some cells=>match fX off cells with
    |some l=>vv i l
    |none=>none
   |none=>none
  |some i,some (.c (.ip cs))=>yA i cs
  |_,_=>none
 |.nilCheck x=>match ρ x with
  |some (.ptr k o)=>some (.ptr k o)
  |some (.c (.ip cs))=>some (.c (.ip cs))
  |some (.c (.sH f cs))=>some (.c (.sH f cs))
  |_=>none
 |.binOp q t x y _=>match X.ti t,ρ x,ρ y with
  |some i,some a,some b=>Kf i.kind q a b
  |_,_,_=>none
 |.unOp q _ x=>match q,ρ x with
  |.not,some (.c (.bool b))=>some (.c (.bool (!b)))
  |.neg,some (.c (.int k n))=>some (.c (.int k (k.wrap (0-n))))
  |_,_=>none
 |.convert s d x=>match X.ti s,X.ti d,ρ x with
  |some _,some j,some (.c (.int _ n))=>match j.kind with
   |.int k=>some (.c (.int k (k.wrap n)))
   |_=>none
  |_,_,_=>none
 |.fieldAddr t x f=>match X.ti t,ρ x with
  |some i,some a=>match i.kind with
   |.struct V=>match nth V f with
    |some (off,_)=>match a with
     |.ptr k o=>some (.ptr k (o+off))
     |.c (.ip cs)=>match fX off cs with
      |some r=>some (.c (.ip r))
      |none=>none
     |_=>none
    |none=>none
   |_=>none
  |_,_=>none
 |.field t x f=>match X.ti t,ρ x with
  |some i,some a=>match i.kind with
   |.struct V=>match nth V f with
    |some (off,D)=>match X.ti D with
     |some j=>match a with
      |.agg cs=>match fX off cs with
       |some r=>vv j r
       |none=>none
      |.c (.agg cs)=>match fX off cs with
       |some r=>yA j r
       |none=>none
      |_=>none
     |none=>none
    |none=>none
   |_=>none
  |_,_=>none
 |.indexAddr t x S=>match X.ti t,ρ x,ρ S with
  |some i,some a,some n=>match asNat n with
   |some n=>match i.kind with
    |.slice e=>match X.ti e,rowsOf a with
     |some j,some (s,rows)=>match Nat.beq s j.size,nth rows n with
      |true,some r=>some (.c (.ip r.cells))
      |_,_=>none
     |_,_=>none
    |.arr m e=>match X.ti e,a,Nat.blt n m with
     |some j,.ptr k o,true=>some (.ptr k (o+n*j.size))
     |_,_,_=>none
    |_=>none
   |none=>none
  |_,_,_=>none
 |.index t x S=>match X.ti t,ρ x,ρ S with
  |some i,some a,some n=>match asNat n with
   |some n=>match i.kind,a with
    |.str,.c (.str s)=>match nth s n with
     |some b=>some (.c (.int .u8 b.toNat))
     |none=>none
    |_,_=>none
   |none=>none
  |_,_,_=>none
 |.extract x n=>match ρ x with
  |some (.gb cs)=>nth cs n
  |some (.c (.gb cs))=>match nth cs n with
   |some v=>some (.c v)
   |none=>none
  |_=>none
 |.build t Y=>match X.ti t with
  |some i=>match i.kind,i.zero with
   |.struct V,some (.agg z)=>match qD X ρ V Y.toList z with
    |some cells=>some (.agg cells)
    |none=>none
   |_,_=>none
  |none=>none
 |.slice t x H K U=>match X.ti t,ρ x,bound ρ H,bound ρ K,bound ρ U with
  |some i,some a,some H,some K,some U=>match i.kind with
   |.slice e=>match X.ti e with
    |some j=>yF i.kind j.size a H K U
    |none=>none
   |_=>yF i.kind 0 a H K U
  |_,_,_,_,_=>none
 |.makeFunc (.func f) first caps=>match first.toList,gE ρ caps.toList with
  |[],some l=>some (.c (.sH f l))
  |_,_=>none
 |.call {callee := .builtin .len,args,argTypes}=>match args.toList,argTypes.toList with
  |[x],[t]=>match X.ti t,ρ x with
   |some i,some a=>US i.kind a
   |_,_=>none
  |_,_=>none
 |.call {callee := .builtin .min,args,argTypes:=_}=>WA (args.toList.map ρ)
 |.call {callee := .builtin .max,args,argTypes:=_}=>WB (args.toList.map ρ)
 |_=>none
section
variable {P : Program}{X : Ctx}{w : World}{g : Gh}
def tc{s:L UInt8}:(ByteArray.mk s.toArray).size=s.length:=by simp[ByteArray.size]
def extract_mk(s:L UInt8)(l h:Nat):(ByteArray.mk s.toArray).extract l h=⟨((s.take h).drop l).toArray⟩:=by
 apply acE;simp[ByteArray.data_extract];rw[List.drop_take]
def gm{y n:Nat}(h:n<=y)(k:IntKind)(c:BoundsCode):(Instr.sliceBound (.int k (n:Int)) y c).run P w = .ok n w:=by
 simp[Instr.sliceBound,asIntOf,h]
def ux{a:AV}{n:Nat}(h:asNat a=some n){u:Value}(E:aI g a u):∃k,u = .int k (Int.ofNat n):=by
 unfold asNat at h;split at h
 ·simp at h;subst h;simp only[aI,Rel]at E;exact⟨_,E⟩
 ·simp at h
def eJ(o:Option Value):Option Nat->Prop
 |none=>o=none
 |some n=>∃k,o=some (.int k (Int.ofNat n))
def ni{ρ:Operand->Option AV}{ev:Operand->Value}(O:∀x v,ρ x=some v->aI g v (ev x)){o:Option Operand}{r:Option Nat}
  (h:bound ρ o=some r):eJ (o.map ev) r:=by
 unfold bound at h;split at h
 ·simp at h;subst h;simp[eJ]
 ·rename_i x;split at h
  ·rename_i a W;split at h
   ·rename_i n E;simp at h;subst h;obtain⟨k,e⟩:=ux E (O x a W);exact⟨k,by simp[e]⟩
   ·simp at h
  ·simp at h
def lK{K D h l:Nat}{H q:Option Value}(Y:Bool)(W:eJ q (some h))(B:eJ H (some l))(h1:h<=D)(h2:l<=h) :
  (Instr.sliceBounds Y K D H q none).run P w = .ok (l,h,D) w:=by
 obtain⟨k,rfl⟩:=W;obtain⟨k',rfl⟩:=B;simp[Instr.sliceBounds,gm h1,gm h2]
def kU{K D h:Nat}{H q:Option Value}(Y:Bool)(W:eJ q (some h))(B:eJ H none)(h1:h<=D) :
  (Instr.sliceBounds Y K D H q none).run P w = .ok (0,h,D) w:=by
 obtain⟨k,rfl⟩:=W;simp only[eJ]at B;subst B;simp[Instr.sliceBounds,gm h1]
def jw{K D l:Nat}{H q:Option Value}(W:Bool)(Y:eJ q none)(B:eJ H (some l))(h2:l<=K) :
  (Instr.sliceBounds W K D H q none).run P w = .ok (l,K,D) w:=by
 obtain⟨k,rfl⟩:=B;simp only[eJ]at Y;subst Y;simp[Instr.sliceBounds,gm h2]
def jx{K D:Nat}{H q:Option Value}(W:Bool)(Y:eJ q none)(B:eJ H none) :
  (Instr.sliceBounds W K D H q none).run P w = .ok (0,K,D) w:=by
 simp only[eJ]at Y B;subst Y B;simp[Instr.sliceBounds]
def xe{K D h l m:Nat}{H q Y:Option Value}(W:Bool)(V:eJ Y (some m))(U:eJ q (some h))(B:eJ H (some l))
  (p:m<=D)(h1:h<=m)(h2:l<=h) :
  (Instr.sliceBounds W K D H q Y).run P w = .ok (l,h,m) w:=by
 obtain⟨k,rfl⟩:=U;obtain⟨k',rfl⟩:=B;obtain⟨T,rfl⟩:=V;simp[Instr.sliceBounds,gm p,gm h1,gm h2]
def oG{K D h m:Nat}{H q Y:Option Value}(W:Bool)(V:eJ Y (some m))(U:eJ q (some h))(B:eJ H none)
  (p:m<=D)(h1:h<=m) :
  (Instr.sliceBounds W K D H q Y).run P w = .ok (0,h,m) w:=by
 obtain⟨k,rfl⟩:=U;obtain⟨T,rfl⟩:=V;simp only[eJ]at B;subst B;simp[Instr.sliceBounds,gm p,gm h1]
def jJ.cut{G:iJ}{s:Nat}{base:Option Addr}{rows:L CV}{K:Nat}(B:K=rows.length)(h:jJ G s base rows)(l C m:Nat)(h1:l<=C)(h2:C<=K)(Y:C<=m) :
  jJ G s (if m=l then base else base.map (·.add (l*s))) ((rows.take C).drop l):=by
 rcases h with rfl|⟨b,o,rfl,E⟩
 ·left;simp
 ·by_cases e:m=l
  ·left;simp;omega
  ·right;refine⟨b,o+l*s,by simp[e,Addr.add_lit],?_⟩;exact(E.take (n:=C)).drop
def fY(hX:ct P X){t e:Nat}{i j:TI}(q:X.ti t=some i)(V:i.kind = .slice e)(T:X.ti e=some j){base:Option Addr}{K D:Nat}{Y H W:Option Value}
  {l h m:Nat}(A:∀w,(Instr.sliceBounds true K D Y H W).run P w = .ok (l,h,m) w) :
  (Instr.sliceAt t (.slice base K D) Y H W).run P w = .ok (.slice (if m=l then base else base.map (·.add (l*j.size))) (h-l) (m-l)) w:=by
 obtain⟨d,G,M,_⟩:=hX.run_underlying (w:=w) q;rw[V]at M;simp only[ey]at M;subst M;simp[Instr.sliceAt,Instr.slice,G,A,hX.run_sizeOf T]
def Dn(hX:ct P X){t:Nat}{i:TI}(K:X.ti t=some i)(D:i.kind = .str){s:ByteArray}{Y H:Option Value}
  {l h m:Nat}(A:∀w,(Instr.sliceBounds false s.size s.size Y H none).run P w = .ok (l,h,m) w) :
  (Instr.sliceAt t (.string s) Y H none).run P w = .ok (.string (s.extract l h)) w:=by
 obtain⟨d,G,M,_⟩:=hX.run_underlying (w:=w) K;rw[D]at M;simp only[ey]at M;subst M;simp[Instr.sliceAt,Instr.slice,G,A]
end
end Go.cM
namespace Go.cM
section
variable {P : Program}{X : Ctx}{w : World}{g : Gh}
def BH{a:AV}{s:Nat}{rows:L CV}(h:rowsOf a=some (s,rows)){u:Value}(E:aI g a u) :
  ∃base K D,u = .slice base K D/\K=rows.length/\K<=D/\jJ g.G s base rows:=by
 unfold rowsOf at h;split at h
 ·simp at h;obtain⟨rfl,rfl⟩:=h;simp only[aI]at E;obtain⟨base,K,D,e,B,A,E,_⟩:=E;exact⟨base,K,D,e,B,A,E⟩
 ·simp at h;obtain⟨rfl,rfl⟩:=h;simp only[aI,Rel]at E;exact E
 ·simp at h
def oD.drop{s:Nat}{base:Option Addr}{K D l:Nat}:∀{k:SJ},oD g s base K D k->l<=K ->
  oD g s (if D=l then base else base.map (·.add (l*s))) (K-l) (D-l) k
 |.exact,h,_=>by simp only[oD]at h ⊢;omega
 |.tok M n,h,V=>by
  simp only[oD]at h ⊢;obtain⟨J,B,e,Y,E⟩:=h;refine⟨J,B,e,Y,λW=>?_⟩;rcases E W with E|⟨b,H,q,o,rfl,rfl,h1,h2,U⟩
  ·left;omega
  ·by_cases A:D=l
   ·left;omega
   ·right;refine⟨b,H,q,o+l*s,Z,by simp[A,Addr.add_lit],?_,?_,bn⟩
    ·rw[h1];rw[acp,<- abp];congr 2;omega
    ·rw[h2];rw[acp,<- abp];congr 2;omega
def P6{s:Nat}{rows:L CV}{H:Option Nat}{h:Nat}{ex:Bool}{v:AV}(e:BG s rows H h ex=some v) :
  h<=rows.length/\H.getD 0<=h/\v=if ex then .own .exact s ((rows.take h).drop (H.getD 0))else .c (.sl s ((rows.take h).drop (H.getD 0))):=by
 unfold BG at e;split at e
 ·rename_i u h1;obtain⟨rfl,B⟩:=oF h1;cases H with
  |none =>
   simp only at e;cases ex<;>simp at e<;>subst e<;>simp[B]
  |some l =>
   simp only at e;split at e
   ·rename_i r h2;obtain⟨rfl,Y⟩:=jK h2;have:l<=h:=by simp at Y;omega
    cases ex<;>simp at e<;>subst e<;>simp[B,this]
   ·simp at e
 ·simp at e
def D4(hX:ct P X){t:Nat}{i:TI}(q:X.ti t=some i){es:Nat}(Y9:∀e,i.kind = .slice e->∃j,X.ti e=some j/\j.size=es)
  {x v:AV}{H Q mx:Option Nat}(h:yF i.kind es x H Q mx=some v){u:Value}(p:aI g x u)
  {M I Yo:Option Value}(W:eJ M H)(V:eJ I Q)(S:eJ Yo mx) :
  ∃r,(Instr.sliceAt t u M I Yo).run P w = .ok r w/\aI g v r:=by
 have cut:∀{e:Nat}{rows:L CV}{base:Option Addr}{K D:Nat}{T:Nat}{ex:Bool},i.kind = .slice e->K=rows.length->K<=D->jJ g.G es base rows ->
   Q=some T->(mx=if ex then some T else none)->BG es rows H T ex=some v ->
   ∃r,(Instr.sliceAt t (.slice base K D) M I Yo).run P w = .ok r w/\aI g v r:=by
  intro e rows base K D T ex U Y B J e1 e2 Kg;obtain⟨j,C,O⟩:=Y9 e U;obtain⟨c1,c2,c3⟩:=P6 Kg;subst e1;cases ex with
  |false =>
   subst e2;simp only[eJ]at S;subst S;have A:∀w,(Instr.sliceBounds true K D M I none).run P w = .ok (H.getD 0,T,D) w:=by
    intro w;cases H with
    |none=>exact kU true V W bn
    |some l=>exact lK true V W bn (by simpa using c2)
   refine⟨_,fY hX q U C A,?_⟩;rw[c3,O];simp only[Bool.false_eq_true,abg,aI,Rel];exact⟨_,_,_,Z,ot,bn,(jJ.cut Y J (H.getD 0) T D c2 bn bn)⟩
  |true =>
   subst e2;have A:∀w,(Instr.sliceBounds true K D M I Yo).run P w = .ok (H.getD 0,T,T) w:=by
    intro w;cases H with
    |none=>exact oG true S V W bn bn
    |some l=>exact xe true S V W bn bn (by simpa using c2)
   refine⟨_,fY hX q U C A,?_⟩;rw[c3,O];simp only[aI,if_true];exact⟨_,_,_,Z,ot,bn,(jJ.cut Y J (H.getD 0) T T c2 bn bn),Z⟩
 unfold yF at h;split at h
 ·
  rename_i U;rename_i s;simp only[aI,Rel]at p;subst p;split at h
  ·simp at h
  ·simp only[eJ]at S;subst S;have fin:∀{l h':Nat},(∀w,(Instr.sliceBounds false (ByteArray.mk s.toArray).size (ByteArray.mk s.toArray).size M I none).run P w = .ok (l,h',(ByteArray.mk s.toArray).size) w) ->
     v = .c (.str ((s.take h').drop l))->∃r,(Instr.sliceAt t (.string ⟨s.toArray⟩) M I none).run P w = .ok r w/\aI g v r:=by
    intro l h' A e;refine⟨_,Dn hX q U A,?_⟩;rw[e,extract_mk];simp[aI,Rel]
   cases Q with
   |none =>
    simp only at h;cases H with
    |none =>
     simp at h;subst h;exact fin (λw=>jx false V W) (by simp[tc])
    |some l =>
     simp only at h;split at h
     ·rename_i r E;obtain⟨rfl,hl⟩:=jK E;simp at h;subst h;exact fin (λw=>jw false V W (by rw[tc];exact hl)) (by simp[tc])
     ·simp at h
   |some T =>
    simp only at h;split at h
    ·rename_i s1 qu;obtain⟨rfl,JI⟩:=oF qu;cases H with
     |none =>
      simp at h;subst h;exact fin (λw=>kU false V W (by rw[tc];exact JI)) ek
     |some l =>
      simp only at h;split at h
      ·rename_i r E;obtain⟨rfl,hl⟩:=jK E;simp at h;subst h;exact fin (λw=>lK false V W (by rw[tc];exact JI) (by simp at hl;omega)) ek
      ·simp at h
    ·simp at h
 ·
  rename_i e o s rows U;simp only[aI]at p;obtain⟨base,K,D,rfl,Y,B,J,N⟩:=p;split at h
  ·simp at h
  ·rename_i hs;have:=beq_true hs;subst this;obtain⟨j,C,O⟩:=Y9 e U;split at h
   ·simp only[eJ]at S;subst S;split at h
    ·rename_i l;split at h
     ·rename_i r E;obtain⟨rfl,hl⟩:=jK E;simp at h;subst h;refine⟨_,fY hX q U C (λw=>jw true V W bn),?_⟩;rw[O];simp only[aI];refine⟨_,_,_,Z,ot,bn,?_,N.drop bn⟩;have:=jJ.cut Y J l K D bn (aav _) B;rwa[abj bn]at this
     ·simp at h
    ·simp at h;subst h;refine⟨_,fY hX q U C (λw=>jx true V W),?_⟩;rw[O];simp only[aI];refine⟨_,_,_,Z,ot,bn,?_,N.drop bn⟩;have:=jJ.cut Y J 0 K D bn (aav _) B;rwa[abj bn]at this
   ·simp_all
   ·split at h
    ·simp_all
    ·simp at h
   ·simp at h
 ·rename_i e s rows U;simp only[aI,Rel]at p;obtain⟨base,K,D,rfl,Y,B,J⟩:=p;split at h
  ·simp at h
  ·rename_i hs;have:=beq_true hs;subst this;obtain⟨j,C,O⟩:=Y9 e U;split at h
   ·simp only[eJ]at S;subst S;split at h
    ·rename_i l;split at h
     ·rename_i r E;obtain⟨rfl,hl⟩:=jK E;simp at h;subst h;refine⟨_,fY hX q U C (λw=>jw true V W bn),?_⟩;rw[O];simp only[aI,Rel];refine⟨_,_,_,Z,ot,bn,?_⟩;have:=jJ.cut Y J l K D bn (aav _) B;rwa[abj bn]at this
     ·simp at h
    ·simp at h;subst h;refine⟨_,fY hX q U C (λw=>jx true V W),?_⟩;rw[O];simp only[aI,Rel];refine⟨_,_,_,Z,ot,bn,?_⟩;have:=jJ.cut Y J 0 K D bn (aav _) B;rwa[abj bn]at this
   ·exact cut U Y B J Z Z h
   ·split at h
    ·rename_i A;have:=beq_true A;subst this;exact cut (ex:=true) U Y B J Z Z h
    ·simp at h
   ·simp at h
 ·simp at h
end
end Go.cM
namespace Go.cM
def nj:∀{off:Nat}{vs l r:L AV},dI off vs l=some r ->
  r.length=l.length/\off+vs.length<=l.length+(if vs=[]then off else 0)/\∀(j:Nat),r[j]?=if off<=j/\j<off+vs.length then vs[j-off]? else l[j]?
 |off,[],l,r,h=>by
  cases off<;>simp[dI]at h<;>subst h<;>simp<;>intros<;>omega
 |0,v::vs,[],r,h=>by simp[dI]at h
 |0,v::vs,x::l,r,h=>by
  simp only[dI]at h;split at h
  ·rename_i O C;simp at h;subst h;obtain⟨h1,h2,K⟩:=nj C;refine⟨TL,?_,?_⟩
   ·simp_all
   ·grind
  ·simp at h
 |n+1,v::vs,[],r,h=>by simp[dI]at h
 |n+1,v::vs,x::l,r,h=>by
  simp only[dI]at h;split at h
  ·rename_i O C;simp at h;subst h;obtain⟨h1,h2,K⟩:=nj C;refine⟨TL,?_,?_⟩
   ·simp at h2 ⊢;omega
   ·grind
  ·simp at h
def Kh{off:Nat}{v:AV}{vs l r:L AV}(h:dI off (v::vs) l=some r):off+(v::vs).length<=l.length:=by
 have:=(nj h).2.1;simpa using this
section
variable {P : Program}{X : Ctx}{w : World}{g : Gh}
def uy{a:AV}{vs:L AV}(h:jq a=some vs){u:Value}(E:aI g a u) :
  bC g vs u.cells.toList/\vs.all AV.one=true:=by
 have Y:∀(cs:L CV)(us:L Value),bI g.G cs us->cs.all CV.one=true->bC g (cs.map AV.c) us/\(cs.map AV.c).all AV.one=true:=by
  intro cs
  induction cs with
  |nil=>intro us h1 _;simp only[bI]at h1;subst h1;simp[bC]
  |cons c cs O =>
   intro us h1 h2;simp only[bI]at h1;obtain⟨u,us,rfl,A,E⟩:=h1;simp at h2;obtain⟨K,U⟩:=O us E (by simpa using h2.2);exact⟨by simp only[Zl,bC];exact⟨u,us,Z,by simpa only[aI]using A,K⟩,by simp only[Zl,aaE,AV.one,h2.1,aaI];exact U⟩
 cases a with
 |c v =>
  have W:∀(v:CV)(u:Value),v.one=true->Rel g.G v u->bC g [.c v] u.cells.toList/\([AV.c v].all AV.one=true):=by
   intro v u V E;have A:u.cells.toList=[u]:=by
    cases v<;>simp only[Rel]at E<;>simp[CV.one]at V
    case int=>subst E;rfl
    case bool=>subst E;rfl
    case str=>subst E;rfl
    case kI=>subst E;rfl
    case sl=>obtain⟨_,_,_,rfl,_⟩:=E;rfl
    case ip=>obtain⟨_,_,rfl,_⟩:=E;rfl
    case sH=>obtain⟨_,rfl,_⟩:=E;rfl
    case any =>
     cases u<;>first|rfl|(exact absurd Z (E.1 _))
    case pJ=>obtain⟨_,rfl⟩:=E;rfl
   rw[A];exact⟨by simp only[bC,aI];exact⟨u,[],Z,E,Z⟩,by simp[AV.one,V]⟩
  simp only[aI]at E;cases v<;>simp only[jq,D3,aaJ,reduceCtorEq]at h
  case agg cs =>
   subst h;simp only[Rel]at E;obtain⟨us,rfl,h1,h2⟩:=E;have:=Y cs us h1 h2;simpa[Value.cells]using this
  all_goals (subst h;exact W _ _ rfl E)
 |own k s rows =>
  simp[jq]at h;subst h;have S:=E;simp only[aI]at S;obtain⟨base,T,D,rfl,_⟩:=S;refine⟨?_,Z⟩;simp only[Value.cells,bC];exact⟨_,[],Z,E,Z⟩
 |ptr M off =>
  simp[jq]at h;subst h;have S:=E;simp only[aI]at S;obtain⟨b,_,rfl⟩:=S;refine⟨?_,Z⟩;simp only[Value.cells,bC];exact⟨_,[],Z,E,Z⟩
 |fZ M off s n =>
  simp[jq]at h;subst h;have S:=E;simp only[aI]at S;obtain⟨b,D,o,_,rfl,_⟩:=S;refine⟨?_,Z⟩;simp only[Value.cells,bC];exact⟨_,[],Z,E,Z⟩
 |any =>
  simp[jq]at h;subst h;have S:=E;simp only[aI]at S;have A:u.cells.toList=[u]:=by
   cases u<;>first|rfl|exact absurd Z (S.1 _)
  rw[A];refine⟨?_,Z⟩;simp only[bC];exact⟨_,[],Z,E,Z⟩
 |agg cs =>
  simp[jq]at h;subst h;simp only[aI]at E;obtain⟨us,rfl,h1,h2⟩:=E;exact⟨by simpa[Value.cells]using h1,h2⟩
 |gb cs=>simp[jq]at h
def BI(off:Nat):∀(l:L Value)(k:Nat)(cells:Array Value),off+k+l.length<=cells.size ->
  ((l.zipIdx k).foldl (λ(cs:Array Value)(p:Value×Nat)=>cs.setIfInBounds (off+p.2) p.1) cells).size=cells.size /\
  ∀j,((l.zipIdx k).foldl (λ(cs:Array Value)(p:Value×Nat)=>cs.setIfInBounds (off+p.2) p.1) cells)[j]? =
   if off+k<=j/\j<off+k+l.length then l[j-(off+k)]? else cells[j]?
 |[],k,cells,_=>by simp;intros;omega
 |v::l,k,cells,h=>by
  simp only[abi,List.foldl_cons];obtain⟨h1,h2⟩:=BI off l (k+1) (cells.setIfInBounds (off+k) v) (by simp at h ⊢;omega);refine⟨by rw[h1];simp,λj=>?_⟩;rw[h2];by_cases A:off+(k+1)<=j/\j<off+(k+1)+l.length
  ·grind
  ·grind
def BJ(hX:ct P X){ρ:Operand->Option AV}{ev:Operand->Value}(O:∀x v,ρ x=some v->aI g v (ev x)){V:L (Nat×Nat)}(Y:Nat->Option (Nat×Nat))
  (U:∀i off q j,nth V i=some (off,q)->X.ti q=some j->Y i=some (off,j.size)) :
  ∀{G:L (Nat×Operand)}{cells r:L AV}{vs:Array Value},qD X ρ V G cells=some r->bC g cells vs.toList->cells.all AV.one=true ->
   ∃us,Instr.fill Y vs (G.map λ(i,x)=>(i,ev x))=some us/\bC g r us.toList/\r.all AV.one=true
 |[],cells,r,vs,h,E,W=>by simp[qD]at h;subst h;exact⟨vs,by simp[Instr.fill],E,W⟩
 |(i,x)::rest,cells,r,vs,h,E,W=>by
  simp only[qD]at h;split at h
  ·rename_i off q a h1 h2;split at h
   ·rename_i j us K Q;split at h
    ·rename_i cells' N M;have J:=beq_true N;obtain⟨T,I⟩:=uy Q (O x a h2);have S:us.length=(ev x).cells.size:=by rw[(bC.get T).1];simp
     have H:j.size≠0:=by obtain⟨_,_,_,_,_,_,C⟩:=hX.ti q j K;exact C
     obtain⟨B,c2⟩:=bC.get E;obtain⟨w1,w2,A⟩:=nj M;have u:off+us.length<=cells.length:=by grind
     have hvs:cells.length=vs.size:=by rw[B];simp
     obtain⟨f1,f2⟩:=BI off (ev x).cells.toList 0 vs ot;have hf:Instr.fill Y vs (((i,x)::rest).map λ(i,x)=>(i,ev x)) =
       Instr.fill Y ((ev x).cells.zipIdx.foldl (λcs (c,j)=>cs.setIfInBounds (off+j) c) vs) (rest.map λ(i,x)=>(i,ev x)):=by
      simp only[Zl,Instr.fill,U i off q j h1 K];rw[if_neg];simp;omega
     have P8:(ev x).cells.zipIdx.foldl (λcs (c,j)=>cs.setIfInBounds (off+j) c) vs =
       ((ev x).cells.toList.zipIdx 0).foldl (λ(cs:Array Value)(p:Value×Nat)=>cs.setIfInBounds (off+p.2) p.1) vs:=by
      rw[<- Array.foldl_toList];simp
     rw[hf,P8];obtain⟨a1,a2⟩:=bC.get T;apply BJ hX O Y U h
     ·apply bC.jo
      ·simp_all
      ·grind
     ·rw[abc]at W I ⊢;intro y hy;obtain⟨k,D⟩:=abv hy;rw[A]at D;split at D
      ·grind
      ·grind
    ·simp at h
   ·simp at h
  ·simp at h
end
end Go.cM
namespace Go.cM
section
variable {P : Program}{X : Ctx}{w : World}{g : Gh}
def qE:(∀(a:AV)(v:CV)(u:Value),close a=some v->aI g a u->Rel g.G v u/\(a.one=true->v.one=true)):=by
 intro a;refine AV.rec (motive_1:=λa=>∀(v:CV)(u:Value),close a=some v->aI g a u->Rel g.G v u/\(a.one=true->v.one=true))
  (motive_2:=λl=>∀(vs:L CV)(us:L Value),yE l=some vs->bC g l us->bI g.G vs us/\(l.all AV.one=true->vs.all CV.one=true)/\vs.length=l.length) ?_ ?_ ?_ ?_ ?_ ?_ ?_ ?_ ?_ a
 ·intro v w' u h E;simp[close]at h;subst h;exact⟨by simpa only[aI]using E,id⟩
 ·intro k s rows v u h E;simp[close]at h;subst h;simp only[aI]at E;obtain⟨base,K,D,rfl,h1,h2,U,_⟩:=E;exact⟨by simp only[Rel];exact⟨base,K,D,Z,h1,h2,U⟩,λ_=>rfl⟩
 ·intro M off v u h;simp[close]at h
 ·intro M off s n v u h;simp[close]at h
 ·intro v u h;simp[close]at h
 ·intro cs O v u h E;simp only[close]at h;split at h
  ·rename_i l B;simp at h;subst h;simp only[aI]at E;obtain⟨us,rfl,h1,h2⟩:=E;obtain⟨S,V,_⟩:=O l us B h1;exact⟨by simp only[Rel];exact⟨us,Z,S,V h2⟩,λh=>by simp[AV.one]at h⟩
  ·simp at h
 ·intro cs O v u h E;simp only[close]at h;split at h
  ·rename_i l B;simp at h;subst h;simp only[aI]at E;obtain⟨us,rfl,h1,h2⟩:=E;obtain⟨S,V,H⟩:=O l us B h1;exact⟨by simp only[Rel];exact⟨us,Z,S,bn⟩,λh=>by simp[AV.one]at h⟩
  ·simp at h
 ·intro vs us h E;simp[yE]at h;subst h;simp only[bC]at E;subst E;simp[bI]
 ·intro a l T Y vs us h E;simp only[yE]at h;split at h
  ·rename_i v A;split at h
   ·rename_i r W;simp at h;subst h;simp only[bC]at E;obtain⟨u,us,rfl,h1,h2⟩:=E;obtain⟨Q,P⟩:=T v u A h1;obtain⟨N,J,I⟩:=Y r us W h2;refine⟨by simp only[bI];exact⟨u,us,Z,Q,N⟩,λh=>?_,by simp[I]⟩;simp only[aaE,aal]at h ⊢;exact⟨P h.1,J h.2⟩
   ·simp at h
  ·simp at h
def mE{ρ:Operand->Option AV}{ev:Operand->Value}(O:∀x v,ρ x=some v->aI g v (ev x)) :
  ∀{l:L Operand}{r:L CV},gE ρ l=some r->bI g.G r (l.map ev)
 |[],r,h=>by simp[gE]at h;subst h;simp[bI]
 |x::l,r,h=>by
  simp only[gE]at h;split at h
  ·rename_i a W;split at h
   ·rename_i v B;split at h
    ·rename_i Y S;simp at h;subst h;simp only[Zl,bI];exact⟨_,_,Z,(qE a v _ B (O x a W)).1,mE O S⟩
    ·simp at h
   ·simp at h
  ·simp at h
def yG{α:Type}{cs rest:List α}{off:Nat}{c:α}(h:cs.drop off=c::rest):cs[off]?=some c:=by
 have:=Zb (λl=>l[0]?) h;simpa using this
def BK(hX:ct P X){t:Nat}{i:TI}(K:X.ti t=some i){vs:Array Value}{off:Nat}{r:AV}
  (h:(∃cs rest,bC g cs vs.toList/\cs.all AV.one=true/\fX off cs=some rest/\vv i rest=some r) \/
   (∃cs rest,bI g.G cs vs.toList/\cs.all CV.one=true/\fX off cs=some rest/\yA i rest=some r)) :
  ∃u,(part t vs off).run P w = .ok u w/\aI g r u:=by
 have J:i.size≠0:=by obtain⟨_,_,_,_,_,_,T⟩:=hX.ti t i K;exact T
 rcases h with ⟨cs,rest,h1,h2,U,W⟩|⟨cs,rest,h1,h2,U,W⟩
 ·obtain⟨rfl,B⟩:=jK U;obtain⟨O,C⟩:=bC.get h1;unfold vv at W;cases Y:i.isAgg<;>rw[Y]at W<;>simp only at W
  ·split at W
   ·rename_i c q S;simp at W;subst W;have p:cs[off]?=some c:=yG S;obtain⟨u,I,Q⟩:=C off c p;refine⟨u,?_,Q⟩;have:vs[off]?=some u:=by simpa using I
    simp[part,hX.nV K,Y,this]
   ·simp at W
  ·split at W
   ·rename_i l V;simp at W;subst W;obtain⟨rfl,E⟩:=oF V;refine⟨.agg (vs.extract off (off+i.size)),by simp[part,hX.nV K,Y,hX.run_sizeOf K],?_⟩;simp only[aI];refine⟨(vs.extract off (off+i.size)).toList,Z,?_,?_⟩
    ·apply bC.jo
     ·simp_all
     ·grind
    ·grind
   ·simp at W
 ·obtain⟨rfl,B⟩:=jK U;obtain⟨O,C⟩:=bI.get h1;unfold yA at W;cases Y:i.isAgg<;>rw[Y]at W<;>simp only at W
  ·split at W
   ·rename_i c q S;simp at W;subst W;have p:cs[off]?=some c:=yG S;obtain⟨u,I,Q⟩:=C off c p;refine⟨u,?_,by simpa only[aI]using Q⟩;have:vs[off]?=some u:=by simpa using I
    simp[part,hX.nV K,Y,this]
   ·simp at W
  ·split at W
   ·rename_i l V;simp at W;subst W;obtain⟨rfl,E⟩:=oF V;refine⟨.agg (vs.extract off (off+i.size)),by simp[part,hX.nV K,Y,hX.run_sizeOf K],?_⟩;simp only[aI,Rel];refine⟨(vs.extract off (off+i.size)).toList,Z,?_,?_⟩
    ·apply bI.jo
     ·simp_all
     ·grind
    ·grind
   ·simp at W
end
end Go.cM
namespace Go.cM
section
variable {P : Program}{X : Ctx}{w : World}{g : Gh}
def zK(hX:ct P X){t:Nat}{i:TI}(K:X.ti t=some i){V:L (Nat×Nat)}(D:i.kind = .struct V){f off q:Nat}(hf:nth V f=some (off,q))(b o:Nat) :
  (Instr.fieldAt t (.pointer (some ⟨b,o,none⟩)) f).run P w = .ok (.pointer (some ⟨b,o+off,none⟩)) w:=by
 obtain⟨d,G,M,_⟩:=hX.run_underlying (w:=w) K;rw[D]at M;simp only[ey]at M;obtain⟨Y,rfl,h1,h2⟩:=M;rw[qf,<- h1]at hf;simp at hf;obtain⟨U,C,Q,T⟩:=hf;have W:U∈Y.toList:=by rw[acO];exact Array.mem_of_getElem? C
 obtain⟨J,p,u⟩:=h2 U W;simp[Instr.fieldAt,G,C,Instr.sureAddr,fieldPlace,sizeOf,typeInfo,p,u,Q,Addr.add_lit]
def D5(hX:ct P X){t:Nat}{i:TI}(K:X.ti t=some i){W:L (Nat×Nat)}(D:i.kind = .struct W){f off q:Nat}(hf:nth W f=some (off,q))(vs:Array Value) :
  (Instr.field t (.agg vs) f).run P w=(part q vs off).run P w:=by
 obtain⟨d,G,M,_⟩:=hX.run_underlying (w:=w) K;rw[D]at M;simp only[ey]at M;obtain⟨Y,rfl,h1,h2⟩:=M;rw[qf,<- h1]at hf;simp at hf;obtain⟨U,C,Q,V⟩:=hf;simp[Instr.field,G,C,asAgg,Q,V]
def sA(hX:ct P X):∀(Y:L Field),(∀f∈Y,∃Q,P.info? f.type=some Q/\Q.size≠0) ->
  ∃A:L (Nat×Nat),(Y.mapM (m:=Sem) λf=>do pure (f.offset,<- sizeOf f.type)).run P w = .ok A w/\A.length=Y.length /\
   ∀(k:Nat)(f:Field),Y[k]?=some f->∃Q,P.info? f.type=some Q/\A[k]?=some (f.offset,Q.size)
 |[],_=>⟨[],ek,Z,ek⟩
 |f::Y,h=>by
  obtain⟨Q,C,q⟩:=h f ek;obtain⟨A,h1,h2,K⟩:=sA hX Y (λf hf=>h f (by simp[hf]));refine⟨(f.offset,Q.size)::A,?_,by simp[h2],?_⟩
  ·simp only[acB,Sem.run_bind,sizeOf,typeInfo,run_program,Result.andThen_ok,C,Sem.run_pure];simp only[sizeOf,typeInfo]at h1;rw[h1];rfl
  ·grind
def run_build(hX:ct P X){t:Nat}{i:TI}(K:X.ti t=some i){V:L (Nat×Nat)}(D:i.kind = .struct V){z r:L AV}(q:i.zero=some (.agg z))
  {ρ:Operand->Option AV}{ev:Operand->Value}(O:∀x v,ρ x=some v->aI g v (ev x)){G:Array (Nat×Operand)}
  (h:qD X ρ V G.toList z=some r) :
  ∃u,(Instr.build t (G.map λ(i,x)=>(i,ev x))).run P w = .ok u w/\aI g (.agg r) u:=by
 obtain⟨d,S,M,_⟩:=hX.run_underlying (w:=w) K;rw[D]at M;simp only[ey]at M;obtain⟨Y,rfl,h1,h2⟩:=M;obtain⟨zv,Q,N,z3⟩:=hX.kL (w:=w) K q;have U:=N g;simp only[aI]at U;obtain⟨H,rfl,J,I⟩:=U;obtain⟨A,E,p2,B⟩:=sA (P:=P) (w:=w) hX Y.toList h2
 obtain⟨us,p,f2,f3⟩:=BJ hX O (λ(i:Nat)=>A[i]?) (by
  intro i off ft j C e2;rw[qf,<- h1]at C;simp at C;obtain⟨fl,e3,e4,e5⟩:=C;obtain⟨inf,T,e7⟩:=B i fl (by simpa using e3);obtain⟨abt,W,e9,_⟩:=hX.ti ft j e2;rw[e5]at T;rw[T]at W;simp at W;subst W
  simp[e7,e4,e9]) (vs:=H.toArray) h (by simpa using J) I
 refine⟨.agg us,?_,TR⟩;simp only[Instr.build,Sem.run_bind,Q,Result.andThen_ok,S,Value.cells]
 rw[show(Y.mapM (m:=Sem) λf=>do pure (f.offset,<- sizeOf f.type))=(Y.toList.mapM λf=>do pure (f.offset,<- sizeOf f.type)) >>= λl=>pure l.toArray from by
  rw[abW];rfl]
 simp only[Sem.run_bind,E,Result.andThen_ok,Sem.run_pure];have:(λ(i:Nat)=>(A.toArray[i]?:Option (Nat×Nat)))=λ(i:Nat)=>A[i]?:=by funext i;simp
 rw[this];simp only[aaP];rw[p];rfl
def zL{g:Gh}{k:IntKind}{n:Int}{u:Value}(h:aI g (.c (.int k n)) u):u = .int k n:=by simpa only[aI,Rel]using h
def SP(hX:ct P X){t:Nat}{i:TI}(q:X.ti t=some i){a v:AV}(h:US i.kind a=some v){u:Value}(H:aI g a u)(ty:TypeId) :
  ∃r,(Builtin.len_ #[t] ty #[u]).run P w = .ok r w/\aI g v r:=by
 obtain⟨d,Y,M,_⟩:=hX.run_underlying (w:=w) q;unfold US at h;split at h
 ·rename_i e o s rows D;rw[D]at M;simp only[ey]at M;subst M;simp at h;subst h;simp only[aI]at H;obtain⟨base,K,W,rfl,B,_⟩:=H;exact⟨.int .i64 K,Wb,by simp[aI,Rel,B]⟩
 ·rename_i e V off s n D;rw[D]at M;simp only[ey]at M;subst M;simp at h;subst h;simp only[aI]at H;obtain⟨b,W,o,_,rfl,_⟩:=H;exact⟨.int .i64 n,Wb,rj⟩
 ·rename_i e s rows D;rw[D]at M;simp only[ey]at M;subst M;simp at h;subst h;simp only[aI,Rel]at H;obtain⟨base,K,W,rfl,B,_⟩:=H;exact⟨.int .i64 K,Wb,by simp[aI,Rel,B]⟩
 ·rename_i s D;rw[D]at M;simp only[ey]at M;subst M;simp at h;subst h;simp only[aI,Rel]at H;subst H;exact⟨.int .i64 s.length,by simp[Builtin.len_,Y,goInt,tc],rj⟩
 ·rename_i n e D;rw[D]at M;simp only[ey]at M;subst M;simp at h;subst h;exact⟨.int .i64 n,by cases u<;>simp[Builtin.len_,Y,goInt],rj⟩
 ·simp at h
end
end Go.cM
namespace Go.cM
section
variable {P : Program}{X : Ctx}{w : World}{g : Gh}
def HD(hX:ct P X){E:L (Nat×L AV)}
  (gL:∀b o v,g.G b o=some v->w.cell? ⟨b,o,none⟩=some v)
  (WC:∀k cs,ak k E=some cs->∃b,g.box k=some b/\cg w g b 0 cs)
  {ρ:Operand->Option AV}{ev:Operand->Value}(O:∀x v,ρ x=some v->aI g v (ev x)){o:Oper}{v:AV}(h:gl X E ρ o.op=some v) :
  ∃u,(execOp ev o).run P w = .ok (.value u) w/\aI g v u:=by
 have fin:∀{s:Sem Value},(∃u,s.run P w = .ok u w/\aI g v u)->∃u,(do pure (Next.value (<- s)):Sem Next).run P w = .ok (.value u) w/\aI g v u:=by simp_all
 have WD:∀{b n:Nat}{cs r:L AV},cg w g b 0 cs->fX n cs=some r->cg w g b n r:=by
  intro b n cs r h1 h2;obtain⟨rfl,_⟩:=jK h2;apply cg.jo;intro j c T;rw[abT]at T;simpa using h1.get (n+j) c T
 obtain⟨dst,op,type,pos,after,guard⟩:=o;simp only at h;unfold gl at h;split at h
 ·rename_i x;exact⟨ev x,by simp[execOp],O x v h⟩
 ·rename_i x;exact⟨ev x,by simp[execOp],O x v h⟩
 ·rename_i c a b;split at h
  ·rename_i t av bv h1 h2 K;have p:=O c _ h1;simp only[aI,Rel]at p;have ha:=O a _ h2;have A:=O b _ K;refine⟨if t then ev a else ev b,by simp[execOp,p,asBool],?_⟩;unfold TW at h;split at h
   ·grind
   ·grind
  ·simp at h
 ·rename_i t x;split at h
  ·rename_i i key off h1 h2;have I:=O x _ h2;simp only[aI]at I;obtain⟨b,A,I⟩:=I;split at h
   ·rename_i cells ie;split at h
    ·rename_i l B;obtain⟨b',q,WE⟩:=WC key cells ie;rw[A]at q;simp at q;subst q;simp only[execOp];rw[I];exact fin (P3 hX h1 (WD WE B) h)
    ·simp at h
   ·simp at h
  ·rename_i i cs h1 h2;have I:=O x _ h2;simp only[aI,Rel]at I;obtain⟨b,o,I,p⟩:=I;simp only[execOp];rw[I];exact fin (NH hX gL h1 p h)
  ·simp at h
 ·rename_i x;split at h
  ·rename_i k o h1;have I:=O x _ h1;simp at h;subst h;have U:=I;simp only[aI]at U;obtain⟨b,A,e⟩:=U;exact⟨ev x,by simp[execOp,e],I⟩
  ·rename_i cs h1;have I:=O x _ h1;simp at h;subst h;have U:=I;simp only[aI,Rel]at U;obtain⟨b,o,e,_⟩:=U;exact⟨ev x,by simp[execOp,e],I⟩
  ·rename_i f cs h1;have I:=O x _ h1;simp at h;subst h;have U:=I;simp only[aI,Rel]at U;obtain⟨vs,e,_⟩:=U;exact⟨ev x,by simp[execOp,e],I⟩
  ·simp at h
 ·rename_i op t x y _;split at h
  ·rename_i i a b h1 h2 K;exact fin (SN hX h1 h (O x _ h2) (O y _ K) x y)
  ·simp at h
 ·rename_i op _ x;split at h
  ·rename_i b h1;have I:=O x _ h1;simp only[aI,Rel]at I;simp at h;subst h;exact⟨.bool !b,by simp[execOp,I,Op.unary],rj⟩
  ·rename_i k n h1;have I:=O x _ h1;simp only[aI,Rel]at I;simp at h;subst h;exact⟨.int k (k.wrap (0-n)),by simp[execOp,I,Op.unary,Op.intArith],rj⟩
  ·simp at h
 ·rename_i s d x;split at h
  ·rename_i i j k n h1 h2 K;have I:=O x _ K;simp only[aI,Rel]at I;split at h
   ·rename_i k' D;simp at h;subst h;obtain⟨d1,C,_,Q⟩:=hX.run_underlying (w:=w) h1;obtain⟨d2,e3,e4,e5⟩:=hX.run_underlying (w:=w) h2;rw[D]at e4;simp only[ey]at e4;subst e4;exact⟨.int k' (k'.wrap n),by simp[execOp,I,convert,C,e3,Conv.intToInt],rj⟩
   ·simp at h
  ·simp at h
 ·rename_i t x f;split at h
  ·rename_i i a h1 h2;have I:=O x _ h2;split at h
   ·rename_i fs D;split at h
    ·rename_i off ft hf;split at h
     ·rename_i k o;simp at h;subst h;simp only[aI]at I;obtain⟨b,A,e⟩:=I;exact⟨_,by simp[execOp,e,zK hX h1 D hf];rfl,by simp only[aI];exact⟨b,A,Z⟩⟩
     ·rename_i cs;split at h
      ·rename_i r hr;simp at h;subst h;simp only[aI,Rel]at I;obtain⟨b,o,e,p⟩:=I;obtain⟨rfl,_⟩:=jK hr;exact⟨_,by simp[execOp,e,zK hX h1 D hf];rfl,by simp only[aI,Rel];exact⟨b,o+off,Z,p.drop⟩⟩
      ·simp at h
     ·simp at h
    ·simp at h
   ·simp at h
  ·simp at h
 ·rename_i t x f;split at h
  ·rename_i i a h1 h2;have I:=O x _ h2;split at h
   ·rename_i fs D;split at h
    ·rename_i off ft hf;split at h
     ·rename_i j T;split at h
      ·rename_i cs;split at h
       ·rename_i r hr;simp only[aI]at I;obtain⟨vs,e,c1,c2⟩:=I;have:=BK (P:=P) (w:=w) hX T (vs:=vs.toArray) (off:=off) (.inl ⟨cs,r,by simpa using c1,c2,hr,h⟩);simp only[execOp,e];refine fin ?_;rw[D5 hX h1 D hf];exact this
       ·simp at h
      ·rename_i cs;split at h
       ·rename_i r hr;simp only[aI,Rel]at I;obtain⟨vs,e,c1,c2⟩:=I;have:=BK (P:=P) (w:=w) hX T (vs:=vs.toArray) (off:=off) (.inr ⟨cs,r,by simpa using c1,c2,hr,h⟩);simp only[execOp,e];refine fin ?_;rw[D5 hX h1 D hf];exact this
       ·simp at h
      ·simp at h
     ·simp at h
    ·simp at h
   ·simp at h
  ·simp at h
 ·rename_i t x ix;split at h
  ·rename_i i a na h1 h2 K;have I:=O x _ h2;have V:=O ix _ K;split at h
   ·rename_i n hn';obtain⟨k,V⟩:=ux hn' V;obtain⟨d,iL,M,_⟩:=hX.run_underlying (w:=w) h1;split at h
    ·rename_i e D;rw[D]at M;simp only[ey]at M;subst M;split at h
     ·rename_i j s rows T hr;split at h
      ·rename_i r A UX;have:=beq_true A;subst this;simp at h;subst h;obtain⟨base,len,cap,C,Q,_,e3⟩:=BH hr I;rw[qf]at UX;have W:n<rows.length:=(List.getElem?_eq_some_iff.1 UX).1;rcases e3 with rfl|⟨b,o,rfl,fF⟩
       ·simp at W
       ·have hg:=(fF.get n r UX).1;refine⟨.pointer (some ⟨b,o+n*j.size,none⟩),?_,by simp only[aI,Rel];exact⟨b,_,Z,hg⟩⟩;simp[execOp,C,V,Instr.indexAt,asIntOf,iL,Q,W,hX.run_sizeOf T,Addr.add_lit]
      ·simp at h
     ·simp at h
    ·rename_i m e D;rw[D]at M;simp only[ey]at M;subst M;split at h
     ·rename_i j k' o T hlt';simp at h;subst h;have W:n<m:=by simpa[ach]using hlt'
      simp only[aI]at I;obtain⟨b,A,C⟩:=I;refine⟨.pointer (some ⟨b,o+n*j.size,none⟩),?_,by simp only[aI];exact⟨b,A,Z⟩⟩;simp[execOp,C,V,Instr.indexAt,asIntOf,iL,Instr.sureAddr,W,hX.run_sizeOf T,Addr.add_lit]
     ·simp at h
    ·simp at h
   ·simp at h
  ·simp at h
 ·rename_i t x ix;split at h
  ·rename_i i a na h1 h2 K;have I:=O x _ h2;have V:=O ix _ K;split at h
   ·rename_i n hn';obtain⟨k,V⟩:=ux hn' V;obtain⟨d,iL,M,_⟩:=hX.run_underlying (w:=w) h1;split at h
    ·rename_i s D;rw[D]at M;simp only[ey]at M;subst M;simp only[aI,Rel]at I;split at h
     ·rename_i b A;simp at h;subst h;rw[qf]at A;have W:n<s.length:=(List.getElem?_eq_some_iff.1 A).1;have jB:(ByteArray.mk s.toArray)[n]?=some b:=by
       rw[getElem?_pos _ _ (by rw[tc];exact W)];congr 1;have:=(List.getElem?_eq_some_iff.1 A).2;rw[<- this];rfl
      refine⟨.int .u8 b.toNat,?_,rj⟩;simp[execOp,I,V,Instr.index,asIntOf,iL,jB]
     ·simp at h
    ·simp at h
   ·simp at h
  ·simp at h
 ·rename_i x n;split at h
  ·rename_i cs h1;have I:=O x _ h1;simp only[aI]at I;obtain⟨vs,e,c1,_⟩:=I;rw[qf]at h;obtain⟨u,C,Q⟩:=(bC.get c1).2 n v h;exact⟨u,by simp[execOp,e,Instr.extract,C],Q⟩
  ·rename_i cs h1;have I:=O x _ h1;simp only[aI,Rel]at I;obtain⟨vs,e,c1,_⟩:=I;split at h
   ·rename_i cv pG;simp at h;subst h;rw[qf]at pG;obtain⟨u,C,Q⟩:=(bI.get c1).2 n cv pG;exact⟨u,by simp[execOp,e,Instr.extract,C],by simpa only[aI]using Q⟩
   ·simp at h
  ·simp at h
 ·rename_i t parts;split at h
  ·rename_i i h1;split at h
   ·rename_i fs z D hz;split at h
    ·rename_i cells p;simp at h;subst h;exact fin (run_build hX h1 D hz O p)
    ·simp at h
   ·simp at h
  ·simp at h
 ·rename_i t x lo hi mx;split at h
  ·rename_i i a lo' hi' mx' h1 h2 K h4 h5;have I:=O x _ h2;have b1:=ni O K;have b2:=ni O h4;have b3:=ni O h5;split at h
   ·rename_i e D;split at h
    ·rename_i j T;exact fin (D4 hX h1 (λe' Y=>by rw[D]at Y;simp at Y;subst Y;exact⟨j,T,rfl⟩) h I b1 b2 b3)
    ·simp at h
   ·rename_i D;exact fin (D4 hX h1 (λe' Y=>absurd Y (D e')) h I b1 b2 b3)
  ·simp at h
 ·rename_i f first N
  split at h
  ·rename_i l h1 h2;simp at h;subst h;have:=mE O h2;refine⟨.func (.func f) #[] (N.map ev),?_,by simp only[aI,Rel];exact⟨N.toList.map ev,by rw[<- aaP],this⟩⟩;have hf:first = #[]:=by simpa using h1
   simp[execOp,hf,Instr.makeFunc]
  ·simp at h
 ·rename_i J S;split at h
  ·rename_i x t I ht;split at h
   ·rename_i i a h1 h2;have C:J = #[x]:=by simpa using Zb List.toArray I
    have Q:S = #[t]:=by simpa using Zb List.toArray ht
    obtain⟨r,r1,r2⟩:=SP (P:=P) (w:=w) hX h1 h (O x a h2) type;refine⟨r,?_,r2⟩;simp[execOp,resolve,invoke,builtin,C,Q,r1]
   ·simp at h
  ·simp at h
 ·rename_i J _;unfold WA at h;split at h
  ·rename_i k a k' b H;simp at h;subst h;cases B:J.toList with
   |nil=>rw[B]at H;simp at H
   |cons x l =>
    cases l with
    |nil=>rw[B]at H;simp at H
    |cons y l =>
     cases l with
     |cons z l=>rw[B]at H;simp at H
     |nil =>
      rw[B]at H;simp at H;have I:=O x _ H.1;have hy:=O y _ H.2;simp only[aI,Rel]at I hy;refine⟨.int k (if b<a then b else a),?_,rj⟩;have C:J = #[x,y]:=by simpa using Zb List.toArray B
      simp[execOp,resolve,invoke,builtin,C,Builtin.min_,Builtin.min2,I,hy]
  ·simp at h
 ·rename_i J _;unfold WB at h;split at h
  ·rename_i k a k' b H;simp at h;subst h;cases B:J.toList with
   |nil=>rw[B]at H;simp at H
   |cons x l =>
    cases l with
    |nil=>rw[B]at H;simp at H
    |cons y l =>
     cases l with
     |cons z l=>rw[B]at H;simp at H
     |nil =>
      rw[B]at H;simp at H;have I:=O x _ H.1;have hy:=O y _ H.2;simp only[aI,Rel]at I hy;refine⟨.int k (if b>a then b else a),?_,rj⟩;have C:J = #[x,y]:=by simpa using Zb List.toArray B
      simp[execOp,resolve,invoke,builtin,C,Builtin.max_,Builtin.max2,I,hy]
  ·simp at h
 ·simp at h
end
end Go.cM
namespace Go.cM
structure Fp where
 R:List Nat
 W:List Nat
 deriving Inhabited
abbrev Env:=L (Nat×AV)
def gO(k:Nat)(σ N:St):Prop:=ak k N.boxes=ak k σ.boxes/\ak k N.toks=ak k σ.toks/\(k∈N.used↔k∈σ.used)
def Agree(P:Fp)(σ N:St):Prop:=∀k,k∈P.R\/k∈P.W->gO k σ N
structure gA(wL:St->St)(fp:Fp):Prop where
 out:∀σ k,k ∉ fp.W->gO k σ (wL σ)
 same:∀σ σ1,Agree fp σ σ1->∀k,k∈fp.W->gO k (wL σ) (wL σ1)
def gA.id(R:L Nat):gA (λσ=>σ) ⟨R,[]⟩:=⟨λ_ _ _=>⟨Z,Z,Iff.rfl⟩,λ_ _ _ k h=>by simp at h⟩
def bP(P:Program)(X:Ctx)(o:Oper)(env:Env)(σ:St)(v:AV)(W:St->St)(V:Fp):Prop :=
 ∀(Y:Env)(N:St)(w:World)(g:Gh)(a:Act)(next:Act->World->Prop)(Q:Exit->Act->World->Prop),
  (∀x∈o.op.operands.toList,aJ X Y x=aJ X env x)->Agree V σ N->Inv w g N->mA X g.G->sw g Y a.tmps ->
  (∀u w' g',aI g' v u->Inv w' g' (W N)->gy w g N w' g' (W N)->g.le g'->next (a.put o.dst u) w')->o.wp P a w next Q
structure It where
 run:Bool
 v:AV
 wL:St->St
 fp:Fp
def It.skip:It:=⟨false,.c .undef,λσ=>σ,⟨[],[]⟩⟩
def xg(d:Option Nat)(v:AV)(env:Env):Env:=match d with
 |some d=>(d,v)::env
 |none=>env
def oH(ops:Array Oper)(j:Nat):Option Nat:=(ops[j]?).bind (·.dst)
def pK(ops:Array Oper)(o:Oper)(env:Env):Prop:=match o.guard with
 |none=>True
 |some (j,Y)=>∃d,oH ops j=some d/\ak d env=some (.c (.bool Y))
def oI(ops:Array Oper)(o:Oper)(env:Env):Prop:=match o.guard with
 |none=>False
 |some (j,Y)=>∃d,oH ops j=some d/\(ak d env=some (.c (.bool (!Y)))\/ak d env=some (.c .undef))
def lz(P:Program)(X:Ctx)(ops:Array Oper)(i:Nat)(p:It)(env:Env)(σ:St)(env':Env)(u:St):Prop :=
 ∃o,ops[i]?=some o/\env'=xg o.dst p.v env/\u=p.wL σ/\gA p.wL p.fp /\
  ((p=It.skip/\oI ops o env)\/(p.run=true/\pK ops o env/\bP P X o env σ p.v p.wL p.fp))
def sL(P:Program)(X:Ctx)(ops:Array Oper):L (Nat×It)->Env->St->Env->St->Prop
 |[],env,σ,env',σ'=>env'=env/\σ'=σ
 |(i,p)::l,env,σ,env',σ'=>∃Y N,lz P X ops i p env σ Y N/\sL P X ops l Y N env' σ'
def Ext(env:Env)(σ:St)(P:Env)(N:St):Prop:=(∀t,ak t P=ak t env)/\∀k,gO k σ N
def gO.refl(k:Nat)(σ:St):gO k σ σ:=⟨Z,Z,Iff.rfl⟩
def gO.symm{k:Nat}{σ N:St}(h:gO k σ N):gO k N σ:=⟨h.1.symm,h.2.1.symm,h.2.2.symm⟩
def gO.trans{k:Nat}{σ N Y:St}(h:gO k σ N)(C:gO k N Y):gO k σ Y :=
 ⟨C.1.trans h.1,C.2.1.trans h.2.1,C.2.2.trans h.2.2⟩
def Ext.refl(env:Env)(σ:St):Ext env σ env σ:=⟨λ_=>rfl,λk=>gO.refl k σ⟩
def Ext.trans{e C Q:Env}{s u q:St}(h:Ext e s C u)(I:Ext C u Q q):Ext e s Q q :=
 ⟨λt=>(I.1 t).trans (h.1 t),λk=>(h.2 k).trans (I.2 k)⟩
def an{α:Type}(t d:Nat)(v:α)(l:L (Nat×α)):ak t ((d,v)::l)=if t=d then some v else ak t l:=by
 simp only[ak];split
 ·simp_all
 ·rename_i h;rw[if_neg (λe=>beq_false h e.symm)]
def qF(t:Nat)(d:Option Nat)(v:AV)(env:Env):ak t (xg d v env)=if d=some t then some v else ak t env:=by
 cases d with
 |none=>simp[xg]
 |some d =>
  simp only[xg,an,aaJ];by_cases h:t=d
  ·subst h;simp
  ·grind
def zM{X:Ctx}{env P:Env}{x:Operand}(h:∀t,x = .tmp t->ak t P=ak t env):aJ X P x=aJ X env x:=by
 cases x<;>simp[aJ];exact h _ Z
def bP.congr{P:Program}{X:Ctx}{o:Oper}{env V:Env}{σ N:St}{v:AV}{E:St->St}{Y:Fp}(h:bP P X o env σ v E Y)
  (S:∀x∈o.op.operands.toList,aJ X V x=aJ X env x)(U:Agree Y σ N):bP P X o V N v E Y :=
 λT W w g a next Q h1 h2=>h T W w g a next Q (λx I=>(h1 x I).trans (S x I)) (λk D=>(U k D).trans (h2 k D))
def lz.uz{P:Program}{X:Ctx}{ops:Array Oper}{i:Nat}{p:It}{env Y env':Env}{σ N u:St}(h:lz P X ops i p env σ env' u)
  (I:Ext env σ Y N):∃V U,lz P X ops i p Y N V U/\Ext env' u V U:=by
 obtain⟨o,T,rfl,rfl,A,h⟩:=h;refine⟨_,_,⟨o,T,Z,Z,A,?_⟩,λt=>?_,λk=>?_⟩
 ·rcases h with ⟨h1,h2⟩|⟨h1,h2,K⟩
  ·refine .inl ⟨h1,?_⟩;unfold oI at *;split at h2
   ·exact h2
   ·obtain⟨d,C,Q⟩:=h2;exact⟨d,C,by rw[I.1];exact Q⟩
  ·refine .inr ⟨h1,?_,K.congr (λx _=>zM λt _=>I.1 t) (λk _=>I.2 k)⟩;unfold pK at *;split at h2
   ·trivial
   ·obtain⟨d,C,Q⟩:=h2;exact⟨d,C,by rw[I.1];exact Q⟩
 ·simp only[qF,I.1]
 ·by_cases D:k∈p.fp.W
  ·exact A.same _ _ (λk _=>I.2 k) k D
  ·exact((A.out σ k D).symm.trans (I.2 k)).trans (A.out N k D)
def sL.uz{P:Program}{X:Ctx}{ops:Array Oper}:∀{l:L (Nat×It)}{env Y env':Env}{σ N u:St},sL P X ops l env σ env' u ->
  Ext env σ Y N->∃V U,sL P X ops l Y N V U/\Ext env' u V U
 |[],_,_,_,_,_,_,⟨h1,h2⟩,hx=>⟨_,_,⟨rfl,rfl⟩,by subst h1 h2;exact hx⟩
 |(i,M)::l,env,Y,env',σ,N,u,⟨q,J,h1,h2⟩,hx=>by
  obtain⟨T,A,K,S⟩:=h1.uz hx;obtain⟨p,Q,O,W⟩:=sL.uz h2 S;exact⟨p,Q,⟨T,A,K,O⟩,W⟩
def Qa(l r:L Nat):Bool:=l.all λx => !r.contains x
def oJ{l r:L Nat}(h:Qa l r=true){k:Nat}(h1:k∈l):k ∉ r:=by
 simp only[Qa,abc]at h;have:=h k h1;simpa using this
def indep(ops:Array Oper)(i j:Nat)(f g:Fp):Bool:=match ops[i]?,ops[j]? with
 |some x,some y=>Oper.apart ops x y&&Qa f.W g.R&&Qa f.W g.W&&Qa g.W f.R
 |_,_=>false
def Ax{ops:Array Oper}{o:Oper}{t:Nat}(h:Operand.tmp t∈o.op.operands.toList):t∈o.looksAt ops:=by
 unfold Oper.looksAt;exact List.mem_append_left _ (List.mem_filterMap.2 ⟨_,h,Z⟩)
def vw{ops:Array Oper}{o:Oper}{j:Nat}{b:Bool}{d:Nat}(h:o.guard=some (j,b))(Y:oH ops j=some d):d∈o.looksAt ops:=by
 unfold Oper.looksAt;refine List.mem_append_right _ ?_;rw[h];simp only;unfold oH at Y;rw[Y];simp
def lz.before{P:Program}{X:Ctx}{ops:Array Oper}{i:Nat}{o:Oper}(T:ops[i]?=some o){p:It}{env V:Env}{σ N:St}
  (B:∀t∈o.looksAt ops,ak t V=ak t env)(S:Agree p.fp σ N){env':Env}{u:St}(h:lz P X ops i p env σ env' u) :
  lz P X ops i p V N (xg o.dst p.v V) (p.wL N):=by
 obtain⟨O,Y,rfl,rfl,A,h⟩:=h;rw[T]at Y;simp at Y;subst Y;refine⟨o,T,Z,Z,A,?_⟩;rcases h with ⟨h1,h2⟩|⟨h1,h2,K⟩
 ·refine .inl ⟨h1,?_⟩;unfold oI at *;split at h2
  ·exact h2
  ·rename_i j W U;obtain⟨d,C,Q⟩:=h2;exact⟨d,C,by rw[B d (vw U C)];exact Q⟩
 ·refine .inr ⟨h1,?_,K.congr (λx I=>zM λt M=>?_) S⟩
  ·unfold pK at *;split at h2
   ·trivial
   ·rename_i j W U;obtain⟨d,C,Q⟩:=h2;exact⟨d,C,by rw[B d (vw U C)];exact Q⟩
  ·subst M;exact B t (Ax I)
def lz.swap{P:Program}{X:Ctx}{ops:Array Oper}{i j:Nat}{x y:It}{env p SQ:Env}{σ N Y:St}(K:indep ops i j x.fp y.fp=true)
  (h1:lz P X ops i x env σ p N)(h2:lz P X ops j y p N SQ Y) :
  ∃C O q M,lz P X ops j y env σ C O/\lz P X ops i x C O q M/\Ext SQ Y q M:=by
 obtain⟨ox,V,C,O,U,hx⟩:=id h1;obtain⟨H,T,q,M,S,hy⟩:=id h2;unfold indep at K;simp only[V,T,aal]at K;obtain⟨⟨⟨G,iL⟩,gH⟩,UR⟩:=K;obtain⟨a1,a2,a3⟩:=Oper.apart_spec G;subst C O;have E:lz P X ops j y env σ (xg H.dst y.v env) (y.wL σ):=by
  refine lz.before T ?_ ?_ h2
  ·intro t B;rw[qF,if_neg (λe=>a1 t e B)]
  ·intro k D;refine(U.out σ k λJ=>?_).symm;rcases D with D|D
   ·exact oJ iL J D
   ·exact oJ gH J D
 have Q:Agree x.fp σ (y.wL σ):=by
  intro k D;refine S.out σ k λJ=>?_;rcases D with D|D
  ·exact oJ UR J D
  ·exact oJ gH D J
 have A:lz P X ops i x (xg H.dst y.v env) (y.wL σ) (xg ox.dst x.v (xg H.dst y.v env)) (x.wL (y.wL σ)):=by
  refine lz.before V ?_ Q h1;intro t B;rw[qF,if_neg (λe=>a3 t e B)]
 refine⟨_,_,_,_,E,A,?_,?_⟩
 ·intro t;subst q;simp only[qF];by_cases hxd:ox.dst=some t
  ·simp_all
  ·simp_all
 ·intro k;subst M;by_cases D:k∈x.fp.W
  ·
   have u:k ∉ y.fp.W:=λh=>oJ gH D h;exact(S.out (x.wL σ) k u).symm.trans (U.same _ _ Q k D)
  ·have e:=U.out (y.wL σ) k D;refine gO.trans ?_ e;by_cases u:k∈y.fp.W
   ·refine S.same _ _ ?_ k u;intro k' I;refine(U.out σ k' λJ=>?_).symm;rcases I with I|I
    ·exact oJ iL J I
    ·exact oJ gH J I
   ·exact((S.out (x.wL σ) k u).symm.trans (U.out σ k D).symm).trans (S.out σ k u)
def sL.front{P:Program}{X:Ctx}{ops:Array Oper}{i:Nat}{N:It}:∀{p q:L (Nat×It)}{env env':Env}{σ u:St},
  (∀x∈p,indep ops x.1 i x.2.fp N.fp=true)->sL P X ops (p++(i,N)::q) env σ env' u ->
  ∃C Y Q J,lz P X ops i N env σ C Y/\sL P X ops (p++q) C Y Q J/\Ext env' u Q J
 |[],q,env,env',σ,u,_,⟨C,Y,h1,h2⟩=>⟨C,Y,env',u,h1,h2,Ext.refl _ _⟩
 |(j,x)::p,q,env,env',σ,u,hp,⟨C,Y,h1,h2⟩=>by
  obtain⟨Q,J,e3,s3,K,U,T⟩:=sL.front (λx I=>hp x (aaM _ I)) h2;obtain⟨S,O,M,H,G,E,W⟩:=lz.swap (hp (j,x) ek) h1 K;obtain⟨D,B,A,V⟩:=U.uz W;exact⟨S,O,D,B,G,⟨M,H,E,A⟩,T.trans V⟩
structure je where
 w:World
 g:Gh
 σ:St
structure Live(X:Ctx)(β:je)(n:Nat)(env:Env)(σ:St)(g:Gh)(w:World)(a:Act):Prop where
 inv:Inv w g σ
 qe:mA X g.G
 env:sw g env a.tmps
 frame:gy β.w β.g β.σ w g σ
 size:a.tmps.size=n
 defers:a.defers=[]
def Inv.ext{w:World}{g:Gh}{σ N:St}(h:Inv w g σ)(I:∀k,gO k σ N):Inv w g N where
 nF:=h.nF
 box:=λk cs e=>h.box k cs ((I k).1.symm.trans e)
 fo:=λk k' cs P b e e'=>h.fo k k' cs P b ((I k).1.symm.trans e) ((I k').1.symm.trans e')
 tok:=λk n e=>by
  obtain⟨B,h1,h2⟩:=h.tok k n ((I k).2.1.symm.trans e);refine⟨B,h1,λb H K E=>?_⟩;obtain⟨W,V,U⟩:=h2 b H K E;exact⟨W,V,λk' cs e'=>U k' cs ((I k').1.symm.trans e')⟩
 ga:=λk k' n T b H K u Y e e'=>h.ga k k' n T b H K u Y ((I k).2.1.symm.trans e) ((I k').2.1.symm.trans e')
 used:=λk e=>(I k).2.2.2 (h.used k e)
 room:=λk cs b e=>h.room k cs b ((I k).1.symm.trans e)
def gy.ext{w w':World}{g g':Gh}{σ u N:St}(h:gy w g σ w' g' u)(I:∀k,gO k u N):gy w g σ w' g' N where
 os:=h.os
 tape:=h.tape
 output:=h.output
 size:=h.size
 block:=h.block
 kept:=h.kept
 le:=h.le
 new:=h.new
 boxes:=λk cs b e=>h.boxes k cs b ((I k).1.symm.trans e)
 toks:=λk n b H K e=>h.toks k n b H K ((I k).2.1.symm.trans e)
 ids:=λk D e=>h.ids k D (by rw[<- (I k).1];exact e)
def Live.ext{X:Ctx}{β:je}{n:Nat}{env P:Env}{σ N:St}{g:Gh}{w:World}{a:Act}(h:Live X β n env σ g w a)(I:Ext env σ P N):Live X β n P N g w a where
 inv:=h.inv.ext I.2
 qe:=h.qe
 env:=λt v e=>h.env t v ((I.1 t).symm.trans e)
 frame:=h.frame.ext I.2
 size:=h.size
 defers:=h.defers
def qb(ops:Array Oper)(n:Nat):Bool:=ops.toList.all λo=>match o.dst with
 |some d=>Nat.blt d n
 |none=>true
def Ki{ops:Array Oper}{n i d:Nat}{o:Oper}(h:qb ops n=true)(Y:ops[i]?=some o)(W:o.dst=some d):d<n:=by
 simp only[qb,abc]at h;have:=h o (by rw[acO];exact Array.mem_of_getElem? Y);rw[W]at this;simpa[ach]using this
def sw.put{g:Gh}{env:Env}{a:Act}{d:Option Nat}{v:AV}{u:Value}(h:sw g env a.tmps)(H:aI g v u)(Y:∀k,d=some k->k<a.tmps.size) :
  sw g (xg d v env) (a.put d u).tmps:=by
 intro t x e;rw[qF]at e;cases d with
 |none=>simp at e;exact h t x e
 |some k =>
  simp only[aaJ]at e;simp only[Act.put];by_cases D:k=t
  ·subst D;rw[if_pos rfl]at e;simp at e;subst e;have W:=Y k Z;simpa[Array.getD,W]using H
  ·rw[if_neg D]at e;have:=h t x e;have p:(a.tmps.setIfInBounds k u).getD t undef=a.tmps.getD t undef:=by
    simp only[aaN,abN,if_neg D]
   rw[p];exact this
def BL{g:Gh}{ops:Array Oper}{env:Env}{Y:Array Value}(h:sw g env Y){j d:Nat}(W:oH ops j=some d) :
  (∀b,ak d env=some (.c (.bool b))->yielded ops Y j=some b)/\(ak d env=some (.c .undef)->yielded ops Y j=none):=by
 unfold oH at W;constructor
 ·intro b e;have:=h d _ e;simp only[aI,Rel]at this;simp only[yielded,W,Option.bind_some];simp only[Array.getD]at this;split at this
  ·simp_all
  ·simp[Go.undef]at this
 ·intro e;have:=h d _ e;simp only[aI,Rel]at this;simp only[yielded,W,Option.bind_some];simp only[Array.getD]at this;split at this
  ·rename_i E;have:Y[d]?=some Go.undef:=by rw[aao E];exact Zb some this
   rw[this];rfl
  ·simp_all
def lz.wp{P:Program}{X:Ctx}{β:je}{n:Nat}{ops:Array Oper}(G:qb ops n=true){i:Nat}{E:It}{env env':Env}{σ C:St}(h:lz P X ops i E env σ env' C)
  {g:Gh}{w:World}{a:Act}(Y:Live X β n env σ g w a){K:Act->World->Prop}{Q:Exit->Act->World->Prop}
  (T:∀g' w' S,Live X β n env' C g' w' S->K S w'):wpOp P ops Q i K a w:=by
 obtain⟨o,O,rfl,rfl,hE,h⟩:=h;have N:∀k,o.dst=some k->k<a.tmps.size:=λk D=>by rw[Y.size];exact Ki G O D
 have W:∀u,(a.put o.dst u).tmps.size=n/\(a.put o.dst u).defers=[]:=by
  intro u;cases o.dst<;>simp[Act.put,Y.size,Y.defers]
 simp only[wpOp,O];rcases h with ⟨rfl,p⟩|⟨hr,p,B⟩
 ·have J:Region.wanted o (yielded ops a.tmps)=false:=by
   unfold oI at p;unfold Region.wanted;split at p
   ·exact p.elim
   ·rename_i j V U;obtain⟨d,I,q⟩:=p;obtain⟨M,A⟩:=BL Y.env I;simp only[U];rcases q with q|q
    ·grind
    ·rw[A q];rfl
  rw[if_neg (by simp[J])];refine T g w _ ⟨Y.inv,Y.qe,Y.env.put (by simp[It.skip,aI,Rel]) N,Y.frame,(W _).1,(W _).2⟩
 ·have J:Region.wanted o (yielded ops a.tmps)=true:=by
   unfold pK at p;unfold Region.wanted;split at p
   ·simp_all
   ·rename_i j V U;obtain⟨d,I,q⟩:=p;obtain⟨M,_⟩:=BL Y.env I;simp only[U];rw[M _ q];cases V<;>rfl
  rw[if_pos J];refine .inl (B env σ w g a K Q (λ_ _=>rfl) (λk _=>gO.refl k σ) Y.inv Y.qe Y.env ?_);intro u w' g' h1 h2 h3 H;refine T g' w' _ ⟨h2,?_,(Y.env.mono H).put h1 N,Y.frame.trans h3,(W _).1,(W _).2⟩;intro k v D;exact Rel.mono H.1 _ _ (Y.qe k v D)
def sL.wp{P:Program}{X:Ctx}{β:je}{n:Nat}{ops:Array Oper}(V:qb ops n=true){Q:Exit->Act->World->Prop} :
  ∀{l:L (Nat×It)}{env env':Env}{σ u:St},sL P X ops l env σ env' u->∀{g:Gh}{w:World}{a:Act},Live X β n env σ g w a ->
  (∀g' w' Y,Live X β n env' u g' w' Y->Q .normal Y w')->wpOps P ops Q (l.map (·.1)) a w
 |[],env,env',σ,u,⟨h1,h2⟩,g,w,a,hL,hQ=>by subst h1 h2;exact hQ g w a hL
 |(i,p)::l,env,env',σ,u,⟨C,U,h1,h2⟩,g,w,a,hL,hQ=>by
  rw[Zl,wpOps_cons];exact h1.wp V hL λg' w' Y W=>sL.wp V h2 W hQ
def mS(o:Oper):L Nat:=o.after.toList.filterMap λe=>if Region.binds .any e then some e.on else none
def vV:L (L Nat)->L Nat->L Nat
 |[],acc=>acc
 |es::rest,acc=>vV rest (acc++[es.foldl (λs e=>s|||2^e|||acc.getD e 0) 0])
def Qb(ops:Array Oper):L Nat:=vV (ops.toList.map mS) []
def BM(acc:L Nat)(j:Nat):∀(es:L Nat)(s:Nat),(es.foldl (λs e=>s|||2^e|||acc.getD e 0) s).testBit j=true ->
  s.testBit j=true\/∃e∈es,e=j\/(acc.getD e 0).testBit j=true
 |[],s,h => .inl h
 |e::es,s,h=>by
  simp only[List.foldl_cons]at h;rcases BM acc j es _ h with h|⟨e',h1,h2⟩
  ·grind
  ·grind
def BN:∀(es:L (L Nat))(acc:L Nat)(i:Nat),acc.length<=i->i<acc.length+es.length ->
  ∀j,((vV es acc).getD i 0).testBit j=true->∃e∈es.getD (i-acc.length) [],e=j\/((vV es acc).getD e 0).testBit j=true
 |[],acc,i,h1,h2,j,h=>by simp at h2;omega
 |x::es,acc,i,h1,h2,j,h=>by
  have Y:∀(es:L (L Nat))(acc:L Nat)(k:Nat),k<acc.length->(vV es acc).getD k 0=acc.getD k 0:=by
   intro es
   induction es with
   |nil=>intro acc k D;rfl
   |cons y es O =>
    intro acc k D;simp only[vV];rw[O _ _ ot];simp[List.getD,abU D]
  simp only[vV]at h ⊢;by_cases q:i=acc.length
  ·subst q;rw[Y _ _ _ ek]at h;simp only[List.getD,abP (aav _),Nat.sub_self,abq,abJ]at h;rcases BM acc j x 0 h with h|⟨e,K,W⟩
   ·simp at h
   ·grind
  ·obtain⟨e,K,W⟩:=BN es (acc++[x.foldl (λs e=>s|||2^e|||acc.getD e 0) 0]) i ot (by simp at h2 ⊢;omega) j h;refine⟨e,?_,W⟩;simp only[aay,aac,aad]at K;rw[show i-acc.length=(i-(acc.length+(0+1)))+1 from by omega];simpa using K
def om(ops:Array Oper)(Y:L Fp):Bool :=
 let W:=Qb ops
 (List.range ops.size).all λi=>(((ops[i]?).map mS).getD []).all (λe=>Nat.blt e i) &&
  (List.range i).all λj=>(W.getD i 0).testBit j||indep ops j i (Y.getD j ⟨[],[]⟩) (Y.getD i ⟨[],[]⟩)
end Go.cM
