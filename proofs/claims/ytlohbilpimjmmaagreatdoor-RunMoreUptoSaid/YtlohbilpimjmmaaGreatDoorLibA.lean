/- A layer of abstract values over the model, part A: The abstract values, what they say of memory, and contracts of calls whose arguments and results are closed values: definitions and how they last while memory grows. Abstract values with boxes and spare room, the state, and what it says of a world;  -/
import Derived.Calls
import Derived.Laws.Entries
import Derived.Laws.Cells
import Derived.Laws.Strings
import Derived.Orders
set_option linter.unusedSimpArgs false
set_option linter.unusedVariables false
namespace Go.cq
theorem bn{p:Prop}(h:p:=by omega):p:=h
theorem cc{p:Prop}(h:p:=by decide):p:=h
theorem cm{p:Prop}(h:p:=by show List.length q<=_;omega):p:=h
theorem c9{p:Prop}(h:p:=by simp):p:=h
theorem dZ{p:Prop}(h:p:=by simp only[aac];omega):p:=h
theorem ek{p:Prop}(h:p:=by simp only[eG,dP,ff,gU,iG,aJ];omega):p:=h
theorem fc{p:Prop}(h:p:=by show args.length-(i+1)<args.length-i;omega):p:=h
theorem fe{p:Prop}(h:p:=by simp[au]):p:=h
theorem fk{p:Prop}(h:p:=by show List.length (aO T K::aO P Y::q)<=_;simp only[aac];omega):p:=h
theorem gp{p:Prop}(h:p:=by have:=(G (.mk T us) (by simp)).2;omega):p:=h
theorem gC{p:Prop}(h:p:=by simp only[eG,dP,ff,aJ];omega):p:=h
theorem gS{p:Prop}(h:p:=by unfold bP;omega):p:=h
theorem iq{p:Prop}(h:p:=by simp[Op.operands]):p:=h
theorem jb{p:Prop}(h:p:=by show List.length (aO 3 n::q)<=_;simp only[aac];omega):p:=h
theorem j0{p:Prop}(h:p:=by simp only[bA,aY];omega):p:=h
theorem kN{p:Prop}(h:p:=by rw[ho];simp[Op.operands]):p:=h
theorem lf{p:Prop}(h:p:=by simp only[Nat.min_def];split<;>omega):p:=h
theorem lq{p:Prop}(h:p:=by simp[Act.eval,Act.put]):p:=h
theorem lD{p:Prop}(h:p:=by simp;omega):p:=h
theorem mc{p:Prop}(h:p:=by show List.length (aO 2 n::aO 2 Y::q)<=_;simp only[aac];omega):p:=h
theorem nt{p:Prop}(h:p:=by show List.length (v::q)<=_;simp only[aac];omega):p:=h
theorem nu{p:Prop}(h:p:=by simpa using h):p:=h
theorem ob{p:Prop}(h:p:=by simp[eqGuard_at_pointer,nR,nT,jW H,run_equal_nil_nil H]):p:=h
theorem oe{p:Prop}(h:p:=by simp[h]):p:=h
theorem ot{p:Prop}(h:p:=by simp[aK,Rel]):p:=h
theorem oy{p:Prop}(h:p:=by simp only;omega):p:=h
theorem p8{p:Prop}(h:p:=by rw[BM]at hj;omega):p:=h
theorem qD{p:Prop}(h:p:=by rw[ho];simp only[Op.operands,Call.operands,Array.toList_append,List.mem_append];exact .inr hx):p:=h
theorem ri{p:Prop}(h:p:=by show List.length (Vl.mk 6 0 0 Y [] [] [] :: .mk 6 0 0 Q [] [] []::q)<=_;simp only[aac];omega):p:=h
theorem rj{p:Prop}(h:p:=by show List.length (aO 5 K::aO 5 Y::q)<=_;simp only[aac];omega):p:=h
theorem sk{p:Prop}(h:p:=by have:=bB O;omega):p:=h
theorem sx{p:Prop}(h:p:=by simp only[aas,aac,aad];omega):p:=h
theorem sy{p:Prop}(h:p:=by simp only;have:=S.1;simp only at this;omega):p:=h
theorem tN{p:Prop}(h:p:=by rw[hd];exact k):p:=h
theorem uf{p:Prop}(h:p:=by simp only[aq,aac];omega):p:=h
theorem uO{p:Prop}(h:p:=by simp only[xw];exact⟨Wk.refl _,by unfold Wk;exact .inr ⟨rfl,rfl⟩,trivial⟩):p:=h
theorem u5{p:Prop}(h:p:=by show List.length (bz x y::q)<=_;simp only[aac];omega):p:=h
theorem u6{p:Prop}(h:p:=by show l.length-(i+1)<l.length-i;omega):p:=h
theorem u7{p:Prop}(h:p:=by have:=bB hx;omega):p:=h
theorem xu{p:Prop}(h:p:=by rw[H];exact k):p:=h
theorem Ab{p:Prop}(h:p:=by simpa using h2):p:=h
theorem BI{p:Prop}(h:p:=by simpa only[aK]using h2):p:=h
theorem B9{p:Prop}(h:p:=by have:=W.2;simp only[cB,aM,aJ,aY,aU,aad];omega):p:=h
theorem C1{p:Prop}(h:p:=by show List.length (Vl.mk 6 0 0 Y [] [] []::q)<=_;simp only[aac];omega):p:=h
theorem DM{p:Prop}(h:p:=by simp[CV.cells,CV.one]):p:=h
theorem EF{p:Prop}(h:p:=by show List.length (Vl.mk D K C U W H Q::q)<=_;simp only[aac];omega):p:=h
theorem EV{p:Prop}(h:p:=by simp only[aac,aad];omega):p:=h
theorem Fw{p:Prop}(h:p:=by rw[ho];simp only[Op.operands,List.mem_map];exact⟨p,hp,rfl⟩):p:=h
theorem Hh{p:Prop}(h:p:=by show st.length<=_;omega):p:=h
theorem Jm{p:Prop}(h:p:=by have:=cz (l:=[u,u']) (x:=w) (by simp at J ⊢;simp[J]);omega):p:=h
theorem Jw{p:Prop}(h:p:=by show((acc++[_]).length:Int)<=N;simp only[aas,aac,aad];omega):p:=h
theorem JM{p:Prop}(h:p:=by rwa[List.getElem?_drop]at hj):p:=h
theorem J6{p:Prop}(h:p:=by rw[hvl]at hj;omega):p:=h
theorem K0{p:Prop}(h:p:=by rw[ho];simp[Op.operands,Call.operands]):p:=h
theorem Mf{p:Prop}(h:p:=by simp[au,Ne.symm q,Ne.symm J]):p:=h
theorem MD{p:Prop}(h:p:=by show List.length st<=_;omega):p:=h
theorem N2{p:Prop}(h:p:=by have:=(of_decide_eq_true h.1).2;omega):p:=h
theorem Of{p:Prop}(h:p:=by show b≠w.heap.size;omega):p:=h
theorem Og{p:Prop}(h:p:=by simp[Rel]):p:=h
theorem Oh{p:Prop}(h:p:=by unfold Wk;exact .inr ⟨rfl,rfl⟩):p:=h
theorem Oi{p:Prop}(h:p:=by rw[aas,aac,List.length_take,List.length_drop];omega):p:=h
theorem Ot{p:Prop}(h:p:=by rw[aaH];omega):p:=h
theorem O3{p:Prop}(h:p:=by simp only[aac]at p;omega):p:=h
theorem PM{p:Prop}(h:p:=by rw[Array.size_append,List.size_toArray,CK];omega):p:=h
theorem PN{p:Prop}(h:p:=by have:=congrArg List.length hq;simp at this;omega):p:=h
theorem P9{p:Prop}(h:p:=by simp[h1]):p:=h
theorem QC{p:Prop}(h:p:=by simp only[aK];exact⟨us.toList,by simp,f2,f3⟩):p:=h
theorem Q2{p:Prop}(h:p:=by rw[aas,List.length_take,List.length_drop];omega):p:=h
theorem Q3{p:Prop}(h:p:=by have:=(List.getElem?_eq_some_iff.1 hy).1;omega):p:=h
theorem Q9{p:Prop}(h:p:=by simpa only[aK]using h1):p:=h
theorem Rl{p:Prop}(h:p:=by rw[if_neg (by omega)];exact h6):p:=h
theorem RN{p:Prop}(h:p:=by rw[br];unfold bP;omega):p:=h
theorem R5{p:Prop}(h:p:=by show s.length+cI J<=400;omega):p:=h
theorem R7{p:Prop}(h:p:=by simp[eqGuard_at_bool,uY,uZ,run_equal_bool H]):p:=h
theorem Sf{p:Prop}(h:p:=by simp at J ⊢;simp[J]):p:=h
theorem Sg{p:Prop}(h:p:=by simp[bA,aY]):p:=h
theorem Sv{p:Prop}(h:p:=by have:=dO O;omega):p:=h
theorem Sw{p:Prop}(h:p:=by simpa using Y):p:=h
theorem SB{p:Prop}(h:p:=by have:=er O;omega):p:=h
theorem SD{p:Prop}(h:p:=by simp only[aas,aac,aad,List.drop_zero];omega):p:=h
theorem SF{p:Prop}(h:p:=by simp only[aac,aad]at *;omega):p:=h
theorem Td{p:Prop}(h:p:=by show acc.length<=i+1;omega):p:=h
theorem Tf{p:Prop}(h:p:=by simp[Builtin.len_,H,goInt]):p:=h
theorem Tp{p:Prop}(h:p:=by subst hy;simp[Op.operands]):p:=h
theorem TW{p:Prop}(h:p:=by rw[j8];rfl):p:=h
theorem T1{p:Prop}(h:p:=by split at h1<;>omega):p:=h
theorem Ue{p:Prop}(h:p:=by simp only[aac]at hq;omega):p:=h
theorem Um{p:Prop}(h:p:=by simpa using h1):p:=h
theorem Un{p:Prop}(h:p:=by rw[fE]):p:=h
theorem Uu{p:Prop}(h:p:=by decide +kernel):p:=h
theorem Ux{p:Prop}(h:p:=by simp[au,Ne.symm S]):p:=h
theorem Uy{p:Prop}(h:p:=by simp[hargs]):p:=h
theorem U7{p:Prop}(h:p:=by unfold kY at qt;exact qt):p:=h
theorem VA{p:Prop}(h:p:=by show 0<=u+1;omega):p:=h
theorem VE{p:Prop}(h:p:=by show u+1<=g;omega):p:=h
theorem VI{p:Prop}(h:p:=by simpa using C):p:=h
theorem V6{p:Prop}(h:p:=by rw[p];simp[Op.operands]):p:=h
theorem We{p:Prop}(h:p:=by simpa only[aK]using h3):p:=h
theorem Wf{p:Prop}(h:p:=by rw[Q];simp):p:=h
theorem Wj{p:Prop}(h:p:=by simp[g']):p:=h
theorem Wl{p:Prop}(h:p:=by rw[l1,k1];exact aak _):p:=h
theorem Ws{p:Prop}(h:p:=by simp[CV.cells,bL,Rel]):p:=h
theorem WB{p:Prop}(h:p:=by rw[Ml];exact n4):p:=h
theorem WI{p:Prop}(h:p:=by simp only[aas];omega):p:=h
theorem WL{p:Prop}(h:p:=by rw[hvl];omega):p:=h
theorem W0{p:Prop}(h:p:=by rw[l2,k2];rfl):p:=h
theorem W3{p:Prop}(h:p:=by rw[l3,k3];rfl):p:=h
theorem W4{p:Prop}(h:p:=by rw[l4,k4];rfl):p:=h
theorem Xb{p:Prop}(h:p:=by rw[Bt]):p:=h
theorem Xp{p:Prop}(h:p:=by rw[e]):p:=h
theorem Xt{p:Prop}(h:p:=by simp[H]):p:=h
theorem Xu{p:Prop}(h:p:=by exact AK.again (ih (i+1) ⟨bB hx,hinv⟩ (by have:=bB hx;omega)) ⟨.inl (iE (by have:=bB hx;omega)),.inl rfl,.inl rfl,.inl rfl,trivial⟩ trivial trivial rfl rfl rfl):p:=h
theorem XS{p:Prop}(h:p:=by exact ih (i+1,acc++[(Vl.mk 11 0 0 [] q [] [])],false) ⟨h2,by simp[H],W,(by simpa using Y)⟩ (by show args.length-(i+1)<args.length-i;omega)):p:=h
theorem X2{p:Prop}(h:p:=by exact bD (fX (dD (by simp only[bA,aY];omega) (fun t h=>I t (by simp[h])))) (bX _)):p:=h
theorem X6{p:Prop}(h:p:=by exact Src.ofSlice w ts ⟨vb,vo,none⟩ m vc vs hvl (fun j u hj=>by rw[Addr.add_lit];exact hvs j u hj) BL):p:=h
theorem X9{p:Prop}(h:p:=by exact fun k n b lo hi h1 h2 => .inr ⟨k,n,lo,hi,h1,h2,aak _,aak _⟩):p:=h
theorem Ya{p:Prop}(h:p:=by exact OY hf rfl rfl rfl rfl rfl rfl rfl rfl rfl):p:=h
theorem Ye{p:Prop}(h:p:=by exact congrArg (fun l=>[LV.own 1 l]) (bZ rows acc _ _ (by rw[iO _ (by omega)]))):p:=h
theorem Yk{p:Prop}(h:p:=by exact AK.BS Tryz.hX hf (l:=[.own .exact 7 []]) rfl [] rfl rfl trivial):p:=h
theorem aac{α:Type}{a:α}{l:List α}:(a::l).length=l.length+1:=List.length_cons
theorem aad{α:Type}:([]:List α).length=0:=List.length_nil
theorem aag{α:Type}{a:α}{l:List α}{d:α}:(a::l).getD 0 d=a:=List.getD_cons_zero
theorem aah{α:Type}{a:α}{l:List α}{n:Nat}{d:α}:(a::l).getD (n+1) d=l.getD n d:=List.getD_cons_succ
theorem aai(a b:Bool):((a&&b)=true)=(a=true/\b=true):=Bool.and_eq_true a b
theorem aak(n:Nat):n<=n:=Nat.le_refl n
theorem aam{p:Prop}[Decidable p](h:p):decide p=true:=decide_eq_true h
theorem aan{p:Prop}[Decidable p](h:¬p):decide p=false:=decide_eq_false h
theorem aas{α:Type}{a b:List α}:(a++b).length=a.length+b.length:=List.length_append
theorem aat(a b:Bool):((a||b)=true)=(a=true\/b=true):=Bool.or_eq_true a b
theorem aaw{α:Type}{l:List α}{i:Nat}{a:α}(h:l[i]?=some a):a∈l:=List.mem_of_getElem? h
theorem aax(n:Nat):((n:Int)).toNat=n:=Int.toNat_natCast n
theorem aaH{α:Type}{l:List α}:l.reverse.length=l.length:=List.length_reverse
inductive CV where
 | int (k:IntKind) (n:Int)
 | bool (b:Bool)
 | str (s:List UInt8)
 | lO
 | undef
 | sl (s:Nat) (rows:List CV)
 | agg (cs:List CV)
 | ip (cs:List CV)
 | rM (f:FuncId) (caps:List CV)
 | gy (cs:List CV)
 | any
 | qG
 deriving Inhabited
def CV.cells:CV->List CV
 | .agg cs=>cs
 | v=>[v]
def CV.one:CV->Bool
 | .agg _ | .gy _ | .undef=>false
 | _=>true
abbrev jk:=Nat->Nat->Option Value
mutual
def Rel (G:jk):CV->Value->Prop
 | .int k n,v=>v = .int k n
 | .bool b,v=>v = .bool b
 | .str s,v=>v = .string ⟨s.toArray⟩
 | .lO,v=>v = .pointer none
 | .undef,v=>v=Go.undef
 | .sl s rows,v=>∃base Y I,v = .slice base Y I/\Y=rows.length/\Y<=I /\
   (rows=[]\/∃b o,base=some ⟨b,o,none⟩/\eX G s b o rows)
 | .agg cs,v=>∃vs:List Value,v = .agg vs.toArray/\bL G cs vs/\cs.all CV.one=true
 | .ip cs,v=>∃b o,v = .pointer (some ⟨b,o,none⟩)/\cN G b o cs
 | .rM f W,v=>∃vs:List Value,v = .func (.func f) #[] vs.toArray/\bL G W vs
 | .gy cs,v=>∃vs:List Value,v = .tuple vs.toArray/\bL G cs vs/\2<=cs.length
 | .any,v=>(∀vs,v ≠ .agg vs)/\∀vs,v ≠ .tuple vs
 | .qG,v=>∃x,v = .bool x
def bL (G:jk):List CV->List Value->Prop
 | [],vs=>vs=[]
 | c::cs,vs=>∃u us,vs=u::us/\Rel G c u/\bL G cs us
def cN (G:jk):Nat->Nat->List CV->Prop
 | _,_,[]=>True
 | b,o,c::cs=>(∃u,G b o=some u/\Rel G c u/\c.one=true)/\cN G b (o+1) cs
def oG (G:jk):Nat->Nat->CV->Prop
 | b,o,.agg cs=>cN G b o cs
 | b,o,.int k n=>G b o=some (.int k n)
 | b,o,.bool x=>G b o=some (.bool x)
 | b,o,.str s=>G b o=some (.string ⟨s.toArray⟩)
 | b,o,.lO=>G b o=some (.pointer none)
 | _,_,.undef=>False
 | b,o,.sl s rows=>∃base Y I,G b o=some (.slice base Y I)/\Y=rows.length/\Y<=I /\
   (rows=[]\/∃P O,base=some ⟨P,O,none⟩/\eX G s P O rows)
 | b,o,.ip cs=>∃P O,G b o=some (.pointer (some ⟨P,O,none⟩))/\cN G P O cs
 | b,o,.rM f W=>∃vs:List Value,G b o=some (.func (.func f) #[] vs.toArray)/\bL G W vs
 | _,_,.gy _=>False
 | b,o,.any=>∃v,G b o=some v/\(∀vs,v ≠ .agg vs)/\∀vs,v ≠ .tuple vs
 | b,o,.qG=>∃x,G b o=some (.bool x)
def eX (G:jk):Nat->Nat->Nat->List CV->Prop
 | _,_,_,[]=>True
 | s,b,o,r::rs=>oG G b o r/\r.cells.length=s/\eX G s b (o+s) rs
end
theorem yU (G:jk) (b o:Nat) (r:CV):oG G b o r↔cN G b o r.cells:=by
 cases r with
 | sl s rows =>
  simp only[oG,CV.cells,cN,CV.one,Rel,and_true];constructor
  ·grind
  ·simp_all
 | ip cs =>
  simp only[oG,CV.cells,cN,CV.one,Rel,and_true];constructor
  ·grind
  ·simp_all
 | rM f W =>
  simp only[oG,CV.cells,cN,CV.one,Rel,and_true];constructor
  ·simp_all
  ·simp_all
 | qG =>
  simp only[oG,CV.cells,cN,CV.one,Rel,and_true];constructor
  ·grind
  ·simp_all
 | _=>simp[oG,CV.cells,cN,CV.one,Rel]
def jk.le (G u:jk):Prop:=∀b o v,G b o=some v->u b o=some v
theorem jk.le.refl (G:jk):G.le G:=fun _ _ _ h=>h
theorem jk.le.trans {G u Y:jk} (h:G.le u) (E:u.le Y):G.le Y:=fun b o v x=>E b o v (h b o v x)
mutual
theorem Rel.mono {G Y:jk} (h:G.le Y):∀(c:CV) (v:Value),Rel G c v->Rel Y c v
 | .int _ _,_,x=>by simpa[Rel]using x
 | .bool _,_,x=>by simpa[Rel]using x
 | .str _,_,x=>by simpa[Rel]using x
 | .lO,_,x=>by simpa[Rel]using x
 | .undef,_,x=>by simpa[Rel]using x
 | .sl s rows,v,x=>by
  simp only[Rel]at x ⊢;obtain⟨base,V,M,e,A,E,I⟩:=x;exact⟨base,V,M,e,A,E,I.imp id fun⟨b,o,T,I⟩=>⟨b,o,T,eX.mono h s b o rows I⟩⟩
 | .agg cs,v,x=>by
  simp only[Rel]at x ⊢;obtain⟨vs,e,I,p⟩:=x;exact⟨vs,e,bL.mono h cs vs I,p⟩
 | .ip cs,v,x=>by
  simp only[Rel]at x ⊢;obtain⟨b,o,e,I⟩:=x;exact⟨b,o,e,cN.mono h b o cs I⟩
 | .rM f W,v,x=>by
  simp only[Rel]at x ⊢;obtain⟨vs,e,I⟩:=x;exact⟨vs,e,bL.mono h W vs I⟩
 | .gy cs,v,x=>by
  simp only[Rel]at x ⊢;obtain⟨vs,e,I,p⟩:=x;exact⟨vs,e,bL.mono h cs vs I,p⟩
 | .any,_,x=>by simp only[Rel]at x ⊢;exact x
 | .qG,_,x=>by simp only[Rel]at x ⊢;exact x
theorem bL.mono {G Y:jk} (h:G.le Y):∀(cs:List CV) (vs:List Value),bL G cs vs->bL Y cs vs
 | [],_,x=>by simpa[bL]using x
 | c::cs,vs,x=>by
  simp only[bL]at x ⊢;obtain⟨u,us,e,E,I⟩:=x;exact⟨u,us,e,Rel.mono h c u E,bL.mono h cs us I⟩
theorem cN.mono {G Y:jk} (h:G.le Y):∀(b o:Nat) (cs:List CV),cN G b o cs->cN Y b o cs
 | _,_,[],_=>by simp[cN]
 | b,o,c::cs,x=>by
  simp only[cN]at x ⊢;obtain⟨⟨u,U,E,p⟩,I⟩:=x;exact⟨⟨u,h b o u U,Rel.mono h c u E,p⟩,cN.mono h b (o+1) cs I⟩
theorem oG.mono {G Y:jk} (h:G.le Y):∀(b o:Nat) (r:CV),oG G b o r->oG Y b o r
 | b,o,.agg cs,x=>by simp only[oG]at x ⊢;exact cN.mono h b o cs x
 | b,o,.int _ _,x=>by simp only[oG]at x ⊢;exact h _ _ _ x
 | b,o,.bool _,x=>by simp only[oG]at x ⊢;exact h _ _ _ x
 | b,o,.str _,x=>by simp only[oG]at x ⊢;exact h _ _ _ x
 | b,o,.lO,x=>by simp only[oG]at x ⊢;exact h _ _ _ x
 | _,_,.undef,x=>by simp[oG]at x
 | b,o,.sl s rows,x=>by
  simp only[oG]at x ⊢;obtain⟨base,V,M,e,A,E,I⟩:=x;exact⟨base,V,M,h _ _ _ e,A,E,I.imp id fun⟨b,o,T,I⟩=>⟨b,o,T,eX.mono h s b o rows I⟩⟩
 | b,o,.ip cs,x=>by
  simp only[oG]at x ⊢;obtain⟨P,O,e,I⟩:=x;exact⟨P,O,h _ _ _ e,cN.mono h P O cs I⟩
 | b,o,.rM f W,x=>by
  simp only[oG]at x ⊢;obtain⟨vs,e,I⟩:=x;exact⟨vs,h _ _ _ e,bL.mono h W vs I⟩
 | _,_,.gy _,x=>by simp[oG]at x
 | b,o,.any,x=>by
  simp only[oG]at x ⊢;obtain⟨v,e,I⟩:=x;exact⟨v,h _ _ _ e,I⟩
 | b,o,.qG,x=>by
  simp only[oG]at x ⊢;obtain⟨v,e⟩:=x;exact⟨v,h _ _ _ e⟩
theorem eX.mono {G Y:jk} (h:G.le Y):∀(s b o:Nat) (rs:List CV),eX G s b o rs->eX Y s b o rs
 | _,_,_,[],_=>by simp[eX]
 | s,b,o,r::rs,x=>by
  simp only[eX]at x ⊢;exact⟨oG.mono h b o r x.1,x.2.1,eX.mono h s b (o+s) rs x.2.2⟩
end
end Go.cq
namespace Go.cq
inductive Vd where
 | exact
 | tok (key n:Nat)
 deriving Inhabited
inductive AV where
 | c (v:CV)
 | own (k:Vd) (s:Nat) (rows:List CV)
 | ptr (key off:Nat)
 | gv (key off s n:Nat)
 | any
 | agg (cs:List AV)
 | gy (cs:List AV)
 deriving Inhabited
def AV.one:AV->Bool
 | .c v=>v.one
 | .own .. | .ptr .. | .gv .. | .any=>true
 | .agg _ | .gy _=>false
structure Gh where
 G:jk
 box:Nat->Option Nat
 tok:Nat->Option (Nat×Option (Nat×Nat×Nat))
 room:Nat->Nat
def kH (G:jk) (s:Nat) (base:Option Addr) (rows:List CV):Prop :=
 rows=[]\/∃b o,base=some ⟨b,o,none⟩/\eX G s b o rows
def pS (g:Gh) (s:Nat) (base:Option Addr) (Y I:Nat):Vd->Prop
 | .exact=>I=Y
 | .tok u n=>∃O A,g.tok u=some (O,A)/\n<=O/\(O=n->I=Y \/
   ∃b S W o,A=some (b,S,W)/\base=some ⟨b,o,none⟩/\S=o+Y*s/\W=o+I*s/\Y<=I)
mutual
def aK (g:Gh):AV->Value->Prop
 | .c v,x=>Rel g.G v x
 | .own k s rows,x=>∃base Y I,x = .slice base Y I/\Y=rows.length/\Y<=I/\kH g.G s base rows/\pS g s base Y I k
 | .ptr W off,x=>∃b,g.box W=some b/\x = .pointer (some ⟨b,off,none⟩)
 | .gv W off s n,x=>∃b I o,g.box W=some b/\x = .slice o n I/\n<=I/\off+I*s<=g.room W/\(I=0\/o=some ⟨b,off,none⟩)
 | .any,x=>(∀vs,x ≠ .agg vs)/\∀vs,x ≠ .tuple vs
 | .agg cs,x=>∃vs:List Value,x = .agg vs.toArray/\bF g cs vs/\cs.all AV.one=true
 | .gy cs,x=>∃vs:List Value,x = .tuple vs.toArray/\bF g cs vs/\2<=cs.length
def bF (g:Gh):List AV->List Value->Prop
 | [],vs=>vs=[]
 | c::cs,vs=>∃u us,vs=u::us/\aK g c u/\bF g cs us
end
def Gh.le (g g':Gh):Prop :=
 g.G.le g'.G/\(∀k b,g.box k=some b->g'.box k=some b)/\(∀k b,g.box k=some b->g'.room k=g.room k) /\
 ∀k O A,g.tok k=some (O,A)->∃Y W,g'.tok k=some (Y,W)/\O<=Y/\(Y=O->W=A)
theorem Gh.le.refl (g:Gh):g.le g:=⟨jk.le.refl _,fun _ _ h=>h,fun _ _ _=>rfl,fun _ O A h=>⟨O,A,h,aak _,fun _=>rfl⟩⟩
theorem Gh.le.trans {g g' B:Gh} (h:g.le g') (E:g'.le B):g.le B:=by
 refine⟨h.1.trans E.1,fun k b x=>E.2.1 k b (h.2.1 k b x),fun k b x=>(E.2.2.1 k b (h.2.1 k b x)).trans (h.2.2.1 k b x),fun k O A x=>?_⟩;obtain⟨S,Y,N,P,C⟩:=h.2.2.2 k O A x;obtain⟨V,W,T,q,U⟩:=E.2.2.2 k S Y N;refine⟨V,W,T,Nat.le_trans P q,fun e=>?_⟩;have:V=S:=by omega
 rw[U this,C bn]
theorem kH.mono {G u:jk} (h:G.le u) {s:Nat} {base:Option Addr} {rows:List CV} (x:kH G s base rows):kH u s base rows :=
 x.imp id fun⟨b,o,e,r⟩=>⟨b,o,e,eX.mono h s b o rows r⟩
theorem pS.mono {g g':Gh} (h:g.le g') {s:Nat} {base:Option Addr} {G I:Nat}:∀{k:Vd},pS g s base G I k->pS g' s base G I k
 | .exact,x=>x
 | .tok u n,⟨O,A,e,V,M⟩=>by
  obtain⟨W,U,e',p,Y⟩:=h.2.2.2 u O A e;refine⟨W,U,e',Nat.le_trans V p,fun T=>?_⟩;have C:W=O:=by omega
  rw[Y C];exact M bn
mutual
theorem aK.mono {g g':Gh} (h:g.le g'):∀(a:AV) (v:Value),aK g a v->aK g' a v
 | .c v,x,r=>by simp only[aK]at r ⊢;exact Rel.mono h.1 v x r
 | .own k s rows,x,r=>by
  simp only[aK]at r ⊢;obtain⟨base,Y,I,e,A,E,M,p⟩:=r;exact⟨base,Y,I,e,A,E,M.mono h.1,p.mono h⟩
 | .ptr W off,x,r=>by
  simp only[aK]at r ⊢;obtain⟨b,G,e⟩:=r;exact⟨b,h.2.1 _ _ G,e⟩
 | .gv W off s n,x,r=>by
  simp only[aK]at r ⊢;obtain⟨b,I,o,G,e,h1,h2,V⟩:=r;exact⟨b,I,o,h.2.1 _ _ G,e,h1,by rw[h.2.2.1 _ _ G];exact h2,V⟩
 | .any,x,r=>by simp only[aK]at r ⊢;exact r
 | .agg cs,x,r=>by
  simp only[aK]at r ⊢;obtain⟨vs,e,M,p⟩:=r;exact⟨vs,e,bF.mono h cs vs M,p⟩
 | .gy cs,x,r=>by
  simp only[aK]at r ⊢;obtain⟨vs,e,M,p⟩:=r;exact⟨vs,e,bF.mono h cs vs M,p⟩
theorem bF.mono {g g':Gh} (h:g.le g'):∀(cs:List AV) (vs:List Value),bF g cs vs->bF g' cs vs
 | [],_,r=>by simpa[bF]using r
 | c::cs,vs,r=>by
  simp only[bF]at r ⊢;obtain⟨u,us,e,E,M⟩:=r;exact⟨u,us,e,aK.mono h c u E,bF.mono h cs us M⟩
end
def ak {α:Type} (k:Nat):List (Nat×α)->Option α
 | []=>none
 | (j,x)::l=>match Nat.beq j k with
  | true=>some x
  | false=>ak k l
def BT {α:Type} (k:Nat):List (Nat×α)->List (Nat×α)
 | []=>[]
 | (j,x)::l=>match Nat.beq j k with
  | true=>BT k l
  | false=>(j,x)::BT k l
def uj {α:Type} (k:Nat) (y:α):List (Nat×α)->List (Nat×α)
 | []=>[(k,y)]
 | (j,x)::l=>match Nat.beq j k with
  | true=>(j,y)::l
  | false=>(j,x)::uj k y l
def xd {α:Type} (k:Nat) (y:α):List (Nat×α)->Option (List (Nat×α))
 | []=>some [(k,y)]
 | (j,x)::l=>match Nat.beq j k with
  | true=>some ((j,y)::l)
  | false=>match xd k y l with
   | some r=>some ((j,x)::r)
   | none=>none
theorem si {α:Type} (k:Nat) (y:α):∀(l:List (Nat×α)),xd k y l=some (uj k y l)
 | []=>rfl
 | (j,x)::l=>by
  simp only[xd,uj,si k y l];split<;>rfl
theorem beq_true {j k:Nat} (h:Nat.beq j k=true):j=k:=Nat.eq_of_beq_eq_true h
theorem beq_false {j k:Nat} (h:Nat.beq j k=false):j≠k:=Nat.ne_of_beq_eq_false h
theorem jM {α:Type} (k j:Nat) (l:List (Nat×α)):ak j (BT k l)=if j=k then none else ak j l:=by
 induction l with
 | nil=>simp[BT,ak]
 | cons x l S =>
  obtain⟨i,x⟩:=x;simp only[BT];split
  ·rename_i h;have:=beq_true h;subst this;rw[S];split
   ·rfl
   ·rename_i q;simp only[ak];split
    ·simp_all
    ·rfl
  ·rename_i h;have q:=beq_false h;simp only[ak];split
   ·simp_all
   ·rw[S]
theorem ew {α:Type} (k j:Nat) (y:α) (l:List (Nat×α)):ak j (uj k y l)=if j=k then some y else ak j l:=by
 induction l with
 | nil =>
  simp only[uj,ak];split
  ·simp_all
  ·rename_i h;have:=beq_false h;rw[if_neg (fun e=>this e.symm)]
 | cons x l S =>
  obtain⟨i,x⟩:=x;simp only[uj];split
  ·rename_i h;have:=beq_true h;subst this;simp only[ak];split
   ·simp_all
   ·grind
  ·rename_i h;have q:=beq_false h;simp only[ak];split
   ·simp_all
   ·rw[S]
structure St where
 boxes:List (Nat×List AV)
 toks:List (Nat×Nat)
 used:List Nat
 deriving Inhabited
def cr (w:World) (g:Gh) (b:Nat):Nat->List AV->Prop
 | _,[]=>True
 | o,c::cs=>(∃u,w.cell? ⟨b,o,none⟩=some u/\aK g c u/\c.one=true)/\w.frozen? ⟨b,o,none⟩=false/\cr w g b (o+1) cs
theorem cr.mono {w:World} {g g':Gh} (h:g.le g') {b:Nat}:∀{o:Nat} {cs:List AV},cr w g b o cs->cr w g' b o cs
 | _,[],_=>trivial
 | _,_::_,⟨⟨u,A,I,p⟩,hf,pT⟩=>⟨⟨u,A,aK.mono h _ _ I,p⟩,hf,cr.mono h pT⟩
theorem cr.of_same {w w':World} {g:Gh} {b:Nat} (h:∀o,w'.cell? ⟨b,o,none⟩=w.cell? ⟨b,o,none⟩/\w'.frozen? ⟨b,o,none⟩=w.frozen? ⟨b,o,none⟩) :
  ∀{o:Nat} {cs:List AV},cr w g b o cs->cr w' g b o cs
 | _,[],_=>trivial
 | _,_::_,⟨⟨u,A,I,p⟩,hf,pT⟩=>⟨⟨u,(h _).1.trans A,I,p⟩,(h _).2.trans hf,cr.of_same h pT⟩
structure Inv (w:World) (g:Gh) (σ:St):Prop where
 oI:∀b o v,g.G b o=some v->w.cell? ⟨b,o,none⟩=some v
 box:∀k cs,ak k σ.boxes=some cs->∃b,g.box k=some b/\b<w.heap.size/\(∀o,g.G b o=none)/\cr w g b 0 cs
 fB:∀k k' cs cs' b,ak k σ.boxes=some cs->ak k' σ.boxes=some cs'->g.box k=some b->g.box k'=some b->k=k'
 tok:∀k n,ak k σ.toks=some n->∃fS,g.tok k=some (n,fS)/\∀b lo hi,fS=some (b,lo,hi)->b<w.heap.size /\
  (∀o,lo<=o->o<hi->g.G b o=none/\(∃u,w.cell? ⟨b,o,none⟩=some u)/\w.frozen? ⟨b,o,none⟩=false) /\
  ∀k' cs,ak k' σ.boxes=some cs->g.box k'≠some b
 gw:∀k k' n n' b lo hi lo' hi',ak k σ.toks=some n->ak k' σ.toks=some n' ->
  g.tok k=some (n,some (b,lo,hi))->g.tok k'=some (n',some (b,lo',hi'))->k=k'
 used:∀k,g.box k≠none\/g.tok k≠none->k∈σ.used
 room:∀k cs b,ak k σ.boxes=some cs->g.box k=some b->∀o,(o<g.room k->∃u,w.cell? ⟨b,o,none⟩=some u)/\w.frozen? ⟨b,o,none⟩=false
theorem Inv.Wt {w:World} {g:Gh} {σ:St} (T:Inv w g σ) (k:Nat) (cs:List AV) (b:Nat) (e:ak k σ.boxes=some cs) (G:g.box k=some b) (o:Nat) (p:o<g.room k):(∃u,w.cell? ⟨b,o,none⟩=some u)/\w.frozen? ⟨b,o,none⟩=false :=
 ⟨(T.room k cs b e G o).1 p,(T.room k cs b e G o).2⟩
theorem Inv.Ai {w w':World} {g:Gh} {σ:St} (T:Inv w g σ) (h:∀k cs b,ak k σ.boxes=some cs->g.box k=some b->b<w.heap.size->∀o,w'.cell? ⟨b,o,none⟩=w.cell? ⟨b,o,none⟩/\w'.frozen? ⟨b,o,none⟩=w.frozen? ⟨b,o,none⟩) :
  ∀k cs b,ak k σ.boxes=some cs->g.box k=some b->∀o,(o<g.room k->∃u,w'.cell? ⟨b,o,none⟩=some u)/\w'.frozen? ⟨b,o,none⟩=false:=by
 intro k cs b e G o;obtain⟨P,h1,h2,_⟩:=T.box k cs e;rw[G]at h1;cases h1;obtain⟨V,Y⟩:=T.room k cs b e G o;have:=h k cs b e G h2 o;exact⟨fun p=>(V p).imp fun u A=>this.1.trans A,this.2.trans Y⟩
def iJ (g:Gh) (σ:St) (b o:Nat):Prop :=
 (∃k cs,ak k σ.boxes=some cs/\g.box k=some b) \/
 ∃k n S W,ak k σ.toks=some n/\g.tok k=some (n,some (b,S,W))/\S<=o/\o<W
structure gQ (w:World) (g:Gh) (σ:St) (w':World) (g':Gh) (σ':St):Prop where
 os:w'.os=w.os
 tape:w'.tape=w.tape
 output:w'.output=w.output
 size:w.heap.size<=w'.heap.size
 block:∀b,b<w.heap.size->(∀o,¬iJ g σ b o)->w'.heap[b]?=w.heap[b]?
 kept:∀b o,b<w.heap.size->¬iJ g σ b o->w'.cell? ⟨b,o,none⟩=w.cell? ⟨b,o,none⟩/\w'.frozen? ⟨b,o,none⟩=w.frozen? ⟨b,o,none⟩
 le:g.G.le g'.G
 new:∀b o v,g'.G b o=some v->g.G b o=some v\/w.heap.size<=b\/iJ g σ b o
 boxes:∀k cs b,ak k σ'.boxes=some cs->g'.box k=some b->w.heap.size<=b\/∃k0 cs0,ak k0 σ.boxes=some cs0/\g.box k0=some b
 toks:∀k n b lo hi,ak k σ'.toks=some n->g'.tok k=some (n,some (b,lo,hi))->w.heap.size<=b \/
  ∃k0 n0 EE qu,ak k0 σ.toks=some n0/\g.tok k0=some (n0,some (b,EE,qu))/\EE<=lo/\hi<=qu
 ids:∀k,1000000<=k->ak k σ'.boxes≠none->ak k σ.boxes≠none/\g'.box k=g.box k/\g'.room k=g.room k
theorem gQ.owned {w w':World} {g g':Gh} {σ u:St} (h:gQ w g σ w' g' u) {b o:Nat} (p:iJ g' u b o):w.heap.size<=b\/iJ g σ b o:=by
 rcases p with ⟨k,cs,h1,h2⟩|⟨k,n,S,I,h1,h2,P,T⟩
 ·exact(h.boxes k cs b h1 h2).imp id fun⟨Y,W,e⟩ => .inl ⟨Y,W,e⟩
 ·exact(h.toks k n b S I h1 h2).imp id fun⟨Y,V,U,E,C,K,B,Q⟩ => .inr ⟨Y,V,U,E,C,K,bn,bn⟩
theorem gQ.refl (w:World) (g:Gh) (σ:St):gQ w g σ w g σ where
 os:=rfl
 tape:=rfl
 output:=rfl
 size:=aak _
 block:=fun _ _ _=>rfl
 kept:=fun _ _ _ _=>⟨rfl,rfl⟩
 le:=jk.le.refl _
 new:=fun _ _ _ h => .inl h
 boxes:=fun k cs _ h1 h2 => .inr ⟨k,cs,h1,h2⟩
 toks:=fun k n _ S W h1 h2 => .inr ⟨k,n,S,W,h1,h2,aak _,aak _⟩
 ids:=fun _ _ h=>⟨h,rfl,rfl⟩
theorem gQ.trans {w O J:World} {g g1 N:Gh} {σ G Y:St} (h:gQ w g σ O g1 G) (E:gQ O g1 G J N Y):gQ w g σ J N Y where
 os:=E.os.trans h.os
 tape:=E.tape.trans h.tape
 output:=E.output.trans h.output
 size:=Nat.le_trans h.size E.size
 block:=fun b T p=>by
  rw[E.block b (Nat.lt_of_lt_of_le T h.size) fun o W=>by
   rcases h.owned W with x|x
   ·omega
   ·exact p o x]
  exact h.block b T p
 kept:=fun b o T p=>by
  have h1:=h.kept b o T p;have h2:=E.kept b o (Nat.lt_of_lt_of_le T h.size) fun W=>by
   rcases h.owned W with x|x
   ·omega
   ·exact p x
  exact⟨h2.1.trans h1.1,h2.2.trans h1.2⟩
 le:=h.le.trans E.le
 new:=fun b o v x=>by
  rcases E.new b o v x with x|x|x
  ·exact h.new b o v x
  ·exact .inr (.inl (Nat.le_trans h.size x))
  ·rcases h.owned x with x|x
   ·exact .inr (.inl x)
   ·exact .inr (.inr x)
 boxes:=fun k cs b h1 h2=>by
  rcases E.boxes k cs b h1 h2 with x|⟨u,V,C,U⟩
  ·exact .inl (Nat.le_trans h.size x)
  ·exact h.boxes u V b C U
 toks:=fun k n b M I h1 h2=>by
  rcases E.toks k n b M I h1 h2 with x|⟨u,K,H,B,C,U,e3,e4⟩
  ·exact .inl (Nat.le_trans h.size x)
  ·rcases h.toks u K b H B C U with x|⟨A,q,Yx,S,f1,f2,f3,f4⟩
   ·exact .inl x
   ·exact .inr ⟨A,q,Yx,S,f1,f2,bn,bn⟩
 ids:=fun k D h2=>by
  obtain⟨h3,h4,Q⟩:=E.ids k D h2;obtain⟨h5,h6,P⟩:=h.ids k D h3;exact⟨h5,h4.trans h6,Q.trans P⟩
def tY (g:Gh) (env:List (Nat×AV)) (tmps:Array Value):Prop:=∀t a,ak t env=some a->aK g a (tmps.getD t undef)
theorem tY.mono {g g':Gh} (h:g.le g') {env:List (Nat×AV)} {tmps:Array Value} (x:tY g env tmps):tY g' env tmps :=
 fun t a e=>aK.mono h _ _ (x t a e)
end Go.cq
namespace Go.cq
inductive TK where
 | int (k:IntKind)|bool|str|ptr (e:Nat)|slice (e:Nat)|arr (n e:Nat)|struct (fs:List (Nat×Nat))|other
 deriving Inhabited
structure TI where
 size:Nat
 bytes:Nat
 kind:TK
 zero:Option AV
 deriving Inhabited
def TI.isAgg (i:TI):Bool:=match i.kind with
 | .arr .. | .struct .. => true
 | _=>false
structure Ctx where
 ti:Nat->Option TI
 rC:Nat->Option CV
def eF (P:Program):TK->TypeDesc->Prop
 | .int k,d=>d = .int k
 | .bool,d=>d = .bool
 | .str,d=>d = .string
 | .ptr e,d=>d = .pointer e
 | .slice e,d=>d = .slice e
 | .arr n e,d=>d = .array n e
 | .struct W,d=>∃Y:Array Field,d = .struct Y/\Y.toList.map (fun f=>(f.offset,f.type))=W /\
   ∀f∈Y.toList,∃G,P.info? f.type=some G/\G.size≠0
 | .other,d=>(match d with | .struct _ | .array _ _=>false|_=>true)=true
structure cx (P:Program) (X:Ctx):Prop where
 ti:∀t i,X.ti t=some i->∃inf,P.info? t=some inf/\inf.size=i.size/\inf.bytes=i.bytes /\
  (∀a,i.zero=some a->∃z,inf.zero=some z/\(∀g,aK g a z)/\z.cells.size=i.size)/\(∃d,P.underlying t=some d/\eF P i.kind d)/\i.size≠0
def nC (X:Ctx) (G:jk):Prop:=∀n v,X.rC n=some v->Rel G v (.pointer (some ⟨n,0,none⟩))
section types
variable {P : Program} {X : Ctx} {w : World} {t : Nat} {i : TI}
theorem cx.run_sizeOf (h:cx P X) (e:X.ti t=some i):(sizeOf t).run P w = .ok i.size w:=by
 obtain⟨G,h1,h2,_⟩:=h.ti t i e;simp[sizeOf,typeInfo,h1,h2]
theorem cx.run_underlying (h:cx P X) (e:X.ti t=some i):∃d,(underlying t).run P w = .ok d w/\eF P i.kind d/\P.underlying t=some d:=by
 obtain⟨G,h1,h2,V,_,⟨d,Y,p⟩,_⟩:=h.ti t i e;exact⟨d,by simp[underlying,Y],p,Y⟩
theorem cx.lP (h:cx P X) (e:X.ti t=some i) {a:AV} (Y:i.zero=some a):∃z,(zeroValue t).run P w = .ok z w/\(∀g,aK g a z)/\z.cells.size=i.size:=by
 obtain⟨G,h1,h2,V,U,_⟩:=h.ti t i e;obtain⟨z,W,p,B⟩:=U a Y;exact⟨z,by simp[zeroValue,typeInfo,h1,W],p,B⟩
theorem cx.pe (h:cx P X) (e:X.ti t=some i):(isAgg t).run P w = .ok i.isAgg w:=by
 obtain⟨d,h1,h2,_⟩:=h.run_underlying (w:=w) e;simp only[isAgg,Sem.run_bind,h1,Result.andThen_ok];unfold TI.isAgg;cases D:i.kind<;>rw[D]at h2<;>simp only[eF]at h2
 case struct fs=>obtain⟨Y,rfl,_⟩:=h2;rfl
 case other=>cases d<;>simp at h2<;>rfl
 all_goals subst h2;rfl
end types
def takeN {α:Type}:Nat->List α->Option (List α)
 | 0,_=>some []
 | _+1,[]=>none
 | n+1,x::l=>match takeN n l with
  | some r=>some (x::r)
  | none=>none
def gr {α:Type}:Nat->List α->Option (List α)
 | 0,l=>some l
 | _+1,[]=>none
 | n+1,_::l=>gr n l
theorem pU {α:Type}:∀{n:Nat} {l r:List α},takeN n l=some r->r=l.take n/\n<=l.length
 | 0,l,r,h=>by simp[takeN]at h;subst h;simp
 | n+1,[],r,h=>by simp[takeN]at h
 | n+1,x::l,r,h=>by
  simp only[takeN]at h;split at h
  ·rename_i Q E;obtain⟨rfl,A⟩:=pU E;simp at h;subst h;simp;exact A
  ·simp at h
theorem kI {α:Type}:∀{n:Nat} {l r:List α},gr n l=some r->r=l.drop n/\n<=l.length
 | 0,l,r,h=>by simp[gr]at h;subst h;simp
 | n+1,[],r,h=>by simp[gr]at h
 | n+1,x::l,r,h=>by
  simp only[gr]at h;obtain⟨rfl,A⟩:=kI h;simp;exact A
theorem cN.get {G:jk} {b:Nat}:∀{o:Nat} {cs:List CV},cN G b o cs->∀(j:Nat) c,cs[j]?=some c->∃u,G b (o+j)=some u/\Rel G c u/\c.one=true
 | o,[],_,j,c,h=>by simp at h
 | o,x::cs,h,j,c,hj=>by
  simp only[cN]at h;cases j with
  | zero=>simp at hj;subst hj;exact h.1
  | succ j =>
   simp at hj;have:=h.2.get j c hj;rwa[show o+1+j=o+(j+1)from by omega]at this
theorem cN.drop {G:jk} {b:Nat}:∀{o n:Nat} {cs:List CV},cN G b o cs->cN G b (o+n) (cs.drop n)
 | o,0,cs,h=>by simpa using h
 | o,n+1,[],h=>by simp[cN]
 | o,n+1,x::cs,h=>by
  simp only[cN]at h;have:=cN.drop (n:=n) h.2;simpa[show o+1+n=o+(n+1)from by omega]using this
theorem cN.jQ {G:jk} {b:Nat}:∀{o:Nat} {cs:List CV},(∀(j:Nat) c,cs[j]?=some c->∃u,G b (o+j)=some u/\Rel G c u/\c.one=true)->cN G b o cs
 | o,[],_=>by simp[cN]
 | o,x::cs,h=>by
  simp only[cN];refine⟨by simpa using h 0 x c9,cN.jQ fun j c Y=>?_⟩;have:=h (j+1) c Sw;rwa[show o+(j+1)=o+1+j from by omega]at this
theorem eX.get {G:jk} {s b:Nat}:∀{o:Nat} {rows:List CV},eX G s b o rows->∀(j:Nat) r,rows[j]?=some r->cN G b (o+j*s) r.cells/\r.cells.length=s
 | o,[],_,j,r,h=>by simp at h
 | o,x::rows,h,j,r,hj=>by
  simp only[eX]at h;cases j with
  | zero=>simp at hj;subst hj;exact⟨by simpa using (yU G b o x).1 h.1,h.2.1⟩
  | succ j =>
   simp at hj;have:=h.2.2.get j r hj;rwa[show o+s+j*s=o+(j+1)*s from by rw[Nat.succ_mul];omega]at this
theorem eX.drop {G:jk} {s b:Nat}:∀{o n:Nat} {rows:List CV},eX G s b o rows->eX G s b (o+n*s) (rows.drop n)
 | o,0,rows,h=>by simpa using h
 | o,n+1,[],h=>by simp[eX]
 | o,n+1,x::rows,h=>by
  simp only[eX]at h;have:=eX.drop (n:=n) h.2.2;simpa[show o+s+n*s=o+(n+1)*s from by rw[Nat.succ_mul];omega]using this
theorem eX.take {G:jk} {s b:Nat}:∀{o n:Nat} {rows:List CV},eX G s b o rows->eX G s b o (rows.take n)
 | o,0,rows,h=>by simp[eX]
 | o,n+1,[],h=>by simp[eX]
 | o,n+1,x::rows,h=>by
  simp only[eX]at h;simp only[List.take_succ_cons,eX];exact⟨h.1,h.2.1,eX.take h.2.2⟩
theorem cr.get {w:World} {g:Gh} {b:Nat}:∀{o:Nat} {cs:List AV},cr w g b o cs->∀(j:Nat) c,cs[j]?=some c ->
  (∃u,w.cell? ⟨b,o+j,none⟩=some u/\aK g c u/\c.one=true)/\w.frozen? ⟨b,o+j,none⟩=false
 | o,[],_,j,c,h=>by simp at h
 | o,x::cs,h,j,c,hj=>by
  simp only[cr]at h;cases j with
  | zero=>simp at hj;subst hj;exact⟨h.1,h.2.1⟩
  | succ j =>
   simp at hj;have:=h.2.2.get j c hj;rwa[show o+1+j=o+(j+1)from by omega]at this
theorem cr.jQ {w:World} {g:Gh} {b:Nat}:∀{o:Nat} {cs:List AV},(∀(j:Nat) c,cs[j]?=some c ->
  (∃u,w.cell? ⟨b,o+j,none⟩=some u/\aK g c u/\c.one=true)/\w.frozen? ⟨b,o+j,none⟩=false)->cr w g b o cs
 | o,[],_=>trivial
 | o,x::cs,h=>by
  refine⟨by simpa using (h 0 x c9).1,by simpa using (h 0 x c9).2,cr.jQ fun j c Y=>?_⟩;have:=h (j+1) c Sw;rwa[show o+(j+1)=o+1+j from by omega]at this
theorem bL.get {G:jk}:∀{cs:List CV} {vs:List Value},bL G cs vs->cs.length=vs.length/\∀(j:Nat) c,cs[j]?=some c->∃u,vs[j]?=some u/\Rel G c u
 | [],vs,h=>by simp only[bL]at h;subst h;simp
 | c::cs,vs,h=>by
  simp only[bL]at h;obtain⟨u,us,rfl,E,I⟩:=h;obtain⟨A,U⟩:=I.get;refine⟨by simp[A],fun j W Y=>?_⟩;cases j with
  | zero=>simp at Y;subst Y;exact⟨u,c9,E⟩
  | succ j=>simp at Y;simpa using U j W Y
theorem bF.get {g:Gh}:∀{cs:List AV} {vs:List Value},bF g cs vs->cs.length=vs.length/\∀(j:Nat) c,cs[j]?=some c->∃u,vs[j]?=some u/\aK g c u
 | [],vs,h=>by simp only[bF]at h;subst h;simp
 | c::cs,vs,h=>by
  simp only[bF]at h;obtain⟨u,us,rfl,E,I⟩:=h;obtain⟨A,U⟩:=I.get;refine⟨by simp[A],fun j W Y=>?_⟩;cases j with
  | zero=>simp at Y;subst Y;exact⟨u,c9,E⟩
  | succ j=>simp at Y;simpa using U j W Y
theorem bL.jQ {G:jk}:∀{cs:List CV} {vs:List Value},cs.length=vs.length->(∀(j:Nat) c u,cs[j]?=some c->vs[j]?=some u->Rel G c u)->bL G cs vs
 | [],vs,h,_=>by simp only[bL];exact List.eq_nil_of_length_eq_zero (by simpa using h.symm)
 | c::cs,[],h,_=>by simp at h
 | c::cs,u::us,h,E=>by
  simp only[bL];exact⟨u,us,rfl,E 0 c u c9 c9,bL.jQ nu fun j Y W h1 h2=>E (j+1) Y W Um Ab⟩
theorem bF.jQ {g:Gh}:∀{cs:List AV} {vs:List Value},cs.length=vs.length->(∀(j:Nat) c u,cs[j]?=some c->vs[j]?=some u->aK g c u)->bF g cs vs
 | [],vs,h,_=>by simp only[bF];exact List.eq_nil_of_length_eq_zero (by simpa using h.symm)
 | c::cs,[],h,_=>by simp at h
 | c::cs,u::us,h,E=>by
  simp only[bF];exact⟨u,us,rfl,E 0 c u c9 c9,bF.jQ nu fun j Y W h1 h2=>E (j+1) Y W Um Ab⟩
end Go.cq
namespace Go.cq
def Ho:Value->Option AV
 | .int k n=>some (.c (.int k n))
 | .bool b=>some (.c (.bool b))
 | .string s=>some (.c (.str s.data.toList))
 | .pointer none=>some (.c .lO)
 | .slice none 0 0=>some (.own .exact 0 [])
 | _=>none
def Dd:List Value->Option (List AV)
 | []=>some []
 | v::vs=>match Ho v with
  | some a=>match Dd vs with
   | some l=>some (a::l)
   | none=>none
  | none=>none
def Sx:Value->Option AV
 | .agg cs=>match Dd cs.toList with
  | some l=>some (.agg l)
  | none=>none
 | v=>Ho v
theorem FN (g:Gh):∀{v:Value} {a:AV},Ho v=some a->aK g a v/\a.one=true:=by
 intro v a h;unfold Ho at h;split at h<;>simp at h<;>subst h<;>simp[aK,Rel,AV.one,CV.one];exact⟨_,_,_,⟨rfl,rfl,rfl⟩,rfl,aak _,.inl rfl,rfl⟩
theorem FO (g:Gh):∀{vs:List Value} {l:List AV},Dd vs=some l->bF g l vs/\l.all AV.one=true
 | [],l,h=>by simp[Dd]at h;subst h;simp[bF]
 | v::vs,l,h=>by
  simp only[Dd]at h;split at h
  ·rename_i a u;split at h
   ·rename_i p A;simp at h;subst h;obtain⟨h1,h2⟩:=FN g u;obtain⟨V,Y⟩:=FO g A;exact⟨by simp only[bF];exact⟨v,vs,rfl,h1,V⟩,by simp[h2];simpa using Y⟩
   ·simp at h
  ·simp at h
theorem Sy (g:Gh) {v:Value} {a:AV} (h:Sx v=some a):aK g a v:=by
 unfold Sx at h;split at h
 ·rename_i cs;split at h
  ·rename_i l A;simp at h;subst h;obtain⟨h1,h2⟩:=FO g A;simp only[aK];exact⟨cs.toList,c9,h1,h2⟩
  ·simp at h
 ·exact(FN g h).1
def aL (X:Ctx) (env:List (Nat×AV)):Operand->Option AV
 | .tmp t=>ak t env
 | .const v=>Sx v
 | .global n=>match X.rC n with
  | some v=>some (.c v)
  | none=>none
 | .func f=>some (.c (.rM f []))
theorem ct {X:Ctx} {g:Gh} {env:List (Nat×AV)} {a:Act} (P:tY g env a.tmps) (E:nC X g.G) {x:Operand} {v:AV} (h:aL X env x=some v):aK g v (a.eval x):=by
 cases x with
 | tmp t=>exact P t v h
 | const c=>exact Sy g h
 | global n =>
  simp only[aL]at h;split at h
  ·rename_i B A;simp at h;subst h;simp only[aK];exact E n B A
  ·simp at h
 | func f=>simp[aL]at h;subst h;simp only[aK,Rel];exact⟨[],rfl,by simp[bL]⟩
def nth {α:Type}:List α->Nat->Option α
 | [],_=>none
 | x::_,0=>some x
 | _::l,n+1=>nth l n
theorem rD {α:Type}:∀(l:List α) (n:Nat),nth l n=l[n]?
 | [],n=>by simp[nth]
 | x::l,0=>by simp[nth]
 | x::l,n+1=>by simp[nth,rD l n]
def Wu (t:Bool) (a b:AV):Option AV :=
 match a,b with
 | .c (.bool x),.c (.bool y)=>some (.c (.bool (bif t then x else y)))
 | _,_=>match t with
  | true=>some a
  | false=>some b
def xe (i:TI) (cells:List AV):Option AV :=
 match i.isAgg with
 | true=>match takeN i.size cells with
  | some l=>some (.agg l)
  | none=>none
 | false=>match cells with
  | c::_=>some c
  | []=>none
def Aj (i:TI) (cells:List CV):Option AV :=
 match i.isAgg with
 | true=>match takeN i.size cells with
  | some l=>some (.c (.agg l))
  | none=>none
 | false=>match cells with
  | c::_=>some (.c c)
  | []=>none
section
variable {P : Program} {X : Ctx} {w : World} {g : Gh}
theorem yV (hX:cx P X) {t:Nat} {i:TI} (W:X.ti t=some i) (u:i.isAgg=true) (b o:Nat) (vs:List Value) (A:vs.length=i.size)
  (h:∀j v,vs[j]?=some v->w.cell? ⟨b,o+j,none⟩=some v) :
  (Instr.loadAt t (.pointer (some ⟨b,o,none⟩))).run P w = .ok (.agg vs.toArray) w:=by
 have E:=run_loadCells_list (P:=P) w ⟨b,o,none⟩ vs (fun j v Y=>by rw[Addr.add_lit];exact h j v Y);simp only[Instr.loadAt,Instr.sureAddr,loadVar,Sem.run_bind,Sem.run_pure,Result.andThen_ok,hX.pe W,u,if_true,hX.run_sizeOf W];rw[<- A,E];rfl
theorem yW (hX:cx P X) {t:Nat} {i:TI} (W:X.ti t=some i) (u:i.isAgg=false) (b o:Nat) (v:Value)
  (h:w.cell? ⟨b,o,none⟩=some v) :
  (Instr.loadAt t (.pointer (some ⟨b,o,none⟩))).run P w = .ok v w:=by
 simp[Instr.loadAt,Instr.sureAddr,loadVar,hX.pe W,u,h]
theorem Sz (hX:cx P X) {t:Nat} {i:TI} (U:X.ti t=some i) {b o:Nat} {cells:List AV} (E:cr w g b o cells) {v:AV} (h:xe i cells=some v) :
  ∃u,(Instr.loadAt t (.pointer (some ⟨b,o,none⟩))).run P w = .ok u w/\aK g v u:=by
 unfold xe at h;split at h
 ·rename_i C;split at h
  ·rename_i l p;simp at h;subst h;obtain⟨rfl,S⟩:=pU p;have Y:∀(n:Nat) (cs:List AV) (o:Nat),cr w g b o cs->n<=cs.length->∃vs:List Value,vs.length=n/\(∀j v,vs[j]?=some v->w.cell? ⟨b,o+j,none⟩=some v)/\bF g (cs.take n) vs/\(cs.take n).all AV.one=true:=by
    intro n
    induction n with
    | zero=>intro cs o _ _;exact⟨[],rfl,c9,by simp[bF],c9⟩
    | succ n Q =>
     intro cs o W J;cases cs with
     | nil=>simp at J
     | cons x cs =>
      obtain⟨⟨u,A,I,O⟩,_,pT⟩:=W;obtain⟨vs,h1,h2,V,T⟩:=Q cs (o+1) pT (by simpa using J);refine⟨u::vs,P9,?_,?_,?_⟩
      ·grind
      ·simp only[List.take_succ_cons,bF];exact⟨u,vs,rfl,I,V⟩
      ·simp_all
   obtain⟨vs,h1,h2,V,T⟩:=Y i.size cells o E S;exact⟨.agg vs.toArray,yV hX U C b o vs h1 h2,by simp only[aK];exact⟨vs,rfl,V,T⟩⟩
  ·simp at h
 ·rename_i C;split at h
  ·rename_i c rest;simp at h;subst h;obtain⟨⟨u,A,I,_⟩,_,_⟩:=E;exact⟨u,yW hX U C b o u A,I⟩
  ·simp at h
theorem PU (hX:cx P X) (D:∀b o v,g.G b o=some v->w.cell? ⟨b,o,none⟩=some v) {t:Nat} {i:TI} (U:X.ti t=some i) {b o:Nat} {cells:List CV}
  (E:cN g.G b o cells) {v:AV} (h:Aj i cells=some v) :
  ∃u,(Instr.loadAt t (.pointer (some ⟨b,o,none⟩))).run P w = .ok u w/\aK g v u:=by
 unfold Aj at h;split at h
 ·rename_i C;split at h
  ·rename_i l p;simp at h;subst h;obtain⟨rfl,S⟩:=pU p;have W:∀(n:Nat) (cs:List CV) (o:Nat),cN g.G b o cs->n<=cs.length->∃vs:List Value,vs.length=n/\(∀j v,vs[j]?=some v->w.cell? ⟨b,o+j,none⟩=some v)/\bL g.G (cs.take n) vs/\(cs.take n).all CV.one=true:=by
    intro n
    induction n with
    | zero=>intro cs o _ _;exact⟨[],rfl,c9,by simp[bL],c9⟩
    | succ n Q =>
     intro cs o Y J;cases cs with
     | nil=>simp at J
     | cons x cs =>
      simp only[cN]at Y;obtain⟨⟨u,A,I,O⟩,pT⟩:=Y;obtain⟨vs,h1,h2,V,T⟩:=Q cs (o+1) pT (by simpa using J);refine⟨u::vs,P9,?_,?_,?_⟩
      ·grind
      ·simp only[List.take_succ_cons,bL];exact⟨u,vs,rfl,I,V⟩
      ·simp_all
   obtain⟨vs,h1,h2,V,T⟩:=W i.size cells o E S;exact⟨.agg vs.toArray,yV hX U C b o vs h1 h2,by simp only[aK,Rel];exact⟨vs,rfl,V,T⟩⟩
  ·simp at h
 ·rename_i C;split at h
  ·rename_i c rest;simp at h;subst h;simp only[cN]at E;obtain⟨⟨u,A,I,_⟩,_⟩:=E;exact⟨u,yW hX U C b o u (D _ _ _ A),by simpa only[aK]using I⟩
  ·simp at h
end
end Go.cq
namespace Go.cq
theorem toList_mk (l:List UInt8):(ByteArray.mk l.toArray).toList=l:=by rw[ByteArray.toList_eq]
def SA (q:BinOp) (k:IntKind) (a b:Int):Option CV :=
 match q with
 | .add=>some (.int k (k.wrap (a+b)))
 | .sub=>some (.int k (k.wrap (a-b)))
 | .mul=>some (.int k (k.wrap (a*b)))
 | .quo=>match b==0 with
  | true=>none
  | false=>some (.int k (k.wrap (a.tdiv b)))
 | .rem=>match b==0 with
  | true=>none
  | false=>some (.int k (a.tmod b))
 | .and=>some (.int k (k.wrap (BitVec.ofInt k.bits a&&&BitVec.ofInt k.bits b).toNat))
 | .or=>some (.int k (k.wrap (BitVec.ofInt k.bits a|||BitVec.ofInt k.bits b).toNat))
 | .xor=>some (.int k (k.wrap (BitVec.ofInt k.bits a ^^^ BitVec.ofInt k.bits b).toNat))
 | .eql=>some (.bool (a==b))
 | .neq=>some (.bool (a != b))
 | .lss=>some (.bool (decide (a<b)))
 | .leq=>some (.bool (decide (a<=b)))
 | .gtr=>some (.bool (decide (a>b)))
 | .geq=>some (.bool (decide (a>=b)))
 | _=>none
def sameKind:IntKind->IntKind->Bool
 | .i64,.i64 | .u8,.u8 | .u64,.u64 | .i32,.i32 | .u32,.u32=>true
 | _,_=>false
theorem JK {j k:IntKind} (h:sameKind j k=true):j=k:=by
 cases j<;>cases k<;>simp[sameKind]at h<;>rfl
def Ak (q:BinOp) (k:IntKind) (a b:Int):Option CV :=
 match q,b with
 | .shl,.ofNat n=>some (.int k (k.wrap (a*2^(min n k.bits))))
 | .shr,.ofNat n=>some (.int k (a.fdiv (2^(min n k.bits))))
 | _,_=>none
def Xq (q:BinOp) (a b:List UInt8):Option CV :=
 match q with
 | .eql=>some (.bool (a==b))
 | .neq=>some (.bool (!(a==b)))
 | .lss=>some (.bool (Op.bytesLess a b))
 | .gtr=>some (.bool (!(Op.bytesLess a b||a==b)))
 | _=>none
def Mb (k:TK) (q:BinOp) (x y:AV):Option AV :=
 match x,y with
 | .c (.int j a),.c (.int j' b) =>
  match q with
  | .shl | .shr=>match Ak q j a b with
   | some v=>some (.c v)
   | none=>none
  | _=>match sameKind j j' with
   | true=>match SA q j a b with
    | some v=>some (.c v)
    | none=>none
   | false=>none
 | .c (.str a),.c (.str b)=>match Xq q a b with
  | some v=>some (.c v)
  | none=>none
 | .c (.bool a),.c (.bool b)=>match k,q with
  | .bool,.eql=>some (.c (.bool (a==b)))
  | .bool,.neq=>some (.c (.bool (!(a==b))))
  | _,_=>none
 | .c (.ip _),.c .lO=>match k,q with
  | .ptr _,.eql=>some (.c (.bool false))
  | .ptr _,.neq=>some (.c (.bool true))
  | _,_=>none
 | .c .lO,.c .lO=>match k,q with
  | .ptr _,.eql=>some (.c (.bool true))
  | .ptr _,.neq=>some (.c (.bool false))
  | _,_=>none
 | _,_=>none
section
variable {P : Program} {X : Ctx} {w : World} {g : Gh}
theorem Vf {q:BinOp} {k:IntKind} {a b:Int} {v:CV} (h:SA q k a b=some v) (t:TypeId) (x y:Operand) :
  ∃u,(do eqGuard q t x y (.int k a) (.int k b);binOp q t (.int k a) (.int k b)).run P w = .ok u w/\Rel g.G v u:=by
 cases q<;>simp only[SA]at h<;>simp only[eqGuard_at_int]
 case quo =>
  split at h
  ·simp at h
  ·rename_i T;simp at h;subst h;have:b≠0:=by simpa using T
   exact⟨_,by simp[binOp,Op.intDiv,this];rfl,Og⟩
 case rem =>
  split at h
  ·simp at h
  ·rename_i T;simp at h;subst h;have:b≠0:=by simpa using T
   exact⟨_,by simp[binOp,Op.intDiv,this];rfl,Og⟩
 all_goals first
  | (simp at h;done)
  | (simp at h;subst h;exact⟨_,by simp[binOp,Op.intArith,Op.intBits,Op.intCmp];rfl,Og⟩)
theorem PV {q:BinOp} {k k':IntKind} {a b:Int} {v:CV} (h:Ak q k a b=some v) (t:TypeId) (x y:Operand) :
  ∃u,(do eqGuard q t x y (.int k a) (.int k' b);binOp q t (.int k a) (.int k' b)).run P w = .ok u w/\Rel g.G v u:=by
 unfold Ak at h;split at h
 ·rename_i n;simp at h;subst h;refine⟨.int k (k.wrap (a*2^(min n k.bits))),?_,Og⟩;simp[eqGuard_at_int,binOp,Op.shift,show ¬((n:Int)<0)from by omega]
 ·rename_i n;simp at h;subst h;refine⟨.int k (a.fdiv (2^(min n k.bits))),?_,Og⟩;simp[eqGuard_at_int,binOp,Op.shift,show ¬((n:Int)<0)from by omega]
 ·simp at h
theorem Vg {q:BinOp} {a b:List UInt8} {v:CV} (h:Xq q a b=some v) (t:TypeId) (x y:Operand) :
  ∃u,(do eqGuard q t x y (.string ⟨a.toArray⟩) (.string ⟨b.toArray⟩);binOp q t (.string ⟨a.toArray⟩) (.string ⟨b.toArray⟩)).run P w = .ok u w/\Rel g.G v u:=by
 cases q<;>simp only[Xq]at h<;>first
  | (simp at h;done)
  | (simp at h;subst h;exact⟨_,by simp[eqGuard_at_string,binOp,Op.stringOp,toList_mk];rfl,Og⟩)
theorem yX {t:TypeId} (d:Nat) (h:(underlying t).run P w = .ok .bool w) (a b:Bool):(Op.equalIn (d+1) t (.bool a) (.bool b)).run P w = .ok (a==b) w:=by
 simp[Op.equalIn,h]
theorem Al {t e:TypeId} (d:Nat) (h:(underlying t).run P w = .ok (.pointer e) w) (a:Addr):(Op.equalIn (d+1) t (.pointer (some a)) (.pointer none)).run P w = .ok false w:=by
 simp[Op.equalIn,h]
theorem Am {t e:TypeId} (d:Nat) (h:(underlying t).run P w = .ok (.pointer e) w):(Op.equalIn (d+1) t (.pointer none) (.pointer none)).run P w = .ok true w:=by
 simp[Op.equalIn,h]
theorem run_equal_bool {t:TypeId} (h:(underlying t).run P w = .ok .bool w) (a b:Bool):(Op.equal t (.bool a) (.bool b)).run P w = .ok (a==b) w :=
 yX 9999 h a b
theorem jW {t e:TypeId} (h:(underlying t).run P w = .ok (.pointer e) w) (a:Addr):(Op.equal t (.pointer (some a)) (.pointer none)).run P w = .ok false w :=
 Al 9999 h a
theorem run_equal_nil_nil {t e:TypeId} (h:(underlying t).run P w = .ok (.pointer e) w):(Op.equal t (.pointer none) (.pointer none)).run P w = .ok true w :=
 Am 9999 h
theorem uY (t:TypeId) (a b:Bool):binOp .eql t (.bool a) (.bool b)=(do pure (.bool (<- Op.equal t (.bool a) (.bool b)))):=rfl
theorem uZ (t:TypeId) (a b:Bool):binOp .neq t (.bool a) (.bool b)=(do pure (.bool (!(<- Op.equal t (.bool a) (.bool b))))):=rfl
theorem nR (t:TypeId) (a b:Option Addr):binOp .eql t (.pointer a) (.pointer b)=(do pure (.bool (<- Op.equal t (.pointer a) (.pointer b)))):=rfl
theorem nT (t:TypeId) (a b:Option Addr):binOp .neq t (.pointer a) (.pointer b)=(do pure (.bool (!(<- Op.equal t (.pointer a) (.pointer b))))):=rfl
theorem Vh (hX:cx P X) {t:Nat} {i:TI} (I:X.ti t=some i) {Y:BinOp} {x y:AV} {v:AV} (h:Mb i.kind Y x y=some v)
  {p q:Value} (A:aK g x p) (hq:aK g y q) (W V:Operand) :
  ∃u,(do eqGuard Y t W V p q;binOp Y t p q).run P w = .ok u w/\aK g v u:=by
 obtain⟨d,H,B,O⟩:=hX.run_underlying (w:=w) I;unfold Mb at h;split at h
 ·rename_i j a S b;simp only[aK,Rel]at A hq;subst A hq;have Q:∀(U:CV),Ak Y j a b=some U->∃u,(do eqGuard Y t W V (.int j a) (.int S b);binOp Y t (.int j a) (.int S b)).run P w = .ok u w/\aK g (.c U) u:=by
   intro U T;obtain⟨u,h1,h2⟩:=PV (P:=P) (w:=w) (g:=g) (k':=S) T t W V;exact⟨u,h1,BI⟩
  split at h
  ·grind
  ·grind
  ·split at h
   ·rename_i D;have:=JK D;subst this;split at h
    ·rename_i U T;simp at h;subst h;obtain⟨u,h1,h2⟩:=Vf (P:=P) (w:=w) (g:=g) T t W V;exact⟨u,h1,BI⟩
    ·simp at h
   ·simp at h
 ·rename_i a b;simp only[aK,Rel]at A hq;subst A hq;split at h
  ·rename_i U T;simp at h;subst h;obtain⟨u,h1,h2⟩:=Vg (P:=P) (w:=w) (g:=g) T t W V;exact⟨u,h1,BI⟩
  ·simp at h
 ·rename_i a b;simp only[aK,Rel]at A hq;subst A hq;split at h<;>simp at h<;>subst h<;>rename_i D<;>rw[D]at B<;>simp only[eF]at B<;>subst B
  ·exact⟨.bool (a==b),R7,ot⟩
  ·exact⟨.bool (!(a==b)),R7,ot⟩
 ·rename_i cs;simp only[aK,Rel]at A hq;subst hq;obtain⟨b,o,rfl,_⟩:=A;split at h<;>simp at h<;>subst h<;>rename_i D<;>rw[D]at B<;>simp only[eF]at B<;>subst B
  ·exact⟨.bool false,ob,ot⟩
  ·exact⟨.bool true,ob,ot⟩
 ·simp only[aK,Rel]at A hq;subst A hq;split at h<;>simp at h<;>subst h<;>rename_i D<;>rw[D]at B<;>simp only[eF]at B<;>subst B
  ·exact⟨.bool true,ob,ot⟩
  ·exact⟨.bool false,ob,ot⟩
 ·simp at h
end
end Go.cq
namespace Go.cq
def opened:List CV->Option (List AV)
 | []=>some []
 | c::cs=>match opened cs with
  | some l=>some (.c c::l)
  | none=>none
theorem FP:∀(cs:List CV),opened cs=some (cs.map AV.c)
 | []=>rfl
 | c::cs=>by simp[opened,FP cs]
def jR:AV->Option (List AV)
 | .c (.agg cs)=>opened cs
 | .c (.gy _)=>none
 | .c .undef=>none
 | .gy _=>none
 | .agg cs=>some cs
 | a=>some [a]
def dK:Nat->List AV->List AV->Option (List AV)
 | _,[],l=>some l
 | 0,v::vs,_::l=>match dK 0 vs l with
  | some r=>some (v::r)
  | none=>none
 | n+1,vs,x::l=>match dK n vs l with
  | some r=>some (x::r)
  | none=>none
 | _,_::_,[]=>none
mutual
def close:AV->Option CV
 | .c v=>some v
 | .own _ s rows=>some (.sl s rows)
 | .ptr _ _=>none
 | .gv .. => none
 | .any=>none
 | .agg cs=>match An cs with
  | some l=>some (.agg l)
  | none=>none
 | .gy cs=>match An cs with
  | some l=>some (.gy l)
  | none=>none
def An:List AV->Option (List CV)
 | []=>some []
 | a::l=>match close a with
  | some v=>match An l with
   | some r=>some (v::r)
   | none=>none
  | none=>none
end
def asNat:AV->Option Nat
 | .c (.int _ (.ofNat n))=>some n
 | _=>none
def bound (ρ:Operand->Option AV):Option Operand->Option (Option Nat)
 | none=>some none
 | some x=>match ρ x with
  | some a=>match asNat a with
   | some n=>some (some n)
   | none=>none
  | none=>none
def De (s:Nat) (rows:List CV) (S:Option Nat) (h:Nat) (exact:Bool):Option AV :=
 match takeN h rows with
 | some D=>match (match S with
   | some l=>gr l D
   | none=>some D)with
  | some r=>match exact with
   | true=>some (.own .exact s r)
   | false=>some (.c (.sl s r))
  | none=>none
 | none=>none
def Ao (k:TK) (es:Nat) (x:AV) (S W P:Option Nat):Option AV :=
 match k,x with
 | .str,.c (.str s)=>match P with
  | some _=>none
  | none=>match (match W with
    | some h=>takeN h s
    | none=>some s)with
   | some Y=>match S with
    | some l=>match gr l Y with
     | some r=>some (.c (.str r))
     | none=>none
    | none=>some (.c (.str Y))
   | none=>none
 | .slice _,.own o s rows=>match Nat.beq s es with
  | false=>none
  | true=>match W,P with
  | none,none=>match S with
   | some l=>match gr l rows with
    | some r=>some (.own o s r)
    | none=>none
   | none=>some (.own o s rows)
  | some h,none=>De s rows S h false
  | some h,some m=>match Nat.beq h m with
   | true=>De s rows S h true
   | false=>none
  | none,some _=>none
 | .slice _,.c (.sl s rows)=>match Nat.beq s es with
  | false=>none
  | true=>match W,P with
  | none,none=>match S with
   | some l=>match gr l rows with
    | some r=>some (.c (.sl s r))
    | none=>none
   | none=>some (.c (.sl s rows))
  | some h,none=>De s rows S h false
  | some h,some m=>match Nat.beq h m with
   | true=>De s rows S h true
   | false=>none
  | none,some _=>none
 | _,_=>none
def rowsOf:AV->Option (Nat×List CV)
 | .own _ s rows=>some (s,rows)
 | .c (.sl s rows)=>some (s,rows)
 | _=>none
def sj (X:Ctx) (ρ:Operand->Option AV) (Y:List (Nat×Nat)):List (Nat×Operand)->List AV->Option (List AV)
 | [],cells=>some cells
 | (i,x)::rest,cells=>match nth Y i,ρ x with
  | some (off,p),some a=>match X.ti p,jR a with
   | some j,some vs=>match Nat.beq vs.length j.size,dK off vs cells with
    | true,some cells'=>sj X ρ Y rest cells'
    | _,_=>none
   | _,_=>none
  | _,_=>none
def Xs (k:TK) (x:AV):Option AV :=
 match k,x with
 | .slice _,.own _ _ rows=>some (.c (.int .i64 rows.length))
 | .slice _,.gv _ _ _ n=>some (.c (.int .i64 n))
 | .slice _,.c (.sl _ rows)=>some (.c (.int .i64 rows.length))
 | .str,.c (.str s)=>some (.c (.int .i64 s.length))
 | .arr n _,_=>some (.c (.int .i64 n))
 | _,_=>none
def Zo:List (Option AV)->Option AV
 | [some (.c (.int k a)),some (.c (.int _ b))]=>some (.c (.int k (if b<a then b else a)))
 | _=>none
def Zp:List (Option AV)->Option AV
 | [some (.c (.int k a)),some (.c (.int _ b))]=>some (.c (.int k (if b>a then b else a)))
 | _=>none
def gV (ρ:Operand->Option AV):List Operand->Option (List CV)
 | []=>some []
 | x::l=>match ρ x with
  | some a=>match close a with
   | some v=>match gV ρ l with
    | some r=>some (v::r)
    | none=>none
   | none=>none
  | none=>none
def gH (X:Ctx) (K:List (Nat×List AV)) (ρ:Operand->Option AV):Op->Option AV
 | .move x=>ρ x
 | .assign x=>ρ x
 | .pick c a b=>match ρ c,ρ a,ρ b with
  | some (.c (.bool t)),some a,some b=>Wu t a b
  | _,_,_=>none
 | .load t x=>match X.ti t,ρ x with
  | some i,some (.ptr u off)=>match ak u K with
   | some cells=>match gr off cells with
    | some l=>xe i l
    | none=>none
   | none=>none
  | some i,some (.c (.ip cs))=>Aj i cs
  | _,_=>none
 | .nilCheck x=>match ρ x with
  | some (.ptr k o)=>some (.ptr k o)
  | some (.c (.ip cs))=>some (.c (.ip cs))
  | some (.c (.rM f cs))=>some (.c (.rM f cs))
  | _=>none
 | .binOp q t x y _=>match X.ti t,ρ x,ρ y with
  | some i,some a,some b=>Mb i.kind q a b
  | _,_,_=>none
 | .unOp q _ x=>match q,ρ x with
  | .not,some (.c (.bool b))=>some (.c (.bool (!b)))
  | .neg,some (.c (.int k n))=>some (.c (.int k (k.wrap (0-n))))
  | _,_=>none
 | .convert s d x=>match X.ti s,X.ti d,ρ x with
  | some _,some j,some (.c (.int _ n))=>match j.kind with
   | .int k=>some (.c (.int k (k.wrap n)))
   | _=>none
  | _,_,_=>none
 | .fieldAddr t x f=>match X.ti t,ρ x with
  | some i,some a=>match i.kind with
   | .struct Y=>match nth Y f with
    | some (off,_)=>match a with
     | .ptr k o=>some (.ptr k (o+off))
     | .c (.ip cs)=>match gr off cs with
      | some r=>some (.c (.ip r))
      | none=>none
     | _=>none
    | none=>none
   | _=>none
  | _,_=>none
 | .field t x f=>match X.ti t,ρ x with
  | some i,some a=>match i.kind with
   | .struct Y=>match nth Y f with
    | some (off,p)=>match X.ti p with
     | some j=>match a with
      | .agg cs=>match gr off cs with
       | some r=>xe j r
       | none=>none
      | .c (.agg cs)=>match gr off cs with
       | some r=>Aj j r
       | none=>none
      | _=>none
     | none=>none
    | none=>none
   | _=>none
  | _,_=>none
 | .indexAddr t x O=>match X.ti t,ρ x,ρ O with
  | some i,some a,some n=>match asNat n with
   | some n=>match i.kind with
    | .slice e=>match X.ti e,rowsOf a with
     | some j,some (s,rows)=>match Nat.beq s j.size,nth rows n with
      | true,some r=>some (.c (.ip r.cells))
      | _,_=>none
     | _,_=>none
    | .arr m e=>match X.ti e,a,Nat.blt n m with
     | some j,.ptr k o,true=>some (.ptr k (o+n*j.size))
     | _,_,_=>none
    | _=>none
   | none=>none
  | _,_,_=>none
 | .index t x O=>match X.ti t,ρ x,ρ O with
  | some i,some a,some n=>match asNat n with
   | some n=>match i.kind,a with
    | .str,.c (.str s)=>match nth s n with
     | some b=>some (.c (.int .u8 b.toNat))
     | none=>none
    | _,_=>none
   | none=>none
  | _,_,_=>none
 | .extract x n=>match ρ x with
  | some (.gy cs)=>nth cs n
  | some (.c (.gy cs))=>match nth cs n with
   | some v=>some (.c v)
   | none=>none
  | _=>none
 | .build t H=>match X.ti t with
  | some i=>match i.kind,i.zero with
   | .struct Y,some (.agg z)=>match sj X ρ Y H.toList z with
    | some cells=>some (.agg cells)
    | none=>none
   | _,_=>none
  | none=>none
 | .slice t x S W P=>match X.ti t,ρ x,bound ρ S,bound ρ W,bound ρ P with
  | some i,some a,some S,some W,some P=>match i.kind with
   | .slice e=>match X.ti e with
    | some j=>Ao i.kind j.size a S W P
    | none=>none
   | _=>Ao i.kind 0 a S W P
  | _,_,_,_,_=>none
 | .makeFunc (.func f) first caps=>match first.toList,gV ρ caps.toList with
  | [],some l=>some (.c (.rM f l))
  | _,_=>none
 | .call {callee := .builtin .len,args,argTypes}=>match args.toList,argTypes.toList with
  | [x],[t]=>match X.ti t,ρ x with
   | some i,some a=>Xs i.kind a
   | _,_=>none
  | _,_=>none
 | .call {callee := .builtin .min,args,argTypes:=_}=>Zo (args.toList.map ρ)
 | .call {callee := .builtin .max,args,argTypes:=_}=>Zp (args.toList.map ρ)
 | _=>none
end Go.cq
namespace Go.cq
section
variable {P : Program} {X : Ctx} {w : World} {g : Gh}
theorem u9 {s:List UInt8}:(ByteArray.mk s.toArray).size=s.length:=by simp[ByteArray.size]
theorem extract_mk (s:List UInt8) (l h:Nat):(ByteArray.mk s.toArray).extract l h=⟨((s.take h).drop l).toArray⟩:=by
 apply ByteArray.ext;simp[ByteArray.data_extract];rw[List.drop_take]
theorem gK {y n:Nat} (h:n<=y) (k:IntKind) (c:BoundsCode):(Instr.sliceBound (.int k (n:Int)) y c).run P w = .ok n w:=by
 simp[Instr.sliceBound,asIntOf,h]
theorem wh {a:AV} {n:Nat} (h:asNat a=some n) {u:Value} (I:aK g a u):∃k,u = .int k (Int.ofNat n):=by
 unfold asNat at h;split at h
 ·simp at h;subst h;simp only[aK,Rel]at I;exact⟨_,I⟩
 ·simp at h
def eT (o:Option Value):Option Nat->Prop
 | none=>o=none
 | some n=>∃k,o=some (.int k (Int.ofNat n))
theorem oq {ρ:Operand->Option AV} {ev:Operand->Value} (O:∀x v,ρ x=some v->aK g v (ev x)) {o:Option Operand} {r:Option Nat}
  (h:bound ρ o=some r):eT (o.map ev) r:=by
 unfold bound at h;split at h
 ·simp at h;subst h;simp[eT]
 ·rename_i x;split at h
  ·rename_i a u;split at h
   ·rename_i n Y;simp at h;subst h;obtain⟨k,e⟩:=wh Y (O x a u);exact⟨k,by simp[e]⟩
   ·simp at h
  ·simp at h
theorem mM {Y I h l:Nat} {S W:Option Value} (V:Bool) (U:eT W (some h)) (A:eT S (some l)) (h1:h<=I) (h2:l<=h) :
  (Instr.sliceBounds V Y I S W none).run P w = .ok (l,h,I) w:=by
 obtain⟨k,rfl⟩:=U;obtain⟨k',rfl⟩:=A;simp[Instr.sliceBounds,gK h1,gK h2]
theorem lY {Y I h:Nat} {S W:Option Value} (V:Bool) (U:eT W (some h)) (A:eT S none) (h1:h<=I) :
  (Instr.sliceBounds V Y I S W none).run P w = .ok (0,h,I) w:=by
 obtain⟨k,rfl⟩:=U;simp only[eT]at A;subst A;simp[Instr.sliceBounds,gK h1]
theorem jX {Y I l:Nat} {S W:Option Value} (U:Bool) (V:eT W none) (A:eT S (some l)) (h2:l<=Y) :
  (Instr.sliceBounds U Y I S W none).run P w = .ok (l,Y,I) w:=by
 obtain⟨k,rfl⟩:=A;simp only[eT]at V;subst V;simp[Instr.sliceBounds,gK h2]
theorem jY {Y I:Nat} {S W:Option Value} (U:Bool) (V:eT W none) (A:eT S none) :
  (Instr.sliceBounds U Y I S W none).run P w = .ok (0,Y,I) w:=by
 simp only[eT]at V A;subst V A;simp[Instr.sliceBounds]
theorem yY {Y I h l m:Nat} {S W V:Option Value} (U:Bool) (M:eT V (some m)) (T:eT W (some h)) (A:eT S (some l))
  (N:m<=I) (h1:h<=m) (h2:l<=h) :
  (Instr.sliceBounds U Y I S W V).run P w = .ok (l,h,m) w:=by
 obtain⟨k,rfl⟩:=T;obtain⟨k',rfl⟩:=A;obtain⟨Q,rfl⟩:=M;simp[Instr.sliceBounds,gK N,gK h1,gK h2]
theorem pV {Y I h m:Nat} {S W V:Option Value} (U:Bool) (M:eT V (some m)) (T:eT W (some h)) (A:eT S none)
  (N:m<=I) (h1:h<=m) :
  (Instr.sliceBounds U Y I S W V).run P w = .ok (0,h,m) w:=by
 obtain⟨k,rfl⟩:=T;obtain⟨Q,rfl⟩:=M;simp only[eT]at A;subst A;simp[Instr.sliceBounds,gK N,gK h1]
theorem kH.cut {G:jk} {s:Nat} {base:Option Addr} {rows:List CV} {Y:Nat} (A:Y=rows.length) (h:kH G s base rows) (l E m:Nat) (h1:l<=E) (h2:E<=Y) (V:E<=m) :
  kH G s (if m=l then base else base.map (·.add (l*s))) ((rows.take E).drop l):=by
 rcases h with rfl|⟨b,o,rfl,I⟩
 ·left;simp
 ·by_cases e:m=l
  ·left;simp;omega
  ·right;refine⟨b,o+l*s,by simp[e,Addr.add_lit],?_⟩;exact(I.take (n:=E)).drop
theorem gu (hX:cx P X) {t e:Nat} {i j:TI} (V:X.ti t=some i) (D:i.kind = .slice e) (U:X.ti e=some j) {base:Option Addr} {Y I:Nat} {S H W:Option Value}
  {l h m:Nat} (G:∀w,(Instr.sliceBounds true Y I S H W).run P w = .ok (l,h,m) w) :
  (Instr.sliceAt t (.slice base Y I) S H W).run P w = .ok (.slice (if m=l then base else base.map (·.add (l*j.size))) (h-l) (m-l)) w:=by
 obtain⟨d,T,B,_⟩:=hX.run_underlying (w:=w) V;rw[D]at B;simp only[eF]at B;subst B;simp[Instr.sliceAt,Instr.slice,T,G,hX.run_sizeOf U]
theorem ET (hX:cx P X) {t:Nat} {i:TI} (W:X.ti t=some i) (D:i.kind = .str) {s:ByteArray} {S H:Option Value}
  {l h m:Nat} (G:∀w,(Instr.sliceBounds false s.size s.size S H none).run P w = .ok (l,h,m) w) :
  (Instr.sliceAt t (.string s) S H none).run P w = .ok (.string (s.extract l h)) w:=by
 obtain⟨d,Y,B,_⟩:=hX.run_underlying (w:=w) W;rw[D]at B;simp only[eF]at B;subst B;simp[Instr.sliceAt,Instr.slice,Y,G]
end
end Go.cq
namespace Go.cq
section
variable {P : Program} {X : Ctx} {w : World} {g : Gh}
theorem Df {a:AV} {s:Nat} {rows:List CV} (h:rowsOf a=some (s,rows)) {u:Value} (M:aK g a u) :
  ∃base Y I,u = .slice base Y I/\Y=rows.length/\Y<=I/\kH g.G s base rows:=by
 unfold rowsOf at h;split at h
 ·simp at h;obtain⟨rfl,rfl⟩:=h;simp only[aK]at M;obtain⟨base,Y,I,e,A,E,M,_⟩:=M;exact⟨base,Y,I,e,A,E,M⟩
 ·simp at h;obtain⟨rfl,rfl⟩:=h;simp only[aK,Rel]at M;exact M
 ·simp at h
theorem pS.drop {s:Nat} {base:Option Addr} {Y I l:Nat}:∀{k:Vd},pS g s base Y I k->l<=Y ->
  pS g s (if I=l then base else base.map (·.add (l*s))) (Y-l) (I-l) k
 | .exact,h,_=>by simp only[pS]at h ⊢;omega
 | .tok u n,h,p=>by
  simp only[pS]at h ⊢;obtain⟨O,A,e,W,M⟩:=h;refine⟨O,A,e,W,fun V=>?_⟩;rcases M V with M|⟨b,S,U,o,rfl,rfl,h1,h2,P⟩
  ·left;omega
  ·by_cases E:I=l
   ·left;omega
   ·right;refine⟨b,S,U,o+l*s,rfl,by simp[E,Addr.add_lit],?_,?_,bn⟩
    ·rw[h1];rw[Nat.add_assoc,<- Nat.add_mul];congr 2;omega
    ·rw[h2];rw[Nat.add_assoc,<- Nat.add_mul];congr 2;omega
theorem SC {s:Nat} {rows:List CV} {S:Option Nat} {h:Nat} {ex:Bool} {v:AV} (e:De s rows S h ex=some v) :
  h<=rows.length/\S.getD 0<=h/\v=if ex then .own .exact s ((rows.take h).drop (S.getD 0))else .c (.sl s ((rows.take h).drop (S.getD 0))):=by
 unfold De at e;split at e
 ·rename_i D h1;obtain⟨rfl,A⟩:=pU h1;cases S with
  | none =>
   simp only at e;cases ex<;>simp at e<;>subst e<;>simp[A]
  | some l =>
   simp only at e;split at e
   ·rename_i r h2;obtain⟨rfl,Y⟩:=kI h2;have:l<=h:=by simp at Y;omega
    cases ex<;>simp at e<;>subst e<;>simp[A,this]
   ·simp at e
 ·simp at e
theorem FQ (hX:cx P X) {t:Nat} {i:TI} (E:X.ti t=some i) {es:Nat} (B:∀e,i.kind = .slice e->∃j,X.ti e=some j/\j.size=es)
  {x v:AV} {S H mx:Option Nat} (h:Ao i.kind es x S H mx=some v) {u:Value} (hu:aK g x u)
  {A q O:Option Value} (W:eT A S) (V:eT q H) (Q:eT O mx) :
  ∃r,(Instr.sliceAt t u A q O).run P w = .ok r w/\aK g v r:=by
 have cut:∀{e:Nat} {rows:List CV} {base:Option Addr} {U I:Nat} {T:Nat} {ex:Bool},i.kind = .slice e->U=rows.length->U<=I->kH g.G es base rows ->
   H=some T->(mx=if ex then some T else none)->De es rows S T ex=some v ->
   ∃r,(Instr.sliceAt t (.slice base U I) A q O).run P w = .ok r w/\aK g v r:=by
  intro e rows base U I T ex D Y K C e1 e2 Mc;obtain⟨j,N,M⟩:=B e D;obtain⟨c1,c2,c3⟩:=SC Mc;subst e1;cases ex with
  | false =>
   subst e2;simp only[eT]at Q;subst Q;have p:∀w,(Instr.sliceBounds true U I A q none).run P w = .ok (S.getD 0,T,I) w:=by
    intro w;cases S with
    | none=>exact lY true V W bn
    | some l=>exact mM true V W bn (by simpa using c2)
   refine⟨_,gu hX E D N p,?_⟩;rw[c3,M];simp only[Bool.false_eq_true,if_false,aK,Rel];exact⟨_,_,_,rfl,lD,bn,(kH.cut Y C (S.getD 0) T I c2 bn bn)⟩
  | true =>
   subst e2;have p:∀w,(Instr.sliceBounds true U I A q O).run P w = .ok (S.getD 0,T,T) w:=by
    intro w;cases S with
    | none=>exact pV true Q V W bn bn
    | some l=>exact yY true Q V W bn bn (by simpa using c2)
   refine⟨_,gu hX E D N p,?_⟩;rw[c3,M];simp only[aK,if_true];exact⟨_,_,_,rfl,lD,bn,(kH.cut Y C (S.getD 0) T T c2 bn bn),rfl⟩
 unfold Ao at h;split at h
 ·
  rename_i D;rename_i s;simp only[aK,Rel]at hu;subst hu;split at h
  ·simp at h
  ·simp only[eT]at Q;subst Q;have fin:∀{l h':Nat},(∀w,(Instr.sliceBounds false (ByteArray.mk s.toArray).size (ByteArray.mk s.toArray).size A q none).run P w = .ok (l,h',(ByteArray.mk s.toArray).size) w) ->
     v = .c (.str ((s.take h').drop l))->∃r,(Instr.sliceAt t (.string ⟨s.toArray⟩) A q none).run P w = .ok r w/\aK g v r:=by
    intro l h' p e;refine⟨_,ET hX E D p,?_⟩;rw[e,extract_mk];simp[aK,Rel]
   cases H with
   | none =>
    simp only at h;cases S with
    | none =>
     simp at h;subst h;exact fin (fun w=>jY false V W) (by simp[u9])
    | some l =>
     simp only at h;split at h
     ·rename_i r hr;obtain⟨rfl,hl⟩:=kI hr;simp at h;subst h;exact fin (fun w=>jX false V W (by rw[u9];exact hl)) (by simp[u9])
     ·simp at h
   | some T =>
    simp only at h;split at h
    ·rename_i s1 rS;obtain⟨rfl,IQ⟩:=pU rS;cases S with
     | none =>
      simp at h;subst h;exact fin (fun w=>lY false V W (by rw[u9];exact IQ)) c9
     | some l =>
      simp only at h;split at h
      ·rename_i r hr;obtain⟨rfl,hl⟩:=kI hr;simp at h;subst h;exact fin (fun w=>mM false V W (by rw[u9];exact IQ) (by simp at hl;omega)) c9
      ·simp at h
    ·simp at h
 ·
  rename_i e o s rows D;simp only[aK]at hu;obtain⟨base,U,I,rfl,Y,K,C,J⟩:=hu;split at h
  ·simp at h
  ·rename_i hs;have:=beq_true hs;subst this;obtain⟨j,N,M⟩:=B e D;split at h
   ·simp only[eT]at Q;subst Q;split at h
    ·rename_i l;split at h
     ·rename_i r hr;obtain⟨rfl,hl⟩:=kI hr;simp at h;subst h;refine⟨_,gu hX E D N (fun w=>jX true V W bn),?_⟩;rw[M];simp only[aK];refine⟨_,_,_,rfl,lD,bn,?_,J.drop bn⟩;have:=kH.cut Y C l U I bn (aak _) K;rwa[List.take_of_length_le bn]at this
     ·simp at h
    ·simp at h;subst h;refine⟨_,gu hX E D N (fun w=>jY true V W),?_⟩;rw[M];simp only[aK];refine⟨_,_,_,rfl,lD,bn,?_,J.drop bn⟩;have:=kH.cut Y C 0 U I bn (aak _) K;rwa[List.take_of_length_le bn]at this
   ·simp_all
   ·split at h
    ·simp_all
    ·simp at h
   ·simp at h
 ·rename_i e s rows D;simp only[aK,Rel]at hu;obtain⟨base,U,I,rfl,Y,K,C⟩:=hu;split at h
  ·simp at h
  ·rename_i hs;have:=beq_true hs;subst this;obtain⟨j,N,M⟩:=B e D;split at h
   ·simp only[eT]at Q;subst Q;split at h
    ·rename_i l;split at h
     ·rename_i r hr;obtain⟨rfl,hl⟩:=kI hr;simp at h;subst h;refine⟨_,gu hX E D N (fun w=>jX true V W bn),?_⟩;rw[M];simp only[aK,Rel];refine⟨_,_,_,rfl,lD,bn,?_⟩;have:=kH.cut Y C l U I bn (aak _) K;rwa[List.take_of_length_le bn]at this
     ·simp at h
    ·simp at h;subst h;refine⟨_,gu hX E D N (fun w=>jY true V W),?_⟩;rw[M];simp only[aK,Rel];refine⟨_,_,_,rfl,lD,bn,?_⟩;have:=kH.cut Y C 0 U I bn (aak _) K;rwa[List.take_of_length_le bn]at this
   ·exact cut D Y K C rfl rfl h
   ·split at h
    ·rename_i p;have:=beq_true p;subst this;exact cut (ex:=true) D Y K C rfl rfl h
    ·simp at h
   ·simp at h
 ·simp at h
end
end Go.cq
namespace Go.cq
theorem ou:∀{off:Nat} {vs l r:List AV},dK off vs l=some r ->
  r.length=l.length/\off+vs.length<=l.length+(if vs=[]then off else 0)/\∀(j:Nat),r[j]?=if off<=j/\j<off+vs.length then vs[j-off]? else l[j]?
 | off,[],l,r,h=>by
  cases off<;>simp[dK]at h<;>subst h<;>simp<;>intros<;>omega
 | 0,v::vs,[],r,h=>by simp[dK]at h
 | 0,v::vs,x::l,r,h=>by
  simp only[dK]at h;split at h
  ·rename_i Q E;simp at h;subst h;obtain⟨h1,h2,V⟩:=ou E;refine⟨P9,?_,?_⟩
   ·simp_all
   ·grind
  ·simp at h
 | n+1,v::vs,[],r,h=>by simp[dK]at h
 | n+1,v::vs,x::l,r,h=>by
  simp only[dK]at h;split at h
  ·rename_i Q E;simp at h;subst h;obtain⟨h1,h2,V⟩:=ou E;refine⟨P9,?_,?_⟩
   ·simp at h2 ⊢;omega
   ·grind
  ·simp at h
theorem Md {off:Nat} {v:AV} {vs l r:List AV} (h:dK off (v::vs) l=some r):off+(v::vs).length<=l.length:=by
 have:=(ou h).2.1;simpa using this
section
variable {P : Program} {X : Ctx} {w : World} {g : Gh}
theorem wj {a:AV} {vs:List AV} (h:jR a=some vs) {u:Value} (I:aK g a u) :
  bF g vs u.cells.toList/\vs.all AV.one=true:=by
 have Y:∀(cs:List CV) (us:List Value),bL g.G cs us->cs.all CV.one=true->bF g (cs.map AV.c) us/\(cs.map AV.c).all AV.one=true:=by
  intro cs
  induction cs with
  | nil=>intro us h1 _;simp only[bL]at h1;subst h1;simp[bF]
  | cons c cs S =>
   intro us h1 h2;simp only[bL]at h1;obtain⟨u,us,rfl,E,I⟩:=h1;simp at h2;obtain⟨P,T⟩:=S us I (by simpa using h2.2);exact⟨by simp only[List.map_cons,bF];exact⟨u,us,rfl,by simpa only[aK]using E,P⟩,by simp only[List.map_cons,List.all_cons,AV.one,h2.1,Bool.true_and];exact T⟩
 cases a with
 | c v =>
  have W:∀(v:CV) (u:Value),v.one=true->Rel g.G v u->bF g [.c v] u.cells.toList/\([AV.c v].all AV.one=true):=by
   intro v u p I;have E:u.cells.toList=[u]:=by
    cases v<;>simp only[Rel]at I<;>simp[CV.one]at p
    case int=>subst I;rfl
    case bool=>subst I;rfl
    case str=>subst I;rfl
    case lO=>subst I;rfl
    case sl=>obtain⟨_,_,_,rfl,_⟩:=I;rfl
    case ip=>obtain⟨_,_,rfl,_⟩:=I;rfl
    case rM=>obtain⟨_,rfl,_⟩:=I;rfl
    case any =>
     cases u<;>first|rfl|(exact absurd rfl (I.1 _))
    case qG=>obtain⟨_,rfl⟩:=I;rfl
   rw[E];exact⟨by simp only[bF,aK];exact⟨u,[],rfl,I,rfl⟩,by simp[AV.one,p]⟩
  simp only[aK]at I;cases v<;>simp only[jR,FP,Option.some.injEq,reduceCtorEq]at h
  case agg cs =>
   subst h;simp only[Rel]at I;obtain⟨us,rfl,h1,h2⟩:=I;have:=Y cs us h1 h2;simpa[Value.cells]using this
  all_goals (subst h;exact W _ _ rfl I)
 | own k s rows =>
  simp[jR]at h;subst h;have M:=I;simp only[aK]at M;obtain⟨base,Q,V,rfl,_⟩:=M;refine⟨?_,rfl⟩;simp only[Value.cells,bF];exact⟨_,[],rfl,I,rfl⟩
 | ptr U off =>
  simp[jR]at h;subst h;have M:=I;simp only[aK]at M;obtain⟨b,_,rfl⟩:=M;refine⟨?_,rfl⟩;simp only[Value.cells,bF];exact⟨_,[],rfl,I,rfl⟩
 | gv U off s n =>
  simp[jR]at h;subst h;have M:=I;simp only[aK]at M;obtain⟨b,V,o,_,rfl,_⟩:=M;refine⟨?_,rfl⟩;simp only[Value.cells,bF];exact⟨_,[],rfl,I,rfl⟩
 | any =>
  simp[jR]at h;subst h;have M:=I;simp only[aK]at M;have E:u.cells.toList=[u]:=by
   cases u<;>first|rfl|exact absurd rfl (M.1 _)
  rw[E];refine⟨?_,rfl⟩;simp only[bF];exact⟨_,[],rfl,I,rfl⟩
 | agg cs =>
  simp[jR]at h;subst h;simp only[aK]at I;obtain⟨us,rfl,h1,h2⟩:=I;exact⟨by simpa[Value.cells]using h1,h2⟩
 | gy cs=>simp[jR]at h
theorem Dg (off:Nat):∀(l:List Value) (k:Nat) (cells:Array Value),off+k+l.length<=cells.size ->
  ((l.zipIdx k).foldl (fun(cs:Array Value) (p:Value×Nat)=>cs.setIfInBounds (off+p.2) p.1) cells).size=cells.size /\
  ∀j,((l.zipIdx k).foldl (fun(cs:Array Value) (p:Value×Nat)=>cs.setIfInBounds (off+p.2) p.1) cells)[j]? =
   if off+k<=j/\j<off+k+l.length then l[j-(off+k)]? else cells[j]?
 | [],k,cells,_=>by simp;intros;omega
 | v::l,k,cells,h=>by
  simp only[List.zipIdx_cons,List.foldl_cons];obtain⟨h1,h2⟩:=Dg off l (k+1) (cells.setIfInBounds (off+k) v) (by simp at h ⊢;omega);refine⟨by rw[h1];simp,fun j=>?_⟩;rw[h2];by_cases E:off+(k+1)<=j/\j<off+(k+1)+l.length
  ·grind
  ·grind
theorem Dh (hX:cx P X) {ρ:Operand->Option AV} {ev:Operand->Value} (O:∀x v,ρ x=some v->aK g v (ev x)) {U:List (Nat×Nat)} (Y:Nat->Option (Nat×Nat))
  (T:∀i off W j,nth U i=some (off,W)->X.ti W=some j->Y i=some (off,j.size)) :
  ∀{H:List (Nat×Operand)} {cells r:List AV} {vs:Array Value},sj X ρ U H cells=some r->bF g cells vs.toList->cells.all AV.one=true ->
   ∃us,Instr.fill Y vs (H.map fun(i,x)=>(i,ev x))=some us/\bF g r us.toList/\r.all AV.one=true
 | [],cells,r,vs,h,I,V=>by simp[sj]at h;subst h;exact⟨vs,by simp[Instr.fill],I,V⟩
 | (i,x)::rest,cells,r,vs,h,I,V=>by
  simp only[sj]at h;split at h
  ·rename_i off W a h1 h2;split at h
   ·rename_i j us S M;split at h
    ·rename_i cells' K B;have J:=beq_true K;obtain⟨Q,G⟩:=wj M (O x a h2);have N:us.length=(ev x).cells.size:=by rw[(bF.get Q).1];simp
     have q:j.size≠0:=by obtain⟨_,_,_,_,_,_,E⟩:=hX.ti W j S;exact E
     obtain⟨C,c2⟩:=bF.get I;obtain⟨w1,w2,A⟩:=ou B;have u:off+us.length<=cells.length:=by grind
     have hvs:cells.length=vs.size:=by rw[C];simp
     obtain⟨f1,f2⟩:=Dg off (ev x).cells.toList 0 vs lD;have hf:Instr.fill Y vs (((i,x)::rest).map fun(i,x)=>(i,ev x)) =
       Instr.fill Y ((ev x).cells.zipIdx.foldl (fun cs (c,j)=>cs.setIfInBounds (off+j) c) vs) (rest.map fun(i,x)=>(i,ev x)):=by
      simp only[List.map_cons,Instr.fill,T i off W j h1 S];rw[if_neg];simp;omega
     have SE:(ev x).cells.zipIdx.foldl (fun cs (c,j)=>cs.setIfInBounds (off+j) c) vs =
       ((ev x).cells.toList.zipIdx 0).foldl (fun(cs:Array Value) (p:Value×Nat)=>cs.setIfInBounds (off+p.2) p.1) vs:=by
      rw[<- Array.foldl_toList];simp
     rw[hf,SE];obtain⟨a1,a2⟩:=bF.get Q;apply Dh hX O Y T h
     ·apply bF.jQ
      ·simp_all
      ·grind
     ·rw[List.all_eq_true]at V G ⊢;intro y hy;obtain⟨k,D⟩:=List.getElem?_of_mem hy;rw[A]at D;split at D
      ·grind
      ·grind
    ·simp at h
   ·simp at h
  ·simp at h
end
end Go.cq
namespace Go.cq
section
variable {P : Program} {X : Ctx} {w : World} {g : Gh}
theorem sn:(∀(a:AV) (v:CV) (u:Value),close a=some v->aK g a u->Rel g.G v u/\(a.one=true->v.one=true)):=by
 intro a;refine AV.rec (motive_1:=fun a=>∀(v:CV) (u:Value),close a=some v->aK g a u->Rel g.G v u/\(a.one=true->v.one=true))
  (motive_2:=fun l=>∀(vs:List CV) (us:List Value),An l=some vs->bF g l us->bL g.G vs us/\(l.all AV.one=true->vs.all CV.one=true)/\vs.length=l.length) ?_ ?_ ?_ ?_ ?_ ?_ ?_ ?_ ?_ a
 ·intro v w' u h I;simp[close]at h;subst h;exact⟨by simpa only[aK]using I,id⟩
 ·intro k s rows v u h I;simp[close]at h;subst h;simp only[aK]at I;obtain⟨base,Y,M,rfl,h1,h2,O,_⟩:=I;exact⟨by simp only[Rel];exact⟨base,Y,M,rfl,h1,h2,O⟩,fun _=>rfl⟩
 ·intro W off v u h;simp[close]at h
 ·intro W off s n v u h;simp[close]at h
 ·intro v u h;simp[close]at h
 ·intro cs S v u h I;simp only[close]at h;split at h
  ·rename_i l A;simp at h;subst h;simp only[aK]at I;obtain⟨us,rfl,h1,h2⟩:=I;obtain⟨V,P,_⟩:=S l us A h1;exact⟨by simp only[Rel];exact⟨us,rfl,V,P h2⟩,fun h=>by simp[AV.one]at h⟩
  ·simp at h
 ·intro cs S v u h I;simp only[close]at h;split at h
  ·rename_i l A;simp at h;subst h;simp only[aK]at I;obtain⟨us,rfl,h1,h2⟩:=I;obtain⟨V,P,q⟩:=S l us A h1;exact⟨by simp only[Rel];exact⟨us,rfl,V,bn⟩,fun h=>by simp[AV.one]at h⟩
  ·simp at h
 ·intro vs us h I;simp[An]at h;subst h;simp only[bF]at I;subst I;simp[bL]
 ·intro a l U T vs us h I;simp only[An]at h;split at h
  ·rename_i v N;split at h
   ·rename_i r Q;simp at h;subst h;simp only[bF]at I;obtain⟨u,us,rfl,h1,h2⟩:=I;obtain⟨C,H⟩:=U v u N h1;obtain⟨K,J,E⟩:=T r us Q h2;refine⟨by simp only[bL];exact⟨u,us,rfl,C,K⟩,fun h=>?_,by simp[E]⟩;simp only[List.all_cons,aai]at h ⊢;exact⟨H h.1,J h.2⟩
   ·simp at h
  ·simp at h
theorem nF {ρ:Operand->Option AV} {ev:Operand->Value} (O:∀x v,ρ x=some v->aK g v (ev x)) :
  ∀{l:List Operand} {r:List CV},gV ρ l=some r->bL g.G r (l.map ev)
 | [],r,h=>by simp[gV]at h;subst h;simp[bL]
 | x::l,r,h=>by
  simp only[gV]at h;split at h
  ·rename_i a u;split at h
   ·rename_i v Y;split at h
    ·rename_i Q I;simp at h;subst h;simp only[List.map_cons,bL];exact⟨_,_,rfl,(sn a v _ Y (O x a u)).1,nF O I⟩
    ·simp at h
   ·simp at h
  ·simp at h
theorem Ap {α:Type} {cs rest:List α} {off:Nat} {c:α} (h:cs.drop off=c::rest):cs[off]?=some c:=by
 have:=congrArg (fun l=>l[0]?) h;simpa using this
theorem Di (hX:cx P X) {t:Nat} {i:TI} (W:X.ti t=some i) {vs:Array Value} {off:Nat} {r:AV}
  (h:(∃cs rest,bF g cs vs.toList/\cs.all AV.one=true/\gr off cs=some rest/\xe i rest=some r) \/
   (∃cs rest,bL g.G cs vs.toList/\cs.all CV.one=true/\gr off cs=some rest/\Aj i rest=some r)) :
  ∃u,(part t vs off).run P w = .ok u w/\aK g r u:=by
 have Q:i.size≠0:=by obtain⟨_,_,_,_,_,_,O⟩:=hX.ti t i W;exact O
 rcases h with ⟨cs,rest,h1,h2,T,Y⟩|⟨cs,rest,h1,h2,T,Y⟩
 ·obtain⟨rfl,A⟩:=kI T;obtain⟨q,J⟩:=bF.get h1;unfold xe at Y;cases C:i.isAgg<;>rw[C]at Y<;>simp only at Y
  ·split at Y
   ·rename_i c V S;simp at Y;subst Y;have E:cs[off]?=some c:=Ap S;obtain⟨u,I,K⟩:=J off c E;refine⟨u,?_,K⟩;have:vs[off]?=some u:=by simpa using I
    simp[part,hX.pe W,C,this]
   ·simp at Y
  ·split at Y
   ·rename_i l U;simp at Y;subst Y;obtain⟨rfl,N⟩:=pU U;refine⟨.agg (vs.extract off (off+i.size)),by simp[part,hX.pe W,C,hX.run_sizeOf W],?_⟩;simp only[aK];refine⟨(vs.extract off (off+i.size)).toList,rfl,?_,?_⟩
    ·apply bF.jQ
     ·simp_all
     ·grind
    ·grind
   ·simp at Y
 ·obtain⟨rfl,A⟩:=kI T;obtain⟨q,J⟩:=bL.get h1;unfold Aj at Y;cases C:i.isAgg<;>rw[C]at Y<;>simp only at Y
  ·split at Y
   ·rename_i c V S;simp at Y;subst Y;have E:cs[off]?=some c:=Ap S;obtain⟨u,I,K⟩:=J off c E;refine⟨u,?_,by simpa only[aK]using K⟩;have:vs[off]?=some u:=by simpa using I
    simp[part,hX.pe W,C,this]
   ·simp at Y
  ·split at Y
   ·rename_i l U;simp at Y;subst Y;obtain⟨rfl,N⟩:=pU U;refine⟨.agg (vs.extract off (off+i.size)),by simp[part,hX.pe W,C,hX.run_sizeOf W],?_⟩;simp only[aK,Rel];refine⟨(vs.extract off (off+i.size)).toList,rfl,?_,?_⟩
    ·apply bL.jQ
     ·simp_all
     ·grind
    ·grind
   ·simp at Y
end
end Go.cq
namespace Go.cq
section
variable {P : Program} {X : Ctx} {w : World} {g : Gh}
theorem Bg (hX:cx P X) {t:Nat} {i:TI} (I:X.ti t=some i) {V:List (Nat×Nat)} (D:i.kind = .struct V) {f off p:Nat} (hf:nth V f=some (off,p)) (b o:Nat) :
  (Instr.fieldAt t (.pointer (some ⟨b,o,none⟩)) f).run P w = .ok (.pointer (some ⟨b,o+off,none⟩)) w:=by
 obtain⟨d,H,B,_⟩:=hX.run_underlying (w:=w) I;rw[D]at B;simp only[eF]at B;obtain⟨Y,rfl,h1,h2⟩:=B;rw[rD,<- h1]at hf;simp at hf;obtain⟨U,C,K,S⟩:=hf;have W:U∈Y.toList:=by rw[Array.mem_toList_iff];exact Array.mem_of_getElem? C
 obtain⟨G,T,A⟩:=h2 U W;simp[Instr.fieldAt,H,C,Instr.sureAddr,fieldPlace,sizeOf,typeInfo,T,A,K,Addr.add_lit]
theorem FR (hX:cx P X) {t:Nat} {i:TI} (I:X.ti t=some i) {W:List (Nat×Nat)} (D:i.kind = .struct W) {f off p:Nat} (hf:nth W f=some (off,p)) (vs:Array Value) :
  (Instr.field t (.agg vs) f).run P w=(part p vs off).run P w:=by
 obtain⟨d,H,B,_⟩:=hX.run_underlying (w:=w) I;rw[D]at B;simp only[eF]at B;obtain⟨Y,rfl,h1,h2⟩:=B;rw[rD,<- h1]at hf;simp at hf;obtain⟨T,C,U,V⟩:=hf;simp[Instr.field,H,C,asAgg,U,V]
theorem tZ (hX:cx P X):∀(Y:List Field),(∀f∈Y,∃G,P.info? f.type=some G/\G.size≠0) ->
  ∃W:List (Nat×Nat),(Y.mapM (m:=Sem) fun f=>do pure (f.offset,<- sizeOf f.type)).run P w = .ok W w/\W.length=Y.length /\
   ∀(k:Nat) (f:Field),Y[k]?=some f->∃G,P.info? f.type=some G/\W[k]?=some (f.offset,G.size)
 | [],_=>⟨[],c9,rfl,c9⟩
 | f::Y,h=>by
  obtain⟨G,C,U⟩:=h f c9;obtain⟨W,h1,h2,V⟩:=tZ hX Y (fun f hf=>h f (by simp[hf]));refine⟨(f.offset,G.size)::W,?_,by simp[h2],?_⟩
  ·simp only[List.mapM_cons,Sem.run_bind,sizeOf,typeInfo,run_program,Result.andThen_ok,C,Sem.run_pure];simp only[sizeOf,typeInfo]at h1;rw[h1];rfl
  ·grind
theorem run_build (hX:cx P X) {t:Nat} {i:TI} (I:X.ti t=some i) {U:List (Nat×Nat)} (D:i.kind = .struct U) {z r:List AV} (Q:i.zero=some (.agg z))
  {ρ:Operand->Option AV} {ev:Operand->Value} (O:∀x v,ρ x=some v->aK g v (ev x)) {H:Array (Nat×Operand)}
  (h:sj X ρ U H.toList z=some r) :
  ∃u,(Instr.build t (H.map fun(i,x)=>(i,ev x))).run P w = .ok u w/\aK g (.agg r) u:=by
 obtain⟨d,N,B,_⟩:=hX.run_underlying (w:=w) I;rw[D]at B;simp only[eF]at B;obtain⟨Y,rfl,h1,h2⟩:=B;obtain⟨zv,M,K,z3⟩:=hX.lP (w:=w) I Q;have T:=K g;simp only[aK]at T;obtain⟨J,rfl,G,E⟩:=T;obtain⟨W,A,p2,q⟩:=tZ (P:=P) (w:=w) hX Y.toList h2
 obtain⟨us,p,f2,f3⟩:=Dh hX O (fun(i:Nat)=>W[i]?) (by
  intro i off ft j C e2;rw[rD,<- h1]at C;simp at C;obtain⟨fl,e3,e4,e5⟩:=C;obtain⟨inf,S,e7⟩:=q i fl (by simpa using e3);obtain⟨aeY,V,e9,_⟩:=hX.ti ft j e2;rw[e5]at S;rw[S]at V;simp at V;subst V
  simp[e7,e4,e9]) (vs:=J.toArray) h (by simpa using G) E
 refine⟨.agg us,?_,QC⟩;simp only[Instr.build,Sem.run_bind,M,Result.andThen_ok,N,Value.cells]
 rw[show(Y.mapM (m:=Sem) fun f=>do pure (f.offset,<- sizeOf f.type))=(Y.toList.mapM fun f=>do pure (f.offset,<- sizeOf f.type)) >>= fun l=>pure l.toArray from by
  rw[Array.mapM_eq_mapM_toList];rfl]
 simp only[Sem.run_bind,A,Result.andThen_ok,Sem.run_pure];have:(fun(i:Nat)=>(W.toArray[i]?:Option (Nat×Nat)))=fun(i:Nat)=>W[i]?:=by funext i;simp
 rw[this];simp only[Array.toList_map];rw[p];rfl
theorem Bh {g:Gh} {k:IntKind} {n:Int} {u:Value} (h:aK g (.c (.int k n)) u):u = .int k n:=by simpa only[aK,Rel]using h
theorem Vi (hX:cx P X) {t:Nat} {i:TI} (W:X.ti t=some i) {a v:AV} (h:Xs i.kind a=some v) {u:Value} (A:aK g a u) (ty:TypeId) :
  ∃r,(Builtin.len_ #[t] ty #[u]).run P w = .ok r w/\aK g v r:=by
 obtain⟨d,H,B,_⟩:=hX.run_underlying (w:=w) W;unfold Xs at h;split at h
 ·rename_i e o s rows D;rw[D]at B;simp only[eF]at B;subst B;simp at h;subst h;simp only[aK]at A;obtain⟨base,Y,I,rfl,p,_⟩:=A;exact⟨.int .i64 Y,Tf,by simp[aK,Rel,p]⟩
 ·rename_i e V off s n D;rw[D]at B;simp only[eF]at B;subst B;simp at h;subst h;simp only[aK]at A;obtain⟨b,I,o,_,rfl,_⟩:=A;exact⟨.int .i64 n,Tf,ot⟩
 ·rename_i e s rows D;rw[D]at B;simp only[eF]at B;subst B;simp at h;subst h;simp only[aK,Rel]at A;obtain⟨base,Y,I,rfl,p,_⟩:=A;exact⟨.int .i64 Y,Tf,by simp[aK,Rel,p]⟩
 ·rename_i s D;rw[D]at B;simp only[eF]at B;subst B;simp at h;subst h;simp only[aK,Rel]at A;subst A;exact⟨.int .i64 s.length,by simp[Builtin.len_,H,goInt,u9],ot⟩
 ·rename_i n e D;rw[D]at B;simp only[eF]at B;subst B;simp at h;subst h;exact⟨.int .i64 n,by cases u<;>simp[Builtin.len_,H,goInt],ot⟩
 ·simp at h
end
end Go.cq
namespace Go.cq
section
variable {P : Program} {X : Ctx} {w : World} {g : Gh}
theorem JL (hX:cx P X) {K:List (Nat×List AV)}
  (ij:∀b o v,g.G b o=some v->w.cell? ⟨b,o,none⟩=some v)
  (Zq:∀k cs,ak k K=some cs->∃b,g.box k=some b/\cr w g b 0 cs)
  {ρ:Operand->Option AV} {ev:Operand->Value} (O:∀x v,ρ x=some v->aK g v (ev x)) {o:Oper} {v:AV} (h:gH X K ρ o.op=some v) :
  ∃u,(execOp ev o).run P w = .ok (.value u) w/\aK g v u:=by
 have fin:∀{s:Sem Value},(∃u,s.run P w = .ok u w/\aK g v u)->∃u,(do pure (Next.value (<- s)):Sem Next).run P w = .ok (.value u) w/\aK g v u:=by simp_all
 have Zr:∀{b n:Nat} {cs r:List AV},cr w g b 0 cs->gr n cs=some r->cr w g b n r:=by
  intro b n cs r h1 h2;obtain⟨rfl,_⟩:=kI h2;apply cr.jQ;intro j c V;rw[List.getElem?_drop]at V;simpa using h1.get (n+j) c V
 obtain⟨dst,op,type,pos,after,guard⟩:=o;simp only at h;unfold gH at h;split at h
 ·rename_i x;exact⟨ev x,by simp[execOp],O x v h⟩
 ·rename_i x;exact⟨ev x,by simp[execOp],O x v h⟩
 ·rename_i c a b;split at h
  ·rename_i t av bv h1 h2 U;have E:=O c _ h1;simp only[aK,Rel]at E;have ha:=O a _ h2;have T:=O b _ U;refine⟨if t then ev a else ev b,by simp[execOp,E,asBool],?_⟩;unfold Wu at h;split at h
   ·grind
   ·grind
  ·simp at h
 ·rename_i t x;split at h
  ·rename_i i key off h1 h2;have N:=O x _ h2;simp only[aK]at N;obtain⟨b,T,N⟩:=N;split at h
   ·rename_i cells iQ;split at h
    ·rename_i l A;obtain⟨b',H,Zs⟩:=Zq key cells iQ;rw[T]at H;simp at H;subst H;simp only[execOp];rw[N];exact fin (Sz hX h1 (Zr Zs A) h)
    ·simp at h
   ·simp at h
  ·rename_i i cs h1 h2;have N:=O x _ h2;simp only[aK,Rel]at N;obtain⟨b,o,N,E⟩:=N;simp only[execOp];rw[N];exact fin (PU hX ij h1 E h)
  ·simp at h
 ·rename_i x;split at h
  ·rename_i k o h1;have N:=O x _ h1;simp at h;subst h;have W:=N;simp only[aK]at W;obtain⟨b,T,e⟩:=W;exact⟨ev x,by simp[execOp,e],N⟩
  ·rename_i cs h1;have N:=O x _ h1;simp at h;subst h;have W:=N;simp only[aK,Rel]at W;obtain⟨b,o,e,_⟩:=W;exact⟨ev x,by simp[execOp,e],N⟩
  ·rename_i f cs h1;have N:=O x _ h1;simp at h;subst h;have W:=N;simp only[aK,Rel]at W;obtain⟨vs,e,_⟩:=W;exact⟨ev x,by simp[execOp,e],N⟩
  ·simp at h
 ·rename_i op t x y _;split at h
  ·rename_i i a b h1 h2 U;exact fin (Vh hX h1 h (O x _ h2) (O y _ U) x y)
  ·simp at h
 ·rename_i op _ x;split at h
  ·rename_i b h1;have N:=O x _ h1;simp only[aK,Rel]at N;simp at h;subst h;exact⟨.bool !b,by simp[execOp,N,Op.unary],ot⟩
  ·rename_i k n h1;have N:=O x _ h1;simp only[aK,Rel]at N;simp at h;subst h;exact⟨.int k (k.wrap (0-n)),by simp[execOp,N,Op.unary,Op.intArith],ot⟩
  ·simp at h
 ·rename_i s d x;split at h
  ·rename_i i j k n h1 h2 U;have N:=O x _ U;simp only[aK,Rel]at N;split at h
   ·rename_i k' D;simp at h;subst h;obtain⟨d1,C,_,Q⟩:=hX.run_underlying (w:=w) h1;obtain⟨d2,e3,e4,e5⟩:=hX.run_underlying (w:=w) h2;rw[D]at e4;simp only[eF]at e4;subst e4;exact⟨.int k' (k'.wrap n),by simp[execOp,N,convert,C,e3,Conv.intToInt],ot⟩
   ·simp at h
  ·simp at h
 ·rename_i t x f;split at h
  ·rename_i i a h1 h2;have N:=O x _ h2;split at h
   ·rename_i fs D;split at h
    ·rename_i off ft hf;split at h
     ·rename_i k o;simp at h;subst h;simp only[aK]at N;obtain⟨b,T,e⟩:=N;exact⟨_,by simp[execOp,e,Bg hX h1 D hf];rfl,by simp only[aK];exact⟨b,T,rfl⟩⟩
     ·rename_i cs;split at h
      ·rename_i r q;simp at h;subst h;simp only[aK,Rel]at N;obtain⟨b,o,e,E⟩:=N;obtain⟨rfl,_⟩:=kI q;exact⟨_,by simp[execOp,e,Bg hX h1 D hf];rfl,by simp only[aK,Rel];exact⟨b,o+off,rfl,E.drop⟩⟩
      ·simp at h
     ·simp at h
    ·simp at h
   ·simp at h
  ·simp at h
 ·rename_i t x f;split at h
  ·rename_i i a h1 h2;have N:=O x _ h2;split at h
   ·rename_i fs D;split at h
    ·rename_i off ft hf;split at h
     ·rename_i j V;split at h
      ·rename_i cs;split at h
       ·rename_i r q;simp only[aK]at N;obtain⟨vs,e,p,c2⟩:=N;have:=Di (P:=P) (w:=w) hX V (vs:=vs.toArray) (off:=off) (.inl ⟨cs,r,by simpa using p,c2,q,h⟩);simp only[execOp,e];refine fin ?_;rw[FR hX h1 D hf];exact this
       ·simp at h
      ·rename_i cs;split at h
       ·rename_i r q;simp only[aK,Rel]at N;obtain⟨vs,e,p,c2⟩:=N;have:=Di (P:=P) (w:=w) hX V (vs:=vs.toArray) (off:=off) (.inr ⟨cs,r,by simpa using p,c2,q,h⟩);simp only[execOp,e];refine fin ?_;rw[FR hX h1 D hf];exact this
       ·simp at h
      ·simp at h
     ·simp at h
    ·simp at h
   ·simp at h
  ·simp at h
 ·rename_i t x ix;split at h
  ·rename_i i a na h1 h2 U;have N:=O x _ h2;have M:=O ix _ U;split at h
   ·rename_i n hn';obtain⟨k,M⟩:=wh hn' M;obtain⟨d,jm,B,_⟩:=hX.run_underlying (w:=w) h1;split at h
    ·rename_i e D;rw[D]at B;simp only[eF]at B;subst B;split at h
     ·rename_i j s rows V q;split at h
      ·rename_i r T Xv;have:=beq_true T;subst this;simp at h;subst h;obtain⟨base,len,cap,C,Q,_,e3⟩:=Df q N;rw[rD]at Xv;have I:n<rows.length:=(List.getElem?_eq_some_iff.1 Xv).1;rcases e3 with rfl|⟨b,o,rfl,fM⟩
       ·simp at I
       ·have hg:=(fM.get n r Xv).1;refine⟨.pointer (some ⟨b,o+n*j.size,none⟩),?_,by simp only[aK,Rel];exact⟨b,_,rfl,hg⟩⟩;simp[execOp,C,M,Instr.indexAt,asIntOf,jm,Q,I,hX.run_sizeOf V,Addr.add_lit]
      ·simp at h
     ·simp at h
    ·rename_i m e D;rw[D]at B;simp only[eF]at B;subst B;split at h
     ·rename_i j k' o V hlt';simp at h;subst h;have I:n<m:=by simpa[Nat.blt_eq]using hlt'
      simp only[aK]at N;obtain⟨b,T,C⟩:=N;refine⟨.pointer (some ⟨b,o+n*j.size,none⟩),?_,by simp only[aK];exact⟨b,T,rfl⟩⟩;simp[execOp,C,M,Instr.indexAt,asIntOf,jm,Instr.sureAddr,I,hX.run_sizeOf V,Addr.add_lit]
     ·simp at h
    ·simp at h
   ·simp at h
  ·simp at h
 ·rename_i t x ix;split at h
  ·rename_i i a na h1 h2 U;have N:=O x _ h2;have M:=O ix _ U;split at h
   ·rename_i n hn';obtain⟨k,M⟩:=wh hn' M;obtain⟨d,jm,B,_⟩:=hX.run_underlying (w:=w) h1;split at h
    ·rename_i s D;rw[D]at B;simp only[eF]at B;subst B;simp only[aK,Rel]at N;split at h
     ·rename_i b T;simp at h;subst h;rw[rD]at T;have I:n<s.length:=(List.getElem?_eq_some_iff.1 T).1;have kg:(ByteArray.mk s.toArray)[n]?=some b:=by
       rw[getElem?_pos _ _ (by rw[u9];exact I)];congr 1;have:=(List.getElem?_eq_some_iff.1 T).2;rw[<- this];rfl
      refine⟨.int .u8 b.toNat,?_,ot⟩;simp[execOp,N,M,Instr.index,asIntOf,jm,kg]
     ·simp at h
    ·simp at h
   ·simp at h
  ·simp at h
 ·rename_i x n;split at h
  ·rename_i cs h1;have N:=O x _ h1;simp only[aK]at N;obtain⟨vs,e,p,_⟩:=N;rw[rD]at h;obtain⟨u,C,Q⟩:=(bF.get p).2 n v h;exact⟨u,by simp[execOp,e,Instr.extract,C],Q⟩
  ·rename_i cs h1;have N:=O x _ h1;simp only[aK,Rel]at N;obtain⟨vs,e,p,_⟩:=N;split at h
   ·rename_i cv qA;simp at h;subst h;rw[rD]at qA;obtain⟨u,C,Q⟩:=(bL.get p).2 n cv qA;exact⟨u,by simp[execOp,e,Instr.extract,C],by simpa only[aK]using Q⟩
   ·simp at h
  ·simp at h
 ·rename_i t parts;split at h
  ·rename_i i h1;split at h
   ·rename_i fs z D hz;split at h
    ·rename_i cells E;simp at h;subst h;exact fin (run_build hX h1 D hz O E)
    ·simp at h
   ·simp at h
  ·simp at h
 ·rename_i t x lo hi mx;split at h
  ·rename_i i a lo' hi' mx' h1 h2 U h4 h5;have N:=O x _ h2;have b1:=oq O U;have b2:=oq O h4;have b3:=oq O h5;split at h
   ·rename_i e D;split at h
    ·rename_i j V;exact fin (FQ hX h1 (fun e' S=>by rw[D]at S;simp at S;subst S;exact⟨j,V,rfl⟩) h N b1 b2 b3)
    ·simp at h
   ·rename_i D;exact fin (FQ hX h1 (fun e' S=>absurd S (D e')) h N b1 b2 b3)
  ·simp at h
 ·rename_i f first J
  split at h
  ·rename_i l h1 h2;simp at h;subst h;have:=nF O h2;refine⟨.func (.func f) #[] (J.map ev),?_,by simp only[aK,Rel];exact⟨J.toList.map ev,by rw[<- Array.toList_map],this⟩⟩;have hf:first = #[]:=by simpa using h1
   simp[execOp,hf,Instr.makeFunc]
  ·simp at h
 ·rename_i args argTypes;split at h
  ·rename_i x t N ht;split at h
   ·rename_i i a h1 h2;have C:args = #[x]:=by simpa using congrArg List.toArray N
    have Q:argTypes = #[t]:=by simpa using congrArg List.toArray ht
    obtain⟨r,r1,r2⟩:=Vi (P:=P) (w:=w) hX h1 h (O x a h2) type;refine⟨r,?_,r2⟩;simp[execOp,resolve,invoke,builtin,C,Q,r1]
   ·simp at h
  ·simp at h
 ·rename_i args _;unfold Zo at h;split at h
  ·rename_i k a k' b Y;simp at h;subst h;cases A:args.toList with
   | nil=>rw[A]at Y;simp at Y
   | cons x l =>
    cases l with
    | nil=>rw[A]at Y;simp at Y
    | cons y l =>
     cases l with
     | cons z l=>rw[A]at Y;simp at Y
     | nil =>
      rw[A]at Y;simp at Y;have N:=O x _ Y.1;have hy:=O y _ Y.2;simp only[aK,Rel]at N hy;refine⟨.int k (if b<a then b else a),?_,ot⟩;have C:args = #[x,y]:=by simpa using congrArg List.toArray A
      simp[execOp,resolve,invoke,builtin,C,Builtin.min_,Builtin.min2,N,hy]
  ·simp at h
 ·rename_i args _;unfold Zp at h;split at h
  ·rename_i k a k' b Y;simp at h;subst h;cases A:args.toList with
   | nil=>rw[A]at Y;simp at Y
   | cons x l =>
    cases l with
    | nil=>rw[A]at Y;simp at Y
    | cons y l =>
     cases l with
     | cons z l=>rw[A]at Y;simp at Y
     | nil =>
      rw[A]at Y;simp at Y;have N:=O x _ Y.1;have hy:=O y _ Y.2;simp only[aK,Rel]at N hy;refine⟨.int k (if b>a then b else a),?_,ot⟩;have C:args = #[x,y]:=by simpa using congrArg List.toArray A
      simp[execOp,resolve,invoke,builtin,C,Builtin.max_,Builtin.max2,N,hy]
  ·simp at h
 ·simp at h
end
end Go.cq
namespace Go.cq
structure Fp where
 R:List Nat
 W:List Nat
 deriving Inhabited
abbrev Env:=List (Nat×AV)
def iA (k:Nat) (σ G:St):Prop:=ak k G.boxes=ak k σ.boxes/\ak k G.toks=ak k σ.toks/\(k∈G.used↔k∈σ.used)
def Agree (M:Fp) (σ G:St):Prop:=∀k,k∈M.R\/k∈M.W->iA k σ G
structure gR (yp:St->St) (fp:Fp):Prop where
 out:∀σ k,k ∉ fp.W->iA k σ (yp σ)
 same:∀σ σ1,Agree fp σ σ1->∀k,k∈fp.W->iA k (yp σ) (yp σ1)
theorem gR.id (R:List Nat):gR (fun σ=>σ) ⟨R,[]⟩:=⟨fun _ _ _=>⟨rfl,rfl,Iff.rfl⟩,fun _ _ _ k h=>by simp at h⟩
def bU (P:Program) (X:Ctx) (o:Oper) (env:Env) (σ:St) (v:AV) (A:St->St) (M:Fp):Prop :=
 ∀(Y:Env) (T:St) (w:World) (g:Gh) (a:Act) (next:Act->World->Prop) (Q:Exit->Act->World->Prop),
  (∀x∈o.op.operands.toList,aL X Y x=aL X env x)->Agree M σ T->Inv w g T->nC X g.G->tY g Y a.tmps ->
  (∀u w' g',aK g' v u->Inv w' g' (A T)->gQ w g T w' g' (A T)->g.le g'->next (a.put o.dst u) w')->o.wp P a w next Q
structure It where
 run:Bool
 v:AV
 yp:St->St
 fp:Fp
def It.skip:It:=⟨false,.c .undef,fun σ=>σ,⟨[],[]⟩⟩
def yZ (d:Option Nat) (v:AV) (env:Env):Env:=match d with
 | some d=>(d,v)::env
 | none=>env
def pW (ops:Array Oper) (j:Nat):Option Nat:=(ops[j]?).bind (·.dst)
def qH (ops:Array Oper) (o:Oper) (env:Env):Prop:=match o.guard with
 | none=>True
 | some (j,Y)=>∃d,pW ops j=some d/\ak d env=some (.c (.bool Y))
def pX (ops:Array Oper) (o:Oper) (env:Env):Prop:=match o.guard with
 | none=>False
 | some (j,Y)=>∃d,pW ops j=some d/\(ak d env=some (.c (.bool (!Y)))\/ak d env=some (.c .undef))
def mq (P:Program) (X:Ctx) (ops:Array Oper) (i:Nat) (G:It) (env:Env) (σ:St) (env':Env) (u:St):Prop :=
 ∃o,ops[i]?=some o/\env'=yZ o.dst G.v env/\u=G.yp σ/\gR G.yp G.fp /\
  ((G=It.skip/\pX ops o env)\/(G.run=true/\qH ops o env/\bU P X o env σ G.v G.yp G.fp))
def uk (P:Program) (X:Ctx) (ops:Array Oper):List (Nat×It)->Env->St->Env->St->Prop
 | [],env,σ,env',σ'=>env'=env/\σ'=σ
 | (i,T)::l,env,σ,env',σ'=>∃A G,mq P X ops i T env σ A G/\uk P X ops l A G env' σ'
def Ext (env:Env) (σ:St) (A:Env) (G:St):Prop:=(∀t,ak t A=ak t env)/\∀k,iA k σ G
theorem iA.refl (k:Nat) (σ:St):iA k σ σ:=⟨rfl,rfl,Iff.rfl⟩
theorem iA.symm {k:Nat} {σ G:St} (h:iA k σ G):iA k G σ:=⟨h.1.symm,h.2.1.symm,h.2.2.symm⟩
theorem iA.trans {k:Nat} {σ G Y:St} (h:iA k σ G) (E:iA k G Y):iA k σ Y :=
 ⟨E.1.trans h.1,E.2.1.trans h.2.1,E.2.2.trans h.2.2⟩
theorem Ext.refl (env:Env) (σ:St):Ext env σ env σ:=⟨fun _=>rfl,fun k=>iA.refl k σ⟩
theorem Ext.trans {e C U:Env} {s Y Q:St} (h:Ext e s C Y) (E:Ext C Y U Q):Ext e s U Q :=
 ⟨fun t=>(E.1 t).trans (h.1 t),fun k=>(h.2 k).trans (E.2 k)⟩
theorem au {α:Type} (t d:Nat) (v:α) (l:List (Nat×α)):ak t ((d,v)::l)=if t=d then some v else ak t l:=by
 simp only[ak];split
 ·simp_all
 ·rename_i h;rw[if_neg (fun e=>beq_false h e.symm)]
theorem sq (t:Nat) (d:Option Nat) (v:AV) (env:Env):ak t (yZ d v env)=if d=some t then some v else ak t env:=by
 cases d with
 | none=>simp[yZ]
 | some d =>
  simp only[yZ,au,Option.some.injEq];by_cases h:t=d
  ·subst h;simp
  ·grind
theorem Bi {X:Ctx} {env A:Env} {x:Operand} (h:∀t,x = .tmp t->ak t A=ak t env):aL X A x=aL X env x:=by
 cases x<;>simp[aL];exact h _ rfl
theorem bU.congr {P:Program} {X:Ctx} {o:Oper} {env A:Env} {σ G:St} {v:AV} {W:St->St} {M:Fp} (h:bU P X o env σ v W M)
  (V:∀x∈o.op.operands.toList,aL X A x=aL X env x) (U:Agree M σ G):bU P X o A G v W M :=
 fun T Y w g a next Q h1 h2=>h T Y w g a next Q (fun x O=>(h1 x O).trans (V x O)) (fun k D=>(U k D).trans (h2 k D))
theorem mq.wm {P:Program} {X:Ctx} {ops:Array Oper} {i:Nat} {Y:It} {env A env':Env} {σ G u:St} (h:mq P X ops i Y env σ env' u)
  (O:Ext env σ A G):∃V S,mq P X ops i Y A G V S/\Ext env' u V S:=by
 obtain⟨o,p,rfl,rfl,T,h⟩:=h;refine⟨_,_,⟨o,p,rfl,rfl,T,?_⟩,fun t=>?_,fun k=>?_⟩
 ·rcases h with ⟨h1,h2⟩|⟨h1,h2,Q⟩
  ·refine .inl ⟨h1,?_⟩;unfold pX at *;split at h2
   ·exact h2
   ·obtain⟨d,C,U⟩:=h2;exact⟨d,C,by rw[O.1];exact U⟩
  ·refine .inr ⟨h1,?_,Q.congr (fun x _=>Bi fun t _=>O.1 t) (fun k _=>O.2 k)⟩;unfold qH at *;split at h2
   ·trivial
   ·obtain⟨d,C,U⟩:=h2;exact⟨d,C,by rw[O.1];exact U⟩
 ·simp only[sq,O.1]
 ·by_cases D:k∈Y.fp.W
  ·exact T.same _ _ (fun k _=>O.2 k) k D
  ·exact((T.out σ k D).symm.trans (O.2 k)).trans (T.out G k D)
theorem uk.wm {P:Program} {X:Ctx} {ops:Array Oper}:∀{l:List (Nat×It)} {env A env':Env} {σ G u:St},uk P X ops l env σ env' u ->
  Ext env σ A G->∃V U,uk P X ops l A G V U/\Ext env' u V U
 | [],_,_,_,_,_,_,⟨h1,h2⟩,hx=>⟨_,_,⟨rfl,rfl⟩,by subst h1 h2;exact hx⟩
 | (i,O)::l,env,A,env',σ,G,u,⟨N,J,h1,h2⟩,hx=>by
  obtain⟨B,M,T,Y⟩:=h1.wm hx;obtain⟨K,S,Q,W⟩:=uk.wm h2 Y;exact⟨K,S,⟨B,M,T,Q⟩,W⟩
def SG (l r:List Nat):Bool:=l.all fun x => !r.contains x
theorem pY {l r:List Nat} (h:SG l r=true) {k:Nat} (h1:k∈l):k ∉ r:=by
 simp only[SG,List.all_eq_true]at h;have:=h k h1;simpa using this
def indep (ops:Array Oper) (i j:Nat) (f g:Fp):Bool:=match ops[i]?,ops[j]? with
 | some x,some y=>Oper.apart ops x y&&SG f.W g.R&&SG f.W g.W&&SG g.W f.R
 | _,_=>false
theorem BU {ops:Array Oper} {o:Oper} {t:Nat} (h:Operand.tmp t∈o.op.operands.toList):t∈o.looksAt ops:=by
 unfold Oper.looksAt;exact List.mem_append_left _ (List.mem_filterMap.2 ⟨_,h,rfl⟩)
theorem xg {ops:Array Oper} {o:Oper} {j:Nat} {b:Bool} {d:Nat} (h:o.guard=some (j,b)) (p:pW ops j=some d):d∈o.looksAt ops:=by
 unfold Oper.looksAt;refine List.mem_append_right _ ?_;rw[h];simp only;unfold pW at p;rw[p];simp
theorem mq.before {P:Program} {X:Ctx} {ops:Array Oper} {i:Nat} {o:Oper} (V:ops[i]?=some o) {T:It} {env A:Env} {σ G:St}
  (p:∀t∈o.looksAt ops,ak t A=ak t env) (S:Agree T.fp σ G) {env':Env} {u:St} (h:mq P X ops i T env σ env' u) :
  mq P X ops i T A G (yZ o.dst T.v A) (T.yp G):=by
 obtain⟨q,Y,rfl,rfl,Q,h⟩:=h;rw[V]at Y;simp at Y;subst Y;refine⟨o,V,rfl,rfl,Q,?_⟩;rcases h with ⟨h1,h2⟩|⟨h1,h2,O⟩
 ·refine .inl ⟨h1,?_⟩;unfold pX at *;split at h2
  ·exact h2
  ·rename_i j W E;obtain⟨d,C,U⟩:=h2;exact⟨d,C,by rw[p d (xg E C)];exact U⟩
 ·refine .inr ⟨h1,?_,O.congr (fun x N=>Bi fun t M=>?_) S⟩
  ·unfold qH at *;split at h2
   ·trivial
   ·rename_i j W E;obtain⟨d,C,U⟩:=h2;exact⟨d,C,by rw[p d (xg E C)];exact U⟩
  ·subst M;exact p t (BU N)
theorem mq.swap {P:Program} {X:Ctx} {ops:Array Oper} {i j:Nat} {x y:It} {env p Vj:Env} {σ G Y:St} (I:indep ops i j x.fp y.fp=true)
  (h1:mq P X ops i x env σ p G) (h2:mq P X ops j y p G Vj Y) :
  ∃C N K M,mq P X ops j y env σ C N/\mq P X ops i x C N K M/\Ext Vj Y K M:=by
 obtain⟨ox,V,C,N,U,hx⟩:=id h1;obtain⟨J,T,K,M,S,hy⟩:=id h2;unfold indep at I;simp only[V,T,aai]at I;obtain⟨⟨⟨H,jm⟩,gZ⟩,Xr⟩:=I;obtain⟨a1,a2,a3⟩:=Oper.apart_spec H;subst C N;have A:mq P X ops j y env σ (yZ J.dst y.v env) (y.yp σ):=by
  refine mq.before T ?_ ?_ h2
  ·intro t u;rw[sq,if_neg (fun e=>a1 t e u)]
  ·intro k D;refine(U.out σ k fun O=>?_).symm;rcases D with D|D
   ·exact pY jm O D
   ·exact pY gZ O D
 have Q:Agree x.fp σ (y.yp σ):=by
  intro k D;refine S.out σ k fun O=>?_;rcases D with D|D
  ·exact pY Xr O D
  ·exact pY gZ D O
 have q:mq P X ops i x (yZ J.dst y.v env) (y.yp σ) (yZ ox.dst x.v (yZ J.dst y.v env)) (x.yp (y.yp σ)):=by
  refine mq.before V ?_ Q h1;intro t u;rw[sq,if_neg (fun e=>a3 t e u)]
 refine⟨_,_,_,_,A,q,?_,?_⟩
 ·intro t;subst K;simp only[sq];by_cases hxd:ox.dst=some t
  ·simp_all
  ·simp_all
 ·intro k;subst M;by_cases D:k∈x.fp.W
  ·
   have B:k ∉ y.fp.W:=fun h=>pY gZ D h;exact(S.out (x.yp σ) k B).symm.trans (U.same _ _ Q k D)
  ·have e:=U.out (y.yp σ) k D;refine iA.trans ?_ e;by_cases B:k∈y.fp.W
   ·refine S.same _ _ ?_ k B;intro k' E;refine(U.out σ k' fun O=>?_).symm;rcases E with E|E
    ·exact pY jm O E
    ·exact pY gZ O E
   ·exact((S.out (x.yp σ) k B).symm.trans (U.out σ k D).symm).trans (S.out σ k B)
theorem uk.front {P:Program} {X:Ctx} {ops:Array Oper} {i:Nat} {G:It}:∀{p q:List (Nat×It)} {env env':Env} {σ u:St},
  (∀x∈p,indep ops x.1 i x.2.fp G.fp=true)->uk P X ops (p++(i,G)::q) env σ env' u ->
  ∃C Y U Q,mq P X ops i G env σ C Y/\uk P X ops (p++q) C Y U Q/\Ext env' u U Q
 | [],q,env,env',σ,u,_,⟨C,Y,h1,h2⟩=>⟨C,Y,env',u,h1,h2,Ext.refl _ _⟩
 | (j,x)::p,q,env,env',σ,u,hp,⟨C,Y,h1,h2⟩=>by
  obtain⟨U,Q,e3,s3,S,O,W⟩:=uk.front (fun x N=>hp x (List.mem_cons_of_mem _ N)) h2;obtain⟨K,M,A,H,J,B,V⟩:=mq.swap (hp (j,x) c9) h1 S;obtain⟨I,E,D,T⟩:=O.wm V;exact⟨K,M,I,E,J,⟨A,H,B,D⟩,W.trans T⟩
end Go.cq
namespace Go.cq
structure jG where
 w:World
 g:Gh
 σ:St
structure Live (X:Ctx) (β:jG) (n:Nat) (env:Env) (σ:St) (g:Gh) (w:World) (a:Act):Prop where
 inv:Inv w g σ
 rC:nC X g.G
 env:tY g env a.tmps
 frame:gQ β.w β.g β.σ w g σ
 size:a.tmps.size=n
 defers:a.defers=[]
theorem Inv.ext {w:World} {g:Gh} {σ G:St} (h:Inv w g σ) (O:∀k,iA k σ G):Inv w g G where
 oI:=h.oI
 box:=fun k cs e=>h.box k cs ((O k).1.symm.trans e)
 fB:=fun k k' cs M b e e'=>h.fB k k' cs M b ((O k).1.symm.trans e) ((O k').1.symm.trans e')
 tok:=fun k n e=>by
  obtain⟨A,h1,h2⟩:=h.tok k n ((O k).2.1.symm.trans e);refine⟨A,h1,fun b S W I=>?_⟩;obtain⟨V,Y,p⟩:=h2 b S W I;exact⟨V,Y,fun k' cs e'=>p k' cs ((O k').1.symm.trans e')⟩
 gw:=fun k k' n B b S W P H e e'=>h.gw k k' n B b S W P H ((O k).2.1.symm.trans e) ((O k').2.1.symm.trans e')
 used:=fun k e=>(O k).2.2.2 (h.used k e)
 room:=fun k cs b e=>h.room k cs b ((O k).1.symm.trans e)
theorem gQ.ext {w w':World} {g g':Gh} {σ u G:St} (h:gQ w g σ w' g' u) (O:∀k,iA k u G):gQ w g σ w' g' G where
 os:=h.os
 tape:=h.tape
 output:=h.output
 size:=h.size
 block:=h.block
 kept:=h.kept
 le:=h.le
 new:=h.new
 boxes:=fun k cs b e=>h.boxes k cs b ((O k).1.symm.trans e)
 toks:=fun k n b S W e=>h.toks k n b S W ((O k).2.1.symm.trans e)
 ids:=fun k D e=>h.ids k D (by rw[<- (O k).1];exact e)
theorem Live.ext {X:Ctx} {β:jG} {n:Nat} {env A:Env} {σ G:St} {g:Gh} {w:World} {a:Act} (h:Live X β n env σ g w a) (O:Ext env σ A G):Live X β n A G g w a where
 inv:=h.inv.ext O.2
 rC:=h.rC
 env:=fun t v e=>h.env t v ((O.1 t).symm.trans e)
 frame:=h.frame.ext O.2
 size:=h.size
 defers:=h.defers
def qX (ops:Array Oper) (n:Nat):Bool:=ops.toList.all fun o=>match o.dst with
 | some d=>Nat.blt d n
 | none=>true
theorem Me {ops:Array Oper} {n i d:Nat} {o:Oper} (h:qX ops n=true) (p:ops[i]?=some o) (H:o.dst=some d):d<n:=by
 simp only[qX,List.all_eq_true]at h;have:=h o (by rw[Array.mem_toList_iff];exact Array.mem_of_getElem? p);rw[H]at this;simpa[Nat.blt_eq]using this
theorem tY.put {g:Gh} {env:Env} {a:Act} {d:Option Nat} {v:AV} {u:Value} (h:tY g env a.tmps) (A:aK g v u) (p:∀k,d=some k->k<a.tmps.size) :
  tY g (yZ d v env) (a.put d u).tmps:=by
 intro t x e;rw[sq]at e;cases d with
 | none=>simp at e;exact h t x e
 | some k =>
  simp only[Option.some.injEq]at e;simp only[Act.put];by_cases D:k=t
  ·subst D;rw[if_pos rfl]at e;simp at e;subst e;have C:=p k rfl;simpa[Array.getD,C]using A
  ·rw[if_neg D]at e;have:=h t x e;have E:(a.tmps.setIfInBounds k u).getD t undef=a.tmps.getD t undef:=by
    simp only[Array.getD_eq_getD_getElem?,Array.getElem?_setIfInBounds,if_neg D]
   rw[E];exact this
theorem Dj {g:Gh} {ops:Array Oper} {env:Env} {tmps:Array Value} (h:tY g env tmps) {j d:Nat} (p:pW ops j=some d) :
  (∀b,ak d env=some (.c (.bool b))->yielded ops tmps j=some b)/\(ak d env=some (.c .undef)->yielded ops tmps j=none):=by
 unfold pW at p;constructor
 ·intro b e;have:=h d _ e;simp only[aK,Rel]at this;simp only[yielded,p,Option.bind_some];simp only[Array.getD]at this;split at this
  ·simp_all
  ·simp[Go.undef]at this
 ·intro e;have:=h d _ e;simp only[aK,Rel]at this;simp only[yielded,p,Option.bind_some];simp only[Array.getD]at this;split at this
  ·rename_i C;have:tmps[d]?=some Go.undef:=by rw[Array.getElem?_eq_getElem C];exact congrArg some this
   rw[this];rfl
  ·simp_all
theorem mq.wp {P:Program} {X:Ctx} {β:jG} {n:Nat} {ops:Array Oper} (H:qX ops n=true) {i:Nat} {G:It} {env env':Env} {σ C:St} (h:mq P X ops i G env σ env' C)
  {g:Gh} {w:World} {a:Act} (A:Live X β n env σ g w a) {K:Act->World->Prop} {Q:Exit->Act->World->Prop}
  (N:∀g' w' q,Live X β n env' C g' w' q->K q w'):wpOp P ops Q i K a w:=by
 obtain⟨o,p,rfl,rfl,hE,h⟩:=h;have T:∀k,o.dst=some k->k<a.tmps.size:=fun k D=>by rw[A.size];exact Me H p D
 have Y:∀u,(a.put o.dst u).tmps.size=n/\(a.put o.dst u).defers=[]:=by
  intro u;cases o.dst<;>simp[Act.put,A.size,A.defers]
 simp only[wpOp,p];rcases h with ⟨rfl,E⟩|⟨hr,E,M⟩
 ·have O:Region.wanted o (yielded ops a.tmps)=false:=by
   unfold pX at E;unfold Region.wanted;split at E
   ·exact E.elim
   ·rename_i j W V;obtain⟨d,I,U⟩:=E;obtain⟨B,J⟩:=Dj A.env I;simp only[V];rcases U with U|U
    ·grind
    ·rw[J U];rfl
  rw[if_neg (by simp[O])];refine N g w _ ⟨A.inv,A.rC,A.env.put (by simp[It.skip,aK,Rel]) T,A.frame,(Y _).1,(Y _).2⟩
 ·have O:Region.wanted o (yielded ops a.tmps)=true:=by
   unfold qH at E;unfold Region.wanted;split at E
   ·simp_all
   ·rename_i j W V;obtain⟨d,I,U⟩:=E;obtain⟨B,_⟩:=Dj A.env I;simp only[V];rw[B _ U];cases W<;>rfl
  rw[if_pos O];refine .inl (M env σ w g a K Q (fun _ _=>rfl) (fun k _=>iA.refl k σ) A.inv A.rC A.env ?_);intro u w' g' h1 h2 h3 S;refine N g' w' _ ⟨h2,?_,(A.env.mono S).put h1 T,A.frame.trans h3,(Y _).1,(Y _).2⟩;intro k v D;exact Rel.mono S.1 _ _ (A.rC k v D)
theorem uk.wp {P:Program} {X:Ctx} {β:jG} {n:Nat} {ops:Array Oper} (p:qX ops n=true) {Q:Exit->Act->World->Prop} :
  ∀{l:List (Nat×It)} {env env':Env} {σ u:St},uk P X ops l env σ env' u->∀{g:Gh} {w:World} {a:Act},Live X β n env σ g w a ->
  (∀g' w' q,Live X β n env' u g' w' q->Q .normal q w')->wpOps P ops Q (l.map (·.1)) a w
 | [],env,env',σ,u,⟨h1,h2⟩,g,w,a,hL,hQ=>by subst h1 h2;exact hQ g w a hL
 | (i,G)::l,env,env',σ,u,⟨C,W,h1,h2⟩,g,w,a,hL,hQ=>by
  rw[List.map_cons,wpOps_cons];exact h1.wp p hL fun g' w' q Y=>uk.wp p h2 Y hQ
def nU (o:Oper):List Nat:=o.after.toList.filterMap fun e=>if Region.binds .any e then some e.on else none
def xN:List (List Nat)->List Nat->List Nat
 | [],acc=>acc
 | es::rest,acc=>xN rest (acc++[es.foldl (fun s e=>s|||2^e|||acc.getD e 0) 0])
def SH (ops:Array Oper):List Nat:=xN (ops.toList.map nU) []
theorem Dk (acc:List Nat) (j:Nat):∀(es:List Nat) (s:Nat),(es.foldl (fun s e=>s|||2^e|||acc.getD e 0) s).testBit j=true ->
  s.testBit j=true\/∃e∈es,e=j\/(acc.getD e 0).testBit j=true
 | [],s,h => .inl h
 | e::es,s,h=>by
  simp only[List.foldl_cons]at h;rcases Dk acc j es _ h with h|⟨e',h1,h2⟩
  ·grind
  ·grind
theorem Dl:∀(es:List (List Nat)) (acc:List Nat) (i:Nat),acc.length<=i->i<acc.length+es.length ->
  ∀j,((xN es acc).getD i 0).testBit j=true->∃e∈es.getD (i-acc.length) [],e=j\/((xN es acc).getD e 0).testBit j=true
 | [],acc,i,h1,h2,j,h=>by simp at h2;omega
 | x::es,acc,i,h1,h2,j,h=>by
  have Y:∀(es:List (List Nat)) (acc:List Nat) (k:Nat),k<acc.length->(xN es acc).getD k 0=acc.getD k 0:=by
   intro es
   induction es with
   | nil=>intro acc k D;rfl
   | cons y es S =>
    intro acc k D;simp only[xN];rw[S _ _ lD];simp[List.getD,List.getElem?_append_left D]
  simp only[xN]at h ⊢;by_cases I:i=acc.length
  ·subst I;rw[Y _ _ _ c9]at h;simp only[List.getD,List.getElem?_append_right (aak _),Nat.sub_self,List.getElem?_cons_zero,Option.getD_some]at h;rcases Dk acc j x 0 h with h|⟨e,V,W⟩
   ·simp at h
   ·grind
  ·obtain⟨e,V,W⟩:=Dl es (acc++[x.foldl (fun s e=>s|||2^e|||acc.getD e 0) 0]) i lD (by simp at h2 ⊢;omega) j h;refine⟨e,?_,W⟩;simp only[aas,aac,aad]at V;rw[show i-acc.length=(i-(acc.length+(0+1)))+1 from by omega];simpa using V
def pN (ops:Array Oper) (Y:List Fp):Bool :=
 let W:=SH ops
 (List.range ops.size).all fun i=>(((ops[i]?).map nU).getD []).all (fun e=>Nat.blt e i) &&
  (List.range i).all fun j=>(W.getD i 0).testBit j||indep ops j i (Y.getD j ⟨[],[]⟩) (Y.getD i ⟨[],[]⟩)
end Go.cq
