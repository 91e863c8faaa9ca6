/- A layer of abstract values over the model, part A: The abstract values, what they say of memory, and contracts of calls whose arguments and results are closed values: definitions and how they last while memory grows. Abstract values with boxes and spare room, the state, and what it says of a world;  -/
import Derived.Calls
import Derived.Laws.Entries
import Derived.Laws.Cells
import Derived.Laws.Strings
import Derived.Orders
set_option linter.unusedSimpArgs false
set_option linter.unusedVariables false
namespace Go.cu
theorem bn{p:Prop}(h:p:=by omega):p:=h
theorem cc{p:Prop}(h:p:=by decide):p:=h
theorem cm{p:Prop}(h:p:=by show List.length q<=_;omega):p:=h
theorem cn{p:Prop}(h:p:=by simp):p:=h
theorem eg{p:Prop}(h:p:=by simp only[aaa];omega):p:=h
theorem ek{p:Prop}(h:p:=by simp only[eH,dR,fm,hD,iE,aL];omega):p:=h
theorem fc{p:Prop}(h:p:=by show args.length-(i+1)<args.length-i;omega):p:=h
theorem fe{p:Prop}(h:p:=by simp[aq]):p:=h
theorem fk{p:Prop}(h:p:=by show List.length (aO T K::aO Y G::q)<=_;simp only[aaa];omega):p:=h
theorem fA{p:Prop}(h:p:=by simp only[eH,dR,fm,aL];omega):p:=h
theorem ga{p:Prop}(h:p:=by unfold bM;omega):p:=h
theorem gb{p:Prop}(h:p:=by simp[Op.operands]):p:=h
theorem gp{p:Prop}(h:p:=by show List.length (aO 3 n::q)<=_;simp only[aaa];omega):p:=h
theorem gD{p:Prop}(h:p:=by simp only[bC,br];omega):p:=h
theorem gY{p:Prop}(h:p:=by rw[ho];simp[Op.operands]):p:=h
theorem jb{p:Prop}(h:p:=by simp only[Nat.min_def];split<;>omega):p:=h
theorem jM{p:Prop}(h:p:=by simp[Act.eval,Act.put]):p:=h
theorem j0{p:Prop}(h:p:=by simp;omega):p:=h
theorem kJ{p:Prop}(h:p:=by show List.length (aO 2 n::aO 2 G::q)<=_;simp only[aaa];omega):p:=h
theorem lf{p:Prop}(h:p:=by show List.length (v::q)<=_;simp only[aaa];omega):p:=h
theorem lp{p:Prop}(h:p:=by simpa using h):p:=h
theorem mc{p:Prop}(h:p:=by simp[eqGuard_at_pointer,nO,nP,jX V,run_equal_nil_nil V]):p:=h
theorem nt{p:Prop}(h:p:=by simp[h]):p:=h
theorem nu{p:Prop}(h:p:=by simp[aJ,Rel]):p:=h
theorem n7{p:Prop}(h:p:=by simp only;omega):p:=h
theorem n8{p:Prop}(h:p:=by have:=bD O;omega):p:=h
theorem oe{p:Prop}(h:p:=by rw[BG]at hj;omega):p:=h
theorem ot{p:Prop}(h:p:=by rw[ho];simp only[Op.operands,Call.operands,Array.toList_append,List.mem_append];exact .inr hx):p:=h
theorem oy{p:Prop}(h:p:=by show List.length (Vl.mk 6 0 0 J [] [] [] :: .mk 6 0 0 E [] [] []::q)<=_;simp only[aaa];omega):p:=h
theorem p8{p:Prop}(h:p:=by show List.length (aO 5 K::aO 5 G::q)<=_;simp only[aaa];omega):p:=h
theorem q6{p:Prop}(h:p:=by simp only[aax,aaa,aab];omega):p:=h
theorem ri{p:Prop}(h:p:=by simp only;have:=S.1;simp only at this;omega):p:=h
theorem rj{p:Prop}(h:p:=by rw[hd];exact k):p:=h
theorem sk{p:Prop}(h:p:=by simp only[aE,aaa];omega):p:=h
theorem sx{p:Prop}(h:p:=by simp only[xe];exact⟨Wk.refl _,by unfold Wk;exact .inr ⟨rfl,rfl⟩,trivial⟩):p:=h
theorem sy{p:Prop}(h:p:=by show List.length (bB x y::q)<=_;simp only[aaa];omega):p:=h
theorem tF{p:Prop}(h:p:=by have:=(S (.mk T us) (by simp)).2;omega):p:=h
theorem tV{p:Prop}(h:p:=by show l.length-(i+1)<l.length-i;omega):p:=h
theorem ux{p:Prop}(h:p:=by have:=bD hx;omega):p:=h
theorem uG{p:Prop}(h:p:=by simpa using h2):p:=h
theorem uH{p:Prop}(h:p:=by simpa only[aJ]using h2):p:=h
theorem u5{p:Prop}(h:p:=by have:=T.2;simp only[cx,aM,aL,br,aQ,aab];omega):p:=h
theorem u6{p:Prop}(h:p:=by show List.length (Vl.mk 6 0 0 J [] [] []::q)<=_;simp only[aaa];omega):p:=h
theorem u7{p:Prop}(h:p:=by simp[CV.cells,CV.one]):p:=h
theorem xd{p:Prop}(h:p:=by show List.length (Vl.mk V K C J W O U::q)<=_;simp only[aaa];omega):p:=h
theorem zH{p:Prop}(h:p:=by simp only[aaa,aab];omega):p:=h
theorem B3{p:Prop}(h:p:=by rw[ho];simp only[Op.operands,List.mem_map];exact⟨p,hp,rfl⟩):p:=h
theorem C1{p:Prop}(h:p:=by have:=ew O;omega):p:=h
theorem DJ{p:Prop}(h:p:=by show st.length<=_;omega):p:=h
theorem Ez{p:Prop}(h:p:=by have:=cF (l:=[u,u']) (x:=w) (by simp at H ⊢;simp[H]);omega):p:=h
theorem EL{p:Prop}(h:p:=by show((acc++[_]).length:Int)<=M;simp only[aax,aaa,aab];omega):p:=h
theorem Fl{p:Prop}(h:p:=by have:=(M (.mk T us) (by simp)).2;omega):p:=h
theorem G2{p:Prop}(h:p:=by rwa[List.getElem?_drop]at hj):p:=h
theorem I3{p:Prop}(h:p:=by rw[hvl]at hj;omega):p:=h
theorem Jz{p:Prop}(h:p:=by rw[ho];simp[Op.operands,Call.operands]):p:=h
theorem JT{p:Prop}(h:p:=by rw[H];exact k):p:=h
theorem K0{p:Prop}(h:p:=by show List.length st<=_;omega):p:=h
theorem L5{p:Prop}(h:p:=by have:=(of_decide_eq_true h.1).2;omega):p:=h
theorem Mp{p:Prop}(h:p:=by show b≠w.heap.size;omega):p:=h
theorem NZ{p:Prop}(h:p:=by have:=bD O;show args.length-(i+1)<args.length-i;omega):p:=h
theorem N2{p:Prop}(h:p:=by unfold Wk;exact .inr ⟨rfl,rfl⟩):p:=h
theorem N8{p:Prop}(h:p:=by have:=ee O;omega):p:=h
theorem OM{p:Prop}(h:p:=by rw[aax,aaa,List.length_take,List.length_drop];omega):p:=h
theorem P0{p:Prop}(h:p:=by rw[aaB];omega):p:=h
theorem Qt{p:Prop}(h:p:=by simp only[aaa]at p;omega):p:=h
theorem QS{p:Prop}(h:p:=by rw[Array.size_append,List.size_toArray,CE];omega):p:=h
theorem QT{p:Prop}(h:p:=by have:=congrArg List.length hq;simp at this;omega):p:=h
theorem QZ{p:Prop}(h:p:=by simp[h1]):p:=h
theorem Q0{p:Prop}(h:p:=by simp only[aJ];exact⟨us.toList,by simp,f2,f3⟩):p:=h
theorem Rl{p:Prop}(h:p:=by rw[aax,List.length_take,List.length_drop];omega):p:=h
theorem RC{p:Prop}(h:p:=by have:=(List.getElem?_eq_some_iff.1 hy).1;omega):p:=h
theorem RI{p:Prop}(h:p:=by simpa only[aJ]using h1):p:=h
theorem R3{p:Prop}(h:p:=by rw[if_neg (by omega)];exact h6):p:=h
theorem Se{p:Prop}(h:p:=by rw[bq];unfold bM;omega):p:=h
theorem Sf{p:Prop}(h:p:=by show cr args+1=m+q+cr (args.drop (i+1));omega):p:=h
theorem Sk{p:Prop}(h:p:=by show s.length+cr Y<=340;omega):p:=h
theorem Sn{p:Prop}(h:p:=by simp[eqGuard_at_bool,uO,uT,run_equal_bool V]):p:=h
theorem Sp{p:Prop}(h:p:=by simp at H ⊢;simp[H]):p:=h
theorem SV{p:Prop}(h:p:=by simp[bC,br]):p:=h
theorem S7{p:Prop}(h:p:=by simp only[aax,aaa,aab,List.drop_zero];omega):p:=h
theorem TB{p:Prop}(h:p:=by simp only[aaa,aab]at *;omega):p:=h
theorem TS{p:Prop}(h:p:=by simp[Rel]):p:=h
theorem T0{p:Prop}(h:p:=by show acc.length<=i+1;omega):p:=h
theorem T1{p:Prop}(h:p:=by simp[Builtin.len_,W,goInt]):p:=h
theorem T6{p:Prop}(h:p:=by subst hy;simp[Op.operands]):p:=h
theorem Uc{p:Prop}(h:p:=by rw[j8];rfl):p:=h
theorem Ud{p:Prop}(h:p:=by split at h1<;>omega):p:=h
theorem UQ{p:Prop}(h:p:=by simp only[aaa]at hq;omega):p:=h
theorem Vf{p:Prop}(h:p:=by simpa using h1):p:=h
theorem Vj{p:Prop}(h:p:=by rw[fI]):p:=h
theorem VL{p:Prop}(h:p:=by simp[aq,Ne.symm K]):p:=h
theorem VT{p:Prop}(h:p:=by simp only[aaa]at C;omega):p:=h
theorem VY{p:Prop}(h:p:=by simp[hargs]):p:=h
theorem V7{p:Prop}(h:p:=by unfold kU at qp;exact qp):p:=h
theorem V9{p:Prop}(h:p:=by show 0<=u+1;omega):p:=h
theorem Wl{p:Prop}(h:p:=by show u+1<=g;omega):p:=h
theorem Wp{p:Prop}(h:p:=by simpa using Y):p:=h
theorem Wt{p:Prop}(h:p:=by simpa only[aJ]using h3):p:=h
theorem WJ{p:Prop}(h:p:=by rw[M];simp):p:=h
theorem WK{p:Prop}(h:p:=by simp[g']):p:=h
theorem WS{p:Prop}(h:p:=by rw[l1,k1];exact aam _):p:=h
theorem WV{p:Prop}(h:p:=by simp[CV.cells,bO,Rel]):p:=h
theorem W9{p:Prop}(h:p:=by rw[Mb];exact n4):p:=h
theorem Xc{p:Prop}(h:p:=by simp only[aax];omega):p:=h
theorem Xe{p:Prop}(h:p:=by rw[hvl];omega):p:=h
theorem Xi{p:Prop}(h:p:=by rw[l2,k2];rfl):p:=h
theorem Xj{p:Prop}(h:p:=by rw[l3,k3];rfl):p:=h
theorem XG{p:Prop}(h:p:=by rw[l4,k4];rfl):p:=h
theorem XQ{p:Prop}(h:p:=by rw[Bn]):p:=h
theorem XT{p:Prop}(h:p:=by simp[G]):p:=h
theorem XU{p:Prop}(h:p:=by exact AK.again (ih (i+1) ⟨bD hx,hinv⟩ (by have:=bD hx;omega)) ⟨.inl (iD (by have:=bD hx;omega)),.inl rfl,.inl rfl,.inl rfl,trivial⟩ trivial trivial rfl rfl rfl):p:=h
theorem XY{p:Prop}(h:p:=by exact ih (i+1,acc++[(Vl.mk 11 0 0 [] q [] [])],false) ⟨h2,by simp[G],W,(by simpa using Y)⟩ (by show args.length-(i+1)<args.length-i;omega)):p:=h
theorem X4{p:Prop}(h:p:=by exact bG (fZ (dH (by simp only[bC,br];omega) (fun t h=>I t (by simp[h])))) (bZ _)):p:=h
theorem Ya{p:Prop}(h:p:=by exact Src.ofSlice w ts ⟨vb,vo,none⟩ m vc vs hvl (fun j u hj=>by rw[Addr.add_lit];exact hvs j u hj) BF):p:=h
theorem Yb{p:Prop}(h:p:=by exact fun k n b lo hi h1 h2 => .inr ⟨k,n,lo,hi,h1,h2,aam _,aam _⟩):p:=h
theorem Yd{p:Prop}(h:p:=by exact OH hf rfl rfl rfl rfl rfl rfl rfl rfl rfl):p:=h
theorem Yg{p:Prop}(h:p:=by exact congrArg (fun l=>[LV.own 1 l]) (b9 rows acc _ _ (by rw[iO _ (by omega)]))):p:=h
theorem Yh{p:Prop}(h:p:=by exact AK.BM Tryz.hX hf (l:=[.own .exact 7 []]) rfl [] rfl rfl trivial):p:=h
theorem aaa{α:Type}{a:α}{l:List α}:(a::l).length=l.length+1:=List.length_cons
theorem aab{α:Type}:([]:List α).length=0:=List.length_nil
theorem aad{α:Type}{a:α}{l:List α}{d:α}:(a::l).getD 0 d=a:=List.getD_cons_zero
theorem aai{α:Type}{a:α}{l:List α}{n:Nat}{d:α}:(a::l).getD (n+1) d=l.getD n d:=List.getD_cons_succ
theorem aaj(a b:Bool):((a&&b)=true)=(a=true/\b=true):=Bool.and_eq_true a b
theorem aam(n:Nat):n<=n:=Nat.le_refl n
theorem aan{p:Prop}[Decidable p](h:p):decide p=true:=decide_eq_true h
theorem aaw{p:Prop}[Decidable p](h:¬p):decide p=false:=decide_eq_false h
theorem aax{α:Type}{a b:List α}:(a++b).length=a.length+b.length:=List.length_append
theorem aay(a b:Bool):((a||b)=true)=(a=true\/b=true):=Bool.or_eq_true a b
theorem aaz{α:Type}{l:List α}{i:Nat}{a:α}(h:l[i]?=some a):a∈l:=List.mem_of_getElem? h
theorem aaA(n:Nat):((n:Int)).toNat=n:=Int.toNat_natCast n
theorem aaB{α:Type}{l:List α}:l.reverse.length=l.length:=List.length_reverse
inductive CV where
 | int (k:IntKind) (n:Int)
 | bool (b:Bool)
 | str (s:List UInt8)
 | lI
 | undef
 | sl (s:Nat) (rows:List CV)
 | agg (cs:List CV)
 | ip (cs:List CV)
 | rK (f:FuncId) (caps:List CV)
 | gB (cs:List CV)
 | any
 | qF
 deriving Inhabited
def CV.cells:CV->List CV
 | .agg cs=>cs
 | v=>[v]
def CV.one:CV->Bool
 | .agg _ | .gB _ | .undef=>false
 | _=>true
abbrev jm:=Nat->Nat->Option Value
mutual
def Rel (G:jm):CV->Value->Prop
 | .int k n,v=>v = .int k n
 | .bool b,v=>v = .bool b
 | .str s,v=>v = .string ⟨s.toArray⟩
 | .lI,v=>v = .pointer none
 | .undef,v=>v=Go.undef
 | .sl s rows,v=>∃base V E,v = .slice base V E/\V=rows.length/\V<=E /\
   (rows=[]\/∃b o,base=some ⟨b,o,none⟩/\ff G s b o rows)
 | .agg cs,v=>∃vs:List Value,v = .agg vs.toArray/\bO G cs vs/\cs.all CV.one=true
 | .ip cs,v=>∃b o,v = .pointer (some ⟨b,o,none⟩)/\cO G b o cs
 | .rK f W,v=>∃vs:List Value,v = .func (.func f) #[] vs.toArray/\bO G W vs
 | .gB cs,v=>∃vs:List Value,v = .tuple vs.toArray/\bO G cs vs/\2<=cs.length
 | .any,v=>(∀vs,v ≠ .agg vs)/\∀vs,v ≠ .tuple vs
 | .qF,v=>∃x,v = .bool x
def bO (G:jm):List CV->List Value->Prop
 | [],vs=>vs=[]
 | c::cs,vs=>∃u us,vs=u::us/\Rel G c u/\bO G cs us
def cO (G:jm):Nat->Nat->List CV->Prop
 | _,_,[]=>True
 | b,o,c::cs=>(∃u,G b o=some u/\Rel G c u/\c.one=true)/\cO G b (o+1) cs
def oD (G:jm):Nat->Nat->CV->Prop
 | b,o,.agg cs=>cO G b o cs
 | b,o,.int k n=>G b o=some (.int k n)
 | b,o,.bool x=>G b o=some (.bool x)
 | b,o,.str s=>G b o=some (.string ⟨s.toArray⟩)
 | b,o,.lI=>G b o=some (.pointer none)
 | _,_,.undef=>False
 | b,o,.sl s rows=>∃base V E,G b o=some (.slice base V E)/\V=rows.length/\V<=E /\
   (rows=[]\/∃M J,base=some ⟨M,J,none⟩/\ff G s M J rows)
 | b,o,.ip cs=>∃M J,G b o=some (.pointer (some ⟨M,J,none⟩))/\cO G M J cs
 | b,o,.rK f W=>∃vs:List Value,G b o=some (.func (.func f) #[] vs.toArray)/\bO G W vs
 | _,_,.gB _=>False
 | b,o,.any=>∃v,G b o=some v/\(∀vs,v ≠ .agg vs)/\∀vs,v ≠ .tuple vs
 | b,o,.qF=>∃x,G b o=some (.bool x)
def ff (G:jm):Nat->Nat->Nat->List CV->Prop
 | _,_,_,[]=>True
 | s,b,o,r::rs=>oD G b o r/\r.cells.length=s/\ff G s b (o+s) rs
end
theorem yL (G:jm) (b o:Nat) (r:CV):oD G b o r↔cO G b o r.cells:=by
 cases r with
 | sl s rows =>
  simp only[oD,CV.cells,cO,CV.one,Rel,and_true];constructor
  ·grind
  ·simp_all
 | ip cs =>
  simp only[oD,CV.cells,cO,CV.one,Rel,and_true];constructor
  ·grind
  ·simp_all
 | rK f W =>
  simp only[oD,CV.cells,cO,CV.one,Rel,and_true];constructor
  ·simp_all
  ·simp_all
 | qF =>
  simp only[oD,CV.cells,cO,CV.one,Rel,and_true];constructor
  ·grind
  ·simp_all
 | _=>simp[oD,CV.cells,cO,CV.one,Rel]
def jm.le (G p:jm):Prop:=∀b o v,G b o=some v->p b o=some v
theorem jm.le.refl (G:jm):G.le G:=fun _ _ _ h=>h
theorem jm.le.trans {G p Y:jm} (h:G.le p) (W:p.le Y):G.le Y:=fun b o v x=>W b o v (h b o v x)
mutual
theorem Rel.mono {G p:jm} (h:G.le p):∀(c:CV) (v:Value),Rel G c v->Rel p c v
 | .int _ _,_,x=>by simpa[Rel]using x
 | .bool _,_,x=>by simpa[Rel]using x
 | .str _,_,x=>by simpa[Rel]using x
 | .lI,_,x=>by simpa[Rel]using x
 | .undef,_,x=>by simpa[Rel]using x
 | .sl s rows,v,x=>by
  simp only[Rel]at x ⊢;obtain⟨base,V,E,e,C,K,I⟩:=x;exact⟨base,V,E,e,C,K,I.imp id fun⟨b,o,Y,I⟩=>⟨b,o,Y,ff.mono h s b o rows I⟩⟩
 | .agg cs,v,x=>by
  simp only[Rel]at x ⊢;obtain⟨vs,e,I,q⟩:=x;exact⟨vs,e,bO.mono h cs vs I,q⟩
 | .ip cs,v,x=>by
  simp only[Rel]at x ⊢;obtain⟨b,o,e,I⟩:=x;exact⟨b,o,e,cO.mono h b o cs I⟩
 | .rK f W,v,x=>by
  simp only[Rel]at x ⊢;obtain⟨vs,e,I⟩:=x;exact⟨vs,e,bO.mono h W vs I⟩
 | .gB cs,v,x=>by
  simp only[Rel]at x ⊢;obtain⟨vs,e,I,q⟩:=x;exact⟨vs,e,bO.mono h cs vs I,q⟩
 | .any,_,x=>by simp only[Rel]at x ⊢;exact x
 | .qF,_,x=>by simp only[Rel]at x ⊢;exact x
theorem bO.mono {G p:jm} (h:G.le p):∀(cs:List CV) (vs:List Value),bO G cs vs->bO p cs vs
 | [],_,x=>by simpa[bO]using x
 | c::cs,vs,x=>by
  simp only[bO]at x ⊢;obtain⟨u,us,e,K,I⟩:=x;exact⟨u,us,e,Rel.mono h c u K,bO.mono h cs us I⟩
theorem cO.mono {G p:jm} (h:G.le p):∀(b o:Nat) (cs:List CV),cO G b o cs->cO p b o cs
 | _,_,[],_=>by simp[cO]
 | b,o,c::cs,x=>by
  simp only[cO]at x ⊢;obtain⟨⟨u,A,K,q⟩,I⟩:=x;exact⟨⟨u,h b o u A,Rel.mono h c u K,q⟩,cO.mono h b (o+1) cs I⟩
theorem oD.mono {G p:jm} (h:G.le p):∀(b o:Nat) (r:CV),oD G b o r->oD p b o r
 | b,o,.agg cs,x=>by simp only[oD]at x ⊢;exact cO.mono h b o cs x
 | b,o,.int _ _,x=>by simp only[oD]at x ⊢;exact h _ _ _ x
 | b,o,.bool _,x=>by simp only[oD]at x ⊢;exact h _ _ _ x
 | b,o,.str _,x=>by simp only[oD]at x ⊢;exact h _ _ _ x
 | b,o,.lI,x=>by simp only[oD]at x ⊢;exact h _ _ _ x
 | _,_,.undef,x=>by simp[oD]at x
 | b,o,.sl s rows,x=>by
  simp only[oD]at x ⊢;obtain⟨base,V,E,e,C,K,I⟩:=x;exact⟨base,V,E,h _ _ _ e,C,K,I.imp id fun⟨b,o,Y,I⟩=>⟨b,o,Y,ff.mono h s b o rows I⟩⟩
 | b,o,.ip cs,x=>by
  simp only[oD]at x ⊢;obtain⟨M,J,e,I⟩:=x;exact⟨M,J,h _ _ _ e,cO.mono h M J cs I⟩
 | b,o,.rK f W,x=>by
  simp only[oD]at x ⊢;obtain⟨vs,e,I⟩:=x;exact⟨vs,h _ _ _ e,bO.mono h W vs I⟩
 | _,_,.gB _,x=>by simp[oD]at x
 | b,o,.any,x=>by
  simp only[oD]at x ⊢;obtain⟨v,e,I⟩:=x;exact⟨v,h _ _ _ e,I⟩
 | b,o,.qF,x=>by
  simp only[oD]at x ⊢;obtain⟨v,e⟩:=x;exact⟨v,h _ _ _ e⟩
theorem ff.mono {G p:jm} (h:G.le p):∀(s b o:Nat) (rs:List CV),ff G s b o rs->ff p s b o rs
 | _,_,_,[],_=>by simp[ff]
 | s,b,o,r::rs,x=>by
  simp only[ff]at x ⊢;exact⟨oD.mono h b o r x.1,x.2.1,ff.mono h s b (o+s) rs x.2.2⟩
end
end Go.cu
namespace Go.cu
inductive UR where
 | exact
 | tok (key n:Nat)
 deriving Inhabited
inductive AV where
 | c (v:CV)
 | own (k:UR) (s:Nat) (rows:List CV)
 | ptr (key off:Nat)
 | gy (key off s n:Nat)
 | any
 | agg (cs:List AV)
 | gB (cs:List AV)
 deriving Inhabited
def AV.one:AV->Bool
 | .c v=>v.one
 | .own .. | .ptr .. | .gy .. | .any=>true
 | .agg _ | .gB _=>false
structure Gh where
 G:jm
 box:Nat->Option Nat
 tok:Nat->Option (Nat×Option (Nat×Nat×Nat))
 room:Nat->Nat
def kD (G:jm) (s:Nat) (base:Option Addr) (rows:List CV):Prop :=
 rows=[]\/∃b o,base=some ⟨b,o,none⟩/\ff G s b o rows
def pQ (g:Gh) (s:Nat) (base:Option Addr) (V E:Nat):UR->Prop
 | .exact=>E=V
 | .tok T n=>∃Q C,g.tok T=some (Q,C)/\n<=Q/\(Q=n->E=V \/
   ∃b S W o,C=some (b,S,W)/\base=some ⟨b,o,none⟩/\S=o+V*s/\W=o+E*s/\V<=E)
mutual
def aJ (g:Gh):AV->Value->Prop
 | .c v,x=>Rel g.G v x
 | .own k s rows,x=>∃base V E,x = .slice base V E/\V=rows.length/\V<=E/\kD g.G s base rows/\pQ g s base V E k
 | .ptr T off,x=>∃b,g.box T=some b/\x = .pointer (some ⟨b,off,none⟩)
 | .gy T off s n,x=>∃b E o,g.box T=some b/\x = .slice o n E/\n<=E/\off+E*s<=g.room T/\(E=0\/o=some ⟨b,off,none⟩)
 | .any,x=>(∀vs,x ≠ .agg vs)/\∀vs,x ≠ .tuple vs
 | .agg cs,x=>∃vs:List Value,x = .agg vs.toArray/\bH g cs vs/\cs.all AV.one=true
 | .gB cs,x=>∃vs:List Value,x = .tuple vs.toArray/\bH g cs vs/\2<=cs.length
def bH (g:Gh):List AV->List Value->Prop
 | [],vs=>vs=[]
 | c::cs,vs=>∃u us,vs=u::us/\aJ g c u/\bH g cs us
end
def Gh.le (g g':Gh):Prop :=
 g.G.le g'.G/\(∀k b,g.box k=some b->g'.box k=some b)/\(∀k b,g.box k=some b->g'.room k=g.room k) /\
 ∀k Q C,g.tok k=some (Q,C)->∃Y W,g'.tok k=some (Y,W)/\Q<=Y/\(Y=Q->W=C)
theorem Gh.le.refl (g:Gh):g.le g:=⟨jm.le.refl _,fun _ _ h=>h,fun _ _ _=>rfl,fun _ Q C h=>⟨Q,C,h,aam _,fun _=>rfl⟩⟩
theorem Gh.le.trans {g g' I:Gh} (h:g.le g') (Y:g'.le I):g.le I:=by
 refine⟨h.1.trans Y.1,fun k b x=>Y.2.1 k b (h.2.1 k b x),fun k b x=>(Y.2.2.1 k b (h.2.1 k b x)).trans (h.2.2.1 k b x),fun k Q C x=>?_⟩;obtain⟨p,W,T,E,A⟩:=h.2.2.2 k Q C x;obtain⟨U,V,P,S,O⟩:=Y.2.2.2 k p W T;refine⟨U,V,P,Nat.le_trans E S,fun e=>?_⟩;have:U=p:=by omega
 rw[O this,A bn]
theorem kD.mono {G p:jm} (h:G.le p) {s:Nat} {base:Option Addr} {rows:List CV} (x:kD G s base rows):kD p s base rows :=
 x.imp id fun⟨b,o,e,r⟩=>⟨b,o,e,ff.mono h s b o rows r⟩
theorem pQ.mono {g g':Gh} (h:g.le g') {s:Nat} {base:Option Addr} {V E:Nat}:∀{k:UR},pQ g s base V E k->pQ g' s base V E k
 | .exact,x=>x
 | .tok T n,⟨Q,C,e,O,I⟩=>by
  obtain⟨W,U,e',S,Y⟩:=h.2.2.2 T Q C e;refine⟨W,U,e',Nat.le_trans O S,fun P=>?_⟩;have A:W=Q:=by omega
  rw[Y A];exact I bn
mutual
theorem aJ.mono {g g':Gh} (h:g.le g'):∀(a:AV) (v:Value),aJ g a v->aJ g' a v
 | .c v,x,r=>by simp only[aJ]at r ⊢;exact Rel.mono h.1 v x r
 | .own k s rows,x,r=>by
  simp only[aJ]at r ⊢;obtain⟨base,V,E,e,C,K,I,q⟩:=r;exact⟨base,V,E,e,C,K,I.mono h.1,q.mono h⟩
 | .ptr T off,x,r=>by
  simp only[aJ]at r ⊢;obtain⟨b,p,e⟩:=r;exact⟨b,h.2.1 _ _ p,e⟩
 | .gy T off s n,x,r=>by
  simp only[aJ]at r ⊢;obtain⟨b,E,o,p,e,h1,h2,Y⟩:=r;exact⟨b,E,o,h.2.1 _ _ p,e,h1,by rw[h.2.2.1 _ _ p];exact h2,Y⟩
 | .any,x,r=>by simp only[aJ]at r ⊢;exact r
 | .agg cs,x,r=>by
  simp only[aJ]at r ⊢;obtain⟨vs,e,I,q⟩:=r;exact⟨vs,e,bH.mono h cs vs I,q⟩
 | .gB cs,x,r=>by
  simp only[aJ]at r ⊢;obtain⟨vs,e,I,q⟩:=r;exact⟨vs,e,bH.mono h cs vs I,q⟩
theorem bH.mono {g g':Gh} (h:g.le g'):∀(cs:List AV) (vs:List Value),bH g cs vs->bH g' cs vs
 | [],_,r=>by simpa[bH]using r
 | c::cs,vs,r=>by
  simp only[bH]at r ⊢;obtain⟨u,us,e,K,I⟩:=r;exact⟨u,us,e,aJ.mono h c u K,bH.mono h cs us I⟩
end
def ak {α:Type} (k:Nat):List (Nat×α)->Option α
 | []=>none
 | (j,x)::l=>match Nat.beq j k with
  | true=>some x
  | false=>ak k l
def BN {α:Type} (k:Nat):List (Nat×α)->List (Nat×α)
 | []=>[]
 | (j,x)::l=>match Nat.beq j k with
  | true=>BN k l
  | false=>(j,x)::BN k l
def tZ {α:Type} (k:Nat) (y:α):List (Nat×α)->List (Nat×α)
 | []=>[(k,y)]
 | (j,x)::l=>match Nat.beq j k with
  | true=>(j,y)::l
  | false=>(j,x)::tZ k y l
def wU {α:Type} (k:Nat) (y:α):List (Nat×α)->Option (List (Nat×α))
 | []=>some [(k,y)]
 | (j,x)::l=>match Nat.beq j k with
  | true=>some ((j,y)::l)
  | false=>match wU k y l with
   | some r=>some ((j,x)::r)
   | none=>none
theorem rW {α:Type} (k:Nat) (y:α):∀(l:List (Nat×α)),wU k y l=some (tZ k y l)
 | []=>rfl
 | (j,x)::l=>by
  simp only[wU,tZ,rW k y l];split<;>rfl
theorem beq_true {j k:Nat} (h:Nat.beq j k=true):j=k:=Nat.eq_of_beq_eq_true h
theorem beq_false {j k:Nat} (h:Nat.beq j k=false):j≠k:=Nat.ne_of_beq_eq_false h
theorem jO {α:Type} (k j:Nat) (l:List (Nat×α)):ak j (BN k l)=if j=k then none else ak j l:=by
 induction l with
 | nil=>simp[BN,ak]
 | cons x l S =>
  obtain⟨i,x⟩:=x;simp only[BN];split
  ·rename_i h;have:=beq_true h;subst this;rw[S];split
   ·rfl
   ·rename_i T;simp only[ak];split
    ·simp_all
    ·rfl
  ·rename_i h;have T:=beq_false h;simp only[ak];split
   ·simp_all
   ·rw[S]
theorem ez {α:Type} (k j:Nat) (y:α) (l:List (Nat×α)):ak j (tZ k y l)=if j=k then some y else ak j l:=by
 induction l with
 | nil =>
  simp only[tZ,ak];split
  ·simp_all
  ·rename_i h;have:=beq_false h;rw[if_neg (fun e=>this e.symm)]
 | cons x l S =>
  obtain⟨i,x⟩:=x;simp only[tZ];split
  ·rename_i h;have:=beq_true h;subst this;simp only[ak];split
   ·simp_all
   ·grind
  ·rename_i h;have T:=beq_false h;simp only[ak];split
   ·simp_all
   ·rw[S]
structure St where
 boxes:List (Nat×List AV)
 toks:List (Nat×Nat)
 used:List Nat
 deriving Inhabited
def cy (w:World) (g:Gh) (b:Nat):Nat->List AV->Prop
 | _,[]=>True
 | o,c::cs=>(∃u,w.cell? ⟨b,o,none⟩=some u/\aJ g c u/\c.one=true)/\w.frozen? ⟨b,o,none⟩=false/\cy w g b (o+1) cs
theorem cy.mono {w:World} {g g':Gh} (h:g.le g') {b:Nat}:∀{o:Nat} {cs:List AV},cy w g b o cs->cy w g' b o cs
 | _,[],_=>trivial
 | _,_::_,⟨⟨u,A,I,q⟩,hf,pR⟩=>⟨⟨u,A,aJ.mono h _ _ I,q⟩,hf,cy.mono h pR⟩
theorem cy.of_same {w w':World} {g:Gh} {b:Nat} (h:∀o,w'.cell? ⟨b,o,none⟩=w.cell? ⟨b,o,none⟩/\w'.frozen? ⟨b,o,none⟩=w.frozen? ⟨b,o,none⟩) :
  ∀{o:Nat} {cs:List AV},cy w g b o cs->cy w' g b o cs
 | _,[],_=>trivial
 | _,_::_,⟨⟨u,A,I,q⟩,hf,pR⟩=>⟨⟨u,(h _).1.trans A,I,q⟩,(h _).2.trans hf,cy.of_same h pR⟩
structure Inv (w:World) (g:Gh) (σ:St):Prop where
 oF:∀b o v,g.G b o=some v->w.cell? ⟨b,o,none⟩=some v
 box:∀k cs,ak k σ.boxes=some cs->∃b,g.box k=some b/\b<w.heap.size/\(∀o,g.G b o=none)/\cy w g b 0 cs
 fF:∀k k' cs cs' b,ak k σ.boxes=some cs->ak k' σ.boxes=some cs'->g.box k=some b->g.box k'=some b->k=k'
 tok:∀k n,ak k σ.toks=some n->∃fU,g.tok k=some (n,fU)/\∀b lo hi,fU=some (b,lo,hi)->b<w.heap.size /\
  (∀o,lo<=o->o<hi->g.G b o=none/\(∃u,w.cell? ⟨b,o,none⟩=some u)/\w.frozen? ⟨b,o,none⟩=false) /\
  ∀k' cs,ak k' σ.boxes=some cs->g.box k'≠some b
 gA:∀k k' n n' b lo hi lo' hi',ak k σ.toks=some n->ak k' σ.toks=some n' ->
  g.tok k=some (n,some (b,lo,hi))->g.tok k'=some (n',some (b,lo',hi'))->k=k'
 used:∀k,g.box k≠none\/g.tok k≠none->k∈σ.used
 room:∀k cs b,ak k σ.boxes=some cs->g.box k=some b->∀o,(o<g.room k->∃u,w.cell? ⟨b,o,none⟩=some u)/\w.frozen? ⟨b,o,none⟩=false
theorem Inv.Wa {w:World} {g:Gh} {σ:St} (p:Inv w g σ) (k:Nat) (cs:List AV) (b:Nat) (e:ak k σ.boxes=some cs) (Y:g.box k=some b) (o:Nat) (q:o<g.room k):(∃u,w.cell? ⟨b,o,none⟩=some u)/\w.frozen? ⟨b,o,none⟩=false :=
 ⟨(p.room k cs b e Y o).1 q,(p.room k cs b e Y o).2⟩
theorem Inv.Aa {w w':World} {g:Gh} {σ:St} (p:Inv w g σ) (h:∀k cs b,ak k σ.boxes=some cs->g.box k=some b->b<w.heap.size->∀o,w'.cell? ⟨b,o,none⟩=w.cell? ⟨b,o,none⟩/\w'.frozen? ⟨b,o,none⟩=w.frozen? ⟨b,o,none⟩) :
  ∀k cs b,ak k σ.boxes=some cs->g.box k=some b->∀o,(o<g.room k->∃u,w'.cell? ⟨b,o,none⟩=some u)/\w'.frozen? ⟨b,o,none⟩=false:=by
 intro k cs b e Y o;obtain⟨M,h1,h2,_⟩:=p.box k cs e;rw[Y]at h1;cases h1;obtain⟨V,D⟩:=p.room k cs b e Y o;have:=h k cs b e Y h2 o;exact⟨fun q=>(V q).imp fun u A=>this.1.trans A,this.2.trans D⟩
def iJ (g:Gh) (σ:St) (b o:Nat):Prop :=
 (∃k cs,ak k σ.boxes=some cs/\g.box k=some b) \/
 ∃k n S W,ak k σ.toks=some n/\g.tok k=some (n,some (b,S,W))/\S<=o/\o<W
structure gW (w:World) (g:Gh) (σ:St) (w':World) (g':Gh) (σ':St):Prop where
 os:w'.os=w.os
 tape:w'.tape=w.tape
 output:w'.output=w.output
 size:w.heap.size<=w'.heap.size
 block:∀b,b<w.heap.size->(∀o,¬iJ g σ b o)->w'.heap[b]?=w.heap[b]?
 kept:∀b o,b<w.heap.size->¬iJ g σ b o->w'.cell? ⟨b,o,none⟩=w.cell? ⟨b,o,none⟩/\w'.frozen? ⟨b,o,none⟩=w.frozen? ⟨b,o,none⟩
 le:g.G.le g'.G
 new:∀b o v,g'.G b o=some v->g.G b o=some v\/w.heap.size<=b\/iJ g σ b o
 boxes:∀k cs b,ak k σ'.boxes=some cs->g'.box k=some b->w.heap.size<=b\/∃k0 cs0,ak k0 σ.boxes=some cs0/\g.box k0=some b
 toks:∀k n b lo hi,ak k σ'.toks=some n->g'.tok k=some (n,some (b,lo,hi))->w.heap.size<=b \/
  ∃k0 n0 Ex qq,ak k0 σ.toks=some n0/\g.tok k0=some (n0,some (b,Ex,qq))/\Ex<=lo/\hi<=qq
 ids:∀k,1000000<=k->ak k σ'.boxes≠none->ak k σ.boxes≠none/\g'.box k=g.box k/\g'.room k=g.room k
theorem gW.owned {w w':World} {g g':Gh} {σ D:St} (h:gW w g σ w' g' D) {b o:Nat} (q:iJ g' D b o):w.heap.size<=b\/iJ g σ b o:=by
 rcases q with ⟨k,cs,h1,h2⟩|⟨k,n,S,W,h1,h2,U,P⟩
 ·exact(h.boxes k cs b h1 h2).imp id fun⟨T,p,e⟩ => .inl ⟨T,p,e⟩
 ·exact(h.toks k n b S W h1 h2).imp id fun⟨T,Q,Y,V,A,E,B,O⟩ => .inr ⟨T,Q,Y,V,A,E,bn,bn⟩
theorem gW.refl (w:World) (g:Gh) (σ:St):gW w g σ w g σ where
 os:=rfl
 tape:=rfl
 output:=rfl
 size:=aam _
 block:=fun _ _ _=>rfl
 kept:=fun _ _ _ _=>⟨rfl,rfl⟩
 le:=jm.le.refl _
 new:=fun _ _ _ h => .inl h
 boxes:=fun k cs _ h1 h2 => .inr ⟨k,cs,h1,h2⟩
 toks:=fun k n _ S W h1 h2 => .inr ⟨k,n,S,W,h1,h2,aam _,aam _⟩
 ids:=fun _ _ h=>⟨h,rfl,rfl⟩
theorem gW.trans {w H P:World} {g g1 u:Gh} {σ G W:St} (h:gW w g σ H g1 G) (Y:gW H g1 G P u W):gW w g σ P u W where
 os:=Y.os.trans h.os
 tape:=Y.tape.trans h.tape
 output:=Y.output.trans h.output
 size:=Nat.le_trans h.size Y.size
 block:=fun b p q=>by
  rw[Y.block b (Nat.lt_of_lt_of_le p h.size) fun o V=>by
   rcases h.owned V with x|x
   ·omega
   ·exact q o x]
  exact h.block b p q
 kept:=fun b o p q=>by
  have h1:=h.kept b o p q;have h2:=Y.kept b o (Nat.lt_of_lt_of_le p h.size) fun V=>by
   rcases h.owned V with x|x
   ·omega
   ·exact q x
  exact⟨h2.1.trans h1.1,h2.2.trans h1.2⟩
 le:=h.le.trans Y.le
 new:=fun b o v x=>by
  rcases Y.new b o v x with x|x|x
  ·exact h.new b o v x
  ·exact .inr (.inl (Nat.le_trans h.size x))
  ·rcases h.owned x with x|x
   ·exact .inr (.inl x)
   ·exact .inr (.inr x)
 boxes:=fun k cs b h1 h2=>by
  rcases Y.boxes k cs b h1 h2 with x|⟨T,U,A,E⟩
  ·exact .inl (Nat.le_trans h.size x)
  ·exact h.boxes T U b A E
 toks:=fun k n b O I h1 h2=>by
  rcases Y.toks k n b O I h1 h2 with x|⟨T,N,M,K,A,E,e3,e4⟩
  ·exact .inl (Nat.le_trans h.size x)
  ·rcases h.toks T N b M K A E with x|⟨J,B,Yi,C,f1,f2,f3,f4⟩
   ·exact .inl x
   ·exact .inr ⟨J,B,Yi,C,f1,f2,bn,bn⟩
 ids:=fun k D h2=>by
  obtain⟨h3,h4,S⟩:=Y.ids k D h2;obtain⟨h5,h6,Q⟩:=h.ids k D h3;exact⟨h5,h4.trans h6,S.trans Q⟩
def tN (g:Gh) (env:List (Nat×AV)) (tmps:Array Value):Prop:=∀t a,ak t env=some a->aJ g a (tmps.getD t undef)
theorem tN.mono {g g':Gh} (h:g.le g') {env:List (Nat×AV)} {tmps:Array Value} (x:tN g env tmps):tN g' env tmps :=
 fun t a e=>aJ.mono h _ _ (x t a e)
end Go.cu
namespace Go.cu
inductive TK where
 | int (k:IntKind)|bool|str|ptr (e:Nat)|slice (e:Nat)|arr (n e:Nat)|struct (fs:List (Nat×Nat))|other
 deriving Inhabited
structure TI where
 size:Nat
 bytes:Nat
 kind:TK
 zero:Option AV
 deriving Inhabited
def TI.isAgg (i:TI):Bool:=match i.kind with
 | .arr .. | .struct .. => true
 | _=>false
structure Ctx where
 ti:Nat->Option TI
 q8:Nat->Option CV
def eG (P:Program):TK->TypeDesc->Prop
 | .int k,d=>d = .int k
 | .bool,d=>d = .bool
 | .str,d=>d = .string
 | .ptr e,d=>d = .pointer e
 | .slice e,d=>d = .slice e
 | .arr n e,d=>d = .array n e
 | .struct T,d=>∃Y:Array Field,d = .struct Y/\Y.toList.map (fun f=>(f.offset,f.type))=T /\
   ∀f∈Y.toList,∃Q,P.info? f.type=some Q/\Q.size≠0
 | .other,d=>(match d with | .struct _ | .array _ _=>false|_=>true)=true
structure cC (P:Program) (X:Ctx):Prop where
 ti:∀t i,X.ti t=some i->∃inf,P.info? t=some inf/\inf.size=i.size/\inf.bytes=i.bytes /\
  (∀a,i.zero=some a->∃z,inf.zero=some z/\(∀g,aJ g a z)/\z.cells.size=i.size)/\(∃d,P.underlying t=some d/\eG P i.kind d)/\i.size≠0
def nw (X:Ctx) (G:jm):Prop:=∀n v,X.q8 n=some v->Rel G v (.pointer (some ⟨n,0,none⟩))
section types
variable {P : Program} {X : Ctx} {w : World} {t : Nat} {i : TI}
theorem cC.run_sizeOf (h:cC P X) (e:X.ti t=some i):(sizeOf t).run P w = .ok i.size w:=by
 obtain⟨Q,h1,h2,_⟩:=h.ti t i e;simp[sizeOf,typeInfo,h1,h2]
theorem cC.run_underlying (h:cC P X) (e:X.ti t=some i):∃d,(underlying t).run P w = .ok d w/\eG P i.kind d/\P.underlying t=some d:=by
 obtain⟨Q,h1,h2,V,_,⟨d,D,q⟩,_⟩:=h.ti t i e;exact⟨d,by simp[underlying,D],q,D⟩
theorem cC.lK (h:cC P X) (e:X.ti t=some i) {a:AV} (Y:i.zero=some a):∃z,(zeroValue t).run P w = .ok z w/\(∀g,aJ g a z)/\z.cells.size=i.size:=by
 obtain⟨Q,h1,h2,V,u,_⟩:=h.ti t i e;obtain⟨z,D,q,W⟩:=u a Y;exact⟨z,by simp[zeroValue,typeInfo,h1,D],q,W⟩
theorem cC.o8 (h:cC P X) (e:X.ti t=some i):(isAgg t).run P w = .ok i.isAgg w:=by
 obtain⟨d,h1,h2,_⟩:=h.run_underlying (w:=w) e;simp only[isAgg,Sem.run_bind,h1,Result.andThen_ok];unfold TI.isAgg;cases D:i.kind<;>rw[D]at h2<;>simp only[eG]at h2
 case struct fs=>obtain⟨Y,rfl,_⟩:=h2;rfl
 case other=>cases d<;>simp at h2<;>rfl
 all_goals subst h2;rfl
end types
def takeN {α:Type}:Nat->List α->Option (List α)
 | 0,_=>some []
 | _+1,[]=>none
 | n+1,x::l=>match takeN n l with
  | some r=>some (x::r)
  | none=>none
def gv {α:Type}:Nat->List α->Option (List α)
 | 0,l=>some l
 | _+1,[]=>none
 | n+1,_::l=>gv n l
theorem pS {α:Type}:∀{n:Nat} {l r:List α},takeN n l=some r->r=l.take n/\n<=l.length
 | 0,l,r,h=>by simp[takeN]at h;subst h;simp
 | n+1,[],r,h=>by simp[takeN]at h
 | n+1,x::l,r,h=>by
  simp only[takeN]at h;split at h
  ·rename_i O Y;obtain⟨rfl,C⟩:=pS Y;simp at h;subst h;simp;exact C
  ·simp at h
theorem kE {α:Type}:∀{n:Nat} {l r:List α},gv n l=some r->r=l.drop n/\n<=l.length
 | 0,l,r,h=>by simp[gv]at h;subst h;simp
 | n+1,[],r,h=>by simp[gv]at h
 | n+1,x::l,r,h=>by
  simp only[gv]at h;obtain⟨rfl,C⟩:=kE h;simp;exact C
theorem cO.get {G:jm} {b:Nat}:∀{o:Nat} {cs:List CV},cO G b o cs->∀(j:Nat) c,cs[j]?=some c->∃u,G b (o+j)=some u/\Rel G c u/\c.one=true
 | o,[],_,j,c,h=>by simp at h
 | o,x::cs,h,j,c,hj=>by
  simp only[cO]at h;cases j with
  | zero=>simp at hj;subst hj;exact h.1
  | succ j =>
   simp at hj;have:=h.2.get j c hj;rwa[show o+1+j=o+(j+1)from by omega]at this
theorem cO.drop {G:jm} {b:Nat}:∀{o n:Nat} {cs:List CV},cO G b o cs->cO G b (o+n) (cs.drop n)
 | o,0,cs,h=>by simpa using h
 | o,n+1,[],h=>by simp[cO]
 | o,n+1,x::cs,h=>by
  simp only[cO]at h;have:=cO.drop (n:=n) h.2;simpa[show o+1+n=o+(n+1)from by omega]using this
theorem cO.jS {G:jm} {b:Nat}:∀{o:Nat} {cs:List CV},(∀(j:Nat) c,cs[j]?=some c->∃u,G b (o+j)=some u/\Rel G c u/\c.one=true)->cO G b o cs
 | o,[],_=>by simp[cO]
 | o,x::cs,h=>by
  simp only[cO];refine⟨by simpa using h 0 x cn,cO.jS fun j c P=>?_⟩;have:=h (j+1) c (by simpa using P);rwa[show o+(j+1)=o+1+j from by omega]at this
theorem ff.get {G:jm} {s b:Nat}:∀{o:Nat} {rows:List CV},ff G s b o rows->∀(j:Nat) r,rows[j]?=some r->cO G b (o+j*s) r.cells/\r.cells.length=s
 | o,[],_,j,r,h=>by simp at h
 | o,x::rows,h,j,r,hj=>by
  simp only[ff]at h;cases j with
  | zero=>simp at hj;subst hj;exact⟨by simpa using (yL G b o x).1 h.1,h.2.1⟩
  | succ j =>
   simp at hj;have:=h.2.2.get j r hj;rwa[show o+s+j*s=o+(j+1)*s from by rw[Nat.succ_mul];omega]at this
theorem ff.drop {G:jm} {s b:Nat}:∀{o n:Nat} {rows:List CV},ff G s b o rows->ff G s b (o+n*s) (rows.drop n)
 | o,0,rows,h=>by simpa using h
 | o,n+1,[],h=>by simp[ff]
 | o,n+1,x::rows,h=>by
  simp only[ff]at h;have:=ff.drop (n:=n) h.2.2;simpa[show o+s+n*s=o+(n+1)*s from by rw[Nat.succ_mul];omega]using this
theorem ff.take {G:jm} {s b:Nat}:∀{o n:Nat} {rows:List CV},ff G s b o rows->ff G s b o (rows.take n)
 | o,0,rows,h=>by simp[ff]
 | o,n+1,[],h=>by simp[ff]
 | o,n+1,x::rows,h=>by
  simp only[ff]at h;simp only[List.take_succ_cons,ff];exact⟨h.1,h.2.1,ff.take h.2.2⟩
theorem cy.get {w:World} {g:Gh} {b:Nat}:∀{o:Nat} {cs:List AV},cy w g b o cs->∀(j:Nat) c,cs[j]?=some c ->
  (∃u,w.cell? ⟨b,o+j,none⟩=some u/\aJ g c u/\c.one=true)/\w.frozen? ⟨b,o+j,none⟩=false
 | o,[],_,j,c,h=>by simp at h
 | o,x::cs,h,j,c,hj=>by
  simp only[cy]at h;cases j with
  | zero=>simp at hj;subst hj;exact⟨h.1,h.2.1⟩
  | succ j =>
   simp at hj;have:=h.2.2.get j c hj;rwa[show o+1+j=o+(j+1)from by omega]at this
theorem cy.jS {w:World} {g:Gh} {b:Nat}:∀{o:Nat} {cs:List AV},(∀(j:Nat) c,cs[j]?=some c ->
  (∃u,w.cell? ⟨b,o+j,none⟩=some u/\aJ g c u/\c.one=true)/\w.frozen? ⟨b,o+j,none⟩=false)->cy w g b o cs
 | o,[],_=>trivial
 | o,x::cs,h=>by
  refine⟨by simpa using (h 0 x cn).1,by simpa using (h 0 x cn).2,cy.jS fun j c P=>?_⟩;have:=h (j+1) c (by simpa using P);rwa[show o+(j+1)=o+1+j from by omega]at this
theorem bO.get {G:jm}:∀{cs:List CV} {vs:List Value},bO G cs vs->cs.length=vs.length/\∀(j:Nat) c,cs[j]?=some c->∃u,vs[j]?=some u/\Rel G c u
 | [],vs,h=>by simp only[bO]at h;subst h;simp
 | c::cs,vs,h=>by
  simp only[bO]at h;obtain⟨u,us,rfl,E,I⟩:=h;obtain⟨C,Q⟩:=I.get;refine⟨by simp[C],fun j V P=>?_⟩;cases j with
  | zero=>simp at P;subst P;exact⟨u,cn,E⟩
  | succ j=>simp at P;simpa using Q j V P
theorem bH.get {g:Gh}:∀{cs:List AV} {vs:List Value},bH g cs vs->cs.length=vs.length/\∀(j:Nat) c,cs[j]?=some c->∃u,vs[j]?=some u/\aJ g c u
 | [],vs,h=>by simp only[bH]at h;subst h;simp
 | c::cs,vs,h=>by
  simp only[bH]at h;obtain⟨u,us,rfl,E,I⟩:=h;obtain⟨C,Q⟩:=I.get;refine⟨by simp[C],fun j G P=>?_⟩;cases j with
  | zero=>simp at P;subst P;exact⟨u,cn,E⟩
  | succ j=>simp at P;simpa using Q j G P
theorem bO.jS {G:jm}:∀{cs:List CV} {vs:List Value},cs.length=vs.length->(∀(j:Nat) c u,cs[j]?=some c->vs[j]?=some u->Rel G c u)->bO G cs vs
 | [],vs,h,_=>by simp only[bO];exact List.eq_nil_of_length_eq_zero (by simpa using h.symm)
 | c::cs,[],h,_=>by simp at h
 | c::cs,u::us,h,Q=>by
  simp only[bO];exact⟨u,us,rfl,Q 0 c u cn cn,bO.jS lp fun j P M h1 h2=>Q (j+1) P M Vf uG⟩
theorem bH.jS {g:Gh}:∀{cs:List AV} {vs:List Value},cs.length=vs.length->(∀(j:Nat) c u,cs[j]?=some c->vs[j]?=some u->aJ g c u)->bH g cs vs
 | [],vs,h,_=>by simp only[bH];exact List.eq_nil_of_length_eq_zero (by simpa using h.symm)
 | c::cs,[],h,_=>by simp at h
 | c::cs,u::us,h,Q=>by
  simp only[bH];exact⟨u,us,rfl,Q 0 c u cn cn,bH.jS lp fun j G M h1 h2=>Q (j+1) G M Vf uG⟩
end Go.cu
namespace Go.cu
def G6:Value->Option AV
 | .int k n=>some (.c (.int k n))
 | .bool b=>some (.c (.bool b))
 | .string s=>some (.c (.str s.data.toList))
 | .pointer none=>some (.c .lI)
 | .slice none 0 0=>some (.own .exact 0 [])
 | _=>none
def Db:List Value->Option (List AV)
 | []=>some []
 | v::vs=>match G6 v with
  | some a=>match Db vs with
   | some l=>some (a::l)
   | none=>none
  | none=>none
def Sg:Value->Option AV
 | .agg cs=>match Db cs.toList with
  | some l=>some (.agg l)
  | none=>none
 | v=>G6 v
theorem FF (g:Gh):∀{v:Value} {a:AV},G6 v=some a->aJ g a v/\a.one=true:=by
 intro v a h;unfold G6 at h;split at h<;>simp at h<;>subst h<;>simp[aJ,Rel,AV.one,CV.one];exact⟨_,_,_,⟨rfl,rfl,rfl⟩,rfl,aam _,.inl rfl,rfl⟩
theorem FG (g:Gh):∀{vs:List Value} {l:List AV},Db vs=some l->bH g l vs/\l.all AV.one=true
 | [],l,h=>by simp[Db]at h;subst h;simp[bH]
 | v::vs,l,h=>by
  simp only[Db]at h;split at h
  ·rename_i a p;split at h
   ·rename_i G C;simp at h;subst h;obtain⟨h1,h2⟩:=FF g p;obtain⟨V,D⟩:=FG g C;exact⟨by simp only[bH];exact⟨v,vs,rfl,h1,V⟩,by simp[h2];simpa using D⟩
   ·simp at h
  ·simp at h
theorem Sh (g:Gh) {v:Value} {a:AV} (h:Sg v=some a):aJ g a v:=by
 unfold Sg at h;split at h
 ·rename_i cs;split at h
  ·rename_i l C;simp at h;subst h;obtain⟨h1,h2⟩:=FG g C;simp only[aJ];exact⟨cs.toList,cn,h1,h2⟩
  ·simp at h
 ·exact(FF g h).1
def aK (X:Ctx) (env:List (Nat×AV)):Operand->Option AV
 | .tmp t=>ak t env
 | .const v=>Sg v
 | .global n=>match X.q8 n with
  | some v=>some (.c v)
  | none=>none
 | .func f=>some (.c (.rK f []))
theorem cz {X:Ctx} {g:Gh} {env:List (Nat×AV)} {a:Act} (P:tN g env a.tmps) (Q:nw X g.G) {x:Operand} {v:AV} (h:aK X env x=some v):aJ g v (a.eval x):=by
 cases x with
 | tmp t=>exact P t v h
 | const c=>exact Sh g h
 | global n =>
  simp only[aK]at h;split at h
  ·rename_i M Y;simp at h;subst h;simp only[aJ];exact Q n M Y
  ·simp at h
 | func f=>simp[aK]at h;subst h;simp only[aJ,Rel];exact⟨[],rfl,by simp[bO]⟩
def nth {α:Type}:List α->Nat->Option α
 | [],_=>none
 | x::_,0=>some x
 | _::l,n+1=>nth l n
theorem rq {α:Type}:∀(l:List α) (n:Nat),nth l n=l[n]?
 | [],n=>by simp[nth]
 | x::l,0=>by simp[nth]
 | x::l,n+1=>by simp[nth,rq l n]
def Wb (t:Bool) (a b:AV):Option AV :=
 match a,b with
 | .c (.bool x),.c (.bool y)=>some (.c (.bool (bif t then x else y)))
 | _,_=>match t with
  | true=>some a
  | false=>some b
def wV (i:TI) (cells:List AV):Option AV :=
 match i.isAgg with
 | true=>match takeN i.size cells with
  | some l=>some (.agg l)
  | none=>none
 | false=>match cells with
  | c::_=>some c
  | []=>none
def Ab (i:TI) (cells:List CV):Option AV :=
 match i.isAgg with
 | true=>match takeN i.size cells with
  | some l=>some (.c (.agg l))
  | none=>none
 | false=>match cells with
  | c::_=>some (.c c)
  | []=>none
section
variable {P : Program} {X : Ctx} {w : World} {g : Gh}
theorem yM (hX:cC P X) {t:Nat} {i:TI} (W:X.ti t=some i) (p:i.isAgg=true) (b o:Nat) (vs:List Value) (C:vs.length=i.size)
  (h:∀j v,vs[j]?=some v->w.cell? ⟨b,o+j,none⟩=some v) :
  (Instr.loadAt t (.pointer (some ⟨b,o,none⟩))).run P w = .ok (.agg vs.toArray) w:=by
 have E:=run_loadCells_list (P:=P) w ⟨b,o,none⟩ vs (fun j v Y=>by rw[Addr.add_lit];exact h j v Y);simp only[Instr.loadAt,Instr.sureAddr,loadVar,Sem.run_bind,Sem.run_pure,Result.andThen_ok,hX.o8 W,p,if_true,hX.run_sizeOf W];rw[<- C,E];rfl
theorem yN (hX:cC P X) {t:Nat} {i:TI} (W:X.ti t=some i) (p:i.isAgg=false) (b o:Nat) (v:Value)
  (h:w.cell? ⟨b,o,none⟩=some v) :
  (Instr.loadAt t (.pointer (some ⟨b,o,none⟩))).run P w = .ok v w:=by
 simp[Instr.loadAt,Instr.sureAddr,loadVar,hX.o8 W,p,h]
theorem Si (hX:cC P X) {t:Nat} {i:TI} (W:X.ti t=some i) {b o:Nat} {cells:List AV} (E:cy w g b o cells) {v:AV} (h:wV i cells=some v) :
  ∃u,(Instr.loadAt t (.pointer (some ⟨b,o,none⟩))).run P w = .ok u w/\aJ g v u:=by
 unfold wV at h;split at h
 ·rename_i p;split at h
  ·rename_i l C;simp at h;subst h;obtain⟨rfl,O⟩:=pS C;have T:∀(n:Nat) (cs:List AV) (o:Nat),cy w g b o cs->n<=cs.length->∃vs:List Value,vs.length=n/\(∀j v,vs[j]?=some v->w.cell? ⟨b,o+j,none⟩=some v)/\bH g (cs.take n) vs/\(cs.take n).all AV.one=true:=by
    intro n
    induction n with
    | zero=>intro cs o _ _;exact⟨[],rfl,cn,by simp[bH],cn⟩
    | succ n S =>
     intro cs o Y Q;cases cs with
     | nil=>simp at Q
     | cons x cs =>
      obtain⟨⟨u,A,I,q⟩,_,pR⟩:=Y;obtain⟨vs,h1,h2,V,D⟩:=S cs (o+1) pR (by simpa using Q);refine⟨u::vs,QZ,?_,?_,?_⟩
      ·grind
      ·simp only[List.take_succ_cons,bH];exact⟨u,vs,rfl,I,V⟩
      ·simp_all
   obtain⟨vs,h1,h2,V,D⟩:=T i.size cells o E O;exact⟨.agg vs.toArray,yM hX W p b o vs h1 h2,by simp only[aJ];exact⟨vs,rfl,V,D⟩⟩
  ·simp at h
 ·rename_i p;split at h
  ·rename_i c rest;simp at h;subst h;obtain⟨⟨u,A,I,_⟩,_,_⟩:=E;exact⟨u,yN hX W p b o u A,I⟩
  ·simp at h
theorem PF (hX:cC P X) (U:∀b o v,g.G b o=some v->w.cell? ⟨b,o,none⟩=some v) {t:Nat} {i:TI} (W:X.ti t=some i) {b o:Nat} {cells:List CV}
  (E:cO g.G b o cells) {v:AV} (h:Ab i cells=some v) :
  ∃u,(Instr.loadAt t (.pointer (some ⟨b,o,none⟩))).run P w = .ok u w/\aJ g v u:=by
 unfold Ab at h;split at h
 ·rename_i p;split at h
  ·rename_i l C;simp at h;subst h;obtain⟨rfl,O⟩:=pS C;have T:∀(n:Nat) (cs:List CV) (o:Nat),cO g.G b o cs->n<=cs.length->∃vs:List Value,vs.length=n/\(∀j v,vs[j]?=some v->w.cell? ⟨b,o+j,none⟩=some v)/\bO g.G (cs.take n) vs/\(cs.take n).all CV.one=true:=by
    intro n
    induction n with
    | zero=>intro cs o _ _;exact⟨[],rfl,cn,by simp[bO],cn⟩
    | succ n S =>
     intro cs o Y Q;cases cs with
     | nil=>simp at Q
     | cons x cs =>
      simp only[cO]at Y;obtain⟨⟨u,A,I,q⟩,pR⟩:=Y;obtain⟨vs,h1,h2,V,D⟩:=S cs (o+1) pR (by simpa using Q);refine⟨u::vs,QZ,?_,?_,?_⟩
      ·grind
      ·simp only[List.take_succ_cons,bO];exact⟨u,vs,rfl,I,V⟩
      ·simp_all
   obtain⟨vs,h1,h2,V,D⟩:=T i.size cells o E O;exact⟨.agg vs.toArray,yM hX W p b o vs h1 h2,by simp only[aJ,Rel];exact⟨vs,rfl,V,D⟩⟩
  ·simp at h
 ·rename_i p;split at h
  ·rename_i c rest;simp at h;subst h;simp only[cO]at E;obtain⟨⟨u,A,I,_⟩,_⟩:=E;exact⟨u,yN hX W p b o u (U _ _ _ A),by simpa only[aJ]using I⟩
  ·simp at h
end
end Go.cu
namespace Go.cu
theorem toList_mk (l:List UInt8):(ByteArray.mk l.toArray).toList=l:=by rw[ByteArray.toList_eq]
def Sj (q:BinOp) (k:IntKind) (a b:Int):Option CV :=
 match q with
 | .add=>some (.int k (k.wrap (a+b)))
 | .sub=>some (.int k (k.wrap (a-b)))
 | .mul=>some (.int k (k.wrap (a*b)))
 | .quo=>match b==0 with
  | true=>none
  | false=>some (.int k (k.wrap (a.tdiv b)))
 | .rem=>match b==0 with
  | true=>none
  | false=>some (.int k (a.tmod b))
 | .and=>some (.int k (k.wrap (BitVec.ofInt k.bits a&&&BitVec.ofInt k.bits b).toNat))
 | .or=>some (.int k (k.wrap (BitVec.ofInt k.bits a|||BitVec.ofInt k.bits b).toNat))
 | .xor=>some (.int k (k.wrap (BitVec.ofInt k.bits a ^^^ BitVec.ofInt k.bits b).toNat))
 | .eql=>some (.bool (a==b))
 | .neq=>some (.bool (a != b))
 | .lss=>some (.bool (decide (a<b)))
 | .leq=>some (.bool (decide (a<=b)))
 | .gtr=>some (.bool (decide (a>b)))
 | .geq=>some (.bool (decide (a>=b)))
 | _=>none
def sameKind:IntKind->IntKind->Bool
 | .i64,.i64 | .u8,.u8 | .u64,.u64 | .i32,.i32 | .u32,.u32=>true
 | _,_=>false
theorem Jx {j k:IntKind} (h:sameKind j k=true):j=k:=by
 cases j<;>cases k<;>simp[sameKind]at h<;>rfl
def Ac (q:BinOp) (k:IntKind) (a b:Int):Option CV :=
 match q,b with
 | .shl,.ofNat n=>some (.int k (k.wrap (a*2^(min n k.bits))))
 | .shr,.ofNat n=>some (.int k (a.fdiv (2^(min n k.bits))))
 | _,_=>none
def Xf (q:BinOp) (a b:List UInt8):Option CV :=
 match q with
 | .eql=>some (.bool (a==b))
 | .neq=>some (.bool (!(a==b)))
 | .lss=>some (.bool (Op.bytesLess a b))
 | .gtr=>some (.bool (!(Op.bytesLess a b||a==b)))
 | _=>none
def L1 (k:TK) (q:BinOp) (x y:AV):Option AV :=
 match x,y with
 | .c (.int j a),.c (.int j' b) =>
  match q with
  | .shl | .shr=>match Ac q j a b with
   | some v=>some (.c v)
   | none=>none
  | _=>match sameKind j j' with
   | true=>match Sj q j a b with
    | some v=>some (.c v)
    | none=>none
   | false=>none
 | .c (.str a),.c (.str b)=>match Xf q a b with
  | some v=>some (.c v)
  | none=>none
 | .c (.bool a),.c (.bool b)=>match k,q with
  | .bool,.eql=>some (.c (.bool (a==b)))
  | .bool,.neq=>some (.c (.bool (!(a==b))))
  | _,_=>none
 | .c (.ip _),.c .lI=>match k,q with
  | .ptr _,.eql=>some (.c (.bool false))
  | .ptr _,.neq=>some (.c (.bool true))
  | _,_=>none
 | .c .lI,.c .lI=>match k,q with
  | .ptr _,.eql=>some (.c (.bool true))
  | .ptr _,.neq=>some (.c (.bool false))
  | _,_=>none
 | _,_=>none
section
variable {P : Program} {X : Ctx} {w : World} {g : Gh}
theorem UT {q:BinOp} {k:IntKind} {a b:Int} {v:CV} (h:Sj q k a b=some v) (t:TypeId) (x y:Operand) :
  ∃u,(do eqGuard q t x y (.int k a) (.int k b);binOp q t (.int k a) (.int k b)).run P w = .ok u w/\Rel g.G v u:=by
 cases q<;>simp only[Sj]at h<;>simp only[eqGuard_at_int]
 case quo =>
  split at h
  ·simp at h
  ·rename_i p;simp at h;subst h;have:b≠0:=by simpa using p
   exact⟨_,by simp[binOp,Op.intDiv,this];rfl,TS⟩
 case rem =>
  split at h
  ·simp at h
  ·rename_i p;simp at h;subst h;have:b≠0:=by simpa using p
   exact⟨_,by simp[binOp,Op.intDiv,this];rfl,TS⟩
 all_goals first
  | (simp at h;done)
  | (simp at h;subst h;exact⟨_,by simp[binOp,Op.intArith,Op.intBits,Op.intCmp];rfl,TS⟩)
theorem PG {q:BinOp} {k k':IntKind} {a b:Int} {v:CV} (h:Ac q k a b=some v) (t:TypeId) (x y:Operand) :
  ∃u,(do eqGuard q t x y (.int k a) (.int k' b);binOp q t (.int k a) (.int k' b)).run P w = .ok u w/\Rel g.G v u:=by
 unfold Ac at h;split at h
 ·rename_i n;simp at h;subst h;refine⟨.int k (k.wrap (a*2^(min n k.bits))),?_,TS⟩;simp[eqGuard_at_int,binOp,Op.shift,show ¬((n:Int)<0)from by omega]
 ·rename_i n;simp at h;subst h;refine⟨.int k (a.fdiv (2^(min n k.bits))),?_,TS⟩;simp[eqGuard_at_int,binOp,Op.shift,show ¬((n:Int)<0)from by omega]
 ·simp at h
theorem UU {q:BinOp} {a b:List UInt8} {v:CV} (h:Xf q a b=some v) (t:TypeId) (x y:Operand) :
  ∃u,(do eqGuard q t x y (.string ⟨a.toArray⟩) (.string ⟨b.toArray⟩);binOp q t (.string ⟨a.toArray⟩) (.string ⟨b.toArray⟩)).run P w = .ok u w/\Rel g.G v u:=by
 cases q<;>simp only[Xf]at h<;>first
  | (simp at h;done)
  | (simp at h;subst h;exact⟨_,by simp[eqGuard_at_string,binOp,Op.stringOp,toList_mk];rfl,TS⟩)
theorem yO {t:TypeId} (d:Nat) (h:(underlying t).run P w = .ok .bool w) (a b:Bool):(Op.equalIn (d+1) t (.bool a) (.bool b)).run P w = .ok (a==b) w:=by
 simp[Op.equalIn,h]
theorem Ad {t e:TypeId} (d:Nat) (h:(underlying t).run P w = .ok (.pointer e) w) (a:Addr):(Op.equalIn (d+1) t (.pointer (some a)) (.pointer none)).run P w = .ok false w:=by
 simp[Op.equalIn,h]
theorem Ae {t e:TypeId} (d:Nat) (h:(underlying t).run P w = .ok (.pointer e) w):(Op.equalIn (d+1) t (.pointer none) (.pointer none)).run P w = .ok true w:=by
 simp[Op.equalIn,h]
theorem run_equal_bool {t:TypeId} (h:(underlying t).run P w = .ok .bool w) (a b:Bool):(Op.equal t (.bool a) (.bool b)).run P w = .ok (a==b) w :=
 yO 9999 h a b
theorem jX {t e:TypeId} (h:(underlying t).run P w = .ok (.pointer e) w) (a:Addr):(Op.equal t (.pointer (some a)) (.pointer none)).run P w = .ok false w :=
 Ad 9999 h a
theorem run_equal_nil_nil {t e:TypeId} (h:(underlying t).run P w = .ok (.pointer e) w):(Op.equal t (.pointer none) (.pointer none)).run P w = .ok true w :=
 Ae 9999 h
theorem uO (t:TypeId) (a b:Bool):binOp .eql t (.bool a) (.bool b)=(do pure (.bool (<- Op.equal t (.bool a) (.bool b)))):=rfl
theorem uT (t:TypeId) (a b:Bool):binOp .neq t (.bool a) (.bool b)=(do pure (.bool (!(<- Op.equal t (.bool a) (.bool b))))):=rfl
theorem nO (t:TypeId) (a b:Option Addr):binOp .eql t (.pointer a) (.pointer b)=(do pure (.bool (<- Op.equal t (.pointer a) (.pointer b)))):=rfl
theorem nP (t:TypeId) (a b:Option Addr):binOp .neq t (.pointer a) (.pointer b)=(do pure (.bool (!(<- Op.equal t (.pointer a) (.pointer b))))):=rfl
theorem UW (hX:cC P X) {t:Nat} {i:TI} (I:X.ti t=some i) {W:BinOp} {x y:AV} {v:AV} (h:L1 i.kind W x y=some v)
  {p q:Value} (T:aJ g x p) (hq:aJ g y q) (U S:Operand) :
  ∃u,(do eqGuard W t U S p q;binOp W t p q).run P w = .ok u w/\aJ g v u:=by
 obtain⟨d,V,Y,K⟩:=hX.run_underlying (w:=w) I;unfold L1 at h;split at h
 ·rename_i j a O b;simp only[aJ,Rel]at T hq;subst T hq;have N:∀(M:CV),Ac W j a b=some M->∃u,(do eqGuard W t U S (.int j a) (.int O b);binOp W t (.int j a) (.int O b)).run P w = .ok u w/\aJ g (.c M) u:=by
   intro M Q;obtain⟨u,h1,h2⟩:=PG (P:=P) (w:=w) (g:=g) (k':=O) Q t U S;exact⟨u,h1,uH⟩
  split at h
  ·grind
  ·grind
  ·split at h
   ·rename_i D;have:=Jx D;subst this;split at h
    ·rename_i M Q;simp at h;subst h;obtain⟨u,h1,h2⟩:=UT (P:=P) (w:=w) (g:=g) Q t U S;exact⟨u,h1,uH⟩
    ·simp at h
   ·simp at h
 ·rename_i a b;simp only[aJ,Rel]at T hq;subst T hq;split at h
  ·rename_i M Q;simp at h;subst h;obtain⟨u,h1,h2⟩:=UU (P:=P) (w:=w) (g:=g) Q t U S;exact⟨u,h1,uH⟩
  ·simp at h
 ·rename_i a b;simp only[aJ,Rel]at T hq;subst T hq;split at h<;>simp at h<;>subst h<;>rename_i D<;>rw[D]at Y<;>simp only[eG]at Y<;>subst Y
  ·exact⟨.bool (a==b),Sn,nu⟩
  ·exact⟨.bool (!(a==b)),Sn,nu⟩
 ·rename_i cs;simp only[aJ,Rel]at T hq;subst hq;obtain⟨b,o,rfl,_⟩:=T;split at h<;>simp at h<;>subst h<;>rename_i D<;>rw[D]at Y<;>simp only[eG]at Y<;>subst Y
  ·exact⟨.bool false,mc,nu⟩
  ·exact⟨.bool true,mc,nu⟩
 ·simp only[aJ,Rel]at T hq;subst T hq;split at h<;>simp at h<;>subst h<;>rename_i D<;>rw[D]at Y<;>simp only[eG]at Y<;>subst Y
  ·exact⟨.bool true,mc,nu⟩
  ·exact⟨.bool false,mc,nu⟩
 ·simp at h
end
end Go.cu
namespace Go.cu
def opened:List CV->Option (List AV)
 | []=>some []
 | c::cs=>match opened cs with
  | some l=>some (.c c::l)
  | none=>none
theorem FH:∀(cs:List CV),opened cs=some (cs.map AV.c)
 | []=>rfl
 | c::cs=>by simp[opened,FH cs]
def jT:AV->Option (List AV)
 | .c (.agg cs)=>opened cs
 | .c (.gB _)=>none
 | .c .undef=>none
 | .gB _=>none
 | .agg cs=>some cs
 | a=>some [a]
def dL:Nat->List AV->List AV->Option (List AV)
 | _,[],l=>some l
 | 0,v::vs,_::l=>match dL 0 vs l with
  | some r=>some (v::r)
  | none=>none
 | n+1,vs,x::l=>match dL n vs l with
  | some r=>some (x::r)
  | none=>none
 | _,_::_,[]=>none
mutual
def close:AV->Option CV
 | .c v=>some v
 | .own _ s rows=>some (.sl s rows)
 | .ptr _ _=>none
 | .gy .. => none
 | .any=>none
 | .agg cs=>match Af cs with
  | some l=>some (.agg l)
  | none=>none
 | .gB cs=>match Af cs with
  | some l=>some (.gB l)
  | none=>none
def Af:List AV->Option (List CV)
 | []=>some []
 | a::l=>match close a with
  | some v=>match Af l with
   | some r=>some (v::r)
   | none=>none
  | none=>none
end
def asNat:AV->Option Nat
 | .c (.int _ (.ofNat n))=>some n
 | _=>none
def bound (ρ:Operand->Option AV):Option Operand->Option (Option Nat)
 | none=>some none
 | some x=>match ρ x with
  | some a=>match asNat a with
   | some n=>some (some n)
   | none=>none
  | none=>none
def Dc (s:Nat) (rows:List CV) (S:Option Nat) (h:Nat) (exact:Bool):Option AV :=
 match takeN h rows with
 | some D=>match (match S with
   | some l=>gv l D
   | none=>some D)with
  | some r=>match exact with
   | true=>some (.own .exact s r)
   | false=>some (.c (.sl s r))
  | none=>none
 | none=>none
def Ag (k:TK) (es:Nat) (x:AV) (S W T:Option Nat):Option AV :=
 match k,x with
 | .str,.c (.str s)=>match T with
  | some _=>none
  | none=>match (match W with
    | some h=>takeN h s
    | none=>some s)with
   | some q=>match S with
    | some l=>match gv l q with
     | some r=>some (.c (.str r))
     | none=>none
    | none=>some (.c (.str q))
   | none=>none
 | .slice _,.own o s rows=>match Nat.beq s es with
  | false=>none
  | true=>match W,T with
  | none,none=>match S with
   | some l=>match gv l rows with
    | some r=>some (.own o s r)
    | none=>none
   | none=>some (.own o s rows)
  | some h,none=>Dc s rows S h false
  | some h,some m=>match Nat.beq h m with
   | true=>Dc s rows S h true
   | false=>none
  | none,some _=>none
 | .slice _,.c (.sl s rows)=>match Nat.beq s es with
  | false=>none
  | true=>match W,T with
  | none,none=>match S with
   | some l=>match gv l rows with
    | some r=>some (.c (.sl s r))
    | none=>none
   | none=>some (.c (.sl s rows))
  | some h,none=>Dc s rows S h false
  | some h,some m=>match Nat.beq h m with
   | true=>Dc s rows S h true
   | false=>none
  | none,some _=>none
 | _,_=>none
def rowsOf:AV->Option (Nat×List CV)
 | .own _ s rows=>some (s,rows)
 | .c (.sl s rows)=>some (s,rows)
 | _=>none
def rX (X:Ctx) (ρ:Operand->Option AV) (T:List (Nat×Nat)):List (Nat×Operand)->List AV->Option (List AV)
 | [],cells=>some cells
 | (i,x)::rest,cells=>match nth T i,ρ x with
  | some (off,S),some a=>match X.ti S,jT a with
   | some j,some vs=>match Nat.beq vs.length j.size,dL off vs cells with
    | true,some cells'=>rX X ρ T rest cells'
    | _,_=>none
   | _,_=>none
  | _,_=>none
def Xh (k:TK) (x:AV):Option AV :=
 match k,x with
 | .slice _,.own _ _ rows=>some (.c (.int .i64 rows.length))
 | .slice _,.gy _ _ _ n=>some (.c (.int .i64 n))
 | .slice _,.c (.sl _ rows)=>some (.c (.int .i64 rows.length))
 | .str,.c (.str s)=>some (.c (.int .i64 s.length))
 | .arr n _,_=>some (.c (.int .i64 n))
 | _,_=>none
def Zf:List (Option AV)->Option AV
 | [some (.c (.int k a)),some (.c (.int _ b))]=>some (.c (.int k (if b<a then b else a)))
 | _=>none
def Zg:List (Option AV)->Option AV
 | [some (.c (.int k a)),some (.c (.int _ b))]=>some (.c (.int k (if b>a then b else a)))
 | _=>none
def hJ (ρ:Operand->Option AV):List Operand->Option (List CV)
 | []=>some []
 | x::l=>match ρ x with
  | some a=>match close a with
   | some v=>match hJ ρ l with
    | some r=>some (v::r)
    | none=>none
   | none=>none
  | none=>none
def gM (X:Ctx) (W:List (Nat×List AV)) (ρ:Operand->Option AV):Op->Option AV
 | .move x=>ρ x
 | .assign x=>ρ x
 | .pick c a b=>match ρ c,ρ a,ρ b with
  | some (.c (.bool t)),some a,some b=>Wb t a b
  | _,_,_=>none
 | .load t x=>match X.ti t,ρ x with
  | some i,some (.ptr V off)=>match ak V W with
   | some cells=>match gv off cells with
    | some l=>wV i l
    | none=>none
   | none=>none
  | some i,some (.c (.ip cs))=>Ab i cs
  | _,_=>none
 | .nilCheck x=>match ρ x with
  | some (.ptr k o)=>some (.ptr k o)
  | some (.c (.ip cs))=>some (.c (.ip cs))
  | some (.c (.rK f cs))=>some (.c (.rK f cs))
  | _=>none
 | .binOp q t x y _=>match X.ti t,ρ x,ρ y with
  | some i,some a,some b=>L1 i.kind q a b
  | _,_,_=>none
 | .unOp q _ x=>match q,ρ x with
  | .not,some (.c (.bool b))=>some (.c (.bool (!b)))
  | .neg,some (.c (.int k n))=>some (.c (.int k (k.wrap (0-n))))
  | _,_=>none
 | .convert s d x=>match X.ti s,X.ti d,ρ x with
  | some _,some j,some (.c (.int _ n))=>match j.kind with
   | .int k=>some (.c (.int k (k.wrap n)))
   | _=>none
  | _,_,_=>none
 | .fieldAddr t x f=>match X.ti t,ρ x with
  | some i,some a=>match i.kind with
   | .struct T=>match nth T f with
    | some (off,_)=>match a with
     | .ptr k o=>some (.ptr k (o+off))
     | .c (.ip cs)=>match gv off cs with
      | some r=>some (.c (.ip r))
      | none=>none
     | _=>none
    | none=>none
   | _=>none
  | _,_=>none
 | .field t x f=>match X.ti t,ρ x with
  | some i,some a=>match i.kind with
   | .struct T=>match nth T f with
    | some (off,O)=>match X.ti O with
     | some j=>match a with
      | .agg cs=>match gv off cs with
       | some r=>wV j r
       | none=>none
      | .c (.agg cs)=>match gv off cs with
       | some r=>Ab j r
       | none=>none
      | _=>none
     | none=>none
    | none=>none
   | _=>none
  | _,_=>none
 | .indexAddr t x B=>match X.ti t,ρ x,ρ B with
  | some i,some a,some n=>match asNat n with
   | some n=>match i.kind with
    | .slice e=>match X.ti e,rowsOf a with
     | some j,some (s,rows)=>match Nat.beq s j.size,nth rows n with
      | true,some r=>some (.c (.ip r.cells))
      | _,_=>none
     | _,_=>none
    | .arr m e=>match X.ti e,a,Nat.blt n m with
     | some j,.ptr k o,true=>some (.ptr k (o+n*j.size))
     | _,_,_=>none
    | _=>none
   | none=>none
  | _,_,_=>none
 | .index t x B=>match X.ti t,ρ x,ρ B with
  | some i,some a,some n=>match asNat n with
   | some n=>match i.kind,a with
    | .str,.c (.str s)=>match nth s n with
     | some b=>some (.c (.int .u8 b.toNat))
     | none=>none
    | _,_=>none
   | none=>none
  | _,_,_=>none
 | .extract x n=>match ρ x with
  | some (.gB cs)=>nth cs n
  | some (.c (.gB cs))=>match nth cs n with
   | some v=>some (.c v)
   | none=>none
  | _=>none
 | .build t C=>match X.ti t with
  | some i=>match i.kind,i.zero with
   | .struct T,some (.agg z)=>match rX X ρ T C.toList z with
    | some cells=>some (.agg cells)
    | none=>none
   | _,_=>none
  | none=>none
 | .slice t x S I Y=>match X.ti t,ρ x,bound ρ S,bound ρ I,bound ρ Y with
  | some i,some a,some S,some I,some Y=>match i.kind with
   | .slice e=>match X.ti e with
    | some j=>Ag i.kind j.size a S I Y
    | none=>none
   | _=>Ag i.kind 0 a S I Y
  | _,_,_,_,_=>none
 | .makeFunc (.func f) first caps=>match first.toList,hJ ρ caps.toList with
  | [],some l=>some (.c (.rK f l))
  | _,_=>none
 | .call {callee := .builtin .len,args,argTypes}=>match args.toList,argTypes.toList with
  | [x],[t]=>match X.ti t,ρ x with
   | some i,some a=>Xh i.kind a
   | _,_=>none
  | _,_=>none
 | .call {callee := .builtin .min,args,argTypes:=_}=>Zf (args.toList.map ρ)
 | .call {callee := .builtin .max,args,argTypes:=_}=>Zg (args.toList.map ρ)
 | _=>none
end Go.cu
namespace Go.cu
section
variable {P : Program} {X : Ctx} {w : World} {g : Gh}
theorem uU {s:List UInt8}:(ByteArray.mk s.toArray).size=s.length:=by simp[ByteArray.size]
theorem extract_mk (s:List UInt8) (l h:Nat):(ByteArray.mk s.toArray).extract l h=⟨((s.take h).drop l).toArray⟩:=by
 apply ByteArray.ext;simp[ByteArray.data_extract];rw[List.drop_take]
theorem gQ {y n:Nat} (h:n<=y) (k:IntKind) (c:BoundsCode):(Instr.sliceBound (.int k (n:Int)) y c).run P w = .ok n w:=by
 simp[Instr.sliceBound,asIntOf,h]
theorem vX {a:AV} {n:Nat} (h:asNat a=some n) {u:Value} (I:aJ g a u):∃k,u = .int k (Int.ofNat n):=by
 unfold asNat at h;split at h
 ·simp at h;subst h;simp only[aJ,Rel]at I;exact⟨_,I⟩
 ·simp at h
def eV (o:Option Value):Option Nat->Prop
 | none=>o=none
 | some n=>∃k,o=some (.int k (Int.ofNat n))
theorem oh {ρ:Operand->Option AV} {ev:Operand->Value} (W:∀x v,ρ x=some v->aJ g v (ev x)) {o:Option Operand} {r:Option Nat}
  (h:bound ρ o=some r):eV (o.map ev) r:=by
 unfold bound at h;split at h
 ·simp at h;subst h;simp[eV]
 ·rename_i x;split at h
  ·rename_i a p;split at h
   ·rename_i n O;simp at h;subst h;obtain⟨k,e⟩:=vX O (W x a p);exact⟨k,by simp[e]⟩
   ·simp at h
  ·simp at h
theorem mH {V E h l:Nat} {S W:Option Value} (Y:Bool) (U:eV W (some h)) (C:eV S (some l)) (h1:h<=E) (h2:l<=h) :
  (Instr.sliceBounds Y V E S W none).run P w = .ok (l,h,E) w:=by
 obtain⟨k,rfl⟩:=U;obtain⟨k',rfl⟩:=C;simp[Instr.sliceBounds,gQ h1,gQ h2]
theorem lT {V E h:Nat} {S W:Option Value} (Y:Bool) (U:eV W (some h)) (C:eV S none) (h1:h<=E) :
  (Instr.sliceBounds Y V E S W none).run P w = .ok (0,h,E) w:=by
 obtain⟨k,rfl⟩:=U;simp only[eV]at C;subst C;simp[Instr.sliceBounds,gQ h1]
theorem jY {V E l:Nat} {S W:Option Value} (U:Bool) (Y:eV W none) (C:eV S (some l)) (h2:l<=V) :
  (Instr.sliceBounds U V E S W none).run P w = .ok (l,V,E) w:=by
 obtain⟨k,rfl⟩:=C;simp only[eV]at Y;subst Y;simp[Instr.sliceBounds,gQ h2]
theorem jZ {V E:Nat} {S W:Option Value} (U:Bool) (Y:eV W none) (C:eV S none) :
  (Instr.sliceBounds U V E S W none).run P w = .ok (0,V,E) w:=by
 simp only[eV]at Y C;subst Y C;simp[Instr.sliceBounds]
theorem yP {V E h l m:Nat} {S W T:Option Value} (Y:Bool) (u:eV T (some m)) (U:eV W (some h)) (C:eV S (some l))
  (B:m<=E) (h1:h<=m) (h2:l<=h) :
  (Instr.sliceBounds Y V E S W T).run P w = .ok (l,h,m) w:=by
 obtain⟨k,rfl⟩:=U;obtain⟨k',rfl⟩:=C;obtain⟨Q,rfl⟩:=u;simp[Instr.sliceBounds,gQ B,gQ h1,gQ h2]
theorem pT {V E h m:Nat} {S W T:Option Value} (Y:Bool) (u:eV T (some m)) (U:eV W (some h)) (C:eV S none)
  (B:m<=E) (h1:h<=m) :
  (Instr.sliceBounds Y V E S W T).run P w = .ok (0,h,m) w:=by
 obtain⟨k,rfl⟩:=U;obtain⟨Q,rfl⟩:=u;simp only[eV]at C;subst C;simp[Instr.sliceBounds,gQ B,gQ h1]
theorem kD.cut {G:jm} {s:Nat} {base:Option Addr} {rows:List CV} {V:Nat} (C:V=rows.length) (h:kD G s base rows) (l Y m:Nat) (h1:l<=Y) (h2:Y<=V) (W:Y<=m) :
  kD G s (if m=l then base else base.map (·.add (l*s))) ((rows.take Y).drop l):=by
 rcases h with rfl|⟨b,o,rfl,I⟩
 ·left;simp
 ·by_cases e:m=l
  ·left;simp;omega
  ·right;refine⟨b,o+l*s,by simp[e,Addr.add_lit],?_⟩;exact(I.take (n:=Y)).drop
theorem gw (hX:cC P X) {t e:Nat} {i j:TI} (W:X.ti t=some i) (D:i.kind = .slice e) (U:X.ti e=some j) {base:Option Addr} {V E:Nat} {S O T:Option Value}
  {l h m:Nat} (p:∀w,(Instr.sliceBounds true V E S O T).run P w = .ok (l,h,m) w) :
  (Instr.sliceAt t (.slice base V E) S O T).run P w = .ok (.slice (if m=l then base else base.map (·.add (l*j.size))) (h-l) (m-l)) w:=by
 obtain⟨d,Q,Y,_⟩:=hX.run_underlying (w:=w) W;rw[D]at Y;simp only[eG]at Y;subst Y;simp[Instr.sliceAt,Instr.slice,Q,p,hX.run_sizeOf U]
theorem EJ (hX:cC P X) {t:Nat} {i:TI} (W:X.ti t=some i) (D:i.kind = .str) {s:ByteArray} {S O:Option Value}
  {l h m:Nat} (p:∀w,(Instr.sliceBounds false s.size s.size S O none).run P w = .ok (l,h,m) w) :
  (Instr.sliceAt t (.string s) S O none).run P w = .ok (.string (s.extract l h)) w:=by
 obtain⟨d,V,Y,_⟩:=hX.run_underlying (w:=w) W;rw[D]at Y;simp only[eG]at Y;subst Y;simp[Instr.sliceAt,Instr.slice,V,p]
end
end Go.cu
namespace Go.cu
section
variable {P : Program} {X : Ctx} {w : World} {g : Gh}
theorem Dd {a:AV} {s:Nat} {rows:List CV} (h:rowsOf a=some (s,rows)) {u:Value} (I:aJ g a u) :
  ∃base V E,u = .slice base V E/\V=rows.length/\V<=E/\kD g.G s base rows:=by
 unfold rowsOf at h;split at h
 ·simp at h;obtain⟨rfl,rfl⟩:=h;simp only[aJ]at I;obtain⟨base,V,E,e,C,K,I,_⟩:=I;exact⟨base,V,E,e,C,K,I⟩
 ·simp at h;obtain⟨rfl,rfl⟩:=h;simp only[aJ,Rel]at I;exact I
 ·simp at h
theorem pQ.drop {s:Nat} {base:Option Addr} {V E l:Nat}:∀{k:UR},pQ g s base V E k->l<=V ->
  pQ g s (if E=l then base else base.map (·.add (l*s))) (V-l) (E-l) k
 | .exact,h,_=>by simp only[pQ]at h ⊢;omega
 | .tok T n,h,U=>by
  simp only[pQ]at h ⊢;obtain⟨Q,C,e,O,I⟩:=h;refine⟨Q,C,e,O,fun Y=>?_⟩;rcases I Y with I|⟨b,S,W,o,rfl,rfl,h1,h2,P⟩
  ·left;omega
  ·by_cases K:E=l
   ·left;omega
   ·right;refine⟨b,S,W,o+l*s,rfl,by simp[K,Addr.add_lit],?_,?_,bn⟩
    ·rw[h1];rw[Nat.add_assoc,<- Nat.add_mul];congr 2;omega
    ·rw[h2];rw[Nat.add_assoc,<- Nat.add_mul];congr 2;omega
theorem Sl {s:Nat} {rows:List CV} {S:Option Nat} {h:Nat} {ex:Bool} {v:AV} (e:Dc s rows S h ex=some v) :
  h<=rows.length/\S.getD 0<=h/\v=if ex then .own .exact s ((rows.take h).drop (S.getD 0))else .c (.sl s ((rows.take h).drop (S.getD 0))):=by
 unfold Dc at e;split at e
 ·rename_i D h1;obtain⟨rfl,C⟩:=pS h1;cases S with
  | none =>
   simp only at e;cases ex<;>simp at e<;>subst e<;>simp[C]
  | some l =>
   simp only at e;split at e
   ·rename_i r h2;obtain⟨rfl,Y⟩:=kE h2;have:l<=h:=by simp at Y;omega
    cases ex<;>simp at e<;>subst e<;>simp[C,this]
   ·simp at e
 ·simp at e
theorem FI (hX:cC P X) {t:Nat} {i:TI} (I:X.ti t=some i) {es:Nat} (J:∀e,i.kind = .slice e->∃j,X.ti e=some j/\j.size=es)
  {x v:AV} {S O mx:Option Nat} (h:Ag i.kind es x S O mx=some v) {u:Value} (hu:aJ g x u)
  {H C Q:Option Value} (Y:eV H S) (W:eV C O) (T:eV Q mx) :
  ∃r,(Instr.sliceAt t u H C Q).run P w = .ok r w/\aJ g v r:=by
 have cut:∀{e:Nat} {rows:List CV} {base:Option Addr} {V E:Nat} {U:Nat} {ex:Bool},i.kind = .slice e->V=rows.length->V<=E->kD g.G es base rows ->
   O=some U->(mx=if ex then some U else none)->Dc es rows S U ex=some v ->
   ∃r,(Instr.sliceAt t (.slice base V E) H C Q).run P w = .ok r w/\aJ g v r:=by
  intro e rows base V E U ex D p B q e1 e2 L2;obtain⟨j,N,M⟩:=J e D;obtain⟨c1,c2,c3⟩:=Sl L2;subst e1;cases ex with
  | false =>
   subst e2;simp only[eV]at T;subst T;have A:∀w,(Instr.sliceBounds true V E H C none).run P w = .ok (S.getD 0,U,E) w:=by
    intro w;cases S with
    | none=>exact lT true W Y bn
    | some l=>exact mH true W Y bn (by simpa using c2)
   refine⟨_,gw hX I D N A,?_⟩;rw[c3,M];simp only[Bool.false_eq_true,if_false,aJ,Rel];exact⟨_,_,_,rfl,j0,bn,(kD.cut p q (S.getD 0) U E c2 bn bn)⟩
  | true =>
   subst e2;have A:∀w,(Instr.sliceBounds true V E H C Q).run P w = .ok (S.getD 0,U,U) w:=by
    intro w;cases S with
    | none=>exact pT true T W Y bn bn
    | some l=>exact yP true T W Y bn bn (by simpa using c2)
   refine⟨_,gw hX I D N A,?_⟩;rw[c3,M];simp only[aJ,if_true];exact⟨_,_,_,rfl,j0,bn,(kD.cut p q (S.getD 0) U U c2 bn bn),rfl⟩
 unfold Ag at h;split at h
 ·
  rename_i D;rename_i s;simp only[aJ,Rel]at hu;subst hu;split at h
  ·simp at h
  ·simp only[eV]at T;subst T;have fin:∀{l h':Nat},(∀w,(Instr.sliceBounds false (ByteArray.mk s.toArray).size (ByteArray.mk s.toArray).size H C none).run P w = .ok (l,h',(ByteArray.mk s.toArray).size) w) ->
     v = .c (.str ((s.take h').drop l))->∃r,(Instr.sliceAt t (.string ⟨s.toArray⟩) H C none).run P w = .ok r w/\aJ g v r:=by
    intro l h' A e;refine⟨_,EJ hX I D A,?_⟩;rw[e,extract_mk];simp[aJ,Rel]
   cases O with
   | none =>
    simp only at h;cases S with
    | none =>
     simp at h;subst h;exact fin (fun w=>jZ false W Y) (by simp[uU])
    | some l =>
     simp only at h;split at h
     ·rename_i r hr;obtain⟨rfl,hl⟩:=kE hr;simp at h;subst h;exact fin (fun w=>jY false W Y (by rw[uU];exact hl)) (by simp[uU])
     ·simp at h
   | some U =>
    simp only at h;split at h
    ·rename_i s1 rR;obtain⟨rfl,Gv⟩:=pS rR;cases S with
     | none =>
      simp at h;subst h;exact fin (fun w=>lT false W Y (by rw[uU];exact Gv)) cn
     | some l =>
      simp only at h;split at h
      ·rename_i r hr;obtain⟨rfl,hl⟩:=kE hr;simp at h;subst h;exact fin (fun w=>mH false W Y (by rw[uU];exact Gv) (by simp at hl;omega)) cn
      ·simp at h
    ·simp at h
 ·
  rename_i e o s rows D;simp only[aJ]at hu;obtain⟨base,V,E,rfl,p,B,q,K⟩:=hu;split at h
  ·simp at h
  ·rename_i hs;have:=beq_true hs;subst this;obtain⟨j,N,M⟩:=J e D;split at h
   ·simp only[eV]at T;subst T;split at h
    ·rename_i l;split at h
     ·rename_i r hr;obtain⟨rfl,hl⟩:=kE hr;simp at h;subst h;refine⟨_,gw hX I D N (fun w=>jY true W Y bn),?_⟩;rw[M];simp only[aJ];refine⟨_,_,_,rfl,j0,bn,?_,K.drop bn⟩;have:=kD.cut p q l V E bn (aam _) B;rwa[List.take_of_length_le bn]at this
     ·simp at h
    ·simp at h;subst h;refine⟨_,gw hX I D N (fun w=>jZ true W Y),?_⟩;rw[M];simp only[aJ];refine⟨_,_,_,rfl,j0,bn,?_,K.drop bn⟩;have:=kD.cut p q 0 V E bn (aam _) B;rwa[List.take_of_length_le bn]at this
   ·simp_all
   ·split at h
    ·simp_all
    ·simp at h
   ·simp at h
 ·rename_i e s rows D;simp only[aJ,Rel]at hu;obtain⟨base,V,E,rfl,p,B,q⟩:=hu;split at h
  ·simp at h
  ·rename_i hs;have:=beq_true hs;subst this;obtain⟨j,N,M⟩:=J e D;split at h
   ·simp only[eV]at T;subst T;split at h
    ·rename_i l;split at h
     ·rename_i r hr;obtain⟨rfl,hl⟩:=kE hr;simp at h;subst h;refine⟨_,gw hX I D N (fun w=>jY true W Y bn),?_⟩;rw[M];simp only[aJ,Rel];refine⟨_,_,_,rfl,j0,bn,?_⟩;have:=kD.cut p q l V E bn (aam _) B;rwa[List.take_of_length_le bn]at this
     ·simp at h
    ·simp at h;subst h;refine⟨_,gw hX I D N (fun w=>jZ true W Y),?_⟩;rw[M];simp only[aJ,Rel];refine⟨_,_,_,rfl,j0,bn,?_⟩;have:=kD.cut p q 0 V E bn (aam _) B;rwa[List.take_of_length_le bn]at this
   ·exact cut D p B q rfl rfl h
   ·split at h
    ·rename_i A;have:=beq_true A;subst this;exact cut (ex:=true) D p B q rfl rfl h
    ·simp at h
   ·simp at h
 ·simp at h
end
end Go.cu
namespace Go.cu
theorem om:∀{off:Nat} {vs l r:List AV},dL off vs l=some r ->
  r.length=l.length/\off+vs.length<=l.length+(if vs=[]then off else 0)/\∀(j:Nat),r[j]?=if off<=j/\j<off+vs.length then vs[j-off]? else l[j]?
 | off,[],l,r,h=>by
  cases off<;>simp[dL]at h<;>subst h<;>simp<;>intros<;>omega
 | 0,v::vs,[],r,h=>by simp[dL]at h
 | 0,v::vs,x::l,r,h=>by
  simp only[dL]at h;split at h
  ·rename_i O Y;simp at h;subst h;obtain⟨h1,h2,V⟩:=om Y;refine⟨QZ,?_,?_⟩
   ·simp_all
   ·grind
  ·simp at h
 | n+1,v::vs,[],r,h=>by simp[dL]at h
 | n+1,v::vs,x::l,r,h=>by
  simp only[dL]at h;split at h
  ·rename_i O Y;simp at h;subst h;obtain⟨h1,h2,V⟩:=om Y;refine⟨QZ,?_,?_⟩
   ·simp at h2 ⊢;omega
   ·grind
  ·simp at h
theorem L3 {off:Nat} {v:AV} {vs l r:List AV} (h:dL off (v::vs) l=some r):off+(v::vs).length<=l.length:=by
 have:=(om h).2.1;simpa using this
section
variable {P : Program} {X : Ctx} {w : World} {g : Gh}
theorem vY {a:AV} {vs:List AV} (h:jT a=some vs) {u:Value} (I:aJ g a u) :
  bH g vs u.cells.toList/\vs.all AV.one=true:=by
 have W:∀(cs:List CV) (us:List Value),bO g.G cs us->cs.all CV.one=true->bH g (cs.map AV.c) us/\(cs.map AV.c).all AV.one=true:=by
  intro cs
  induction cs with
  | nil=>intro us h1 _;simp only[bO]at h1;subst h1;simp[bH]
  | cons c cs S =>
   intro us h1 h2;simp only[bO]at h1;obtain⟨u,us,rfl,E,I⟩:=h1;simp at h2;obtain⟨U,D⟩:=S us I (by simpa using h2.2);exact⟨by simp only[List.map_cons,bH];exact⟨u,us,rfl,by simpa only[aJ]using E,U⟩,by simp only[List.map_cons,List.all_cons,AV.one,h2.1,Bool.true_and];exact D⟩
 cases a with
 | c v =>
  have V:∀(v:CV) (u:Value),v.one=true->Rel g.G v u->bH g [.c v] u.cells.toList/\([AV.c v].all AV.one=true):=by
   intro v u q I;have E:u.cells.toList=[u]:=by
    cases v<;>simp only[Rel]at I<;>simp[CV.one]at q
    case int=>subst I;rfl
    case bool=>subst I;rfl
    case str=>subst I;rfl
    case lI=>subst I;rfl
    case sl=>obtain⟨_,_,_,rfl,_⟩:=I;rfl
    case ip=>obtain⟨_,_,rfl,_⟩:=I;rfl
    case rK=>obtain⟨_,rfl,_⟩:=I;rfl
    case any =>
     cases u<;>first|rfl|(exact absurd rfl (I.1 _))
    case qF=>obtain⟨_,rfl⟩:=I;rfl
   rw[E];exact⟨by simp only[bH,aJ];exact⟨u,[],rfl,I,rfl⟩,by simp[AV.one,q]⟩
  simp only[aJ]at I;cases v<;>simp only[jT,FH,Option.some.injEq,reduceCtorEq]at h
  case agg cs =>
   subst h;simp only[Rel]at I;obtain⟨us,rfl,h1,h2⟩:=I;have:=W cs us h1 h2;simpa[Value.cells]using this
  all_goals (subst h;exact V _ _ rfl I)
 | own k s rows =>
  simp[jT]at h;subst h;have Y:=I;simp only[aJ]at Y;obtain⟨base,Q,K,rfl,_⟩:=Y;refine⟨?_,rfl⟩;simp only[Value.cells,bH];exact⟨_,[],rfl,I,rfl⟩
 | ptr T off =>
  simp[jT]at h;subst h;have Y:=I;simp only[aJ]at Y;obtain⟨b,_,rfl⟩:=Y;refine⟨?_,rfl⟩;simp only[Value.cells,bH];exact⟨_,[],rfl,I,rfl⟩
 | gy T off s n =>
  simp[jT]at h;subst h;have Y:=I;simp only[aJ]at Y;obtain⟨b,K,o,_,rfl,_⟩:=Y;refine⟨?_,rfl⟩;simp only[Value.cells,bH];exact⟨_,[],rfl,I,rfl⟩
 | any =>
  simp[jT]at h;subst h;have Y:=I;simp only[aJ]at Y;have E:u.cells.toList=[u]:=by
   cases u<;>first|rfl|exact absurd rfl (Y.1 _)
  rw[E];refine⟨?_,rfl⟩;simp only[bH];exact⟨_,[],rfl,I,rfl⟩
 | agg cs =>
  simp[jT]at h;subst h;simp only[aJ]at I;obtain⟨us,rfl,h1,h2⟩:=I;exact⟨by simpa[Value.cells]using h1,h2⟩
 | gB cs=>simp[jT]at h
theorem De (off:Nat):∀(l:List Value) (k:Nat) (cells:Array Value),off+k+l.length<=cells.size ->
  ((l.zipIdx k).foldl (fun(cs:Array Value) (p:Value×Nat)=>cs.setIfInBounds (off+p.2) p.1) cells).size=cells.size /\
  ∀j,((l.zipIdx k).foldl (fun(cs:Array Value) (p:Value×Nat)=>cs.setIfInBounds (off+p.2) p.1) cells)[j]? =
   if off+k<=j/\j<off+k+l.length then l[j-(off+k)]? else cells[j]?
 | [],k,cells,_=>by simp;intros;omega
 | v::l,k,cells,h=>by
  simp only[List.zipIdx_cons,List.foldl_cons];obtain⟨h1,h2⟩:=De off l (k+1) (cells.setIfInBounds (off+k) v) (by simp at h ⊢;omega);refine⟨by rw[h1];simp,fun j=>?_⟩;rw[h2];by_cases E:off+(k+1)<=j/\j<off+(k+1)+l.length
  ·grind
  ·grind
theorem Df (hX:cC P X) {ρ:Operand->Option AV} {ev:Operand->Value} (W:∀x v,ρ x=some v->aJ g v (ev x)) {T:List (Nat×Nat)} (Y:Nat->Option (Nat×Nat))
  (V:∀i off S j,nth T i=some (off,S)->X.ti S=some j->Y i=some (off,j.size)) :
  ∀{C:List (Nat×Operand)} {cells r:List AV} {vs:Array Value},rX X ρ T C cells=some r->bH g cells vs.toList->cells.all AV.one=true ->
   ∃us,Instr.fill Y vs (C.map fun(i,x)=>(i,ev x))=some us/\bH g r us.toList/\r.all AV.one=true
 | [],cells,r,vs,h,I,q=>by simp[rX]at h;subst h;exact⟨vs,by simp[Instr.fill],I,q⟩
 | (i,x)::rest,cells,r,vs,h,I,q=>by
  simp only[rX]at h;split at h
  ·rename_i off S a h1 h2;split at h
   ·rename_i j us U N;split at h
    ·rename_i cells' J M;have E:=beq_true J;obtain⟨Q,K⟩:=vY N (W x a h2);have O:us.length=(ev x).cells.size:=by rw[(bH.get Q).1];simp
     have H:j.size≠0:=by obtain⟨_,_,_,_,_,_,G⟩:=hX.ti S j U;exact G
     obtain⟨B,c2⟩:=bH.get I;obtain⟨w1,w2,A⟩:=om M;have u:off+us.length<=cells.length:=by grind
     have hvs:cells.length=vs.size:=by rw[B];simp
     obtain⟨f1,f2⟩:=De off (ev x).cells.toList 0 vs j0;have hf:Instr.fill Y vs (((i,x)::rest).map fun(i,x)=>(i,ev x)) =
       Instr.fill Y ((ev x).cells.zipIdx.foldl (fun cs (c,j)=>cs.setIfInBounds (off+j) c) vs) (rest.map fun(i,x)=>(i,ev x)):=by
      simp only[List.map_cons,Instr.fill,V i off S j h1 U];rw[if_neg];simp;omega
     have So:(ev x).cells.zipIdx.foldl (fun cs (c,j)=>cs.setIfInBounds (off+j) c) vs =
       ((ev x).cells.toList.zipIdx 0).foldl (fun(cs:Array Value) (p:Value×Nat)=>cs.setIfInBounds (off+p.2) p.1) vs:=by
      rw[<- Array.foldl_toList];simp
     rw[hf,So];obtain⟨a1,a2⟩:=bH.get Q;apply Df hX W Y V h
     ·apply bH.jS
      ·simp_all
      ·grind
     ·rw[List.all_eq_true]at q K ⊢;intro y hy;obtain⟨k,D⟩:=List.getElem?_of_mem hy;rw[A]at D;split at D
      ·grind
      ·grind
    ·simp at h
   ·simp at h
  ·simp at h
end
end Go.cu
namespace Go.cu
section
variable {P : Program} {X : Ctx} {w : World} {g : Gh}
theorem rY:(∀(a:AV) (v:CV) (u:Value),close a=some v->aJ g a u->Rel g.G v u/\(a.one=true->v.one=true)):=by
 intro a;refine AV.rec (motive_1:=fun a=>∀(v:CV) (u:Value),close a=some v->aJ g a u->Rel g.G v u/\(a.one=true->v.one=true))
  (motive_2:=fun l=>∀(vs:List CV) (us:List Value),Af l=some vs->bH g l us->bO g.G vs us/\(l.all AV.one=true->vs.all CV.one=true)/\vs.length=l.length) ?_ ?_ ?_ ?_ ?_ ?_ ?_ ?_ ?_ a
 ·intro v w' u h I;simp[close]at h;subst h;exact⟨by simpa only[aJ]using I,id⟩
 ·intro k s rows v u h I;simp[close]at h;subst h;simp only[aJ]at I;obtain⟨base,V,E,rfl,h1,h2,P,_⟩:=I;exact⟨by simp only[Rel];exact⟨base,V,E,rfl,h1,h2,P⟩,fun _=>rfl⟩
 ·intro T off v u h;simp[close]at h
 ·intro T off s n v u h;simp[close]at h
 ·intro v u h;simp[close]at h
 ·intro cs S v u h I;simp only[close]at h;split at h
  ·rename_i l C;simp at h;subst h;simp only[aJ]at I;obtain⟨us,rfl,h1,h2⟩:=I;obtain⟨Y,D,_⟩:=S l us C h1;exact⟨by simp only[Rel];exact⟨us,rfl,Y,D h2⟩,fun h=>by simp[AV.one]at h⟩
  ·simp at h
 ·intro cs S v u h I;simp only[close]at h;split at h
  ·rename_i l C;simp at h;subst h;simp only[aJ]at I;obtain⟨us,rfl,h1,h2⟩:=I;obtain⟨Y,D,B⟩:=S l us C h1;exact⟨by simp only[Rel];exact⟨us,rfl,Y,bn⟩,fun h=>by simp[AV.one]at h⟩
  ·simp at h
 ·intro vs us h I;simp[Af]at h;subst h;simp only[bH]at I;subst I;simp[bO]
 ·intro a l W U vs us h I;simp only[Af]at h;split at h
  ·rename_i v O;split at h
   ·rename_i r Q;simp at h;subst h;simp only[bH]at I;obtain⟨u,us,rfl,h1,h2⟩:=I;obtain⟨N,M⟩:=W v u O h1;obtain⟨H,K,J⟩:=U r us Q h2;refine⟨by simp only[bO];exact⟨u,us,rfl,N,H⟩,fun h=>?_,by simp[J]⟩;simp only[List.all_cons,aaj]at h ⊢;exact⟨M h.1,K h.2⟩
   ·simp at h
  ·simp at h
theorem nC {ρ:Operand->Option AV} {ev:Operand->Value} (W:∀x v,ρ x=some v->aJ g v (ev x)) :
  ∀{l:List Operand} {r:List CV},hJ ρ l=some r->bO g.G r (l.map ev)
 | [],r,h=>by simp[hJ]at h;subst h;simp[bO]
 | x::l,r,h=>by
  simp only[hJ]at h;split at h
  ·rename_i a p;split at h
   ·rename_i v T;split at h
    ·rename_i O Y;simp at h;subst h;simp only[List.map_cons,bO];exact⟨_,_,rfl,(rY a v _ T (W x a p)).1,nC W Y⟩
    ·simp at h
   ·simp at h
  ·simp at h
theorem Ah {α:Type} {cs rest:List α} {off:Nat} {c:α} (h:cs.drop off=c::rest):cs[off]?=some c:=by
 have:=congrArg (fun l=>l[0]?) h;simpa using this
theorem Dg (hX:cC P X) {t:Nat} {i:TI} (W:X.ti t=some i) {vs:Array Value} {off:Nat} {r:AV}
  (h:(∃cs rest,bH g cs vs.toList/\cs.all AV.one=true/\gv off cs=some rest/\wV i rest=some r) \/
   (∃cs rest,bO g.G cs vs.toList/\cs.all CV.one=true/\gv off cs=some rest/\Ab i rest=some r)) :
  ∃u,(part t vs off).run P w = .ok u w/\aJ g r u:=by
 have T:i.size≠0:=by obtain⟨_,_,_,_,_,_,S⟩:=hX.ti t i W;exact S
 rcases h with ⟨cs,rest,h1,h2,V,D⟩|⟨cs,rest,h1,h2,V,D⟩
 ·obtain⟨rfl,C⟩:=kE V;obtain⟨O,J⟩:=bH.get h1;unfold wV at D;cases p:i.isAgg<;>rw[p]at D<;>simp only at D
  ·split at D
   ·rename_i c H U;simp at D;subst D;have Q:cs[off]?=some c:=Ah U;obtain⟨u,A,E⟩:=J off c Q;refine⟨u,?_,E⟩;have:vs[off]?=some u:=by simpa using A
    simp[part,hX.o8 W,p,this]
   ·simp at D
  ·split at D
   ·rename_i l Y;simp at D;subst D;obtain⟨rfl,N⟩:=pS Y;refine⟨.agg (vs.extract off (off+i.size)),by simp[part,hX.o8 W,p,hX.run_sizeOf W],?_⟩;simp only[aJ];refine⟨(vs.extract off (off+i.size)).toList,rfl,?_,?_⟩
    ·apply bH.jS
     ·simp_all
     ·grind
    ·grind
   ·simp at D
 ·obtain⟨rfl,C⟩:=kE V;obtain⟨O,J⟩:=bO.get h1;unfold Ab at D;cases p:i.isAgg<;>rw[p]at D<;>simp only at D
  ·split at D
   ·rename_i c H U;simp at D;subst D;have Q:cs[off]?=some c:=Ah U;obtain⟨u,A,E⟩:=J off c Q;refine⟨u,?_,by simpa only[aJ]using E⟩;have:vs[off]?=some u:=by simpa using A
    simp[part,hX.o8 W,p,this]
   ·simp at D
  ·split at D
   ·rename_i l Y;simp at D;subst D;obtain⟨rfl,N⟩:=pS Y;refine⟨.agg (vs.extract off (off+i.size)),by simp[part,hX.o8 W,p,hX.run_sizeOf W],?_⟩;simp only[aJ,Rel];refine⟨(vs.extract off (off+i.size)).toList,rfl,?_,?_⟩
    ·apply bO.jS
     ·simp_all
     ·grind
    ·grind
   ·simp at D
end
end Go.cu
namespace Go.cu
section
variable {P : Program} {X : Ctx} {w : World} {g : Gh}
theorem Ba (hX:cC P X) {t:Nat} {i:TI} (I:X.ti t=some i) {T:List (Nat×Nat)} (D:i.kind = .struct T) {f off S:Nat} (hf:nth T f=some (off,S)) (b o:Nat) :
  (Instr.fieldAt t (.pointer (some ⟨b,o,none⟩)) f).run P w = .ok (.pointer (some ⟨b,o+off,none⟩)) w:=by
 obtain⟨d,Q,V,_⟩:=hX.run_underlying (w:=w) I;rw[D]at V;simp only[eG]at V;obtain⟨Y,rfl,h1,h2⟩:=V;rw[rq,<- h1]at hf;simp at hf;obtain⟨U,A,E,B⟩:=hf;have W:U∈Y.toList:=by rw[Array.mem_toList_iff];exact Array.mem_of_getElem? A
 obtain⟨O,N,M⟩:=h2 U W;simp[Instr.fieldAt,Q,A,Instr.sureAddr,fieldPlace,sizeOf,typeInfo,N,M,E,Addr.add_lit]
theorem FJ (hX:cC P X) {t:Nat} {i:TI} (I:X.ti t=some i) {T:List (Nat×Nat)} (D:i.kind = .struct T) {f off S:Nat} (hf:nth T f=some (off,S)) (vs:Array Value) :
  (Instr.field t (.agg vs) f).run P w=(part S vs off).run P w:=by
 obtain⟨d,V,W,_⟩:=hX.run_underlying (w:=w) I;rw[D]at W;simp only[eG]at W;obtain⟨Y,rfl,h1,h2⟩:=W;rw[rq,<- h1]at hf;simp at hf;obtain⟨U,A,E,B⟩:=hf;simp[Instr.field,V,A,asAgg,E,B]
theorem tO (hX:cC P X):∀(Y:List Field),(∀f∈Y,∃Q,P.info? f.type=some Q/\Q.size≠0) ->
  ∃p:List (Nat×Nat),(Y.mapM (m:=Sem) fun f=>do pure (f.offset,<- sizeOf f.type)).run P w = .ok p w/\p.length=Y.length /\
   ∀(k:Nat) (f:Field),Y[k]?=some f->∃Q,P.info? f.type=some Q/\p[k]?=some (f.offset,Q.size)
 | [],_=>⟨[],cn,rfl,cn⟩
 | f::Y,h=>by
  obtain⟨Q,A,E⟩:=h f cn;obtain⟨p,h1,h2,V⟩:=tO hX Y (fun f hf=>h f (by simp[hf]));refine⟨(f.offset,Q.size)::p,?_,by simp[h2],?_⟩
  ·simp only[List.mapM_cons,Sem.run_bind,sizeOf,typeInfo,run_program,Result.andThen_ok,A,Sem.run_pure];simp only[sizeOf,typeInfo]at h1;rw[h1];rfl
  ·grind
theorem run_build (hX:cC P X) {t:Nat} {i:TI} (I:X.ti t=some i) {T:List (Nat×Nat)} (D:i.kind = .struct T) {z r:List AV} (O:i.zero=some (.agg z))
  {ρ:Operand->Option AV} {ev:Operand->Value} (W:∀x v,ρ x=some v->aJ g v (ev x)) {C:Array (Nat×Operand)}
  (h:rX X ρ T C.toList z=some r) :
  ∃u,(Instr.build t (C.map fun(i,x)=>(i,ev x))).run P w = .ok u w/\aJ g (.agg r) u:=by
 obtain⟨d,N,V,_⟩:=hX.run_underlying (w:=w) I;rw[D]at V;simp only[eG]at V;obtain⟨Y,rfl,h1,h2⟩:=V;obtain⟨zv,M,K,z3⟩:=hX.lK (w:=w) I O;have S:=K g;simp only[aJ]at S;obtain⟨H,rfl,J,G⟩:=S;obtain⟨p,E,p2,B⟩:=tO (P:=P) (w:=w) hX Y.toList h2
 obtain⟨us,q,f2,f3⟩:=Df hX W (fun(i:Nat)=>p[i]?) (by
  intro i off ft j A e2;rw[rq,<- h1]at A;simp at A;obtain⟨fl,e3,e4,e5⟩:=A;obtain⟨inf,Q,e7⟩:=B i fl (by simpa using e3);obtain⟨aeH,U,e9,_⟩:=hX.ti ft j e2;rw[e5]at Q;rw[Q]at U;simp at U;subst U
  simp[e7,e4,e9]) (vs:=H.toArray) h (by simpa using J) G
 refine⟨.agg us,?_,Q0⟩;simp only[Instr.build,Sem.run_bind,M,Result.andThen_ok,N,Value.cells]
 rw[show(Y.mapM (m:=Sem) fun f=>do pure (f.offset,<- sizeOf f.type))=(Y.toList.mapM fun f=>do pure (f.offset,<- sizeOf f.type)) >>= fun l=>pure l.toArray from by
  rw[Array.mapM_eq_mapM_toList];rfl]
 simp only[Sem.run_bind,E,Result.andThen_ok,Sem.run_pure];have:(fun(i:Nat)=>(p.toArray[i]?:Option (Nat×Nat)))=fun(i:Nat)=>p[i]?:=by funext i;simp
 rw[this];simp only[Array.toList_map];rw[q];rfl
theorem Bb {g:Gh} {k:IntKind} {n:Int} {u:Value} (h:aJ g (.c (.int k n)) u):u = .int k n:=by simpa only[aJ,Rel]using h
theorem UX (hX:cC P X) {t:Nat} {i:TI} (I:X.ti t=some i) {a v:AV} (h:Xh i.kind a=some v) {u:Value} (A:aJ g a u) (ty:TypeId) :
  ∃r,(Builtin.len_ #[t] ty #[u]).run P w = .ok r w/\aJ g v r:=by
 obtain⟨d,W,Y,_⟩:=hX.run_underlying (w:=w) I;unfold Xh at h;split at h
 ·rename_i e o s rows D;rw[D]at Y;simp only[eG]at Y;subst Y;simp at h;subst h;simp only[aJ]at A;obtain⟨base,V,E,rfl,C,_⟩:=A;exact⟨.int .i64 V,T1,by simp[aJ,Rel,C]⟩
 ·rename_i e T off s n D;rw[D]at Y;simp only[eG]at Y;subst Y;simp at h;subst h;simp only[aJ]at A;obtain⟨b,E,o,_,rfl,_⟩:=A;exact⟨.int .i64 n,T1,nu⟩
 ·rename_i e s rows D;rw[D]at Y;simp only[eG]at Y;subst Y;simp at h;subst h;simp only[aJ,Rel]at A;obtain⟨base,V,E,rfl,C,_⟩:=A;exact⟨.int .i64 V,T1,by simp[aJ,Rel,C]⟩
 ·rename_i s D;rw[D]at Y;simp only[eG]at Y;subst Y;simp at h;subst h;simp only[aJ,Rel]at A;subst A;exact⟨.int .i64 s.length,by simp[Builtin.len_,W,goInt,uU],nu⟩
 ·rename_i n e D;rw[D]at Y;simp only[eG]at Y;subst Y;simp at h;subst h;exact⟨.int .i64 n,by cases u<;>simp[Builtin.len_,W,goInt],nu⟩
 ·simp at h
end
end Go.cu
namespace Go.cu
section
variable {P : Program} {X : Ctx} {w : World} {g : Gh}
theorem Jy (hX:cC P X) {I:List (Nat×List AV)}
  (ir:∀b o v,g.G b o=some v->w.cell? ⟨b,o,none⟩=some v)
  (Zi:∀k cs,ak k I=some cs->∃b,g.box k=some b/\cy w g b 0 cs)
  {ρ:Operand->Option AV} {ev:Operand->Value} (W:∀x v,ρ x=some v->aJ g v (ev x)) {o:Oper} {v:AV} (h:gM X I ρ o.op=some v) :
  ∃u,(execOp ev o).run P w = .ok (.value u) w/\aJ g v u:=by
 have fin:∀{s:Sem Value},(∃u,s.run P w = .ok u w/\aJ g v u)->∃u,(do pure (Next.value (<- s)):Sem Next).run P w = .ok (.value u) w/\aJ g v u:=by simp_all
 have Zj:∀{b n:Nat} {cs r:List AV},cy w g b 0 cs->gv n cs=some r->cy w g b n r:=by
  intro b n cs r h1 h2;obtain⟨rfl,_⟩:=kE h2;apply cy.jS;intro j c Y;rw[List.getElem?_drop]at Y;simpa using h1.get (n+j) c Y
 obtain⟨dst,op,type,pos,after,guard⟩:=o;simp only at h;unfold gM at h;split at h
 ·rename_i x;exact⟨ev x,by simp[execOp],W x v h⟩
 ·rename_i x;exact⟨ev x,by simp[execOp],W x v h⟩
 ·rename_i c a b;split at h
  ·rename_i t av bv h1 h2 V;have E:=W c _ h1;simp only[aJ,Rel]at E;have ha:=W a _ h2;have p:=W b _ V;refine⟨if t then ev a else ev b,by simp[execOp,E,asBool],?_⟩;unfold Wb at h;split at h
   ·grind
   ·grind
  ·simp at h
 ·rename_i t x;split at h
  ·rename_i i key off h1 h2;have O:=W x _ h2;simp only[aJ]at O;obtain⟨b,p,O⟩:=O;split at h
   ·rename_i cells iP;split at h
    ·rename_i l C;obtain⟨b',K,Zk⟩:=Zi key cells iP;rw[p]at K;simp at K;subst K;simp only[execOp];rw[O];exact fin (Si hX h1 (Zj Zk C) h)
    ·simp at h
   ·simp at h
  ·rename_i i cs h1 h2;have O:=W x _ h2;simp only[aJ,Rel]at O;obtain⟨b,o,O,E⟩:=O;simp only[execOp];rw[O];exact fin (PF hX ir h1 E h)
  ·simp at h
 ·rename_i x;split at h
  ·rename_i k o h1;have O:=W x _ h1;simp at h;subst h;have U:=O;simp only[aJ]at U;obtain⟨b,p,e⟩:=U;exact⟨ev x,by simp[execOp,e],O⟩
  ·rename_i cs h1;have O:=W x _ h1;simp at h;subst h;have U:=O;simp only[aJ,Rel]at U;obtain⟨b,o,e,_⟩:=U;exact⟨ev x,by simp[execOp,e],O⟩
  ·rename_i f cs h1;have O:=W x _ h1;simp at h;subst h;have U:=O;simp only[aJ,Rel]at U;obtain⟨vs,e,_⟩:=U;exact⟨ev x,by simp[execOp,e],O⟩
  ·simp at h
 ·rename_i op t x y _;split at h
  ·rename_i i a b h1 h2 V;exact fin (UW hX h1 h (W x _ h2) (W y _ V) x y)
  ·simp at h
 ·rename_i op _ x;split at h
  ·rename_i b h1;have O:=W x _ h1;simp only[aJ,Rel]at O;simp at h;subst h;exact⟨.bool !b,by simp[execOp,O,Op.unary],nu⟩
  ·rename_i k n h1;have O:=W x _ h1;simp only[aJ,Rel]at O;simp at h;subst h;exact⟨.int k (k.wrap (0-n)),by simp[execOp,O,Op.unary,Op.intArith],nu⟩
  ·simp at h
 ·rename_i s d x;split at h
  ·rename_i i j k n h1 h2 V;have O:=W x _ V;simp only[aJ,Rel]at O;split at h
   ·rename_i k' D;simp at h;subst h;obtain⟨d1,A,_,Q⟩:=hX.run_underlying (w:=w) h1;obtain⟨d2,e3,e4,e5⟩:=hX.run_underlying (w:=w) h2;rw[D]at e4;simp only[eG]at e4;subst e4;exact⟨.int k' (k'.wrap n),by simp[execOp,O,convert,A,e3,Conv.intToInt],nu⟩
   ·simp at h
  ·simp at h
 ·rename_i t x f;split at h
  ·rename_i i a h1 h2;have O:=W x _ h2;split at h
   ·rename_i fs D;split at h
    ·rename_i off ft hf;split at h
     ·rename_i k o;simp at h;subst h;simp only[aJ]at O;obtain⟨b,p,e⟩:=O;exact⟨_,by simp[execOp,e,Ba hX h1 D hf];rfl,by simp only[aJ];exact⟨b,p,rfl⟩⟩
     ·rename_i cs;split at h
      ·rename_i r J;simp at h;subst h;simp only[aJ,Rel]at O;obtain⟨b,o,e,E⟩:=O;obtain⟨rfl,_⟩:=kE J;exact⟨_,by simp[execOp,e,Ba hX h1 D hf];rfl,by simp only[aJ,Rel];exact⟨b,o+off,rfl,E.drop⟩⟩
      ·simp at h
     ·simp at h
    ·simp at h
   ·simp at h
  ·simp at h
 ·rename_i t x f;split at h
  ·rename_i i a h1 h2;have O:=W x _ h2;split at h
   ·rename_i fs D;split at h
    ·rename_i off ft hf;split at h
     ·rename_i j Y;split at h
      ·rename_i cs;split at h
       ·rename_i r J;simp only[aJ]at O;obtain⟨vs,e,q,c2⟩:=O;have:=Dg (P:=P) (w:=w) hX Y (vs:=vs.toArray) (off:=off) (.inl ⟨cs,r,by simpa using q,c2,J,h⟩);simp only[execOp,e];refine fin ?_;rw[FJ hX h1 D hf];exact this
       ·simp at h
      ·rename_i cs;split at h
       ·rename_i r J;simp only[aJ,Rel]at O;obtain⟨vs,e,q,c2⟩:=O;have:=Dg (P:=P) (w:=w) hX Y (vs:=vs.toArray) (off:=off) (.inr ⟨cs,r,by simpa using q,c2,J,h⟩);simp only[execOp,e];refine fin ?_;rw[FJ hX h1 D hf];exact this
       ·simp at h
      ·simp at h
     ·simp at h
    ·simp at h
   ·simp at h
  ·simp at h
 ·rename_i t x ix;split at h
  ·rename_i i a na h1 h2 V;have O:=W x _ h2;have N:=W ix _ V;split at h
   ·rename_i n hn';obtain⟨k,N⟩:=vX hn' N;obtain⟨d,jo,S,_⟩:=hX.run_underlying (w:=w) h1;split at h
    ·rename_i e D;rw[D]at S;simp only[eG]at S;subst S;split at h
     ·rename_i j s rows Y J;split at h
      ·rename_i r p Xk;have:=beq_true p;subst this;simp at h;subst h;obtain⟨base,len,cap,A,Q,_,e3⟩:=Dd J O;rw[rq]at Xk;have B:n<rows.length:=(List.getElem?_eq_some_iff.1 Xk).1;rcases e3 with rfl|⟨b,o,rfl,fP⟩
       ·simp at B
       ·have hg:=(fP.get n r Xk).1;refine⟨.pointer (some ⟨b,o+n*j.size,none⟩),?_,by simp only[aJ,Rel];exact⟨b,_,rfl,hg⟩⟩;simp[execOp,A,N,Instr.indexAt,asIntOf,jo,Q,B,hX.run_sizeOf Y,Addr.add_lit]
      ·simp at h
     ·simp at h
    ·rename_i m e D;rw[D]at S;simp only[eG]at S;subst S;split at h
     ·rename_i j k' o Y hlt';simp at h;subst h;have B:n<m:=by simpa[Nat.blt_eq]using hlt'
      simp only[aJ]at O;obtain⟨b,p,A⟩:=O;refine⟨.pointer (some ⟨b,o+n*j.size,none⟩),?_,by simp only[aJ];exact⟨b,p,rfl⟩⟩;simp[execOp,A,N,Instr.indexAt,asIntOf,jo,Instr.sureAddr,B,hX.run_sizeOf Y,Addr.add_lit]
     ·simp at h
    ·simp at h
   ·simp at h
  ·simp at h
 ·rename_i t x ix;split at h
  ·rename_i i a na h1 h2 V;have O:=W x _ h2;have N:=W ix _ V;split at h
   ·rename_i n hn';obtain⟨k,N⟩:=vX hn' N;obtain⟨d,jo,S,_⟩:=hX.run_underlying (w:=w) h1;split at h
    ·rename_i s D;rw[D]at S;simp only[eG]at S;subst S;simp only[aJ,Rel]at O;split at h
     ·rename_i b p;simp at h;subst h;rw[rq]at p;have B:n<s.length:=(List.getElem?_eq_some_iff.1 p).1;have ke:(ByteArray.mk s.toArray)[n]?=some b:=by
       rw[getElem?_pos _ _ (by rw[uU];exact B)];congr 1;have:=(List.getElem?_eq_some_iff.1 p).2;rw[<- this];rfl
      refine⟨.int .u8 b.toNat,?_,nu⟩;simp[execOp,O,N,Instr.index,asIntOf,jo,ke]
     ·simp at h
    ·simp at h
   ·simp at h
  ·simp at h
 ·rename_i x n;split at h
  ·rename_i cs h1;have O:=W x _ h1;simp only[aJ]at O;obtain⟨vs,e,q,_⟩:=O;rw[rq]at h;obtain⟨u,A,Q⟩:=(bH.get q).2 n v h;exact⟨u,by simp[execOp,e,Instr.extract,A],Q⟩
  ·rename_i cs h1;have O:=W x _ h1;simp only[aJ,Rel]at O;obtain⟨vs,e,q,_⟩:=O;split at h
   ·rename_i cv qy;simp at h;subst h;rw[rq]at qy;obtain⟨u,A,Q⟩:=(bO.get q).2 n cv qy;exact⟨u,by simp[execOp,e,Instr.extract,A],by simpa only[aJ]using Q⟩
   ·simp at h
  ·simp at h
 ·rename_i t parts;split at h
  ·rename_i i h1;split at h
   ·rename_i fs z D hz;split at h
    ·rename_i cells E;simp at h;subst h;exact fin (run_build hX h1 D hz W E)
    ·simp at h
   ·simp at h
  ·simp at h
 ·rename_i t x lo hi mx;split at h
  ·rename_i i a lo' hi' mx' h1 h2 V h4 h5;have O:=W x _ h2;have b1:=oh W V;have b2:=oh W h4;have b3:=oh W h5;split at h
   ·rename_i e D;split at h
    ·rename_i j Y;exact fin (FI hX h1 (fun e' T=>by rw[D]at T;simp at T;subst T;exact⟨j,Y,rfl⟩) h O b1 b2 b3)
    ·simp at h
   ·rename_i D;exact fin (FI hX h1 (fun e' T=>absurd T (D e')) h O b1 b2 b3)
  ·simp at h
 ·rename_i f first M
  split at h
  ·rename_i l h1 h2;simp at h;subst h;have:=nC W h2;refine⟨.func (.func f) #[] (M.map ev),?_,by simp only[aJ,Rel];exact⟨M.toList.map ev,by rw[<- Array.toList_map],this⟩⟩;have hf:first = #[]:=by simpa using h1
   simp[execOp,hf,Instr.makeFunc]
  ·simp at h
 ·rename_i args argTypes;split at h
  ·rename_i x t O ht;split at h
   ·rename_i i a h1 h2;have A:args = #[x]:=by simpa using congrArg List.toArray O
    have Q:argTypes = #[t]:=by simpa using congrArg List.toArray ht
    obtain⟨r,r1,r2⟩:=UX (P:=P) (w:=w) hX h1 h (W x a h2) type;refine⟨r,?_,r2⟩;simp[execOp,resolve,invoke,builtin,A,Q,r1]
   ·simp at h
  ·simp at h
 ·rename_i args _;unfold Zf at h;split at h
  ·rename_i k a k' b H;simp at h;subst h;cases C:args.toList with
   | nil=>rw[C]at H;simp at H
   | cons x l =>
    cases l with
    | nil=>rw[C]at H;simp at H
    | cons y l =>
     cases l with
     | cons z l=>rw[C]at H;simp at H
     | nil =>
      rw[C]at H;simp at H;have O:=W x _ H.1;have hy:=W y _ H.2;simp only[aJ,Rel]at O hy;refine⟨.int k (if b<a then b else a),?_,nu⟩;have A:args = #[x,y]:=by simpa using congrArg List.toArray C
      simp[execOp,resolve,invoke,builtin,A,Builtin.min_,Builtin.min2,O,hy]
  ·simp at h
 ·rename_i args _;unfold Zg at h;split at h
  ·rename_i k a k' b H;simp at h;subst h;cases C:args.toList with
   | nil=>rw[C]at H;simp at H
   | cons x l =>
    cases l with
    | nil=>rw[C]at H;simp at H
    | cons y l =>
     cases l with
     | cons z l=>rw[C]at H;simp at H
     | nil =>
      rw[C]at H;simp at H;have O:=W x _ H.1;have hy:=W y _ H.2;simp only[aJ,Rel]at O hy;refine⟨.int k (if b>a then b else a),?_,nu⟩;have A:args = #[x,y]:=by simpa using congrArg List.toArray C
      simp[execOp,resolve,invoke,builtin,A,Builtin.max_,Builtin.max2,O,hy]
  ·simp at h
 ·simp at h
end
end Go.cu
namespace Go.cu
structure Fp where
 R:List Nat
 W:List Nat
 deriving Inhabited
abbrev Env:=List (Nat×AV)
def iz (k:Nat) (σ G:St):Prop:=ak k G.boxes=ak k σ.boxes/\ak k G.toks=ak k σ.toks/\(k∈G.used↔k∈σ.used)
def Agree (T:Fp) (σ G:St):Prop:=∀k,k∈T.R\/k∈T.W->iz k σ G
structure gX (yd:St->St) (fp:Fp):Prop where
 out:∀σ k,k ∉ fp.W->iz k σ (yd σ)
 same:∀σ σ1,Agree fp σ σ1->∀k,k∈fp.W->iz k (yd σ) (yd σ1)
theorem gX.id (R:List Nat):gX (fun σ=>σ) ⟨R,[]⟩:=⟨fun _ _ _=>⟨rfl,rfl,Iff.rfl⟩,fun _ _ _ k h=>by simp at h⟩
def bW (P:Program) (X:Ctx) (o:Oper) (env:Env) (σ:St) (v:AV) (Y:St->St) (T:Fp):Prop :=
 ∀(W:Env) (V:St) (w:World) (g:Gh) (a:Act) (next:Act->World->Prop) (Q:Exit->Act->World->Prop),
  (∀x∈o.op.operands.toList,aK X W x=aK X env x)->Agree T σ V->Inv w g V->nw X g.G->tN g W a.tmps ->
  (∀u w' g',aJ g' v u->Inv w' g' (Y V)->gW w g V w' g' (Y V)->g.le g'->next (a.put o.dst u) w')->o.wp P a w next Q
structure It where
 run:Bool
 v:AV
 yd:St->St
 fp:Fp
def It.skip:It:=⟨false,.c .undef,fun σ=>σ,⟨[],[]⟩⟩
def yQ (d:Option Nat) (v:AV) (env:Env):Env:=match d with
 | some d=>(d,v)::env
 | none=>env
def pU (ops:Array Oper) (j:Nat):Option Nat:=(ops[j]?).bind (·.dst)
def qG (ops:Array Oper) (o:Oper) (env:Env):Prop:=match o.guard with
 | none=>True
 | some (j,Y)=>∃d,pU ops j=some d/\ak d env=some (.c (.bool Y))
def pV (ops:Array Oper) (o:Oper) (env:Env):Prop:=match o.guard with
 | none=>False
 | some (j,Y)=>∃d,pU ops j=some d/\(ak d env=some (.c (.bool (!Y)))\/ak d env=some (.c .undef))
def mh (P:Program) (X:Ctx) (ops:Array Oper) (i:Nat) (T:It) (env:Env) (σ:St) (env':Env) (D:St):Prop :=
 ∃o,ops[i]?=some o/\env'=yQ o.dst T.v env/\D=T.yd σ/\gX T.yd T.fp /\
  ((T=It.skip/\pV ops o env)\/(T.run=true/\qG ops o env/\bW P X o env σ T.v T.yd T.fp))
def ua (P:Program) (X:Ctx) (ops:Array Oper):List (Nat×It)->Env->St->Env->St->Prop
 | [],env,σ,env',σ'=>env'=env/\σ'=σ
 | (i,T)::l,env,σ,env',σ'=>∃Y G,mh P X ops i T env σ Y G/\ua P X ops l Y G env' σ'
def Ext (env:Env) (σ:St) (P:Env) (G:St):Prop:=(∀t,ak t P=ak t env)/\∀k,iz k σ G
theorem iz.refl (k:Nat) (σ:St):iz k σ σ:=⟨rfl,rfl,Iff.rfl⟩
theorem iz.symm {k:Nat} {σ G:St} (h:iz k σ G):iz k G σ:=⟨h.1.symm,h.2.1.symm,h.2.2.symm⟩
theorem iz.trans {k:Nat} {σ G Y:St} (h:iz k σ G) (W:iz k G Y):iz k σ Y :=
 ⟨W.1.trans h.1,W.2.1.trans h.2.1,W.2.2.trans h.2.2⟩
theorem Ext.refl (env:Env) (σ:St):Ext env σ env σ:=⟨fun _=>rfl,fun k=>iz.refl k σ⟩
theorem Ext.trans {e A E:Env} {s q U:St} (h:Ext e s A q) (Y:Ext A q E U):Ext e s E U :=
 ⟨fun t=>(Y.1 t).trans (h.1 t),fun k=>(h.2 k).trans (Y.2 k)⟩
theorem aq {α:Type} (t d:Nat) (v:α) (l:List (Nat×α)):ak t ((d,v)::l)=if t=d then some v else ak t l:=by
 simp only[ak];split
 ·simp_all
 ·rename_i h;rw[if_neg (fun e=>beq_false h e.symm)]
theorem rZ (t:Nat) (d:Option Nat) (v:AV) (env:Env):ak t (yQ d v env)=if d=some t then some v else ak t env:=by
 cases d with
 | none=>simp[yQ]
 | some d =>
  simp only[yQ,aq,Option.some.injEq];by_cases h:t=d
  ·subst h;simp
  ·grind
theorem Bc {X:Ctx} {env P:Env} {x:Operand} (h:∀t,x = .tmp t->ak t P=ak t env):aK X P x=aK X env x:=by
 cases x<;>simp[aK];exact h _ rfl
theorem bW.congr {P:Program} {X:Ctx} {o:Oper} {env W:Env} {σ G:St} {v:AV} {V:St->St} {T:Fp} (h:bW P X o env σ v V T)
  (U:∀x∈o.op.operands.toList,aK X W x=aK X env x) (S:Agree T σ G):bW P X o W G v V T :=
 fun N Y w g a next Q h1 h2=>h N Y w g a next Q (fun x O=>(h1 x O).trans (U x O)) (fun k D=>(S k D).trans (h2 k D))
theorem mh.vZ {P:Program} {X:Ctx} {ops:Array Oper} {i:Nat} {A:It} {env U env':Env} {σ G D:St} (h:mh P X ops i A env σ env' D)
  (O:Ext env σ U G):∃S Q,mh P X ops i A U G S Q/\Ext env' D S Q:=by
 obtain⟨o,q,rfl,rfl,T,h⟩:=h;refine⟨_,_,⟨o,q,rfl,rfl,T,?_⟩,fun t=>?_,fun k=>?_⟩
 ·rcases h with ⟨h1,h2⟩|⟨h1,h2,N⟩
  ·refine .inl ⟨h1,?_⟩;unfold pV at *;split at h2
   ·exact h2
   ·obtain⟨d,Y,E⟩:=h2;exact⟨d,Y,by rw[O.1];exact E⟩
  ·refine .inr ⟨h1,?_,N.congr (fun x _=>Bc fun t _=>O.1 t) (fun k _=>O.2 k)⟩;unfold qG at *;split at h2
   ·trivial
   ·obtain⟨d,Y,E⟩:=h2;exact⟨d,Y,by rw[O.1];exact E⟩
 ·simp only[rZ,O.1]
 ·by_cases V:k∈A.fp.W
  ·exact T.same _ _ (fun k _=>O.2 k) k V
  ·exact((T.out σ k V).symm.trans (O.2 k)).trans (T.out G k V)
theorem ua.vZ {P:Program} {X:Ctx} {ops:Array Oper}:∀{l:List (Nat×It)} {env Y env':Env} {σ G D:St},ua P X ops l env σ env' D ->
  Ext env σ Y G->∃U T,ua P X ops l Y G U T/\Ext env' D U T
 | [],_,_,_,_,_,_,⟨h1,h2⟩,hx=>⟨_,_,⟨rfl,rfl⟩,by subst h1 h2;exact hx⟩
 | (i,A)::l,env,Y,env',σ,G,D,⟨M,K,h1,h2⟩,hx=>by
  obtain⟨B,E,S,W⟩:=h1.vZ hx;obtain⟨Q,O,N,V⟩:=ua.vZ h2 W;exact⟨Q,O,⟨B,E,S,N⟩,V⟩
def Sq (l r:List Nat):Bool:=l.all fun x => !r.contains x
theorem pW {l r:List Nat} (h:Sq l r=true) {k:Nat} (h1:k∈l):k ∉ r:=by
 simp only[Sq,List.all_eq_true]at h;have:=h k h1;simpa using this
def indep (ops:Array Oper) (i j:Nat) (f g:Fp):Bool:=match ops[i]?,ops[j]? with
 | some x,some y=>Oper.apart ops x y&&Sq f.W g.R&&Sq f.W g.W&&Sq g.W f.R
 | _,_=>false
theorem BO {ops:Array Oper} {o:Oper} {t:Nat} (h:Operand.tmp t∈o.op.operands.toList):t∈o.looksAt ops:=by
 unfold Oper.looksAt;exact List.mem_append_left _ (List.mem_filterMap.2 ⟨_,h,rfl⟩)
theorem wW {ops:Array Oper} {o:Oper} {j:Nat} {b:Bool} {d:Nat} (h:o.guard=some (j,b)) (H:pU ops j=some d):d∈o.looksAt ops:=by
 unfold Oper.looksAt;refine List.mem_append_right _ ?_;rw[h];simp only;unfold pU at H;rw[H];simp
theorem mh.before {P:Program} {X:Ctx} {ops:Array Oper} {i:Nat} {o:Oper} (q:ops[i]?=some o) {T:It} {env V:Env} {σ G:St}
  (C:∀t∈o.looksAt ops,ak t V=ak t env) (U:Agree T.fp σ G) {env':Env} {D:St} (h:mh P X ops i T env σ env' D) :
  mh P X ops i T V G (yQ o.dst T.v V) (T.yd G):=by
 obtain⟨J,Y,rfl,rfl,S,h⟩:=h;rw[q]at Y;simp at Y;subst Y;refine⟨o,q,rfl,rfl,S,?_⟩;rcases h with ⟨h1,h2⟩|⟨h1,h2,O⟩
 ·refine .inl ⟨h1,?_⟩;unfold pV at *;split at h2
  ·exact h2
  ·rename_i j W Q;obtain⟨d,A,E⟩:=h2;exact⟨d,A,by rw[C d (wW Q A)];exact E⟩
 ·refine .inr ⟨h1,?_,O.congr (fun x N=>Bc fun t M=>?_) U⟩
  ·unfold qG at *;split at h2
   ·trivial
   ·rename_i j W Q;obtain⟨d,A,E⟩:=h2;exact⟨d,A,by rw[C d (wW Q A)];exact E⟩
  ·subst M;exact C t (BO N)
theorem mh.swap {P:Program} {X:Ctx} {ops:Array Oper} {i j:Nat} {x y:It} {env p UY:Env} {σ G U:St} (I:indep ops i j x.fp y.fp=true)
  (h1:mh P X ops i x env σ p G) (h2:mh P X ops j y p G UY U) :
  ∃A q E K,mh P X ops j y env σ A q/\mh P X ops i x A q E K/\Ext UY U E K:=by
 obtain⟨ox,T,A,q,S,hx⟩:=id h1;obtain⟨J,O,E,K,N,hy⟩:=id h2;unfold indep at I;simp only[T,O,aaj]at I;obtain⟨⟨⟨H,jo⟩,ie⟩,Xg⟩:=I;obtain⟨a1,a2,a3⟩:=Oper.apart_spec H;subst A q;have C:mh P X ops j y env σ (yQ J.dst y.v env) (y.yd σ):=by
  refine mh.before O ?_ ?_ h2
  ·intro t B;rw[rZ,if_neg (fun e=>a1 t e B)]
  ·intro k D;refine(S.out σ k fun Q=>?_).symm;rcases D with D|D
   ·exact pW jo Q D
   ·exact pW ie Q D
 have M:Agree x.fp σ (y.yd σ):=by
  intro k D;refine N.out σ k fun Q=>?_;rcases D with D|D
  ·exact pW Xg Q D
  ·exact pW ie D Q
 have u:mh P X ops i x (yQ J.dst y.v env) (y.yd σ) (yQ ox.dst x.v (yQ J.dst y.v env)) (x.yd (y.yd σ)):=by
  refine mh.before T ?_ M h1;intro t B;rw[rZ,if_neg (fun e=>a3 t e B)]
 refine⟨_,_,_,_,C,u,?_,?_⟩
 ·intro t;subst E;simp only[rZ];by_cases hxd:ox.dst=some t
  ·simp_all
  ·simp_all
 ·intro k;subst K;by_cases D:k∈x.fp.W
  ·
   have Y:k ∉ y.fp.W:=fun h=>pW ie D h;exact(N.out (x.yd σ) k Y).symm.trans (S.same _ _ M k D)
  ·have e:=S.out (y.yd σ) k D;refine iz.trans ?_ e;by_cases Y:k∈y.fp.W
   ·refine N.same _ _ ?_ k Y;intro k' V;refine(S.out σ k' fun Q=>?_).symm;rcases V with V|V
    ·exact pW jo Q V
    ·exact pW ie Q V
   ·exact((N.out (x.yd σ) k Y).symm.trans (S.out σ k D).symm).trans (N.out σ k Y)
theorem ua.front {P:Program} {X:Ctx} {ops:Array Oper} {i:Nat} {T:It}:∀{p q:List (Nat×It)} {env env':Env} {σ D:St},
  (∀x∈p,indep ops x.1 i x.2.fp T.fp=true)->ua P X ops (p++(i,T)::q) env σ env' D ->
  ∃A J E U,mh P X ops i T env σ A J/\ua P X ops (p++q) A J E U/\Ext env' D E U
 | [],q,env,env',σ,D,_,⟨A,J,h1,h2⟩=>⟨A,J,env',D,h1,h2,Ext.refl _ _⟩
 | (j,x)::p,q,env,env',σ,D,hp,⟨A,J,h1,h2⟩=>by
  obtain⟨E,U,e3,s3,S,Q,Y⟩:=ua.front (fun x O=>hp x (List.mem_cons_of_mem _ O)) h2;obtain⟨N,M,K,I,H,G,W⟩:=mh.swap (hp (j,x) cn) h1 S;obtain⟨C,B,u,V⟩:=Q.vZ W;exact⟨N,M,C,B,H,⟨K,I,G,u⟩,Y.trans V⟩
end Go.cu
namespace Go.cu
structure jH where
 w:World
 g:Gh
 σ:St
structure Live (X:Ctx) (β:jH) (n:Nat) (env:Env) (σ:St) (g:Gh) (w:World) (a:Act):Prop where
 inv:Inv w g σ
 q8:nw X g.G
 env:tN g env a.tmps
 frame:gW β.w β.g β.σ w g σ
 size:a.tmps.size=n
 defers:a.defers=[]
theorem Inv.ext {w:World} {g:Gh} {σ G:St} (h:Inv w g σ) (O:∀k,iz k σ G):Inv w g G where
 oF:=h.oF
 box:=fun k cs e=>h.box k cs ((O k).1.symm.trans e)
 fF:=fun k k' cs T b e e'=>h.fF k k' cs T b ((O k).1.symm.trans e) ((O k').1.symm.trans e')
 tok:=fun k n e=>by
  obtain⟨C,h1,h2⟩:=h.tok k n ((O k).2.1.symm.trans e);refine⟨C,h1,fun b S W I=>?_⟩;obtain⟨U,D,q⟩:=h2 b S W I;exact⟨U,D,fun k' cs e'=>q k' cs ((O k').1.symm.trans e')⟩
 gA:=fun k k' n B b S W Y V e e'=>h.gA k k' n B b S W Y V ((O k).2.1.symm.trans e) ((O k').2.1.symm.trans e')
 used:=fun k e=>(O k).2.2.2 (h.used k e)
 room:=fun k cs b e=>h.room k cs b ((O k).1.symm.trans e)
theorem gW.ext {w w':World} {g g':Gh} {σ D G:St} (h:gW w g σ w' g' D) (O:∀k,iz k D G):gW w g σ w' g' G where
 os:=h.os
 tape:=h.tape
 output:=h.output
 size:=h.size
 block:=h.block
 kept:=h.kept
 le:=h.le
 new:=h.new
 boxes:=fun k cs b e=>h.boxes k cs b ((O k).1.symm.trans e)
 toks:=fun k n b S W e=>h.toks k n b S W ((O k).2.1.symm.trans e)
 ids:=fun k Y e=>h.ids k Y (by rw[<- (O k).1];exact e)
theorem Live.ext {X:Ctx} {β:jH} {n:Nat} {env P:Env} {σ G:St} {g:Gh} {w:World} {a:Act} (h:Live X β n env σ g w a) (O:Ext env σ P G):Live X β n P G g w a where
 inv:=h.inv.ext O.2
 q8:=h.q8
 env:=fun t v e=>h.env t v ((O.1 t).symm.trans e)
 frame:=h.frame.ext O.2
 size:=h.size
 defers:=h.defers
def qV (ops:Array Oper) (n:Nat):Bool:=ops.toList.all fun o=>match o.dst with
 | some d=>Nat.blt d n
 | none=>true
theorem L4 {ops:Array Oper} {n i d:Nat} {o:Oper} (h:qV ops n=true) (q:ops[i]?=some o) (H:o.dst=some d):d<n:=by
 simp only[qV,List.all_eq_true]at h;have:=h o (by rw[Array.mem_toList_iff];exact Array.mem_of_getElem? q);rw[H]at this;simpa[Nat.blt_eq]using this
theorem tN.put {g:Gh} {env:Env} {a:Act} {d:Option Nat} {v:AV} {u:Value} (h:tN g env a.tmps) (A:aJ g v u) (Y:∀k,d=some k->k<a.tmps.size) :
  tN g (yQ d v env) (a.put d u).tmps:=by
 intro t x e;rw[rZ]at e;cases d with
 | none=>simp at e;exact h t x e
 | some k =>
  simp only[Option.some.injEq]at e;simp only[Act.put];by_cases D:k=t
  ·subst D;rw[if_pos rfl]at e;simp at e;subst e;have H:=Y k rfl;simpa[Array.getD,H]using A
  ·rw[if_neg D]at e;have:=h t x e;have Q:(a.tmps.setIfInBounds k u).getD t undef=a.tmps.getD t undef:=by
    simp only[Array.getD_eq_getD_getElem?,Array.getElem?_setIfInBounds,if_neg D]
   rw[Q];exact this
theorem Dh {g:Gh} {ops:Array Oper} {env:Env} {tmps:Array Value} (h:tN g env tmps) {j d:Nat} (H:pU ops j=some d) :
  (∀b,ak d env=some (.c (.bool b))->yielded ops tmps j=some b)/\(ak d env=some (.c .undef)->yielded ops tmps j=none):=by
 unfold pU at H;constructor
 ·intro b e;have:=h d _ e;simp only[aJ,Rel]at this;simp only[yielded,H,Option.bind_some];simp only[Array.getD]at this;split at this
  ·simp_all
  ·simp[Go.undef]at this
 ·intro e;have:=h d _ e;simp only[aJ,Rel]at this;simp only[yielded,H,Option.bind_some];simp only[Array.getD]at this;split at this
  ·rename_i G;have:tmps[d]?=some Go.undef:=by rw[Array.getElem?_eq_getElem G];exact congrArg some this
   rw[this];rfl
  ·simp_all
theorem mh.wp {P:Program} {X:Ctx} {β:jH} {n:Nat} {ops:Array Oper} (H:qV ops n=true) {i:Nat} {G:It} {env env':Env} {σ D:St} (h:mh P X ops i G env σ env' D)
  {g:Gh} {w:World} {a:Act} (N:Live X β n env σ g w a) {K:Act->World->Prop} {Q:Exit->Act->World->Prop}
  (O:∀g' w' p,Live X β n env' D g' w' p->K p w'):wpOp P ops Q i K a w:=by
 obtain⟨o,q,rfl,rfl,hE,h⟩:=h;have M:∀k,o.dst=some k->k<a.tmps.size:=fun k T=>by rw[N.size];exact L4 H q T
 have Y:∀u,(a.put o.dst u).tmps.size=n/\(a.put o.dst u).defers=[]:=by
  intro u;cases o.dst<;>simp[Act.put,N.size,N.defers]
 simp only[wpOp,q];rcases h with ⟨rfl,W⟩|⟨hr,W,C⟩
 ·have S:Region.wanted o (yielded ops a.tmps)=false:=by
   unfold pV at W;unfold Region.wanted;split at W
   ·exact W.elim
   ·rename_i j V U;obtain⟨d,A,E⟩:=W;obtain⟨J,B⟩:=Dh N.env A;simp only[U];rcases E with E|E
    ·grind
    ·rw[B E];rfl
  rw[if_neg (by simp[S])];refine O g w _ ⟨N.inv,N.q8,N.env.put (by simp[It.skip,aJ,Rel]) M,N.frame,(Y _).1,(Y _).2⟩
 ·have S:Region.wanted o (yielded ops a.tmps)=true:=by
   unfold qG at W;unfold Region.wanted;split at W
   ·simp_all
   ·rename_i j V U;obtain⟨d,A,E⟩:=W;obtain⟨J,_⟩:=Dh N.env A;simp only[U];rw[J _ E];cases V<;>rfl
  rw[if_pos S];refine .inl (C env σ w g a K Q (fun _ _=>rfl) (fun k _=>iz.refl k σ) N.inv N.q8 N.env ?_);intro u w' g' h1 h2 h3 I;refine O g' w' _ ⟨h2,?_,(N.env.mono I).put h1 M,N.frame.trans h3,(Y _).1,(Y _).2⟩;intro k v T;exact Rel.mono I.1 _ _ (N.q8 k v T)
theorem ua.wp {P:Program} {X:Ctx} {β:jH} {n:Nat} {ops:Array Oper} (H:qV ops n=true) {Q:Exit->Act->World->Prop} :
  ∀{l:List (Nat×It)} {env env':Env} {σ D:St},ua P X ops l env σ env' D->∀{g:Gh} {w:World} {a:Act},Live X β n env σ g w a ->
  (∀g' w' p,Live X β n env' D g' w' p->Q .normal p w')->wpOps P ops Q (l.map (·.1)) a w
 | [],env,env',σ,D,⟨h1,h2⟩,g,w,a,hL,hQ=>by subst h1 h2;exact hQ g w a hL
 | (i,T)::l,env,env',σ,D,⟨A,q,h1,h2⟩,g,w,a,hL,hQ=>by
  rw[List.map_cons,wpOps_cons];exact h1.wp H hL fun g' w' p Y=>ua.wp H h2 Y hQ
def nQ (o:Oper):List Nat:=o.after.toList.filterMap fun e=>if Region.binds .any e then some e.on else none
def xG:List (List Nat)->List Nat->List Nat
 | [],acc=>acc
 | es::rest,acc=>xG rest (acc++[es.foldl (fun s e=>s|||2^e|||acc.getD e 0) 0])
def Sr (ops:Array Oper):List Nat:=xG (ops.toList.map nQ) []
theorem Di (acc:List Nat) (j:Nat):∀(es:List Nat) (s:Nat),(es.foldl (fun s e=>s|||2^e|||acc.getD e 0) s).testBit j=true ->
  s.testBit j=true\/∃e∈es,e=j\/(acc.getD e 0).testBit j=true
 | [],s,h => .inl h
 | e::es,s,h=>by
  simp only[List.foldl_cons]at h;rcases Di acc j es _ h with h|⟨e',h1,h2⟩
  ·grind
  ·grind
theorem Dj:∀(es:List (List Nat)) (acc:List Nat) (i:Nat),acc.length<=i->i<acc.length+es.length ->
  ∀j,((xG es acc).getD i 0).testBit j=true->∃e∈es.getD (i-acc.length) [],e=j\/((xG es acc).getD e 0).testBit j=true
 | [],acc,i,h1,h2,j,h=>by simp at h2;omega
 | x::es,acc,i,h1,h2,j,h=>by
  have Y:∀(es:List (List Nat)) (acc:List Nat) (k:Nat),k<acc.length->(xG es acc).getD k 0=acc.getD k 0:=by
   intro es
   induction es with
   | nil=>intro acc k D;rfl
   | cons y es S =>
    intro acc k D;simp only[xG];rw[S _ _ j0];simp[List.getD,List.getElem?_append_left D]
  simp only[xG]at h ⊢;by_cases I:i=acc.length
  ·subst I;rw[Y _ _ _ cn]at h;simp only[List.getD,List.getElem?_append_right (aam _),Nat.sub_self,List.getElem?_cons_zero,Option.getD_some]at h;rcases Di acc j x 0 h with h|⟨e,V,W⟩
   ·simp at h
   ·grind
  ·obtain⟨e,V,W⟩:=Dj es (acc++[x.foldl (fun s e=>s|||2^e|||acc.getD e 0) 0]) i j0 (by simp at h2 ⊢;omega) j h;refine⟨e,?_,W⟩;simp only[aax,aaa,aab]at V;rw[show i-acc.length=(i-(acc.length+(0+1)))+1 from by omega];simpa using V
def pK (ops:Array Oper) (Y:List Fp):Bool :=
 let W:=Sr ops
 (List.range ops.size).all fun i=>(((ops[i]?).map nQ).getD []).all (fun e=>Nat.blt e i) &&
  (List.range i).all fun j=>(W.getD i 0).testBit j||indep ops j i (Y.getD j ⟨[],[]⟩) (Y.getD i ⟨[],[]⟩)
end Go.cu
