/- Package run: who pays for more than it takes gets the same (plain). -/
import Derived.Test.YtlohbilpimjmmaaGreatDoorRunAP
set_option linter.unusedVariables false
set_option linter.unusedSimpArgs false
set_option maxRecDepth 100000
namespace Go.Proofs
open Go.cq
theorem Qv (g:Int) (o:MR):rX (Iw g o)=rX o:=rfl
theorem JA {a b c d:Int} {n:Nd} {s:List Ty} {l:List Vl} {g g':Int} (Y:LA l) (E:0<=g/\g<=g'/\g'<=1000000) :
  ((gY a b c d n s l g).code≠12->gY a b c d n s l g'=gY a b c d n s l g)/\((gY a b c d n s l g).code=12->(gY a b c d n s l g).gX<=(gY a b c d n s l g').gX):=by
 unfold gY;by_cases h:EM a b c d n s l=true
 ·rw[if_pos h,if_pos h];have O:=tK h Y (g:=g) ⟨bn,bn⟩ 1000000001 bn;have J:=tK h Y (g:=g') ⟨bn,bn⟩ 1000000001 bn;have D:=Gm _ g' E.2.2 1000000001 _ s (tJ h Y (g:=g) ⟨bn,bn⟩) E.2.1 (pG h ⟨bn,bn⟩) (pG (g:=g') h ⟨bn,bn⟩);have e:wY g' (qP a b c d (cF n) l g)=qP a b c d (cF n) l g':=rfl;rw[e,O,J]at D;refine⟨fun q=>?_,fun P=>D.2 P⟩;rw[D.1 q,Qv]
 ·rw[if_neg h,if_neg h];exact⟨fun _=>rfl,fun _=>Int.le_refl _⟩
theorem He {a b c d:Int} {n:Nd} {s:List Ty} {l:List Vl} {g:Int} (Y:LA l) (E:0<=g/\g<=1000000):0<=(gY a b c d n s l g).gX/\(gY a b c d n s l g).gX<=g:=by
 unfold gY;by_cases h:EM a b c d n s l=true
 ·rw[if_pos h];obtain⟨_,h1,h2,V,W⟩:=B2 h Y E;have p:(rY a b c d n l g).2.gX=g:=h1.2.2.2.2;rw[p]at h2;exact h2
 ·rw[if_neg h];exact⟨Int.le_refl _,E.1⟩
theorem Sb {a b c d:Int} {n:Nd} {s:List Ty} {l:List Vl} {g:Int} (Y:LA l) (E:0<=g/\g<=1000000) (K:(gY a b c d n s l g).code≠12) (A:(gY a b c d n s l g).gX≠0):(gY a b c d n s l ((gY a b c d n s l g).gX-1)).code=12:=by
 have h1 := @He a b c d n s l g Y E;have h2 := @JA a b c d n s l ((gY a b c d n s l g).gX-1) g Y ⟨bn,bn,E.2⟩;have V := @He a b c d n s l ((gY a b c d n s l g).gX-1) Y ⟨bn,bn⟩;apply Decidable.byContradiction;intro q;have W:=h2.1 q;rw[<- W]at V;omega
end Go.Proofs
