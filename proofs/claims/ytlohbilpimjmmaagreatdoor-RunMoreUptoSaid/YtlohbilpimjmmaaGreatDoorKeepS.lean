/- RunSound of package touchstonekeep. -/
import Derived.Test.YtlohbilpimjmmaaGreatDoorRunAP
import Derived.Test.YtlohbilpimjmmaaGreatDoorKeepR
set_option linter.unusedVariables false
set_option linter.unusedSimpArgs false
set_option maxRecDepth 100000
namespace Go.Proofs
open Go.cq
theorem Sh {s:List Ty} {l:List Vl} {a b c d:Int} (h:s.length=l.length/\nD a b c d=true):JB s l a b c d=false:=by
 obtain⟨h1,h2⟩:=h;obtain⟨⟨I,U⟩,⟨B,K⟩,⟨A,Y⟩,e7,e8⟩:=vY h2;unfold bP at Y e8;have p:((((aq s).length:Nat):Int) != (((aa l).length:Nat):Int))=false:=by rw[aQ,az,h1];exact bne_self_eq_false _
 have q:decide (a<0)=false:=aan bn;have J:decide (a>=12)=false:=aan bn;have H:decide (b<0)=false:=aan bn;have c4:decide (b>=12)=false:=aan bn;have W:decide (c<0)=false:=aan bn;have C:decide (c>1152921504606846976)=false:=aan bn;have N:decide (d<0)=false:=aan bn;have V:decide (d>1152921504606846976)=false:=aan bn;unfold JB;rw[p,q,J,H,c4,W,C,N,V];rfl
theorem Si {s:List Ty} {l:List Vl} {a b c d:Int} (h:JB s l a b c d=false):s.length=l.length/\nD a b c d=true:=by
 unfold JB at h;have u:∀x y:Bool,(bif x then true else y)=false->x=false/\y=false:=by intro x y h;cases x<;>simp_all
 obtain⟨h,Y⟩:=u _ _ h;obtain⟨h,N⟩:=u _ _ h;obtain⟨h,C⟩:=u _ _ h;obtain⟨h,p⟩:=u _ _ h;obtain⟨h,c4⟩:=u _ _ h;obtain⟨h,H⟩:=u _ _ h;obtain⟨h,J⟩:=u _ _ h;obtain⟨W,q⟩:=u _ _ h;have V:=bne_eq_false_iff_eq.1 W;rw[aQ,az]at V;have U:=of_decide_eq_false q;have G:=of_decide_eq_false J;have T:=of_decide_eq_false H;have S:=of_decide_eq_false c4;have Q:=of_decide_eq_false p;have P:=of_decide_eq_false C;have O:=of_decide_eq_false N;have M:=of_decide_eq_false Y;refine⟨bn,?_⟩;unfold nD JC JD;rw[aam (by omega:a>=0),aam (by omega:a<12),aam (by omega:b>=0),aam (by omega:b<12),aam (by omega:c>=0),aam (by omega:c<=1152921504606846976),aam (by omega:d>=0),aam (by omega:d<=1152921504606846976)];rfl
def G7 (s:List Ty) (l:List Vl) (a b c d:Int):Bool:=bif JB s l a b c d then false else kC s l
theorem R8 {s:List Ty} {l:List Vl} {a b c d:Int}:G7 s l a b c d=true↔s.length=l.length/\nD a b c d=true/\kC s l=true:=by
 unfold G7;constructor
 ·intro h;cases p:JB s l a b c d with
  | true=>rw[p]at h;cases h
  | false =>
   rw[p]at h;obtain⟨h1,h2⟩:=Si p;exact⟨h1,h2,h⟩
 ·rintro⟨h1,h2,V⟩;rw[Sh ⟨h1,h2⟩];exact V
theorem FC:∀{s:List Ty} {l:List Vl},dJ s l->LA l
 | [],[],_,_,Y=>by simp at Y
 | t::s,w::l,h,v,Y=>by
  rcases List.mem_cons.1 Y with rfl|Y
  ·exact h.1.2
  ·exact FC h.2 v Y
 | [],_::_,h,_,_=>h.elim
 | _::_,[],h,_,_=>h.elim
attribute [local irreducible] AK ai bh bt dI dS iP jV kC G7 gY
end Go.Proofs
