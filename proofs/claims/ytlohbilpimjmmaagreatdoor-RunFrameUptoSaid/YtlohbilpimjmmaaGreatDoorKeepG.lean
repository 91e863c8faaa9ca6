/- RunFrame of package touchstonekeep. -/
import Derived.Test.YtlohbilpimjmmaaGreatDoorRunAS
import Derived.Test.YtlohbilpimjmmaaGreatDoorKeepM
set_option maxHeartbeats 0
set_option linter.unusedVariables false
set_option linter.unusedSimpArgs false
set_option maxRecDepth 100000
namespace Go.Proofs
open Go.cq
theorem Jx:∀{s:List Ty} {l:List Vl} (u:List Ty) (m:List Vl),s.length=l.length->kC (s++u) (l++m)=(kC s l&&kC u m)
 | [],[],u,m,_=>by simp[kC]
 | t::s,v::l,u,m,h=>by
  simp only[aac,Nat.add_right_cancel_iff]at h;show(jV t v&&kC (s++u) (l++m))=(jV t v&&kC s l&&kC u m)
  rw[Jx u m h,Bool.and_assoc]
 | [],_::_,_,_,h=>by simp at h
 | _::_,[],_,_,h=>by simp at h
theorem pQ:∀a b:List Vl,aa (a++b)=aa a++aa b
 | [],b=>rfl
 | x::a,b=>by simp only[List.cons_append,aa,pQ a b]
theorem Jy {a b c d:Int} {n:Nd} {s:List Ty} {l:List Vl} {g:Int} (h:(gY a b c d n s l g).code≠14):EM a b c d n s l=true:=by
 unfold gY at h;by_cases h1:EM a b c d n s l=true
 ·exact h1
 ·rw[if_neg h1]at h;exact absurd rfl h
theorem yO:∀a b:List Ty,aY (a++b)=aY a+aY b
 | [],b=>by simp[aY]
 | x::a,b=>by simp only[List.cons_append,aY,yO a b];omega
theorem A8 {s W:List Ty} (h1:aY s<=1000000000) (h2:aY W<=1000000000):aY (s++W)<=8589934593:=by rw[yO];omega
attribute [local irreducible] AK ai bh bt dI dS iP jV kC G7 gY oO gN
theorem EN (a b c d:Int) (n:Nd) (hn:b8 n<=8589934593) (s W:List Ty) (hs:aY s<=1000000000) (hu:aY W<=1000000000) (l low:List Vl) (hl:aJ l<=10000000) (O:aJ low<=10000000) (g:Int) (U4 : -9223372036854775808<=g) (R6:g<=9223372036854775807):ag 5 [.agg [aF a,aF b,aF c,aF d],aX n,.sl 2 (aq s),.sl 2 (aq W),.sl 7 (aa l),.sl 7 (aa low),aF g] (.bool true):=by
 have z1:=aQ W;have z2:=az low;have zs:=gn s;have J:=gn W;have zl:=gM l;have zw:=gM low;have h6:=A9;have q:LA l:=sZ bn;have Yt:LA (l++low):=sZ (by rw[kD];omega);by_cases h4:4<W.length
 ·have c1:decide ((((aq W).length:Nat):Int)>4)=true:=aam bn;obtain⟨D,I,E,C,B⟩:=n;clear hs hu hl O zs J zl zw z1 z2;refine qn Tryz.func5 Tryz.call5 fun β hf=>?_;exact dw
 have c1:decide ((((aq W).length:Nat):Int)>4)=false:=aan bn;by_cases A:W.length=low.length;rotate_left
 ·have c2:((((aq W).length:Nat):Int) != (((aa low).length:Nat):Int))=true:=by rw[bne_iff_ne];omega
  have c3:(bif decide ((((aq W).length:Nat):Int)>4)then true else((((aq W).length:Nat):Int) != (((aa low).length:Nat):Int)))=true:=by rw[c1];exact c2
  obtain⟨D,I,E,C,B⟩:=n;clear hs hu hl O zs J zl zw z1 z2;refine qn Tryz.func5 Tryz.call5 fun β hf=>?_;exact dw
 have c2:((((aq W).length:Nat):Int) != (((aa low).length:Nat):Int))=false:=by rw[z1,z2,A];exact bne_self_eq_false _
 have c3:(bif decide ((((aq W).length:Nat):Int)>4)then true else((((aq W).length:Nat):Int) != (((aa low).length:Nat):Int)))=false:=by rw[c1];exact c2
 obtain⟨V,hgp,h8⟩:=uK g U4 R6;have h1:=rW a b c d V n hn s bn l q bn;have h3:=yN s bn;have h3v:=qZ l bn;have h5:=s7 n (s++W) hn (A8 hs hu);rw[hJ]at h5;have Q:ag 12 [.agg [aF a,aF b,aF c,aF d],.sl 2 (aq W),.sl 7 (aa low)] (.bool (G7 W low a b c d)):=by
  unfold G7;exact Jz a b c d W bn low (fun v Y=>by have:=dO Y;omega)
 have P := @Jy a b c d n s l V;obtain⟨⟨Wo,N⟩,U5⟩ := @FA a b c d n s l (V:Int) q ⟨bn,bn⟩;have G:=rW a b c d V n hn (s++W) (A8 hs hu) (l++low) Yt bn;rw[hJ,pQ]at G;have M := @U6 a b c d n s W l low V;have K:(iP n (s++W)).2=0->EM a b c d n s l=true->G7 W low a b c d=true->EM a b c d n (s++W) (l++low)=true:=by
  intro e1 e2 e3;obtain⟨q1,q2,q3,q4⟩:=oS.1 e2;obtain⟨p1,p2,p3⟩:=R8.1 e3;exact oS.2 ⟨e1,by rw[aas,aas,q2,p1],q3,by rw[Jx _ _ q2,q4,p3];rfl⟩
 generalize gY a b c d n s l V=ra at *;generalize gY a b c d n (s++W) (l++low) V=rb at *;generalize G7 W low a b c d=kf at *;generalize EM a b c d n s l=L4 at *;generalize EM a b c d n (s++W) (l++low)=R9 at *;generalize iP n (s++W)=q1 at *;obtain⟨⟨t,p⟩,ec⟩:=q1;obtain⟨H,T,said,gX,mt⟩:=ra;obtain⟨D,I,E,C,B⟩:=n;simp only at *;have xb:ag 9 [.agg [aF a,aF b,aF c,aF d],aX (.mk D I E C B),.sl 2 (aq s),.sl 7 (aa l),aF V] (iF H T said gX mt):=h1;clear h1;by_cases U:H=14
 ·subst U;clear P M K Wo N U5 G Q O;refine qn Tryz.func5 Tryz.call5 fun β hf=>?_;exact dw
 have c4:(H==14)=false:=by simpa using U
 have ok:=P U;subst ok;by_cases he:ec=0;rotate_left
 ·have c5:(ec != 0)=true:=by simpa using he
  have c6:(bif (H==14)then true else(ec != 0))=true:=by rw[c4];exact c5
  clear P M K Wo N U5 G Q O;refine qn Tryz.func5 Tryz.call5 fun β hf=>?_;exact dw
 subst he;have c6:(bif (H==14)then true else false)=false:=by rw[c4];rfl
 cases kf with
 | false =>
  clear P M K Wo N U5 G O;refine qn Tryz.func5 Tryz.call5 fun β hf=>?_;exact dw
 | true =>
  have o2:=K rfl rfl rfl;have e:=M rfl o2 Yt q bn;subst e;by_cases h0:H=0
  ·subst h0;have u:ag 9 [.agg [aF a,aF b,aF c,aF d],aX (.mk D I E C B),.sl 2 (aq s++aq W),.sl 7 (aa l++aa low),aF V] (iF 0 (T++low) said gX mt):=G
   have S:=yP (T++low) (T++low) (by rw[aas];omega) (fun v Y=>by
    rcases List.mem_append.1 Y with Y|Y
    ·have:=N v Y;omega
    ·have:=dO Y;omega)
   rw[Ba]at S;have abQ:ag 14 [.sl 7 (aa (T++low)),.sl 7 (aa T++aa low)] (.bool true):=by rw[<- pQ];exact S
   have h3w:=qZ T bn;have zst:(aa T).length<=40:=by rw[az];exact Wo
   clear P M K N U5 G O o2 S;refine qn Tryz.func5 Tryz.call5 fun β hf=>?_
   repeat' (first|refine sK ?_|(refine zc ?_ ?_<;>intro h<;>first|(cases h;done)|rw[h]|skip)|refine lE ?_ (hq:=h3) (hok:=by exact⟨_,_,rfl,rfl,rfl⟩)|refine lE ?_ (hq:=h3v) (hok:=by exact⟨_,_,rfl,rfl,rfl⟩)|refine lE ?_ (hq:=h3w) (hok:=by exact⟨_,_,rfl,rfl,rfl⟩)|refine uC rfl xb ?_|refine uC rfl h5 ?_|refine uC rfl h6 ?_|refine uC rfl h8 ?_|refine uC rfl Q ?_|refine uC rfl u ?_|refine uC rfl abQ ?_|(refine uA rfl ?_ ?_<;>(try (show(_:Nat)*_<=_;dsimp only)))|((first|refine zt ?_|refine zu ?_ ?_)<;>intro h<;>(fail_if_success (cases h;done))<;>rw[h]))
   all_goals first|exact Wk.refl _|(show _<=_;simp only[aQ,az];omega)
  ·have c7:(H != 0)=true:=by simpa using h0
   have u:ag 9 [.agg [aF a,aF b,aF c,aF d],aX (.mk D I E C B),.sl 2 (aq s++aq W),.sl 7 (aa l++aa low),aF V] (iF H (T++[]) said gX mt):=by
    have e:G8 ⟨H,T++(if H=0 then low else []),said,gX,mt⟩=iF H (T++[]) said gX mt:=by unfold G8;rw[if_neg h0]
    rw[<- e];exact G
   clear P M K N U5 G O o2;refine qn Tryz.func5 Tryz.call5 fun β hf=>?_;exact dw
theorem CZ (a b c d:Int) (n:Nd) (_:RS n) (Y:b8 n<=8589934593) (s:List Ty) (_:A7 s) (G:aY s<=1000000000) (u:List Ty) (_:A7 u) (A:aY u<=1000000000) (l:List Vl) (_:CT l) (p:aJ l<=10000000) (m:List Vl) (_:CT m) (M:aJ m<=10000000) (g:Int) (E : -9223372036854775808<=g/\g<=9223372036854775807) :
  ag 5 [.agg [.int .i64 a,.int .i64 b,.int .i64 c,.int .i64 d],aX n,.sl 2 (aq s),.sl 2 (aq u),.sl 7 (aa l),.sl 7 (aa m),.int .i64 g] (.bool true):=EN a b c d n Y s u G A l m p M g E.1 E.2
end Go.Proofs
