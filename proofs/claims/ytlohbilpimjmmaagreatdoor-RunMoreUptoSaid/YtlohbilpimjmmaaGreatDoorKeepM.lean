/- RunMore of package touchstonekeep. -/
import Derived.Test.YtlohbilpimjmmaaGreatDoorRunAQ
import Derived.Test.YtlohbilpimjmmaaGreatDoorKeepS
set_option maxHeartbeats 0
set_option linter.unusedVariables false
set_option linter.unusedSimpArgs false
set_option maxRecDepth 100000
namespace Go.Proofs
open Go.cq
theorem Ba (l:List Vl):gN l l=true:=(xH l l).2 rfl
theorem L5 (v:Vl):oO v v=true:=(FB v v).2 rfl
theorem FA {a b c d:Int} {n:Nd} {s:List Ty} {l:List Vl} {g:Int} (W:LA l) (E:0<=g/\g<=1000000):((gY a b c d n s l g).st.length<=40/\∀v∈(gY a b c d n s l g).st,aM v<=25000000)/\aM (gY a b c d n s l g).said<=25000000:=by
 unfold gY;by_cases h:EM a b c d n s l=true
 ·rw[if_pos h];obtain⟨_,h1,h2,P,Y⟩:=B2 h W E;have V:=(zR (oS.1 h).1).2.1;unfold rX;rcases Y with ⟨Y,_,p,_⟩|Y|Y|⟨Y,_⟩|⟨Y,_,p⟩
  ·rw[Y];exact⟨⟨by show(rY a b c d n l g).2.st.length<=40;rw[<- bH p];exact V,FC p⟩,show aM oL<=25000000 by decide⟩
  ·rw[Y];exact⟨⟨Nat.zero_le _,fun v W=>by simp at W⟩,show aM oL<=25000000 by decide⟩
  ·rw[Y];exact⟨⟨Nat.zero_le _,fun v W=>by simp at W⟩,show aM oL<=25000000 by decide⟩
  ·rw[Y];exact⟨⟨Nat.zero_le _,fun v W=>by simp at W⟩,show aM oL<=25000000 by decide⟩
  ·simp_all
 ·rw[if_neg h];exact⟨⟨Nat.zero_le _,fun v W=>by simp[Sa]at W⟩,show aM oL<=25000000 by decide⟩
attribute [local irreducible] AK ai bh bt dI dS iP jV kC G7 gY oO gN
theorem G9 (a b c d:Int) (n:Nd) (C:b8 n<=8589934593) (s:List Ty) (B:aY s<=8589934593) (l:List Vl) (A:aJ l<=25000000) (g:Int) (U4 : -9223372036854775808<=g) (R6:g<=9223372036854775807) (m:Int) (IZ : -9223372036854775808<=m) (u:m<=9223372036854775807):ag 4 [.agg [aF a,aF b,aF c,aF d],aX n,.sl 2 (aq s),.sl 7 (aa l),aF g,aF m] (.bool true):=by
 obtain⟨V,hgp,h8⟩:=uK g U4 R6;obtain⟨S,hmp,h9⟩:=uK m IZ u;have zs:=gn s;have zl:=gM l;have h1:=rW a b c d V n C s B l (sZ A) bn;have h2:ag 9 [.agg [aF a,aF b,aF c,aF d],aX n,.sl 2 (aq s),.sl 7 (aa l),aF (IntKind.i64.wrap ((V:Int)+(S:Int)))] (G8 (gY a b c d n s l ((V:Int)+S))):=by
  rw[gW bn bn];exact rW a b c d _ n C s B l (sZ A) bn
 have h3:=yN s bn;have h4:=qZ l bn;have h6:=A9;obtain⟨Q,P⟩ := @JA a b c d n s l (V:Int) ((V:Int)+S) (sZ A) ⟨bn,bn,bn⟩;have O := @He a b c d n s l (V:Int) (sZ A) ⟨bn,bn⟩;have N := @Sb a b c d n s l (V:Int) (sZ A) ⟨bn,bn⟩;obtain⟨⟨q,M⟩,U5⟩ := @FA a b c d n s l (V:Int) (sZ A) ⟨bn,bn⟩;have p:(gY a b c d n s l V).gX≠0->ag 9 [.agg [aF a,aF b,aF c,aF d],aX n,.sl 2 (aq s),.sl 7 (aa l),aF (IntKind.i64.wrap ((gY a b c d n s l V).gX-1))] (G8 (gY a b c d n s l ((gY a b c d n s l V).gX-1))):=fun h0=>by
  have hg0:0<=(gY a b c d n s l (V:Int)).gX/\(gY a b c d n s l (V:Int)).gX<=(V:Int):=O;rw[gW bn bn];exact rW a b c d _ n C s B l (sZ A) ⟨bn,bn⟩
 generalize gY a b c d n s l V=ra at *;generalize gY a b c d n s l ((V:Int)+S)=rb at *;generalize gY a b c d n s l (ra.gX-1)=rc at *;obtain⟨D,K,J,E,G⟩:=n;obtain⟨H,T,said,gX,mt⟩:=ra;simp only at *;have xb:ag 9 [.agg [aF a,aF b,aF c,aF d],aX (.mk D K J E G),.sl 2 (aq s),.sl 7 (aa l),aF V] (iF H T said gX mt):=h1;clear h1;by_cases U:H=12
 ·subst U;have c1:decide (rb.gX>=gX)=true:=aam (P rfl);obtain⟨bJ,Y,Sc,Xk,W⟩:=rb;simp only at c1;have yQ:ag 9 [.agg [aF a,aF b,aF c,aF d],aX (.mk D K J E G),.sl 2 (aq s),.sl 7 (aa l),aF (IntKind.i64.wrap ((V:Int)+(S:Int)))] (iF bJ Y Sc Xk W):=h2;clear h2 p Q P N O q M U5;refine qn Tryz.func4 Tryz.call4 fun β hf=>?_;exact dw
 have e0:=Q U;subst e0;have yQ:ag 9 [.agg [aF a,aF b,aF c,aF d],aX (.mk D K J E G),.sl 2 (aq s),.sl 7 (aa l),aF (IntKind.i64.wrap ((V:Int)+(S:Int)))] (iF H T said gX mt):=h2;have Uq:=yP T T bn (fun v hv=>by have:=M v hv;omega);rw[Ba]at Uq;have hv2:=uL said said bn;rw[L5,Xl]at hv2;have c0:(H==12)=false:=by simpa using U
 by_cases I:gX=0
 ·have c1:(gX==0)=true:=by simpa using I
  clear h2 p Q P N O q M U5 U I;refine qn Tryz.func4 Tryz.call4 fun β hf=>?_;exact dw
 ·have c1:(gX==0)=false:=by simpa using I
  have e5:=N U I;obtain⟨bJ,Y,Sc,Xk,W⟩:=rc;simp only at e5;subst e5;have h5':ag 9 [.agg [aF a,aF b,aF c,aF d],aX (.mk D K J E G),.sl 2 (aq s),.sl 7 (aa l),aF (IntKind.i64.wrap (gX-1))] (iF 12 Y Sc Xk W):=p I;clear h2 p Q P N O q M U5 U I;refine qn Tryz.func4 Tryz.call4 fun β hf=>?_;exact dw
theorem EO (a b c d:Int) (n:Nd) (_:RS n) (Y:b8 n<=8589934593) (s:List Ty) (_:A7 s) (G:aY s<=8589934593) (l:List Vl) (_:CT l) (A:aJ l<=25000000) (g:Int) (E : -9223372036854775808<=g/\g<=9223372036854775807) (m:Int) (M : -9223372036854775808<=m/\m<=9223372036854775807) :
  ag 4 [.agg [.int .i64 a,.int .i64 b,.int .i64 c,.int .i64 d],aX n,.sl 2 (aq s),.sl 7 (aa l),.int .i64 g,.int .i64 m] (.bool true):=G9 a b c d n Y s G l A g E.1 E.2 m M.1 M.2
end Go.Proofs
