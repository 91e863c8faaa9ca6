/- RunSound of package touchstonekeep. RunMore of package touchstonekeep. RunFrame of package touchstonekeep. The law CheckParts. RunParts of package touchstonekeep. What the arguments of the laws read as: closed values of the chain's data. What an argument that is a list of types reads as. What argume -/
import Derived.Test.YtlohbilpimjmmaaGreatDoorRunAR
import Derived.Test.YtlohbilpimjmmaaGreatDoorKeepR
import Derived.Test.YtlohbilpimjmmaaGreatDoorRows
import Derived.Test.YtlohbilpimjmmaaGreatDoorTPure
import Derived.Test.YtlohbilpimjmmaaGreatDoorCtx
import Derived.WalkKit
import Derived.ProofKit
import Derived.OpenShut
import Derived.Test.YtlohbilpimjmmaaGreatDoorHead
import Derived.JoinedCond
set_option maxHeartbeats 0
set_option linter.unusedVariables false
set_option linter.unusedSimpArgs false
set_option maxRecDepth 100000
namespace Go.Proofs
open Go.cu
def UD (s:List Ty) (l:List Vl) (a b c d:Int):Bool:=bif abD s l a b c d then false else oQ s l
theorem yA:∀{s:List Ty},s.all bA=true->br s<=s.length*300
 | [],_=>aam _
 | t::s,h=>by
  have h1:=(cL (bE h)).2;have h2:=yA (CK h);simp only[br,aaa];omega
theorem Fq:∀{s:List Ty} {l:List Vl},dK s l->Jd l
 | [],[],_,_,T=>by simp at T
 | t::s,w::l,h,v,T=>by
  rcases List.mem_cons.1 T with rfl|T
  ·exact h.1.2
  ·exact Fq h.2 v T
 | [],_::_,h,_,_=>h.elim
 | _::_,[],h,_,_=>h.elim
attribute [local irreducible] AK ai bw bz dJ dN fK ld oQ UD gO
end Go.Proofs
namespace Go.Proofs
open Go.cu
theorem Je (l:List Vl):gJ l l=true:=(xu l l).2 rfl
theorem Fs {a b c d:Int} {n:Nd} {s:List Ty} {l:List Vl} {g:Int} (T:Jd l) (Q:0<=g/\g<=1000000):((gO a b c d n s l g).st.length<=40/\∀v∈(gO a b c d n s l g).st,aM v<=25000000)/\aM (gO a b c d n s l g).said<=25000000:=by
 unfold gO;by_cases h:GS a b c d n s l=true
 ·rw[if_pos h];obtain⟨_,h1,h2,V,D⟩:=sP h T Q;have Y:=(rP (nM.1 h).1).2.1;unfold od;rcases D with ⟨D,_,q,_⟩|D|D|⟨D,_⟩|⟨D,_,q⟩
  ·rw[D];exact⟨⟨by show(me a b c d n l g).2.st.length<=40;rw[<- bJ q];exact Y,Fq q⟩,show aM oO<=25000000 by decide⟩
  ·rw[D];exact⟨⟨Nat.zero_le _,fun v T=>by simp at T⟩,show aM oO<=25000000 by decide⟩
  ·rw[D];exact⟨⟨Nat.zero_le _,fun v T=>by simp at T⟩,show aM oO<=25000000 by decide⟩
  ·rw[D];exact⟨⟨Nat.zero_le _,fun v T=>by simp at T⟩,show aM oO<=25000000 by decide⟩
  ·simp_all
 ·rw[if_neg h];exact⟨⟨Nat.zero_le _,fun v T=>by simp[RJ]at T⟩,show aM oO<=25000000 by decide⟩
attribute [local irreducible] AK ai bw bz dJ dN fK ld oQ UD gO oK gJ
end Go.Proofs
namespace Go.Proofs
open Go.cu
theorem Jf {a b c d:Int} {n:Nd} {s:List Ty} {l:List Vl} {g:Int} (h:(gO a b c d n s l g).code≠14):GS a b c d n s l=true:=by
 unfold gO at h;by_cases h1:GS a b c d n s l=true
 ·exact h1
 ·rw[if_neg h1]at h;exact absurd rfl h
attribute [local irreducible] AK ai bw bz dJ dN fK ld oQ UD gO oK gJ
end Go.Proofs
namespace Go.Proofs
open Go.cu
theorem yB:∀a b:List Nd,aQ (a++b)=aQ a+aQ b
 | [],b=>by simp[aQ]
 | x::a,b=>by simp only[List.cons_append,aQ,yB a b];omega
def zT (a b:Nd):Bool:=bif (Pk a==3)then(bif (Pk b==3)then decide ((many a:Int)+many b<=300)else false)else false
theorem Pv {a b:Nd} (h:zT a b=true):many a+many b<=300:=by
 unfold zT at h;cases Y:(Pk a==3)<;>rw[Y]at h
 ·cases h
 cases J:(Pk b==3)<;>rw[J]at h
 ·cases h
 have:=of_decide_eq_true h;omega
def CL (a b:Nd):Nd := .mk 3 0 0 [] (bh a++bh b)
attribute [local irreducible] AK ai bw bz dN aZ bA dj cw eX fK many cr
theorem GU (a b:Nd) (p:bN a<=2000000000) (W:bN b<=2000000000):ah 16 [aW a,aW b] (.bool (zT a b)):=by
 have q1:=uw a bn;have O:=uw b bn;have q:=zU a;have U:=zU b;have Q:IntKind.i64.wrap ((many a:Int)+(many b:Int))=(many a:Int)+many b:=gZ bn bn;have e:zT a b=bif (Pk a==3)then(bif (Pk b==3)then decide ((many a:Int)+many b<=300)else false)else false:=rfl
 rw[e];clear e;generalize many a=D at *;generalize many b=m2 at *;obtain⟨Y,V,S,P,A⟩:=a;obtain⟨E,C,K,T,N⟩:=b;show bw _ _ _ _ (.bool (bif (Y==3)then(bif (E==3)then decide ((D:Int)+m2<=300)else false)else false));cases M:(Y==3)with
 | false =>
  refine qn Tryz.func16 Tryz.call16 fun β hf=>?_;exact dw
 | true =>
  cases J:(E==3)with
  | false =>
   refine qn Tryz.func16 Tryz.call16 fun β hf=>?_;exact dw
  | true =>
   show bw _ _ _ _ (.bool (decide ((D:Int)+m2<=300)));rw[<- Q];refine qn Tryz.func16 Tryz.call16 fun β hf=>?_;exact dw
theorem Jg (a b:Nd) (p:bN a<=2000000000) (W:bN b<=2000000000):ah 17 [aW a,aW b] (aW (CL a b)):=by
 have q:=eL (bh a);have E:=eL (bh b);obtain⟨V,D,S,P,A⟩:=a;obtain⟨U,C,K,T,Y⟩:=b;simp only[bh,bN]at q E p W;have Q:=bq A;have I:=bq Y;have H:(aH A).length<=2000000000:=by omega
 have O:(aH Y).length<=2000000000:=by omega
 have q1:=CM (aH A++aH Y);have e:aW (CL (.mk V D S P A) (.mk U C K T Y)) = .agg [.int .i64 3,.int .i64 0,.int .i64 0,.str [],.sl 5 (aH A++aH Y)]:=by
  show CV.agg [_,_,_,_,.sl 5 (aH (A++Y))]=_;rw[jL]
 rw[e];clear e;cases A with
 | nil =>
  cases Y with
  | nil =>
   refine qn Tryz.func17 Tryz.call17 fun β hf=>?_
   repeat' (first|refine qo ?_|refine uC rfl q1 ?_|(refine uA rfl ?_ ?_<;>(try (show(_:Nat)*_<=_;dsimp only))))
   all_goals first|exact Wk.refl _|(show(_:Nat)<=_;decide)
  | cons y Y =>
   obtain⟨N,M,J,G,B⟩:=y;refine qn Tryz.func17 Tryz.call17 fun β hf=>?_
   repeat' (first|refine qo ?_|refine uC rfl q1 ?_|(refine uA rfl ?_ ?_<;>(try (show(_:Nat)*_<=_;dsimp only))))
   all_goals first|exact Wk.refl _|(show(_:Nat)<=_;simp only[List.nil_append,aax,aab];omega)
 | cons x A =>
  obtain⟨u,x2,x3,x4,x5⟩:=x;refine qn Tryz.func17 Tryz.call17 fun β hf=>?_
  repeat' (first|refine qo ?_|refine uC rfl q1 ?_|(refine uA rfl ?_ ?_<;>(try (show(_:Nat)*_<=_;dsimp only))))
  all_goals first|exact Wk.refl _|(show(_:Nat)<=_;simp only[List.nil_append,aax,aab];omega)
end Go.Proofs
namespace Go.Proofs
open Go.cu
theorem LK {a b c d:Int} {n:Nd} {s:List Ty} {l:List Vl} {g:Int} (T:Jd l) (Q:0<=g/\g<=1000000):0<=(gO a b c d n s l g).aU/\(gO a b c d n s l g).aU<=bM:=by
 unfold gO;by_cases h:GS a b c d n s l=true
 ·rw[if_pos h];obtain⟨_,h1,h2,V,D⟩:=sP h T Q;show 0<=(if _ then _ else _:Int)/\(if _ then _ else _:Int)<=bM;split
  ·exact V
  ·omega
 ·rw[if_neg h];exact⟨Int.le_refl _,cc⟩
attribute [local irreducible] AK ai bw bz dJ dN fK ld oQ UD gO oK gJ zT
theorem EF (a b c d:Int) (n m:Nd) (hn:bN n<=2000000000) (hm:bN m<=2000000000) (s:List Ty) (hs:br s<=8589934593) (l:List Vl) (hl:aL l<=25000000) (g:Int) (WW : -9223372036854775808<=g) (hg2:g<=9223372036854775807):ah 6 [.agg [aF a,aF b,aF c,aF d],aW n,aW m,.sl 2 (aE s),.sl 7 (aa l),aF g] (.bool true):=by
 obtain⟨U,hgp,h8⟩:=Jh g WW hg2;have zs:=iG s;have zl:=iI l;have N:Jd l:=WX hl;have hG:0<=(U:Int)/\(U:Int)<=1000000:=⟨bn,bn⟩
 obtain⟨q1,Q⟩:∃q,fK n s=q:=⟨_,rfl⟩
 obtain⟨S,M⟩:∃r,gO a b c d n s l U=r:=⟨_,rfl⟩
 have h1:ah 7 [aW n,.sl 2 (aE s)] (qz q1):=by rw[<- Q];exact pN n s bn bn
 have h2:ah 9 [.agg [aF a,aF b,aF c,aF d],aW n,.sl 2 (aE s),.sl 7 (aa l),aF U] (kr S.code S.st S.said S.gS S.aU):=by rw[<- M];exact zV a b c d U n bn s hs l N hG
 have h3:=GV s bn;have h4:=wT l bn;have H:=GU n m hn hm;have h6:=Ji;have u:=Jg n m hn hm;have hok:S.code≠14->GS a b c d n s l=true:=by rw[<- M];exact Jf
 have I:q1.2=0->q1.1.1.all bA=true/\q1.1.1.length<=40:=by rw[<- Q];exact fun h=>⟨(rP h).1,(rP h).2.1⟩
 have J:(S.st.length<=40/\Jd S.st)/\aM S.said<=25000000:=by rw[<- M];exact Fs N hG
 have G:0<=S.gS/\S.gS<=U:=by rw[<- M];exact NV N hG
 have Y:0<=S.aU/\S.aU<=bM:=by rw[<- M];exact LK N hG
 have LL:bM=1152921504606846976:=rfl;by_cases E:q1.2=0;rotate_left
 ·have e1:(q1.2 != 0)=true:=by simpa using E
  clear hok I J G Y M Q H u E LL;obtain⟨⟨t,p⟩,ec⟩:=q1;obtain⟨P,C,said,gS,mt⟩:=S;obtain⟨A,k2,k3,k4,k5⟩:=n;obtain⟨j1,j2,j3,j4,j5⟩:=m;simp only at e1 h2;refine qn Tryz.func6 Tryz.call6 fun β hf=>?_;exact dw
 by_cases h0:S.code=0;rotate_left
 ·have e1:(S.code != 0)=true:=by simpa using h0
  obtain⟨⟨t,p⟩,ec⟩:=q1;simp only at E;subst E;clear hok I J G Y M Q H u h0 LL;obtain⟨P,C,said,gS,mt⟩:=S;obtain⟨A,k2,k3,k4,k5⟩:=n;obtain⟨j1,j2,j3,j4,j5⟩:=m;simp only at e1 h2;refine qn Tryz.func6 Tryz.call6 fun β hf=>?_;exact dw
 obtain⟨g1,g2⟩:=I E;have B:=yA g1;have GW:=hok (by rw[h0];decide);cases hks:zT n m with
 | false =>
  rw[hks]at H;obtain⟨⟨t,p⟩,ec⟩:=q1;simp only at E;subst E;clear hok I J G Y M Q u LL B g1 g2;obtain⟨P,C,said,gS,mt⟩:=S;simp only at h0 h2;subst h0;obtain⟨A,k2,k3,k4,k5⟩:=n;obtain⟨j1,j2,j3,j4,j5⟩:=m;refine qn Tryz.func6 Tryz.call6 fun β hf=>?_;exact dw
 | true =>
 rw[hks]at H;obtain⟨q2,IA⟩:∃q,fK m q1.1.1=q:=⟨_,rfl⟩
 have h9:ah 7 [aW m,.sl 2 (aE q1.1.1)] (qz q2):=by rw[<- IA];exact pN m q1.1.1 bn bn
 by_cases hf:q2.2=0;rotate_left
 ·have e1:(q2.2 != 0)=true:=by simpa using hf
  obtain⟨⟨t,p⟩,ec⟩:=q1;simp only at E;subst E;clear hok I J G Y M Q IA u LL B g1 g2 hf;obtain⟨⟨t2,p2⟩,ec2⟩:=q2;obtain⟨P,C,said,gS,mt⟩:=S;simp only at h0 h2 e1 h9;subst h0;obtain⟨A,k2,k3,k4,k5⟩:=n;obtain⟨j1,j2,j3,j4,j5⟩:=m;refine qn Tryz.func6 Tryz.call6 fun β hf=>?_;exact dw
 obtain⟨O,hB⟩:∃r,gO a b c d m q1.1.1 S.st ((U:Int)-S.gS)=r:=⟨_,rfl⟩
 obtain⟨T,hC⟩:∃r,gO a b c d (CL n m) s l U=r:=⟨_,rfl⟩
 have NQ:0<=(U:Int)-S.gS/\(U:Int)-S.gS<=1000000:=⟨bn,bn⟩
 have hb:ah 9 [.agg [aF a,aF b,aF c,aF d],aW m,.sl 2 (aE q1.1.1),.sl 7 (aa S.st),aF (IntKind.i64.wrap ((U:Int)-S.gS))] (kr O.code O.st O.said O.gS O.aU):=by
  rw[gZ bn bn,<- hB];exact zV a b c d _ m bn q1.1.1 bn S.st J.1.2 NQ
 have WY:bN (CL n m)<=8589934593:=by
  unfold CL;simp only[bN,yB,aab];have x1:∀n,aQ (bh n)<=bN n:=by intro n;cases n;simp only[bh,bN];omega
  have:=x1 n;have:=x1 m;omega
 have hc:ah 9 [.agg [aF a,aF b,aF c,aF d],aW (CL n m),.sl 2 (aE s),.sl 7 (aa l),aF U] (kr T.code T.st T.said T.gS T.aU):=by rw[<- hC];exact zV a b c d U _ WY s hs l N hG
 have V:(T.st.length<=40/\Jd T.st)/\aM T.said<=25000000:=by rw[<- hC];exact Fs N hG
 have BL:0<=O.gS/\O.gS<=(U:Int)-S.gS:=by rw[<- hB];exact NV J.1.2 NQ
 have hP:(O.code=0->O.aU>bM-S.aU->T.code=11)/\((T.code=11/\0<S.aU)\/(T.code=O.code/\T.gS=S.gS+O.gS/\T.st=O.st)):=by
  have:=Pw GW N hG (by rw[M];exact h0) (m:=m) (by rw[Q,IA];exact hf) (Pv hks);rw[Q,M,hB]at this;have e:gO a b c d (.mk 3 0 0 [] (bh n++bh m)) s l U=T:=hC;rw[e]at this;exact this.2
 have Yf:=wT S.st bn;obtain⟨P1,P2⟩:=hP;obtain⟨⟨t,p⟩,ec⟩:=q1;obtain⟨⟨t2,p2⟩,ec2⟩:=q2;obtain⟨P,C,said,gS,mt⟩:=S;obtain⟨bI,YV,adq,WZ,YW⟩:=O;obtain⟨dg,UE,adr,abE,mt3⟩:=T;simp only at *;subst E;subst h0;subst hf;have W0:UE=YV->ah 14 [.sl 7 (aa UE),.sl 7 (aa YV)] (.bool true):=by
  intro e;subst e;have:=GX UE UE (by have:=V.1.1;omega) (fun v hv=>by have:=V.1.2 v hv;omega);rw[Je]at this;exact this
 have K:bM=1152921504606846976:=rfl;have W:IntKind.i64.wrap (1152921504606846976-mt)=1152921504606846976-mt:=gZ bn bn;have Fm:IntKind.i64.wrap (gS+WZ)=gS+WZ:=gZ bn bn;have hkb:CL n m = .mk 3 0 0 [] (bh n++bh m):=rfl;by_cases hX:bI=0/\YW>bM-mt
 ·obtain⟨hx1,Po⟩:=hX;have e3:=P1 hx1 Po;have c1:decide (YW>IntKind.i64.wrap (1152921504606846976-mt))=true:=aan (by rw[W];omega);subst hx1;subst e3;clear P1 P2 hok I J G Y M hB hC Q IA B g1 g2 W0 V BL WY NQ GW W Fm K Po;obtain⟨A,k2,k3,k4,k5⟩:=n;obtain⟨j1,j2,j3,j4,j5⟩:=m;refine qn Tryz.func6 Tryz.call6 fun β hf=>?_
  repeat' (first|refine qo ?_|(refine zc ?_ ?_<;>intro h<;>first|(cases h;done)|rw[h]|skip)|refine jl ?_ (hq:=h3) (hok:=by exact⟨_,_,rfl,rfl,rfl⟩)|refine jl ?_ (hq:=h4) (hok:=by exact⟨_,_,rfl,rfl,rfl⟩)|refine jl ?_ (hq:=Yf) (hok:=by exact⟨_,_,rfl,rfl,rfl⟩)|refine uC rfl h1 ?_|refine uC rfl h2 ?_|refine uC rfl h6 ?_|refine uC rfl h8 ?_|refine uC rfl H ?_|refine uC rfl h9 ?_|refine uC rfl u ?_|refine uC rfl hb ?_|refine uC rfl hc ?_|((first|refine zt ?_|refine zu ?_ ?_)<;>intro h<;>(fail_if_success (cases h;done))<;>rw[h]))
  all_goals exact Wk.refl _
 have fin:∀(_:(bif (bI==0)then decide (YW>IntKind.i64.wrap (1152921504606846976-mt))else false)=false),True:=fun _=>trivial;by_cases V0:dg=11/\0<mt
 ·obtain⟨hx1,Po⟩:=V0;have c2:decide (mt>0)=true:=aan Po;subst hx1;by_cases D:bI=0
  ·have c1:decide (YW>IntKind.i64.wrap (1152921504606846976-mt))=false:=aaw (by rw[W];intro h;exact hX ⟨D,bn⟩);subst D;clear fin P1 P2 hok I J G Y M hB hC Q IA B g1 g2 W0 V BL WY NQ GW W Fm K Po hX;obtain⟨A,k2,k3,k4,k5⟩:=n;obtain⟨j1,j2,j3,j4,j5⟩:=m;refine qn Tryz.func6 Tryz.call6 fun β hf=>?_
   repeat' (first|refine qo ?_|(refine zc ?_ ?_<;>intro h<;>first|(cases h;done)|rw[h]|skip)|refine jl ?_ (hq:=h3) (hok:=by exact⟨_,_,rfl,rfl,rfl⟩)|refine jl ?_ (hq:=h4) (hok:=by exact⟨_,_,rfl,rfl,rfl⟩)|refine jl ?_ (hq:=Yf) (hok:=by exact⟨_,_,rfl,rfl,rfl⟩)|refine uC rfl h1 ?_|refine uC rfl h2 ?_|refine uC rfl h6 ?_|refine uC rfl h8 ?_|refine uC rfl H ?_|refine uC rfl h9 ?_|refine uC rfl u ?_|refine uC rfl hb ?_|refine uC rfl hc ?_|((first|refine zt ?_|refine zu ?_ ?_)<;>intro h<;>(fail_if_success (cases h;done))<;>rw[h]))
   all_goals exact Wk.refl _
  ·have c1:(bI==0)=false:=by simpa using D
   clear fin P1 P2 hok I J G Y M hB hC Q IA B g1 g2 W0 V BL WY NQ GW W Fm K Po hX D;obtain⟨A,k2,k3,k4,k5⟩:=n;obtain⟨j1,j2,j3,j4,j5⟩:=m;refine qn Tryz.func6 Tryz.call6 fun β hf=>?_
   repeat' (first|refine qo ?_|(refine zc ?_ ?_<;>intro h<;>first|(cases h;done)|rw[h]|skip)|refine jl ?_ (hq:=h3) (hok:=by exact⟨_,_,rfl,rfl,rfl⟩)|refine jl ?_ (hq:=h4) (hok:=by exact⟨_,_,rfl,rfl,rfl⟩)|refine jl ?_ (hq:=Yf) (hok:=by exact⟨_,_,rfl,rfl,rfl⟩)|refine uC rfl h1 ?_|refine uC rfl h2 ?_|refine uC rfl h6 ?_|refine uC rfl h8 ?_|refine uC rfl H ?_|refine uC rfl h9 ?_|refine uC rfl u ?_|refine uC rfl hb ?_|refine uC rfl hc ?_|((first|refine zt ?_|refine zu ?_ ?_)<;>intro h<;>(fail_if_success (cases h;done))<;>rw[h]))
   all_goals exact Wk.refl _
 obtain⟨P3,P4,P5⟩:=P2.resolve_left V0;subst P3;subst P5;have hv4:=W0 rfl;have c9:(abE==IntKind.i64.wrap (gS+WZ))=true:=by rw[Fm,P4];exact beq_self_eq_true _
 have c5:(dg==dg)=true:=beq_self_eq_true _;by_cases D:dg=0
 ·have c1:decide (YW>IntKind.i64.wrap (1152921504606846976-mt))=false:=aaw (by rw[W];intro h;exact hX ⟨D,bn⟩);subst D;clear fin P1 P2 P4 hok I J G Y M hB hC Q IA B g1 g2 W0 V BL WY NQ GW W Fm K hX V0;obtain⟨A,k2,k3,k4,k5⟩:=n;obtain⟨j1,j2,j3,j4,j5⟩:=m;refine qn Tryz.func6 Tryz.call6 fun β hf=>?_
  repeat' (first|refine qo ?_|(refine zc ?_ ?_<;>intro h<;>first|(cases h;done)|rw[h]|skip)|refine jl ?_ (hq:=h3) (hok:=by exact⟨_,_,rfl,rfl,rfl⟩)|refine jl ?_ (hq:=h4) (hok:=by exact⟨_,_,rfl,rfl,rfl⟩)|refine jl ?_ (hq:=Yf) (hok:=by exact⟨_,_,rfl,rfl,rfl⟩)|refine uC rfl h1 ?_|refine uC rfl h2 ?_|refine uC rfl h6 ?_|refine uC rfl h8 ?_|refine uC rfl H ?_|refine uC rfl h9 ?_|refine uC rfl u ?_|refine uC rfl hb ?_|refine uC rfl hc ?_|refine uC rfl hv4 ?_|((first|refine zt ?_|refine zu ?_ ?_)<;>intro h<;>(fail_if_success (cases h;done))<;>rw[h]))
  all_goals first|exact Wk.refl _|(show Wk (.bool _) _;simp only[c9,cond_true];exact Wk.refl _)
 have c1:(dg==0)=false:=by simpa using D
 by_cases h12:dg=11
 ·subst h12;have c2:decide (mt>0)=false:=aaw fun h=>V0 ⟨rfl,h⟩;clear fin P1 P2 P4 hok I J G Y M hB hC Q IA B g1 g2 W0 V BL WY NQ GW W Fm K hX V0 D;obtain⟨A,k2,k3,k4,k5⟩:=n;obtain⟨j1,j2,j3,j4,j5⟩:=m;refine qn Tryz.func6 Tryz.call6 fun β hf=>?_
  repeat' (first|refine qo ?_|(refine zc ?_ ?_<;>intro h<;>first|(cases h;done)|rw[h]|skip)|refine jl ?_ (hq:=h3) (hok:=by exact⟨_,_,rfl,rfl,rfl⟩)|refine jl ?_ (hq:=h4) (hok:=by exact⟨_,_,rfl,rfl,rfl⟩)|refine jl ?_ (hq:=Yf) (hok:=by exact⟨_,_,rfl,rfl,rfl⟩)|refine uC rfl h1 ?_|refine uC rfl h2 ?_|refine uC rfl h6 ?_|refine uC rfl h8 ?_|refine uC rfl H ?_|refine uC rfl h9 ?_|refine uC rfl u ?_|refine uC rfl hb ?_|refine uC rfl hc ?_|refine uC rfl hv4 ?_|((first|refine zt ?_|refine zu ?_ ?_)<;>intro h<;>(fail_if_success (cases h;done))<;>rw[h]))
  all_goals first|exact Wk.refl _|(show Wk (.bool _) _;simp only[c9,cond_true];exact Wk.refl _)
 ·have c2:(dg==11)=false:=by simpa using h12
  clear fin P1 P2 P4 hok I J G Y M hB hC Q IA B g1 g2 W0 V BL WY NQ GW W Fm K hX V0 D h12;obtain⟨A,k2,k3,k4,k5⟩:=n;obtain⟨j1,j2,j3,j4,j5⟩:=m;refine qn Tryz.func6 Tryz.call6 fun β hf=>?_
  repeat' (first|refine qo ?_|(refine zc ?_ ?_<;>intro h<;>first|(cases h;done)|rw[h]|skip)|refine jl ?_ (hq:=h3) (hok:=by exact⟨_,_,rfl,rfl,rfl⟩)|refine jl ?_ (hq:=h4) (hok:=by exact⟨_,_,rfl,rfl,rfl⟩)|refine jl ?_ (hq:=Yf) (hok:=by exact⟨_,_,rfl,rfl,rfl⟩)|refine uC rfl h1 ?_|refine uC rfl h2 ?_|refine uC rfl h6 ?_|refine uC rfl h8 ?_|refine uC rfl H ?_|refine uC rfl h9 ?_|refine uC rfl u ?_|refine uC rfl hb ?_|refine uC rfl hc ?_|refine uC rfl hv4 ?_|((first|refine zt ?_|refine zu ?_ ?_)<;>intro h<;>(fail_if_success (cases h;done))<;>rw[h]))
  all_goals first|exact Wk.refl _|(show Wk (.bool _) _;simp only[c9,cond_true];exact Wk.refl _)
theorem CN (a b c d:Int) (n:Nd) (_:RK n) (O:bN n<=2000000000) (m:Nd) (_:RK m) (u:bN m<=2000000000) (s:List Ty) (_:Ft s) (Y:br s<=8589934593) (l:List Vl) (_:Jj l) (C:aL l<=25000000) (g:Int) (Q : -9223372036854775808<=g/\g<=9223372036854775807) :
  ah 6 [.agg [.int .i64 a,.int .i64 b,.int .i64 c,.int .i64 d],aW n,aW m,.sl 2 (aE s),.sl 7 (aa l),.int .i64 g] (.bool true):=EF a b c d n m O u s Y l C g Q.1 Q.2
end Go.Proofs
namespace Go.Proofs
open Go.cu Go.ChangeShapes Go.WideShapes Go.ChangeAt Go.RowKit
theorem uy {H:Type}:∀(l:List (DataW H)),(l.map YtlohbilpimjmmaaGreatDoor.Rows.uptoBulk).sum=YtlohbilpimjmmaaGreatDoor.Rows.uptoBulkAll l
 | []=>rfl
 | d::l=>by simp only[List.map_cons,List.sum_cons,YtlohbilpimjmmaaGreatDoor.Rows.uptoBulkAll,uy l]
theorem jQ {H:Type}:xw (H:=H) YtlohbilpimjmmaaGreatDoor.Rows.uptoBulk where
 lit:=fun l=>by cases l<;>simp[YtlohbilpimjmmaaGreatDoor.Rows.uptoBulk]
 str:=fun s=>by simp[YtlohbilpimjmmaaGreatDoor.Rows.uptoBulk]
 nil:=by simp[YtlohbilpimjmmaaGreatDoor.Rows.uptoBulk]
 slice:=fun l r=>by rw[uy];simp only[YtlohbilpimjmmaaGreatDoor.Rows.uptoBulk];omega
 agg:=fun l=>by rw[uy];simp only[YtlohbilpimjmmaaGreatDoor.Rows.uptoBulk];omega
def YX:CV->Nat->Prop:=fun c m=>∃t:Ty,c=eC t/\YY t/\bC t<=m
def YZ:CV->Nat->Prop:=fun c m=>∃t:Nd,c=aW t/\RK t/\bN t<=m
def RVl:CV->Nat->Prop:=fun c m=>∃t:Vl,c=bP t/\Y0 t/\aM t<=m
theorem yC:∀{rows:List CV} {m:Nat},uz YX rows m->∃l:List Ty,rows=aE l/\Ft l/\br l<=m
 | [],m,_=>⟨[],rfl,trivial,by simp[br]⟩
 | r::rows,m,⟨k,m',⟨t,h1,h2,V⟩,h4,h5⟩=>by
  obtain⟨l,A,E,B⟩:=yC h4;exact⟨t::l,by rw[h1,A];rfl,⟨h2,E⟩,by simp only[br];omega⟩
theorem CO:∀{rows:List CV} {m:Nat},uz YZ rows m->∃l:List Nd,rows=aH l/\NW l/\aQ l<=m
 | [],m,_=>⟨[],rfl,trivial,by simp[aQ]⟩
 | r::rows,m,⟨k,m',⟨t,h1,h2,V⟩,h4,h5⟩=>by
  obtain⟨l,A,E,B⟩:=CO h4;exact⟨t::l,by rw[h1,A];rfl,⟨h2,E⟩,by simp only[aQ];omega⟩
theorem CP:∀{rows:List CV} {m:Nat},uz RVl rows m->∃l:List Vl,rows=aa l/\Jj l/\aL l<=m
 | [],m,_=>⟨[],rfl,trivial,by simp[aL]⟩
 | r::rows,m,⟨k,m',⟨t,h1,h2,V⟩,h4,h5⟩=>by
  obtain⟨l,A,E,B⟩:=CP h4;exact⟨t::l,by rw[h1,A];rfl,⟨h2,E⟩,by simp only[aL];omega⟩
abbrev CQ:CV->Nat->Prop:=fun c k=>∃z,c = .int .i64 z/\(Lit.int .i64 z).wf=true/\1<=k
abbrev Y1:CV->Nat->Prop:=fun c k=>∃s,c = .str s/\s.length+1<=k
abbrev V1 (s:Nat) (R:CV->Nat->Prop):CV->Nat->Prop:=fun c k=>∃rows,c = .sl s rows/\∃u,uz R rows u/\u+1<=k
theorem fI:Tryz.prog.cellsOf 3=1:=by kernel_rfl
theorem oX:Tryz.prog.cellsOf 9=1:=by kernel_rfl
theorem zW:Tryz.prog.cellsOf 27=1:=by kernel_rfl
theorem Fu:Tryz.prog.cellsOf 24=1:=by kernel_rfl
theorem zX:Tryz.prog.cellsOf 28=1:=by kernel_rfl
theorem yD:Tryz.prog.cellsOf 54=2:=by kernel_rfl
theorem CS:Tryz.prog.cellsOf 26=5:=by kernel_rfl
theorem CT:Tryz.prog.cellsOf 36=7:=by kernel_rfl
section
variable {H : Type} {enc : TypeId × Value -> H} {W : World}
theorem LM {m e t s:Nat} {R:CV->Nat->Prop} (A:Tryz.prog.underlying t=some (.slice e)) (Y:Tryz.prog.cellsOf e=s) (B:0<s) (h:∀k,k<m->RD enc Tryz.prog W YtlohbilpimjmmaaGreatDoor.Rows.uptoBulk k e R) :
  RD (H:=H) enc Tryz.prog W YtlohbilpimjmmaaGreatDoor.Rows.uptoBulk m t (V1 s R):=by
 cases m with
 | zero=>exact RD.zero
 | succ k=>exact RD.slice jQ A Y B (h k bn)
theorem W2:∀(n m:Nat),m<=n->RD (H:=H) enc Tryz.prog W YtlohbilpimjmmaaGreatDoor.Rows.uptoBulk m 54 YX
 | 0,m,hm=>by(obtain rfl:m=0:=by omega);exact RD.zero
 | n+1,0,_=>RD.zero
 | n+1,m+1,hm=>by
  refine RD.mono (RD.struct jQ Tryz.underlying54 rfl (Rs:=[CQ,V1 2 YX]) (fun k D=>?_) ?_) (aam _) ?_
  ·exact⟨_,_,rfl,rfl,RD.int jQ Tryz.underlying3,_,_,rfl,Vj,LM Tryz.underlying27 yD cc (fun q hq=>W2 n q bn),rfl⟩
  ·simp only[List.map,kS,fI,zW,yD]
  ·rintro c k ⟨l,rfl,u,Y,Q⟩;obtain⟨T,S,P,O,rfl,⟨z,rfl,V,_⟩,⟨c2,k2,l2,m2,rfl,⟨rows,rfl,N,I,M⟩,rfl,h4⟩,h5⟩:=Y;obtain⟨U,rfl,E,B⟩:=yC I;exact⟨.mk z U,rfl,⟨bounds_i64 V,E⟩,by simp only[bC];omega⟩
theorem W3:∀(n m:Nat),m<=n->RD (H:=H) enc Tryz.prog W YtlohbilpimjmmaaGreatDoor.Rows.uptoBulk m 26 YZ
 | 0,m,hm=>by(obtain rfl:m=0:=by omega);exact RD.zero
 | n+1,0,_=>RD.zero
 | n+1,m+1,hm=>by
  refine RD.mono (RD.struct jQ Tryz.underlying26 rfl (Rs:=[CQ,CQ,CQ,Y1,V1 5 YZ]) (fun k D=>?_) ?_) (aam _) ?_
  ·exact⟨_,_,rfl,rfl,RD.int jQ Tryz.underlying3,_,_,rfl,Vj,RD.int jQ Tryz.underlying3,_,_,rfl,Vj,RD.int jQ Tryz.underlying3,
    _,_,rfl,Vj,RD.str jQ Tryz.underlying9,_,_,rfl,by rw[fI,oX],LM Tryz.underlying24 CS cc (fun q hq=>W3 n q bn),rfl⟩
  ·simp only[List.map,kS,fI,oX,Fu,CS]
  ·rintro c k ⟨l,rfl,u,Y,Q⟩;obtain⟨O,N,M,K,rfl,⟨z,rfl,V,_⟩,⟨c2,k2,l2,m2,rfl,⟨C,rfl,U,_⟩,⟨c3,k3,l3,m3,rfl,⟨T,rfl,S,_⟩,⟨c4,k4,l4,m4,rfl,⟨s,rfl,J⟩,⟨c5,k5,l5,m5,rfl,⟨rows,rfl,G,I,B⟩,rfl,h7⟩,h8⟩,h9⟩,h10⟩,V0⟩:=Y;obtain⟨P,rfl,E,A⟩:=CO I;exact⟨.mk z C T s P,rfl,⟨bounds_i64 V,bounds_i64 U,bounds_i64 S,E⟩,by simp only[bN];omega⟩
theorem Y2:∀(n m:Nat),m<=n->RD (H:=H) enc Tryz.prog W YtlohbilpimjmmaaGreatDoor.Rows.uptoBulk m 36 RVl
 | 0,m,hm=>by(obtain rfl:m=0:=by omega);exact RD.zero
 | n+1,0,_=>RD.zero
 | n+1,m+1,hm=>by
  refine RD.mono (RD.struct jQ Tryz.underlying36 rfl (Rs:=[CQ,CQ,CQ,Y1,V1 7 RVl,V1 2 YX,V1 5 YZ]) (fun k u=>?_) ?_) (aam _) ?_
  ·exact⟨_,_,rfl,rfl,RD.int jQ Tryz.underlying3,_,_,rfl,Vj,RD.int jQ Tryz.underlying3,_,_,rfl,Vj,RD.int jQ Tryz.underlying3,
    _,_,rfl,Vj,RD.str jQ Tryz.underlying9,_,_,rfl,by rw[fI,oX],LM Tryz.underlying28 CT cc (fun q hq=>Y2 n q bn),
    _,_,rfl,by rw[fI,oX,zX],LM Tryz.underlying27 yD cc (fun q hq=>W2 q q (aam _)),
    _,_,rfl,by rw[fI,oX,zX,zW],LM Tryz.underlying24 CS cc (fun q hq=>W3 q q (aam _)),rfl⟩
  ·simp only[List.map,kS,fI,oX,zX,zW,Fu,CT]
  ·rintro c k ⟨l,rfl,p,T,Q⟩
   obtain⟨c1,k1,l1,m1,rfl,⟨z,rfl,S,_⟩,⟨c2,k2,l2,m2,rfl,⟨C,rfl,P,_⟩,⟨c3,k3,l3,m3,rfl,⟨O,rfl,N,_⟩,⟨c4,k4,l4,m4,rfl,⟨s,rfl,hs⟩,⟨c5,k5,l5,m5,rfl,⟨rows,rfl,m6,I,h6⟩,
    ⟨c6,k6,l6,m7,rfl,⟨M,rfl,m8,K,g6⟩,⟨c7,k7,l7,m9,rfl,⟨J,rfl,G,Y,g7⟩,rfl,g8⟩,g9⟩,h7⟩,h8⟩,h9⟩,h10⟩,V0⟩:=T
   obtain⟨E,rfl,D,e3⟩:=CP I;obtain⟨V,rfl,B,f3⟩:=yC K;obtain⟨U,rfl,A,q3⟩:=CO Y;exact⟨.mk z C O s E V U,rfl,⟨bounds_i64 S,bounds_i64 P,bounds_i64 N,D,B,A⟩,by simp only[aM];omega⟩
set_option maxRecDepth 100000 in
theorem RL {v:Value} {d:DataW H} {ps:List MemPlace} {b0:Nat} {r:Reach} (hok:Value.okWide Tryz.prog W r b0 26 v) (hd:DataW.Trod enc Tryz.prog W 0 (fun _=>true) true 26 v d ps) :
  ∃a:Nd,Rel (mE W) (aW a) v/\RK a/\bN a<=YtlohbilpimjmmaaGreatDoor.Rows.uptoBulk d:=by
 obtain⟨c,h1,h⟩:=tL (R:=YZ) Tryz.underlying26 (fun n=>W3 n n (aam _)) hd hok (fun c k h=>by obtain⟨t,h,_⟩:=h;cases t;exact⟨_,h⟩);obtain⟨a,rfl,h2,h3⟩:=h;exact⟨a,h1,h2,h3⟩
end
end Go.Proofs
namespace Go.Proofs
open Go.cu Go.ChangeShapes Go.WideShapes Go.ChangeAt Go.RowKit
section
variable {H : Type} {enc : TypeId × Value -> H} {W : World}
set_option maxRecDepth 100000 in
theorem UF {v:Value} {d:DataW H} {ps:List MemPlace} {b0:Nat} {r:Reach} (hok:Value.okWide Tryz.prog W r b0 27 v) (hd:DataW.Trod enc Tryz.prog W 0 (fun _=>true) true 27 v d ps) :
  ∃a:List Ty,Rel (mE W) (.sl 2 (aE a)) v/\Ft a/\br a<=YtlohbilpimjmmaaGreatDoor.Rows.uptoBulk d:=by
 obtain⟨c,h1,h⟩:=qB (R:=V1 2 YX) Tryz.underlying27 (fun n=>LM Tryz.underlying27 yD cc (fun k _=>W2 k k (aam _))) hd hok (fun c k h=>by obtain⟨rows,h,_⟩:=h;exact⟨_,_,h⟩);obtain⟨rows,rfl,m',hr,hle⟩:=h;obtain⟨l,rfl,h2,h3⟩:=yC hr;exact⟨l,h1,h2,bn⟩
end
end Go.Proofs
namespace Go.Proofs
open Go.cu Go.ChangeShapes Go.WideShapes Go.ChangeAt Go.RowKit
theorem Px:Tryz.prog.cellsOf 23=4:=by kernel_rfl
def Y3:CV->Nat->Prop:=fun c m=>∃x y z t:Int,c = .agg [.int .i64 x,.int .i64 y,.int .i64 z,.int .i64 t]/\1<=m
section
variable {H : Type} {enc : TypeId × Value -> H} {W : World}
set_option maxRecDepth 100000 in
theorem UG {v:Value} {d:DataW H} {ps:List MemPlace} {b0:Nat} {r:Reach} (hok:Value.okWide Tryz.prog W r b0 28 v) (hd:DataW.Trod enc Tryz.prog W 0 (fun _=>true) true 28 v d ps) :
  ∃a:List Vl,Rel (mE W) (.sl 7 (aa a)) v/\Jj a/\aL a<=YtlohbilpimjmmaaGreatDoor.Rows.uptoBulk d:=by
 obtain⟨c,h1,h⟩:=qB (R:=V1 7 RVl) Tryz.underlying28 (fun n=>LM Tryz.underlying28 CT cc (fun k _=>Y2 k k (aam _))) hd hok (fun c k h=>by obtain⟨rows,h,_⟩:=h;exact⟨_,_,h⟩);obtain⟨rows,rfl,m',hr,hle⟩:=h;obtain⟨l,rfl,h2,h3⟩:=CP hr;exact⟨l,h1,h2,bn⟩
theorem Y4:∀(m:Nat),RD (H:=H) enc Tryz.prog W YtlohbilpimjmmaaGreatDoor.Rows.uptoBulk m 23 Y3
 | 0=>RD.zero
 | m+1=>by
  refine RD.mono (RD.struct jQ Tryz.underlying23 rfl (Rs:=[CQ,CQ,CQ,CQ]) (fun k D=>?_) ?_) (aam _) ?_
  ·exact⟨_,_,rfl,rfl,RD.int jQ Tryz.underlying3,_,_,rfl,Vj,RD.int jQ Tryz.underlying3,_,_,rfl,Vj,RD.int jQ Tryz.underlying3,_,_,rfl,Vj,RD.int jQ Tryz.underlying3,rfl⟩
  ·simp only[List.map,kS,fI,Px]
  ·rintro c k ⟨l,rfl,u,Y,Q⟩;obtain⟨S,P,E,O,rfl,⟨z,rfl,N,_⟩,⟨c2,k2,l2,m2,rfl,⟨C,rfl,M,_⟩,⟨c3,k3,l3,m3,rfl,⟨V,rfl,K,_⟩,⟨c4,k4,l4,m4,rfl,⟨U,rfl,T,_⟩,rfl,h7⟩,h8⟩,h9⟩,h10⟩:=Y;exact⟨z,C,V,U,rfl,bn⟩
set_option maxRecDepth 100000 in
theorem UH {v:Value} {d:DataW H} {ps:List MemPlace} {b0:Nat} {r:Reach} (hok:Value.okWide Tryz.prog W r b0 23 v) (hd:DataW.Trod enc Tryz.prog W 0 (fun _=>true) true 23 v d ps) :
  ∃x y z t:Int,Rel (mE W) (.agg [.int .i64 x,.int .i64 y,.int .i64 z,.int .i64 t]) v:=by
 obtain⟨c,h1,h⟩:=tL (R:=Y3) Tryz.underlying23 (fun n=>Y4 n) hd hok (fun c k h=>by obtain⟨x,y,z,t,h,_⟩:=h;exact⟨_,h⟩);obtain⟨x,y,z,t,rfl,_⟩:=h;exact⟨x,y,z,t,h1⟩
end
end Go.Proofs
namespace Go.cu
open Go.ChangeShapes Go.WideShapes Go.RowKit
theorem CU {P:Program} {w:World} {r:Reach} {base:Nat} {t:TypeId} {v:Value} (h:Cell.ok P w r base t v):(∀vs,v ≠ .agg vs)/\∀vs,v ≠ .tuple vs:=by
 constructor
 ·rintro vs rfl;unfold Cell.ok at h;split at h<;>simp_all
 ·rintro vs rfl;unfold Cell.ok at h;split at h<;>simp_all
theorem RM {P:Program} {w:World} (Y:w.ShapedOpen P) {g:Nat} {zero:Array Value} {t:TypeId} (Q:Nat.blt g P.globals.size=true)
  (B:((begin P (fun _ _=>0) default).world.heap[g]?).bind Obj.row?=some (zero,t)) (p:P.buildable t=true) (W:zero.size=2) :
  Rel (mE w) (.ip [.any,.any]) (.pointer (some ⟨g,0,none⟩)):=by
 obtain⟨cs,h1,h2,V⟩:=Y.1 g zero t (Nat.blt_eq.mp Q) B;obtain⟨ts,_,_,D⟩:=V p;rw[W]at h2;have I:cs[0]?=some cs[0]:=by simp[h2]
 have U:cs[1]?=some cs[1]:=by simp[h2]
 obtain⟨_,_,T⟩:=D 0 _ I;obtain⟨_,_,S⟩:=D 1 _ U;simp only[Rel];refine⟨g,0,rfl,?_⟩;simp only[cO];refine⟨⟨cs[0],?_,?_,rfl⟩,⟨cs[1],?_,?_,rfl⟩,trivial⟩
 ·simp[mE,World.cell?,h1]
 ·simp only[Rel];exact CU T
 ·simp[mE,World.cell?,h1]
 ·simp only[Rel];exact CU S
section
variable {H : Type} {enc : TypeId × Value -> H} {P : Program} {W : World}
theorem EG {a:Assume} {C:Checked} {u:Os} {f:FuncId} {O:Func} {s:OpenSpec} {k:(H:Type)->List (DataW H)->Bool} (hk:s.cond=some k) {F:Stop.Interp} {V:List PathCond} {Y S U again:Bool}
  (own:ownKnob C.prog.godebug=none) (Q:u.Started) (N:C.prog.inits.idxOf? f=none) (E:C.prog.funcs[f]?=some O)
  (P:∃(w:World) (K:Tape) (i:Input),w.os=u/\(w.forCall K i).Shaped C.prog/\i.vars=[]/\Input.okWide C.prog (w.forCall K i) .any w.heap.size f i /\
   s.pre6 enc C.prog O V Y (w.forCall K i).memory i.args/\a.holds C.prog (lone (Frame.enter C.prog f i.args .normal) [] (w.forCall K i)))
  (T:∀(W:World) (q:W.ShapedOpen C.prog) (base:Nat) (args:Array Value) (M J:List (DataW H)) (before:List MemPlace),
   (∀(j:Nat) t v,O.params[j]?=some t->args[j]?=some v->Value.okWide C.prog W .any base t v) ->
   DataW.Whole enc C.prog O.params.toList s.vars Y W args.toList M J before ->
   V.all (PathCond.test C.prog ⟨O.params.toList,M,s.bare.plain.varTypes C.prog,J⟩)=true->k H (M++J)=true ->
   a.holds C.prog (lone (Frame.enter C.prog f args .normal) [] W) ->
   Calls C.prog f args W fun e p=>∃v,e = .returned v/\(s.at F).post enc C.prog O Y S U again W args v p) :
  ReturnsInHanded a C u f .any (s.pre6 enc C.prog O V Y) ((s.at F).post enc C.prog O Y S U again):=by
 refine returnsInHanded_of_calls own Q N P ?_;intro w K i _ q _ hok I W4;obtain⟨_,_,_,D,B,_,_,_,_,G⟩:=hok;obtain rfl:D=O:=Option.some.inj (B.symm.trans E);obtain⟨M,J,before,hw,hc,A⟩:=(OpenSpec.pre_some hk V Y _ _).1 I.1;refine(T (w.forCall K i) q w.heap.size i.args M J before G (DataW.Whole.of_heap (w':=w.forCall K i) (by rfl) hw) hc A W4).mono fun e p ⟨v,he,hp⟩=>?_;subst he;exact ChangeSpec.post_blind hp
theorem Py {X:Ctx} {f:FuncId} {S:Func} {s:ChangeSpec} {Y U V again:Bool} {args:Array Value} {Q N:List (DataW H)} {before:List MemPlace} {cs:List CV}
  (hq:bw P X f cs (.bool true)) (D:bO (mE W) cs args.toList) (J:nw X (mE W))
  (I:DataW.Whole enc P S.params.toList s.vars Y W args.toList Q N before) (T:s.vars=[])
  (C:laidOutB P=true) (G:mapsRowed P=true) (E:∀t e,t<P.types.size->P.underlying t=some (.slice e)->0<P.cellsOf e) (B:(S.params.toList.all fun t=>Nat.blt t P.types.size)=true)
  {M:TypeId} (q:S.resultTypes = #[M]) (p:P.underlying M=some .bool) (O:s.fn H (Q++N)={results:=[.lit (.bool true)],args:=Q}) :
  Calls P f args W fun e K=>∃v,e = .returned v/\s.post enc P S Y U V again W args v K:=by
 have h:=hq.2 (mE W) W args.toList (W5 W) J D;rw[show args.toList.toArray=args from by simp]at h;refine h.mono ?_;rintro e K ⟨u,G',rfl,A,hg⟩;simp only[Rel]at A;subst A;exact⟨_,rfl,LO I T C G E (fun t ht=>by have:=List.all_eq_true.1 B t ht;simpa[Nat.blt_eq]using this) hg q p rfl O⟩
end
end Go.cu
namespace Go.Proofs
open Go.cu
theorem Tryz.W6 {W:World} (Y:W.ShapedOpen Tryz.prog):nw Tryz.X (mE W):=fun n v T=>by
 have h1:ak n [(0,.ip [.any,.any])]=some v:=T;simp only[ak]at h1;cases O:Nat.beq 0 n with
 | false=>rw[O]at h1;cases h1
 | true =>
  rw[O]at h1;obtain rfl:=Nat.eq_of_beq_eq_true O;cases h1;exact RM Y (zero := #[.slice none 0 0,.bool false]) (t:=30) (by kernel_rfl) (by kernel_rfl) (by kernel_rfl) rfl
end Go.Proofs
