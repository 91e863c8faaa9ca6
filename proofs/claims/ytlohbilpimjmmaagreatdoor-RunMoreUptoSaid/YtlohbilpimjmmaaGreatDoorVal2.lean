/- What Same, plain, address and compare of package value answer. -/
import Derived.Test.YtlohbilpimjmmaaGreatDoorVal1
import Derived.Test.YtlohbilpimjmmaaGreatDoorKind5
set_option maxHeartbeats 0
set_option linter.unusedVariables false
set_option linter.unusedSimpArgs false
set_option maxRecDepth 100000
namespace Go.Proofs
open Go.cq
theorem Lr {k n a:Int} {s:List UInt8} {args:List Vl} {B:List Ty} {H:List Nd} {t:Ty} (h:bK (.mk k n a s args B H) t=true) (G:gm t=false) :
  k=bR t/\(k=9->args.length<=1/\∀x∈args,bK x (aE t 0)=true/\gm (aE t 0)=false)/\(k=11->args.length=2/\cW args (aA t)=true/\(aA t).length=2/\mD (aA t)=false) /\
   (k=12->0<=n/\n<=1/\args.length=1/\∀x∈args,bK x (aE t n.toNat)=true/\gm (aE t n.toNat)=false):=by
 obtain⟨h1,h2,V⟩:=oZ h;have Y:¬(k≠bR t\/cw (.mk k n a s args B H)=false\/200<s.length):=by
  rintro(h|h|h)
  ·exact h h1
  ·rw[h2]at h;simp at h
  ·omega
 simp only[bK,if_neg Y]at h;obtain⟨W,D⟩:=iH G;rw[<- h1]at W;refine⟨h1,?_,?_,?_⟩
 ·rintro rfl;simp at h;have A:(aA t).length=1:=by(have:arity 9=1:=by decide);omega
  refine⟨h.1.2,fun x O=>⟨(eY _ _).1 h.2 x O,dr D (kS bn)⟩⟩
 ·rintro rfl;simp at h;have A:(aA t).length=2:=by(have:arity 11=2:=by decide);omega
  exact⟨h.1.2,h.2,A,D⟩
 ·rintro rfl;simp at h;have A:(aA t).length=2:=by(have:arity 12=2:=by decide);omega
  refine⟨h.1.1,h.1.2.1,h.1.2.2,fun x O=>⟨(eY _ _).1 h.2 x O,dr D (kS bn)⟩⟩
theorem adp (n a:Int) (s:List UInt8) (args:List Vl) (B:List Ty) (H:List Nd) (k' U q:Int) (V:List UInt8) (P:List Vl) (Y:List Ty) (W:List Nd):dx (.mk 6 n a s args B H) (.mk k' U q V P Y W)=eA s V:=rfl
theorem adq (n a:Int) (s:List UInt8) (args:List Vl) (B:List Ty) (H:List Nd) (k' V q:Int) (U:List UInt8) (P:List Vl) (Y:List Ty) (W:List Nd):dx (.mk 9 n a s args B H) (.mk k' V q U P Y W)=if ud args.length P.length=0 then iY args P else ud args.length P.length:=rfl
theorem aay (n a:Int) (s:List UInt8) (args:List Vl) (B:List Ty) (H:List Nd) (k' V q:Int) (U:List UInt8) (P:List Vl) (Y:List Ty) (W:List Nd):dx (.mk 11 n a s args B H) (.mk k' V q U P Y W)=iY args P:=rfl
theorem aaz (n a:Int) (s:List UInt8) (args:List Vl) (B:List Ty) (H:List Nd) (k' V q:Int) (U:List UInt8) (P:List Vl) (Y:List Ty) (W:List Nd):dx (.mk 12 n a s args B H) (.mk k' V q U P Y W)=if ud n V=0 then iY args P else ud n V:=rfl
theorem adr {k:Int} (h1:k≠6) (h2:k≠9) (U:k≠11) (T:k≠12) (n a:Int) (s:List UInt8) (args:List Vl) (B:List Ty) (H:List Nd) (k' V q:Int) (S:List UInt8) (P:List Vl) (Y:List Ty) (W:List Nd):dx (.mk k n a s args B H) (.mk k' V q S P Y W)=ud n V:=by
 simp only[dx,if_neg h1,if_neg h2,if_neg U,if_neg T]
theorem GI (x:Vl) (l:List Vl) (y:Vl) (r:List Vl):iY (x::l) (y::r)=if dx x y=0 then iY l r else dx x y:=rfl
theorem Ls (r:List Vl):iY [] r=0:=by cases r<;>rfl
attribute [local irreducible] AK ai bh bt dx iY bK aR cW oO gN cP gI oF jS ud eA cw
theorem uL:∀(v w:Vl),aM v<=1099511627776->ag 15 [bM v,bM w] (.bool (oO v w))
 | .mk k n a s args B H,.mk k' U q T P Y W,S=>by
  simp only[aM]at S;have N:=gM args;have M:=gn B;have Q:=fP H;have h1:=EA args P oO 15 [] (fun x O y _=>uL x y Sv) bn;have h2:=pI B Y cP 29 [] (fun x O y _=>gF x y (by have:=cz O;omega)) bn;have V:=uq H W oF 31 [] (fun x O y _=>ue x y SB) bn;rw[Lq]at h1;rw[yy]at h2;rw[Cx]at V;have u:oO (.mk k n a s args B H) (.mk k' U q T P Y W)=(k==k'&&n==U&&a==q&&s==T&&gN args P&&gI B Y&&jS H W):=by simp only[oO]
  rw[u];generalize gN args P=b1 at h1;generalize gI B Y=b2 at h2;generalize jS H W=b3 at V;clear u;refine qn Tryz.func15 Tryz.call15 fun β hf=>?_
  repeat' (first|refine nP ?_|refine uC rfl h1 ?_|refine uC rfl h2 ?_|refine uC rfl V ?_|((first|refine GK ?_|refine zu ?_ ?_)<;>intro h<;>(fail_if_success (cases h;done))<;>rw[h]))
  all_goals
   show(_:CV)=_;clear hf h1 h2 V;simp_all
termination_by t=>SizeOf.sizeOf t
decreasing_by
 have:=List.sizeOf_lt_of_mem O;simp at this ⊢;omega
theorem rJ (n:Int):ag 74 [.int .i64 n] (.bool (decide (0<=n)&&decide (n<12))):=by
 refine qn Tryz.func74 Tryz.call74 fun β hf=>?_
 repeat' (first|refine nP ?_|((first|refine GK ?_|refine zu ?_ ?_)<;>intro h<;>(fail_if_success (cases h;done))<;>rw[h]))
 all_goals
  show(_:CV)=_;clear hf;simp_all
theorem Lt (k n a:Int) (s:List UInt8) (args:List Vl) (B:List Ty) (H:List Nd):cw (.mk k n a s args B H)=(if k=15 then decide (B.length=0/\H.length=0/\s=[])
  else if k=8 then decide (B.length=1/\H.length=0/\s=[])
  else if k=14 then decide (B.length=2/\a=0/\n=0/\s=[]/\args.length=0)
  else if k=6 then decide (B.length=0/\H.length=0/\a=0/\n=0/\args.length=0)
  else decide (B.length=0/\H.length=0/\a=0/\s=[])):=by simp only[cw]
theorem Lu (v:Vl):ag 72 [bM v] (.bool (cw v)):=by
 obtain⟨k,n,a,s,args,B,H⟩:=v;rw[Lt];by_cases q:k=15
 ·subst q;refine qn Tryz.func72 Tryz.call72 fun β hf=>?_
  repeat' (first|refine nP ?_|(refine zc ?_ ?_<;>intro h<;>first|(cases h;done)|rw[h]|skip)|((first|refine GK ?_|refine zu ?_ ?_)<;>intro h<;>(fail_if_success (cases h;done))<;>rw[h]))
  all_goals
   show(_:CV)=_;clear hf;simp only[aQ,br,az,cond_true,cond_false]at *;rcases B with _|⟨_,_|⟨_,_|⟨_,_⟩⟩⟩<;>simp_all<;>(try omega)<;>rcases s with _|⟨_,_⟩<;>rcases args with _|⟨_,_⟩<;>rcases H with _|⟨_,_⟩<;>simp_all<;>omega
 have C:(k==15)=false:=by simpa using q
 by_cases J:k=8
 ·subst J;refine qn Tryz.func72 Tryz.call72 fun β hf=>?_
  repeat' (first|refine nP ?_|(refine zc ?_ ?_<;>intro h<;>first|(cases h;done)|rw[h]|skip)|((first|refine GK ?_|refine zu ?_ ?_)<;>intro h<;>(fail_if_success (cases h;done))<;>rw[h]))
  all_goals
   show(_:CV)=_;clear hf;simp only[aQ,br,az,cond_true,cond_false]at *;rcases B with _|⟨_,_|⟨_,_|⟨_,_⟩⟩⟩<;>simp_all<;>(try omega)<;>rcases s with _|⟨_,_⟩<;>rcases args with _|⟨_,_⟩<;>rcases H with _|⟨_,_⟩<;>simp_all<;>omega
 have U:(k==8)=false:=by simpa using J
 by_cases Y:k=14
 ·subst Y;refine qn Tryz.func72 Tryz.call72 fun β hf=>?_
  repeat' (first|refine nP ?_|(refine zc ?_ ?_<;>intro h<;>first|(cases h;done)|rw[h]|skip)|((first|refine GK ?_|refine zu ?_ ?_)<;>intro h<;>(fail_if_success (cases h;done))<;>rw[h]))
  all_goals
   show(_:CV)=_;clear hf;simp only[aQ,br,az,cond_true,cond_false]at *;rcases B with _|⟨_,_|⟨_,_|⟨_,_⟩⟩⟩<;>simp_all<;>(try omega)<;>rcases s with _|⟨_,_⟩<;>rcases args with _|⟨_,_⟩<;>rcases H with _|⟨_,_⟩<;>simp_all<;>omega
 have V:(k==14)=false:=by simpa using Y
 by_cases c4:k=6
 ·subst c4;refine qn Tryz.func72 Tryz.call72 fun β hf=>?_
  repeat' (first|refine nP ?_|(refine zc ?_ ?_<;>intro h<;>first|(cases h;done)|rw[h]|skip)|((first|refine GK ?_|refine zu ?_ ?_)<;>intro h<;>(fail_if_success (cases h;done))<;>rw[h]))
  all_goals
   show(_:CV)=_;clear hf;simp only[aQ,br,az,cond_true,cond_false]at *;rcases B with _|⟨_,_|⟨_,_|⟨_,_⟩⟩⟩<;>simp_all<;>(try omega)<;>rcases s with _|⟨_,_⟩<;>rcases args with _|⟨_,_⟩<;>rcases H with _|⟨_,_⟩<;>simp_all<;>omega
 have K:(k==6)=false:=by simpa using c4
 refine qn Tryz.func72 Tryz.call72 fun β hf=>?_
 repeat' (first|refine nP ?_|(refine zc ?_ ?_<;>intro h<;>first|(cases h;done)|rw[h]|skip)|((first|refine GK ?_|refine zu ?_ ?_)<;>intro h<;>(fail_if_success (cases h;done))<;>rw[h]))
 all_goals
  show(_:CV)=_;clear hf;simp only[aQ,br,az,cond_true,cond_false]at *;rcases B with _|⟨_,_|⟨_,_|⟨_,_⟩⟩⟩<;>simp_all<;>(try omega)<;>rcases s with _|⟨_,_⟩<;>rcases args with _|⟨_,_⟩<;>rcases H with _|⟨_,_⟩<;>simp_all<;>omega
theorem NX {l:List Vl} (h:l.length=1):∃x,l=[x]:=by
 match l,h with
 | [x],_=>exact⟨x,rfl⟩
theorem V3 {l:List Vl} (h:l.length=2):∃x y,l=[x,y]:=by
 match l,h with
 | [x,y],_=>exact⟨x,y,rfl⟩
theorem BA {l:List Ty} (h:l.length=2):∃x y,l=[x,y]:=by
 match l,h with
 | [x,y],_=>exact⟨x,y,rfl⟩
theorem IL (x y:Vl):iY [x] [y]=dx x y:=by rw[GI,Ls];split<;>simp_all
theorem V4 (x P y Y:Vl):iY [x,P] [y,Y]=if dx x y=0 then dx P Y else dx x y:=by rw[GI,IL]
theorem nY:∀(v w:Vl) (t:Ty),gm t=false->bK v t=true->bK w t=true->aM v<=1099511627776->ag 76 [bM v,bM w] (.int .i64 (dx v w))
 | .mk k n a s args types code,.mk k' H a' s' P M code',t,hb,hv,hw,hsz=>by
  simp only[aM]at hsz;obtain⟨p0,p9,WC,p12⟩:=Lr hv hb;obtain⟨q0,q9,S,q12⟩:=Lr hw hb;obtain rfl:k'=k:=by rw[p0,q0]
  clear hv hw;have O:∀x∈args,∀y u,gm u=false->bK x u=true->bK y u=true->ag 76 [bM x,bM y] (.int .i64 (dx x y)):=fun x N y u h1 h2 h3=>nY x y u h1 h2 h3 (by have:=dO N;omega);by_cases c1:k'=6
  ·subst c1;rw[adp];have h1:=AY s s';refine qn Tryz.func76 Tryz.call76 fun β hf=>?_;exact dq
  by_cases c2:k'=9
  ·subst c2;rw[adq];have h1:=yl (((aa args).length:Nat):Int) (((aa P).length:Nat):Int);by_cases Y:ud args.length P.length=0
   ·rw[if_pos Y];rw[az,az,Y,<- az,<- az P]at h1;have yo:=ni.1 Y;by_cases K:args.length=0
    ·have e5:((((aa args).length:Nat):Int)==0)=true:=by rw[az];simpa using K
     rw[List.length_eq_zero_iff.1 K,Ls];rw[List.length_eq_zero_iff.1 K]at h1 e5;refine qn Tryz.func76 Tryz.call76 fun β hf=>?_;exact dq
    ·have e5:((((aa args).length:Nat):Int)==0)=false:=by rw[az];simpa using K
     obtain⟨x,Q⟩:=NX (show args.length=1 by have:=(p9 rfl).1;omega);obtain⟨y,U⟩:=NX (show P.length=1 by have:=(q9 rfl).1;omega);have N:=(p9 rfl).2 x Wf;have J:=(q9 rfl).2 y (by rw[U];simp);have h2:=O x Wf y (aE t 0) N.2 N.1 J.1;have g1:args[0]?=some x:=by rw[Q];rfl
     have W:P[0]?=some y:=by rw[U];rfl
     have B:iY args P=dx x y:=by rw[Q,U,IL]
     rw[B];obtain⟨q,G,D,C,E,A,p⟩:=x;obtain⟨y1,y2,y3,y4,y5,y6,y7⟩:=y;refine qn Tryz.func76 Tryz.call76 fun β hf=>?_;have ug:=ez g1;have BJ:=ez W;exact dq
   ·rw[if_neg Y];have e1:(ud args.length P.length != 0)=true:=by simpa using Y
    rw[<- az,<- az P]at e1 ⊢;refine qn Tryz.func76 Tryz.call76 fun β hf=>?_;exact dq
  by_cases c3:k'=11
  ·subst c3;rw[aay];obtain⟨m1,I,m3,V⟩:=WC rfl;obtain⟨r1,T,_,_⟩:=S rfl;obtain⟨x,x',Q⟩:=V3 m1;obtain⟨y,y',U⟩:=V3 r1;obtain⟨u,u',hU⟩:=BA m3;rw[Q,hU]at I;rw[U,hU]at T;rw[hU]at V;simp only[cW,aai]at I T;simp only[mD,Bool.or_eq_false_iff]at V;have h1:=O x Wf y u V.1 I.1 T.1;have h2:=O x' Wf y' u' V.2.1 I.2.1 T.2.1;have g1:args[0]?=some x:=by rw[Q];rfl
   have W:P[0]?=some y:=by rw[U];rfl
   have g3:args[1]?=some x':=by rw[Q];rfl
   have g4:P[1]?=some y':=by rw[U];rfl
   have B:iY args P=if dx x y=0 then dx x' y' else dx x y:=by rw[Q,U,V4]
   rw[B];clear I T B Q U WC S;obtain⟨q,G,D,C,E,A,p⟩:=x;obtain⟨y1,y2,y3,y4,y5,y6,y7⟩:=y;obtain⟨z1,z2,z3,z4,z5,z6,z7⟩:=x';obtain⟨w1,w2,w3,w4,w5,w6,w7⟩:=y';by_cases Y:dx (.mk q G D C E A p) (.mk y1 y2 y3 y4 y5 y6 y7)=0
   ·rw[if_pos Y];rw[Y]at h1;refine qn Tryz.func76 Tryz.call76 fun β hf=>?_;have GU:=ez g1;have Jd:=ez W;have Je:=ez g3;have LR:=ez g4;exact dq
   ·rw[if_neg Y];have e1:(dx (.mk q G D C E A p) (.mk y1 y2 y3 y4 y5 y6 y7) != 0)=true:=by simpa using Y
    refine qn Tryz.func76 Tryz.call76 fun β hf=>?_;have Rn:=ez g1;have UK:=ez W;have YS:=ez g3;have Wg:=ez g4;exact dq
  by_cases c4:k'=12
  ·subst c4;rw[aaz];have h1:=yl n H;obtain⟨m1,I,m3,V⟩:=p12 rfl;obtain⟨r1,T,r3,r4⟩:=q12 rfl;obtain⟨x,Q⟩:=NX m3;obtain⟨y,U⟩:=NX r3;by_cases Y:ud n H=0
   ·rw[if_pos Y];rw[Y]at h1;have hnn:=ni.1 Y;have N:=V x Wf;have J:=r4 y (by rw[U];simp);rw[<- hnn]at J;have h2:=O x Wf y (aE t n.toNat) N.2 N.1 J.1;have g1:args[0]?=some x:=by rw[Q];rfl
    have W:P[0]?=some y:=by rw[U];rfl
    have B:iY args P=dx x y:=by rw[Q,U,IL]
    rw[B];obtain⟨q,G,D,C,E,A,p⟩:=x;obtain⟨y1,y2,y3,y4,y5,y6,y7⟩:=y;refine qn Tryz.func76 Tryz.call76 fun β hf=>?_;have Wh:=ez g1;have Wi:=ez W;exact dq
   ·rw[if_neg Y];have e1:(ud n H != 0)=true:=by simpa using Y
    refine qn Tryz.func76 Tryz.call76 fun β hf=>?_;exact dq
  rw[adr c1 c2 c3 c4];have e1:(k'==6)=false:=by simpa using c1
  have e2:(k'==9)=false:=by simpa using c2
  have B:(k'==11)=false:=by simpa using c3
  have e4:(k'==12)=false:=by simpa using c4
  have h1:=yl n H;refine qn Tryz.func76 Tryz.call76 fun β hf=>?_;exact dq
termination_by v=>SizeOf.sizeOf v
decreasing_by
 have:=List.sizeOf_lt_of_mem N;simp at this ⊢;omega
end Go.Proofs
