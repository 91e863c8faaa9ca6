/- What Same, plain, address and compare of package value answer. -/
import Derived.Test.YtlohbilpimjmmaaGreatDoorVal1
import Derived.Test.YtlohbilpimjmmaaGreatDoorKind5
set_option maxHeartbeats 0
set_option linter.unusedVariables false
set_option linter.unusedSimpArgs false
set_option maxRecDepth 100000
namespace Go.Proofs
open Go.cu
theorem La {k n a:Int} {s:List UInt8} {args:List Vl} {H:List Ty} {B:List Nd} {t:Ty} (h:bL (.mk k n a s args H B) t=true) (p:gq t=false) :
  k=bS t/\(k=9->args.length<=1/\∀x∈args,bL x (aD t 0)=true/\gq (aD t 0)=false)/\(k=11->args.length=2/\cX args (au t)=true/\(au t).length=2/\mz (au t)=false) /\
   (k=12->0<=n/\n<=1/\args.length=1/\∀x∈args,bL x (aD t n.toNat)=true/\gq (aD t n.toNat)=false):=by
 obtain⟨h1,h2,V⟩:=oW h;have Y:¬(k≠bS t\/cB (.mk k n a s args H B)=false\/200<s.length):=by
  rintro(h|h|h)
  ·exact h h1
  ·rw[h2]at h;simp at h
  ·omega
 simp only[bL,if_neg Y]at h;obtain⟨W,q⟩:=iF p;rw[<- h1]at W;refine⟨h1,?_,?_,?_⟩
 ·rintro rfl;simp at h;have C:(au t).length=1:=by(have:arity 9=1:=by decide);omega
  refine⟨h.1.2,fun x O=>⟨(fh _ _).1 h.2 x O,dz q (kO bn)⟩⟩
 ·rintro rfl;simp at h;have C:(au t).length=2:=by(have:arity 11=2:=by decide);omega
  exact⟨h.1.2,h.2,C,q⟩
 ·rintro rfl;simp at h;have C:(au t).length=2:=by(have:arity 12=2:=by decide);omega
  refine⟨h.1.1,h.1.2.1,h.1.2.2,fun x O=>⟨(fh _ _).1 h.2 x O,dz q (kO bn)⟩⟩
theorem ac6 (n a:Int) (s:List UInt8) (args:List Vl) (H:List Ty) (B:List Nd) (k' V C:Int) (P:List UInt8) (p:List Vl) (Y:List Ty) (W:List Nd):dA (.mk 6 n a s args H B) (.mk k' V C P p Y W)=eB s P:=rfl
theorem ac7 (n a:Int) (s:List UInt8) (args:List Vl) (H:List Ty) (B:List Nd) (k' V C:Int) (P:List UInt8) (p:List Vl) (Y:List Ty) (W:List Nd):dA (.mk 9 n a s args H B) (.mk k' V C P p Y W)=if tT args.length p.length=0 then iW args p else tT args.length p.length:=rfl
theorem aao (n a:Int) (s:List UInt8) (args:List Vl) (H:List Ty) (B:List Nd) (k' V C:Int) (P:List UInt8) (p:List Vl) (Y:List Ty) (W:List Nd):dA (.mk 11 n a s args H B) (.mk k' V C P p Y W)=iW args p:=rfl
theorem aap (n a:Int) (s:List UInt8) (args:List Vl) (H:List Ty) (B:List Nd) (k' V C:Int) (P:List UInt8) (p:List Vl) (Y:List Ty) (W:List Nd):dA (.mk 12 n a s args H B) (.mk k' V C P p Y W)=if tT n V=0 then iW args p else tT n V:=rfl
theorem ac8 {k:Int} (h1:k≠6) (h2:k≠9) (U:k≠11) (D:k≠12) (n a:Int) (s:List UInt8) (args:List Vl) (H:List Ty) (B:List Nd) (k' V C:Int) (P:List UInt8) (p:List Vl) (Y:List Ty) (W:List Nd):dA (.mk k n a s args H B) (.mk k' V C P p Y W)=tT n V:=by
 simp only[dA,if_neg h1,if_neg h2,if_neg U,if_neg D]
theorem Gt (x:Vl) (l:List Vl) (y:Vl) (r:List Vl):iW (x::l) (y::r)=if dA x y=0 then iW l r else dA x y:=rfl
theorem Lb (r:List Vl):iW [] r=0:=by cases r<;>rfl
attribute [local irreducible] AK ai bw bz dA iW bL aR cX oK gJ cP gN oC jU tT eB cB
theorem A4:∀(v w:Vl),aM v<=1099511627776->ah 15 [bP v,bP w] (.bool (oK v w))
 | .mk k n a s args H B,.mk k' U C P p Y W,T=>by
  simp only[aM]at T;have N:=iI args;have M:=iG H;have Q:=eL B;have h1:=Es args p oK 15 [] (fun x O y _=>A4 x y C1) bn;have h2:=pF H Y cP 29 [] (fun x O y _=>gH x y (by have:=cF O;omega)) bn;have V:=ue B W oC 31 [] (fun x O y _=>tU x y N8) bn;rw[K9]at h1;rw[yg]at h2;rw[Cr]at V;have S:oK (.mk k n a s args H B) (.mk k' U C P p Y W)=(k==k'&&n==U&&a==C&&s==P&&gJ args p&&gN H Y&&jU B W):=by simp only[oK]
  rw[S];generalize gJ args p=b1 at h1;generalize gN H Y=b2 at h2;generalize jU B W=b3 at V;clear S;refine qn Tryz.func15 Tryz.call15 fun β hf=>?_
  repeat' (first|refine nK ?_|refine uC rfl h1 ?_|refine uC rfl h2 ?_|refine uC rfl V ?_|((first|refine Gw ?_|refine zu ?_ ?_)<;>intro h<;>(fail_if_success (cases h;done))<;>rw[h]))
  all_goals
   show(_:CV)=_;clear hf h1 h2 V;simp_all
termination_by t=>SizeOf.sizeOf t
decreasing_by
 have:=List.sizeOf_lt_of_mem O;simp at this ⊢;omega
theorem rH (n:Int):ah 74 [.int .i64 n] (.bool (decide (0<=n)&&decide (n<12))):=by
 refine qn Tryz.func74 Tryz.call74 fun β hf=>?_
 repeat' (first|refine nK ?_|((first|refine Gw ?_|refine zu ?_ ?_)<;>intro h<;>(fail_if_success (cases h;done))<;>rw[h]))
 all_goals
  show(_:CV)=_;clear hf;simp_all
theorem Lc (k n a:Int) (s:List UInt8) (args:List Vl) (H:List Ty) (B:List Nd):cB (.mk k n a s args H B)=(if k=15 then decide (H.length=0/\B.length=0/\s=[])
  else if k=8 then decide (H.length=1/\B.length=0/\s=[])
  else if k=14 then decide (H.length=2/\a=0/\n=0/\s=[]/\args.length=0)
  else if k=6 then decide (H.length=0/\B.length=0/\a=0/\n=0/\args.length=0)
  else decide (H.length=0/\B.length=0/\a=0/\s=[])):=by simp only[cB]
theorem Ld (v:Vl):ah 72 [bP v] (.bool (cB v)):=by
 obtain⟨k,n,a,s,args,H,B⟩:=v;rw[Lc];by_cases Y:k=15
 ·subst Y;refine qn Tryz.func72 Tryz.call72 fun β hf=>?_
  repeat' (first|refine nK ?_|(refine zc ?_ ?_<;>intro h<;>first|(cases h;done)|rw[h]|skip)|((first|refine Gw ?_|refine zu ?_ ?_)<;>intro h<;>(fail_if_success (cases h;done))<;>rw[h]))
  all_goals
   show(_:CV)=_;clear hf;simp only[aY,bq,az,cond_true,cond_false]at *;rcases H with _|⟨_,_|⟨_,_|⟨_,_⟩⟩⟩<;>simp_all<;>(try omega)<;>rcases s with _|⟨_,_⟩<;>rcases args with _|⟨_,_⟩<;>rcases B with _|⟨_,_⟩<;>simp_all<;>omega
 have A:(k==15)=false:=by simpa using Y
 by_cases J:k=8
 ·subst J;refine qn Tryz.func72 Tryz.call72 fun β hf=>?_
  repeat' (first|refine nK ?_|(refine zc ?_ ?_<;>intro h<;>first|(cases h;done)|rw[h]|skip)|((first|refine Gw ?_|refine zu ?_ ?_)<;>intro h<;>(fail_if_success (cases h;done))<;>rw[h]))
  all_goals
   show(_:CV)=_;clear hf;simp only[aY,bq,az,cond_true,cond_false]at *;rcases H with _|⟨_,_|⟨_,_|⟨_,_⟩⟩⟩<;>simp_all<;>(try omega)<;>rcases s with _|⟨_,_⟩<;>rcases args with _|⟨_,_⟩<;>rcases B with _|⟨_,_⟩<;>simp_all<;>omega
 have E:(k==8)=false:=by simpa using J
 by_cases W:k=14
 ·subst W;refine qn Tryz.func72 Tryz.call72 fun β hf=>?_
  repeat' (first|refine nK ?_|(refine zc ?_ ?_<;>intro h<;>first|(cases h;done)|rw[h]|skip)|((first|refine Gw ?_|refine zu ?_ ?_)<;>intro h<;>(fail_if_success (cases h;done))<;>rw[h]))
  all_goals
   show(_:CV)=_;clear hf;simp only[aY,bq,az,cond_true,cond_false]at *;rcases H with _|⟨_,_|⟨_,_|⟨_,_⟩⟩⟩<;>simp_all<;>(try omega)<;>rcases s with _|⟨_,_⟩<;>rcases args with _|⟨_,_⟩<;>rcases B with _|⟨_,_⟩<;>simp_all<;>omega
 have V:(k==14)=false:=by simpa using W
 by_cases c4:k=6
 ·subst c4;refine qn Tryz.func72 Tryz.call72 fun β hf=>?_
  repeat' (first|refine nK ?_|(refine zc ?_ ?_<;>intro h<;>first|(cases h;done)|rw[h]|skip)|((first|refine Gw ?_|refine zu ?_ ?_)<;>intro h<;>(fail_if_success (cases h;done))<;>rw[h]))
  all_goals
   show(_:CV)=_;clear hf;simp only[aY,bq,az,cond_true,cond_false]at *;rcases H with _|⟨_,_|⟨_,_|⟨_,_⟩⟩⟩<;>simp_all<;>(try omega)<;>rcases s with _|⟨_,_⟩<;>rcases args with _|⟨_,_⟩<;>rcases B with _|⟨_,_⟩<;>simp_all<;>omega
 have Q:(k==6)=false:=by simpa using c4
 refine qn Tryz.func72 Tryz.call72 fun β hf=>?_
 repeat' (first|refine nK ?_|(refine zc ?_ ?_<;>intro h<;>first|(cases h;done)|rw[h]|skip)|((first|refine Gw ?_|refine zu ?_ ?_)<;>intro h<;>(fail_if_success (cases h;done))<;>rw[h]))
 all_goals
  show(_:CV)=_;clear hf;simp only[aY,bq,az,cond_true,cond_false]at *;rcases H with _|⟨_,_|⟨_,_|⟨_,_⟩⟩⟩<;>simp_all<;>(try omega)<;>rcases s with _|⟨_,_⟩<;>rcases args with _|⟨_,_⟩<;>rcases B with _|⟨_,_⟩<;>simp_all<;>omega
theorem NI {l:List Vl} (h:l.length=1):∃x,l=[x]:=by
 match l,h with
 | [x],_=>exact⟨x,rfl⟩
theorem VI {l:List Vl} (h:l.length=2):∃x y,l=[x,y]:=by
 match l,h with
 | [x,y],_=>exact⟨x,y,rfl⟩
theorem Bv {l:List Ty} (h:l.length=2):∃x y,l=[x,y]:=by
 match l,h with
 | [x,y],_=>exact⟨x,y,rfl⟩
theorem Iv (x y:Vl):iW [x] [y]=dA x y:=by rw[Gt,Lb];split<;>simp_all
theorem VJ (x D y Y:Vl):iW [x,D] [y,Y]=if dA x y=0 then dA D Y else dA x y:=by rw[Gt,Iv]
theorem nV:∀(v w:Vl) (t:Ty),gq t=false->bL v t=true->bL w t=true->aM v<=1099511627776->ah 76 [bP v,bP w] (.int .i64 (dA v w))
 | .mk k n a s args types code,.mk k' P a' s' p N code',t,hb,hv,hw,hsz=>by
  simp only[aM]at hsz;obtain⟨p0,p9,Wi,p12⟩:=La hv hb;obtain⟨q0,q9,T,q12⟩:=La hw hb;obtain rfl:k'=k:=by rw[p0,q0]
  clear hv hw;have Q:∀x∈args,∀y u,gq u=false->bL x u=true->bL y u=true->ah 76 [bP x,bP y] (.int .i64 (dA x y)):=fun x O y u h1 h2 h3=>nV x y u h1 h2 h3 C1;by_cases c1:k'=6
  ·subst c1;rw[ac6];have h1:=AQ s s';refine qn Tryz.func76 Tryz.call76 fun β hf=>?_;exact dq
  by_cases c2:k'=9
  ·subst c2;rw[ac7];have h1:=yb (((aa args).length:Nat):Int) (((aa p).length:Nat):Int);by_cases S:tT args.length p.length=0
   ·rw[if_pos S];rw[az,az,S,<- az,<- az p]at h1;have yc:=mX.1 S;by_cases K:args.length=0
    ·have e5:((((aa args).length:Nat):Int)==0)=true:=by rw[az];simpa using K
     rw[List.length_eq_zero_iff.1 K,Lb];rw[List.length_eq_zero_iff.1 K]at h1 e5;refine qn Tryz.func76 Tryz.call76 fun β hf=>?_;exact dq
    ·have e5:((((aa args).length:Nat):Int)==0)=false:=by rw[az];simpa using K
     obtain⟨x,M⟩:=NI (show args.length=1 by have:=(p9 rfl).1;omega);obtain⟨y,Y⟩:=NI (show p.length=1 by have:=(q9 rfl).1;omega);have O:=(p9 rfl).2 x WJ;have A:=(q9 rfl).2 y (by rw[Y];simp);have h2:=Q x WJ y (aD t 0) O.2 O.1 A.1;have g1:args[0]?=some x:=by rw[M];rfl
     have W:p[0]?=some y:=by rw[Y];rfl
     have B:iW args p=dA x y:=by rw[M,Y,Iv]
     rw[B];obtain⟨J,I,H,G,E,D,C⟩:=x;obtain⟨y1,y2,y3,y4,y5,y6,y7⟩:=y;refine qn Tryz.func76 Tryz.call76 fun β hf=>?_;have tW:=eF g1;have BD:=eF W;exact dq
   ·rw[if_neg S];have e1:(tT args.length p.length != 0)=true:=by simpa using S
    rw[<- az,<- az p]at e1 ⊢;refine qn Tryz.func76 Tryz.call76 fun β hf=>?_;exact dq
  by_cases c3:k'=11
  ·subst c3;rw[aao];obtain⟨m1,q,m3,V⟩:=Wi rfl;obtain⟨r1,U,_,_⟩:=T rfl;obtain⟨x,x',M⟩:=VI m1;obtain⟨y,y',Y⟩:=VI r1;obtain⟨u,u',hU⟩:=Bv m3;rw[M,hU]at q;rw[Y,hU]at U;rw[hU]at V;simp only[cX,aaj]at q U;simp only[mz,Bool.or_eq_false_iff]at V;have h1:=Q x WJ y u V.1 q.1 U.1;have h2:=Q x' WJ y' u' V.2.1 q.2.1 U.2.1;have g1:args[0]?=some x:=by rw[M];rfl
   have W:p[0]?=some y:=by rw[Y];rfl
   have g3:args[1]?=some x':=by rw[M];rfl
   have g4:p[1]?=some y':=by rw[Y];rfl
   have B:iW args p=if dA x y=0 then dA x' y' else dA x y:=by rw[M,Y,VJ]
   rw[B];clear q U B M Y Wi T;obtain⟨J,I,H,G,E,D,C⟩:=x;obtain⟨y1,y2,y3,y4,y5,y6,y7⟩:=y;obtain⟨z1,z2,z3,z4,z5,z6,z7⟩:=x';obtain⟨w1,w2,w3,w4,w5,w6,w7⟩:=y';by_cases S:dA (.mk J I H G E D C) (.mk y1 y2 y3 y4 y5 y6 y7)=0
   ·rw[if_pos S];rw[S]at h1;refine qn Tryz.func76 Tryz.call76 fun β hf=>?_;have GH:=eF g1;have IU:=eF W;have IV:=eF g3;have LB:=eF g4;exact dq
   ·rw[if_neg S];have e1:(dA (.mk J I H G E D C) (.mk y1 y2 y3 y4 y5 y6 y7) != 0)=true:=by simpa using S
    refine qn Tryz.func76 Tryz.call76 fun β hf=>?_;have Re:=eF g1;have Up:=eF W;have YD:=eF g3;have VU:=eF g4;exact dq
  by_cases c4:k'=12
  ·subst c4;rw[aap];have h1:=yb n P;obtain⟨m1,q,m3,V⟩:=p12 rfl;obtain⟨r1,U,r3,r4⟩:=q12 rfl;obtain⟨x,M⟩:=NI m3;obtain⟨y,Y⟩:=NI r3;by_cases S:tT n P=0
   ·rw[if_pos S];rw[S]at h1;have hnn:=mX.1 S;have O:=V x WJ;have A:=r4 y (by rw[Y];simp);rw[<- hnn]at A;have h2:=Q x WJ y (aD t n.toNat) O.2 O.1 A.1;have g1:args[0]?=some x:=by rw[M];rfl
    have W:p[0]?=some y:=by rw[Y];rfl
    have B:iW args p=dA x y:=by rw[M,Y,Iv]
    rw[B];obtain⟨J,I,H,G,E,D,C⟩:=x;obtain⟨y1,y2,y3,y4,y5,y6,y7⟩:=y;refine qn Tryz.func76 Tryz.call76 fun β hf=>?_;have VV:=eF g1;have VW:=eF W;exact dq
   ·rw[if_neg S];have e1:(tT n P != 0)=true:=by simpa using S
    refine qn Tryz.func76 Tryz.call76 fun β hf=>?_;exact dq
  rw[ac8 c1 c2 c3 c4];have e1:(k'==6)=false:=by simpa using c1
  have e2:(k'==9)=false:=by simpa using c2
  have B:(k'==11)=false:=by simpa using c3
  have e4:(k'==12)=false:=by simpa using c4
  have h1:=yb n P;refine qn Tryz.func76 Tryz.call76 fun β hf=>?_;exact dq
termination_by v=>SizeOf.sizeOf v
decreasing_by
 have:=List.sizeOf_lt_of_mem O;simp at this ⊢;omega
end Go.Proofs
