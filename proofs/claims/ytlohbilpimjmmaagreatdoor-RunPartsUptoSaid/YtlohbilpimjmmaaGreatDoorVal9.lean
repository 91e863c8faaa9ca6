/- What parse of package value answers. -/
import Derived.Test.YtlohbilpimjmmaaGreatDoorVal8
set_option maxHeartbeats 0
set_option linter.unusedVariables false
set_option linter.unusedSimpArgs false
set_option maxRecDepth 100000
namespace Go.Proofs
open Go.cu
theorem Iy (l:List Nd) (b:Prop) [Decidable b] (h:b↔l.length=0):((((aH l).length:Nat):Int)==0)=decide b:=by
 rw[bq,Bool.eq_iff_iff];simp[h]
theorem int_eq (a b:Int):(a==b)=decide (a=b):=by rw[Bool.eq_iff_iff];simp
attribute [local irreducible] AK ai bw bz dI eE eS eu
theorem sN:∀(n:Nd) (t:Ty),gq t=false->bN n<=8589934593->bC t<=8589934593->ah 96 [eC t,aW n] (.gB [bP (dI n t).1,.bool (dI n t).2])
 | .mk kind N P S args,.mk T ts,hb,hn,ht=>by
  simp only[bN]at hn;simp only[bC]at ht;have Gv:=eL args;have K:∀x∈args,∀u,gq u=false->bC u<=8589934593->ah 96 [eC u,aW x] (.gB [bP (dI x u).1,.bool (dI x u).2]):=fun x O u h1 h2=>sN x u h1 N8 h2;have WT:∀k n p s J,Nd.mk k n p s J∈args->∀y∈J,∀u,gq u=false->bC u<=8589934593->ah 96 [eC u,aW y] (.gB [bP (dI y u).1,.bool (dI y u).2]):=fun k n p s J O y hy u h1 h2=>sN y u h1 (by have h3:=ee O;have h4:=ee hy;simp only[bN]at h3;omega) h2;obtain⟨Li,j9⟩:=iF hb;simp only[bS,au]at Li j9;have E:ah 129 [.sl 2 (aE ts),.sl 5 (aH args)] (.gB [.sl 7 (aa (eE args ts).1),.bool (eE args ts).2]) :=
   wL ts args bn fun x O u hu=>K x O u (dz j9 hu) (by have:=cF hu;omega)
  by_cases c:T=1
  ·subst c;rw[aar];by_cases I:kind=2/\P=20
   ·obtain⟨rfl,rfl⟩:=I;have h1:=fN 2 N 20 20 S args;rw[show decide ((2:Int)=2/\(20:Int)=20)=true from rfl]at h1;have e:=Iy args ((2:Int)=2/\(20:Int)=20/\args.length=0) cn;refine qn Tryz.func96 Tryz.call96 fun β hf=>?_;refine AK.seq ?_;refine AK.region Tryz.mixed rfl ?_
    repeat' (first|refine so ?_|(refine uA rfl ?_ ?_<;>(try (show(_:Nat)*_<=_;dsimp only)))|((first|refine zt ?_|refine zu ?_ ?_)<;>intro h<;>(fail_if_success (cases h;done))<;>rw[h]))
    refine AK.freeze 3 rfl rfl rfl rfl ?_
    repeat' (first|refine sz ?_|(refine zc ?_ ?_<;>intro h<;>first|(cases h;done)|rw[h]|skip)|refine uC rfl h1 ?_|(refine uA rfl ?_ ?_<;>(try (show(_:Nat)*_<=_;dsimp only)))|((first|refine zt ?_|refine zu ?_ ?_)<;>intro h<;>(fail_if_success (cases h;done))<;>rw[h]))
    all_goals exact congrArg (fun b=>CV.gB [bP (pH 1),CV.bool b]) e
   ·have h1:=fN kind N P 20 S args;rw[show decide (kind=2/\P=20)=false from aaw I]at h1;rw[show decide (kind=2/\P=20/\args.length=0)=false from aaw (fun h=>I ⟨h.1,h.2.1⟩)];refine qn Tryz.func96 Tryz.call96 fun β hf=>?_;refine AK.seq ?_;refine AK.region Tryz.mixed rfl ?_
    repeat' (first|refine so ?_|(refine uA rfl ?_ ?_<;>(try (show(_:Nat)*_<=_;dsimp only)))|((first|refine zt ?_|refine zu ?_ ?_)<;>intro h<;>(fail_if_success (cases h;done))<;>rw[h]))
    refine AK.freeze 3 rfl rfl rfl rfl ?_;exact dq
  by_cases c:T=2
  ·subst c;rw[aas];by_cases I:kind=2/\P=21
   ·obtain⟨rfl,rfl⟩:=I;have h1:=fN 2 N 21 21 S args;have h2:=fN 2 N 21 22 S args;rw[show decide ((2:Int)=2/\(21:Int)=21)=true from rfl]at h1;rw[show decide ((2:Int)=2/\(21:Int)=22)=false from rfl]at h2;have e:=Iy args ((2:Int)=2/\((21:Int)=21\/(21:Int)=22)/\args.length=0) cn;refine qn Tryz.func96 Tryz.call96 fun β hf=>?_;refine AK.seq ?_;refine AK.region Tryz.mixed rfl ?_
    repeat' (first|refine so ?_|(refine uA rfl ?_ ?_<;>(try (show(_:Nat)*_<=_;dsimp only)))|((first|refine zt ?_|refine zu ?_ ?_)<;>intro h<;>(fail_if_success (cases h;done))<;>rw[h]))
    refine AK.freeze 3 rfl rfl rfl rfl ?_
    repeat' (first|refine sz ?_|(refine zc ?_ ?_<;>intro h<;>first|(cases h;done)|rw[h]|skip)|refine uC rfl h1 ?_|refine uC rfl h2 ?_|(refine uA rfl ?_ ?_<;>(try (show(_:Nat)*_<=_;dsimp only)))|((first|refine zt ?_|refine zu ?_ ?_)<;>intro h<;>(fail_if_success (cases h;done))<;>rw[h]))
    all_goals exact congrArg (fun b=>CV.gB [bP (.mk 2 (IntKind.i64.wrap (22-21)) 0 [] [] [] []),CV.bool b]) e
   by_cases Q:kind=2/\P=22
   ·obtain⟨rfl,rfl⟩:=Q;have h1:=fN 2 N 22 21 S args;have h2:=fN 2 N 22 22 S args;rw[show decide ((2:Int)=2/\(22:Int)=21)=false from rfl]at h1;rw[show decide ((2:Int)=2/\(22:Int)=22)=true from rfl]at h2;have e:=Iy args ((2:Int)=2/\((22:Int)=21\/(22:Int)=22)/\args.length=0) cn;refine qn Tryz.func96 Tryz.call96 fun β hf=>?_;refine AK.seq ?_;refine AK.region Tryz.mixed rfl ?_
    repeat' (first|refine so ?_|(refine uA rfl ?_ ?_<;>(try (show(_:Nat)*_<=_;dsimp only)))|((first|refine zt ?_|refine zu ?_ ?_)<;>intro h<;>(fail_if_success (cases h;done))<;>rw[h]))
    refine AK.freeze 3 rfl rfl rfl rfl ?_
    repeat' (first|refine sz ?_|(refine zc ?_ ?_<;>intro h<;>first|(cases h;done)|rw[h]|skip)|refine uC rfl h1 ?_|refine uC rfl h2 ?_|(refine uA rfl ?_ ?_<;>(try (show(_:Nat)*_<=_;dsimp only)))|((first|refine zt ?_|refine zu ?_ ?_)<;>intro h<;>(fail_if_success (cases h;done))<;>rw[h]))
    all_goals exact congrArg (fun b=>CV.gB [bP (.mk 2 (IntKind.i64.wrap (22-22)) 0 [] [] [] []),CV.bool b]) e
   have h1:=fN kind N P 21 S args;have h2:=fN kind N P 22 S args;rw[aaw I]at h1;rw[aaw Q]at h2;rw[show decide (kind=2/\(P=21\/P=22)/\args.length=0)=false from aaw (fun h=>h.2.1.elim (fun g=>I ⟨h.1,g⟩) (fun g=>Q ⟨h.1,g⟩))];refine qn Tryz.func96 Tryz.call96 fun β hf=>?_;refine AK.seq ?_;refine AK.region Tryz.mixed rfl ?_
   repeat' (first|refine so ?_|(refine uA rfl ?_ ?_<;>(try (show(_:Nat)*_<=_;dsimp only)))|((first|refine zt ?_|refine zu ?_ ?_)<;>intro h<;>(fail_if_success (cases h;done))<;>rw[h]))
   refine AK.freeze 3 rfl rfl rfl rfl ?_;exact dq
  by_cases c:T=3
  ·subst c;rw[Pc 3 kind N P cc,<- int_eq];refine qn Tryz.func96 Tryz.call96 fun β hf=>?_;refine AK.seq ?_;refine AK.region Tryz.mixed rfl ?_
   repeat' (first|refine so ?_|(refine uA rfl ?_ ?_<;>(try (show(_:Nat)*_<=_;dsimp only)))|((first|refine zt ?_|refine zu ?_ ?_)<;>intro h<;>(fail_if_success (cases h;done))<;>rw[h]))
   refine AK.freeze 3 rfl rfl rfl rfl ?_;exact dq
  by_cases c:T=4
  ·subst c;rw[Pc 4 kind N P cc,<- int_eq];refine qn Tryz.func96 Tryz.call96 fun β hf=>?_;refine AK.seq ?_;refine AK.region Tryz.mixed rfl ?_
   repeat' (first|refine so ?_|(refine uA rfl ?_ ?_<;>(try (show(_:Nat)*_<=_;dsimp only)))|((first|refine zt ?_|refine zu ?_ ?_)<;>intro h<;>(fail_if_success (cases h;done))<;>rw[h]))
   refine AK.freeze 3 rfl rfl rfl rfl ?_;exact dq
  by_cases c:T=5
  ·subst c;rw[Pc 5 kind N P cc,<- int_eq];refine qn Tryz.func96 Tryz.call96 fun β hf=>?_;refine AK.seq ?_;refine AK.region Tryz.mixed rfl ?_
   repeat' (first|refine so ?_|(refine uA rfl ?_ ?_<;>(try (show(_:Nat)*_<=_;dsimp only)))|((first|refine zt ?_|refine zu ?_ ?_)<;>intro h<;>(fail_if_success (cases h;done))<;>rw[h]))
   refine AK.freeze 3 rfl rfl rfl rfl ?_;exact dq
  by_cases c:T=7
  ·subst c;rw[Pc 7 kind N P cc,<- int_eq];refine qn Tryz.func96 Tryz.call96 fun β hf=>?_;refine AK.seq ?_;refine AK.region Tryz.mixed rfl ?_
   repeat' (first|refine so ?_|(refine uA rfl ?_ ?_<;>(try (show(_:Nat)*_<=_;dsimp only)))|((first|refine zt ?_|refine zu ?_ ?_)<;>intro h<;>(fail_if_success (cases h;done))<;>rw[h]))
   refine AK.freeze 3 rfl rfl rfl rfl ?_;exact dq
  by_cases c:T=6
  ·subst c;rw[aat,<- int_eq];refine qn Tryz.func96 Tryz.call96 fun β hf=>?_;refine AK.seq ?_;refine AK.region Tryz.mixed rfl ?_
   repeat' (first|refine so ?_|(refine uA rfl ?_ ?_<;>(try (show(_:Nat)*_<=_;dsimp only)))|((first|refine zt ?_|refine zu ?_ ?_)<;>intro h<;>(fail_if_success (cases h;done))<;>rw[h]))
   refine AK.freeze 3 rfl rfl rfl rfl ?_;exact dq
  by_cases c:T=9
  ·subst c;by_cases I:kind=2/\P=27
   ·obtain⟨rfl,rfl⟩:=I;rw[X5];have h1:=fN 2 N 27 27 S args;rw[show decide ((2:Int)=2/\(27:Int)=27)=true from rfl]at h1;have e:=Iy args (args.length=0) Iff.rfl;refine qn Tryz.func96 Tryz.call96 fun β hf=>?_;refine AK.seq ?_;refine AK.region Tryz.mixed rfl ?_
    repeat' (first|refine so ?_|(refine uA rfl ?_ ?_<;>(try (show(_:Nat)*_<=_;dsimp only)))|((first|refine zt ?_|refine zu ?_ ?_)<;>intro h<;>(fail_if_success (cases h;done))<;>rw[h]))
    refine AK.freeze 3 rfl rfl rfl rfl ?_
    repeat' (first|refine sz ?_|(refine zc ?_ ?_<;>intro h<;>first|(cases h;done)|rw[h]|skip)|refine uC rfl h1 ?_|(refine uA rfl ?_ ?_<;>(try (show(_:Nat)*_<=_;dsimp only)))|((first|refine zt ?_|refine zu ?_ ?_)<;>intro h<;>(fail_if_success (cases h;done))<;>rw[h]))
    all_goals exact congrArg (fun b=>CV.gB [bP (pH 9),CV.bool b]) e
   by_cases Q:kind=2/\P=26
   ·obtain⟨rfl,rfl⟩:=Q;rw[X6];have h1:=fN 2 N 26 27 S args;rw[show decide ((2:Int)=2/\(26:Int)=27)=false from rfl]at h1;have h2:=fN 2 N 26 26 S args;rw[show decide ((2:Int)=2/\(26:Int)=26)=true from rfl]at h2;generalize eE args ts=z at E;refine qn Tryz.func96 Tryz.call96 fun β hf=>?_;refine AK.seq ?_;refine AK.region Tryz.mixed rfl ?_
    repeat' (first|refine so ?_|(refine uA rfl ?_ ?_<;>(try (show(_:Nat)*_<=_;dsimp only)))|((first|refine zt ?_|refine zu ?_ ?_)<;>intro h<;>(fail_if_success (cases h;done))<;>rw[h]))
    refine AK.freeze 3 rfl rfl rfl rfl ?_;exact dq
   rw[X7 _ _ _ _ _ _ I Q];have h1:=fN kind N P 27 S args;have h2:=fN kind N P 26 S args;rw[aaw I]at h1;rw[aaw Q]at h2;refine qn Tryz.func96 Tryz.call96 fun β hf=>?_;refine AK.seq ?_;refine AK.region Tryz.mixed rfl ?_
   repeat' (first|refine so ?_|(refine uA rfl ?_ ?_<;>(try (show(_:Nat)*_<=_;dsimp only)))|((first|refine zt ?_|refine zu ?_ ?_)<;>intro h<;>(fail_if_success (cases h;done))<;>rw[h]))
   refine AK.freeze 3 rfl rfl rfl rfl ?_;exact dq
  by_cases c:T=11
  ·subst c;by_cases I:kind=2/\P=23
   ·obtain⟨rfl,rfl⟩:=I;rw[VO];have h1:=fN 2 N 23 23 S args;rw[show decide ((2:Int)=2/\(23:Int)=23)=true from rfl]at h1;generalize eE args ts=z at E;refine qn Tryz.func96 Tryz.call96 fun β hf=>?_;refine AK.seq ?_;refine AK.region Tryz.mixed rfl ?_
    repeat' (first|refine so ?_|(refine uA rfl ?_ ?_<;>(try (show(_:Nat)*_<=_;dsimp only)))|((first|refine zt ?_|refine zu ?_ ?_)<;>intro h<;>(fail_if_success (cases h;done))<;>rw[h]))
    refine AK.freeze 3 rfl rfl rfl rfl ?_;exact dq
   rw[VP _ _ _ _ _ _ I];have h1:=fN kind N P 23 S args;rw[aaw I]at h1;refine qn Tryz.func96 Tryz.call96 fun β hf=>?_;refine AK.seq ?_;refine AK.region Tryz.mixed rfl ?_
   repeat' (first|refine so ?_|(refine uA rfl ?_ ?_<;>(try (show(_:Nat)*_<=_;dsimp only)))|((first|refine zt ?_|refine zu ?_ ?_)<;>intro h<;>(fail_if_success (cases h;done))<;>rw[h]))
   refine AK.freeze 3 rfl rfl rfl rfl ?_;exact dq
  by_cases c:T=12
  ·subst c;obtain⟨u,u',rfl⟩:=Bv (show ts.length=2 by(have:arity 12=2:=by decide);omega);by_cases I:kind=2/\P=24
   ·obtain⟨rfl,rfl⟩:=I;rw[VQ];have h1:=fN 2 N 24 24 S args;rw[show decide ((2:Int)=2/\(24:Int)=24)=true from rfl]at h1;have h2:=fN 2 N 24 25 S args;rw[show decide ((2:Int)=2/\(24:Int)=25)=false from rfl]at h2;have hr:=wL [u] args bn fun x O w H=>K x O w (dz j9 Sp) Ez;generalize eE args [u]=z at hr;refine qn Tryz.func96 Tryz.call96 fun β hf=>?_;refine AK.seq ?_;refine AK.region Tryz.mixed rfl ?_
    repeat' (first|refine so ?_|(refine uA rfl ?_ ?_<;>(try (show(_:Nat)*_<=_;dsimp only)))|((first|refine zt ?_|refine zu ?_ ?_)<;>intro h<;>(fail_if_success (cases h;done))<;>rw[h]))
    refine AK.freeze 3 rfl rfl rfl rfl ?_;exact dq
   by_cases Q:kind=2/\P=25
   ·obtain⟨rfl,rfl⟩:=Q;rw[VR];have h1:=fN 2 N 25 24 S args;rw[show decide ((2:Int)=2/\(25:Int)=24)=false from rfl]at h1;have h2:=fN 2 N 25 25 S args;rw[show decide ((2:Int)=2/\(25:Int)=25)=true from rfl]at h2;have hr:=wL [u'] args bn fun x O w H=>K x O w (dz j9 Sp) Ez;generalize eE args [u']=z at hr;refine qn Tryz.func96 Tryz.call96 fun β hf=>?_;refine AK.seq ?_;refine AK.region Tryz.mixed rfl ?_
    repeat' (first|refine so ?_|(refine uA rfl ?_ ?_<;>(try (show(_:Nat)*_<=_;dsimp only)))|((first|refine zt ?_|refine zu ?_ ?_)<;>intro h<;>(fail_if_success (cases h;done))<;>rw[h]))
    refine AK.freeze 3 rfl rfl rfl rfl ?_;exact dq
   rw[VS _ _ _ _ _ _ I Q];have h1:=fN kind N P 24 S args;have h2:=fN kind N P 25 S args;rw[aaw I]at h1;rw[aaw Q]at h2;refine qn Tryz.func96 Tryz.call96 fun β hf=>?_;refine AK.seq ?_;refine AK.region Tryz.mixed rfl ?_
   repeat' (first|refine so ?_|(refine uA rfl ?_ ?_<;>(try (show(_:Nat)*_<=_;dsimp only)))|((first|refine zt ?_|refine zu ?_ ?_)<;>intro h<;>(fail_if_success (cases h;done))<;>rw[h]))
   refine AK.freeze 3 rfl rfl rfl rfl ?_;exact dq
  by_cases c:T=10
  ·subst c;obtain⟨u,rfl⟩:=Le (show ts.length=1 by(have:arity 10=1:=by decide);omega);rw[X8,<- int_eq];have hu:gq u=false:=dz j9 cn;have tX:bC u<=8589934593:=by have:=cF (l:=[u]) (x:=u) cn;omega
   have g1:[u][0]?=some u:=rfl;obtain⟨U,us⟩:=u;refine qn Tryz.func96 Tryz.call96 fun β hf=>?_;refine AK.seq ?_;refine AK.region Tryz.mixed rfl ?_
   repeat' (first|refine so ?_|(refine uA rfl ?_ ?_<;>(try (show(_:Nat)*_<=_;dsimp only)))|((first|refine zt ?_|refine zu ?_ ?_)<;>intro h<;>(fail_if_success (cases h;done))<;>rw[h]))
   refine AK.freeze 3 rfl rfl rfl rfl ?_
   repeat' (first|refine sz ?_|(refine zc ?_ ?_<;>intro h<;>first|(cases h;done)|rw[h]|skip)|(refine uA rfl ?_ ?_<;>(try (show(_:Nat)*_<=_;dsimp only)))|((first|refine zt ?_|refine zu ?_ ?_)<;>intro h<;>(fail_if_success (cases h;done))<;>rw[h]))
   refine AK.fY [(2,2),(4,4),(6,6)] [(6004,(0,none))] (env':=[(139,.c (.int .i64 (0:Nat))),(138,.c (.int .i64 (aH args).length)),(137,.c (.sl 5 (aH args))),(7,.c (.bool (kind==3))),(2,.ptr 2 0),(4,.ptr 4 0),(6,.ptr 6 0)])
    (bs':=[(2,[.c (.int .i64 10),.c (.sl 2 (aE [.mk U us]))]),(4,[.c (.int .i64 0),.c (.int .i64 0),.c (.int .i64 0),.c (.str []),.own .exact 7 [],.own .exact 2 [],.own .exact 5 []]),(6,[.c (.int .i64 10),.c (.int .i64 0),.c (.int .i64 0),.c (.str []),.own (.tok 6004 0) 7 [],.own .exact 2 [],.own .exact 5 []])]) (ts':=[(6004,0)]) (us':=[2,4,6,6004])
    ⟨⟨_,rfl,.inl rfl⟩,⟨_,rfl,.inl rfl⟩,⟨_,rfl,.inl rfl⟩,⟨_,rfl,.inl rfl⟩,⟨_,rfl,⟨_,rfl,rfl⟩⟩,⟨_,rfl,⟨_,rfl,rfl⟩⟩,⟨_,rfl,⟨_,rfl,rfl⟩⟩,trivial⟩ ⟨⟨_,_,rfl,rfl,⟨_,_,rfl,.inl rfl,⟨_,_,rfl,.inl rfl,rfl⟩⟩⟩,⟨_,_,rfl,rfl,⟨_,_,rfl,.inl rfl,⟨_,_,rfl,.inl rfl,⟨_,_,rfl,.inl rfl,⟨_,_,rfl,.inl rfl,⟨_,_,rfl,rfl,⟨_,_,rfl,rfl,⟨_,_,rfl,rfl,rfl⟩⟩⟩⟩⟩⟩⟩⟩,⟨_,_,rfl,rfl,⟨_,_,rfl,.inl rfl,⟨_,_,rfl,.inl rfl,⟨_,_,rfl,.inl rfl,⟨_,_,rfl,.inl rfl,⟨_,_,rfl,⟨_,rfl,.inl ⟨rfl,_,rfl,.inr rfl⟩⟩,⟨_,_,rfl,rfl,⟨_,_,rfl,rfl,rfl⟩⟩⟩⟩⟩⟩⟩⟩,trivial⟩ rfl ?_
   refine AK.eM (α:=Nat×List Vl×Bool) (fun z=>z.1<=args.length/\z.1=z.2.1.length/\(eS args (.mk U us)).1=z.2.1++(eS (args.drop z.1) (.mk U us)).1/\((kind==3)&&(eS args (.mk U us)).2)=(z.2.2&&(eS (args.drop z.1) (.mk U us)).2)) (fun z=>args.length-z.1)
    (fun z=>[(139,.c (.int .i64 z.1)),(138,.c (.int .i64 (aH args).length)),(137,.c (.sl 5 (aH args))),(7,.c (.bool z.2.2)),(2,.ptr 2 0),(4,.ptr 4 0),(6,.ptr 6 0)]) (fun z=>[(2,[.c (.int .i64 10),.c (.sl 2 (aE [.mk U us]))]),(4,[.c (.int .i64 0),.c (.int .i64 0),.c (.int .i64 0),.c (.str []),.own .exact 7 [],.own .exact 2 [],.own .exact 5 []]),(6,[.c (.int .i64 10),.c (.int .i64 0),.c (.int .i64 0),.c (.str []),.own (.tok 6004 0) 7 (aa z.2.1),.own .exact 2 [],.own .exact 5 []])]) (fun _=>[(6004,0)]) [2,4,6,6004] (0,[],(kind==3))
    ⟨bn,rfl,cn,rfl⟩ ⟨.inl rfl,.inl rfl,.inl rfl,.inl rfl,.inl rfl,.inl rfl,.inl rfl,trivial⟩ ⟨rfl,rfl,rfl,trivial⟩ ⟨rfl,trivial⟩ rfl rfl rfl ?_
   rintro⟨i,acc,okb⟩ ⟨I,G,W,Y⟩ ih;simp only at I G W Y;rcases gf args i I with ⟨x,O,hm⟩|he
   rotate_left
   ·have hc:=iX he;rw[he,List.drop_length,Lg]at W Y;simp only[List.append_nil,Bool.and_true]at W Y;rw[W,Y];clear ih W Y;exact dq
   have hc:=lq O;have h2:=bD O;have hq:=K x hm (.mk U us) hu tX;rw[dO O,Iw]at W Y;rcases hr:dI x (.mk U us)with ⟨⟨D,C,B,A,y5,y6,y7⟩,V⟩
   rw[hr]at hq W Y;simp only at hq W Y;rw[show ∀(a:List Vl) (b:Vl) (c:List Vl),a++b::c=a++[b]++c from fun a b c=>by simp]at W;obtain⟨xk,xn,xp,xs,J⟩:=x;cases okb with
   | false =>
    repeat' (first|refine sz ?_|(refine zc ?_ ?_<;>intro h<;>first|(cases h;done)|rw[h]|skip)|refine uI rfl (i) rfl (dX O) rfl ?_|refine uI rfl (0) rfl (fQ g1) rfl ?_|refine uC rfl hq ?_|(refine uA rfl ?_ ?_<;>(try (show(_:Nat)*_<=_;dsimp only)))|((first|refine zt ?_|refine zu ?_ ?_)<;>intro h<;>(fail_if_success (cases h;done))<;>rw[h]))
    ·have h1:=az acc;simp only[aaa,aab];omega
    ·have M:aa acc++[bP (Vl.mk D C B A y5 y6 y7)]=aa (acc++[(Vl.mk D C B A y5 y6 y7)]):=(ij acc [_]).symm;refine AK.fY [(2,2),(4,4),(6,6)] [(6004,(0,some 6004))] (env':=[(139,.c (.int .i64 ((i+1:Nat):Int))),(138,.c (.int .i64 (aH args).length)),(137,.c (.sl 5 (aH args))),(7,.c (.bool false)),(2,.ptr 2 0),(4,.ptr 4 0),(6,.ptr 6 0)])
      (bs':=[(2,[.c (.int .i64 10),.c (.sl 2 (aE [.mk U us]))]),(4,[.c (.int .i64 0),.c (.int .i64 0),.c (.int .i64 0),.c (.str []),.own .exact 7 [],.own .exact 2 [],.own .exact 5 []]),(6,[.c (.int .i64 10),.c (.int .i64 0),.c (.int .i64 0),.c (.str []),.own (.tok 6004 0) 7 (aa (acc++[(Vl.mk D C B A y5 y6 y7)])),.own .exact 2 [],.own .exact 5 []])]) (ts':=[(6004,0)]) (us':=[2,4,6,6004])
      ⟨⟨_,rfl,.inl (kL (i:=i) bn)⟩,⟨_,rfl,.inl rfl⟩,⟨_,rfl,.inl rfl⟩,⟨_,rfl,.inl rfl⟩,⟨_,rfl,⟨_,rfl,rfl⟩⟩,⟨_,rfl,⟨_,rfl,rfl⟩⟩,⟨_,rfl,⟨_,rfl,rfl⟩⟩,trivial⟩ ⟨⟨_,_,rfl,rfl,⟨_,_,rfl,.inl rfl,⟨_,_,rfl,.inl rfl,rfl⟩⟩⟩,⟨_,_,rfl,rfl,⟨_,_,rfl,.inl rfl,⟨_,_,rfl,.inl rfl,⟨_,_,rfl,.inl rfl,⟨_,_,rfl,.inl rfl,⟨_,_,rfl,rfl,⟨_,_,rfl,rfl,⟨_,_,rfl,rfl,rfl⟩⟩⟩⟩⟩⟩⟩⟩,⟨_,_,rfl,rfl,⟨_,_,rfl,.inl rfl,⟨_,_,rfl,.inl rfl,⟨_,_,rfl,.inl rfl,⟨_,_,rfl,.inl rfl,⟨_,_,rfl,⟨_,rfl,.inr ⟨_,_,rfl,rfl,congrArg (AV.own (.tok 6004 1) 7) M⟩⟩,⟨_,_,rfl,rfl,⟨_,_,rfl,rfl,rfl⟩⟩⟩⟩⟩⟩⟩⟩,trivial⟩ rfl ?_
     exact ih (i+1,acc++[(Vl.mk D C B A y5 y6 y7)],false) ⟨h2,XT,W,Wp⟩ fc
   | true =>
    repeat' (first|refine sz ?_|(refine zc ?_ ?_<;>intro h<;>first|(cases h;done)|rw[h]|skip)|refine uI rfl (i) rfl (dX O) rfl ?_|refine uI rfl (0) rfl (fQ g1) rfl ?_|refine uC rfl hq ?_|(refine uA rfl ?_ ?_<;>(try (show(_:Nat)*_<=_;dsimp only)))|((first|refine zt ?_|refine zu ?_ ?_)<;>intro h<;>(fail_if_success (cases h;done))<;>rw[h]))
    ·have h1:=az acc;simp only[aaa,aab];omega
    ·have M:aa acc++[bP (Vl.mk D C B A y5 y6 y7)]=aa (acc++[(Vl.mk D C B A y5 y6 y7)]):=(ij acc [_]).symm;refine AK.fY [(2,2),(4,4),(6,6)] [(6004,(0,some 6004))] (env':=[(139,.c (.int .i64 ((i+1:Nat):Int))),(138,.c (.int .i64 (aH args).length)),(137,.c (.sl 5 (aH args))),(7,.c (.bool V)),(2,.ptr 2 0),(4,.ptr 4 0),(6,.ptr 6 0)])
      (bs':=[(2,[.c (.int .i64 10),.c (.sl 2 (aE [.mk U us]))]),(4,[.c (.int .i64 0),.c (.int .i64 0),.c (.int .i64 0),.c (.str []),.own .exact 7 [],.own .exact 2 [],.own .exact 5 []]),(6,[.c (.int .i64 10),.c (.int .i64 0),.c (.int .i64 0),.c (.str []),.own (.tok 6004 0) 7 (aa (acc++[(Vl.mk D C B A y5 y6 y7)])),.own .exact 2 [],.own .exact 5 []])]) (ts':=[(6004,0)]) (us':=[2,4,6,6004])
      ⟨⟨_,rfl,.inl (kL (i:=i) bn)⟩,⟨_,rfl,.inl rfl⟩,⟨_,rfl,.inl rfl⟩,⟨_,rfl,.inl rfl⟩,⟨_,rfl,⟨_,rfl,rfl⟩⟩,⟨_,rfl,⟨_,rfl,rfl⟩⟩,⟨_,rfl,⟨_,rfl,rfl⟩⟩,trivial⟩ ⟨⟨_,_,rfl,rfl,⟨_,_,rfl,.inl rfl,⟨_,_,rfl,.inl rfl,rfl⟩⟩⟩,⟨_,_,rfl,rfl,⟨_,_,rfl,.inl rfl,⟨_,_,rfl,.inl rfl,⟨_,_,rfl,.inl rfl,⟨_,_,rfl,.inl rfl,⟨_,_,rfl,rfl,⟨_,_,rfl,rfl,⟨_,_,rfl,rfl,rfl⟩⟩⟩⟩⟩⟩⟩⟩,⟨_,_,rfl,rfl,⟨_,_,rfl,.inl rfl,⟨_,_,rfl,.inl rfl,⟨_,_,rfl,.inl rfl,⟨_,_,rfl,.inl rfl,⟨_,_,rfl,⟨_,rfl,.inr ⟨_,_,rfl,rfl,congrArg (AV.own (.tok 6004 1) 7) M⟩⟩,⟨_,_,rfl,rfl,⟨_,_,rfl,rfl,rfl⟩⟩⟩⟩⟩⟩⟩⟩,trivial⟩ rfl ?_
     exact ih (i+1,acc++[(Vl.mk D C B A y5 y6 y7)],V) ⟨h2,XT,W,Wp⟩ fc
  by_cases c:T=13
  ·subst c;rw[X9,<- int_eq];refine qn Tryz.func96 Tryz.call96 fun β hf=>?_;refine AK.seq ?_;refine AK.region Tryz.mixed rfl ?_
   repeat' (first|refine so ?_|(refine uA rfl ?_ ?_<;>(try (show(_:Nat)*_<=_;dsimp only)))|((first|refine zt ?_|refine zu ?_ ?_)<;>intro h<;>(fail_if_success (cases h;done))<;>rw[h]))
   refine AK.freeze 3 rfl rfl rfl rfl ?_
   repeat' (first|refine sz ?_|(refine zc ?_ ?_<;>intro h<;>first|(cases h;done)|rw[h]|skip)|(refine uA rfl ?_ ?_<;>(try (show(_:Nat)*_<=_;dsimp only)))|((first|refine zt ?_|refine zu ?_ ?_)<;>intro h<;>(fail_if_success (cases h;done))<;>rw[h]))
   refine AK.fY [(2,2),(4,4),(6,6)] [(6004,(0,none))] (env':=[(171,.c (.int .i64 (0:Nat))),(170,.c (.int .i64 (aH args).length)),(169,.c (.sl 5 (aH args))),(7,.c (.bool (kind==3))),(2,.ptr 2 0),(4,.ptr 4 0),(6,.ptr 6 0)])
    (bs':=[(2,[.c (.int .i64 13),.c (.sl 2 (aE ts))]),(4,[.c (.int .i64 0),.c (.int .i64 0),.c (.int .i64 0),.c (.str []),.own .exact 7 [],.own .exact 2 [],.own .exact 5 []]),(6,[.c (.int .i64 13),.c (.int .i64 0),.c (.int .i64 0),.c (.str []),.own (.tok 6004 0) 7 [],.own .exact 2 [],.own .exact 5 []])]) (ts':=[(6004,0)]) (us':=[2,4,6,6004])
    ⟨⟨_,rfl,.inl rfl⟩,⟨_,rfl,.inl rfl⟩,⟨_,rfl,.inl rfl⟩,⟨_,rfl,.inl rfl⟩,⟨_,rfl,⟨_,rfl,rfl⟩⟩,⟨_,rfl,⟨_,rfl,rfl⟩⟩,⟨_,rfl,⟨_,rfl,rfl⟩⟩,trivial⟩ ⟨⟨_,_,rfl,rfl,⟨_,_,rfl,.inl rfl,⟨_,_,rfl,.inl rfl,rfl⟩⟩⟩,⟨_,_,rfl,rfl,⟨_,_,rfl,.inl rfl,⟨_,_,rfl,.inl rfl,⟨_,_,rfl,.inl rfl,⟨_,_,rfl,.inl rfl,⟨_,_,rfl,rfl,⟨_,_,rfl,rfl,⟨_,_,rfl,rfl,rfl⟩⟩⟩⟩⟩⟩⟩⟩,⟨_,_,rfl,rfl,⟨_,_,rfl,.inl rfl,⟨_,_,rfl,.inl rfl,⟨_,_,rfl,.inl rfl,⟨_,_,rfl,.inl rfl,⟨_,_,rfl,⟨_,rfl,.inl ⟨rfl,_,rfl,.inr rfl⟩⟩,⟨_,_,rfl,rfl,⟨_,_,rfl,rfl,rfl⟩⟩⟩⟩⟩⟩⟩⟩,trivial⟩ rfl ?_
   refine AK.eM (α:=Nat×List Vl×Bool) (fun z=>z.1<=args.length/\z.1=z.2.1.length/\(eu args ts).1=z.2.1++(eu (args.drop z.1) ts).1/\((kind==3)&&(eu args ts).2)=(z.2.2&&(eu (args.drop z.1) ts).2)) (fun z=>args.length-z.1)
    (fun z=>[(171,.c (.int .i64 z.1)),(170,.c (.int .i64 (aH args).length)),(169,.c (.sl 5 (aH args))),(7,.c (.bool z.2.2)),(2,.ptr 2 0),(4,.ptr 4 0),(6,.ptr 6 0)]) (fun z=>[(2,[.c (.int .i64 13),.c (.sl 2 (aE ts))]),(4,[.c (.int .i64 0),.c (.int .i64 0),.c (.int .i64 0),.c (.str []),.own .exact 7 [],.own .exact 2 [],.own .exact 5 []]),(6,[.c (.int .i64 13),.c (.int .i64 0),.c (.int .i64 0),.c (.str []),.own (.tok 6004 0) 7 (aa z.2.1),.own .exact 2 [],.own .exact 5 []])]) (fun _=>[(6004,0)]) [2,4,6,6004] (0,[],(kind==3))
    ⟨bn,rfl,cn,rfl⟩ ⟨.inl rfl,.inl rfl,.inl rfl,.inl rfl,.inl rfl,.inl rfl,.inl rfl,trivial⟩ ⟨rfl,rfl,rfl,trivial⟩ ⟨rfl,trivial⟩ rfl rfl rfl ?_
   rintro⟨i,acc,okb⟩ ⟨I,G,W,Y⟩ ih;simp only at I G W Y;rcases gf args i I with ⟨x,O,hm⟩|he
   rotate_left
   ·have hc:=iX he;rw[he,List.drop_length,Lh]at W Y;simp only[List.append_nil,Bool.and_true]at W Y;rw[W,Y];clear ih W Y;exact dq
   have hc:=lq O;have h2:=bD O;obtain⟨xk,xn,xp,xs,J⟩:=x;have hxs:=ee hm;simp only[bN]at hxs;have T5:=eL J;have hq:=wL ts J bn fun y hy u hu=>WT xk xn xp xs J hm y hy u (dz j9 hu) (by have:=cF hu;omega);rw[dO O,Ix]at W Y;rcases hr:eE J ts with ⟨q,V⟩
   rw[hr]at hq W Y;simp only at hq W Y;rw[show ∀(a:List Vl) (b:Vl) (c:List Vl),a++b::c=a++[b]++c from fun a b c=>by simp]at W;cases okb with
   | false =>
    repeat' (first|refine sz ?_|(refine zc ?_ ?_<;>intro h<;>first|(cases h;done)|rw[h]|skip)|refine uI rfl (i) rfl (dX O) rfl ?_|refine uC rfl hq ?_|(refine uA rfl ?_ ?_<;>(try (show(_:Nat)*_<=_;dsimp only)))|((first|refine zt ?_|refine zu ?_ ?_)<;>intro h<;>(fail_if_success (cases h;done))<;>rw[h]))
    ·have h1:=az acc;simp only[aaa,aab];omega
    ·have M:aa acc++[bP (Vl.mk 11 0 0 [] q [] [])]=aa (acc++[(Vl.mk 11 0 0 [] q [] [])]):=(ij acc [_]).symm;refine AK.fY [(2,2),(4,4),(6,6)] [(6004,(0,some 6004))] (env':=[(171,.c (.int .i64 ((i+1:Nat):Int))),(170,.c (.int .i64 (aH args).length)),(169,.c (.sl 5 (aH args))),(7,.c (.bool false)),(2,.ptr 2 0),(4,.ptr 4 0),(6,.ptr 6 0)])
      (bs':=[(2,[.c (.int .i64 13),.c (.sl 2 (aE ts))]),(4,[.c (.int .i64 0),.c (.int .i64 0),.c (.int .i64 0),.c (.str []),.own .exact 7 [],.own .exact 2 [],.own .exact 5 []]),(6,[.c (.int .i64 13),.c (.int .i64 0),.c (.int .i64 0),.c (.str []),.own (.tok 6004 0) 7 (aa (acc++[(Vl.mk 11 0 0 [] q [] [])])),.own .exact 2 [],.own .exact 5 []])]) (ts':=[(6004,0)]) (us':=[2,4,6,6004])
      ⟨⟨_,rfl,.inl (kL (i:=i) bn)⟩,⟨_,rfl,.inl rfl⟩,⟨_,rfl,.inl rfl⟩,⟨_,rfl,.inl rfl⟩,⟨_,rfl,⟨_,rfl,rfl⟩⟩,⟨_,rfl,⟨_,rfl,rfl⟩⟩,⟨_,rfl,⟨_,rfl,rfl⟩⟩,trivial⟩ ⟨⟨_,_,rfl,rfl,⟨_,_,rfl,.inl rfl,⟨_,_,rfl,.inl rfl,rfl⟩⟩⟩,⟨_,_,rfl,rfl,⟨_,_,rfl,.inl rfl,⟨_,_,rfl,.inl rfl,⟨_,_,rfl,.inl rfl,⟨_,_,rfl,.inl rfl,⟨_,_,rfl,rfl,⟨_,_,rfl,rfl,⟨_,_,rfl,rfl,rfl⟩⟩⟩⟩⟩⟩⟩⟩,⟨_,_,rfl,rfl,⟨_,_,rfl,.inl rfl,⟨_,_,rfl,.inl rfl,⟨_,_,rfl,.inl rfl,⟨_,_,rfl,.inl rfl,⟨_,_,rfl,⟨_,rfl,.inr ⟨_,_,rfl,rfl,congrArg (AV.own (.tok 6004 1) 7) M⟩⟩,⟨_,_,rfl,rfl,⟨_,_,rfl,rfl,rfl⟩⟩⟩⟩⟩⟩⟩⟩,trivial⟩ rfl ?_
     exact XY
   | true =>
    cases V with
    | false =>
     repeat' (first|refine sz ?_|(refine zc ?_ ?_<;>intro h<;>first|(cases h;done)|rw[h]|skip)|refine uI rfl (i) rfl (dX O) rfl ?_|refine uC rfl hq ?_|(refine uA rfl ?_ ?_<;>(try (show(_:Nat)*_<=_;dsimp only)))|((first|refine zt ?_|refine zu ?_ ?_)<;>intro h<;>(fail_if_success (cases h;done))<;>rw[h]))
     ·have h1:=az acc;simp only[aaa,aab];omega
     ·have M:aa acc++[bP (Vl.mk 11 0 0 [] q [] [])]=aa (acc++[(Vl.mk 11 0 0 [] q [] [])]):=(ij acc [_]).symm;refine AK.fY [(2,2),(4,4),(6,6)] [(6004,(0,some 6004))] (env':=[(171,.c (.int .i64 ((i+1:Nat):Int))),(170,.c (.int .i64 (aH args).length)),(169,.c (.sl 5 (aH args))),(7,.c (.bool false)),(2,.ptr 2 0),(4,.ptr 4 0),(6,.ptr 6 0)])
       (bs':=[(2,[.c (.int .i64 13),.c (.sl 2 (aE ts))]),(4,[.c (.int .i64 0),.c (.int .i64 0),.c (.int .i64 0),.c (.str []),.own .exact 7 [],.own .exact 2 [],.own .exact 5 []]),(6,[.c (.int .i64 13),.c (.int .i64 0),.c (.int .i64 0),.c (.str []),.own (.tok 6004 0) 7 (aa (acc++[(Vl.mk 11 0 0 [] q [] [])])),.own .exact 2 [],.own .exact 5 []])]) (ts':=[(6004,0)]) (us':=[2,4,6,6004])
       ⟨⟨_,rfl,.inl (kL (i:=i) bn)⟩,⟨_,rfl,.inl rfl⟩,⟨_,rfl,.inl rfl⟩,⟨_,rfl,.inl rfl⟩,⟨_,rfl,⟨_,rfl,rfl⟩⟩,⟨_,rfl,⟨_,rfl,rfl⟩⟩,⟨_,rfl,⟨_,rfl,rfl⟩⟩,trivial⟩ ⟨⟨_,_,rfl,rfl,⟨_,_,rfl,.inl rfl,⟨_,_,rfl,.inl rfl,rfl⟩⟩⟩,⟨_,_,rfl,rfl,⟨_,_,rfl,.inl rfl,⟨_,_,rfl,.inl rfl,⟨_,_,rfl,.inl rfl,⟨_,_,rfl,.inl rfl,⟨_,_,rfl,rfl,⟨_,_,rfl,rfl,⟨_,_,rfl,rfl,rfl⟩⟩⟩⟩⟩⟩⟩⟩,⟨_,_,rfl,rfl,⟨_,_,rfl,.inl rfl,⟨_,_,rfl,.inl rfl,⟨_,_,rfl,.inl rfl,⟨_,_,rfl,.inl rfl,⟨_,_,rfl,⟨_,rfl,.inr ⟨_,_,rfl,rfl,congrArg (AV.own (.tok 6004 1) 7) M⟩⟩,⟨_,_,rfl,rfl,⟨_,_,rfl,rfl,rfl⟩⟩⟩⟩⟩⟩⟩⟩,trivial⟩ rfl ?_
      exact XY
    | true =>
     by_cases k2:xk=2;rotate_left
     ·have e2:(xk==2)=false:=by simpa using k2
      have hb':((kind==3)&&(eu args ts).2)=(false&&(eu (args.drop (i+1)) ts).2):=by rw[Y];simp[k2]
      repeat' (first|refine sz ?_|(refine zc ?_ ?_<;>intro h<;>first|(cases h;done)|rw[h]|skip)|refine uI rfl (i) rfl (dX O) rfl ?_|refine uC rfl hq ?_|(refine uA rfl ?_ ?_<;>(try (show(_:Nat)*_<=_;dsimp only)))|((first|refine zt ?_|refine zu ?_ ?_)<;>intro h<;>(fail_if_success (cases h;done))<;>rw[h]))
      ·have h1:=az acc;simp only[aaa,aab];omega
      ·have M:aa acc++[bP (Vl.mk 11 0 0 [] q [] [])]=aa (acc++[(Vl.mk 11 0 0 [] q [] [])]):=(ij acc [_]).symm;refine AK.fY [(2,2),(4,4),(6,6)] [(6004,(0,some 6004))] (env':=[(171,.c (.int .i64 ((i+1:Nat):Int))),(170,.c (.int .i64 (aH args).length)),(169,.c (.sl 5 (aH args))),(7,.c (.bool false)),(2,.ptr 2 0),(4,.ptr 4 0),(6,.ptr 6 0)])
        (bs':=[(2,[.c (.int .i64 13),.c (.sl 2 (aE ts))]),(4,[.c (.int .i64 0),.c (.int .i64 0),.c (.int .i64 0),.c (.str []),.own .exact 7 [],.own .exact 2 [],.own .exact 5 []]),(6,[.c (.int .i64 13),.c (.int .i64 0),.c (.int .i64 0),.c (.str []),.own (.tok 6004 0) 7 (aa (acc++[(Vl.mk 11 0 0 [] q [] [])])),.own .exact 2 [],.own .exact 5 []])]) (ts':=[(6004,0)]) (us':=[2,4,6,6004])
        ⟨⟨_,rfl,.inl (kL (i:=i) bn)⟩,⟨_,rfl,.inl rfl⟩,⟨_,rfl,.inl rfl⟩,⟨_,rfl,.inl rfl⟩,⟨_,rfl,⟨_,rfl,rfl⟩⟩,⟨_,rfl,⟨_,rfl,rfl⟩⟩,⟨_,rfl,⟨_,rfl,rfl⟩⟩,trivial⟩ ⟨⟨_,_,rfl,rfl,⟨_,_,rfl,.inl rfl,⟨_,_,rfl,.inl rfl,rfl⟩⟩⟩,⟨_,_,rfl,rfl,⟨_,_,rfl,.inl rfl,⟨_,_,rfl,.inl rfl,⟨_,_,rfl,.inl rfl,⟨_,_,rfl,.inl rfl,⟨_,_,rfl,rfl,⟨_,_,rfl,rfl,⟨_,_,rfl,rfl,rfl⟩⟩⟩⟩⟩⟩⟩⟩,⟨_,_,rfl,rfl,⟨_,_,rfl,.inl rfl,⟨_,_,rfl,.inl rfl,⟨_,_,rfl,.inl rfl,⟨_,_,rfl,.inl rfl,⟨_,_,rfl,⟨_,rfl,.inr ⟨_,_,rfl,rfl,congrArg (AV.own (.tok 6004 1) 7) M⟩⟩,⟨_,_,rfl,rfl,⟨_,_,rfl,rfl,rfl⟩⟩⟩⟩⟩⟩⟩⟩,trivial⟩ rfl ?_
       exact ih (i+1,acc++[(Vl.mk 11 0 0 [] q [] [])],false) ⟨h2,XT,W,hb'⟩ fc
     subst k2;have hb':((kind==3)&&(eu args ts).2)=((xp==28)&&(eu (args.drop (i+1)) ts).2):=by rw[Y,int_eq];simp
     repeat' (first|refine sz ?_|(refine zc ?_ ?_<;>intro h<;>first|(cases h;done)|rw[h]|skip)|refine uI rfl (i) rfl (dX O) rfl ?_|refine uC rfl hq ?_|(refine uA rfl ?_ ?_<;>(try (show(_:Nat)*_<=_;dsimp only)))|((first|refine zt ?_|refine zu ?_ ?_)<;>intro h<;>(fail_if_success (cases h;done))<;>rw[h]))
     ·have h1:=az acc;simp only[aaa,aab];omega
     ·have M:aa acc++[bP (Vl.mk 11 0 0 [] q [] [])]=aa (acc++[(Vl.mk 11 0 0 [] q [] [])]):=(ij acc [_]).symm;refine AK.fY [(2,2),(4,4),(6,6)] [(6004,(0,some 6004))] (env':=[(171,.c (.int .i64 ((i+1:Nat):Int))),(170,.c (.int .i64 (aH args).length)),(169,.c (.sl 5 (aH args))),(7,.c (.bool (xp==28))),(2,.ptr 2 0),(4,.ptr 4 0),(6,.ptr 6 0)])
       (bs':=[(2,[.c (.int .i64 13),.c (.sl 2 (aE ts))]),(4,[.c (.int .i64 0),.c (.int .i64 0),.c (.int .i64 0),.c (.str []),.own .exact 7 [],.own .exact 2 [],.own .exact 5 []]),(6,[.c (.int .i64 13),.c (.int .i64 0),.c (.int .i64 0),.c (.str []),.own (.tok 6004 0) 7 (aa (acc++[(Vl.mk 11 0 0 [] q [] [])])),.own .exact 2 [],.own .exact 5 []])]) (ts':=[(6004,0)]) (us':=[2,4,6,6004])
       ⟨⟨_,rfl,.inl (kL (i:=i) bn)⟩,⟨_,rfl,.inl rfl⟩,⟨_,rfl,.inl rfl⟩,⟨_,rfl,.inl rfl⟩,⟨_,rfl,⟨_,rfl,rfl⟩⟩,⟨_,rfl,⟨_,rfl,rfl⟩⟩,⟨_,rfl,⟨_,rfl,rfl⟩⟩,trivial⟩ ⟨⟨_,_,rfl,rfl,⟨_,_,rfl,.inl rfl,⟨_,_,rfl,.inl rfl,rfl⟩⟩⟩,⟨_,_,rfl,rfl,⟨_,_,rfl,.inl rfl,⟨_,_,rfl,.inl rfl,⟨_,_,rfl,.inl rfl,⟨_,_,rfl,.inl rfl,⟨_,_,rfl,rfl,⟨_,_,rfl,rfl,⟨_,_,rfl,rfl,rfl⟩⟩⟩⟩⟩⟩⟩⟩,⟨_,_,rfl,rfl,⟨_,_,rfl,.inl rfl,⟨_,_,rfl,.inl rfl,⟨_,_,rfl,.inl rfl,⟨_,_,rfl,.inl rfl,⟨_,_,rfl,⟨_,rfl,.inr ⟨_,_,rfl,rfl,congrArg (AV.own (.tok 6004 1) 7) M⟩⟩,⟨_,_,rfl,rfl,⟨_,_,rfl,rfl,rfl⟩⟩⟩⟩⟩⟩⟩⟩,trivial⟩ rfl ?_
      exact ih (i+1,acc++[(Vl.mk 11 0 0 [] q [] [])],(xp==28)) ⟨h2,XT,W,hb'⟩ fc
  have hT:T=8\/T=14\/T=15:=by have:=Lf Li;omega
  rw[aau T kind N P hT];rcases hT with rfl|rfl|rfl
  ·refine qn Tryz.func96 Tryz.call96 fun β hf=>?_;refine AK.seq ?_;refine AK.region Tryz.mixed rfl ?_
   repeat' (first|refine so ?_|(refine uA rfl ?_ ?_<;>(try (show(_:Nat)*_<=_;dsimp only)))|((first|refine zt ?_|refine zu ?_ ?_)<;>intro h<;>(fail_if_success (cases h;done))<;>rw[h]))
   refine AK.freeze 3 rfl rfl rfl rfl ?_;exact dq
  ·refine qn Tryz.func96 Tryz.call96 fun β hf=>?_;refine AK.seq ?_;refine AK.region Tryz.mixed rfl ?_
   repeat' (first|refine so ?_|(refine uA rfl ?_ ?_<;>(try (show(_:Nat)*_<=_;dsimp only)))|((first|refine zt ?_|refine zu ?_ ?_)<;>intro h<;>(fail_if_success (cases h;done))<;>rw[h]))
   refine AK.freeze 3 rfl rfl rfl rfl ?_;exact dq
  ·refine qn Tryz.func96 Tryz.call96 fun β hf=>?_;refine AK.seq ?_;refine AK.region Tryz.mixed rfl ?_
   repeat' (first|refine so ?_|(refine uA rfl ?_ ?_<;>(try (show(_:Nat)*_<=_;dsimp only)))|((first|refine zt ?_|refine zu ?_ ?_)<;>intro h<;>(fail_if_success (cases h;done))<;>rw[h]))
   refine AK.freeze 3 rfl rfl rfl rfl ?_;exact dq
termination_by n=>SizeOf.sizeOf n
decreasing_by
 ·have h1:=List.sizeOf_lt_of_mem O;simp at h1 ⊢;omega
 ·have h1:=List.sizeOf_lt_of_mem O;have h2:=List.sizeOf_lt_of_mem hy;simp at h1 h2 ⊢;omega
end Go.Proofs
