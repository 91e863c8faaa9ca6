/- A part of the proof. -/
import Derived.Test.YtpnpbmbdkinajaaGreatDoorChkAG
import Derived.Test.YtpnpbmbdkinajaaGreatDoorKind8G
import Derived.Test.YtpnpbmbdkinajaaGreatDoorRun4G
import Derived.Test.YtpnpbmbdkinajaaGreatDoorVal3G
set_option linter.all false
set_option maxHeartbeats 0
set_option maxRecDepth 100000
open Go.IntKind Go.Proofs.Tryz
namespace Go.Proofs
open Go.cE
def OY(l:Θ)(b:Prop)[Decidable b](h:b↔l.length=0):((((aD l).length:Nat):Int)==0)=decide b:=by rw[bq,aiO];simp[h]
def int_eq(a b:Int):(a==b)=decide (a=b):=by rw[aiO];simp
attribute [local irreducible] AK ag aZ bS dW eL eM eC
def xJ:∀(n:Nd)(t:Ty),iS t=false->bE n<=8589934593->bh t<=8589934593->af 64 [ct t,aV n] (.eK [bz (dW n t).1,.bool (dW n t).2])
 |.mk Y N P S args,.mk T o,hb,hn,ht=>by
  simp only[bE]at hn;simp only[bh]at ht;have Fg:=gB args;have A:∀x∈args,∀u,iS u=false->bh u<=8589934593->af 64 [ct u,aV x] (.eK [bz (dW x u).1,.bool (dW x u).2]):=λx O u F h2=>xJ x u F ab8 h2;have rF:∀k n p s K,Nd.mk k n p s K∈args->∀y∈K,∀u,iS u=false->bh u<=8589934593->af 64 [ct u,aV y] (.eK [bz (dW y u).1,.bool (dW y u).2]):=λk n p s K O y hy u F h2=>xJ y u F (by have h3:=eS O;have h4:=eS hy;simp only[bE]at h3;omega) h2;obtain⟨SC,jN⟩:=jw hb;simp only[cL,aQ]at SC jN;have B:af 85 [.sl 2 (az o),.sl 5 (aD args)] (.eK [.sl 7 (aa (eL args o).1),.bool (eL args o).2]) :=
   A6 o args ai λx O u hu=>A x O u (dP jN hu) (by have:=cN hu;omega)
  by_cases c:T=1
  ·subst c;rw[ajg];by_cases H:Y=2/\P=20
   ·obtain⟨rfl,rfl⟩:=H;have F:=gZ 2 N 20 20 S args;rw[show decide ((2:Int)=2/\(20:Int)=20) from rfl]at F;have e:=OY args ((2:Int)=2/\(20:Int)=20/\args.length=0) cS;refine qn func64 call64 λm hf=>?_;refine AK.seq ?_;refine AK.region mixed Z ?_
    repeat' (first|refine so ?_|refine zu ?_ ?_|(intro h;first|(cases h;done)|rw[h]|skip)|(refine uA Z ?_ ?_<;>(try (show(_:Nat)*_<=_;dsimp only))))
    refine AK.freeze 3 Z Z Z Z ?_
    repeat' (first|refine sz ?_|refine zc ?_ ?_|(intro h;first|(cases h;done)|rw[h]|skip)|refine uC Z F ?_|(refine uA Z ?_ ?_<;>(try (show(_:Nat)*_<=_;dsimp only))))
    all_goals exact ahm (λb=>CV.eK [bz (qQ 1),CV.bool b]) e
   have F:=gZ Y N P 20 S args;rw[show decide (Y=2/\P=20)=false from acf H]at F;rw[show decide (Y=2/\P=20/\args.length=0)=false from acf (λh=>H ⟨h.1,h.2.1⟩)];refine qn func64 call64 λm hf=>?_;refine AK.seq ?_;refine AK.region mixed Z ?_
   repeat' (first|refine so ?_|refine zu ?_ ?_|(intro h;first|(cases h;done)|rw[h]|skip)|(refine uA Z ?_ ?_<;>(try (show(_:Nat)*_<=_;dsimp only))))
   refine AK.freeze 3 Z Z Z Z ?_;exact dq
  by_cases c:T=2
  ·subst c;rw[ajh];by_cases H:Y=2/\P=21
   ·obtain⟨rfl,rfl⟩:=H;have F:=gZ 2 N 21 21 S args;have h2:=gZ 2 N 21 22 S args;rw[show decide ((2:Int)=2/\(21:Int)=21) from rfl]at F;rw[show decide ((2:Int)=2/\(21:Int)=22)=false from rfl]at h2;have e:=OY args ((2:Int)=2/\((21:Int)=21\/(21:Int)=22)/\args.length=0) cS;refine qn func64 call64 λm hf=>?_;refine AK.seq ?_;refine AK.region mixed Z ?_
    repeat' (first|refine so ?_|refine zu ?_ ?_|(intro h;first|(cases h;done)|rw[h]|skip)|(refine uA Z ?_ ?_<;>(try (show(_:Nat)*_<=_;dsimp only))))
    refine AK.freeze 3 Z Z Z Z ?_
    repeat' (first|refine sz ?_|refine zc ?_ ?_|(intro h;first|(cases h;done)|rw[h]|skip)|refine uC Z F ?_|refine uC Z h2 ?_|(refine uA Z ?_ ?_<;>(try (show(_:Nat)*_<=_;dsimp only))))
    all_goals exact ahm (λb=>CV.eK [bz (.mk 2 (i64.wrap (22-21)) 0 [] [] [] []),CV.bool b]) e
   by_cases G:Y=2/\P=22
   ·obtain⟨rfl,rfl⟩:=G;have F:=gZ 2 N 22 21 S args;have h2:=gZ 2 N 22 22 S args;rw[show decide ((2:Int)=2/\(22:Int)=21)=false from rfl]at F;rw[show decide ((2:Int)=2/\(22:Int)=22) from rfl]at h2;have e:=OY args ((2:Int)=2/\((22:Int)=21\/(22:Int)=22)/\args.length=0) cS;refine qn func64 call64 λm hf=>?_;refine AK.seq ?_;refine AK.region mixed Z ?_
    repeat' (first|refine so ?_|refine zu ?_ ?_|(intro h;first|(cases h;done)|rw[h]|skip)|(refine uA Z ?_ ?_<;>(try (show(_:Nat)*_<=_;dsimp only))))
    refine AK.freeze 3 Z Z Z Z ?_
    repeat' (first|refine sz ?_|refine zc ?_ ?_|(intro h;first|(cases h;done)|rw[h]|skip)|refine uC Z F ?_|refine uC Z h2 ?_|(refine uA Z ?_ ?_<;>(try (show(_:Nat)*_<=_;dsimp only))))
    all_goals exact ahm (λb=>CV.eK [bz (.mk 2 (i64.wrap (22-22)) 0 [] [] [] []),CV.bool b]) e
   have F:=gZ Y N P 21 S args;have h2:=gZ Y N P 22 S args;rw[acf H]at F;rw[acf G]at h2;rw[show decide (Y=2/\(P=21\/P=22)/\args.length=0)=false from acf (λh=>h.2.1.elim (λg=>H ⟨h.1,g⟩) (λg=>G ⟨h.1,g⟩))];refine qn func64 call64 λm hf=>?_;refine AK.seq ?_;refine AK.region mixed Z ?_
   repeat' (first|refine so ?_|refine zu ?_ ?_|(intro h;first|(cases h;done)|rw[h]|skip)|(refine uA Z ?_ ?_<;>(try (show(_:Nat)*_<=_;dsimp only))))
   refine AK.freeze 3 Z Z Z Z ?_;exact dq
  by_cases c:T=3
  ·subst c;rw[WA 3 Y N P bn,<- int_eq];refine qn func64 call64 λm hf=>?_;refine AK.seq ?_;refine AK.region mixed Z ?_
   repeat' (first|refine so ?_|refine zu ?_ ?_|(intro h;first|(cases h;done)|rw[h]|skip)|(refine uA Z ?_ ?_<;>(try (show(_:Nat)*_<=_;dsimp only))))
   refine AK.freeze 3 Z Z Z Z ?_;exact dq
  by_cases c:T=4
  ·subst c;rw[WA 4 Y N P bn,<- int_eq];refine qn func64 call64 λm hf=>?_;refine AK.seq ?_;refine AK.region mixed Z ?_
   repeat' (first|refine so ?_|refine zu ?_ ?_|(intro h;first|(cases h;done)|rw[h]|skip)|(refine uA Z ?_ ?_<;>(try (show(_:Nat)*_<=_;dsimp only))))
   refine AK.freeze 3 Z Z Z Z ?_;exact dq
  by_cases c:T=5
  ·subst c;rw[WA 5 Y N P bn,<- int_eq];refine qn func64 call64 λm hf=>?_;refine AK.seq ?_;refine AK.region mixed Z ?_
   repeat' (first|refine so ?_|refine zu ?_ ?_|(intro h;first|(cases h;done)|rw[h]|skip)|(refine uA Z ?_ ?_<;>(try (show(_:Nat)*_<=_;dsimp only))))
   refine AK.freeze 3 Z Z Z Z ?_;exact dq
  by_cases c:T=7
  ·subst c;rw[WA 7 Y N P bn,<- int_eq];refine qn func64 call64 λm hf=>?_;refine AK.seq ?_;refine AK.region mixed Z ?_
   repeat' (first|refine so ?_|refine zu ?_ ?_|(intro h;first|(cases h;done)|rw[h]|skip)|(refine uA Z ?_ ?_<;>(try (show(_:Nat)*_<=_;dsimp only))))
   refine AK.freeze 3 Z Z Z Z ?_;exact dq
  by_cases c:T=6
  ·subst c;rw[aji,<- int_eq];refine qn func64 call64 λm hf=>?_;refine AK.seq ?_;refine AK.region mixed Z ?_
   repeat' (first|refine so ?_|refine zu ?_ ?_|(intro h;first|(cases h;done)|rw[h]|skip)|(refine uA Z ?_ ?_<;>(try (show(_:Nat)*_<=_;dsimp only))))
   refine AK.freeze 3 Z Z Z Z ?_;exact dq
  by_cases c:T=9
  ·subst c;by_cases H:Y=2/\P=27
   ·obtain⟨rfl,rfl⟩:=H;rw[ag0];have F:=gZ 2 N 27 27 S args;rw[show decide ((2:Int)=2/\(27:Int)=27) from rfl]at F;have e:=OY args (args.length=0) Iff.rfl;refine qn func64 call64 λm hf=>?_;refine AK.seq ?_;refine AK.region mixed Z ?_
    repeat' (first|refine so ?_|refine zu ?_ ?_|(intro h;first|(cases h;done)|rw[h]|skip)|(refine uA Z ?_ ?_<;>(try (show(_:Nat)*_<=_;dsimp only))))
    refine AK.freeze 3 Z Z Z Z ?_
    repeat' (first|refine sz ?_|refine zc ?_ ?_|(intro h;first|(cases h;done)|rw[h]|skip)|refine uC Z F ?_|(refine uA Z ?_ ?_<;>(try (show(_:Nat)*_<=_;dsimp only))))
    all_goals exact ahm (λb=>CV.eK [bz (qQ 9),CV.bool b]) e
   by_cases G:Y=2/\P=26
   ·obtain⟨rfl,rfl⟩:=G;rw[ag1];have F:=gZ 2 N 26 27 S args;rw[show decide ((2:Int)=2/\(26:Int)=27)=false from rfl]at F;have h2:=gZ 2 N 26 26 S args;rw[show decide ((2:Int)=2/\(26:Int)=26) from rfl]at h2;generalize eL args o=z at B;refine qn func64 call64 λm hf=>?_;refine AK.seq ?_;refine AK.region mixed Z ?_
    repeat' (first|refine so ?_|refine zu ?_ ?_|(intro h;first|(cases h;done)|rw[h]|skip)|(refine uA Z ?_ ?_<;>(try (show(_:Nat)*_<=_;dsimp only))))
    refine AK.freeze 3 Z Z Z Z ?_;exact dq
   rw[ag2 _ _ _ _ _ _ H G];have F:=gZ Y N P 27 S args;have h2:=gZ Y N P 26 S args;rw[acf H]at F;rw[acf G]at h2;refine qn func64 call64 λm hf=>?_;refine AK.seq ?_;refine AK.region mixed Z ?_
   repeat' (first|refine so ?_|refine zu ?_ ?_|(intro h;first|(cases h;done)|rw[h]|skip)|(refine uA Z ?_ ?_<;>(try (show(_:Nat)*_<=_;dsimp only))))
   refine AK.freeze 3 Z Z Z Z ?_;exact dq
  by_cases c:T=11
  ·subst c;by_cases H:Y=2/\P=23
   ·obtain⟨rfl,rfl⟩:=H;rw[ad3];have F:=gZ 2 N 23 23 S args;rw[show decide ((2:Int)=2/\(23:Int)=23) from rfl]at F;generalize eL args o=z at B;refine qn func64 call64 λm hf=>?_;refine AK.seq ?_;refine AK.region mixed Z ?_
    repeat' (first|refine so ?_|refine zu ?_ ?_|(intro h;first|(cases h;done)|rw[h]|skip)|(refine uA Z ?_ ?_<;>(try (show(_:Nat)*_<=_;dsimp only))))
    refine AK.freeze 3 Z Z Z Z ?_;exact dq
   rw[ad4 _ _ _ _ _ _ H];have F:=gZ Y N P 23 S args;rw[acf H]at F;refine qn func64 call64 λm hf=>?_;refine AK.seq ?_;refine AK.region mixed Z ?_
   repeat' (first|refine so ?_|refine zu ?_ ?_|(intro h;first|(cases h;done)|rw[h]|skip)|(refine uA Z ?_ ?_<;>(try (show(_:Nat)*_<=_;dsimp only))))
   refine AK.freeze 3 Z Z Z Z ?_;exact dq
  by_cases c:T=12
  ·subst c;obtain⟨u,u',rfl⟩:=FE (show o.length=2 by(have:arity 12=2:=by decide);omega);by_cases H:Y=2/\P=24
   ·obtain⟨rfl,rfl⟩:=H;rw[ad5];have F:=gZ 2 N 24 24 S args;rw[show decide ((2:Int)=2/\(24:Int)=24) from rfl]at F;have h2:=gZ 2 N 24 25 S args;rw[show decide ((2:Int)=2/\(24:Int)=25)=false from rfl]at h2;have hr:=A6 [u] args ai λx O w D=>A x O w (dP jN aex) YP;generalize eL args [u]=z at hr;refine qn func64 call64 λm hf=>?_;refine AK.seq ?_;refine AK.region mixed Z ?_
    repeat' (first|refine so ?_|refine zu ?_ ?_|(intro h;first|(cases h;done)|rw[h]|skip)|(refine uA Z ?_ ?_<;>(try (show(_:Nat)*_<=_;dsimp only))))
    refine AK.freeze 3 Z Z Z Z ?_;exact dq
   by_cases G:Y=2/\P=25
   ·obtain⟨rfl,rfl⟩:=G;rw[ad6];have F:=gZ 2 N 25 24 S args;rw[show decide ((2:Int)=2/\(25:Int)=24)=false from rfl]at F;have h2:=gZ 2 N 25 25 S args;rw[show decide ((2:Int)=2/\(25:Int)=25) from rfl]at h2;have hr:=A6 [u'] args ai λx O w D=>A x O w (dP jN aex) YP;generalize eL args [u']=z at hr;refine qn func64 call64 λm hf=>?_;refine AK.seq ?_;refine AK.region mixed Z ?_
    repeat' (first|refine so ?_|refine zu ?_ ?_|(intro h;first|(cases h;done)|rw[h]|skip)|(refine uA Z ?_ ?_<;>(try (show(_:Nat)*_<=_;dsimp only))))
    refine AK.freeze 3 Z Z Z Z ?_;exact dq
   rw[ad7 _ _ _ _ _ _ H G];have F:=gZ Y N P 24 S args;have h2:=gZ Y N P 25 S args;rw[acf H]at F;rw[acf G]at h2;refine qn func64 call64 λm hf=>?_;refine AK.seq ?_;refine AK.region mixed Z ?_
   repeat' (first|refine so ?_|refine zu ?_ ?_|(intro h;first|(cases h;done)|rw[h]|skip)|(refine uA Z ?_ ?_<;>(try (show(_:Nat)*_<=_;dsimp only))))
   refine AK.freeze 3 Z Z Z Z ?_;exact dq
  by_cases c:T=10
  ·subst c;obtain⟨u,rfl⟩:=Sc (show o.length=1 by(have:arity 10=1:=by decide);omega);rw[ag3,<- int_eq];have hu:iS u=false:=dP jN cS;have yA:bh u<=8589934593:=by have:=cN (l:=[u]) (x:=u) cS;omega
   have g1:[u][0]?=some u:=rfl;obtain⟨U,f⟩:=u;refine qn func64 call64 λm hf=>?_;refine AK.seq ?_;refine AK.region mixed Z ?_
   repeat' (first|refine so ?_|refine zu ?_ ?_|(intro h;first|(cases h;done)|rw[h]|skip)|(refine uA Z ?_ ?_<;>(try (show(_:Nat)*_<=_;dsimp only))))
   refine AK.freeze 3 Z Z Z Z ?_
   repeat' (first|refine sz ?_|refine zc ?_ ?_|(intro h;first|(cases h;done)|rw[h]|skip)|(refine uA Z ?_ ?_<;>(try (show(_:Nat)*_<=_;dsimp only))))
   refine AK.gK [(2,2),(4,4),(6,6)] [(6004,(0,none))] (env':=[(139,Υ (0:Nat)),(138,Υ (aD args).length),(137,.c (.sl 5 (aD args))),(7,.c (.bool (Y==3))),(2,.ptr 2 0),(4,.ptr 4 0),(6,.ptr 6 0)])
    (bs':=[(2,[Υ 10,.c (.sl 2 (az [.mk U f]))]),(4,[Υ 0,Υ 0,Υ 0,.c (.str []),.own .exact 7 [],.own .exact 2 [],.own .exact 5 []]),(6,[Υ 10,Υ 0,Υ 0,.c (.str []),.own (.tok 6004 0) 7 [],.own .exact 2 [],.own .exact 5 []])]) (ts':=[(6004,0)]) (us':=[2,4,6,6004])
    ce ce Z ?_
   refine AK.dg (α:=Nat×Ξ×Bool) (λz=>z.1<=args.length/\z.1=z.2.1.length/\(eM args (.mk U f)).1=z.2.1++(eM (args.drop z.1) (.mk U f)).1/\((Y==3)&&(eM args (.mk U f)).2)=(z.2.2&&(eM (args.drop z.1) (.mk U f)).2)) (λz=>args.length-z.1)
    (λz=>[(139,Υ z.1),(138,Υ (aD args).length),(137,.c (.sl 5 (aD args))),(7,.c (.bool z.2.2)),(2,.ptr 2 0),(4,.ptr 4 0),(6,.ptr 6 0)]) (λz=>[(2,[Υ 10,.c (.sl 2 (az [.mk U f]))]),(4,[Υ 0,Υ 0,Υ 0,.c (.str []),.own .exact 7 [],.own .exact 2 [],.own .exact 5 []]),(6,[Υ 10,Υ 0,Υ 0,.c (.str []),.own (.tok 6004 0) 7 (aa z.2.1),.own .exact 2 [],.own .exact 5 []])]) (λ_=>[(6004,0)]) [2,4,6,6004] (0,[],(Y==3))
    ⟨ai,Z,cS,Z⟩ ce ⟨Z,Z,Z,trivial⟩ ⟨Z,trivial⟩ Z Z Z ?_
   rintro⟨i,acc,ω⟩ ⟨H,J,W,V⟩ ih;simp only at H J W V;rcases fU args i H with ⟨x,O,hm⟩|he
   rotate_left;have hc:=j9 he;rw[he,aho,Sa]at W V;simp only[ahq,ajy]at W V;rw[W,V];clear ih W V;exact dq;have hc:=mG O;have h2:=bp O;have j:=A x hm (.mk U f) hu yA;rw[cT O,OW]at W V;rcases hr:dW x (.mk U f)with ⟨⟨I,E,C,d,y5,y6,y7⟩,M⟩
   rw[hr]at j W V;simp only at j W V;rw[show ∀(a:Ξ)(b:Vl)(c:Ξ),a++b::c=a++[b]++c from λa b c=>by simp]at W;obtain⟨xk,xn,xp,xs,K⟩:=x;cases ω with
   |false =>
    repeat' (first|refine sz ?_|refine zc ?_ ?_|(intro h;first|(cases h;done)|rw[h]|skip)|refine uI Z (i) Z (ff O) Z ?_|refine uI Z (0) Z (ij g1) Z ?_|refine uC Z j ?_|(refine uA Z ?_ ?_<;>(try (show(_:Nat)*_<=_;dsimp only))))
    have F:=aE acc;simp only[aat,aav];omega;have Q:aa acc++[bz (Vl.mk I E C d y5 y6 y7)]=aa (acc++[(Vl.mk I E C d y5 y6 y7)]):=(jC acc [_]).symm;refine AK.gK [(2,2),(4,4),(6,6)] [(6004,(0,some 6004))] (env':=[(139,Υ ((i+1:Nat):Int)),(138,Υ (aD args).length),(137,.c (.sl 5 (aD args))),(7,.c (.bool false)),(2,.ptr 2 0),(4,.ptr 4 0),(6,.ptr 6 0)])
     (bs':=[(2,[Υ 10,.c (.sl 2 (az [.mk U f]))]),(4,[Υ 0,Υ 0,Υ 0,.c (.str []),.own .exact 7 [],.own .exact 2 [],.own .exact 5 []]),(6,[Υ 10,Υ 0,Υ 0,.c (.str []),.own (.tok 6004 0) 7 (aa (acc++[(Vl.mk I E C d y5 y6 y7)])),.own .exact 2 [],.own .exact 5 []])]) (ts':=[(6004,0)]) (us':=[2,4,6,6004])
     ⟨⟨_,Z,.inl (lI (i:=i) ai)⟩,⟨_,Z,.inl Z⟩,⟨_,Z,.inl Z⟩,⟨_,Z,.inl Z⟩,⟨_,Z,⟨_,Z,Z⟩⟩,⟨_,Z,⟨_,Z,Z⟩⟩,⟨_,Z,⟨_,Z,Z⟩⟩,trivial⟩ ⟨ce,ce,⟨_,_,Z,Z,⟨_,_,Z,.inl Z,⟨_,_,Z,.inl Z,⟨_,_,Z,.inl Z,⟨_,_,Z,.inl Z,⟨_,_,Z,⟨_,Z,.inr ⟨_,_,Z,Z,ahm (AV.own (.tok 6004 1) 7) Q⟩⟩,ce⟩⟩⟩⟩⟩⟩,trivial⟩ Z ?_
    exact ih (i+1,acc++[(Vl.mk I E C d y5 y6 y7)],false) ⟨h2,agx,W,aeE⟩ fe
   |true =>
    repeat' (first|refine sz ?_|refine zc ?_ ?_|(intro h;first|(cases h;done)|rw[h]|skip)|refine uI Z (i) Z (ff O) Z ?_|refine uI Z (0) Z (ij g1) Z ?_|refine uC Z j ?_|(refine uA Z ?_ ?_<;>(try (show(_:Nat)*_<=_;dsimp only))))
    have F:=aE acc;simp only[aat,aav];omega;have Q:aa acc++[bz (Vl.mk I E C d y5 y6 y7)]=aa (acc++[(Vl.mk I E C d y5 y6 y7)]):=(jC acc [_]).symm;refine AK.gK [(2,2),(4,4),(6,6)] [(6004,(0,some 6004))] (env':=[(139,Υ ((i+1:Nat):Int)),(138,Υ (aD args).length),(137,.c (.sl 5 (aD args))),(7,.c (.bool M)),(2,.ptr 2 0),(4,.ptr 4 0),(6,.ptr 6 0)])
     (bs':=[(2,[Υ 10,.c (.sl 2 (az [.mk U f]))]),(4,[Υ 0,Υ 0,Υ 0,.c (.str []),.own .exact 7 [],.own .exact 2 [],.own .exact 5 []]),(6,[Υ 10,Υ 0,Υ 0,.c (.str []),.own (.tok 6004 0) 7 (aa (acc++[(Vl.mk I E C d y5 y6 y7)])),.own .exact 2 [],.own .exact 5 []])]) (ts':=[(6004,0)]) (us':=[2,4,6,6004])
     ⟨⟨_,Z,.inl (lI (i:=i) ai)⟩,⟨_,Z,.inl Z⟩,⟨_,Z,.inl Z⟩,⟨_,Z,.inl Z⟩,⟨_,Z,⟨_,Z,Z⟩⟩,⟨_,Z,⟨_,Z,Z⟩⟩,⟨_,Z,⟨_,Z,Z⟩⟩,trivial⟩ ⟨ce,ce,⟨_,_,Z,Z,⟨_,_,Z,.inl Z,⟨_,_,Z,.inl Z,⟨_,_,Z,.inl Z,⟨_,_,Z,.inl Z,⟨_,_,Z,⟨_,Z,.inr ⟨_,_,Z,Z,ahm (AV.own (.tok 6004 1) 7) Q⟩⟩,ce⟩⟩⟩⟩⟩⟩,trivial⟩ Z ?_
    exact ih (i+1,acc++[(Vl.mk I E C d y5 y6 y7)],M) ⟨h2,agx,W,aeE⟩ fe
  by_cases c:T=13
  ·subst c;rw[ag4,<- int_eq];refine qn func64 call64 λm hf=>?_;refine AK.seq ?_;refine AK.region mixed Z ?_
   repeat' (first|refine so ?_|refine zu ?_ ?_|(intro h;first|(cases h;done)|rw[h]|skip)|(refine uA Z ?_ ?_<;>(try (show(_:Nat)*_<=_;dsimp only))))
   refine AK.freeze 3 Z Z Z Z ?_
   repeat' (first|refine sz ?_|refine zc ?_ ?_|(intro h;first|(cases h;done)|rw[h]|skip)|(refine uA Z ?_ ?_<;>(try (show(_:Nat)*_<=_;dsimp only))))
   refine AK.gK [(2,2),(4,4),(6,6)] [(6004,(0,none))] (env':=[(171,Υ (0:Nat)),(170,Υ (aD args).length),(169,.c (.sl 5 (aD args))),(7,.c (.bool (Y==3))),(2,.ptr 2 0),(4,.ptr 4 0),(6,.ptr 6 0)])
    (bs':=[(2,[Υ 13,.c (.sl 2 (az o))]),(4,[Υ 0,Υ 0,Υ 0,.c (.str []),.own .exact 7 [],.own .exact 2 [],.own .exact 5 []]),(6,[Υ 13,Υ 0,Υ 0,.c (.str []),.own (.tok 6004 0) 7 [],.own .exact 2 [],.own .exact 5 []])]) (ts':=[(6004,0)]) (us':=[2,4,6,6004])
    ce ce Z ?_
   refine AK.dg (α:=Nat×Ξ×Bool) (λz=>z.1<=args.length/\z.1=z.2.1.length/\(eC args o).1=z.2.1++(eC (args.drop z.1) o).1/\((Y==3)&&(eC args o).2)=(z.2.2&&(eC (args.drop z.1) o).2)) (λz=>args.length-z.1)
    (λz=>[(171,Υ z.1),(170,Υ (aD args).length),(169,.c (.sl 5 (aD args))),(7,.c (.bool z.2.2)),(2,.ptr 2 0),(4,.ptr 4 0),(6,.ptr 6 0)]) (λz=>[(2,[Υ 13,.c (.sl 2 (az o))]),(4,[Υ 0,Υ 0,Υ 0,.c (.str []),.own .exact 7 [],.own .exact 2 [],.own .exact 5 []]),(6,[Υ 13,Υ 0,Υ 0,.c (.str []),.own (.tok 6004 0) 7 (aa z.2.1),.own .exact 2 [],.own .exact 5 []])]) (λ_=>[(6004,0)]) [2,4,6,6004] (0,[],(Y==3))
    ⟨ai,Z,cS,Z⟩ ce ⟨Z,Z,Z,trivial⟩ ⟨Z,trivial⟩ Z Z Z ?_
   rintro⟨i,acc,ω⟩ ⟨H,J,W,V⟩ ih;simp only at H J W V;rcases fU args i H with ⟨x,O,hm⟩|he
   rotate_left;have hc:=j9 he;rw[he,aho,Sb]at W V;simp only[ahq,ajy]at W V;rw[W,V];clear ih W V;exact dq;have hc:=mG O;have h2:=bp O;obtain⟨xk,xn,xp,xs,K⟩:=x;have χ:=eS hm;simp only[bE]at χ;have υ:=gB K;have j:=A6 o K ai λy hy u hu=>rF xk xn xp xs K hm y hy u (dP jN hu) (by have:=cN hu;omega);rw[cT O,OX]at W V;rcases hr:eL K o with ⟨q,M⟩
   rw[hr]at j W V;simp only at j W V;rw[show ∀(a:Ξ)(b:Vl)(c:Ξ),a++b::c=a++[b]++c from λa b c=>by simp]at W;cases ω with
   |false =>
    repeat' (first|refine sz ?_|refine zc ?_ ?_|(intro h;first|(cases h;done)|rw[h]|skip)|refine uI Z (i) Z (ff O) Z ?_|refine uC Z j ?_|(refine uA Z ?_ ?_<;>(try (show(_:Nat)*_<=_;dsimp only))))
    have F:=aE acc;simp only[aat,aav];omega;have Q:aa acc++[bz (Vl.mk 11 0 0 [] q [] [])]=aa (acc++[(Vl.mk 11 0 0 [] q [] [])]):=(jC acc [_]).symm;refine AK.gK [(2,2),(4,4),(6,6)] [(6004,(0,some 6004))] (env':=[(171,Υ ((i+1:Nat):Int)),(170,Υ (aD args).length),(169,.c (.sl 5 (aD args))),(7,.c (.bool false)),(2,.ptr 2 0),(4,.ptr 4 0),(6,.ptr 6 0)])
     (bs':=[(2,[Υ 13,.c (.sl 2 (az o))]),(4,[Υ 0,Υ 0,Υ 0,.c (.str []),.own .exact 7 [],.own .exact 2 [],.own .exact 5 []]),(6,[Υ 13,Υ 0,Υ 0,.c (.str []),.own (.tok 6004 0) 7 (aa (acc++[(Vl.mk 11 0 0 [] q [] [])])),.own .exact 2 [],.own .exact 5 []])]) (ts':=[(6004,0)]) (us':=[2,4,6,6004])
     ⟨⟨_,Z,.inl (lI (i:=i) ai)⟩,⟨_,Z,.inl Z⟩,⟨_,Z,.inl Z⟩,⟨_,Z,.inl Z⟩,⟨_,Z,⟨_,Z,Z⟩⟩,⟨_,Z,⟨_,Z,Z⟩⟩,⟨_,Z,⟨_,Z,Z⟩⟩,trivial⟩ ⟨ce,ce,⟨_,_,Z,Z,⟨_,_,Z,.inl Z,⟨_,_,Z,.inl Z,⟨_,_,Z,.inl Z,⟨_,_,Z,.inl Z,⟨_,_,Z,⟨_,Z,.inr ⟨_,_,Z,Z,ahm (AV.own (.tok 6004 1) 7) Q⟩⟩,ce⟩⟩⟩⟩⟩⟩,trivial⟩ Z ?_
    exact agZ
   |true =>
    cases M with
    |false =>
     repeat' (first|refine sz ?_|refine zc ?_ ?_|(intro h;first|(cases h;done)|rw[h]|skip)|refine uI Z (i) Z (ff O) Z ?_|refine uC Z j ?_|(refine uA Z ?_ ?_<;>(try (show(_:Nat)*_<=_;dsimp only))))
     have F:=aE acc;simp only[aat,aav];omega;have Q:aa acc++[bz (Vl.mk 11 0 0 [] q [] [])]=aa (acc++[(Vl.mk 11 0 0 [] q [] [])]):=(jC acc [_]).symm;refine AK.gK [(2,2),(4,4),(6,6)] [(6004,(0,some 6004))] (env':=[(171,Υ ((i+1:Nat):Int)),(170,Υ (aD args).length),(169,.c (.sl 5 (aD args))),(7,.c (.bool false)),(2,.ptr 2 0),(4,.ptr 4 0),(6,.ptr 6 0)])
      (bs':=[(2,[Υ 13,.c (.sl 2 (az o))]),(4,[Υ 0,Υ 0,Υ 0,.c (.str []),.own .exact 7 [],.own .exact 2 [],.own .exact 5 []]),(6,[Υ 13,Υ 0,Υ 0,.c (.str []),.own (.tok 6004 0) 7 (aa (acc++[(Vl.mk 11 0 0 [] q [] [])])),.own .exact 2 [],.own .exact 5 []])]) (ts':=[(6004,0)]) (us':=[2,4,6,6004])
      ⟨⟨_,Z,.inl (lI (i:=i) ai)⟩,⟨_,Z,.inl Z⟩,⟨_,Z,.inl Z⟩,⟨_,Z,.inl Z⟩,⟨_,Z,⟨_,Z,Z⟩⟩,⟨_,Z,⟨_,Z,Z⟩⟩,⟨_,Z,⟨_,Z,Z⟩⟩,trivial⟩ ⟨ce,ce,⟨_,_,Z,Z,⟨_,_,Z,.inl Z,⟨_,_,Z,.inl Z,⟨_,_,Z,.inl Z,⟨_,_,Z,.inl Z,⟨_,_,Z,⟨_,Z,.inr ⟨_,_,Z,Z,ahm (AV.own (.tok 6004 1) 7) Q⟩⟩,ce⟩⟩⟩⟩⟩⟩,trivial⟩ Z ?_
     exact agZ
    |true =>
     by_cases k2:xk=2;rotate_left
     ·have e2:(xk==2)=false:=(by simpa using k2);have ψ:((Y==3)&&(eC args o).2)=(false&&(eC (args.drop (i+1)) o).2):=by rw[V];simp[k2]
      repeat' (first|refine sz ?_|refine zc ?_ ?_|(intro h;first|(cases h;done)|rw[h]|skip)|refine uI Z (i) Z (ff O) Z ?_|refine uC Z j ?_|(refine uA Z ?_ ?_<;>(try (show(_:Nat)*_<=_;dsimp only))))
      have F:=aE acc;simp only[aat,aav];omega;have Q:aa acc++[bz (Vl.mk 11 0 0 [] q [] [])]=aa (acc++[(Vl.mk 11 0 0 [] q [] [])]):=(jC acc [_]).symm;refine AK.gK [(2,2),(4,4),(6,6)] [(6004,(0,some 6004))] (env':=[(171,Υ ((i+1:Nat):Int)),(170,Υ (aD args).length),(169,.c (.sl 5 (aD args))),(7,.c (.bool false)),(2,.ptr 2 0),(4,.ptr 4 0),(6,.ptr 6 0)])
       (bs':=[(2,[Υ 13,.c (.sl 2 (az o))]),(4,[Υ 0,Υ 0,Υ 0,.c (.str []),.own .exact 7 [],.own .exact 2 [],.own .exact 5 []]),(6,[Υ 13,Υ 0,Υ 0,.c (.str []),.own (.tok 6004 0) 7 (aa (acc++[(Vl.mk 11 0 0 [] q [] [])])),.own .exact 2 [],.own .exact 5 []])]) (ts':=[(6004,0)]) (us':=[2,4,6,6004])
       ⟨⟨_,Z,.inl (lI (i:=i) ai)⟩,⟨_,Z,.inl Z⟩,⟨_,Z,.inl Z⟩,⟨_,Z,.inl Z⟩,⟨_,Z,⟨_,Z,Z⟩⟩,⟨_,Z,⟨_,Z,Z⟩⟩,⟨_,Z,⟨_,Z,Z⟩⟩,trivial⟩ ⟨ce,ce,⟨_,_,Z,Z,⟨_,_,Z,.inl Z,⟨_,_,Z,.inl Z,⟨_,_,Z,.inl Z,⟨_,_,Z,.inl Z,⟨_,_,Z,⟨_,Z,.inr ⟨_,_,Z,Z,ahm (AV.own (.tok 6004 1) 7) Q⟩⟩,ce⟩⟩⟩⟩⟩⟩,trivial⟩ Z ?_
      exact ih (i+1,acc++[(Vl.mk 11 0 0 [] q [] [])],false) ⟨h2,agx,W,ψ⟩ fe
     subst k2;have ψ:((Y==3)&&(eC args o).2)=((xp==28)&&(eC (args.drop (i+1)) o).2):=by rw[V,int_eq];simp
     repeat' (first|refine sz ?_|refine zc ?_ ?_|(intro h;first|(cases h;done)|rw[h]|skip)|refine uI Z (i) Z (ff O) Z ?_|refine uC Z j ?_|(refine uA Z ?_ ?_<;>(try (show(_:Nat)*_<=_;dsimp only))))
     have F:=aE acc;simp only[aat,aav];omega;have Q:aa acc++[bz (Vl.mk 11 0 0 [] q [] [])]=aa (acc++[(Vl.mk 11 0 0 [] q [] [])]):=(jC acc [_]).symm;refine AK.gK [(2,2),(4,4),(6,6)] [(6004,(0,some 6004))] (env':=[(171,Υ ((i+1:Nat):Int)),(170,Υ (aD args).length),(169,.c (.sl 5 (aD args))),(7,.c (.bool (xp==28))),(2,.ptr 2 0),(4,.ptr 4 0),(6,.ptr 6 0)])
      (bs':=[(2,[Υ 13,.c (.sl 2 (az o))]),(4,[Υ 0,Υ 0,Υ 0,.c (.str []),.own .exact 7 [],.own .exact 2 [],.own .exact 5 []]),(6,[Υ 13,Υ 0,Υ 0,.c (.str []),.own (.tok 6004 0) 7 (aa (acc++[(Vl.mk 11 0 0 [] q [] [])])),.own .exact 2 [],.own .exact 5 []])]) (ts':=[(6004,0)]) (us':=[2,4,6,6004])
      ⟨⟨_,Z,.inl (lI (i:=i) ai)⟩,⟨_,Z,.inl Z⟩,⟨_,Z,.inl Z⟩,⟨_,Z,.inl Z⟩,⟨_,Z,⟨_,Z,Z⟩⟩,⟨_,Z,⟨_,Z,Z⟩⟩,⟨_,Z,⟨_,Z,Z⟩⟩,trivial⟩ ⟨ce,ce,⟨_,_,Z,Z,⟨_,_,Z,.inl Z,⟨_,_,Z,.inl Z,⟨_,_,Z,.inl Z,⟨_,_,Z,.inl Z,⟨_,_,Z,⟨_,Z,.inr ⟨_,_,Z,Z,ahm (AV.own (.tok 6004 1) 7) Q⟩⟩,ce⟩⟩⟩⟩⟩⟩,trivial⟩ Z ?_
     exact ih (i+1,acc++[(Vl.mk 11 0 0 [] q [] [])],(xp==28)) ⟨h2,agx,W,ψ⟩ fe
  have hT:T=8\/T=14\/T=15:=by have:=Sd SC;omega
  rw[ajj T Y N P hT];rcases hT with rfl|rfl|rfl
  ·refine qn func64 call64 λm hf=>?_;refine AK.seq ?_;refine AK.region mixed Z ?_
   repeat' (first|refine so ?_|refine zu ?_ ?_|(intro h;first|(cases h;done)|rw[h]|skip)|(refine uA Z ?_ ?_<;>(try (show(_:Nat)*_<=_;dsimp only))))
   refine AK.freeze 3 Z Z Z Z ?_;exact dq
  ·refine qn func64 call64 λm hf=>?_;refine AK.seq ?_;refine AK.region mixed Z ?_
   repeat' (first|refine so ?_|refine zu ?_ ?_|(intro h;first|(cases h;done)|rw[h]|skip)|(refine uA Z ?_ ?_<;>(try (show(_:Nat)*_<=_;dsimp only))))
   refine AK.freeze 3 Z Z Z Z ?_;exact dq
  refine qn func64 call64 λm hf=>?_;refine AK.seq ?_;refine AK.region mixed Z ?_
  repeat' (first|refine so ?_|refine zu ?_ ?_|(intro h;first|(cases h;done)|rw[h]|skip)|(refine uA Z ?_ ?_<;>(try (show(_:Nat)*_<=_;dsimp only))))
  refine AK.freeze 3 Z Z Z Z ?_;exact dq
termination_by n=>SizeOf.sizeOf n
decreasing_by
 have F:=ahx O;simp at F ⊢;omega;have F:=ahx O;have h2:=ahx hy;simp at F h2 ⊢;omega
end Go.Proofs
namespace Go.Proofs
open Go.cE
theorem Kj{s:Δ}{n:Nat}(I:s.length<=n):bE (gu s).1<=n+1:=by by_cases Y:(gu s).2=0;obtain⟨N,U⟩:=MO Y;have V:=FB _ 1 (lF.1 N).1;grind;rw[Qd Y];simp[rX,bE,aP]
def Qe(t:Ty):jg t []=(jl,1):=rfl
def xI(t:Ty)(c:UInt8)(r:Δ)(h:¬(c=5/\(c::r).length<=200/\iF t/\(gu r).2=0)):jg t (c::r)=(jl,1):=by simp only[jg,if_neg h]
def Tj(t:Ty)(r:Δ)(h:(5::r:Δ).length<=200/\iF t/\(gu r).2=0):jg t (5::r)=gV t (gu r).1:=by exact if_pos ⟨rfl,h⟩
attribute [local irreducible] AK ag aZ bS fI fF oV oJ bJ ey gu fj dW bA iF gV jg
def Tk(t:Ty)(v:Vl)(T:iS t=false)(p:bJ v t)(u:aG v<=8589934593):af 144 [bz v] (.eK [.str (yl v).1,.int .i64 (yl v).2]):=by
 have B:=BQ v t T p u;have K:=HP v;have Y:=MP (fI v) ai;rw[HZ]at Y;unfold yl;obtain⟨S,C,M,Q,P,O,N⟩:=v;rcases J:fI (.mk S C M Q P O N)with ⟨G,W,V,U,q⟩
 rw[J]at B Y;by_cases e:ey (.mk G W V U q)=0
 ·rw[if_pos e];rw[if_pos e]at Y;simp only at Y;generalize fj (.mk G W V U q)=bs at Y;by_cases E:200<=bs.length;rw[if_pos E];have A:decide ((bs.length:Int)>=200):=ace ai;exact qdq func144 call144;rw[if_neg E];have A:decide ((bs.length:Int)>=200)=false:=acf ai;refine qn func144 call144 λβ hf=>?_
  repeat' (first|refine sz ?_|refine zc ?_ ?_|(intro h;first|(cases h;done)|rw[h]|skip)|refine uC Z B ?_|refine uC Z Y ?_|refine ag.concat hX kn Z Z Z Z Z (show 1+bs.length<=9223372036854775807 from by omega) ?_)
  all_goals rfl
 rw[if_neg e];rw[if_neg e]at Y;simp only at Y;have A:(ey (.mk G W V U q) != 0):=by simpa using e
 generalize ey (.mk G W V U q)=z at Y A;exact qdq func144 call144
def oS(t:Ty)(n:Nd)(C:bh t<=8589934593)(P:bE n<=8589934593):af 50 [ct t,aV n] (.eK [bz (gV t n).1,.int .i64 (gV t n).2]):=by
 have x:=mH t C;have u:=tE n P;obtain⟨T,F⟩:=t;obtain⟨Y,E,I,N,W⟩:=n;cases y:bA (.mk T F)with
 |false =>
  rw[y]at x;rw[show gV (.mk T F) (.mk Y E I N W)=(jl,1)from by unfold gV;rw[if_neg (by simp[y])]];exact qdq func50 call50
 |true =>
 rw[y]at x;by_cases M:ey (.mk Y E I N W)=0;rotate_left
 ·rw[show gV (.mk T F) (.mk Y E I N W)=(jl,1)from by unfold gV;rw[if_neg (λh=>M h.2.1)]];have A:(ey (.mk Y E I N W) != 0):=by simpa using M
  generalize ey (.mk Y E I N W)=z at u A;exact qdq func50 call50
 rw[M]at u;have B:=xJ (.mk Y E I N W) (.mk T F) (nw y) P C;have p:=AG (.mk Y E I N W) (.mk T F);have V:=Ej (dW (.mk Y E I N W) (.mk T F)).1 (.mk T F) (nw y) ai C;rcases G:dW (.mk Y E I N W) (.mk T F)with ⟨⟨S,Q,O,K,q,J,D⟩,b⟩
 rw[G]at B V;simp only at B V;cases b with
 |false =>
  rw[show gV (.mk T F) (.mk Y E I N W)=(jl,1)from by unfold gV;rw[if_neg aga]];exact qdq func50 call50
 |true =>
  cases U:bJ (.mk S Q O K q J D) (.mk T F)with
  |false =>
   rw[U]at V;rw[show gV (.mk T F) (.mk Y E I N W)=(jl,1)from by unfold gV;rw[if_neg (by simp[G,U])]];exact qdq func50 call50
  |true =>
   rw[U]at V;rw[show gV (.mk T F) (.mk Y E I N W)=(.mk S Q O K q J D,0)from by unfold gV;rw[G,if_pos ⟨y,M,Z,U⟩]];exact qdq func50 call50
def BR:Δ->Δ×Bool
 |[]=>([],false)
 |c::r=>if c=5 then(r,true)else(c::r,false)
def Gn(s:Δ):af 170 [.str s,.str [5]] (.bool (BR s).2):=by
 cases s with
 |nil =>
  exact qdq func170 call170
 |cons c r =>
  have A:decide ((((c::r).length:Nat):Int)>=((([5]:Δ).length:Nat):Int)):=ace UZ;have Q:(BR (c::r)).2=([c]==[5]):=by simp only[BR];by_cases h:c=5;rw[if_pos h,h];rfl;rw[if_neg h];simp[h]
  rw[Q];exact qdq func170 call170
def Ek(s:Δ):af 165 [.str s,.str [5]] (.eK [.str (BR s).1,.bool (BR s).2]):=by
 have Y:=Gn s;cases s with
 |nil =>
  exact qdq func165 call165
 |cons c r =>
  by_cases h:c=5;subst h;rw[show BR (5::r)=(r,true)from by simp[BR]]at Y ⊢;simp only at Y;exact qdq func165 call165;rw[show BR (c::r)=(c::r,false)from by simp[BR,h]]at Y ⊢;simp only at Y;exact qdq func165 call165
def Gp(s:Δ):af 158 [.str s,.str [5]] (.eK [.str (BR s).1,.bool (BR s).2]):=by have Y:=Ek s;exact qdq func158 call158
def CT(t:Ty)(s:Δ)(C:bh t<=8589934593):af 145 [ct t,.str s] (.eK [bz (jg t s).1,.int .i64 (jg t s).2]):=by
 have F:=Gp s;have y:=oZ t ai;obtain⟨T,z⟩:=t;cases s with
 |nil =>
  rw[Qe];exact qdq func145 call145
 |cons c r =>
 by_cases D:c=5;rotate_left;rw[xI _ _ _ (λh=>D h.1)];rw[show BR (c::r)=(c::r,false)from by simp[BR,D]]at F;simp only at F;exact qdq func145 call145;subst D;rw[show BR (5::r)=(r,true)from by simp[BR]]at F;simp only at F;by_cases E:(5::r:Δ).length<=200;rotate_left;rw[xI _ _ _ (λh=>E h.2.1)];have W:decide ((((5::r:Δ).length:Nat):Int)>200):=ace ai;have Q:(bif false then true else decide ((((5::r:Δ).length:Nat):Int)>200))=true:=W;exact qdq func145 call145;have W:decide ((((5::r:Δ).length:Nat):Int)>200)=false:=acf ai;cases M:iF (.mk T z)with
 |false =>
  rw[M]at y;rw[xI _ _ _ (λh=>by rw[M]at h;exact absurd h.2.2.1 cS)];exact qdq func145 call145
 |true =>
 rw[M]at y;have B:=MQ r;by_cases A:(gu r).2=0;rotate_left
 ·rw[xI _ _ _ (λh=>A h.2.2.2)];rcases V:gu r with ⟨⟨U,x,I,N,S⟩,e⟩
  rw[V]at B A;simp only at B A;have K:(e != 0):=by simpa using A
  exact qdq func145 call145
 rw[Tj _ _ ⟨E,M,A⟩];have O:=Kj (s:=r) (n:=200) ae4;have Y:=oS (.mk T z) (gu r).1 C ai;rcases V:gu r with ⟨⟨U,x,I,N,S⟩,e⟩
 rw[V]at B Y A;simp only at B Y A;subst A;rcases P:gV (.mk T z) (.mk U x I N S)with ⟨⟨G,J,H,u,q,p,o⟩,Q⟩
 rw[P]at Y;exact qdq func145 call145
end Go.Proofs
namespace Go.Proofs
open Go.cE
def gY(S:bM)(v:Vl)(Y:aG v<=8589934593)(E:S.st.length<=1000000000):jT 129 S [.c (.sl 7 (aa [v]))] (bg S [v]) :=
 tY S [v] (by intro x O;simp at O;subst O;exact Y) cS UZ
def agv(S:bM)(v w:Vl)(Y:aG v<=8589934593)(P:aG w<=8589934593)(E:S.st.length<=1000000000):jT 129 S [.c (.sl 7 (aa [v,w]))] (bg S [v,w]) :=
 tY S [v,w] (by intro x O;simp at O;rcases O with rfl|rfl<;>assumption) cS UZ
def TQ(x:Nd)(O:bE x<=8589934593):bh (aM x).1<=8589934593:=by
 rcases z8 x with ⟨t,h,_,_,Y⟩|h
 rw[h];exact aiq Y O;rw[h];decide
attribute [local irreducible] AK ag aZ bS cA de nQ aM gV
def TR(S:bM)(A:Int)(p:Δ)(x y:Nd)(O:bE x<=8589934593)(G:bE y<=8589934593)(W:(gV (aM x).1 y).2=0)(C:aG ((gV (aM x).1 y).1)<=8589934593)(E:S.st.length<=1000000000):jT 115 S [.c (aV (.mk 2 A 45 p [x,y])),.c (.sl 7 (aa []))] (bg S [(gV (aM x).1 y).1]):=by have M:=gY S ((gV (aM x).1 y).1) C E;have F:=ke x O;have P:bh (aM x).1<=8589934593:=TQ x O;have V:=oS (aM x).1 y P G;rw[W]at V;generalize U:(gV (aM x).1 y).1=w at M V ⊢;clear W;generalize aM x=tp at F V P;obtain⟨⟨T,z⟩,e⟩:=tp;obtain⟨Q,q,N,H,Y,K,B⟩:=w;obtain⟨J,I,D,u,t⟩:=x;obtain⟨r,o,m,j,i⟩:=y;exact mdm func115 call115
def TS(S:bM)(T:Int)(p:Δ)(a b:Vl)(C:aG (aU a b)<=8589934593)(E:S.st.length<=1000000000):jT 115 S [.c (aV (.mk 2 T 46 p [])),.c (.sl 7 (aa [a,b]))] (bg S [aU a b]):=by have M:=gY S (aU a b) C E;have I:=jM a b;obtain⟨V,U,Q,P,Y,H,B⟩:=a;obtain⟨O,N,F,K,W,u,J⟩:=b;exact mdm func115 call115
def TT(S:bM)(T:Int)(p:Δ)(x:Nd)(a:Vl)(C:aG (.mk 12 (50-50) 0 [] [a] [] [])<=8589934593)(E:S.st.length<=1000000000):jT 115 S [.c (aV (.mk 2 T 50 p [x])),.c (.sl 7 (aa [a]))] (bg S [.mk 12 (50-50) 0 [] [a] [] []]):=by have M:=gY S (.mk 12 (50-50) 0 [] [a] [] []) C E;obtain⟨W,U,V,P,Y,H,B⟩:=a;exact mdm func115 call115
def TU(S:bM)(T:Int)(p:Δ)(x:Nd)(a:Vl)(C:aG (.mk 12 (51-50) 0 [] [a] [] [])<=8589934593)(E:S.st.length<=1000000000):jT 115 S [.c (aV (.mk 2 T 51 p [x])),.c (.sl 7 (aa [a]))] (bg S [.mk 12 (51-50) 0 [] [a] [] []]):=by have M:=gY S (.mk 12 (51-50) 0 [] [a] [] []) C E;obtain⟨W,U,V,P,Y,H,B⟩:=a;exact mdm func115 call115
def TV(S:bM)(T:Int)(p:Δ)(a:Vl)(C:aG (cr [a])<=8589934593)(E:S.st.length<=1000000000):jT 115 S [.c (aV (.mk 2 T 53 p [])),.c (.sl 7 (aa [a]))] (bg S [cr [a]]):=by have M:=gY S (cr [a]) C E;have Q:=hJ [a];obtain⟨W,U,V,P,Y,H,B⟩:=a;exact mdm func115 call115
def TW(S:bM)(T:Int)(p:Δ)(x:Nd)(C:aG (cr [])<=8589934593)(E:S.st.length<=1000000000):jT 115 S [.c (aV (.mk 2 T 54 p [x])),.c (.sl 7 (aa []))] (bg S [cr []]):=by have M:=gY S (cr []) C E;refine mn func115 call115 λV hf=>?_;have Y:=gI;exact dm
def Xs(S:bM)(T:Int)(p:Δ)(x:Nd)(C:aG (.mk 10 0 0 [] [] [] [])<=8589934593)(E:S.st.length<=1000000000):jT 115 S [.c (aV (.mk 2 T 56 p [x])),.c (.sl 7 (aa []))] (bg S [.mk 10 0 0 [] [] [] []]):=by have M:=gY S (.mk 10 0 0 [] [] [] []) C E;exact mdm func115 call115
def TX(S:bM)(T:Int)(p:Δ)(k n c:Int)(s:Δ)(a b:Vl)(I:Γ)(code:Θ)(C:aG (b)<=8589934593)(F:aG (a)<=8589934593)(E:S.st.length<=1000000000):jT 115 S [.c (aV (.mk 2 T 47 p [])),.c (.sl 7 (aa [.mk k n c s [a,b] I code]))] (bg S [b,a]):=by have M:=agv S (b) (a) C F E;obtain⟨V,U,Q,P,Y,H,B⟩:=a;obtain⟨O,N,D,K,W,u,J⟩:=b;exact mdm func115 call115
def TY(S:bM)(T:Int)(p:Δ)(k n c:Int)(s:Δ)(a b:Vl)(I:Γ)(code:Θ)(C:aG (a)<=8589934593)(E:S.st.length<=1000000000):jT 115 S [.c (aV (.mk 2 T 48 p [])),.c (.sl 7 (aa [.mk k n c s [a,b] I code]))] (bg S [a]):=by have M:=gY S (a) C E;obtain⟨V,U,Q,P,Y,H,B⟩:=a;obtain⟨O,N,F,K,W,u,J⟩:=b;exact mdm func115 call115
def TZ(S:bM)(T:Int)(p:Δ)(k n c:Int)(s:Δ)(a b:Vl)(I:Γ)(code:Θ)(C:aG (b)<=8589934593)(E:S.st.length<=1000000000):jT 115 S [.c (aV (.mk 2 T 49 p [])),.c (.sl 7 (aa [.mk k n c s [a,b] I code]))] (bg S [b]):=by have M:=gY S (b) C E;obtain⟨V,U,Q,P,Y,H,B⟩:=a;obtain⟨O,N,F,K,W,u,J⟩:=b;exact mdm func115 call115
end Go.Proofs
