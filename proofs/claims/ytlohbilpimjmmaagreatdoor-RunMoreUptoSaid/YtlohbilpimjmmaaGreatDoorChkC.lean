/- What nodes, node, Node, Told, Pack, Parse and Unpack of package value answer. What TreeBack, TreeOnly and TreeCut of touchstonekeep answer: true, for all arguments. What Node, Told, Pack, Parse and Unpack of package value answer. What instruction, step, row and Code of package check answer. -/
import Derived.Test.YtlohbilpimjmmaaGreatDoorVal9
import Derived.Test.YtlohbilpimjmmaaGreatDoorRPure
import Derived.Test.YtlohbilpimjmmaaGreatDoorTree5
import Derived.Test.YtlohbilpimjmmaaGreatDoorBits
import Derived.Test.YtlohbilpimjmmaaGreatDoorChk4
import Derived.Test.YtlohbilpimjmmaaGreatDoorChk6
import Derived.Test.YtlohbilpimjmmaaGreatDoorChk8
import Derived.Test.YtlohbilpimjmmaaGreatDoorVal1
set_option maxHeartbeats 0
set_option linter.unusedVariables false
set_option linter.unusedSimpArgs false
set_option maxRecDepth 100000
namespace Go.Proofs
open Go.cq
theorem kids {k n a:Int} {s:List UInt8} {args:List Vl} {B:List Ty} {H:List Nd} {t:Ty} (h:bK (.mk k n a s args B H) t=true) (G:gm t=false) (Y:k=9\/k=10\/k=11\/k=12\/k=13) :
  ∀x∈args,∃u,gm u=false/\bK x u=true:=by
 intro x O;have U:=(oZ h).1;have M:=kR h;obtain⟨W,D⟩:=iH G;rw[<- U]at W;rcases Y with rfl|rfl|rfl|rfl|rfl
 ·simp[nr]at M;have:arity 9=1:=by decide
  exact⟨_,dr D (kS (i:=0) bn),(eY _ _).1 M.2 x O⟩
 ·simp[nr]at M;have:arity 10=1:=by decide
  exact⟨_,dr D (kS (i:=0) bn),(eY _ _).1 M.2 x O⟩
 ·simp[nr]at M;have:arity 11=2:=by decide
  obtain⟨y,z,u,w,C,K,V,T⟩:=UC M.1.2 bn M.2;rw[K]at D;rw[C]at O;simp only[List.mem_cons,List.not_mem_nil,or_false]at O;rcases O with rfl|rfl
  ·exact⟨u,dr D c9,V⟩
  ·exact⟨w,dr D c9,T⟩
 ·simp[nr]at M;have:arity 12=2:=by decide
  exact⟨_,dr D (kS (i:=n.toNat) bn),(eY _ _).1 M.2 x O⟩
 ·simp[nr]at M;have:arity 13=2:=by decide
  refine⟨.mk 11 (aA t),?_,(eY _ _).1 M.1.2 x O⟩;simp only[gm,Bool.or_eq_false_iff];exact⟨aan (by(simp;have:arity 11=2:=by decide);omega),D⟩
theorem Y4 {x:Vl} {ts:List Ty} (h:bK x (.mk 11 ts)=true):vK x=11:=by
 cases x with|mk k n a s args B H=>exact(oZ h).1
theorem Rz {G:jk} {a b c d:CV} {s t:Nat} {v:Value} (h:Rel G (.agg [a,b,c,d,.sl s []]) v):Rel G (.agg [a,b,c,d,.sl t []]) v:=by
 rw[Rel]at h ⊢;obtain⟨vs,C,U,B⟩:=h;refine⟨vs,C,?_,?_⟩
 ·rw[bL]at U ⊢;obtain⟨Y,W,V,T,U⟩:=U;refine⟨Y,W,V,T,?_⟩;rw[bL]at U ⊢;obtain⟨K,S,P,Q,U⟩:=U;refine⟨K,S,P,Q,?_⟩;rw[bL]at U ⊢;obtain⟨O,v3,N,M,U⟩:=U;refine⟨O,v3,N,M,?_⟩;rw[bL]at U ⊢;obtain⟨J,I,H,E,U⟩:=U;refine⟨J,I,H,E,?_⟩;rw[bL]at U ⊢;obtain⟨D,A,u,q,p⟩:=U;exact⟨D,A,u,N7 q,p⟩
 ·simp only[List.all_cons,List.all_nil,Bool.and_true,aai]at B ⊢;exact⟨B.1,B.2.1,B.2.2.1,B.2.2.2.1,rfl⟩
theorem Jn (x:Vl) (l:List Vl):eg (x::l)=ej x::eg l:=by simp only[eg]
theorem LS:eg []=[]:=by simp only[eg]
theorem LU (k n a:Int) (s:List UInt8) (args:List Vl) (B:List Ty) (H:List Nd) (l:List Vl):mB (.mk k n a s args B H::l) = .mk 2 0 28 [] (eg args)::mB l:=by simp only[mB]
theorem PJ:mB []=[]:=by simp only[mB]
theorem UP (n a:Int) (s:List UInt8) (args:List Vl) (B:List Ty) (H:List Nd):ej (.mk 1 n a s args B H) = .mk 2 0 20 [] []:=by simp[ej]
theorem UQ (n a:Int) (s:List UInt8) (args:List Vl) (B:List Ty) (H:List Nd):ej (.mk 2 n a s args B H) = .mk 2 0 (22-n) [] []:=by simp[ej]
theorem UR (n a:Int) (s:List UInt8) (args:List Vl) (B:List Ty) (H:List Nd):ej (.mk 6 n a s args B H) = .mk 1 0 0 s []:=by simp[ej]
theorem US (n a:Int) (s:List UInt8) (args:List Vl) (B:List Ty) (H:List Nd):ej (.mk 9 n a s args B H) = .mk 2 0 (27-args.length) [] (eg args):=by simp[ej]
theorem RA (n a:Int) (s:List UInt8) (args:List Vl) (B:List Ty) (H:List Nd):ej (.mk 10 n a s args B H) = .mk 3 0 0 [] (eg args):=by simp[ej]
theorem RB (n a:Int) (s:List UInt8) (args:List Vl) (B:List Ty) (H:List Nd):ej (.mk 11 n a s args B H) = .mk 2 0 23 [] (eg args):=by simp[ej]
theorem RC (n a:Int) (s:List UInt8) (args:List Vl) (B:List Ty) (H:List Nd):ej (.mk 12 n a s args B H) = .mk 2 0 (24+n) [] (eg args):=by simp[ej]
theorem RE (n a:Int) (s:List UInt8) (args:List Vl) (B:List Ty) (H:List Nd):ej (.mk 13 n a s args B H) = .mk 3 0 0 [] (mB args):=by simp[ej]
theorem UT (k n a:Int) (h:¬(k=1\/k=2\/k=6\/k=9\/k=10\/k=11\/k=12\/k=13)) (s:List UInt8) (args:List Vl) (B:List Ty) (H:List Nd):ej (.mk k n a s args B H) = .mk 0 n 0 [] []:=by
 simp only[not_or]at h;simp[ej,h]
attribute [local irreducible] AK ai bh bt ej eg mB pL bK dG eR dR dF bw ga
theorem qB (p:Int) (l:List Nd):ag 148 [.int .i64 p,.sl 5 (aI l)] (aX (.mk 2 0 p [] l)):=by
 refine qn Tryz.func148 Tryz.call148 fun β hf=>?_;exact dq
theorem yI (p:Int):ag 148 [.int .i64 p,.sl 0 []] (aX (.mk 2 0 p [] [])):=by
 have h:ag 148 [.int .i64 p,.sl 0 []] (.agg [.int .i64 2,.int .i64 0,.int .i64 p,.str [],.sl 0 []]):=by
  refine qn Tryz.func148 Tryz.call148 fun β hf=>?_;exact dq
 exact bh.weaken (fun G v Y=>Rz Y) h
theorem A5 (l:List Vl) (p:l.length<=1099511627776) (U:∀x∈l,ag 141 [bM x] (aX (ej x))):ag 149 [.sl 7 (aa l)] (.sl 5 (aI (eg l))):=by
 refine qn Tryz.func149 Tryz.call149 fun β hf=>?_;refine dn ?_;refine AK.fW [] [(6000,(0,none))] (env':=[(8,.c (.int .i64 (0:Nat))),(7,.c (.int .i64 (aa l).length)),(6,.c (.sl 7 (aa l))),(3,.own (.tok 6000 0) 5 [])])
  (bs':=[]) (ts':=[(6000,0)]) (us':=[6000])
  ⟨⟨_,rfl,.inl rfl⟩,⟨_,rfl,.inl rfl⟩,⟨_,rfl,.inl rfl⟩,⟨_,rfl,⟨_,rfl,.inl ⟨rfl,_,rfl,.inr rfl⟩⟩⟩,trivial⟩ trivial rfl ?_
 refine AK.eK (α:=Nat×List Nd) (fun z=>z.1<=l.length/\z.1=z.2.length/\eg l=z.2++eg (l.drop z.1)) (fun z=>l.length-z.1)
  (fun z=>[(8,.c (.int .i64 z.1)),(7,.c (.int .i64 (aa l).length)),(6,.c (.sl 7 (aa l))),(3,.own (.tok 6000 0) 5 (aI z.2))]) (fun _=>[]) (fun _=>[(6000,0)]) [6000] (0,[])
  ⟨bn,rfl,c9⟩ ⟨.inl rfl,.inl rfl,.inl rfl,.inl rfl,trivial⟩ trivial ⟨rfl,trivial⟩ rfl rfl rfl ?_
 rintro⟨i,acc⟩ ⟨W,Y,T⟩ ih;simp only at W Y T;rcases fT l i W with ⟨x,O,M⟩|P
 ·have K:=xD O;have h2:=bB O;have hq:=U x M;rw[dV O,Jn]at T;rw[show ∀(a:List Nd) (b:Nd) (c:List Nd),a++b::c=a++[b]++c from fun a b c=>by simp]at T;rcases S:ej x with ⟨B,N,I,E,A⟩
  rw[S]at hq T;obtain⟨q,u,J,C,H,G,D⟩:=x
  repeat' (first|refine sz ?_|(refine zc ?_ ?_<;>intro h<;>first|(cases h;done)|rw[h]|skip)|refine uI rfl (i) rfl (ez O) rfl ?_|refine uC rfl hq ?_|(refine uA rfl ?_ ?_<;>(try (show(_:Nat)*_<=_;dsimp only))))
  ·have h1:=br acc;simp only[aac,aad];omega
  ·have V:aI acc++[aX (Nd.mk B N I E A)]=aI (acc++[Nd.mk B N I E A]):=(lM acc [_]).symm;refine AK.fW [] [(6000,(0,some 6000))] (env':=[(8,.c (.int .i64 ((i+1:Nat):Int))),(7,.c (.int .i64 (aa l).length)),(6,.c (.sl 7 (aa l))),(3,.own (.tok 6000 0) 5 (aI (acc++[Nd.mk B N I E A])))])
    (bs':=[]) (ts':=[(6000,0)]) (us':=[6000])
    ⟨⟨_,rfl,.inl (kP (i:=i) bn)⟩,⟨_,rfl,.inl rfl⟩,⟨_,rfl,.inl rfl⟩,⟨_,rfl,⟨_,rfl,.inr ⟨_,_,rfl,rfl,congrArg (AV.own (.tok 6000 1) 5) V⟩⟩⟩,trivial⟩ trivial rfl ?_
   exact ih (i+1,acc++[Nd.mk B N I E A]) ⟨h2,by simp[Y],T⟩ u6
 ·have K:=sU P;have Q:eg l=acc:=by rw[T,P,List.drop_length,LS,List.append_nil]
  rw[Q];clear ih T;exact dq
theorem xE:∀(v:Vl) (t:Ty),gm t=false->bK v t=true->aM v<=8589934593->ag 141 [bM v] (aX (ej v))
 | .mk k n a s args B C,t,A,Q,hv=>by
  simp only[aM]at hv;have IQ:=gM args;have q:∀x∈args,∀u,gm u=false->bK x u=true->ag 141 [bM x] (aX (ej x)):=fun x O u h1 h2=>xE x u h1 h2 Sv;have Xc:∀k' p a' s' P Y W,Vl.mk k' p a' s' P Y W∈args->∀y∈P,∀u,gm u=false->bK y u=true->ag 141 [bM y] (aX (ej y)):=fun k' p a' s' P Y W O y N u h1 h2=>xE y u h1 h2 (by have h3:=dO O;have h4:=dO N;simp only[aM]at h3;omega);have M:=kR Q;have Y5:=kids Q A;have V:(k=9\/k=10\/k=11\/k=12\/k=13)->ag 149 [.sl 7 (aa args)] (.sl 5 (aI (eg args))):=fun h=>A5 args bn fun x O=>by
   obtain⟨u,K,J⟩:=Y5 h x O;exact q x O u K J
  by_cases c:k=1
  ·subst c;rw[UP];have h1:=yI 20;refine qn Tryz.func141 Tryz.call141 fun β hf=>?_;exact dq
  by_cases c:k=2
  ·subst c;rw[UQ];have hn:0<=n/\n<=1:=by simp[nr]at M;omega
   have U:IntKind.i64.wrap (22-n)=22-n:=gW bn bn;have h1:=yI (22-n);rw[<- U]at h1 ⊢;refine qn Tryz.func141 Tryz.call141 fun β hf=>?_;exact dq
  by_cases c:k=6
  ·subst c;rw[UR];refine qn Tryz.func141 Tryz.call141 fun β hf=>?_;exact dq
  by_cases c:k=9
  ·subst c;rw[US];have hn:args.length<=1:=by simp[nr]at M;omega
   have U:IntKind.i64.wrap (27-(((aa args).length:Nat):Int))=27-(args.length:Int):=by rw[az,gW bn bn]
   have h1:=qB (27-(args.length:Int)) (eg args);have h2:=V c9;rw[<- U]at h1 ⊢;refine qn Tryz.func141 Tryz.call141 fun β hf=>?_;exact dq
  by_cases c:k=10
  ·subst c;rw[RA];have h2:=V c9;refine qn Tryz.func141 Tryz.call141 fun β hf=>?_;exact dq
  by_cases c:k=11
  ·subst c;rw[RB];have h1:=qB 23 (eg args);have h2:=V c9;refine qn Tryz.func141 Tryz.call141 fun β hf=>?_;exact dq
  by_cases c:k=12
  ·subst c;rw[RC];have hn:0<=n/\n<=1:=by simp[nr]at M;omega
   have U:IntKind.i64.wrap (24+n)=24+n:=gW bn bn;have h1:=qB (24+n) (eg args);have h2:=V c9;rw[<- U]at h1 ⊢;refine qn Tryz.func141 Tryz.call141 fun β hf=>?_;exact dq
  by_cases c:k=13
  ·subst c;rw[RE];have I:∀x∈args,∃u,gm u=false/\bK x u=true/\vK x=11:=by
    intro x O;simp[nr]at M;have Ys:=(eY _ _).1 M.1.2 x O;refine⟨_,?_,Ys,Y4 Ys⟩;obtain⟨Lz,ke⟩:=iH A;rw[<- (oZ Q).1]at Lz;have:arity 13=2:=by decide
    simp only[gm,Bool.or_eq_false_iff];exact⟨aan (by(simp;have:arity 11=2:=by decide);omega),ke⟩
   refine qn Tryz.func141 Tryz.call141 fun β hf=>?_
   repeat' (first|refine sz ?_|(refine zc ?_ ?_<;>intro h<;>first|(cases h;done)|rw[h]|skip)|(refine uA rfl ?_ ?_<;>(try (show(_:Nat)*_<=_;dsimp only))))
   refine AK.fW [(2,2),(3,3)] [(6003,(0,none))] (env':=[(59,.c (.int .i64 (0:Nat))),(58,.c (.int .i64 (aa args).length)),(57,.c (.sl 7 (aa args))),(2,.ptr 2 0),(3,.ptr 3 0)])
    (bs':=[(2,[.c (.int .i64 0),.c (.int .i64 0),.c (.int .i64 0),.c (.str []),.own .exact 5 []]),(3,[.c (.int .i64 3),.c (.int .i64 0),.c (.int .i64 0),.c (.str []),.own (.tok 6003 0) 5 []])]) (ts':=[(6003,0)]) (us':=[2,3,6003])
    ⟨⟨_,rfl,.inl rfl⟩,⟨_,rfl,.inl rfl⟩,⟨_,rfl,.inl rfl⟩,⟨_,rfl,⟨_,rfl,rfl⟩⟩,⟨_,rfl,⟨_,rfl,rfl⟩⟩,trivial⟩ ⟨⟨_,_,rfl,rfl,⟨_,_,rfl,.inl rfl,⟨_,_,rfl,.inl rfl,⟨_,_,rfl,.inl rfl,⟨_,_,rfl,.inl rfl,⟨_,_,rfl,rfl,rfl⟩⟩⟩⟩⟩⟩,⟨_,_,rfl,rfl,⟨_,_,rfl,.inl rfl,⟨_,_,rfl,.inl rfl,⟨_,_,rfl,.inl rfl,⟨_,_,rfl,.inl rfl,⟨_,_,rfl,⟨_,rfl,.inl ⟨rfl,_,rfl,.inr rfl⟩⟩,rfl⟩⟩⟩⟩⟩⟩,trivial⟩ rfl ?_
   refine AK.eK (α:=Nat×List Nd) (fun z=>z.1<=args.length/\z.1=z.2.length/\mB args=z.2++mB (args.drop z.1)) (fun z=>args.length-z.1)
    (fun z=>[(59,.c (.int .i64 z.1)),(58,.c (.int .i64 (aa args).length)),(57,.c (.sl 7 (aa args))),(2,.ptr 2 0),(3,.ptr 3 0)])
    (fun z=>[(2,[.c (.int .i64 0),.c (.int .i64 0),.c (.int .i64 0),.c (.str []),.own .exact 5 []]),(3,[.c (.int .i64 3),.c (.int .i64 0),.c (.int .i64 0),.c (.str []),.own (.tok 6003 0) 5 (aI z.2)])]) (fun _=>[(6003,0)]) [2,3,6003] (0,[])
    ⟨bn,rfl,c9⟩ ⟨.inl rfl,.inl rfl,.inl rfl,.inl rfl,.inl rfl,trivial⟩ ⟨rfl,rfl,trivial⟩ ⟨rfl,trivial⟩ rfl rfl rfl ?_
   rintro⟨i,acc⟩ ⟨hi,Cw,T⟩ ih;simp only at hi Cw T;rcases fT args i hi with ⟨x,O,H⟩|he
   ·have hc:=xD O;have h2:=bB O;obtain⟨u,K,J,u3⟩:=I x H;obtain⟨x1,x2,x3,x4,S,x6,x7⟩:=x;have G:x1=11:=u3;have E:=dO H;simp only[aM]at E;have Up:=gM S;have hq:=A5 S bn fun y N=>by
     obtain⟨w,w1,w2⟩:=kids J K (by simp[G]) y N;exact Xc x1 x2 x3 x4 S x6 x7 H y N w w1 w2
    have hp:=qB 28 (eg S);rw[dV O,LU]at T;rw[show ∀(a:List Nd) (b:Nd) (c:List Nd),a++b::c=a++[b]++c from fun a b c=>by simp]at T
    repeat' (first|refine sz ?_|(refine zc ?_ ?_<;>intro h<;>first|(cases h;done)|rw[h]|skip)|refine uI rfl (i) rfl (ez O) rfl ?_|refine uC rfl hq ?_|refine uC rfl hp ?_|(refine uA rfl ?_ ?_<;>(try (show(_:Nat)*_<=_;dsimp only))))
    ·have h1:=br acc;simp only[aac,aad];omega
    ·have D:aI acc++[aX (Nd.mk 2 0 28 [] (eg S))]=aI (acc++[Nd.mk 2 0 28 [] (eg S)]):=(lM acc [_]).symm;refine AK.fW [(2,2),(3,3)] [(6003,(0,some 6003))] (env':=[(59,.c (.int .i64 ((i+1:Nat):Int))),(58,.c (.int .i64 (aa args).length)),(57,.c (.sl 7 (aa args))),(2,.ptr 2 0),(3,.ptr 3 0)])
      (bs':=[(2,[.c (.int .i64 0),.c (.int .i64 0),.c (.int .i64 0),.c (.str []),.own .exact 5 []]),(3,[.c (.int .i64 3),.c (.int .i64 0),.c (.int .i64 0),.c (.str []),.own (.tok 6003 0) 5 (aI (acc++[Nd.mk 2 0 28 [] (eg S)]))])]) (ts':=[(6003,0)]) (us':=[2,3,6003])
      ⟨⟨_,rfl,.inl (kP (i:=i) bn)⟩,⟨_,rfl,.inl rfl⟩,⟨_,rfl,.inl rfl⟩,⟨_,rfl,⟨_,rfl,rfl⟩⟩,⟨_,rfl,⟨_,rfl,rfl⟩⟩,trivial⟩ ⟨⟨_,_,rfl,rfl,⟨_,_,rfl,.inl rfl,⟨_,_,rfl,.inl rfl,⟨_,_,rfl,.inl rfl,⟨_,_,rfl,.inl rfl,⟨_,_,rfl,rfl,rfl⟩⟩⟩⟩⟩⟩,⟨_,_,rfl,rfl,⟨_,_,rfl,.inl rfl,⟨_,_,rfl,.inl rfl,⟨_,_,rfl,.inl rfl,⟨_,_,rfl,.inl rfl,⟨_,_,rfl,⟨_,rfl,.inr ⟨_,_,rfl,rfl,congrArg (AV.own (.tok 6003 1) 5) D⟩⟩,rfl⟩⟩⟩⟩⟩⟩,trivial⟩ rfl ?_
     exact ih (i+1,acc++[Nd.mk 2 0 28 [] (eg S)]) ⟨h2,by simp[Cw],T⟩ fc
   ·have hc:=sU he;have h0:mB args=acc:=by rw[T,he,List.drop_length,PJ,List.append_nil]
    rw[h0];clear ih T;exact dq
  rw[UT k n a bn];have e1:(k==1)=false:=by simp;omega
  have e2:(k==2)=false:=by simp;omega
  have e3:(k==6)=false:=by simp;omega
  have e4:(k==9)=false:=by simp;omega
  have e5:(k==10)=false:=by simp;omega
  have e6:(k==11)=false:=by simp;omega
  have e7:(k==12)=false:=by simp;omega
  have e8:(k==13)=false:=by simp;omega
  refine qn Tryz.func141 Tryz.call141 fun β hf=>?_;exact dq
termination_by v=>SizeOf.sizeOf v
decreasing_by
 ·have h1:=List.sizeOf_lt_of_mem O;simp at h1 ⊢;omega
 ·have h1:=List.sizeOf_lt_of_mem O;have h2:=List.sizeOf_lt_of_mem N;simp at h1 h2 ⊢;omega
end Go.Proofs
namespace Go.Proofs
open Go.cq
theorem Jo (n:Int):1<=(jd n).length:=by
 have:=UW n;cases h:jd n with
 | nil=>exact absurd h this
 | cons a b=>simp
mutual
theorem A6:∀(t:Nd) (d:Int),ep t d=0->b8 t<=(dR t).length
 | .mk kind n p s args,d,h=>by
  obtain⟨h1,h2⟩:=jF h;obtain⟨_,D,_,_,Y,u,_,_,_⟩:=mh h1;have S:=yJ args (d+1) h2;have P:=Jo (s.length:Int);have U:=Jo (args.length:Int);simp only[b8];rcases D with rfl|rfl|⟨rfl,A⟩|rfl
  ·obtain rfl:=Y bn;have:=u bn;rw[List.length_eq_zero_iff]at this;subst this;rw[RF];simp[aU]
  ·have:=u bn;rw[List.length_eq_zero_iff]at this;subst this;rw[RG];simp only[aU,aac,aas];omega
  ·obtain rfl:=Y bn;rw[RH];simp only[aac,aas,aad];omega
  ·obtain rfl:=Y bn;rw[RI];simp only[aac,aas,aad];omega
theorem yJ:∀(l:List Nd) (d:Int),dg l d=0->aU l<=(eS l).length
 | [],d,_=>by simp[aU]
 | t::l,d,h=>by
  have h1:=zX h t c9;have h2:dg l d=0:=by simp only[dg]at h;rw[if_pos h1]at h;exact h
  have W:=A6 t d h1;have V:=yJ l d h2;simp only[eS,aU,aas];omega
end
attribute [local irreducible] AK ai bh bt eR dR dG oF
end Go.Proofs
namespace Go.Proofs
open Go.cq
theorem EI {s:List UInt8} {n:Nat} (Y:s.length<=n):b8 (eR s).1<=n+1:=by
 by_cases P:(eR s).2=0
 ·obtain⟨E,G⟩:=GZ P;have h1:=A6 _ 1 (kr.1 E).1;rw[G]at h1;omega
 ·rw[Jp P];simp[sM,b8,aU]
theorem Jq (t:Ty):gA t []=(oL,1):=rfl
theorem sV (t:Ty) (c:UInt8) (r:List UInt8) (h:¬(c=5/\(c::r).length<=200/\ga t=true/\(eR r).2=0)):gA t (c::r)=(oL,1):=by simp only[gA,if_neg h]
theorem LW (t:Ty) (r:List UInt8) (h:(5::r:List UInt8).length<=200/\ga t=true/\(eR r).2=0):gA t (5::r)=iC t (eR r).1:=by
 unfold gA;exact if_pos ⟨rfl,h⟩
attribute [local irreducible] AK ai bh bt ej eg mB pL bK dG eR dR dF bw ga iC gA
theorem LX (t:Ty) (v:Vl) (G:gm t=false) (W:bK v t=true) (U:aM v<=8589934593):ag 122 [bM v] (.gy [.str (tU v).1,.int .i64 (tU v).2]):=by
 have V:=xE v t G W U;have T:=CA v;have Y:=G0 (ej v) bn;rw[CL]at Y;unfold tU;obtain⟨O,u,J,S,Q,M,K⟩:=v;rcases P:ej (.mk O u J S Q M K)with ⟨B,N,I,E,A⟩
 rw[P]at V Y;by_cases e:dG (.mk B N I E A)=0
 ·rw[if_pos e];rw[if_pos e]at Y;simp only at Y;generalize dR (.mk B N I E A)=bs at Y;by_cases p:200<=bs.length
  ·rw[if_pos p];have C:decide (((bs.length:Nat):Int)>=200)=true:=aam bn;refine qn Tryz.func122 Tryz.call122 fun β hf=>?_;exact dq
  ·rw[if_neg p];have C:decide (((bs.length:Nat):Int)>=200)=false:=aan bn;refine qn Tryz.func122 Tryz.call122 fun β hf=>?_
   repeat' (first|refine sz ?_|(refine zc ?_ ?_<;>intro h<;>first|(cases h;done)|rw[h]|skip)|refine uC rfl V ?_|refine uC rfl Y ?_|refine ai.concat Tryz.hX kn rfl rfl rfl rfl rfl (show 1+bs.length<=9223372036854775807 from by omega) ?_)
   all_goals rfl
 ·rw[if_neg e];rw[if_neg e]at Y;simp only at Y;have C:(dG (.mk B N I E A) != 0)=true:=by simpa using e
  generalize dG (.mk B N I E A)=z at Y C;refine qn Tryz.func122 Tryz.call122 fun β hf=>?_;exact dq
theorem sW (t:Ty) (n:Nd) (M:bA t<=8589934593) (U:b8 n<=8589934593):ag 63 [eB t,aX n] (.gy [bM (iC t n).1,.int .i64 (iC t n).2]):=by
 have h1:=nA t M;have h2:=pM n U;obtain⟨T,ts⟩:=t;obtain⟨u,H,p,Y,J⟩:=n;cases g1:bw (.mk T ts)with
 | false =>
  rw[g1]at h1;rw[show iC (.mk T ts) (.mk u H p Y J)=(oL,1)from by unfold iC;rw[if_neg (by simp[g1])]];refine qn Tryz.func63 Tryz.call63 fun β hf=>?_;exact dq
 | true =>
 rw[g1]at h1;by_cases W:dG (.mk u H p Y J)=0;rotate_left
 ·rw[show iC (.mk T ts) (.mk u H p Y J)=(oL,1)from by unfold iC;rw[if_neg (fun h=>W h.2.1)]];have C:(dG (.mk u H p Y J) != 0)=true:=by simpa using W
  generalize dG (.mk u H p Y J)=z at h2 C;refine qn Tryz.func63 Tryz.call63 fun β hf=>?_;exact dq
 rw[W]at h2;have P:=sX (.mk u H p Y J) (.mk T ts) (mo g1) U M;have G:=vR (.mk u H p Y J) (.mk T ts);have V:=zY (dF (.mk u H p Y J) (.mk T ts)).1 (.mk T ts) (mo g1) bn M;rcases I:dF (.mk u H p Y J) (.mk T ts)with ⟨⟨B,N,Q,E,A,O,K⟩,b⟩
 rw[I]at P V;simp only at P V;cases b with
 | false =>
  rw[show iC (.mk T ts) (.mk u H p Y J)=(oL,1)from by unfold iC;rw[if_neg (by simp[I])]];refine qn Tryz.func63 Tryz.call63 fun β hf=>?_;exact dq
 | true =>
  cases S:bK (.mk B N Q E A O K) (.mk T ts)with
  | false =>
   rw[S]at V;rw[show iC (.mk T ts) (.mk u H p Y J)=(oL,1)from by unfold iC;rw[if_neg (by simp[I,S])]];refine qn Tryz.func63 Tryz.call63 fun β hf=>?_;exact dq
  | true =>
   rw[S]at V;rw[show iC (.mk T ts) (.mk u H p Y J)=(.mk B N Q E A O K,0)from by unfold iC;rw[I,if_pos ⟨g1,W,rfl,S⟩]];refine qn Tryz.func63 Tryz.call63 fun β hf=>?_;exact dq
def wU:List UInt8->List UInt8×Bool
 | []=>([],false)
 | c::r=>if c=5 then(r,true)else(c::r,false)
theorem BN (s:List UInt8):ag 155 [.str s,.str [5]] (.bool (wU s).2):=by
 cases s with
 | nil =>
  refine qn Tryz.func155 Tryz.call155 fun β hf=>?_;exact dq
 | cons c r =>
  have C:decide ((((c::r).length:Nat):Int)>=((([5]:List UInt8).length:Nat):Int))=true:=aam EV;have U:(wU (c::r)).2=([c]==[5]):=by
   simp only[wU];by_cases h:c=5
   ·rw[if_pos h,h];rfl
   ·rw[if_neg h];simp[h]
  rw[U];refine qn Tryz.func155 Tryz.call155 fun β hf=>?_;exact dq
theorem zZ (s:List UInt8):ag 150 [.str s,.str [5]] (.gy [.str (wU s).1,.bool (wU s).2]):=by
 have h1:=BN s;cases s with
 | nil =>
  refine qn Tryz.func150 Tryz.call150 fun β hf=>?_;exact dq
 | cons c r =>
  by_cases h:c=5
  ·subst h;rw[show wU (5::r)=(r,true)from by simp[wU]]at h1 ⊢;simp only at h1;refine qn Tryz.func150 Tryz.call150 fun β hf=>?_;exact dq
  ·rw[show wU (c::r)=(c::r,false)from by simp[wU,h]]at h1 ⊢;simp only at h1;refine qn Tryz.func150 Tryz.call150 fun β hf=>?_;exact dq
theorem BO (s:List UInt8):ag 142 [.str s,.str [5]] (.gy [.str (wU s).1,.bool (wU s).2]):=by
 have h1:=zZ s;generalize wU s=z at h1;refine qn Tryz.func142 Tryz.call142 fun β hf=>?_;exact dq
theorem yK (t:Ty) (s:List UInt8) (M:bA t<=8589934593):ag 123 [eB t,.str s] (.gy [bM (gA t s).1,.int .i64 (gA t s).2]):=by
 have h1:=BO s;have h2:=mG t bn;obtain⟨T,ts⟩:=t;cases s with
 | nil =>
  rw[Jq];refine qn Tryz.func123 Tryz.call123 fun β hf=>?_;exact dq
 | cons c r =>
 by_cases E:c=5;rotate_left
 ·rw[sV _ _ _ (fun h=>E h.1)];rw[show wU (c::r)=(c::r,false)from by simp[wU,E]]at h1;simp only at h1;refine qn Tryz.func123 Tryz.call123 fun β hf=>?_;exact dq
 subst E;rw[show wU (5::r)=(r,true)from by simp[wU]]at h1;simp only at h1;by_cases A:(5::r:List UInt8).length<=200;rotate_left
 ·rw[sV _ _ _ (fun h=>A h.2.1)];have C:decide ((((5::r:List UInt8).length:Nat):Int)>200)=true:=aam bn;have K:(bif false then true else decide ((((5::r:List UInt8).length:Nat):Int)>200))=true:=C;refine qn Tryz.func123 Tryz.call123 fun β hf=>?_;exact dq
 have C:decide ((((5::r:List UInt8).length:Nat):Int)>200)=false:=aan bn;cases Y:ga (.mk T ts)with
 | false =>
  rw[Y]at h2;rw[sV _ _ _ (fun h=>by rw[Y]at h;exact absurd h.2.2.1 c9)];refine qn Tryz.func123 Tryz.call123 fun β hf=>?_;exact dq
 | true =>
 rw[Y]at h2;have V:=G1 r;by_cases p:(eR r).2=0;rotate_left
 ·rw[sV _ _ _ (fun h=>p h.2.2.2)];rcases I:eR r with ⟨⟨u,H,U,G,J⟩,e⟩
  rw[I]at V p;simp only at V p;have B:(e != 0)=true:=by simpa using p
  refine qn Tryz.func123 Tryz.call123 fun β hf=>?_;exact dq
 rw[LW _ _ ⟨A,Y,p⟩];have Q:=EI (s:=r) (n:=200) (by simp only[aac]at A;omega);have W:=sW (.mk T ts) (eR r).1 M bn;rcases I:eR r with ⟨⟨u,H,U,G,J⟩,e⟩
 rw[I]at V W p;simp only at V W p;subst p;rcases S:iC (.mk T ts) (.mk u H U G J)with ⟨⟨P,N,O,D,q,y6,y7⟩,K⟩
 rw[S]at W;refine qn Tryz.func123 Tryz.call123 fun β hf=>?_;exact dq
end Go.Proofs
namespace Go.Proofs
open Go.cq
theorem kz (r:CR):∃x y e,iW r = .gy [.agg [x,y],.int .i64 e]/\x.one=true/\y.one=true:=by
 unfold iW;split
 ·exact⟨_,_,_,rfl,rfl,rfl⟩
 ·exact⟨_,_,_,rfl,rfl,rfl⟩
attribute [local irreducible] AK ai bh bt dS aZ fC lz ga ju bw dG cA fq bf jt iC gq aW cJ cG bS cn bY bN iW
theorem G2 (P N:Int) (T:List UInt8) (args:List Nd) (B s:List Ty) (hP:40<=P) (hf:bN P args=some B) (G:qx s) (A:s.length<=9999999990) (Y:aU args<=8589934593)
  (K:∀a∈args,∀C:List Ty,qx C->C.length<=s.length+1->ag 20 [.sl 5 (aI (cF a)),.sl 2 (aq C)] (tT (cA (cF a) (C,false)))) :
  ag 48 [aX (.mk 2 N P T args),.sl 2 (aq B),.sl 2 (aq s)] (iW (mE P args (bf args) B s)):=by
 unfold mE;by_cases S:P<=44
 ·rw[if_pos S];have e1:decide (P<=44)=true:=aam S;have hq:=Ja P N T args B s ⟨hP,S⟩ hf G A;obtain⟨x,y,e,O,W,U⟩:=kz (gq P args s);rw[O]at hq ⊢;refine qn Tryz.func48 Tryz.call48 fun β hf=>?_;exact dw
 rw[if_neg S];have e1:decide (P<=44)=false:=aan S;by_cases q:P=45
 ·subst q;rw[if_pos rfl];obtain⟨x0,u,t,rfl,rfl,ht⟩:=RJ hf rfl;clear hf K;have Ro:=ht.2;have Q:=sW t u bn (by simp only[aU]at Y;omega);have M:=mG t bn;rw[show [t].getD 0 lA=t from rfl,show [x0,u].getD 1 sM=u from rfl];obtain⟨V,p⟩:=t;obtain⟨y1,y2,y3,y4,y5⟩:=u;rcases hr:iC (.mk V p) (.mk y1 y2 y3 y4 y5)with ⟨⟨v1,v2,v3,v4,v5,v6,v7⟩,e⟩
  rw[hr]at Q;simp only at Q ⊢;by_cases he:e=0;rotate_left
  ·rw[if_neg (fun h=>he h.1),aD cc];have e2:(e != 0)=true:=by simpa using he
   refine qn Tryz.func48 Tryz.call48 fun β hf=>?_;exact dw
  subst he;cases J:ga (.mk V p)with
  | false =>
   rw[J]at M;rw[if_neg (fun h=>by simp at h),aD cc];refine qn Tryz.func48 Tryz.call48 fun β hf=>?_;exact dw
  | true =>
   rw[J]at M;have hp:=bC s [.mk V p];rw[aG]at hp;rw[if_pos ⟨rfl,rfl⟩,aG];refine qn Tryz.func48 Tryz.call48 fun β hf=>?_;exact dw
 rw[if_neg q];have e2:(P==45)=false:=by simpa using q
 by_cases I:P<=58
 ·rw[if_pos I];have e3:decide (P<=58)=true:=aam I;have hq:=CJ P N T args B s ⟨bn,I⟩ hf G A Y K;obtain⟨x,y,e,O,W,U⟩:=kz (aW P (bf args) B s);rw[O]at hq ⊢;refine qn Tryz.func48 Tryz.call48 fun β hf=>?_;exact dw
 rw[if_neg I];have e3:decide (P<=58)=false:=aan I;by_cases H:P<=63
 ·rw[if_pos H];have e4:decide (P<=63)=true:=aam H;have hq:=GW P N T args B s ⟨bn,H⟩ hf G A Y K;obtain⟨x,y,e,O,W,U⟩:=kz (cJ P (bf args) B s);rw[O]at hq ⊢;refine qn Tryz.func48 Tryz.call48 fun β hf=>?_;exact dw
 rw[if_neg H];have e4:decide (P<=63)=false:=aan H;by_cases E:P<=68
 ·rw[if_pos E];have e5:decide (P<=68)=true:=aam E;have hq:=CM P N T args B s ⟨bn,E⟩ hf G A Y K;obtain⟨x,y,e,O,W,U⟩:=kz (cG P args (bf args) B s);rw[O]at hq ⊢;refine qn Tryz.func48 Tryz.call48 fun β hf=>?_;exact dw
 rw[if_neg E];have e5:decide (P<=68)=false:=aan E;by_cases p6:P<=72\/P>=93
 ·rw[if_pos p6];have hq:=CI P s bn A;obtain⟨x,y,e,O,W,U⟩:=kz (bS P s);rw[O]at hq ⊢;by_cases p7:P<=72
  ·have e6:decide (P<=72)=true:=aam p7;refine qn Tryz.func48 Tryz.call48 fun β hf=>?_;exact dw
  ·have e6:decide (P<=72)=false:=aan p7;have e7:decide (P>=93)=true:=aam bn;refine qn Tryz.func48 Tryz.call48 fun β hf=>?_;exact dw
 rw[if_neg p6];have e6:decide (P<=72)=false:=aan bn;have e7:decide (P>=93)=false:=aan bn;by_cases D:P<=83
 ·rw[if_pos D];have e8:decide (P<=83)=true:=aam D;have hq:=Jf P args B s ⟨bn,D⟩ hf G A;obtain⟨x,y,e,O,W,U⟩:=kz (cn P B s);rw[O]at hq ⊢;refine qn Tryz.func48 Tryz.call48 fun β hf=>?_;exact dw
 ·rw[if_neg D];have e8:decide (P<=83)=false:=aan D;have hq:=GV P args B s ⟨bn,bn⟩ hf G A;obtain⟨x,y,e,O,W,U⟩:=kz (bY P B s);rw[O]at hq ⊢;refine qn Tryz.func48 Tryz.call48 fun β hf=>?_;exact dw
theorem Jr (n:Nd) (s:List Ty) (G:qx s) (A:s.length<=9999999990) (V:b8 n<=8589934593)
  (Y:ag 20 [.sl 5 (aI (cF n)),.sl 2 (aq s)] (tT (cA (cF n) (s,false))))
  (K:∀a∈cF n,∀W:List Ty,qx W->W.length<=s.length+1->ag 20 [.sl 5 (aI (cF a)),.sl 2 (aq W)] (tT (cA (cF a) (W,false)))) :
  ag 36 [aX n,.sl 2 (aq s)] (iW (fq n s)):=by
 obtain⟨kind,N,P,S,args⟩:=n;simp only[cF]at Y K;simp only[b8]at V;by_cases U:kind=3
 ·subst U;rw[show fq (.mk 3 N P S args) s=cA args (s,false)from by simp only[fq,if_true]];generalize cA args (s,false)=r at Y;obtain⟨⟨t,b⟩,e⟩:=r;clear K;refine qn Tryz.func36 Tryz.call36 fun β hf=>?_;exact dw
 have T:(kind==3)=false:=by simpa using U
 by_cases D:kind=2;rotate_left
 ·have M:(kind != 2)=true:=by simpa using D
  rw[show fq (.mk kind N P S args) s=aP 1 from by simp only[fq,if_neg U,if_pos D],aD cc];clear Y K;refine qn Tryz.func36 Tryz.call36 fun β hf=>?_;exact dw
 subst D;have Q:=I9 2 N P S args bn;cases hf:bN P args with
 | none =>
  rw[show fq (.mk 2 N P S args) s=aP 1 from by simp only[fq,hf];rfl,aD cc];rw[hf]at Q;clear Y K;refine qn Tryz.func36 Tryz.call36 fun β hf=>?_;exact dw
 | some B =>
  have C:40<=P:=by
   unfold bN at hf;split at hf
   ·cases hf
   ·omega
  rw[show fq (.mk 2 N P S args) s=mE P args (bf args) B s from by simp only[fq,hf];rfl];have hq:=G2 P N S args B s C hf G A bn K;rw[hf]at Q;obtain⟨x,y,e,O,J,I⟩:=kz (mE P args (bf args) B s);rw[O]at hq ⊢;clear Y K;refine qn Tryz.func36 Tryz.call36 fun β hf=>?_;exact dw
end Go.Proofs
