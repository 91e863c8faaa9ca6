/- What nodes, node, Node, Told, Pack, Parse and Unpack of package value answer. What TreeBack, TreeOnly and TreeCut of touchstonekeep answer: true, for all arguments. What Node, Told, Pack, Parse and Unpack of package value answer. What instruction, step, row and Code of package check answer. -/
import Derived.Test.YtlohbilpimjmmaaGreatDoorVal9
import Derived.Test.YtlohbilpimjmmaaGreatDoorRPure
import Derived.Test.YtlohbilpimjmmaaGreatDoorTree5
import Derived.Test.YtlohbilpimjmmaaGreatDoorBits
import Derived.Test.YtlohbilpimjmmaaGreatDoorChk4
import Derived.Test.YtlohbilpimjmmaaGreatDoorChk6
import Derived.Test.YtlohbilpimjmmaaGreatDoorChk8
import Derived.Test.YtlohbilpimjmmaaGreatDoorVal1
set_option maxHeartbeats 0
set_option linter.unusedVariables false
set_option linter.unusedSimpArgs false
set_option maxRecDepth 100000
namespace Go.Proofs
open Go.cu
theorem kids {k n a:Int} {s:List UInt8} {args:List Vl} {H:List Ty} {B:List Nd} {t:Ty} (h:bL (.mk k n a s args H B) t=true) (p:gq t=false) (D:k=9\/k=10\/k=11\/k=12\/k=13) :
  ∀x∈args,∃u,gq u=false/\bL x u=true:=by
 intro x O;have A:=(oW h).1;have Y:=kN h;obtain⟨W,q⟩:=iF p;rw[<- A]at W;rcases D with rfl|rfl|rfl|rfl|rfl
 ·simp[nh]at Y;have:arity 9=1:=by decide
  exact⟨_,dz q (kO (i:=0) bn),(fh _ _).1 Y.2 x O⟩
 ·simp[nh]at Y;have:arity 10=1:=by decide
  exact⟨_,dz q (kO (i:=0) bn),(fh _ _).1 Y.2 x O⟩
 ·simp[nh]at Y;have:arity 11=2:=by decide
  obtain⟨y,z,u,w,V,E,U,Q⟩:=Uh Y.1.2 bn Y.2;rw[E]at q;rw[V]at O;simp only[List.mem_cons,List.not_mem_nil,or_false]at O;rcases O with rfl|rfl
  ·exact⟨u,dz q cn,U⟩
  ·exact⟨w,dz q cn,Q⟩
 ·simp[nh]at Y;have:arity 12=2:=by decide
  exact⟨_,dz q (kO (i:=n.toNat) bn),(fh _ _).1 Y.2 x O⟩
 ·simp[nh]at Y;have:arity 13=2:=by decide
  refine⟨.mk 11 (au t),?_,(fh _ _).1 Y.1.2 x O⟩;simp only[gq,Bool.or_eq_false_iff];exact⟨aaw (by(simp;have:arity 11=2:=by decide);omega),q⟩
theorem YO {x:Vl} {ts:List Ty} (h:bL x (.mk 11 ts)=true):vK x=11:=by
 cases x with|mk k n a s args H B=>exact(oW h).1
theorem Ro {G:jm} {a b c d:CV} {s t:Nat} {v:Value} (h:Rel G (.agg [a,b,c,d,.sl s []]) v):Rel G (.agg [a,b,c,d,.sl t []]) v:=by
 rw[Rel]at h ⊢;obtain⟨vs,A,E,B⟩:=h;refine⟨vs,A,?_,?_⟩
 ·rw[bO]at E ⊢;obtain⟨Y,W,V,P,E⟩:=E;refine⟨Y,W,V,P,?_⟩;rw[bO]at E ⊢;obtain⟨C,U,I,q,E⟩:=E;refine⟨C,U,I,q,?_⟩;rw[bO]at E ⊢;obtain⟨T,v3,S,Q,E⟩:=E;refine⟨T,v3,S,Q,?_⟩;rw[bO]at E ⊢;obtain⟨O,N,M,K,E⟩:=E;refine⟨O,N,M,K,?_⟩;rw[bO]at E ⊢;obtain⟨J,H,D,u,p⟩:=E;exact⟨J,H,D,NR u,p⟩
 ·simp only[List.all_cons,List.all_nil,Bool.and_true,aaj]at B ⊢;exact⟨B.1,B.2.1,B.2.2.1,B.2.2.2.1,rfl⟩
theorem I4 (x:Vl) (l:List Vl):ej (x::l)=er x::ej l:=by simp only[ej]
theorem LD:ej []=[]:=by simp only[ej]
theorem LF (k n a:Int) (s:List UInt8) (args:List Vl) (H:List Ty) (B:List Nd) (l:List Vl):mw (.mk k n a s args H B::l) = .mk 2 0 28 [] (ej args)::mw l:=by simp only[mw]
theorem Pt:mw []=[]:=by simp only[mw]
theorem Uv (n a:Int) (s:List UInt8) (args:List Vl) (H:List Ty) (B:List Nd):er (.mk 1 n a s args H B) = .mk 2 0 20 [] []:=by simp[er]
theorem Uw (n a:Int) (s:List UInt8) (args:List Vl) (H:List Ty) (B:List Nd):er (.mk 2 n a s args H B) = .mk 2 0 (22-n) [] []:=by simp[er]
theorem Ux (n a:Int) (s:List UInt8) (args:List Vl) (H:List Ty) (B:List Nd):er (.mk 6 n a s args H B) = .mk 1 0 0 s []:=by simp[er]
theorem Uy (n a:Int) (s:List UInt8) (args:List Vl) (H:List Ty) (B:List Nd):er (.mk 9 n a s args H B) = .mk 2 0 (27-args.length) [] (ej args):=by simp[er]
theorem Rp (n a:Int) (s:List UInt8) (args:List Vl) (H:List Ty) (B:List Nd):er (.mk 10 n a s args H B) = .mk 3 0 0 [] (ej args):=by simp[er]
theorem Rq (n a:Int) (s:List UInt8) (args:List Vl) (H:List Ty) (B:List Nd):er (.mk 11 n a s args H B) = .mk 2 0 23 [] (ej args):=by simp[er]
theorem Rr (n a:Int) (s:List UInt8) (args:List Vl) (H:List Ty) (B:List Nd):er (.mk 12 n a s args H B) = .mk 2 0 (24+n) [] (ej args):=by simp[er]
theorem Rt (n a:Int) (s:List UInt8) (args:List Vl) (H:List Ty) (B:List Nd):er (.mk 13 n a s args H B) = .mk 3 0 0 [] (mw args):=by simp[er]
theorem Uz (k n a:Int) (h:¬(k=1\/k=2\/k=6\/k=9\/k=10\/k=11\/k=12\/k=13)) (s:List UInt8) (args:List Vl) (H:List Ty) (B:List Nd):er (.mk k n a s args H B) = .mk 0 n 0 [] []:=by
 simp only[not_or]at h;simp[er,h]
attribute [local irreducible] AK ai bw bz er ej mw pI bL dj eT dU dI bA gh
theorem qA (p:Int) (l:List Nd):ah 148 [.int .i64 p,.sl 5 (aH l)] (aW (.mk 2 0 p [] l)):=by
 refine qn Tryz.func148 Tryz.call148 fun β hf=>?_;exact dq
theorem yx (p:Int):ah 148 [.int .i64 p,.sl 0 []] (aW (.mk 2 0 p [] [])):=by
 have h:ah 148 [.int .i64 p,.sl 0 []] (.agg [.int .i64 2,.int .i64 0,.int .i64 p,.str [],.sl 0 []]):=by
  refine qn Tryz.func148 Tryz.call148 fun β hf=>?_;exact dq
 exact bw.weaken (fun G v T=>Ro T) h
theorem AZ (l:List Vl) (C:l.length<=1099511627776) (T:∀x∈l,ah 141 [bP x] (aW (er x))):ah 149 [.sl 7 (aa l)] (.sl 5 (aH (ej l))):=by
 refine qn Tryz.func149 Tryz.call149 fun β hf=>?_;refine dn ?_;refine AK.fY [] [(6000,(0,none))] (env':=[(8,.c (.int .i64 (0:Nat))),(7,.c (.int .i64 (aa l).length)),(6,.c (.sl 7 (aa l))),(3,.own (.tok 6000 0) 5 [])])
  (bs':=[]) (ts':=[(6000,0)]) (us':=[6000])
  ⟨⟨_,rfl,.inl rfl⟩,⟨_,rfl,.inl rfl⟩,⟨_,rfl,.inl rfl⟩,⟨_,rfl,⟨_,rfl,.inl ⟨rfl,_,rfl,.inr rfl⟩⟩⟩,trivial⟩ trivial rfl ?_
 refine AK.eM (α:=Nat×List Nd) (fun z=>z.1<=l.length/\z.1=z.2.length/\ej l=z.2++ej (l.drop z.1)) (fun z=>l.length-z.1)
  (fun z=>[(8,.c (.int .i64 z.1)),(7,.c (.int .i64 (aa l).length)),(6,.c (.sl 7 (aa l))),(3,.own (.tok 6000 0) 5 (aH z.2))]) (fun _=>[]) (fun _=>[(6000,0)]) [6000] (0,[])
  ⟨bn,rfl,cn⟩ ⟨.inl rfl,.inl rfl,.inl rfl,.inl rfl,trivial⟩ trivial ⟨rfl,trivial⟩ rfl rfl rfl ?_
 rintro⟨i,acc⟩ ⟨I,V,p⟩ ih;simp only at I V p;rcases gf l i I with ⟨x,O,u⟩|P
 ·have K:=xm O;have h2:=bD O;have hq:=T x u;rw[dO O,I4]at p;rw[show ∀(a:List Nd) (b:Nd) (c:List Nd),a++b::c=a++[b]++c from fun a b c=>by simp]at p;rcases S:er x with ⟨E,U,Y,W,J⟩
  rw[S]at hq p;obtain⟨Q,N,H,G,D,A,q⟩:=x
  repeat' (first|refine sz ?_|(refine zc ?_ ?_<;>intro h<;>first|(cases h;done)|rw[h]|skip)|refine uI rfl (i) rfl (eF O) rfl ?_|refine uC rfl hq ?_|(refine uA rfl ?_ ?_<;>(try (show(_:Nat)*_<=_;dsimp only))))
  ·have h1:=bq acc;simp only[aaa,aab];omega
  ·have M:aH acc++[aW (Nd.mk E U Y W J)]=aH (acc++[Nd.mk E U Y W J]):=(jL acc [_]).symm;refine AK.fY [] [(6000,(0,some 6000))] (env':=[(8,.c (.int .i64 ((i+1:Nat):Int))),(7,.c (.int .i64 (aa l).length)),(6,.c (.sl 7 (aa l))),(3,.own (.tok 6000 0) 5 (aH (acc++[Nd.mk E U Y W J])))])
    (bs':=[]) (ts':=[(6000,0)]) (us':=[6000])
    ⟨⟨_,rfl,.inl (kL (i:=i) bn)⟩,⟨_,rfl,.inl rfl⟩,⟨_,rfl,.inl rfl⟩,⟨_,rfl,⟨_,rfl,.inr ⟨_,_,rfl,rfl,congrArg (AV.own (.tok 6000 1) 5) M⟩⟩⟩,trivial⟩ trivial rfl ?_
   exact ih (i+1,acc++[Nd.mk E U Y W J]) ⟨h2,by simp[V],p⟩ tV
 ·have K:=sK P;have B:ej l=acc:=by rw[p,P,List.drop_length,LD,List.append_nil]
  rw[B];clear ih p;exact dq
theorem xo:∀(v:Vl) (t:Ty),gq t=false->bL v t=true->aM v<=8589934593->ah 141 [bP v] (aW (er v))
 | .mk k n a s args H B,t,D,P,hv=>by
  simp only[aM]at hv;have Gv:=iI args;have M:∀x∈args,∀u,gq u=false->bL x u=true->ah 141 [bP x] (aW (er x)):=fun x O u h1 h2=>xo x u h1 h2 C1;have WT:∀k' q a' s' Y W V,Vl.mk k' q a' s' Y W V∈args->∀y∈Y,∀u,gq u=false->bL y u=true->ah 141 [bP y] (aW (er y)):=fun k' q a' s' Y W V O y A u h1 h2=>xo y u h1 h2 (by have h3:=ew O;have h4:=ew A;simp only[aM]at h3;omega);have U:=kN P;have YP:=kids P D;have T:(k=9\/k=10\/k=11\/k=12\/k=13)->ah 149 [.sl 7 (aa args)] (.sl 5 (aH (ej args))):=fun h=>AZ args bn fun x O=>by
   obtain⟨u,N,C⟩:=YP h x O;exact M x O u N C
  by_cases c:k=1
  ·subst c;rw[Uv];have h1:=yx 20;refine qn Tryz.func141 Tryz.call141 fun β hf=>?_;exact dq
  by_cases c:k=2
  ·subst c;rw[Uw];have hn:0<=n/\n<=1:=by simp[nh]at U;omega
   have Q:IntKind.i64.wrap (22-n)=22-n:=gZ bn bn;have h1:=yx (22-n);rw[<- Q]at h1 ⊢;refine qn Tryz.func141 Tryz.call141 fun β hf=>?_;exact dq
  by_cases c:k=6
  ·subst c;rw[Ux];refine qn Tryz.func141 Tryz.call141 fun β hf=>?_;exact dq
  by_cases c:k=9
  ·subst c;rw[Uy];have hn:args.length<=1:=by simp[nh]at U;omega
   have Q:IntKind.i64.wrap (27-(((aa args).length:Nat):Int))=27-(args.length:Int):=by rw[az,gZ bn bn]
   have h1:=qA (27-(args.length:Int)) (ej args);have h2:=T cn;rw[<- Q]at h1 ⊢;refine qn Tryz.func141 Tryz.call141 fun β hf=>?_;exact dq
  by_cases c:k=10
  ·subst c;rw[Rp];have h2:=T cn;refine qn Tryz.func141 Tryz.call141 fun β hf=>?_;exact dq
  by_cases c:k=11
  ·subst c;rw[Rq];have h1:=qA 23 (ej args);have h2:=T cn;refine qn Tryz.func141 Tryz.call141 fun β hf=>?_;exact dq
  by_cases c:k=12
  ·subst c;rw[Rr];have hn:0<=n/\n<=1:=by simp[nh]at U;omega
   have Q:IntKind.i64.wrap (24+n)=24+n:=gZ bn bn;have h1:=qA (24+n) (ej args);have h2:=T cn;rw[<- Q]at h1 ⊢;refine qn Tryz.func141 Tryz.call141 fun β hf=>?_;exact dq
  by_cases c:k=13
  ·subst c;rw[Rt];have K:∀x∈args,∃u,gq u=false/\bL x u=true/\vK x=11:=by
    intro x O;simp[nh]at U;have Po:=(fh _ _).1 U.1.2 x O;refine⟨_,?_,Po,YO Po⟩;obtain⟨Li,j9⟩:=iF D;rw[<- (oW P).1]at Li;have:arity 13=2:=by decide
    simp only[gq,Bool.or_eq_false_iff];exact⟨aaw (by(simp;have:arity 11=2:=by decide);omega),j9⟩
   refine qn Tryz.func141 Tryz.call141 fun β hf=>?_
   repeat' (first|refine sz ?_|(refine zc ?_ ?_<;>intro h<;>first|(cases h;done)|rw[h]|skip)|(refine uA rfl ?_ ?_<;>(try (show(_:Nat)*_<=_;dsimp only))))
   refine AK.fY [(2,2),(3,3)] [(6003,(0,none))] (env':=[(59,.c (.int .i64 (0:Nat))),(58,.c (.int .i64 (aa args).length)),(57,.c (.sl 7 (aa args))),(2,.ptr 2 0),(3,.ptr 3 0)])
    (bs':=[(2,[.c (.int .i64 0),.c (.int .i64 0),.c (.int .i64 0),.c (.str []),.own .exact 5 []]),(3,[.c (.int .i64 3),.c (.int .i64 0),.c (.int .i64 0),.c (.str []),.own (.tok 6003 0) 5 []])]) (ts':=[(6003,0)]) (us':=[2,3,6003])
    ⟨⟨_,rfl,.inl rfl⟩,⟨_,rfl,.inl rfl⟩,⟨_,rfl,.inl rfl⟩,⟨_,rfl,⟨_,rfl,rfl⟩⟩,⟨_,rfl,⟨_,rfl,rfl⟩⟩,trivial⟩ ⟨⟨_,_,rfl,rfl,⟨_,_,rfl,.inl rfl,⟨_,_,rfl,.inl rfl,⟨_,_,rfl,.inl rfl,⟨_,_,rfl,.inl rfl,⟨_,_,rfl,rfl,rfl⟩⟩⟩⟩⟩⟩,⟨_,_,rfl,rfl,⟨_,_,rfl,.inl rfl,⟨_,_,rfl,.inl rfl,⟨_,_,rfl,.inl rfl,⟨_,_,rfl,.inl rfl,⟨_,_,rfl,⟨_,rfl,.inl ⟨rfl,_,rfl,.inr rfl⟩⟩,rfl⟩⟩⟩⟩⟩⟩,trivial⟩ rfl ?_
   refine AK.eM (α:=Nat×List Nd) (fun z=>z.1<=args.length/\z.1=z.2.length/\mw args=z.2++mw (args.drop z.1)) (fun z=>args.length-z.1)
    (fun z=>[(59,.c (.int .i64 z.1)),(58,.c (.int .i64 (aa args).length)),(57,.c (.sl 7 (aa args))),(2,.ptr 2 0),(3,.ptr 3 0)])
    (fun z=>[(2,[.c (.int .i64 0),.c (.int .i64 0),.c (.int .i64 0),.c (.str []),.own .exact 5 []]),(3,[.c (.int .i64 3),.c (.int .i64 0),.c (.int .i64 0),.c (.str []),.own (.tok 6003 0) 5 (aH z.2)])]) (fun _=>[(6003,0)]) [2,3,6003] (0,[])
    ⟨bn,rfl,cn⟩ ⟨.inl rfl,.inl rfl,.inl rfl,.inl rfl,.inl rfl,trivial⟩ ⟨rfl,rfl,trivial⟩ ⟨rfl,trivial⟩ rfl rfl rfl ?_
   rintro⟨i,acc⟩ ⟨hi,Cq,p⟩ ih;simp only at hi Cq p;rcases gf args i hi with ⟨x,O,J⟩|he
   ·have hc:=xm O;have h2:=bD O;obtain⟨u,N,C,u3⟩:=K x J;obtain⟨x1,x2,x3,x4,S,x6,x7⟩:=x;have I:x1=11:=u3;have G:=ew J;simp only[aM]at G;have T5:=iI S;have hq:=AZ S bn fun y A=>by
     obtain⟨w,w1,w2⟩:=kids C N (by simp[I]) y A;exact WT x1 x2 x3 x4 S x6 x7 J y A w w1 w2
    have hp:=qA 28 (ej S);rw[dO O,LF]at p;rw[show ∀(a:List Nd) (b:Nd) (c:List Nd),a++b::c=a++[b]++c from fun a b c=>by simp]at p
    repeat' (first|refine sz ?_|(refine zc ?_ ?_<;>intro h<;>first|(cases h;done)|rw[h]|skip)|refine uI rfl (i) rfl (eF O) rfl ?_|refine uC rfl hq ?_|refine uC rfl hp ?_|(refine uA rfl ?_ ?_<;>(try (show(_:Nat)*_<=_;dsimp only))))
    ·have h1:=bq acc;simp only[aaa,aab];omega
    ·have E:aH acc++[aW (Nd.mk 2 0 28 [] (ej S))]=aH (acc++[Nd.mk 2 0 28 [] (ej S)]):=(jL acc [_]).symm;refine AK.fY [(2,2),(3,3)] [(6003,(0,some 6003))] (env':=[(59,.c (.int .i64 ((i+1:Nat):Int))),(58,.c (.int .i64 (aa args).length)),(57,.c (.sl 7 (aa args))),(2,.ptr 2 0),(3,.ptr 3 0)])
      (bs':=[(2,[.c (.int .i64 0),.c (.int .i64 0),.c (.int .i64 0),.c (.str []),.own .exact 5 []]),(3,[.c (.int .i64 3),.c (.int .i64 0),.c (.int .i64 0),.c (.str []),.own (.tok 6003 0) 5 (aH (acc++[Nd.mk 2 0 28 [] (ej S)]))])]) (ts':=[(6003,0)]) (us':=[2,3,6003])
      ⟨⟨_,rfl,.inl (kL (i:=i) bn)⟩,⟨_,rfl,.inl rfl⟩,⟨_,rfl,.inl rfl⟩,⟨_,rfl,⟨_,rfl,rfl⟩⟩,⟨_,rfl,⟨_,rfl,rfl⟩⟩,trivial⟩ ⟨⟨_,_,rfl,rfl,⟨_,_,rfl,.inl rfl,⟨_,_,rfl,.inl rfl,⟨_,_,rfl,.inl rfl,⟨_,_,rfl,.inl rfl,⟨_,_,rfl,rfl,rfl⟩⟩⟩⟩⟩⟩,⟨_,_,rfl,rfl,⟨_,_,rfl,.inl rfl,⟨_,_,rfl,.inl rfl,⟨_,_,rfl,.inl rfl,⟨_,_,rfl,.inl rfl,⟨_,_,rfl,⟨_,rfl,.inr ⟨_,_,rfl,rfl,congrArg (AV.own (.tok 6003 1) 5) E⟩⟩,rfl⟩⟩⟩⟩⟩⟩,trivial⟩ rfl ?_
     exact ih (i+1,acc++[Nd.mk 2 0 28 [] (ej S)]) ⟨h2,by simp[Cq],p⟩ fc
   ·have hc:=sK he;have h0:mw args=acc:=by rw[p,he,List.drop_length,Pt,List.append_nil]
    rw[h0];clear ih p;exact dq
  rw[Uz k n a bn];have e1:(k==1)=false:=by simp;omega
  have e2:(k==2)=false:=by simp;omega
  have e3:(k==6)=false:=by simp;omega
  have e4:(k==9)=false:=by simp;omega
  have e5:(k==10)=false:=by simp;omega
  have e6:(k==11)=false:=by simp;omega
  have e7:(k==12)=false:=by simp;omega
  have e8:(k==13)=false:=by simp;omega
  refine qn Tryz.func141 Tryz.call141 fun β hf=>?_;exact dq
termination_by v=>SizeOf.sizeOf v
decreasing_by
 ·have h1:=List.sizeOf_lt_of_mem O;simp at h1 ⊢;omega
 ·have h1:=List.sizeOf_lt_of_mem O;have h2:=List.sizeOf_lt_of_mem A;simp at h1 h2 ⊢;omega
end Go.Proofs
namespace Go.Proofs
open Go.cu
theorem I5 (n:Int):1<=(jc n).length:=by
 have:=UA n;cases h:jc n with
 | nil=>exact absurd h this
 | cons a b=>simp
mutual
theorem A0:∀(t:Nd) (d:Int),ef t d=0->bN t<=(dU t).length
 | .mk kind n p s args,d,h=>by
  obtain⟨h1,h2⟩:=hM h;obtain⟨_,D,_,_,Y,W,_,_,_⟩:=l8 h1;have S:=yy args (d+1) h2;have T:=I5 (s.length:Int);have Q:=I5 (args.length:Int);simp only[bN];rcases D with rfl|rfl|⟨rfl,A⟩|rfl
  ·obtain rfl:=Y bn;have:=W bn;rw[List.length_eq_zero_iff]at this;subst this;rw[Ru];simp[aQ]
  ·have:=W bn;rw[List.length_eq_zero_iff]at this;subst this;rw[Rv];simp only[aQ,aaa,aax];omega
  ·obtain rfl:=Y bn;rw[Rw];simp only[aaa,aax,aab];omega
  ·obtain rfl:=Y bn;rw[Rx];simp only[aaa,aax,aab];omega
theorem yy:∀(l:List Nd) (d:Int),cU l d=0->aQ l<=(eU l).length
 | [],d,_=>by simp[aQ]
 | t::l,d,h=>by
  have h1:=zP h t cn;have h2:cU l d=0:=by simp only[cU]at h;rw[if_pos h1]at h;exact h
  have V:=A0 t d h1;have U:=yy l d h2;simp only[eU,aQ,aax];omega
end
attribute [local irreducible] AK ai bw bz eT dU dj oC
end Go.Proofs
namespace Go.Proofs
open Go.cu
theorem EC {s:List UInt8} {n:Nat} (Y:s.length<=n):bN (eT s).1<=n+1:=by
 by_cases P:(eT s).2=0
 ·obtain⟨Q,p⟩:=GM P;have h1:=A0 _ 1 (gr.1 Q).1;rw[p]at h1;omega
 ·rw[I6 P];simp[sE,bN,aQ]
theorem I7 (t:Ty):gC t []=(oO,1):=rfl
theorem sL (t:Ty) (c:UInt8) (r:List UInt8) (h:¬(c=5/\(c::r).length<=200/\gh t=true/\(eT r).2=0)):gC t (c::r)=(oO,1):=by simp only[gC,if_neg h]
theorem LG (t:Ty) (r:List UInt8) (h:(5::r:List UInt8).length<=200/\gh t=true/\(eT r).2=0):gC t (5::r)=iB t (eT r).1:=by
 unfold gC;exact if_pos ⟨rfl,h⟩
attribute [local irreducible] AK ai bw bz er ej mw pI bL dj eT dU dI bA gh iB gC
theorem LH (t:Ty) (v:Vl) (p:gq t=false) (T:bL v t=true) (S:aM v<=8589934593):ah 122 [bP v] (.gB [.str (tJ v).1,.int .i64 (tJ v).2]):=by
 have V:=xo v t p T S;have Q:=Cu v;have D:=GN (er v) bn;rw[CF]at D;unfold tJ;obtain⟨P,O,N,H,u,M,q⟩:=v;rcases I:er (.mk P O N H u M q)with ⟨E,U,Y,W,J⟩
 rw[I]at V D;by_cases e:dj (.mk E U Y W J)=0
 ·rw[if_pos e];rw[if_pos e]at D;simp only at D;generalize dU (.mk E U Y W J)=bs at D;by_cases C:200<=bs.length
  ·rw[if_pos C];have A:decide (((bs.length:Nat):Int)>=200)=true:=aan bn;refine qn Tryz.func122 Tryz.call122 fun β hf=>?_;exact dq
  ·rw[if_neg C];have A:decide (((bs.length:Nat):Int)>=200)=false:=aaw bn;refine qn Tryz.func122 Tryz.call122 fun β hf=>?_
   repeat' (first|refine sz ?_|(refine zc ?_ ?_<;>intro h<;>first|(cases h;done)|rw[h]|skip)|refine uC rfl V ?_|refine uC rfl D ?_|refine ai.concat Tryz.hX kn rfl rfl rfl rfl rfl (show 1+bs.length<=9223372036854775807 from by omega) ?_)
   all_goals rfl
 ·rw[if_neg e];rw[if_neg e]at D;simp only at D;have A:(dj (.mk E U Y W J) != 0)=true:=by simpa using e
  generalize dj (.mk E U Y W J)=z at D A;refine qn Tryz.func122 Tryz.call122 fun β hf=>?_;exact dq
theorem sM (t:Ty) (n:Nd) (M:bC t<=8589934593) (O:bN n<=8589934593):ah 63 [eC t,aW n] (.gB [bP (iB t n).1,.int .i64 (iB t n).2]):=by
 have h1:=nq t M;have h2:=pJ n O;obtain⟨T,ts⟩:=t;obtain⟨u,C,G,K,Y⟩:=n;cases g1:bA (.mk T ts)with
 | false =>
  rw[g1]at h1;rw[show iB (.mk T ts) (.mk u C G K Y)=(oO,1)from by unfold iB;rw[if_neg (by simp[g1])]];refine qn Tryz.func63 Tryz.call63 fun β hf=>?_;exact dq
 | true =>
 rw[g1]at h1;by_cases p:dj (.mk u C G K Y)=0;rotate_left
 ·rw[show iB (.mk T ts) (.mk u C G K Y)=(oO,1)from by unfold iB;rw[if_neg (fun h=>p h.2.1)]];have A:(dj (.mk u C G K Y) != 0)=true:=by simpa using p
  generalize dj (.mk u C G K Y)=z at h2 A;refine qn Tryz.func63 Tryz.call63 fun β hf=>?_;exact dq
 rw[p]at h2;have V:=sN (.mk u C G K Y) (.mk T ts) (mb g1) O M;have H:=vJ (.mk u C G K Y) (.mk T ts);have D:=zQ (dI (.mk u C G K Y) (.mk T ts)).1 (.mk T ts) (mb g1) bn M;rcases I:dI (.mk u C G K Y) (.mk T ts)with ⟨⟨E,U,W,S,J,Q,N⟩,b⟩
 rw[I]at V D;simp only at V D;cases b with
 | false =>
  rw[show iB (.mk T ts) (.mk u C G K Y)=(oO,1)from by unfold iB;rw[if_neg (by simp[I])]];refine qn Tryz.func63 Tryz.call63 fun β hf=>?_;exact dq
 | true =>
  cases P:bL (.mk E U W S J Q N) (.mk T ts)with
  | false =>
   rw[P]at D;rw[show iB (.mk T ts) (.mk u C G K Y)=(oO,1)from by unfold iB;rw[if_neg (by simp[I,P])]];refine qn Tryz.func63 Tryz.call63 fun β hf=>?_;exact dq
  | true =>
   rw[P]at D;rw[show iB (.mk T ts) (.mk u C G K Y)=(.mk E U W S J Q N,0)from by unfold iB;rw[I,if_pos ⟨g1,p,rfl,P⟩]];refine qn Tryz.func63 Tryz.call63 fun β hf=>?_;exact dq
def wM:List UInt8->List UInt8×Bool
 | []=>([],false)
 | c::r=>if c=5 then(r,true)else(c::r,false)
theorem BH (s:List UInt8):ah 155 [.str s,.str [5]] (.bool (wM s).2):=by
 cases s with
 | nil =>
  refine qn Tryz.func155 Tryz.call155 fun β hf=>?_;exact dq
 | cons c r =>
  have A:decide ((((c::r).length:Nat):Int)>=((([5]:List UInt8).length:Nat):Int))=true:=aan zH;have E:(wM (c::r)).2=([c]==[5]):=by
   simp only[wM];by_cases h:c=5
   ·rw[if_pos h,h];rfl
   ·rw[if_neg h];simp[h]
  rw[E];refine qn Tryz.func155 Tryz.call155 fun β hf=>?_;exact dq
theorem zR (s:List UInt8):ah 150 [.str s,.str [5]] (.gB [.str (wM s).1,.bool (wM s).2]):=by
 have h1:=BH s;cases s with
 | nil =>
  refine qn Tryz.func150 Tryz.call150 fun β hf=>?_;exact dq
 | cons c r =>
  by_cases h:c=5
  ·subst h;rw[show wM (5::r)=(r,true)from by simp[wM]]at h1 ⊢;simp only at h1;refine qn Tryz.func150 Tryz.call150 fun β hf=>?_;exact dq
  ·rw[show wM (c::r)=(c::r,false)from by simp[wM,h]]at h1 ⊢;simp only at h1;refine qn Tryz.func150 Tryz.call150 fun β hf=>?_;exact dq
theorem BI (s:List UInt8):ah 142 [.str s,.str [5]] (.gB [.str (wM s).1,.bool (wM s).2]):=by
 have h1:=zR s;generalize wM s=z at h1;refine qn Tryz.func142 Tryz.call142 fun β hf=>?_;exact dq
theorem yz (t:Ty) (s:List UInt8) (M:bC t<=8589934593):ah 123 [eC t,.str s] (.gB [bP (gC t s).1,.int .i64 (gC t s).2]):=by
 have h1:=BI s;have h2:=mB t bn;obtain⟨T,ts⟩:=t;cases s with
 | nil =>
  rw[I7];refine qn Tryz.func123 Tryz.call123 fun β hf=>?_;exact dq
 | cons c r =>
 by_cases E:c=5;rotate_left
 ·rw[sL _ _ _ (fun h=>E h.1)];rw[show wM (c::r)=(c::r,false)from by simp[wM,E]]at h1;simp only at h1;refine qn Tryz.func123 Tryz.call123 fun β hf=>?_;exact dq
 subst E;rw[show wM (5::r)=(r,true)from by simp[wM]]at h1;simp only at h1;by_cases C:(5::r:List UInt8).length<=200;rotate_left
 ·rw[sL _ _ _ (fun h=>C h.2.1)];have A:decide ((((5::r:List UInt8).length:Nat):Int)>200)=true:=aan bn;have U:(bif false then true else decide ((((5::r:List UInt8).length:Nat):Int)>200))=true:=A;refine qn Tryz.func123 Tryz.call123 fun β hf=>?_;exact dq
 have A:decide ((((5::r:List UInt8).length:Nat):Int)>200)=false:=aaw bn;cases p:gh (.mk T ts)with
 | false =>
  rw[p]at h2;rw[sL _ _ _ (fun h=>by rw[p]at h;exact absurd h.2.2.1 cn)];refine qn Tryz.func123 Tryz.call123 fun β hf=>?_;exact dq
 | true =>
 rw[p]at h2;have V:=GO r;by_cases H:(eT r).2=0;rotate_left
 ·rw[sL _ _ _ (fun h=>H h.2.2.2)];rcases I:eT r with ⟨⟨u,Y,G,K,W⟩,e⟩
  rw[I]at V H;simp only at V H;have B:(e != 0)=true:=by simpa using H
  refine qn Tryz.func123 Tryz.call123 fun β hf=>?_;exact dq
 rw[LG _ _ ⟨C,p,H⟩];have Q:=EC (s:=r) (n:=200) VT;have D:=sM (.mk T ts) (eT r).1 M bn;rcases I:eT r with ⟨⟨u,Y,G,K,W⟩,e⟩
 rw[I]at V D H;simp only at V D H;subst H;rcases S:iB (.mk T ts) (.mk u Y G K W)with ⟨⟨P,O,N,J,q,y6,y7⟩,U⟩
 rw[S]at D;refine qn Tryz.func123 Tryz.call123 fun β hf=>?_;exact dq
end Go.Proofs
namespace Go.Proofs
open Go.cu
theorem ko (r:CR):∃x y e,iU r = .gB [.agg [x,y],.int .i64 e]/\x.one=true/\y.one=true:=by
 unfold iU;split
 ·exact⟨_,_,_,rfl,rfl,rfl⟩
 ·exact⟨_,_,_,rfl,rfl,rfl⟩
attribute [local irreducible] AK ai bw bz dN aZ fG lE gh jv bA dj cw eX bf ju iB gu aX cK cI bU ct b8 bQ iU
theorem GP (P U:Int) (G:List UInt8) (args:List Nd) (H s:List Ty) (hP:40<=P) (hf:bQ P args=some H) (Y:qv s) (C:s.length<=9999999990) (J:aQ args<=8589934593)
  (K:∀a∈args,∀A:List Ty,qv A->A.length<=s.length+1->ah 20 [.sl 5 (aH (bh a)),.sl 2 (aE A)] (qz (cw (bh a) (A,false)))) :
  ah 48 [aW (.mk 2 U P G args),.sl 2 (aE H),.sl 2 (aE s)] (iU (nv P args (bf args) H s)):=by
 unfold nv;by_cases S:P<=44
 ·rw[if_pos S];have e1:decide (P<=44)=true:=aan S;have hq:=IQ P U G args H s ⟨hP,S⟩ hf Y C;obtain⟨x,y,e,O,W,N⟩:=ko (gu P args s);rw[O]at hq ⊢;refine qn Tryz.func48 Tryz.call48 fun β hf=>?_;exact dw
 rw[if_neg S];have e1:decide (P<=44)=false:=aaw S;by_cases q:P=45
 ·subst q;rw[if_pos rfl];obtain⟨x0,u,t,rfl,rfl,ht⟩:=Ry hf rfl;clear hf K;have VX:=ht.2;have T:=sM t u bn (by simp only[aQ]at J;omega);have Q:=mB t bn;rw[show [t].getD 0 lF=t from rfl,show [x0,u].getD 1 sE=u from rfl];obtain⟨V,p⟩:=t;obtain⟨y1,y2,y3,y4,y5⟩:=u;rcases hr:iB (.mk V p) (.mk y1 y2 y3 y4 y5)with ⟨⟨v1,v2,v3,v4,v5,v6,v7⟩,e⟩
  rw[hr]at T;simp only at T ⊢;by_cases he:e=0;rotate_left
  ·rw[if_neg (fun h=>he h.1),aB cc];have e2:(e != 0)=true:=by simpa using he
   refine qn Tryz.func48 Tryz.call48 fun β hf=>?_;exact dw
  subst he;cases M:gh (.mk V p)with
  | false =>
   rw[M]at Q;rw[if_neg (fun h=>by simp at h),aB cc];refine qn Tryz.func48 Tryz.call48 fun β hf=>?_;exact dw
  | true =>
   rw[M]at Q;have hp:=bF s [.mk V p];rw[aG]at hp;rw[if_pos ⟨rfl,rfl⟩,aG];refine qn Tryz.func48 Tryz.call48 fun β hf=>?_;exact dw
 rw[if_neg q];have e2:(P==45)=false:=by simpa using q
 by_cases I:P<=58
 ·rw[if_pos I];have e3:decide (P<=58)=true:=aan I;have hq:=CD P U G args H s ⟨bn,I⟩ hf Y C J K;obtain⟨x,y,e,O,W,N⟩:=ko (aX P (bf args) H s);rw[O]at hq ⊢;refine qn Tryz.func48 Tryz.call48 fun β hf=>?_;exact dw
 rw[if_neg I];have e3:decide (P<=58)=false:=aaw I;by_cases E:P<=63
 ·rw[if_pos E];have e4:decide (P<=63)=true:=aan E;have hq:=GJ P U G args H s ⟨bn,E⟩ hf Y C J K;obtain⟨x,y,e,O,W,N⟩:=ko (cK P (bf args) H s);rw[O]at hq ⊢;refine qn Tryz.func48 Tryz.call48 fun β hf=>?_;exact dw
 rw[if_neg E];have e4:decide (P<=63)=false:=aaw E;by_cases D:P<=68
 ·rw[if_pos D];have e5:decide (P<=68)=true:=aan D;have hq:=CG P U G args H s ⟨bn,D⟩ hf Y C J K;obtain⟨x,y,e,O,W,N⟩:=ko (cI P args (bf args) H s);rw[O]at hq ⊢;refine qn Tryz.func48 Tryz.call48 fun β hf=>?_;exact dw
 rw[if_neg D];have e5:decide (P<=68)=false:=aaw D;by_cases p6:P<=72\/P>=93
 ·rw[if_pos p6];have hq:=CC P s bn C;obtain⟨x,y,e,O,W,N⟩:=ko (bU P s);rw[O]at hq ⊢;by_cases p7:P<=72
  ·have e6:decide (P<=72)=true:=aan p7;refine qn Tryz.func48 Tryz.call48 fun β hf=>?_;exact dw
  ·have e6:decide (P<=72)=false:=aaw p7;have e7:decide (P>=93)=true:=aan bn;refine qn Tryz.func48 Tryz.call48 fun β hf=>?_;exact dw
 rw[if_neg p6];have e6:decide (P<=72)=false:=aaw bn;have e7:decide (P>=93)=false:=aaw bn;by_cases B:P<=83
 ·rw[if_pos B];have e8:decide (P<=83)=true:=aan B;have hq:=IW P args H s ⟨bn,B⟩ hf Y C;obtain⟨x,y,e,O,W,N⟩:=ko (ct P H s);rw[O]at hq ⊢;refine qn Tryz.func48 Tryz.call48 fun β hf=>?_;exact dw
 ·rw[if_neg B];have e8:decide (P<=83)=false:=aaw B;have hq:=GI P args H s ⟨bn,bn⟩ hf Y C;obtain⟨x,y,e,O,W,N⟩:=ko (b8 P H s);rw[O]at hq ⊢;refine qn Tryz.func48 Tryz.call48 fun β hf=>?_;exact dw
theorem I8 (n:Nd) (s:List Ty) (U:qv s) (C:s.length<=9999999990) (J:bN n<=8589934593)
  (B:ah 20 [.sl 5 (aH (bh n)),.sl 2 (aE s)] (qz (cw (bh n) (s,false))))
  (K:∀a∈bh n,∀W:List Ty,qv W->W.length<=s.length+1->ah 20 [.sl 5 (aH (bh a)),.sl 2 (aE W)] (qz (cw (bh a) (W,false)))) :
  ah 36 [aW n,.sl 2 (aE s)] (iU (eX n s)):=by
 obtain⟨kind,N,P,S,args⟩:=n;simp only[bh]at B K;simp only[bN]at J;by_cases V:kind=3
 ·subst V;rw[show eX (.mk 3 N P S args) s=cw args (s,false)from by simp only[eX,if_true]];generalize cw args (s,false)=r at B;obtain⟨⟨t,b⟩,e⟩:=r;clear K;refine qn Tryz.func36 Tryz.call36 fun β hf=>?_;exact dw
 have T:(kind==3)=false:=by simpa using V
 by_cases D:kind=2;rotate_left
 ·have E:(kind != 2)=true:=by simpa using D
  rw[show eX (.mk kind N P S args) s=aP 1 from by simp only[eX,if_neg V,if_pos D],aB cc];clear B K;refine qn Tryz.func36 Tryz.call36 fun β hf=>?_;exact dw
 subst D;have Y:=IP 2 N P S args bn;cases hf:bQ P args with
 | none =>
  rw[show eX (.mk 2 N P S args) s=aP 1 from by simp only[eX,hf];rfl,aB cc];rw[hf]at Y;clear B K;refine qn Tryz.func36 Tryz.call36 fun β hf=>?_;exact dw
 | some H =>
  have O:40<=P:=by
   unfold bQ at hf;split at hf
   ·cases hf
   ·omega
  rw[show eX (.mk 2 N P S args) s=nv P args (bf args) H s from by simp only[eX,hf];rfl];have hq:=GP P N S args H s O hf U C bn K;rw[hf]at Y;obtain⟨x,y,e,q,Q,M⟩:=ko (nv P args (bf args) H s);rw[q]at hq ⊢;clear B K;refine qn Tryz.func36 Tryz.call36 fun β hf=>?_;exact dw
end Go.Proofs
