/- What nodes, node, Node, Told, Pack, Parse and Unpack of package value  -/
import Derived.Test.YtdnpapgijbhofaaGreatDoorTree3Rt
import Derived.Test.YtdnpapgijbhofaaGreatDoorTree4Rt
import Derived.Test.YtdnpapgijbhofaaGreatDoorTree5Rt
import Derived.Test.YtdnpapgijbhofaaGreatDoorChk3Rt
import Derived.Test.YtdnpapgijbhofaaGreatDoorChkBRt
import Derived.Test.YtdnpapgijbhofaaGreatDoorChk7Rt
import Derived.Test.YtdnpapgijbhofaaGreatDoorVal2Rt
import Derived.Test.YtdnpapgijbhofaaGreatDoorVal4Rt
open Go.IntKind
open Go.Proofs.Tryz
set_option linter.defProp false
set_option maxHeartbeats 0
set_option linter.unusedVariables false
set_option linter.unusedSimpArgs false
set_option maxRecDepth 100000
namespace Go.Proofs
open Go.cB
def kids{k n a:Int}{s:L UInt8}{args:L Vl}{types:L Ty}{H:L Nd}{t:Ty}(h:bz (.mk k n a s args types H) t=true)(A:fY t=false)(E:k=9\/k=10\/k=11\/k=12\/k=13) :
  ∀x∈args,∃u,fY u=false/\bz x u=true:=by
 intro x O;have M:=(oS h).1;have S:=kF h;obtain⟨Y,W⟩:=gH A;rw[<- M]at Y;rcases E with rfl|rfl|rfl|rfl|rfl
 ·simp[mU]at S;have:arity 9=1:=by decide
  exact⟨_,cN W (kG (i:=0) bn),(dM _ _).1 S.2 x O⟩
 ·simp[mU]at S;have:arity 10=1:=by decide
  exact⟨_,cN W (kG (i:=0) bn),(dM _ _).1 S.2 x O⟩
 ·simp[mU]at S;have:arity 11=2:=by decide
  obtain⟨y,z,u,w,B,V,U,p⟩:=UD S.1.2 bn S.2;rw[V]at W;rw[B]at O;simp at O;rcases O with rfl|rfl
  exact⟨u,cN W c9,U⟩;exact⟨w,cN W c9,p⟩
 ·simp[mU]at S;have:arity 12=2:=by decide
  exact⟨_,cN W (kG (i:=n.toNat) bn),(dM _ _).1 S.2 x O⟩
 simp[mU]at S;have:arity 13=2:=by decide
 refine⟨.mk 11 (aK t),?_,(dM _ _).1 S.1.2 x O⟩;simp only[fY,abW];exact⟨aan (by(simp;have:arity 11=2:=by decide);omega),W⟩
def YO{x:Vl}{ts:L Ty}(h:bz x (.mk 11 ts)=true):vK x=11:=by cases x with|mk k n a s args types H=>exact(oS h).1
def Rc{G:ja}{a b c d:CV}{s t:Nat}{v:Value}(h:Rel G (.agg [a,b,c,d,.sl s []]) v):Rel G (.agg [a,b,c,d,.sl t []]) v:=by obtain⟨vs,Y,B,U⟩:=h;refine⟨vs,Y,?_,?_⟩;rw[bT]at B ⊢;obtain⟨W,V,O,A,B⟩:=B;refine⟨W,V,O,A,?_⟩;obtain⟨T,S,p,Q,B⟩:=B;refine⟨T,S,p,Q,?_⟩;obtain⟨P,v3,N,M,B⟩:=B;refine⟨P,v3,N,M,?_⟩;obtain⟨K,J,I,H,B⟩:=B;refine⟨K,J,I,H,?_⟩;obtain⟨E,D,C,u,q⟩:=B;exact⟨E,D,C,N9 u,q⟩;simp at U ⊢;exact⟨U.1,U.2.1,U.2.2.1,U.2.2.2.1,rfl⟩
def Jj(x:Vl)(l:L Vl):ef (x::l)=ej x::ef l:=by simp only[ef]
def LP:ef []=[]:=by simp only[ef]
def LQ(k n a:Int)(s:L UInt8)(args:L Vl)(types:L Ty)(H:L Nd)(l:L Vl):mg (.mk k n a s args types H::l) = .mk 2 0 28 [] (ef args)::mg l:=by simp only[mg]
def Pe:mg []=[]:=by simp only[mg]
def UE(n a:Int)(s:L UInt8)(args:L Vl)(types:L Ty)(H:L Nd):ej (.mk 1 n a s args types H) = .mk 2 0 20 [] []:=by simp[ej]
def UF(n a:Int)(s:L UInt8)(args:L Vl)(types:L Ty)(H:L Nd):ej (.mk 2 n a s args types H) = .mk 2 0 (22-n) [] []:=by simp[ej]
def UG(n a:Int)(s:L UInt8)(args:L Vl)(types:L Ty)(H:L Nd):ej (.mk 6 n a s args types H) = .mk 1 0 0 s []:=by simp[ej]
def UH(n a:Int)(s:L UInt8)(args:L Vl)(types:L Ty)(H:L Nd):ej (.mk 9 n a s args types H) = .mk 2 0 (27-args.length) [] (ef args):=by simp[ej]
def Re(n a:Int)(s:L UInt8)(args:L Vl)(types:L Ty)(H:L Nd):ej (.mk 10 n a s args types H) = .mk 3 0 0 [] (ef args):=by simp[ej]
def Rf(n a:Int)(s:L UInt8)(args:L Vl)(types:L Ty)(H:L Nd):ej (.mk 11 n a s args types H) = .mk 2 0 23 [] (ef args):=by simp[ej]
def Rg(n a:Int)(s:L UInt8)(args:L Vl)(types:L Ty)(H:L Nd):ej (.mk 12 n a s args types H) = .mk 2 0 (24+n) [] (ef args):=by simp[ej]
def Rh(n a:Int)(s:L UInt8)(args:L Vl)(types:L Ty)(H:L Nd):ej (.mk 13 n a s args types H) = .mk 3 0 0 [] (mg args):=by simp[ej]
def UI(k n a:Int)(h:¬(k=1\/k=2\/k=6\/k=9\/k=10\/k=11\/k=12\/k=13))(s:L UInt8)(args:L Vl)(types:L Ty)(H:L Nd):ej (.mk k n a s args types H) = .mk 0 n 0 [] []:=by simp at h;simp[ej,h]
attribute [local irreducible] AK ai aR bW ej ef mg pF bz dD eL dS dz bg fN
def qo(p:Int)(l:L Nd):af 189 [.int .i64 p,.sl 5 (aD l)] (aS (.mk 2 0 p [] l)):=by exact qdq func189 call189
def ye(p:Int):af 189 [.int .i64 p,.sl 0 []] (aS (.mk 2 0 p [] [])):=by
 have h:af 189 [.int .i64 p,.sl 0 []] (.agg [.int .i64 2,.int .i64 0,.int .i64 p,.str [],.sl 0 []]):=by exact qdq func189 call189
 exact aR.weaken (λG v q=>Rc q) h
def AS(l:L Vl)(P:l.length<=1099511627776)(D:∀x∈l,af 183 [bA x] (aS (ej x))):af 190 [.sl 7 (aa l)] (.sl 5 (aD (ef l))):=by
 refine qn func190 call190 λβ hf=>?_;refine dn ?_;refine AK.fQ [] [(6000,(0,none))] (env':=[(8,.c (.int .i64 (0:Nat))),(7,.c (.int .i64 (aa l).length)),(6,.c (.sl 7 (aa l))),(3,.own (.tok 6000 0) 5 [])])
  (bs':=[]) (ts':=[(6000,0)]) (us':=[6000])
  ce  trivial Z ?_
 refine AK.dI (α:=Nat×L Nd) (λz=>z.1<=l.length/\z.1=z.2.length/\ef l=z.2++ef (l.drop z.1)) (λz=>l.length-z.1)
  (λz=>[(8,.c (.int .i64 z.1)),(7,.c (.int .i64 (aa l).length)),(6,.c (.sl 7 (aa l))),(3,.own (.tok 6000 0) 5 (aD z.2))]) (λ_=>[]) (λ_=>[(6000,0)]) [6000] (0,[])
  ⟨bn,Z,c9⟩ ce trivial ⟨Z,trivial⟩ Z Z Z ?_
 rintro⟨i,acc⟩ ⟨W,Y,U⟩ ih;simp only at W Y U;rcases eI l i W with ⟨x,O,T⟩|V
 ·have S:=mh O;have h2:=bh O;have hq:=D x T;rw[cQ O,Jj]at U;rw[show ∀(a:L Nd)(b:Nd)(c:L Nd),a++b::c=a++[b]++c from λa b c=>by simp]at U;rcases Q:ej x with ⟨A,N,p,B,C⟩
  rw[Q]at hq U;obtain⟨K,J,H,G,E,u,q⟩:=x
  repeat' (first|refine sz ?_|refine zc ?_ ?_|(intro h;first|(cases h;done)|rw[h]|skip)|refine uI Z (i) Z (cY O) Z ?_|refine uC Z hq ?_|(refine uA Z ?_ ?_<;>(try (show(_:Nat)*_<=_;dsimp only))))
  have h1:=bf acc;simp only[aaa,aab];omega;have I:aD acc++[aS (Nd.mk A N p B C)]=aD (acc++[Nd.mk A N p B C]):=(kX acc [_]).symm;refine AK.fQ [] [(6000,(0,some 6000))] (env':=[(8,.c (.int .i64 ((i+1:Nat):Int))),(7,.c (.int .i64 (aa l).length)),(6,.c (.sl 7 (aa l))),(3,.own (.tok 6000 0) 5 (aD (acc++[Nd.mk A N p B C])))])
   (bs':=[]) (ts':=[(6000,0)]) (us':=[6000])
   ⟨⟨_,Z,.inl (ku (i:=i) bn)⟩,⟨_,Z,.inl Z⟩,⟨_,Z,.inl Z⟩,⟨_,Z,⟨_,Z,.inr ⟨_,_,Z,Z,aaZ (AV.own (.tok 6000 1) 5) I⟩⟩⟩,trivial⟩ trivial Z ?_
  exact ih (i+1,acc++[Nd.mk A N p B C]) ⟨h2,by simp[Y],U⟩ nu
 have S:=jK V;have M:ef l=acc:=by rw[U,V,aaW,LP,aba]
 rw[M];clear ih U;exact dq
def wY:∀(v:Vl)(t:Ty),fY t=false->bz v t=true->aE v<=8589934593->af 183 [bA v] (aS (ej v))
 |.mk k n a s args types B,t,A,Q,hv=>by
  simp only[aE]at hv;have Cf:=ga args;have P:∀x∈args,∀u,fY u=false->bz x u=true->af 183 [bA x] (aS (ej x)):=λx O u h1 h2=>wY x u h1 h2 Xi;have W0:∀k' q p s' M Y W,Vl.mk k' q p s' M Y W∈args->∀y∈M,∀u,fY u=false->bz y u=true->af 183 [bA y] (aS (ej y)):=λk' q p s' M Y W O y G u h1 h2=>wY y u h1 h2 (by have h3:=cI O;have h4:=cI G;simp only[aE]at h3;omega);have S:=kF Q;have YP:=kids Q A;have V:(k=9\/k=10\/k=11\/k=12\/k=13)->af 190 [.sl 7 (aa args)] (.sl 5 (aD (ef args))):=λh=>AS args bn λx O=>by obtain⟨u,N,K⟩:=YP h x O;exact P x O u N K
  by_cases c:k=1;subst c;rw[UE];have h1:=ye 20;exact qdq func183 call183;by_cases c:k=2;subst c;rw[UF];have hn:0<=n/\n<=1:=(by simp[mU]at S;omega);have T:i64.wrap (22-n)=22-n:=gM bn bn;have h1:=ye (22-n);rw[<- T]at h1 ⊢;exact qdq func183 call183;by_cases c:k=6;subst c;rw[UG];exact qdq func183 call183;by_cases c:k=9;subst c;rw[UH];have hn:args.length<=1:=(by simp[mU]at S;omega);have T:i64.wrap (27-(((aa args).length:Nat):Int))=27-(args.length:Int):=(by rw[az,gM bn bn]);have h1:=qo (27-(args.length:Int)) (ef args);have h2:=V c9;rw[<- T]at h1 ⊢;exact qdq func183 call183;by_cases c:k=10;subst c;rw[Re];have h2:=V c9;exact qdq func183 call183;by_cases c:k=11;subst c;rw[Rf];have h1:=qo 23 (ef args);have h2:=V c9;exact qdq func183 call183;by_cases c:k=12;subst c;rw[Rg];have hn:0<=n/\n<=1:=(by simp[mU]at S;omega);have T:i64.wrap (24+n)=24+n:=gM bn bn;have h1:=qo (24+n) (ef args);have h2:=V c9;rw[<- T]at h1 ⊢;exact qdq func183 call183;by_cases c:k=13
  ·subst c;rw[Rh];have I:∀x∈args,∃u,fY u=false/\bz x u=true/\vK x=11:=(by intro x O;simp[mU]at S;have Yi:=(dM _ _).1 S.1.2 x O;refine⟨_,?_,Yi,YO Yi⟩;obtain⟨Lu,jS⟩:=gH A;rw[<- (oS Q).1]at Lu;have:arity 13=2:=(by decide);simp only[fY,abW];exact⟨aan (by(simp;have:arity 11=2:=by decide);omega),jS⟩);refine qn func183 call183 λβ hf=>?_
   repeat' (first|refine sz ?_|refine zc ?_ ?_|(intro h;first|(cases h;done)|rw[h]|skip)|(refine uA Z ?_ ?_<;>(try (show(_:Nat)*_<=_;dsimp only))))
   refine AK.fQ [(2,2),(3,3)] [(6003,(0,none))] (env':=[(59,.c (.int .i64 (0:Nat))),(58,.c (.int .i64 (aa args).length)),(57,.c (.sl 7 (aa args))),(2,.ptr 2 0),(3,.ptr 3 0)])
    (bs':=[(2,[.c (.int .i64 0),.c (.int .i64 0),.c (.int .i64 0),.c (.str []),.own .exact 5 []]),(3,[.c (.int .i64 3),.c (.int .i64 0),.c (.int .i64 0),.c (.str []),.own (.tok 6003 0) 5 []])]) (ts':=[(6003,0)]) (us':=[2,3,6003])
    ce ce Z ?_
   refine AK.dI (α:=Nat×L Nd) (λz=>z.1<=args.length/\z.1=z.2.length/\mg args=z.2++mg (args.drop z.1)) (λz=>args.length-z.1)
    (λz=>[(59,.c (.int .i64 z.1)),(58,.c (.int .i64 (aa args).length)),(57,.c (.sl 7 (aa args))),(2,.ptr 2 0),(3,.ptr 3 0)])
    (λz=>[(2,[.c (.int .i64 0),.c (.int .i64 0),.c (.int .i64 0),.c (.str []),.own .exact 5 []]),(3,[.c (.int .i64 3),.c (.int .i64 0),.c (.int .i64 0),.c (.str []),.own (.tok 6003 0) 5 (aD z.2)])]) (λ_=>[(6003,0)]) [2,3,6003] (0,[])
    ⟨bn,Z,c9⟩ ce ⟨Z,Z,trivial⟩ ⟨Z,trivial⟩ Z Z Z ?_
   rintro⟨i,acc⟩ ⟨hi,Ch,U⟩ ih;simp only at hi Ch U;rcases eI args i hi with ⟨x,O,H⟩|he
   ·have hc:=mh O;have h2:=bh O;obtain⟨u,N,K,u3⟩:=I x H;obtain⟨x1,x2,x3,x4,J,x6,x7⟩:=x;have E:x1=11:=u3;have D:=cI H;simp only[aE]at D;have W2:=ga J;have hq:=AS J bn λy G=>by obtain⟨w,w1,w2⟩:=kids K N aay y G;exact W0 x1 x2 x3 x4 J x6 x7 H y G w w1 w2
    have hp:=qo 28 (ef J);rw[cQ O,LQ]at U;rw[show ∀(a:L Nd)(b:Nd)(c:L Nd),a++b::c=a++[b]++c from λa b c=>by simp]at U
    repeat' (first|refine sz ?_|refine zc ?_ ?_|(intro h;first|(cases h;done)|rw[h]|skip)|refine uI Z (i) Z (cY O) Z ?_|refine uC Z hq ?_|refine uC Z hp ?_|(refine uA Z ?_ ?_<;>(try (show(_:Nat)*_<=_;dsimp only))))
    have h1:=bf acc;simp only[aaa,aab];omega;have C:aD acc++[aS (Nd.mk 2 0 28 [] (ef J))]=aD (acc++[Nd.mk 2 0 28 [] (ef J)]):=(kX acc [_]).symm;refine AK.fQ [(2,2),(3,3)] [(6003,(0,some 6003))] (env':=[(59,.c (.int .i64 ((i+1:Nat):Int))),(58,.c (.int .i64 (aa args).length)),(57,.c (.sl 7 (aa args))),(2,.ptr 2 0),(3,.ptr 3 0)])
     (bs':=[(2,[.c (.int .i64 0),.c (.int .i64 0),.c (.int .i64 0),.c (.str []),.own .exact 5 []]),(3,[.c (.int .i64 3),.c (.int .i64 0),.c (.int .i64 0),.c (.str []),.own (.tok 6003 0) 5 (aD (acc++[Nd.mk 2 0 28 [] (ef J)]))])]) (ts':=[(6003,0)]) (us':=[2,3,6003])
     ⟨⟨_,Z,.inl (ku (i:=i) bn)⟩,⟨_,Z,.inl Z⟩,⟨_,Z,.inl Z⟩,⟨_,Z,⟨_,Z,Z⟩⟩,⟨_,Z,⟨_,Z,Z⟩⟩,trivial⟩ ⟨ce,⟨_,_,Z,Z,⟨_,_,Z,.inl Z,⟨_,_,Z,.inl Z,⟨_,_,Z,.inl Z,⟨_,_,Z,.inl Z,⟨_,_,Z,⟨_,Z,.inr ⟨_,_,Z,Z,aaZ (AV.own (.tok 6003 1) 5) C⟩⟩,Z⟩⟩⟩⟩⟩⟩,trivial⟩ Z ?_
    exact ih (i+1,acc++[Nd.mk 2 0 28 [] (ef J)]) ⟨h2,by simp[Ch],U⟩ fe
   have hc:=jK he;have h0:mg args=acc:=(by rw[U,he,aaW,Pe,aba]);rw[h0];clear ih U;exact dq
  rw[UI k n a bn];have e1:(k==1)=false:=by simp;omega
  have e2:(k==2)=false:=by simp;omega
  have e3:(k==6)=false:=by simp;omega
  have e4:(k==9)=false:=by simp;omega
  have e5:(k==10)=false:=by simp;omega
  have e6:(k==11)=false:=by simp;omega
  have e7:(k==12)=false:=by simp;omega
  have e8:(k==13)=false:=by simp;omega
  exact qdq func183 call183
termination_by v=>SizeOf.sizeOf v
decreasing_by
 have h1:=abg O;simp at h1 ⊢;omega;have h1:=abg O;have h2:=abg G;simp at h1 h2 ⊢;omega
end Go.Proofs
namespace Go.Proofs
open Go.cB
def Jk(n:Int):1<=(jb n).length:=by
 have:=UJ n;cases h:jb n with
 |nil=>exact absurd h this
 |cons a b=>simp
mutual
def AT:∀(t:Nd)(d:Int),eC t d=0->bR t<=(dS t).length
 |.mk u n p s args,d,h=>by
  obtain⟨h1,h2⟩:=jr h;obtain⟨_,E,_,_,C,W,_,_,_⟩:=lR h1;have S:=yf args (d+1) h2;have U:=Jk (s.length:Int);have P:=Jk (args.length:Int);simp only[bR];rcases E with rfl|rfl|⟨rfl,D⟩|rfl
  obtain rfl:=C bn;have:=W bn;rw[acX]at this;subst this;rw[Ri];simp[aM];have:=W bn;rw[acX]at this;subst this;rw[Rj];simp only[aM,aaa,aao];omega;obtain rfl:=C bn;rw[Rk];simp only[aaa,aao,aab];omega;obtain rfl:=C bn;rw[Rm];simp only[aaa,aao,aab];omega
def yf:∀(l:L Nd)(d:Int),cS l d=0->aM l<=(eM l).length
 |[],d,_=>by simp[aM]
 |t::l,d,h=>by
  have h1:=zJ h t c9;have h2:cS l d=0:=by simp only[cS]at h;rw[if_pos h1]at h;exact h
  have Y:=AT t d h1;have V:=yf l d h2;simp only[eM,aM,aao];omega
end
attribute [local irreducible] AK ai aR bW eL dS dD Cs
end Go.Proofs
namespace Go.Proofs
open Go.cB
def Ez{s:L UInt8}{n:Nat}(C:s.length<=n):bR (eL s).1<=n+1:=by by_cases Y:(eL s).2=0;obtain⟨Q,A⟩:=GA Y;have h1:=AT _ 1 (jV.1 Q).1;grind;rw[Jl Y];simp[oF,bR,aM]
def Jm(t:Ty):gu t []=(qp,1):=rfl
def sI(t:Ty)(c:UInt8)(r:L UInt8)(h:¬(c=5/\(c::r).length<=200/\fN t=true/\(eL r).2=0)):gu t (c::r)=(qp,1):=by simp only[gu,if_neg h]
def LR(t:Ty)(r:L UInt8)(h:(5::r:L UInt8).length<=200/\fN t=true/\(eL r).2=0):gu t (5::r)=gZ t (eL r).1:=by exact if_pos ⟨rfl,h⟩
attribute [local irreducible] AK ai aR bW ej ef mg pF bz dD eL dS dz bg fN gZ gu
def LS(t:Ty)(v:Vl)(W:fY t=false)(S:bz v t=true)(q:aE v<=8589934593):af 167 [bA v] (.fG [.str (tw v).1,.int .i64 (tw v).2]):=by
 have U:=wY v t W S q;have T:=Ct v;have P:=GB (ej v) bn;rw[Cu]at P;unfold tw;obtain⟨Q,O,D,M,J,K,I⟩:=v;rcases H:ej (.mk Q O D M J K I)with ⟨A,N,p,B,C⟩
 rw[H]at U P;by_cases e:dD (.mk A N p B C)=0
 ·rw[if_pos e];rw[if_pos e]at P;simp only at P;generalize dS (.mk A N p B C)=bs at P;by_cases V:200<=bs.length;rw[if_pos V];have Y:decide (((bs.length:Nat):Int)>=200)=true:=aam bn;exact qdq func167 call167;rw[if_neg V];have Y:decide (((bs.length:Nat):Int)>=200)=false:=aan bn;refine qn func167 call167 λβ hf=>?_
  repeat' (first|refine sz ?_|refine zc ?_ ?_|(intro h;first|(cases h;done)|rw[h]|skip)|refine uC Z U ?_|refine uC Z P ?_|refine ai.concat hX kn Z Z Z Z Z (show 1+bs.length<=9223372036854775807 from by omega) ?_)
  all_goals rfl
 rw[if_neg e];rw[if_neg e]at P;simp only at P;have Y:(dD (.mk A N p B C) != 0)=true:=by simpa using e
 generalize dD (.mk A N p B C)=z at P Y;exact qdq func167 call167
def sJ(t:Ty)(n:Nd)(p:bp t<=8589934593)(O:bR n<=8589934593):af 118 [dA t,aS n] (.fG [bA (gZ t n).1,.int .i64 (gZ t n).2]):=by
 have h1:=mY t p;have h2:=pG n O;obtain⟨T,ts⟩:=t;obtain⟨W,B,Y,Q,N⟩:=n;cases g1:bg (.mk T ts)with
 |false =>
  rw[g1]at h1;rw[show gZ (.mk T ts) (.mk W B Y Q N)=(qp,1)from by unfold gZ;rw[if_neg (by simp[g1])]];exact qdq func118 call118
 |true =>
 rw[g1]at h1;by_cases I:dD (.mk W B Y Q N)=0;rotate_left
 ·rw[show gZ (.mk T ts) (.mk W B Y Q N)=(qp,1)from by unfold gZ;rw[if_neg (λh=>I h.2.1)]];have E:(dD (.mk W B Y Q N) != 0)=true:=by simpa using I
  generalize dD (.mk W B Y Q N)=z at h2 E;exact qdq func118 call118
 rw[I]at h2;have U:=sK (.mk W B Y Q N) (.mk T ts) (kH g1) O p;have D:=vu (.mk W B Y Q N) (.mk T ts);have P:=zK (dz (.mk W B Y Q N) (.mk T ts)).1 (.mk T ts) (kH g1) bn p;rcases A:dz (.mk W B Y Q N) (.mk T ts)with ⟨⟨S,M,K,J,C,H,G⟩,b⟩
 rw[A]at U P;simp only at U P;cases b with
 |false =>
  rw[show gZ (.mk T ts) (.mk W B Y Q N)=(qp,1)from by unfold gZ;rw[if_neg (by simp[A])]];exact qdq func118 call118
 |true =>
  cases V:bz (.mk S M K J C H G) (.mk T ts)with
  |false =>
   rw[V]at P;rw[show gZ (.mk T ts) (.mk W B Y Q N)=(qp,1)from by unfold gZ;rw[if_neg (by simp[A,V])]];exact qdq func118 call118
  |true =>
   rw[V]at P;rw[show gZ (.mk T ts) (.mk W B Y Q N)=(.mk S M K J C H G,0)from by unfold gZ;rw[A,if_pos ⟨g1,I,Z,V⟩]];exact qdq func118 call118
def wZ:L UInt8->L UInt8×Bool
 |[]=>([],false)
 |c::r=>if c=5 then(r,true)else(c::r,false)
def BD(s:L UInt8):af 196 [.str s,.str [5]] (.bool (wZ s).2):=by
 cases s with
 |nil =>
  exact qdq func196 call196
 |cons c r =>
  have Y:decide ((((c::r).length:Nat):Int)>=((([5]:L UInt8).length:Nat):Int))=true:=aam J6;have B:(wZ (c::r)).2=([c]==[5]):=by simp only[wZ];by_cases h:c=5;rw[if_pos h,h];rfl;rw[if_neg h];simp[h]
  rw[B];exact qdq func196 call196
def zL(s:L UInt8):af 191 [.str s,.str [5]] (.fG [.str (wZ s).1,.bool (wZ s).2]):=by
 have h1:=BD s;cases s with
 |nil =>
  exact qdq func191 call191
 |cons c r =>
  by_cases h:c=5;subst h;rw[show wZ (5::r)=(r,true)from by simp[wZ]]at h1 ⊢;simp only at h1;exact qdq func191 call191;rw[show wZ (c::r)=(c::r,false)from by simp[wZ,h]]at h1 ⊢;simp only at h1;exact qdq func191 call191
def BE(s:L UInt8):af 184 [.str s,.str [5]] (.fG [.str (wZ s).1,.bool (wZ s).2]):=by have h1:=zL s;exact qdq func184 call184
def yg(t:Ty)(s:L UInt8)(p:bp t<=8589934593):af 168 [dA t,.str s] (.fG [bA (gu t s).1,.int .i64 (gu t s).2]):=by
 have h1:=BE s;have h2:=l9 t bn;obtain⟨T,ts⟩:=t;cases s with
 |nil =>
  rw[Jm];exact qdq func168 call168
 |cons c r =>
 by_cases D:c=5;rotate_left;rw[sI _ _ _ (λh=>D h.1)];rw[show wZ (c::r)=(c::r,false)from by simp[wZ,D]]at h1;simp only at h1;exact qdq func168 call168;subst D;rw[show wZ (5::r)=(r,true)from by simp[wZ]]at h1;simp only at h1;by_cases V:(5::r:L UInt8).length<=200;rotate_left;rw[sI _ _ _ (λh=>V h.2.1)];have Y:decide ((((5::r:L UInt8).length:Nat):Int)>200)=true:=aam bn;have O:(bif false then true else decide ((((5::r:L UInt8).length:Nat):Int)>200))=true:=Y;exact qdq func168 call168;have Y:decide ((((5::r:L UInt8).length:Nat):Int)>200)=false:=aan bn;cases I:fN (.mk T ts)with
 |false =>
  rw[I]at h2;rw[sI _ _ _ (λh=>by rw[I]at h;exact absurd h.2.2.1 c9)];exact qdq func168 call168
 |true =>
 rw[I]at h2;have U:=GC r;by_cases J:(eL r).2=0;rotate_left
 ·rw[sI _ _ _ (λh=>J h.2.2.2)];rcases A:eL r with ⟨⟨W,B,S,Q,N⟩,e⟩
  rw[A]at U J;simp only at U J;have K:(e != 0)=true:=by simpa using J
  exact qdq func168 call168
 rw[LR _ _ ⟨V,I,J⟩];have H:=Ez (s:=r) (n:=200) (by simp only[aaa]at V;omega);have P:=sJ (.mk T ts) (eL r).1 p bn;rcases A:eL r with ⟨⟨W,B,S,Q,N⟩,e⟩
 rw[A]at U P J;simp only at U P J;subst J;rcases M:gZ (.mk T ts) (.mk W B S Q N)with ⟨⟨G,E,C,u,q,y6,y7⟩,O⟩
 rw[M]at P;exact qdq func168 call168
end Go.Proofs
namespace Go.Proofs
open Go.cB
def jW(r:CR):∃x y e,fL r = .fG [.agg [x,y],.int .i64 e]/\x.one=true/\y.one=true:=by unfold fL;split;exact⟨_,_,_,rfl,rfl,rfl⟩;exact⟨_,_,_,rfl,rfl,rfl⟩
attribute [local irreducible] AK ai aR bW dR aO eJ gT fN iP bg dD bH eX bS iB gZ fZ cF gK dB dV iJ gd br fL
def GD(P G:Int)(U:L UInt8)(args:L Nd)(types s:L Ty)(hP:40<=P)(hf:br P args=some types)(C:qj s)(W:s.length<=9999999990)(Y:aM args<=8589934593)
  (B:∀a∈args,∀A:L Ty,qj A->A.length<=s.length+1->af 59 [.sl 5 (aD (cy a)),.sl 2 (aj A)] (tu (bH (cy a) (A,false)))) :
  af 105 [aS (.mk 2 G P U args),.sl 2 (aj types),.sl 2 (aj s)] (fL (lD P args (bS args) types s)):=by
 unfold lD;by_cases T:P<=44;rw[if_pos T];have e1:decide (P<=44)=true:=aam T;have hq:=Je P G U args types s ⟨hP,T⟩ hf C W;obtain⟨x,y,e,O,u,D⟩:=jW (fZ P args s);rw[O]at hq ⊢;exact qdw func105 call105;rw[if_neg T];have e1:decide (P<=44)=false:=aan T;by_cases E:P=45
 ·subst E;rw[if_pos rfl];obtain⟨x0,H,t,rfl,rfl,ht⟩:=Rn hf rfl;clear hf B;have V3:=ht.2;have S:=sJ t H bn (by simp only[aM]at Y;omega);have Q:=l9 t bn;rw[show [t].getD 0 iY=t from Z,show [x0,H].getD 1 oF=H from rfl];obtain⟨V,q⟩:=t;obtain⟨y1,y2,y3,y4,y5⟩:=H;rcases hr:gZ (.mk V q) (.mk y1 y2 y3 y4 y5)with ⟨⟨v1,v2,v3,v4,v5,v6,v7⟩,e⟩
  rw[hr]at S;simp only at S ⊢;by_cases p:e=0;rotate_left;rw[if_neg (λh=>p h.1),cT cc];have e2:(e != 0)=true:=(by simpa using p);exact qdw func105 call105;subst p;cases N:fN (.mk V q)with
  |false =>
   rw[N]at Q;rw[if_neg (λh=>by simp at h),cT cc];exact qdw func105 call105
  |true =>
   rw[N]at Q;have hp:=mZ s [.mk V q];rw[ep]at hp;rw[if_pos ⟨Z,Z⟩,ep];exact qdw func105 call105
 rw[if_neg E];have e2:(P==45)=false:=by simpa using E
 by_cases M:P<=58;rw[if_pos M];have e3:decide (P<=58)=true:=aam M;have hq:=Cn P G U args types s ⟨bn,M⟩ hf C W Y B;obtain⟨x,y,e,O,u,D⟩:=jW (cF P (bS args) types s);rw[O]at hq ⊢;exact qdw func105 call105;rw[if_neg M];have e3:decide (P<=58)=false:=aan M;by_cases K:P<=63;rw[if_pos K];have e4:decide (P<=63)=true:=aam K;have hq:=GF P G U args types s ⟨bn,K⟩ hf C W Y B;obtain⟨x,y,e,O,u,D⟩:=jW (gK P (bS args) types s);rw[O]at hq ⊢;exact qdw func105 call105;rw[if_neg K];have e4:decide (P<=63)=false:=aan K;by_cases J:P<=68;rw[if_pos J];have e5:decide (P<=68)=true:=aam J;have hq:=Cv P G U args types s ⟨bn,J⟩ hf C W Y B;obtain⟨x,y,e,O,u,D⟩:=jW (dB P args (bS args) types s);rw[O]at hq ⊢;exact qdw func105 call105;rw[if_neg J];have e5:decide (P<=68)=false:=aan J;by_cases p6:P<=72\/P>=93;rw[if_pos p6];have hq:=Cm P s bn W;obtain⟨x,y,e,O,u,D⟩:=jW (dV P s);rw[O]at hq ⊢;by_cases p7:P<=72;have e6:decide (P<=72)=true:=aam p7;exact qdw func105 call105;have e6:decide (P<=72)=false:=aan p7;have e7:decide (P>=93)=true:=aam bn;exact qdw func105 call105;rw[if_neg p6];have e6:decide (P<=72)=false:=aan bn;have e7:decide (P>=93)=false:=aan bn;by_cases I:P<=83;rw[if_pos I];have e8:decide (P<=83)=true:=aam I;have hq:=I6 P args types s ⟨bn,I⟩ hf C W;obtain⟨x,y,e,O,u,D⟩:=jW (iJ P types s);rw[O]at hq ⊢;exact qdw func105 call105;rw[if_neg I];have e8:decide (P<=83)=false:=aan I;have hq:=Gu P args types s ⟨bn,bn⟩ hf C W;obtain⟨x,y,e,O,u,D⟩:=jW (gd P types s);rw[O]at hq ⊢;exact qdw func105 call105
def Jn(n:Nd)(s:L Ty)(T:qj s)(Q:s.length<=9999999990)(W:bR n<=8589934593)
  (U:af 59 [.sl 5 (aD (cy n)),.sl 2 (aj s)] (tu (bH (cy n) (s,false))))
  (B:∀a∈cy n,∀Y:L Ty,qj Y->Y.length<=s.length+1->af 59 [.sl 5 (aD (cy a)),.sl 2 (aj Y)] (tu (bH (cy a) (Y,false)))) :
  af 80 [aS n,.sl 2 (aj s)] (fL (eX n s)):=by
 obtain⟨u,N,P,S,args⟩:=n;simp only[cy]at U B;simp only[bR]at W;by_cases V:u=3;subst V;rw[show eX (.mk 3 N P S args) s=bH args (s,false)from by simp only[eX,if_true]];generalize bH args (s,false)=r at U;obtain⟨⟨t,b⟩,e⟩:=r;clear B;exact qdw func80 call80;have M:(u==3)=false:=by simpa using V
 by_cases I:u=2;rotate_left
 ·have J:(u != 2)=true:=by simpa using I
  rw[show eX (.mk u N P S args) s=aX 1 from by simp only[eX,if_neg V,if_pos I],cT cc];clear U B;exact qdw func80 call80
 subst I;have C:=I4 2 N P S args bn;cases hf:br P args with
 |none =>
  rw[show eX (.mk 2 N P S args) s=aX 1 from by simp only[eX,hf];rfl,cT cc];rw[hf]at C;clear U B;exact qdw func80 call80
 |some types =>
  have K:40<=P:=by unfold br at hf;split at hf;cases hf;omega
  rw[show eX (.mk 2 N P S args) s=lD P args (bS args) types s from by simp only[eX,hf];rfl];have hq:=GD P N S args types s K hf T Q bn B;rw[hf]at C;obtain⟨x,y,e,O,H,D⟩:=jW (lD P args (bS args) types s);rw[O]at hq ⊢;clear U B;exact qdw func80 call80
end Go.Proofs
namespace Go.Proofs
open Go.cB
def Ro{t:L Ty}{f:Bool}{e:Int}(h:e≠0):fL ((t,f),e) = .fG [.agg [.any,.any],.int .i64 e]:=by unfold fL;rw[if_neg h]
def uj(n:Nd):aM (cy n)+1<=bR n:=by cases n;simp only[cy,bR];omega
def Fc(n:Nd):SizeOf.sizeOf (cy n)<SizeOf.sizeOf n:=by cases n;simp only[cy,Nd.mk.sizeOf_spec];omega
def UK(x:Nd)(l:L Nd)(o:L Ty):bH (x::l) (o,true)=aX 1:=by simp only[bH,if_true]
def UL(x:Nd)(l:L Nd)(o:L Ty):bH (x::l) (o,false)=if(lP (eX x o)).2≠0 then aX (lP (eX x o)).2 else bH l (lP (eX x o)).1:=by simp only[bH];rfl
def W4(o:L Ty×Bool):bH [] o=(o,0):=by simp only[bH]
def UM{t:L Ty}{f:Bool}{e:Int}(h:e≠0):lP ((t,f),e)=aX e:=by unfold lP;rw[if_pos h]
def UN{t:L Ty}{f:Bool}(h:40<t.length):lP ((t,f),0)=aX 7:=by unfold lP;rw[if_neg (by simp),if_pos h]
def UO{t:L Ty}{f:Bool}(h:¬40<t.length)(Q:t.all bg=false):lP ((t,f),0)=aX 4:=by unfold lP;rw[if_neg (by simp),if_neg h,if_neg (by rw[Q];decide)]
def UP{t:L Ty}{f:Bool}(h:¬40<t.length)(Q:t.all bg=true):lP ((t,f),0)=((t,f),0):=by unfold lP;rw[if_neg (by simp),if_neg h,if_pos Q]
attribute [local irreducible] AK ai aR bW dR aO bg dD bH eX fL
def w8:∀(l:L Nd)(s:L Ty)(B:Nat),qj s->s.length<=B->40<=B->B+aM l<=9000000000->aM l<=8589934593 ->
  af 59 [.sl 5 (aD l),.sl 2 (aj s)] (tu (bH l (s,false)))
 |l,s,B,hs,hB,N,hBl,hl=>by
  have Q:∀x∈l,∀o:L Ty,qj o->o.length<=B->af 80 [aS x,.sl 2 (aj o)] (fL (eX x o)):=by intro x O o V P;have hxs:=eR O;have hxa:=uj x;refine Jn x o V bn bn (w8 (cy x) o B V P N bn bn) (λa I s' M hl'=>?_);have has:=eR I;have haa:=uj a;exact w8 (cy a) s' (B+1) M bn bn bn bn
  have O7:=gA l;refine qn func59 call59 λβ hf=>?_;refine dnw ?_;refine AK.dI (α:=Nat×(L Ty×Bool)) (λz=>z.1<=l.length/\qj z.2.1/\z.2.1.length<=B/\bH l (s,false)=bH (l.drop z.1) z.2) (λz=>l.length-z.1)
   (λz=>[(16,.c (.int .i64 z.1)),(15,.c (.int .i64 (aD l).length)),(14,.c (.sl 5 (aD l))),(6,.ptr 6 0),(4,.ptr 4 0)])
   (λz=>[(6,[.c (.sl 2 (aj z.2.1)),.c (.bool z.2.2)]),(4,[.own .exact 2 [],.c (.bool false)])]) (λ_=>[]) [6,4] (0,(s,false))
   ⟨bn,hs,hB,Z⟩ ce ⟨Z,Z,trivial⟩ trivial Z Z Z ?_
  rintro⟨i,⟨o,b⟩⟩ ⟨E,V,P,Y⟩ ih;simp only at E V P Y;rcases eI l i E with ⟨x,O,hm⟩|A
  ·have hc:=l8 O;have h2:=bh O;rw[cQ O]at Y;cases b with
   |true =>
    rw[UK]at Y;rw[Y,iO];clear ih Q Y;obtain⟨k1,k2,k3,k4,k5⟩:=x;have wq:=ew O;exact dw
   |false =>
    rw[UL]at Y;have hq:=Q x hm o V P;have H:=Ux x o V;clear Q;generalize eX x o=r at hq H Y;obtain⟨⟨p,D⟩,e⟩:=r;obtain⟨k1,k2,k3,k4,k5⟩:=x;by_cases A:e=0;rotate_left
    ·rw[UM A,if_pos (show(aX e).2≠0 from A)]at Y;rw[Ro A]at hq;rw[Y,iO];have C:(e != 0)=true:=by simpa using A
     clear ih Y;have Eu:=ew O;exact dw
    subst A;rw[I1]at hq;have z1:=aL p;by_cases T:40<p.length;rw[UN T,if_pos (show(aX 7).2≠0 from by decide)]at Y;rw[Y,iO];have C:decide ((((aj p).length:Nat):Int)>40)=true:=aam bn;clear ih Y;have LL:=ew O;exact dw;have C:decide ((((aj p).length:Nat):Int)>40)=false:=aan bn
    repeat' (first|refine kW ?_|refine zc ?_ ?_|(intro h;first|(cases h;done)|rw[h]|skip)|refine uI Z (i) Z (ew O) Z ?_|refine uC Z hq ?_)
    refine AK.dI (α:=Nat) (λj=>j<=p.length/\p.all bg=(p.drop j).all bg) (λj=>p.length-j)
     (λj=>[(42,.c (.int .i64 j)),(41,.c (.int .i64 (aj p).length)),(40,.c (.sl 2 (aj p))),(16,.c (.int .i64 i)),(15,.c (.int .i64 (aD l).length)),(14,.c (.sl 5 (aD l))),(6,.ptr 6 0),(4,.ptr 4 0)])
     (λj=>[(6,[.c (.sl 2 (aj p)),.c (.bool D)]),(4,[.own .exact 2 [],.c (.bool false)])]) (λ_=>[]) [6,4] 0
     ⟨bn,Z⟩ ce ⟨Z,Z,trivial⟩ trivial Z Z Z ?_
    rintro j ⟨hj,S⟩ jh;rcases eI p j hj with ⟨y,G,Yk⟩|u
    ·have UQ:=wR G;have K:=bh G;have hys:bp y<=2000:=H y Yk;have J:=mY y bn;rw[cQ G,abQ]at S;obtain⟨U,us⟩:=y;cases q:bg (.mk U us)with
     |false =>
      rw[q]at J S;rw[abn]at S;rw[UO T S,if_pos (show(aX 4).2≠0 from by decide)]at Y;rw[Y,iO];clear ih jh Y;have QV:=eZ G;exact dw
     |true =>
      rw[q]at J S;rw[abq]at S
      repeat' (first|refine kW ?_|refine zc ?_ ?_|(intro h;first|(cases h;done)|rw[h]|skip)|refine uI Z (j) Z (eZ G) Z ?_|refine uC Z J ?_)
      exact AK.again (jh (j+1) ⟨K,S⟩ bn) ⟨.inl (ff (i:=j) bn),.inl Z,.inl Z,.inl Z,.inl Z,.inl Z,.inl Z,.inl Z,trivial⟩ ⟨Z,Z,trivial⟩ trivial Z Z Z
    have UQ:=sC u;have W:p.all bg=true:=(by rw[S,u,aaW];rfl);rw[UP T W,if_neg c9]at Y;clear jh
    repeat' (first|refine kW ?_|refine zc ?_ ?_|(intro h;first|(cases h;done)|rw[h]|skip))
    exact AK.again (ih (i+1,(p,D)) ⟨h2,ue W,by show p.length<=B;omega,Y⟩ nu) ⟨.inl (ff (i:=i) bn),.inl Z,.inl Z,.inl Z,.inl Z,trivial⟩ ⟨Z,Z,trivial⟩ trivial Z Z Z
  have hc:=jH A;have h0:bH l (s,false)=((o,b),0):=by rw[Y,A,aaW,W4]
  rw[h0];clear ih Y Q;exact dw
termination_by l=>SizeOf.sizeOf l
decreasing_by
 all_goals
  have h1:=abg O;have h2:=Fc x
  first
   |omega
   |((have h3:=abg I);have h4:=Fc a;omega)
def sL(n:Nd)(s:L Ty)(C:bR n<=8589934593)(hs:aU s<=8589934593):af 31 [aS n,.sl 2 (aj s)] (tu (iq n s)):=by
 have h1:=pG n C;have zl:=ig s;have z1:=aL s;unfold iq;by_cases Q:dD n≠0
 ·rw[if_pos Q,iO];have Y:(dD n != 0)=true:=by simpa using Q
  generalize dD n=z at h1 Y;obtain⟨q,I,M,K,P⟩:=n;exact qdw func31 call31
 rw[if_neg Q];have W:dD n=0:=by simpa using Q
 rw[W]at h1;have V:=uj n;obtain⟨q,I,M,K,P⟩:=n;simp only[cy]at V;by_cases E:q≠3
 ·simp only[if_pos E];rw[iO];have Y:(q != 3)=true:=by simpa using E
  exact qdw func31 call31
 obtain rfl:q=3:=by simpa using E
 simp only[if_neg (show ¬((3:Int)≠3)from by simp)];by_cases J:40<s.length;rw[if_pos J,iO];have Y:decide ((((aj s).length:Nat):Int)>40)=true:=aam bn;exact qdw func31 call31;rw[if_neg J];have Y:decide ((((aj s).length:Nat):Int)>40)=false:=aan bn;refine qn func31 call31 λβ hf=>?_
 repeat' (first|refine kW ?_|refine zc ?_ ?_|(intro h;first|(cases h;done)|rw[h]|skip)|refine uC Z h1 ?_)
 refine AK.dI (α:=Nat) (λj=>j<=s.length/\s.all bg=(s.drop j).all bg) (λj=>s.length-j)
  (λj=>[(25,.c (.int .i64 j)),(24,.c (.int .i64 (aj s).length)),(23,.c (.sl 2 (aj s))),(1,.c (.sl 2 (aj s))),(2,.ptr 2 0),(4,.ptr 4 0)])
  (λj=>[(2,[.c (.int .i64 3),.c (.int .i64 I),.c (.int .i64 M),.c (.str K),.c (.sl 5 (aD P))]),(4,[.own .exact 2 [],.c (.bool false)])]) (λ_=>[]) [2,4] 0
  ⟨bn,Z⟩ ce ⟨Z,Z,trivial⟩ trivial Z Z Z ?_
 rintro j ⟨B,S⟩ jh;rcases eI s j B with ⟨y,G,A⟩|H
 ·have u:=wR G;have T:=bh G;have p:=b9 A;have N:=mY y bn;rw[cQ G,abQ]at S;obtain⟨U,us⟩:=y;cases D:bg (.mk U us)with
  |false =>
   rw[D]at N S;rw[abn]at S;rw[if_neg (by rw[S];decide),iO];clear jh;have QW:=eZ G;exact dw
  |true =>
   rw[D]at N S;rw[abq]at S
   repeat' (first|refine kW ?_|refine zc ?_ ?_|(intro h;first|(cases h;done)|rw[h]|skip)|refine uI Z (j) Z (eZ G) Z ?_|refine uC Z N ?_)
   exact AK.again (jh (j+1) ⟨T,S⟩ bn) ⟨.inl (ff (i:=j) bn),.inl Z,.inl Z,.inl Z,.inl Z,.inl Z,trivial⟩ ⟨Z,Z,trivial⟩ trivial Z Z Z
 have u:=sC H;have O:s.all bg=true:=by rw[S,H,aaW];rfl
 rw[if_pos O];have jJ:=eG s bn;have hr:=w8 P s 40 (ue O) bn bn bn bn;generalize bH P (s,false)=r at hr;obtain⟨⟨t,f⟩,e⟩:=r;clear jh;exact dw
end Go.Proofs
namespace Go.cB
mutual
def ey:Vl->Bool
 |.mk k _ _ _ args types H =>
  if k=14 then decide ((iq (.mk 3 0 0 [] H) (types.take 1)).2=0)&&((iq (.mk 3 0 0 [] H) (types.take 1)).1.2||gO (iq (.mk 3 0 0 [] H) (types.take 1)).1.1 (types.drop 1)) && !iB H
  else ee args
def ee:L Vl->Bool
 |[]=>true
 |x::l=>ey x&&ee l
end
def iK(t:Ty)(v:Vl):Bool:=pF t v&&ey v
def aaw(p s:Ty)(n:Nd):Int :=
 if(bg p&&bg s&&iP p&&iP s)=false then 5
 else if(iq n [.mk 11 [p,s]]).2≠0 then(iq n [.mk 11 [p,s]]).2
 else if(iq n [.mk 11 [p,s]]).1.2=false/\gO (iq n [.mk 11 [p,s]]).1.1 [.mk 11 [.mk 10 [.mk 8 []],s]]=false then 5 else 0
mutual
def W6:Vl->Bool
 |.mk k _ _ _ args types _=>(if k=14 then decide (types.length=2)else true)&&GG args
def GG:L Vl->Bool
 |[]=>true
 |x::l=>W6 x&&GG l
end
mutual
def GH:∀(v:Vl)(t:Ty),lE t->bz v t=true->W6 v=true
 |.mk k n a s args types H,.mk T ts,ok,h=>by
  have I:=Cw args;have E:=Cx args;have M:args.length=0->GG args=true:=λh=>by rw[List.length_eq_zero_iff.1 h];rfl
  have U:=rM ok;unfold bz at h;by_cases B:k≠cq (.mk T ts)\/bX (.mk k n a s args types H)=false\/200<s.length;rw[if_pos B]at h;cases h;rw[if_neg B]at h;have D:bX (.mk k n a s args types H)=true:=by
   cases hq:bX (.mk k n a s args types H)with
   |true=>rfl
   |false=>exact absurd (.inr (.inl hq)) B
  have C:k=T:=abH λG=>B (.inl G);subst C;clear B;have d1:∀{p q:Prop}[Decidable (p/\q)],decide (p/\q)=true->q:=λh=>(abd h).2;simp only[W6,aak];by_cases Y:k=14;subst Y;have S:types.length=2/\a=0/\n=0/\s=[]/\args.length=0:=(by simpa[bX]using D);exact⟨by simp[S.1],M S.2.2.2.2⟩;rw[if_neg Y];refine⟨Z,?_⟩;by_cases Q:k=1\/k=6;rw[if_pos Q]at h;exact M (abd h).2;rw[if_neg Q]at h;by_cases P:k=2;rw[if_pos P]at h;exact M (abd h).2.2;rw[if_neg P]at h;by_cases N:k=3;rw[if_pos N]at h;exact M (abd h).2.2;rw[if_neg N]at h;by_cases c4:k=4\/k=5;rw[if_pos c4]at h;exact M (abd h).2.2;rw[if_neg c4]at h;by_cases K:k=7;rw[if_pos K]at h;exact M (abd h).2.2;rw[if_neg K]at h;by_cases W:k=9;rw[if_pos W,aak]at h;subst W;obtain⟨x,rfl,O⟩:=cO ok cc;exact I x O h.2;rw[if_neg W]at h;by_cases vv:k=10;rw[if_pos vv,aak]at h;subst vv;obtain⟨x,rfl,O⟩:=cO ok cc;exact I x O h.2;rw[if_neg vv]at h;by_cases En:k=11;rw[if_pos En,aak]at h;subst En;have z:=U.1;rw[show arity 11=2 from by decide]at z;exact E ts (λx O=>U.2 x O) h.2 Q7;rw[if_neg En]at h;by_cases Eo:k=12
  ·rw[if_pos Eo,aak]at h;subst Eo;obtain⟨x,y,rfl,O,A⟩:=cJ ok cc;have hn:=abd h.1;rcases(show n=0\/n=1 by omega)with rfl|rfl
   exact I x O h.2;exact I y A h.2
  rw[if_neg Eo]at h;by_cases Ep:k=13;rw[if_pos Ep,aak,aak]at h;subst Ep;exact I _ (yh ok cc) h.1.2;rw[if_neg Ep,if_neg Y]at h;by_cases V:k=15;rw[if_pos V,aak]at h;subst V;obtain⟨x,rfl,O⟩:=cO ok cc;exact I x O h.2;rw[if_neg V]at h;by_cases J:k=8;rw[if_pos J,aak,aak]at h;exact I _ (bl h.1.2) h.2;rw[if_neg J]at h;cases h
def Cw:∀(l:L Vl)(t:Ty),lE t->aJ l t=true->GG l=true
 |[],_,_,_=>rfl
 |x::l,t,ok,h=>by simp only[aJ,aak]at h;simp only[GG,aak];exact⟨GH x t ok h.1,Cw l t ok h.2⟩
def Cx:∀(l:L Vl)(r:L Ty),(∀x∈r,lE x)->cL l r=true->l.length<=r.length->GG l=true
 |[],_,_,_,_=>rfl
 |x::l,[],_,_,h=>by simp at h
 |x::l,t::r,ok,h,u=>by simp only[cL,aak]at h;simp only[GG,aak];exact⟨GH x t (ok t c9) h.1,Cx l r (λx O=>ok x (by simp[O])) h.2 (by simpa using u)⟩
end
def UR{t:Ty}{v:Vl}(h:pF t v=true):W6 v=true:=by unfold pF at h;rw[aak]at h;exact GH v t (bl h.1) h.2
def Jo:∀{l:L Vl}{x:Vl},GG l=true->x∈l->W6 x=true
 |y::l,x,h,O=>by
  simp only[GG,aak]at h;rcases List.mem_cons.1 O with rfl|O
  exact h.1;exact Jo h.2 O
def Fe:∀l:L Vl,ee l = !(l.any λx => !ey x)
 |[]=>rfl
 |x::l=>by simp only[ee,adt,Fe l,Bool.not_or,Bool.not_not]
end Go.cB
namespace Go.Proofs
open Go.cB
def Cy(k n a:Int)(s:L UInt8)(args:L Vl)(p q:Ty)(H:L Nd)(E:k=14):ey (.mk k n a s args [p,q] H) =
  (decide ((iq (.mk 3 0 0 [] H) [p]).2=0)&&((iq (.mk 3 0 0 [] H) [p]).1.2||gO (iq (.mk 3 0 0 [] H) [p]).1.1 [q]) && !iB H):=by
 unfold ey;rw[if_pos E];rfl
def LU(k n a:Int)(s:L UInt8)(args:L Vl)(types:L Ty)(H:L Nd)(E:k≠14):ey (.mk k n a s args types H)=ee args:=by rw[ey,if_neg E]
attribute [local irreducible] AK ai aR bW dR aO bg dD bH eX iq iB ey ee pF eJ iP
def AU:∀(v:Vl),W6 v=true->aE v<=8589934593->af 53 [bA v] (.bool (ey v))
 |.mk k n a s args types H,h2,W=>by
  simp only[aE]at W;simp only[W6,aak]at h2;by_cases E:k=14
  ·rw[if_pos E]at h2;obtain⟨p,q,rfl⟩:=AW (abd h2.1);rw[Cy k n a s args p q H E];subst E;simp only[aU]at W;have D:=sL (.mk 3 0 0 [] H) [p] (by simp only[bR,aab];omega) (by simp only[aU];omega);have T:=uc H bn;have Q := @zM (.mk 3 0 0 [] H) [p];generalize iq (.mk 3 0 0 [] H) [p]=r at D Q;obtain⟨⟨t,f⟩,e⟩:=r;simp only at Q ⊢;by_cases Y:e=0;rotate_left;have B:(e==0)=false:=(by simpa using Y);rw[aan Y,abn,abn];exact qdw func53 call53;subst Y;rw[aam Z,abq];have C:=AO t [q] (ue (Q Z).1) (by have:=(Q Z).2.1;omega);cases f with
   |true =>
    rw[Bool.true_or,abq];exact qdw func53 call53
   |false =>
    rw[Bool.false_or];cases hq:gO t [q]with
    |false =>
     rw[hq]at C;rw[abn];exact qdw func53 call53
    |true =>
     rw[hq]at C;rw[abq];exact qdw func53 call53
  rw[LU k n a s args types H E,Fe];have B:(k==14)=false:=by simpa using E
  have V:∀x∈args,af 75 (bA x::[]) (.bool (!ey x)):=λx O=>by have T:=cI O;have hq:=AU x (Jo h2.2 O) bn;obtain⟨P,U,S,N,J,A,K⟩:=x;exact qdw func75 call75
  have M:=ga args;have hq:=rN args (λx => !ey x) 75 [] V bn;clear V;exact qdw func53 call53
termination_by v=>SizeOf.sizeOf v
decreasing_by
 have:=abg O;simp at this ⊢;omega
def Cz(t:Ty)(v:Vl)(A:bp t<=8589934593)(q:aE v<=8589934593):af 22 [dA t,bA v] (.bool (iK t v)):=by
 have h1:=Pg t v A q;unfold iK;cases S:pF t v with
 |false =>
  rw[S]at h1;rw[abn];obtain⟨T,ts⟩:=t;obtain⟨P,B,D,U,J,Y,K⟩:=v;exact qdw func22 call22
 |true =>
  have h2:=AU v (UR S) q;rw[S]at h1;rw[abq];obtain⟨T,ts⟩:=t;obtain⟨P,B,D,U,J,Y,K⟩:=v;exact qdw func22 call22
end Go.Proofs
