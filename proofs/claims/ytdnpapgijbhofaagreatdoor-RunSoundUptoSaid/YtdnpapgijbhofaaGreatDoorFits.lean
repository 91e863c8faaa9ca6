/- What nodes, node, Node, Told, Pack, Parse and Unpack of package value  -/
import Derived.Test.YtdnpapgijbhofaaGreatDoorTree3
import Derived.Test.YtdnpapgijbhofaaGreatDoorTree4
import Derived.Test.YtdnpapgijbhofaaGreatDoorTree5
import Derived.Test.YtdnpapgijbhofaaGreatDoorChk3
import Derived.Test.YtdnpapgijbhofaaGreatDoorChkB
import Derived.Test.YtdnpapgijbhofaaGreatDoorChk5
import Derived.Test.YtdnpapgijbhofaaGreatDoorChk8
import Derived.Test.YtdnpapgijbhofaaGreatDoorVal2
import Derived.Test.YtdnpapgijbhofaaGreatDoorVal4
open Go.IntKind
open Go.Proofs.Tryz
set_option linter.defProp false
set_option maxHeartbeats 0
set_option linter.unusedVariables false
set_option linter.unusedSimpArgs false
set_option maxRecDepth 100000
namespace Go.Proofs
open Go.cM
def kids{k n a:Int}{s:L UInt8}{D:L Vl}{Y:L Ty}{E:L Nd}{t:Ty}(h:bE (.mk k n a s D Y E) t=true)(A:fV t=false)(V:k=9\/k=10\/k=11\/k=12\/k=13) :
  ∀x∈D,∃u,fV u=false/\bE x u=true:=by
 intro x I;have p:=(nU h).1;have J:=j6 h;obtain⟨U,W⟩:=gT A;rw[<- p]at U;rcases V with rfl|rfl|rfl|rfl|rfl
 ·simp[mo]at J;have:arity 9=1:=by decide
  exact⟨_,di W (j7 (i:=0) bn),(eR _ _).1 J.2 x I⟩
 ·simp[mo]at J;have:arity 10=1:=by decide
  exact⟨_,di W (j7 (i:=0) bn),(eR _ _).1 J.2 x I⟩
 ·simp[mo]at J;have:arity 11=2:=by decide
  obtain⟨y,z,u,w,C,Q,T,N⟩:=So J.1.2 bn J.2;rw[Q]at W;rw[C]at I;simp only[ZI,List.not_mem_nil,acw]at I;rcases I with rfl|rfl
  ·exact⟨u,di W ek,T⟩
  ·exact⟨w,di W ek,N⟩
 ·simp[mo]at J;have:arity 12=2:=by decide
  exact⟨_,di W (j7 (i:=n.toNat) bn),(eR _ _).1 J.2 x I⟩
 ·simp[mo]at J;have:arity 13=2:=by decide
  refine⟨.mk 11 (aq t),?_,(eR _ _).1 J.1.2 x I⟩;simp only[fV,aaT];exact⟨aax (by(simp;have:arity 11=2:=by decide);omega),W⟩
def Wv{x:Vl}{ts:L Ty}(h:bE x (.mk 11 ts)=true):vK x=11:=by
 cases x with|mk k n a s J Y W=>exact(nU h).1
def Pt{G:iJ}{a b c d:CV}{s t:Nat}{v:Value}(h:Rel G (.agg [a,b,c,d,.sl s []]) v):Rel G (.agg [a,b,c,d,.sl t []]) v:=by
 rw[Rel]at h ⊢;obtain⟨vs,C,Q,V⟩:=h;refine⟨vs,C,?_,?_⟩
 ·rw[bI]at Q ⊢;obtain⟨Y,W,M,p,Q⟩:=Q;refine⟨Y,W,M,p,?_⟩;rw[bI]at Q ⊢;obtain⟨E,U,S,T,Q⟩:=Q;refine⟨E,U,S,T,?_⟩;rw[bI]at Q ⊢;obtain⟨P,v3,O,N,Q⟩:=Q;refine⟨P,v3,O,N,?_⟩;rw[bI]at Q ⊢;obtain⟨K,J,I,H,Q⟩:=Q;refine⟨K,J,I,H,?_⟩;rw[bI]at Q ⊢;obtain⟨D,B,A,u,q⟩:=Q;exact⟨D,B,A,L3 u,q⟩
 ·simp only[aaE,List.all_nil,abe,aal]at V ⊢;exact⟨V.1,V.2.1,V.2.2.1,V.2.2.2.1,Z⟩
def Hs(x:Vl)(l:L Vl):dW (x::l)=dY x::dW l:=by simp only[dW]
def J1:dW []=[]:=by simp only[dW]
def J2(k n a:Int)(s:L UInt8)(J:L Vl)(Y:L Ty)(W:L Nd)(l:L Vl):lH (.mk k n a s J Y W::l) = .mk 2 0 28 [] (dW J)::lH l:=by simp only[lH]
def Nw:lH []=[]:=by simp only[lH]
def Sp(n a:Int)(s:L UInt8)(J:L Vl)(Y:L Ty)(W:L Nd):dY (.mk 1 n a s J Y W) = .mk 2 0 20 [] []:=by simp[dY]
def Sq(n a:Int)(s:L UInt8)(J:L Vl)(Y:L Ty)(W:L Nd):dY (.mk 2 n a s J Y W) = .mk 2 0 (22-n) [] []:=by simp[dY]
def Sr(n a:Int)(s:L UInt8)(J:L Vl)(Y:L Ty)(W:L Nd):dY (.mk 6 n a s J Y W) = .mk 1 0 0 s []:=by simp[dY]
def Ss(n a:Int)(s:L UInt8)(J:L Vl)(Y:L Ty)(W:L Nd):dY (.mk 9 n a s J Y W) = .mk 2 0 (27-J.length) [] (dW J):=by simp[dY]
def Pu(n a:Int)(s:L UInt8)(J:L Vl)(Y:L Ty)(W:L Nd):dY (.mk 10 n a s J Y W) = .mk 3 0 0 [] (dW J):=by simp[dY]
def Pv(n a:Int)(s:L UInt8)(J:L Vl)(Y:L Ty)(W:L Nd):dY (.mk 11 n a s J Y W) = .mk 2 0 23 [] (dW J):=by simp[dY]
def Pw(n a:Int)(s:L UInt8)(J:L Vl)(Y:L Ty)(W:L Nd):dY (.mk 12 n a s J Y W) = .mk 2 0 (24+n) [] (dW J):=by simp[dY]
def Px(n a:Int)(s:L UInt8)(J:L Vl)(Y:L Ty)(W:L Nd):dY (.mk 13 n a s J Y W) = .mk 3 0 0 [] (lH J):=by simp[dY]
def Su(k n a:Int)(h:¬(k=1\/k=2\/k=6\/k=9\/k=10\/k=11\/k=12\/k=13))(s:L UInt8)(J:L Vl)(Y:L Ty)(W:L Nd):dY (.mk k n a s J Y W) = .mk 0 n 0 [] []:=by
 simp only[not_or]at h;simp[dY,h]
attribute [local irreducible] AK ah aZ cx dY dW lH oA bE dD eH dQ dB br fO
def pH(p:Int)(l:L Nd):aj 189 [.int .i64 p,.sl 5 (aG l)] (aY (.mk 2 0 p [] l)):=by
 refine qn func189 call189 λβ hf=>?_;exact dq
def wU(p:Int):aj 189 [.int .i64 p,.sl 0 []] (aY (.mk 2 0 p [] [])):=by
 have h:aj 189 [.int .i64 p,.sl 0 []] (.agg [.int .i64 2,.int .i64 0,.int .i64 p,.str [],.sl 0 []]):=by
  refine qn func189 call189 λβ hf=>?_;exact dq
 exact aZ.weaken (λG v B=>Pt B) h
def zC(l:L Vl)(B:l.length<=1099511627776)(U:∀x∈l,aj 183 [bO x] (aY (dY x))):aj 190 [.sl 7 (aa l)] (.sl 5 (aG (dW l))):=by
 refine qn func190 call190 λβ hf=>?_;refine dn ?_;refine AK.fL [] [(6000,(0,none))] (env':=[(8,.c (.int .i64 (0:Nat))),(7,.c (.int .i64 (aa l).length)),(6,.c (.sl 7 (aa l))),(3,.own (.tok 6000 0) 5 [])])
  (bs':=[]) (ts':=[(6000,0)]) (us':=[6000])
  ce  trivial Z ?_
 refine AK.eX (α:=Nat×L Nd) (λz=>z.1<=l.length/\z.1=z.2.length/\dW l=z.2++dW (l.drop z.1)) (λz=>l.length-z.1)
  (λz=>[(8,.c (.int .i64 z.1)),(7,.c (.int .i64 (aa l).length)),(6,.c (.sl 7 (aa l))),(3,.own (.tok 6000 0) 5 (aG z.2))]) (λ_=>[]) (λ_=>[(6000,0)]) [6000] (0,[])
  ⟨bn,Z,ek⟩ ce trivial ⟨Z,trivial⟩ Z Z Z ?_
 rintro⟨i,acc⟩ ⟨q,V,Y⟩ ih;simp only at q V Y;rcases gr l i q with ⟨x,I,T⟩|S
 ·have A:=Bn I;have h2:=bQ I;have hq:=U x T;rw[eG I,Hs]at Y;rw[show ∀(a:L Nd)(b:Nd)(c:L Nd),a++b::c=a++[b]++c from λa b c=>by simp]at Y;rcases Q:dY x with ⟨C,K,D,M,E⟩
  rw[Q]at hq Y;obtain⟨P,O,J,N,H,G,u⟩:=x
  repeat' (first|refine sz ?_|refine zc ?_ ?_|(intro h;first|(cases h;done)|rw[h]|skip)|refine uI Z (i) Z (fm I) Z ?_|refine uC Z hq ?_|(refine uA Z ?_ ?_<;>(try (show(_:Nat)*_<=_;dsimp only))))
  ·have h1:=bq acc;simp only[aac,aad];omega
  ·have W:aG acc++[aY (Nd.mk C K D M E)]=aG (acc++[Nd.mk C K D M E]):=(kE acc [_]).symm;refine AK.fL [] [(6000,(0,some 6000))] (env':=[(8,.c (.int .i64 ((i+1:Nat):Int))),(7,.c (.int .i64 (aa l).length)),(6,.c (.sl 7 (aa l))),(3,.own (.tok 6000 0) 5 (aG (acc++[Nd.mk C K D M E])))])
    (bs':=[]) (ts':=[(6000,0)]) (us':=[6000])
    ⟨⟨_,Z,.inl (jV (i:=i) bn)⟩,⟨_,Z,.inl Z⟩,⟨_,Z,.inl Z⟩,⟨_,Z,⟨_,Z,.inr ⟨_,_,Z,Z,Zb (AV.own (.tok 6000 1) 5) W⟩⟩⟩,trivial⟩ trivial Z ?_
   exact ih (i+1,acc++[Nd.mk C K D M E]) ⟨h2,by simp[V],Y⟩ HE
 ·have A:=wV S;have p:dW l=acc:=by rw[Y,S,Zx,J1,Zc]
  rw[p];clear ih Y;exact dq
def vM:∀(v:Vl)(t:Ty),fV t=false->bE v t=true->aO v<=8589934593->aj 183 [bO v] (aY (dY v))
 |.mk k n a s J G A,t,q,Q,hv=>by
  simp only[aO]at hv;have JI:=iN J;have K:∀x∈J,∀u,fV u=false->bE x u=true->aj 183 [bO x] (aY (dY x)):=λx I u h1 h2=>vM x u h1 h2 Rg;have UH:∀k' p a' s' M W V,Vl.mk k' p a' s' M W V∈J->∀y∈M,∀u,fV u=false->bE y u=true->aj 183 [bO y] (aY (dY y)):=λk' p a' s' M W V I y S u h1 h2=>vM y u h1 h2 (by have h3:=ee I;have h4:=ee S;simp only[aO]at h3;omega);have D:=j6 Q;have Ww:=kids Q q;have U:(k=9\/k=10\/k=11\/k=12\/k=13)->aj 190 [.sl 7 (aa J)] (.sl 5 (aG (dW J))):=λh=>zC J bn λx I=>by
   obtain⟨u,P,O⟩:=Ww h x I;exact K x I u P O
  by_cases c:k=1
  ·subst c;rw[Sp];have h1:=wU 20;refine qn func183 call183 λβ hf=>?_;exact dq
  by_cases c:k=2
  ·subst c;rw[Sq];have hn:0<=n/\n<=1:=by simp[mo]at D;omega
   have E:i64.wrap (22-n)=22-n:=gF bn bn;have h1:=wU (22-n);rw[<- E]at h1 ⊢;refine qn func183 call183 λβ hf=>?_;exact dq
  by_cases c:k=6
  ·subst c;rw[Sr];refine qn func183 call183 λβ hf=>?_;exact dq
  by_cases c:k=9
  ·subst c;rw[Ss];have hn:J.length<=1:=by simp[mo]at D;omega
   have E:i64.wrap (27-(((aa J).length:Nat):Int))=27-(J.length:Int):=by rw[aB,gF bn bn]
   have h1:=pH (27-(J.length:Int)) (dW J);have h2:=U ek;rw[<- E]at h1 ⊢;refine qn func183 call183 λβ hf=>?_;exact dq
  by_cases c:k=10
  ·subst c;rw[Pu];have h2:=U ek;refine qn func183 call183 λβ hf=>?_;exact dq
  by_cases c:k=11
  ·subst c;rw[Pv];have h1:=pH 23 (dW J);have h2:=U ek;refine qn func183 call183 λβ hf=>?_;exact dq
  by_cases c:k=12
  ·subst c;rw[Pw];have hn:0<=n/\n<=1:=by simp[mo]at D;omega
   have E:i64.wrap (24+n)=24+n:=gF bn bn;have h1:=pH (24+n) (dW J);have h2:=U ek;rw[<- E]at h1 ⊢;refine qn func183 call183 λβ hf=>?_;exact dq
  by_cases c:k=13
  ·subst c;rw[Px];have Y4:∀x∈J,∃u,fV u=false/\bE x u=true/\vK x=11:=by
    intro x I;simp[mo]at D;have VX:=(eR _ _).1 D.1.2 x I;refine⟨_,?_,VX,Wv VX⟩;obtain⟨JJ,jC⟩:=gT q;rw[<- (nU Q).1]at JJ;have:arity 13=2:=by decide
    simp only[fV,aaT];exact⟨aax (by(simp;have:arity 11=2:=by decide);omega),jC⟩
   refine qn func183 call183 λβ hf=>?_
   repeat' (first|refine sz ?_|refine zc ?_ ?_|(intro h;first|(cases h;done)|rw[h]|skip)|(refine uA Z ?_ ?_<;>(try (show(_:Nat)*_<=_;dsimp only))))
   refine AK.fL [(2,2),(3,3)] [(6003,(0,none))] (env':=[(59,.c (.int .i64 (0:Nat))),(58,.c (.int .i64 (aa J).length)),(57,.c (.sl 7 (aa J))),(2,.ptr 2 0),(3,.ptr 3 0)])
    (bs':=[(2,[.c (.int .i64 0),.c (.int .i64 0),.c (.int .i64 0),.c (.str []),.own .exact 5 []]),(3,[.c (.int .i64 3),.c (.int .i64 0),.c (.int .i64 0),.c (.str []),.own (.tok 6003 0) 5 []])]) (ts':=[(6003,0)]) (us':=[2,3,6003])
    ce ce Z ?_
   refine AK.eX (α:=Nat×L Nd) (λz=>z.1<=J.length/\z.1=z.2.length/\lH J=z.2++lH (J.drop z.1)) (λz=>J.length-z.1)
    (λz=>[(59,.c (.int .i64 z.1)),(58,.c (.int .i64 (aa J).length)),(57,.c (.sl 7 (aa J))),(2,.ptr 2 0),(3,.ptr 3 0)])
    (λz=>[(2,[.c (.int .i64 0),.c (.int .i64 0),.c (.int .i64 0),.c (.str []),.own .exact 5 []]),(3,[.c (.int .i64 3),.c (.int .i64 0),.c (.int .i64 0),.c (.str []),.own (.tok 6003 0) 5 (aG z.2)])]) (λ_=>[(6003,0)]) [2,3,6003] (0,[])
    ⟨bn,Z,ek⟩ ce ⟨Z,Z,trivial⟩ ⟨Z,trivial⟩ Z Z Z ?_
   rintro⟨i,acc⟩ ⟨hi,Bd,Y⟩ ih;simp only at hi Bd Y;rcases gr J i hi with ⟨x,I,N⟩|he
   ·have hc:=Bn I;have h2:=bQ I;obtain⟨u,P,O,u3⟩:=Y4 x N;obtain⟨x1,x2,x3,x4,T,x6,x7⟩:=x;have H:x1=11:=u3;have C:=ee N;simp only[aO]at C;have R3:=iN T;have hq:=zC T bn λy S=>by
     obtain⟨w,w1,w2⟩:=kids O P Ya y S;exact UH x1 x2 x3 x4 T x6 x7 N y S w w1 w2
    have hp:=pH 28 (dW T);rw[eG I,J2]at Y;rw[show ∀(a:L Nd)(b:Nd)(c:L Nd),a++b::c=a++[b]++c from λa b c=>by simp]at Y
    repeat' (first|refine sz ?_|refine zc ?_ ?_|(intro h;first|(cases h;done)|rw[h]|skip)|refine uI Z (i) Z (fm I) Z ?_|refine uC Z hq ?_|refine uC Z hp ?_|(refine uA Z ?_ ?_<;>(try (show(_:Nat)*_<=_;dsimp only))))
    ·have h1:=bq acc;simp only[aac,aad];omega
    ·have B:aG acc++[aY (Nd.mk 2 0 28 [] (dW T))]=aG (acc++[Nd.mk 2 0 28 [] (dW T)]):=(kE acc [_]).symm;refine AK.fL [(2,2),(3,3)] [(6003,(0,some 6003))] (env':=[(59,.c (.int .i64 ((i+1:Nat):Int))),(58,.c (.int .i64 (aa J).length)),(57,.c (.sl 7 (aa J))),(2,.ptr 2 0),(3,.ptr 3 0)])
      (bs':=[(2,[.c (.int .i64 0),.c (.int .i64 0),.c (.int .i64 0),.c (.str []),.own .exact 5 []]),(3,[.c (.int .i64 3),.c (.int .i64 0),.c (.int .i64 0),.c (.str []),.own (.tok 6003 0) 5 (aG (acc++[Nd.mk 2 0 28 [] (dW T)]))])]) (ts':=[(6003,0)]) (us':=[2,3,6003])
      ⟨⟨_,Z,.inl (jV (i:=i) bn)⟩,⟨_,Z,.inl Z⟩,⟨_,Z,.inl Z⟩,⟨_,Z,⟨_,Z,Z⟩⟩,⟨_,Z,⟨_,Z,Z⟩⟩,trivial⟩ ⟨ce,⟨_,_,Z,Z,⟨_,_,Z,.inl Z,⟨_,_,Z,.inl Z,⟨_,_,Z,.inl Z,⟨_,_,Z,.inl Z,⟨_,_,Z,⟨_,Z,.inr ⟨_,_,Z,Z,Zb (AV.own (.tok 6003 1) 5) B⟩⟩,Z⟩⟩⟩⟩⟩⟩,trivial⟩ Z ?_
     exact ih (i+1,acc++[Nd.mk 2 0 28 [] (dW T)]) ⟨h2,by simp[Bd],Y⟩ fk
   ·have hc:=wV he;have h0:lH J=acc:=by rw[Y,he,Zx,Nw,Zc]
    rw[h0];clear ih Y;exact dq
  rw[Su k n a bn];have e1:(k==1)=false:=by simp;omega
  have e2:(k==2)=false:=by simp;omega
  have e3:(k==6)=false:=by simp;omega
  have e4:(k==9)=false:=by simp;omega
  have e5:(k==10)=false:=by simp;omega
  have e6:(k==11)=false:=by simp;omega
  have e7:(k==12)=false:=by simp;omega
  have e8:(k==13)=false:=by simp;omega
  refine qn func183 call183 λβ hf=>?_;exact dq
termination_by v=>SizeOf.sizeOf v
decreasing_by
 ·have h1:=Zp I;simp at h1 ⊢;omega
 ·have h1:=Zp I;have h2:=Zp S;simp at h1 h2 ⊢;omega
end Go.Proofs
namespace Go.Proofs
open Go.cM
def Ht(n:Int):1<=(iC n).length:=by
 have:=Sv n;cases h:iC n with
 |nil=>exact absurd h this
 |cons a b=>simp
mutual
def zD:∀(t:Nd)(d:Int),ef t d=0->bZ t<=(dQ t).length
 |.mk P n p s J,d,h=>by
  obtain⟨h1,h2⟩:=jf h;obtain⟨_,D,_,_,V,W,_,_,_⟩:=lp h1;have O:=wW J (d+1) h2;have K:=Ht (s.length:Int);have T:=Ht (J.length:Int);simp only[bZ];rcases D with rfl|rfl|⟨rfl,q⟩|rfl
  ·obtain rfl:=V bn;have:=W bn;rw[abA]at this;subst this;rw[Py];simp[aS]
  ·have:=W bn;rw[abA]at this;subst this;rw[Pz];simp only[aS,aac,aay];omega
  ·obtain rfl:=V bn;rw[PB];simp only[aac,aay,aad];omega
  ·obtain rfl:=V bn;rw[PC];simp only[aac,aay,aad];omega
def wW:∀(l:L Nd)(d:Int),cY l d=0->aS l<=(eI l).length
 |[],d,_=>by simp[aS]
 |t::l,d,h=>by
  have h1:=yo h t ek;have h2:cY l d=0:=by simp only[cY]at h;rw[if_pos h1]at h;exact h
  have Y:=zD t d h1;have U:=wW l d h2;simp only[eI,aS,aay];omega
end
attribute [local irreducible] AK ah aZ cx eH dQ dD Bo
end Go.Proofs
namespace Go.Proofs
open Go.cM
def Dk{s:L UInt8}{n:Nat}(V:s.length<=n):bZ (eH s).1<=n+1:=by
 by_cases S:(eH s).2=0
 ·obtain⟨p,A⟩:=Fe S;have h1:=zD _ 1 (jH.1 p).1;rw[A]at h1;omega
 ·rw[Hu S];simp[qV,bZ,aS]
def Hv(t:Ty):gd t []=(nE,1):=rfl
def rq(t:Ty)(c:UInt8)(r:L UInt8)(h:¬(c=5/\(c::r).length<=200/\fO t=true/\(eH r).2=0)):gd t (c::r)=(nE,1):=by simp only[gd,if_neg h]
def J3(t:Ty)(r:L UInt8)(h:(5::r:L UInt8).length<=200/\fO t=true/\(eH r).2=0):gd t (5::r)=gQ t (eH r).1:=by
 unfold gd;exact if_pos ⟨Z,h⟩
attribute [local irreducible] AK ah aZ cx dY dW lH oA bE dD eH dQ dB br fO gQ gd
def J4(t:Ty)(v:Vl)(A:fV t=false)(U:bE v t=true)(T:aO v<=8589934593):aj 167 [bO v] (.gb [.str (su v).1,.int .i64 (su v).2]):=by
 have V:=vM v t A U T;have J:=Bp v;have W:=Ff (dY v) bn;rw[Bq]at W;unfold su;obtain⟨M,S,Q,p,P,O,N⟩:=v;rcases H:dY (.mk M S Q p P O N)with ⟨C,K,D,I,E⟩
 rw[H]at V W;by_cases e:dD (.mk C K D I E)=0
 ·rw[if_pos e];rw[if_pos e]at W;simp only at W;generalize dQ (.mk C K D I E)=bs at W;by_cases B:200<=bs.length
  ·rw[if_pos B];have Y:decide (((bs.length:Nat):Int)>=200)=true:=aaw bn;refine qn func167 call167 λβ hf=>?_;exact dq
  ·rw[if_neg B];have Y:decide (((bs.length:Nat):Int)>=200)=false:=aax bn;refine qn func167 call167 λβ hf=>?_
   repeat' (first|refine sz ?_|refine zc ?_ ?_|(intro h;first|(cases h;done)|rw[h]|skip)|refine uC Z V ?_|refine uC Z W ?_|refine ah.concat hX kn Z Z Z Z Z (show 1+bs.length<=9223372036854775807 from by omega) ?_)
   all_goals rfl
 ·rw[if_neg e];rw[if_neg e]at W;simp only at W;have Y:(dD (.mk C K D I E) != 0)=true:=by simpa using e
  generalize dD (.mk C K D I E)=z at W Y;refine qn func167 call167 λβ hf=>?_;exact dq
def ru(t:Ty)(n:Nd)(I:bw t<=8589934593)(K:bZ n<=8589934593):aj 118 [er t,aY n] (.gb [bO (gQ t n).1,.int .i64 (gQ t n).2]):=by
 have h1:=mu t I;have h2:=oB n K;obtain⟨T,ts⟩:=t;obtain⟨Y,G,q,A,H⟩:=n;cases g1:br (.mk T ts)with
 |false =>
  rw[g1]at h1;rw[show gQ (.mk T ts) (.mk Y G q A H)=(nE,1)from by unfold gQ;rw[if_neg (by simp[g1])]];refine qn func118 call118 λβ hf=>?_;exact dq
 |true =>
 rw[g1]at h1;by_cases W:dD (.mk Y G q A H)=0;rotate_left
 ·rw[show gQ (.mk T ts) (.mk Y G q A H)=(nE,1)from by unfold gQ;rw[if_neg (λh=>W h.2.1)]];have J:(dD (.mk Y G q A H) != 0)=true:=by simpa using W
  generalize dD (.mk Y G q A H)=z at h2 J;refine qn func118 call118 λβ hf=>?_;exact dq
 rw[W]at h2;have U:=rC (.mk Y G q A H) (.mk T ts) (lq g1) K I;have B:=uu (.mk Y G q A H) (.mk T ts);have V:=yp (dB (.mk Y G q A H) (.mk T ts)).1 (.mk T ts) (lq g1) bn I;rcases E:dB (.mk Y G q A H) (.mk T ts)with ⟨⟨C,S,D,M,Q,P,N⟩,b⟩
 rw[E]at U V;simp only at U V;cases b with
 |false =>
  rw[show gQ (.mk T ts) (.mk Y G q A H)=(nE,1)from by unfold gQ;rw[if_neg (by simp[E])]];refine qn func118 call118 λβ hf=>?_;exact dq
 |true =>
  cases O:bE (.mk C S D M Q P N) (.mk T ts)with
  |false =>
   rw[O]at V;rw[show gQ (.mk T ts) (.mk Y G q A H)=(nE,1)from by unfold gQ;rw[if_neg (by simp[E,O])]];refine qn func118 call118 λβ hf=>?_;exact dq
  |true =>
   rw[O]at V;rw[show gQ (.mk T ts) (.mk Y G q A H)=(.mk C S D M Q P N,0)from by unfold gQ;rw[E,if_pos ⟨g1,W,Z,O⟩]];refine qn func118 call118 λβ hf=>?_;exact dq
def vm:L UInt8->L UInt8×Bool
 |[]=>([],false)
 |c::r=>if c=5 then(r,true)else(c::r,false)
def Au(s:L UInt8):aj 196 [.str s,.str [5]] (.bool (vm s).2):=by
 cases s with
 |nil =>
  refine qn func196 call196 λβ hf=>?_;exact dq
 |cons c r =>
  have C:decide ((((c::r).length:Nat):Int)>=((([5]:L UInt8).length:Nat):Int))=true:=aaw Ny;have Q:(vm (c::r)).2=([c]==[5]):=by
   simp only[vm];by_cases h:c=5
   ·rw[if_pos h,h];rfl
   ·rw[if_neg h];simp[h]
  rw[Q];refine qn func196 call196 λβ hf=>?_;exact dq
def yq(s:L UInt8):aj 191 [.str s,.str [5]] (.gb [.str (vm s).1,.bool (vm s).2]):=by
 have h1:=Au s;cases s with
 |nil =>
  refine qn func191 call191 λβ hf=>?_;exact dq
 |cons c r =>
  by_cases h:c=5
  ·subst h;rw[show vm (5::r)=(r,true)from by simp[vm]]at h1 ⊢;simp only at h1;refine qn func191 call191 λβ hf=>?_;exact dq
  ·rw[show vm (c::r)=(c::r,false)from by simp[vm,h]]at h1 ⊢;simp only at h1;refine qn func191 call191 λβ hf=>?_;exact dq
def Av(s:L UInt8):aj 184 [.str s,.str [5]] (.gb [.str (vm s).1,.bool (vm s).2]):=by
 have h1:=yq s;generalize vm s=z at h1;refine qn func184 call184 λβ hf=>?_;exact dq
def wX(t:Ty)(s:L UInt8)(I:bw t<=8589934593):aj 168 [er t,.str s] (.gb [bO (gd t s).1,.int .i64 (gd t s).2]):=by
 have h1:=Av s;have h2:=lF t bn;obtain⟨T,ts⟩:=t;cases s with
 |nil =>
  rw[Hv];refine qn func168 call168 λβ hf=>?_;exact dq
 |cons c r =>
 by_cases A:c=5;rotate_left
 ·rw[rq _ _ _ (λh=>A h.1)];rw[show vm (c::r)=(c::r,false)from by simp[vm,A]]at h1;simp only at h1;refine qn func168 call168 λβ hf=>?_;exact dq
 subst A;rw[show vm (5::r)=(r,true)from by simp[vm]]at h1;simp only at h1;by_cases B:(5::r:L UInt8).length<=200;rotate_left
 ·rw[rq _ _ _ (λh=>B h.2.1)];have C:decide ((((5::r:L UInt8).length:Nat):Int)>200)=true:=aaw bn;have Q:(bif false then true else decide ((((5::r:L UInt8).length:Nat):Int)>200))=true:=C;refine qn func168 call168 λβ hf=>?_;exact dq
 have C:decide ((((5::r:L UInt8).length:Nat):Int)>200)=false:=aax bn;cases H:fO (.mk T ts)with
 |false =>
  rw[H]at h2;rw[rq _ _ _ (λh=>by rw[H]at h;exact absurd h.2.2.1 ek)];refine qn func168 call168 λβ hf=>?_;exact dq
 |true =>
 rw[H]at h2;have K:=Fg r;by_cases Y:(eH r).2=0;rotate_left
 ·rw[rq _ _ _ (λh=>Y h.2.2.2)];rcases E:eH r with ⟨⟨V,G,q,U,N⟩,e⟩
  rw[E]at K Y;simp only at K Y;have S:(e != 0)=true:=by simpa using Y
  refine qn func168 call168 λβ hf=>?_;exact dq
 rw[J3 _ _ ⟨B,H,Y⟩];have P:=Dk (s:=r) (n:=200) WH;have W:=ru (.mk T ts) (eH r).1 I bn;rcases E:eH r with ⟨⟨V,G,q,U,N⟩,e⟩
 rw[E]at K W Y;simp only at K W Y;subst Y;rcases D:gQ (.mk T ts) (.mk V G q U N)with ⟨⟨O,M,J,u,p,y6,y7⟩,Q⟩
 rw[D]at W;refine qn func168 call168 λβ hf=>?_;exact dq
end Go.Proofs
namespace Go.Proofs
open Go.cM
def jI(r:CR):∃x y e,iu r = .gb [.agg [x,y],.int .i64 e]/\x.one=true/\y.one=true:=by
 unfold iu;split
 ·exact⟨_,_,_,Z,Z,Z⟩
 ·exact⟨_,_,_,Z,Z,Z⟩
attribute [local irreducible] AK ah aZ cx dV aW fq kH fO iV br dD cy fu aX iT gQ fW aV cH cD bN b8 bU bJ iu
def Fh(P G:Int)(S:L UInt8)(J:L Nd)(Y s:L Ty)(hP:40<=P)(hf:bJ P J=some Y)(W:pz s)(B:s.length<=9999999990)(D:aS J<=8589934593)
  (U:∀a∈J,∀E:L Ty,pz E->E.length<=s.length+1->aj 59 [.sl 5 (aG (cJ a)),.sl 2 (au E)] (sq (cy (cJ a) (E,false)))) :
  aj 105 [aY (.mk 2 G P S J),.sl 2 (au Y),.sl 2 (au s)] (iu (mz P J (aX J) Y s)):=by
 unfold mz;by_cases Q:P<=44
 ·rw[if_pos Q];have e1:decide (P<=44)=true:=aaw Q;have hq:=Hl P G S J Y s ⟨hP,Q⟩ hf W B;obtain⟨x,y,e,I,T,A⟩:=jI (fW P J s);rw[I]at hq ⊢;refine qn func105 call105 λβ hf=>?_;exact dw
 rw[if_neg Q];have e1:decide (P<=44)=false:=aax Q;by_cases u:P=45
 ·subst u;rw[if_pos rfl];obtain⟨x0,C,t,rfl,rfl,ht⟩:=PD hf rfl;clear hf U;have TP:=ht.2;have Yj:=ru t C bn (by simp only[aS]at D;omega);have Yk:=lF t bn;rw[show [t].getD 0 kG=t from Z,show [x0,C].getD 1 qV=C from rfl];obtain⟨V,q⟩:=t;obtain⟨y1,y2,y3,y4,y5⟩:=C;rcases hr:gQ (.mk V q) (.mk y1 y2 y3 y4 y5)with ⟨⟨v1,v2,v3,v4,v5,v6,v7⟩,e⟩
  rw[hr]at Yj;simp only at Yj ⊢;by_cases p:e=0;rotate_left
  ·rw[if_neg (λh=>p h.1),aA cc];have e2:(e != 0)=true:=by simpa using p
   refine qn func105 call105 λβ hf=>?_;exact dw
  subst p;cases O:fO (.mk V q)with
  |false =>
   rw[O]at Yk;rw[if_neg (λh=>by simp at h),aA cc];refine qn func105 call105 λβ hf=>?_;exact dw
  |true =>
   rw[O]at Yk;have hp:=bA s [.mk V q];rw[aF]at hp;rw[if_pos ⟨Z,Z⟩,aF];refine qn func105 call105 λβ hf=>?_;exact dw
 rw[if_neg u];have e2:(P==45)=false:=by simpa using u
 by_cases N:P<=58
 ·rw[if_pos N];have e3:decide (P<=58)=true:=aaw N;have hq:=Bj P G S J Y s ⟨bn,N⟩ hf W B D U;obtain⟨x,y,e,I,T,A⟩:=jI (aV P (aX J) Y s);rw[I]at hq ⊢;refine qn func105 call105 λβ hf=>?_;exact dw
 rw[if_neg N];have e3:decide (P<=58)=false:=aax N;by_cases M:P<=63
 ·rw[if_pos M];have e4:decide (P<=63)=true:=aaw M;have hq:=E6 P G S J Y s ⟨bn,M⟩ hf W B D U;obtain⟨x,y,e,I,T,A⟩:=jI (cH P (aX J) Y s);rw[I]at hq ⊢;refine qn func105 call105 λβ hf=>?_;exact dw
 rw[if_neg M];have e4:decide (P<=63)=false:=aax M;by_cases K:P<=68
 ·rw[if_pos K];have e5:decide (P<=68)=true:=aaw K;have hq:=Br P G S J Y s ⟨bn,K⟩ hf W B D U;obtain⟨x,y,e,I,T,A⟩:=jI (cD P J (aX J) Y s);rw[I]at hq ⊢;refine qn func105 call105 λβ hf=>?_;exact dw
 rw[if_neg K];have e5:decide (P<=68)=false:=aax K;by_cases p6:P<=72\/P>=93
 ·rw[if_pos p6];have hq:=Bi P s bn B;obtain⟨x,y,e,I,T,A⟩:=jI (bN P s);rw[I]at hq ⊢;by_cases p7:P<=72
  ·have e6:decide (P<=72)=true:=aaw p7;refine qn func105 call105 λβ hf=>?_;exact dw
  ·have e6:decide (P<=72)=false:=aax p7;have e7:decide (P>=93)=true:=aaw bn;refine qn func105 call105 λβ hf=>?_;exact dw
 rw[if_neg p6];have e6:decide (P<=72)=false:=aax bn;have e7:decide (P>=93)=false:=aax bn;by_cases H:P<=83
 ·rw[if_pos H];have e8:decide (P<=83)=true:=aaw H;have hq:=G7 P J Y s ⟨bn,H⟩ hf W B;obtain⟨x,y,e,I,T,A⟩:=jI (b8 P Y s);rw[I]at hq ⊢;refine qn func105 call105 λβ hf=>?_;exact dw
 ·rw[if_neg H];have e8:decide (P<=83)=false:=aax H;have hq:=E5 P J Y s ⟨bn,bn⟩ hf W B;obtain⟨x,y,e,I,T,A⟩:=jI (bU P Y s);rw[I]at hq ⊢;refine qn func105 call105 λβ hf=>?_;exact dw
def Hw(n:Nd)(s:L Ty)(Q:pz s)(B:s.length<=9999999990)(D:bZ n<=8589934593)
  (Y:aj 59 [.sl 5 (aG (cJ n)),.sl 2 (au s)] (sq (cy (cJ n) (s,false))))
  (U:∀a∈cJ n,∀T:L Ty,pz T->T.length<=s.length+1->aj 59 [.sl 5 (aG (cJ a)),.sl 2 (au T)] (sq (cy (cJ a) (T,false)))) :
  aj 80 [aY n,.sl 2 (au s)] (iu (fu n s)):=by
 obtain⟨W,N,P,S,J⟩:=n;simp only[cJ]at Y U;simp only[bZ]at D;by_cases E:W=3
 ·subst E;rw[show fu (.mk 3 N P S J) s=cy J (s,false)from by simp only[fu,if_true]];generalize cy J (s,false)=r at Y;obtain⟨⟨t,b⟩,e⟩:=r;clear U;refine qn func80 call80 λβ hf=>?_;exact dw
 have M:(W==3)=false:=by simpa using E
 by_cases A:W=2;rotate_left
 ·have q:(W != 2)=true:=by simpa using A
  rw[show fu (.mk W N P S J) s=aM 1 from by simp only[fu,if_neg E,if_pos A],aA cc];clear Y U;refine qn func80 call80 λβ hf=>?_;exact dw
 subst A;have V:=G2 2 N P S J bn;cases hf:bJ P J with
 |none =>
  rw[show fu (.mk 2 N P S J) s=aM 1 from by simp only[fu,hf];rfl,aA cc];rw[hf]at V;clear Y U;refine qn func80 call80 λβ hf=>?_;exact dw
 |some G =>
  have O:40<=P:=by
   unfold bJ at hf;split at hf
   ·cases hf
   ·omega
  rw[show fu (.mk 2 N P S J) s=mz P J (aX J) G s from by simp only[fu,hf];rfl];have hq:=Fh P N S J G s O hf Q B bn U;rw[hf]at V;obtain⟨x,y,e,I,K,H⟩:=jI (mz P J (aX J) G s);rw[I]at hq ⊢;clear Y U;refine qn func80 call80 λβ hf=>?_;exact dw
end Go.Proofs
namespace Go.Proofs
open Go.cM
def PE{t:L Ty}{f:Bool}{e:Int}(h:e≠0):iu ((t,f),e) = .gb [.agg [.any,.any],.int .i64 e]:=by unfold iu;rw[if_neg h]
def s7(n:Nd):aS (cJ n)+1<=bZ n:=by cases n;simp only[cJ,bZ];omega
def DW(n:Nd):SizeOf.sizeOf (cJ n)<SizeOf.sizeOf n:=by cases n;simp only[cJ,Nd.mk.sizeOf_spec];omega
def Sw(x:Nd)(l:L Nd)(o:L Ty):cy (x::l) (o,true)=aM 1:=by simp only[cy,if_true]
def Sx(x:Nd)(l:L Nd)(o:L Ty):cy (x::l) (o,false)=if(ld (fu x o)).2≠0 then aM (ld (fu x o)).2 else cy l (ld (fu x o)).1:=by
 simp only[cy];rfl
def UI(o:L Ty×Bool):cy [] o=(o,0):=by simp only[cy]
def Sy{t:L Ty}{f:Bool}{e:Int}(h:e≠0):ld ((t,f),e)=aM e:=by unfold ld;rw[if_pos h]
def Sz{t:L Ty}{f:Bool}(h:40<t.length):ld ((t,f),0)=aM 7:=by unfold ld;rw[if_neg (by simp),if_pos h]
def SA{t:L Ty}{f:Bool}(h:¬40<t.length)(p:t.all br=false):ld ((t,f),0)=aM 4:=by unfold ld;rw[if_neg (by simp),if_neg h,if_neg (by rw[p];decide)]
def SB{t:L Ty}{f:Bool}(h:¬40<t.length)(p:t.all br=true):ld ((t,f),0)=((t,f),0):=by unfold ld;rw[if_neg (by simp),if_neg h,if_pos p]
attribute [local irreducible] AK ah aZ cx dV aW br dD cy fu iu
def vO:∀(l:L Nd)(s:L Ty)(B:Nat),pz s->s.length<=B->40<=B->B+aS l<=9000000000->aS l<=8589934593 ->
  aj 59 [.sl 5 (aG l),.sl 2 (au s)] (sq (cy l (s,false)))
 |l,s,B,hs,hB,O,hBl,hl=>by
  have Q:∀x∈l,∀o:L Ty,pz o->o.length<=B->aj 80 [aY x,.sl 2 (au o)] (iu (fu x o)):=by
   intro x I o T P;have hxs:=eM I;have hxa:=s7 x;refine Hw x o T bn bn (vO (cJ x) o B T P O bn bn) (λa K s' N hl'=>?_);have has:=eM K;have haa:=s7 a;exact vO (cJ a) s' (B+1) N bn bn bn bn
  have Np:=gu l;refine qn func59 call59 λβ hf=>?_;refine dnw ?_;refine AK.eX (α:=Nat×(L Ty×Bool)) (λz=>z.1<=l.length/\pz z.2.1/\z.2.1.length<=B/\cy l (s,false)=cy (l.drop z.1) z.2) (λz=>l.length-z.1)
   (λz=>[(16,.c (.int .i64 z.1)),(15,.c (.int .i64 (aG l).length)),(14,.c (.sl 5 (aG l))),(6,.ptr 6 0),(4,.ptr 4 0)])
   (λz=>[(6,[.c (.sl 2 (au z.2.1)),.c (.bool z.2.2)]),(4,[.own .exact 2 [],.c (.bool false)])]) (λ_=>[]) [6,4] (0,(s,false))
   ⟨bn,hs,hB,Z⟩ ce ⟨Z,Z,trivial⟩ trivial Z Z Z ?_
  rintro⟨i,⟨o,b⟩⟩ ⟨q,T,P,Y⟩ ih;simp only at q T P Y;rcases gr l i q with ⟨x,I,hm⟩|S
  ·have hc:=lE I;have h2:=bQ I;rw[eG I]at Y;cases b with
   |true =>
    rw[Sw]at Y;rw[Y,iA];clear ih Q Y;obtain⟨k1,k2,k3,k4,k5⟩:=x;have sQ:=eo I;exact dw
   |false =>
    rw[Sx]at Y;have hq:=Q x hm o T P;have H:=Sf x o T;clear Q;generalize fu x o=r at hq H Y;obtain⟨⟨W,C⟩,e⟩:=r;obtain⟨k1,k2,k3,k4,k5⟩:=x;by_cases S:e=0;rotate_left
    ·rw[Sy S,if_pos (show(aM e).2≠0 from S)]at Y;rw[PE S]at hq;rw[Y,iA];have E:(e != 0)=true:=by simpa using S
     clear ih Y;have Bf:=eo I;exact dw
    subst S;rw[GZ]at hq;have z1:=aR W;by_cases V:40<W.length
    ·rw[Sz V,if_pos (show(aM 7).2≠0 from by decide)]at Y;rw[Y,iA];have E:decide ((((au W).length:Nat):Int)>40)=true:=aaw bn;clear ih Y;have E4:=eo I;exact dw
    have E:decide ((((au W).length:Nat):Int)>40)=false:=aax bn
    repeat' (first|refine qU ?_|refine zc ?_ ?_|(intro h;first|(cases h;done)|rw[h]|skip)|refine uI Z (i) Z (eo I) Z ?_|refine uC Z hq ?_)
    refine AK.eX (α:=Nat) (λj=>j<=W.length/\W.all br=(W.drop j).all br) (λj=>W.length-j)
     (λj=>[(42,.c (.int .i64 j)),(41,.c (.int .i64 (au W).length)),(40,.c (.sl 2 (au W))),(16,.c (.int .i64 i)),(15,.c (.int .i64 (aG l).length)),(14,.c (.sl 5 (aG l))),(6,.ptr 6 0),(4,.ptr 4 0)])
     (λj=>[(6,[.c (.sl 2 (au W)),.c (.bool C)]),(4,[.own .exact 2 [],.c (.bool false)])]) (λ_=>[]) [6,4] 0
     ⟨bn,Z⟩ ce ⟨Z,Z,trivial⟩ trivial Z Z Z ?_
    rintro j ⟨hj,G⟩ jh;rcases gr W j hj with ⟨y,J,VZ⟩|D
    ·have UJ:=Bb J;have M:=bQ J;have hys:bw y<=2000:=H y VZ;have p:=mu y bn;rw[eG J,aaE]at G;obtain⟨U,us⟩:=y;cases u:br (.mk U us)with
     |false =>
      rw[u]at p G;rw[aaH]at G;rw[SA V G,if_pos (show(aM 4).2≠0 from by decide)]at Y;rw[Y,iA];clear ih jh Y;have G5:=fB J;exact dw
     |true =>
      rw[u]at p G;rw[aaI]at G
      repeat' (first|refine qU ?_|refine zc ?_ ?_|(intro h;first|(cases h;done)|rw[h]|skip)|refine uI Z (j) Z (fB J) Z ?_|refine uC Z p ?_)
      exact AK.again (jh (j+1) ⟨M,G⟩ bn) ⟨.inl (iS (i:=j) bn),.inl Z,.inl Z,.inl Z,.inl Z,.inl Z,.inl Z,.inl Z,trivial⟩ ⟨Z,Z,trivial⟩ trivial Z Z Z
    ·have UJ:=wM D;have A:W.all br=true:=by rw[G,D,Zx];rfl
     rw[SB V A,if_neg ek]at Y;clear jh
     repeat' (first|refine qU ?_|refine zc ?_ ?_|(intro h;first|(cases h;done)|rw[h]|skip))
     exact AK.again (ih (i+1,(W,C)) ⟨h2,sW A,by show W.length<=B;omega,Y⟩ HE) ⟨.inl (iS (i:=i) bn),.inl Z,.inl Z,.inl Z,.inl Z,trivial⟩ ⟨Z,Z,trivial⟩ trivial Z Z Z
  ·have hc:=js S;have h0:cy l (s,false)=((o,b),0):=by rw[Y,S,Zx,UI]
   rw[h0];clear ih Y Q;exact dw
termination_by l=>SizeOf.sizeOf l
decreasing_by
 all_goals
  have h1:=Zp I;have h2:=DW x
  first
   |omega
   |((have h3:=Zp K);have h4:=DW a;omega)
def rD(n:Nd)(s:L Ty)(K:bZ n<=8589934593)(hs:bg s<=8589934593):aj 31 [aY n,.sl 2 (au s)] (sq (iD n s)):=by
 have h1:=oB n K;have zl:=gV s;have z1:=aR s;unfold iD;by_cases p:dD n≠0
 ·rw[if_pos p,iA];have C:(dD n != 0)=true:=by simpa using p
  generalize dD n=z at h1 C;obtain⟨u,A,E,q,Y⟩:=n;refine qn func31 call31 λβ hf=>?_;exact dw
 rw[if_neg p];have W:dD n=0:=by simpa using p
 rw[W]at h1;have O:=s7 n;obtain⟨u,A,E,q,Y⟩:=n;simp only[cJ]at O;by_cases D:u≠3
 ·simp only[if_pos D];rw[iA];have C:(u != 3)=true:=by simpa using D
  refine qn func31 call31 λβ hf=>?_;exact dw
 obtain rfl:u=3:=by simpa using D
 simp only[if_neg (show ¬((3:Int)≠3)from by simp)];by_cases S:40<s.length
 ·rw[if_pos S,iA];have C:decide ((((au s).length:Nat):Int)>40)=true:=aaw bn;refine qn func31 call31 λβ hf=>?_;exact dw
 rw[if_neg S];have C:decide ((((au s).length:Nat):Int)>40)=false:=aax bn;refine qn func31 call31 λβ hf=>?_
 repeat' (first|refine qU ?_|refine zc ?_ ?_|(intro h;first|(cases h;done)|rw[h]|skip)|refine uC Z h1 ?_)
 refine AK.eX (α:=Nat) (λj=>j<=s.length/\s.all br=(s.drop j).all br) (λj=>s.length-j)
  (λj=>[(25,.c (.int .i64 j)),(24,.c (.int .i64 (au s).length)),(23,.c (.sl 2 (au s))),(1,.c (.sl 2 (au s))),(2,.ptr 2 0),(4,.ptr 4 0)])
  (λj=>[(2,[.c (.int .i64 3),.c (.int .i64 A),.c (.int .i64 E),.c (.str q),.c (.sl 5 (aG Y))]),(4,[.own .exact 2 [],.c (.bool false)])]) (λ_=>[]) [2,4] 0
  ⟨bn,Z⟩ ce ⟨Z,Z,trivial⟩ trivial Z Z Z ?_
 rintro j ⟨N,G⟩ jh;rcases gr s j N with ⟨y,J,M⟩|Q
 ·have I:=Bb J;have V:=bQ J;have H:=cA M;have T:=mu y bn;rw[eG J,aaE]at G;obtain⟨U,us⟩:=y;cases P:br (.mk U us)with
  |false =>
   rw[P]at T G;rw[aaH]at G;rw[if_neg (by rw[G];decide),iA];clear jh;have G6:=fB J;exact dw
  |true =>
   rw[P]at T G;rw[aaI]at G
   repeat' (first|refine qU ?_|refine zc ?_ ?_|(intro h;first|(cases h;done)|rw[h]|skip)|refine uI Z (j) Z (fB J) Z ?_|refine uC Z T ?_)
   exact AK.again (jh (j+1) ⟨V,G⟩ bn) ⟨.inl (iS (i:=j) bn),.inl Z,.inl Z,.inl Z,.inl Z,.inl Z,trivial⟩ ⟨Z,Z,trivial⟩ trivial Z Z Z
 ·have I:=wM Q;have B:s.all br=true:=by rw[G,Q,Zx];rfl
  rw[if_pos B];have ju:=eB s bn;have hr:=vO Y s 40 (sW B) bn bn bn bn;generalize cy Y (s,false)=r at hr;obtain⟨⟨t,f⟩,e⟩:=r;clear jh;exact dw
end Go.Proofs
namespace Go.cM
mutual
def eC:Vl->Bool
 |.mk k _ _ _ J Y W =>
  if k=14 then decide ((iD (.mk 3 0 0 [] W) (Y.take 1)).2=0)&&((iD (.mk 3 0 0 [] W) (Y.take 1)).1.2||gG (iD (.mk 3 0 0 [] W) (Y.take 1)).1.1 (Y.drop 1)) && !iT W
  else eg J
def eg:L Vl->Bool
 |[]=>true
 |x::l=>eC x&&eg l
end
def lu(t:Ty)(v:Vl):Bool:=oA t v&&eC v
def Ym(p s:Ty)(n:Nd):Int :=
 if(br p&&br s&&iV p&&iV s)=false then 5
 else if(iD n [.mk 11 [p,s]]).2≠0 then(iD n [.mk 11 [p,s]]).2
 else if(iD n [.mk 11 [p,s]]).1.2=false/\gG (iD n [.mk 11 [p,s]]).1.1 [.mk 11 [.mk 10 [.mk 8 []],s]]=false then 5 else 0
mutual
def UL:Vl->Bool
 |.mk k _ _ _ J Y _=>(if k=14 then decide (Y.length=2)else true)&&Fi J
def Fi:L Vl->Bool
 |[]=>true
 |x::l=>UL x&&Fi l
end
mutual
def Fj:∀(v:Vl)(t:Ty),kT t->bE v t=true->UL v=true
 |.mk k n a s J Y W,.mk T ts,ok,h=>by
  have U:=Bs J;have B:=Bt J;have H:J.length=0->Fi J=true:=λh=>by rw[List.length_eq_zero_iff.1 h];rfl
  have N:=qz ok;unfold bE at h;by_cases S:k≠bM (.mk T ts)\/cq (.mk k n a s J Y W)=false\/200<s.length
  ·rw[if_pos S]at h;cases h
  rw[if_neg S]at h;have A:cq (.mk k n a s J Y W)=true:=by
   cases hq:cq (.mk k n a s J Y W)with
   |true=>rfl
   |false=>exact absurd (.inr (.inl hq)) S
  have u:k=T:=abf λV=>S (.inl V);subst u;clear S;have d1:∀{p q:Prop}[Decidable (p/\q)],decide (p/\q)=true->q:=λh=>(Zo h).2;simp only[UL,aal];by_cases Q:k=14
  ·subst Q;have M:Y.length=2/\a=0/\n=0/\s=[]/\J.length=0:=by simpa[cq]using A
   exact⟨by simp[M.1],H M.2.2.2.2⟩
  rw[if_neg Q];refine⟨Z,?_⟩;by_cases K:k=1\/k=6
  ·rw[if_pos K]at h;exact H (Zo h).2
  rw[if_neg K]at h;by_cases C:k=2
  ·rw[if_pos C]at h;exact H (Zo h).2.2
  rw[if_neg C]at h;by_cases G:k=3
  ·rw[if_pos G]at h;exact H (Zo h).2.2
  rw[if_neg G]at h;by_cases c4:k=4\/k=5
  ·rw[if_pos c4]at h;exact H (Zo h).2.2
  rw[if_neg c4]at h;by_cases E:k=7
  ·rw[if_pos E]at h;exact H (Zo h).2.2
  rw[if_neg E]at h;by_cases P:k=9
  ·rw[if_pos P,aal]at h;subst P;obtain⟨x,rfl,I⟩:=eN ok cc;exact U x I h.2
  rw[if_neg P]at h;by_cases JK:k=10
  ·rw[if_pos JK,aal]at h;subst JK;obtain⟨x,rfl,I⟩:=eN ok cc;exact U x I h.2
  rw[if_neg JK]at h;by_cases Nz:k=11
  ·rw[if_pos Nz,aal]at h;subst Nz;have z:=N.1;rw[show arity 11=2 from by decide]at z;exact B ts (λx I=>N.2 x I) h.2 P9
  rw[if_neg Nz]at h;by_cases NA:k=12
  ·rw[if_pos NA,aal]at h;subst NA;obtain⟨x,y,rfl,I,hy⟩:=eD ok cc;have hn:=Zo h.1;rcases(show n=0\/n=1 by omega)with rfl|rfl
   ·exact U x I h.2
   ·exact U y hy h.2
  rw[if_neg NA]at h;by_cases NB:k=13
  ·rw[if_pos NB,aal,aal]at h;subst NB;exact U _ (wS ok cc) h.1.2
  rw[if_neg NB,if_neg Q]at h;by_cases O:k=15
  ·rw[if_pos O,aal]at h;subst O;obtain⟨x,rfl,I⟩:=eN ok cc;exact U x I h.2
  rw[if_neg O]at h;by_cases D:k=8
  ·rw[if_pos D,aal,aal]at h;exact U _ (cG h.1.2) h.2
  rw[if_neg D]at h;cases h
def Bs:∀(l:L Vl)(t:Ty),kT t->aP l t=true->Fi l=true
 |[],_,_,_=>rfl
 |x::l,t,ok,h=>by
  simp only[aP,aal]at h;simp only[Fi,aal];exact⟨Fj x t ok h.1,Bs l t ok h.2⟩
def Bt:∀(l:L Vl)(r:L Ty),(∀x∈r,kT x)->cV l r=true->l.length<=r.length->Fi l=true
 |[],_,_,_,_=>rfl
 |x::l,[],_,_,h=>by simp at h
 |x::l,t::r,ok,h,hl=>by
  simp only[cV,aal]at h;simp only[Fi,aal];exact⟨Fj x t (ok t ek) h.1,Bt l r (λx I=>ok x (by simp[I])) h.2 (by simpa using hl)⟩
end
def SC{t:Ty}{v:Vl}(h:oA t v=true):UL v=true:=by
 unfold oA at h;rw[aal]at h;exact Fj v t (cG h.1) h.2
def Hx:∀{l:L Vl}{x:Vl},Fi l=true->x∈l->UL x=true
 |y::l,x,h,I=>by
  simp only[Fi,aal]at h;rcases List.mem_cons.1 I with rfl|I
  ·exact h.1
  ·exact Hx h.2 I
def DX:∀l:L Vl,eg l = !(l.any λx => !eC x)
 |[]=>rfl
 |x::l=>by simp only[eg,abZ,DX l,Bool.not_or,Bool.not_not]
end Go.cM
namespace Go.Proofs
open Go.cM
def Bu(k n a:Int)(s:L UInt8)(J:L Vl)(p q:Ty)(W:L Nd)(D:k=14):eC (.mk k n a s J [p,q] W) =
  (decide ((iD (.mk 3 0 0 [] W) [p]).2=0)&&((iD (.mk 3 0 0 [] W) [p]).1.2||gG (iD (.mk 3 0 0 [] W) [p]).1.1 [q]) && !iT W):=by
 unfold eC;rw[if_pos D];rfl
def J5(k n a:Int)(s:L UInt8)(J:L Vl)(Y:L Ty)(W:L Nd)(D:k≠14):eC (.mk k n a s J Y W)=eg J:=by
 rw[eC,if_neg D]
attribute [local irreducible] AK ah aZ cx dV aW br dD cy fu iD iT eC eg oA fq iV
def zE:∀(v:Vl),UL v=true->aO v<=8589934593->aj 53 [bO v] (.bool (eC v))
 |.mk k n a s J Y W,h2,B=>by
  simp only[aO]at B;simp only[UL,aal]at h2;by_cases D:k=14
  ·rw[if_pos D]at h2;obtain⟨p,q,rfl⟩:=zF (Zo h2.1);rw[Bu k n a s J p q W D];subst D;simp only[bg]at B;have A:=rD (.mk 3 0 0 [] W) [p] (by simp only[bZ,aad];omega) (by simp only[bg];omega);have T:=sU W bn;have N := @yw (.mk 3 0 0 [] W) [p];generalize iD (.mk 3 0 0 [] W) [p]=r at A N;obtain⟨⟨t,f⟩,e⟩:=r;simp only at N ⊢;by_cases S:e=0;rotate_left
   ·have C:(e==0)=false:=by simpa using S
    rw[aax S,aaH,aaH];refine qn func53 call53 λβ hf=>?_;exact dw
   subst S;rw[aaw Z,aaI];have V:=zy t [q] (sW (N Z).1) (by have:=(N Z).2.1;omega);cases f with
   |true =>
    rw[Bool.true_or,aaI];refine qn func53 call53 λβ hf=>?_;exact dw
   |false =>
    rw[Bool.false_or];cases hq:gG t [q]with
    |false =>
     rw[hq]at V;rw[aaH];refine qn func53 call53 λβ hf=>?_;exact dw
    |true =>
     rw[hq]at V;rw[aaI];refine qn func53 call53 λβ hf=>?_;exact dw
  ·rw[J5 k n a s J Y W D,DX];have C:(k==14)=false:=by simpa using D
   have U:∀x∈J,aj 75 (bO x::[]) (.bool (!eC x)):=λx I=>by
    have T:=ee I;have hq:=zE x (Hx h2.2 I) bn;obtain⟨M,Q,E,P,O,K,H⟩:=x;refine qn func75 call75 λβ hf=>?_;exact dw
   have G:=iN J;have hq:=qA J (λx => !eC x) 75 [] U bn;clear U;refine qn func53 call53 λβ hf=>?_;exact dw
termination_by v=>SizeOf.sizeOf v
decreasing_by
 have:=Zp I;simp at this ⊢;omega
def Bv(t:Ty)(v:Vl)(I:bw t<=8589934593)(B:aO v<=8589934593):aj 22 [er t,bO v] (.bool (lu t v)):=by
 have h1:=NC t v I B;unfold lu;cases Y:oA t v with
 |false =>
  rw[Y]at h1;rw[aaH];obtain⟨T,ts⟩:=t;obtain⟨M,W,J,A,V,D,U⟩:=v;refine qn func22 call22 λβ hf=>?_;exact dw
 |true =>
  have h2:=zE v (SC Y) B;rw[Y]at h1;rw[aaI];obtain⟨T,ts⟩:=t;obtain⟨M,W,J,A,V,D,U⟩:=v;refine qn func22 call22 λβ hf=>?_;exact dw
end Go.Proofs
