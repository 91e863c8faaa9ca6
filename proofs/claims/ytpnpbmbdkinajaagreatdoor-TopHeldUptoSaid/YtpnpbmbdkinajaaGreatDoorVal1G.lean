/- A part of the proof. -/
import Derived.Test.YtpnpbmbdkinajaaGreatDoorEndG
import Derived.Test.YtpnpbmbdkinajaaGreatDoorKind2G
import Derived.Test.YtpnpbmbdkinajaaGreatDoorNum1G
import Derived.Lib.Bytealg
set_option linter.all false
set_option maxHeartbeats 0
set_option maxRecDepth 100000
open Go.IntKind Go.Proofs.Tryz
namespace Go.cE
def FR:∀(a b:Δ),Lib.compareBytes a b=fS a b
 |[],[]=>rfl
 |[],_::_=>rfl
 |_::_,[]=>rfl
 |x::a,y::b=>by have S:=FR a b;unfold fS at S ⊢;simp only[Lib.compareBytes,Op.bytesLess];grind
section
variable {P:Program}{X:Ctx}{ops:tal}{o:Oper}{rest:L Oper}{env:Env}{acc:L Fp}{Q:Env->St->L Fp->Prop}{σ:St}
def bR.TL {fn } {f } (hf : P.funcs[f]? = some fn) (hname : (fn.name == "runtime.NumGoroutine") = false) (hb : fn.body.isNone = true) (hn : Extern.findNext fn = none) (he : Extern.find fn = some Extern.BytealgCompare.compare)
  {args} {ts} (ho:o.op = .call {callee := .value (.func f),args:=args,argTypes:=ts}) {x y} (hargs:args = #[x,y]) {a b:L UInt8} (hx:aJ X env x=some (.c (.str a))) (hy:aJ X env y=some (.c (.str b))) :
  bR P X o env σ (.c (.int .i64 (fS a b))) (λσ=>σ) ⟨[],[]⟩:=by
 subst hargs;refine bR.val λdx w g act h1 jH cB dI=>?_;have hx':aJ X dx x=some (.c (.str a)):=by rw[h1 x ZI];exact hx
 have hy':aJ X dx y=some (.c (.str b)):=by rw[h1 y ZI];exact hy
 have rx:=cz (a:=act) dI cB hx';have ry:=cz (a:=act) dI cB hy';refine⟨.int .i64 (fS a b),?_,by simp only[aX,Rel]⟩;have hrun:(callFunc f #[act.eval x,act.eval y]).run P w = .ok (.value (.int .i64 (fS a b))) w:=by rw[run_callFunc_extern hf hname hb hn he,rx,ry,Lib.run_compareString];simp;rw[<- FR]
 obtain⟨dst,op,type,pos,after,guard⟩:=o;subst ho;simpa[execOp,resolve,Deferred.ofValue,invoke,Act.eval]using hrun
def ag.TL{fn f}(kn)(hg:cZ ops.toList kn env o=some true){args ts}(ho:o.op = .call {callee := .value (.func f),args:=args,argTypes:=ts})(hf:P.funcs[f]?=some fn)
  (hname : (fn.name == "runtime.NumGoroutine") = false) (hb : fn.body.isNone = true) (hn : Extern.findNext fn = none) (he : Extern.find fn = some Extern.BytealgCompare.compare)
  {d:Nat}(hd:o.dst=some d){x y}(hargs:args = #[x,y]){a b:L UInt8}(hx:aJ X env x=some (.c (.str a)))(hy:aJ X env y=some (.c (.str b)))
  (k:ag P X ops rest ((d,.c (.int .i64 (fS a b)))::env) σ (⟨[],[]⟩::acc) Q):ag P X ops (o::rest) env σ acc Q :=
 ag.step (dA hg) (bR.TL hf hname hb hn he ho hargs hx hy) (jf.id _) zw
end
def aae(k n a)(s:Δ)(Y:Ξ)(V:Γ)(code:Θ):iG (.mk k n a s Y V code)=1+s.length/8+jA Y:=rfl
def TM:jA []=0:=rfl
def QO(x)(l:Ξ):jA (x::l)=iG x+jA l:=rfl
mutual
def TN:∀t:Vl,iG t<=aG t
 |.mk k n a s Y V code=>by have:=zV Y;simp only[iG,aG];omega
def zV:∀l:Ξ,jA l<=aH l
 |[]=>acd _
 |t::l=>by have:=TN t;have:=zV l;simp only[jA,aH];omega
end
end Go.cE
namespace Go.Proofs
open Go.cE
def eV{l}{i:Nat}{x}(h:l[i]?=some x):(aa l)[i]?=some (bz x):=by rw[lR,h];rfl
def nM{l i x}(h:l[i]?=some x):decide ((i:Nat)<(((aa l).length):Int)):=dec_lt (by have:=bp h;rw[aE];omega)
def kP{l i}(h:i=l.length):decide ((i:Nat)<(((aa l).length):Int))=false:=Mn (by rw[aE];omega)
def agt{a b:Nat}(h:a+b<1099511627776):some (AV.c (CV.int .i64 (i64.wrap (a+b))))=some (AV.c (CV.int .i64 (a+b:Nat))):=by rw[gW ai ai];rfl
def QT:∀(l r:Ξ),uw oF l r=qj l r
 |[],[]=>rfl
 |[],_::_=>rfl
 |_::_,[]=>rfl
 |x::l,y::r=>by simp[uw,qj,QT l r]
attribute [local irreducible] AK ag aZ bS iG jA
def Gx(a b:Δ):af 110 [.str a,.str b] (.int .i64 (fS a b)):=by
 refine qn func110 call110 λY hf=>?_
 repeat' (first|refine rG ?_|refine ag.TL kn Z Z func128 (by kernel_rfl) (by kernel_rfl) (by kernel_rfl) (by kernel_rfl) Z Z Z Z ?_)
 all_goals rfl
def EP(a b:Δ):af 92 [.str a,.str b] (.int .i64 (fS a b)):=by have Y:=Gx a b;exact qdq func92 call92
def B6(a b):af 93 [.int .i64 a,.int .i64 b] (.int .i64 (yw a b)):=by unfold yw;by_cases Y:a<b;have G:decide (a<b):=ace Y;rw[if_pos Y];exact qdq func93 call93;have G:decide (a<b)=false:=acf Y;rw[if_neg Y];by_cases V:a>b;have u:decide (a>b):=ace V;rw[if_pos V];exact qdq func93 call93;have u:decide (a>b)=false:=acf V;rw[if_neg V];exact qdq func93 call93
set_option maxHeartbeats 1000000 in
def Kp(l:Ξ)(p:Vl->Bool)(f:FuncId)(Y:Ψ)(C:∀x∈l,af f (bz x::Y) (.bool (p x)))(N:l.length<=1099511627776) :
  af 78 [.sl 7 (aa l),.sX f Y] (.int .i64 (idxOf p l)):=by
 refine qn func78 call78 λu hf=>?_;refine AK.SH Tryz.hX mixed 300 Z ?_;refine AK.dg (α:=Nat) (λi=>i<=l.length/\∀(j:Nat) x,j<i->l[j]?=some x->p x=false) (λi=>l.length-i)
  (λi=>[(8,Υ i),(7,Υ (aa l).length),(0,.c (.sl 7 (aa l))),(1,.c (.sX f Y))]) (λ_=>[]) (λ_=>[]) [] 0
  ⟨ai,by intro j x h;omega⟩ ce trivial trivial Z Z Z ?_
 rintro i ⟨hi,U⟩ ih
 repeat' (first|refine rG ?_|refine zc ?_ ?_|(intro h;first|(cases h;done)|rw[h]|skip))
 ·have S:i<l.length:=by simpa[aE]using h
  obtain⟨⟨M,K,J,I,F,E,D⟩,T⟩:∃x,l[i]?=some x:=⟨l[i],by simp[S]⟩;refine ag.index Tryz.hX Z Z Z Z Z Z Z Z Z Z i Z (by rw[lR,T];rfl) Z ?_
  repeat' (first|refine rG ?_|refine zc ?_ ?_|(intro h;first|(cases h;done)|rw[h]|skip)|refine uC Z (C ⟨M,K,J,I,F,E,D⟩ (acm T)) ?_)
  rw[yN p l i ⟨M,K,J,I,F,E,D⟩ T h U];have B:=h
  have A:=ih (i+1) ⟨ai,λj x t V=>by
   by_cases O:j=i;subst O;rw[T]at V;simp at V;subst V;exact B
   exact U j x ai V⟩ ai
  refine AK.again A ⟨.inl ?_,.inl Z,.inl Z,.inl Z,trivial⟩ trivial trivial Z Z Z;rw[gW ai ai];rfl
 have z:l.length<=i:=by simpa[aE]using h
 rw[BC p l λj y hy=>U j y adV hy]
def wA(l)(p:Vl->Bool)(f)(C:Ψ)(M:∀x∈l,af f (bz x::C) (.bool (p x)))(T:l.length<=1099511627776) :
  af 59 [.sl 7 (aa l),.sX f C] (.bool (l.any p)):=by
 refine qn func59 call59 λY hf=>?_
 repeat' (first|refine rG ?_|refine uC Z (Kp l p f C M T) ?_)
 rw[DV]
def IU(l r)(q:Vl->Vl->Bool)(f)(C:Ψ)(M:∀x∈l,∀y∈r,af f (bz x::bz y::C) (.bool (q x y)))(T:l.length<=1099511627776) :
  af 35 [.sl 7 (aa l),.sl 7 (aa r),.sX f C] (.bool (uw q l r)):=by
 by_cases E:l.length=r.length
 ·have K:((((aa l).length:Nat):Int) != (((aa r).length:Nat):Int))=false:=by rw[aE,aE,E];simp
  refine qn func35 call35 λβ hf=>?_
  repeat' (first|refine rG ?_|refine zc ?_ ?_|(intro h;first|(cases h;done)|rw[h]|skip))
  refine AK.dg (α:=Nat) (λi=>i<=l.length/\uw q l r=uw q (l.drop i) (r.drop i)) (λi=>l.length-i)
   (λi=>[(17,Υ i),(16,Υ (aa l).length),(15,.c (.sl 7 (aa l))),(1,.c (.sl 7 (aa r))),(2,.c (.sX f C))]) (λ_=>[]) (λ_=>[]) [] 0
   ⟨ai,Z⟩ ce trivial trivial Z Z Z ?_
  rintro i ⟨H,W⟩ ih;rcases fU l i H with ⟨x,O,U⟩|Y
  ·have D:=nM O;obtain⟨y,V⟩:∃y,r[i]?=some y:=⟨r[i]' qv,cS⟩;have F:=M x U y (acm V);rw[cT O,cT V]at W;simp only[uw]at W;obtain⟨S,z,I,N,Q,P,J⟩:=x;obtain⟨A,u,G,B,p,t,m⟩:=y
   repeat' (first|refine rG ?_|refine zc ?_ ?_|(intro h;first|(cases h;done)|rw[h]|skip)|refine uI Z (i) Z (eV O) Z ?_|refine uI Z (i) Z (eV V) Z ?_|refine uC Z F ?_)
   rw[W];simp_all;refine AK.again (ih (i+1) ⟨bp O,?_⟩ qv) ⟨.inl (dz qv),.inl Z,.inl Z,.inl Z,.inl Z,trivial⟩ trivial trivial Z Z Z;simp_all
  have D:=kP Y
  repeat' (first|refine rG ?_|refine zc ?_ ?_|(intro h;first|(cases h;done)|rw[h]|skip))
  rw[W,G9 q E Y]
 have K:((((aa l).length:Nat):Int) != (((aa r).length:Nat):Int)):=by rw[aE,aE];simp;omega
 rw[Cw q l r E];exact qdq func35 call35
def xG:∀t,aG t<=8589934593->af 30 [bz t] (.int .i64 (iG t))
 |.mk k n a s args I code,C=>by
  have V:=zV args;simp only[aG]at C;have Q:=iT args;have A:∀x∈args,af 30 [bz x] (.int .i64 (iG x)):=λx O=>xG x sy;have U:i64.wrap (1+i64.wrap ((s.length:Int).tdiv 8))=((1+s.length/8:Nat):Int):=by rw[show(8:Int)=((8:Nat):Int)from Z,<- Int.ofNat_tdiv,gW (n:=((s.length/8:Nat):Int)) ai ai,gW ai ai];omega
  rw[aae];refine qn func30 call30 λu hf=>?_
  repeat' (first|refine rG ?_|refine zc ?_ ?_|(intro h;first|(cases h;done)|rw[h]|skip))
  refine AK.dg (α:=Nat×Nat) (λz=>z.1<=args.length/\1+s.length/8+jA args=z.2+jA (args.drop z.1)) (λz=>args.length-z.1)
   (λz=>[(14,Υ z.1),(13,Υ (aa args).length),(12,.c (.sl 7 (aa args))),(3,Υ z.2)]) (λ_=>[]) (λ_=>[]) [] (0,1+s.length/8)
   ⟨ai,by rw[ajS]⟩ ⟨.inl Z,.inl Z,.inl Z,.inl (ahm (λz=>some (AV.c (CV.int .i64 z))) U),trivial⟩ trivial trivial Z Z Z ?_
  rintro⟨i,m⟩ ⟨H,W⟩ ih;simp only at H W;rcases fU args i H with ⟨x,O,T⟩|Y
  ·have D:=nM O;have F:=A x T;rw[cT O,QO]at W;have y:=bp O;generalize iG x=q at F W;obtain⟨P,B,M,E,N,K,J⟩:=x
   repeat' (first|refine rG ?_|refine zc ?_ ?_|(intro h;first|(cases h;done)|rw[h]|skip)|refine uI Z (i) Z (eV O) Z ?_|refine uC Z F ?_)
   refine AK.again (ih (i+1,m+q) ⟨y,by show 1+s.length/8+jA args=m+q+jA (args.drop (i+1));omega⟩ fe) ⟨.inl (dz ai),.inl Z,.inl Z,.inl (agt (a:=m) (b:=q) ai),trivial⟩ trivial trivial Z Z Z
  have D:=kP Y;have S:1+s.length/8+jA args=m:=by rw[W,Y,aho,TM,aiI]
  clear ih
  repeat' (first|refine rG ?_|refine zc ?_ ?_|(intro h;first|(cases h;done)|rw[h]|skip))
  show(_:CV)=_;rw[S]
termination_by t=>SizeOf.sizeOf t
decreasing_by
 have:=ahx O;simp at this ⊢;omega
def yx:∀t u,bE t<=1099511627776->af 38 [aV t,aV u] (.bool (rJ t u))
 |.mk T M I N V,.mk A J E Y S,C=>by
  simp only[bE]at C;have W:=gB V;have U:=yK V S rJ 38 [] (λx O y _=>yx x y ab8) ai;rw[G8]at U;refine qn func38 call38 λK hf=>?_
  repeat' (first|refine rG ?_|refine zc ?_ ?_|(intro h;first|(cases h;done)|rw[h]|skip)|refine uC Z U ?_)
  all_goals
   show(_:CV)=_;clear hf U;simp_all [rJ]
termination_by t=>SizeOf.sizeOf t
decreasing_by
 have:=ahx O;simp at this ⊢;omega
end Go.Proofs
namespace Go.Proofs
open Go.cE
def Sw{k n a:Int}{s:Δ}{V:Ξ}{T:Γ}{code:Θ}{t:Ty}(h:bJ (.mk k n a s V T code) t)(U:iS t=false) :
  k=cL t/\(k=9->V.length<=1/\∀x∈V,bJ x (aL t 0)/\iS (aL t 0)=false)/\(k=11->V.length=2/\dM V (aQ t)/\(aQ t).length=2/\oX (aQ t)=false) /\
   (k=12->0<=n/\n<=1/\V.length=1/\∀x∈V,bJ x (aL t n.toNat)/\iS (aL t n.toNat)=false):=by
 obtain⟨S,P,B⟩:=sU h;have Y:¬(k≠cL t\/cG (.mk k n a s V T code)=false\/200<s.length):=by simp_all
 simp only[bJ,if_neg Y]at h;obtain⟨W,Q⟩:=jw U;rw[<- S]at W;refine⟨S,?_,?_,?_⟩
 ·rintro rfl;simp at h;have E:(aQ t).length=1:=by(have:arity 9=1:=by decide);omega
  refine⟨h.1.2,λx O=>⟨(eI _ _).1 h.2 x O,dP Q (nq ai)⟩⟩
 ·rintro rfl;simp at h;have E:(aQ t).length=2:=by(have:arity 11=2:=by decide);omega
  simp_all
 rintro rfl;simp at h;have E:(aQ t).length=2:=by(have:arity 12=2:=by decide);omega
 refine⟨h.1.1,h.1.2.1,h.1.2.2,λx O=>⟨(eI _ _).1 h.2 x O,dP Q (nq ai)⟩⟩
def amg(n a:Int)(s:Δ)(P:Ξ)(S:Γ)(code:Θ)(O U T:Int)(V:Δ)(Q:Ξ)(Y:Γ)(W:Θ):ee (.mk 6 n a s P S code) (.mk O U T V Q Y W)=fS s V:=rfl
def amh(n a:Int)(s:Δ)(S:Ξ)(P:Γ)(code:Θ)(O V U:Int)(T:Δ)(Q:Ξ)(Y:Γ)(W:Θ):ee (.mk 9 n a s S P code) (.mk O V U T Q Y W)=if yw S.length Q.length=0 then kN S Q else yw S.length Q.length:=rfl
def aju(n a:Int)(s:Δ)(S:Ξ)(P:Γ)(code:Θ)(O V U:Int)(T:Δ)(Q:Ξ)(Y:Γ)(W:Θ):ee (.mk 11 n a s S P code) (.mk O V U T Q Y W)=kN S Q:=rfl
def ajv(n a:Int)(s:Δ)(S:Ξ)(P:Γ)(code:Θ)(O V U:Int)(T:Δ)(Q:Ξ)(Y:Γ)(W:Θ):ee (.mk 12 n a s S P code) (.mk O V U T Q Y W)=if yw n V=0 then kN S Q else yw n V:=rfl
def ami{k:Int}(N:k≠6)(M:k≠9)(B:k≠11)(U:k≠12)(n a:Int)(s:Δ)(O:Ξ)(P:Γ)(code:Θ)(K V T:Int)(S:Δ)(Q:Ξ)(Y:Γ)(W:Θ):ee (.mk k n a s O P code) (.mk K V T S Q Y W)=yw n V:=by simp only[ee,if_neg N,if_neg M,if_neg B,if_neg U]
def Mk(x:Vl)(l:Ξ)(y:Vl)(r:Ξ):kN (x::l) (y::r)=if ee x y=0 then kN l r else ee x y:=rfl
def Sx(r:Ξ):kN [] r=0:=by cases r<;>rfl
attribute [local irreducible] AK ag aZ bS ee kN bJ aS dM oF qj cx gS rJ mq yw fS cG
def vj:∀(v w:Vl),aG v<=1099511627776->af 25 [bz v,bz w] (.bool (oF v w))
 |.mk k n a s K M code,.mk F V U T Q Y W,u=>by
  simp only[aG]at u;have P:=iT K;have N:=lD M;have S:=gB code;have J:=IU K Q oF 25 [] (λx O y _=>vj x y sy) ai;have I:=sV M Y cx 26 [] (λx O y _=>gC x y (by have:=cN O;omega)) ai;have B:=yK code W rJ 38 [] (λx O y _=>yx x y ab8) ai;rw[QT]at J;rw[Cx]at I;rw[G8]at B;have H:oF (.mk k n a s K M code) (.mk F V U T Q Y W)=(k==F&&n==V&&a==U&&s==T&&qj K Q&&gS M Y&&mq code W):=by simp only[oF]
  rw[H];generalize qj K Q=b1 at J;generalize gS M Y=b2 at I;generalize mq code W=b3 at B;clear H;refine qn func25 call25 λE hf=>?_
  repeat' (first|refine rG ?_|refine zc ?_ ?_|(intro h;first|(cases h;done)|rw[h]|skip)|refine uC Z J ?_|refine uC Z I ?_|refine uC Z B ?_)
  all_goals
   show(_:CV)=_;clear hf J I B;simp_all
termination_by t=>SizeOf.sizeOf t
decreasing_by
 have:=ahx O;simp at this ⊢;omega
def vO(n:Int):af 73 [.int .i64 n] (.bool (decide (0<=n)&&decide (n<12))):=by
 refine qn func73 call73 λY hf=>?_
 repeat' (first|refine rG ?_|refine zc ?_ ?_|(intro h;first|(cases h;done)|rw[h]|skip))
 all_goals
  show(_:CV)=_;clear hf;simp_all
def Sy(k n a:Int)(s:Δ)(V:Ξ)(Y:Γ)(code:Θ):cG (.mk k n a s V Y code)=(if k=15 then decide (Y.length=0/\code.length=0/\s=[])
  else if k=8 then decide (Y.length=1/\code.length=0/\s=[])
  else if k=14 then decide (Y.length=2/\a=0/\n=0/\s=[]/\V.length=0)
  else if k=6 then decide (Y.length=0/\code.length=0/\a=0/\n=0/\V.length=0)
  else decide (Y.length=0/\code.length=0/\a=0/\s=[])):=by simp only[cG]
def Sz(v:Vl):af 71 [bz v] (.bool (cG v)):=by
 obtain⟨k,n,a,s,U,Y,code⟩:=v;rw[Sy];by_cases G:k=15
 ·subst G;refine qn func71 call71 λT hf=>?_
  repeat' (first|refine rG ?_|refine zc ?_ ?_|(intro h;first|(cases h;done)|rw[h]|skip))
  all_goals
   show(_:CV)=_;clear hf;simp only[aY,bq,aE,akg,aka]at *;rcases Y with _|⟨_,_|⟨_,_|⟨_,_⟩⟩⟩<;>simp_all<;>(try omega)<;>rcases s with _|⟨_,_⟩<;>rcases U with _|⟨_,_⟩<;>rcases code with _|⟨_,_⟩<;>simp_all<;>omega
 have A:(k==15)=false:=by simpa using G
 by_cases u:k=8
 ·subst u;refine qn func71 call71 λT hf=>?_
  repeat' (first|refine rG ?_|refine zc ?_ ?_|(intro h;first|(cases h;done)|rw[h]|skip))
  all_goals
   show(_:CV)=_;clear hf;simp only[aY,bq,aE,akg,aka]at *;rcases Y with _|⟨_,_|⟨_,_|⟨_,_⟩⟩⟩<;>simp_all<;>(try omega)<;>rcases s with _|⟨_,_⟩<;>rcases U with _|⟨_,_⟩<;>rcases code with _|⟨_,_⟩<;>simp_all<;>omega
 have Q:(k==8)=false:=by simpa using u
 by_cases B:k=14
 ·subst B;refine qn func71 call71 λT hf=>?_
  repeat' (first|refine rG ?_|refine zc ?_ ?_|(intro h;first|(cases h;done)|rw[h]|skip))
  all_goals
   show(_:CV)=_;clear hf;simp only[aY,bq,aE,akg,aka]at *;rcases Y with _|⟨_,_|⟨_,_|⟨_,_⟩⟩⟩<;>simp_all<;>(try omega)<;>rcases s with _|⟨_,_⟩<;>rcases U with _|⟨_,_⟩<;>rcases code with _|⟨_,_⟩<;>simp_all<;>omega
 have K:(k==14)=false:=by simpa using B
 by_cases c4:k=6
 ·subst c4;refine qn func71 call71 λT hf=>?_
  repeat' (first|refine rG ?_|refine zc ?_ ?_|(intro h;first|(cases h;done)|rw[h]|skip))
  all_goals
   show(_:CV)=_;clear hf;simp only[aY,bq,aE,akg,aka]at *;rcases Y with _|⟨_,_|⟨_,_|⟨_,_⟩⟩⟩<;>simp_all<;>(try omega)<;>rcases s with _|⟨_,_⟩<;>rcases U with _|⟨_,_⟩<;>rcases code with _|⟨_,_⟩<;>simp_all<;>omega
 have V:(k==6)=false:=by simpa using c4
 refine qn func71 call71 λT hf=>?_
 repeat' (first|refine rG ?_|refine zc ?_ ?_|(intro h;first|(cases h;done)|rw[h]|skip))
 all_goals
  show(_:CV)=_;clear hf;simp only[aY,bq,aE,akg,aka]at *;rcases Y with _|⟨_,_|⟨_,_|⟨_,_⟩⟩⟩<;>simp_all<;>(try omega)<;>rcases s with _|⟨_,_⟩<;>rcases U with _|⟨_,_⟩<;>rcases code with _|⟨_,_⟩<;>simp_all<;>omega
def Vk{l:Ξ}(h:l.length=1):∃x,l=[x]:=by
 match l,h with
 |[x],_=>exact⟨x,Z⟩
def aej{l:Ξ}(h:l.length=2):∃x y,l=[x,y]:=by
 match l,h with
 |[x,y],_=>exact⟨x,y,Z⟩
def FE{l:Γ}(h:l.length=2):∃x y,l=[x,y]:=by
 match l,h with
 |[x,y],_=>exact⟨x,y,Z⟩
def O2(x y:Vl):kN [x] [y]=ee x y:=by rw[Mk,Sx];split<;>simp_all
def aek(x K y Y:Vl):kN [x,K] [y,Y]=if ee x y=0 then ee K Y else ee x y:=by rw[Mk,O2]
def qH:∀(v w:Vl)(t:Ty),iS t=false->bJ v t->bJ w t->aG v<=1099511627776->af 75 [bz v,bz w] (.int .i64 (ee v w))
 |.mk k n a s F ω code,.mk r N a' s' Q J ψ,t,hb,hv,hw,χ=>by
  simp only[aG]at χ;obtain⟨p0,p9,T,υ⟩:=Sw hv hb;obtain⟨q0,q9,S,τ⟩:=Sw hw hb;obtain rfl:r=k:=by rw[p0,q0]
  clear hv hw;have A:∀x∈F,∀y u,iS u=false->bJ x u->bJ y u->af 75 [bz x,bz y] (.int .i64 (ee x y)):=λx O y u z m h3=>qH x y u z m h3 sy;by_cases c1:r=6;subst c1;rw[amg];have z:=EP s s';exact qdq func75 call75;by_cases c2:r=9
  ·subst c2;rw[amh];have z:=B6 (((aa F).length:Nat):Int) (((aa Q).length:Nat):Int);by_cases H:yw F.length Q.length=0
   ·rw[if_pos H];rw[aE,aE,H,<- aE,<- aE Q]at z;have yF:=pP.1 H;by_cases I:F.length=0;have e5:((((aa F).length:Nat):Int)==0):=(by rw[aE];simpa using I);rw[List.length_eq_zero_iff.1 I,Sx];rw[List.length_eq_zero_iff.1 I]at z e5;exact qdq func75 call75;have e5:((((aa F).length:Nat):Int)==0)=false:=(by rw[aE];simpa using I);obtain⟨x,P⟩:=Vk (show F.length=1 by have:=(p9 rfl).1;omega);obtain⟨y,Y⟩:=Vk (show Q.length=1 by have:=(q9 rfl).1;omega);have O:=(p9 Z).2 x afL;have G:=(q9 Z).2 y (by rw[Y];simp);have m:=A x afL y (aL t 0) O.2 O.1 G.1;have o:F[0]?=some x:=by rw[P];rfl
    have M:Q[0]?=some y:=(by rw[Y];rfl);have K:kN F Q=ee x y:=(by rw[P,Y,O2]);rw[K];obtain⟨E,C,D,B,q,p,j⟩:=x;obtain⟨i,f,d,b,y5,y6,y7⟩:=y;refine qn func75 call75 λβ hf=>?_;have BB:=eV o;have Mp:=eV M;exact dq
   rw[if_neg H];have e1:(yw F.length Q.length != 0):=(by simpa using H);rw[<- aE,<- aE Q]at e1 ⊢;exact qdq func75 call75
  by_cases c3:r=11
  ·subst c3;rw[aju];obtain⟨m1,V,m3,W⟩:=T rfl;obtain⟨r1,U,_,_⟩:=S rfl;obtain⟨x,x',P⟩:=aej m1;obtain⟨y,y',Y⟩:=aej r1;obtain⟨u,u',hU⟩:=FE m3;rw[P,hU]at V;rw[Y,hU]at U;rw[hU]at W;simp only[dM,aaI]at V U;simp only[oX,aiw]at W;have z:=A x afL y u W.1 V.1 U.1;have m:=A x' afL y' u' W.2.1 V.2.1 U.2.1;have o:F[0]?=some x:=(by rw[P];rfl);have M:Q[0]?=some y:=(by rw[Y];rfl);have g3:F[1]?=some x':=(by rw[P];rfl);have g4:Q[1]?=some y':=(by rw[Y];rfl);have K:kN F Q=if ee x y=0 then ee x' y' else ee x y:=(by rw[P,Y,aek])
   rw[K];clear V U K P Y T S;obtain⟨E,C,D,B,q,p,j⟩:=x;obtain⟨i,f,d,b,y5,y6,y7⟩:=y;obtain⟨z1,z2,z3,z4,z5,z6,z7⟩:=x';obtain⟨w1,w2,w3,w4,w5,w6,w7⟩:=y';by_cases H:ee (.mk E C D B q p j) (.mk i f d b y5 y6 y7)=0;rw[if_pos H];rw[H]at z;refine qn func75 call75 λβ hf=>?_;have WM:=eV o;have π:=eV M;have ο:=eV g3;have ξ:=eV g4;exact dq;rw[if_neg H];have e1:(ee (.mk E C D B q p j) (.mk i f d b y5 y6 y7) != 0):=(by simpa using H);refine qn func75 call75 λβ hf=>?_;have ν:=eV o;have μ:=eV M;have κ:=eV g3;have ι:=eV g4;exact dq
  by_cases c4:r=12;subst c4;rw[ajv];have z:=B6 n N;obtain⟨m1,V,m3,W⟩:=υ rfl;obtain⟨r1,U,r3,r4⟩:=τ rfl;obtain⟨x,P⟩:=Vk m3;obtain⟨y,Y⟩:=Vk r3;by_cases H:yw n N=0;rw[if_pos H];rw[H]at z;have ρ:=pP.1 H;have O:=W x afL;have G:=r4 y (by rw[Y];simp);rw[<- ρ]at G;have m:=A x afL y (aL t n.toNat) O.2 O.1 G.1;have o:F[0]?=some x:=(by rw[P];rfl);have M:Q[0]?=some y:=(by rw[Y];rfl);have K:kN F Q=ee x y:=(by rw[P,Y,O2]);rw[K];obtain⟨E,C,D,B,q,p,j⟩:=x;obtain⟨i,f,d,b,y5,y6,y7⟩:=y;refine qn func75 call75 λβ hf=>?_;have θ:=eV o;have η:=eV M;exact dq;rw[if_neg H];have e1:(yw n N != 0):=(by simpa using H);exact qdq func75 call75;rw[ami c1 c2 c3 c4];have e1:(r==6)=false:=by simpa using c1
  have e2:(r==9)=false:=by simpa using c2
  have K:(r==11)=false:=by simpa using c3
  have e4:(r==12)=false:=by simpa using c4
  have z:=B6 n N;exact qdq func75 call75
termination_by v=>SizeOf.sizeOf v
decreasing_by
 have:=ahx O;simp at this ⊢;omega
end Go.Proofs
namespace Go.Proofs
open Go.cE
def jC:∀(a:Ξ)(b:Ξ),aa (a++b)=aa a++aa b
 |[],b=>rfl
 |x::a,b=>by simp only[ahk,aa,jC a b]
def X7(x:Nd)(l:Θ)(t:Ty)(r:Γ):eL (x::l) (t::r)=if(dW x t).2=true then glue [(dW x t).1] (eL l r)else([],false):=by simp only[eL]
def abC:eL [] []=([],true):=by simp only[eL]
def X8(Y:Ξ)(x:Vl)(z:Ξ×Bool):glue Y (glue [x] z)=glue (Y++[x]) z:=Xb Y [x] z
def ad2(Y:Ξ):glue Y ([],false)=([],false):=rfl
def abD(Y:Ξ):glue Y ([],true)=(Y,true):=by simp[glue]
def OW(x:Nd)(l:Θ)(t:Ty):eM (x::l) t=((dW x t).1::(eM l t).1,(dW x t).2&&(eM l t).2):=by simp only[eM]
def Sa(t:Ty):eM [] t=([],true):=by simp only[eM]
def OX(T N P:Int)(S:Δ)(V:Θ)(l:Θ)(Y:Γ):eC (.mk T N P S V::l) Y=(.mk 11 0 0 [] (eL V Y).1 [] []::(eC l Y).1,((eL V Y).2&&decide (T=2/\P=28))&&(eC l Y).2):=by simp only[eC]
def Sb(Y:Γ):eC [] Y=([],true):=by simp only[eC]
def ajg(T N P:Int)(S:Δ)(Y:Θ)(V:Γ):dW (.mk T N P S Y) (.mk 1 V)=(qQ 1,decide (T=2/\P=20/\Y.length=0)):=by simp[dW,cL]
def ajh(T N P:Int)(S:Δ)(Y:Θ)(V:Γ):dW (.mk T N P S Y) (.mk 2 V)=(.mk 2 (i64.wrap (22-P)) 0 [] [] [] [],decide (T=2/\(P=21\/P=22)/\Y.length=0)):=by simp[dW,cL]
def WA(T Y N P:Int)(W:T=3\/T=4\/T=5\/T=7)(S:Δ)(V:Θ)(U:Γ):dW (.mk Y N P S V) (.mk T U)=(.mk T N 0 [] [] [] [],decide (Y=0)):=by rcases W with rfl|rfl|rfl|rfl<;>simp[dW,cL]
def aji(T N P:Int)(S:Δ)(Y:Θ)(V:Γ):dW (.mk T N P S Y) (.mk 6 V)=(.mk 6 0 0 S [] [] [],decide (T=1)):=by simp[dW,cL]
def ag0(N:Int)(S:Δ)(Y:Θ)(V:Γ):dW (.mk 2 N 27 S Y) (.mk 9 V)=(qQ 9,decide (Y.length=0)):=by simp[dW,cL]
def ag1(N:Int)(S:Δ)(Y:Θ)(V:Γ):dW (.mk 2 N 26 S Y) (.mk 9 V)=(.mk 9 0 0 [] (eL Y V).1 [] [],(eL Y V).2):=by simp[dW,cL,aQ]
def ag2(T N P:Int)(S:Δ)(Y:Θ)(V:Γ)(U:¬(T=2/\P=27))(Q:¬(T=2/\P=26)):dW (.mk T N P S Y) (.mk 9 V)=(qQ 9,false):=by simp[dW,cL,U,Q]
def ad3(N:Int)(S:Δ)(Y:Θ)(V:Γ):dW (.mk 2 N 23 S Y) (.mk 11 V)=(.mk 11 0 0 [] (eL Y V).1 [] [],(eL Y V).2):=by simp[dW,cL,aQ]
def ad4(T N P:Int)(S:Δ)(Y:Θ)(V:Γ)(U:¬(T=2/\P=23)):dW (.mk T N P S Y) (.mk 11 V)=(qQ 11,false):=by simp[dW,cL,U]
def ad5(N:Int)(S:Δ)(Y:Θ)(u q:Ty):dW (.mk 2 N 24 S Y) (.mk 12 [u,q])=(.mk 12 0 0 [] (eL Y [u]).1 [] [],(eL Y [u]).2):=by simp[dW,cL,aL,aQ]
def ad6(N:Int)(S:Δ)(Y:Θ)(u q:Ty):dW (.mk 2 N 25 S Y) (.mk 12 [u,q])=(.mk 12 1 0 [] (eL Y [q]).1 [] [],(eL Y [q]).2):=by simp[dW,cL,aL,aQ]
def ad7(T N P:Int)(S:Δ)(Y:Θ)(V:Γ)(U:¬(T=2/\P=24))(Q:¬(T=2/\P=25)):dW (.mk T N P S Y) (.mk 12 V)=(qQ 12,false):=by simp[dW,cL,U,Q]
def ag3(T N P:Int)(S:Δ)(Y:Θ)(u:Ty):dW (.mk T N P S Y) (.mk 10 [u])=(.mk 10 0 0 [] (eM Y u).1 [] [],decide (T=3)&&(eM Y u).2):=by simp[dW,cL,aL,aQ]
def ag4(T N P:Int)(S:Δ)(Y:Θ)(V:Γ):dW (.mk T N P S Y) (.mk 13 V)=(.mk 13 0 0 [] (eC Y V).1 [] [],decide (T=3)&&(eC Y V).2):=by simp[dW,cL,aQ]
def ajj(T Y N P:Int)(W:T=8\/T=14\/T=15)(S:Δ)(V:Θ)(U:Γ):dW (.mk Y N P S V) (.mk T U)=(qQ T,false):=by rcases W with rfl|rfl|rfl<;>simp[dW,cL]
attribute [local irreducible] AK ag aZ bS dW eL eM eC
def aZ.weaken{P:Program}{X:Ctx}{f:FuncId}{Y:Ψ}{r H:CV}(h:∀G v,Rel G r v->Rel G H v)(q:aZ P X f Y r):aZ P X f Y H:=by unfold aZ at q ⊢;refine⟨q.1,λG w V T S B=>?_⟩;exact Calls.mono (q.2 G w V T S B) λe O ⟨u,U,A,Q,K⟩=>⟨u,U,A,h U u Q,K⟩
def ME{G:lB}{s t:Nat}{v:Value}(h:Rel G (.sl s []) v):Rel G (.sl t []) v:=by obtain⟨V,Y,T,A,Q,K,_⟩:=h;exact⟨V,Y,T,A,Q,K,.inl rfl⟩
def abE{G:lB}{s t:Nat}{b:Bool}{v:Value}(h:Rel G (.eK [.sl s [],.bool b]) v):Rel G (.eK [.sl t [],.bool b]) v:=by obtain⟨U,A,Q,K⟩:=h;refine⟨U,A,?_,cS⟩;obtain⟨u,T,V,Y,C⟩:=Q;exact⟨u,T,V,ME Y,C⟩
def ajk:Ξ×Bool->CV
 |(q,true) => .eK [.sl 7 (aa q),.bool true]
 |(_,false) => .eK [.sl 0 [],.bool false]
def gZ(T N P q:Int)(S:Δ)(Y:Θ):af 84 [.int .i64 q,.ip [.int .i64 T,.int .i64 N,.int .i64 P,.str S,.sl 5 (aD Y)]] (.bool (decide (T=2/\P=q))):=by
 refine qn func84 call84 λV hf=>?_
 repeat' (first|refine sz ?_|refine zc ?_ ?_|(intro h;first|(cases h;done)|rw[h]|skip))
 all_goals
  show(_:CV)=_;clear hf;refine ahm CV.bool ?_;rw[aiO]
  (try simp_all)<;>(try omega)
def U8(F:Γ)(l:Θ)(u:l.length<=1099511627776)(K:∀x∈l,∀t∈F,af 64 [ct t,aV x] (.eK [bz (dW x t).1,.bool (dW x t).2])) :
  af 85 [.sl 2 (az F),.sl 5 (aD l)] (ajk (eL l F)):=by
 by_cases T:l.length=F.length;rotate_left
 ·have I:((((az F).length:Nat):Int) != (((aD l).length:Nat):Int)):=by rw[aY,bq];simp;omega
  rw[HO l F T];exact qdq func85 call85
 have I:((((az F).length:Nat):Int) != (((aD l).length:Nat):Int))=false:=by rw[aY,bq];simp;omega
 refine qn func85 call85 λβ hf=>?_
 repeat' (first|refine sz ?_|refine zc ?_ ?_|(intro h;first|(cases h;done)|rw[h]|skip)|(refine uA Z ?_ ?_<;>(try (show(_:Nat)*_<=_;dsimp only))))
 refine AK.gK [] [(6000,(0,none))] (env':=[(17,Υ (0:Nat)),(16,Υ (aD l).length),(0,.c (.sl 2 (az F))),(1,.c (.sl 5 (aD l))),(6,.own (.tok 6000 0) 7 [])])
  (bs':=[]) (ts':=[(6000,0)]) (us':=[6000])
  ce  trivial Z ?_
 refine AK.dg (α:=Nat×Ξ) (λz=>z.1<=l.length/\z.1=z.2.length/\eL l F=glue z.2 (eL (l.drop z.1) (F.drop z.1))) (λz=>l.length-z.1)
  (λz=>[(17,Υ z.1),(16,Υ (aD l).length),(0,.c (.sl 2 (az F))),(1,.c (.sl 5 (aD l))),(6,.own (.tok 6000 0) 7 (aa z.2))]) (λ_=>[]) (λ_=>[(6000,0)]) [6000] (0,[])
  ⟨ai,Z,by rw[Zp _ (HN _ _)];rfl⟩ ce trivial ⟨Z,trivial⟩ Z Z Z ?_
 rintro⟨i,y⟩ ⟨H,N,W⟩ ih;simp only at H N W;rcases fU l i H with ⟨x,O,E⟩|M
 ·have D:=mG O;have m:=bp O;obtain⟨t,C⟩:∃t,F[i]?=some t:=⟨F[i]' ai,cS⟩;have o:=K x E t (acm C);rw[cT O,cT C,X7]at W;rcases B:dW x t with ⟨⟨G,Y,V,S,q,Q,J⟩,b⟩
  rw[B]at o W;obtain⟨p,j,f,d,xa⟩:=x;obtain⟨U,us⟩:=t;cases b with
  |false =>
   rw[if_neg cS,ad2]at W;rw[W];clear ih W;have BB:=ij C;have Mp:=ff O;exact dq
  |true =>
   rw[if_pos Z,X8]at W
   repeat' (first|refine sz ?_|refine zc ?_ ?_|(intro h;first|(cases h;done)|rw[h]|skip)|refine uI Z (i) Z (ij C) Z ?_|refine uI Z (i) Z (ff O) Z ?_|refine uC Z o ?_|(refine uA Z ?_ ?_<;>(try (show(_:Nat)*_<=_;dsimp only))))
   have h1:=aE y;simp only[aat,aav];omega;have P:aa y++[bz (.mk G Y V S q Q J)]=aa (y++[Vl.mk G Y V S q Q J]):=(jC y [_]).symm;refine AK.gK [] [(6000,(0,some 6000))] (env':=[(17,Υ ((i+1:Nat):Int)),(16,Υ (aD l).length),(0,.c (.sl 2 (az F))),(1,.c (.sl 5 (aD l))),(6,.own (.tok 6000 0) 7 (aa (y++[Vl.mk G Y V S q Q J])))])
    (bs':=[]) (ts':=[(6000,0)]) (us':=[6000])
    ⟨⟨_,Z,.inl (lI (i:=i) ai)⟩,⟨_,Z,.inl Z⟩,⟨_,Z,.inl Z⟩,⟨_,Z,.inl Z⟩,⟨_,Z,⟨_,Z,.inr ⟨_,_,Z,Z,ahm (AV.own (.tok 6000 1) 7) P⟩⟩⟩,trivial⟩ trivial Z ?_
   exact ih (i+1,y++[Vl.mk G Y V S q Q J]) ⟨m,by simp[N],W⟩ ga
 have D:=j9 M;have A:eL l F=(y,true):=by rw[W,M,T,aho,<- T,aho,abC,abD]
 rw[A];clear ih W;exact dq
def A6(Y:Γ)(l:Θ)(E:l.length<=1099511627776)(M:∀x∈l,∀t∈Y,af 64 [ct t,aV x] (.eK [bz (dW x t).1,.bool (dW x t).2])) :
  af 85 [.sl 2 (az Y),.sl 5 (aD l)] (.eK [.sl 7 (aa (eL l Y).1),.bool (eL l Y).2]):=by
 have h:=U8 Y l E M;have hf:=HN l Y;rcases V:eL l Y with ⟨q,b⟩
 rw[V]at h hf;cases b with
 |true=>exact h
 |false =>
  obtain rfl:=hf rfl;exact aZ.weaken (λG v u=>abE u) h
end Go.Proofs
namespace Go.Proofs
open Go.cE
def kids{k n a:Int}{s:Δ}{T:Ξ}{S:Γ}{code:Θ}{t:Ty}(h:bJ (.mk k n a s T S code) t)(U:iS t=false)(P:k=9\/k=10\/k=11\/k=12\/k=13) :
  ∀x∈T,∃u,iS u=false/\bJ x u:=by
 intro x O;have C:=(sU h).1;have I:=nk h;obtain⟨Y,Q⟩:=jw U;rw[<- C]at Y;rcases P with rfl|rfl|rfl|rfl|rfl
 ·simp[pX]at I;have:arity 9=1:=by decide
  exact⟨_,dP Q (nq (i:=0) ai),(eI _ _).1 I.2 x O⟩
 ·simp[pX]at I;have:arity 10=1:=by decide
  exact⟨_,dP Q (nq (i:=0) ai),(eI _ _).1 I.2 x O⟩
 ·simp[pX]at I;have:arity 11=2:=by decide
  obtain⟨y,z,u,w,A,W,K,V⟩:=acW I.1.2 ai I.2;rw[W]at Q;rw[A]at O;simp at O;rcases O with rfl|rfl
  exact⟨u,dP Q cS,K⟩;exact⟨w,dP Q cS,V⟩
 ·simp[pX]at I;have:arity 12=2:=by decide
  exact⟨_,dP Q (nq (i:=n.toNat) ai),(eI _ _).1 I.2 x O⟩
 simp[pX]at I;have:arity 13=2:=by decide
 refine⟨.mk 11 (aQ t),?_,(eI _ _).1 I.1.2 x O⟩;simp only[iS,aiw];exact⟨acf (by(simp;have:arity 11=2:=by decide);omega),Q⟩
def ajq{x:Vl}{U:Γ}(h:bJ x (.mk 11 U)):vK x=11:=by cases x with|mk k n a s V Y code=>exact(sU h).1
def abQ{G:lB}{a b c d:CV}{s t:Nat}{v:Value}(h:Rel G (.agg [a,b,c,d,.sl s []]) v):Rel G (.agg [a,b,c,d,.sl t []]) v:=by obtain⟨F,A,Q,K⟩:=h;refine⟨F,A,?_,?_⟩;rw[cy]at Q ⊢;obtain⟨Y,u,V,W,Q⟩:=Q;refine⟨Y,u,V,W,?_⟩;obtain⟨U,I,C,M,Q⟩:=Q;refine⟨U,I,C,M,?_⟩;obtain⟨T,P,S,O,Q⟩:=Q;refine⟨T,P,S,O,?_⟩;obtain⟨N,J,H,E,Q⟩:=Q;refine⟨N,J,H,E,?_⟩;obtain⟨D,B,q,p,z⟩:=Q;exact⟨D,B,q,ME p,z⟩;simp at K ⊢;exact⟨K.1,K.2.1,K.2.2.1,K.2.2.2.1,rfl⟩
def Sj(x:Vl)(l:Ξ):fF (x::l)=fI x::fF l:=by simp only[fF]
def Vf:fF []=[]:=by simp only[fF]
def Vg(k n a:Int)(s:Δ)(Y:Ξ)(V:Γ)(code:Θ)(l:Ξ):oV (.mk k n a s Y V code::l) = .mk 2 0 28 [] (fF Y)::oV l:=by simp only[oV]
def Yd:oV []=[]:=by simp only[oV]
def aec(n a:Int)(s:Δ)(V:Ξ)(Y:Γ)(code:Θ):fI (.mk 1 n a s V Y code) = .mk 2 0 20 [] []:=by simp[fI]
def aed(n a:Int)(s:Δ)(V:Ξ)(Y:Γ)(code:Θ):fI (.mk 2 n a s V Y code) = .mk 2 0 (22-n) [] []:=by simp[fI]
def aee(n a:Int)(s:Δ)(V:Ξ)(Y:Γ)(code:Θ):fI (.mk 6 n a s V Y code) = .mk 1 0 0 s []:=by simp[fI]
def aef(n a:Int)(s:Δ)(Y:Ξ)(V:Γ)(code:Θ):fI (.mk 9 n a s Y V code) = .mk 2 0 (27-Y.length) [] (fF Y):=by simp[fI]
def abR(n a:Int)(s:Δ)(Y:Ξ)(V:Γ)(code:Θ):fI (.mk 10 n a s Y V code) = .mk 3 0 0 [] (fF Y):=by simp[fI]
def abS(n a:Int)(s:Δ)(Y:Ξ)(V:Γ)(code:Θ):fI (.mk 11 n a s Y V code) = .mk 2 0 23 [] (fF Y):=by simp[fI]
def abT(n a:Int)(s:Δ)(Y:Ξ)(V:Γ)(code:Θ):fI (.mk 12 n a s Y V code) = .mk 2 0 (24+n) [] (fF Y):=by simp[fI]
def abU(n a:Int)(s:Δ)(Y:Ξ)(V:Γ)(code:Θ):fI (.mk 13 n a s Y V code) = .mk 3 0 0 [] (oV Y):=by simp[fI]
def aeg(k n a:Int)(h:¬(k=1\/k=2\/k=6\/k=9\/k=10\/k=11\/k=12\/k=13))(s:Δ)(V:Ξ)(Y:Γ)(code:Θ):fI (.mk k n a s V Y code) = .mk 0 n 0 [] []:=by simp at h;simp[fI,h]
attribute [local irreducible] AK ag aZ bS fI fF oV oJ bJ ey gu fj dW bA iF
def vp(p:Int)(l:Θ):af 163 [.int .i64 p,.sl 5 (aD l)] (aV (.mk 2 0 p [] l)):=by exact qdq func163 call163
def DO(p:Int):af 163 [.int .i64 p,.sl 0 []] (aV (.mk 2 0 p [] [])):=by
 have h:af 163 [.int .i64 p,.sl 0 []] (.agg [.int .i64 2,.int .i64 0,.int .i64 p,.str [],.sl 0 []]):=by exact qdq func163 call163
 exact aZ.weaken (λG v u=>abQ u) h
def F8(l:Ξ)(E:l.length<=1099511627776)(M:∀x∈l,af 157 [bz x] (aV (fI x))):af 164 [.sl 7 (aa l)] (.sl 5 (aD (fF l))):=by
 refine qn func164 call164 λo hf=>?_;refine dn ?_;refine AK.gK [] [(6000,(0,none))] (env':=[(8,Υ (0:Nat)),(7,Υ (aa l).length),(6,.c (.sl 7 (aa l))),(3,.own (.tok 6000 0) 5 [])])
  (bs':=[]) (ts':=[(6000,0)]) (us':=[6000])
  ce  trivial Z ?_
 refine AK.dg (α:=Nat×Θ) (λz=>z.1<=l.length/\z.1=z.2.length/\fF l=z.2++fF (l.drop z.1)) (λz=>l.length-z.1)
  (λz=>[(8,Υ z.1),(7,Υ (aa l).length),(6,.c (.sl 7 (aa l))),(3,.own (.tok 6000 0) 5 (aD z.2))]) (λ_=>[]) (λ_=>[(6000,0)]) [6000] (0,[])
  ⟨ai,Z,cS⟩ ce trivial ⟨Z,trivial⟩ Z Z Z ?_
 rintro⟨i,F⟩ ⟨H,S,W⟩ ih;simp only at H S W;rcases fU l i H with ⟨x,O,P⟩|Q
 ·have D:=nM O;have t:=bp O;have y:=M x P;rw[cT O,Sj]at W;rw[show ∀(a:Θ)(b:Nd)(c:Θ),a++b::c=a++[b]++c from λa b c=>by simp]at W;rcases C:fI x with ⟨G,Y,V,U,q⟩
  rw[C]at y W;obtain⟨N,B,K,J,I,u,p⟩:=x
  repeat' (first|refine sz ?_|refine zc ?_ ?_|(intro h;first|(cases h;done)|rw[h]|skip)|refine uI Z (i) Z (eV O) Z ?_|refine uC Z y ?_|(refine uA Z ?_ ?_<;>(try (show(_:Nat)*_<=_;dsimp only))))
  have m:=bq F;simp only[aat,aav];omega;have T:aD F++[aV (Nd.mk G Y V U q)]=aD (F++[Nd.mk G Y V U q]):=(nT F [_]).symm;refine AK.gK [] [(6000,(0,some 6000))] (env':=[(8,Υ ((i+1:Nat):Int)),(7,Υ (aa l).length),(6,.c (.sl 7 (aa l))),(3,.own (.tok 6000 0) 5 (aD (F++[Nd.mk G Y V U q])))])
   (bs':=[]) (ts':=[(6000,0)]) (us':=[6000])
   ⟨⟨_,Z,.inl (lI (i:=i) ai)⟩,⟨_,Z,.inl Z⟩,⟨_,Z,.inl Z⟩,⟨_,Z,⟨_,Z,.inr ⟨_,_,Z,Z,ahm (AV.own (.tok 6000 1) 5) T⟩⟩⟩,trivial⟩ trivial Z ?_
  exact ih (i+1,F++[Nd.mk G Y V U q]) ⟨t,by simp[S],W⟩ ga
 have D:=kP Q;have A:fF l=F:=by rw[W,Q,aho,Vf,ahq]
 rw[A];clear ih W;exact dq
def BQ:∀(v:Vl)(t:Ty),iS t=false->bJ v t->aG v<=8589934593->af 157 [bz v] (aV (fI v))
 |.mk k n a s args j code,t,E,p,hv=>by
  simp only[aG]at hv;have Fg:=iT args;have A:∀x∈args,∀u,iS u=false->bJ x u->af 157 [bz x] (aV (fI x)):=λx O u F m=>BQ x u F m sy;have rF:∀f C B d Q Y V,Vl.mk f C B d Q Y V∈args->∀y∈Q,∀u,iS u=false->bJ y u->af 157 [bz y] (aV (fI y)):=λf C B d Q Y V O y G u F m=>BQ y u F m (by have h3:=dV O;have h4:=dV G;simp only[aG]at h3;omega);have I:=nk p;have T:=kids p E;have U:(k=9\/k=10\/k=11\/k=12\/k=13)->af 164 [.sl 7 (aa args)] (.sl 5 (aD (fF args))):=λh=>F8 args ai λx O=>by obtain⟨u,S,P⟩:=T h x O;exact A x O u S P
  by_cases c:k=1;subst c;rw[aec];have F:=DO 20;exact qdq func157 call157;by_cases c:k=2;subst c;rw[aed];have hn:0<=n/\n<=1:=(by simp[pX]at I;omega);have D:i64.wrap (22-n)=22-n:=gW ai ai;have F:=DO (22-n);rw[<- D]at F ⊢;exact qdq func157 call157;by_cases c:k=6;subst c;rw[aee];exact qdq func157 call157;by_cases c:k=9;subst c;rw[aef];have hn:args.length<=1:=(by simp[pX]at I;omega);have D:i64.wrap (27-(((aa args).length:Nat):Int))=27-(args.length:Int):=(by rw[aE,gW ai ai]);have F:=vp (27-(args.length:Int)) (fF args);have m:=U cS;rw[<- D]at F ⊢;exact qdq func157 call157;by_cases c:k=10;subst c;rw[abR];have m:=U cS;exact qdq func157 call157;by_cases c:k=11;subst c;rw[abS];have F:=vp 23 (fF args);have m:=U cS;exact qdq func157 call157;by_cases c:k=12;subst c;rw[abT];have hn:0<=n/\n<=1:=(by simp[pX]at I;omega);have D:i64.wrap (24+n)=24+n:=gW ai ai;have F:=vp (24+n) (fF args);have m:=U cS;rw[<- D]at F ⊢;exact qdq func157 call157;by_cases c:k=13
  ·subst c;rw[abU];have N:∀x∈args,∃u,iS u=false/\bJ x u/\vK x=11:=(by intro x O;simp[pX]at I;have Hp:=(eI _ _).1 I.1.2 x O;refine⟨_,?_,Hp,ajq Hp⟩;obtain⟨SC,jN⟩:=jw E;rw[<- (sU p).1]at SC;have:arity 13=2:=(by decide);simp only[iS,aiw];exact⟨acf (by(simp;have:arity 11=2:=by decide);omega),jN⟩);refine qn func157 call157 λβ hf=>?_
   repeat' (first|refine sz ?_|refine zc ?_ ?_|(intro h;first|(cases h;done)|rw[h]|skip)|(refine uA Z ?_ ?_<;>(try (show(_:Nat)*_<=_;dsimp only))))
   refine AK.gK [(2,2),(3,3)] [(6003,(0,none))] (env':=[(59,Υ (0:Nat)),(58,Υ (aa args).length),(57,.c (.sl 7 (aa args))),(2,.ptr 2 0),(3,.ptr 3 0)])
    (bs':=[(2,[Υ 0,Υ 0,Υ 0,.c (.str []),.own .exact 5 []]),(3,[Υ 3,Υ 0,Υ 0,.c (.str []),.own (.tok 6003 0) 5 []])]) (ts':=[(6003,0)]) (us':=[2,3,6003])
    ce ce Z ?_
   refine AK.dg (α:=Nat×Θ) (λz=>z.1<=args.length/\z.1=z.2.length/\oV args=z.2++oV (args.drop z.1)) (λz=>args.length-z.1)
    (λz=>[(59,Υ z.1),(58,Υ (aa args).length),(57,.c (.sl 7 (aa args))),(2,.ptr 2 0),(3,.ptr 3 0)])
    (λz=>[(2,[Υ 0,Υ 0,Υ 0,.c (.str []),.own .exact 5 []]),(3,[Υ 3,Υ 0,Υ 0,.c (.str []),.own (.tok 6003 0) 5 (aD z.2)])]) (λ_=>[(6003,0)]) [2,3,6003] (0,[])
    ⟨ai,Z,cS⟩ ce ⟨Z,Z,trivial⟩ ⟨Z,trivial⟩ Z Z Z ?_
   rintro⟨i,o⟩ ⟨hi,G7,W⟩ ih;simp only at hi G7 W;rcases fU args i hi with ⟨x,O,M⟩|he
   ·have hc:=nM O;have m:=bp O;obtain⟨u,S,P,u3⟩:=N x M;obtain⟨x1,x2,x3,x4,q,x6,x7⟩:=x;have K:x1=11:=u3;have J:=dV M;simp only[aG]at J;have ω:=iT q;have hq:=F8 q ai λy G=>by obtain⟨w,w1,w2⟩:=kids P S (by simp[K]) y G;exact rF x1 x2 x3 x4 q x6 x7 M y G w w1 w2
    have hp:=vp 28 (fF q);rw[cT O,Vg]at W;rw[show ∀(a:Θ)(b:Nd)(c:Θ),a++b::c=a++[b]++c from λa b c=>by simp]at W
    repeat' (first|refine sz ?_|refine zc ?_ ?_|(intro h;first|(cases h;done)|rw[h]|skip)|refine uI Z (i) Z (eV O) Z ?_|refine uC Z hq ?_|refine uC Z hp ?_|(refine uA Z ?_ ?_<;>(try (show(_:Nat)*_<=_;dsimp only))))
    have F:=bq o;simp only[aat,aav];omega;have H:aD o++[aV (Nd.mk 2 0 28 [] (fF q))]=aD (o++[Nd.mk 2 0 28 [] (fF q)]):=(nT o [_]).symm;refine AK.gK [(2,2),(3,3)] [(6003,(0,some 6003))] (env':=[(59,Υ ((i+1:Nat):Int)),(58,Υ (aa args).length),(57,.c (.sl 7 (aa args))),(2,.ptr 2 0),(3,.ptr 3 0)])
     (bs':=[(2,[Υ 0,Υ 0,Υ 0,.c (.str []),.own .exact 5 []]),(3,[Υ 3,Υ 0,Υ 0,.c (.str []),.own (.tok 6003 0) 5 (aD (o++[Nd.mk 2 0 28 [] (fF q)]))])]) (ts':=[(6003,0)]) (us':=[2,3,6003])
     ⟨⟨_,Z,.inl (lI (i:=i) ai)⟩,⟨_,Z,.inl Z⟩,⟨_,Z,.inl Z⟩,⟨_,Z,⟨_,Z,Z⟩⟩,⟨_,Z,⟨_,Z,Z⟩⟩,trivial⟩ ⟨ce,⟨_,_,Z,Z,⟨_,_,Z,.inl Z,⟨_,_,Z,.inl Z,⟨_,_,Z,.inl Z,⟨_,_,Z,.inl Z,⟨_,_,Z,⟨_,Z,.inr ⟨_,_,Z,Z,ahm (AV.own (.tok 6003 1) 5) H⟩⟩,Z⟩⟩⟩⟩⟩⟩,trivial⟩ Z ?_
    exact ih (i+1,o++[Nd.mk 2 0 28 [] (fF q)]) ⟨m,by simp[G7],W⟩ fe
   have hc:=kP he;have h0:oV args=o:=(by rw[W,he,aho,Yd,ahq]);rw[h0];clear ih W;exact dq
  rw[aeg k n a ai];have e1:(k==1)=false:=by simp;omega
  have e2:(k==2)=false:=by simp;omega
  have e3:(k==6)=false:=by simp;omega
  have e4:(k==9)=false:=by simp;omega
  have e5:(k==10)=false:=by simp;omega
  have e6:(k==11)=false:=by simp;omega
  have e7:(k==12)=false:=by simp;omega
  have e8:(k==13)=false:=by simp;omega
  exact qdq func157 call157
termination_by v=>SizeOf.sizeOf v
decreasing_by
 have F:=ahx O;simp at F ⊢;omega;have F:=ahx O;have m:=ahx G;simp at F m ⊢;omega
end Go.Proofs
namespace Go.Proofs
open Go.cE
def LF{l:Ξ}{i:Nat}{v:Vl}(h:l[i]?=some v):l.drop i=v::l.drop (i+1):=by obtain⟨Y,V⟩:=List.getElem?_eq_some_iff.1 h;rw[ajF Y,V]
attribute [local irreducible] AK ag aZ bS cA iG
def tY(S:bM)(l:Ξ)(I:∀v∈l,aG v<=8589934593)(E:l.length<=1000)(C:S.st.length+l.length<=549755813888):cM 129 S [.c (.sl 7 (aa l))] (ah (nQ l S.st).1) {S with st:=(nQ l S.st).2}:=by
 generalize Y:nQ l S.st=res;have N:=aE l;refine mn func129 call129 λo hf=>?_;refine dnm ?_;refine AK.gK [(1000000,1000000),(3001,1000001),(3002,1000002)] [] (env':=[(0,.ptr 1000000 0),(7,.c (.sl 7 (aa l))),(8,.c (ah ((aa l).length:Nat))),(9,.c (ah (0:Nat)))])
  (bs':=[(1000000,mC {S with st:=S.st} 3001 3002),(3001,aq (sR S.st)),(3002,aq (fR S.fr))]) (ts':=[]) (us':=[1000000,3001,3002])
  ce  (cvB Z Z Z Z Z Z Z Z Z) Z ?_
 refine AK.dg (α:=Nat×Ξ) (λz=>res=nQ (l.drop z.1) z.2/\z.1<=l.length/\z.2.length=S.st.length+z.1) (λz=>l.length-z.1)
  (λz=>[(0,.ptr 1000000 0),(7,.c (.sl 7 (aa l))),(8,.c (ah ((aa l).length:Nat))),(9,.c (ah (z.1:Nat)))])
  (λz=>[(1000000,mC {S with st:=z.2} 3001 3002),(3001,aq (sR z.2)),(3002,aq (fR S.fr))]) (λ_=>[]) [1000000,3001,3002] (0,S.st)
  ⟨by rw[<- Y];rfl,ahp _,rfl⟩ ce ⟨rfl,rfl,rfl,trivial⟩ trivial rfl (agD {S with st:=S.st} rfl rfl rfl) rfl ?_
 rintro⟨i,s⟩ ⟨x,t,B⟩ ih;simp only at x t B;by_cases Q:i=l.length
 ·have D:decide ((i:Int)<(((aa l).length:Nat):Int))=false:=acf ai;have V:res=(0,s):=by rw[x,Q,aho];rfl
  rw[V];clear ih;exact dm
 have D:decide ((i:Int)<(((aa l).length:Nat):Int)):=ace ai;have W:i<l.length:=by omega
 obtain⟨v,J⟩:∃v,l[i]?=some v:=⟨_,ahl W⟩;have P:=acm J;have H:=I v P;have A:=LF J;have K:(aa l)[i]?=some (bz v):=by rw[lR,J];rfl
 obtain⟨k,u,T,O,y,F,code⟩:=v;have p:=xG _ H;by_cases M:iG (.mk k u T O y F code)>200
 ·have G:decide (((iG (.mk k u T O y F code):Nat):Int)>200):=ace ai;have V:res=(13,s):=by rw[x,A];simp only[nQ,M,if_true]
  rw[V];clear ih;exact dm
 have G:decide (((iG (.mk k u T O y F code):Nat):Int)>200)=false:=acf ai;have V:res=nQ (l.drop (i+1)) (.mk k u T O y F code::s):=by rw[x,A];simp only[nQ,M,aiQ]
 have q:i64.wrap ((i:Int)+1)=((i+1:Nat):Int):=by rw[gW ai ai];omega
 have U:=T4 k u T O y F code s
 repeat' (first|refine pS ?_|refine zc ?_ ?_|(intro h;first|(cases h;done)|rw[h]|skip)|refine uI Z (i) Z (K) Z ?_|refine uC Z p ?_|refine ag.od hX kn Z Z Z Z Z Z Z Z Z Z Z Z Z Z Z (sR s) [] (ahq _).symm (kK _).symm (xZ _) Z Z Z Z Z Z Z (show((sR s).length+1)*112<=_ by rw[kK];omega) Z (m:=s.length+1) (by rw[acg,kK];rfl) Z ?_|refine ag.kZ hX kn Z Z Z Z Z Z Z Z Z s.length Z (aid _) ?_|refine ag.store hX kn Z Z Z Z Z Z Z Z Z (U _ Z) Z ?_|(refine uA Z ?_ ?_<;>(try (show(_:Nat)*_<=_;dsimp only))))
 refine AK.gK [(1000000,1000000),(3001,23),(3002,3002)] [] (env':=[(0,.ptr 1000000 0),(7,.c (.sl 7 (aa l))),(8,.c (ah ((aa l).length:Nat))),(9,.c (ah ((i+1:Nat):Int)))])
  (bs':=[(1000000,mC {S with st := .mk k u T O y F code::s} 3001 3002),(3001,aq (sR (.mk k u T O y F code::s))),(3002,aq (fR S.fr))]) (ts':=[]) (us':=[1000000,3001,3002])
  ⟨⟨_,Z,⟨_,Z,Z⟩⟩,⟨_,Z,.inl Z⟩,⟨_,Z,.inl Z⟩,⟨_,Z,.inl (ahm (λz=>AV.c (.int .i64 z)) q)⟩,trivial⟩ (cvB Z Z Z Z Z Z Z Z Z) Z ?_
 exact ih (i+1,.mk k u T O y F code::s) ⟨V,W,by show(_::s).length=_;simp only[aat];omega⟩ ga
end Go.Proofs
