/- Package run: -/
import Derived.Test.YtdnpapgijbhofaaGreatDoorKind5
import Derived.Test.YtdnpapgijbhofaaGreatDoorFits
import Derived.Test.YtdnpapgijbhofaaGreatDoorCtx
import Derived.Test.YtdnpapgijbhofaaGreatDoorVal2
open Go.IntKind
open Go.Proofs.Tryz
set_option linter.defProp false
set_option maxHeartbeats 0
set_option linter.unusedVariables false
set_option linter.unusedSimpArgs false
set_option maxRecDepth 100000
namespace Go.Proofs
open Go.cM
mutual
def Cu:∀(t:Nd)(d:Int),ef t d=0->bZ t<=many t*201
 |.mk P n p s J,d,h=>by
  obtain⟨h1,h2⟩:=jf h;have K:=(lp h1).2.2.2.2.2.2.2.2;have W:=Aa J _ h2;simp only[bZ,many];omega
def Aa:∀(l:L Nd)(d:Int),cY l d=0->aS l<=cF l*201
 |[],_,_=>by simp[aS]
 |x::l,d,h=>by
  simp only[cY]at h;by_cases Y:ef x d=0
  ·rw[if_pos Y]at h;have h1:=Cu x d Y;have h2:=Aa l d h;simp only[aS,cF];omega
  ·rw[if_neg Y]at h;exact absurd h Y
end
def wv{n:Nd}(h:dD n=0):bZ n<=60300:=by
 obtain⟨h1,h2⟩:=jH.1 h;have:=Cu n 1 h1;omega
def iU{t:Ty}(ok:kT t)(i:Nat):bw (aD t i)<=300:=by
 obtain⟨T,ts⟩:=t;have h2:=ok.2;simp only[bw]at h2;show bw (ts.getD i kG)<=300;rw[aaS];cases h:ts[i]? with
 |none=>simp[bw,kG,bg]
 |some x=>have:=cA (aaA h);simp only[abJ];omega
def Q7{k n a:Int}{s:L UInt8}{J:L Vl}{Y:L Ty}{W:L Nd}{t:Ty}(ok:kT t)(h:bE (.mk k n a s J Y W) t=true)(U:eC (.mk k n a s J Y W)=true):s.length+bg Y+aS W+1<=62000:=by
 unfold bE at h;by_cases S:k≠bM t\/cq (.mk k n a s J Y W)=false\/200<s.length
 ·rw[if_pos S]at h;cases h
 rw[if_neg S]at h;have q:cq (.mk k n a s J Y W)=true:=by
  cases hq:cq (.mk k n a s J Y W)with
  |true=>rfl
  |false=>exact absurd (.inr (.inl hq)) S
 have G:s.length<=200:=by omega
 clear S;by_cases T:k=14
 ·subst T;simp only[eC,if_true,aal]at U;have A:=wY (Zo U.1.1);have K:=wv A.1;simp only[bZ,aad]at K;have V:Y.length=2/\a=0/\n=0/\s=[]/\J.length=0:=by simpa[cq]using q
  have C:(cP (aD t 0) (Y.getD 0 kG)&&cP (aD t 1) (Y.getD 1 kG))=true:=by simpa using h
  simp only[aal]at C;have Q:=(fS _ _).1 C.1;have I:=(fS _ _).1 C.2;rcases Y with _|⟨u,_|⟨w,_|⟨z,r⟩⟩⟩
  ·simp at V
  ·simp at V
  ·simp only[aae,aaf]at Q I;have M:=iU ok 0;have H:=iU ok 1;rw[Q]at M;rw[I]at H;simp only[bg];omega
  ·simp at V
 by_cases P:k=8
 ·subst P;have V:Y.length=1/\W.length=0/\s=[]:=by simpa[cq]using q
  have C:br (Y.getD 0 kG)=true:=by
   simp at h;exact h.1.2
  rw[List.length_eq_zero_iff.1 V.2.1];rcases Y with _|⟨u,_|⟨w,r⟩⟩
  ·simp at V
  ·have:=(cG C).2;simp only[aae]at this;simp only[bg,aS];omega
  ·simp at V
 have hq:Y.length=0/\W.length=0:=by
  unfold cq at q;dsimp only at q;by_cases O:k=15
  ·rw[if_pos O]at q;have:=Zo q;exact⟨this.1,this.2.1⟩
  rw[if_neg O,if_neg P,if_neg T]at q;by_cases N:k=6
  ·rw[if_pos N]at q;have:=Zo q;exact⟨this.1,this.2.1⟩
  ·rw[if_neg N]at q;have:=Zo q;exact⟨this.1,this.2.1⟩
 rw[List.length_eq_zero_iff.1 hq.1,List.length_eq_zero_iff.1 hq.2];simp only[bg,aS];omega
mutual
def zg:∀(v:Vl)(t:Ty),kT t->bE v t=true->eC v=true->aO v<=kK v*62000
 |.mk k n a s J Y W,.mk T ts,ok,h,V=>by
  have U:=xK J;have D:=xL J;have H:J.length=0->aK J<=iG J*62000:=λh=>by rw[List.length_eq_zero_iff.1 h];simp[aK]
  have E:=qz ok;have S:=Q7 ok h V;unfold bE at h;by_cases Q:k≠bM (.mk T ts)\/cq (.mk k n a s J Y W)=false\/200<s.length
  ·rw[if_pos Q]at h;cases h
  rw[if_neg Q]at h;have hp:cq (.mk k n a s J Y W)=true:=by
   cases hq:cq (.mk k n a s J Y W)with
   |true=>rfl
   |false=>exact absurd (.inr (.inl hq)) Q
  have hk:k=T:=abf λO=>Q (.inl O);subst hk;clear Q;have d1:∀{p q:Prop}[Decidable (p/\q)],decide (p/\q)=true->q:=λh=>(Zo h).2
  suffices hs:aK J<=iG J*62000 by
   simp only[aO,kK]at S ⊢;omega
  by_cases N:k=14
  ·subst N;have yu:Y.length=2/\a=0/\n=0/\s=[]/\J.length=0:=by simpa[cq]using hp
   exact H yu.2.2.2.2
  have P:eg J=true:=by simpa[eC,N]using V
  replace U:=λt ok h=>U t ok h P;replace D:=λr ok h B=>D r ok h B P;by_cases C:k=1\/k=6
  ·rw[if_pos C]at h;exact H (Zo h).2
  rw[if_neg C]at h;by_cases A:k=2
  ·rw[if_pos A]at h;exact H (Zo h).2.2
  rw[if_neg A]at h;by_cases u:k=3
  ·rw[if_pos u]at h;exact H (Zo h).2.2
  rw[if_neg u]at h;by_cases c4:k=4\/k=5
  ·rw[if_pos c4]at h;exact H (Zo h).2.2
  rw[if_neg c4]at h;by_cases c7:k=7
  ·rw[if_pos c7]at h;exact H (Zo h).2.2
  rw[if_neg c7]at h;by_cases M:k=9
  ·rw[if_pos M,aal]at h;subst M;obtain⟨x,rfl,I⟩:=eN ok cc;exact U x I h.2
  rw[if_neg M]at h;by_cases JK:k=10
  ·rw[if_pos JK,aal]at h;subst JK;obtain⟨x,rfl,I⟩:=eN ok cc;exact U x I h.2
  rw[if_neg JK]at h;by_cases Nz:k=11
  ·rw[if_pos Nz,aal]at h;subst Nz;have z:=E.1;rw[show arity 11=2 from by decide]at z;exact D ts (λx I=>E.2 x I) h.2 P9
  rw[if_neg Nz]at h;by_cases NA:k=12
  ·rw[if_pos NA,aal]at h;subst NA;obtain⟨x,y,rfl,I,K⟩:=eD ok cc;have hn:=Zo h.1;rcases(show n=0\/n=1 by omega)with rfl|rfl
   ·exact U x I h.2
   ·exact U y K h.2
  rw[if_neg NA]at h;by_cases NB:k=13
  ·rw[if_pos NB,aal,aal]at h;subst NB;exact U _ (wS ok cc) h.1.2
  rw[if_neg NB,if_neg N]at h;by_cases G:k=15
  ·rw[if_pos G,aal]at h;subst G;obtain⟨x,rfl,I⟩:=eN ok cc;exact U x I h.2
  rw[if_neg G]at h;by_cases c8:k=8
  ·rw[if_pos c8,aal,aal]at h;exact U _ (cG h.1.2) h.2
  rw[if_neg c8]at h;cases h
def xK:∀(l:L Vl)(t:Ty),kT t->aP l t=true->eg l=true->aK l<=iG l*62000
 |[],_,_,_,_=>by simp[aK]
 |x::l,t,ok,h,V=>by
  simp only[aP,aal]at h;simp only[eg,aal]at V;have e1:=zg x t ok h.1 V.1;have e2:=xK l t ok h.2 V.2;simp only[aK,iG];omega
def xL:∀(l:L Vl)(r:L Ty),(∀x∈r,kT x)->cV l r=true->l.length<=r.length->eg l=true->aK l<=iG l*62000
 |[],_,_,_,_,_=>by simp[aK]
 |x::l,[],_,_,h,_=>by simp at h
 |x::l,t::r,ok,h,B,V=>by
  simp only[cV,aal]at h;simp only[eg,aal]at V;simp only[aac]at B;have e1:=zg x t (ok t ek) h.1 V.1;have e2:=xL l r (λy K=>ok y (by simp[K])) h.2 bn V.2;simp only[aK,iG];omega
end
def N6{v:Vl}{t:Ty}(h:lu t v=true):aO v<=kK v*62000:=by
 unfold lu oA at h;simp only[aal]at h;exact zg v t (cG h.1.1) h.1.2 h.2
def qi(f:gU):CV := .agg [.sl 5 (aG f.code),aE (f.pos:Nat),aE f.fin,.sl 7 (aa f.aside)]
def lR:List gU->L CV
 |[]=>[]
 |f::l=>qi f::lR l
def tP:∀a b:List gU,lR (a++b)=lR a++lR b
 |[],_=>rfl
 |f::a,b=>by simp only[Zy,lR,tP a b]
def tQ:∀l:List gU,(lR l).length=l.length
 |[]=>rfl
 |f::l=>by simp only[lR,aac,tQ l]
def jO:∀a b:L Vl,aa (a++b)=aa a++aa b
 |[],_=>rfl
 |f::a,b=>by simp only[Zy,aa,jO a b]
def sR(l:L Vl):L CV:=aa l.reverse
def fR(l:List gU):L CV:=lR l.reverse
def FI(v:Vl)(l:L Vl):sR (v::l)=sR l++[bO v]:=by simp only[sR,abX,jO];rfl
def AT(f:gU)(l:List gU):fR (f::l)=fR l++[qi f]:=by simp only[fR,abX,tP];rfl
def ig(l:L Vl):(sR l).length=l.length:=by simp only[sR,aB,aaC]
def wz(l:List gU):(fR l).length=l.length:=by simp only[fR,tQ,aaC]
def fQ:∀(l:L Vl),∀r∈aa l,r.cells.length=7
 |[],r,h=>by simp[aa]at h
 |.mk _ _ _ _ _ _ _::l,r,h=>by
  simp only[aa,ZI]at h;rcases h with rfl|h
  ·rfl
  ·exact fQ l r h
def Ab:∀(l:List gU),∀r∈lR l,r.cells.length=4
 |[],r,h=>by simp[lR]at h
 |f::l,r,h=>by
  simp only[lR,ZI]at h;rcases h with rfl|h
  ·rfl
  ·exact Ab l r h
def rU(l:L Vl):(bD (sR l)).length=l.length*7:=by rw[cZ (rows:=sR l) (s:=7) (fQ _),ig]
def AS(l:List gU):(bD (fR l)).length=l.length*4:=by rw[cZ (rows:=fR l) (s:=4) (Ab _),wz]
def mC(S:b9)(a b:Nat):L AV:=[.c (aE S.self),.c (aE S.gv),.c (aE S.gw),.c (aE S.balance),.fZ a 0 7 S.st.length,.fZ b 0 4 S.fr.length,.c (aE S.oC),.c (aE S.used),.c (aE S.bG),
 .c (aE (vK S.said)),.c (aE (vN S.said)),.c (aE (xA S.said)),.c (.str (vS S.said)),.c (.sl 7 (aa (fh S.said))),.c (.sl 2 (au (Kb S.said))),.c (.sl 5 (aG (zH S.said)))]
def Cv(S:b9):MC (mC S):=⟨λρ ts a b Y Q h1 h2=>⟨_,_,Z,.inl Z,_,_,Z,.inl Z,_,_,Z,.inl Z,_,_,Z,.inl Z,_,_,Z,⟨_,h1,Z⟩,_,_,Z,⟨_,h2,Z⟩,_,_,Z,.inl Z,_,_,Z,.inl Z,_,_,Z,.inl Z,
  _,_,Z,.inl Z,_,_,Z,.inl Z,_,_,Z,.inl Z,_,_,Z,.inl Z,_,_,Z,.inl Z,_,_,Z,.inl Z,_,_,Z,.inl Z,Z⟩,λ_ _ _=>rfl,λus a b h1 h2=>by simp only[mC,vq,KB,both,h1,h2]⟩
def JL(S:b9)(_ b:Nat):L AV:=[.c (aE S.self),.c (aE S.gv),.c (aE S.gw),.c (aE S.balance),.c (.sl 7 (sR S.st)),.fZ b 0 4 S.fr.length,.c (aE S.oC),.c (aE S.used),.c (aE S.bG),
 .c (aE (vK S.said)),.c (aE (vN S.said)),.c (aE (xA S.said)),.c (.str (vS S.said)),.c (.sl 7 (aa (fh S.said))),.c (.sl 2 (au (Kb S.said))),.c (.sl 5 (aG (zH S.said)))]
def Cw(S:b9):∀(ρ:Ren)(ts:L (Nat×Nat))(b Q:Nat),ρ.bx b=some Q->eY ρ ts (JL S 0 b) (JL S 0 Q):=λρ ts b Q h2=>⟨_,_,rfl,.inl rfl,_,_,rfl,.inl rfl,_,_,rfl,.inl rfl,_,_,rfl,.inl rfl,_,_,rfl,.inl rfl,_,_,rfl,⟨_,h2,rfl⟩,_,_,rfl,.inl rfl,_,_,rfl,.inl rfl,_,_,rfl,.inl rfl,
  _,_,Z,.inl Z,_,_,Z,.inl Z,_,_,Z,.inl Z,_,_,Z,.inl Z,_,_,Z,.inl Z,_,_,Z,.inl Z,_,_,Z,.inl Z,Z⟩
def Ey(S:b9):∀(us:L Nat)(b:Nat),mem b us=true->vq us (JL S 0 b)=true:=λus b h=>by simp only[JL,vq,KB,both,h]
def Q8(S:b9):MC (JL S):=⟨λρ ts a b Y Q _ h2=>Cw S ρ ts b Q h2,λ_ _ _=>rfl,λus a b _ h2=>Ey S us b h2⟩
def cz(f:FuncId)(S:b9)(J:L AV)(r:CV)(S':b9):Prop :=
 qy f (mI (mC S) (bD (sR S.st)) (bD (fR S.fr))) (.ptr 1000000 0::J) (.c r) (mO (mC S') (bD (sR S'.st)) (bD (fR S'.fr)))
abbrev gR(f:FuncId)(S:b9)(J:L AV)(o:Int×b9):Prop:=cz f S J (aE o.1) o.2
def FY(f:FuncId)(S:b9)(J:L AV)(r:CV)(S':b9):Prop :=
 qy f (ZN (JL S) (bD (fR S.fr))) (.ptr 1000000 0::J) (.c r) (Yz (JL S') (bD (fR S'.fr)))
def Q9{f:FuncId}{n:Nat}{β:je}{K:L Item}(Q:(∃Y,K = .code .ret::Y)\/K=[]){env:Env}{P:Func}(hf:Tryz.prog.funcs[f]?=some P){bs:L (Nat×L AV)}{ts:L (Nat×Nat)}{us:L Nat}{l:L AV}(E:rJ Tryz.X bs env P.results.toList=some l)
  {v:CV}(B:close (AB l)=some v){S':b9}{a b:Nat}{cells G H:L AV}(h1:ak 1000000 bs=some cells)(C:cells=mC S' a b)(h2:ak a bs=some G)(q:G=ag (sR S'.st))(W:ak b bs=some H)(V:H=ag (fR S'.fr))(U:Go.cM.distinct [1000000,a,b]=true){r:CV}(S:v=r) :
  Dj f n β (HR β (.c r) (mO (mC S') (bD (sR S'.st)) (bD (fR S'.fr)))) K env ⟨bs,ts,us⟩:=by
 subst C q V S;refine AK.Cb Q hX hf E [(1000000,1000000),(999991,a),(999992,b)] ?_ (.inr B) ⟨⟨_,_,Z,h1,(Cv S').conv _ _ _ _ _ _ Z Z⟩,⟨_,_,Z,h2,dy _⟩,⟨_,_,Z,W,dy _⟩,trivial⟩;unfold tH;rw[show([(1000000,1000000),(999991,a),(999992,b)]:L (Nat×Nat)).map (·.2)=[1000000,a,b]from Z,U];rfl
def Po{f:FuncId}{n:Nat}{β:je}{K:L Item}{env:Env}{P:Func}(hf:Tryz.prog.funcs[f]?=some P){bs:L (Nat×L AV)}{ts:L (Nat×Nat)}{us:L Nat}{l:L AV}(E:rJ Tryz.X bs env P.results.toList=some l)
  {v:CV}(B:close (AB l)=some v){S':b9}{a b:Nat}{cells G H:L AV}(h1:ak 1000000 bs=some cells)(C:cells=mC S' a b)(h2:ak a bs=some G)(Q:G=ag (sR S'.st))(Y:ak b bs=some H)(V:H=ag (fR S'.fr))(W:Go.cM.distinct [1000000,a,b]=true){r:CV}(S:v=r) :
  Dj f n β (HR β (.c r) (mO (mC S') (bD (sR S'.st)) (bD (fR S'.fr)))) (.code .ret::K) env ⟨bs,ts,us⟩ :=
 Q9 (.inl ⟨_,Z⟩) hf E B h1 C h2 Q Y V W S
def UG{f:FuncId}{n:Nat}{β:je}{env:Env}{P:Func}(hf:Tryz.prog.funcs[f]?=some P){bs:L (Nat×L AV)}{ts:L (Nat×Nat)}{us:L Nat}{l:L AV}(E:rJ Tryz.X bs env P.results.toList=some l)
  {v:CV}(B:close (AB l)=some v){S':b9}{a b:Nat}{cells G H:L AV}(h1:ak 1000000 bs=some cells)(C:cells=mC S' a b)(h2:ak a bs=some G)(Q:G=ag (sR S'.st))(K:ak b bs=some H)(V:H=ag (fR S'.fr))(Y:Go.cM.distinct [1000000,a,b]=true){r:CV}(S:v=r) :
  Dj f n β (HR β (.c r) (mO (mC S') (bD (sR S'.st)) (bD (fR S'.fr)))) [] env ⟨bs,ts,us⟩ :=
 Q9 (.inr Z) hf E B h1 C h2 Q K V Y S
def XJ{f:FuncId}{n:Nat}{β:je}{env:Env}{P:Func}(hf:Tryz.prog.funcs[f]?=some P){bs:L (Nat×L AV)}{ts:L (Nat×Nat)}{us:L Nat}{l:L AV}(E:rJ Tryz.X bs env P.results.toList=some l)
  {v:CV}(B:close (AB l)=some v){S':b9}{b:Nat}{cells H:L AV}(h1:ak 1000000 bs=some cells)(C:cells=JL S' 0 b)(K:ak b bs=some H)(V:H=ag (fR S'.fr))(Y:Go.cM.distinct [1000000,b]=true){r:CV}(S:v=r) :
  Dj f n β (HR β (.c r) (Yz (JL S') (bD (fR S'.fr)))) [] env ⟨bs,ts,us⟩:=by
 subst C V S;refine AK.Cb (.inr Z) hX hf E [(1000000,1000000),(999992,b)] ?_ (.inr B) ⟨⟨_,_,Z,h1,Cw S' _ _ _ _ Z⟩,⟨_,_,Z,K,dy _⟩,trivial⟩;unfold tH;rw[show([(1000000,1000000),(999992,b)]:L (Nat×Nat)).map (·.2)=[1000000,b]from Z,Y];rfl
def uM{ops:Array Oper}{o:Oper}{rest:L Oper}{env:Env}{acc:L Fp}{Q:Env->St->L Fp->Prop}{bs:L (Nat×L AV)}{ts:L (Nat×Nat)}{us:L Nat}(p:cS ops.toList kn env o=some true){f:FuncId}{args:Array Operand}{H:Array TypeId}(P:o.op = .call {callee := .value (.func f),args:=args,argTypes:=H})
  {S S':b9}{G:L AV}{r:CV}(hq:cz f S G r S'){d:Nat}(O:o.dst=some d)
  {l:L AV}(B:gk (aJ Tryz.X env) args.toList=some l){Y:Nat}{V:L AV}(W:l = .ptr Y 0::V){E q:Nat}{J T U:L AV}(h1:ak Y bs=some J)(C:J=mC S E q)(h2:ak E bs=some T)(N:T=ag (sR S.st))(K:ak q bs=some U)(M:U=ag (fR S.fr))
  (I:∀ts,eY ⟨λk=>ak k [(1000000,Y),(1000001,E),(1000002,q)],λ_=>none⟩ ts G V)(D:tI us Y E q (100000+d) (200000+d)=true)
  {bs':L (Nat×L AV)}(A:kV [Y,E,q] bs=bs')
  (k:nD ops rest ((d,.c r)::env) ⟨(Y,mC S' (100000+d) (200000+d))::(100000+d,ag (sR S'.st))::(200000+d,ag (fR S'.fr))::bs',ts,Y::(100000+d)::(200000+d)::us⟩ (⟨[],[Y,E,q,Y,100000+d,200000+d,Y,100000+d,200000+d]⟩::acc) Q):nD ops (o::rest) env ⟨bs,ts,us⟩ acc Q:=by
 subst W;exact ah.Xn kn p P hq (Cv S) (Cv S') O B Z h1 C h2 N K M (λts=>⟨_,_,Z,⟨_,gp,Z⟩,I ts⟩) D Z Z A k
def uM1{ops:Array Oper}{o:Oper}{rest:L Oper}{env:Env}{acc:L Fp}{Q:Env->St->L Fp->Prop}{bs:L (Nat×L AV)}{ts:L (Nat×Nat)}{us:L Nat}(p:cS ops.toList kn env o=some true){f:FuncId}{args:Array Operand}{H:Array TypeId}(T:o.op = .call {callee := .value (.func f),args:=args,argTypes:=H})
  {S S':b9}{G:L AV}{r:CV}(hq:FY f S G r S'){d:Nat}(P:o.dst=some d)
  {l:L AV}(B:gk (aJ Tryz.X env) args.toList=some l){Y:Nat}{V:L AV}(W:l = .ptr Y 0::V){q:Nat}{J U:L AV}(h1:ak Y bs=some J)(C:J=JL S 0 q)(K:ak q bs=some U)(O:U=ag (fR S.fr))
  (N:∀ts,eY ⟨λk=>ak k [(1000000,Y),(1000002,q)],λ_=>none⟩ ts G V)(M:uT us Y q (200000+d)=true)
  {bs':L (Nat×L AV)}(I:kV [Y,q] bs=bs')
  (k:nD ops rest ((d,.c r)::env) ⟨(Y,JL S' 0 (200000+d))::(200000+d,ag (fR S'.fr))::bs',ts,Y::(200000+d)::us⟩ (⟨[],[Y,q,Y,200000+d,Y,200000+d]⟩::acc) Q):nD ops (o::rest) env ⟨bs,ts,us⟩ acc Q:=by
 subst W;exact ah.Vm kn p T hq (Q8 S) (Q8 S') (Cw S) (Ey S') (λ_ _=>rfl) P B Z h1 C K O (λts=>⟨_,_,Z,⟨_,gp,Z⟩,N ts⟩) M Z Z I k
def ZT{ρ:Ren}{ts:L (Nat×Nat)}{v:CV}{a:AV}{l m:L AV}(h:close a=some v)(C:eY ρ ts l m):eY ρ ts (.c v::l) (a::m):=⟨_,_,Z,.inr h,C⟩
def ZU{ρ:Ren}{ts:L (Nat×Nat)}{k k' o:Nat}{l m:L AV}(h:ρ.bx k=some k')(C:eY ρ ts l m):eY ρ ts (.ptr k o::l) (.ptr k' o::m):=⟨_,_,Z,⟨_,h,Z⟩,C⟩
def Vp{ops:Array Oper}{o:Oper}{rest:L Oper}{env:Env}{acc:L Fp}{Q:Env->St->L Fp->Prop}{bs:L (Nat×L AV)}{ts:L (Nat×Nat)}{us:L Nat}{f:FuncId}{args:Array Operand}{H:Array TypeId}{S S':b9}{G:L AV}{r:CV}{d:Nat}{l:L AV}{Y:Nat}{V:L AV}{q:Nat}{J U:L AV}{bs':L (Nat×L AV)}(k:nD ops rest ((d,.c r)::env) ⟨(Y,JL S' 0 (200000+d))::(200000+d,ag (fR S'.fr))::bs',ts,Y::(200000+d)::us⟩ (⟨[],[Y,q,Y,200000+d,Y,200000+d]⟩::acc) Q)(p:cS ops.toList kn env o=some true:=by exact rfl)(T:o.op = .call {callee := .value (.func f),args:=args,argTypes:=H}:=by exact rfl)(hq:FY f S G r S':=by assumption)(P:o.dst=some d:=by exact rfl)(B:gk (aJ Tryz.X env) args.toList=some l:=by exact rfl)(W:l = .ptr Y 0::V:=by exact rfl)(h1:ak Y bs=some J:=by exact rfl)(C:J=JL S 0 q:=by exact rfl)(K:ak q bs=some U:=by exact rfl)(O:U=ag (fR S.fr):=by exact rfl)(N:∀ts,eY ⟨λk=>ak k [(1000000,Y),(1000002,q)],λ_=>none⟩ ts G V:=by intro _;repeat' (first|exact rfl|refine ZT rfl ?_|refine ZU rfl ?_))(M:uT us Y q (200000+d)=true:=by exact rfl)(I:kV [Y,q] bs=bs':=by exact rfl): nD ops (o::rest) env ⟨bs,ts,us⟩ acc Q:=uM1 p T hq P B W h1 C K O N M I k
def Ra:Nat->L AV->Env
 |_,[]=>[]
 |i,c::l=>(i,c)::Ra (i+1) l
def Ml:∀(i:Nat)(l:L AV),Ra i l=((l.zipIdx i).map λ(v,i)=>(i,v))
 |_,[]=>rfl
 |i,c::l=>by simp only[Ra,abi,Zl,Ml (i+1) l]
def mn{f:FuncId}{P:Func}{c:Code}{S S':b9}{J:L AV}{r:CV}{env:Env}(hf:Tryz.prog.funcs[f]?=some P)(T:Enters Tryz.prog f)(k:∀β,Tryz.prog.funcs[f]?=some P->Dj f P.ntmps β (HR β (.c r) (mO (mC S') (bD (sR S'.st)) (bD (fR S'.fr)))) [.code c] env ⟨[(1000000,mC S 1000001 1000002),(1000001,ag (sR S.st)),(1000002,ag (fR S.fr))],[],[1000000,1000001,1000002]⟩)(A:P.body=some c:=by exact rfl)(E:(AV.ptr 1000000 0::J).length<=P.ntmps:=by exact ZD rfl)(W:Ra 0 (AV.ptr 1000000 0::J)=env:=by simp only[Ra];try exact rfl):cz f S J r S':=dM.of hf A T E env _ (by rw[<- W,Ml]) rfl λβ=>k β hf
def dm{p:Prop}(h:p:=by(repeat' (first|refine st ?_|(refine AK.zB Z (λh=>?_) (λh=>?_)<;>first|(cases h;done)|rw[h]|skip)|refine AK.oh Z ?_ ?_|refine uC Z (by assumption) ?_|refine uI Z _ Z (by assumption) Z ?_|refine uI Z 0 Z (by assumption) Z ?_|refine uI Z 1 Z (by assumption) Z ?_|refine uI Z 0 Z Z Z ?_|refine uI Z 1 Z Z Z ?_|refine uI Z 2 Z Z Z ?_|refine uI Z 3 Z Z Z ?_|refine rT ?_|refine Vp ?_|(first|refine ah.quo hX kn Z Z Z Z Z Z Z ((by decide)) ?_|refine ah.rem hX kn Z Z Z Z Z Z Z ((by decide)) ?_)|(refine uA Z ?_ ?_<;>(try (show(_:Nat)*_<=_;dsimp only)))|refine ah.toStr hX kn Z Z Z Z Z Z Z Z Z Z Z (by first|exact Z|exact vt _) Z ?_|((first|refine ah.oq Z Z Z Di (λh=>?_)|refine ah.ou Z Z Z Di (λh=>?_)|refine ah.split Z Z Z (λh=>?_) (λh=>?_))<;>(fail_if_success (cases h;done))<;>rw[h])|refine Po hf Z Z Z Z Z Z Z Z Z ?_|refine UG hf Z Z Z Z Z Z Z Z Z ?_))<;>rfl):p:=h
def YC{p q:Prop}(k:q)(h:q->p:=by intro k;(repeat' (first|refine st ?_|(refine AK.zB Z (λh=>?_) (λh=>?_)<;>first|(cases h;done)|rw[h]|skip)|refine AK.oh Z ?_ ?_|refine uC Z (by assumption) ?_|refine uI Z _ Z (by assumption) Z ?_|refine uI Z 0 Z (by assumption) Z ?_|refine uI Z 1 Z (by assumption) Z ?_|refine uI Z 0 Z Z Z ?_|refine uI Z 1 Z Z Z ?_|refine uI Z 2 Z Z Z ?_|refine uI Z 3 Z Z Z ?_|refine rT ?_|refine Vp ?_|(first|refine ah.quo hX kn Z Z Z Z Z Z Z ((by decide)) ?_|refine ah.rem hX kn Z Z Z Z Z Z Z ((by decide)) ?_)|(refine uA Z ?_ ?_<;>(try (show(_:Nat)*_<=_;dsimp only)))|refine ah.toStr hX kn Z Z Z Z Z Z Z Z Z Z Z (by first|exact Z|exact vt _) Z ?_|((first|refine ah.oq Z Z Z Di (λh=>?_)|refine ah.ou Z Z Z Di (λh=>?_)|refine ah.split Z Z Z (λh=>?_) (λh=>?_))<;>(fail_if_success (cases h;done))<;>rw[h])|refine Po hf Z Z Z Z Z Z Z Z Z ?_|refine UG hf Z Z Z Z Z Z Z Z Z ?_))<;>first|exact Z|exact k):p:=h k
def rT{ops:Array Oper}{o:Oper}{rest:L Oper}{env:Env}{acc:L Fp}{Q:Env->St->L Fp->Prop}{bs:L (Nat×L AV)}{ts:L (Nat×Nat)}{us:L Nat}{f:FuncId}{args:Array Operand}{H:Array TypeId}{S S':b9}{G:L AV}{r:CV}{d:Nat}{l:L AV}{Y:Nat}{V:L AV}{E q:Nat}{J T U:L AV}{bs':L (Nat×L AV)}(k:nD ops rest ((d,.c r)::env) ⟨(Y,mC S' (100000+d) (200000+d))::(100000+d,ag (sR S'.st))::(200000+d,ag (fR S'.fr))::bs',ts,Y::(100000+d)::(200000+d)::us⟩ (⟨[],[Y,E,q,Y,100000+d,200000+d,Y,100000+d,200000+d]⟩::acc) Q)(p:cS ops.toList kn env o=some true:=by exact rfl)(P:o.op = .call {callee := .value (.func f),args:=args,argTypes:=H}:=by exact rfl)(hq:cz f S G r S':=by assumption)(O:o.dst=some d:=by exact rfl)(B:gk (aJ Tryz.X env) args.toList=some l:=by exact rfl)(W:l = .ptr Y 0::V:=by exact rfl)(h1:ak Y bs=some J:=by exact rfl)(C:J=mC S E q:=by exact rfl)(h2:ak E bs=some T:=by exact rfl)(N:T=ag (sR S.st):=by exact rfl)(K:ak q bs=some U:=by exact rfl)(M:U=ag (fR S.fr):=by exact rfl)(I:∀ts,eY ⟨λk=>ak k [(1000000,Y),(1000001,E),(1000002,q)],λ_=>none⟩ ts G V:=by intro _;repeat' (first|exact rfl|refine ZT rfl ?_|refine ZU rfl ?_))(D:tI us Y E q (100000+d) (200000+d)=true:=by exact rfl)(A:kV [Y,E,q] bs=bs':=by exact rfl): nD ops (o::rest) env ⟨bs,ts,us⟩ acc Q:=uM p P hq O B W h1 C h2 N K M I D A k
def FZ(k n a:Int)(s:L UInt8)(J:L Vl)(Y:L Ty)(W:L Nd)(t:L Vl):fX (0+t.length*7) (ag (sR (.mk k n a s J Y W::t))) =
  some [.c (aE k),.c (aE n),.c (aE a),.c (.str s),.c (.sl 7 (aa J)),.c (.sl 2 (au Y)),.c (.sl 5 (aG W))]:=by
 rw[FI,ag,dr,aan,ZG,<- rU,<- aap (f:=AV.c),uL];rfl
def wA(f:gU)(t:List gU):fX (0+t.length*4) (ag (fR (f::t)))=some [.c (.sl 5 (aG f.code)),.c (aE (f.pos:Nat)),.c (aE f.fin),.c (.sl 7 (aa f.aside))]:=by
 rw[AT,ag,dr,aan,ZG,<- AS,<- aap (f:=AV.c),uL];rfl
def Cx(v:Vl)(t:L Vl):ag (sR (v::t))=ag (sR t)++ag [bO v]:=by rw[FI,ag,dr,aan]
def kN(f:gU)(t:List gU):ag (fR (f::t))=ag (fR t)++ag [qi f]:=by rw[AT,ag,dr,aan]
def KN(k n a:Int)(s:L UInt8)(J:L Vl)(Y:L Ty)(W:L Nd)(t:L Vl)(z:CV)(K:z.cells.length=7):dI (0+t.length*7) [.c (aE k),.c (aE n),.c (aE a),.c (.str s),.c (.sl 7 (aa J)),.c (.sl 2 (au Y)),.c (.sl 5 (aG W))] (ag (sR t++[z])) =
  some (ag (sR (.mk k n a s J Y W::t))):=by
 rw[Cx,ag,dr,aan,ZG,<- rU,<- aap (f:=AV.c)];have M:∀(p x y:L AV),x.length=y.length->dI p.length x (p++y)=some (p++x):=by
  intro p x y h
  induction p with
  |nil=>exact zW x y h
  |cons q p O =>
   cases x with
   |nil=>cases y with
    |nil=>simp only[aac,Zy,dI]
    |cons _ _=>simp at h
   |cons S x=>simp only[aac,Zy,dI,O]
 exact M _ _ _ (by simp only[bD,Zc,aap,K];rfl)
def F0(us:L Nat):∀l:L CV,xh us (l.map AV.c)=true
 |[]=>rfl
 |c::l=>by simp only[Zl,xh,Qi];exact F0 us l
def Mm{us:L Nat}{k:Nat}{a:L AV}{l:L (Nat×L AV)}(h1:mem k us=true)(h2:xh us a=true)(K:okB us l=true):okB us ((k,a)::l)=true:=by
 simp only[okB,h1,h2];exact K
def Vx(S:b9){us:L Nat}{a b:Nat}(h1:mem a us=true)(h2:mem b us=true):xh us (mC S a b)=true:=by simp only[mC,xh,Qi,h1,h2]
def Vy(S:b9){us:L Nat}{Q a b:Nat}(p:mem Q us=true)(h1:mem a us=true)(h2:mem b us=true):okB us [(Q,mC S a b),(a,ag (sR S.st)),(b,ag (fR S.fr))]=true :=
 Mm p (Vx S h1 h2) (Mm h1 (F0 _ _) (Mm h2 (F0 _ _) Z))
def Ud{S:b9}{bx:L (Nat×Nat)}{tk:L (Nat×(Nat×Option Nat))}{ts:L (Nat×Nat)}{bs:L (Nat×L AV)}{V a b Y W Q:Nat}{J G H:L AV}(p:ak V bx=some Y)(h1:ak a bx=some W)(h2:ak b bx=some Q)(U:ak Y bs=some J)(E:J=mC S W Q)(C:ak W bs=some G)(q1:G=ag (sR S.st))(q:ak Q bs=some H)(N:H=ag (fR S.fr)) :
  Eg ⟨λk=>ak k bx,λk=>ak k tk⟩ ts bs [(V,mC S a b),(a,ag (sR S.st)),(b,ag (fR S.fr))]:=by
 subst E q1 N;exact⟨⟨_,_,p,U,(Cv S).conv _ _ _ _ _ _ h1 h2⟩,⟨_,_,h1,C,dy _⟩,⟨_,_,h2,q,dy _⟩,trivial⟩
attribute [local irreducible] AK ah aZ cx dM
def Vz(S:b9)(h:S.oC<=S.used):cz 108 S [] (aE 12) S:=by
 have A:decide (S.used>=S.oC)=true:=aaw h;refine mn func108 call108 λβ hf=>?_;exact dm
def VA(S:b9)(h:S.used<S.oC)(h1:Mh S.oC)(h2:0<=S.used):cz 108 S [] (aE 0) {S with used:=S.used+1}:=by
 have A:decide (S.used>=S.oC)=false:=aax bn;have J:i64.wrap (S.used+1)=S.used+1:=gF bn (by have:=h1.2;omega);refine mn func108 call108 λβ hf=>?_
 repeat' (first|refine me ?_|refine zc ?_ ?_|(intro h;first|(cases h;done)|rw[h]|skip))
 rw[J];exact Po hf Z Z Z Z Z Z Z Z Z Z
def Tb(S:b9)(h:S.st=[]):cz 131 S [] (.gb [bO nE,.bool false]) S:=by
 obtain⟨a,b,c,d,st,H,g,u,m,G⟩:=S;simp only at h;subst h;have A:decide (i64.wrap (((([]:L Vl).length:Nat):Int)-1)<0)=true:=by decide
 refine mn func131 call131 λβ hf=>?_;exact dm
def Rb(S:b9)(v:Vl)(t:L Vl)(h:S.st=v::t)(B:t.length<=1099511627776):cz 131 S [] (.gb [bO v,.bool true]) {S with st:=t}:=by
 obtain⟨a,b,c,d,st,H,g,u,m,G⟩:=S;simp only at h;subst h;have D:i64.wrap ((((v::t).length:Nat):Int)-1)=(t.length:Nat):=by
  rw[gF fc fc];simp only[aac];omega
 have A:decide (i64.wrap ((((v::t).length:Nat):Int)-1)<0)=false:=by rw[D];exact aax bn
 obtain⟨k,n,V,s,J,Y,W⟩:=v;have U:=FZ k n V s J Y W t;refine mn func131 call131 λβ hf=>?_
 repeat' (first|refine me ?_|refine zc ?_ ?_|(intro h;first|(cases h;done)|rw[h]|skip)|refine ah.iF hX kn Z Z Z Z Z Z Z Z Z t.length D (ZX _) ?_|refine ah.gh hX kn Z Z Z Z Z Z U Z ?_|refine ah.AQ hX kn Z Z Z Z Z Z Z Z Z Z Z Z t.length D (abG _) ?_)
 refine AK.tJ 1000001 (ag (sR t)) _ Z (Cx _ _) Z ?_;exact Po hf Z Z Z Z Z Z Z Z Z Z
def tK(S:b9)(W:L Nd)(fin:Int)(p:L Vl)(B:S.fr.length<=1099511627776):cz 107 S [.c (.sl 5 (aG W)),.c (aE fin),.c (.sl 7 (aa p))] .undef {S with fr:=⟨W,0,fin,p⟩::S.fr}:=by
 refine mn func107 call107 λβ hf=>?_
 repeat' (first|refine me ?_|refine ah.lQ hX kn Z Z Z Z Z Z Z Z Z Z Z Z Z Z Z (fR S.fr) [] (Zc _).symm (wz _).symm (AS _) Z Z Z Z Z Z Z (show((fR S.fr).length+1)*64<=_ by rw[wz];omega) (AT ⟨W,0,fin,p⟩ S.fr).symm (wz _) Z ?_|(refine uA Z ?_ ?_<;>(try (show(_:Nat)*_<=_;dsimp only))))
 all_goals rfl
def FM(S:b9)(W:L Nd)(fin:Int)(p:L Vl)(B:S.fr.length<=1099511627776):FY 107 S [.c (.sl 5 (aG W)),.c (aE fin),.c (.sl 7 (aa p))] .undef {S with fr:=⟨W,0,fin,p⟩::S.fr}:=by
 refine dM.of func107 Z (λJ w=>call107 J w) (ZD Z) [(0,.ptr 1000000 0),(1,.c (.sl 5 (aG W))),(2,.c (aE fin)),(3,.c (.sl 7 (aa p)))] ⟨[(1000000,JL (S) 0 1000002),(1000002,ag (fR (S).fr))],[],[1000000,1000002]⟩ Z Z λβ=>?_;have hf:=func107
 repeat' (first|refine me ?_|refine ah.lQ hX kn Z Z Z Z Z Z Z Z Z Z Z Z Z Z Z (fR S.fr) [] (Zc _).symm (wz _).symm (AS _) Z Z Z Z Z Z Z (show((fR S.fr).length+1)*64<=_ by rw[wz];omega) (AT ⟨W,0,fin,p⟩ S.fr).symm (wz _) Z ?_|(refine uA Z ?_ ?_<;>(try (show(_:Nat)*_<=_;dsimp only))))
 exact XJ hf Z Z Z Z Z Z Z Z
end Go.Proofs
namespace Go.Proofs
open Go.cM
attribute [local irreducible] AK ah aZ cx dM
def KV(S:b9)(n:Nat)(M:n<=3)(B:S.st.length<=1099511627776):cz 132 S [.c (aE (n:Nat))] (match kJ n S.st with|some (l,_) => .gb [.sl 7 (aa l),.bool true]|none => .gb [.sl 0 [],.bool false]) {S with st:=match kJ n S.st with|some (_,r)=>r|none=>[]}:=by
 generalize V:kJ n S.st=res;refine mn func132 call132 λβ hf=>?_;refine YC ?_;refine AK.fL [(1000000,1000000),(3001,1000001),(3002,1000002)] [(3006,(0,none))] (env':=[(0,.ptr 1000000 0),(9,.c (aE (n:Nat))),(10,.c (aE (([]:L Vl).length:Nat))),(6,.own (.tok 3006 0) 7 (aa []))])
  (bs':=[(1000000,mC {S with st:=S.st} 3001 3002),(3001,ag (sR S.st)),(3002,ag (fR S.fr))]) (ts':=[(3006,0)]) (us':=[1000000,3001,3002,3006])
  ce  (Ud Z Z Z Z Z Z Z Z Z) Z ?_
 refine AK.eX (α:=L Vl×L Vl) (λz=>res=(kJ (n-z.1.length) z.2).map (λq=>(z.1++q.1,q.2))/\z.1.length<=n/\z.2.length<=1099511627776) (λz=>n-z.1.length)
  (λz=>[(0,.ptr 1000000 0),(9,.c (aE (n:Nat))),(10,.c (aE (z.1.length:Nat))),(6,.own (.tok 3006 0) 7 (aa z.1))])
  (λz=>[(1000000,mC {S with st:=z.2} 3001 3002),(3001,ag (sR z.2)),(3002,ag (fR S.fr))]) (λ_=>[(3006,0)]) [1000000,3001,3002,3006] ([],S.st)
  ⟨by rw[<- V];simp only[aad,acu,aaV];cases kJ n S.st<;>rfl,aaF _,B⟩ ⟨.inl rfl,.inl rfl,.inl rfl,.inl rfl,trivial⟩ ⟨rfl,rfl,rfl,trivial⟩ ⟨rfl,trivial⟩ rfl (Vy {S with st:=S.st} rfl rfl rfl) rfl ?_
 rintro⟨l,s⟩ ⟨h1,h2,K⟩ ih;simp only at h1 h2 K;by_cases u:l.length=n
 ·have A:decide (((l.length:Nat):Int)<((n:Nat):Int))=false:=aax bn;have E:res=some (l,s):=by rw[h1,u,Nat.sub_self];simp[kJ]
  rw[E];clear ih;exact dm
 ·have A:decide (((l.length:Nat):Int)<((n:Nat):Int))=true:=aaw bn;obtain⟨m,T⟩:∃m,n-l.length=m+1:=⟨n-l.length-1,bn⟩
  cases s with
  |nil =>
   have E:res=none:=by rw[h1,T];simp[kJ]
   rw[E];clear ih;have I:=Tb {S with st:=[]} rfl;exact dm
  |cons v t =>
   simp only[aac]at K;have D:i64.wrap (((l.length:Nat):Int)+1)=((l++[v]).length:Nat):=by
    rw[gF bn bn];simp only[aay,aac,aad];omega
   have E:res=(kJ (n-(l++[v]).length) t).map (λq=>(l++[v]++q.1,q.2)):=by
    rw[h1,T,show n-(l++[v]).length=m from by simp only[aay,aac,aad];omega];simp only[kJ];cases kJ m t<;>simp
   have Q:(l++[v]).length<=n:=by simp only[aay,aac,aad];omega
   have N:aa l++[bO v]=aa (l++[v]):=(jO l [v]).symm;have G:=aB l;obtain⟨k,P,U,O,J,Y,W⟩:=v
   repeat' (first|refine me ?_|refine zc ?_ ?_|(intro h;first|(cases h;done)|rw[h]|skip)|refine rT ?_ (hq:=Rb {S with st := .mk k P U O J Y W::t} _ _ rfl bn)|(refine uA rfl ?_ ?_<;>(try (show(_:Nat)*_<=_;dsimp only))))
   ·show(_:Nat)<=_;simp only[aac,aad];omega
   ·refine AK.fL [(1000000,1000000),(3001,100014),(3002,200014)] [(3006,(0,some 3006))] (env':=[(0,.ptr 1000000 0),(9,.c (aE (n:Nat))),(10,.c (aE ((l++[Vl.mk k P U O J Y W]).length:Nat))),(6,.own (.tok 3006 0) 7 (aa (l++[Vl.mk k P U O J Y W])))])
     (bs':=[(1000000,mC {S with st:=t} 3001 3002),(3001,ag (sR t)),(3002,ag (fR S.fr))]) (ts':=[(3006,0)]) (us':=[1000000,3001,3002,3006])
     ⟨⟨_,Z,⟨_,Z,Z⟩⟩,⟨_,Z,.inl Z⟩,⟨_,Z,.inl (Zb (λz=>AV.c (.int .i64 z)) D)⟩,⟨_,Z,⟨_,Z,.inr ⟨_,_,Z,Z,by rw[<- N];rfl⟩⟩⟩,trivial⟩ (Ud Z Z Z Z Z Z Z Z Z) Z ?_
    exact ih (l++[Vl.mk k P U O J Y W],t) ⟨E,Q,by show t.length<=_;omega⟩ (by show n-(l++[_]).length<n-l.length;simp only[aay,aac,aad];omega)
end Go.Proofs
namespace Go.Proofs
open Go.cM
def Ez{l:L Vl}{i:Nat}{v:Vl}(h:l[i]?=some v):l.drop i=v::l.drop (i+1):=by
 obtain⟨h1,h2⟩:=List.getElem?_eq_some_iff.1 h;rw[aby h1,h2]
attribute [local irreducible] AK ah aZ cx dM kK
def oW(S:b9)(l:L Vl)(I:∀v∈l,aO v<=8589934593)(wK:l.length<=1000)(hl:S.st.length+l.length<=549755813888):cz 152 S [.c (.sl 7 (aa l))] (aE (mB l S.st).1) {S with st:=(mB l S.st).2}:=by
 generalize U:mB l S.st=res;have N:=aB l;refine mn func152 call152 λβ hf=>?_;refine YC ?_;refine AK.fL [(1000000,1000000),(3001,1000001),(3002,1000002)] [] (env':=[(0,.ptr 1000000 0),(7,.c (.sl 7 (aa l))),(8,.c (aE ((aa l).length:Nat))),(9,.c (aE (0:Nat)))])
  (bs':=[(1000000,mC {S with st:=S.st} 3001 3002),(3001,ag (sR S.st)),(3002,ag (fR S.fr))]) (ts':=[]) (us':=[1000000,3001,3002])
  ce  (Ud Z Z Z Z Z Z Z Z Z) Z ?_
 refine AK.eX (α:=Nat×L Vl) (λz=>res=mB (l.drop z.1) z.2/\z.1<=l.length/\z.2.length=S.st.length+z.1) (λz=>l.length-z.1)
  (λz=>[(0,.ptr 1000000 0),(7,.c (.sl 7 (aa l))),(8,.c (aE ((aa l).length:Nat))),(9,.c (aE (z.1:Nat)))])
  (λz=>[(1000000,mC {S with st:=z.2} 3001 3002),(3001,ag (sR z.2)),(3002,ag (fR S.fr))]) (λ_=>[]) [1000000,3001,3002] (0,S.st)
  ⟨by rw[<- U];rfl,aaF _,rfl⟩ ce ⟨rfl,rfl,rfl,trivial⟩ trivial rfl (Vy {S with st:=S.st} rfl rfl rfl) rfl ?_
 rintro⟨i,s⟩ ⟨h1,h2,H⟩ ih;simp only at h1 h2 H;by_cases G:i=l.length
 ·have A:decide (((i:Nat):Int)<(((aa l).length:Nat):Int))=false:=aax bn;have E:res=(0,s):=by rw[h1,G,Zx];rfl
  rw[E];clear ih;exact dm
 ·have A:decide (((i:Nat):Int)<(((aa l).length:Nat):Int))=true:=aaw bn;have T:i<l.length:=by omega
  obtain⟨v,B⟩:∃v,l[i]?=some v:=⟨_,Zn T⟩
  have u:=aaA B;have C:=I v u;have M:=Ez B;have q:(aa l)[i]?=some (bO v):=by rw[ja,B];rfl
  obtain⟨k,P,V,O,J,Y,W⟩:=v;have D:=Cy _ C;by_cases K:kK (.mk k P V O J Y W)>200
  ·have p:decide (((kK (.mk k P V O J Y W):Nat):Int)>200)=true:=aaw bn;have E:res=(13,s):=by rw[h1,M];simp only[mB,K,if_true]
   rw[E];clear ih;exact dm
  ·have p:decide (((kK (.mk k P V O J Y W):Nat):Int)>200)=false:=aax bn;have E:res=mB (l.drop (i+1)) (.mk k P V O J Y W::s):=by rw[h1,M];simp only[mB,K,abg]
   have hw:i64.wrap (((i:Nat):Int)+1)=((i+1:Nat):Int):=by rw[gF bn bn];omega
   have Q:=KN k P V O J Y W s
   repeat' (first|refine me ?_|refine zc ?_ ?_|(intro h;first|(cases h;done)|rw[h]|skip)|refine uI Z (i) Z (q) Z ?_|refine uC Z D ?_|refine ah.lQ hX kn Z Z Z Z Z Z Z Z Z Z Z Z Z Z Z (sR s) [] (Zc _).symm (ig _).symm (rU _) Z Z Z Z Z Z Z (show((sR s).length+1)*112<=_ by rw[ig];omega) Z (m:=s.length+1) (by rw[aay,ig];rfl) Z ?_|refine ah.iF hX kn Z Z Z Z Z Z Z Z Z s.length Z (ZX _) ?_|refine ah.store hX kn Z Z Z Z Z Z Z Z Z (Q _ Z) Z ?_|(refine uA Z ?_ ?_<;>(try (show(_:Nat)*_<=_;dsimp only))))
   refine AK.fL [(1000000,1000000),(3001,23),(3002,3002)] [] (env':=[(0,.ptr 1000000 0),(7,.c (.sl 7 (aa l))),(8,.c (aE ((aa l).length:Nat))),(9,.c (aE ((i+1:Nat):Int)))])
    (bs':=[(1000000,mC {S with st := .mk k P V O J Y W::s} 3001 3002),(3001,ag (sR (.mk k P V O J Y W::s))),(3002,ag (fR S.fr))]) (ts':=[]) (us':=[1000000,3001,3002])
    ⟨⟨_,Z,⟨_,Z,Z⟩⟩,⟨_,Z,.inl Z⟩,⟨_,Z,.inl Z⟩,⟨_,Z,.inl (Zb (λz=>AV.c (.int .i64 z)) hw)⟩,trivial⟩ (Ud Z Z Z Z Z Z Z Z Z) Z ?_
   exact ih (i+1,.mk k P V O J Y W::s) ⟨E,T,by show(_::s).length=_;simp only[aac];omega⟩ HE
end Go.Proofs
