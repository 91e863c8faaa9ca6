/- Package run: -/
import Derived.Test.YtdnpapgijbhofaaGreatDoorKind5Rt
import Derived.Test.YtdnpapgijbhofaaGreatDoorFitsRt
import Derived.Test.YtdnpapgijbhofaaGreatDoorCtxRt
import Derived.Test.YtdnpapgijbhofaaGreatDoorVal2Rt
open Go.IntKind
open Go.Proofs.Tryz
set_option linter.defProp false
set_option maxHeartbeats 0
set_option linter.unusedVariables false
set_option linter.unusedSimpArgs false
set_option maxRecDepth 100000
namespace Go.Proofs
open Go.cB
mutual
def DC:∀(t:Nd)(d:Int),eC t d=0->bR t<=many t*201
 |.mk u n p s args,d,h=>by obtain⟨h1,h2⟩:=jr h;have U:=(lR h1).2.2.2.2.2.2.2.2;have P:=Bj args _ h2;simp only[bR,many];omega
def Bj:∀(l:L Nd)(d:Int),cS l d=0->aM l<=cz l*201
 |[],_,_=>by simp[aM]
 |x::l,d,h=>by simp only[cS]at h;by_cases S:eC x d=0;rw[if_pos S]at h;have h1:=DC x d S;have h2:=Bj l d h;simp only[aM,cz];omega;omega
end
def xG{n:Nd}(h:dD n=0):bR n<=60300:=by obtain⟨h1,h2⟩:=jV.1 h;have:=DC n 1 h1;omega
def jg{t:Ty}(ok:lE t)(i:Nat):bp (aG t i)<=300:=by
 obtain⟨T,ts⟩:=t;have h2:=ok.2;simp only[bp]at h2;show bp (ts.getD i iY)<=300;rw[abV];cases h:ts[i]? with
 |none=>simp[bp,iY,aU]
 |some x=>have:=b9 (aap h);simp;omega
def S8{k n a:Int}{s:L UInt8}{args:L Vl}{types:L Ty}{H:L Nd}{t:Ty}(ok:lE t)(h:bz (.mk k n a s args types H) t=true)(W:ey (.mk k n a s args types H)=true):s.length+aU types+aM H+1<=62000:=by
 unfold bz at h;by_cases S:k≠cq t\/bX (.mk k n a s args types H)=false\/200<s.length;simp_all;rw[if_neg S]at h;have D:bX (.mk k n a s args types H)=true:=by grind
 have I:s.length<=200:=by omega
 by_cases V:k=14
 ·subst V;simp only[ey,if_true,aak]at W;have Q:=vz (abd W.1.1);have P:=xG Q.1;simp only[bR]at P;have Y:types.length=2/\a=0/\n=0/\s=[]/\args.length=0:=by simpa[bX]using D
  have O:(cw (aG t 0) (types.getD 0 iY)&&cw (aG t 1) (types.getD 1 iY))=true:=by simpa using h
  simp only[aak]at O;have q:=(eg _ _).1 O.1;have B:=(eg _ _).1 O.2;rcases types with _|⟨u,_|⟨w,_|⟨z,r⟩⟩⟩
  simp_all;simp_all;simp at q B;have N:=jg ok 0;have C:=jg ok 1;rw[q]at N;rw[B]at C;simp only[aU];omega;simp at Y
 by_cases p:k=8
 ·subst p;have Y:types.length=1/\H.length=0/\s=[]:=by simpa[bX]using D
  have O:bg (types.getD 0 iY)=true:=by simp at h;exact h.1.2
  rw[List.length_eq_zero_iff.1 Y.2.1];rcases types with _|⟨u,_|⟨w,r⟩⟩
  simp at Y;have:=(bl O).2;simp only[aai]at this;simp only[aU,aM];omega;simp at Y
 have hq:types.length=0/\H.length=0:=by unfold bX at D;dsimp only at D;by_cases U:k=15;rw[if_pos U]at D;have:=abd D;exact⟨this.1,this.2.1⟩;rw[if_neg U,if_neg p,if_neg V]at D;by_cases T:k=6;rw[if_pos T]at D;have:=abd D;exact⟨this.1,this.2.1⟩;rw[if_neg T]at D;have:=abd D;exact⟨this.1,this.2.1⟩
 rw[List.length_eq_zero_iff.1 hq.1,List.length_eq_zero_iff.1 hq.2];simp only[aU,aM];omega
mutual
def Ax:∀(v:Vl)(t:Ty),lE t->bz v t=true->ey v=true->aE v<=lp v*62000
 |.mk k n a s args types H,.mk T ts,ok,h,Y=>by
  have I:=yY args;have V:=yZ args;have M:args.length=0->aB args<=iU args*62000:=λh=>by rw[List.length_eq_zero_iff.1 h];simp[aB]
  have J:=rM ok;have U:=S8 ok h Y;unfold bz at h;by_cases B:k≠cq (.mk T ts)\/bX (.mk k n a s args types H)=false\/200<s.length;rw[if_pos B]at h;cases h;rw[if_neg B]at h;have hp:bX (.mk k n a s args types H)=true:=by
   cases hq:bX (.mk k n a s args types H)with
   |true=>rfl
   |false=>exact absurd (.inr (.inl hq)) B
  have hk:k=T:=abH λG=>B (.inl G);subst hk;clear B;have d1:∀{p q:Prop}[Decidable (p/\q)],decide (p/\q)=true->q:=λh=>(abd h).2
  suffices hs:aB args<=iU args*62000 by
   simp only[aE,lp]at U ⊢;omega
  by_cases S:k=14;subst S;have BF:types.length=2/\a=0/\n=0/\s=[]/\args.length=0:=(by simpa[bX]using hp);exact M BF.2.2.2.2;have W:ee args=true:=by simpa[ey,S]using Y
  replace I:=λt ok h=>I t ok h W;replace V:=λr ok h Q=>V r ok h Q W;by_cases E:k=1\/k=6;rw[if_pos E]at h;exact M (abd h).2;rw[if_neg E]at h;by_cases D:k=2;rw[if_pos D]at h;exact M (abd h).2.2;rw[if_neg D]at h;by_cases C:k=3;rw[if_pos C]at h;exact M (abd h).2.2;rw[if_neg C]at h;by_cases c4:k=4\/k=5;rw[if_pos c4]at h;exact M (abd h).2.2;rw[if_neg c4]at h;by_cases A:k=7;rw[if_pos A]at h;exact M (abd h).2.2;rw[if_neg A]at h;by_cases P:k=9;rw[if_pos P,aak]at h;subst P;obtain⟨x,rfl,O⟩:=cO ok cc;exact I x O h.2;rw[if_neg P]at h;by_cases vv:k=10;rw[if_pos vv,aak]at h;subst vv;obtain⟨x,rfl,O⟩:=cO ok cc;exact I x O h.2;rw[if_neg vv]at h;by_cases En:k=11;rw[if_pos En,aak]at h;subst En;have z:=J.1;rw[show arity 11=2 from by decide]at z;exact V ts (λx O=>J.2 x O) h.2 Q7;rw[if_neg En]at h;by_cases Eo:k=12
  ·rw[if_pos Eo,aak]at h;subst Eo;obtain⟨x,y,rfl,O,N⟩:=cJ ok cc;have hn:=abd h.1;rcases(show n=0\/n=1 by omega)with rfl|rfl
   exact I x O h.2;exact I y N h.2
  rw[if_neg Eo]at h;by_cases Ep:k=13;rw[if_pos Ep,aak,aak]at h;subst Ep;exact I _ (yh ok cc) h.1.2;rw[if_neg Ep,if_neg S]at h;by_cases K:k=15;rw[if_pos K,aak]at h;subst K;obtain⟨x,rfl,O⟩:=cO ok cc;exact I x O h.2;rw[if_neg K]at h;by_cases u:k=8;rw[if_pos u,aak,aak]at h;exact I _ (bl h.1.2) h.2;rw[if_neg u]at h;cases h
def yY:∀(l:L Vl)(t:Ty),lE t->aJ l t=true->ee l=true->aB l<=iU l*62000
 |[],_,_,_,_=>by simp[aB]
 |x::l,t,ok,h,Y=>by simp only[aJ,aak]at h;simp only[ee,aak]at Y;have e1:=Ax x t ok h.1 Y.1;have e2:=yY l t ok h.2 Y.2;simp only[aB,iU];omega
def yZ:∀(l:L Vl)(r:L Ty),(∀x∈r,lE x)->cL l r=true->l.length<=r.length->ee l=true->aB l<=iU l*62000
 |[],_,_,_,_,_=>by simp[aB]
 |x::l,[],_,_,h,_=>by simp at h
 |x::l,t::r,ok,h,Q,Y=>by simp only[cL,aak]at h;simp only[ee,aak]at Y;simp only[aaa]at Q;have e1:=Ax x t (ok t c9) h.1 Y.1;have e2:=yZ l r (λy N=>ok y (by simp[N])) h.2 bn Y.2;simp only[aB,iU];omega
end
def PN{v:Vl}{t:Ty}(h:iK t v=true):aE v<=lp v*62000:=by unfold iK pF at h;simp at h;exact Ax v t (bl h.1.1) h.1.2 h.2
def qY(f:gB):CV := .agg [.sl 5 (aD f.code),aA (f.pos:Nat),aA f.fin,.sl 7 (aa f.aside)]
def mD:List gB->L CV
 |[]=>[]
 |f::l=>qY f::mD l
def uU:∀a b:List gB,mD (a++b)=mD a++mD b
 |[],_=>rfl
 |f::a,b=>by simp only[abh,mD,uU a b]
def uV:∀l:List gB,(mD l).length=l.length
 |[]=>rfl
 |f::l=>by simp only[mD,aaa,uV l]
def ke:∀a b:L Vl,aa (a++b)=aa a++aa b
 |[],_=>rfl
 |f::a,b=>by simp only[abh,aa,ke a b]
def sR(l:L Vl):L CV:=aa l.reverse
def fR(l:List gB):L CV:=mD l.reverse
def Ho(v:Vl)(l:L Vl):sR (v::l)=sR l++[bA v]:=by simp only[sR,ads,ke];rfl
def B4(f:gB)(l:List gB):fR (f::l)=fR l++[qY f]:=by simp only[fR,ads,uU];rfl
def iG(l:L Vl):(sR l).length=l.length:=by simp only[sR,az,aaq]
def xH(l:List gB):(fR l).length=l.length:=by simp only[fR,uV,aaq]
def fW:∀(l:L Vl),∀r∈aa l,r.cells.length=7
 |[],r,h=>by simp[aa]at h
 |.mk _ _ _ _ _ _ _::l,r,h=>by
  simp only[aa,abu]at h;rcases h with rfl|h
  rfl;exact fW l r h
def Bk:∀(l:List gB),∀r∈mD l,r.cells.length=4
 |[],r,h=>by simp[mD]at h
 |f::l,r,h=>by
  simp only[mD,abu]at h;rcases h with rfl|h
  rfl;exact Bk l r h
def ta(l:L Vl):(bB (sR l)).length=l.length*7:=by rw[cV (rows:=sR l) (s:=7) (fW _),iG]
def B3(l:List gB):(bB (fR l)).length=l.length*4:=by rw[cV (rows:=fR l) (s:=4) (Bk _),xH]
def mC(S:bE)(a b:Nat):L AV:=[.c (aA S.self),.c (aA S.gC),.c (aA S.gD),.c (aA S.balance),.gf a 0 7 S.st.length,.gf b 0 4 S.fr.length,.c (aA S.nV),.c (aA S.used),.c (aA S.aZ),
 .c (aA (vK S.said)),.c (aA (vN S.said)),.c (aA (xA S.said)),.c (.str (vS S.said)),.c (.sl 7 (aa (di S.said))),.c (.sl 2 (aj (GQ S.said))),.c (.sl 5 (aD (A2 S.said)))]
def DD(S:bE):MC (mC S):=⟨λρ ts a b p N h1 h2=>⟨_,_,Z,.inl Z,_,_,Z,.inl Z,_,_,Z,.inl Z,_,_,Z,.inl Z,_,_,Z,⟨_,h1,Z⟩,_,_,Z,⟨_,h2,Z⟩,_,_,Z,.inl Z,_,_,Z,.inl Z,_,_,Z,.inl Z,
  _,_,Z,.inl Z,_,_,Z,.inl Z,_,_,Z,.inl Z,_,_,Z,.inl Z,_,_,Z,.inl Z,_,_,Z,.inl Z,_,_,Z,.inl Z,Z⟩,λ_ _ _=>rfl,λus a b h1 h2=>by simp only[mC,yT,SL,both,h1,h2]⟩
def Lx(S:bE)(_ b:Nat):L AV:=[.c (aA S.self),.c (aA S.gC),.c (aA S.gD),.c (aA S.balance),.c (.sl 7 (sR S.st)),.gf b 0 4 S.fr.length,.c (aA S.nV),.c (aA S.used),.c (aA S.aZ),
 .c (aA (vK S.said)),.c (aA (vN S.said)),.c (aA (xA S.said)),.c (.str (vS S.said)),.c (.sl 7 (aa (di S.said))),.c (.sl 2 (aj (GQ S.said))),.c (.sl 5 (aD (A2 S.said)))]
def DE(S:bE):∀(ρ:Ren)(ts:L (Nat×Nat))(b N:Nat),ρ.bx b=some N->fO ρ ts (Lx S 0 b) (Lx S 0 N):=λρ ts b N h2=>⟨_,_,rfl,.inl rfl,_,_,rfl,.inl rfl,_,_,rfl,.inl rfl,_,_,rfl,.inl rfl,_,_,rfl,.inl rfl,_,_,rfl,⟨_,h2,rfl⟩,_,_,rfl,.inl rfl,_,_,rfl,.inl rfl,_,_,rfl,.inl rfl,
  _,_,Z,.inl Z,_,_,Z,.inl Z,_,_,Z,.inl Z,_,_,Z,.inl Z,_,_,Z,.inl Z,_,_,Z,.inl Z,_,_,Z,.inl Z,Z⟩
def FQ(S:bE):∀(us:L Nat)(b:Nat),mem b us=true->yT us (Lx S 0 b)=true:=λus b h=>by simp only[Lx,yT,SL,both,h]
def S9(S:bE):MC (Lx S):=⟨λρ ts a b p N _ h2=>DE S ρ ts b N h2,λ_ _ _=>rfl,λus a b _ h2=>FQ S us b h2⟩
def b8(f:FuncId)(S:bE)(args:L AV)(r:CV)(S':bE):Prop :=
 rK f (mI (mC S) (bB (sR S.st)) (bB (fR S.fr))) (.ptr 1000000 0::args) (.c r) (mO (mC S') (bB (sR S'.st)) (bB (fR S'.fr)))
abbrev hJ(f:FuncId)(S:bE)(args:L AV)(o:Int×bE):Prop:=b8 f S args (aA o.1) o.2
def Ht(f:FuncId)(S:bE)(args:L AV)(r:CV)(S':bE):Prop :=
 rK f (mI1 (Lx S) (bB (fR S.fr))) (.ptr 1000000 0::args) (.c r) (mO1 (Lx S') (bB (fR S'.fr)))
def Ta{f:FuncId}{n:Nat}{β:jq}{K:L Item}(O:(∃W,K = .code .ret::W)\/K=[]){env:Env}{P:Func}(hf:Tryz.prog.funcs[f]?=some P){bs:L (Nat×L AV)}{ts:L (Nat×Nat)}{us:L Nat}{l:L AV}(A:sV Tryz.X bs env P.results.toList=some l)
  {v:CV}(V:close (BM l)=some v){S':bE}{a b:Nat}{cells q Y:L AV}(h1:ak 1000000 bs=some cells)(B:cells=mC S' a b)(h2:ak a bs=some q)(U:q=ah (sR S'.st))(S:ak b bs=some Y)(T:Y=ah (fR S'.fr))(J:Go.cB.distinct [1000000,a,b]=true){r:CV}(Q:v=r) :
  Ey f n β (HR β (.c r) (mO (mC S') (bB (sR S'.st)) (bB (fR S'.fr)))) K env ⟨bs,ts,us⟩:=by
 subst B U T Q;refine AK.Dv O hX hf A [(1000000,1000000),(999991,a),(999992,b)] ?_ (.inr V) ⟨⟨_,_,Z,h1,(DD S').conv _ _ _ _ _ _ Z Z⟩,⟨_,_,Z,h2,dr _⟩,⟨_,_,Z,S,dr _⟩,trivial⟩;unfold yV;rw[show([(1000000,1000000),(999991,a),(999992,b)]:L (Nat×Nat)).map (·.2)=[1000000,a,b]from Z,J];rfl
def Q8{f:FuncId}{n:Nat}{β:jq}{K:L Item}{env:Env}{P:Func}(hf:Tryz.prog.funcs[f]?=some P){bs:L (Nat×L AV)}{ts:L (Nat×Nat)}{us:L Nat}{l:L AV}(A:sV Tryz.X bs env P.results.toList=some l)
  {v:CV}(W:close (BM l)=some v){S':bE}{a b:Nat}{cells q Y:L AV}(h1:ak 1000000 bs=some cells)(B:cells=mC S' a b)(h2:ak a bs=some q)(V:q=ah (sR S'.st))(U:ak b bs=some Y)(T:Y=ah (fR S'.fr))(J:Go.cB.distinct [1000000,a,b]=true){r:CV}(S:v=r) :
  Ey f n β (HR β (.c r) (mO (mC S') (bB (sR S'.st)) (bB (fR S'.fr)))) (.code .ret::K) env ⟨bs,ts,us⟩ :=
 Ta (.inl ⟨_,Z⟩) hf A W h1 B h2 V U T J S
def WZ{f:FuncId}{n:Nat}{β:jq}{env:Env}{P:Func}(hf:Tryz.prog.funcs[f]?=some P){bs:L (Nat×L AV)}{ts:L (Nat×Nat)}{us:L Nat}{l:L AV}(A:sV Tryz.X bs env P.results.toList=some l)
  {v:CV}(W:close (BM l)=some v){S':bE}{a b:Nat}{cells q Y:L AV}(h1:ak 1000000 bs=some cells)(B:cells=mC S' a b)(h2:ak a bs=some q)(V:q=ah (sR S'.st))(U:ak b bs=some Y)(T:Y=ah (fR S'.fr))(J:Go.cB.distinct [1000000,a,b]=true){r:CV}(S:v=r) :
  Ey f n β (HR β (.c r) (mO (mC S') (bB (sR S'.st)) (bB (fR S'.fr)))) [] env ⟨bs,ts,us⟩ :=
 Ta (.inr Z) hf A W h1 B h2 V U T J S
def ZT{f:FuncId}{n:Nat}{β:jq}{env:Env}{P:Func}(hf:Tryz.prog.funcs[f]?=some P){bs:L (Nat×L AV)}{ts:L (Nat×Nat)}{us:L Nat}{l:L AV}(A:sV Tryz.X bs env P.results.toList=some l)
  {v:CV}(q:close (BM l)=some v){S':bE}{b:Nat}{cells Y:L AV}(h1:ak 1000000 bs=some cells)(B:cells=Lx S' 0 b)(U:ak b bs=some Y)(W:Y=ah (fR S'.fr))(J:Go.cB.distinct [1000000,b]=true){r:CV}(V:v=r) :
  Ey f n β (HR β (.c r) (mO1 (Lx S') (bB (fR S'.fr)))) [] env ⟨bs,ts,us⟩:=by
 subst B W V;refine AK.Dv (.inr Z) hX hf A [(1000000,1000000),(999992,b)] ?_ (.inr q) ⟨⟨_,_,Z,h1,DE S' _ _ _ _ Z⟩,⟨_,_,Z,U,dr _⟩,trivial⟩;unfold yV;rw[show([(1000000,1000000),(999992,b)]:L (Nat×Nat)).map (·.2)=[1000000,b]from Z,J];rfl
def uM{ops:Array Oper}{o:Oper}{rest:L Oper}{env:Env}{acc:L Fp}{Q:Env->St->L Fp->Prop}{bs:L (Nat×L AV)}{ts:L (Nat×Nat)}{us:L Nat}(G:cP ops.toList kn env o=some true){f:FuncId}{args:Array Operand}{Y:Array TypeId}(T:o.op = .call {callee := .value (.func f),args:=args,argTypes:=Y})
  {S S':bE}{p:L AV}{r:CV}(hq:b8 f S p r S'){d:Nat}(P:o.dst=some d)
  {l:L AV}(O:gq (aH Tryz.X env) args.toList=some l){N:Nat}{D:L AV}(W:l = .ptr N 0::D){E J:Nat}{V q U:L AV}(h1:ak N bs=some V)(B:V=mC S E J)(h2:ak E bs=some q)(M:q=ah (sR S.st))(K:ak J bs=some U)(I:U=ah (fR S.fr))
  (H:∀ts,fO ⟨λk=>ak k [(1000000,N),(1000001,E),(1000002,J)],λ_=>none⟩ ts p D)(C:uK us N E J (100000+d) (200000+d)=true)
  {bs':L (Nat×L AV)}(A:lJ [N,E,J] bs=bs')
  (k:ov ops rest ((d,.c r)::env) ⟨(N,mC S' (100000+d) (200000+d))::(100000+d,ah (sR S'.st))::(200000+d,ah (fR S'.fr))::bs',ts,N::(100000+d)::(200000+d)::us⟩ (⟨[],[N,E,J,N,100000+d,200000+d,N,100000+d,200000+d]⟩::acc) Q):ov ops (o::rest) env ⟨bs,ts,us⟩ acc Q:=by
 subst W;exact ai.ZI kn G T hq (DD S) (DD S') P O Z h1 B h2 M K I (λts=>⟨_,_,Z,⟨_,fk,Z⟩,H ts⟩) C Z Z A k
def uM1{ops:Array Oper}{o:Oper}{rest:L Oper}{env:Env}{acc:L Fp}{Q:Env->St->L Fp->Prop}{bs:L (Nat×L AV)}{ts:L (Nat×Nat)}{us:L Nat}(G:cP ops.toList kn env o=some true){f:FuncId}{args:Array Operand}{Y:Array TypeId}(T:o.op = .call {callee := .value (.func f),args:=args,argTypes:=Y})
  {S S':bE}{p:L AV}{r:CV}(hq:Ht f S p r S'){d:Nat}(E:o.dst=some d)
  {l:L AV}(P:gq (aH Tryz.X env) args.toList=some l){N:Nat}{D:L AV}(W:l = .ptr N 0::D){J:Nat}{V U:L AV}(h1:ak N bs=some V)(B:V=Lx S 0 J)(O:ak J bs=some U)(M:U=ah (fR S.fr))
  (K:∀ts,fO ⟨λk=>ak k [(1000000,N),(1000002,J)],λ_=>none⟩ ts p D)(q:yW us N J (200000+d)=true)
  {bs':L (Nat×L AV)}(I:lJ [N,J] bs=bs')
  (k:ov ops rest ((d,.c r)::env) ⟨(N,Lx S' 0 (200000+d))::(200000+d,ah (fR S'.fr))::bs',ts,N::(200000+d)::us⟩ (⟨[],[N,J,N,200000+d,N,200000+d]⟩::acc) Q):ov ops (o::rest) env ⟨bs,ts,us⟩ acc Q:=by
 subst W;exact ai.XO kn G T hq (S9 S) (S9 S') (DE S) (FQ S') (λ_ _=>rfl) E P Z h1 B O M (λts=>⟨_,_,Z,⟨_,fk,Z⟩,K ts⟩) q Z Z I k
def cvA{ρ:Ren}{ts:L (Nat×Nat)}{v:CV}{a:AV}{l m:L AV}(h:close a=some v)(O:fO ρ ts l m):fO ρ ts (.c v::l) (a::m):=⟨_,_,Z,.inr h,O⟩
def cvP{ρ:Ren}{ts:L (Nat×Nat)}{k k' o:Nat}{l m:L AV}(h:ρ.bx k=some k')(O:fO ρ ts l m):fO ρ ts (.ptr k o::l) (.ptr k' o::m):=⟨_,_,Z,⟨_,h,Z⟩,O⟩
def XR{ops:Array Oper}{o:Oper}{rest:L Oper}{env:Env}{acc:L Fp}{Q:Env->St->L Fp->Prop}{bs:L (Nat×L AV)}{ts:L (Nat×Nat)}{us:L Nat}{f:FuncId}{args:Array Operand}{Y:Array TypeId}{S S':bE}{p:L AV}{r:CV}{d:Nat}{l:L AV}{N:Nat}{D:L AV}{J:Nat}{V U:L AV}{bs':L (Nat×L AV)}(k:ov ops rest ((d,.c r)::env) ⟨(N,Lx S' 0 (200000+d))::(200000+d,ah (fR S'.fr))::bs',ts,N::(200000+d)::us⟩ (⟨[],[N,J,N,200000+d,N,200000+d]⟩::acc) Q)(G:cP ops.toList kn env o=some true:=by exact rfl)(T:o.op = .call {callee := .value (.func f),args:=args,argTypes:=Y}:=by exact rfl)(hq:Ht f S p r S':=by assumption)(E:o.dst=some d:=by exact rfl)(P:gq (aH Tryz.X env) args.toList=some l:=by exact rfl)(W:l = .ptr N 0::D:=by exact rfl)(h1:ak N bs=some V:=by exact rfl)(B:V=Lx S 0 J:=by exact rfl)(O:ak J bs=some U:=by exact rfl)(M:U=ah (fR S.fr):=by exact rfl)(K:∀ts,fO ⟨λk=>ak k [(1000000,N),(1000002,J)],λ_=>none⟩ ts p D:=by intro _;repeat' (first|exact rfl|refine cvA rfl ?_|refine cvP rfl ?_))(q:yW us N J (200000+d)=true:=by exact rfl)(I:lJ [N,J] bs=bs':=by exact rfl): ov ops (o::rest) env ⟨bs,ts,us⟩ acc Q:=uM1 G T hq E P W h1 B O M K q I k
def Vr:Nat->L AV->Env
 |_,[]=>[]
 |i,c::l=>(i,c)::Vr (i+1) l
def Oz:∀(i:Nat)(l:L AV),Vr i l=((l.zipIdx i).map λ(v,i)=>(i,v))
 |_,[]=>rfl
 |i,c::l=>by simp only[Vr,acr,abk,Oz (i+1) l]
def mn{f:FuncId}{P:Func}{c:Code}{S S':bE}{args:L AV}{r:CV}{env:Env}(hf:Tryz.prog.funcs[f]?=some P)(Y:Enters Tryz.prog f)(k:∀β,Tryz.prog.funcs[f]?=some P->Ey f P.ntmps β (HR β (.c r) (mO (mC S') (bB (sR S'.st)) (bB (fR S'.fr)))) [.code c] env ⟨[(1000000,mC S 1000001 1000002),(1000001,ah (sR S.st)),(1000002,ah (fR S.fr))],[],[1000000,1000001,1000002]⟩)(A:P.body=some c:=by exact rfl)(O:(AV.ptr 1000000 0::args).length<=P.ntmps:=by exact abf rfl)(u:Vr 0 (AV.ptr 1000000 0::args)=env:=by simp only[Vr];try exact rfl):b8 f S args r S':=dG.of hf A Y O env _ (by rw[<- u,Oz]) rfl λβ=>k β hf
def dm{p:Prop}(h:p:=by(repeat' (first|refine st ?_|(refine AK.AR Z (λh=>?_) (λh=>?_)<;>first|(cases h;done)|rw[h]|skip)|refine AK.pe Z ?_ ?_|refine uC Z (by assumption) ?_|refine uI Z _ Z (by assumption) Z ?_|refine uI Z 0 Z (by assumption) Z ?_|refine uI Z 1 Z (by assumption) Z ?_|refine uI Z 0 Z Z Z ?_|refine uI Z 1 Z Z Z ?_|refine uI Z 2 Z Z Z ?_|refine uI Z 3 Z Z Z ?_|refine s9 ?_|refine XR ?_|(first|refine ai.quo hX kn Z Z Z Z Z Z Z ((by decide)) ?_|refine ai.rem hX kn Z Z Z Z Z Z Z ((by decide)) ?_)|(refine uA Z ?_ ?_<;>(try (show(_:Nat)*_<=_;dsimp only)))|refine ai.toStr hX kn Z Z Z Z Z Z Z Z Z Z Z (by first|exact Z|exact wD _) Z ?_|((first|refine ai.pn Z Z Z Ex (λh=>?_)|refine ai.pq Z Z Z Ex (λh=>?_)|refine ai.split Z Z Z (λh=>?_) (λh=>?_))<;>(fail_if_success (cases h;done))<;>rw[h])|refine Q8 hf Z Z Z Z Z Z Z Z Z ?_|refine WZ hf Z Z Z Z Z Z Z Z Z ?_))<;>rfl):p:=h
def mdm{f:FuncId}{P:Func}{c:Code}{S S':bE}{args:L AV}{r:CV}{env:Env}(hf:Tryz.prog.funcs[f]?=some P)(Y:Enters Tryz.prog f)(A:P.body=some c:=by exact rfl)(O:(AV.ptr 1000000 0::args).length<=P.ntmps:=by exact abf rfl)(u:Vr 0 (AV.ptr 1000000 0::args)=env:=by simp only[Vr];try exact rfl)(k:∀β,Tryz.prog.funcs[f]?=some P->Ey f P.ntmps β (HR β (.c r) (mO (mC S') (bB (sR S'.st)) (bB (fR S'.fr)))) [.code c] env ⟨[(1000000,mC S 1000001 1000002),(1000001,ah (sR S.st)),(1000002,ah (fR S.fr))],[],[1000000,1000001,1000002]⟩:=by intro β hf;exact dm):b8 f S args r S':=mn hf Y k A O u
def dnm{p q:Prop}(k:q)(h:q->p:=by intro k;(repeat' (first|refine st ?_|(refine AK.AR Z (λh=>?_) (λh=>?_)<;>first|(cases h;done)|rw[h]|skip)|refine AK.pe Z ?_ ?_|refine uC Z (by assumption) ?_|refine uI Z _ Z (by assumption) Z ?_|refine uI Z 0 Z (by assumption) Z ?_|refine uI Z 1 Z (by assumption) Z ?_|refine uI Z 0 Z Z Z ?_|refine uI Z 1 Z Z Z ?_|refine uI Z 2 Z Z Z ?_|refine uI Z 3 Z Z Z ?_|refine s9 ?_|refine XR ?_|(first|refine ai.quo hX kn Z Z Z Z Z Z Z ((by decide)) ?_|refine ai.rem hX kn Z Z Z Z Z Z Z ((by decide)) ?_)|(refine uA Z ?_ ?_<;>(try (show(_:Nat)*_<=_;dsimp only)))|refine ai.toStr hX kn Z Z Z Z Z Z Z Z Z Z Z (by first|exact Z|exact wD _) Z ?_|((first|refine ai.pn Z Z Z Ex (λh=>?_)|refine ai.pq Z Z Z Ex (λh=>?_)|refine ai.split Z Z Z (λh=>?_) (λh=>?_))<;>(fail_if_success (cases h;done))<;>rw[h])|refine Q8 hf Z Z Z Z Z Z Z Z Z ?_|refine WZ hf Z Z Z Z Z Z Z Z Z ?_))<;>first|exact Z|exact k):p:=h k
def s9{ops:Array Oper}{o:Oper}{rest:L Oper}{env:Env}{acc:L Fp}{Q:Env->St->L Fp->Prop}{bs:L (Nat×L AV)}{ts:L (Nat×Nat)}{us:L Nat}{f:FuncId}{args:Array Operand}{Y:Array TypeId}{S S':bE}{p:L AV}{r:CV}{d:Nat}{l:L AV}{N:Nat}{D:L AV}{E J:Nat}{V q U:L AV}{bs':L (Nat×L AV)}(k:ov ops rest ((d,.c r)::env) ⟨(N,mC S' (100000+d) (200000+d))::(100000+d,ah (sR S'.st))::(200000+d,ah (fR S'.fr))::bs',ts,N::(100000+d)::(200000+d)::us⟩ (⟨[],[N,E,J,N,100000+d,200000+d,N,100000+d,200000+d]⟩::acc) Q)(G:cP ops.toList kn env o=some true:=by exact rfl)(T:o.op = .call {callee := .value (.func f),args:=args,argTypes:=Y}:=by exact rfl)(hq:b8 f S p r S':=by assumption)(P:o.dst=some d:=by exact rfl)(O:gq (aH Tryz.X env) args.toList=some l:=by exact rfl)(W:l = .ptr N 0::D:=by exact rfl)(h1:ak N bs=some V:=by exact rfl)(B:V=mC S E J:=by exact rfl)(h2:ak E bs=some q:=by exact rfl)(M:q=ah (sR S.st):=by exact rfl)(K:ak J bs=some U:=by exact rfl)(I:U=ah (fR S.fr):=by exact rfl)(H:∀ts,fO ⟨λk=>ak k [(1000000,N),(1000001,E),(1000002,J)],λ_=>none⟩ ts p D:=by intro _;repeat' (first|exact rfl|refine cvA rfl ?_|refine cvP rfl ?_))(C:uK us N E J (100000+d) (200000+d)=true:=by exact rfl)(A:lJ [N,E,J] bs=bs':=by exact rfl): ov ops (o::rest) env ⟨bs,ts,us⟩ acc Q:=uM G T hq P O W h1 B h2 M K I H C A k
def Hu(k n a:Int)(s:L UInt8)(args:L Vl)(types:L Ty)(H:L Nd)(t:L Vl):gl (0+t.length*7) (ah (sR (.mk k n a s args types H::t))) =
  some [.c (aA k),.c (aA n),.c (aA a),.c (.str s),.c (.sl 7 (aa args)),.c (.sl 2 (aj types)),.c (.sl 5 (aD H))]:=by
 rw[Ho,ah,dg,abr,abi,<- ta,<- abB (f:=AV.c),vP];rfl
def xI(f:gB)(t:List gB):gl (0+t.length*4) (ah (fR (f::t)))=some [.c (.sl 5 (aD f.code)),.c (aA (f.pos:Nat)),.c (aA f.fin),.c (.sl 7 (aa f.aside))]:=by rw[B4,ah,dg,abr,abi,<- B3,<- abB (f:=AV.c),vP];rfl
def DF(v:Vl)(t:L Vl):ah (sR (v::t))=ah (sR t)++ah [bA v]:=by rw[Ho,ah,dg,abr]
def lz(f:gB)(t:List gB):ah (fR (f::t))=ah (fR t)++ah [qY f]:=by rw[B4,ah,dg,abr]
def MM(k n a:Int)(s:L UInt8)(args:L Vl)(types:L Ty)(H:L Nd)(t:L Vl)(z:CV)(Y:z.cells.length=7):dH (0+t.length*7) [.c (aA k),.c (aA n),.c (aA a),.c (.str s),.c (.sl 7 (aa args)),.c (.sl 2 (aj types)),.c (.sl 5 (aD H))] (ah (sR t++[z])) =
  some (ah (sR (.mk k n a s args types H::t))):=by
 rw[DF,ah,dg,abr,abi,<- ta,<- abB (f:=AV.c)];have P:∀(p x y:L AV),x.length=y.length->dH p.length x (p++y)=some (p++x):=by
  intro p x y h
  induction p with
  |nil=>exact Bg x y h
  |cons q p S =>
   cases x with
   |nil=>cases y with
    |nil=>simp only[dH]
    |cons _ _=>simp at h
   |cons K x=>simp only[aaa,abh,dH,S]
 exact P _ _ _ (by simp only[bB,aba,abB,Y];rfl)
def Hv(us:L Nat):∀l:L CV,Ak us (l.map AV.c)=true
 |[]=>rfl
 |c::l=>by simp;exact Hv us l
def OA{us:L Nat}{k:Nat}{a:L AV}{l:L (Nat×L AV)}(h1:mem k us=true)(h2:Ak us a=true)(U:okB us l=true):okB us ((k,a)::l)=true:=by simp only[okB,h1,h2];exact U
def XT(S:bE){us:L Nat}{a b:Nat}(h1:mem a us=true)(h2:mem b us=true):Ak us (mC S a b)=true:=by simp only[mC,Ak,Wi,h1,h2]
def XU(S:bE){us:L Nat}{N a b:Nat}(M:mem N us=true)(h1:mem a us=true)(h2:mem b us=true):okB us [(N,mC S a b),(a,ah (sR S.st)),(b,ah (fR S.fr))]=true :=
 OA M (XT S h1 h2) (OA h1 (Hv _ _) (OA h2 (Hv _ _) Z))
def Wt{S:bE}{bx:L (Nat×Nat)}{tk:L (Nat×(Nat×Option Nat))}{ts:L (Nat×Nat)}{bs:L (Nat×L AV)}{W a b Y p N:Nat}{D q V:L AV}(M:ak W bx=some Y)(h1:ak a bx=some p)(h2:ak b bx=some N)(J:ak Y bs=some D)(U:D=mC S p N)(B:ak p bs=some q)(q1:q=ah (sR S.st))(T:ak N bs=some V)(Q:V=ah (fR S.fr)) :
  FH ⟨λk=>ak k bx,λk=>ak k tk⟩ ts bs [(W,mC S a b),(a,ah (sR S.st)),(b,ah (fR S.fr))]:=by
 subst U q1 Q;exact⟨⟨_,_,M,J,(DD S).conv _ _ _ _ _ _ h1 h2⟩,⟨_,_,h1,B,dr _⟩,⟨_,_,h2,T,dr _⟩,trivial⟩
attribute [local irreducible] AK ai aR bW dG
def XV(S:bE)(h:S.nV<=S.used):b8 108 S [] (aA 12) S:=by have D:decide (S.used>=S.nV)=true:=aam h;exact mdm func108 call108
def XW(S:bE)(h:S.used<S.nV)(h1:OB S.nV)(h2:0<=S.used):b8 108 S [] (aA 0) {S with used:=S.used+1}:=by
 have D:decide (S.used>=S.nV)=false:=aan bn;have V:i64.wrap (S.used+1)=S.used+1:=gM bn (by have:=h1.2;omega);refine mn func108 call108 λβ hf=>?_
 repeat' (first|refine mQ ?_|refine zc ?_ ?_|(intro h;first|(cases h;done)|rw[h]|skip))
 rw[V];exact Q8 hf Z Z Z Z Z Z Z Z Z Z
def Vs(S:bE)(h:S.st=[]):b8 131 S [] (.fG [bA qp,.bool false]) S:=by
 obtain⟨a,b,c,d,st,I,g,u,m,B⟩:=S;simp only at h;subst h;have D:decide (i64.wrap (((([]:L Vl).length:Nat):Int)-1)<0)=true:=by decide
 exact mdm func131 call131
def Tb(S:bE)(v:Vl)(t:L Vl)(h:S.st=v::t)(U:t.length<=1099511627776):b8 131 S [] (.fG [bA v,.bool true]) {S with st:=t}:=by
 obtain⟨a,b,c,d,st,I,g,u,m,B⟩:=S;simp only at h;subst h;have V:i64.wrap ((((v::t).length:Nat):Int)-1)=(t.length:Nat):=by rw[gM ek ek];simp only[aaa];omega
 have D:decide (i64.wrap ((((v::t).length:Nat):Int)-1)<0)=false:=by rw[V];exact aan bn
 obtain⟨k,n,W,s,args,types,H⟩:=v;have Y:=Hu k n W s args types H t;refine mn func131 call131 λβ hf=>?_
 repeat' (first|refine mQ ?_|refine zc ?_ ?_|(intro h;first|(cases h;done)|rw[h]|skip)|refine ai.iT hX kn Z Z Z Z Z Z Z Z Z t.length V (abl _) ?_|refine ai.gm hX kn Z Z Z Z Z Z Y Z ?_|refine ai.B1 hX kn Z Z Z Z Z Z Z Z Z Z Z Z t.length V (adh _) ?_)
 refine AK.uL 1000001 (ah (sR t)) _ Z (DF _ _) Z ?_;exact Q8 hf Z Z Z Z Z Z Z Z Z Z
def uN(S:bE)(H:L Nd)(fin:Int)(T:L Vl)(V:S.fr.length<=1099511627776):b8 107 S [.c (.sl 5 (aD H)),.c (aA fin),.c (.sl 7 (aa T))] .undef {S with fr:=⟨H,0,fin,T⟩::S.fr}:=by
 refine mn func107 call107 λβ hf=>?_
 repeat' (first|refine mQ ?_|refine ai.mB hX kn Z Z Z Z Z Z Z Z Z Z Z Z Z Z Z (fR S.fr) [] (aba _).symm (xH _).symm (B3 _) Z Z Z Z Z Z Z (show((fR S.fr).length+1)*64<=_ by rw[xH];omega) (B4 ⟨H,0,fin,T⟩ S.fr).symm (xH _) Z ?_|(refine uA Z ?_ ?_<;>(try (show(_:Nat)*_<=_;dsimp only))))
 all_goals rfl
def Hs(S:bE)(H:L Nd)(fin:Int)(T:L Vl)(V:S.fr.length<=1099511627776):Ht 107 S [.c (.sl 5 (aD H)),.c (aA fin),.c (.sl 7 (aa T))] .undef {S with fr:=⟨H,0,fin,T⟩::S.fr}:=by
 refine dG.of func107 Z (λargs w=>call107 args w) (abf Z) [(0,.ptr 1000000 0),(1,.c (.sl 5 (aD H))),(2,.c (aA fin)),(3,.c (.sl 7 (aa T)))] ⟨[(1000000,Lx (S) 0 1000002),(1000002,ah (fR (S).fr))],[],[1000000,1000002]⟩ Z Z λβ=>?_;have hf:=func107
 repeat' (first|refine mQ ?_|refine ai.mB hX kn Z Z Z Z Z Z Z Z Z Z Z Z Z Z Z (fR S.fr) [] (aba _).symm (xH _).symm (B3 _) Z Z Z Z Z Z Z (show((fR S.fr).length+1)*64<=_ by rw[xH];omega) (B4 ⟨H,0,fin,T⟩ S.fr).symm (xH _) Z ?_|(refine uA Z ?_ ?_<;>(try (show(_:Nat)*_<=_;dsimp only))))
 exact ZT hf Z Z Z Z Z Z Z Z
end Go.Proofs
namespace Go.Proofs
open Go.cB
attribute [local irreducible] AK ai aR bW dG
def MP(S:bE)(n:Nat)(K:n<=3)(Q:S.st.length<=1099511627776):b8 132 S [.c (aA (n:Nat))] (match iQ n S.st with|some (l,_) => .fG [.sl 7 (aa l),.bool true]|none => .fG [.sl 0 [],.bool false]) {S with st:=match iQ n S.st with|some (_,r)=>r|none=>[]}:=by
 generalize Y:iQ n S.st=res;refine mn func132 call132 λβ hf=>?_;refine dnm ?_;refine AK.fQ [(1000000,1000000),(3001,1000001),(3002,1000002)] [(3006,(0,none))] (env':=[(0,.ptr 1000000 0),(9,.c (aA (n:Nat))),(10,.c (aA (([]:L Vl).length:Nat))),(6,.own (.tok 3006 0) 7 (aa []))])
  (bs':=[(1000000,mC {S with st:=S.st} 3001 3002),(3001,ah (sR S.st)),(3002,ah (fR S.fr))]) (ts':=[(3006,0)]) (us':=[1000000,3001,3002,3006])
  ce  (Wt Z Z Z Z Z Z Z Z Z) Z ?_
 refine AK.dI (α:=L Vl×L Vl) (λz=>res=(iQ (n-z.1.length) z.2).map (λq=>(z.1++q.1,q.2))/\z.1.length<=n/\z.2.length<=1099511627776) (λz=>n-z.1.length)
  (λz=>[(0,.ptr 1000000 0),(9,.c (aA (n:Nat))),(10,.c (aA (z.1.length:Nat))),(6,.own (.tok 3006 0) 7 (aa z.1))])
  (λz=>[(1000000,mC {S with st:=z.2} 3001 3002),(3001,ah (sR z.2)),(3002,ah (fR S.fr))]) (λ_=>[(3006,0)]) [1000000,3001,3002,3006] ([],S.st)
  ⟨by rw[<- Y];simp only[aab,Nat.sub_zero,acp];cases iQ n S.st<;>rfl,abG _,Q⟩ ⟨.inl rfl,.inl rfl,.inl rfl,.inl rfl,trivial⟩ ⟨rfl,rfl,rfl,trivial⟩ ⟨rfl,trivial⟩ rfl (XU {S with st:=S.st} rfl rfl rfl) rfl ?_
 rintro⟨l,s⟩ ⟨h1,h2,U⟩ ih;simp only at h1 h2 U;by_cases O:l.length=n
 ·have D:decide (((l.length:Nat):Int)<((n:Nat):Int))=false:=aan bn;have A:res=some (l,s):=by rw[h1,O,Nat.sub_self];simp[iQ]
  rw[A];clear ih;exact dm
 have D:decide (((l.length:Nat):Int)<((n:Nat):Int))=true:=aam bn;obtain⟨m,T⟩:∃m,n-l.length=m+1:=⟨n-l.length-1,bn⟩;cases s with
 |nil =>
  have A:res=none:=by rw[h1,T];simp[iQ]
  rw[A];clear ih;have J:=Vs {S with st:=[]} rfl;exact dm
 |cons v t =>
  simp only[aaa]at U;have P:i64.wrap (((l.length:Nat):Int)+1)=((l++[v]).length:Nat):=by rw[gM bn bn];simp only[aao,aaa,aab];omega
  have A:res=(iQ (n-(l++[v]).length) t).map (λq=>(l++[v]++q.1,q.2)):=by rw[h1,T,show n-(l++[v]).length=m from by simp only[aao,aaa,aab];omega];simp only[iQ];cases iQ m t<;>simp
  have N:(l++[v]).length<=n:=by simp only[aao,aaa,aab];omega
  have M:aa l++[bA v]=aa (l++[v]):=(ke l [v]).symm;have E:=az l;obtain⟨k,W,V,p,args,types,H⟩:=v
  repeat' (first|refine mQ ?_|refine zc ?_ ?_|(intro h;first|(cases h;done)|rw[h]|skip)|refine s9 ?_ (hq:=Tb {S with st := .mk k W V p args types H::t} _ _ rfl bn)|(refine uA rfl ?_ ?_<;>(try (show(_:Nat)*_<=_;dsimp only))))
  show(_:Nat)<=_;simp only[aaa,aab];omega;refine AK.fQ [(1000000,1000000),(3001,100014),(3002,200014)] [(3006,(0,some 3006))] (env':=[(0,.ptr 1000000 0),(9,.c (aA (n:Nat))),(10,.c (aA ((l++[Vl.mk k W V p args types H]).length:Nat))),(6,.own (.tok 3006 0) 7 (aa (l++[Vl.mk k W V p args types H])))])
   (bs':=[(1000000,mC {S with st:=t} 3001 3002),(3001,ah (sR t)),(3002,ah (fR S.fr))]) (ts':=[(3006,0)]) (us':=[1000000,3001,3002,3006])
   ⟨⟨_,Z,⟨_,Z,Z⟩⟩,⟨_,Z,.inl Z⟩,⟨_,Z,.inl (aaZ (λz=>AV.c (.int .i64 z)) P)⟩,⟨_,Z,⟨_,Z,.inr ⟨_,_,Z,Z,by rw[<- M];rfl⟩⟩⟩,trivial⟩ (Wt Z Z Z Z Z Z Z Z Z) Z ?_
  exact ih (l++[Vl.mk k W V p args types H],t) ⟨A,N,by show t.length<=_;omega⟩ (by show n-(l++[_]).length<n-l.length;simp only[aao,aaa,aab];omega)
end Go.Proofs
namespace Go.Proofs
open Go.cB
def FR{l:L Vl}{i:Nat}{v:Vl}(h:l[i]?=some v):l.drop i=v::l.drop (i+1):=by obtain⟨h1,h2⟩:=List.getElem?_eq_some_iff.1 h;rw[acv h1,h2]
attribute [local irreducible] AK ai aR bW dG lp
def qa(S:bE)(l:L Vl)(I:∀v∈l,aE v<=8589934593)(B:l.length<=1000)(hl:S.st.length+l.length<=549755813888):b8 152 S [.c (.sl 7 (aa l))] (aA (lF l S.st).1) {S with st:=(lF l S.st).2}:=by
 generalize V:lF l S.st=res;have C:=az l;refine mn func152 call152 λβ hf=>?_;refine dnm ?_;refine AK.fQ [(1000000,1000000),(3001,1000001),(3002,1000002)] [] (env':=[(0,.ptr 1000000 0),(7,.c (.sl 7 (aa l))),(8,.c (aA ((aa l).length:Nat))),(9,.c (aA (0:Nat)))])
  (bs':=[(1000000,mC {S with st:=S.st} 3001 3002),(3001,ah (sR S.st)),(3002,ah (fR S.fr))]) (ts':=[]) (us':=[1000000,3001,3002])
  ce  (Wt Z Z Z Z Z Z Z Z Z) Z ?_
 refine AK.dI (α:=Nat×L Vl) (λz=>res=lF (l.drop z.1) z.2/\z.1<=l.length/\z.2.length=S.st.length+z.1) (λz=>l.length-z.1)
  (λz=>[(0,.ptr 1000000 0),(7,.c (.sl 7 (aa l))),(8,.c (aA ((aa l).length:Nat))),(9,.c (aA (z.1:Nat)))])
  (λz=>[(1000000,mC {S with st:=z.2} 3001 3002),(3001,ah (sR z.2)),(3002,ah (fR S.fr))]) (λ_=>[]) [1000000,3001,3002] (0,S.st)
  ⟨by rw[<- V];rfl,abG _,rfl⟩ ce ⟨rfl,rfl,rfl,trivial⟩ trivial rfl (XU {S with st:=S.st} rfl rfl rfl) rfl ?_
 rintro⟨i,s⟩ ⟨h1,h2,O⟩ ih;simp only at h1 h2 O;by_cases N:i=l.length
 ·have D:decide (((i:Nat):Int)<(((aa l).length:Nat):Int))=false:=aan bn;have A:res=(0,s):=by rw[h1,N,aaW];rfl
  rw[A];clear ih;exact dm
 have D:decide (((i:Nat):Int)<(((aa l).length:Nat):Int))=true:=aam bn;have G:i<l.length:=by omega
 obtain⟨v,q⟩:∃v,l[i]?=some v:=⟨_,abe G⟩;have T:=aap q;have K:=I v T;have J:=FR q;have M:(aa l)[i]?=some (bA v):=by rw[jl,q];rfl
 obtain⟨k,Y,W,p,args,types,H⟩:=v;have Q:=DG _ K;by_cases P:lp (.mk k Y W p args types H)>200
 ·have u:decide (((lp (.mk k Y W p args types H):Nat):Int)>200)=true:=aam bn;have A:res=(13,s):=by rw[h1,J];simp only[lF,P,if_true]
  rw[A];clear ih;exact dm
 have u:decide (((lp (.mk k Y W p args types H):Nat):Int)>200)=false:=aan bn;have A:res=lF (l.drop (i+1)) (.mk k Y W p args types H::s):=by rw[h1,J];simp only[lF,P,acd]
 have E:i64.wrap (((i:Nat):Int)+1)=((i+1:Nat):Int):=by rw[gM bn bn];omega
 have U:=MM k Y W p args types H s
 repeat' (first|refine mQ ?_|refine zc ?_ ?_|(intro h;first|(cases h;done)|rw[h]|skip)|refine uI Z (i) Z (M) Z ?_|refine uC Z Q ?_|refine ai.mB hX kn Z Z Z Z Z Z Z Z Z Z Z Z Z Z Z (sR s) [] (aba _).symm (iG _).symm (ta _) Z Z Z Z Z Z Z (show((sR s).length+1)*112<=_ by rw[iG];omega) Z (m:=s.length+1) (by rw[aao,iG];rfl) Z ?_|refine ai.iT hX kn Z Z Z Z Z Z Z Z Z s.length Z (abl _) ?_|refine ai.store hX kn Z Z Z Z Z Z Z Z Z (U _ Z) Z ?_|(refine uA Z ?_ ?_<;>(try (show(_:Nat)*_<=_;dsimp only))))
 refine AK.fQ [(1000000,1000000),(3001,23),(3002,3002)] [] (env':=[(0,.ptr 1000000 0),(7,.c (.sl 7 (aa l))),(8,.c (aA ((aa l).length:Nat))),(9,.c (aA ((i+1:Nat):Int)))])
  (bs':=[(1000000,mC {S with st := .mk k Y W p args types H::s} 3001 3002),(3001,ah (sR (.mk k Y W p args types H::s))),(3002,ah (fR S.fr))]) (ts':=[]) (us':=[1000000,3001,3002])
  ⟨⟨_,Z,⟨_,Z,Z⟩⟩,⟨_,Z,.inl Z⟩,⟨_,Z,.inl Z⟩,⟨_,Z,.inl (aaZ (λz=>AV.c (.int .i64 z)) E)⟩,trivial⟩ (Wt Z Z Z Z Z Z Z Z Z) Z ?_
 exact ih (i+1,.mk k Y W p args types H::s) ⟨A,G,by show(_::s).length=_;simp only[aaa];omega⟩ nu
end Go.Proofs
