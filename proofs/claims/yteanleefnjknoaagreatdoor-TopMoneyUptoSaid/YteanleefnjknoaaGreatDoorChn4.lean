/- Package chain: -/
import Derived.Test.YteanleefnjknoaaGreatDoorChn1
set_option maxRecDepth 100000
open Go.IntKind
open Go.Proofs.Tryz
set_option linter.defProp false
set_option linter.unusedVariables false
set_option linter.unusedSimpArgs false
namespace Go.Proofs
open Go.cK
def acL{f:FuncId}{n:Nat}{β:jZ}{K:L Item}{env:Env}{S:Func}(hf:Tryz.prog.funcs[f]?=some S){bs:L (Nat×L AV)}{ts:L (Nat×Nat)}{us:L Nat}{l:L AV}(I:qF Tryz.X bs env S.results.toList=some l)
  {v:CV}(M:close (yK l)=some v){w:Wk}{cells:L AV}(h1:an 1000000 bs=some cells)(P:cells=wB w 0)(C:wO w=none){r:CV}(B:v=r) :
  Av f n β (HR β (.c r) (bO (wB w) (wO w))) (.code .ret::K) env ⟨bs,ts,us⟩:=by
 subst P B;rw[C];refine AK.yK hX hf I [(1000000,1000000)] Z (.inr M) ⟨⟨_,_,Z,h1,?_⟩,trivial⟩;have:=mo w;rw[C]at this;exact this.conv _ _ _ _ (λh=>absurd Z h)
def acM{f:FuncId}{n:Nat}{β:jZ}{K:L Item}{env:Env}{S:Func}(hf:Tryz.prog.funcs[f]?=some S){bs:L (Nat×L AV)}{ts:L (Nat×Nat)}{us:L Nat}{l:L AV}(I:qF Tryz.X bs env S.results.toList=some l)
  {v:CV}(M:close (yK l)=some v){w:Wk}{b:Nat}{cells P:L AV}{q:L CV}(h1:an 1000000 bs=some cells)(Y:cells=wB w b)(C:wO w=some q)(h2:an b bs=some P)(W:P=q.map AV.c)(O:Go.cK.distinct [1000000,b]=true){r:CV}(B:v=r) :
  Av f n β (HR β (.c r) (bO (wB w) (wO w))) (.code .ret::K) env ⟨bs,ts,us⟩:=by
 subst Y W B;rw[C];have:=mo w;rw[C]at this;refine AK.yK hX hf I [(1000000,1000000),(999992,b)] ?_ (.inr M) ⟨⟨_,_,Z,h1,this.conv _ _ _ _ (λ_=>rfl)⟩,⟨_,_,Z,h2,cN _⟩,trivial⟩;unfold tr;rw[show([(1000000,1000000),(999992,b)]:L (Nat×Nat)).map (·.2)=[1000000,b]from Z,O];rfl
def HO{l:gm}(Q:∀a∈l.br,0<=a.dr/\a.dr<=4000000){i:Nat}{a:Acc}(h:l.br[i]?=some a):0<=a.dr/\a.dr<=4000000:=Q a (aaB h)
def DP{l:gm}{F T n:Int}(h12:l.br.length=12)(h:jH l F T n=0) :
  ∃(i j:Nat) (J aT:Acc),F=i/\T=j/\l.br[i]?=some J/\l.br[j]?=some aT/\J.is≠0/\aT.is≠0/\0<=n/\n<=1152921504606846976/\n<=J.dr:=by
 unfold jH at h;split at h
 ·simp at h
 ·rename_i u;split at h
  ·simp at h
  ·rename_i H;split at h
   ·simp at h
   ·rename_i p;have h1:=ng (l:=l) (i:=F) h12 bn bn;have h2:=ng (l:=l) (i:=T) h12 bn bn;exact⟨F.toNat,T.toNat,_,_,bn,bn,h1,h2,bn,bn,bn,bn,bn⟩
def Ve{l:gm}{F T n:Int}{i j:Nat}{J aT:Acc}(h12:l.br.length=12)(I:F=i)(W:T=j)(Y:l.br[i]?=some J)(E:l.br[j]?=some aT)(q:J.is≠0)(V:aT.is≠0)(U:0<=n)(S:n<=1152921504606846976)(Q:n<=J.dr):jH l F T n=0:=by
 have h1:=(List.getElem?_eq_some_iff.1 Y).1;have h2:=(List.getElem?_eq_some_iff.1 E).1;subst I W;unfold jH;rw[iR Y,iR E,if_neg bn,if_neg bn,if_neg bn]
def uE{l:gm}{k:Nat}{z:Int}(h:l.br.length=12):(l.de k z).br.length=12:=by
 show(lC l.br k z).length=12;rw[LQ];exact h
def EB(l:gm)(h12:l.br.length=12)(Q:∀a∈l.br,0<=a.dr/\a.dr<=4000000)(F T n:Int) :
  ah 101 [.agg (eG l),ag F,ag T,ag n] (.eY [.agg (eG (if jH l F T n=0 then GY l F T n else l)),ag (jH l F T n)]):=by
 by_cases e:jH l F T n=0
 ·rw[if_pos e,e];obtain⟨i,j,J,aT,rfl,rfl,V,W,N,M,K,I,B⟩:=DP h12 e;have bF:=HO Q V;have S:i64.wrap (J.dr-n)=J.dr-n:=iy bn bn;have G:=uE (k:=i) (z:=J.dr-n) h12;obtain⟨Y,U⟩:∃a,(l.de i (J.dr-n)).br[j]?=some a:=⟨_,aea (by rw[G];have:=(List.getElem?_eq_some_iff.1 W).1;omega)⟩
  have P:0<=Y.dr/\Y.dr<=4000000:=by
   have h1:(lC l.br i (J.dr-n))[j]?=some Y:=U;rw[Aw,W]at h1;have P:=HO Q W;split at h1
   ·simp only[agC,aeO]at h1;subst h1;exact⟨by show 0<=J.dr-n;omega,by show J.dr-n<=_;omega⟩
   ·simp only[aeO]at h1;subst h1;exact P
  have O:i64.wrap (Y.dr+n)=Y.dr+n:=iy bn bn;have hq:=Ym l h12 i j J aT Y V W n (by rw[S];exact U) (by rw[S];exact G) (by rw[S,O];exact uE G) N M K I B;rw[S,O]at hq;have q:GY l i j n=(l.de i (J.dr-n)).de j (Y.dr+n):=by
   unfold GY;rw[iR V,aaC,aaC,iR U]
  rw[q];exact hq
 ·rw[if_neg e];obtain⟨e',⟨_,rfl⟩,hq⟩:=Yn l h12 F T n (λi j J aT H q E D C A u p e9=>e (Ve h12 H q E D C A u p e9));exact hq
attribute [local irreducible] AK af bg cn dP cP cU eG iO gm.de gm.lB wB
def wz{p q:Prop}(k:q)(h:q->p:=by first|exact λk=>uP Z k|exact λk=>AK.BG Z ED k|exact λk=>AK.BH Z ED k|exact λk=>uR Z k|exact λk=>af.done k|exact λk=>uS Z k|exact λk=>uB Z k|exact λk=>O1 Z Z k|exact λk=>af.drawn (by kernel_rfl) k|exact λk=>af.qG hX kn Z Z Z Z Z Z Z Z Z (by assumption) k|exact λk=>af.dD hX kn Z Z Z Z Z Z (by assumption) (by rfl) k|exact λk=>af.dD hX kn Z Z Z Z Z Z Z (eK (by assumption) Z Z) k|exact λk=>af.dD hX kn Z Z Z Z Z Z Z (afo _ _ (by assumption) Z Z) k|exact λk=>af.dD hX kn Z Z Z Z Z Z (by first|exact aaM _ _ (by assumption)|exact acK _ _ (by assumption)|exact Yi _ _ (by assumption)|exact Yj _ _ (by assumption)|exact S0 _ _ (by assumption)|exact Yk _ _ (by assumption)) (by rfl) k|exact λk=>af.store hX kn Z Z Z Z Z Z Z Z Z (by first|exact Yl _ _ (by assumption) _|exact Va _ _ (by assumption) _|exact Vb _ _ (by assumption) _|exact O0 _ _ (by assumption) _) Z k|exact λk=>af.store hX kn Z Z Z Z Z Z Z Z (jr (by assumption) Z) (acJ _ _ (by assumption) (by assumption)) Z k|exact λk=>af.store hX kn Z Z Z Z Z Z Z Z Z (by assumption) (by rfl) k|exact λk=>af.store hX kn Z Z Z Z Z Z Z (js _) (jr (by assumption) Z) (hD (by assumption) Z) Z k|exact λk=>af.store hX kn Z Z Z Z Z Z Z (js _) (jr (by assumption) Z) (hD (by assumption) (jR (by assumption))) Z k|exact λk=>af.store hX kn Z Z Z Z Z Z Z Z (jr (by assumption) Z) (hD (by assumption) Z) Z k|exact λk=>af.store hX kn Z Z Z Z Z Z Z Z (jr (by assumption) Z) (by assumption) Z k|exact λk=>af.box kn Z Z Z Z (js _) Z k|exact λk=>af.LR kn Z Z Z (tu Z Z) (by assumption) k|exact λk=>uC Z (by assumption) k|exact λk=>af.DO hX kn Z Z Z Z Z Z Z Z (m:=0) Z (by decide) Z k|exact λk=>af.DO hX kn Z Z Z Z Z Z Z Z (m:=1) Z (by decide) Z k|exact λk=>uI Z 0 Z Z Z k|exact λk=>uI Z 1 Z Z Z k|exact λk=>uI Z _ Z (by assumption) Z k|exact λk=>AK.skip k|exact λk=>AK.seq k|exact λk=>AK.block k|exact λk=>AK.exit Z k|exact λk=>af.pM Z Z Z XV k|exact λk=>af.pN Z Z Z XV k):p:=h k
def wr{p:Prop}(h:p:=by first|exact acL hf Z Z Z Z (by assumption) Z|exact acM hf Z Z Z Z (by assumption) Z Z Z Z):p:=h
def LS(o:BD):Prop:=bM o.arg<=1048576/\bM o.t0<=1048576/\bM o.t1<=1048576/\bM o.code<=1048576
def Dw(x:Au):Prop:=match x.op with
 |none=>gH (.mk 8 []) x.val=true/\aM x.val<=12400000/\4<=x.fT
 |some o=>LS o
def LU{v:Vl}(h:gH (.mk 8 []) v=true):∃n a t ts y,v = .mk 8 n a [] [y] (t::ts) []/\0<=n/\n<=bN/\bB t=true/\gH t y=true:=by
 unfold gH nG at h;simp only[aai]at h;obtain⟨⟨_,O⟩,hs⟩:=h;obtain⟨k,n,a,s,J,B,code⟩:=v;obtain⟨D,Y,_⟩:=iS O;simp only[bS]at D;subst D;simp[cz]at Y;obtain⟨h1,rfl,rfl⟩:=Y;rcases B with _|⟨t,_|⟨T,ts⟩⟩
 ·simp at h1
 ·simp[bL,cz,bS]at O;rcases J with _|⟨y,_|⟨z,r⟩⟩
  ·simp at O
  ·simp[aS,eP,eg]at O hs;refine⟨n,a,t,[],y,Z,bn,O.1.1.2.1,O.1.2,?_⟩;unfold gH nG;simp[O,hs]
  ·simp at O
 ·simp at h1
def wj(x:Au)(t:Ty)(I:bw t<=8589934593)(O:Dw x):ah 102 [kE x,dg t] (.eY [bH (ov x t).1,ag (ov x t).2]):=by
 obtain⟨fT,K,v⟩:=x;obtain⟨T,ts⟩:=t;cases K with
 |none =>
  obtain⟨n,a,⟨U,us⟩,r,⟨N,G,M,u,J,H,E⟩,rfl,_⟩:=LU O.1;have D:=O.2.1;have hq:=gU (.mk U us) (.mk T ts) (by simp only[aM,aO,bz,bw]at D ⊢;omega);unfold ov;simp only[GX,eC,aaf];cases Y:dh (.mk U us) (.mk T ts)with
  |true =>
   rw[Y]at hq;rw[if_pos rfl];refine qn func102 call102 λβ hf=>?_
   repeat' (first|refine sz ?_|refine zc ?_ ?_|(intro h;first|(cases h;done)|rw[h]|skip)|refine uC Z hq ?_)
   all_goals rfl
  |false =>
   rw[Y]at hq;rw[if_neg bT];refine qn func102 call102 λβ hf=>?_
   repeat' (first|refine sz ?_|refine zc ?_ ?_|(intro h;first|(cases h;done)|rw[h]|skip)|refine uC Z hq ?_)
   all_goals rfl
 |some o =>
  have hq:=nH (.mk T ts) o.arg I (by have:=O.1;omega);obtain⟨W,to,B,⟨V,a2,Q,P,C⟩,⟨A,q,p,b4,b5⟩,⟨c1,c2,c3,c4,c5⟩,⟨d1,d2,d3,d4,d5⟩⟩:=o;obtain⟨v1,v2,v3,v4,v5,v6,v7⟩:=v;unfold ov;simp only at hq ⊢;generalize gD (.mk T ts) (.mk V a2 Q P C)=r at hq ⊢;obtain⟨⟨r1,r2,r3,r4,r5,r6,r7⟩,e⟩:=r;by_cases S:e=0
  ·subst S;rw[if_pos rfl];refine qn func102 call102 λβ hf=>?_
   repeat' (first|refine sz ?_|refine zc ?_ ?_|(intro h;first|(cases h;done)|rw[h]|skip)|refine uC Z hq ?_)
   all_goals rfl
  ·rw[if_neg S];have e1:(e != 0)=true:=by simpa using S
   refine qn func102 call102 λβ hf=>?_
   repeat' (first|refine sz ?_|refine zc ?_ ?_|(intro h;first|(cases h;done)|rw[h]|skip)|refine uC Z hq ?_)
   all_goals rfl
end Go.Proofs
set_option maxHeartbeats 0
namespace Go.Proofs
open Go.cK
def S3(a:Acc):Prop:=bw a.param+bw a.store<=2097152/\aU a.code<=1048576/\aM a.keep<=12400000
structure wo(l:gm):Prop where
 h12:l.br.length=12
 good:qC l=true
 size:∀a∈l.br,S3 a
structure Ld(w:Wk):Prop where
 Dx:wo w.l
 cC:0<=w.cC/\0<=w.used/\w.cC+w.used<=3000
 az:0<=w.az/\w.az<=bN
 done:0<=w.done/\w.done<=24
 UA:(w.made.length:Int)<=w.done+1
def wo.dr{l:gm}(h:wo l):∀a∈l.br,0<=a.dr/\a.dr<=4000000:=ql _ _ (iL.1 h.good).2.1
def EE:∀(l:L Acc)(i:Nat)(z:Int),(∀a∈l,S3 a)->∀a∈lC l i z,S3 a
 |[],_,_,_=>λa ha=>by simp[lC]at ha
 |x::l,0,z,h=>λa ha=>by
  rcases List.mem_cons.1 ha with rfl|ha
  ·exact h x cS
  ·exact h a (by simp[ha])
 |x::l,i+1,z,h=>λa ha=>by
  rcases List.mem_cons.1 ha with rfl|ha
  ·exact h a cS
  ·exact EE l i z (λb Q=>h b (by simp[Q])) a ha
def Jz{l:gm}{F T n:Int}(h:wo l)(e:jH l F T n=0):wo (GY l F T n)/\∃j:Nat,T=j/\j<12/\(iG (GY l F T n) T).is≠0:=by
 obtain⟨i,j,J,aT,rfl,rfl,V,U,Q,P,O,M,B⟩:=DP h.h12 e;obtain⟨K,Y,S,_,W,I,A,N,_⟩:=S4 h.good V U Q P O B;have q:GY l i j n=(l.de i (J.dr-n)).de j (Y.dr+n):=by
  unfold GY;rw[iR V,aaC,aaC,iR S]
 have E:((l.de i (J.dr-n)).de j (Y.dr+n)).br[j]?=some (Y.de (Y.dr+n)):=by
  show(lC (l.de i (J.dr-n)).br j (Y.dr+n))[j]?=_;rw[Aw,if_pos Z,S];rfl
 rw[q];refine⟨⟨uE (uE h.h12),N,EE _ _ _ (EE _ _ _ h.size)⟩,j,Z,?_,?_⟩
 ·have:=(List.getElem?_eq_some_iff.1 U).1;have:=h.h12;omega
 ·rw[iR E];exact W
def tv{l:gm}{i:Nat}{a:Acc}(h:l.br.length=12):(l.lB i a).br.length=12:=by
 show(l.br.set i a).length=12;rw[agD];exact h
def iH:∀l:L Au,(dU l).length=l.length
 |[]=>rfl
 |x::l=>by simp only[dU,aac,iH l]
def rU:∀a b:L Au,dU (a++b)=dU a++dU b
 |[],_=>rfl
 |x::a,b=>by simp only[adU,dU,rU a b]
def HP(j:Int){J:L Vl}{i:Nat}{x:Vl}(h:J[i]?=some x):dU ((J.take i).map (tj j))++[kE (tj j x)]=dU ((J.take (i+1)).map (tj j)):=by
 rw[List.take_add_one,h,Option.toList_some,aeC,rU];rfl
def LW(us:L Nat):∀(a b:L AV),o9 us a=true->o9 us b=true->o9 us (a++b)=true
 |[],_,_,h=>h
 |x::a,b,h1,h2=>by
  simp only[adU,o9]at h1 ⊢;cases O:HQ us x with
  |true=>rw[O]at h1;exact LW us a b h1 h2
  |false=>rw[O]at h1;cases h1
def JA{w:Wk}{b:Nat}{us:L Nat}(h:wO w≠none->mem b us=true):o9 us (wB w b)=true:=by
 refine LW us _ _ (mJ us _) ?_;obtain⟨l,E,done,K,W,I⟩:=w;cases I with
 |nil=>rfl
 |cons x r =>
  have:=h (by simp[wO]);simp only[rS,o9,HQ,this]
def wu{w:Wk}{b:Nat}{us:L Nat}{bs:L (Nat×L AV)}(h:wO w≠none->mem b us=true)(h2:both (mem 1000000 us) (okB us bs)=true):okB us ((1000000,wB w b)::bs)=true:=by
 obtain⟨V,S⟩:=ej h2;simp only[okB,V,JA h,S]
def jI{us:L Nat}{k:Nat}{a:L AV}{l:L (Nat×L AV)}(h1:mem k us=true)(h2:o9 us a=true)(V:okB us l=true):okB us ((k,a)::l)=true:=by
 simp only[okB,h1,h2];exact V
def LX{us:L Nat}{k:Nat}{z:L CV}(h:mem k us=true):okB us [(k,z.map AV.c)]=true:=by
 simp only[okB,h,Ax]
def yR(r:L Au×Int):CV := .eY [.sl 9 (dU r.1),ag r.2]
def LY(e:Int):∀g u,aL g (.c (.eY [.sl 0 [],ag e])) u->aL g (.c (yR ([],e))) u:=by
 intro g u h;unfold yR;simp only[aL,dU]at h ⊢;rw[Rel]at h ⊢;obtain⟨vs,I,W,G⟩:=h;refine⟨vs,I,?_,cS⟩;rw[bR]at W ⊢;obtain⟨u,us,P,Y,B⟩:=W;exact⟨u,us,P,JB Y,B⟩
def Le{f:FuncId}{S:Func}{c:Code}{w w':Wk}{J:L AV}{r:CV}{env:Env}(C:wO w=none)(hf:Tryz.prog.funcs[f]?=some S)(B:Enters Tryz.prog f)(k:∀β,Tryz.prog.funcs[f]?=some S->Av f S.ntmps β (HR β (.c r) (bO (wB w') (wO w'))) [.code c] env ⟨[(1000000,wB w 0)],[],[1000000]⟩)
  (Q:S.body=some c:=by exact Z)(V:(AV.ptr 1000000 0::J).length<=S.ntmps:=by exact aep Z)(q:JC 0 (AV.ptr 1000000 0::J)=env:=by simp only[JC];try exact Z):gh f w J r w':=by
 unfold gh;rw[C];exact cP.of hf Q B V env _ (by rw[<- q,DQ]) Z λβ=>k β hf
def Lf{f:FuncId}{S:Func}{c:Code}{w w':Wk}{J:L AV}{r:CV}{env:Env}{q:L CV}(C:wO w=some q)(hf:Tryz.prog.funcs[f]?=some S)(B:Enters Tryz.prog f)(k:∀β,Tryz.prog.funcs[f]?=some S->Av f S.ntmps β (HR β (.c r) (bO (wB w') (wO w'))) [.code c] env ⟨[(1000000,wB w 1000002),(1000002,q.map AV.c)],[],[1000000,1000002]⟩)
  (Q:S.body=some c:=by exact Z)(V:(AV.ptr 1000000 0::J).length<=S.ntmps:=by exact aep Z)(D:JC 0 (AV.ptr 1000000 0::J)=env:=by simp only[JC];try exact Z):gh f w J r w':=by
 unfold gh;rw[C];exact cP.of hf Q B V env _ (by rw[<- D,DQ]) Z λβ=>k β hf
attribute [local irreducible] AK af bg cn dP cP cU eG iO gm.de gm.lB wB
def LZ(l:gm)(E done K W:Int)(I:L Int)(fT:Int)(Y:Option BD)(V M T:Int)(Q:L UInt8)(N:L Vl)(U:L Ty)(P:L Nd)(to n e:Int)(h12:l.br.length=12)(S:e≠0)
  (O:ah 101 [.agg (eG l),ag fT,ag to,ag n] (.eY [.agg (eG l),ag e])) :
  gh 62 ⟨l,E,done,K,W,I⟩ [.c (kE ⟨fT,Y,.mk V M T Q N U P⟩),.c (ag to),.c (ag n)] (.eY [.sl 0 [],ag e]) ⟨l,E,done,K,W,I⟩:=by
 have J:(e != 0)=true:=by simpa using S
 cases C:wO ⟨l,E,done,K,W,I⟩with
 |none =>
  refine Le C func62 call62 λβ hf=>?_
  repeat' (first|exact wr|refine wz ?_)
 |some q =>
  refine Lf C func62 call62 λβ hf=>?_
  repeat' (first|exact wr|refine wz ?_)
def L1(l:gm)(E done K W:Int)(I:L Int)(fT:Int)(V:Option BD)(U M T:Int)(Q:L UInt8)(N:L Vl)(S:L Ty)(P:L Nd)(n:Int)(h12:l.br.length=12)(Ll:gm)(UB:Ll.br.length=12)(j:Nat)(lj:Nat.blt j 12=true)(J dr Y H:Int)(G:L Ty)(D:Int)(B:L Ty)(code:L Nd)(u A q:Int)(p:L UInt8)(k5:L Vl)(k6:L Ty)(k7:L Nd)(ha:Ll.br[j]?=some ⟨J,dr,Y,.mk H G,.mk D B,code,.mk u A q p k5 k6 k7⟩)(OG:(J==1)=true)(r1 r2 r3:Int)(r4:L UInt8)(r5:L Vl)(r6:L Ty)(r7:L Nd)(e:Int)(he:(e != 0)=true)(Dy:ah 101 [.agg (eG l),ag fT,ag j,ag n] (.eY [.agg (eG Ll),ag 0]))
  (Vf:ah 102 [kE ⟨fT,V,.mk U M T Q N S P⟩,dg (.mk 1 [])] (.eY [bH (.mk r1 r2 r3 r4 r5 r6 r7),ag e])) :
  gh 62 ⟨l,E,done,K,W,I⟩ [.c (kE ⟨fT,V,.mk U M T Q N S P⟩),.c (ag j),.c (ag n)] (.eY [.sl 0 [],ag e]) ⟨l,E,done,K,W,I⟩:=by
 obtain⟨qq,C⟩:=sL ha;have d0:=C 0 _ Z;have d1:=C 1 _ Z;have d3:=C 3 _ Z;have d5:=C 5 _ Z;have d7:=C 7 _ Z;have d8:=C 8 _ Z;clear C;cases O:wO ⟨l,E,done,K,W,I⟩with
 |none =>
  refine Le O func62 call62 λβ hf=>?_
  repeat' (first|exact wr|refine wz ?_)
 |some z =>
  refine Lf O func62 call62 λβ hf=>?_
  repeat' (first|exact wr|refine wz ?_)
def L2(l:gm)(E done K W:Int)(I:L Int)(fT:Int)(V:Option BD)(U M T:Int)(Q:L UInt8)(N:L Vl)(S:L Ty)(P:L Nd)(n:Int)(h12:l.br.length=12)(Ll:gm)(UB:Ll.br.length=12)(j:Nat)(lj:Nat.blt j 12=true)(J dr Y H:Int)(G:L Ty)(D:Int)(B:L Ty)(code:L Nd)(u A q:Int)(p:L UInt8)(k5:L Vl)(k6:L Ty)(k7:L Nd)(ha:Ll.br[j]?=some ⟨J,dr,Y,.mk H G,.mk D B,code,.mk u A q p k5 k6 k7⟩)(OG:(J==1)=true)(r1 r2 r3:Int)(r4:L UInt8)(r5:L Vl)(r6:L Ty)(r7:L Nd)(Dy:ah 101 [.agg (eG l),ag fT,ag j,ag n] (.eY [.agg (eG Ll),ag 0]))
  (Vf:ah 102 [kE ⟨fT,V,.mk U M T Q N S P⟩,dg (.mk 1 [])] (.eY [bH (.mk r1 r2 r3 r4 r5 r6 r7),ag 0])) :
  gh 62 ⟨l,E,done,K,W,I⟩ [.c (kE ⟨fT,V,.mk U M T Q N S P⟩),.c (ag j),.c (ag n)] (.eY [.sl 0 [],ag 0]) ⟨Ll,E,done,K,W,I⟩:=by
 obtain⟨qq,C⟩:=sL ha;have d0:=C 0 _ Z;have d1:=C 1 _ Z;have d3:=C 3 _ Z;have d5:=C 5 _ Z;have d7:=C 7 _ Z;have d8:=C 8 _ Z;clear C;cases O:wO ⟨l,E,done,K,W,I⟩with
 |none =>
  refine Le O func62 call62 λβ hf=>?_
  repeat' (first|exact wr|refine wz ?_)
 |some z =>
  refine Lf O func62 call62 λβ hf=>?_
  repeat' (first|exact wr|refine wz ?_)
def O2(l:gm)(E done K W:Int)(I:L Int)(fT:Int)(V:Option BD)(U M T:Int)(Q:L UInt8)(N:L Vl)(S:L Ty)(P:L Nd)(n:Int)(h12:l.br.length=12)(Ll:gm)(UB:Ll.br.length=12)(j:Nat)(lj:Nat.blt j 12=true)(J dr Y O:Int)(H:L Ty)(D:Int)(B:L Ty)(code:L Nd)(u A q:Int)(p:L UInt8)(k5:L Vl)(k6:L Ty)(k7:L Nd)(ha:Ll.br[j]?=some ⟨J,dr,Y,.mk O H,.mk D B,code,.mk u A q p k5 k6 k7⟩)(OG:(J==1)=false)(r1 r2 r3:Int)(r4:L UInt8)(r5:L Vl)(r6:L Ty)(r7:L Nd)(e:Int)(he:(e != 0)=true)(Dy:ah 101 [.agg (eG l),ag fT,ag j,ag n] (.eY [.agg (eG Ll),ag 0]))
  (Vf:ah 102 [kE ⟨fT,V,.mk U M T Q N S P⟩,dg (.mk O H)] (.eY [bH (.mk r1 r2 r3 r4 r5 r6 r7),ag e])) :
  gh 62 ⟨l,E,done,K,W,I⟩ [.c (kE ⟨fT,V,.mk U M T Q N S P⟩),.c (ag j),.c (ag n)] (.eY [.sl 0 [],ag e]) ⟨l,E,done,K,W,I⟩:=by
 obtain⟨qq,C⟩:=sL ha;have d0:=C 0 _ Z;have d1:=C 1 _ Z;have d3:=C 3 _ Z;have d5:=C 5 _ Z;have d7:=C 7 _ Z;have d8:=C 8 _ Z;clear C;cases G:wO ⟨l,E,done,K,W,I⟩with
 |none =>
  refine Le G func62 call62 λβ hf=>?_
  repeat' (first|exact wr|refine wz ?_)
 |some z =>
  refine Lf G func62 call62 λβ hf=>?_
  repeat' (first|exact wr|refine wz ?_)
def O3(l:gm)(E done K W:Int)(I:L Int)(fT:Int)(T:Option BD)(S Q A:Int)(G:L UInt8)(N:L Vl)(P:L Ty)(O:L Nd)(n:Int)(h12:l.br.length=12)(Ll:gm)(UB:Ll.br.length=12)(j:Nat)(lj:Nat.blt j 12=true)(J dr Y V:Int)(M:L Ty)(H:Int)(B:L Ty)(code:L Nd)(u D q:Int)(p:L UInt8)(k5:L Vl)(k6:L Ty)(k7:L Nd)(ha:Ll.br[j]?=some ⟨J,dr,Y,.mk V M,.mk H B,code,.mk u D q p k5 k6 k7⟩)(OG:(J==1)=false)(r1 r2 r3:Int)(r4:L UInt8)(r5:L Vl)(r6:L Ty)(r7:L Nd)(Dy:ah 101 [.agg (eG l),ag fT,ag j,ag n] (.eY [.agg (eG Ll),ag 0]))
  (Vf:ah 102 [kE ⟨fT,T,.mk S Q A G N P O⟩,dg (.mk V M)] (.eY [bH (.mk r1 r2 r3 r4 r5 r6 r7),ag 0]))
  (c g m:Int)(st:L Vl)(U:Vl)(hrun:ah 11 [.agg [ag j,ag fT,ag n,ag dr],aW (.mk 3 0 0 [] code),.sl 2 (aA [.mk 11 [.mk V M,.mk H B]]),.sl 7 (aa [.mk 11 0 0 [] [.mk r1 r2 r3 r4 r5 r6 r7,.mk u D q p k5 k6 k7] [] []]),ag E] (mu c st U g m))(hc:(c != 0)=true) :
  gh 62 ⟨l,E,done,K,W,I⟩ [.c (kE ⟨fT,T,.mk S Q A G N P O⟩),.c (ag j),.c (ag n)] (.eY [.sl 0 [],ag c]) ⟨l,i64.wrap (E-g),done,i64.wrap (K+g),W,I⟩:=by
 obtain⟨qq,C⟩:=sL ha;have d0:=C 0 _ Z;have d1:=C 1 _ Z;have d3:=C 3 _ Z;have d5:=C 5 _ Z;have d7:=C 7 _ Z;have d8:=C 8 _ Z;clear C;cases hm:wO ⟨l,E,done,K,W,I⟩with
 |none =>
  refine Le hm func62 call62 λβ hf=>?_
  repeat' (first|exact wr|refine wz ?_)
 |some z =>
  refine Lf hm func62 call62 λβ hf=>?_
  repeat' (first|exact wr|refine wz ?_)
def O4(l:gm)(E done K W:Int)(I:L Int)(fT:Int)(T:Option BD)(S Q A:Int)(G:L UInt8)(N:L Vl)(P:L Ty)(O:L Nd)(n:Int)(h12:l.br.length=12)(Ll:gm)(UB:Ll.br.length=12)(j:Nat)(lj:Nat.blt j 12=true)(J dr Y V:Int)(M:L Ty)(H:Int)(B:L Ty)(code:L Nd)(u D q:Int)(p:L UInt8)(k5:L Vl)(k6:L Ty)(k7:L Nd)(ha:Ll.br[j]?=some ⟨J,dr,Y,.mk V M,.mk H B,code,.mk u D q p k5 k6 k7⟩)(OG:(J==1)=false)(r1 r2 r3:Int)(r4:L UInt8)(r5:L Vl)(r6:L Ty)(r7:L Nd)(Dy:ah 101 [.agg (eG l),ag fT,ag j,ag n] (.eY [.agg (eG Ll),ag 0]))
  (Vf:ah 102 [kE ⟨fT,T,.mk S Q A G N P O⟩,dg (.mk V M)] (.eY [bH (.mk r1 r2 r3 r4 r5 r6 r7),ag 0]))
  (c g m:Int)(st:L Vl)(U:Vl)(hrun:ah 11 [.agg [ag j,ag fT,ag n,ag dr],aW (.mk 3 0 0 [] code),.sl 2 (aA [.mk 11 [.mk V M,.mk H B]]),.sl 7 (aa [.mk 11 0 0 [] [.mk r1 r2 r3 r4 r5 r6 r7,.mk u D q p k5 k6 k7] [] []]),ag E] (mu c st U g m))(hc:(c != 0)=false)(hm:decide (W>i64.wrap (1152921504606846976-m))=true) :
  gh 62 ⟨l,E,done,K,W,I⟩ [.c (kE ⟨fT,T,.mk S Q A G N P O⟩),.c (ag j),.c (ag n)] (.eY [.sl 0 [],ag 11]) ⟨l,i64.wrap (E-g),done,i64.wrap (K+g),W,I⟩:=by
 obtain⟨qq,C⟩:=sL ha;have d0:=C 0 _ Z;have d1:=C 1 _ Z;have d3:=C 3 _ Z;have d5:=C 5 _ Z;have d7:=C 7 _ Z;have d8:=C 8 _ Z;clear C;cases Lg:wO ⟨l,E,done,K,W,I⟩with
 |none =>
  refine Le Lg func62 call62 λβ hf=>?_
  repeat' (first|exact wr|refine wz ?_)
 |some z =>
  refine Lf Lg func62 call62 λβ hf=>?_
  repeat' (first|exact wr|refine wz ?_)
def L3(l:gm)(E done K P:Int)(I:L Int)(fT:Int)(op:Option BD)(v1 v2 v3:Int)(v4:L UInt8)(v5:L Vl)(v6:L Ty)(v7:L Nd)(n:Int)(h12:l.br.length=12)(Ll:gm)(UB:Ll.br.length=12)(j:Nat)(lj:Nat.blt j 12=true)(D dr Y W:Int)(M:L Ty)(C:Int)(S:L Ty)(code:L Nd)(k1 k2 k3:Int)(k4:L UInt8)(k5:L Vl)(k6:L Ty)(k7:L Nd)(ha:Ll.br[j]?=some ⟨D,dr,Y,.mk W M,.mk C S,code,.mk k1 k2 k3 k4 k5 k6 k7⟩)(OG:(D==1)=false)(r1 r2 r3:Int)(r4:L UInt8)(r5:L Vl)(r6:L Ty)(r7:L Nd)(Dy:ah 101 [.agg (eG l),ag fT,ag j,ag n] (.eY [.agg (eG Ll),ag 0]))
  (Vf:ah 102 [kE ⟨fT,op,.mk v1 v2 v3 v4 v5 v6 v7⟩,dg (.mk W M)] (.eY [bH (.mk r1 r2 r3 r4 r5 r6 r7),ag 0]))
  (c g m:Int)(st:L Vl)(B:Vl)(o1 o2 o3:Int)(o4:L UInt8)(o6:L Ty)(o7:L Nd)(p1 p2 p3:Int)(p4:L UInt8)(J:L Vl)(p6:L Ty)(p7:L Nd)(q1 V H:Int)(O:L UInt8)(U:L Vl)(T:L Ty)(Q:L Nd)(hlen:J.length<=1000000)(hrun:ah 11 [.agg [ag j,ag fT,ag n,ag dr],aW (.mk 3 0 0 [] code),.sl 2 (aA [.mk 11 [.mk W M,.mk C S]]),.sl 7 (aa [.mk 11 0 0 [] [.mk r1 r2 r3 r4 r5 r6 r7,.mk k1 k2 k3 k4 k5 k6 k7] [] []]),ag E] (mu c (.mk o1 o2 o3 o4 [.mk p1 p2 p3 p4 J p6 p7,.mk q1 V H O U T Q] o6 o7::st) B g m))(hc:(c != 0)=false)(hm:decide (P>i64.wrap (1152921504606846976-m))=false) :
  gh 62 ⟨l,E,done,K,P,I⟩ [.c (kE ⟨fT,op,.mk v1 v2 v3 v4 v5 v6 v7⟩),.c (ag j),.c (ag n)] (yR (J.map (tj j),0)) ⟨Ll.lB j ⟨D,dr,Y,.mk W M,.mk C S,code,.mk q1 V H O U T Q⟩,i64.wrap (E-g),done,i64.wrap (K+g),i64.wrap (P+m),I⟩:=by
 obtain⟨qq,G⟩:=sL ha;have d0:=G 0 _ Z;have d1:=G 1 _ Z;have d3:=G 3 _ Z;have d5:=G 5 _ Z;have d7:=G 7 _ Z;have d8:=G 8 _ Z;clear G;have w8:=Ez ha (b:=⟨D,dr,Y,.mk W M,.mk C S,code,.mk q1 V H O U T Q⟩) (k:=8) (cs:=[.c (ag q1),.c (ag V),.c (ag H),.c (.str O),.c (.sl 7 (aa U)),.c (.sl 2 (aA T)),.c (.sl 5 (aH Q))]) Z;have M12:=tv (i:=j) (a:=⟨D,dr,Y,.mk W M,.mk C S,code,.mk q1 V H O U T Q⟩) UB;cases A:wO ⟨l,E,done,K,P,I⟩with
 |none =>
  refine Le A func62 call62 λβ hf=>?_
  repeat' (first|exact wr|refine wz ?_)
  refine AK.fV [(1000000,1000000)] [(6000,(0,none))] (env':=[(177,.c (ag ((0:Nat)))),(176,.c (ag (aa J).length)),(175,.c (.sl 7 (aa J))),(2,.c (ag j)),(20,.own (.tok 6000 0) 9 ([]))]) (bs':=[(1000000,wB ⟨Ll.lB j ⟨D,dr,Y,.mk W M,.mk C S,code,.mk q1 V H O U T Q⟩,i64.wrap (E-g),done,i64.wrap (K+g),i64.wrap (P+m),I⟩ 0)]) (ts':=[(6000,0)]) (us':=[1000000,6000])
   ce  ⟨⟨_,_,Z,Z,(mo ⟨Ll.lB j ⟨D,dr,Y,.mk W M,.mk C S,code,.mk q1 V H O U T Q⟩,i64.wrap (E-g),done,i64.wrap (K+g),i64.wrap (P+m),I⟩).conv _ _ _ _ (λh=>absurd A h)⟩,trivial⟩ Z ?_
  refine AK.eL (α:=Nat) (λi=>i<=J.length) (λi=>J.length-i) (λi=>[(177,.c (ag ((i:Nat)))),(176,.c (ag (aa J).length)),(175,.c (.sl 7 (aa J))),(2,.c (ag j)),(20,.own (.tok 6000 0) 9 (dU ((J.take i).map (tj j))))]) (λ_=>[(1000000,wB ⟨Ll.lB j ⟨D,dr,Y,.mk W M,.mk C S,code,.mk q1 V H O U T Q⟩,i64.wrap (E-g),done,i64.wrap (K+g),i64.wrap (P+m),I⟩ 0)]) (λ_=>[(6000,0)]) [1000000,6000] 0
   (aeE _) ce ⟨Z,trivial⟩ ⟨Z,trivial⟩ Z (wu (λh=>absurd A h) Z) Z ?_
  intro i hi q;rcases iq J i hi with ⟨x,u,UC⟩|p
  ·have hc:=wv u;have h2:=bD u;have N:=HP (j:Int) u;obtain⟨x1,x2,x3,x4,x5,x6,x7⟩:=x
   repeat' (first|exact wr|refine wz ?_|refine uI Z (i) Z (fA u) Z ?_|(refine uA Z ?_ ?_<;>(try (show(_:Nat)*_<=_;dsimp only))))
   ·simp only[iH,aeA,aeD,aac,aad];omega
   ·refine AK.fV [(1000000,1000000)] [(6000,(0,some 6000))] (env':=[(177,.c (ag (((i+1:Nat):Int)))),(176,.c (ag (aa J).length)),(175,.c (.sl 7 (aa J))),(2,.c (ag j)),(20,.own (.tok 6000 0) 9 (dU ((J.take (i+1)).map (tj j))))]) (bs':=[(1000000,wB ⟨Ll.lB j ⟨D,dr,Y,.mk W M,.mk C S,code,.mk q1 V H O U T Q⟩,i64.wrap (E-g),done,i64.wrap (K+g),i64.wrap (P+m),I⟩ 0)]) (ts':=[(6000,0)]) (us':=[1000000,6000])
     ⟨⟨_,Z,.inl (ku (i:=i) bn)⟩,⟨_,Z,.inl Z⟩,⟨_,Z,.inl Z⟩,⟨_,Z,.inl Z⟩,⟨_,Z,⟨_,Z,.inr ⟨_,_,Z,Z,aeb (AV.own (.tok 6000 1) 9) N⟩⟩⟩,trivial⟩ ⟨⟨_,_,Z,Z,(mo ⟨Ll.lB j ⟨D,dr,Y,.mk W M,.mk C S,code,.mk q1 V H O U T Q⟩,i64.wrap (E-g),done,i64.wrap (K+g),i64.wrap (P+m),I⟩).conv _ _ _ _ (λh=>absurd A h)⟩,trivial⟩ Z ?_
    exact q (i+1) bn bn
  ·have hc:=rV p;rw[show yR (J.map (tj j),0)=yR ((J.take i).map (tj j),0)by rw[p,ahr]];clear q
   repeat' (first|exact wr|refine wz ?_)
 |some z =>
  refine Lf A func62 call62 λβ hf=>?_
  repeat' (first|exact wr|refine wz ?_)
  refine AK.fV [(1000000,1000000),(1000002,1000002)] [(6000,(0,none))] (env':=[(177,.c (ag ((0:Nat)))),(176,.c (ag (aa J).length)),(175,.c (.sl 7 (aa J))),(2,.c (ag j)),(20,.own (.tok 6000 0) 9 ([]))]) (bs':=[(1000000,wB ⟨Ll.lB j ⟨D,dr,Y,.mk W M,.mk C S,code,.mk q1 V H O U T Q⟩,i64.wrap (E-g),done,i64.wrap (K+g),i64.wrap (P+m),I⟩ 1000002),(1000002,z.map AV.c)]) (ts':=[(6000,0)]) (us':=[1000000,1000002,6000])
   ce  ⟨⟨_,_,Z,Z,(mo ⟨Ll.lB j ⟨D,dr,Y,.mk W M,.mk C S,code,.mk q1 V H O U T Q⟩,i64.wrap (E-g),done,i64.wrap (K+g),i64.wrap (P+m),I⟩).conv _ _ _ _ (λ_=>rfl)⟩,⟨_,_,Z,Z,cN _⟩,trivial⟩ Z ?_
  refine AK.eL (α:=Nat) (λi=>i<=J.length) (λi=>J.length-i) (λi=>[(177,.c (ag ((i:Nat)))),(176,.c (ag (aa J).length)),(175,.c (.sl 7 (aa J))),(2,.c (ag j)),(20,.own (.tok 6000 0) 9 (dU ((J.take i).map (tj j))))]) (λ_=>[(1000000,wB ⟨Ll.lB j ⟨D,dr,Y,.mk W M,.mk C S,code,.mk q1 V H O U T Q⟩,i64.wrap (E-g),done,i64.wrap (K+g),i64.wrap (P+m),I⟩ 1000002),(1000002,z.map AV.c)]) (λ_=>[(6000,0)]) [1000000,1000002,6000] 0
   (aeE _) ce ⟨Z,Z,trivial⟩ ⟨Z,trivial⟩ Z (wu (λ_=>rfl) (LX Z)) Z ?_
  intro i hi q;rcases iq J i hi with ⟨x,u,UC⟩|p
  ·have hc:=wv u;have h2:=bD u;have N:=HP (j:Int) u;obtain⟨x1,x2,x3,x4,x5,x6,x7⟩:=x
   repeat' (first|exact wr|refine wz ?_|refine uI Z (i) Z (fA u) Z ?_|(refine uA Z ?_ ?_<;>(try (show(_:Nat)*_<=_;dsimp only))))
   ·simp only[iH,aeA,aeD,aac,aad];omega
   ·refine AK.fV [(1000000,1000000),(1000002,1000002)] [(6000,(0,some 6000))] (env':=[(177,.c (ag (((i+1:Nat):Int)))),(176,.c (ag (aa J).length)),(175,.c (.sl 7 (aa J))),(2,.c (ag j)),(20,.own (.tok 6000 0) 9 (dU ((J.take (i+1)).map (tj j))))]) (bs':=[(1000000,wB ⟨Ll.lB j ⟨D,dr,Y,.mk W M,.mk C S,code,.mk q1 V H O U T Q⟩,i64.wrap (E-g),done,i64.wrap (K+g),i64.wrap (P+m),I⟩ 1000002),(1000002,z.map AV.c)]) (ts':=[(6000,0)]) (us':=[1000000,1000002,6000])
     ⟨⟨_,Z,.inl (ku (i:=i) bn)⟩,⟨_,Z,.inl Z⟩,⟨_,Z,.inl Z⟩,⟨_,Z,.inl Z⟩,⟨_,Z,⟨_,Z,.inr ⟨_,_,Z,Z,aeb (AV.own (.tok 6000 1) 9) N⟩⟩⟩,trivial⟩ ⟨⟨_,_,Z,Z,(mo ⟨Ll.lB j ⟨D,dr,Y,.mk W M,.mk C S,code,.mk q1 V H O U T Q⟩,i64.wrap (E-g),done,i64.wrap (K+g),i64.wrap (P+m),I⟩).conv _ _ _ _ (λ_=>rfl)⟩,⟨_,_,Z,Z,cN _⟩,trivial⟩ Z ?_
    exact q (i+1) bn bn
  ·have hc:=rV p;rw[show yR (J.map (tj j),0)=yR ((J.take i).map (tj j),0)by rw[p,ahr]];clear q
   repeat' (first|exact wr|refine wz ?_)
end Go.Proofs
set_option maxHeartbeats 0
namespace Go.Proofs
open Go.cK
attribute [local irreducible] AK af bg cn dP cP cU eG iO gm.de gm.lB wB
def aaN(l:gm)(E done K W:Int)(I:L Int)(fT:Int)(h12:l.br.length=12)(T to O M a2 D:Int)(J:L UInt8)(G:L Nd)(S q B:Int)(Y:L UInt8)(A:L Nd)(u H p:Int)(c4:L UInt8)(V:L Nd)(d1 d2 d3:Int)(d4:L UInt8)(d5:L Nd)(pT:Int)(pA:L Ty)(sT:Int)(sA:L Ty)(U P:Int)(hp:ah 67 [aW (.mk S q B Y A)] (.eY [dg (.mk pT pA),ag U]))(hs:ah 67 [aW (.mk u H p c4 V)] (.eY [dg (.mk sT sA),ag P]))(hc:(bif (U != 0)then true else(P != 0))=true)(N:Bool)(hx:(U != 0)=N)(Q:N=false->(P != 0)=true) :
  gh 63 ⟨l,E,done,K,W,I⟩ [.c (ag fT),.c (.ip (Uz ⟨T,to,O,.mk M a2 D J G,.mk S q B Y A,.mk u H p c4 V,.mk d1 d2 d3 d4 d5⟩))] (ag 5) ⟨l,E,done,K,W,I⟩:=by
 cases N
 ·have hy:=Q Z;have dA:(bif false then true else(P != 0))=true:=by rw[hy];rfl
  cases C:wO ⟨l,E,done,K,W,I⟩with
  |none =>
   refine Le C func63 call63 λβ hf=>?_
   repeat' (first|exact wr|refine wz ?_|(intro h;rw[h]))
  |some z =>
   refine Lf C func63 call63 λβ hf=>?_
   repeat' (first|exact wr|refine wz ?_|(intro h;rw[h]))
 ·clear Q;cases C:wO ⟨l,E,done,K,W,I⟩with
  |none =>
   refine Le C func63 call63 λβ hf=>?_
   repeat' (first|exact wr|refine wz ?_|(intro h;rw[h]))
  |some z =>
   refine Lf C func63 call63 λβ hf=>?_
   repeat' (first|exact wr|refine wz ?_|(intro h;rw[h]))
def aaO(l:gm)(E done K W:Int)(I:L Int)(fT:Int)(h12:l.br.length=12)(T to vu a1 a2 a3:Int)(a4:L UInt8)(a5:L Nd)(S q B:Int)(N:L UInt8)(A:L Nd)(u H p:Int)(c4:L UInt8)(Y:L Nd)(V Q J:Int)(O:L UInt8)(M:L Nd)(G:Int)(D:L Ty)(C:Int)(sA:L Ty)(U P:Int)(hp:ah 67 [aW (.mk S q B N A)] (.eY [dg (.mk G D),ag U]))(hs:ah 67 [aW (.mk u H p c4 Y)] (.eY [dg (.mk C sA),ag P]))(hx:(U != 0)=false)(hy:(P != 0)=false)(e:Int)(zn:ah 60 [dg (.mk G D),dg (.mk C sA),aW (.mk V Q J O M)] (ag e))(he:(e != 0)=true) :
  gh 63 ⟨l,E,done,K,W,I⟩ [.c (ag fT),.c (.ip (Uz ⟨T,to,vu,.mk a1 a2 a3 a4 a5,.mk S q B N A,.mk u H p c4 Y,.mk V Q J O M⟩))] (ag e) ⟨l,E,done,K,W,I⟩:=by
 have hc:(bif (U != 0)then true else(P != 0))=false:=by rw[hx,hy];rfl
 have dA:(bif false then true else(P != 0))=false:=by rw[hy];rfl
 cases hm:wO ⟨l,E,done,K,W,I⟩with
 |none =>
  refine Le hm func63 call63 λβ hf=>?_
  repeat' (first|exact wr|refine wz ?_|(intro h;rw[h]))
 |some z =>
  refine Lf hm func63 call63 λβ hf=>?_
  repeat' (first|exact wr|refine wz ?_|(intro h;rw[h]))
def Yo(l:gm)(E done K W:Int)(I:L Int)(fT:Int)(h12:l.br.length=12)(T to vu Y a2 D:Int)(V:L UInt8)(Q:L Nd)(B q O:Int)(N:L UInt8)(A:L Nd)(u H p:Int)(c4:L UInt8)(M:L Nd)(J G d3:Int)(d4:L UInt8)(d5:L Nd)(pT:Int)(pA:L Ty)(C:Int)(S:L Ty)(U P:Int)(hp:ah 67 [aW (.mk B q O N A)] (.eY [dg (.mk pT pA),ag U]))(hs:ah 67 [aW (.mk u H p c4 M)] (.eY [dg (.mk C S),ag P]))(hx:(U != 0)=false)(hy:(P != 0)=false)(e:Int)(zn:ah 60 [dg (.mk pT pA),dg (.mk C S),aW (.mk J G d3 d4 d5)] (ag e))(he:(e != 0)=false)(r1 r2 r3:Int)(r4:L UInt8)(r5:L Vl)(r6:L Ty)(r7:L Nd)(ev:Int)(zs:Nat)(hval:ah 69 [dg (.mk C S),aW (.mk Y a2 D V Q)] (.eY [bH (.mk r1 r2 r3 r4 r5 r6 r7),ag ev]))(hsz:ah 61 [bH (.mk r1 r2 r3 r4 r5 r6 r7)] (ag zs))(hv:(ev != 0)=true) :
  gh 63 ⟨l,E,done,K,W,I⟩ [.c (ag fT),.c (.ip (Uz ⟨T,to,vu,.mk Y a2 D V Q,.mk B q O N A,.mk u H p c4 M,.mk J G d3 d4 d5⟩))] (ag 5) ⟨l,E,done,K,W,I⟩:=by
 have hc:(bif (U != 0)then true else(P != 0))=false:=by rw[hx,hy];rfl
 have dA:(bif false then true else(P != 0))=false:=by rw[hy];rfl
 have hq:(bif (ev != 0)then true else decide ((zs:Int)>200))=true:=by rw[hv];rfl
 cases hm:wO ⟨l,E,done,K,W,I⟩with
 |none =>
  refine Le hm func63 call63 λβ hf=>?_
  repeat' (first|exact wr|refine wz ?_|(intro h;rw[h]))
 |some z =>
  refine Lf hm func63 call63 λβ hf=>?_
  repeat' (first|exact wr|refine wz ?_|(intro h;rw[h]))
def Yp(l:gm)(E done K W:Int)(I:L Int)(fT:Int)(h12:l.br.length=12)(T to vu Y a2 D:Int)(V:L UInt8)(Q:L Nd)(B q O:Int)(N:L UInt8)(M:L Nd)(u H p:Int)(c4:L UInt8)(J:L Nd)(G d2 d3:Int)(d4:L UInt8)(d5:L Nd)(pT:Int)(pA:L Ty)(C:Int)(S:L Ty)(U P:Int)(hp:ah 67 [aW (.mk B q O N M)] (.eY [dg (.mk pT pA),ag U]))(hs:ah 67 [aW (.mk u H p c4 J)] (.eY [dg (.mk C S),ag P]))(hx:(U != 0)=false)(hy:(P != 0)=false)(e:Int)(zn:ah 60 [dg (.mk pT pA),dg (.mk C S),aW (.mk G d2 d3 d4 d5)] (ag e))(he:(e != 0)=false)(r1 r2 r3:Int)(r4:L UInt8)(r5:L Vl)(r6:L Ty)(r7:L Nd)(ev:Int)(A:Nat)(hval:ah 69 [dg (.mk C S),aW (.mk Y a2 D V Q)] (.eY [bH (.mk r1 r2 r3 r4 r5 r6 r7),ag ev]))(hsz:ah 61 [bH (.mk r1 r2 r3 r4 r5 r6 r7)] (ag A))(hv:(ev != 0)=false)(hz:decide ((A:Int)>200)=true) :
  gh 63 ⟨l,E,done,K,W,I⟩ [.c (ag fT),.c (.ip (Uz ⟨T,to,vu,.mk Y a2 D V Q,.mk B q O N M,.mk u H p c4 J,.mk G d2 d3 d4 d5⟩))] (ag 5) ⟨l,E,done,K,W,I⟩:=by
 have hc:(bif (U != 0)then true else(P != 0))=false:=by rw[hx,hy];rfl
 have dA:(bif false then true else(P != 0))=false:=by rw[hy];rfl
 have hq:(bif (ev != 0)then true else decide ((A:Int)>200))=true:=by rw[hv,hz];rfl
 have hq':(bif false then true else decide ((A:Int)>200))=true:=by rw[hz];rfl
 cases hm:wO ⟨l,E,done,K,W,I⟩with
 |none =>
  refine Le hm func63 call63 λβ hf=>?_
  repeat' (first|exact wr|refine wz ?_|(intro h;rw[h]))
 |some z =>
  refine Lf hm func63 call63 λβ hf=>?_
  repeat' (first|exact wr|refine wz ?_|(intro h;rw[h]))
def S5(l:L Int):(bC (eJ l)).length=l.length*1:=by
 rw[dK (rows:=eJ l) (s:=1) (λr C=>by obtain⟨n,_,rfl⟩:=List.mem_map.1 C;rfl),aeA]
def aaP(l:gm)(E done K W:Int)(I:L Int)(fT:Int)(h12:l.br.length=12)(hml:I.length<=1000)(T to vu a1 a2 a3:Int)(a4:L UInt8)(a5:L Nd)(b1 b2 b3:Int)(b4:L UInt8)(b5:L Nd)(u c2 c3:Int)(c4:L UInt8)(c5:L Nd)(d1 d2 d3:Int)(d4:L UInt8)(V:L Nd)(U:Int)(M:L Ty)(C:Int)(S:L Ty)(e0 P:Int)(hp:ah 67 [aW (.mk b1 b2 b3 b4 b5)] (.eY [dg (.mk U M),ag e0]))(hs:ah 67 [aW (.mk u c2 c3 c4 c5)] (.eY [dg (.mk C S),ag P]))(hx:(e0 != 0)=false)(hy:(P != 0)=false)(e:Int)(zn:ah 60 [dg (.mk U M),dg (.mk C S),aW (.mk d1 d2 d3 d4 V)] (ag e))(he:(e != 0)=false)(q Q O:Int)(G:L UInt8)(B:L Vl)(D:L Ty)(A:L Nd)(ev:Int)(zs:Nat)(hval:ah 69 [dg (.mk C S),aW (.mk a1 a2 a3 a4 a5)] (.eY [bH (.mk q Q O G B D A),ag ev]))(hsz:ah 61 [bH (.mk q Q O G B D A)] (ag zs))(hv:(ev != 0)=false)(hz:decide ((zs:Int)>200)=false)(rr:Int)(w':Wk)(h7:gf (l.br.drop 4) 4=12->rr=7/\w'=⟨l,E,done,K,W,I⟩)
  (Dy:∀i:Nat,gf (l.br.drop 4) 4=i->i<12->∃(Ll:gm) (em:Int),Ll.br.length=12/\ah 101 [.agg (eG (l.lB i ⟨2,0,0,.mk U M,.mk C S,V,.mk q Q O G B D A⟩)),ag fT,ag i,ag vu] (.eY [.agg (eG Ll),ag em])/\((em≠0/\rr=em/\w'=⟨l,E,done,K,W,I⟩)\/(em=0/\rr=0/\w'=⟨Ll,E,done,K,W,I++[(i:Int)]⟩))) :
  gh 63 ⟨l,E,done,K,W,I⟩ [.c (ag fT),.c (.ip (Uz ⟨T,to,vu,.mk a1 a2 a3 a4 a5,.mk b1 b2 b3 b4 b5,.mk u c2 c3 c4 c5,.mk d1 d2 d3 d4 V⟩))] (ag rr) w':=by
 have hc:(bif (e0 != 0)then true else(P != 0))=false:=by rw[hx,hy];rfl
 have dA:(bif false then true else(P != 0))=false:=by rw[hy];rfl
 have hq:(bif (ev != 0)then true else decide ((zs:Int)>200))=false:=by rw[hv,hz];rfl
 have hq':(bif false then true else decide ((zs:Int)>200))=false:=by rw[hz];rfl
 rcases I with _|⟨H,Y⟩
 ·refine Le (show wO (⟨l,E,done,K,W,[]⟩:Wk)=none from Z) func63 call63 λβ hf=>?_;have Lg:=(show wO (⟨l,E,done,K,W,[]⟩:Wk)=none from Z)
  repeat' (first|exact wr|refine wz ?_|(intro h;rw[h]))
  refine AK.eL (α:=Nat) (λi=>4<=i/\i<=12/\gf (l.br.drop 4) 4=gf (l.br.drop i) i) (λi=>12-i) (λi=>[(13,.c (ag (i:Nat))),(0,.ptr 1000000 0),(1,.c (ag fT)),(2,.c (.ip (Uz ⟨T,to,vu,.mk a1 a2 a3 a4 a5,.mk b1 b2 b3 b4 b5,.mk u c2 c3 c4 c5,.mk d1 d2 d3 d4 V⟩))),(7,.ptr 7 0),(9,.ptr 9 0),(12,.ptr 12 0)]) (λ_=>[(7,[.c (ag U),.c (.sl 2 (aA M))]),(9,[.c (ag C),.c (.sl 2 (aA S))]),(12,[.c (ag q),.c (ag Q),.c (ag O),.c (.str G),.c (.sl 7 (aa B)),.c (.sl 2 (aA D)),.c (.sl 5 (aH A))]),(1000000,wB (⟨l,E,done,K,W,[]⟩:Wk) 0)]) (λ_=>[]) [7,9,12,1000000] 4
   ⟨aaj _,bT,Z⟩ ce ce  trivial Z (jI Z Z (jI Z Z (jI Z Z (wu (λh=>absurd Z h) Z)))) Z ?_
  rintro i ⟨h4,hi,N⟩ ih;by_cases p:i<12;rotate_left
  ·obtain rfl:i=12:=by omega
   have hfr:gf (l.br.drop 4) 4=12:=by rw[N,afd bn];rfl
   obtain⟨rfl,rfl⟩:=h7 hfr;clear ih Dy h7 N;have u:decide (((12:Nat):Int)<12)=false:=by decide
   have c2:(((12:Nat):Int)==12)=true:=by decide
   repeat' (first|exact wr|refine wz ?_|(intro h;rw[h]))
  obtain⟨a,ha⟩:∃a,l.br[i]?=some a:=⟨l.br[i]' bn,cS⟩
  rw[dZ ha]at N;simp only[gf]at N;have lj:Nat.blt i 12=true:=by rw[afj];exact p
  have u:decide ((i:Int)<12)=true:=aak bn;have c2:((i:Int)==12)=false:=by rw[afs];omega
  obtain⟨J,dr,cnt,⟨q1,q2⟩,⟨t1,t2⟩,cd,⟨k1,k2,k3,k4,k5,k6,k7⟩⟩:=a;obtain⟨qq,rd⟩:=Vc (⟨l,E,done,K,W,[]⟩:Wk) 0 ha;have d0:=rd 0 _ Z;clear rd;by_cases h0:J=0
  ·rw[if_pos h0]at N;have P:(J != 0)=false:=by simpa using h0
   have n1:(bif decide ((i:Int)<12)then(J != 0)else false)=false:=by rw[u,P];rfl
   have n2:(bif true then(J != 0)else false)=false:=by rw[P];rfl
   obtain⟨Ll,em,UB,hmq,hres⟩:=Dy i N p;clear ih Dy h7 N;have M12:=tv (i:=i) (a:=⟨2,0,0,.mk U M,.mk C S,V,.mk q Q O G B D A⟩) h12;have w0:=Ez ha (b:=⟨2,0,0,.mk U M,.mk C S,V,.mk q Q O G B D A⟩) (k:=0) (cs:=[.c (ag 2),.c (ag 0),.c (ag 0),.c (ag U),.c (.sl 2 (aA M)),.c (ag C),.c (.sl 2 (aA S)),.c (.sl 5 (aH V)),.c (ag q),.c (ag Q),.c (ag O),.c (.str G),.c (.sl 7 (aa B)),.c (.sl 2 (aA D)),.c (.sl 5 (aH A))]) Z;rcases hres with ⟨hem,rfl,rfl⟩|⟨rfl,rfl,rfl⟩
   ·have e2:(rr != 0)=true:=by simpa using hem
    repeat' (first|exact wr|refine wz ?_|(intro h;rw[h]))
   ·have wm:bV 186 [.gS 124 0 1 (([]:L Int)++[(i:Int)]).length] (wB ⟨Ll,E,done,K,W,[]⟩ 0)=some (wB ⟨Ll,E,done,K,W,[]++[(i:Int)]⟩ 124):=BF ⟨Ll,E,done,K,W,[]⟩ 0 UB 5 [.gS 124 0 1 (([]:L Int)++[(i:Int)]).length] Z Z Z;have hmn:wO ⟨Ll,E,done,K,W,[]++[(i:Int)]⟩=some (bC (eJ ([]++[(i:Int)]))):=rfl;clear Lg
    repeat' (first|exact wr|refine wz ?_|refine af.uu hX kn rfl rfl rfl rfl rfl rfl rfl rfl rfl rfl rfl rfl rfl rfl rfl rfl rfl rfl (λh=>by cases h) rfl rfl rfl (show(0+1)*8<=140737488355328 by decide) rfl (m:=1) rfl ?_|(intro h;rw[h]))
  ·rw[if_neg h0]at N;have P:(J != 0)=true:=by simpa using h0
   have n1:(bif decide ((i:Int)<12)then(J != 0)else false)=true:=by rw[u,P];rfl
   have n2:(bif true then(J != 0)else false)=true:=by rw[P];rfl
   have yF:=ih (i+1) ⟨bn,bn,N⟩ bn;clear ih Dy h7 N
   repeat' (first|exact wr|refine wz ?_|(intro h;rw[h]))
   refine AK.again yF ⟨.inl (gB (i:=i) bn),.inl Z,.inl Z,.inl Z,.inl Z,.inl Z,.inl Z,trivial⟩ ce trivial Z (jI Z Z (jI Z Z (jI Z Z (wu (λh=>absurd Z h) Z)))) Z
 ·refine Lf (show wO (⟨l,E,done,K,W,(H::Y)⟩:Wk)=some (bC (eJ (H::Y)))from Z) func63 call63 λβ hf=>?_;have Lg:=(show wO (⟨l,E,done,K,W,(H::Y)⟩:Wk)=some (bC (eJ (H::Y)))from Z)
  repeat' (first|exact wr|refine wz ?_|(intro h;rw[h]))
  refine AK.eL (α:=Nat) (λi=>4<=i/\i<=12/\gf (l.br.drop 4) 4=gf (l.br.drop i) i) (λi=>12-i) (λi=>[(13,.c (ag (i:Nat))),(0,.ptr 1000000 0),(1,.c (ag fT)),(2,.c (.ip (Uz ⟨T,to,vu,.mk a1 a2 a3 a4 a5,.mk b1 b2 b3 b4 b5,.mk u c2 c3 c4 c5,.mk d1 d2 d3 d4 V⟩))),(7,.ptr 7 0),(9,.ptr 9 0),(12,.ptr 12 0)]) (λ_=>[(7,[.c (ag U),.c (.sl 2 (aA M))]),(9,[.c (ag C),.c (.sl 2 (aA S))]),(12,[.c (ag q),.c (ag Q),.c (ag O),.c (.str G),.c (.sl 7 (aa B)),.c (.sl 2 (aA D)),.c (.sl 5 (aH A))]),(1000000,wB (⟨l,E,done,K,W,(H::Y)⟩:Wk) 1000002),(1000002,(bC (eJ (H::Y))).map AV.c)]) (λ_=>[]) [7,9,12,1000000,1000002] 4
   ⟨aaj _,bT,Z⟩ ce ce  trivial Z (jI Z Z (jI Z Z (jI Z Z (wu (λ_=>rfl) (LX Z))))) Z ?_
  rintro i ⟨h4,hi,N⟩ ih;by_cases p:i<12;rotate_left
  ·obtain rfl:i=12:=by omega
   have hfr:gf (l.br.drop 4) 4=12:=by rw[N,afd bn];rfl
   obtain⟨rfl,rfl⟩:=h7 hfr;clear ih Dy h7 N;have u:decide (((12:Nat):Int)<12)=false:=by decide
   have c2:(((12:Nat):Int)==12)=true:=by decide
   repeat' (first|exact wr|refine wz ?_|(intro h;rw[h]))
  obtain⟨a,ha⟩:∃a,l.br[i]?=some a:=⟨l.br[i]' bn,cS⟩
  rw[dZ ha]at N;simp only[gf]at N;have lj:Nat.blt i 12=true:=by rw[afj];exact p
  have u:decide ((i:Int)<12)=true:=aak bn;have c2:((i:Int)==12)=false:=by rw[afs];omega
  obtain⟨J,dr,cnt,⟨q1,q2⟩,⟨t1,t2⟩,cd,⟨k1,k2,k3,k4,k5,k6,k7⟩⟩:=a;obtain⟨qq,rd⟩:=Vc (⟨l,E,done,K,W,(H::Y)⟩:Wk) 1000002 ha;have d0:=rd 0 _ Z;clear rd;by_cases h0:J=0
  ·rw[if_pos h0]at N;have P:(J != 0)=false:=by simpa using h0
   have n1:(bif decide ((i:Int)<12)then(J != 0)else false)=false:=by rw[u,P];rfl
   have n2:(bif true then(J != 0)else false)=false:=by rw[P];rfl
   obtain⟨Ll,em,UB,hmq,hres⟩:=Dy i N p;clear ih Dy h7 N;have M12:=tv (i:=i) (a:=⟨2,0,0,.mk U M,.mk C S,V,.mk q Q O G B D A⟩) h12;have w0:=Ez ha (b:=⟨2,0,0,.mk U M,.mk C S,V,.mk q Q O G B D A⟩) (k:=0) (cs:=[.c (ag 2),.c (ag 0),.c (ag 0),.c (ag U),.c (.sl 2 (aA M)),.c (ag C),.c (.sl 2 (aA S)),.c (.sl 5 (aH V)),.c (ag q),.c (ag Q),.c (ag O),.c (.str G),.c (.sl 7 (aa B)),.c (.sl 2 (aA D)),.c (.sl 5 (aH A))]) Z;rcases hres with ⟨hem,rfl,rfl⟩|⟨rfl,rfl,rfl⟩
   ·have e2:(rr != 0)=true:=by simpa using hem
    repeat' (first|exact wr|refine wz ?_|(intro h;rw[h]))
   ·have wm:bV 186 [.gS 124 0 1 ((H::Y)++[(i:Int)]).length] (wB ⟨Ll,E,done,K,W,(H::Y)⟩ 1000002)=some (wB ⟨Ll,E,done,K,W,(H::Y)++[(i:Int)]⟩ 124):=BF ⟨Ll,E,done,K,W,(H::Y)⟩ 1000002 UB 5 [.gS 124 0 1 ((H::Y)++[(i:Int)]).length] Z Z Z;have hmn:wO ⟨Ll,E,done,K,W,(H::Y)++[(i:Int)]⟩=some (bC (eJ ((H::Y)++[(i:Int)]))):=rfl;clear Lg
    repeat' (first|exact wr|refine wz ?_|refine af.mR hX kn Z Z Z Z Z Z Z Z Z Z Z Z Z Z Z (eJ (H::Y)) [] (aec _).symm cS (S5 _) Z Z Z Z Z Z Z (by simp only[aeA,aac,aad]at hml ⊢;omega) (show eJ (H::Y)++[.int .i64 (i:Int)]=eJ (H::Y++[(i:Int)])by simp) (m:=(H::Y++[(i:Int)]).length) cS Z ?_|(intro h;rw[h]))
  ·rw[if_neg h0]at N;have P:(J != 0)=true:=by simpa using h0
   have n1:(bif decide ((i:Int)<12)then(J != 0)else false)=true:=by rw[u,P];rfl
   have n2:(bif true then(J != 0)else false)=true:=by rw[P];rfl
   have yF:=ih (i+1) ⟨bn,bn,N⟩ bn;clear ih Dy h7 N
   repeat' (first|exact wr|refine wz ?_|(intro h;rw[h]))
   refine AK.again yF ⟨.inl (gB (i:=i) bn),.inl Z,.inl Z,.inl Z,.inl Z,.inl Z,.inl Z,trivial⟩ ce trivial Z (jI Z Z (jI Z Z (jI Z Z (wu (λ_=>rfl) (LX Z))))) Z
end Go.Proofs
