/- What Script of package check answers. -/
import Derived.Test.YtdnpapgijbhofaaGreatDoorFits
open Go.IntKind
open Go.Proofs.Tryz
set_option linter.defProp false
set_option maxHeartbeats 0
set_option linter.unusedVariables false
set_option linter.unusedSimpArgs false
namespace Go.Proofs
open Go.cw
attribute [local irreducible] AK ah aR bM cX aJ br dZ cz fZ ke j8 eU ej oA gl jc
def BC(p s:Ty)(n:Nd)(E:bf p+bf s<=8589934588)(B:bD n<=8589934593):af 47 [cU p,cU s,aM n] (.int .i64 (jr p s n)):=by
 have h1:=lY p ai;have h2:=lY s ai;have K:=qS p ai;have Y:=qS s ai;have M:=vQ n [.mk 11 [p,s]] B (by simp only[bp,bf];omega);have C:=dB 11 [p,s];have I:=cW 8;have O:=dB 10 [.mk 8 []];have V:=dB 11 [.mk 10 [.mk 8 []],s];have G := @CJ n [.mk 11 [p,s]];have U:=λ(t:L Ty)(A:sL t)(u:t.length<=20000000000)=>xw t [.mk 11 [.mk 10 [.mk 8 []],s]] A u;unfold jr;generalize ke n [.mk 11 [p,s]]=r at M G;obtain⟨⟨t,f⟩,e⟩:=r;simp only at G ⊢;obtain⟨P,N⟩:=p;obtain⟨S,T⟩:=s;obtain⟨q,k2,k3,k4,k5⟩:=n;cases g1:br (.mk P N)with
 |false =>
  rw[g1]at h1;rw[if_pos UI];clear h2 K Y M C I O V U;refine qn func47 call47 λβ hf=>?_
  repeat' (first|refine kM ?_|refine zc ?_ ?_|(intro h;first|(cases h;done)|rw[h]|skip)|refine uC Z h1 ?_)
  all_goals exact Wk.refl _
 |true =>
 rw[g1]at h1;cases H:br (.mk S T)with
 |false =>
  rw[H]at h2;rw[if_pos UI];clear K Y M C I O V U;refine qn func47 call47 λβ hf=>?_
  repeat' (first|refine kM ?_|refine zc ?_ ?_|(intro h;first|(cases h;done)|rw[h]|skip)|refine uC Z h1 ?_|refine uC Z h2 ?_)
  all_goals exact Wk.refl _
 |true =>
 rw[H]at h2;cases D:jc (.mk P N)with
 |false =>
  rw[D]at K;rw[if_pos cc];clear Y M C I O V U;refine qn func47 call47 λβ hf=>?_
  repeat' (first|refine kM ?_|refine zc ?_ ?_|(intro h;first|(cases h;done)|rw[h]|skip)|refine uC Z h1 ?_|refine uC Z h2 ?_|refine uC Z K ?_)
  all_goals exact Wk.refl _
 |true =>
 rw[D]at K;cases J:jc (.mk S T)with
 |false =>
  rw[J]at Y;rw[if_pos cc];clear M C I O V U;refine qn func47 call47 λβ hf=>?_
  repeat' (first|refine kM ?_|refine zc ?_ ?_|(intro h;first|(cases h;done)|rw[h]|skip)|refine uC Z h1 ?_|refine uC Z h2 ?_|refine uC Z K ?_|refine uC Z Y ?_)
  all_goals exact Wk.refl _
 |true =>
 rw[J]at Y;rw[if_neg cc];by_cases Q:e=0;rotate_left
 ·rw[if_pos Q];have e1:(e != 0)=true:=by simpa using Q
  clear I O V U;refine qn func47 call47 λβ hf=>?_
  repeat' (first|refine kM ?_|refine zc ?_ ?_|(intro h;first|(cases h;done)|rw[h]|skip)|refine uC Z h1 ?_|refine uC Z h2 ?_|refine uC Z K ?_|refine uC Z Y ?_|refine uC Z C ?_|refine uC Z M ?_)
  all_goals exact Wk.refl _
 subst Q;rw[if_neg cc];have W:=U t (uk (G Z).1) (by have:=(G Z).2.1;omega);clear U;cases f with
 |true =>
  rw[if_neg cc];refine qn func47 call47 λβ hf=>?_
  repeat' (first|refine kM ?_|refine zc ?_ ?_|(intro h;first|(cases h;done)|rw[h]|skip)|refine uC Z h1 ?_|refine uC Z h2 ?_|refine uC Z K ?_|refine uC Z Y ?_|refine uC Z C ?_|refine uC Z M ?_)
  all_goals exact Wk.refl _
 |false =>
  cases hq:gP t [.mk 11 [.mk 10 [.mk 8 []],.mk S T]]with
  |false =>
   rw[hq]at W;rw[if_pos cc];refine qn func47 call47 λβ hf=>?_
   repeat' (first|refine kM ?_|refine zc ?_ ?_|(intro h;first|(cases h;done)|rw[h]|skip)|refine uC Z h1 ?_|refine uC Z h2 ?_|refine uC Z K ?_|refine uC Z Y ?_|refine uC Z C ?_|refine uC Z M ?_|refine uC Z I ?_|refine uC Z O ?_|refine uC Z V ?_|refine uC Z W ?_)
   all_goals exact Wk.refl _
  |true =>
   rw[hq]at W;rw[if_neg cc];refine qn func47 call47 λβ hf=>?_
   repeat' (first|refine kM ?_|refine zc ?_ ?_|(intro h;first|(cases h;done)|rw[h]|skip)|refine uC Z h1 ?_|refine uC Z h2 ?_|refine uC Z K ?_|refine uC Z Y ?_|refine uC Z C ?_|refine uC Z M ?_|refine uC Z I ?_|refine uC Z O ?_|refine uC Z V ?_|refine uC Z W ?_)
   all_goals exact Wk.refl _
end Go.Proofs
namespace Go.cw
structure Acc where
 is:Int
 bX:Int
 cnt:Int
 param:Ty
 store:Ty
 code:List Nd
 keep:Vl
structure dX where
 aS:List Acc
 eG:Int
def Acc.cq(a:Acc)(z:Int):Acc:={a with bX:=z}
def ajD(a:Acc):Prop:=(-9223372036854775808<=a.is/\a.is<=9223372036854775807)/\(-9223372036854775808<=a.bX/\a.bX<=9223372036854775807)/\(-9223372036854775808<=a.cnt/\a.cnt<=9223372036854775807)
def yZ(a:Acc):Nat:=bf a.param+bf a.store+aO a.code+aH a.keep
def tV:Acc->L CV
 |⟨W,bX,S,.mk G U,.mk B K,code,.mk k n m s M V Y⟩ =>
  [.int .i64 W,.int .i64 bX,.int .i64 S,.int .i64 G,.sl 2 (az U),.int .i64 B,.sl 2 (az K),.sl 5 (aD code),.int .i64 k,.int .i64 n,.int .i64 m,.str s,.sl 7 (aa M),.sl 2 (az V),.sl 5 (aD Y)]
def jx:L Acc->L CV
 |[]=>[]
 |a::l=>tV a++jx l
def cN(l:dX):L CV:=jx l.aS++[.int .i64 l.eG]
def bH(l:dX):L AV:=(cN l).map AV.c
def gh(l:dX):L AV:=(jx l.aS).map AV.c
def xP(a:Acc):L AV:=(tV a).map AV.c
def NX(a:Acc):(tV a).length=15:=by obtain⟨W,bX,S,⟨G,U⟩,⟨B,K⟩,code,⟨k,n,m,s,M,V,Y⟩⟩:=a;rfl
def zf:∀l:L Acc,(jx l).length=l.length*15
 |[]=>rfl
 |a::l=>by simp only[jx,aaZ,NX,zf l,aag];omega
def vD{l:dX}(h:l.aS.length=12):(gh l).length=180:=by simp only[gh,aeU,zf,h]
def xK(l:dX):bH l=gh l++[.c (.int .i64 l.eG)]:=by simp only[bH,cN,gh,afa,aeX,List.map_nil]
def jC{l:dX}(h:l.aS.length=12):(bH l).length=181:=by rw[xK,aaZ,vD h];rfl
def tc:∀(l:L Acc)(i:Nat)(a:Acc),l[i]?=some a->jx l=jx (l.take i)++(tV a++jx (l.drop (i+1)))
 |[],i,a,h=>by simp at h
 |x::l,0,a,h=>by simp at h;subst h;simp[jx]
 |x::l,i+1,a,h=>by simp only[jx,ahj,agQ,afn,tc l i a h]
def lD:L Acc->Nat->Int->L Acc
 |[],_,_=>[]
 |a::l,0,z=>a.cq z::l
 |a::l,i+1,z=>a::lD l i z
def dX.cq(l:dX)(i:Nat)(z:Int):dX:=⟨lD l.aS i z,l.eG⟩
def Nj:∀(l:L Acc)(i:Nat)(z:Int),(lD l i z).length=l.length
 |[],_,_=>rfl
 |a::l,0,z=>rfl
 |a::l,i+1,z=>by simp only[lD,aag,Nj l i z]
def xR:∀(l:L Acc)(i j:Nat)(z:Int),(lD l i z)[j]?=if i=j then(l[j]?).map (λa=>a.cq z)else l[j]?
 |[],i,j,z=>by simp[lD]
 |a::l,0,0,z=>by simp[lD]
 |a::l,0,j+1,z=>by simp[lD]
 |a::l,i+1,0,z=>by simp[lD]
 |a::l,i+1,j+1,z=>by simp only[lD,ahm,xR l i j z,Nat.add_right_cancel_iff]
def Gj:∀(l:L Acc)(i:Nat)(a:Acc)(z:Int),l[i]?=some a->jx (lD l i z)=jx (l.take i)++(tV (a.cq z)++jx (l.drop (i+1)))
 |[],i,a,z,h=>by simp at h
 |x::l,0,a,z,h=>by simp at h;subst h;simp[lD,jx]
 |x::l,i+1,a,z,h=>by simp only[lD,jx,ahj,agQ,afn,Gj l i a z h]
def JA:Acc->L CV
 |⟨_,_,S,.mk G U,.mk B K,code,.mk k n m s M V Y⟩ =>
  [.int .i64 S,.int .i64 G,.sl 2 (az U),.int .i64 B,.sl 2 (az K),.sl 5 (aD code),.int .i64 k,.int .i64 n,.int .i64 m,.str s,.sl 7 (aa M),.sl 2 (az V),.sl 5 (aD Y)]
def BJ(a:Acc):tV a = .int .i64 a.is :: .int .i64 a.bX::JA a:=by obtain⟨W,bX,S,⟨G,U⟩,⟨B,K⟩,code,⟨k,n,m,s,M,V,Y⟩⟩:=a;rfl
def UM(a:Acc)(z:Int):JA (a.cq z)=JA a:=by obtain⟨W,bX,S,⟨G,U⟩,⟨B,K⟩,code,⟨k,n,m,s,M,V,Y⟩⟩:=a;rfl
section
variable {l : dX}{i : Nat}{a : Acc}
def js(l:dX):jQ (.c (.agg (cN l)))=some (bH l):=C2 _
def FM(T:l.aS.length=12):takeN 181 (bH l)=some (bH l):=by rw[<- jC T];exact JB _
def Xw(T:l.aS.length=12):takeN 180 (bH l)=some (gh l):=by rw[xK,<- vD T];exact C3 _ _
def uy(T:l.aS.length=12):dV 180 (bH l)=some [.c (.int .i64 l.eG)]:=by rw[xK,<- vD T];exact jg _ _
def y8(l:dX):close (.agg (bH l))=some (.agg (cN l)):=by simp only[close,bH,ux]
def K9(Y:l.aS.length=12)(T:l.aS[i]?=some a):∃p q:L AV,p.length=i*15/\(∀z,bH (l.cq i z)=p++((tV (a.cq z)).map AV.c++q))/\bH l=p++((tV a).map AV.c++q)/\∃W,gh l=p++((tV a).map AV.c++W):=by have U:i<l.aS.length:=(List.getElem?_eq_some_iff.1 T).1;refine⟨(jx (l.aS.take i)).map AV.c,(jx (l.aS.drop (i+1))++[CV.int .i64 l.eG]).map AV.c,?_,λz=>?_,?_,(jx (l.aS.drop (i+1))).map AV.c,?_⟩;rw[aeU,zf,afb];omega;show(jx (lD l.aS i z)++[CV.int .i64 l.eG]).map AV.c=_;rw[Gj _ _ _ _ T];simp;show(jx l.aS++[CV.int .i64 l.eG]).map AV.c=_;rw[tc _ _ _ T];simp;show(jx l.aS).map AV.c=_;rw[tc _ _ _ T];simp
def La(T:l.aS.length=12)(Y:l.aS[i]?=some a):∃r,dV (0+i*15+0) (bH l)=some (.c (.int .i64 a.is)::r):=by obtain⟨p,q,h1,_,h2,_⟩:=K9 T Y;rw[h2,BJ];exact⟨(CV.int .i64 a.bX::JA a).map AV.c++q,by rw[aeS,agb,<- h1];exact jg p _⟩
def Lb(T:l.aS.length=12)(Y:l.aS[i]?=some a):∃r,dV (0+i*15+1) (bH l)=some (.c (.int .i64 a.bX)::r):=by obtain⟨p,q,h1,_,h2,_⟩:=K9 T Y;rw[h2,BJ];exact⟨(JA a).map AV.c++q,by rw[aeS,<- h1];exact lz _ _ _ _ _ (jg p _) (by simp only[aeX,aeN,dV])⟩
def Tb(T:l.aS.length=12)(Y:l.aS[i]?=some a)(z:Int):bG (0+i*15+1) [.c (.int .i64 z)] (bH l)=some (bH (l.cq i z)):=by obtain⟨p,q,h1,K,h2,_⟩:=K9 T Y;rw[h2,K z,BJ,BJ,UM];have:=Gk (.c (.int .i64 z)) (p++[.c (.int .i64 a.is)]) (.c (.int .i64 a.bX)) ((JA a).map AV.c++q);rw[aaZ,h1,List.length_singleton]at this;have E:(a.cq z).is=a.is:=rfl;have N:(a.cq z).bX=z:=rfl;simp_all
def Lc(T:l.aS.length=12)(W:l.aS[i]?=some a):∃r,dV (i*15) (gh l)=some r/\takeN 15 r=some (xP a):=by obtain⟨p,q,h1,_,_,Y,h2⟩:=K9 T W;refine⟨(tV a).map AV.c++Y,?_,?_⟩;rw[h2,<- h1];exact jg p _;have:=C3 ((tV a).map AV.c) Y;rw[aeU,NX]at this;exact this
end
end Go.cw
namespace Go.cw
def tT:Acc:=⟨0,0,0,lJ,lJ,[],lC⟩
def bq(l:dX)(i:Int):Acc:=l.aS.getD i.toNat tT
def jw(l:dX)(F T n:Int):Int :=
 if F<0\/12<=F\/T<0\/12<=T\/(bq l F).is=0\/(bq l T).is=0 then 6
 else if n<0\/1152921504606846976<n then 2 else if(bq l F).bX<n then 8 else 0
def Cz(l:dX)(F T n:Int):dX :=
 (l.cq F.toNat ((bq l F).bX-n)).cq T.toNat ((bq (l.cq F.toNat ((bq l F).bX-n)) T).bX+n)
def iG{l:dX}{i:Nat}{a:Acc}(h:l.aS[i]?=some a):bq l (i:Int)=a:=by unfold bq;rw[abU,List.getD,h];rfl
def eA{l:dX}{i:TI}(T:l.aS.length=12)(h1:i.isAgg=true)(h2:i.size=181):lO i (bH l)=some (.agg (bH l)):=by unfold lO;rw[h1,h2];simp only[FM T]
def jq{l:dX}(T:l.aS.length=12){n:Nat}(h:n=181):Nat.beq (bH l).length n=true:=by rw[jC T,h];rfl
def gL{l:dX}(T:l.aS.length=12){cells:L AV}(h:cells.length=181):bG 0 (bH l) cells=some (bH l):=x8 _ _ (by rw[jC T,h])
def jT(l:dX)(e:Int):close (.eF [.agg (bH l),.c (.int .i64 e)])=some (.eF [.agg (cN l),.int .i64 e]):=by simp only[close,oh];rw[show oh (bH l)=some (cN l)from ux _]
end Go.cw
namespace Go.Proofs
open Go.cw
attribute [local irreducible] AK ah aR bM cX bH cN gh dX.cq
set_option maxRecDepth 100000 in
def aac(l:dX)(h12:l.aS.length=12)(i j:Nat)(aF aT DN:Acc)(wJ:l.aS[i]?=some aF)(FQ:l.aS[j]?=some aT)(n:Int)
  (KS:(l.cq i (i64.wrap (aF.bX-n))).aS[j]?=some DN)(afj:(l.cq i (i64.wrap (aF.bX-n))).aS.length=12)
  (ajE:((l.cq i (i64.wrap (aF.bX-n))).cq j (i64.wrap (DN.bX+n))).aS.length=12)
  (ZF:aF.is≠0)(isT:aT.is≠0)(h0:0<=n)(hM:n<=1152921504606846976)(hb:n<=aF.bX) :
  af 115 [.agg (cN l),.int .i64 i,.int .i64 j,.int .i64 n]
   (.eF [.agg (cN ((l.cq i (i64.wrap (aF.bX-n))).cq j (i64.wrap (DN.bX+n)))),.int .i64 0]):=by
 have li:Nat.blt i 12=true:=by rw[afP];have:=(List.getElem?_eq_some_iff.1 wJ).1;omega
 have lj:Nat.blt j 12=true:=by rw[afP];have:=(List.getElem?_eq_some_iff.1 FQ).1;omega
 have li':i<12:=by simpa[afP]using li
 have lj':j<12:=by simpa[afP]using lj
 obtain⟨r1,d1⟩:=La h12 wJ;obtain⟨r2,d2⟩:=La h12 FQ;obtain⟨r3,d3⟩:=Lb h12 wJ;obtain⟨r4,d4⟩:=Lb afj KS;have w1:=Tb h12 wJ (i64.wrap (aF.bX-n));have w2:=Tb afj KS (i64.wrap (DN.bX+n));have c1:decide ((i:Int)<0)=false:=aaY ai;have c2:decide ((i:Int)>=12)=false:=aaY ai;have c3:decide ((j:Int)<0)=false:=aaY ai;have c4:decide ((j:Int)>=12)=false:=aaY ai;have c5:(aF.is==0)=false:=by simpa using ZF
 have c6:(aT.is==0)=false:=by simpa using isT
 have c7:decide (n<0)=false:=aaY ai;have c8:decide (n>1152921504606846976)=false:=aaY ai;have c9:decide (aF.bX<n)=false:=aaY ai;have n1:(bif decide ((i:Int)<0)then true else decide ((i:Int)>=12))=false:=by rw[c1,c2];rfl
 have n2:(bif bif false then true else decide ((j:Int)<0)then true else decide ((j:Int)>=12))=false:=by rw[c3,c4];rfl
 have n3:(bif decide (n<0)then true else decide (n>1152921504606846976))=false:=by rw[c7,c8];rfl
 refine qn func115 call115 λβ hf=>?_
 repeat' (first|refine kM ?_|refine zc ?_ ?_|(intro h;first|(cases h;done)|rw[h]|skip)|refine AK.seq ?_|refine ah.box kn Z Z Z Z (js _) Z ?_|refine ah.nE hX kn Z Z Z Z Z Z Z Z Z ek ?_|refine ah.dj hX kn Z Z Z Z Z Z Z (eA ek Z Z) ?_|refine ah.dj hX kn Z Z Z Z Z Z ek UI ?_|refine ah.store hX kn Z Z Z Z Z Z Z Z (jq ek Z) (gL ek Z) Z ?_|refine ah.store hX kn Z Z Z Z Z Z Z Z Z ek UI ?_|refine AK.F6 hX hf (iu Z Z Z Z (eA ek Z Z) Z) (jT _ _) (Wk.refl _))
set_option maxRecDepth 100000 in
def aad(l:dX)(h12:l.aS.length=12)(F T n:Int)
  (hno:∀(i j:Nat)(aF aT:Acc),F=i->T=j->l.aS[i]?=some aF->l.aS[j]?=some aT->aF.is≠0->aT.is≠0->0<=n->n<=1152921504606846976->n<=aF.bX->False) :
  ∃e:Int,(e≠0/\e=jw l F T n)/\af 115 [.agg (cN l),.int .i64 F,.int .i64 T,.int .i64 n] (.eF [.agg (cN l),.int .i64 e]):=by
 by_cases f1:F<0
 ·have n1:(bif decide (F<0)then true else decide (F>=12))=true:=by rw[aaX f1];rfl
  have c1:=aaX f1;refine⟨6,⟨bn,Uv⟩,?_⟩;refine qn func115 call115 λβ hf=>?_
  repeat' (first|refine kM ?_|refine zc ?_ ?_|(intro h;first|(cases h;done)|rw[h]|skip)|refine AK.seq ?_|refine ah.box kn Z Z Z Z (js _) Z ?_|refine ah.nE hX kn Z Z Z Z Z Z Z Z Z ek ?_|refine ah.dj hX kn Z Z Z Z Z Z Z (eA ek Z Z) ?_|refine ah.dj hX kn Z Z Z Z Z Z ek UI ?_|refine ah.store hX kn Z Z Z Z Z Z Z Z (jq ek Z) (gL ek Z) Z ?_|refine ah.store hX kn Z Z Z Z Z Z Z Z Z ek UI ?_|refine AK.F6 hX hf (iu Z Z Z Z (eA ek Z Z) Z) (jT _ _) (Wk.refl _))
 have c1:=aaY f1;by_cases f2:F>=12
 ·have n1:(bif decide (F<0)then true else decide (F>=12))=true:=by rw[aaY f1,aaX f2];rfl
  have c2:=aaX f2;refine⟨6,⟨bn,Uv⟩,?_⟩;refine qn func115 call115 λβ hf=>?_
  repeat' (first|refine kM ?_|refine zc ?_ ?_|(intro h;first|(cases h;done)|rw[h]|skip)|refine AK.seq ?_|refine ah.box kn Z Z Z Z (js _) Z ?_|refine ah.nE hX kn Z Z Z Z Z Z Z Z Z ek ?_|refine ah.dj hX kn Z Z Z Z Z Z Z (eA ek Z Z) ?_|refine ah.dj hX kn Z Z Z Z Z Z ek UI ?_|refine ah.store hX kn Z Z Z Z Z Z Z Z (jq ek Z) (gL ek Z) Z ?_|refine ah.store hX kn Z Z Z Z Z Z Z Z Z ek UI ?_|refine AK.F6 hX hf (iu Z Z Z Z (eA ek Z Z) Z) (jT _ _) (Wk.refl _))
 have c2:=aaY f2;have n1:(bif decide (F<0)then true else decide (F>=12))=false:=by rw[aaY f1,aaY f2];rfl
 by_cases t1:T<0
 ·have n2:(bif bif false then true else decide (T<0)then true else decide (T>=12))=true:=by rw[aaX t1];rfl
  have c3:=aaX t1;refine⟨6,⟨bn,Uv⟩,?_⟩;refine qn func115 call115 λβ hf=>?_
  repeat' (first|refine kM ?_|refine zc ?_ ?_|(intro h;first|(cases h;done)|rw[h]|skip)|refine AK.seq ?_|refine ah.box kn Z Z Z Z (js _) Z ?_|refine ah.nE hX kn Z Z Z Z Z Z Z Z Z ek ?_|refine ah.dj hX kn Z Z Z Z Z Z Z (eA ek Z Z) ?_|refine ah.dj hX kn Z Z Z Z Z Z ek UI ?_|refine ah.store hX kn Z Z Z Z Z Z Z Z (jq ek Z) (gL ek Z) Z ?_|refine ah.store hX kn Z Z Z Z Z Z Z Z Z ek UI ?_|refine AK.F6 hX hf (iu Z Z Z Z (eA ek Z Z) Z) (jT _ _) (Wk.refl _))
 have c3:=aaY t1;by_cases t2:T>=12
 ·have n2:(bif bif false then true else decide (T<0)then true else decide (T>=12))=true:=by rw[aaY t1,aaX t2];rfl
  have c4:=aaX t2;refine⟨6,⟨bn,Uv⟩,?_⟩;refine qn func115 call115 λβ hf=>?_
  repeat' (first|refine kM ?_|refine zc ?_ ?_|(intro h;first|(cases h;done)|rw[h]|skip)|refine AK.seq ?_|refine ah.box kn Z Z Z Z (js _) Z ?_|refine ah.nE hX kn Z Z Z Z Z Z Z Z Z ek ?_|refine ah.dj hX kn Z Z Z Z Z Z Z (eA ek Z Z) ?_|refine ah.dj hX kn Z Z Z Z Z Z ek UI ?_|refine ah.store hX kn Z Z Z Z Z Z Z Z (jq ek Z) (gL ek Z) Z ?_|refine ah.store hX kn Z Z Z Z Z Z Z Z Z ek UI ?_|refine AK.F6 hX hf (iu Z Z Z Z (eA ek Z Z) Z) (jT _ _) (Wk.refl _))
 have c4:=aaY t2;have n2:(bif bif false then true else decide (T<0)then true else decide (T>=12))=false:=by rw[aaY t1,aaY t2];rfl
 obtain⟨i,rfl⟩:=afA (show 0<=F by omega);obtain⟨j,rfl⟩:=afA (show 0<=T by omega);obtain⟨aF,wJ⟩:∃a,l.aS[i]?=some a:=⟨l.aS[i]' ai,cc⟩;obtain⟨aT,FQ⟩:∃a,l.aS[j]?=some a:=⟨l.aS[j]' ai,cc⟩;have li:Nat.blt i 12=true:=by rw[afP];omega
 have lj:Nat.blt j 12=true:=by rw[afP];omega
 obtain⟨r1,d1⟩:=La h12 wJ;obtain⟨r2,d2⟩:=La h12 FQ;obtain⟨r3,d3⟩:=Lb h12 wJ;by_cases i1:aF.is=0
 ·have c5:(aF.is==0)=true:=by simpa using i1
  refine⟨6,⟨bn,by unfold jw;rw[iG wJ,if_pos ai]⟩,?_⟩;refine qn func115 call115 λβ hf=>?_
  repeat' (first|refine kM ?_|refine zc ?_ ?_|(intro h;first|(cases h;done)|rw[h]|skip)|refine AK.seq ?_|refine ah.box kn Z Z Z Z (js _) Z ?_|refine ah.nE hX kn Z Z Z Z Z Z Z Z Z ek ?_|refine ah.dj hX kn Z Z Z Z Z Z Z (eA ek Z Z) ?_|refine ah.dj hX kn Z Z Z Z Z Z ek UI ?_|refine ah.store hX kn Z Z Z Z Z Z Z Z (jq ek Z) (gL ek Z) Z ?_|refine ah.store hX kn Z Z Z Z Z Z Z Z Z ek UI ?_|refine AK.F6 hX hf (iu Z Z Z Z (eA ek Z Z) Z) (jT _ _) (Wk.refl _))
 have c5:(aF.is==0)=false:=by simpa using i1
 by_cases i2:aT.is=0
 ·have c6:(aT.is==0)=true:=by simpa using i2
  refine⟨6,⟨bn,by unfold jw;rw[iG wJ,iG FQ,if_pos ai]⟩,?_⟩;refine qn func115 call115 λβ hf=>?_
  repeat' (first|refine kM ?_|refine zc ?_ ?_|(intro h;first|(cases h;done)|rw[h]|skip)|refine AK.seq ?_|refine ah.box kn Z Z Z Z (js _) Z ?_|refine ah.nE hX kn Z Z Z Z Z Z Z Z Z ek ?_|refine ah.dj hX kn Z Z Z Z Z Z Z (eA ek Z Z) ?_|refine ah.dj hX kn Z Z Z Z Z Z ek UI ?_|refine ah.store hX kn Z Z Z Z Z Z Z Z (jq ek Z) (gL ek Z) Z ?_|refine ah.store hX kn Z Z Z Z Z Z Z Z Z ek UI ?_|refine AK.F6 hX hf (iu Z Z Z Z (eA ek Z Z) Z) (jT _ _) (Wk.refl _))
 have c6:(aT.is==0)=false:=by simpa using i2
 by_cases m1:n<0
 ·have n3:(bif decide (n<0)then true else decide (n>1152921504606846976))=true:=by rw[aaX m1];rfl
  have c7:=aaX m1;refine⟨2,⟨bn,Wc⟩,?_⟩;refine qn func115 call115 λβ hf=>?_
  repeat' (first|refine kM ?_|refine zc ?_ ?_|(intro h;first|(cases h;done)|rw[h]|skip)|refine AK.seq ?_|refine ah.box kn Z Z Z Z (js _) Z ?_|refine ah.nE hX kn Z Z Z Z Z Z Z Z Z ek ?_|refine ah.dj hX kn Z Z Z Z Z Z Z (eA ek Z Z) ?_|refine ah.dj hX kn Z Z Z Z Z Z ek UI ?_|refine ah.store hX kn Z Z Z Z Z Z Z Z (jq ek Z) (gL ek Z) Z ?_|refine ah.store hX kn Z Z Z Z Z Z Z Z Z ek UI ?_|refine AK.F6 hX hf (iu Z Z Z Z (eA ek Z Z) Z) (jT _ _) (Wk.refl _))
 have c7:=aaY m1;by_cases m2:n>1152921504606846976
 ·have n3:(bif decide (n<0)then true else decide (n>1152921504606846976))=true:=by rw[aaY m1,aaX m2];rfl
  have c8:=aaX m2;refine⟨2,⟨bn,Wc⟩,?_⟩;refine qn func115 call115 λβ hf=>?_
  repeat' (first|refine kM ?_|refine zc ?_ ?_|(intro h;first|(cases h;done)|rw[h]|skip)|refine AK.seq ?_|refine ah.box kn Z Z Z Z (js _) Z ?_|refine ah.nE hX kn Z Z Z Z Z Z Z Z Z ek ?_|refine ah.dj hX kn Z Z Z Z Z Z Z (eA ek Z Z) ?_|refine ah.dj hX kn Z Z Z Z Z Z ek UI ?_|refine ah.store hX kn Z Z Z Z Z Z Z Z (jq ek Z) (gL ek Z) Z ?_|refine ah.store hX kn Z Z Z Z Z Z Z Z Z ek UI ?_|refine AK.F6 hX hf (iu Z Z Z Z (eA ek Z Z) Z) (jT _ _) (Wk.refl _))
 have c8:=aaY m2;have n3:(bif decide (n<0)then true else decide (n>1152921504606846976))=false:=by rw[aaY m1,aaY m2];rfl
 by_cases b1:aF.bX<n
 ·have c9:=aaX b1;refine⟨8,⟨bn,by unfold jw;rw[iG wJ,iG FQ,if_neg ai,if_neg ai,if_pos ai]⟩,?_⟩;refine qn func115 call115 λβ hf=>?_
  repeat' (first|refine kM ?_|refine zc ?_ ?_|(intro h;first|(cases h;done)|rw[h]|skip)|refine AK.seq ?_|refine ah.box kn Z Z Z Z (js _) Z ?_|refine ah.nE hX kn Z Z Z Z Z Z Z Z Z ek ?_|refine ah.dj hX kn Z Z Z Z Z Z Z (eA ek Z Z) ?_|refine ah.dj hX kn Z Z Z Z Z Z ek UI ?_|refine ah.store hX kn Z Z Z Z Z Z Z Z (jq ek Z) (gL ek Z) Z ?_|refine ah.store hX kn Z Z Z Z Z Z Z Z Z ek UI ?_|refine AK.F6 hX hf (iu Z Z Z Z (eA ek Z Z) Z) (jT _ _) (Wk.refl _))
 exact absurd (hno i j aF aT Z Z wJ FQ i1 i2 ai ai ai) id
end Go.Proofs
namespace Go.cw
def JC(a:Acc):Bool :=
 if dD a.param≠0 then false else if(aV a.param).length≠0 then false else if dD a.store≠0 then false else if(aV a.store).length≠0 then false
 else if a.code.length≠0 then false else rY a.keep lC
def kC:L Acc->Int
 |[]=>0
 |a::l=>a.bX+kC l
def Ix(l:dX):Int:=l.eG+kC l.aS
def fh{i:TI}{r:L AV}{a:Acc}(h1:i.isAgg=true)(h2:i.size=15)(h:takeN 15 r=some (xP a)):lO i r=some (.agg (xP a)):=by unfold lO;simp_all
def AN{l:dX}{i:TI}(T:l.aS.length=12)(h1:i.isAgg=true)(h2:i.size=180):lO i (bH l)=some (.agg (gh l)):=by unfold lO;rw[h1,h2];simp only[Xw T]
def Bz(us:L Nat):∀l:L CV,qI us (l.map AV.c)=true
 |[]=>by simp only[List.map_nil,qI]
 |c::l=>by simp only[aeX,qI,Ii,Bz us l]
def kg(us:L Nat)(l:dX):qI us (gh l)=true:=Bz us _
def b8(us:L Nat)(l:dX):qI us (bH l)=true:=Bz us _
def Xx:kC []=0:=rfl
def UN(a:Acc)(l:L Acc):kC (a::l)=a.bX+kC l:=rfl
def Gl:∀(l:L Acc),(∀a∈l,0<=a.bX/\a.bX<=4000000)->0<=kC l/\kC l<=4000000*l.length
 |[],_=>by simp[kC]
 |a::l,h=>by have h1:=h a cc;have h2:=Gl l (λx D=>h x K0);simp only[kC,aag];omega
end Go.cw
namespace Go.Proofs
open Go.cw
attribute [local irreducible] AK ah aR bM cX bH cN gh dX.cq rY kC
def QU(a:Acc)(N:aH a.keep<=1099511627776)(C:yZ a<=8589934593):af 46 [.agg (tV a)] (.bool (JC a)):=by
 have h1:=x9 a.keep lC N;unfold JC;obtain⟨P,bX,A,⟨G,U⟩,⟨B,K⟩,code,⟨k,n,m,s,M,V,W⟩⟩:=a;simp only[yZ,bf]at C;simp only[dD,aV]at *;have O:=aQ U;have I:=aQ K;have D:=aZ code;by_cases u:G≠0
 ·rw[if_pos u];have E:(G==0)=false:=by simpa using u
  clear h1;refine qn func46 call46 λβ hf=>?_
  repeat' (first|refine kM ?_|refine zc ?_ ?_|(intro h;first|(cases h;done)|rw[h]|skip))
  all_goals exact Wk.refl _
 rw[if_neg u];have E:(G==0)=true:=by simpa using u
 by_cases Y:U.length≠0
 ·rw[if_pos Y];have q:((((az U).length:Nat):Int)==0)=false:=by rw[agr];omega
  clear h1;refine qn func46 call46 λβ hf=>?_
  repeat' (first|refine kM ?_|refine zc ?_ ?_|(intro h;first|(cases h;done)|rw[h]|skip))
  all_goals exact Wk.refl _
 rw[if_neg Y];have q:((((az U).length:Nat):Int)==0)=true:=by rw[ahD];omega
 by_cases T:B≠0
 ·rw[if_pos T];have H:(B==0)=false:=by simpa using T
  clear h1;refine qn func46 call46 λβ hf=>?_
  repeat' (first|refine kM ?_|refine zc ?_ ?_|(intro h;first|(cases h;done)|rw[h]|skip))
  all_goals exact Wk.refl _
 rw[if_neg T];have H:(B==0)=true:=by simpa using T
 by_cases c4:K.length≠0
 ·rw[if_pos c4];have Q:((((az K).length:Nat):Int)==0)=false:=by rw[agr];omega
  clear h1;refine qn func46 call46 λβ hf=>?_
  repeat' (first|refine kM ?_|refine zc ?_ ?_|(intro h;first|(cases h;done)|rw[h]|skip))
  all_goals exact Wk.refl _
 rw[if_neg c4];have Q:((((az K).length:Nat):Int)==0)=true:=by rw[ahD];omega
 by_cases S:code.length≠0
 ·rw[if_pos S];have J:((((aD code).length:Nat):Int)==0)=false:=by rw[agr];omega
  clear h1;refine qn func46 call46 λβ hf=>?_
  repeat' (first|refine kM ?_|refine zc ?_ ?_|(intro h;first|(cases h;done)|rw[h]|skip))
  all_goals exact Wk.refl _
 rw[if_neg S];have J:((((aD code).length:Nat):Int)==0)=true:=by rw[ahD];omega
 refine qn func46 call46 λβ hf=>?_
 repeat' (first|refine kM ?_|refine zc ?_ ?_|(intro h;first|(cases h;done)|rw[h]|skip)|refine uC Z h1 ?_)
 all_goals exact Wk.refl _
set_option maxRecDepth 100000 in
def UO(l:dX)(h12:l.aS.length=12)(ZB:0<=l.eG/\l.eG<=4000000)(hb:∀a∈l.aS,0<=a.bX/\a.bX<=4000000) :
  af 49 [.agg (cN l)] (.int .i64 (Ix l)):=by
 have dF:=uy h12;have Ws:=Gl l.aS hb;unfold Ix;refine qn func49 call49 λβ hf=>?_
 repeat' (first|refine kM ?_|refine zc ?_ ?_|(intro h;first|(cases h;done)|rw[h]|skip)|refine AK.seq ?_|refine ah.box kn Z Z Z Z (js _) Z ?_|refine ah.dj hX kn Z Z Z Z Z Z Z (AN h12 Z Z) ?_|refine ah.dj hX kn Z Z Z Z Z Z dF Z ?_)
 refine AK.dN (α:=Nat×Int) (λz=>z.1<=12/\l.eG+kC l.aS=z.2+kC (l.aS.drop z.1)/\0<=z.2/\z.2<=4000000*(z.1+1)) (λz=>12-z.1)
  (λz=>[(10,.c (.int .i64 z.1)),(9,.agg (gh l)),(3,.c (.int .i64 z.2))]) (λ_=>[]) (λ_=>[]) [] (0,l.eG)
  ⟨ai,Z,ZB.1,by simpa using ZB.2⟩ ce trivial trivial (by simp only[NY,Ii,kg]) Z Z ?_
 rintro⟨j,m⟩ ⟨hj,hinv,hm0,Bm⟩ ih;simp only at hj hinv hm0 Bm;by_cases hj2:j<12
 ·obtain⟨a,ha⟩:∃a,l.aS[j]?=some a:=⟨l.aS[j]' ai,cc⟩;obtain⟨r,d1,d2⟩:=Lc h12 ha;have hba:=hb a (abz ha);have lj:Nat.blt j 12=true:=by rw[afP];exact hj2
  have c1:decide ((j:Int)<12)=true:=aaX ai;rw[dK ha,UN]at hinv;have zV:=ih (j+1,m+a.bX) ⟨hj2,by rw[hinv];show _=m+a.bX+kC (l.aS.drop (j+1));omega,by show 0<=m+a.bX;omega,by show m+a.bX<=_;push_cast;omega⟩ (by show 12-(j+1)<12-j;omega);clear ih hinv hb Ws;obtain⟨is,bX,cnt,⟨pT,pA⟩,⟨sT,sA⟩,code,⟨k,n,q,s,args,types,lam⟩⟩:=a;simp only at hba zV
  repeat' (first|refine kM ?_|refine zc ?_ ?_|(intro h;first|(cases h;done)|rw[h]|skip)|refine ah.fy hX kn Z Z Z Z Z Z Z Z Z lj d1 (fh Z Z d2) ?_)
  have hw:some (AV.c (CV.int .i64 (i64.wrap (m+bX))))=some (AV.c (CV.int .i64 (m+bX))):=by rw[iB ai ai]
  refine AK.again zV ⟨.inl (dY (i:=j) ai),.inl Z,.inl hw,trivial⟩ trivial trivial (by simp only[NY,Ii,kg]) Z Z
 have c1:decide ((j:Int)<12)=false:=aaY ai;have hall:l.eG+kC l.aS=m:=by rw[hinv,afy ai,Xx,Int.add_zero]
 rw[hall];clear ih
 repeat' (first|refine kM ?_|refine zc ?_ ?_|(intro h;first|(cases h;done)|rw[h]|skip))
 all_goals exact Wk.refl _
end Go.Proofs
namespace Go.cw
def FK(j:Nat)(a:Acc):Bool:=decide (a.bX<0\/a.bX>4000000)||decide (a.cnt<0\/a.cnt>1152921504606846976)||((a.is==1) != decide ((j:Int)<4))
def gIn(a:Acc):Bool :=
 if a.is=1 then JC a
 else if a.is=0 then(JC a&&decide (a.bX=0)&&decide (a.cnt=0))
 else if a.is=2 then(decide (a.cnt=0)&&decide (jr a.param a.store (.mk 3 0 0 [] a.code)=0)&&gN a.store a.keep&&decide (gX a.keep<=200))
 else false
def tQ(j:Nat)(a:Acc):Bool := !FK j a&&gIn a
def fH:Nat->L Acc->Bool
 |_,[]=>true
 |j,a::l=>tQ j a&&fH (j+1) l
def rP(l:dX):Bool:=decide (0<=l.eG/\l.eG<=4000000)&&fH 0 l.aS&&decide (Ix l=4000000)
def Xy{l:dX}{ρ:Operand->Option AV}{x:Operand}(h:ρ x=some (.agg (bH l))):gU ρ [x]=some [.agg (cN l)]:=by have h1:=y8 l;simp only[gU,h,h1]
def aaF(j:Nat):fH j []=true:=rfl
def aaG(j:Nat)(a:Acc)(l:L Acc):fH j (a::l)=(tQ j a&&fH (j+1) l):=rfl
def uE:∀(l:L Acc)(j:Nat),fH j l=true->∀a∈l,0<=a.bX/\a.bX<=4000000
 |a::l,j,h,x,D=>by
  simp only[fH,aaN]at h;rcases List.mem_cons.1 D with rfl|D
  have h1:=h.1;simp only[tQ,FK,aaN,aio,afV,agY]at h1;have:=h1.1.1.1;omega;exact uE l (j+1) h.2 x D
end Go.cw
namespace Go.Proofs
open Go.cw
attribute [local irreducible] AK ah aR bM cX bH cN gh dX.cq rY kC JC jr gN gX Ix
set_option maxRecDepth 100000 in
def Ur(l:dX)(h12:l.aS.length=12)(hs:∀a∈l.aS,yZ a<=8589934586):af 20 [.agg (cN l)] (.bool (rP l)):=by
 have dF:=uy h12;by_cases f1:l.eG<0
 ·have e1:(bif decide (l.eG<0)then true else decide (l.eG>4000000))=true:=by rw[aaX f1];rfl
  have e2:=aaX f1;have hres:rP l=false:=by unfold rP;rw[aaY ai];rfl
  rw[hres];refine qn func20 call20 λβ hf=>?_
  repeat' (first|refine kM ?_|refine zc ?_ ?_|(intro h;first|(cases h;done)|rw[h]|skip)|refine AK.skip ?_|refine AK.seq ?_|refine AK.block ?_|refine ah.box kn Z Z Z Z (js _) Z ?_|refine ah.dj hX kn Z Z Z Z Z Z dF Z ?_)
  all_goals exact Wk.refl _
 have e2:=aaY f1;by_cases f2:l.eG>4000000
 ·have e1:(bif decide (l.eG<0)then true else decide (l.eG>4000000))=true:=by rw[aaY f1,aaX f2];rfl
  have e4:(bif false then true else decide (l.eG>4000000))=true:=by rw[aaX f2];rfl
  have hres:rP l=false:=by unfold rP;rw[aaY ai];rfl
  rw[hres];refine qn func20 call20 λβ hf=>?_
  repeat' (first|refine kM ?_|refine zc ?_ ?_|(intro h;first|(cases h;done)|rw[h]|skip)|refine AK.skip ?_|refine AK.seq ?_|refine AK.block ?_|refine ah.box kn Z Z Z Z (js _) Z ?_|refine ah.dj hX kn Z Z Z Z Z Z dF Z ?_)
  all_goals exact Wk.refl _
 have e3:=aaY f2;have e4:(bif false then true else decide (l.eG>4000000))=false:=by rw[e3];rfl
 have e1:(bif decide (l.eG<0)then true else decide (l.eG>4000000))=false:=by rw[aaY f1,aaY f2];rfl
 have hG:rP l=(fH 0 l.aS&&decide (Ix l=4000000)):=by unfold rP;rw[aaX ai,afS]
 rw[hG];clear hG;refine qn func20 call20 λβ hf=>?_
 repeat' (first|refine kM ?_|refine zc ?_ ?_|(intro h;first|(cases h;done)|rw[h]|skip)|refine AK.skip ?_|refine AK.seq ?_|refine AK.block ?_|refine ah.box kn Z Z Z Z (js _) Z ?_|refine ah.dj hX kn Z Z Z Z Z Z dF Z ?_|refine ah.dj hX kn Z Z Z Z Z Z Z (AN h12 Z Z) ?_)
 refine AK.dN (α:=Nat) (λj=>j<=12/\fH 0 l.aS=fH j (l.aS.drop j)) (λj=>12-j)
  (λj=>[(15,.c (.int .i64 j)),(14,.agg (gh l)),(1,.ptr 1 0)]) (λ_=>[(1,bH l)]) (λ_=>[]) [1] 0
  ⟨ai,Z⟩ ce ⟨Z,trivial⟩ trivial p8 acs Z ?_
 rintro j ⟨hj,hinv⟩ ih;by_cases hj2:j<12;rotate_left
 ·have c1:decide ((j:Int)<12)=false:=aaY ai;have hall:fH 0 l.aS=true:=by rw[hinv,afy ai,aaF]
  have Ws:=UO l h12 ⟨ai,ai⟩ (uE _ _ hall);rw[hall,afS];clear ih
  repeat' (first|refine kM ?_|refine zc ?_ ?_|(intro h;first|(cases h;done)|rw[h]|skip)|refine AK.exit Z ?_|refine AK.skip ?_|refine AK.seq ?_|refine ah.dj hX kn Z Z Z Z Z Z Z (eA ek Z Z) ?_|refine ah.xS kn Z Z Z (Xy Z) Ws ?_)
  all_goals exact Wk.of_eq (aeM CV.bool (Bool.beq_eq_decide_eq _ _))
 obtain⟨a,ha⟩:∃a,l.aS[j]?=some a:=⟨l.aS[j]' ai,cc⟩;obtain⟨r,d1,d2⟩:=Lc h12 ha;have hsz:=hs a (abz ha);have lj:Nat.blt j 12=true:=by rw[afP];exact hj2
 have c1:decide ((j:Int)<12)=true:=aaX ai;rw[dK ha,aaG]at hinv;have zV:=ih (j+1);clear ih;obtain⟨is,bX,cnt,⟨pT,pA⟩,⟨sT,sA⟩,code,⟨k,n,m,s,args,types,lam⟩⟩:=a;simp only[yZ,bf]at hsz;have Gm:=QU ⟨is,bX,cnt,.mk pT pA,.mk sT sA,code,.mk k n m s args types lam⟩ (by show aH (.mk k n m s args types lam)<=_;omega) (by simp only[yZ,bf];omega);have uF:=BC (.mk pT pA) (.mk sT sA) (.mk 3 0 0 [] code) acV adT;have hfit:=AG (.mk sT sA) (.mk k n m s args types lam) acV ai;have adn:=vL (.mk k n m s args types lam) ai;unfold tQ FK gIn at hinv;dsimp only at hinv;generalize JC ⟨is,bX,cnt,.mk pT pA,.mk sT sA,code,.mk k n m s args types lam⟩=B at Gm hinv;generalize jr (.mk pT pA) (.mk sT sA) (.mk 3 0 0 [] code)=S at uF hinv;generalize gN (.mk sT sA) (.mk k n m s args types lam)=T at hfit hinv;generalize gX (.mk k n m s args types lam)=V at adn hinv;by_cases q1:bX<0
 ·have u1:=aaX q1;have k1:(bif decide (bX<0)then true else decide (bX>4000000))=true:=by rw[u1];rfl
  have hres:fH 0 l.aS=false:=by rw[hinv];rw[aaX (show bX<0\/bX>4000000 by omega)];rfl
  rw[hres,afc];clear zV hinv
  repeat' (first|refine kM ?_|refine zc ?_ ?_|(intro h;first|(cases h;done)|rw[h]|skip)|refine ah.fy hX kn Z Z Z Z Z Z Z Z Z lj d1 (fh Z Z d2) ?_)
  all_goals exact Wk.refl _
 have u1:=aaY q1;by_cases q2:bX>4000000
 ·have u2:=aaX q2;have k1:(bif decide (bX<0)then true else decide (bX>4000000))=true:=by rw[u1,u2];rfl
  have k2:(bif false then true else decide (bX>4000000))=true:=by rw[u2];rfl
  have hres:fH 0 l.aS=false:=by rw[hinv];rw[aaX (show bX<0\/bX>4000000 by omega)];rfl
  rw[hres,afc];clear zV hinv
  repeat' (first|refine kM ?_|refine zc ?_ ?_|(intro h;first|(cases h;done)|rw[h]|skip)|refine ah.fy hX kn Z Z Z Z Z Z Z Z Z lj d1 (fh Z Z d2) ?_)
  all_goals exact Wk.refl _
 have u2:=aaY q2;have k1:(bif decide (bX<0)then true else decide (bX>4000000))=false:=by rw[u1,u2];rfl
 have k2:(bif false then true else decide (bX>4000000))=false:=by rw[u2];rfl
 rw[aaY (show ¬(bX<0\/bX>4000000)by omega),aiE]at hinv;by_cases q3:cnt<0
 ·have u3:=aaX q3;have k3:(bif false then true else decide (cnt<0))=true:=by rw[u3];rfl
  have hres:fH 0 l.aS=false:=by rw[hinv];rw[aaX (show cnt<0\/cnt>1152921504606846976 by omega)];rfl
  rw[hres,afc];clear zV hinv
  repeat' (first|refine kM ?_|refine zc ?_ ?_|(intro h;first|(cases h;done)|rw[h]|skip)|refine ah.fy hX kn Z Z Z Z Z Z Z Z Z lj d1 (fh Z Z d2) ?_)
  all_goals exact Wk.refl _
 have u3:=aaY q3;have k3:(bif false then true else decide (cnt<0))=false:=by rw[u3];rfl
 by_cases q4:cnt>1152921504606846976
 ·have u4:=aaX q4;have k4:(bif false then true else decide (cnt>1152921504606846976))=true:=by rw[u4];rfl
  have hres:fH 0 l.aS=false:=by rw[hinv];rw[aaX (show cnt<0\/cnt>1152921504606846976 by omega)];rfl
  rw[hres,afc];clear zV hinv
  repeat' (first|refine kM ?_|refine zc ?_ ?_|(intro h;first|(cases h;done)|rw[h]|skip)|refine ah.fy hX kn Z Z Z Z Z Z Z Z Z lj d1 (fh Z Z d2) ?_)
  all_goals exact Wk.refl _
 have u4:=aaY q4;have k4:(bif false then true else decide (cnt>1152921504606846976))=false:=by rw[u4];rfl
 rw[aaY (show ¬(cnt<0\/cnt>1152921504606846976)by omega),aiE]at hinv;cases u5:(!((is==1)==decide ((j:Int)<4)))with
 |true =>
  have k5:(bif false then true else(!((is==1)==decide ((j:Int)<4))))=true:=by rw[u5];rfl
  have hres:fH 0 l.aS=false:=by rw[hinv];rw[show((is==1) != decide ((j:Int)<4))=true from u5];rfl
  rw[hres,afc];clear zV hinv
  repeat' (first|refine kM ?_|refine zc ?_ ?_|(intro h;first|(cases h;done)|rw[h]|skip)|refine ah.fy hX kn Z Z Z Z Z Z Z Z Z lj d1 (fh Z Z d2) ?_)
  all_goals exact Wk.refl _
 |false =>
 have k5:(bif false then true else(!((is==1)==decide ((j:Int)<4))))=false:=by rw[u5];rfl
 rw[show((is==1) != decide ((j:Int)<4))=false from u5]at hinv;by_cases i1:is=1
 ·have v1:(is==1)=true:=by simpa using i1
  rw[if_pos i1]at hinv;cases B with
  |false =>
   have hres:fH 0 l.aS=false:=(by rw[hinv];rfl);rw[hres,afc];clear zV hinv
   repeat' (first|refine kM ?_|refine zc ?_ ?_|(intro h;first|(cases h;done)|rw[h]|skip)|refine ah.fy hX kn Z Z Z Z Z Z Z Z Z lj d1 (fh Z Z d2) ?_|refine uC Z Gm ?_)
   all_goals exact Wk.refl _
  |true =>
   have hres:fH 0 l.aS=fH (j+1) (l.aS.drop (j+1)):=(by rw[hinv];rfl);have ih2:=zV ⟨hj2,hres⟩ ai;clear zV hinv
   repeat' (first|refine kM ?_|refine zc ?_ ?_|(intro h;first|(cases h;done)|rw[h]|skip)|refine ah.fy hX kn Z Z Z Z Z Z Z Z Z lj d1 (fh Z Z d2) ?_|refine uC Z Gm ?_)
   exact aes
 have v1:(is==1)=false:=by simpa using i1
 rw[if_neg i1]at hinv;by_cases i0:is=0
 ·have v0:(is==0)=true:=by simpa using i0
  rw[if_pos i0]at hinv;cases B with
  |false =>
   have hres:fH 0 l.aS=false:=(by rw[hinv];rfl);rw[hres,afc];clear zV hinv
   repeat' (first|refine kM ?_|refine zc ?_ ?_|(intro h;first|(cases h;done)|rw[h]|skip)|refine ah.fy hX kn Z Z Z Z Z Z Z Z Z lj d1 (fh Z Z d2) ?_|refine uC Z Gm ?_)
   all_goals exact Wk.refl _
  |true =>
   by_cases w1:bX≠0
   ·have x1:(bX != 0)=true:=(by simpa using w1);have y1:(bif false then true else(bX != 0))=true:=(by rw[x1];rfl);have hres:fH 0 l.aS=false:=(by rw[hinv];rw[aaY w1];rfl);rw[hres,afc];clear zV hinv
    repeat' (first|refine kM ?_|refine zc ?_ ?_|(intro h;first|(cases h;done)|rw[h]|skip)|refine ah.fy hX kn Z Z Z Z Z Z Z Z Z lj d1 (fh Z Z d2) ?_|refine uC Z Gm ?_)
    all_goals exact Wk.refl _
   have x1:(bX != 0)=false:=(by simpa using w1);have y1:(bif false then true else(bX != 0))=false:=(by rw[x1];rfl);rw[aaX (show bX=0 by omega)]at hinv;by_cases w2:cnt≠0
   ·have x2:(cnt != 0)=true:=(by simpa using w2);have y2:(bif false then true else(cnt != 0))=true:=(by rw[x2];rfl);have hres:fH 0 l.aS=false:=(by rw[hinv];rw[aaY w2];rfl);rw[hres,afc];clear zV hinv
    repeat' (first|refine kM ?_|refine zc ?_ ?_|(intro h;first|(cases h;done)|rw[h]|skip)|refine ah.fy hX kn Z Z Z Z Z Z Z Z Z lj d1 (fh Z Z d2) ?_|refine uC Z Gm ?_)
    all_goals exact Wk.refl _
   have x2:(cnt != 0)=false:=(by simpa using w2);have y2:(bif false then true else(cnt != 0))=false:=(by rw[x2];rfl);rw[aaX (show cnt=0 by omega)]at hinv;have hres:fH 0 l.aS=fH (j+1) (l.aS.drop (j+1)):=(by rw[hinv];rfl);have ih2:=zV ⟨hj2,hres⟩ ai;clear zV hinv
   repeat' (first|refine kM ?_|refine zc ?_ ?_|(intro h;first|(cases h;done)|rw[h]|skip)|refine ah.fy hX kn Z Z Z Z Z Z Z Z Z lj d1 (fh Z Z d2) ?_|refine uC Z Gm ?_)
   exact aes
 have v0:(is==0)=false:=by simpa using i0
 rw[if_neg i0]at hinv;by_cases i2:is=2;rotate_left
 ·have v2:(is==2)=false:=by simpa using i2
  rw[if_neg i2]at hinv;have hres:fH 0 l.aS=false:=by rw[hinv];rfl
  rw[hres,afc];clear zV hinv
  repeat' (first|refine kM ?_|refine zc ?_ ?_|(intro h;first|(cases h;done)|rw[h]|skip)|refine ah.fy hX kn Z Z Z Z Z Z Z Z Z lj d1 (fh Z Z d2) ?_)
  all_goals exact Wk.refl _
 have v2:(is==2)=true:=by simpa using i2
 rw[if_pos i2]at hinv;by_cases w2:cnt≠0
 ·have x2:(cnt != 0)=true:=by simpa using w2
  have hres:fH 0 l.aS=false:=by rw[hinv];rw[aaY w2];rfl
  rw[hres,afc];clear zV hinv
  repeat' (first|refine kM ?_|refine zc ?_ ?_|(intro h;first|(cases h;done)|rw[h]|skip)|refine ah.fy hX kn Z Z Z Z Z Z Z Z Z lj d1 (fh Z Z d2) ?_)
  all_goals exact Wk.refl _
 have x2:(cnt != 0)=false:=by simpa using w2
 rw[aaX (show cnt=0 by omega)]at hinv;by_cases w3:S≠0
 ·have x3:(S != 0)=true:=by simpa using w3
  have y3:(bif false then true else(S != 0))=true:=by rw[x3];rfl
  have hres:fH 0 l.aS=false:=by rw[hinv];rw[aaY w3];rfl
  rw[hres,afc];clear zV hinv
  repeat' (first|refine kM ?_|refine zc ?_ ?_|(intro h;first|(cases h;done)|rw[h]|skip)|refine ah.fy hX kn Z Z Z Z Z Z Z Z Z lj d1 (fh Z Z d2) ?_|refine uC Z uF ?_)
  all_goals exact Wk.refl _
 have x3:(S != 0)=false:=by simpa using w3
 have y3:(bif false then true else(S != 0))=false:=by rw[x3];rfl
 rw[aaX (show S=0 by omega)]at hinv;cases T with
 |false =>
  have hres:fH 0 l.aS=false:=by rw[hinv];rfl
  rw[hres,afc];clear zV hinv
  repeat' (first|refine kM ?_|refine zc ?_ ?_|(intro h;first|(cases h;done)|rw[h]|skip)|refine ah.fy hX kn Z Z Z Z Z Z Z Z Z lj d1 (fh Z Z d2) ?_|refine uC Z uF ?_|refine uC Z hfit ?_)
  all_goals exact Wk.refl _
 |true =>
 by_cases w4:(V:Int)>200
 ·have x4:decide ((V:Int)>200)=true:=aaX w4;have y4:(bif false then true else decide ((V:Int)>200))=true:=by rw[x4];rfl
  have hres:fH 0 l.aS=false:=by rw[hinv];rw[aaY (show ¬V<=200 by omega)];rfl
  rw[hres,afc];clear zV hinv
  repeat' (first|refine kM ?_|refine zc ?_ ?_|(intro h;first|(cases h;done)|rw[h]|skip)|refine ah.fy hX kn Z Z Z Z Z Z Z Z Z lj d1 (fh Z Z d2) ?_|refine uC Z uF ?_|refine uC Z hfit ?_|refine uC Z adn ?_)
  all_goals exact Wk.refl _
 have x4:decide ((V:Int)>200)=false:=aaY w4;have y4:(bif false then true else decide ((V:Int)>200))=false:=by rw[x4];rfl
 rw[aaX (show V<=200 by omega)]at hinv;have hres:fH 0 l.aS=fH (j+1) (l.aS.drop (j+1)):=by rw[hinv];rfl
 have ih2:=zV ⟨hj2,hres⟩ ai;clear zV hinv
 repeat' (first|refine kM ?_|refine zc ?_ ?_|(intro h;first|(cases h;done)|rw[h]|skip)|refine ah.fy hX kn Z Z Z Z Z Z Z Z Z lj d1 (fh Z Z d2) ?_|refine uC Z uF ?_|refine uC Z hfit ?_|refine uC Z adn ?_)
 exact aes
end Go.Proofs
namespace Go.cw
def KN(b:Int):Acc:=⟨1,b,0,lJ,lJ,[],lC⟩
def mV:dX:=⟨[KN 1000000,KN 1000000,KN 1000000,KN 1000000,tT,tT,tT,tT,tT,tT,tT,tT],0⟩
def akG:dX:=⟨[KN 999995,KN 1000005,KN 1000000,KN 1000000,tT,tT,tT,tT,tT,tT,tT,tT],0⟩
def gK{l:dX}{ρ:Operand->Option AV}{x:Operand}{r:L Operand}{cs:L CV}(h:ρ x=some (.agg (bH l)))(B:gU ρ r=some cs):gU ρ (x::r)=some (.agg (cN l)::cs):=by have h1:=y8 l;simp only[gU,h,h1,B]
end Go.cw
namespace Go.Proofs
open Go.cw
attribute [local irreducible] AK ah aR bM cX rP
set_option maxRecDepth 100000 in
def CH:af 45 [] (.agg (cN mV)):=by
 refine qn func45 call45 λβ hf=>?_
 repeat' (first|refine kM ?_|refine zc ?_ ?_|(intro h;first|(cases h;done)|rw[h]|skip)|refine AK.loop ?_|refine AK.inLoop ?_)
 all_goals exact Wk.of_eq Z
attribute [local irreducible] bH cN gh dX.cq
end Go.Proofs
