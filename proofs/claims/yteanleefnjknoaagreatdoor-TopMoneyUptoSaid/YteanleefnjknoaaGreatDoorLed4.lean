/- What Script of package check answers. -/
import Derived.Test.YteanleefnjknoaaGreatDoorFits
open Go.IntKind
open Go.Proofs.Tryz
set_option linter.defProp false
set_option maxHeartbeats 0
set_option linter.unusedVariables false
set_option linter.unusedSimpArgs false
namespace Go.Proofs
open Go.cK
attribute [local irreducible] AK af bg cn dP aP bB dY cE fD jP jN eP eg nG fY iT
def AA(p s:Ty)(n:Nd)(I:bw p+bw s<=8589934588)(E:bM n<=8589934593):ah 60 [dg p,dg s,aW n] (.int .i64 (jb p s n)):=by
 have h1:=lE p bn;have h2:=lE s bn;have V:=qa p bn;have T:=qa s bn;have K:=uL n [.mk 11 [p,s]] E (by simp only[bz,bw];omega);have q:=dM 11 [p,s];have H:=cZ 8;have J:=dM 10 [.mk 8 []];have W:=dM 11 [.mk 10 [.mk 8 []],s];have G := @BC n [.mk 11 [p,s]];have U:=λ(t:L Ty)(D:rJ t)(C:t.length<=20000000000)=>vU t [.mk 11 [.mk 10 [.mk 8 []],s]] D C;unfold jb;generalize jP n [.mk 11 [p,s]]=r at K G;obtain⟨⟨t,f⟩,e⟩:=r;simp only at G ⊢;obtain⟨P,O⟩:=p;obtain⟨S,Q⟩:=s;obtain⟨u,k2,k3,k4,k5⟩:=n;cases g1:bB (.mk P O)with
 |false =>
  rw[g1]at h1;rw[if_pos RA];clear h2 V T K q H J W U;refine qn func60 call60 λβ hf=>?_
  repeat' (first|refine kz ?_|refine zc ?_ ?_|(intro h;first|(cases h;done)|rw[h]|skip)|refine uC Z h1 ?_)
  all_goals exact Wk.refl _
 |true =>
 rw[g1]at h1;cases N:bB (.mk S Q)with
 |false =>
  rw[N]at h2;rw[if_pos RA];clear V T K q H J W U;refine qn func60 call60 λβ hf=>?_
  repeat' (first|refine kz ?_|refine zc ?_ ?_|(intro h;first|(cases h;done)|rw[h]|skip)|refine uC Z h1 ?_|refine uC Z h2 ?_)
  all_goals exact Wk.refl _
 |true =>
 rw[N]at h2;cases M:iT (.mk P O)with
 |false =>
  rw[M]at V;rw[if_pos cS];clear T K q H J W U;refine qn func60 call60 λβ hf=>?_
  repeat' (first|refine kz ?_|refine zc ?_ ?_|(intro h;first|(cases h;done)|rw[h]|skip)|refine uC Z h1 ?_|refine uC Z h2 ?_|refine uC Z V ?_)
  all_goals exact Wk.refl _
 |true =>
 rw[M]at V;cases A:iT (.mk S Q)with
 |false =>
  rw[A]at T;rw[if_pos cS];clear K q H J W U;refine qn func60 call60 λβ hf=>?_
  repeat' (first|refine kz ?_|refine zc ?_ ?_|(intro h;first|(cases h;done)|rw[h]|skip)|refine uC Z h1 ?_|refine uC Z h2 ?_|refine uC Z V ?_|refine uC Z T ?_)
  all_goals exact Wk.refl _
 |true =>
 rw[A]at T;rw[if_neg cS];by_cases B:e=0;rotate_left
 ·rw[if_pos B];have e1:(e != 0)=true:=by simpa using B
  clear H J W U;refine qn func60 call60 λβ hf=>?_
  repeat' (first|refine kz ?_|refine zc ?_ ?_|(intro h;first|(cases h;done)|rw[h]|skip)|refine uC Z h1 ?_|refine uC Z h2 ?_|refine uC Z V ?_|refine uC Z T ?_|refine uC Z q ?_|refine uC Z K ?_)
  all_goals exact Wk.refl _
 subst B;rw[if_neg cS];have Y:=U t (s9 (G Z).1) (by have:=(G Z).2.1;omega);clear U;cases f with
 |true =>
  rw[if_neg cS];refine qn func60 call60 λβ hf=>?_
  repeat' (first|refine kz ?_|refine zc ?_ ?_|(intro h;first|(cases h;done)|rw[h]|skip)|refine uC Z h1 ?_|refine uC Z h2 ?_|refine uC Z V ?_|refine uC Z T ?_|refine uC Z q ?_|refine uC Z K ?_)
  all_goals exact Wk.refl _
 |false =>
  cases hq:gJ t [.mk 11 [.mk 10 [.mk 8 []],.mk S Q]]with
  |false =>
   rw[hq]at Y;rw[if_pos cS];refine qn func60 call60 λβ hf=>?_
   repeat' (first|refine kz ?_|refine zc ?_ ?_|(intro h;first|(cases h;done)|rw[h]|skip)|refine uC Z h1 ?_|refine uC Z h2 ?_|refine uC Z V ?_|refine uC Z T ?_|refine uC Z q ?_|refine uC Z K ?_|refine uC Z H ?_|refine uC Z J ?_|refine uC Z W ?_|refine uC Z Y ?_)
   all_goals exact Wk.refl _
  |true =>
   rw[hq]at Y;rw[if_neg cS];refine qn func60 call60 λβ hf=>?_
   repeat' (first|refine kz ?_|refine zc ?_ ?_|(intro h;first|(cases h;done)|rw[h]|skip)|refine uC Z h1 ?_|refine uC Z h2 ?_|refine uC Z V ?_|refine uC Z T ?_|refine uC Z q ?_|refine uC Z K ?_|refine uC Z H ?_|refine uC Z J ?_|refine uC Z W ?_|refine uC Z Y ?_)
   all_goals exact Wk.refl _
end Go.Proofs
namespace Go.cK
structure Acc where
 is:Int
 dr:Int
 cnt:Int
 param:Ty
 store:Ty
 code:List Nd
 keep:Vl
structure gm where
 br:List Acc
 ez:Int
def Acc.de(a:Acc)(z:Int):Acc:={a with dr:=z}
def ahi(a:Acc):Prop:=(-9223372036854775808<=a.is/\a.is<=9223372036854775807)/\(-9223372036854775808<=a.dr/\a.dr<=9223372036854775807)/\(-9223372036854775808<=a.cnt/\a.cnt<=9223372036854775807)
def xV(a:Acc):Nat:=bw a.param+bw a.store+aU a.code+aM a.keep
def BE:Acc->L CV
 |⟨D,dr,Y,.mk V M,.mk C S,code,.mk k n m s J B W⟩ =>
  [.int .i64 D,.int .i64 dr,.int .i64 Y,.int .i64 V,.sl 2 (aA M),.int .i64 C,.sl 2 (aA S),.sl 5 (aH code),.int .i64 k,.int .i64 n,.int .i64 m,.str s,.sl 7 (aa J),.sl 2 (aA B),.sl 5 (aH W)]
def jf:L Acc->L CV
 |[]=>[]
 |a::l=>BE a++jf l
def eG(l:gm):L CV:=jf l.br++[.int .i64 l.ez]
def cU(l:gm):L AV:=(eG l).map AV.c
def iO(l:gm):L AV:=(jf l.br).map AV.c
def wh(a:Acc):L AV:=(BE a).map AV.c
def ML(a:Acc):(BE a).length=15:=by
 obtain⟨D,dr,Y,⟨V,M⟩,⟨C,S⟩,code,⟨k,n,m,s,J,B,W⟩⟩:=a;rfl
def xQ:∀l:L Acc,(jf l).length=l.length*15
 |[]=>rfl
 |a::l=>by simp only[jf,aaz,ML,xQ l,aac];omega
def uN{l:gm}(h:l.br.length=12):(iO l).length=180:=by simp only[iO,aeA,xQ,h]
def wK(l:gm):cU l=iO l++[.c (.int .i64 l.ez)]:=by simp only[cU,eG,iO,aeC,aed,List.map_nil]
def jR{l:gm}(h:l.br.length=12):(cU l).length=181:=by rw[wK,aaz,uN h];rfl
def rT:∀(l:L Acc)(i:Nat)(a:Acc),l[i]?=some a->jf l=jf (l.take i)++(BE a++jf (l.drop (i+1)))
 |[],i,a,h=>by simp at h
 |x::l,0,a,h=>by simp at h;subst h;simp[jf]
 |x::l,i+1,a,h=>by
  simp only[aeF]at h;simp only[jf,afi,afB,aeG,rT l i a h]
def lC:L Acc->Nat->Int->L Acc
 |[],_,_=>[]
 |a::l,0,z=>a.de z::l
 |a::l,i+1,z=>a::lC l i z
def gm.de(l:gm)(i:Nat)(z:Int):gm:=⟨lC l.br i z,l.ez⟩
def LQ:∀(l:L Acc)(i:Nat)(z:Int),(lC l i z).length=l.length
 |[],_,_=>rfl
 |a::l,0,z=>rfl
 |a::l,i+1,z=>by simp only[lC,aac,LQ l i z]
def Aw:∀(l:L Acc)(i j:Nat)(z:Int),(lC l i z)[j]?=if i=j then(l[j]?).map (λa=>a.de z)else l[j]?
 |[],i,j,z=>by simp[lC]
 |a::l,0,0,z=>by simp[lC]
 |a::l,0,j+1,z=>by simp[lC]
 |a::l,i+1,0,z=>by simp[lC]
 |a::l,i+1,j+1,z=>by simp only[lC,aeF,Aw l i j z,ahw]
def Fb:∀(l:L Acc)(i:Nat)(a:Acc)(z:Int),l[i]?=some a->jf (lC l i z)=jf (l.take i)++(BE (a.de z)++jf (l.drop (i+1)))
 |[],i,a,z,h=>by simp at h
 |x::l,0,a,z,h=>by simp at h;subst h;simp[lC,jf]
 |x::l,i+1,a,z,h=>by
  simp only[aeF]at h;simp only[lC,jf,afi,afB,aeG,Fb l i a z h]
def Il:Acc->L CV
 |⟨_,_,Y,.mk V M,.mk C S,code,.mk k n m s J B W⟩ =>
  [.int .i64 Y,.int .i64 V,.sl 2 (aA M),.int .i64 C,.sl 2 (aA S),.sl 5 (aH code),.int .i64 k,.int .i64 n,.int .i64 m,.str s,.sl 7 (aa J),.sl 2 (aA B),.sl 5 (aH W)]
def AN(a:Acc):BE a = .int .i64 a.is :: .int .i64 a.dr::Il a:=by
 obtain⟨D,dr,Y,⟨V,M⟩,⟨C,S⟩,code,⟨k,n,m,s,J,B,W⟩⟩:=a;rfl
def Ts(a:Acc)(z:Int):Il (a.de z)=Il a:=by
 obtain⟨D,dr,Y,⟨V,M⟩,⟨C,S⟩,code,⟨k,n,m,s,J,B,W⟩⟩:=a;rfl
section
variable {l : gm}{i : Nat}{a : Acc}
def js(l:gm):jA (.c (.agg (eG l)))=some (cU l):=BU _
def EA(h12:l.br.length=12):takeN 181 (cU l)=some (cU l):=by rw[<- jR h12];exact Im _
def V3(h12:l.br.length=12):takeN 180 (cU l)=some (iO l):=by rw[wK,<- uN h12];exact BV _ _
def tJ(h12:l.br.length=12):eu 180 (cU l)=some [.c (.int .i64 l.ez)]:=by rw[wK,<- uN h12];exact jj _ _
def xW(l:gm):close (.agg (cU l))=some (.agg (eG l)):=by simp only[close,cU,xX]
def JY(h12:l.br.length=12)(ha:l.br[i]?=some a):∃p q:L AV,p.length=i*15/\(∀z,cU (l.de i z)=p++((BE (a.de z)).map AV.c++q))/\cU l=p++((BE a).map AV.c++q)/\∃Y,iO l=p++((BE a).map AV.c++Y):=by
 have K:i<l.br.length:=(List.getElem?_eq_some_iff.1 ha).1;refine⟨(jf (l.br.take i)).map AV.c,(jf (l.br.drop (i+1))++[CV.int .i64 l.ez]).map AV.c,?_,λz=>?_,?_,(jf (l.br.drop (i+1))).map AV.c,?_⟩
 ·rw[aeA,xQ,aeD];omega
 ·show(jf (lC l.br i z)++[CV.int .i64 l.ez]).map AV.c=_;rw[Fb _ _ _ _ ha];simp only[aeC,aeG]
 ·show(jf l.br++[CV.int .i64 l.ez]).map AV.c=_;rw[rT _ _ _ ha];simp only[aeC,aeG]
 ·show(jf l.br).map AV.c=_;rw[rT _ _ _ ha];simp only[aeC,aeG]
def JZ(h12:l.br.length=12)(ha:l.br[i]?=some a):∃r,eu (0+i*15+0) (cU l)=some (.c (.int .i64 a.is)::r):=by
 obtain⟨p,q,h1,_,h2,_⟩:=JY h12 ha;rw[h2,AN];exact⟨(CV.int .i64 a.dr::Il a).map AV.c++q,by rw[aeq,aeT,<- h1];exact jj p _⟩
def J0(h12:l.br.length=12)(ha:l.br[i]?=some a):∃r,eu (0+i*15+1) (cU l)=some (.c (.int .i64 a.dr)::r):=by
 obtain⟨p,q,h1,_,h2,_⟩:=JY h12 ha;rw[h2,AN];exact⟨(Il a).map AV.c++q,by rw[aeq,<- h1];exact lY _ _ _ _ _ (jj p _) (by simp only[aed,adU,eu])⟩
def RF(h12:l.br.length=12)(ha:l.br[i]?=some a)(z:Int):bV (0+i*15+1) [.c (.int .i64 z)] (cU l)=some (cU (l.de i z)):=by
 obtain⟨p,q,h1,V,h2,_⟩:=JY h12 ha;rw[h2,V z,AN,AN,Ts];have:=Fc (.c (.int .i64 z)) (p++[.c (.int .i64 a.is)]) (.c (.int .i64 a.dr)) ((Il a).map AV.c++q);rw[aaz,h1,List.length_singleton]at this;rw[aeq];have I:(a.de z).is=a.is:=rfl;have W:(a.de z).dr=z:=rfl;rw[I,W];simpa using this
def RG(h12:l.br.length=12)(ha:l.br[i]?=some a):∃r,eu (i*15) (iO l)=some r/\takeN 15 r=some (wh a):=by
 obtain⟨p,q,h1,_,_,Y,h2⟩:=JY h12 ha;refine⟨(BE a).map AV.c++Y,?_,?_⟩
 ·rw[h2,<- h1];exact jj p _
 ·have:=BV ((BE a).map AV.c) Y;rw[aeA,ML]at this;exact this
end
end Go.cK
namespace Go.cK
def uD:Acc:=⟨0,0,0,kX,kX,[],ou⟩
def iG(l:gm)(i:Int):Acc:=l.br.getD i.toNat uD
def jH(l:gm)(F T n:Int):Int :=
 if F<0\/12<=F\/T<0\/12<=T\/(iG l F).is=0\/(iG l T).is=0 then 6
 else if n<0\/1152921504606846976<n then 2 else if(iG l F).dr<n then 8 else 0
def GY(l:gm)(F T n:Int):gm :=
 (l.de F.toNat ((iG l F).dr-n)).de T.toNat ((iG (l.de F.toNat ((iG l F).dr-n)) T).dr+n)
def iR{l:gm}{i:Nat}{a:Acc}(h:l.br[i]?=some a):iG l (i:Int)=a:=by
 unfold iG;rw[aaC,List.getD,h];rfl
def eK{l:gm}{i:TI}(h12:l.br.length=12)(h1:i.isAgg=true)(h2:i.size=181):lH i (cU l)=some (.agg (cU l)):=by
 unfold lH;rw[h1,h2];simp only[EA h12]
def jr{l:gm}(h12:l.br.length=12){n:Nat}(h:n=181):Nat.beq (cU l).length n=true:=by rw[jR h12,h];rfl
def hD{l:gm}(h12:l.br.length=12){cells:L AV}(h:cells.length=181):bV 0 (cU l) cells=some (cU l):=wP _ _ (by rw[jR h12,h])
def jB(l:gm)(e:Int):close (.eY [.agg (cU l),.c (.int .i64 e)])=some (.eY [.agg (eG l),.int .i64 e]):=by
 simp only[close,pO,xW l];rw[show pO (cU l)=some (eG l)from xX _]
end Go.cK
namespace Go.Proofs
open Go.cK
attribute [local irreducible] AK af bg cn dP cU eG iO gm.de
set_option maxRecDepth 100000 in
def Ym(l:gm)(h12:l.br.length=12)(i j:Nat)(aF aT CC:Acc)(xR:l.br[i]?=some aF)(EC:l.br[j]?=some aT)(n:Int)
  (Jy:(l.de i (i64.wrap (aF.dr-n))).br[j]?=some CC)(adb:(l.de i (i64.wrap (aF.dr-n))).br.length=12)
  (ahj:((l.de i (i64.wrap (aF.dr-n))).de j (i64.wrap (CC.dr+n))).br.length=12)
  (XU:aF.is≠0)(ZX:aT.is≠0)(h0:0<=n)(hM:n<=1152921504606846976)(hb:n<=aF.dr) :
  ah 101 [.agg (eG l),.int .i64 i,.int .i64 j,.int .i64 n]
   (.eY [.agg (eG ((l.de i (i64.wrap (aF.dr-n))).de j (i64.wrap (CC.dr+n)))),.int .i64 0]):=by
 have li:Nat.blt i 12=true:=by rw[afj];have:=(List.getElem?_eq_some_iff.1 xR).1;omega
 have lj:Nat.blt j 12=true:=by rw[afj];have:=(List.getElem?_eq_some_iff.1 EC).1;omega
 have li':i<12:=by simpa[afj]using li
 have lj':j<12:=by simpa[afj]using lj
 obtain⟨r1,d1⟩:=JZ h12 xR;obtain⟨r2,d2⟩:=JZ h12 EC;obtain⟨r3,d3⟩:=J0 h12 xR;obtain⟨r4,d4⟩:=J0 adb Jy;have w1:=RF h12 xR (i64.wrap (aF.dr-n));have w2:=RF adb Jy (i64.wrap (CC.dr+n));have c1:decide ((i:Int)<0)=false:=aap bn;have c2:decide ((i:Int)>=12)=false:=aap bn;have c3:decide ((j:Int)<0)=false:=aap bn;have c4:decide ((j:Int)>=12)=false:=aap bn;have c5:(aF.is==0)=false:=by simpa using XU
 have c6:(aT.is==0)=false:=by simpa using ZX
 have c7:decide (n<0)=false:=aap bn;have c8:decide (n>1152921504606846976)=false:=aap bn;have c9:decide (aF.dr<n)=false:=aap bn;have n1:(bif decide ((i:Int)<0)then true else decide ((i:Int)>=12))=false:=by rw[c1,c2];rfl
 have n2:(bif bif false then true else decide ((j:Int)<0)then true else decide ((j:Int)>=12))=false:=by rw[c3,c4];rfl
 have n3:(bif decide (n<0)then true else decide (n>1152921504606846976))=false:=by rw[c7,c8];rfl
 refine qn func101 call101 λβ hf=>?_
 repeat' (first|refine kz ?_|refine zc ?_ ?_|(intro h;first|(cases h;done)|rw[h]|skip)|refine AK.seq ?_|refine af.box kn Z Z Z Z (js _) Z ?_|refine af.qG hX kn Z Z Z Z Z Z Z Z Z ek ?_|refine af.dD hX kn Z Z Z Z Z Z Z (eK ek Z Z) ?_|refine af.dD hX kn Z Z Z Z Z Z ek RA ?_|refine af.store hX kn Z Z Z Z Z Z Z Z (jr ek Z) (hD ek Z) Z ?_|refine af.store hX kn Z Z Z Z Z Z Z Z Z ek RA ?_|refine AK.EV hX hf (gX Z Z Z Z (eK ek Z Z) Z) (jB _ _) (Wk.refl _))
set_option maxRecDepth 100000 in
def Yn(l:gm)(h12:l.br.length=12)(F T n:Int)
  (hno:∀(i j:Nat)(aF aT:Acc),F=i->T=j->l.br[i]?=some aF->l.br[j]?=some aT->aF.is≠0->aT.is≠0->0<=n->n<=1152921504606846976->n<=aF.dr->False) :
  ∃e:Int,(e≠0/\e=jH l F T n)/\ah 101 [.agg (eG l),.int .i64 F,.int .i64 T,.int .i64 n] (.eY [.agg (eG l),.int .i64 e]):=by
 by_cases f1:F<0
 ·have n1:(bif decide (F<0)then true else decide (F>=12))=true:=by rw[aak f1];rfl
  have c1:=aak f1;refine⟨6,⟨bT,P7⟩,?_⟩;refine qn func101 call101 λβ hf=>?_
  repeat' (first|refine kz ?_|refine zc ?_ ?_|(intro h;first|(cases h;done)|rw[h]|skip)|refine AK.seq ?_|refine af.box kn Z Z Z Z (js _) Z ?_|refine af.qG hX kn Z Z Z Z Z Z Z Z Z ek ?_|refine af.dD hX kn Z Z Z Z Z Z Z (eK ek Z Z) ?_|refine af.dD hX kn Z Z Z Z Z Z ek RA ?_|refine af.store hX kn Z Z Z Z Z Z Z Z (jr ek Z) (hD ek Z) Z ?_|refine af.store hX kn Z Z Z Z Z Z Z Z Z ek RA ?_|refine AK.EV hX hf (gX Z Z Z Z (eK ek Z Z) Z) (jB _ _) (Wk.refl _))
 have c1:=aap f1;by_cases f2:F>=12
 ·have n1:(bif decide (F<0)then true else decide (F>=12))=true:=by rw[aap f1,aak f2];rfl
  have c2:=aak f2;refine⟨6,⟨bT,P7⟩,?_⟩;refine qn func101 call101 λβ hf=>?_
  repeat' (first|refine kz ?_|refine zc ?_ ?_|(intro h;first|(cases h;done)|rw[h]|skip)|refine AK.seq ?_|refine af.box kn Z Z Z Z (js _) Z ?_|refine af.qG hX kn Z Z Z Z Z Z Z Z Z ek ?_|refine af.dD hX kn Z Z Z Z Z Z Z (eK ek Z Z) ?_|refine af.dD hX kn Z Z Z Z Z Z ek RA ?_|refine af.store hX kn Z Z Z Z Z Z Z Z (jr ek Z) (hD ek Z) Z ?_|refine af.store hX kn Z Z Z Z Z Z Z Z Z ek RA ?_|refine AK.EV hX hf (gX Z Z Z Z (eK ek Z Z) Z) (jB _ _) (Wk.refl _))
 have c2:=aap f2;have n1:(bif decide (F<0)then true else decide (F>=12))=false:=by rw[aap f1,aap f2];rfl
 by_cases t1:T<0
 ·have n2:(bif bif false then true else decide (T<0)then true else decide (T>=12))=true:=by rw[aak t1];rfl
  have c3:=aak t1;refine⟨6,⟨bT,P7⟩,?_⟩;refine qn func101 call101 λβ hf=>?_
  repeat' (first|refine kz ?_|refine zc ?_ ?_|(intro h;first|(cases h;done)|rw[h]|skip)|refine AK.seq ?_|refine af.box kn Z Z Z Z (js _) Z ?_|refine af.qG hX kn Z Z Z Z Z Z Z Z Z ek ?_|refine af.dD hX kn Z Z Z Z Z Z Z (eK ek Z Z) ?_|refine af.dD hX kn Z Z Z Z Z Z ek RA ?_|refine af.store hX kn Z Z Z Z Z Z Z Z (jr ek Z) (hD ek Z) Z ?_|refine af.store hX kn Z Z Z Z Z Z Z Z Z ek RA ?_|refine AK.EV hX hf (gX Z Z Z Z (eK ek Z Z) Z) (jB _ _) (Wk.refl _))
 have c3:=aap t1;by_cases t2:T>=12
 ·have n2:(bif bif false then true else decide (T<0)then true else decide (T>=12))=true:=by rw[aap t1,aak t2];rfl
  have c4:=aak t2;refine⟨6,⟨bT,P7⟩,?_⟩;refine qn func101 call101 λβ hf=>?_
  repeat' (first|refine kz ?_|refine zc ?_ ?_|(intro h;first|(cases h;done)|rw[h]|skip)|refine AK.seq ?_|refine af.box kn Z Z Z Z (js _) Z ?_|refine af.qG hX kn Z Z Z Z Z Z Z Z Z ek ?_|refine af.dD hX kn Z Z Z Z Z Z Z (eK ek Z Z) ?_|refine af.dD hX kn Z Z Z Z Z Z ek RA ?_|refine af.store hX kn Z Z Z Z Z Z Z Z (jr ek Z) (hD ek Z) Z ?_|refine af.store hX kn Z Z Z Z Z Z Z Z Z ek RA ?_|refine AK.EV hX hf (gX Z Z Z Z (eK ek Z Z) Z) (jB _ _) (Wk.refl _))
 have c4:=aap t2;have n2:(bif bif false then true else decide (T<0)then true else decide (T>=12))=false:=by rw[aap t1,aap t2];rfl
 obtain⟨i,rfl⟩:=afz (show 0<=F by omega);obtain⟨j,rfl⟩:=afz (show 0<=T by omega);obtain⟨aF,xR⟩:∃a,l.br[i]?=some a:=⟨l.br[i]' bn,cS⟩
 obtain⟨aT,EC⟩:∃a,l.br[j]?=some a:=⟨l.br[j]' bn,cS⟩
 have li:Nat.blt i 12=true:=by rw[afj];omega
 have lj:Nat.blt j 12=true:=by rw[afj];omega
 obtain⟨r1,d1⟩:=JZ h12 xR;obtain⟨r2,d2⟩:=JZ h12 EC;obtain⟨r3,d3⟩:=J0 h12 xR;by_cases i1:aF.is=0
 ·have c5:(aF.is==0)=true:=by simpa using i1
  refine⟨6,⟨bT,by unfold jH;rw[iR xR,if_pos bn]⟩,?_⟩;refine qn func101 call101 λβ hf=>?_
  repeat' (first|refine kz ?_|refine zc ?_ ?_|(intro h;first|(cases h;done)|rw[h]|skip)|refine AK.seq ?_|refine af.box kn Z Z Z Z (js _) Z ?_|refine af.qG hX kn Z Z Z Z Z Z Z Z Z ek ?_|refine af.dD hX kn Z Z Z Z Z Z Z (eK ek Z Z) ?_|refine af.dD hX kn Z Z Z Z Z Z ek RA ?_|refine af.store hX kn Z Z Z Z Z Z Z Z (jr ek Z) (hD ek Z) Z ?_|refine af.store hX kn Z Z Z Z Z Z Z Z Z ek RA ?_|refine AK.EV hX hf (gX Z Z Z Z (eK ek Z Z) Z) (jB _ _) (Wk.refl _))
 have c5:(aF.is==0)=false:=by simpa using i1
 by_cases i2:aT.is=0
 ·have c6:(aT.is==0)=true:=by simpa using i2
  refine⟨6,⟨bT,by unfold jH;rw[iR xR,iR EC,if_pos bn]⟩,?_⟩;refine qn func101 call101 λβ hf=>?_
  repeat' (first|refine kz ?_|refine zc ?_ ?_|(intro h;first|(cases h;done)|rw[h]|skip)|refine AK.seq ?_|refine af.box kn Z Z Z Z (js _) Z ?_|refine af.qG hX kn Z Z Z Z Z Z Z Z Z ek ?_|refine af.dD hX kn Z Z Z Z Z Z Z (eK ek Z Z) ?_|refine af.dD hX kn Z Z Z Z Z Z ek RA ?_|refine af.store hX kn Z Z Z Z Z Z Z Z (jr ek Z) (hD ek Z) Z ?_|refine af.store hX kn Z Z Z Z Z Z Z Z Z ek RA ?_|refine AK.EV hX hf (gX Z Z Z Z (eK ek Z Z) Z) (jB _ _) (Wk.refl _))
 have c6:(aT.is==0)=false:=by simpa using i2
 by_cases m1:n<0
 ·have n3:(bif decide (n<0)then true else decide (n>1152921504606846976))=true:=by rw[aak m1];rfl
  have c7:=aak m1;refine⟨2,⟨bT,Ti⟩,?_⟩;refine qn func101 call101 λβ hf=>?_
  repeat' (first|refine kz ?_|refine zc ?_ ?_|(intro h;first|(cases h;done)|rw[h]|skip)|refine AK.seq ?_|refine af.box kn Z Z Z Z (js _) Z ?_|refine af.qG hX kn Z Z Z Z Z Z Z Z Z ek ?_|refine af.dD hX kn Z Z Z Z Z Z Z (eK ek Z Z) ?_|refine af.dD hX kn Z Z Z Z Z Z ek RA ?_|refine af.store hX kn Z Z Z Z Z Z Z Z (jr ek Z) (hD ek Z) Z ?_|refine af.store hX kn Z Z Z Z Z Z Z Z Z ek RA ?_|refine AK.EV hX hf (gX Z Z Z Z (eK ek Z Z) Z) (jB _ _) (Wk.refl _))
 have c7:=aap m1;by_cases m2:n>1152921504606846976
 ·have n3:(bif decide (n<0)then true else decide (n>1152921504606846976))=true:=by rw[aap m1,aak m2];rfl
  have c8:=aak m2;refine⟨2,⟨bT,Ti⟩,?_⟩;refine qn func101 call101 λβ hf=>?_
  repeat' (first|refine kz ?_|refine zc ?_ ?_|(intro h;first|(cases h;done)|rw[h]|skip)|refine AK.seq ?_|refine af.box kn Z Z Z Z (js _) Z ?_|refine af.qG hX kn Z Z Z Z Z Z Z Z Z ek ?_|refine af.dD hX kn Z Z Z Z Z Z Z (eK ek Z Z) ?_|refine af.dD hX kn Z Z Z Z Z Z ek RA ?_|refine af.store hX kn Z Z Z Z Z Z Z Z (jr ek Z) (hD ek Z) Z ?_|refine af.store hX kn Z Z Z Z Z Z Z Z Z ek RA ?_|refine AK.EV hX hf (gX Z Z Z Z (eK ek Z Z) Z) (jB _ _) (Wk.refl _))
 have c8:=aap m2;have n3:(bif decide (n<0)then true else decide (n>1152921504606846976))=false:=by rw[aap m1,aap m2];rfl
 by_cases b1:aF.dr<n
 ·have c9:=aak b1;refine⟨8,⟨bT,by unfold jH;rw[iR xR,iR EC,if_neg bn,if_neg bn,if_pos bn]⟩,?_⟩;refine qn func101 call101 λβ hf=>?_
  repeat' (first|refine kz ?_|refine zc ?_ ?_|(intro h;first|(cases h;done)|rw[h]|skip)|refine AK.seq ?_|refine af.box kn Z Z Z Z (js _) Z ?_|refine af.qG hX kn Z Z Z Z Z Z Z Z Z ek ?_|refine af.dD hX kn Z Z Z Z Z Z Z (eK ek Z Z) ?_|refine af.dD hX kn Z Z Z Z Z Z ek RA ?_|refine af.store hX kn Z Z Z Z Z Z Z Z (jr ek Z) (hD ek Z) Z ?_|refine af.store hX kn Z Z Z Z Z Z Z Z Z ek RA ?_|refine AK.EV hX hf (gX Z Z Z Z (eK ek Z Z) Z) (jB _ _) (Wk.refl _))
 exact absurd (hno i j aF aT Z Z xR EC i1 i2 bn bn bn) id
end Go.Proofs
namespace Go.cK
def AE(a:Acc):Bool :=
 if bS a.param≠0 then false else if(au a.param).length≠0 then false else if bS a.store≠0 then false else if(au a.store).length≠0 then false
 else if a.code.length≠0 then false else vA a.keep ou
def j6:L Acc->Int
 |[]=>0
 |a::l=>a.dr+j6 l
def G3(l:gm):Int:=l.ez+j6 l.br
def gn{i:TI}{r:L AV}{a:Acc}(h1:i.isAgg=true)(h2:i.size=15)(h:takeN 15 r=some (wh a)):lH i r=some (.agg (wh a)):=by
 unfold lH;rw[h1,h2];simp only[h]
def Fe{l:gm}{i:TI}(h12:l.br.length=12)(h1:i.isAgg=true)(h2:i.size=180):lH i (cU l)=some (.agg (iO l)):=by
 unfold lH;rw[h1,h2];simp only[V3 h12]
def Ax(us:L Nat):∀l:L CV,o9 us (l.map AV.c)=true
 |[]=>by simp only[List.map_nil,o9]
 |c::l=>by simp only[aed,o9,HQ,Ax us l]
def qp(us:L Nat)(l:gm):o9 us (iO l)=true:=Ax us _
def mJ(us:L Nat)(l:gm):o9 us (cU l)=true:=Ax us _
def V4:j6 []=0:=rfl
def Tt(a:Acc)(l:L Acc):j6 (a::l)=a.dr+j6 l:=rfl
def Ff:∀(l:L Acc),(∀a∈l,0<=a.dr/\a.dr<=4000000)->0<=j6 l/\j6 l<=4000000*l.length
 |[],_=>by simp[j6]
 |a::l,h=>by
  have h1:=h a cS;have h2:=Ff l (λx O=>h x abB);simp only[j6,aac];omega
end Go.cK
namespace Go.Proofs
open Go.cK
attribute [local irreducible] AK af bg cn dP cU eG iO gm.de vA j6
def Pw(a:Acc)(V:aM a.keep<=1099511627776)(I:xV a<=8589934593):ah 59 [.agg (BE a)] (.bool (AE a)):=by
 have h1:=CU a.keep ou V;unfold AE;obtain⟨D,dr,G,⟨Y,M⟩,⟨C,S⟩,code,⟨k,n,m,s,J,B,U⟩⟩:=a;simp only[xV,bw]at I;simp only[bS,au]at *;have O:=aZ M;have N:=aZ S;have K:=bt code;by_cases u:Y≠0
 ·rw[if_pos u];have P:(Y==0)=false:=by simpa using u
  clear h1;refine qn func59 call59 λβ hf=>?_
  repeat' (first|refine kz ?_|refine zc ?_ ?_|(intro h;first|(cases h;done)|rw[h]|skip))
  all_goals exact Wk.refl _
 rw[if_neg u];have P:(Y==0)=true:=by simpa using u
 by_cases H:M.length≠0
 ·rw[if_pos H];have q:((((aA M).length:Nat):Int)==0)=false:=by rw[afs];omega
  clear h1;refine qn func59 call59 λβ hf=>?_
  repeat' (first|refine kz ?_|refine zc ?_ ?_|(intro h;first|(cases h;done)|rw[h]|skip))
  all_goals exact Wk.refl _
 rw[if_neg H];have q:((((aA M).length:Nat):Int)==0)=true:=by rw[agA];omega
 by_cases p:C≠0
 ·rw[if_pos p];have T:(C==0)=false:=by simpa using p
  clear h1;refine qn func59 call59 λβ hf=>?_
  repeat' (first|refine kz ?_|refine zc ?_ ?_|(intro h;first|(cases h;done)|rw[h]|skip))
  all_goals exact Wk.refl _
 rw[if_neg p];have T:(C==0)=true:=by simpa using p
 by_cases c4:S.length≠0
 ·rw[if_pos c4];have E:((((aA S).length:Nat):Int)==0)=false:=by rw[afs];omega
  clear h1;refine qn func59 call59 λβ hf=>?_
  repeat' (first|refine kz ?_|refine zc ?_ ?_|(intro h;first|(cases h;done)|rw[h]|skip))
  all_goals exact Wk.refl _
 rw[if_neg c4];have E:((((aA S).length:Nat):Int)==0)=true:=by rw[agA];omega
 by_cases W:code.length≠0
 ·rw[if_pos W];have Q:((((aH code).length:Nat):Int)==0)=false:=by rw[afs];omega
  clear h1;refine qn func59 call59 λβ hf=>?_
  repeat' (first|refine kz ?_|refine zc ?_ ?_|(intro h;first|(cases h;done)|rw[h]|skip))
  all_goals exact Wk.refl _
 rw[if_neg W];have Q:((((aH code).length:Nat):Int)==0)=true:=by rw[agA];omega
 refine qn func59 call59 λβ hf=>?_
 repeat' (first|refine kz ?_|refine zc ?_ ?_|(intro h;first|(cases h;done)|rw[h]|skip)|refine uC Z h1 ?_)
 all_goals exact Wk.refl _
set_option maxRecDepth 100000 in
def Ic(l:gm)(h12:l.br.length=12)(X1:0<=l.ez/\l.ez<=4000000)(hb:∀a∈l.br,0<=a.dr/\a.dr<=4000000) :
  ah 8 [.agg (eG l)] (.int .i64 (G3 l)):=by
 have dF:=tJ h12;have UR:=Ff l.br hb;unfold G3;refine qn func8 call8 λβ hf=>?_
 repeat' (first|refine kz ?_|refine zc ?_ ?_|(intro h;first|(cases h;done)|rw[h]|skip)|refine AK.seq ?_|refine af.box kn Z Z Z Z (js _) Z ?_|refine af.dD hX kn Z Z Z Z Z Z Z (Fe h12 Z Z) ?_|refine af.dD hX kn Z Z Z Z Z Z dF Z ?_)
 refine AK.eL (α:=Nat×Int) (λz=>z.1<=12/\l.ez+j6 l.br=z.2+j6 (l.br.drop z.1)/\0<=z.2/\z.2<=4000000*(z.1+1)) (λz=>12-z.1)
  (λz=>[(10,.c (.int .i64 z.1)),(9,.agg (iO l)),(3,.c (.int .i64 z.2))]) (λ_=>[]) (λ_=>[]) [] (0,l.ez)
  ⟨bn,Z,X1.1,by simpa using X1.2⟩ ce trivial trivial (by simp only[UF,HQ,qp]) Z Z ?_
 rintro⟨j,m⟩ ⟨hj,hinv,hm0,Bt⟩ ih;simp only at hj hinv hm0 Bt;by_cases hj2:j<12
 ·obtain⟨a,ha⟩:∃a,l.br[j]?=some a:=⟨l.br[j]' bn,cS⟩
  obtain⟨r,d1,d2⟩:=RG h12 ha;have hba:=hb a (aaB ha);have lj:Nat.blt j 12=true:=by rw[afj];exact hj2
  have c1:decide ((j:Int)<12)=true:=aak bn;rw[dZ ha,Tt]at hinv;have yF:=ih (j+1,m+a.dr) ⟨hj2,by rw[hinv];show _=m+a.dr+j6 (l.br.drop (j+1));omega,by show 0<=m+a.dr;omega,by show m+a.dr<=_;push_cast;omega⟩ (by show 12-(j+1)<12-j;omega);clear ih hinv hb UR;obtain⟨is,dr,cnt,⟨pT,pA⟩,⟨sT,sA⟩,code,⟨k,n,q,s,args,types,lam⟩⟩:=a;simp only at hba yF
  repeat' (first|refine kz ?_|refine zc ?_ ?_|(intro h;first|(cases h;done)|rw[h]|skip)|refine af.gq hX kn Z Z Z Z Z Z Z Z Z lj d1 (gn Z Z d2) ?_)
  have hw:some (AV.c (CV.int .i64 (i64.wrap (m+dr))))=some (AV.c (CV.int .i64 (m+dr))):=by rw[iy bn bn]
  refine AK.again yF ⟨.inl (gB (i:=j) bn),.inl Z,.inl hw,trivial⟩ trivial trivial (by simp only[UF,HQ,qp]) Z Z
 ·have c1:decide ((j:Int)<12)=false:=aap bn;have hall:l.ez+j6 l.br=m:=by rw[hinv,afd bn,V4,Int.add_zero]
  rw[hall];clear ih
  repeat' (first|refine kz ?_|refine zc ?_ ?_|(intro h;first|(cases h;done)|rw[h]|skip))
  all_goals exact Wk.refl _
end Go.Proofs
namespace Go.cK
def G1(j:Nat)(a:Acc):Bool:=decide (a.dr<0\/a.dr>4000000)||decide (a.cnt<0\/a.cnt>1152921504606846976)||((a.is==1) != decide ((j:Int)<4))
def gIn(a:Acc):Bool :=
 if a.is=1 then AE a
 else if a.is=0 then(AE a&&decide (a.dr=0)&&decide (a.cnt=0))
 else if a.is=2 then(decide (a.cnt=0)&&decide (jb a.param a.store (.mk 3 0 0 [] a.code)=0)&&gH a.store a.keep&&decide (gQ a.keep<=200))
 else false
def tD(j:Nat)(a:Acc):Bool := !G1 j a&&gIn a
def fE:Nat->L Acc->Bool
 |_,[]=>true
 |j,a::l=>tD j a&&fE (j+1) l
def qC(l:gm):Bool:=decide (0<=l.ez/\l.ez<=4000000)&&fE 0 l.br&&decide (G3 l=4000000)
def V5{l:gm}{ρ:Operand->Option AV}{x:Operand}(h:ρ x=some (.agg (cU l))):gO ρ [x]=some [.agg (eG l)]:=by
 have h1:=xW l;simp only[gO,h,h1]
def Y0(j:Nat):fE j []=true:=rfl
def Y1(j:Nat)(a:Acc)(l:L Acc):fE j (a::l)=(tD j a&&fE (j+1) l):=rfl
def ql:∀(l:L Acc)(j:Nat),fE j l=true->∀a∈l,0<=a.dr/\a.dr<=4000000
 |a::l,j,h,x,O=>by
  simp only[fE,aai]at h;rcases List.mem_cons.1 O with rfl|O
  ·have h1:=h.1;simp only[tD,G1,aai,agn,aeQ,afQ]at h1;have:=h1.1.1.1;omega
  ·exact ql l (j+1) h.2 x O
end Go.cK
namespace Go.Proofs
open Go.cK
attribute [local irreducible] AK af bg cn dP cU eG iO gm.de vA j6 AE jb gH gQ G3
set_option maxRecDepth 100000 in
def S7(l:gm)(h12:l.br.length=12)(hs:∀a∈l.br,xV a<=8589934586):ah 43 [.agg (eG l)] (.bool (qC l)):=by
 have dF:=tJ h12;by_cases f1:l.ez<0
 ·have e1:(bif decide (l.ez<0)then true else decide (l.ez>4000000))=true:=by rw[aak f1];rfl
  have e2:=aak f1;have hres:qC l=false:=by unfold qC;rw[aap bn];rfl
  rw[hres];refine qn func43 call43 λβ hf=>?_
  repeat' (first|refine kz ?_|refine zc ?_ ?_|(intro h;first|(cases h;done)|rw[h]|skip)|refine AK.skip ?_|refine AK.seq ?_|refine AK.block ?_|refine af.box kn Z Z Z Z (js _) Z ?_|refine af.dD hX kn Z Z Z Z Z Z dF Z ?_)
  all_goals exact Wk.refl _
 have e2:=aap f1;by_cases f2:l.ez>4000000
 ·have e1:(bif decide (l.ez<0)then true else decide (l.ez>4000000))=true:=by rw[aap f1,aak f2];rfl
  have e4:(bif false then true else decide (l.ez>4000000))=true:=by rw[aak f2];rfl
  have hres:qC l=false:=by unfold qC;rw[aap bn];rfl
  rw[hres];refine qn func43 call43 λβ hf=>?_
  repeat' (first|refine kz ?_|refine zc ?_ ?_|(intro h;first|(cases h;done)|rw[h]|skip)|refine AK.skip ?_|refine AK.seq ?_|refine AK.block ?_|refine af.box kn Z Z Z Z (js _) Z ?_|refine af.dD hX kn Z Z Z Z Z Z dF Z ?_)
  all_goals exact Wk.refl _
 have e3:=aap f2;have e4:(bif false then true else decide (l.ez>4000000))=false:=by rw[e3];rfl
 have e1:(bif decide (l.ez<0)then true else decide (l.ez>4000000))=false:=by rw[aap f1,aap f2];rfl
 have hG:qC l=(fE 0 l.br&&decide (G3 l=4000000)):=by unfold qC;rw[aak bn,aeR]
 rw[hG];clear hG;refine qn func43 call43 λβ hf=>?_
 repeat' (first|refine kz ?_|refine zc ?_ ?_|(intro h;first|(cases h;done)|rw[h]|skip)|refine AK.skip ?_|refine AK.seq ?_|refine AK.block ?_|refine af.box kn Z Z Z Z (js _) Z ?_|refine af.dD hX kn Z Z Z Z Z Z dF Z ?_|refine af.dD hX kn Z Z Z Z Z Z Z (Fe h12 Z Z) ?_)
 refine AK.eL (α:=Nat) (λj=>j<=12/\fE 0 l.br=fE j (l.br.drop j)) (λj=>12-j)
  (λj=>[(15,.c (.int .i64 j)),(14,.agg (iO l)),(1,.ptr 1 0)]) (λ_=>[(1,cU l)]) (λ_=>[]) [1] 0
  ⟨bn,Z⟩ ce ⟨Z,trivial⟩ trivial abr acd Z ?_
 rintro j ⟨hj,hinv⟩ ih;by_cases hj2:j<12;rotate_left
 ·have c1:decide ((j:Int)<12)=false:=aap bn;have hall:fE 0 l.br=true:=by rw[hinv,afd bn,Y0]
  have UR:=Ic l h12 ⟨bn,bn⟩ (ql _ _ hall);rw[hall,aeR];clear ih
  repeat' (first|refine kz ?_|refine zc ?_ ?_|(intro h;first|(cases h;done)|rw[h]|skip)|refine AK.exit Z ?_|refine AK.skip ?_|refine AK.seq ?_|refine af.dD hX kn Z Z Z Z Z Z Z (eK ek Z Z) ?_|refine af.LR kn Z Z Z (V5 Z) UR ?_)
  all_goals exact Wk.of_eq (aeb CV.bool (Bool.beq_eq_decide_eq _ _))
 obtain⟨a,ha⟩:∃a,l.br[j]?=some a:=⟨l.br[j]' bn,cS⟩
 obtain⟨r,d1,d2⟩:=RG h12 ha;have hsz:=hs a (aaB ha);have lj:Nat.blt j 12=true:=by rw[afj];exact hj2
 have c1:decide ((j:Int)<12)=true:=aak bn;rw[dZ ha,Y1]at hinv;have yF:=ih (j+1);clear ih;obtain⟨is,dr,cnt,⟨pT,pA⟩,⟨sT,sA⟩,code,⟨k,n,m,s,args,types,lam⟩⟩:=a;simp only[xV,bw]at hsz;have Fg:=Pw ⟨is,dr,cnt,.mk pT pA,.mk sT sA,code,.mk k n m s args types lam⟩ (by show aM (.mk k n m s args types lam)<=_;omega) (by simp only[xV,bw];omega);have zn:=AA (.mk pT pA) (.mk sT sA) (.mk 3 0 0 [] code) acn (by simp only[bM,aad];omega);have hfit:=E2 (.mk sT sA) (.mk k n m s args types lam) acn bn;have abd:=uF (.mk k n m s args types lam) bn;unfold tD G1 gIn at hinv;dsimp only at hinv;generalize AE ⟨is,dr,cnt,.mk pT pA,.mk sT sA,code,.mk k n m s args types lam⟩=B at Fg hinv;generalize jb (.mk pT pA) (.mk sT sA) (.mk 3 0 0 [] code)=S at zn hinv;generalize gH (.mk sT sA) (.mk k n m s args types lam)=T at hfit hinv;generalize gQ (.mk k n m s args types lam)=V at abd hinv;by_cases q1:dr<0
 ·have u1:=aak q1;have k1:(bif decide (dr<0)then true else decide (dr>4000000))=true:=by rw[u1];rfl
  have hres:fE 0 l.br=false:=by rw[hinv];rw[aak (show dr<0\/dr>4000000 by omega)];rfl
  rw[hres,aez];clear yF hinv
  repeat' (first|refine kz ?_|refine zc ?_ ?_|(intro h;first|(cases h;done)|rw[h]|skip)|refine af.gq hX kn Z Z Z Z Z Z Z Z Z lj d1 (gn Z Z d2) ?_)
  all_goals exact Wk.refl _
 have u1:=aap q1;by_cases q2:dr>4000000
 ·have u2:=aak q2;have k1:(bif decide (dr<0)then true else decide (dr>4000000))=true:=by rw[u1,u2];rfl
  have k2:(bif false then true else decide (dr>4000000))=true:=by rw[u2];rfl
  have hres:fE 0 l.br=false:=by rw[hinv];rw[aak (show dr<0\/dr>4000000 by omega)];rfl
  rw[hres,aez];clear yF hinv
  repeat' (first|refine kz ?_|refine zc ?_ ?_|(intro h;first|(cases h;done)|rw[h]|skip)|refine af.gq hX kn Z Z Z Z Z Z Z Z Z lj d1 (gn Z Z d2) ?_)
  all_goals exact Wk.refl _
 have u2:=aap q2;have k1:(bif decide (dr<0)then true else decide (dr>4000000))=false:=by rw[u1,u2];rfl
 have k2:(bif false then true else decide (dr>4000000))=false:=by rw[u2];rfl
 rw[aap (show ¬(dr<0\/dr>4000000)by omega),ahl]at hinv;by_cases q3:cnt<0
 ·have u3:=aak q3;have k3:(bif false then true else decide (cnt<0))=true:=by rw[u3];rfl
  have hres:fE 0 l.br=false:=by rw[hinv];rw[aak (show cnt<0\/cnt>1152921504606846976 by omega)];rfl
  rw[hres,aez];clear yF hinv
  repeat' (first|refine kz ?_|refine zc ?_ ?_|(intro h;first|(cases h;done)|rw[h]|skip)|refine af.gq hX kn Z Z Z Z Z Z Z Z Z lj d1 (gn Z Z d2) ?_)
  all_goals exact Wk.refl _
 have u3:=aap q3;have k3:(bif false then true else decide (cnt<0))=false:=by rw[u3];rfl
 by_cases q4:cnt>1152921504606846976
 ·have u4:=aak q4;have k4:(bif false then true else decide (cnt>1152921504606846976))=true:=by rw[u4];rfl
  have hres:fE 0 l.br=false:=by rw[hinv];rw[aak (show cnt<0\/cnt>1152921504606846976 by omega)];rfl
  rw[hres,aez];clear yF hinv
  repeat' (first|refine kz ?_|refine zc ?_ ?_|(intro h;first|(cases h;done)|rw[h]|skip)|refine af.gq hX kn Z Z Z Z Z Z Z Z Z lj d1 (gn Z Z d2) ?_)
  all_goals exact Wk.refl _
 have u4:=aap q4;have k4:(bif false then true else decide (cnt>1152921504606846976))=false:=by rw[u4];rfl
 rw[aap (show ¬(cnt<0\/cnt>1152921504606846976)by omega),ahl]at hinv;cases u5:(!((is==1)==decide ((j:Int)<4)))with
 |true =>
  have k5:(bif false then true else(!((is==1)==decide ((j:Int)<4))))=true:=by rw[u5];rfl
  have hres:fE 0 l.br=false:=by rw[hinv];rw[show((is==1) != decide ((j:Int)<4))=true from u5];rfl
  rw[hres,aez];clear yF hinv
  repeat' (first|refine kz ?_|refine zc ?_ ?_|(intro h;first|(cases h;done)|rw[h]|skip)|refine af.gq hX kn Z Z Z Z Z Z Z Z Z lj d1 (gn Z Z d2) ?_)
  all_goals exact Wk.refl _
 |false =>
 have k5:(bif false then true else(!((is==1)==decide ((j:Int)<4))))=false:=by rw[u5];rfl
 rw[show((is==1) != decide ((j:Int)<4))=false from u5]at hinv;by_cases i1:is=1
 ·have v1:(is==1)=true:=by simpa using i1
  rw[if_pos i1]at hinv;cases B with
  |false =>
   have hres:fE 0 l.br=false:=by rw[hinv];rfl
   rw[hres,aez];clear yF hinv
   repeat' (first|refine kz ?_|refine zc ?_ ?_|(intro h;first|(cases h;done)|rw[h]|skip)|refine af.gq hX kn Z Z Z Z Z Z Z Z Z lj d1 (gn Z Z d2) ?_|refine uC Z Fg ?_)
   all_goals exact Wk.refl _
  |true =>
   have hres:fE 0 l.br=fE (j+1) (l.br.drop (j+1)):=by rw[hinv];rfl
   have ih2:=yF ⟨hj2,hres⟩ bn;clear yF hinv
   repeat' (first|refine kz ?_|refine zc ?_ ?_|(intro h;first|(cases h;done)|rw[h]|skip)|refine af.gq hX kn Z Z Z Z Z Z Z Z Z lj d1 (gn Z Z d2) ?_|refine uC Z Fg ?_)
   exact adA
 have v1:(is==1)=false:=by simpa using i1
 rw[if_neg i1]at hinv;by_cases i0:is=0
 ·have v0:(is==0)=true:=by simpa using i0
  rw[if_pos i0]at hinv;cases B with
  |false =>
   have hres:fE 0 l.br=false:=by rw[hinv];rfl
   rw[hres,aez];clear yF hinv
   repeat' (first|refine kz ?_|refine zc ?_ ?_|(intro h;first|(cases h;done)|rw[h]|skip)|refine af.gq hX kn Z Z Z Z Z Z Z Z Z lj d1 (gn Z Z d2) ?_|refine uC Z Fg ?_)
   all_goals exact Wk.refl _
  |true =>
   by_cases w1:dr≠0
   ·have x1:(dr != 0)=true:=by simpa using w1
    have y1:(bif false then true else(dr != 0))=true:=by rw[x1];rfl
    have hres:fE 0 l.br=false:=by rw[hinv];rw[aap w1];rfl
    rw[hres,aez];clear yF hinv
    repeat' (first|refine kz ?_|refine zc ?_ ?_|(intro h;first|(cases h;done)|rw[h]|skip)|refine af.gq hX kn Z Z Z Z Z Z Z Z Z lj d1 (gn Z Z d2) ?_|refine uC Z Fg ?_)
    all_goals exact Wk.refl _
   have x1:(dr != 0)=false:=by simpa using w1
   have y1:(bif false then true else(dr != 0))=false:=by rw[x1];rfl
   rw[aak (show dr=0 by omega)]at hinv;by_cases w2:cnt≠0
   ·have x2:(cnt != 0)=true:=by simpa using w2
    have y2:(bif false then true else(cnt != 0))=true:=by rw[x2];rfl
    have hres:fE 0 l.br=false:=by rw[hinv];rw[aap w2];rfl
    rw[hres,aez];clear yF hinv
    repeat' (first|refine kz ?_|refine zc ?_ ?_|(intro h;first|(cases h;done)|rw[h]|skip)|refine af.gq hX kn Z Z Z Z Z Z Z Z Z lj d1 (gn Z Z d2) ?_|refine uC Z Fg ?_)
    all_goals exact Wk.refl _
   have x2:(cnt != 0)=false:=by simpa using w2
   have y2:(bif false then true else(cnt != 0))=false:=by rw[x2];rfl
   rw[aak (show cnt=0 by omega)]at hinv;have hres:fE 0 l.br=fE (j+1) (l.br.drop (j+1)):=by rw[hinv];rfl
   have ih2:=yF ⟨hj2,hres⟩ bn;clear yF hinv
   repeat' (first|refine kz ?_|refine zc ?_ ?_|(intro h;first|(cases h;done)|rw[h]|skip)|refine af.gq hX kn Z Z Z Z Z Z Z Z Z lj d1 (gn Z Z d2) ?_|refine uC Z Fg ?_)
   exact adA
 have v0:(is==0)=false:=by simpa using i0
 rw[if_neg i0]at hinv;by_cases i2:is=2;rotate_left
 ·have v2:(is==2)=false:=by simpa using i2
  rw[if_neg i2]at hinv;have hres:fE 0 l.br=false:=by rw[hinv];rfl
  rw[hres,aez];clear yF hinv
  repeat' (first|refine kz ?_|refine zc ?_ ?_|(intro h;first|(cases h;done)|rw[h]|skip)|refine af.gq hX kn Z Z Z Z Z Z Z Z Z lj d1 (gn Z Z d2) ?_)
  all_goals exact Wk.refl _
 have v2:(is==2)=true:=by simpa using i2
 rw[if_pos i2]at hinv;by_cases w2:cnt≠0
 ·have x2:(cnt != 0)=true:=by simpa using w2
  have hres:fE 0 l.br=false:=by rw[hinv];rw[aap w2];rfl
  rw[hres,aez];clear yF hinv
  repeat' (first|refine kz ?_|refine zc ?_ ?_|(intro h;first|(cases h;done)|rw[h]|skip)|refine af.gq hX kn Z Z Z Z Z Z Z Z Z lj d1 (gn Z Z d2) ?_)
  all_goals exact Wk.refl _
 have x2:(cnt != 0)=false:=by simpa using w2
 rw[aak (show cnt=0 by omega)]at hinv;by_cases w3:S≠0
 ·have x3:(S != 0)=true:=by simpa using w3
  have y3:(bif false then true else(S != 0))=true:=by rw[x3];rfl
  have hres:fE 0 l.br=false:=by rw[hinv];rw[aap w3];rfl
  rw[hres,aez];clear yF hinv
  repeat' (first|refine kz ?_|refine zc ?_ ?_|(intro h;first|(cases h;done)|rw[h]|skip)|refine af.gq hX kn Z Z Z Z Z Z Z Z Z lj d1 (gn Z Z d2) ?_|refine uC Z zn ?_)
  all_goals exact Wk.refl _
 have x3:(S != 0)=false:=by simpa using w3
 have y3:(bif false then true else(S != 0))=false:=by rw[x3];rfl
 rw[aak (show S=0 by omega)]at hinv;cases T with
 |false =>
  have hres:fE 0 l.br=false:=by rw[hinv];rfl
  rw[hres,aez];clear yF hinv
  repeat' (first|refine kz ?_|refine zc ?_ ?_|(intro h;first|(cases h;done)|rw[h]|skip)|refine af.gq hX kn Z Z Z Z Z Z Z Z Z lj d1 (gn Z Z d2) ?_|refine uC Z zn ?_|refine uC Z hfit ?_)
  all_goals exact Wk.refl _
 |true =>
 by_cases w4:(V:Int)>200
 ·have x4:decide ((V:Int)>200)=true:=aak w4;have y4:(bif false then true else decide ((V:Int)>200))=true:=by rw[x4];rfl
  have hres:fE 0 l.br=false:=by rw[hinv];rw[aap (show ¬V<=200 by omega)];rfl
  rw[hres,aez];clear yF hinv
  repeat' (first|refine kz ?_|refine zc ?_ ?_|(intro h;first|(cases h;done)|rw[h]|skip)|refine af.gq hX kn Z Z Z Z Z Z Z Z Z lj d1 (gn Z Z d2) ?_|refine uC Z zn ?_|refine uC Z hfit ?_|refine uC Z abd ?_)
  all_goals exact Wk.refl _
 have x4:decide ((V:Int)>200)=false:=aap w4;have y4:(bif false then true else decide ((V:Int)>200))=false:=by rw[x4];rfl
 rw[aak (show V<=200 by omega)]at hinv;have hres:fE 0 l.br=fE (j+1) (l.br.drop (j+1)):=by rw[hinv];rfl
 have ih2:=yF ⟨hj2,hres⟩ bn;clear yF hinv
 repeat' (first|refine kz ?_|refine zc ?_ ?_|(intro h;first|(cases h;done)|rw[h]|skip)|refine af.gq hX kn Z Z Z Z Z Z Z Z Z lj d1 (gn Z Z d2) ?_|refine uC Z zn ?_|refine uC Z hfit ?_|refine uC Z abd ?_)
 exact adA
end Go.Proofs
namespace Go.cK
def JU(b:Int):Acc:=⟨1,b,0,kX,kX,[],ou⟩
def AJ:gm:=⟨[JU 1000000,JU 1000000,JU 1000000,JU 1000000,uD,uD,uD,uD,uD,uD,uD,uD],0⟩
def ain:gm:=⟨[JU 999995,JU 1000005,JU 1000000,JU 1000000,uD,uD,uD,uD,uD,uD,uD,uD],0⟩
def tu{l:gm}{ρ:Operand->Option AV}{x:Operand}{r:L Operand}{cs:L CV}(h:ρ x=some (.agg (cU l)))(C:gO ρ r=some cs):gO ρ (x::r)=some (.agg (eG l)::cs):=by
 have h1:=xW l;simp only[gO,h,h1,C]
end Go.cK
namespace Go.Proofs
open Go.cK
attribute [local irreducible] AK af bg cn dP qC
set_option maxRecDepth 100000 in
def Ib:ah 18 [] (.agg (eG AJ)):=by
 refine qn func18 call18 λβ hf=>?_
 repeat' (first|refine kz ?_|refine zc ?_ ?_|(intro h;first|(cases h;done)|rw[h]|skip)|refine AK.loop ?_|refine AK.inLoop ?_)
 all_goals exact Wk.of_eq Z
attribute [local irreducible] cU eG iO gm.de
end Go.Proofs
