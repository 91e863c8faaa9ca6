/- What a move does to a good ledger: -/
import Derived.Test.YtdnpapgijbhofaaGreatDoorLed4
import Derived.Test.YtdnpapgijbhofaaGreatDoorKind6
import Derived.Test.YtdnpapgijbhofaaGreatDoorVal2
import Derived.Test.YtdnpapgijbhofaaGreatDoorFits
import Derived.Test.YtdnpapgijbhofaaGreatDoorCtx
open Go.IntKind
open Go.Proofs.Tryz
set_option linter.defProp false
set_option maxHeartbeats 0
set_option linter.unusedVariables false
set_option linter.unusedSimpArgs false
set_option maxRecDepth 100000
namespace Go.cw
def oL:∀(l:L Acc)(i:Nat)(a:Acc)(z:Int),l[i]?=some a->kC (lD l i z)=kC l-a.bX+z
 |[],i,a,z,h=>by simp at h
 |x::l,0,a,z,h=>by simp at h;subst h;simp only[lD,kC,Acc.cq];omega
 |x::l,i+1,a,z,h=>by simp only[lD,kC,oL l i a z h];omega
def xV:∀(l:L Acc),(∀a∈l,0<=a.bX)->0<=kC l
 |[],_=>by simp[kC]
 |a::l,h=>by have h1:=h a cc;have h2:=xV l (λx D=>h x K0);simp only[kC];omega
def G9:∀(l:L Acc)(i:Nat)(a:Acc),(∀a∈l,0<=a.bX)->l[i]?=some a->a.bX<=kC l
 |[],i,a,_,h=>by simp at h
 |x::l,0,a,hb,h=>by simp at h;subst h;have h2:=xV l (λx D=>hb x K0);simp only[kC];omega
 |x::l,i+1,a,hb,h=>by have h1:=hb x cc;have h2:=G9 l i a (λx D=>hb x K0) h;simp only[kC];omega
def OF:∀(l:L Acc)(i j:Nat)(a b:Acc),(∀a∈l,0<=a.bX)->l[i]?=some a->l[j]?=some b->i≠j->a.bX+b.bX<=kC l
 |[],i,j,a,b,_,h,_,_=>by simp at h
 |x::l,0,0,a,b,hb,h,k,hn=>absurd Z hn
 |x::l,0,j+1,a,b,hb,h,k,hn=>by simp at h;subst h;have h2:=G9 l j b (λx D=>hb x K0) k;simp only[kC];omega
 |x::l,i+1,0,a,b,hb,h,k,hn=>by simp at k;subst k;have h2:=G9 l i a (λx D=>hb x K0) h;simp only[kC];omega
 |x::l,i+1,j+1,a,b,hb,h,k,hn=>by have h1:=hb x cc;have h2:=OF l i j a b (λx D=>hb x K0) h k ai;simp only[kC];omega
def Ys{j:Nat}{a:Acc}{z:Int}(h:tQ j a=true)(h1:a.is≠0)(h2:0<=z/\z<=4000000):tQ j (a.cq z)=true:=by unfold tQ FK gIn at h ⊢;have E:(a.cq z).is=a.is:=rfl;have N:(a.cq z).bX=z:=rfl;have H:(a.cq z).cnt=a.cnt:=rfl;have C:(a.cq z).param=a.param:=rfl;have q:(a.cq z).store=a.store:=rfl;have Y:(a.cq z).code=a.code:=rfl;have W:(a.cq z).keep=a.keep:=rfl;rw[E,N,H,C,q,Y,W];rw[aaN]at h ⊢;obtain⟨T,U⟩:=h;rw[if_neg h1]at U ⊢;refine⟨?_,U⟩;simp_all
def vk:∀(l:L Acc)(k i:Nat)(a:Acc)(z:Int),fH k l=true->l[i]?=some a->a.is≠0->0<=z/\z<=4000000->fH k (lD l i z)=true
 |[],k,i,a,z,_,h,_,_=>by simp at h
 |x::l,k,0,a,z,G,h,h1,h2=>by simp at h;subst h;simp only[fH,aaN]at G;simp only[lD,fH,aaN];exact⟨Ys G.1 h1 h2,G.2⟩
 |x::l,k,i+1,a,z,G,h,h1,h2=>by simp only[fH,aaN]at G;simp only[lD,fH,aaN];exact⟨G.1,vk l (k+1) i a z G.2 h h1 h2⟩
def ji{l:dX}:rP l=true↔(0<=l.eG/\l.eG<=4000000)/\fH 0 l.aS=true/\Ix l=4000000:=by unfold rP;grind
def UA{l:dX}{i j:Nat}{J aT:Acc}{n:Int}(G:rP l=true)(C:l.aS[i]?=some J)(T:l.aS[j]?=some aT)(P:J.is≠0)(S:aT.is≠0)(K:0<=n)(q:n<=J.bX) :
  (0<=J.bX/\J.bX<=4000000)/\∃W:Acc,(l.cq i (J.bX-n)).aS[j]?=some W/\W.bX=(if i=j then J.bX-n else aT.bX)/\W.is≠0/\0<=W.bX/\W.bX+n<=4000000 /\
   rP ((l.cq i (J.bX-n)).cq j (W.bX+n))=true/\Ix ((l.cq i (J.bX-n)).cq j (W.bX+n))=Ix l:=by
 obtain⟨g1,H,D⟩:=ji.1 G;have O:=uE _ _ H;have N:=O J (abz C);have I:=O aT (abz T);refine⟨N,?_⟩;have U:(l.cq i (J.bX-n)).aS[j]?=if i=j then some (aT.cq (J.bX-n))else some aT:=by show(lD l.aS i (J.bX-n))[j]?=_;rw[xR,T];rfl
 unfold Ix at D;by_cases Y:i=j
 ·subst Y;obtain rfl:J=aT:=by rw[C]at T;exact Option.some.inj T
  rw[if_pos rfl]at U;have Q:(lD l.aS i (J.bX-n))[i]?=some (J.cq (J.bX-n)):=U;have V:(J.cq (J.bX-n)).bX=J.bX-n:=rfl;refine⟨_,U,by rw[if_pos Z,V],P,by rw[V];omega,by rw[V];omega,?_,?_⟩;rw[ji];refine⟨g1,?_,?_⟩;exact vk _ _ _ _ _ (vk _ _ _ _ _ H C P ai) U P (by rw[V];omega);show l.eG+kC (lD (lD l.aS i (J.bX-n)) i _)=_;rw[oL _ _ _ _ Q,oL _ _ _ _ C,V];omega;show l.eG+kC (lD (lD l.aS i (J.bX-n)) i _)=l.eG+kC l.aS;rw[oL _ _ _ _ Q,oL _ _ _ _ C,V];omega
 rw[if_neg Y]at U;have Q:(lD l.aS i (J.bX-n))[j]?=some aT:=U;have h2:=OF l.aS i j J aT (λa M=>(O a M).1) C T Y;refine⟨_,U,by rw[if_neg Y],S,ai,ai,?_,?_⟩;rw[ji];refine⟨g1,?_,?_⟩;exact vk _ _ _ _ _ (vk _ _ _ _ _ H C P ai) U S ai;show l.eG+kC (lD (lD l.aS i (J.bX-n)) j _)=_;rw[oL _ _ _ _ Q,oL _ _ _ _ C];omega;show l.eG+kC (lD (lD l.aS i (J.bX-n)) j _)=l.eG+kC l.aS;rw[oL _ _ _ _ Q,oL _ _ _ _ C];omega
end Go.cw
namespace Go.Proofs
open Go.cw
def xA:Vl->Int | .mk _ _ a _ _ _ _=>a
def Iw:Vl->L Ty | .mk _ _ _ _ _ t _=>t
def Ec:Vl->L Nd | .mk _ _ _ _ _ _ c=>c
structure iR where
 code:List Nd
 pos:Nat
 fin:Int
 aside:List Vl
structure bZ where
 self:Int
 iY:Int
 iZ:Int
 balance:Int
 st:List Vl
 fr:List iR
 bU:Int
 used:Int
 au:Int
 said:Vl
def ki:Nat->L Vl->Option (L Vl×L Vl)
 |0,s=>some ([],s)
 |_+1,[]=>none
 |n+1,v::s=>match ki n s with
  |some (l,r)=>some (v::l,r)
  |none=>none
def oK:L Vl->L Vl->Int×L Vl
 |[],s=>(0,s)
 |v::l,s=>if gX v>200 then(13,s)else oK l (v::s)
def aK(k n:Int):Vl := .mk k n 0 [] [] [] []
def jm(b:Bool):Vl:=aK 2 (if b then 1 else 0)
def cD(l:L Vl):Vl := .mk 9 0 0 [] l [] []
def bh(a b:Vl):Vl := .mk 11 0 0 [] [a,b] [] []
def bY(p:Int):Nat :=
 if p∈[41,43,45,54,56,61,66,89,90,91,92]then 0
 else if p∈[42,46,57,62,67,69,70,71,72,73,78,79,80,84,86]then 2
 else if p∈[63,88]then 3 else 1
def ofM(p a b:Int):Int:=if a=5\/b=5 then 5 else if a=4/\b=4/\p≠70 then 4 else 3
def cC:L Vl->Vl->Nat
 |[],_=>0
 |x::l,k=>if dS (nH x) k<0 then cC l k+1 else 0
def fS(l:L Vl)(k:Vl):Bool:=match l[cC l k]? with
 |some x=>decide (dS (nH x) k=0)
 |none=>false
abbrev MR:=Int×bZ
def aY(S:bZ)(l:L Vl):MR:=((oK l S.st).1,{S with st:=(oK l S.st).2})
def ee(S:bZ)(code:L Nd)(fin:Int)(I:L Vl):bZ:={S with fr:=⟨code,0,fin,I⟩::S.fr}
def we(S:bZ)(code:L Nd)(fin:Int)(I:L Vl):bZ:={S with fr:=⟨code,code.length,fin,I⟩::S.fr}
def aN(M:L Nd)(i:Nat):Nat:=(MS (M.getD i vw)).toNat
def aC(M:L Nd)(i:Nat):L Nd:=cG (M.getD i vw)
def aT(M:L Nd)(i:Nat):Ty:=(aJ (M.getD i vw)).1
def lV(l:L Vl)(i:Nat):Vl:=l.getD i lC
def Yt(P:Int)(M:L Nd)(l:L Vl)(S:bZ):MR :=
 if P=42 then aY S [lV l 0,lV l 1]
 else if P=41 then aY S [lV S.st (aN M 0-1)]
 else if P=43 then(0,{S with st:=lV S.st (aN M 0)::(S.st.take (aN M 0)++S.st.drop (aN M 0+1))})
 else if P=44 then(0,{S with st:=S.st.take (aN M 0)++lV l 0::S.st.drop (aN M 0)})
 else(0,S)
def Rv(P:Int)(M:L Nd)(l:L Vl)(S:bZ):MR :=
 if P=45 then aY S [(gJ (aT M 0) (M.getD 1 vw)).1]
 else if P=46 then aY S [bh (lV l 0) (lV l 1)]
 else if P=50\/P=51 then aY S [.mk 12 (P-50) 0 [] l [] []]
 else if P=53 then aY S [cD [lV l 0]]
 else if P=54 then aY S [cD []]
 else if P=56 then aY S [.mk 10 0 0 [] [] [] []]
 else if P=47 then aY S [lV (ez (lV l 0)) 1,lV (ez (lV l 0)) 0]
 else if P=48 then aY S [lV (ez (lV l 0)) 0]
 else aY S [lV (ez (lV l 0)) 1]
def B7(P:Int)(M:L Nd)(l:L Vl)(S:bZ):MR :=
 if P=52 then aY (ee S (aC M (vN (lV l 0)).toNat) 0 []) [lV (ez (lV l 0)) 0]
 else if P=55 then aY (ee S (aC M (min (ez (lV l 0)).length 1)) 0 []) (ez (lV l 0))
 else if P=58 then(match ez (lV l 0)with
  |[]=>(0,ee S (aC M 1) 0 [])
  |x::xs=>aY (ee S (aC M 0) 0 []) [.mk 10 0 0 [] xs [] [],x])
 else if P=60 then(0,we S (aC M 0) 3 (ez (lV l 0)))
 else if P=64 then(0,ee S (aC M (1-(vN (lV l 0)).toNat)) 0 [])
 else if P=65 then(0,{we S (aC M 0) 4 []with st:=lV l 0::S.st})
 else if P=68 then(0,ee S (aC M 0) 1 [lV l 0])
 else if P=66 then aY S [.mk 14 0 0 [] [] [aT M 0,aT M 1] (aC M 2)]
 else(0,{ee S (Ec (lV l 1)) 2 S.st.reverse with st:=[lV l 0]})
def LA(P:Int)(M:L Nd)(l:L Vl)(S:bZ):MR :=
 if P=57 then(if 24<=(ez (lV l 1)).length then(13,S)else aY S [.mk 10 0 0 [] (lV l 0::ez (lV l 1)) [] []])
 else if P=59 then aY S [aK 4 ((vS (lV l 0)).length+(ez (lV l 0)).length:Nat)]
 else if P=61 then aY S [.mk 13 0 0 [] [] [] []]
 else if P=62 then(if fS (ez (lV l 1)) (lV l 0)=true then aY S [cD [lV (ez (lV (ez (lV l 1)) (cC (ez (lV l 1)) (lV l 0)))) 1]]else aY S [cD []])
 else
  let m:=ez (lV l 2);let i:=cC m (lV l 0);let x:=if fS m (lV l 0)=true then m.take i++m.drop (i+1)else m
  match ez (lV l 1)with
  |[]=>aY S [.mk 13 0 0 [] x [] []]
  |y::_=>if 24<=x.length then(13,S)else aY S [.mk 13 0 0 [] (x.take i++bh (lV l 0) y::x.drop i) [] []]
def Fh(P:Int)(l:L Vl)(S:bZ):MR :=
 if P=93 then aY S [aK 4 (pg (vN (lV l 0))).1]
 else if P=94 then(if vN (lV l 0)<0 then aY S [cD []]else aY S [cD [aK 4 (vN (lV l 0))]])
 else if P=95 then aY S [aK 3 (vN (lV l 0))]
 else
  let a:=lV l 0;let b:=lV l 1;let k:=ofM P (vK a) (vK b)
  if P=69 then(if(wg (vN a) (vN b)).2≠0 then((wg (vN a) (vN b)).2,S)else aY S [aK k (wg (vN a) (vN b)).1])
  else if P=71 then(if(ud (vN a) (vN b)).2≠0 then((ud (vN a) (vN b)).2,S)else aY S [aK k (ud (vN a) (vN b)).1])
  else if P=70 then(if(lH (vN a) (vN b)).2≠0 then((lH (vN a) (vN b)).2,S)
   else if k=5 then(if(lH (vN a) (vN b)).1<0 then aY S [cD []]else aY S [cD [aK 5 (lH (vN a) (vN b)).1]])
   else aY S [aK k (lH (vN a) (vN b)).1])
  else if(iH (vN a) (vN b)).2.2≠0 then aY S [cD []]
  else aY S [cD [bh (aK (if k=5/\vK b=5 then 4 else k) (iH (vN a) (vN b)).1) (aK (if k=5 then 5 else 4) (iH (vN a) (vN b)).2.1)]]
def Tj(P:Int)(M:L Nd)(l:L Vl)(S:bZ):MR :=
 let a:=lV l 0
 if P=73 then aY S [aK 3 (dS a (lV l 1))]
 else if P=74\/P=77 then aY S [jm (decide (vN a=0))]
 else if P=75 then aY S [jm (decide (vN a<0))]
 else if P=76 then aY S [jm (decide (vN a>0))]
 else if P=78 then aY S [jm (decide (vN a=1/\vN (lV l 1)=1))]
 else if P=79 then aY S [jm (decide (vN a=1\/vN (lV l 1)=1))]
 else if P=80 then(if 200<(vS a).length+(vS (lV l 1)).length then(13,S)else aY S [.mk 6 0 0 (vS a++vS (lV l 1)) [] [] []])
 else if P=81 then(if(wL a).2≠0 then(13,S)else aY S [.mk 6 0 0 (wL a).1 [] [] []])
 else if P=82 then(if(iK (aT M 0) (vS a)).2≠0 then aY S [cD []]else aY S [cD [(iK (aT M 0) (vS a)).1]])
 else(10,{S with said:=a})
def Du(P:Int)(M:L Nd)(l:L Vl)(S:bZ):MR :=
 let a:=lV l 0
 if P=89 then aY S [aK 7 S.self]
 else if P=90 then aY S [aK 7 S.iY]
 else if P=91 then aY S [aK 5 S.iZ]
 else if P=92 then aY S [aK 5 S.balance]
 else if P=84 then(if vN (lV l 1)=0 then aY S [cD []]else if S.au>bJ-vN (lV l 1)then(11,S)
  else aY {S with au:=S.au+vN (lV l 1)} [cD [.mk 15 (vN (lV l 1)) S.self [] [a] [] []]])
 else if P=88 then aY S [.mk 8 (vN (lV l 1)) (vN (lV l 2)) [] [a] [aT M 0] []]
 else if P=85 then aY S [a,bh (aK 7 (xA a)) (bh (lV (ez a) 0) (aK 4 (vN a)))]
 else if P=86 then
  let n:=vN (lV (ez (lV l 1)) 0);let m:=vN (lV (ez (lV l 1)) 1)
  if n<1\/m<1\/n+m≠vN a then aY S [cD []]
  else aY S [cD [bh (.mk (vK a) n (xA a) (vS a) (ez a) (Iw a) (Ec a)) (.mk (vK a) m (xA a) (vS a) (ez a) (Iw a) (Ec a))]]
 else
  let x:=lV (ez a) 0;let y:=lV (ez a) 1
  if xA x≠xA y\/dS (lV (ez x) 0) (lV (ez y) 0)≠0 then aY S [cD []]
  else if vN x>bJ-vN y then(11,S)
  else aY S [cD [.mk (vK x) (vN x+vN y) (xA x) (vS x) (ez x) (Iw x) (Ec x)]]
def A3(P:Int)(M:L Nd)(l:L Vl)(S:bZ):MR :=
 if P<=44 then Yt P M l S
 else if P<=56/\P≠52/\P≠55 then Rv P M l S
 else if P=52\/P=55\/P=58\/P=60\/64<=P/\P<=68 then B7 P M l S
 else if P<=63 then LA P M l S
 else if P<=72\/P>=93 then Fh P l S
 else if P<=83 then Tj P M l S
 else Du P M l S
mutual
def He:∀(t:Nd)(d:Int),eW t d=0->bD t<=many t*201
 |.mk Y n p s M,d,h=>by obtain⟨h1,h2⟩:=kf h;have K:=(nP h1).2.2.2.2.2.2.2.2;have W:=Ed M _ h2;simp only[bD,many];omega
def Ed:∀(l:L Nd)(d:Int),dx l d=0->aO l<=cP l*201
 |[],_,_=>by simp[aO]
 |x::l,d,h=>by simp only[dx]at h;by_cases J:eW x d=0;rw[if_pos J]at h;have h1:=He x d J;have h2:=Ed l d h;simp only[aO,cP];omega;omega
end
def A4{n:Nd}(h:dZ n=0):bD n<=60300:=by obtain⟨h1,h2⟩:=kH.1 h;have:=He n 1 h1;omega
def kN{t:Ty}(ok:nF t)(i:Nat):bf (aU t i)<=300:=by
 obtain⟨T,ts⟩:=t;have h2:=ok.2;simp only[bf]at h2;show bf (ts.getD i lJ)<=300;rw[agl];cases h:ts[i]? with
 |none=>simp[bf,lJ,bp]
 |some x=>have:=cI (abz h);simp;omega
def Yu{k n a:Int}{s:L UInt8}{M:L Vl}{V:L Ty}{code:L Nd}{t:Ty}(ok:nF t)(h:bE (.mk k n a s M V code) t=true)(W:eU (.mk k n a s M V code)=true):s.length+bp V+aO code+1<=62000:=by
 unfold bE at h;by_cases P:k≠dD t\/cA (.mk k n a s M V code)=false\/200<s.length;simp_all;rw[if_neg P]at h;have S:cA (.mk k n a s M V code)=true:=by grind
 have C:s.length<=200:=by omega
 by_cases U:k=14
 ·subst U;simp only[eU,if_true,aaN]at W;have O:=vH (aeR W.1.1);have N:=A4 O.1;simp only[bD]at N;have Y:V.length=2/\a=0/\n=0/\s=[]/\M.length=0:=by simpa[cA]using S
  have H:(cV (aU t 0) (V.getD 0 lJ)&&cV (aU t 1) (V.getD 1 lJ))=true:=by simpa using h
  simp only[aaN]at H;have I:=(gq _ _).1 H.1;have E:=(gq _ _).1 H.2;rcases V with _|⟨u,_|⟨w,_|⟨z,r⟩⟩⟩
  simp_all;simp_all;simp at I E;have K:=kN ok 0;have J:=kN ok 1;rw[I]at K;rw[E]at J;simp only[bp];omega;simp at Y
 by_cases T:k=8
 ·subst T;have Y:V.length=1/\code.length=0/\s=[]:=by simpa[cA]using S
  have H:br (V.getD 0 lJ)=true:=by simp at h;exact h.1.2
  rw[List.length_eq_zero_iff.1 Y.2.1];rcases V with _|⟨u,_|⟨w,r⟩⟩
  simp at Y;have:=(cF H).2;simp only[aaE]at this;simp only[bp,aO];omega;simp at Y
 have hq:V.length=0/\code.length=0:=by unfold cA at S;dsimp only at S;by_cases Q:k=15;rw[if_pos Q]at S;have:=aeR S;exact⟨this.1,this.2.1⟩;rw[if_neg Q,if_neg T,if_neg U]at S;by_cases B:k=6;rw[if_pos B]at S;have:=aeR S;exact⟨this.1,this.2.1⟩;rw[if_neg B]at S;have:=aeR S;exact⟨this.1,this.2.1⟩
 rw[List.length_eq_zero_iff.1 hq.1,List.length_eq_zero_iff.1 hq.2];simp only[bp,aO];omega
mutual
def Dv:∀(v:Vl)(t:Ty),nF t->bE v t=true->eU v=true->aH v<=gX v*62000
 |.mk k n a s M V code,.mk T ts,ok,h,Y=>by
  have W:=B8 M;have hR:=B9 M;have C:M.length=0->aI M<=iX M*62000:=λh=>by rw[List.length_eq_zero_iff.1 h];simp[aI]
  have H:=uK ok;have U:=Yu ok h Y;unfold bE at h;by_cases S:k≠dD (.mk T ts)\/cA (.mk k n a s M V code)=false\/200<s.length;rw[if_pos S]at h;cases h;rw[if_neg S]at h;have hp:cA (.mk k n a s M V code)=true:=by
   cases hq:cA (.mk k n a s M V code)with
   |true=>rfl
   |false=>exact absurd (.inr (.inl hq)) S
  have hk:k=T:=agq λO=>S (.inl O);subst hk;clear S;have d1:∀{p q:Prop}[Decidable (p/\q)],decide (p/\q)=true->q:=λh=>(aeR h).2
  suffices hs:aI M<=iX M*62000 by
   simp only[aH,gX]at U ⊢;omega
  by_cases P:k=14;subst P;have EI:V.length=2/\a=0/\n=0/\s=[]/\M.length=0:=(by simpa[cA]using hp);exact C EI.2.2.2.2;have Q:ej M=true:=by simpa[eU,P]using Y
  replace W:=λt ok h=>W t ok h Q;replace hR:=λr ok h I=>hR r ok h I Q;by_cases u:k=1\/k=6;rw[if_pos u]at h;exact C (aeR h).2;rw[if_neg u]at h;by_cases G:k=2;rw[if_pos G]at h;exact C (aeR h).2.2;rw[if_neg G]at h;by_cases E:k=3;rw[if_pos E]at h;exact C (aeR h).2.2;rw[if_neg E]at h;by_cases c4:k=4\/k=5;rw[if_pos c4]at h;exact C (aeR h).2.2;rw[if_neg c4]at h;by_cases B:k=7;rw[if_pos B]at h;exact C (aeR h).2.2;rw[if_neg B]at h;by_cases N:k=9;rw[if_pos N,aaN]at h;subst N;obtain⟨x,rfl,D⟩:=fN ok bn;exact W x D h.2;rw[if_neg N]at h;by_cases CA:k=10;rw[if_pos CA,aaN]at h;subst CA;obtain⟨x,rfl,D⟩:=fN ok bn;exact W x D h.2;rw[if_neg CA]at h;by_cases EJ:k=11;rw[if_pos EJ,aaN]at h;subst EJ;have z:=H.1;rw[show arity 11=2 from by decide]at z;exact hR ts (λx D=>H.2 x D) h.2 Yk;rw[if_neg EJ]at h;by_cases EK:k=12
  ·rw[if_pos EK,aaN]at h;subst EK;obtain⟨x,y,rfl,D,K⟩:=fE ok bn;have hn:=aeR h.1;rcases(show n=0\/n=1 by omega)with rfl|rfl
   exact W x D h.2;exact W y K h.2
  rw[if_neg EK]at h;by_cases EL:k=13;rw[if_pos EL,aaN,aaN]at h;subst EL;exact W _ (BG ok bn) h.1.2;rw[if_neg EL,if_neg P]at h;by_cases J:k=15;rw[if_pos J,aaN]at h;subst J;obtain⟨x,rfl,D⟩:=fN ok bn;exact W x D h.2;rw[if_neg J]at h;by_cases A:k=8;rw[if_pos A,aaN,aaN]at h;exact W _ (cF h.1.2) h.2;rw[if_neg A]at h;cases h
def B8:∀(l:L Vl)(t:Ty),nF t->aL l t=true->ej l=true->aI l<=iX l*62000
 |[],_,_,_,_=>by simp[aI]
 |x::l,t,ok,h,Y=>by simp only[aL,aaN]at h;simp only[ej,aaN]at Y;have e1:=Dv x t ok h.1 Y.1;have e2:=B8 l t ok h.2 Y.2;simp only[aI,iX];omega
def B9:∀(l:L Vl)(r:L Ty),(∀x∈r,nF x)->dA l r=true->l.length<=r.length->ej l=true->aI l<=iX l*62000
 |[],_,_,_,_,_=>by simp[aI]
 |x::l,[],_,_,h,_=>by simp at h
 |x::l,t::r,ok,h,I,Y=>by simp only[dA,aaN]at h;simp only[ej,aaN]at Y;simp only[aag]at I;have e1:=Dv x t (ok t cc) h.1 Y.1;have e2:=B9 l r (λy K=>ok y (by simp[K])) h.2 ai Y.2;simp only[aI,iX];omega
end
def CO{v:Vl}{t:Ty}(h:gN t v=true):aH v<=gX v*62000:=by unfold gN oA at h;simp at h;exact Dv v t (cF h.1.1) h.1.2 h.2
def uc(f:iR):CV := .agg [.sl 5 (aD f.code),ag (f.pos:Nat),ag f.fin,.sl 7 (aa f.aside)]
def oM:List iR->L CV
 |[]=>[]
 |f::l=>uc f::oM l
def yz:∀a b:List iR,oM (a++b)=oM a++oM b
 |[],_=>rfl
 |f::a,b=>by simp only[aeN,oM,yz a b]
def yA:∀l:List iR,(oM l).length=l.length
 |[]=>rfl
 |f::l=>by simp only[oM,aag,yA l]
def mu:∀a b:L Vl,aa (a++b)=aa a++aa b
 |[],_=>rfl
 |f::a,b=>by simp only[aeN,aa,mu a b]
def sR(l:L Vl):L CV:=aa l.reverse
def fR(l:List iR):L CV:=oM l.reverse
def Lu(v:Vl)(l:L Vl):sR (v::l)=sR l++[bA v]:=by simp only[sR,ahU,mu];rfl
def Fi(f:iR)(l:List iR):fR (f::l)=fR l++[uc f]:=by simp only[fR,ahU,yz];rfl
def jV(l:L Vl):(sR l).length=l.length:=by simp only[sR,aB,abW]
def A5(l:List iR):(fR l).length=l.length:=by simp only[fR,yA,abW]
def iy:∀(l:L Vl),∀r∈aa l,r.cells.length=7
 |[],r,h=>by simp[aa]at h
 |.mk _ _ _ _ _ _ _::l,r,h=>by
  simp only[aa,afp]at h;rcases h with rfl|h
  rfl;exact iy l r h
def Ee:∀(l:List iR),∀r∈oM l,r.cells.length=4
 |[],r,h=>by simp[oM]at h
 |f::l,r,h=>by
  simp only[oM,afp]at h;rcases h with rfl|h
  rfl;exact Ee l r h
def v9(l:L Vl):(bz (sR l)).length=l.length*7:=by rw[dz (rows:=sR l) (s:=7) (iy _),jV]
def Fg(l:List iR):(bz (fR l)).length=l.length*4:=by rw[dz (rows:=fR l) (s:=4) (Ee _),A5]
def mC(S:bZ)(a b:Nat):L AV:=[.c (ag S.self),.c (ag S.iY),.c (ag S.iZ),.c (ag S.balance),.gY a 0 7 S.st.length,.gY b 0 4 S.fr.length,.c (ag S.bU),.c (ag S.used),.c (ag S.au),
 .c (ag (vK S.said)),.c (ag (vN S.said)),.c (ag (xA S.said)),.c (.str (vS S.said)),.c (.sl 7 (aa (ez S.said))),.c (.sl 2 (az (Iw S.said))),.c (.sl 5 (aD (Ec S.said)))]
def Hf(S:bZ):MC (mC S):=⟨λρ ts a b B O h1 h2=>⟨_,_,Z,.inl Z,_,_,Z,.inl Z,_,_,Z,.inl Z,_,_,Z,.inl Z,_,_,Z,⟨_,h1,Z⟩,_,_,Z,⟨_,h2,Z⟩,_,_,Z,.inl Z,_,_,Z,.inl Z,_,_,Z,.inl Z,
  _,_,Z,.inl Z,_,_,Z,.inl Z,_,_,Z,.inl Z,_,_,Z,.inl Z,_,_,Z,.inl Z,_,_,Z,.inl Z,_,_,Z,.inl Z,Z⟩,λ_ _ _=>rfl,λus a b h1 h2=>by simp only[mC,vJ,Uy,both,h1,h2]⟩
def Qc(S:bZ)(_ b:Nat):L AV:=[.c (ag S.self),.c (ag S.iY),.c (ag S.iZ),.c (ag S.balance),.c (.sl 7 (sR S.st)),.gY b 0 4 S.fr.length,.c (ag S.bU),.c (ag S.used),.c (ag S.au),
 .c (ag (vK S.said)),.c (ag (vN S.said)),.c (ag (xA S.said)),.c (.str (vS S.said)),.c (.sl 7 (aa (ez S.said))),.c (.sl 2 (az (Iw S.said))),.c (.sl 5 (aD (Ec S.said)))]
def Hg(S:bZ):∀(ρ:Ren)(ts:L (Nat×Nat))(b O:Nat),ρ.bx b=some O->fq ρ ts (Qc S 0 b) (Qc S 0 O):=λρ ts b O h2=>⟨_,_,rfl,.inl rfl,_,_,rfl,.inl rfl,_,_,rfl,.inl rfl,_,_,rfl,.inl rfl,_,_,rfl,.inl rfl,_,_,rfl,⟨_,h2,rfl⟩,_,_,rfl,.inl rfl,_,_,rfl,.inl rfl,_,_,rfl,.inl rfl,
  _,_,Z,.inl Z,_,_,Z,.inl Z,_,_,Z,.inl Z,_,_,Z,.inl Z,_,_,Z,.inl Z,_,_,Z,.inl Z,_,_,Z,.inl Z,Z⟩
def JY(S:bZ):∀(us:L Nat)(b:Nat),mem b us=true->vJ us (Qc S 0 b)=true:=λus b h=>by simp only[Qc,vJ,Uy,both,h]
def Yv(S:bZ):MC (Qc S):=⟨λρ ts a b B O _ h2=>Hg S ρ ts b O h2,λ_ _ _=>rfl,λus a b _ h2=>JY S us b h2⟩
def cH(f:FuncId)(S:bZ)(M:L AV)(r:CV)(W:bZ):Prop :=
 rQ f (mI (mC S) (bz (sR S.st)) (bz (fR S.fr))) (.ptr 1000000 0::M) (.c r) (mO (mC W) (bz (sR W.st)) (bz (fR W.fr)))
abbrev jv(f:FuncId)(S:bZ)(M:L AV)(o:Int×bZ):Prop:=cH f S M (ag o.1) o.2
def LB(f:FuncId)(S:bZ)(M:L AV)(r:CV)(W:bZ):Prop :=
 rQ f (mI1 (Qc S) (bz (fR S.fr))) (.ptr 1000000 0::M) (.c r) (mO1 (Qc W) (bz (fR W.fr)))
def Yw{f:FuncId}{n:Nat}{β:kz}{K:L Item}(Q:(∃Y,K = .code .ret::Y)\/K=[]){env:Env}{C:Func}(hf:Tryz.prog.funcs[f]?=some C){bs:L (Nat×L AV)}{ts:L (Nat×Nat)}{us:L Nat}{l:L AV}(B:qT Tryz.X bs env C.results.toList=some l)
  {v:CV}(N:close (zZ l)=some v){W:bZ}{a b:Nat}{cells H S:L AV}(h1:aq 1000000 bs=some cells)(E:cells=mC W a b)(h2:aq a bs=some H)(q:H=ak (sR W.st))(I:aq b bs=some S)(V:S=ak (fR W.fr))(P:Go.cw.distinct [1000000,a,b]=true){r:CV}(O:v=r) :
  By f n β (HR β (.c r) (mO (mC W) (bz (sR W.st)) (bz (fR W.fr)))) K env ⟨bs,ts,us⟩:=by
 subst E q V O;refine AK.G0 Q hX hf B [(1000000,1000000),(999991,a),(999992,b)] ?_ (.inr N) ⟨⟨_,_,Z,h1,(Hf W).conv _ _ _ _ _ _ Z Z⟩,⟨_,_,Z,h2,cJ _⟩,⟨_,_,Z,I,cJ _⟩,trivial⟩;unfold xQ;rw[show([(1000000,1000000),(999991,a),(999992,b)]:L (Nat×Nat)).map (·.2)=[1000000,a,b]from Z,P];rfl
def W0{f:FuncId}{n:Nat}{β:kz}{K:L Item}{env:Env}{C:Func}(hf:Tryz.prog.funcs[f]?=some C){bs:L (Nat×L AV)}{ts:L (Nat×Nat)}{us:L Nat}{l:L AV}(B:qT Tryz.X bs env C.results.toList=some l)
  {v:CV}(N:close (zZ l)=some v){W:bZ}{a b:Nat}{cells H S:L AV}(h1:aq 1000000 bs=some cells)(E:cells=mC W a b)(h2:aq a bs=some H)(q:H=ak (sR W.st))(I:aq b bs=some S)(Y:S=ak (fR W.fr))(P:Go.cw.distinct [1000000,a,b]=true){r:CV}(O:v=r) :
  By f n β (HR β (.c r) (mO (mC W) (bz (sR W.st)) (bz (fR W.fr)))) (.code .ret::K) env ⟨bs,ts,us⟩ :=
 Yw (.inl ⟨_,Z⟩) hf B N h1 E h2 q I Y P O
def ada{f:FuncId}{n:Nat}{β:kz}{env:Env}{C:Func}(hf:Tryz.prog.funcs[f]?=some C){bs:L (Nat×L AV)}{ts:L (Nat×Nat)}{us:L Nat}{l:L AV}(B:qT Tryz.X bs env C.results.toList=some l)
  {v:CV}(N:close (zZ l)=some v){W:bZ}{a b:Nat}{cells H S:L AV}(h1:aq 1000000 bs=some cells)(E:cells=mC W a b)(h2:aq a bs=some H)(q:H=ak (sR W.st))(K:aq b bs=some S)(Y:S=ak (fR W.fr))(I:Go.cw.distinct [1000000,a,b]=true){r:CV}(O:v=r) :
  By f n β (HR β (.c r) (mO (mC W) (bz (sR W.st)) (bz (fR W.fr)))) [] env ⟨bs,ts,us⟩ :=
 Yw (.inr Z) hf B N h1 E h2 q K Y I O
def af7{f:FuncId}{n:Nat}{β:kz}{env:Env}{C:Func}(hf:Tryz.prog.funcs[f]?=some C){bs:L (Nat×L AV)}{ts:L (Nat×Nat)}{us:L Nat}{l:L AV}(B:qT Tryz.X bs env C.results.toList=some l)
  {v:CV}(N:close (zZ l)=some v){W:bZ}{b:Nat}{cells S:L AV}(h1:aq 1000000 bs=some cells)(E:cells=Qc W 0 b)(K:aq b bs=some S)(H:S=ak (fR W.fr))(I:Go.cw.distinct [1000000,b]=true){r:CV}(O:v=r) :
  By f n β (HR β (.c r) (mO1 (Qc W) (bz (fR W.fr)))) [] env ⟨bs,ts,us⟩:=by
 subst E H O;refine AK.G0 (.inr Z) hX hf B [(1000000,1000000),(999992,b)] ?_ (.inr N) ⟨⟨_,_,Z,h1,Hg W _ _ _ _ Z⟩,⟨_,_,Z,K,cJ _⟩,trivial⟩;unfold xQ;rw[show([(1000000,1000000),(999992,b)]:L (Nat×Nat)).map (·.2)=[1000000,b]from Z,I];rfl
def uM{ops:Array Oper}{o:Oper}{rest:L Oper}{env:Env}{acc:L Fp}{Q:Env->St->L Fp->Prop}{bs:L (Nat×L AV)}{ts:L (Nat×Nat)}{us:L Nat}(G:cY ops.toList kn env o=some true){f:FuncId}{args:Array Operand}{H:Array TypeId}(P:o.op = .call {callee := .value (.func f),args:=args,argTypes:=H})
  {S W:bZ}{V:L AV}{r:CV}(hq:cH f S V r W){d:Nat}(I:o.dst=some d)
  {l:L AV}(M:gI (aG Tryz.X env) args.toList=some l){km:Nat}{U:L AV}(Y:l = .ptr km 0::U){u fk:Nat}{N T C:L AV}(h1:aq km bs=some N)(E:N=mC S u fk)(h2:aq u bs=some T)(q:T=ak (sR S.st))(K:aq fk bs=some C)(O:C=ak (fR S.fr))
  (J:∀ts,fq ⟨λk=>aq k [(1000000,km),(1000001,u),(1000002,fk)],λ_=>none⟩ ts V U)(D:yq us km u fk (100000+d) (200000+d)=true)
  {bs':L (Nat×L AV)}(B:kR [km,u,fk] bs=bs')
  (k:me ops rest ((d,.c r)::env) ⟨(km,mC W (100000+d) (200000+d))::(100000+d,ak (sR W.st))::(200000+d,ak (fR W.fr))::bs',ts,km::(100000+d)::(200000+d)::us⟩ (⟨[],[km,u,fk,km,100000+d,200000+d,km,100000+d,200000+d]⟩::acc) Q):me ops (o::rest) env ⟨bs,ts,us⟩ acc Q:=by
 subst Y;exact ah.afY kn G P hq (Hf S) (Hf W) I M Z h1 E h2 q K O (λts=>⟨_,_,Z,⟨_,fe,Z⟩,J ts⟩) D Z Z B k
def uM1{ops:Array Oper}{o:Oper}{rest:L Oper}{env:Env}{acc:L Fp}{Q:Env->St->L Fp->Prop}{bs:L (Nat×L AV)}{ts:L (Nat×Nat)}{us:L Nat}(G:cY ops.toList kn env o=some true){f:FuncId}{args:Array Operand}{H:Array TypeId}(T:o.op = .call {callee := .value (.func f),args:=args,argTypes:=H})
  {S W:bZ}{V:L AV}{r:CV}(hq:LB f S V r W){d:Nat}(I:o.dst=some d)
  {l:L AV}(P:gI (aG Tryz.X env) args.toList=some l){km:Nat}{U:L AV}(Y:l = .ptr km 0::U){fk:Nat}{N C:L AV}(h1:aq km bs=some N)(E:N=Qc S 0 fk)(K:aq fk bs=some C)(O:C=ak (fR S.fr))
  (q:∀ts,fq ⟨λk=>aq k [(1000000,km),(1000002,fk)],λ_=>none⟩ ts V U)(J:B3 us km fk (200000+d)=true)
  {bs':L (Nat×L AV)}(M:kR [km,fk] bs=bs')
  (k:me ops rest ((d,.c r)::env) ⟨(km,Qc W 0 (200000+d))::(200000+d,ak (fR W.fr))::bs',ts,km::(200000+d)::us⟩ (⟨[],[km,fk,km,200000+d,km,200000+d]⟩::acc) Q):me ops (o::rest) env ⟨bs,ts,us⟩ acc Q:=by
 subst Y;exact ah.adN kn G T hq (Yv S) (Yv W) (Hg S) (JY W) (λ_ _=>rfl) I P Z h1 E K O (λts=>⟨_,_,Z,⟨_,fe,Z⟩,q ts⟩) J Z Z M k
def Il{ρ:Ren}{ts:L (Nat×Nat)}{v:CV}{a:AV}{l m:L AV}(h:close a=some v)(H:fq ρ ts l m):fq ρ ts (.c v::l) (a::m):=⟨_,_,Z,.inr h,H⟩
def Im{ρ:Ren}{ts:L (Nat×Nat)}{k k' o:Nat}{l m:L AV}(h:ρ.bx k=some k')(H:fq ρ ts l m):fq ρ ts (.ptr k o::l) (.ptr k' o::m):=⟨_,_,Z,⟨_,h,Z⟩,H⟩
def adQ{ops:Array Oper}{o:Oper}{rest:L Oper}{env:Env}{acc:L Fp}{Q:Env->St->L Fp->Prop}{bs:L (Nat×L AV)}{ts:L (Nat×Nat)}{us:L Nat}{f:FuncId}{args:Array Operand}{H:Array TypeId}{S W:bZ}{V:L AV}{r:CV}{d:Nat}{l:L AV}{km:Nat}{U:L AV}{fk:Nat}{N C:L AV}{bs':L (Nat×L AV)}(k:me ops rest ((d,.c r)::env) ⟨(km,Qc W 0 (200000+d))::(200000+d,ak (fR W.fr))::bs',ts,km::(200000+d)::us⟩ (⟨[],[km,fk,km,200000+d,km,200000+d]⟩::acc) Q)(G:cY ops.toList kn env o=some true:=by exact rfl)(T:o.op = .call {callee := .value (.func f),args:=args,argTypes:=H}:=by exact rfl)(hq:LB f S V r W:=by assumption)(I:o.dst=some d:=by exact rfl)(P:gI (aG Tryz.X env) args.toList=some l:=by exact rfl)(Y:l = .ptr km 0::U:=by exact rfl)(h1:aq km bs=some N:=by exact rfl)(E:N=Qc S 0 fk:=by exact rfl)(K:aq fk bs=some C:=by exact rfl)(O:C=ak (fR S.fr):=by exact rfl)(q:∀ts,fq ⟨λk=>aq k [(1000000,km),(1000002,fk)],λ_=>none⟩ ts V U:=by intro _;repeat' (first|exact rfl|refine Il rfl ?_|refine Im rfl ?_))(J:B3 us km fk (200000+d)=true:=by exact rfl)(M:kR [km,fk] bs=bs':=by exact rfl): me ops (o::rest) env ⟨bs,ts,us⟩ acc Q:=uM1 G T hq I P Y h1 E K O q J M k
def Nn:Nat->L AV->Env
 |_,[]=>[]
 |i,c::l=>(i,c)::Nn (i+1) l
def E2:∀(i:Nat)(l:L AV),Nn i l=((l.zipIdx i).map λ(v,i)=>(i,v))
 |_,[]=>rfl
 |i,c::l=>by simp only[Nn,agR,aeX,E2 (i+1) l]
def mn{f:FuncId}{C:Func}{c:Code}{S W:bZ}{M:L AV}{r:CV}{env:Env}(hf:Tryz.prog.funcs[f]?=some C)(O:Enters Tryz.prog f)(k:∀β,Tryz.prog.funcs[f]?=some C->By f C.ntmps β (HR β (.c r) (mO (mC W) (bz (sR W.st)) (bz (fR W.fr)))) [.code c] env ⟨[(1000000,mC S 1000001 1000002),(1000001,ak (sR S.st)),(1000002,ak (fR S.fr))],[],[1000000,1000001,1000002]⟩)(U:C.body=some c:=by exact rfl)(B:(AV.ptr 1000000 0::M).length<=C.ntmps:=by exact aeP rfl)(Y:Nn 0 (AV.ptr 1000000 0::M)=env:=by simp only[Nn];try exact rfl):cH f S M r W:=cn.of hf U O B env _ (by rw[<- Y,E2]) rfl λβ=>k β hf
def dm{p:Prop}(h:p:=by(repeat' (first|refine st ?_|(refine AK.DR Z (λh=>?_) (λh=>?_)<;>first|(cases h;done)|rw[h]|skip)|refine AK.rM Z ?_ ?_|refine uC Z (by assumption) ?_|refine uI Z _ Z (by assumption) Z ?_|refine uI Z 0 Z (by assumption) Z ?_|refine uI Z 1 Z (by assumption) Z ?_|refine uI Z 0 Z Z Z ?_|refine uI Z 1 Z Z Z ?_|refine uI Z 2 Z Z Z ?_|refine uI Z 3 Z Z Z ?_|refine v8 ?_|refine adQ ?_|(first|refine ah.quo hX kn Z Z Z Z Z Z Z ((by decide)) ?_|refine ah.rem hX kn Z Z Z Z Z Z Z ((by decide)) ?_)|(refine uA Z ?_ ?_<;>(try (show(_:Nat)*_<=_;dsimp only)))|refine ah.toStr hX kn Z Z Z Z Z Z Z Z Z Z Z (by first|exact Z|exact Ag _) Z ?_|((first|refine ah.qG Z Z Z FR (λh=>?_)|refine ah.qH Z Z Z FR (λh=>?_)|refine ah.split Z Z Z (λh=>?_) (λh=>?_))<;>(fail_if_success (cases h;done))<;>rw[h])|refine W0 hf Z Z Z Z Z Z Z Z Z ?_|refine ada hf Z Z Z Z Z Z Z Z Z ?_))<;>rfl):p:=h
def mdm{f:FuncId}{C:Func}{c:Code}{S W:bZ}{M:L AV}{r:CV}{env:Env}(hf:Tryz.prog.funcs[f]?=some C)(O:Enters Tryz.prog f)(U:C.body=some c:=by exact rfl)(B:(AV.ptr 1000000 0::M).length<=C.ntmps:=by exact aeP rfl)(Y:Nn 0 (AV.ptr 1000000 0::M)=env:=by simp only[Nn];try exact rfl)(k:∀β,Tryz.prog.funcs[f]?=some C->By f C.ntmps β (HR β (.c r) (mO (mC W) (bz (sR W.st)) (bz (fR W.fr)))) [.code c] env ⟨[(1000000,mC S 1000001 1000002),(1000001,ak (sR S.st)),(1000002,ak (fR S.fr))],[],[1000000,1000001,1000002]⟩:=by intro β hf;exact dm):cH f S M r W:=mn hf O k U B Y
def dnm{p q:Prop}(k:q)(h:q->p:=by intro k;(repeat' (first|refine st ?_|(refine AK.DR Z (λh=>?_) (λh=>?_)<;>first|(cases h;done)|rw[h]|skip)|refine AK.rM Z ?_ ?_|refine uC Z (by assumption) ?_|refine uI Z _ Z (by assumption) Z ?_|refine uI Z 0 Z (by assumption) Z ?_|refine uI Z 1 Z (by assumption) Z ?_|refine uI Z 0 Z Z Z ?_|refine uI Z 1 Z Z Z ?_|refine uI Z 2 Z Z Z ?_|refine uI Z 3 Z Z Z ?_|refine v8 ?_|refine adQ ?_|(first|refine ah.quo hX kn Z Z Z Z Z Z Z ((by decide)) ?_|refine ah.rem hX kn Z Z Z Z Z Z Z ((by decide)) ?_)|(refine uA Z ?_ ?_<;>(try (show(_:Nat)*_<=_;dsimp only)))|refine ah.toStr hX kn Z Z Z Z Z Z Z Z Z Z Z (by first|exact Z|exact Ag _) Z ?_|((first|refine ah.qG Z Z Z FR (λh=>?_)|refine ah.qH Z Z Z FR (λh=>?_)|refine ah.split Z Z Z (λh=>?_) (λh=>?_))<;>(fail_if_success (cases h;done))<;>rw[h])|refine W0 hf Z Z Z Z Z Z Z Z Z ?_|refine ada hf Z Z Z Z Z Z Z Z Z ?_))<;>first|exact Z|exact k):p:=h k
def v8{ops:Array Oper}{o:Oper}{rest:L Oper}{env:Env}{acc:L Fp}{Q:Env->St->L Fp->Prop}{bs:L (Nat×L AV)}{ts:L (Nat×Nat)}{us:L Nat}{f:FuncId}{args:Array Operand}{H:Array TypeId}{S W:bZ}{V:L AV}{r:CV}{d:Nat}{l:L AV}{km:Nat}{U:L AV}{u fk:Nat}{N T C:L AV}{bs':L (Nat×L AV)}(k:me ops rest ((d,.c r)::env) ⟨(km,mC W (100000+d) (200000+d))::(100000+d,ak (sR W.st))::(200000+d,ak (fR W.fr))::bs',ts,km::(100000+d)::(200000+d)::us⟩ (⟨[],[km,u,fk,km,100000+d,200000+d,km,100000+d,200000+d]⟩::acc) Q)(G:cY ops.toList kn env o=some true:=by exact rfl)(P:o.op = .call {callee := .value (.func f),args:=args,argTypes:=H}:=by exact rfl)(hq:cH f S V r W:=by assumption)(I:o.dst=some d:=by exact rfl)(M:gI (aG Tryz.X env) args.toList=some l:=by exact rfl)(Y:l = .ptr km 0::U:=by exact rfl)(h1:aq km bs=some N:=by exact rfl)(E:N=mC S u fk:=by exact rfl)(h2:aq u bs=some T:=by exact rfl)(q:T=ak (sR S.st):=by exact rfl)(K:aq fk bs=some C:=by exact rfl)(O:C=ak (fR S.fr):=by exact rfl)(J:∀ts,fq ⟨λk=>aq k [(1000000,km),(1000001,u),(1000002,fk)],λ_=>none⟩ ts V U:=by intro _;repeat' (first|exact rfl|refine Il rfl ?_|refine Im rfl ?_))(D:yq us km u fk (100000+d) (200000+d)=true:=by exact rfl)(B:kR [km,u,fk] bs=bs':=by exact rfl): me ops (o::rest) env ⟨bs,ts,us⟩ acc Q:=uM G P hq I M Y h1 E h2 q K O J D B k
def LC(k n a:Int)(s:L UInt8)(M:L Vl)(V:L Ty)(code:L Nd)(t:L Vl):dV (0+t.length*7) (ak (sR (.mk k n a s M V code::t))) =
  some [.c (ag k),.c (ag n),.c (ag a),.c (.str s),.c (.sl 7 (aa M)),.c (.sl 2 (az V)),.c (.sl 5 (aD code))]:=by
 rw[Lu,ak,dP,afa,aeS,<- v9,<- aeU (f:=AV.c),jg];rfl
def A6(f:iR)(t:List iR):dV (0+t.length*4) (ak (fR (f::t)))=some [.c (.sl 5 (aD f.code)),.c (ag (f.pos:Nat)),.c (ag f.fin),.c (.sl 7 (aa f.aside))]:=by rw[Fi,ak,dP,afa,aeS,<- Fg,<- aeU (f:=AV.c),jg];rfl
def Hh(v:Vl)(t:L Vl):ak (sR (v::t))=ak (sR t)++ak [bA v]:=by rw[Lu,ak,dP,afa]
def nq(f:iR)(t:List iR):ak (fR (f::t))=ak (fR t)++ak [uc f]:=by rw[Fi,ak,dP,afa]
def Rt(k n a:Int)(s:L UInt8)(M:L Vl)(V:L Ty)(code:L Nd)(t:L Vl)(z:CV)(I:z.cells.length=7):bG (0+t.length*7) [.c (ag k),.c (ag n),.c (ag a),.c (.str s),.c (.sl 7 (aa M)),.c (.sl 2 (az V)),.c (.sl 5 (aD code))] (ak (sR t++[z])) =
  some (ak (sR (.mk k n a s M V code::t))):=by
 rw[Hh,ak,dP,afa,aeS,<- v9,<- aeU (f:=AV.c)];have Y:∀(p x y:L AV),x.length=y.length->bG p.length x (p++y)=some (p++x):=by
  intro p x y h
  induction p with
  |nil=>exact x8 x y h
  |cons q p W =>
   cases x with
   |nil=>cases y with
    |nil=>simp only[bG]
    |cons _ _=>simp at h
   |cons U x=>simp only[aag,aeN,bG,W]
 exact Y _ _ _ (by simp only[bz,aeO,aeU,I];rfl)
def LD(us:L Nat):∀l:L CV,qI us (l.map AV.c)=true
 |[]=>rfl
 |c::l=>by simp;exact LD us l
def Tk{us:L Nat}{k:Nat}{a:L AV}{l:L (Nat×L AV)}(h1:mem k us=true)(h2:qI us a=true)(K:okB us l=true):okB us ((k,a)::l)=true:=by simp only[okB,h1,h2];exact K
def adU(S:bZ){us:L Nat}{a b:Nat}(h1:mem a us=true)(h2:mem b us=true):qI us (mC S a b)=true:=by simp only[mC,qI,Ii,h1,h2]
def adV(S:bZ){us:L Nat}{km a b:Nat}(C:mem km us=true)(h1:mem a us=true)(h2:mem b us=true):okB us [(km,mC S a b),(a,ak (sR S.st)),(b,ak (fR S.fr))]=true :=
 Tk C (adU S h1 h2) (Tk h1 (LD _ _) (Tk h2 (LD _ _) Z))
def cvB{S:bZ}{bx:L (Nat×Nat)}{tk:L (Nat×(Nat×Option Nat))}{ts:L (Nat×Nat)}{bs:L (Nat×L AV)}{km a b Y B O:Nat}{N H C:L AV}(W:aq km bx=some Y)(h1:aq a bx=some B)(h2:aq b bx=some O)(I:aq Y bs=some N)(A:N=mC S B O)(E:aq B bs=some H)(q1:H=ak (sR S.st))(q:aq O bs=some C)(V:C=ak (fR S.fr)) :
  JQ ⟨λk=>aq k bx,λk=>aq k tk⟩ ts bs [(km,mC S a b),(a,ak (sR S.st)),(b,ak (fR S.fr))]:=by
 subst A q1 V;exact⟨⟨_,_,W,I,(Hf S).conv _ _ _ _ _ _ h1 h2⟩,⟨_,_,h1,E,cJ _⟩,⟨_,_,h2,q,cJ _⟩,trivial⟩
attribute [local irreducible] AK ah aR bM cn
def adW(S:bZ)(h:S.bU<=S.used):cH 108 S [] (ag 12) S:=by have Y:decide (S.used>=S.bU)=true:=aaX h;exact mdm func108 call108
def adX(S:bZ)(h:S.used<S.bU)(h1:Tl S.bU)(h2:0<=S.used):cH 108 S [] (ag 0) {S with used:=S.used+1}:=by
 have Y:decide (S.used>=S.bU)=false:=aaY ai;have M:i64.wrap (S.used+1)=S.used+1:=iB ai (by have:=h1.2;omega);refine mn func108 call108 λβ hf=>?_
 repeat' (first|refine o9 ?_|refine zc ?_ ?_|(intro h;first|(cases h;done)|rw[h]|skip))
 rw[M];exact W0 hf Z Z Z Z Z Z Z Z Z Z
def aa0(S:bZ)(h:S.st=[]):cH 131 S [] (.eF [bA lC,.bool false]) S:=by
 obtain⟨a,b,c,d,st,H,g,u,m,Q⟩:=S;simp only at h;subst h;have Y:decide (i64.wrap (((([]:L Vl).length:Nat):Int)-1)<0)=true:=by decide
 exact mdm func131 call131
def Yx(S:bZ)(v:Vl)(t:L Vl)(h:S.st=v::t)(I:t.length<=1099511627776):cH 131 S [] (.eF [bA v,.bool true]) {S with st:=t}:=by
 obtain⟨a,b,c,d,st,H,g,u,m,Q⟩:=S;simp only at h;subst h;have Y:i64.wrap ((((v::t).length:Nat):Int)-1)=(t.length:Nat):=by rw[iB cS cS];simp only[aag];omega
 have T:decide (i64.wrap ((((v::t).length:Nat):Int)-1)<0)=false:=by rw[Y];exact aaY ai
 obtain⟨k,n,W,s,M,V,code⟩:=v;have U:=LC k n W s M V code t;refine mn func131 call131 λβ hf=>?_
 repeat' (first|refine o9 ?_|refine zc ?_ ?_|(intro h;first|(cases h;done)|rw[h]|skip)|refine ah.jU hX kn Z Z Z Z Z Z Z Z Z t.length Y (afo _) ?_|refine ah.dj hX kn Z Z Z Z Z Z U Z ?_|refine ah.Fe hX kn Z Z Z Z Z Z Z Z Z Z Z Z t.length Y (ahx _) ?_)
 refine AK.yu 1000001 (ak (sR t)) _ Z (Hh _ _) Z ?_;exact W0 hf Z Z Z Z Z Z Z Z Z Z
def yw(S:bZ)(code:L Nd)(fin:Int)(I:L Vl)(P:S.fr.length<=1099511627776):cH 107 S [.c (.sl 5 (aD code)),.c (ag fin),.c (.sl 7 (aa I))] .undef {S with fr:=⟨code,0,fin,I⟩::S.fr}:=by
 refine mn func107 call107 λβ hf=>?_
 repeat' (first|refine o9 ?_|refine ah.nA hX kn Z Z Z Z Z Z Z Z Z Z Z Z Z Z Z (fR S.fr) [] (aeO _).symm (A5 _).symm (Fg _) Z Z Z Z Z Z Z (show((fR S.fr).length+1)*64<=_ by rw[A5];omega) (Fi ⟨code,0,fin,I⟩ S.fr).symm (A5 _) Z ?_|(refine uA Z ?_ ?_<;>(try (show(_:Nat)*_<=_;dsimp only))))
 all_goals rfl
def Ly(S:bZ)(code:L Nd)(fin:Int)(I:L Vl)(P:S.fr.length<=1099511627776):LB 107 S [.c (.sl 5 (aD code)),.c (ag fin),.c (.sl 7 (aa I))] .undef {S with fr:=⟨code,0,fin,I⟩::S.fr}:=by
 refine cn.of func107 Z (λM w=>call107 M w) (aeP Z) [(0,.ptr 1000000 0),(1,.c (.sl 5 (aD code))),(2,.c (ag fin)),(3,.c (.sl 7 (aa I)))] ⟨[(1000000,Qc (S) 0 1000002),(1000002,ak (fR (S).fr))],[],[1000000,1000002]⟩ Z Z λβ=>?_;have hf:=func107
 repeat' (first|refine o9 ?_|refine ah.nA hX kn Z Z Z Z Z Z Z Z Z Z Z Z Z Z Z (fR S.fr) [] (aeO _).symm (A5 _).symm (Fg _) Z Z Z Z Z Z Z (show((fR S.fr).length+1)*64<=_ by rw[A5];omega) (Fi ⟨code,0,fin,I⟩ S.fr).symm (A5 _) Z ?_|(refine uA Z ?_ ?_<;>(try (show(_:Nat)*_<=_;dsimp only))))
 exact af7 hf Z Z Z Z Z Z Z Z
end Go.Proofs
namespace Go.Proofs
open Go.cw
attribute [local irreducible] AK ah aR bM cn
def Rx(S:bZ)(n:Nat)(H:n<=3)(I:S.st.length<=1099511627776):cH 132 S [.c (ag (n:Nat))] (match ki n S.st with|some (l,_) => .eF [.sl 7 (aa l),.bool true]|none => .eF [.sl 0 [],.bool false]) {S with st:=match ki n S.st with|some (_,r)=>r|none=>[]}:=by
 generalize Y:ki n S.st=res;refine mn func132 call132 λβ hf=>?_;refine dnm ?_;refine AK.fY [(1000000,1000000),(3001,1000001),(3002,1000002)] [(3006,(0,none))] (env':=[(0,.ptr 1000000 0),(9,.c (ag (n:Nat))),(10,.c (ag (([]:L Vl).length:Nat))),(6,.own (.tok 3006 0) 7 (aa []))])
  (bs':=[(1000000,mC {S with st:=S.st} 3001 3002),(3001,ak (sR S.st)),(3002,ak (fR S.fr))]) (ts':=[(3006,0)]) (us':=[1000000,3001,3002,3006])
  ce  (cvB Z Z Z Z Z Z Z Z Z) Z ?_
 refine AK.dN (α:=L Vl×L Vl) (λz=>res=(ki (n-z.1.length) z.2).map (λq=>(z.1++q.1,q.2))/\z.1.length<=n/\z.2.length<=1099511627776) (λz=>n-z.1.length)
  (λz=>[(0,.ptr 1000000 0),(9,.c (ag (n:Nat))),(10,.c (ag (z.1.length:Nat))),(6,.own (.tok 3006 0) 7 (aa z.1))])
  (λz=>[(1000000,mC {S with st:=z.2} 3001 3002),(3001,ak (sR z.2)),(3002,ak (fR S.fr))]) (λ_=>[(3006,0)]) [1000000,3001,3002,3006] ([],S.st)
  ⟨by rw[<- Y];simp only[aay,Nat.sub_zero,afM];cases ki n S.st<;>rfl,aeW _,I⟩ ⟨.inl rfl,.inl rfl,.inl rfl,.inl rfl,trivial⟩ ⟨rfl,rfl,rfl,trivial⟩ ⟨rfl,trivial⟩ rfl (adV {S with st:=S.st} rfl rfl rfl) rfl ?_
 rintro⟨l,s⟩ ⟨h1,h2,K⟩ ih;simp only at h1 h2 K;by_cases Q:l.length=n
 ·have P:decide (((l.length:Nat):Int)<((n:Nat):Int))=false:=aaY ai;have B:res=some (l,s):=by rw[h1,Q,Nat.sub_self];simp[ki]
  rw[B];clear ih;exact dm
 have P:decide (((l.length:Nat):Int)<((n:Nat):Int))=true:=aaX ai;obtain⟨m,D⟩:∃m,n-l.length=m+1:=⟨n-l.length-1,ai⟩;cases s with
 |nil =>
  have B:res=none:=by rw[h1,D];simp[ki]
  rw[B];clear ih;have J:=aa0 {S with st:=[]} rfl;exact dm
 |cons v t =>
  simp only[aag]at K;have O:i64.wrap (((l.length:Nat):Int)+1)=((l++[v]).length:Nat):=by rw[iB ai ai];simp only[aaZ,aag,aay];omega
  have B:res=(ki (n-(l++[v]).length) t).map (λq=>(l++[v]++q.1,q.2)):=by rw[h1,D,show n-(l++[v]).length=m from by simp only[aaZ,aag,aay];omega];simp only[ki];cases ki m t<;>simp
  have N:(l++[v]).length<=n:=by simp only[aaZ,aag,aay];omega
  have U:aa l++[bA v]=aa (l++[v]):=(mu l [v]).symm;have G:=aB l;obtain⟨k,T,W,E,M,V,code⟩:=v
  repeat' (first|refine o9 ?_|refine zc ?_ ?_|(intro h;first|(cases h;done)|rw[h]|skip)|refine v8 ?_ (hq:=Yx {S with st := .mk k T W E M V code::t} _ _ rfl ai)|(refine uA rfl ?_ ?_<;>(try (show(_:Nat)*_<=_;dsimp only))))
  show(_:Nat)<=_;simp only[aag,aay];omega;refine AK.fY [(1000000,1000000),(3001,100014),(3002,200014)] [(3006,(0,some 3006))] (env':=[(0,.ptr 1000000 0),(9,.c (ag (n:Nat))),(10,.c (ag ((l++[Vl.mk k T W E M V code]).length:Nat))),(6,.own (.tok 3006 0) 7 (aa (l++[Vl.mk k T W E M V code])))])
   (bs':=[(1000000,mC {S with st:=t} 3001 3002),(3001,ak (sR t)),(3002,ak (fR S.fr))]) (ts':=[(3006,0)]) (us':=[1000000,3001,3002,3006])
   ⟨⟨_,Z,⟨_,Z,Z⟩⟩,⟨_,Z,.inl Z⟩,⟨_,Z,.inl (aeM (λz=>AV.c (.int .i64 z)) O)⟩,⟨_,Z,⟨_,Z,.inr ⟨_,_,Z,Z,by rw[<- U];rfl⟩⟩⟩,trivial⟩ (cvB Z Z Z Z Z Z Z Z Z) Z ?_
  exact ih (l++[Vl.mk k T W E M V code],t) ⟨B,N,by show t.length<=_;omega⟩ (by show n-(l++[_]).length<n-l.length;simp only[aaZ,aag,aay];omega)
end Go.Proofs
