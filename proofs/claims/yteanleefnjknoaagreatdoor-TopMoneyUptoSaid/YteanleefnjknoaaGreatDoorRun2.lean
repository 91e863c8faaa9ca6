/- What a move does to a good ledger: -/
import Derived.Test.YteanleefnjknoaaGreatDoorLed4
import Derived.Test.YteanleefnjknoaaGreatDoorKind6
import Derived.Test.YteanleefnjknoaaGreatDoorVal2
import Derived.Test.YteanleefnjknoaaGreatDoorFits
import Derived.Test.YteanleefnjknoaaGreatDoorCtx
set_option maxRecDepth 100000
open Go.IntKind
open Go.Proofs.Tryz
set_option linter.defProp false
set_option maxHeartbeats 0
set_option linter.unusedVariables false
set_option linter.unusedSimpArgs false
namespace Go.cK
def nT:∀(l:L Acc)(i:Nat)(a:Acc)(z:Int),l[i]?=some a->j6 (lC l i z)=j6 l-a.dr+z
 |[],i,a,z,h=>by simp at h
 |x::l,0,a,z,h=>by
  simp at h;subst h;simp only[lC,j6,Acc.de];omega
 |x::l,i+1,a,z,h=>by
  simp only[aeF]at h;simp only[lC,j6,nT l i a z h];omega
def wH:∀(l:L Acc),(∀a∈l,0<=a.dr)->0<=j6 l
 |[],_=>by simp[j6]
 |a::l,h=>by
  have h1:=h a cS;have h2:=wH l (λx O=>h x abB);simp only[j6];omega
def F1:∀(l:L Acc)(i:Nat)(a:Acc),(∀a∈l,0<=a.dr)->l[i]?=some a->a.dr<=j6 l
 |[],i,a,_,h=>by simp at h
 |x::l,0,a,hb,h=>by
  simp at h;subst h;have h2:=wH l (λx O=>hb x abB);simp only[j6];omega
 |x::l,i+1,a,hb,h=>by
  simp only[aeF]at h;have h1:=hb x cS;have h2:=F1 l i a (λx O=>hb x abB) h;simp only[j6];omega
def Ns:∀(l:L Acc)(i j:Nat)(a b:Acc),(∀a∈l,0<=a.dr)->l[i]?=some a->l[j]?=some b->i≠j->a.dr+b.dr<=j6 l
 |[],i,j,a,b,_,h,_,_=>by simp at h
 |x::l,0,0,a,b,hb,h,k,hn=>absurd Z hn
 |x::l,0,j+1,a,b,hb,h,k,hn=>by
  simp at h;subst h;simp only[aeF]at k;have h2:=F1 l j b (λx O=>hb x abB) k;simp only[j6];omega
 |x::l,i+1,0,a,b,hb,h,k,hn=>by
  simp at k;subst k;simp only[aeF]at h;have h2:=F1 l i a (λx O=>hb x abB) h;simp only[j6];omega
 |x::l,i+1,j+1,a,b,hb,h,k,hn=>by
  simp only[aeF]at h k;have h1:=hb x cS;have h2:=Ns l i j a b (λx O=>hb x abB) h k bn;simp only[j6];omega
def TM(a:Acc)(z:Int):AE (a.de z)=AE a:=rfl
def W0{j:Nat}{a:Acc}{z:Int}(h:tD j a=true)(h1:a.is≠0)(h2:0<=z/\z<=4000000):tD j (a.de z)=true:=by
 unfold tD G1 gIn at h ⊢;simp only[TM];have I:(a.de z).is=a.is:=rfl;have W:(a.de z).dr=z:=rfl;have Y:(a.de z).cnt=a.cnt:=rfl;have E:(a.de z).param=a.param:=rfl;have q:(a.de z).store=a.store:=rfl;have V:(a.de z).code=a.code:=rfl;have U:(a.de z).keep=a.keep:=rfl;rw[I,W,Y,E,q,V,U];rw[aai]at h ⊢;obtain⟨ha,Q⟩:=h;rw[if_neg h1]at Q ⊢;refine⟨?_,Q⟩;rw[agn,aeQ,aeQ]at ha ⊢;exact⟨⟨aap bn,ha.1.2⟩,ha.2⟩
def uc:∀(l:L Acc)(k i:Nat)(a:Acc)(z:Int),fE k l=true->l[i]?=some a->a.is≠0->0<=z/\z<=4000000->fE k (lC l i z)=true
 |[],k,i,a,z,_,h,_,_=>by simp at h
 |x::l,k,0,a,z,G,h,h1,h2=>by
  simp at h;subst h;simp only[fE,aai]at G;simp only[lC,fE,aai];exact⟨W0 G.1 h1 h2,G.2⟩
 |x::l,k,i+1,a,z,G,h,h1,h2=>by
  simp only[aeF]at h;simp only[fE,aai]at G;simp only[lC,fE,aai];exact⟨G.1,uc l (k+1) i a z G.2 h h1 h2⟩
def iL{l:gm}:qC l=true↔(0<=l.ez/\l.ez<=4000000)/\fE 0 l.br=true/\G3 l=4000000:=by
 unfold qC;rw[aai,aai,aeH,aeH,and_assoc]
def S4{l:gm}{i j:Nat}{J aT:Acc}{n:Int}(G:qC l=true)(V:l.br[i]?=some J)(T:l.br[j]?=some aT)(Q:J.is≠0)(N:aT.is≠0)(I:0<=n)(E:n<=J.dr) :
  (0<=J.dr/\J.dr<=4000000)/\∃W:Acc,(l.de i (J.dr-n)).br[j]?=some W/\W.dr=(if i=j then J.dr-n else aT.dr)/\W.is≠0/\0<=W.dr/\W.dr+n<=4000000 /\
   qC ((l.de i (J.dr-n)).de j (W.dr+n))=true/\G3 ((l.de i (J.dr-n)).de j (W.dr+n))=G3 l:=by
 obtain⟨g1,H,M⟩:=iL.1 G;have P:=ql _ _ H;have K:=P J (aaB V);have D:=P aT (aaB T);refine⟨K,?_⟩;have O:(l.de i (J.dr-n)).br[j]?=if i=j then some (aT.de (J.dr-n))else some aT:=by
  show(lC l.br i (J.dr-n))[j]?=_;rw[Aw,T];rfl
 unfold G3 at M;by_cases Y:i=j
 ·subst Y;obtain rfl:J=aT:=by rw[V]at T;exact Option.some.inj T
  rw[if_pos rfl]at O;have S:(lC l.br i (J.dr-n))[i]?=some (J.de (J.dr-n)):=O;have U:(J.de (J.dr-n)).dr=J.dr-n:=rfl;refine⟨_,O,by rw[if_pos Z,U],Q,by rw[U];omega,by rw[U];omega,?_,?_⟩
  ·rw[iL];refine⟨g1,?_,?_⟩
   ·exact uc _ _ _ _ _ (uc _ _ _ _ _ H V Q bn) O Q (by rw[U];omega)
   ·show l.ez+j6 (lC (lC l.br i (J.dr-n)) i _)=_;rw[nT _ _ _ _ S,nT _ _ _ _ V,U];omega
  ·show l.ez+j6 (lC (lC l.br i (J.dr-n)) i _)=l.ez+j6 l.br;rw[nT _ _ _ _ S,nT _ _ _ _ V,U];omega
 ·rw[if_neg Y]at O;have S:(lC l.br i (J.dr-n))[j]?=some aT:=O;have h2:=Ns l.br i j J aT (λa ha=>(P a ha).1) V T Y;refine⟨_,O,by rw[if_neg Y],N,bn,bn,?_,?_⟩
  ·rw[iL];refine⟨g1,?_,?_⟩
   ·exact uc _ _ _ _ _ (uc _ _ _ _ _ H V Q bn) O N bn
   ·show l.ez+j6 (lC (lC l.br i (J.dr-n)) j _)=_;rw[nT _ _ _ _ S,nT _ _ _ _ V];omega
  ·show l.ez+j6 (lC (lC l.br i (J.dr-n)) j _)=l.ez+j6 l.br;rw[nT _ _ _ _ S,nT _ _ _ _ V];omega
end Go.cK
namespace Go.Proofs
open Go.cK
def xA:Vl->Int | .mk _ _ a _ _ _ _=>a
def GX:Vl->L Ty | .mk _ _ _ _ _ t _=>t
def C9:Vl->L Nd | .mk _ _ _ _ _ _ c=>c
structure iJ where
 code:List Nd
 pos:Nat
 fin:Int
 aside:List Vl
structure ct where
 self:Int
 iE:Int
 iF:Int
 balance:Int
 st:List Vl
 fr:List iJ
 cC:Int
 used:Int
 az:Int
 said:Vl
def jS:Nat->L Vl->Option (L Vl×L Vl)
 |0,s=>some ([],s)
 |_+1,[]=>none
 |n+1,v::s=>match jS n s with
  |some (l,r)=>some (v::l,r)
  |none=>none
def nI:L Vl->L Vl->Int×L Vl
 |[],s=>(0,s)
 |v::l,s=>if gQ v>200 then(13,s)else nI l (v::s)
def aQ(k n:Int):Vl := .mk k n 0 [] [] [] []
def iZ(b:Bool):Vl:=aQ 2 (if b then 1 else 0)
def cG(l:L Vl):Vl := .mk 9 0 0 [] l [] []
def bA(a b:Vl):Vl := .mk 11 0 0 [] [a,b] [] []
def cr(p:Int):Nat :=
 if p∈[41,43,45,54,56,61,66,89,90,91,92]then 0
 else if p∈[42,46,57,62,67,69,70,71,72,73,78,79,80,84,86]then 2
 else if p∈[63,88]then 3 else 1
def ofM(p a b:Int):Int:=if a=5\/b=5 then 5 else if a=4/\b=4/\p≠70 then 4 else 3
def cw:L Vl->Vl->Nat
 |[],_=>0
 |x::l,k=>if dR (mD x) k<0 then cw l k+1 else 0
def fB(l:L Vl)(k:Vl):Bool:=match l[cw l k]? with
 |some x=>decide (dR (mD x) k=0)
 |none=>false
abbrev MR:=Int×ct
def bq(S:ct)(l:L Vl):MR:=((nI l S.st).1,{S with st:=(nI l S.st).2})
def dX(S:ct)(code:L Nd)(fin:Int)(P:L Vl):ct:={S with fr:=⟨code,0,fin,P⟩::S.fr}
def uG(S:ct)(code:L Nd)(fin:Int)(P:L Vl):ct:={S with fr:=⟨code,code.length,fin,P⟩::S.fr}
def aN(J:L Nd)(i:Nat):Nat:=(Lq (J.getD i uo)).toNat
def aC(J:L Nd)(i:Nat):L Nd:=cI (J.getD i uo)
def aT(J:L Nd)(i:Nat):Ty:=(aP (J.getD i uo)).1
def lV(l:L Vl)(i:Nat):Vl:=l.getD i ou
def Rq(P:Int)(J:L Nd)(l:L Vl)(S:ct):MR :=
 if P=42 then bq S [lV l 0,lV l 1]
 else if P=41 then bq S [lV S.st (aN J 0-1)]
 else if P=43 then(0,{S with st:=lV S.st (aN J 0)::(S.st.take (aN J 0)++S.st.drop (aN J 0+1))})
 else if P=44 then(0,{S with st:=S.st.take (aN J 0)++lV l 0::S.st.drop (aN J 0)})
 else(0,S)
def JG(P:Int)(J:L Nd)(l:L Vl)(S:ct):MR :=
 if P=45 then bq S [(gD (aT J 0) (J.getD 1 uo)).1]
 else if P=46 then bq S [bA (lV l 0) (lV l 1)]
 else if P=50\/P=51 then bq S [.mk 12 (P-50) 0 [] l [] []]
 else if P=53 then bq S [cG [lV l 0]]
 else if P=54 then bq S [cG []]
 else if P=56 then bq S [.mk 10 0 0 [] [] [] []]
 else if P=47 then bq S [lV (eC (lV l 0)) 1,lV (eC (lV l 0)) 0]
 else if P=48 then bq S [lV (eC (lV l 0)) 0]
 else bq S [lV (eC (lV l 0)) 1]
def AB(P:Int)(J:L Nd)(l:L Vl)(S:ct):MR :=
 if P=52 then bq (dX S (aC J (vN (lV l 0)).toNat) 0 []) [lV (eC (lV l 0)) 0]
 else if P=55 then bq (dX S (aC J (min (eC (lV l 0)).length 1)) 0 []) (eC (lV l 0))
 else if P=58 then(match eC (lV l 0)with
  |[]=>(0,dX S (aC J 1) 0 [])
  |x::xs=>bq (dX S (aC J 0) 0 []) [.mk 10 0 0 [] xs [] [],x])
 else if P=60 then(0,uG S (aC J 0) 3 (eC (lV l 0)))
 else if P=64 then(0,dX S (aC J (1-(vN (lV l 0)).toNat)) 0 [])
 else if P=65 then(0,{uG S (aC J 0) 4 []with st:=lV l 0::S.st})
 else if P=68 then(0,dX S (aC J 0) 1 [lV l 0])
 else if P=66 then bq S [.mk 14 0 0 [] [] [aT J 0,aT J 1] (aC J 2)]
 else(0,{dX S (C9 (lV l 1)) 2 S.st.reverse with st:=[lV l 0]})
def JH(P:Int)(J:L Nd)(l:L Vl)(S:ct):MR :=
 if P=57 then(if 24<=(eC (lV l 1)).length then(13,S)else bq S [.mk 10 0 0 [] (lV l 0::eC (lV l 1)) [] []])
 else if P=59 then bq S [aQ 4 ((vS (lV l 0)).length+(eC (lV l 0)).length:Nat)]
 else if P=61 then bq S [.mk 13 0 0 [] [] [] []]
 else if P=62 then(if fB (eC (lV l 1)) (lV l 0)=true then bq S [cG [lV (eC (lV (eC (lV l 1)) (cw (eC (lV l 1)) (lV l 0)))) 1]]else bq S [cG []])
 else
  let m:=eC (lV l 2);let i:=cw m (lV l 0);let x:=if fB m (lV l 0)=true then m.take i++m.drop (i+1)else m
  match eC (lV l 1)with
  |[]=>bq S [.mk 13 0 0 [] x [] []]
  |y::_=>if 24<=x.length then(13,S)else bq S [.mk 13 0 0 [] (x.take i++bA (lV l 0) y::x.drop i) [] []]
def DS(P:Int)(l:L Vl)(S:ct):MR :=
 if P=93 then bq S [aQ 4 (oz (vN (lV l 0))).1]
 else if P=94 then(if vN (lV l 0)<0 then bq S [cG []]else bq S [cG [aQ 4 (vN (lV l 0))]])
 else if P=95 then bq S [aQ 3 (vN (lV l 0))]
 else
  let a:=lV l 0;let b:=lV l 1;let k:=ofM P (vK a) (vK b)
  if P=69 then(if(vg (vN a) (vN b)).2≠0 then((vg (vN a) (vN b)).2,S)else bq S [aQ k (vg (vN a) (vN b)).1])
  else if P=71 then(if(sU (vN a) (vN b)).2≠0 then((sU (vN a) (vN b)).2,S)else bq S [aQ k (sU (vN a) (vN b)).1])
  else if P=70 then(if(kW (vN a) (vN b)).2≠0 then((kW (vN a) (vN b)).2,S)
   else if k=5 then(if(kW (vN a) (vN b)).1<0 then bq S [cG []]else bq S [cG [aQ 5 (kW (vN a) (vN b)).1]])
   else bq S [aQ k (kW (vN a) (vN b)).1])
  else if(iz (vN a) (vN b)).2.2≠0 then bq S [cG []]
  else bq S [cG [bA (aQ (if k=5/\vK b=5 then 4 else k) (iz (vN a) (vN b)).1) (aQ (if k=5 then 5 else 4) (iz (vN a) (vN b)).2.1)]]
def Rr(P:Int)(J:L Nd)(l:L Vl)(S:ct):MR :=
 let a:=lV l 0
 if P=73 then bq S [aQ 3 (dR a (lV l 1))]
 else if P=74\/P=77 then bq S [iZ (decide (vN a=0))]
 else if P=75 then bq S [iZ (decide (vN a<0))]
 else if P=76 then bq S [iZ (decide (vN a>0))]
 else if P=78 then bq S [iZ (decide (vN a=1/\vN (lV l 1)=1))]
 else if P=79 then bq S [iZ (decide (vN a=1\/vN (lV l 1)=1))]
 else if P=80 then(if 200<(vS a).length+(vS (lV l 1)).length then(13,S)else bq S [.mk 6 0 0 (vS a++vS (lV l 1)) [] [] []])
 else if P=81 then(if(vw a).2≠0 then(13,S)else bq S [.mk 6 0 0 (vw a).1 [] [] []])
 else if P=82 then(if(iw (aT J 0) (vS a)).2≠0 then bq S [cG []]else bq S [cG [(iw (aT J 0) (vS a)).1]])
 else(10,{S with said:=a})
def BJ(P:Int)(J:L Nd)(l:L Vl)(S:ct):MR :=
 let a:=lV l 0
 if P=89 then bq S [aQ 7 S.self]
 else if P=90 then bq S [aQ 7 S.iE]
 else if P=91 then bq S [aQ 5 S.iF]
 else if P=92 then bq S [aQ 5 S.balance]
 else if P=84 then(if vN (lV l 1)=0 then bq S [cG []]else if S.az>bN-vN (lV l 1)then(11,S)
  else bq {S with az:=S.az+vN (lV l 1)} [cG [.mk 15 (vN (lV l 1)) S.self [] [a] [] []]])
 else if P=88 then bq S [.mk 8 (vN (lV l 1)) (vN (lV l 2)) [] [a] [aT J 0] []]
 else if P=85 then bq S [a,bA (aQ 7 (xA a)) (bA (lV (eC a) 0) (aQ 4 (vN a)))]
 else if P=86 then
  let n:=vN (lV (eC (lV l 1)) 0);let m:=vN (lV (eC (lV l 1)) 1)
  if n<1\/m<1\/n+m≠vN a then bq S [cG []]
  else bq S [cG [bA (.mk (vK a) n (xA a) (vS a) (eC a) (GX a) (C9 a)) (.mk (vK a) m (xA a) (vS a) (eC a) (GX a) (C9 a))]]
 else
  let x:=lV (eC a) 0;let y:=lV (eC a) 1
  if xA x≠xA y\/dR (lV (eC x) 0) (lV (eC y) 0)≠0 then bq S [cG []]
  else if vN x>bN-vN y then(11,S)
  else bq S [cG [.mk (vK x) (vN x+vN y) (xA x) (vS x) (eC x) (GX x) (C9 x)]]
def zx(P:Int)(J:L Nd)(l:L Vl)(S:ct):MR :=
 if P<=44 then Rq P J l S
 else if P<=56/\P≠52/\P≠55 then JG P J l S
 else if P=52\/P=55\/P=58\/P=60\/64<=P/\P<=68 then AB P J l S
 else if P<=63 then JH P J l S
 else if P<=72\/P>=93 then DS P l S
 else if P<=83 then Rr P J l S
 else BJ P J l S
mutual
def F3:∀(t:Nd)(d:Int),eR t d=0->bM t<=many t*201
 |.mk T n p s J,d,h=>by
  obtain⟨h1,h2⟩:=jT h;have V:=(ni h1).2.2.2.2.2.2.2.2;have S:=Da J _ h2;simp only[bM,many];omega
def Da:∀(l:L Nd)(d:Int),dI l d=0->aU l<=cV l*201
 |[],_,_=>by simp[aU]
 |x::l,d,h=>by
  simp only[dI]at h;by_cases O:eR x d=0
  ·rw[if_pos O]at h;have h1:=F3 x d O;have h2:=Da l d h;simp only[aU,cV];omega
  ·rw[if_neg O]at h;exact absurd h O
end
def zV{n:Nd}(h:dY n=0):bM n<=60300:=by
 obtain⟨h1,h2⟩:=kf.1 h;have:=F3 n 1 h1;omega
def kC{t:Ty}(ok:mV t)(i:Nat):bw (aE t i)<=300:=by
 obtain⟨T,ts⟩:=t;have h2:=ok.2;simp only[bw]at h2;show bw (ts.getD i kX)<=300;rw[afa];cases h:ts[i]? with
 |none=>simp[bw,kX,bz]
 |some x=>have:=cL (aaB h);simp only[agu];omega
def W2{k n a:Int}{s:L UInt8}{J:L Vl}{B:L Ty}{code:L Nd}{t:Ty}(ok:mV t)(h:bL (.mk k n a s J B code) t=true)(V:eP (.mk k n a s J B code)=true):s.length+bz B+aU code+1<=62000:=by
 unfold bL at h;by_cases O:k≠bS t\/cz (.mk k n a s J B code)=false\/200<s.length
 ·rw[if_pos O]at h;cases h
 rw[if_neg O]at h;have Y:cz (.mk k n a s J B code)=true:=by
  cases hq:cz (.mk k n a s J B code)with
  |true=>rfl
  |false=>exact absurd (.inr (.inl hq)) O
 have G:s.length<=200:=by omega
 clear O;by_cases U:k=14
 ·subst U;simp only[eP,if_true,aai]at V;have A:=uz (aeg V.1.1);have D:=zV A.1;simp only[bM,aad]at D;have W:B.length=2/\a=0/\n=0/\s=[]/\J.length=0:=by simpa[cz]using Y
  have C:(dh (aE t 0) (B.getD 0 kX)&&dh (aE t 1) (B.getD 1 kX))=true:=by simpa using h
  simp only[aai]at C;have E:=(gF _ _).1 C.1;have I:=(gF _ _).1 C.2;rcases B with _|⟨u,_|⟨w,_|⟨z,r⟩⟩⟩
  ·simp at W
  ·simp at W
  ·simp only[aaf,aag]at E I;have P:=kC ok 0;have N:=kC ok 1;rw[E]at P;rw[I]at N;simp only[bz];omega
  ·simp at W
 by_cases T:k=8
 ·subst T;have W:B.length=1/\code.length=0/\s=[]:=by simpa[cz]using Y
  have C:bB (B.getD 0 kX)=true:=by
   simp at h;exact h.1.2
  rw[List.length_eq_zero_iff.1 W.2.1];rcases B with _|⟨u,_|⟨w,r⟩⟩
  ·simp at W
  ·have:=(cH C).2;simp only[aaf]at this;simp only[bz,aU];omega
  ·simp at W
 have hq:B.length=0/\code.length=0:=by
  unfold cz at Y;dsimp only at Y;by_cases S:k=15
  ·rw[if_pos S]at Y;have:=aeg Y;exact⟨this.1,this.2.1⟩
  rw[if_neg S,if_neg T,if_neg U]at Y;by_cases Q:k=6
  ·rw[if_pos Q]at Y;have:=aeg Y;exact⟨this.1,this.2.1⟩
  ·rw[if_neg Q]at Y;have:=aeg Y;exact⟨this.1,this.2.1⟩
 rw[List.length_eq_zero_iff.1 hq.1,List.length_eq_zero_iff.1 hq.2];simp only[bz,aU];omega
mutual
def Cn:∀(v:Vl)(t:Ty),mV t->bL v t=true->eP v=true->aM v<=gQ v*62000
 |.mk k n a s J B code,.mk T ts,ok,h,Y=>by
  have K:=A8 J;have S:=A9 J;have Q:J.length=0->aO J<=iP J*62000:=λh=>by rw[List.length_eq_zero_iff.1 h];simp[aO]
  have H:=tH ok;have W:=W2 ok h Y;unfold bL at h;by_cases V:k≠bS (.mk T ts)\/cz (.mk k n a s J B code)=false\/200<s.length
  ·rw[if_pos V]at h;cases h
  rw[if_neg V]at h;have hp:cz (.mk k n a s J B code)=true:=by
   cases hq:cz (.mk k n a s J B code)with
   |true=>rfl
   |false=>exact absurd (.inr (.inl hq)) V
  have hk:k=T:=afe λP=>V (.inl P);subst hk;clear V;have d1:∀{p q:Prop}[Decidable (p/\q)],decide (p/\q)=true->q:=λh=>(aeg h).2
  suffices hs:aO J<=iP J*62000 by
   simp only[aM,gQ]at W ⊢;omega
  by_cases N:k=14
  ·subst N;have BA:B.length=2/\a=0/\n=0/\s=[]/\J.length=0:=by simpa[cz]using hp
   exact Q BA.2.2.2.2
  have U:eg J=true:=by simpa[eP,N]using Y
  replace K:=λt ok h=>K t ok h U;replace S:=λr ok h E=>S r ok h E U;by_cases u:k=1\/k=6
  ·rw[if_pos u]at h;exact Q (aeg h).2
  rw[if_neg u]at h;by_cases D:k=2
  ·rw[if_pos D]at h;exact Q (aeg h).2.2
  rw[if_neg D]at h;by_cases C:k=3
  ·rw[if_pos C]at h;exact Q (aeg h).2.2
  rw[if_neg C]at h;by_cases c4:k=4\/k=5
  ·rw[if_pos c4]at h;exact Q (aeg h).2.2
  rw[if_neg c4]at h;by_cases A:k=7
  ·rw[if_pos A]at h;exact Q (aeg h).2.2
  rw[if_neg A]at h;by_cases M:k=9
  ·rw[if_pos M,aai]at h;subst M;obtain⟨x,rfl,O⟩:=fJ ok bT;exact K x O h.2
  rw[if_neg M]at h;by_cases OI:k=10
  ·rw[if_pos OI,aai]at h;subst OI;obtain⟨x,rfl,O⟩:=fJ ok bT;exact K x O h.2
  rw[if_neg OI]at h;by_cases Tj:k=11
  ·rw[if_pos Tj,aai]at h;subst Tj;have z:=H.1;rw[show arity 11=2 from by decide]at z;exact S ts (λx O=>H.2 x O) h.2 W6
  rw[if_neg Tj]at h;by_cases Tk:k=12
  ·rw[if_pos Tk,aai]at h;subst Tk;obtain⟨x,y,rfl,O,G⟩:=fz ok bT;have hn:=aeg h.1;rcases(show n=0\/n=1 by omega)with rfl|rfl
   ·exact K x O h.2
   ·exact K y G h.2
  rw[if_neg Tk]at h;by_cases Tl:k=13
  ·rw[if_pos Tl,aai,aai]at h;subst Tl;exact K _ (Ap ok bT) h.1.2
  rw[if_neg Tl,if_neg N]at h;by_cases I:k=15
  ·rw[if_pos I,aai]at h;subst I;obtain⟨x,rfl,O⟩:=fJ ok bT;exact K x O h.2
  rw[if_neg I]at h;by_cases c8:k=8
  ·rw[if_pos c8,aai,aai]at h;exact K _ (cH h.1.2) h.2
  rw[if_neg c8]at h;cases h
def A8:∀(l:L Vl)(t:Ty),mV t->aS l t=true->eg l=true->aO l<=iP l*62000
 |[],_,_,_,_=>by simp[aO]
 |x::l,t,ok,h,Y=>by
  simp only[aS,aai]at h;simp only[eg,aai]at Y;have e1:=Cn x t ok h.1 Y.1;have e2:=A8 l t ok h.2 Y.2;simp only[aO,iP];omega
def A9:∀(l:L Vl)(r:L Ty),(∀x∈r,mV x)->dL l r=true->l.length<=r.length->eg l=true->aO l<=iP l*62000
 |[],_,_,_,_,_=>by simp[aO]
 |x::l,[],_,_,h,_=>by simp at h
 |x::l,t::r,ok,h,E,Y=>by
  simp only[dL,aai]at h;simp only[eg,aai]at Y;simp only[aac]at E;have e1:=Cn x t (ok t cS) h.1 Y.1;have e2:=A9 l r (λy G=>ok y adw) h.2 bn Y.2;simp only[aO,iP];omega
end
def BL{v:Vl}{t:Ty}(h:gH t v=true):aM v<=gQ v*62000:=by
 unfold gH nG at h;simp only[aai]at h;exact Cn v t (cH h.1.1) h.1.2 h.2
def sS(f:iJ):CV := .agg [.sl 5 (aH f.code),ag (f.pos:Nat),ag f.fin,.sl 7 (aa f.aside)]
def nU:List iJ->L CV
 |[]=>[]
 |f::l=>sS f::nU l
def xu:∀a b:List iJ,nU (a++b)=nU a++nU b
 |[],_=>rfl
 |f::a,b=>by simp only[adU,nU,xu a b]
def xw:∀l:List iJ,(nU l).length=l.length
 |[]=>rfl
 |f::l=>by simp only[nU,aac,xw l]
def lQ:∀a b:L Vl,aa (a++b)=aa a++aa b
 |[],_=>rfl
 |f::a,b=>by simp only[adU,aa,lQ a b]
def sR(l:L Vl):L CV:=aa l.reverse
def fR(l:List iJ):L CV:=nU l.reverse
def Kh(v:Vl)(l:L Vl):sR (v::l)=sR l++[bH v]:=by simp only[sR,agN,lQ];rfl
def D5(f:iJ)(l:List iJ):fR (f::l)=fR l++[sS f]:=by simp only[fR,agN,xu];rfl
def jC(l:L Vl):(sR l).length=l.length:=by simp only[sR,aG,aaF]
def zW(l:List iJ):(fR l).length=l.length:=by simp only[fR,xw,aaF]
def gZ:∀(l:L Vl),∀r∈aa l,r.cells.length=7
 |[],r,h=>by simp[aa]at h
 |.mk _ _ _ _ _ _ _::l,r,h=>by
  simp only[aa,aeB]at h;rcases h with rfl|h
  ·rfl
  ·exact gZ l r h
def Db:∀(l:List iJ),∀r∈nU l,r.cells.length=4
 |[],r,h=>by simp[nU]at h
 |f::l,r,h=>by
  simp only[nU,aeB]at h;rcases h with rfl|h
  ·rfl
  ·exact Db l r h
def vf(l:L Vl):(bC (sR l)).length=l.length*7:=by rw[dK (rows:=sR l) (s:=7) (gZ _),jC]
def D4(l:List iJ):(bC (fR l)).length=l.length*4:=by rw[dK (rows:=fR l) (s:=4) (Db _),zW]
def mC(S:ct)(a b:Nat):L AV:=[.c (ag S.self),.c (ag S.iE),.c (ag S.iF),.c (ag S.balance),.gS a 0 7 S.st.length,.gS b 0 4 S.fr.length,.c (ag S.cC),.c (ag S.used),.c (ag S.az),
 .c (ag (vK S.said)),.c (ag (vN S.said)),.c (ag (xA S.said)),.c (.str (vS S.said)),.c (.sl 7 (aa (eC S.said))),.c (.sl 2 (aA (GX S.said))),.c (.sl 5 (aH (C9 S.said)))]
def F4(S:ct):MC (mC S):=⟨λρ ts a b A O h1 h2=>⟨_,_,Z,.inl Z,_,_,Z,.inl Z,_,_,Z,.inl Z,_,_,Z,.inl Z,_,_,Z,⟨_,h1,Z⟩,_,_,Z,⟨_,h2,Z⟩,_,_,Z,.inl Z,_,_,Z,.inl Z,_,_,Z,.inl Z,
  _,_,Z,.inl Z,_,_,Z,.inl Z,_,_,Z,.inl Z,_,_,Z,.inl Z,_,_,Z,.inl Z,_,_,Z,.inl Z,_,_,Z,.inl Z,Z⟩,λ_ _ _=>rfl,λus a b h1 h2=>by simp only[mC,sJ,LP,both,h1,h2]⟩
def OJ(S:ct)(_ b:Nat):L AV:=[.c (ag S.self),.c (ag S.iE),.c (ag S.iF),.c (ag S.balance),.c (.sl 7 (sR S.st)),.gS b 0 4 S.fr.length,.c (ag S.cC),.c (ag S.used),.c (ag S.az),
 .c (ag (vK S.said)),.c (ag (vN S.said)),.c (ag (xA S.said)),.c (.str (vS S.said)),.c (.sl 7 (aa (eC S.said))),.c (.sl 2 (aA (GX S.said))),.c (.sl 5 (aH (C9 S.said)))]
def F5(S:ct):∀(ρ:Ren)(ts:L (Nat×Nat))(b O:Nat),ρ.bx b=some O->eF ρ ts (OJ S 0 b) (OJ S 0 O):=λρ ts b O h2=>⟨_,_,rfl,.inl rfl,_,_,rfl,.inl rfl,_,_,rfl,.inl rfl,_,_,rfl,.inl rfl,_,_,rfl,.inl rfl,_,_,rfl,⟨_,h2,rfl⟩,_,_,rfl,.inl rfl,_,_,rfl,.inl rfl,_,_,rfl,.inl rfl,
  _,_,Z,.inl Z,_,_,Z,.inl Z,_,_,Z,.inl Z,_,_,Z,.inl Z,_,_,Z,.inl Z,_,_,Z,.inl Z,_,_,Z,.inl Z,Z⟩
def IM(S:ct):∀(us:L Nat)(b:Nat),mem b us=true->sJ us (OJ S 0 b)=true:=λus b h=>by simp only[OJ,sJ,LP,both,h]
def W3(S:ct):MC (OJ S):=⟨λρ ts a b A O _ h2=>F5 S ρ ts b O h2,λ_ _ _=>rfl,λus a b _ h2=>IM S us b h2⟩
def cJ(f:FuncId)(S:ct)(J:L AV)(r:CV)(u:ct):Prop :=
 qE f (mI (mC S) (bC (sR S.st)) (bC (fR S.fr))) (.ptr 1000000 0::J) (.c r) (mO (mC u) (bC (sR u.st)) (bC (fR u.fr)))
abbrev je(f:FuncId)(S:ct)(J:L AV)(o:Int×ct):Prop:=cJ f S J (ag o.1) o.2
def Km(f:FuncId)(S:ct)(J:L AV)(r:CV)(u:ct):Prop :=
 qE f (mI1 (OJ S) (bC (fR S.fr))) (.ptr 1000000 0::J) (.c r) (mO1 (OJ u) (bC (fR u.fr)))
def W4{f:FuncId}{n:Nat}{β:jZ}{K:L Item}(W:(∃V,K = .code .ret::V)\/K=[]){env:Env}{S:Func}(hf:Tryz.prog.funcs[f]?=some S){bs:L (Nat×L AV)}{ts:L (Nat×Nat)}{us:L Nat}{l:L AV}(C:qF Tryz.X bs env S.results.toList=some l)
  {v:CV}(M:close (yK l)=some v){u:ct}{a b:Nat}{cells Y P:L AV}(h1:an 1000000 bs=some cells)(I:cells=mC u a b)(h2:an a bs=some Y)(q:Y=ak (sR u.st))(U:an b bs=some P)(G:P=ak (fR u.fr))(O:Go.cK.distinct [1000000,a,b]=true){r:CV}(B:v=r) :
  Av f n β (HR β (.c r) (mO (mC u) (bC (sR u.st)) (bC (fR u.fr)))) K env ⟨bs,ts,us⟩:=by
 subst I q G B;refine AK.FR W hX hf C [(1000000,1000000),(999991,a),(999992,b)] ?_ (.inr M) ⟨⟨_,_,Z,h1,(F4 u).conv _ _ _ _ _ _ Z Z⟩,⟨_,_,Z,h2,cN _⟩,⟨_,_,Z,U,cN _⟩,trivial⟩;unfold tr;rw[show([(1000000,1000000),(999991,a),(999992,b)]:L (Nat×Nat)).map (·.2)=[1000000,a,b]from Z,O];rfl
def Vx{f:FuncId}{n:Nat}{β:jZ}{K:L Item}{env:Env}{S:Func}(hf:Tryz.prog.funcs[f]?=some S){bs:L (Nat×L AV)}{ts:L (Nat×Nat)}{us:L Nat}{l:L AV}(C:qF Tryz.X bs env S.results.toList=some l)
  {v:CV}(M:close (yK l)=some v){u:ct}{a b:Nat}{cells Y P:L AV}(h1:an 1000000 bs=some cells)(I:cells=mC u a b)(h2:an a bs=some Y)(W:Y=ak (sR u.st))(V:an b bs=some P)(G:P=ak (fR u.fr))(O:Go.cK.distinct [1000000,a,b]=true){r:CV}(B:v=r) :
  Av f n β (HR β (.c r) (mO (mC u) (bC (sR u.st)) (bC (fR u.fr)))) (.code .ret::K) env ⟨bs,ts,us⟩ :=
 W4 (.inl ⟨_,Z⟩) hf C M h1 I h2 W V G O B
def aaX{f:FuncId}{n:Nat}{β:jZ}{env:Env}{S:Func}(hf:Tryz.prog.funcs[f]?=some S){bs:L (Nat×L AV)}{ts:L (Nat×Nat)}{us:L Nat}{l:L AV}(C:qF Tryz.X bs env S.results.toList=some l)
  {v:CV}(M:close (yK l)=some v){u:ct}{a b:Nat}{cells Y P:L AV}(h1:an 1000000 bs=some cells)(I:cells=mC u a b)(h2:an a bs=some Y)(W:Y=ak (sR u.st))(V:an b bs=some P)(G:P=ak (fR u.fr))(O:Go.cK.distinct [1000000,a,b]=true){r:CV}(B:v=r) :
  Av f n β (HR β (.c r) (mO (mC u) (bC (sR u.st)) (bC (fR u.fr)))) [] env ⟨bs,ts,us⟩ :=
 W4 (.inr Z) hf C M h1 I h2 W V G O B
def ad8{f:FuncId}{n:Nat}{β:jZ}{env:Env}{S:Func}(hf:Tryz.prog.funcs[f]?=some S){bs:L (Nat×L AV)}{ts:L (Nat×Nat)}{us:L Nat}{l:L AV}(C:qF Tryz.X bs env S.results.toList=some l)
  {v:CV}(M:close (yK l)=some v){u:ct}{b:Nat}{cells P:L AV}(h1:an 1000000 bs=some cells)(I:cells=OJ u 0 b)(V:an b bs=some P)(Y:P=ak (fR u.fr))(O:Go.cK.distinct [1000000,b]=true){r:CV}(B:v=r) :
  Av f n β (HR β (.c r) (mO1 (OJ u) (bC (fR u.fr)))) [] env ⟨bs,ts,us⟩:=by
 subst I Y B;refine AK.FR (.inr Z) hX hf C [(1000000,1000000),(999992,b)] ?_ (.inr M) ⟨⟨_,_,Z,h1,F5 u _ _ _ _ Z⟩,⟨_,_,Z,V,cN _⟩,trivial⟩;unfold tr;rw[show([(1000000,1000000),(999992,b)]:L (Nat×Nat)).map (·.2)=[1000000,b]from Z,O];rfl
def uM{ops:Array Oper}{o:Oper}{rest:L Oper}{env:Env}{acc:L Fp}{Q:Env->St->L Fp->Prop}{bs:L (Nat×L AV)}{ts:L (Nat×Nat)}{us:L Nat}(G:dj ops.toList kn env o=some true){f:FuncId}{args:Array Operand}{K:Array TypeId}(C:o.op = .call {callee := .value (.func f),args:=args,argTypes:=K})
  {S u:ct}{W:L AV}{r:CV}(hq:cJ f S W r u){d:Nat}(O:o.dst=some d)
  {l:L AV}(E:gE (aK Tryz.X env) args.toList=some l){km:Nat}{J:L AV}(Y:l = .ptr km 0::J){N fk:Nat}{p V P:L AV}(h1:an km bs=some p)(I:p=mC S N fk)(h2:an N bs=some V)(q:V=ak (sR S.st))(U:an fk bs=some P)(T:P=ak (fR S.fr))
  (M:∀ts,eF ⟨λk=>an k [(1000000,km),(1000001,N),(1000002,fk)],λ_=>none⟩ ts W J)(A:xh us km N fk (100000+d) (200000+d)=true)
  {bs':L (Nat×L AV)}(H:kD [km,N,fk] bs=bs')
  (k:lI ops rest ((d,.c r)::env) ⟨(km,mC u (100000+d) (200000+d))::(100000+d,ak (sR u.st))::(200000+d,ak (fR u.fr))::bs',ts,km::(100000+d)::(200000+d)::us⟩ (⟨[],[km,N,fk,km,100000+d,200000+d,km,100000+d,200000+d]⟩::acc) Q):lI ops (o::rest) env ⟨bs,ts,us⟩ acc Q:=by
 subst Y;exact af.adW kn G C hq (F4 S) (F4 u) O E Z h1 I h2 q U T (λts=>⟨_,_,Z,⟨_,fe,Z⟩,M ts⟩) A Z Z H k
def uM1{ops:Array Oper}{o:Oper}{rest:L Oper}{env:Env}{acc:L Fp}{Q:Env->St->L Fp->Prop}{bs:L (Nat×L AV)}{ts:L (Nat×Nat)}{us:L Nat}(G:dj ops.toList kn env o=some true){f:FuncId}{args:Array Operand}{K:Array TypeId}(C:o.op = .call {callee := .value (.func f),args:=args,argTypes:=K})
  {S u:ct}{W:L AV}{r:CV}(hq:Km f S W r u){d:Nat}(O:o.dst=some d)
  {l:L AV}(E:gE (aK Tryz.X env) args.toList=some l){km:Nat}{J:L AV}(Y:l = .ptr km 0::J){fk:Nat}{p P:L AV}(h1:an km bs=some p)(I:p=OJ S 0 fk)(V:an fk bs=some P)(U:P=ak (fR S.fr))
  (T:∀ts,eF ⟨λk=>an k [(1000000,km),(1000002,fk)],λ_=>none⟩ ts W J)(A:yj us km fk (200000+d)=true)
  {bs':L (Nat×L AV)}(N:kD [km,fk] bs=bs')
  (k:lI ops rest ((d,.c r)::env) ⟨(km,OJ u 0 (200000+d))::(200000+d,ak (fR u.fr))::bs',ts,km::(200000+d)::us⟩ (⟨[],[km,fk,km,200000+d,km,200000+d]⟩::acc) Q):lI ops (o::rest) env ⟨bs,ts,us⟩ acc Q:=by
 subst Y;exact af.abF kn G C hq (W3 S) (W3 u) (F5 S) (IM u) (λ_ _=>rfl) O E Z h1 I V U (λts=>⟨_,_,Z,⟨_,fe,Z⟩,T ts⟩) A Z Z N k
def GZ{ρ:Ren}{ts:L (Nat×Nat)}{v:CV}{a:AV}{l m:L AV}(h:close a=some v)(C:eF ρ ts l m):eF ρ ts (.c v::l) (a::m):=⟨_,_,Z,.inr h,C⟩
def G0{ρ:Ren}{ts:L (Nat×Nat)}{k k' o:Nat}{l m:L AV}(h:ρ.bx k=some k')(C:eF ρ ts l m):eF ρ ts (.ptr k o::l) (.ptr k' o::m):=⟨_,_,Z,⟨_,h,Z⟩,C⟩
def abI{ops:Array Oper}{o:Oper}{rest:L Oper}{env:Env}{acc:L Fp}{Q:Env->St->L Fp->Prop}{bs:L (Nat×L AV)}{ts:L (Nat×Nat)}{us:L Nat}{f:FuncId}{args:Array Operand}{K:Array TypeId}{S u:ct}{W:L AV}{r:CV}{d:Nat}{l:L AV}{km:Nat}{J:L AV}{fk:Nat}{p P:L AV}{bs':L (Nat×L AV)}(k:lI ops rest ((d,.c r)::env) ⟨(km,OJ u 0 (200000+d))::(200000+d,ak (fR u.fr))::bs',ts,km::(200000+d)::us⟩ (⟨[],[km,fk,km,200000+d,km,200000+d]⟩::acc) Q)(G:dj ops.toList kn env o=some true:=by exact rfl)(C:o.op = .call {callee := .value (.func f),args:=args,argTypes:=K}:=by exact rfl)(hq:Km f S W r u:=by assumption)(O:o.dst=some d:=by exact rfl)(E:gE (aK Tryz.X env) args.toList=some l:=by exact rfl)(Y:l = .ptr km 0::J:=by exact rfl)(h1:an km bs=some p:=by exact rfl)(I:p=OJ S 0 fk:=by exact rfl)(V:an fk bs=some P:=by exact rfl)(U:P=ak (fR S.fr):=by exact rfl)(T:∀ts,eF ⟨λk=>an k [(1000000,km),(1000002,fk)],λ_=>none⟩ ts W J:=by intro _;repeat' (first|exact rfl|refine GZ rfl ?_|refine G0 rfl ?_))(A:yj us km fk (200000+d)=true:=by exact rfl)(N:kD [km,fk] bs=bs':=by exact rfl): lI ops (o::rest) env ⟨bs,ts,us⟩ acc Q:=uM1 G C hq O E Y h1 I V U T A N k
def JC:Nat->L AV->Env
 |_,[]=>[]
 |i,c::l=>(i,c)::JC (i+1) l
def DQ:∀(i:Nat)(l:L AV),JC i l=((l.zipIdx i).map λ(v,i)=>(i,v))
 |_,[]=>rfl
 |i,c::l=>by simp only[JC,afx,aed,DQ (i+1) l]
def mn{f:FuncId}{T:Func}{c:Code}{S u:ct}{J:L AV}{r:CV}{env:Env}(hf:Tryz.prog.funcs[f]?=some T)(B:Enters Tryz.prog f)(k:∀β,Tryz.prog.funcs[f]?=some T->Av f T.ntmps β (HR β (.c r) (mO (mC u) (bC (sR u.st)) (bC (fR u.fr)))) [.code c] env ⟨[(1000000,mC S 1000001 1000002),(1000001,ak (sR S.st)),(1000002,ak (fR S.fr))],[],[1000000,1000001,1000002]⟩)(Q:T.body=some c:=by exact rfl)(V:(AV.ptr 1000000 0::J).length<=T.ntmps:=by exact aep rfl)(q:JC 0 (AV.ptr 1000000 0::J)=env:=by simp only[JC];try exact rfl):cJ f S J r u:=cP.of hf Q B V env _ (by rw[<- q,DQ]) rfl λβ=>k β hf
def dm{p:Prop}(h:p:=by(repeat' (first|refine st ?_|(refine AK.CH Z (λh=>?_) (λh=>?_)<;>first|(cases h;done)|rw[h]|skip)|refine AK.qA Z ?_ ?_|refine uC Z (by assumption) ?_|refine uI Z _ Z (by assumption) Z ?_|refine uI Z 0 Z (by assumption) Z ?_|refine uI Z 1 Z (by assumption) Z ?_|refine uI Z 0 Z Z Z ?_|refine uI Z 1 Z Z Z ?_|refine uI Z 2 Z Z Z ?_|refine uI Z 3 Z Z Z ?_|refine ve ?_|refine abI ?_|(first|refine af.quo hX kn Z Z Z Z Z Z Z ((by decide)) ?_|refine af.rem hX kn Z Z Z Z Z Z Z ((by decide)) ?_)|(refine uA Z ?_ ?_<;>(try (show(_:Nat)*_<=_;dsimp only)))|refine af.toStr hX kn Z Z Z Z Z Z Z Z Z Z Z (by first|exact Z|exact yT _) Z ?_|((first|refine af.pM Z Z Z ED (λh=>?_)|refine af.pN Z Z Z ED (λh=>?_)|refine af.split Z Z Z (λh=>?_) (λh=>?_))<;>(fail_if_success (cases h;done))<;>rw[h])|refine Vx hf Z Z Z Z Z Z Z Z Z ?_|refine aaX hf Z Z Z Z Z Z Z Z Z ?_))<;>rfl):p:=h
def dnm{p q:Prop}(k:q)(h:q->p:=by intro k;(repeat' (first|refine st ?_|(refine AK.CH Z (λh=>?_) (λh=>?_)<;>first|(cases h;done)|rw[h]|skip)|refine AK.qA Z ?_ ?_|refine uC Z (by assumption) ?_|refine uI Z _ Z (by assumption) Z ?_|refine uI Z 0 Z (by assumption) Z ?_|refine uI Z 1 Z (by assumption) Z ?_|refine uI Z 0 Z Z Z ?_|refine uI Z 1 Z Z Z ?_|refine uI Z 2 Z Z Z ?_|refine uI Z 3 Z Z Z ?_|refine ve ?_|refine abI ?_|(first|refine af.quo hX kn Z Z Z Z Z Z Z ((by decide)) ?_|refine af.rem hX kn Z Z Z Z Z Z Z ((by decide)) ?_)|(refine uA Z ?_ ?_<;>(try (show(_:Nat)*_<=_;dsimp only)))|refine af.toStr hX kn Z Z Z Z Z Z Z Z Z Z Z (by first|exact Z|exact yT _) Z ?_|((first|refine af.pM Z Z Z ED (λh=>?_)|refine af.pN Z Z Z ED (λh=>?_)|refine af.split Z Z Z (λh=>?_) (λh=>?_))<;>(fail_if_success (cases h;done))<;>rw[h])|refine Vx hf Z Z Z Z Z Z Z Z Z ?_|refine aaX hf Z Z Z Z Z Z Z Z Z ?_))<;>first|exact Z|exact k):p:=h k
def ve{ops:Array Oper}{o:Oper}{rest:L Oper}{env:Env}{acc:L Fp}{Q:Env->St->L Fp->Prop}{bs:L (Nat×L AV)}{ts:L (Nat×Nat)}{us:L Nat}{f:FuncId}{args:Array Operand}{K:Array TypeId}{S u:ct}{W:L AV}{r:CV}{d:Nat}{l:L AV}{km:Nat}{J:L AV}{N fk:Nat}{p V P:L AV}{bs':L (Nat×L AV)}(k:lI ops rest ((d,.c r)::env) ⟨(km,mC u (100000+d) (200000+d))::(100000+d,ak (sR u.st))::(200000+d,ak (fR u.fr))::bs',ts,km::(100000+d)::(200000+d)::us⟩ (⟨[],[km,N,fk,km,100000+d,200000+d,km,100000+d,200000+d]⟩::acc) Q)(G:dj ops.toList kn env o=some true:=by exact rfl)(C:o.op = .call {callee := .value (.func f),args:=args,argTypes:=K}:=by exact rfl)(hq:cJ f S W r u:=by assumption)(O:o.dst=some d:=by exact rfl)(E:gE (aK Tryz.X env) args.toList=some l:=by exact rfl)(Y:l = .ptr km 0::J:=by exact rfl)(h1:an km bs=some p:=by exact rfl)(I:p=mC S N fk:=by exact rfl)(h2:an N bs=some V:=by exact rfl)(q:V=ak (sR S.st):=by exact rfl)(U:an fk bs=some P:=by exact rfl)(T:P=ak (fR S.fr):=by exact rfl)(M:∀ts,eF ⟨λk=>an k [(1000000,km),(1000001,N),(1000002,fk)],λ_=>none⟩ ts W J:=by intro _;repeat' (first|exact rfl|refine GZ rfl ?_|refine G0 rfl ?_))(A:xh us km N fk (100000+d) (200000+d)=true:=by exact rfl)(H:kD [km,N,fk] bs=bs':=by exact rfl): lI ops (o::rest) env ⟨bs,ts,us⟩ acc Q:=uM G C hq O E Y h1 I h2 q U T M A H k
def Kn(k n a:Int)(s:L UInt8)(J:L Vl)(B:L Ty)(code:L Nd)(t:L Vl):eu (0+t.length*7) (ak (sR (.mk k n a s J B code::t))) =
  some [.c (ag k),.c (ag n),.c (ag a),.c (.str s),.c (.sl 7 (aa J)),.c (.sl 2 (aA B)),.c (.sl 5 (aH code))]:=by
 rw[Kh,ak,dS,aeC,aeq,<- vf,<- aeA (f:=AV.c),jj];rfl
def zX(f:iJ)(t:List iJ):eu (0+t.length*4) (ak (fR (f::t)))=some [.c (.sl 5 (aH f.code)),.c (ag (f.pos:Nat)),.c (ag f.fin),.c (.sl 7 (aa f.aside))]:=by
 rw[D5,ak,dS,aeC,aeq,<- D4,<- aeA (f:=AV.c),jj];rfl
def F6(v:Vl)(t:L Vl):ak (sR (v::t))=ak (sR t)++ak [bH v]:=by rw[Kh,ak,dS,aeC]
def mM(f:iJ)(t:List iJ):ak (fR (f::t))=ak (fR t)++ak [sS f]:=by rw[D5,ak,dS,aeC]
def P5(k n a:Int)(s:L UInt8)(J:L Vl)(B:L Ty)(code:L Nd)(t:L Vl)(z:CV)(D:z.cells.length=7):bV (0+t.length*7) [.c (ag k),.c (ag n),.c (ag a),.c (.str s),.c (.sl 7 (aa J)),.c (.sl 2 (aA B)),.c (.sl 5 (aH code))] (ak (sR t++[z])) =
  some (ak (sR (.mk k n a s J B code::t))):=by
 rw[F6,ak,dS,aeC,aeq,<- vf,<- aeA (f:=AV.c)];have Y:∀(p x y:L AV),x.length=y.length->bV p.length x (p++y)=some (p++x):=by
  intro p x y h
  induction p with
  |nil=>exact wP x y h
  |cons q p W =>
   cases x with
   |nil=>cases y with
    |nil=>simp only[aac,adU,bV]
    |cons _ _=>simp at h
   |cons V x=>simp only[aac,adU,bV,W]
 exact Y _ _ _ (by simp only[bC,aec,aeA,D];rfl)
def Ko(us:L Nat):∀l:L CV,o9 us (l.map AV.c)=true
 |[]=>rfl
 |c::l=>by simp only[aed,o9,HQ];exact Ko us l
def RQ{us:L Nat}{k:Nat}{a:L AV}{l:L (Nat×L AV)}(h1:mem k us=true)(h2:o9 us a=true)(V:okB us l=true):okB us ((k,a)::l)=true:=by
 simp only[okB,h1,h2];exact V
def abK(S:ct){us:L Nat}{a b:Nat}(h1:mem a us=true)(h2:mem b us=true):o9 us (mC S a b)=true:=by simp only[mC,o9,HQ,h1,h2]
def abL(S:ct){us:L Nat}{km a b:Nat}(Q:mem km us=true)(h1:mem a us=true)(h2:mem b us=true):okB us [(km,mC S a b),(a,ak (sR S.st)),(b,ak (fR S.fr))]=true :=
 RQ Q (abK S h1 h2) (RQ h1 (Ko _ _) (RQ h2 (Ko _ _) Z))
def cvB{S:ct}{bx:L (Nat×Nat)}{tk:L (Nat×(Nat×Option Nat))}{ts:L (Nat×Nat)}{bs:L (Nat×L AV)}{km a b Y A O:Nat}{p W P:L AV}(Q:an km bx=some Y)(h1:an a bx=some A)(h2:an b bx=some O)(U:an Y bs=some p)(D:p=mC S A O)(I:an A bs=some W)(q1:W=ak (sR S.st))(q:an O bs=some P)(V:P=ak (fR S.fr)) :
  ID ⟨λk=>an k bx,λk=>an k tk⟩ ts bs [(km,mC S a b),(a,ak (sR S.st)),(b,ak (fR S.fr))]:=by
 subst D q1 V;exact⟨⟨_,_,Q,U,(F4 S).conv _ _ _ _ _ _ h1 h2⟩,⟨_,_,h1,I,cN _⟩,⟨_,_,h2,q,cN _⟩,trivial⟩
attribute [local irreducible] AK af bg cn cP
def abM(S:ct)(h:S.cC<=S.used):cJ 57 S [] (ag 12) S:=by
 have A:decide (S.used>=S.cC)=true:=aak h;refine mn func57 call57 λβ hf=>?_;exact dm
def abN(S:ct)(h:S.used<S.cC)(h1:Rh S.cC)(h2:0<=S.used):cJ 57 S [] (ag 0) {S with used:=S.used+1}:=by
 have A:decide (S.used>=S.cC)=false:=aap bn;have N:i64.wrap (S.used+1)=S.used+1:=iy bn (by have:=h1.2;omega);refine mn func57 call57 λβ hf=>?_
 repeat' (first|refine om ?_|refine zc ?_ ?_|(intro h;first|(cases h;done)|rw[h]|skip))
 rw[N];exact Vx hf Z Z Z Z Z Z Z Z Z Z
def Zj(S:ct)(h:S.st=[]):cJ 88 S [] (.eY [bH ou,.bool false]) S:=by
 obtain⟨a,b,c,d,st,H,g,u,m,U⟩:=S;simp only at h;subst h;have A:decide (i64.wrap (((([]:L Vl).length:Nat):Int)-1)<0)=true:=by decide
 refine mn func88 call88 λβ hf=>?_;exact dm
def W5(S:ct)(v:Vl)(t:L Vl)(h:S.st=v::t)(E:t.length<=1099511627776):cJ 88 S [] (.eY [bH v,.bool true]) {S with st:=t}:=by
 obtain⟨a,b,c,d,st,H,g,u,m,U⟩:=S;simp only at h;subst h;have N:i64.wrap ((((v::t).length:Nat):Int)-1)=(t.length:Nat):=by
  rw[iy dG dG];simp only[aac];omega
 have A:decide (i64.wrap ((((v::t).length:Nat):Int)-1)<0)=false:=by rw[N];exact aap bn
 obtain⟨k,n,Y,s,J,B,code⟩:=v;have W:=Kn k n Y s J B code t;refine mn func88 call88 λβ hf=>?_
 repeat' (first|refine om ?_|refine zc ?_ ?_|(intro h;first|(cases h;done)|rw[h]|skip)|refine af.jV hX kn Z Z Z Z Z Z Z Z Z t.length N (aeJ _) ?_|refine af.dD hX kn Z Z Z Z Z Z W Z ?_|refine af.D2 hX kn Z Z Z Z Z Z Z Z Z Z Z Z t.length N (ago _) ?_)
 refine AK.xj 1000001 (ak (sR t)) _ Z (F6 _ _) Z ?_;exact Vx hf Z Z Z Z Z Z Z Z Z Z
def xm(S:ct)(code:L Nd)(fin:Int)(P:L Vl)(E:S.fr.length<=1099511627776):cJ 56 S [.c (.sl 5 (aH code)),.c (ag fin),.c (.sl 7 (aa P))] .undef {S with fr:=⟨code,0,fin,P⟩::S.fr}:=by
 refine mn func56 call56 λβ hf=>?_
 repeat' (first|refine om ?_|refine af.mR hX kn Z Z Z Z Z Z Z Z Z Z Z Z Z Z Z (fR S.fr) [] (aec _).symm (zW _).symm (D4 _) Z Z Z Z Z Z Z (show((fR S.fr).length+1)*64<=_ by rw[zW];omega) (D5 ⟨code,0,fin,P⟩ S.fr).symm (zW _) Z ?_|(refine uA Z ?_ ?_<;>(try (show(_:Nat)*_<=_;dsimp only))))
 all_goals rfl
def Kl(S:ct)(code:L Nd)(fin:Int)(P:L Vl)(E:S.fr.length<=1099511627776):Km 56 S [.c (.sl 5 (aH code)),.c (ag fin),.c (.sl 7 (aa P))] .undef {S with fr:=⟨code,0,fin,P⟩::S.fr}:=by
 refine cP.of func56 Z (λJ w=>call56 J w) (aep Z) [(0,.ptr 1000000 0),(1,.c (.sl 5 (aH code))),(2,.c (ag fin)),(3,.c (.sl 7 (aa P)))] ⟨[(1000000,OJ (S) 0 1000002),(1000002,ak (fR (S).fr))],[],[1000000,1000002]⟩ Z Z λβ=>?_;have hf:=func56
 repeat' (first|refine om ?_|refine af.mR hX kn Z Z Z Z Z Z Z Z Z Z Z Z Z Z Z (fR S.fr) [] (aec _).symm (zW _).symm (D4 _) Z Z Z Z Z Z Z (show((fR S.fr).length+1)*64<=_ by rw[zW];omega) (D5 ⟨code,0,fin,P⟩ S.fr).symm (zW _) Z ?_|(refine uA Z ?_ ?_<;>(try (show(_:Nat)*_<=_;dsimp only))))
 exact ad8 hf Z Z Z Z Z Z Z Z
end Go.Proofs
namespace Go.Proofs
open Go.cK
attribute [local irreducible] AK af bg cn cP
def P8(S:ct)(n:Nat)(O:n<=3)(E:S.st.length<=1099511627776):cJ 89 S [.c (ag (n:Nat))] (match jS n S.st with|some (l,_) => .eY [.sl 7 (aa l),.bool true]|none => .eY [.sl 0 [],.bool false]) {S with st:=match jS n S.st with|some (_,r)=>r|none=>[]}:=by
 generalize u:jS n S.st=res;refine mn func89 call89 λβ hf=>?_;refine dnm ?_;refine AK.fV [(1000000,1000000),(3001,1000001),(3002,1000002)] [(3006,(0,none))] (env':=[(0,.ptr 1000000 0),(9,.c (ag (n:Nat))),(10,.c (ag (([]:L Vl).length:Nat))),(6,.own (.tok 3006 0) 7 (aa []))])
  (bs':=[(1000000,mC {S with st:=S.st} 3001 3002),(3001,ak (sR S.st)),(3002,ak (fR S.fr))]) (ts':=[(3006,0)]) (us':=[1000000,3001,3002,3006])
  ce  (cvB Z Z Z Z Z Z Z Z Z) Z ?_
 refine AK.eL (α:=L Vl×L Vl) (λz=>res=(jS (n-z.1.length) z.2).map (λq=>(z.1++q.1,q.2))/\z.1.length<=n/\z.2.length<=1099511627776) (λz=>n-z.1.length)
  (λz=>[(0,.ptr 1000000 0),(9,.c (ag (n:Nat))),(10,.c (ag (z.1.length:Nat))),(6,.own (.tok 3006 0) 7 (aa z.1))])
  (λz=>[(1000000,mC {S with st:=z.2} 3001 3002),(3001,ak (sR z.2)),(3002,ak (fR S.fr))]) (λ_=>[(3006,0)]) [1000000,3001,3002,3006] ([],S.st)
  ⟨by rw[<- u];simp only[aad,ahp,aeU];cases jS n S.st<;>rfl,aeE _,E⟩ ⟨.inl rfl,.inl rfl,.inl rfl,.inl rfl,trivial⟩ ⟨rfl,rfl,rfl,trivial⟩ ⟨rfl,trivial⟩ rfl (abL {S with st:=S.st} rfl rfl rfl) rfl ?_
 rintro⟨l,s⟩ ⟨h1,h2,V⟩ ih;simp only at h1 h2 V;by_cases H:l.length=n
 ·have Q:decide (((l.length:Nat):Int)<((n:Nat):Int))=false:=aap bn;have C:res=some (l,s):=by rw[h1,H,Nat.sub_self];simp[jS]
  rw[C];clear ih;exact dm
 ·have Q:decide (((l.length:Nat):Int)<((n:Nat):Int))=true:=aak bn;obtain⟨m,T⟩:∃m,n-l.length=m+1:=⟨n-l.length-1,bn⟩
  cases s with
  |nil =>
   have C:res=none:=by rw[h1,T];simp[jS]
   rw[C];clear ih;have M:=Zj {S with st:=[]} rfl;exact dm
  |cons v t =>
   simp only[aac]at V;have N:i64.wrap (((l.length:Nat):Int)+1)=((l++[v]).length:Nat):=by
    rw[iy bn bn];simp only[aaz,aac,aad];omega
   have C:res=(jS (n-(l++[v]).length) t).map (λq=>(l++[v]++q.1,q.2)):=by
    rw[h1,T,show n-(l++[v]).length=m from by simp only[aaz,aac,aad];omega];simp only[jS];cases jS m t<;>simp
   have P:(l++[v]).length<=n:=by simp only[aaz,aac,aad];omega
   have W:aa l++[bH v]=aa (l++[v]):=(lQ l [v]).symm;have I:=aG l;obtain⟨k,A,U,Y,J,B,code⟩:=v
   repeat' (first|refine om ?_|refine zc ?_ ?_|(intro h;first|(cases h;done)|rw[h]|skip)|refine ve ?_ (hq:=W5 {S with st := .mk k A U Y J B code::t} _ _ rfl bn)|(refine uA rfl ?_ ?_<;>(try (show(_:Nat)*_<=_;dsimp only))))
   ·show(_:Nat)<=_;simp only[aac,aad];omega
   ·refine AK.fV [(1000000,1000000),(3001,100014),(3002,200014)] [(3006,(0,some 3006))] (env':=[(0,.ptr 1000000 0),(9,.c (ag (n:Nat))),(10,.c (ag ((l++[Vl.mk k A U Y J B code]).length:Nat))),(6,.own (.tok 3006 0) 7 (aa (l++[Vl.mk k A U Y J B code])))])
     (bs':=[(1000000,mC {S with st:=t} 3001 3002),(3001,ak (sR t)),(3002,ak (fR S.fr))]) (ts':=[(3006,0)]) (us':=[1000000,3001,3002,3006])
     ⟨⟨_,Z,⟨_,Z,Z⟩⟩,⟨_,Z,.inl Z⟩,⟨_,Z,.inl (aeb (λz=>AV.c (.int .i64 z)) N)⟩,⟨_,Z,⟨_,Z,.inr ⟨_,_,Z,Z,by rw[<- W];rfl⟩⟩⟩,trivial⟩ (cvB Z Z Z Z Z Z Z Z Z) Z ?_
    exact ih (l++[Vl.mk k A U Y J B code],t) ⟨C,P,by show t.length<=_;omega⟩ (by show n-(l++[_]).length<n-l.length;simp only[aaz,aac,aad];omega)
end Go.Proofs
