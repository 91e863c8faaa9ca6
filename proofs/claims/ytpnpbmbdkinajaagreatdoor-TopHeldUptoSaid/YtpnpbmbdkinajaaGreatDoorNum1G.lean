/- A part of the proof. -/
import Derived.Test.YtpnpbmbdkinajaaGreatDoorHeadG
import Derived.Test.YtpnpbmbdkinajaaGreatDoorVRefG
import Derived.JoinedCond
set_option linter.all false
set_option maxHeartbeats 0
set_option maxRecDepth 100000
open Go.IntKind Go.Proofs.Tryz
namespace Go.Proofs
open Go.cE
attribute [local irreducible] AK ag aZ
def yE(n:Int):Bool:=decide (n >= -1152921504606846976)&&decide (n<=1152921504606846976)
def pU(n:Int):Int×Int:=if yE n=true then(if n<0 then -n else n,0)else(0,2)
def nP(n:Int):Int×Int:=if yE n=true then(n,0)else(0,11)
def xV(a b:Int):Int×Int:=if yE a=true/\yE b then nP (a+b)else(0,2)
def mo(a b:Int):Int×Int:=if yE a=true/\yE b then nP (a-b)else(0,2)
def vI(a b:Int):Int×Int:=if yE a=true/\yE b then nP (a*b)else(0,2)
def jb(a b:Int):Int×Int×Int:=if yE a=true/\yE b then(if b=0 then(0,0,6)else(a/b,a%b,0))else(0,0,2)
def Nn{a b q r}(h:r+b*q=a)(C:0<=r)(U:0<b/\r<b\/b<0/\r < -b):a/b=q/\a%b=r:=by
 rcases U with ⟨U,V⟩|⟨U,V⟩
 exact(Int.ediv_emod_unique U).2 ⟨h,C,V⟩;have T:r+(-b)*(-q)=a:=by rw[Int.neg_mul_neg];exact h
 obtain⟨B,Y⟩:=(Int.ediv_emod_unique (by omega:0 < -b)).2 ⟨T,C,V⟩;rw[Int.ediv_neg]at B;rw[Int.emod_neg]at Y;exact⟨ai,Y⟩
def TO(a b)(U:b≠0):a.tmod b+b*a.tdiv b=a/\(0<b -> -b<a.tmod b/\a.tmod b<b)/\(b<0->b<a.tmod b/\a.tmod b < -b) /\
  ((0<=a->0<=a.tmod b)/\(a<=0->a.tmod b<=0))/\(0<=a -> -a<=a.tdiv b/\a.tdiv b<=a)/\(a<=0->a<=a.tdiv b/\a.tdiv b <= -a):=by
 refine⟨Int.tmod_add_mul_tdiv a b,λh=>?_,λh=>?_,⟨λh=>Int.tmod_nonneg b h,λh=>?_⟩,λh=>?_,λh=>?_⟩;refine⟨?_,ako a h⟩;have:=ako (-a) h;rw[Int.neg_tmod]at this;omega;have V:=ako a (by omega:0 < -b);have Y:=ako (-a) (by omega:0 < -b);rw[Int.neg_tmod]at Y;rw[Int.tmod_neg]at V Y;omega;have:=Int.tmod_nonneg b (by omega:0 <= -a);rw[Int.neg_tmod]at this;omega;have:=alg a b;omega;have:=alg a b;omega
def og{n}:yE n ↔ -1152921504606846976<=n/\n<=1152921504606846976:=by simp[yE]
def ld(n):af 72 [.int .i64 n] (.bool (yE n)):=by
 refine qn func72 call72 λY hf=>?_
 repeat' (first|refine sz ?_|refine zc ?_ ?_|(intro h;first|(cases h;done)|rw[h]|skip))
 all_goals (simp_all [yE];try omega)
abbrev two(x:Int×Int):CV := .eK [.int .i64 x.1,.int .i64 x.2]
abbrev three(x:Int×Int×Int):CV := .eK [.int .i64 x.1,.int .i64 x.2.1,.int .i64 x.2.2]
def aaf{a b c d}(h:a=c)(E:b=d):CV.eK [.int .i64 a,.int .i64 b] = .eK [.int .i64 c,.int .i64 d]:=by rw[h,E]
def IV{a b c d e f}(h:a=d)(E:b=e)(Y:c=f):CV.eK [.int .i64 a,.int .i64 b,.int .i64 c] = .eK [.int .i64 d,.int .i64 e,.int .i64 f]:=by rw[h,E,Y]
def ES(n):af 136 [.int .i64 n] (two (pU n)):=by
 refine qn func136 call136 λV hf=>?_
 repeat' (first|refine sz ?_|refine zc ?_ ?_|(intro h;first|(cases h;done)|rw[h]|skip)|refine uC Z (ld n) ?_)
 simp_all [pU,two]
 ·have Y:yE n:=by simp_all
  have U:=og.1 Y;rw[gW ai ai];simp_all [pU,two]
 simp_all [pU,two];omega
def FU(n):af 153 [.int .i64 n] (two (nP n)):=by
 refine qn func153 call153 λY hf=>?_
 repeat' (first|refine sz ?_|refine zc ?_ ?_|(intro h;first|(cases h;done)|rw[h]|skip)|refine uC Z (ld n) ?_)
 all_goals simp_all [nP,two]
def LB(a b):af 138 [.int .i64 a,.int .i64 b] (two (xV a b)):=by
 refine qn func138 call138 λT hf=>?_
 repeat' (first|refine sz ?_|refine zc ?_ ?_|(intro h;first|(cases h;done)|rw[h]|skip)|refine uC Z (ld a) ?_|refine uC Z (ld b) ?_|refine uC Z (FU _) ?_)
 all_goals try (simp_all [xV,two];done)
 rename_i V;obtain⟨V,U⟩:yE a/\yE b:=by simp_all
 have B:=og.1 V;have Y:=og.1 U;rw[gW ai ai];simp[xV,two,V,U]
def AT(a b):af 140 [.int .i64 a,.int .i64 b] (two (mo a b)):=by
 refine qn func140 call140 λT hf=>?_
 repeat' (first|refine sz ?_|refine zc ?_ ?_|(intro h;first|(cases h;done)|rw[h]|skip)|refine uC Z (ld a) ?_|refine uC Z (ld b) ?_|refine uC Z (FU _) ?_)
 all_goals try (simp_all [mo,two];done)
 rename_i V;obtain⟨V,U⟩:yE a/\yE b:=by simp_all
 have B:=og.1 V;have Y:=og.1 U;rw[gW ai ai];simp[mo,two,V,U]
def xW(a b):af 155 [.int .i64 a,.int .i64 b] (three (jb a b)):=by
 refine qn func155 call155 λJ hf=>?_
 repeat' (first|refine sz ?_|refine zc ?_ ?_|(intro h;first|(cases h;done)|rw[h]|skip)|refine uC Z (ld a) ?_|refine uC Z (ld b) ?_|(first|refine ag.quo Tryz.hX kn Z Z Z Z Z Z Z (by simp_all) ?_|refine ag.rem Tryz.hX kn Z Z Z Z Z Z Z (by simp_all) ?_))
 all_goals try (simp_all [jb,three];done)
 all_goals
  obtain⟨O,N,B⟩:yE a/\yE b/\b≠0:=by simp_all
  have V:=og.1 O;have T:=og.1 N;obtain⟨A,Q,K,⟨G,S⟩,e6,e7⟩:=TO a b B;have P : -1152921504606846976<=a.tdiv b/\a.tdiv b<=1152921504606846976:=by omega
  rw[show jb a b=(a/b,a%b,0)from by simp[jb,O,N,B]]
 ·have W:a.tmod b<0:=by simp_all
  have U:b>0:=by simp_all
  obtain⟨M,Y⟩:=Nn (a:=a) (b:=b) (q:=a.tdiv b-1) (r:=a.tmod b+b) (by rw[Int.mul_sub];omega) ai ai;rw[gW (n:=a.tdiv b) ai ai,gW ai ai,gW ai ai];exact IV M.symm Y.symm Z
 ·have W:a.tmod b<0:=by simp_all
  have U:b<0:=by simp_all;omega
  obtain⟨M,Y⟩:=Nn (a:=a) (b:=b) (q:=a.tdiv b+1) (r:=a.tmod b-b) (by rw[Int.mul_add];omega) ai ai;rw[gW (n:=a.tdiv b) ai ai,gW ai ai,gW ai ai];exact IV M.symm Y.symm Z
 have W:a.tmod b>=0:=by simp_all
 obtain⟨M,Y⟩:=Nn (a:=a) (b:=b) (q:=a.tdiv b) (r:=a.tmod b) ai ai ai;rw[gW ai ai];exact IV M.symm Y.symm Z
end Go.Proofs
namespace Go.Proofs
open Go.cE
def xA:Vl->Int | .mk _ _ a _ _ _ _=>a
def Gg:Vl->Γ | .mk _ _ _ _ _ t _=>t
def Dz:Vl->Θ | .mk _ _ _ _ _ _ c=>c
structure iH where
 code:List Nd
 pos:Nat
 fin:Int
 aside:List Vl
structure bM where
 self:Int
 jr:Int
 js:Int
 balance:Int
 st:List Vl
 fr:List iH
 bC:Int
 used:Int
 aj:Int
 said:Vl
def jx:Nat->Ξ->Option (Ξ×Ξ)
 |0,s=>some ([],s)
 |_+1,[]=>none
 |n+1,v::s=>match jx n s with
  |some (l,r)=>some (v::l,r)
  |none=>none
def nQ:Ξ->Ξ->Int×Ξ
 |[],s=>(0,s)
 |v::l,s=>if iG v>200 then(13,s)else nQ l (v::s)
def aO(k n:Int):Vl := .mk k n 0 [] [] [] []
def jL(b:Bool):Vl:=aO 2 (if b then 1 else 0)
def cr(l:Ξ):Vl := .mk 9 0 0 [] l [] []
def aU(a b:Vl):Vl := .mk 11 0 0 [] [a,b] [] []
def bP(p:Int):Nat :=
 if p∈[41,43,45,54,56,61,66,89,90,91,92]then 0
 else if p∈[42,46,57,62,67,69,70,71,72,73,78,79,80,84,86]then 2
 else if p∈[63,88]then 3 else 1
def ofM(p a b:Int):Int:=if a=5\/b=5 then 5 else if a=4/\b=4/\p≠70 then 4 else 3
def bY:Ξ->Vl->Nat
 |[],_=>0
 |x::l,k=>if ee (ou x) k<0 then bY l k+1 else 0
def fB(l:Ξ)(k:Vl):Bool:=match l[bY l k]? with
 |some x=>decide (ee (ou x) k=0)
 |none=>false
abbrev MR:=Int×bM
def bg(S:bM)(l:Ξ):MR:=((nQ l S.st).1,{S with st:=(nQ l S.st).2})
def dZ(S:bM)(code:Θ)(fin:Int)(P:Ξ):bM:={S with fr:=⟨code,0,fin,P⟩::S.fr}
def sE(S:bM)(code:Θ)(fin:Int)(P:Ξ):bM:={S with fr:=⟨code,code.length,fin,P⟩::S.fr}
def aN(Y:Θ)(i:Nat):Nat:=(DX (Y.getD i rX)).toNat
def aC(Y:Θ)(i:Nat):Θ:=cw (Y.getD i rX)
def aT(Y:Θ)(i:Nat):Ty:=(aM (Y.getD i rX)).1
def lV(l:Ξ)(i:Nat):Vl:=l.getD i jl
def Rx(P:Int)(Y:Θ)(l:Ξ)(S:bM):MR :=
 if P=42 then bg S [lV l 0,lV l 1]
 else if P=41 then bg S [lV S.st (aN Y 0-1)]
 else if P=43 then(0,{S with st:=lV S.st (aN Y 0)::(S.st.take (aN Y 0)++S.st.drop (aN Y 0+1))})
 else if P=44 then(0,{S with st:=S.st.take (aN Y 0)++lV l 0::S.st.drop (aN Y 0)})
 else(0,S)
def Jd(P:Int)(Y:Θ)(l:Ξ)(S:bM):MR :=
 if P=45 then bg S [(gV (aT Y 0) (Y.getD 1 rX)).1]
 else if P=46 then bg S [aU (lV l 0) (lV l 1)]
 else if P=50\/P=51 then bg S [.mk 12 (P-50) 0 [] l [] []]
 else if P=53 then bg S [cr [lV l 0]]
 else if P=54 then bg S [cr []]
 else if P=56 then bg S [.mk 10 0 0 [] [] [] []]
 else if P=47 then bg S [lV (cP (lV l 0)) 1,lV (cP (lV l 0)) 0]
 else if P=48 then bg S [lV (cP (lV l 0)) 0]
 else bg S [lV (cP (lV l 0)) 1]
def wU(P:Int)(Y:Θ)(l:Ξ)(S:bM):MR :=
 if P=52 then bg (dZ S (aC Y (vN (lV l 0)).toNat) 0 []) [lV (cP (lV l 0)) 0]
 else if P=55 then bg (dZ S (aC Y (min (cP (lV l 0)).length 1)) 0 []) (cP (lV l 0))
 else if P=58 then(match cP (lV l 0)with
  |[]=>(0,dZ S (aC Y 1) 0 [])
  |x::xs=>bg (dZ S (aC Y 0) 0 []) [.mk 10 0 0 [] xs [] [],x])
 else if P=60 then(0,sE S (aC Y 0) 3 (cP (lV l 0)))
 else if P=64 then(0,dZ S (aC Y (1-(vN (lV l 0)).toNat)) 0 [])
 else if P=65 then(0,{sE S (aC Y 0) 4 []with st:=lV l 0::S.st})
 else if P=68 then(0,dZ S (aC Y 0) 1 [lV l 0])
 else if P=66 then bg S [.mk 14 0 0 [] [] [aT Y 0,aT Y 1] (aC Y 2)]
 else(0,{dZ S (Dz (lV l 1)) 2 S.st.reverse with st:=[lV l 0]})
def Ag(P:Int)(Y:Θ)(l:Ξ)(S:bM):MR :=
 if P=57 then(if 24<=(cP (lV l 1)).length then(13,S)else bg S [.mk 10 0 0 [] (lV l 0::cP (lV l 1)) [] []])
 else if P=59 then bg S [aO 4 ((vS (lV l 0)).length+(cP (lV l 0)).length:Nat)]
 else if P=61 then bg S [.mk 13 0 0 [] [] [] []]
 else if P=62 then(if fB (cP (lV l 1)) (lV l 0)=true then bg S [cr [lV (cP (lV (cP (lV l 1)) (bY (cP (lV l 1)) (lV l 0)))) 1]]else bg S [cr []])
 else
  let m:=cP (lV l 2);let i:=bY m (lV l 0);let x:=if fB m (lV l 0)=true then m.take i++m.drop (i+1)else m
  match cP (lV l 1)with
  |[]=>bg S [.mk 13 0 0 [] x [] []]
  |y::_=>if 24<=x.length then(13,S)else bg S [.mk 13 0 0 [] (x.take i++aU (lV l 0) y::x.drop i) [] []]
def vf(P:Int)(l:Ξ)(S:bM):MR :=
 if P=93 then bg S [aO 4 (pU (vN (lV l 0))).1]
 else if P=94 then(if vN (lV l 0)<0 then bg S [cr []]else bg S [cr [aO 4 (vN (lV l 0))]])
 else if P=95 then bg S [aO 3 (vN (lV l 0))]
 else
  let a:=lV l 0;let b:=lV l 1;let k:=ofM P (vK a) (vK b)
  if P=69 then(if(xV (vN a) (vN b)).2≠0 then((xV (vN a) (vN b)).2,S)else bg S [aO k (xV (vN a) (vN b)).1])
  else if P=71 then(if(vI (vN a) (vN b)).2≠0 then((vI (vN a) (vN b)).2,S)else bg S [aO k (vI (vN a) (vN b)).1])
  else if P=70 then(if(mo (vN a) (vN b)).2≠0 then((mo (vN a) (vN b)).2,S)
   else if k=5 then(if(mo (vN a) (vN b)).1<0 then bg S [cr []]else bg S [cr [aO 5 (mo (vN a) (vN b)).1]])
   else bg S [aO k (mo (vN a) (vN b)).1])
  else if(jb (vN a) (vN b)).2.2≠0 then bg S [cr []]
  else bg S [cr [aU (aO (if k=5/\vK b=5 then 4 else k) (jb (vN a) (vN b)).1) (aO (if k=5 then 5 else 4) (jb (vN a) (vN b)).2.1)]]
def FZ(P:Int)(Y:Θ)(l:Ξ)(S:bM):MR :=
 let a:=lV l 0
 if P=73 then bg S [aO 3 (ee a (lV l 1))]
 else if P=74\/P=77 then bg S [jL (decide (vN a=0))]
 else if P=75 then bg S [jL (decide (vN a<0))]
 else if P=76 then bg S [jL (decide (vN a>0))]
 else if P=78 then bg S [jL (decide (vN a=1/\vN (lV l 1)=1))]
 else if P=79 then bg S [jL (decide (vN a=1\/vN (lV l 1)=1))]
 else if P=80 then(if 200<(vS a).length+(vS (lV l 1)).length then(13,S)else bg S [.mk 6 0 0 (vS a++vS (lV l 1)) [] [] []])
 else if P=81 then(if(yl a).2≠0 then(13,S)else bg S [.mk 6 0 0 (yl a).1 [] [] []])
 else if P=82 then(if(jg (aT Y 0) (vS a)).2≠0 then bg S [cr []]else bg S [cr [(jg (aT Y 0) (vS a)).1]])
 else(10,{S with said:=a})
def Ah(P:Int)(Y:Θ)(l:Ξ)(S:bM):MR :=
 let a:=lV l 0
 if P=89 then bg S [aO 7 S.self]
 else if P=90 then bg S [aO 7 S.jr]
 else if P=91 then bg S [aO 5 S.js]
 else if P=92 then bg S [aO 5 S.balance]
 else if P=84 then(if vN (lV l 1)=0 then bg S [cr []]else if S.aj>bL-vN (lV l 1)then(11,S)
  else bg {S with aj:=S.aj+vN (lV l 1)} [cr [.mk 15 (vN (lV l 1)) S.self [] [a] [] []]])
 else if P=88 then bg S [.mk 8 (vN (lV l 1)) (vN (lV l 2)) [] [a] [aT Y 0] []]
 else if P=85 then bg S [a,aU (aO 7 (xA a)) (aU (lV (cP a) 0) (aO 4 (vN a)))]
 else if P=86 then
  let n:=vN (lV (cP (lV l 1)) 0);let m:=vN (lV (cP (lV l 1)) 1)
  if n<1\/m<1\/n+m≠vN a then bg S [cr []]
  else bg S [cr [aU (.mk (vK a) n (xA a) (vS a) (cP a) (Gg a) (Dz a)) (.mk (vK a) m (xA a) (vS a) (cP a) (Gg a) (Dz a))]]
 else
  let x:=lV (cP a) 0;let y:=lV (cP a) 1
  if xA x≠xA y\/ee (lV (cP x) 0) (lV (cP y) 0)≠0 then bg S [cr []]
  else if vN x>bL-vN y then(11,S)
  else bg S [cr [.mk (vK x) (vN x+vN y) (xA x) (vS x) (cP x) (Gg x) (Dz x)]]
def rU(P:Int)(Y:Θ)(l:Ξ)(S:bM):MR :=
 if P<=44 then Rx P Y l S
 else if P<=56/\P≠52/\P≠55 then Jd P Y l S
 else if P=52\/P=55\/P=58\/P=60\/64<=P/\P<=68 then wU P Y l S
 else if P<=63 then Ag P Y l S
 else if P<=72\/P>=93 then vf P l S
 else if P<=83 then FZ P Y l S
 else Ah P Y l S
def vJ(f:iH):CV := .agg [.sl 5 (aD f.code),ah (f.pos:Nat),ah f.fin,.sl 7 (aa f.aside)]
def pK:List iH->Ψ
 |[]=>[]
 |f::l=>vJ f::pK l
def Ak:∀a b:List iH,pK (a++b)=pK a++pK b
 |[],_=>rfl
 |f::a,b=>by simp only[ahk,pK,Ak a b]
def Al:∀l:List iH,(pK l).length=l.length
 |[]=>rfl
 |f::l=>by simp only[pK,aat,Al l]
def mU:∀a b:Ξ,aa (a++b)=aa a++aa b
 |[],_=>rfl
 |f::a,b=>by simp only[ahk,aa,mU a b]
def sR(l:Ξ):Ψ:=aa l.reverse
def fR(l:List iH):Ψ:=pK l.reverse
def Np(v:Vl)(l:Ξ):sR (v::l)=sR l++[bz v]:=by simp only[sR,akt,mU];rfl
def G3(f:iH)(l:List iH):fR (f::l)=fR l++[vJ f]:=by simp only[fR,akt,Ak];rfl
def kK(l:Ξ):(sR l).length=l.length:=by simp only[sR,aE,acy]
def Ck(l:List iH):(fR l).length=l.length:=by simp only[fR,Al,acy]
def iQ:∀(l:Ξ),∀r∈aa l,r.cells.length=7
 |[],r,h=>by simp[aa]at h
 |.mk _ _ _ _ _ _ _::l,r,h=>by
  simp only[aa,aim]at h;rcases h with rfl|h
  rfl;exact iQ l r h
def F5:∀(l:List iH),∀r∈pK l,r.cells.length=4
 |[],r,h=>by simp[pK]at h
 |f::l,r,h=>by
  simp only[pK,aim]at h;rcases h with rfl|h
  rfl;exact F5 l r h
def xZ(l:Ξ):(bD (sR l)).length=l.length*7:=by rw[dL (rows:=sR l) (s:=7) (iQ _),kK]
def GV(l:List iH):(bD (fR l)).length=l.length*4:=by rw[dL (rows:=fR l) (s:=4) (F5 _),Ck]
def mC(S:bM)(a b:Nat):Φ:=[.c (ah S.self),.c (ah S.jr),.c (ah S.js),.c (ah S.balance),.iI a 0 7 S.st.length,.iI b 0 4 S.fr.length,.c (ah S.bC),.c (ah S.used),.c (ah S.aj),
 .c (ah (vK S.said)),.c (ah (vN S.said)),.c (ah (xA S.said)),.c (.str (vS S.said)),.c (.sl 7 (aa (cP S.said))),.c (.sl 2 (az (Gg S.said))),.c (.sl 5 (aD (Dz S.said)))]
def Jo(S:bM):MC (mC S):=⟨λQ P a b U V Y T=>⟨_,_,Z,.inl Z,_,_,Z,.inl Z,_,_,Z,.inl Z,_,_,Z,.inl Z,_,_,Z,⟨_,Y,Z⟩,_,_,Z,⟨_,T,Z⟩,_,_,Z,.inl Z,_,_,Z,.inl Z,_,_,Z,.inl Z,
  _,_,Z,.inl Z,_,_,Z,.inl Z,_,_,Z,.inl Z,_,_,Z,.inl Z,_,_,Z,.inl Z,_,_,Z,.inl Z,_,_,Z,.inl Z,Z⟩,λ_ _ _=>rfl,λO a b Y T=>by simp only[mC,xC,WX,both,Y,T]⟩
def SD(S:bM)(_ b:Nat):Φ:=[.c (ah S.self),.c (ah S.jr),.c (ah S.js),.c (ah S.balance),.c (.sl 7 (sR S.st)),.iI b 0 4 S.fr.length,.c (ah S.bC),.c (ah S.used),.c (ah S.aj),
 .c (ah (vK S.said)),.c (ah (vN S.said)),.c (ah (xA S.said)),.c (.str (vS S.said)),.c (.sl 7 (aa (cP S.said))),.c (.sl 2 (az (Gg S.said))),.c (.sl 5 (aD (Dz S.said)))]
def Jx(S:bM):∀(Y:Ren)(U:tad)(b V:Nat),Y.bx b=some V->fT Y U (SD S 0 b) (SD S 0 V):=λY U b V T=>⟨_,_,rfl,.inl rfl,_,_,rfl,.inl rfl,_,_,rfl,.inl rfl,_,_,rfl,.inl rfl,_,_,rfl,.inl rfl,_,_,rfl,⟨_,T,rfl⟩,_,_,rfl,.inl rfl,_,_,rfl,.inl rfl,_,_,rfl,.inl rfl,
  _,_,Z,.inl Z,_,_,Z,.inl Z,_,_,Z,.inl Z,_,_,Z,.inl Z,_,_,Z,.inl Z,_,_,Z,.inl Z,_,_,Z,.inl Z,Z⟩
def LU(S:bM):∀(Y:Ω)(b:Nat),mem b Y->xC Y (SD S 0 b):=λY b h=>by simp only[SD,xC,WX,both,h]
def aa1(S:bM):MC (SD S):=⟨λT Q a b U V _ Y=>Jx S T Q b V Y,λ_ _ _=>rfl,λP a b _ Y=>LU S P b Y⟩
def cM(f:FuncId)(S:bM)(Y:Φ)(r:CV)(u:bM):Prop :=
 th f (mI (mC S) (bD (sR S.st)) (bD (fR S.fr))) (.ptr 1000000 0::Y) (.c r) (mO (mC u) (bD (sR u.st)) (bD (fR u.fr)))
abbrev jT(f:FuncId)(S:bM)(args:L AV)(o:Int×bM):Prop:=cM f S args (ah o.1) o.2
def OK(f:FuncId)(S:bM)(Y:Φ)(r:CV)(u:bM):Prop :=
 th f (mI1 (SD S) (bD (fR S.fr))) (.ptr 1000000 0::Y) (.c r) (mO1 (SD u) (bD (fR u.fr)))
def aa2{f:FuncId}{n:Nat}{N:lu}{K:L Item}(S:(∃V,K = .code .ret::V)\/K=[]){env:Env}{Y:Func}(hf:Tryz.prog.funcs[f]?=some Y){O:tab}{M:tad}{F:Ω}{l:Φ}(G:sZ Tryz.X O env Y.results.toList=some l)
  {v:CV}(U:close (Bh l)=some v){u:bM}{a b:Nat}{cells W J:Φ}(E:au 1000000 O=some cells)(A:cells=mC u a b)(D:au a O=some W)(Q:W=aq (sR u.st))(B:au b O=some J)(I:J=aq (fR u.fr))(T:Go.cE.distinct [1000000,a,b]){r:CV}(P:v=r) :
  CI f n N (HR N (.c r) (mO (mC u) (bD (sR u.st)) (bD (fR u.fr)))) K env ⟨O,M,F⟩:=by
 subst A Q I P;refine AK.IS S hX hf G [(1000000,1000000),(999991,a),(999992,b)] ?_ (.inr U) ⟨⟨_,_,Z,E,(Jo u).conv _ _ _ _ _ _ Z Z⟩,⟨_,_,Z,D,cO _⟩,⟨_,_,Z,B,cO _⟩,trivial⟩;unfold zn;rw[show([(1000000,1000000),(999991,a),(999992,b)]:tad).map (·.2)=[1000000,a,b]from Z,T];rfl
def Y9{f:FuncId}{n:Nat}{O:lu}{K:L Item}{env:Env}{Y:Func}(hf:Tryz.prog.funcs[f]?=some Y){P:tab}{N:tad}{M:Ω}{l:Φ}(V:sZ Tryz.X P env Y.results.toList=some l)
  {v:CV}(U:close (Bh l)=some v){u:bM}{a b:Nat}{cells W J:Φ}(F:au 1000000 P=some cells)(A:cells=mC u a b)(E:au a P=some W)(Q:W=aq (sR u.st))(B:au b P=some J)(I:J=aq (fR u.fr))(T:Go.cE.distinct [1000000,a,b]){r:CV}(S:v=r) :
  CI f n O (HR O (.c r) (mO (mC u) (bD (sR u.st)) (bD (fR u.fr)))) (.code .ret::K) env ⟨P,N,M⟩ :=
 aa2 (.inl ⟨_,Z⟩) hf V U F A E Q B I T S
def afJ{f:FuncId}{n:Nat}{P:lu}{env:Env}{K:Func}(hf:Tryz.prog.funcs[f]?=some K){S:tab}{O:tad}{N:Ω}{l:Φ}(V:sZ Tryz.X S env K.results.toList=some l)
  {v:CV}(Y:close (Bh l)=some v){u:bM}{a b:Nat}{cells W J:Φ}(M:au 1000000 S=some cells)(A:cells=mC u a b)(F:au a S=some W)(Q:W=aq (sR u.st))(B:au b S=some J)(I:J=aq (fR u.fr))(U:Go.cE.distinct [1000000,a,b]){r:CV}(T:v=r) :
  CI f n P (HR P (.c r) (mO (mC u) (bD (sR u.st)) (bD (fR u.fr)))) [] env ⟨S,O,N⟩ :=
 aa2 (.inr Z) hf V Y M A F Q B I U T
def aiY{f:FuncId}{n:Nat}{S:lu}{env:Env}{K:Func}(hf:Tryz.prog.funcs[f]?=some K){T:tab}{Q:tad}{P:Ω}{l:Φ}(V:sZ Tryz.X T env K.results.toList=some l)
  {v:CV}(W:close (Bh l)=some v){u:bM}{b:Nat}{cells J:Φ}(O:au 1000000 T=some cells)(A:cells=SD u 0 b)(B:au b T=some J)(I:J=aq (fR u.fr))(Y:Go.cE.distinct [1000000,b]){r:CV}(U:v=r) :
  CI f n S (HR S (.c r) (mO1 (SD u) (bD (fR u.fr)))) [] env ⟨T,Q,P⟩:=by
 subst A I U;refine AK.IS (.inr Z) hX hf V [(1000000,1000000),(999992,b)] ?_ (.inr W) ⟨⟨_,_,Z,O,Jx u _ _ _ _ Z⟩,⟨_,_,Z,B,cO _⟩,trivial⟩;unfold zn;rw[show([(1000000,1000000),(999992,b)]:tad).map (·.2)=[1000000,b]from Z,Y];rfl
def uM{ops:tal}{o:Oper}{rest:L Oper}{env:Env}{y:L Fp}{Q:Env->St->L Fp->Prop}{x:tab}{C:tad}{m:Ω}(N:cZ ops.toList kn env o=some true){f:FuncId}{args:tam}{T:Array TypeId}(P:o.op = .call {callee := .value (.func f),args:=args,argTypes:=T})
  {S u:bM}{U:Φ}{r:CV}(j:cM f S U r u){d:Nat}(A:o.dst=some d)
  {l:Φ}(O:ir (aJ Tryz.X env) args.toList=some l){F:Nat}{V:Φ}(W:l = .ptr F 0::V){Y z:Nat}{K E J:Φ}(i:au F x=some K)(M:K=mC S Y z)(b:au Y x=some E)(I:E=aq (sR S.st))(B:au z x=some J)(H:J=aq (fR S.fr))
  (q:∀C,fT ⟨λk=>au k [(1000000,F),(1000001,Y),(1000002,z)],λ_=>none⟩ C U V)(G:zT m F Y z (100000+d) (200000+d))
  {t:tab}(D:lK [F,Y,z] x=t)
  (k:mM ops rest ((d,.c r)::env) ⟨(F,mC u (100000+d) (200000+d))::(100000+d,aq (sR u.st))::(200000+d,aq (fR u.fr))::t,C,F::(100000+d)::(200000+d)::m⟩ (⟨[],[F,Y,z,F,100000+d,200000+d,F,100000+d,200000+d]⟩::y) Q):mM ops (o::rest) env ⟨x,C,m⟩ y Q:=by
 subst W;exact ag.aiz kn N P j (Jo S) (Jo u) A O Z i M b I B H (λC=>⟨_,_,Z,⟨_,fo,Z⟩,q C⟩) G Z Z D k
def uM1{ops:tal}{o:Oper}{rest:L Oper}{env:Env}{z:L Fp}{Q:Env->St->L Fp->Prop}{x:tab}{D:tad}{t:Ω}(N:cZ ops.toList kn env o=some true){f:FuncId}{args:tam}{T:Array TypeId}(V:o.op = .call {callee := .value (.func f),args:=args,argTypes:=T})
  {S u:bM}{U:Φ}{r:CV}(m:OK f S U r u){d:Nat}(A:o.dst=some d)
  {l:Φ}(E:ir (aJ Tryz.X env) args.toList=some l){F:Nat}{W:Φ}(Y:l = .ptr F 0::W){C:Nat}{K J:Φ}(j:au F x=some K)(P:K=SD S 0 C)(B:au C x=some J)(I:J=aq (fR S.fr))
  (q:∀D,fT ⟨λk=>au k [(1000000,F),(1000002,C)],λ_=>none⟩ D U W)(O:Dk t F C (200000+d))
  {y:tab}(M:lK [F,C] x=y)
  (k:mM ops rest ((d,.c r)::env) ⟨(F,SD u 0 (200000+d))::(200000+d,aq (fR u.fr))::y,D,F::(200000+d)::t⟩ (⟨[],[F,C,F,200000+d,F,200000+d]⟩::z) Q):mM ops (o::rest) env ⟨x,D,t⟩ z Q:=by
 subst Y;exact ag.agq kn N V m (aa1 S) (aa1 u) (Jx S) (LU u) (λ_ _=>rfl) A E Z j P B I (λD=>⟨_,_,Z,⟨_,fo,Z⟩,q D⟩) O Z Z M k
def J8{Y:Ren}{V:tad}{v:CV}{a:AV}{l m:Φ}(h:close a=some v)(E:fT Y V l m):fT Y V (.c v::l) (a::m):=⟨_,_,Z,.inr h,E⟩
def J9{Y:Ren}{V:tad}{k U o:Nat}{l m:Φ}(h:Y.bx k=some U)(E:fT Y V l m):fT Y V (.ptr k o::l) (.ptr U o::m):=⟨_,_,Z,⟨_,h,Z⟩,E⟩
def agw{ops:tal}{o:Oper}{rest:L Oper}{env:Env}{C:L Fp}{Q:Env->St->L Fp->Prop}{y:tab}{x:tad}{t:Ω}{f:FuncId}{args:tam}{T:Array TypeId}{S u:bM}{U:Φ}{r:CV}{d:Nat}{l:Φ}{F:Nat}{W:Φ}{D:Nat}{K J:Φ}{z:tab}(k:mM ops rest ((d,.c r)::env) ⟨(F,SD u 0 (200000+d))::(200000+d,aq (fR u.fr))::z,x,F::(200000+d)::t⟩ (⟨[],[F,D,F,200000+d,F,200000+d]⟩::C) Q)(N:cZ ops.toList kn env o=some true:=by exact rfl)(V:o.op = .call {callee := .value (.func f),args:=args,argTypes:=T}:=by exact rfl)(hq:OK f S U r u:=by assumption)(A:o.dst=some d:=by exact rfl)(E:ir (aJ Tryz.X env) args.toList=some l:=by exact rfl)(Y:l = .ptr F 0::W:=by exact rfl)(p:au F y=some K:=by exact rfl)(P:K=SD S 0 D:=by exact rfl)(B:au D y=some J:=by exact rfl)(I:J=aq (fR S.fr):=by exact rfl)(q:∀x,fT ⟨λk=>au k [(1000000,F),(1000002,D)],λ_=>none⟩ x U W:=by intro _;repeat' (first|exact rfl|refine J8 rfl ?_|refine J9 rfl ?_))(O:Dk t F D (200000+d):=by exact rfl)(M:lK [F,D] y=z:=by exact rfl): mM ops (o::rest) env ⟨y,x,t⟩ C Q:=uM1 N V hq A E Y p P B I q O M k
def MF:Nat->Φ->Env
 |_,[]=>[]
 |i,c::l=>(i,c)::MF (i+1) l
def GF:∀(i:Nat)(l:Φ),MF i l=((l.zipIdx i).map λ(v,i)=>(i,v))
 |_,[]=>rfl
 |i,c::l=>by simp only[MF,ajE,ahM,GF (i+1) l]
def mn{f:FuncId}{K:Func}{c:Code}{S u:bM}{V:Φ}{r:CV}{env:Env}(hf:Tryz.prog.funcs[f]?=some K)(Y:Enters Tryz.prog f)(k:∀T,Tryz.prog.funcs[f]?=some K->CI f K.ntmps T (HR T (.c r) (mO (mC u) (bD (sR u.st)) (bD (fR u.fr)))) [.code c] env ⟨[(1000000,mC S 1000001 1000002),(1000001,aq (sR S.st)),(1000002,aq (fR S.fr))],[],[1000000,1000001,1000002]⟩)(U:K.body=some c:=by exact rfl)(I:(AV.ptr 1000000 0::V).length<=K.ntmps:=by exact ahw rfl)(Q:MF 0 (AV.ptr 1000000 0::V)=env:=by simp only[MF];try exact rfl):cM f S V r u:=cA.of hf U Y I env _ (by rw[<- Q,GF]) rfl λT=>k T hf
def dm{p:Prop}(h:p:=by(repeat' (first|refine st ?_|(refine AK.Fw Z (λh=>?_) (λh=>?_)<;>first|(cases h;done)|rw[h]|skip)|refine AK.sY Z ?_ ?_|refine uC Z (by assumption) ?_|refine uI Z _ Z (by assumption) Z ?_|refine uI Z 0 Z (by assumption) Z ?_|refine uI Z 1 Z (by assumption) Z ?_|refine uI Z 0 Z Z Z ?_|refine uI Z 1 Z Z Z ?_|refine uI Z 2 Z Z Z ?_|refine uI Z 3 Z Z Z ?_|refine xY ?_|refine agw ?_|(first|refine ag.quo hX kn Z Z Z Z Z Z Z ((by decide)) ?_|refine ag.rem hX kn Z Z Z Z Z Z Z ((by decide)) ?_)|(refine uA Z ?_ ?_<;>(try (show(_:Nat)*_<=_;dsimp only)))|refine ag.toStr hX kn Z Z Z Z Z Z Z Z Z Z Z (by first|exact Z|exact Bo _) Z ?_|((first|refine ag.rN Z Z Z Hw (λh=>?_)|refine ag.rO Z Z Z Hw (λh=>?_)|refine ag.split Z Z Z (λh=>?_) (λh=>?_))<;>(fail_if_success (cases h;done))<;>rw[h])|refine Y9 hf Z Z Z Z Z Z Z Z Z ?_|refine afJ hf Z Z Z Z Z Z Z Z Z ?_))<;>rfl):p:=h
def mdm{f:FuncId}{K:Func}{c:Code}{S u:bM}{V:Φ}{r:CV}{env:Env}(hf:Tryz.prog.funcs[f]?=some K)(Y:Enters Tryz.prog f)(U:K.body=some c:=by exact rfl)(I:(AV.ptr 1000000 0::V).length<=K.ntmps:=by exact ahw rfl)(Q:MF 0 (AV.ptr 1000000 0::V)=env:=by simp only[MF];try exact rfl)(k:∀β,Tryz.prog.funcs[f]?=some K->CI f K.ntmps β (HR β (.c r) (mO (mC u) (bD (sR u.st)) (bD (fR u.fr)))) [.code c] env ⟨[(1000000,mC S 1000001 1000002),(1000001,aq (sR S.st)),(1000002,aq (fR S.fr))],[],[1000000,1000001,1000002]⟩:=by intro β hf;exact dm):cM f S V r u:=mn hf Y k U I Q
def dnm{p q:Prop}(k:q)(h:q->p:=by intro k;(repeat' (first|refine st ?_|(refine AK.Fw Z (λh=>?_) (λh=>?_)<;>first|(cases h;done)|rw[h]|skip)|refine AK.sY Z ?_ ?_|refine uC Z (by assumption) ?_|refine uI Z _ Z (by assumption) Z ?_|refine uI Z 0 Z (by assumption) Z ?_|refine uI Z 1 Z (by assumption) Z ?_|refine uI Z 0 Z Z Z ?_|refine uI Z 1 Z Z Z ?_|refine uI Z 2 Z Z Z ?_|refine uI Z 3 Z Z Z ?_|refine xY ?_|refine agw ?_|(first|refine ag.quo hX kn Z Z Z Z Z Z Z ((by decide)) ?_|refine ag.rem hX kn Z Z Z Z Z Z Z ((by decide)) ?_)|(refine uA Z ?_ ?_<;>(try (show(_:Nat)*_<=_;dsimp only)))|refine ag.toStr hX kn Z Z Z Z Z Z Z Z Z Z Z (by first|exact Z|exact Bo _) Z ?_|((first|refine ag.rN Z Z Z Hw (λh=>?_)|refine ag.rO Z Z Z Hw (λh=>?_)|refine ag.split Z Z Z (λh=>?_) (λh=>?_))<;>(fail_if_success (cases h;done))<;>rw[h])|refine Y9 hf Z Z Z Z Z Z Z Z Z ?_|refine afJ hf Z Z Z Z Z Z Z Z Z ?_))<;>first|exact Z|exact k):p:=h k
def xY{ops:tal}{o:Oper}{rest:L Oper}{env:Env}{z:L Fp}{Q:Env->St->L Fp->Prop}{y:tab}{t:tad}{m:Ω}{f:FuncId}{args:tam}{T:Array TypeId}{S u:bM}{U:Φ}{r:CV}{d:Nat}{l:Φ}{F:Nat}{V:Φ}{Y C:Nat}{K E J:Φ}{x:tab}(k:mM ops rest ((d,.c r)::env) ⟨(F,mC u (100000+d) (200000+d))::(100000+d,aq (sR u.st))::(200000+d,aq (fR u.fr))::x,t,F::(100000+d)::(200000+d)::m⟩ (⟨[],[F,Y,C,F,100000+d,200000+d,F,100000+d,200000+d]⟩::z) Q)(N:cZ ops.toList kn env o=some true:=by exact rfl)(P:o.op = .call {callee := .value (.func f),args:=args,argTypes:=T}:=by exact rfl)(hq:cM f S U r u:=by assumption)(A:o.dst=some d:=by exact rfl)(O:ir (aJ Tryz.X env) args.toList=some l:=by exact rfl)(W:l = .ptr F 0::V:=by exact rfl)(j:au F y=some K:=by exact rfl)(M:K=mC S Y C:=by exact rfl)(i:au Y y=some E:=by exact rfl)(I:E=aq (sR S.st):=by exact rfl)(B:au C y=some J:=by exact rfl)(H:J=aq (fR S.fr):=by exact rfl)(q:∀t,fT ⟨λk=>au k [(1000000,F),(1000001,Y),(1000002,C)],λ_=>none⟩ t U V:=by intro _;repeat' (first|exact rfl|refine J8 rfl ?_|refine J9 rfl ?_))(G:zT m F Y C (100000+d) (200000+d):=by exact rfl)(D:lK [F,Y,C] y=x:=by exact rfl): mM ops (o::rest) env ⟨y,t,m⟩ z Q:=uM N P hq A O W j M i I B H q G D k
def Ou(k n a:Int)(s:Δ)(V:Ξ)(Y:Γ)(code:Θ)(t:Ξ):eB (0+t.length*7) (aq (sR (.mk k n a s V Y code::t))) =
  some [.c (ah k),.c (ah n),.c (ah a),.c (.str s),.c (.sl 7 (aa V)),.c (.sl 2 (az Y)),.c (.sl 5 (aD code))]:=by
 rw[Np,aq,eg,aib,ahr,<- xZ,<- ahY (f:=AV.c),j6];rfl
def Cj(f:iH)(t:List iH):eB (0+t.length*4) (aq (fR (f::t)))=some [.c (.sl 5 (aD f.code)),.c (ah (f.pos:Nat)),.c (ah f.fin),.c (.sl 7 (aa f.aside))]:=by rw[G3,aq,eg,aib,ahr,<- GV,<- ahY (f:=AV.c),j6];rfl
def Jq(v:Vl)(t:Ξ):aq (sR (v::t))=aq (sR t)++aq [bz v]:=by rw[Np,aq,eg,aib]
def nY(f:iH)(t:List iH):aq (fR (f::t))=aq (fR t)++aq [vJ f]:=by rw[G3,aq,eg,aib]
def T4(k n a:Int)(s:Δ)(U:Ξ)(Y:Γ)(code:Θ)(t:Ξ)(z:CV)(P:z.cells.length=7):bQ (0+t.length*7) [.c (ah k),.c (ah n),.c (ah a),.c (.str s),.c (.sl 7 (aa U)),.c (.sl 2 (az Y)),.c (.sl 5 (aD code))] (aq (sR t++[z])) =
  some (aq (sR (.mk k n a s U Y code::t))):=by
 rw[Jq,aq,eg,aib,ahr,<- xZ,<- ahY (f:=AV.c)];have K:∀(p x y:Φ),x.length=y.length->bQ p.length x (p++y)=some (p++x):=by
  intro p x y h
  induction p with
  |nil=>exact zF x y h
  |cons q p S =>
   cases x with
   |nil=>cases y with
    |nil=>simp only[bQ]
    |cons _ _=>simp at h
   |cons V x=>simp only[aat,ahk,bQ,S]
 exact K _ _ _ (by simp only[bD,ahq,ahY,P];rfl)
def No(Y:Ω):∀l:Ψ,rP Y (l.map AV.c)
 |[]=>rfl
 |c::l=>by simp;exact No Y l
def VP{Y:Ω}{k:Nat}{a:Φ}{l:tab}(V:mem k Y)(U:rP Y a)(B:okB Y l):okB Y ((k,a)::l):=by simp only[okB,V,U];exact B
def agJ(S:bM){Y:Ω}{a b:Nat}(V:mem a Y)(U:mem b Y):rP Y (mC S a b):=by simp only[mC,rP,Ft,V,U]
def agD(S:bM){Y:Ω}{V a b:Nat}(C:mem V Y)(U:mem a Y)(T:mem b Y):okB Y [(V,mC S a b),(a,aq (sR S.st)),(b,aq (fR S.fr))] :=
 VP C (agJ S U T) (VP U (No _ _) (VP T (No _ _) Z))
def cvB{S:bM}{bx:tad}{tk:L (Nat×(Nat×Option Nat))}{F:tad}{O:tab}{N a b Y U V:Nat}{K W J:Φ}(C:au N bx=some Y)(M:au a bx=some U)(I:au b bx=some V)(H:au Y O=some K)(A:K=mC S U V)(T:au U O=some W)(q1:W=aq (sR S.st))(Q:au V O=some J)(P:J=aq (fR S.fr)) :
  Lu ⟨λk=>au k bx,λk=>au k tk⟩ F O [(N,mC S a b),(a,aq (sR S.st)),(b,aq (fR S.fr))]:=by
 subst A q1 P;exact⟨⟨_,_,C,H,(Jo S).conv _ _ _ _ _ _ M I⟩,⟨_,_,M,T,cO _⟩,⟨_,_,I,Q,cO _⟩,trivial⟩
attribute [local irreducible] AK ag aZ bS cA
def agE(S:bM)(h:S.bC<=S.used):cM 97 S [] (ah 12) S:=by have D:decide (S.used>=S.bC):=ace h;exact mdm func97 call97
def agF(S:bM)(h:S.used<S.bC)(Y:VY S.bC)(V:0<=S.used):cM 97 S [] (ah 0) {S with used:=S.used+1}:=by
 have D:decide (S.used>=S.bC)=false:=acf ai;have q:i64.wrap (S.used+1)=S.used+1:=gW ai (by have:=Y.2;omega);refine mn func97 call97 λU hf=>?_
 repeat' (first|refine pS ?_|refine zc ?_ ?_|(intro h;first|(cases h;done)|rw[h]|skip))
 rw[q];exact Y9 hf Z Z Z Z Z Z Z Z Z Z
def adM(S:bM)(h:S.st=[]):cM 111 S [] (.eK [bz jl,.bool false]) S:=by
 obtain⟨a,b,c,d,st,C,g,u,m,K⟩:=S;simp only at h;subst h;have D:decide (i64.wrap (((([]:Ξ).length:Nat):Int)-1)<0):=by decide
 exact mdm func111 call111
def aa3(S:bM)(v:Vl)(t:Ξ)(h:S.st=v::t)(E:t.length<=1099511627776):cM 111 S [] (.eK [bz v,.bool true]) {S with st:=t}:=by
 obtain⟨a,b,c,d,st,C,g,u,m,K⟩:=S;simp only at h;subst h;have q:i64.wrap ((((v::t).length:Nat):Int)-1)=(t.length:Nat):=by rw[gW ek ek];simp only[aat];omega
 have D:decide (i64.wrap ((((v::t).length:Nat):Int)-1)<0)=false:=by rw[q];exact acf ai
 obtain⟨k,n,T,s,U,V,code⟩:=v;have Y:=Ou k n T s U V code t;refine mn func111 call111 λQ hf=>?_
 repeat' (first|refine pS ?_|refine zc ?_ ?_|(intro h;first|(cases h;done)|rw[h]|skip)|refine ag.kZ hX kn Z Z Z Z Z Z Z Z Z t.length q (aid _) ?_|refine ag.dy hX kn Z Z Z Z Z Z Y Z ?_|refine ag.GQ hX kn Z Z Z Z Z Z Z Z Z Z Z Z t.length q (ajT _) ?_)
 refine AK.zU 1000001 (aq (sR t)) _ Z (Jq _ _) Z ?_;exact Y9 hf Z Z Z Z Z Z Z Z Z Z
def zZ(S:bM)(code:Θ)(fin:Int)(P:Ξ)(E:S.fr.length<=1099511627776):cM 96 S [.c (.sl 5 (aD code)),.c (ah fin),.c (.sl 7 (aa P))] .undef {S with fr:=⟨code,0,fin,P⟩::S.fr}:=by
 refine mn func96 call96 λY hf=>?_
 repeat' (first|refine pS ?_|refine ag.od hX kn Z Z Z Z Z Z Z Z Z Z Z Z Z Z Z (fR S.fr) [] (ahq _).symm (Ck _).symm (GV _) Z Z Z Z Z Z Z (show((fR S.fr).length+1)*64<=_ by rw[Ck];omega) (G3 ⟨code,0,fin,P⟩ S.fr).symm (Ck _) Z ?_|(refine uA Z ?_ ?_<;>(try (show(_:Nat)*_<=_;dsimp only))))
 all_goals rfl
def Nt(S:bM)(code:Θ)(fin:Int)(P:Ξ)(E:S.fr.length<=1099511627776):OK 96 S [.c (.sl 5 (aD code)),.c (ah fin),.c (.sl 7 (aa P))] .undef {S with fr:=⟨code,0,fin,P⟩::S.fr}:=by
 refine cA.of func96 Z (λY w=>call96 Y w) (ahw Z) [(0,.ptr 1000000 0),(1,.c (.sl 5 (aD code))),(2,.c (ah fin)),(3,.c (.sl 7 (aa P)))] ⟨[(1000000,SD (S) 0 1000002),(1000002,aq (fR (S).fr))],[],[1000000,1000002]⟩ Z Z λV=>?_;have hf:=func96
 repeat' (first|refine pS ?_|refine ag.od hX kn Z Z Z Z Z Z Z Z Z Z Z Z Z Z Z (fR S.fr) [] (ahq _).symm (Ck _).symm (GV _) Z Z Z Z Z Z Z (show((fR S.fr).length+1)*64<=_ by rw[Ck];omega) (G3 ⟨code,0,fin,P⟩ S.fr).symm (Ck _) Z ?_|(refine uA Z ?_ ?_<;>(try (show(_:Nat)*_<=_;dsimp only))))
 exact aiY hf Z Z Z Z Z Z Z Z
def UL(S:bM)(n:Nat)(I:n<=3)(E:S.st.length<=1099511627776):cM 112 S [.c (ah (n:Nat))] (match jx n S.st with|some (l,_) => .eK [.sl 7 (aa l),.bool true]|none => .eK [.sl 0 [],.bool false]) {S with st:=match jx n S.st with|some (_,r)=>r|none=>[]}:=by
 generalize O:jx n S.st=res;refine mn func112 call112 λy hf=>?_;refine dnm ?_;refine AK.gK [(1000000,1000000),(3001,1000001),(3002,1000002)] [(3006,(0,none))] (env':=[(0,.ptr 1000000 0),(9,.c (ah (n:Nat))),(10,.c (ah (([]:Ξ).length:Nat))),(6,.own (.tok 3006 0) 7 (aa []))])
  (bs':=[(1000000,mC {S with st:=S.st} 3001 3002),(3001,aq (sR S.st)),(3002,aq (fR S.fr))]) (ts':=[(3006,0)]) (us':=[1000000,3001,3002,3006])
  ce  (cvB Z Z Z Z Z Z Z Z Z) Z ?_
 refine AK.dg (α:=Ξ×Ξ) (λz=>res=(jx (n-z.1.length) z.2).map (λq=>(z.1++q.1,q.2))/\z.1.length<=n/\z.2.length<=1099511627776) (λz=>n-z.1.length)
  (λz=>[(0,.ptr 1000000 0),(9,.c (ah (n:Nat))),(10,.c (ah (z.1.length:Nat))),(6,.own (.tok 3006 0) 7 (aa z.1))])
  (λz=>[(1000000,mC {S with st:=z.2} 3001 3002),(3001,aq (sR z.2)),(3002,aq (fR S.fr))]) (λ_=>[(3006,0)]) [1000000,3001,3002,3006] ([],S.st)
  ⟨by rw[<- O];simp only[aav,Nat.sub_zero,aiR];cases jx n S.st<;>rfl,ahp _,E⟩ ⟨.inl rfl,.inl rfl,.inl rfl,.inl rfl,trivial⟩ ⟨rfl,rfl,rfl,trivial⟩ ⟨rfl,trivial⟩ rfl (agD {S with st:=S.st} rfl rfl rfl) rfl ?_
 rintro⟨l,s⟩ ⟨F,C,B⟩ ih;simp only at F C B;by_cases D:l.length=n
 ·have Q:decide ((l.length:Int)<(n:Int))=false:=acf ai;have V:res=some (l,s):=by rw[F,D,Nat.sub_self];simp[jx]
  rw[V];clear ih;exact dm
 have Q:decide ((l.length:Int)<(n:Int)):=ace ai;obtain⟨m,U⟩:∃m,n-l.length=m+1:=⟨n-l.length-1,ai⟩;cases s with
 |nil =>
  have V:res=none:=by rw[F,U];simp[jx]
  rw[V];clear ih;have M:=adM {S with st:=[]} rfl;exact dm
 |cons v t =>
  simp only[aat]at B;have P:i64.wrap ((l.length:Int)+1)=((l++[v]).length:Nat):=by rw[gW ai ai];simp only[acg,aat,aav];omega
  have V:res=(jx (n-(l++[v]).length) t).map (λq=>(l++[v]++q.1,q.2)):=by rw[F,U,show n-(l++[v]).length=m from by simp only[acg,aat,aav];omega];simp only[jx];cases jx m t<;>simp
  have N:(l++[v]).length<=n:=by simp only[acg,aat,aav];omega
  have W:aa l++[bz v]=aa (l++[v]):=(mU l [v]).symm;have A:=aE l;obtain⟨k,u,T,Y,J,K,code⟩:=v
  repeat' (first|refine pS ?_|refine zc ?_ ?_|(intro h;first|(cases h;done)|rw[h]|skip)|refine xY ?_ (hq:=aa3 {S with st := .mk k u T Y J K code::t} _ _ rfl ai)|(refine uA rfl ?_ ?_<;>(try (show(_:Nat)*_<=_;dsimp only))))
  show(_:Nat)<=_;simp only[aat,aav];omega;refine AK.gK [(1000000,1000000),(3001,100014),(3002,200014)] [(3006,(0,some 3006))] (env':=[(0,.ptr 1000000 0),(9,.c (ah (n:Nat))),(10,.c (ah ((l++[Vl.mk k u T Y J K code]).length:Nat))),(6,.own (.tok 3006 0) 7 (aa (l++[Vl.mk k u T Y J K code])))])
   (bs':=[(1000000,mC {S with st:=t} 3001 3002),(3001,aq (sR t)),(3002,aq (fR S.fr))]) (ts':=[(3006,0)]) (us':=[1000000,3001,3002,3006])
   ⟨⟨_,Z,⟨_,Z,Z⟩⟩,⟨_,Z,.inl Z⟩,⟨_,Z,.inl (ahm (λz=>AV.c (.int .i64 z)) P)⟩,⟨_,Z,⟨_,Z,.inr ⟨_,_,Z,Z,by rw[<- W];rfl⟩⟩⟩,trivial⟩ (cvB Z Z Z Z Z Z Z Z Z) Z ?_
  exact ih (l++[Vl.mk k u T Y J K code],t) ⟨V,N,by show t.length<=_;omega⟩ (by show n-(l++[_]).length<n-l.length;simp only[acg,aat,aav];omega)
def cR(k n:Int):af 134 [ah k,ah n] (bz (aO k n)):=by exact qdq func134 call134
def lH(b:Bool):af 143 [.bool b] (bz (jL b)):=by have Y:=cR 2 1;have C:=cR 2 0;cases b;exact qdq func143 call143;exact qdq func143 call143
def hJ(l:Ξ):af 133 [.sl 7 (aa l)] (bz (cr l)):=by exact qdq func133 call133
def jM(a b:Vl):af 132 [bz a,bz b] (bz (aU a b)):=by obtain⟨V,U,T,P,Y,H,B⟩:=a;obtain⟨E,S,O,p,W,u,Q⟩:=b;exact qdq func132 call132
def mV(p:Int)(h:40<=p/\p<=95):af 113 [ah p] (ah (bP p:Nat)):=by
 have M:p=40\/p=41\/p=42\/p=43\/p=44\/p=45\/p=46\/p=47\/p=48\/p=49\/p=50\/p=51\/p=52\/p=53\/p=54\/p=55\/p=56\/p=57\/p=58\/p=59\/p=60\/p=61\/p=62\/p=63\/p=64\/p=65\/p=66\/p=67\/p=68\/p=69\/p=70\/p=71\/p=72\/p=73\/p=74\/p=75\/p=76\/p=77\/p=78\/p=79\/p=80\/p=81\/p=82\/p=83\/p=84\/p=85\/p=86\/p=87\/p=88\/p=89\/p=90\/p=91\/p=92\/p=93\/p=94\/p=95:=by omega
 clear h;rcases M with rfl|rfl|rfl|rfl|rfl|rfl|rfl|rfl|rfl|rfl|rfl|rfl|rfl|rfl|rfl|rfl|rfl|rfl|rfl|rfl|rfl|rfl|rfl|rfl|rfl|rfl|rfl|rfl|rfl|rfl|rfl|rfl|rfl|rfl|rfl|rfl|rfl|rfl|rfl|rfl|rfl|rfl|rfl|rfl|rfl|rfl|rfl|rfl|rfl|rfl|rfl|rfl|rfl|rfl|rfl|rfl
 all_goals
  first
  |(refine aZ.of func113 rfl (λV w=>call113 V w) (ahw Z) [(0,.c (ah _))] Z λU Y=>?_;have hf:=func113;exact dq)
def pE(p a b:Int):af 137 [ah p,ah a,ah b] (ah (ofM p a b)):=by
 refine qn func137 call137 λY hf=>?_
 repeat' (first|refine sz ?_|refine zc ?_ ?_|(intro h;first|(cases h;done)|rw[h]|skip))
 all_goals (show(_:CV)=_;clear hf;unfold ofM;simp_all)
end Go.Proofs
namespace Go.Proofs
open Go.cE
attribute [local irreducible] AK ag aZ
def I0{n:Int}(Y:0<=n)(V:n<=18446744073709551615):IntKind.u64.wrap n=n:=by simp[IntKind.wrap,IntKind.bits,IntKind.signed];omega
def T5(x:Int)(C:0<=x)(Y:x<=18446744073709551615):IntKind.u64.wrap ((BitVec.ofInt (IntKind.bits .u64) x&&&BitVec.ofInt (IntKind.bits .u64) 4294967295).toNat:Nat)=x%4294967296:=by
 have e:((BitVec.ofInt (IntKind.bits .u64) x&&&BitVec.ofInt (IntKind.bits .u64) 4294967295).toNat)=x.toNat%4294967296:=by
  rw[BitVec.toNat_and,BitVec.toNat_ofInt,BitVec.toNat_ofInt];have A:((4294967295:Int)%((2^IntKind.bits .u64:Nat):Int)).toNat=2^32-1:=by decide
  have Q:(x%((2^IntKind.bits .u64:Nat):Int)).toNat=x.toNat:=by have:((2^IntKind.bits .u64:Nat):Int)=18446744073709551616:=(by decide);rw[this,Int.emod_eq_of_lt C ai]
  rw[A,Q,akZ]
 rw[e,I0 ai ai];omega
def aiH(V W U Y:Int)(h:0<=Y):V+(W+Y/4294967296)/4294967296+((W+Y/4294967296)%4294967296+U)/4294967296=(V*18446744073709551616+(W+U)*4294967296+Y)/18446744073709551616:=by omega
def adu(T O C B:Int):(T*4294967296+O)*(C*4294967296+B)=(T*C)*18446744073709551616+(T*B+O*C)*4294967296+O*B:=by
 simp only[Int.add_mul,Int.mul_add];have A:T*4294967296*(C*4294967296)=T*C*18446744073709551616:=by rw[<- alo,Int.mul_right_comm T 4294967296 C,alo];rfl
 rw[Int.mul_right_comm T 4294967296 B,A,<- alo O C];omega
def q8{a b c d:Int}(V:0<=a)(U:a<=c)(B:0<=b)(Y:b<=d):0<=a*b/\a*b<=c*d :=
 ⟨Int.mul_nonneg V B,Int.mul_le_mul U Y B ai⟩
def QZ(x y:Int)(u:0<=x/\x<=1152921504606846976)(q:0<=y/\y<=1152921504606846976) :
  af 154 [.int .u64 x,.int .u64 y] (.eK [.int .u64 (x*y/18446744073709551616),.int .u64 (x*y%18446744073709551616)]):=by
 refine qn func154 call154 λr hf=>?_;refine dn ?_;have Y:∀n:Int,n.fdiv (2^min 32 (IntKind.bits .u64))=n/4294967296:=λn=>by rw[show(2:Int)^(min 32 (IntKind.bits .u64))=4294967296 from by decide];exact akl n bn
 have D:∀n:Int,IntKind.u64.wrap n=n%18446744073709551616:=λn=>by simp[IntKind.wrap,IntKind.bits,IntKind.signed]
 simp only[Y,T5 x ai ai,T5 y ai ai];obtain⟨T,O,N,W,F,z,S,Q,K⟩:∃T O:Int,x/4294967296=T/\x%4294967296=O/\0<=T/\T<=268435456/\0<=O/\O<=4294967295/\x=T*4294967296+O:=⟨_,_,rfl,rfl,ai,ai,ai,ai,ai⟩;obtain⟨C,B,J,V,t,M,G,P,I⟩:∃C B:Int,y/4294967296=C/\y%4294967296=B/\0<=C/\C<=268435456/\0<=B/\B<=4294967295/\y=C*4294967296+B:=⟨_,_,rfl,rfl,ai,ai,ai,ai,ai⟩;rw[D (x*y)];rw[N,W,J,V];have e:=adu T O C B;rw[<- K,<- I]at e;have H:=q8 F z t M;have E:=q8 F z G P;have A:=q8 S Q t M;have U:=q8 S Q G P;have p:=aiH (T*C) (T*B) (O*C) (O*B) U.1;rw[<- e]at p;rw[<- p];generalize T*C=p11 at *;generalize T*B=p10 at *;generalize O*C=p01 at *;generalize O*B=p00 at *;rw[I0 (n:=p00) ai ai,I0 (n:=p10) ai ai,I0 (n:=p01) ai ai,I0 (n:=p11) ai ai];rw[I0 (n:=p10+p00/4294967296) ai ai,T5 _ ai ai];rw[I0 (n:=p11+_) ai ai,I0 (n:=(p10+p00/4294967296)%4294967296+p01) ai ai,I0 ai ai]
def AW(a:Int):0<=(pU a).1/\(pU a).1<=1152921504606846976:=by
 unfold pU;split
 ·rename_i h;have:=og.1 h;dsimp only;split<;>omega
 simp
def aeM(a:Int):0<=IntKind.u64.wrap (pU a).1/\IntKind.u64.wrap (pU a).1<=1152921504606846976:=by have:=AW a;rw[I0 ai ai];exact this
def aaq(a:Int):IntKind.u64.wrap (pU a).1=(pU a).1:=by have:=AW a;exact I0 ai ai
def aar(a:Int):((pU a).2 != 0) = !yE a:=by unfold pU;split;rename_i h;simp[h];rename_i h;simp[h]
def aas(a b:Int)(Y:yE a)(U:yE b):((!(decide (a<0)==decide (b<0)))=false->(pU a).1*(pU b).1=a*b)/\((!(decide (a<0)==decide (b<0)))->(pU a).1*(pU b).1 = -(a*b)):=by by_cases V:a<0<;>by_cases T:b<0<;>simp[pU,Y,U,V,T,Int.neg_mul_neg,Int.neg_mul,Int.mul_neg]
def LH(a b:Int):af 139 [.int .i64 a,.int .i64 b] (two (vI a b)):=by
 refine qn func139 call139 λP hf=>?_
 repeat' (first|refine sz ?_|refine zc ?_ ?_|(intro h;first|(cases h;done)|rw[h]|skip)|refine uC Z (ES a) ?_|refine uC Z (ES b) ?_|refine uC Z (QZ _ _ (aeM _) (aeM _)) ?_)
 all_goals simp only[aar,aaq]at *
 simp_all [vI,two];simp_all [vI,two]
 all_goals
  obtain⟨U,T⟩:yE a/\yE b:=by simp_all
  obtain⟨S,V⟩:=aas a b U T;have Q:=q8 (AW a).1 (AW a).2 (AW b).1 (AW b).2;rw[show vI a b=nP (a*b)from by simp[vI,U,T]];generalize (pU a).1*(pU b).1=q at *;generalize a*b=r at *
 ·have B:q/18446744073709551616≠0:=by simp_all
  have Y:¬(yE r):=by rw[og];cases I:(!(decide (a<0)==decide (b<0)))<;>simp only[I,true_implies,reduceCtorEq,false_implies]at S V<;>omega
  simp[nP,Y,two]
 ·have B:q/18446744073709551616=0:=by simp_all
  have W:q%18446744073709551616>1152921504606846976:=by simp_all
  have Y:¬(yE r):=by rw[og];cases I:(!(decide (a<0)==decide (b<0)))<;>simp only[I,true_implies,reduceCtorEq,false_implies]at S V<;>omega
  simp[nP,Y,two]
 ·have B:q/18446744073709551616=0:=by simp_all
  have W:q%18446744073709551616<=1152921504606846976:=by simp_all
  have M:=V ew;have Y:yE r:=og.2 ai;rw[gW (n:=q%18446744073709551616) ai ai,gW ai ai];simp only[nP,Y,two,if_true];exact aaf ai Z
 have B:q/18446744073709551616=0:=by simp_all
 have W:q%18446744073709551616<=1152921504606846976:=by simp_all
 have M:=S ew;have Y:yE r:=og.2 ai;rw[gW (n:=q%18446744073709551616) ai ai];simp only[nP,Y,two,if_true];exact aaf ai Z
end Go.Proofs
namespace Go.Proofs
open Go.cE
def I6:∀(l:Ξ)(k:Vl),bY l k<=l.length
 |[],_=>acd _
 |x::l,k=>by simp only[bY];split;have:=I6 l k;simp only[aat];omega;omega
def RK:∀{l:Ξ}{k:Vl}{i:Nat}{x:Vl},i<bY l k->l[i]?=some x->ee (ou x) k<0
 |[],_,i,x,h,e=>by simp at e
 |y::l,k,i,x,h,e=>by
  simp only[bY]at h;split at h
  ·rename_i D;cases i with
   |zero=>simp at e;subst e;exact D
   |succ i=>simp at e;exact RK ai e
  omega
attribute [local irreducible] AK ag aZ bS cA de ee
def KD(x k y:Vl)(t:Ty)(O:(cP x)[0]?=some y)(F:af 75 [bz y,bz k] (ah (ee y k))):af 152 [bz x,bz k] (ah (ee (ou x) k)):=by
 have I:ou x=y:=by unfold ou;rw[aiC,O];rfl
 rw[I];have V:(aa (cP x))[0]?=some (bz y):=by rw[lR,O];rfl
 clear I O;generalize ee y k=r at F ⊢;obtain⟨U,q,T,P,Y,H,B⟩:=x;obtain⟨E,S,C,p,W,u,Q⟩:=k;obtain⟨N,n3,M,K,J,G,D⟩:=y;exact qdq func152 call152
def agA(D H:Nat)(h:D+H<=4000000000):i64.wrap ((IntKind.u64.wrap (i64.wrap ((D:Nat)+(H:Nat)))).fdiv (2^(min 1 IntKind.u64.bits)))=(((D+H)/2:Nat):Int):=by
 rw[gW (n:=(D:Int)+H) ai ai];have Y:IntKind.u64.wrap ((D:Int)+H)=((D+H:Nat):Int):=by rw[IntKind.wrap_u64];omega
 rw[Y];have V:((D+H:Nat):Int).fdiv (2^(min 1 IntKind.u64.bits))=(((D+H)/2:Nat):Int):=by rw[show(min 1 IntKind.u64.bits)=1 from rfl];rw[akl _ bn];omega
 rw[V,gW ai ai]
def KI(m:Ξ)(k:Vl)(hl:m.length<=1000000000)(F:∀x∈m,af 152 [bz x,bz k] (ah (ee (ou x) k)))
  (N:∀(i:Nat) x,bY m k<=i->m[i]?=some x->¬ee (ou x) k<0) :
  af 151 [.sl 7 (aa m),bz k,.sX 152 []] (.eK [ah (bY m k:Nat),.bool (fB m k)]):=by
 have A:=I6 m k;have T:∀{i:Nat}{x:Vl},i<bY m k->m[i]?=some x->ee (ou x) k<0:=λh e=>RK h e;have W:fB m k=match m[bY m k]? with|some x=>decide (ee (ou x) k=0)|none=>false:=rfl
 generalize bY m k=p at A T N W ⊢;generalize fB m k=fd at W ⊢;have q:=aE m;obtain⟨E,S,y,Q,Y,u,P⟩:=k;refine qn func151 call151 λβ hf=>?_;refine dn ?_;refine AK.dg (α:=Nat×Nat) (λz=>z.1<=p/\p<=z.2/\z.2<=m.length) (λz=>z.2-z.1)
  (λz=>[(0,.c (.sl 7 (aa m))),(2,.c (.sX 152 [])),(4,.ptr 4 0),(8,.c (ah ((aa m).length:Nat))),(9,.c (ah (z.1:Nat))),(10,.c (ah (z.2:Nat)))])
  (λz=>[(4,[.c (ah E),.c (ah S),.c (ah y),.c (.str Q),.c (.sl 7 (aa Y)),.c (.sl 2 (az u)),.c (.sl 5 (aD P))])]) (λ_=>[]) [4] (0,(aa m).length)
  ⟨ahp _,by show p<=(aa m).length;omega,by show(aa m).length<=_;omega⟩ ce ⟨Z,trivial⟩ trivial Z Z Z ?_
 rintro⟨D,H⟩ ⟨t,o,j⟩ ih;simp only at t o j;by_cases f:D<H
 ·have d:decide ((D:Int)<(H:Int)):=ace ai;have V:=agA D H ai;obtain⟨x,O⟩:∃x,m[(D+H)/2]?=some x:=⟨_,ahl ai⟩;have U:=F x (acm O);have M:(aa m)[(D+H)/2]?=some (bz x):=by rw[lR,O];rfl
  have C := @N ((D+H)/2) x;have B := @T ((D+H)/2) x;clear F;generalize ee (ou x) (.mk E S y Q Y u P)=r at U C B;obtain⟨k1,n1,a1,s1,I,an,aB⟩:=x;by_cases G:r<0
  ·have AU:decide (r<0):=ace G;have hw:i64.wrap ((((D+H)/2:Nat):Int)+1)=(((D+H)/2+1:Nat):Int):=(by rw[gW ai ai];omega);have K:(D+H)/2+1<=p:=by
    rcases ajK ((D+H)/2) p with h|h
    omega;exact absurd G (C h O)
   repeat' (first|refine sz ?_|refine zc ?_ ?_|(intro h;first|(cases h;done)|rw[h]|skip)|refine uI Z ((D+H)/2) V M Z ?_|refine uC Z U ?_)
   refine AK.gK [(4,4)] [] (env':=[(0,.c (.sl 7 (aa m))),(2,.c (.sX 152 [])),(4,.ptr 4 0),(8,.c (ah ((aa m).length:Nat))),(9,.c (ah (((D+H)/2+1:Nat):Int))),(10,.c (ah (H:Int)))])
    (bs':=[(4,[.c (ah E),.c (ah S),.c (ah y),.c (.str Q),.c (.sl 7 (aa Y)),.c (.sl 2 (az u)),.c (.sl 5 (aD P))])]) (ts':=[]) (us':=[4])
    ⟨⟨_,Z,.inl Z⟩,⟨_,Z,.inl Z⟩,⟨_,Z,⟨_,Z,Z⟩⟩,⟨_,Z,.inl Z⟩,⟨_,Z,.inl (ahm (λz=>AV.c (.int .i64 z)) (by rw[V];exact hw))⟩,⟨_,Z,.inl Z⟩,trivial⟩ ce Z ?_
   exact ih ((D+H)/2+1,H) ⟨by show _<=p;omega,by show p<=_;omega,by show _<=m.length;omega⟩ (by show _-_<H-D;omega)
  have AU:decide (r<0)=false:=acf G;have K:p<=(D+H)/2:=by
   rcases ajK ((D+H)/2) p with h|h
   exact absurd (B h O) G;exact h
  repeat' (first|refine sz ?_|refine zc ?_ ?_|(intro h;first|(cases h;done)|rw[h]|skip)|refine uI Z ((D+H)/2) V M Z ?_|refine uC Z U ?_)
  refine AK.gK [(4,4)] [] (env':=[(0,.c (.sl 7 (aa m))),(2,.c (.sX 152 [])),(4,.ptr 4 0),(8,.c (ah ((aa m).length:Nat))),(9,.c (ah (D:Int))),(10,.c (ah (((D+H)/2:Nat):Int)))])
   (bs':=[(4,[.c (ah E),.c (ah S),.c (ah y),.c (.str Q),.c (.sl 7 (aa Y)),.c (.sl 2 (az u)),.c (.sl 5 (aD P))])]) (ts':=[]) (us':=[4])
   ⟨⟨_,Z,.inl Z⟩,⟨_,Z,.inl Z⟩,⟨_,Z,⟨_,Z,Z⟩⟩,⟨_,Z,.inl Z⟩,⟨_,Z,.inl Z⟩,⟨_,Z,.inl (ahm (λz=>AV.c (.int .i64 z)) V)⟩,trivial⟩ ce Z ?_
  exact ih (D,(D+H)/2) ⟨by show _<=p;omega,by show p<=_;omega,by show _<=m.length;omega⟩ (by show _-_<H-D;omega)
 have d:decide ((D:Int)<(H:Int))=false:=acf ai;have he:D=p:=by omega
 subst he;clear ih T N;by_cases hn:D<m.length
 ·have J:decide ((D:Int)<(((aa m).length:Nat):Int)):=ace ai;obtain⟨x,O⟩:∃x,m[D]?=some x:=⟨_,ahl hn⟩;rw[O]at W;have U:=F x (acm O);have M:(aa m)[D]?=some (bz x):=by rw[lR,O];rfl
  clear F;simp only at W;subst W;generalize ee (ou x) (.mk E S y Q Y u P)=r at U ⊢;obtain⟨k1,n1,a1,s1,I,an,aB⟩:=x;exact dq
 have J:decide ((D:Int)<(((aa m).length:Nat):Int))=false:=acf ai;rw[aiL ai]at W;simp only at W;subst W;clear F;exact dq
def NR(m:Ξ)(k:Vl)(E:m.length<=1000000000)(Q:∀x∈m,af 152 [bz x,bz k] (ah (ee (ou x) k)))
  (W:∀(i:Nat) x,bY m k<=i->m[i]?=some x->¬ee (ou x) k<0) :
  af 135 [.sl 7 (aa m),bz k] (.eK [ah (bY m k:Nat),.bool (fB m k)]):=by
 have U:=KI m k E Q W;clear Q W;obtain⟨V,S,P,p,Y,u,T⟩:=k;exact qdq func135 call135
end Go.Proofs
namespace Go.Proofs
open Go.cE
def alU(G u B:Prop)[Decidable G][Decidable u][Decidable B]:(if G then 0 else if u then 2 else if B then 3 else 1:Nat)<=3:=by by_cases V:G;rw[if_pos V];omega;rw[if_neg V];by_cases U:u;rw[if_pos U];omega;rw[if_neg U];by_cases Y:B;rw[if_pos Y];omega;rw[if_neg Y];omega
def ql(p:Int):bP p<=3:=by unfold bP;exact alU _ _ _
def qm{S:bM}{n:Nat}{l r:Ξ}(I:n<=3)(E:S.st.length<=1099511627776)(h:jx n S.st=some (l,r)):cM 112 S [.c (ah (n:Nat))] (.eK [.sl 7 (aa l),.bool true]) {S with st:=r}:=by have Y:=UL S n I E;rw[h]at Y;exact Y
attribute [local irreducible] AK ag aZ bS cA de nQ bP
def wW(S u:bM)(T N P:Int)(s:Δ)(V:Θ)(l r:Ξ)(e:Int)(p:P=40\/P=41\/P=42\/P=43\/P=44)(C:jx (bP P) S.st=some (l,r))(E:S.st.length<=1099511627776)(Y:cM 114 {S with st:=r} [.c (aV (.mk T N P s V)),.c (.sl 7 (aa l))] (ah e) u):cM 98 S [.c (aV (.mk T N P s V))] (ah e) u:=by
 have q:=mV P ai;have U:=qm (ql P) E C;generalize bP P=w at *;clear C;rcases p with rfl|rfl|rfl|rfl|rfl <;>
 ((refine mn func98 call98 λQ hf=>?_);(repeat' (first|refine pS ?_|refine zc ?_ ?_|(intro h;first|(cases h;done)|rw[h]|skip)|refine uC Z q ?_|refine xY ?_ (hq:=U)|refine xY ?_ (hq:=Y)));(all_goals rfl))
def kM(S u:bM)(T N P:Int)(s:Δ)(V:Θ)(l r:Ξ)(e:Int)(p:P=45\/P=46\/P=47\/P=48\/P=49\/P=50\/P=51\/P=53\/P=54\/P=56)(C:jx (bP P) S.st=some (l,r))(E:S.st.length<=1099511627776)(Y:cM 115 {S with st:=r} [.c (aV (.mk T N P s V)),.c (.sl 7 (aa l))] (ah e) u):cM 98 S [.c (aV (.mk T N P s V))] (ah e) u:=by
 have q:=mV P ai;have U:=qm (ql P) E C;generalize bP P=w at *;clear C;rcases p with rfl|rfl|rfl|rfl|rfl|rfl|rfl|rfl|rfl|rfl <;>
 ((refine mn func98 call98 λQ hf=>?_);(repeat' (first|refine pS ?_|refine zc ?_ ?_|(intro h;first|(cases h;done)|rw[h]|skip)|refine uC Z q ?_|refine xY ?_ (hq:=U)|refine xY ?_ (hq:=Y)));(all_goals rfl))
def gO(S u:bM)(T N P:Int)(s:Δ)(V:Θ)(l r:Ξ)(e:Int)(p:P=52\/P=55\/P=58\/P=60\/P=64\/P=65\/P=66\/P=67\/P=68)(C:jx (bP P) S.st=some (l,r))(E:S.st.length<=1099511627776)(Y:cM 116 {S with st:=r} [.c (aV (.mk T N P s V)),.c (.sl 7 (aa l))] (ah e) u):cM 98 S [.c (aV (.mk T N P s V))] (ah e) u:=by
 have q:=mV P ai;have U:=qm (ql P) E C;generalize bP P=w at *;clear C;rcases p with rfl|rfl|rfl|rfl|rfl|rfl|rfl|rfl|rfl <;>
 ((refine mn func98 call98 λQ hf=>?_);(repeat' (first|refine pS ?_|refine zc ?_ ?_|(intro h;first|(cases h;done)|rw[h]|skip)|refine uC Z q ?_|refine xY ?_ (hq:=U)|refine xY ?_ (hq:=Y)));(all_goals rfl))
def tZ(S u:bM)(T N P:Int)(s:Δ)(V:Θ)(l r:Ξ)(e:Int)(p:P=57\/P=59\/P=61\/P=62\/P=63)(C:jx (bP P) S.st=some (l,r))(E:S.st.length<=1099511627776)(Y:cM 117 {S with st:=r} [.c (aV (.mk T N P s V)),.c (.sl 7 (aa l))] (ah e) u):cM 98 S [.c (aV (.mk T N P s V))] (ah e) u:=by
 have q:=mV P ai;have U:=qm (ql P) E C;generalize bP P=w at *;clear C;rcases p with rfl|rfl|rfl|rfl|rfl <;>
 ((refine mn func98 call98 λQ hf=>?_);(repeat' (first|refine pS ?_|refine zc ?_ ?_|(intro h;first|(cases h;done)|rw[h]|skip)|refine uC Z q ?_|refine xY ?_ (hq:=U)|refine xY ?_ (hq:=Y)));(all_goals rfl))
def eZ(S u:bM)(T N P:Int)(s:Δ)(V:Θ)(l r:Ξ)(e:Int)(p:P=69\/P=70\/P=71\/P=72\/P=93\/P=94\/P=95)(C:jx (bP P) S.st=some (l,r))(E:S.st.length<=1099511627776)(Y:cM 118 {S with st:=r} [.c (ah P),.c (.sl 7 (aa l))] (ah e) u):cM 98 S [.c (aV (.mk T N P s V))] (ah e) u:=by
 have q:=mV P ai;have U:=qm (ql P) E C;generalize bP P=w at *;clear C;rcases p with rfl|rfl|rfl|rfl|rfl|rfl|rfl <;>
 ((refine mn func98 call98 λQ hf=>?_);(repeat' (first|refine pS ?_|refine zc ?_ ?_|(intro h;first|(cases h;done)|rw[h]|skip)|refine uC Z q ?_|refine xY ?_ (hq:=U)|refine xY ?_ (hq:=Y)));(all_goals rfl))
def iR(S u:bM)(T N P:Int)(s:Δ)(V:Θ)(l r:Ξ)(e:Int)(p:P=73\/P=74\/P=75\/P=76\/P=77\/P=78\/P=79\/P=80\/P=81\/P=82\/P=83)(C:jx (bP P) S.st=some (l,r))(E:S.st.length<=1099511627776)(Y:cM 119 {S with st:=r} [.c (aV (.mk T N P s V)),.c (.sl 7 (aa l))] (ah e) u):cM 98 S [.c (aV (.mk T N P s V))] (ah e) u:=by
 have q:=mV P ai;have U:=qm (ql P) E C;generalize bP P=w at *;clear C;rcases p with rfl|rfl|rfl|rfl|rfl|rfl|rfl|rfl|rfl|rfl|rfl <;>
 ((refine mn func98 call98 λQ hf=>?_);(repeat' (first|refine pS ?_|refine zc ?_ ?_|(intro h;first|(cases h;done)|rw[h]|skip)|refine uC Z q ?_|refine xY ?_ (hq:=U)|refine xY ?_ (hq:=Y)));(all_goals rfl))
def lT(S u:bM)(T N P:Int)(s:Δ)(V:Θ)(l r:Ξ)(e:Int)(p:P=84\/P=85\/P=86\/P=87\/P=88\/P=89\/P=90\/P=91\/P=92)(C:jx (bP P) S.st=some (l,r))(E:S.st.length<=1099511627776)(Y:cM 120 {S with st:=r} [.c (aV (.mk T N P s V)),.c (.sl 7 (aa l))] (ah e) u):cM 98 S [.c (aV (.mk T N P s V))] (ah e) u:=by
 have q:=mV P ai;have U:=qm (ql P) E C;generalize bP P=w at *;clear C;rcases p with rfl|rfl|rfl|rfl|rfl|rfl|rfl|rfl|rfl <;>
 ((refine mn func98 call98 λQ hf=>?_);(repeat' (first|refine pS ?_|refine zc ?_ ?_|(intro h;first|(cases h;done)|rw[h]|skip)|refine uC Z q ?_|refine xY ?_ (hq:=U)|refine xY ?_ (hq:=Y)));(all_goals rfl))
end Go.Proofs
namespace Go.cE
open Go.ChangeShapes Go.WideShapes Go.RowKit
def HM{P:Program}{w:World}{r:Reach}{Y:Nat}{t:TypeId}{v:Value}(h:Cell.ok P w r Y t v):(∀V,v ≠ .agg V)/\∀V,v ≠ .tuple V:=by
 constructor
 ·rintro V rfl;unfold Cell.ok at h;split at h<;>simp_all
 rintro V rfl;unfold Cell.ok at h;split at h<;>simp_all
def Zg{P:Program}{w:World}(S:w.ShapedOpen P){g:Nat}{zero:Array Value}{t:TypeId}(N:Nat.blt g P.globals.size)
  (C:((begin P (λ_ _=>0) default).world.heap[g]?).bind Obj.row?=some (zero,t))(U:P.buildable t)(W:zero.size=2) :
  Rel (oU w) (.ip [.any,.any]) (.pointer (some ⟨g,0,none⟩)):=by
 obtain⟨O,K,M,B⟩:=S.1 g zero t (Nat.blt_eq.mp N) C;obtain⟨J,_,_,Y⟩:=B U;rw[W]at M;have V:O[0]?=some O[0]:=by simp[M]
 have G:O[1]?=some O[1]:=by simp[M]
 obtain⟨_,_,T⟩:=Y 0 _ V;obtain⟨_,_,Q⟩:=Y 1 _ G;simp only[Rel];refine⟨g,0,Z,?_⟩;simp only[dS];refine⟨⟨O[0],?_,?_,Z⟩,⟨O[1],?_,?_,Z⟩,trivial⟩;simp[oU,World.cell?,K];simp only[Rel];exact HM T;simp[oU,World.cell?,K];simp only[Rel];exact HM Q
section
variable {H:Type}{enc:TypeId×Value->H}{P:Program}{W:World}
def vD{a:Assume}{C:Checked}{E:Os}{f:FuncId}{K:Func}{s:OpenSpec}{k:(H:Type)->L (DataW H)->Bool}(o:s.cond=some k){F:Stop.Interp}{U:L PathCond}{Y Q T again:Bool}
  (own:ownKnob C.prog.godebug=none)(P:E.Started)(N:C.prog.inits.idxOf? f=none)(D:C.prog.funcs[f]?=some K)
  (O:∃(w:World) (V:Tape) (i:Input),w.os=E/\(w.forCall V i).Shaped C.prog/\i.vars=[]/\Input.okWide C.prog (w.forCall V i) .any w.heap.size f i /\
   s.pre6 enc C.prog K U Y (w.forCall V i).memory i.args/\a.holds C.prog (lone (Frame.enter C.prog f i.args .normal) [] (w.forCall V i)))
  (S:∀(W:World)(p:W.ShapedOpen C.prog)(y:Nat)(z:Array Value)(M J:L (DataW H))(before:L MemPlace),
   (∀(j:Nat) t v,K.params[j]?=some t->z[j]?=some v->Value.okWide C.prog W .any y t v) ->
   DataW.Whole enc C.prog K.params.toList s.vars Y W z.toList M J before ->
   U.all (PathCond.test C.prog ⟨K.params.toList,M,s.bare.plain.varTypes C.prog,J⟩)->k H (M++J) ->
   a.holds C.prog (lone (Frame.enter C.prog f z .normal) [] W) ->
   Calls C.prog f z W λe r=>∃v,e = .returned v/\(s.at F).post enc C.prog K Y Q T again W z v r) :
  ReturnsInHanded a C E f .any (s.pre6 enc C.prog K U Y) ((s.at F).post enc C.prog K Y Q T again):=by
 refine returnsInHanded_of_calls own P N O ?_;intro w V i _ p _ x I B;obtain⟨_,_,_,A,u,_,_,_,_,G⟩:=x;obtain rfl:A=K:=Option.some.inj (u.symm.trans D);obtain⟨M,J,before,m,d,q⟩:=(OpenSpec.pre_some o U Y _ _).1 I.1;refine(S (w.forCall V i) p w.heap.size i.args M J before G (DataW.Whole.of_heap (w':=w.forCall V i) UK m) d q B).mono λe r ⟨v,b,hp⟩=>?_;subst b;exact ChangeSpec.post_blind hp
def Eh{X:Ctx}{f:FuncId}{K:Func}{s:ChangeSpec}{Y U V again:Bool}{args:Array Value}{S O:L (DataW H)}{before:L MemPlace}{F:Ψ}
  (z:aZ P X f F (.bool true))(A:cy (oU W) F args.toList)(B:rR X (oU W))
  (I:DataW.Whole enc P K.params.toList s.vars Y W args.toList S O before)(T:s.vars=[])
  (E:laidOutB P)(J:mapsRowed P)(G:∀t e,t<P.types.size->P.underlying t=some (.slice e)->0<P.cellsOf e)(D:(K.params.toList.all λt=>Nat.blt t P.types.size))
  {N:TypeId}(C:K.resultTypes = #[N])(q:P.underlying N=some .bool)(Q:s.fn H (S++O)={results:=[.lit (.bool true)],args:=S}) :
  Calls P f args W λe M=>∃v,e = .returned v/\s.post enc P K Y U V again W args v M:=by
 have h:=z.2 (oU W) W args.toList (afS W) B A;rw[show args.toList.toArray=args from by simp]at h;refine h.mono ?_;rintro e M ⟨u,r,rfl,p,y⟩;simp only[Rel]at p;subst p;exact⟨_,Z,Tc I T E J G (λt x=>by have:=List.all_eq_true.1 D t x;simpa[ajd]using this) y C q Z Q⟩
end
end Go.cE
namespace Go.Proofs
open Go.cE
def Tryz.Td{W:World}(S:W.ShapedOpen Tryz.prog):rR Tryz.X (oU W):=λn v u=>by
 have Y:au n [(0,.ip [.any,.any])]=some v:=u;simp only[au]at Y;cases I:Nat.beq 0 n with
 |false=>rw[I]at Y;cases Y
 |true =>
  rw[I]at Y;obtain rfl:=akJ I;cases Y;exact Zg S (zero := #[.slice none 0 0,.bool false]) (t:=93) (by kernel_rfl) (by kernel_rfl) (by kernel_rfl) Z
end Go.Proofs
