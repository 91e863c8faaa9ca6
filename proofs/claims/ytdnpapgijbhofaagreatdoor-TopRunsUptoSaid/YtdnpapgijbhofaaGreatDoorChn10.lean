/- Package chain: -/
import Derived.Test.YtdnpapgijbhofaaGreatDoorChn6
open Go.IntKind
open Go.Proofs.Tryz
set_option linter.defProp false
set_option linter.unusedVariables false
set_option linter.unusedSimpArgs false
set_option maxHeartbeats 0
set_option maxRecDepth 100000
namespace Go.Proofs
open Go.cw
def Wz(w:Wk):L (Nat×L AV):=match wO w with
 |none=>[(1000000,wB w 0)]
 |some f=>[(1000000,wB w 900002),(900002,f.map AV.c)]
def xE{w:Wk}(h:wO w=none):Wz w=[(1000000,wB w 0)]:=by unfold Wz;rw[h]
def uu{w:Wk}{f:L CV}(h:wO w=some f):Wz w=[(1000000,wB w 900002),(900002,f.map AV.c)]:=by unfold Wz;rw[h]
def SX(w:Wk):okB [1000000,900002,6000] (Wz w)=true:=by
 unfold Wz;cases h:wO w with
 |none=>exact xF (λJ=>absurd h J) Z
 |some f=>exact xF (λ_=>rfl) (FH Z)
def SY(w:Wk):Qq (Wz w) (Wz w):=by
 unfold Wz;cases h:wO w with
 |none=>exact⟨Z,trivial⟩
 |some f=>exact⟨Z,Z,trivial⟩
def xG(w:Wk):wO w=none\/∃z,wO w=some z:=by
 cases wO w with
 |none=>exact .inl Z
 |some z=>exact .inr ⟨z,Z⟩
def allM_nil(k:Nat)(w:Wk):allM k w []=(0,w):=by cases k<;>rfl
def yW{w:Wk}{x:w9}(h:w.made≠[]):(gC w x).2.made≠[]:=by
 unfold gC;obtain⟨fu,H,v⟩:=x;cases H with
 |none=>rw[Bw];exact h
 |some o =>
  dsimp only;split;rw[Bw];exact h;split;exact M4 _ h;exact h
attribute [local irreducible] AK ah aR bM cX cn bH cN gh dX.cq dX.hD wB eR
def Qr{E:Wk}{A:w9}(Q:Ac E)(hm0:(E.made.length:Int)<=E.done)(hx0:xH A):eR 55 E [.c (kO A)] (ag (allM 25 E [A]).1) (allM 25 E [A]).2:=by
 obtain⟨R,hR⟩:∃R,R=allM 25 E [A]:=⟨_,rfl⟩;rw[<- hR];obtain⟨Z0,K,⟨v1,v2,v3,v4,v5,v6,v7⟩⟩:=A;cases hm:wO E with
 |none =>
  refine ME hm func55 call55 λβ hf=>?_
  repeat' (first|exact wr|refine wz ?_)
  refine AK.fY [(1000000,1000000)] [(6000,(0,none))] (env':=[(0,.ptr 1000000 0),(5,.own (.tok 6000 0) 9 (dQ [⟨Z0,K,.mk v1 v2 v3 v4 v5 v6 v7⟩]))]) (bs':=[(1000000,wB E 0)]) (ts':=[(6000,0)]) (us':=[1000000,900002,6000])
   ce  ⟨⟨_,_,Z,Z,(mS E).conv _ _ _ _ (λh=>absurd hm h)⟩,trivial⟩ Z ?_
  rw[<- xE hm];refine AK.dN (α:=Nat×Wk×List w9) (λz=>Ac z.2.1/\(z.2.1.made.length:Int)<=z.2.1.done/\(∀x∈z.2.2,xH x)/\R=allM z.1 z.2.1 z.2.2/\(25:Int)<=z.1+z.2.1.done/\(z.2.2.length:Int)<=25+24*z.2.1.done) (λz=>(25-z.2.1.done).toNat)
   (λz=>[(0,.ptr 1000000 0),(5,.own (.tok 6000 0) 9 (dQ z.2.2))]) (λz=>Wz z.2.1) (λ_=>[(6000,0)]) [1000000,900002,6000] (25,E,[⟨Z0,K,.mk v1 v2 v3 v4 v5 v6 v7⟩])
   ⟨Q,hm0,λx P=>by rw[aga]at P;subst P;exact hx0,hR,Yy,abS⟩
   ce  (SY E) ⟨Z,trivial⟩ Z (SX E) Z ?_
  rintro⟨k,w,q⟩ ⟨M,Bm,C,U,hk,I⟩ ih;simp only at M Bm C U hk I ih;have hdn:=M.done;have h12:=M.xh.h12;cases q with
  |nil =>
   rw[allM_nil]at U;subst U;clear ih;have e1:decide (((dQ []).length:Int)>0)=false:=(by decide);rcases xG w with Y|⟨z,Y⟩
   ·rw[xE Y]
    repeat' (first|exact wr|refine wz ?_)
   rw[uu Y]
   repeat' (first|exact wr|refine wz ?_)
  |cons x q =>
   have e1:decide (((dQ (x::q)).length:Int)>0)=true:=(by rw[iP];exact aaX cS);cases k with
   |zero=>exfalso;omega
   |succ k =>
   simp only[allM]at U;by_cases J:24<=w.done
   ·rw[if_pos J]at U;subst U;clear ih;have e2:decide (w.done>=24)=true:=aaX J;rcases xG w with Y|⟨z,Y⟩
    ·rw[xE Y]
     repeat' (first|exact wr|refine wz ?_)
    rw[uu Y]
    repeat' (first|exact wr|refine wz ?_)
   rw[if_neg J]at U;have e2:decide (w.done>=24)=false:=aaY J;have P:=C x cc;have hq:=FI M P;have sW:=yX M Bm P;have W:=yY (w:=w) (w':=(gC w x).2) (λh=>yW h);have hlen:=iP;generalize gC w x=S at *;obtain⟨⟨more,e⟩,w'⟩:=S;obtain⟨T,s2,s3,s4,s5,s6,s7,s8⟩:=sW;simp only at T s2 s3 s4 s5 s6 s7 s8 hq U W;obtain⟨fu,op,⟨y1,y2,y3,y4,y5,y6,y7⟩⟩:=x;by_cases H:e≠0
   ·rw[if_pos H]at U;subst U;clear ih;have e3:(e != 0)=true:=(by simpa using H);have O:=T.xh.h12;rcases xG w with Y|⟨z,Y⟩
    ·rw[xE Y]
     repeat' (first|exact wr|refine wz ?_|refine Z1 Z Z hq Y Z Z Z Z Z (λ_=>by repeat' (first|exact Z|refine Il Z ?_|refine Im Z ?_)) Z Z (λh=>?_) (λf h=>?_)|refine ah.rN hX kn Z Z Z Z Z Z Z Z (l:=1) Z (agN (aeW _)) ?_)
    obtain⟨z',G⟩:=W ⟨z,Y⟩;rw[uu Y]
    repeat' (first|exact wr|refine wz ?_|refine Z2 Z Z hq Y G Z Z Z Z Z Z Z (λ_=>by repeat' (first|exact Z|refine Il Z ?_|refine Im Z ?_)) Z Z Z ?_|refine ah.rN hX kn Z Z Z Z Z Z Z Z (l:=1) Z (agN (aeW _)) ?_)
   rw[if_neg H]at U;have e3:(e != 0)=false:=(by simpa using H);have B:i64.wrap (w'.done+1)=w'.done+1:=iB ai ai;have O:=T.xh.h12;have ahB:({w' with done:=i64.wrap (w'.done+1)}:Wk).l.aS.length=12:=O;have D:dQ q++dQ more=dQ (q++more):=(sX _ _).symm
   have V:=ih (k,{w' with done:=w'.done+1},q++more) ⟨⟨T.xh,T.bU,T.au,by show 0<=w'.done+1/\w'.done+1<=24;omega,YC⟩,T.MF,λy N=>by
    rcases List.mem_append.1 N with N|N
    exact C y (by simp[N])
    exact s2 y N,U,Yq,aa1⟩ abX
   clear ih;rw[<- B]at V;have u:((dQ q).length+(dQ more).length)*128<=140737488355328:=(by rw[iP,iP];simp only[aag]at I;omega);rcases xG w with Y|⟨z,Y⟩
   ·rw[xE Y]
    repeat' (first|exact wr|refine wz ?_|refine Z1 Z Z hq Y Z Z Z Z Z (λ_=>by repeat' (first|exact Z|refine Il Z ?_|refine Im Z ?_)) Z Z (λh=>?_) (λf h=>?_)|refine ah.rN hX kn Z Z Z Z Z Z Z Z (l:=1) Z (agN (aeW _)) ?_|(refine uA Z ?_ ?_<;>(try (show(_:Nat)*_<=_;dsimp only))))
    exact u
    ·refine AK.fY [(1000000,1000000)] [(6000,(0,some 6000))] (env':=[(0,.ptr 1000000 0),(5,.own (.tok 6000 0) 9 (dQ (q++more)))]) (bs':=[(1000000,wB {w' with done:=i64.wrap (w'.done+1)} 0)]) (ts':=[(6000,0)]) (us':=[1000000,900002,6000])
      ⟨⟨_,rfl,⟨_,rfl,rfl⟩⟩,⟨_,rfl,⟨_,rfl,.inr ⟨_,_,rfl,rfl,aeM (AV.own (.tok 6000 1) 9) D⟩⟩⟩,trivial⟩ ⟨⟨_,_,rfl,rfl,(mS {w' with done:=i64.wrap (w'.done+1)}).conv _ _ _ _ (λhh=>absurd h hh)⟩,trivial⟩ rfl ?_
     rw[<- xE (w:={w' with done:=i64.wrap (w'.done+1)}) h];exact V
    exact u;refine AK.fY [(1000000,1000000),(900002,200028)] [(6000,(0,some 6000))] (env':=[(0,.ptr 1000000 0),(5,.own (.tok 6000 0) 9 (dQ (q++more)))]) (bs':=[(1000000,wB {w' with done:=i64.wrap (w'.done+1)} 900002),(900002,f.map AV.c)]) (ts':=[(6000,0)]) (us':=[1000000,900002,6000])
     ⟨⟨_,rfl,⟨_,rfl,rfl⟩⟩,⟨_,rfl,⟨_,rfl,.inr ⟨_,_,rfl,rfl,aeM (AV.own (.tok 6000 1) 9) D⟩⟩⟩,trivial⟩ ⟨⟨_,_,rfl,rfl,(mS {w' with done:=i64.wrap (w'.done+1)}).conv _ _ _ _ (λ_=>rfl)⟩,⟨_,_,rfl,rfl,cJ _⟩,trivial⟩ rfl ?_
    rw[<- uu (w:={w' with done:=i64.wrap (w'.done+1)}) h];exact V
   obtain⟨z',G⟩:=W ⟨z,Y⟩;rw[uu Y]
   repeat' (first|exact wr|refine wz ?_|refine Z2 Z Z hq Y G Z Z Z Z Z Z Z (λ_=>by repeat' (first|exact Z|refine Il Z ?_|refine Im Z ?_)) Z Z Z ?_|refine ah.rN hX kn Z Z Z Z Z Z Z Z (l:=1) Z (agN (aeW _)) ?_|(refine uA Z ?_ ?_<;>(try (show(_:Nat)*_<=_;dsimp only))))
   exact u;refine AK.fY [(1000000,1000000),(900002,200028)] [(6000,(0,some 6000))] (env':=[(0,.ptr 1000000 0),(5,.own (.tok 6000 0) 9 (dQ (q++more)))]) (bs':=[(1000000,wB {w' with done:=i64.wrap (w'.done+1)} 900002),(900002,z'.map AV.c)]) (ts':=[(6000,0)]) (us':=[1000000,900002,6000])
    ⟨⟨_,rfl,⟨_,rfl,rfl⟩⟩,⟨_,rfl,⟨_,rfl,.inr ⟨_,_,rfl,rfl,aeM (AV.own (.tok 6000 1) 9) D⟩⟩⟩,trivial⟩ ⟨⟨_,_,rfl,rfl,(mS {w' with done:=i64.wrap (w'.done+1)}).conv _ _ _ _ (λ_=>rfl)⟩,⟨_,_,rfl,rfl,cJ _⟩,trivial⟩ rfl ?_
   rw[<- uu (w:={w' with done:=i64.wrap (w'.done+1)}) G];exact V
 |some z0 =>
  refine MG hm func55 call55 λβ hf=>?_
  repeat' (first|exact wr|refine wz ?_)
  refine AK.fY [(1000000,1000000),(900002,1000002)] [(6000,(0,none))] (env':=[(0,.ptr 1000000 0),(5,.own (.tok 6000 0) 9 (dQ [⟨Z0,K,.mk v1 v2 v3 v4 v5 v6 v7⟩]))]) (bs':=[(1000000,wB E 900002),(900002,z0.map AV.c)]) (ts':=[(6000,0)]) (us':=[1000000,900002,6000])
   ce  ⟨⟨_,_,Z,Z,(mS E).conv _ _ _ _ (λ_=>rfl)⟩,⟨_,_,Z,Z,cJ _⟩,trivial⟩ Z ?_
  rw[<- uu hm];refine AK.dN (α:=Nat×Wk×List w9) (λz=>Ac z.2.1/\(z.2.1.made.length:Int)<=z.2.1.done/\(∀x∈z.2.2,xH x)/\R=allM z.1 z.2.1 z.2.2/\(25:Int)<=z.1+z.2.1.done/\(z.2.2.length:Int)<=25+24*z.2.1.done) (λz=>(25-z.2.1.done).toNat)
   (λz=>[(0,.ptr 1000000 0),(5,.own (.tok 6000 0) 9 (dQ z.2.2))]) (λz=>Wz z.2.1) (λ_=>[(6000,0)]) [1000000,900002,6000] (25,E,[⟨Z0,K,.mk v1 v2 v3 v4 v5 v6 v7⟩])
   ⟨Q,hm0,λx P=>by rw[aga]at P;subst P;exact hx0,hR,Yy,abS⟩
   ce  (SY E) ⟨Z,trivial⟩ Z (SX E) Z ?_
  rintro⟨k,w,q⟩ ⟨M,Bm,C,U,hk,I⟩ ih;simp only at M Bm C U hk I ih;have hdn:=M.done;have h12:=M.xh.h12;cases q with
  |nil =>
   rw[allM_nil]at U;subst U;clear ih;have e1:decide (((dQ []).length:Int)>0)=false:=(by decide);rcases xG w with Y|⟨z,Y⟩
   ·rw[xE Y]
    repeat' (first|exact wr|refine wz ?_)
   rw[uu Y]
   repeat' (first|exact wr|refine wz ?_)
  |cons x q =>
   have e1:decide (((dQ (x::q)).length:Int)>0)=true:=(by rw[iP];exact aaX cS);cases k with
   |zero=>exfalso;omega
   |succ k =>
   simp only[allM]at U;by_cases J:24<=w.done
   ·rw[if_pos J]at U;subst U;clear ih;have e2:decide (w.done>=24)=true:=aaX J;rcases xG w with Y|⟨z,Y⟩
    ·rw[xE Y]
     repeat' (first|exact wr|refine wz ?_)
    rw[uu Y]
    repeat' (first|exact wr|refine wz ?_)
   rw[if_neg J]at U;have e2:decide (w.done>=24)=false:=aaY J;have P:=C x cc;have hq:=FI M P;have sW:=yX M Bm P;have W:=yY (w:=w) (w':=(gC w x).2) (λh=>yW h);have hlen:=iP;generalize gC w x=S at *;obtain⟨⟨more,e⟩,w'⟩:=S;obtain⟨T,s2,s3,s4,s5,s6,s7,s8⟩:=sW;simp only at T s2 s3 s4 s5 s6 s7 s8 hq U W;obtain⟨fu,op,⟨y1,y2,y3,y4,y5,y6,y7⟩⟩:=x;by_cases H:e≠0
   ·rw[if_pos H]at U;subst U;clear ih;have e3:(e != 0)=true:=(by simpa using H);have O:=T.xh.h12;rcases xG w with Y|⟨z,Y⟩
    ·rw[xE Y]
     repeat' (first|exact wr|refine wz ?_|refine Z1 Z Z hq Y Z Z Z Z Z (λ_=>by repeat' (first|exact Z|refine Il Z ?_|refine Im Z ?_)) Z Z (λh=>?_) (λf h=>?_)|refine ah.rN hX kn Z Z Z Z Z Z Z Z (l:=1) Z (agN (aeW _)) ?_)
    obtain⟨z',G⟩:=W ⟨z,Y⟩;rw[uu Y]
    repeat' (first|exact wr|refine wz ?_|refine Z2 Z Z hq Y G Z Z Z Z Z Z Z (λ_=>by repeat' (first|exact Z|refine Il Z ?_|refine Im Z ?_)) Z Z Z ?_|refine ah.rN hX kn Z Z Z Z Z Z Z Z (l:=1) Z (agN (aeW _)) ?_)
   rw[if_neg H]at U;have e3:(e != 0)=false:=(by simpa using H);have B:i64.wrap (w'.done+1)=w'.done+1:=iB ai ai;have O:=T.xh.h12;have ahB:({w' with done:=i64.wrap (w'.done+1)}:Wk).l.aS.length=12:=O;have D:dQ q++dQ more=dQ (q++more):=(sX _ _).symm
   have V:=ih (k,{w' with done:=w'.done+1},q++more) ⟨⟨T.xh,T.bU,T.au,by show 0<=w'.done+1/\w'.done+1<=24;omega,YC⟩,T.MF,λy N=>by
    rcases List.mem_append.1 N with N|N
    exact C y (by simp[N])
    exact s2 y N,U,Yq,aa1⟩ abX
   clear ih;rw[<- B]at V;have u:((dQ q).length+(dQ more).length)*128<=140737488355328:=(by rw[iP,iP];simp only[aag]at I;omega);rcases xG w with Y|⟨z,Y⟩
   ·rw[xE Y]
    repeat' (first|exact wr|refine wz ?_|refine Z1 Z Z hq Y Z Z Z Z Z (λ_=>by repeat' (first|exact Z|refine Il Z ?_|refine Im Z ?_)) Z Z (λh=>?_) (λf h=>?_)|refine ah.rN hX kn Z Z Z Z Z Z Z Z (l:=1) Z (agN (aeW _)) ?_|(refine uA Z ?_ ?_<;>(try (show(_:Nat)*_<=_;dsimp only))))
    exact u
    ·refine AK.fY [(1000000,1000000)] [(6000,(0,some 6000))] (env':=[(0,.ptr 1000000 0),(5,.own (.tok 6000 0) 9 (dQ (q++more)))]) (bs':=[(1000000,wB {w' with done:=i64.wrap (w'.done+1)} 0)]) (ts':=[(6000,0)]) (us':=[1000000,900002,6000])
      ⟨⟨_,rfl,⟨_,rfl,rfl⟩⟩,⟨_,rfl,⟨_,rfl,.inr ⟨_,_,rfl,rfl,aeM (AV.own (.tok 6000 1) 9) D⟩⟩⟩,trivial⟩ ⟨⟨_,_,rfl,rfl,(mS {w' with done:=i64.wrap (w'.done+1)}).conv _ _ _ _ (λhh=>absurd h hh)⟩,trivial⟩ rfl ?_
     rw[<- xE (w:={w' with done:=i64.wrap (w'.done+1)}) h];exact V
    exact u;refine AK.fY [(1000000,1000000),(900002,200028)] [(6000,(0,some 6000))] (env':=[(0,.ptr 1000000 0),(5,.own (.tok 6000 0) 9 (dQ (q++more)))]) (bs':=[(1000000,wB {w' with done:=i64.wrap (w'.done+1)} 900002),(900002,f.map AV.c)]) (ts':=[(6000,0)]) (us':=[1000000,900002,6000])
     ⟨⟨_,rfl,⟨_,rfl,rfl⟩⟩,⟨_,rfl,⟨_,rfl,.inr ⟨_,_,rfl,rfl,aeM (AV.own (.tok 6000 1) 9) D⟩⟩⟩,trivial⟩ ⟨⟨_,_,rfl,rfl,(mS {w' with done:=i64.wrap (w'.done+1)}).conv _ _ _ _ (λ_=>rfl)⟩,⟨_,_,rfl,rfl,cJ _⟩,trivial⟩ rfl ?_
    rw[<- uu (w:={w' with done:=i64.wrap (w'.done+1)}) h];exact V
   obtain⟨z',G⟩:=W ⟨z,Y⟩;rw[uu Y]
   repeat' (first|exact wr|refine wz ?_|refine Z2 Z Z hq Y G Z Z Z Z Z Z Z (λ_=>by repeat' (first|exact Z|refine Il Z ?_|refine Im Z ?_)) Z Z Z ?_|refine ah.rN hX kn Z Z Z Z Z Z Z Z (l:=1) Z (agN (aeW _)) ?_|(refine uA Z ?_ ?_<;>(try (show(_:Nat)*_<=_;dsimp only))))
   exact u;refine AK.fY [(1000000,1000000),(900002,200028)] [(6000,(0,some 6000))] (env':=[(0,.ptr 1000000 0),(5,.own (.tok 6000 0) 9 (dQ (q++more)))]) (bs':=[(1000000,wB {w' with done:=i64.wrap (w'.done+1)} 900002),(900002,z'.map AV.c)]) (ts':=[(6000,0)]) (us':=[1000000,900002,6000])
    ⟨⟨_,rfl,⟨_,rfl,rfl⟩⟩,⟨_,rfl,⟨_,rfl,.inr ⟨_,_,rfl,rfl,aeM (AV.own (.tok 6000 1) 9) D⟩⟩⟩,trivial⟩ ⟨⟨_,_,rfl,rfl,(mS {w' with done:=i64.wrap (w'.done+1)}).conv _ _ _ _ (λ_=>rfl)⟩,⟨_,_,rfl,rfl,cJ _⟩,trivial⟩ rfl ?_
   rw[<- uu (w:={w' with done:=i64.wrap (w'.done+1)}) G];exact V
end Go.Proofs
namespace Go.Proofs
open Go.cw
def oY.rK{l:dX}(h:oY l):af 20 [.agg (cN l)] (.bool true):=by have h1:=Ur l h.h12 (λa T=>by have:=h.size a T;unfold KI at this;unfold yZ;omega);rw[h.good]at h1;exact h1
def rO:∀l:List wH,(fD l).length=l.length
 |[]=>rfl
 |x::l=>by simp only[fD,aag,rO l]
attribute [local irreducible] AK ah aR bM cX cn bH cN gh dX.cq dX.hD wB eR
def wq{p:Prop}(h:p:=by exact uQ hf Z Z Z):p:=h
def FJ{a b:Bool}(h:a=true):(bif a then true else b)=true:=by rw[h];rfl
def uv{a b c:Bool}(h:a=false)(h2:b=c):(bif a then true else b)=c:=by rw[h,h2];rfl
def xI{b c:Bool}(h2:b=c):(bif false then true else b)=c:=h2
def Us{l:dX}(I:oY l)(b:lN):af 54 [.agg (cN l),kP b] (ag (uw l b)):=by
 have hG:=I.rK;have B:=I.h12;obtain⟨src,S,jd,Y,ops⟩:=b;have zl:=rO ops;unfold uw;rw[if_neg (by rw[I.good];decide)];simp only;by_cases c1:src<0\/4<=src
 ·rw[if_pos c1];by_cases Q:src<0
  ·have E:=aaX Q;have n1:=FJ (b:=decide (src>=4)) E;refine qn func54 call54 λβ hf=>?_
   repeat' (first|exact wq|refine wz ?_|(intro h;rw[h]))
  have E:=aaY Q;have q:decide (src>=4)=true:=aaX ai;have n1:=uv E q;have n2:=xI q;refine qn func54 call54 λβ hf=>?_
  repeat' (first|exact wq|refine wz ?_|(intro h;rw[h]))
 rw[if_neg c1];have E:decide (src<0)=false:=aaY ai;have q:decide (src>=4)=false:=aaY ai;have n1:=uv E q;have n2:=xI q;obtain⟨i,rfl⟩:=afA (show 0<=src by omega);have hi:i<12:=by omega
 have lj:Nat.blt i 12=true:=by rw[afP];exact hi
 have G:=ep (l:=l) (i:=i) B ai ai;rw[abU]at G;have hb:=I.bX _ (abz G);have hc:0<=(bq l i).cnt/\(bq l i).cnt<=1152921504606846976:=by have h:=I.get G;unfold tQ FK at h;simp at h;omega
 generalize bq l i=a at *;obtain⟨is,bX,W,⟨pT,pA⟩,⟨sT,sA⟩,code,⟨k1,k2,k3,k4,k5,k6,k7⟩⟩:=a;simp only at hb hc ⊢;obtain⟨qq,A⟩:=ir G;have d1:=A 1 _ Z;have d2:=A 2 _ Z;clear A;have P:i64.wrap (W+1)=W+1:=iB ai ai;by_cases K:bJ<=W\/S≠W+1
 ·rw[if_pos K];by_cases Q:bJ<=W
  ·have H:decide (W>=1152921504606846976)=true:=aaX Q;have n3:=FJ (b:=(S != i64.wrap (W+1))) H;refine qn func54 call54 λβ hf=>?_
   repeat' (first|exact wq|refine wz ?_|(intro h;rw[h]))
  have H:decide (W>=1152921504606846976)=false:=aaY Q;have C:(S != i64.wrap (W+1))=true:=by rw[P];simpa using K.resolve_left Q
  have n3:=uv H C;have n4:=xI C;refine qn func54 call54 λβ hf=>?_
  repeat' (first|exact wq|refine wz ?_|(intro h;rw[h]))
 rw[if_neg K];have H:decide (W>=1152921504606846976)=false:=aaY (λh=>K (.inl h));have C:(S != i64.wrap (W+1))=false:=by rw[P];simpa using λh=>K (.inr h)
 have n3:=uv H C;have n4:=xI C;by_cases c3:jd<0\/Y<0\/1048576<Y
 ·rw[if_pos c3];by_cases c4:jd<0
  ·have N:=aaX c4;have n5:=FJ (b:=decide (Y<0)) N;have u:=FJ (b:=decide (Y>1048576)) n5;have n7:(bif true then true else decide (Y>1048576))=true:=rfl;refine qn func54 call54 λβ hf=>?_
   repeat' (first|exact wq|refine wz ?_|(intro h;rw[h]))
  have N:=aaY c4;by_cases c5:Y<0
  ·have U:=aaX c5;have n5:=uv N U;have V:=xI U;have u:=FJ (b:=decide (Y>1048576)) n5;have O:=FJ (b:=decide (Y>1048576)) V;refine qn func54 call54 λβ hf=>?_
   repeat' (first|exact wq|refine wz ?_|(intro h;rw[h]))
  have U:=aaY c5;have T:decide (Y>1048576)=true:=aaX ai;have n5:=uv N U;have V:=xI U;have u:=uv n5 T;have O:=uv V T;have n7:=xI T;refine qn func54 call54 λβ hf=>?_
  repeat' (first|exact wq|refine wz ?_|(intro h;rw[h]))
 rw[if_neg c3];have N:decide (jd<0)=false:=aaY ai;have U:decide (Y<0)=false:=aaY ai;have T:decide (Y>1048576)=false:=aaY ai;have n5:=uv N U;have V:=xI U;have u:=uv n5 T;have O:=uv V T;have n7:=xI T;by_cases c6:ops.length=0\/8<ops.length
 ·rw[if_pos c6];by_cases c7:ops.length=0
  ·have M:((((fD ops).length:Nat):Int)==0)=true:=(by rw[ahD];omega);have n8:=FJ (b:=decide ((((fD ops).length:Nat):Int)>8)) M;refine qn func54 call54 λβ hf=>?_
   repeat' (first|exact wq|refine wz ?_|(intro h;rw[h]))
  have M:((((fD ops).length:Nat):Int)==0)=false:=by rw[agr];omega
  have J:decide ((((fD ops).length:Nat):Int)>8)=true:=aaX ai;have n8:=uv M J;have n9:=xI J;refine qn func54 call54 λβ hf=>?_
  repeat' (first|exact wq|refine wz ?_|(intro h;rw[h]))
 rw[if_neg c6];have M:((((fD ops).length:Nat):Int)==0)=false:=by rw[agr];omega
 have J:decide ((((fD ops).length:Nat):Int)>8)=false:=aaY ai;have n8:=uv M J;have n9:=xI J;by_cases D:bX<jd
 ·rw[if_pos D];have ea:decide (jd>bX)=true:=aaX D;refine qn func54 call54 λβ hf=>?_
  repeat' (first|exact wq|refine wz ?_|(intro h;rw[h]))
 rw[if_neg D];have ea:decide (jd>bX)=false:=aaY D;refine qn func54 call54 λβ hf=>?_
 repeat' (first|exact wq|refine wz ?_|(intro h;rw[h]))
end Go.Proofs
namespace Go.Proofs
open Go.cw
def DL:∀(a b:L AV),a.length<=b.length->bG 0 a b=some (a++b.drop a.length)
 |[],b,_=>by rw[xJ];rfl
 |x::a,[],h=>by simp at h
 |x::a,y::b,h=>by simp only[bG,DL a b oe,aeN,aag,agQ]
def Z3{X:Ctx}{bs:L (Nat×L AV)}{ρ:Operand->Option AV}{t O S:Nat}{i Y W:TI}{B:L (Nat×Nat)}{z:L AV}{x y:Operand}{Ll:dX}{g:Int}(Q:X.ti t=some i)(A:i.kind = .struct B)(P:i.zero=some (.agg z))(N:nth B 0=some (0,O))(V:nth B 1=some (181,S))
  (U:X.ti O=some Y)(E:Y.size=181)(T:X.ti S=some W)(M:W.size=1)(D:ρ x=some (.agg (bH Ll)))(K:Ll.aS.length=12)(q:ρ y=some (.c (ag g)))(J:z.length=187)(H:z.drop 181=[.c (ag 0),.c (ag 0),.c (ag 0),.c (ag 0),.c (ag 0),.own .exact 1 []]) :
  gv X bs ρ (.build t #[(0,x),(1,y)])=some (.agg (wB ⟨Ll,g,0,0,0,[]⟩ 0)):=by
 have I:=jC K;have h1:=DL (bH Ll) z (by rw[I,J];decide);rw[I,H]at h1;have h2:=mG (bH Ll) 0 [.c (ag g)] [.c (ag 0),.c (ag 0),.c (ag 0),.c (ag 0),.c (ag 0),.own .exact 1 []] _ Z;rw[I]at h2;have G:Nat.beq (bH Ll).length Y.size=true:=by rw[I,E];rfl
 have C:Nat.beq [AV.c (ag g)].length W.size=true:=by rw[M];rfl
 have u:jQ (.agg (bH Ll))=some (bH Ll):=rfl;have c2:jQ (.c (ag g))=some [.c (ag g)]:=rfl;simp only[gv,Q,A,P,sY,N,V,D,q,U,T,u,c2,G,C,h1,h2];rfl
def Io{X:Ctx}{bs:L (Nat×L AV)}{env:Env}{t ty T W:Nat}{i B:TI}{V off U Y:Nat}{cells r O N:L AV}{v K:AV}(M:X.ti ty=some i)(D:aG X env (.tmp t)=some (.ptr V off))(q:aq V bs=some cells)(J:dV off cells=some r)(I:lO i r=some v)
  (S:X.ti W=some B)(H:aG X env (.tmp T)=some (.ptr U Y))(G:aq U bs=some O)(Q:dV Y O=some N)(P:lO B N=some K):kQ X bs env [.cell t ty,.cell T W]=some (.eF [v,K]):=by
 have h1:gv X bs (aG X env) (.load ty (.tmp t))=some v:=by simp only[gv,M,D,q,J,I]
 have h2:gv X bs (aG X env) (.load W (.tmp T))=some K:=by simp only[gv,S,H,G,Q,P]
 simp only[kQ,qT,h1,h2]
def FL(l:dX){v:AV}{c:CV}(h:close v=some c):close (.eF [.agg (bH l),v])=some (.eF [.agg (cN l),c]):=by simp only[close,oh,y8 l,h];rw[show oh (bH l)=some (cN l)from ux _]
end Go.Proofs
namespace Go.Proofs
open Go.cw
def WB{l:dX}(T:l.aS.length=12)(z:Int):bG 180 [.c (ag z)] (bH l)=some (bH ⟨l.aS,z⟩):=by have h1:=mG (gh l) 0 [.c (ag z)] [.c (.int .i64 l.eG)] _ rfl;rw[vD T]at h1;rw[xK,xK];exact h1
def iT{ρ:Ren}{ts:L (Nat×Nat)}:∀{l:L AV}{n:Nat},l.length=n->l.all AV.one=true->fq ρ ts (List.replicate n .any) l
 |[],_,rfl,_=>rfl
 |a::l,_,rfl,h=>by simp only[afQ,aaN]at h;exact⟨_,_,Z,h.1,iT Z h.2⟩
def xL{T:AV->AV->Prop}(h:∀a,T a a):∀(l:L AV),SZ T l l
 |[]=>trivial
 |a::l=>⟨h a,xL h l⟩
def M5{T:AV->AV->Prop}(h:∀a,T a a){b c:L AV}(U:SZ T b c):∀(l:L AV),SZ T (l++b) (l++c)
 |[]=>U
 |a::l=>⟨h a,M5 h U l⟩
def nO{ρ:Ren}{ts:L (Nat×Nat)}{l:dX}:fq ρ ts (bH l) (bH l):=cJ _
def xM{Y s:Nat}{rows:L CV}(a:AV):V7 Y s rows a a := .inl rfl
def wF(w:Wk):L AV:=bH w.l++[.c (ag w.bU),.c (ag 0),.c (ag w.done),.c (ag w.used),.c (ag w.au),.c (.sl 1 (cM w.made))]
def aeV{w:Wk}(T:w.l.aS.length=12){i:TI}(h1:i.isAgg=true)(h2:i.size=181):lO i (wF w)=some (.agg (bH w.l)):=by unfold lO wF;rw[h1,h2];simp only[Av _ _ _ _ (FM T)]
def abV{w:Wk}(T:w.l.aS.length=12):dV 182 (wF w)=some [.c (ag 0),.c (ag w.done),.c (ag w.used),.c (ag w.au),.c (.sl 1 (cM w.made))]:=by have h1:=jg (bH w.l) [AV.c (ag w.bU),.c (ag 0),.c (ag w.done),.c (ag w.used),.c (ag w.au),.c (.sl 1 (cM w.made))];rw[jC T]at h1;exact lz _ 1 _ _ _ h1 rfl
def ahF{w:Wk}(h:wO w=none){ρ:Ren}{ts:L (Nat×Nat)}:fq ρ ts (wF w) (wB w 0):=by
 obtain⟨l,W,done,C,Q,N⟩:=w;cases N with
 |cons x r=>cases h
 |nil =>
  have E:∀(cs:L CV){p q:L AV},fq ρ ts p q->fq ρ ts (cs.map AV.c++p) (cs.map AV.c++q):=by
   intro cs p q h
   induction cs with
   |nil=>exact h
   |cons c cs Y=>exact⟨_,_,Z,.inl Z,Y⟩
  exact E _ ce 
def ahG{w:Wk}{f:L CV}(h:wO w=some f)(k:Nat):SZ (V7 k 1 (cM w.made)) (wB w k) (wF w):=by
 obtain⟨l,Y,done,C,Q,N⟩:=w;cases N with
 |nil=>cases h
 |cons x r =>
  refine M5 (b:=[_,_,_,_,_,_]) (c:=[_,_,_,_,_,_]) xM ?_ (bH l);exact⟨.inl Z,.inl Z,.inl Z,.inl Z,.inl Z,.inr ⟨_,Z,by simp[cM],Z⟩,trivial⟩
def ahH{w:Wk}{f:L CV}(h:wO w=some f):f=bz (cM w.made):=by unfold wO at h;split at h;cases h;cases h;rename_i q;rw[q]
def Ut{l:L Int}:∀r∈cM l,r.cells.length=1:=λr B=>by obtain⟨n,_,rfl⟩:=List.mem_map.1 B;rfl
def Jd:∀(k:Nat)(w:Wk)(q:List w9),w.made≠[]->(allM k w q).2.made≠[]
 |k,w,[],h=>by rw[allM_nil];exact h
 |0,w,x::q,h=>h
 |k+1,w,x::q,h=>by unfold allM;split;exact h;split;exact yW h;exact Jd k _ _ (yW h)
def Aw:∀(l:List wH)(k:Nat)(o:wH),l[k]?=some o->(fD l)[k]?=some (.agg (V8 o))
 |[],k,o,h=>by simp at h
 |x::l,0,o,h=>by simp at h;subst h;rfl
 |x::l,k+1,o,h=>by simp only[ahm]at h;exact Aw l k o h
def ZD(Ll:dX)(c:L AV)(w:Wk):L (Nat×L AV):=match wO w with
 |none=>[(2,bH Ll),(3,c),(4,List.replicate 181 .any),(5,List.replicate 5 .any),(49,wB w 0)]
 |some f=>[(2,bH Ll),(3,c),(4,List.replicate 181 .any),(5,List.replicate 5 .any),(49,wB w 900002),(900002,f.map AV.c)]
def M6{Ll:dX}{c:L AV}{w:Wk}(h:wO w=none):ZD Ll c w=[(2,bH Ll),(3,c),(4,List.replicate 181 .any),(5,List.replicate 5 .any),(49,wB w 0)]:=by unfold ZD;rw[h]
def M7{Ll:dX}{c:L AV}{w:Wk}{f:L CV}(h:wO w=some f):ZD Ll c w=[(2,bH Ll),(3,c),(4,List.replicate 181 .any),(5,List.replicate 5 .any),(49,wB w 900002),(900002,f.map AV.c)]:=by unfold ZD;rw[h]
def Z4(Ll:dX)(c:L AV)(w:Wk):Qq (ZD Ll c w) (ZD Ll c w):=by
 unfold ZD;cases h:wO w with
 |none=>exact⟨Z,Z,Z,Z,Z,trivial⟩
 |some f=>exact⟨Z,Z,Z,Z,Z,Z,trivial⟩
def acU(Ll:dX)(a b c d:Int)(r:L CV)(w:Wk):okB [2,3,4,5,49,900002] (ZD Ll [.c (ag a),.c (ag b),.c (ag c),.c (ag d),.c (.sl 23 r)] w)=true:=by
 unfold ZD;cases h:wO w with
 |none=>exact dI Z (b8 _ _) (dI Z Z (dI Z Z (dI Z Z (dI Z (KK (λJ=>absurd h J)) Z))))
 |some f=>exact dI Z (b8 _ _) (dI Z Z (dI Z Z (dI Z Z (dI Z (KK (λ_=>rfl)) (FH Z)))))
def Uu{l:dX}{i:Nat}{a:Acc}(T:l.aS.length=12)(P:l.aS[i]?=some a)(jd:Int):∃(C V:dX) (I H:L AV),(C.aS.length=12/\V.aS.length=12)/\(V.eG=l.eG/\V.aS=l.aS.set i {a with cnt:=i64.wrap (a.cnt+1),bX:=i64.wrap (a.bX-jd)}) /\
  dV (0+i*15+2) (bH l)=some (.c (ag a.cnt)::I)/\bG (0+i*15+2) [.c (ag (i64.wrap (a.cnt+1)))] (bH l)=some (bH C) /\
  dV (0+i*15+1) (bH C)=some (.c (ag a.bX)::H)/\bG (0+i*15+1) [.c (ag (i64.wrap (a.bX-jd)))] (bH C)=some (bH V):=by
 obtain⟨S,bX,cnt,⟨G,U⟩,⟨B,K⟩,code,⟨u,M,O,Q,N,Y,W⟩⟩:=a;have E:i<l.aS.length:=(List.getElem?_eq_some_iff.1 P).1;obtain⟨q1,D⟩:=ir P;have J:(l.hD i ⟨S,bX,i64.wrap (cnt+1),⟨G,U⟩,⟨B,K⟩,code,⟨u,M,O,Q,N,Y,W⟩⟩).aS[i]?=some ⟨S,bX,i64.wrap (cnt+1),⟨G,U⟩,⟨B,K⟩,code,⟨u,M,O,Q,N,Y,W⟩⟩:=by show(l.aS.set i _)[i]?=_;rw[ahb E]
 obtain⟨q,A⟩:=ir J;refine⟨l.hD i ⟨S,bX,i64.wrap (cnt+1),⟨G,U⟩,⟨B,K⟩,code,⟨u,M,O,Q,N,Y,W⟩⟩,(l.hD i ⟨S,bX,i64.wrap (cnt+1),⟨G,U⟩,⟨B,K⟩,code,⟨u,M,O,Q,N,Y,W⟩⟩).hD i ⟨S,i64.wrap (bX-jd),i64.wrap (cnt+1),⟨G,U⟩,⟨B,K⟩,code,⟨u,M,O,Q,N,Y,W⟩⟩,_,_,⟨qj T,qj (qj T)⟩,⟨Z,?_⟩,D 2 _ Z,Ax P Z,A 1 _ Z,Ax J Z⟩;show(l.aS.set i _).set i _=_;rw[List.set_set]
attribute [local irreducible] AK ah aR bM cX cn bH cN gh dX.cq dX.hD wB wF eR
def wc{p:Prop}(h:p:=by exact uQ hf (Io Z Z Z Z (eA (by assumption) Z Z) Z Z Z Z Z) (FL _ Z) Z):p:=h
def sZ{l:dX}(I:oY l)(b:lN)(hg:b.bU<=3000)(hb:∀o∈b.ops,vE o):af 24 [.agg (cN l),kP b] (.eF [.agg (cN (gp l b).1),qD (gp l b).2]):=by
 have hq:=Us I b;have Q:=I.h12;unfold gp;by_cases e:uw l b≠0
 ·rw[if_pos e];generalize uw l b=m at *;obtain⟨src,B,jd,V,ops⟩:=b;have e1:(m != 0)=true:=by simpa using e
  refine qn func24 call24 λβ hf=>?_
  repeat' (first|exact wc|refine wz ?_)
 rw[if_neg e];simp only[ne_eq,afF]at e;obtain⟨_,⟨s0,s4⟩,⟨n1,n2⟩,⟨f0,g0⟩,⟨o1,o8⟩,hfb⟩:=qE e;have D:=vF I e hg;rw[e]at hq;obtain⟨Ll,u⟩:∃Ll,Ll=sQ l b:=⟨_,rfl⟩;have P:om l b=⟨Ll,b.bU,0,0,0,[]⟩:=by rw[u];rfl
 rw[P]at D ⊢;rw[<- u];obtain⟨R,hR⟩:∃R,R=lZ b.src ⟨Ll,b.bU,0,0,0,[]⟩ b.ops:=⟨_,rfl⟩;rw[<- hR];obtain⟨r,H⟩:∃r:CV,r = .eF [.agg (cN (if R.1≠0 then(Ll,P9.mk R.1 0 R.2.used 0 [])else(R.2.l,P9.mk 0 R.2.done R.2.used R.2.au R.2.made)).1),qD (if R.1≠0 then(Ll,P9.mk R.1 0 R.2.used 0 [])else(R.2.l,P9.mk 0 R.2.done R.2.used R.2.au R.2.made)).2]:=⟨_,rfl⟩;rw[<- H];unfold sQ at u;obtain⟨src,B,jd,V,ops⟩:=b;dsimp only at *;obtain⟨i,rfl⟩:=afA s0;have hi:i<12:=by omega
 have lj:Nat.blt i 12=true:=by rw[afP];exact hi
 have M:=ep (l:=l) (i:=i) Q ai ai;rw[abU]at M u;have FF:=I.bX _ (abz M);have hc:0<=(bq l i).cnt:=by have h:=I.get M;unfold tQ FK at h;simp at h;omega
 have WC:=(ji.1 I.good).1;have akp:=(ji.1 I.good).2.2;generalize bq l i=a at *;obtain⟨l1,C,r1,r2,⟨z1,z2⟩,⟨ef,ea⟩,d1,p1,d2,p2⟩:=Uu Q M jd;have p3:=WB z2 (i64.wrap (C.eG+jd));have O:Ll=⟨C.aS,i64.wrap (C.eG+jd)⟩:=by rw[u,ef,ea,iB (n:=a.bX-jd) ai ai,iB (n:=a.cnt+1) ai (by unfold bJ at n1;omega),iB (n:=l.eG+jd) ai ai]
 rw[<- O]at p3;have d3:=uy z2;have zL:Ll.aS.length=12:=D.xh.h12;clear O u P ea ef;refine qn func24 call24 λβ hf=>?_
 repeat' (first|exact wc|refine wz ?_|refine ah.look hX kn Z Z (Z3 Z Z Z Z Z Z Z Z Z Z ek Z Z Z) Z ?_|refine ah.box kn Z Z Z Z Z Z ?_)
 refine AK.fY [(2,2),(3,3),(4,4),(5,5),(49,49)] [] (env':=[(2,.ptr 2 0),(3,.ptr 3 0),(4,.ptr 4 0),(5,.ptr 5 0),(8,.ptr 49 0),(52,.c (ag ((fD ops).length:Nat))),(53,.c (ag (0:Nat)))]) (bs':=[(2,bH Ll),(3,[.c (ag i),.c (ag B),.c (ag jd),.c (ag V),.c (.sl 23 (fD ops))]),(4,List.replicate 181 .any),(5,List.replicate 5 .any),(49,wB ⟨Ll,V,0,0,0,[]⟩ 0)]) (ts':=[]) (us':=[2,3,4,5,49,900002])
  ce  ⟨⟨_,_,Z,Z,nO⟩,ce,⟨_,_,Z,Z,iT Z Z⟩,⟨_,_,Z,Z,iT Z Z⟩,⟨_,_,Z,Z,(mS ⟨Ll,V,0,0,0,[]⟩).conv _ _ _ _ (λh=>absurd Z h)⟩,trivial⟩ Z ?_
 rw[<- M6 (w:=⟨Ll,V,0,0,0,[]⟩) rfl];refine AK.dN (α:=Nat×Wk) (λz=>z.1<=ops.length/\Ac z.2/\(z.2.made.length:Int)<=z.2.done/\R=lZ i z.2 (ops.drop z.1)) (λz=>ops.length-z.1)
  (λz=>[(2,.ptr 2 0),(3,.ptr 3 0),(4,.ptr 4 0),(5,.ptr 5 0),(8,.ptr 49 0),(52,.c (ag ((fD ops).length:Nat))),(53,.c (ag (z.1:Nat)))]) (λz=>ZD Ll [.c (ag i),.c (ag B),.c (ag jd),.c (ag V),.c (.sl 23 (fD ops))] z.2) (λ_=>[]) [2,3,4,5,49,900002] (0,⟨Ll,V,0,0,0,[]⟩)
  ⟨aeW _,D,afw _,hR⟩ ce (Z4 _ _ _) trivial Z (acU _ _ _ _ _ _ _) Z ?_
 rintro⟨k,w⟩ ⟨hk,J,A,U⟩ ih;simp only at hk J A U ih;have G:=J.xh.h12;have Ip:=rO ops;by_cases q:k<ops.length;rotate_left
 ·rw[afy ai]at U;simp only[lZ]at U;subst U;rw[if_neg cc]at H;subst H;clear ih;have e1:decide ((k:Int)<(((fD ops).length:Nat):Int))=false:=aaY ai;rcases xG w with Y|⟨z,Y⟩
  ·rw[M6 Y];refine AK.fY [(2,2),(3,3),(4,4),(5,5),(49,49)] [] (env':=[(2,.ptr 2 0),(3,.ptr 3 0),(4,.ptr 4 0),(5,.ptr 5 0),(8,.ptr 49 0),(52,.c (ag ((fD ops).length:Nat))),(53,.c (ag (k:Nat)))]) (bs':=[(2,bH Ll),(3,[.c (ag i),.c (ag B),.c (ag jd),.c (ag V),.c (.sl 23 (fD ops))]),(4,List.replicate 181 .any),(5,List.replicate 5 .any),(49,wF w)]) (ts':=[]) (us':=[2,3,4,5,49,900002])
    ce  ⟨⟨_,_,Z,Z,nO⟩,ce,⟨_,_,Z,Z,iT Z Z⟩,⟨_,_,Z,Z,iT Z Z⟩,⟨_,_,Z,Z,ahF Y⟩,trivial⟩ Z ?_
   repeat' (first|exact wc|refine wz ?_|refine ah.dj hX kn Z Z Z Z Z Z Z (aeV G Z Z) ?_|refine ah.dj hX kn Z Z Z Z Z Z (abV G) UI ?_)
  rw[M7 Y];refine AK.y9 900002 1 (cM w.made) (tail:=[]) (env':=[(2,.ptr 2 0),(3,.ptr 3 0),(4,.ptr 4 0),(5,.ptr 5 0),(8,.ptr 49 0),(52,.c (ag ((fD ops).length:Nat))),(53,.c (ag (k:Nat)))]) (bs':=[(2,bH Ll),(3,[.c (ag i),.c (ag B),.c (ag jd),.c (ag V),.c (.sl 23 (fD ops))]),(4,List.replicate 181 .any),(5,List.replicate 5 .any),(49,wF w)]) (ts':=[]) Z
   (by rw[ahH Y,aeO]) Ut ce ⟨⟨_,Z,xL xM _⟩,⟨_,Z,xL xM _⟩,⟨_,Z,xL xM _⟩,⟨_,Z,xL xM _⟩,⟨_,Z,ahG Y _⟩,trivial⟩ Z trivial ?_
  repeat' (first|exact wc|refine wz ?_|refine ah.dj hX kn Z Z Z Z Z Z Z (aeV G Z Z) ?_|refine ah.dj hX kn Z Z Z Z Z Z (abV G) UI ?_)
 obtain⟨o,ho⟩:∃o,ops[k]?=some o:=⟨_,aeL q⟩;rw[dK ho]at U;simp only[lZ]at U;have hx:xH ⟨i,some o,lC⟩:=hb o (abz ho);have N:=Qr J A hx;have sW:=zb 25 w [⟨i,some o,lC⟩] J A (λx SU=>by rw[aga]at SU;subst SU;exact hx);have W:=yY (w:=w) (w':=(allM 25 w [⟨i,some o,lC⟩]).2) (λh=>Jd _ _ _ h);generalize allM 25 w [⟨i,some o,lC⟩]=S at *;obtain⟨e,w'⟩:=S;obtain⟨s1,s2,s3,s4,s5,s6⟩:=sW;simp only at s1 s2 s3 s4 s5 s6 N U W;have hrow:=Aw ops k o ho;have e1:decide ((k:Int)<(((fD ops).length:Nat):Int))=true:=aaX ai;have zw':=s1.xh.h12;obtain⟨kind,to,oZ,⟨a1,a2,a3,a4,a5⟩,⟨b1,b2,b3,b4,b5⟩,⟨c1,K,c3,c4,c5⟩,⟨d1,d2,d3,d4,d5⟩⟩:=o;by_cases K:e≠0
 ·rw[if_pos K]at U;subst U;rw[if_pos K]at H;subst H;clear ih;have e3:(e != 0)=true:=by simpa using K
  rcases xG w with Y|⟨z,Y⟩
  ·rw[M6 Y]
   repeat' (first|exact wc|refine wz ?_|refine Z1 Z Z N Y Z Z Z Z Z (λ_=>by repeat' (first|exact Z|refine Il Z ?_|refine Im Z ?_)) Z Z (λh=>?_) (λf h=>?_))
  obtain⟨z',E⟩:=W ⟨z,Y⟩;rw[M7 Y]
  repeat' (first|exact wc|refine wz ?_|refine Z2 Z Z N Y E Z Z Z Z Z Z Z (λ_=>by repeat' (first|exact Z|refine Il Z ?_|refine Im Z ?_)) Z Z Z ?_)
 rw[if_neg K]at U;have e3:(e != 0)=false:=by simpa using K
 have T:=ih (k+1,w') ⟨by show k+1<=ops.length;omega,s1,s6 adS,U⟩ (by show ops.length-(k+1)<ops.length-k;omega);clear ih;rcases xG w with Y|⟨z,Y⟩
 ·rw[M6 Y]
  repeat' (first|exact wc|refine wz ?_|refine Z1 Z Z N Y Z Z Z Z Z (λ_=>by repeat' (first|exact Z|refine Il Z ?_|refine Im Z ?_)) Z Z (λh=>?_) (λf h=>?_))
  ·refine AK.fY [(2,2),(3,3),(4,4),(5,5),(49,49)] [] (env':=[(2,.ptr 2 0),(3,.ptr 3 0),(4,.ptr 4 0),(5,.ptr 5 0),(8,.ptr 49 0),(52,.c (ag ((fD ops).length:Nat))),(53,.c (ag ((k+1):Nat)))]) (bs':=[(2,bH Ll),(3,[.c (ag i),.c (ag B),.c (ag jd),.c (ag V),.c (.sl 23 (fD ops))]),(4,List.replicate 181 .any),(5,List.replicate 5 .any),(49,wB w' 0)]) (ts':=[]) (us':=[2,3,4,5,49,900002])
    ⟨⟨_,Z,⟨_,Z,Z⟩⟩,⟨_,Z,⟨_,Z,Z⟩⟩,⟨_,Z,⟨_,Z,Z⟩⟩,⟨_,Z,⟨_,Z,Z⟩⟩,⟨_,Z,⟨_,Z,Z⟩⟩,⟨_,Z,.inl Z⟩,⟨_,Z,.inl (Option.some.inj (dY (i:=k) ai))⟩,trivial⟩ ⟨⟨_,_,Z,Z,nO⟩,ce,⟨_,_,Z,Z,iT Z Z⟩,⟨_,_,Z,Z,iT Z Z⟩,⟨_,_,Z,Z,(mS w').conv _ _ _ _ (λhh=>absurd h hh)⟩,trivial⟩ Z ?_
   rw[<- M6 h];exact T
  refine AK.fY [(2,2),(3,3),(4,4),(5,5),(49,49),(900002,200064)] [] (env':=[(2,.ptr 2 0),(3,.ptr 3 0),(4,.ptr 4 0),(5,.ptr 5 0),(8,.ptr 49 0),(52,.c (ag ((fD ops).length:Nat))),(53,.c (ag ((k+1):Nat)))]) (bs':=[(2,bH Ll),(3,[.c (ag i),.c (ag B),.c (ag jd),.c (ag V),.c (.sl 23 (fD ops))]),(4,List.replicate 181 .any),(5,List.replicate 5 .any),(49,wB w' 900002),(900002,f.map AV.c)]) (ts':=[]) (us':=[2,3,4,5,49,900002])
   ⟨⟨_,Z,⟨_,Z,Z⟩⟩,⟨_,Z,⟨_,Z,Z⟩⟩,⟨_,Z,⟨_,Z,Z⟩⟩,⟨_,Z,⟨_,Z,Z⟩⟩,⟨_,Z,⟨_,Z,Z⟩⟩,⟨_,Z,.inl Z⟩,⟨_,Z,.inl (Option.some.inj (dY (i:=k) ai))⟩,trivial⟩ ⟨⟨_,_,Z,Z,nO⟩,ce,⟨_,_,Z,Z,iT Z Z⟩,⟨_,_,Z,Z,iT Z Z⟩,⟨_,_,Z,Z,(mS w').conv _ _ _ _ (λ_=>rfl)⟩,⟨_,_,Z,Z,cJ _⟩,trivial⟩ Z ?_
  rw[<- M7 h];exact T
 obtain⟨z',E⟩:=W ⟨z,Y⟩;rw[M7 Y]
 repeat' (first|exact wc|refine wz ?_|refine Z2 Z Z N Y E Z Z Z Z Z Z Z (λ_=>by repeat' (first|exact Z|refine Il Z ?_|refine Im Z ?_)) Z Z Z ?_)
 refine AK.fY [(2,2),(3,3),(4,4),(5,5),(49,49),(900002,200064)] [] (env':=[(2,.ptr 2 0),(3,.ptr 3 0),(4,.ptr 4 0),(5,.ptr 5 0),(8,.ptr 49 0),(52,.c (ag ((fD ops).length:Nat))),(53,.c (ag ((k+1):Nat)))]) (bs':=[(2,bH Ll),(3,[.c (ag i),.c (ag B),.c (ag jd),.c (ag V),.c (.sl 23 (fD ops))]),(4,List.replicate 181 .any),(5,List.replicate 5 .any),(49,wB w' 900002),(900002,z'.map AV.c)]) (ts':=[]) (us':=[2,3,4,5,49,900002])
  ⟨⟨_,Z,⟨_,Z,Z⟩⟩,⟨_,Z,⟨_,Z,Z⟩⟩,⟨_,Z,⟨_,Z,Z⟩⟩,⟨_,Z,⟨_,Z,Z⟩⟩,⟨_,Z,⟨_,Z,Z⟩⟩,⟨_,Z,.inl Z⟩,⟨_,Z,.inl (Option.some.inj (dY (i:=k) ai))⟩,trivial⟩ ⟨⟨_,_,Z,Z,nO⟩,ce,⟨_,_,Z,Z,iT Z Z⟩,⟨_,_,Z,Z,iT Z Z⟩,⟨_,_,Z,Z,(mS w').conv _ _ _ _ (λ_=>rfl)⟩,⟨_,_,Z,Z,cJ _⟩,trivial⟩ Z ?_
 rw[<- M7 E];exact T
end Go.Proofs
