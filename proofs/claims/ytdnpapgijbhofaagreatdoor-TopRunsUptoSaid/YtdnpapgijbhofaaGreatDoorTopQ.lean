/- What a batch does to balances, scripts and numbers: -/
import Derived.Test.YtdnpapgijbhofaaGreatDoorTopP
set_option linter.defProp false
set_option linter.unusedVariables false
set_option linter.unusedSimpArgs false
namespace Go.Proofs
open Go.cw
def Cq{l:dX}{f i:Nat}{z:Int}(h:i<l.aS.length):bq (l.cq f z) i=if f=i then(bq l i).cq z else bq l i:=by have h1:=FO h;have h2:=xR l.aS f i z;show(lD l.aS f z).getD i tT=_;rw[List.getD,h2,h1];split<;>rfl
def nJ{l:dX}{k i:Nat}{a:Acc}(h:i<l.aS.length):bq (l.hD k a) i=if k=i then a else bq l i:=by have h1:=FO h;show(l.aS.set k a).getD i tT=_;rw[List.getD,List.getElem?_set,h1];split;simp_all;rfl
def Ss{l:dX}{F T n:Int}(h:oY l)(e:jw l F T n=0){i:Nat}(U:i<12):bq (Cz l F T n) i=(bq l i).cq ((bq l i).bX-(if(i:Int)=F then n else 0)+(if(i:Int)=T then n else 0)):=by
 have Y:=h.h12;obtain⟨f,t,J,aT,rfl,rfl,_⟩:=td Y e;have h2:(l.cq f ((bq l f).bX-n)).aS.length=12:=rR Y;unfold Cz;rw[abU,abU,Cq ai];have D:bq (l.cq f ((bq l f).bX-n)) i=(bq l i).cq ((bq l i).bX-(if(i:Int)=(f:Int)then n else 0)):=by rw[Cq ai];by_cases c:f=i;simp_all;rw[if_neg c,if_neg (show ¬(i:Int)=(f:Int)by omega),Int.sub_zero];rfl
 by_cases c:t=i;subst c;rw[if_pos Z,D,if_pos (show(t:Int)=(t:Int)from Z)];rfl;grind
def ai3(src c:Int)(l:dX)(_:L Int)(m:dX)(_:L Int):Prop:=∀i:Nat,i<4->(bq l i).bX-(if(i:Int)=src then c else 0)<=(bq m i).bX
def ai4(src:Int):Clo src (ai3 src) where
 refl:=λi _=>by split<;>omega
 trans:=λh1 h2 i U=>by have a:=h1 i U;have b:=h2 i U;omega
 move:=λ{l m F T n} hl e hf i U=>by
  have C:0<=n:=by obtain⟨_,_,_,_,_,_,_,_,_,_,h,_⟩:=td hl.h12 e;exact h
  rw[Ss hl e ai];show _<=(bq l i).bX-(if(i:Int)=F then n else 0)+(if(i:Int)=T then n else 0)
  all_goals omega
 keep:=λ{l m j v} hl hj h2 i U=>by rw[nJ ab9];grind
 new:=λ{l m a} hl hf _ _ _ i U=>by have:=(uH hl).1;rw[nJ ab9,if_neg (show ¬eS (l.aS.drop 4) 4=i by omega)];split<;>omega
def abA{w:Wk}{x:w9}{to n:Int}(M:Ac w)(h:(EA w x to n).1.2=0):0<=n/\n<=4000000:=by unfold EA at h;split at h;simp_all;rename_i e;simp at e;obtain⟨f,_,J,_,_,_,C,_,_,_,h1,_,h2⟩:=td M.xh.h12 e;have:=M.xh.bX J (abz C);omega
def abB{w:Wk}{o:wH}{fu:Int}(M:Ac w)(T:vE o)(h:(orM w fu o).1=0):0<=o.oZ/\o.oZ<=4000000:=by unfold orM at h;split at h;omega;rename_i u;split at h;omega;rename_i K;simp at K;split at h;omega;rename_i Y;split at h;omega;rename_i c4;have h1:=zi M.xh T u K Y c4;split at h;omega;rename_i e;simp at e;obtain⟨f,_,J,_,_,_,C,_,_,_,I,_,h2⟩:=td h1.h12 e;have:=h1.bX J (abz C);omega
def Zd{k:Nat}{w:Wk}{x:w9}(h:(allM (k+1) w [x]).1=0):(gC w x).1.2=0:=by unfold allM at h;grind
def PG{src:Int}:∀(l:List wH)(w:Wk),Ac w->(w.made.length:Int)<=w.done->(∀o∈l,vE o)->(lZ src w l).1=0->∀o∈l,0<=o.oZ/\o.oZ<=4000000
 |[],w,hw,hm,hl,h=>λo T=>by simp at T
 |p::r,w,hw,hm,hl,h=>by
  have h1:=zb 25 w [⟨src,some p,lC⟩] hw hm λx D=>by rw[aga]at D;subst D;exact hl p cc
  unfold lZ at h;split at h;omega;rename_i c;simp at c;intro o T;rcases List.mem_cons.1 T with rfl|T
  have h2:=Zd c;unfold gC at h2;dsimp only at h2;split at h2;exact abA hw h2;split at h2;exact abB hw (hl o cc) h2;grind;exact PG r _ h1.ok (h1.made c) (λx D=>hl x K0) h o T
def zP{l:dX}{b:lN}(I:oY l)(h:uw l b=0){i:Nat}(U:i<12):bq (sQ l b) i=if(i:Int)=b.src then {bq l i with cnt:=(bq l i).cnt+1,bX:=(bq l i).bX-b.jd}else bq l i:=by
 have C:=(qE h).2.1;have T:=I.h12;obtain⟨s,Q⟩:=afA C.1;have e:bq (sQ l b) i=bq (l.hD s {bq l s with cnt:=(bq l s).cnt+1,bX:=(bq l s).bX-b.jd}) i:=by unfold sQ;rw[Q,abU];rfl
 rw[e,nJ ai,Q];grind
def agn{l:dX}{b:lN}(I:oY l)(G:b.bU<=3000)(U:∀o∈b.ops,vE o):(∀i:Nat,i<4->(i:Int)≠b.src->(bq l i).bX<=(bq (gp l b).1 i).bX) /\
  ((gp l b).2.code=0->(0<=b.src/\b.src<4)/\(0<=b.jd/\b.jd<=4000000)/\b.ops.length<=8/\(∀o∈b.ops,0<=o.oZ/\o.oZ<=4000000)/\(bq l b.src).bX-(bq (gp l b).1 b.src).bX<=b.jd+EU b.ops):=by
 unfold gp;split;simp_all;rename_i c;simp at c;obtain⟨_,C,_,hf,T,S⟩:=qE c;have W:=vF I c G;split;rename_i K;refine⟨λi V B=>?_,λh=>absurd h K⟩;rw[zP I c ai,if_neg B];exact afw _;rename_i K;simp at K;have h1:=Cp (ai4 b.src) C.1 C.2 b.ops (om l b) W (afw _) U K;have h2:=PG b.ops (om l b) W (afw _) U K;have e:(om l b).l=sQ l b:=rfl;rw[e]at h1;refine⟨λi V B=>?_,λ_=>⟨C,⟨hf.1,?_⟩,T.2,h2,?_⟩⟩;have Y:=h1 i V;rw[zP I c ai,if_neg B,if_neg B]at Y;show _<=(bq (lZ b.src (om l b) b.ops).2.l i).bX;omega;have:=ep I.h12 (i:=b.src) ai ai;have:=I.bX _ (abz this);omega;obtain⟨s,Q⟩:=afA C.1;have Y:=h1 s ai;rw[zP I c ai,if_pos Q.symm,if_pos Q.symm]at Y;dsimp only at Y;rw[Q];show(bq l s).bX-(bq (lZ (s:Int) (om l b) b.ops).2.l s).bX<=_;rw[Q]at Y;omega
end Go.Proofs
