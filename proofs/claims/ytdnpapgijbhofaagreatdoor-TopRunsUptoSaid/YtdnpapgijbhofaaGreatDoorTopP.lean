/- What a batch does to the ledger: -/
import Derived.Test.YtdnpapgijbhofaaGreatDoorChn11
set_option linter.defProp false
set_option linter.unusedVariables false
set_option linter.unusedSimpArgs false
namespace Go.Proofs
open Go.cw
structure Clo(src:Int)(R:Int->dX->List Int->dX->List Int->Prop):Prop where
 refl:∀{l m},R 0 l m l m
 trans:∀{c d a m b n e q},R c a m b n->R d b n e q->R (c+d) a m e q
 move:∀{l m F T n},oY l->jw l F T n=0->(F=src\/4<=F)->R (if F=src then n else 0) l m (Cz l F T n) m
 keep:∀{l m}{j:Nat}{v},oY l->j<12->(bq l j).is=2->R 0 l m (l.hD j {bq l j with keep:=v}) m
 new:∀{l m}{a:Acc},oY l->eS (l.aS.drop 4) 4<12->a.is=2->a.cnt=0->a.bX=0->R 0 l m (l.hD (eS (l.aS.drop 4) 4) a) (m++[((eS (l.aS.drop 4) 4:Nat):Int)])
section
variable {src : Int}{R : Int -> dX -> L Int -> dX -> L Int -> Prop}(hR : Clo src R)
include hR
def Uc{w:Wk}{x:w9}{to n:Int}(M:Ac w)(hf:x.fu=src\/4<=x.fu)(h:(EA w x to n).1.2=0):R (if x.fu=src then n else 0) w.l w.made (EA w x to n).2.l (EA w x to n).2.made:=by
 unfold EA at h ⊢;split at h;simp_all;rename_i e;rw[if_neg e];simp at e;obtain⟨h1,j,rfl,W,V⟩:=FV M.xh e;have q:=hR.move (m:=w.made) M.xh e hf;split at h;grind;rename_i U;rw[if_neg U];have T:=ep (l:=Cz w.l x.fu j n) (i:=j) h1.h12 ai ai;have S:=h1.get T;have Y:(bq (Cz w.l x.fu j n) j).is=2:=by rcases zg S with h|h|h<;>omega
 split at h;simp_all;rename_i K;rw[if_neg K];unfold Jf at h ⊢;dsimp only at h ⊢;split at h;simp_all;rename_i Q;rw[if_neg Q];split at h;grind;rename_i c4;rw[if_neg c4];have A:=hR.trans q (hR.keep (v:=(ez ((Ni w x j n (bq (Cz w.l x.fu j n) j) (ov x (bq (Cz w.l x.fu j n) j).param).1).st.getD 0 lC)).getD 1 lC) h1 W Y);rw[Int.add_zero]at A;exact A
def aby{w:Wk}{o:wH}(M:Ac w)(Y:vE o)(C:0<=src)(h:(orM w src o).1=0):R o.oZ w.l w.made (orM w src o).2.l (orM w src o).2.made:=by unfold orM at h ⊢;split at h;omega;rename_i u;rw[if_neg u];split at h;omega;rename_i K;rw[if_neg K];simp at K;split at h;omega;rename_i T;rw[if_neg T];split at h;omega;rename_i c4;rw[if_neg c4];have h1:=zi M.xh Y u K T c4;split at h;omega;rename_i S;rw[if_neg S];simp at S;obtain⟨D,W,U⟩:=uH M.xh;have B:=hR.new (m:=w.made) (a:=newAcc o) M.xh ai rfl rfl rfl;have q:=hR.move (m:=w.made++[((eS (w.l.aS.drop 4) 4:Nat):Int)]) h1 S (.inl rfl);rw[if_pos rfl]at q;have A:=hR.trans B q;rw[Int.zero_add]at A;exact A
def PF{w:Wk}{x:w9}(M:Ac w)(D:xH x)(C:0<=src)(Y:src<4)(hf:∀o,x.op=some o->x.fu=src)(h:(gC w x).1.2=0):R (match x.op with|some o=>o.oZ|none=>0) w.l w.made (gC w x).2.l (gC w x).2.made:=by
 obtain⟨fu,H,v⟩:=x;unfold gC at h ⊢;cases H with
 |none =>
  have V:4<=fu:=D.2.2;have:=Uc hR (x:=⟨fu,none,v⟩) M (.inr V) h;grind
 |some o =>
  have B:fu=src:=hf o Z;subst B;dsimp only at h ⊢;split at h;rename_i c;rw[if_pos c];have:=Uc hR (x:=⟨fu,some o,v⟩) M (.inl Z) h;simp_all;rename_i c;rw[if_neg c];split at h;rename_i K;rw[if_pos K];exact aby hR M D C h;grind
omit hR in
def Kk{w:Wk}{x:w9}:∀y∈(gC w x).1.1,y.op=none:=by
 have C:∀to n,∀y∈(EA w x to n).1.1,y.op=none:=by
  intro to n y U;unfold EA Jf at U;dsimp only at U
  repeat' split at U
  all_goals first|(simp at U;done)|skip
  obtain⟨o,_,rfl⟩:=List.mem_map.1 U;rfl
 unfold gC;cases x.op with
 |none=>exact C _ _
 |some o =>
  grind
def Kl(C:0<=src)(Y:src<4):∀(k:Nat)(w:Wk)(q:List w9),Ac w->(w.made.length:Int)<=w.done->(∀x∈q,xH x/\x.op=none)->(allM k w q).1=0->R 0 w.l w.made (allM k w q).2.l (allM k w q).2.made
 |k,w,[],M,hm,hq,h=>by rw[allM_nil];exact hR.refl
 |0,w,x::q,M,hm,hq,h=>by simp[allM]at h
 |k+1,w,x::q,M,hm,hq,h=>by
  obtain⟨D,B⟩:=hq x cc;have h1:=yX M hm D;unfold allM at h ⊢;split at h;omega;rename_i c;rw[if_neg c];split at h;omega;rename_i K;rw[if_neg K];have h2:Ac {(gC w x).2 with done:=(gC w x).2.done+1}:=⟨h1.ok.xh,h1.ok.bU,h1.ok.au,IF,Oo⟩
  have I:=Kl C Y k _ (q++(gC w x).1.1) h2 h1.ok.MF (λy U=>by
   rcases List.mem_append.1 U with U|U
   simp_all
   exact⟨h1.items y U,Kk y U⟩) h
  have V:=PF hR M D C Y (λo T=>by rw[B]at T;cases T) adS;rw[B]at V;have:=hR.trans V I;exact this
def Zc(C:0<=src)(Y:src<4){k:Nat}{w:Wk}{o:wH}(M:Ac w)(q:(w.made.length:Int)<=w.done)(T:vE o)(h:(allM (k+1) w [⟨src,some o,lC⟩]).1=0):R o.oZ w.l w.made (allM (k+1) w [⟨src,some o,lC⟩]).2.l (allM (k+1) w [⟨src,some o,lC⟩]).2.made:=by have D:xH ⟨src,some o,lC⟩:=T;have h1:=yX M q D;unfold allM at h ⊢;split at h;omega;rename_i c;rw[if_neg c];split at h;omega;rename_i K;rw[if_neg K];have h2:Ac {(gC w ⟨src,some o,lC⟩).2 with done:=(gC w ⟨src,some o,lC⟩).2.done+1}:=⟨h1.ok.xh,h1.ok.bU,h1.ok.au,by have:=h1.done;have:=M.done;show 0<=(gC w ⟨src,some o,lC⟩).2.done+1/\(gC w ⟨src,some o,lC⟩).2.done+1<=24;omega,by have:=h1.ok.MF;show((gC w ⟨src,some o,lC⟩).2.made.length:Int)<=(gC w ⟨src,some o,lC⟩).2.done+1+1;omega⟩;have I:=Kl hR C Y k _ ([]++(gC w ⟨src,some o,lC⟩).1.1) h2 h1.ok.MF (λy U=>⟨h1.items y (by simpa using U),Kk y (by simpa using U)⟩) h;have V:=PF hR M D C Y (λ_ _=>rfl) adS;have:=hR.trans V I;simp_all
omit hR in
def EU:List wH->Int
 |[]=>0
 |o::r=>o.oZ+EU r
def Cp(C:0<=src)(Y:src<4):∀(l:List wH)(w:Wk),Ac w->(w.made.length:Int)<=w.done->(∀o∈l,vE o)->(lZ src w l).1=0->R (EU l) w.l w.made (lZ src w l).2.l (lZ src w l).2.made
 |[],w,hw,hm,hl,h=>hR.refl
 |o::r,w,hw,hm,hl,h=>by
  have h1:=zb 25 w [⟨src,some o,lC⟩] hw hm λx D=>by rw[aga]at D;subst D;exact hl o cc
  unfold lZ at h ⊢;split at h;omega;rename_i c;rw[if_neg c];simp at c;have h2:=Cp C Y r _ h1.ok (h1.made c) (λx D=>hl x K0) h;exact hR.trans (Zc hR C Y hw hm (hl o cc) c) h2
end
end Go.Proofs
