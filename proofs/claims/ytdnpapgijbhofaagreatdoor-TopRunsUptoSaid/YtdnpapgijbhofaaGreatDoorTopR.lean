/- What a batch does to scripts, to numbers and to who is there: -/
import Derived.Test.YtdnpapgijbhofaaGreatDoorTopQ
set_option linter.defProp false
set_option linter.unusedVariables false
set_option linter.unusedSimpArgs false
namespace Go.Proofs
open Go.cw
def I4(a b:Acc):Prop:=b.cnt=a.cnt/\(a.is≠0->b.is=a.is/\b.param=a.param/\b.store=a.store/\b.code=a.code)
def ai5(_:Int)(l:dX)(_:L Int)(m:dX)(_:L Int):Prop:=∀i:Nat,i<12->I4 (bq l i) (bq m i)
def I4.refl(a:Acc):I4 a a:=⟨Z,λ_=>⟨Z,Z,Z,Z⟩⟩
def I4.trans{a b c:Acc}(h1:I4 a b)(h2:I4 b c):I4 a c:=by refine⟨h2.1.trans h1.1,λh=>?_⟩;obtain⟨E,N,H,C⟩:=h1.2 h;obtain⟨D,Y,U,W⟩:=h2.2 (by rw[E];exact h);simp_all
def ai6(src:Int):Clo src ai5 where
 refl:=λi _=>I4.refl _
 trans:=λh1 h2 i U=>(h1 i U).trans (h2 i U)
 move:=λ{l m F T n} hl e hf i U=>by rw[Ss hl e U];exact⟨Z,λ_=>⟨Z,Z,Z,Z⟩⟩
 keep:=λ{l m j v} hl hj h2 i U=>by rw[nJ ab9];by_cases c:j=i;subst c;rw[if_pos rfl];exact⟨Z,λ_=>⟨Z,Z,Z,Z⟩⟩;rw[if_neg c];exact I4.refl _
 new:=λ{l m a} hl hf h2 hc _ i U=>by
  obtain⟨x,D,C⟩:=(uH hl).2.2 hf;rw[nJ ab9];by_cases c:eS (l.aS.drop 4) 4=i
  ·rw[if_pos c];rw[c]at D;have Y:=hl.get D;rw[iG D];refine⟨?_,λh=>absurd C h⟩;rcases zg Y with h|h|h<;>omega
  rw[if_neg c];exact I4.refl _
def HP:∀(l:L Acc)(k i:Nat)(a:Acc),k+i<eS l k->l[i]?=some a->a.is≠0
 |[],k,i,a,h,e=>by simp at e
 |x::l,k,i,a,h,e=>by
  simp only[eS]at h;split at h;omega;rename_i c;cases i with
  |zero=>simp at e;subst e;exact c
  |succ i=>simp at e;exact HP l (k+1) i a ai e
structure wU(_c:Int)(l:dX)(m:List Int)(l':dX)(m':List Int):Prop where
 ex:∃t:List Int,m'=m++t/\t.Pairwise (· < ·)/\(∀x∈t,∃i:Nat,x=i/\4<=i/\i<12/\(bq l i).is=0/\(bq l' i).is=2)/\(∀i:Nat,i<12->(bq l i).is≠(bq l' i).is->(i:Int)∈t)
 stay:∀i:Nat,i<12->(bq l i).is≠0->(bq l' i).is=(bq l i).is
 low:∀i j:Nat,4<=i->i<j->j<12->(bq l' i).is=0->(bq l' j).is=(bq l j).is
def wU.same{c:Int}{l N:dX}{m:L Int}(h:∀i:Nat,i<12->(bq N i).is=(bq l i).is):wU c l m N m :=
 ⟨⟨[],cc,.nil,λx D=>by simp at D,λi U B=>absurd (h i U).symm B⟩,λi U _=>h i U,λi j _ _ Y _=>h j Y⟩
def wU.trans{c d e:Int}{a b x:dX}{m n q:L Int}(h1:wU c a m b n)(h2:wU d b n x q):wU e a m x q:=by
 obtain⟨⟨J,rfl,G,Q,I⟩,s1,l1⟩:=h1;obtain⟨⟨H,rfl,E,A,D⟩,K,l2⟩:=h2;refine⟨⟨J++H,by rw[afn],?_,?_,?_⟩,λi U B=>?_,λi j U V W C=>?_⟩
 ·rw[ahA];refine⟨G,E,λu T v hv=>?_⟩;obtain⟨i,rfl,S,U,P,O⟩:=Q u T;obtain⟨j,rfl,Y,W,N,M⟩:=A v hv;rcases Nat.lt_trichotomy i j with h|h|h
  omega;simp_all;have:=l1 j i Y h U N;omega
 ·intro u T;rcases List.mem_append.1 T with T|T
  obtain⟨i,rfl,S,U,P,O⟩:=Q u T;exact⟨i,Z,S,U,P,by rw[K i U ai];exact O⟩;obtain⟨j,rfl,Y,W,N,M⟩:=A u T;refine⟨j,Z,Y,W,?_,M⟩;by_cases h:(bq a j).is=0;exact h;have:=s1 j W h;omega
 intro i U B;by_cases h:(bq a i).is=(bq b i).is;exact List.mem_append.2 (.inr (D i U (by rw[<- h];exact B)));exact List.mem_append.2 (.inl (I i U h));rw[K i U (by rw[s1 i U B];exact B),s1 i U B];have hb:(bq b i).is=0:=by by_cases h:(bq b i).is=0;exact h;have:=K i ai h;omega
 rw[l2 i j U V W C,l1 i j U V W hb]
def ago(src:Int):Clo src wU where
 refl:=wU.same λ_ _=>rfl
 trans:=λh1 h2=>h1.trans h2
 move:=λ{l m F T n} hl e hf=>wU.same λi U=>by rw[Ss hl e U];rfl
 keep:=λ{l m j v} hl S h2=>wU.same λi U=>by rw[nJ ab9];grind
 new:=λ{l m a} hl hf h2 hc _=>by
  have W:=hl.h12;obtain⟨N,_,q⟩:=uH hl;obtain⟨x,D,C⟩:=q hf;have Y:∀i:Nat,4<=i->i<eS (l.aS.drop 4) 4->(bq l i).is≠0:=by intro i U G;have h:=ep (l:=l) (i:=i) W ai ai;exact HP (l.aS.drop 4) 4 (i-4) _ ai (by rw[agS,show 4+(i-4)=i by omega];exact h)
  generalize eS (l.aS.drop 4) 4=k at *;have A:(bq l k).is=0:=by rw[iG D];exact C
  have M:∀i:Nat,i<12->(bq (l.hD k a) i).is=if k=i then 2 else(bq l i).is:=by intro i U;rw[nJ ai];split;omega;rfl
  refine⟨⟨[(k:Int)],Z,cc,λu Q=>?_,λi U B=>?_⟩,λi U B=>?_,λi j U V S I=>?_⟩;rw[aga]at Q;exact⟨k,Q,N,hf,A,by rw[M k hf,if_pos rfl]⟩;rw[M i U]at B;by_cases c:k=i;subst c;simp;rw[if_neg c]at B;exact absurd Z B;rw[M i U,if_neg (by intro c;subst c;exact B A)];rw[M i ai]at I;rw[M j S];by_cases c:k=i;omega;rw[if_neg c]at I;rw[if_neg];intro K;subst K;exact Y i U V I
def Ze{R:Int->dX->L Int->dX->L Int->Prop}{l:dX}{b:lN}(hR:Clo b.src R)(I:oY l)(G:b.bU<=3000)(U:∀o∈b.ops,vE o)(Y:uw l b=0->R 0 l [] (sQ l b) []):∃c,R c l [] (gp l b).1 (gp l b).2.made:=by unfold gp;split;exact⟨0,hR.refl⟩;rename_i c;simp at c;obtain⟨_,C,_⟩:=qE c;split;grind;rename_i K;simp at K;exact⟨_,hR.trans (Y c) (Cp hR C.1 C.2 b.ops (om l b) (vF I c G) (afw _) U K)⟩
def abw{l:dX}{b:lN}(I:oY l)(G:b.bU<=3000)(U:∀o∈b.ops,vE o):∃c,wU c l [] (gp l b).1 (gp l b).2.made :=
 Ze (ago b.src) I G U λh=>wU.same λi Y=>by rw[zP I h Y];split<;>rfl
def agp(s n:Int)(_:Int)(l:dX)(_:L Int)(m:dX)(_:L Int):Prop:=∀i:Nat,i<12->((bq l i).is≠0->(bq m i).is=(bq l i).is/\(bq m i).param=(bq l i).param/\(bq m i).store=(bq l i).store/\(bq m i).code=(bq l i).code) /\
 ((bq m i).cnt=(bq l i).cnt\/((bq m i).cnt=(bq l i).cnt+1/\(i:Int)=s/\(bq m i).cnt=n))
def abC{l:dX}{b:lN}(I:oY l)(h:uw l b=0):agp b.src b.cnt 0 l [] (sQ l b) []:=by intro i U;rw[zP I h U];by_cases c:(i:Int)=b.src;rw[if_pos c];refine⟨λ_=>⟨rfl,rfl,rfl,rfl⟩,.inr ⟨rfl,c,?_⟩⟩;have:=(qE h).2.2.1.2;simp_all;simp_all
def Y8{l:dX}{b:lN}(I:oY l)(G:b.bU<=3000)(q:∀o∈b.ops,vE o):agp b.src b.cnt 0 l [] (gp l b).1 []:=by unfold gp;split;exact λi U=>⟨λ_=>⟨rfl,rfl,rfl,rfl⟩,.inl rfl⟩;rename_i c;simp at c;obtain⟨_,C,_⟩:=qE c;have hf:=abC I c;split;omega;rename_i K;simp at K;have h1:=Cp (ai6 b.src) C.1 C.2 b.ops (om l b) (vF I c G) (afw _) q K;intro i U;obtain⟨D,Y⟩:=hf i U;obtain⟨g1,H⟩:=h1 i U;have e:bq (om l b).l i=bq (sQ l b) i:=rfl;simp_all
end Go.Proofs
