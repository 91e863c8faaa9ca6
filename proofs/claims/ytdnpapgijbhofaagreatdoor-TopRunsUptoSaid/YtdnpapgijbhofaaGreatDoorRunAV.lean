/- Package run: -/
import Derived.Test.YtdnpapgijbhofaaGreatDoorRunAP
set_option linter.defProp false
set_option linter.unusedVariables false
set_option linter.unusedSimpArgs false
set_option maxHeartbeats 0
set_option maxRecDepth 100000
namespace Go.Proofs
open Go.cw
def Az:∀{l:L Vl}{x:Vl},x∈l->gX x<=iX l
 |y::l,x,h=>by
  simp only[iX];rcases List.mem_cons.1 h with rfl|h
  omega;have:=Az h;omega
def Bb(z v:Vl):Prop:=gX v<=200\/v=z
def QS(z:Vl)(S:bZ):Prop:=(∀v∈S.st,Bb z v)/\∀F∈S.fr,∀v∈F.aside,Bb z v
section
variable {z : Vl}
def age:Bb z lC := .inl (by decide)
def Hx{l:L Vl}(h:∀v∈l,Bb z v)(i:Nat):Bb z (lV l i):=by
 unfold lV List.getD;cases D:l[i]? with
 |none=>exact age
 |some x=>exact h x (abz D)
def Ph:∀(l st:L Vl),(∀v∈st,Bb z v)->∀v∈(oK l st).2,Bb z v
 |[],st,h=>h
 |x::l,st,h=>by
  unfold oK;split;exact h;refine Ph l (x::st) λv N=>?_;rcases List.mem_cons.1 N with rfl|N
  exact .inl ai;simp_all
def Hy{S:bZ}(l:L Vl)(h:QS z S):QS z (aY S l).2:=⟨Ph _ _ h.1,h.2⟩
def vn{S:bZ}{code:L Nd}{fin:Int}{I:L Vl}(h:QS z S)(T:∀v∈I,Bb z v):QS z (ee S code fin I):=by
 refine⟨h.1,λF Y=>?_⟩;rcases List.mem_cons.1 Y with rfl|Y
 omega;exact h.2 F Y
def Hz{S:bZ}{code:L Nd}{fin:Int}{I:L Vl}(h:QS z S)(T:∀v∈I,Bb z v):QS z (we S code fin I):=by
 refine⟨h.1,λF Y=>?_⟩;rcases List.mem_cons.1 Y with rfl|Y
 omega;exact h.2 F Y
def Dy{S:bZ}{l:L Vl}(h:QS z S)(I:∀v∈l,Bb z v):QS z {S with st:=l}:=⟨I,h.2⟩
def sI{x:Vl}{l:L Vl}(D:Bb z x)(h:∀v∈l,Bb z v):∀v∈x::l,Bb z v:=λv N=>by grind
def Ml{a b:L Vl}(h1:∀v∈a,Bb z v)(h2:∀v∈b,Bb z v):∀v∈a++b,Bb z v:=λv N=>by grind
def Pj{a:L Vl}(n:Nat)(h1:∀v∈a,Bb z v):∀v∈a.take n,Bb z v:=λv N=>h1 v (ahe N)
def Pk{a:L Vl}(n:Nat)(h1:∀v∈a,Bb z v):∀v∈a.drop n,Bb z v:=λv N=>h1 v (afW N)
def tH:∀v∈([]:L Vl),Bb z v:=λv N=>by simp at N
def Mm{a:L Vl}(h1:∀v∈a,Bb z v):∀v∈a.reverse,Bb z v:=λv N=>h1 v (List.mem_reverse.1 N)
def yI{c:Prop}[Decidable c]{a b:MR}(T:c->QS z a.2)(U:¬c->QS z b.2):QS z (if c then a else b).2:=by grind
def Sd{P:Int}{M:L Nd}{l:L Vl}{S:bZ}(h:QS z S)(I:∀v∈l,Bb z v)(Y:P=60->∀v∈ez (lV l 0),Bb z v):QS z (A3 P M l S).2:=by
 have q:QS z {S with au:=S.au+vN (lV l 1)}:=h;unfold A3 Yt Rv B7 LA Fh Tj Du;dsimp only
 repeat' (first|exact Hy _ h|exact h|exact Hy _ q|exact Hy _ (vn h tH)|exact vn h tH|exact Dy h (sI (Hx h.1 _) (Ml (Pj _ h.1) (Pk _ h.1)))|exact Dy h (Ml (Pj _ h.1) (sI (Hx I 0) (Pk _ h.1)))|exact Hz h (Y ‹_›)|exact Dy (Hz h tH) (sI (Hx I 0) h.1)|exact vn h (sI (Hx I 0) tH)|exact Dy (vn h (Mm h.1)) (sI (Hx I 0) tH)|refine yI (λ_=>?_) (λ_=>?_)|split)
def J9:∀(n:Nat)(s l r:L Vl),ki n s=some (l,r)->(∀v∈s,Bb z v)->(∀v∈l,Bb z v)/\∀v∈r,Bb z v
 |0,s,l,r,h,C=>by simp only[ki]at h;cases h;exact⟨tH,C⟩
 |n+1,[],l,r,h,C=>by simp only[ki]at h;cases h
 |n+1,v::s,l,r,h,C=>by
  simp only[ki]at h;cases B:ki n s with
  |none=>rw[B]at h;cases h
  |some p =>
   obtain⟨N,O⟩:=p;rw[B]at h;cases h;obtain⟨h1,h2⟩:=J9 n s N r B λv Y=>C v (afH _ Y);simp_all
def Vz{P:Int}{M:L Nd}{S:bZ}(h:QS z S)(Y:P=60->∀v q,S.st=v::q->∀y∈ez v,Bb z y):QS z (aE P M S).2:=by
 unfold aE;cases C:ki (bY P) S.st with
 |none=>exact Dy h tH
 |some p =>
  obtain⟨h1,h2⟩:=J9 _ _ _ _ C h.1;refine Sd (Dy h h2) h1 λe=>?_;subst e;have E:bY 60=1:=by decide +kernel
  cases u:S.st with
  |nil=>rw[u]at C;cases C
  |cons v q=>rw[u]at C;cases C;exact Y rfl v _ u
def Pm{S:bZ}{F:iR}{t:List iR}(hf:S.fr=F::t)(h:QS z S):QS z (oP S F t).2:=by
 obtain⟨h1,h2⟩:=h;rw[hf]at h2;have Y:=h2 F cc;have C:∀G∈t,∀v∈G.aside,Bb z v:=λG W=>h2 G (by simp[W]);have J:QS z S:=⟨h1,by rw[hf];exact h2⟩;refine yI (λ_=>⟨Ml (Mm Y) h1,C⟩) (λ_=>yI (λ_=>?_) (λ_=>yI (λ_=>?_) (λ_=>yI (λ_=>?_) (λ_=>⟨h1,C⟩))))
 ·cases e:S.st with
  |nil=>exact J
  |cons v q=>rw[e]at h1;exact⟨sI (h1 v cc) (Mm Y),C⟩
 ·cases e:F.aside with
  |nil=>exact⟨h1,C⟩
  |cons x q =>
   rw[e]at Y;refine yI (λ_=>J) (λ_=>⟨sI (Y x cc) h1,λG W=>?_⟩);grind
 cases e:S.st with
 |nil=>exact J
 |cons v q =>
  rw[e]at h1;have O:∀w∈q,Bb z w:=λw M=>h1 w (afH _ M);refine yI (λ_=>yI (λ_=>⟨O,by rw[hf];exact h2⟩) (λ_=>⟨O,λG W=>?_⟩)) (λ_=>⟨O,C⟩);grind
def Ck{S:bZ}{F:iR}{t:List iR}(hf:S.fr=F::t)(h:QS z S):QS z (jb S F t):=by obtain⟨h1,h2⟩:=h;rw[hf]at h2;refine⟨h1,λG Y=>?_⟩;grind
def abg{C:L Ty×Bool}{S:bZ}{s:L Ty}{F:iR}{t:List iR}{N:Int}{W:L UInt8}{M:L Nd}(U:MT C S s)(h:S.fr=F::t)(B:F.code[F.pos]?=some (.mk 2 N 60 W M)){v:Vl}{q:L Vl}(u:S.st=v::q):vK v=10\/vK v=13:=by
 obtain⟨I,Y,O,P,K,J⟩:=U;rw[h]at Y;obtain⟨r,h1,h2,H,G⟩:=Cj Y B;simp only[fZ]at h1;cases hf:bP 60 M with
 |none=>rw[hf]at h1;cases h1
 |some V =>
 rw[hf]at h1;have T:iW 60 (cE M) V s=(r,0):=h1;rw[u]at I;cases s with
 |nil=>exact I.elim
 |cons t s =>
  have D:=cQ I.1.1;obtain⟨E,q1,r1,Q,rfl,rfl⟩:=LY hf bn;have A:(if dD t=10\/dD t=13 then cZ (cz Q ((if dD t=13 then .mk 11 (aV t)else aU t 0)::s,false)) (gy s)else bw 5)=(r,0):=T;split at A;rename_i c;obtain⟨k,n,a,sx,ar,ty,co⟩:=v;have:=(ja D.2.1).1;show k=10\/k=13;omega;cases A
def YR{C:L Ty×Bool}{S:bZ}{s:L Ty}{F:iR}{t:List iR}(A:vK z≠10/\vK z≠13)(U:MT C S s)(h:S.fr=F::t)(hq:QS z S):QS z (An S F t).2:=by
 unfold An;split;exact Pm h hq;split;omega;rename_i Y N P O M B;split;exact vn (Ck h hq) tH;split;exact Ck h hq;rename_i K;split;exact Ck h hq;obtain rfl:Y=2:=by omega
 have V:QS z (jb S F t):=Ck h hq;refine Vz (S:={jb S F t with used:=S.used+1}) V λe v q u=>?_;subst e;have W:S.st=v::q:=u;have h1:=abg U h B W;rcases hq.1 v (by rw[W];simp)with h2|rfl
 intro y T;left;obtain⟨k,n,a,J,Q,ty,I⟩:=v;have:=Az (show y∈Q from T);simp only[gX]at h2;omega;omega
def Nv{B:L Ty×Bool}(A:vK z≠10/\vK z≠13):∀(k:Nat)(S:bZ)(s:L Ty),MT B S s->left S<=1000000000->QS z S->QS z (l8 k S).2
 |0,S,s,_,_,hq=>hq
 |k+1,S,s,hT,hW,hq=>by
  cases T:S.fr with
  |nil=>rw[Vy _ T];exact hq
  |cons F t =>
   rw[Sb k T];have h1:=YR A hT T hq;by_cases C:(An S F t).1=0;rw[if_pos C];obtain⟨O,M,Y⟩:=abf (Sc hT T hW) C;exact Nv A k _ O M ai h1;simp_all
end
end Go.Proofs
