/- Package chain: -/
import Derived.Test.YteanleefnjknoaaGreatDoorChn9
import Derived.Test.YteanleefnjknoaaGreatDoorRows
import Derived.Test.YteanleefnjknoaaGreatDoorTPure
import Derived.Test.YteanleefnjknoaaGreatDoorCtx
import Derived.WalkKit
import Derived.ProofKit
import Derived.OpenShut
import Derived.Test.YteanleefnjknoaaGreatDoorHead
import Derived.JoinedCond
set_option maxRecDepth 100000
open Go.IntKind
open Go.Proofs.Tryz
set_option linter.defProp false
set_option linter.unusedVariables false
set_option linter.unusedSimpArgs false
set_option maxHeartbeats 0
namespace Go.Proofs
open Go.cK
def aa1{l:gm}(h12:l.br.length=12)(z:Int):bV 180 [.c (ag z)] (cU l)=some (cU ⟨l.br,z⟩):=by
 have h1:=nF (iO l) 0 [.c (ag z)] [.c (.int .i64 l.ez)] _ Z;rw[uN h12]at h1;rw[wK,wK];exact h1
def jl{ρ:Ren}{ts:L (Nat×Nat)}:∀{l:L AV}{n:Nat},l.length=n->l.all AV.one=true->eF ρ ts (List.replicate n .any) l
 |[],_,rfl,_=>rfl
 |a::l,_,rfl,h=>by
  simp only[aeL,aai]at h;exact⟨_,_,Z,h.1,jl Z h.2⟩
def wL{T:AV->AV->Prop}(h:∀a,T a a):∀(l:L AV),Rz T l l
 |[]=>trivial
 |a::l=>⟨h a,wL h l⟩
def Mt{T:AV->AV->Prop}(h:∀a,T a a){b c:L AV}(Q:Rz T b c):∀(l:L AV),Rz T (l++b) (l++c)
 |[]=>Q
 |a::l=>⟨h a,Mt h Q l⟩
def qo{ρ:Ren}{ts:L (Nat×Nat)}{l:gm}:eF ρ ts (cU l) (cU l):=cN _
def wM{p s:Nat}{rows:L CV}(a:AV):UE p s rows a a := .inl rfl
def wF(w:Wk):L AV:=cU w.l++[.c (ag w.cC),.c (ag 0),.c (ag w.done),.c (ag w.used),.c (ag w.az),.c (.sl 1 (eJ w.made))]
def ac2{w:Wk}(h12:w.l.br.length=12){i:TI}(h1:i.isAgg=true)(h2:i.size=181):lH i (wF w)=some (.agg (cU w.l)):=by
 unfold lH wF;rw[h1,h2];simp only[zm _ _ _ _ (EA h12)]
def Z2{w:Wk}(h12:w.l.br.length=12):eu 182 (wF w)=some [.c (ag 0),.c (ag w.done),.c (ag w.used),.c (ag w.az),.c (.sl 1 (eJ w.made))]:=by
 have h1:=jj (cU w.l) [AV.c (ag w.cC),.c (ag 0),.c (ag w.done),.c (ag w.used),.c (ag w.az),.c (.sl 1 (eJ w.made))];rw[jR h12]at h1;exact lY _ 1 _ _ _ h1 Z
def afF{w:Wk}(h:wO w=none){ρ:Ren}{ts:L (Nat×Nat)}:eF ρ ts (wF w) (wB w 0):=by
 obtain⟨l,E,done,K,W,I⟩:=w;cases I with
 |cons x r=>cases h
 |nil =>
  have P:∀(cs:L CV){p q:L AV},eF ρ ts p q->eF ρ ts (cs.map AV.c++p) (cs.map AV.c++q):=by
   intro cs p q h
   induction cs with
   |nil=>exact h
   |cons c cs Y=>exact⟨_,_,Z,.inl Z,Y⟩
  exact P _ ce 
def afG{w:Wk}{f:L CV}(h:wO w=some f)(k:Nat):Rz (UE k 1 (eJ w.made)) (wB w k) (wF w):=by
 obtain⟨l,E,done,K,W,I⟩:=w;cases I with
 |nil=>cases h
 |cons x r =>
  refine Mt (b:=[_,_,_,_,_,_]) (c:=[_,_,_,_,_,_]) wM ?_ (cU l);exact⟨.inl Z,.inl Z,.inl Z,.inl Z,.inl Z,.inr ⟨_,Z,by simp[eJ],Z⟩,trivial⟩
def afH{w:Wk}{f:L CV}(h:wO w=some f):f=bC (eJ w.made):=by
 unfold wO at h;split at h
 ·cases h
 ·cases h;rename_i C;rw[C]
def Tn{l:L Int}:∀r∈eJ l,r.cells.length=1:=λr C=>by obtain⟨n,_,rfl⟩:=List.mem_map.1 C;rfl
def Ia:∀(k:Nat)(w:Wk)(q:L Au),w.made≠[]->(allM k w q).2.made≠[]
 |k,w,[],h=>by rw[allM_nil];exact h
 |0,w,x::q,h=>h
 |k+1,w,x::q,h=>by
  unfold allM;split
  ·exact h
  split
  ·exact xU h
  ·exact Ia k _ _ (xU h)
def E3:∀(l:L BD)(k:Nat)(o:BD),l[k]?=some o->(ir l)[k]?=some (.agg (Uz o))
 |[],k,o,h=>by simp at h
 |x::l,0,o,h=>by simp at h;subst h;rfl
 |x::l,k+1,o,h=>by simp only[aeF]at h;exact E3 l k o h
def XX(Ll:gm)(c:L AV)(w:Wk):L (Nat×L AV):=match wO w with
 |none=>[(2,cU Ll),(3,c),(4,List.replicate 181 .any),(5,List.replicate 5 .any),(49,wB w 0)]
 |some f=>[(2,cU Ll),(3,c),(4,List.replicate 181 .any),(5,List.replicate 5 .any),(49,wB w 900002),(900002,f.map AV.c)]
def Mu{Ll:gm}{c:L AV}{w:Wk}(h:wO w=none):XX Ll c w=[(2,cU Ll),(3,c),(4,List.replicate 181 .any),(5,List.replicate 5 .any),(49,wB w 0)]:=by unfold XX;rw[h]
def Mv{Ll:gm}{c:L AV}{w:Wk}{f:L CV}(h:wO w=some f):XX Ll c w=[(2,cU Ll),(3,c),(4,List.replicate 181 .any),(5,List.replicate 5 .any),(49,wB w 900002),(900002,f.map AV.c)]:=by unfold XX;rw[h]
def YO(Ll:gm)(c:L AV)(w:Wk):O5 (XX Ll c w) (XX Ll c w):=by
 unfold XX;cases h:wO w with
 |none=>exact⟨Z,Z,Z,Z,Z,trivial⟩
 |some f=>exact⟨Z,Z,Z,Z,Z,Z,trivial⟩
def aa2(Ll:gm)(a b c d:Int)(r:L CV)(w:Wk):okB [2,3,4,5,49,900002] (XX Ll [.c (ag a),.c (ag b),.c (ag c),.c (ag d),.c (.sl 23 r)] w)=true:=by
 unfold XX;cases h:wO w with
 |none=>exact jI Z (mJ _ _) (jI Z Z (jI Z Z (jI Z Z (jI Z (JA (λO=>absurd h O)) Z))))
 |some f=>exact jI Z (mJ _ _) (jI Z Z (jI Z Z (jI Z Z (jI Z (JA (λ_=>rfl)) (LX Z)))))
def To{l:gm}{i:Nat}{a:Acc}(h12:l.br.length=12)(ha:l.br[i]?=some a)(D:Int):∃(V U:gm) (q I:L AV),(V.br.length=12/\U.br.length=12)/\(U.ez=l.ez/\U.br=l.br.set i {a with cnt:=i64.wrap (a.cnt+1),dr:=i64.wrap (a.dr-D)}) /\
  eu (0+i*15+2) (cU l)=some (.c (ag a.cnt)::q)/\bV (0+i*15+2) [.c (ag (i64.wrap (a.cnt+1)))] (cU l)=some (cU V) /\
  eu (0+i*15+1) (cU V)=some (.c (ag a.dr)::I)/\bV (0+i*15+1) [.c (ag (i64.wrap (a.dr-D)))] (cU V)=some (cU U):=by
 obtain⟨J,dr,cnt,⟨Y,M⟩,⟨C,S⟩,code,⟨u,A,O,H,Q,K,W⟩⟩:=a;have G:i<l.br.length:=(List.getElem?_eq_some_iff.1 ha).1;obtain⟨q1,T⟩:=sL ha;have N:(l.lB i ⟨J,dr,i64.wrap (cnt+1),⟨Y,M⟩,⟨C,S⟩,code,⟨u,A,O,H,Q,K,W⟩⟩).br[i]?=some ⟨J,dr,i64.wrap (cnt+1),⟨Y,M⟩,⟨C,S⟩,code,⟨u,A,O,H,Q,K,W⟩⟩:=by
  show(l.br.set i _)[i]?=_;rw[agT G]
 obtain⟨E,P⟩:=sL N;refine⟨l.lB i ⟨J,dr,i64.wrap (cnt+1),⟨Y,M⟩,⟨C,S⟩,code,⟨u,A,O,H,Q,K,W⟩⟩,(l.lB i ⟨J,dr,i64.wrap (cnt+1),⟨Y,M⟩,⟨C,S⟩,code,⟨u,A,O,H,Q,K,W⟩⟩).lB i ⟨J,i64.wrap (dr-D),i64.wrap (cnt+1),⟨Y,M⟩,⟨C,S⟩,code,⟨u,A,O,H,Q,K,W⟩⟩,_,_,⟨tv h12,tv (tv h12)⟩,⟨Z,?_⟩,T 2 _ Z,Ez ha Z,P 1 _ Z,Ez N Z⟩;show(l.br.set i _).set i _=_;rw[List.set_set]
attribute [local irreducible] AK af bg cn dP cP cU eG iO gm.de gm.lB wB wF gh
def wc{p:Prop}(h:p:=by exact uQ hf (G2 Z Z Z Z (eK (by assumption) Z Z) Z Z Z Z Z) (EI _ Z) Z):p:=h
def CN{l:gm}(U:wo l)(b:yJ)(hg:b.cC<=3000)(hb:∀o∈b.ops,LS o):ah 20 [.agg (eG l),zj b] (.eY [.agg (eG (qD l b).1),Jw (qD l b).2]):=by
 have hq:=S8 U b;have h12:=U.h12;unfold qD;by_cases e:Dv l b≠0
 ·rw[if_pos e];generalize Dv l b=m at *;obtain⟨B,Y,V,E,ops⟩:=b;have e1:(m != 0)=true:=by simpa using e
  refine qn func20 call20 λβ hf=>?_
  repeat' (first|exact wc|refine wz ?_)
 rw[if_neg e];simp only[ne_eq,aey]at e;obtain⟨_,⟨s0,s4⟩,⟨n1,n2⟩,⟨f0,g0⟩,⟨o1,o8⟩,hfb⟩:=JM e;have T:=Rv U e hg;rw[e]at hq;obtain⟨Ll,P⟩:∃Ll,Ll=SZ l b:=⟨_,rfl⟩
 have Q:vJ l b=⟨Ll,b.cC,0,0,0,[]⟩:=by rw[P];rfl
 rw[Q]at T ⊢;rw[<- P];obtain⟨R,hR⟩:∃R,R=qB b.src ⟨Ll,b.cC,0,0,0,[]⟩ b.ops:=⟨_,rfl⟩
 rw[<- hR];obtain⟨r,C⟩:∃r:CV,r = .eY [.agg (eG (if R.1≠0 then(Ll,Rcp.mk R.1 0 R.2.used 0 [])else(R.2.l,Rcp.mk 0 R.2.done R.2.used R.2.az R.2.made)).1),Jw (if R.1≠0 then(Ll,Rcp.mk R.1 0 R.2.used 0 [])else(R.2.l,Rcp.mk 0 R.2.done R.2.used R.2.az R.2.made)).2]:=⟨_,rfl⟩
 rw[<- C];unfold SZ at P;obtain⟨B,Y,V,E,ops⟩:=b;dsimp only at *;obtain⟨i,rfl⟩:=afz s0;have hi:i<12:=by omega
 have lj:Nat.blt i 12=true:=by rw[afj];exact hi
 have ha:=ng (l:=l) (i:=i) h12 bn bn;rw[aaC]at ha P;have GQ:=U.dr _ (aaB ha);have hc:0<=(iG l i).cnt:=by
  have h:=U.get ha;unfold tD G1 at h;simp at h;omega
 have hfe:=(iL.1 U.good).1;have aif:=(iL.1 U.good).2.2;generalize iG l i=a at *;obtain⟨l1,A,r1,r2,⟨z1,z2⟩,⟨ef,ea⟩,d1,p1,d2,p2⟩:=To h12 ha V;have p3:=aa1 z2 (i64.wrap (A.ez+V));have O:Ll=⟨A.br,i64.wrap (A.ez+V)⟩:=by
  rw[P,ef,ea,iy (n:=a.dr-V) bn bn,iy (n:=a.cnt+1) bn (by unfold bN at n1;omega),iy (n:=l.ez+V) bn bn]
 rw[<- O]at p3;have d3:=tJ z2;have zL:Ll.br.length=12:=T.Dx.h12;clear O P Q ea ef;refine qn func20 call20 λβ hf=>?_
 repeat' (first|exact wc|refine wz ?_|refine af.look hX kn Z Z (Yu Z Z Z Z Z Z Z Z Z Z ek Z Z Z) Z ?_|refine af.box kn Z Z Z Z Z Z ?_)
 refine AK.fV [(2,2),(3,3),(4,4),(5,5),(49,49)] [] (env':=[(2,.ptr 2 0),(3,.ptr 3 0),(4,.ptr 4 0),(5,.ptr 5 0),(8,.ptr 49 0),(52,.c (ag ((ir ops).length:Nat))),(53,.c (ag (0:Nat)))]) (bs':=[(2,cU Ll),(3,[.c (ag i),.c (ag Y),.c (ag V),.c (ag E),.c (.sl 23 (ir ops))]),(4,List.replicate 181 .any),(5,List.replicate 5 .any),(49,wB ⟨Ll,E,0,0,0,[]⟩ 0)]) (ts':=[]) (us':=[2,3,4,5,49,900002])
  ce  ⟨⟨_,_,Z,Z,qo⟩,ce,⟨_,_,Z,Z,jl Z Z⟩,⟨_,_,Z,Z,jl Z Z⟩,⟨_,_,Z,Z,(mo ⟨Ll,E,0,0,0,[]⟩).conv _ _ _ _ (λh=>absurd Z h)⟩,trivial⟩ Z ?_
 rw[<- Mu (w:=⟨Ll,E,0,0,0,[]⟩) rfl];refine AK.eL (α:=Nat×Wk) (λz=>z.1<=ops.length/\Ld z.2/\(z.2.made.length:Int)<=z.2.done/\R=qB i z.2 (ops.drop z.1)) (λz=>ops.length-z.1)
  (λz=>[(2,.ptr 2 0),(3,.ptr 3 0),(4,.ptr 4 0),(5,.ptr 5 0),(8,.ptr 49 0),(52,.c (ag ((ir ops).length:Nat))),(53,.c (ag (z.1:Nat)))]) (λz=>XX Ll [.c (ag i),.c (ag Y),.c (ag V),.c (ag E),.c (.sl 23 (ir ops))] z.2) (λ_=>[]) [2,3,4,5,49,900002] (0,⟨Ll,E,0,0,0,[]⟩)
  ⟨aeE _,T,aeX _,hR⟩ ce (YO _ _ _) trivial Z (aa2 _ _ _ _ _ _ _) Z ?_
 rintro⟨k,w⟩ ⟨hk,M,u,I⟩ ih;simp only at hk M u I ih;have J:=M.Dx.h12;have ac3:=zo ops;by_cases q:k<ops.length;rotate_left
 ·rw[afd bn]at I;simp only[qB]at I;subst I;rw[if_neg cS]at C;subst C;clear ih;have e1:decide ((k:Int)<(((ir ops).length:Nat):Int))=false:=aap bn;rcases wD w with D|⟨z,D⟩
  ·rw[Mu D];refine AK.fV [(2,2),(3,3),(4,4),(5,5),(49,49)] [] (env':=[(2,.ptr 2 0),(3,.ptr 3 0),(4,.ptr 4 0),(5,.ptr 5 0),(8,.ptr 49 0),(52,.c (ag ((ir ops).length:Nat))),(53,.c (ag (k:Nat)))]) (bs':=[(2,cU Ll),(3,[.c (ag i),.c (ag Y),.c (ag V),.c (ag E),.c (.sl 23 (ir ops))]),(4,List.replicate 181 .any),(5,List.replicate 5 .any),(49,wF w)]) (ts':=[]) (us':=[2,3,4,5,49,900002])
    ce  ⟨⟨_,_,Z,Z,qo⟩,ce,⟨_,_,Z,Z,jl Z Z⟩,⟨_,_,Z,Z,jl Z Z⟩,⟨_,_,Z,Z,afF D⟩,trivial⟩ Z ?_
   repeat' (first|exact wc|refine wz ?_|refine af.dD hX kn Z Z Z Z Z Z Z (ac2 J Z Z) ?_|refine af.dD hX kn Z Z Z Z Z Z (Z2 J) RA ?_)
  ·rw[Mv D];refine AK.AI 900002 1 (eJ w.made) (tail:=[]) (env':=[(2,.ptr 2 0),(3,.ptr 3 0),(4,.ptr 4 0),(5,.ptr 5 0),(8,.ptr 49 0),(52,.c (ag ((ir ops).length:Nat))),(53,.c (ag (k:Nat)))]) (bs':=[(2,cU Ll),(3,[.c (ag i),.c (ag Y),.c (ag V),.c (ag E),.c (.sl 23 (ir ops))]),(4,List.replicate 181 .any),(5,List.replicate 5 .any),(49,wF w)]) (ts':=[]) Z
    (by rw[afH D,aec]) Tn ce ⟨⟨_,Z,wL wM _⟩,⟨_,Z,wL wM _⟩,⟨_,Z,wL wM _⟩,⟨_,Z,wL wM _⟩,⟨_,Z,afG D _⟩,trivial⟩ Z trivial ?_
   repeat' (first|exact wc|refine wz ?_|refine af.dD hX kn Z Z Z Z Z Z Z (ac2 J Z Z) ?_|refine af.dD hX kn Z Z Z Z Z Z (Z2 J) RA ?_)
 obtain⟨o,p⟩:∃o,ops[k]?=some o:=⟨_,aea q⟩
 rw[dZ p]at I;simp only[qB]at I;have hx:Dw ⟨i,some o,ou⟩:=hb o (aaB p);have N:=O6 M u hx;have pK:=JL 25 w [⟨i,some o,ou⟩] M u (λx Re=>by rw[afD]at Re;subst Re;exact hx);have W:=xT (w:=w) (w':=(allM 25 w [⟨i,some o,ou⟩]).2) (λh=>Ia _ _ _ h);generalize allM 25 w [⟨i,some o,ou⟩]=S at *;obtain⟨e,w'⟩:=S;obtain⟨s1,s2,s3,s4,s5,s6⟩:=pK;simp only at s1 s2 s3 s4 s5 s6 N I W;have hrow:=E3 ops k o p;have e1:decide ((k:Int)<(((ir ops).length:Nat):Int))=true:=aak bn;have zw':=s1.Dx.h12;obtain⟨kind,to,vu,⟨a1,a2,a3,a4,a5⟩,⟨b1,b2,b3,b4,b5⟩,⟨c1,H,c3,c4,c5⟩,⟨d1,d2,d3,d4,d5⟩⟩:=o;by_cases H:e≠0
 ·rw[if_pos H]at I;subst I;rw[if_pos H]at C;subst C;clear ih;have e3:(e != 0)=true:=by simpa using H
  rcases wD w with D|⟨z,D⟩
  ·rw[Mu D]
   repeat' (first|exact wc|refine wz ?_|refine Yq Z Z N D Z Z Z Z Z (λ_=>by repeat' (first|exact Z|refine GZ Z ?_|refine G0 Z ?_)) Z Z (λh=>?_) (λf h=>?_))
  ·obtain⟨z',G⟩:=W ⟨z,D⟩;rw[Mv D]
   repeat' (first|exact wc|refine wz ?_|refine Yr Z Z N D G Z Z Z Z Z Z Z (λ_=>by repeat' (first|exact Z|refine GZ Z ?_|refine G0 Z ?_)) Z Z Z ?_)
 rw[if_neg H]at I;have e3:(e != 0)=false:=by simpa using H
 have K:=ih (k+1,w') ⟨by show k+1<=ops.length;omega,s1,s6 aa0,I⟩ (by show ops.length-(k+1)<ops.length-k;omega);clear ih;rcases wD w with D|⟨z,D⟩
 ·rw[Mu D]
  repeat' (first|exact wc|refine wz ?_|refine Yq Z Z N D Z Z Z Z Z (λ_=>by repeat' (first|exact Z|refine GZ Z ?_|refine G0 Z ?_)) Z Z (λh=>?_) (λf h=>?_))
  ·refine AK.fV [(2,2),(3,3),(4,4),(5,5),(49,49)] [] (env':=[(2,.ptr 2 0),(3,.ptr 3 0),(4,.ptr 4 0),(5,.ptr 5 0),(8,.ptr 49 0),(52,.c (ag ((ir ops).length:Nat))),(53,.c (ag ((k+1):Nat)))]) (bs':=[(2,cU Ll),(3,[.c (ag i),.c (ag Y),.c (ag V),.c (ag E),.c (.sl 23 (ir ops))]),(4,List.replicate 181 .any),(5,List.replicate 5 .any),(49,wB w' 0)]) (ts':=[]) (us':=[2,3,4,5,49,900002])
    ⟨⟨_,Z,⟨_,Z,Z⟩⟩,⟨_,Z,⟨_,Z,Z⟩⟩,⟨_,Z,⟨_,Z,Z⟩⟩,⟨_,Z,⟨_,Z,Z⟩⟩,⟨_,Z,⟨_,Z,Z⟩⟩,⟨_,Z,.inl Z⟩,⟨_,Z,.inl (Option.some.inj (gB (i:=k) bn))⟩,trivial⟩ ⟨⟨_,_,Z,Z,qo⟩,ce,⟨_,_,Z,Z,jl Z Z⟩,⟨_,_,Z,Z,jl Z Z⟩,⟨_,_,Z,Z,(mo w').conv _ _ _ _ (λhh=>absurd h hh)⟩,trivial⟩ Z ?_
   rw[<- Mu h];exact K
  ·refine AK.fV [(2,2),(3,3),(4,4),(5,5),(49,49),(900002,200064)] [] (env':=[(2,.ptr 2 0),(3,.ptr 3 0),(4,.ptr 4 0),(5,.ptr 5 0),(8,.ptr 49 0),(52,.c (ag ((ir ops).length:Nat))),(53,.c (ag ((k+1):Nat)))]) (bs':=[(2,cU Ll),(3,[.c (ag i),.c (ag Y),.c (ag V),.c (ag E),.c (.sl 23 (ir ops))]),(4,List.replicate 181 .any),(5,List.replicate 5 .any),(49,wB w' 900002),(900002,f.map AV.c)]) (ts':=[]) (us':=[2,3,4,5,49,900002])
    ⟨⟨_,Z,⟨_,Z,Z⟩⟩,⟨_,Z,⟨_,Z,Z⟩⟩,⟨_,Z,⟨_,Z,Z⟩⟩,⟨_,Z,⟨_,Z,Z⟩⟩,⟨_,Z,⟨_,Z,Z⟩⟩,⟨_,Z,.inl Z⟩,⟨_,Z,.inl (Option.some.inj (gB (i:=k) bn))⟩,trivial⟩ ⟨⟨_,_,Z,Z,qo⟩,ce,⟨_,_,Z,Z,jl Z Z⟩,⟨_,_,Z,Z,jl Z Z⟩,⟨_,_,Z,Z,(mo w').conv _ _ _ _ (λ_=>rfl)⟩,⟨_,_,Z,Z,cN _⟩,trivial⟩ Z ?_
   rw[<- Mv h];exact K
 ·obtain⟨z',G⟩:=W ⟨z,D⟩;rw[Mv D]
  repeat' (first|exact wc|refine wz ?_|refine Yr Z Z N D G Z Z Z Z Z Z Z (λ_=>by repeat' (first|exact Z|refine GZ Z ?_|refine G0 Z ?_)) Z Z Z ?_)
  ·refine AK.fV [(2,2),(3,3),(4,4),(5,5),(49,49),(900002,200064)] [] (env':=[(2,.ptr 2 0),(3,.ptr 3 0),(4,.ptr 4 0),(5,.ptr 5 0),(8,.ptr 49 0),(52,.c (ag ((ir ops).length:Nat))),(53,.c (ag ((k+1):Nat)))]) (bs':=[(2,cU Ll),(3,[.c (ag i),.c (ag Y),.c (ag V),.c (ag E),.c (.sl 23 (ir ops))]),(4,List.replicate 181 .any),(5,List.replicate 5 .any),(49,wB w' 900002),(900002,z'.map AV.c)]) (ts':=[]) (us':=[2,3,4,5,49,900002])
    ⟨⟨_,Z,⟨_,Z,Z⟩⟩,⟨_,Z,⟨_,Z,Z⟩⟩,⟨_,Z,⟨_,Z,Z⟩⟩,⟨_,Z,⟨_,Z,Z⟩⟩,⟨_,Z,⟨_,Z,Z⟩⟩,⟨_,Z,.inl Z⟩,⟨_,Z,.inl (Option.some.inj (gB (i:=k) bn))⟩,trivial⟩ ⟨⟨_,_,Z,Z,qo⟩,ce,⟨_,_,Z,Z,jl Z Z⟩,⟨_,_,Z,Z,jl Z Z⟩,⟨_,_,Z,Z,(mo w').conv _ _ _ _ (λ_=>rfl)⟩,⟨_,_,Z,Z,cN _⟩,trivial⟩ Z ?_
   rw[<- Mv G];exact K
end Go.Proofs
set_option maxHeartbeats 0
namespace Go.Proofs
open Go.cK
def DV:wo AJ:=⟨Z,by decide +kernel,λa ha=>by
 have:a=uD\/∃b,a=JU b:=by
  simp only[AJ,aeB,List.not_mem_nil,ahk]at ha;rcases ha with rfl|rfl|rfl|rfl|rfl|rfl|rfl|rfl|rfl|rfl|rfl|rfl<;>first|exact .inl Z|exact .inr ⟨_,Z⟩
 rcases this with rfl|⟨b,rfl⟩
 ·exact⟨bT,bT,bT⟩
 ·exact⟨by show bw kX+bw kX<=_;decide,by show aU []<=_;decide,by show aM ou<=_;decide⟩⟩
def Mw:yJ:=⟨0,1,3,0,[⟨1,2,7,.mk 2 0 20 [] [],.mk 0 0 0 [] [],.mk 0 0 0 [] [],.mk 0 0 0 [] []⟩]⟩
def afJ:((qD AJ Mw).2.code=0/\(qD AJ Mw).2.done=1)/\(iG (qD AJ Mw).1 2).dr=1000007/\(qD AJ Mw).1.ez=3:=by decide +kernel
def G6(b:yJ):Prop:=∀o∈b.ops,LS o
def RB:G6 Mw:=by
 intro o p;simp only[Mw,afD]at p;subst p;exact⟨bT,bT,bT,bT⟩
def Mx(b:yJ):yJ:={b with cC:=if 3000<b.cC then 3000 else b.cC}
def YQ:Nat->gm->List yJ->gm
 |0,l,_=>l
 |_+1,l,[]=>l
 |n+1,l,b::r=>YQ n (qD l (Mx b)).1 r
def kG:List yJ->L CV
 |[]=>[]
 |b::l=>zj b::kG l
def CO:∀l:List yJ,(kG l).length=l.length
 |[]=>rfl
 |x::l=>by simp only[kG,aac,CO l]
def CP:∀(l:List yJ)(k:Nat)(o:yJ),l[k]?=some o->(kG l)[k]?=some (zj o)
 |[],k,o,h=>by simp at h
 |x::l,0,o,h=>by simp at h;subst h;rfl
 |x::l,k+1,o,h=>by simp only[aeF]at h;exact CP l k o h
def JV{b:yJ}(h:G6 b):G6 (Mx b)/\(Mx b).cC<=3000:=⟨h,by show(if 3000<b.cC then(3000:Int)else b.cC)<=3000;split<;>omega⟩
def E4{l:gm}(E:wo l){b:yJ}(Q:G6 b)(G:b.cC<=3000):wo (qD l b).1:=(Rw E G Q).1
def VM:∀(n:Nat){l:gm}{bs:List yJ},wo l->(∀b∈bs,G6 b)->wo (YQ n l bs)
 |0,l,bs,h,_=>h
 |n+1,l,[],h,_=>h
 |n+1,l,b::r,h,hb=>VM n (E4 h (JV (hb b cS)).1 (JV (hb b cS)).2) λx O=>hb x abB
def YR(n:Nat){l:gm}{bs:List yJ}(h:wo l)(Q:∀b∈bs,G6 b):(YQ n l bs).br.length=12:=(VM n h Q).h12
attribute [local irreducible] AK af bg cn dP cP cU eG iO gm.de gm.lB wB wF gh
def My:ah 19 [] (.bool true):=by
 have B:=Ib;have hq:=CN DV Mw bT RB;have h1:=E4 DV RB bT;obtain⟨⟨h2,V⟩,h4,h5⟩:=afJ;generalize qD AJ Mw=x at *;generalize AJ=L0 at *;obtain⟨Ll,⟨code,done,E,W,I⟩⟩:=x;simp only at h1 h2 V h4 h5 hq;subst h2 V;have h12:=h1.h12;have ha:=ng (l:=Ll) (i:=2) h12 bT bT;generalize iG Ll 2=a at *;obtain⟨J,dr,Y,⟨U,M⟩,⟨T,S⟩,cd,⟨Q,A,O,H,P,K,N⟩⟩:=a;simp only at h4;subst h4;obtain⟨G,C⟩:=sL (i:=2) ha;have D:=C 1 _ Z;clear C;have u:=tJ h12;rw[h5]at u;have q:Nat.blt 2 12=true:=rfl;refine qn func19 call19 λβ hf=>?_
 repeat' (first|exact wq|refine wz ?_)
def wp{p:Prop}(h:p:=by exact uQ hf (gX Z Z Z Z (eK (by assumption) Z Z) Z) (EI _ Z) Z):p:=h
def Po{W:FuncId}(Q:∀(l:gm)(b:yJ),wo l->G6 b->b.cC<=3000->ah W [.agg (eG l),.agg (eG (qD l b).1),zj b,Jw (qD l b).2] (.bool true))(bs:List yJ)(jG:∀b∈bs,G6 b) :
  ah 6 [.sl 5 (kG bs),.rR W []] (.eY [.agg (eG (YQ 40 AJ bs)),.bool true]):=by
 have hn:=Ib;have Rb:=My;have hok:=DV;obtain⟨R,B⟩:∃R,R=YQ 40 AJ bs:=⟨_,rfl⟩
 rw[<- B];generalize AJ=L0 at *;have h12:=hok.h12;refine qn func6 call6 λβ hf=>?_
 repeat' (first|exact wp|refine wz ?_)
 refine AK.fV [(4,4),(6,6)] [] (env':=[(0,.c (.sl 5 (kG bs))),(1,.c (.rR W [])),(4,.ptr 4 0),(6,.ptr 6 0),(7,.c (ag (0:Nat)))]) (bs':=[(4,List.replicate 181 .any),(6,cU L0)]) (ts':=[]) (us':=[4,6])
  ce  ⟨⟨_,_,Z,Z,jl Z Z⟩,⟨_,_,Z,Z,qo⟩,trivial⟩ Z ?_
 refine AK.eL (α:=Nat×gm) (λz=>wo z.2/\z.1<=bs.length/\z.1<=40/\R=YQ (40-z.1) z.2 (bs.drop z.1)) (λz=>bs.length-z.1)
  (λz=>[(0,.c (.sl 5 (kG bs))),(1,.c (.rR W [])),(4,.ptr 4 0),(6,.ptr 6 0),(7,.c (ag (z.1:Nat)))]) (λz=>[(4,List.replicate 181 .any),(6,cU z.2)]) (λ_=>[]) [4,6] (0,L0)
  ⟨hok,aeE _,aeE _,B⟩ ce ⟨Z,Z,trivial⟩ trivial Z (jI Z Z (jI Z (mJ _ _) Z)) Z ?_
 rintro⟨k,l⟩ ⟨E,hk,O,I⟩ ih;simp only at E hk O I ih;have zl:=E.h12;have N:=CO bs;by_cases M:k<bs.length/\k<40;rotate_left
 ·have J:R=l:=by
   rw[I];by_cases h:k<40
   ·rw[afd bn];cases 40-k<;>rfl
   ·rw[show 40-k=0 by omega];rfl
  subst J;clear ih;have U:(bif decide ((k:Int)<(((kG bs).length:Nat):Int))then decide ((k:Int)<40)else false)=false:=by
   rw[N];by_cases h:k<bs.length
   ·rw[aak bn,aap bn];rfl
   ·rw[aap bn];rfl
  by_cases h:k<bs.length
  ·have P:decide ((k:Int)<(((kG bs).length:Nat):Int))=true:=aak bn;rw[P]at U
   repeat' (first|exact wp|refine wz ?_|(intro h;rw[h]))
  ·have P:decide ((k:Int)<(((kG bs).length:Nat):Int))=false:=aap bn;rw[P]at U
   repeat' (first|exact wp|refine wz ?_|(intro h;rw[h]))
 obtain⟨b,p⟩:∃o,bs[k]?=some o:=⟨_,aea M.1⟩
 rw[dZ p,show 40-k=(40-(k+1))+1 by omega]at I;simp only[YQ]at I;have H:=jG b (aaB p);obtain⟨D,C⟩:=JV H;have hq:=CN E (Mx b) C D;have T:=E4 E D C;have Y:=Q l (Mx b) E D C;have A:=CP bs k b p;have P:decide ((k:Int)<(((kG bs).length:Nat):Int))=true:=aak bn;have U:(bif decide ((k:Int)<(((kG bs).length:Nat):Int))then decide ((k:Int)<40)else false)=true:=by rw[P,aak bn];rfl
 rw[P]at U;obtain⟨x,u⟩:∃x,x=Mx b:=⟨_,rfl⟩
 rw[<- u]at hq T Y I;generalize qD l x=y at *;obtain⟨Ll,⟨code,done,gs,az,q⟩⟩:=y;simp only at hq T Y I;have zL:=T.h12;have K:=ih (k+1,Ll) ⟨T,by show k+1<=bs.length;omega,by show k+1<=40;omega,I⟩ (by show bs.length-(k+1)<bs.length-k;omega);clear ih;obtain⟨S,G,rO,V,ops⟩:=b;by_cases c4:3000<V
 ·have e4:decide (V>3000)=true:=aak c4;obtain rfl:x=⟨S,G,rO,3000,ops⟩:=by rw[u];unfold Mx;dsimp only;rw[if_pos c4]
  repeat' (first|exact wp|refine wz ?_|refine af.Mz kn Z Z Z Z (tu Z (tu Z Z)) Y ?_|refine af.store hX kn Z Z Z Z Z Z Z Z (jr ek Z) (hD ek (jR ek)) Z ?_|(intro h;rw[h]))
  exact adC
 ·have e4:decide (V>3000)=false:=aap c4;obtain rfl:x=⟨S,G,rO,V,ops⟩:=by rw[u];unfold Mx;dsimp only;rw[if_neg c4]
  repeat' (first|exact wp|refine wz ?_|refine af.Mz kn Z Z Z Z (tu Z (tu Z Z)) Y ?_|refine af.store hX kn Z Z Z Z Z Z Z Z (jr ek Z) (hD ek (jR ek)) Z ?_|(intro h;rw[h]))
  exact adC
end Go.Proofs
set_option maxHeartbeats 0
namespace Go.Proofs
open Go.cK
attribute [local irreducible] AK af bg cn dP cP cU eG iO gm.de gm.lB wB wF gh
def Pp(l:gm)(b:yJ)(E:wo l)(Q:G6 b)(G:b.cC<=3000):ah 7 [.agg (eG l),.agg (eG (qD l b).1),zj b,Jw (qD l b).2] (.bool true):=by
 obtain⟨h1,_,_,S,K⟩:=Rw E G Q;generalize qD l b=x at *;obtain⟨Ll,⟨code,done,C,B,I⟩⟩:=x;simp only at h1 S K;obtain⟨g1,H,Y⟩:=iL.1 h1.good;have hq:=Ic Ll h1.h12 g1 (ql _ _ H);rw[Y]at hq;have u:=(iL.1 E.good).1;have W:=E.h12;have V:=h1.h12;have U:=tJ W;have T:=tJ V;obtain⟨P,O,D,J,ops⟩:=b;simp only at K;have N:i64.wrap (Ll.ez-l.ez)=Ll.ez-l.ez:=iy bn bn;have M:decide (Ll.ez>=l.ez)=true:=aak S;have q:(bif true then decide (Ll.ez>=l.ez)else false)=true:=M;have n3:(bif true then decide (i64.wrap (Ll.ez-l.ez)<=if 0>D then 0 else D)else false)=true:=by rw[N];exact aak (by split<;>omega)
 refine qn func7 call7 λβ hf=>?_
 repeat' (first|exact wq|refine wz ?_|refine af.dD hX kn Z Z Z Z Z Z U Z ?_|refine af.dD hX kn Z Z Z Z Z Z T Z ?_|(intro h;rw[h]))
 exact uQ hf Z Z (aeb CV.bool n3)
def E5(bs:List yJ)(T:∀b∈bs,G6 b):ah 3 [.sl 5 (kG bs)] (.bool true):=by
 have hq:=Po Pp bs T;have h12:(YQ 40 AJ bs).br.length=12:=YR 40 DV T;generalize YQ 40 AJ bs=Ll at *;refine qn func3 call3 λβ hf=>?_
 repeat' (first|exact wq|refine wz ?_|(intro h;rw[h]))
end Go.Proofs
namespace Go.Proofs
open Go.cK Go.ChangeShapes Go.WideShapes Go.ChangeAt Go.RowKit
def wN{H:Type}:∀(l:L (DataW H)),(l.map YteanleefnjknoaaGreatDoor.Rows.uptoBulk).sum=YteanleefnjknoaaGreatDoor.Rows.uptoBulkAll l
 |[]=>rfl
 |d::l=>by simp only[aed,List.sum_cons,YteanleefnjknoaaGreatDoor.Rows.uptoBulkAll,wN l]
def mz{H:Type}:BR (H:=H) YteanleefnjknoaaGreatDoor.Rows.uptoBulk where
 lit:=λl=>by cases l<;>simp[YteanleefnjknoaaGreatDoor.Rows.uptoBulk]
 str:=λs=>by simp[YteanleefnjknoaaGreatDoor.Rows.uptoBulk]
 nil:=by simp[YteanleefnjknoaaGreatDoor.Rows.uptoBulk]
 slice:=λl r=>by rw[wN];simp only[YteanleefnjknoaaGreatDoor.Rows.uptoBulk];omega
 agg:=λl=>by rw[wN];simp only[YteanleefnjknoaaGreatDoor.Rows.uptoBulk];omega
def RTy:CV->Nat->Prop:=λc m=>∃t:Ty,c=dg t/\ac5 t/\bw t<=m
def RNd:CV->Nat->Prop:=λc m=>∃t:Nd,c=aW t/\ac6 t/\bM t<=m
def RVl:CV->Nat->Prop:=λc m=>∃t:Vl,c=bH t/\ac7 t/\aM t<=m
def MA:∀{rows:L CV}{m:Nat},CQ RNd rows m->∃l:L Nd,rows=aH l/\RC l/\aU l<=m
 |[],m,_=>⟨[],Z,trivial,by simp[aU]⟩
 |r::rows,m,⟨k,m',⟨t,h1,h2,V⟩,h4,h5⟩=>by
  obtain⟨l,I,W,Y⟩:=MA h4;exact⟨t::l,by rw[h1,I];rfl,⟨h2,W⟩,by simp only[aU];omega⟩
abbrev G7:CV->Nat->Prop:=λc k=>∃z,c = .int .i64 z/\(Lit.int .i64 z).wf=true/\1<=k
abbrev afK:CV->Nat->Prop:=λc k=>∃s,c = .str s/\s.length+1<=k
abbrev Rsl(s:Nat)(R:CV->Nat->Prop):CV->Nat->Prop:=λc k=>∃rows,c = .sl s rows/\∃P,CQ R rows P/\P+1<=k
def hJ:Tryz.prog.cellsOf 3=1:=by kernel_rfl
def Ie:Tryz.prog.cellsOf 9=1:=by kernel_rfl
def Tp:Tryz.prog.cellsOf 26=1:=by kernel_rfl
def tK:Tryz.prog.cellsOf 50=5:=by kernel_rfl
section
variable {H : Type}{enc : TypeId × Value -> H}{W : World}
def aa4{m e t s:Nat}{R:CV->Nat->Prop}(U:Tryz.prog.underlying t=some (.slice e))(Y:Tryz.prog.cellsOf e=s)(Q:0<s)(h:∀k,k<m->RD enc Tryz.prog W YteanleefnjknoaaGreatDoor.Rows.uptoBulk k e R) :
  RD (H:=H) enc Tryz.prog W YteanleefnjknoaaGreatDoor.Rows.uptoBulk m t (Rsl s R):=by
 cases m with
 |zero=>exact RD.zero
 |succ k=>exact RD.slice mz U Y Q (h k bn)
def YS:∀(n m:Nat),m<=n->RD (H:=H) enc Tryz.prog W YteanleefnjknoaaGreatDoor.Rows.uptoBulk m 50 RNd
 |0,m,hm=>by(obtain rfl:m=0:=by omega);exact RD.zero
 |n+1,0,_=>RD.zero
 |n+1,m+1,hm=>by
  refine RD.mono (RD.struct mz Tryz.underlying50 Z (Rs:=[G7,G7,G7,afK,Rsl 5 RNd]) (λk O=>?_) ?_) (aaj _) ?_
  ·exact⟨_,_,Z,Z,RD.int mz Tryz.underlying3,_,_,Z,acz,RD.int mz Tryz.underlying3,_,_,Z,acz,RD.int mz Tryz.underlying3,
    _,_,Z,acz,RD.str mz Tryz.underlying9,_,_,Z,by rw[hJ,Ie],aa4 Tryz.underlying26 tK bT (λq hq=>YS n q bn),Z⟩
  ·simp only[List.map,nk,hJ,Ie,Tp,tK]
  ·rintro c k ⟨l,rfl,N,U,T⟩;obtain⟨u,M,K,E,rfl,⟨z,rfl,D,_⟩,⟨c2,k2,l2,m2,rfl,⟨S,rfl,Y,_⟩,⟨c3,k3,l3,m3,rfl,⟨Q,rfl,V,_⟩,⟨c4,k4,l4,m4,rfl,⟨s,rfl,G⟩,⟨c5,k5,l5,m5,rfl,⟨rows,rfl,I,C,B⟩,rfl,h7⟩,h8⟩,h9⟩,h10⟩,h11⟩:=U;obtain⟨J,rfl,P,A⟩:=MA C;exact⟨.mk z S Q s J,Z,⟨bounds_i64 D,bounds_i64 Y,bounds_i64 V,P⟩,by simp only[bM];omega⟩
end
end Go.Proofs
namespace Go.Proofs
open Go.cK Go.ChangeShapes Go.WideShapes Go.ChangeAt Go.RowKit
def aa5(k:Nat)(o:BD):Prop:=bM o.arg<=k/\bM o.t0<=k/\bM o.t1<=k/\bM o.code<=k
def aa6(k:Nat)(b:yJ):Prop:=∀o∈b.ops,aa5 k o
def aa7:CV->Nat->Prop:=λc k=>∃o:BD,c = .agg (Uz o)/\aa5 k o
def aa8:CV->Nat->Prop:=λc k=>∃b:yJ,c=zj b/\aa6 k b
def zozo{k m:Nat}{o:BD}(h:aa5 k o)(hm:k<=m):aa5 m o:=⟨Nat.le_trans h.1 hm,Nat.le_trans h.2.1 hm,Nat.le_trans h.2.2.1 hm,Nat.le_trans h.2.2.2 hm⟩
def MD:∀{rows:L CV}{m:Nat},CQ aa7 rows m->∃l:L BD,rows=ir l/\∀o∈l,aa5 m o
 |[],m,_=>⟨[],Z,λo p=>by simp at p⟩
 |r::rows,m,⟨k,m',⟨t,h1,h2⟩,h4,h5⟩=>by
  obtain⟨l,I,W⟩:=MD h4;refine⟨t::l,by rw[h1,I];rfl,λo p=>?_⟩;rcases List.mem_cons.1 p with rfl|p
  ·exact zozo h2 bn
  ·exact zozo (W o p) bn
def Ig:∀{rows:L CV}{m:Nat},CQ aa8 rows m->∃l:List yJ,rows=kG l/\∀b∈l,aa6 m b
 |[],m,_=>⟨[],Z,λo p=>by simp at p⟩
 |r::rows,m,⟨k,m',⟨t,h1,h2⟩,h4,h5⟩=>by
  obtain⟨l,I,W⟩:=Ig h4;refine⟨t::l,by rw[h1,I];rfl,λo p=>?_⟩;rcases List.mem_cons.1 p with rfl|p
  ·exact λx O=>zozo (h2 x O) bn
  ·exact λx O=>zozo (W o p x O) bn
def ME:Tryz.prog.cellsOf 78=23:=by kernel_rfl
def Tq:Tryz.prog.cellsOf 37=1:=by kernel_rfl
def BS:Tryz.prog.cellsOf 76=10:=by kernel_rfl
def Ih:Tryz.prog.cellsOf 39=5:=by kernel_rfl
section
variable {H : Type}{enc : TypeId × Value -> H}{W : World}
def ac8(m:Nat):RD (H:=H) enc Tryz.prog W YteanleefnjknoaaGreatDoor.Rows.uptoBulk m 78 aa7:=by
 cases m with
 |zero=>exact RD.zero
 |succ m =>
  refine RD.mono (RD.struct mz Tryz.underlying78 Z (Rs:=[G7,G7,G7,RNd,λc m=>∃l,c = .agg l/\∃P,E6 RNd 2 l P/\P+1<=m,RNd]) (λk D=>?_) ?_) (aaj _) ?_
  ·refine⟨_,_,Z,Z,RD.int mz Tryz.underlying3,_,_,Z,acz,RD.int mz Tryz.underlying3,_,_,Z,acz,RD.int mz Tryz.underlying3,
    _,_,Z,acz,YS k k (aaj _),_,_,Z,by rw[hJ,tK],?_,_,_,Z,by rw[hJ,tK,BS],YS k k (aaj _),Z⟩
   cases k with
   |zero=>exact RD.zero
   |succ k=>exact RD.array mz Tryz.underlying76 (by rw[BS,tK]) (YS k k (aaj _))
  ·simp only[List.map,nk,hJ,tK,BS,ME]
  ·rintro c k ⟨l,rfl,P,S,Q⟩;obtain⟨u,J,M,E,rfl,⟨G,rfl,_,g1⟩,⟨c2,k2,l2,m2,rfl,⟨O,rfl,_,K⟩,⟨c3,k3,l3,m3,rfl,⟨N,rfl,_,I⟩,⟨c4,k4,l4,m4,rfl,⟨Y,rfl,_,B⟩,⟨c5,k5,l5,m5,rfl,⟨lx,rfl,m6,⟨ca,ka,la,ma,rfl,⟨V,rfl,_,C⟩,⟨cb,kb,lb,mb,rfl,⟨U,rfl,_,A⟩,hlb,gd⟩,gc⟩,g5⟩,⟨c6,k6,l6,m8,rfl,⟨T,rfl,_,q⟩,rfl,g8⟩,g9⟩,g10⟩,g11⟩,g12⟩,g13⟩:=S;subst hlb;refine⟨⟨G,O,N,Y,V,U,T⟩,?_,by show bM Y<=k;omega,by show bM V<=k;omega,by show bM U<=k;omega,by show bM T<=k;omega⟩;cases Y;cases V;cases U;cases T;rfl
def ac9(m:Nat):RD (H:=H) enc Tryz.prog W YteanleefnjknoaaGreatDoor.Rows.uptoBulk m 39 aa8:=by
 cases m with
 |zero=>exact RD.zero
 |succ m =>
  refine RD.mono (RD.struct mz Tryz.underlying39 Z (Rs:=[G7,G7,G7,G7,Rsl 23 aa7]) (λk D=>?_) ?_) (aaj _) ?_
  ·exact⟨_,_,Z,Z,RD.int mz Tryz.underlying3,_,_,Z,acz,RD.int mz Tryz.underlying3,_,_,Z,acz,RD.int mz Tryz.underlying3,
    _,_,Z,acz,RD.int mz Tryz.underlying3,_,_,Z,acz,aa4 Tryz.underlying37 ME bT (λq hq=>ac8 q),Z⟩
  ·simp only[List.map,nk,hJ,Tq,Ih]
  ·rintro c k ⟨l,rfl,P,Y,V⟩;obtain⟨u,J,O,E,rfl,⟨G,rfl,_,g1⟩,⟨c2,k2,l2,m2,rfl,⟨U,rfl,_,N⟩,⟨c3,k3,l3,m3,rfl,⟨T,rfl,_,M⟩,⟨c4,k4,l4,m4,rfl,⟨S,rfl,_,B⟩,⟨c5,k5,l5,m5,rfl,⟨rows,rfl,K,C,I⟩,rfl,g6⟩,g7⟩,g8⟩,g9⟩,g10⟩:=Y;obtain⟨ops,rfl,Q⟩:=MD C;exact⟨⟨G,U,T,S,ops⟩,Z,λo p=>zozo (Q o p) bn⟩
set_option maxRecDepth 100000 in
def VN{v:Value}{d:DataW H}{ps:L MemPlace}{b0:Nat}{r:Reach}(hok:Value.okWide Tryz.prog W r b0 22 v)(hd:DataW.Trod enc Tryz.prog W 0 (λ_=>true) true 22 v d ps) :
  ∃a:List yJ,Rel (qM W) (.sl 5 (kG a)) v/\True/\∀b∈a,aa6 (YteanleefnjknoaaGreatDoor.Rows.uptoBulk d) b:=by
 obtain⟨c,h1,h⟩:=AL (R:=Rsl 5 aa8) Tryz.underlying22 (λn=>aa4 Tryz.underlying22 Ih bT (λk _=>ac9 k)) hd hok (λc k h=>by obtain⟨rows,h,_⟩:=h;exact⟨_,_,h⟩);obtain⟨rows,rfl,m',hr,hle⟩:=h;obtain⟨l,rfl,h2⟩:=Ig hr;exact⟨l,h1,trivial,λb hb o ho=>zozo (h2 b hb o ho) bn⟩
end
end Go.Proofs
namespace Go.cK
open Go.ChangeShapes Go.WideShapes Go.RowKit
def E7{P:Program}{w:World}{r:Reach}{base:Nat}{t:TypeId}{v:Value}(h:Cell.ok P w r base t v):(∀vs,v ≠ .agg vs)/\∀vs,v ≠ .tuple vs:=by
 constructor
 ·rintro vs rfl;unfold Cell.ok at h;split at h<;>simp_all
 ·rintro vs rfl;unfold Cell.ok at h;split at h<;>simp_all
def VO{P:Program}{w:World}(T:w.ShapedOpen P){g:Nat}{zero:Array Value}{t:TypeId}(G:Nat.blt g P.globals.size=true)
  (Q:((begin P (λ_ _=>0) default).world.heap[g]?).bind Obj.row?=some (zero,t))(Y:P.buildable t=true)(D:zero.size=2) :
  Rel (qM w) (.ip [.any,.any]) (.pointer (some ⟨g,0,none⟩)):=by
 obtain⟨cs,h1,h2,V⟩:=T.1 g zero t (Nat.blt_eq.mp G) Q;obtain⟨ts,_,_,S⟩:=V Y;rw[D]at h2;have O:cs[0]?=some cs[0]:=by simp[h2]
 have u:cs[1]?=some cs[1]:=by simp[h2]
 obtain⟨_,_,J⟩:=S 0 _ O;obtain⟨_,_,U⟩:=S 1 _ u;simp only[Rel];refine⟨g,0,Z,?_⟩;simp only[dy];refine⟨⟨cs[0],?_,?_,Z⟩,⟨cs[1],?_,?_,Z⟩,trivial⟩
 ·simp[qM,World.cell?,h1]
 ·simp only[Rel];exact E7 J
 ·simp[qM,World.cell?,h1]
 ·simp only[Rel];exact E7 U
section
variable {H : Type}{enc : TypeId × Value -> H}{P : Program}{W : World}
def G8{a:Assume}{C:Checked}{D:Os}{f:FuncId}{N:Func}{s:OpenSpec}{k:(H:Type)->L (DataW H)->Bool}(hk:s.cond=some k){F:Stop.Interp}{U:L PathCond}{Y Q T again:Bool}
  (own:ownKnob C.prog.godebug=none)(P:D.Started)(M:C.prog.inits.idxOf? f=none)(B:C.prog.funcs[f]?=some N)
  (O:∃(w:World) (V:Tape) (i:Input),w.os=D/\(w.forCall V i).Shaped C.prog/\i.vars=[]/\Input.okWide C.prog (w.forCall V i) .any w.heap.size f i /\
   s.pre6 enc C.prog N U Y (w.forCall V i).memory i.args/\a.holds C.prog (lone (Frame.enter C.prog f i.args .normal) [] (w.forCall V i)))
  (S:∀(W:World)(hS:W.ShapedOpen C.prog)(base:Nat)(J:Array Value)(K I:L (DataW H))(before:L MemPlace),
   (∀(j:Nat) t v,N.params[j]?=some t->J[j]?=some v->Value.okWide C.prog W .any base t v) ->
   DataW.Whole enc C.prog N.params.toList s.vars Y W J.toList K I before ->
   U.all (PathCond.test C.prog ⟨N.params.toList,K,s.bare.plain.varTypes C.prog,I⟩)=true->k H (K++I)=true ->
   a.holds C.prog (lone (Frame.enter C.prog f J .normal) [] W) ->
   Calls C.prog f J W λe W'=>∃v,e = .returned v/\(s.at F).post enc C.prog N Y Q T again W J v W') :
  ReturnsInHanded a C D f .any (s.pre6 enc C.prog N U Y) ((s.at F).post enc C.prog N Y Q T again):=by
 refine returnsInHanded_of_calls own P M O ?_;intro w V i _ hS _ hok G A;obtain⟨_,_,_,u,q,_,_,_,_,E⟩:=hok;obtain rfl:u=N:=Option.some.inj (q.symm.trans B);obtain⟨K,I,before,hw,hc,p⟩:=(OpenSpec.pre_some hk U Y _ _).1 G.1;refine(S (w.forCall V i) hS w.heap.size i.args K I before E (DataW.Whole.of_heap (w':=w.forCall V i) RA hw) hc p A).mono λe W' ⟨v,he,hp⟩=>?_;subst he;exact ChangeSpec.post_blind hp
def Tr{X:Ctx}{f:FuncId}{S:Func}{s:ChangeSpec}{Y U V again:Bool}{args:Array Value}{Q N:L (DataW H)}{before:L MemPlace}{cs:L CV}
  (hq:bg P X f cs (.bool true))(q:bR (qM W) cs args.toList)(J:pP X (qM W))
  (I:DataW.Whole enc P S.params.toList s.vars Y W args.toList Q N before)(T:s.vars=[])
  (G:laidOutB P=true)(C:mapsRowed P=true)(D:∀t e,t<P.types.size->P.underlying t=some (.slice e)->0<P.cellsOf e)(B:(S.params.toList.all λt=>Nat.blt t P.types.size)=true)
  {M:TypeId}(A:S.resultTypes = #[M])(p:P.underlying M=some .bool)(O:s.fn H (Q++N)={results:=[.lit (.bool true)],args:=Q}) :
  Calls P f args W λe K=>∃v,e = .returned v/\s.post enc P S Y U V again W args v K:=by
 have h:=hq.2 (qM W) W args.toList (aba W) J q;rw[show args.toList.toArray=args from by simp]at h;refine h.mono ?_;rintro e K ⟨u,G',rfl,E,hg⟩;simp only[Rel]at E;subst E;exact⟨_,Z,Pq I T G C D (λt ht=>by have:=List.all_eq_true.1 B t ht;simpa[afj]using this) hg A p Z O⟩
end
end Go.cK
namespace Go.Proofs
open Go.cK
def Tryz.abb{W:World}(T:W.ShapedOpen Tryz.prog):pP Tryz.X (qM W):=λn v M=>by
 have h1:an n [(0,.ip [.any,.any])]=some v:=M;simp only[an]at h1;cases B:Nat.beq 0 n with
 |false=>rw[B]at h1;cases h1
 |true =>
  rw[B]at h1;obtain rfl:=aha B;cases h1;exact VO T (zero := #[.slice none 0 0,.bool false]) (t:=52) (by kernel_rfl) (by kernel_rfl) (by kernel_rfl) Z
end Go.Proofs
