/- A part of the proof. -/
import Derived.Test.YtpnpbmbdkinajaaGreatDoorChn5G
set_option linter.all false
set_option maxHeartbeats 0
set_option maxRecDepth 100000
open Go.IntKind Go.Proofs.Tryz
namespace Go.Proofs
open Go.cE
def afs{l}(Q:l.aI.length=12)(z):bQ 180 [.c (ah z)] (cq l)=some (cq ⟨l.aI,z⟩):=by have Y:=oN (gL l) 0 [.c (ah z)] [Υ l.fu] _ rfl;rw[xw Q]at Y;rw[yV,yV];exact Y
def jD{Y V}:∀{l n},l.length=n->l.all AV.one->fT Y V (List.replicate n .any) l
 |[],_,rfl,_=>rfl
 |a::l,_,rfl,h=>by simp only[aiK,aaI]at h;exact⟨_,_,Z,h.1,jD Z h.2⟩
def yW{T:AV->AV->Prop}(h:∀a,T a a):∀l,Vv T l l
 |[]=>trivial
 |a::l=>⟨h a,yW h l⟩
def Pu{T:AV->AV->Prop}(h:∀a,T a a){b c}(U:Vv T b c):∀l,Vv T (l++b) (l++c)
 |[]=>U
 |a::l=>⟨h a,Pu h U l⟩
def qd{Y V l}:fT Y V (cq l) (cq l):=cO _
def yX{K s Y}(a):Ym K s Y a a := .inl rfl
def wF(w:Wk):Φ:=cq w.l++[.c (ah w.bC),.c (ah 0),.c (ah w.done),.c (ah w.used),.c (ah w.aj),.c (.sl 1 (ez w.made))]
def ahy{w}(Q:w.l.aI.length=12){i}(Y:i.isAgg)(V:i.size=181):mK i (wF w)=some (.agg (cq w.l)):=by unfold mK wF;rw[Y,V];simp only[BE _ _ _ _ (Hr Q)]
def aen{w}(Q:w.l.aI.length=12):eB 182 (wF w)=some [.c (ah 0),.c (ah w.done),.c (ah w.used),.c (ah w.aj),.c (.sl 1 (ez w.made))]:=by have Y:=j6 (cq w.l) [AV.c (ah w.bC),.c (ah 0),.c (ah w.done),.c (ah w.used),.c (ah w.aj),.c (.sl 1 (ez w.made))];rw[gp Q]at Y;exact ni _ 1 _ _ _ Y rfl
def akA{w}(h:wO w=none){U T}:fT U T (wF w) (wB w 0):=by
 obtain⟨l,Y,done,S,W,O⟩:=w;cases O with
 |cons x r=>cases h
 |nil =>
  have A:∀(V:Ψ){p q:Φ},fT U T p q->fT U T (V.map AV.c++p) (V.map AV.c++q):=by
   intro V p q h
   induction V with
   |nil=>exact h
   |cons c V N=>exact⟨_,_,Z,.inl Z,N⟩
  exact A _ ce 
def akB{w f}(h:wO w=some f)(k):Vv (Ym k 1 (ez w.made)) (wB w k) (wF w):=by
 obtain⟨l,Y,done,S,W,O⟩:=w;cases O with
 |nil=>cases h
 |cons x r =>
  refine Pu (b:=[_,_,_,_,_,_]) (c:=[_,_,_,_,_,_]) yX ?_ (cq l);exact⟨.inl Z,.inl Z,.inl Z,.inl Z,.inl Z,.inr ⟨_,Z,by simp[ez],Z⟩,trivial⟩
def akC{w f}(h:wO w=some f):f=bD (ez w.made):=by unfold wO at h;split at h;cases h;cases h;rename_i Y;rw[Y]
def WQ{l}:∀r∈ez l,r.cells.length=1:=λr V=>by obtain⟨n,_,rfl⟩:=List.mem_map.1 V;rfl
def KQ:∀k w q,w.made≠[]->(allM k w q).2.made≠[]
 |k,w,[],h=>by rw[allM_nil];exact h
 |0,w,x::q,h=>h
 |k+1,w,x::q,h=>by unfold allM;split;exact h;split;exact Ay h;exact KQ k _ _ (Ay h)
def BF:∀(l)(k:Nat)(o),l[k]?=some o->(fz l)[k]?=some (.agg (WR o))
 |[],k,o,h=>by simp at h
 |x::l,0,o,h=>by simp at h;subst h;rfl
 |x::l,k+1,o,h=>by simp only[aky]at h;exact BF l k o h
def aBs(Ll:eF)(c:Φ)(w:Wk):tab:=match wO w with
 |none=>[(2,cq Ll),(3,c),(4,List.replicate 181 .any),(5,List.replicate 5 .any),(49,wB w 0)]
 |some f=>[(2,cq Ll),(3,c),(4,List.replicate 181 .any),(5,List.replicate 5 .any),(49,wB w 900002),(900002,f.map AV.c)]
def Pv{Ll c w}(h:wO w=none):aBs Ll c w=[(2,cq Ll),(3,c),(4,List.replicate 181 .any),(5,List.replicate 5 .any),(49,wB w 0)]:=by unfold aBs;rw[h]
def Pw{Ll c w f}(h:wO w=some f):aBs Ll c w=[(2,cq Ll),(3,c),(4,List.replicate 181 .any),(5,List.replicate 5 .any),(49,wB w 900002),(900002,f.map AV.c)]:=by unfold aBs;rw[h]
def acw(Ll c w):SO (aBs Ll c w) (aBs Ll c w):=by
 unfold aBs;cases h:wO w with
 |none=>exact⟨Z,Z,Z,Z,Z,trivial⟩
 |some f=>exact⟨Z,Z,Z,Z,Z,Z,trivial⟩
def aft(Ll a b c d)(r:Ψ)(w):okB [2,3,4,5,49,900002] (aBs Ll [.c (ah a),.c (ah b),.c (ah c),.c (ah d),.c (.sl 23 r)] w):=by
 unfold aBs;cases h:wO w with
 |none=>exact gh Z (fD _ _) (gh Z Z (gh Z Z (gh Z Z (gh Z (Mv (λp=>absurd h p)) Z))))
 |some f=>exact gh Z (fD _ _) (gh Z Z (gh Z Z (gh Z Z (gh Z (Mv (λ_=>rfl)) (Px Z)))))
def WS{l i a}(Q:l.aI.length=12)(N:l.aI[i]?=some a)(J):∃(P O:eF) (D B:Φ),(P.aI.length=12/\O.aI.length=12)/\(O.fu=l.fu/\O.aI=l.aI.set i {a with cnt:=i64.wrap (a.cnt+1),cK:=i64.wrap (a.cK-J)}) /\
  eB (0+i*15+2) (cq l)=some (.c (ah a.cnt)::D)/\bQ (0+i*15+2) [.c (ah (i64.wrap (a.cnt+1)))] (cq l)=some (cq P) /\
  eB (0+i*15+1) (cq P)=some (.c (ah a.cK)::B)/\bQ (0+i*15+1) [.c (ah (i64.wrap (a.cK-J)))] (cq P)=some (cq O):=by
 obtain⟨Y,cK,cnt,⟨V,T⟩,⟨sT,C⟩,code,⟨W,E,U,q,M,K,S⟩⟩:=a;have A:i<l.aI.length:=(List.getElem?_eq_some_iff.1 N).1;obtain⟨q1,I⟩:=oM N;have G:(l.iZ i ⟨Y,cK,i64.wrap (cnt+1),⟨V,T⟩,⟨sT,C⟩,code,⟨W,E,U,q,M,K,S⟩⟩).aI[i]?=some ⟨Y,cK,i64.wrap (cnt+1),⟨V,T⟩,⟨sT,C⟩,code,⟨W,E,U,q,M,K,S⟩⟩:=by show(l.aI.set i _)[i]?=_;rw[akI A]
 obtain⟨u,H⟩:=oM G;refine⟨l.iZ i ⟨Y,cK,i64.wrap (cnt+1),⟨V,T⟩,⟨sT,C⟩,code,⟨W,E,U,q,M,K,S⟩⟩,(l.iZ i ⟨Y,cK,i64.wrap (cnt+1),⟨V,T⟩,⟨sT,C⟩,code,⟨W,E,U,q,M,K,S⟩⟩).iZ i ⟨Y,i64.wrap (cK-J),i64.wrap (cnt+1),⟨V,T⟩,⟨sT,C⟩,code,⟨W,E,U,q,M,K,S⟩⟩,_,_,⟨oO Q,oO (oO Q)⟩,⟨Z,?_⟩,I 2 _ Z,D1 N Z,H 1 _ Z,D1 G Z⟩;show(l.aI.set i _).set i _=_;rw[List.set_set]
attribute [local irreducible] AK ag aZ bS de cA cq di gL eF.cF eF.iZ wB wF gl
def wc{p:Prop}(h:p:=by exact uQ hf (J7 Z Z Z Z (fq (by assumption) Z Z) Z Z Z Z Z) (Hq _ Z) Z):p:=h
def qN{l}(E:pQ l)(b)(hg:b.bC<=3000)(hb:∀o∈b.ops,vw o):af 8 [.agg (di l),qc b] (.eK [.agg (di (iV l b).1),yY (iV l b).2]):=by
 have hq:=WO E b;have Q:=E.h12;unfold iV;by_cases e:xu l b≠0
 ·rw[if_pos e];generalize xu l b=m at *;obtain⟨src,O,W,V,ops⟩:=b;have e1:(m != 0):=by simpa using e
  refine qn func8 call8 λβ hf=>?_
  repeat' (first|exact wc|refine wz ?_)
 rw[if_neg e];simp only[ne_eq,ahI]at e;obtain⟨_,⟨s0,s4⟩,⟨n1,n2⟩,⟨f0,g0⟩,⟨o1,o8⟩,hfb⟩:=xx e;have H:=uE E e hg;rw[e]at hq;obtain⟨Ll,q⟩:∃Ll,Ll=yZ l b:=⟨_,rfl⟩;have U:mF l b=⟨Ll,b.bC,0,0,0,[]⟩:=by rw[q];rfl
 rw[U]at H ⊢;rw[<- q];obtain⟨R,hR⟩:∃R,R=jd b.src ⟨Ll,b.bC,0,0,0,[]⟩ b.ops:=⟨_,rfl⟩;rw[<- hR];obtain⟨r,C⟩:∃r:CV,r = .eK [.agg (di (if R.1≠0 then(Ll,Rcp.mk R.1 0 R.2.used 0 [])else(R.2.l,Rcp.mk 0 R.2.done R.2.used R.2.aj R.2.made)).1),yY (if R.1≠0 then(Ll,Rcp.mk R.1 0 R.2.used 0 [])else(R.2.l,Rcp.mk 0 R.2.done R.2.used R.2.aj R.2.made)).2]:=⟨_,rfl⟩;rw[<- C];unfold yZ at q;obtain⟨src,O,W,V,ops⟩:=b;dsimp only at *;obtain⟨i,rfl⟩:=aiV s0;have hi:i<12:=by omega
 have lj:Nat.blt i 12:=by rw[ajd];exact hi
 have M:=gm (l:=l) (i:=i) Q ai ai;rw[acn]at M q;have DW:=E.cK _ (acm M);have hc:0<=(aR l i).cnt:=by have h:=E.get M;unfold vv Ho at h;simp at h;omega
 have hfe:=(j7.1 E.good).1;have anu:=(j7.1 E.good).2.2;generalize aR l i=a at *;obtain⟨l1,B,r1,r2,⟨z1,z2⟩,⟨ef,ea⟩,d1,p1,d2,p2⟩:=WS Q M W;have p3:=afs z2 (i64.wrap (B.fu+W));have T:Ll=⟨B.aI,i64.wrap (B.fu+W)⟩:=by rw[q,ef,ea,gW (n:=a.cK-W) ai ai,gW (n:=a.cnt+1) ai (by unfold bL at n1;omega),gW (n:=l.fu+W) ai ai]
 rw[<- T]at p3;have d3:=y8 z2;have zL:Ll.aI.length=12:=H.qw.h12;clear T q U ea ef;refine qn func8 call8 λβ hf=>?_
 repeat' (first|exact wc|refine wz ?_|refine ag.look hX kn Z Z (acv Z Z Z Z Z Z Z Z Z Z ew Z Z Z) Z ?_|refine ag.box kn Z Z Z Z Z Z ?_)
 refine AK.gK [(2,2),(3,3),(4,4),(5,5),(49,49)] [] (env':=[(2,.ptr 2 0),(3,.ptr 3 0),(4,.ptr 4 0),(5,.ptr 5 0),(8,.ptr 49 0),(52,.c (ah ((fz ops).length:Nat))),(53,.c (ah (0:Nat)))]) (bs':=[(2,cq Ll),(3,[.c (ah i),.c (ah O),.c (ah W),.c (ah V),.c (.sl 23 (fz ops))]),(4,List.replicate 181 .any),(5,List.replicate 5 .any),(49,wB ⟨Ll,V,0,0,0,[]⟩ 0)]) (ts':=[]) (us':=[2,3,4,5,49,900002])
  ce  ⟨⟨_,_,Z,Z,qd⟩,ce,⟨_,_,Z,Z,jD Z Z⟩,⟨_,_,Z,Z,jD Z Z⟩,⟨_,_,Z,Z,(nI ⟨Ll,V,0,0,0,[]⟩).conv _ _ _ _ (λh=>absurd Z h)⟩,trivial⟩ Z ?_
 rw[<- Pv (w:=⟨Ll,V,0,0,0,[]⟩) rfl];refine AK.dg (α:=Nat×Wk) (λz=>z.1<=ops.length/\rY z.2/\(z.2.made.length:Int)<=z.2.done/\R=jd i z.2 (ops.drop z.1)) (λz=>ops.length-z.1)
  (λz=>[(2,.ptr 2 0),(3,.ptr 3 0),(4,.ptr 4 0),(5,.ptr 5 0),(8,.ptr 49 0),(52,.c (ah ((fz ops).length:Nat))),(53,.c (ah (z.1:Nat)))]) (λz=>aBs Ll [.c (ah i),.c (ah O),.c (ah W),.c (ah V),.c (.sl 23 (fz ops))] z.2) (λ_=>[]) [2,3,4,5,49,900002] (0,⟨Ll,V,0,0,0,[]⟩)
  ⟨ahp _,H,ahS _,hR⟩ ce (acw _ _ _) trivial Z (aft _ _ _ _ _ _ _) Z ?_
 rintro⟨k,w⟩ ⟨hk,K,A,G⟩ ih;simp only at hk K A G ih;have J:=K.qw.h12;have YO:=xq ops;by_cases p:k<ops.length;rotate_left
 ·rw[aiJ ai]at G;simp only[jd]at G;subst G;rw[if_neg cS]at C;subst C;clear ih;have e1:decide ((k:Int)<(((fz ops).length:Nat):Int))=false:=acf ai;rcases y9 w with P|⟨z,P⟩
  ·rw[Pv P];refine AK.gK [(2,2),(3,3),(4,4),(5,5),(49,49)] [] (env':=[(2,.ptr 2 0),(3,.ptr 3 0),(4,.ptr 4 0),(5,.ptr 5 0),(8,.ptr 49 0),(52,.c (ah ((fz ops).length:Nat))),(53,.c (ah (k:Nat)))]) (bs':=[(2,cq Ll),(3,[.c (ah i),.c (ah O),.c (ah W),.c (ah V),.c (.sl 23 (fz ops))]),(4,List.replicate 181 .any),(5,List.replicate 5 .any),(49,wF w)]) (ts':=[]) (us':=[2,3,4,5,49,900002])
    ce  ⟨⟨_,_,Z,Z,qd⟩,ce,⟨_,_,Z,Z,jD Z Z⟩,⟨_,_,Z,Z,jD Z Z⟩,⟨_,_,Z,Z,akA P⟩,trivial⟩ Z ?_
   repeat' (first|exact wc|refine wz ?_|refine ag.dy hX kn Z Z Z Z Z Z Z (ahy J Z Z) ?_|refine ag.dy hX kn Z Z Z Z Z Z (aen J) UK ?_)
  rw[Pw P];refine AK.CF 900002 1 (ez w.made) (tail:=[]) (env':=[(2,.ptr 2 0),(3,.ptr 3 0),(4,.ptr 4 0),(5,.ptr 5 0),(8,.ptr 49 0),(52,.c (ah ((fz ops).length:Nat))),(53,.c (ah (k:Nat)))]) (bs':=[(2,cq Ll),(3,[.c (ah i),.c (ah O),.c (ah W),.c (ah V),.c (.sl 23 (fz ops))]),(4,List.replicate 181 .any),(5,List.replicate 5 .any),(49,wF w)]) (ts':=[]) Z
   (by rw[akC P,ahq]) WQ ce ⟨⟨_,Z,yW yX _⟩,⟨_,Z,yW yX _⟩,⟨_,Z,yW yX _⟩,⟨_,Z,yW yX _⟩,⟨_,Z,akB P _⟩,trivial⟩ Z trivial ?_
  repeat' (first|exact wc|refine wz ?_|refine ag.dy hX kn Z Z Z Z Z Z Z (ahy J Z Z) ?_|refine ag.dy hX kn Z Z Z Z Z Z (aen J) UK ?_)
 obtain⟨o,ho⟩:∃o,ops[k]?=some o:=⟨_,ahl p⟩;rw[cT ho]at G;simp only[jd]at G;have hx:sn ⟨i,some o,jl⟩:=hb o (acm ho);have N:=SP K A hx;have rZ:=xy 25 w [⟨i,some o,jl⟩] K A (λx Hp=>by rw[ait]at Hp;subst Hp;exact hx);have Y:=Az (w:=w) (w':=(allM 25 w [⟨i,some o,jl⟩]).2) (λh=>KQ _ _ _ h);generalize allM 25 w [⟨i,some o,jl⟩]=S at *;obtain⟨e,w'⟩:=S;obtain⟨s1,s2,s3,s4,s5,s6⟩:=rZ;simp only at s1 s2 s3 s4 s5 s6 N G Y;have hrow:=BF ops k o ho;have e1:decide ((k:Int)<(((fz ops).length:Nat):Int)):=ace ai;have zw':=s1.qw.h12;obtain⟨kind,to,vQ,⟨a1,a2,a3,a4,a5⟩,⟨b1,b2,b3,b4,b5⟩,⟨c1,u,c3,c4,c5⟩,⟨d1,d2,d3,d4,d5⟩⟩:=o;by_cases u:e≠0
 ·rw[if_pos u]at G;subst G;rw[if_pos u]at C;subst C;clear ih;have e3:(e != 0):=by simpa using u
  rcases y9 w with P|⟨z,P⟩
  ·rw[Pv P]
   repeat' (first|exact wc|refine wz ?_|refine uWn Z Z N P Z Z Z Z Z (λ_=>by repeat' (first|exact Z|refine J8 Z ?_|refine J9 Z ?_)) Z Z (λh=>?_) (λf h=>?_))
  obtain⟨z',I⟩:=Y ⟨z,P⟩;rw[Pw P]
  repeat' (first|exact wc|refine wz ?_|refine uWs Z Z N P I Z Z Z Z Z Z Z (λ_=>by repeat' (first|exact Z|refine J8 Z ?_|refine J9 Z ?_)) Z Z Z ?_)
 rw[if_neg u]at G;have e3:(e != 0)=false:=by simpa using u
 have D:=ih (k+1,w') ⟨by show k+1<=ops.length;omega,s1,s6 afl,G⟩ (by show ops.length-(k+1)<ops.length-k;omega);clear ih;rcases y9 w with P|⟨z,P⟩
 ·rw[Pv P]
  repeat' (first|exact wc|refine wz ?_|refine uWn Z Z N P Z Z Z Z Z (λ_=>by repeat' (first|exact Z|refine J8 Z ?_|refine J9 Z ?_)) Z Z (λh=>?_) (λf h=>?_))
  ·refine AK.gK [(2,2),(3,3),(4,4),(5,5),(49,49)] [] (env':=[(2,.ptr 2 0),(3,.ptr 3 0),(4,.ptr 4 0),(5,.ptr 5 0),(8,.ptr 49 0),(52,.c (ah ((fz ops).length:Nat))),(53,.c (ah ((k+1):Nat)))]) (bs':=[(2,cq Ll),(3,[.c (ah i),.c (ah O),.c (ah W),.c (ah V),.c (.sl 23 (fz ops))]),(4,List.replicate 181 .any),(5,List.replicate 5 .any),(49,wB w' 0)]) (ts':=[]) (us':=[2,3,4,5,49,900002])
    ⟨⟨_,Z,⟨_,Z,Z⟩⟩,⟨_,Z,⟨_,Z,Z⟩⟩,⟨_,Z,⟨_,Z,Z⟩⟩,⟨_,Z,⟨_,Z,Z⟩⟩,⟨_,Z,⟨_,Z,Z⟩⟩,⟨_,Z,.inl Z⟩,⟨_,Z,.inl (Option.some.inj (dz (i:=k) ai))⟩,trivial⟩ ⟨⟨_,_,Z,Z,qd⟩,ce,⟨_,_,Z,Z,jD Z Z⟩,⟨_,_,Z,Z,jD Z Z⟩,⟨_,_,Z,Z,(nI w').conv _ _ _ _ (λhh=>absurd h hh)⟩,trivial⟩ Z ?_
   rw[<- Pv h];exact D
  refine AK.gK [(2,2),(3,3),(4,4),(5,5),(49,49),(900002,200064)] [] (env':=[(2,.ptr 2 0),(3,.ptr 3 0),(4,.ptr 4 0),(5,.ptr 5 0),(8,.ptr 49 0),(52,.c (ah ((fz ops).length:Nat))),(53,.c (ah ((k+1):Nat)))]) (bs':=[(2,cq Ll),(3,[.c (ah i),.c (ah O),.c (ah W),.c (ah V),.c (.sl 23 (fz ops))]),(4,List.replicate 181 .any),(5,List.replicate 5 .any),(49,wB w' 900002),(900002,f.map AV.c)]) (ts':=[]) (us':=[2,3,4,5,49,900002])
   ⟨⟨_,Z,⟨_,Z,Z⟩⟩,⟨_,Z,⟨_,Z,Z⟩⟩,⟨_,Z,⟨_,Z,Z⟩⟩,⟨_,Z,⟨_,Z,Z⟩⟩,⟨_,Z,⟨_,Z,Z⟩⟩,⟨_,Z,.inl Z⟩,⟨_,Z,.inl (Option.some.inj (dz (i:=k) ai))⟩,trivial⟩ ⟨⟨_,_,Z,Z,qd⟩,ce,⟨_,_,Z,Z,jD Z Z⟩,⟨_,_,Z,Z,jD Z Z⟩,⟨_,_,Z,Z,(nI w').conv _ _ _ _ (λ_=>rfl)⟩,⟨_,_,Z,Z,cO _⟩,trivial⟩ Z ?_
  rw[<- Pw h];exact D
 obtain⟨z',I⟩:=Y ⟨z,P⟩;rw[Pw P]
 repeat' (first|exact wc|refine wz ?_|refine uWs Z Z N P I Z Z Z Z Z Z Z (λ_=>by repeat' (first|exact Z|refine J8 Z ?_|refine J9 Z ?_)) Z Z Z ?_)
 refine AK.gK [(2,2),(3,3),(4,4),(5,5),(49,49),(900002,200064)] [] (env':=[(2,.ptr 2 0),(3,.ptr 3 0),(4,.ptr 4 0),(5,.ptr 5 0),(8,.ptr 49 0),(52,.c (ah ((fz ops).length:Nat))),(53,.c (ah ((k+1):Nat)))]) (bs':=[(2,cq Ll),(3,[.c (ah i),.c (ah O),.c (ah W),.c (ah V),.c (.sl 23 (fz ops))]),(4,List.replicate 181 .any),(5,List.replicate 5 .any),(49,wB w' 900002),(900002,z'.map AV.c)]) (ts':=[]) (us':=[2,3,4,5,49,900002])
  ⟨⟨_,Z,⟨_,Z,Z⟩⟩,⟨_,Z,⟨_,Z,Z⟩⟩,⟨_,Z,⟨_,Z,Z⟩⟩,⟨_,Z,⟨_,Z,Z⟩⟩,⟨_,Z,⟨_,Z,Z⟩⟩,⟨_,Z,.inl Z⟩,⟨_,Z,.inl (Option.some.inj (dz (i:=k) ai))⟩,trivial⟩ ⟨⟨_,_,Z,Z,qd⟩,ce,⟨_,_,Z,Z,jD Z Z⟩,⟨_,_,Z,Z,jD Z Z⟩,⟨_,_,Z,Z,(nI w').conv _ _ _ _ (λ_=>rfl)⟩,⟨_,_,Z,Z,cO _⟩,trivial⟩ Z ?_
 rw[<- Pw I];exact D
end Go.Proofs
