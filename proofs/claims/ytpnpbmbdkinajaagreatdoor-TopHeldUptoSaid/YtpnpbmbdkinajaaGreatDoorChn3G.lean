/- A part of the proof. -/
import Derived.Test.YtpnpbmbdkinajaaGreatDoorRunAIG
set_option linter.all false
set_option maxHeartbeats 0
set_option maxRecDepth 100000
open Go.IntKind Go.Proofs.Tryz
namespace Go.Proofs
open Go.cE
def Pr(a:Acc):Prop:=bh a.param+bh a.store<=2097152/\aP a.code<=1048576/\aG a.keep<=12400000
structure pQ(l:eF):Prop where
 h12:l.aI.length=12
 good:tg l=true
 size:∀a∈l.aI,Pr a
structure rY(w:Wk):Prop where
 qw:pQ w.l
 bC:0<=w.bC/\0<=w.used/\w.bC+w.used<=3000
 aj:0<=w.aj/\w.aj<=bL
 done:0<=w.done/\w.done<=24
 Fs:(w.made.length:Int)<=w.done+1
def pQ.cK{l}(h:pQ l):∀a∈l.aI,0<=a.cK/\a.cK<=4000000:=vZ _ _ (j7.1 h.good).2.1
def Hy:∀l i z,(∀a∈l,Pr a)->∀a∈kW l i z,Pr a
 |[],_,_,_=>λa Y=>by simp[kW]at Y
 |x::l,0,z,h=>λa Y=>by
  rcases List.mem_cons.1 Y with rfl|Y
  exact h x cS;exact h a (by simp[Y])
 |x::l,i+1,z,h=>λa Y=>by
  rcases List.mem_cons.1 Y with rfl|Y
  exact h a cS;exact Hy l i z (λb U=>h b (by simp[U])) a Y
def xD{l F T n}(h:pQ l)(e:jm l F T n=0):pQ (rI l F T n)/\∃j:Nat,T=j/\j<12/\(aR (rI l F T n) T).is≠0:=by
 obtain⟨i,j,D,aT,rfl,rfl,G,S,W,V,C,M,I⟩:=AD h.h12 e;obtain⟨K,Y,Q,_,U,B,A,P,_⟩:=WZ h.good G S W V C I;have O:rI l i j n=(l.cF i (D.cK-n)).cF j (Y.cK+n):=by unfold rI;rw[ja G,acn,acn,ja Q]
 have N:((l.cF i (D.cK-n)).cF j (Y.cK+n)).aI[j]?=some (Y.cF (Y.cK+n)):=by show(kW (l.cF i (D.cK-n)).aI j (Y.cK+n))[j]?=_;rw[zo,if_pos Z,Q];rfl
 rw[O];refine⟨⟨tj (tj h.h12),P,Hy _ _ _ (Hy _ _ _ h.size)⟩,j,Z,?_,?_⟩;have:=(List.getElem?_eq_some_iff.1 S).1;have:=h.h12;omega;rw[ja N];exact U
def oO{l:eF}{i a}(h:l.aI.length=12):(l.iZ i a).aI.length=12:=by show(l.aI.set i a).length=12;rw[akj];exact h
def jo:∀l,(ej l).length=l.length
 |[]=>rfl
 |x::l=>by simp only[ej,aat,jo l]
def uJ:∀a b,ej (a++b)=ej a++ej b
 |[],_=>rfl
 |x::a,b=>by simp only[ahk,ej,uJ a b]
def KV j{Y:Ξ}{i x}(h:Y[i]?=some x):ej ((Y.take i).map (td j))++[lM (td j x)]=ej ((Y.take (i+1)).map (td j)):=by rw[List.take_add_one,h,Option.toList_some,aib,uJ];rfl
def PJ(Y):∀a b,rP Y a->rP Y b->rP Y (a++b)
 |[],_,_,h=>h
 |x::a,b,V,h2=>by
  simp only[ahk,rP]at V ⊢;cases O:Ft Y x with
  |true=>rw[O]at V;exact PJ Y a b V h2
  |false=>rw[O]at V;cases V
def Mv{w b V}(h:wO w≠none->mem b V):rP V (wB w b):=by
 refine PJ V _ _ (fD V _) ?_;obtain⟨l,Y,done,S,W,O⟩:=w;cases O with
 |nil=>rfl
 |cons x r =>
  have:=h (by simp[wO]);simp only[uG,rP,Ft,this]
def zq{w b V U}(h:wO w≠none->mem b V)(T:both (mem 1000000 V) (okB V U)):okB V ((1000000,wB w b)::U):=by obtain⟨B,Y⟩:=eG T;simp only[okB,B,Mv h,Y]
def gh{Y k a l}(V:mem k Y)(U:rP Y a)(B:okB Y l):okB Y ((k,a)::l):=by simp only[okB,V,U];exact B
def Px{Y k}{z:Ψ}(h:mem k Y):okB Y [(k,z.map AV.c)]:=by simp only[okB,h,CJ]
def Bn(r:List ur×Int):CV := .eK [.sl 9 (ej r.1),ah r.2]
def PK(e):∀g u,aX g (.c (.eK [.sl 0 [],ah e])) u->aX g (.c (Bn ([],e))) u:=by intro g u h;unfold Bn;simp only[aX,ej]at h ⊢;rw[Rel]at h ⊢;obtain⟨Y,A,Q,K⟩:=h;refine⟨Y,A,?_,cS⟩;rw[cy]at Q ⊢;obtain⟨u,U,V,G,C⟩:=Q;exact⟨u,U,V,ME G,C⟩
def O5{f K c w T}{V:Φ}{r env}(Y:wO w=none)(hf:Tryz.prog.funcs[f]?=some K)(W:Enters Tryz.prog f)(k:∀β,Tryz.prog.funcs[f]?=some K->CI f K.ntmps β (HR β (.c r) (bO (wB T) (wO T))) [.code c] env ⟨[(1000000,wB w 0)],[],[1000000]⟩)
  (U:K.body=some c:=by exact Z)(I:(AV.ptr 1000000 0::V).length<=K.ntmps:=by exact ahw Z)(Q:MF 0 (AV.ptr 1000000 0::V)=env:=by simp only[MF];try exact Z):gl f w V r T:=by
 unfold gl;rw[Y];exact ahi
def O6{f K c w T}{V:Φ}{r env q}(Y:wO w=some q)(hf:Tryz.prog.funcs[f]?=some K)(W:Enters Tryz.prog f)(k:∀β,Tryz.prog.funcs[f]?=some K->CI f K.ntmps β (HR β (.c r) (bO (wB T) (wO T))) [.code c] env ⟨[(1000000,wB w 1000002),(1000002,q.map AV.c)],[],[1000000,1000002]⟩)
  (U:K.body=some c:=by exact Z)(I:(AV.ptr 1000000 0::V).length<=K.ntmps:=by exact ahw Z)(Q:MF 0 (AV.ptr 1000000 0::V)=env:=by simp only[MF];try exact Z):gl f w V r T:=by
 unfold gl;rw[Y];exact ahi
attribute [local irreducible] AK ag aZ bS de cA cq di gL eF.cF eF.iZ wB
def PL(l Y done S W)(O:L Int)(dX N u I P)(M:Δ)(C:Ξ)(H:Γ)(U:Θ)(to n e)(Q:l.aI.length=12)(T:e≠0)
  (K:af 46 [.agg (di l),ah dX,ah to,ah n] (.eK [.agg (di l),ah e])) :
  gl 32 ⟨l,Y,done,S,W,O⟩ [.c (lM ⟨dX,N,.mk u I P M C H U⟩),.c (ah to),.c (ah n)] (.eK [.sl 0 [],ah e]) ⟨l,Y,done,S,W,O⟩:=by
 have A:(e != 0):=by simpa using T
 cases V:wO ⟨l,Y,done,S,W,O⟩with
 |none =>
  refine O5 V func32 call32 λJ hf=>?_
  repeat' (first|exact wr|refine wz ?_)
 |some q =>
  refine O6 V func32 call32 λJ hf=>?_
  repeat' (first|exact wr|refine wz ?_)
def PM(l W done S V)(O:L Int)(dX N u I P)(M:Δ)(C:Ξ)(H:Γ)(T:Θ)(n)(J:l.aI.length=12)(Ll)(Yl:Ll.aI.length=12)(j)(lj:Nat.blt j 12)(Q cK U G)(E:Γ)(sT)(A:Γ)(code:Θ)(D B q)(p:Δ)(F:Ξ)(y:Γ)(x:Θ)(t:Ll.aI[j]?=some ⟨Q,cK,U,.mk G E,.mk sT A,code,.mk D B q p F y x⟩)(KW:(Q==1))(r o i)(f:Δ)(d:Ξ)(b:Γ)(a:Θ)(e)(he:(e != 0))(Gi:af 46 [.agg (di l),ah dX,ah j,ah n] (.eK [.agg (di Ll),ah 0]))
  (W0:af 47 [lM ⟨dX,N,.mk u I P M C H T⟩,ct (.mk 1 [])] (.eK [bz (.mk r o i f d b a),ah e])) :
  gl 32 ⟨l,W,done,S,V,O⟩ [.c (lM ⟨dX,N,.mk u I P M C H T⟩),.c (ah j),.c (ah n)] (.eK [.sl 0 [],ah e]) ⟨l,W,done,S,V,O⟩:=by
 obtain⟨qq,Y⟩:=oM t;have d0:=Y 0 _ Z;have d1:=Y 1 _ Z;have d3:=Y 3 _ Z;have d5:=Y 5 _ Z;have d7:=Y 7 _ Z;have d8:=Y 8 _ Z;clear Y;cases K:wO ⟨l,W,done,S,V,O⟩with
 |none =>
  refine O5 K func32 call32 λβ hf=>?_
  repeat' (first|exact wr|refine wz ?_)
 |some z =>
  refine O6 K func32 call32 λβ hf=>?_
  repeat' (first|exact wr|refine wz ?_)
def PN(l W done S V)(O:L Int)(dX N u I P)(M:Δ)(C:Ξ)(H:Γ)(T:Θ)(n)(J:l.aI.length=12)(Ll)(Yl:Ll.aI.length=12)(j)(lj:Nat.blt j 12)(Q cK U G)(E:Γ)(sT)(A:Γ)(code:Θ)(D B q)(p:Δ)(F:Ξ)(y:Γ)(x:Θ)(t:Ll.aI[j]?=some ⟨Q,cK,U,.mk G E,.mk sT A,code,.mk D B q p F y x⟩)(KW:(Q==1))(r o i)(f:Δ)(d:Ξ)(b:Γ)(a:Θ)(Gi:af 46 [.agg (di l),ah dX,ah j,ah n] (.eK [.agg (di Ll),ah 0]))
  (W0:af 47 [lM ⟨dX,N,.mk u I P M C H T⟩,ct (.mk 1 [])] (.eK [bz (.mk r o i f d b a),ah 0])) :
  gl 32 ⟨l,W,done,S,V,O⟩ [.c (lM ⟨dX,N,.mk u I P M C H T⟩),.c (ah j),.c (ah n)] (.eK [.sl 0 [],ah 0]) ⟨Ll,W,done,S,V,O⟩:=by
 obtain⟨qq,Y⟩:=oM t;have d0:=Y 0 _ Z;have d1:=Y 1 _ Z;have d3:=Y 3 _ Z;have d5:=Y 5 _ Z;have d7:=Y 7 _ Z;have d8:=Y 8 _ Z;clear Y;cases K:wO ⟨l,W,done,S,V,O⟩with
 |none =>
  refine O5 K func32 call32 λβ hf=>?_
  repeat' (first|exact wr|refine wz ?_)
 |some z =>
  refine O6 K func32 call32 λβ hf=>?_
  repeat' (first|exact wr|refine wz ?_)
def SX(l W done S V)(O:L Int)(dX N u I P)(M:Δ)(C:Ξ)(H:Γ)(T:Θ)(n)(E:l.aI.length=12)(Ll)(Yl:Ll.aI.length=12)(j)(lj:Nat.blt j 12)(Q cK U K)(J:Γ)(sT)(A:Γ)(code:Θ)(D B q)(p:Δ)(F:Ξ)(y:Γ)(x:Θ)(t:Ll.aI[j]?=some ⟨Q,cK,U,.mk K J,.mk sT A,code,.mk D B q p F y x⟩)(KW:(Q==1)=false)(r o i)(f:Δ)(d:Ξ)(b:Γ)(a:Θ)(e)(he:(e != 0))(Gi:af 46 [.agg (di l),ah dX,ah j,ah n] (.eK [.agg (di Ll),ah 0]))
  (W0:af 47 [lM ⟨dX,N,.mk u I P M C H T⟩,ct (.mk K J)] (.eK [bz (.mk r o i f d b a),ah e])) :
  gl 32 ⟨l,W,done,S,V,O⟩ [.c (lM ⟨dX,N,.mk u I P M C H T⟩),.c (ah j),.c (ah n)] (.eK [.sl 0 [],ah e]) ⟨l,W,done,S,V,O⟩:=by
 obtain⟨qq,Y⟩:=oM t;have d0:=Y 0 _ Z;have d1:=Y 1 _ Z;have d3:=Y 3 _ Z;have d5:=Y 5 _ Z;have d7:=Y 7 _ Z;have d8:=Y 8 _ Z;clear Y;cases G:wO ⟨l,W,done,S,V,O⟩with
 |none =>
  refine O5 G func32 call32 λβ hf=>?_
  repeat' (first|exact wr|refine wz ?_)
 |some z =>
  refine O6 G func32 call32 λβ hf=>?_
  repeat' (first|exact wr|refine wz ?_)
def SY(l W done S V)(O:L Int)(dX N u I P)(M:Δ)(C:Ξ)(H:Γ)(J:Θ)(n)(h12:l.aI.length=12)(Ll)(Yl:Ll.aI.length=12)(j)(lj:Nat.blt j 12)(G cK U T)(Q:Γ)(sT)(A:Γ)(code:Θ)(E D B)(q:Δ)(p:Ξ)(k6:Γ)(k7:Θ)(ha:Ll.aI[j]?=some ⟨G,cK,U,.mk T Q,.mk sT A,code,.mk E D B q p k6 k7⟩)(KW:(G==1)=false)(r1 r2 r3)(r4:Δ)(r5:Ξ)(r6:Γ)(r7:Θ)(Gi:af 46 [.agg (di l),ah dX,ah j,ah n] (.eK [.agg (di Ll),ah 0]))
  (W0:af 47 [lM ⟨dX,N,.mk u I P M C H J⟩,ct (.mk T Q)] (.eK [bz (.mk r1 r2 r3 r4 r5 r6 r7),ah 0]))
  (c g m)(st)(K)(hrun:af 48 [.agg [ah j,ah dX,ah n,ah cK],aV (.mk 3 0 0 [] code),.sl 2 (az [.mk 11 [.mk T Q,.mk sT A]]),.sl 7 (aa [.mk 11 0 0 [] [.mk r1 r2 r3 r4 r5 r6 r7,.mk E D B q p k6 k7] [] []]),ah W] (nK c st K g m))(hc:(c != 0)) :
  gl 32 ⟨l,W,done,S,V,O⟩ [.c (lM ⟨dX,N,.mk u I P M C H J⟩),.c (ah j),.c (ah n)] (.eK [.sl 0 [],ah c]) ⟨l,i64.wrap (W-g),done,i64.wrap (S+g),V,O⟩:=by
 obtain⟨qq,Y⟩:=oM ha;have d0:=Y 0 _ Z;have d1:=Y 1 _ Z;have d3:=Y 3 _ Z;have d5:=Y 5 _ Z;have d7:=Y 7 _ Z;have d8:=Y 8 _ Z;clear Y;cases hm:wO ⟨l,W,done,S,V,O⟩with
 |none =>
  refine O5 hm func32 call32 λβ hf=>?_
  repeat' (first|exact wr|refine wz ?_)
 |some z =>
  refine O6 hm func32 call32 λβ hf=>?_
  repeat' (first|exact wr|refine wz ?_)
def SZ(l W done S V)(O:L Int)(dX N u I P)(M:Δ)(C:Ξ)(H:Γ)(J:Θ)(n)(h12:l.aI.length=12)(Ll)(Yl:Ll.aI.length=12)(j)(lj:Nat.blt j 12)(G cK U T)(Q:Γ)(sT)(A:Γ)(code:Θ)(E D B)(q:Δ)(p:Ξ)(k6:Γ)(k7:Θ)(ha:Ll.aI[j]?=some ⟨G,cK,U,.mk T Q,.mk sT A,code,.mk E D B q p k6 k7⟩)(KW:(G==1)=false)(r1 r2 r3)(r4:Δ)(r5:Ξ)(r6:Γ)(r7:Θ)(Gi:af 46 [.agg (di l),ah dX,ah j,ah n] (.eK [.agg (di Ll),ah 0]))
  (W0:af 47 [lM ⟨dX,N,.mk u I P M C H J⟩,ct (.mk T Q)] (.eK [bz (.mk r1 r2 r3 r4 r5 r6 r7),ah 0]))
  (c g m)(st)(K)(hrun:af 48 [.agg [ah j,ah dX,ah n,ah cK],aV (.mk 3 0 0 [] code),.sl 2 (az [.mk 11 [.mk T Q,.mk sT A]]),.sl 7 (aa [.mk 11 0 0 [] [.mk r1 r2 r3 r4 r5 r6 r7,.mk E D B q p k6 k7] [] []]),ah W] (nK c st K g m))(hc:(c != 0)=false)(hm:decide (V>i64.wrap (1152921504606846976-m))) :
  gl 32 ⟨l,W,done,S,V,O⟩ [.c (lM ⟨dX,N,.mk u I P M C H J⟩),.c (ah j),.c (ah n)] (.eK [.sl 0 [],ah 11]) ⟨l,i64.wrap (W-g),done,i64.wrap (S+g),V,O⟩:=by
 obtain⟨qq,Y⟩:=oM ha;have d0:=Y 0 _ Z;have d1:=Y 1 _ Z;have d3:=Y 3 _ Z;have d5:=Y 5 _ Z;have d7:=Y 7 _ Z;have d8:=Y 8 _ Z;clear Y;cases O7:wO ⟨l,W,done,S,V,O⟩with
 |none =>
  refine O5 O7 func32 call32 λβ hf=>?_
  repeat' (first|exact wr|refine wz ?_)
 |some z =>
  refine O6 O7 func32 call32 λβ hf=>?_
  repeat' (first|exact wr|refine wz ?_)
def PO(l K done S J)(O:L Int)(dX op y t r)(o:Δ)(f:Ξ)(d:Γ)(v7:Θ)(n)(h12:l.aI.length=12)(Ll)(Yl:Ll.aI.length=12)(j)(lj:Nat.blt j 12)(W cK Y V)(T:Γ)(sT)(C:Γ)(code:Θ)(k1 k2 k3)(k4:Δ)(k5:Ξ)(k6:Γ)(k7:Θ)(ha:Ll.aI[j]?=some ⟨W,cK,Y,.mk V T,.mk sT C,code,.mk k1 k2 k3 k4 k5 k6 k7⟩)(KW:(W==1)=false)(r1 r2 r3)(r4:Δ)(r5:Ξ)(r6:Γ)(r7:Θ)(Gi:af 46 [.agg (di l),ah dX,ah j,ah n] (.eK [.agg (di Ll),ah 0]))
  (W0:af 47 [lM ⟨dX,op,.mk y t r o f d v7⟩,ct (.mk V T)] (.eK [bz (.mk r1 r2 r3 r4 r5 r6 r7),ah 0]))
  (c g m)(st:Ξ)(H)(o1 o2 o3)(o4:Δ)(o6:Γ)(o7:Θ)(p1 p2 p3)(p4:Δ)(F:Ξ)(p6:Γ)(p7:Θ)(q1 Q U)(P:Δ)(D:Ξ)(N:Γ)(M:Θ)(ω:F.length<=1000000)(ψ:af 48 [.agg [ah j,ah dX,ah n,ah cK],aV (.mk 3 0 0 [] code),.sl 2 (az [.mk 11 [.mk V T,.mk sT C]]),.sl 7 (aa [.mk 11 0 0 [] [.mk r1 r2 r3 r4 r5 r6 r7,.mk k1 k2 k3 k4 k5 k6 k7] [] []]),ah K] (nK c (.mk o1 o2 o3 o4 [.mk p1 p2 p3 p4 F p6 p7,.mk q1 Q U P D N M] o6 o7::st) H g m))(q:(c != 0)=false)(hm:decide (J>i64.wrap (1152921504606846976-m))=false) :
  gl 32 ⟨l,K,done,S,J,O⟩ [.c (lM ⟨dX,op,.mk y t r o f d v7⟩),.c (ah j),.c (ah n)] (Bn (F.map (td j),0)) ⟨Ll.iZ j ⟨W,cK,Y,.mk V T,.mk sT C,code,.mk q1 Q U P D N M⟩,i64.wrap (K-g),done,i64.wrap (S+g),i64.wrap (J+m),O⟩:=by
 obtain⟨qq,I⟩:=oM ha;have d0:=I 0 _ Z;have d1:=I 1 _ Z;have d3:=I 3 _ Z;have d5:=I 5 _ Z;have d7:=I 7 _ Z;have d8:=I 8 _ Z;clear I;have w8:=D1 ha (b:=⟨W,cK,Y,.mk V T,.mk sT C,code,.mk q1 Q U P D N M⟩) (k:=8) (cs:=[.c (ah q1),.c (ah Q),.c (ah U),.c (.str P),.c (.sl 7 (aa D)),.c (.sl 2 (az N)),.c (.sl 5 (aD M))]) Z;have χ:=oO (i:=j) (a:=⟨W,cK,Y,.mk V T,.mk sT C,code,.mk q1 Q U P D N M⟩) Yl;cases G:wO ⟨l,K,done,S,J,O⟩with
 |none =>
  refine O5 G func32 call32 λβ hf=>?_
  repeat' (first|exact wr|refine wz ?_)
  refine AK.gK [(1000000,1000000)] [(6000,(0,none))] (env':=[(177,.c (ah ((0:Nat)))),(176,.c (ah (aa F).length)),(175,.c (.sl 7 (aa F))),(2,.c (ah j)),(20,.own (.tok 6000 0) 9 ([]))]) (bs':=[(1000000,wB ⟨Ll.iZ j ⟨W,cK,Y,.mk V T,.mk sT C,code,.mk q1 Q U P D N M⟩,i64.wrap (K-g),done,i64.wrap (S+g),i64.wrap (J+m),O⟩ 0)]) (ts':=[(6000,0)]) (us':=[1000000,6000])
   ce  ⟨⟨_,_,Z,Z,(nI ⟨Ll.iZ j ⟨W,cK,Y,.mk V T,.mk sT C,code,.mk q1 Q U P D N M⟩,i64.wrap (K-g),done,i64.wrap (S+g),i64.wrap (J+m),O⟩).conv _ _ _ _ (λh=>absurd G h)⟩,trivial⟩ Z ?_
  refine AK.dg (α:=Nat) (λi=>i<=F.length) (λi=>F.length-i) (λi=>[(177,.c (ah ((i:Nat)))),(176,.c (ah (aa F).length)),(175,.c (.sl 7 (aa F))),(2,.c (ah j)),(20,.own (.tok 6000 0) 9 (ej ((F.take i).map (td j))))]) (λ_=>[(1000000,wB ⟨Ll.iZ j ⟨W,cK,Y,.mk V T,.mk sT C,code,.mk q1 Q U P D N M⟩,i64.wrap (K-g),done,i64.wrap (S+g),i64.wrap (J+m),O⟩ 0)]) (λ_=>[(6000,0)]) [1000000,6000] 0
   (ahp _) ce ⟨Z,trivial⟩ ⟨Z,trivial⟩ Z (zq (λh=>absurd G h) Z) Z ?_
  intro i p E;rcases fU F i p with ⟨x,u,Yo⟩|A
  ·have q:=nM u;have h2:=bp u;have B:=KV (j:Int) u;obtain⟨x1,x2,x3,x4,x5,x6,x7⟩:=x
   repeat' (first|exact wr|refine wz ?_|refine uI Z (i) Z (eV u) Z ?_|(refine uA Z ?_ ?_<;>(try (show(_:Nat)*_<=_;dsimp only))))
   simp only[jo,ahY,ahZ,aat,aav];omega;refine AK.gK [(1000000,1000000)] [(6000,(0,some 6000))] (env':=[(177,.c (ah (((i+1:Nat):Int)))),(176,.c (ah (aa F).length)),(175,.c (.sl 7 (aa F))),(2,.c (ah j)),(20,.own (.tok 6000 0) 9 (ej ((F.take (i+1)).map (td j))))]) (bs':=[(1000000,wB ⟨Ll.iZ j ⟨W,cK,Y,.mk V T,.mk sT C,code,.mk q1 Q U P D N M⟩,i64.wrap (K-g),done,i64.wrap (S+g),i64.wrap (J+m),O⟩ 0)]) (ts':=[(6000,0)]) (us':=[1000000,6000])
    ⟨⟨_,Z,.inl (lI (i:=i) ai)⟩,⟨_,Z,.inl Z⟩,⟨_,Z,.inl Z⟩,⟨_,Z,.inl Z⟩,⟨_,Z,⟨_,Z,.inr ⟨_,_,Z,Z,ahm (AV.own (.tok 6000 1) 9) B⟩⟩⟩,trivial⟩ ⟨⟨_,_,Z,Z,(nI ⟨Ll.iZ j ⟨W,cK,Y,.mk V T,.mk sT C,code,.mk q1 Q U P D N M⟩,i64.wrap (K-g),done,i64.wrap (S+g),i64.wrap (J+m),O⟩).conv _ _ _ _ (λh=>absurd G h)⟩,trivial⟩ Z ?_
   exact E (i+1) ai ai
  have q:=kP A;rw[show Bn (F.map (td j),0)=Bn ((F.take i).map (td j),0)by rw[A,ald]];clear E
  repeat' (first|exact wr|refine wz ?_)
 |some z =>
  refine O6 G func32 call32 λβ hf=>?_
  repeat' (first|exact wr|refine wz ?_)
  refine AK.gK [(1000000,1000000),(1000002,1000002)] [(6000,(0,none))] (env':=[(177,.c (ah ((0:Nat)))),(176,.c (ah (aa F).length)),(175,.c (.sl 7 (aa F))),(2,.c (ah j)),(20,.own (.tok 6000 0) 9 ([]))]) (bs':=[(1000000,wB ⟨Ll.iZ j ⟨W,cK,Y,.mk V T,.mk sT C,code,.mk q1 Q U P D N M⟩,i64.wrap (K-g),done,i64.wrap (S+g),i64.wrap (J+m),O⟩ 1000002),(1000002,z.map AV.c)]) (ts':=[(6000,0)]) (us':=[1000000,1000002,6000])
   ce  ⟨⟨_,_,Z,Z,(nI ⟨Ll.iZ j ⟨W,cK,Y,.mk V T,.mk sT C,code,.mk q1 Q U P D N M⟩,i64.wrap (K-g),done,i64.wrap (S+g),i64.wrap (J+m),O⟩).conv _ _ _ _ (λ_=>rfl)⟩,⟨_,_,Z,Z,cO _⟩,trivial⟩ Z ?_
  refine AK.dg (α:=Nat) (λi=>i<=F.length) (λi=>F.length-i) (λi=>[(177,.c (ah ((i:Nat)))),(176,.c (ah (aa F).length)),(175,.c (.sl 7 (aa F))),(2,.c (ah j)),(20,.own (.tok 6000 0) 9 (ej ((F.take i).map (td j))))]) (λ_=>[(1000000,wB ⟨Ll.iZ j ⟨W,cK,Y,.mk V T,.mk sT C,code,.mk q1 Q U P D N M⟩,i64.wrap (K-g),done,i64.wrap (S+g),i64.wrap (J+m),O⟩ 1000002),(1000002,z.map AV.c)]) (λ_=>[(6000,0)]) [1000000,1000002,6000] 0
   (ahp _) ce ⟨Z,Z,trivial⟩ ⟨Z,trivial⟩ Z (zq (λ_=>rfl) (Px Z)) Z ?_
  intro i p E;rcases fU F i p with ⟨x,u,Yo⟩|A
  ·have q:=nM u;have h2:=bp u;have B:=KV (j:Int) u;obtain⟨x1,x2,x3,x4,x5,x6,x7⟩:=x
   repeat' (first|exact wr|refine wz ?_|refine uI Z (i) Z (eV u) Z ?_|(refine uA Z ?_ ?_<;>(try (show(_:Nat)*_<=_;dsimp only))))
   simp only[jo,ahY,ahZ,aat,aav];omega;refine AK.gK [(1000000,1000000),(1000002,1000002)] [(6000,(0,some 6000))] (env':=[(177,.c (ah (((i+1:Nat):Int)))),(176,.c (ah (aa F).length)),(175,.c (.sl 7 (aa F))),(2,.c (ah j)),(20,.own (.tok 6000 0) 9 (ej ((F.take (i+1)).map (td j))))]) (bs':=[(1000000,wB ⟨Ll.iZ j ⟨W,cK,Y,.mk V T,.mk sT C,code,.mk q1 Q U P D N M⟩,i64.wrap (K-g),done,i64.wrap (S+g),i64.wrap (J+m),O⟩ 1000002),(1000002,z.map AV.c)]) (ts':=[(6000,0)]) (us':=[1000000,1000002,6000])
    ⟨⟨_,Z,.inl (lI (i:=i) ai)⟩,⟨_,Z,.inl Z⟩,⟨_,Z,.inl Z⟩,⟨_,Z,.inl Z⟩,⟨_,Z,⟨_,Z,.inr ⟨_,_,Z,Z,ahm (AV.own (.tok 6000 1) 9) B⟩⟩⟩,trivial⟩ ⟨⟨_,_,Z,Z,(nI ⟨Ll.iZ j ⟨W,cK,Y,.mk V T,.mk sT C,code,.mk q1 Q U P D N M⟩,i64.wrap (K-g),done,i64.wrap (S+g),i64.wrap (J+m),O⟩).conv _ _ _ _ (λ_=>rfl)⟩,⟨_,_,Z,Z,cO _⟩,trivial⟩ Z ?_
   exact E (i+1) ai ai
  have q:=kP A;rw[show Bn (F.map (td j),0)=Bn ((F.take i).map (td j),0)by rw[A,ald]];clear E
  repeat' (first|exact wr|refine wz ?_)
end Go.Proofs
