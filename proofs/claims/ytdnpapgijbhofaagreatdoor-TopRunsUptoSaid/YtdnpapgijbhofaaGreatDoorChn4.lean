/- Package chain: -/
import Derived.Test.YtdnpapgijbhofaaGreatDoorChn2
open Go.IntKind
open Go.Proofs.Tryz
set_option linter.defProp false
set_option linter.unusedVariables false
set_option linter.unusedSimpArgs false
set_option maxHeartbeats 0
set_option maxRecDepth 100000
namespace Go.Proofs
open Go.cw
def KI(a:Acc):Prop:=bf a.param+bf a.store<=2097152/\aO a.code<=1048576/\aH a.keep<=12400000
structure oY(l:dX):Prop where
 h12:l.aS.length=12
 good:rP l=true
 size:∀a∈l.aS,KI a
structure Ac(w:Wk):Prop where
 xh:oY w.l
 bU:0<=w.bU/\0<=w.used/\w.bU+w.used<=3000
 au:0<=w.au/\w.au<=bJ
 done:0<=w.done/\w.done<=24
 MF:(w.made.length:Int)<=w.done+1
def oY.bX{l:dX}(h:oY l):∀a∈l.aS,0<=a.bX/\a.bX<=4000000:=uE _ _ (ji.1 h.good).2.1
def FU:∀(l:L Acc)(i:Nat)(z:Int),(∀a∈l,KI a)->∀a∈lD l i z,KI a
 |[],_,_,_=>λa T=>by simp[lD]at T
 |x::l,0,z,h=>λa T=>by
  rcases List.mem_cons.1 T with rfl|T
  exact h x cc;exact h a (by simp[T])
 |x::l,i+1,z,h=>λa T=>by
  rcases List.mem_cons.1 T with rfl|T
  exact h a cc;exact FU l i z (λb U=>h b (by simp[U])) a T
def FV{l:dX}{F T n:Int}(h:oY l)(e:jw l F T n=0):oY (Cz l F T n)/\∃j:Nat,T=j/\j<12/\(bq (Cz l F T n) T).is≠0:=by
 obtain⟨i,j,J,aT,rfl,rfl,C,U,Q,W,P,K,B⟩:=td h.h12 e;obtain⟨I,Y,S,_,V,D,H,O,_⟩:=UA h.good C U Q W P B;have N:Cz l i j n=(l.cq i (J.bX-n)).cq j (Y.bX+n):=by unfold Cz;rw[iG C,abU,abU,iG S]
 have M:((l.cq i (J.bX-n)).cq j (Y.bX+n)).aS[j]?=some (Y.cq (Y.bX+n)):=by show(lD (l.cq i (J.bX-n)).aS j (Y.bX+n))[j]?=_;rw[xR,if_pos Z,S];rfl
 rw[N];refine⟨⟨rR (rR h.h12),O,FU _ _ _ (FU _ _ _ h.size)⟩,j,Z,?_,?_⟩;have:=(List.getElem?_eq_some_iff.1 U).1;have:=h.h12;omega;rw[iG M];exact V
def qj{l:dX}{i:Nat}{a:Acc}(h:l.aS.length=12):(l.hD i a).aS.length=12:=by show(l.aS.set i a).length=12;rw[ahL];exact h
def iP:∀l:List w9,(dQ l).length=l.length
 |[]=>rfl
 |x::l=>by simp only[dQ,aag,iP l]
def sX:∀a b:List w9,dQ (a++b)=dQ a++dQ b
 |[],_=>rfl
 |x::a,b=>by simp only[aeN,dQ,sX a b]
def Jj(j:Int){M:L Vl}{i:Nat}{x:Vl}(h:M[i]?=some x):dQ ((M.take i).map (uD j))++[kO (uD j x)]=dQ ((M.take (i+1)).map (uD j)):=by rw[List.take_add_one,h,Option.toList_some,afa,sX];rfl
def Nl(us:L Nat):∀(a b:L AV),qI us a=true->qI us b=true->qI us (a++b)=true
 |[],_,_,h=>h
 |x::a,b,h1,h2=>by
  simp only[aeN,qI]at h1 ⊢;cases D:Ii us x with
  |true=>rw[D]at h1;exact Nl us a b h1 h2
  |false=>rw[D]at h1;cases h1
def KK{w:Wk}{b:Nat}{us:L Nat}(h:wO w≠none->mem b us=true):qI us (wB w b)=true:=by
 refine Nl us _ _ (b8 us _) ?_;obtain⟨l,Y,done,C,Q,N⟩:=w;cases N with
 |nil=>rfl
 |cons x r =>
  have:=h (by simp[wO]);simp only[s9,qI,Ii,this]
def xF{w:Wk}{b:Nat}{us:L Nat}{bs:L (Nat×L AV)}(h:wO w≠none->mem b us=true)(h2:both (mem 1000000 us) (okB us bs)=true):okB us ((1000000,wB w b)::bs)=true:=by obtain⟨K,Y⟩:=eo h2;simp only[okB,K,KK h,Y]
def dI{us:L Nat}{k:Nat}{a:L AV}{l:L (Nat×L AV)}(h1:mem k us=true)(h2:qI us a=true)(K:okB us l=true):okB us ((k,a)::l)=true:=by simp only[okB,h1,h2];exact K
def FH{us:L Nat}{k:Nat}{z:L CV}(h:mem k us=true):okB us [(k,z.map AV.c)]=true:=by simp only[okB,h,Bz]
def Af(r:List w9×Int):CV := .eF [.sl 9 (dQ r.1),ag r.2]
def Nm(e:Int):∀g u,aP g (.c (.eF [.sl 0 [],ag e])) u->aP g (.c (Af ([],e))) u:=by intro g u h;unfold Af;simp only[aP,dQ]at h ⊢;rw[Rel]at h ⊢;obtain⟨vs,E,N,H⟩:=h;refine⟨vs,E,?_,cc⟩;rw[b9]at N ⊢;obtain⟨u,us,D,Y,U⟩:=N;exact⟨u,us,D,KT Y,U⟩
def ME{f:FuncId}{C:Func}{c:Code}{w w':Wk}{M:L AV}{r:CV}{env:Env}(q:wO w=none)(hf:Tryz.prog.funcs[f]?=some C)(O:Enters Tryz.prog f)(k:∀β,Tryz.prog.funcs[f]?=some C->By f C.ntmps β (HR β (.c r) (bO (wB w') (wO w'))) [.code c] env ⟨[(1000000,wB w 0)],[],[1000000]⟩)
  (U:C.body=some c:=by exact Z)(B:(AV.ptr 1000000 0::M).length<=C.ntmps:=by exact aeP Z)(Y:Nn 0 (AV.ptr 1000000 0::M)=env:=by simp only[Nn];try exact Z):eR f w M r w':=by
 unfold eR;rw[q];exact aeF
def MG{f:FuncId}{C:Func}{c:Code}{w w':Wk}{M:L AV}{r:CV}{env:Env}{q:L CV}(D:wO w=some q)(hf:Tryz.prog.funcs[f]?=some C)(O:Enters Tryz.prog f)(k:∀β,Tryz.prog.funcs[f]?=some C->By f C.ntmps β (HR β (.c r) (bO (wB w') (wO w'))) [.code c] env ⟨[(1000000,wB w 1000002),(1000002,q.map AV.c)],[],[1000000,1000002]⟩)
  (U:C.body=some c:=by exact Z)(B:(AV.ptr 1000000 0::M).length<=C.ntmps:=by exact aeP Z)(Y:Nn 0 (AV.ptr 1000000 0::M)=env:=by simp only[Nn];try exact Z):eR f w M r w':=by
 unfold eR;rw[D];exact aeF
attribute [local irreducible] AK ah aR bM cX cn bH cN gh dX.cq dX.hD wB
def No(l:dX)(Y done C Q:Int)(N:L Int)(fu:Int)(H:Option wH)(P K W:Int)(V:L UInt8)(U:L Vl)(T:L Ty)(O:L Nd)(to n e:Int)(S:l.aS.length=12)(M:e≠0)
  (J:af 115 [.agg (cN l),ag fu,ag to,ag n] (.eF [.agg (cN l),ag e])) :
  eR 99 ⟨l,Y,done,C,Q,N⟩ [.c (kO ⟨fu,H,.mk P K W V U T O⟩),.c (ag to),.c (ag n)] (.eF [.sl 0 [],ag e]) ⟨l,Y,done,C,Q,N⟩:=by
 have E:(e != 0)=true:=by simpa using M
 cases D:wO ⟨l,Y,done,C,Q,N⟩with
 |none =>
  refine ME D func99 call99 λβ hf=>?_
  repeat' (first|exact wr|refine wz ?_)
 |some q =>
  refine MG D func99 call99 λβ hf=>?_
  repeat' (first|exact wr|refine wz ?_)
def Np(l:dX)(Y done C Q:Int)(N:L Int)(fu:Int)(H:Option wH)(P I W:Int)(V:L UInt8)(U:L Vl)(T:L Ty)(O:L Nd)(n:Int)(J:l.aS.length=12)(Ll:dX)(V6:Ll.aS.length=12)(j:Nat)(lj:Nat.blt j 12=true)(M bX S G:Int)(E:L Ty)(B:Int)(D:L Ty)(code:L Nd)(u A k3:Int)(k4:L UInt8)(k5:L Vl)(k6:L Ty)(k7:L Nd)(ha:Ll.aS[j]?=some ⟨M,bX,S,.mk G E,.mk B D,code,.mk u A k3 k4 k5 k6 k7⟩)(MI:(M==1)=true)(r1 r2 r3:Int)(r4:L UInt8)(r5:L Vl)(r6:L Ty)(r7:L Nd)(e:Int)(he:(e != 0)=true)(EB:af 115 [.agg (cN l),ag fu,ag j,ag n] (.eF [.agg (cN Ll),ag 0]))
  (WM:af 116 [kO ⟨fu,H,.mk P I W V U T O⟩,cU (.mk 1 [])] (.eF [bA (.mk r1 r2 r3 r4 r5 r6 r7),ag e])) :
  eR 99 ⟨l,Y,done,C,Q,N⟩ [.c (kO ⟨fu,H,.mk P I W V U T O⟩),.c (ag j),.c (ag n)] (.eF [.sl 0 [],ag e]) ⟨l,Y,done,C,Q,N⟩:=by
 obtain⟨qq,K⟩:=ir ha;have d0:=K 0 _ Z;have d1:=K 1 _ Z;have d3:=K 3 _ Z;have d5:=K 5 _ Z;have d7:=K 7 _ Z;have d8:=K 8 _ Z;clear K;cases q:wO ⟨l,Y,done,C,Q,N⟩with
 |none =>
  refine ME q func99 call99 λβ hf=>?_
  repeat' (first|exact wr|refine wz ?_)
 |some z =>
  refine MG q func99 call99 λβ hf=>?_
  repeat' (first|exact wr|refine wz ?_)
def Nq(l:dX)(Y done C Q:Int)(N:L Int)(fu:Int)(H:Option wH)(P I W:Int)(V:L UInt8)(U:L Vl)(T:L Ty)(O:L Nd)(n:Int)(J:l.aS.length=12)(Ll:dX)(V6:Ll.aS.length=12)(j:Nat)(lj:Nat.blt j 12=true)(M bX S G:Int)(E:L Ty)(B:Int)(D:L Ty)(code:L Nd)(u A k3:Int)(k4:L UInt8)(k5:L Vl)(k6:L Ty)(k7:L Nd)(ha:Ll.aS[j]?=some ⟨M,bX,S,.mk G E,.mk B D,code,.mk u A k3 k4 k5 k6 k7⟩)(MI:(M==1)=true)(r1 r2 r3:Int)(r4:L UInt8)(r5:L Vl)(r6:L Ty)(r7:L Nd)(EB:af 115 [.agg (cN l),ag fu,ag j,ag n] (.eF [.agg (cN Ll),ag 0]))
  (WM:af 116 [kO ⟨fu,H,.mk P I W V U T O⟩,cU (.mk 1 [])] (.eF [bA (.mk r1 r2 r3 r4 r5 r6 r7),ag 0])) :
  eR 99 ⟨l,Y,done,C,Q,N⟩ [.c (kO ⟨fu,H,.mk P I W V U T O⟩),.c (ag j),.c (ag n)] (.eF [.sl 0 [],ag 0]) ⟨Ll,Y,done,C,Q,N⟩:=by
 obtain⟨qq,K⟩:=ir ha;have d0:=K 0 _ Z;have d1:=K 1 _ Z;have d3:=K 3 _ Z;have d5:=K 5 _ Z;have d7:=K 7 _ Z;have d8:=K 8 _ Z;clear K;cases q:wO ⟨l,Y,done,C,Q,N⟩with
 |none =>
  refine ME q func99 call99 λβ hf=>?_
  repeat' (first|exact wr|refine wz ?_)
 |some z =>
  refine MG q func99 call99 λβ hf=>?_
  repeat' (first|exact wr|refine wz ?_)
def Qw(l:dX)(Y done C Q:Int)(N:L Int)(fu:Int)(H:Option wH)(P I W:Int)(V:L UInt8)(U:L Vl)(T:L Ty)(O:L Nd)(n:Int)(E:l.aS.length=12)(Ll:dX)(V6:Ll.aS.length=12)(j:Nat)(lj:Nat.blt j 12=true)(M bX S G:Int)(J:L Ty)(B:Int)(D:L Ty)(code:L Nd)(u A k3:Int)(k4:L UInt8)(k5:L Vl)(k6:L Ty)(k7:L Nd)(ha:Ll.aS[j]?=some ⟨M,bX,S,.mk G J,.mk B D,code,.mk u A k3 k4 k5 k6 k7⟩)(MI:(M==1)=false)(r1 r2 r3:Int)(r4:L UInt8)(r5:L Vl)(r6:L Ty)(r7:L Nd)(e:Int)(he:(e != 0)=true)(EB:af 115 [.agg (cN l),ag fu,ag j,ag n] (.eF [.agg (cN Ll),ag 0]))
  (WM:af 116 [kO ⟨fu,H,.mk P I W V U T O⟩,cU (.mk G J)] (.eF [bA (.mk r1 r2 r3 r4 r5 r6 r7),ag e])) :
  eR 99 ⟨l,Y,done,C,Q,N⟩ [.c (kO ⟨fu,H,.mk P I W V U T O⟩),.c (ag j),.c (ag n)] (.eF [.sl 0 [],ag e]) ⟨l,Y,done,C,Q,N⟩:=by
 obtain⟨qq,K⟩:=ir ha;have d0:=K 0 _ Z;have d1:=K 1 _ Z;have d3:=K 3 _ Z;have d5:=K 5 _ Z;have d7:=K 7 _ Z;have d8:=K 8 _ Z;clear K;cases q:wO ⟨l,Y,done,C,Q,N⟩with
 |none =>
  refine ME q func99 call99 λβ hf=>?_
  repeat' (first|exact wr|refine wz ?_)
 |some z =>
  refine MG q func99 call99 λβ hf=>?_
  repeat' (first|exact wr|refine wz ?_)
def Qx(l:dX)(Y done C G:Int)(N:L Int)(fu:Int)(H:Option wH)(P I V:Int)(T:L UInt8)(O:L Vl)(M:L Ty)(J:L Nd)(n:Int)(h12:l.aS.length=12)(Ll:dX)(V6:Ll.aS.length=12)(j:Nat)(lj:Nat.blt j 12=true)(E bX S W:Int)(U:L Ty)(B:Int)(D:L Ty)(code:L Nd)(u A q:Int)(k4:L UInt8)(k5:L Vl)(k6:L Ty)(k7:L Nd)(ha:Ll.aS[j]?=some ⟨E,bX,S,.mk W U,.mk B D,code,.mk u A q k4 k5 k6 k7⟩)(MI:(E==1)=false)(r1 r2 r3:Int)(r4:L UInt8)(r5:L Vl)(r6:L Ty)(r7:L Nd)(EB:af 115 [.agg (cN l),ag fu,ag j,ag n] (.eF [.agg (cN Ll),ag 0]))
  (WM:af 116 [kO ⟨fu,H,.mk P I V T O M J⟩,cU (.mk W U)] (.eF [bA (.mk r1 r2 r3 r4 r5 r6 r7),ag 0]))
  (c g m:Int)(st:L Vl)(Q:Vl)(hrun:af 33 [.agg [ag j,ag fu,ag n,ag bX],aM (.mk 3 0 0 [] code),.sl 2 (az [.mk 11 [.mk W U,.mk B D]]),.sl 7 (aa [.mk 11 0 0 [] [.mk r1 r2 r3 r4 r5 r6 r7,.mk u A q k4 k5 k6 k7] [] []]),ag Y] (mW c st Q g m))(hc:(c != 0)=true) :
  eR 99 ⟨l,Y,done,C,G,N⟩ [.c (kO ⟨fu,H,.mk P I V T O M J⟩),.c (ag j),.c (ag n)] (.eF [.sl 0 [],ag c]) ⟨l,i64.wrap (Y-g),done,i64.wrap (C+g),G,N⟩:=by
 obtain⟨qq,K⟩:=ir ha;have d0:=K 0 _ Z;have d1:=K 1 _ Z;have d3:=K 3 _ Z;have d5:=K 5 _ Z;have d7:=K 7 _ Z;have d8:=K 8 _ Z;clear K;cases hm:wO ⟨l,Y,done,C,G,N⟩with
 |none =>
  refine ME hm func99 call99 λβ hf=>?_
  repeat' (first|exact wr|refine wz ?_)
 |some z =>
  refine MG hm func99 call99 λβ hf=>?_
  repeat' (first|exact wr|refine wz ?_)
def Qy(l:dX)(Y done C G:Int)(N:L Int)(fu:Int)(H:Option wH)(P I V:Int)(T:L UInt8)(O:L Vl)(M:L Ty)(J:L Nd)(n:Int)(h12:l.aS.length=12)(Ll:dX)(V6:Ll.aS.length=12)(j:Nat)(lj:Nat.blt j 12=true)(E bX S W:Int)(U:L Ty)(B:Int)(D:L Ty)(code:L Nd)(u A q:Int)(k4:L UInt8)(k5:L Vl)(k6:L Ty)(k7:L Nd)(ha:Ll.aS[j]?=some ⟨E,bX,S,.mk W U,.mk B D,code,.mk u A q k4 k5 k6 k7⟩)(MI:(E==1)=false)(r1 r2 r3:Int)(r4:L UInt8)(r5:L Vl)(r6:L Ty)(r7:L Nd)(EB:af 115 [.agg (cN l),ag fu,ag j,ag n] (.eF [.agg (cN Ll),ag 0]))
  (WM:af 116 [kO ⟨fu,H,.mk P I V T O M J⟩,cU (.mk W U)] (.eF [bA (.mk r1 r2 r3 r4 r5 r6 r7),ag 0]))
  (c g m:Int)(st:L Vl)(Q:Vl)(hrun:af 33 [.agg [ag j,ag fu,ag n,ag bX],aM (.mk 3 0 0 [] code),.sl 2 (az [.mk 11 [.mk W U,.mk B D]]),.sl 7 (aa [.mk 11 0 0 [] [.mk r1 r2 r3 r4 r5 r6 r7,.mk u A q k4 k5 k6 k7] [] []]),ag Y] (mW c st Q g m))(hc:(c != 0)=false)(hm:decide (G>i64.wrap (1152921504606846976-m))=true) :
  eR 99 ⟨l,Y,done,C,G,N⟩ [.c (kO ⟨fu,H,.mk P I V T O M J⟩),.c (ag j),.c (ag n)] (.eF [.sl 0 [],ag 11]) ⟨l,i64.wrap (Y-g),done,i64.wrap (C+g),G,N⟩:=by
 obtain⟨qq,K⟩:=ir ha;have d0:=K 0 _ Z;have d1:=K 1 _ Z;have d3:=K 3 _ Z;have d5:=K 5 _ Z;have d7:=K 7 _ Z;have d8:=K 8 _ Z;clear K;cases FW:wO ⟨l,Y,done,C,G,N⟩with
 |none =>
  refine ME FW func99 call99 λβ hf=>?_
  repeat' (first|exact wr|refine wz ?_)
 |some z =>
  refine MG FW func99 call99 λβ hf=>?_
  repeat' (first|exact wr|refine wz ?_)
def Nr(l:dX)(O done C J:Int)(N:L Int)(fu:Int)(op:Option wH)(v1 v2 v3:Int)(v4:L UInt8)(v5:L Vl)(v6:L Ty)(v7:L Nd)(n:Int)(h12:l.aS.length=12)(Ll:dX)(V6:Ll.aS.length=12)(j:Nat)(lj:Nat.blt j 12=true)(Y bX S G:Int)(U:L Ty)(B:Int)(K:L Ty)(code:L Nd)(k1 k2 k3:Int)(k4:L UInt8)(k5:L Vl)(k6:L Ty)(k7:L Nd)(ha:Ll.aS[j]?=some ⟨Y,bX,S,.mk G U,.mk B K,code,.mk k1 k2 k3 k4 k5 k6 k7⟩)(MI:(Y==1)=false)(r1 r2 r3:Int)(r4:L UInt8)(r5:L Vl)(r6:L Ty)(r7:L Nd)(EB:af 115 [.agg (cN l),ag fu,ag j,ag n] (.eF [.agg (cN Ll),ag 0]))
  (WM:af 116 [kO ⟨fu,op,.mk v1 v2 v3 v4 v5 v6 v7⟩,cU (.mk G U)] (.eF [bA (.mk r1 r2 r3 r4 r5 r6 r7),ag 0]))
  (c g m:Int)(st:L Vl)(E:Vl)(o1 o2 o3:Int)(o4:L UInt8)(o6:L Ty)(o7:L Nd)(p1 p2 p3:Int)(p4:L UInt8)(M:L Vl)(p6:L Ty)(p7:L Nd)(q1 W A:Int)(V:L UInt8)(T:L Vl)(Q:L Ty)(P:L Nd)(hlen:M.length<=1000000)(hrun:af 33 [.agg [ag j,ag fu,ag n,ag bX],aM (.mk 3 0 0 [] code),.sl 2 (az [.mk 11 [.mk G U,.mk B K]]),.sl 7 (aa [.mk 11 0 0 [] [.mk r1 r2 r3 r4 r5 r6 r7,.mk k1 k2 k3 k4 k5 k6 k7] [] []]),ag O] (mW c (.mk o1 o2 o3 o4 [.mk p1 p2 p3 p4 M p6 p7,.mk q1 W A V T Q P] o6 o7::st) E g m))(hc:(c != 0)=false)(hm:decide (J>i64.wrap (1152921504606846976-m))=false) :
  eR 99 ⟨l,O,done,C,J,N⟩ [.c (kO ⟨fu,op,.mk v1 v2 v3 v4 v5 v6 v7⟩),.c (ag j),.c (ag n)] (Af (M.map (uD j),0)) ⟨Ll.hD j ⟨Y,bX,S,.mk G U,.mk B K,code,.mk q1 W A V T Q P⟩,i64.wrap (O-g),done,i64.wrap (C+g),i64.wrap (J+m),N⟩:=by
 obtain⟨qq,H⟩:=ir ha;have d0:=H 0 _ Z;have d1:=H 1 _ Z;have d3:=H 3 _ Z;have d5:=H 5 _ Z;have d7:=H 7 _ Z;have d8:=H 8 _ Z;clear H;have w8:=Ax ha (b:=⟨Y,bX,S,.mk G U,.mk B K,code,.mk q1 W A V T Q P⟩) (k:=8) (cs:=[.c (ag q1),.c (ag W),.c (ag A),.c (.str V),.c (.sl 7 (aa T)),.c (.sl 2 (az Q)),.c (.sl 5 (aD P))]) Z;have M12:=qj (i:=j) (a:=⟨Y,bX,S,.mk G U,.mk B K,code,.mk q1 W A V T Q P⟩) V6;cases u:wO ⟨l,O,done,C,J,N⟩with
 |none =>
  refine ME u func99 call99 λβ hf=>?_
  repeat' (first|exact wr|refine wz ?_)
  refine AK.fY [(1000000,1000000)] [(6000,(0,none))] (env':=[(177,.c (ag ((0:Nat)))),(176,.c (ag (aa M).length)),(175,.c (.sl 7 (aa M))),(2,.c (ag j)),(20,.own (.tok 6000 0) 9 ([]))]) (bs':=[(1000000,wB ⟨Ll.hD j ⟨Y,bX,S,.mk G U,.mk B K,code,.mk q1 W A V T Q P⟩,i64.wrap (O-g),done,i64.wrap (C+g),i64.wrap (J+m),N⟩ 0)]) (ts':=[(6000,0)]) (us':=[1000000,6000])
   ce  ⟨⟨_,_,Z,Z,(mS ⟨Ll.hD j ⟨Y,bX,S,.mk G U,.mk B K,code,.mk q1 W A V T Q P⟩,i64.wrap (O-g),done,i64.wrap (C+g),i64.wrap (J+m),N⟩).conv _ _ _ _ (λh=>absurd u h)⟩,trivial⟩ Z ?_
  refine AK.dN (α:=Nat) (λi=>i<=M.length) (λi=>M.length-i) (λi=>[(177,.c (ag ((i:Nat)))),(176,.c (ag (aa M).length)),(175,.c (.sl 7 (aa M))),(2,.c (ag j)),(20,.own (.tok 6000 0) 9 (dQ ((M.take i).map (uD j))))]) (λ_=>[(1000000,wB ⟨Ll.hD j ⟨Y,bX,S,.mk G U,.mk B K,code,.mk q1 W A V T Q P⟩,i64.wrap (O-g),done,i64.wrap (C+g),i64.wrap (J+m),N⟩ 0)]) (λ_=>[(6000,0)]) [1000000,6000] 0
   (aeW _) ce ⟨Z,trivial⟩ ⟨Z,trivial⟩ Z (xF (λh=>absurd u h) Z) Z ?_
  intro i hi q;rcases ie M i hi with ⟨x,I,Wa⟩|he
  ·have hc:=xU I;have h2:=bt I;have D:=Jj (j:Int) I;obtain⟨x1,x2,x3,x4,x5,x6,x7⟩:=x
   repeat' (first|exact wr|refine wz ?_|refine uI Z (i) Z (fG I) Z ?_|(refine uA Z ?_ ?_<;>(try (show(_:Nat)*_<=_;dsimp only))))
   simp only[iP,aeU,afb,aag,aay];omega;refine AK.fY [(1000000,1000000)] [(6000,(0,some 6000))] (env':=[(177,.c (ag (((i+1:Nat):Int)))),(176,.c (ag (aa M).length)),(175,.c (.sl 7 (aa M))),(2,.c (ag j)),(20,.own (.tok 6000 0) 9 (dQ ((M.take (i+1)).map (uD j))))]) (bs':=[(1000000,wB ⟨Ll.hD j ⟨Y,bX,S,.mk G U,.mk B K,code,.mk q1 W A V T Q P⟩,i64.wrap (O-g),done,i64.wrap (C+g),i64.wrap (J+m),N⟩ 0)]) (ts':=[(6000,0)]) (us':=[1000000,6000])
    ⟨⟨_,Z,.inl (kL (i:=i) ai)⟩,⟨_,Z,.inl Z⟩,⟨_,Z,.inl Z⟩,⟨_,Z,.inl Z⟩,⟨_,Z,⟨_,Z,.inr ⟨_,_,Z,Z,aeM (AV.own (.tok 6000 1) 9) D⟩⟩⟩,trivial⟩ ⟨⟨_,_,Z,Z,(mS ⟨Ll.hD j ⟨Y,bX,S,.mk G U,.mk B K,code,.mk q1 W A V T Q P⟩,i64.wrap (O-g),done,i64.wrap (C+g),i64.wrap (J+m),N⟩).conv _ _ _ _ (λh=>absurd u h)⟩,trivial⟩ Z ?_
   exact q (i+1) ai ai
  have hc:=tf he;rw[show Af (M.map (uD j),0)=Af ((M.take i).map (uD j),0)by rw[he,ait]];clear q
  repeat' (first|exact wr|refine wz ?_)
 |some z =>
  refine MG u func99 call99 λβ hf=>?_
  repeat' (first|exact wr|refine wz ?_)
  refine AK.fY [(1000000,1000000),(1000002,1000002)] [(6000,(0,none))] (env':=[(177,.c (ag ((0:Nat)))),(176,.c (ag (aa M).length)),(175,.c (.sl 7 (aa M))),(2,.c (ag j)),(20,.own (.tok 6000 0) 9 ([]))]) (bs':=[(1000000,wB ⟨Ll.hD j ⟨Y,bX,S,.mk G U,.mk B K,code,.mk q1 W A V T Q P⟩,i64.wrap (O-g),done,i64.wrap (C+g),i64.wrap (J+m),N⟩ 1000002),(1000002,z.map AV.c)]) (ts':=[(6000,0)]) (us':=[1000000,1000002,6000])
   ce  ⟨⟨_,_,Z,Z,(mS ⟨Ll.hD j ⟨Y,bX,S,.mk G U,.mk B K,code,.mk q1 W A V T Q P⟩,i64.wrap (O-g),done,i64.wrap (C+g),i64.wrap (J+m),N⟩).conv _ _ _ _ (λ_=>rfl)⟩,⟨_,_,Z,Z,cJ _⟩,trivial⟩ Z ?_
  refine AK.dN (α:=Nat) (λi=>i<=M.length) (λi=>M.length-i) (λi=>[(177,.c (ag ((i:Nat)))),(176,.c (ag (aa M).length)),(175,.c (.sl 7 (aa M))),(2,.c (ag j)),(20,.own (.tok 6000 0) 9 (dQ ((M.take i).map (uD j))))]) (λ_=>[(1000000,wB ⟨Ll.hD j ⟨Y,bX,S,.mk G U,.mk B K,code,.mk q1 W A V T Q P⟩,i64.wrap (O-g),done,i64.wrap (C+g),i64.wrap (J+m),N⟩ 1000002),(1000002,z.map AV.c)]) (λ_=>[(6000,0)]) [1000000,1000002,6000] 0
   (aeW _) ce ⟨Z,Z,trivial⟩ ⟨Z,trivial⟩ Z (xF (λ_=>rfl) (FH Z)) Z ?_
  intro i hi q;rcases ie M i hi with ⟨x,I,Wa⟩|he
  ·have hc:=xU I;have h2:=bt I;have D:=Jj (j:Int) I;obtain⟨x1,x2,x3,x4,x5,x6,x7⟩:=x
   repeat' (first|exact wr|refine wz ?_|refine uI Z (i) Z (fG I) Z ?_|(refine uA Z ?_ ?_<;>(try (show(_:Nat)*_<=_;dsimp only))))
   simp only[iP,aeU,afb,aag,aay];omega;refine AK.fY [(1000000,1000000),(1000002,1000002)] [(6000,(0,some 6000))] (env':=[(177,.c (ag (((i+1:Nat):Int)))),(176,.c (ag (aa M).length)),(175,.c (.sl 7 (aa M))),(2,.c (ag j)),(20,.own (.tok 6000 0) 9 (dQ ((M.take (i+1)).map (uD j))))]) (bs':=[(1000000,wB ⟨Ll.hD j ⟨Y,bX,S,.mk G U,.mk B K,code,.mk q1 W A V T Q P⟩,i64.wrap (O-g),done,i64.wrap (C+g),i64.wrap (J+m),N⟩ 1000002),(1000002,z.map AV.c)]) (ts':=[(6000,0)]) (us':=[1000000,1000002,6000])
    ⟨⟨_,Z,.inl (kL (i:=i) ai)⟩,⟨_,Z,.inl Z⟩,⟨_,Z,.inl Z⟩,⟨_,Z,.inl Z⟩,⟨_,Z,⟨_,Z,.inr ⟨_,_,Z,Z,aeM (AV.own (.tok 6000 1) 9) D⟩⟩⟩,trivial⟩ ⟨⟨_,_,Z,Z,(mS ⟨Ll.hD j ⟨Y,bX,S,.mk G U,.mk B K,code,.mk q1 W A V T Q P⟩,i64.wrap (O-g),done,i64.wrap (C+g),i64.wrap (J+m),N⟩).conv _ _ _ _ (λ_=>rfl)⟩,⟨_,_,Z,Z,cJ _⟩,trivial⟩ Z ?_
   exact q (i+1) ai ai
  have hc:=tf he;rw[show Af (M.map (uD j),0)=Af ((M.take i).map (uD j),0)by rw[he,ait]];clear q
  repeat' (first|exact wr|refine wz ?_)
end Go.Proofs
namespace Go.Proofs
open Go.cw
attribute [local irreducible] AK ah aR bM cX cn bH cN gh dX.cq dX.hD wB
def ac0(l:dX)(W done C Q:Int)(N:L Int)(fu:Int)(G:l.aS.length=12)(Y to D B a2 A:Int)(a4:L UInt8)(a5:L Nd)(V U H:Int)(T:L UInt8)(S:L Nd)(u K P:Int)(c4:L UInt8)(O:L Nd)(d1 d2 d3:Int)(d4:L UInt8)(d5:L Nd)(pT:Int)(pA:L Ty)(sT:Int)(sA:L Ty)(I E:Int)(hp:af 117 [aM (.mk V U H T S)] (.eF [cU (.mk pT pA),ag I]))(hs:af 117 [aM (.mk u K P c4 O)] (.eF [cU (.mk sT sA),ag E]))(hc:(bif (I != 0)then true else(E != 0))=true)(J:Bool)(hx:(I != 0)=J)(M:J=false->(E != 0)=true) :
  eR 100 ⟨l,W,done,C,Q,N⟩ [.c (ag fu),.c (.ip (V8 ⟨Y,to,D,.mk B a2 A a4 a5,.mk V U H T S,.mk u K P c4 O,.mk d1 d2 d3 d4 d5⟩))] (ag 5) ⟨l,W,done,C,Q,N⟩:=by
 cases J
 ·have hy:=M Z;have dg:(bif false then true else(E != 0))=true:=by rw[hy];rfl
  cases q:wO ⟨l,W,done,C,Q,N⟩with
  |none =>
   refine ME q func100 call100 λβ hf=>?_
   repeat' (first|exact wr|refine wz ?_|(intro h;rw[h]))
  |some z =>
   refine MG q func100 call100 λβ hf=>?_
   repeat' (first|exact wr|refine wz ?_|(intro h;rw[h]))
 clear M;cases q:wO ⟨l,W,done,C,Q,N⟩with
 |none =>
  refine ME q func100 call100 λβ hf=>?_
  repeat' (first|exact wr|refine wz ?_|(intro h;rw[h]))
 |some z =>
  refine MG q func100 call100 λβ hf=>?_
  repeat' (first|exact wr|refine wz ?_|(intro h;rw[h]))
def ac1(l:dX)(W done C Q:Int)(N:L Int)(fu:Int)(h12:l.aS.length=12)(Y to oZ a1 a2 a3:Int)(a4:L UInt8)(a5:L Nd)(V U H:Int)(T:L UInt8)(S:L Nd)(u K P:Int)(c4:L UInt8)(O:L Nd)(q G M:Int)(D:L UInt8)(J:L Nd)(B:Int)(A:L Ty)(sT:Int)(sA:L Ty)(I E:Int)(hp:af 117 [aM (.mk V U H T S)] (.eF [cU (.mk B A),ag I]))(hs:af 117 [aM (.mk u K P c4 O)] (.eF [cU (.mk sT sA),ag E]))(hx:(I != 0)=false)(hy:(E != 0)=false)(e:Int)(uF:af 47 [cU (.mk B A),cU (.mk sT sA),aM (.mk q G M D J)] (ag e))(he:(e != 0)=true) :
  eR 100 ⟨l,W,done,C,Q,N⟩ [.c (ag fu),.c (.ip (V8 ⟨Y,to,oZ,.mk a1 a2 a3 a4 a5,.mk V U H T S,.mk u K P c4 O,.mk q G M D J⟩))] (ag e) ⟨l,W,done,C,Q,N⟩:=by
 have hc:(bif (I != 0)then true else(E != 0))=false:=by rw[hx,hy];rfl
 have dg:(bif false then true else(E != 0))=false:=by rw[hy];rfl
 cases hm:wO ⟨l,W,done,C,Q,N⟩with
 |none =>
  refine ME hm func100 call100 λβ hf=>?_
  repeat' (first|exact wr|refine wz ?_|(intro h;rw[h]))
 |some z =>
  refine MG hm func100 call100 λβ hf=>?_
  repeat' (first|exact wr|refine wz ?_|(intro h;rw[h]))
def aae(l:dX)(W done C Q:Int)(N:L Int)(fu:Int)(h12:l.aS.length=12)(Y to oZ V a2 A:Int)(P:L UInt8)(G:L Nd)(U T H:Int)(S:L UInt8)(O:L Nd)(u M J:Int)(c4:L UInt8)(D:L Nd)(q d2 d3:Int)(d4:L UInt8)(d5:L Nd)(pT:Int)(pA:L Ty)(B:Int)(K:L Ty)(I E:Int)(hp:af 117 [aM (.mk U T H S O)] (.eF [cU (.mk pT pA),ag I]))(hs:af 117 [aM (.mk u M J c4 D)] (.eF [cU (.mk B K),ag E]))(hx:(I != 0)=false)(hy:(E != 0)=false)(e:Int)(uF:af 47 [cU (.mk pT pA),cU (.mk B K),aM (.mk q d2 d3 d4 d5)] (ag e))(he:(e != 0)=false)(r1 r2 r3:Int)(r4:L UInt8)(r5:L Vl)(r6:L Ty)(r7:L Nd)(ev:Int)(zs:Nat)(hval:af 118 [cU (.mk B K),aM (.mk V a2 A P G)] (.eF [bA (.mk r1 r2 r3 r4 r5 r6 r7),ag ev]))(hsz:af 48 [bA (.mk r1 r2 r3 r4 r5 r6 r7)] (ag zs))(hv:(ev != 0)=true) :
  eR 100 ⟨l,W,done,C,Q,N⟩ [.c (ag fu),.c (.ip (V8 ⟨Y,to,oZ,.mk V a2 A P G,.mk U T H S O,.mk u M J c4 D,.mk q d2 d3 d4 d5⟩))] (ag 5) ⟨l,W,done,C,Q,N⟩:=by
 have hc:(bif (I != 0)then true else(E != 0))=false:=by rw[hx,hy];rfl
 have dg:(bif false then true else(E != 0))=false:=by rw[hy];rfl
 have hq:(bif (ev != 0)then true else decide ((zs:Int)>200))=true:=by rw[hv];rfl
 cases hm:wO ⟨l,W,done,C,Q,N⟩with
 |none =>
  refine ME hm func100 call100 λβ hf=>?_
  repeat' (first|exact wr|refine wz ?_|(intro h;rw[h]))
 |some z =>
  refine MG hm func100 call100 λβ hf=>?_
  repeat' (first|exact wr|refine wz ?_|(intro h;rw[h]))
def aaf(l:dX)(V done C Q:Int)(N:L Int)(fu:Int)(h12:l.aS.length=12)(Y to oZ U a2 A:Int)(P:L UInt8)(G:L Nd)(T S H:Int)(O:L UInt8)(M:L Nd)(u J D:Int)(c4:L UInt8)(q:L Nd)(d1 d2 d3:Int)(d4:L UInt8)(d5:L Nd)(pT:Int)(pA:L Ty)(B:Int)(K:L Ty)(I E:Int)(hp:af 117 [aM (.mk T S H O M)] (.eF [cU (.mk pT pA),ag I]))(hs:af 117 [aM (.mk u J D c4 q)] (.eF [cU (.mk B K),ag E]))(hx:(I != 0)=false)(hy:(E != 0)=false)(e:Int)(uF:af 47 [cU (.mk pT pA),cU (.mk B K),aM (.mk d1 d2 d3 d4 d5)] (ag e))(he:(e != 0)=false)(r1 r2 r3:Int)(r4:L UInt8)(r5:L Vl)(r6:L Ty)(r7:L Nd)(ev:Int)(W:Nat)(hval:af 118 [cU (.mk B K),aM (.mk U a2 A P G)] (.eF [bA (.mk r1 r2 r3 r4 r5 r6 r7),ag ev]))(hsz:af 48 [bA (.mk r1 r2 r3 r4 r5 r6 r7)] (ag W))(hv:(ev != 0)=false)(hz:decide ((W:Int)>200)=true) :
  eR 100 ⟨l,V,done,C,Q,N⟩ [.c (ag fu),.c (.ip (V8 ⟨Y,to,oZ,.mk U a2 A P G,.mk T S H O M,.mk u J D c4 q,.mk d1 d2 d3 d4 d5⟩))] (ag 5) ⟨l,V,done,C,Q,N⟩:=by
 have hc:(bif (I != 0)then true else(E != 0))=false:=by rw[hx,hy];rfl
 have dg:(bif false then true else(E != 0))=false:=by rw[hy];rfl
 have hq:(bif (ev != 0)then true else decide ((W:Int)>200))=true:=by rw[hv,hz];rfl
 have hq':(bif false then true else decide ((W:Int)>200))=true:=by rw[hz];rfl
 cases hm:wO ⟨l,V,done,C,Q,N⟩with
 |none =>
  refine ME hm func100 call100 λβ hf=>?_
  repeat' (first|exact wr|refine wz ?_|(intro h;rw[h]))
 |some z =>
  refine MG hm func100 call100 λβ hf=>?_
  repeat' (first|exact wr|refine wz ?_|(intro h;rw[h]))
def UB(l:L Int):(bz (cM l)).length=l.length*1:=by rw[dz (rows:=cM l) (s:=1) (λr B=>by obtain⟨n,_,rfl⟩:=List.mem_map.1 B;rfl),aeU]
def ac2(l:dX)(Y done C Q:Int)(N:L Int)(fu:Int)(h12:l.aS.length=12)(hml:N.length<=1000)(U to oZ a1 a2 a3:Int)(a4:L UInt8)(a5:L Nd)(b1 b2 b3:Int)(b4:L UInt8)(b5:L Nd)(V c2 c3:Int)(c4:L UInt8)(c5:L Nd)(d1 d2 d3:Int)(d4:L UInt8)(I:L Nd)(G:Int)(T:L Ty)(B:Int)(K:L Ty)(e0 E:Int)(hp:af 117 [aM (.mk b1 b2 b3 b4 b5)] (.eF [cU (.mk G T),ag e0]))(hs:af 117 [aM (.mk V c2 c3 c4 c5)] (.eF [cU (.mk B K),ag E]))(hx:(e0 != 0)=false)(hy:(E != 0)=false)(e:Int)(uF:af 47 [cU (.mk G T),cU (.mk B K),aM (.mk d1 d2 d3 d4 I)] (ag e))(he:(e != 0)=false)(P O M:Int)(J:L UInt8)(D:L Vl)(A:L Ty)(q:L Nd)(ev:Int)(zs:Nat)(hval:af 118 [cU (.mk B K),aM (.mk a1 a2 a3 a4 a5)] (.eF [bA (.mk P O M J D A q),ag ev]))(hsz:af 48 [bA (.mk P O M J D A q)] (ag zs))(hv:(ev != 0)=false)(hz:decide ((zs:Int)>200)=false)(rr:Int)(w':Wk)(h7:eS (l.aS.drop 4) 4=12->rr=7/\w'=⟨l,Y,done,C,Q,N⟩)
  (EB:∀i:Nat,eS (l.aS.drop 4) 4=i->i<12->∃(Ll:dX) (em:Int),Ll.aS.length=12/\af 115 [.agg (cN (l.hD i ⟨2,0,0,.mk G T,.mk B K,I,.mk P O M J D A q⟩)),ag fu,ag i,ag oZ] (.eF [.agg (cN Ll),ag em])/\((em≠0/\rr=em/\w'=⟨l,Y,done,C,Q,N⟩)\/(em=0/\rr=0/\w'=⟨Ll,Y,done,C,Q,N++[(i:Int)]⟩))) :
  eR 100 ⟨l,Y,done,C,Q,N⟩ [.c (ag fu),.c (.ip (V8 ⟨U,to,oZ,.mk a1 a2 a3 a4 a5,.mk b1 b2 b3 b4 b5,.mk V c2 c3 c4 c5,.mk d1 d2 d3 d4 I⟩))] (ag rr) w':=by
 have hc:(bif (e0 != 0)then true else(E != 0))=false:=by rw[hx,hy];rfl
 have dg:(bif false then true else(E != 0))=false:=by rw[hy];rfl
 have hq:(bif (ev != 0)then true else decide ((zs:Int)>200))=false:=by rw[hv,hz];rfl
 have hq':(bif false then true else decide ((zs:Int)>200))=false:=by rw[hz];rfl
 rcases N with _|⟨u,W⟩
 ·refine ME (show wO (⟨l,Y,done,C,Q,[]⟩:Wk)=none from Z) func100 call100 λβ hf=>?_;have FW:=(show wO (⟨l,Y,done,C,Q,[]⟩:Wk)=none from Z)
  repeat' (first|exact wr|refine wz ?_|(intro h;rw[h]))
  refine AK.dN (α:=Nat) (λi=>4<=i/\i<=12/\eS (l.aS.drop 4) 4=eS (l.aS.drop i) i) (λi=>12-i) (λi=>[(13,.c (ag (i:Nat))),(0,.ptr 1000000 0),(1,.c (ag fu)),(2,.c (.ip (V8 ⟨U,to,oZ,.mk a1 a2 a3 a4 a5,.mk b1 b2 b3 b4 b5,.mk V c2 c3 c4 c5,.mk d1 d2 d3 d4 I⟩))),(7,.ptr 7 0),(9,.ptr 9 0),(12,.ptr 12 0)]) (λ_=>[(7,[.c (ag G),.c (.sl 2 (az T))]),(9,[.c (ag B),.c (.sl 2 (az K))]),(12,[.c (ag P),.c (ag O),.c (ag M),.c (.str J),.c (.sl 7 (aa D)),.c (.sl 2 (az A)),.c (.sl 5 (aD q))]),(1000000,wB (⟨l,Y,done,C,Q,[]⟩:Wk) 0)]) (λ_=>[]) [7,9,12,1000000] 4
   ⟨aaV _,bn,Z⟩ ce ce  trivial Z (dI Z Z (dI Z Z (dI Z Z (xF (λh=>absurd Z h) Z)))) Z ?_
  rintro i ⟨h4,hi,H⟩ ih;by_cases hi2:i<12;rotate_left
  ·obtain rfl:i=12:=(by omega);have hfr:eS (l.aS.drop 4) 4=12:=(by rw[H,afy ai];rfl);obtain⟨rfl,rfl⟩:=h7 hfr;clear ih EB h7 H;have V:decide (((12:Nat):Int)<12)=false:=(by decide);have c2:(((12:Nat):Int)==12)=true:=by decide
   repeat' (first|exact wr|refine wz ?_|(intro h;rw[h]))
  obtain⟨a,ha⟩:∃a,l.aS[i]?=some a:=⟨l.aS[i]' ai,cc⟩;rw[dK ha]at H;simp only[eS]at H;have lj:Nat.blt i 12=true:=by rw[afP];exact hi2
  have V:decide ((i:Int)<12)=true:=aaX ai;have c2:((i:Int)==12)=false:=by rw[agr];omega
  obtain⟨S,bX,cnt,⟨q1,q2⟩,⟨t1,t2⟩,cd,⟨k1,k2,k3,k4,k5,k6,k7⟩⟩:=a;obtain⟨qq,rd⟩:=WK (⟨l,Y,done,C,Q,[]⟩:Wk) 0 ha;have d0:=rd 0 _ Z;clear rd;by_cases h0:S=0
  ·rw[if_pos h0]at H;have E:(S != 0)=false:=(by simpa using h0);have n1:(bif decide ((i:Int)<12)then(S != 0)else false)=false:=(by rw[V,E];rfl);have n2:(bif true then(S != 0)else false)=false:=(by rw[E];rfl);obtain⟨Ll,em,V6,hmq,hres⟩:=EB i H hi2;clear ih EB h7 H;have M12:=qj (i:=i) (a:=⟨2,0,0,.mk G T,.mk B K,I,.mk P O M J D A q⟩) h12;have w0:=Ax ha (b:=⟨2,0,0,.mk G T,.mk B K,I,.mk P O M J D A q⟩) (k:=0) (cs:=[.c (ag 2),.c (ag 0),.c (ag 0),.c (ag G),.c (.sl 2 (az T)),.c (ag B),.c (.sl 2 (az K)),.c (.sl 5 (aD I)),.c (ag P),.c (ag O),.c (ag M),.c (.str J),.c (.sl 7 (aa D)),.c (.sl 2 (az A)),.c (.sl 5 (aD q))]) Z;rcases hres with ⟨hem,rfl,rfl⟩|⟨rfl,rfl,rfl⟩
   ·have e2:(rr != 0)=true:=by simpa using hem
    repeat' (first|exact wr|refine wz ?_|(intro h;rw[h]))
   have wm:bG 186 [.gY 124 0 1 (([]:L Int)++[(i:Int)]).length] (wB ⟨Ll,Y,done,C,Q,[]⟩ 0)=some (wB ⟨Ll,Y,done,C,Q,[]++[(i:Int)]⟩ 124):=CK ⟨Ll,Y,done,C,Q,[]⟩ 0 V6 5 [.gY 124 0 1 (([]:L Int)++[(i:Int)]).length] Z Z Z;have hmn:wO ⟨Ll,Y,done,C,Q,[]++[(i:Int)]⟩=some (bz (cM ([]++[(i:Int)]))):=rfl;clear FW
   repeat' (first|exact wr|refine wz ?_|refine ah.sV hX kn rfl rfl rfl rfl rfl rfl rfl rfl rfl rfl rfl rfl rfl rfl rfl rfl rfl rfl (λh=>by cases h) rfl rfl rfl (show(0+1)*8<=140737488355328 by decide) rfl (m:=1) rfl ?_|(intro h;rw[h]))
  rw[if_neg h0]at H;have E:(S != 0)=true:=by simpa using h0
  have n1:(bif decide ((i:Int)<12)then(S != 0)else false)=true:=by rw[V,E];rfl
  have n2:(bif true then(S != 0)else false)=true:=by rw[E];rfl
  have zV:=ih (i+1) ⟨ai,ai,H⟩ ai;clear ih EB h7 H
  repeat' (first|exact wr|refine wz ?_|(intro h;rw[h]))
  refine AK.again zV ⟨.inl (dY (i:=i) ai),.inl Z,.inl Z,.inl Z,.inl Z,.inl Z,.inl Z,trivial⟩ ce trivial Z (dI Z Z (dI Z Z (dI Z Z (xF (λh=>absurd Z h) Z)))) Z
 refine MG (show wO (⟨l,Y,done,C,Q,(u::W)⟩:Wk)=some (bz (cM (u::W)))from Z) func100 call100 λβ hf=>?_;have FW:=(show wO (⟨l,Y,done,C,Q,(u::W)⟩:Wk)=some (bz (cM (u::W)))from Z)
 repeat' (first|exact wr|refine wz ?_|(intro h;rw[h]))
 refine AK.dN (α:=Nat) (λi=>4<=i/\i<=12/\eS (l.aS.drop 4) 4=eS (l.aS.drop i) i) (λi=>12-i) (λi=>[(13,.c (ag (i:Nat))),(0,.ptr 1000000 0),(1,.c (ag fu)),(2,.c (.ip (V8 ⟨U,to,oZ,.mk a1 a2 a3 a4 a5,.mk b1 b2 b3 b4 b5,.mk V c2 c3 c4 c5,.mk d1 d2 d3 d4 I⟩))),(7,.ptr 7 0),(9,.ptr 9 0),(12,.ptr 12 0)]) (λ_=>[(7,[.c (ag G),.c (.sl 2 (az T))]),(9,[.c (ag B),.c (.sl 2 (az K))]),(12,[.c (ag P),.c (ag O),.c (ag M),.c (.str J),.c (.sl 7 (aa D)),.c (.sl 2 (az A)),.c (.sl 5 (aD q))]),(1000000,wB (⟨l,Y,done,C,Q,(u::W)⟩:Wk) 1000002),(1000002,(bz (cM (u::W))).map AV.c)]) (λ_=>[]) [7,9,12,1000000,1000002] 4
  ⟨aaV _,bn,Z⟩ ce ce  trivial Z (dI Z Z (dI Z Z (dI Z Z (xF (λ_=>rfl) (FH Z))))) Z ?_
 rintro i ⟨h4,hi,H⟩ ih;by_cases hi2:i<12;rotate_left
 ·obtain rfl:i=12:=by omega
  have hfr:eS (l.aS.drop 4) 4=12:=by rw[H,afy ai];rfl
  obtain⟨rfl,rfl⟩:=h7 hfr;clear ih EB h7 H;have V:decide (((12:Nat):Int)<12)=false:=by decide
  have c2:(((12:Nat):Int)==12)=true:=by decide
  repeat' (first|exact wr|refine wz ?_|(intro h;rw[h]))
 obtain⟨a,ha⟩:∃a,l.aS[i]?=some a:=⟨l.aS[i]' ai,cc⟩;rw[dK ha]at H;simp only[eS]at H;have lj:Nat.blt i 12=true:=by rw[afP];exact hi2
 have V:decide ((i:Int)<12)=true:=aaX ai;have c2:((i:Int)==12)=false:=by rw[agr];omega
 obtain⟨S,bX,cnt,⟨q1,q2⟩,⟨t1,t2⟩,cd,⟨k1,k2,k3,k4,k5,k6,k7⟩⟩:=a;obtain⟨qq,rd⟩:=WK (⟨l,Y,done,C,Q,(u::W)⟩:Wk) 1000002 ha;have d0:=rd 0 _ Z;clear rd;by_cases h0:S=0
 ·rw[if_pos h0]at H;have E:(S != 0)=false:=by simpa using h0
  have n1:(bif decide ((i:Int)<12)then(S != 0)else false)=false:=by rw[V,E];rfl
  have n2:(bif true then(S != 0)else false)=false:=by rw[E];rfl
  obtain⟨Ll,em,V6,hmq,hres⟩:=EB i H hi2;clear ih EB h7 H;have M12:=qj (i:=i) (a:=⟨2,0,0,.mk G T,.mk B K,I,.mk P O M J D A q⟩) h12;have w0:=Ax ha (b:=⟨2,0,0,.mk G T,.mk B K,I,.mk P O M J D A q⟩) (k:=0) (cs:=[.c (ag 2),.c (ag 0),.c (ag 0),.c (ag G),.c (.sl 2 (az T)),.c (ag B),.c (.sl 2 (az K)),.c (.sl 5 (aD I)),.c (ag P),.c (ag O),.c (ag M),.c (.str J),.c (.sl 7 (aa D)),.c (.sl 2 (az A)),.c (.sl 5 (aD q))]) Z;rcases hres with ⟨hem,rfl,rfl⟩|⟨rfl,rfl,rfl⟩
  ·have e2:(rr != 0)=true:=by simpa using hem
   repeat' (first|exact wr|refine wz ?_|(intro h;rw[h]))
  have wm:bG 186 [.gY 124 0 1 ((u::W)++[(i:Int)]).length] (wB ⟨Ll,Y,done,C,Q,(u::W)⟩ 1000002)=some (wB ⟨Ll,Y,done,C,Q,(u::W)++[(i:Int)]⟩ 124):=CK ⟨Ll,Y,done,C,Q,(u::W)⟩ 1000002 V6 5 [.gY 124 0 1 ((u::W)++[(i:Int)]).length] Z Z Z;have hmn:wO ⟨Ll,Y,done,C,Q,(u::W)++[(i:Int)]⟩=some (bz (cM ((u::W)++[(i:Int)]))):=rfl;clear FW
  repeat' (first|exact wr|refine wz ?_|refine ah.nA hX kn Z Z Z Z Z Z Z Z Z Z Z Z Z Z Z (cM (u::W)) [] (aeO _).symm cc (UB _) Z Z Z Z Z Z Z (by simp only[aeU,aag,aay]at hml ⊢;omega) (show cM (u::W)++[.int .i64 (i:Int)]=cM (u::W++[(i:Int)])by simp) (m:=(u::W++[(i:Int)]).length) cc Z ?_|(intro h;rw[h]))
 rw[if_neg h0]at H;have E:(S != 0)=true:=by simpa using h0
 have n1:(bif decide ((i:Int)<12)then(S != 0)else false)=true:=by rw[V,E];rfl
 have n2:(bif true then(S != 0)else false)=true:=by rw[E];rfl
 have zV:=ih (i+1) ⟨ai,ai,H⟩ ai;clear ih EB h7 H
 repeat' (first|exact wr|refine wz ?_|(intro h;rw[h]))
 refine AK.again zV ⟨.inl (dY (i:=i) ai),.inl Z,.inl Z,.inl Z,.inl Z,.inl Z,.inl Z,trivial⟩ ce trivial Z (dI Z Z (dI Z Z (dI Z Z (xF (λ_=>rfl) (FH Z))))) Z
end Go.Proofs
