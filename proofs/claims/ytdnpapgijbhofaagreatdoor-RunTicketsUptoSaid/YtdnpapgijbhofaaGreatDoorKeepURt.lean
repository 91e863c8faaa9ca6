/- RunTickets of package touchstonekeep: -/
import Derived.Test.YtdnpapgijbhofaaGreatDoorKeepSRt
open Go.IntKind
open Go.Proofs.Tryz
set_option linter.defProp false
set_option linter.unusedVariables false
set_option linter.unusedSimpArgs false
set_option maxHeartbeats 0
set_option maxRecDepth 100000
namespace Go.Proofs
open Go.cB
abbrev tt:Int->Ty->Vl->Bool:=λ_ _ _=>true
mutual
def jD:Vl->Ty->Bool
 |.mk k n a s args types H,t =>
  if cq t=15 then decide (n<=1073741824)
  else if cq t=9\/cq t=10 then iR args (aG t 0)
  else if cq t=11 then GP args (aK t)
  else if cq t=12 then iR args (aG t n.toNat)
  else if cq t=13 then iR args (.mk 11 (aK t))
  else if cq t=8 then iR args (types.getD 0 iY)
  else true
def iR:L Vl->Ty->Bool
 |[],_=>true
 |x::l,t=>jD x t&&iR l t
def GP:L Vl->L Ty->Bool
 |x::l,t::r=>jD x t&&GP l r
 |_,_=>true
end
mutual
def RQ:∀(v:Vl)(t:Ty),jD v t=true->wT tt v t<=1073741824*aE v
 |.mk k n a s args types H,t,h=>by have I:=λt=>RR args t;have Y:=λr=>RS args r;unfold jD at h;unfold wT;simp only[aE];split at h;rename_i c;have:=abd h;rw[if_pos c,if_pos trivial];omega;rename_i c;rw[if_neg c];split at h;rename_i c;rw[if_pos c];have:=I _ h;omega;rename_i c;rw[if_neg c];split at h;rename_i c;rw[if_pos c];have:=Y _ h;omega;rename_i c;rw[if_neg c];split at h;rename_i c;rw[if_pos c];have:=I _ h;omega;rename_i c;rw[if_neg c];split at h;rename_i c;rw[if_pos c];have:=I _ h;omega;rename_i c;rw[if_neg c];split at h;rename_i c;rw[if_pos c];have:=I _ h;omega;rename_i c;rw[if_neg c];omega
def RR:∀(l:L Vl)(t:Ty),iR l t=true->eW tt l t<=1073741824*aB l
 |[],_,_=>abG _
 |x::l,t,h=>by simp only[iR,aak]at h;have h1:=RQ x t h.1;have h2:=RR l t h.2;simp only[eW,aB];omega
def RS:∀(l:L Vl)(r:L Ty),GP l r=true->cr tt l r<=1073741824*aB l
 |[],_,_=>by simp[cr]
 |_::_,[],_=>by simp[cr]
 |x::l,t::r,h=>by simp only[GP,aak]at h;have h1:=RQ x t h.1;have h2:=RS l r h.2;simp only[cr,aB];omega
end
def Ok{v:Vl}{ts:L Ty}(h:bz v (.mk 8 ts)=true)(C:ey v=true):∃n a t y,v = .mk 8 n a [] [y] [t] []/\bg t=true/\bz y t=true/\ey y=true:=by obtain⟨k,n,a,s,args,types,H⟩:=v;obtain⟨E,D,_⟩:=jt h;simp only[cq]at E;subst E;simp[bX]at D;obtain⟨h1,rfl,rfl⟩:=D;obtain⟨t,rfl⟩:=List.length_eq_one_iff.1 h1;simp[bz,bX,cq]at h;obtain⟨h2,U⟩:=h;obtain⟨y,rfl⟩:=List.length_eq_one_iff.1 h2.1.2.2.2.2;simp[aJ]at U;simp[ey,ee]at C;exact⟨n,a,t,y,rfl,h2.2,U,C⟩
def JD{t:Ty}{l:L Vl}(Q:bg t=true)(h:aJ l t=true)(C:ee l=true):∀x∈l,iK t x=true:=λx O=>dJ Q ⟨(dM _ l).1 h x O,pI C O⟩
def Ol{v:Vl}{T:Int}{ts:L Ty}(q:T≠8/\T≠9/\T≠10/\T≠11/\T≠12/\T≠13/\T≠15)(h:bz v (.mk T ts)=true):di v=[]:=by
 obtain⟨k,n,a,s,args,types,H⟩:=v;obtain⟨E,D,_⟩:=jt h;simp only[cq]at E;subst E;show args=[];obtain⟨P,O,W,V,U,S,Q⟩:=q;by_cases Y:k=14;subst Y;simp[bX]at D;exact D.2.2.2.2;unfold bz at h;rw[if_neg (by rw[D];simp[cq];omega)]at h;rw[if_neg O,if_neg W,if_neg V,if_neg U,if_neg S,if_neg Y,if_neg Q,if_neg P]at h
 repeat' split at h
 all_goals first|(cases h;done)|(have:=abd h;exact List.length_eq_zero_iff.1 bn)
def RT{T:Int}{ts:L Ty}{v:Vl}(vv:T=9\/T=10)(Q:bg (.mk T ts)=true)(S:bz v (.mk T ts)=true)(C:ey v=true):∃q l,ts=[q]/\v = .mk T 0 0 [] l [] []/\∀x∈l,iK q x=true:=by
 rcases vv with rfl|rfl
 ·obtain⟨q,rfl,_⟩:=cO (bl Q) cc;rcases yo S C with rfl|⟨x,rfl,O⟩
  exact⟨q,[],Z,Z,λx O=>by simp at O⟩;exact⟨q,[x],Z,Z,λy G=>by rw[List.mem_singleton.1 G];exact dJ (er Q _ c9) O⟩
 obtain⟨q,rfl,_⟩:=cO (bl Q) cc;obtain⟨l,rfl,_,h1,h2⟩:=nU S C;exact⟨q,l,Z,Z,JD (er Q _ c9) h1 h2⟩
def zV{φ:Int->Ty->Vl->Bool}{x:Vl}{l:L Vl}{t:Ty}:eW φ (x::l) t=wT φ x t+eW φ l t:=rfl
def L8{a b:Nat}(h:a+b<=4611686018427387904):some (AV.c (CV.int .i64 (i64.wrap ((a:Int)+(b:Int)))))=some (AV.c (CV.int .i64 ((a+b:Nat):Int))):=by rw[gM bn bn];rfl
def CL{φ:Int->Ty->Vl->Bool}{t:Ty}:eW φ [] t=0:=rfl
def CM{φ:Int->Ty->Vl->Bool}{t:Ty}:∀{l:L Vl}{x:Vl},x∈l->wT φ x t<=eW φ l t
 |y::l,x,h=>by
  simp only[eW];rcases List.mem_cons.1 h with rfl|h
  omega;have:=CM (φ:=φ) (t:=t) h;omega
def U4{φ:Int->Ty->Vl->Bool}{n a:Int}{x:Vl}{t:Ty}{ts:L Ty}:wT φ (.mk 8 n a [] [x] [t] []) (.mk 8 ts)=wT φ x t:=RU
def oW{x:Vl}{l:L Vl}{t:Ty}:iR (x::l) t=(jD x t&&iR l t):=by rw[iR]
def rO{t:Ty}:iR [] t=true:=by rw[iR]
def uq(v:Vl)(t:Ty):jD v t=(if cq t=15 then decide (vN v<=1073741824)
  else if cq t=9\/cq t=10 then iR (di v) (aG t 0)
  else if cq t=11 then GP (di v) (aK t)
  else if cq t=12 then iR (di v) (aG t (vN v).toNat)
  else if cq t=13 then iR (di v) (.mk 11 (aK t))
  else if cq t=8 then iR (di v) ((GQ v).getD 0 iY)
  else true):=by cases v;rw[jD];rfl
def RV{x y:Vl}{t u:Ty}:GP [x,y] [t,u]=(jD x t&&jD y u):=by simp[GP]
attribute [local irreducible] AK ai aR bW dR dG wT eW cr jD iR GP iK
def lT:∀(k:Nat),k<=8589934593->∀(v:Vl)(t:Ty),aE v<=k->iK t v=true->wT tt v t<=4611686018427387904->af 39 [dA t,bA v] (aA (wT tt v t:Nat))
 |0,_,.mk ..,_,hv,_,_=>by simp only[aE]at hv;omega
 |k+1,hk,v,.mk T ts,hv,hf,hb=>by
  obtain⟨Q,S,C⟩:=bO hf;by_cases Er:T=15;subst Er;obtain⟨Y,rfl,_⟩:=cO (bl Q) cc;obtain⟨n,a,x,rfl,hn,_⟩:=mj S C;rw[show wT tt (.mk 15 n a [] [x] [] []) (.mk 15 [Y])=n.toNat from by rw[GS];rfl,Int.toNat_of_nonneg bn];exact qdw func39 call39;by_cases c8:T=8;subst c8;obtain⟨n,a,Y,y,rfl,hgt,G⟩:=Ok S C;simp only[aE,aB]at hv;rw[U4]at hb ⊢;have hq:=lT k bn y Y bn (dJ hgt G) hb;obtain⟨u,P⟩:=Y;obtain⟨K,J,p,B,I,H,E⟩:=y;exact qdw func39 call39;by_cases Eo:T=12;subst Eo;obtain⟨⟨u,P⟩,⟨M,sB⟩,rfl,_⟩:=cJ (bl Q) cc;obtain⟨y,⟨rfl,G⟩|⟨rfl,G⟩,U5⟩:=GK S C;simp only[aE,aB]at hv;rw[RA]at hb ⊢;have hq:=lT k bn y _ bn (dJ (er Q _ c9) ⟨G,U5⟩) hb;obtain⟨K,J,p,B,I,H,E⟩:=y;exact qdw func39 call39;simp only[aE,aB]at hv;rw[RB]at hb ⊢;have hq:=lT k bn y _ bn (dJ (er Q _ c9) ⟨G,U5⟩) hb;obtain⟨K,J,p,B,I,H,E⟩:=y;exact qdw func39 call39;by_cases vv:T=9\/T=10
  ·obtain⟨Y,l,rfl,rfl,hl⟩:=RT vv Q S C;have e:wT tt (.mk T 0 0 [] l [] []) (.mk T [Y])=eW tt l Y:=(by rw[rP];rcases vv with rfl|rfl<;>rfl);rw[e]at hb ⊢;simp only[aE]at hv;have N:∀x∈l,af 39 [dA Y,bA x] (aA (wT tt x Y:Nat)):=λx O=>lT k bn x Y Xi (hl x O) (by have:=CM (φ:=tt) (t:=Y) O;omega);have Cf:=ga l;clear e hl S C hf Q;obtain⟨u,P⟩:=Y;rcases vv with rfl|rfl
   ·refine qn func39 call39 λβ hf=>?_
    repeat' (first|refine kW ?_|refine zc ?_ ?_|(intro h;first|(cases h;done)|rw[h]|skip))
    refine AK.dI (α:=Nat×Nat) (λz=>z.1<=l.length/\eW tt l (.mk u P)=z.2+eW tt (l.drop z.1) (.mk u P)) (λz=>l.length-z.1)
     (λz=>[(24,.c (.int .i64 z.1)),(23,.c (.int .i64 (aa l).length)),(22,.c (.sl 7 (aa l))),(5,.c (.int .i64 z.2)),(2,.ptr 2 0)])
     (λ_=>[(2,[.c (.int .i64 9),.c (.sl 2 (aj [.mk u P]))])]) (λ_=>[]) [2] (0,0)
     ⟨bn,Ui⟩ ce ⟨Z,trivial⟩ trivial Z Z Z ?_
    rintro⟨i,m⟩ ⟨W,U⟩ ih;simp only at W U;rcases eI l i W with ⟨x,O,hm⟩|A
    ·have hc:=mh O;have hq:=N x hm;have h2:=bh O;rw[cQ O,zV]at U;generalize wT tt x (.mk u P)=q at hq U;obtain⟨x1,x2,x3,x4,x5,x6,x7⟩:=x
     repeat' (first|refine kW ?_|refine zc ?_ ?_|(intro h;first|(cases h;done)|rw[h]|skip)|refine uI Z (i) Z (cY O) Z ?_|refine uI Z (0) Z (Z) Z ?_|refine uC Z hq ?_)
     refine AK.again (ih (i+1,m+q) ⟨h2,wQ⟩ nu) ⟨.inl (ff bn),.inl Z,.inl Z,.inl (L8 (a:=m) (b:=q) bn),.inl Z,trivial⟩ ⟨Z,trivial⟩ trivial Z Z Z
    have hc:=jK A;have h0:eW tt l (.mk u P)=m:=(by rw[U,A,aaW,CL,abI]);clear ih;rw[h0];exact dw
   refine qn func39 call39 λβ hf=>?_
   repeat' (first|refine kW ?_|refine zc ?_ ?_|(intro h;first|(cases h;done)|rw[h]|skip))
   refine AK.dI (α:=Nat×Nat) (λz=>z.1<=l.length/\eW tt l (.mk u P)=z.2+eW tt (l.drop z.1) (.mk u P)) (λz=>l.length-z.1)
    (λz=>[(24,.c (.int .i64 z.1)),(23,.c (.int .i64 (aa l).length)),(22,.c (.sl 7 (aa l))),(5,.c (.int .i64 z.2)),(2,.ptr 2 0)])
    (λ_=>[(2,[.c (.int .i64 10),.c (.sl 2 (aj [.mk u P]))])]) (λ_=>[]) [2] (0,0)
    ⟨bn,Ui⟩ ce ⟨Z,trivial⟩ trivial Z Z Z ?_
   rintro⟨i,m⟩ ⟨W,U⟩ ih;simp only at W U;rcases eI l i W with ⟨x,O,hm⟩|A
   ·have hc:=mh O;have hq:=N x hm;have h2:=bh O;rw[cQ O,zV]at U;generalize wT tt x (.mk u P)=q at hq U;obtain⟨x1,x2,x3,x4,x5,x6,x7⟩:=x
    repeat' (first|refine kW ?_|refine zc ?_ ?_|(intro h;first|(cases h;done)|rw[h]|skip)|refine uI Z (i) Z (cY O) Z ?_|refine uI Z (0) Z (Z) Z ?_|refine uC Z hq ?_)
    refine AK.again (ih (i+1,m+q) ⟨h2,wQ⟩ nu) ⟨.inl (ff bn),.inl Z,.inl Z,.inl (L8 (a:=m) (b:=q) bn),.inl Z,trivial⟩ ⟨Z,trivial⟩ trivial Z Z Z
   have hc:=jK A;have h0:eW tt l (.mk u P)=m:=(by rw[U,A,aaW,CL,abI]);clear ih;rw[h0];exact dw
  by_cases En:T=11
  ·subst En;obtain⟨Y,V,rfl,_⟩:=cJ (bl Q) cc;obtain⟨y,z,rfl,G,hz⟩:=lg S C;simp only[aY,aE,aB]at hv;rw[sP]at hb ⊢;have RW:=lT k bn y Y bn (dJ (er Q _ c9) G) bn;have QB:=lT k bn z V bn (dJ (er Q _ c9) hz) bn;generalize wT tt y Y=D at *;generalize wT tt z V=m2 at *;clear hf Q S C G hz;obtain⟨u,P⟩:=Y;obtain⟨M,sB⟩:=V;obtain⟨K,J,p,B,I,H,E⟩:=y;obtain⟨z1,z2,z3,z4,z5,z6,z7⟩:=z;have e0:decide (((0:Nat):Int)<((2:Nat):Int))=true:=(by decide);have e1:decide (((1:Nat):Int)<((2:Nat):Int))=true:=(by decide);have e2:decide (((2:Nat):Int)<((2:Nat):Int))=false:=(by decide);refine qn func39 call39 λβ hf=>?_
   repeat' (first|refine kW ?_|refine zc ?_ ?_|(intro h;first|(cases h;done)|rw[h]|skip))
   refine AK.dI (α:=Nat×Nat) (λz=>z=(0,0)\/z=(1,D)\/z=(2,D+m2)) (λz=>2-z.1)
    (λz=>[(42,.c (.int .i64 z.1)),(41,.c (.int .i64 ((2:Nat):Int))),(40,.c (.sl 7 (aa [.mk K J p B I H E,.mk z1 z2 z3 z4 z5 z6 z7]))),(5,.c (.int .i64 z.2)),(2,.ptr 2 0)])
    (λ_=>[(2,[.c (.int .i64 11),.c (.sl 2 (aj [.mk u P,.mk M sB]))])]) (λ_=>[]) [2] (0,0)
    (.inl Z) ce ⟨Z,trivial⟩ trivial Z Z Z ?_
   rintro⟨i,m⟩ W ih;rcases W with W|W|W
   ·cases W
    repeat' (first|refine kW ?_|refine zc ?_ ?_|(intro h;first|(cases h;done)|rw[h]|skip)|refine uI Z (0) Z (Z) Z ?_|refine uC Z RW ?_)
    refine AK.again (ih (1,D) (.inr (.inl Z)) (by show 2-1<2-0;omega)) ⟨.inl (ff (i:=0) bn),.inl Z,.inl Z,.inl ((L8 (a:=0) (b:=D) bn).trans (by rw[abi])),.inl Z,trivial⟩ ⟨Z,trivial⟩ trivial Z Z Z
   ·cases W
    repeat' (first|refine kW ?_|refine zc ?_ ?_|(intro h;first|(cases h;done)|rw[h]|skip)|refine uI Z (1) Z (Z) Z ?_|refine uC Z QB ?_)
    refine AK.again (ih (2,D+m2) (.inr (.inr Z)) (by show 2-2<2-1;omega)) ⟨.inl (ff (i:=1) bn),.inl Z,.inl Z,.inl (L8 (a:=D) (b:=m2) bn),.inl Z,trivial⟩ ⟨Z,trivial⟩ trivial Z Z Z
   cases W;clear ih;exact dw
  by_cases Ep:T=13
  ·subst Ep;obtain⟨Y,V,rfl,_⟩:=cJ (bl Q) cc;have IU:=GU Q;obtain⟨l,rfl,_,h1,_,h2⟩:=qu S C;have e:wT tt (.mk 13 0 0 [] l [] []) (.mk 13 [Y,V])=eW tt l (.mk 11 [Y,V]):=Jt;rw[e]at hb ⊢;simp only[aE]at hv;have N:∀x∈l,∃y z,x=aY y z/\af 39 [dA V,bA z] (aA (wT tt x (.mk 11 [Y,V]):Nat)):=λx O=>by have hwm:=CM (φ:=tt) (t := .mk 11 [Y,V]) O;have W3:=cI O;obtain⟨y,z,rfl,⟨G,_⟩,hz⟩:=lg ((dM _ l).1 h1 x O) (pI h2 O);rw[sP,RY IU.1,abi]at hwm ⊢;simp only[aY,aE,aB]at W3;exact⟨y,z,Z,lT k bn z V bn (dJ (er Q _ c9) hz) bn⟩
   have Cf:=ga l;clear e S C hf Q IU h1 h2;obtain⟨u,P⟩:=Y;obtain⟨M,sB⟩:=V;refine qn func39 call39 λβ hf=>?_
   repeat' (first|refine kW ?_|refine zc ?_ ?_|(intro h;first|(cases h;done)|rw[h]|skip))
   refine AK.dI (α:=Nat×Nat) (λz=>z.1<=l.length/\eW tt l (.mk 11 [.mk u P,.mk M sB])=z.2+eW tt (l.drop z.1) (.mk 11 [.mk u P,.mk M sB])) (λz=>l.length-z.1)
    (λz=>[(75,.c (.int .i64 z.1)),(74,.c (.int .i64 (aa l).length)),(73,.c (.sl 7 (aa l))),(5,.c (.int .i64 z.2)),(2,.ptr 2 0)])
    (λ_=>[(2,[.c (.int .i64 13),.c (.sl 2 (aj [.mk u P,.mk M sB]))])]) (λ_=>[]) [2] (0,0)
    ⟨bn,Ui⟩ ce ⟨Z,trivial⟩ trivial Z Z Z ?_
   rintro⟨i,m⟩ ⟨W,U⟩ ih;simp only at W U;rcases eI l i W with ⟨x,O,hm⟩|A
   ·have hc:=mh O;obtain⟨y,z,rfl,hq⟩:=N x hm;have h2:=bh O;rw[cQ O,zV]at U;generalize wT tt (aY y z) (.mk 11 [.mk u P,.mk M sB])=q at hq U;obtain⟨K,J,p,B,I,H,E⟩:=y;obtain⟨z1,z2,z3,z4,z5,z6,z7⟩:=z;have hx':(aa l)[i]?=some (bA (.mk 11 0 0 [] [.mk K J p B I H E,.mk z1 z2 z3 z4 z5 z6 z7] [] [])):=cY O
    repeat' (first|refine kW ?_|refine zc ?_ ?_|(intro h;first|(cases h;done)|rw[h]|skip)|refine uI Z (i) Z (hx') Z ?_|refine uI Z (1) Z (Z) Z ?_|refine uC Z hq ?_)
    refine AK.again (ih (i+1,m+q) ⟨h2,wQ⟩ nu) ⟨.inl (ff bn),.inl Z,.inl Z,.inl (L8 (a:=m) (b:=q) bn),.inl Z,trivial⟩ ⟨Z,trivial⟩ trivial Z Z Z
   have hc:=jK A;have h0:eW tt l (.mk 11 [.mk u P,.mk M sB])=m:=(by rw[U,A,aaW,CL,abI]);clear ih;rw[h0];exact dw
  have ez:wT tt v (.mk T ts)=0:=by rw[rP];have hA:=Ol ⟨c8,λh=>vv (.inl h),λh=>vv (.inr h),En,Eo,Ep,Er⟩ S;simp only[cq,Er,En,Eo,Ep,c8,acd];rw[if_neg vv]
  rw[ez];obtain⟨K,J,p,B,I,H,E⟩:=v;have e1:(T==15)=false:=by simpa using Er
  have e2:(T==9)=false:=by simpa using λh=>vv (.inl h)
  have e3:(T==10)=false:=by simpa using λh=>vv (.inr h)
  have e4:(T==11)=false:=by simpa using En
  have e5:(T==12)=false:=by simpa using Eo
  have e6:(T==13)=false:=by simpa using Ep
  have e7:(T==8)=false:=by simpa using c8
  clear hf Q S C;exact qdw func39 call39
def A0(v:Vl)(t:Ty)(hf:iK t v=true)(q:aE v<=8589934593)(A:wT tt v t<=4611686018427387904):af 39 [dA t,bA v] (aA (wT tt v t:Nat)):=lT _ q v t (aal _) hf A
def nX:∀(k:Nat),k<=8589934593->∀(v:Vl)(t:Ty),aE v<=k->iK t v=true->af 38 [dA t,bA v] (.bool (jD v t))
 |0,_,.mk ..,_,hv,_=>by simp only[aE]at hv;omega
 |k+1,hk,v,.mk T ts,hv,hf=>by
  obtain⟨Q,N,C⟩:=bO hf;by_cases Er:T=15;subst Er;obtain⟨q,rfl,_⟩:=cO (bl Q) cc;obtain⟨n,a,x,rfl,hn,_⟩:=mj N C;rw[show jD (.mk 15 n a [] [x] [] []) (.mk 15 [q])=decide (n<=1073741824)from by rw[uq];rfl];exact qdw func38 call38;by_cases c8:T=8
  ·subst c8;obtain⟨n,a,q,y,rfl,hgt,M⟩:=Ok N C;simp only[aE,aB]at hv;rw[show jD (.mk 8 n a [] [y] [q] []) (.mk 8 ts)=iR [y] q from by rw[uq];rfl];have Y:∀x∈[y],af 38 [dA q,bA x] (.bool (jD x q)):=λx O=>by obtain rfl:=List.mem_singleton.1 O;exact nX k bn x q bn (dJ hgt M)
   have Cf:[y].length<=1:=aal _;clear hf Q N C M hgt hv;generalize [y]=l at *;obtain⟨u,P⟩:=q;refine qn func38 call38 λβ hf=>?_
   repeat' (first|refine kW ?_|refine zc ?_ ?_|(intro h;first|(cases h;done)|rw[h]|skip))
   refine AK.dI (α:=Nat) (λi=>i<=(l).length/\iR (l) (.mk u P)=iR ((l).drop i) (.mk u P)) (λi=>(l).length-i)
    (λi=>[(17,.c (.int .i64 i)),(16,.c (.int .i64 (aa (l)).length)),(15,.c (.sl 7 (aa (l)))),(2,.ptr 2 0),(3,.ptr 3 0)])
    (λ_=>[(2,[.c (.int .i64 8),.c (.sl 2 (aj ts))]),(3,[.c (.int .i64 8),.c (.int .i64 n),.c (.int .i64 a),.c (.str []),.c (.sl 7 (aa (l))),.c (.sl 2 (aj [.mk u P])),.c (.sl 5 (aD []))])]) (λ_=>[]) [2,3] 0
    ⟨bn,Z⟩ ce ⟨Z,Z,trivial⟩ trivial Z Z Z ?_
   rintro i ⟨E,U⟩ S;rcases eI (l) i E with ⟨x,O,K⟩|A
   ·have D:=mh O;have hq:=Y x K;have h2:=bh O;rw[cQ O,oW]at U;cases V:jD x (.mk u P)with
    |false =>
     rw[V]at hq U;rw[abn]at U;rw[U];obtain⟨J,B,I,H,p,x6,x7⟩:=x;clear S;have wq:=cY O;exact dw
    |true =>
     rw[V]at hq U;rw[abq]at U;obtain⟨J,B,I,H,p,x6,x7⟩:=x
     repeat' (first|refine kW ?_|refine zc ?_ ?_|(intro h;first|(cases h;done)|rw[h]|skip)|refine uI Z (i) Z (cY O) Z ?_|refine uC Z hq ?_|refine uI Z (0) Z (Z) Z ?_)
     exact aaJ
   have D:=jK A;have h0:iR (l) (.mk u P)=true:=(by rw[U,A,aaW,rO]);clear S;rw[h0];exact dw
  by_cases Eo:T=12
  ·subst Eo;obtain⟨q,W,rfl,_⟩:=cJ (bl Q) cc;obtain⟨y,⟨rfl,M⟩|⟨rfl,M⟩,U5⟩:=GK N C
   ·simp only[aE,aB]at hv;rw[show jD (.mk 12 0 0 [] [y] [] []) (.mk 12 [q,W])=iR [y] q from by rw[uq];rfl];have Y:∀x∈[y],af 38 [dA q,bA x] (.bool (jD x q)):=λx O=>by obtain rfl:=List.mem_singleton.1 O;exact nX k bn x q bn (dJ (er Q _ c9) ⟨M,U5⟩)
    have Cf:[y].length<=1:=aal _;clear hf Q N C M U5 hv;generalize [y]=l at *;obtain⟨u,P⟩:=q;obtain⟨G,sB⟩:=W;refine qn func38 call38 λβ hf=>?_
    repeat' (first|refine kW ?_|refine zc ?_ ?_|(intro h;first|(cases h;done)|rw[h]|skip))
    refine AK.dI (α:=Nat) (λi=>i<=(l).length/\iR (l) (.mk u P)=iR ((l).drop i) (.mk u P)) (λi=>(l).length-i)
     (λi=>[(17,.c (.int .i64 i)),(16,.c (.int .i64 (aa (l)).length)),(15,.c (.sl 7 (aa (l)))),(2,.ptr 2 0),(3,.ptr 3 0)])
     (λ_=>[(2,[.c (.int .i64 12),.c (.sl 2 (aj [.mk u P,.mk G sB]))]),(3,[.c (.int .i64 12),.c (.int .i64 0),.c (.int .i64 0),.c (.str []),.c (.sl 7 (aa (l))),.c (.sl 2 (aj [])),.c (.sl 5 (aD []))])]) (λ_=>[]) [2,3] 0
     ⟨bn,Z⟩ ce ⟨Z,Z,trivial⟩ trivial Z Z Z ?_
    rintro i ⟨E,U⟩ S;rcases eI (l) i E with ⟨x,O,K⟩|A
    ·have D:=mh O;have hq:=Y x K;have h2:=bh O;rw[cQ O,oW]at U;cases V:jD x (.mk u P)with
     |false =>
      rw[V]at hq U;rw[abn]at U;rw[U];obtain⟨J,B,I,H,p,x6,x7⟩:=x;clear S;have Eu:=cY O;exact dw
     |true =>
      rw[V]at hq U;rw[abq]at U;obtain⟨J,B,I,H,p,x6,x7⟩:=x
      repeat' (first|refine kW ?_|refine zc ?_ ?_|(intro h;first|(cases h;done)|rw[h]|skip)|refine uI Z (i) Z (cY O) Z ?_|refine uC Z hq ?_|refine uI Z (0) Z (Z) Z ?_|refine uI Z (1) Z (Z) Z ?_)
      exact aaJ
    have D:=jK A;have h0:iR (l) (.mk u P)=true:=(by rw[U,A,aaW,rO]);clear S;rw[h0];exact dw
   simp only[aE,aB]at hv;rw[show jD (.mk 12 1 0 [] [y] [] []) (.mk 12 [q,W])=iR [y] W from by rw[uq];rfl];have Y:∀x∈[y],af 38 [dA W,bA x] (.bool (jD x W)):=λx O=>by obtain rfl:=List.mem_singleton.1 O;exact nX k bn x W bn (dJ (er Q _ c9) ⟨M,U5⟩)
   have Cf:[y].length<=1:=aal _;clear hf Q N C M U5 hv;generalize [y]=l at *;obtain⟨u,P⟩:=q;obtain⟨G,sB⟩:=W;refine qn func38 call38 λβ hf=>?_
   repeat' (first|refine kW ?_|refine zc ?_ ?_|(intro h;first|(cases h;done)|rw[h]|skip))
   refine AK.dI (α:=Nat) (λi=>i<=(l).length/\iR (l) (.mk G sB)=iR ((l).drop i) (.mk G sB)) (λi=>(l).length-i)
    (λi=>[(17,.c (.int .i64 i)),(16,.c (.int .i64 (aa (l)).length)),(15,.c (.sl 7 (aa (l)))),(2,.ptr 2 0),(3,.ptr 3 0)])
    (λ_=>[(2,[.c (.int .i64 12),.c (.sl 2 (aj [.mk u P,.mk G sB]))]),(3,[.c (.int .i64 12),.c (.int .i64 1),.c (.int .i64 0),.c (.str []),.c (.sl 7 (aa (l))),.c (.sl 2 (aj [])),.c (.sl 5 (aD []))])]) (λ_=>[]) [2,3] 0
    ⟨bn,Z⟩ ce ⟨Z,Z,trivial⟩ trivial Z Z Z ?_
   rintro i ⟨E,U⟩ S;rcases eI (l) i E with ⟨x,O,K⟩|A
   ·have D:=mh O;have hq:=Y x K;have h2:=bh O;rw[cQ O,oW]at U;cases V:jD x (.mk G sB)with
    |false =>
     rw[V]at hq U;rw[abn]at U;rw[U];obtain⟨J,B,I,H,p,x6,x7⟩:=x;clear S;have LL:=cY O;exact dw
    |true =>
     rw[V]at hq U;rw[abq]at U;obtain⟨J,B,I,H,p,x6,x7⟩:=x
     repeat' (first|refine kW ?_|refine zc ?_ ?_|(intro h;first|(cases h;done)|rw[h]|skip)|refine uI Z (i) Z (cY O) Z ?_|refine uC Z hq ?_|refine uI Z (0) Z (Z) Z ?_|refine uI Z (1) Z (Z) Z ?_)
     exact aaJ
   have D:=jK A;have h0:iR (l) (.mk G sB)=true:=(by rw[U,A,aaW,rO]);clear S;rw[h0];exact dw
  by_cases vv:T=9\/T=10
  ·obtain⟨q,l,rfl,rfl,hl⟩:=RT vv Q N C;rw[show jD (.mk T 0 0 [] l [] []) (.mk T [q])=iR l q from by rw[uq];rcases vv with rfl|rfl<;>rfl];simp only[aE]at hv;have Y:∀x∈l,af 38 [dA q,bA x] (.bool (jD x q)):=λx O=>nX k bn x q Xi (hl x O);have Cf:=ga l;clear hl N C hf Q;obtain⟨u,P⟩:=q;rcases vv with rfl|rfl
   ·refine qn func38 call38 λβ hf=>?_
    repeat' (first|refine kW ?_|refine zc ?_ ?_|(intro h;first|(cases h;done)|rw[h]|skip))
    refine AK.dI (α:=Nat) (λi=>i<=(l).length/\iR (l) (.mk u P)=iR ((l).drop i) (.mk u P)) (λi=>(l).length-i)
     (λi=>[(17,.c (.int .i64 i)),(16,.c (.int .i64 (aa (l)).length)),(15,.c (.sl 7 (aa (l)))),(2,.ptr 2 0),(3,.ptr 3 0)])
     (λ_=>[(2,[.c (.int .i64 9),.c (.sl 2 (aj [.mk u P]))]),(3,[.c (.int .i64 9),.c (.int .i64 0),.c (.int .i64 0),.c (.str []),.c (.sl 7 (aa (l))),.c (.sl 2 (aj [])),.c (.sl 5 (aD []))])]) (λ_=>[]) [2,3] 0
     ⟨bn,Z⟩ ce ⟨Z,Z,trivial⟩ trivial Z Z Z ?_
    rintro i ⟨E,U⟩ S;rcases eI (l) i E with ⟨x,O,K⟩|A
    ·have D:=mh O;have hq:=Y x K;have h2:=bh O;rw[cQ O,oW]at U;cases V:jD x (.mk u P)with
     |false =>
      rw[V]at hq U;rw[abn]at U;rw[U];obtain⟨J,B,I,H,p,x6,x7⟩:=x;clear S;have QV:=cY O;exact dw
     |true =>
      rw[V]at hq U;rw[abq]at U;obtain⟨J,B,I,H,p,x6,x7⟩:=x
      repeat' (first|refine kW ?_|refine zc ?_ ?_|(intro h;first|(cases h;done)|rw[h]|skip)|refine uI Z (i) Z (cY O) Z ?_|refine uC Z hq ?_|refine uI Z (0) Z (Z) Z ?_)
      exact aaJ
    have D:=jK A;have h0:iR (l) (.mk u P)=true:=(by rw[U,A,aaW,rO]);clear S;rw[h0];exact dw
   refine qn func38 call38 λβ hf=>?_
   repeat' (first|refine kW ?_|refine zc ?_ ?_|(intro h;first|(cases h;done)|rw[h]|skip))
   refine AK.dI (α:=Nat) (λi=>i<=(l).length/\iR (l) (.mk u P)=iR ((l).drop i) (.mk u P)) (λi=>(l).length-i)
    (λi=>[(17,.c (.int .i64 i)),(16,.c (.int .i64 (aa (l)).length)),(15,.c (.sl 7 (aa (l)))),(2,.ptr 2 0),(3,.ptr 3 0)])
    (λ_=>[(2,[.c (.int .i64 10),.c (.sl 2 (aj [.mk u P]))]),(3,[.c (.int .i64 10),.c (.int .i64 0),.c (.int .i64 0),.c (.str []),.c (.sl 7 (aa (l))),.c (.sl 2 (aj [])),.c (.sl 5 (aD []))])]) (λ_=>[]) [2,3] 0
    ⟨bn,Z⟩ ce ⟨Z,Z,trivial⟩ trivial Z Z Z ?_
   rintro i ⟨E,U⟩ S;rcases eI (l) i E with ⟨x,O,K⟩|A
   ·have D:=mh O;have hq:=Y x K;have h2:=bh O;rw[cQ O,oW]at U;cases V:jD x (.mk u P)with
    |false =>
     rw[V]at hq U;rw[abn]at U;rw[U];obtain⟨J,B,I,H,p,x6,x7⟩:=x;clear S;have QW:=cY O;exact dw
    |true =>
     rw[V]at hq U;rw[abq]at U;obtain⟨J,B,I,H,p,x6,x7⟩:=x
     repeat' (first|refine kW ?_|refine zc ?_ ?_|(intro h;first|(cases h;done)|rw[h]|skip)|refine uI Z (i) Z (cY O) Z ?_|refine uC Z hq ?_|refine uI Z (0) Z (Z) Z ?_)
     exact aaJ
   have D:=jK A;have h0:iR (l) (.mk u P)=true:=(by rw[U,A,aaW,rO]);clear S;rw[h0];exact dw
  by_cases En:T=11
  ·subst En;obtain⟨q,W,rfl,_⟩:=cJ (bl Q) cc;obtain⟨y,z,rfl,M,hz⟩:=lg N C;simp only[aY,aE,aB]at hv;rw[show jD (aY y z) (.mk 11 [q,W])=(jD y q&&jD z W)from by rw[uq];exact RV];have RW:=nX k bn y q bn (dJ (er Q _ c9) M);have QB:=nX k bn z W bn (dJ (er Q _ c9) hz);clear hf Q N C M hz;generalize jD y q=b1 at *;generalize jD z W=b2 at *;obtain⟨u,P⟩:=q;obtain⟨G,sB⟩:=W;obtain⟨y1,y2,y3,y4,y5,y6,y7⟩:=y;obtain⟨z1,z2,z3,z4,z5,z6,z7⟩:=z;have e0:decide (((0:Nat):Int)<((2:Nat):Int))=true:=by decide
   have e1:decide (((1:Nat):Int)<((2:Nat):Int))=true:=(by decide);have e2:decide (((2:Nat):Int)<((2:Nat):Int))=false:=(by decide);refine qn func38 call38 λβ hf=>?_
   repeat' (first|refine kW ?_|refine zc ?_ ?_|(intro h;first|(cases h;done)|rw[h]|skip))
   refine AK.dI (α:=Nat) (λi=>i=0\/i=1/\b1=true\/i=2/\b1=true/\b2=true) (λi=>2-i)
    (λi=>[(17,.c (.int .i64 i)),(16,.c (.int .i64 ((2:Nat):Int))),(15,.c (.sl 7 (aa [.mk y1 y2 y3 y4 y5 y6 y7,.mk z1 z2 z3 z4 z5 z6 z7]))),(2,.ptr 2 0),(3,.ptr 3 0)])
    (λ_=>[(2,[.c (.int .i64 11),.c (.sl 2 (aj [.mk u P,.mk G sB]))]),(3,[.c (.int .i64 11),.c (.int .i64 0),.c (.int .i64 0),.c (.str []),.c (.sl 7 (aa [.mk y1 y2 y3 y4 y5 y6 y7,.mk z1 z2 z3 z4 z5 z6 z7])),.c (.sl 2 (aj [])),.c (.sl 5 (aD []))])]) (λ_=>[]) [2,3] 0
    (.inl Z) ce ⟨Z,Z,trivial⟩ trivial Z Z Z ?_
   rintro i E S;rcases E with rfl|⟨rfl,rfl⟩|⟨rfl,rfl,rfl⟩
   ·cases b1 with
    |false =>
     clear S;exact dw
    |true =>
     repeat' (first|refine kW ?_|refine zc ?_ ?_|(intro h;first|(cases h;done)|rw[h]|skip)|refine uI Z (0) Z (Z) Z ?_|refine uC Z RW ?_)
     exact AK.again (S 1 (.inr (.inl ⟨Z,Z⟩)) bn) ⟨.inl (ff (i:=0) bn),.inl Z,.inl Z,.inl Z,.inl Z,trivial⟩ ⟨Z,Z,trivial⟩ trivial Z Z Z
   ·cases b2 with
    |false =>
     clear S;exact dw
    |true =>
     repeat' (first|refine kW ?_|refine zc ?_ ?_|(intro h;first|(cases h;done)|rw[h]|skip)|refine uI Z (1) Z (Z) Z ?_|refine uC Z QB ?_)
     exact AK.again (S 2 (.inr (.inr ⟨Z,Z,Z⟩)) bn) ⟨.inl (ff (i:=1) bn),.inl Z,.inl Z,.inl Z,.inl Z,trivial⟩ ⟨Z,Z,trivial⟩ trivial Z Z Z
   clear S;exact dw
  by_cases Ep:T=13
  ·subst Ep;obtain⟨q,W,rfl,_⟩:=cJ (bl Q) cc;obtain⟨l,rfl,_,h1,_,h3⟩:=qu N C;rw[show jD (.mk 13 0 0 [] l [] []) (.mk 13 [q,W])=iR l (.mk 11 [q,W])from by rw[uq];rfl];simp only[aE]at hv;have Y:∀x∈l,af 38 [dA (.mk 11 [q,W]),bA x] (.bool (jD x (.mk 11 [q,W]))):=λx O=>nX k bn x _ Xi (JD (w9 Q) h1 h3 x O);have Cf:=ga l;clear N C hf Q h1 h3;obtain⟨u,P⟩:=q;obtain⟨G,sB⟩:=W;refine qn func38 call38 λβ hf=>?_
   repeat' (first|refine kW ?_|refine zc ?_ ?_|(intro h;first|(cases h;done)|rw[h]|skip))
   refine AK.dI (α:=Nat) (λi=>i<=(l).length/\iR (l) (.mk 11 [.mk u P,.mk G sB])=iR ((l).drop i) (.mk 11 [.mk u P,.mk G sB])) (λi=>(l).length-i)
    (λi=>[(17,.c (.int .i64 i)),(16,.c (.int .i64 (aa (l)).length)),(15,.c (.sl 7 (aa (l)))),(2,.ptr 2 0),(3,.ptr 3 0)])
    (λ_=>[(2,[.c (.int .i64 13),.c (.sl 2 (aj [.mk u P,.mk G sB]))]),(3,[.c (.int .i64 13),.c (.int .i64 0),.c (.int .i64 0),.c (.str []),.c (.sl 7 (aa (l))),.c (.sl 2 (aj [])),.c (.sl 5 (aD []))])]) (λ_=>[]) [2,3] 0
    ⟨bn,Z⟩ ce ⟨Z,Z,trivial⟩ trivial Z Z Z ?_
   rintro i ⟨E,U⟩ S;rcases eI (l) i E with ⟨x,O,K⟩|A
   ·have D:=mh O;have hq:=Y x K;have h2:=bh O;rw[cQ O,oW]at U;cases V:jD x (.mk 11 [.mk u P,.mk G sB])with
    |false =>
     rw[V]at hq U;rw[abn]at U;rw[U];obtain⟨J,B,I,H,p,x6,x7⟩:=x;clear S;have Uy:=cY O;exact dw
    |true =>
     rw[V]at hq U;rw[abq]at U;obtain⟨J,B,I,H,p,x6,x7⟩:=x
     repeat' (first|refine kW ?_|refine zc ?_ ?_|(intro h;first|(cases h;done)|rw[h]|skip)|refine uI Z (i) Z (cY O) Z ?_|refine uC Z hq ?_)
     exact aaJ
   have D:=jK A;have h0:iR (l) (.mk 11 [.mk u P,.mk G sB])=true:=(by rw[U,A,aaW,rO]);clear S;rw[h0];exact dw
  have ez:jD v (.mk T ts)=true:=by rw[uq];simp only[cq,Er,En,Eo,Ep,c8,acd];rw[if_neg vv]
  rw[ez];have hA:=Ol ⟨c8,λh=>vv (.inl h),λh=>vv (.inr h),En,Eo,Ep,Er⟩ N;obtain⟨y1,y2,y3,y4,y5,y6,y7⟩:=v;obtain rfl:y5=[]:=hA;have e1:(T==15)=false:=by simpa using Er
  have e0:decide (((0:Nat):Int)<((0:Nat):Int))=false:=by decide
  clear hf Q N C;refine qn func38 call38 λβ hf=>?_
  repeat' (first|refine kW ?_|refine zc ?_ ?_|(intro h;first|(cases h;done)|rw[h]|skip))
  refine AK.dI (α:=Unit) (λ_=>True) (λ_=>0) (λ_=>[(17,.c (.int .i64 ((0:Nat):Int))),(16,.c (.int .i64 ((0:Nat):Int)))]) (λ_=>[]) (λ_=>[]) [] ()
   trivial ce trivial trivial Z Z Z ?_
  rintro _ _ S;clear S;exact dw
def L9(v:Vl)(t:Ty)(hf:iK t v=true)(q:aE v<=8589934593):af 38 [dA t,bA v] (.bool (jD v t)):=nX _ q v t (aal _) hf
end Go.Proofs
namespace Go.Proofs
open Go.cB
def RZ{φ:Int->Ty->Vl->Bool}{x:Vl}{l:L Vl}{t:Ty}{r:L Ty}:cr φ (x::l) (t::r)=wT φ x t+cr φ l r:=by rw[cr]
def R0{φ:Int->Ty->Vl->Bool}{l:L Vl}:cr φ l []=0:=by cases l<;>rw[cr]<;>simp
def GV:∀{s:L Ty}{l:L Vl}{i:Nat}{t:Ty},cD s l->s[i]?=some t->∃v,l[i]?=some v/\Fit t v
 |t::s,v::l,0,u,h,e=>by simp at e;subst e;exact⟨v,rfl,h.1⟩
 |t::s,v::l,i+1,u,h,e=>by simp only[List.getElem?_cons_succ]at e ⊢;exact GV h.2 e
 |[],[],i,u,h,e=>by simp at e
 |[],_::_,_,_,h,_=>h.elim
 |_::_,[],_,_,h,_=>h.elim
attribute [local irreducible] AK ai aR bW dR dG wT eW cr jD iR GP iK iq ni JB yy
def BG(a b c d:Int)(n:Nd)(hn:bR n<=8589934593)(s:L Ty)(hs:aU s<=8589934593)(l:L Vl)(hl:aB l<=25000000)(g:Int)(Xj : -9223372036854775808<=g)(hg2:g<=9223372036854775807):af 12 [.agg [aA a,aA b,aA c,aA d],aS n,.sl 2 (aj s),.sl 7 (aa l),aA g] (.bool true):=by
 obtain⟨T,hgp,h8⟩:=Jw g Xj hg2;have zs:=ig s;have zl:=ga l;have h1:=sL n s hn bn;have h2:=Pt a b c d T n hn s hs l (GW hl) bn;have h3:=GO s bn;have h4:=EB l bn;have D:af 36 [.agg [aA a,aA b,aA c,aA d],.sl 2 (aj s),.sl 7 (aa l)] (.bool (JB s l a b c d)):=by unfold JB;exact Jx a b c d s bn l (λv Q=>by have:=cI Q;omega)
 have h6:=Jy;have Y := @RO a b c d n s l;have G := @zM n s;have J:yy a b c d n s l T=if Pp a b c d n s l=true then tD (qw a b c d n l T)else R1:=by unfold yy;rfl
 have W := @Om a b c d n s l T;have P:=λh h0 => @Xg tt a b c d 1 n s l T h (GW hl) bn (.inl Z) h0;generalize yy a b c d n s l T=rr at h2 J P;generalize iq n s=q1 at h1 Y G W P;obtain⟨⟨t,p⟩,ec⟩:=q1;generalize hk:JB s l a b c d=kf at D Y;generalize hok:Pp a b c d n s l=ok at Y J W P;simp only at Y G W P;obtain⟨k1,k2,k3,k4,k5⟩:=n;obtain⟨rc,S,Wb,Xk,V⟩:=rr;simp only at P;have yA:af 33 [.agg [aA a,aA b,aA c,aA d],aS (.mk k1 k2 k3 k4 k5),.sl 2 (aj s),.sl 7 (aa l),aA T] (lG rc S Wb Xk V):=h2;clear h2;obtain⟨v1,v2,v3,v4,v5,v6,v7⟩:=Wb;by_cases he:ec=0;rotate_left
 ·have e1:(ec != 0)=true:=by simpa using he
  clear Y G W hk hok D P J;exact qdw func12 call12
 subst he;by_cases C:rc=0;rotate_left
 ·have e1:(rc != 0)=true:=by simpa using C
  clear Y G W hk hok D P J;exact qdw func12 call12
 subst C;cases ok with
 |false=>rw[if_neg cc]at J;cases J
 |true =>
 obtain⟨_,hkt⟩:=Y.1 rfl;subst hkt;obtain⟨_,w1,w2,w3,N⟩:=W rfl (GW hl) bn;obtain⟨g1,g2,g3⟩:=G rfl;have B:=JC.1 hk;have hF:=CN B.1 B.2.2 (GW hl);rw[if_pos rfl]at J;have K:=P Z Z;have I:(qw a b c d (.mk k1 k2 k3 k4 k5) l T).2.nV=T:=w1.2.2.2.2;generalize qw a b c d (.mk k1 k2 k3 k4 k5) l T=o at J I w2 w3 N;obtain⟨e,S'⟩:=o;simp only at I w2 w3 N;have he0:e=0:=(aaZ Ma.code J).symm;subst he0;have A:S=S'.st:=aaZ Ma.st J;have u:V=S'.aZ:=aaZ Ma.aZ J;have hT:cD t S/\p=false:=by
  rcases N with ⟨_,_,w5,w6⟩|N|N|⟨N,_⟩|⟨N,_⟩
  rw[A];exact⟨w5,w6⟩
  all_goals cases N
 obtain⟨hT,rfl⟩:=hT;have Yl:0<=V/\V<=bF:=by rw[u];exact w3
 clear Y G W hok P J w1 w2 w3 N I A u g3 hk;by_cases Y2:V>1099511627776;have e1:decide (V>1099511627776)=true:=aam Y2;clear hF hT K B;exact qdw func12 call12;have e1:decide (V>1099511627776)=false:=aan Y2;have zll:=B.1;have zt:=bq hT;clear B;refine qn func12 call12 λβ hf=>?_
 repeat' (first|refine kW ?_|refine zc ?_ ?_|(intro h;first|(cases h;done)|rw[h]|skip)|refine kV ?_ (hq:=h3) (hok:=by exact⟨_,_,Z,Z,Z⟩)|refine kV ?_ (hq:=h4) (hok:=by exact⟨_,_,Z,Z,Z⟩)|refine uC Z h1 ?_|refine uC Z yA ?_|refine uC Z D ?_|refine uC Z h6 ?_|refine uC Z h8 ?_)
 refine AK.dI (α:=Nat×Nat) (λz=>z.1<=s.length/\cr tt l s=z.2+cr tt (l.drop z.1) (s.drop z.1)/\z.2+1073741824*aB (l.drop z.1)<=1073741824*aB l) (λz=>s.length-z.1)
  (λz=>[(60,.c (.int .i64 z.1)),(59,.c (.int .i64 (aj s).length)),(14,.c (.int .i64 z.2)),(15,.c (.int .i64 ((0:Nat):Int))),(2,.c (.sl 2 (aj s))),(3,.c (.sl 7 (aa l))),(11,.ptr 11 0),(13,.ptr 13 0)])
  (λ_=>[(11,[.c (.sl 2 (aj t)),.c (.bool false)]),(13,[.c (aA 0),.c (.sl 7 (aa S)),.c (aA v1),.c (aA v2),.c (aA v3),.c (.str v4),.c (.sl 7 (aa v5)),.c (.sl 2 (aj v6)),.c (.sl 5 (aD v7)),.c (aA Xk),.c (aA V)])]) (λ_=>[]) [11,13] (0,0)
  ⟨bn,Un,by rw[ack,abi];exact aal _⟩ ce ⟨Z,Z,trivial⟩ trivial Z Z Z ?_
 rintro⟨i,m⟩ ⟨hi,U,M⟩ ih;simp only at hi U M;rcases eI s i hi with ⟨x,O,hm⟩|hie
 ·have hc:=wR O;have h9:=bh O;obtain⟨v,Q,Pu⟩:=GV hF O;have hsv:=cI (aap Q);have hq:=L9 v x Pu.1 bn;have Uk:=RQ v x;have E:=A0 v x Pu.1 bn;rw[cQ O,cQ Q,RZ]at U;rw[cQ Q]at M;simp only[aB]at M;generalize Fm:jD v x=fm at hq Uk;generalize wT tt v x=w at U Uk E;have H:=eZ O;have Xl:=cY Q;obtain⟨x1,x2⟩:=x;obtain⟨y1,y2,y3,y4,y5,y6,y7⟩:=v;cases fm with
  |false =>
   clear ih E Uk;exact dw
  |true =>
   have hwb:=Uk Z;have Xm:=E bn
   repeat' (first|refine kW ?_|refine zc ?_ ?_|(intro h;first|(cases h;done)|rw[h]|skip)|refine uI Z (i) Z (H) Z ?_|refine uI Z (i) Z (Xl) Z ?_|refine uC Z hq ?_|refine uC Z Xm ?_)
   refine AK.again (ih (i+1,m+w) ⟨h9,by show cr tt l s=m+w+cr tt (l.drop (i+1)) (s.drop (i+1));omega,by show m+w+1073741824*aB (l.drop (i+1))<=_;omega⟩ (by show s.length-(i+1)<s.length-i;omega)) ⟨.inl (ff bn),.inl Z,.inl (L8 (a:=m) (b:=w) bn),.inl Z,.inl Z,.inl Z,.inl Z,.inl Z,trivial⟩ ⟨Z,Z,trivial⟩ trivial Z Z Z
 have hc:=sC hie;have hm0:cr tt l s=m:=by rw[U,hie,aaW,R0,abI]
 have hmb:m<=1073741824*25000000:=by omega
 rw[hm0]at K;clear ih U M hF hi h1 yA h3 h4 D h6 h8;have zt2:t.length<=40:=g2
 repeat' (first|refine kW ?_|refine zc ?_ ?_|(intro h;first|(cases h;done)|rw[h]|skip))
 refine AK.dI (α:=Nat×Nat) (λz=>z.1<=t.length/\cr tt S t=z.2+cr tt (S.drop z.1) (t.drop z.1)) (λz=>t.length-z.1)
  (λz=>[(88,.c (.int .i64 z.1)),(87,.c (.int .i64 (aj t).length)),(14,.c (.int .i64 m)),(15,.c (.int .i64 z.2)),(11,.ptr 11 0),(13,.ptr 13 0)])
  (λ_=>[(11,[.c (.sl 2 (aj t)),.c (.bool false)]),(13,[.c (aA 0),.c (.sl 7 (aa S)),.c (aA v1),.c (aA v2),.c (aA v3),.c (.str v4),.c (.sl 7 (aa v5)),.c (.sl 2 (aj v6)),.c (.sl 5 (aD v7)),.c (aA Xk),.c (aA V)])]) (λ_=>[]) [11,13] (0,0)
  ⟨bn,Un⟩ ce ⟨Z,Z,trivial⟩ trivial Z Z Z ?_
 rintro⟨j,q⟩ ⟨hj,rL⟩ jh;simp only at hj rL;rcases eI t j hj with ⟨x,O,hm⟩|Oa
 ·have UQ:=wR O;have h9:=bh O;obtain⟨v,Q,Pu⟩:=GV hT O;rw[cQ O,cQ Q,RZ]at rL;have E:=A0 v x Pu.1 (by have:=Pu.2;omega);generalize wT tt v x=w at rL E;have Xm:=E bn;have H:=eZ O;have Xl:=cY Q;obtain⟨x1,x2⟩:=x;obtain⟨y1,y2,y3,y4,y5,y6,y7⟩:=v
  repeat' (first|refine kW ?_|refine zc ?_ ?_|(intro h;first|(cases h;done)|rw[h]|skip)|refine uI Z (j) Z (H) Z ?_|refine uI Z (j) Z (Xl) Z ?_|refine uC Z Xm ?_)
  refine AK.again (jh (j+1,q+w) ⟨h9,by show cr tt S t=q+w+cr tt (S.drop (j+1)) (t.drop (j+1));omega⟩ (by show t.length-(j+1)<t.length-j;omega)) ⟨.inl (ff bn),.inl Z,.inl Z,.inl (L8 (a:=q) (b:=w) bn),.inl Z,.inl Z,trivial⟩ ⟨Z,Z,trivial⟩ trivial Z Z Z
 have UQ:=sC Oa;have oU:cr tt S t=q:=by rw[rL,Oa,aaW,R0,abI]
 rw[oU]at K;clear jh rL;have c1:decide (i64.wrap ((q:Int)-(m:Int))<=V)=true:=by rw[gM bn bn,aam bn]
 have c2:decide (V>=0)=true:=aam bn
 repeat' (first|refine kW ?_|refine zc ?_ ?_|(intro h;first|(cases h;done)|rw[h]|skip))
 all_goals (show Wk (.bool (bif true then decide (V>=0)else false)) _;rw[c2];exact Wk.refl _)
def zW(a b c d:Int)(n:Nd)(_:US n)(O:bR n<=8589934593)(s:L Ty)(_:Ff s)(C:aU s<=8589934593)(l:L Vl)(_:Jp l)(V:aB l<=25000000)(g:Int)(Q : -9223372036854775808<=g/\g<=9223372036854775807) :
  af 12 [.agg [.int .i64 a,.int .i64 b,.int .i64 c,.int .i64 d],aS n,.sl 2 (aj s),.sl 7 (aa l),.int .i64 g] (.bool true):=BG a b c d n O s C l V g Q.1 Q.2
end Go.Proofs
