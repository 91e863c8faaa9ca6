/- A part of the proof. -/
import Derived.Test.YtpnpbmbdkinajaaGreatDoorChk1G
import Derived.Test.YtpnpbmbdkinajaaGreatDoorKind8G
set_option linter.all false
set_option maxHeartbeats 0
set_option maxRecDepth 100000
open Go.IntKind Go.Proofs.Tryz
namespace Go.Proofs
open Go.cE
attribute [local irreducible] AK ag aZ bS aM
def SI{p w}(h:w∈iq p):w=110\/w=99\/w=116\/w=118:=by
 unfold iq at h
 repeat' (split at h)
 all_goals simp at h
 all_goals (try (rcases h with h|h|h))
 all_goals (try (rcases h with h|h))
 all_goals (try subst h)
 all_goals simp
def Yz(l Y):lq [] l Y=some Y:=by unfold lq;rfl
def afc(p:Δ)(T N P)(S:Δ)(V l:Θ)(Y):lq (110::p) (.mk T N P S V::l) Y=if T=0/\0<=N/\N<=40 then lq p l Y else none:=by
 conv=>lhs;unfold lq
 rw[if_pos rfl]
def afd(p:Δ)(T N P)(S:Δ)(V l:Θ)(Y):lq (99::p) (.mk T N P S V::l) Y=if T=3 then lq p l Y else none:=by
 conv=>lhs;unfold lq
 rw[if_neg bn,if_pos rfl]
def afe(p:Δ)(T N P)(S:Δ)(V l:Θ)(Y):lq (116::p) (.mk T N P S V::l) Y=if(aM (.mk T N P S V)).2=0 then lq p l (Y++[(aM (.mk T N P S V)).1])else none:=by
 conv=>lhs;unfold lq
 rw[if_neg bn,if_neg bn,if_pos rfl]
def aff(p:Δ)(T N P)(S:Δ)(V l:Θ)(Y):lq (118::p) (.mk T N P S V::l) Y=lq p l Y:=by
 conv=>lhs;unfold lq
 rw[if_neg bn,if_neg bn,if_neg bn]
def acj:Option (Γ)->CV
 |some l => .eK [.sl 2 (az l),.bool true]
 |none => .eK [.sl 2 [],.bool false]
def Pf(V N P)(S:Δ)args(hn:aP args<=8589934593):af 89 [aV (.mk V N P S args)] (acj (bB P args)):=by
 have o:=Mq P;have SJ:=gB args;have I:=bq args;unfold bB;by_cases G:P<40;rw[if_pos (.inl G)];have j:decide (P<40):=ace G;exact qdw func89 call89;have j:decide (P<40)=false:=acf G;by_cases f:args.length≠(iq P).length
 ·rw[if_pos (.inr f)];have D:((((aD args).length:Nat):Int) != (((iq P).length:Nat):Int)):=by rw[I];simp;omega
  exact qdw func89 call89
 rw[if_neg ai];have T:args.length=(iq P).length:=by omega
 have D:((((aD args).length:Nat):Int) != (((iq P).length:Nat):Int))=false:=by rw[I];simp;omega
 have Y:=λw h => @SI P w h;generalize iq P=p at o T D Y ⊢;refine qn func89 call89 λβ hf=>?_
 repeat' (first|refine ju ?_|refine zc ?_ ?_|(intro h;first|(cases h;done)|rw[h]|skip)|refine uC Z o ?_|(refine uA Z ?_ ?_<;>(try (show(_:Nat)*_<=_;dsimp only))))
 refine AK.gK [] [(6000,(0,none))] (env':=[(27,Υ (0:Nat)),(26,Υ (aD args).length),(25,.c (.sl 5 (aD args))),(4,.c (.str p)),(5,.own (.tok 6000 0) 2 [])])
  (bs':=[]) (ts':=[(6000,0)]) (us':=[6000])
  ce  trivial Z ?_
 refine AK.dg (α:=Nat×Γ) (λz=>z.1<=args.length/\z.2.length<=z.1/\lq p args []=lq (p.drop z.1) (args.drop z.1) z.2) (λz=>args.length-z.1)
  (λz=>[(27,Υ z.1),(26,Υ (aD args).length),(25,.c (.sl 5 (aD args))),(4,.c (.str p)),(5,.own (.tok 6000 0) 2 (az z.2))]) (λ_=>[]) (λ_=>[(6000,0)]) [6000] (0,[])
  ⟨ai,cS,Z⟩ ce trivial ⟨Z,trivial⟩ Z Z Z ?_
 rintro⟨i,acc⟩ ⟨C,d,W⟩ ih;simp only at C d W;rcases fU args i C with ⟨x,O,hm⟩|B
 ·have hc:=mG O;have y:=bp O;obtain⟨w,q⟩:∃w,p[i]?=some w:=⟨p[i]' ai,cS⟩;have Pg:=Y w (acm q);have ω:=eS hm;have M:=ke x ai;rw[cT O,cT q]at W;obtain⟨Q,E,k3,k4,k5⟩:=x;rcases Pg with rfl|rfl|rfl|rfl
  ·have K:((((110:UInt8).toNat:Nat):Int)==110):=rfl;rw[afc]at W;by_cases F:Q=0;rotate_left
   ·rw[if_neg (λh=>F h.1)]at W;rw[W];have H:(Q != 0):=(by simpa using F);clear ih W
    repeat' (first|refine ju ?_|refine zc ?_ ?_|(intro h;first|(cases h;done)|rw[h]|skip)|refine uI Z (i) Z (ff O) Z ?_|refine ag.nV hX kn Z Z Z Z Z Z Z (m:=i) Z q ?_|(refine uA Z ?_ ?_<;>(try (show(_:Nat)*_<=_;dsimp only))))
    all_goals exact Au
   subst F;by_cases A:E<0
   ·rw[if_neg (λh=>by omega)]at W;rw[W];have H:decide (E<0):=ace A;clear ih W
    repeat' (first|refine ju ?_|refine zc ?_ ?_|(intro h;first|(cases h;done)|rw[h]|skip)|refine uI Z (i) Z (ff O) Z ?_|refine ag.nV hX kn Z Z Z Z Z Z Z (m:=i) Z q ?_|(refine uA Z ?_ ?_<;>(try (show(_:Nat)*_<=_;dsimp only))))
    all_goals exact Au
   have g4:decide (E<0)=false:=acf A;by_cases u:E>40
   ·rw[if_neg (λh=>by omega)]at W;rw[W];have H:decide (E>40):=ace u;clear ih W
    repeat' (first|refine ju ?_|refine zc ?_ ?_|(intro h;first|(cases h;done)|rw[h]|skip)|refine uI Z (i) Z (ff O) Z ?_|refine ag.nV hX kn Z Z Z Z Z Z Z (m:=i) Z q ?_|(refine uA Z ?_ ?_<;>(try (show(_:Nat)*_<=_;dsimp only))))
    all_goals exact Au
   have g6:decide (E>40)=false:=acf u;rw[if_pos ⟨Z,ai,ai⟩]at W
   repeat' (first|refine ju ?_|refine zc ?_ ?_|(intro h;first|(cases h;done)|rw[h]|skip)|refine uI Z (i) Z (ff O) Z ?_|refine ag.nV hX kn Z Z Z Z Z Z Z (m:=i) Z q ?_|(refine uA Z ?_ ?_<;>(try (show(_:Nat)*_<=_;dsimp only))))
   refine AK.again (ih (i+1,acc) ⟨y,aeK,W⟩ fe) ⟨.inl (dz (i:=i) ai),.inl Z,.inl Z,.inl Z,.inl Z,trivial⟩ trivial ⟨Z,trivial⟩ Z Z Z
  ·have K:((((99:UInt8).toNat:Nat):Int)==110)=false:=rfl;have f2:((((99:UInt8).toNat:Nat):Int)==99):=rfl;rw[afd]at W;by_cases F:Q=3;rotate_left
   ·rw[if_neg F]at W;rw[W];have H:(Q != 3):=(by simpa using F);clear ih W
    repeat' (first|refine ju ?_|refine zc ?_ ?_|(intro h;first|(cases h;done)|rw[h]|skip)|refine uI Z (i) Z (ff O) Z ?_|refine ag.nV hX kn Z Z Z Z Z Z Z (m:=i) Z q ?_|(refine uA Z ?_ ?_<;>(try (show(_:Nat)*_<=_;dsimp only))))
    all_goals exact Au
   subst F;rw[if_pos rfl]at W
   repeat' (first|refine ju ?_|refine zc ?_ ?_|(intro h;first|(cases h;done)|rw[h]|skip)|refine uI Z (i) Z (ff O) Z ?_|refine ag.nV hX kn Z Z Z Z Z Z Z (m:=i) Z q ?_|(refine uA Z ?_ ?_<;>(try (show(_:Nat)*_<=_;dsimp only))))
   refine AK.again (ih (i+1,acc) ⟨y,aeK,W⟩ fe) ⟨.inl (dz (i:=i) ai),.inl Z,.inl Z,.inl Z,.inl Z,trivial⟩ trivial ⟨Z,trivial⟩ Z Z Z
  ·have K:((((116:UInt8).toNat:Nat):Int)==110)=false:=rfl;have f2:((((116:UInt8).toNat:Nat):Int)==99)=false:=rfl;have f3:((((116:UInt8).toNat:Nat):Int)==116):=rfl;rw[afe]at W;rcases hr:aM (.mk Q E k3 k4 k5)with ⟨⟨U,t⟩,e⟩
   rw[hr]at M W;simp only at M W;by_cases F:e=0;rotate_left
   ·rw[if_neg F]at W;rw[W];have H:(e != 0):=(by simpa using F);clear ih W
    repeat' (first|refine ju ?_|refine zc ?_ ?_|(intro h;first|(cases h;done)|rw[h]|skip)|refine uI Z (i) Z (ff O) Z ?_|refine ag.nV hX kn Z Z Z Z Z Z Z (m:=i) Z q ?_|refine uC Z M ?_|(refine uA Z ?_ ?_<;>(try (show(_:Nat)*_<=_;dsimp only))))
    all_goals exact Au
   subst F;rw[if_pos rfl]at W
   repeat' (first|refine ju ?_|refine zc ?_ ?_|(intro h;first|(cases h;done)|rw[h]|skip)|refine uI Z (i) Z (ff O) Z ?_|refine ag.nV hX kn Z Z Z Z Z Z Z (m:=i) Z q ?_|refine uC Z M ?_|(refine uA Z ?_ ?_<;>(try (show(_:Nat)*_<=_;dsimp only))))
   have o:=aY acc;simp only[aat,aav];omega;have J:az acc++[ct (.mk U t)]=az (acc++[Ty.mk U t]):=(lZ acc [_]).symm;refine AK.gK [] [(6000,(0,some 6000))] (env':=[(27,Υ ((i+1:Nat):Int)),(26,Υ (aD args).length),(25,.c (.sl 5 (aD args))),(4,.c (.str p)),(5,.own (.tok 6000 0) 2 (az (acc++[Ty.mk U t])))])
    (bs':=[]) (ts':=[(6000,0)]) (us':=[6000])
    ⟨⟨_,Z,.inl (lI (i:=i) ai)⟩,⟨_,Z,.inl Z⟩,⟨_,Z,.inl Z⟩,⟨_,Z,.inl Z⟩,⟨_,Z,⟨_,Z,.inr ⟨_,_,Z,Z,ahm (AV.own (.tok 6000 1) 2) J⟩⟩⟩,trivial⟩ trivial Z ?_
   exact ih (i+1,acc++[Ty.mk U t]) ⟨y,oe,W⟩ fe
  have K:((((118:UInt8).toNat:Nat):Int)==110)=false:=rfl;have f2:((((118:UInt8).toNat:Nat):Int)==99)=false:=rfl;have f3:((((118:UInt8).toNat:Nat):Int)==116)=false:=rfl;rw[aff]at W
  repeat' (first|refine ju ?_|refine zc ?_ ?_|(intro h;first|(cases h;done)|rw[h]|skip)|refine uI Z (i) Z (ff O) Z ?_|refine ag.nV hX kn Z Z Z Z Z Z Z (m:=i) Z q ?_|(refine uA Z ?_ ?_<;>(try (show(_:Nat)*_<=_;dsimp only))))
  refine AK.again (ih (i+1,acc) ⟨y,aeK,W⟩ fe) ⟨.inl (dz (i:=i) ai),.inl Z,.inl Z,.inl Z,.inl Z,trivial⟩ trivial ⟨Z,trivial⟩ Z Z Z
 have hc:=j9 B;have h0:lq p args []=some acc:=by rw[W,B,aho,T,aho];exact Yz _ _
 rw[h0];clear ih W;exact dw
def Be(s l)(h:SE s l:=by first|(simp[Vo,Vp,Cy];done)|(simp[*,Vo,Vp,Cy]<;>assumption))(Y:s.length<=10000000000:=by first|omega|(simp only[aat,aav]at *;omega))(E:l.length<=10000000000:=by decide):af 125 [.sl 2 (az s),.sl 1 (ez l)] (.bool true):=by have:=Cz s l Y E;rwa[h]at this
def me(s l)(h:SE s l=false:=by first|(simp[Vo,Vp,Cy];done)|(simp[*,Vo,Vp,Cy]<;>assumption))(Y:s.length<=10000000000:=by first|omega|(simp only[aat,aav]at *;omega))(E:l.length<=10000000000:=by decide):af 125 [.sl 2 (az s),.sl 1 (ez l)] (.bool false):=by have:=Cz s l Y E;rwa[h]at this
def vP(s l)(Y:s.length<=20000000000:=by first|omega|(simp only[aat,aav]at *;omega))(E:l.length<=20000000000:=by simp):af 103 [.sl 2 (az s),.sl 2 (az l)] (.eK [.agg [.sl 2 (az (l++s)),.bool false],.int .i64 0]):=qa s l Y E
def SK(s)(Y:s.length<=20000000000:=by first|omega|(simp only[aat,aav]at *;omega)):af 103 [.sl 2 (az s),.sl 0 []] (.eK [.agg [.sl 2 (az s),.bool false],.int .i64 0]):=Fh s Y
end Go.Proofs
