/- The machine at work. Run of package run. Run of package run: what it asks first. -/
import Derived.Test.YtlohbilpimjmmaaGreatDoorRunG
import Derived.Test.YtlohbilpimjmmaaGreatDoorRunS
set_option maxHeartbeats 0
set_option linter.unusedVariables false
set_option linter.unusedSimpArgs false
set_option maxRecDepth 100000
namespace Go.Proofs
open Go.cq
abbrev eD (S:bT) (F:fO) (t:List fO):bT:={S with fr:={F with pos:=F.pos+1}::t}
inductive kE:Nat->bT->MR->Prop
 | done {k:Nat} {S:bT} (h:S.fr=[]):kE (k+1) S (0,S)
 | fin {k:Nat} {S S':bT} {F:fO} {t:List fO} {e:Int} {r:MR} (h:S.fr=F::t) (hp:F.pos=F.code.length) (ht:t.length<=1000000000) (hc:cC 54 S [.ptr 1000002 (0+t.length*4)] (aF e) S') (he:e≠0->r=(e,S')) (hk:e=0->kE k S' r):kE (k+1) S r
 | seq {k:Nat} {S:bT} {F:fO} {t:List fO} {N P:Int} {s:List UInt8} {args:List Nd} {r:MR} (h:S.fr=F::t) (hp:F.code[F.pos]?=some (.mk 3 N P s args)) (ht:t.length<=1000000000) (hl:F.code.length<=8589934593) (hk:kE k (cO (eD S F t) args 0 []) r):kE (k+1) S r
 | aal {k:Nat} {S:bT} {F:fO} {t:List fO} {N P:Int} {s:List UInt8} {args:List Nd} (h:S.fr=F::t) (hp:F.code[F.pos]?=some (.mk 2 N P s args)) (ht:t.length<=1000000000) (hl:F.code.length<=8589934593) (hg:S.gX<=S.used):kE (k+1) S (12,eD S F t)
 | step {k:Nat} {S S':bT} {F:fO} {t:List fO} {N P:Int} {s:List UInt8} {args:List Nd} {e:Int} {r:MR} (h:S.fr=F::t) (hp:F.code[F.pos]?=some (.mk 2 N P s args)) (ht:t.length<=1000000000) (hl:F.code.length<=8589934593) (hg:S.used<S.gX) (hi:OB S.gX) (hu:0<=S.used)
   (hc:cC 57 {eD S F t with used:=S.used+1} [.c (aX (.mk 2 N P s args))] (aF e) S') (he:e≠0->r=(e,S')) (hk:e=0->kE k S' r):kE (k+1) S r
attribute [local irreducible] AK ai bh bt dI dS
theorem C3 (k:Nat) (S:bT) (r:MR) (O:kE k S r):cC 43 S [] (aF r.1) r.2:=by
 refine mn Tryz.func43 Tryz.call43 fun β hf=>?_;refine dnm ?_;refine AK.fW [(1000000,1000000),(3001,1000001),(3002,1000002)] [] (env':=[(0,.ptr 1000000 0)]) (bs':=[(1000000,mC S 3001 3002),(3001,ah (sR S.st)),(3002,ah (fR S.fr))]) (ts':=[]) (us':=[1000000,3001,3002]) ⟨⟨_,rfl,⟨_,rfl,rfl⟩⟩,trivial⟩ (WA rfl rfl rfl rfl rfl rfl rfl rfl rfl) rfl ?_;refine AK.eK (α:=Nat×bT) (fun z=>kE z.1 z.2 r) (fun z=>z.1) (fun _=>[(0,.ptr 1000000 0)]) (fun z=>[(1000000,mC z.2 3001 3002),(3001,ah (sR z.2.st)),(3002,ah (fR z.2.fr))]) (fun _=>[]) [1000000,3001,3002] (k,S)
  O ⟨.inl rfl,trivial⟩ ⟨rfl,rfl,rfl,trivial⟩ trivial rfl (XV S rfl rfl rfl) rfl ?_
 rintro⟨G,T⟩ E ih;simp only at E;clear O;cases E with
 | done h =>
  obtain⟨a,b,c,d,W,fr,g,u,m,said⟩:=T;simp only at h;subst h;clear ih;exact dm
 | @fin k1 _ S' F t e _ h hp ht hc he hk =>
  obtain⟨a,b,c,d,W,fr,g,u,m,said⟩:=T;obtain⟨H,C,fin,Y⟩:=F;simp only at *;subst h;have U:=x8 ⟨H,C,fin,Y⟩ t;have h1:=OZ ⟨H,C,fin,Y⟩ t;have O:IntKind.i64.wrap (((((⟨H,C,fin,Y⟩:fO)::t).length:Nat):Int)-1)=(t.length:Nat):=by
   rw[gW dZ dZ];simp only[aac];omega
  have p:decide (((((⟨H,C,fin,Y⟩:fO)::t).length:Nat):Int)>0)=true:=aam dZ;subst hp;have D:=br H;have q:((H.length:Int)==(((aI H).length:Nat):Int))=true:=beq_iff_eq.2 bn;by_cases V:e=0
  ·have J:(e != 0)=false:=by simpa using V
   replace hk:=hk V;clear he
   repeat' (first|refine nj ?_|(refine zc ?_ ?_<;>intro h<;>first|(cases h;done)|rw[h]|skip)|refine AK.skip ?_|refine AK.seq ?_|refine AK.block ?_|refine AK.exit rfl ?_|refine ai.gE Tryz.hX kn rfl rfl rfl rfl rfl rfl U rfl ?_|refine ai.gE Tryz.hX kn rfl rfl rfl rfl rfl rfl h1 rfl ?_|refine ai.jf Tryz.hX kn rfl rfl rfl rfl rfl rfl rfl rfl rfl t.length O (Nat.lt_succ_self _) ?_|refine tc ?_ (hq:=hc))
   refine AK.fW [(1000000,1000000),(3001,100037),(3002,200037)] [] (env':=[(0,.ptr 1000000 0)]) (bs':=[(1000000,mC S' 3001 3002),(3001,ah (sR (S').st)),(3002,ah (fR (S').fr))]) (ts':=[]) (us':=[1000000,3001,3002]) ⟨⟨_,rfl,⟨_,rfl,rfl⟩⟩,trivial⟩ (WA rfl rfl rfl rfl rfl rfl rfl rfl rfl) rfl ?_;exact ih (_,S') (hk) (Nat.lt_succ_self _)
  ·have J:(e != 0)=true:=by simpa using V
   obtain rfl:=he V;clear ih he hk
   repeat' (first|refine nj ?_|(refine zc ?_ ?_<;>intro h<;>first|(cases h;done)|rw[h]|skip)|refine AK.skip ?_|refine AK.seq ?_|refine AK.block ?_|refine AK.exit rfl ?_|refine ai.gE Tryz.hX kn rfl rfl rfl rfl rfl rfl U rfl ?_|refine ai.gE Tryz.hX kn rfl rfl rfl rfl rfl rfl h1 rfl ?_|refine ai.jf Tryz.hX kn rfl rfl rfl rfl rfl rfl rfl rfl rfl t.length O (Nat.lt_succ_self _) ?_|refine tc ?_ (hq:=hc))
   all_goals rfl
 | @seq k1 _ F t N P s args _ h hp ht hl hk =>
  obtain⟨a,b,c,d,W,fr,g,u,m,said⟩:=T;obtain⟨H,C,fin,Y⟩:=F;simp only at *;subst h;have U:=x8 ⟨H,C,fin,Y⟩ t;have h1:=OZ ⟨H,C,fin,Y⟩ t;have O:IntKind.i64.wrap (((((⟨H,C,fin,Y⟩:fO)::t).length:Nat):Int)-1)=(t.length:Nat):=by
   rw[gW dZ dZ];simp only[aac];omega
  have p:decide (((((⟨H,C,fin,Y⟩:fO)::t).length:Nat):Int)>0)=true:=aam dZ;have I:=(List.getElem?_eq_some_iff.1 hp).1;have D:=br H;have q:((C:Int)==(((aI H).length:Nat):Int))=false:=beq_eq_false_iff_ne.2 bn;have M:=ef hp;have hq:dK (0+t.length*4+1) [.c (aF (IntKind.i64.wrap ((C:Int)+1)))] (ah (fR (⟨H,C,fin,Y⟩::t)))=some (ah (fR (⟨H,C+1,fin,Y⟩::t))):=by rw[gW bn bn];exact DS ⟨H,C,fin,Y⟩ t (C+1)
  have K:=gJ ⟨a,b,c,d,W,⟨H,C+1,fin,Y⟩::t,g,u,m,said⟩ args 0 dZ
  repeat' (first|refine nj ?_|(refine zc ?_ ?_<;>intro h<;>first|(cases h;done)|rw[h]|skip)|refine AK.skip ?_|refine AK.seq ?_|refine AK.block ?_|refine AK.exit rfl ?_|refine ai.gE Tryz.hX kn rfl rfl rfl rfl rfl rfl U rfl ?_|refine ai.gE Tryz.hX kn rfl rfl rfl rfl rfl rfl h1 rfl ?_|refine ai.jf Tryz.hX kn rfl rfl rfl rfl rfl rfl rfl rfl rfl t.length O (Nat.lt_succ_self _) ?_|refine uI rfl C rfl M rfl ?_|refine ai.store Tryz.hX kn rfl rfl rfl rfl rfl rfl rfl rfl rfl hq rfl ?_|refine tc ?_ (hq:=K))
  refine AK.fW [(1000000,1000000),(3001,100064),(3002,200064)] [] (env':=[(0,.ptr 1000000 0)]) (bs':=[(1000000,mC (cO ⟨a,b,c,d,W,⟨H,C+1,fin,Y⟩::t,g,u,m,said⟩ args 0 []) 3001 3002),(3001,ah (sR ((cO ⟨a,b,c,d,W,⟨H,C+1,fin,Y⟩::t,g,u,m,said⟩ args 0 [])).st)),(3002,ah (fR ((cO ⟨a,b,c,d,W,⟨H,C+1,fin,Y⟩::t,g,u,m,said⟩ args 0 [])).fr))]) (ts':=[]) (us':=[1000000,3001,3002]) ⟨⟨_,rfl,⟨_,rfl,rfl⟩⟩,trivial⟩ (WA rfl rfl rfl rfl rfl rfl rfl rfl rfl) rfl ?_;exact ih (_,(cO ⟨a,b,c,d,W,⟨H,C+1,fin,Y⟩::t,g,u,m,said⟩ args 0 [])) (hk) (Nat.lt_succ_self _)
 | @aal k1 _ F t N P s args h hp ht hl hg =>
  obtain⟨a,b,c,d,W,fr,g,u,m,said⟩:=T;obtain⟨H,C,fin,Y⟩:=F;simp only at *;subst h;have U:=x8 ⟨H,C,fin,Y⟩ t;have h1:=OZ ⟨H,C,fin,Y⟩ t;have O:IntKind.i64.wrap (((((⟨H,C,fin,Y⟩:fO)::t).length:Nat):Int)-1)=(t.length:Nat):=by
   rw[gW dZ dZ];simp only[aac];omega
  have p:decide (((((⟨H,C,fin,Y⟩:fO)::t).length:Nat):Int)>0)=true:=aam dZ;have I:=(List.getElem?_eq_some_iff.1 hp).1;have D:=br H;have q:((C:Int)==(((aI H).length:Nat):Int))=false:=beq_eq_false_iff_ne.2 bn;have M:=ef hp;have hq:dK (0+t.length*4+1) [.c (aF (IntKind.i64.wrap ((C:Int)+1)))] (ah (fR (⟨H,C,fin,Y⟩::t)))=some (ah (fR (⟨H,C+1,fin,Y⟩::t))):=by rw[gW bn bn];exact DS ⟨H,C,fin,Y⟩ t (C+1)
  have Q:=XW ⟨a,b,c,d,W,⟨H,C+1,fin,Y⟩::t,g,u,m,said⟩ hg;clear ih
  repeat' (first|refine nj ?_|(refine zc ?_ ?_<;>intro h<;>first|(cases h;done)|rw[h]|skip)|refine AK.skip ?_|refine AK.seq ?_|refine AK.block ?_|refine AK.exit rfl ?_|refine ai.gE Tryz.hX kn rfl rfl rfl rfl rfl rfl U rfl ?_|refine ai.gE Tryz.hX kn rfl rfl rfl rfl rfl rfl h1 rfl ?_|refine ai.jf Tryz.hX kn rfl rfl rfl rfl rfl rfl rfl rfl rfl t.length O (Nat.lt_succ_self _) ?_|refine uI rfl C rfl M rfl ?_|refine ai.store Tryz.hX kn rfl rfl rfl rfl rfl rfl rfl rfl rfl hq rfl ?_|refine tc ?_ (hq:=Q))
  all_goals rfl
 | @step k1 _ S' F t N P s args e _ h hp ht hl hg hi hu hc he hk =>
  obtain⟨a,b,c,d,W,fr,g,u,m,said⟩:=T;obtain⟨H,C,fin,Y⟩:=F;simp only at *;subst h;have U:=x8 ⟨H,C,fin,Y⟩ t;have h1:=OZ ⟨H,C,fin,Y⟩ t;have O:IntKind.i64.wrap (((((⟨H,C,fin,Y⟩:fO)::t).length:Nat):Int)-1)=(t.length:Nat):=by
   rw[gW dZ dZ];simp only[aac];omega
  have p:decide (((((⟨H,C,fin,Y⟩:fO)::t).length:Nat):Int)>0)=true:=aam dZ;have I:=(List.getElem?_eq_some_iff.1 hp).1;have D:=br H;have q:((C:Int)==(((aI H).length:Nat):Int))=false:=beq_eq_false_iff_ne.2 bn;have M:=ef hp;have hq:dK (0+t.length*4+1) [.c (aF (IntKind.i64.wrap ((C:Int)+1)))] (ah (fR (⟨H,C,fin,Y⟩::t)))=some (ah (fR (⟨H,C+1,fin,Y⟩::t))):=by rw[gW bn bn];exact DS ⟨H,C,fin,Y⟩ t (C+1)
  have Q:=XX ⟨a,b,c,d,W,⟨H,C+1,fin,Y⟩::t,g,u,m,said⟩ hg hi hu;by_cases V:e=0
  ·have J:(e != 0)=false:=by simpa using V
   replace hk:=hk V;clear he
   repeat' (first|refine nj ?_|(refine zc ?_ ?_<;>intro h<;>first|(cases h;done)|rw[h]|skip)|refine AK.skip ?_|refine AK.seq ?_|refine AK.block ?_|refine AK.exit rfl ?_|refine ai.gE Tryz.hX kn rfl rfl rfl rfl rfl rfl U rfl ?_|refine ai.gE Tryz.hX kn rfl rfl rfl rfl rfl rfl h1 rfl ?_|refine ai.jf Tryz.hX kn rfl rfl rfl rfl rfl rfl rfl rfl rfl t.length O (Nat.lt_succ_self _) ?_|refine uI rfl C rfl M rfl ?_|refine ai.store Tryz.hX kn rfl rfl rfl rfl rfl rfl rfl rfl rfl hq rfl ?_|refine tc ?_ (hq:=Q)|refine tc ?_ (hq:=hc))
   refine AK.fW [(1000000,1000000),(3001,100075),(3002,200075)] [] (env':=[(0,.ptr 1000000 0)]) (bs':=[(1000000,mC S' 3001 3002),(3001,ah (sR (S').st)),(3002,ah (fR (S').fr))]) (ts':=[]) (us':=[1000000,3001,3002]) ⟨⟨_,rfl,⟨_,rfl,rfl⟩⟩,trivial⟩ (WA rfl rfl rfl rfl rfl rfl rfl rfl rfl) rfl ?_;exact ih (_,S') (hk) (Nat.lt_succ_self _)
  ·have J:(e != 0)=true:=by simpa using V
   obtain rfl:=he V;clear ih he hk
   repeat' (first|refine nj ?_|(refine zc ?_ ?_<;>intro h<;>first|(cases h;done)|rw[h]|skip)|refine AK.skip ?_|refine AK.seq ?_|refine AK.block ?_|refine AK.exit rfl ?_|refine ai.gE Tryz.hX kn rfl rfl rfl rfl rfl rfl U rfl ?_|refine ai.gE Tryz.hX kn rfl rfl rfl rfl rfl rfl h1 rfl ?_|refine ai.jf Tryz.hX kn rfl rfl rfl rfl rfl rfl rfl rfl rfl t.length O (Nat.lt_succ_self _) ?_|refine uI rfl C rfl M rfl ?_|refine ai.store Tryz.hX kn rfl rfl rfl rfl rfl rfl rfl rfl rfl hq rfl ?_|refine tc ?_ (hq:=Q)|refine tc ?_ (hq:=hc))
   all_goals rfl
end Go.Proofs
namespace Go.Proofs
open Go.cq
def iF (c:Int) (st:List Vl) (said:Vl) (g mt:Int):CV := .agg [aF c,.sl 7 (aa st),aF (vK said),aF (vN said),aF (xA said),.str (vS said),.sl 7 (aa (eC said)),.sl 2 (aq (JE said)),.sl 5 (aI (rZ said)),aF g,aF mt]
attribute [local irreducible] AK ai bh bt dI dS
def mCz (S:bT) (b:Nat):List AV:=[.c (aF S.self),.c (aF S.gO),.c (aF S.gP),.c (aF S.balance),.c (.sl 7 (aa S.st)),.gv b 0 4 S.fr.length,.c (aF S.gX),.c (aF S.used),.c (aF S.bE),
 .c (aF (vK S.said)),.c (aF (vN S.said)),.c (aF (xA S.said)),.c (.str (vS S.said)),.c (.sl 7 (aa (eC S.said))),.c (.sl 2 (aq (JE S.said))),.c (.sl 5 (aI (rZ S.said)))]
theorem Bb (a b c d g:Int) (H:List Nd) (x:Vl) (q:List Vl) (S':bT) (hq:q.length<=1000000000) (Q:S'.st.length<=1000000000)
  (O:cC 43 ⟨a,b,c,d,x::q,[⟨H,0,0,[]⟩],g,0,0,oL⟩ [] (aF 0) S') :
  ag 24 [.agg [aF a,aF b,aF c,aF d],.sl 5 (aI H),.sl 7 (aa (x::q)),aF g] (iF 0 S'.st oL S'.used S'.bE):=by
 have p:=fh x q bn;have W:=jo (x::q) dZ;have Y:=jo S'.st.reverse Ot;rw[aaH,List.reverse_reverse]at Y;have I:∀x,Us 100027 7 (aa S'.st) x x:=fun _ => .inl rfl;refine qn Tryz.func24 Tryz.call24 fun β hf=>?_
 repeat' ((fail_if_success (refine kM 3 ?_));first|refine ai.iL Tryz.hX kn rfl rfl rfl rfl rfl rfl rfl rfl rfl rfl rfl rfl rfl rfl ?_|refine sz ?_|(refine zc ?_ ?_<;>intro h<;>first|(cases h;done)|rw[h]|skip)|refine ai.lG kn rfl rfl rfl rfl rfl rfl p rfl ?_|refine ai.qk kn rfl rfl rfl rfl rfl rfl rfl W rfl ?_)
 refine AK.fW [(8,8),(3000,20),(3001,14),(3002,18)] [] (env':=[(8,.ptr 8 0),(9,.ptr 3000 0)]) (bs':=[(8,[.c (aF 0),.c (.sl 7 (aa [])),.c (aF 0),.c (aF 0),.c (aF 0),.c (.str []),.c (.sl 7 (aa [])),.c (.sl 2 (aq [])),.c (.sl 5 (aI [])),.c (aF 0),.c (aF 0)]),(3000,mC ⟨a,b,c,d,(x::q),[⟨H,0,0,[]⟩],g,0,0,oL⟩ 3001 3002),(3001,ah (sR (x::q))),(3002,ah (fR [⟨H,0,0,[]⟩]))]) (ts':=[]) (us':=[8,3000,3001,3002]) ⟨⟨_,rfl,⟨_,rfl,rfl⟩⟩,⟨_,rfl,⟨_,rfl,rfl⟩⟩,trivial⟩ ⟨⟨_,_,rfl,rfl,⟨_,_,rfl,.inr rfl,⟨_,_,rfl,.inr rfl,⟨_,_,rfl,.inr rfl,⟨_,_,rfl,.inr rfl,⟨_,_,rfl,.inr rfl,⟨_,_,rfl,.inr rfl,⟨_,_,rfl,.inr rfl,⟨_,_,rfl,.inr rfl,⟨_,_,rfl,.inr rfl,⟨_,_,rfl,.inr rfl,⟨_,_,rfl,.inr rfl,rfl⟩⟩⟩⟩⟩⟩⟩⟩⟩⟩⟩⟩,⟨_,_,rfl,rfl,⟨_,_,rfl,.inr rfl,⟨_,_,rfl,.inr rfl,⟨_,_,rfl,.inr rfl,⟨_,_,rfl,.inr rfl,⟨_,_,rfl,⟨_,rfl,rfl⟩,⟨_,_,rfl,⟨_,rfl,rfl⟩,⟨_,_,rfl,.inr rfl,⟨_,_,rfl,.inr rfl,⟨_,_,rfl,.inr rfl,⟨_,_,rfl,.inr rfl,⟨_,_,rfl,.inr rfl,⟨_,_,rfl,.inr rfl,⟨_,_,rfl,.inr rfl,⟨_,_,rfl,.inr rfl,⟨_,_,rfl,.inr rfl,⟨_,_,rfl,.inr rfl,rfl⟩⟩⟩⟩⟩⟩⟩⟩⟩⟩⟩⟩⟩⟩⟩⟩⟩,⟨_,_,rfl,rfl,dz _⟩,⟨_,_,rfl,rfl,dz _⟩,trivial⟩ rfl ?_
 repeat' ((fail_if_success (refine kM 8 ?_));first|refine sz ?_|(refine zc ?_ ?_<;>intro h<;>first|(cases h;done)|rw[h]|skip)|refine tc ?_ (hq:=O)|refine ai.qk kn rfl rfl rfl rfl rfl rfl rfl Y rfl ?_)
 refine AK.B5 100027 7 (aa S'.st) (tail:=[]) (env':=[(8,.ptr 8 0),(9,.ptr 3000 0),(10,.c (aF 0)),(11,.ptr 11 0)]) (ts':=[])
  (bs':=[(8,[.c (aF 0),.c (.sl 7 (aa [])),.c (aF 0),.c (aF 0),.c (aF 0),.c (.str []),.c (.sl 7 (aa [])),.c (.sl 2 (aq [])),.c (.sl 5 (aI [])),.c (aF 0),.c (aF 0)]),(11,[.c (aF 0),.own .exact 7 [],.c (aF 0),.c (aF 0),.c (aF 0),.c (.str []),.own .exact 7 [],.own .exact 2 [],.own .exact 5 [],.c (aF S'.used),.c (aF S'.bE)]),(3000,mCz S' 200027)]) rfl (List.append_nil _).symm (gd _) ⟨⟨_,rfl,.inl rfl⟩,⟨_,rfl,.inl rfl⟩,⟨_,rfl,.inl rfl⟩,⟨_,rfl,.inl rfl⟩,trivial⟩ ⟨⟨_,rfl,tX I _⟩,⟨_,rfl,tX I _⟩,⟨_,rfl,⟨I _,I _,I _,I _,.inr ⟨_,rfl,(az _).symm,rfl⟩,tX I _⟩⟩,trivial⟩ rfl trivial ?_
 exact dq
theorem Ff (a b c d g:Int) (H:List Nd) (x:Vl) (q:List Vl) (S':bT) (hq:q.length<=1000000000)
  (O:cC 43 ⟨a,b,c,d,x::q,[⟨H,0,0,[]⟩],g,0,0,oL⟩ [] (aF 10) S') :
  ag 24 [.agg [aF a,aF b,aF c,aF d],.sl 5 (aI H),.sl 7 (aa (x::q)),aF g] (iF 10 [] S'.said S'.used 0):=by
 have p:=fh x q bn;have Y:=jo (x::q) dZ;refine qn Tryz.func24 Tryz.call24 fun β hf=>?_
 repeat' ((fail_if_success (refine kM 3 ?_));first|refine ai.iL Tryz.hX kn rfl rfl rfl rfl rfl rfl rfl rfl rfl rfl rfl rfl rfl rfl ?_|refine sz ?_|(refine zc ?_ ?_<;>intro h<;>first|(cases h;done)|rw[h]|skip)|refine ai.lG kn rfl rfl rfl rfl rfl rfl p rfl ?_|refine ai.qk kn rfl rfl rfl rfl rfl rfl rfl Y rfl ?_)
 refine AK.fW [(8,8),(3000,20),(3001,14),(3002,18)] [] (env':=[(8,.ptr 8 0),(9,.ptr 3000 0)]) (bs':=[(8,[.c (aF 0),.c (.sl 7 (aa [])),.c (aF 0),.c (aF 0),.c (aF 0),.c (.str []),.c (.sl 7 (aa [])),.c (.sl 2 (aq [])),.c (.sl 5 (aI [])),.c (aF 0),.c (aF 0)]),(3000,mC ⟨a,b,c,d,(x::q),[⟨H,0,0,[]⟩],g,0,0,oL⟩ 3001 3002),(3001,ah (sR (x::q))),(3002,ah (fR [⟨H,0,0,[]⟩]))]) (ts':=[]) (us':=[8,3000,3001,3002]) ⟨⟨_,rfl,⟨_,rfl,rfl⟩⟩,⟨_,rfl,⟨_,rfl,rfl⟩⟩,trivial⟩ ⟨⟨_,_,rfl,rfl,⟨_,_,rfl,.inr rfl,⟨_,_,rfl,.inr rfl,⟨_,_,rfl,.inr rfl,⟨_,_,rfl,.inr rfl,⟨_,_,rfl,.inr rfl,⟨_,_,rfl,.inr rfl,⟨_,_,rfl,.inr rfl,⟨_,_,rfl,.inr rfl,⟨_,_,rfl,.inr rfl,⟨_,_,rfl,.inr rfl,⟨_,_,rfl,.inr rfl,rfl⟩⟩⟩⟩⟩⟩⟩⟩⟩⟩⟩⟩,⟨_,_,rfl,rfl,⟨_,_,rfl,.inr rfl,⟨_,_,rfl,.inr rfl,⟨_,_,rfl,.inr rfl,⟨_,_,rfl,.inr rfl,⟨_,_,rfl,⟨_,rfl,rfl⟩,⟨_,_,rfl,⟨_,rfl,rfl⟩,⟨_,_,rfl,.inr rfl,⟨_,_,rfl,.inr rfl,⟨_,_,rfl,.inr rfl,⟨_,_,rfl,.inr rfl,⟨_,_,rfl,.inr rfl,⟨_,_,rfl,.inr rfl,⟨_,_,rfl,.inr rfl,⟨_,_,rfl,.inr rfl,⟨_,_,rfl,.inr rfl,⟨_,_,rfl,.inr rfl,rfl⟩⟩⟩⟩⟩⟩⟩⟩⟩⟩⟩⟩⟩⟩⟩⟩⟩,⟨_,_,rfl,rfl,dz _⟩,⟨_,_,rfl,rfl,dz _⟩,trivial⟩ rfl ?_
 repeat' (first|refine sz ?_|(refine zc ?_ ?_<;>intro h<;>first|(cases h;done)|rw[h]|skip)|refine tc ?_ (hq:=O))
 all_goals rfl
theorem Iv (a b c d g e:Int) (H:List Nd) (x:Vl) (q:List Vl) (S':bT) (hq:q.length<=1000000000) (u:e≠0) (C:e≠10)
  (O:cC 43 ⟨a,b,c,d,x::q,[⟨H,0,0,[]⟩],g,0,0,oL⟩ [] (aF e) S') :
  ag 24 [.agg [aF a,aF b,aF c,aF d],.sl 5 (aI H),.sl 7 (aa (x::q)),aF g] (iF e [] oL S'.used 0):=by
 have p:=fh x q bn;have Y:=jo (x::q) dZ;have J:(e==0)=false:=beq_eq_false_iff_ne.2 u;have D:(e==10)=false:=beq_eq_false_iff_ne.2 C;have W:(e != 0)=true:=by simpa using u
 refine qn Tryz.func24 Tryz.call24 fun β hf=>?_
 repeat' ((fail_if_success (refine kM 3 ?_));first|refine ai.iL Tryz.hX kn rfl rfl rfl rfl rfl rfl rfl rfl rfl rfl rfl rfl rfl rfl ?_|refine sz ?_|(refine zc ?_ ?_<;>intro h<;>first|(cases h;done)|rw[h]|skip)|refine ai.lG kn rfl rfl rfl rfl rfl rfl p rfl ?_|refine ai.qk kn rfl rfl rfl rfl rfl rfl rfl Y rfl ?_)
 refine AK.fW [(8,8),(3000,20),(3001,14),(3002,18)] [] (env':=[(8,.ptr 8 0),(9,.ptr 3000 0)]) (bs':=[(8,[.c (aF 0),.c (.sl 7 (aa [])),.c (aF 0),.c (aF 0),.c (aF 0),.c (.str []),.c (.sl 7 (aa [])),.c (.sl 2 (aq [])),.c (.sl 5 (aI [])),.c (aF 0),.c (aF 0)]),(3000,mC ⟨a,b,c,d,(x::q),[⟨H,0,0,[]⟩],g,0,0,oL⟩ 3001 3002),(3001,ah (sR (x::q))),(3002,ah (fR [⟨H,0,0,[]⟩]))]) (ts':=[]) (us':=[8,3000,3001,3002]) ⟨⟨_,rfl,⟨_,rfl,rfl⟩⟩,⟨_,rfl,⟨_,rfl,rfl⟩⟩,trivial⟩ ⟨⟨_,_,rfl,rfl,⟨_,_,rfl,.inr rfl,⟨_,_,rfl,.inr rfl,⟨_,_,rfl,.inr rfl,⟨_,_,rfl,.inr rfl,⟨_,_,rfl,.inr rfl,⟨_,_,rfl,.inr rfl,⟨_,_,rfl,.inr rfl,⟨_,_,rfl,.inr rfl,⟨_,_,rfl,.inr rfl,⟨_,_,rfl,.inr rfl,⟨_,_,rfl,.inr rfl,rfl⟩⟩⟩⟩⟩⟩⟩⟩⟩⟩⟩⟩,⟨_,_,rfl,rfl,⟨_,_,rfl,.inr rfl,⟨_,_,rfl,.inr rfl,⟨_,_,rfl,.inr rfl,⟨_,_,rfl,.inr rfl,⟨_,_,rfl,⟨_,rfl,rfl⟩,⟨_,_,rfl,⟨_,rfl,rfl⟩,⟨_,_,rfl,.inr rfl,⟨_,_,rfl,.inr rfl,⟨_,_,rfl,.inr rfl,⟨_,_,rfl,.inr rfl,⟨_,_,rfl,.inr rfl,⟨_,_,rfl,.inr rfl,⟨_,_,rfl,.inr rfl,⟨_,_,rfl,.inr rfl,⟨_,_,rfl,.inr rfl,⟨_,_,rfl,.inr rfl,rfl⟩⟩⟩⟩⟩⟩⟩⟩⟩⟩⟩⟩⟩⟩⟩⟩⟩,⟨_,_,rfl,rfl,dz _⟩,⟨_,_,rfl,rfl,dz _⟩,trivial⟩ rfl ?_
 repeat' (first|refine sz ?_|(refine zc ?_ ?_<;>intro h<;>first|(cases h;done)|rw[h]|skip)|refine tc ?_ (hq:=O))
 all_goals rfl
theorem KY (a b c d g:Int) (H:List Nd) (S':bT) (Q:S'.st.length<=1000000000)
  (O:cC 43 ⟨a,b,c,d,[],[⟨H,0,0,[]⟩],g,0,0,oL⟩ [] (aF 0) S') :
  ag 24 [.agg [aF a,aF b,aF c,aF d],.sl 5 (aI H),.sl 7 (aa ([])),aF g] (iF 0 S'.st oL S'.used S'.bE):=by
 have Y:=jo [] (Nat.zero_le _);have W:=jo S'.st.reverse Ot;rw[aaH,List.reverse_reverse]at W;have I:∀x,Us 100027 7 (aa S'.st) x x:=fun _ => .inl rfl;refine qn Tryz.func24 Tryz.call24 fun β hf=>?_
 repeat' ((fail_if_success (refine kM 2 ?_));first|refine ai.iL Tryz.hX kn rfl rfl rfl rfl rfl rfl rfl rfl rfl rfl rfl rfl rfl rfl ?_|refine sz ?_|(refine zc ?_ ?_<;>intro h<;>first|(cases h;done)|rw[h]|skip)|refine ai.xL kn rfl rfl (jy 7) rfl rfl (fun _=>⟨_,_,rfl,.inr rfl,rfl⟩) rfl rfl ?_|refine ai.qk kn rfl rfl rfl rfl rfl rfl rfl Y rfl ?_)
 refine AK.empty 20 4 7 [.c (aF a),.c (aF b),.c (aF c),.c (aF d)] _ rfl rfl rfl rfl ?_;refine AK.vt 4 [] _ rfl (List.nil_append _).symm rfl ?_
 repeat' ((fail_if_success (refine kM 3 ?_));first|refine sz ?_|(refine zc ?_ ?_<;>intro h<;>first|(cases h;done)|rw[h]|skip)|refine ai.qk kn rfl rfl rfl rfl rfl rfl rfl Y rfl ?_)
 refine AK.fW [(8,8),(3000,20),(3001,4),(3002,18)] [] (env':=[(8,.ptr 8 0),(9,.ptr 3000 0)]) (bs':=[(8,[.c (aF 0),.c (.sl 7 (aa [])),.c (aF 0),.c (aF 0),.c (aF 0),.c (.str []),.c (.sl 7 (aa [])),.c (.sl 2 (aq [])),.c (.sl 5 (aI [])),.c (aF 0),.c (aF 0)]),(3000,mC ⟨a,b,c,d,[],[⟨H,0,0,[]⟩],g,0,0,oL⟩ 3001 3002),(3001,ah (sR [])),(3002,ah (fR [⟨H,0,0,[]⟩]))]) (ts':=[]) (us':=[8,3000,3001,3002]) ⟨⟨_,rfl,⟨_,rfl,rfl⟩⟩,⟨_,rfl,⟨_,rfl,rfl⟩⟩,trivial⟩ ⟨⟨_,_,rfl,rfl,⟨_,_,rfl,.inr rfl,⟨_,_,rfl,.inr rfl,⟨_,_,rfl,.inr rfl,⟨_,_,rfl,.inr rfl,⟨_,_,rfl,.inr rfl,⟨_,_,rfl,.inr rfl,⟨_,_,rfl,.inr rfl,⟨_,_,rfl,.inr rfl,⟨_,_,rfl,.inr rfl,⟨_,_,rfl,.inr rfl,⟨_,_,rfl,.inr rfl,rfl⟩⟩⟩⟩⟩⟩⟩⟩⟩⟩⟩⟩,⟨_,_,rfl,rfl,⟨_,_,rfl,.inr rfl,⟨_,_,rfl,.inr rfl,⟨_,_,rfl,.inr rfl,⟨_,_,rfl,.inr rfl,⟨_,_,rfl,⟨_,rfl,rfl⟩,⟨_,_,rfl,⟨_,rfl,rfl⟩,⟨_,_,rfl,.inr rfl,⟨_,_,rfl,.inr rfl,⟨_,_,rfl,.inr rfl,⟨_,_,rfl,.inr rfl,⟨_,_,rfl,.inr rfl,⟨_,_,rfl,.inr rfl,⟨_,_,rfl,.inr rfl,⟨_,_,rfl,.inr rfl,⟨_,_,rfl,.inr rfl,⟨_,_,rfl,.inr rfl,rfl⟩⟩⟩⟩⟩⟩⟩⟩⟩⟩⟩⟩⟩⟩⟩⟩⟩,⟨_,_,rfl,rfl,dz _⟩,⟨_,_,rfl,rfl,dz _⟩,trivial⟩ rfl ?_
 repeat' ((fail_if_success (refine kM 8 ?_));first|refine sz ?_|(refine zc ?_ ?_<;>intro h<;>first|(cases h;done)|rw[h]|skip)|refine tc ?_ (hq:=O)|refine ai.qk kn rfl rfl rfl rfl rfl rfl rfl W rfl ?_)
 refine AK.B5 100027 7 (aa S'.st) (tail:=[]) (env':=[(8,.ptr 8 0),(9,.ptr 3000 0),(10,.c (aF 0)),(11,.ptr 11 0)]) (ts':=[])
  (bs':=[(8,[.c (aF 0),.c (.sl 7 (aa [])),.c (aF 0),.c (aF 0),.c (aF 0),.c (.str []),.c (.sl 7 (aa [])),.c (.sl 2 (aq [])),.c (.sl 5 (aI [])),.c (aF 0),.c (aF 0)]),(11,[.c (aF 0),.own .exact 7 [],.c (aF 0),.c (aF 0),.c (aF 0),.c (.str []),.own .exact 7 [],.own .exact 2 [],.own .exact 5 [],.c (aF S'.used),.c (aF S'.bE)]),(3000,mCz S' 200027)]) rfl (List.append_nil _).symm (gd _) ⟨⟨_,rfl,.inl rfl⟩,⟨_,rfl,.inl rfl⟩,⟨_,rfl,.inl rfl⟩,⟨_,rfl,.inl rfl⟩,trivial⟩ ⟨⟨_,rfl,tX I _⟩,⟨_,rfl,tX I _⟩,⟨_,rfl,⟨I _,I _,I _,I _,.inr ⟨_,rfl,(az _).symm,rfl⟩,tX I _⟩⟩,trivial⟩ rfl trivial ?_
 exact dq
theorem Fe (a b c d g:Int) (H:List Nd) (S':bT)
  (O:cC 43 ⟨a,b,c,d,[],[⟨H,0,0,[]⟩],g,0,0,oL⟩ [] (aF 10) S') :
  ag 24 [.agg [aF a,aF b,aF c,aF d],.sl 5 (aI H),.sl 7 (aa ([])),aF g] (iF 10 [] S'.said S'.used 0):=by
 have Y:=jo [] (Nat.zero_le _);refine qn Tryz.func24 Tryz.call24 fun β hf=>?_
 repeat' ((fail_if_success (refine kM 2 ?_));first|refine ai.iL Tryz.hX kn rfl rfl rfl rfl rfl rfl rfl rfl rfl rfl rfl rfl rfl rfl ?_|refine sz ?_|(refine zc ?_ ?_<;>intro h<;>first|(cases h;done)|rw[h]|skip)|refine ai.xL kn rfl rfl (jy 7) rfl rfl (fun _=>⟨_,_,rfl,.inr rfl,rfl⟩) rfl rfl ?_|refine ai.qk kn rfl rfl rfl rfl rfl rfl rfl Y rfl ?_)
 refine AK.empty 20 4 7 [.c (aF a),.c (aF b),.c (aF c),.c (aF d)] _ rfl rfl rfl rfl ?_;refine AK.vt 4 [] _ rfl (List.nil_append _).symm rfl ?_
 repeat' ((fail_if_success (refine kM 3 ?_));first|refine sz ?_|(refine zc ?_ ?_<;>intro h<;>first|(cases h;done)|rw[h]|skip)|refine ai.qk kn rfl rfl rfl rfl rfl rfl rfl Y rfl ?_)
 refine AK.fW [(8,8),(3000,20),(3001,4),(3002,18)] [] (env':=[(8,.ptr 8 0),(9,.ptr 3000 0)]) (bs':=[(8,[.c (aF 0),.c (.sl 7 (aa [])),.c (aF 0),.c (aF 0),.c (aF 0),.c (.str []),.c (.sl 7 (aa [])),.c (.sl 2 (aq [])),.c (.sl 5 (aI [])),.c (aF 0),.c (aF 0)]),(3000,mC ⟨a,b,c,d,[],[⟨H,0,0,[]⟩],g,0,0,oL⟩ 3001 3002),(3001,ah (sR [])),(3002,ah (fR [⟨H,0,0,[]⟩]))]) (ts':=[]) (us':=[8,3000,3001,3002]) ⟨⟨_,rfl,⟨_,rfl,rfl⟩⟩,⟨_,rfl,⟨_,rfl,rfl⟩⟩,trivial⟩ ⟨⟨_,_,rfl,rfl,⟨_,_,rfl,.inr rfl,⟨_,_,rfl,.inr rfl,⟨_,_,rfl,.inr rfl,⟨_,_,rfl,.inr rfl,⟨_,_,rfl,.inr rfl,⟨_,_,rfl,.inr rfl,⟨_,_,rfl,.inr rfl,⟨_,_,rfl,.inr rfl,⟨_,_,rfl,.inr rfl,⟨_,_,rfl,.inr rfl,⟨_,_,rfl,.inr rfl,rfl⟩⟩⟩⟩⟩⟩⟩⟩⟩⟩⟩⟩,⟨_,_,rfl,rfl,⟨_,_,rfl,.inr rfl,⟨_,_,rfl,.inr rfl,⟨_,_,rfl,.inr rfl,⟨_,_,rfl,.inr rfl,⟨_,_,rfl,⟨_,rfl,rfl⟩,⟨_,_,rfl,⟨_,rfl,rfl⟩,⟨_,_,rfl,.inr rfl,⟨_,_,rfl,.inr rfl,⟨_,_,rfl,.inr rfl,⟨_,_,rfl,.inr rfl,⟨_,_,rfl,.inr rfl,⟨_,_,rfl,.inr rfl,⟨_,_,rfl,.inr rfl,⟨_,_,rfl,.inr rfl,⟨_,_,rfl,.inr rfl,⟨_,_,rfl,.inr rfl,rfl⟩⟩⟩⟩⟩⟩⟩⟩⟩⟩⟩⟩⟩⟩⟩⟩⟩,⟨_,_,rfl,rfl,dz _⟩,⟨_,_,rfl,rfl,dz _⟩,trivial⟩ rfl ?_
 repeat' (first|refine sz ?_|(refine zc ?_ ?_<;>intro h<;>first|(cases h;done)|rw[h]|skip)|refine tc ?_ (hq:=O))
 all_goals rfl
theorem Iu (a b c d g e:Int) (H:List Nd) (S':bT) (u:e≠0) (C:e≠10)
  (O:cC 43 ⟨a,b,c,d,[],[⟨H,0,0,[]⟩],g,0,0,oL⟩ [] (aF e) S') :
  ag 24 [.agg [aF a,aF b,aF c,aF d],.sl 5 (aI H),.sl 7 (aa ([])),aF g] (iF e [] oL S'.used 0):=by
 have Y:=jo [] (Nat.zero_le _);have q:(e==0)=false:=beq_eq_false_iff_ne.2 u;have J:(e==10)=false:=beq_eq_false_iff_ne.2 C;have W:(e != 0)=true:=by simpa using u
 refine qn Tryz.func24 Tryz.call24 fun β hf=>?_
 repeat' ((fail_if_success (refine kM 2 ?_));first|refine ai.iL Tryz.hX kn rfl rfl rfl rfl rfl rfl rfl rfl rfl rfl rfl rfl rfl rfl ?_|refine sz ?_|(refine zc ?_ ?_<;>intro h<;>first|(cases h;done)|rw[h]|skip)|refine ai.xL kn rfl rfl (jy 7) rfl rfl (fun _=>⟨_,_,rfl,.inr rfl,rfl⟩) rfl rfl ?_|refine ai.qk kn rfl rfl rfl rfl rfl rfl rfl Y rfl ?_)
 refine AK.empty 20 4 7 [.c (aF a),.c (aF b),.c (aF c),.c (aF d)] _ rfl rfl rfl rfl ?_;refine AK.vt 4 [] _ rfl (List.nil_append _).symm rfl ?_
 repeat' ((fail_if_success (refine kM 3 ?_));first|refine sz ?_|(refine zc ?_ ?_<;>intro h<;>first|(cases h;done)|rw[h]|skip)|refine ai.qk kn rfl rfl rfl rfl rfl rfl rfl Y rfl ?_)
 refine AK.fW [(8,8),(3000,20),(3001,4),(3002,18)] [] (env':=[(8,.ptr 8 0),(9,.ptr 3000 0)]) (bs':=[(8,[.c (aF 0),.c (.sl 7 (aa [])),.c (aF 0),.c (aF 0),.c (aF 0),.c (.str []),.c (.sl 7 (aa [])),.c (.sl 2 (aq [])),.c (.sl 5 (aI [])),.c (aF 0),.c (aF 0)]),(3000,mC ⟨a,b,c,d,[],[⟨H,0,0,[]⟩],g,0,0,oL⟩ 3001 3002),(3001,ah (sR [])),(3002,ah (fR [⟨H,0,0,[]⟩]))]) (ts':=[]) (us':=[8,3000,3001,3002]) ⟨⟨_,rfl,⟨_,rfl,rfl⟩⟩,⟨_,rfl,⟨_,rfl,rfl⟩⟩,trivial⟩ ⟨⟨_,_,rfl,rfl,⟨_,_,rfl,.inr rfl,⟨_,_,rfl,.inr rfl,⟨_,_,rfl,.inr rfl,⟨_,_,rfl,.inr rfl,⟨_,_,rfl,.inr rfl,⟨_,_,rfl,.inr rfl,⟨_,_,rfl,.inr rfl,⟨_,_,rfl,.inr rfl,⟨_,_,rfl,.inr rfl,⟨_,_,rfl,.inr rfl,⟨_,_,rfl,.inr rfl,rfl⟩⟩⟩⟩⟩⟩⟩⟩⟩⟩⟩⟩,⟨_,_,rfl,rfl,⟨_,_,rfl,.inr rfl,⟨_,_,rfl,.inr rfl,⟨_,_,rfl,.inr rfl,⟨_,_,rfl,.inr rfl,⟨_,_,rfl,⟨_,rfl,rfl⟩,⟨_,_,rfl,⟨_,rfl,rfl⟩,⟨_,_,rfl,.inr rfl,⟨_,_,rfl,.inr rfl,⟨_,_,rfl,.inr rfl,⟨_,_,rfl,.inr rfl,⟨_,_,rfl,.inr rfl,⟨_,_,rfl,.inr rfl,⟨_,_,rfl,.inr rfl,⟨_,_,rfl,.inr rfl,⟨_,_,rfl,.inr rfl,⟨_,_,rfl,.inr rfl,rfl⟩⟩⟩⟩⟩⟩⟩⟩⟩⟩⟩⟩⟩⟩⟩⟩⟩,⟨_,_,rfl,rfl,dz _⟩,⟨_,_,rfl,rfl,dz _⟩,trivial⟩ rfl ?_
 repeat' (first|refine sz ?_|(refine zc ?_ ?_<;>intro h<;>first|(cases h;done)|rw[h]|skip)|refine tc ?_ (hq:=O))
 all_goals rfl
end Go.Proofs
namespace Go.Proofs
open Go.cq
def JD (n:Int):Bool:=bif decide (n>=0)then decide (n<=1152921504606846976)else false
def JC (n:Int):Bool:=bif decide (n>=0)then decide (n<12)else false
def nD (a b c d:Int):Bool:=bif (bif (bif JC a then JC b else false)then JD c else false)then JD d else false
attribute [local irreducible] AK ai bh bt dI dS
theorem Gs (n:Int):ag 37 [aF n] (.bool (JD n)):=by
 unfold JD;cases E:decide (n>=0)with
 | false =>
  refine qn Tryz.func37 Tryz.call37 fun β hf=>?_;exact dq
 | true =>
  refine qn Tryz.func37 Tryz.call37 fun β hf=>?_;exact dq
theorem Gt (n:Int):ag 38 [aF n] (.bool (JC n)):=by
 unfold JC;cases E:decide (n>=0)with
 | false =>
  refine qn Tryz.func38 Tryz.call38 fun β hf=>?_;exact dq
 | true =>
  refine qn Tryz.func38 Tryz.call38 fun β hf=>?_;exact dq
theorem By (a b c d:Int):ag 22 [.agg [aF a,aF b,aF c,aF d]] (.bool (nD a b c d)):=by
 have h1:=Gt a;have h2:=Gt b;have V:=Gs c;have Y:=Gs d;unfold nD;generalize JC a=O at *;generalize JC b=T at *;generalize JD c=J at *;generalize JD d=x4 at *;cases O
 ·refine qn Tryz.func22 Tryz.call22 fun β hf=>?_;exact dq
 cases T
 ·refine qn Tryz.func22 Tryz.call22 fun β hf=>?_;exact dq
 cases J
 ·refine qn Tryz.func22 Tryz.call22 fun β hf=>?_;exact dq
 ·refine qn Tryz.func22 Tryz.call22 fun β hf=>?_;exact dq
def kC:List Ty->List Vl->Bool
 | t::s,v::l=>jV t v&&kC s l
 | _,_=>true
theorem FD {s:List Ty} {l:List Vl} {j:Nat} {t:Ty} {v:Vl} (h1:s[j]?=some t) (h2:l[j]?=some v):kC (s.drop j) (l.drop j)=(jV t v&&kC (s.drop (j+1)) (l.drop (j+1))):=by
 rw[dV h1,dV h2];rfl
attribute [local irreducible] iP jV
theorem VH (a b c d g:Int) (n:Nd) (Y:b8 n<=8589934593) (s:List Ty) (G:aY s<=8589934593) (l:List Vl) (h:¬((iP n s).2=0/\s.length=l.length/\nD a b c d=true)) :
  ag 9 [.agg [aF a,aF b,aF c,aF d],aX n,.sl 2 (aq s),.sl 7 (aa l),aF g] (iF 14 [] oL 0 0):=by
 have h1:=s7 n s Y G;have h2:=By a b c d;have D:=aQ s;have T:=az l;generalize nD a b c d=W at *;generalize iP n s=r at *;obtain⟨⟨t,f⟩,e⟩:=r;obtain⟨V,U,Q,E,N⟩:=n;simp only at h;by_cases P:e=0;rotate_left
 ·have q:(e != 0)=true:=by simpa using P
  clear h h2;refine qn Tryz.func9 Tryz.call9 fun β hf=>?_;exact dq
 subst P;by_cases A:s.length=l.length;rotate_left
 ·have q:((((aq s).length:Nat):Int) != (((aa l).length:Nat):Int))=true:=by rw[bne_iff_ne];omega
  clear h h2;refine qn Tryz.func9 Tryz.call9 fun β hf=>?_;exact dq
 have q:((((aq s).length:Nat):Int) != (((aa l).length:Nat):Int))=false:=by rw[D,T,A];exact bne_self_eq_false _
 cases W with
 | true=>exact absurd ⟨rfl,A,rfl⟩ h
 | false =>
  clear h;refine qn Tryz.func9 Tryz.call9 fun β hf=>?_;exact dq
theorem Oj (a b c d g:Int) (n:Nd) (G:b8 n<=8589934593) (s:List Ty) (D:aY s<=8589934593) (l:List Vl) (hv:aJ l<=8589934593) (K:(iP n s).2=0) (A:s.length=l.length) (hf:nD a b c d=true) (O:Int) (rs:List Vl) (N:Vl) (M J:Int)
  (E:kC s l=true->ag 24 [.agg [aF a,aF b,aF c,aF d],.sl 5 (aI (cF n)),.sl 7 (aa l),aF g] (iF O rs N M J)) :
  ag 9 [.agg [aF a,aF b,aF c,aF d],aX n,.sl 2 (aq s),.sl 7 (aa l),aF g] (bif kC s l then iF O rs N M J else iF 14 [] oL 0 0):=by
 have h1:=s7 n s G D;have h2:=By a b c d;have C:=aQ s;have B:=az l;have z3:=gM l;rw[hf]at h2;generalize iP n s=r at *;obtain⟨⟨t,f⟩,e⟩:=r;obtain⟨u,p,k3,k4,k5⟩:=n;simp only at K;subst K;have c1:((((aq s).length:Nat):Int) != (((aa l).length:Nat):Int))=false:=by rw[C,B,A];exact bne_self_eq_false _
 refine qn Tryz.func9 Tryz.call9 fun β hf=>?_
 repeat' (first|refine sz ?_|(refine zc ?_ ?_<;>intro h<;>first|(cases h;done)|rw[h]|skip)|refine uC rfl h1 ?_|refine uC rfl h2 ?_|((first|refine zt ?_|refine zu ?_ ?_)<;>intro h<;>(fail_if_success (cases h;done))<;>rw[h]))
 refine AK.eK (α:=Nat) (fun j=>j<=l.length/\kC s l=kC (s.drop j) (l.drop j)) (fun j=>l.length-j)
  (fun j=>[(38,.c (.int .i64 j)),(37,.c (.int .i64 (aa l).length)),(36,.c (.sl 7 (aa l))),(2,.c (.sl 2 (aq s))),(3,.c (.sl 7 (aa l))),(4,.c (aF g)),(5,.ptr 5 0),(6,.ptr 6 0),(10,.ptr 10 0)])
  (fun _=>[(5,[.c (aF a),.c (aF b),.c (aF c),.c (aF d)]),(6,[.c (aF u),.c (aF p),.c (aF k3),.c (.str k4),.c (.sl 5 (aI k5))]),(10,[.c (aF 0),.own .exact 7 [],.c (aF 0),.c (aF 0),.c (aF 0),.c (.str []),.own .exact 7 [],.own .exact 2 [],.own .exact 5 [],.c (aF 0),.c (aF 0)])]) (fun _=>[]) [5,6,10] 0
  ⟨Nat.zero_le _,rfl⟩ ⟨.inl rfl,.inl rfl,.inl rfl,.inl rfl,.inl rfl,.inl rfl,.inl rfl,.inl rfl,.inl rfl,trivial⟩ ⟨rfl,rfl,rfl,trivial⟩ trivial rfl rfl rfl ?_
 rintro j ⟨hj,T⟩ jh;rcases fT l j hj with ⟨v,W,U⟩|I
 ·have U8:=xD W;have S:=bB W;obtain⟨V,Y⟩:∃V,s[j]?=some V:=⟨_,List.getElem?_eq_getElem bn⟩
  have Q:=cz (aaw Y);have P:=dO U;have hq:=C2 V v bn bn;rw[FD Y W]at T;have Wq:=ez W;have Xm:=fH Y;clear Q P E;obtain⟨x1,x2,x3,x4,x5,x6,x7⟩:=v;obtain⟨y1,y2⟩:=V;cases H:jV (.mk y1 y2) (.mk x1 x2 x3 x4 x5 x6 x7)with
  | false =>
   rw[H]at hq T;rw[Bool.false_and]at T;rw[T];clear jh;exact dq
  | true =>
   rw[H]at hq T;rw[Bool.true_and]at T
   repeat' (first|refine sz ?_|(refine zc ?_ ?_<;>intro h<;>first|(cases h;done)|rw[h]|skip)|refine uI rfl (j) rfl (Wq) rfl ?_|refine uI rfl (j) rfl (Xm) rfl ?_|refine uC rfl hq ?_|((first|refine zt ?_|refine zu ?_ ?_)<;>intro h<;>(fail_if_success (cases h;done))<;>rw[h]))
   exact AK.again (jh (j+1) ⟨S,T⟩ bn) ⟨.inl (iE (i:=j) bn),.inl rfl,.inl rfl,.inl rfl,.inl rfl,.inl rfl,.inl rfl,.inl rfl,.inl rfl,trivial⟩ ⟨rfl,rfl,rfl,trivial⟩ trivial rfl rfl rfl
 ·have U8:=sU I;have q:kC s l=true:=by rw[T,I,<- A,List.drop_length,A,List.drop_length];rfl
  have hT':=E q;rw[q];clear jh E;exact dq
end Go.Proofs
