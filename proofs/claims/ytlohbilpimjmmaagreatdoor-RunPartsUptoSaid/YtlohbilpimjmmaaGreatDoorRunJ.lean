/- The machine at work. Run of package run. Run of package run: what it asks first. -/
import Derived.Test.YtlohbilpimjmmaaGreatDoorRunG
import Derived.Test.YtlohbilpimjmmaaGreatDoorRunS
set_option maxHeartbeats 0
set_option linter.unusedVariables false
set_option linter.unusedSimpArgs false
set_option maxRecDepth 100000
namespace Go.Proofs
open Go.cu
abbrev fL (S:bT) (F:eO) (t:List eO):bT:={S with fr:={F with pos:=F.pos+1}::t}
inductive ku:Nat->bT->MR->Prop
 | done {k:Nat} {S:bT} (h:S.fr=[]):ku (k+1) S (0,S)
 | fin {k:Nat} {S S':bT} {F:eO} {t:List eO} {e:Int} {r:MR} (h:S.fr=F::t) (hp:F.pos=F.code.length) (ht:t.length<=1000000000) (hc:cE 54 S [.ptr 1000002 (0+t.length*4)] (aF e) S') (he:e≠0->r=(e,S')) (hk:e=0->ku k S' r):ku (k+1) S r
 | seq {k:Nat} {S:bT} {F:eO} {t:List eO} {N P:Int} {s:List UInt8} {args:List Nd} {r:MR} (h:S.fr=F::t) (hp:F.code[F.pos]?=some (.mk 3 N P s args)) (ht:t.length<=1000000000) (hl:F.code.length<=8589934593) (hk:ku k (dr (fL S F t) args 0 []) r):ku (k+1) S r
 | aac {k:Nat} {S:bT} {F:eO} {t:List eO} {N P:Int} {s:List UInt8} {args:List Nd} (h:S.fr=F::t) (hp:F.code[F.pos]?=some (.mk 2 N P s args)) (ht:t.length<=1000000000) (hl:F.code.length<=8589934593) (hg:S.gS<=S.used):ku (k+1) S (12,fL S F t)
 | step {k:Nat} {S S':bT} {F:eO} {t:List eO} {N P:Int} {s:List UInt8} {args:List Nd} {e:Int} {r:MR} (h:S.fr=F::t) (hp:F.code[F.pos]?=some (.mk 2 N P s args)) (ht:t.length<=1000000000) (hl:F.code.length<=8589934593) (hg:S.used<S.gS) (hi:Og S.gS) (hu:0<=S.used)
   (hc:cE 57 {fL S F t with used:=S.used+1} [.c (aW (.mk 2 N P s args))] (aF e) S') (he:e≠0->r=(e,S')) (hk:e=0->ku k S' r):ku (k+1) S r
attribute [local irreducible] AK ai bw bz dJ dN
theorem C0 (k:Nat) (S:bT) (r:MR) (Q:ku k S r):cE 43 S [] (aF r.1) r.2:=by
 refine mn Tryz.func43 Tryz.call43 fun β hf=>?_;refine dnm ?_;refine AK.fY [(1000000,1000000),(3001,1000001),(3002,1000002)] [] (env':=[(0,.ptr 1000000 0)]) (bs':=[(1000000,mC S 3001 3002),(3001,ag (sR S.st)),(3002,ag (fR S.fr))]) (ts':=[]) (us':=[1000000,3001,3002]) ⟨⟨_,rfl,⟨_,rfl,rfl⟩⟩,trivial⟩ (Wh rfl rfl rfl rfl rfl rfl rfl rfl rfl) rfl ?_;refine AK.eM (α:=Nat×bT) (fun z=>ku z.1 z.2 r) (fun z=>z.1) (fun _=>[(0,.ptr 1000000 0)]) (fun z=>[(1000000,mC z.2 3001 3002),(3001,ag (sR z.2.st)),(3002,ag (fR z.2.fr))]) (fun _=>[]) [1000000,3001,3002] (k,S)
  Q ⟨.inl rfl,trivial⟩ ⟨rfl,rfl,rfl,trivial⟩ trivial rfl (XJ S rfl rfl rfl) rfl ?_
 rintro⟨C,T⟩ G ih;simp only at G;clear Q;cases G with
 | done h =>
  obtain⟨a,b,c,d,E,fr,g,u,m,said⟩:=T;simp only at h;subst h;clear ih;exact dm
 | @fin k1 _ S' F t e _ h hp ht hc he hk =>
  obtain⟨a,b,c,d,E,fr,g,u,m,said⟩:=T;obtain⟨B,W,fin,Y⟩:=F;simp only at *;subst h;have A:=xT ⟨B,W,fin,Y⟩ t;have h1:=OI ⟨B,W,fin,Y⟩ t;have Q:IntKind.i64.wrap (((((⟨B,W,fin,Y⟩:eO)::t).length:Nat):Int)-1)=(t.length:Nat):=by
   rw[gZ eg eg];simp only[aaa];omega
  have I:decide (((((⟨B,W,fin,Y⟩:eO)::t).length:Nat):Int)>0)=true:=aan eg;subst hp;have U:=bq B;have K:((B.length:Int)==(((aH B).length:Nat):Int))=true:=beq_iff_eq.2 bn;by_cases O:e=0
  ·have J:(e != 0)=false:=by simpa using O
   replace hk:=hk O;clear he
   repeat' (first|refine mY ?_|(refine zc ?_ ?_<;>intro h<;>first|(cases h;done)|rw[h]|skip)|refine AK.skip ?_|refine AK.seq ?_|refine AK.block ?_|refine AK.exit rfl ?_|refine ai.gG Tryz.hX kn rfl rfl rfl rfl rfl rfl A rfl ?_|refine ai.gG Tryz.hX kn rfl rfl rfl rfl rfl rfl h1 rfl ?_|refine ai.jg Tryz.hX kn rfl rfl rfl rfl rfl rfl rfl rfl rfl t.length Q (Nat.lt_succ_self _) ?_|refine sY ?_ (hq:=hc))
   refine AK.fY [(1000000,1000000),(3001,100037),(3002,200037)] [] (env':=[(0,.ptr 1000000 0)]) (bs':=[(1000000,mC S' 3001 3002),(3001,ag (sR (S').st)),(3002,ag (fR (S').fr))]) (ts':=[]) (us':=[1000000,3001,3002]) ⟨⟨_,rfl,⟨_,rfl,rfl⟩⟩,trivial⟩ (Wh rfl rfl rfl rfl rfl rfl rfl rfl rfl) rfl ?_;exact ih (_,S') (hk) (Nat.lt_succ_self _)
  ·have J:(e != 0)=true:=by simpa using O
   obtain rfl:=he O;clear ih he hk
   repeat' (first|refine mY ?_|(refine zc ?_ ?_<;>intro h<;>first|(cases h;done)|rw[h]|skip)|refine AK.skip ?_|refine AK.seq ?_|refine AK.block ?_|refine AK.exit rfl ?_|refine ai.gG Tryz.hX kn rfl rfl rfl rfl rfl rfl A rfl ?_|refine ai.gG Tryz.hX kn rfl rfl rfl rfl rfl rfl h1 rfl ?_|refine ai.jg Tryz.hX kn rfl rfl rfl rfl rfl rfl rfl rfl rfl t.length Q (Nat.lt_succ_self _) ?_|refine sY ?_ (hq:=hc))
   all_goals rfl
 | @seq k1 _ F t N P s args _ h hp ht hl hk =>
  obtain⟨a,b,c,d,E,fr,g,u,m,said⟩:=T;obtain⟨B,W,fin,Y⟩:=F;simp only at *;subst h;have A:=xT ⟨B,W,fin,Y⟩ t;have h1:=OI ⟨B,W,fin,Y⟩ t;have Q:IntKind.i64.wrap (((((⟨B,W,fin,Y⟩:eO)::t).length:Nat):Int)-1)=(t.length:Nat):=by
   rw[gZ eg eg];simp only[aaa];omega
  have I:decide (((((⟨B,W,fin,Y⟩:eO)::t).length:Nat):Int)>0)=true:=aan eg;have H:=(List.getElem?_eq_some_iff.1 hp).1;have U:=bq B;have K:((W:Int)==(((aH B).length:Nat):Int))=false:=beq_eq_false_iff_ne.2 bn;have M:=dX hp;have hq:dL (0+t.length*4+1) [.c (aF (IntKind.i64.wrap ((W:Int)+1)))] (ag (fR (⟨B,W,fin,Y⟩::t)))=some (ag (fR (⟨B,W+1,fin,Y⟩::t))):=by rw[gZ bn bn];exact DP ⟨B,W,fin,Y⟩ t (W+1)
  have D:=gP ⟨a,b,c,d,E,⟨B,W+1,fin,Y⟩::t,g,u,m,said⟩ args 0 eg
  repeat' (first|refine mY ?_|(refine zc ?_ ?_<;>intro h<;>first|(cases h;done)|rw[h]|skip)|refine AK.skip ?_|refine AK.seq ?_|refine AK.block ?_|refine AK.exit rfl ?_|refine ai.gG Tryz.hX kn rfl rfl rfl rfl rfl rfl A rfl ?_|refine ai.gG Tryz.hX kn rfl rfl rfl rfl rfl rfl h1 rfl ?_|refine ai.jg Tryz.hX kn rfl rfl rfl rfl rfl rfl rfl rfl rfl t.length Q (Nat.lt_succ_self _) ?_|refine uI rfl W rfl M rfl ?_|refine ai.store Tryz.hX kn rfl rfl rfl rfl rfl rfl rfl rfl rfl hq rfl ?_|refine sY ?_ (hq:=D))
  refine AK.fY [(1000000,1000000),(3001,100064),(3002,200064)] [] (env':=[(0,.ptr 1000000 0)]) (bs':=[(1000000,mC (dr ⟨a,b,c,d,E,⟨B,W+1,fin,Y⟩::t,g,u,m,said⟩ args 0 []) 3001 3002),(3001,ag (sR ((dr ⟨a,b,c,d,E,⟨B,W+1,fin,Y⟩::t,g,u,m,said⟩ args 0 [])).st)),(3002,ag (fR ((dr ⟨a,b,c,d,E,⟨B,W+1,fin,Y⟩::t,g,u,m,said⟩ args 0 [])).fr))]) (ts':=[]) (us':=[1000000,3001,3002]) ⟨⟨_,rfl,⟨_,rfl,rfl⟩⟩,trivial⟩ (Wh rfl rfl rfl rfl rfl rfl rfl rfl rfl) rfl ?_;exact ih (_,(dr ⟨a,b,c,d,E,⟨B,W+1,fin,Y⟩::t,g,u,m,said⟩ args 0 [])) (hk) (Nat.lt_succ_self _)
 | @aac k1 _ F t N P s args h hp ht hl hg =>
  obtain⟨a,b,c,d,E,fr,g,u,m,said⟩:=T;obtain⟨B,W,fin,Y⟩:=F;simp only at *;subst h;have A:=xT ⟨B,W,fin,Y⟩ t;have h1:=OI ⟨B,W,fin,Y⟩ t;have Q:IntKind.i64.wrap (((((⟨B,W,fin,Y⟩:eO)::t).length:Nat):Int)-1)=(t.length:Nat):=by
   rw[gZ eg eg];simp only[aaa];omega
  have I:decide (((((⟨B,W,fin,Y⟩:eO)::t).length:Nat):Int)>0)=true:=aan eg;have H:=(List.getElem?_eq_some_iff.1 hp).1;have U:=bq B;have K:((W:Int)==(((aH B).length:Nat):Int))=false:=beq_eq_false_iff_ne.2 bn;have M:=dX hp;have hq:dL (0+t.length*4+1) [.c (aF (IntKind.i64.wrap ((W:Int)+1)))] (ag (fR (⟨B,W,fin,Y⟩::t)))=some (ag (fR (⟨B,W+1,fin,Y⟩::t))):=by rw[gZ bn bn];exact DP ⟨B,W,fin,Y⟩ t (W+1)
  have V:=XK ⟨a,b,c,d,E,⟨B,W+1,fin,Y⟩::t,g,u,m,said⟩ hg;clear ih
  repeat' (first|refine mY ?_|(refine zc ?_ ?_<;>intro h<;>first|(cases h;done)|rw[h]|skip)|refine AK.skip ?_|refine AK.seq ?_|refine AK.block ?_|refine AK.exit rfl ?_|refine ai.gG Tryz.hX kn rfl rfl rfl rfl rfl rfl A rfl ?_|refine ai.gG Tryz.hX kn rfl rfl rfl rfl rfl rfl h1 rfl ?_|refine ai.jg Tryz.hX kn rfl rfl rfl rfl rfl rfl rfl rfl rfl t.length Q (Nat.lt_succ_self _) ?_|refine uI rfl W rfl M rfl ?_|refine ai.store Tryz.hX kn rfl rfl rfl rfl rfl rfl rfl rfl rfl hq rfl ?_|refine sY ?_ (hq:=V))
  all_goals rfl
 | @step k1 _ S' F t N P s args e _ h hp ht hl hg hi hu hc he hk =>
  obtain⟨a,b,c,d,E,fr,g,u,m,said⟩:=T;obtain⟨B,W,fin,Y⟩:=F;simp only at *;subst h;have A:=xT ⟨B,W,fin,Y⟩ t;have h1:=OI ⟨B,W,fin,Y⟩ t;have Q:IntKind.i64.wrap (((((⟨B,W,fin,Y⟩:eO)::t).length:Nat):Int)-1)=(t.length:Nat):=by
   rw[gZ eg eg];simp only[aaa];omega
  have I:decide (((((⟨B,W,fin,Y⟩:eO)::t).length:Nat):Int)>0)=true:=aan eg;have H:=(List.getElem?_eq_some_iff.1 hp).1;have U:=bq B;have K:((W:Int)==(((aH B).length:Nat):Int))=false:=beq_eq_false_iff_ne.2 bn;have M:=dX hp;have hq:dL (0+t.length*4+1) [.c (aF (IntKind.i64.wrap ((W:Int)+1)))] (ag (fR (⟨B,W,fin,Y⟩::t)))=some (ag (fR (⟨B,W+1,fin,Y⟩::t))):=by rw[gZ bn bn];exact DP ⟨B,W,fin,Y⟩ t (W+1)
  have V:=XL ⟨a,b,c,d,E,⟨B,W+1,fin,Y⟩::t,g,u,m,said⟩ hg hi hu;by_cases O:e=0
  ·have J:(e != 0)=false:=by simpa using O
   replace hk:=hk O;clear he
   repeat' (first|refine mY ?_|(refine zc ?_ ?_<;>intro h<;>first|(cases h;done)|rw[h]|skip)|refine AK.skip ?_|refine AK.seq ?_|refine AK.block ?_|refine AK.exit rfl ?_|refine ai.gG Tryz.hX kn rfl rfl rfl rfl rfl rfl A rfl ?_|refine ai.gG Tryz.hX kn rfl rfl rfl rfl rfl rfl h1 rfl ?_|refine ai.jg Tryz.hX kn rfl rfl rfl rfl rfl rfl rfl rfl rfl t.length Q (Nat.lt_succ_self _) ?_|refine uI rfl W rfl M rfl ?_|refine ai.store Tryz.hX kn rfl rfl rfl rfl rfl rfl rfl rfl rfl hq rfl ?_|refine sY ?_ (hq:=V)|refine sY ?_ (hq:=hc))
   refine AK.fY [(1000000,1000000),(3001,100075),(3002,200075)] [] (env':=[(0,.ptr 1000000 0)]) (bs':=[(1000000,mC S' 3001 3002),(3001,ag (sR (S').st)),(3002,ag (fR (S').fr))]) (ts':=[]) (us':=[1000000,3001,3002]) ⟨⟨_,rfl,⟨_,rfl,rfl⟩⟩,trivial⟩ (Wh rfl rfl rfl rfl rfl rfl rfl rfl rfl) rfl ?_;exact ih (_,S') (hk) (Nat.lt_succ_self _)
  ·have J:(e != 0)=true:=by simpa using O
   obtain rfl:=he O;clear ih he hk
   repeat' (first|refine mY ?_|(refine zc ?_ ?_<;>intro h<;>first|(cases h;done)|rw[h]|skip)|refine AK.skip ?_|refine AK.seq ?_|refine AK.block ?_|refine AK.exit rfl ?_|refine ai.gG Tryz.hX kn rfl rfl rfl rfl rfl rfl A rfl ?_|refine ai.gG Tryz.hX kn rfl rfl rfl rfl rfl rfl h1 rfl ?_|refine ai.jg Tryz.hX kn rfl rfl rfl rfl rfl rfl rfl rfl rfl t.length Q (Nat.lt_succ_self _) ?_|refine uI rfl W rfl M rfl ?_|refine ai.store Tryz.hX kn rfl rfl rfl rfl rfl rfl rfl rfl rfl hq rfl ?_|refine sY ?_ (hq:=V)|refine sY ?_ (hq:=hc))
   all_goals rfl
end Go.Proofs
namespace Go.Proofs
open Go.cu
def kr (c:Int) (st:List Vl) (said:Vl) (g mt:Int):CV := .agg [aF c,.sl 7 (aa st),aF (vK said),aF (vN said),aF (xA said),.str (vS said),.sl 7 (aa (eo said)),.sl 2 (aE (LX said)),.sl 5 (aH (yI said)),aF g,aF mt]
attribute [local irreducible] AK ai bw bz dJ dN
def mCz (S:bT) (b:Nat):List AV:=[.c (aF S.self),.c (aF S.gU),.c (aF S.gV),.c (aF S.balance),.c (.sl 7 (aa S.st)),.gy b 0 4 S.fr.length,.c (aF S.gS),.c (aF S.used),.c (aF S.aU),
 .c (aF (vK S.said)),.c (aF (vN S.said)),.c (aF (xA S.said)),.c (.str (vS S.said)),.c (.sl 7 (aa (eo S.said))),.c (.sl 2 (aE (LX S.said))),.c (.sl 5 (aH (yI S.said)))]
theorem A5 (a b c d g:Int) (B:List Nd) (x:Vl) (q:List Vl) (S':bT) (hq:q.length<=1000000000) (V:S'.st.length<=1000000000)
  (Q:cE 43 ⟨a,b,c,d,x::q,[⟨B,0,0,[]⟩],g,0,0,oO⟩ [] (aF 0) S') :
  ah 24 [.agg [aF a,aF b,aF c,aF d],.sl 5 (aH B),.sl 7 (aa (x::q)),aF g] (kr 0 S'.st oO S'.used S'.aU):=by
 have G:=fo x q bn;have W:=jr (x::q) eg;have Y:=jr S'.st.reverse P0;rw[aaB,List.reverse_reverse]at Y;have I:∀x,T8 100027 7 (aa S'.st) x x:=fun _ => .inl rfl;refine qn Tryz.func24 Tryz.call24 fun β hf=>?_
 repeat' ((fail_if_success (refine kI 3 ?_));first|refine ai.iL Tryz.hX kn rfl rfl rfl rfl rfl rfl rfl rfl rfl rfl rfl rfl rfl rfl ?_|refine sz ?_|(refine zc ?_ ?_<;>intro h<;>first|(cases h;done)|rw[h]|skip)|refine ai.lz kn rfl rfl rfl rfl rfl rfl G rfl ?_|refine ai.qi kn rfl rfl rfl rfl rfl rfl rfl W rfl ?_)
 refine AK.fY [(8,8),(3000,20),(3001,14),(3002,18)] [] (env':=[(8,.ptr 8 0),(9,.ptr 3000 0)]) (bs':=[(8,[.c (aF 0),.c (.sl 7 (aa [])),.c (aF 0),.c (aF 0),.c (aF 0),.c (.str []),.c (.sl 7 (aa [])),.c (.sl 2 (aE [])),.c (.sl 5 (aH [])),.c (aF 0),.c (aF 0)]),(3000,mC ⟨a,b,c,d,(x::q),[⟨B,0,0,[]⟩],g,0,0,oO⟩ 3001 3002),(3001,ag (sR (x::q))),(3002,ag (fR [⟨B,0,0,[]⟩]))]) (ts':=[]) (us':=[8,3000,3001,3002]) ⟨⟨_,rfl,⟨_,rfl,rfl⟩⟩,⟨_,rfl,⟨_,rfl,rfl⟩⟩,trivial⟩ ⟨⟨_,_,rfl,rfl,⟨_,_,rfl,.inr rfl,⟨_,_,rfl,.inr rfl,⟨_,_,rfl,.inr rfl,⟨_,_,rfl,.inr rfl,⟨_,_,rfl,.inr rfl,⟨_,_,rfl,.inr rfl,⟨_,_,rfl,.inr rfl,⟨_,_,rfl,.inr rfl,⟨_,_,rfl,.inr rfl,⟨_,_,rfl,.inr rfl,⟨_,_,rfl,.inr rfl,rfl⟩⟩⟩⟩⟩⟩⟩⟩⟩⟩⟩⟩,⟨_,_,rfl,rfl,⟨_,_,rfl,.inr rfl,⟨_,_,rfl,.inr rfl,⟨_,_,rfl,.inr rfl,⟨_,_,rfl,.inr rfl,⟨_,_,rfl,⟨_,rfl,rfl⟩,⟨_,_,rfl,⟨_,rfl,rfl⟩,⟨_,_,rfl,.inr rfl,⟨_,_,rfl,.inr rfl,⟨_,_,rfl,.inr rfl,⟨_,_,rfl,.inr rfl,⟨_,_,rfl,.inr rfl,⟨_,_,rfl,.inr rfl,⟨_,_,rfl,.inr rfl,⟨_,_,rfl,.inr rfl,⟨_,_,rfl,.inr rfl,⟨_,_,rfl,.inr rfl,rfl⟩⟩⟩⟩⟩⟩⟩⟩⟩⟩⟩⟩⟩⟩⟩⟩⟩,⟨_,_,rfl,rfl,dD _⟩,⟨_,_,rfl,rfl,dD _⟩,trivial⟩ rfl ?_
 repeat' ((fail_if_success (refine kI 8 ?_));first|refine sz ?_|(refine zc ?_ ?_<;>intro h<;>first|(cases h;done)|rw[h]|skip)|refine sY ?_ (hq:=Q)|refine ai.qi kn rfl rfl rfl rfl rfl rfl rfl Y rfl ?_)
 refine AK.BZ 100027 7 (aa S'.st) (tail:=[]) (env':=[(8,.ptr 8 0),(9,.ptr 3000 0),(10,.c (aF 0)),(11,.ptr 11 0)]) (ts':=[])
  (bs':=[(8,[.c (aF 0),.c (.sl 7 (aa [])),.c (aF 0),.c (aF 0),.c (aF 0),.c (.str []),.c (.sl 7 (aa [])),.c (.sl 2 (aE [])),.c (.sl 5 (aH [])),.c (aF 0),.c (aF 0)]),(11,[.c (aF 0),.own .exact 7 [],.c (aF 0),.c (aF 0),.c (aF 0),.c (.str []),.own .exact 7 [],.own .exact 2 [],.own .exact 5 [],.c (aF S'.used),.c (aF S'.aU)]),(3000,mCz S' 200027)]) rfl (List.append_nil _).symm (gk _) ⟨⟨_,rfl,.inl rfl⟩,⟨_,rfl,.inl rfl⟩,⟨_,rfl,.inl rfl⟩,⟨_,rfl,.inl rfl⟩,trivial⟩ ⟨⟨_,rfl,tM I _⟩,⟨_,rfl,tM I _⟩,⟨_,rfl,⟨I _,I _,I _,I _,.inr ⟨_,rfl,(az _).symm,rfl⟩,tM I _⟩⟩,trivial⟩ rfl trivial ?_
 exact dq
theorem E6 (a b c d g:Int) (B:List Nd) (x:Vl) (q:List Vl) (S':bT) (hq:q.length<=1000000000)
  (Q:cE 43 ⟨a,b,c,d,x::q,[⟨B,0,0,[]⟩],g,0,0,oO⟩ [] (aF 10) S') :
  ah 24 [.agg [aF a,aF b,aF c,aF d],.sl 5 (aH B),.sl 7 (aa (x::q)),aF g] (kr 10 [] S'.said S'.used 0):=by
 have G:=fo x q bn;have Y:=jr (x::q) eg;refine qn Tryz.func24 Tryz.call24 fun β hf=>?_
 repeat' ((fail_if_success (refine kI 3 ?_));first|refine ai.iL Tryz.hX kn rfl rfl rfl rfl rfl rfl rfl rfl rfl rfl rfl rfl rfl rfl ?_|refine sz ?_|(refine zc ?_ ?_<;>intro h<;>first|(cases h;done)|rw[h]|skip)|refine ai.lz kn rfl rfl rfl rfl rfl rfl G rfl ?_|refine ai.qi kn rfl rfl rfl rfl rfl rfl rfl Y rfl ?_)
 refine AK.fY [(8,8),(3000,20),(3001,14),(3002,18)] [] (env':=[(8,.ptr 8 0),(9,.ptr 3000 0)]) (bs':=[(8,[.c (aF 0),.c (.sl 7 (aa [])),.c (aF 0),.c (aF 0),.c (aF 0),.c (.str []),.c (.sl 7 (aa [])),.c (.sl 2 (aE [])),.c (.sl 5 (aH [])),.c (aF 0),.c (aF 0)]),(3000,mC ⟨a,b,c,d,(x::q),[⟨B,0,0,[]⟩],g,0,0,oO⟩ 3001 3002),(3001,ag (sR (x::q))),(3002,ag (fR [⟨B,0,0,[]⟩]))]) (ts':=[]) (us':=[8,3000,3001,3002]) ⟨⟨_,rfl,⟨_,rfl,rfl⟩⟩,⟨_,rfl,⟨_,rfl,rfl⟩⟩,trivial⟩ ⟨⟨_,_,rfl,rfl,⟨_,_,rfl,.inr rfl,⟨_,_,rfl,.inr rfl,⟨_,_,rfl,.inr rfl,⟨_,_,rfl,.inr rfl,⟨_,_,rfl,.inr rfl,⟨_,_,rfl,.inr rfl,⟨_,_,rfl,.inr rfl,⟨_,_,rfl,.inr rfl,⟨_,_,rfl,.inr rfl,⟨_,_,rfl,.inr rfl,⟨_,_,rfl,.inr rfl,rfl⟩⟩⟩⟩⟩⟩⟩⟩⟩⟩⟩⟩,⟨_,_,rfl,rfl,⟨_,_,rfl,.inr rfl,⟨_,_,rfl,.inr rfl,⟨_,_,rfl,.inr rfl,⟨_,_,rfl,.inr rfl,⟨_,_,rfl,⟨_,rfl,rfl⟩,⟨_,_,rfl,⟨_,rfl,rfl⟩,⟨_,_,rfl,.inr rfl,⟨_,_,rfl,.inr rfl,⟨_,_,rfl,.inr rfl,⟨_,_,rfl,.inr rfl,⟨_,_,rfl,.inr rfl,⟨_,_,rfl,.inr rfl,⟨_,_,rfl,.inr rfl,⟨_,_,rfl,.inr rfl,⟨_,_,rfl,.inr rfl,⟨_,_,rfl,.inr rfl,rfl⟩⟩⟩⟩⟩⟩⟩⟩⟩⟩⟩⟩⟩⟩⟩⟩⟩,⟨_,_,rfl,rfl,dD _⟩,⟨_,_,rfl,rfl,dD _⟩,trivial⟩ rfl ?_
 repeat' (first|refine sz ?_|(refine zc ?_ ?_<;>intro h<;>first|(cases h;done)|rw[h]|skip)|refine sY ?_ (hq:=Q))
 all_goals rfl
theorem Ii (a b c d g e:Int) (B:List Nd) (x:Vl) (q:List Vl) (S':bT) (hq:q.length<=1000000000) (S:e≠0) (A:e≠10)
  (Q:cE 43 ⟨a,b,c,d,x::q,[⟨B,0,0,[]⟩],g,0,0,oO⟩ [] (aF e) S') :
  ah 24 [.agg [aF a,aF b,aF c,aF d],.sl 5 (aH B),.sl 7 (aa (x::q)),aF g] (kr e [] oO S'.used 0):=by
 have G:=fo x q bn;have Y:=jr (x::q) eg;have W:(e==0)=false:=beq_eq_false_iff_ne.2 S;have J:(e==10)=false:=beq_eq_false_iff_ne.2 A;have V:(e != 0)=true:=by simpa using S
 refine qn Tryz.func24 Tryz.call24 fun β hf=>?_
 repeat' ((fail_if_success (refine kI 3 ?_));first|refine ai.iL Tryz.hX kn rfl rfl rfl rfl rfl rfl rfl rfl rfl rfl rfl rfl rfl rfl ?_|refine sz ?_|(refine zc ?_ ?_<;>intro h<;>first|(cases h;done)|rw[h]|skip)|refine ai.lz kn rfl rfl rfl rfl rfl rfl G rfl ?_|refine ai.qi kn rfl rfl rfl rfl rfl rfl rfl Y rfl ?_)
 refine AK.fY [(8,8),(3000,20),(3001,14),(3002,18)] [] (env':=[(8,.ptr 8 0),(9,.ptr 3000 0)]) (bs':=[(8,[.c (aF 0),.c (.sl 7 (aa [])),.c (aF 0),.c (aF 0),.c (aF 0),.c (.str []),.c (.sl 7 (aa [])),.c (.sl 2 (aE [])),.c (.sl 5 (aH [])),.c (aF 0),.c (aF 0)]),(3000,mC ⟨a,b,c,d,(x::q),[⟨B,0,0,[]⟩],g,0,0,oO⟩ 3001 3002),(3001,ag (sR (x::q))),(3002,ag (fR [⟨B,0,0,[]⟩]))]) (ts':=[]) (us':=[8,3000,3001,3002]) ⟨⟨_,rfl,⟨_,rfl,rfl⟩⟩,⟨_,rfl,⟨_,rfl,rfl⟩⟩,trivial⟩ ⟨⟨_,_,rfl,rfl,⟨_,_,rfl,.inr rfl,⟨_,_,rfl,.inr rfl,⟨_,_,rfl,.inr rfl,⟨_,_,rfl,.inr rfl,⟨_,_,rfl,.inr rfl,⟨_,_,rfl,.inr rfl,⟨_,_,rfl,.inr rfl,⟨_,_,rfl,.inr rfl,⟨_,_,rfl,.inr rfl,⟨_,_,rfl,.inr rfl,⟨_,_,rfl,.inr rfl,rfl⟩⟩⟩⟩⟩⟩⟩⟩⟩⟩⟩⟩,⟨_,_,rfl,rfl,⟨_,_,rfl,.inr rfl,⟨_,_,rfl,.inr rfl,⟨_,_,rfl,.inr rfl,⟨_,_,rfl,.inr rfl,⟨_,_,rfl,⟨_,rfl,rfl⟩,⟨_,_,rfl,⟨_,rfl,rfl⟩,⟨_,_,rfl,.inr rfl,⟨_,_,rfl,.inr rfl,⟨_,_,rfl,.inr rfl,⟨_,_,rfl,.inr rfl,⟨_,_,rfl,.inr rfl,⟨_,_,rfl,.inr rfl,⟨_,_,rfl,.inr rfl,⟨_,_,rfl,.inr rfl,⟨_,_,rfl,.inr rfl,⟨_,_,rfl,.inr rfl,rfl⟩⟩⟩⟩⟩⟩⟩⟩⟩⟩⟩⟩⟩⟩⟩⟩⟩,⟨_,_,rfl,rfl,dD _⟩,⟨_,_,rfl,rfl,dD _⟩,trivial⟩ rfl ?_
 repeat' (first|refine sz ?_|(refine zc ?_ ?_<;>intro h<;>first|(cases h;done)|rw[h]|skip)|refine sY ?_ (hq:=Q))
 all_goals rfl
theorem KJ (a b c d g:Int) (B:List Nd) (S':bT) (V:S'.st.length<=1000000000)
  (Q:cE 43 ⟨a,b,c,d,[],[⟨B,0,0,[]⟩],g,0,0,oO⟩ [] (aF 0) S') :
  ah 24 [.agg [aF a,aF b,aF c,aF d],.sl 5 (aH B),.sl 7 (aa ([])),aF g] (kr 0 S'.st oO S'.used S'.aU):=by
 have Y:=jr [] (Nat.zero_le _);have W:=jr S'.st.reverse P0;rw[aaB,List.reverse_reverse]at W;have I:∀x,T8 100027 7 (aa S'.st) x x:=fun _ => .inl rfl;refine qn Tryz.func24 Tryz.call24 fun β hf=>?_
 repeat' ((fail_if_success (refine kI 2 ?_));first|refine ai.iL Tryz.hX kn rfl rfl rfl rfl rfl rfl rfl rfl rfl rfl rfl rfl rfl rfl ?_|refine sz ?_|(refine zc ?_ ?_<;>intro h<;>first|(cases h;done)|rw[h]|skip)|refine ai.xE kn rfl rfl (jA 7) rfl rfl (fun _=>⟨_,_,rfl,.inr rfl,rfl⟩) rfl rfl ?_|refine ai.qi kn rfl rfl rfl rfl rfl rfl rfl Y rfl ?_)
 refine AK.empty 20 4 7 [.c (aF a),.c (aF b),.c (aF c),.c (aF d)] _ rfl rfl rfl rfl ?_;refine AK.vm 4 [] _ rfl (List.nil_append _).symm rfl ?_
 repeat' ((fail_if_success (refine kI 3 ?_));first|refine sz ?_|(refine zc ?_ ?_<;>intro h<;>first|(cases h;done)|rw[h]|skip)|refine ai.qi kn rfl rfl rfl rfl rfl rfl rfl Y rfl ?_)
 refine AK.fY [(8,8),(3000,20),(3001,4),(3002,18)] [] (env':=[(8,.ptr 8 0),(9,.ptr 3000 0)]) (bs':=[(8,[.c (aF 0),.c (.sl 7 (aa [])),.c (aF 0),.c (aF 0),.c (aF 0),.c (.str []),.c (.sl 7 (aa [])),.c (.sl 2 (aE [])),.c (.sl 5 (aH [])),.c (aF 0),.c (aF 0)]),(3000,mC ⟨a,b,c,d,[],[⟨B,0,0,[]⟩],g,0,0,oO⟩ 3001 3002),(3001,ag (sR [])),(3002,ag (fR [⟨B,0,0,[]⟩]))]) (ts':=[]) (us':=[8,3000,3001,3002]) ⟨⟨_,rfl,⟨_,rfl,rfl⟩⟩,⟨_,rfl,⟨_,rfl,rfl⟩⟩,trivial⟩ ⟨⟨_,_,rfl,rfl,⟨_,_,rfl,.inr rfl,⟨_,_,rfl,.inr rfl,⟨_,_,rfl,.inr rfl,⟨_,_,rfl,.inr rfl,⟨_,_,rfl,.inr rfl,⟨_,_,rfl,.inr rfl,⟨_,_,rfl,.inr rfl,⟨_,_,rfl,.inr rfl,⟨_,_,rfl,.inr rfl,⟨_,_,rfl,.inr rfl,⟨_,_,rfl,.inr rfl,rfl⟩⟩⟩⟩⟩⟩⟩⟩⟩⟩⟩⟩,⟨_,_,rfl,rfl,⟨_,_,rfl,.inr rfl,⟨_,_,rfl,.inr rfl,⟨_,_,rfl,.inr rfl,⟨_,_,rfl,.inr rfl,⟨_,_,rfl,⟨_,rfl,rfl⟩,⟨_,_,rfl,⟨_,rfl,rfl⟩,⟨_,_,rfl,.inr rfl,⟨_,_,rfl,.inr rfl,⟨_,_,rfl,.inr rfl,⟨_,_,rfl,.inr rfl,⟨_,_,rfl,.inr rfl,⟨_,_,rfl,.inr rfl,⟨_,_,rfl,.inr rfl,⟨_,_,rfl,.inr rfl,⟨_,_,rfl,.inr rfl,⟨_,_,rfl,.inr rfl,rfl⟩⟩⟩⟩⟩⟩⟩⟩⟩⟩⟩⟩⟩⟩⟩⟩⟩,⟨_,_,rfl,rfl,dD _⟩,⟨_,_,rfl,rfl,dD _⟩,trivial⟩ rfl ?_
 repeat' ((fail_if_success (refine kI 8 ?_));first|refine sz ?_|(refine zc ?_ ?_<;>intro h<;>first|(cases h;done)|rw[h]|skip)|refine sY ?_ (hq:=Q)|refine ai.qi kn rfl rfl rfl rfl rfl rfl rfl W rfl ?_)
 refine AK.BZ 100027 7 (aa S'.st) (tail:=[]) (env':=[(8,.ptr 8 0),(9,.ptr 3000 0),(10,.c (aF 0)),(11,.ptr 11 0)]) (ts':=[])
  (bs':=[(8,[.c (aF 0),.c (.sl 7 (aa [])),.c (aF 0),.c (aF 0),.c (aF 0),.c (.str []),.c (.sl 7 (aa [])),.c (.sl 2 (aE [])),.c (.sl 5 (aH [])),.c (aF 0),.c (aF 0)]),(11,[.c (aF 0),.own .exact 7 [],.c (aF 0),.c (aF 0),.c (aF 0),.c (.str []),.own .exact 7 [],.own .exact 2 [],.own .exact 5 [],.c (aF S'.used),.c (aF S'.aU)]),(3000,mCz S' 200027)]) rfl (List.append_nil _).symm (gk _) ⟨⟨_,rfl,.inl rfl⟩,⟨_,rfl,.inl rfl⟩,⟨_,rfl,.inl rfl⟩,⟨_,rfl,.inl rfl⟩,trivial⟩ ⟨⟨_,rfl,tM I _⟩,⟨_,rfl,tM I _⟩,⟨_,rfl,⟨I _,I _,I _,I _,.inr ⟨_,rfl,(az _).symm,rfl⟩,tM I _⟩⟩,trivial⟩ rfl trivial ?_
 exact dq
theorem E5 (a b c d g:Int) (B:List Nd) (S':bT)
  (Q:cE 43 ⟨a,b,c,d,[],[⟨B,0,0,[]⟩],g,0,0,oO⟩ [] (aF 10) S') :
  ah 24 [.agg [aF a,aF b,aF c,aF d],.sl 5 (aH B),.sl 7 (aa ([])),aF g] (kr 10 [] S'.said S'.used 0):=by
 have Y:=jr [] (Nat.zero_le _);refine qn Tryz.func24 Tryz.call24 fun β hf=>?_
 repeat' ((fail_if_success (refine kI 2 ?_));first|refine ai.iL Tryz.hX kn rfl rfl rfl rfl rfl rfl rfl rfl rfl rfl rfl rfl rfl rfl ?_|refine sz ?_|(refine zc ?_ ?_<;>intro h<;>first|(cases h;done)|rw[h]|skip)|refine ai.xE kn rfl rfl (jA 7) rfl rfl (fun _=>⟨_,_,rfl,.inr rfl,rfl⟩) rfl rfl ?_|refine ai.qi kn rfl rfl rfl rfl rfl rfl rfl Y rfl ?_)
 refine AK.empty 20 4 7 [.c (aF a),.c (aF b),.c (aF c),.c (aF d)] _ rfl rfl rfl rfl ?_;refine AK.vm 4 [] _ rfl (List.nil_append _).symm rfl ?_
 repeat' ((fail_if_success (refine kI 3 ?_));first|refine sz ?_|(refine zc ?_ ?_<;>intro h<;>first|(cases h;done)|rw[h]|skip)|refine ai.qi kn rfl rfl rfl rfl rfl rfl rfl Y rfl ?_)
 refine AK.fY [(8,8),(3000,20),(3001,4),(3002,18)] [] (env':=[(8,.ptr 8 0),(9,.ptr 3000 0)]) (bs':=[(8,[.c (aF 0),.c (.sl 7 (aa [])),.c (aF 0),.c (aF 0),.c (aF 0),.c (.str []),.c (.sl 7 (aa [])),.c (.sl 2 (aE [])),.c (.sl 5 (aH [])),.c (aF 0),.c (aF 0)]),(3000,mC ⟨a,b,c,d,[],[⟨B,0,0,[]⟩],g,0,0,oO⟩ 3001 3002),(3001,ag (sR [])),(3002,ag (fR [⟨B,0,0,[]⟩]))]) (ts':=[]) (us':=[8,3000,3001,3002]) ⟨⟨_,rfl,⟨_,rfl,rfl⟩⟩,⟨_,rfl,⟨_,rfl,rfl⟩⟩,trivial⟩ ⟨⟨_,_,rfl,rfl,⟨_,_,rfl,.inr rfl,⟨_,_,rfl,.inr rfl,⟨_,_,rfl,.inr rfl,⟨_,_,rfl,.inr rfl,⟨_,_,rfl,.inr rfl,⟨_,_,rfl,.inr rfl,⟨_,_,rfl,.inr rfl,⟨_,_,rfl,.inr rfl,⟨_,_,rfl,.inr rfl,⟨_,_,rfl,.inr rfl,⟨_,_,rfl,.inr rfl,rfl⟩⟩⟩⟩⟩⟩⟩⟩⟩⟩⟩⟩,⟨_,_,rfl,rfl,⟨_,_,rfl,.inr rfl,⟨_,_,rfl,.inr rfl,⟨_,_,rfl,.inr rfl,⟨_,_,rfl,.inr rfl,⟨_,_,rfl,⟨_,rfl,rfl⟩,⟨_,_,rfl,⟨_,rfl,rfl⟩,⟨_,_,rfl,.inr rfl,⟨_,_,rfl,.inr rfl,⟨_,_,rfl,.inr rfl,⟨_,_,rfl,.inr rfl,⟨_,_,rfl,.inr rfl,⟨_,_,rfl,.inr rfl,⟨_,_,rfl,.inr rfl,⟨_,_,rfl,.inr rfl,⟨_,_,rfl,.inr rfl,⟨_,_,rfl,.inr rfl,rfl⟩⟩⟩⟩⟩⟩⟩⟩⟩⟩⟩⟩⟩⟩⟩⟩⟩,⟨_,_,rfl,rfl,dD _⟩,⟨_,_,rfl,rfl,dD _⟩,trivial⟩ rfl ?_
 repeat' (first|refine sz ?_|(refine zc ?_ ?_<;>intro h<;>first|(cases h;done)|rw[h]|skip)|refine sY ?_ (hq:=Q))
 all_goals rfl
theorem Ih (a b c d g e:Int) (B:List Nd) (S':bT) (S:e≠0) (A:e≠10)
  (Q:cE 43 ⟨a,b,c,d,[],[⟨B,0,0,[]⟩],g,0,0,oO⟩ [] (aF e) S') :
  ah 24 [.agg [aF a,aF b,aF c,aF d],.sl 5 (aH B),.sl 7 (aa ([])),aF g] (kr e [] oO S'.used 0):=by
 have Y:=jr [] (Nat.zero_le _);have W:(e==0)=false:=beq_eq_false_iff_ne.2 S;have J:(e==10)=false:=beq_eq_false_iff_ne.2 A;have V:(e != 0)=true:=by simpa using S
 refine qn Tryz.func24 Tryz.call24 fun β hf=>?_
 repeat' ((fail_if_success (refine kI 2 ?_));first|refine ai.iL Tryz.hX kn rfl rfl rfl rfl rfl rfl rfl rfl rfl rfl rfl rfl rfl rfl ?_|refine sz ?_|(refine zc ?_ ?_<;>intro h<;>first|(cases h;done)|rw[h]|skip)|refine ai.xE kn rfl rfl (jA 7) rfl rfl (fun _=>⟨_,_,rfl,.inr rfl,rfl⟩) rfl rfl ?_|refine ai.qi kn rfl rfl rfl rfl rfl rfl rfl Y rfl ?_)
 refine AK.empty 20 4 7 [.c (aF a),.c (aF b),.c (aF c),.c (aF d)] _ rfl rfl rfl rfl ?_;refine AK.vm 4 [] _ rfl (List.nil_append _).symm rfl ?_
 repeat' ((fail_if_success (refine kI 3 ?_));first|refine sz ?_|(refine zc ?_ ?_<;>intro h<;>first|(cases h;done)|rw[h]|skip)|refine ai.qi kn rfl rfl rfl rfl rfl rfl rfl Y rfl ?_)
 refine AK.fY [(8,8),(3000,20),(3001,4),(3002,18)] [] (env':=[(8,.ptr 8 0),(9,.ptr 3000 0)]) (bs':=[(8,[.c (aF 0),.c (.sl 7 (aa [])),.c (aF 0),.c (aF 0),.c (aF 0),.c (.str []),.c (.sl 7 (aa [])),.c (.sl 2 (aE [])),.c (.sl 5 (aH [])),.c (aF 0),.c (aF 0)]),(3000,mC ⟨a,b,c,d,[],[⟨B,0,0,[]⟩],g,0,0,oO⟩ 3001 3002),(3001,ag (sR [])),(3002,ag (fR [⟨B,0,0,[]⟩]))]) (ts':=[]) (us':=[8,3000,3001,3002]) ⟨⟨_,rfl,⟨_,rfl,rfl⟩⟩,⟨_,rfl,⟨_,rfl,rfl⟩⟩,trivial⟩ ⟨⟨_,_,rfl,rfl,⟨_,_,rfl,.inr rfl,⟨_,_,rfl,.inr rfl,⟨_,_,rfl,.inr rfl,⟨_,_,rfl,.inr rfl,⟨_,_,rfl,.inr rfl,⟨_,_,rfl,.inr rfl,⟨_,_,rfl,.inr rfl,⟨_,_,rfl,.inr rfl,⟨_,_,rfl,.inr rfl,⟨_,_,rfl,.inr rfl,⟨_,_,rfl,.inr rfl,rfl⟩⟩⟩⟩⟩⟩⟩⟩⟩⟩⟩⟩,⟨_,_,rfl,rfl,⟨_,_,rfl,.inr rfl,⟨_,_,rfl,.inr rfl,⟨_,_,rfl,.inr rfl,⟨_,_,rfl,.inr rfl,⟨_,_,rfl,⟨_,rfl,rfl⟩,⟨_,_,rfl,⟨_,rfl,rfl⟩,⟨_,_,rfl,.inr rfl,⟨_,_,rfl,.inr rfl,⟨_,_,rfl,.inr rfl,⟨_,_,rfl,.inr rfl,⟨_,_,rfl,.inr rfl,⟨_,_,rfl,.inr rfl,⟨_,_,rfl,.inr rfl,⟨_,_,rfl,.inr rfl,⟨_,_,rfl,.inr rfl,⟨_,_,rfl,.inr rfl,rfl⟩⟩⟩⟩⟩⟩⟩⟩⟩⟩⟩⟩⟩⟩⟩⟩⟩,⟨_,_,rfl,rfl,dD _⟩,⟨_,_,rfl,rfl,dD _⟩,trivial⟩ rfl ?_
 repeat' (first|refine sz ?_|(refine zc ?_ ?_<;>intro h<;>first|(cases h;done)|rw[h]|skip)|refine sY ?_ (hq:=Q))
 all_goals rfl
end Go.Proofs
namespace Go.Proofs
open Go.cu
def MG (n:Int):Bool:=bif decide (n>=0)then decide (n<=1152921504606846976)else false
def MF (n:Int):Bool:=bif decide (n>=0)then decide (n<12)else false
def qk (a b c d:Int):Bool:=bif (bif (bif MF a then MF b else false)then MG c else false)then MG d else false
attribute [local irreducible] AK ai bw bz dJ dN
theorem Gc (n:Int):ah 37 [aF n] (.bool (MG n)):=by
 unfold MG;cases E:decide (n>=0)with
 | false =>
  refine qn Tryz.func37 Tryz.call37 fun β hf=>?_;exact dq
 | true =>
  refine qn Tryz.func37 Tryz.call37 fun β hf=>?_;exact dq
theorem Gd (n:Int):ah 38 [aF n] (.bool (MF n)):=by
 unfold MF;cases E:decide (n>=0)with
 | false =>
  refine qn Tryz.func38 Tryz.call38 fun β hf=>?_;exact dq
 | true =>
  refine qn Tryz.func38 Tryz.call38 fun β hf=>?_;exact dq
theorem Bt (a b c d:Int):ah 22 [.agg [aF a,aF b,aF c,aF d]] (.bool (qk a b c d)):=by
 have h1:=Gd a;have h2:=Gd b;have V:=Gc c;have D:=Gc d;unfold qk;generalize MF a=Y at *;generalize MF b=P at *;generalize MG c=U at *;generalize MG d=x4 at *;cases Y
 ·refine qn Tryz.func22 Tryz.call22 fun β hf=>?_;exact dq
 cases P
 ·refine qn Tryz.func22 Tryz.call22 fun β hf=>?_;exact dq
 cases U
 ·refine qn Tryz.func22 Tryz.call22 fun β hf=>?_;exact dq
 ·refine qn Tryz.func22 Tryz.call22 fun β hf=>?_;exact dq
def oQ:List Ty->List Vl->Bool
 | t::s,v::l=>ld t v&&oQ s l
 | _,_=>true
theorem Qs {s:List Ty} {l:List Vl} {j:Nat} {t:Ty} {v:Vl} (h1:s[j]?=some t) (h2:l[j]?=some v):oQ (s.drop j) (l.drop j)=(ld t v&&oQ (s.drop (j+1)) (l.drop (j+1))):=by
 rw[dO h1,dO h2];rfl
attribute [local irreducible] fK ld
theorem Vp (a b c d g:Int) (n:Nd) (O:bN n<=8589934593) (s:List Ty) (W:br s<=8589934593) (l:List Vl) (h:¬((fK n s).2=0/\s.length=l.length/\qk a b c d=true)) :
  ah 9 [.agg [aF a,aF b,aF c,aF d],aW n,.sl 2 (aE s),.sl 7 (aa l),aF g] (kr 14 [] oO 0 0):=by
 have h1:=pN n s O W;have h2:=Bt a b c d;have A:=aY s;have I:=az l;generalize qk a b c d=V at *;generalize fK n s=r at *;obtain⟨⟨t,f⟩,e⟩:=r;obtain⟨U,D,S,T,Q⟩:=n;simp only at h;by_cases P:e=0;rotate_left
 ·have Y:(e != 0)=true:=by simpa using P
  clear h h2;refine qn Tryz.func9 Tryz.call9 fun β hf=>?_;exact dq
 subst P;by_cases C:s.length=l.length;rotate_left
 ·have Y:((((aE s).length:Nat):Int) != (((aa l).length:Nat):Int))=true:=by rw[bne_iff_ne];omega
  clear h h2;refine qn Tryz.func9 Tryz.call9 fun β hf=>?_;exact dq
 have Y:((((aE s).length:Nat):Int) != (((aa l).length:Nat):Int))=false:=by rw[A,I,C];exact bne_self_eq_false _
 cases V with
 | true=>exact absurd ⟨rfl,C,rfl⟩ h
 | false =>
  clear h;refine qn Tryz.func9 Tryz.call9 fun β hf=>?_;exact dq
theorem N0 (a b c d g:Int) (n:Nd) (q:bN n<=8589934593) (s:List Ty) (D:br s<=8589934593) (l:List Vl) (hv:aL l<=8589934593) (E:(fK n s).2=0) (C:s.length=l.length) (hf:qk a b c d=true) (N:Int) (rs:List Vl) (M:Vl) (J I:Int)
  (K:oQ s l=true->ah 24 [.agg [aF a,aF b,aF c,aF d],.sl 5 (aH (bh n)),.sl 7 (aa l),aF g] (kr N rs M J I)) :
  ah 9 [.agg [aF a,aF b,aF c,aF d],aW n,.sl 2 (aE s),.sl 7 (aa l),aF g] (bif oQ s l then kr N rs M J I else kr 14 [] oO 0 0):=by
 have h1:=pN n s q D;have h2:=Bt a b c d;have A:=aY s;have B:=az l;have z3:=iI l;rw[hf]at h2;generalize fK n s=r at *;obtain⟨⟨t,f⟩,e⟩:=r;obtain⟨u,p,k3,k4,k5⟩:=n;simp only at E;subst E;have c1:((((aE s).length:Nat):Int) != (((aa l).length:Nat):Int))=false:=by rw[A,B,C];exact bne_self_eq_false _
 refine qn Tryz.func9 Tryz.call9 fun β hf=>?_
 repeat' (first|refine sz ?_|(refine zc ?_ ?_<;>intro h<;>first|(cases h;done)|rw[h]|skip)|refine uC rfl h1 ?_|refine uC rfl h2 ?_|((first|refine zt ?_|refine zu ?_ ?_)<;>intro h<;>(fail_if_success (cases h;done))<;>rw[h]))
 refine AK.eM (α:=Nat) (fun j=>j<=l.length/\oQ s l=oQ (s.drop j) (l.drop j)) (fun j=>l.length-j)
  (fun j=>[(38,.c (.int .i64 j)),(37,.c (.int .i64 (aa l).length)),(36,.c (.sl 7 (aa l))),(2,.c (.sl 2 (aE s))),(3,.c (.sl 7 (aa l))),(4,.c (aF g)),(5,.ptr 5 0),(6,.ptr 6 0),(10,.ptr 10 0)])
  (fun _=>[(5,[.c (aF a),.c (aF b),.c (aF c),.c (aF d)]),(6,[.c (aF u),.c (aF p),.c (aF k3),.c (.str k4),.c (.sl 5 (aH k5))]),(10,[.c (aF 0),.own .exact 7 [],.c (aF 0),.c (aF 0),.c (aF 0),.c (.str []),.own .exact 7 [],.own .exact 2 [],.own .exact 5 [],.c (aF 0),.c (aF 0)])]) (fun _=>[]) [5,6,10] 0
  ⟨Nat.zero_le _,rfl⟩ ⟨.inl rfl,.inl rfl,.inl rfl,.inl rfl,.inl rfl,.inl rfl,.inl rfl,.inl rfl,.inl rfl,trivial⟩ ⟨rfl,rfl,rfl,trivial⟩ trivial rfl rfl rfl ?_
 rintro j ⟨hj,U⟩ jh;rcases gf l j hj with ⟨v,Y,S⟩|H
 ·have Xb:=xm Y;have Q:=bD Y;obtain⟨V,W⟩:∃V,s[j]?=some V:=⟨_,List.getElem?_eq_getElem bn⟩
  have P:=cF (aaz W);have O:=ew S;have hq:=Nq V v bn bn;rw[Qs W Y]at U;have Yj:=eF Y;have Zh:=fQ W;clear P O K;obtain⟨x1,x2,x3,x4,x5,x6,x7⟩:=v;obtain⟨y1,y2⟩:=V;cases G:ld (.mk y1 y2) (.mk x1 x2 x3 x4 x5 x6 x7)with
  | false =>
   rw[G]at hq U;rw[Bool.false_and]at U;rw[U];clear jh;exact dq
  | true =>
   rw[G]at hq U;rw[Bool.true_and]at U
   repeat' (first|refine sz ?_|(refine zc ?_ ?_<;>intro h<;>first|(cases h;done)|rw[h]|skip)|refine uI rfl (j) rfl (Yj) rfl ?_|refine uI rfl (j) rfl (Zh) rfl ?_|refine uC rfl hq ?_|((first|refine zt ?_|refine zu ?_ ?_)<;>intro h<;>(fail_if_success (cases h;done))<;>rw[h]))
   exact AK.again (jh (j+1) ⟨Q,U⟩ bn) ⟨.inl (iD (i:=j) bn),.inl rfl,.inl rfl,.inl rfl,.inl rfl,.inl rfl,.inl rfl,.inl rfl,.inl rfl,trivial⟩ ⟨rfl,rfl,rfl,trivial⟩ trivial rfl rfl rfl
 ·have Xb:=sK H;have T:oQ s l=true:=by rw[U,H,<- C,List.drop_length,C,List.drop_length];rfl
  have hT':=K T;rw[T];clear jh K;exact dq
end Go.Proofs
