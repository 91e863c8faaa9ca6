/- Tickets: -/
import Derived.Test.YtdnpapgijbhofaaGreatDoorRunAPRt
import Derived.Test.YtdnpapgijbhofaaGreatDoorFitsRt
import Derived.Test.YtdnpapgijbhofaaGreatDoorRunABRt
import Derived.Test.YtdnpapgijbhofaaGreatDoorTree4Rt
open Go.Proofs.Tryz
set_option linter.defProp false
set_option maxHeartbeats 0
set_option linter.unusedVariables false
set_option linter.unusedSimpArgs false
set_option maxHeartbeats 0
set_option maxRecDepth 100000
namespace Go.Proofs
open Go.cB
section
variable {φ : Int -> Ty -> Vl -> Bool}{pr : L Ty × Bool}
def Qz(φ:Int->Ty->Vl->Bool)(pr:L Ty×Bool):List gB->L Ty->Nat->Prop
 |[],s,_=>pr=(s,false)
 |F::t,s,w=>∃Y N,um (F.code.drop F.pos) s Y N/\(N=false ->
   (F.fin=0/\Qz φ pr t Y w) \/
   (F.fin=1/\∃u w',cD u F.aside.reverse/\cr φ F.aside.reverse u+w'<=w/\Qz φ pr t (u++Y) w') \/
   (F.fin=2/\∃q u w',Y=[q]/\cD u F.aside.reverse/\cr φ F.aside.reverse u+w'<=w/\Qz φ pr t (q::u) w') \/
   (F.fin=3/\∃e w',(∀x∈F.aside,Fit e x)/\eW φ F.aside e+w'<=w/\(∃T A,um F.code (e::Y) T A/\(A=false->T=Y))/\Qz φ pr t Y w') \/
   (F.fin=4/\∃a p,Y=a::p/\(∃T A,um F.code p T A/\(A=false->T=a::p))/\Qz φ pr t p w))
def Rz{F:gB}{t:List gB}{s:L Ty}{n:Nd}{w:Nat}(h:Qz φ pr (F::t) s w)(O:F.code[F.pos]?=some n):∃r,eX n s=(r,0)/\r.1.all bg=true/\(r.2=false->Qz φ pr ({F with pos:=F.pos+1}::t) r.1 w):=by
 obtain⟨Y,N,Q,W⟩:=h;obtain⟨H,q⟩:=List.getElem?_eq_some_iff.1 O;have e:F.code.drop F.pos=n::F.code.drop (F.pos+1):=by rw[acv H,q]
 rw[e]at Q;obtain⟨r,h1,h2,U,P⟩:=Jq Q;refine⟨r,h1,U,λA=>⟨Y,N,?_,W⟩⟩;show bH (F.code.drop (F.pos+1)) (r.1,false)=_;rw[<- A];exact P
def CH{I:List gB}{c:L Nd}{H:L Ty}{r:L Ty×Bool}{w:Nat}(A:(bH c (H,false)).2=0)(p:(bH c (H,false)).1.2=false->r=(bH c (H,false)).1)(h:r.2=false->Qz φ pr I r.1 w):Qz φ pr (⟨c,0,0,[]⟩::I) H w:=by refine⟨_,_,oA A,λhf => .inl ⟨rfl,?_⟩⟩;rw[p hf]at h;exact h hf
def pH(φ:Int->Ty->Vl->Bool)(I:List gB)(st:L Vl)(s:L Ty)(r:L Ty×Bool)(o:MR):Prop :=
 o.1=0->∃F H Y,o.2.fr=F::I/\cD H o.2.st/\cr φ o.2.st H+Y<=cr φ st s/\∀pr w,(r.2=false->Qz φ pr I r.1 w)->Qz φ pr (F::I) H (Y+w)
def nT{S:bE}{st:L Vl}{s:L Ty}{c:L Nd}{l:L Vl}{H:L Ty}{r:L Ty×Bool}(A:(bH c (H,false)).2=0)(p:(bH c (H,false)).1.2=false->r=(bH c (H,false)).1)
  (C:cD H (l.reverse++S.st))(V:cr φ (l.reverse++S.st) H<=cr φ st s):pH φ S.fr st s r (aQ (dh S c 0 []) l):=by
 intro M;rcases oM l S.st with h1|⟨h1,h2,U⟩
 exact aaO;refine⟨⟨c,0,0,[]⟩,H,0,Z,?_,?_,λpr w h=>by rw[abi];exact CH A p h⟩;show cD _ (lF l S.st).2;rw[h2];exact C;show cr φ (lF l S.st).2 _+0<=_;rw[h2];exact V
def sM{S:bE}{st:L Vl}{s:L Ty}{c:L Nd}{H:L Ty}{r:L Ty×Bool}(A:(bH c (H,false)).2=0)(p:(bH c (H,false)).1.2=false->r=(bH c (H,false)).1)
  (C:cD H S.st)(V:cr φ S.st H<=cr φ st s):pH φ S.fr st s r (0,dh S c 0 []) :=
 λ_=>⟨⟨c,0,0,[]⟩,H,0,Z,C,V,λpr w h=>by rw[abi];exact CH A p h⟩
def GJ{S:bE}{args:L Nd}{types s:L Ty}{r:L Ty×Bool}(hf:br 52 args=some types)(C:cD s S.st)(D:cF 52 (bS args) types s=(r,0)):pH φ S.fr S.st s r (aq 52 args S):=by
 obtain⟨a,b,c,d,st,I,g,u,m,B⟩:=S;simp only at C;obtain⟨G,q1,E,p,A,q2,r2,M,rfl,rfl⟩:=qt hf cc;cases s with
 |nil=>cases D
 |cons t s =>
 obtain⟨v,q,rfl,W,hq⟩:=aF C;have O:=bO W.1;have Y:(if cq t=12 then cn (bH p (aG t 0::s,false)) (bH M (aG t 1::s,false))else aX 5)=(r,0):=D;split at Y;rotate_left;cases Y;rename_i V;obtain⟨T,ts⟩:=t;simp only[cq]at V;subst V;obtain⟨t1,t2,rfl,AY,Jr⟩:=cJ (bl O.1) cc;obtain⟨x,N,U⟩:=GK O.2.1 O.2.2;obtain⟨Q,P⟩:=kI Y;obtain⟨K,J⟩:=kJ Y;have H:=W.2;rcases N with ⟨rfl,N⟩|⟨rfl,N⟩
 all_goals simp only[aE,aB,aU,aM,aab]at H
 unfold aq;rw[ym];exact nT (S:=⟨a,b,c,d,q,I,g,u,m,B⟩) (l:=[x]) Q P ⟨⟨dJ (er O.1 _ S4) ⟨N,U⟩,bn⟩,hq⟩ (by rw[cr,RA];exact aal _);unfold aq;rw[ym];exact nT (S:=⟨a,b,c,d,q,I,g,u,m,B⟩) (l:=[x]) K J ⟨⟨dJ (er O.1 _ S4) ⟨N,U⟩,bn⟩,hq⟩ (by rw[cr,RB];exact aal _)
def GL{S:bE}{args:L Nd}{types s:L Ty}{r:L Ty×Bool}(hf:br 55 args=some types)(C:cD s S.st)(D:cF 55 (bS args) types s=(r,0)):pH φ S.fr S.st s r (aq 55 args S):=by
 obtain⟨a,b,c,d,st,I,g,u,m,B⟩:=S;simp only at C;obtain⟨G,q1,E,p,A,q2,r2,M,rfl,rfl⟩:=qt hf cc;cases s with
 |nil=>cases D
 |cons t s =>
 obtain⟨v,q,rfl,W,hq⟩:=aF C;have O:=bO W.1;have Y:(if cq t=9 then cn (bH p (s,false)) (bH M (aG t 0::s,false))else aX 5)=(r,0):=D;split at Y;rotate_left;cases Y;rename_i V;obtain⟨T,ts⟩:=t;simp only[cq]at V;subst V;obtain⟨t1,rfl,AY⟩:=cO (bl O.1) cc;obtain⟨U,P⟩:=kI Y;obtain⟨Q,N⟩:=kJ Y;have K:=W.2;rcases yo O.2.1 O.2.2 with rfl|⟨x,rfl,J,H⟩
 unfold aq;rw[BR];exact nT (S:=⟨a,b,c,d,q,I,g,u,m,B⟩) (l:=[]) U P hq u7;simp only[bN,aE,aB,aU,aM,aab]at K;unfold aq;rw[BR];exact nT (S:=⟨a,b,c,d,q,I,g,u,m,B⟩) (l:=[x]) Q N ⟨⟨dJ (er O.1 _ S4) ⟨J,H⟩,bn⟩,hq⟩ (by rw[cr,zQ];exact aal _)
def GM{S:bE}{args:L Nd}{types s:L Ty}{r:L Ty×Bool}(hf:br 58 args=some types)(C:cD s S.st)(D:cF 58 (bS args) types s=(r,0)):pH φ S.fr S.st s r (aq 58 args S):=by
 obtain⟨a,b,c,d,st,I,g,u,m,B⟩:=S;simp only at C;obtain⟨A,q1,r1,p,p2,q2,r2,M,rfl,rfl⟩:=qt hf cc;cases s with
 |nil=>cases D
 |cons t s =>
 obtain⟨v,q,rfl,W,hq⟩:=aF C;have O:=bO W.1;have Y:(if cq t=10 then cn (bH p (aG t 0::t::s,false)) (bH M (s,false))else aX 5)=(r,0):=D;split at Y;rotate_left;cases Y;rename_i V;obtain⟨T,ts⟩:=t;simp only[cq]at V;subst V;obtain⟨U,rfl,AY⟩:=cO (bl O.1) cc;obtain⟨Q,N⟩:=kI Y;obtain⟨K,J⟩:=kJ Y;have H:=W.2;obtain⟨l,rfl,G,P,E⟩:=nU O.2.1 O.2.2;cases l with
 |nil =>
  unfold aq;rw[yp];exact sM (S:=⟨a,b,c,d,q,I,g,u,m,B⟩) K J hq u7
 |cons x xs =>
  simp only[aE,aB,aU,aM,aab]at H;simp only[aJ,aak]at P;simp only[ee,aak]at E;simp only[aaa]at G;unfold aq;rw[yp];exact nT (S:=⟨a,b,c,d,q,I,g,u,m,B⟩) (l:=[.mk 10 0 0 [] xs [] [],x]) Q N ⟨⟨dJ (er O.1 _ S4) ⟨P.1,E.1⟩,bn⟩,⟨dJ O.1 (yq bn P.2 E.2),Wl⟩,hq⟩ (by show wT φ x U+(wT φ (.mk 10 0 0 [] xs [] []) (.mk 10 [U])+cr φ q s)<=_;simp only[cr,GN,eW];omega)
def RC{S:bE}{args:L Nd}{types s:L Ty}{r:L Ty×Bool}(hf:br 64 args=some types)(C:cD s S.st)(D:dB 64 args (bS args) types s=(r,0)):pH φ S.fr S.st s r (aq 64 args S):=by
 obtain⟨a,b,c,d,st,I,g,u,m,B⟩:=S;simp only at C;obtain⟨K,q1,J,p,E,H,G,M,rfl,rfl⟩:=qt hf cc;cases s with
 |nil=>cases D
 |cons t s =>
 obtain⟨v,q,rfl,V,hq⟩:=aF C;have O:=bO V.1;have Y:(if cq t=2 then cn (bH p (s,false)) (bH M (s,false))else aX 5)=(r,0):=D;split at Y;rotate_left;cases Y;rename_i W;obtain⟨T,ts⟩:=t;simp only[cq]at W;subst W;obtain⟨U,P⟩:=kI Y;obtain⟨Q,N⟩:=kJ Y;rcases Js O.2.1 with rfl|rfl
 unfold aq;rw[BS];exact sM (S:=⟨a,b,c,d,q,I,g,u,m,B⟩) Q N hq u7;unfold aq;rw[BS];exact sM (S:=⟨a,b,c,d,q,I,g,u,m,B⟩) U P hq u7
def LZ{S:bE}{args:L Nd}{types s:L Ty}{r:L Ty×Bool}(hf:br 60 args=some types)(C:cD s S.st)(D:gK 60 (bS args) types s=(r,0)):pH φ S.fr S.st s r (aq 60 args S):=by
 obtain⟨a,b,c,d,st,I,g,u,m,B⟩:=S;simp only at C;obtain⟨p1,q1,r1,p,rfl,rfl⟩:=zR hf cc;cases s with
 |nil=>cases D
 |cons t s =>
 obtain⟨v,q,rfl,M,hq⟩:=aF C;have O:=bO M.1;have Y:(if cq t=10\/cq t=13 then cn (bH p ((if cq t=13 then .mk 11 (aK t)else aG t 0)::s,false)) (eB s)else aX 5)=(r,0):=D;split at Y;rotate_left;cases Y;rename_i K;obtain⟨J,H⟩:=kI Y;obtain⟨m3,m4⟩:=kJ Y;have hr:r=(s,false):=m4 Z;subst hr;have W:∃k xs e,v = .mk k 0 0 [] xs [] []/\(∀x∈xs,Fit e x)/\(if cq t=13 then .mk 11 (aK t)else aG t 0)=e/\wT φ v t=eW φ xs e:=by
  obtain⟨T,ts⟩:=t;simp only[cq]at K;have G:=M.2;rcases K with rfl|rfl
  obtain⟨U,rfl,AY⟩:=cO (bl O.1) cc;obtain⟨l,rfl,tV,P,E⟩:=nU O.2.1 O.2.2;simp only[aE,aU,aM,aab]at G;exact⟨10,l,U,Z,λx N=>⟨dJ (er O.1 _ c9) ⟨(dM _ l).1 P x N,pI E N⟩,R7⟩,Z,GN⟩;obtain⟨U,t2,rfl,AY,Jr⟩:=cJ (bl O.1) cc;obtain⟨l,rfl,tV,P,RE,E⟩:=qu O.2.1 O.2.2;simp only[aE,aU,aM,aab]at G;exact⟨13,l,.mk 11 [U,t2],Z,λx N=>⟨dJ (w9 O.1) ⟨(dM _ l).1 P x N,pI E N⟩,R7⟩,Z,Jt⟩
 obtain⟨k,xs,A,rfl,V,he,Q⟩:=W;rw[he]at J H;have e:aq 60 [.mk 3 p1 q1 r1 p] ⟨a,b,c,d,.mk k 0 0 [] xs [] []::q,I,g,u,m,B⟩=(0,qv ⟨a,b,c,d,q,I,g,u,m,B⟩ p 3 xs):=by unfold aq;rw[Oc];rfl
 rw[e];refine λ_=>⟨⟨p,p.length,3,xs⟩,s,eW φ xs A,Z,hq,by show cr φ q s+_<=wT φ _ t+cr φ q s;rw[Q];omega,λpr w h=>⟨s,false,T0,λ_ => .inr (.inr (.inr (.inl ⟨Z,A,w,V,aal _,⟨_,_,oA J,λhf=>?_⟩,h Z⟩)))⟩⟩;have:=H hf;rw[<- this]
def L0{S:bE}{args:L Nd}{types s:L Ty}{r:L Ty×Bool}(hf:br 65 args=some types)(C:cD s S.st)(D:dB 65 args (bS args) types s=(r,0)):pH φ S.fr S.st s r (aq 65 args S):=by
 obtain⟨a,b,c,d,st,fr,g,u,m,B⟩:=S;simp only at C;obtain⟨U,q1,J,p,rfl,rfl⟩:=zR hf cc;cases s with
 |nil=>cases D
 |cons t s =>
 obtain⟨v,q,rfl,V,hq⟩:=aF C;have O:=bO V.1;have Y:(if cq t=2 then(if(cn (bH p (s,false)) (eB (t::s))).2≠0 then aX (cn (bH p (s,false)) (eB (t::s))).2 else eB s)else aX 5)=(r,0):=D;split at Y;rotate_left;cases Y;rename_i Q;split at Y;rename_i W;exact absurd (aaZ Prod.snd Y) W;rename_i W;simp only[ne_eq,adg]at W;cases Y;obtain⟨T,P⟩:=kI (a:=bH p (s,false)) (b:=eB (t::s)) (r:=(cn (bH p (s,false)) (eB (t::s))).1) aaD;obtain⟨N,I⟩:=kJ (a:=bH p (s,false)) (b:=eB (t::s)) (r:=(cn (bH p (s,false)) (eB (t::s))).1) aaD;have A:=I Z;rw[A]at P;have e:aq 65 [.mk 3 U q1 J p] ⟨a,b,c,d,v::q,fr,g,u,m,B⟩=(0,{qv ⟨a,b,c,d,q,fr,g,u,m,B⟩ p 4 []with st:=v::q}):=by unfold aq;rw[Od];rfl
 rw[e];refine λ_=>⟨⟨p,p.length,4,[]⟩,t::s,0,Z,⟨V,hq⟩,aal _,λpr w h=>⟨t::s,false,Sg,λ_ => .inr (.inr (.inr (.inr ⟨Z,t,s,Z,⟨_,_,oA T,λhf=>?_⟩,by rw[abi];exact h Z⟩)))⟩⟩;have:=P hf;rw[<- this];rfl
def Pk{S:bE}{args:L Nd}{types s:L Ty}{r:L Ty×Bool}(hf:br 68 args=some types)(C:cD s S.st)(D:dB 68 args (bS args) types s=(r,0)):pH φ S.fr S.st s r (aq 68 args S):=by
 obtain⟨a,b,c,d,st,I,g,u,m,P⟩:=S;simp only at C;obtain⟨V,q1,J,p,rfl,rfl⟩:=zR hf cc;cases s with
 |nil=>cases D
 |cons t s =>
 obtain⟨v,q,rfl,W,hq⟩:=aF C;have O:=bO W.1;have Y:(if(bH p (s,false)).2≠0 then aX (bH p (s,false)).2 else if(bH p (s,false)).1.2=true then aX 1 else eB (t::(bH p (s,false)).1.1))=(r,0):=D;split at Y;rename_i B;exact absurd (aaZ Prod.snd Y) B;rename_i B;simp only[ne_eq,adg]at B;split at Y;cases Y;cases Y;unfold aq;rw[Oe];exact λ_=>⟨⟨p,0,1,[v]⟩,s,wT φ v t,Z,hq,by show cr φ q s+_<=wT φ v t+cr φ q s;omega,λpr w h=>⟨_,_,oA B,λ_ => .inr (.inl ⟨Z,[t],w,⟨W,trivial⟩,by show wT φ v t+0+w<=_;omega,h Z⟩)⟩⟩
def L1{S:bE}{args:L Nd}{types s:L Ty}{r:L Ty×Bool}(hf:br 67 args=some types)(C:cD s S.st)(D:dB 67 args (bS args) types s=(r,0)):pH φ S.fr S.st s r (aq 67 args S):=by
 obtain⟨a,b,c,d,st,I,g,u,m,B⟩:=S;simp only at C;rcases s with _|⟨U,_|⟨⟨T,ts⟩,s⟩⟩
 cases D;cases D;obtain⟨v,N,rfl,W,E⟩:=aF C;obtain⟨w,q,rfl,V,hq⟩:=aF E;have A:=bO V.1;have Y:(if T=14/\cw U (aG (.mk T ts) 0)=true then eB (aG (.mk T ts) 1::s)else aX 5)=(r,0):=D;split at Y;rotate_left;cases Y;rename_i p;obtain⟨rfl,M⟩:=p;obtain⟨t,Q,rfl,K,J⟩:=cJ (bl A.1) cc;cases Y;obtain rfl:U=t:=(eg _ _).1 M;obtain⟨H,rfl,G,P,O,Ur⟩:=Of A.2.1 A.2.2;unfold aq;rw[Og];exact λ_=>⟨⟨H,0,2,q.reverse⟩,[U],cr φ q s,Z,⟨W,trivial⟩,by show wT φ v U+0+_<=wT φ v U+(_+cr φ q s);omega,λpr x h=>⟨_,_,oA P,λhf => .inr (.inr (.inl ⟨Z,Q,s,x,O hf,Lw,by show cr φ q.reverse.reverse s+x<=_;rw[acB];exact aal _,h Z⟩))⟩⟩
def Flat(P:Int):Prop:=P≠52/\P≠55/\P≠58/\P≠60/\P≠64/\P≠65/\P≠67/\P≠68
theorem Y0{S:bE}{c:Prop}[Decidable c]{a b:MR}(h1:c->a.2.fr=S.fr)(h2:¬c->b.2.fr=S.fr):(if c then a else b).2.fr=S.fr:=by grind
def RF{P:Int}{args:L Nd}{S:bE}(T:Flat P):(aq P args S).2.fr=S.fr:=by
 obtain⟨Y,W,V,U,Q,O,N,M⟩:=T;unfold aq;cases iQ (bD P) S.st with
 |none=>rfl
 |some p =>
  obtain⟨l,q⟩:=p;unfold sN RG L2 yu zS vw Fh zT;dsimp only
  repeat' (first|rfl|(exfalso;omega)|refine Y0 (S:=S) (λ_=>?_) (λ_=>?_)|split)
def Pm{S:bE}{args:L Nd}{codes:L (L Ty->CR)}{types s:L Ty}{r:L Ty×Bool}(D:dB 66 args codes types s=(r,0)):SW φ s S.st r.1 (aq 66 args S):=by
 have A:r.1 = .mk 14 types::s:=by have Y:(if iB (cy (args.getD 2 oF))=true then aX 5 else if(cn (cU codes 2 [types.getD 0 iY]) (eB [types.getD 1 iY])).2≠0 then aX (cn (cU codes 2 [types.getD 0 iY]) (eB [types.getD 1 iY])).2 else eB (.mk 14 types::s))=(r,0):=D;split at Y;cases Y;split at Y;rename_i B;exact absurd (aaZ Prod.snd Y) B;cases Y;rfl
 rw[A];unfold aq;rw[Oh];exact sO (S:=S) (x := .mk 14 0 0 [] [] [aT args 0,aT args 1] (aC args 2)) (by rw[jX c9];omega)
def L3(P:Int)(args:L Nd)(S:bE):(aq P args S).2.aZ=S.aZ\/P=84:=by
 unfold aq;cases iQ (bD P) S.st with
 |none=>exact .inl Z
 |some p=>exact(Fi P args p.1 {S with st:=p.2}).2.imp id (·.1)
def MW(φ:Int->Ty->Vl->Bool)(pr:L Ty×Bool)(c B:Int)(S:bE):Prop:=∃s w,cD s S.st/\Qz φ pr S.fr s w/\((cr φ S.st s+w:Nat):Int)-c*S.aZ<=B
def MC(φ:Int->Ty->Vl->Bool)(H c:Int):Prop:=c=1\/c=0/\∀t v,φ H t v=false
def RH{c B:Int}{S:bE}{F:gB}{t:List gB}(hW:MW φ pr c B S)(h:S.fr=F::t)(hp:F.pos=F.code.length)(M:(jL S F t).1=0):MW φ pr c B (jL S F t).2:=by
 obtain⟨s,w,C,zU,A⟩:=hW;obtain⟨a,b,W,d,Y,fr,g,u,m,P⟩:=S;obtain⟨H,pos,fin,T⟩:=F;simp only at *;subst h;subst hp;obtain⟨s',f',D,f5⟩:=zU;simp only[pJ]at D;have e4:((s,false),(0:Int))=((s',f'),0):=D;simp only[acZ,adi]at e4;obtain⟨rfl,rfl⟩:=e4;rcases f5 rfl with ⟨rfl,k⟩|⟨rfl,x,w',J,I,k⟩|⟨rfl,t0,x,w',J,I,N,k⟩|⟨rfl,e,w',J,I,⟨V,U,N,Q⟩,k⟩|⟨rfl,a0,p,J,⟨V,U,Q,k5⟩,k⟩
 exact⟨s,w,C,k,A⟩;refine⟨x++s,w',uo J C,k,?_⟩;show((cr φ (T.reverse++Y) (x++s)+w':Nat):Int)-c*m<=B;rw[yw _ _ _ _ (bq J).symm];have k2':cr φ T.reverse x+w'<=w:=I;omega;subst J;obtain⟨v,q,rfl,hv,hq⟩:=aF C;refine⟨t0::x,w',⟨hv,I⟩,k,?_⟩;show((wT φ v t0+cr φ T.reverse x+w':Nat):Int)-c*m<=B;simp only[cr]at N A;omega
 ·cases T with
  |nil =>
   refine⟨s,w',C,k,?_⟩;show((cr φ Y s+w':Nat):Int)-c*m<=B;simp only[eW]at I;omega
  |cons x q =>
   have K:jL ⟨a,b,W,d,Y,⟨H,H.length,3,x::q⟩::t,g,u,m,P⟩ ⟨H,H.length,3,x::q⟩ t=(if g<=u then(12,⟨a,b,W,d,Y,⟨H,H.length,3,x::q⟩::t,g,u,m,P⟩)else(0,⟨a,b,W,d,x::Y,⟨H,0,3,q⟩::t,g,u+1,m,P⟩)):=rfl;rw[K]at M ⊢;split at M;cases M;rename_i G;rw[if_neg G];refine⟨e::s,eW φ q e+w',⟨J x c9,C⟩,⟨V,U,N,λhf=>?_⟩,?_⟩;rw[Q hf];exact .inr (.inr (.inr (.inl ⟨Z,e,w',λy hy=>J y (by simp[hy]),aal _,⟨V,U,N,Q⟩,k⟩)));show((wT φ x e+cr φ Y s+(eW φ q e+w'):Nat):Int)-c*m<=B;simp only[eW]at I;omega
 subst J;obtain⟨v,q,rfl,hv,hq⟩:=aF C;have K:jL ⟨a,b,W,d,v::q,⟨H,H.length,4,T⟩::t,g,u,m,P⟩ ⟨H,H.length,4,T⟩ t=(if vN v=1 then(if g<=u then(12,⟨a,b,W,d,q,⟨H,H.length,4,T⟩::t,g,u,m,P⟩)else(0,⟨a,b,W,d,q,⟨H,0,4,T⟩::t,g,u+1,m,P⟩))else(0,⟨a,b,W,d,q,t,g,u,m,P⟩)):=rfl;rw[K]at M ⊢;have O:((cr φ q p+w:Nat):Int)-c*m<=B:=by simp only[cr]at A;omega
 split at M;rename_i E;rw[if_pos E];split at M;cases M;rename_i G;rw[if_neg G];exact⟨p,w,hq,⟨V,U,Q,λhf => .inr (.inr (.inr (.inr ⟨Z,a0,p,k5 hf,⟨V,U,Q,k5⟩,k⟩)))⟩,O⟩;rename_i E;rw[if_neg E];exact⟨p,w,hq,k,O⟩
def Xe{c B:Int}{S:bE}{s:L Ty}{F:gB}{t:List gB}(hc:MC φ S.self c)(hW:MW φ pr c B S)(q:MT pr S s)(h:S.fr=F::t)(hL:left S<=1000000000)(M:(wE S F t).1=0):MW φ pr c B (wE S F t).2:=by
 unfold wE at M ⊢;by_cases D:F.pos=F.code.length;rw[if_pos D]at M ⊢;exact RH hW h D M;rw[if_neg D]at M ⊢;have zU:=q.ft;rw[h]at zU;obtain⟨f1,f2,f3,_⟩:=zU;have H:F.pos<F.code.length:=by omega
 have J:F.code[F.pos]?=some F.code[F.pos]:=abe H;generalize F.code[F.pos]=n at J;obtain⟨u,N,P,sg,args⟩:=n;rw[J]at M ⊢;dsimp only at M ⊢;obtain⟨V,w,C,Uk,A⟩:=hW;rw[h]at Uk;obtain⟨r,h1,h2,G⟩:=Rz Uk J;by_cases I:u=3;rw[if_pos I];subst I;simp only[eX,if_true]at h1;exact⟨V,w,C,CH (r:=r) (by rw[h1]) (λ_=>by rw[h1]) G,A⟩;rw[if_neg I]at M ⊢;by_cases p:u≠2;rw[if_pos p]at M;cases M;rw[if_neg p]at M ⊢;by_cases hg:S.nV<=S.used;rw[if_pos hg]at M;cases M;rw[if_neg hg]at M ⊢;simp only[eX]at h1;rw[if_neg I,if_neg p]at h1;cases hf:br P args with
 |none=>rw[hf]at h1;cases h1
 |some types =>
 rw[hf]at h1;have Y:lD P args (bS args) types V=(r,0):=h1;have T:=yx S.fr;have Ul:left S=(S.nV-S.used).toNat*900+wz S.fr:=rfl;rw[h]at T Ul;simp only[aaa]at T;obtain⟨g1,g2⟩:=nh f2 (aap J);have hls:V.length=s.length:=(bq C).trans (bq q.fit).symm;have W:({fU S F t with used:=S.used+1}:bE).fr={F with pos:=F.pos+1}::t:=rfl;have U:({fU S F t with used:=S.used+1}:bE).st=S.st:=rfl;have Q:({fU S F t with used:=S.used+1}:bE).aZ=S.aZ:=rfl;have sse:({fU S F t with used:=S.used+1}:bE).self=S.self:=rfl;have sen:mR ({fU S F t with used:=S.used+1}:bE).self ({fU S F t with used:=S.used+1}:bE).gC ({fU S F t with used:=S.used+1}:bE).gD ({fU S F t with used:=S.used+1}:bE).balance=true:=q.env;generalize ({fU S F t with used:=S.used+1}:bE)=S1 at *;have Yl:=q.RJ;rw[<- U,<- Q]at A;rw[<- U]at C;rw[<- Q]at Yl;rw[<- sse]at hc;have k2:=(CI pr P S1 sen Yl N sg args g1 types V r hf C bn (by rw[W];simp only[aaa];omega) h2 Y).2;have O:=(L3 P args S1).resolve_right;by_cases E:Flat P
 ·
  have hfr:=RF (args:=args) (S:=S1) E;obtain⟨o1,o2,o3,o4⟩:(aq P args S1).1=0/\(aq P args S1).2.fr=S1.fr/\cD r.1 (aq P args S1).2.st/\r.2=false:=by
   rcases k2 with (k|k|k)|⟨_,F2,s2,k,_⟩|⟨k,_⟩
   exact k;rw[M]at k;cases k;rw[M]at k;cases k;rw[hfr]at k;exact absurd (aaZ List.length k) c9;rw[M]at k;cases k
  refine⟨r.1,w,o3,by rw[o2,W];exact G o4,?_⟩;by_cases K:P=84
  ·subst K;obtain⟨t1,t2,t3⟩:=Pn (φ:=φ) (S:=S1) (args:=args) C Y M;rcases hc with rfl|⟨rfl,hz⟩
   rw[Int.one_mul]at A ⊢;omega;have:=t3 hz;rw[Int.zero_mul]at A ⊢;omega
  have Ur:(aq P args S1).2.aZ=S1.aZ:=O λk=>K k;rw[Ur];have:SW φ V S1.st r.1 (aq P args S1):=by by_cases c66:P=66;subst c66;exact Pm (codes:=bS args) (types:=types) Y;obtain⟨e1,e2,e3,e4,e5,e6,e7,e8⟩:=E;exact Ju bn hf C o4 Y
  have:=this M;omega
 have Xf:pH φ S1.fr S1.st V r (aq P args S1):=by
  have hP:P=52\/P=55\/P=58\/P=60\/P=64\/P=65\/P=67\/P=68:=by unfold Flat at E;omega
  rcases hP with rfl|rfl|rfl|rfl|rfl|rfl|rfl|rfl
  exact GJ hf C Y;exact GL hf C Y;exact GM hf C Y;exact LZ hf C Y;exact RC hf C Y;exact L0 hf C Y;exact L1 hf C Y;exact Pk hf C Y
 obtain⟨F2,s2,w2,o2,o3,o4,o5⟩:=Xf M;refine⟨s2,w2+w,o3,by rw[o2];exact o5 pr w (by rw[W];exact G),?_⟩;have Ur:(aq P args S1).2.aZ=S1.aZ:=O λk=>E (by subst k;unfold Flat;omega);rw[Ur];omega
def RK{c B:Int}:∀(k:Nat)(S:bE)(s:L Ty),MC φ S.self c->MW φ pr c B S->MT pr S s->left S<k->left S<=1000000000->(js k S).1=0->((cr φ (js k S).2.st pr.1:Nat):Int)-c*(js k S).2.aZ<=B
 |0,S,s,_,_,_,h,_,_=>absurd h (Nat.not_lt_zero _)
 |k+1,S,s,hc,hW,hT,hk,hL,M=>by
  cases W:S.fr with
  |nil =>
   rw[Po _ W];obtain⟨u,w,C,V,U⟩:=hW;rw[W]at V;have e:pr=(u,false):=V;rw[e];show((cr φ S.st u:Nat):Int)-c*S.aZ<=B;omega
  |cons F t =>
   rw[L4 k W]at M ⊢;split at M;rename_i h1;rw[if_pos h1];have Y:=L5 hT W hL;obtain⟨A,Q,O⟩:=U3 Y h1;exact RK k _ A (by rw[Y.1.1];exact hc) (Xe hc hW hT W hL h1) Q bn bn M;rename_i h1;exact absurd M h1
end
end Go.Proofs
namespace Go.Proofs
open Go.cB
def Xg{φ:Int->Ty->Vl->Bool}{a b c d k:Int}{n:Nd}{s:L Ty}{l:L Vl}{g:Int}(h:Pp a b c d n s l=true)(W:Xh l)(Q:0<=g/\g<=1000000)(D:MC φ a k)(M:(yy a b c d n s l g).code=0) :
  ((cr φ (yy a b c d n s l g).st (iq n s).1.1:Nat):Int)-k*(yy a b c d n s l g).aZ<=(cr φ l s:Nat):=by
 have e:yy a b c d n s l g=tD (qw a b c d n l g):=by unfold yy;exact if_pos h
 rw[e]at M ⊢;have Y:(qw a b c d n l g).1=0:=M;simp only[tD,if_pos Y];have q:=CJ h W Q;obtain⟨h1,h2,U,P⟩:=qx.1 h;obtain⟨g1,I,T,S,V⟩:=vz h1;refine RK (φ:=φ) (pr:=(iq n s).1) (c:=k) (B:=(cr φ l s:Nat)) _ (wF a b c d (cy n) l g) s D ⟨s,0,q.fit,?_,by show((cr φ l s+0:Nat):Int)-k*0<=_;omega⟩ q (abl _) (Fj h Q) Y;rw[V]at h1 ⊢;refine⟨_,_,oA h1,λhf => .inl ⟨Z,?_⟩⟩;show(bH (cy n) (s,false)).1=(_,false);rw[Prod.ext_iff];exact⟨Z,hf⟩
def NM(S:bE):Prop:=∀F∈S.fr,iB F.code=false
attribute [local irreducible] AK ai aR bW dR aO bg dD bH eX iq many cz
def GO(l:L Ty)(V:l.length<=1099511627776):fz 32 [.v (.c (.sl 2 (aj l)))] [.own 2 (aj l)] []:=by
 cases l with
 |nil =>
  refine en func32 call32 [(0,.c (.sl 2 []))] [] [] [] λβ hf=>?_
  repeat' (first|refine kW ?_|refine ze ?_ ?_|(intro h;first|(cases h;done)|rw[h]|skip)|(refine uA Z ?_ ?_<;>(try (show(_:Nat)*_<=_;dsimp only))))
  all_goals first|exact Z|(show _<=_;decide)
 |cons x l =>
  have h1:=aL l;simp only[aaa]at V;refine en func32 call32 [(0,.c (.sl 2 (dA x::aj l)))] [] [] [] λβ hf=>?_
  repeat' (first|refine kW ?_|refine ze ?_ ?_|(intro h;first|(cases h;done)|rw[h]|skip)|(refine uA Z ?_ ?_<;>(try (show(_:Nat)*_<=_;dsimp only))))
  all_goals first|exact Z|(show _<=_;simp only[aaa,aab];omega)
def L6(l:L CV):af 64 [.sl 5 l] (.agg [.int .i64 3,.int .i64 0,.int .i64 0,.str [],.sl 5 l]):=by exact qdw func64 call64
end Go.Proofs
namespace Go.Proofs
open Go.cB
def RL(l:L Vl):ni [] l=true:=rfl
def Jv(s:L Ty)(l:L Vl)(a b c d:Int):Bool:=(bif (bif (bif (bif (bif (bif (bif (bif ((((aj s).length:Nat):Int) != (((aa l).length:Nat):Int))then true else decide (a<0))then true else decide (a>=12))then true else decide (b<0))then true else decide (b>=12))then true else decide (c<0))then true else decide (c>1152921504606846976))then true else decide (d<0))then true else decide (d>1152921504606846976))
attribute [local irreducible] AK ai aR bW dG dR iq iK ni
def EB(l:L Vl)(V:l.length<=549755813888):fz 34 [.v (.c (.sl 7 (aa l)))] [.own 7 (aa l)] []:=by
 cases l with
 |nil =>
  refine en func34 call34 [(0,.c (.sl 7 []))] [] [] [] λβ hf=>?_
  repeat' (first|refine kW ?_|refine ze ?_ ?_|(intro h;first|(cases h;done)|rw[h]|skip)|(refine uA Z ?_ ?_<;>(try (show(_:Nat)*_<=_;dsimp only))))
  all_goals first|exact Z|(show _<=_;decide)
 |cons x l =>
  have h1:=az l;simp only[aaa]at V;refine en func34 call34 [(0,.c (.sl 7 (bA x::aa l)))] [] [] [] λβ hf=>?_
  repeat' (first|refine kW ?_|refine ze ?_ ?_|(intro h;first|(cases h;done)|rw[h]|skip)|(refine uA Z ?_ ?_<;>(try (show(_:Nat)*_<=_;dsimp only))))
  all_goals first|exact Z|(show _<=_;simp only[aaa,aab];omega)
def Jw(k:Int)(J : -9223372036854775808<=k)(H:k<=9223372036854775807):∃r:Nat,r<3000/\af 35 [.int .i64 k] (.int .i64 r):=by obtain⟨r,A,hq⟩:=L7 k 3000 J H cc cc;refine⟨r,A,?_⟩;have h2:af 63 [.int .i64 k,.int .i64 3000] (.int .i64 r):=hq;clear hq;exact qdw func35 call35
def Jx(a b c d:Int)(s:L Ty)(hs:aU s<=8589934593)(l:L Vl)(q:∀v∈l,aE v<=8589934593):af 36 [.agg [aA a,aA b,aA c,aA d],.sl 2 (aj s),.sl 7 (aa l)] (.bool (bif Jv s l a b c d then false else ni s l)):=by
 have z1:=aL s;have z2:=az l;have z3:=ig s;unfold Jv;cases Y:((((aj s).length:Nat):Int) != (((aa l).length:Nat):Int))with
 |true =>
  show aR _ _ _ _ (.bool false);exact qdw func36 call36
 |false =>
 cases U:decide (a<0)with
 |true =>
  have B:(bif ((((aj s).length:Nat):Int) != (((aa l).length:Nat):Int))then true else decide (a<0))=true:=by rw[Y,U];rfl
  show aR _ _ _ _ (.bool false);exact qdw func36 call36
 |false =>
 have B:(bif ((((aj s).length:Nat):Int) != (((aa l).length:Nat):Int))then true else decide (a<0))=false:=by rw[Y,U];rfl
 cases P:decide (a>=12)with
 |true =>
  have A:(bif (bif ((((aj s).length:Nat):Int) != (((aa l).length:Nat):Int))then true else decide (a<0))then true else decide (a>=12))=true:=by rw[Y,U,P];rfl
  show aR _ _ _ _ (.bool false);exact qdw func36 call36
 |false =>
 have A:(bif (bif ((((aj s).length:Nat):Int) != (((aa l).length:Nat):Int))then true else decide (a<0))then true else decide (a>=12))=false:=by rw[Y,U,P];rfl
 cases u:decide (b<0)with
 |true =>
  have p:(bif (bif (bif ((((aj s).length:Nat):Int) != (((aa l).length:Nat):Int))then true else decide (a<0))then true else decide (a>=12))then true else decide (b<0))=true:=by rw[Y,U,P,u];rfl
  show aR _ _ _ _ (.bool false);exact qdw func36 call36
 |false =>
 have p:(bif (bif (bif ((((aj s).length:Nat):Int) != (((aa l).length:Nat):Int))then true else decide (a<0))then true else decide (a>=12))then true else decide (b<0))=false:=by rw[Y,U,P,u];rfl
 cases I:decide (b>=12)with
 |true =>
  have n4:(bif (bif (bif (bif ((((aj s).length:Nat):Int) != (((aa l).length:Nat):Int))then true else decide (a<0))then true else decide (a>=12))then true else decide (b<0))then true else decide (b>=12))=true:=by rw[Y,U,P,u,I];rfl
  show aR _ _ _ _ (.bool false);exact qdw func36 call36
 |false =>
 have n4:(bif (bif (bif (bif ((((aj s).length:Nat):Int) != (((aa l).length:Nat):Int))then true else decide (a<0))then true else decide (a>=12))then true else decide (b<0))then true else decide (b>=12))=false:=by rw[Y,U,P,u,I];rfl
 cases W:decide (c<0)with
 |true =>
  have n5:(bif (bif (bif (bif (bif ((((aj s).length:Nat):Int) != (((aa l).length:Nat):Int))then true else decide (a<0))then true else decide (a>=12))then true else decide (b<0))then true else decide (b>=12))then true else decide (c<0))=true:=by rw[Y,U,P,u,I,W];rfl
  show aR _ _ _ _ (.bool false);exact qdw func36 call36
 |false =>
 have n5:(bif (bif (bif (bif (bif ((((aj s).length:Nat):Int) != (((aa l).length:Nat):Int))then true else decide (a<0))then true else decide (a>=12))then true else decide (b<0))then true else decide (b>=12))then true else decide (c<0))=false:=by rw[Y,U,P,u,I,W];rfl
 cases V:decide (c>1152921504606846976)with
 |true =>
  have n6:(bif (bif (bif (bif (bif (bif ((((aj s).length:Nat):Int) != (((aa l).length:Nat):Int))then true else decide (a<0))then true else decide (a>=12))then true else decide (b<0))then true else decide (b>=12))then true else decide (c<0))then true else decide (c>1152921504606846976))=true:=by rw[Y,U,P,u,I,W,V];rfl
  show aR _ _ _ _ (.bool false);exact qdw func36 call36
 |false =>
 have n6:(bif (bif (bif (bif (bif (bif ((((aj s).length:Nat):Int) != (((aa l).length:Nat):Int))then true else decide (a<0))then true else decide (a>=12))then true else decide (b<0))then true else decide (b>=12))then true else decide (c<0))then true else decide (c>1152921504606846976))=false:=by rw[Y,U,P,u,I,W,V];rfl
 cases Q:decide (d<0)with
 |true =>
  have n7:(bif (bif (bif (bif (bif (bif (bif ((((aj s).length:Nat):Int) != (((aa l).length:Nat):Int))then true else decide (a<0))then true else decide (a>=12))then true else decide (b<0))then true else decide (b>=12))then true else decide (c<0))then true else decide (c>1152921504606846976))then true else decide (d<0))=true:=by rw[Y,U,P,u,I,W,V,Q];rfl
  show aR _ _ _ _ (.bool false);exact qdw func36 call36
 |false =>
 have n7:(bif (bif (bif (bif (bif (bif (bif ((((aj s).length:Nat):Int) != (((aa l).length:Nat):Int))then true else decide (a<0))then true else decide (a>=12))then true else decide (b<0))then true else decide (b>=12))then true else decide (c<0))then true else decide (c>1152921504606846976))then true else decide (d<0))=false:=by rw[Y,U,P,u,I,W,V,Q];rfl
 cases K:decide (d>1152921504606846976)with
 |true =>
  have n8:(bif (bif (bif (bif (bif (bif (bif (bif ((((aj s).length:Nat):Int) != (((aa l).length:Nat):Int))then true else decide (a<0))then true else decide (a>=12))then true else decide (b<0))then true else decide (b>=12))then true else decide (c<0))then true else decide (c>1152921504606846976))then true else decide (d<0))then true else decide (d>1152921504606846976))=true:=by rw[Y,U,P,u,I,W,V,Q,K];rfl
  show aR _ _ _ _ (.bool false);exact qdw func36 call36
 |false =>
 have n8:(bif (bif (bif (bif (bif (bif (bif (bif ((((aj s).length:Nat):Int) != (((aa l).length:Nat):Int))then true else decide (a<0))then true else decide (a>=12))then true else decide (b<0))then true else decide (b>=12))then true else decide (c<0))then true else decide (c>1152921504606846976))then true else decide (d<0))then true else decide (d>1152921504606846976))=false:=by rw[Y,U,P,u,I,W,V,Q,K];rfl
 have J:s.length=l.length:=by
  by_cases J:s.length=l.length;exact J;have:((((aj s).length:Nat):Int) != (((aa l).length:Nat):Int))=true:=by rw[adL];omega
  rw[this]at Y;cases Y
 show aR _ _ _ _ (.bool (ni s l));refine qn func36 call36 λβ hf=>?_
 repeat' (first|refine kW ?_|refine zc ?_ ?_|(intro h;first|(cases h;done)|rw[h]|skip))
 refine AK.dI (α:=Nat) (λj=>j<=s.length/\ni s l=ni (s.drop j) (l.drop j)) (λj=>s.length-j)
  (λj=>[(55,.c (.int .i64 j)),(54,.c (.int .i64 (aj s).length)),(1,.c (.sl 2 (aj s))),(2,.c (.sl 7 (aa l)))])
  (λj=>[]) (λ_=>[]) [] 0
  ⟨bn,Z⟩ ce trivial trivial Z Z Z ?_
 rintro j ⟨hj,S⟩ jh;rcases eI s j hj with ⟨y,G,H⟩|E
 ·have UQ:=wR G;have N:=bh G;rcases eI l j bn with ⟨w,D,T⟩|hwe
  rotate_left;omega;have M:=Cz y w (by have:=b9 H;omega) (q w T);rw[Fk G D]at S;have V9:=eZ G;have Wa:=cY D;clear H T;obtain⟨p1,p2⟩:=y;obtain⟨r1,r2,r3,r4,r5,r6,r7⟩:=w;cases C:iK (.mk p1 p2) (.mk r1 r2 r3 r4 r5 r6 r7)with
  |false =>
   rw[C]at M S;rw[abn]at S;rw[S];clear jh;exact dw
  |true =>
   rw[C]at M S;rw[abq]at S
   repeat' (first|refine kW ?_|refine zc ?_ ?_|(intro h;first|(cases h;done)|rw[h]|skip)|refine uI Z (j) Z (V9) Z ?_|refine uI Z (j) Z (Wa) Z ?_|refine uC Z M ?_)
   exact AK.again (jh (j+1) ⟨N,S⟩ bn) ⟨.inl (ff (i:=j) bn),.inl Z,.inl Z,.inl Z,trivial⟩ trivial trivial Z Z Z
 have UQ:=sC E;have O:ni s l=true:=by rw[S,E,aaW];exact RL _
 rw[O];clear jh;exact dw
def Pq:iq (.mk 3 0 0 [] [.mk 2 0 40 [] []]) [.mk 4 []]=eB []:=by
 have h1:dD (.mk 3 0 0 [] [.mk 2 0 40 [] []])=0:=by decide +kernel
 have h2:List.all [Ty.mk 4 []] bg=true:=by decide +kernel
 rw[Oi h1 Z,if_neg cc,if_pos h2];show bH [.mk 2 0 40 [] []] ([.mk 4 []],false)=_;rfl
def v3:Vl := .mk 4 3 0 [] [] [] []
def Pr:jY 3 ⟨0,0,0,0,[v3],[⟨[.mk 2 0 40 [] []],0,0,[]⟩],9,0,0,qp⟩ (0,⟨0,0,0,0,[],[],9,1,0,qp⟩):=by refine jY.step (F:=⟨[.mk 2 0 40 [] []],0,0,[]⟩) (t:=[]) (S':=⟨0,0,0,0,[],[⟨[.mk 2 0 40 [] []],1,0,[]⟩],9,1,0,qp⟩) (e:=0) rfl rfl cc cc cc cc cc ?_ (λh=>absurd rfl h) λ_=>?_;exact oV _ _ 2 0 40 [] [] [v3] [] 0 cc (by rw[show bD 40=1 from by decide +kernel];rfl) (by show(1:Nat)<=_;omega) (Fl _ 0 [] [v3]);refine jY.fin (F:=⟨[.mk 2 0 40 [] []],1,0,[]⟩) (t:=[]) (S':=⟨0,0,0,0,[],[],9,1,0,qp⟩) (e:=0) rfl rfl cc ?_ (λh=>absurd rfl h) λ_=>?_;exact yz ⟨0,0,0,0,[],[⟨[.mk 2 0 40 [] []],1,0,[]⟩],9,1,0,qp⟩ ⟨[.mk 2 0 40 [] []],1,0,[]⟩ [] rfl rfl cc;exact jY.done rfl
def Jy:af 37 [] (.bool true):=by
 have M:=Oj 0 0 0 0 9 (.mk 3 0 0 [] [.mk 2 0 40 [] []]) cc [.mk 4 []] cc [v3] cc (by rw[Pq];rfl) Z (by decide +kernel) 0 [] qp 1 0 (λ_=>AZ 0 0 0 0 9 [.mk 2 0 40 [] []] v3 [] ⟨0,0,0,0,[],[],9,1,0,qp⟩ cc cc (CK 3 _ _ Pr));have e:ni [.mk 4 []] [v3]=true:=by decide +kernel
 rw[e]at M;have h1:af 33 [.agg [.int .i64 0,.int .i64 0,.int .i64 0,.int .i64 0],.agg [.int .i64 3,.int .i64 0,.int .i64 0,.str [],.sl 5 [.agg [.int .i64 2,.int .i64 0,.int .i64 40,.str [],.sl 5 []]]],.sl 2 [.agg [.int .i64 4,.sl 2 []]],.sl 7 [.agg [.int .i64 4,.int .i64 3,.int .i64 0,.str [],.sl 7 [],.sl 2 [],.sl 5 []]],.int .i64 9] (lG 0 [] qp 1 0):=M;have U:=L6 [.agg [.int .i64 2,.int .i64 0,.int .i64 40,.str [],.sl 5 []]];clear M e;exact qdw func37 call37
end Go.Proofs
namespace Go.Proofs
open Go.cB
def RM{s:L Ty}{l:L Vl}{a b c d:Int}(h:s.length=l.length/\mR a b c d=true):Jv s l a b c d=false:=by
 obtain⟨h1,h2⟩:=h;obtain⟨⟨S,Q⟩,⟨O,N⟩,⟨A,Y⟩,e7,e8⟩:=vA h2;unfold bF at Y e8;have B:((((aj s).length:Nat):Int) != (((aa l).length:Nat):Int))=false:=by rw[aL,az,h1];exact adf _
 have p:decide (a<0)=false:=aan bn;have M:decide (a>=12)=false:=aan bn;have W:decide (b<0)=false:=aan bn;have c4:decide (b>=12)=false:=aan bn;have V:decide (c<0)=false:=aan bn;have U:decide (c>1152921504606846976)=false:=aan bn;have P:decide (d<0)=false:=aan bn;have T:decide (d>1152921504606846976)=false:=aan bn;unfold Jv;rw[B,p,M,W,c4,V,U,P,T];rfl
def RN{s:L Ty}{l:L Vl}{a b c d:Int}(h:Jv s l a b c d=false):s.length=l.length/\mR a b c d=true:=by
 unfold Jv at h;have P:∀x y:Bool,(bif x then true else y)=false->x=false/\y=false:=by intro x y h;cases x<;>simp_all
 obtain⟨h,p⟩:=P _ _ h;obtain⟨h,Y⟩:=P _ _ h;obtain⟨h,W⟩:=P _ _ h;obtain⟨h,V⟩:=P _ _ h;obtain⟨h,c4⟩:=P _ _ h;obtain⟨h,U⟩:=P _ _ h;obtain⟨h,M⟩:=P _ _ h;obtain⟨B,T⟩:=P _ _ h;have S:=bne_eq_false_iff_eq.1 B;rw[aL,az]at S;have u:=of_decide_eq_false T;have O:=of_decide_eq_false M;have Q:=of_decide_eq_false U;have N:=of_decide_eq_false c4;have K:=of_decide_eq_false V;have J:=of_decide_eq_false W;have I:=of_decide_eq_false Y;have H:=of_decide_eq_false p;refine⟨bn,?_⟩;unfold mR Jz JA;rw[aam (by omega:a>=0),aam (by omega:a<12),aam (by omega:b>=0),aam (by omega:b<12),aam (by omega:c>=0),aam (by omega:c<=1152921504606846976),aam (by omega:d>=0),aam (by omega:d<=1152921504606846976)];rfl
def JB(s:L Ty)(l:L Vl)(a b c d:Int):Bool:=bif Jv s l a b c d then false else ni s l
def JC{s:L Ty}{l:L Vl}{a b c d:Int}:JB s l a b c d=true↔s.length=l.length/\mR a b c d=true/\ni s l=true:=by
 unfold JB;constructor
 ·intro h;cases Y:Jv s l a b c d with
  |true=>rw[Y]at h;cases h
  |false =>
   rw[Y]at h;obtain⟨h1,h2⟩:=RN Y;exact⟨h1,h2,h⟩
 rintro⟨h1,h2,U⟩;rw[RM ⟨h1,h2⟩];exact U
def RO{a b c d:Int}{n:Nd}{s:L Ty}{l:L Vl}:Pp a b c d n s l=true↔(iq n s).2=0/\JB s l a b c d=true:=by rw[qx,JC]
attribute [local irreducible] AK ai aR bW dG dR iq iK ni JB yy
end Go.Proofs
