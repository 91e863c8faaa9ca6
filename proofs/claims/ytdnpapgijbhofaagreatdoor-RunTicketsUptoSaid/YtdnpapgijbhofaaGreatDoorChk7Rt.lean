/- The types that a step leads to are small. -/
import Derived.Test.YtdnpapgijbhofaaGreatDoorKind5Rt
import Derived.Test.YtdnpapgijbhofaaGreatDoorChk3Rt
open Go.Proofs.Tryz
set_option linter.defProp false
set_option maxHeartbeats 0
set_option linter.unusedVariables false
set_option linter.unusedSimpArgs false
set_option maxHeartbeats 0
set_option maxRecDepth 100000
namespace Go.cB
def Sm(r:CR):Prop:=∀t∈r.1.1,bp t<=2000
def E9(s:L Ty):Prop:=∀t∈s,bp t<=2000
def fM{s:L Ty}(h:E9 s):Sm (eB s):=h
def bK(e:Int):Sm (aX e):=λt A=>by simp[aX]at A
def bt{p:Prop}[Decidable p]{a b:CR}(h1:Sm a)(h2:Sm b):Sm (if p then a else b):=by grind
def dy{t:Ty}{s:L Ty}(h1:bp t<=2000)(h2:E9 s):E9 (t::s):=λx O=>by
 rcases List.mem_cons.1 O with rfl|O
 omega;exact h2 x O
def qQ{s:L Ty}(h:qj s):E9 s:=λt A=>by have:=(h t A).2;omega
def zC{a b:L Ty}(h1:E9 a)(h2:E9 b):E9 (a++b):=λx O=>by
 rcases List.mem_append.1 O with O|O
 exact h1 x O;exact h2 x O
def ud{a b:CR}(W:Sm a)(A:Sm b):Sm (cn a b):=by refine bt (bK _) (bt (bK _) (bt A (bt W (bK _))))
def jg(a:Ty)(i:Nat):bp (aG a i)<=bp a:=by
 obtain⟨T,l⟩:=a;show bp (l.getD i iY)<=_;rw[abV];cases h:l[i]? with
 |none=>simp only[Option.getD_none,iY,bp,aU];omega
 |some x =>
  have:=b9 (aap h);simp only[ady,bp];omega
def AP(a:Ty):aU (aK a)+1=bp a:=by obtain⟨T,l⟩:=a;rfl
def vq{s:L Ty}(h:∀t∈s,bp t<=300)(i:Nat):bp (s.getD i iY)<=300:=by
 rw[abV];cases S:s[i]? with
 |none=>simp only[Option.getD_none,iY,bp,aU];omega
 |some x=>exact h x (aap S)
def x9:∀(Y:L UInt8)(l:L Nd)(acc r:L Ty),qj acc->iX Y l acc=some r->qj r
 |[],l,acc,r,h,e=>by simp only[iX]at e;simp at e;subst e;exact h
 |w::Y,[],acc,r,h,e=>by simp only[iX]at e;simp at e;subst e;exact h
 |w::Y,.mk kind N P S xs::l,acc,r,h,e=>by
  simp only[iX]at e;split at e;split at e;exact x9 Y l acc r h e;cases e;split at e;split at e;exact x9 Y l acc r h e;cases e;split at e
  ·split at e
   ·rename_i U W;refine x9 Y l _ r (λt A=>?_) e;rcases List.mem_append.1 A with A|A
    exact h t A;simp at A;subst A;exact bl (jU W)
   cases e
  exact x9 Y l acc r h e
def QN{P:Int}{args:L Nd}{types:L Ty}(h:br P args=some types):qj types:=by unfold br at h;split at h;cases h;exact x9 _ _ _ _ N3 h
def jx{P:Int}{args:L Nd}{types:L Ty}(h:br P args=some types):types.length<=args.length:=by
 unfold br at h;split at h;cases h;have:∀(Y:L UInt8)(l:L Nd)(acc r:L Ty),iX Y l acc=some r->r.length<=acc.length+l.length:=by
  intro Y
  induction Y with
  |nil=>intro l acc r e;simp only[iX]at e;simp at e;subst e;omega
  |cons w Y S =>
   intro l acc r e;cases l with
   |nil=>simp only[iX]at e;simp at e;subst e;omega
   |cons x l =>
    obtain⟨k,n,p,s,xs⟩:=x;simp only[iX]at e;grind
 grind
def WO{l:L Ty}(h:aU l<=2000):E9 l:=λt A=>by have:=b9 A;omega
def Uv(P:Int)(args:L Nd)(s:L Ty)(C:qj s):Sm (fZ P args s):=by
 have M:=qQ C;have Q:=λi=>vq (λt A=>(C t A).2) (s:=s) i;refine bt ?_ (bt ?_ (bt ?_ (bt ?_ (bt ?_ (bK _)))))
 ·rcases s with _|⟨a,r⟩
  exact bK _;exact fM (λt A=>M t (abN _ A))
 ·rcases s with _|⟨a,_|⟨b,r⟩⟩
  exact bK _;exact bK _;exact fM (dy (M b c9) (dy (M a c9) (λt A=>M t (by simp[A]))))
 exact bt (fM (dy (by have:=Q (zD (args.getD 0 oF)-1).toNat;omega) M)) (bK _);refine bt (fM (dy (by have:=Q (zD (args.getD 0 oF)).toNat;omega) (zC ?_ ?_))) (bK _);exact λt A=>M t (adl A);exact λt A=>M t (ach A);rcases s with _|⟨a,r⟩
 exact bK _;refine bt (fM (zC ?_ (dy (M a c9) ?_))) (bK _);exact λt A=>M t (abN _ (adl A));exact λt A=>M t (abN _ (ach A))
def QO(P:Int)(codes:L (L Ty->CR))(types s:L Ty)(C:qj s)(p:qj types)(D:∀i Y,E9 Y->Sm (cU codes i Y)):Sm (cF P codes types s):=by
 have M:=qQ C;have Q:=λi=>vq (λt h=>(p t h).2) (s:=types) i;have g0:=Q 0;refine bt (fM (dy lf M)) (bt (fM (dy lf M)) ?_);rcases s with _|⟨a,r⟩
 exact bK _;have W:=(C a c9).2;have A:E9 r:=λt h=>M t oy;have V:=jg a 0;have U:=jg a 1;have T:=AP a;refine bt (fM (dy lf A)) (bt (fM (dy lf A)) (bt (fM (dy lf A)) (bt ?_ (bt ?_ (bt ?_ (bt ?_ (bt ?_ (bt ?_ (bt ?_ (bt ?_ (bK _)))))))))))
 ·rcases r with _|⟨b,q⟩
  exact bK _;have S:=(C b c9).2;exact fM (dy lf (λt h=>A t oy))
 exact bt (fM (zC (WO bn) A)) (bK _);exact bt (fM (dy bn A)) (bK _);exact bt (fM (dy bn A)) (bK _)
 ·rcases r with _|⟨b,q⟩
  exact bK _;exact bt (fM A) (bK _)
 exact bt (ud (D _ _ (dy bn A)) (D _ _ (dy bn A))) (bK _);exact bt (ud (D _ _ A) (D _ _ (dy bn A))) (bK _);exact bt (ud (D _ _ (dy bn (dy bn A))) (D _ _ A)) (bK _)
def QS(P:Int)(codes:L (L Ty->CR))(types s:L Ty)(C:qj s)(A:qj types)(V:types.length<=2)(D:∀i Y,E9 Y->Sm (cU codes i Y)):Sm (gK P codes types s):=by
 have M:=qQ C;have W:aU types<=600:=by
  rcases types with _|⟨a,_|⟨b,_|⟨c,l⟩⟩⟩
  simp[aU];have:=(A a c9).2;simp only[aU];omega;have h1:=(A a c9).2;have h2:=(A b c9).2;simp only[aU];omega;grind
 refine bt (bt (fM (dy (by simp only[bp];omega) M)) (bK _)) (bt ?_ (bt ?_ (bt ?_ (bt ?_ (bK _)))))
 ·rcases s with _|⟨a,r⟩
  exact bK _;exact bt (fM (dy W5 (λt h=>M t oy))) (bK _)
 ·rcases s with _|⟨a,r⟩
  exact bK _;have p:E9 r:=λt h=>M t oy;have U:=(C a c9).2;have T:=jg a 0;have S:=AP a;refine bt (ud (D _ _ (dy ?_ p)) (fM p)) (bK _);split;simp only[bp];omega;omega
 ·rcases s with _|⟨a,_|⟨b,q⟩⟩
  exact bK _;exact bK _;have Q:=(C b c9).2;have O:=jg b 1;exact bt (fM (dy lf (λt h=>M t oy))) (bK _)
 rcases s with _|⟨a,_|⟨b,_|⟨c,q⟩⟩⟩
 exact bK _;exact bK _;exact bK _;exact bt (fM (λt h=>M t (by simp at h ⊢;rcases h with h|h<;>simp[h]))) (bK _)
def LI(P:Int)(args:L Nd)(codes:L (L Ty->CR))(types s:L Ty)(C:qj s)(p:qj types)(V:types.length<=2)(D:∀i Y,E9 Y->Sm (cU codes i Y)):Sm (dB P args codes types s):=by
 have M:=qQ C;have W:aU types<=600:=by
  rcases types with _|⟨a,_|⟨b,_|⟨c,l⟩⟩⟩
  simp[aU];have:=(p a c9).2;simp only[aU];omega;have h1:=(p a c9).2;have h2:=(p b c9).2;simp only[aU];omega;grind
 refine bt (bt (bK _) (bt (bK _) (fM (dy (by simp only[bp];omega) M)))) (bt ?_ (bt ?_ (bt ?_ (bt ?_ (bK _)))))
 ·rcases s with _|⟨a,r⟩
  exact bK _;have A:E9 r:=λt h=>M t oy;exact bt (ud (D _ _ A) (D _ _ A)) (bK _)
 ·rcases s with _|⟨a,r⟩
  exact bK _;have A:E9 r:=λt h=>M t oy;exact bt (bt (bK _) (fM A)) (bK _)
 ·rcases s with _|⟨a,_|⟨b,q⟩⟩
  exact bK _;exact bK _;have U:=(C b c9).2;have T:=jg b 1;exact bt (fM (dy bn (λt h=>M t oy))) (bK _)
 rcases s with _|⟨a,r⟩
 exact bK _;have A:E9 r:=λt h=>M t oy;exact bt (bK _) (bt (bK _) (fM (dy (M a c9) (D 0 r A))))
def LJ(P:Int)(s:L Ty)(C:qj s):Sm (dV P s):=by
 have M:=qQ C;unfold dV;rcases s with _|⟨a,_|⟨b,q⟩⟩
 all_goals
  repeat' (first|refine bt ?_ ?_|exact bK _|refine fM (dy W5 ?_)|exact λt h=>M t oy|(intro t h;simp at h))
def Uw(P:Int)(types s:L Ty)(C:qj s)(p:qj types):Sm (iJ P types s):=by
 have M:=qQ C;have g0:=vq (λt h=>(p t h).2) (s:=types) 0;unfold iJ;rcases s with _|⟨a,r⟩
 exact bK _;have A:E9 r:=λt h=>M t oy
 refine bt ?_ (bt (bt (fM (dy W5 A)) (bK _)) (bt (bt (fM M) (bK _)) (bt ?_ (bt ?_ (bt (bt (fM (dy W5 A)) (bK _))
  (bt (bt (fM (dy lf A)) (bK _)) (bt (bt (λt h=>by simp at h) (bK _)) (bK _))))))))
 ·rcases r with _|⟨b,q⟩
  exact bK _;exact bt (fM (dy W5 (λt h=>A t oy))) (bK _)
 ·rcases r with _|⟨b,q⟩
  exact bK _;exact bt (fM A) (bK _)
 rcases r with _|⟨b,q⟩
 exact bK _;exact bt (fM A) (bK _)
def QT(P:Int)(types s:L Ty)(C:qj s):Sm (gd P types s):=by
 have M:=qQ C;refine bt (fM (dy W5 M)) (bt (fM (dy W5 M)) ?_);rcases s with _|⟨a,r⟩
 exact bK _;have W:=(C a c9).2;have Y:=jg a 0;have A:E9 r:=λt h=>M t oy;refine bt ?_ (bt ?_ (bt ?_ (bt ?_ (bt ?_ (bK _)))))
 ·rcases r with _|⟨b,q⟩
  exact bK _;exact aaM
 exact bt (fM (dy lf M)) (bK _)
 ·rcases r with _|⟨b,q⟩
  exact bK _;exact aaM
 exact bt (fM (dy lf A)) (bK _);rcases r with _|⟨b,_|⟨c,q⟩⟩
 exact bK _;exact bK _;exact aaM
def LK:∀(l:L Nd)(o:L Ty×Bool),E9 o.1->Sm (bH l o)
 |[],o,h=>by simp only[bH];exact h
 |n::l,o,h=>by refine bt (bK _) ?_;by_cases h2:(lP (eX n o.1)).2≠0;rw[if_pos h2];exact bK _;rw[if_neg h2];obtain⟨W,B,Y,Q⟩:=rE (r:=eX n o.1) K0;rw[B];exact LK l _ (qQ (ue Q))
def Cl(x:Nd)(l:L Nd)(i:Nat)(s:L Ty):cU (bS (x::l)) i s=match i with|0=>bH (cy x) (s,false)|i+1=>cU (bS l) i s:=by rw[AQ];cases i<;>simp[cU]
def ya:∀(l:L Nd)(i:Nat)(Y:L Ty),E9 Y->Sm (cU (bS l) i Y)
 |[],i,Y,h=>by simp only[cU];exact bK _
 |x::l,0,Y,h=>by rw[Cl];exact LK _ _ h
 |x::l,i+1,Y,h=>by rw[Cl];exact ya l i Y h
def O8{P:Int}{args:L Nd}{types:L Ty}(h:br P args=some types):types.length<=2:=by
 have h1:=jx h;by_cases Y:P=66;subst Y;obtain⟨x,y,N,p,S,xs,t,u,rfl,rfl,_⟩:=Fa h rfl;simp;have h2:(fF P).length<=2:=by unfold fF;grind
 unfold br at h;grind
def QU(P:Int)(args:L Nd)(types s:L Ty)(C:qj s)(hf:br P args=some types):Sm (lD P args (bS args) types s):=by
 have A:=QN hf;have V:=O8 hf;have Q:=vq (λt h=>(A t h).2) (s:=types) 0
 refine bt (Uv _ _ _ C) (bt (bt (fM (dy bn (qQ C))) (bK _)) (bt (QO _ _ _ _ C A (ya args)) (bt (QS _ _ _ _ C A V (ya args))
  (bt (LI _ _ _ _ _ C A V (ya args)) (bt (LJ _ _ C) (bt (Uw _ _ _ C A) (QT _ _ _ C)))))))
def Ux(n:Nd)(s:L Ty)(C:qj s):Sm (eX n s):=by
 obtain⟨u,N,P,S,args⟩:=n;refine bt (LK _ _ (qQ C)) (bt (bK _) ?_);cases hf:br P args with
 |none=>exact bK _
 |some types=>exact QU P args types s C hf
end Go.cB
namespace Go.Proofs
open Go.cB
attribute [local irreducible] AK ai aR bW aO eJ gT fN iP bg bH eX bS iB gZ
def fS{a:L CV}{r:CR}(h:r=aX 5:=by first|(simp[dV,cq,aG,aK,aai,aaj,cU];done)|(simp[*,dV,cq,aG,aK,aai,aaj,cU];done)) (q:af 128 a (.fG [.agg [.any,.any],.int .i64 5]):=by
  refine qn func128 call128 λβ hf=>?_
  exact dw):af 128 a (fL r):=by rw[h,cT cc];exact q
def wV{a:L CV}{r:CR}{l:L Ty}(h:r=eB l:=by first|(simp[dV,cq,aG,aK,aai,aaj,cU];done)|(simp[*,dV,cq,aG,aK,aai,aaj,cU];done)) (q:af 128 a (.fG [.agg [.sl 2 (aj l),.bool false],.int .i64 0]):=by
  refine qn func128 call128 λβ hf=>?_
  exact dw):af 128 a (fL r):=by rw[h];exact q
def Cm(P:Int)(s:L Ty)(C:P=69\/P=70\/P=71\/P=72\/93<=P)(H:s.length<=9999999990):af 128 [.int .i64 P,.sl 2 (aj s)] (fL (dV P s)):=by
 by_cases W:P=93
 ·subst W;rcases s with _|⟨⟨T,us⟩,r⟩
  have E:=jz ([]) [3];exact fS;by_cases Y:T=3;subst Y;have E:=wu (.mk 3 us::r) [3];have D:=ru (r) [.mk 4 []];have J:=cC 4;exact wV (l := .mk 4 []::r);have E:=jz (.mk T us::r) [3];exact fS
 by_cases V:P=94
 ·subst V;rcases s with _|⟨⟨T,us⟩,r⟩
  have E:=jz ([]) [3];exact fS;by_cases Y:T=3;subst Y;have E:=wu (.mk 3 us::r) [3];have D:=ru (r) [.mk 9 [.mk 4 []]];have J:=cC 4;have y1:=dx 9 [.mk 4 []];exact wV (l := .mk 9 [.mk 4 []]::r);have E:=jz (.mk T us::r) [3];exact fS
 by_cases S:P=95
 ·subst S;rcases s with _|⟨⟨T,us⟩,r⟩
  have E:=jz ([]) [4];exact fS;by_cases Y:T=4;subst Y;have E:=wu (.mk 4 us::r) [4];have D:=ru (r) [.mk 3 []];have J:=cC 3;exact wV (l := .mk 3 []::r);have E:=jz (.mk T us::r) [4];exact fS
 by_cases Q:93<=P
 ·rw[show dV P s=aX 5 from by unfold dV;rw[if_neg W,if_neg V,if_neg S,if_pos Q]];rw[cT cc];have G:(P==93)=false:=by simpa using W
  have B:(P==94)=false:=by simpa using V
  have e3:(P==95)=false:=by simpa using S
  have e4:decide (P>=93)=true:=aam Q;exact qdw func128 call128
 have N:P=69\/P=70\/P=71\/P=72:=by omega
 clear C W V S Q;rcases s with _|⟨⟨T,us⟩,_|⟨⟨U,vs⟩,q⟩⟩
 ·rcases N with rfl|rfl|rfl|rfl
  exact fS;exact fS;exact fS;exact fS
 ·rcases N with rfl|rfl|rfl|rfl
  exact fS;exact fS;exact fS;exact fS
 have M:=LD P T U N
 have O:∀t,kY P T U=t->dV P (.mk T us :: .mk U vs::q)=(if t=0 then aX 5 else if P=70/\t=5 then eB (.mk 9 [.mk 5 []]::q)else if P≠72 then eB (.mk t []::q)
   else eB (.mk 9 [.mk 11 [.mk (if T=5/\U=5 then 4 else t) [],.mk (if T=5 then 5 else 4) []]]::q)):=by
  rintro t rfl
  conv=>lhs;unfold dV
  rw[if_neg bn,if_neg bn,if_neg bn,if_neg bn];rfl
 generalize kY P T U=t at M O;rw[O t rfl];clear O;simp only[aaa]at H;by_cases A:t=0
 ·subst A;rw[if_pos Z,cT cc];rcases N with rfl|rfl|rfl|rfl
  all_goals
   exact qdw func128 call128
 rw[if_neg A];have G:(t==0)=false:=by simpa using A
 rcases N with rfl|rfl|rfl|rfl
 rw[if_neg bn,if_pos cc];have D:=ru (q) [.mk t []];rw[ep];refine qn func128 call128 λβ hf=>?_;have wq:=cC t;exact dw
 ·by_cases K:t=5;subst K;rw[if_pos ⟨Z,Z⟩];have D:=ru (q) [.mk 9 [.mk 5 []]];rw[ep];refine qn func128 call128 λβ hf=>?_;have Eu:=cC 5;have LL:=dx 9 [.mk 5 []];exact dw;have B:(t==5)=false:=by simpa using K
  rw[if_neg (λh=>K h.2),if_pos cc];have D:=ru (q) [.mk t []];rw[ep];refine qn func128 call128 λβ hf=>?_;have QV:=cC t;exact dw
 rw[if_neg bn,if_pos cc];have D:=ru (q) [.mk t []];rw[ep];refine qn func128 call128 λβ hf=>?_;have QW:=cC t;exact dw;rw[if_neg bn,if_neg cc];by_cases Y:T=5
 ·subst Y;by_cases I:U=5;subst I;rw[if_pos ⟨Z,Z⟩,if_pos rfl];have D:=ru (q) [.mk 9 [.mk 11 [.mk 4 [],.mk 5 []]]];rw[ep];refine qn func128 call128 λβ hf=>?_;have Uy:=cC 4;have YB:=cC 5;have u:=dx 11 [.mk 4 [],.mk 5 []];have p:=dx 9 [.mk 11 [.mk 4 [],.mk 5 []]];exact dw;have B:(U==5)=false:=by simpa using I
  rw[if_neg (λh=>I h.2),if_pos rfl];have D:=ru (q) [.mk 9 [.mk 11 [.mk t [],.mk 5 []]]];rw[ep];refine qn func128 call128 λβ hf=>?_;have YC:=cC 4;have YD:=cC 5;have YE:=cC t;have acM:=dx 11 [.mk t [],.mk 5 []];have acN:=dx 9 [.mk 11 [.mk t [],.mk 5 []]];exact dw
 have B:(T==5)=false:=by simpa using Y
 rw[if_neg (λh=>Y h.1),if_neg Y];have D:=ru (q) [.mk 9 [.mk 11 [.mk t [],.mk 4 []]]];rw[ep];refine qn func128 call128 λβ hf=>?_;have acO:=cC 4;have acP:=cC t;have acQ:=dx 11 [.mk t [],.mk 4 []];have acR:=dx 9 [.mk 11 [.mk t [],.mk 4 []]];exact dw
end Go.Proofs
namespace Go.Proofs
open Go.cB
attribute [local irreducible] AK ai aR bW aO eJ gT fN iP bg bH eX bS iB gZ
def eK{a:L CV}{r:CR}(h:r=aX 5:=by first|(simp[iJ,cq,aG,aK,aai,aaj,cU];done)|(simp[*,iJ,cq,aG,aK,aai,aaj,cU];done)) (q:af 129 a (.fG [.agg [.any,.any],.int .i64 5]):=by
  refine qn func129 call129 λβ hf=>?_
  exact dw):af 129 a (fL r):=by rw[h,cT cc];exact q
def nD{a:L CV}{r:CR}{l:L Ty}(h:r=eB l:=by first|(simp[iJ,cq,aG,aK,aai,aaj,cU];done)|(simp[*,iJ,cq,aG,aK,aai,aaj,cU];done)) (q:af 129 a (.fG [.agg [.sl 2 (aj l),.bool false],.int .i64 0]):=by
  refine qn func129 call129 λβ hf=>?_
  exact dw):af 129 a (fL r):=by rw[h];exact q
def I6(P:Int)(args:L Nd)(types s:L Ty)(K:73<=P/\P<=83)(hf:br P args=some types)(C:qj s)(J:s.length<=9999999990):af 129 [.int .i64 P,.sl 2 (aj types),.sl 2 (aj s)] (fL (iJ P types s)):=by
 have O:P=73\/P=74\/P=75\/P=76\/P=77\/P=78\/P=79\/P=80\/P=81\/P=82\/P=83:=by omega
 clear K;rcases O with rfl|rfl|rfl|rfl|rfl|rfl|rfl|rfl|rfl|rfl|rfl
 ·obtain⟨rfl,rfl⟩:=cM hf rfl;clear hf;rcases s with _|⟨⟨T,us⟩,_|⟨⟨U,vs⟩,q⟩⟩
  exact eK;exact eK;have h1:=gJ (.mk T us) (.mk U vs) gp;have h2:=kr (.mk T us) gp;cases g1:cw (.mk T us) (.mk U vs);rw[g1]at h1;exact eK;cases I:eJ (.mk T us);rw[g1]at h1;rw[I]at h2;exact eK;rw[g1]at h1;rw[I]at h2;have N:=wS (aj (.mk T us :: .mk U vs::q)) 1 tF;have D:=ru (q) [.mk 3 []];have M:=cC 3;exact nD (l := .mk 3 []::q)
 ·obtain⟨rfl,rfl⟩:=cM hf rfl;clear hf;rcases s with _|⟨⟨T,us⟩,r⟩
  have E:=jz ([]) [3];exact eK;by_cases Y:T=3;subst Y;have E:=wu (.mk 3 us::r) [3];have D:=ru (r) [.mk 2 []];have M:=cC 2;exact nD (l := .mk 2 []::r);have E:=jz (.mk T us::r) [3];exact eK
 ·obtain⟨rfl,rfl⟩:=cM hf rfl;clear hf;rcases s with _|⟨⟨T,us⟩,r⟩
  have E:=jz ([]) [3];exact eK;by_cases Y:T=3;subst Y;have E:=wu (.mk 3 us::r) [3];have D:=ru (r) [.mk 2 []];have M:=cC 2;exact nD (l := .mk 2 []::r);have E:=jz (.mk T us::r) [3];exact eK
 ·obtain⟨rfl,rfl⟩:=cM hf rfl;clear hf;rcases s with _|⟨⟨T,us⟩,r⟩
  have E:=jz ([]) [3];exact eK;by_cases Y:T=3;subst Y;have E:=wu (.mk 3 us::r) [3];have D:=ru (r) [.mk 2 []];have M:=cC 2;exact nD (l := .mk 2 []::r);have E:=jz (.mk T us::r) [3];exact eK
 ·obtain⟨rfl,rfl⟩:=cM hf rfl;clear hf;rcases s with _|⟨⟨T,us⟩,r⟩
  have E:=jz ([]) [2];exact eK;by_cases Y:T=2;subst Y;have E:=wu (.mk 2 us::r) [2];have D:=LH (.mk 2 us::r);exact nD (l := .mk 2 us::r);have E:=jz (.mk T us::r) [2];exact eK
 ·obtain⟨rfl,rfl⟩:=cM hf rfl;clear hf;rcases s with _|⟨⟨T,us⟩,_|⟨⟨U,vs⟩,q⟩⟩
  have E:=jz ([]) [2,2];exact eK;have E:=jz ([.mk T us]) [2,2];exact eK;by_cases Y:T=2/\U=2;obtain⟨rfl,rfl⟩:=Y;have E:=wu (.mk 2 us :: .mk 2 vs::q) [2,2];have D:=LH (.mk 2 vs::q);exact nD (l := .mk 2 vs::q);have Q:T=2->¬U=2:=λa b=>Y ⟨a,b⟩;have E:=jz (.mk T us :: .mk U vs::q) [2,2];exact eK
 ·obtain⟨rfl,rfl⟩:=cM hf rfl;clear hf;rcases s with _|⟨⟨T,us⟩,_|⟨⟨U,vs⟩,q⟩⟩
  have E:=jz ([]) [2,2];exact eK;have E:=jz ([.mk T us]) [2,2];exact eK;by_cases Y:T=2/\U=2;obtain⟨rfl,rfl⟩:=Y;have E:=wu (.mk 2 us :: .mk 2 vs::q) [2,2];have D:=LH (.mk 2 vs::q);exact nD (l := .mk 2 vs::q);have Q:T=2->¬U=2:=λa b=>Y ⟨a,b⟩;have E:=jz (.mk T us :: .mk U vs::q) [2,2];exact eK
 ·obtain⟨rfl,rfl⟩:=cM hf rfl;clear hf;rcases s with _|⟨⟨T,us⟩,_|⟨⟨U,vs⟩,q⟩⟩
  have E:=jz ([]) [6,6];exact eK;have E:=jz ([.mk T us]) [6,6];exact eK;by_cases Y:T=6/\U=6;obtain⟨rfl,rfl⟩:=Y;have E:=wu (.mk 6 us :: .mk 6 vs::q) [6,6];have D:=LH (.mk 6 vs::q);exact nD (l := .mk 6 vs::q);have Q:T=6->¬U=6:=λa b=>Y ⟨a,b⟩;have E:=jz (.mk T us :: .mk U vs::q) [6,6];exact eK
 ·obtain⟨rfl,rfl⟩:=cM hf rfl;clear hf;rcases s with _|⟨⟨T,us⟩,r⟩
  exact eK;have h2:=l9 (.mk T us) gp;have S:=wS (aj (.mk T us::r)) 0 tF;cases I:fN (.mk T us);rw[I]at h2;exact eK;rw[I]at h2;have D:=ru (r) [.mk 6 []];have M:=cC 6;exact nD (l := .mk 6 []::r)
 ·obtain⟨x,t,rfl,rfl,A⟩:=vr hf rfl;clear hf;have H:=A.2;obtain⟨V,W⟩:=t;have h2:=l9 (.mk V W) bn;rcases s with _|⟨⟨T,us⟩,r⟩
  have E:=jz ([]) [6];exact eK;by_cases Y:T=6;subst Y;have E:=wu (.mk 6 us::r) [6];cases I:fN (.mk V W);rw[I]at h2;exact eK;rw[I]at h2;have D:=ru (r) [.mk 9 [.mk V W]];have M:=dx 9 [.mk V W];exact nD (l := .mk 9 [.mk V W]::r);have E:=jz (.mk T us::r) [6];exact eK
 obtain⟨rfl,rfl⟩:=cM hf rfl;clear hf;rcases s with _|⟨⟨T,us⟩,r⟩
 exact eK;have h2:=l9 (.mk T us) gp;have S:=wS (aj (.mk T us::r)) 0 tF;cases I:fN (.mk T us);rw[I]at h2;exact eK;rw[I]at h2;rw[show iJ 83 ([]) (.mk T us::r)=(([],true),0)from by simp[iJ,cq,aG,aK,aai,aaj,cU,I]];rw[I1];exact qdw func129 call129
end Go.Proofs
namespace Go.Proofs
open Go.cB
attribute [local irreducible] AK ai aR bW aO eJ gT fN iP bg bH eX bS iB gZ
def fT{a:L CV}{r:CR}(h:r=aX 5:=by first|(simp[gd,cq,aG,aK,aai,aaj,cU];done)|(simp[*,gd,cq,aG,aK,aai,aaj,cU];done)) (q:af 130 a (.fG [.agg [.any,.any],.int .i64 5]):=by
  refine qn func130 call130 λβ hf=>?_
  exact dw):af 130 a (fL r):=by rw[h,cT cc];exact q
def mb{a:L CV}{r:CR}{l:L Ty}(h:r=eB l:=by first|(simp[gd,cq,aG,aK,aai,aaj,cU];done)|(simp[*,gd,cq,aG,aK,aai,aaj,cU];done)) (q:af 130 a (.fG [.agg [.sl 2 (aj l),.bool false],.int .i64 0]):=by
  refine qn func130 call130 λβ hf=>?_
  exact dw):af 130 a (fL r):=by rw[h];exact q
def Gu(P:Int)(args:L Nd)(types s:L Ty)(G:84<=P/\P<=92)(hf:br P args=some types)(C:qj s)(hl:s.length<=9999999990):af 130 [.int .i64 P,.sl 2 (aj types),.sl 2 (aj s)] (fL (gd P types s)):=by
 have u:P=84\/P=85\/P=86\/P=87\/P=88\/P=89\/P=90\/P=91\/P=92:=by omega
 clear G;rcases u with rfl|rfl|rfl|rfl|rfl|rfl|rfl|rfl|rfl
 ·obtain⟨rfl,rfl⟩:=cM hf rfl;clear hf;rcases s with _|⟨⟨T,us⟩,_|⟨⟨U,vs⟩,q⟩⟩
  have E:=jz ([]) [0,4];exact fT;have E:=jz ([.mk T us]) [0,4];exact fT;have h2:=kr (.mk T us) gp;by_cases I:U=4;subst I;have E:=wu (.mk T us :: .mk 4 vs::q) [0,4];cases Q:eJ (.mk T us);rw[Q]at h2;exact fT;rw[Q]at h2;have D:=ru (q) [.mk 9 [.mk 15 [.mk T us]]];have M:=dx 15 [.mk T us];have A:=dx 9 [.mk 15 [.mk T us]];exact mb (l := .mk 9 [.mk 15 [.mk T us]]::q);have E:=jz (.mk T us :: .mk U vs::q) [0,4];exact fT
 ·obtain⟨rfl,rfl⟩:=cM hf rfl;clear hf;rcases s with _|⟨⟨T,us⟩,r⟩
  have E:=jz ([]) [15];exact fT;by_cases S:T=15;subst S;obtain⟨⟨X,xs⟩,rfl,hx⟩:=cO (C _ (acY ..)) rfl;have E:=wu (.mk 15 [.mk X xs]::r) [15];have D:=ru (.mk 15 [.mk X xs]::r) [.mk 11 [.mk 7 [],.mk 11 [.mk X xs,.mk 4 []]]];have M:=cC 7;have A:=cC 4;have y2:=dx 11 [.mk X xs,.mk 4 []];have y3:=dx 11 [.mk 7 [],.mk 11 [.mk X xs,.mk 4 []]];exact mb (l := .mk 11 [.mk 7 [],.mk 11 [.mk X xs,.mk 4 []]] :: .mk 15 [.mk X xs]::r);have E:=jz (.mk T us::r) [15];exact fT
 ·obtain⟨rfl,rfl⟩:=cM hf rfl;clear hf;rcases s with _|⟨⟨T,us⟩,_|⟨⟨U,vs⟩,q⟩⟩
  have E:=jz ([]) [15,11];exact fT;have E:=jz ([.mk T us]) [15,11];exact fT;by_cases S:T=15/\U=11;obtain⟨rfl,rfl⟩:=S;obtain⟨⟨X,xs⟩,⟨Y,J⟩,rfl,hx,hy⟩:=cJ (C (.mk 11 vs) c9) rfl;have E:=wu (.mk 15 us :: .mk 11 [.mk X xs,.mk Y J]::q) [15,11];by_cases hX:X=4;subst hX;by_cases H:Y=4;subst H;have D:=ru (q) [.mk 9 [.mk 11 [.mk 15 us,.mk 15 us]]];have M:=dx 11 [.mk 15 us,.mk 15 us];have A:=dx 9 [.mk 11 [.mk 15 us,.mk 15 us]];exact mb (l := .mk 9 [.mk 11 [.mk 15 us,.mk 15 us]]::q);have B:(Y==4)=false:=(by simpa using H);exact fT;have B:(X==4)=false:=(by simpa using hX);exact fT;have p:T=15->¬U=11:=λa b=>S ⟨a,b⟩;have E:=jz (.mk T us :: .mk U vs::q) [15,11];have N:¬(T=15/\U=11/\cq (vs.getD 0 iY)=4/\cq (vs.getD 1 iY)=4):=λh=>S ⟨h.1,h.2.1⟩;rw[show gd 86 ([]) (.mk T us :: .mk U vs::q)=aX 5 from by unfold gd;rw[if_neg cc,if_neg cc];dsimp only;rw[if_neg cc,if_neg cc,if_pos rfl];exact if_neg N,cT cc];exact qdw func130 call130
 ·obtain⟨rfl,rfl⟩:=cM hf rfl;clear hf;rcases s with _|⟨⟨T,us⟩,r⟩
  have E:=jz ([]) [11];exact fT;by_cases S:T=11;subst S;obtain⟨⟨X,xs⟩,⟨Y,J⟩,rfl,hx,hy⟩:=cJ (C (.mk 11 us) c9) rfl;have E:=wu (.mk 11 [.mk X xs,.mk Y J]::r) [11];have Yi:=hx.2;have h1:=gJ (.mk X xs) (.mk Y J) bn;by_cases hX:X=15;subst hX;cases g1:cw (.mk 15 xs) (.mk Y J);rw[g1]at h1;exact fT;rw[g1]at h1;have D:=ru (r) [.mk 9 [.mk 15 xs]];have M:=dx 9 [.mk 15 xs];exact mb (l := .mk 9 [.mk 15 xs]::r);have B:(X==15)=false:=(by simpa using hX);exact fT;have E:=jz (.mk T us::r) [11];exact fT
 ·obtain⟨x0,t,rfl,rfl,ht⟩:=vr hf rfl;clear hf;have V3:=ht.2;obtain⟨V,O⟩:=t;rcases s with _|⟨⟨T,us⟩,_|⟨⟨U,vs⟩,_|⟨⟨W,K⟩,q⟩⟩⟩
  have E:=jz ([]) [0,5,7];exact fT;have E:=jz ([.mk T us]) [0,5,7];exact fT;have E:=jz ([.mk T us,.mk U vs]) [0,5,7];exact fT;have h1:=gJ (.mk T us) (.mk V O) gp;have h2:=yb (.mk T us) gp;by_cases I:U=5/\W=7;obtain⟨rfl,rfl⟩:=I;have E:=wu (.mk T us :: .mk 5 vs :: .mk 7 K::q) [0,5,7];cases g1:cw (.mk T us) (.mk V O);rw[g1]at h1;exact fT;cases Q:iP (.mk T us);rw[g1]at h1;rw[Q]at h2;exact fT;rw[g1]at h1;rw[Q]at h2;have D:=ru (q) [.mk 8 []];have M:=cC 8;exact mb (l := .mk 8 []::q);have p:U=5->¬W=7:=λa b=>I ⟨a,b⟩;have E:=jz (.mk T us :: .mk U vs :: .mk W K::q) [0,5,7];have N:¬(U=5/\W=7/\cw (.mk T us) (.mk V O)=true/\iP (.mk T us)=true):=λh=>I ⟨h.1,h.2.1⟩;rw[show gd 88 ([.mk V O]) (.mk T us :: .mk U vs :: .mk W K::q)=aX 5 from by unfold gd;rw[if_neg cc,if_neg cc];dsimp only;rw[if_neg cc,if_neg cc,if_neg cc,if_neg cc,if_pos rfl];exact if_neg N,cT cc];exact qdw func130 call130
 obtain⟨rfl,rfl⟩:=cM hf rfl;clear hf;have D:=ru (s) [.mk 7 []];have M:=cC 7;exact mb (l := .mk 7 []::s);obtain⟨rfl,rfl⟩:=cM hf rfl;clear hf;have D:=ru (s) [.mk 7 []];have M:=cC 7;exact mb (l := .mk 7 []::s);obtain⟨rfl,rfl⟩:=cM hf rfl;clear hf;have D:=ru (s) [.mk 5 []];have M:=cC 5;exact mb (l := .mk 5 []::s);obtain⟨rfl,rfl⟩:=cM hf rfl;clear hf;have D:=ru (s) [.mk 5 []];have M:=cC 5;exact mb (l := .mk 5 []::s)
end Go.Proofs
namespace Go.Proofs
open Go.cB
attribute [local irreducible] AK ai aR bW aO eJ gT fN iP bg bH eX bS iB gZ
def dP{a:L CV}{r:CR}(h:r=aX 5:=by first|(simp[cF,cq,aG,aK,aai,aaj,cU];done)|(simp[*,cF,cq,aG,aK,aai,aaj,cU];done)) (q:af 125 a (.fG [.agg [.any,.any],.int .i64 5]):=by
  refine qn func125 call125 λβ hf=>?_
  exact dw):af 125 a (fL r):=by rw[h,cT cc];exact q
def iC{a:L CV}{r:CR}{l:L Ty}(h:r=eB l:=by first|(simp[cF,cq,aG,aK,aai,aaj,cU];done)|(simp[*,cF,cq,aG,aK,aai,aaj,cU];done)) (q:af 125 a (.fG [.agg [.sl 2 (aj l),.bool false],.int .i64 0]):=by
  refine qn func125 call125 λβ hf=>?_
  exact dw):af 125 a (fL r):=by rw[h];exact q
def Cn(P nN:Int)(nS:L UInt8)(args:L Nd)(types s:L Ty)(hP:46<=P/\P<=58)(hf:br P args=some types)(C:qj s)(hl:s.length<=9999999990)(hsz:aM args<=8589934593)
  (B:∀a∈args,∀s':L Ty,qj s'->s'.length<=s.length+1->af 59 [.sl 5 (aD (cy a)),.sl 2 (aj s')] (tu (bH (cy a) (s',false)))) :
  af 125 [aS (.mk 2 nN P nS args),.sl 2 (aj types),.sl 2 (aj s)] (fL (cF P (bS args) types s)):=by
 have O9:P=46\/P=47\/P=48\/P=49\/P=50\/P=51\/P=52\/P=53\/P=54\/P=55\/P=56\/P=57\/P=58:=by omega
 clear hP;rcases O9 with rfl|rfl|rfl|rfl|rfl|rfl|rfl|rfl|rfl|rfl|rfl|rfl|rfl
 ·obtain⟨rfl,rfl⟩:=cM hf rfl;clear hf;rcases s with _|⟨⟨T,us⟩,_|⟨⟨U,vs⟩,q⟩⟩
  exact dP;exact dP;have el1:=wS (aj (.mk T us :: .mk U vs::q)) 1 tF;have D:=ru (q) [.mk 11 [.mk T us,.mk U vs]];have y0:=dx 11 [.mk T us,.mk U vs];exact iC (l := .mk 11 [.mk T us,.mk U vs]::q)
 ·obtain⟨rfl,rfl⟩:=cM hf rfl;clear hf;rcases s with _|⟨⟨T,us⟩,r⟩
  exact dP;by_cases Q:T=11;subst Q;obtain⟨⟨X,K⟩,⟨Y,J⟩,rfl,hx,hy⟩:=cJ (C (.mk 11 us) c9) rfl;have E:=wu (.mk 11 [.mk X K,.mk Y J]::r) [11];have D:=ru (r) [.mk X K,.mk Y J];exact iC (l := .mk X K :: .mk Y J::r);have E:=jz (.mk T us::r) [11];exact dP
 ·obtain⟨rfl,rfl⟩:=cM hf rfl;clear hf;rcases s with _|⟨⟨T,us⟩,r⟩
  exact dP;by_cases Q:T=11;subst Q;obtain⟨⟨X,K⟩,⟨Y,J⟩,rfl,hx,hy⟩:=cJ (C (.mk 11 us) c9) rfl;have E:=wu (.mk 11 [.mk X K,.mk Y J]::r) [11];have D:=ru (r) [.mk X K];exact iC (l := .mk X K::r);have E:=jz (.mk T us::r) [11];exact dP
 ·obtain⟨rfl,rfl⟩:=cM hf rfl;clear hf;rcases s with _|⟨⟨T,us⟩,r⟩
  exact dP;by_cases Q:T=11;subst Q;obtain⟨⟨X,K⟩,⟨Y,J⟩,rfl,hx,hy⟩:=cJ (C (.mk 11 us) c9) rfl;have E:=wu (.mk 11 [.mk X K,.mk Y J]::r) [11];have D:=ru (r) [.mk Y J];exact iC (l := .mk Y J::r);have E:=jz (.mk T us::r) [11];exact dP
 ·obtain⟨x0,t,rfl,rfl,ht⟩:=vr hf rfl;clear hf;have V3:=ht.2;obtain⟨V,W⟩:=t;rcases s with _|⟨⟨T,us⟩,r⟩
  exact dP;have D:=ru (r) [.mk 12 [.mk T us,.mk V W]];have y0:=dx 12 [.mk T us,.mk V W];exact iC (l := .mk 12 [.mk T us,.mk V W]::r)
 ·obtain⟨x0,t,rfl,rfl,ht⟩:=vr hf rfl;clear hf;have V3:=ht.2;obtain⟨V,W⟩:=t;rcases s with _|⟨⟨T,us⟩,r⟩
  exact dP;have D:=ru (r) [.mk 12 [.mk V W,.mk T us]];have y0:=dx 12 [.mk V W,.mk T us];exact iC (l := .mk 12 [.mk V W,.mk T us]::r)
 ·obtain⟨I,O,N,xs,M,H,G,J,rfl,rfl⟩:=yc hf rfl;clear hf;rcases s with _|⟨⟨T,us⟩,r⟩
  exact dP;by_cases Q:T=12;subst Q;simp only[aaa]at hl;have zr:=aL r;have S:=(nO C).2;obtain⟨⟨X,K⟩,⟨Y,qs⟩,rfl,hx,hy⟩:=cJ (C (.mk 12 us) c9) rfl;have E:=wu (.mk 12 [.mk X K,.mk Y qs]::r) [12];have A:=B (.mk 3 I O N xs) c9 (.mk X K::r) (kz hx S) ek;have u:=jI xs (.mk X K::r,false) (kz hx S);have p:=B (.mk 3 M H G J) c9 (.mk Y qs::r) (kz hy S) ek;have o2:=jI J (.mk Y qs::r,false) (kz hy S);rw[show cF 52 (bS ([.mk 3 I O N xs,.mk 3 M H G J])) ([]) (.mk 12 [.mk X K,.mk Y qs]::r)=cn (bH xs (.mk X K::r,false)) (bH J (.mk Y qs::r,false))from by simp[cF,cq,aG,aK,aai,aaj,cU,bS]];simp only[cy]at A;generalize bH xs (.mk X K::r,false)=r1 at A u ⊢;obtain⟨⟨t1,b1⟩,e1⟩:=r1;simp only[aaa]at u;simp only[cy]at p;generalize bH J (.mk Y qs::r,false)=r2 at p o2 ⊢;obtain⟨⟨t2,b2⟩,e2⟩:=r2;simp only[aaa]at o2;have hm:=ij ((t1,b1),e1) ((t2,b2),e2) u.1 sk;generalize cn ((t1,b1),e1) ((t2,b2),e2)=rm at hm ⊢;obtain⟨⟨tm,bm⟩,em⟩:=rm;exact qdw func125 call125;have E:=jz (.mk T us::r) [12];exact dP
 ·obtain⟨rfl,rfl⟩:=cM hf rfl;clear hf;rcases s with _|⟨⟨T,us⟩,r⟩
  exact dP;have D:=ru (r) [.mk 9 [.mk T us]];have y0:=dx 9 [.mk T us];exact iC (l := .mk 9 [.mk T us]::r)
 obtain⟨x0,t,rfl,rfl,ht⟩:=vr hf rfl;clear hf;have V3:=ht.2;obtain⟨V,W⟩:=t;have D:=ru (s) [.mk 9 [.mk V W]];have y0:=dx 9 [.mk V W];exact iC (l := .mk 9 [.mk V W]::s)
 ·obtain⟨I,O,N,xs,M,H,G,J,rfl,rfl⟩:=yc hf rfl;clear hf;rcases s with _|⟨⟨T,us⟩,r⟩
  exact dP;by_cases Q:T=9;subst Q;simp only[aaa]at hl;have zr:=aL r;have S:=(nO C).2;obtain⟨⟨X,K⟩,rfl,hx⟩:=cO (C (.mk 9 us) c9) rfl;have E:=wu (.mk 9 [.mk X K]::r) [9];have A:=B (.mk 3 I O N xs) c9 (r) S ek;have u:=jI xs (r,false) S;have p:=B (.mk 3 M H G J) c9 (.mk X K::r) (kz hx S) ek;have o2:=jI J (.mk X K::r,false) (kz hx S);rw[show cF 55 (bS ([.mk 3 I O N xs,.mk 3 M H G J])) ([]) (.mk 9 [.mk X K]::r)=cn (bH xs (r,false)) (bH J (.mk X K::r,false))from by simp[cF,cq,aG,aK,aai,aaj,cU,bS]];simp only[cy]at A;generalize bH xs (r,false)=r1 at A u ⊢;obtain⟨⟨t1,b1⟩,e1⟩:=r1;simp only[aaa]at u;simp only[cy]at p;generalize bH J (.mk X K::r,false)=r2 at p o2 ⊢;obtain⟨⟨t2,b2⟩,e2⟩:=r2;simp only[aaa]at o2;have hm:=ij ((t1,b1),e1) ((t2,b2),e2) u.1 sk;generalize cn ((t1,b1),e1) ((t2,b2),e2)=rm at hm ⊢;obtain⟨⟨tm,bm⟩,em⟩:=rm;refine qn func125 call125 λβ hf=>?_;have wq:=eG r bn;exact dw;have E:=jz (.mk T us::r) [9];exact dP
 obtain⟨x0,t,rfl,rfl,ht⟩:=vr hf rfl;clear hf;have V3:=ht.2;obtain⟨V,W⟩:=t;have D:=ru (s) [.mk 10 [.mk V W]];have y0:=dx 10 [.mk V W];exact iC (l := .mk 10 [.mk V W]::s)
 ·obtain⟨rfl,rfl⟩:=cM hf rfl;clear hf;rcases s with _|⟨⟨T,us⟩,_|⟨⟨U,vs⟩,q⟩⟩
  exact dP;have E:=jz ([.mk T us]) [0,10];exact dP;by_cases hU:U=10;subst hU;obtain⟨⟨X,K⟩,rfl,hx⟩:=cO (C (.mk 10 vs) c9) rfl;have E:=wu (.mk T us :: .mk 10 [.mk X K]::q) [0,10];have h1:=gJ (.mk T us) (.mk X K) gp;cases g1:cw (.mk T us) (.mk X K);rw[g1]at h1;exact dP;rw[g1]at h1;have D:=LH (.mk 10 [.mk X K]::q);exact iC (l := .mk 10 [.mk X K]::q);have E:=jz (.mk T us :: .mk U vs::q) [0,10];exact dP
 obtain⟨I,O,N,xs,M,H,G,J,rfl,rfl⟩:=yc hf rfl;clear hf;rcases s with _|⟨⟨T,us⟩,r⟩
 exact dP;by_cases Q:T=10;subst Q;simp only[aaa]at hl;have zr:=aL r;have S:=(nO C).2;obtain⟨⟨X,K⟩,rfl,hx⟩:=cO (C (.mk 10 us) c9) rfl;have E:=wu (.mk 10 [.mk X K]::r) [10];have A:=B (.mk 3 I O N xs) c9 (.mk X K :: .mk 10 [.mk X K]::r) (kz hx C) ek;have u:=jI xs (.mk X K :: .mk 10 [.mk X K]::r,false) (kz hx C);have p:=B (.mk 3 M H G J) c9 (r) S ek;have o2:=jI J (r,false) S;rw[show cF 58 (bS ([.mk 3 I O N xs,.mk 3 M H G J])) ([]) (.mk 10 [.mk X K]::r)=cn (bH xs (.mk X K :: .mk 10 [.mk X K]::r,false)) (bH J (r,false))from by simp[cF,cq,aG,aK,aai,aaj,cU,bS]];simp only[cy]at A;generalize bH xs (.mk X K :: .mk 10 [.mk X K]::r,false)=r1 at A u ⊢;obtain⟨⟨t1,b1⟩,e1⟩:=r1;simp only[aaa]at u;simp only[cy]at p;generalize bH J (r,false)=r2 at p o2 ⊢;obtain⟨⟨t2,b2⟩,e2⟩:=r2;simp only[aaa]at o2;have hm:=ij ((t1,b1),e1) ((t2,b2),e2) u.1 sk;generalize cn ((t1,b1),e1) ((t2,b2),e2)=rm at hm ⊢;obtain⟨⟨tm,bm⟩,em⟩:=rm;refine qn func125 call125 λβ hf=>?_;have Eu:=eG r bn;exact dw;have E:=jz (.mk T us::r) [10];exact dP
end Go.Proofs
