/- Package run: -/
import Derived.Test.YteanleefnjknoaaGreatDoorRunAM
import Derived.Test.YteanleefnjknoaaGreatDoorRunAB
import Derived.Test.YteanleefnjknoaaGreatDoorLibD
import Derived.Test.YteanleefnjknoaaGreatDoorLed4
import Derived.Test.YteanleefnjknoaaGreatDoorRun2
set_option maxRecDepth 100000
set_option linter.defProp false
set_option linter.unusedVariables false
set_option linter.unusedSimpArgs false
namespace Go.Proofs
open Go.cK
def U3{n:Nd}{l:L Nd}{s Q:L Ty}{f':Bool}(h:CB (n::l) s Q f'):∃r,fD n s=(r,0)/\r.1.length<=40/\r.1.all bB=true/\cE l r=((Q,f'),0):=by
 unfold CB at h;simp only[cE]at h;rw[if_neg bT]at h;split at h
 ·rename_i c;exact absurd (aeb Prod.snd h) c
 rename_i c;simp only[ne_eq,aey]at c;obtain⟨h1,h2,V,S⟩:=sZ c;rw[h2]at h;exact⟨(fD n s).1,by rw[<- h1],V,S,h⟩
def Ar{I:L Ty×Bool}{F:iJ}{t:List iJ}{s:L Ty}{n:Nd}(h:FT I (F::t) s)(B:F.code[F.pos]?=some n):∃r,fD n s=(r,0)/\r.1.all bB=true/\(r.2=false->FT I ({F with pos:=F.pos+1}::t) r.1)/\n∈F.code:=by
 obtain⟨P,Y,U,Q,f',A,W⟩:=h;obtain⟨p,O⟩:=List.getElem?_eq_some_iff.1 B;have e:F.code.drop F.pos=n::F.code.drop (F.pos+1):=by rw[agd p,O]
 rw[e]at A;obtain⟨r,h1,h2,V,S⟩:=U3 A;refine⟨r,h1,V,λC=>?_,aaB B⟩;have g0:=mW Y;refine⟨by show r.1.length+cV F.code<=340;omega,Y,by show F.pos+1<=F.code.length;omega,Q,f',?_,W⟩;show cE (F.code.drop (F.pos+1)) (r.1,false)=_;rw[<- C];exact S
def LD{I:L Ty×Bool}{S:ct}{s:L Ty}{F:iJ}{t:List iJ}{N P:Int}{W:L UInt8}{J:L Nd}(U:MT I S s)(h:S.fr=F::t)(V:F.code[F.pos]?=some (.mk 3 N P W J)):Ew S (dX (iQ S F t) J 0 [])/\MT I (dX (iQ S F t) J 0 []) s/\left (dX (iQ S F t) J 0 [])<left S:=by
 obtain⟨B,Y,q,T,Q,O⟩:=U;rw[h]at Y;have M:=Y;obtain⟨E,K,D,_⟩:=M;obtain⟨r,h1,h2,H,G⟩:=Ar Y V;obtain⟨g1,C⟩:=qk K G;simp only[fD,if_true]at h1;refine⟨⟨Z,Z,Z,Z,Z⟩,⟨B,?_,q,T,Q,O⟩,?_⟩
 ·exact Jq (r:=r) (by rw[h1]) (λ_=>by rw[h1]) bn g1 H
 ·have e:=LF V;simp only[many]at e;show left {iQ S F t with fr:=⟨J,0,0,[]⟩::{F with pos:=F.pos+1}::t}<left S;simp only[left];rw[h];simp only[zh,Ye,agb];omega
def HJ{I:L Ty×Bool}{S:ct}{s:L Ty}{F:iJ}{t:List iJ}{N P:Int}{T:L UInt8}{J:L Nd}(hT:MT I S s)(h:S.fr=F::t)(q:F.code[F.pos]?=some (.mk 2 N P T J))(hg:S.used<S.cC)(hW:left S<=1000000000) :
  bh N T P J {iQ S F t with used:=S.used+1}/\OV I S (aJ P J {iQ S F t with used:=S.used+1})/\(aJ P J {iQ S F t with used:=S.used+1}).1≠12:=by
 obtain⟨V,Q,dH,ld,lF,zg⟩:=hT;rw[h]at Q;have U4:=Q;obtain⟨f1,f2,f3,_⟩:=U4;obtain⟨r,h1,h2,h3,h4⟩:=Ar Q q;obtain⟨g1,g2⟩:=qk f2 h4;have p:=Ex S.fr;have O:left S=(S.cC-S.used).toNat*900+zh S.fr:=rfl;rw[h]at p O;simp only[aac]at p;simp only[fD]at h1;rw[if_neg bT,if_neg bT]at h1;cases hf:bW P J with
 |none=>rw[hf]at h1;cases h1
 |some B =>
 rw[hf]at h1;have yG:mU P J (bf J) B s=(r,0):=h1;obtain⟨k1,k2⟩:=OX I P {iQ S F t with used:=S.used+1} dH ld N T J g1 B s r hf V bn (by show({F with pos:=F.pos+1}::t).length<=_;simp only[aac];omega) h2 yG;obtain⟨⟨q1,M,K,G,Y,U⟩,E,D,m3⟩:=U5 P J {iQ S F t with used:=S.used+1} B s r ld V hf yG;refine⟨k1,?_,by rcases k2 with (⟨H,_⟩|H|H)|⟨H,_⟩|⟨H,_⟩<;>rw[H]<;>decide⟩;generalize aJ P J {iQ S F t with used:=S.used+1}=o at *;simp only at q1 M K G Y U;have C:0<=o.2.used/\o.2.used<=o.2.cC:=by rw[Y,U];omega
 have ZV:qb o.2.self o.2.iE o.2.iF o.2.balance=true:=by rw[q1,M,K,G];exact dH
 refine⟨⟨q1,M,K,G,Y⟩,C,⟨E,D⟩,?_⟩;have e:=LF q;simp only[many]at e;rcases k2 with (⟨H,W,A,u⟩|H|H)|⟨H,F2,s2,W,A,u,o5⟩|⟨H,W⟩
 ·refine .inl ⟨H,r.1,⟨A,by rw[W];exact h3 u,ZV,⟨E,D⟩,C,by rw[Y];exact zg⟩,?_⟩;rw[O];simp only[left,Y,U,W];simp only[zh,Ye];omega
 ·exact .inr (.inl H)
 ·omega
 ·refine .inl ⟨H,s2,⟨u,by rw[W];exact o5 h3,ZV,⟨E,D⟩,C,by rw[Y];exact zg⟩,?_⟩;rw[O];have g3:=mW A;have g4:=U6 F2.code F2.pos;simp only[left,Y,U,W];simp only[zh,Ye];omega
 ·omega
def U7(I:L Ty×Bool)(S:ct)(o:MR):Prop :=
 Ew S o.2/\(0<=o.2.used/\o.2.used<=o.2.cC)/\(0<=o.2.az/\o.2.az<=bN) /\
 ((o.1=0/\o.2.fr=[]/\ep I.1 o.2.st/\I.2=false)\/o.1=11\/o.1=13\/(o.1=12/\o.2.used=o.2.cC)\/(o.1=10/\vK o.2.said≠0/\aM o.2.said<=25000000))
def LG{S T U:ct}(h1:Ew S T)(h2:Ew T U):Ew S U:=by
 obtain⟨Y,a2,D,P,C⟩:=h1;obtain⟨B,q,V,N,A⟩:=h2;exact⟨by rw[B,Y],by rw[q,a2],by rw[V,D],by rw[N,P],by rw[A,C]⟩
def Jr{I:L Ty×Bool}{S T:ct}{o:MR}(h1:Ew S T)(h2:U7 I T o):U7 I S o:=⟨LG h1 h2.1,h2.2⟩
def HK{I:L Ty×Bool}{S:ct}{o:MR}(h:OV I S o)(Q:o.1≠0):U7 I S o:=by
 obtain⟨h1,h2,V,T⟩:=h;exact⟨h1,h2,V,T.elim (λh=>absurd h.1 Q) .inr⟩
def ux(I:L Ty×Bool):∀(k:Nat)(S:ct)(s:L Ty),MT I S s->left S<k->left S<=1000000000->nE k S (lG k S)/\U7 I S (lG k S)
 |0,S,s,_,h,_=>absurd h (Nat.not_lt_zero _)
 |k+1,S,s,V,hk,hW=>by
  have p:=Ex S.fr;have fj:=bP V.fit;have O:=V.used;have zg:=V.cC;have G:Rh S.cC:=⟨bn,bn⟩
  have OW:left S=(S.cC-S.used).toNat*900+zh S.fr:=rfl;cases Y:S.fr with
  |nil =>
   have e:lG (k+1) S=(0,S):=by simp only[lG,Y]
   rw[e];have Q:=V.ft;rw[Y]at Q;have BA:I=(s,false):=Q;subst BA;exact⟨nE.done Y,⟨Z,Z,Z,Z,Z⟩,O,V.Yf,.inl ⟨Z,Y,V.fit,Z⟩⟩
  |cons F t =>
   rw[Y]at p OW;simp only[aac]at p;have M:=V.ft;rw[Y]at M;obtain⟨f1,f2,f3,_⟩:=M;have g0:=mW f2;have g1:=zi f2;have H:F.code.length<=8589934593:=by
    have:∀l:L Nd,l.length<=cV l:=by
     intro l
     induction l with
     |nil=>exact aaj _
     |cons x l W=>cases x;simp only[aac,cV,many];omega
    have:=this F.code;omega
   by_cases Q:F.pos=F.code.length
   ·obtain⟨u,k2,K⟩:=As V Y Q;have k4:=Js S F t Y u bn k2 bn G O.1;have e:lG (k+1) S=if(mQ S F t).1=0 then lG k (mQ S F t).2 else mQ S F t:=by
     simp only[lG,Y];rw[if_pos Q]
    by_cases U:(mQ S F t).1=0
    ·rw[e,if_pos U];obtain⟨D,t2,t3,C⟩:=K;rcases C with ⟨_,A,E,m2⟩|h|h|h|h
     ·have W:=ux I k _ A E bn bn;exact⟨nE.fin Y Q bn k4 (λh=>absurd U h) (λ_=>W.1),Jr D W.2⟩
     ·rw[U]at h;cases h
     ·rw[U]at h;cases h
     ·omega
     ·omega
    ·rw[e,if_neg U];exact⟨nE.fin Y Q bn k4 (λ_=>rfl) (λh=>absurd h U),HK K U⟩
   ·have q:F.pos<F.code.length:=by omega
    have B:F.code[F.pos]?=some F.code[F.pos]:=aea q;generalize F.code[F.pos]=n at B;obtain⟨T,N,P,sg,J⟩:=n
    have e:lG (k+1) S=(if T=3 then lG k (dX (iQ S F t) J 0 [])
     else if T≠2 then(14,iQ S F t)
     else if S.cC<=S.used then(12,iQ S F t)
     else if(aJ P J {iQ S F t with used:=S.used+1}).1=0 then lG k (aJ P J {iQ S F t with used:=S.used+1}).2 else aJ P J {iQ S F t with used:=S.used+1}):=by
     simp only[lG,Y,B];rw[if_neg Q]
    rw[e];by_cases c3:T=3
    ·subst c3;rw[if_pos rfl];obtain⟨s1,E,m2⟩:=LD V Y B;have W:=ux I k _ s E bn bn;exact⟨nE.seq Y B bn H W.1,Jr s1 W.2⟩
    rw[if_neg c3];have c2:T=2:=by
     have M:=V.ft;rw[Y]at M;obtain⟨r,h1,_⟩:=Ar M B;simp only[fD]at h1;rw[if_neg c3]at h1;apply afe;intro c;rw[if_pos c]at h1;cases h1
    subst c2;rw[if_neg bT];by_cases hg:S.cC<=S.used
    ·rw[if_pos hg];exact⟨nE.acF Y B bn H hg,⟨Z,Z,Z,Z,Z⟩,O,V.Yf,.inr (.inr (.inr (.inl ⟨Z,by show S.used=S.cC;omega⟩)))⟩
    rw[if_neg hg];obtain⟨u,K,_⟩:=HJ V Y B bn hW;by_cases U:(aJ P J {iQ S F t with used:=S.used+1}).1=0
    ·rw[if_pos U];obtain⟨D,t2,t3,C⟩:=K;rcases C with ⟨_,A,E,m2⟩|h|h|h|h
     ·have W:=ux I k _ A E bn bn;exact⟨nE.step Y B bn H bn G O.1 u (λh=>absurd U h) (λ_=>W.1),Jr D W.2⟩
     ·rw[U]at h;cases h
     ·rw[U]at h;cases h
     ·omega
     ·omega
    ·rw[if_neg U];exact⟨nE.step Y B bn H bn G O.1 u (λ_=>rfl) (λh=>absurd h U),HK K U⟩
structure OY where
 code:Int
 st:List Vl
 said:Vl
 cC:Int
 az:Int
def U8(r:OY):CV:=mu r.code r.st r.said r.cC r.az
def yP(a b c d:Int)(code:L Nd)(l:L Vl)(g:Int):ct:=⟨a,b,c,d,l,[⟨code,0,0,[]⟩],g,0,0,ou⟩
def th(o:MR):OY:=⟨o.1,if o.1=0 then o.2.st else [],if o.1=10 then o.2.said else ou,o.2.used,if o.1=0 then o.2.az else 0⟩
def XT(a b c d:Int)(n:Nd)(s:L Ty)(l:L Vl):Bool:=decide ((jP n s).2=0)&&decide (s.length=l.length)&&qb a b c d&&yH s l
def aaJ:OY:=⟨14,[],ou,0,0⟩
def vt(a b c d:Int)(n:Nd)(l:L Vl)(g:Int):MR:=lG (left (yP a b c d (cI n) l g)+1) (yP a b c d (cI n) l g)
def GS(a b c d:Int)(n:Nd)(s:L Ty)(l:L Vl)(g:Int):OY:=if XT a b c d n s l=true then th (vt a b c d n l g)else aaJ
def uy{a b c d:Int}{n:Nd}{s:L Ty}{l:L Vl}:XT a b c d n s l=true↔(jP n s).2=0/\s.length=l.length/\qb a b c d=true/\yH s l=true:=by
 unfold XT;simp only[aai,aeH,and_assoc]
abbrev VlS(l:L Vl):Prop:=∀v∈l,aM v<=25000000
def LH:∀{l:L Vl},VlS l->aO l<=l.length*25000000
 |[],_=>aaj _
 |v::l,h=>by
  have h1:=h v cS;have h2:=LH (l:=l) λw N=>h w (by simp[N]);simp only[aO,aac];omega
def LI:∀{s:L Ty}{l:L Vl},s.length=l.length->yH s l=true->VlS l->ep s l
 |[],[],_,_,_=>trivial
 |t::s,v::l,h,h2,V=>by
  simp only[yH,aai]at h2;simp only[aac,ahw]at h;exact⟨⟨h2.1,V v cS⟩,LI h h2.2 λw N=>V w (by simp[N])⟩
 |[],_::_,h,_,_=>by simp at h
 |_::_,[],h,_,_=>by simp at h
def Ey{a b c d:Int}{n:Nd}{s:L Ty}{l:L Vl}{g:Int}(h:XT a b c d n s l=true)(M:VlS l)(G:0<=g/\g<=1000000):MT (jP n s).1 (yP a b c d (cI n) l g) s:=by
 obtain⟨h1,h2,V,S⟩:=uy.1 h;obtain⟨g1,H,U,B,W⟩:=uz h1;have Y:=LJ g1;have T:=mW Y;rw[W]at h1 ⊢;refine⟨LI h2 S M,⟨by show s.length+cV (cI n)<=340;omega,Y,aeE _,_,_,BB h1,λhf => .inl ⟨Z,?_⟩⟩,V,⟨aeX _,by show(0:Int)<=bN;decide⟩,⟨aeX _,G.1⟩,G.2⟩;show(cE (cI n) (s,false)).1=(_,false)
 rw[Prod.ext_iff];exact⟨Z,hf⟩
def HL{a b c d:Int}{n:Nd}{s:L Ty}{l:L Vl}{g:Int}(h:XT a b c d n s l=true)(G:0<=g/\g<=1000000):left (yP a b c d (cI n) l g)<=1000000000:=by
 obtain⟨h1,h2,V,S⟩:=uy.1 h;have Y:=mW (LJ (uz h1).1);simp only[left,yP,zh,Ye,agb];omega
def Ri{a b c d:Int}{n:Nd}{s:L Ty}{l:L Vl}{g:Int}(h:XT a b c d n s l=true)(M:VlS l)(G:0<=g/\g<=1000000):nE (left (yP a b c d (cI n) l g)+1) (yP a b c d (cI n) l g) (vt a b c d n l g)/\U7 (jP n s).1 (yP a b c d (cI n) l g) (vt a b c d n l g) :=
 ux _ _ _ s (Ey h M G) (aeJ _) (HL h G)
def GU(a b c d g:Int)(code:L Nd)(l:L Vl)(o:MR)(hq:l.length<=1000000000)(T:o.2.st.length<=1000000000\/o.1≠0)(N:cJ 42 (yP a b c d code l g) [] (ag o.1) o.2) :
  ah 27 [.agg [ag a,ag b,ag c,ag d],.sl 5 (aH code),.sl 7 (aa l),ag g] (U8 (th o)):=by
 obtain⟨e,u⟩:=o;simp only at T N;unfold th U8;simp only;by_cases U:e=0
 ·subst U;rw[if_pos Z,if_neg bT,if_pos rfl];cases l with
  |nil=>exact LK a b c d g code u (T.resolve_right λh=>h Z) N
  |cons x q=>exact LL a b c d g code x q u acy (T.resolve_right λh=>h Z) N
 rw[if_neg U,if_neg U];by_cases I:e=10
 ·subst I;rw[if_pos rfl];cases l with
  |nil=>exact GV a b c d g code u N
  |cons x q=>exact GW a b c d g code x q u acy N
 rw[if_neg I];cases l with
 |nil=>exact Jt a b c d g e code u U I N
 |cons x q=>exact Ju a b c d g e code x q u acy U I N
def SX(a b c d g:Int)(n:Nd)(B:bM n<=8589934593)(s:L Ty)(Y:bz s<=8589934593)(l:L Vl)(M:VlS l)(G:0<=g/\g<=1000000) :
  ah 11 [.agg [ag a,ag b,ag c,ag d],aW n,.sl 2 (aA s),.sl 7 (aa l),ag g] (U8 (GS a b c d n s l g)):=by
 by_cases V:(jP n s).2=0/\s.length=l.length/\qb a b c d=true;rotate_left
 ·have e:XT a b c d n s l=false:=by
   cases O:XT a b c d n s l with
   |false=>rfl
   |true =>
    obtain⟨h1,h2,S,_⟩:=uy.1 O;exact absurd ⟨h1,h2,S⟩ V
  unfold GS;rw[if_neg (by rw[e];decide)];exact Yg a b c d g n B s Y l V
 obtain⟨h1,h2,S⟩:=V;have P:l.length<=40:=by have:=(uz h1).2.2.1;omega
 have N:=LH M;have K:yH s l=true->ah 27 [.agg [ag a,ag b,ag c,ag d],.sl 5 (aH (cI n)),.sl 7 (aa l),ag g] (U8 (th (vt a b c d n l g))):=by
  intro O;have ok:XT a b c d n s l=true:=uy.2 ⟨h1,h2,S,O⟩;obtain⟨T,U⟩:=Ri ok M G;refine GU a b c d g (cI n) l _ bn ?_ (OZ _ _ _ T);obtain⟨_,_,_,W⟩:=U;rcases W with ⟨_,_,Q,_⟩|w|w|w|w
  ·left;have:=bP Q;have:=(BC h1).2.1;omega
  all_goals right
  ·rw[w];decide
  ·rw[w];decide
  ·rw[w.1];decide
  ·rw[w.1];decide
 have q:=Yh a b c d g n B s Y l bn h1 h2 S _ _ _ _ _ K;have e:(bif yH s l then mu (th (vt a b c d n l g)).code (th (vt a b c d n l g)).st (th (vt a b c d n l g)).said (th (vt a b c d n l g)).cC (th (vt a b c d n l g)).az else mu 14 [] ou 0 0)=U8 (GS a b c d n s l g):=by
  unfold GS;cases O:yH s l with
  |true =>
   rw[if_pos (uy.2 ⟨h1,h2,S,O⟩)];rfl
  |false =>
   rw[if_neg (λh=>by have:=(uy.1 h).2.2.2;rw[O]at this;cases this)];rfl
 rw[<- e];exact q
end Go.Proofs
namespace Go.cK
structure MB(c:Nat->List AV)(o:Option (List CV)):Prop where
 conv:∀(ρ:Ren)(ts:List (Nat×Nat))(b b':Nat),(o≠none->ρ.bx b=some b')->eF ρ ts (c b) (c b')
 rn:∀(ψ:Nat->Nat)(b b':Nat),(o≠none->ψ b=b')->LM ψ (c b)=c b'
 ok:∀(us:List Nat)(b:Nat),(o≠none->mem b us=true)->sJ us (c b)=true
def bI(c:Nat->L AV):Option (L CV)->L (Nat×L AV)
 |none=>[(1000000,c 0)]
 |some f=>[(1000000,c 1000002),(1000002,f.map AV.c)]
def bO(c:Nat->L AV):Option (L CV)->L (Nat×L AV)
 |none=>[(1000000,c 0)]
 |some f=>[(1000000,c 999992),(999992,f.map AV.c)]
section
variable {bs : L (Nat × L AV)}{us : L Nat}{c c' : Nat -> L AV}{f f' : L CV}{km fk a2 : Nat}
def acG(A:MB c none)(N:MB c' none)(h1:an km bs=some (c 0)):ZW bs us (bI c none) (bO c' none) [(1000000,km)] [(km,1000000)] (λ_=>km) [(km,c' 0)]:=by
 refine⟨Z,?_,?_,?_,?_,?_,?_,?_⟩
 ·intro k u e;simp only[ai]at e;split at e
  ·simp_all [bI]
  ·simp[an]at e
 ·intro ts k cs e;simp only[bI,ai]at e;split at e
  ·simp at e;subst_vars;exact⟨km,_,fe,h1,A.conv _ _ _ _ (λh=>absurd Z h)⟩
  ·simp[an]at e
 ·intro K H e;simp only[ai]at e;split at e
  ·simp at e;subst_vars;exact⟨1000000,c' 0,fe,aa9,(N.rn _ _ _ (λh=>absurd Z h)).symm⟩
  ·simp[an]at e
 ·intro K ok e;simp only[ai]at e;split at e
  ·simp at e;subst_vars;rfl
  ·simp[an]at e
 ·intro k D;have Y:=mem_iff.1 D;simp[bO]at Y;subst Y;exact⟨km,fe⟩
 ·intro K ok e;simp only[ai]at e;split at e
  ·simp at e;subst_vars;exact .inl ⟨aaj _,fe,aa9⟩
  ·simp[an]at e
 ·intro ok cs e;simp only[bO,ai]at e;split at e
  ·simp at e;subst_vars;exact N.ok _ _ (λh=>absurd Z h)
  ·simp[an]at e
def acH(A:MB c none)(N:MB c' (some f'))(q:km≠a2)(p:mem a2 us=false)(D:a2<1000000)(h1:an km bs=some (c 0)):ZW bs us (bI c none) (bO c' (some f')) [(1000000,km)] [(km,1000000),(a2,999992)] (Du km (a2+1) a2) [(km,c' a2),(a2,f'.map AV.c)]:=by
 refine⟨Z,?_,?_,?_,?_,?_,?_,?_⟩
 ·intro k u e;simp only[ai]at e;split at e
  ·simp_all [bI]
  ·simp[an]at e
 ·intro ts k cs e;simp only[bI,ai]at e;split at e
  ·simp at e;subst_vars;exact⟨km,_,fe,h1,A.conv _ _ _ _ (λh=>absurd Z h)⟩
  ·simp[an]at e
 ·intro K H e;simp only[ai]at e;split at e
  ·simp at e;subst_vars;exact⟨1000000,c' 999992,fe,aa9,(N.rn (Du _ _ _) 999992 a2 (λ_=>rfl)).symm⟩
  ·split at e
   ·simp at e;subst_vars;exact⟨999992,f'.map AV.c,Wh,aa9,acT⟩
   ·simp[an]at e
 ·intro K ok e;simp only[ai]at e;split at e
  ·simp at e;subst_vars;rfl
  ·split at e
   ·simp at e;subst_vars;rfl
   ·simp[an]at e
 ·intro k W;have Y:=mem_iff.1 W;simp[bO]at Y;rcases Y with rfl|rfl
  ·exact⟨km,fe⟩
  ·exact⟨a2,Wh⟩
 ·intro K ok e;simp only[ai]at e;split at e
  ·simp at e;subst_vars;exact .inl ⟨aaj _,fe,aa9⟩
  ·split at e
   ·simp at e;subst_vars;exact .inr ⟨cY p,D⟩
   ·simp[an]at e
 ·intro ok cs e;simp only[bO,ai]at e;split at e
  ·simp at e;subst_vars;exact N.ok _ _ (λ_=>rfl)
  ·split at e
   ·simp at e;subst_vars;exact sK _ _
   ·simp[an]at e
def acI(A:MB c (some f))(N:MB c' (some f'))(W:km≠fk)(q:km≠a2)(p:mem a2 us=false)(D:a2<1000000)(h1:an km bs=some (c fk))(V:an fk bs=some (f.map AV.c)) :
  ZW bs us (bI c (some f)) (bO c' (some f')) [(1000000,km),(1000002,fk)] [(km,1000000),(a2,999992)] (Du km (a2+1) a2) [(km,c' a2),(a2,f'.map AV.c)]:=by
 refine⟨by
  have Q:Nat.beq fk km=false:=by
   cases h:Nat.beq fk km with
   |false=>rfl
   |true=>exact absurd (aha h).symm W
  simp[distinct,mem,Q],?_,?_,?_,?_,?_,?_,?_⟩
 ·intro k u e;simp only[ai]at e;split at e
  ·simp_all [bI]
  ·split at e
   ·simp_all [bI]
   ·simp[an]at e
 ·intro ts k cs e;simp only[bI,ai]at e;split at e
  ·simp at e;subst_vars;exact⟨km,_,fe,h1,A.conv _ _ _ _ (λ_=>by simp[ai])⟩
  ·split at e
   ·simp at e;subst_vars;exact⟨fk,_,fe,V,cN _⟩
   ·simp[an]at e
 ·intro K H e;simp only[ai]at e;split at e
  ·simp at e;subst_vars;exact⟨1000000,c' 999992,fe,aa9,(N.rn (Du _ _ _) 999992 a2 (λ_=>rfl)).symm⟩
  ·split at e
   ·simp at e;subst_vars;exact⟨999992,f'.map AV.c,Wh,aa9,acT⟩
   ·simp[an]at e
 ·intro K ok e;simp only[ai]at e;split at e
  ·simp at e;subst_vars;rfl
  ·split at e
   ·simp at e;subst_vars;rfl
   ·simp[an]at e
 ·intro k U;have Y:=mem_iff.1 U;simp[bO]at Y;rcases Y with rfl|rfl
  ·exact⟨km,fe⟩
  ·exact⟨a2,Wh⟩
 ·intro K ok e;simp only[ai]at e;split at e
  ·simp at e;subst_vars;exact .inl ⟨aaj _,fe,aa9⟩
  ·split at e
   ·simp at e;subst_vars;exact .inr ⟨cY p,D⟩
   ·simp[an]at e
 ·intro ok cs e;simp only[bO,ai]at e;split at e
  ·simp at e;subst_vars;exact N.ok _ _ (λ_=>rfl)
  ·split at e
   ·simp at e;subst_vars;exact sK _ _
   ·simp[an]at e
end
section
variable {P : Program}{X : Ctx}{ops : Array Oper}{o : Oper}{rest : L Oper}{env : Env}{acc : L Fp}{Q : Env -> St -> L Fp -> Prop}{bs : L (Nat × L AV)}{ts : L (Nat × Nat)}{us : L Nat}
def SY(us:L Nat)(km a2:Nat):Bool:=both (match mem a2 us with|true=>false|false=>true) (both (Nat.blt a2 1000000) (match Nat.beq km a2 with|true=>false|false=>true))
def Rj{km a2:Nat}(h:SY us km a2=true):mem a2 us=false/\a2<1000000/\km≠a2:=by
 unfold SY at h;obtain⟨h1,h⟩:=ej h;obtain⟨h2,V⟩:=ej h;refine⟨by split at h1<;>simp_all,Nat.blt_eq.mp h2,?_⟩;intro e;subst e;rw[Nat.beq_refl]at V;cases V
def U9{us Jv:L Nat}{k:Nat}(h:k∈Jv↔k∈us):mem k Jv=mem k us:=by rw[aeV,mem_iff,mem_iff];exact h
def af.aaK(kn:L Nat)(p:dj ops.toList kn env o=some true){f:FuncId}{args:Array Operand}{K:Array TypeId}(C:o.op = .call {callee := .value (.func f),args:=args,argTypes:=K})
  {c c':Nat->L AV}{Y:Option (L CV)}{V:L AV}{r:CV}(hq:cP P X f (bI c none) V (.c r) (bO c' Y))(A:MB c none)(N:MB c' Y){d:Nat}(O:o.dst=some d)
  {l:L AV}(E:gE (aK X env) args.toList=some l){km:Nat}{U:L AV}(h1:an km bs=some U)(I:U=c 0)
  (T:∀ts,eF ⟨λk=>an k [(1000000,km)],λ_=>none⟩ ts V l)(M:SY us km (200000+d)=true)
  {bs':L (Nat×L AV)}(J:kD [km] bs=bs')
  (D:Y=none->af P X ops rest ((d,.c r)::env) ⟨(km,c' 0)::bs',ts,km::us⟩ (⟨[],[km,km,km]⟩::acc) Q)
  (u:∀f',Y=some f'->af P X ops rest ((d,.c r)::env) ⟨(km,c' (200000+d))::(200000+d,f'.map AV.c)::bs',ts,km::(200000+d)::us⟩ (⟨[],[km,km,200000+d,km,200000+d]⟩::acc) Q) :
  af P X ops (o::rest) env ⟨bs,ts,us⟩ acc Q:=by
 subst J I;obtain⟨q1,H,B⟩:=Rj M;cases Y with
 |none =>
  have G:=bU.At (env:=env) (σ:=⟨bs,ts,us⟩) C E hq (bx:=[(1000000,km)]) (po:=[(km,1000000)]) (ψ:=λ_=>km) T
   (λLN Jv W S=>acG A N (iX W cS h1)) Z
  exact af.step (dB p) G (qc _ _ _) (by rw[O];exact D Z)
 |some f' =>
  have G:=bU.At (env:=env) (σ:=⟨bs,ts,us⟩) C E hq (bx:=[(1000000,km)]) (po:=[(km,1000000),(200000+d,999992)]) (ψ:=Du km (200000+d+1) (200000+d)) T
   (λLN Jv W S=>acH A N B (by rw[U9 (S _ cS)];exact q1) H (iX W cS h1)) Z
  exact af.step (dB p) G (qc _ _ _) (by rw[O];exact u f' Z)
def af.aaL(kn:L Nat)(S:dj ops.toList kn env o=some true){f:FuncId}{args:Array Operand}{K:Array TypeId}(C:o.op = .call {callee := .value (.func f),args:=args,argTypes:=K})
  {c c':Nat->L AV}{W V:L CV}{U:L AV}{r:CV}(hq:cP P X f (bI c (some W)) U (.c r) (bO c' (some V)))(A:MB c (some W))(N:MB c' (some V)){d:Nat}(O:o.dst=some d)
  {l:L AV}(E:gE (aK X env) args.toList=some l){km fk:Nat}{p T:L AV}(h1:an km bs=some p)(I:p=c fk)(M:an fk bs=some T)(J:T=W.map AV.c)
  (H:∀ts,eF ⟨λk=>an k [(1000000,km),(1000002,fk)],λ_=>none⟩ ts U l)(D:SY us km (200000+d)=true)(Y:Nat.beq km fk=false)
  {bs':L (Nat×L AV)}(B:kD [km,fk] bs=bs')
  (u:af P X ops rest ((d,.c r)::env) ⟨(km,c' (200000+d))::(200000+d,V.map AV.c)::bs',ts,km::(200000+d)::us⟩ (⟨[],[km,fk,km,200000+d,km,200000+d]⟩::acc) Q) :
  af P X ops (o::rest) env ⟨bs,ts,us⟩ acc Q:=by
 subst B I J;obtain⟨q1,q,q3⟩:=Rj D;have n1:km≠fk:=by
  rintro rfl;rw[Nat.beq_refl]at Y;cases Y
 have hs:=bU.At (env:=env) (σ:=⟨bs,ts,us⟩) C E hq (bx:=[(1000000,km),(1000002,fk)]) (po:=[(km,1000000),(200000+d,999992)]) (ψ:=Du km (200000+d+1) (200000+d)) H
  (λLN Jv G hu=>acI A N n1 q3 (by rw[U9 (hu _ cS)];exact q1) q (iX G cS h1) (iX G cS M)) Z
 exact af.step (dB S) hs (qc _ _ _) (by rw[O];exact u)
def bU.DO(hX:cF P X){o:Oper}{env:Env}{σ:St}{t:TypeId}{x W:Operand}(p:o.op = .indexAddr t x W){i j:TI}{n e:Nat}(I:X.ti t=some i)(D:i.kind = .arr n e)(Q:X.ti e=some j)
  {cs:L CV}(ha:aK X env x=some (.c (.ip cs))){k:IntKind}{z:Int}(N:aK X env W=some (.c (.int k z))){m:Nat}(C:z=m)(K:m<n){r:L CV}(H:cs.drop (m*j.size)=r):bU P X o env σ (.c (.ip r)) (λσ=>σ) ⟨[],[]⟩:=by
 refine bU.val λU w g J A iW M q=>?_;have G:aK X U x=some (.c (.ip cs)):=by rw[A x acP];exact ha
 have E:aK X U W=some (.c (.int k z)):=by rw[A W acP];exact N
 have T:=cy (a:=J) q M G;simp only[aL,Rel]at T;obtain⟨b,B,u,Y⟩:=T;have e4:=we (cy (a:=J) q M E);obtain⟨d,jQ,O,_⟩:=hX.run_underlying (w:=w) I;rw[D]at O;simp only[ff]at O;subst O;refine⟨.pointer (some ⟨b,B+m*j.size,none⟩),?_,?_⟩
 ·obtain⟨dst,op,S,pos,V,guard⟩:=o;simp only at p;subst p;simp[execOp,u,e4,C,Instr.indexAt,asIntOf,jQ,Instr.sureAddr,K,hX.run_sizeOf Q,Addr.add_lit]
 ·simp only[aL,Rel];exact⟨b,_,Z,by rw[<- H];exact dy.drop Y⟩
def af.DO(hX:cF P X)(kn:L Nat){σ:St}(G:dj ops.toList kn env o=some true){t:TypeId}{x W:Operand}(K:o.op = .indexAddr t x W){d:Nat}(O:o.dst=some d){i j:TI}{n e:Nat}(I:X.ti t=some i)(D:i.kind = .arr n e)(Y:X.ti e=some j)
  {cs:L CV}(ha:aK X env x=some (.c (.ip cs))){k:IntKind}{z:Int}(V:aK X env W=some (.c (.int k z))){m:Nat}(C:z=m)(p:m<n){r:L CV}(U:cs.drop (m*j.size)=r)
  (k:af P X ops rest ((d,.c (.ip r))::env) σ (⟨[],[]⟩::acc) Q):af P X ops (o::rest) env σ acc Q :=
 af.step (dB G) (bU.DO (σ:=σ) hX K I D Y ha V C p U) (iA.id []) ri
def cP.imp{P:Program}{X:Ctx}{f:FuncId}{Y M:L (Nat×L AV)}{J:L AV}{r C:AV}(I:∀g u,aL g r u->aL g C u)(q:cP P X f Y J r M):cP P X f Y J C M:=by
 unfold cP at q ⊢;exact⟨q.1,λg w vs h1 h2 V=>Calls.mono (q.2 g w vs h1 h2 V) λe w' ⟨u,g',W,U,G⟩=>⟨u,g',W,I g' u U,G⟩⟩
end
end Go.cK
namespace Go.cK
def gm.lB(l:gm)(i:Nat)(a:Acc):gm:=⟨l.br.set i a,l.ez⟩
end Go.cK
namespace Go.Proofs
open Go.cK
structure BD where
 kind:Int
 to:Int
 vu:Int
 arg:Nd
 t0:Nd
 t1:Nd
 code:Nd
structure Au where
 fT:Int
 op:Option BD
 val:Vl
structure yJ where
 src:Int
 cnt:Int
 rO:Int
 cC:Int
 ops:List BD
structure Rcp where
 code:Int
 done:Int
 cC:Int
 az:Int
 made:List Int
structure Wk where
 l:gm
 cC:Int
 done:Int
 used:Int
 az:Int
 made:List Int
def ov(x:Au)(t:Ty):Vl×Int:=match x.op with
 |none=>if dh ((GX x.val).getD 0 kX) t=true then((eC x.val).getD 0 ou,0)else(ou,5)
 |some o=>if(gD t o.arg).2=0 then((gD t o.arg).1,0)else(ou,5)
def tj(to:Int)(o:Vl):Au:=⟨to,none,o⟩
def Rk(w:Wk)(x:Au)(to n:Int)(a:Acc)(v:Vl):OY :=
 GS to x.fT n a.dr (.mk 3 0 0 [] a.code) [.mk 11 [a.param,a.store]] [.mk 11 0 0 [] [v,a.keep] [] []] w.cC
def Rm(w:Wk)(l:gm)(to:Int)(a:Acc)(r:OY):(L Au×Int)×Wk :=
 let S:={w with cC:=w.cC-r.cC,used:=w.used+r.cC}
 if r.code≠0 then(([],r.code),S)
 else if S.az>bN-r.az then(([],11),S)
 else(((eC ((eC (r.st.getD 0 ou)).getD 0 ou)).map (tj to),0),{S with az:=S.az+r.az,l:=l.lB to.toNat {a with keep:=(eC (r.st.getD 0 ou)).getD 1 ou}})
def LO(w:Wk)(x:Au)(to n:Int):(L Au×Int)×Wk :=
 if jH w.l x.fT to n≠0 then(([],jH w.l x.fT to n),w)
 else if(iG (GY w.l x.fT to n) to).is=1 then
  if(ov x (.mk 1 [])).2≠0 then(([],(ov x (.mk 1 [])).2),w)else(([],0),{w with l:=GY w.l x.fT to n})
 else if(ov x (iG (GY w.l x.fT to n) to).param).2≠0 then(([],(ov x (iG (GY w.l x.fT to n) to).param).2),w)
 else Rm w (GY w.l x.fT to n) to (iG (GY w.l x.fT to n) to) (Rk w x to n (iG (GY w.l x.fT to n) to) (ov x (iG (GY w.l x.fT to n) to).param).1)
def gf:L Acc->Nat->Nat
 |[],k=>k
 |a::l,k=>if a.is=0 then k else gf l (k+1)
def newAcc(o:BD):Acc:=⟨2,0,0,(aP o.t0).1,(aP o.t1).1,cI o.code,(gD (aP o.t1).1 o.arg).1⟩
def orM(w:Wk)(fT:Int)(o:BD):Int×Wk :=
 if(aP o.t0).2≠0\/(aP o.t1).2≠0 then(5,w)
 else if jb (aP o.t0).1 (aP o.t1).1 o.code≠0 then(jb (aP o.t0).1 (aP o.t1).1 o.code,w)
 else if(gD (aP o.t1).1 o.arg).2≠0\/200<gQ (gD (aP o.t1).1 o.arg).1 then(5,w)
 else if gf (w.l.br.drop 4) 4=12 then(7,w)
 else if jH (w.l.lB (gf (w.l.br.drop 4) 4) (newAcc o)) fT (gf (w.l.br.drop 4) 4) o.vu≠0 then(jH (w.l.lB (gf (w.l.br.drop 4) 4) (newAcc o)) fT (gf (w.l.br.drop 4) 4) o.vu,w)
 else(0,{w with l:=GY (w.l.lB (gf (w.l.br.drop 4) 4) (newAcc o)) fT (gf (w.l.br.drop 4) 4) o.vu,made:=w.made++[((gf (w.l.br.drop 4) 4:Nat):Int)]})
def nB(w:Wk)(x:Au):(L Au×Int)×Wk:=match x.op with
 |none=>LO w x (xA x.val) (vN x.val)
 |some o=>if o.kind=1 then LO w x o.to o.vu else if o.kind=2 then(([],(orM w x.fT o).1),(orM w x.fT o).2)else(([],3),w)
def allM:Nat->Wk->L Au->Int×Wk
 |_,w,[]=>(0,w)
 |0,w,_::_=>(7,w)
 |k+1,w,x::q=>if 24<=w.done then(7,w)else if(nB w x).1.2≠0 then((nB w x).1.2,(nB w x).2)
  else allM k {(nB w x).2 with done:=(nB w x).2.done+1} (q++(nB w x).1.1)
def qB(S:Int):Wk->L BD->Int×Wk
 |w,[]=>(0,w)
 |w,o::r=>if(allM 25 w [⟨S,some o,ou⟩]).1≠0 then allM 25 w [⟨S,some o,ou⟩]else qB S (allM 25 w [⟨S,some o,ou⟩]).2 r
def Dv(l:gm)(b:yJ):Int :=
 if qC l=false then 2 else if b.src<0\/4<=b.src then 6
 else if bN<=(iG l b.src).cnt\/b.cnt≠(iG l b.src).cnt+1 then 9
 else if b.rO<0\/b.cC<0\/1048576<b.cC then 2
 else if b.ops.length=0\/8<b.ops.length then 7
 else if(iG l b.src).dr<b.rO then 8 else 0
def SZ(l:gm)(b:yJ):gm:=⟨l.br.set b.src.toNat {iG l b.src with cnt:=(iG l b.src).cnt+1,dr:=(iG l b.src).dr-b.rO},l.ez+b.rO⟩
def vJ(l:gm)(b:yJ):Wk:=⟨SZ l b,b.cC,0,0,0,[]⟩
def qD(l:gm)(b:yJ):gm×Rcp :=
 if Dv l b≠0 then(l,⟨Dv l b,0,0,0,[]⟩)
 else if(qB b.src (vJ l b) b.ops).1≠0 then(SZ l b,⟨(qB b.src (vJ l b) b.ops).1,0,(qB b.src (vJ l b) b.ops).2.used,0,[]⟩)
 else((qB b.src (vJ l b) b.ops).2.l,⟨0,(qB b.src (vJ l b) b.ops).2.done,(qB b.src (vJ l b) b.ops).2.used,(qB b.src (vJ l b) b.ops).2.az,(qB b.src (vJ l b) b.ops).2.made⟩)
def Uz:BD->L CV
 |⟨T,to,Y,.mk U a2 D P C,.mk S q B N A,.mk u H p c4 W,.mk V Q J K O⟩ =>
  [ag T,ag to,ag Y,ag U,ag a2,ag D,.str P,.sl 5 (aH C),ag S,ag q,ag B,.str N,.sl 5 (aH A),ag u,ag H,ag p,.str c4,.sl 5 (aH W),ag V,ag Q,ag J,.str K,.sl 5 (aH O)]
def ir:L BD->L CV
 |[]=>[]
 |o::l => .agg (Uz o)::ir l
def opP:Option BD->CV
 |none => .mw
 |some o => .ip (Uz o)
def kE:Au->CV
 |⟨fT,K,.mk k n a s J B code⟩ => .agg [ag fT,opP K,ag k,ag n,ag a,.str s,.sl 7 (aa J),.sl 2 (aA B),.sl 5 (aH code)]
def dU:L Au->L CV
 |[]=>[]
 |x::l=>kE x::dU l
def zj(b:yJ):CV := .agg [ag b.src,ag b.cnt,ag b.rO,ag b.cC,.sl 23 (ir b.ops)]
def Jw(r:Rcp):CV := .agg [ag r.code,ag r.done,ag r.cC,ag r.az,.sl 1 (eJ r.made)]
def rS(w:Wk)(b:Nat):AV:=match w.made with
 |[] => .own .exact 1 []
 |_::_ => .gS b 0 1 w.made.length
def wB(w:Wk)(b:Nat):L AV:=cU w.l++[.c (ag w.cC),.c (ag 0),.c (ag w.done),.c (ag w.used),.c (ag w.az),rS w b]
def wO(w:Wk):Option (L CV):=match w.made with
 |[]=>none
 |_::_=>some (bC (eJ w.made))
def mo(w:Wk):MB (wB w) (wO w):=by
 obtain⟨l,E,done,K,V,I⟩:=w;have P:∀(ρ:Ren)(ts:L (Nat×Nat))(cs:L CV){p q:L AV},eF ρ ts p q->eF ρ ts (cs.map AV.c++p) (cs.map AV.c++q):=by
  intro ρ ts cs p q h
  induction cs with
  |nil=>exact h
  |cons c cs Y=>exact⟨_,_,Z,.inl Z,Y⟩
 have W:∀(ψ:Nat->Nat)(cs:L CV)(p:L AV),LM ψ (cs.map AV.c++p)=cs.map AV.c++LM ψ p:=by
  intro ψ cs p
  induction cs with
  |nil=>rfl
  |cons c cs Y=>simp only[aed,adU,LM,AV.rn,Y]
 have G:∀(us:L Nat)(cs:L CV)(p:L AV),sJ us p=true->sJ us (cs.map AV.c++p)=true:=by
  intro us cs p h
  induction cs with
  |nil=>exact h
  |cons c cs Y=>simp only[aed,adU,sJ,LP,both,Y]
 cases I with
 |nil =>
  exact⟨λρ ts b O _=>P ρ ts _ ce,
   λψ b O _=>W ψ _ _,λus b _=>G us _ _ Z⟩
 |cons x r =>
  refine⟨λρ ts b O h=>P ρ ts _ ⟨_,_,Z,.inl Z,_,_,Z,.inl Z,_,_,Z,.inl Z,_,_,Z,.inl Z,_,_,Z,.inl Z,_,_,Z,⟨_,h (by simp[wO]),Z⟩,Z⟩,λψ b O h=>?_,λus b h=>G us _ _ ?_⟩
  ·rw[<- h (by simp[wO])];exact W ψ _ _
  ·have:=h (by simp[wO]);simp only[rS,sJ,LP,both,this]
def gh(f:FuncId)(w:Wk)(J:L AV)(r:CV)(w':Wk):Prop :=
 qE f (bI (wB w) (wO w)) (.ptr 1000000 0::J) (.c r) (bO (wB w') (wO w'))
def zm{α:Type}:∀(k:Nat)(a r b:List α),takeN k a=some r->takeN k (a++b)=some r
 |0,a,r,b,h=>by simp only[takeN]at h ⊢;exact h
 |k+1,[],r,b,h=>by simp only[takeN]at h;cases h
 |k+1,x::a,r,b,h=>by
  simp only[adU,takeN]at h ⊢;cases I:takeN k a with
  |none=>rw[I]at h;cases h
  |some q=>rw[I]at h;rw[zm k a q b I];exact h
def wg(k:Nat)(l:L AV):bV k [] l=some l:=by cases k<;>cases l<;>rfl
def qd:∀(k:Nat)(cs a r b:L AV),bV k cs a=some r->bV k cs (a++b)=some (r++b)
 |k,[],a,r,b,h=>by rw[wg]at h ⊢;cases h;rfl
 |0,v::vs,[],r,b,h=>by simp only[bV]at h;cases h
 |0,v::vs,x::a,r,b,h=>by
  simp only[adU,bV]at h ⊢;cases I:bV 0 vs a with
  |none=>rw[I]at h;cases h
  |some q=>rw[I]at h;rw[qd 0 vs a q b I];cases h;rfl
 |k+1,v::vs,[],r,b,h=>by simp only[bV]at h;cases h
 |k+1,v::vs,x::a,r,b,h=>by
  simp only[adU,bV]at h ⊢;cases I:bV k (v::vs) a with
  |none=>rw[I]at h;cases h
  |some q=>rw[I]at h;rw[qd k (v::vs) a q b I];cases h;rfl
def nF:∀(p:L AV)(k:Nat)(cs a r:L AV),bV k cs a=some r->bV (p.length+k) cs (p++a)=some (p++r)
 |[],k,cs,a,r,h=>by simpa using h
 |x::p,k,[],a,r,h=>by rw[wg]at h ⊢;cases h;rfl
 |x::p,k,v::vs,a,r,h=>by
  rw[show(x::p).length+k=(p.length+k)+1 by simp only[aac];omega];simp only[adU,bV,nF p k (v::vs) a r h]
def HM:∀(l:L Acc)(i:Nat)(a b:Acc),l[i]?=some a->jf (l.set i b)=jf (l.take i)++(BE b++jf (l.drop (i+1)))
 |[],i,a,b,h=>by simp at h
 |x::l,0,a,b,h=>by simp[jf]
 |x::l,i+1,a,b,h=>by
  simp only[aeF]at h;simp only[agI,jf,afi,afB,aeG,HM l i a b h]
section
variable {l : gm}{i : Nat}{a : Acc}
def Jx(ha:l.br[i]?=some a):∃p q:L AV,p.length=i*15/\cU l=p++(wh a++q)/\∀b,cU (l.lB i b)=p++(wh b++q):=by
 have K:i<l.br.length:=(List.getElem?_eq_some_iff.1 ha).1;refine⟨(jf (l.br.take i)).map AV.c,(jf (l.br.drop (i+1))++[CV.int .i64 l.ez]).map AV.c,?_,?_,λb=>?_⟩
 ·rw[aeA,xQ,aeD];omega
 ·show(jf l.br++[CV.int .i64 l.ez]).map AV.c=_;rw[rT _ _ _ ha];simp only[aeC,aeG,wh]
 ·show(jf (l.br.set i b)++[CV.int .i64 l.ez]).map AV.c=_;rw[HM _ _ _ _ ha];simp only[aeC,aeG,wh]
def sL(ha:l.br[i]?=some a):∃q,∀k r,eu k (wh a++q)=some r->eu (0+i*15+k) (cU l)=some r:=by
 obtain⟨p,q,h1,h2,_⟩:=Jx ha;refine⟨q,λk r h=>?_⟩;rw[h2,aeq,<- h1];exact lY _ _ _ _ _ (jj p _) h
def Ez(ha:l.br[i]?=some a){b:Acc}{k:Nat}{cs:L AV}(h:bV k cs (wh a)=some (wh b)):bV (0+i*15+k) cs (cU l)=some (cU (l.lB i b)):=by
 obtain⟨p,q,h1,h2,V⟩:=Jx ha;rw[h2,V,aeq,<- h1];exact nF p k cs _ _ (qd _ _ _ _ _ h)
end
section
variable (w : Wk)(b : Nat)
def afo(h12:w.l.br.length=12){i:TI}(h1:i.isAgg=true)(h2:i.size=181):lH i (wB w b)=some (.agg (cU w.l)):=by
 unfold lH wB;rw[h1,h2];simp only[zm _ _ _ _ (EA h12)]
def HN(h12:w.l.br.length=12)(k:Nat){r:L AV}(h:eu k [AV.c (ag w.cC),.c (ag 0),.c (ag w.done),.c (ag w.used),.c (ag w.az),rS w b]=some r):eu (181+k) (wB w b)=some r:=by
 have h1:=jj (cU w.l) [AV.c (ag w.cC),.c (ag 0),.c (ag w.done),.c (ag w.used),.c (ag w.az),rS w b];rw[jR h12]at h1;exact lY _ _ _ _ _ h1 h
def BF(h12:w.l.br.length=12)(k:Nat)(cs:L AV){w':Wk}{O:Nat}(E:w'.l=w.l){r:L AV}(h:bV k cs [AV.c (ag w.cC),.c (ag 0),.c (ag w.done),.c (ag w.used),.c (ag w.az),rS w b]=some r)
  (C:r=[AV.c (ag w'.cC),.c (ag 0),.c (ag w'.done),.c (ag w'.used),.c (ag w'.az),rS w' O]):bV (181+k) cs (wB w b)=some (wB w' O):=by
 have h1:=nF (cU w.l) k cs _ _ h;rw[jR h12]at h1;unfold wB;rw[h1,C,E]
def acJ(h12:w.l.br.length=12){O:gm}(C:O.br.length=12):bV 0 (cU O) (wB w b)=some (wB {w with l:=O} b) :=
 qd 0 _ _ _ _ (hD C (jR h12))
def aaM(h12:w.l.br.length=12):eu 181 (wB w b)=some [AV.c (ag w.cC),.c (ag 0),.c (ag w.done),.c (ag w.used),.c (ag w.az),rS w b]:=HN w b h12 0 rfl
def acK(h12:w.l.br.length=12):eu 182 (wB w b)=some [.c (ag 0),.c (ag w.done),.c (ag w.used),.c (ag w.az),rS w b]:=HN w b h12 1 rfl
def Yi(h12:w.l.br.length=12):eu 183 (wB w b)=some [.c (ag w.done),.c (ag w.used),.c (ag w.az),rS w b]:=HN w b h12 2 rfl
def Yj(h12:w.l.br.length=12):eu 184 (wB w b)=some [.c (ag w.used),.c (ag w.az),rS w b]:=HN w b h12 3 rfl
def S0(h12:w.l.br.length=12):eu 185 (wB w b)=some [.c (ag w.az),rS w b]:=HN w b h12 4 rfl
def Yk(h12:w.l.br.length=12):eu 186 (wB w b)=some [rS w b]:=HN w b h12 5 rfl
def Yl(h12:w.l.br.length=12)(z:Int):bV 181 [.c (ag z)] (wB w b)=some (wB {w with cC:=z} b):=BF w b h12 0 _ rfl rfl rfl
def Va(h12:w.l.br.length=12)(z:Int):bV 183 [.c (ag z)] (wB w b)=some (wB {w with done:=z} b):=BF w b h12 2 _ rfl rfl rfl
def Vb(h12:w.l.br.length=12)(z:Int):bV 184 [.c (ag z)] (wB w b)=some (wB {w with used:=z} b):=BF w b h12 3 _ rfl rfl rfl
def O0(h12:w.l.br.length=12)(z:Int):bV 185 [.c (ag z)] (wB w b)=some (wB {w with az:=z} b):=BF w b h12 4 _ rfl rfl rfl
def Vc(w:Wk)(b:Nat){i:Nat}{a:Acc}(ha:w.l.br[i]?=some a):∃q,∀k r,eu k (wh a++q)=some r->eu (0+i*15+k) (wB w b)=some r:=by
 obtain⟨p,q,h1,h2,_⟩:=Jx ha;refine⟨q++[AV.c (ag w.cC),.c (ag 0),.c (ag w.done),.c (ag w.used),.c (ag w.az),rS w b],λk r h=>?_⟩;unfold wB;rw[h2,aeq,<- h1,aeG,aeG];exact lY _ _ _ _ _ (jj p _) h
end
def Vd{l:L Acc}{i:Nat}(h:i<l.length):l[i]?=some (l.getD i uD):=by simp[List.getD,aea h]
def ng{l:gm}(h12:l.br.length=12){i:Int}(Q:0<=i)(h1:i<12):l.br[i.toNat]?=some (iG l i):=Vd (by omega)
end Go.Proofs
