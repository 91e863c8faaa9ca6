/- Package run: -/
import Derived.Test.YtdnpapgijbhofaaGreatDoorRunAM
import Derived.Test.YtdnpapgijbhofaaGreatDoorRunAB
import Derived.Test.YtdnpapgijbhofaaGreatDoorFits
import Derived.Test.YtdnpapgijbhofaaGreatDoorTree4
import Derived.Test.YtdnpapgijbhofaaGreatDoorRows
import Derived.Test.YtdnpapgijbhofaaGreatDoorTPure
import Derived.Test.YtdnpapgijbhofaaGreatDoorCtx
import Derived.WalkKit
import Derived.ProofKit
import Derived.OpenShut
open Go.Proofs.Tryz
set_option linter.defProp false
set_option maxHeartbeats 0
set_option linter.unusedVariables false
set_option linter.unusedSimpArgs false
set_option maxRecDepth 100000
namespace Go.Proofs
open Go.cM
def QV{n:Nd}{l:L Nd}{s U:L Ty}{T:Bool}(h:zZ (n::l) s U T):∃r,fu n s=(r,0)/\r.1.length<=40/\r.1.all br=true/\cy l r=((U,T),0):=by
 unfold zZ at h;simp only[cy]at h;rw[if_neg cc]at h;split at h
 ·rename_i c;exact absurd (Zb Prod.snd h) c
 rename_i c;simp only[ne_eq,aaK]at c;obtain⟨h1,h2,K,W⟩:=qq c;rw[h2]at h;exact⟨(fu n s).1,by rw[<- h1],K,W,h⟩
def FN{C:L Ty×Bool}{F:gU}{t:List gU}{s:L Ty}{n:Nd}(h:FT C (F::t) s)(E:F.code[F.pos]?=some n):∃r,fu n s=(r,0)/\r.1.all br=true/\(r.2=false->FT C ({F with pos:=F.pos+1}::t) r.1)/\n∈F.code:=by
 obtain⟨M,p,G,U,T,Y,V⟩:=h;obtain⟨W,I⟩:=List.getElem?_eq_some_iff.1 E;have e:F.code.drop F.pos=n::F.code.drop (F.pos+1):=by rw[aby W,I]
 rw[e]at Y;obtain⟨r,h1,h2,K,S⟩:=QV Y;refine⟨r,h1,K,λQ=>?_,aaA E⟩;have g0:=kW p;refine⟨by show r.1.length+cF F.code<=340;omega,p,by show F.pos+1<=F.code.length;omega,U,T,?_,V⟩;show cy (F.code.drop (F.pos+1)) (r.1,false)=_;rw[<- Q];exact S
def QW{C:L Ty×Bool}{S:b9}{s:L Ty}{F:gU}{t:List gU}{N P:Int}{W:L UInt8}{J:L Nd}(V:MT C S s)(h:S.fr=F::t)(E:F.code[F.pos]?=some (.mk 3 N P W J)):Ck S (dG (iP S F t) J 0 [])/\MT C (dG (iP S F t) J 0 []) s/\left (dG (iP S F t) J 0 [])<left S:=by
 obtain⟨Y,GS,U,T,Q,O⟩:=V;rw[h]at GS;have M:=GS;obtain⟨H,p,G,_⟩:=M;obtain⟨r,h1,h2,K,I⟩:=FN GS E;obtain⟨g1,D⟩:=nZ p I;simp only[fu,if_true]at h1;refine⟨⟨Z,Z,Z,Z,Z⟩,⟨Y,?_,U,T,Q,O⟩,?_⟩
 ·exact FO (r:=r) (by rw[h1]) (λ_=>by rw[h1]) bn g1 K
 ·have e:=Im E;simp only[many]at e;show left {iP S F t with fr:=⟨J,0,0,[]⟩::{F with pos:=F.pos+1}::t}<left S;simp only[left];rw[h];simp only[wq,S7,abx];omega
def NY{C:L Ty×Bool}{S:b9}{s:L Ty}{F:gU}{t:List gU}{N P:Int}{O:L UInt8}{J:L Nd}(hT:MT C S s)(h:S.fr=F::t)(q:F.code[F.pos]?=some (.mk 2 N P O J))(hg:S.used<S.oC)(hW:left S<=1000000000) :
  bf N O P J {iP S F t with used:=S.used+1}/\QX C S (aH P J {iP S F t with used:=S.used+1})/\(aH P J {iP S F t with used:=S.used+1}).1≠12:=by
 obtain⟨V,GS,p,kO,kP,y9⟩:=hT;rw[h]at GS;have Vs:=GS;obtain⟨f1,f2,f3,_⟩:=Vs;obtain⟨r,h1,h2,h3,h4⟩:=FN GS q;obtain⟨g1,g2⟩:=nZ f2 h4;have U:=Cl S.fr;have M:left S=(S.oC-S.used).toNat*900+wq S.fr:=rfl;rw[h]at U M;simp only[aac]at U;simp only[fu]at h1;rw[if_neg cc,if_neg cc]at h1;cases hf:bJ P J with
 |none=>rw[hf]at h1;cases h1
 |some Y =>
 rw[hf]at h1;have xq:mz P J (aX J) Y s=(r,0):=h1;obtain⟨k1,k2⟩:=KP C P {iP S F t with used:=S.used+1} p kO N O J g1 Y s r hf V bn (by show({F with pos:=F.pos+1}::t).length<=_;simp only[aac];omega) h2 xq;obtain⟨⟨q1,K,I,H,T,Q⟩,B,G,m3⟩:=QY P J {iP S F t with used:=S.used+1} Y s r kO V hf xq;refine⟨k1,?_,by rcases k2 with (⟨W,_⟩|W|W)|⟨W,_⟩|⟨W,_⟩<;>rw[W]<;>decide⟩;generalize aH P J {iP S F t with used:=S.used+1}=o at *;simp only at q1 K I H T Q;have E:0<=o.2.used/\o.2.used<=o.2.oC:=by rw[T,Q];omega
 have Ub:mJ o.2.self o.2.gv o.2.gw o.2.balance=true:=by rw[q1,K,I,H];exact p
 refine⟨⟨q1,K,I,H,T⟩,E,⟨B,G⟩,?_⟩;have e:=Im q;simp only[many]at e;rcases k2 with (⟨W,A,D,u⟩|W|W)|⟨W,F2,s2,A,D,u,o5⟩|⟨W,A⟩
 ·refine .inl ⟨W,r.1,⟨D,by rw[A];exact h3 u,Ub,⟨B,G⟩,E,by rw[T];exact y9⟩,?_⟩;rw[M];simp only[left,T,Q,A];simp only[wq,S7];omega
 ·exact .inr (.inl W)
 ·omega
 ·refine .inl ⟨W,s2,⟨u,by rw[A];exact o5 h3,Ub,⟨B,G⟩,E,by rw[T];exact y9⟩,?_⟩;rw[M];have g3:=kW D;have g4:=QZ F2.code F2.pos;simp only[left,T,Q,A];simp only[wq,S7];omega
 ·omega
def Q0(C:L Ty×Bool)(S:b9)(o:MR):Prop :=
 Ck S o.2/\(0<=o.2.used/\o.2.used<=o.2.oC)/\(0<=o.2.bG/\o.2.bG<=bL) /\
 ((o.1=0/\o.2.fr=[]/\dH C.1 o.2.st/\C.2=false)\/o.1=11\/o.1=13\/(o.1=12/\o.2.used=o.2.oC)\/(o.1=10/\vK o.2.said≠0/\aO o.2.said<=25000000))
def Io{S T U:b9}(h1:Ck S T)(h2:Ck T U):Ck S U:=by
 obtain⟨Y,G,q,A,H⟩:=h1;obtain⟨M,B,J,W,V⟩:=h2;exact⟨by rw[M,Y],by rw[B,G],by rw[J,q],by rw[W,A],by rw[V,H]⟩
def FP{C:L Ty×Bool}{S T:b9}{o:MR}(h1:Ck S T)(h2:Q0 C T o):Q0 C S o:=⟨Io h1 h2.1,h2.2⟩
def Es{C:L Ty×Bool}{S:b9}{o:MR}(h:QX C S o)(p:o.1≠0):Q0 C S o:=by
 obtain⟨h1,h2,K,W⟩:=h;exact⟨h1,h2,K,W.elim (λh=>absurd h.1 p) .inr⟩
def rV(C:L Ty×Bool):∀(k:Nat)(S:b9)(s:L Ty),MT C S s->left S<k->left S<=1000000000->jN k S (oX k S)/\Q0 C S (oX k S)
 |0,S,s,_,h,_=>absurd h (Nat.not_lt_zero _)
 |k+1,S,s,V,hk,hW=>by
  have U:=Cl S.fr;have eu:=bF V.fit;have T:=V.used;have y9:=V.oC;have M:Mh S.oC:=⟨bn,bn⟩
  have SO:left S=(S.oC-S.used).toNat*900+wq S.fr:=rfl;cases Q:S.fr with
  |nil =>
   have e:oX (k+1) S=(0,S):=by simp only[oX,Q]
   rw[e];have q:=V.ft;rw[Q]at q;have yu:C=(s,false):=q;subst yu;exact⟨jN.done Q,⟨Z,Z,Z,Z,Z⟩,T,V.Xy,.inl ⟨Z,Q,V.fit,Z⟩⟩
  |cons F t =>
   rw[Q]at U SO;simp only[aac]at U;have GS:=V.ft;rw[Q]at GS;obtain⟨f1,f2,f3,_⟩:=GS;have g0:=kW f2;have g1:=wu f2;have H:F.code.length<=8589934593:=by
    have:∀l:L Nd,l.length<=cF l:=by
     intro l
     induction l with
     |nil=>exact aav _
     |cons x l O=>cases x;simp only[aac,cF,many];omega
    have:=this F.code;omega
   by_cases q:F.pos=F.code.length
   ·obtain⟨u,k2,D⟩:=FQ V Q q;have k4:=FR S F t Q u bn k2 bn M T.1;have e:oX (k+1) S=if(nQ S F t).1=0 then oX k (nQ S F t).2 else nQ S F t:=by
     simp only[oX,Q];rw[if_pos q]
    by_cases Y:(nQ S F t).1=0
    ·rw[e,if_pos Y];obtain⟨K,t2,t3,I⟩:=D;rcases I with ⟨_,G,B,m2⟩|h|h|h|h
     ·have O:=rV C k _ G B bn bn;exact⟨jN.fin Q q bn k4 (λh=>absurd Y h) (λ_=>O.1),FP K O.2⟩
     ·rw[Y]at h;cases h
     ·rw[Y]at h;cases h
     ·omega
     ·omega
    ·rw[e,if_neg Y];exact⟨jN.fin Q q bn k4 (λ_=>rfl) (λh=>absurd h Y),Es D Y⟩
   ·have A:F.pos<F.code.length:=by omega
    have E:F.code[F.pos]?=some F.code[F.pos]:=Zn A;generalize F.code[F.pos]=n at E;obtain⟨W,N,P,sg,J⟩:=n
    have e:oX (k+1) S=(if W=3 then oX k (dG (iP S F t) J 0 [])
     else if W≠2 then(14,iP S F t)
     else if S.oC<=S.used then(12,iP S F t)
     else if(aH P J {iP S F t with used:=S.used+1}).1=0 then oX k (aH P J {iP S F t with used:=S.used+1}).2 else aH P J {iP S F t with used:=S.used+1}):=by
     simp only[oX,Q,E];rw[if_neg q]
    rw[e];by_cases p:W=3
    ·subst p;rw[if_pos rfl];obtain⟨s1,B,m2⟩:=QW V Q E;have O:=rV C k _ s B bn bn;exact⟨jN.seq Q E bn H O.1,FP s1 O.2⟩
    rw[if_neg p];have c2:W=2:=by
     have GS:=V.ft;rw[Q]at GS;obtain⟨r,h1,_⟩:=FN GS E;simp only[fu]at h1;rw[if_neg p]at h1;apply abf;intro c;rw[if_pos c]at h1;cases h1
    subst c2;rw[if_neg cc];by_cases hg:S.oC<=S.used
    ·rw[if_pos hg];exact⟨jN.Xz Q E bn H hg,⟨Z,Z,Z,Z,Z⟩,T,V.Xy,.inr (.inr (.inr (.inl ⟨Z,by show S.used=S.oC;omega⟩)))⟩
    rw[if_neg hg];obtain⟨u,D,_⟩:=NY V Q E bn hW;by_cases Y:(aH P J {iP S F t with used:=S.used+1}).1=0
    ·rw[if_pos Y];obtain⟨K,t2,t3,I⟩:=D;rcases I with ⟨_,G,B,m2⟩|h|h|h|h
     ·have O:=rV C k _ G B bn bn;exact⟨jN.step Q E bn H bn M T.1 u (λh=>absurd Y h) (λ_=>O.1),FP K O.2⟩
     ·rw[Y]at h;cases h
     ·rw[Y]at h;cases h
     ·omega
     ·omega
    ·rw[if_neg Y];exact⟨jN.step Q E bn H bn M T.1 u (λ_=>rfl) (λh=>absurd h Y),Es D Y⟩
structure S8 where
 code:Int
 st:List Vl
 said:Vl
 oC:Int
 bG:Int
def NZ(r:S8):CV:=ij r.code r.st r.said r.oC r.bG
def xF(a b c d:Int)(W:L Nd)(l:L Vl)(g:Int):b9:=⟨a,b,c,d,l,[⟨W,0,0,[]⟩],g,0,0,nE⟩
def tN(o:MR):S8:=⟨o.1,if o.1=0 then o.2.st else [],if o.1=10 then o.2.said else nE,o.2.used,if o.1=0 then o.2.bG else 0⟩
def OV(a b c d:Int)(n:Nd)(s:L Ty)(l:L Vl):Bool:=decide ((iD n s).2=0)&&decide (s.length=l.length)&&mJ a b c d&&mj s l
def Q1:S8:=⟨14,[],nE,0,0⟩
def sE(a b c d:Int)(n:Nd)(l:L Vl)(g:Int):MR:=oX (left (xF a b c d (cJ n) l g)+1) (xF a b c d (cJ n) l g)
def Ip(a b c d:Int)(n:Nd)(s:L Ty)(l:L Vl)(g:Int):S8:=if OV a b c d n s l=true then tN (sE a b c d n l g)else Q1
def rW{a b c d:Int}{n:Nd}{s:L Ty}{l:L Vl}:OV a b c d n s l=true↔(iD n s).2=0/\s.length=l.length/\mJ a b c d=true/\mj s l=true:=by
 unfold OV;simp only[aal,Z5,and_assoc]
abbrev Vt(l:L Vl):Prop:=∀v∈l,aO v<=25000000
def Q2{l:L Vl}(h:aK l<=25000000):Vt l:=λv B=>by have:=ee B;omega
def Iq:∀{l:L Vl},Vt l->aK l<=l.length*25000000
 |[],_=>aav _
 |v::l,h=>by
  have h1:=h v ek;have h2:=Iq (l:=l) λw J=>h w (by simp[J]);simp only[aK,aac];omega
def Ir:∀{s:L Ty}{l:L Vl},s.length=l.length->mj s l=true->Vt l->dH s l
 |[],[],_,_,_=>trivial
 |t::s,v::l,h,h2,K=>by
  simp only[mj,aal]at h2;simp only[aac,Nat.add_right_cancel_iff]at h;exact⟨⟨h2.1,K v ek⟩,Ir h h2.2 λw J=>K w (by simp[J])⟩
 |[],_::_,h,_,_=>by simp at h
 |_::_,[],h,_,_=>by simp at h
def Is:∀{s:L Ty}{l:L Vl},dH s l->mj s l=true
 |[],[],_=>rfl
 |t::s,v::l,h=>by
  simp only[mj,aal];exact⟨h.1.1,Is h.2⟩
 |[],_::_,h=>h.elim
 |_::_,[],h=>h.elim
def KQ{a b c d:Int}{n:Nd}{s:L Ty}{l:L Vl}{g:Int}(h:OV a b c d n s l=true)(B:Vt l)(p:0<=g/\g<=1000000):MT (iD n s).1 (xF a b c d (cJ n) l g) s:=by
 obtain⟨h1,h2,K,W⟩:=rW.1 h;obtain⟨g1,H,u,O,V⟩:=wY h1;have Y:=Iu g1;have U:=kW Y;rw[V]at h1 ⊢;refine⟨Ir h2 W B,⟨by show s.length+cF (cJ n)<=340;omega,Y,aaF _,_,_,zb h1,λhf => .inl ⟨Z,?_⟩⟩,K,⟨acP _,by show(0:Int)<=bL;decide⟩,⟨acP _,p.1⟩,p.2⟩;show(cy (cJ n) (s,false)).1=(_,false)
 rw[Prod.ext_iff];exact⟨Z,hf⟩
def N0{a b c d:Int}{n:Nd}{s:L Ty}{l:L Vl}{g:Int}(h:OV a b c d n s l=true)(p:0<=g/\g<=1000000):left (xF a b c d (cJ n) l g)<=1000000000:=by
 obtain⟨h1,h2,K,W⟩:=rW.1 h;have Y:=kW (Iu (wY h1).1);simp only[left,xF,wq,S7,abx];omega
def Mi{a b c d:Int}{n:Nd}{s:L Ty}{l:L Vl}{g:Int}(h:OV a b c d n s l=true)(B:Vt l)(p:0<=g/\g<=1000000):jN (left (xF a b c d (cJ n) l g)+1) (xF a b c d (cJ n) l g) (sE a b c d n l g)/\Q0 (iD n s).1 (xF a b c d (cJ n) l g) (sE a b c d n l g) :=
 rV _ _ _ s (KQ h B p) (ZX _) (N0 h p)
def Dy(a b c d g:Int)(W:L Nd)(l:L Vl)(o:MR)(hq:l.length<=1000000000)(p:o.2.st.length<=1000000000\/o.1≠0)(J:cz 85 (xF a b c d W l g) [] (aE o.1) o.2) :
  aj 62 [.agg [aE a,aE b,aE c,aE d],.sl 5 (aG W),.sl 7 (aa l),aE g] (NZ (tN o)):=by
 obtain⟨e,S'⟩:=o;simp only at p J;unfold tN NZ;simp only;by_cases Y:e=0
 ·subst Y;rw[if_pos Z,if_neg cc,if_pos rfl];cases l with
  |nil=>exact Iv a b c d g W S' (p.resolve_right λh=>h Z) J
  |cons x q=>exact z8 a b c d g W x q S' Wl (p.resolve_right λh=>h Z) J
 rw[if_neg Y,if_neg Y];by_cases C:e=10
 ·subst C;rw[if_pos rfl];cases l with
  |nil=>exact Dz a b c d g W S' J
  |cons x q=>exact DA a b c d g W x q S' Wl J
 rw[if_neg C];cases l with
 |nil=>exact FU a b c d g e W S' Y C J
 |cons x q=>exact FV a b c d g e W x q S' Wl Y C J
def N1(a b c d g:Int)(n:Nd)(E:bZ n<=8589934593)(s:L Ty)(V:bg s<=8589934593)(l:L Vl)(B:Vt l)(p:0<=g/\g<=1000000) :
  aj 33 [.agg [aE a,aE b,aE c,aE d],aY n,.sl 2 (au s),.sl 7 (aa l),aE g] (NZ (Ip a b c d n s l g)):=by
 by_cases K:(iD n s).2=0/\s.length=l.length/\mJ a b c d=true;rotate_left
 ·have e:OV a b c d n s l=false:=by
   cases Y:OV a b c d n s l with
   |false=>rfl
   |true =>
    obtain⟨h1,h2,W,_⟩:=rW.1 Y;exact absurd ⟨h1,h2,W⟩ K
  unfold Ip;rw[if_neg (by rw[e];decide)];exact S9 a b c d g n E s V l K
 obtain⟨h1,h2,W⟩:=K;have P:l.length<=40:=by have:=(wY h1).2.2.1;omega
 have O:=Iq B;have U:mj s l=true->aj 62 [.agg [aE a,aE b,aE c,aE d],.sl 5 (aG (cJ n)),.sl 7 (aa l),aE g] (NZ (tN (sE a b c d n l g))):=by
  intro Y;have ok:OV a b c d n s l=true:=rW.2 ⟨h1,h2,W,Y⟩;obtain⟨H,q⟩:=Mi ok B p;refine Dy a b c d g (cJ n) l _ bn ?_ (Cm _ _ _ H);obtain⟨_,_,_,T⟩:=q;rcases T with ⟨_,_,S,_⟩|w|w|w|w
  ·left;have:=bF S;have:=(yw h1).2.1;omega
  all_goals right
  ·rw[w];decide
  ·rw[w];decide
  ·rw[w.1];decide
  ·rw[w.1];decide
 have Q:=Mj a b c d g n E s V l bn h1 h2 W _ _ _ _ _ U;have e:(bif mj s l then ij (tN (sE a b c d n l g)).code (tN (sE a b c d n l g)).st (tN (sE a b c d n l g)).said (tN (sE a b c d n l g)).oC (tN (sE a b c d n l g)).bG else ij 14 [] nE 0 0)=NZ (Ip a b c d n s l g):=by
  unfold Ip;cases Y:mj s l with
  |true =>
   rw[if_pos (rW.2 ⟨h1,h2,W,Y⟩)];rfl
  |false =>
   rw[if_neg (λh=>by have:=(rW.1 h).2.2.2;rw[Y]at this;cases this)];rfl
 rw[<- e];exact Q
attribute [local irreducible] AK ah aZ cx dV aW br dD cy fu iD many cF
def FW(l:L Ty)(B:l.length<=1099511627776):fA 32 [.v (.c (.sl 2 (au l)))] [.own 2 (au l)] []:=by
 cases l with
 |nil =>
  refine en func32 call32 [(0,.c (.sl 2 []))] [] [] [] λβ hf=>?_
  repeat' (first|refine qU ?_|refine ze ?_ ?_|(intro h;first|(cases h;done)|rw[h]|skip)|(refine uA Z ?_ ?_<;>(try (show(_:Nat)*_<=_;dsimp only))))
  all_goals first|exact Z|(show _<=_;decide)
 |cons x l =>
  have h1:=aR l;simp only[aac]at B;refine en func32 call32 [(0,.c (.sl 2 (er x::au l)))] [] [] [] λβ hf=>?_
  repeat' (first|refine qU ?_|refine ze ?_ ?_|(intro h;first|(cases h;done)|rw[h]|skip)|(refine uA Z ?_ ?_<;>(try (show(_:Nat)*_<=_;dsimp only))))
  all_goals first|exact Z|(show _<=_;simp only[aac,aad];omega)
def KR(l:L CV):aj 64 [.sl 5 l] (.agg [.int .i64 3,.int .i64 0,.int .i64 0,.str [],.sl 5 l]):=by
 refine qn func64 call64 λβ hf=>?_;exact dw
end Go.Proofs
namespace Go.Proofs
open Go.cM
def Q3(l:L Vl):mj [] l=true:=rfl
def Iw(s:L Ty)(l:L Vl)(a b c d:Int):Bool:=(bif (bif (bif (bif (bif (bif (bif (bif ((((au s).length:Nat):Int) != (((aa l).length:Nat):Int))then true else decide (a<0))then true else decide (a>=12))then true else decide (b<0))then true else decide (b>=12))then true else decide (c<0))then true else decide (c>1152921504606846976))then true else decide (d<0))then true else decide (d>1152921504606846976))
attribute [local irreducible] AK ah aZ cx dM dV iD lu mj
def DB(l:L Vl)(B:l.length<=549755813888):fA 34 [.v (.c (.sl 7 (aa l)))] [.own 7 (aa l)] []:=by
 cases l with
 |nil =>
  refine en func34 call34 [(0,.c (.sl 7 []))] [] [] [] λβ hf=>?_
  repeat' (first|refine qU ?_|refine ze ?_ ?_|(intro h;first|(cases h;done)|rw[h]|skip)|(refine uA Z ?_ ?_<;>(try (show(_:Nat)*_<=_;dsimp only))))
  all_goals first|exact Z|(show _<=_;decide)
 |cons x l =>
  have h1:=aB l;simp only[aac]at B;refine en func34 call34 [(0,.c (.sl 7 (bO x::aa l)))] [] [] [] λβ hf=>?_
  repeat' (first|refine qU ?_|refine ze ?_ ?_|(intro h;first|(cases h;done)|rw[h]|skip)|(refine uA Z ?_ ?_<;>(try (show(_:Nat)*_<=_;dsimp only))))
  all_goals first|exact Z|(show _<=_;simp only[aac,aad];omega)
def Ix(k:Int)(K : -9223372036854775808<=k)(u:k<=9223372036854775807):∃r:Nat,r<3000/\aj 35 [.int .i64 k] (.int .i64 r):=by
 obtain⟨r,E,hq⟩:=KS k 3000 K u cc cc;refine⟨r,E,?_⟩;have h2:aj 63 [.int .i64 k,.int .i64 3000] (.int .i64 r):=hq;clear hq;refine qn func35 call35 λβ hf=>?_;exact dw
def z9(a b c d:Int)(s:L Ty)(hs:bg s<=8589934593)(l:L Vl)(E:∀v∈l,aO v<=8589934593):aj 36 [.agg [aE a,aE b,aE c,aE d],.sl 2 (au s),.sl 7 (aa l)] (.bool (bif Iw s l a b c d then false else mj s l)):=by
 have z1:=aR s;have z2:=aB l;have z3:=gV s;unfold Iw;cases q:((((au s).length:Nat):Int) != (((aa l).length:Nat):Int))with
 |true =>
  show aZ _ _ _ _ (.bool false);refine qn func36 call36 λβ hf=>?_;exact dw
 |false =>
 cases B:decide (a<0)with
 |true =>
  have C:(bif ((((au s).length:Nat):Int) != (((aa l).length:Nat):Int))then true else decide (a<0))=true:=by rw[q,B];rfl
  show aZ _ _ _ _ (.bool false);refine qn func36 call36 λβ hf=>?_;exact dw
 |false =>
 have C:(bif ((((au s).length:Nat):Int) != (((aa l).length:Nat):Int))then true else decide (a<0))=false:=by rw[q,B];rfl
 cases V:decide (a>=12)with
 |true =>
  have u:(bif (bif ((((au s).length:Nat):Int) != (((aa l).length:Nat):Int))then true else decide (a<0))then true else decide (a>=12))=true:=by rw[q,B,V];rfl
  show aZ _ _ _ _ (.bool false);refine qn func36 call36 λβ hf=>?_;exact dw
 |false =>
 have u:(bif (bif ((((au s).length:Nat):Int) != (((aa l).length:Nat):Int))then true else decide (a<0))then true else decide (a>=12))=false:=by rw[q,B,V];rfl
 cases Y:decide (b<0)with
 |true =>
  have p:(bif (bif (bif ((((au s).length:Nat):Int) != (((aa l).length:Nat):Int))then true else decide (a<0))then true else decide (a>=12))then true else decide (b<0))=true:=by rw[q,B,V,Y];rfl
  show aZ _ _ _ _ (.bool false);refine qn func36 call36 λβ hf=>?_;exact dw
 |false =>
 have p:(bif (bif (bif ((((au s).length:Nat):Int) != (((aa l).length:Nat):Int))then true else decide (a<0))then true else decide (a>=12))then true else decide (b<0))=false:=by rw[q,B,V,Y];rfl
 cases W:decide (b>=12)with
 |true =>
  have n4:(bif (bif (bif (bif ((((au s).length:Nat):Int) != (((aa l).length:Nat):Int))then true else decide (a<0))then true else decide (a>=12))then true else decide (b<0))then true else decide (b>=12))=true:=by rw[q,B,V,Y,W];rfl
  show aZ _ _ _ _ (.bool false);refine qn func36 call36 λβ hf=>?_;exact dw
 |false =>
 have n4:(bif (bif (bif (bif ((((au s).length:Nat):Int) != (((aa l).length:Nat):Int))then true else decide (a<0))then true else decide (a>=12))then true else decide (b<0))then true else decide (b>=12))=false:=by rw[q,B,V,Y,W];rfl
 cases U:decide (c<0)with
 |true =>
  have n5:(bif (bif (bif (bif (bif ((((au s).length:Nat):Int) != (((aa l).length:Nat):Int))then true else decide (a<0))then true else decide (a>=12))then true else decide (b<0))then true else decide (b>=12))then true else decide (c<0))=true:=by rw[q,B,V,Y,W,U];rfl
  show aZ _ _ _ _ (.bool false);refine qn func36 call36 λβ hf=>?_;exact dw
 |false =>
 have n5:(bif (bif (bif (bif (bif ((((au s).length:Nat):Int) != (((aa l).length:Nat):Int))then true else decide (a<0))then true else decide (a>=12))then true else decide (b<0))then true else decide (b>=12))then true else decide (c<0))=false:=by rw[q,B,V,Y,W,U];rfl
 cases T:decide (c>1152921504606846976)with
 |true =>
  have n6:(bif (bif (bif (bif (bif (bif ((((au s).length:Nat):Int) != (((aa l).length:Nat):Int))then true else decide (a<0))then true else decide (a>=12))then true else decide (b<0))then true else decide (b>=12))then true else decide (c<0))then true else decide (c>1152921504606846976))=true:=by rw[q,B,V,Y,W,U,T];rfl
  show aZ _ _ _ _ (.bool false);refine qn func36 call36 λβ hf=>?_;exact dw
 |false =>
 have n6:(bif (bif (bif (bif (bif (bif ((((au s).length:Nat):Int) != (((aa l).length:Nat):Int))then true else decide (a<0))then true else decide (a>=12))then true else decide (b<0))then true else decide (b>=12))then true else decide (c<0))then true else decide (c>1152921504606846976))=false:=by rw[q,B,V,Y,W,U,T];rfl
 cases Q:decide (d<0)with
 |true =>
  have n7:(bif (bif (bif (bif (bif (bif (bif ((((au s).length:Nat):Int) != (((aa l).length:Nat):Int))then true else decide (a<0))then true else decide (a>=12))then true else decide (b<0))then true else decide (b>=12))then true else decide (c<0))then true else decide (c>1152921504606846976))then true else decide (d<0))=true:=by rw[q,B,V,Y,W,U,T,Q];rfl
  show aZ _ _ _ _ (.bool false);refine qn func36 call36 λβ hf=>?_;exact dw
 |false =>
 have n7:(bif (bif (bif (bif (bif (bif (bif ((((au s).length:Nat):Int) != (((aa l).length:Nat):Int))then true else decide (a<0))then true else decide (a>=12))then true else decide (b<0))then true else decide (b>=12))then true else decide (c<0))then true else decide (c>1152921504606846976))then true else decide (d<0))=false:=by rw[q,B,V,Y,W,U,T,Q];rfl
 cases N:decide (d>1152921504606846976)with
 |true =>
  have n8:(bif (bif (bif (bif (bif (bif (bif (bif ((((au s).length:Nat):Int) != (((aa l).length:Nat):Int))then true else decide (a<0))then true else decide (a>=12))then true else decide (b<0))then true else decide (b>=12))then true else decide (c<0))then true else decide (c>1152921504606846976))then true else decide (d<0))then true else decide (d>1152921504606846976))=true:=by rw[q,B,V,Y,W,U,T,Q,N];rfl
  show aZ _ _ _ _ (.bool false);refine qn func36 call36 λβ hf=>?_;exact dw
 |false =>
 have n8:(bif (bif (bif (bif (bif (bif (bif (bif ((((au s).length:Nat):Int) != (((aa l).length:Nat):Int))then true else decide (a<0))then true else decide (a>=12))then true else decide (b<0))then true else decide (b>=12))then true else decide (c<0))then true else decide (c>1152921504606846976))then true else decide (d<0))then true else decide (d>1152921504606846976))=false:=by rw[q,B,V,Y,W,U,T,Q,N];rfl
 have M:s.length=l.length:=by
  by_cases M:s.length=l.length
  ·exact M
  ·have:((((au s).length:Nat):Int) != (((aa l).length:Nat):Int))=true:=by rw[abY];omega
   rw[this]at q;cases q
 show aZ _ _ _ _ (.bool (mj s l));refine qn func36 call36 λβ hf=>?_
 repeat' (first|refine qU ?_|refine zc ?_ ?_|(intro h;first|(cases h;done)|rw[h]|skip))
 refine AK.eX (α:=Nat) (λj=>j<=s.length/\mj s l=mj (s.drop j) (l.drop j)) (λj=>s.length-j)
  (λj=>[(55,.c (.int .i64 j)),(54,.c (.int .i64 (au s).length)),(1,.c (.sl 2 (au s))),(2,.c (.sl 7 (aa l)))])
  (λj=>[]) (λ_=>[]) [] 0
  ⟨bn,Z⟩ ce trivial trivial Z Z Z ?_
 rintro j ⟨hj,G⟩ jh;rcases gr s j hj with ⟨y,J,K⟩|I
 ·have UJ:=Bb J;have P:=bQ J;rcases gr l j bn with ⟨w,D,S⟩|hwe
  rotate_left
  ·omega
  have O:=Bv y w (by have:=cA K;omega) (E w S);rw[Et J D]at G;have TX:=fB J;have UW:=fm D;clear K S;obtain⟨p1,p2⟩:=y;obtain⟨r1,r2,r3,r4,r5,r6,r7⟩:=w;cases H:lu (.mk p1 p2) (.mk r1 r2 r3 r4 r5 r6 r7)with
  |false =>
   rw[H]at O G;rw[aaH]at G;rw[G];clear jh;exact dw
  |true =>
   rw[H]at O G;rw[aaI]at G
   repeat' (first|refine qU ?_|refine zc ?_ ?_|(intro h;first|(cases h;done)|rw[h]|skip)|refine uI Z (j) Z (TX) Z ?_|refine uI Z (j) Z (UW) Z ?_|refine uC Z O ?_)
   exact AK.again (jh (j+1) ⟨P,G⟩ bn) ⟨.inl (iS (i:=j) bn),.inl Z,.inl Z,.inl Z,trivial⟩ trivial trivial Z Z Z
 ·have UJ:=wM I;have A:mj s l=true:=by rw[G,I,Zx];exact Q3 _
  rw[A];clear jh;exact dw
def N3:iD (.mk 3 0 0 [] [.mk 2 0 40 [] []]) [.mk 4 []]=dX []:=by
 have h1:dD (.mk 3 0 0 [] [.mk 2 0 40 [] []])=0:=by decide +kernel
 have h2:List.all [Ty.mk 4 []] br=true:=by decide +kernel
 rw[L4 h1 Z,if_neg cc,if_pos h2];show cy [.mk 2 0 40 [] []] ([.mk 4 []],false)=_;rfl
def v3:Vl := .mk 4 3 0 [] [] [] []
def N4:jN 3 ⟨0,0,0,0,[v3],[⟨[.mk 2 0 40 [] []],0,0,[]⟩],9,0,0,nE⟩ (0,⟨0,0,0,0,[],[],9,1,0,nE⟩):=by
 refine jN.step (F:=⟨[.mk 2 0 40 [] []],0,0,[]⟩) (t:=[]) (S':=⟨0,0,0,0,[],[⟨[.mk 2 0 40 [] []],1,0,[]⟩],9,1,0,nE⟩) (e:=0) Z Z cc cc cc cc cc ?_ (λh=>absurd Z h) λ_=>?_
 ·exact n9 _ _ 2 0 40 [] [] [v3] [] 0 cc (by rw[show bW 40=1 from by decide +kernel];rfl) (by show(1:Nat)<=_;omega) (Ep _ 0 [] [v3])
 refine jN.fin (F:=⟨[.mk 2 0 40 [] []],1,0,[]⟩) (t:=[]) (S':=⟨0,0,0,0,[],[],9,1,0,nE⟩) (e:=0) Z Z cc ?_ (λh=>absurd Z h) λ_=>?_
 ·exact xG ⟨0,0,0,0,[],[⟨[.mk 2 0 40 [] []],1,0,[]⟩],9,1,0,nE⟩ ⟨[.mk 2 0 40 [] []],1,0,[]⟩ [] Z Z cc
 exact jN.done rfl
def Iy:aj 37 [] (.bool true):=by
 have p:=Mj 0 0 0 0 9 (.mk 3 0 0 [] [.mk 2 0 40 [] []]) cc [.mk 4 []] cc [v3] cc (by rw[N3];rfl) Z (by decide +kernel) 0 [] nE 1 0 (λ_=>z8 0 0 0 0 9 [.mk 2 0 40 [] []] v3 [] ⟨0,0,0,0,[],[],9,1,0,nE⟩ cc cc (Cm 3 _ _ N4));have e:mj [.mk 4 []] [v3]=true:=by decide +kernel
 rw[e]at p;have h1:aj 33 [.agg [.int .i64 0,.int .i64 0,.int .i64 0,.int .i64 0],.agg [.int .i64 3,.int .i64 0,.int .i64 0,.str [],.sl 5 [.agg [.int .i64 2,.int .i64 0,.int .i64 40,.str [],.sl 5 []]]],.sl 2 [.agg [.int .i64 4,.sl 2 []]],.sl 7 [.agg [.int .i64 4,.int .i64 3,.int .i64 0,.str [],.sl 7 [],.sl 2 [],.sl 5 []]],.int .i64 9] (ij 0 [] nE 1 0):=p;have K:=KR [.agg [.int .i64 2,.int .i64 0,.int .i64 40,.str [],.sl 5 []]];clear p e;refine qn func37 call37 λβ hf=>?_;exact dw
end Go.Proofs
namespace Go.Proofs
open Go.cM
def Q4{s:L Ty}{l:L Vl}{a b c d:Int}(h:s.length=l.length/\mJ a b c d=true):Iw s l a b c d=false:=by
 obtain⟨h1,h2⟩:=h;obtain⟨⟨I,Q⟩,⟨P,p⟩,⟨u,Y⟩,e7,e8⟩:=uX h2;unfold bL at Y e8;have S:((((au s).length:Nat):Int) != (((aa l).length:Nat):Int))=false:=by rw[aR,aB,h1];exact abF _
 have W:decide (a<0)=false:=aax bn;have C:decide (a>=12)=false:=aax bn;have K:decide (b<0)=false:=aax bn;have c4:decide (b>=12)=false:=aax bn;have A:decide (c<0)=false:=aax bn;have V:decide (c>1152921504606846976)=false:=aax bn;have U:decide (d<0)=false:=aax bn;have T:decide (d>1152921504606846976)=false:=aax bn;unfold Iw;rw[S,W,C,K,c4,A,V,U,T];rfl
def Q5{s:L Ty}{l:L Vl}{a b c d:Int}(h:Iw s l a b c d=false):s.length=l.length/\mJ a b c d=true:=by
 unfold Iw at h;have M:∀x y:Bool,(bif x then true else y)=false->x=false/\y=false:=by intro x y h;cases x<;>simp_all
 obtain⟨h,Y⟩:=M _ _ h;obtain⟨h,W⟩:=M _ _ h;obtain⟨h,V⟩:=M _ _ h;obtain⟨h,A⟩:=M _ _ h;obtain⟨h,c4⟩:=M _ _ h;obtain⟨h,K⟩:=M _ _ h;obtain⟨h,C⟩:=M _ _ h;obtain⟨S,U⟩:=M _ _ h;have T:=bne_eq_false_iff_eq.1 S;rw[aR,aB]at T;have Q:=of_decide_eq_false U;have B:=of_decide_eq_false C;have P:=of_decide_eq_false K;have O:=of_decide_eq_false c4;have N:=of_decide_eq_false A;have J:=of_decide_eq_false V;have I:=of_decide_eq_false W;have H:=of_decide_eq_false Y;refine⟨bn,?_⟩;unfold mJ Iz IA;rw[aaw (by omega:a>=0),aaw (by omega:a<12),aaw (by omega:b>=0),aaw (by omega:b<12),aaw (by omega:c>=0),aaw (by omega:c<=1152921504606846976),aaw (by omega:d>=0),aaw (by omega:d<=1152921504606846976)];rfl
def FX(s:L Ty)(l:L Vl)(a b c d:Int):Bool:=bif Iw s l a b c d then false else mj s l
def Cn{s:L Ty}{l:L Vl}{a b c d:Int}:FX s l a b c d=true↔s.length=l.length/\mJ a b c d=true/\mj s l=true:=by
 unfold FX;constructor
 ·intro h;cases Y:Iw s l a b c d with
  |true=>rw[Y]at h;cases h
  |false =>
   rw[Y]at h;obtain⟨h1,h2⟩:=Q5 Y;exact⟨h1,h2,h⟩
 ·rintro⟨h1,h2,K⟩;rw[Q4 ⟨h1,h2⟩];exact K
def Q6{a b c d:Int}{n:Nd}{s:L Ty}{l:L Vl}:OV a b c d n s l=true↔(iD n s).2=0/\FX s l a b c d=true:=by
 rw[rW,Cn]
def xH:∀{s:L Ty},s.all br=true->bg s<=s.length*300
 |[],_=>aav _
 |t::s,h=>by
  have h1:=(cG (bz h)).2;have h2:=xH (Co h);simp only[bg,aac];omega
def Eu:∀{s:L Ty}{l:L Vl},dH s l->Vt l
 |[],[],_,_,B=>by simp at B
 |t::s,w::l,h,v,B=>by
  rcases List.mem_cons.1 B with rfl|B
  ·exact h.1.2
  ·exact Eu h.2 v B
 |[],_::_,h,_,_=>h.elim
 |_::_,[],h,_,_=>h.elim
attribute [local irreducible] AK ah aZ cx dM dV iD lu mj FX Ip
def DC(a b c d:Int)(n:Nd)(hn:bZ n<=8589934593)(s:L Ty)(hs:bg s<=8589934593)(l:L Vl)(hl:aK l<=25000000)(g:Int)(Vu : -9223372036854775808<=g)(YA:g<=9223372036854775807):aj 11 [.agg [aE a,aE b,aE c,aE d],aY n,.sl 2 (au s),.sl 7 (aa l),aE g] (.bool true):=by
 obtain⟨V,hgp,h8⟩:=Ix g Vu YA;have zs:=gV s;have zl:=iN l;have h1:=rD n s hn bn;have h2:=N1 a b c d V n hn s hs l (Q2 hl) bn;have h3:=FW s bn;have h4:=DB l bn;have O:aj 36 [.agg [aE a,aE b,aE c,aE d],.sl 2 (au s),.sl 7 (aa l)] (.bool (FX s l a b c d)):=by
  unfold FX;exact z9 a b c d s bn l (λv hv=>by have:=ee hv;omega)
 have h6:=Iy;have Y := @Q6 a b c d n s l;have Q := @yw n s;have B:Ip a b c d n s l V=if OV a b c d n s l=true then tN (sE a b c d n l V)else Q1:=by unfold Ip;rfl
 have W := @Mi a b c d n s l V;generalize Ip a b c d n s l V=rr at h2 B;generalize iD n s=q1 at h1 Y Q W;obtain⟨⟨t,p⟩,ec⟩:=q1;generalize D:FX s l a b c d=kf at O Y;generalize hok:OV a b c d n s l=ok at Y B W;simp only at Y Q W;obtain⟨u,A,J,T,C⟩:=n;by_cases he:ec=0;rotate_left
 ·have e1:(ec != 0)=true:=by simpa using he
  have M:ok=false:=by
   cases ok with
   |false=>rfl
   |true=>exact absurd (Y.1 Z).1 he
  subst M;rw[if_neg cc]at B;subst B;clear Y Q W D hok O;refine qn func11 call11 λβ hf=>?_;exact dw
 subst he;cases kf with
 |false =>
  have M:ok=false:=by
   cases ok with
   |false=>rfl
   |true=>exact absurd (Y.1 Z).2 cc
  subst M;rw[if_neg cc]at B;subst B;clear Y Q W D hok;refine qn func11 call11 λβ hf=>?_;exact dw
 |true =>
  have M:ok=true:=Y.2 ⟨Z,Z⟩;subst M;rw[if_pos rfl]at B;obtain⟨_,w1,q,S,E⟩:=W rfl (Q2 hl) bn;obtain⟨g1,H,K⟩:=Q rfl;have P:=Cn.1 D;have I:(sE a b c d (.mk u A J T C) l V).2.oC=V:=w1.2.2.2.2;rw[I]at q E;generalize sE a b c d (.mk u A J T C) l V=o at B I q S E;obtain⟨e,S'⟩:=o;simp only at I q S E;clear Y Q W hok w1;rcases E with ⟨rfl,_,U,w6⟩|rfl|rfl|⟨rfl,U⟩|⟨rfl,U⟩
  ·subst w6;have hrr:rr=⟨0,S'.st,nE,S'.used,S'.bG⟩:=B;subst hrr;have h7:aj 36 [.agg [aE a,aE b,aE c,aE d],.sl 2 (au t),.sl 7 (aa S'.st)] (.bool true):=by
    have e3:FX t S'.st a b c d=true:=Cn.2 ⟨bF U,P.2.1,Is U⟩;rw[<- e3];unfold FX;exact z9 a b c d t (by have:=xH g1;omega) S'.st (λv hv=>by have:=Eu U v hv;omega)
   have G:decide (S'.used<=(V:Int))=true:=aaw q.2;have N:aj 33 [.agg [aE a,aE b,aE c,aE d],aY (.mk u A J T C),.sl 2 (au s),.sl 7 (aa l),aE V] (ij 0 S'.st nE S'.used S'.bG):=h2;clear U q S P g1 H K D B h2;generalize S'.st=st' at *;generalize S'.used=us' at *;refine qn func11 call11 λβ hf=>?_
   repeat' (first|refine qU ?_|refine zc ?_ ?_|(intro h;first|(cases h;done)|rw[h]|skip)|refine jT ?_ (hq:=h3) (hok:=by exact⟨_,_,Z,Z,Z⟩)|refine jT ?_ (hq:=h4) (hok:=by exact⟨_,_,Z,Z,Z⟩)|refine uC Z h1 ?_|refine uC Z N ?_|refine uC Z O ?_|refine uC Z h7 ?_|refine uC Z h6 ?_|refine uC Z h8 ?_)
   all_goals (first|exact Wk.refl _|(show Wk (.bool (decide _)) _;rw[G];exact Wk.refl _))
  ·have N:aj 33 [.agg [aE a,aE b,aE c,aE d],aY (.mk u A J T C),.sl 2 (au s),.sl 7 (aa l),aE V] (ij 11 [] nE S'.used 0):=by subst B;exact h2
   clear q S P g1 H K D B h2;generalize S'.used=us' at *;refine qn func11 call11 λβ hf=>?_;exact dw
  ·have N:aj 33 [.agg [aE a,aE b,aE c,aE d],aY (.mk u A J T C),.sl 2 (au s),.sl 7 (aa l),aE V] (ij 13 [] nE S'.used 0):=by subst B;exact h2
   clear q S P g1 H K D B h2;generalize S'.used=us' at *;refine qn func11 call11 λβ hf=>?_;exact dw
  ·have N:aj 33 [.agg [aE a,aE b,aE c,aE d],aY (.mk u A J T C),.sl 2 (au s),.sl 7 (aa l),aE V] (ij 12 [] nE V 0):=by
    subst B;have GU:NZ (tN (12,S'))=ij 12 [] nE V 0:=by show ij 12 [] nE S'.used 0=_;rw[U]
    rw[<- GU];exact h2
   have G:((V:Int)==(V:Int))=true:=beq_self_eq_true _;clear q S U P g1 H K D B h2 I;refine qn func11 call11 λβ hf=>?_
   repeat' (first|refine qU ?_|refine zc ?_ ?_|(intro h;first|(cases h;done)|rw[h]|skip)|refine jT ?_ (hq:=h3) (hok:=by exact⟨_,_,Z,Z,Z⟩)|refine jT ?_ (hq:=h4) (hok:=by exact⟨_,_,Z,Z,Z⟩)|refine uC Z h1 ?_|refine uC Z N ?_|refine uC Z O ?_|refine uC Z h6 ?_|refine uC Z h8 ?_)
   all_goals (first|exact Wk.refl _|(show Wk (.bool (_==_)) _;rw[G];exact Wk.refl _))
  ·have N:aj 33 [.agg [aE a,aE b,aE c,aE d],aY (.mk u A J T C),.sl 2 (au s),.sl 7 (aa l),aE V] (ij 10 [] S'.said S'.used 0):=by subst B;exact h2
   have G:(vK S'.said != 0)=true:=by simpa using U.1
   clear q S U P g1 H K D B h2 I;generalize S'.said=sd at *;generalize S'.used=us' at *;refine qn func11 call11 λβ hf=>?_
   repeat' (first|refine qU ?_|refine zc ?_ ?_|(intro h;first|(cases h;done)|rw[h]|skip)|refine jT ?_ (hq:=h3) (hok:=by exact⟨_,_,Z,Z,Z⟩)|refine jT ?_ (hq:=h4) (hok:=by exact⟨_,_,Z,Z,Z⟩)|refine uC Z h1 ?_|refine uC Z N ?_|refine uC Z O ?_|refine uC Z h6 ?_|refine uC Z h8 ?_)
   all_goals (first|exact Wk.refl _|(show Wk (.bool (_ != _)) _;rw[G];exact Wk.refl _))
def Cj(a b c d:Int)(n:Nd)(_:Ta n)(E:bZ n<=8589934593)(s:L Ty)(_:Ew s)(V:bg s<=8589934593)(l:L Vl)(_:IB l)(B:aK l<=25000000)(g:Int)(p : -9223372036854775808<=g/\g<=9223372036854775807) :
  aj 11 [.agg [.int .i64 a,.int .i64 b,.int .i64 c,.int .i64 d],aY n,.sl 2 (au s),.sl 7 (aa l),.int .i64 g] (.bool true):=DC a b c d n E s V l B g p.1 p.2
end Go.Proofs
namespace Go.Proofs
open Go.cM Go.ChangeShapes Go.WideShapes Go.ChangeAt Go.RowKit
def tO{H:Type}:∀(l:L (DataW H)),(l.map YtdnpapgijbhofaaGreatDoor.Rows.uptoBulk).sum=YtdnpapgijbhofaaGreatDoor.Rows.uptoBulkAll l
 |[]=>rfl
 |d::l=>by simp only[Zl,List.sum_cons,YtdnpapgijbhofaaGreatDoor.Rows.uptoBulkAll,tO l]
def jr{H:Type}:vY (H:=H) YtdnpapgijbhofaaGreatDoor.Rows.uptoBulk where
 lit:=λl=>by cases l<;>simp[YtdnpapgijbhofaaGreatDoor.Rows.uptoBulk]
 str:=λs=>by simp[YtdnpapgijbhofaaGreatDoor.Rows.uptoBulk]
 nil:=by simp[YtdnpapgijbhofaaGreatDoor.Rows.uptoBulk]
 slice:=λl r=>by rw[tO];simp only[YtdnpapgijbhofaaGreatDoor.Rows.uptoBulk];omega
 agg:=λl=>by rw[tO];simp only[YtdnpapgijbhofaaGreatDoor.Rows.uptoBulk];omega
def XB:CV->Nat->Prop:=λc m=>∃t:Ty,c=er t/\XC t/\bw t<=m
def XD:CV->Nat->Prop:=λc m=>∃t:Nd,c=aY t/\Ta t/\bZ t<=m
def YB:CV->Nat->Prop:=λc m=>∃t:Vl,c=bO t/\XE t/\aO t<=m
def xI:∀{rows:L CV}{m:Nat},tv XB rows m->∃l:L Ty,rows=au l/\Ew l/\bg l<=m
 |[],m,_=>⟨[],Z,trivial,by simp[bg]⟩
 |r::rows,m,⟨k,m',⟨t,h1,h2,K⟩,h4,h5⟩=>by
  obtain⟨l,C,Q,V⟩:=xI h4;exact⟨t::l,by rw[h1,C];rfl,⟨h2,Q⟩,by simp only[bg];omega⟩
def Cp:∀{rows:L CV}{m:Nat},tv XD rows m->∃l:L Nd,rows=aG l/\Mk l/\aS l<=m
 |[],m,_=>⟨[],Z,trivial,by simp[aS]⟩
 |r::rows,m,⟨k,m',⟨t,h1,h2,K⟩,h4,h5⟩=>by
  obtain⟨l,C,Q,V⟩:=Cp h4;exact⟨t::l,by rw[h1,C];rfl,⟨h2,Q⟩,by simp only[aS];omega⟩
def Cq:∀{rows:L CV}{m:Nat},tv YB rows m->∃l:L Vl,rows=aa l/\IB l/\aK l<=m
 |[],m,_=>⟨[],Z,trivial,by simp[aK]⟩
 |r::rows,m,⟨k,m',⟨t,h1,h2,K⟩,h4,h5⟩=>by
  obtain⟨l,C,Q,V⟩:=Cq h4;exact⟨t::l,by rw[h1,C];rfl,⟨h2,Q⟩,by simp only[aK];omega⟩
abbrev Cr:CV->Nat->Prop:=λc k=>∃z,c = .int .i64 z/\(Lit.int .i64 z).wf=true/\1<=k
abbrev XF:CV->Nat->Prop:=λc k=>∃s,c = .str s/\s.length+1<=k
abbrev Uc(s:Nat)(R:CV->Nat->Prop):CV->Nat->Prop:=λc k=>∃rows,c = .sl s rows/\∃Y,tv R rows Y/\Y+1<=k
def fz:Tryz.prog.cellsOf 3=1:=by kernel_rfl
def oa:Tryz.prog.cellsOf 9=1:=by kernel_rfl
def zd:Tryz.prog.cellsOf 23=1:=by kernel_rfl
def Ex:Tryz.prog.cellsOf 26=1:=by kernel_rfl
def zf:Tryz.prog.cellsOf 27=1:=by kernel_rfl
def xJ:Tryz.prog.cellsOf 25=2:=by kernel_rfl
def Cs:Tryz.prog.cellsOf 47=5:=by kernel_rfl
def Ct:Tryz.prog.cellsOf 29=7:=by kernel_rfl
section
variable {H : Type}{enc : TypeId × Value -> H}{W : World}
def KT{m e t s:Nat}{R:CV->Nat->Prop}(N:Tryz.prog.underlying t=some (.slice e))(V:Tryz.prog.cellsOf e=s)(p:0<s)(h:∀k,k<m->RD enc Tryz.prog W YtdnpapgijbhofaaGreatDoor.Rows.uptoBulk k e R) :
  RD (H:=H) enc Tryz.prog W YtdnpapgijbhofaaGreatDoor.Rows.uptoBulk m t (Uc s R):=by
 cases m with
 |zero=>exact RD.zero
 |succ k=>exact RD.slice jr N V p (h k bn)
def Vv:∀(n m:Nat),m<=n->RD (H:=H) enc Tryz.prog W YtdnpapgijbhofaaGreatDoor.Rows.uptoBulk m 25 XB
 |0,m,hm=>by(obtain rfl:m=0:=by omega);exact RD.zero
 |n+1,0,_=>RD.zero
 |n+1,m+1,hm=>by
  refine RD.mono (RD.struct jr Tryz.underlying25 Z (Rs:=[Cr,Uc 2 XB]) (λk U=>?_) ?_) (aav _) ?_
  ·exact⟨_,_,Z,Z,RD.int jr Tryz.underlying3,_,_,Z,WG,KT Tryz.underlying23 xJ cc (λq hq=>Vv n q bn),Z⟩
  ·simp only[List.map,j8,fz,zd,xJ]
  ·rintro c k ⟨l,rfl,T,Y,D⟩;obtain⟨S,u,C,B,rfl,⟨z,rfl,K,_⟩,⟨c2,k2,l2,m2,rfl,⟨rows,rfl,P,E,O⟩,rfl,h4⟩,h5⟩:=Y;obtain⟨V,rfl,Q,N⟩:=xI E;exact⟨.mk z V,Z,⟨bounds_i64 K,Q⟩,by simp only[bw];omega⟩
def Vw:∀(n m:Nat),m<=n->RD (H:=H) enc Tryz.prog W YtdnpapgijbhofaaGreatDoor.Rows.uptoBulk m 47 XD
 |0,m,hm=>by(obtain rfl:m=0:=by omega);exact RD.zero
 |n+1,0,_=>RD.zero
 |n+1,m+1,hm=>by
  refine RD.mono (RD.struct jr Tryz.underlying47 Z (Rs:=[Cr,Cr,Cr,XF,Uc 5 XD]) (λk P=>?_) ?_) (aav _) ?_
  ·exact⟨_,_,Z,Z,RD.int jr Tryz.underlying3,_,_,Z,WG,RD.int jr Tryz.underlying3,_,_,Z,WG,RD.int jr Tryz.underlying3,
    _,_,Z,WG,RD.str jr Tryz.underlying9,_,_,Z,by rw[fz,oa],KT Tryz.underlying26 Cs cc (λq hq=>Vw n q bn),Z⟩
  ·simp only[List.map,j8,fz,oa,Ex,Cs]
  ·rintro c k ⟨l,rfl,O,Y,D⟩;obtain⟨N,u,C,B,rfl,⟨z,rfl,K,_⟩,⟨c2,k2,l2,m2,rfl,⟨V,rfl,U,_⟩,⟨c3,k3,l3,m3,rfl,⟨T,rfl,S,_⟩,⟨c4,k4,l4,m4,rfl,⟨s,rfl,M⟩,⟨c5,k5,l5,m5,rfl,⟨rows,rfl,I,E,G⟩,rfl,h7⟩,h8⟩,h9⟩,h10⟩,h11⟩:=Y;obtain⟨Q,rfl,J,A⟩:=Cp E;exact⟨.mk z V T s Q,Z,⟨bounds_i64 K,bounds_i64 U,bounds_i64 S,J⟩,by simp only[bZ];omega⟩
def XG:∀(n m:Nat),m<=n->RD (H:=H) enc Tryz.prog W YtdnpapgijbhofaaGreatDoor.Rows.uptoBulk m 29 YB
 |0,m,hm=>by(obtain rfl:m=0:=by omega);exact RD.zero
 |n+1,0,_=>RD.zero
 |n+1,m+1,hm=>by
  refine RD.mono (RD.struct jr Tryz.underlying29 Z (Rs:=[Cr,Cr,Cr,XF,Uc 7 YB,Uc 2 XB,Uc 5 XD]) (λk A=>?_) ?_) (aav _) ?_
  ·exact⟨_,_,Z,Z,RD.int jr Tryz.underlying3,_,_,Z,WG,RD.int jr Tryz.underlying3,_,_,Z,WG,RD.int jr Tryz.underlying3,
    _,_,Z,WG,RD.str jr Tryz.underlying9,_,_,Z,by rw[fz,oa],KT Tryz.underlying27 Ct cc (λq hq=>XG n q bn),
    _,_,Z,by rw[fz,oa,zf],KT Tryz.underlying23 xJ cc (λq hq=>Vv q q (aav _)),
    _,_,Z,by rw[fz,oa,zf,zd],KT Tryz.underlying26 Cs cc (λq hq=>Vw q q (aav _)),Z⟩
  ·simp only[List.map,j8,fz,oa,zf,zd,Ex,Ct]
  ·rintro c k ⟨l,rfl,u,T,D⟩
   obtain⟨c1,k1,l1,m1,rfl,⟨z,rfl,K,_⟩,⟨c2,k2,l2,m2,rfl,⟨S,rfl,Q,_⟩,⟨c3,k3,l3,m3,rfl,⟨P,rfl,O,_⟩,⟨c4,k4,l4,m4,rfl,⟨s,rfl,hs⟩,⟨c5,k5,l5,m5,rfl,⟨rows,rfl,m6,E,h6⟩,
    ⟨c6,k6,l6,m7,rfl,⟨N,rfl,m8,M,g6⟩,⟨c7,k7,l7,m9,rfl,⟨J,rfl,I,Y,g7⟩,rfl,g8⟩,g9⟩,h7⟩,h8⟩,h9⟩,h10⟩,h11⟩:=T
   obtain⟨G,rfl,C,e3⟩:=Cq E;obtain⟨V,rfl,p,f3⟩:=xI M;obtain⟨U,rfl,B,q3⟩:=Cp Y;exact⟨.mk z S P s G V U,Z,⟨bounds_i64 K,bounds_i64 Q,bounds_i64 O,C,p,B⟩,by simp only[aO];omega⟩
set_option maxRecDepth 100000 in
def Vr{v:Value}{d:DataW H}{ps:L MemPlace}{b0:Nat}{r:Reach}(hok:Value.okWide Tryz.prog W r b0 47 v)(hd:DataW.Trod enc Tryz.prog W 0 (λ_=>true) true 47 v d ps) :
  ∃a:Nd,Rel (lI W) (aY a) v/\Ta a/\bZ a<=YtdnpapgijbhofaaGreatDoor.Rows.uptoBulk d:=by
 obtain⟨c,h1,h⟩:=sC (R:=XD) Tryz.underlying47 (λn=>Vw n n (aav _)) hd hok (λc k h=>by obtain⟨t,h,_⟩:=h;cases t;exact⟨_,h⟩);obtain⟨a,rfl,h2,h3⟩:=h;exact⟨a,h1,h2,h3⟩
end
end Go.Proofs
namespace Go.Proofs
open Go.cM Go.ChangeShapes Go.WideShapes Go.ChangeAt Go.RowKit
section
variable {H : Type}{enc : TypeId × Value -> H}{W : World}
set_option maxRecDepth 100000 in
def S5{v:Value}{d:DataW H}{ps:L MemPlace}{b0:Nat}{r:Reach}(hok:Value.okWide Tryz.prog W r b0 23 v)(hd:DataW.Trod enc Tryz.prog W 0 (λ_=>true) true 23 v d ps) :
  ∃a:L Ty,Rel (lI W) (.sl 2 (au a)) v/\Ew a/\bg a<=YtdnpapgijbhofaaGreatDoor.Rows.uptoBulk d:=by
 obtain⟨c,h1,h⟩:=pN (R:=Uc 2 XB) Tryz.underlying23 (λn=>KT Tryz.underlying23 xJ cc (λk _=>Vv k k (aav _))) hd hok (λc k h=>by obtain⟨rows,h,_⟩:=h;exact⟨_,_,h⟩);obtain⟨rows,rfl,m',hr,hle⟩:=h;obtain⟨l,rfl,h2,h3⟩:=xI hr;exact⟨l,h1,h2,bn⟩
end
end Go.Proofs
namespace Go.Proofs
open Go.cM Go.ChangeShapes Go.WideShapes Go.ChangeAt Go.RowKit
def N5:Tryz.prog.cellsOf 63=4:=by kernel_rfl
def XH:CV->Nat->Prop:=λc m=>∃x y z t:Int,c = .agg [.int .i64 x,.int .i64 y,.int .i64 z,.int .i64 t]/\1<=m
section
variable {H : Type}{enc : TypeId × Value -> H}{W : World}
set_option maxRecDepth 100000 in
def S6{v:Value}{d:DataW H}{ps:L MemPlace}{b0:Nat}{r:Reach}(hok:Value.okWide Tryz.prog W r b0 27 v)(hd:DataW.Trod enc Tryz.prog W 0 (λ_=>true) true 27 v d ps) :
  ∃a:L Vl,Rel (lI W) (.sl 7 (aa a)) v/\IB a/\aK a<=YtdnpapgijbhofaaGreatDoor.Rows.uptoBulk d:=by
 obtain⟨c,h1,h⟩:=pN (R:=Uc 7 YB) Tryz.underlying27 (λn=>KT Tryz.underlying27 Ct cc (λk _=>XG k k (aav _))) hd hok (λc k h=>by obtain⟨rows,h,_⟩:=h;exact⟨_,_,h⟩);obtain⟨rows,rfl,m',hr,hle⟩:=h;obtain⟨l,rfl,h2,h3⟩:=Cq hr;exact⟨l,h1,h2,bn⟩
def XI:∀(m:Nat),RD (H:=H) enc Tryz.prog W YtdnpapgijbhofaaGreatDoor.Rows.uptoBulk m 63 XH
 |0=>RD.zero
 |m+1=>by
  refine RD.mono (RD.struct jr Tryz.underlying63 Z (Rs:=[Cr,Cr,Cr,Cr]) (λk Q=>?_) ?_) (aav _) ?_
  ·exact⟨_,_,Z,Z,RD.int jr Tryz.underlying3,_,_,Z,WG,RD.int jr Tryz.underlying3,_,_,Z,WG,RD.int jr Tryz.underlying3,_,_,Z,WG,RD.int jr Tryz.underlying3,Z⟩
  ·simp only[List.map,j8,fz,N5]
  ·rintro c k ⟨l,rfl,P,Y,D⟩;obtain⟨O,u,C,B,rfl,⟨z,rfl,K,_⟩,⟨c2,k2,l2,m2,rfl,⟨V,rfl,N,_⟩,⟨c3,k3,l3,m3,rfl,⟨U,rfl,M,_⟩,⟨c4,k4,l4,m4,rfl,⟨T,rfl,S,_⟩,rfl,h7⟩,h8⟩,h9⟩,h10⟩:=Y;exact⟨z,V,U,T,Z,bn⟩
set_option maxRecDepth 100000 in
def S4{v:Value}{d:DataW H}{ps:L MemPlace}{b0:Nat}{r:Reach}(hok:Value.okWide Tryz.prog W r b0 63 v)(hd:DataW.Trod enc Tryz.prog W 0 (λ_=>true) true 63 v d ps) :
  ∃x y z t:Int,Rel (lI W) (.agg [.int .i64 x,.int .i64 y,.int .i64 z,.int .i64 t]) v:=by
 obtain⟨c,h1,h⟩:=sC (R:=XH) Tryz.underlying63 (λn=>XI n) hd hok (λc k h=>by obtain⟨x,y,z,t,h,_⟩:=h;exact⟨_,h⟩);obtain⟨x,y,z,t,rfl,_⟩:=h;exact⟨x,y,z,t,h1⟩
end
end Go.Proofs
