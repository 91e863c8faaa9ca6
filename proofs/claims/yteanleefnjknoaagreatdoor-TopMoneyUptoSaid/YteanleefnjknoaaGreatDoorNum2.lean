/- What the small functions of package run answer: -/
import Derived.Test.YteanleefnjknoaaGreatDoorRun4
import Derived.Test.YteanleefnjknoaaGreatDoorChk3
import Derived.Test.YteanleefnjknoaaGreatDoorVal4
import Derived.Test.YteanleefnjknoaaGreatDoorFits
import Derived.Test.YteanleefnjknoaaGreatDoorVal2
set_option maxRecDepth 100000
open Go.IntKind
open Go.Proofs.Tryz
set_option linter.defProp false
set_option maxHeartbeats 0
set_option linter.unusedVariables false
set_option linter.unusedSimpArgs false
namespace Go.Proofs
open Go.cK
attribute [local irreducible] AK af bg cn cP
def cR(k n:Int):ah 123 [ag k,ag n] (bH (aQ k n)):=by
 refine qn func123 call123 λβ hf=>?_;exact dq
def kj(b:Bool):ah 132 [.bool b] (bH (iZ b)):=by
 have h1:=cR 2 1;have Q:=cR 2 0;cases b
 ·refine qn func132 call132 λβ hf=>?_;exact dq
 ·refine qn func132 call132 λβ hf=>?_;exact dq
def gv(l:L Vl):ah 122 [.sl 7 (aa l)] (bH (cG l)):=by
 refine qn func122 call122 λβ hf=>?_;exact dq
def ja(a b:Vl):ah 121 [bH a,bH b] (bH (bA a b)):=by
 obtain⟨J,W,U,P,Y,D,M⟩:=a;obtain⟨A,q,a2,T,u,V,G⟩:=b;refine qn func121 call121 λβ hf=>?_;exact dq
def lP(p:Int)(h:40<=p/\p<=95):ah 90 [ag p] (ag (cr p:Nat)):=by
 have Y:p=40\/p=41\/p=42\/p=43\/p=44\/p=45\/p=46\/p=47\/p=48\/p=49\/p=50\/p=51\/p=52\/p=53\/p=54\/p=55\/p=56\/p=57\/p=58\/p=59\/p=60\/p=61\/p=62\/p=63\/p=64\/p=65\/p=66\/p=67\/p=68\/p=69\/p=70\/p=71\/p=72\/p=73\/p=74\/p=75\/p=76\/p=77\/p=78\/p=79\/p=80\/p=81\/p=82\/p=83\/p=84\/p=85\/p=86\/p=87\/p=88\/p=89\/p=90\/p=91\/p=92\/p=93\/p=94\/p=95:=by omega
 clear h;rcases Y with rfl|rfl|rfl|rfl|rfl|rfl|rfl|rfl|rfl|rfl|rfl|rfl|rfl|rfl|rfl|rfl|rfl|rfl|rfl|rfl|rfl|rfl|rfl|rfl|rfl|rfl|rfl|rfl|rfl|rfl|rfl|rfl|rfl|rfl|rfl|rfl|rfl|rfl|rfl|rfl|rfl|rfl|rfl|rfl|rfl|rfl|rfl|rfl|rfl|rfl|rfl|rfl|rfl|rfl|rfl|rfl
 all_goals
  first
  |(refine bg.of func90 rfl (λJ w=>call90 J w) (aep Z) [(0,.c (ag _))] Z λβ W=>?_;have hf:=func90;exact dq)
def nR(p a b:Int):ah 126 [ag p,ag a,ag b] (ag (ofM p a b)):=by
 refine qn func126 call126 λβ hf=>?_
 repeat' (first|refine sz ?_|refine zc ?_ ?_|(intro h;first|(cases h;done)|rw[h]|skip))
 all_goals (show(_:CV)=_;clear hf;unfold ofM;simp_all)
end Go.Proofs
namespace Go.Proofs
open Go.cK
def cP.adZ{P:Program}{X:Ctx}{f:FuncId}{Y M:L (Nat×L AV)}{J C:L AV}{r:AV}(h:∀(g:Gh) vs,bJ g C vs->bJ g J vs)(hq:cP P X f Y J r M):cP P X f Y C r M :=
 ⟨hq.1,λg w vs K G I=>hq.2 g w vs K G (h g vs I)⟩
def agx{s t:Nat}{g:Gh}{u:Value}(h:aL g (.c (.sl s [])) u):aL g (.c (.sl t [])) u:=by
 simp only[aL,Rel]at h ⊢;obtain⟨base,G,V,h1,h2,Y,_⟩:=h;exact⟨base,G,V,h1,h2,Y,.inl trivial⟩
def iC(S:ct)(code:L Nd)(fin:Int)(E:S.fr.length<=1099511627776):cJ 56 S [.c (.sl 5 (aH code)),.c (ag fin),.c (.sl 0 [])] .undef (dX S code fin []) :=
 cP.adZ (λg vs h=>by
  simp only[bJ]at h ⊢;obtain⟨Y,_,rfl,h1,W,_,rfl,h2,V,_,rfl,U,T,_,rfl,Q,rfl⟩:=h
  exact⟨Y,_,Z,h1,W,_,Z,h2,V,_,Z,U,T,_,Z,agx Q,Z⟩) (xm S code fin [] E)
def fQ:ah 122 [.sl 0 []] (bH (cG [])) :=
 bg.wk (by simp only[Af];exact⟨aaG,trivial⟩) (Wk.refl _) (gv [])
def aab{st:L Vl}{k:Nat}{v:Vl}(h:st[k]?=some v):st.reverse[st.length-1-k]?=some v:=by
 obtain⟨h1,h2⟩:=List.getElem?_eq_some_iff.1 h;rw[List.getElem?_reverse bn];rw[show st.length-1-(st.length-1-k)=k from by omega];exact h
def WM{l:L Vl}{i:Nat}{v:Vl}(h:l[i]?=some v):lV l i=v:=by
 unfold lV;rw[afa,h];rfl
def vE{T:AV->AV->Prop}(V:∀a,T a a):∀l:L AV,Rz T l l
 |[]=>trivial
 |a::l=>⟨V a,vE V l⟩
def ad0{a b:Nat}(h:a≠b):(!Nat.beq a b)=true:=by
 cases e:Nat.beq a b with
 |false=>rfl
 |true=>exact absurd (beq_true e) h
def D3{f:FuncId}{n:Nat}{β:jZ}{R:Ending->World->Prop}{K:L Item}{env:Env}(S:ct){a b:Nat}{us:L Nat}{bs:L (Nat×L AV)}{U T P:L AV}(Q:an 1000000 bs=some U)(D:U=mC S a b)(h1:an a bs=some T)(q1:T=ak (sR S.st))(h2:an b bs=some P)(O:P=ak (fR S.fr))(N:Go.cK.distinct [1000000,a,b]=true)(Y:L (Nat×L AV))(W:∀g:Nat,PtB (UE a 7 (sR S.st)) bs Y)(V:(Y.all λp => !Nat.beq p.1 a)=true){env':Env}{ts ts':L (Nat×Nat)}(B:PtE (UE a 7 (sR S.st)) env env')(I:MY ts ts')
  (h:Av f n β R K env' ⟨(1000000,OJ S 0 b)::(b,ak (fR S.fr))::Y,ts',us⟩):Av f n β R K env ⟨bs,ts,us⟩:=by
 subst D q1 O;obtain⟨M,q,n3⟩:=Cl N;have C:∀x,UE a 7 (sR S.st) x x:=λ_ => .inl Z;refine AK.AI a 7 (sR S.st) (tail:=[]) (bs':=(1000000,OJ S 0 b)::(b,ak (fR S.fr))::Y) h1 (aec _).symm (gZ _) B ⟨⟨_,Q,⟨C _,C _,C _,C _,.inr ⟨_,Z,(jC _).symm,Z⟩,vE C _⟩⟩,⟨_,h2,vE C _⟩,W 0⟩ ?_ I h;simp only[aeL,V,afl,ad0 M,ad0 (Ne.symm n3)]
attribute [local irreducible] AK af bg cn cP dP nI
def TG(S:ct)(Y:Int)(T:L UInt8)(l:L Vl):cJ 91 S [.c (aW (.mk 2 Y 40 T [])),.c (.sl 7 (aa l))] (ag 0) S:=by
 refine mn func91 call91 λβ hf=>?_;exact dm
def TH(S:ct)(W:Int)(T:L UInt8)(a b:Vl)(ha:aM a<=8589934593)(Q:aM b<=8589934593)(E:S.st.length<=1000000000):je 91 S [.c (aW (.mk 2 W 42 T [])),.c (.sl 7 (aa [a,b]))] (bq S [a,b]):=by
 have V:=rF S [a,b] (by intro v M;simp at M;rcases M with rfl|rfl<;>assumption) cS Rl;obtain⟨J,U,P,O,Y,D,N⟩:=a;obtain⟨A,q,a2,K,u,I,G⟩:=b;refine mn func91 call91 λβ hf=>?_;exact dm
def WN(S:ct)(V:Int)(T:L UInt8)(k:Nat)(U:Int)(A:L UInt8)(Q:L Nd)(l:L Vl)(v:Vl)(I:1<=k)(M:S.st[k-1]?=some v)(G:aM v<=8589934593)(E:S.st.length<=1000000000) :
  je 91 S [.c (aW (.mk 2 V 41 T [.mk 0 (k:Nat) U A Q])),.c (.sl 7 (aa l))] (bq S [v]):=by
 have P:=rF S [v] (by intro x O;simp at O;subst O;exact G) cS Rl;have N:=aab M;have J:k-1<S.st.length:=(List.getElem?_eq_some_iff.1 M).1;obtain⟨u,H,D,C,Y,B,q⟩:=v;have K:i64.wrap (((S.st.length:Nat):Int)-(k:Nat))=((S.st.length-1-(k-1):Nat):Int):=by rw[iy bn bn];omega
 have p:decide (((k:Nat):Int)<1)=false:=aap bn;have yl:decide (i64.wrap (((S.st.length:Nat):Int)-(k:Nat))<0)=false:=by rw[K];exact aap bn
 have W:=FV N;refine mn func91 call91 λβ hf=>?_
 repeat' (first|refine om ?_|refine zc ?_ ?_|(intro h;first|(cases h;done)|rw[h]|skip)|refine uI Z (0) Z (Z) Z ?_|refine af.jV hX kn Z Z Z Z Z Z Z Z Z (S.st.length-1-(k-1)) K bn ?_|refine af.dD hX kn Z Z Z Z Z Z W Z ?_|refine ve ?_ (hq:=P)|(refine uA Z ?_ ?_<;>(try (show(_:Nat)*_<=_;dsimp only))))
 all_goals rfl
def WO{st:L Vl}{k:Nat}{v:Vl}(M:st[k]?=some v):sR (st.take k++st.drop (k+1))=aa (st.reverse.take (st.length-1-k)++st.reverse.drop (st.length-1-k+1)):=by
 have p:k<st.length:=(List.getElem?_eq_some_iff.1 M).1;have I:st.length-(st.length-1-k)=k+1:=by omega
 have W:st.length-(st.length-1-k+1)=k:=by omega
 rw[sR,ahh,List.take_reverse,List.drop_reverse,I,W]
def WQ(S:ct)(U:Int)(T:L UInt8)(k:Nat)(Q:Int)(A:L UInt8)(P:L Nd)(l:L Vl)(v:Vl)(M:S.st[k]?=some v)(hl:S.st.length<=1000000000) :
  cJ 91 S [.c (aW (.mk 2 U 43 T [.mk 0 (k:Nat) Q A P])),.c (.sl 7 (aa l))] (ag 0) {S with st:=v::(S.st.take k++S.st.drop (k+1))}:=by
 have J:=aab M;have p:k<S.st.length:=(List.getElem?_eq_some_iff.1 M).1;have K:i64.wrap ((((sR S.st).length:Nat):Int)-(k:Nat))=((S.st.length-1-k+1:Nat):Int):=by rw[jC];rw[iy bn bn];omega
 have W:i64.wrap (i64.wrap ((((sR S.st).length:Nat):Int)-(k:Nat))-1)=((S.st.length-1-k:Nat):Int):=by rw[K,iy bn bn];omega
 have I:decide (((k:Nat):Int)<0)=false:=aap bn;have H:decide (i64.wrap ((((sR S.st).length:Nat):Int)-(k:Nat))<1)=false:=by rw[K];exact aap bn
 have G:(bif decide (((k:Nat):Int)<0)then true else decide (i64.wrap ((((sR S.st).length:Nat):Int)-(k:Nat))<1))=false:=by rw[I,H];rfl
 have O:=sv S.st.reverse (S.st.length-1-k) aa3 aa3;rw[<- WO M]at O;have V:(aa S.st.reverse)[S.st.length-1-k]?=some (bH v):=by rw[kK,J];rfl
 obtain⟨x,q,hq⟩:∃x q,S.st.reverse=x::q:=by
  cases h:S.st.reverse with
  |nil=>have:=aeb List.length h;simp at this;rw[this]at p;simp at p
  |cons x q=>exact⟨x,q,Z⟩
 have N:=fS x q abz;rw[<- hq]at N;have E:(AV.gS 1000000 0 7 S.st.reverse.length::List.map AV.c [CV.int IntKind.i64 ((S.st.length-1-k:Nat):Int),CV.int IntKind.i64 ((S.st.length-1-k+1:Nat):Int)]) = .gS 1000000 0 7 (q.length+1)::[CV.int IntKind.i64 (i64.wrap (i64.wrap ((((sR S.st).length:Nat):Int)-(k:Nat))-1)),CV.int IntKind.i64 (i64.wrap ((((sR S.st).length:Nat):Int)-(k:Nat)))].map AV.c:=by
  rw[W,K,hq];rfl
 obtain⟨u,D,C,B,Y,aj,aB⟩:=v;refine mn func91 call91 λβ hf=>?_;refine D3 S Z Z Z Z Z Z Z [] (λ_=>trivial) Z (env':=[(0,.ptr 1000000 0),(1,.c (aW (.mk 2 U 43 T [.mk 0 (k:Nat) Q A P]))),(2,.c (.sl 7 (aa l)))]) (ts':=[]) ce trivial ?_
 repeat' (first|refine om ?_|refine zc ?_ ?_|(intro h;first|(cases h;done)|rw[h]|skip)|refine uI Z (0) Z (Z) Z ?_|refine uI Z (S.st.length-1-k) W V Z ?_|refine af.mq kn Z Z Z Z Z Z N Z ?_|refine af.sQ kn Z Z Z Z Z Z Z Z Z O E Z ?_|refine af.mR hX kn Z Z Z Z Z Z Z Z Z Z Z Z Z Z Z (sR (S.st.take k++S.st.drop (k+1))) [] (aec _).symm Z (by rw[jC];exact vf _) Z Z Z Z Z Z Z (show((sR (S.st.take k++S.st.drop (k+1))).length+1)*112<=_ by rw[jC,aaz,aeD,aeI];omega) (Kh (.mk u D C B Y aj aB) _).symm (jC _) Z ?_|(refine uA Z ?_ ?_<;>(try (show(_:Nat)*_<=_;dsimp only))))
 all_goals rfl
end Go.Proofs
namespace Go.Proofs
open Go.cK
attribute [local irreducible] AK af bg cn cP dP nI
def kL(s:Nat):qE 40 [] [.c (.sl s [])] (.own .exact 7 []) []:=by
 refine cP.of func40 Z (λJ w=>call40 J w) (aep Z) [(0,.c (.sl s []))] ⟨[],[],[]⟩ Z Z λβ=>?_;have hf:=func40
 repeat' (first|refine om ?_|refine zc ?_ ?_|(intro h;first|(cases h;done)|rw[h]|skip)|refine AK.qA Z ?_ ?_|refine af.Kg hX kn Z Z Z Z Z Z Z Z Z Z Z Z Z ?_|(refine uA Z ?_ ?_<;>(try (show(_:Nat)*_<=_;dsimp only))))
 ·refine AK.weak Em Em.rel Em.one (env':=[(2,.own .exact 7 [])]) (bs':=[]) (ts':=[]) ⟨⟨_,Z,.inr ⟨_,_,Z,Z⟩⟩,trivial⟩ trivial trivial ?_;exact adR
 ·exact adR
def FW(x:Vl):qE 120 [] [.own .exact 7 [],.c (ag 0),.c (.sl 7 (aa [x]))] (.gS 999999 0 7 1) [(999999,ak (aa [x]))]:=by
 obtain⟨u,W,U,P,Y,D,M⟩:=x;refine cP.of func120 Z (λJ w=>call120 J w) (aep Z) [(0,.own .exact 7 []),(1,.c (ag 0)),(2,.c (.sl 7 (aa [.mk u W U P Y D M])))] ⟨[],[],[]⟩ Z Z λβ=>?_;have hf:=func120
 repeat' (first|refine om ?_|refine zc ?_ ?_|(intro h;first|(cases h;done)|rw[h]|skip)|refine AK.qA rfl ?_ ?_|refine af.uu hX kn rfl rfl rfl rfl rfl rfl rfl rfl rfl rfl rfl rfl rfl rfl rfl rfl rfl rfl (λh=>by cases h) rfl rfl rfl (show(0+1)*112<=140737488355328 by decide) rfl (m:=1) rfl ?_|(refine uA rfl ?_ ?_<;>(try (show(_:Nat)*_<=_;dsimp only))))
 exact AK.yK hX hf Z [(999999,25)] Z ⟨_,Z,Z⟩ ⟨⟨_,_,Z,Z,cN _⟩,trivial⟩
def WR(st:L Vl)(k:Nat)(v:Vl)(D:k<=st.length):sR (st.take k++v::st.drop k)=aa (st.reverse.take (st.length-k)++v::st.reverse.drop (st.length-k)):=by
 have I:st.length-(st.length-k)=k:=by omega
 rw[sR,ahh,agN,List.take_reverse,List.drop_reverse,I,aeG];rfl
def WS(S:ct)(W:Int)(T:L UInt8)(k:Nat)(V:Int)(A:L UInt8)(P:L Nd)(v:Vl)(D:k<=S.st.length)(hl:S.st.length<=1000000000) :
  cJ 91 S [.c (aW (.mk 2 W 44 T [.mk 0 (k:Nat) V A P])),.c (.sl 7 (aa [v]))] (ag 0) {S with st:=S.st.take k++v::S.st.drop k}:=by
 have B:decide (((k:Nat):Int)<0)=false:=aap bn;by_cases Q:S.st=[]
 ·obtain⟨a,b,c,d,st,fr,g,u,m,U⟩:=S;simp only at Q D hl;subst Q;simp only[aad,Nat.le_zero]at D;subst D;have K:i64.wrap ((((sR []).length:Nat):Int)-(0:Nat))=0:=by decide
  have N:decide (i64.wrap ((((sR []).length:Nat):Int)-(0:Nat))<0)=false:=by rw[K];rfl
  have O:(bif decide (((0:Nat):Int)<0)then true else decide (i64.wrap ((((sR []).length:Nat):Int)-(0:Nat))<0))=false:=by rw[B,N];rfl
  have M:=FW v;obtain⟨J,I,H,G,Y,E,C⟩:=v;refine mn func91 call91 λβ hf=>?_;refine D3 (ct.mk a b c d [] fr g u m U) Z Z Z Z Z Z Z [] (λ_=>trivial) Z (env':=[(0,.ptr 1000000 0),(1,.c (aW (.mk 2 W 44 T [.mk 0 ((0:Nat):Int) V A P]))),(2,.c (.sl 7 (aa [.mk J I H G Y E C])))]) (ts':=[]) ce trivial ?_
  repeat' (first|refine om ?_|refine zc ?_ ?_|(intro h;first|(cases h;done)|rw[h]|skip)|refine uI Z (0) Z (Z) Z ?_|refine af.zU kn Z Z (kL 7) Z Z (λ_=>⟨_,_,Z,.inr Z,Z⟩) Z Z ?_|refine af.WK kn Z Z M Z Z Z Z (λ_=>⟨_,_,Z,Z,_,_,Z,.inl (aeb (λz=>AV.c (.int .i64 z)) K),_,_,Z,.inr Z,Z⟩) ?_|(refine uA Z ?_ ?_<;>(try (show(_:Nat)*_<=_;dsimp only))))
  all_goals rfl
 ·have hne:0<S.st.length:=List.length_pos_iff.2 Q;have K:i64.wrap ((((sR S.st).length:Nat):Int)-(k:Nat))=((S.st.length-k:Nat):Int):=by rw[jC,iy bn bn];omega
  have N:decide (i64.wrap ((((sR S.st).length:Nat):Int)-(k:Nat))<0)=false:=by rw[K];exact aap bn
  have O:(bif decide (((k:Nat):Int)<0)then true else decide (i64.wrap ((((sR S.st).length:Nat):Int)-(k:Nat))<0))=false:=by rw[B,N];rfl
  have p:=xo S.st.reverse v (S.st.length-k) aa3 aa3 aa3;rw[<- WR _ _ _ D,jC]at p;obtain⟨x,q,hq⟩:∃x q,S.st.reverse=x::q:=by
   cases h:S.st.reverse with
   |nil=>exact absurd (List.reverse_eq_nil_iff.1 h) Q
   |cons x q=>exact⟨x,q,Z⟩
  have kZ:=fS x q abz;rw[<- hq]at kZ;have PU:(AV.gS 1000000 0 7 S.st.reverse.length::List.map AV.c [CV.int IntKind.i64 ((S.st.length-k:Nat):Int),CV.sl 7 (aa [v])]) = .gS 1000000 0 7 (q.length+1)::[CV.int IntKind.i64 (i64.wrap ((((sR S.st).length:Nat):Int)-(k:Nat))),CV.sl 7 (aa [v])].map AV.c:=by
   rw[K,hq];rfl
  obtain⟨J,I,H,G,Y,E,C⟩:=v;refine mn func91 call91 λβ hf=>?_;refine D3 S Z Z Z Z Z Z Z [] (λ_=>trivial) Z (env':=[(0,.ptr 1000000 0),(1,.c (aW (.mk 2 W 44 T [.mk 0 (k:Nat) V A P]))),(2,.c (.sl 7 (aa [.mk J I H G Y E C])))]) (ts':=[]) ce trivial ?_
  repeat' (first|refine om ?_|refine zc ?_ ?_|(intro h;first|(cases h;done)|rw[h]|skip)|refine uI Z (0) Z (Z) Z ?_|refine af.mq kn Z Z Z Z Z Z kZ Z ?_|refine af.sQ kn Z Z Z Z Z Z Z Z Z p PU Z ?_|(refine uA Z ?_ ?_<;>(try (show(_:Nat)*_<=_;dsimp only))))
  all_goals rfl
end Go.Proofs
namespace Go.Proofs
open Go.cK
mutual
def C8:∀(n:Nd)(d left:Int)(t:Ty)(m:Int),fZ n d left=(some t,m)->TJ t=n
 |.mk T U p s J,d,left,t,m,h=>by
  simp only[fZ]at h;split at h
  ·simp at h
  ·rename_i A;simp only[not_or,ne_eq,aey]at A;rcases D:eA J (d+1) (left-1)with ⟨b,P⟩
   rw[D]at h;cases b with
   |none=>simp at h
   |some l =>
    simp at h;have:=A7 J (d+1) (left-1) l P D;rw[<- h.1];simp only[TJ,this];rw[A.2.2.1,A.2.2.2.1,A.2.2.2.2.1]
def A7:∀(l:L Nd)(d left:Int)(r:L Ty)(m:Int),eA l d left=(some r,m)->Nm r=l
 |[],d,left,r,m,h=>by simp[eA]at h;rw[h.1];rfl
 |x::l,d,left,r,m,h=>by
  simp only[eA]at h;rcases D:fZ x d left with ⟨b,P⟩
  rw[D]at h;cases b with
  |none=>simp at h
  |some t =>
   simp only at h;rcases Y:eA l d P with ⟨W,V⟩
   rw[Y]at h;cases W with
   |none=>simp at h
   |some q =>
    simp at h;have h1:=C8 x d left t P D;have h2:=A7 l d P q V Y;rw[<- h.1];simp only[Nm,h1,h2]
end
def xq(n:Nd):(∃t,aP n=(t,0)/\bB t=true/\TJ t=n/\bw t<=bM n)\/aP n=(.mk 0 [],1):=by
 simp only[aP];rcases D:fZ n 1 300 with ⟨b,m⟩
 cases b with
 |none=>right;rfl
 |some t =>
  simp only;cases G:bB t
  ·right;rfl
  ·left;exact⟨t,Z,G,C8 n 1 300 t m D,vQ n 1 300 t m D⟩
attribute [local irreducible] AK af bg cn TJ Nm bB lD fY mH gW iT arity aP dh sH ad2 dY
end Go.Proofs
namespace Go.Proofs
open Go.cK
def gr(S:ct)(v:Vl)(Y:aM v<=8589934593)(E:S.st.length<=1000000000):je 118 S [.c (.sl 7 (aa [v]))] (bq S [v]) :=
 rF S [v] (by intro x O;simp at O;subst O;exact Y) cS Rl
def abH(S:ct)(v w:Vl)(Y:aM v<=8589934593)(W:aM w<=8589934593)(E:S.st.length<=1000000000):je 118 S [.c (.sl 7 (aa [v,w]))] (bq S [v,w]) :=
 rF S [v,w] (by intro x O;simp at O;rcases O with rfl|rfl<;>assumption) cS Rl
def FX(x:Nd)(O:bM x<=8589934593):bw (aP x).1<=8589934593:=by
 rcases xq x with ⟨t,h,_,_,S⟩|h
 ·rw[h];exact aeS S O
 ·rw[h];decide
attribute [local irreducible] AK af bg cn cP dP nI aP gD
def PW(S:ct)(W:Int)(A:L UInt8)(x y:Nd)(O:bM x<=8589934593)(Q:bM y<=8589934593)(B:(gD (aP x).1 y).2=0)(V:aM ((gD (aP x).1 y).1)<=8589934593)(E:S.st.length<=1000000000):je 92 S [.c (aW (.mk 2 W 45 A [x,y])),.c (.sl 7 (aa []))] (bq S [(gD (aP x).1 y).1]):=by
 have U:=gr S ((gD (aP x).1 y).1) V E;have hq:=jm x O;have D:bw (aP x).1<=8589934593:=FX x O;have C:=nH (aP x).1 y D Q;rw[B]at C;generalize P:(gD (aP x).1 y).1=w at U C ⊢;clear B;generalize aP x=tp at hq C D;obtain⟨⟨T,us⟩,e⟩:=tp;obtain⟨u,N,M,K,Y,J,I⟩:=w;obtain⟨H,G,q,p,i5⟩:=x;obtain⟨j1,j2,j3,j4,j5⟩:=y;refine mn func92 call92 λβ hf=>?_;exact dm
def PX(S:ct)(W:Int)(T:L UInt8)(a b:Vl)(Q:aM (bA a b)<=8589934593)(E:S.st.length<=1000000000):je 92 S [.c (aW (.mk 2 W 46 T [])),.c (.sl 7 (aa [a,b]))] (bq S [bA a b]):=by
 have V:=gr S (bA a b) Q E;have hq:=ja a b;obtain⟨J,U,P,O,Y,D,M⟩:=a;obtain⟨A,q,a2,N,u,K,G⟩:=b;refine mn func92 call92 λβ hf=>?_;exact dm
def PY(S:ct)(W:Int)(T:L UInt8)(x:Nd)(a:Vl)(Q:aM (.mk 12 (50-50) 0 [] [a] [] [])<=8589934593)(E:S.st.length<=1000000000):je 92 S [.c (aW (.mk 2 W 50 T [x])),.c (.sl 7 (aa [a]))] (bq S [.mk 12 (50-50) 0 [] [a] [] []]):=by
 have V:=gr S (.mk 12 (50-50) 0 [] [a] [] []) Q E;obtain⟨u,U,P,O,Y,J,M⟩:=a;refine mn func92 call92 λβ hf=>?_;exact dm
def PZ(S:ct)(W:Int)(T:L UInt8)(x:Nd)(a:Vl)(Q:aM (.mk 12 (51-50) 0 [] [a] [] [])<=8589934593)(E:S.st.length<=1000000000):je 92 S [.c (aW (.mk 2 W 51 T [x])),.c (.sl 7 (aa [a]))] (bq S [.mk 12 (51-50) 0 [] [a] [] []]):=by
 have V:=gr S (.mk 12 (51-50) 0 [] [a] [] []) Q E;obtain⟨u,U,P,O,Y,J,M⟩:=a;refine mn func92 call92 λβ hf=>?_;exact dm
def P0(S:ct)(W:Int)(T:L UInt8)(a:Vl)(Q:aM (cG [a])<=8589934593)(E:S.st.length<=1000000000):je 92 S [.c (aW (.mk 2 W 53 T [])),.c (.sl 7 (aa [a]))] (bq S [cG [a]]):=by
 have V:=gr S (cG [a]) Q E;have hq:=gv [a];obtain⟨u,U,P,O,Y,J,M⟩:=a;refine mn func92 call92 λβ hf=>?_;exact dm
def P1(S:ct)(Y:Int)(T:L UInt8)(x:Nd)(Q:aM (cG [])<=8589934593)(E:S.st.length<=1000000000):je 92 S [.c (aW (.mk 2 Y 54 T [x])),.c (.sl 7 (aa []))] (bq S [cG []]):=by
 have W:=gr S (cG []) Q E;refine mn func92 call92 λβ hf=>?_;have V:=fQ;exact dm
def TL(S:ct)(Y:Int)(T:L UInt8)(x:Nd)(Q:aM (.mk 10 0 0 [] [] [] [])<=8589934593)(E:S.st.length<=1000000000):je 92 S [.c (aW (.mk 2 Y 56 T [x])),.c (.sl 7 (aa []))] (bq S [.mk 10 0 0 [] [] [] []]):=by
 have W:=gr S (.mk 10 0 0 [] [] [] []) Q E;refine mn func92 call92 λβ hf=>?_;exact dm
def P2(S:ct)(W:Int)(T:L UInt8)(k n c:Int)(s:L UInt8)(a b:Vl)(B:L Ty)(code:L Nd)(Q:aM (b)<=8589934593)(h1:aM (a)<=8589934593)(E:S.st.length<=1000000000):je 92 S [.c (aW (.mk 2 W 47 T [])),.c (.sl 7 (aa [.mk k n c s [a,b] B code]))] (bq S [b,a]):=by
 have V:=abH S (b) (a) Q h1 E;obtain⟨J,U,P,O,Y,D,M⟩:=a;obtain⟨A,q,a2,N,u,K,G⟩:=b;refine mn func92 call92 λβ hf=>?_;exact dm
def P3(S:ct)(W:Int)(T:L UInt8)(k n c:Int)(s:L UInt8)(a b:Vl)(B:L Ty)(code:L Nd)(Q:aM (a)<=8589934593)(E:S.st.length<=1000000000):je 92 S [.c (aW (.mk 2 W 48 T [])),.c (.sl 7 (aa [.mk k n c s [a,b] B code]))] (bq S [a]):=by
 have V:=gr S (a) Q E;obtain⟨J,U,P,O,Y,D,M⟩:=a;obtain⟨A,q,a2,N,u,K,G⟩:=b;refine mn func92 call92 λβ hf=>?_;exact dm
def P4(S:ct)(W:Int)(T:L UInt8)(k n c:Int)(s:L UInt8)(a b:Vl)(B:L Ty)(code:L Nd)(Q:aM (b)<=8589934593)(E:S.st.length<=1000000000):je 92 S [.c (aW (.mk 2 W 49 T [])),.c (.sl 7 (aa [.mk k n c s [a,b] B code]))] (bq S [b]):=by
 have V:=gr S (b) Q E;obtain⟨J,U,P,O,Y,D,M⟩:=a;obtain⟨A,q,a2,N,u,K,G⟩:=b;refine mn func92 call92 λβ hf=>?_;exact dm
end Go.Proofs
namespace Go.Proofs
open Go.cK
def Nn(f:iJ)(t:List iJ)(j:Nat)(Y:j<4)(v:CV):bV (0+t.length*4+j) [.c v] (ak (fR (f::t)))=some (ak (fR t)++(ak [sS f]).set j (.c v)):=by
 have h:=D4 t;have e:(ak (fR t)).length=t.length*4:=by rw[ak,aeA];exact h
 have E:0+t.length*4+j<(ak (fR (f::t))).length:=by rw[mM,aaz,e];show _<_+4;omega
 rw[C7 E,mM,aeq,List.set_append_right _ _ bn,e,Nat.add_sub_cancel_left]
def FY(f:iJ)(t:List iJ)(n:Nat):bV (0+t.length*4+1) [.c (ag (n:Nat))] (ak (fR (f::t)))=some (ak (fR ({f with pos:=n}::t))):=by
 rw[Nn f t 1 bT,mM];rfl
def WT(f:iJ)(t:List iJ)(l:L Vl):bV (0+t.length*4+3) [.c (.sl 7 (aa l))] (ak (fR (f::t)))=some (ak (fR ({f with aside:=l}::t))):=by
 rw[Nn f t 3 bT,mM];rfl
def WU(code:L Nd)(fin:Int)(P:L Vl)(t:List iJ):bV (0+t.length*4+1) [.c (ag ((aH code).length:Nat))] (ak (fR (⟨code,0,fin,P⟩::t)))=some (ak (fR (⟨code,code.length,fin,P⟩::t))):=by
 rw[bt];exact FY _ _ _
attribute [local irreducible] AK af bg cn cP dP nI aP gD
def Hi(S:ct)(V:Int)(T:L UInt8)(U q1:Int)(q:L UInt8)(u:L Nd)(D Q:Int)(J:L UInt8)(H:L Nd)(k c:Int)(s:L UInt8)(B:L Ty)(code:L Nd)(x:Vl)(O:aM x<=8589934593)(E:S.st.length<=1000000000)(Y:S.fr.length<=1099511627776):je 93 S [.c (aW (.mk 2 V 52 T [.mk 3 U q1 q u,.mk 3 D Q J H])),.c (.sl 7 (aa [.mk k 0 c s [x] B code]))] (bq (dX S u 0 []) [x]):=by
 have A:=iC S u 0 Y;have P:=gr (dX S u 0 []) x O E;obtain⟨N,M,K,I,W,G,C⟩:=x;refine mn func93 call93 λβ hf=>?_;exact dm
def Hj(S:ct)(V:Int)(T:L UInt8)(U q1:Int)(q:L UInt8)(u:L Nd)(D Q:Int)(J:L UInt8)(H:L Nd)(k c:Int)(s:L UInt8)(B:L Ty)(code:L Nd)(x:Vl)(O:aM x<=8589934593)(E:S.st.length<=1000000000)(Y:S.fr.length<=1099511627776):je 93 S [.c (aW (.mk 2 V 52 T [.mk 3 U q1 q u,.mk 3 D Q J H])),.c (.sl 7 (aa [.mk k 1 c s [x] B code]))] (bq (dX S H 0 []) [x]):=by
 have A:=iC S H 0 Y;have P:=gr (dX S H 0 []) x O E;obtain⟨N,M,K,I,W,G,C⟩:=x;refine mn func93 call93 λβ hf=>?_;exact dm
def Hl(S:ct)(W:Int)(T:L UInt8)(V q1:Int)(q:L UInt8)(u:L Nd)(D U:Int)(J:L UInt8)(H:L Nd)(k c:Int)(s:L UInt8)(B:L Ty)(code:L Nd)(n:Int)(E:S.st.length<=1000000000)(Y:S.fr.length<=1099511627776):je 93 S [.c (aW (.mk 2 W 55 T [.mk 3 V q1 q u,.mk 3 D U J H])),.c (.sl 7 (aa [.mk k n c s [] B code]))] (bq (dX S u 0 []) []):=by
 have A:=iC S u 0 Y;have Q:=rF (dX S u 0 []) [] (λ_ h=>by simp at h) cS (by show S.st.length+0<=_;omega);refine mn func93 call93 λβ hf=>?_;exact dm
def Ho(S:ct)(V:Int)(T:L UInt8)(U q1:Int)(q:L UInt8)(u:L Nd)(D Q:Int)(J:L UInt8)(H:L Nd)(k c:Int)(s:L UInt8)(B:L Ty)(code:L Nd)(n:Int)(x:Vl)(O:aM x<=8589934593)(E:S.st.length<=1000000000)(Y:S.fr.length<=1099511627776):je 93 S [.c (aW (.mk 2 V 55 T [.mk 3 U q1 q u,.mk 3 D Q J H])),.c (.sl 7 (aa [.mk k n c s [x] B code]))] (bq (dX S H 0 []) [x]):=by
 have A:=iC S H 0 Y;have P:=gr (dX S H 0 []) x O E;obtain⟨N,M,K,I,W,G,C⟩:=x;refine mn func93 call93 λβ hf=>?_;exact dm
def Hp(S:ct)(W:Int)(T:L UInt8)(V q1:Int)(q:L UInt8)(u:L Nd)(D U:Int)(J:L UInt8)(H:L Nd)(k c:Int)(s:L UInt8)(B:L Ty)(code:L Nd)(n:Int)(E:S.st.length<=1000000000)(Y:S.fr.length<=1099511627776):je 93 S [.c (aW (.mk 2 W 58 T [.mk 3 V q1 q u,.mk 3 D U J H])),.c (.sl 7 (aa [.mk k n c s [] B code]))] (((0,dX S H 0 []):MR)):=by
 have A:=iC S H 0 Y;refine mn func93 call93 λβ hf=>?_;exact dm
def Hq(S:ct)(U:Int)(T:L UInt8)(Q q1:Int)(q:L UInt8)(u:L Nd)(D P:Int)(J:L UInt8)(H:L Nd)(k c:Int)(s:L UInt8)(B:L Ty)(code:L Nd)(n:Int)(x:Vl)(xs:L Vl)(O:aM x<=8589934593)(Y:aM (.mk 10 0 0 [] xs [] [])<=8589934593)(E:S.st.length<=1000000000)(W:S.fr.length<=1099511627776):je 93 S [.c (aW (.mk 2 U 58 T [.mk 3 Q q1 q u,.mk 3 D P J H])),.c (.sl 7 (aa [.mk k n c s (x::xs) B code]))] (bq (dX S u 0 []) [.mk 10 0 0 [] xs [] [],x]):=by
 have A:=iC S u 0 W;have N:=abH (dX S u 0 []) (.mk 10 0 0 [] xs [] []) x Y O E;have M:((((aa (x::xs)).length:Nat):Int)==0)=false:=by simp only[aa,aac];exact beq_eq_false_iff_ne.2 bn
 obtain⟨K,I,G,C,V,p,aB⟩:=x;refine mn func93 call93 λβ hf=>?_;exact dm
def Ki(S:ct)(V:Int)(T:L UInt8)(U q1:Int)(q:L UInt8)(u:L Nd)(k c:Int)(s:L UInt8)(B:L Ty)(code:L Nd)(n:Int)(xs:L Vl)(E:S.st.length<=1000000000)(W:S.fr.length<=1099511627776):je 93 S [.c (aW (.mk 2 V 60 T [.mk 3 U q1 q u])),.c (.sl 7 (aa [.mk k n c s xs B code]))] (((0,uG S u 3 xs):MR)):=by
 have A:=xm S u 3 xs W;have N:i64.wrap (((S.fr.length+1:Nat):Int)-1)=(S.fr.length:Nat):=by rw[iy bn bn];omega
 have Y:=WU u 3 xs S.fr;refine mn func93 call93 λβ hf=>?_
 repeat' (first|refine om ?_|refine zc ?_ ?_|(intro h;first|(cases h;done)|rw[h]|skip)|refine uI Z (0) Z (Z) Z ?_|refine ve ?_ (hq:=A)|refine af.jV hX kn Z Z Z Z Z Z Z Z Z S.fr.length N (aeJ _) ?_|refine af.store hX kn Z Z Z Z Z Z Z Z Z Y Z ?_|(refine uA Z ?_ ?_<;>(try (show(_:Nat)*_<=_;dsimp only))))
 all_goals rfl
def No(S:ct)(W:Int)(T:L UInt8)(V q1:Int)(q:L UInt8)(u:L Nd)(D U:Int)(J:L UInt8)(H:L Nd)(k c:Int)(s:L UInt8)(B:L Ty)(code:L Nd)(xs:L Vl)(E:S.st.length<=1000000000)(Y:S.fr.length<=1099511627776):je 93 S [.c (aW (.mk 2 W 64 T [.mk 3 V q1 q u,.mk 3 D U J H])),.c (.sl 7 (aa [.mk k 0 c s xs B code]))] (((0,dX S H 0 []):MR)):=by
 have A:=iC S H 0 Y;refine mn func93 call93 λβ hf=>?_
 repeat' (first|refine om ?_|refine zc ?_ ?_|(intro h;first|(cases h;done)|rw[h]|skip)|refine uI Z (0) Z (Z) Z ?_|refine uI Z 1 Z Z Z ?_|refine ve ?_ (hq:=A)|(refine uA Z ?_ ?_<;>(try (show(_:Nat)*_<=_;dsimp only))))
 all_goals rfl
def Np(S:ct)(W:Int)(T:L UInt8)(V q1:Int)(q:L UInt8)(u:L Nd)(D U:Int)(J:L UInt8)(H:L Nd)(k c:Int)(s:L UInt8)(B:L Ty)(code:L Nd)(xs:L Vl)(E:S.st.length<=1000000000)(Y:S.fr.length<=1099511627776):je 93 S [.c (aW (.mk 2 W 64 T [.mk 3 V q1 q u,.mk 3 D U J H])),.c (.sl 7 (aa [.mk k 1 c s xs B code]))] (((0,dX S u 0 []):MR)):=by
 have A:=iC S u 0 Y;refine mn func93 call93 λβ hf=>?_
 repeat' (first|refine om ?_|refine zc ?_ ?_|(intro h;first|(cases h;done)|rw[h]|skip)|refine uI Z (0) Z (Z) Z ?_|refine uI Z 0 Z Z Z ?_|refine ve ?_ (hq:=A)|(refine uA Z ?_ ?_<;>(try (show(_:Nat)*_<=_;dsimp only))))
 all_goals rfl
def Kj(S:ct)(U:Int)(T:L UInt8)(Q q1:Int)(q:L UInt8)(u:L Nd)(x:Vl)(E:S.st.length<=1000000000)(V:S.fr.length<=1099511627776):je 93 S [.c (aW (.mk 2 U 65 T [.mk 3 Q q1 q u])),.c (.sl 7 (aa [x]))] (((0,{uG S u 4 []with st:=x::S.st}):MR)):=by
 have B:=iC S u 4 V;have N:i64.wrap (((S.fr.length+1:Nat):Int)-1)=(S.fr.length:Nat):=by rw[iy bn bn];omega
 have W:=WU u 4 [] S.fr;obtain⟨J,P,O,M,Y,D,K⟩:=x;have I:=P5 J P O M Y D K S.st;refine mn func93 call93 λβ hf=>?_
 repeat' (first|refine om ?_|refine zc ?_ ?_|(intro h;first|(cases h;done)|rw[h]|skip)|refine uI Z (0) Z (Z) Z ?_|refine ve ?_ (hq:=B)|refine af.jV hX kn Z Z Z Z Z Z Z Z Z S.fr.length N (aeJ _) ?_|refine af.store hX kn Z Z Z Z Z Z Z Z Z W Z ?_|refine af.mR hX kn Z Z Z Z Z Z Z Z Z Z Z Z Z Z Z (sR S.st) [] (aec _).symm (jC _).symm (vf _) Z Z Z Z Z Z Z (show((sR S.st).length+1)*112<=_ by rw[jC];omega) Z (m:=S.st.length+1) (by rw[aaz,jC];rfl) Z ?_|refine af.jV hX kn Z Z Z Z Z Z Z Z Z S.st.length Z (aeJ _) ?_|refine af.store hX kn Z Z Z Z Z Z Z Z Z (I _ Z) Z ?_|(refine uA Z ?_ ?_<;>(try (show(_:Nat)*_<=_;dsimp only))))
 all_goals rfl
def Nq(S:ct)(V:Int)(T:L UInt8)(U q1:Int)(q:L UInt8)(u:L Nd)(x:Vl)(E:S.st.length<=1000000000)(Y:S.fr.length<=1099511627776):je 93 S [.c (aW (.mk 2 V 68 T [.mk 3 U q1 q u])),.c (.sl 7 (aa [x]))] (((0,dX S u 1 [x]):MR)):=by
 have B:=xm S u 1 [x] Y;obtain⟨J,Q,P,O,W,D,M⟩:=x;refine mn func93 call93 λβ hf=>?_;exact dm
def FZ(S:ct)(V:Int)(A:L UInt8)(x y:Nd)(U q1:Int)(q:L UInt8)(u:L Nd)(O:bM x<=8589934593)(Q:bM y<=8589934593)(M:aM (.mk 14 0 0 [] [] [(aP x).1,(aP y).1] u)<=8589934593)(E:S.st.length<=1000000000)(P:S.fr.length<=1099511627776):je 93 S [.c (aW (.mk 2 V 66 A [x,y,.mk 3 U q1 q u])),.c (.sl 7 (aa []))] (bq S [.mk 14 0 0 [] [] [(aP x).1,(aP y).1] u]):=by
 have W:=gr S (.mk 14 0 0 [] [] [(aP x).1,(aP y).1] u) M E;have Y:=jm x O;have N:=jm y Q;clear M;generalize aP x=tp at W Y ⊢;generalize aP y=tq at W N ⊢;obtain⟨⟨T,us⟩,e⟩:=tp;obtain⟨⟨J,K⟩,e2⟩:=tq;obtain⟨I,H,D,G,C⟩:=x;obtain⟨B,p,j3,j4,j5⟩:=y;refine mn func93 call93 λβ hf=>?_;exact dm
def Kk(S:ct)(V:Int)(T:L UInt8)(x:Vl)(k c:Int)(s:L UInt8)(B:L Ty)(code:L Nd)(n:Int)(xs:L Vl)(E:S.st.length<=1000000000)(W:S.fr.length<=1099511627776):je 93 S [.c (aW (.mk 2 V 67 T [])),.c (.sl 7 (aa [x,.mk k n c s xs B code]))] (((0,{dX S code 2 S.st.reverse with st:=[x]}):MR)):=by
 have A:=Kl S code 2 S.st.reverse W;obtain⟨u,U,Q,P,Y,J,M⟩:=x;refine mn func93 call93 λβ hf=>?_;refine D3 S Z Z Z Z Z Z Z [] (λ_=>trivial) Z (env':=[(0,.ptr 1000000 0),(1,.c (aW (.mk 2 V 67 T []))),(2,.c (.sl 7 (aa [.mk u U Q P Y J M,.mk k n c s xs B code])))]) (ts':=[]) ce trivial ?_
 repeat' (first|refine af.jv hX kn Z Z Z Z Z Z Z Z Z Z Z Z Z Z ?_|refine om ?_|refine zc ?_ ?_|(intro h;first|(cases h;done)|rw[h]|skip)|refine uI Z (0) Z (Z) Z ?_|refine uI Z (1) Z (Z) Z ?_|refine abI ?_ (hq:=A)|(refine uA Z ?_ ?_<;>(try (show(_:Nat)*_<=_;dsimp only))))
 all_goals rfl
end Go.Proofs
namespace Go.Proofs
open Go.cK
attribute [local irreducible] AK af bg
def F0{n:Int}(h1:0<=n)(h2:n<=18446744073709551615):IntKind.u64.wrap n=n:=by
 simp[IntKind.wrap,IntKind.bits,IntKind.signed];omega
def P6(x:Int)(Q:0<=x)(h1:x<=18446744073709551615):IntKind.u64.wrap ((BitVec.ofInt (IntKind.bits .u64) x&&&BitVec.ofInt (IntKind.bits .u64) 4294967295).toNat:Nat)=x%4294967296:=by
 have e:((BitVec.ofInt (IntKind.bits .u64) x&&&BitVec.ofInt (IntKind.bits .u64) 4294967295).toNat)=x.toNat%4294967296:=by
  rw[BitVec.toNat_and,BitVec.toNat_ofInt,BitVec.toNat_ofInt];have I:((4294967295:Int)%((2^IntKind.bits .u64:Nat):Int)).toNat=2^32-1:=by decide
  have W:(x%((2^IntKind.bits .u64:Nat):Int)).toNat=x.toNat:=by
   have:((2^IntKind.bits .u64:Nat):Int)=18446744073709551616:=by decide
   rw[this,Int.emod_eq_of_lt Q bn]
  rw[I,W,ahq]
 rw[e,F0 bn bn];omega
def ad3(V W U Y:Int)(h:0<=Y):V+(W+Y/4294967296)/4294967296+((W+Y/4294967296)%4294967296+U)/4294967296=(V*18446744073709551616+(W+U)*4294967296+Y)/18446744073709551616:=by omega
def Zi(U N S E:Int):(U*4294967296+N)*(S*4294967296+E)=(U*S)*18446744073709551616+(U*E+N*S)*4294967296+N*E:=by
 simp only[Int.add_mul,Int.mul_add];have I:U*4294967296*(S*4294967296)=U*S*18446744073709551616:=by
  rw[<- ahy,Int.mul_right_comm U 4294967296 S,ahy];rfl
 rw[Int.mul_right_comm U 4294967296 E,I,<- ahy N S];omega
def pH{a b c d:Int}(h1:0<=a)(h2:a<=c)(V:0<=b)(S:b<=d):0<=a*b/\a*b<=c*d :=
 ⟨Int.mul_nonneg h1 V,Int.mul_le_mul h2 S V bn⟩
def Nr(x y:Int)(q:0<=x/\x<=1152921504606846976)(p:0<=y/\y<=1152921504606846976) :
  ah 151 [.int .u64 x,.int .u64 y] (.eY [.int .u64 (x*y/18446744073709551616),.int .u64 (x*y%18446744073709551616)]):=by
 refine qn func151 call151 λβ hf=>?_;refine dn ?_;have Y:∀n:Int,n.fdiv (2^min 32 (IntKind.bits .u64))=n/4294967296:=λn=>by
  rw[show(2:Int)^(min 32 (IntKind.bits .u64))=4294967296 from by decide];exact agF n bT
 have K:∀n:Int,IntKind.u64.wrap n=n%18446744073709551616:=λn=>by simp[IntKind.wrap,IntKind.bits,IntKind.signed]
 simp only[Y,P6 x bn bn,P6 y bn bn];obtain⟨U,N,J,W,h1,h2,Q,P,I⟩:∃U N:Int,x/4294967296=U/\x%4294967296=N/\0<=U/\U<=268435456/\0<=N/\N<=4294967295/\x=U*4294967296+N:=⟨_,_,rfl,rfl,bn,bn,bn,bn,bn⟩
 obtain⟨S,E,G,V,g1,H,O,B,D⟩:∃S E:Int,y/4294967296=S/\y%4294967296=E/\0<=S/\S<=268435456/\0<=E/\E<=4294967295/\y=S*4294967296+E:=⟨_,_,rfl,rfl,bn,bn,bn,bn,bn⟩
 rw[K (x*y)];rw[J,W,G,V];have e:=Zi U N S E;rw[<- I,<- D]at e;have C:=pH h1 h2 g1 H;have A:=pH h1 h2 O B;have u:=pH Q P g1 H;have T:=pH Q P O B;have M:=ad3 (U*S) (U*E) (N*S) (N*E) T.1;rw[<- e]at M;rw[<- M];generalize U*S=p11 at *;generalize U*E=p10 at *;generalize N*S=p01 at *;generalize N*E=p00 at *;rw[F0 (n:=p00) bn bn,F0 (n:=p10) bn bn,F0 (n:=p01) bn bn,F0 (n:=p11) bn bn];rw[F0 (n:=p10+p00/4294967296) bn bn,P6 _ bn bn];rw[F0 (n:=p11+_) bn bn,F0 (n:=(p10+p00/4294967296)%4294967296+p01) bn bn,F0 bn bn]
def ym(a:Int):0<=(oz a).1/\(oz a).1<=1152921504606846976:=by
 unfold oz;split
 ·rename_i h;have:=mS.1 h;dsimp only;split<;>omega
 ·simp
def aae(a:Int):0<=IntKind.u64.wrap (oz a).1/\IntKind.u64.wrap (oz a).1<=1152921504606846976:=by
 have:=ym a;rw[F0 bn bn];exact this
def WW(a:Int):IntKind.u64.wrap (oz a).1=(oz a).1:=by
 have:=ym a;exact F0 bn bn
def WX(a:Int):((oz a).2 != 0) = !vO a:=by
 unfold oz;split
 ·rename_i h;simp[h]
 ·rename_i h;simp[h]
def WY(a b:Int)(ha:vO a=true)(Q:vO b=true):((!(decide (a<0)==decide (b<0)))=false->(oz a).1*(oz b).1=a*b)/\((!(decide (a<0)==decide (b<0)))=true->(oz a).1*(oz b).1 = -(a*b)):=by
 by_cases h1:a<0<;>by_cases h2:b<0<;>simp[oz,ha,Q,h1,h2,Int.neg_mul_neg,Int.neg_mul,Int.mul_neg]
def IL(a b:Int):ah 128 [.int .i64 a,.int .i64 b] (two (sU a b)):=by
 refine qn func128 call128 λβ hf=>?_
 repeat' (first|refine sz ?_|refine zc ?_ ?_|(intro h;first|(cases h;done)|rw[h]|skip)|refine uC Z (Cm a) ?_|refine uC Z (Cm b) ?_|refine uC Z (Nr _ _ (aae _) (aae _)) ?_)
 all_goals simp only[WX,WW]at *
 ·simp_all [sU,two]
 ·simp_all [sU,two]
 all_goals
  obtain⟨h1,h2⟩:vO a=true/\vO b=true:=by simp_all
  obtain⟨U,p⟩:=WY a b h1 h2;have W:=pH (ym a).1 (ym a).2 (ym b).1 (ym b).2;rw[show sU a b=mB (a*b)from by simp[sU,h1,h2]];generalize (oz a).1*(oz b).1=q at *;generalize a*b=r at *
 ·have V:q/18446744073709551616≠0:=by simp_all
  have S:¬(vO r=true):=by rw[mS];cases Y:(!(decide (a<0)==decide (b<0)))<;>simp only[Y,true_implies,reduceCtorEq,false_implies]at U p<;>omega
  simp[mB,S,two]
 ·have V:q/18446744073709551616=0:=by simp_all
  have K:q%18446744073709551616>1152921504606846976:=by simp_all
  have S:¬(vO r=true):=by rw[mS];cases Y:(!(decide (a<0)==decide (b<0)))<;>simp only[Y,true_implies,reduceCtorEq,false_implies]at U p<;>omega
  simp[mB,S,two]
 ·have V:q/18446744073709551616=0:=by simp_all
  have K:q%18446744073709551616<=1152921504606846976:=by simp_all
  have D:=p ek;have S:vO r=true:=mS.2 bn;rw[iy (n:=q%18446744073709551616) bn bn,iy bn bn];simp only[mB,S,two,if_true];exact WZ bn Z
 ·have V:q/18446744073709551616=0:=by simp_all
  have K:q%18446744073709551616<=1152921504606846976:=by simp_all
  have D:=U ek;have S:vO r=true:=mS.2 bn;rw[iy (n:=q%18446744073709551616) bn bn];simp only[mB,S,two,if_true];exact WZ bn Z
end Go.Proofs
