/- What the small functions of package run answer: -/
import Derived.Test.YtdnpapgijbhofaaGreatDoorRun4
import Derived.Test.YtdnpapgijbhofaaGreatDoorChk3
import Derived.Test.YtdnpapgijbhofaaGreatDoorVal4
import Derived.Test.YtdnpapgijbhofaaGreatDoorFits
import Derived.Test.YtdnpapgijbhofaaGreatDoorVal2
open Go.IntKind
open Go.Proofs.Tryz
set_option linter.defProp false
set_option maxHeartbeats 0
set_option linter.unusedVariables false
set_option linter.unusedSimpArgs false
set_option maxRecDepth 100000
namespace Go.Proofs
open Go.cw
attribute [local irreducible] AK ah aR bM cn
def cL(k n:Int):af 157 [ag k,ag n] (bA (aK k n)):=by exact qdq func157 call157
def kJ(b:Bool):af 166 [.bool b] (bA (jm b)):=by have h1:=cL 2 1;have C:=cL 2 0;cases b;exact qdq func166 call166;exact qdq func166 call166
def gD(l:L Vl):af 156 [.sl 7 (aa l)] (bA (cD l)):=by exact qdq func156 call156
def jn(a b:Vl):af 155 [bA a,bA b] (bA (bh a b)):=by obtain⟨u,W,V,S,O,E,A⟩:=a;obtain⟨M,U,a2,K,Y,T,Q⟩:=b;exact qdq func155 call155
def mq(p:Int)(h:40<=p/\p<=95):af 133 [ag p] (ag (bY p:Nat)):=by
 have S:p=40\/p=41\/p=42\/p=43\/p=44\/p=45\/p=46\/p=47\/p=48\/p=49\/p=50\/p=51\/p=52\/p=53\/p=54\/p=55\/p=56\/p=57\/p=58\/p=59\/p=60\/p=61\/p=62\/p=63\/p=64\/p=65\/p=66\/p=67\/p=68\/p=69\/p=70\/p=71\/p=72\/p=73\/p=74\/p=75\/p=76\/p=77\/p=78\/p=79\/p=80\/p=81\/p=82\/p=83\/p=84\/p=85\/p=86\/p=87\/p=88\/p=89\/p=90\/p=91\/p=92\/p=93\/p=94\/p=95:=by omega
 clear h;rcases S with rfl|rfl|rfl|rfl|rfl|rfl|rfl|rfl|rfl|rfl|rfl|rfl|rfl|rfl|rfl|rfl|rfl|rfl|rfl|rfl|rfl|rfl|rfl|rfl|rfl|rfl|rfl|rfl|rfl|rfl|rfl|rfl|rfl|rfl|rfl|rfl|rfl|rfl|rfl|rfl|rfl|rfl|rfl|rfl|rfl|rfl|rfl|rfl|rfl|rfl|rfl|rfl|rfl|rfl|rfl|rfl
 all_goals
  first
  |(refine aR.of func133 rfl (λM w=>call133 M w) (aeP Z) [(0,.c (ag _))] Z λβ Y=>?_;have hf:=func133;exact dq)
def oJ(p a b:Int):af 160 [ag p,ag a,ag b] (ag (ofM p a b)):=by
 refine qn func160 call160 λβ hf=>?_
 repeat' (first|refine sz ?_|refine zc ?_ ?_|(intro h;first|(cases h;done)|rw[h]|skip))
 all_goals (show(_:CV)=_;clear hf;unfold ofM;simp_all)
end Go.Proofs
namespace Go.Proofs
open Go.cw
def cn.af1{P:Program}{X:Ctx}{f:FuncId}{T Y:L (Nat×L AV)}{M U:L AV}{r:AV}(h:∀(g:Gh) vs,bW g U vs->bW g M vs)(hq:cn P X f T M r Y):cn P X f T U r Y :=
 ⟨hq.1,λg w vs W G B=>hq.2 g w vs W G (h g vs B)⟩
def aiF{s t:Nat}{g:Gh}{u:Value}(h:aP g (.c (.sl s [])) u):aP g (.c (.sl t [])) u:=by simp only[aP,Rel]at h ⊢;obtain⟨base,Y,N,h1,h2,K,_⟩:=h;exact⟨base,Y,N,h1,h2,K,.inl trivial⟩
def iM(S:bZ)(code:L Nd)(fin:Int)(I:S.fr.length<=1099511627776):cH 107 S [.c (.sl 5 (aD code)),.c (ag fin),.c (.sl 0 [])] .undef (ee S code fin []) :=
 cn.af1 (λg vs h=>by
  simp only[bW]at h ⊢;obtain⟨Y,_,rfl,h1,P,_,rfl,h2,W,_,rfl,K,V,_,rfl,U,rfl⟩:=h
  exact⟨Y,_,Z,h1,P,_,Z,h2,W,_,Z,K,V,_,Z,aiF U,Z⟩) (yw S code fin [] I)
def fV:af 156 [.sl 0 []] (bA (cD [])) :=
 aR.wk (by simp only[EY];exact⟨Zv,trivial⟩) (Wk.refl _) (gD [])
def ach{st:L Vl}{k:Nat}{v:Vl}(h:st[k]?=some v):st.reverse[st.length-1-k]?=some v:=by obtain⟨h1,h2⟩:=List.getElem?_eq_some_iff.1 h;rw[List.getElem?_reverse ai];rw[show st.length-1-(st.length-1-k)=k from by omega];exact h
def Yc{l:L Vl}{i:Nat}{v:Vl}(h:l[i]?=some v):lV l i=v:=by unfold lV;rw[agl,h];rfl
def wS{T:AV->AV->Prop}(C:∀a,T a a):∀l:L AV,SZ T l l
 |[]=>trivial
 |a::l=>⟨C a,wS C l⟩
def af2{a b:Nat}(h:a≠b):(!Nat.beq a b)=true:=by
 cases e:Nat.beq a b with
 |false=>rfl
 |true=>exact absurd (beq_true e) h
def Ff{f:FuncId}{n:Nat}{β:kz}{R:Ending->World->Prop}{K:L Item}{env:Env}(S:bZ){a b:Nat}{us:L Nat}{bs:L (Nat×L AV)}{N H C:L AV}(U:aq 1000000 bs=some N)(A:N=mC S a b)(h1:aq a bs=some H)(q1:H=ak (sR S.st))(h2:aq b bs=some C)(T:C=ak (fR S.fr))(I:Go.cw.distinct [1000000,a,b]=true)(Y:L (Nat×L AV))(W:∀g:Nat,PtB (V7 a 7 (sR S.st)) bs Y)(V:(Y.all λp => !Nat.beq p.1 a)=true){env':Env}{ts ts':L (Nat×Nat)}(O:PtE (V7 a 7 (sR S.st)) env env')(Q:Ob ts ts')
  (h:By f n β R K env' ⟨(1000000,Qc S 0 b)::(b,ak (fR S.fr))::Y,ts',us⟩):By f n β R K env ⟨bs,ts,us⟩:=by
 subst A q1 T;obtain⟨E,P,n3⟩:=Ds I;have B:∀x,V7 a 7 (sR S.st) x x:=λ_ => .inl Z;refine AK.y9 a 7 (sR S.st) (tail:=[]) (bs':=(1000000,Qc S 0 b)::(b,ak (fR S.fr))::Y) h1 (aeO _).symm (iy _) O ⟨⟨_,U,⟨B _,B _,B _,B _,.inr ⟨_,Z,(jV _).symm,Z⟩,wS B _⟩⟩,⟨_,h2,wS B _⟩,W 0⟩ ?_ Q h;simp only[afQ,V,agO,af2 E,af2 (Ne.symm n3)]
attribute [local irreducible] AK ah aR bM cn cX oK
def U0(S:bZ)(A:Int)(K:L UInt8)(l:L Vl):cH 134 S [.c (aM (.mk 2 A 40 K [])),.c (.sl 7 (aa l))] (ag 0) S:=by exact mdm func134 call134
def U3(S:bZ)(A:Int)(K:L UInt8)(a b:Vl)(T:aH a<=8589934593)(U:aH b<=8589934593)(I:S.st.length<=1000000000):jv 134 S [.c (aM (.mk 2 A 42 K [])),.c (.sl 7 (aa [a,b]))] (aY S [a,b]):=by have B:=sG S [a,b] (by intro v N;simp at N;rcases N with rfl|rfl<;>assumption) cc VL;obtain⟨u,W,V,Q,O,E,P⟩:=a;obtain⟨M,J,a2,H,Y,G,D⟩:=b;exact mdm func134 call134
def Yd(S:bZ)(A:Int)(K:L UInt8)(k:Nat)(W:Int)(E:L UInt8)(V:L Nd)(l:L Vl)(v:Vl)(I:1<=k)(N:S.st[k-1]?=some v)(C:aH v<=8589934593)(P:S.st.length<=1000000000) :
  jv 134 S [.c (aM (.mk 2 A 41 K [.mk 0 (k:Nat) W E V])),.c (.sl 7 (aa l))] (aY S [v]):=by
 have B:=sG S [v] (by intro x D;simp at D;subst D;exact C) cc VL;have M:=ach N;have T:k-1<S.st.length:=(List.getElem?_eq_some_iff.1 N).1;obtain⟨u,Q,J,H,O,G,q⟩:=v;have U:i64.wrap (((S.st.length:Nat):Int)-(k:Nat))=((S.st.length-1-(k-1):Nat):Int):=by rw[iB ai ai];omega
 have B4:decide (((k:Nat):Int)<1)=false:=aaY ai;have zD:decide (i64.wrap (((S.st.length:Nat):Int)-(k:Nat))<0)=false:=by rw[U];exact aaY ai
 have Y:=G2 M;refine mn func134 call134 λβ hf=>?_
 repeat' (first|refine o9 ?_|refine zc ?_ ?_|(intro h;first|(cases h;done)|rw[h]|skip)|refine uI Z (0) Z (Z) Z ?_|refine ah.jU hX kn Z Z Z Z Z Z Z Z Z (S.st.length-1-(k-1)) U ai ?_|refine ah.dj hX kn Z Z Z Z Z Z Y Z ?_|refine v8 ?_ (hq:=B)|(refine uA Z ?_ ?_<;>(try (show(_:Nat)*_<=_;dsimp only))))
 all_goals rfl
def Ye{st:L Vl}{k:Nat}{v:Vl}(N:st[k]?=some v):sR (st.take k++st.drop (k+1))=aa (st.reverse.take (st.length-1-k)++st.reverse.drop (st.length-1-k+1)):=by
 have G:k<st.length:=(List.getElem?_eq_some_iff.1 N).1;have E:st.length-(st.length-1-k)=k+1:=by omega
 have q:st.length-(st.length-1-k+1)=k:=by omega
 rw[sR,aif,List.take_reverse,List.drop_reverse,E,q]
def Yf(S:bZ)(A:Int)(K:L UInt8)(k:Nat)(V:Int)(E:L UInt8)(T:L Nd)(l:L Vl)(v:Vl)(N:S.st[k]?=some v)(hl:S.st.length<=1000000000) :
  cH 134 S [.c (aM (.mk 2 A 43 K [.mk 0 (k:Nat) V E T])),.c (.sl 7 (aa l))] (ag 0) {S with st:=v::(S.st.take k++S.st.drop (k+1))}:=by
 have M:=ach N;have G:k<S.st.length:=(List.getElem?_eq_some_iff.1 N).1;have U:i64.wrap ((((sR S.st).length:Nat):Int)-(k:Nat))=((S.st.length-1-k+1:Nat):Int):=by rw[jV];rw[iB ai ai];omega
 have Y:i64.wrap (i64.wrap ((((sR S.st).length:Nat):Int)-(k:Nat))-1)=((S.st.length-1-k:Nat):Int):=by rw[U,iB ai ai];omega
 have J:decide (((k:Nat):Int)<0)=false:=aaY ai;have I:decide (i64.wrap ((((sR S.st).length:Nat):Int)-(k:Nat))<1)=false:=by rw[U];exact aaY ai
 have H:(bif decide (((k:Nat):Int)<0)then true else decide (i64.wrap ((((sR S.st).length:Nat):Int)-(k:Nat))<1))=false:=by rw[J,I];rfl
 have Q:=tG S.st.reverse (S.st.length-1-k) aa7 aa7;rw[<- Ye N]at Q;have W:(aa S.st.reverse)[S.st.length-1-k]?=some (bA v):=by rw[kV,M];rfl
 obtain⟨x,q,hq⟩:∃x q,S.st.reverse=x::q:=by
  cases h:S.st.reverse with
  |nil=>have:=aeM List.length h;simp at this;rw[this]at G;simp at G
  |cons x q=>exact⟨x,q,Z⟩
 have P:=fW x q ab6;rw[<- hq]at P;have D:(AV.gY 1000000 0 7 S.st.reverse.length::List.map AV.c [CV.int IntKind.i64 ((S.st.length-1-k:Nat):Int),CV.int IntKind.i64 ((S.st.length-1-k+1:Nat):Int)]) = .gY 1000000 0 7 (q.length+1)::[CV.int IntKind.i64 (i64.wrap (i64.wrap ((((sR S.st).length:Nat):Int)-(k:Nat))-1)),CV.int IntKind.i64 (i64.wrap ((((sR S.st).length:Nat):Int)-(k:Nat)))].map AV.c:=by rw[Y,U,hq];rfl
 obtain⟨u,C,B,s1,O,an,aA⟩:=v;refine mn func134 call134 λβ hf=>?_;refine Ff S Z Z Z Z Z Z Z [] (λ_=>trivial) Z (env':=[(0,.ptr 1000000 0),(1,.c (aM (.mk 2 A 43 K [.mk 0 (k:Nat) V E T]))),(2,.c (.sl 7 (aa l)))]) (ts':=[]) ce trivial ?_
 repeat' (first|refine o9 ?_|refine zc ?_ ?_|(intro h;first|(cases h;done)|rw[h]|skip)|refine uI Z (0) Z (Z) Z ?_|refine uI Z (S.st.length-1-k) Y W Z ?_|refine ah.mU kn Z Z Z Z Z Z P Z ?_|refine ah.ua kn Z Z Z Z Z Z Z Z Z Q D Z ?_|refine ah.nA hX kn Z Z Z Z Z Z Z Z Z Z Z Z Z Z Z (sR (S.st.take k++S.st.drop (k+1))) [] (aeO _).symm Z (by rw[jV];exact v9 _) Z Z Z Z Z Z Z (show((sR (S.st.take k++S.st.drop (k+1))).length+1)*112<=_ by rw[jV,aaZ,afb,afr];omega) (Lu (.mk u C B s1 O an aA) _).symm (jV _) Z ?_|(refine uA Z ?_ ?_<;>(try (show(_:Nat)*_<=_;dsimp only))))
 all_goals rfl
end Go.Proofs
namespace Go.Proofs
open Go.cw
attribute [local irreducible] AK ah aR bM cn cX oK
def kW(s:Nat):rQ 83 [] [.c (.sl s [])] (.own .exact 7 []) []:=by
 refine cn.of func83 Z (λM w=>call83 M w) (aeP Z) [(0,.c (.sl s []))] ⟨[],[],[]⟩ Z Z λβ=>?_;have hf:=func83
 repeat' (first|refine o9 ?_|refine zc ?_ ?_|(intro h;first|(cases h;done)|rw[h]|skip)|refine AK.rM Z ?_ ?_|refine ah.Lt hX kn Z Z Z Z Z Z Z Z Z Z Z Z Z ?_|(refine uA Z ?_ ?_<;>(try (show(_:Nat)*_<=_;dsimp only))))
 refine AK.weak Em Em.rel Em.one (env':=[(2,.own .exact 7 [])]) (bs':=[]) (ts':=[]) ce trivial trivial ?_;exact aeE;exact aeE
def G3(x:Vl):rQ 154 [] [.own .exact 7 [],.c (ag 0),.c (.sl 7 (aa [x]))] (.gY 999999 0 7 1) [(999999,ak (aa [x]))]:=by
 obtain⟨u,W,Y,S,O,E,A⟩:=x;refine cn.of func154 Z (λM w=>call154 M w) (aeP Z) [(0,.own .exact 7 []),(1,.c (ag 0)),(2,.c (.sl 7 (aa [.mk u W Y S O E A])))] ⟨[],[],[]⟩ Z Z λβ=>?_;have hf:=func154
 repeat' (first|refine o9 ?_|refine zc ?_ ?_|(intro h;first|(cases h;done)|rw[h]|skip)|refine AK.rM rfl ?_ ?_|refine ah.sV hX kn rfl rfl rfl rfl rfl rfl rfl rfl rfl rfl rfl rfl rfl rfl rfl rfl rfl rfl (λh=>by cases h) rfl rfl rfl (show(0+1)*112<=140737488355328 by decide) rfl (m:=1) rfl ?_|(refine uA rfl ?_ ?_<;>(try (show(_:Nat)*_<=_;dsimp only))))
 exact AK.zZ hX hf Z [(999999,25)] Z ⟨_,Z,Z⟩ ⟨⟨_,_,Z,Z,cJ _⟩,trivial⟩
def Yg(st:L Vl)(k:Nat)(v:Vl)(A:k<=st.length):sR (st.take k++v::st.drop k)=aa (st.reverse.take (st.length-k)++v::st.reverse.drop (st.length-k)):=by
 have E:st.length-(st.length-k)=k:=by omega
 rw[sR,aif,ahU,List.take_reverse,List.drop_reverse,E,afn];rfl
def Yh(S:bZ)(Y:Int)(K:L UInt8)(k:Nat)(W:Int)(E:L UInt8)(V:L Nd)(v:Vl)(A:k<=S.st.length)(hl:S.st.length<=1000000000) :
  cH 134 S [.c (aM (.mk 2 Y 44 K [.mk 0 (k:Nat) W E V])),.c (.sl 7 (aa [v]))] (ag 0) {S with st:=S.st.take k++v::S.st.drop k}:=by
 have B:decide (((k:Nat):Int)<0)=false:=aaY ai;by_cases C:S.st=[]
 ·obtain⟨a,b,c,d,st,fr,g,u,m,Q⟩:=S;simp only at C A hl;subst C;simp only[aay,Nat.le_zero]at A;subst A;have U:i64.wrap ((((sR []).length:Nat):Int)-(0:Nat))=0:=by decide
  have T:decide (i64.wrap ((((sR []).length:Nat):Int)-(0:Nat))<0)=false:=by rw[U];rfl
  have P:(bif decide (((0:Nat):Int)<0)then true else decide (i64.wrap ((((sR []).length:Nat):Int)-(0:Nat))<0))=false:=by rw[B,T];rfl
  have N:=G3 v;obtain⟨J,M,I,H,O,G,D⟩:=v;refine mn func134 call134 λβ hf=>?_;refine Ff (bZ.mk a b c d [] fr g u m Q) Z Z Z Z Z Z Z [] (λ_=>trivial) Z (env':=[(0,.ptr 1000000 0),(1,.c (aM (.mk 2 Y 44 K [.mk 0 ((0:Nat):Int) W E V]))),(2,.c (.sl 7 (aa [.mk J M I H O G D])))]) (ts':=[]) ce trivial ?_
  repeat' (first|refine o9 ?_|refine zc ?_ ?_|(intro h;first|(cases h;done)|rw[h]|skip)|refine uI Z (0) Z (Z) Z ?_|refine ah.A2 kn Z Z (kW 7) Z Z (λ_=>⟨_,_,Z,.inr Z,Z⟩) Z Z ?_|refine ah.Ya kn Z Z N Z Z Z Z (λ_=>⟨_,_,Z,Z,_,_,Z,.inl (aeM (λz=>AV.c (.int .i64 z)) U),_,_,Z,.inr Z,Z⟩) ?_|(refine uA Z ?_ ?_<;>(try (show(_:Nat)*_<=_;dsimp only))))
  all_goals rfl
 have hne:0<S.st.length:=List.length_pos_iff.2 C;have U:i64.wrap ((((sR S.st).length:Nat):Int)-(k:Nat))=((S.st.length-k:Nat):Int):=by rw[jV,iB ai ai];omega
 have T:decide (i64.wrap ((((sR S.st).length:Nat):Int)-(k:Nat))<0)=false:=by rw[U];exact aaY ai
 have P:(bif decide (((k:Nat):Int)<0)then true else decide (i64.wrap ((((sR S.st).length:Nat):Int)-(k:Nat))<0))=false:=by rw[B,T];rfl
 have IG:=yx S.st.reverse v (S.st.length-k) aa7 aa7 aa7;rw[<- Yg _ _ _ A,jV]at IG;obtain⟨x,q,hq⟩:∃x q,S.st.reverse=x::q:=by
  cases h:S.st.reverse with
  |nil=>exact absurd (List.reverse_eq_nil_iff.1 h) C
  |cons x q=>exact⟨x,q,Z⟩
 have lM:=fW x q ab6;rw[<- hq]at lM;have Rf:(AV.gY 1000000 0 7 S.st.reverse.length::List.map AV.c [CV.int IntKind.i64 ((S.st.length-k:Nat):Int),CV.sl 7 (aa [v])]) = .gY 1000000 0 7 (q.length+1)::[CV.int IntKind.i64 (i64.wrap ((((sR S.st).length:Nat):Int)-(k:Nat))),CV.sl 7 (aa [v])].map AV.c:=by rw[U,hq];rfl
 obtain⟨J,M,I,H,O,G,D⟩:=v;refine mn func134 call134 λβ hf=>?_;refine Ff S Z Z Z Z Z Z Z [] (λ_=>trivial) Z (env':=[(0,.ptr 1000000 0),(1,.c (aM (.mk 2 Y 44 K [.mk 0 (k:Nat) W E V]))),(2,.c (.sl 7 (aa [.mk J M I H O G D])))]) (ts':=[]) ce trivial ?_
 repeat' (first|refine o9 ?_|refine zc ?_ ?_|(intro h;first|(cases h;done)|rw[h]|skip)|refine uI Z (0) Z (Z) Z ?_|refine ah.mU kn Z Z Z Z Z Z lM Z ?_|refine ah.ua kn Z Z Z Z Z Z Z Z Z IG Rf Z ?_|(refine uA Z ?_ ?_<;>(try (show(_:Nat)*_<=_;dsimp only))))
 all_goals rfl
end Go.Proofs
namespace Go.Proofs
open Go.cw
mutual
def Eb:∀(n:Nd)(d left:Int)(t:Ty)(m:Int),gm n d left=(some t,m)->U4 t=n
 |.mk V T p s M,d,left,t,m,h=>by
  simp only[gm]at h;split at h;simp at h;rename_i Y;simp only[not_or,ne_eq,afF]at Y;rcases A:eB M (d+1) (left-1)with ⟨b,I⟩
  rw[A]at h;cases b with
  |none=>simp at h
  |some l =>
   simp at h;have:=B5 M (d+1) (left-1) l I A;rw[<- h.1];simp only[U4,this];rw[Y.2.2.1,Y.2.2.2.1,Y.2.2.2.2.1]
def B5:∀(l:L Nd)(d left:Int)(r:L Ty)(m:Int),eB l d left=(some r,m)->Oy r=l
 |[],d,left,r,m,h=>by simp[eB]at h;rw[h.1];rfl
 |x::l,d,left,r,m,h=>by
  simp only[eB]at h;rcases A:gm x d left with ⟨b,I⟩
  rw[A]at h;cases b with
  |none=>simp at h
  |some t =>
   simp only at h;rcases W:eB l d I with ⟨U,P⟩
   rw[W]at h;cases U with
   |none=>simp at h
   |some q =>
    simp at h;have h1:=Eb x d left t I A;have h2:=B5 l d I q P W;rw[<- h.1];simp only[Oy,h1,h2]
end
def yy(n:Nd):(∃t,aJ n=(t,0)/\br t=true/\U4 t=n/\bf t<=bD n)\/aJ n=(.mk 0 [],1):=by
 simp only[aJ];rcases A:gm n 1 300 with ⟨b,m⟩
 cases b with
 |none=>right;rfl
 |some t =>
  simp only;cases G:br t;right;rfl;left;exact⟨t,Z,G,Eb n 1 300 t m A,xo n 1 300 t m A⟩
attribute [local irreducible] AK ah aR bM U4 Oy br lX gl ni ig jc arity aJ cV qA af4 dZ
end Go.Proofs
namespace Go.Proofs
open Go.cw
def gA(S:bZ)(v:Vl)(C:aH v<=8589934593)(I:S.st.length<=1000000000):jv 152 S [.c (.sl 7 (aa [v]))] (aY S [v]) :=
 sG S [v] (by intro x D;simp at D;subst D;exact C) cc VL
def adP(S:bZ)(v w:Vl)(C:aH v<=8589934593)(Q:aH w<=8589934593)(I:S.st.length<=1000000000):jv 152 S [.c (.sl 7 (aa [v,w]))] (aY S [v,w]) :=
 sG S [v,w] (by intro x D;simp at D;rcases D with rfl|rfl<;>assumption) cc VL
def Rh(x:Nd)(D:bD x<=8589934593):bf (aJ x).1<=8589934593:=by
 rcases yy x with ⟨t,h,_,_,Y⟩|h
 rw[h];exact afC Y D;rw[h];decide
attribute [local irreducible] AK ah aR bM cn cX oK aJ gJ
def Ri(S:bZ)(A:Int)(K:L UInt8)(x y:Nd)(D:bD x<=8589934593)(U:bD y<=8589934593)(Y:(gJ (aJ x).1 y).2=0)(C:aH ((gJ (aJ x).1 y).1)<=8589934593)(P:S.st.length<=1000000000):jv 135 S [.c (aM (.mk 2 A 45 K [x,y])),.c (.sl 7 (aa []))] (aY S [(gJ (aJ x).1 y).1]):=by have W:=gA S ((gJ (aJ x).1 y).1) C P;have hq:=jE x D;have I:bf (aJ x).1<=8589934593:=Rh x D;have B:=oB (aJ x).1 y I U;rw[Y]at B;generalize V:(gJ (aJ x).1 y).1=w at W B ⊢;clear Y;generalize aJ x=tp at hq B I;obtain⟨⟨T,us⟩,e⟩:=tp;obtain⟨u,E,Q,N,O,M,J⟩:=w;obtain⟨H,G,q,i4,i5⟩:=x;obtain⟨j1,j2,j3,j4,j5⟩:=y;exact mdm func135 call135
def Rj(S:bZ)(A:Int)(K:L UInt8)(a b:Vl)(C:aH (bh a b)<=8589934593)(I:S.st.length<=1000000000):jv 135 S [.c (aM (.mk 2 A 46 K [])),.c (.sl 7 (aa [a,b]))] (aY S [bh a b]):=by have B:=gA S (bh a b) C I;have hq:=jn a b;obtain⟨u,W,V,U,O,E,T⟩:=a;obtain⟨M,Q,a2,P,Y,N,J⟩:=b;exact mdm func135 call135
def Rk(S:bZ)(A:Int)(K:L UInt8)(x:Nd)(a:Vl)(C:aH (.mk 12 (50-50) 0 [] [a] [] [])<=8589934593)(I:S.st.length<=1000000000):jv 135 S [.c (aM (.mk 2 A 50 K [x])),.c (.sl 7 (aa [a]))] (aY S [.mk 12 (50-50) 0 [] [a] [] []]):=by have B:=gA S (.mk 12 (50-50) 0 [] [a] [] []) C I;obtain⟨u,W,Y,V,O,E,U⟩:=a;exact mdm func135 call135
def Rm(S:bZ)(A:Int)(K:L UInt8)(x:Nd)(a:Vl)(C:aH (.mk 12 (51-50) 0 [] [a] [] [])<=8589934593)(I:S.st.length<=1000000000):jv 135 S [.c (aM (.mk 2 A 51 K [x])),.c (.sl 7 (aa [a]))] (aY S [.mk 12 (51-50) 0 [] [a] [] []]):=by have B:=gA S (.mk 12 (51-50) 0 [] [a] [] []) C I;obtain⟨u,W,Y,V,O,E,U⟩:=a;exact mdm func135 call135
def Rn(S:bZ)(A:Int)(K:L UInt8)(a:Vl)(C:aH (cD [a])<=8589934593)(I:S.st.length<=1000000000):jv 135 S [.c (aM (.mk 2 A 53 K [])),.c (.sl 7 (aa [a]))] (aY S [cD [a]]):=by have B:=gA S (cD [a]) C I;have hq:=gD [a];obtain⟨u,W,Y,V,O,E,U⟩:=a;exact mdm func135 call135
def Ro(S:bZ)(A:Int)(K:L UInt8)(x:Nd)(C:aH (cD [])<=8589934593)(I:S.st.length<=1000000000):jv 135 S [.c (aM (.mk 2 A 54 K [x])),.c (.sl 7 (aa []))] (aY S [cD []]):=by have B:=gA S (cD []) C I;refine mn func135 call135 λβ hf=>?_;have Y:=fV;exact dm
def U5(S:bZ)(A:Int)(K:L UInt8)(x:Nd)(C:aH (.mk 10 0 0 [] [] [] [])<=8589934593)(I:S.st.length<=1000000000):jv 135 S [.c (aM (.mk 2 A 56 K [x])),.c (.sl 7 (aa []))] (aY S [.mk 10 0 0 [] [] [] []]):=by have B:=gA S (.mk 10 0 0 [] [] [] []) C I;exact mdm func135 call135
def Rp(S:bZ)(A:Int)(K:L UInt8)(k n c:Int)(s:L UInt8)(a b:Vl)(V:L Ty)(code:L Nd)(C:aH (b)<=8589934593)(h1:aH (a)<=8589934593)(I:S.st.length<=1000000000):jv 135 S [.c (aM (.mk 2 A 47 K [])),.c (.sl 7 (aa [.mk k n c s [a,b] V code]))] (aY S [b,a]):=by have B:=adP S (b) (a) C h1 I;obtain⟨u,W,U,T,O,E,Q⟩:=a;obtain⟨M,P,a2,N,Y,J,H⟩:=b;exact mdm func135 call135
def Rq(S:bZ)(A:Int)(K:L UInt8)(k n c:Int)(s:L UInt8)(a b:Vl)(V:L Ty)(code:L Nd)(C:aH (a)<=8589934593)(I:S.st.length<=1000000000):jv 135 S [.c (aM (.mk 2 A 48 K [])),.c (.sl 7 (aa [.mk k n c s [a,b] V code]))] (aY S [a]):=by have B:=gA S (a) C I;obtain⟨u,W,U,T,O,E,Q⟩:=a;obtain⟨M,P,a2,N,Y,J,H⟩:=b;exact mdm func135 call135
def Rr(S:bZ)(A:Int)(K:L UInt8)(k n c:Int)(s:L UInt8)(a b:Vl)(V:L Ty)(code:L Nd)(C:aH (b)<=8589934593)(I:S.st.length<=1000000000):jv 135 S [.c (aM (.mk 2 A 49 K [])),.c (.sl 7 (aa [.mk k n c s [a,b] V code]))] (aY S [b]):=by have B:=gA S (b) C I;obtain⟨u,W,U,T,O,E,Q⟩:=a;obtain⟨M,P,a2,N,Y,J,H⟩:=b;exact mdm func135 call135
end Go.Proofs
namespace Go.Proofs
open Go.cw
def Oz(f:iR)(t:List iR)(j:Nat)(Y:j<4)(v:CV):bG (0+t.length*4+j) [.c v] (ak (fR (f::t)))=some (ak (fR t)++(ak [uc f]).set j (.c v)):=by
 have h:=Fg t;have e:(ak (fR t)).length=t.length*4:=by rw[ak,aeU];exact h
 have I:0+t.length*4+j<(ak (fR (f::t))).length:=by rw[nq,aaZ,e];show _<_+4;omega
 rw[Ea I,nq,aeS,List.set_append_right _ _ ai,e,Nat.add_sub_cancel_left]
def G4(f:iR)(t:List iR)(n:Nat):bG (0+t.length*4+1) [.c (ag (n:Nat))] (ak (fR (f::t)))=some (ak (fR ({f with pos:=n}::t))):=by rw[Oz f t 1 bn,nq];rfl
def Yi(f:iR)(t:List iR)(l:L Vl):bG (0+t.length*4+3) [.c (.sl 7 (aa l))] (ak (fR (f::t)))=some (ak (fR ({f with aside:=l}::t))):=by rw[Oz f t 3 bn,nq];rfl
def Yj(code:L Nd)(fin:Int)(I:L Vl)(t:List iR):bG (0+t.length*4+1) [.c (ag ((aD code).length:Nat))] (ak (fR (⟨code,0,fin,I⟩::t)))=some (ak (fR (⟨code,code.length,fin,I⟩::t))):=by rw[aZ];exact G4 _ _ _
attribute [local irreducible] AK ah aR bM cn cX oK aJ gJ
def II(S:bZ)(A:Int)(K:L UInt8)(G q1:Int)(Y:L UInt8)(u:L Nd)(W U:Int)(P:L UInt8)(Q:L Nd)(k c:Int)(s:L UInt8)(V:L Ty)(code:L Nd)(x:Vl)(D:aH x<=8589934593)(I:S.st.length<=1000000000)(T:S.fr.length<=1099511627776):jv 136 S [.c (aM (.mk 2 A 52 K [.mk 3 G q1 Y u,.mk 3 W U P Q])),.c (.sl 7 (aa [.mk k 0 c s [x] V code]))] (aY (ee S u 0 []) [x]):=by have N:=iM S u 0 T;have B:=gA (ee S u 0 []) x D I;obtain⟨J,E,M,H,O,C,q⟩:=x;exact mdm func136 call136
def IJ(S:bZ)(A:Int)(Y:L UInt8)(G q1:Int)(W:L UInt8)(u:L Nd)(E U:Int)(P:L UInt8)(K:L Nd)(k c:Int)(s:L UInt8)(V:L Ty)(code:L Nd)(x:Vl)(D:aH x<=8589934593)(I:S.st.length<=1000000000)(T:S.fr.length<=1099511627776):jv 136 S [.c (aM (.mk 2 A 52 Y [.mk 3 G q1 W u,.mk 3 E U P K])),.c (.sl 7 (aa [.mk k 1 c s [x] V code]))] (aY (ee S K 0 []) [x]):=by have Q:=iM S K 0 T;have B:=gA (ee S K 0 []) x D I;obtain⟨J,N,M,H,O,C,q⟩:=x;exact mdm func136 call136
def IK(S:bZ)(A:Int)(K:L UInt8)(G q1:Int)(Y:L UInt8)(u:L Nd)(W U:Int)(P:L UInt8)(Q:L Nd)(k c:Int)(s:L UInt8)(V:L Ty)(code:L Nd)(n:Int)(I:S.st.length<=1000000000)(T:S.fr.length<=1099511627776):jv 136 S [.c (aM (.mk 2 A 55 K [.mk 3 G q1 Y u,.mk 3 W U P Q])),.c (.sl 7 (aa [.mk k n c s [] V code]))] (aY (ee S u 0 []) []):=by have O:=iM S u 0 T;have B:=sG (ee S u 0 []) [] (λ_ h=>by simp at h) cc (by show S.st.length+0<=_;omega);exact mdm func136 call136
def IL(S:bZ)(A:Int)(Y:L UInt8)(G q1:Int)(W:L UInt8)(u:L Nd)(E U:Int)(P:L UInt8)(K:L Nd)(k c:Int)(s:L UInt8)(V:L Ty)(code:L Nd)(n:Int)(x:Vl)(D:aH x<=8589934593)(I:S.st.length<=1000000000)(T:S.fr.length<=1099511627776):jv 136 S [.c (aM (.mk 2 A 55 Y [.mk 3 G q1 W u,.mk 3 E U P K])),.c (.sl 7 (aa [.mk k n c s [x] V code]))] (aY (ee S K 0 []) [x]):=by have Q:=iM S K 0 T;have B:=gA (ee S K 0 []) x D I;obtain⟨J,N,M,H,O,C,q⟩:=x;exact mdm func136 call136
def IM(S:bZ)(A:Int)(Y:L UInt8)(G q1:Int)(W:L UInt8)(u:L Nd)(E U:Int)(P:L UInt8)(K:L Nd)(k c:Int)(s:L UInt8)(V:L Ty)(code:L Nd)(n:Int)(I:S.st.length<=1000000000)(T:S.fr.length<=1099511627776):jv 136 S [.c (aM (.mk 2 A 58 Y [.mk 3 G q1 W u,.mk 3 E U P K])),.c (.sl 7 (aa [.mk k n c s [] V code]))] (((0,ee S K 0 []):MR)):=by have O:=iM S K 0 T;exact mdm func136 call136
def IN(S:bZ)(A:Int)(K:L UInt8)(G q1:Int)(W:L UInt8)(u:L Nd)(E U:Int)(P:L UInt8)(Q:L Nd)(k c:Int)(s:L UInt8)(V:L Ty)(code:L Nd)(n:Int)(x:Vl)(xs:L Vl)(D:aH x<=8589934593)(Y:aH (.mk 10 0 0 [] xs [] [])<=8589934593)(I:S.st.length<=1000000000)(T:S.fr.length<=1099511627776):jv 136 S [.c (aM (.mk 2 A 58 K [.mk 3 G q1 W u,.mk 3 E U P Q])),.c (.sl 7 (aa [.mk k n c s (x::xs) V code]))] (aY (ee S u 0 []) [.mk 10 0 0 [] xs [] [],x]):=by
 have N:=iM S u 0 T;have B:=adP (ee S u 0 []) (.mk 10 0 0 [] xs [] []) x Y D I;have M:((((aa (x::xs)).length:Nat):Int)==0)=false:=by simp only[aa,aag];exact beq_eq_false_iff_ne.2 ai
 obtain⟨J,H,C,q,O,an,aA⟩:=x;exact mdm func136 call136
def Lv(S:bZ)(A:Int)(K:L UInt8)(G q1:Int)(W:L UInt8)(u:L Nd)(k c:Int)(s:L UInt8)(V:L Ty)(code:L Nd)(n:Int)(xs:L Vl)(I:S.st.length<=1000000000)(T:S.fr.length<=1099511627776):jv 136 S [.c (aM (.mk 2 A 60 K [.mk 3 G q1 W u])),.c (.sl 7 (aa [.mk k n c s xs V code]))] (((0,we S u 3 xs):MR)):=by
 have O:=yw S u 3 xs T;have M:i64.wrap (((S.fr.length+1:Nat):Int)-1)=(S.fr.length:Nat):=by rw[iB ai ai];omega
 have Y:=Yj u 3 xs S.fr;refine mn func136 call136 λβ hf=>?_
 repeat' (first|refine o9 ?_|refine zc ?_ ?_|(intro h;first|(cases h;done)|rw[h]|skip)|refine uI Z (0) Z (Z) Z ?_|refine v8 ?_ (hq:=O)|refine ah.jU hX kn Z Z Z Z Z Z Z Z Z S.fr.length M (afo _) ?_|refine ah.store hX kn Z Z Z Z Z Z Z Z Z Y Z ?_|(refine uA Z ?_ ?_<;>(try (show(_:Nat)*_<=_;dsimp only))))
 all_goals rfl
def OA(S:bZ)(A:Int)(Y:L UInt8)(G q1:Int)(W:L UInt8)(u:L Nd)(E U:Int)(P:L UInt8)(K:L Nd)(k c:Int)(s:L UInt8)(V:L Ty)(code:L Nd)(xs:L Vl)(I:S.st.length<=1000000000)(T:S.fr.length<=1099511627776):jv 136 S [.c (aM (.mk 2 A 64 Y [.mk 3 G q1 W u,.mk 3 E U P K])),.c (.sl 7 (aa [.mk k 0 c s xs V code]))] (((0,ee S K 0 []):MR)):=by
 have O:=iM S K 0 T;refine mn func136 call136 λβ hf=>?_
 repeat' (first|refine o9 ?_|refine zc ?_ ?_|(intro h;first|(cases h;done)|rw[h]|skip)|refine uI Z (0) Z (Z) Z ?_|refine uI Z 1 Z Z Z ?_|refine v8 ?_ (hq:=O)|(refine uA Z ?_ ?_<;>(try (show(_:Nat)*_<=_;dsimp only))))
 all_goals rfl
def OB(S:bZ)(A:Int)(K:L UInt8)(G q1:Int)(Y:L UInt8)(u:L Nd)(W U:Int)(P:L UInt8)(Q:L Nd)(k c:Int)(s:L UInt8)(V:L Ty)(code:L Nd)(xs:L Vl)(I:S.st.length<=1000000000)(T:S.fr.length<=1099511627776):jv 136 S [.c (aM (.mk 2 A 64 K [.mk 3 G q1 Y u,.mk 3 W U P Q])),.c (.sl 7 (aa [.mk k 1 c s xs V code]))] (((0,ee S u 0 []):MR)):=by
 have O:=iM S u 0 T;refine mn func136 call136 λβ hf=>?_
 repeat' (first|refine o9 ?_|refine zc ?_ ?_|(intro h;first|(cases h;done)|rw[h]|skip)|refine uI Z (0) Z (Z) Z ?_|refine uI Z 0 Z Z Z ?_|refine v8 ?_ (hq:=O)|(refine uA Z ?_ ?_<;>(try (show(_:Nat)*_<=_;dsimp only))))
 all_goals rfl
def Lw(S:bZ)(A:Int)(K:L UInt8)(V q1:Int)(G:L UInt8)(u:L Nd)(x:Vl)(H:S.st.length<=1000000000)(T:S.fr.length<=1099511627776):jv 136 S [.c (aM (.mk 2 A 65 K [.mk 3 V q1 G u])),.c (.sl 7 (aa [x]))] (((0,{we S u 4 []with st:=x::S.st}):MR)):=by
 have W:=iM S u 4 T;have M:i64.wrap (((S.fr.length+1:Nat):Int)-1)=(S.fr.length:Nat):=by rw[iB ai ai];omega
 have Y:=Yj u 4 [] S.fr;obtain⟨J,E,U,Q,O,P,N⟩:=x;have I:=Rt J E U Q O P N S.st;refine mn func136 call136 λβ hf=>?_
 repeat' (first|refine o9 ?_|refine zc ?_ ?_|(intro h;first|(cases h;done)|rw[h]|skip)|refine uI Z (0) Z (Z) Z ?_|refine v8 ?_ (hq:=W)|refine ah.jU hX kn Z Z Z Z Z Z Z Z Z S.fr.length M (afo _) ?_|refine ah.store hX kn Z Z Z Z Z Z Z Z Z Y Z ?_|refine ah.nA hX kn Z Z Z Z Z Z Z Z Z Z Z Z Z Z Z (sR S.st) [] (aeO _).symm (jV _).symm (v9 _) Z Z Z Z Z Z Z (show((sR S.st).length+1)*112<=_ by rw[jV];omega) Z (m:=S.st.length+1) (by rw[aaZ,jV];rfl) Z ?_|refine ah.jU hX kn Z Z Z Z Z Z Z Z Z S.st.length Z (afo _) ?_|refine ah.store hX kn Z Z Z Z Z Z Z Z Z (I _ Z) Z ?_|(refine uA Z ?_ ?_<;>(try (show(_:Nat)*_<=_;dsimp only))))
 all_goals rfl
def OC(S:bZ)(A:Int)(K:L UInt8)(V q1:Int)(G:L UInt8)(u:L Nd)(x:Vl)(I:S.st.length<=1000000000)(T:S.fr.length<=1099511627776):jv 136 S [.c (aM (.mk 2 A 68 K [.mk 3 V q1 G u])),.c (.sl 7 (aa [x]))] (((0,ee S u 1 [x]):MR)):=by have Y:=yw S u 1 [x] T;obtain⟨J,W,U,Q,O,E,P⟩:=x;exact mdm func136 call136
def G5(S:bZ)(A:Int)(K:L UInt8)(x y:Nd)(V q1:Int)(G:L UInt8)(u:L Nd)(D:bD x<=8589934593)(U:bD y<=8589934593)(N:aH (.mk 14 0 0 [] [] [(aJ x).1,(aJ y).1] u)<=8589934593)(I:S.st.length<=1000000000)(Y:S.fr.length<=1099511627776):jv 136 S [.c (aM (.mk 2 A 66 K [x,y,.mk 3 V q1 G u])),.c (.sl 7 (aa []))] (aY S [.mk 14 0 0 [] [] [(aJ x).1,(aJ y).1] u]):=by have B:=gA S (.mk 14 0 0 [] [] [(aJ x).1,(aJ y).1] u) N I;have W:=jE x D;have Q:=jE y U;clear N;generalize aJ x=tp at B W ⊢;generalize aJ y=tq at B Q ⊢;obtain⟨⟨T,us⟩,e⟩:=tp;obtain⟨⟨O,P⟩,e2⟩:=tq;obtain⟨M,J,H,E,C⟩:=x;obtain⟨q,j2,j3,j4,j5⟩:=y;exact mdm func136 call136
def Lx(S:bZ)(A:Int)(K:L UInt8)(x:Vl)(k c:Int)(s:L UInt8)(V:L Ty)(code:L Nd)(n:Int)(xs:L Vl)(I:S.st.length<=1000000000)(T:S.fr.length<=1099511627776):jv 136 S [.c (aM (.mk 2 A 67 K [])),.c (.sl 7 (aa [x,.mk k n c s xs V code]))] (((0,{ee S code 2 S.st.reverse with st:=[x]}):MR)):=by
 have Y:=Ly S code 2 S.st.reverse T;obtain⟨u,W,U,Q,O,E,P⟩:=x;refine mn func136 call136 λβ hf=>?_;refine Ff S Z Z Z Z Z Z Z [] (λ_=>trivial) Z (env':=[(0,.ptr 1000000 0),(1,.c (aM (.mk 2 A 67 K []))),(2,.c (.sl 7 (aa [.mk u W U Q O E P,.mk k n c s xs V code])))]) (ts':=[]) ce trivial ?_
 repeat' (first|refine ah.jJ hX kn Z Z Z Z Z Z Z Z Z Z Z Z Z Z ?_|refine o9 ?_|refine zc ?_ ?_|(intro h;first|(cases h;done)|rw[h]|skip)|refine uI Z (0) Z (Z) Z ?_|refine uI Z (1) Z (Z) Z ?_|refine adQ ?_ (hq:=Y)|(refine uA Z ?_ ?_<;>(try (show(_:Nat)*_<=_;dsimp only))))
 all_goals rfl
end Go.Proofs
namespace Go.Proofs
open Go.cw
attribute [local irreducible] AK ah aR
def G6{n:Int}(h1:0<=n)(h2:n<=18446744073709551615):IntKind.u64.wrap n=n:=by simp[IntKind.wrap,IntKind.bits,IntKind.signed];omega
def Ru(x:Int)(C:0<=x)(h1:x<=18446744073709551615):IntKind.u64.wrap ((BitVec.ofInt (IntKind.bits .u64) x&&&BitVec.ofInt (IntKind.bits .u64) 4294967295).toNat:Nat)=x%4294967296:=by
 have e:((BitVec.ofInt (IntKind.bits .u64) x&&&BitVec.ofInt (IntKind.bits .u64) 4294967295).toNat)=x.toNat%4294967296:=by
  rw[BitVec.toNat_and,BitVec.toNat_ofInt,BitVec.toNat_ofInt];have E:((4294967295:Int)%((2^IntKind.bits .u64:Nat):Int)).toNat=2^32-1:=by decide
  have N:(x%((2^IntKind.bits .u64:Nat):Int)).toNat=x.toNat:=by have:((2^IntKind.bits .u64:Nat):Int)=18446744073709551616:=(by decide);rw[this,Int.emod_eq_of_lt C ai]
  rw[E,N,ais]
 rw[e,G6 ai ai];omega
def af5(V W U Y:Int)(h:0<=Y):V+(W+Y/4294967296)/4294967296+((W+Y/4294967296)%4294967296+U)/4294967296=(V*18446744073709551616+(W+U)*4294967296+Y)/18446744073709551616:=by omega
def aaW(W O Y J:Int):(W*4294967296+O)*(Y*4294967296+J)=(W*Y)*18446744073709551616+(W*J+O*Y)*4294967296+O*J:=by
 simp only[Int.add_mul,Int.mul_add];have E:W*4294967296*(Y*4294967296)=W*Y*18446744073709551616:=by rw[<- aiG,Int.mul_right_comm W 4294967296 Y,aiG];rfl
 rw[Int.mul_right_comm W 4294967296 J,E,<- aiG O Y];omega
def qx{a b c d:Int}(h1:0<=a)(h2:a<=c)(K:0<=b)(Y:b<=d):0<=a*b/\a*b<=c*d :=
 ⟨Int.mul_nonneg h1 K,Int.mul_le_mul h2 Y K ai⟩
def OD(x y:Int)(q:0<=x/\x<=1152921504606846976)(hy:0<=y/\y<=1152921504606846976) :
  af 180 [.int .u64 x,.int .u64 y] (.eF [.int .u64 (x*y/18446744073709551616),.int .u64 (x*y%18446744073709551616)]):=by
 refine qn func180 call180 λβ hf=>?_;refine dn ?_;have V:∀n:Int,n.fdiv (2^min 32 (IntKind.bits .u64))=n/4294967296:=λn=>by rw[show(2:Int)^(min 32 (IntKind.bits .u64))=4294967296 from by decide];exact ahM n bn
 have P:∀n:Int,IntKind.u64.wrap n=n%18446744073709551616:=λn=>by simp[IntKind.wrap,IntKind.bits,IntKind.signed]
 simp only[V,Ru x ai ai,Ru y ai ai];obtain⟨W,O,N,U,h1,h2,K,Q,M⟩:∃W O:Int,x/4294967296=W/\x%4294967296=O/\0<=W/\W<=268435456/\0<=O/\O<=4294967295/\x=W*4294967296+O:=⟨_,_,rfl,rfl,ai,ai,ai,ai,ai⟩;obtain⟨Y,J,I,T,g1,H,D,C,G⟩:∃Y J:Int,y/4294967296=Y/\y%4294967296=J/\0<=Y/\Y<=268435456/\0<=J/\J<=4294967295/\y=Y*4294967296+J:=⟨_,_,rfl,rfl,ai,ai,ai,ai,ai⟩;rw[P (x*y)];rw[N,U,I,T];have e:=aaW W O Y J;rw[<- M,<- G]at e;have B:=qx h1 h2 g1 H;have A:=qx h1 h2 D C;have u:=qx K Q g1 H;have S:=qx K Q D C;have E:=af5 (W*Y) (W*J) (O*Y) (O*J) S.1;rw[<- e]at E;rw[<- E];generalize W*Y=p11 at *;generalize W*J=p10 at *;generalize O*Y=p01 at *;generalize O*J=p00 at *;rw[G6 (n:=p00) ai ai,G6 (n:=p10) ai ai,G6 (n:=p01) ai ai,G6 (n:=p11) ai ai];rw[G6 (n:=p10+p00/4294967296) ai ai,Ru _ ai ai];rw[G6 (n:=p11+_) ai ai,G6 (n:=(p10+p00/4294967296)%4294967296+p01) ai ai,G6 ai ai]
def zE(a:Int):0<=(pg a).1/\(pg a).1<=1152921504606846976:=by
 unfold pg;split
 ·rename_i h;have:=nB.1 h;dsimp only;split<;>omega
 simp
def ack(a:Int):0<=IntKind.u64.wrap (pg a).1/\IntKind.u64.wrap (pg a).1<=1152921504606846976:=by have:=zE a;rw[G6 ai ai];exact this
def Yl(a:Int):IntKind.u64.wrap (pg a).1=(pg a).1:=by have:=zE a;exact G6 ai ai
def Ym(a:Int):((pg a).2 != 0) = !xg a:=by unfold pg;split;rename_i h;simp[h];rename_i h;simp[h]
def Yn(a b:Int)(T:xg a=true)(U:xg b=true):((!(decide (a<0)==decide (b<0)))=false->(pg a).1*(pg b).1=a*b)/\((!(decide (a<0)==decide (b<0)))=true->(pg a).1*(pg b).1 = -(a*b)):=by by_cases h1:a<0<;>by_cases h2:b<0<;>simp[pg,T,U,h1,h2,Int.neg_mul_neg,Int.neg_mul,Int.mul_neg]
def JX(a b:Int):af 162 [.int .i64 a,.int .i64 b] (two (ud a b)):=by
 refine qn func162 call162 λβ hf=>?_
 repeat' (first|refine sz ?_|refine zc ?_ ?_|(intro h;first|(cases h;done)|rw[h]|skip)|refine uC Z (Dt a) ?_|refine uC Z (Dt b) ?_|refine uC Z (OD _ _ (ack _) (ack _)) ?_)
 all_goals simp only[Ym,Yl]at *
 simp_all [ud,two];simp_all [ud,two]
 all_goals
  obtain⟨h1,h2⟩:xg a=true/\xg b=true:=by simp_all
  obtain⟨W,P⟩:=Yn a b h1 h2;have V:=qx (zE a).1 (zE a).2 (zE b).1 (zE b).2;rw[show ud a b=m7 (a*b)from by simp[ud,h1,h2]];generalize (pg a).1*(pg b).1=q at *;generalize a*b=r at *
 ·have K:q/18446744073709551616≠0:=by simp_all
  have Y:¬(xg r=true):=by rw[nB];cases C:(!(decide (a<0)==decide (b<0)))<;>simp only[C,true_implies,reduceCtorEq,false_implies]at W P<;>omega
  simp[m7,Y,two]
 ·have K:q/18446744073709551616=0:=by simp_all
  have M:q%18446744073709551616>1152921504606846976:=by simp_all
  have Y:¬(xg r=true):=by rw[nB];cases C:(!(decide (a<0)==decide (b<0)))<;>simp only[C,true_implies,reduceCtorEq,false_implies]at W P<;>omega
  simp[m7,Y,two]
 ·have K:q/18446744073709551616=0:=by simp_all
  have M:q%18446744073709551616<=1152921504606846976:=by simp_all
  have S:=P ek;have Y:xg r=true:=nB.2 ai;rw[iB (n:=q%18446744073709551616) ai ai,iB ai ai];simp only[m7,Y,two,if_true];exact Yo ai Z
 have K:q/18446744073709551616=0:=by simp_all
 have M:q%18446744073709551616<=1152921504606846976:=by simp_all
 have S:=W ek;have Y:xg r=true:=nB.2 ai;rw[iB (n:=q%18446744073709551616) ai ai];simp only[m7,Y,two,if_true];exact Yo ai Z
end Go.Proofs
