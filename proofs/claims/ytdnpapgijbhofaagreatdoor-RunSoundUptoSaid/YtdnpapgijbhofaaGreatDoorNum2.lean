/- What move of package run's machine does. -/
import Derived.Test.YtdnpapgijbhofaaGreatDoorRun5
import Derived.Test.YtdnpapgijbhofaaGreatDoorChk3
import Derived.Test.YtdnpapgijbhofaaGreatDoorVal4
import Derived.Test.YtdnpapgijbhofaaGreatDoorFits
import Derived.Test.YtdnpapgijbhofaaGreatDoorKind5
open Go.IntKind
open Go.Proofs.Tryz
set_option linter.defProp false
set_option maxHeartbeats 0
set_option linter.unusedVariables false
set_option linter.unusedSimpArgs false
set_option maxRecDepth 100000
namespace Go.Proofs
open Go.cM
def dM.Xq{P:Program}{X:Ctx}{f:FuncId}{H N:L (Nat×L AV)}{J M:L AV}{r:AV}(h:∀(g:Gh) vs,bC g M vs->bC g J vs)(hq:dM P X f H J r N):dM P X f H M r N :=
 ⟨hq.1,λg w vs K p E=>hq.2 g w vs K p (h g vs E)⟩
def ZR{s t:Nat}{g:Gh}{u:Value}(h:aI g (.c (.sl s [])) u):aI g (.c (.sl t [])) u:=by
 simp only[aI,Rel]at h ⊢;obtain⟨base,K,D,h1,h2,Y,_⟩:=h;exact⟨base,K,D,h1,h2,Y,.inl trivial⟩
def gn(S:b9)(W:L Nd)(fin:Int)(B:S.fr.length<=1099511627776):cz 107 S [.c (.sl 5 (aG W)),.c (aE fin),.c (.sl 0 [])] .undef (dG S W fin []) :=
 dM.Xq (λg vs h=>by
  simp only[bC]at h ⊢;obtain⟨Y,_,rfl,h1,E,_,rfl,h2,V,_,rfl,K,U,_,rfl,T,rfl⟩:=h
  exact⟨Y,_,Z,h1,E,_,Z,h2,V,_,Z,K,U,_,Z,ZR T,Z⟩) (tK S W fin [] B)
def eU:aj 156 [.sl 0 []] (bO (cw [])) :=
 aZ.wk (by simp only[vG];exact⟨QO,trivial⟩) (Wk.refl _) (fE [])
def T6{st:L Vl}{k:Nat}{v:Vl}(h:st[k]?=some v):st.reverse[st.length-1-k]?=some v:=by
 obtain⟨h1,h2⟩:=List.getElem?_eq_some_iff.1 h;rw[List.getElem?_reverse bn];rw[show st.length-1-(st.length-1-k)=k from by omega];exact h
def QG{l:L Vl}{i:Nat}{v:Vl}(h:l[i]?=some v):lV l i=v:=by
 unfold lV;rw[aaS,h];rfl
def sD{T:AV->AV->Prop}(N:∀a,T a a):∀l:L AV,R7 T l l
 |[]=>trivial
 |a::l=>⟨N a,sD N l⟩
def Xr{a b:Nat}(h:a≠b):(!Nat.beq a b)=true:=by
 cases e:Nat.beq a b with
 |false=>rfl
 |true=>exact absurd (beq_true e) h
def AR{f:FuncId}{n:Nat}{β:je}{R:Ending->World->Prop}{K:L Item}{env:Env}(S:b9){a b:Nat}{us:L Nat}{bs:L (Nat×L AV)}{J G H:L AV}(U:ak 1000000 bs=some J)(T:J=mC S a b)(h1:ak a bs=some G)(q1:G=ag (sR S.st))(h2:ak b bs=some H)(N:H=ag (fR S.fr))(Q:Go.cM.distinct [1000000,a,b]=true)(Y:L (Nat×L AV))(W:∀g:Nat,Xe (R8 a 7 (sR S.st)) bs Y)(V:(Y.all λp => !Nat.beq p.1 a)=true){env':Env}{ts ts':L (Nat×Nat)}(u:Xd (R8 a 7 (sR S.st)) env env')(I:HM ts ts')
  (h:Dj f n β R K env' ⟨(1000000,JL S 0 b)::(b,ag (fR S.fr))::Y,ts',us⟩):Dj f n β R K env ⟨bs,ts,us⟩:=by
 subst T q1 N;obtain⟨P,O,M⟩:=y8 Q;have E:∀x,R8 a 7 (sR S.st) x x:=λ_ => .inl Z;refine AK.AO a 7 (sR S.st) (tail:=[]) (bs':=(1000000,JL S 0 b)::(b,ag (fR S.fr))::Y) h1 (Zc _).symm (fQ _) u ⟨⟨_,U,⟨E _,E _,E _,E _,.inr ⟨_,Z,(ig _).symm,Z⟩,sD E _⟩⟩,⟨_,h2,sD E _⟩,W 0⟩ ?_ I h;simp only[aaE,V,abe,Xr P,Xr (Ne.symm M)]
attribute [local irreducible] AK ah aZ cx dM dV mB
def Ep(S:b9)(G:Int)(P:L UInt8)(l:L Vl):cz 134 S [.c (aY (.mk 2 G 40 P [])),.c (.sl 7 (aa l))] (aE 0) S:=by
 refine mn func134 call134 λβ hf=>?_;exact dm
def NV(S:b9)(T:Int)(P:L UInt8)(a b:Vl)(W:aO a<=8589934593)(A:aO b<=8589934593)(V:S.st.length<=1000000000):gR 134 S [.c (aY (.mk 2 T 42 P [])),.c (.sl 7 (aa [a,b]))] (bp S [a,b]):=by
 have q:=oW S [a,b] (by intro v B;simp at B;rcases B with rfl|rfl<;>assumption) ek Ny;obtain⟨u,U,Q,O,Y,N,M⟩:=a;obtain⟨p,J,K,I,G,H,E⟩:=b;refine mn func134 call134 λβ hf=>?_;exact dm
def QH(S:b9)(G:Int)(P:L UInt8)(k:Nat)(V:Int)(O:L UInt8)(U:L Nd)(l:L Vl)(v:Vl)(M:1<=k)(B:S.st[k-1]?=some v)(T:aO v<=8589934593)(J:S.st.length<=1000000000) :
  gR 134 S [.c (aY (.mk 2 G 41 P [.mk 0 (k:Nat) V O U])),.c (.sl 7 (aa l))] (bp S [v]):=by
 have q:=oW S [v] (by intro x I;simp at I;subst I;exact T) ek Ny;have Q:=T6 B;have N:k-1<S.st.length:=(List.getElem?_eq_some_iff.1 B).1;obtain⟨u,H,E,D,Y,C,A⟩:=v;have K:i64.wrap (((S.st.length:Nat):Int)-(k:Nat))=((S.st.length-1-(k-1):Nat):Int):=by rw[gF bn bn];omega
 have p:decide (((k:Nat):Int)<1)=false:=aax bn;have uU:decide (i64.wrap (((S.st.length:Nat):Int)-(k:Nat))<0)=false:=by rw[K];exact aax bn
 have W:=Cd Q;refine mn func134 call134 λβ hf=>?_
 repeat' (first|refine me ?_|refine zc ?_ ?_|(intro h;first|(cases h;done)|rw[h]|skip)|refine uI Z (0) Z (Z) Z ?_|refine ah.iF hX kn Z Z Z Z Z Z Z Z Z (S.st.length-1-(k-1)) K bn ?_|refine ah.gh hX kn Z Z Z Z Z Z W Z ?_|refine rT ?_ (hq:=q)|(refine uA Z ?_ ?_<;>(try (show(_:Nat)*_<=_;dsimp only))))
 all_goals rfl
def QI{st:L Vl}{k:Nat}{v:Vl}(B:st[k]?=some v):sR (st.take k++st.drop (k+1))=aa (st.reverse.take (st.length-1-k)++st.reverse.drop (st.length-1-k+1)):=by
 have W:k<st.length:=(List.getElem?_eq_some_iff.1 B).1;have C:st.length-(st.length-1-k)=k+1:=by omega
 have Q:st.length-(st.length-1-k+1)=k:=by omega
 rw[sR,acn,List.take_reverse,List.drop_reverse,C,Q]
def QJ(S:b9)(G:Int)(P:L UInt8)(k:Nat)(U:Int)(O:L UInt8)(T:L Nd)(l:L Vl)(v:Vl)(B:S.st[k]?=some v)(hl:S.st.length<=1000000000) :
  cz 134 S [.c (aY (.mk 2 G 43 P [.mk 0 (k:Nat) U O T])),.c (.sl 7 (aa l))] (aE 0) {S with st:=v::(S.st.take k++S.st.drop (k+1))}:=by
 have N:=T6 B;have W:k<S.st.length:=(List.getElem?_eq_some_iff.1 B).1;have K:i64.wrap ((((sR S.st).length:Nat):Int)-(k:Nat))=((S.st.length-1-k+1:Nat):Int):=by rw[ig];rw[gF bn bn];omega
 have V:i64.wrap (i64.wrap ((((sR S.st).length:Nat):Int)-(k:Nat))-1)=((S.st.length-1-k:Nat):Int):=by rw[K,gF bn bn];omega
 have M:decide (((k:Nat):Int)<0)=false:=aax bn;have D:decide (i64.wrap ((((sR S.st).length:Nat):Int)-(k:Nat))<1)=false:=by rw[K];exact aax bn
 have J:(bif decide (((k:Nat):Int)<0)then true else decide (i64.wrap ((((sR S.st).length:Nat):Int)-(k:Nat))<1))=false:=by rw[M,D];rfl
 have Q:=pS S.st.reverse (S.st.length-1-k) R2 R2;rw[<- QI B]at Q;have I:(aa S.st.reverse)[S.st.length-1-k]?=some (bO v):=by rw[ja,N];rfl
 obtain⟨x,q,hq⟩:∃x q,S.st.reverse=x::q:=by
  cases h:S.st.reverse with
  |nil=>have:=Zb List.length h;simp at this;rw[this]at W;simp at W
  |cons x q=>exact⟨x,q,Z⟩
 have p:=eV x q TT;rw[<- hq]at p;have H:(AV.fZ 1000000 0 7 S.st.reverse.length::List.map AV.c [CV.int IntKind.i64 ((S.st.length-1-k:Nat):Int),CV.int IntKind.i64 ((S.st.length-1-k+1:Nat):Int)]) = .fZ 1000000 0 7 (q.length+1)::[CV.int IntKind.i64 (i64.wrap (i64.wrap ((((sR S.st).length:Nat):Int)-(k:Nat))-1)),CV.int IntKind.i64 (i64.wrap ((((sR S.st).length:Nat):Int)-(k:Nat)))].map AV.c:=by
  rw[V,K,hq];rfl
 obtain⟨u,E,C,A,Y,af,az⟩:=v;refine mn func134 call134 λβ hf=>?_;refine AR S Z Z Z Z Z Z Z [] (λ_=>trivial) Z (env':=[(0,.ptr 1000000 0),(1,.c (aY (.mk 2 G 43 P [.mk 0 (k:Nat) U O T]))),(2,.c (.sl 7 (aa l)))]) (ts':=[]) ce trivial ?_
 repeat' (first|refine me ?_|refine zc ?_ ?_|(intro h;first|(cases h;done)|rw[h]|skip)|refine uI Z (0) Z (Z) Z ?_|refine uI Z (S.st.length-1-k) V I Z ?_|refine ah.kr kn Z Z Z Z Z Z p Z ?_|refine ah.qh kn Z Z Z Z Z Z Z Z Z Q H Z ?_|refine ah.lQ hX kn Z Z Z Z Z Z Z Z Z Z Z Z Z Z Z (sR (S.st.take k++S.st.drop (k+1))) [] (Zc _).symm Z (by rw[ig];exact rU _) Z Z Z Z Z Z Z (show((sR (S.st.take k++S.st.drop (k+1))).length+1)*112<=_ by rw[ig,aay,ZQ,Z7];omega) (FI (.mk u E C A Y af az) _).symm (ig _) Z ?_|(refine uA Z ?_ ?_<;>(try (show(_:Nat)*_<=_;dsimp only))))
 all_goals rfl
end Go.Proofs
namespace Go.Proofs
open Go.cM
attribute [local irreducible] AK ah aZ cx dM dV mB
def jb(s:Nat):qy 83 [] [.c (.sl s [])] (.own .exact 7 []) []:=by
 refine dM.of func83 Z (λJ w=>call83 J w) (ZD Z) [(0,.c (.sl s []))] ⟨[],[],[]⟩ Z Z λβ=>?_;have hf:=func83
 repeat' (first|refine me ?_|refine zc ?_ ?_|(intro h;first|(cases h;done)|rw[h]|skip)|refine AK.oh Z ?_ ?_|refine ah.FH hX kn Z Z Z Z Z Z Z Z Z Z Z Z Z ?_|(refine uA Z ?_ ?_<;>(try (show(_:Nat)*_<=_;dsimp only))))
 ·refine AK.weak Em Em.rel Em.one (env':=[(2,.own .exact 7 [])]) (bs':=[]) (ts':=[]) ce trivial trivial ?_;exact Y7
 ·exact Y7
def Ce(x:Vl):qy 154 [] [.own .exact 7 [],.c (aE 0),.c (.sl 7 (aa [x]))] (.fZ 999999 0 7 1) [(999999,ag (aa [x]))]:=by
 obtain⟨u,U,W,V,Y,T,S⟩:=x;refine dM.of func154 Z (λJ w=>call154 J w) (ZD Z) [(0,.own .exact 7 []),(1,.c (aE 0)),(2,.c (.sl 7 (aa [.mk u U W V Y T S])))] ⟨[],[],[]⟩ Z Z λβ=>?_;have hf:=func154
 repeat' (first|refine me ?_|refine zc ?_ ?_|(intro h;first|(cases h;done)|rw[h]|skip)|refine AK.oh rfl ?_ ?_|refine ah.uq hX kn rfl rfl rfl rfl rfl rfl rfl rfl rfl rfl rfl rfl rfl rfl rfl rfl rfl rfl (λh=>by cases h) rfl rfl rfl (show(0+1)*112<=140737488355328 by decide) rfl (m:=1) rfl ?_|(refine uA rfl ?_ ?_<;>(try (show(_:Nat)*_<=_;dsimp only))))
 exact AK.AB hX hf Z [(999999,25)] Z ⟨_,Z,Z⟩ ⟨⟨_,_,Z,Z,dy _⟩,trivial⟩
def QK(st:L Vl)(k:Nat)(v:Vl)(D:k<=st.length):sR (st.take k++v::st.drop k)=aa (st.reverse.take (st.length-k)++v::st.reverse.drop (st.length-k)):=by
 have C:st.length-(st.length-k)=k:=by omega
 rw[sR,acn,abX,List.take_reverse,List.drop_reverse,C,aaQ];rfl
def QL(S:b9)(T:Int)(P:L UInt8)(k:Nat)(W:Int)(O:L UInt8)(V:L Nd)(v:Vl)(D:k<=S.st.length)(hl:S.st.length<=1000000000) :
  cz 134 S [.c (aY (.mk 2 T 44 P [.mk 0 (k:Nat) W O V])),.c (.sl 7 (aa [v]))] (aE 0) {S with st:=S.st.take k++v::S.st.drop k}:=by
 have B:decide (((k:Nat):Int)<0)=false:=aax bn;by_cases p:S.st=[]
 ·obtain⟨a,b,c,d,st,fr,g,u,m,G⟩:=S;simp only at p D hl;subst p;simp only[aad,Nat.le_zero]at D;subst D;have K:i64.wrap ((((sR []).length:Nat):Int)-(0:Nat))=0:=by decide
  have U:decide (i64.wrap ((((sR []).length:Nat):Int)-(0:Nat))<0)=false:=by rw[K];rfl
  have Q:(bif decide (((0:Nat):Int)<0)then true else decide (i64.wrap ((((sR []).length:Nat):Int)-(0:Nat))<0))=false:=by rw[B,U];rfl
  have E:=Ce v;obtain⟨C,I,N,M,Y,J,H⟩:=v;refine mn func134 call134 λβ hf=>?_;refine AR (b9.mk a b c d [] fr g u m G) Z Z Z Z Z Z Z [] (λ_=>trivial) Z (env':=[(0,.ptr 1000000 0),(1,.c (aY (.mk 2 T 44 P [.mk 0 ((0:Nat):Int) W O V]))),(2,.c (.sl 7 (aa [.mk C I N M Y J H])))]) (ts':=[]) ce trivial ?_
  repeat' (first|refine me ?_|refine zc ?_ ?_|(intro h;first|(cases h;done)|rw[h]|skip)|refine uI Z (0) Z (Z) Z ?_|refine ah.wo kn Z Z (jb 7) Z Z (λ_=>⟨_,_,Z,.inr Z,Z⟩) Z Z ?_|refine ah.QD kn Z Z E Z Z Z Z (λ_=>⟨_,_,Z,Z,_,_,Z,.inl (Zb (λz=>AV.c (.int .i64 z)) K),_,_,Z,.inr Z,Z⟩) ?_|(refine uA Z ?_ ?_<;>(try (show(_:Nat)*_<=_;dsimp only))))
  all_goals rfl
 ·have hne:0<S.st.length:=List.length_pos_iff.2 p;have K:i64.wrap ((((sR S.st).length:Nat):Int)-(k:Nat))=((S.st.length-k:Nat):Int):=by rw[ig,gF bn bn];omega
  have U:decide (i64.wrap ((((sR S.st).length:Nat):Int)-(k:Nat))<0)=false:=by rw[K];exact aax bn
  have Q:(bif decide (((k:Nat):Int)<0)then true else decide (i64.wrap ((((sR S.st).length:Nat):Int)-(k:Nat))<0))=false:=by rw[B,U];rfl
  have A:=tL S.st.reverse v (S.st.length-k) R2 R2 R2;rw[<- QK _ _ _ D,ig]at A;obtain⟨x,q,hq⟩:∃x q,S.st.reverse=x::q:=by
   cases h:S.st.reverse with
   |nil=>exact absurd (List.reverse_eq_nil_iff.1 h) p
   |cons x q=>exact⟨x,q,Z⟩
  have ju:=eV x q TT;rw[<- hq]at ju;have KA:(AV.fZ 1000000 0 7 S.st.reverse.length::List.map AV.c [CV.int IntKind.i64 ((S.st.length-k:Nat):Int),CV.sl 7 (aa [v])]) = .fZ 1000000 0 7 (q.length+1)::[CV.int IntKind.i64 (i64.wrap ((((sR S.st).length:Nat):Int)-(k:Nat))),CV.sl 7 (aa [v])].map AV.c:=by
   rw[K,hq];rfl
  obtain⟨C,I,N,M,Y,J,H⟩:=v;refine mn func134 call134 λβ hf=>?_;refine AR S Z Z Z Z Z Z Z [] (λ_=>trivial) Z (env':=[(0,.ptr 1000000 0),(1,.c (aY (.mk 2 T 44 P [.mk 0 (k:Nat) W O V]))),(2,.c (.sl 7 (aa [.mk C I N M Y J H])))]) (ts':=[]) ce trivial ?_
  repeat' (first|refine me ?_|refine zc ?_ ?_|(intro h;first|(cases h;done)|rw[h]|skip)|refine uI Z (0) Z (Z) Z ?_|refine ah.kr kn Z Z Z Z Z Z ju Z ?_|refine ah.qh kn Z Z Z Z Z Z Z Z Z A KA Z ?_|(refine uA Z ?_ ?_<;>(try (show(_:Nat)*_<=_;dsimp only))))
  all_goals rfl
end Go.Proofs
namespace Go.Proofs
open Go.cM
mutual
def zY:∀(n:Nd)(d left:Int)(t:Ty)(m:Int),fj n d left=(some t,m)->NW t=n
 |.mk P W p s J,d,left,t,m,h=>by
  simp only[fj]at h;split at h
  ·simp at h
  ·rename_i A;simp only[not_or,ne_eq,aaK]at A;rcases D:dK J (d+1) (left-1)with ⟨b,Y⟩
   rw[D]at h;cases b with
   |none=>simp at h
   |some l =>
    simp at h;have:=xE J (d+1) (left-1) l Y D;rw[<- h.1];simp only[NW,this];rw[A.2.2.1,A.2.2.2.1,A.2.2.2.2.1]
def xE:∀(l:L Nd)(d left:Int)(r:L Ty)(m:Int),dK l d left=(some r,m)->Ig r=l
 |[],d,left,r,m,h=>by simp[dK]at h;rw[h.1];rfl
 |x::l,d,left,r,m,h=>by
  simp only[dK]at h;rcases D:fj x d left with ⟨b,Y⟩
  rw[D]at h;cases b with
  |none=>simp at h
  |some t =>
   simp only at h;rcases u:dK l d Y with ⟨B,V⟩
   rw[u]at h;cases B with
   |none=>simp at h
   |some q =>
    simp at h;have h1:=zY x d left t Y D;have h2:=xE l d Y q V u;rw[<- h.1];simp only[Ig,h1,h2]
end
def tM(n:Nd):(∃t,aW n=(t,0)/\br t=true/\NW t=n/\bw t<=bZ n)\/aW n=(.mk 0 [],1):=by
 simp only[aW];rcases D:fj n 1 300 with ⟨b,m⟩
 cases b with
 |none=>right;rfl
 |some t =>
  simp only;cases p:br t
  ·right;rfl
  ·left;exact⟨t,Z,p,zY n 1 300 t m D,sN n 1 300 t m D⟩
attribute [local irreducible] AK ah aZ cx NW Ig br jE fq kH fO iV arity aW cP Bo Xt dD
end Go.Proofs
namespace Go.Proofs
open Go.cM
def fC(S:b9)(v:Vl)(V:aO v<=8589934593)(B:S.st.length<=1000000000):gR 152 S [.c (.sl 7 (aa [v]))] (bp S [v]) :=
 oW S [v] (by intro x I;simp at I;subst I;exact V) ek Ny
def Vo(S:b9)(v w:Vl)(V:aO v<=8589934593)(M:aO w<=8589934593)(B:S.st.length<=1000000000):gR 152 S [.c (.sl 7 (aa [v,w]))] (bp S [v,w]) :=
 oW S [v,w] (by intro x I;simp at I;rcases I with rfl|rfl<;>assumption) ek Ny
def Cf(x:Nd)(I:bZ x<=8589934593):bw (aW x).1<=8589934593:=by
 rcases tM x with ⟨t,h,_,_,W⟩|h
 ·rw[h];exact aaG W I
 ·rw[h];decide
attribute [local irreducible] AK ah aZ cx dM dV mB aW gQ
def KD(S:b9)(G:Int)(P:L UInt8)(x y:Nd)(I:bZ x<=8589934593)(J:bZ y<=8589934593)(u:(gQ (aW x).1 y).2=0)(p:aO ((gQ (aW x).1 y).1)<=8589934593)(B:S.st.length<=1000000000):gR 135 S [.c (aY (.mk 2 G 45 P [x,y])),.c (.sl 7 (aa []))] (bp S [(gQ (aW x).1 y).1]):=by
 have q:=fC S ((gQ (aW x).1 y).1) p B;have hq:=jF x I;have K:bw (aW x).1<=8589934593:=Cf x I;have E:=ru (aW x).1 y K J;rw[u]at E;generalize W:(gQ (aW x).1 y).1=w at q E ⊢;clear u;generalize aW x=tp at hq E K;obtain⟨⟨T,us⟩,e⟩:=tp;obtain⟨C,U,V,Q,Y,O,N⟩:=w;obtain⟨M,H,D,A,i5⟩:=x;obtain⟨j1,j2,j3,j4,j5⟩:=y;refine mn func135 call135 λβ hf=>?_;exact dm
def KE(S:b9)(T:Int)(P:L UInt8)(a b:Vl)(p:aO (bt a b)<=8589934593)(B:S.st.length<=1000000000):gR 135 S [.c (aY (.mk 2 T 46 P [])),.c (.sl 7 (aa [a,b]))] (bp S [bt a b]):=by
 have q:=fC S (bt a b) p B;have hq:=gN a b;obtain⟨u,U,W,V,Y,Q,O⟩:=a;obtain⟨A,J,N,M,G,K,I⟩:=b;refine mn func135 call135 λβ hf=>?_;exact dm
def KF(S:b9)(G:Int)(P:L UInt8)(x:Nd)(a:Vl)(p:aO (.mk 12 (50-50) 0 [] [a] [] [])<=8589934593)(B:S.st.length<=1000000000):gR 135 S [.c (aY (.mk 2 G 50 P [x])),.c (.sl 7 (aa [a]))] (bp S [.mk 12 (50-50) 0 [] [a] [] []]):=by
 have q:=fC S (.mk 12 (50-50) 0 [] [a] [] []) p B;obtain⟨u,U,W,V,Y,T,Q⟩:=a;refine mn func135 call135 λβ hf=>?_;exact dm
def KG(S:b9)(G:Int)(P:L UInt8)(x:Nd)(a:Vl)(p:aO (.mk 12 (51-50) 0 [] [a] [] [])<=8589934593)(B:S.st.length<=1000000000):gR 135 S [.c (aY (.mk 2 G 51 P [x])),.c (.sl 7 (aa [a]))] (bp S [.mk 12 (51-50) 0 [] [a] [] []]):=by
 have q:=fC S (.mk 12 (51-50) 0 [] [a] [] []) p B;obtain⟨u,U,W,V,Y,T,Q⟩:=a;refine mn func135 call135 λβ hf=>?_;exact dm
def KH(S:b9)(G:Int)(P:L UInt8)(a:Vl)(p:aO (cw [a])<=8589934593)(B:S.st.length<=1000000000):gR 135 S [.c (aY (.mk 2 G 53 P [])),.c (.sl 7 (aa [a]))] (bp S [cw [a]]):=by
 have q:=fC S (cw [a]) p B;have hq:=fE [a];obtain⟨u,U,W,V,Y,T,Q⟩:=a;refine mn func135 call135 λβ hf=>?_;exact dm
def KI(S:b9)(G:Int)(P:L UInt8)(x:Nd)(p:aO (cw [])<=8589934593)(B:S.st.length<=1000000000):gR 135 S [.c (aY (.mk 2 G 54 P [x])),.c (.sl 7 (aa []))] (bp S [cw []]):=by
 have q:=fC S (cw []) p B;refine mn func135 call135 λβ hf=>?_;have Y:=eU;exact dm
def NX(S:b9)(G:Int)(P:L UInt8)(x:Nd)(p:aO (.mk 10 0 0 [] [] [] [])<=8589934593)(B:S.st.length<=1000000000):gR 135 S [.c (aY (.mk 2 G 56 P [x])),.c (.sl 7 (aa []))] (bp S [.mk 10 0 0 [] [] [] []]):=by
 have q:=fC S (.mk 10 0 0 [] [] [] []) p B;refine mn func135 call135 λβ hf=>?_;exact dm
def KJ(S:b9)(T:Int)(P:L UInt8)(k n c:Int)(s:L UInt8)(a b:Vl)(Y:L Ty)(W:L Nd)(p:aO (b)<=8589934593)(h1:aO (a)<=8589934593)(B:S.st.length<=1000000000):gR 135 S [.c (aY (.mk 2 T 47 P [])),.c (.sl 7 (aa [.mk k n c s [a,b] Y W]))] (bp S [b,a]):=by
 have q:=Vo S (b) (a) p h1 B;obtain⟨u,U,Q,O,V,N,M⟩:=a;obtain⟨A,J,K,I,G,H,E⟩:=b;refine mn func135 call135 λβ hf=>?_;exact dm
def KK(S:b9)(T:Int)(P:L UInt8)(k n c:Int)(s:L UInt8)(a b:Vl)(Y:L Ty)(W:L Nd)(p:aO (a)<=8589934593)(B:S.st.length<=1000000000):gR 135 S [.c (aY (.mk 2 T 48 P [])),.c (.sl 7 (aa [.mk k n c s [a,b] Y W]))] (bp S [a]):=by
 have q:=fC S (a) p B;obtain⟨u,U,Q,O,V,N,M⟩:=a;obtain⟨A,J,K,I,G,H,E⟩:=b;refine mn func135 call135 λβ hf=>?_;exact dm
def KL(S:b9)(T:Int)(P:L UInt8)(k n c:Int)(s:L UInt8)(a b:Vl)(Y:L Ty)(W:L Nd)(p:aO (b)<=8589934593)(B:S.st.length<=1000000000):gR 135 S [.c (aY (.mk 2 T 49 P [])),.c (.sl 7 (aa [.mk k n c s [a,b] Y W]))] (bp S [b]):=by
 have q:=fC S (b) p B;obtain⟨u,U,Q,O,V,N,M⟩:=a;obtain⟨A,J,K,I,G,H,E⟩:=b;refine mn func135 call135 λβ hf=>?_;exact dm
end Go.Proofs
namespace Go.Proofs
open Go.cM
def Ih(f:gU)(t:List gU)(j:Nat)(T:j<4)(v:CV):dI (0+t.length*4+j) [.c v] (ag (fR (f::t)))=some (ag (fR t)++(ag [qi f]).set j (.c v)):=by
 have h:=AS t;have e:(ag (fR t)).length=t.length*4:=by rw[ag,aap];exact h
 have B:0+t.length*4+j<(ag (fR (f::t))).length:=by rw[kN,aay,e];show _<_+4;omega
 rw[zV B,kN,ZG,List.set_append_right _ _ bn,e,Nat.add_sub_cancel_left]
def Cg(f:gU)(t:List gU)(n:Nat):dI (0+t.length*4+1) [.c (aE (n:Nat))] (ag (fR (f::t)))=some (ag (fR ({f with pos:=n}::t))):=by
 rw[Ih f t 1 cc,kN];rfl
def QM(f:gU)(t:List gU)(l:L Vl):dI (0+t.length*4+3) [.c (.sl 7 (aa l))] (ag (fR (f::t)))=some (ag (fR ({f with aside:=l}::t))):=by
 rw[Ih f t 3 cc,kN];rfl
def QN(W:L Nd)(fin:Int)(p:L Vl)(t:List gU):dI (0+t.length*4+1) [.c (aE ((aG W).length:Nat))] (ag (fR (⟨W,0,fin,p⟩::t)))=some (ag (fR (⟨W,W.length,fin,p⟩::t))):=by
 rw[bq];exact Cg _ _ _
attribute [local irreducible] AK ah aZ cx dM dV mB aW gQ
def Ds(S:b9)(G:Int)(P:L UInt8)(T q1:Int)(u:L UInt8)(V:L Nd)(O N:Int)(M:L UInt8)(C:L Nd)(k c:Int)(s:L UInt8)(Y:L Ty)(W:L Nd)(x:Vl)(I:aO x<=8589934593)(B:S.st.length<=1000000000)(Q:S.fr.length<=1099511627776):gR 136 S [.c (aY (.mk 2 G 52 P [.mk 3 T q1 u V,.mk 3 O N M C])),.c (.sl 7 (aa [.mk k 0 c s [x] Y W]))] (bp (dG S V 0 []) [x]):=by
 have K:=gn S V 0 Q;have q:=fC (dG S V 0 []) x I B;obtain⟨J,H,E,D,U,A,p⟩:=x;refine mn func136 call136 λβ hf=>?_;exact dm
def Dt(S:b9)(G:Int)(P:L UInt8)(U q1:Int)(u:L UInt8)(T:L Nd)(O N:Int)(M:L UInt8)(C:L Nd)(k c:Int)(s:L UInt8)(Y:L Ty)(W:L Nd)(x:Vl)(I:aO x<=8589934593)(B:S.st.length<=1000000000)(Q:S.fr.length<=1099511627776):gR 136 S [.c (aY (.mk 2 G 52 P [.mk 3 U q1 u T,.mk 3 O N M C])),.c (.sl 7 (aa [.mk k 1 c s [x] Y W]))] (bp (dG S C 0 []) [x]):=by
 have K:=gn S C 0 Q;have q:=fC (dG S C 0 []) x I B;obtain⟨J,H,E,D,V,A,p⟩:=x;refine mn func136 call136 λβ hf=>?_;exact dm
def Du(S:b9)(G:Int)(P:L UInt8)(U q1:Int)(u:L UInt8)(V:L Nd)(O N:Int)(T:L UInt8)(C:L Nd)(k c:Int)(s:L UInt8)(Y:L Ty)(W:L Nd)(n:Int)(B:S.st.length<=1000000000)(Q:S.fr.length<=1099511627776):gR 136 S [.c (aY (.mk 2 G 55 P [.mk 3 U q1 u V,.mk 3 O N T C])),.c (.sl 7 (aa [.mk k n c s [] Y W]))] (bp (dG S V 0 []) []):=by
 have M:=gn S V 0 Q;have q:=oW (dG S V 0 []) [] (λ_ h=>by simp at h) ek (by show S.st.length+0<=_;omega);refine mn func136 call136 λβ hf=>?_;exact dm
def Dv(S:b9)(G:Int)(P:L UInt8)(U q1:Int)(u:L UInt8)(T:L Nd)(O N:Int)(M:L UInt8)(C:L Nd)(k c:Int)(s:L UInt8)(Y:L Ty)(W:L Nd)(n:Int)(x:Vl)(I:aO x<=8589934593)(B:S.st.length<=1000000000)(Q:S.fr.length<=1099511627776):gR 136 S [.c (aY (.mk 2 G 55 P [.mk 3 U q1 u T,.mk 3 O N M C])),.c (.sl 7 (aa [.mk k n c s [x] Y W]))] (bp (dG S C 0 []) [x]):=by
 have K:=gn S C 0 Q;have q:=fC (dG S C 0 []) x I B;obtain⟨J,H,E,D,V,A,p⟩:=x;refine mn func136 call136 λβ hf=>?_;exact dm
def Dw(S:b9)(G:Int)(P:L UInt8)(V q1:Int)(u:L UInt8)(U:L Nd)(O N:Int)(T:L UInt8)(C:L Nd)(k c:Int)(s:L UInt8)(Y:L Ty)(W:L Nd)(n:Int)(B:S.st.length<=1000000000)(Q:S.fr.length<=1099511627776):gR 136 S [.c (aY (.mk 2 G 58 P [.mk 3 V q1 u U,.mk 3 O N T C])),.c (.sl 7 (aa [.mk k n c s [] Y W]))] (((0,dG S C 0 []):MR)):=by
 have M:=gn S C 0 Q;refine mn func136 call136 λβ hf=>?_;exact dm
def Dx(S:b9)(G:Int)(P:L UInt8)(O q1:Int)(u:L UInt8)(V:L Nd)(N M:Int)(K:L UInt8)(C:L Nd)(k c:Int)(s:L UInt8)(Y:L Ty)(W:L Nd)(n:Int)(x:Vl)(xs:L Vl)(I:aO x<=8589934593)(U:aO (.mk 10 0 0 [] xs [] [])<=8589934593)(B:S.st.length<=1000000000)(Q:S.fr.length<=1099511627776):gR 136 S [.c (aY (.mk 2 G 58 P [.mk 3 O q1 u V,.mk 3 N M K C])),.c (.sl 7 (aa [.mk k n c s (x::xs) Y W]))] (bp (dG S V 0 []) [.mk 10 0 0 [] xs [] [],x]):=by
 have J:=gn S V 0 Q;have q:=Vo (dG S V 0 []) (.mk 10 0 0 [] xs [] []) x U I B;have A:((((aa (x::xs)).length:Nat):Int)==0)=false:=by simp only[aa,aac];exact beq_eq_false_iff_ne.2 bn
 obtain⟨H,E,D,p,T,af,az⟩:=x;refine mn func136 call136 λβ hf=>?_;exact dm
def FJ(S:b9)(G:Int)(P:L UInt8)(T q1:Int)(u:L UInt8)(U:L Nd)(k c:Int)(s:L UInt8)(Y:L Ty)(W:L Nd)(n:Int)(xs:L Vl)(B:S.st.length<=1000000000)(Q:S.fr.length<=1099511627776):gR 136 S [.c (aY (.mk 2 G 60 P [.mk 3 T q1 u U])),.c (.sl 7 (aa [.mk k n c s xs Y W]))] (((0,uw S U 3 xs):MR)):=by
 have O:=tK S U 3 xs Q;have J:i64.wrap (((S.fr.length+1:Nat):Int)-1)=(S.fr.length:Nat):=by rw[gF bn bn];omega
 have V:=QN U 3 xs S.fr;refine mn func136 call136 λβ hf=>?_
 repeat' (first|refine me ?_|refine zc ?_ ?_|(intro h;first|(cases h;done)|rw[h]|skip)|refine uI Z (0) Z (Z) Z ?_|refine rT ?_ (hq:=O)|refine ah.iF hX kn Z Z Z Z Z Z Z Z Z S.fr.length J (ZX _) ?_|refine ah.store hX kn Z Z Z Z Z Z Z Z Z V Z ?_|(refine uA Z ?_ ?_<;>(try (show(_:Nat)*_<=_;dsimp only))))
 all_goals rfl
def Ii(S:b9)(G:Int)(P:L UInt8)(V q1:Int)(u:L UInt8)(U:L Nd)(O N:Int)(T:L UInt8)(C:L Nd)(k c:Int)(s:L UInt8)(Y:L Ty)(W:L Nd)(xs:L Vl)(B:S.st.length<=1000000000)(Q:S.fr.length<=1099511627776):gR 136 S [.c (aY (.mk 2 G 64 P [.mk 3 V q1 u U,.mk 3 O N T C])),.c (.sl 7 (aa [.mk k 0 c s xs Y W]))] (((0,dG S C 0 []):MR)):=by
 have M:=gn S C 0 Q;refine mn func136 call136 λβ hf=>?_
 repeat' (first|refine me ?_|refine zc ?_ ?_|(intro h;first|(cases h;done)|rw[h]|skip)|refine uI Z (0) Z (Z) Z ?_|refine uI Z 1 Z Z Z ?_|refine rT ?_ (hq:=M)|(refine uA Z ?_ ?_<;>(try (show(_:Nat)*_<=_;dsimp only))))
 all_goals rfl
def Ij(S:b9)(G:Int)(P:L UInt8)(U q1:Int)(u:L UInt8)(V:L Nd)(O N:Int)(T:L UInt8)(C:L Nd)(k c:Int)(s:L UInt8)(Y:L Ty)(W:L Nd)(xs:L Vl)(B:S.st.length<=1000000000)(Q:S.fr.length<=1099511627776):gR 136 S [.c (aY (.mk 2 G 64 P [.mk 3 U q1 u V,.mk 3 O N T C])),.c (.sl 7 (aa [.mk k 1 c s xs Y W]))] (((0,dG S V 0 []):MR)):=by
 have M:=gn S V 0 Q;refine mn func136 call136 λβ hf=>?_
 repeat' (first|refine me ?_|refine zc ?_ ?_|(intro h;first|(cases h;done)|rw[h]|skip)|refine uI Z (0) Z (Z) Z ?_|refine uI Z 0 Z Z Z ?_|refine rT ?_ (hq:=M)|(refine uA Z ?_ ?_<;>(try (show(_:Nat)*_<=_;dsimp only))))
 all_goals rfl
def FK(S:b9)(G:Int)(P:L UInt8)(U q1:Int)(u:L UInt8)(V:L Nd)(x:Vl)(B:S.st.length<=1000000000)(Q:S.fr.length<=1099511627776):gR 136 S [.c (aY (.mk 2 G 65 P [.mk 3 U q1 u V])),.c (.sl 7 (aa [x]))] (((0,{uw S V 4 []with st:=x::S.st}):MR)):=by
 have T:=gn S V 4 Q;have J:i64.wrap (((S.fr.length+1:Nat):Int)-1)=(S.fr.length:Nat):=by rw[gF bn bn];omega
 have W:=QN V 4 [] S.fr;obtain⟨C,I,O,N,Y,M,K⟩:=x;have H:=KN C I O N Y M K S.st;refine mn func136 call136 λβ hf=>?_
 repeat' (first|refine me ?_|refine zc ?_ ?_|(intro h;first|(cases h;done)|rw[h]|skip)|refine uI Z (0) Z (Z) Z ?_|refine rT ?_ (hq:=T)|refine ah.iF hX kn Z Z Z Z Z Z Z Z Z S.fr.length J (ZX _) ?_|refine ah.store hX kn Z Z Z Z Z Z Z Z Z W Z ?_|refine ah.lQ hX kn Z Z Z Z Z Z Z Z Z Z Z Z Z Z Z (sR S.st) [] (Zc _).symm (ig _).symm (rU _) Z Z Z Z Z Z Z (show((sR S.st).length+1)*112<=_ by rw[ig];omega) Z (m:=S.st.length+1) (by rw[aay,ig];rfl) Z ?_|refine ah.iF hX kn Z Z Z Z Z Z Z Z Z S.st.length Z (ZX _) ?_|refine ah.store hX kn Z Z Z Z Z Z Z Z Z (H _ Z) Z ?_|(refine uA Z ?_ ?_<;>(try (show(_:Nat)*_<=_;dsimp only))))
 all_goals rfl
def Ik(S:b9)(G:Int)(P:L UInt8)(V q1:Int)(u:L UInt8)(Y:L Nd)(x:Vl)(B:S.st.length<=1000000000)(Q:S.fr.length<=1099511627776):gR 136 S [.c (aY (.mk 2 G 68 P [.mk 3 V q1 u Y])),.c (.sl 7 (aa [x]))] (((0,dG S Y 1 [x]):MR)):=by
 have T:=tK S Y 1 [x] Q;obtain⟨C,U,O,N,W,M,K⟩:=x;refine mn func136 call136 λβ hf=>?_;exact dm
def Ch(S:b9)(G:Int)(P:L UInt8)(x y:Nd)(W q1:Int)(u:L UInt8)(Y:L Nd)(I:bZ x<=8589934593)(J:bZ y<=8589934593)(B:aO (.mk 14 0 0 [] [] [(aW x).1,(aW y).1] Y)<=8589934593)(V:S.st.length<=1000000000)(Q:S.fr.length<=1099511627776):gR 136 S [.c (aY (.mk 2 G 66 P [x,y,.mk 3 W q1 u Y])),.c (.sl 7 (aa []))] (bp S [.mk 14 0 0 [] [] [(aW x).1,(aW y).1] Y]):=by
 have q:=fC S (.mk 14 0 0 [] [] [(aW x).1,(aW y).1] Y) B V;have U:=jF x I;have O:=jF y J;clear B;generalize aW x=tp at q U ⊢;generalize aW y=tq at q O ⊢;obtain⟨⟨T,us⟩,e⟩:=tp;obtain⟨⟨N,M⟩,e2⟩:=tq;obtain⟨K,H,E,D,C⟩:=x;obtain⟨A,p,j3,j4,j5⟩:=y;refine mn func136 call136 λβ hf=>?_;exact dm
def FL(S:b9)(G:Int)(P:L UInt8)(x:Vl)(k c:Int)(s:L UInt8)(Y:L Ty)(W:L Nd)(n:Int)(xs:L Vl)(B:S.st.length<=1000000000)(Q:S.fr.length<=1099511627776):gR 136 S [.c (aY (.mk 2 G 67 P [])),.c (.sl 7 (aa [x,.mk k n c s xs Y W]))] (((0,{dG S W 2 S.st.reverse with st:=[x]}):MR)):=by
 have T:=FM S W 2 S.st.reverse Q;obtain⟨u,U,O,N,V,M,K⟩:=x;refine mn func136 call136 λβ hf=>?_;refine AR S Z Z Z Z Z Z Z [] (λ_=>trivial) Z (env':=[(0,.ptr 1000000 0),(1,.c (aY (.mk 2 G 67 P []))),(2,.c (.sl 7 (aa [.mk u U O N V M K,.mk k n c s xs Y W])))]) (ts':=[]) ce trivial ?_
 repeat' (first|refine ah.gZ hX kn Z Z Z Z Z Z Z Z Z Z Z Z Z Z ?_|refine me ?_|refine zc ?_ ?_|(intro h;first|(cases h;done)|rw[h]|skip)|refine uI Z (0) Z (Z) Z ?_|refine uI Z (1) Z (Z) Z ?_|refine Vp ?_ (hq:=T)|(refine uA Z ?_ ?_<;>(try (show(_:Nat)*_<=_;dsimp only))))
 all_goals rfl
end Go.Proofs
namespace Go.Proofs
open Go.cM
attribute [local irreducible] AK ah aZ
def Ci{n:Int}(h1:0<=n)(h2:n<=18446744073709551615):IntKind.u64.wrap n=n:=by
 simp[IntKind.wrap,IntKind.bits,IntKind.signed];omega
def KO(x:Int)(p:0<=x)(h1:x<=18446744073709551615):IntKind.u64.wrap ((BitVec.ofInt (IntKind.bits .u64) x&&&BitVec.ofInt (IntKind.bits .u64) 4294967295).toNat:Nat)=x%4294967296:=by
 have e:((BitVec.ofInt (IntKind.bits .u64) x&&&BitVec.ofInt (IntKind.bits .u64) 4294967295).toNat)=x.toNat%4294967296:=by
  rw[BitVec.toNat_and,BitVec.toNat_ofInt,BitVec.toNat_ofInt];have C:((4294967295:Int)%((2^IntKind.bits .u64:Nat):Int)).toNat=2^32-1:=by decide
  have Q:(x%((2^IntKind.bits .u64:Nat):Int)).toNat=x.toNat:=by
   have:((2^IntKind.bits .u64:Nat):Int)=18446744073709551616:=by decide
   rw[this,Int.emod_eq_of_lt p bn]
  rw[C,Q,acv]
 rw[e,Ci bn bn];omega
def Xu(V W U Y:Int)(h:0<=Y):V+(W+Y/4294967296)/4294967296+((W+Y/4294967296)%4294967296+U)/4294967296=(V*18446744073709551616+(W+U)*4294967296+Y)/18446744073709551616:=by omega
def S3(Y W M V:Int):(Y*4294967296+W)*(M*4294967296+V)=(Y*M)*18446744073709551616+(Y*V+W*M)*4294967296+W*V:=by
 simp only[Int.add_mul,Int.mul_add];have C:Y*4294967296*(M*4294967296)=Y*M*18446744073709551616:=by
  rw[<- acF,Int.mul_right_comm Y 4294967296 M,acF];rfl
 rw[Int.mul_right_comm Y 4294967296 V,C,<- acF W M];omega
def nw{a b c d:Int}(h1:0<=a)(h2:a<=c)(K:0<=b)(W:b<=d):0<=a*b/\a*b<=c*d :=
 ⟨Int.mul_nonneg h1 K,Int.mul_le_mul h2 W K bn⟩
def Il(x y:Int)(q:0<=x/\x<=1152921504606846976)(p:0<=y/\y<=1152921504606846976) :
  aj 180 [.int .u64 x,.int .u64 y] (.gb [.int .u64 (x*y/18446744073709551616),.int .u64 (x*y%18446744073709551616)]):=by
 refine qn func180 call180 λβ hf=>?_;refine dn ?_;have U:∀n:Int,n.fdiv (2^min 32 (IntKind.bits .u64))=n/4294967296:=λn=>by
  rw[show(2:Int)^(min 32 (IntKind.bits .u64))=4294967296 from by decide];exact abQ n cc
 have J:∀n:Int,IntKind.u64.wrap n=n%18446744073709551616:=λn=>by simp[IntKind.wrap,IntKind.bits,IntKind.signed]
 simp only[U,KO x bn bn,KO y bn bn];obtain⟨Y,W,I,T,h1,h2,K,P,G⟩:∃Y W:Int,x/4294967296=Y/\x%4294967296=W/\0<=Y/\Y<=268435456/\0<=W/\W<=4294967295/\x=Y*4294967296+W:=⟨_,_,rfl,rfl,bn,bn,bn,bn,bn⟩
 obtain⟨M,V,E,S,g1,H,u,O,D⟩:∃M V:Int,y/4294967296=M/\y%4294967296=V/\0<=M/\M<=268435456/\0<=V/\V<=4294967295/\y=M*4294967296+V:=⟨_,_,rfl,rfl,bn,bn,bn,bn,bn⟩
 rw[J (x*y)];rw[I,T,E,S];have e:=S3 Y W M V;rw[<- G,<- D]at e;have C:=nw h1 h2 g1 H;have B:=nw h1 h2 u O;have A:=nw K P g1 H;have Q:=nw K P u O;have N:=Xu (Y*M) (Y*V) (W*M) (W*V) Q.1;rw[<- e]at N;rw[<- N];generalize Y*M=T8 at *;generalize Y*V=Vq at *;generalize W*M=Xv at *;generalize W*V=T9 at *;rw[Ci (n:=T9) bn bn,Ci (n:=Vq) bn bn,Ci (n:=Xv) bn bn,Ci (n:=T8) bn bn];rw[Ci (n:=Vq+T9/4294967296) bn bn,KO _ bn bn];rw[Ci (n:=T8+_) bn bn,Ci (n:=(Vq+T9/4294967296)%4294967296+Xv) bn bn,Ci bn bn]
def uV(a:Int):0<=(mh a).1/\(mh a).1<=1152921504606846976:=by
 unfold mh;split
 ·rename_i h;have:=kS.1 h;dsimp only;split<;>omega
 ·simp
def Ua(a:Int):0<=IntKind.u64.wrap (mh a).1/\IntKind.u64.wrap (mh a).1<=1152921504606846976:=by
 have:=uV a;rw[Ci bn bn];exact this
def QS(a:Int):IntKind.u64.wrap (mh a).1=(mh a).1:=by
 have:=uV a;exact Ci bn bn
def QT(a:Int):((mh a).2 != 0) = !sJ a:=by
 unfold mh;split
 ·rename_i h;simp[h]
 ·rename_i h;simp[h]
def QU(a b:Int)(W:sJ a=true)(A:sJ b=true):((!(decide (a<0)==decide (b<0)))=false->(mh a).1*(mh b).1=a*b)/\((!(decide (a<0)==decide (b<0)))=true->(mh a).1*(mh b).1 = -(a*b)):=by
 by_cases h1:a<0<;>by_cases h2:b<0<;>simp[mh,W,A,h1,h2,Int.neg_mul_neg,Int.neg_mul,Int.mul_neg]
def Er(a b:Int):aj 162 [.int .i64 a,.int .i64 b] (two (qd a b)):=by
 refine qn func162 call162 λβ hf=>?_
 repeat' (first|refine sz ?_|refine zc ?_ ?_|(intro h;first|(cases h;done)|rw[h]|skip)|refine uC Z (yx a) ?_|refine uC Z (yx b) ?_|refine uC Z (Il _ _ (Ua _) (Ua _)) ?_)
 all_goals simp only[QT,QS]at *
 ·simp_all [qd,two]
 ·simp_all [qd,two]
 all_goals
  obtain⟨h1,h2⟩:sJ a=true/\sJ b=true:=by simp_all
  obtain⟨B,V⟩:=QU a b h1 h2;have S:=nw (uV a).1 (uV a).2 (uV b).1 (uV b).2;rw[show qd a b=kz (a*b)from by simp[qd,h1,h2]];generalize (mh a).1*(mh b).1=q at *;generalize a*b=r at *
 ·have K:q/18446744073709551616≠0:=by simp_all
  have W:¬(sJ r=true):=by rw[kS];cases Y:(!(decide (a<0)==decide (b<0)))<;>simp only[Y,true_implies,reduceCtorEq,false_implies]at B V<;>omega
  simp[kz,W,two]
 ·have K:q/18446744073709551616=0:=by simp_all
  have U:q%18446744073709551616>1152921504606846976:=by simp_all
  have W:¬(sJ r=true):=by rw[kS];cases Y:(!(decide (a<0)==decide (b<0)))<;>simp only[Y,true_implies,reduceCtorEq,false_implies]at B V<;>omega
  simp[kz,W,two]
 ·have K:q/18446744073709551616=0:=by simp_all
  have U:q%18446744073709551616<=1152921504606846976:=by simp_all
  have T:=V (by assumption);have W:sJ r=true:=kS.2 bn;rw[gF (n:=q%18446744073709551616) bn bn,gF bn bn];simp only[kz,W,two,if_true];exact PV bn Z
 ·have K:q/18446744073709551616=0:=by simp_all
  have U:q%18446744073709551616<=1152921504606846976:=by simp_all
  have T:=B (by assumption);have W:sJ r=true:=kS.2 bn;rw[gF (n:=q%18446744073709551616) bn bn];simp only[kz,W,two,if_true];exact PV bn Z
end Go.Proofs
