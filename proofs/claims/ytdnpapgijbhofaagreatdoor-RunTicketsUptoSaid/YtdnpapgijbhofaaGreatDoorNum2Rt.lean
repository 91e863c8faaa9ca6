/- What move of package run's machine does. -/
import Derived.Test.YtdnpapgijbhofaaGreatDoorRun5Rt
import Derived.Test.YtdnpapgijbhofaaGreatDoorChk3Rt
import Derived.Test.YtdnpapgijbhofaaGreatDoorVal4Rt
import Derived.Test.YtdnpapgijbhofaaGreatDoorFitsRt
import Derived.Test.YtdnpapgijbhofaaGreatDoorKind5Rt
open Go.IntKind
open Go.Proofs.Tryz
set_option linter.defProp false
set_option maxHeartbeats 0
set_option linter.unusedVariables false
set_option linter.unusedSimpArgs false
set_option maxRecDepth 100000
namespace Go.Proofs
open Go.cB
def dG.ZL{P:Program}{X:Ctx}{f:FuncId}{V p:L (Nat×L AV)}{args M:L AV}{r:AV}(h:∀(g:Gh) vs,bM g M vs->bM g args vs)(hq:dG P X f V args r p):dG P X f V M r p :=
 ⟨hq.1,λg w vs W Q A=>hq.2 g w vs W Q (h g vs A)⟩
def ab7{s t:Nat}{g:Gh}{u:Value}(h:aP g (.c (.sl s [])) u):aP g (.c (.sl t [])) u:=by simp only[aP,Rel]at h ⊢;obtain⟨base,B,E,h1,h2,U,_⟩:=h;exact⟨base,B,E,h1,h2,U,.inl trivial⟩
def gw(S:bE)(H:L Nd)(fin:Int)(V:S.fr.length<=1099511627776):b8 107 S [.c (.sl 5 (aD H)),.c (aA fin),.c (.sl 0 [])] .undef (dh S H fin []) :=
 dG.ZL (λg vs h=>by
  simp only[bM]at h ⊢;obtain⟨Y,_,rfl,h1,W,_,rfl,h2,U,_,rfl,T,Q,_,rfl,P,rfl⟩:=h
  exact⟨Y,_,Z,h1,W,_,Z,h2,U,_,Z,T,Q,_,Z,ab7 P,Z⟩) (uN S H fin [] V)
def eU:af 156 [.sl 0 []] (bA (bN [])) :=
 aR.wk (by simp only[BP];exact⟨RP,trivial⟩) (Wk.refl _) (fC [])
def Wp{st:L Vl}{k:Nat}{v:Vl}(h:st[k]?=some v):st.reverse[st.length-1-k]?=some v:=by obtain⟨h1,h2⟩:=List.getElem?_eq_some_iff.1 h;rw[List.getElem?_reverse bn];rw[show st.length-1-(st.length-1-k)=k from by omega];exact h
def SS{l:L Vl}{i:Nat}{v:Vl}(h:l[i]?=some v):lV l i=v:=by unfold lV;rw[abV,h];rfl
def tL{T:AV->AV->Prop}(q:∀a,T a a):∀l:L AV,Up T l l
 |[]=>trivial
 |a::l=>⟨q a,tL q l⟩
def ZM{a b:Nat}(h:a≠b):(!Nat.beq a b)=true:=by
 cases e:Nat.beq a b with
 |false=>rfl
 |true=>exact absurd (beq_true e) h
def B2{f:FuncId}{n:Nat}{β:jq}{R:Ending->World->Prop}{K:L Item}{env:Env}(S:bE){a b:Nat}{us:L Nat}{bs:L (Nat×L AV)}{D q U:L AV}(M:ak 1000000 bs=some D)(T:D=mC S a b)(h1:ak a bs=some q)(q1:q=ah (sR S.st))(h2:ak b bs=some U)(Q:U=ah (fR S.fr))(J:Go.cB.distinct [1000000,a,b]=true)(Y:L (Nat×L AV))(W:∀g:Nat,ZA (Uq a 7 (sR S.st)) bs Y)(V:(Y.all λp => !Nat.beq p.1 a)=true){env':Env}{ts ts':L (Nat×Nat)}(P:Zz (Uq a 7 (sR S.st)) env env')(O:JT ts ts')
  (h:Ey f n β R K env' ⟨(1000000,Lx S 0 b)::(b,ah (fR S.fr))::Y,ts',us⟩):Ey f n β R K env ⟨bs,ts,us⟩:=by
 subst T q1 Q;obtain⟨I,H,N⟩:=Aw J;have A:∀x,Uq a 7 (sR S.st) x x:=λ_ => .inl Z;refine AK.B0 a 7 (sR S.st) (tail:=[]) (bs':=(1000000,Lx S 0 b)::(b,ah (fR S.fr))::Y) h1 (aba _).symm (fW _) P ⟨⟨_,M,⟨A _,A _,A _,A _,.inr ⟨_,Z,(iG _).symm,Z⟩,tL A _⟩⟩,⟨_,h2,tL A _⟩,W 0⟩ ?_ O h;simp only[abQ,V,acs,ZM I,ZM (Ne.symm N)]
attribute [local irreducible] AK ai aR bW dG dR lF
def Fl(S:bE)(G:Int)(Y:L UInt8)(l:L Vl):b8 134 S [.c (aS (.mk 2 G 40 Y [])),.c (.sl 7 (aa l))] (aA 0) S:=by exact mdm func134 call134
def PK(S:bE)(T:Int)(Y:L UInt8)(a b:Vl)(W:aE a<=8589934593)(A:aE b<=8589934593)(V:S.st.length<=1000000000):hJ 134 S [.c (aS (.mk 2 T 42 Y [])),.c (.sl 7 (aa [a,b]))] (aQ S [a,b]):=by have D:=qa S [a,b] (by intro v q;simp at q;rcases q with rfl|rfl<;>assumption) c9 J6;obtain⟨J,K,U,u,p,Q,P⟩:=a;obtain⟨I,O,B,H,G,N,M⟩:=b;exact mdm func134 call134
def SU(S:bE)(G:Int)(V:L UInt8)(k:Nat)(U:Int)(T:L UInt8)(K:L Nd)(l:L Vl)(v:Vl)(J:1<=k)(q:S.st[k-1]?=some v)(C:aE v<=8589934593)(P:S.st.length<=1000000000) :
  hJ 134 S [.c (aS (.mk 2 G 41 V [.mk 0 (k:Nat) U T K])),.c (.sl 7 (aa l))] (aQ S [v]):=by
 have D:=qa S [v] (by intro x O;simp at O;subst O;exact C) c9 J6;have A:=Wp q;have Q:k-1<S.st.length:=(List.getElem?_eq_some_iff.1 q).1;obtain⟨N,I,M,u,p,H,E⟩:=v;have W:i64.wrap (((S.st.length:Nat):Int)-(k:Nat))=((S.st.length-1-(k-1):Nat):Int):=by rw[gM bn bn];omega
 have B:decide (((k:Nat):Int)<1)=false:=aan bn;have vT:decide (i64.wrap (((S.st.length:Nat):Int)-(k:Nat))<0)=false:=by rw[W];exact aan bn
 have Y:=Dx A;refine mn func134 call134 λβ hf=>?_
 repeat' (first|refine mQ ?_|refine zc ?_ ?_|(intro h;first|(cases h;done)|rw[h]|skip)|refine uI Z (0) Z (Z) Z ?_|refine ai.iT hX kn Z Z Z Z Z Z Z Z Z (S.st.length-1-(k-1)) W bn ?_|refine ai.gm hX kn Z Z Z Z Z Z Y Z ?_|refine s9 ?_ (hq:=D)|(refine uA Z ?_ ?_<;>(try (show(_:Nat)*_<=_;dsimp only))))
 all_goals rfl
def SV{st:L Vl}{k:Nat}{v:Vl}(q:st[k]?=some v):sR (st.take k++st.drop (k+1))=aa (st.reverse.take (st.length-1-k)++st.reverse.drop (st.length-1-k+1)):=by
 have H:k<st.length:=(List.getElem?_eq_some_iff.1 q).1;have Y:st.length-(st.length-1-k)=k+1:=by omega
 have B:st.length-(st.length-1-k+1)=k:=by omega
 rw[sR,adH,List.take_reverse,List.drop_reverse,Y,B]
def SX(S:bE)(G:Int)(V:L UInt8)(k:Nat)(U:Int)(T:L UInt8)(K:L Nd)(l:L Vl)(v:Vl)(W:S.st[k]?=some v)(hl:S.st.length<=1000000000) :
  b8 134 S [.c (aS (.mk 2 G 43 V [.mk 0 (k:Nat) U T K])),.c (.sl 7 (aa l))] (aA 0) {S with st:=v::(S.st.take k++S.st.drop (k+1))}:=by
 have A:=Wp W;have H:k<S.st.length:=(List.getElem?_eq_some_iff.1 W).1;have E:i64.wrap ((((sR S.st).length:Nat):Int)-(k:Nat))=((S.st.length-1-k+1:Nat):Int):=by rw[iG];rw[gM bn bn];omega
 have Y:i64.wrap (i64.wrap ((((sR S.st).length:Nat):Int)-(k:Nat))-1)=((S.st.length-1-k:Nat):Int):=by rw[E,gM bn bn];omega
 have P:decide (((k:Nat):Int)<0)=false:=aan bn;have u:decide (i64.wrap ((((sR S.st).length:Nat):Int)-(k:Nat))<1)=false:=by rw[E];exact aan bn
 have O:(bif decide (((k:Nat):Int)<0)then true else decide (i64.wrap ((((sR S.st).length:Nat):Int)-(k:Nat))<1))=false:=by rw[P,u];rfl
 have Q:=qI S.st.reverse (S.st.length-1-k) SR SR;rw[<- SV W]at Q;have N:(aa S.st.reverse)[S.st.length-1-k]?=some (bA v):=by rw[jl,A];rfl
 obtain⟨x,q,hq⟩:∃x q,S.st.reverse=x::q:=by
  cases h:S.st.reverse with
  |nil=>have:=aaZ List.length h;simp at this;rw[this]at H;simp at H
  |cons x q=>exact⟨x,q,Z⟩
 have D:=eV x q Ua;rw[<- hq]at D;have M:(AV.gf 1000000 0 7 S.st.reverse.length::List.map AV.c [CV.int IntKind.i64 ((S.st.length-1-k:Nat):Int),CV.int IntKind.i64 ((S.st.length-1-k+1:Nat):Int)]) = .gf 1000000 0 7 (q.length+1)::[CV.int IntKind.i64 (i64.wrap (i64.wrap ((((sR S.st).length:Nat):Int)-(k:Nat))-1)),CV.int IntKind.i64 (i64.wrap ((((sR S.st).length:Nat):Int)-(k:Nat)))].map AV.c:=by rw[Y,E,hq];rfl
 obtain⟨J,I,C,B,p,ag,au⟩:=v;refine mn func134 call134 λβ hf=>?_;refine B2 S Z Z Z Z Z Z Z [] (λ_=>trivial) Z (env':=[(0,.ptr 1000000 0),(1,.c (aS (.mk 2 G 43 V [.mk 0 (k:Nat) U T K]))),(2,.c (.sl 7 (aa l)))]) (ts':=[]) ce trivial ?_
 repeat' (first|refine mQ ?_|refine zc ?_ ?_|(intro h;first|(cases h;done)|rw[h]|skip)|refine uI Z (0) Z (Z) Z ?_|refine uI Z (S.st.length-1-k) Y N Z ?_|refine ai.kR kn Z Z Z Z Z Z D Z ?_|refine ai.qX kn Z Z Z Z Z Z Z Z Z Q M Z ?_|refine ai.mB hX kn Z Z Z Z Z Z Z Z Z Z Z Z Z Z Z (sR (S.st.take k++S.st.drop (k+1))) [] (aba _).symm Z (by rw[iG];exact ta _) Z Z Z Z Z Z Z (show((sR (S.st.take k++S.st.drop (k+1))).length+1)*112<=_ by rw[iG,aao,abm,abp];omega) (Ho (.mk J I C B p ag au) _).symm (iG _) Z ?_|(refine uA Z ?_ ?_<;>(try (show(_:Nat)*_<=_;dsimp only))))
 all_goals rfl
end Go.Proofs
namespace Go.Proofs
open Go.cB
attribute [local irreducible] AK ai aR bW dG dR lF
def jm(s:Nat):rK 83 [] [.c (.sl s [])] (.own .exact 7 []) []:=by
 refine dG.of func83 Z (λargs w=>call83 args w) (abf Z) [(0,.c (.sl s []))] ⟨[],[],[]⟩ Z Z λβ=>?_;have hf:=func83
 repeat' (first|refine mQ ?_|refine zc ?_ ?_|(intro h;first|(cases h;done)|rw[h]|skip)|refine AK.pe Z ?_ ?_|refine ai.Hl hX kn Z Z Z Z Z Z Z Z Z Z Z Z Z ?_|(refine uA Z ?_ ?_<;>(try (show(_:Nat)*_<=_;dsimp only))))
 refine AK.weak Em Em.rel Em.one (env':=[(2,.own .exact 7 [])]) (bs':=[]) (ts':=[]) ce trivial trivial ?_;exact aaU;exact aaU
def Dy(x:Vl):rK 154 [] [.own .exact 7 [],.c (aA 0),.c (.sl 7 (aa [x]))] (.gf 999999 0 7 1) [(999999,ah (aa [x]))]:=by
 obtain⟨q,K,W,u,p,Y,V⟩:=x;refine dG.of func154 Z (λargs w=>call154 args w) (abf Z) [(0,.own .exact 7 []),(1,.c (aA 0)),(2,.c (.sl 7 (aa [.mk q K W u p Y V])))] ⟨[],[],[]⟩ Z Z λβ=>?_;have hf:=func154
 repeat' (first|refine mQ ?_|refine zc ?_ ?_|(intro h;first|(cases h;done)|rw[h]|skip)|refine AK.pe rfl ?_ ?_|refine ai.vt hX kn rfl rfl rfl rfl rfl rfl rfl rfl rfl rfl rfl rfl rfl rfl rfl rfl rfl rfl (λh=>by cases h) rfl rfl rfl (show(0+1)*112<=140737488355328 by decide) rfl (m:=1) rfl ?_|(refine uA rfl ?_ ?_<;>(try (show(_:Nat)*_<=_;dsimp only))))
 exact AK.BM hX hf Z [(999999,25)] Z ⟨_,Z,Z⟩ ⟨⟨_,_,Z,Z,dr _⟩,trivial⟩
def SY(st:L Vl)(k:Nat)(v:Vl)(E:k<=st.length):sR (st.take k++v::st.drop k)=aa (st.reverse.take (st.length-k)++v::st.reverse.drop (st.length-k)):=by
 have Y:st.length-(st.length-k)=k:=by omega
 rw[sR,adH,ads,List.take_reverse,List.drop_reverse,Y,ace];rfl
def SZ(S:bE)(G:Int)(Y:L UInt8)(k:Nat)(V:Int)(U:L UInt8)(K:L Nd)(v:Vl)(E:k<=S.st.length)(hl:S.st.length<=1000000000) :
  b8 134 S [.c (aS (.mk 2 G 44 Y [.mk 0 (k:Nat) V U K])),.c (.sl 7 (aa [v]))] (aA 0) {S with st:=S.st.take k++v::S.st.drop k}:=by
 have D:decide (((k:Nat):Int)<0)=false:=aan bn;by_cases M:S.st=[]
 ·obtain⟨a,b,c,d,st,fr,g,u,m,B⟩:=S;simp only at M E hl;subst M;simp only[aab,Nat.le_zero]at E;subst E;have W:i64.wrap ((((sR []).length:Nat):Int)-(0:Nat))=0:=by decide
  have H:decide (i64.wrap ((((sR []).length:Nat):Int)-(0:Nat))<0)=false:=by rw[W];rfl
  have T:(bif decide (((0:Nat):Int)<0)then true else decide (i64.wrap ((((sR []).length:Nat):Int)-(0:Nat))<0))=false:=by rw[D,H];rfl
  have O:=Dy v;obtain⟨J,I,Q,C,p,P,N⟩:=v;refine mn func134 call134 λβ hf=>?_;refine B2 (bE.mk a b c d [] fr g u m B) Z Z Z Z Z Z Z [] (λ_=>trivial) Z (env':=[(0,.ptr 1000000 0),(1,.c (aS (.mk 2 G 44 Y [.mk 0 ((0:Nat):Int) V U K]))),(2,.c (.sl 7 (aa [.mk J I Q C p P N])))]) (ts':=[]) ce trivial ?_
  repeat' (first|refine mQ ?_|refine zc ?_ ?_|(intro h;first|(cases h;done)|rw[h]|skip)|refine uI Z (0) Z (Z) Z ?_|refine ai.xF kn Z Z (jm 7) Z Z (λ_=>⟨_,_,Z,.inr Z,Z⟩) Z Z ?_|refine ai.SP kn Z Z O Z Z Z Z (λ_=>⟨_,_,Z,Z,_,_,Z,.inl (aaZ (λz=>AV.c (.int .i64 z)) W),_,_,Z,.inr Z,Z⟩) ?_|(refine uA Z ?_ ?_<;>(try (show(_:Nat)*_<=_;dsimp only))))
  all_goals rfl
 have hne:0<S.st.length:=List.length_pos_iff.2 M;have W:i64.wrap ((((sR S.st).length:Nat):Int)-(k:Nat))=((S.st.length-k:Nat):Int):=by rw[iG,gM bn bn];omega
 have H:decide (i64.wrap ((((sR S.st).length:Nat):Int)-(k:Nat))<0)=false:=by rw[W];exact aan bn
 have T:(bif decide (((k:Nat):Int)<0)then true else decide (i64.wrap ((((sR S.st).length:Nat):Int)-(k:Nat))<0))=false:=by rw[D,H];rfl
 have A:=uO S.st.reverse v (S.st.length-k) SR SR SR;rw[<- SY _ _ _ E,iG]at A;obtain⟨x,q,hq⟩:∃x q,S.st.reverse=x::q:=by
  cases h:S.st.reverse with
  |nil=>exact absurd (List.reverse_eq_nil_iff.1 h) M
  |cons x q=>exact⟨x,q,Z⟩
 have jJ:=eV x q Ua;rw[<- hq]at jJ;have Mz:(AV.gf 1000000 0 7 S.st.reverse.length::List.map AV.c [CV.int IntKind.i64 ((S.st.length-k:Nat):Int),CV.sl 7 (aa [v])]) = .gf 1000000 0 7 (q.length+1)::[CV.int IntKind.i64 (i64.wrap ((((sR S.st).length:Nat):Int)-(k:Nat))),CV.sl 7 (aa [v])].map AV.c:=by rw[W,hq];rfl
 obtain⟨J,I,Q,C,p,P,N⟩:=v;refine mn func134 call134 λβ hf=>?_;refine B2 S Z Z Z Z Z Z Z [] (λ_=>trivial) Z (env':=[(0,.ptr 1000000 0),(1,.c (aS (.mk 2 G 44 Y [.mk 0 (k:Nat) V U K]))),(2,.c (.sl 7 (aa [.mk J I Q C p P N])))]) (ts':=[]) ce trivial ?_
 repeat' (first|refine mQ ?_|refine zc ?_ ?_|(intro h;first|(cases h;done)|rw[h]|skip)|refine uI Z (0) Z (Z) Z ?_|refine ai.kR kn Z Z Z Z Z Z jJ Z ?_|refine ai.qX kn Z Z Z Z Z Z Z Z Z A Mz Z ?_|(refine uA Z ?_ ?_<;>(try (show(_:Nat)*_<=_;dsimp only))))
 all_goals rfl
end Go.Proofs
namespace Go.Proofs
open Go.cB
mutual
def Bi:∀(n:Nd)(d left:Int)(t:Ty)(m:Int),fo n d left=(some t,m)->PL t=n
 |.mk u Y p s args,d,left,t,m,h=>by
  simp only[fo]at h;split at h;simp at h;rename_i D;simp only[not_or,ne_eq,adg]at D;rcases E:dK args (d+1) (left-1)with ⟨b,S⟩
  rw[E]at h;cases b with
  |none=>simp at h
  |some l =>
   simp at h;have:=yX args (d+1) (left-1) l S E;rw[<- h.1];simp only[PL,this];rw[D.2.2.1,D.2.2.2.1,D.2.2.2.2.1]
def yX:∀(l:L Nd)(d left:Int)(r:L Ty)(m:Int),dK l d left=(some r,m)->Kd r=l
 |[],d,left,r,m,h=>by simp[dK]at h;rw[h.1];rfl
 |x::l,d,left,r,m,h=>by
  simp only[dK]at h;rcases E:fo x d left with ⟨b,S⟩
  rw[E]at h;cases b with
  |none=>simp at h
  |some t =>
   simp only at h;rcases H:dK l d S with ⟨M,P⟩
   rw[H]at h;cases M with
   |none=>simp at h
   |some q =>
    simp at h;have h1:=Bi x d left t S E;have h2:=yX l d S q P H;rw[<- h.1];simp only[Kd,h1,h2]
end
def uT(n:Nd):(∃t,aO n=(t,0)/\bg t=true/\PL t=n/\bp t<=bR n)\/aO n=(.mk 0 [],1):=by
 simp only[aO];rcases E:fo n 1 300 with ⟨b,m⟩
 cases b with
 |none=>right;rfl
 |some t =>
  simp only;cases Q:bg t;right;rfl;left;exact⟨t,Z,Q,Bi n 1 300 t m E,tX n 1 300 t m E⟩
attribute [local irreducible] AK ai aR bW PL Kd bg gS eJ gT fN iP arity aO cw Cs ZN dD
end Go.Proofs
namespace Go.Proofs
open Go.cB
def fA(S:bE)(v:Vl)(C:aE v<=8589934593)(V:S.st.length<=1000000000):hJ 152 S [.c (.sl 7 (aa [v]))] (aQ S [v]) :=
 qa S [v] (by intro x O;simp at O;subst O;exact C) c9 J6
def XQ(S:bE)(v w:Vl)(C:aE v<=8589934593)(K:aE w<=8589934593)(V:S.st.length<=1000000000):hJ 152 S [.c (.sl 7 (aa [v,w]))] (aQ S [v,w]) :=
 qa S [v,w] (by intro x O;simp at O;rcases O with rfl|rfl<;>assumption) c9 J6
def MB(x:Nd)(O:bR x<=8589934593):bp (aO x).1<=8589934593:=by
 rcases uT x with ⟨t,h,_,_,P⟩|h
 rw[h];exact abJ P O;rw[h];decide
attribute [local irreducible] AK ai aR bW dG dR lF aO gZ
def MD(S:bE)(G:Int)(W:L UInt8)(x y:Nd)(O:bR x<=8589934593)(V:bR y<=8589934593)(Y:(gZ (aO x).1 y).2=0)(M:aE ((gZ (aO x).1 y).1)<=8589934593)(U:S.st.length<=1000000000):hJ 135 S [.c (aS (.mk 2 G 45 W [x,y])),.c (.sl 7 (aa []))] (aQ S [(gZ (aO x).1 y).1]):=by have D:=fA S ((gZ (aO x).1 y).1) M U;have hq:=jT x O;have B:bp (aO x).1<=8589934593:=MB x O;have A:=sJ (aO x).1 y B V;rw[Y]at A;generalize Q:(gZ (aO x).1 y).1=w at D A ⊢;clear Y;generalize aO x=tp at hq A B;obtain⟨⟨T,us⟩,e⟩:=tp;obtain⟨q,K,P,u,p,N,J⟩:=w;obtain⟨I,H,E,C,i5⟩:=x;obtain⟨j1,j2,j3,j4,j5⟩:=y;exact mdm func135 call135
def ME(S:bE)(T:Int)(Y:L UInt8)(a b:Vl)(M:aE (aY a b)<=8589934593)(V:S.st.length<=1000000000):hJ 135 S [.c (aS (.mk 2 T 46 Y [])),.c (.sl 7 (aa [a,b]))] (aQ S [aY a b]):=by have D:=fA S (aY a b) M V;have hq:=gV a b;obtain⟨q,K,W,u,p,U,Q⟩:=a;obtain⟨I,P,B,H,G,O,N⟩:=b;exact mdm func135 call135
def MF(S:bE)(G:Int)(Y:L UInt8)(x:Nd)(a:Vl)(M:aE (.mk 12 (50-50) 0 [] [a] [] [])<=8589934593)(V:S.st.length<=1000000000):hJ 135 S [.c (aS (.mk 2 G 50 Y [x])),.c (.sl 7 (aa [a]))] (aQ S [.mk 12 (50-50) 0 [] [a] [] []]):=by have D:=fA S (.mk 12 (50-50) 0 [] [a] [] []) M V;obtain⟨q,K,W,u,p,U,T⟩:=a;exact mdm func135 call135
def MG(S:bE)(G:Int)(Y:L UInt8)(x:Nd)(a:Vl)(M:aE (.mk 12 (51-50) 0 [] [a] [] [])<=8589934593)(V:S.st.length<=1000000000):hJ 135 S [.c (aS (.mk 2 G 51 Y [x])),.c (.sl 7 (aa [a]))] (aQ S [.mk 12 (51-50) 0 [] [a] [] []]):=by have D:=fA S (.mk 12 (51-50) 0 [] [a] [] []) M V;obtain⟨q,K,W,u,p,U,T⟩:=a;exact mdm func135 call135
def MH(S:bE)(G:Int)(Y:L UInt8)(a:Vl)(M:aE (bN [a])<=8589934593)(V:S.st.length<=1000000000):hJ 135 S [.c (aS (.mk 2 G 53 Y [])),.c (.sl 7 (aa [a]))] (aQ S [bN [a]]):=by have D:=fA S (bN [a]) M V;have hq:=fC [a];obtain⟨q,K,W,u,p,U,T⟩:=a;exact mdm func135 call135
def MI(S:bE)(G:Int)(Y:L UInt8)(x:Nd)(M:aE (bN [])<=8589934593)(V:S.st.length<=1000000000):hJ 135 S [.c (aS (.mk 2 G 54 Y [x])),.c (.sl 7 (aa []))] (aQ S [bN []]):=by have D:=fA S (bN []) M V;refine mn func135 call135 λβ hf=>?_;have W:=eU;exact dm
def PM(S:bE)(G:Int)(Y:L UInt8)(x:Nd)(M:aE (.mk 10 0 0 [] [] [] [])<=8589934593)(V:S.st.length<=1000000000):hJ 135 S [.c (aS (.mk 2 G 56 Y [x])),.c (.sl 7 (aa []))] (aQ S [.mk 10 0 0 [] [] [] []]):=by have D:=fA S (.mk 10 0 0 [] [] [] []) M V;exact mdm func135 call135
def MJ(S:bE)(T:Int)(Y:L UInt8)(k n c:Int)(s:L UInt8)(a b:Vl)(types:L Ty)(H:L Nd)(M:aE (b)<=8589934593)(h1:aE (a)<=8589934593)(V:S.st.length<=1000000000):hJ 135 S [.c (aS (.mk 2 T 47 Y [])),.c (.sl 7 (aa [.mk k n c s [a,b] types H]))] (aQ S [b,a]):=by have D:=XQ S (b) (a) M h1 V;obtain⟨q,K,W,u,p,U,Q⟩:=a;obtain⟨I,P,B,O,G,N,J⟩:=b;exact mdm func135 call135
def MK(S:bE)(T:Int)(Y:L UInt8)(k n c:Int)(s:L UInt8)(a b:Vl)(types:L Ty)(H:L Nd)(M:aE (a)<=8589934593)(V:S.st.length<=1000000000):hJ 135 S [.c (aS (.mk 2 T 48 Y [])),.c (.sl 7 (aa [.mk k n c s [a,b] types H]))] (aQ S [a]):=by have D:=fA S (a) M V;obtain⟨q,K,W,u,p,U,Q⟩:=a;obtain⟨I,P,B,O,G,N,J⟩:=b;exact mdm func135 call135
def ML(S:bE)(T:Int)(Y:L UInt8)(k n c:Int)(s:L UInt8)(a b:Vl)(types:L Ty)(H:L Nd)(M:aE (b)<=8589934593)(V:S.st.length<=1000000000):hJ 135 S [.c (aS (.mk 2 T 49 Y [])),.c (.sl 7 (aa [.mk k n c s [a,b] types H]))] (aQ S [b]):=by have D:=fA S (b) M V;obtain⟨q,K,W,u,p,U,Q⟩:=a;obtain⟨I,P,B,O,G,N,J⟩:=b;exact mdm func135 call135
end Go.Proofs
namespace Go.Proofs
open Go.cB
def Ke(f:gB)(t:List gB)(j:Nat)(T:j<4)(v:CV):dH (0+t.length*4+j) [.c v] (ah (fR (f::t)))=some (ah (fR t)++(ah [qY f]).set j (.c v)):=by
 have h:=B3 t;have e:(ah (fR t)).length=t.length*4:=by rw[ah,abB];exact h
 have V:0+t.length*4+j<(ah (fR (f::t))).length:=by rw[lz,aao,e];show _<_+4;omega
 rw[Bf V,lz,abi,List.set_append_right _ _ bn,e,Nat.add_sub_cancel_left]
def Dz(f:gB)(t:List gB)(n:Nat):dH (0+t.length*4+1) [.c (aA (n:Nat))] (ah (fR (f::t)))=some (ah (fR ({f with pos:=n}::t))):=by rw[Ke f t 1 cc,lz];rfl
def S0(f:gB)(t:List gB)(l:L Vl):dH (0+t.length*4+3) [.c (.sl 7 (aa l))] (ah (fR (f::t)))=some (ah (fR ({f with aside:=l}::t))):=by rw[Ke f t 3 cc,lz];rfl
def S3(H:L Nd)(fin:Int)(T:L Vl)(t:List gB):dH (0+t.length*4+1) [.c (aA ((aD H).length:Nat))] (ah (fR (⟨H,0,fin,T⟩::t)))=some (ah (fR (⟨H,H.length,fin,T⟩::t))):=by rw[bf];exact Dz _ _ _
attribute [local irreducible] AK ai aR bW dG dR lF aO gZ
def EI(S:bE)(G:Int)(Y:L UInt8)(U q1:Int)(q:L UInt8)(p:L Nd)(J T:Int)(K:L UInt8)(M:L Nd)(k c:Int)(s:L UInt8)(types:L Ty)(H:L Nd)(x:Vl)(O:aE x<=8589934593)(Q:S.st.length<=1000000000)(W:S.fr.length<=1099511627776):hJ 136 S [.c (aS (.mk 2 G 52 Y [.mk 3 U q1 q p,.mk 3 J T K M])),.c (.sl 7 (aa [.mk k 0 c s [x] types H]))] (aQ (dh S p 0 []) [x]):=by have A:=gw S p 0 W;have D:=fA (dh S p 0 []) x O Q;obtain⟨P,I,N,u,V,E,C⟩:=x;exact mdm func136 call136
def EJ(S:bE)(G:Int)(Y:L UInt8)(V q1:Int)(q:L UInt8)(U:L Nd)(J T:Int)(K:L UInt8)(M:L Nd)(k c:Int)(s:L UInt8)(types:L Ty)(H:L Nd)(x:Vl)(O:aE x<=8589934593)(Q:S.st.length<=1000000000)(W:S.fr.length<=1099511627776):hJ 136 S [.c (aS (.mk 2 G 52 Y [.mk 3 V q1 q U,.mk 3 J T K M])),.c (.sl 7 (aa [.mk k 1 c s [x] types H]))] (aQ (dh S M 0 []) [x]):=by have A:=gw S M 0 W;have D:=fA (dh S M 0 []) x O Q;obtain⟨P,I,N,u,p,E,C⟩:=x;exact mdm func136 call136
def EK(S:bE)(G:Int)(Y:L UInt8)(V q1:Int)(q:L UInt8)(p:L Nd)(J U:Int)(K:L UInt8)(M:L Nd)(k c:Int)(s:L UInt8)(types:L Ty)(H:L Nd)(n:Int)(T:S.st.length<=1000000000)(W:S.fr.length<=1099511627776):hJ 136 S [.c (aS (.mk 2 G 55 Y [.mk 3 V q1 q p,.mk 3 J U K M])),.c (.sl 7 (aa [.mk k n c s [] types H]))] (aQ (dh S p 0 []) []):=by have A:=gw S p 0 W;have D:=qa (dh S p 0 []) [] (λ_ h=>by simp at h) c9 (by show S.st.length+0<=_;omega);exact mdm func136 call136
def EL(S:bE)(G:Int)(Y:L UInt8)(V q1:Int)(q:L UInt8)(U:L Nd)(J T:Int)(K:L UInt8)(M:L Nd)(k c:Int)(s:L UInt8)(types:L Ty)(H:L Nd)(n:Int)(x:Vl)(O:aE x<=8589934593)(Q:S.st.length<=1000000000)(W:S.fr.length<=1099511627776):hJ 136 S [.c (aS (.mk 2 G 55 Y [.mk 3 V q1 q U,.mk 3 J T K M])),.c (.sl 7 (aa [.mk k n c s [x] types H]))] (aQ (dh S M 0 []) [x]):=by have A:=gw S M 0 W;have D:=fA (dh S M 0 []) x O Q;obtain⟨P,I,N,u,p,E,C⟩:=x;exact mdm func136 call136
def EM(S:bE)(G:Int)(Y:L UInt8)(V q1:Int)(q:L UInt8)(p:L Nd)(J U:Int)(K:L UInt8)(M:L Nd)(k c:Int)(s:L UInt8)(types:L Ty)(H:L Nd)(n:Int)(T:S.st.length<=1000000000)(W:S.fr.length<=1099511627776):hJ 136 S [.c (aS (.mk 2 G 58 Y [.mk 3 V q1 q p,.mk 3 J U K M])),.c (.sl 7 (aa [.mk k n c s [] types H]))] (((0,dh S M 0 []):MR)):=by have A:=gw S M 0 W;exact mdm func136 call136
def EN(S:bE)(G:Int)(U:L UInt8)(T q1:Int)(q:L UInt8)(p:L Nd)(J Q:Int)(K:L UInt8)(M:L Nd)(k c:Int)(s:L UInt8)(types:L Ty)(H:L Nd)(n:Int)(x:Vl)(xs:L Vl)(O:aE x<=8589934593)(Y:aE (.mk 10 0 0 [] xs [] [])<=8589934593)(P:S.st.length<=1000000000)(W:S.fr.length<=1099511627776):hJ 136 S [.c (aS (.mk 2 G 58 U [.mk 3 T q1 q p,.mk 3 J Q K M])),.c (.sl 7 (aa [.mk k n c s (x::xs) types H]))] (aQ (dh S p 0 []) [.mk 10 0 0 [] xs [] [],x]):=by
 have A:=gw S p 0 W;have D:=XQ (dh S p 0 []) (.mk 10 0 0 [] xs [] []) x Y O P;have N:((((aa (x::xs)).length:Nat):Int)==0)=false:=by simp only[aa,aaa];exact beq_eq_false_iff_ne.2 bn
 obtain⟨I,E,C,u,V,B,au⟩:=x;exact mdm func136 call136
def Hp(S:bE)(G:Int)(V:L UInt8)(U q1:Int)(q:L UInt8)(p:L Nd)(k c:Int)(s:L UInt8)(types:L Ty)(H:L Nd)(n:Int)(xs:L Vl)(Q:S.st.length<=1000000000)(W:S.fr.length<=1099511627776):hJ 136 S [.c (aS (.mk 2 G 60 V [.mk 3 U q1 q p])),.c (.sl 7 (aa [.mk k n c s xs types H]))] (((0,qv S p 3 xs):MR)):=by
 have A:=uN S p 3 xs W;have T:i64.wrap (((S.fr.length+1:Nat):Int)-1)=(S.fr.length:Nat):=by rw[gM bn bn];omega
 have Y:=S3 p 3 xs S.fr;refine mn func136 call136 λβ hf=>?_
 repeat' (first|refine mQ ?_|refine zc ?_ ?_|(intro h;first|(cases h;done)|rw[h]|skip)|refine uI Z (0) Z (Z) Z ?_|refine s9 ?_ (hq:=A)|refine ai.iT hX kn Z Z Z Z Z Z Z Z Z S.fr.length T (abl _) ?_|refine ai.store hX kn Z Z Z Z Z Z Z Z Z Y Z ?_|(refine uA Z ?_ ?_<;>(try (show(_:Nat)*_<=_;dsimp only))))
 all_goals rfl
def Kf(S:bE)(G:Int)(Y:L UInt8)(V q1:Int)(q:L UInt8)(p:L Nd)(J U:Int)(K:L UInt8)(M:L Nd)(k c:Int)(s:L UInt8)(types:L Ty)(H:L Nd)(xs:L Vl)(T:S.st.length<=1000000000)(W:S.fr.length<=1099511627776):hJ 136 S [.c (aS (.mk 2 G 64 Y [.mk 3 V q1 q p,.mk 3 J U K M])),.c (.sl 7 (aa [.mk k 0 c s xs types H]))] (((0,dh S M 0 []):MR)):=by
 have A:=gw S M 0 W;refine mn func136 call136 λβ hf=>?_
 repeat' (first|refine mQ ?_|refine zc ?_ ?_|(intro h;first|(cases h;done)|rw[h]|skip)|refine uI Z (0) Z (Z) Z ?_|refine uI Z 1 Z Z Z ?_|refine s9 ?_ (hq:=A)|(refine uA Z ?_ ?_<;>(try (show(_:Nat)*_<=_;dsimp only))))
 all_goals rfl
def Kg(S:bE)(G:Int)(Y:L UInt8)(V q1:Int)(q:L UInt8)(p:L Nd)(J U:Int)(K:L UInt8)(M:L Nd)(k c:Int)(s:L UInt8)(types:L Ty)(H:L Nd)(xs:L Vl)(T:S.st.length<=1000000000)(W:S.fr.length<=1099511627776):hJ 136 S [.c (aS (.mk 2 G 64 Y [.mk 3 V q1 q p,.mk 3 J U K M])),.c (.sl 7 (aa [.mk k 1 c s xs types H]))] (((0,dh S p 0 []):MR)):=by
 have A:=gw S p 0 W;refine mn func136 call136 λβ hf=>?_
 repeat' (first|refine mQ ?_|refine zc ?_ ?_|(intro h;first|(cases h;done)|rw[h]|skip)|refine uI Z (0) Z (Z) Z ?_|refine uI Z 0 Z Z Z ?_|refine s9 ?_ (hq:=A)|(refine uA Z ?_ ?_<;>(try (show(_:Nat)*_<=_;dsimp only))))
 all_goals rfl
def Hq(S:bE)(G:Int)(U:L UInt8)(T q1:Int)(q:L UInt8)(W:L Nd)(x:Vl)(I:S.st.length<=1000000000)(V:S.fr.length<=1099511627776):hJ 136 S [.c (aS (.mk 2 G 65 U [.mk 3 T q1 q W])),.c (.sl 7 (aa [x]))] (((0,{qv S W 4 []with st:=x::S.st}):MR)):=by
 have A:=gw S W 4 V;have Q:i64.wrap (((S.fr.length+1:Nat):Int)-1)=(S.fr.length:Nat):=by rw[gM bn bn];omega
 have Y:=S3 W 4 [] S.fr;obtain⟨J,K,P,u,p,O,N⟩:=x;have M:=MM J K P u p O N S.st;refine mn func136 call136 λβ hf=>?_
 repeat' (first|refine mQ ?_|refine zc ?_ ?_|(intro h;first|(cases h;done)|rw[h]|skip)|refine uI Z (0) Z (Z) Z ?_|refine s9 ?_ (hq:=A)|refine ai.iT hX kn Z Z Z Z Z Z Z Z Z S.fr.length Q (abl _) ?_|refine ai.store hX kn Z Z Z Z Z Z Z Z Z Y Z ?_|refine ai.mB hX kn Z Z Z Z Z Z Z Z Z Z Z Z Z Z Z (sR S.st) [] (aba _).symm (iG _).symm (ta _) Z Z Z Z Z Z Z (show((sR S.st).length+1)*112<=_ by rw[iG];omega) Z (m:=S.st.length+1) (by rw[aao,iG];rfl) Z ?_|refine ai.iT hX kn Z Z Z Z Z Z Z Z Z S.st.length Z (abl _) ?_|refine ai.store hX kn Z Z Z Z Z Z Z Z Z (M _ Z) Z ?_|(refine uA Z ?_ ?_<;>(try (show(_:Nat)*_<=_;dsimp only))))
 all_goals rfl
def Kh(S:bE)(G:Int)(Y:L UInt8)(U q1:Int)(q:L UInt8)(p:L Nd)(x:Vl)(T:S.st.length<=1000000000)(W:S.fr.length<=1099511627776):hJ 136 S [.c (aS (.mk 2 G 68 Y [.mk 3 U q1 q p])),.c (.sl 7 (aa [x]))] (((0,dh S p 1 [x]):MR)):=by have A:=uN S p 1 [x] W;obtain⟨J,K,Q,u,V,P,O⟩:=x;exact mdm func136 call136
def DA(S:bE)(G:Int)(Y:L UInt8)(x y:Nd)(W q1:Int)(J:L UInt8)(p:L Nd)(O:bR x<=8589934593)(V:bR y<=8589934593)(q:aE (.mk 14 0 0 [] [] [(aO x).1,(aO y).1] p)<=8589934593)(U:S.st.length<=1000000000)(Q:S.fr.length<=1099511627776):hJ 136 S [.c (aS (.mk 2 G 66 Y [x,y,.mk 3 W q1 J p])),.c (.sl 7 (aa []))] (aQ S [.mk 14 0 0 [] [] [(aO x).1,(aO y).1] p]):=by have D:=fA S (.mk 14 0 0 [] [] [(aO x).1,(aO y).1] p) q U;have P:=jT x O;have N:=jT y V;clear q;generalize aO x=tp at D P ⊢;generalize aO y=tq at D N ⊢;obtain⟨⟨T,us⟩,e⟩:=tp;obtain⟨⟨K,M⟩,e2⟩:=tq;obtain⟨I,H,A,E,C⟩:=x;obtain⟨B,u,j3,j4,j5⟩:=y;exact mdm func136 call136
def Hr(S:bE)(G:Int)(Y:L UInt8)(x:Vl)(k c:Int)(s:L UInt8)(types:L Ty)(H:L Nd)(n:Int)(xs:L Vl)(Q:S.st.length<=1000000000)(W:S.fr.length<=1099511627776):hJ 136 S [.c (aS (.mk 2 G 67 Y [])),.c (.sl 7 (aa [x,.mk k n c s xs types H]))] (((0,{dh S H 2 S.st.reverse with st:=[x]}):MR)):=by
 have A:=Hs S H 2 S.st.reverse W;obtain⟨q,K,V,u,p,U,T⟩:=x;refine mn func136 call136 λβ hf=>?_;refine B2 S Z Z Z Z Z Z Z [] (λ_=>trivial) Z (env':=[(0,.ptr 1000000 0),(1,.c (aS (.mk 2 G 67 Y []))),(2,.c (.sl 7 (aa [.mk q K V u p U T,.mk k n c s xs types H])))]) (ts':=[]) ce trivial ?_
 repeat' (first|refine ai.iw hX kn Z Z Z Z Z Z Z Z Z Z Z Z Z Z ?_|refine mQ ?_|refine zc ?_ ?_|(intro h;first|(cases h;done)|rw[h]|skip)|refine uI Z (0) Z (Z) Z ?_|refine uI Z (1) Z (Z) Z ?_|refine XR ?_ (hq:=A)|(refine uA Z ?_ ?_<;>(try (show(_:Nat)*_<=_;dsimp only))))
 all_goals rfl
end Go.Proofs
namespace Go.Proofs
open Go.cB
attribute [local irreducible] AK ai aR
def DB{n:Int}(h1:0<=n)(h2:n<=18446744073709551615):IntKind.u64.wrap n=n:=by simp[IntKind.wrap,IntKind.bits,IntKind.signed];omega
def MN(x:Int)(M:0<=x)(h1:x<=18446744073709551615):IntKind.u64.wrap ((BitVec.ofInt (IntKind.bits .u64) x&&&BitVec.ofInt (IntKind.bits .u64) 4294967295).toNat:Nat)=x%4294967296:=by
 have e:((BitVec.ofInt (IntKind.bits .u64) x&&&BitVec.ofInt (IntKind.bits .u64) 4294967295).toNat)=x.toNat%4294967296:=by
  rw[BitVec.toNat_and,BitVec.toNat_ofInt,BitVec.toNat_ofInt];have Y:((4294967295:Int)%((2^IntKind.bits .u64:Nat):Int)).toNat=2^32-1:=by decide
  have B:(x%((2^IntKind.bits .u64:Nat):Int)).toNat=x.toNat:=by have:((2^IntKind.bits .u64:Nat):Int)=18446744073709551616:=(by decide);rw[this,Int.emod_eq_of_lt M bn]
  rw[Y,B,adM]
 rw[e,DB bn bn];omega
def ZO(V W U Y:Int)(h:0<=Y):V+(W+Y/4294967296)/4294967296+((W+Y/4294967296)%4294967296+U)/4294967296=(V*18446744073709551616+(W+U)*4294967296+Y)/18446744073709551616:=by omega
def Vq(W M p Y:Int):(W*4294967296+M)*(p*4294967296+Y)=(W*p)*18446744073709551616+(W*Y+M*p)*4294967296+M*Y:=by
 simp only[Int.add_mul,Int.mul_add];have B:W*4294967296*(p*4294967296)=W*p*18446744073709551616:=by rw[<- adU,Int.mul_right_comm W 4294967296 p,adU];rfl
 rw[Int.mul_right_comm W 4294967296 Y,B,<- adU M p];omega
def oh{a b c d:Int}(h1:0<=a)(h2:a<=c)(U:0<=b)(P:b<=d):0<=a*b/\a*b<=c*d :=
 ⟨Int.mul_nonneg h1 U,Int.mul_le_mul h2 P U bn⟩
def Ki(x y:Int)(q:0<=x/\x<=1152921504606846976)(u:0<=y/\y<=1152921504606846976) :
  af 180 [.int .u64 x,.int .u64 y] (.fG [.int .u64 (x*y/18446744073709551616),.int .u64 (x*y%18446744073709551616)]):=by
 refine qn func180 call180 λβ hf=>?_;refine dn ?_;have V:∀n:Int,n.fdiv (2^min 32 (IntKind.bits .u64))=n/4294967296:=λn=>by rw[show(2:Int)^(min 32 (IntKind.bits .u64))=4294967296 from by decide];exact ado n cc
 have J:∀n:Int,IntKind.u64.wrap n=n%18446744073709551616:=λn=>by simp[IntKind.wrap,IntKind.bits,IntKind.signed]
 simp only[V,MN x bn bn,MN y bn bn];obtain⟨W,M,H,U,h1,h2,Q,P,G⟩:∃W M:Int,x/4294967296=W/\x%4294967296=M/\0<=W/\W<=268435456/\0<=M/\M<=4294967295/\x=W*4294967296+M:=⟨_,_,rfl,rfl,bn,bn,bn,bn,bn⟩;obtain⟨p,Y,E,T,g1,I,O,N,D⟩:∃p Y:Int,y/4294967296=p/\y%4294967296=Y/\0<=p/\p<=268435456/\0<=Y/\Y<=4294967295/\y=p*4294967296+Y:=⟨_,_,rfl,rfl,bn,bn,bn,bn,bn⟩;rw[J (x*y)];rw[H,U,E,T];have e:=Vq W M p Y;rw[<- G,<- D]at e;have C:=oh h1 h2 g1 I;have B:=oh h1 h2 O N;have A:=oh Q P g1 I;have S:=oh Q P O N;have K:=ZO (W*p) (W*Y) (M*p) (M*Y) S.1;rw[<- e]at K;rw[<- K];generalize W*p=Wq at *;generalize W*Y=XS at *;generalize M*p=ZP at *;generalize M*Y=Wr at *;rw[DB (n:=Wr) bn bn,DB (n:=XS) bn bn,DB (n:=ZP) bn bn,DB (n:=Wq) bn bn];rw[DB (n:=XS+Wr/4294967296) bn bn,MN _ bn bn];rw[DB (n:=Wq+_) bn bn,DB (n:=(XS+Wr/4294967296)%4294967296+ZP) bn bn,DB bn bn]
def vU(a:Int):0<=(mS a).1/\(mS a).1<=1152921504606846976:=by
 unfold mS;split
 ·rename_i h;have:=lC.1 h;dsimp only;split<;>omega
 simp
def Ws(a:Int):0<=IntKind.u64.wrap (mS a).1/\IntKind.u64.wrap (mS a).1<=1152921504606846976:=by have:=vU a;rw[DB bn bn];exact this
def S5(a:Int):IntKind.u64.wrap (mS a).1=(mS a).1:=by have:=vU a;exact DB bn bn
def S6(a:Int):((mS a).2 != 0) = !tQ a:=by unfold mS;split;rename_i h;simp[h];rename_i h;simp[h]
def S7(a b:Int)(W:tQ a=true)(A:tQ b=true):((!(decide (a<0)==decide (b<0)))=false->(mS a).1*(mS b).1=a*b)/\((!(decide (a<0)==decide (b<0)))=true->(mS a).1*(mS b).1 = -(a*b)):=by by_cases h1:a<0<;>by_cases h2:b<0<;>simp[mS,W,A,h1,h2,Int.neg_mul_neg,Int.neg_mul,Int.mul_neg]
def FP(a b:Int):af 162 [.int .i64 a,.int .i64 b] (two (qT a b)):=by
 refine qn func162 call162 λβ hf=>?_
 repeat' (first|refine sz ?_|refine zc ?_ ?_|(intro h;first|(cases h;done)|rw[h]|skip)|refine uC Z (zX a) ?_|refine uC Z (zX b) ?_|refine uC Z (Ki _ _ (Ws _) (Ws _)) ?_)
 all_goals simp only[S6,S5]at *
 simp_all [qT,two];simp_all [qT,two]
 all_goals
  obtain⟨h1,h2⟩:tQ a=true/\tQ b=true:=by simp_all
  obtain⟨U,Y⟩:=S7 a b h1 h2;have u:=oh (vU a).1 (vU a).2 (vU b).1 (vU b).2;rw[show qT a b=kT (a*b)from by simp[qT,h1,h2]];generalize (mS a).1*(mS b).1=q at *;generalize a*b=r at *
 ·have S:q/18446744073709551616≠0:=by simp_all
  have P:¬(tQ r=true):=by rw[lC];cases C:(!(decide (a<0)==decide (b<0)))<;>simp only[C,true_implies,reduceCtorEq,false_implies]at U Y<;>omega
  simp[kT,P,two]
 ·have S:q/18446744073709551616=0:=by simp_all
  have Q:q%18446744073709551616>1152921504606846976:=by simp_all
  have P:¬(tQ r=true):=by rw[lC];cases C:(!(decide (a<0)==decide (b<0)))<;>simp only[C,true_implies,reduceCtorEq,false_implies]at U Y<;>omega
  simp[kT,P,two]
 ·have S:q/18446744073709551616=0:=by simp_all
  have Q:q%18446744073709551616<=1152921504606846976:=by simp_all
  have O:=Y (by assumption);have P:tQ r=true:=lC.2 bn;rw[gM (n:=q%18446744073709551616) bn bn,gM bn bn];simp only[kT,P,two,if_true];exact R5 bn Z
 have S:q/18446744073709551616=0:=by simp_all
 have Q:q%18446744073709551616<=1152921504606846976:=by simp_all
 have O:=U (by assumption);have P:tQ r=true:=lC.2 bn;rw[gM (n:=q%18446744073709551616) bn bn];simp only[kT,P,two,if_true];exact R5 bn Z
end Go.Proofs
