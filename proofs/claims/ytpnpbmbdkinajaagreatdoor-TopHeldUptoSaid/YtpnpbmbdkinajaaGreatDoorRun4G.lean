/- A part of the proof. -/
import Derived.Test.YtpnpbmbdkinajaaGreatDoorSlTyG
import Derived.Test.YtpnpbmbdkinajaaGreatDoorVal1G
set_option linter.all false
set_option maxHeartbeats 0
set_option maxRecDepth 100000
open Go.IntKind Go.Proofs.Tryz
namespace Go.Proofs
open Go.cE
def GS:∀(l:Ξ),(bD (aa l)).all CV.one
 |[]=>rfl
 |.mk _ _ _ _ _ _ _::l=>by simp only[aa,bz,bD,CV.cells,ajJ,GS l,ajy];rfl
def zX:∀(n:Nat)(l:Ξ),(aa l).take n=aa (l.take n)
 |0,l=>rfl
 |n+1,[]=>rfl
 |n+1,x::l=>by simp only[aa,ajL,zX n l]
def xX:∀(n:Nat)(l:Ξ),(aa l).drop n=aa (l.drop n)
 |0,l=>rfl
 |n+1,[]=>rfl
 |n+1,x::l=>by simp only[aa,aje,xX n l]
attribute [local irreducible] AK ag aZ bS cA
def gH(x:Vl)(l:Ξ)(E:l.length<=1099511627776):qL 81 none [.c (.sl 7 (aa (x::l)))] (.iI 999999 0 7 (l.length+1)) (some (bD (aa (x::l)))):=by
 have Q:=aE l;have T:([]++aa (x::l)).length=l.length+1:=by simp only[aa,aiR,aat,Q]
 have U:((([]:Ψ).length)+(aa (x::l)).length)*112<=140737488355328:=by simp only[aa,aat,aav,Q];omega
 obtain⟨k,u,Y,O,V,S,code⟩:=x;refine de.of func81 Z (λV w=>call81 V w) (ahw Z) [(0,.c (.sl 7 (aa (.mk k u Y O V S code::l))))] ⟨[],[],[]⟩ Z Z λP=>?_;have hf:=func81
 repeat' (first|refine sz ?_|refine ze ?_ ?_|(intro h;first|(cases h;done)|rw[h]|skip)|refine AK.sY rfl ?_ ?_|refine ag.xg hX kn rfl rfl rfl rfl rfl rfl rfl rfl rfl rfl rfl rfl rfl rfl rfl rfl rfl rfl (λh=>by cases h) rfl rfl rfl U rfl T ?_|(refine uA rfl ?_ ?_<;>(try (show(_:Nat)*_<=_;dsimp only))))
 exact AK.afo hX hf Z Z Z
def u9(s:Ξ)(i:Nat)(hi:i<s.length)(hl:s.length<=20000000000):qL 130 (some (bD (aa s))) (.iI 1000000 0 7 s.length::[CV.int .i64 (i:Int),CV.int .i64 ((i+1:Nat):Int)].map AV.c)
  (.iI 999999 0 7 (aa (s.take i++s.drop (i+1))).length) (some (bD (aa (s.take i++s.drop (i+1))))):=by
 have y:=aE s;have x:(bD (aa s)).length=s.length*7:=by rw[dL (iQ s),y]
 have S:bD (aa (s.take i++s.drop (i+1)))=(bD (aa s)).take (i*7)++(bD (aa s)).drop ((i+1)*7):=by rw[mU,eg,xh (iQ s) i ai,xm (iQ s) (i+1) ai,zX,xX]
 refine de.aiA (λz w=>call130 z w) ai (GS _) ?_;intro w G b A F us t r jH U J W V T I;simp only[cy,Rel]at I;obtain⟨_,_,rfl,rfl,_,_,rfl,rfl,rfl⟩:=I;have N:F.length=s.length*7:=by rw[qM U,x]
 have m:=oL U W;refine⟨F.take (i*7)++F.drop ((i+1)*7),by rw[S];exact gD (vU _ U) (vV _ U),?_⟩;have p:∀o,o<A*7->(w.cell? ⟨b,o,none⟩).isSome:=λo Q=>by obtain⟨u,K⟩:=(T o).1 Q;rw[K];rfl
 have H:(F.drop ((i+1)*7)).length=(s.length-(i+1))*7:=by rw[aih,N];omega
 refine Calls.mono (adr s.length A i b w hi V (F.drop ((i+1)*7)) _ H (λu K=>m u (aiW K)) (λj u Y=>J _ u (by rwa[akp]at Y)) p (λo=>(T o).2) Z) ?_;rintro e w' ⟨f,rfl⟩;obtain⟨E,k2,k3,k4,d⟩:=fh b (F.drop ((i+1)*7)) (i*7) w.drew;generalize P:[Value.int IntKind.i64 0,Value.int IntKind.i64 0,Value.int IntKind.i64 0,Value.string ⟨#[]⟩,Value.slice none 0 0,Value.slice none 0 0,Value.slice none 0 0]=zs;have a:zs.length=7:=by rw[<- P];rfl
 obtain⟨D,l2,l3,l4,l5⟩:=fh b zs ((s.length-1)*7) (w.drew.setCells b (i*7) (F.drop ((i+1)*7)));have O:∀j,j<(F.drop ((i+1)*7)).length->(w.drew.cell? ⟨b,i*7+j,none⟩).isSome:=λj Y=>p _ (by rw[H]at Y;omega);have C:∀j,j<zs.length->((w.drew.setCells b (i*7) (F.drop ((i+1)*7))).cell? ⟨b,(s.length-1)*7+j,none⟩).isSome:=λj Y=>dK O (p _ ai);have yF:(aa (s.take i++s.drop (i+1))).length=s.length-1:=by rw[aE,acg,ahZ,aih];omega
 refine⟨b,A,by rw[yF];exact f,ai,⟨agj,agl,agm,by rw[D,E];exact acd _,.inl Z,λj u Y=>?_,λB _ h=>by rw[l5 B h,d B h];rfl⟩,by rw[D,E];exact t,λo=>⟨λQ=>Option.isSome_iff_exists.1 (dK C (dK O (p o Q))),by rw[World.frozen?_setCells,World.frozen?_setCells];exact(T o).2⟩⟩;have q:(F.take (i*7)).length=i*7:=by rw[ahZ,N];omega
 rw[eT C,eT O];rw[ajH]at Y;split at Y;rename_i h;rw[q]at h;rw[ajl,if_pos h]at Y;rw[if_neg ai,if_neg ai];exact J j u Y;rename_i h;rw[q]at h Y;have ω:j-i*7<(F.drop ((i+1)*7)).length:=by
  rcases ajK (j-i*7) (F.drop ((i+1)*7)).length with M|M
  exact M;rw[aiL M]at Y;cases Y
 rw[if_neg ai,if_pos ai];exact Y
def zY(s:Ξ)(x:Vl)(i:Nat)(m:0<s.length)(hi:i<=s.length)(hl:s.length<=20000000000):qL 131 (some (bD (aa s))) (.iI 1000000 0 7 s.length::[CV.int .i64 (i:Int),CV.sl 7 (aa [x])].map AV.c)
  (.iI 999999 0 7 (aa (s.take i++x::s.drop i)).length) (some (bD (aa (s.take i++x::s.drop i)))):=by
 have z1:=aE s;have hc:(bD (aa s)).length=s.length*7:=by rw[dL (iQ s),z1]
 have I:bD (aa (s.take i++x::s.drop i))=(bD (aa s)).take (i*7)++(bD (aa [x])++(bD (aa s)).drop (i*7)):=by rw[mU,eg,xh (iQ s) i ai,xm (iQ s) i ai,zX,xX];simp only[aa,bD,ahq]
 refine de.aiA (λF w=>call131 F w) m (GS _) ?_;intro w G b A y us hb H B S kF W V T f;obtain⟨k,nn,d,a,F,z,code⟩:=x;simp only[cy,Rel,aa,ct,aat,aav]at f;obtain⟨_,_,rfl,rfl,_,_,rfl,⟨ω,ψ,vc,rfl,rfl,χ,p⟩,rfl⟩:=f;have q:y.length=s.length*7:=by rw[qM S,hc]
 have h1:=oL S W;have E:∀o,o<A*7->(w.cell? ⟨b,o,none⟩).isSome:=λo D=>by obtain⟨u,hu⟩:=(T o).1 D;rw[hu];rfl
 rcases p with p|⟨vb,vo,rfl,p⟩
 simp at p;simp only[ig,rK,dS,akb]at p;obtain⟨⟨⟨Q,t,r1,o1⟩,⟨P,g2,r2,o2⟩,⟨O,g3,r3,o3⟩,⟨N,g4,r4,o4⟩,⟨M,g5,r5,o5⟩,⟨K,g6,r6,o6⟩,q7⟩,_⟩:=p;obtain⟨⟨J,g7,r7,o7⟩,_⟩:=q7;have O3:vb≠b:=λh=>by subst h;rw[H]at t;cases t
 have Pp:cy G (bD (aa [.mk k nn d a F z code])) [Q,P,O,N,M,K,J]:=by simp only[aa,ct,bD,CV.cells,ahq,cy];exact⟨Q,_,Z,r1,P,_,Z,r2,O,_,Z,r3,N,_,Z,r4,M,_,Z,r5,K,_,Z,r6,J,_,Z,r7,Z⟩
 refine⟨y.take (i*7)++([Q,P,O,N,M,K,J]++y.drop (i*7)),by rw[I];exact gD (vU _ S) (gD Pp (vV _ S)),?_⟩;refine Calls.mono (ads b s.length A i vb vo vc y [Q,P,O,N,M,K,J] w hi m V ai O3 q Z kF E (λo=>(T o).2) (λj v Y=>?_) h1 (oL Pp (GS _))) ?_
 ·rcases j with _|_|_|_|_|_|_|j
  simp at Y;subst Y;exact B _ _ _ t;simp at Y;subst Y;exact B _ _ _ g2;simp at Y;subst Y;exact B _ _ _ g3;simp at Y;subst Y;exact B _ _ _ g4;simp at Y;subst Y;exact B _ _ _ g5;simp at Y;subst Y;exact B _ _ _ g6;simp at Y;subst Y;exact B _ _ _ g7;simp at Y
 rintro e w' ⟨b',U,e1,e2,e3,C⟩;have yF:(aa (s.take i++Vl.mk k nn d a F z code::s.drop i)).length=s.length+1:=by rw[aE,acg,aat,ahZ,aih];omega
 obtain⟨u0,r⟩:=Option.isSome_iff_exists.1 ((C 0).1 ai);exact⟨b',U,by rw[yF];exact e1,by rw[yF];exact e2,e3,IQ r,λo=>⟨λD=>Option.isSome_iff_exists.1 ((C o).1 D),(C o).2⟩⟩
def LC:∀(p x y q:Φ),x.length=y.length->bQ p.length x (p++(y++q))=some (p++(x++q))
 |[],x,y,q,h=>by
  induction x generalizing y with
  |nil=>cases y with
   |nil=>cases q<;>simp only[aav,aiR,bQ]
   |cons _ _=>simp at h
  |cons a x S=>cases y with
   |nil=>simp at h
   |cons b y =>
    have:=S y nu;simp only[aav,aiR,ahk]at this ⊢;simp only[bQ,this]
 |a::p,x,y,q,h=>by
  cases x with
  |nil=>cases y with
   |nil=>simp only[aat,ahk,bQ]
   |cons _ _=>simp at h
  |cons b x=>simp only[aat,ahk,bQ,LC p (b::x) y q h]
def LD{l:Ξ}{i:Nat}{v:Vl}(h:l[i]?=some v):l=l.take i++v::l.drop (i+1)/\(l.take i).length=i:=by obtain⟨Y,V⟩:=List.getElem?_eq_some_iff.1 h;constructor;rw[<- LF h,aiD];grind
def TP(a b:Ξ):aq (aa (a++b))=aq (aa a)++aq (aa b):=by rw[aq,mU,eg,aib]
def aag(a:Ξ):(aq (aa a)).length=a.length*7:=by rw[aq,ahY,dL (iQ _),aE]
def IW{l:Ξ}{i:Nat}{k n a:Int}{s:Δ}{V:Ξ}{Y:Γ}{code:Θ}(h:l[i]?=some (.mk k n a s V Y code)):eB (0+i*7) (aq (aa l)) =
  some (.c (ah k) :: .c (ah n) :: .c (ah a) :: .c (.str s) :: .c (.sl 7 (aa V)) :: .c (.sl 2 (az Y)) :: .c (.sl 5 (aD code))::aq (aa (l.drop (i+1)))):=by
 obtain⟨U,T⟩:=LD h;have B:=aag (l.take i);rw[T]at B
 conv=>lhs;rw[U,TP,ahr,<- B,j6]
 rfl
def LG{l:Ξ}{i:Nat}(h:i<l.length)(k n a:Int)(s:Δ)(V:Ξ)(Y:Γ)(code:Θ):bQ (0+i*7) [.c (ah k),.c (ah n),.c (ah a),.c (.str s),.c (.sl 7 (aa V)),.c (.sl 2 (az Y)),.c (.sl 5 (aD code))] (aq (aa l)) =
  some (aq (aa (l.set i (.mk k n a s V Y code)))):=by
 obtain⟨v,u⟩:∃v,l[i]?=some v:=⟨_,ahl h⟩;obtain⟨U,T⟩:=LD u;have B:=aag (l.take i);rw[T]at B;have A:l.set i (.mk k n a s V Y code)=l.take i ++ .mk k n a s V Y code::l.drop (i+1):=by rw[List.set_eq_take_append_cons_drop,if_pos h]
 rw[A,TP]
 conv=>lhs;rw[U,TP,ahr,<- B]
 have O:aq (aa (v::l.drop (i+1)))=aq [bz v]++aq (aa (l.drop (i+1))):=by show aq (bz v::aa (l.drop (i+1)))=_;rw[aq,aq,aq,<- aib];simp only[bD,ahq]
 rw[O,LC];rfl;cases v;rfl
def adt{l m:Ξ}{i:Nat}(C:m.length=l.length)(H:l.length<=2*i+1)(Y:2*i<=l.length+1)(h:∀k,k<l.length->m[k]?=if k<i\/l.length<=k+i then l[l.length-1-k]? else l[k]?):m=l.reverse:=by apply List.ext_getElem?;intro k;by_cases I:k<l.length;grind;simp_all
def lG(l:Ξ)(hl:l.length<=1099511627776):th 82 [(1000000,aq (aa l))] [.iI 1000000 0 7 l.length] (.c .undef) [(1000000,aq (aa l.reverse))]:=by
 refine cA.of func82 Z (λF w=>call82 F w) (ahw Z) [(0,.iI 1000000 0 7 l.length)] ⟨[(1000000,aq (aa l))],[],[1000000]⟩ Z Z λβ=>?_;have hf:=func82;generalize Q:l.reverse=rv;refine dnm ?_;have O:i64.wrap ((l.length:Nat)-1:Int)=(l.length:Nat)-1:=gW ai ai;refine AK.gK [(1000000,1000000)] [] (env':=[(0,.iI 1000000 0 7 l.length),(2,.c (ah ((0:Nat):Int))),(3,.c (ah ((l.length:Nat)-1-((0:Nat):Int))))])
  (bs':=[(1000000,aq (aa l))]) (ts':=[]) (us':=[1000000]) ⟨⟨_,Z,⟨_,Z,Z⟩⟩,⟨_,Z,.inl Z⟩,⟨_,Z,.inl (ahm (λz=>AV.c (.int .i64 z)) (O.trans ai))⟩,trivial⟩ ⟨⟨_,_,Z,Z,cO _⟩,trivial⟩ Z ?_
 refine AK.dg (α:=Nat×Ξ) (λz=>z.2.length=l.length/\2*z.1<=l.length+1/\∀k,k<l.length->z.2[k]?=if k<z.1\/l.length<=k+z.1 then l[l.length-1-k]? else l[k]?) (λz=>l.length+1-z.1)
  (λz=>[(0,.iI 1000000 0 7 l.length),(2,.c (ah (z.1:Nat))),(3,.c (ah ((l.length:Nat)-1-(z.1:Nat))))]) (λz=>[(1000000,aq (aa z.2))]) (λ_=>[]) [1000000] (0,l)
  ⟨Z,by show 2*0<=_;omega,λk A=>by show l[k]?=if k<0\/l.length<=k+0 then _ else _;rw[if_neg ai]⟩ ce ⟨Z,trivial⟩ trivial Z (VP Z (No _ _) Z) Z ?_
 rintro⟨i,m⟩ ⟨y,t,B⟩ ih;simp only at y t B;by_cases d:2*i+1<l.length
 ·have hc:decide ((i:Int)<(l.length:Nat)-1-(i:Nat)):=ace ai;obtain⟨j,hj⟩:∃j:Nat,j+i+1=l.length:=⟨l.length-1-i,ai⟩;have N:((l.length:Nat)-1-(i:Nat):Int)=(j:Nat):=by omega
  obtain⟨a,o⟩:∃a,m[j]?=some a:=⟨_,ahl ai⟩;obtain⟨b,f⟩:∃b,m[i]?=some b:=⟨_,ahl ai⟩;have E:∀k,k<l.length->((m.set i a).set j b)[k]?=if k<i+1\/l.length<=k+(i+1)then l[l.length-1-k]? else l[k]?:=by intro k A;by_cases M:k=j;subst M;rw[akI oe,if_pos ai,<- f,B i ai,if_neg ai];congr 1;omega;rw[List.getElem?_set_ne ai];by_cases K:k=i;subst K;rw[akI ai,if_pos ai,<- o,B j ai,if_neg ai];congr 1;omega;rw[List.getElem?_set_ne ai,B k A];by_cases V:k<i\/l.length<=k+i;rw[if_pos V,if_pos ai];rw[if_neg V,if_neg ai]
  obtain⟨U,q,T,P,Y,H,S⟩:=a;obtain⟨J,I,x,p,W,u,G⟩:=b;have r1:=IW o;have r2:=IW f;have w1:=LG (l:=m) (i:=i) ai U q T P Y H S;have w2:=LG (l:=m.set i (.mk U q T P Y H S)) (i:=j) (by rw[akj];omega) J I x p W u G;have D:i64.wrap ((i:Int)+1)=((i+1:Nat):Int):=by rw[gW ai ai];omega
  have C:i64.wrap ((l.length:Nat)-1-(i:Nat)-1:Int)=(l.length:Nat)-1-((i+1:Nat):Int):=by rw[gW ai ai];omega
  repeat' (first|refine pS ?_|refine zc ?_ ?_|(intro h;first|(cases h;done)|rw[h]|skip)|refine AK.sY Z ?_ ?_|refine ag.kZ hX kn Z Z Z Z Z Z Z Z Z j N ai ?_|refine ag.kZ hX kn Z Z Z Z Z Z Z Z Z i Z ai ?_|refine ag.dy hX kn Z Z Z Z Z Z r1 Z ?_|refine ag.dy hX kn Z Z Z Z Z Z r2 Z ?_|refine ag.store hX kn Z Z Z Z Z Z Z Z Z w1 Z ?_|refine ag.store hX kn Z Z Z Z Z Z Z Z Z w2 Z ?_|(refine uA Z ?_ ?_<;>(try (show(_:Nat)*_<=_;dsimp only))))
  refine AK.gK [(1000000,1000000)] [] (env':=[(0,.iI 1000000 0 7 l.length),(2,.c (ah ((i+1:Nat):Int))),(3,.c (ah ((l.length:Nat)-1-((i+1:Nat):Int))))])
   (bs':=[(1000000,aq (aa ((m.set i (.mk U q T P Y H S)).set j (.mk J I x p W u G))))]) (ts':=[]) (us':=[1000000])
   ⟨⟨_,Z,⟨_,Z,Z⟩⟩,⟨_,Z,.inl (ahm (λz=>AV.c (.int .i64 z)) D)⟩,⟨_,Z,.inl (ahm (λz=>AV.c (.int .i64 z)) C)⟩,trivial⟩ ⟨⟨_,_,Z,Z,cO _⟩,trivial⟩ Z ?_
  exact ih (i+1,(m.set i (.mk U q T P Y H S)).set j (.mk J I x p W u G)) ⟨by show(List.set _ _ _).length=_;rw[akj,akj];exact y,by show 2*(i+1)<=_;omega,E⟩ (by show l.length+1-(i+1)<l.length+1-i;omega)
 have hc:decide ((i:Int)<(l.length:Nat)-1-(i:Nat))=false:=acf ai;have hm:m=rv:=by rw[<- Q];exact adt y ai t B
 subst hm;clear ih
 repeat' (first|refine pS ?_|refine zc ?_ ?_|(intro h;first|(cases h;done)|rw[h]|skip)|refine AK.sY Z ?_ ?_|(refine uA Z ?_ ?_<;>(try (show(_:Nat)*_<=_;dsimp only))))
 exact AK.IS (.inr Z) hX hf Z [(1000000,1000000)] Z (.inr Z) ⟨⟨_,_,Z,Z,cO _⟩,trivial⟩
end Go.Proofs
namespace Go.Proofs
open Go.cE
def cA.aiE{P:Program}{X:Ctx}{f:FuncId}{u I:tab}{Y Q:Φ}{r:AV}(h:∀(g:Gh) U,cn g Q U->cn g Y U)(T:cA P X f u Y r I):cA P X f u Q r I :=
 ⟨T.1,λg w U H N V=>T.2 g w U H N (h g U V)⟩
def alH{s t:Nat}{g:Gh}{u:Value}(h:aX g (.c (.sl s [])) u):aX g (.c (.sl t [])) u:=by simp only[aX,Rel]at h ⊢;obtain⟨V,Y,T,U,S,B,_⟩:=h;exact⟨V,Y,T,U,S,B,.inl trivial⟩
def jj(S:bM)(code:Θ)(fin:Int)(E:S.fr.length<=1099511627776):cM 96 S [.c (.sl 5 (aD code)),.c (ah fin),.c (.sl 0 [])] .undef (dZ S code fin []) :=
 cA.aiE (λg O h=>by
  simp only[cn]at h ⊢;obtain⟨Y,_,rfl,Q,W,_,rfl,P,V,_,rfl,B,U,_,rfl,T,rfl⟩:=h
  exact⟨Y,_,Z,Q,W,_,Z,P,V,_,Z,B,U,_,Z,alH T,Z⟩) (zZ S code fin [] E)
def gI:af 133 [.sl 0 []] (bz (cr [])) :=
 aZ.wk (by simp only[GA];exact⟨ab7,trivial⟩) (Wk.refl _) (hJ [])
def aeJ{st:Ξ}{k:Nat}{v:Vl}(h:st[k]?=some v):st.reverse[st.length-1-k]?=some v:=by obtain⟨Y,V⟩:=List.getElem?_eq_some_iff.1 h;rw[List.getElem?_reverse ai];rw[show st.length-1-(st.length-1-k)=k from by omega];exact h
def aah{l:Ξ}{i:Nat}{v:Vl}(h:l[i]?=some v):lV l i=v:=by unfold lV;rw[aiC,h];rfl
def yy{T:AV->AV->Prop}(Y:∀a,T a a):∀l:Φ,Vv T l l
 |[]=>trivial
 |a::l=>⟨Y a,yy Y l⟩
def aiF{a b:Nat}(h:a≠b):(!Nat.beq a b):=by
 cases e:Nat.beq a b with
 |false=>rfl
 |true=>exact absurd (beq_true e) h
def GU{f:FuncId}{n:Nat}{I:lu}{R:Ending->World->Prop}{K:L Item}{env:Env}(S:bM){a b:Nat}{F:Ω}{M:tab}{T E J:Φ}(C:au 1000000 M=some T)(A:T=mC S a b)(z:au a M=some E)(q1:E=aq (sR S.st))(y:au b M=some J)(Q:J=aq (fR S.fr))(P:Go.cE.distinct [1000000,a,b])(Y:tab)(W:∀g:Nat,PtB (Ym a 7 (sR S.st)) M Y)(U:(Y.all λp => !Nat.beq p.1 a)){env':Env}{D ts':tad}(O:PtE (Ym a 7 (sR S.st)) env env')(B:Qu D ts')
  (h:CI f n I R K env' ⟨(1000000,SD S 0 b)::(b,aq (fR S.fr))::Y,ts',F⟩):CI f n I R K env ⟨M,D,F⟩:=by
 subst A q1 Q;obtain⟨q,N,n3⟩:=EO P;have V:∀x,Ym a 7 (sR S.st) x x:=λ_ => .inl Z;refine AK.CF a 7 (sR S.st) (tail:=[]) (bs':=(1000000,SD S 0 b)::(b,aq (fR S.fr))::Y) z (ahq _).symm (iQ _) O ⟨⟨_,C,⟨V _,V _,V _,V _,.inr ⟨_,Z,(kK _).symm,Z⟩,yy V _⟩⟩,⟨_,y,yy V _⟩,W 0⟩ ?_ B h;simp only[aiK,U,ajy,aiF q,aiF (Ne.symm n3)]
attribute [local irreducible] AK ag aZ bS cA de nQ
def Xp(S:bM)(T:Int)(p:Δ)(l:Ξ):cM 114 S [.c (aV (.mk 2 T 40 p [])),.c (.sl 7 (aa l))] (ah 0) S:=by exact mdm func114 call114
def Xq(S:bM)(T:Int)(p:Δ)(a b:Vl)(V:aG a<=8589934593)(U:aG b<=8589934593)(E:S.st.length<=1000000000):jT 114 S [.c (aV (.mk 2 T 42 p [])),.c (.sl 7 (aa [a,b]))] (bg S [a,b]):=by have M:=tY S [a,b] (by intro v u;simp at u;rcases u with rfl|rfl<;>assumption) cS UZ;obtain⟨Q,q,P,H,Y,O,B⟩:=a;obtain⟨N,K,F,J,W,I,G⟩:=b;exact mdm func114 call114
def aai(S:bM)(T:Int)(p:Δ)(k:Nat)(V:Int)(U:Δ)(Q:Θ)(l:Ξ)(v:Vl)(K:1<=k)(u:S.st[k-1]?=some v)(I:aG v<=8589934593)(E:S.st.length<=1000000000) :
  jT 114 S [.c (aV (.mk 2 T 41 p [.mk 0 (k:Nat) V U Q])),.c (.sl 7 (aa l))] (bg S [v]):=by
 have M:=tY S [v] (by intro x O;simp at O;subst O;exact I) cS UZ;have P:=aeJ u;have N:k-1<S.st.length:=(List.getElem?_eq_some_iff.1 u).1;obtain⟨J,q,G,D,Y,C,B⟩:=v;have H:i64.wrap ((S.st.length:Int)-(k:Nat))=((S.st.length-1-(k-1):Nat):Int):=by rw[gW ai ai];omega
 have A:decide ((k:Int)<1)=false:=acf ai;have F:decide (i64.wrap ((S.st.length:Int)-(k:Nat))<0)=false:=by rw[H];exact acf ai
 have W:=IW P;refine mn func114 call114 λz hf=>?_
 repeat' (first|refine pS ?_|refine zc ?_ ?_|(intro h;first|(cases h;done)|rw[h]|skip)|refine uI Z (0) Z (Z) Z ?_|refine ag.kZ hX kn Z Z Z Z Z Z Z Z Z (S.st.length-1-(k-1)) H ai ?_|refine ag.dy hX kn Z Z Z Z Z Z W Z ?_|refine xY ?_ (hq:=M)|(refine uA Z ?_ ?_<;>(try (show(_:Nat)*_<=_;dsimp only))))
 all_goals rfl
def aaj{st:Ξ}{k:Nat}{v:Vl}(u:st[k]?=some v):sR (st.take k++st.drop (k+1))=aa (st.reverse.take (st.length-1-k)++st.reverse.drop (st.length-1-k+1)):=by
 have T:k<st.length:=(List.getElem?_eq_some_iff.1 u).1;have A:st.length-(st.length-1-k)=k+1:=by omega
 have Q:st.length-(st.length-1-k+1)=k:=by omega
 rw[sR,akS,List.take_reverse,List.drop_reverse,A,Q]
def aak(S:bM)(A:Int)(p:Δ)(k:Nat)(U:Int)(O:Δ)(Q:Θ)(l:Ξ)(v:Vl)(u:S.st[k]?=some v)(y:S.st.length<=1000000000) :
  cM 114 S [.c (aV (.mk 2 A 43 p [.mk 0 (k:Nat) U O Q])),.c (.sl 7 (aa l))] (ah 0) {S with st:=v::(S.st.take k++S.st.drop (k+1))}:=by
 have M:=aeJ u;have T:k<S.st.length:=(List.getElem?_eq_some_iff.1 u).1;have H:i64.wrap ((((sR S.st).length:Nat):Int)-(k:Nat))=((S.st.length-1-k+1:Nat):Int):=by rw[kK];rw[gW ai ai];omega
 have W:i64.wrap (i64.wrap ((((sR S.st).length:Nat):Int)-(k:Nat))-1)=((S.st.length-1-k:Nat):Int):=by rw[H,gW ai ai];omega
 have K:decide ((k:Int)<0)=false:=acf ai;have J:decide (i64.wrap ((((sR S.st).length:Nat):Int)-(k:Nat))<1)=false:=by rw[H];exact acf ai
 have I:(bif decide ((k:Int)<0)then true else decide (i64.wrap ((((sR S.st).length:Nat):Int)-(k:Nat))<1))=false:=by rw[K,J];rfl
 have P:=u9 S.st.reverse (S.st.length-1-k) ac1 ac1;rw[<- aaj u]at P;have V:(aa S.st.reverse)[S.st.length-1-k]?=some (bz v):=by rw[lR,M];rfl
 obtain⟨x,q,hq⟩:∃x q,S.st.reverse=x::q:=by
  cases h:S.st.reverse with
  |nil=>have:=ahm List.length h;simp at this;rw[this]at T;simp at T
  |cons x q=>exact⟨x,q,Z⟩
 have N:=gH x q ady;rw[<- hq]at N;have G:(AV.iI 1000000 0 7 S.st.reverse.length::List.map AV.c [CV.int IntKind.i64 ((S.st.length-1-k:Nat):Int),CV.int IntKind.i64 ((S.st.length-1-k+1:Nat):Int)]) = .iI 1000000 0 7 (q.length+1)::[CV.int IntKind.i64 (i64.wrap (i64.wrap ((((sR S.st).length:Nat):Int)-(k:Nat))-1)),CV.int IntKind.i64 (i64.wrap ((((sR S.st).length:Nat):Int)-(k:Nat)))].map AV.c:=by rw[W,H,hq];rfl
 obtain⟨E,D,C,B,Y,F,z⟩:=v;refine mn func114 call114 λt hf=>?_;refine GU S Z Z Z Z Z Z Z [] (λ_=>trivial) Z (env':=[(0,.ptr 1000000 0),(1,.c (aV (.mk 2 A 43 p [.mk 0 (k:Nat) U O Q]))),(2,.c (.sl 7 (aa l)))]) (ts':=[]) ce trivial ?_
 repeat' (first|refine pS ?_|refine zc ?_ ?_|(intro h;first|(cases h;done)|rw[h]|skip)|refine uI Z (0) Z (Z) Z ?_|refine uI Z (S.st.length-1-k) W V Z ?_|refine ag.nJ kn Z Z Z Z Z Z N Z ?_|refine ag.vH kn Z Z Z Z Z Z Z Z Z P G Z ?_|refine ag.od hX kn Z Z Z Z Z Z Z Z Z Z Z Z Z Z Z (sR (S.st.take k++S.st.drop (k+1))) [] (ahq _).symm Z (by rw[kK];exact xZ _) Z Z Z Z Z Z Z (show((sR (S.st.take k++S.st.drop (k+1))).length+1)*112<=_ by rw[kK,acg,ahZ,aih];omega) (Np (.mk E D C B Y F z) _).symm (kK _) Z ?_|(refine uA Z ?_ ?_<;>(try (show(_:Nat)*_<=_;dsimp only))))
 all_goals rfl
def lS(s:Nat):th 81 [] [.c (.sl s [])] (.own .exact 7 []) []:=by
 refine cA.of func81 Z (λY w=>call81 Y w) (ahw Z) [(0,.c (.sl s []))] ⟨[],[],[]⟩ Z Z λV=>?_;have hf:=func81
 repeat' (first|refine pS ?_|refine zc ?_ ?_|(intro h;first|(cases h;done)|rw[h]|skip)|refine AK.sY Z ?_ ?_|refine ag.Nm hX kn Z Z Z Z Z Z Z Z Z Z Z Z Z ?_|(refine uA Z ?_ ?_<;>(try (show(_:Nat)*_<=_;dsimp only))))
 refine AK.weak Em Em.rel Em.one (env':=[(2,.own .exact 7 [])]) (bs':=[]) (ts':=[]) ce trivial trivial ?_;exact ahh;exact ahh
def IX(x:Vl):th 131 [] [.own .exact 7 [],.c (ah 0),.c (.sl 7 (aa [x]))] (.iI 999999 0 7 1) [(999999,aq (aa [x]))]:=by
 obtain⟨W,U,T,P,Y,H,B⟩:=x;refine cA.of func131 Z (λV w=>call131 V w) (ahw Z) [(0,.own .exact 7 []),(1,.c (ah 0)),(2,.c (.sl 7 (aa [.mk W U T P Y H B])))] ⟨[],[],[]⟩ Z Z λS=>?_;have hf:=func131
 repeat' (first|refine pS ?_|refine zc ?_ ?_|(intro h;first|(cases h;done)|rw[h]|skip)|refine AK.sY rfl ?_ ?_|refine ag.xg hX kn rfl rfl rfl rfl rfl rfl rfl rfl rfl rfl rfl rfl rfl rfl rfl rfl rfl rfl (λh=>by cases h) rfl rfl rfl (show(0+1)*112<=140737488355328 by decide) rfl (m:=1) rfl ?_|(refine uA rfl ?_ ?_<;>(try (show(_:Nat)*_<=_;dsimp only))))
 exact AK.Bh hX hf Z [(999999,25)] Z ⟨_,Z,Z⟩ ⟨⟨_,_,Z,Z,cO _⟩,trivial⟩
def aal(st:Ξ)(k:Nat)(v:Vl)(I:k<=st.length):sR (st.take k++v::st.drop k)=aa (st.reverse.take (st.length-k)++v::st.reverse.drop (st.length-k)):=by
 have A:st.length-(st.length-k)=k:=by omega
 rw[sR,akS,akt,List.take_reverse,List.drop_reverse,A,aie];rfl
def aam(S:bM)(T:Int)(p:Δ)(k:Nat)(W:Int)(O:Δ)(V:Θ)(v:Vl)(I:k<=S.st.length)(y:S.st.length<=1000000000) :
  cM 114 S [.c (aV (.mk 2 T 44 p [.mk 0 (k:Nat) W O V])),.c (.sl 7 (aa [v]))] (ah 0) {S with st:=S.st.take k++v::S.st.drop k}:=by
 have E:decide ((k:Int)<0)=false:=acf ai;by_cases C:S.st=[]
 ·obtain⟨a,b,c,d,st,fr,g,u,m,K⟩:=S;simp only at C I y;subst C;simp only[aav,Nat.le_zero]at I;subst I;have H:i64.wrap ((((sR []).length:Nat):Int)-(0:Nat))=0:=by decide
  have U:decide (i64.wrap ((((sR []).length:Nat):Int)-(0:Nat))<0)=false:=by rw[H];rfl
  have Q:(bif decide (((0:Nat):Int)<0)then true else decide (i64.wrap ((((sR []).length:Nat):Int)-(0:Nat))<0))=false:=by rw[E,U];rfl
  have A:=IX v;obtain⟨P,N,M,J,Y,G,B⟩:=v;refine mn func114 call114 λt hf=>?_;refine GU (bM.mk a b c d [] fr g u m K) Z Z Z Z Z Z Z [] (λ_=>trivial) Z (env':=[(0,.ptr 1000000 0),(1,.c (aV (.mk 2 T 44 p [.mk 0 ((0:Nat):Int) W O V]))),(2,.c (.sl 7 (aa [.mk P N M J Y G B])))]) (ts':=[]) ce trivial ?_
  repeat' (first|refine pS ?_|refine zc ?_ ?_|(intro h;first|(cases h;done)|rw[h]|skip)|refine uI Z (0) Z (Z) Z ?_|refine ag.B5 kn Z Z (lS 7) Z Z (λ_=>⟨_,_,Z,.inr Z,Z⟩) Z Z ?_|refine ag.aac kn Z Z A Z Z Z Z (λ_=>⟨_,_,Z,Z,_,_,Z,.inl (ahm (λz=>AV.c (.int .i64 z)) H),_,_,Z,.inr Z,Z⟩) ?_|(refine uA Z ?_ ?_<;>(try (show(_:Nat)*_<=_;dsimp only))))
  all_goals rfl
 have o:0<S.st.length:=List.length_pos_iff.2 C;have H:i64.wrap ((((sR S.st).length:Nat):Int)-(k:Nat))=((S.st.length-k:Nat):Int):=by rw[kK,gW ai ai];omega
 have U:decide (i64.wrap ((((sR S.st).length:Nat):Int)-(k:Nat))<0)=false:=by rw[H];exact acf ai
 have Q:(bif decide ((k:Int)<0)then true else decide (i64.wrap ((((sR S.st).length:Nat):Int)-(k:Nat))<0))=false:=by rw[E,U];rfl
 have D:=zY S.st.reverse v (S.st.length-k) ac1 ac1 ac1;rw[<- aal _ _ _ I,kK]at D;obtain⟨x,q,hq⟩:∃x q,S.st.reverse=x::q:=by
  cases h:S.st.reverse with
  |nil=>exact absurd (List.reverse_eq_nil_iff.1 h) C
  |cons x q=>exact⟨x,q,Z⟩
 have F:=gH x q ady;rw[<- hq]at F;have j:(AV.iI 1000000 0 7 S.st.reverse.length::List.map AV.c [CV.int IntKind.i64 ((S.st.length-k:Nat):Int),CV.sl 7 (aa [v])]) = .iI 1000000 0 7 (q.length+1)::[CV.int IntKind.i64 (i64.wrap ((((sR S.st).length:Nat):Int)-(k:Nat))),CV.sl 7 (aa [v])].map AV.c:=by rw[H,hq];rfl
 obtain⟨P,N,M,J,Y,G,B⟩:=v;refine mn func114 call114 λt hf=>?_;refine GU S Z Z Z Z Z Z Z [] (λ_=>trivial) Z (env':=[(0,.ptr 1000000 0),(1,.c (aV (.mk 2 T 44 p [.mk 0 (k:Nat) W O V]))),(2,.c (.sl 7 (aa [.mk P N M J Y G B])))]) (ts':=[]) ce trivial ?_
 repeat' (first|refine pS ?_|refine zc ?_ ?_|(intro h;first|(cases h;done)|rw[h]|skip)|refine uI Z (0) Z (Z) Z ?_|refine ag.nJ kn Z Z Z Z Z Z F Z ?_|refine ag.vH kn Z Z Z Z Z Z Z Z Z D j Z ?_|(refine uA Z ?_ ?_<;>(try (show(_:Nat)*_<=_;dsimp only))))
 all_goals rfl
end Go.Proofs
