/- A part of the proof. -/
import Derived.Test.YtpnpbmbdkinajaaGreatDoorBitsG
import Derived.Test.YtpnpbmbdkinajaaGreatDoorChk1G
import Derived.Test.YtpnpbmbdkinajaaGreatDoorSlTyG
set_option linter.all false
set_option maxHeartbeats 0
set_option maxRecDepth 100000
open Go.IntKind Go.Proofs.Tryz
namespace Go.Proofs
open Go.RowKit Go.Lib Go.cE
open Go.cE
def ng:∀(l:Γ)(r:CV),r∈az l->r.cells.length=2
 |[],r,h=>by simp[az]at h
 |.mk T Y::l,r,h=>by
  simp only[az,aim]at h;rcases h with rfl|h
  rfl;exact ng l r h
def GB:∀(l:Γ),(bD (az l)).all CV.one
 |[]=>rfl
 |.mk T Y::l=>by simp only[az,ct,bD,CV.cells,ajJ,GB l,ajy];rfl
def yQ:∀(n:Nat)(l:Γ),(az l).take n=az (l.take n)
 |0,l=>rfl
 |n+1,[]=>rfl
 |n+1,x::l=>by simp only[az,ajL,yQ n l]
attribute [local irreducible] AK ag aZ bS
def yR(x:Ty)(l:Γ)(E:l.length<=1099511627776):qL 56 none [.c (.sl 2 (az (x::l)))] (.iI 999999 0 2 (l.length+1)) (some (bD (az (x::l)))):=by
 have S:=aY l;have Y:([]++az (x::l)).length=l.length+1:=by simp only[az,aiR,aat,S]
 have U:((([]:Ψ).length)+(az (x::l)).length)*32<=140737488355328:=by simp only[az,aat,aav,S];omega
 obtain⟨T,Q⟩:=x;refine de.of func56 Z (λV w=>call56 V w) (ahw Z) [(0,.c (.sl 2 (az (.mk T Q::l))))] ⟨[],[],[]⟩ Z Z λP=>?_;have hf:=func56
 repeat' (first|refine ju ?_|refine ze ?_ ?_|(intro h;first|(cases h;done)|rw[h]|skip)|refine AK.sY rfl ?_ ?_|refine ag.xg hX kn rfl rfl rfl rfl rfl rfl rfl rfl rfl rfl rfl rfl rfl rfl rfl rfl rfl rfl (λh=>by cases h) rfl rfl rfl U rfl Y ?_|(refine uA rfl ?_ ?_<;>(try (show(_:Nat)*_<=_;dsimp only))))
 exact AK.afo hX hf Z Z Z
def Pn(s:Γ)(i:Nat)(D:i<s.length)(hl:s.length<=20000000000):qL 122 (some (bD (az s))) (.iI 1000000 0 2 s.length::[CV.int .i64 (i:Int),CV.int .i64 ((i+1:Nat):Int)].map AV.c)
  (.c (.sl 2 (az (s.take i++s.drop (i+1))))) none:=by
 have C:=aY s;have B:(bD (az s)).length=s.length*2:=by rw[dL (ng s),C]
 have S:bD (az (s.take i++s.drop (i+1)))=(bD (az s)).take (i*2)++(bD (az s)).drop ((i+1)*2):=by rw[lZ,eg,xh (ng s) i ai,xm (ng s) (i+1) ai,yQ,yL]
 refine de.raw (λz w=>call122 z w) ai (ng _) (GB _) ?_;intro w G b A F us hb q jH U O W V T M;simp only[cy,Rel]at M;obtain⟨_,_,rfl,rfl,_,_,rfl,rfl,rfl⟩:=M;have N:F.length=s.length*2:=by rw[qM U,B]
 have y:=oL U W;refine⟨F.take (i*2)++F.drop ((i+1)*2),by rw[S];exact gD (vU _ U) (vV _ U),?_⟩;have p:∀o,o<A*2->(w.cell? ⟨b,o,none⟩).isSome:=λo x=>by obtain⟨u,K⟩:=(T o).1 x;rw[K];rfl
 have J:(F.drop ((i+1)*2)).length=(s.length-(i+1))*2:=by rw[aih,N];omega
 refine Calls.mono (ack s.length A i b w D V (F.drop ((i+1)*2)) _ J (λu K=>y u (aiW K)) (λj u Y=>O _ u (by rwa[akp]at Y)) p (λo=>(T o).2) Z) ?_;rintro e w' ⟨t,rfl⟩;obtain⟨k1,k2,k3,k4,r⟩:=fh b (F.drop ((i+1)*2)) (i*2) w.drew;generalize Q:[Value.int IntKind.i64 0,Value.slice none 0 0]=zs;have m:zs.length=2:=by rw[<- Q];rfl
 obtain⟨l1,l2,l3,l4,f⟩:=fh b zs ((s.length-1)*2) (w.drew.setCells b (i*2) (F.drop ((i+1)*2)));have I:∀j,j<(F.drop ((i+1)*2)).length->(w.drew.cell? ⟨b,i*2+j,none⟩).isSome:=λj Y=>p _ (by rw[J]at Y;omega);have d:∀j,j<zs.length->((w.drew.setCells b (i*2) (F.drop ((i+1)*2))).cell? ⟨b,(s.length-1)*2+j,none⟩).isSome:=λj Y=>dK I (p _ ai);have a:(az (s.take i++s.drop (i+1))).length=s.length-1:=by rw[aY,acg,ahZ,aih];omega
 refine⟨b,A,by rw[a];exact t,ai,⟨agj,agl,agm,afY,.inl Z,λj u Y=>?_,λH _ h=>by rw[f H h,r H h];rfl⟩⟩;have E:(F.take (i*2)).length=i*2:=by rw[ahZ,N];omega
 rw[eT d,eT I];rw[ajH]at Y;split at Y;rename_i h;rw[E]at h;rw[ajl,if_pos h]at Y;rw[if_neg ai,if_neg ai];exact O j u Y;rename_i h;rw[E]at h Y;have ω:j-i*2<(F.drop ((i+1)*2)).length:=by
  rcases ajK (j-i*2) (F.drop ((i+1)*2)).length with P|P
  exact P;rw[aiL P]at Y;cases Y
 rw[if_neg ai,if_pos ai];exact Y
def Po(s:Γ)(x:Ty)(i:Nat)(C:0<s.length)(D:i<=s.length)(hl:s.length<=20000000000):qL 123 (some (bD (az s))) (.iI 1000000 0 2 s.length::[CV.int .i64 (i:Int),CV.sl 2 (az [x])].map AV.c)
  (.c (.sl 2 (az (s.take i++x::s.drop i)))) none:=by
 have m:=aY s;have f:(bD (az s)).length=s.length*2:=by rw[dL (ng s),m]
 have N:bD (az (s.take i++x::s.drop i))=(bD (az s)).take (i*2)++(bD (az [x])++(bD (az s)).drop (i*2)):=by rw[lZ,eg,xh (ng s) i ai,xm (ng s) i ai,yQ,yL];simp only[az,bD,ahq]
 refine de.raw (λF w=>call123 F w) C (ng _) (GB _) ?_;intro w G b A z us hb M B Q d W V Y J;obtain⟨T,t⟩:=x;simp only[cy,Rel,az,ct,aat,aav]at J;obtain⟨_,_,rfl,rfl,_,_,rfl,⟨r,a,vc,rfl,rfl,ω,p⟩,rfl⟩:=J;have q:z.length=s.length*2:=by rw[qM Q,f]
 have h1:=oL Q W;have K:∀o,o<A*2->(w.cell? ⟨b,o,none⟩).isSome:=λo ho=>by obtain⟨u,hu⟩:=(Y o).1 ho;rw[hu];rfl
 rcases p with p|⟨I,vo,rfl,p⟩
 simp at p;simp only[ig,rK,dS,akb]at p;obtain⟨⟨⟨P,y,r1,o1⟩,⟨O,g2,r2,o2⟩⟩,_⟩:=p;have O3:I≠b:=λh=>by subst h;rw[M]at y;cases y
 have H:cy G (bD (az [.mk T t])) [P,O]:=by simp only[az,ct,bD,CV.cells,ahq,cy];exact⟨P,_,Z,r1,O,_,Z,r2,Z⟩
 refine⟨z.take (i*2)++([P,O]++z.drop (i*2)),by rw[N];exact gD (vU _ Q) (gD H (vV _ Q)),?_⟩;refine Calls.mono (aco b s.length A i I vo vc z [P,O] w D C V ai O3 q Z d K (λo=>(Y o).2) (λj v U=>?_) h1 (oL H (GB _))) ?_
 ·rcases j with _|_|j
  simp at U;subst U;exact B _ _ _ y;simp at U;subst U;exact B _ _ _ g2;simp at U
 rintro e w' ⟨b',S,e1,e2,e3⟩;have E:(az (s.take i++Ty.mk T t::s.drop i)).length=s.length+1:=by rw[aY,acg,aat,ahZ,aih];omega
 exact⟨b',S,by rw[E];exact e1,by rw[E];exact e2,e3⟩
end Go.Proofs
namespace Go.Proofs
open Go.cE
attribute [local irreducible] AK ag aZ bS de jI
def Ms(T:Int)(us:Γ):iJ 123 [.v (.own 2 []),.v (.c (.int .i64 0)),.v (.c (.sl 2 [ct (.mk T us)]))] [.own 2 [ct (.mk T us)]] []:=by
 refine en func123 call123 [(0,.own (.tok 1000000 0) 2 ([])),(1,Υ 0),(2,.c (.sl 2 [ct (.mk T us)]))] [] [(1000000,0)] [1000000] λβ hf=>?_
 repeat' (first|refine ju ?_|refine ze ?_ ?_|(intro h;first|(cases h;done)|rw[h]|skip)|(refine uA Z ?_ ?_<;>(try (show(_:Nat)*_<=_;dsimp only))))
 all_goals first|exact Z|(show _<=_;simp only[aat,aav];omega)
def Vt{s:Γ}{i:Nat}{t:Ty}(h:s[i]?=some t):s.getD i kg=t:=by rw[aiC,h];rfl
def Pq(P nN:Int)(nS:Δ)(args:Θ)(types s:Γ)(hP:40<=P/\P<=44)(hf:bB P args=some types)(hs:um s)(E:s.length<=9999999990) :
  af 101 [aV (.mk 2 nN P nS args),.sl 2 (az s)] (iD (iK P args s)):=by
 have WJ:P=40\/P=41\/P=42\/P=43\/P=44:=by omega
 clear hP;rcases WJ with rfl|rfl|rfl|rfl|rfl
 ·obtain⟨rfl,rfl⟩:=dO hf rfl;clear hf;rcases s with _|⟨⟨T,us⟩,r⟩
  rw[show iK 40 [] []=br 5 from by simp[iK],dU bn];exact qdw func101 call101;rw[show iK 40 [] (.mk T us::r)=fO r from by simp[iK],fN];have el:=BA (az (.mk T us::r)) 0 Bc;have M:=Fh r;rw[fN]at M;exact qdw func101 call101
 ·obtain⟨N,p,S,xs,rfl,O,n2,rfl⟩:=Mt hf rfl;clear hf;have H:=aY s;by_cases G:1<=N;rotate_left;rw[show iK 41 [.mk 0 N p S xs] s=br 5 from by unfold iK;rw[if_neg bn,if_neg bn,if_pos rfl];exact if_neg (λh=>G h.1),dU bn];have e1:decide (N>=1)=false:=acf G;exact qdw func101 call101;have e1:decide (N>=1):=ace G;by_cases c2:N<=s.length;rotate_left;rw[show iK 41 [.mk 0 N p S xs] s=br 5 from by unfold iK;rw[if_neg bn,if_neg bn,if_pos rfl];exact if_neg (λh=>c2 h.2.1),dU bn];have Q:decide (N<=(((az s).length:Nat):Int))=false:=acf ai;exact qdw func101 call101;have Q:decide (N<=(((az s).length:Nat):Int)):=ace ai;obtain⟨j,hj⟩:∃j:Nat,N-1=(j:Int):=⟨(N-1).toNat,ai⟩;have D:i64.wrap (N-1)=(j:Int):=by rw[gW ai ai,hj]
  obtain⟨t,C⟩:∃t,s[j]?=some t:=⟨s[j]' ai,cS⟩;have B:=hs t (acm C);have htz:=B.2;have K:=xo t ai;have J:=ij C;have u:=Vt C;have V:DX ([Nd.mk 0 N p S xs].getD 0 rX)=N:=rfl;have hNj:(N-1).toNat=j:=by omega
  have Y:iK 41 [.mk 0 N p S xs] s=if jI t=true then fO (t::s)else br 5:=by unfold iK;rw[if_neg bn,if_neg bn,if_pos Z,V,hNj,u];by_cases W:jI t;rw[if_pos ⟨G,c2,W⟩,if_pos W];rw[if_neg (λh=>W h.2.2),if_neg W]
  rw[Y];obtain⟨T,us⟩:=t;cases W:jI (.mk T us)with
  |false =>
   rw[W]at K;rw[if_neg bn,dU bn];refine qn func101 call101 λβ hf=>?_
   repeat' (first|refine ju ?_|refine zc ?_ ?_|(intro h;first|(cases h;done)|rw[h]|skip)|refine uI Z (0) Z (Z) Z ?_|refine uI Z j D J Z ?_|refine uC Z K ?_)
   all_goals first|exact Wk.refl _|exact DT Z Z
  |true =>
   rw[W]at K;have M:=qa s [.mk T us];rw[fN]at M;rw[if_pos Z,fN];refine qn func101 call101 λβ hf=>?_
   repeat' (first|refine ju ?_|refine zc ?_ ?_|(intro h;first|(cases h;done)|rw[h]|skip)|refine uI Z (0) Z (Z) Z ?_|refine uI Z j D J Z ?_|refine uC Z K ?_|refine uC Z M ?_)
   all_goals first|exact Wk.refl _|exact DT Z Z
 ·obtain⟨rfl,rfl⟩:=dO hf rfl;clear hf;rcases s with _|⟨⟨T,us⟩,_|⟨⟨U,vs⟩,q⟩⟩
  rw[show iK 42 [] []=br 5 from by simp[iK],dU bn];exact qdw func101 call101;rw[show iK 42 [] [.mk T us]=br 5 from by simp[iK],dU bn];exact qdw func101 call101;rw[show iK 42 [] (.mk T us :: .mk U vs::q)=fO (.mk U vs :: .mk T us::q)from by simp[iK],fN];have el:=BA (az (.mk T us :: .mk U vs::q)) 1 Bc;have M:=qa q [.mk U vs,.mk T us];rw[fN]at M;exact qdw func101 call101
 ·obtain⟨N,p,S,xs,rfl,O,n2,rfl⟩:=Mt hf rfl;clear hf;have H:=aY s;obtain⟨j,rfl⟩:=aiV O;have V:DX ([Nd.mk 0 (j:Int) p S xs].getD 0 rX)=(j:Int):=rfl;by_cases G:(j:Int)<s.length;rotate_left;rw[show iK 43 [.mk 0 j p S xs] s=br 5 from by unfold iK;rw[if_neg bn,if_neg bn,if_neg bn,if_pos Z,V];exact if_neg G,dU bn];have Q:decide ((j:Int)<(((az s).length:Nat):Int))=false:=acf ai;exact qdw func101 call101;have Yk:j<s.length:=by omega
  have Q:decide ((j:Int)<(((az s).length:Nat):Int)):=ace ai;obtain⟨t,C⟩:∃t,s[j]?=some t:=⟨s[j],by simp[Yk]⟩;have J:=ij C
  rw[show iK 43 [.mk 0 j p S xs] s=fO (t::(s.take j++s.drop (j+1)))from by
   unfold iK;rw[if_neg bn,if_neg bn,if_neg bn,if_pos Z,V,if_pos G,acn,Vt C],fN]
  have D:i64.wrap ((j:Int)+1)=((j+1:Nat):Int):=by rw[gW ai ai];rfl
  have DY:=Pn s j Yk ai;rw[<- D]at DY;have M:=qa (s.take j++s.drop (j+1)) [t] adB;rw[fN]at M;clear C;rcases s with _|⟨a,l⟩
  simp at Yk;have I:=yR a l ae4;obtain⟨T,us⟩:=t;refine qn func101 call101 λβ hf=>?_
  repeat' (first|refine ju ?_|refine zc ?_ ?_|(intro h;first|(cases h;done)|rw[h]|skip)|refine uI Z (0) Z (Z) Z ?_|refine uI Z j Z J Z ?_|refine uC Z M ?_|refine ag.nJ kn Z Z Z Z Z Z I Z ?_|refine ag.Mu kn Z Z Z Z Z Z Z DY Z Z ?_)
  all_goals first|exact Wk.refl _|exact DT Z Z
 obtain⟨N,p,S,xs,rfl,O,n2,rfl⟩:=Mt hf rfl;clear hf;have H:=aY s;obtain⟨j,rfl⟩:=aiV O;have V:DX ([Nd.mk 0 (j:Int) p S xs].getD 0 rX)=(j:Int):=rfl;rcases s with _|⟨⟨T,us⟩,r⟩
 rw[show iK 44 [.mk 0 j p S xs] []=br 5 from by simp[iK],dU bn];have Q:decide ((j:Int)<((([]:Ψ).length:Nat):Int))=false:=acf cS;exact qdw func101 call101;have Y:iK 44 [.mk 0 j p S xs] (.mk T us::r)=if(j:Int)<r.length+1 then fO (r.take j ++ .mk T us::r.drop j)else br 5:=by unfold iK;rw[if_neg bn,if_neg bn,if_neg bn,if_neg bn,if_pos rfl];simp only[V,acn]
 rw[Y];simp only[aat]at E H;by_cases G:(j:Int)<r.length+1;rotate_left;rw[if_neg G,dU bn];have Q:decide ((j:Int)<(((az (.mk T us::r)).length:Nat):Int))=false:=acf ai;exact qdw func101 call101;rw[if_pos G,fN];have Q:decide ((j:Int)<(((az (.mk T us::r)).length:Nat):Int)):=ace ai;rcases r with _|⟨a,l⟩
 ·obtain rfl:j=0:=by simp at G;omega
  have I:=fX [] cS;have A:=Ms T us;exact qdw func101 call101
 have I:=yR a l ae4;have A:=Po (a::l) (.mk T us) j cS ai (by simp only[aat]at *;omega);refine qn func101 call101 λβ hf=>?_
 repeat' (first|refine ju ?_|refine zc ?_ ?_|(intro h;first|(cases h;done)|rw[h]|skip)|refine uI Z (0) Z (Z) Z ?_|refine ag.nJ kn Z Z Z Z Z Z I Z ?_|refine ag.Mu kn Z Z Z Z Z Z Z A Z Z ?_)
 all_goals first|exact Wk.refl _|exact DT Z Z
end Go.Proofs
namespace Go.Proofs
open Go.cE
attribute [local irreducible] AK ag aZ bS
def oz(p:Int):af 88 [.int .i64 p] (.bool (vn p)):=by
 refine qn func88 call88 λY hf=>?_
 repeat' (first|refine sz ?_|refine zc ?_ ?_|(intro h;first|(cases h;done)|rw[h]|skip))
 all_goals
  show(_:CV)=_;clear hf;simp only[akg,aka,aiP,ajA]at *;congr 1;unfold vn
  first
  |(symm;apply ace;omega)
  |(symm;apply acf;omega)
  |(apply decide_eq_decide.2;omega)
def oA{T n p:Int}{s:Δ}{V:Θ}{d e:Int}(h:iA T n p s V.length d=e)(Y:e≠0):fG (.mk T n p s V) d=e:=by simp only[fG,h,if_neg Y]
def ye{T n p:Int}{s:Δ}{Y:Θ}{d:Int}(h:iA T n p s Y.length d=0):fG (.mk T n p s Y) d=dJ Y (d+1):=by simp only[fG,h,if_true]
def yf(d:Int):dJ [] d=0:=rfl
def vt(x:Nd)(l:Θ)(d:Int):dJ (x::l) d=if fG x d=0 then dJ l d else fG x d:=rfl
attribute [local irreducible] fG dJ
def Gb:∀(t:Nd)(d:Int),bE t<=8589934593->0<=d->d<=1099511627776-bE t->af 68 [aV t,.int .i64 d] (.int .i64 (fG t d))
 |.mk kind n p s args=>by
  intro d ht Pc hd
  simp only[bE]at ht hd
  have Fg:=gB args
  have hin:∀x∈args,af 68 [aV x,.int .i64 (i64.wrap (d+1))] (.int .i64 (fG x (d+1))):=by
   intro x hx
   have:=eS hx
   rw[gW ai ai]
   exact Gb x (d+1) ai ai ai
  by_cases c1:d>24
  ·have e1:decide (d>24):=ace c1
   rw[oA (e:=4) (by simp only[iA,if_pos c1]) ai]
   refine qn func68 call68 λβ hf=>?_
   repeat' (first|refine sz ?_|refine zc ?_ ?_|(intro h;first|(cases h;done)|rw[h]|skip))
   all_goals rfl
  have e1:decide (d>24)=false:=acf c1
  by_cases c2:kind<0
  ·have e2:decide (kind<0):=ace c2
   rw[oA (e:=3) (by simp only[iA,if_neg c1,c2,true_or,if_true]) ai]
   refine qn func68 call68 λβ hf=>?_
   exact dq
  have e2:decide (kind<0)=false:=acf c2
  by_cases c3:kind>3
  ·have e3:decide (kind>3):=ace c3
   rw[oA (e:=3) (by simp only[iA,if_neg c1,c3,true_or,or_true,if_true]) ai]
   refine qn func68 call68 λβ hf=>?_
   exact dq
  have e3:decide (kind>3)=false:=acf c3
  have h4:kind=0\/kind=1\/kind=2\/kind=3:=by omega
  rcases h4 with rfl|rfl|rfl|rfl
  ·skip
   refine qn func68 call68 λβ hf=>?_
   repeat' (first|refine sz ?_|refine zc ?_ ?_|(intro h;first|(cases h;done)|rw[h]|skip)|refine uC Z (oz p) ?_)
   all_goals first
     |((show(_:CV)=_);clear hf hin;(try simp only[bq]at *);congr 1;symm;refine oA ?_ ai;unfold iA bL;simp_all<;>(repeat' split)<;>omega)
     |skip
   all_goals
    have hw:iA (0) n p s args.length d=0:=by
     clear hf hin
     try simp only[bq]at *
     unfold iA bL
     simp_all<;>(repeat' split)<;>omega
    have hT:=ye hw
    clear hw
    refine AK.dg (α:=Nat) (λi=>i<=args.length/\dJ args (d+1)=dJ (args.drop i) (d+1)) (λi=>args.length-i)
     (λi=>[(88,Υ i),(87,Υ (aD args).length),(86,.c (.sl 5 (aD args))),(1,Υ d)]) (λ_=>[]) (λ_=>[]) [] 0
     ⟨ai,Z⟩ ce trivial trivial Z Z Z ?_
    rintro i ⟨hi,hinv⟩ ih
    rcases fU args i hi with ⟨x,hx,hm⟩|he
    ·have hc:=mG hx
     have hq:=hin x hm
     rw[cT hx,vt]at hinv
     obtain⟨x1,x2,x3,x4,x5⟩:=x
     by_cases h0:fG (.mk x1 x2 x3 x4 x5) (d+1)=0
     ·rw[if_pos h0]at hinv
      rw[h0]at hq
      repeat' (first|refine sz ?_|refine zc ?_ ?_|(intro h;first|(cases h;done)|rw[h]|skip)|refine uI Z (i) Z (ff hx) Z ?_|refine uC Z hq ?_)
      exact agG
     ·rw[if_neg h0]at hinv
      have hne:(fG (.mk x1 x2 x3 x4 x5) (d+1) != 0):=by simpa using h0
      repeat' (first|refine sz ?_|refine zc ?_ ?_|(intro h;first|(cases h;done)|rw[h]|skip)|refine uI Z (i) Z (ff hx) Z ?_|refine uC Z hq ?_)
      show(_:CV)=_
      rw[hT,hinv]
    ·have hc:=j9 he
     have h0:dJ args (d+1)=0:=by rw[hinv,he,aho,yf]
     clear ih
     repeat' (first|refine sz ?_|refine zc ?_ ?_|(intro h;first|(cases h;done)|rw[h]|skip))
     show(_:CV)=_
     rw[hT,h0]
  ·skip
   refine qn func68 call68 λβ hf=>?_
   repeat' (first|refine sz ?_|refine zc ?_ ?_|(intro h;first|(cases h;done)|rw[h]|skip)|refine uC Z (oz p) ?_)
   all_goals first
     |((show(_:CV)=_);clear hf hin;(try simp only[bq]at *);congr 1;symm;refine oA ?_ ai;unfold iA bL;simp_all<;>(repeat' split)<;>omega)
     |skip
   all_goals
    have hw:iA (1) n p s args.length d=0:=by
     clear hf hin
     try simp only[bq]at *
     unfold iA bL
     simp_all<;>(repeat' split)<;>omega
    have hT:=ye hw
    clear hw
    refine AK.dg (α:=Nat) (λi=>i<=args.length/\dJ args (d+1)=dJ (args.drop i) (d+1)) (λi=>args.length-i)
     (λi=>[(88,Υ i),(87,Υ (aD args).length),(86,.c (.sl 5 (aD args))),(1,Υ d)]) (λ_=>[]) (λ_=>[]) [] 0
     ⟨ai,Z⟩ ce trivial trivial Z Z Z ?_
    rintro i ⟨hi,hinv⟩ ih
    rcases fU args i hi with ⟨x,hx,hm⟩|he
    ·have hc:=mG hx
     have hq:=hin x hm
     rw[cT hx,vt]at hinv
     obtain⟨x1,x2,x3,x4,x5⟩:=x
     by_cases h0:fG (.mk x1 x2 x3 x4 x5) (d+1)=0
     ·rw[if_pos h0]at hinv
      rw[h0]at hq
      repeat' (first|refine sz ?_|refine zc ?_ ?_|(intro h;first|(cases h;done)|rw[h]|skip)|refine uI Z (i) Z (ff hx) Z ?_|refine uC Z hq ?_)
      exact agG
     ·rw[if_neg h0]at hinv
      have hne:(fG (.mk x1 x2 x3 x4 x5) (d+1) != 0):=by simpa using h0
      repeat' (first|refine sz ?_|refine zc ?_ ?_|(intro h;first|(cases h;done)|rw[h]|skip)|refine uI Z (i) Z (ff hx) Z ?_|refine uC Z hq ?_)
      show(_:CV)=_
      rw[hT,hinv]
    ·have hc:=j9 he
     have h0:dJ args (d+1)=0:=by rw[hinv,he,aho,yf]
     clear ih
     repeat' (first|refine sz ?_|refine zc ?_ ?_|(intro h;first|(cases h;done)|rw[h]|skip))
     show(_:CV)=_
     rw[hT,h0]
  ·skip
   refine qn func68 call68 λβ hf=>?_
   repeat' (first|refine sz ?_|refine zc ?_ ?_|(intro h;first|(cases h;done)|rw[h]|skip)|refine uC Z (oz p) ?_)
   all_goals first
     |((show(_:CV)=_);clear hf hin;(try simp only[bq]at *);congr 1;symm;refine oA ?_ ai;unfold iA bL;simp_all<;>(repeat' split)<;>omega)
     |skip
   all_goals
    have hw:iA (2) n p s args.length d=0:=by
     clear hf hin
     try simp only[bq]at *
     unfold iA bL
     simp_all<;>(repeat' split)<;>omega
    have hT:=ye hw
    clear hw
    refine AK.dg (α:=Nat) (λi=>i<=args.length/\dJ args (d+1)=dJ (args.drop i) (d+1)) (λi=>args.length-i)
     (λi=>[(88,Υ i),(87,Υ (aD args).length),(86,.c (.sl 5 (aD args))),(1,Υ d)]) (λ_=>[]) (λ_=>[]) [] 0
     ⟨ai,Z⟩ ce trivial trivial Z Z Z ?_
    rintro i ⟨hi,hinv⟩ ih
    rcases fU args i hi with ⟨x,hx,hm⟩|he
    ·have hc:=mG hx
     have hq:=hin x hm
     rw[cT hx,vt]at hinv
     obtain⟨x1,x2,x3,x4,x5⟩:=x
     by_cases h0:fG (.mk x1 x2 x3 x4 x5) (d+1)=0
     ·rw[if_pos h0]at hinv
      rw[h0]at hq
      repeat' (first|refine sz ?_|refine zc ?_ ?_|(intro h;first|(cases h;done)|rw[h]|skip)|refine uI Z (i) Z (ff hx) Z ?_|refine uC Z hq ?_)
      exact agG
     ·rw[if_neg h0]at hinv
      have hne:(fG (.mk x1 x2 x3 x4 x5) (d+1) != 0):=by simpa using h0
      repeat' (first|refine sz ?_|refine zc ?_ ?_|(intro h;first|(cases h;done)|rw[h]|skip)|refine uI Z (i) Z (ff hx) Z ?_|refine uC Z hq ?_)
      show(_:CV)=_
      rw[hT,hinv]
    ·have hc:=j9 he
     have h0:dJ args (d+1)=0:=by rw[hinv,he,aho,yf]
     clear ih
     repeat' (first|refine sz ?_|refine zc ?_ ?_|(intro h;first|(cases h;done)|rw[h]|skip))
     show(_:CV)=_
     rw[hT,h0]
  ·skip
   refine qn func68 call68 λβ hf=>?_
   repeat' (first|refine sz ?_|refine zc ?_ ?_|(intro h;first|(cases h;done)|rw[h]|skip)|refine uC Z (oz p) ?_)
   all_goals first
     |((show(_:CV)=_);clear hf hin;(try simp only[bq]at *);congr 1;symm;refine oA ?_ ai;unfold iA bL;simp_all<;>(repeat' split)<;>omega)
     |skip
   all_goals
    have hw:iA (3) n p s args.length d=0:=by
     clear hf hin
     try simp only[bq]at *
     unfold iA bL
     simp_all<;>(repeat' split)<;>omega
    have hT:=ye hw
    clear hw
    refine AK.dg (α:=Nat) (λi=>i<=args.length/\dJ args (d+1)=dJ (args.drop i) (d+1)) (λi=>args.length-i)
     (λi=>[(88,Υ i),(87,Υ (aD args).length),(86,.c (.sl 5 (aD args))),(1,Υ d)]) (λ_=>[]) (λ_=>[]) [] 0
     ⟨ai,Z⟩ ce trivial trivial Z Z Z ?_
    rintro i ⟨hi,hinv⟩ ih
    rcases fU args i hi with ⟨x,hx,hm⟩|he
    ·have hc:=mG hx
     have hq:=hin x hm
     rw[cT hx,vt]at hinv
     obtain⟨x1,x2,x3,x4,x5⟩:=x
     by_cases h0:fG (.mk x1 x2 x3 x4 x5) (d+1)=0
     ·rw[if_pos h0]at hinv
      rw[h0]at hq
      repeat' (first|refine sz ?_|refine zc ?_ ?_|(intro h;first|(cases h;done)|rw[h]|skip)|refine uI Z (i) Z (ff hx) Z ?_|refine uC Z hq ?_)
      exact agG
     ·rw[if_neg h0]at hinv
      have hne:(fG (.mk x1 x2 x3 x4 x5) (d+1) != 0):=by simpa using h0
      repeat' (first|refine sz ?_|refine zc ?_ ?_|(intro h;first|(cases h;done)|rw[h]|skip)|refine uI Z (i) Z (ff hx) Z ?_|refine uC Z hq ?_)
      show(_:CV)=_
      rw[hT,hinv]
    ·have hc:=j9 he
     have h0:dJ args (d+1)=0:=by rw[hinv,he,aho,yf]
     clear ih
     repeat' (first|refine sz ?_|refine zc ?_ ?_|(intro h;first|(cases h;done)|rw[h]|skip))
     show(_:CV)=_
     rw[hT,h0]
termination_by t=>SizeOf.sizeOf t
decreasing_by
 have:=ahx hx
 simp at this ⊢;omega
end Go.Proofs
namespace Go.Proofs
open Go.cE
def aem(T n p:Int)(s:Δ)(Y:Θ):many (.mk T n p s Y)=cV Y+1:=rfl
def Yh:cV []=0:=rfl
def Vn(x:Nd)(l:Θ):cV (x::l)=many x+cV l:=rfl
mutual
def Yi:∀t:Nd,many t<=bE t
 |.mk T n p s Y=>by have:=Cs Y;simp only[many,bE];omega
def Cs:∀l:Θ,cV l<=aP l
 |[]=>acd _
 |t::l=>by have:=Yi t;have:=Cs l;simp only[cV,aP];omega
end
def ajx{a b:Nat}(h:a+b<1099511627776):some (AV.c (CV.int .i64 (i64.wrap ((a:Int)+(b:Int)))))=some (AV.c (CV.int .i64 ((a+b:Nat):Int))):=by rw[gW ai ai];rfl
attribute [local irreducible] AK ag aZ bS many cV fG dJ
def J1:∀(t:Nd),bE t<=8589934593->af 69 [aV t] (.int .i64 (many t))
 |.mk T n p s args,C=>by
  have V:=Cs args;simp only[bE]at C;have Q:=gB args;have A:∀x∈args,af 69 [aV x] (.int .i64 (many x)):=λx O=>J1 x ab8;rw[aem];refine qn func69 call69 λI hf=>?_;refine dn ?_;refine AK.dg (α:=Nat×Nat) (λz=>z.1<=args.length/\cV args+1=z.2+cV (args.drop z.1)) (λz=>args.length-z.1)
   (λz=>[(9,Υ z.1),(8,Υ (aD args).length),(7,.c (.sl 5 (aD args))),(3,Υ z.2)]) (λ_=>[]) (λ_=>[]) [] (0,1)
   ⟨ai,by rw[ajS];omega⟩ ce trivial trivial Z Z Z ?_
  rintro⟨i,m⟩ ⟨H,W⟩ ih;simp only at H W;rcases fU args i H with ⟨x,O,U⟩|Y
  ·have D:=mG O;have K:=A x U;rw[cT O,Vn]at W;have J:=bp O;generalize many x=q at K W;obtain⟨P,B,M,E,N⟩:=x
   repeat' (first|refine rG ?_|refine zc ?_ ?_|(intro h;first|(cases h;done)|rw[h]|skip)|refine uI Z (i) Z (ff O) Z ?_|refine uC Z K ?_)
   refine AK.again (ih (i+1,m+q) ⟨J,by show cV args+1=m+q+cV (args.drop (i+1));omega⟩ fe) ⟨.inl (dz ai),.inl Z,.inl Z,.inl (ajx (a:=m) (b:=q) ai),trivial⟩ trivial trivial Z Z Z
  have D:=j9 Y;have S:cV args+1=m:=by rw[W,Y,aho,Yh,aiI]
  clear ih
  repeat' (first|refine rG ?_|refine zc ?_ ?_|(intro h;first|(cases h;done)|rw[h]|skip))
  show(_:CV)=_;rw[S]
termination_by t=>SizeOf.sizeOf t
decreasing_by
 have:=ahx O;simp at this ⊢;omega
def tE(n:Nd)(I:bE n<=8589934593):af 54 [aV n] (.int .i64 (ey n)):=by
 have Y:=Gb n 1 I ai ai;have V:=J1 n I;unfold ey;generalize fG n 1=e at Y;generalize many n=m at V;obtain⟨T,U,P,N,W⟩:=n;by_cases G:e=0;subst G;by_cases u:300<m;have Q:decide ((m:Int)>300):=ace ai;simp only[u,if_true];exact qdq func54 call54;have Q:decide ((m:Int)>300)=false:=acf ai;simp only[u,aiQ,if_true];exact qdq func54 call54;have A:(e != 0):=by simpa using G
 simp only[G,aiQ];exact qdq func54 call54
end Go.Proofs
namespace Go.Proofs
open Go.cE
def Fa{l:Θ}{d:Int}(h:dJ l d=0):∀x∈l,fG x d=0:=by
 induction l with
 |nil=>intro x O;simp at O
 |cons y l S =>
  intro x O;simp only[dJ]at h;by_cases V:fG y d=0;grind;omega
mutual
def Cp:∀(t:Nd)(d:Int),fG t d=0->bE t<=8589934593->(fj t).length<=12*bE t
 |.mk T n p s U,d,h,Y=>by obtain⟨Q,O⟩:=kY h;obtain⟨_,_,_,_,_,_,W,V,P⟩:=oC Q;simp only[bE]at Y;have S:=gB U;have N:=An U (d+1) O ai;have C:=uj W V;have u:=uj (n:=(s.length:Int)) gn gn;have E:=uj (n:=(U.length:Int)) gn gn;simp only[fj,bE];split;simp only[aat];omega;split;simp only[aat,acg];omega;split;simp only[aat,acg];omega;simp only[aat,acg];omega
def An:∀(l:Θ)(d:Int),dJ l d=0->aP l<=8589934593->(gw l).length<=12*aP l
 |[],d,_,_=>by simp[gw]
 |t::l,d,h,Y=>by
  simp only[aP]at Y;have V:=Fa h;have U:=Cp t d (V t cS) ai;have T:dJ l d=0:=by simp only[dJ]at h;rw[if_pos (V t cS)]at h;exact h
  have D:=An l d T ai;simp only[gw,aP,acg];omega
end
def F7:gw []=[]:=rfl
def DK(x:Nd)(l:Θ):gw (x::l)=fj x++gw l:=rfl
def abI(n p:Int)(s:Δ)(Y:Θ):fj (.mk 0 n p s Y)=Go.cE.byteOf 0::lC n:=by simp[fj]
def abJ(n p:Int)(s:Δ)(Y:Θ):fj (.mk 1 n p s Y)=Go.cE.byteOf 1::(lC (s.length:Int)++s):=by simp[fj]
def abK(n p:Int)(s:Δ)(Y:Θ):fj (.mk 2 n p s Y)=Go.cE.byteOf 2::Go.cE.byteOf p::(lC (Y.length:Int)++gw Y):=by simp[fj]
def abL(n p:Int)(s:Δ)(Y:Θ):fj (.mk 3 n p s Y)=Go.cE.byteOf 3::(lC (Y.length:Int)++gw Y):=by simp[fj]
def pL(a b:Δ):cU (a++b)=cU a++cU b:=by simp[cU]
def nZ(b:UInt8)(l:Δ):cU (b::l) = .int .u8 b.toNat::cU l:=rfl
attribute [local irreducible] AK ag aZ bS fj gw lC fG dJ
def Ma:∀(t:Nd)(F:Ψ)(d:Int),fG t d=0->bE t<=8589934593->F.length+12*bE t<=1000000000000 ->
  iJ 162 [.v (.own 1 F),.v (.c (aV t))] [.own 1 (F++cU (fj t))] []
 |.mk I n p s args,F,d,q,C,G=>by
  obtain⟨m,o⟩:=kY q;obtain⟨_,E,_,_,_,_,N,M,oK⟩:=oC m;simp only[bE]at C G;have Fg:=gB args;have J:=Fa o;have A:∀x∈args,∀F:Ψ,F.length+12*bE x<=1000000000000->iJ 162 [.v (.own 1 F),.v (.c (aV x))] [.own 1 (F++cU (fj x))] []:=λx O F G=>Ma x F (d+1) (J x O) ab8 G;have B:=An args (d+1) o ai;have b3:=uj (n:=(args.length:Int)) gn gn;have b2:=uj (n:=(s.length:Int)) gn gn;rcases E with rfl|rfl|⟨rfl,hp⟩|rfl
  ·rw[abI];have Y:=A7 (F++[CV.int .u8 (IntKind.u8.wrap 0)]) n N M yd;refine en func162 call162 [(0,.own (.tok 1000000 0) 1 (F)),(1,.c (aV (.mk 0 n p s args)))] [] [(1000000,0)] [1000000] λβ hf=>?_
   repeat' (first|refine rG ?_|refine ze ?_ ?_|(intro h;first|(cases h;done)|rw[h]|skip)|refine oa ?_ (hq:=Y) (hok:=by exact⟨_,_,Z,Z,⟨_,_,Z,Z,Z⟩⟩)|(refine uA Z ?_ ?_<;>(try (show(_:Nat)*_<=_;dsimp only))))
   simp only[aat,aav];omega;show(_:L LV)=_;rw[nZ];simp;rfl
  ·rw[abJ];have Y:=A7 (F++[CV.int .u8 (IntKind.u8.wrap 1)]) (s.length:Int) gn gn yd;refine en func162 call162 [(0,.own (.tok 1000000 0) 1 (F)),(1,.c (aV (.mk 1 n p s args)))] [] [(1000000,0)] [1000000] λβ hf=>?_
   repeat' (first|refine rG ?_|refine ze ?_ ?_|(intro h;first|(cases h;done)|rw[h]|skip)|refine oa ?_ (hq:=Y) (hok:=by exact⟨_,_,Z,Z,⟨_,_,Z,Z,Z⟩⟩)|(refine uA Z ?_ ?_<;>(try (show(_:Nat)*_<=_;dsimp only))))
   simp only[aat,aav];omega;simp only[acg,ahY,aat,aav];omega;show(_:L LV)=_;rw[nZ,pL];simp;rfl
  ·rw[abK];have Y:=A7 (F++[CV.int .u8 (IntKind.u8.wrap 2)]++[CV.int .u8 (IntKind.u8.wrap p)]) (((aD args).length:Nat):Int) aep aep yd;refine en func162 call162 [(0,.own (.tok 1000000 0) 1 (F)),(1,.c (aV (.mk 2 n p s args)))] [] [(1000000,0)] [1000000] λβ hf=>?_
   repeat' (first|refine rG ?_|refine ze ?_ ?_|(intro h;first|(cases h;done)|rw[h]|skip)|refine oa ?_ (hq:=Y) (hok:=by exact⟨_,_,Z,Z,⟨_,_,Z,Z,Z⟩⟩)|(refine uA Z ?_ ?_<;>(try (show(_:Nat)*_<=_;dsimp only))))
   simp only[aat,aav];omega;simp only[acg,aat,aav];omega;have V:F++[CV.int .u8 (IntKind.u8.wrap 2)]++[CV.int .u8 (IntKind.u8.wrap p)]++cU (lC (((aD args).length:Nat):Int))=F++cU ([Go.cE.byteOf 2,Go.cE.byteOf p]++lC (args.length:Int)):=(by rw[bq,pL,nZ,nZ,qb,qb];simp);refine AK.gK [(3,3)] [(1000000,(0,some 445000000))] (env':=[(47,Υ (0:Nat)),(46,Υ (aD args).length),(45,.c (.sl 5 (aD args))),(0,.own (.tok 1000000 0) 1 (F++cU ([Go.cE.byteOf 2,Go.cE.byteOf p]++lC (args.length:Int)))),(3,.ptr 3 0)])
    (bs':=[(3,[Υ 2,Υ n,Υ p,.c (.str s),.c (.sl 5 (aD args))])]) (ts':=[(1000000,0)]) (us':=[3,1000000])
    ⟨⟨_,Z,.inl Z⟩,⟨_,Z,.inl Z⟩,⟨_,Z,.inl Z⟩,⟨_,Z,⟨_,Z,.inr ⟨_,_,Z,Z,ahm (AV.own (.tok 445000000 0) 1) V⟩⟩⟩,⟨_,Z,⟨_,Z,Z⟩⟩,trivial⟩ ce Z ?_
   refine AK.dg (α:=Nat×Δ) (λz=>z.1<=args.length/\[Go.cE.byteOf 2,Go.cE.byteOf p]++lC (args.length:Int)++gw args=z.2++gw (args.drop z.1)/\(F.length+z.2.length)+12*aP (args.drop z.1)<=1000000000000) (λz=>args.length-z.1)
    (λz=>[(47,Υ z.1),(46,Υ (aD args).length),(45,.c (.sl 5 (aD args))),(0,.own (.tok 1000000 0) 1 (F++cU z.2)),(3,.ptr 3 0)])
    (λz=>[(3,[Υ 2,Υ n,Υ p,.c (.str s),.c (.sl 5 (aD args))])]) (λ_=>[(1000000,0)]) [3,1000000] (0,[Go.cE.byteOf 2,Go.cE.byteOf p]++lC (args.length:Int))
    ⟨ai,cS,aeF⟩ ce ⟨Z,trivial⟩ ⟨Z,trivial⟩ Z Z Z ?_
   rintro⟨i,y⟩ ⟨H,W,K⟩ ih;simp only at H W K;rcases fU args i H with ⟨x,O,T⟩|P
   ·have D:=mG O;have S:=bp O;rw[cT O]at K W;rw[DK]at W;simp only[aP]at K;have hq:=A x T (F++cU y) (by simp only[acg,ahY];omega);have Q:=Cp x (d+1) (J x T) (by have:=eS T;omega);have U:F++cU y++cU (fj x)=F++cU (y++fj x):=(by rw[pL,aie]);generalize fj x=bx at hq Q U W;obtain⟨u,j,x3,x4,x5⟩:=x
    repeat' (first|refine rG ?_|refine ze ?_ ?_|(intro h;first|(cases h;done)|rw[h]|skip)|refine uI Z (i) Z (ff O) Z ?_|refine oa ?_ (hq:=hq) (hok:=by exact⟨_,_,Z,Z,⟨_,_,Z,Z,Z⟩⟩)|(refine uA Z ?_ ?_<;>(try (show(_:Nat)*_<=_;dsimp only))))
    refine AK.gK [(3,3)] [(1000000,(0,some 545000000))] (env':=[(47,Υ ((i+1:Nat):Int)),(46,Υ (aD args).length),(45,.c (.sl 5 (aD args))),(0,.own (.tok 1000000 0) 1 (F++cU (y++bx))),(3,.ptr 3 0)])
     (bs':=[(3,[Υ 2,Υ n,Υ p,.c (.str s),.c (.sl 5 (aD args))])]) (ts':=[(1000000,0)]) (us':=[3,1000000])
     ⟨⟨_,Z,.inl (lI (i:=i) ai)⟩,⟨_,Z,.inl Z⟩,⟨_,Z,.inl Z⟩,⟨_,Z,⟨_,Z,.inr ⟨_,_,Z,Z,ahm (AV.own (.tok 545000000 0) 1) U⟩⟩⟩,⟨_,Z,⟨_,Z,Z⟩⟩,trivial⟩ ce Z ?_
    refine ih (i+1,y++bx) ⟨S,by show [Go.cE.byteOf 2,Go.cE.byteOf p]++lC (args.length:Int)++gw args=_;rw[W];simp,af2⟩ fe
   have D:=j9 P;rw[P,aho,F7,ahq]at W;clear ih A
   repeat' (first|refine rG ?_|refine ze ?_ ?_|(intro h;first|(cases h;done)|rw[h]|skip)|(refine uA Z ?_ ?_<;>(try (show(_:Nat)*_<=_;dsimp only))))
   all_goals
    show(_:L LV)=_;refine ahm (λl=>[LV.own 1 (F++cU l)]) ?_;rw[<- W];simp
  rw[abL];have Y:=A7 (F++[CV.int .u8 (IntKind.u8.wrap 3)]) (((aD args).length:Nat):Int) aep aep yd;refine en func162 call162 [(0,.own (.tok 1000000 0) 1 (F)),(1,.c (aV (.mk 3 n p s args)))] [] [(1000000,0)] [1000000] λβ hf=>?_
  repeat' (first|refine rG ?_|refine ze ?_ ?_|(intro h;first|(cases h;done)|rw[h]|skip)|refine oa ?_ (hq:=Y) (hok:=by exact⟨_,_,Z,Z,⟨_,_,Z,Z,Z⟩⟩)|(refine uA Z ?_ ?_<;>(try (show(_:Nat)*_<=_;dsimp only))))
  simp only[aat,aav];omega;have V:F++[CV.int .u8 (IntKind.u8.wrap 3)]++cU (lC (((aD args).length:Nat):Int))=F++cU ([Go.cE.byteOf 3]++lC (args.length:Int)):=by rw[bq,pL,nZ,qb];simp
  refine AK.gK [(3,3)] [(1000000,(0,some 445000000))] (env':=[(47,Υ (0:Nat)),(46,Υ (aD args).length),(45,.c (.sl 5 (aD args))),(0,.own (.tok 1000000 0) 1 (F++cU ([Go.cE.byteOf 3]++lC (args.length:Int)))),(3,.ptr 3 0)])
   (bs':=[(3,[Υ 3,Υ n,Υ p,.c (.str s),.c (.sl 5 (aD args))])]) (ts':=[(1000000,0)]) (us':=[3,1000000])
   ⟨⟨_,Z,.inl Z⟩,⟨_,Z,.inl Z⟩,⟨_,Z,.inl Z⟩,⟨_,Z,⟨_,Z,.inr ⟨_,_,Z,Z,ahm (AV.own (.tok 445000000 0) 1) V⟩⟩⟩,⟨_,Z,⟨_,Z,Z⟩⟩,trivial⟩ ce Z ?_
  refine AK.dg (α:=Nat×Δ) (λz=>z.1<=args.length/\[Go.cE.byteOf 3]++lC (args.length:Int)++gw args=z.2++gw (args.drop z.1)/\(F.length+z.2.length)+12*aP (args.drop z.1)<=1000000000000) (λz=>args.length-z.1)
   (λz=>[(47,Υ z.1),(46,Υ (aD args).length),(45,.c (.sl 5 (aD args))),(0,.own (.tok 1000000 0) 1 (F++cU z.2)),(3,.ptr 3 0)])
   (λz=>[(3,[Υ 3,Υ n,Υ p,.c (.str s),.c (.sl 5 (aD args))])]) (λ_=>[(1000000,0)]) [3,1000000] (0,[Go.cE.byteOf 3]++lC (args.length:Int))
   ⟨ai,cS,aeF⟩ ce ⟨Z,trivial⟩ ⟨Z,trivial⟩ Z Z Z ?_
  rintro⟨i,y⟩ ⟨H,W,K⟩ ih;simp only at H W K;rcases fU args i H with ⟨x,O,T⟩|P
  ·have D:=mG O;have S:=bp O;rw[cT O]at K W;rw[DK]at W;simp only[aP]at K;have hq:=A x T (F++cU y) (by simp only[acg,ahY];omega);have Q:=Cp x (d+1) (J x T) (by have:=eS T;omega);have U:F++cU y++cU (fj x)=F++cU (y++fj x):=(by rw[pL,aie]);generalize fj x=bx at hq Q U W;obtain⟨u,j,x3,x4,x5⟩:=x
   repeat' (first|refine rG ?_|refine ze ?_ ?_|(intro h;first|(cases h;done)|rw[h]|skip)|refine uI Z (i) Z (ff O) Z ?_|refine oa ?_ (hq:=hq) (hok:=by exact⟨_,_,Z,Z,⟨_,_,Z,Z,Z⟩⟩)|(refine uA Z ?_ ?_<;>(try (show(_:Nat)*_<=_;dsimp only))))
   refine AK.gK [(3,3)] [(1000000,(0,some 545000000))] (env':=[(47,Υ ((i+1:Nat):Int)),(46,Υ (aD args).length),(45,.c (.sl 5 (aD args))),(0,.own (.tok 1000000 0) 1 (F++cU (y++bx))),(3,.ptr 3 0)])
    (bs':=[(3,[Υ 3,Υ n,Υ p,.c (.str s),.c (.sl 5 (aD args))])]) (ts':=[(1000000,0)]) (us':=[3,1000000])
    ⟨⟨_,Z,.inl (lI (i:=i) ai)⟩,⟨_,Z,.inl Z⟩,⟨_,Z,.inl Z⟩,⟨_,Z,⟨_,Z,.inr ⟨_,_,Z,Z,ahm (AV.own (.tok 545000000 0) 1) U⟩⟩⟩,⟨_,Z,⟨_,Z,Z⟩⟩,trivial⟩ ce Z ?_
   refine ih (i+1,y++bx) ⟨S,by show [Go.cE.byteOf 3]++lC (args.length:Int)++gw args=_;rw[W];simp,af2⟩ fe
  have D:=j9 P;rw[P,aho,F7,ahq]at W;clear ih A
  repeat' (first|refine rG ?_|refine ze ?_ ?_|(intro h;first|(cases h;done)|rw[h]|skip)|(refine uA Z ?_ ?_<;>(try (show(_:Nat)*_<=_;dsimp only))))
  all_goals
   show(_:L LV)=_;refine ahm (λl=>[LV.own 1 (F++cU l)]) ?_;rw[<- W];simp
termination_by t=>SizeOf.sizeOf t
decreasing_by
 have:=ahx O;simp at this ⊢;omega
def HZ(n:Nd):OZ n=if ey n=0 then(fj n,0)else([],ey n):=rfl
def MP(n:Nd)(I:bE n<=8589934593):af 156 [aV n] (.eK [.str (OZ n).1,.int .i64 (OZ n).2]):=by
 have Y:=tE n I;rw[HZ];by_cases N:ey n=0;rw[if_pos N];rw[N]at Y;have V:=Ma n [] 1 (lF.1 N).1 I (by simp only[aav];omega);rw[aiR]at V;generalize fj n=bx at V;obtain⟨T,U,P,q,W⟩:=n;exact qdq func156 call156;rw[if_neg N];have G:(ey n != 0):=by simpa using N
 generalize ey n=e at Y G;obtain⟨T,U,P,q,W⟩:=n;exact qdq func156 call156
end Go.Proofs
namespace Go.Proofs
open Go.cE
def abN(s:Δ)(k:Int):pM 0 s k=⟨rX,[],k+1,4⟩:=rfl
def abO(g:Nat)(s:Δ)(k:Int)(h:k+1>300):pM (g+1) s k=⟨rX,[],k+1,4⟩:=by simp only[pM,if_pos h]
def aea(g:Nat)(k:Int)(h:¬(k+1>300)):pM (g+1) [] k=⟨rX,[],k+1,1⟩:=by simp only[pM,if_neg h]
def abP(g:Nat)(c:UInt8)(s:Δ)(k:Int)(h:¬(k+1>300)):pM (g+1) (c::s) k=jQ (pM g) c.toNat s (k+1):=by simp only[pM,if_neg h]
def ajm(f:Δ->Int->RX)(s:Δ)(k:Int):jQ f 0 s k=⟨.mk 0 (cH s) 0 [] [],dR s,k,lp s⟩:=rfl
def Ya(f:Δ->Int->RX)(s:Δ)(k:Int)(h:cH s<0\/cH s>200\/cH s>(dR s).length):jQ f 1 s k=⟨.mk 1 0 0 [] [],[],k,1⟩:=by simp only[jQ,if_pos h];rfl
def Vb(f:Δ->Int->RX)(s:Δ)(k:Int)(h:¬(cH s<0\/cH s>200\/cH s>(dR s).length)):jQ f 1 s k=⟨.mk 1 0 0 ((dR s).take (cH s).toNat) [],(dR s).drop (cH s).toNat,k,lp s⟩:=by simp only[jQ,if_neg h];rfl
def Yb(f:Δ->Int->RX)(k:Int):jQ f 2 [] k=⟨.mk 2 0 0 [] [],[],k,1⟩:=rfl
def Vc(f:Δ->Int->RX)(p:UInt8)(s:Δ)(k:Int)(h:vn p.toNat):jQ f 2 (p::s) k=kR f 2 p.toNat s k:=by simp[jQ,h]
def Yc(f:Δ->Int->RX)(p:UInt8)(s:Δ)(k:Int)(h:vn p.toNat=false):jQ f 2 (p::s) k=⟨.mk 2 0 p.toNat [] [],[],k,1⟩:=by simp[jQ,h]
def ajn(f:Δ->Int->RX)(s:Δ)(k:Int):jQ f 3 s k=kR f 3 0 s k:=rfl
def aeb(f:Δ->Int->RX)(c:Nat)(s:Δ)(k:Int)(h:c>3):jQ f c s k=⟨.mk c 0 0 [] [],[],k,1⟩:=by simp only[jQ];rw[if_neg ai,if_neg ai,if_neg ai,if_neg ai]
def G5(f:Δ->Int->RX)(T p:Int)(s:Δ)(k:Int)(h:lp s≠0\/cH s<0):kR f T p s k=⟨.mk T 0 p [] [],[],k,1⟩:=by simp only[kR,if_pos h]
def WB(f:Δ->Int->RX)(T p:Int)(s:Δ)(k:Int)(h:¬(lp s≠0\/cH s<0)):kR f T p s k=⟨.mk T 0 p [] (fC f (cH s).toNat (dR s) k 0).1,(fC f (cH s).toNat (dR s) k 0).2.1,(fC f (cH s).toNat (dR s) k 0).2.2.1,(fC f (cH s).toNat (dR s) k 0).2.2.2⟩:=by simp only[kR,if_neg h]
def Mc(f:Δ->Int->RX)(s:Δ)(k e:Int):fC f 0 s k e=([],s,k,e):=rfl
def Sh(f:Δ->Int->RX)(v:Nat)(s:Δ)(k e:Int)(h:e≠0):fC f v s k e=([],s,k,e):=by
 cases v with
 |zero=>rfl
 |succ v=>simp only[fC,if_pos h]
def Md(f:Δ->Int->RX)(v:Nat)(s:Δ)(k:Int):fC f (v+1) s k 0=((f s k).n::(fC f v (f s k).s (f s k).k (f s k).e).1,(fC f v (f s k).s (f s k).k (f s k).e).2):=by simp[fC]
def DM{s:Δ}(h:lp s=0) : -bL<=cH s/\cH s<=bL:=by
 cases I:gy s with
 |none=>rw[(lY I).2]at h;simp at h
 |some x =>
  rw[(wZ I).1];exact(pO I).2
def yb(s:Δ):lp s=0\/lp s=1/\dR s=[]:=by
 cases I:gy s with
 |none=>right;exact⟨(lY I).2,(lY I).1⟩
 |some x=>left;exact(wZ I).2.2
section
attribute [local irreducible] AK ag
def yc(k e:Int)(Y:e≠0):iJ 172 [.box [.c (.str []),.c (.int .i64 k),.c (.int .i64 e)]] [.c (.int .i64 0)] [(0,[.c (.str []),.c (.int .i64 k),.c (.int .i64 e)])]:=by
 have h1:=Sg k e Y;refine en func172 call172 [(0,.ptr 1000000 0)] [(1000000,[.c (.str []),.c (.int .i64 k),.c (.int .i64 e)])] [] [1000000] λβ hf=>?_
 repeat' (first|refine sz ?_|refine ze ?_ ?_|(intro h;first|(cases h;done)|rw[h]|skip)|refine oa ?_ (hq:=h1))
 refine AK.dg (α:=Unit) (λ_=>True) (λ_=>0)
  (λ_=>[(3,.c (.int .i64 0)),(4,.c (.bool (decide ((0:Nat)/64%2=1)))),(5,.c (.int .i64 ((0%64:Nat):Int))),(0,.ptr 1000000 0)])
  (λ_=>[(1000000,[.c (.str []),.c (.int .i64 k),.c (.int .i64 e)])]) (λ_=>[]) [1000000] ()
  trivial ⟨.inl Z,.inl (ahm (λz=>some (AV.c (CV.bool z))) (Yx (c:=0) ai)),.inl (ahm (λz=>some (AV.c (CV.int .i64 z))) (Pe (a:=0) ai)),.inl Z,trivial⟩ ⟨Z,trivial⟩ trivial Z Z Z ?_
 rintro _ _ S;clear S;exact dq
end
end Go.Proofs
namespace Go.Proofs
open Go.cE
attribute [local irreducible] AK ag aZ bS pM jQ kR fC cH dR lp vn
def DN:∀(g:Nat)(s:L UInt8)(k:Int),g<=24->0<=k->k<=300 ->
  iJ 166 [.box [.c (.str s),.c (.int .i64 k),.c (.int .i64 0)],.v (.c (.int .i64 (25-(g:Int))))] [.c (aV (pM g s k).n)] [(0,[.c (.str (pM g s k).s),.c (.int .i64 (pM g s k).k),.c (.int .i64 (pM g s k).e)])]
 |0,s,k,hg,He,hk=>by
  rw[abN];have A:i64.wrap (k+1)=k+1:=gW ai ai;have h1:=kD s (k+1) 4;rw[<- A]at h1;refine en func166 call166 [(0,.ptr 1000000 0),(1,.c (.int .i64 25))] [(1000000,[.c (.str s),.c (.int .i64 k),.c (.int .i64 0)])] [] [1000000] λβ hf=>?_
  repeat' (first|refine sz ?_|refine ze ?_ ?_|(intro h;first|(cases h;done)|rw[h]|skip)|refine oa ?_ (hq:=h1) (hok:=by exact⟨_,_,_,Z,Z,⟨_,_,Z,Z,⟨_,_,Z,Z,⟨_,_,Z,Z,Z⟩⟩⟩,⟨_,_,Z,Z,Z⟩⟩)|(refine uA Z ?_ ?_<;>(try (show(_:Nat)*_<=_;dsimp only))))
  all_goals first|rfl|(rw[A])
 |g+1,s,k,hg,He,hk=>by
  have A:i64.wrap (k+1)=k+1:=gW ai ai;have hin:∀(T:L UInt8)(k':Int),0<=k'->k'<=300->iJ 166 [.box [.c (.str T),.c (.int .i64 k'),.c (.int .i64 0)],.v (.c (.int .i64 (i64.wrap (25-((g+1:Nat):Int)+1))))] [.c (aV (pM g T k').n)] [(0,[.c (.str (pM g T k').s),.c (.int .i64 (pM g T k').k),.c (.int .i64 (pM g T k').e)])]:=by intro T k' h0 h1;rw[gW ai ai,show(25-((g+1:Nat):Int)+1)=25-(g:Int)from by omega];exact DN g T k' ai h0 h1
  have c0:decide ((25-((g+1:Nat):Int))>24)=false:=acf ai;by_cases Si:k+1>300
  ·rw[abO _ _ _ Si];have c1:decide (i64.wrap (k+1)>300):=ace (by rw[A];exact Si);have h1:=kD s (i64.wrap (k+1)) 4;refine en func166 call166 [(0,.ptr 1000000 0),(1,.c (.int .i64 (25-((g+1:Nat):Int))))] [(1000000,[.c (.str s),.c (.int .i64 k),.c (.int .i64 0)])] [] [1000000] λβ hf=>?_
   repeat' (first|refine sz ?_|refine ze ?_ ?_|(intro h;first|(cases h;done)|rw[h]|skip)|refine oa ?_ (hq:=h1) (hok:=by exact⟨_,_,_,Z,Z,⟨_,_,Z,Z,⟨_,_,Z,Z,⟨_,_,Z,Z,Z⟩⟩⟩,⟨_,_,Z,Z,Z⟩⟩)|(refine uA Z ?_ ?_<;>(try (show(_:Nat)*_<=_;dsimp only))))
   all_goals first|rfl|(rw[A])
  have c1:decide (i64.wrap (k+1)>300)=false:=acf (by rw[A];exact Si);cases s with
  |nil =>
   rw[aea _ _ Si];have h1:=DL (i64.wrap (k+1));have h2:=yc (i64.wrap (k+1)) 1 ai;refine en func166 call166 [(0,.ptr 1000000 0),(1,.c (.int .i64 (25-((g+1:Nat):Int))))] [(1000000,[.c (.str []),.c (.int .i64 k),.c (.int .i64 0)])] [] [1000000] λβ hf=>?_
   repeat' (first|refine sz ?_|refine ze ?_ ?_|(intro h;first|(cases h;done)|rw[h]|skip)|refine oa ?_ (hq:=h1) (hok:=by exact⟨_,_,_,Z,Z,⟨_,_,Z,Z,⟨_,_,Z,Z,⟨_,_,Z,Z,Z⟩⟩⟩,Z⟩)|refine oa ?_ (hq:=h2) (hok:=by exact⟨_,_,_,Z,Z,⟨_,_,Z,Z,⟨_,_,Z,Z,⟨_,_,Z,Z,Z⟩⟩⟩,Z⟩)|(refine uA Z ?_ ?_<;>(try (show(_:Nat)*_<=_;dsimp only))))
   all_goals first|rfl|(rw[A])
  |cons c s =>
   rw[abP _ _ _ _ Si];have Y:=A9 c s (i64.wrap (k+1)) 0;have hcb:=c.toNat_lt;generalize hq:c.toNat=q at Y hcb;by_cases q0:q=0
   ·subst q0;rw[ajm];have U:=sI s (i64.wrap (k+1));refine en func166 call166 [(0,.ptr 1000000 0),(1,.c (.int .i64 (25-((g+1:Nat):Int))))] [(1000000,[.c (.str (c::s)),.c (.int .i64 k),.c (.int .i64 0)])] [] [1000000] λβ hf=>?_
    repeat' (first|refine sz ?_|refine ze ?_ ?_|(intro h;first|(cases h;done)|rw[h]|skip)|refine oa ?_ (hq:=Y) (hok:=by exact⟨_,_,_,Z,Z,⟨_,_,Z,Z,⟨_,_,Z,Z,⟨_,_,Z,Z,Z⟩⟩⟩,Z⟩)|refine oa ?_ (hq:=U) (hok:=by exact⟨_,_,_,Z,Z,⟨_,_,Z,Z,⟨_,_,Z,Z,⟨_,_,Z,Z,Z⟩⟩⟩,Z⟩)|(refine uA Z ?_ ?_<;>(try (show(_:Nat)*_<=_;dsimp only))))
    all_goals first|rfl|(rw[A])
   by_cases q1:q=1
   ·subst q1;have U:=sI s (i64.wrap (k+1));by_cases ajo:cH s<0\/cH s>200\/cH s>(dR s).length
    ·rw[Ya _ _ _ ajo];have Q:iJ 167 [.box [.c (.str (dR s)),.c (.int .i64 (i64.wrap (k+1))),.c (.int .i64 (lp s))],.v (.c (.int .i64 1))] [] [(0,[.c (.str []),.c (.int .i64 (i64.wrap (k+1))),.c (.int .i64 1)])]:=by
      rcases yb s with K|⟨K,P⟩
      rw[K];exact kD _ _ _;rw[K,P];exact A8 _ _ _ _ ai
     rcases qK (cH s<0)with ⟨d1,b1⟩|⟨d1,b1⟩<;>rcases qK (cH s>200)with ⟨d2,b2⟩|⟨d2,b2⟩<;>rcases qK (cH s>(dR s).length)with ⟨d3,b3⟩|⟨d3,b3⟩
     all_goals first|(exfalso;omega)|skip
     all_goals
      refine en func166 call166 [(0,.ptr 1000000 0),(1,.c (.int .i64 (25-((g+1:Nat):Int))))] [(1000000,[.c (.str (c::s)),.c (.int .i64 k),.c (.int .i64 0)])] [] [1000000] λβ hf=>?_
      repeat' (first|refine sz ?_|refine ze ?_ ?_|(intro h;first|(cases h;done)|rw[h]|skip)|refine oa ?_ (hq:=Y) (hok:=by exact⟨_,_,_,Z,Z,⟨_,_,Z,Z,⟨_,_,Z,Z,⟨_,_,Z,Z,Z⟩⟩⟩,Z⟩)|refine oa ?_ (hq:=U) (hok:=by exact⟨_,_,_,Z,Z,⟨_,_,Z,Z,⟨_,_,Z,Z,⟨_,_,Z,Z,Z⟩⟩⟩,Z⟩)|refine oa ?_ (hq:=Q) (hok:=by exact⟨_,_,_,Z,Z,⟨_,_,Z,Z,⟨_,_,Z,Z,⟨_,_,Z,Z,Z⟩⟩⟩,⟨_,_,Z,Z,Z⟩⟩)|(refine uA Z ?_ ?_<;>(try (show(_:Nat)*_<=_;dsimp only))))
      all_goals first|rfl|(rw[A])
    rw[Vb _ _ _ ajo];have d1:decide (cH s<0)=false:=acf ai;have d2:decide (cH s>200)=false:=acf ai;have d3:decide (cH s>(dR s).length)=false:=acf ai;obtain⟨v,hv⟩:∃v:Nat,cH s=v:=⟨(cH s).toNat,ai⟩;have hvl:v<=(dR s).length:=(by omega);rw[hv]at U d1 d2 d3 ⊢;have d12:(bif decide ((v:Int)<0)then true else decide ((v:Int)>200))=false:=(by rw[d1,d2];rfl);refine en func166 call166 [(0,.ptr 1000000 0),(1,.c (.int .i64 (25-((g+1:Nat):Int))))] [(1000000,[.c (.str (c::s)),.c (.int .i64 k),.c (.int .i64 0)])] [] [1000000] λβ hf=>?_
    repeat' (first|refine sz ?_|refine ze ?_ ?_|(intro h;first|(cases h;done)|rw[h]|skip)|refine oa ?_ (hq:=Y) (hok:=by exact⟨_,_,_,Z,Z,⟨_,_,Z,Z,⟨_,_,Z,Z,⟨_,_,Z,Z,Z⟩⟩⟩,Z⟩)|refine oa ?_ (hq:=U) (hok:=by exact⟨_,_,_,Z,Z,⟨_,_,Z,Z,⟨_,_,Z,Z,⟨_,_,Z,Z,Z⟩⟩⟩,Z⟩)|refine ag.IP hX kn Z Z Z Z Z Z (l:=none) (h:=some v) Z Z hvl (ahp _) ?_|refine ag.IP hX kn Z Z Z Z Z Z (l:=some v) (h:=none) Z Z (acd _) hvl ?_|(refine uA Z ?_ ?_<;>(try (show(_:Nat)*_<=_;dsimp only))))
    all_goals first|rfl|(rw[A];done)|(rw[A];simp;done)|(simp[A];done)
   by_cases q2:q=2
   ·subst q2;cases s with
    |nil =>
     rw[Yb];have h1:=Sg (i64.wrap (k+1)) 1 ai;have h2:=DL (i64.wrap (k+1));have hp0:vn 0=false:=(by decide +kernel);have N:=oz 0;rw[hp0]at N;have h3:=yc (i64.wrap (k+1)) 1 ai;have Q:=A8 [] (i64.wrap (k+1)) 1 1 ai;refine en func166 call166 [(0,.ptr 1000000 0),(1,.c (.int .i64 (25-((g+1:Nat):Int))))] [(1000000,[.c (.str (c::[])),.c (.int .i64 k),.c (.int .i64 0)])] [] [1000000] λβ hf=>?_
     repeat' (first|refine sz ?_|refine ze ?_ ?_|(intro h;first|(cases h;done)|rw[h]|skip)|refine oa ?_ (hq:=Y) (hok:=by exact⟨_,_,_,Z,Z,⟨_,_,Z,Z,⟨_,_,Z,Z,⟨_,_,Z,Z,Z⟩⟩⟩,Z⟩)|refine oa ?_ (hq:=h2) (hok:=by exact⟨_,_,_,Z,Z,⟨_,_,Z,Z,⟨_,_,Z,Z,⟨_,_,Z,Z,Z⟩⟩⟩,Z⟩)|refine uC Z N ?_|refine oa ?_ (hq:=h3) (hok:=by exact⟨_,_,_,Z,Z,⟨_,_,Z,Z,⟨_,_,Z,Z,⟨_,_,Z,Z,Z⟩⟩⟩,Z⟩)|refine oa ?_ (hq:=Q) (hok:=by exact⟨_,_,_,Z,Z,⟨_,_,Z,Z,⟨_,_,Z,Z,⟨_,_,Z,Z,Z⟩⟩⟩,⟨_,_,Z,Z,Z⟩⟩)|(refine uA Z ?_ ?_<;>(try (show(_:Nat)*_<=_;dsimp only))))
     refine AK.dg (α:=Unit) (λ_=>True) (λ_=>0)
      (λ_=>[(7,.c (.int .i64 0)),(0,.ptr 1000000 0),(1,.c (.int .i64 (25-((g+1:Nat):Int)))),(4,.ptr 4 0),(5,.ptr 5 0)])
      (λ_=>[(4,[.c (.int .i64 0),.c (.int .i64 0),.c (.int .i64 0),.c (.str []),.own .exact 5 []]),(5,[.c (.int .i64 ((2:Nat):Int)),.c (.int .i64 0),.c (.int .i64 0),.c (.str []),.own .exact 5 []]),(1000000,[.c (.str []),.c (.int .i64 (i64.wrap (k+1))),.c (.int .i64 1)])]) (λ_=>[]) [4,5,1000000] ()
      trivial ce ⟨Z,Z,Z,trivial⟩ trivial Z Z Z ?_
     rintro _ _ S;clear S
     repeat' (first|refine sz ?_|refine ze ?_ ?_|(intro h;first|(cases h;done)|rw[h]|skip)|(refine uA Z ?_ ?_<;>(try (show(_:Nat)*_<=_;dsimp only))))
     all_goals first|rfl|(rw[A])
    |cons p s =>
     have M:=A9 p s (i64.wrap (k+1)) 0;have NV:=p.toNat_lt;cases hp:vn p.toNat with
     |false =>
      rw[Yc _ _ _ _ hp];have N:=oz p.toNat;rw[hp]at N;have h3:=yc (i64.wrap (k+1)) 1 ai;have Q:=kD s (i64.wrap (k+1)) 1;refine en func166 call166 [(0,.ptr 1000000 0),(1,.c (.int .i64 (25-((g+1:Nat):Int))))] [(1000000,[.c (.str (c::p::s)),.c (.int .i64 k),.c (.int .i64 0)])] [] [1000000] λβ hf=>?_
      repeat' (first|refine sz ?_|refine ze ?_ ?_|(intro h;first|(cases h;done)|rw[h]|skip)|refine oa ?_ (hq:=Y) (hok:=by exact⟨_,_,_,Z,Z,⟨_,_,Z,Z,⟨_,_,Z,Z,⟨_,_,Z,Z,Z⟩⟩⟩,Z⟩)|refine oa ?_ (hq:=M) (hok:=by exact⟨_,_,_,Z,Z,⟨_,_,Z,Z,⟨_,_,Z,Z,⟨_,_,Z,Z,Z⟩⟩⟩,Z⟩)|refine uC Z N ?_|refine oa ?_ (hq:=h3) (hok:=by exact⟨_,_,_,Z,Z,⟨_,_,Z,Z,⟨_,_,Z,Z,⟨_,_,Z,Z,Z⟩⟩⟩,Z⟩)|refine oa ?_ (hq:=Q) (hok:=by exact⟨_,_,_,Z,Z,⟨_,_,Z,Z,⟨_,_,Z,Z,⟨_,_,Z,Z,Z⟩⟩⟩,⟨_,_,Z,Z,Z⟩⟩)|(refine uA Z ?_ ?_<;>(try (show(_:Nat)*_<=_;dsimp only))))
      refine AK.dg (α:=Unit) (λ_=>True) (λ_=>0)
       (λ_=>[(7,.c (.int .i64 0)),(0,.ptr 1000000 0),(1,.c (.int .i64 (25-((g+1:Nat):Int)))),(4,.ptr 4 0),(5,.ptr 5 0)])
       (λ_=>[(4,[.c (.int .i64 0),.c (.int .i64 0),.c (.int .i64 0),.c (.str []),.own .exact 5 []]),(5,[.c (.int .i64 ((2:Nat):Int)),.c (.int .i64 0),.c (.int .i64 (p.toNat:Int)),.c (.str []),.own .exact 5 []]),(1000000,[.c (.str []),.c (.int .i64 (i64.wrap (k+1))),.c (.int .i64 1)])]) (λ_=>[]) [4,5,1000000] ()
       trivial ce ⟨Z,Z,Z,trivial⟩ trivial Z Z Z ?_
      rintro _ _ S;clear S
      repeat' (first|refine sz ?_|refine ze ?_ ?_|(intro h;first|(cases h;done)|rw[h]|skip)|(refine uA Z ?_ ?_<;>(try (show(_:Nat)*_<=_;dsimp only))))
      all_goals first|rfl|(rw[A])
     |true =>
      rw[Vc _ _ _ _ hp];have N:=oz p.toNat;rw[hp]at N;have U:=sI (s) (i64.wrap (k+1));rcases yb (s)with K|⟨K,P⟩
      ·have O3:=DM K;unfold bL at O3;rw[K]at U;by_cases B:cH (s)<0
       ·rw[G5 _ _ _ _ _ (.inr B)];have J:decide (cH (s)<0):=ace B;have c6:decide (cH (s)>0)=false:=acf ai;have Q:=kD (dR (s)) (i64.wrap (k+1)) 1;refine en func166 call166 [(0,.ptr 1000000 0),(1,.c (.int .i64 (25-((g+1:Nat):Int))))] [(1000000,[.c (.str (c::p::s)),.c (.int .i64 k),.c (.int .i64 0)])] [] [1000000] λβ hf=>?_
        repeat' (first|refine sz ?_|refine ze ?_ ?_|(intro h;first|(cases h;done)|rw[h]|skip)|refine oa ?_ (hq:=Y) (hok:=by exact⟨_,_,_,Z,Z,⟨_,_,Z,Z,⟨_,_,Z,Z,⟨_,_,Z,Z,Z⟩⟩⟩,Z⟩)|refine oa ?_ (hq:=M) (hok:=by exact⟨_,_,_,Z,Z,⟨_,_,Z,Z,⟨_,_,Z,Z,⟨_,_,Z,Z,Z⟩⟩⟩,Z⟩)|refine uC Z N ?_|refine oa ?_ (hq:=U) (hok:=by exact⟨_,_,_,Z,Z,⟨_,_,Z,Z,⟨_,_,Z,Z,⟨_,_,Z,Z,Z⟩⟩⟩,Z⟩)|refine oa ?_ (hq:=Q) (hok:=by exact⟨_,_,_,Z,Z,⟨_,_,Z,Z,⟨_,_,Z,Z,⟨_,_,Z,Z,Z⟩⟩⟩,⟨_,_,Z,Z,Z⟩⟩)|(refine uA Z ?_ ?_<;>(try (show(_:Nat)*_<=_;dsimp only))))
        refine AK.dg (α:=Unit) (λ_=>True) (λ_=>0)
         (λ_=>[(7,.c (.int .i64 (cH (s)))),(0,.ptr 1000000 0),(1,.c (.int .i64 (25-((g+1:Nat):Int)))),(4,.ptr 4 0),(5,.ptr 5 0)])
         (λ_=>[(4,[.c (.int .i64 0),.c (.int .i64 0),.c (.int .i64 0),.c (.str []),.own .exact 5 []]),(5,[.c (.int .i64 ((2:Nat):Int)),.c (.int .i64 0),.c (.int .i64 (p.toNat:Int)),.c (.str []),.own .exact 5 []]),(1000000,[.c (.str []),.c (.int .i64 (i64.wrap (k+1))),.c (.int .i64 1)])]) (λ_=>[]) [4,5,1000000] ()
         trivial ce ⟨Z,Z,Z,trivial⟩ trivial Z Z Z ?_
        rintro _ _ S;clear S
        repeat' (first|refine sz ?_|refine ze ?_ ?_|(intro h;first|(cases h;done)|rw[h]|skip)|(refine uA Z ?_ ?_<;>(try (show(_:Nat)*_<=_;dsimp only))))
        all_goals first|rfl|(rw[A])
       rw[WB _ _ _ _ _ (by rw[K];simp;omega)];have J:decide (cH (s)<0)=false:=acf B;obtain⟨V,hv⟩:∃v:Nat,cH (s)=v:=⟨(cH (s)).toNat,ai⟩;rw[hv]at U J;have hvt:(cH (s)).toNat=V:=(by omega);rw[hvt];refine en func166 call166 [(0,.ptr 1000000 0),(1,.c (.int .i64 (25-((g+1:Nat):Int))))] [(1000000,[.c (.str (c::p::s)),.c (.int .i64 k),.c (.int .i64 0)])] [] [1000000] λβ hf=>?_
       repeat' (first|refine sz ?_|refine ze ?_ ?_|(intro h;first|(cases h;done)|rw[h]|skip)|refine oa ?_ (hq:=Y) (hok:=by exact⟨_,_,_,Z,Z,⟨_,_,Z,Z,⟨_,_,Z,Z,⟨_,_,Z,Z,Z⟩⟩⟩,Z⟩)|refine oa ?_ (hq:=M) (hok:=by exact⟨_,_,_,Z,Z,⟨_,_,Z,Z,⟨_,_,Z,Z,⟨_,_,Z,Z,Z⟩⟩⟩,Z⟩)|refine uC Z N ?_|refine oa ?_ (hq:=U) (hok:=by exact⟨_,_,_,Z,Z,⟨_,_,Z,Z,⟨_,_,Z,Z,⟨_,_,Z,Z,Z⟩⟩⟩,Z⟩)|(refine uA Z ?_ ?_<;>(try (show(_:Nat)*_<=_;dsimp only))))
       refine AK.gK [(4,4),(5,5),(1000000,1000000)] [(5000,(0,none))] (env':=[(7,.c (.int .i64 (V:Nat))),(0,.ptr 1000000 0),(1,.c (.int .i64 (25-((g+1:Nat):Int)))),(4,.ptr 4 0),(5,.ptr 5 0)])
        (bs':=[(4,[.c (.int .i64 0),.c (.int .i64 0),.c (.int .i64 0),.c (.str []),.own .exact 5 []]),(5,[.c (.int .i64 ((2:Nat):Int)),.c (.int .i64 0),.c (.int .i64 (p.toNat:Int)),.c (.str []),.own (.tok 5000 0) 5 []]),(1000000,[.c (.str (dR (s))),.c (.int .i64 (k+1)),.c (.int .i64 0)])]) (ts':=[(5000,0)]) (us':=[4,5,1000000,5000])
        ce  ⟨ce,ce,⟨_,_,Z,Z,⟨_,_,Z,.inl Z,⟨_,_,Z,.inl (ahm (λz=>AV.c (.int .i64 z)) A),⟨_,_,Z,.inl Z,Z⟩⟩⟩⟩,trivial⟩ Z ?_
       refine AK.dg (α:=Nat×L Nd×L UInt8×Int×Int) (λz=>fC (pM g) V (dR (s)) (k+1) 0=(z.2.1++(fC (pM g) z.1 z.2.2.1 z.2.2.2.1 z.2.2.2.2).1,(fC (pM g) z.1 z.2.2.1 z.2.2.2.1 z.2.2.2.2).2)/\0<=z.2.2.2.1/\z.2.2.2.1<=301/\(z.2.2.2.2=0->z.2.2.2.1<=300)/\(z.2.1.length:Int)<=z.2.2.2.1/\z.1<=1152921504606846976) (λz=>z.1)
        (λz=>[(7,.c (.int .i64 (z.1:Nat))),(0,.ptr 1000000 0),(1,.c (.int .i64 (25-((g+1:Nat):Int)))),(4,.ptr 4 0),(5,.ptr 5 0)])
        (λz=>[(4,[.c (.int .i64 0),.c (.int .i64 0),.c (.int .i64 0),.c (.str []),.own .exact 5 []]),(5,[.c (.int .i64 ((2:Nat):Int)),.c (.int .i64 0),.c (.int .i64 (p.toNat:Int)),.c (.str []),.own (.tok 5000 0) 5 (aD z.2.1)]),(1000000,[.c (.str z.2.2.1),.c (.int .i64 z.2.2.2.1),.c (.int .i64 z.2.2.2.2)])]) (λ_=>[(5000,0)]) [4,5,1000000,5000] (V,[],dR (s),k+1,0)
        ⟨cS,by show 0<=k+1;omega,by show k+1<=301;omega,λ_=>by show k+1<=300;omega,by show(0:Int)<=k+1;omega,by show V<=_;omega⟩ ce ⟨Z,Z,Z,trivial⟩ ⟨Z,trivial⟩ Z Z Z ?_
       rintro⟨v,acc,T,k',e'⟩ ⟨W,Vd,hk',Yq,SJ,ag5⟩ S;simp only at W Vd hk' Yq SJ ag5;by_cases he:e'=0
       ·subst he;have O:=Yq Z;cases v with
        |zero =>
         rw[Mc,ahq]at W;rw[W];clear S;exact dq
        |succ v =>
         have c7:decide (((v+1:Nat):Int)>0):=ace ai;have hq:=hin T k' Vd O;have u:=U9 g T k' Vd O;rw[Md]at W;rcases hx:pM g T k' with ⟨⟨G,I,H,D,C⟩,s2,E,e2⟩
         rw[hx]at hq u W;simp only at hq u W;have e7:i64.wrap (((v+1:Nat):Int)-1)=(v:Int):=by rw[gW ai ai];omega
         repeat' (first|refine sz ?_|refine ze ?_ ?_|(intro h;first|(cases h;done)|rw[h]|skip)|refine oa ?_ (hq:=hq) (hok:=by exact⟨_,_,_,Z,Z,⟨_,_,Z,Z,⟨_,_,Z,Z,⟨_,_,Z,Z,Z⟩⟩⟩,⟨_,_,Z,Z,Z⟩⟩)|(refine uA Z ?_ ?_<;>(try (show(_:Nat)*_<=_;dsimp only))))
         have h1:=bq acc;simp only[aat,aav];omega;have hap:aD acc++[aV (.mk G I H D C)]=aD (acc++[.mk G I H D C]):=(nT acc [_]).symm;refine AK.gK [(4,4),(5,5),(1000000,1000000)] [(5000,(0,some 5000))] (env':=[(7,.c (.int .i64 (v:Nat))),(0,.ptr 1000000 0),(1,.c (.int .i64 (25-((g+1:Nat):Int)))),(4,.ptr 4 0),(5,.ptr 5 0)])
          (bs':=[(4,[.c (.int .i64 0),.c (.int .i64 0),.c (.int .i64 0),.c (.str []),.own .exact 5 []]),(5,[.c (.int .i64 ((2:Nat):Int)),.c (.int .i64 0),.c (.int .i64 (p.toNat:Int)),.c (.str []),.own (.tok 5000 0) 5 (aD (acc++[.mk G I H D C]))]),(1000000,[.c (.str s2),.c (.int .i64 E),.c (.int .i64 e2)])]) (ts':=[(5000,0)]) (us':=[4,5,1000000,5000])
          ⟨⟨_,Z,.inl (ahm (λz=>AV.c (.int .i64 z)) e7)⟩,⟨_,Z,⟨_,Z,Z⟩⟩,⟨_,Z,.inl Z⟩,⟨_,Z,⟨_,Z,Z⟩⟩,⟨_,Z,⟨_,Z,Z⟩⟩,trivial⟩ ⟨ce,⟨_,_,Z,Z,⟨_,_,Z,.inl Z,⟨_,_,Z,.inl Z,⟨_,_,Z,.inl Z,⟨_,_,Z,.inl Z,⟨_,_,Z,⟨_,Z,.inr ⟨_,_,Z,Z,ahm (AV.own (.tok 5000 1) 5) hap⟩⟩,Z⟩⟩⟩⟩⟩⟩,ce,trivial⟩ Z ?_
         refine S (v,acc++[.mk G I H D C],s2,E,e2) ⟨?_,by show 0<=E;omega,by show E<=301;omega,u.2.2,Y8,by show v<=_;omega⟩ (by show v<v+1;omega);show fC (pM g) V (dR (s)) (k+1) 0=_;rw[W];simp
       rw[Sh _ _ _ _ _ he,ahq]at W;rw[W];have c8:(e'==0)=false:=(by simpa using he);clear S;rcases qK ((v:Int)>0)with ⟨c7,_⟩|⟨c7,_⟩
       all_goals
        exact dq
      rw[G5 _ _ _ _ _ (.inl (by rw[K];omega))];rw[K,P]at U;have Q:=A8 [] (i64.wrap (k+1)) 1 1 ai;rcases qK (cH (s)<0)with ⟨J,_⟩|⟨J,_⟩<;>rcases qK (cH (s)>0)with ⟨c6,_⟩|⟨c6,_⟩
      all_goals
       refine en func166 call166 [(0,.ptr 1000000 0),(1,.c (.int .i64 (25-((g+1:Nat):Int))))] [(1000000,[.c (.str (c::p::s)),.c (.int .i64 k),.c (.int .i64 0)])] [] [1000000] λβ hf=>?_
       repeat' (first|refine sz ?_|refine ze ?_ ?_|(intro h;first|(cases h;done)|rw[h]|skip)|refine oa ?_ (hq:=Y) (hok:=by exact⟨_,_,_,Z,Z,⟨_,_,Z,Z,⟨_,_,Z,Z,⟨_,_,Z,Z,Z⟩⟩⟩,Z⟩)|refine oa ?_ (hq:=M) (hok:=by exact⟨_,_,_,Z,Z,⟨_,_,Z,Z,⟨_,_,Z,Z,⟨_,_,Z,Z,Z⟩⟩⟩,Z⟩)|refine uC Z N ?_|refine oa ?_ (hq:=U) (hok:=by exact⟨_,_,_,Z,Z,⟨_,_,Z,Z,⟨_,_,Z,Z,⟨_,_,Z,Z,Z⟩⟩⟩,Z⟩)|refine oa ?_ (hq:=Q) (hok:=by exact⟨_,_,_,Z,Z,⟨_,_,Z,Z,⟨_,_,Z,Z,⟨_,_,Z,Z,Z⟩⟩⟩,⟨_,_,Z,Z,Z⟩⟩)|(refine uA Z ?_ ?_<;>(try (show(_:Nat)*_<=_;dsimp only))))
       refine AK.dg (α:=Unit) (λ_=>True) (λ_=>0)
        (λ_=>[(7,.c (.int .i64 (cH (s)))),(0,.ptr 1000000 0),(1,.c (.int .i64 (25-((g+1:Nat):Int)))),(4,.ptr 4 0),(5,.ptr 5 0)])
        (λ_=>[(4,[.c (.int .i64 0),.c (.int .i64 0),.c (.int .i64 0),.c (.str []),.own .exact 5 []]),(5,[.c (.int .i64 ((2:Nat):Int)),.c (.int .i64 0),.c (.int .i64 (p.toNat:Int)),.c (.str []),.own .exact 5 []]),(1000000,[.c (.str []),.c (.int .i64 (i64.wrap (k+1))),.c (.int .i64 1)])]) (λ_=>[]) [4,5,1000000] ()
        trivial ce ⟨Z,Z,Z,trivial⟩ trivial Z Z Z ?_
       rintro _ _ S;clear S
       repeat' (first|refine sz ?_|refine ze ?_ ?_|(intro h;first|(cases h;done)|rw[h]|skip)|(refine uA Z ?_ ?_<;>(try (show(_:Nat)*_<=_;dsimp only))))
       all_goals first|rfl|(rw[A])
   by_cases q3:q=3
   ·subst q3;rw[ajn];have U:=sI (s) (i64.wrap (k+1));rcases yb (s)with K|⟨K,P⟩
    ·have O3:=DM K;unfold bL at O3;rw[K]at U;by_cases B:cH (s)<0
     ·rw[G5 _ _ _ _ _ (.inr B)];have J:decide (cH (s)<0):=ace B;have c6:decide (cH (s)>0)=false:=acf ai;have Q:=kD (dR (s)) (i64.wrap (k+1)) 1;refine en func166 call166 [(0,.ptr 1000000 0),(1,.c (.int .i64 (25-((g+1:Nat):Int))))] [(1000000,[.c (.str (c::s)),.c (.int .i64 k),.c (.int .i64 0)])] [] [1000000] λβ hf=>?_
      repeat' (first|refine sz ?_|refine ze ?_ ?_|(intro h;first|(cases h;done)|rw[h]|skip)|refine oa ?_ (hq:=Y) (hok:=by exact⟨_,_,_,Z,Z,⟨_,_,Z,Z,⟨_,_,Z,Z,⟨_,_,Z,Z,Z⟩⟩⟩,Z⟩)|refine oa ?_ (hq:=U) (hok:=by exact⟨_,_,_,Z,Z,⟨_,_,Z,Z,⟨_,_,Z,Z,⟨_,_,Z,Z,Z⟩⟩⟩,Z⟩)|refine oa ?_ (hq:=Q) (hok:=by exact⟨_,_,_,Z,Z,⟨_,_,Z,Z,⟨_,_,Z,Z,⟨_,_,Z,Z,Z⟩⟩⟩,⟨_,_,Z,Z,Z⟩⟩)|(refine uA Z ?_ ?_<;>(try (show(_:Nat)*_<=_;dsimp only))))
      refine AK.dg (α:=Unit) (λ_=>True) (λ_=>0)
       (λ_=>[(7,.c (.int .i64 (cH (s)))),(0,.ptr 1000000 0),(1,.c (.int .i64 (25-((g+1:Nat):Int)))),(4,.ptr 4 0),(5,.ptr 5 0)])
       (λ_=>[(4,[.c (.int .i64 0),.c (.int .i64 0),.c (.int .i64 0),.c (.str []),.own .exact 5 []]),(5,[.c (.int .i64 ((3:Nat):Int)),.c (.int .i64 0),.c (.int .i64 0),.c (.str []),.own .exact 5 []]),(1000000,[.c (.str []),.c (.int .i64 (i64.wrap (k+1))),.c (.int .i64 1)])]) (λ_=>[]) [4,5,1000000] ()
       trivial ce ⟨Z,Z,Z,trivial⟩ trivial Z Z Z ?_
      rintro _ _ S;clear S
      repeat' (first|refine sz ?_|refine ze ?_ ?_|(intro h;first|(cases h;done)|rw[h]|skip)|(refine uA Z ?_ ?_<;>(try (show(_:Nat)*_<=_;dsimp only))))
      all_goals first|rfl|(rw[A])
     rw[WB _ _ _ _ _ (by rw[K];simp;omega)];have J:decide (cH (s)<0)=false:=acf B;obtain⟨V,hv⟩:∃v:Nat,cH (s)=v:=⟨(cH (s)).toNat,ai⟩;rw[hv]at U J;have hvt:(cH (s)).toNat=V:=(by omega);rw[hvt];refine en func166 call166 [(0,.ptr 1000000 0),(1,.c (.int .i64 (25-((g+1:Nat):Int))))] [(1000000,[.c (.str (c::s)),.c (.int .i64 k),.c (.int .i64 0)])] [] [1000000] λβ hf=>?_
     repeat' (first|refine sz ?_|refine ze ?_ ?_|(intro h;first|(cases h;done)|rw[h]|skip)|refine oa ?_ (hq:=Y) (hok:=by exact⟨_,_,_,Z,Z,⟨_,_,Z,Z,⟨_,_,Z,Z,⟨_,_,Z,Z,Z⟩⟩⟩,Z⟩)|refine oa ?_ (hq:=U) (hok:=by exact⟨_,_,_,Z,Z,⟨_,_,Z,Z,⟨_,_,Z,Z,⟨_,_,Z,Z,Z⟩⟩⟩,Z⟩)|(refine uA Z ?_ ?_<;>(try (show(_:Nat)*_<=_;dsimp only))))
     refine AK.gK [(4,4),(5,5),(1000000,1000000)] [(5000,(0,none))] (env':=[(7,.c (.int .i64 (V:Nat))),(0,.ptr 1000000 0),(1,.c (.int .i64 (25-((g+1:Nat):Int)))),(4,.ptr 4 0),(5,.ptr 5 0)])
      (bs':=[(4,[.c (.int .i64 0),.c (.int .i64 0),.c (.int .i64 0),.c (.str []),.own .exact 5 []]),(5,[.c (.int .i64 ((3:Nat):Int)),.c (.int .i64 0),.c (.int .i64 0),.c (.str []),.own (.tok 5000 0) 5 []]),(1000000,[.c (.str (dR (s))),.c (.int .i64 (k+1)),.c (.int .i64 0)])]) (ts':=[(5000,0)]) (us':=[4,5,1000000,5000])
      ce  ⟨ce,ce,⟨_,_,Z,Z,⟨_,_,Z,.inl Z,⟨_,_,Z,.inl (ahm (λz=>AV.c (.int .i64 z)) A),⟨_,_,Z,.inl Z,Z⟩⟩⟩⟩,trivial⟩ Z ?_
     refine AK.dg (α:=Nat×L Nd×L UInt8×Int×Int) (λz=>fC (pM g) V (dR (s)) (k+1) 0=(z.2.1++(fC (pM g) z.1 z.2.2.1 z.2.2.2.1 z.2.2.2.2).1,(fC (pM g) z.1 z.2.2.1 z.2.2.2.1 z.2.2.2.2).2)/\0<=z.2.2.2.1/\z.2.2.2.1<=301/\(z.2.2.2.2=0->z.2.2.2.1<=300)/\(z.2.1.length:Int)<=z.2.2.2.1/\z.1<=1152921504606846976) (λz=>z.1)
      (λz=>[(7,.c (.int .i64 (z.1:Nat))),(0,.ptr 1000000 0),(1,.c (.int .i64 (25-((g+1:Nat):Int)))),(4,.ptr 4 0),(5,.ptr 5 0)])
      (λz=>[(4,[.c (.int .i64 0),.c (.int .i64 0),.c (.int .i64 0),.c (.str []),.own .exact 5 []]),(5,[.c (.int .i64 ((3:Nat):Int)),.c (.int .i64 0),.c (.int .i64 0),.c (.str []),.own (.tok 5000 0) 5 (aD z.2.1)]),(1000000,[.c (.str z.2.2.1),.c (.int .i64 z.2.2.2.1),.c (.int .i64 z.2.2.2.2)])]) (λ_=>[(5000,0)]) [4,5,1000000,5000] (V,[],dR (s),k+1,0)
      ⟨cS,by show 0<=k+1;omega,by show k+1<=301;omega,λ_=>by show k+1<=300;omega,by show(0:Int)<=k+1;omega,by show V<=_;omega⟩ ce ⟨Z,Z,Z,trivial⟩ ⟨Z,trivial⟩ Z Z Z ?_
     rintro⟨v,acc,T,k',e'⟩ ⟨W,Vd,hk',Yq,SJ,ag5⟩ S;simp only at W Vd hk' Yq SJ ag5;by_cases he:e'=0
     ·subst he;have O:=Yq Z;cases v with
      |zero =>
       rw[Mc,ahq]at W;rw[W];clear S;exact dq
      |succ v =>
       have c7:decide (((v+1:Nat):Int)>0):=ace ai;have hq:=hin T k' Vd O;have u:=U9 g T k' Vd O;rw[Md]at W;rcases hx:pM g T k' with ⟨⟨G,I,H,D,C⟩,s2,E,e2⟩
       rw[hx]at hq u W;simp only at hq u W;have e7:i64.wrap (((v+1:Nat):Int)-1)=(v:Int):=by rw[gW ai ai];omega
       repeat' (first|refine sz ?_|refine ze ?_ ?_|(intro h;first|(cases h;done)|rw[h]|skip)|refine oa ?_ (hq:=hq) (hok:=by exact⟨_,_,_,Z,Z,⟨_,_,Z,Z,⟨_,_,Z,Z,⟨_,_,Z,Z,Z⟩⟩⟩,⟨_,_,Z,Z,Z⟩⟩)|(refine uA Z ?_ ?_<;>(try (show(_:Nat)*_<=_;dsimp only))))
       have h1:=bq acc;simp only[aat,aav];omega;have hap:aD acc++[aV (.mk G I H D C)]=aD (acc++[.mk G I H D C]):=(nT acc [_]).symm;refine AK.gK [(4,4),(5,5),(1000000,1000000)] [(5000,(0,some 5000))] (env':=[(7,.c (.int .i64 (v:Nat))),(0,.ptr 1000000 0),(1,.c (.int .i64 (25-((g+1:Nat):Int)))),(4,.ptr 4 0),(5,.ptr 5 0)])
        (bs':=[(4,[.c (.int .i64 0),.c (.int .i64 0),.c (.int .i64 0),.c (.str []),.own .exact 5 []]),(5,[.c (.int .i64 ((3:Nat):Int)),.c (.int .i64 0),.c (.int .i64 0),.c (.str []),.own (.tok 5000 0) 5 (aD (acc++[.mk G I H D C]))]),(1000000,[.c (.str s2),.c (.int .i64 E),.c (.int .i64 e2)])]) (ts':=[(5000,0)]) (us':=[4,5,1000000,5000])
        ⟨⟨_,Z,.inl (ahm (λz=>AV.c (.int .i64 z)) e7)⟩,⟨_,Z,⟨_,Z,Z⟩⟩,⟨_,Z,.inl Z⟩,⟨_,Z,⟨_,Z,Z⟩⟩,⟨_,Z,⟨_,Z,Z⟩⟩,trivial⟩ ⟨ce,⟨_,_,Z,Z,⟨_,_,Z,.inl Z,⟨_,_,Z,.inl Z,⟨_,_,Z,.inl Z,⟨_,_,Z,.inl Z,⟨_,_,Z,⟨_,Z,.inr ⟨_,_,Z,Z,ahm (AV.own (.tok 5000 1) 5) hap⟩⟩,Z⟩⟩⟩⟩⟩⟩,ce,trivial⟩ Z ?_
       refine S (v,acc++[.mk G I H D C],s2,E,e2) ⟨?_,by show 0<=E;omega,by show E<=301;omega,u.2.2,Y8,by show v<=_;omega⟩ (by show v<v+1;omega);show fC (pM g) V (dR (s)) (k+1) 0=_;rw[W];simp
     rw[Sh _ _ _ _ _ he,ahq]at W;rw[W];have c8:(e'==0)=false:=(by simpa using he);clear S;rcases qK ((v:Int)>0)with ⟨c7,_⟩|⟨c7,_⟩
     all_goals
      exact dq
    rw[G5 _ _ _ _ _ (.inl (by rw[K];omega))];rw[K,P]at U;have Q:=A8 [] (i64.wrap (k+1)) 1 1 ai;rcases qK (cH (s)<0)with ⟨J,_⟩|⟨J,_⟩<;>rcases qK (cH (s)>0)with ⟨c6,_⟩|⟨c6,_⟩
    all_goals
     refine en func166 call166 [(0,.ptr 1000000 0),(1,.c (.int .i64 (25-((g+1:Nat):Int))))] [(1000000,[.c (.str (c::s)),.c (.int .i64 k),.c (.int .i64 0)])] [] [1000000] λβ hf=>?_
     repeat' (first|refine sz ?_|refine ze ?_ ?_|(intro h;first|(cases h;done)|rw[h]|skip)|refine oa ?_ (hq:=Y) (hok:=by exact⟨_,_,_,Z,Z,⟨_,_,Z,Z,⟨_,_,Z,Z,⟨_,_,Z,Z,Z⟩⟩⟩,Z⟩)|refine oa ?_ (hq:=U) (hok:=by exact⟨_,_,_,Z,Z,⟨_,_,Z,Z,⟨_,_,Z,Z,⟨_,_,Z,Z,Z⟩⟩⟩,Z⟩)|refine oa ?_ (hq:=Q) (hok:=by exact⟨_,_,_,Z,Z,⟨_,_,Z,Z,⟨_,_,Z,Z,⟨_,_,Z,Z,Z⟩⟩⟩,⟨_,_,Z,Z,Z⟩⟩)|(refine uA Z ?_ ?_<;>(try (show(_:Nat)*_<=_;dsimp only))))
     refine AK.dg (α:=Unit) (λ_=>True) (λ_=>0)
      (λ_=>[(7,.c (.int .i64 (cH (s)))),(0,.ptr 1000000 0),(1,.c (.int .i64 (25-((g+1:Nat):Int)))),(4,.ptr 4 0),(5,.ptr 5 0)])
      (λ_=>[(4,[.c (.int .i64 0),.c (.int .i64 0),.c (.int .i64 0),.c (.str []),.own .exact 5 []]),(5,[.c (.int .i64 ((3:Nat):Int)),.c (.int .i64 0),.c (.int .i64 0),.c (.str []),.own .exact 5 []]),(1000000,[.c (.str []),.c (.int .i64 (i64.wrap (k+1))),.c (.int .i64 1)])]) (λ_=>[]) [4,5,1000000] ()
      trivial ce ⟨Z,Z,Z,trivial⟩ trivial Z Z Z ?_
     rintro _ _ S;clear S
     repeat' (first|refine sz ?_|refine ze ?_ ?_|(intro h;first|(cases h;done)|rw[h]|skip)|(refine uA Z ?_ ?_<;>(try (show(_:Nat)*_<=_;dsimp only))))
     all_goals first|rfl|(rw[A])
   rw[aeb _ _ _ _ ai];have f0:((q:Int)==0)=false:=(by simpa using q0);have f1:((q:Int)==1)=false:=(by simp;omega);have f2:((q:Int)==2)=false:=(by simp;omega);have f3:((q:Int)==3)=false:=(by simp;omega);have h3:=yc (i64.wrap (k+1)) 1 ai;have Q:=kD s (i64.wrap (k+1)) 1;refine en func166 call166 [(0,.ptr 1000000 0),(1,.c (.int .i64 (25-((g+1:Nat):Int))))] [(1000000,[.c (.str (c::s)),.c (.int .i64 k),.c (.int .i64 0)])] [] [1000000] λβ hf=>?_
   repeat' (first|refine sz ?_|refine ze ?_ ?_|(intro h;first|(cases h;done)|rw[h]|skip)|refine oa ?_ (hq:=Y) (hok:=by exact⟨_,_,_,Z,Z,⟨_,_,Z,Z,⟨_,_,Z,Z,⟨_,_,Z,Z,Z⟩⟩⟩,Z⟩)|refine oa ?_ (hq:=h3) (hok:=by exact⟨_,_,_,Z,Z,⟨_,_,Z,Z,⟨_,_,Z,Z,⟨_,_,Z,Z,Z⟩⟩⟩,Z⟩)|refine oa ?_ (hq:=Q) (hok:=by exact⟨_,_,_,Z,Z,⟨_,_,Z,Z,⟨_,_,Z,Z,⟨_,_,Z,Z,Z⟩⟩⟩,⟨_,_,Z,Z,Z⟩⟩)|(refine uA Z ?_ ?_<;>(try (show(_:Nat)*_<=_;dsimp only))))
   refine AK.dg (α:=Unit) (λ_=>True) (λ_=>0)
    (λ_=>[(7,.c (.int .i64 0)),(0,.ptr 1000000 0),(1,.c (.int .i64 (25-((g+1:Nat):Int)))),(4,.ptr 4 0),(5,.ptr 5 0)])
    (λ_=>[(4,[.c (.int .i64 0),.c (.int .i64 0),.c (.int .i64 0),.c (.str []),.own .exact 5 []]),(5,[.c (.int .i64 (q:Int)),.c (.int .i64 0),.c (.int .i64 0),.c (.str []),.own .exact 5 []]),(1000000,[.c (.str []),.c (.int .i64 (i64.wrap (k+1))),.c (.int .i64 1)])]) (λ_=>[]) [4,5,1000000] ()
    trivial ce ⟨Z,Z,Z,trivial⟩ trivial Z Z Z ?_
   rintro _ _ S;clear S
   repeat' (first|refine sz ?_|refine ze ?_ ?_|(intro h;first|(cases h;done)|rw[h]|skip)|(refine uA Z ?_ ?_<;>(try (show(_:Nat)*_<=_;dsimp only))))
   all_goals first|rfl|(rw[A])
attribute [local irreducible] gu
def Ve(s:Δ):gu s=match gG 24 s 300 with
 |.no e=>(rX,e)
 |.ok n r _=>if r=[]then(n,0)else(rX,1):=by unfold gu;rfl
def MQ(s:Δ):af 159 [.str s] (.eK [aV (gu s).1,.int .i64 (gu s).2]):=by
 have S:=DN 24 s 0 ai ai ai;have E:=Sf 24 s 300 ai;rw[show(300:Int)-((300:Nat):Int)=0 from rfl]at E;rw[show(25:Int)-((24:Nat):Int)=1 from rfl]at S;rw[Ve];cases V:gG 24 s 300 with
 |no e =>
  rw[V]at E;simp only[vL]at E;rcases O:pM 24 s 0 with ⟨⟨G,W,U,T,q⟩,s2,k2,e2⟩
  rw[O]at S E;simp only at S E;obtain⟨rfl,rfl,Y⟩:=E;have B:(e2==0)=false:=by simpa using Y
  have u:(e2 != 0):=by simpa using Y
  exact qdq func159 call159
 |ok n r l =>
  rw[V]at E;simp only[vL]at E;rw[E.1]at S;simp only at S;obtain⟨G,W,U,T,q⟩:=n;cases r with
  |nil =>
   exact qdq func159 call159
  |cons c r =>
   have Q:=kD (c::r) (300-(l:Int)) 1;exact qdq func159 call159
end Go.Proofs
namespace Go.Proofs
open Go.cE
def Sk(n:Int):1<=(lC n).length:=by
 have:=aeh n;cases h:lC n with
 |nil=>exact absurd h this
 |cons a b=>simp
mutual
def FB:∀(t:Nd)(d:Int),fG t d=0->bE t<=(fj t).length
 |.mk T n p s V,d,h=>by
  obtain⟨Q,P⟩:=kY h;obtain⟨_,I,_,_,Y,W,_,_,_⟩:=oC Q;have S:=DP V (d+1) P;have B:=Sk (s.length:Int);have U:=Sk (V.length:Int);simp only[bE];rcases I with rfl|rfl|⟨rfl,M⟩|rfl
  obtain rfl:=Y ai;have:=W ai;rw[ajU]at this;subst this;rw[abI];simp[aP];have:=W ai;rw[ajU]at this;subst this;rw[abJ];simp only[aP,aat,acg];omega;obtain rfl:=Y ai;rw[abK];simp only[aat,acg,aav];omega;obtain rfl:=Y ai;rw[abL];simp only[aat,acg,aav];omega
def DP:∀(l:Θ)(d:Int),dJ l d=0->aP l<=(gw l).length
 |[],d,_=>by simp[aP]
 |t::l,d,h=>by
  have Y:=Fa h t cS;have U:dJ l d=0:=by simp only[dJ]at h;rw[if_pos Y]at h;exact h
  have V:=FB t d Y;have D:=DP l d U;simp only[gw,aP,acg];omega
end
end Go.Proofs
