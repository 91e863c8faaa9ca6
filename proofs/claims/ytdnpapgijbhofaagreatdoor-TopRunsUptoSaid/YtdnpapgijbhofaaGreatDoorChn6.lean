/- Package chain, plain: -/
import Derived.Test.YtdnpapgijbhofaaGreatDoorChn4
import Derived.Test.YtdnpapgijbhofaaGreatDoorRunAV
import Derived.Test.YtdnpapgijbhofaaGreatDoorFits
open Go.IntKind
open Go.Proofs.Tryz
set_option linter.defProp false
set_option linter.unusedVariables false
set_option linter.unusedSimpArgs false
set_option maxHeartbeats 0
set_option maxRecDepth 100000
namespace Go.Proofs
open Go.cw
mutual
def FX:∀(n:Nd)(t:Ty),(dR n t).2=true->eU (dR n t).1=true
 |.mk Y N P S M,t,h=>by
  have W:=DO M (aU t 0);have V:=DP M (aV t);have hR:=FY M;simp only[dR]at h ⊢
  repeat' split at h
  all_goals simp_all [eU,ej,qW]
  all_goals omega
def FY:∀(l:L Nd)(r:L Ty),ej (eY l r).1=true
 |[],[]=>rfl
 |[],_::_=>rfl
 |_::_,[]=>rfl
 |x::l,t::r=>by have h1:=FX x t;have h2:=FY l r;simp only[eY];split;rename_i c;generalize eY l r=q at *;obtain⟨q,b⟩:=q;cases b;rfl;simp only[glue,aeN,afM,ej,h1 c,h2,aiI];rfl
def DO:∀(l:L Nd)(t:Ty),(eV l t).2=true->ej (eV l t).1=true
 |[],t,_=>rfl
 |x::l,t,h=>by simp only[eV,aaN]at h;simp only[eV,ej,FX x t h.1,DO l t h.2,aiI]
def DP:∀(l:L Nd)(ts:L Ty),(ey l ts).2=true->ej (ey l ts).1=true
 |[],ts,_=>rfl
 |.mk Y n P s xs::l,ts,h=>by simp only[ey,aaN]at h;simp[ey,ej,eU,FY xs ts,DP l ts h.2]
end
def Jk{t:Ty}{n:Nd}(h:(gJ t n).2=0):gN t (gJ t n).1=true:=by
 have h1:=(CN h).1;have h2:eU (gJ t n).1=true:=by
  unfold gJ at h ⊢
  repeat' split at h
  all_goals simp_all [FX]
 unfold gN;rw[h1,h2];rfl
def Jl:∀(l:L Acc)(k i:Nat)(a:Acc),fH k l=true->l[i]?=some a->tQ (k+i) a=true
 |[],k,i,a,_,h=>by simp at h
 |x::l,k,0,a,hg,h=>by simp at h;subst h;simp only[fH,aaN]at hg;exact hg.1
 |x::l,k,i+1,a,hg,h=>by simp only[fH,aaN]at hg;have:=Jl l (k+1) i a hg.2 h;grind
def FZ:∀(l:L Acc)(k i:Nat)(b:Acc),fH k l=true->tQ (k+i) b=true->fH k (l.set i b)=true
 |[],k,i,b,h,_=>by simpa using h
 |x::l,k,0,b,G,h=>by simp only[fH]at G;simp only[List.set_cons_zero,fH];grind
 |x::l,k,i+1,b,G,h=>by simp only[fH,aaN]at G;simp only[ahs,fH,aaN];exact⟨G.1,FZ l (k+1) i b G.2 (by rw[show k+1+i=k+(i+1)by omega];exact h)⟩
def Jm:∀(l:L Acc)(i:Nat)(a b:Acc),l[i]?=some a->kC (l.set i b)=kC l-a.bX+b.bX
 |[],i,a,b,h=>by simp at h
 |x::l,0,a,b,h=>by simp at h;subst h;simp only[List.set_cons_zero,kC];omega
 |x::l,i+1,a,b,h=>by simp only[ahs,kC,Jm l i a b h];omega
def oY.get{l:dX}(h:oY l){i:Nat}{a:Acc}(T:l.aS[i]?=some a):tQ i a=true:=by have:=Jl l.aS 0 i a (ji.1 h.good).2.1 T;simp_all
def oY.set{l:dX}{i:Nat}{a b:Acc}{f:Int}(h:oY l)(T:l.aS[i]?=some a)(U:tQ i b=true)(B:KI b)(hf:f+b.bX=l.eG+a.bX)(C:0<=f):oY ⟨l.aS.set i b,f⟩:=by
 obtain⟨g1,H,Y⟩:=ji.1 h.good;have h1:fH 0 (l.aS.set i b)=true:=FZ _ _ _ _ H (by rw[aeS];exact U);have h2:=Jm l.aS i a b T;have K:=xV (l.aS.set i b) λx D=>(uE _ _ h1 x D).1;unfold Ix at Y;refine⟨by show(l.aS.set i b).length=12;rw[ahL];exact h.h12,ji.2 ⟨⟨C,?_⟩,h1,?_⟩,λx D=>?_⟩;grind;show f+kC (l.aS.set i b)=4000000;omega;rcases List.mem_or_eq_of_mem_set D with h|rfl
 exact oY.size ‹_› x h;omega
def Jn{p s:Ty}{c:L Nd}{v:Vl}{i b n:Int}{t:Ty}(h1:bf p+bf s<=2097152)(h2:aO c<=1048576)(hf:gN t v=true)(C:gX v<=200):KI ⟨i,b,n,p,s,c,v⟩:=by refine⟨h1,h2,?_⟩;have:=CO hf;grind
def F0{j:Nat}{a:Acc}(h:tQ j a=true)(h2:a.is=2):(0<=a.bX/\a.bX<=4000000)/\4<=j/\a.cnt=0/\jr a.param a.store (.mk 3 0 0 [] a.code)=0/\gN a.store a.keep=true/\gX a.keep<=200:=by unfold tQ FK gIn at h;grind
def Ns{j:Nat}{a:Acc}(h2:a.is=2)(U:0<=a.bX/\a.bX<=4000000)(Y:4<=j)(I:a.cnt=0)(K:jr a.param a.store (.mk 3 0 0 [] a.code)=0)(W:gN a.store a.keep=true)(M:gX a.keep<=200):tQ j a=true:=by unfold tQ FK gIn;grind
def zg{j:Nat}{a:Acc}(h:tQ j a=true):(a.is=0/\a.bX=0/\a.cnt=0/\4<=j)\/(a.is=1/\j<4)\/(a.is=2/\4<=j):=by unfold tQ FK gIn at h;grind
def F1{t:Ty}:∀{l:L Vl}{x:Vl},aL l t=true->x∈l->bE x t=true
 |y::l,x,h,D=>by
  simp only[aL,aaN]at h;rcases List.mem_cons.1 D with rfl|D
  grind;exact F1 h.2 D
def F3:∀{l:L Vl}{x:Vl},ej l=true->x∈l->eU x=true
 |y::l,x,h,D=>by
  simp only[ej,aaN]at h;rcases List.mem_cons.1 D with rfl|D
  grind;exact F3 h.2 D
def WN{p:Ty}{v:Vl}(B:jc p=true)(h1:bE v p=true)(h2:bE v (.mk 10 [.mk 8 []])=true):ez v=[]:=by
 obtain⟨k,n,a,s,M,V,code⟩:=v;obtain⟨T,ts⟩:=p;have A:=(ja h2).1;have K:=(ja h1).1;simp only[dD]at A K;subst A;subst K;rcases M with _|⟨x,r⟩
 rfl;simp[bE]at h1 h2;have E:bE x (.mk 8 [])=true:=by have:=h2.2;simp[aL]at this;exact this.2.1
 have N:bE x (ts.getD 0 lJ)=true:=by have:=h1.2;simp[aL]at this;exact this.2.1
 obtain⟨k,Q,H,O,q,Y,W⟩:=x;have D:=(ja E).1;have S:=(ja N).1;rcases ts with _|⟨u,ts⟩
 simp only[List.getD_nil,lJ,dD]at D S;omega;obtain⟨U,us⟩:=u;simp only[aaE,dD]at D S;have:U=8:=by omega
 subst this;simp[jc,DQ,F4,KU]at B
structure abY(r:Qs)(g:Int)(store:Ty):Prop where
 code:r.code=0\/r.code=10\/r.code=11\/r.code=12\/r.code=13
 bU:0<=r.bU/\r.bU<=g
 au:0<=r.au/\r.au<=bJ
 ends:r.code=0->∃x y,r.st=[bh x y]/\gN store y=true/\gX y<=200/\(ez x).length<=24/\∀o∈ez x,gN (.mk 8 []) o=true/\gX o<=200
def WO{to fu n bX:Int}{code:L Nd}{param store:Ty}{v keep:Vl}{g:Int}(h1:0<=to/\to<12)(h2:0<=fu/\fu<12)(h3:0<=n/\n<=bJ)(h4:0<=bX/\bX<=4000000)
  (C:jr param store (.mk 3 0 0 [] code)=0)(hv:gN param v=true)(hk:gN store keep=true)(zv:aH v<=12400000)(zk:aH keep<=12400000)(sk:gX keep<=200)(hg:0<=g/\g<=3000) :
  abY (Ir to fu n bX (.mk 3 0 0 [] code) [.mk 11 [param,store]] [.mk 11 0 0 [] [v,keep] [] []] g) g store:=by
 unfold jr at C;split at C;cases C;rename_i N;simp only[ain,aaN]at N;split at C;rename_i c;exact absurd C c;rename_i K;simp only[ne_eq,afF]at K;split at C;cases C;rename_i c3;obtain⟨f1,J,f3⟩:=cQ hv;obtain⟨k1,k2,k3⟩:=cQ hk;obtain⟨q1,q2,q3,I,q5⟩:=vH K;have B:=ld (x:=v) (y:=keep) ⟨J,f3⟩ ⟨k2,k3⟩;have U:gN (.mk 11 [param,store]) (bh v keep)=true:=by unfold gN oA;simp only[afQ,List.all_nil,agO]at I;rw[I,B.1,B.2];rfl
 have hok:ZE to fu n bX (.mk 3 0 0 [] code) [.mk 11 [param,store]] [bh v keep]=true:=by refine vG.2 ⟨K,Z,?_,?_⟩;have WQ:n<=1152921504606846976:=h3.2;unfold qU Nt Nu;simp;omega;simp only[zX,U,aiI]
 have M:VlS [bh v keep]:=λx D=>by rw[aga]at D;subst D;simp only[bh,aH,aI,bp,aO,aay];omega
 have Y:0<=g/\g<=1000000:=by omega
 obtain⟨w1,H⟩:=S4 hok M Y
 have wb:=Nv (z:=bh v keep) ⟨by show(11:Int)≠10;decide,by show(11:Int)≠13;decide⟩ (left (Ad to fu n bX code [bh v keep] g)+1) _ _ (FN hok M Y) (Je hok Y) ⟨λx D => .inr (List.mem_singleton.1 D),λF hF x D=>by
  rw[List.mem_singleton.1 hF]at D;simp at D⟩
 have e:Ir to fu n bX (.mk 3 0 0 [] code) [.mk 11 [param,store]] [.mk 11 0 0 [] [v,keep] [] []] g=uz (wI to fu n bX (.mk 3 0 0 [] code) [bh v keep] g):=by unfold Ir;exact if_pos hok
 rw[e];have W:QS (bh v keep) (wI to fu n bX (.mk 3 0 0 [] code) [bh v keep] g).2:=wb;generalize wI to fu n bX (.mk 3 0 0 [] code) [bh v keep] g=o at H W;obtain⟨⟨s1,s2,s3,s4,s5⟩,u,m,w⟩:=H;have sg:o.2.bU=g:=s5;refine⟨?_,⟨u.1,by rw[<- sg];exact u.2⟩,?_,?_⟩
 ·rcases w with ⟨w,_⟩|w|w|⟨w,_⟩|⟨w,_⟩<;>simp only[uz]<;>omega
 simp only[uz];split;exact m;exact⟨ai,gb⟩;intro h0;have S:o.1=0:=h0;rcases w with ⟨_,_,G,w4⟩|w|w|⟨w,_⟩|⟨w,_⟩
 rotate_left;omega;omega;omega;omega;have Q:gP (ke (.mk 3 0 0 [] code) [.mk 11 [param,store]]).1.1 [.mk 11 [.mk 10 [.mk 8 []],store]]=true:=by
  cases hh:gP (ke (.mk 3 0 0 [] code) [.mk 11 [param,store]]).1.1 [.mk 11 [.mk 10 [.mk 8 []],store]]with
  |true=>rfl
  |false=>exact absurd ⟨w4,hh⟩ c3
 rw[(l9 _ _).1 Q]at G;obtain⟨out,q,E,e2,e3⟩:=aW G;obtain rfl:=WR e3;obtain⟨g1,g2,g3⟩:=cQ e2.1;obtain⟨x,y,rfl,⟨A,x2⟩,y1,y2⟩:=uG g2 g3;obtain⟨xs,rfl,xl,xa,xb⟩:=xW A x2;have P:∀o∈xs,gN (.mk 8 []) o=true:=λo T=>by unfold gN oA;rw[F1 xa T,F3 xb T];rfl
 refine⟨.mk 10 0 0 [] xs [] [],y,by simp only[uz];rw[if_pos S,E],by unfold gN oA;rw[k1,y1,y2];rfl,?_,(show xs.length<=24 from xl),λo T=>⟨P o T,?_⟩⟩
 ·rcases W.1 (bh (.mk 10 0 0 [] xs [] []) y) (by rw[E];simp)with h|h
  simp only[bh,gX,iX]at h;omega;simp only[bh,Vl.mk.injEq,List.cons.injEq]at h;rw[h.2.2.2.2.1.2.1];exact sk
 rcases W.1 (bh (.mk 10 0 0 [] xs [] []) y) (by rw[E];simp)with h|h
 simp only[bh,gX,iX]at h;have:gX o<=iX xs:=Az T;omega;simp only[bh,Vl.mk.injEq,List.cons.injEq]at h;have O:=WN N.1.2 J (by rw[<- h.2.2.2.2.1.1];exact A);rw[<- h.2.2.2.2.1.1]at O;simp only[ez]at O;have V:o∈xs:=T;rw[O]at V;simp at V
def Nw(l:dX)(F T n:Int):jw l F T n≠14:=by
 unfold jw
 repeat' split
 all_goals decide
def BA{x:w9}(D:xH x)(t:Ty):((ov x t).2=0/\gN t (ov x t).1=true/\aH (ov x t).1<=12400000)\/(ov x t).2=5:=by
 obtain⟨fu,H,v⟩:=x;cases H with
 |none =>
  obtain⟨h1,h2,_⟩:gN (.mk 8 []) v=true/\aH v<=12400000/\4<=fu:=D;obtain⟨n,a,u,us,y,rfl,_,_,_,K⟩:=Nk h1;unfold ov;simp only[Iw,ez,aaE];split;rename_i c;rw[(gq _ _).1 c]at K;refine .inl ⟨Z,K,?_⟩;simp only[aH,aI]at h2;grind;omega
 |some o =>
  unfold ov;dsimp only;split;rename_i c;refine .inl ⟨Z,Jk c,?_⟩;have h1:=zh t o.arg;have h2:bD o.arg<=1048576:=D.1;grind;omega
structure Nx(w:Wk)(r:List w9×Int)(w':Wk):Prop where
 ok:Ac w'
 items:∀y∈r.1,xH y
 MF:r.1.length<=24
 code:r.2≠14
 bU:w'.bU+w'.used=w.bU+w.used
 used:w.used<=w'.used
 done:w'.done=w.done
 eG:w'.l.eG=w.l.eG
def iQ{w:Wk}(h:Ac w){e:Int}(O:e≠14):Nx w ([],e) w:=⟨h,λy U=>by simp at U,by simp,O,Z,afw _,Z,Z⟩
def UC{w:Wk}(h:Ac w){l:dX}(I:oY l)(hf:l.eG=w.l.eG):Nx w ([],0) {w with l:=l}:=⟨⟨I,h.bU,h.au,h.done,h.MF⟩,λy U=>by simp at U,by simp,by decide,Z,afw _,Z,hf⟩
def WS{w:Wk}{x:w9}(M:Ac w)(D:xH x)(to n:Int):Nx w (EA w x to n).1 (EA w x to n).2:=by
 have hg:=M.bU;unfold EA;split;exact iQ M (Nw _ _ _ _);rename_i e;simp only[ne_eq,afF]at e;obtain⟨h1,j,rfl,hj,J⟩:=FV M.xh e;obtain⟨i,_,aF,_,G,_,C,_,_,_,E,A,_⟩:=td M.xh.h12 e;have hi:i<12:=by have:=(List.getElem?_eq_some_iff.1 C).1;have:=M.xh.h12;omega
 have T:=ep (l:=Cz w.l x.fu j n) (i:=j) h1.h12 ai ai;rw[abU]at T;have V:(Cz w.l x.fu j n).eG=w.l.eG:=rfl;generalize Cz w.l x.fu j n=Ll at *;generalize bq Ll j=a at *;split
 ·split
  ·rename_i c;rcases BA D (.mk 1 [])with h|h
   exact absurd h.1 c;rw[h];exact iQ M bn
  exact UC M h1 V
 rename_i MI;have S:=h1.get T;have Y:a.is=2:=by rcases zg S with h|h|h<;>omega
 obtain⟨Q,b2,b3,P,b5,b6⟩:=F0 S Y;have u:=h1.size a (abz T);split
 ·rename_i c;rcases BA D a.param with h|h
  exact absurd h.1 c;rw[h];exact iQ M bn
 rename_i c;rcases BA D a.param with ⟨h,hf,I⟩|h
 rotate_left;omega;have B:abY (Ni w x j n a (ov x a.param).1) w.bU a.store:=WO ⟨ai,ai⟩ ⟨ai,ai⟩ ⟨E,A⟩ Q P hf b5 I u.2.2 b6 ai;generalize Ni w x j n a (ov x a.param).1=r at B;obtain⟨r1,r2,r3,r4⟩:=B;have q:=M.au;unfold Jf;dsimp only;split
 ·exact⟨⟨M.xh,⟨by show 0<=w.bU-r.bU;omega,by show 0<=w.used+r.bU;omega,by show w.bU-r.bU+(w.used+r.bU)<=3000;omega⟩,q,M.done,M.MF⟩,λy U=>by simp at U,cc,by show r.code≠14;omega,Yr,aci,Z,Z⟩
 rename_i O;simp only[ne_eq,afF]at O;have W:0<=w.bU-r.bU/\0<=w.used+r.bU/\w.bU-r.bU+(w.used+r.bU)<=3000:=by omega
 split
 ·exact⟨⟨M.xh,W,q,M.done,M.MF⟩,λy U=>by simp at U,cc,by show(11:Int)≠14;decide,Yr,aci,Z,Z⟩
 rename_i cm;obtain⟨x',y,e1,N,H,e4,e5⟩:=r4 O;rw[e1];simp only[aaE,aaH,bh,ez];refine⟨⟨?_,W,⟨by show 0<=w.au+r.au;omega,by show w.au+r.au<=bJ;omega⟩,M.done,M.MF⟩,λz I=>?_,by rw[aeU];exact e4,Wl,Yr,aci,Z,V⟩;show oY ⟨Ll.aS.set j {a with keep:=y},Ll.eG⟩;exact h1.set T (Ns Y Q b2 b3 P N H) (Jn u.1 u.2.1 N H) Z (ji.1 h1.good).1.1;obtain⟨o,ho,rfl⟩:=List.mem_map.1 I;obtain⟨K,f2⟩:=e5 o ho;have:=CO K;exact⟨K,by show aH o<=12400000;omega,by show(4:Int)<=(j:Int);omega⟩
def Qz(s:L Ty):(gy s).2≠14:=by show(0:Int)≠14;decide
def F5:(bw 1).2≠14:=by decide
def QA:(bw 5).2≠14:=by decide
def KV{e:Int}(h:e≠14):(bw e).2≠14:=h
def ac6{c:Prop}[Decidable c]{a b:CR}(T:a.2≠14)(U:b.2≠14):(if c then a else b).2≠14:=by split<;>assumption
def CP{a b:CR}(T:a.2≠14)(U:b.2≠14):(cZ a b).2≠14:=by
 unfold cZ
 repeat' split
 all_goals first|exact T|exact U|exact QA|(show(0:Int)≠14;decide)
section
variable {codes : L (L Ty -> CR)}
def WT(Y:∀f∈codes,∀s,(f s).2≠14)(i:Nat)(s:L Ty):(dM codes i s).2≠14:=by
 unfold dM List.getD;cases h:codes[i]? with
 |none=>exact F5
 |some f=>exact Y f (abz h) s
def UD(Y:∀f∈codes,∀s,(f s).2≠14)(P:Int)(M:L Nd)(V s:L Ty):(nZ P M codes V s).2≠14:=by
 have h1:=WT Y;unfold nZ iD dU iW eP eZ j9 iI
 repeat' (first|exact Qz _|exact QA|exact F5|exact CP (h1 _ _) (h1 _ _)|exact CP (h1 _ _) (Qz _)|exact KV (CP (h1 _ _) (Qz _))|exact KV (h1 _ _)|(show(0:Int)≠14;decide)|refine ac6 ?_ ?_|split)
end
def WU{r:CR}(h:r.2≠14):(mR r).2≠14:=by
 unfold mR
 repeat' split
 all_goals first|exact h|(show(0:Int)≠14;decide)|(show(7:Int)≠14;decide)|(show(4:Int)≠14;decide)
mutual
def E3:∀(l:L Nd)(o:L Ty×Bool),(cz l o).2≠14
 |[],o=>by simp only[cz];decide
 |n::l,o=>by
  have h1:=WU (WV n o.1);have h2:=E3 l;simp only[cz]
  repeat' split
  all_goals first|exact F5|exact h1|exact h2 _
def WV:∀(n:Nd)(s:L Ty),(fZ n s).2≠14
 |.mk Y N P S M,s=>by
  have h1:=E3 M (s,false);have h2:=Jo M;simp only[fZ]
  repeat' split
  all_goals first|exact h1|exact F5|exact UD h2 _ _ _ _
def Jo:∀(l:L Nd),∀f∈cE l,∀s,(f s).2≠14
 |[],f,h,s=>by simp[cE]at h
 |.mk k n p z a::l,f,h,s=>by
  simp only[cE,afp]at h;rcases h with rfl|h
  exact E3 a (s,false);exact Jo l f h s
end
def UE(Y n p:Int)(s:L UInt8)(k:Nat)(d:Int):gS Y n p s k d≠14:=by unfold gS;omega
mutual
def Nz:∀(n:Nd)(d:Int),eW n d≠14
 |.mk Y n p s M,d=>by have h1:=UE Y n p s M.length d;have h2:=Jp M (d+1);simp only[eW];omega
def Jp:∀(l:L Nd)(d:Int),dx l d≠14
 |[],d=>by simp only[dx];decide
 |x::l,d=>by have h1:=Nz x d;have h2:=Jp l d;simp only[dx];omega
end
def UF(n:Nd):dZ n≠14:=by
 have:=Nz n 1;unfold dZ
 repeat' split
 all_goals first|exact this|decide
def QB{p s:Ty}{n:Nd}:jr p s n≠14:=by
 have h:∀s,(ke n s).2≠14:=λs=>by
  unfold ke
  repeat' split
  all_goals first|exact KV (UF _)|exact F5|exact QA|exact E3 _ _|(show(7:Int)≠14;decide)
 unfold jr;grind
end Go.Proofs
namespace Go.Proofs
open Go.cw
def n0:(0:Int)≠14:=by decide
def n3:(3:Int)≠14:=by decide
def n5:(5:Int)≠14:=by decide
def n7:(7:Int)≠14:=by decide
def Jq:∀(l:L Acc)(k:Nat),k<=eS l k/\eS l k<=k+l.length/\(eS l k<k+l.length->∃a,l[eS l k-k]?=some a/\a.is=0)
 |[],k=>⟨aaV _,aaV _,λh=>by simp[eS]at h⟩
 |a::l,k=>by obtain⟨h1,h2,K⟩:=Jq l (k+1);unfold eS;grind
def uH{l:dX}(h:oY l):4<=eS (l.aS.drop 4) 4/\eS (l.aS.drop 4) 4<=12/\(eS (l.aS.drop 4) 4<12->∃a,l.aS[eS (l.aS.drop 4) 4]?=some a/\a.is=0):=by have T:=h.h12;obtain⟨h1,h2,K⟩:=Jq (l.aS.drop 4) 4;simp_all
def QC{p s:Ty}{n:Nd}(h:jr p s n=0):n = .mk 3 0 0 [] (cG n)/\br p=true/\br s=true:=by
 unfold jr at h;split at h;cases h;rename_i u;simp only[ain,aaN]at u;split at h;omega;rename_i K;simp at K;obtain⟨q1,W,_⟩:=vH K;obtain⟨Y,N,P,S,M⟩:=n;subst W;have h1:=(kf (kH.1 q1).1).1;unfold gS at h1;have h2:N=0/\P=0/\S=[]:=by grind
 obtain⟨rfl,rfl,rfl⟩:=h2;exact⟨Z,u.1.1.1,u.1.1.2⟩
def zi{w:Wk}{o:wH}(M:oY w.l)(W:vE o)(h1:¬((aJ o.t0).2≠0\/(aJ o.t1).2≠0))(h2:jr (aJ o.t0).1 (aJ o.t1).1 o.code=0)(I:¬((gJ (aJ o.t1).1 o.arg).2≠0\/200<gX (gJ (aJ o.t1).1 o.arg).1))(Q:eS (w.l.aS.drop 4) 4≠12) :
  oY (w.l.hD (eS (w.l.aS.drop 4) 4) (newAcc o)):=by
 obtain⟨D,P,U⟩:=uH M;obtain⟨a,T,C⟩:=U ai;have S:=M.get T;have q:a.bX=0:=by rcases zg S with h|h|h<;>omega
 obtain⟨O,K,H⟩:=QC h2;have Y:(gJ (aJ o.t1).1 o.arg).2=0/\gX (gJ (aJ o.t1).1 o.arg).1<=200:=by omega
 have hf:=Jk Y.1;have B:=(cF K).2;have N:=(cF H).2;have J:aO (cG o.code)<=bD o.code:=by obtain⟨k,n,p,s,V⟩:=o.code;simp only[cG,bD];omega
 have G:=W.2.2.2;refine M.set T (Ns Z ⟨afw _,by show(0:Int)<=4000000;decide⟩ D Z ?_ hf Y.2) (Jn ai ai hf Y.2) (by rw[q];rfl) (ji.1 M.good).1.1;show jr (aJ o.t0).1 (aJ o.t1).1 (.mk 3 0 0 [] (cG o.code))=0;grind
def ac7{w:Wk}{o:wH}(M:Ac w)(q:(w.made.length:Int)<=w.done)(T:vE o)(fu:Int):Nx w ([],(orM w fu o).1) (orM w fu o).2:=by
 unfold orM;split
 ·first|exact iQ M n5|exact iQ M n7|exact iQ M n3
 rename_i u;split;exact iQ M QB;rename_i K;simp at K;split
 ·first|exact iQ M n5|exact iQ M n7|exact iQ M n3
 rename_i Y;split
 ·first|exact iQ M n5|exact iQ M n7|exact iQ M n3
 rename_i c4;have h1:=zi M.xh T u K Y c4;split;exact iQ M (Nw _ _ _ _);rename_i S;simp at S;exact⟨⟨(FV h1 S).1,M.bU,M.au,M.done,by show((w.made++[_]).length:Int)<=w.done+1;simp;omega⟩,λy U=>by simp at U,cc,n0,Z,afw _,Z,Z⟩
def yX{w:Wk}{x:w9}(M:Ac w)(q:(w.made.length:Int)<=w.done)(D:xH x):Nx w (gC w x).1 (gC w x).2:=by
 unfold gC;obtain⟨fu,H,v⟩:=x;cases H with
 |none=>exact WS M D _ _
 |some o =>
  dsimp only;split;exact WS M D _ _;split;exact ac7 M q D fu
  first|exact iQ M n5|exact iQ M n7|exact iQ M n3
structure abZ(w:Wk)(o:Int×Wk):Prop where
 ok:Ac o.2
 code:o.1≠14
 bU:o.2.bU+o.2.used=w.bU+w.used
 used:w.used<=o.2.used
 eG:o.2.l.eG=w.l.eG
 made:o.1=0->(o.2.made.length:Int)<=o.2.done
def zb:∀(k:Nat)(w:Wk)(q:List w9),Ac w->(w.made.length:Int)<=w.done->(∀x∈q,xH x)->abZ w (allM k w q)
 |0,w,[],M,D,hq=>⟨M,Wl,Z,afw _,Z,λ_=>D⟩
 |k+1,w,[],M,D,hq=>⟨M,Wl,Z,afw _,Z,λ_=>D⟩
 |0,w,x::q,M,D,hq=>⟨M,by show(7:Int)≠14;decide,rfl,afw _,rfl,λh=>by cases h⟩
 |k+1,w,x::q,M,D,hq=>by
  have h:=yX M D (hq x cc);unfold allM;split;exact⟨M,n7,rfl,afw _,rfl,λh=>by cases h⟩;split;rename_i Y;exact⟨h.ok,h.code,h.bU,h.used,h.eG,λh=>absurd h Y⟩;have h2:Ac {(gC w x).2 with done:=(gC w x).2.done+1}:=⟨h.ok.xh,h.ok.bU,h.ok.au,by have:=h.done;have:=M.done;show 0<=(gC w x).2.done+1/\(gC w x).2.done+1<=24;omega,by have:=h.ok.MF;show((gC w x).2.made.length:Int)<=(gC w x).2.done+1+1;omega⟩;have K:=zb k _ (q++(gC w x).1.1) h2 h.ok.MF λy U=>by
   rcases List.mem_append.1 U with U|U
   simp_all;exact h.items y U
  exact⟨K.ok,K.code,K.bU.trans h.bU,Int.le_trans h.used K.used,K.eG.trans h.eG,K.made⟩
def KW(src:Int):∀(l:List wH)(w:Wk),Ac w->(w.made.length:Int)<=w.done->(∀o∈l,vE o)->abZ w (lZ src w l)
 |[],w,M,q,hl=>⟨M,Wl,Z,afw _,Z,λ_=>q⟩
 |o::r,w,M,q,hl=>by
  have h:=zb 25 w [⟨src,some o,lC⟩] M q λx D=>by rw[aga]at D;subst D;exact hl o cc
  unfold lZ;split;exact h;rename_i c;simp at c;have h2:=KW src r _ h.ok (h.made c) λx D=>hl x K0;exact⟨h2.ok,h2.code,h2.bU.trans h.bU,Int.le_trans h.used h2.used,h2.eG.trans h.eG,h2.made⟩
def qE{l:dX}{b:lN}(h:uw l b=0):rP l=true/\(0<=b.src/\b.src<4)/\((bq l b.src).cnt<bJ/\b.cnt=(bq l b.src).cnt+1)/\(0<=b.jd/\0<=b.bU)/\(b.ops.length≠0/\b.ops.length<=8)/\b.jd<=(bq l b.src).bX:=by
 unfold uw at h
 repeat' split at h
 all_goals first|(simp at h;done)|skip
 simp_all
def aah(l:dX)(b:lN):uw l b≠14:=by
 unfold uw
 repeat' split
 all_goals decide
def BB{l:dX}{b:lN}(I:oY l)(h:uw l b=0):oY (sQ l b):=by
 obtain⟨_,h2,K,V,M,S⟩:=qE h;have T:=ep I.h12 (i:=b.src) ai ai;have Y:=I.get T;have C:=I.size _ (abz T);have U:=(ji.1 I.good).1;unfold sQ;generalize bq l b.src=a at *;refine I.set (b:={a with cnt:=a.cnt+1,bX:=a.bX-b.jd}) T ?_ C (by show l.eG+b.jd+(a.bX-b.jd)=_;omega) ai;have h1:a.is=1:=by rcases zg Y with h|h|h<;>omega
 unfold tQ FK gIn at Y ⊢;simp only[h1]at Y ⊢;simp at Y ⊢;unfold bJ at K;refine⟨⟨⟨ai,ai⟩,ai⟩,?_⟩;have W:=Y.2;exact W
def vF{l:dX}{b:lN}(I:oY l)(h:uw l b=0)(G:b.bU<=3000):Ac (om l b):=by have Y:=(qE h).2.2.2.1;exact⟨BB I h,⟨Y.2,afw _,by show b.bU+0<=3000;omega⟩,⟨afw _,by show(0:Int)<=bJ;decide⟩,⟨afw _,by show(0:Int)<=24;decide⟩,by show((0:Nat):Int)<=0+1;decide⟩
def S3{l:dX}{b:lN}(I:oY l)(G:b.bU<=3000)(U:∀o∈b.ops,vE o):oY (gp l b).1/\(0<=(gp l b).2.bU/\(gp l b).2.bU<=max b.bU 0)/\(gp l b).2.code≠14/\(l.eG<=(gp l b).1.eG/\(gp l b).1.eG-l.eG<=max b.jd 0):=by unfold gp;split;exact⟨I,⟨afw _,by show(0:Int)<=max b.bU 0;omega⟩,aah _ _,afw _,by show l.eG-l.eG<=_;omega⟩;rename_i c;simp at c;have Y:=(qE c).2.2.2.1;have h:=KW b.src b.ops _ (vF I c G) (afw _) U;have h1:(lZ b.src (om l b) b.ops).2.bU+(lZ b.src (om l b) b.ops).2.used=b.bU+0:=h.bU;have h2:0<=(lZ b.src (om l b) b.ops).2.used:=h.used;have K:=h.ok.bU;have W:(lZ b.src (om l b) b.ops).2.l.eG=l.eG+b.jd:=h.eG;split;exact⟨BB I c,⟨h2,acq⟩,h.code,by show l.eG<=l.eG+b.jd;omega,by show l.eG+b.jd-l.eG<=_;omega⟩;exact⟨h.ok.xh,⟨h2,acq⟩,Wl,by show l.eG<=(lZ b.src (om l b) b.ops).2.l.eG;omega,by show(lZ b.src (om l b) b.ops).2.l.eG-l.eG<=_;omega⟩
end Go.Proofs
namespace Go.Proofs
open Go.cw
section
variable {ops : Array Oper}{o : Oper}{rest : L Oper}{env : Env}{acc : L Fp}{Q : Env -> St -> L Fp -> Prop}{bs : L (Nat × L AV)}{ts : L (Nat × Nat)}{us : L Nat}
def Z1(G:cY ops.toList kn env o=some true){f:FuncId}{args:Array Operand}{H:Array TypeId}(T:o.op = .call {callee := .value (.func f),args:=args,argTypes:=H}){w w':Wk}{W:L AV}{r:CV}(hq:eR f w W r w')(q:wO w=none){d:Nat}(P:o.dst=some d)
  {l:L AV}(M:gI (aG Tryz.X env) args.toList=some l){km:Nat}{U:L AV}(Y:l = .ptr km 0::U){N:L AV}(h1:aq km bs=some N)(E:N=wB w 0)(V:∀ts,fq ⟨λk=>aq k [(1000000,km)],λ_=>none⟩ ts W U)(J:Ux us km (200000+d)=true)
  {bs':L (Nat×L AV)}(S:kR [km] bs=bs')
  (O:wO w'=none->me ops rest ((d,.c r)::env) ⟨(km,wB w' 0)::bs',ts,km::us⟩ (⟨[],[km,km,km]⟩::acc) Q)
  (u:∀f',wO w'=some f'->me ops rest ((d,.c r)::env) ⟨(km,wB w' (200000+d))::(200000+d,f'.map AV.c)::bs',ts,km::(200000+d)::us⟩ (⟨[],[km,km,200000+d,km,200000+d]⟩::acc) Q) :
  me ops (o::rest) env ⟨bs,ts,us⟩ acc Q:=by
 unfold eR at hq;rw[q]at hq;have I:=mS w;rw[q]at I;subst Y;exact ah.acX kn G T hq I (mS w') P M h1 E (λts=>⟨_,_,Z,⟨_,fe,Z⟩,V ts⟩) J S O u
def Z2(G:cY ops.toList kn env o=some true){f:FuncId}{args:Array Operand}{H:Array TypeId}(P:o.op = .call {callee := .value (.func f),args:=args,argTypes:=H}){w w':Wk}{V:L AV}{r:CV}(hq:eR f w V r w'){U T:L CV}(q:wO w=some U)(Y:wO w'=some T){d:Nat}(M:o.dst=some d)
  {l:L AV}(K:gI (aG Tryz.X env) args.toList=some l){km fk:Nat}{S:L AV}(W:l = .ptr km 0::S){N C:L AV}(h1:aq km bs=some N)(E:N=wB w fk)(J:aq fk bs=some C)(D:C=U.map AV.c)(B:∀ts,fq ⟨λk=>aq k [(1000000,km),(1000002,fk)],λ_=>none⟩ ts V S)(u:Ux us km (200000+d)=true)(O:Nat.beq km fk=false)
  {bs':L (Nat×L AV)}(iU:kR [km,fk] bs=bs')
  (k1:me ops rest ((d,.c r)::env) ⟨(km,wB w' (200000+d))::(200000+d,T.map AV.c)::bs',ts,km::(200000+d)::us⟩ (⟨[],[km,fk,km,200000+d,km,200000+d]⟩::acc) Q) :
  me ops (o::rest) env ⟨bs,ts,us⟩ acc Q:=by
 unfold eR at hq;rw[q,Y]at hq;have I:=mS w;rw[q]at I;have A:=mS w';rw[Y]at A;subst W;exact ah.acY kn G P hq I A M K h1 E J D (λts=>⟨_,_,Z,⟨_,fe,Z⟩,B ts⟩) u O iU k1
end
def aai{w:Wk}(h:w.made≠[]):wO w=some (bz (cM w.made)):=by
 unfold wO;cases q:w.made with
 |nil=>exact absurd q h
 |cons x r=>rfl
def ae5{w:Wk}{q:L CV}(h:wO w=some q):w.made≠[]:=by intro D;unfold wO at h;rw[D]at h;cases h
def Bw(w:Wk)(x:w9)(to n:Int):(EA w x to n).2.made=w.made:=by
 unfold EA Jf;dsimp only
 repeat' split
 all_goals rfl
def xX{w:Wk}{x:w9}(hw:Ac w)(hx:xH x)(to n:Int):eR 99 w [.c (kO x),.c (ag to),.c (ag n)] (Af (EA w x to n).1) (EA w x to n).2:=by
 have QD:=hw.xh.bX;have T:=hw.xh.h12;have J:=FP w.l T QD x.fu to n;have AA:=hw.bU;have lP:=hw.au;have hA1:=xT x (.mk 1 []) bn hx;have hO1:=BA hx (.mk 1 []);unfold EA;by_cases e:jw w.l x.fu to n≠0
 ·rw[if_pos e];rw[if_neg e]at J;obtain⟨l,Y,done,C,Q,N⟩:=w;have hx1:=x.fu;obtain⟨fu,H,⟨P,K,W,V,U,O,M⟩⟩:=x;exact cn.imp (Nm _) (No l Y done C Q N fu H P K W V U O M to n _ T e J)
 rw[if_neg e];simp only[ne_eq,afF]at e;rw[if_pos e,e]at J;obtain⟨h1,j,rfl,hj,his⟩:=FV hw.xh e;obtain⟨i,_,aF,_,hfi,_,wJ,_,_,_,h0,hM,_⟩:=td T e;have hi:i<12:=by have:=(List.getElem?_eq_some_iff.1 wJ).1;omega
 have I:=ep (l:=Cz w.l x.fu j n) (i:=j) h1.h12 ai ai;rw[abU]at I;generalize Cz w.l x.fu j n=Ll at *;generalize bq Ll j=a at *;have lj:Nat.blt j 12=true:=by rw[afP];exact hj
 have Ny:=h1.get I;have u:=h1.size a (abz I);have NA:=xT x a.param (by have:=u.1;omega) hx;have hO2:=BA hx a.param;obtain⟨l,Y,done,C,Q,N⟩:=w;simp only at *;by_cases E:a.is=1
 ·rw[if_pos E];by_cases c:(ov x (.mk 1 [])).2≠0
  ·rw[if_pos c];generalize ov x (.mk 1 [])=r at *;obtain⟨⟨A,q,r3,r4,r5,r6,r7⟩,er⟩:=r;obtain⟨fu,H,⟨P,K,W,V,U,O,M⟩⟩:=x;obtain⟨D,bX,S,⟨pT,pA⟩,⟨sT,sA⟩,code,⟨k1,k2,k3,k4,k5,k6,k7⟩⟩:=a;exact cn.imp (Nm _) (Np l Y done C Q N fu H P K W V U O M n T Ll h1.h12 j lj D bX S pT pA sT sA code k1 k2 k3 k4 k5 k6 k7 I Tm A q r3 r4 r5 r6 r7 er (by simpa using c) J hA1)
  rw[if_neg c];simp only[ne_eq,afF]at c;generalize ov x (.mk 1 [])=r at *;obtain⟨⟨A,q,r3,r4,r5,r6,r7⟩,er⟩:=r;obtain⟨fu,H,⟨P,K,W,V,U,O,M⟩⟩:=x;obtain⟨D,bX,S,⟨pT,pA⟩,⟨sT,sA⟩,code,⟨k1,k2,k3,k4,k5,k6,k7⟩⟩:=a;simp only at c;subst c;exact cn.imp (Nm _) (Nq l Y done C Q N fu H P K W V U O M n T Ll h1.h12 j lj D bX S pT pA sT sA code k1 k2 k3 k4 k5 k6 k7 I Tm A q r3 r4 r5 r6 r7 J hA1)
 rw[if_neg E];have is2:a.is=2:=by rcases zg Ny with h|h|h<;>omega
 obtain⟨b1,b2,b3,b4,b5,b6⟩:=F0 Ny is2;by_cases c:(ov x a.param).2≠0
 ·rw[if_pos c];generalize ov x a.param=r at *;obtain⟨⟨A,q,r3,r4,r5,r6,r7⟩,er⟩:=r;obtain⟨fu,H,⟨P,K,W,V,U,O,M⟩⟩:=x;obtain⟨D,bX,S,⟨pT,pA⟩,⟨sT,sA⟩,code,⟨k1,k2,k3,k4,k5,k6,k7⟩⟩:=a;exact cn.imp (Nm _) (Qw l Y done C Q N fu H P K W V U O M n T Ll h1.h12 j lj D bX S pT pA sT sA code k1 k2 k3 k4 k5 k6 k7 I Tm A q r3 r4 r5 r6 r7 er (by simpa using c) J NA)
 rw[if_neg c];simp only[ne_eq,afF]at c;rcases hO2 with ⟨_,hf,hz⟩|h
 rotate_left;omega;have hr:=WO (to:=j) (fu:=x.fu) (n:=n) (bX:=a.bX) (code:=a.code) (param:=a.param) (store:=a.store) (v:=(ov x a.param).1) (keep:=a.keep) (g:=Y) ⟨ai,ai⟩ ⟨ai,ai⟩ ⟨h0,hM⟩ b1 b4 hf b5 hz u.2.2 b6 ai
 have B:=Uw j x.fu n a.bX Y (.mk 3 0 0 [] a.code) (by simp only[bD,aay];have:=u.2.1;omega) [.mk 11 [a.param,a.store]] (by simp only[bp,bf];have:=u.1;omega) [.mk 11 0 0 [] [(ov x a.param).1,a.keep] [] []] (λv hv=>by
  rw[aga]at hv;subst hv;have:=u.2.2
  simp only[aH,aI,bp,aO,aay];omega) ai
 have e9:Ni ⟨l,Y,done,C,Q,N⟩ x j n a (ov x a.param).1=Ir j x.fu n a.bX (.mk 3 0 0 [] a.code) [.mk 11 [a.param,a.store]] [.mk 11 0 0 [] [(ov x a.param).1,a.keep] [] []] Y:=rfl;rw[e9];generalize Ir j x.fu n a.bX (.mk 3 0 0 [] a.code) [.mk 11 [a.param,a.store]] [.mk 11 0 0 [] [(ov x a.param).1,a.keep] [] []] Y=r at hr B ⊢;generalize ov x a.param=v at *;obtain⟨⟨A,q,r3,r4,r5,r6,r7⟩,er⟩:=v;simp only at c;subst c;obtain⟨fu,H,⟨P,K,W,V,U,O,M⟩⟩:=x;obtain⟨D,bX,S,⟨pT,pA⟩,⟨sT,sA⟩,code,⟨k1,k2,k3,k4,k5,k6,k7⟩⟩:=a;obtain⟨rc,st,G,g,m⟩:=r;obtain⟨q1,q2,q3,q4⟩:=hr;simp only at q1 q2 q3 q4 E is2;have q3':m<=1152921504606846976:=q3.2;have ahN:Q<=1152921504606846976:=lP.2;have w1:i64.wrap (Y-g)=Y-g:=iB ai ai;have w2:i64.wrap (C+g)=C+g:=iB ai ai;have w3:i64.wrap (1152921504606846976-m)=1152921504606846976-m:=iB ai ai;unfold Jf;dsimp only;by_cases c0:rc≠0
 ·rw[if_pos c0];have hh:=Qx l Y done C Q N fu H P K W V U O M n T Ll h1.h12 j lj D bX S pT pA sT sA code k1 k2 k3 k4 k5 k6 k7 I Tm A q r3 r4 r5 r6 r7 J NA rc g m st G B (by simpa using c0);rw[w1,w2]at hh;exact cn.imp (Nm _) hh
 rw[if_neg c0];simp only[ne_eq,afF]at c0;subst c0;by_cases cm:Q>bJ-m
 ·rw[if_pos cm];have hh:=Qy l Y done C Q N fu H P K W V U O M n T Ll h1.h12 j lj D bX S pT pA sT sA code k1 k2 k3 k4 k5 k6 k7 I Tm A q r3 r4 r5 r6 r7 J NA 0 g m st G B Z (by rw[w3];exact aaX cm);rw[w1,w2]at hh;exact cn.imp (Nm _) hh
 rw[if_neg cm];obtain⟨x',y,e1,e2,e3,e4,e5⟩:=q4 rfl;subst e1;obtain⟨p1,p2,p3,p4,p5,p6,p7⟩:=x';obtain⟨y1,y2,y3,y4,y5,y6,y7⟩:=y;have cm':¬(Q>1152921504606846976-m):=cm;have w4:i64.wrap (Q+m)=Q+m:=iB ai ai;simp only[ez]at e4;have hh:=Nr l Y done C Q N fu H P K W V U O M n T Ll h1.h12 j lj D bX S pT pA sT sA code k1 k2 k3 k4 k5 k6 k7 I Tm A q r3 r4 r5 r6 r7 J NA 0 g m [] G 11 0 0 [] [] [] p1 p2 p3 p4 p5 p6 p7 y1 y2 y3 y4 y5 y6 y7 ai B Z (by rw[w3];exact aaY cm);rw[w1,w2,w4]at hh;exact hh
def EC{w:Wk}{o:wH}(hw:Ac w)(ho:vE o)(fu:Int):eR 100 w [.c (ag fu),.c (.ip (V8 o))] (ag (orM w fu o).1) (orM w fu o).2:=by
 have hP:=jE o.t0 (by have:=ho.2.1;omega);have hS:=jE o.t1 (by have:=ho.2.2.1;omega);have T:=hw.xh.h12;have akx:=hw.MF;have ajz:=hw.done;have k1:=jG (n:=o.t0);have k2:=jG (n:=o.t1);have hnew:=λc1 c2 c3 c4=>zi (w:=w) (o:=o) hw.xh ho c1 c2 c3 c4;have hfree:=uH hw.xh;unfold newAcc at hnew;unfold orM newAcc;generalize aJ o.t0=P at *;generalize aJ o.t1=S at *;obtain⟨⟨G,U⟩,e0⟩:=P;obtain⟨⟨B,K⟩,e1⟩:=S;simp only at *;obtain⟨l,bU,done,C,au,N⟩:=w;obtain⟨Y,to,Q,⟨O,a2,A,M,J⟩,⟨b1,b2,b3,b4,b5⟩,⟨c1,c2,c3,c4,c5⟩,⟨q,E,D,u,I⟩⟩:=o;simp only at *;by_cases x0:e0≠0\/e1≠0
 ·rw[if_pos x0];refine ac0 l bU done C au N fu T Y to Q O a2 A M J b1 b2 b3 b4 b5 c1 c2 c3 c4 c5 q E D u I G U B K e0 e1 hP hS ?_ (e0 != 0) Z ?_
  ·rcases x0 with h|h
   rw[show(e0 != 0)=true by simpa using h];rfl;rw[show(e1 != 0)=true by simpa using h];cases(e0 != 0)<;>rfl
  intro h;rcases x0 with h'|h'
  rw[show(e0 != 0)=true by simpa using h']at h;cases h;simpa using h'
 rw[if_neg x0];have y0:e0=0/\e1=0:=by omega
 obtain⟨rfl,rfl⟩:=y0;have z1:=(cF (k1 Z)).2;have z2:=(cF (k2 Z)).2;have uF:=BC (.mk G U) (.mk B K) (.mk q E D u I) ai (by have:=ho.2.2.2;simp only at this;omega);by_cases x1:jr (.mk G U) (.mk B K) (.mk q E D u I)≠0
 ·rw[if_pos x1];exact ac1 l bU done C au N fu T Y to Q O a2 A M J b1 b2 b3 b4 b5 c1 c2 c3 c4 c5 q E D u I G U B K 0 0 hP hS Z Z _ uF (by simpa using x1)
 rw[if_neg x1];simp only[ne_eq,afF]at x1;rw[x1]at uF;have H:=oB (.mk B K) (.mk O a2 A M J) ai (by have:=ho.1;simp only at this;omega);have zv:=zh (.mk B K) (.mk O a2 A M J);have hsz:=vL (gJ (.mk B K) (.mk O a2 A M J)).1 (by have:=ho.1;simp only at this;omega);generalize gJ (.mk B K) (.mk O a2 A M J)=V at *;obtain⟨⟨r1,r2,r3,r4,r5,r6,r7⟩,ev⟩:=V;simp only at *;by_cases x2:ev≠0
 ·rw[if_pos (.inl x2)];exact aae l bU done C au N fu T Y to Q O a2 A M J b1 b2 b3 b4 b5 c1 c2 c3 c4 c5 q E D u I G U B K 0 0 hP hS Z Z 0 uF Z r1 r2 r3 r4 r5 r6 r7 ev _ H hsz (by simpa using x2)
 have y2:ev=0:=by omega
 subst y2;by_cases x3:200<gX (.mk r1 r2 r3 r4 r5 r6 r7)
 ·rw[if_pos (.inr x3)];exact aaf l bU done C au N fu T Y to Q O a2 A M J b1 b2 b3 b4 b5 c1 c2 c3 c4 c5 q E D u I G U B K 0 0 hP hS Z Z 0 uF Z r1 r2 r3 r4 r5 r6 r7 0 _ H hsz Z (aaX ai)
 rw[if_neg ai];refine ac2 l bU done C au N fu T ai Y to Q O a2 A M J b1 b2 b3 b4 b5 c1 c2 c3 c4 c5 q E D u I G U B K 0 0 hP hS Z Z 0 uF Z r1 r2 r3 r4 r5 r6 r7 0 _ H hsz Z (aaY ai) _ _ ?_ ?_;intro h;rw[if_pos h];exact⟨Z,Z⟩;intro i hi hi2;rw[if_neg ai];have hl:=hnew ai x1 ai ai;rw[hi]at hl ⊢;have hm:=FP _ hl.h12 hl.bX fu i Q;by_cases x4:jw (l.hD i ⟨2,0,0,.mk G U,.mk B K,I,.mk r1 r2 r3 r4 r5 r6 r7⟩) fu i Q=0;have W:jw (l.hD i ⟨2,0,0,.mk G U,.mk B K,cG (.mk q E D u I),.mk r1 r2 r3 r4 r5 r6 r7⟩) fu i Q=0:=x4;rw[if_pos W,W]at hm;rw[if_neg (by rw[W];decide)];exact⟨_,0,(FV hl W).1.h12,hm,.inr ⟨Z,Z,Z⟩⟩;have W:jw (l.hD i ⟨2,0,0,.mk G U,.mk B K,cG (.mk q E D u I),.mk r1 r2 r3 r4 r5 r6 r7⟩) fu i Q≠0:=x4;rw[if_neg W]at hm;rw[if_pos W];exact⟨_,_,hl.h12,hm,.inl ⟨W,Z,Z⟩⟩
end Go.Proofs
namespace Go.Proofs
open Go.cw
def M4{w:Wk}{o:wH}(fu:Int)(h:w.made≠[]):(orM w fu o).2.made≠[]:=by
 unfold orM
 repeat' split
 all_goals first|exact h|(show w.made++_≠[];simp)
def yY{w w':Wk}(h:w.made≠[]->w'.made≠[]):(∃z,wO w=some z)->∃z,wO w'=some z:=λ⟨z,Y⟩=>⟨_,aai (h (ae5 Y))⟩
def S6.imp{f:FuncId}{w w':Wk}{M:L AV}{r O:CV}(B:∀g u,aP g (.c r) u->aP g (.c O) u)(q:eR f w M r w'):eR f w M O w':=cn.imp B q
attribute [local irreducible] AK ah aR bM cX cn bH cN gh dX.cq dX.hD wB eR
def FI{w:Wk}{x:w9}(J:Ac w)(D:xH x):eR 76 w [.c (kO x)] (Af (gC w x).1) (gC w x).2:=by
 obtain⟨fu,op,⟨P,K,V,T,S,Q,O⟩⟩:=x;cases op with
 |none =>
  have hq:=xX J D V K;have W:=yY (w:=w) (w':=(EA w ⟨fu,none,.mk P K V T S Q O⟩ V K).2) (λh=>by rw[Bw];exact h);show eR _ w _ (Af (EA w ⟨fu,none,.mk P K V T S Q O⟩ V K).1) (EA w ⟨fu,none,.mk P K V T S Q O⟩ V K).2;generalize EA w ⟨fu,none,.mk P K V T S Q O⟩ V K=R at *;obtain⟨⟨more,e⟩,w'⟩:=R;cases q:wO w with
  |none =>
   refine ME q func76 call76 λβ hf=>?_
   repeat' (first|exact wr|refine wz ?_|refine Z1 Z Z hq q Z Z Z Z Z (λ_=>by repeat' (first|exact Z|refine Il Z ?_|refine Im Z ?_)) Z Z (λh=>?_) (λf h=>?_))
  |some z =>
   obtain⟨I,U⟩:=W ⟨z,q⟩;refine MG q func76 call76 λβ hf=>?_
   repeat' (first|exact wr|refine wz ?_|refine Z2 Z Z hq q U Z Z Z Z Z Z Z (λ_=>by repeat' (first|exact Z|refine Il Z ?_|refine Im Z ?_)) Z Z Z ?_)
 |some o =>
  by_cases u:o.kind=1
  ·have hq:=xX J D o.to o.oZ;have W:=yY (w:=w) (w':=(EA w ⟨fu,some o,.mk P K V T S Q O⟩ o.to o.oZ).2) (λh=>by rw[Bw];exact h);have N:gC w ⟨fu,some o,.mk P K V T S Q O⟩=EA w ⟨fu,some o,.mk P K V T S Q O⟩ o.to o.oZ:=(by unfold gC;exact if_pos u);rw[N];generalize EA w ⟨fu,some o,.mk P K V T S Q O⟩ o.to o.oZ=R at *;obtain⟨⟨more,e⟩,w'⟩:=R;obtain⟨Y,to,H,⟨G,a2,A,E,C⟩,⟨B,b2,b3,b4,b5⟩,⟨u,M,c3,c4,c5⟩,⟨d1,d2,d3,d4,d5⟩⟩:=o;simp only at *;have k1:(Y==1)=true:=(by simpa using ‹Y=1›);cases q:wO w with
   |none =>
    refine ME q func76 call76 λβ hf=>?_
    repeat' (first|exact wr|refine wz ?_|refine Z1 Z Z hq q Z Z Z Z Z (λ_=>by repeat' (first|exact Z|refine Il Z ?_|refine Im Z ?_)) Z Z (λh=>?_) (λf h=>?_))
   |some z =>
    obtain⟨I,U⟩:=W ⟨z,q⟩;refine MG q func76 call76 λβ hf=>?_
    repeat' (first|exact wr|refine wz ?_|refine Z2 Z Z hq q U Z Z Z Z Z Z Z (λ_=>by repeat' (first|exact Z|refine Il Z ?_|refine Im Z ?_)) Z Z Z ?_)
  have e1:(o.kind==1)=false:=by simpa using u
  by_cases M:o.kind=2
  ·have hq:=EC J D fu;have W:=yY (w:=w) (w':=(orM w fu o).2) (λh=>M4 fu h);have N:gC w ⟨fu,some o,.mk P K V T S Q O⟩=(([],(orM w fu o).1),(orM w fu o).2):=(by unfold gC;dsimp only;rw[if_neg u,if_pos M]);rw[N];generalize orM w fu o=R at *;obtain⟨e,w'⟩:=R;obtain⟨Y,to,H,⟨G,a2,A,E,C⟩,⟨B,b2,b3,b4,b5⟩,⟨u,M,c3,c4,c5⟩,⟨d1,d2,d3,d4,d5⟩⟩:=o;simp only at *;have k2:(Y==2)=true:=(by simpa using ‹Y=2›);refine S6.imp (Nm e) ?_;cases q:wO w with
   |none =>
    refine ME q func76 call76 λβ hf=>?_
    repeat' (first|exact wr|refine wz ?_|refine Z1 Z Z hq q Z Z Z Z Z (λ_=>by repeat' (first|exact Z|refine Il Z ?_|refine Im Z ?_)) Z Z (λh=>?_) (λf h=>?_))
   |some z =>
    obtain⟨I,U⟩:=W ⟨z,q⟩;refine MG q func76 call76 λβ hf=>?_
    repeat' (first|exact wr|refine wz ?_|refine Z2 Z Z hq q U Z Z Z Z Z Z Z (λ_=>by repeat' (first|exact Z|refine Il Z ?_|refine Im Z ?_)) Z Z Z ?_)
  have N:gC w ⟨fu,some o,.mk P K V T S Q O⟩=(([],3),w):=by unfold gC;dsimp only;rw[if_neg u,if_neg M]
  rw[N];obtain⟨Y,to,H,⟨G,a2,A,E,C⟩,⟨B,b2,b3,b4,b5⟩,⟨u,M,c3,c4,c5⟩,⟨d1,d2,d3,d4,d5⟩⟩:=o;simp only at *;have k2:(Y==2)=false:=by simpa using ‹¬Y=2›
  refine S6.imp (Nm 3) ?_;cases q:wO w with
  |none =>
   refine ME q func76 call76 λβ hf=>?_
   repeat' (first|exact wr|refine wz ?_)
  |some z =>
   refine MG q func76 call76 λβ hf=>?_
   repeat' (first|exact wr|refine wz ?_)
end Go.Proofs
