/- A part of the proof. -/
import Derived.Test.YtpnpbmbdkinajaaGreatDoorChn3G
set_option linter.all false
set_option maxHeartbeats 0
set_option maxRecDepth 100000
open Go.IntKind Go.Proofs.Tryz
namespace Go.Proofs
open Go.cE
mutual
def Hz:∀(n:Nd)(t:Ty),(dW n t).2->fE (dW n t).1
 |.mk T N P S V,t,h=>by
  have H:=Fu V (aL t 0);have Y:=Fv V (aQ t);have U:=HA V;simp only[dW]at h ⊢
  repeat' split at h
  all_goals simp_all [fE,eo,qQ]
  all_goals omega
def HA:∀(l:Θ)(r:Γ),eo (eL l r).1
 |[],[]=>rfl
 |[],_::_=>rfl
 |_::_,[]=>rfl
 |x::l,t::r=>by have Y:=Hz x t;have V:=HA l r;simp only[eL];split;rename_i c;generalize eL l r=q at *;obtain⟨q,b⟩:=q;cases b;rfl;simp only[glue,ahk,aiR,eo,Y c,V,akE];rfl
def Fu:∀(l:Θ)(t:Ty),(eM l t).2->eo (eM l t).1
 |[],t,_=>rfl
 |x::l,t,h=>by simp only[eM,aaI]at h;simp only[eM,eo,Hz x t h.1,Fu l t h.2,akE]
def Fv:∀(l:Θ)(ts:Γ),(eC l ts).2->eo (eC l ts).1
 |[],ts,_=>rfl
 |.mk T n P s Y::l,ts,h=>by simp only[eC,aaI]at h;simp[eC,eo,fE,HA Y ts,Fv l ts h.2]
end
def KX{t:Ty}{n:Nd}(h:(gV t n).2=0):fK t (gV t n).1:=by
 have Y:=(D7 h).1;have V:fE (gV t n).1:=by
  unfold gV at h ⊢
  repeat' split at h
  all_goals simp_all [Hz]
 unfold fK;rw[Y,V];rfl
def KY:∀(l:L Acc)(k i:Nat)(a:Acc),gq k l->l[i]?=some a->vv (k+i) a
 |[],k,i,a,_,h=>by simp at h
 |x::l,k,0,a,hg,h=>by simp at h;subst h;simp only[gq,aaI]at hg;exact hg.1
 |x::l,k,i+1,a,hg,h=>by simp only[gq,aaI]at hg;have:=KY l (k+1) i a hg.2 h;grind
def HB:∀(l:L Acc)(k i:Nat)(b:Acc),gq k l->vv (k+i) b->gq k (l.set i b)
 |[],k,i,b,h,_=>by simpa using h
 |x::l,k,0,b,N,h=>by simp only[gq]at N;simp only[List.set_cons_zero,gq];grind
 |x::l,k,i+1,b,N,h=>by simp only[gq,aaI]at N;simp only[ajY,gq,aaI];exact⟨N.1,HB l (k+1) i b N.2 (by rw[show k+1+i=k+(i+1)by omega];exact h)⟩
def KZ:∀(l:L Acc)(i:Nat)(a b:Acc),l[i]?=some a->lz (l.set i b)=lz l-a.cK+b.cK
 |[],i,a,b,h=>by simp at h
 |x::l,0,a,b,h=>by simp at h;subst h;simp only[List.set_cons_zero,lz];omega
 |x::l,i+1,a,b,h=>by simp only[ajY,lz,KZ l i a b h];omega
def pQ.get{l:eF}(h:pQ l){i:Nat}{a:Acc}(Y:l.aI[i]?=some a):vv i a:=by have:=KY l.aI 0 i a (j7.1 h.good).2.1 Y;simp_all
def pQ.set{l:eF}{i:Nat}{a b:Acc}{f:Int}(h:pQ l)(Y:l.aI[i]?=some a)(U:vv i b)(I:Pr b)(hf:f+b.cK=l.fu+a.cK)(C:0<=f):pQ ⟨l.aI.set i b,f⟩:=by
 obtain⟨S,M,V⟩:=j7.1 h.good;have T:gq 0 (l.aI.set i b):=HB _ _ _ _ M (by rw[ahr];exact U);have P:=KZ l.aI i a b Y;have B:=zx (l.aI.set i b) λx O=>(vZ _ _ T x O).1;unfold Ke at V;refine⟨by show(l.aI.set i b).length=12;rw[akj];exact h.h12,j7.2 ⟨⟨C,?_⟩,T,?_⟩,λx O=>?_⟩;grind;show f+lz (l.aI.set i b)=4000000;omega;rcases List.mem_or_eq_of_mem_set O with h|rfl
 exact pQ.size ‹_› x h;omega
theorem K1{p s:Ty}{c:Θ}{v:Vl}{i b n:Int}{t:Ty}(V:bh p+bh s<=2097152)(U:aP c<=1048576)(hf:fK t v)(Y:iG v<=200):Pr ⟨i,b,n,p,s,c,v⟩:=by refine⟨V,U,?_⟩;have:=D8 hf;grind
theorem zy{j:Nat}{a:Acc}(h:vv j a)(Y:a.is=2):(0<=a.cK/\a.cK<=4000000)/\4<=j/\a.cnt=0/\iY a.param a.store (.mk 3 0 0 [] a.code)=0/\fK a.store a.keep/\iG a.keep<=200:=by unfold vv Ho gIn at h;grind
theorem PR{j:Nat}{a:Acc}(V:a.is=2)(U:0<=a.cK/\a.cK<=4000000)(G:4<=j)(D:a.cnt=0)(B:iY a.param a.store (.mk 3 0 0 [] a.code)=0)(Y:fK a.store a.keep)(W:iG a.keep<=200):vv j a:=by unfold vv Ho gIn;grind
theorem xE{j:Nat}{a:Acc}(h:vv j a):(a.is=0/\a.cK=0/\a.cnt=0/\4<=j)\/(a.is=1/\j<4)\/(a.is=2/\4<=j):=by unfold vv Ho gIn at h;grind
def HC{t:Ty}:∀{l:Ξ}{x:Vl},aS l t->x∈l->bJ x t
 |y::l,x,h,O=>by
  simp only[aS,aaI]at h;rcases List.mem_cons.1 O with rfl|O
  grind;exact HC h.2 O
def HD:∀{l:Ξ}{x:Vl},eo l->x∈l->fE x
 |y::l,x,h,O=>by
  simp only[eo,aaI]at h;rcases List.mem_cons.1 O with rfl|O
  grind;exact HD h.2 O
def YX{p:Ty}{v:Vl}(M:gk p)(F:bJ v p)(E:bJ v (.mk 10 [.mk 8 []])):cP v=[]:=by
 obtain⟨k,n,a,s,J,D,code⟩:=v;obtain⟨T,ts⟩:=p;have I:=(jn E).1;have V:=(jn F).1;simp only[cL]at I V;subst I;subst V;rcases J with _|⟨x,r⟩
 rfl;simp[bJ]at F E;have A:bJ x (.mk 8 []):=by have:=E.2;simp[aS]at this;exact this.2.1
 have P:bJ x (ts.getD 0 kg)=true:=by have:=F.2;simp[aS]at this;exact this.2.1
 obtain⟨k,O,N,K,Q,Y,W⟩:=x;have S:=(jn A).1;have G:=(jn P).1;rcases ts with _|⟨u,ts⟩
 simp only[alr,kg,cL]at S G;omega;obtain⟨U,us⟩:=u;simp only[aaw,cL]at S G;have:U=8:=by omega
 subst this;simp[gk,v8,mg,xF]at M
structure YY(r:SR)(g:Int)(store:Ty):Prop where
 code:r.code=0\/r.code=10\/r.code=11\/r.code=12\/r.code=13
 bC:0<=r.bC/\r.bC<=g
 aj:0<=r.aj/\r.aj<=bL
 ends:r.code=0->∃x y,r.st=[aU x y]/\fK store y=true/\iG y<=200/\(cP x).length<=24/\∀o∈cP x,fK (.mk 8 []) o=true/\iG o<=200
def S0{to dX n cK:Int}{code:Θ}{param store:Ty}{v keep:Vl}{g:Int}(h1:0<=to/\to<12)(h2:0<=dX/\dX<12)(B:0<=n/\n<=bL)(h4:0<=cK/\cK<=4000000)
  (Y:iY param store (.mk 3 0 0 [] code)=0)(C:fK param v)(j:fK store keep)(zv:aG v<=12400000)(zk:aG keep<=12400000)(i:iG keep<=200)(hg:0<=g/\g<=3000) :
  YY (oh to dX n cK (.mk 3 0 0 [] code) [.mk 11 [param,store]] [.mk 11 0 0 [] [v,keep] [] []] g) g store:=by
 unfold iY at Y;split at Y;cases Y;rename_i G;simp only[aku,aaI]at G;split at Y;rename_i c;exact absurd Y c;rename_i T;simp only[ne_eq,ahI]at T;split at Y;cases Y;rename_i f;obtain⟨f1,K,f3⟩:=bW C;obtain⟨d,b,a⟩:=bW j;obtain⟨q1,q2,q3,J,q5⟩:=sr T;have I:=kX (x:=v) (y:=keep) ⟨K,f3⟩ ⟨b,a⟩;have S:fK (.mk 11 [param,store]) (aU v keep):=by unfold fK oJ;simp only[aiK,List.all_nil,ajy]at J;rw[J,I.1,I.2];rfl
 have t:WU to dX n cK (.mk 3 0 0 [] code) [.mk 11 [param,store]] [aU v keep]:=by refine sq.2 ⟨T,Z,?_,?_⟩;have Yp:n<=1152921504606846976:=B.2;unfold qP MG MH;simp;omega;simp only[zf,S,akE]
 have P:VlS [aU v keep]:=λx O=>by rw[ait]at O;subst O;simp only[aU,aG,aH,bf,aP,aav];omega
 have Q:0<=g/\g<=1000000:=by omega
 obtain⟨w1,p⟩:=Mx t P Q
 have wb:=PT (z:=aU v keep) ⟨by show(11:Int)≠10;decide,by show(11:Int)≠13;decide⟩ (left (yh to dX n cK code [aU v keep] g)+1) _ _ (xz t P Q) (AA t Q) ⟨λx O => .inr (List.mem_singleton.1 O),λF hF x O=>by
  rw[List.mem_singleton.1 hF]at O;simp at O⟩
 have e:oh to dX n cK (.mk 3 0 0 [] code) [.mk 11 [param,store]] [.mk 11 0 0 [] [v,keep] [] []] g=oQ (pW to dX n cK (.mk 3 0 0 [] code) [aU v keep] g):=by unfold oh;exact if_pos t
 rw[e];have W:QS (aU v keep) (pW to dX n cK (.mk 3 0 0 [] code) [aU v keep] g).2:=wb;generalize pW to dX n cK (.mk 3 0 0 [] code) [aU v keep] g=o at p W;obtain⟨⟨s1,s2,s3,s4,s5⟩,u,m,w⟩:=p;have sg:o.2.bC=g:=s5;refine⟨?_,⟨u.1,by rw[<- sg];exact u.2⟩,?_,?_⟩
 ·rcases w with ⟨w,_⟩|w|w|⟨w,_⟩|⟨w,_⟩<;>simp only[oQ]<;>omega
 simp only[oQ];split;exact m;exact⟨ai,gn⟩;intro h0;have S3:o.1=0:=h0;rcases w with ⟨_,_,E,w4⟩|w|w|⟨w,_⟩|⟨w,_⟩
 rotate_left;omega;omega;omega;omega;have N:gS (jR (.mk 3 0 0 [] code) [.mk 11 [param,store]]).1.1 [.mk 11 [.mk 10 [.mk 8 []],store]]:=by
  cases hh:gS (jR (.mk 3 0 0 [] code) [.mk 11 [param,store]]).1.1 [.mk 11 [.mk 10 [.mk 8 []],store]]with
  |true=>rfl
  |false=>exact absurd ⟨w4,hh⟩ f
 rw[(lE _ _).1 N]at E;obtain⟨out,q,A,e2,e3⟩:=aK E;obtain rfl:=YZ e3;obtain⟨g1,g2,g3⟩:=bW e2.1;obtain⟨x,y,rfl,⟨D,x2⟩,y1,y2⟩:=mL g2 g3;obtain⟨r,rfl,xl,xa,xb⟩:=oT D x2;have M:∀o∈r,fK (.mk 8 []) o:=λo V=>by unfold fK oJ;rw[HC xa V,HD xb V];rfl
 refine⟨.mk 10 0 0 [] r [] [],y,by simp only[oQ];rw[if_pos S3,A],by unfold fK oJ;rw[d,y1,y2];rfl,?_,(show r.length<=24 from xl),λo V=>⟨M o V,?_⟩⟩
 ·rcases W.1 (aU (.mk 10 0 0 [] r [] []) y) (by rw[A];simp)with h|h
  simp only[aU,iG,jA]at h;omega;simp only[aU,Vl.mk.injEq,List.cons.injEq]at h;rw[h.2.2.2.2.1.2.1];exact i
 rcases W.1 (aU (.mk 10 0 0 [] r [] []) y) (by rw[A];simp)with h|h
 simp only[aU,iG,jA]at h;have:iG o<=jA r:=BI V;omega;simp only[aU,Vl.mk.injEq,List.cons.injEq]at h;have H:=YX G.1.2 K (by rw[<- h.2.2.2.2.1.1];exact D);rw[<- h.2.2.2.2.1.1]at H;simp only[cP]at H;have U:o∈r:=V;rw[H]at U;simp at U
def PU(l:eF)(F T n:Int):jm l F T n≠14:=by
 unfold jm
 repeat' split
 all_goals decide
def AE{x:ur}(O:sn x)(t:Ty):((jY x t).2=0/\fK t (jY x t).1/\aG (jY x t).1<=12400000)\/(jY x t).2=5:=by
 obtain⟨dX,N,v⟩:=x;cases N with
 |none =>
  obtain⟨Y,V,_⟩:fK (.mk 8 []) v/\aG v<=12400000/\4<=dX:=O;obtain⟨n,a,u,us,y,rfl,_,_,_,B⟩:=Hx Y;unfold jY;simp only[Gg,cP,aaw];split;rename_i c;rw[(eD _ _).1 c]at B;refine .inl ⟨Z,B,?_⟩;simp only[aG,aH]at V;grind;omega
 |some o =>
  unfold jY;dsimp only;split;rename_i c;refine .inl ⟨Z,KX c,?_⟩;have Y:=AF t o.arg;have V:bE o.arg<=1048576:=O.1;grind;omega
structure PV(w:Wk)(r:List ur×Int)(w':Wk):Prop where
 ok:rY w'
 items:∀y∈r.1,sn y
 Fs:r.1.length<=24
 code:r.2≠14
 bC:w'.bC+w'.used=w.bC+w.used
 used:w.used<=w'.used
 done:w'.done=w.done
 fu:w'.l.fu=w.l.fu
def jq{w:Wk}(h:rY w){e:Int}(Y:e≠14):PV w ([],e) w:=⟨h,λy V=>by simp at V,by simp,Y,Z,ahS _,Z,Z⟩
def W3{w:Wk}(h:rY w){l:eF}(E:pQ l)(hf:l.fu=w.l.fu):PV w ([],0) {w with l:=l}:=⟨⟨E,h.bC,h.aj,h.done,h.Fs⟩,λy V=>by simp at V,by simp,by decide,Z,ahS _,Z,hf⟩
def Y0{w:Wk}{x:ur}(q:rY w)(O:sn x)(to n:Int):PV w (zh w x to n).1 (zh w x to n).2:=by
 have hg:=q.bC;unfold zh;split;exact jq q (PU _ _ _ _);rename_i e;simp only[ne_eq,ahI]at e;obtain⟨F,j,rfl,hj,I⟩:=xD q.qw e;obtain⟨i,_,aF,_,H,_,E,_,_,_,D,B,_⟩:=AD q.qw.h12 e;have hi:i<12:=by have:=(List.getElem?_eq_some_iff.1 E).1;have:=q.qw.h12;omega
 have V:=gm (l:=rI w.l x.dX j n) (i:=j) F.h12 ai ai;rw[acn]at V;have Y:(rI w.l x.dX j n).fu=w.l.fu:=rfl;generalize rI w.l x.dX j n=Ll at *;generalize aR Ll j=a at *;split
 ·split
  ·rename_i c;rcases AE O (.mk 1 [])with h|h
   exact absurd h.1 c;rw[h];exact jq q bn
  exact W3 q F Y
 rename_i KW;have U:=F.get V;have T:a.is=2:=by rcases xE U with h|h|h<;>omega
 obtain⟨C,u,t,A,m,f⟩:=zy U T;have p:=F.size a (acm V);split
 ·rename_i c;rcases AE O a.param with h|h
  exact absurd h.1 c;rw[h];exact jq q bn
 rename_i c;rcases AE O a.param with ⟨h,hf,P⟩|h
 rotate_left;omega;have S:YY (tf w x j n a (jY x a.param).1) w.bC a.store:=S0 ⟨ai,ai⟩ ⟨ai,ai⟩ ⟨D,B⟩ C A hf m P p.2.2 f ai;generalize tf w x j n a (jY x a.param).1=r at S;obtain⟨r1,r2,r3,d⟩:=S;have Q:=q.aj;unfold Fo;dsimp only;split
 ·exact⟨⟨q.qw,⟨by show 0<=w.bC-r.bC;omega,by show 0<=w.used+r.bC;omega,by show w.bC-r.bC+(w.used+r.bC)<=3000;omega⟩,Q,q.done,q.Fs⟩,λy G=>by simp at G,cS,by show r.code≠14;omega,aaJ,adT,Z,Z⟩
 rename_i N;simp only[ne_eq,ahI]at N;have W:0<=w.bC-r.bC/\0<=w.used+r.bC/\w.bC-r.bC+(w.used+r.bC)<=3000:=by omega
 split
 ·exact⟨⟨q.qw,W,Q,q.done,q.Fs⟩,λy G=>by simp at G,cS,by show(11:Int)≠14;decide,aaJ,adT,Z,Z⟩
 rename_i cm;obtain⟨x',y,b,M,K,e4,e5⟩:=d N;rw[b];simp only[aaw,aay,aU,cP];refine⟨⟨?_,W,⟨by show 0<=w.aj+r.aj;omega,by show w.aj+r.aj<=bL;omega⟩,q.done,q.Fs⟩,λz P=>?_,by rw[ahY];exact e4,W9,aaJ,adT,Z,Y⟩;show pQ ⟨Ll.aI.set j {a with keep:=y},Ll.fu⟩;exact F.set V (PR T C u t A M K) (K1 p.1 p.2.1 M K) Z (j7.1 F.good).1.1;obtain⟨o,ho,rfl⟩:=List.mem_map.1 P;obtain⟨J,f2⟩:=e5 o ho;have:=D8 J;exact⟨J,by show aG o<=12400000;omega,by show(4:Int)<=(j:Int);omega⟩
def n0:(0:Int)≠14:=by decide
def n3:(3:Int)≠14:=by decide
def n5:(5:Int)≠14:=by decide
def n7:(7:Int)≠14:=by decide
def K4:∀(l:L Acc)(k:Nat),k<=fJ l k/\fJ l k<=k+l.length/\(fJ l k<k+l.length->∃a,l[fJ l k-k]?=some a/\a.is=0)
 |[],k=>⟨acd _,acd _,λh=>by simp[fJ]at h⟩
 |a::l,k=>by obtain⟨Y,V,B⟩:=K4 l (k+1);unfold fJ;grind
def v9{l:eF}(h:pQ l):4<=fJ (l.aI.drop 4) 4/\fJ (l.aI.drop 4) 4<=12/\(fJ (l.aI.drop 4) 4<12->∃a,l.aI[fJ (l.aI.drop 4) 4]?=some a/\a.is=0):=by have Q:=h.h12;obtain⟨Y,V,B⟩:=K4 (l.aI.drop 4) 4;simp_all
def S7{p s:Ty}{n:Nd}(h:iY p s n=0):n = .mk 3 0 0 [] (cw n)/\bA p/\bA s:=by
 unfold iY at h;split at h;cases h;rename_i G;simp only[aku,aaI]at G;split at h;omega;rename_i u;simp at u;obtain⟨q1,Q,_⟩:=sr u;obtain⟨T,N,P,S,Y⟩:=n;subst Q;have V:=(kY (lF.1 q1).1).1;unfold iA at V;have U:N=0/\P=0/\S=[]:=by grind
 obtain⟨rfl,rfl,rfl⟩:=U;exact⟨Z,G.1.1.1,G.1.1.2⟩
def we{w:Wk}{o:uz}(q:pQ w.l)(V:vw o)(E:¬((aM o.t0).2≠0\/(aM o.t1).2≠0))(F:iY (aM o.t0).1 (aM o.t1).1 o.code=0)(B:¬((gV (aM o.t1).1 o.arg).2≠0\/200<iG (gV (aM o.t1).1 o.arg).1))(P:fJ (w.l.aI.drop 4) 4≠12) :
  pQ (w.l.iZ (fJ (w.l.aI.drop 4) 4) (newAcc o)):=by
 obtain⟨U,G,C⟩:=v9 q;obtain⟨a,W,A⟩:=C ai;have T:=q.get W;have S:a.cK=0:=by rcases xE T with h|h|h<;>omega
 obtain⟨H,Q,M⟩:=S7 F;have Y:(gV (aM o.t1).1 o.arg).2=0/\iG (gV (aM o.t1).1 o.arg).1<=200:=by omega
 have hf:=KX Y.1;have O:=(bw Q).2;have N:=(bw M).2;have K:aP (cw o.code)<=bE o.code:=by obtain⟨k,n,p,s,I⟩:=o.code;simp only[cw,bE];omega
 have J:=V.2.2.2;refine q.set W (PR Z ⟨ahS _,by show(0:Int)<=4000000;decide⟩ U Z ?_ hf Y.2) (K1 ai ai hf Y.2) (by rw[S];rfl) (j7.1 q.good).1.1;show iY (aM o.t0).1 (aM o.t1).1 (.mk 3 0 0 [] (cw o.code))=0;grind
def afF{w:Wk}{o:uz}(q:rY w)(W:(w.made.length:Int)<=w.done)(Y:vw o)(dX:Int):PV w ([],(orM w dX o).1) (orM w dX o).2:=by
 unfold orM;split
 ·first|exact jq q n5|exact jq q n7|exact jq q n3
 rename_i G;split;exact jq q S6;rename_i u;simp at u;split
 ·first|exact jq q n5|exact jq q n7|exact jq q n3
 rename_i B;split
 ·first|exact jq q n5|exact jq q n7|exact jq q n3
 rename_i c4;have U:=we q.qw Y G u B c4;split;exact jq q (PU _ _ _ _);rename_i p;simp at p;exact⟨⟨(xD U p).1,q.bC,q.aj,q.done,by show((w.made++[_]).length:Int)<=w.done+1;simp;omega⟩,λy V=>by simp at V,cS,n0,Z,ahS _,Z,Z⟩
def qy{w:Wk}{x:ur}(q:rY w)(Y:(w.made.length:Int)<=w.done)(O:sn x):PV w (dG w x).1 (dG w x).2:=by
 unfold dG;obtain⟨dX,N,v⟩:=x;cases N with
 |none=>exact Y0 q O _ _
 |some o =>
  dsimp only;split;exact Y0 q O _ _;split;exact afF q Y O dX
  first|exact jq q n5|exact jq q n7|exact jq q n3
structure aer(w:Wk)(o:Int×Wk):Prop where
 ok:rY o.2
 code:o.1≠14
 bC:o.2.bC+o.2.used=w.bC+w.used
 used:w.used<=o.2.used
 fu:o.2.l.fu=w.l.fu
 made:o.1=0->(o.2.made.length:Int)<=o.2.done
def xy:∀(k:Nat)(w:Wk)(q:List ur),rY w->(w.made.length:Int)<=w.done->(∀x∈q,sn x)->aer w (allM k w q)
 |0,w,[],D,Y,U=>⟨D,W9,Z,ahS _,Z,λ_=>Y⟩
 |k+1,w,[],D,Y,U=>⟨D,W9,Z,ahS _,Z,λ_=>Y⟩
 |0,w,x::q,D,Y,U=>⟨D,by show(7:Int)≠14;decide,rfl,ahS _,rfl,λh=>by cases h⟩
 |k+1,w,x::q,D,Y,U=>by
  have h:=qy D Y (U x cS);unfold allM;split;exact⟨D,n7,rfl,ahS _,rfl,λh=>by cases h⟩;split;rename_i u;exact⟨h.ok,h.code,h.bC,h.used,h.fu,λh=>absurd h u⟩;have T:rY {(dG w x).2 with done:=(dG w x).2.done+1}:=⟨h.ok.qw,h.ok.bC,h.ok.aj,by have:=h.done;have:=D.done;show 0<=(dG w x).2.done+1/\(dG w x).2.done+1<=24;omega,by have:=h.ok.Fs;show((dG w x).2.made.length:Int)<=(dG w x).2.done+1+1;omega⟩;have B:=xy k _ (q++(dG w x).1.1) T h.ok.Fs λy V=>by
   rcases List.mem_append.1 V with V|V
   simp_all;exact h.items y V
  exact⟨B.ok,B.code,B.bC.trans h.bC,Int.le_trans h.used B.used,B.fu.trans h.fu,B.made⟩
def MJ(src:Int):∀(l:List uz)(w:Wk),rY w->(w.made.length:Int)<=w.done->(∀o∈l,vw o)->aer w (jd src w l)
 |[],w,q,Y,hl=>⟨q,W9,Z,ahS _,Z,λ_=>Y⟩
 |o::r,w,q,Y,hl=>by
  have h:=xy 25 w [⟨src,some o,jl⟩] q Y λx O=>by rw[ait]at O;subst O;exact hl o cS
  unfold jd;split;exact h;rename_i c;simp at c;have V:=MJ src r _ h.ok (h.made c) λx O=>hl x Ko;exact⟨V.ok,V.code,V.bC.trans h.bC,Int.le_trans h.used V.used,V.fu.trans h.fu,V.made⟩
def xx{l:eF}{b:sK}(h:xu l b=0):tg l/\(0<=b.src/\b.src<4)/\((aR l b.src).cnt<bL/\b.cnt=(aR l b.src).cnt+1)/\(0<=b.rH/\0<=b.bC)/\(b.ops.length≠0/\b.ops.length<=8)/\b.rH<=(aR l b.src).cK:=by
 unfold xu at h
 repeat' split at h
 all_goals first|(simp at h;done)|skip
 simp_all
def acN(l:eF)(b:sK):xu l b≠14:=by
 unfold xu
 repeat' split
 all_goals decide
def GH{l:eF}{b:sK}(E:pQ l)(h:xu l b=0):pQ (yZ l b):=by
 obtain⟨_,O,B,T,S,M⟩:=xx h;have W:=gm E.h12 (i:=b.src) ai ai;have Y:=E.get W;have I:=E.size _ (acm W);have V:=(j7.1 E.good).1;unfold yZ;generalize aR l b.src=a at *;refine E.set (b:={a with cnt:=a.cnt+1,cK:=a.cK-b.rH}) W ?_ I (by show l.fu+b.rH+(a.cK-b.rH)=_;omega) ai;have P:a.is=1:=by rcases xE Y with h|h|h<;>omega
 unfold vv Ho gIn at Y ⊢;simp only[P]at Y ⊢;simp at Y ⊢;unfold bL at B;refine⟨⟨⟨ai,ai⟩,ai⟩,?_⟩;have U:=Y.2;exact U
def uE{l:eF}{b:sK}(E:pQ l)(h:xu l b=0)(N:b.bC<=3000):rY (mF l b):=by have Y:=(xx h).2.2.2.1;exact⟨GH E h,⟨Y.2,ahS _,by show b.bC+0<=3000;omega⟩,⟨ahS _,by show(0:Int)<=bL;decide⟩,⟨ahS _,by show(0:Int)<=24;decide⟩,by show((0:Nat):Int)<=0+1;decide⟩
def acA{l:eF}{b:sK}(E:pQ l)(N:b.bC<=3000)(U:∀o∈b.ops,vw o):pQ (iV l b).1/\(0<=(iV l b).2.bC/\(iV l b).2.bC<=max b.bC 0)/\(iV l b).2.code≠14/\(l.fu<=(iV l b).1.fu/\(iV l b).1.fu-l.fu<=max b.rH 0):=by unfold iV;split;exact⟨E,⟨ahS _,by show(0:Int)<=max b.bC 0;omega⟩,acN _ _,ahS _,by show l.fu-l.fu<=_;omega⟩;rename_i c;simp at c;have W:=(xx c).2.2.2.1;have h:=MJ b.src b.ops _ (uE E c N) (ahS _) U;have T:(jd b.src (mF l b) b.ops).2.bC+(jd b.src (mF l b) b.ops).2.used=b.bC+0:=h.bC;have V:0<=(jd b.src (mF l b) b.ops).2.used:=h.used;have B:=h.ok.bC;have Y:(jd b.src (mF l b) b.ops).2.l.fu=l.fu+b.rH:=h.fu;split;exact⟨GH E c,⟨V,aeq⟩,h.code,by show l.fu<=l.fu+b.rH;omega,by show l.fu+b.rH-l.fu<=_;omega⟩;exact⟨h.ok.qw,⟨V,aeq⟩,W9,by show l.fu<=(jd b.src (mF l b) b.ops).2.l.fu;omega,by show(jd b.src (mF l b) b.ops).2.l.fu-l.fu<=_;omega⟩
def pQ.xd{l}(h:pQ l):af 22 [.agg (di l)] (.bool true):=by have V:=WN l h.h12 (λa Y=>by have:=h.size a Y;unfold Pr at this;unfold Aw;omega);rw[h.good]at V;exact V
def xq:∀l,(fz l).length=l.length
 |[]=>rfl
 |x::l=>by simp only[fz,aat,xq l]
attribute [local irreducible] AK ag aZ bS de cA cq di gL eF.cF eF.iZ wB gl
def wq{p:Prop}(h:p:=by exact uQ hf Z Z Z):p:=h
def Hl{a b}(h:a=true):(bif a then true else b)=true:=by rw[h];rfl
def vY{a b c}(h:a=false)(Y:b=c):(bif a then true else b)=c:=by rw[h,Y];rfl
def yT{b c}(Y:b=c):(bif false then true else b)=c:=Y
def WO{l}(E:pQ l)(b):af 17 [.agg (di l),qc b] (ah (xu l b)):=by
 have hG:=E.xd;have D:=E.h12;obtain⟨src,S,U,O,ops⟩:=b;have zl:=xq ops;unfold xu;rw[if_neg (by rw[E.good];decide)];simp only;by_cases z:src<0\/4<=src
 ·rw[if_pos z];by_cases T:src<0
  ·have A:=ace T;have y:=Hl (b:=decide (src>=4)) A;refine qn func17 call17 λF hf=>?_
   repeat' (first|exact wq|refine wz ?_|(intro h;rw[h]))
  have A:=acf T;have Q:decide (src>=4):=ace ai;have y:=vY A Q;have j:=yT Q;refine qn func17 call17 λF hf=>?_
  repeat' (first|exact wq|refine wz ?_|(intro h;rw[h]))
 rw[if_neg z];have A:decide (src<0)=false:=acf ai;have Q:decide (src>=4)=false:=acf ai;have y:=vY A Q;have j:=yT Q;obtain⟨i,rfl⟩:=aiV (show 0<=src by omega);have hi:i<12:=by omega
 have lj:Nat.blt i 12:=by rw[ajd];exact hi
 have H:=gm (l:=l) (i:=i) D ai ai;rw[acn]at H;have f:=E.cK _ (acm H);have d:0<=(aR l i).cnt/\(aR l i).cnt<=1152921504606846976:=by have h:=E.get H;unfold vv Ho at h;simp at h;omega
 generalize aR l i=a at *;obtain⟨is,cK,Y,⟨pT,pA⟩,⟨sT,sA⟩,code,⟨k1,k2,k3,k4,k5,k6,k7⟩⟩:=a;simp only at f d ⊢;obtain⟨qq,C⟩:=oM H;have d1:=C 1 _ Z;have d2:=C 2 _ Z;clear C;have P:i64.wrap (Y+1)=Y+1:=gW ai ai;by_cases u:bL<=Y\/S≠Y+1
 ·rw[if_pos u];by_cases T:bL<=Y
  ·have K:decide (Y>=1152921504606846976):=ace T;have n3:=Hl (b:=(S != i64.wrap (Y+1))) K;refine qn func17 call17 λF hf=>?_
   repeat' (first|exact wq|refine wz ?_|(intro h;rw[h]))
  have K:decide (Y>=1152921504606846976)=false:=acf T;have G:(S != i64.wrap (Y+1)):=by rw[P];simpa using u.resolve_left T
  have n3:=vY K G;have n4:=yT G;refine qn func17 call17 λF hf=>?_
  repeat' (first|exact wq|refine wz ?_|(intro h;rw[h]))
 rw[if_neg u];have K:decide (Y>=1152921504606846976)=false:=acf (λh=>u (.inl h));have G:(S != i64.wrap (Y+1))=false:=by rw[P];simpa using λh=>u (.inr h)
 have n3:=vY K G;have n4:=yT G;by_cases x:U<0\/O<0\/1048576<O
 ·rw[if_pos x];by_cases c4:U<0
  ·have q:=ace c4;have n5:=Hl (b:=decide (O<0)) q;have B:=Hl (b:=decide (O>1048576)) n5;have n7:(bif true then true else decide (O>1048576))=true:=rfl;refine qn func17 call17 λF hf=>?_
   repeat' (first|exact wq|refine wz ?_|(intro h;rw[h]))
  have q:=acf c4;by_cases t:O<0
  ·have M:=ace t;have n5:=vY q M;have W:=yT M;have B:=Hl (b:=decide (O>1048576)) n5;have N:=Hl (b:=decide (O>1048576)) W;refine qn func17 call17 λF hf=>?_
   repeat' (first|exact wq|refine wz ?_|(intro h;rw[h]))
  have M:=acf t;have V:decide (O>1048576):=ace ai;have n5:=vY q M;have W:=yT M;have B:=vY n5 V;have N:=vY W V;have n7:=yT V;refine qn func17 call17 λF hf=>?_
  repeat' (first|exact wq|refine wz ?_|(intro h;rw[h]))
 rw[if_neg x];have q:decide (U<0)=false:=acf ai;have M:decide (O<0)=false:=acf ai;have V:decide (O>1048576)=false:=acf ai;have n5:=vY q M;have W:=yT M;have B:=vY n5 V;have N:=vY W V;have n7:=yT V;by_cases r:ops.length=0\/8<ops.length
 ·rw[if_pos r];by_cases c7:ops.length=0
  ·have J:((((fz ops).length:Nat):Int)==0):=(by rw[akO];omega);have o:=Hl (b:=decide ((((fz ops).length:Nat):Int)>8)) J;refine qn func17 call17 λF hf=>?_
   repeat' (first|exact wq|refine wz ?_|(intro h;rw[h]))
  have J:((((fz ops).length:Nat):Int)==0)=false:=by rw[ajC];omega
  have I:decide ((((fz ops).length:Nat):Int)>8):=ace ai;have o:=vY J I;have n9:=yT I;refine qn func17 call17 λF hf=>?_
  repeat' (first|exact wq|refine wz ?_|(intro h;rw[h]))
 rw[if_neg r];have J:((((fz ops).length:Nat):Int)==0)=false:=by rw[ajC];omega
 have I:decide ((((fz ops).length:Nat):Int)>8)=false:=acf ai;have o:=vY J I;have n9:=yT I;by_cases p:cK<U
 ·rw[if_pos p];have ea:decide (U>cK):=ace p;refine qn func17 call17 λF hf=>?_
  repeat' (first|exact wq|refine wz ?_|(intro h;rw[h]))
 rw[if_neg p];have ea:decide (U>cK)=false:=acf p;refine qn func17 call17 λF hf=>?_
 repeat' (first|exact wq|refine wz ?_|(intro h;rw[h]))
end Go.Proofs
namespace Go.Proofs
open Go.cE
def JO{l:eF}{i:Nat}:aR l i=l.aI.getD i s9:=by unfold aR;rw[acn]
def DJ{l:eF}{f i:Nat}{z:Int}(h:i<l.aI.length):aR (l.cF f z) i=if f=i then(aR l i).cF z else aR l i:=by have Y:=zm h;have V:=zo l.aI f i z;show(kW l.aI f z).getD i s9=_;rw[List.getD,V,Y];split<;>rfl
def qo{l:eF}{k i:Nat}{a:Acc}(h:i<l.aI.length):aR (l.iZ k a) i=if k=i then a else aR l i:=by have Y:=zm h;show(l.aI.set k a).getD i s9=_;rw[List.getD,List.getElem?_set,Y];split;simp_all;rfl
def OR{l:eF}{F T n:Int}(h:pQ l)(e:jm l F T n=0){i:Nat}(H:i<12):aR (rI l F T n) i=(aR l i).cF ((aR l i).cK-(if(i:Int)=F then n else 0)+(if(i:Int)=T then n else 0)):=by
 have Q:=h.h12;obtain⟨f,t,D,aT,rfl,rfl,_⟩:=AD Q e;have Y:(l.cF f ((aR l f).cK-n)).aI.length=12:=tj Q;unfold rI;rw[acn,acn,DJ ai];have O:aR (l.cF f ((aR l f).cK-n)) i=(aR l i).cF ((aR l i).cK-(if(i:Int)=(f:Int)then n else 0)):=by rw[DJ ai];by_cases c:f=i;simp_all;rw[if_neg c,if_neg (show ¬(i:Int)=(f:Int)by omega),Int.sub_zero];rfl
 by_cases c:t=i;subst c;rw[if_pos Z,O,if_pos (show(t:Int)=(t:Int)from Z)];rfl;grind
def apf(src c:Int)(l:eF)(_:L Int)(m:eF)(_:L Int):Prop:=∀i:Nat,i<4->(aR l i).cK-(if(i:Int)=src then c else 0)<=(aR m i).cK
def OV{l:eF}{b:sK}(E:pQ l)(h:xu l b=0){i:Nat}(H:i<12):aR (yZ l b) i=if(i:Int)=b.src then {aR l i with cnt:=(aR l i).cnt+1,cK:=(aR l i).cK-b.rH}else aR l i:=by
 have Y:=(xx h).2.1;have Q:=E.h12;obtain⟨s,P⟩:=aiV Y.1;have e:aR (yZ l b) i=aR (l.iZ s {aR l s with cnt:=(aR l s).cnt+1,cK:=(aR l s).cK-b.rH}) i:=by unfold yZ;rw[P,acn];rfl
 rw[e,qo ai,P];grind
end Go.Proofs
