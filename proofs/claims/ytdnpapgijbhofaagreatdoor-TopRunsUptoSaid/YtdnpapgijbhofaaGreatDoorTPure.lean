/- The data of the chain, as plain inductive types, and how they lie in m -/
import Derived.Test.YtdnpapgijbhofaaGreatDoorLibD
import Derived.IntWalk
set_option linter.defProp false
set_option linter.unusedVariables false
set_option linter.unusedSimpArgs false
namespace Go.cw
def iB{n:Int}(h1 : -9223372036854775808<=n)(h2:n<=9223372036854775807):IntKind.i64.wrap n=n:=IntWalk.i64_in n ⟨h1,h2⟩
inductive Ty where
 |mk (T:Int) (args:List Ty)
 deriving Inhabited
inductive Nd where
 |mk (kind n p:Int) (s:List UInt8) (args:List Nd)
 deriving Inhabited
inductive Vl where
 |mk (k n a:Int) (s:List UInt8) (args:List Vl) (types:List Ty) (code:List Nd)
 deriving Inhabited
abbrev ag(n:Int):CV := .int .i64 n
mutual
def cU:Ty->CV
 |.mk T M => .agg [.int .i64 T,.sl 2 (az M)]
def az:L Ty->L CV
 |[]=>[]
 |t::l=>cU t::az l
end
mutual
def aM:Nd->CV
 |.mk Y n p s M => .agg [.int .i64 Y,.int .i64 n,.int .i64 p,.str s,.sl 5 (aD M)]
def aD:L Nd->L CV
 |[]=>[]
 |t::l=>aM t::aD l
end
mutual
def bA:Vl->CV
 |.mk k n a s M V code => .agg [.int .i64 k,.int .i64 n,.int .i64 a,.str s,.sl 7 (aa M),.sl 2 (az V),.sl 5 (aD code)]
def aa:L Vl->L CV
 |[]=>[]
 |t::l=>bA t::aa l
end
def AL:∀(l:L Ty)(i:Nat),(az l)[i]?=l[i]?.map cU
 |[],i=>by simp[az]
 |t::l,0=>by simp[az]
 |t::l,i+1=>by simp[az,AL l i]
def aQ:∀(l:L Ty),(az l).length=l.length
 |[]=>rfl
 |t::l=>by simp[az,aQ l]
def Fw:∀(l:L Nd)(i:Nat),(aD l)[i]?=l[i]?.map aM
 |[],i=>by simp[aD]
 |t::l,0=>by simp[aD]
 |t::l,i+1=>by simp[aD,Fw l i]
def aZ:∀(l:L Nd),(aD l).length=l.length
 |[]=>rfl
 |t::l=>by simp[aD,aZ l]
def kV:∀(l:L Vl)(i:Nat),(aa l)[i]?=l[i]?.map bA
 |[],i=>by simp[aa]
 |t::l,0=>by simp[aa]
 |t::l,i+1=>by simp[aa,kV l i]
def aB:∀(l:L Vl),(aa l).length=l.length
 |[]=>rfl
 |t::l=>by simp[aa,aB l]
abbrev Tl(n:Int):Prop := -9223372036854775808<=n/\n<=9223372036854775807
mutual
def afd:Ty->Prop
 |.mk T M=>Tl T/\Y3 M
def Y3:L Ty->Prop
 |[]=>True
 |t::l=>afd t/\Y3 l
end
mutual
def afe:Nd->Prop
 |.mk Y n p _ M=>Tl Y/\Tl n/\Tl p/\S9 M
def S9:L Nd->Prop
 |[]=>True
 |t::l=>afe t/\S9 l
end
mutual
def aff:Vl->Prop
 |.mk k n a _ M V code=>Tl k/\Tl n/\Tl a/\acv M/\Y3 V/\S9 code
def acv:L Vl->Prop
 |[]=>True
 |t::l=>aff t/\acv l
end
mutual
def bf:Ty->Nat
 |.mk _ M=>bp M+1
def bp:L Ty->Nat
 |[]=>0
 |t::l=>bf t+bp l
end
mutual
def bD:Nd->Nat
 |.mk _ _ _ s M=>s.length+aO M+1
def aO:L Nd->Nat
 |[]=>0
 |t::l=>bD t+aO l
end
mutual
def aH:Vl->Nat
 |.mk _ _ _ s M V code=>s.length+aI M+bp V+aO code+1
def aI:L Vl->Nat
 |[]=>0
 |t::l=>aH t+aI l
end
def So(t:Ty):1<=bf t:=by cases t;simp[bf]
def HK(t:Nd):1<=bD t:=by cases t;simp[bD]
def Sp(t:Vl):1<=aH t:=by cases t;simp[aH]
def kG:∀(l:L Ty),l.length<=bp l
 |[]=>aaV _
 |t::l=>by have:=So t;have:=kG l;simp only[aag,bp];omega
def gu:∀(l:L Nd),l.length<=aO l
 |[]=>aaV _
 |t::l=>by have:=HK t;have:=gu l;simp only[aag,aO];omega
def kI:∀(l:L Vl),l.length<=aI l
 |[]=>aaV _
 |t::l=>by have:=Sp t;have:=kI l;simp only[aag,aI];omega
def cI:∀{l:L Ty}{x:Ty},x∈l->bf x<=bp l
 |[],x,h=>by simp at h
 |t::l,x,h=>by
  simp only[bp];rcases List.mem_cons.1 h with rfl|h
  omega;have:=cI h;omega
def eO:∀{l:L Nd}{x:Nd},x∈l->bD x<=aO l
 |[],x,h=>by simp at h
 |t::l,x,h=>by
  simp only[aO];rcases List.mem_cons.1 h with rfl|h
  omega;have:=eO h;omega
def fC:∀{l:L Vl}{x:Vl},x∈l->aH x<=aI l
 |[],x,h=>by simp at h
 |t::l,x,h=>by
  simp only[aI];rcases List.mem_cons.1 h with rfl|h
  omega;have:=fC h;omega
def arity(t:Int):Int :=
 if t=1\/t=2\/t=3\/t=4\/t=5\/t=6\/t=7\/t=8 then 0 else if t=9\/t=10\/t=15 then 1 else if t=11\/t=12\/t=13\/t=14 then 2 else -1
mutual
def vR(p:Int->Bool):Ty->Bool
 |.mk T M=>p T&&qm p M
def qm(p:Int->Bool):L Ty->Bool
 |[]=>true
 |t::l=>vR p t&&qm p l
end
def BI(t:Int):Bool:=t != 8&&t != 10&&t != 13&&t != 14&&t != 15&&decide (arity t>=0)
def uT(t:Int):Bool:=t != 8&&t != 14&&t != 15
def gl(t:Ty):Bool:=vR BI t
def ig(t:Ty):Bool:=vR uT t
mutual
def DQ(p:Int->Bool):Ty->Bool
 |.mk T M=>if T=14 then true else p T&&F4 p M
def F4(p:Int->Bool):L Ty->Bool
 |[]=>true
 |t::l=>DQ p t&&F4 p l
end
def Xu(t:Int):Bool:=t != 15&&t != 8
def KU(t:Int):Bool:=t != 8
def ni(t:Ty):Bool:=DQ Xu t
def jc(t:Ty):Bool:=DQ KU t
def lX:L Ty->Bool
 |[]=>false
 |t::_=>gl t
mutual
def fM:Ty->Int->Int->Bool×Int
 |.mk T M,d,n=>if d>24\/n+1>300\/arity T≠M.length then(false,n+1)else
  match eL M (d+1) (n+1)with
  |(true,m)=>(if T=13\/T=15 then lX M else true,m)
  |(false,m)=>(false,m)
def eL:L Ty->Int->Int->Bool×Int
 |[],_,n=>(true,n)
 |t::l,d,n=>match fM t d n with
  |(true,m)=>eL l d m
  |(false,m)=>(false,m)
end
def br(t:Ty):Bool:=(fM t 1 0).1
mutual
def uO:∀(t:Ty)(d n:Int),n<=300->n<(fM t d n).2/\(fM t d n).2<=301/\((fM t d n).1=true->(fM t d n).2<=300)
 |.mk T M,d,n,B=>by simp only[fM];split;grind;rename_i h;have Y:=Kd M (d+1) (n+1) ai;grind
def Kd:∀(l:L Ty)(d n:Int),n<=300->n<=(eL l d n).2/\(eL l d n).2<=301/\((eL l d n).1=true->(eL l d n).2<=300)
 |[],d,n,B=>by simp only[eL];exact⟨ai,ai,λ_=>B⟩
 |t::l,d,n,B=>by have Y:=uO t d n B;simp only[eL];split;rename_i m q;rw[q]at Y;have h1:=Y.2.2 Z;have h2:=Y.1;have S:=Kd l d m h1;exact⟨ai,S.2⟩;grind
end
mutual
def gm:Nd->Int->Int->Option Ty×Int
 |.mk Y n p s M,d,left=>if left-1<0\/d>24\/Y≠2\/n≠0\/s≠[]\/arity p≠M.length then(none,left-1)else
  match eB M (d+1) (left-1)with
  |(some l,m)=>(some (.mk p l),m)
  |(none,m)=>(none,m)
def eB:L Nd->Int->Int->Option (L Ty)×Int
 |[],_,left=>(some [],left)
 |x::l,d,left=>match gm x d left with
  |(some t,m)=>match eB l d m with
   |(some r,I)=>(some (t::r),I)
   |(none,I)=>(none,I)
  |(none,m)=>(none,m)
end
mutual
def I9:∀(t:Nd)(d n:Int),0<=n->(gm t d n).2<n /\ -1<=(gm t d n).2/\((gm t d n).1≠none->0<=(gm t d n).2)
 |.mk V T p s M,d,n,B=>by simp only[gm];split;grind;rename_i h;have Y:=HL M (d+1) (n-1) ai;grind
def HL:∀(l:L Nd)(d n:Int),0<=n->(eB l d n).2<=n /\ -1<=(eB l d n).2/\((eB l d n).1≠none->0<=(eB l d n).2)
 |[],d,n,B=>by simp only[eB];exact⟨ai,ai,λ_=>B⟩
 |t::l,d,n,B=>by have Y:=I9 t d n B;simp only[eB];split;rename_i y m q;rw[q]at Y;have h1:=Y.2.2 cc;have h2:=Y.1;simp only at h1 h2;have S:=HL l d m h1;split;rename_i r I W;rw[W]at S;have:=S.1;exact⟨xj,S.2.1,λ_=>S.2.2 cc⟩;rename_i I W;rw[W]at S;have:=S.1;exact⟨xj,S.2.1,cc⟩;rename_i m q;rw[q]at Y;have h1:=Y.1;have h2:=Y.2.1;simp only at h1 h2;exact⟨xj,h2,cc⟩
end
def aJ(n:Nd):Ty×Int:=match (gm n 1 300).1 with
 |some t=>if br t then(t,0)else(.mk 0 [],1)
 |none=>(.mk 0 [],1)
mutual
def U4:Ty->Nd
 |.mk T M => .mk 2 0 T [] (Oy M)
def Oy:L Ty->L Nd
 |[]=>[]
 |t::l=>U4 t::Oy l
end
def vw:Nd := .mk 0 0 0 [] []
def lJ:Ty := .mk 0 []
def af4(t:Ty):Nd×Int:=if br t then(U4 t,0)else(vw,1)
mutual
def cV:Ty->Ty->Bool
 |.mk T l,.mk U r=>T==U&&gP l r
def gP:L Ty->L Ty->Bool
 |[],[]=>true
 |t::l,u::r=>cV t u&&gP l r
 |_,_=>false
end
mutual
def qA:Nd->Nd->Bool
 |.mk a b c s l,.mk B O c' N q=>a==B&&b==O&&c==c'&&s==N&&lI l q
def lI:L Nd->L Nd->Bool
 |[],[]=>true
 |t::l,u::r=>qA t u&&lI l r
 |_,_=>false
end
mutual
def gq:∀(t u:Ty),cV t u=true↔t=u
 |.mk T l,.mk U r=>by simp[cV,l9 l r]
def l9:∀(t u:L Ty),gP t u=true↔t=u
 |[],[]=>by simp[gP]
 |[],_::_=>by simp[gP]
 |_::_,[]=>by simp[gP]
 |t::l,u::r=>by simp[gP,gq t u,l9 l r]
end
mutual
def Sq:∀(t u:Nd),qA t u=true↔t=u
 |.mk a b c s l,.mk B O c' Y N=>by simp[qA,yJ l N,and_assoc]
def yJ:∀(t u:L Nd),lI t u=true↔t=u
 |[],[]=>by simp[lI]
 |[],_::_=>by simp[lI]
 |_::_,[]=>by simp[lI]
 |t::l,u::r=>by simp[lI,Sq t u,yJ l r]
end
mutual
def acw:Ty->Bool
 |.mk T M=>decide (arity T>=0)&&Y4 M
def Y4:L Ty->Bool
 |[]=>true
 |t::l=>acw t&&Y4 l
end
mutual
def acy(Y:Bool)(q:L Int):Ty->Bool
 |.mk T M=>if q.contains T then false else if T=14/\Y=false then true else Y5 Y q M
def Y5(Y:Bool)(q:L Int):L Ty->Bool
 |[]=>true
 |t::l=>acy Y q t&&Y5 Y q l
end
def ajY(t:Ty):Bool:=acw t&&acy true [8,10,13,14,15] t
mutual
def Ao:Ty->Int->Int->Bool×Int
 |.mk T M,d,left=>if d=0\/left=0\/arity T≠M.length then(false,0)else
  match yK M (d-1) (left-1)with
  |(true,m)=>(if T=13\/T=15 then lX M else true,m)
  |(false,_)=>(false,0)
def yK:L Ty->Int->Int->Bool×Int
 |[],_,left=>(true,left)
 |t::l,d,left=>match Ao t d left with
  |(true,m)=>yK l d m
  |(false,_)=>(false,0)
end
mutual
def Px:∀(t:Ty)(d n:Int),d<=25->n<=300->(Ao t (25-d) (300-n)).1=(fM t d n).1/\((fM t d n).1=true->(Ao t (25-d) (300-n)).2=300-(fM t d n).2)
 |.mk T M,d,n,I,B=>by simp only[fM,Ao];by_cases h:d>24\/n+1>300\/arity T≠M.length;grind;rw[if_neg h,if_neg ai];have Y:=Ke M (d+1) (n+1) ai ai;grind
def Ke:∀(l:L Ty)(d n:Int),d<=25->n<=300->(yK l (25-d) (300-n)).1=(eL l d n).1/\((eL l d n).1=true->(yK l (25-d) (300-n)).2=300-(eL l d n).2)
 |[],d,n,I,B=>by simp[eL,yK]
 |t::l,d,n,I,B=>by
  have Y:=Px t d n I B;have W:=uO t d n B;simp only[eL,yK];rcases A:fM t d n with ⟨b,m⟩
  rcases H:Ao t (25-d) (300-n)with ⟨O,P⟩
  rw[A,H]at Y;rw[A]at W;obtain⟨E,N⟩:=Y;simp only at E N W;subst E;cases O;simp;simp only;rw[N rfl];exact Ke l d m I (W.2.2 Z)
end
def Kf(t:Ty):(Ao t 24 300).1=br t:=by have:=(Px t 1 0 ai ai).1;simpa[br]using this
mutual
def Y6:Nd->Int->Int->Ty×Int
 |.mk Y n p s M,d,left=>if Y≠2\/n≠0\/s≠[]\/d=0\/left-1<0 then(lJ,left-1)else
  match Y7 M (d-1) (left-1)with
  |(l,m)=>(.mk p l,m)
def Y7:L Nd->Int->Int->L Ty×Int
 |[],_,left=>([],left)
 |x::l,d,left=>match Y6 x d left with
  |(t,m)=>match Y7 l d m with
   |(r,I)=>(t::r,I)
end
mutual
def iC:Ty->Bool
 |.mk T M=>decide (arity T≠M.length)||oR M
def oR:L Ty->Bool
 |[]=>false
 |t::l=>iC t||oR l
end
mutual
def HM:∀(t:Ty)(d n:Int),iC t=true->(Ao t d n).1=false
 |.mk T M,d,n,h=>by
  simp only[Ao];split;rfl;rename_i Y;simp only[iC]at h;have h2:oR M=true:=by simp_all
  have W:=Kg M (d-1) (n-1) h2;grind
def Kg:∀(l:L Ty)(d n:Int),oR l=true->(yK l d n).1=false
 |[],d,n,h=>by simp[oR]at h
 |t::l,d,n,h=>by
  simp only[oR,Bool.or_eq_true]at h;simp only[yK];rcases B:Ao t d n with ⟨b,m⟩
  cases b;rfl;have h2:oR l=true:=by
   rcases h with h|h
   have:=HM t d n h;rw[B]at this;simp at this;exact h
  exact Kg l d m h2
end
def aiZ(n:Nd):Ty×Int:=if(Ao (Y6 n 24 300).1 24 300).1 then((Y6 n 24 300).1,0)else(.mk 0 [],1)
abbrev bJ:Int:=1152921504606846976
def tL(p:Int):Bool:=decide ((1<=p/\p<=15)\/(20<=p/\p<=28)\/(40<=p/\p<=95))
def gS(Y n p:Int)(s:L UInt8)(k:Nat)(d:Int):Int :=
 if d>24 then 4
 else if Y<0\/Y>3\/Y=2/\tL p=false then 3
 else if Y≠0/\n≠0\/Y≠2/\p≠0\/Y≠1/\s≠[]\/Y<2/\0<k then 1
 else if n < -bJ\/n>bJ then 2
 else if 200<s.length then 4 else 0
mutual
def eW:Nd->Int->Int
 |.mk Y n p s M,d=>if gS Y n p s M.length d=0 then dx M (d+1)else gS Y n p s M.length d
def dx:L Nd->Int->Int
 |[],_=>0
 |x::l,d=>if eW x d=0 then dx l d else eW x d
end
mutual
def many:Nd->Nat
 |.mk _ _ _ _ M=>cP M+1
def cP:L Nd->Nat
 |[]=>0
 |x::l=>many x+cP l
end
def dZ(n:Nd):Int:=if eW n 1=0 then(if 300<many n then 4 else 0)else eW n 1
def DC(c m:Nat):L UInt8 :=
 if m=0 then [byteOf (c:Nat)]else byteOf ((c+128:Nat):Int)::DC (m%128) (m/128)
termination_by m
decreasing_by omega
def kF(n:Int):L UInt8:=DC ((if n<0 then 64 else 0)+n.natAbs%64) (n.natAbs/64)
mutual
def eJ:Nd->L UInt8
 |.mk Y n p s M =>
  if Y=0 then byteOf Y::kF n
  else if Y=1 then byteOf Y::(kF (s.length:Int)++s)
  else if Y=2 then byteOf Y::byteOf p::(kF (M.length:Int)++fK M)
  else byteOf Y::(kF (M.length:Int)++fK M)
def fK:L Nd->L UInt8
 |[]=>[]
 |x::l=>eJ x++fK l
end
def Ms(n:Nd):L UInt8×Int:=if dZ n=0 then(eJ n,0)else([],dZ n)
def sJ:L UInt8->Nat->Nat->Option (Nat×L UInt8)
 |[],_,_=>none
 |b::s,n,sh=>if b.toNat=0\/sh>55 then none
  else if b.toNat>=128 then sJ s (n+b.toNat%128*2^sh) (sh+7)else some (n+b.toNat%128*2^sh,s)
def mP(b:UInt8)(s:L UInt8):Option (Nat×L UInt8):=if b.toNat>=128 then sJ s (b.toNat%64) 6 else some (b.toNat%64,s)
def fL:L UInt8->Option (Int×L UInt8)
 |[]=>none
 |b::s=>match mP b s with
  |none=>none
  |some (n,r)=>if(b.toNat/64%2=1/\n=0)\/n>1152921504606846976 then none else some (if b.toNat/64%2=1 then -(n:Int)else n,r)
def jN(c:Nat)(h:c<256):(byteOf (c:Int)).toNat=c:=by have:=pG (c:Int);rw[show IntKind.u8.wrap (c:Int)=c from by simp[IntKind.wrap,IntKind.bits,IntKind.signed];omega]at this;omega
def mQ(b:UInt8):byteOf ((b.toNat:Nat):Int)=b:=by apply UInt8.toNat_inj.1;rw[jN _ b.toNat_lt]
def nW(c:Nat):DC c 0=[byteOf (c:Nat)]:=by rw[DC];simp
def pR(c m:Nat)(h:m≠0):DC c m=byteOf ((c+128:Nat):Int)::DC (m%128) (m/128):=by rw[DC,if_neg h]
def VI:∀(m c n T:Nat)(r:L UInt8),c<128->c+128*m≠0->T%7=6->(c+128*m)*2^T<=2^60->sJ (DC c m++r) n T=some (n+(c+128*m)*2^T,r):=by
 intro m
 induction m using Nat.strongRecOn with
 |ind m V =>
  intro c n T r I C P U;have S:T<=60:=by have h1:2^T<=2^60:=afC (Nat.le_mul_of_pos_left _ ai) U;exact(Nat.pow_le_pow_iff_right ai).1 h1
  by_cases q:m=0;subst q;rw[nW];simp only[aeN,sJ];rw[jN _ ai,if_neg ai,if_neg ai,ahz I];simp;rw[pR _ _ q];simp only[aeN,sJ];rw[jN _ ai,if_neg ai,if_pos ai];have e:(c+128)%128=c:=by omega
  have Y:m%128+128*(m/128)=m:=by omega
  have W:2^(T+7)=128*2^T:=by rw[Nat.pow_add];omega
  rw[e,V (m/128) ai (m%128) _ _ r ai ai ai (by
   rw[Y,W];refine afC ?_ U;rw[<- Nat.mul_assoc,Nat.mul_comm m 128]
   exact agT _ ai)]
  rw[Y,W];congr 2;rw[agX,aii,<- Nat.mul_assoc,Nat.mul_comm m 128]
def HN:∀(s:L UInt8)(n T v:Nat)(r:L UInt8),sJ s n T=some (v,r)->∃c m,c<128/\c+128*m≠0/\s=DC c m++r/\v=n+(c+128*m)*2^T
 |[],n,T,v,r,h=>by simp[sJ]at h
 |b::s,n,T,v,r,h=>by have U:=b.toNat_lt;simp only[sJ]at h;split at h;simp at h;rename_i S;split at h;rename_i h1;obtain⟨c,m,I,Y,C,N⟩:=HN s _ _ v r h;have W:2^(T+7)=128*2^T:=(by rw[Nat.pow_add];omega);refine⟨b.toNat%128,c+128*m,ai,ai,?_,?_⟩;rw[pR _ _ Y,show(c+128*m)%128=c from by omega,show(c+128*m)/128=m from by omega,show b.toNat%128+128=b.toNat from by omega,mQ,C];rfl;grind;rename_i h1;simp at h;refine⟨b.toNat,0,ai,ai,?_,?_⟩;rw[nW,mQ,h.2];rfl;grind
def tM(n:Int)(r:L UInt8)(h1 : -bJ<=n)(h2:n<=bJ):fL (kF n++r)=some (n,r):=by
 have M:n.natAbs<=1152921504606846976:=by unfold bJ at h1 h2;omega
 unfold kF;generalize C:(if n<0 then 64 else 0:Nat)=sg;have Y:(sg=64/\n<0)\/(sg=0/\0<=n):=by split at C<;>omega
 generalize D:n.natAbs=a at M ⊢;by_cases q:a/64=0
 ·rw[q,nW];simp only[aeN,afM,fL,mP];rw[jN _ ai,if_neg ai];simp only;rw[if_neg ai];simp only[agP,ahr,ahC];split<;>omega
 rw[pR _ _ q];simp only[aeN,fL,mP]
 rw[jN _ ai,if_pos ai,VI _ _ _ _ _ ai ai ai (by
  rw[show a/64%128+128*(a/64/128)=a/64 from by omega];omega)]
 simp only;rw[show a/64%128+128*(a/64/128)=a/64 from by omega];have e:(sg+a%64+128)%64+a/64*2^6=a:=by omega
 rw[e,if_neg ai];simp only[agP,ahr,ahC];split<;>omega
def oS{s:L UInt8}{n:Int}{r:L UInt8}(h:fL s=some (n,r)):s=kF n++r /\ -bJ<=n/\n<=bJ:=by
 cases s with
 |nil=>simp[fL]at h
 |cons b s =>
  have U:=b.toNat_lt;simp only[fL]at h;split at h;simp at h;rename_i v O N;split at h;simp at h;rename_i B;simp only[agP,ahr]at h;obtain⟨h1,rfl⟩:=h;unfold bJ;unfold mP at N;split at N
  ·rename_i Y;obtain⟨c,m,T,W,C,V⟩:=HN _ _ _ _ _ N;have M:n.natAbs=v:=(by split at h1<;>omega);refine⟨?_,adf,adf⟩;unfold kF;rw[M];have E:v/64=c+128*m:=(by omega);have q:v%64=b.toNat%64:=(by omega);rw[E,q,pR _ _ W,show(c+128*m)%128=c from by omega,show(c+128*m)/128=m from by omega,C];have H:(if n<0 then 64 else 0:Nat)+b.toNat%64+128=b.toNat:=by split at h1<;>split<;>omega
   rw[H,mQ];rfl
  rename_i Y;simp at N;obtain⟨N,rfl⟩:=N;have M:n.natAbs=v:=by split at h1<;>omega
  refine⟨?_,adf,adf⟩;unfold kF;rw[M,show v/64=0 from by omega,nW,show v%64=b.toNat%64 from by omega];have H:(if n<0 then 64 else 0:Nat)+b.toNat%64=b.toNat:=by split at h1<;>split<;>omega
  rw[H,mQ];rfl
def Mt{s:L UInt8}{n:Int}{r:L UInt8}(t:L UInt8)(h:fL s=some (n,r)):fL (s++t)=some (n,r++t):=by obtain⟨h1,h2,K⟩:=oS h;rw[h1,afn];exact tM n (r++t) h2 K
inductive Rd (α:Type) where
 |ok (a:α) (s:List UInt8) (left:Nat)
 |no (e:Int)
def oT(f:L UInt8->Nat->Rd Nd):Nat->L UInt8->Nat->Rd (L Nd)
 |0,s,left => .ok [] s left
 |k+1,s,left=>match f s left with
  |.no e => .no e
  |.ok x O Y=>match oT f k O Y with
   |.no e => .no e
   |.ok l K W => .ok (x::l) K W
def qM(f:L UInt8->Nat->Rd Nd)(Y p:Int)(s:L UInt8)(left:Nat):Rd Nd :=
 match fL s with
 |none => .no 1
 |some (k,O)=>if k<0 then .no 1 else match oT f k.toNat O left with
  |.no e => .no e
  |.ok l K W => .ok (.mk Y 0 p [] l) K W
def ue(f:L UInt8->Nat->Rd Nd)(c:Nat)(s:L UInt8)(left:Nat):Rd Nd :=
 if c=0 then(match fL s with
  |none => .no 1
  |some (n,O) => .ok (.mk 0 n 0 [] []) O left)
 else if c=1 then(match fL s with
  |none => .no 1
  |some (n,O)=>if n<0\/n>200\/n>O.length then .no 1 else .ok (.mk 1 0 0 (O.take n.toNat) []) (O.drop n.toNat) left)
 else if c=2 then(match s with
  |[] => .no 1
  |p::O=>if tL p.toNat=true then qM f 2 p.toNat O left else .no 1)
 else if c=3 then qM f 3 0 s left
 else .no 1
def fU:Nat->L UInt8->Nat->Rd Nd
 |0,_,_ => .no 4
 |g+1,s,left=>if left=0 then .no 4 else match s with
  |[] => .no 1
  |c::s'=>ue (fU g) c.toNat s' (left-1)
def fJ(s:L UInt8):Nd×Int:=match fU 24 s 300 with
 |.no e=>(vw,e)
 |.ok n r _=>if r=[]then(n,0)else(vw,1)
def aap(n:Int):kF n≠[]:=by unfold kF;rw[DC];split<;>simp
def Kh:∀l:L Nd,l.length<=cP l
 |[]=>aaV _
 |.mk _ _ _ _ _::l=>by have:=Kh l;simp only[aag,cP,many];omega
def kf{Y n p:Int}{s:L UInt8}{M:L Nd}{d:Int}(h:eW (.mk Y n p s M) d=0):gS Y n p s M.length d=0/\dx M (d+1)=0:=by simp only[eW]at h;omega
def nP{Y n p:Int}{s:L UInt8}{k:Nat}{d:Int}(h:gS Y n p s k d=0) :
  d<=24/\(Y=0\/Y=1\/Y=2/\tL p=true\/Y=3)/\(Y≠0->n=0)/\(Y≠2->p=0)/\(Y≠1->s=[])/\(Y<2->k=0) /\ -bJ<=n/\n<=bJ/\s.length<=200:=by
 unfold gS at h;split at h;omega;split at h;omega;grind
def zN{Y n p:Int}{s:L UInt8}{k:Nat}{d:Int}(C:d<=24)(h1:Y=0\/Y=1\/Y=2/\tL p=true\/Y=3)(h2:Y≠0->n=0)(K:Y≠2->p=0)(W:Y≠1->s=[])(M:Y<2->k=0)(S : -bJ<=n)(I:n<=bJ)(O:s.length<=200):gS Y n p s k d=0:=by unfold gS;grind
def Py{p:Int}(h:tL p=true):1<=p/\p<=95:=by unfold tL at h;have:=aeR h;omega
def Cm:∀(g:Nat)(n:Nd)(r:L UInt8)(left:Nat),left<=300->eW n (25-g)=0->many n<=left->fU g (eJ n++r) left = .ok n r (left-many n)
 |0,.mk Y n p s args,r,left,hl,h,T=>by have:=(nP (kf h).1).1;omega
 |g+1,.mk Y n p s args,r,left,hl,h,T=>by
  obtain⟨h1,h2⟩:=kf h;obtain⟨hd,A,B,S,C,M,Q,P,oX⟩:=nP h1;simp only[many]at T ⊢;have hf:∀(n:Nd)(r:L UInt8)(W:Nat),W<=300->eW n (25-g)=0->many n<=W->fU g (eJ n++r) W = .ok n r (W-many n):=λn r W=>Cm g n r W;have D:∀(l:L Nd)(r:L UInt8)(W:Nat),W<=300->dx l (25-g)=0->cP l<=W->oT (fU g) l.length (fK l++r) W = .ok l r (W-cP l):=by
   intro l
   induction l with
   |nil=>intro r W _ _ _;simp[oT,fK,cP]
   |cons x l H =>
    intro r W O h T;simp only[dx]at h;simp only[cP]at T;have K:eW x (25-g)=0:=(by by_cases J:eW x (25-g)=0;exact J;rw[if_neg J]at h;exact h);rw[if_pos K]at h;simp only[aag,oT,fK,afn,cP];rw[hf x _ W O K ai];simp only;rw[H r _ ai h ai];simp only[Nat.sub_sub]
  have V:∀(Y p:Int),dx args (25-g)=0->qM (fU g) Y p (kF (args.length:Int)++fK args++r) (left-1) = .ok (.mk Y 0 p [] args) r (left-1-cP args):=by intro Y p G;have:=Kh args;unfold qM;rw[afn,tM _ _ gb gb];simp only;rw[if_neg ai,show((args.length:Nat):Int).toNat=args.length from by omega,D args r (left-1) ai G ai]
  have I:dx args (25-g)=0:=by rw[<- h2];congr 1;omega
  have e:left-(cP args+1)=left-1-cP args:=by omega
  rw[e];simp only[fU];rw[if_neg ai];have E:(byteOf 0).toNat=0:=rfl;have u:(byteOf 1).toNat=1:=rfl;have b2:(byteOf 2).toNat=2:=rfl;have b3:(byteOf 3).toNat=3:=rfl;rcases A with rfl|rfl|⟨rfl,U⟩|rfl
  have:=M ai;rw[ahk]at this;subst this;obtain rfl:=S ai;obtain rfl:=C ai;simp only[eJ,if_true,aeN,ue,E];rw[tM _ _ Q P];simp[cP];have:=M ai;rw[ahk]at this;subst this;obtain rfl:=S ai;obtain rfl:=B ai;simp only[eJ,show ¬((1:Int)=0)from by omega,agL,if_true,aeN,ue,u,show ¬((1:Nat)=0)from by omega];rw[afn,tM _ _ gb gb];simp only;rw[if_neg aej];simp[cP];obtain rfl:=B ai;obtain rfl:=C ai;have O2:=Py U;have N:(byteOf p).toNat=p:=(by obtain⟨q,rfl⟩:∃q:Nat,p=q:=⟨p.toNat,ai⟩;rw[jN _ ai]);simp only[eJ,show ¬((2:Int)=0)from by omega,show ¬((2:Int)=1)from by omega,agL,if_true,aeN,ue,b2,show ¬((2:Nat)=0)from by omega,show ¬((2:Nat)=1)from by omega];rw[N,if_pos U,V 2 p I];obtain rfl:=B ai;obtain rfl:=C ai;obtain rfl:=S ai;simp only[eJ,show ¬((3:Int)=0)from by omega,show ¬((3:Int)=1)from by omega,show ¬((3:Int)=2)from by omega,agL,if_true,aeN,ue,b3,show ¬((3:Nat)=0)from by omega,show ¬((3:Nat)=1)from by omega,show ¬((3:Nat)=2)from by omega];rw[V 3 0 I]
def zO:∀(g:Nat)(s:L UInt8)(left:Nat)(n:Nd)(r:L UInt8)(Y:Nat),g<=24->fU g s left = .ok n r Y->s=eJ n++r/\eW n (25-g)=0/\left=Y+many n
 |0,s,left,n,r,Y,_,h=>by simp[fU]at h
 |g+1,s,left,n,r,Y,hg,h=>by
  have B:=λs left n r Y=>zO g s left n r Y ai;have Q:∀(k:Nat)(s:L UInt8)(left:Nat)(l:L Nd)(r:L UInt8)(Y:Nat),oT (fU g) k s left = .ok l r Y->s=fK l++r/\dx l (25-g)=0/\left=Y+cP l/\l.length=k:=by
   intro k
   induction k with
   |zero=>intro s left l r Y h;simp[oT]at h;obtain⟨rfl,rfl,rfl⟩:=h;simp[fK,dx,cP]
   |succ k K =>
    intro s left l r Y h;simp only[oT]at h;split at h;simp at h;rename_i x s1 l1 A;split at h;simp at h;rename_i l2 s2 HO M;simp at h;obtain⟨rfl,rfl,rfl⟩:=h;obtain⟨e1,e2,e3⟩:=B _ _ _ _ _ A;obtain⟨D,T,q,J⟩:=K _ _ _ _ _ M;refine⟨?_,?_,?_,?_⟩;rw[e1,D];simp[fK];simp[dx,e2,T];simp only[cP];omega;simp[J]
  have W:∀(V p:Int)(s:L UInt8)(left:Nat)(n:Nd)(r:L UInt8)(Y:Nat),qM (fU g) V p s left = .ok n r Y->∃l,n = .mk V 0 p [] l/\s=kF (l.length:Int)++fK l++r/\dx l (25-g)=0/\left=Y+cP l:=by intro V p s left n r Y h;unfold qM at h;split at h;simp at h;rename_i k u hk;split at h;simp at h;rename_i FA;split at h;simp at h;rename_i l s2 HO M;simp at h;obtain⟨rfl,rfl,rfl⟩:=h;obtain⟨D,T,q,J⟩:=Q _ _ _ _ _ _ M;obtain⟨P,_,_⟩:=oS hk;refine⟨l,Z,?_,T,q⟩;rw[P,D,J,afn,show((k.toNat:Nat):Int)=k from by omega]
  simp only[fU]at h;split at h;simp at h;rename_i M;cases s with
  |nil=>simp at h
  |cons c s =>
   simp only at h;have N:(25-((g+1:Nat):Int))<=24:=(by omega);have O:(25-((g+1:Nat):Int))+1=25-(g:Int):=(by omega);have U:=mQ c;unfold ue at h;split at h;rename_i I;split at h;simp at h;rename_i v u H;simp at h;obtain⟨rfl,rfl,rfl⟩:=h;obtain⟨P,E,C⟩:=oS H;refine⟨?_,?_,by simp only[many,cP];omega⟩;simp only[eJ,if_true];rw[P,<- U,I];rfl;simp only[eW];rw[if_pos (zN N (.inl Z) cc cc cc cc E C cc)];rfl;rename_i hc0;split at h;rename_i I;split at h;simp at h;rename_i v u H;split at h;simp at h;rename_i MD;simp at h;obtain⟨rfl,rfl,rfl⟩:=h;obtain⟨P,E,C⟩:=oS H;have S:(u.take v.toNat).length=v.toNat:=(by rw[afb];omega);refine⟨?_,?_,by simp only[many,cP];omega⟩;simp only[eJ,show ¬((1:Int)=0)from by omega,agL,if_true];rw[S,show((v.toNat:Nat):Int)=v from by omega,P,<- U,I];simp[afn];simp only[eW];rw[if_pos (zN N (.inr (.inl Z)) cc cc cc cc gb gb (by rw[S];omega))];rfl;rename_i B4;split at h
   ·rename_i I;cases s with
    |nil=>simp at h
    |cons p s =>
     simp only at h;split at h;rename_i hp;obtain⟨l,rfl,D,T,q⟩:=W _ _ _ _ _ _ _ h;have G:=mQ p;refine⟨?_,?_,by simp only[many];omega⟩;simp only[eJ,show ¬((2:Int)=0)from by omega,show ¬((2:Int)=1)from by omega,agL,if_true];rw[D,G,<- U,I];rfl;simp only[eW];rw[if_pos (zN N (.inr (.inr (.inl ⟨Z,hp⟩))) cc cc cc cc gb gb cc),O];exact T;simp at h
   rename_i zD;split at h;rename_i I;obtain⟨l,rfl,D,T,q⟩:=W _ _ _ _ _ _ _ h;refine⟨?_,?_,by simp only[many];omega⟩;simp only[eJ,show ¬((3:Int)=0)from by omega,show ¬((3:Int)=1)from by omega,show ¬((3:Int)=2)from by omega,agL];rw[D,<- U,I];rfl;simp only[eW];rw[if_pos (zN N (.inr (.inr (.inr Z))) cc cc cc cc gb gb cc),O];exact T;simp at h
def Pz{g:Nat}{s:L UInt8}(t:L UInt8){left:Nat}{n:Nd}{r:L UInt8}{Y:Nat}(G:g<=24)(I:left<=300)(h:fU g s left = .ok n r Y):fU g (s++t) left = .ok n (r++t) Y:=by obtain⟨h1,h2,K⟩:=zO g s left n r Y G h;rw[h1,afn,Cm g n (r++t) left I h2 ai,show left-many n=Y from by omega]
def Ki:∀(g:Nat)(s:L UInt8)(left:Nat)(e:Int),g<=24->left<=300->fU g s left = .no e->e=1\/e=4/\∀t,fU g (s++t) left = .no 4
 |0,s,left,e,_,_,h=>by simp[fU]at h;right;exact⟨h.symm,λt=>rfl⟩
 |g+1,s,left,e,hg,aj0,h=>by
  have D:∀(k:Nat)(s:L UInt8)(left:Nat)(e:Int),left<=300->oT (fU g) k s left = .no e->e=1\/e=4/\∀t,oT (fU g) k (s++t) left = .no 4:=by
   intro k
   induction k with
   |zero=>intro s left e _ h;simp[oT]at h
   |succ k S =>
    intro s left e I h;simp only[oT]at h;split at h;rename_i E Y;simp at h;subst h;refine(Ki g s left _ ai I Y).imp id λ⟨h1,h2⟩=>⟨h1,λt=>?_⟩;simp only[oT,h2 t];rename_i x M C O;have J:=(zO g _ _ _ _ _ ai O).2.2;split at h;rename_i E Y;simp at h;subst h;refine(S M C _ ai Y).imp id λ⟨h1,h2⟩=>⟨h1,λt=>?_⟩;simp only[oT,Pz t ai I O,h2 t];simp at h
  have W:∀(V p:Int)(s:L UInt8)(left:Nat)(e:Int),left<=300->qM (fU g) V p s left = .no e->e=1\/e=4/\∀t,qM (fU g) V p (s++t) left = .no 4:=by intro V p s left e I h;unfold qM at h;split at h;simp_all;rename_i k u A;split at h;simp_all;rename_i K;split at h;rename_i E Y;simp at h;subst h;refine(D _ _ _ _ I Y).imp id λ⟨h1,h2⟩=>⟨h1,λt=>?_⟩;unfold qM;rw[Mt t A];simp only;rw[if_neg K,h2 t];simp at h
  simp only[fU]at h;split at h;rename_i U;simp at h;subst h;right;exact⟨Z,λt=>by simp only[fU,if_pos U]⟩;rename_i U;cases s with
  |nil=>simp at h;exact .inl h.symm
  |cons c s =>
   simp only at h;unfold ue at h;split at h;grind;rename_i T;split at h;grind;rename_i N;split at h
   ·rename_i Q;cases s with
    |nil=>simp at h;exact .inl h.symm
    |cons p s =>
     simp only at h;split at h;rename_i B;refine(W _ _ _ _ _ ai h).imp id λ⟨h1,h2⟩=>⟨h1,λt=>?_⟩;simp only[fU,if_neg U,aeN,ue,if_neg T,if_neg N,if_pos Q,if_pos B,h2 t];simp_all
   rename_i Q;split at h;rename_i P;refine(W _ _ _ _ _ ai h).imp id λ⟨h1,h2⟩=>⟨h1,λt=>?_⟩;simp only[fU,if_neg U,aeN,ue,if_neg T,if_neg N,if_neg Q,if_pos P,h2 t];simp_all
def kH{n:Nd}:dZ n=0↔eW n 1=0/\many n<=300:=by unfold dZ;split;omega;rename_i h;simp[h]
def KY{s:L UInt8}(h:(fJ s).2=0):dZ (fJ s).1=0/\eJ (fJ s).1=s:=by unfold fJ at h ⊢;split at h;rename_i e O;subst h;have:=Ki 24 s 300 0 ai ai O;omega;rename_i n r l H;obtain⟨h1,h2,K⟩:=zO 24 _ _ _ _ _ ai H;split at h;rename_i B;simp only[if_pos B];refine⟨kH.2 ⟨h2,ai⟩,by rw[h1,B,aeO]⟩;omega
def NJ{s:L UInt8}(h:(fJ s).2≠0):(fJ s).1=vw:=by unfold fJ at h ⊢;split at h;rfl;grind
end Go.cw
