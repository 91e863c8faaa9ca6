/- A part of the proof. -/
import Derived.Test.YtpnpbmbdkinajaaGreatDoorEndG
import Derived.Test.YtpnpbmbdkinajaaGreatDoorHeadG
import Derived.Test.YtpnpbmbdkinajaaGreatDoorVRefG
set_option linter.all false
set_option maxHeartbeats 0
set_option maxRecDepth 100000
open Go.IntKind Go.Proofs.Tryz
namespace Go.cE
def At(w a:Nat):(BitVec.ofInt w a).toNat=a%2^w:=by rw[BitVec.ofInt_natCast,BitVec.toNat_ofNat]
def Vq{a:Nat}(h:a<9223372036854775808)(k)(I:k<63):i64.wrap (((BitVec.ofInt 64 a)&&&(BitVec.ofInt 64 (2^k-1:Nat))).toNat)=(a%2^k:Nat):=by have V:(2:Nat)^k<=2^62:=akP ai ai;have B:0<(2:Nat)^k:=Nat.pow_pos ai;rw[BitVec.toNat_and,At,At,akd (show a<2^64 by omega),akd (show 2^k-1<2^64 by omega),akZ];have Y:a%2^k<2^k:=Nat.mod_lt _ B;exact gW ai ai
def Pe{a:Nat}(h:a<9223372036854775808):i64.wrap (((BitVec.ofInt 64 a)&&&(BitVec.ofInt 64 63)).toNat)=(a%64:Nat):=Vq h 6 (by omega)
def Yw{a:Nat}(h:a<9223372036854775808):i64.wrap (((BitVec.ofInt 64 a)&&&(BitVec.ofInt 64 127)).toNat)=(a%128:Nat):=Vq h 7 (by omega)
def SF{a:Nat}(h:a<256):IntKind.u8.wrap a=a:=by have:=qb (a:Int);rw[kE a h]at this;exact this.symm
def afb:∀c:Fin 128,IntKind.u8.wrap (((BitVec.ofInt 8 (c.val:Nat))|||(BitVec.ofInt 8 128)).toNat)=(c.val+128:Nat):=by decide +kernel
def ahn{c:Nat}(h:c<128):IntKind.u8.wrap (((BitVec.ofInt 8 c)|||(BitVec.ofInt 8 128)).toNat)=(c+128:Nat):=afb ⟨c,h⟩
def aci:∀x:Fin 64,IntKind.u8.wrap (((BitVec.ofInt 8 64)|||(BitVec.ofInt 8 (x.val:Nat))).toNat)=(64+x.val:Nat):=by decide +kernel
def or_none:∀x:Fin 64,IntKind.u8.wrap (((BitVec.ofInt 8 0)|||(BitVec.ofInt 8 (x.val:Nat))).toNat)=(0+x.val:Nat):=by decide +kernel
def WD:∀c:Fin 256,(i64.wrap (((BitVec.ofInt 64 (c.val:Nat))&&&(BitVec.ofInt 64 64)).toNat) != 0)=decide (c.val/64%2=1):=by decide +kernel
def Yx{c:Nat}(h:c<256):(i64.wrap (((BitVec.ofInt 64 c)&&&(BitVec.ofInt 64 64)).toNat) != 0)=decide (c/64%2=1):=WD ⟨c,h⟩
def Yy{n x T:Nat}(I:n<2^T)(O:x<128)(Y:T<=55):i64.wrap (((BitVec.ofInt 64 n)|||(BitVec.ofInt 64 (i64.wrap (x*2^(min T 64))))).toNat)=(n+x*2^T:Nat):=by
 have V:(2:Nat)^T<=2^55:=akP ai Y;have B:x*2^T<=127*2^55:=Nat.mul_le_mul ai V;have e:(x:Int)*2^(min T 64)=((x*2^T:Nat):Int):=by rw[alf ai];simp
 rw[e,gW (n:=((x*2^T:Nat):Int)) ai ai,BitVec.toNat_or,At,At,akd (show n<2^64 by omega),akd (show x*2^T<2^64 by omega)];rw[Nat.or_comm,<- Nat.shiftLeft_eq,<- Nat.shiftLeft_add_eq_or_of_lt I x,Nat.shiftLeft_eq,Nat.add_comm];exact gW ai ai
def Vr(a k:Nat):(a:Int).fdiv (2^k)=(a/2^k:Nat):=by rw[akl _ (by exact Int.le_of_lt (Int.pow_pos ai))];simp
def Sm(r:CR):Prop:=∀t∈r.1.1,bh t<=2000
def KO(s:Γ):Prop:=∀t∈s,bh t<=2000
def iE{s:Γ}(h:KO s):Sm (fO s):=h
def bZ(e:Int):Sm (br e):=λt C=>by simp[br]at C
def bG{p:Prop}[Decidable p]{a b:CR}(h1:Sm a)(h2:Sm b):Sm (if p then a else b):=by grind
def eA{t:Ty}{s:Γ}(V:bh t<=2000)(Y:KO s):KO (t::s):=λx O=>by
 rcases List.mem_cons.1 O with rfl|O
 omega;exact Y x O
def vu{s:Γ}(h:um s):KO s:=λt C=>by have:=(h t C).2;omega
def DZ{a b:Γ}(Y:KO a)(V:KO b):KO (a++b):=λx O=>by
 rcases List.mem_append.1 O with O|O
 exact Y x O;exact V x O
def yS{a b:CR}(Y:Sm a)(U:Sm b):Sm (cJ a b):=by refine bG (bZ _) (bG (bZ _) (bG U (bG Y (bZ _))))
def lJ(a:Ty)(i:Nat):bh (aL a i)<=bh a:=by
 obtain⟨T,l⟩:=a;show bh (l.getD i kg)<=_;rw[aiC];cases h:l[i]? with
 |none=>simp only[Option.getD_none,kg,bh,bf];omega
 |some x =>
  have:=cN (acm h);simp only[akG,bh];omega
def Fj(a:Ty):bf (aQ a)+1=bh a:=by obtain⟨T,l⟩:=a;rfl
def Av{s:Γ}(h:∀t∈s,bh t<=300)(i:Nat):bh (s.getD i kg)<=300:=by
 rw[aiC];cases p:s[i]? with
 |none=>simp only[Option.getD_none,kg,bh,bf];omega
 |some x=>exact h x (acm p)
def CC:∀(p:Δ)(l:Θ)(V r:Γ),um V->lq p l V=some r->um r
 |[],l,V,r,h,e=>by simp only[lq]at e;simp at e;subst e;exact h
 |w::p,[],V,r,h,e=>by simp only[lq]at e;simp at e;subst e;exact h
 |w::p,.mk kind N P S U::l,V,r,h,e=>by
  simp only[lq]at e;split at e;split at e;exact CC p l V r h e;cases e;split at e;split at e;exact CC p l V r h e;cases e;split at e
  ·split at e
   ·rename_i B Y;refine CC p l _ r (λt C=>?_) e;rcases List.mem_append.1 C with C|C
    exact h t C;simp at C;subst C;exact bw (ki Y)
   cases e
  exact CC p l V r h e
def YH{P:Int}{V:Θ}{Y:Γ}(h:bB P V=some Y):um Y:=by unfold bB at h;split at h;cases h;exact CC _ _ _ _ Vu h
def l8{P:Int}{U:Θ}{Y:Γ}(h:bB P U=some Y):Y.length<=U.length:=by
 unfold bB at h;split at h;cases h;have:∀(K:Δ)(l:Θ)(V r:Γ),lq K l V=some r->r.length<=V.length+l.length:=by
  intro K
  induction K with
  |nil=>intro l V r e;simp only[lq]at e;simp at e;subst e;omega
  |cons w K S =>
   intro l V r e;cases l with
   |nil=>simp only[lq]at e;simp at e;subst e;omega
   |cons x l =>
    obtain⟨k,n,p,s,T⟩:=x;simp only[lq]at e;grind
 grind
def afp{l:Γ}(h:bf l<=2000):KO l:=λt C=>by have:=cN C;omega
def acp(P:Int)(V:Θ)(s:Γ)(Y:um s):Sm (iK P V s):=by
 have A:=vu Y;have N:=λi=>Av (λt C=>(Y t C).2) (s:=s) i;refine bG ?_ (bG ?_ (bG ?_ (bG ?_ (bG ?_ (bZ _)))))
 ·rcases s with _|⟨a,r⟩
  exact bZ _;exact iE (λt C=>A t (aix _ C))
 ·rcases s with _|⟨a,_|⟨b,r⟩⟩
  exact bZ _;exact bZ _;exact iE (eA (A b cS) (eA (A a cS) (λt C=>A t afv)))
 exact bG (iE (eA (by have:=N (DX (V.getD 0 rX)-1).toNat;omega) A)) (bZ _);refine bG (iE (eA (by have:=N (DX (V.getD 0 rX)).toNat;omega) (DZ ?_ ?_))) (bZ _);exact λt C=>A t (ajR C);exact λt C=>A t (aiW C);rcases s with _|⟨a,r⟩
 exact bZ _;refine bG (iE (DZ ?_ (eA (A a cS) ?_))) (bZ _);exact λt C=>A t (aix _ (ajR C));exact λt C=>A t (aix _ (aiW C))
def YI(P:Int)(O:L (Γ->CR))(Q s:Γ)(Y:um s)(B:um Q)(D:∀i W,KO W->Sm (dQ O i W)):Sm (dh P O Q s):=by
 have C:=vu Y;have N:=λi=>Av (λt h=>(B t h).2) (s:=Q) i;have M:=N 0;refine bG (iE (eA j0 C)) (bG (iE (eA j0 C)) ?_);rcases s with _|⟨a,r⟩
 exact bZ _;have U:=(Y a cS).2;have V:KO r:=λt h=>C t ri;have T:=lJ a 0;have A:=lJ a 1;have u:=Fj a;refine bG (iE (eA j0 V)) (bG (iE (eA j0 V)) (bG (iE (eA j0 V)) (bG ?_ (bG ?_ (bG ?_ (bG ?_ (bG ?_ (bG ?_ (bG ?_ (bG ?_ (bZ _)))))))))))
 ·rcases r with _|⟨b,q⟩
  exact bZ _;have S:=(Y b cS).2;exact iE (eA j0 (λt h=>V t ri))
 exact bG (iE (DZ (afp ai) V)) (bZ _);exact bG (iE (eA ai V)) (bZ _);exact bG (iE (eA ai V)) (bZ _)
 ·rcases r with _|⟨b,q⟩
  exact bZ _;exact bG (iE V) (bZ _)
 exact bG (yS (D _ _ (eA ai V)) (D _ _ (eA ai V))) (bZ _);exact bG (yS (D _ _ V) (D _ _ (eA ai V))) (bZ _);exact bG (yS (D _ _ (eA ai (eA ai V))) (D _ _ V)) (bZ _)
def YJ(P:Int)(N:L (Γ->CR))(O s:Γ)(Y:um s)(B:um O)(E:O.length<=2)(D:∀i W,KO W->Sm (dQ N i W)):Sm (jc P N O s):=by
 have C:=vu Y;have U:bf O<=600:=by
  rcases O with _|⟨a,_|⟨b,_|⟨c,l⟩⟩⟩
  simp[bf];have:=(B a cS).2;simp only[bf];omega;have h1:=(B a cS).2;have h2:=(B b cS).2;simp only[bf];omega;grind
 refine bG (bG (iE (eA acP C)) (bZ _)) (bG ?_ (bG ?_ (bG ?_ (bG ?_ (bZ _)))))
 ·rcases s with _|⟨a,r⟩
  exact bZ _;exact bG (iE (eA aey (λt h=>C t ri))) (bZ _)
 ·rcases s with _|⟨a,r⟩
  exact bZ _;have V:KO r:=λt h=>C t ri;have T:=(Y a cS).2;have S:=lJ a 0;have u:=Fj a;refine bG (yS (D _ _ (eA ?_ V)) (iE V)) (bZ _);split;simp only[bh];omega;omega
 ·rcases s with _|⟨a,_|⟨b,q⟩⟩
  exact bZ _;exact bZ _;have Q:=(Y b cS).2;have A:=lJ b 1;exact bG (iE (eA j0 (λt h=>C t ri))) (bZ _)
 rcases s with _|⟨a,_|⟨b,_|⟨c,q⟩⟩⟩
 exact bZ _;exact bZ _;exact bZ _;exact bG (iE (λt h=>C t (by simp at h ⊢;rcases h with h|h<;>simp[h]))) (bZ _)
def SL(P:Int)(O:Θ)(Q:L (Γ->CR))(S s:Γ)(Y:um s)(B:um S)(E:S.length<=2)(D:∀i W,KO W->Sm (dQ Q i W)):Sm (dY P O Q S s):=by
 have C:=vu Y;have U:bf S<=600:=by
  rcases S with _|⟨a,_|⟨b,_|⟨c,l⟩⟩⟩
  simp[bf];have:=(B a cS).2;simp only[bf];omega;have h1:=(B a cS).2;have h2:=(B b cS).2;simp only[bf];omega;grind
 refine bG (bG (bZ _) (bG (bZ _) (iE (eA acP C)))) (bG ?_ (bG ?_ (bG ?_ (bG ?_ (bZ _)))))
 ·rcases s with _|⟨a,r⟩
  exact bZ _;have V:KO r:=λt h=>C t ri;exact bG (yS (D _ _ V) (D _ _ V)) (bZ _)
 ·rcases s with _|⟨a,r⟩
  exact bZ _;have V:KO r:=λt h=>C t ri;exact bG (bG (bZ _) (iE V)) (bZ _)
 ·rcases s with _|⟨a,_|⟨b,q⟩⟩
  exact bZ _;exact bZ _;have T:=(Y b cS).2;have A:=lJ b 1;exact bG (iE (eA ai (λt h=>C t ri))) (bZ _)
 rcases s with _|⟨a,r⟩
 exact bZ _;have V:KO r:=λt h=>C t ri;exact bG (bZ _) (bG (bZ _) (iE (eA (C a cS) (D 0 r V))))
def SM(P:Int)(s:Γ)(Y:um s):Sm (eU P s):=by
 have C:=vu Y;unfold eU;rcases s with _|⟨a,_|⟨b,q⟩⟩
 all_goals
  repeat' (first|refine bG ?_ ?_|exact bZ _|refine iE (eA aey ?_)|exact λt h=>C t ri|(intro t h;simp at h))
def acq(P:Int)(U s:Γ)(Y:um s)(B:um U):Sm (kj P U s):=by
 have C:=vu Y;have T:=Av (λt h=>(B t h).2) (s:=U) 0;unfold kj;rcases s with _|⟨a,r⟩
 exact bZ _;have V:KO r:=λt h=>C t ri
 refine bG ?_ (bG (bG (iE (eA aey V)) (bZ _)) (bG (bG (iE C) (bZ _)) (bG ?_ (bG ?_ (bG (bG (iE (eA aey V)) (bZ _))
  (bG (bG (iE (eA j0 V)) (bZ _)) (bG (bG (λt h=>by simp at h) (bZ _)) (bZ _))))))))
 ·rcases r with _|⟨b,q⟩
  exact bZ _;exact bG (iE (eA aey (λt h=>V t ri))) (bZ _)
 ·rcases r with _|⟨b,q⟩
  exact bZ _;exact bG (iE V) (bZ _)
 rcases r with _|⟨b,q⟩
 exact bZ _;exact bG (iE V) (bZ _)
def YK(P:Int)(U s:Γ)(Y:um s):Sm (iL P U s):=by
 have C:=vu Y;refine bG (iE (eA aey C)) (bG (iE (eA aey C)) ?_);rcases s with _|⟨a,r⟩
 exact bZ _;have W:=(Y a cS).2;have B:=lJ a 0;have V:KO r:=λt h=>C t ri;refine bG ?_ (bG ?_ (bG ?_ (bG ?_ (bG ?_ (bZ _)))))
 ·rcases r with _|⟨b,q⟩
  exact bZ _;exact ag8
 exact bG (iE (eA j0 C)) (bZ _)
 ·rcases r with _|⟨b,q⟩
  exact bZ _;exact ag8
 exact bG (iE (eA j0 V)) (bZ _);rcases r with _|⟨b,_|⟨c,q⟩⟩
 exact bZ _;exact bZ _;exact ag8
def SN:∀(l:Θ)(o:Γ×Bool),KO o.1->Sm (bU l o)
 |[],o,h=>by simp only[bU];exact h
 |n::l,o,h=>by refine bG (bZ _) ?_;by_cases h2:(nH (gf n o.1)).2≠0;rw[if_pos h2];exact bZ _;rw[if_neg h2];obtain⟨T,Y,I,N⟩:=vW (r:=gf n o.1) VK;rw[Y];exact SN l _ (vu (vX N))
def Hi(x:Nd)(l:Θ)(i:Nat)(s:Γ):dQ (b8 (x::l)) i s=match i with|0=>bU (cw x) (s,false)|i+1=>dQ (b8 l) i s:=by rw[Fk];cases i<;>simp[dQ]
def CD:∀(l:Θ)(i:Nat)(Y:Γ),KO Y->Sm (dQ (b8 l) i Y)
 |[],i,Y,h=>by simp only[dQ];exact bZ _
 |x::l,0,Y,h=>by rw[Hi];exact SN _ _ h
 |x::l,i+1,Y,h=>by rw[Hi];exact CD l i Y h
def WL{P:Int}{U:Θ}{V:Γ}(h:bB P U=some V):V.length<=2:=by
 have T:=l8 h;by_cases Y:P=66;subst Y;obtain⟨x,y,N,p,S,Q,t,u,rfl,rfl,_⟩:=KP h rfl;simp;have O:(iq P).length<=2:=by unfold iq;grind
 unfold bB at h;grind
def YL(P:Int)(V:Θ)(U s:Γ)(Y:um s)(hf:bB P V=some U):Sm (mJ P V (b8 V) U s):=by
 have C:=YH hf;have E:=WL hf;have N:=Av (λt h=>(C t h).2) (s:=U) 0
 refine bG (acp _ _ _ Y) (bG (bG (iE (eA ai (vu Y))) (bZ _)) (bG (YI _ _ _ _ Y C (CD V)) (bG (YJ _ _ _ _ Y C E (CD V))
  (bG (SL _ _ _ _ _ Y C E (CD V)) (bG (SM _ _ Y) (bG (acq _ _ _ Y C) (YK _ _ _ Y)))))))
def acr(n:Nd)(s:Γ)(Y:um s):Sm (gf n s):=by
 obtain⟨T,N,P,S,V⟩:=n;refine bG (SN _ _ (vu Y)) (bG (bZ _) ?_);cases hf:bB P V with
 |none=>exact bZ _
 |some U=>exact YL P V U s Y hf
end Go.cE
namespace Go.Proofs
open Go.cE
def b9(Y:Ψ)(l:Δ)(b:UInt8)(z:Int)(h:z=(b.toNat:Int)):Y++cU l++[CV.int .u8 z]=Y++cU (l++[b]):=by simp_all
def JQ:∀(k m c:Nat),m<128^k->(E9 c m).length<=k+1
 |0,m,c,h=>by
  obtain rfl:m=0:=by simpa using h
  rw[oI];simp
 |k+1,m,c,h=>by by_cases Y:m=0;subst Y;rw[oI];simp;rw[qt _ _ Y];have:=JQ k (m/128) (m%128) (by rw[Nat.pow_succ]at h;omega);simp_all
def uj{n:Int}(Y : -bL<=n)(V:n<=bL):(lC n).length<=10:=by refine JQ 9 _ _ ?_;grind
attribute [local irreducible] AK ag aZ bS
def Se{Y:Ψ}{V:Δ}{c:Nat}(h:c<128):Y++cU V++[CV.int .u8 (IntKind.u8.wrap (((BitVec.ofInt 8 (c:Int))|||(BitVec.ofInt 8 128)).toNat))]=Y++cU (V++[Go.cE.byteOf ((c+128:Nat):Int)]):=by refine b9 Y V _ _ ?_;rw[ahn h,kE _ ai]
def ad8{n:Int}(Y : -bL<=n)(V:n<=bL)(I:n<0):IntKind.u8.wrap (((BitVec.ofInt 8 64)|||(BitVec.ofInt 8 (IntKind.u8.wrap (i64.wrap (((BitVec.ofInt 64 (i64.wrap (0-n)))&&&(BitVec.ofInt 64 63)).toNat))))).toNat)=((64+n.natAbs%64:Nat):Int):=by unfold bL at Y V;rw[gW (n:=0-n) ai ai,show 0-n=(n.natAbs:Int)from by omega,Pe ai,SF (a:=n.natAbs%64) ai];exact aci ⟨n.natAbs%64,ai⟩
def abF{n:Int}(Y : -bL<=n)(V:n<=bL)(I:n<0):(i64.wrap (0-n)).fdiv (2^(min 6 64))=((n.natAbs/64:Nat):Int):=by unfold bL at Y V;rw[gW (n:=0-n) ai ai,show 0-n=(n.natAbs:Int)from by omega];grind
def ad9{n:Int}(Y : -bL<=n)(V:n<=bL)(I:¬n<0):IntKind.u8.wrap (((BitVec.ofInt 8 0)|||(BitVec.ofInt 8 (IntKind.u8.wrap (i64.wrap (((BitVec.ofInt 64 n)&&&(BitVec.ofInt 64 63)).toNat))))).toNat)=((0+n.natAbs%64:Nat):Int):=by unfold bL at Y V;obtain⟨a,rfl⟩:∃a:Nat,n=a:=⟨n.toNat,ai⟩;rw[Pe ai,SF (a:=a%64) ai];exact or_none ⟨a%64,ai⟩
def abG{n:Int}(Y : -bL<=n)(V:n<=bL)(I:¬n<0):n.fdiv (2^(min 6 64))=((n.natAbs/64:Nat):Int):=by grind
def abH{m:Nat}(h:m<9223372036854775808):IntKind.u8.wrap (i64.wrap (((BitVec.ofInt 64 (m:Int))&&&(BitVec.ofInt 64 127)).toNat))=((m%128:Nat):Int):=by rw[Yw h,SF ai]
def A7(rows:Ψ)(n:Int)(Q : -bL<=n)(P:n<=bL)(E:rows.length<=1099511627776) :
  iJ 169 [.v (.own 1 rows),.v (.c (.int .i64 n))] [.own 1 (rows++cU (lC n))] []:=by
 have S:n.natAbs<=1152921504606846976:=by unfold bL at Q P;omega
 by_cases I:n<0
 ·have A:decide (n<0):=ace I;refine en func169 call169 [(0,.own (.tok 1000000 0) 1 (rows)),(1,Υ n)] [] [(1000000,0)] [1000000] λO hf=>?_
  repeat' (first|refine rG ?_|refine ze ?_ ?_|(intro h;first|(cases h;done)|rw[h]|skip)|(refine uA Z ?_ ?_<;>(try (show(_:Nat)*_<=_;dsimp only))))
  refine AK.dg (α:=Nat×Nat×Δ) (λz=>z.1<128/\z.2.1<=1152921504606846976/\z.2.2.length<=10/\lC n=z.2.2++E9 z.1 z.2.1) (λz=>z.2.1)
   (λz=>[(5,.c (.int .u8 z.1)),(1,Υ z.2.1),(0,.own (.tok 1000000 0) 1 (rows++cU z.2.2))]) (λ_=>[]) (λ_=>[(1000000,0)]) [1000000] (64+n.natAbs%64,n.natAbs/64,[])
   ⟨by show 64+n.natAbs%64<128;omega,by show n.natAbs/64<=_;omega,cS,by unfold lC;rw[if_pos I];rfl⟩ ⟨.inl (ahm (λz=>some (AV.c (CV.int .u8 z))) (ad8 Q P I)),.inl (ahm (λz=>some (AV.c (CV.int .i64 z))) (abF Q P I)),.inl (ahm (λl=>some (AV.own (.tok 1000000 0) 1 l)) (ahq rows).symm),trivial⟩ trivial ⟨Z,trivial⟩ Z Z Z ?_
  rintro⟨c,m,acc⟩ ⟨D,U,T,W⟩ ih;simp only at D U T W;by_cases Y:m=0
  ·have G:decide ((m:Int)>0)=false:=acf ai;rw[Y,oI]at W;clear ih
   repeat' (first|refine rG ?_|refine ze ?_ ?_|(intro h;first|(cases h;done)|rw[h]|skip)|(refine uA Z ?_ ?_<;>(try (show(_:Nat)*_<=_;dsimp only))))
   simp only[acg,ahY,aat,aav];omega;show(_:L LV)=_;rw[W];exact ahf
  have G:decide ((m:Int)>0):=ace ai;rw[qt _ _ Y]at W;have V:=uj Q P;rw[W]at V;simp only[acg,aat]at V
  repeat' (first|refine rG ?_|refine ze ?_ ?_|(intro h;first|(cases h;done)|rw[h]|skip)|(refine uA Z ?_ ?_<;>(try (show(_:Nat)*_<=_;dsimp only))))
  simp only[acg,ahY,aat,aav];omega;refine AK.gK [] [(1000000,(0,some 1000000))] (env':=[(5,.c (.int .u8 ((m%128:Nat):Int))),(1,Υ ((m/128:Nat):Int)),(0,.own (.tok 1000000 0) 1 (rows++cU (acc++[Go.cE.byteOf ((c+128:Nat):Int)])))])
   (bs':=[]) (ts':=[(1000000,0)]) (us':=[1000000])
   ⟨⟨_,Z,.inl (ahm (λz=>AV.c (CV.int .u8 z)) (abH (m:=m) ai))⟩,⟨_,Z,.inl (ahm (λz=>AV.c (CV.int .i64 z)) (Vr m 7))⟩,⟨_,Z,⟨_,Z,.inr ⟨_,_,Z,Z,ahm (AV.own (.tok 1000000 1) 1) (Se D)⟩⟩⟩,trivial⟩ trivial Z ?_
  refine ih (m%128,m/128,acc++[Go.cE.byteOf ((c+128:Nat):Int)]) ⟨by show m%128<128;omega,by show m/128<=_;omega,yd,by show lC n=_;rw[W];simp⟩ (by show m/128<m;omega)
 have A:decide (n<0)=false:=acf I;refine en func169 call169 [(0,.own (.tok 1000000 0) 1 (rows)),(1,Υ n)] [] [(1000000,0)] [1000000] λO hf=>?_
 repeat' (first|refine rG ?_|refine ze ?_ ?_|(intro h;first|(cases h;done)|rw[h]|skip)|(refine uA Z ?_ ?_<;>(try (show(_:Nat)*_<=_;dsimp only))))
 refine AK.dg (α:=Nat×Nat×Δ) (λz=>z.1<128/\z.2.1<=1152921504606846976/\z.2.2.length<=10/\lC n=z.2.2++E9 z.1 z.2.1) (λz=>z.2.1)
  (λz=>[(5,.c (.int .u8 z.1)),(1,Υ z.2.1),(0,.own (.tok 1000000 0) 1 (rows++cU z.2.2))]) (λ_=>[]) (λ_=>[(1000000,0)]) [1000000] (0+n.natAbs%64,n.natAbs/64,[])
  ⟨by show 0+n.natAbs%64<128;omega,by show n.natAbs/64<=_;omega,cS,by unfold lC;rw[if_neg I];rfl⟩ ⟨.inl (ahm (λz=>some (AV.c (CV.int .u8 z))) (ad9 Q P I)),.inl (ahm (λz=>some (AV.c (CV.int .i64 z))) (abG Q P I)),.inl (ahm (λl=>some (AV.own (.tok 1000000 0) 1 l)) (ahq rows).symm),trivial⟩ trivial ⟨Z,trivial⟩ Z Z Z ?_
 rintro⟨c,m,acc⟩ ⟨D,U,T,W⟩ ih;simp only at D U T W;by_cases Y:m=0
 ·have G:decide ((m:Int)>0)=false:=acf ai;rw[Y,oI]at W;clear ih
  repeat' (first|refine rG ?_|refine ze ?_ ?_|(intro h;first|(cases h;done)|rw[h]|skip)|(refine uA Z ?_ ?_<;>(try (show(_:Nat)*_<=_;dsimp only))))
  simp only[acg,ahY,aat,aav];omega;show(_:L LV)=_;rw[W];exact ahf
 have G:decide ((m:Int)>0):=ace ai;rw[qt _ _ Y]at W;have V:=uj Q P;rw[W]at V;simp only[acg,aat]at V
 repeat' (first|refine rG ?_|refine ze ?_ ?_|(intro h;first|(cases h;done)|rw[h]|skip)|(refine uA Z ?_ ?_<;>(try (show(_:Nat)*_<=_;dsimp only))))
 simp only[acg,ahY,aat,aav];omega;refine AK.gK [] [(1000000,(0,some 1000000))] (env':=[(5,.c (.int .u8 ((m%128:Nat):Int))),(1,Υ ((m/128:Nat):Int)),(0,.own (.tok 1000000 0) 1 (rows++cU (acc++[Go.cE.byteOf ((c+128:Nat):Int)])))])
  (bs':=[]) (ts':=[(1000000,0)]) (us':=[1000000])
  ⟨⟨_,Z,.inl (ahm (λz=>AV.c (CV.int .u8 z)) (abH (m:=m) ai))⟩,⟨_,Z,.inl (ahm (λz=>AV.c (CV.int .i64 z)) (Vr m 7))⟩,⟨_,Z,⟨_,Z,.inr ⟨_,_,Z,Z,ahm (AV.own (.tok 1000000 1) 1) (Se D)⟩⟩⟩,trivial⟩ trivial Z ?_
 refine ih (m%128,m/128,acc++[Go.cE.byteOf ((c+128:Nat):Int)]) ⟨by show m%128<128;omega,by show m/128<=_;omega,yd,by show lC n=_;rw[W];simp⟩ (by show m/128<m;omega)
end Go.Proofs
namespace Go.cE
def cH:Δ->Int
 |[]=>0
 |b::s=>match nF b s with
  |none=>0
  |some (n,_)=>if b.toNat/64%2=1 then -(n:Int)else n
def dR(s:Δ):Δ:=match gy s with
 |some (_,r)=>r
 |none=>[]
def lp(s:Δ):Int:=match gy s with
 |some _=>0
 |none=>1
structure RX where
 n:Nd
 s:List UInt8
 k:Int
 e:Int
def fC(f:Δ->Int->RX):Nat->Δ->Int->Int->Θ×Δ×Int×Int
 |0,s,k,e=>([],s,k,e)
 |v+1,s,k,e=>if e≠0 then([],s,k,e)else
  ((f s k).n::(fC f v (f s k).s (f s k).k (f s k).e).1,(fC f v (f s k).s (f s k).k (f s k).e).2)
def kR(f:Δ->Int->RX)(T p:Int)(s:Δ)(k:Int):RX :=
 if lp s≠0\/cH s<0 then⟨.mk T 0 p [] [],[],k,1⟩else
  ⟨.mk T 0 p [] (fC f (cH s).toNat (dR s) k 0).1,(fC f (cH s).toNat (dR s) k 0).2.1,(fC f (cH s).toNat (dR s) k 0).2.2.1,(fC f (cH s).toNat (dR s) k 0).2.2.2⟩
def jQ(f:Δ->Int->RX)(c:Nat)(s:Δ)(k:Int):RX :=
 if c=0 then⟨.mk 0 (cH s) 0 [] [],dR s,k,lp s⟩
 else if c=1 then(if cH s<0\/cH s>200\/cH s>(dR s).length then⟨.mk 1 0 0 [] [],[],k,1⟩else⟨.mk 1 0 0 ((dR s).take (cH s).toNat) [],(dR s).drop (cH s).toNat,k,lp s⟩)
 else if c=2 then(match s with
  |[]=>⟨.mk 2 0 0 [] [],[],k,1⟩
  |p::s2=>if vn p.toNat=true then kR f 2 p.toNat s2 k else⟨.mk 2 0 p.toNat [] [],[],k,1⟩)
 else if c=3 then kR f 3 0 s k
 else⟨.mk c 0 0 [] [],[],k,1⟩
def pM:Nat->Δ->Int->RX
 |0,_,k=>⟨rX,[],k+1,4⟩
 |g+1,s,k=>if k+1>300 then⟨rX,[],k+1,4⟩else match s with
  |[]=>⟨rX,[],k+1,1⟩
  |c::s'=>jQ (pM g) c.toNat s' (k+1)
def wZ{s:Δ}{n:Int}{r:Δ}(h:gy s=some (n,r)):cH s=n/\dR s=r/\lp s=0:=by
 refine⟨?_,by simp[dR,h],by simp[lp,h]⟩;cases s with
 |nil=>simp[gy]at h
 |cons b s =>
  simp only[gy]at h;simp only[cH];grind
def lY{s:Δ}(h:gy s=none):dR s=[]/\lp s=1:=⟨by simp[dR,h],by simp[lp,h]⟩
def vL(x:RX):Rd Nd->Prop
 |.ok n r l=>x=⟨n,r,300-(l:Int),0⟩/\l<=300
 |.no e=>x.s=[]/\x.e=e/\e≠0
def Sf:∀(g:Nat)(s:Δ)(left:Nat),left<=300->vL (pM g s (300-(left:Int))) (gG g s left)
 |0,s,left,E=>by simp[pM,gG,vL]
 |g+1,s,left,E=>by
  have B:∀(v:Nat)(s:Δ)(left:Nat),left<=300->match pN (gG g) v s left with
    |.ok l r Y=>fC (pM g) v s (300-(left:Int)) 0=(l,r,300-(Y:Int),0)/\Y<=300
    |.no e=>(fC (pM g) v s (300-(left:Int)) 0).2.1=[]/\(fC (pM g) v s (300-(left:Int)) 0).2.2.2=e/\e≠0:=by
   intro v
   induction v with
   |zero=>intro s left E;simp[pN,fC,E]
   |succ v N =>
    intro s left E;have F:=Sf g s left E;simp only[pN,fC];rw[if_neg cS];cases V:gG g s left with
    |no e =>
     rw[V]at F;simp only[vL]at F;simp only;rw[F.1,F.2.1];cases v with
     |zero=>simp[fC,F.2.2]
     |succ v=>simp[fC,F.2.2]
    |ok n r l =>
     rw[V]at F;simp only[vL]at F;rw[F.1];have J:=N r l F.2;simp only;cases S:pN (gG g) v r l with
     |no e=>rw[S]at J;simp only at J ⊢;exact J
     |ok P H O=>rw[S]at J;simp only at J ⊢;rw[J.1];exact⟨Z,J.2⟩
  have C:∀(T p:Int)(s:Δ)(left:Nat),left<=300->vL (kR (pM g) T p s (300-(left:Int))) (rW (gG g) T p s left):=by
   intro T p s left E;unfold rW kR;cases I:gy s with
   |none=>simp[(lY I).2,vL]
   |some x =>
    obtain⟨n,r⟩:=x;obtain⟨A,Q,K⟩:=wZ I;rw[A,Q,K];simp only;by_cases U:n<0;rw[if_pos U,if_pos (.inr U)];simp[vL];rw[if_neg U,if_neg oe];have J:=B n.toNat r left E;cases V:pN (gG g) n.toNat r left with
    |no e=>rw[V]at J;simp only at J ⊢;simp only[vL];exact J
    |ok P H O=>rw[V]at J;simp only at J ⊢;simp only[vL];rw[J.1];exact⟨Z,J.2⟩
  simp only[gG,pM];by_cases W:left=0;subst W;simp[vL];rw[if_neg W,if_neg ai];cases s with
  |nil=>simp[vL]
  |cons c s =>
   simp only;have M:300-(left:Int)+1=300-((left-1:Nat):Int):=(by omega);rw[M];unfold jQ vM;split
   ·cases I:gy s with
    |none=>simp[(lY I).1,(lY I).2,vL]
    |some x =>
     obtain⟨n,r⟩:=x;obtain⟨A,Q,K⟩:=wZ I;rw[A,Q,K];simp only[vL];exact⟨trivial,ai⟩
   split
   ·cases I:gy s with
    |none =>
     rw[(lY I).1,(lY I).2];split<;>simp[vL]
    |some x =>
     obtain⟨n,r⟩:=x;obtain⟨A,Q,K⟩:=wZ I;rw[A,Q,K];simp only;split;simp[vL];simp only[vL];exact⟨trivial,ai⟩
   split
   ·cases s with
    |nil=>simp[vL]
    |cons p s =>
     simp only;split;grind;simp[vL]
   split;grind;simp[vL]
def U9:∀(g:Nat)(s:Δ)(k:Int),0<=k->k<=300->k+1<=(pM g s k).k/\(pM g s k).k<=301/\((pM g s k).e=0->(pM g s k).k<=300)
 |0,s,k,C,V=>by simp[pM];omega
 |g+1,s,k,C,V=>by
  have Y:∀(v:Nat)(s:Δ)(k:Int),0<=k->k<=300->k+(fC (pM g) v s k 0).1.length<=(fC (pM g) v s k 0).2.2.1/\(fC (pM g) v s k 0).2.2.1<=301/\((fC (pM g) v s k 0).2.2.2=0->(fC (pM g) v s k 0).2.2.1<=300):=by
   intro v
   induction v with
   |zero=>intro s k C V;simp[fC];omega
   |succ v S =>
    intro s k C V;have U:=U9 g s k C V;simp only[fC];rw[if_neg cS];by_cases W:(pM g s k).e=0;grind;have Q:fC (pM g) v (pM g s k).s (pM g s k).k (pM g s k).e=([],(pM g s k).s,(pM g s k).k,(pM g s k).e):=by
     cases v with
     |zero=>rfl
     |succ v=>simp only[fC];rw[if_pos W]
    rw[Q];simp only[aat,aav];exact⟨ai,U.2.1,λh=>absurd h W⟩
  have B:∀(T p:Int)(s:Δ)(k:Int),0<=k->k<=300->k<=(kR (pM g) T p s k).k/\(kR (pM g) T p s k).k<=301/\((kR (pM g) T p s k).e=0->(kR (pM g) T p s k).k<=300):=by intro T p s k C V;unfold kR;split;simp;omega;grind
  simp only[pM];split;simp;omega;rename_i I;cases s with
  |nil=>simp;omega
  |cons c s =>
   simp only;unfold jQ;split;simp only;omega;grind
end Go.cE
namespace Go.Proofs
open Go.cE
attribute [local irreducible] AK ag aZ bS
def kD(s:L UInt8)(k x:Int):iJ 167 [.box [.c (.str s),.c (.int .i64 k),.c (.int .i64 0)],.v (.c (.int .i64 x))] [] [(0,[.c (.str []),.c (.int .i64 k),.c (.int .i64 x)])]:=by refine en func167 call167 [(0,.ptr 1000000 0),(1,.c (.int .i64 x))] [(1000000,[.c (.str s),.c (.int .i64 k),.c (.int .i64 0)])] [] [1000000] λβ hf=>?_;exact dq
def A8(s:L UInt8)(k e x:Int)(Y:e≠0):iJ 167 [.box [.c (.str s),.c (.int .i64 k),.c (.int .i64 e)],.v (.c (.int .i64 x))] [] [(0,[.c (.str s),.c (.int .i64 k),.c (.int .i64 e)])]:=by
 have A:(e==0)=false:=by simpa using Y
 refine en func167 call167 [(0,.ptr 1000000 0),(1,.c (.int .i64 x))] [(1000000,[.c (.str s),.c (.int .i64 k),.c (.int .i64 e)])] [] [1000000] λβ hf=>?_;exact dq
def A9(c:UInt8)(s:L UInt8)(k e:Int):iJ 171 [.box [.c (.str (c::s)),.c (.int .i64 k),.c (.int .i64 e)]] [.c (.int .i64 c.toNat)] [(0,[.c (.str s),.c (.int .i64 k),.c (.int .i64 e)])]:=by
 have D:=c.toNat_lt;refine en func171 call171 [(0,.ptr 1000000 0)] [(1000000,[.c (.str (c::s)),.c (.int .i64 k),.c (.int .i64 e)])] [] [1000000] λβ hf=>?_
 repeat' (first|refine sz ?_|refine ze ?_ ?_|(intro h;first|(cases h;done)|rw[h]|skip)|refine ag.nV Tryz.hX kn Z Z Z Z Z Z (m:=0) Z Z ?_|refine ag.IP Tryz.hX kn Z Z Z Z Z (l:=some 1) (h:=none) Z Z cS cS ?_)
 show(_:L LV)=_;rw[gW ai ai]
def DL(k:Int):iJ 171 [.box [.c (.str []),.c (.int .i64 k),.c (.int .i64 0)]] [.c (.int .i64 0)] [(0,[.c (.str []),.c (.int .i64 k),.c (.int .i64 1)])]:=by have U:=kD [] k 1;refine en func171 call171 [(0,.ptr 1000000 0)] [(1000000,[.c (.str []),.c (.int .i64 k),.c (.int .i64 0)])] [] [1000000] λβ hf=>?_;exact dq
def Sg(k e:Int)(Y:e≠0):iJ 171 [.box [.c (.str []),.c (.int .i64 k),.c (.int .i64 e)]] [.c (.int .i64 0)] [(0,[.c (.str []),.c (.int .i64 k),.c (.int .i64 e)])]:=by have U:=A8 [] k e 1 Y;refine en func171 call171 [(0,.ptr 1000000 0)] [(1000000,[.c (.str []),.c (.int .i64 k),.c (.int .i64 e)])] [] [1000000] λβ hf=>?_;exact dq
def abM{n c T:Nat}(I:n<2^T)(D:c<256)(Y:T<=55):i64.wrap (((BitVec.ofInt 64 (n:Int))|||(BitVec.ofInt 64 (i64.wrap (i64.wrap (((BitVec.ofInt 64 (c:Int))&&&(BitVec.ofInt 64 127)).toNat)*2^(min T 64))))).toNat)=((n+c%128*2^T:Nat):Int):=by rw[Yw ai];exact Yy I ai Y
def X9(n T:Nat):uk [] n T=none:=rfl
def Mb{b:UInt8}{s:Δ}{n T:Nat}(h:b.toNat=0\/T>55):uk (b::s) n T=none:=by simp only[uk,if_pos h]
def Va{b:UInt8}{s:Δ}{n T:Nat}(h:¬(b.toNat=0\/T>55)):uk (b::s) n T=if b.toNat>=128 then uk s (n+b.toNat%128*2^T) (T+7)else some (n+b.toNat%128*2^T,s):=by simp only[uk,if_neg h]
def Cq{b:UInt8}{s:Δ}(h:nF b s=none):cH (b::s)=0/\dR (b::s)=[]/\lp (b::s)=1:=by
 have Y:gy (b::s)=none:=by simp only[gy,h]
 exact⟨by simp only[cH,h],(lY Y).1,(lY Y).2⟩
def Fb{b:UInt8}{s:Δ}{n:Nat}{r:Δ}(h:nF b s=some (n,r))(U:(b.toNat/64%2=1/\n=0)\/n>1152921504606846976):cH (b::s)=(if b.toNat/64%2=1 then -(n:Int)else n)/\dR (b::s)=[]/\lp (b::s)=1:=by
 have Y:gy (b::s)=none:=by simp only[gy,h,if_pos U]
 exact⟨by simp only[cH,h],(lY Y).1,(lY Y).2⟩
def JS{b:UInt8}{s:Δ}{n:Nat}{r:Δ}(h:nF b s=some (n,r))(U:¬((b.toNat/64%2=1/\n=0)\/n>1152921504606846976)):cH (b::s)=(if b.toNat/64%2=1 then -(n:Int)else n)/\dR (b::s)=r/\lp (b::s)=0:=by
 have Y:gy (b::s)=some (if b.toNat/64%2=1 then -(n:Int)else n,r):=by simp only[gy,h,if_neg U]
 exact wZ Y
theorem qK(p:Prop)[Decidable p]:decide p/\p\/decide p=false/\¬p:=by grind
def sI(s:L UInt8)(k:Int):iJ 172 [.box [.c (.str s),.c (.int .i64 k),.c (.int .i64 0)]] [.c (.int .i64 (cH s))] [(0,[.c (.str (dR s)),.c (.int .i64 k),.c (.int .i64 (lp s))])]:=by
 cases s with
 |nil =>
  have h1:=DL k;refine en func172 call172 [(0,.ptr 1000000 0)] [(1000000,[.c (.str []),.c (.int .i64 k),.c (.int .i64 0)])] [] [1000000] λβ hf=>?_
  repeat' (first|refine sz ?_|refine ze ?_ ?_|(intro h;first|(cases h;done)|rw[h]|skip)|refine oa ?_ (hq:=h1))
  refine AK.dg (α:=Unit) (λ_=>True) (λ_=>0)
   (λ_=>[(3,.c (.int .i64 0)),(4,.c (.bool (decide ((0:Nat)/64%2=1)))),(5,.c (.int .i64 ((0%64:Nat):Int))),(0,.ptr 1000000 0)])
   (λ_=>[(1000000,[.c (.str []),.c (.int .i64 k),.c (.int .i64 1)])]) (λ_=>[]) [1000000] ()
   trivial ⟨.inl Z,.inl (ahm (λz=>some (AV.c (CV.bool z))) (Yx (c:=0) ai)),.inl (ahm (λz=>some (AV.c (CV.int .i64 z))) (Pe (a:=0) ai)),.inl Z,trivial⟩ ⟨Z,trivial⟩ trivial Z Z Z ?_
  rintro _ _ S;clear S;exact dq
 |cons b s =>
  have h1:=A9 b s k 0;have K:=b.toNat_lt;refine en func172 call172 [(0,.ptr 1000000 0)] [(1000000,[.c (.str (b::s)),.c (.int .i64 k),.c (.int .i64 0)])] [] [1000000] λβ hf=>?_
  repeat' (first|refine sz ?_|refine ze ?_ ?_|(intro h;first|(cases h;done)|rw[h]|skip)|refine oa ?_ (hq:=h1))
  refine AK.dg (α:=Nat×Nat×Nat×L UInt8) (λz=>z.1<256/\z.2.1<2^z.2.2.1/\z.2.2.1%7=6/\z.2.2.1<=62/\nF b s=if z.1>=128 then uk z.2.2.2 z.2.1 z.2.2.1 else some (z.2.1,z.2.2.2)) (λz=>z.2.2.2.length)
   (λz=>[(3,.c (.int .i64 z.1)),(4,.c (.bool (decide (b.toNat/64%2=1)))),(5,.c (.int .i64 z.2.1)),(6,.c (.int .u64 z.2.2.1)),(0,.ptr 1000000 0)])
   (λz=>[(1000000,[.c (.str z.2.2.2),.c (.int .i64 k),.c (.int .i64 0)])]) (λ_=>[]) [1000000] (b.toNat,b.toNat%64,6,s)
   ⟨K,by show b.toNat%64<2^6;omega,Z,by show 6<=62;omega,Z⟩ ⟨.inl Z,.inl (ahm (λz=>some (AV.c (CV.bool z))) (Yx K)),.inl (ahm (λz=>some (AV.c (CV.int .i64 z))) (Pe ai)),.inl Z,.inl Z,trivial⟩ ⟨Z,trivial⟩ trivial Z Z Z ?_
  rintro⟨c,n,T,r⟩ ⟨H,I,E,U,W⟩ S;simp only at H I E U W;by_cases J:c>=128
  ·have A:decide ((c:Int)>=128):=ace ai;rw[if_pos J]at W;cases r with
   |nil =>
    rw[X9]at W;have h2:=DL k;have B:=A8 [] k 1 1 ai;obtain⟨V,G,C⟩:=Cq W;rw[V,G,C];clear S;exact dq
   |cons Y r =>
    have h2:=A9 Y r k 0;have D:=Y.toNat_lt;by_cases O:Y.toNat=0;rw[Mb (.inl O)]at W;have B:=kD r k 1;obtain⟨V,G,C⟩:=Cq W;rw[V,G,C];have u:((Y.toNat:Int)==0):=(by simpa using O);clear S;exact dq;have u:((Y.toNat:Int)==0)=false:=(by simpa using O);by_cases p:T>55;rw[Mb (.inr p)]at W;have B:=kD r k 1;obtain⟨V,G,C⟩:=Cq W;rw[V,G,C];have P:decide ((T:Int)>55):=ace ai;clear S;exact dq;rw[Va ai]at W;have P:decide ((T:Int)>55)=false:=acf ai;have hs:=ahm (λz=>some (AV.c (CV.int .i64 z))) (abM I D ai);have oK:=ahm (λz=>some (AV.c (CV.int .u64 z))) (show IntKind.u64.wrap ((T:Int)+7)=((T+7:Nat):Int)by simp[IntKind.wrap,IntKind.bits,IntKind.signed];omega)
    repeat' (first|refine sz ?_|refine ze ?_ ?_|(intro h;first|(cases h;done)|rw[h]|skip)|refine oa ?_ (hq:=h2))
    refine AK.again (S (Y.toNat,n+Y.toNat%128*2^T,T+7,r) ⟨D,?_,by show(T+7)%7=6;omega,by show T+7<=62;omega,W⟩ (by show r.length<(Y::r).length;simp)) ⟨.inl Z,.inl Z,.inl hs,.inl oK,.inl Z,trivial⟩ ⟨Z,trivial⟩ trivial Z Z Z;show n+Y.toNat%128*2^T<2^(T+7);have h5:2^(T+7)=128*2^T:=by rw[Nat.pow_add];omega
    have h6:Y.toNat%128*2^T<=127*2^T:=ajG _ ai;omega
  have A:decide ((c:Int)>=128)=false:=acf ai;rw[if_neg J]at W;have hnb:n<9223372036854775808:=by have:(2:Nat)^T<=2^62:=akP ai U;omega
  have q:i64.wrap (0-(n:Int)) = -(n:Int):=by rw[gW ai ai];omega
  clear S;rcases qK (b.toNat/64%2=1)with ⟨d1,Q⟩|⟨d1,Q⟩
  ·by_cases N:n=0;obtain⟨V,G,C⟩:=Fb W (.inl ⟨Q,N⟩);rw[V,G,C,if_pos Q];subst N;have B:=kD r k 1;exact dq;have u:((n:Int)==0)=false:=(by simpa using N);by_cases M:n>1152921504606846976
   ·obtain⟨V,G,C⟩:=Fb W (.inr M);rw[V,G,C,if_pos Q];have P:decide ((n:Int)>1152921504606846976):=ace ai;have B:=kD r k 1
    repeat' (first|refine sz ?_|refine ze ?_ ?_|(intro h;first|(cases h;done)|rw[h]|skip)|refine oa ?_ (hq:=B))
    all_goals first|rfl|(show(_:L LV)=_;exact ahm (λz=>[LV.c (CV.int .i64 z)]) q)
   obtain⟨V,G,C⟩:=JS W ai;rw[V,G,C,if_pos Q];have P:decide ((n:Int)>1152921504606846976)=false:=acf ai
   repeat' (first|refine sz ?_|refine ze ?_ ?_|(intro h;first|(cases h;done)|rw[h]|skip))
   all_goals first|rfl|(show(_:L LV)=_;exact ahm (λz=>[LV.c (CV.int .i64 z)]) q)
  by_cases M:n>1152921504606846976;obtain⟨V,G,C⟩:=Fb W (.inr M);rw[V,G,C,if_neg Q];have P:decide ((n:Int)>1152921504606846976):=ace ai;have B:=kD r k 1;exact dq;obtain⟨V,G,C⟩:=JS W ai;rw[V,G,C,if_neg Q];have P:decide ((n:Int)>1152921504606846976)=false:=acf ai;exact dq
end Go.Proofs
namespace Go.cE
structure Acc where
 is:Int
 cK:Int
 cnt:Int
 param:Ty
 store:Ty
 code:List Nd
 keep:Vl
structure eF where
 aI:List Acc
 fu:Int
def Acc.cF(a:Acc)(z:Int):Acc:={a with cK:=z}
def amD(a:Acc):Prop:=(-9223372036854775808<=a.is/\a.is<=9223372036854775807)/\(-9223372036854775808<=a.cK/\a.cK<=9223372036854775807)/\(-9223372036854775808<=a.cnt/\a.cnt<=9223372036854775807)
def Aw(a:Acc):Nat:=bh a.param+bh a.store+aP a.code+aG a.keep
def zi:Acc->Ψ
 |⟨W,cK,S,.mk V T,.mk sT C,code,.mk k n m s Q U Y⟩ =>
  [.int .i64 W,.int .i64 cK,.int .i64 S,.int .i64 V,.sl 2 (az T),.int .i64 sT,.sl 2 (az C),.sl 5 (aD code),.int .i64 k,.int .i64 n,.int .i64 m,.str s,.sl 7 (aa Q),.sl 2 (az U),.sl 5 (aD Y)]
def jU:L Acc->Ψ
 |[]=>[]
 |a::l=>zi a++jU l
def di(l:eF):Ψ:=jU l.aI++[.int .i64 l.fu]
def cq(l:eF):Φ:=(di l).map AV.c
def gL(l:eF):Φ:=(jU l.aI).map AV.c
def zj(a:Acc):Φ:=(zi a).map AV.c
def Qi(a:Acc):(zi a).length=15:=by obtain⟨W,cK,S,⟨V,T⟩,⟨sT,C⟩,code,⟨k,n,m,s,Q,U,Y⟩⟩:=a;rfl
def AB:∀l:L Acc,(jU l).length=l.length*15
 |[]=>rfl
 |a::l=>by simp only[jU,acg,Qi,AB l,aat];omega
def xw{l:eF}(h:l.aI.length=12):(gL l).length=180:=by simp only[gL,ahY,AB,h]
def yV(l:eF):cq l=gL l++[Υ l.fu]:=by simp only[cq,di,gL,aib,ahM,List.map_nil]
def gp{l:eF}(h:l.aI.length=12):(cq l).length=181:=by rw[yV,acg,xw h];rfl
def uH:∀(l:L Acc)(i:Nat)(a:Acc),l[i]?=some a->jU l=jU (l.take i)++(zi a++jU (l.drop (i+1)))
 |[],i,a,h=>by simp at h
 |x::l,0,a,h=>by simp at h;subst h;simp[jU]
 |x::l,i+1,a,h=>by simp only[jU,ajL,aje,aie,uH l i a h]
def kW:L Acc->Nat->Int->L Acc
 |[],_,_=>[]
 |a::l,0,z=>a.cF z::l
 |a::l,i+1,z=>a::kW l i z
def eF.cF(l:eF)(i:Nat)(z:Int):eF:=⟨kW l.aI i z,l.fu⟩
def PI:∀(l:L Acc)(i:Nat)(z:Int),(kW l i z).length=l.length
 |[],_,_=>rfl
 |a::l,0,z=>rfl
 |a::l,i+1,z=>by simp only[kW,aat,PI l i z]
def zo:∀(l:L Acc)(i j:Nat)(z:Int),(kW l i z)[j]?=if i=j then(l[j]?).map (λa=>a.cF z)else l[j]?
 |[],i,j,z=>by simp[kW]
 |a::l,0,0,z=>by simp[kW]
 |a::l,0,j+1,z=>by simp[kW]
 |a::l,i+1,0,z=>by simp[kW]
 |a::l,i+1,j+1,z=>by simp only[kW,aky,zo l i j z,Nat.add_right_cancel_iff]
def Ic:∀(l:L Acc)(i:Nat)(a:Acc)(z:Int),l[i]?=some a->jU (kW l i z)=jU (l.take i)++(zi (a.cF z)++jU (l.drop (i+1)))
 |[],i,a,z,h=>by simp at h
 |x::l,0,a,z,h=>by simp at h;subst h;simp[kW,jU]
 |x::l,i+1,a,z,h=>by simp only[kW,jU,ajL,aje,aie,Ic l i a z h]
def Lg:Acc->Ψ
 |⟨_,_,S,.mk V T,.mk sT C,code,.mk k n m s Q U Y⟩ =>
  [.int .i64 S,.int .i64 V,.sl 2 (az T),.int .i64 sT,.sl 2 (az C),.sl 5 (aD code),.int .i64 k,.int .i64 n,.int .i64 m,.str s,.sl 7 (aa Q),.sl 2 (az U),.sl 5 (aD Y)]
def CZ(a:Acc):zi a = .int .i64 a.is :: .int .i64 a.cK::Lg a:=by obtain⟨W,cK,S,⟨V,T⟩,⟨sT,C⟩,code,⟨k,n,m,s,Q,U,Y⟩⟩:=a;rfl
def Xg(a:Acc)(z:Int):Lg (a.cF z)=Lg a:=by obtain⟨W,cK,S,⟨V,T⟩,⟨sT,C⟩,code,⟨k,n,m,s,Q,U,Y⟩⟩:=a;rfl
section
variable {l:eF}{i:Nat}{a:Acc}
def iw(l:eF):kG (.c (.agg (di l)))=some (cq l):=El _
def Hr(Q:l.aI.length=12):takeN 181 (cq l)=some (cq l):=by rw[<- gp Q];exact Lh _
def Zz(Q:l.aI.length=12):takeN 180 (cq l)=some (gL l):=by rw[yV,<- xw Q];exact En _ _
def y8(Q:l.aI.length=12):eB 180 (cq l)=some [Υ l.fu]:=by rw[yV,<- xw Q];exact j6 _ _
def D0(l:eF):close (.agg (cq l))=some (.agg (di l)):=by simp only[close,cq,Ax]
def MZ(Q:l.aI.length=12)(Y:l.aI[i]?=some a):∃p q:Φ,p.length=i*15/\(∀z,cq (l.cF i z)=p++((zi (a.cF z)).map AV.c++q))/\cq l=p++((zi a).map AV.c++q)/\∃W,gL l=p++((zi a).map AV.c++W):=by have H:i<l.aI.length:=(List.getElem?_eq_some_iff.1 Y).1;refine⟨(jU (l.aI.take i)).map AV.c,(jU (l.aI.drop (i+1))++[CV.int .i64 l.fu]).map AV.c,?_,λz=>?_,?_,(jU (l.aI.drop (i+1))).map AV.c,?_⟩;rw[ahY,AB,ahZ];omega;show(jU (kW l.aI i z)++[CV.int .i64 l.fu]).map AV.c=_;rw[Ic _ _ _ _ Y];simp;show(jU l.aI++[CV.int .i64 l.fu]).map AV.c=_;rw[uH _ _ _ Y];simp;show(jU l.aI).map AV.c=_;rw[uH _ _ _ Y];simp
def M0(Q:l.aI.length=12)(Y:l.aI[i]?=some a):∃r,eB (0+i*15+0) (cq l)=some (Υ a.is::r):=by obtain⟨p,q,V,_,U,_⟩:=MZ Q Y;rw[U,CZ];exact⟨(CV.int .i64 a.cK::Lg a).map AV.c++q,by rw[ahr,aiI,<- V];exact j6 p _⟩
def M1(Q:l.aI.length=12)(Y:l.aI[i]?=some a):∃r,eB (0+i*15+1) (cq l)=some (Υ a.cK::r):=by obtain⟨p,q,V,_,U,_⟩:=MZ Q Y;rw[U,CZ];exact⟨(Lg a).map AV.c++q,by rw[ahr,<- V];exact ni _ _ _ _ _ (j6 p _) (by simp only[ahM,ahk,eB])⟩
def VH(Q:l.aI.length=12)(Y:l.aI[i]?=some a)(z:Int):bQ (0+i*15+1) [Υ z] (cq l)=some (cq (l.cF i z)):=by obtain⟨p,q,V,B,U,_⟩:=MZ Q Y;rw[U,B z,CZ,CZ,Xg];have:=Ie (Υ z) (p++[Υ a.is]) (Υ a.cK) ((Lg a).map AV.c++q);rw[acg,V,List.length_singleton]at this;have A:(a.cF z).is=a.is:=rfl;have W:(a.cF z).cK=z:=rfl;simp_all
def xL(Q:l.aI.length=12)(W:l.aI[i]?=some a):∃r,eB (i*15) (gL l)=some r/\takeN 15 r=some (zj a):=by obtain⟨p,q,V,_,_,Y,U⟩:=MZ Q W;refine⟨(zi a).map AV.c++Y,?_,?_⟩;rw[U,<- V];exact j6 p _;have:=En ((zi a).map AV.c) Y;rw[ahY,Qi]at this;exact this
end
def s9:Acc:=⟨0,0,0,kg,kg,[],jl⟩
def aR(l:eF)(i:Int):Acc:=l.aI.getD i.toNat s9
def jm(l:eF)(F T n:Int):Int :=
 if F<0\/12<=F\/T<0\/12<=T\/(aR l F).is=0\/(aR l T).is=0 then 6
 else if n<0\/1152921504606846976<n then 2 else if(aR l F).cK<n then 8 else 0
def rI(l:eF)(F T n:Int):eF :=
 (l.cF F.toNat ((aR l F).cK-n)).cF T.toNat ((aR (l.cF F.toNat ((aR l F).cK-n)) T).cK+n)
def ja{l:eF}{i:Nat}{a:Acc}(h:l.aI[i]?=some a):aR l (i:Int)=a:=by unfold aR;rw[acn,List.getD,h];rfl
def fq{l:eF}{i:TI}(Q:l.aI.length=12)(Y:i.isAgg)(V:i.size=181):mK i (cq l)=some (.agg (cq l)):=by unfold mK;rw[Y,V];simp only[Hr Q]
def gT{l:eF}(Q:l.aI.length=12){n:Nat}(h:n=181):Nat.beq (cq l).length n:=by rw[gp Q,h];rfl
def eN{l:eF}(Q:l.aI.length=12){cells:Φ}(h:cells.length=181):bQ 0 (cq l) cells=some (cq l):=zF _ _ (by rw[gp Q,h])
def kI(l:eF)(e:Int):close (.eK [.agg (cq l),Υ e])=some (.eK [.agg (di l),.int .i64 e]):=by simp only[close,rL];rw[show rL (cq l)=some (di l)from Ax _]
end Go.cE
namespace Go.Proofs
open Go.cE
attribute [local irreducible] AK ag aZ bS de cq di gL eF.cF
set_option maxRecDepth 100000 in
def acJ(l:eF)(h12:l.aI.length=12)(i j:Nat)(Y aT U:Acc)(T:l.aI[i]?=some Y)(P:l.aI[j]?=some aT)(n:Int)
  (O:(l.cF i (i64.wrap (Y.cK-n))).aI[j]?=some U)(V:(l.cF i (i64.wrap (Y.cK-n))).aI.length=12)
  (N:((l.cF i (i64.wrap (Y.cK-n))).cF j (i64.wrap (U.cK+n))).aI.length=12)
  (S:Y.is≠0)(Q:aT.is≠0)(A:0<=n)(z:n<=1152921504606846976)(y:n<=Y.cK) :
  af 46 [.agg (di l),.int .i64 i,.int .i64 j,.int .i64 n]
   (.eK [.agg (di ((l.cF i (i64.wrap (Y.cK-n))).cF j (i64.wrap (U.cK+n)))),.int .i64 0]):=by
 have M:Nat.blt i 12:=by rw[ajd];have:=(List.getElem?_eq_some_iff.1 T).1;omega
 have K:Nat.blt j 12:=by rw[ajd];have:=(List.getElem?_eq_some_iff.1 P).1;omega
 have J:i<12:=by simpa[ajd]using M
 have I:j<12:=by simpa[ajd]using K
 obtain⟨x,d1⟩:=M0 h12 T;obtain⟨u,d2⟩:=M0 h12 P;obtain⟨t,d3⟩:=M1 h12 T;obtain⟨o,d4⟩:=M1 V O;have m:=VH h12 T (i64.wrap (Y.cK-n));have f:=VH V O (i64.wrap (U.cK+n));have F:decide ((i:Int)<0)=false:=acf ai;have E:decide ((i:Int)>=12)=false:=acf ai;have D:decide ((j:Int)<0)=false:=acf ai;have c4:decide ((j:Int)>=12)=false:=acf ai;have d:(Y.is==0)=false:=by simpa using S
 have c6:(aT.is==0)=false:=by simpa using Q
 have C:decide (n<0)=false:=acf ai;have B:decide (n>1152921504606846976)=false:=acf ai;have c9:decide (Y.cK<n)=false:=acf ai;have n1:(bif decide ((i:Int)<0)then true else decide ((i:Int)>=12))=false:=by rw[F,E];rfl
 have n2:(bif bif false then true else decide ((j:Int)<0)then true else decide ((j:Int)>=12))=false:=by rw[D,c4];rfl
 have n3:(bif decide (n<0)then true else decide (n>1152921504606846976))=false:=by rw[C,B];rfl
 refine qn func46 call46 λβ hf=>?_
 repeat' (first|refine ju ?_|refine zc ?_ ?_|(intro h;first|(cases h;done)|rw[h]|skip)|refine AK.seq ?_|refine ag.box kn Z Z Z Z (iw _) Z ?_|refine ag.tr hX kn Z Z Z Z Z Z Z Z Z ew ?_|refine ag.dy hX kn Z Z Z Z Z Z Z (fq ew Z Z) ?_|refine ag.dy hX kn Z Z Z Z Z Z ew UK ?_|refine ag.store hX kn Z Z Z Z Z Z Z Z (gT ew Z) (eN ew Z) Z ?_|refine ag.store hX kn Z Z Z Z Z Z Z Z Z ew UK ?_|refine AK.HG hX hf (iN Z Z Z Z (fq ew Z Z) Z) (kI _ _) (Wk.refl _))
set_option maxRecDepth 100000 in
def acK(l:eF)(h12:l.aI.length=12)(F T n:Int)
  (P:∀(i j:Nat)(Y aT:Acc),F=i->T=j->l.aI[i]?=some Y->l.aI[j]?=some aT->Y.is≠0->aT.is≠0->0<=n->n<=1152921504606846976->n<=Y.cK->False) :
  ∃e:Int,(e≠0/\e=jm l F T n)/\af 46 [.agg (di l),.int .i64 F,.int .i64 T,.int .i64 n] (.eK [.agg (di l),.int .i64 e]):=by
 by_cases f1:F<0
 ·have M:(bif decide (F<0)then true else decide (F>=12))=true:=by rw[ace f1];rfl
  have J:=ace f1;refine⟨6,⟨bn,T0⟩,?_⟩;refine qn func46 call46 λV hf=>?_
  repeat' (first|refine ju ?_|refine zc ?_ ?_|(intro h;first|(cases h;done)|rw[h]|skip)|refine AK.seq ?_|refine ag.box kn Z Z Z Z (iw _) Z ?_|refine ag.tr hX kn Z Z Z Z Z Z Z Z Z ew ?_|refine ag.dy hX kn Z Z Z Z Z Z Z (fq ew Z Z) ?_|refine ag.dy hX kn Z Z Z Z Z Z ew UK ?_|refine ag.store hX kn Z Z Z Z Z Z Z Z (gT ew Z) (eN ew Z) Z ?_|refine ag.store hX kn Z Z Z Z Z Z Z Z Z ew UK ?_|refine AK.HG hX hf (iN Z Z Z Z (fq ew Z Z) Z) (kI _ _) (Wk.refl _))
 have J:=acf f1;by_cases f2:F>=12
 ·have M:(bif decide (F<0)then true else decide (F>=12))=true:=by rw[acf f1,ace f2];rfl
  have I:=ace f2;refine⟨6,⟨bn,T0⟩,?_⟩;refine qn func46 call46 λV hf=>?_
  repeat' (first|refine ju ?_|refine zc ?_ ?_|(intro h;first|(cases h;done)|rw[h]|skip)|refine AK.seq ?_|refine ag.box kn Z Z Z Z (iw _) Z ?_|refine ag.tr hX kn Z Z Z Z Z Z Z Z Z ew ?_|refine ag.dy hX kn Z Z Z Z Z Z Z (fq ew Z Z) ?_|refine ag.dy hX kn Z Z Z Z Z Z ew UK ?_|refine ag.store hX kn Z Z Z Z Z Z Z Z (gT ew Z) (eN ew Z) Z ?_|refine ag.store hX kn Z Z Z Z Z Z Z Z Z ew UK ?_|refine AK.HG hX hf (iN Z Z Z Z (fq ew Z Z) Z) (kI _ _) (Wk.refl _))
 have I:=acf f2;have M:(bif decide (F<0)then true else decide (F>=12))=false:=by rw[acf f1,acf f2];rfl
 by_cases t1:T<0
 ·have K:(bif bif false then true else decide (T<0)then true else decide (T>=12))=true:=by rw[ace t1];rfl
  have E:=ace t1;refine⟨6,⟨bn,T0⟩,?_⟩;refine qn func46 call46 λV hf=>?_
  repeat' (first|refine ju ?_|refine zc ?_ ?_|(intro h;first|(cases h;done)|rw[h]|skip)|refine AK.seq ?_|refine ag.box kn Z Z Z Z (iw _) Z ?_|refine ag.tr hX kn Z Z Z Z Z Z Z Z Z ew ?_|refine ag.dy hX kn Z Z Z Z Z Z Z (fq ew Z Z) ?_|refine ag.dy hX kn Z Z Z Z Z Z ew UK ?_|refine ag.store hX kn Z Z Z Z Z Z Z Z (gT ew Z) (eN ew Z) Z ?_|refine ag.store hX kn Z Z Z Z Z Z Z Z Z ew UK ?_|refine AK.HG hX hf (iN Z Z Z Z (fq ew Z Z) Z) (kI _ _) (Wk.refl _))
 have E:=acf t1;by_cases S:T>=12
 ·have K:(bif bif false then true else decide (T<0)then true else decide (T>=12))=true:=by rw[acf t1,ace S];rfl
  have c4:=ace S;refine⟨6,⟨bn,T0⟩,?_⟩;refine qn func46 call46 λV hf=>?_
  repeat' (first|refine ju ?_|refine zc ?_ ?_|(intro h;first|(cases h;done)|rw[h]|skip)|refine AK.seq ?_|refine ag.box kn Z Z Z Z (iw _) Z ?_|refine ag.tr hX kn Z Z Z Z Z Z Z Z Z ew ?_|refine ag.dy hX kn Z Z Z Z Z Z Z (fq ew Z Z) ?_|refine ag.dy hX kn Z Z Z Z Z Z ew UK ?_|refine ag.store hX kn Z Z Z Z Z Z Z Z (gT ew Z) (eN ew Z) Z ?_|refine ag.store hX kn Z Z Z Z Z Z Z Z Z ew UK ?_|refine AK.HG hX hf (iN Z Z Z Z (fq ew Z Z) Z) (kI _ _) (Wk.refl _))
 have c4:=acf S;have K:(bif bif false then true else decide (T<0)then true else decide (T>=12))=false:=by rw[acf t1,acf S];rfl
 obtain⟨i,rfl⟩:=aiV (show 0<=F by omega);obtain⟨j,rfl⟩:=aiV (show 0<=T by omega);obtain⟨Y,yG⟩:∃a,l.aI[i]?=some a:=⟨l.aI[i]' ai,cS⟩;obtain⟨aT,Hv⟩:∃a,l.aI[j]?=some a:=⟨l.aI[j]' ai,cS⟩;have y:Nat.blt i 12:=by rw[ajd];omega
 have x:Nat.blt j 12:=by rw[ajd];omega
 obtain⟨u,d1⟩:=M0 h12 yG;obtain⟨t,d2⟩:=M0 h12 Hv;obtain⟨o,d3⟩:=M1 h12 yG;by_cases O:Y.is=0
 ·have D:(Y.is==0):=by simpa using O
  refine⟨6,⟨bn,by unfold jm;rw[ja yG,if_pos ai]⟩,?_⟩;refine qn func46 call46 λV hf=>?_
  repeat' (first|refine ju ?_|refine zc ?_ ?_|(intro h;first|(cases h;done)|rw[h]|skip)|refine AK.seq ?_|refine ag.box kn Z Z Z Z (iw _) Z ?_|refine ag.tr hX kn Z Z Z Z Z Z Z Z Z ew ?_|refine ag.dy hX kn Z Z Z Z Z Z Z (fq ew Z Z) ?_|refine ag.dy hX kn Z Z Z Z Z Z ew UK ?_|refine ag.store hX kn Z Z Z Z Z Z Z Z (gT ew Z) (eN ew Z) Z ?_|refine ag.store hX kn Z Z Z Z Z Z Z Z Z ew UK ?_|refine AK.HG hX hf (iN Z Z Z Z (fq ew Z Z) Z) (kI _ _) (Wk.refl _))
 have D:(Y.is==0)=false:=by simpa using O
 by_cases N:aT.is=0
 ·have C:(aT.is==0):=by simpa using N
  refine⟨6,⟨bn,by unfold jm;rw[ja yG,ja Hv,if_pos ai]⟩,?_⟩;refine qn func46 call46 λV hf=>?_
  repeat' (first|refine ju ?_|refine zc ?_ ?_|(intro h;first|(cases h;done)|rw[h]|skip)|refine AK.seq ?_|refine ag.box kn Z Z Z Z (iw _) Z ?_|refine ag.tr hX kn Z Z Z Z Z Z Z Z Z ew ?_|refine ag.dy hX kn Z Z Z Z Z Z Z (fq ew Z Z) ?_|refine ag.dy hX kn Z Z Z Z Z Z ew UK ?_|refine ag.store hX kn Z Z Z Z Z Z Z Z (gT ew Z) (eN ew Z) Z ?_|refine ag.store hX kn Z Z Z Z Z Z Z Z Z ew UK ?_|refine AK.HG hX hf (iN Z Z Z Z (fq ew Z Z) Z) (kI _ _) (Wk.refl _))
 have C:(aT.is==0)=false:=by simpa using N
 by_cases U:n<0
 ·have n3:(bif decide (n<0)then true else decide (n>1152921504606846976))=true:=by rw[ace U];rfl
  have B:=ace U;refine⟨2,⟨bn,Wl⟩,?_⟩;refine qn func46 call46 λV hf=>?_
  repeat' (first|refine ju ?_|refine zc ?_ ?_|(intro h;first|(cases h;done)|rw[h]|skip)|refine AK.seq ?_|refine ag.box kn Z Z Z Z (iw _) Z ?_|refine ag.tr hX kn Z Z Z Z Z Z Z Z Z ew ?_|refine ag.dy hX kn Z Z Z Z Z Z Z (fq ew Z Z) ?_|refine ag.dy hX kn Z Z Z Z Z Z ew UK ?_|refine ag.store hX kn Z Z Z Z Z Z Z Z (gT ew Z) (eN ew Z) Z ?_|refine ag.store hX kn Z Z Z Z Z Z Z Z Z ew UK ?_|refine AK.HG hX hf (iN Z Z Z Z (fq ew Z Z) Z) (kI _ _) (Wk.refl _))
 have B:=acf U;by_cases Q:n>1152921504606846976
 ·have n3:(bif decide (n<0)then true else decide (n>1152921504606846976))=true:=by rw[acf U,ace Q];rfl
  have A:=ace Q;refine⟨2,⟨bn,Wl⟩,?_⟩;refine qn func46 call46 λV hf=>?_
  repeat' (first|refine ju ?_|refine zc ?_ ?_|(intro h;first|(cases h;done)|rw[h]|skip)|refine AK.seq ?_|refine ag.box kn Z Z Z Z (iw _) Z ?_|refine ag.tr hX kn Z Z Z Z Z Z Z Z Z ew ?_|refine ag.dy hX kn Z Z Z Z Z Z Z (fq ew Z Z) ?_|refine ag.dy hX kn Z Z Z Z Z Z ew UK ?_|refine ag.store hX kn Z Z Z Z Z Z Z Z (gT ew Z) (eN ew Z) Z ?_|refine ag.store hX kn Z Z Z Z Z Z Z Z Z ew UK ?_|refine AK.HG hX hf (iN Z Z Z Z (fq ew Z Z) Z) (kI _ _) (Wk.refl _))
 have A:=acf Q;have n3:(bif decide (n<0)then true else decide (n>1152921504606846976))=false:=by rw[acf U,acf Q];rfl
 by_cases z:Y.cK<n
 ·have m:=ace z;refine⟨8,⟨bn,by unfold jm;rw[ja yG,ja Hv,if_neg ai,if_neg ai,if_pos ai]⟩,?_⟩;refine qn func46 call46 λV hf=>?_
  repeat' (first|refine ju ?_|refine zc ?_ ?_|(intro h;first|(cases h;done)|rw[h]|skip)|refine AK.seq ?_|refine ag.box kn Z Z Z Z (iw _) Z ?_|refine ag.tr hX kn Z Z Z Z Z Z Z Z Z ew ?_|refine ag.dy hX kn Z Z Z Z Z Z Z (fq ew Z Z) ?_|refine ag.dy hX kn Z Z Z Z Z Z ew UK ?_|refine ag.store hX kn Z Z Z Z Z Z Z Z (gT ew Z) (eN ew Z) Z ?_|refine ag.store hX kn Z Z Z Z Z Z Z Z Z ew UK ?_|refine AK.HG hX hf (iN Z Z Z Z (fq ew Z Z) Z) (kI _ _) (Wk.refl _))
 exact absurd (P i j Y aT Z Z yG Hv O N ai ai ai) id
end Go.Proofs
