/- What row and Code of package check answer. What sound, Fits and Script of package check answer. Package run: types and sizes of what its machine holds. -/
import Derived.Test.YtlohbilpimjmmaaGreatDoorChkC
import Derived.Test.YtlohbilpimjmmaaGreatDoorVal8
import Derived.Test.YtlohbilpimjmmaaGreatDoorKind5
set_option maxHeartbeats 0
set_option linter.unusedVariables false
set_option linter.unusedSimpArgs false
set_option maxRecDepth 100000
namespace Go.Proofs
open Go.cq
theorem TX {t:List Ty} {f:Bool} {e:Int} (h:e≠0):iW ((t,f),e) = .gy [.agg [.any,.any],.int .i64 e]:=by unfold iW;rw[if_neg h]
theorem vI (n:Nd):aU (cF n)+1<=b8 n:=by cases n;simp only[cF,b8];omega
theorem Gu (n:Nd):SizeOf.sizeOf (cF n)<SizeOf.sizeOf n:=by cases n;simp only[cF,Nd.mk.sizeOf_spec];omega
theorem VN (x:Nd) (l:List Nd) (o:List Ty):cA (x::l) (o,true)=aP 1:=by simp only[cA,if_true]
theorem VO (x:Nd) (l:List Nd) (o:List Ty):cA (x::l) (o,false)=if(mj (fq x o)).2≠0 then aP (mj (fq x o)).2 else cA l (mj (fq x o)).1:=by
 simp only[cA];rfl
theorem Yb (o:List Ty×Bool):cA [] o=(o,0):=by simp only[cA]
theorem VP {t:List Ty} {f:Bool} {e:Int} (h:e≠0):mj ((t,f),e)=aP e:=by unfold mj;rw[if_pos h]
theorem VQ {t:List Ty} {f:Bool} (h:40<t.length):mj ((t,f),0)=aP 7:=by unfold mj;rw[if_neg (by simp),if_pos h]
theorem VR {t:List Ty} {f:Bool} (h:¬40<t.length) (E:t.all bw=false):mj ((t,f),0)=aP 4:=by unfold mj;rw[if_neg (by simp),if_neg h,if_neg (by rw[E];decide)]
theorem VS {t:List Ty} {f:Bool} (h:¬40<t.length) (E:t.all bw=true):mj ((t,f),0)=((t,f),0):=by unfold mj;rw[if_neg (by simp),if_neg h,if_pos E]
attribute [local irreducible] AK ai bh bt dS aZ bw dG cA fq iW
theorem yg:∀(l:List Nd) (s:List Ty) (B:Nat),qx s->s.length<=B->40<=B->B+aU l<=9000000000->aU l<=8589934593 ->
  ag 20 [.sl 5 (aI l),.sl 2 (aq s)] (tT (cA l (s,false)))
 | l,s,B,hs,hB,Q,hBl,hl=>by
  have V:∀x∈l,∀o:List Ty,qx o->o.length<=B->ag 36 [aX x,.sl 2 (aq o)] (iW (fq x o)):=by
   intro x O o p S;have hxs:=er O;have hxa:=vI x;refine Jr x o p bn bn (yg (cF x) o B p S Q bn bn) (fun a u s' M hl'=>?_);have has:=er u;have haa:=vI a;exact yg (cF a) s' (B+1) M bn bn bn bn
  have PD:=fP l;refine qn Tryz.func20 Tryz.call20 fun β hf=>?_;refine dnw ?_;refine AK.eK (α:=Nat×(List Ty×Bool)) (fun z=>z.1<=l.length/\qx z.2.1/\z.2.1.length<=B/\cA l (s,false)=cA (l.drop z.1) z.2) (fun z=>l.length-z.1)
   (fun z=>[(16,.c (.int .i64 z.1)),(15,.c (.int .i64 (aI l).length)),(14,.c (.sl 5 (aI l))),(6,.ptr 6 0),(4,.ptr 4 0)])
   (fun z=>[(6,[.c (.sl 2 (aq z.2.1)),.c (.bool z.2.2)]),(4,[.own .exact 2 [],.c (.bool false)])]) (fun _=>[]) [6,4] (0,(s,false))
   ⟨bn,hs,hB,rfl⟩ ⟨.inl rfl,.inl rfl,.inl rfl,.inl rfl,.inl rfl,trivial⟩ ⟨rfl,rfl,trivial⟩ trivial rfl rfl rfl ?_
  rintro⟨i,⟨o,b⟩⟩ ⟨I,p,S,T⟩ ih;simp only at I p S T;rcases fT l i I with ⟨x,O,hm⟩|P
  ·have hc:=lW O;have h2:=bB O;rw[dV O]at T;cases b with
   | true =>
    rw[VN]at T;rw[T,ja];clear ih V T;obtain⟨k1,k2,k3,k4,k5⟩:=x;have ug:=ef O;exact dw
   | false =>
    rw[VO]at T;have hq:=V x hm o p S;have J:=UJ x o p;clear V;generalize fq x o=r at hq J T;obtain⟨⟨Y,H⟩,e⟩:=r;obtain⟨k1,k2,k3,k4,k5⟩:=x;by_cases P:e=0;rotate_left
    ·rw[VP P,if_pos (show(aP e).2≠0 from P)]at T;rw[TX P]at hq;rw[T,ja];have G:(e != 0)=true:=by simpa using P
     clear ih T;have BJ:=ef O;exact dw
    subst P;rw[I1]at hq;have z1:=aQ Y;by_cases W:40<Y.length
    ·rw[VQ W,if_pos (show(aP 7).2≠0 from by decide)]at T;rw[T,ja];have G:decide ((((aq Y).length:Nat):Int)>40)=true:=aam bn;clear ih T;have GU:=ef O;exact dw
    have G:decide ((((aq Y).length:Nat):Int)>40)=false:=aan bn
    repeat' (first|refine sK ?_|(refine zc ?_ ?_<;>intro h<;>first|(cases h;done)|rw[h]|skip)|refine uI rfl (i) rfl (ef O) rfl ?_|refine uC rfl hq ?_)
    refine AK.eK (α:=Nat) (fun j=>j<=Y.length/\Y.all bw=(Y.drop j).all bw) (fun j=>Y.length-j)
     (fun j=>[(42,.c (.int .i64 j)),(41,.c (.int .i64 (aq Y).length)),(40,.c (.sl 2 (aq Y))),(16,.c (.int .i64 i)),(15,.c (.int .i64 (aI l).length)),(14,.c (.sl 5 (aI l))),(6,.ptr 6 0),(4,.ptr 4 0)])
     (fun j=>[(6,[.c (.sl 2 (aq Y)),.c (.bool H)]),(4,[.own .exact 2 [],.c (.bool false)])]) (fun _=>[]) [6,4] 0
     ⟨bn,rfl⟩ ⟨.inl rfl,.inl rfl,.inl rfl,.inl rfl,.inl rfl,.inl rfl,.inl rfl,.inl rfl,trivial⟩ ⟨rfl,rfl,trivial⟩ trivial rfl rfl rfl ?_
    rintro j ⟨hj,C⟩ jh;rcases fT Y j hj with ⟨y,N,Wp⟩|D
    ·have U8:=Cu N;have K:=bB N;have hys:bA y<=2000:=J y Wp;have E:=nA y bn;rw[dV N,List.all_cons]at C;obtain⟨U,us⟩:=y;cases A:bw (.mk U us)with
     | false =>
      rw[A]at E C;rw[Bool.false_and]at C;rw[VR W C,if_pos (show(aP 4).2≠0 from by decide)]at T;rw[T,ja];clear ih jh T;have Jd:=fH N;exact dw
     | true =>
      rw[A]at E C;rw[Bool.true_and]at C
      repeat' (first|refine sK ?_|(refine zc ?_ ?_<;>intro h<;>first|(cases h;done)|rw[h]|skip)|refine uI rfl (j) rfl (fH N) rfl ?_|refine uC rfl E ?_)
      exact AK.again (jh (j+1) ⟨K,C⟩ bn) ⟨.inl (iE (i:=j) bn),.inl rfl,.inl rfl,.inl rfl,.inl rfl,.inl rfl,.inl rfl,.inl rfl,trivial⟩ ⟨rfl,rfl,trivial⟩ trivial rfl rfl rfl
    ·have U8:=yu D;have q:Y.all bw=true:=by rw[C,D,List.drop_length];rfl
     rw[VS W q,if_neg c9]at T;clear jh
     repeat' (first|refine sK ?_|(refine zc ?_ ?_<;>intro h<;>first|(cases h;done)|rw[h]|skip))
     exact AK.again (ih (i+1,(Y,H)) ⟨h2,uz q,by show Y.length<=B;omega,T⟩ u6) ⟨.inl (iE (i:=i) bn),.inl rfl,.inl rfl,.inl rfl,.inl rfl,trivial⟩ ⟨rfl,rfl,trivial⟩ trivial rfl rfl rfl
  ·have hc:=js P;have h0:cA l (s,false)=((o,b),0):=by rw[T,P,List.drop_length,Yb]
   rw[h0];clear ih T V;exact dw
termination_by l=>SizeOf.sizeOf l
decreasing_by
 all_goals
  have h1:=List.sizeOf_lt_of_mem O;have h2:=Gu x
  first
   | omega
   | ((have h3:=List.sizeOf_lt_of_mem u);have h4:=Gu a;omega)
theorem s7 (n:Nd) (s:List Ty) (H:b8 n<=8589934593) (hs:aY s<=8589934593):ag 7 [aX n,.sl 2 (aq s)] (tT (iP n s)):=by
 have h1:=pM n H;have zl:=gn s;have z1:=aQ s;unfold iP;by_cases E:dG n≠0
 ·rw[if_pos E,ja];have C:(dG n != 0)=true:=by simpa using E
  generalize dG n=z at h1 C;obtain⟨D,P,O,M,J⟩:=n;refine qn Tryz.func7 Tryz.call7 fun β hf=>?_;exact dw
 rw[if_neg E];have Y:dG n=0:=by simpa using E
 rw[Y]at h1;have W:=vI n;obtain⟨D,P,O,M,J⟩:=n;simp only[cF]at W;by_cases V:D≠3
 ·simp only[if_pos V];rw[ja];have C:(D != 3)=true:=by simpa using V
  refine qn Tryz.func7 Tryz.call7 fun β hf=>?_;exact dw
 obtain rfl:D=3:=by simpa using V
 simp only[if_neg (show ¬((3:Int)≠3)from by simp)];by_cases A:40<s.length
 ·rw[if_pos A,ja];have C:decide ((((aq s).length:Nat):Int)>40)=true:=aam bn;refine qn Tryz.func7 Tryz.call7 fun β hf=>?_;exact dw
 rw[if_neg A];have C:decide ((((aq s).length:Nat):Int)>40)=false:=aan bn;refine qn Tryz.func7 Tryz.call7 fun β hf=>?_
 repeat' (first|refine sK ?_|(refine zc ?_ ?_<;>intro h<;>first|(cases h;done)|rw[h]|skip)|refine uC rfl h1 ?_)
 refine AK.eK (α:=Nat) (fun j=>j<=s.length/\s.all bw=(s.drop j).all bw) (fun j=>s.length-j)
  (fun j=>[(25,.c (.int .i64 j)),(24,.c (.int .i64 (aq s).length)),(23,.c (.sl 2 (aq s))),(1,.c (.sl 2 (aq s))),(2,.ptr 2 0),(4,.ptr 4 0)])
  (fun j=>[(2,[.c (.int .i64 3),.c (.int .i64 P),.c (.int .i64 O),.c (.str M),.c (.sl 5 (aI J))]),(4,[.own .exact 2 [],.c (.bool false)])]) (fun _=>[]) [2,4] 0
  ⟨bn,rfl⟩ ⟨.inl rfl,.inl rfl,.inl rfl,.inl rfl,.inl rfl,.inl rfl,trivial⟩ ⟨rfl,rfl,trivial⟩ trivial rfl rfl rfl ?_
 rintro j ⟨G,T⟩ jh;rcases fT s j G with ⟨y,N,B⟩|K
 ·have u:=Cu N;have S:=bB N;have p:=cz B;have Q:=nA y bn;rw[dV N,List.all_cons]at T;obtain⟨U,us⟩:=y;cases I:bw (.mk U us)with
  | false =>
   rw[I]at Q T;rw[Bool.false_and]at T;rw[if_neg (by rw[T];decide),ja];clear jh;have Je:=fH N;exact dw
  | true =>
   rw[I]at Q T;rw[Bool.true_and]at T
   repeat' (first|refine sK ?_|(refine zc ?_ ?_<;>intro h<;>first|(cases h;done)|rw[h]|skip)|refine uI rfl (j) rfl (fH N) rfl ?_|refine uC rfl Q ?_)
   exact AK.again (jh (j+1) ⟨S,T⟩ bn) ⟨.inl (iE (i:=j) bn),.inl rfl,.inl rfl,.inl rfl,.inl rfl,.inl rfl,trivial⟩ ⟨rfl,rfl,trivial⟩ trivial rfl rfl rfl
 ·have u:=yu K;have q:s.all bw=true:=by rw[T,K,List.drop_length];rfl
  rw[if_pos q];have jT:=eI s bn;have hr:=yg J s 40 (uz q) bn bn bn bn;generalize cA J (s,false)=r at hr;obtain⟨⟨t,f⟩,e⟩:=r;clear jh;exact dw
end Go.Proofs
namespace Go.cq
mutual
def eJ:Vl->Bool
 | .mk k _ _ _ args B H =>
  if k=14 then decide ((iP (.mk 3 0 0 [] H) (B.take 1)).2=0)&&((iP (.mk 3 0 0 [] H) (B.take 1)).1.2||gI (iP (.mk 3 0 0 [] H) (B.take 1)).1.1 (B.drop 1)) && !jt H
  else eu args
def eu:List Vl->Bool
 | []=>true
 | x::l=>eJ x&&eu l
end
def jV (t:Ty) (v:Vl):Bool:=pL t v&&eJ v
def abp (p s:Ty) (n:Nd):Int :=
 if(bw p&&bw s&&ju p&&ju s)=false then 5
 else if(iP n [.mk 11 [p,s]]).2≠0 then(iP n [.mk 11 [p,s]]).2
 else if(iP n [.mk 11 [p,s]]).1.2=false/\gI (iP n [.mk 11 [p,s]]).1.1 [.mk 11 [.mk 10 [.mk 8 []],s]]=false then 5 else 0
mutual
def Yc:Vl->Bool
 | .mk k _ _ _ args B _=>(if k=14 then decide (B.length=2)else true)&&IA args
def IA:List Vl->Bool
 | []=>true
 | x::l=>Yc x&&IA l
end
mutual
theorem IB:∀(v:Vl) (t:Ty),lX t->bK v t=true->Yc v=true
 | .mk k n a s args B H,.mk T ts,ok,h=>by
  have Q:=En args;have C:=Eo args;have U:args.length=0->IA args=true:=fun h=>by rw[List.length_eq_zero_iff.1 h];rfl
  have P:=r9 ok;unfold bK at h;by_cases Y:k≠bR (.mk T ts)\/cw (.mk k n a s args B H)=false\/200<s.length
  ·rw[if_pos Y]at h;cases h
  rw[if_neg Y]at h;have A:cw (.mk k n a s args B H)=true:=by
   cases hq:cw (.mk k n a s args B H)with
   | true=>rfl
   | false=>exact absurd (.inr (.inl hq)) Y
  have E:k=T:=Decidable.byContradiction fun J=>Y (.inl J);subst E;clear Y;have d1:∀{p q:Prop} [Decidable (p/\q)],decide (p/\q)=true->q:=fun h=>(of_decide_eq_true h).2;simp only[Yc,aai];by_cases W:k=14
  ·subst W;have N:B.length=2/\a=0/\n=0/\s=[]/\args.length=0:=by simpa[cw]using A
   exact⟨by simp[N.1],U N.2.2.2.2⟩
  rw[if_neg W];refine⟨rfl,?_⟩;by_cases M:k=1\/k=6
  ·rw[if_pos M]at h;exact U (of_decide_eq_true h).2
  rw[if_neg M]at h;by_cases D:k=2
  ·rw[if_pos D]at h;exact U (of_decide_eq_true h).2.2
  rw[if_neg D]at h;by_cases K:k=3
  ·rw[if_pos K]at h;exact U (of_decide_eq_true h).2.2
  rw[if_neg K]at h;by_cases c4:k=4\/k=5
  ·rw[if_pos c4]at h;exact U (of_decide_eq_true h).2.2
  rw[if_neg c4]at h;by_cases I:k=7
  ·rw[if_pos I]at h;exact U (of_decide_eq_true h).2.2
  rw[if_neg I]at h;by_cases V:k=9
  ·rw[if_pos V,aai]at h;subst V;obtain⟨x,rfl,O⟩:=eV ok cc;exact Q x O h.2
  rw[if_neg V]at h;by_cases IV:k=10
  ·rw[if_pos IV,aai]at h;subst IV;obtain⟨x,rfl,O⟩:=eV ok cc;exact Q x O h.2
  rw[if_neg IV]at h;by_cases Mx:k=11
  ·rw[if_pos Mx,aai]at h;subst Mx;have z:=P.1;rw[show arity 11=2 from by decide]at z;exact C ts (fun x O=>P.2 x O) h.2 N2
  rw[if_neg Mx]at h;by_cases My:k=12
  ·rw[if_pos My,aai]at h;subst My;obtain⟨x,y,rfl,O,u⟩:=eL ok cc;have hn:=of_decide_eq_true h.1;rcases(show n=0\/n=1 by omega)with rfl|rfl
   ·exact Q x O h.2
   ·exact Q y u h.2
  rw[if_neg My]at h;by_cases Mz:k=13
  ·rw[if_pos Mz,aai,aai]at h;subst Mz;exact Q _ (yG ok cc) h.1.2
  rw[if_neg Mz,if_neg W]at h;by_cases S:k=15
  ·rw[if_pos S,aai]at h;subst S;obtain⟨x,rfl,O⟩:=eV ok cc;exact Q x O h.2
  rw[if_neg S]at h;by_cases G:k=8
  ·rw[if_pos G,aai,aai]at h;exact Q _ (cL h.1.2) h.2
  rw[if_neg G]at h;cases h
theorem En:∀(l:List Vl) (t:Ty),lX t->aR l t=true->IA l=true
 | [],_,_,_=>rfl
 | x::l,t,ok,h=>by
  simp only[aR,aai]at h;simp only[IA,aai];exact⟨IB x t ok h.1,En l t ok h.2⟩
theorem Eo:∀(l:List Vl) (r:List Ty),(∀x∈r,lX x)->cW l r=true->l.length<=r.length->IA l=true
 | [],_,_,_,_=>rfl
 | x::l,[],_,_,h=>by simp at h
 | x::l,t::r,ok,h,hl=>by
  simp only[cW,aai]at h;simp only[IA,aai];exact⟨IB x t (ok t c9) h.1,Eo l r (fun x O=>ok x (by simp[O])) h.2 (by simpa using hl)⟩
end
theorem VT {t:Ty} {v:Vl} (h:pL t v=true):Yc v=true:=by
 unfold pL at h;rw[aai]at h;exact IB v t (cL h.1) h.2
theorem K5:∀{l:List Vl} {x:Vl},IA l=true->x∈l->Yc x=true
 | y::l,x,h,O=>by
  simp only[IA,aai]at h;rcases List.mem_cons.1 O with rfl|O
  ·exact h.1
  ·exact K5 h.2 O
theorem Gv:∀l:List Vl,eu l = !(l.any fun x => !eJ x)
 | []=>rfl
 | x::l=>by simp only[eu,List.any_cons,Gv l,Bool.not_or,Bool.not_not]
end Go.cq
namespace Go.Proofs
open Go.cq
theorem Eb (k n a:Int) (s:List UInt8) (args:List Vl) (p q:Ty) (H:List Nd) (D:k=14):eJ (.mk k n a s args [p,q] H) =
  (decide ((iP (.mk 3 0 0 [] H) [p]).2=0)&&((iP (.mk 3 0 0 [] H) [p]).1.2||gI (iP (.mk 3 0 0 [] H) [p]).1.1 [q]) && !jt H):=by
 unfold eJ;rw[if_pos D];rfl
theorem NI (k n a:Int) (s:List UInt8) (args:List Vl) (B:List Ty) (H:List Nd) (D:k≠14):eJ (.mk k n a s args B H)=eu args:=by
 rw[eJ,if_neg D]
attribute [local irreducible] AK ai bh bt dS aZ bw dG cA fq iP jt eJ eu pL fC ju
theorem Bz:∀(v:Vl),Yc v=true->aM v<=8589934593->ag 40 [bM v] (.bool (eJ v))
 | .mk k n a s args B H,h2,Y=>by
  simp only[aM]at Y;simp only[Yc,aai]at h2;by_cases D:k=14
  ·rw[if_pos D]at h2;obtain⟨p,q,rfl⟩:=BA (of_decide_eq_true h2.1);rw[Eb k n a s args p q H D];subst D;simp only[aY]at Y;have K:=s7 (.mk 3 0 0 [] H) [p] (by simp only[b8,aad];omega) (by simp only[aY];omega);have M:=uw H bn;have E := @zR (.mk 3 0 0 [] H) [p];generalize iP (.mk 3 0 0 [] H) [p]=r at K E;obtain⟨⟨t,f⟩,e⟩:=r;simp only at E ⊢;by_cases P:e=0;rotate_left
   ·have C:(e==0)=false:=by simpa using P
    rw[aan P,Bool.false_and,Bool.false_and];refine qn Tryz.func40 Tryz.call40 fun β hf=>?_;exact dw
   subst P;rw[aam rfl,Bool.true_and];have G:=A0 t [q] (uz (E rfl).1) (by have:=(E rfl).2.1;omega);cases f with
   | true =>
    rw[Bool.true_or,Bool.true_and];refine qn Tryz.func40 Tryz.call40 fun β hf=>?_;exact dw
   | false =>
    rw[Bool.false_or];cases hq:gI t [q]with
    | false =>
     rw[hq]at G;rw[Bool.false_and];refine qn Tryz.func40 Tryz.call40 fun β hf=>?_;exact dw
    | true =>
     rw[hq]at G;rw[Bool.true_and];refine qn Tryz.func40 Tryz.call40 fun β hf=>?_;exact dw
  ·rw[NI k n a s args B H D,Gv];have C:(k==14)=false:=by simpa using D
   have W:∀x∈args,ag 53 (bM x::[]) (.bool (!eJ x)):=fun x O=>by
    have M:=dO O;have hq:=Bz x (K5 h2.2 O) bn;obtain⟨N,T,J,I,S,V,U⟩:=x;refine qn Tryz.func53 Tryz.call53 fun β hf=>?_;exact dw
   have Q:=gM args;have hq:=sI args (fun x => !eJ x) 53 [] W bn;clear W;refine qn Tryz.func40 Tryz.call40 fun β hf=>?_;exact dw
termination_by v=>SizeOf.sizeOf v
decreasing_by
 have:=List.sizeOf_lt_of_mem O;simp at this ⊢;omega
theorem C2 (t:Ty) (v:Vl) (M:bA t<=8589934593) (W:aM v<=8589934593):ag 23 [eB t,bM v] (.bool (jV t v)):=by
 have h1:=QD t v M W;unfold jV;cases Y:pL t v with
 | false =>
  rw[Y]at h1;rw[Bool.false_and];obtain⟨T,ts⟩:=t;obtain⟨O,u,J,C,S,I,E⟩:=v;refine qn Tryz.func23 Tryz.call23 fun β hf=>?_;exact dw
 | true =>
  have h2:=Bz v (VT Y) W;rw[Y]at h1;rw[Bool.true_and];obtain⟨T,ts⟩:=t;obtain⟨O,u,J,C,S,I,E⟩:=v;refine qn Tryz.func23 Tryz.call23 fun β hf=>?_;exact dw
end Go.Proofs
namespace Go.Proofs
open Go.cq
mutual
theorem Ep:∀(t:Nd) (d:Int),ep t d=0->b8 t<=many t*201
 | .mk kind n p s args,d,h=>by
  obtain⟨h1,h2⟩:=jF h;have V:=(mh h1).2.2.2.2.2.2.2.2;have W:=BB args _ h2;simp only[b8,many];omega
theorem BB:∀(l:List Nd) (d:Int),dg l d=0->aU l<=cI l*201
 | [],_,_=>by simp[aU]
 | x::l,d,h=>by
  simp only[dg]at h;by_cases Y:ep x d=0
  ·rw[if_pos Y]at h;have h1:=Ep x d Y;have h2:=BB l d h;simp only[aU,cI];omega
  ·rw[if_neg Y]at h;exact absurd h Y
end
theorem yb {n:Nd} (h:dG n=0):b8 n<=60300:=by
 obtain⟨h1,h2⟩:=kr.1 h;have:=Ep n 1 h1;omega
theorem jv {t:Ty} (ok:lX t) (i:Nat):bA (aE t i)<=300:=by
 obtain⟨T,ts⟩:=t;have h2:=ok.2;simp only[bA]at h2;show bA (ts.getD i lA)<=300;rw[List.getD_eq_getElem?_getD];cases h:ts[i]? with
 | none=>simp[bA,lA,aY]
 | some x=>have:=cz (aaw h);simp only[Option.getD_some];omega
theorem TY {k n a:Int} {s:List UInt8} {args:List Vl} {B:List Ty} {H:List Nd} {t:Ty} (ok:lX t) (h:bK (.mk k n a s args B H) t=true) (W:eJ (.mk k n a s args B H)=true):s.length+aY B+aU H+1<=62000:=by
 unfold bK at h;by_cases p:k≠bR t\/cw (.mk k n a s args B H)=false\/200<s.length
 ·rw[if_pos p]at h;cases h
 rw[if_neg p]at h;have A:cw (.mk k n a s args B H)=true:=by
  cases hq:cw (.mk k n a s args B H)with
  | true=>rfl
  | false=>exact absurd (.inr (.inl hq)) p
 have G:s.length<=200:=by omega
 clear p;by_cases V:k=14
 ·subst V;simp only[eJ,if_true,aai]at W;have K:=yB (of_decide_eq_true W.1.1);have Q:=yb K.1;simp only[b8,aad]at Q;have Y:B.length=2/\a=0/\n=0/\s=[]/\args.length=0:=by simpa[cw]using A
  have E:(cP (aE t 0) (B.getD 0 lA)&&cP (aE t 1) (B.getD 1 lA))=true:=by simpa using h
  simp only[aai]at E;have U:=(gh _ _).1 E.1;have C:=(gh _ _).1 E.2;rcases B with _|⟨u,_|⟨w,_|⟨z,r⟩⟩⟩
  ·simp at Y
  ·simp at Y
  ·simp only[aag,aah]at U C;have P:=jv ok 0;have O:=jv ok 1;rw[U]at P;rw[C]at O;simp only[aY];omega
  ·simp at Y
 by_cases T:k=8
 ·subst T;have Y:B.length=1/\H.length=0/\s=[]:=by simpa[cw]using A
  have E:bw (B.getD 0 lA)=true:=by
   simp at h;exact h.1.2
  rw[List.length_eq_zero_iff.1 Y.2.1];rcases B with _|⟨u,_|⟨w,r⟩⟩
  ·simp at Y
  ·have:=(cL E).2;simp only[aag]at this;simp only[aY,aU];omega
  ·simp at Y
 have hq:B.length=0/\H.length=0:=by
  unfold cw at A;dsimp only at A;by_cases S:k=15
  ·rw[if_pos S]at A;have:=of_decide_eq_true A;exact⟨this.1,this.2.1⟩
  rw[if_neg S,if_neg T,if_neg V]at A;by_cases I:k=6
  ·rw[if_pos I]at A;have:=of_decide_eq_true A;exact⟨this.1,this.2.1⟩
  ·rw[if_neg I]at A;have:=of_decide_eq_true A;exact⟨this.1,this.2.1⟩
 rw[List.length_eq_zero_iff.1 hq.1,List.length_eq_zero_iff.1 hq.2];simp only[aY,aU];omega
mutual
theorem AR:∀(v:Vl) (t:Ty),lX t->bK v t=true->eJ v=true->aM v<=lB v*62000
 | .mk k n a s args B H,.mk T ts,ok,h,Y=>by
  have Q:=zG args;have C:=zH args;have U:args.length=0->aJ args<=jj args*62000:=fun h=>by rw[List.length_eq_zero_iff.1 h];simp[aJ]
  have I:=r9 ok;have W:=TY ok h Y;unfold bK at h;by_cases V:k≠bR (.mk T ts)\/cw (.mk k n a s args B H)=false\/200<s.length
  ·rw[if_pos V]at h;cases h
  rw[if_neg V]at h;have hp:cw (.mk k n a s args B H)=true:=by
   cases hq:cw (.mk k n a s args B H)with
   | true=>rfl
   | false=>exact absurd (.inr (.inl hq)) V
  have hk:k=T:=Decidable.byContradiction fun J=>V (.inl J);subst hk;clear V;have d1:∀{p q:Prop} [Decidable (p/\q)],decide (p/\q)=true->q:=fun h=>(of_decide_eq_true h).2
  suffices hs:aJ args<=jj args*62000 by
   simp only[aM,lB]at W ⊢;omega
  by_cases P:k=14
  ·subst P;have Af:B.length=2/\a=0/\n=0/\s=[]/\args.length=0:=by simpa[cw]using hp
   exact U Af.2.2.2.2
  have S:eu args=true:=by simpa[eJ,P]using Y
  replace Q:=fun t ok h=>Q t ok h S;replace C:=fun r ok h A=>C r ok h A S;by_cases G:k=1\/k=6
  ·rw[if_pos G]at h;exact U (of_decide_eq_true h).2
  rw[if_neg G]at h;by_cases D:k=2
  ·rw[if_pos D]at h;exact U (of_decide_eq_true h).2.2
  rw[if_neg D]at h;by_cases E:k=3
  ·rw[if_pos E]at h;exact U (of_decide_eq_true h).2.2
  rw[if_neg E]at h;by_cases c4:k=4\/k=5
  ·rw[if_pos c4]at h;exact U (of_decide_eq_true h).2.2
  rw[if_neg c4]at h;by_cases u:k=7
  ·rw[if_pos u]at h;exact U (of_decide_eq_true h).2.2
  rw[if_neg u]at h;by_cases N:k=9
  ·rw[if_pos N,aai]at h;subst N;obtain⟨x,rfl,O⟩:=eV ok cc;exact Q x O h.2
  rw[if_neg N]at h;by_cases IV:k=10
  ·rw[if_pos IV,aai]at h;subst IV;obtain⟨x,rfl,O⟩:=eV ok cc;exact Q x O h.2
  rw[if_neg IV]at h;by_cases Mx:k=11
  ·rw[if_pos Mx,aai]at h;subst Mx;have z:=I.1;rw[show arity 11=2 from by decide]at z;exact C ts (fun x O=>I.2 x O) h.2 N2
  rw[if_neg Mx]at h;by_cases My:k=12
  ·rw[if_pos My,aai]at h;subst My;obtain⟨x,y,rfl,O,M⟩:=eL ok cc;have hn:=of_decide_eq_true h.1;rcases(show n=0\/n=1 by omega)with rfl|rfl
   ·exact Q x O h.2
   ·exact Q y M h.2
  rw[if_neg My]at h;by_cases Mz:k=13
  ·rw[if_pos Mz,aai,aai]at h;subst Mz;exact Q _ (yG ok cc) h.1.2
  rw[if_neg Mz,if_neg P]at h;by_cases K:k=15
  ·rw[if_pos K,aai]at h;subst K;obtain⟨x,rfl,O⟩:=eV ok cc;exact Q x O h.2
  rw[if_neg K]at h;by_cases c8:k=8
  ·rw[if_pos c8,aai,aai]at h;exact Q _ (cL h.1.2) h.2
  rw[if_neg c8]at h;cases h
theorem zG:∀(l:List Vl) (t:Ty),lX t->aR l t=true->eu l=true->aJ l<=jj l*62000
 | [],_,_,_,_=>by simp[aJ]
 | x::l,t,ok,h,Y=>by
  simp only[aR,aai]at h;simp only[eu,aai]at Y;have e1:=AR x t ok h.1 Y.1;have e2:=zG l t ok h.2 Y.2;simp only[aJ,jj];omega
theorem zH:∀(l:List Vl) (r:List Ty),(∀x∈r,lX x)->cW l r=true->l.length<=r.length->eu l=true->aJ l<=jj l*62000
 | [],_,_,_,_,_=>by simp[aJ]
 | x::l,[],_,_,h,_=>by simp at h
 | x::l,t::r,ok,h,A,Y=>by
  simp only[cW,aai]at h;simp only[eu,aai]at Y;simp only[aac]at A;have e1:=AR x t (ok t c9) h.1 Y.1;have e2:=zH l r (fun y M=>ok y (by simp[M])) h.2 bn Y.2;simp only[aJ,jj];omega
end
theorem QE {v:Vl} {t:Ty} (h:jV t v=true):aM v<=lB v*62000:=by
 unfold jV pL at h;simp only[aai]at h;exact AR v t (cL h.1.1) h.1.2 h.2
end Go.Proofs
