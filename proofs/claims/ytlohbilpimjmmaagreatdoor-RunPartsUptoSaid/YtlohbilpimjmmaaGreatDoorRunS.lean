/- What row and Code of package check answer. What sound, Fits and Script of package check answer. Package run: types and sizes of what its machine holds. -/
import Derived.Test.YtlohbilpimjmmaaGreatDoorChkC
import Derived.Test.YtlohbilpimjmmaaGreatDoorVal8
import Derived.Test.YtlohbilpimjmmaaGreatDoorKind5
set_option maxHeartbeats 0
set_option linter.unusedVariables false
set_option linter.unusedSimpArgs false
set_option maxRecDepth 100000
namespace Go.Proofs
open Go.cu
theorem TC {t:List Ty} {f:Bool} {e:Int} (h:e≠0):iU ((t,f),e) = .gB [.agg [.any,.any],.int .i64 e]:=by unfold iU;rw[if_neg h]
theorem vC (n:Nd):aQ (bh n)+1<=bN n:=by cases n;simp only[bh,bN];omega
theorem Ge (n:Nd):SizeOf.sizeOf (bh n)<SizeOf.sizeOf n:=by cases n;simp only[bh,Nd.mk.sizeOf_spec];omega
theorem Vu (x:Nd) (l:List Nd) (o:List Ty):cw (x::l) (o,true)=aP 1:=by simp only[cw,if_true]
theorem Vv (x:Nd) (l:List Nd) (o:List Ty):cw (x::l) (o,false)=if(lG (eX x o)).2≠0 then aP (lG (eX x o)).2 else cw l (lG (eX x o)).1:=by
 simp only[cw];rfl
theorem XV (o:List Ty×Bool):cw [] o=(o,0):=by simp only[cw]
theorem Vw {t:List Ty} {f:Bool} {e:Int} (h:e≠0):lG ((t,f),e)=aP e:=by unfold lG;rw[if_pos h]
theorem Vx {t:List Ty} {f:Bool} (h:40<t.length):lG ((t,f),0)=aP 7:=by unfold lG;rw[if_neg (by simp),if_pos h]
theorem Vy {t:List Ty} {f:Bool} (h:¬40<t.length) (Q:t.all bA=false):lG ((t,f),0)=aP 4:=by unfold lG;rw[if_neg (by simp),if_neg h,if_neg (by rw[Q];decide)]
theorem Vz {t:List Ty} {f:Bool} (h:¬40<t.length) (Q:t.all bA=true):lG ((t,f),0)=((t,f),0):=by unfold lG;rw[if_neg (by simp),if_neg h,if_pos Q]
attribute [local irreducible] AK ai bw bz dN aZ bA dj cw eX iU
theorem x8:∀(l:List Nd) (s:List Ty) (B:Nat),qv s->s.length<=B->40<=B->B+aQ l<=9000000000->aQ l<=8589934593 ->
  ah 20 [.sl 5 (aH l),.sl 2 (aE s)] (qz (cw l (s,false)))
 | l,s,B,hs,hB,Q,hBl,hl=>by
  have W:∀x∈l,∀o:List Ty,qv o->o.length<=B->ah 36 [aW x,.sl 2 (aE o)] (iU (eX x o)):=by
   intro x O o q V;have hxs:=ee O;have hxa:=vC x;refine I8 x o q bn bn (x8 (bh x) o B q V Q bn bn) (fun a C s' N hl'=>?_);have has:=ee C;have haa:=vC a;exact x8 (bh a) s' (B+1) N bn bn bn bn
  have Pm:=eL l;refine qn Tryz.func20 Tryz.call20 fun β hf=>?_;refine dnw ?_;refine AK.eM (α:=Nat×(List Ty×Bool)) (fun z=>z.1<=l.length/\qv z.2.1/\z.2.1.length<=B/\cw l (s,false)=cw (l.drop z.1) z.2) (fun z=>l.length-z.1)
   (fun z=>[(16,.c (.int .i64 z.1)),(15,.c (.int .i64 (aH l).length)),(14,.c (.sl 5 (aH l))),(6,.ptr 6 0),(4,.ptr 4 0)])
   (fun z=>[(6,[.c (.sl 2 (aE z.2.1)),.c (.bool z.2.2)]),(4,[.own .exact 2 [],.c (.bool false)])]) (fun _=>[]) [6,4] (0,(s,false))
   ⟨bn,hs,hB,rfl⟩ ⟨.inl rfl,.inl rfl,.inl rfl,.inl rfl,.inl rfl,trivial⟩ ⟨rfl,rfl,trivial⟩ trivial rfl rfl rfl ?_
  rintro⟨i,⟨o,b⟩⟩ ⟨I,q,V,p⟩ ih;simp only at I q V p;rcases gf l i I with ⟨x,O,hm⟩|P
  ·have hc:=lq O;have h2:=bD O;rw[dO O]at p;cases b with
   | true =>
    rw[Vu]at p;rw[p,iZ];clear ih W p;obtain⟨k1,k2,k3,k4,k5⟩:=x;have tW:=dX O;exact dw
   | false =>
    rw[Vv]at p;have hq:=W x hm o q V;have H:=Uo x o q;clear W;generalize eX x o=r at hq H p;obtain⟨⟨S,G⟩,e⟩:=r;obtain⟨k1,k2,k3,k4,k5⟩:=x;by_cases P:e=0;rotate_left
    ·rw[Vw P,if_pos (show(aP e).2≠0 from P)]at p;rw[TC P]at hq;rw[p,iZ];have E:(e != 0)=true:=by simpa using P
     clear ih p;have BD:=dX O;exact dw
    subst P;rw[IF]at hq;have z1:=aY S;by_cases Y:40<S.length
    ·rw[Vx Y,if_pos (show(aP 7).2≠0 from by decide)]at p;rw[p,iZ];have E:decide ((((aE S).length:Nat):Int)>40)=true:=aan bn;clear ih p;have GH:=dX O;exact dw
    have E:decide ((((aE S).length:Nat):Int)>40)=false:=aaw bn
    repeat' (first|refine qo ?_|(refine zc ?_ ?_<;>intro h<;>first|(cases h;done)|rw[h]|skip)|refine uI rfl (i) rfl (dX O) rfl ?_|refine uC rfl hq ?_)
    refine AK.eM (α:=Nat) (fun j=>j<=S.length/\S.all bA=(S.drop j).all bA) (fun j=>S.length-j)
     (fun j=>[(42,.c (.int .i64 j)),(41,.c (.int .i64 (aE S).length)),(40,.c (.sl 2 (aE S))),(16,.c (.int .i64 i)),(15,.c (.int .i64 (aH l).length)),(14,.c (.sl 5 (aH l))),(6,.ptr 6 0),(4,.ptr 4 0)])
     (fun j=>[(6,[.c (.sl 2 (aE S)),.c (.bool G)]),(4,[.own .exact 2 [],.c (.bool false)])]) (fun _=>[]) [6,4] 0
     ⟨bn,rfl⟩ ⟨.inl rfl,.inl rfl,.inl rfl,.inl rfl,.inl rfl,.inl rfl,.inl rfl,.inl rfl,trivial⟩ ⟨rfl,rfl,trivial⟩ trivial rfl rfl rfl ?_
    rintro j ⟨hj,K⟩ jh;rcases gf S j hj with ⟨y,A,Y8⟩|D
    ·have Xb:=Gx A;have M:=bD A;have hys:bC y<=2000:=H y Y8;have J:=nq y bn;rw[dO A,List.all_cons]at K;obtain⟨U,us⟩:=y;cases u:bA (.mk U us)with
     | false =>
      rw[u]at J K;rw[Bool.false_and]at K;rw[Vy Y K,if_pos (show(aP 4).2≠0 from by decide)]at p;rw[p,iZ];clear ih jh p;have IU:=fQ A;exact dw
     | true =>
      rw[u]at J K;rw[Bool.true_and]at K
      repeat' (first|refine qo ?_|(refine zc ?_ ?_<;>intro h<;>first|(cases h;done)|rw[h]|skip)|refine uI rfl (j) rfl (fQ A) rfl ?_|refine uC rfl J ?_)
      exact AK.again (jh (j+1) ⟨M,K⟩ bn) ⟨.inl (iD (i:=j) bn),.inl rfl,.inl rfl,.inl rfl,.inl rfl,.inl rfl,.inl rfl,.inl rfl,trivial⟩ ⟨rfl,rfl,trivial⟩ trivial rfl rfl rfl
    ·have Xb:=BT D;have T:S.all bA=true:=by rw[K,D,List.drop_length];rfl
     rw[Vz Y T,if_neg cn]at p;clear jh
     repeat' (first|refine qo ?_|(refine zc ?_ ?_<;>intro h<;>first|(cases h;done)|rw[h]|skip))
     exact AK.again (ih (i+1,(S,G)) ⟨h2,uo T,by show S.length<=B;omega,p⟩ tV) ⟨.inl (iD (i:=i) bn),.inl rfl,.inl rfl,.inl rfl,.inl rfl,trivial⟩ ⟨rfl,rfl,trivial⟩ trivial rfl rfl rfl
  ·have hc:=iX P;have h0:cw l (s,false)=((o,b),0):=by rw[p,P,List.drop_length,XV]
   rw[h0];clear ih p W;exact dw
termination_by l=>SizeOf.sizeOf l
decreasing_by
 all_goals
  have h1:=List.sizeOf_lt_of_mem O;have h2:=Ge x
  first
   | omega
   | ((have h3:=List.sizeOf_lt_of_mem C);have h4:=Ge a;omega)
theorem pN (n:Nd) (s:List Ty) (q:bN n<=8589934593) (hs:br s<=8589934593):ah 7 [aW n,.sl 2 (aE s)] (qz (fK n s)):=by
 have h1:=pJ n q;have zl:=iG s;have z1:=aY s;unfold fK;by_cases Q:dj n≠0
 ·rw[if_pos Q,iZ];have Y:(dj n != 0)=true:=by simpa using Q
  generalize dj n=z at h1 Y;obtain⟨W,M,J,I,V⟩:=n;refine qn Tryz.func7 Tryz.call7 fun β hf=>?_;exact dw
 rw[if_neg Q];have S:dj n=0:=by simpa using Q
 rw[S]at h1;have P:=vC n;obtain⟨W,M,J,I,V⟩:=n;simp only[bh]at P;by_cases D:W≠3
 ·simp only[if_pos D];rw[iZ];have Y:(W != 3)=true:=by simpa using D
  refine qn Tryz.func7 Tryz.call7 fun β hf=>?_;exact dw
 obtain rfl:W=3:=by simpa using D
 simp only[if_neg (show ¬((3:Int)≠3)from by simp)];by_cases C:40<s.length
 ·rw[if_pos C,iZ];have Y:decide ((((aE s).length:Nat):Int)>40)=true:=aan bn;refine qn Tryz.func7 Tryz.call7 fun β hf=>?_;exact dw
 rw[if_neg C];have Y:decide ((((aE s).length:Nat):Int)>40)=false:=aaw bn;refine qn Tryz.func7 Tryz.call7 fun β hf=>?_
 repeat' (first|refine qo ?_|(refine zc ?_ ?_<;>intro h<;>first|(cases h;done)|rw[h]|skip)|refine uC rfl h1 ?_)
 refine AK.eM (α:=Nat) (fun j=>j<=s.length/\s.all bA=(s.drop j).all bA) (fun j=>s.length-j)
  (fun j=>[(25,.c (.int .i64 j)),(24,.c (.int .i64 (aE s).length)),(23,.c (.sl 2 (aE s))),(1,.c (.sl 2 (aE s))),(2,.ptr 2 0),(4,.ptr 4 0)])
  (fun j=>[(2,[.c (.int .i64 3),.c (.int .i64 M),.c (.int .i64 J),.c (.str I),.c (.sl 5 (aH V))]),(4,[.own .exact 2 [],.c (.bool false)])]) (fun _=>[]) [2,4] 0
  ⟨bn,rfl⟩ ⟨.inl rfl,.inl rfl,.inl rfl,.inl rfl,.inl rfl,.inl rfl,trivial⟩ ⟨rfl,rfl,trivial⟩ trivial rfl rfl rfl ?_
 rintro j ⟨E,K⟩ jh;rcases gf s j E with ⟨y,A,B⟩|H
 ·have u:=Gx A;have O:=bD A;have p:=cF B;have N:=nq y bn;rw[dO A,List.all_cons]at K;obtain⟨U,us⟩:=y;cases G:bA (.mk U us)with
  | false =>
   rw[G]at N K;rw[Bool.false_and]at K;rw[if_neg (by rw[K];decide),iZ];clear jh;have IV:=fQ A;exact dw
  | true =>
   rw[G]at N K;rw[Bool.true_and]at K
   repeat' (first|refine qo ?_|(refine zc ?_ ?_<;>intro h<;>first|(cases h;done)|rw[h]|skip)|refine uI rfl (j) rfl (fQ A) rfl ?_|refine uC rfl N ?_)
   exact AK.again (jh (j+1) ⟨O,K⟩ bn) ⟨.inl (iD (i:=j) bn),.inl rfl,.inl rfl,.inl rfl,.inl rfl,.inl rfl,trivial⟩ ⟨rfl,rfl,trivial⟩ trivial rfl rfl rfl
 ·have u:=BT H;have T:s.all bA=true:=by rw[K,H,List.drop_length];rfl
  rw[if_pos T];have jV:=eJ s bn;have hr:=x8 V s 40 (uo T) bn bn bn bn;generalize cw V (s,false)=r at hr;obtain⟨⟨t,f⟩,e⟩:=r;clear jh;exact dw
end Go.Proofs
namespace Go.cu
mutual
def eK:Vl->Bool
 | .mk k _ _ _ args H B =>
  if k=14 then decide ((fK (.mk 3 0 0 [] B) (H.take 1)).2=0)&&((fK (.mk 3 0 0 [] B) (H.take 1)).1.2||gN (fK (.mk 3 0 0 [] B) (H.take 1)).1.1 (H.drop 1)) && !ju B
  else ey args
def ey:List Vl->Bool
 | []=>true
 | x::l=>eK x&&ey l
end
def ld (t:Ty) (v:Vl):Bool:=pI t v&&eK v
def abd (p s:Ty) (n:Nd):Int :=
 if(bA p&&bA s&&jv p&&jv s)=false then 5
 else if(fK n [.mk 11 [p,s]]).2≠0 then(fK n [.mk 11 [p,s]]).2
 else if(fK n [.mk 11 [p,s]]).1.2=false/\gN (fK n [.mk 11 [p,s]]).1.1 [.mk 11 [.mk 10 [.mk 8 []],s]]=false then 5 else 0
mutual
def XW:Vl->Bool
 | .mk k _ _ _ args H _=>(if k=14 then decide (H.length=2)else true)&&Ij args
def Ij:List Vl->Bool
 | []=>true
 | x::l=>XW x&&Ij l
end
mutual
theorem Ik:∀(v:Vl) (t:Ty),lS t->bL v t=true->XW v=true
 | .mk k n a s args H B,.mk T ts,ok,h=>by
  have M:=Ed args;have D:=Ee args;have A:args.length=0->Ij args=true:=fun h=>by rw[List.length_eq_zero_iff.1 h];rfl
  have S:=rV ok;unfold bL at h;by_cases I:k≠bS (.mk T ts)\/cB (.mk k n a s args H B)=false\/200<s.length
  ·rw[if_pos I]at h;cases h
  rw[if_neg I]at h;have E:cB (.mk k n a s args H B)=true:=by
   cases hq:cB (.mk k n a s args H B)with
   | true=>rfl
   | false=>exact absurd (.inr (.inl hq)) I
  have C:k=T:=Decidable.byContradiction fun Y=>I (.inl Y);subst C;clear I;have d1:∀{p q:Prop} [Decidable (p/\q)],decide (p/\q)=true->q:=fun h=>(of_decide_eq_true h).2;simp only[XW,aaj];by_cases W:k=14
  ·subst W;have Q:H.length=2/\a=0/\n=0/\s=[]/\args.length=0:=by simpa[cB]using E
   exact⟨by simp[Q.1],A Q.2.2.2.2⟩
  rw[if_neg W];refine⟨rfl,?_⟩;by_cases P:k=1\/k=6
  ·rw[if_pos P]at h;exact A (of_decide_eq_true h).2
  rw[if_neg P]at h;by_cases J:k=2
  ·rw[if_pos J]at h;exact A (of_decide_eq_true h).2.2
  rw[if_neg J]at h;by_cases N:k=3
  ·rw[if_pos N]at h;exact A (of_decide_eq_true h).2.2
  rw[if_neg N]at h;by_cases c4:k=4\/k=5
  ·rw[if_pos c4]at h;exact A (of_decide_eq_true h).2.2
  rw[if_neg c4]at h;by_cases K:k=7
  ·rw[if_pos K]at h;exact A (of_decide_eq_true h).2.2
  rw[if_neg K]at h;by_cases V:k=9
  ·rw[if_pos V,aaj]at h;subst V;obtain⟨x,rfl,O⟩:=eY ok cc;exact M x O h.2
  rw[if_neg V]at h;by_cases Lk:k=10
  ·rw[if_pos Lk,aaj]at h;subst Lk;obtain⟨x,rfl,O⟩:=eY ok cc;exact M x O h.2
  rw[if_neg Lk]at h;by_cases PV:k=11
  ·rw[if_pos PV,aaj]at h;subst PV;have z:=S.1;rw[show arity 11=2 from by decide]at z;exact D ts (fun x O=>S.2 x O) h.2 L5
  rw[if_neg PV]at h;by_cases PW:k=12
  ·rw[if_pos PW,aaj]at h;subst PW;obtain⟨x,y,rfl,O,u⟩:=eN ok cc;have hn:=of_decide_eq_true h.1;rcases(show n=0\/n=1 by omega)with rfl|rfl
   ·exact M x O h.2
   ·exact M y u h.2
  rw[if_neg PW]at h;by_cases PX:k=13
  ·rw[if_pos PX,aaj,aaj]at h;subst PX;exact M _ (yu ok cc) h.1.2
  rw[if_neg PX,if_neg W]at h;by_cases U:k=15
  ·rw[if_pos U,aaj]at h;subst U;obtain⟨x,rfl,O⟩:=eY ok cc;exact M x O h.2
  rw[if_neg U]at h;by_cases G:k=8
  ·rw[if_pos G,aaj,aaj]at h;exact M _ (cL h.1.2) h.2
  rw[if_neg G]at h;cases h
theorem Ed:∀(l:List Vl) (t:Ty),lS t->aR l t=true->Ij l=true
 | [],_,_,_=>rfl
 | x::l,t,ok,h=>by
  simp only[aR,aaj]at h;simp only[Ij,aaj];exact⟨Ik x t ok h.1,Ed l t ok h.2⟩
theorem Ee:∀(l:List Vl) (r:List Ty),(∀x∈r,lS x)->cX l r=true->l.length<=r.length->Ij l=true
 | [],_,_,_,_=>rfl
 | x::l,[],_,_,h=>by simp at h
 | x::l,t::r,ok,h,hl=>by
  simp only[cX,aaj]at h;simp only[Ij,aaj];exact⟨Ik x t (ok t cn) h.1,Ee l r (fun x O=>ok x (by simp[O])) h.2 (by simpa using hl)⟩
end
theorem VA {t:Ty} {v:Vl} (h:pI t v=true):XW v=true:=by
 unfold pI at h;rw[aaj]at h;exact Ik v t (cL h.1) h.2
theorem KN:∀{l:List Vl} {x:Vl},Ij l=true->x∈l->XW x=true
 | y::l,x,h,O=>by
  simp only[Ij,aaj]at h;rcases List.mem_cons.1 O with rfl|O
  ·exact h.1
  ·exact KN h.2 O
theorem Gf:∀l:List Vl,ey l = !(l.any fun x => !eK x)
 | []=>rfl
 | x::l=>by simp only[ey,List.any_cons,Gf l,Bool.not_or,Bool.not_not]
end Go.cu
namespace Go.Proofs
open Go.cu
theorem D7 (k n a:Int) (s:List UInt8) (args:List Vl) (p q:Ty) (B:List Nd) (D:k=14):eK (.mk k n a s args [p,q] B) =
  (decide ((fK (.mk 3 0 0 [] B) [p]).2=0)&&((fK (.mk 3 0 0 [] B) [p]).1.2||gN (fK (.mk 3 0 0 [] B) [p]).1.1 [q]) && !ju B):=by
 unfold eK;rw[if_pos D];rfl
theorem Nr (k n a:Int) (s:List UInt8) (args:List Vl) (H:List Ty) (B:List Nd) (D:k≠14):eK (.mk k n a s args H B)=ey args:=by
 rw[eK,if_neg D]
attribute [local irreducible] AK ai bw bz dN aZ bA dj cw eX fK ju eK ey pI fG jv
theorem Bu:∀(v:Vl),XW v=true->aM v<=8589934593->ah 40 [bP v] (.bool (eK v))
 | .mk k n a s args H B,h2,T=>by
  simp only[aM]at T;simp only[XW,aaj]at h2;by_cases D:k=14
  ·rw[if_pos D]at h2;obtain⟨p,q,rfl⟩:=Bv (of_decide_eq_true h2.1);rw[D7 k n a s args p q B D];subst D;simp only[br]at T;have E:=pN (.mk 3 0 0 [] B) [p] (by simp only[bN,aab];omega) (by simp only[br];omega);have u:=uj B bn;have Q := @rP (.mk 3 0 0 [] B) [p];generalize fK (.mk 3 0 0 [] B) [p]=r at E Q;obtain⟨⟨t,f⟩,e⟩:=r;simp only at Q ⊢;by_cases P:e=0;rotate_left
   ·have A:(e==0)=false:=by simpa using P
    rw[aaw P,Bool.false_and,Bool.false_and];refine qn Tryz.func40 Tryz.call40 fun β hf=>?_;exact dw
   subst P;rw[aan rfl,Bool.true_and];have Y:=AS t [q] (uo (Q rfl).1) (by have:=(Q rfl).2.1;omega);cases f with
   | true =>
    rw[Bool.true_or,Bool.true_and];refine qn Tryz.func40 Tryz.call40 fun β hf=>?_;exact dw
   | false =>
    rw[Bool.false_or];cases hq:gN t [q]with
    | false =>
     rw[hq]at Y;rw[Bool.false_and];refine qn Tryz.func40 Tryz.call40 fun β hf=>?_;exact dw
    | true =>
     rw[hq]at Y;rw[Bool.true_and];refine qn Tryz.func40 Tryz.call40 fun β hf=>?_;exact dw
  ·rw[Nr k n a s args H B D,Gf];have A:(k==14)=false:=by simpa using D
   have W:∀x∈args,ah 53 (bP x::[]) (.bool (!eK x)):=fun x O=>by
    have u:=ew O;have hq:=Bu x (KN h2.2 O) bn;obtain⟨V,U,N,S,M,K,J⟩:=x;refine qn Tryz.func53 Tryz.call53 fun β hf=>?_;exact dw
   have I:=iI args;have hq:=sB args (fun x => !eK x) 53 [] W bn;clear W;refine qn Tryz.func40 Tryz.call40 fun β hf=>?_;exact dw
termination_by v=>SizeOf.sizeOf v
decreasing_by
 have:=List.sizeOf_lt_of_mem O;simp at this ⊢;omega
theorem Nq (t:Ty) (v:Vl) (M:bC t<=8589934593) (W:aM v<=8589934593):ah 23 [eC t,bP v] (.bool (ld t v)):=by
 have h1:=Qu t v M W;unfold ld;cases Y:pI t v with
 | false =>
  rw[Y]at h1;rw[Bool.false_and];obtain⟨T,ts⟩:=t;obtain⟨V,P,U,H,u,Q,O⟩:=v;refine qn Tryz.func23 Tryz.call23 fun β hf=>?_;exact dw
 | true =>
  have h2:=Bu v (VA Y) W;rw[Y]at h1;rw[Bool.true_and];obtain⟨T,ts⟩:=t;obtain⟨V,P,U,H,u,Q,O⟩:=v;refine qn Tryz.func23 Tryz.call23 fun β hf=>?_;exact dw
end Go.Proofs
namespace Go.Proofs
open Go.cu
mutual
theorem Ef:∀(t:Nd) (d:Int),ef t d=0->bN t<=many t*201
 | .mk kind n p s args,d,h=>by
  obtain⟨h1,h2⟩:=hM h;have V:=(l8 h1).2.2.2.2.2.2.2.2;have D:=Bw args _ h2;simp only[bN,many];omega
theorem Bw:∀(l:List Nd) (d:Int),cU l d=0->aQ l<=cr l*201
 | [],_,_=>by simp[aQ]
 | x::l,d,h=>by
  simp only[cU]at h;by_cases Y:ef x d=0
  ·rw[if_pos Y]at h;have h1:=Ef x d Y;have h2:=Bw l d h;simp only[aQ,cr];omega
  ·rw[if_neg Y]at h;exact absurd h Y
end
theorem xW {n:Nd} (h:dj n=0):bN n<=60300:=by
 obtain⟨h1,h2⟩:=gr.1 h;have:=Ef n 1 h1;omega
theorem jw {t:Ty} (ok:lS t) (i:Nat):bC (aD t i)<=300:=by
 obtain⟨T,ts⟩:=t;have h2:=ok.2;simp only[bC]at h2;show bC (ts.getD i lF)<=300;rw[List.getD_eq_getElem?_getD];cases h:ts[i]? with
 | none=>simp[bC,lF,br]
 | some x=>have:=cF (aaz h);simp only[Option.getD_some];omega
theorem TD {k n a:Int} {s:List UInt8} {args:List Vl} {H:List Ty} {B:List Nd} {t:Ty} (ok:lS t) (h:bL (.mk k n a s args H B) t=true) (V:eK (.mk k n a s args H B)=true):s.length+br H+aQ B+1<=62000:=by
 unfold bL at h;by_cases I:k≠bS t\/cB (.mk k n a s args H B)=false\/200<s.length
 ·rw[if_pos I]at h;cases h
 rw[if_neg I]at h;have T:cB (.mk k n a s args H B)=true:=by
  cases hq:cB (.mk k n a s args H B)with
  | true=>rfl
  | false=>exact absurd (.inr (.inl hq)) I
 have K:s.length<=200:=by omega
 clear I;by_cases U:k=14
 ·subst U;simp only[eK,if_true,aaj]at V;have E:=sF (of_decide_eq_true V.1.1);have N:=xW E.1;simp only[bN,aab]at N;have Y:H.length=2/\a=0/\n=0/\s=[]/\args.length=0:=by simpa[cB]using T
  have W:(cP (aD t 0) (H.getD 0 lF)&&cP (aD t 1) (H.getD 1 lF))=true:=by simpa using h
  simp only[aaj]at W;have S:=(gm _ _).1 W.1;have A:=(gm _ _).1 W.2;rcases H with _|⟨u,_|⟨w,_|⟨z,r⟩⟩⟩
  ·simp at Y
  ·simp at Y
  ·simp only[aad,aai]at S A;have M:=jw ok 0;have q:=jw ok 1;rw[S]at M;rw[A]at q;simp only[br];omega
  ·simp at Y
 by_cases Q:k=8
 ·subst Q;have Y:H.length=1/\B.length=0/\s=[]:=by simpa[cB]using T
  have W:bA (H.getD 0 lF)=true:=by
   simp at h;exact h.1.2
  rw[List.length_eq_zero_iff.1 Y.2.1];rcases H with _|⟨u,_|⟨w,r⟩⟩
  ·simp at Y
  ·have:=(cL W).2;simp only[aad]at this;simp only[br,aQ];omega
  ·simp at Y
 have hq:H.length=0/\B.length=0:=by
  unfold cB at T;dsimp only at T;by_cases P:k=15
  ·rw[if_pos P]at T;have:=of_decide_eq_true T;exact⟨this.1,this.2.1⟩
  rw[if_neg P,if_neg Q,if_neg U]at T;by_cases O:k=6
  ·rw[if_pos O]at T;have:=of_decide_eq_true T;exact⟨this.1,this.2.1⟩
  ·rw[if_neg O]at T;have:=of_decide_eq_true T;exact⟨this.1,this.2.1⟩
 rw[List.length_eq_zero_iff.1 hq.1,List.length_eq_zero_iff.1 hq.2];simp only[br,aQ];omega
mutual
theorem AJ:∀(v:Vl) (t:Ty),lS t->bL v t=true->eK v=true->aM v<=lJ v*62000
 | .mk k n a s args H B,.mk T ts,ok,h,Y=>by
  have M:=zx args;have J:=zy args;have A:args.length=0->aL args<=jk args*62000:=fun h=>by rw[List.length_eq_zero_iff.1 h];simp[aL]
  have K:=rV ok;have V:=TD ok h Y;unfold bL at h;by_cases I:k≠bS (.mk T ts)\/cB (.mk k n a s args H B)=false\/200<s.length
  ·rw[if_pos I]at h;cases h
  rw[if_neg I]at h;have hp:cB (.mk k n a s args H B)=true:=by
   cases hq:cB (.mk k n a s args H B)with
   | true=>rfl
   | false=>exact absurd (.inr (.inl hq)) I
  have hk:k=T:=Decidable.byContradiction fun U=>I (.inl U);subst hk;clear I;have d1:∀{p q:Prop} [Decidable (p/\q)],decide (p/\q)=true->q:=fun h=>(of_decide_eq_true h).2
  suffices hs:aL args<=jk args*62000 by
   simp only[aM,lJ]at V ⊢;omega
  by_cases S:k=14
  ·subst S;have yG:H.length=2/\a=0/\n=0/\s=[]/\args.length=0:=by simpa[cB]using hp
   exact A yG.2.2.2.2
  have W:ey args=true:=by simpa[eK,S]using Y
  replace M:=fun t ok h=>M t ok h W;replace J:=fun r ok h C=>J r ok h C W;by_cases G:k=1\/k=6
  ·rw[if_pos G]at h;exact A (of_decide_eq_true h).2
  rw[if_neg G]at h;by_cases D:k=2
  ·rw[if_pos D]at h;exact A (of_decide_eq_true h).2.2
  rw[if_neg D]at h;by_cases E:k=3
  ·rw[if_pos E]at h;exact A (of_decide_eq_true h).2.2
  rw[if_neg E]at h;by_cases c4:k=4\/k=5
  ·rw[if_pos c4]at h;exact A (of_decide_eq_true h).2.2
  rw[if_neg c4]at h;by_cases u:k=7
  ·rw[if_pos u]at h;exact A (of_decide_eq_true h).2.2
  rw[if_neg u]at h;by_cases Q:k=9
  ·rw[if_pos Q,aaj]at h;subst Q;obtain⟨x,rfl,O⟩:=eY ok cc;exact M x O h.2
  rw[if_neg Q]at h;by_cases Lk:k=10
  ·rw[if_pos Lk,aaj]at h;subst Lk;obtain⟨x,rfl,O⟩:=eY ok cc;exact M x O h.2
  rw[if_neg Lk]at h;by_cases PV:k=11
  ·rw[if_pos PV,aaj]at h;subst PV;have z:=K.1;rw[show arity 11=2 from by decide]at z;exact J ts (fun x O=>K.2 x O) h.2 L5
  rw[if_neg PV]at h;by_cases PW:k=12
  ·rw[if_pos PW,aaj]at h;subst PW;obtain⟨x,y,rfl,O,P⟩:=eN ok cc;have hn:=of_decide_eq_true h.1;rcases(show n=0\/n=1 by omega)with rfl|rfl
   ·exact M x O h.2
   ·exact M y P h.2
  rw[if_neg PW]at h;by_cases PX:k=13
  ·rw[if_pos PX,aaj,aaj]at h;subst PX;exact M _ (yu ok cc) h.1.2
  rw[if_neg PX,if_neg S]at h;by_cases N:k=15
  ·rw[if_pos N,aaj]at h;subst N;obtain⟨x,rfl,O⟩:=eY ok cc;exact M x O h.2
  rw[if_neg N]at h;by_cases c8:k=8
  ·rw[if_pos c8,aaj,aaj]at h;exact M _ (cL h.1.2) h.2
  rw[if_neg c8]at h;cases h
theorem zx:∀(l:List Vl) (t:Ty),lS t->aR l t=true->ey l=true->aL l<=jk l*62000
 | [],_,_,_,_=>by simp[aL]
 | x::l,t,ok,h,Y=>by
  simp only[aR,aaj]at h;simp only[ey,aaj]at Y;have e1:=AJ x t ok h.1 Y.1;have e2:=zx l t ok h.2 Y.2;simp only[aL,jk];omega
theorem zy:∀(l:List Vl) (r:List Ty),(∀x∈r,lS x)->cX l r=true->l.length<=r.length->ey l=true->aL l<=jk l*62000
 | [],_,_,_,_,_=>by simp[aL]
 | x::l,[],_,_,h,_=>by simp at h
 | x::l,t::r,ok,h,C,Y=>by
  simp only[cX,aaj]at h;simp only[ey,aaj]at Y;simp only[aaa]at C;have e1:=AJ x t (ok t cn) h.1 Y.1;have e2:=zy l r (fun y P=>ok y (by simp[P])) h.2 bn Y.2;simp only[aL,jk];omega
end
theorem Qv {v:Vl} {t:Ty} (h:ld t v=true):aM v<=lJ v*62000:=by
 unfold ld pI at h;simp only[aaj]at h;exact AJ v t (cL h.1.1) h.1.2 h.2
end Go.Proofs
