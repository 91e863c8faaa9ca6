/- What move of package check answers. The types that a step leads to are small. What numbers of package check answers. -/
import Derived.Test.YtlohbilpimjmmaaGreatDoorChkA
import Derived.Test.YtlohbilpimjmmaaGreatDoorBits
import Derived.Test.YtlohbilpimjmmaaGreatDoorKind5
import Derived.Test.YtlohbilpimjmmaaGreatDoorChk3
set_option maxHeartbeats 0
set_option linter.unusedVariables false
set_option linter.unusedSimpArgs false
set_option maxRecDepth 100000
namespace Go.Proofs
open Go.cu
attribute [local irreducible] AK ai bw bz dN lE
theorem GD (T:Int) (us:List Ty):fJ 95 [.v (.own 2 []),.v (.c (.int .i64 0)),.v (.c (.sl 2 [eC (.mk T us)]))] [.own 2 [eC (.mk T us)]] []:=by
 refine bz.tI Tryz.func95 rfl (fun args w=>Tryz.call95 args w) (Nat.le_of_ble_eq_true rfl) [(0,.own (.tok 1000000 0) 2 ([])),(1,.c (.int .i64 0)),(2,.c (.sl 2 [eC (.mk T us)]))] [] [(1000000,0)] [1000000] rfl rfl fun β=>?_;have hf:=Tryz.func95
 repeat' (first|refine qo ?_|refine zr ?_ ?_|(refine zc ?_ ?_<;>intro h<;>first|(cases h;done)|rw[h]|skip)|(refine uA rfl ?_ ?_<;>(try (show(_:Nat)*_<=_;dsimp only))))
 all_goals first|exact rfl|(show _<=_;simp only[aaa,aab];omega)
theorem NN {s:List Ty} {i:Nat} {t:Ty} (h:s[i]?=some t):s.getD i lF=t:=by rw[List.getD_eq_getElem?_getD,h];rfl
theorem IQ (P nN:Int) (nS:List UInt8) (args:List Nd) (H s:List Ty) (hP:40<=P/\P<=44) (hf:bQ P args=some H) (hs:qv s) (C:s.length<=9999999990) :
  ah 62 [aW (.mk 2 nN P nS args),.sl 2 (aE s)] (iU (gu P args s)):=by
 have Pj:P=40\/P=41\/P=42\/P=43\/P=44:=by omega
 clear hP;rcases Pj with rfl|rfl|rfl|rfl|rfl
 ·obtain⟨rfl,rfl⟩:=cZ hf rfl;clear hf;rcases s with _|⟨⟨T,us⟩,r⟩
  ·rw[show gu 40 [] []=aP 5 from by simp[gu],aB cc];refine qn Tryz.func62 Tryz.call62 fun β hf=>?_;exact dw
  ·rw[show gu 40 [] (.mk T us::r)=ep r from by simp[gu],aG];have el:=xg (aE (.mk T us::r)) 0 sk;have A:=jq r;rw[aG]at A;refine qn Tryz.func62 Tryz.call62 fun β hf=>?_;exact dw
 ·obtain⟨N,p,S,xs,rfl,K,n2,rfl⟩:=GF hf rfl;clear hf;have D:=aY s;by_cases Y:1<=N;rotate_left
  ·rw[show gu 41 [.mk 0 N p S xs] s=aP 5 from by unfold gu;rw[if_neg cc,if_neg cc,if_pos rfl];exact if_neg (fun h=>Y h.1),aB cc];have e1:decide (N>=1)=false:=aaw Y;refine qn Tryz.func62 Tryz.call62 fun β hf=>?_;exact dw
  have e1:decide (N>=1)=true:=aan Y;by_cases c2:N<=s.length;rotate_left
  ·rw[show gu 41 [.mk 0 N p S xs] s=aP 5 from by unfold gu;rw[if_neg cc,if_neg cc,if_pos rfl];exact if_neg (fun h=>c2 h.2.1),aB cc];have E:decide (N<=(((aE s).length:Nat):Int))=false:=aaw bn;refine qn Tryz.func62 Tryz.call62 fun β hf=>?_;exact dw
  have E:decide (N<=(((aE s).length:Nat):Int))=true:=aan bn;obtain⟨j,hj⟩:∃j:Nat,N-1=(j:Int):=⟨(N-1).toNat,bn⟩
  have O:IntKind.i64.wrap (N-1)=(j:Int):=by rw[gZ bn bn,hj]
  obtain⟨t,M⟩:∃t,s[j]?=some t:=⟨s[j]' bn,cn⟩
  have B:=hs t (aaz M);have htz:=B.2;have J:=sG t bn;have I:=fQ M;have hgd:=NN M;have u:IM ([Nd.mk 0 N p S xs].getD 0 sE)=N:=rfl;have hNj:(N-1).toNat=j:=by omega
  have W:gu 41 [.mk 0 N p S xs] s=if lE t=true then ep (t::s)else aP 5:=by
   unfold gu;rw[if_neg cc,if_neg cc,if_pos rfl,u,hNj,hgd];by_cases V:lE t=true
   ·rw[if_pos ⟨Y,c2,V⟩,if_pos V]
   ·rw[if_neg (fun h=>V h.2.2),if_neg V]
  rw[W];obtain⟨T,us⟩:=t;cases V:lE (.mk T us)with
  | false =>
   rw[V]at J;rw[if_neg cc,aB cc];refine qn Tryz.func62 Tryz.call62 fun β hf=>?_
   repeat' (first|refine qo ?_|(refine zc ?_ ?_<;>intro h<;>first|(cases h;done)|rw[h]|skip)|refine uI rfl (0) rfl (rfl) rfl ?_|refine uI rfl j O I rfl ?_|refine uC rfl J ?_|((first|refine zt ?_|refine zu ?_ ?_)<;>intro h<;>(fail_if_success (cases h;done))<;>rw[h]))
   all_goals first|exact Wk.refl _|exact zI rfl rfl
  | true =>
   rw[V]at J;have A:=bF s [.mk T us];rw[aG]at A;rw[if_pos rfl,aG];refine qn Tryz.func62 Tryz.call62 fun β hf=>?_
   repeat' (first|refine qo ?_|(refine zc ?_ ?_<;>intro h<;>first|(cases h;done)|rw[h]|skip)|refine uI rfl (0) rfl (rfl) rfl ?_|refine uI rfl j O I rfl ?_|refine uC rfl J ?_|refine uC rfl A ?_|((first|refine zt ?_|refine zu ?_ ?_)<;>intro h<;>(fail_if_success (cases h;done))<;>rw[h]))
   all_goals first|exact Wk.refl _|exact zI rfl rfl
 ·obtain⟨rfl,rfl⟩:=cZ hf rfl;clear hf;rcases s with _|⟨⟨T,us⟩,_|⟨⟨U,vs⟩,q⟩⟩
  ·rw[show gu 42 [] []=aP 5 from by simp[gu],aB cc];refine qn Tryz.func62 Tryz.call62 fun β hf=>?_;exact dw
  ·rw[show gu 42 [] [.mk T us]=aP 5 from by simp[gu],aB cc];refine qn Tryz.func62 Tryz.call62 fun β hf=>?_;exact dw
  ·rw[show gu 42 [] (.mk T us :: .mk U vs::q)=ep (.mk U vs :: .mk T us::q)from by simp[gu],aG];have el:=xg (aE (.mk T us :: .mk U vs::q)) 1 sk;have A:=bF q [.mk U vs,.mk T us];rw[aG]at A;refine qn Tryz.func62 Tryz.call62 fun β hf=>?_;exact dw
 ·obtain⟨N,p,S,xs,rfl,K,n2,rfl⟩:=GF hf rfl;clear hf;have D:=aY s;obtain⟨j,rfl⟩:=Int.eq_ofNat_of_zero_le K;have u:IM ([Nd.mk 0 (j:Int) p S xs].getD 0 sE)=(j:Int):=rfl;by_cases Y:(j:Int)<s.length;rotate_left
  ·rw[show gu 43 [.mk 0 j p S xs] s=aP 5 from by unfold gu;rw[if_neg cc,if_neg cc,if_neg cc,if_pos rfl,u];exact if_neg Y,aB cc];have E:decide ((j:Int)<(((aE s).length:Nat):Int))=false:=aaw bn;refine qn Tryz.func62 Tryz.call62 fun β hf=>?_;exact dw
  have QM:j<s.length:=by omega
  have E:decide ((j:Int)<(((aE s).length:Nat):Int))=true:=aan bn;obtain⟨t,M⟩:∃t,s[j]?=some t:=⟨s[j],by simp[QM]⟩
  have I:=fQ M
  rw[show gu 43 [.mk 0 j p S xs] s=ep (t::(s.take j++s.drop (j+1)))from by
   unfold gu;rw[if_neg cc,if_neg cc,if_neg cc,if_pos rfl,u,if_pos Y,aaA,NN M],aG]
  have O:IntKind.i64.wrap ((j:Int)+1)=((j+1:Nat):Int):=by rw[gZ bn bn];rfl
  have zM:=IS s j QM bn;rw[<- O]at zM;have A:=bF (s.take j++s.drop (j+1)) [t] Rl;rw[aG]at A;clear M;rcases s with _|⟨a,l⟩
  ·simp at QM
  have G:=uk a l VT;obtain⟨T,us⟩:=t;refine qn Tryz.func62 Tryz.call62 fun β hf=>?_
  repeat' (first|refine qo ?_|(refine zc ?_ ?_<;>intro h<;>first|(cases h;done)|rw[h]|skip)|refine uI rfl (0) rfl (rfl) rfl ?_|refine uI rfl j rfl I rfl ?_|refine uC rfl A ?_|refine ai.lz kn rfl rfl rfl rfl rfl rfl G rfl ?_|refine ai.GG kn rfl rfl rfl rfl rfl rfl rfl zM rfl rfl ?_|((first|refine zt ?_|refine zu ?_ ?_)<;>intro h<;>(fail_if_success (cases h;done))<;>rw[h]))
  all_goals first|exact Wk.refl _|exact zI rfl rfl
 ·obtain⟨N,p,S,xs,rfl,K,n2,rfl⟩:=GF hf rfl;clear hf;have D:=aY s;obtain⟨j,rfl⟩:=Int.eq_ofNat_of_zero_le K;have u:IM ([Nd.mk 0 (j:Int) p S xs].getD 0 sE)=(j:Int):=rfl;rcases s with _|⟨⟨T,us⟩,r⟩
  ·rw[show gu 44 [.mk 0 j p S xs] []=aP 5 from by simp[gu],aB cc];have E:decide ((j:Int)<((([]:List CV).length:Nat):Int))=false:=aaw cn;refine qn Tryz.func62 Tryz.call62 fun β hf=>?_;exact dw
  have W:gu 44 [.mk 0 j p S xs] (.mk T us::r)=if(j:Int)<r.length+1 then ep (r.take j ++ .mk T us::r.drop j)else aP 5:=by
   unfold gu;rw[if_neg cc,if_neg cc,if_neg cc,if_neg cc,if_pos rfl];simp only[u,aaA]
  rw[W];simp only[aaa]at C D;by_cases Y:(j:Int)<r.length+1;rotate_left
  ·rw[if_neg Y,aB cc];have E:decide ((j:Int)<(((aE (.mk T us::r)).length:Nat):Int))=false:=aaw bn;refine qn Tryz.func62 Tryz.call62 fun β hf=>?_;exact dw
  rw[if_pos Y,aG];have E:decide ((j:Int)<(((aE (.mk T us::r)).length:Nat):Int))=true:=aan bn;rcases r with _|⟨a,l⟩
  ·obtain rfl:j=0:=by simp at Y;omega
   have G:=eJ [] cn;have Q:=GD T us;refine qn Tryz.func62 Tryz.call62 fun β hf=>?_;exact dw
  ·have G:=uk a l VT;have Q:=IT (a::l) (.mk T us) j cn bn (by simp only[aaa]at *;omega);refine qn Tryz.func62 Tryz.call62 fun β hf=>?_
   repeat' (first|refine qo ?_|(refine zc ?_ ?_<;>intro h<;>first|(cases h;done)|rw[h]|skip)|refine uI rfl (0) rfl (rfl) rfl ?_|refine ai.lz kn rfl rfl rfl rfl rfl rfl G rfl ?_|refine ai.GG kn rfl rfl rfl rfl rfl rfl rfl Q rfl rfl ?_|((first|refine zt ?_|refine zu ?_ ?_)<;>intro h<;>(fail_if_success (cases h;done))<;>rw[h]))
   all_goals first|exact Wk.refl _|exact zI rfl rfl
end Go.Proofs
namespace Go.cu
def Sm (r:CR):Prop:=∀t∈r.1.1,bC t<=2000
def Fj (s:List Ty):Prop:=∀t∈s,bC t<=2000
theorem fZ {s:List Ty} (h:Fj s):Sm (ep s):=h
theorem bZ (e:Int):Sm (aP e):=fun t M=>by simp[aP]at M
theorem bG {p:Prop} [Decidable p] {a b:CR} (h1:Sm a) (h2:Sm b):Sm (if p then a else b):=by grind
theorem dH {t:Ty} {s:List Ty} (h1:bC t<=2000) (h2:Fj s):Fj (t::s):=fun x O=>by
 rcases List.mem_cons.1 O with rfl|O
 ·exact h1
 ·exact h2 x O
theorem qU {s:List Ty} (h:qv s):Fj s:=fun t M=>by have:=(h t M).2;omega
theorem zN {a b:List Ty} (h1:Fj a) (h2:Fj b):Fj (a++b):=fun x O=>by
 rcases List.mem_append.1 O with O|O
 ·exact h1 x O
 ·exact h2 x O
theorem um {a b:CR} (p:Sm a) (Y:Sm b):Sm (cT a b):=by
 unfold cT;refine bG (bZ _) (bG (bZ _) (bG Y (bG p (bZ _))))
theorem jw (a:Ty) (i:Nat):bC (aD a i)<=bC a:=by
 obtain⟨T,l⟩:=a;show bC (l.getD i lF)<=_;rw[List.getD_eq_getElem?_getD];cases h:l[i]? with
 | none=>simp only[Option.getD_none,lF,bC,br];omega
 | some x =>
  have:=cF (aaz h);simp only[Option.getD_some,bC];omega
theorem AX (a:Ty):br (au a)+1=bC a:=by
 obtain⟨T,l⟩:=a;rfl
theorem vM {s:List Ty} (h:∀t∈s,bC t<=300) (i:Nat):bC (s.getD i lF)<=300:=by
 rw[List.getD_eq_getElem?_getD];cases Y:s[i]? with
 | none=>simp only[Option.getD_none,lF,bC,br];omega
 | some x=>exact h x (aaz Y)
theorem ym:∀(Y:List UInt8) (l:List Nd) (acc r:List Ty),qv acc->ja Y l acc=some r->qv r
 | [],l,acc,r,h,e=>by simp only[ja]at e;simp at e;subst e;exact h
 | w::Y,[],acc,r,h,e=>by simp only[ja]at e;simp at e;subst e;exact h
 | w::Y,.mk kind N P S xs::l,acc,r,h,e=>by
  simp only[ja]at e;split at e
  ·split at e
   ·exact ym Y l acc r h e
   ·cases e
  ·split at e
   ·split at e
    ·exact ym Y l acc r h e
    ·cases e
   ·split at e
    ·split at e
     ·rename_i V D;refine ym Y l _ r (fun t M=>?_) e;rcases List.mem_append.1 M with M|M
      ·exact h t M
      ·simp at M;subst M;exact cL (kj D)
     ·cases e
    ·exact ym Y l acc r h e
theorem Q8 {P:Int} {args:List Nd} {H:List Ty} (h:bQ P args=some H):qv H:=by
 unfold bQ at h;split at h
 ·cases h
 ·exact ym _ _ _ _ NO h
theorem jN {P:Int} {args:List Nd} {H:List Ty} (h:bQ P args=some H):H.length<=args.length:=by
 unfold bQ at h;split at h
 ·cases h
 ·have:∀(Y:List UInt8) (l:List Nd) (acc r:List Ty),ja Y l acc=some r->r.length<=acc.length+l.length:=by
   intro Y
   induction Y with
   | nil=>intro l acc r e;simp only[ja]at e;simp at e;subst e;omega
   | cons w Y S =>
    intro l acc r e;cases l with
    | nil=>simp only[ja]at e;simp at e;subst e;omega
    | cons x l =>
     obtain⟨k,n,p,s,xs⟩:=x;simp only[ja]at e;simp only[aaa];split at e
     ·grind
     ·grind
  have:=this _ _ _ _ h;simpa using this
theorem WI {l:List Ty} (h:br l<=2000):Fj l:=fun t M=>by have:=cF M;omega
theorem Um (P:Int) (args:List Nd) (s:List Ty) (Y:qv s):Sm (gu P args s):=by
 have B:=qU Y;have Q:=fun i=>vM (fun t M=>(Y t M).2) (s:=s) i;unfold gu;refine bG ?_ (bG ?_ (bG ?_ (bG ?_ (bG ?_ (bZ _)))))
 ·rcases s with _|⟨a,r⟩
  ·exact bZ _
  ·exact fZ (fun t M=>B t (List.mem_cons_of_mem _ M))
 ·rcases s with _|⟨a,_|⟨b,r⟩⟩
  ·exact bZ _
  ·exact bZ _
  ·exact fZ (dH (B b cn) (dH (B a cn) (fun t M=>B t (by simp[M]))))
 ·exact bG (fZ (dH (by have:=Q (IM (args.getD 0 sE)-1).toNat;omega) B)) (bZ _)
 ·refine bG (fZ (dH (by have:=Q (IM (args.getD 0 sE)).toNat;omega) (zN ?_ ?_))) (bZ _)
  ·exact fun t M=>B t (List.mem_of_mem_take M)
  ·exact fun t M=>B t (List.mem_of_mem_drop M)
 ·rcases s with _|⟨a,r⟩
  ·exact bZ _
  ·refine bG (fZ (zN ?_ (dH (B a cn) ?_))) (bZ _)
   ·exact fun t M=>B t (List.mem_cons_of_mem _ (List.mem_of_mem_take M))
   ·exact fun t M=>B t (List.mem_cons_of_mem _ (List.mem_of_mem_drop M))
theorem Q9 (P:Int) (p:List (List Ty->CR)) (H s:List Ty) (Y:qv s) (M:qv H) (E:∀i W,Fj W->Sm (aS p i W)):Sm (aX P p H s):=by
 have B:=qU Y;have Q:=fun i=>vM (fun t h=>(M t h).2) (s:=H) i;have g0:=Q 0;unfold aX;refine bG (fZ (dH gD B)) (bG (fZ (dH gD B)) ?_);rcases s with _|⟨a,r⟩
 ·exact bZ _
 have C:=(Y a cn).2;have I:Fj r:=fun t h=>B t nt;have V:=jw a 0;have U:=jw a 1;have T:=AX a;dsimp only;refine bG (fZ (dH gD I)) (bG (fZ (dH gD I)) (bG (fZ (dH gD I)) (bG ?_ (bG ?_ (bG ?_ (bG ?_ (bG ?_ (bG ?_ (bG ?_ (bG ?_ (bZ _)))))))))))
 ·rcases r with _|⟨b,q⟩
  ·exact bZ _
  ·have S:=(Y b cn).2;exact fZ (dH gD (fun t h=>I t nt))
 ·exact bG (fZ (zN (WI bn) I)) (bZ _)
 ·exact bG (fZ (dH bn I)) (bZ _)
 ·exact bG (fZ (dH bn I)) (bZ _)
 ·rcases r with _|⟨b,q⟩
  ·exact bZ _
  ·exact bG (fZ I) (bZ _)
 ·exact bG (um (E _ _ (dH bn I)) (E _ _ (dH bn I))) (bZ _)
 ·exact bG (um (E _ _ I) (E _ _ (dH bn I))) (bZ _)
 ·exact bG (um (E _ _ (dH bn (dH bn I))) (E _ _ I)) (bZ _)
theorem Ra (P:Int) (p:List (List Ty->CR)) (H s:List Ty) (Y:qv s) (M:qv H) (C:H.length<=2) (E:∀i W,Fj W->Sm (aS p i W)):Sm (cK P p H s):=by
 have B:=qU Y;have V:br H<=600:=by
  rcases H with _|⟨a,_|⟨b,_|⟨c,l⟩⟩⟩
  ·simp[br]
  ·have:=(M a cn).2;simp only[br];omega
  ·have h1:=(M a cn).2;have h2:=(M b cn).2;simp only[br];omega
  ·simp at C
 unfold cK;refine bG (bG (fZ (dH (by simp only[bC];omega) B)) (bZ _)) (bG ?_ (bG ?_ (bG ?_ (bG ?_ (bZ _)))))
 ·rcases s with _|⟨a,r⟩
  ·exact bZ _
  ·exact bG (fZ (dH SV (fun t h=>B t nt))) (bZ _)
 ·rcases s with _|⟨a,r⟩
  ·exact bZ _
  ·have I:Fj r:=fun t h=>B t nt;have U:=(Y a cn).2;have T:=jw a 0;have S:=AX a;refine bG (um (E _ _ (dH ?_ I)) (fZ I)) (bZ _);split
   ·simp only[bC];omega
   ·omega
 ·rcases s with _|⟨a,_|⟨b,q⟩⟩
  ·exact bZ _
  ·exact bZ _
  ·have Q:=(Y b cn).2;have O:=jw b 1;exact bG (fZ (dH gD (fun t h=>B t nt))) (bZ _)
 ·rcases s with _|⟨a,_|⟨b,_|⟨c,q⟩⟩⟩
  ·exact bZ _
  ·exact bZ _
  ·exact bZ _
  ·exact bG (fZ (fun t h=>B t (by simp at h ⊢;rcases h with h|h<;>simp[h]))) (bZ _)
theorem Ly (P:Int) (args:List Nd) (p:List (List Ty->CR)) (H s:List Ty) (Y:qv s) (M:qv H) (C:H.length<=2) (E:∀i W,Fj W->Sm (aS p i W)):Sm (cI P args p H s):=by
 have B:=qU Y;have V:br H<=600:=by
  rcases H with _|⟨a,_|⟨b,_|⟨c,l⟩⟩⟩
  ·simp[br]
  ·have:=(M a cn).2;simp only[br];omega
  ·have h1:=(M a cn).2;have h2:=(M b cn).2;simp only[br];omega
  ·simp at C
 unfold cI;refine bG (bG (bZ _) (bG (bZ _) (fZ (dH (by simp only[bC];omega) B)))) (bG ?_ (bG ?_ (bG ?_ (bG ?_ (bZ _)))))
 ·rcases s with _|⟨a,r⟩
  ·exact bZ _
  ·have I:Fj r:=fun t h=>B t nt;exact bG (um (E _ _ I) (E _ _ I)) (bZ _)
 ·rcases s with _|⟨a,r⟩
  ·exact bZ _
  ·have I:Fj r:=fun t h=>B t nt;exact bG (bG (bZ _) (fZ I)) (bZ _)
 ·rcases s with _|⟨a,_|⟨b,q⟩⟩
  ·exact bZ _
  ·exact bZ _
  ·have U:=(Y b cn).2;have T:=jw b 1;exact bG (fZ (dH bn (fun t h=>B t nt))) (bZ _)
 ·rcases s with _|⟨a,r⟩
  ·exact bZ _
  ·have I:Fj r:=fun t h=>B t nt;exact bG (bZ _) (bG (bZ _) (fZ (dH (B a cn) (E 0 r I))))
theorem Lz (P:Int) (s:List Ty) (Y:qv s):Sm (bU P s):=by
 have B:=qU Y;unfold bU;rcases s with _|⟨a,_|⟨b,q⟩⟩
 all_goals
  dsimp only
  repeat' (first|refine bG ?_ ?_|exact bZ _|refine fZ (dH SV ?_)|exact fun t h=>B t nt|(intro t h;simp at h))
 all_goals exact fun t h=>B t (by simp at h ⊢;simp[h])
theorem Un (P:Int) (H s:List Ty) (Y:qv s) (M:qv H):Sm (ct P H s):=by
 have B:=qU Y;have g0:=vM (fun t h=>(M t h).2) (s:=H) 0;unfold ct;rcases s with _|⟨a,r⟩
 ·exact bZ _
 have I:Fj r:=fun t h=>B t nt;dsimp only
 refine bG ?_ (bG (bG (fZ (dH SV I)) (bZ _)) (bG (bG (fZ B) (bZ _)) (bG ?_ (bG ?_ (bG (bG (fZ (dH SV I)) (bZ _))
  (bG (bG (fZ (dH gD I)) (bZ _)) (bG (bG (fun t h=>by simp at h) (bZ _)) (bZ _))))))))
 ·rcases r with _|⟨b,q⟩
  ·exact bZ _
  ·exact bG (fZ (dH SV (fun t h=>I t nt))) (bZ _)
 ·rcases r with _|⟨b,q⟩
  ·exact bZ _
  ·exact bG (fZ I) (bZ _)
 ·rcases r with _|⟨b,q⟩
  ·exact bZ _
  ·exact bG (fZ I) (bZ _)
theorem Rb (P:Int) (H s:List Ty) (Y:qv s):Sm (b8 P H s):=by
 have B:=qU Y;unfold b8;refine bG (fZ (dH SV B)) (bG (fZ (dH SV B)) ?_);rcases s with _|⟨a,r⟩
 ·exact bZ _
 have p:=(Y a cn).2;have W:=jw a 0;have I:Fj r:=fun t h=>B t nt;dsimp only;refine bG ?_ (bG ?_ (bG ?_ (bG ?_ (bG ?_ (bZ _)))))
 ·rcases r with _|⟨b,q⟩
  ·exact bZ _
  ·exact X4
 ·exact bG (fZ (dH gD B)) (bZ _)
 ·rcases r with _|⟨b,q⟩
  ·exact bZ _
  ·exact X4
 ·exact bG (fZ (dH gD I)) (bZ _)
 ·rcases r with _|⟨b,_|⟨c,q⟩⟩
  ·exact bZ _
  ·exact bZ _
  ·exact X4
theorem LA:∀(l:List Nd) (o:List Ty×Bool),Fj o.1->Sm (cw l o)
 | [],o,h=>by simp only[cw];exact h
 | n::l,o,h=>by
  simp only[cw];refine bG (bZ _) ?_;by_cases h2:(lG (eX n o.1)).2≠0
  ·rw[if_pos h2];exact bZ _
  ·rw[if_neg h2];obtain⟨u,C,G,K⟩:=rO (r:=eX n o.1) uG;rw[C];exact LA l _ (qU (uo K))
theorem CB (x:Nd) (l:List Nd) (i:Nat) (s:List Ty):aS (bf (x::l)) i s=match i with|0=>cw (bh x) (s,false)|i+1=>aS (bf l) i s:=by
 rw[AY];cases i<;>simp[aS]
theorem yo:∀(l:List Nd) (i:Nat) (P:List Ty),Fj P->Sm (aS (bf l) i P)
 | [],i,P,h=>by simp only[bf,aS,List.getD_nil];exact bZ _
 | x::l,0,P,h=>by rw[CB];exact LA _ _ h
 | x::l,i+1,P,h=>by rw[CB];exact yo l i P h
theorem Pn {P:Int} {args:List Nd} {H:List Ty} (h:bQ P args=some H):H.length<=2:=by
 have h1:=jN h;by_cases Y:P=66
 ·subst Y;obtain⟨x,y,N,p,S,xs,t,u,rfl,rfl,_⟩:=Fk h rfl;simp
 ·have h2:(fS P).length<=2:=by
   unfold fS
   repeat' split
   all_goals simp_all
  unfold bQ at h;split at h
  ·cases h
  ·omega
theorem Rc (P:Int) (args:List Nd) (H s:List Ty) (Y:qv s) (hf:bQ P args=some H):Sm (nv P args (bf args) H s):=by
 have M:=Q8 hf;have C:=Pn hf;have Q:=vM (fun t h=>(M t h).2) (s:=H) 0;unfold nv
 refine bG (Um _ _ _ Y) (bG (bG (fZ (dH bn (qU Y))) (bZ _)) (bG (Q9 _ _ _ _ Y M (yo args)) (bG (Ra _ _ _ _ Y M C (yo args))
  (bG (Ly _ _ _ _ _ Y M C (yo args)) (bG (Lz _ _ Y) (bG (Un _ _ _ Y M) (Rb _ _ _ Y)))))))
theorem Uo (n:Nd) (s:List Ty) (Y:qv s):Sm (eX n s):=by
 obtain⟨kind,N,P,S,args⟩:=n;simp only[eX];refine bG (LA _ _ (qU Y)) (bG (bZ _) ?_);cases hf:bQ P args with
 | none=>exact bZ _
 | some H=>exact Rc P args H s Y hf
end Go.cu
namespace Go.Proofs
open Go.cu
attribute [local irreducible] AK ai bw bz aZ fG lE gh jv bA cw eX bf ju iB
theorem CC (P:Int) (s:List Ty) (H:P=69\/P=70\/P=71\/P=72\/93<=P) (C:s.length<=9999999990):ah 69 [.int .i64 P,.sl 2 (aE s)] (iU (bU P s)):=by
 by_cases Y:P=93
 ·subst Y;rcases s with _|⟨⟨T,us⟩,r⟩
  ·have D:=aj ([]) [3];rw[show gd ([]) [3]=false from by(simp[bX,bY,aV])<;>assumption]at D;rw[show bU 93 ([])=aP 5 from by simp[bU,bS,aD,au,aad,aai,aS]];rw[aB cc];refine qn Tryz.func69 Tryz.call69 fun β hf=>?_;exact dw
  by_cases K:T=3
  ·subst K;have D:=aj (.mk 3 us::r) [3];rw[show gd (.mk 3 us::r) [3]=true from by(simp[bX,bY,aV])<;>assumption]at D;have A:=bF (r) [.mk 4 []];rw[aG]at A;rw[show bU 93 (.mk 3 us::r)=ep (.mk 4 []::r)from by simp[bU,bS,aD,au,aad,aai,aS]];rw[aG];refine qn Tryz.func69 Tryz.call69 fun β hf=>?_;have tW:=cN 4;exact dw
  ·have D:=aj (.mk T us::r) [3];rw[show gd (.mk T us::r) [3]=false from by(simp[bX,bY,aV,K])<;>assumption]at D;rw[show bU 93 (.mk T us::r)=aP 5 from by simp[bU,bS,aD,au,aad,aai,aS,K]];rw[aB cc];refine qn Tryz.func69 Tryz.call69 fun β hf=>?_;exact dw
 by_cases W:P=94
 ·subst W;rcases s with _|⟨⟨T,us⟩,r⟩
  ·have D:=aj ([]) [3];rw[show gd ([]) [3]=false from by(simp[bX,bY,aV])<;>assumption]at D;rw[show bU 94 ([])=aP 5 from by simp[bU,bS,aD,au,aad,aai,aS]];rw[aB cc];refine qn Tryz.func69 Tryz.call69 fun β hf=>?_;exact dw
  by_cases K:T=3
  ·subst K;have D:=aj (.mk 3 us::r) [3];rw[show gd (.mk 3 us::r) [3]=true from by(simp[bX,bY,aV])<;>assumption]at D;have A:=bF (r) [.mk 9 [.mk 4 []]];rw[aG]at A;rw[show bU 94 (.mk 3 us::r)=ep (.mk 9 [.mk 4 []]::r)from by simp[bU,bS,aD,au,aad,aai,aS]];rw[aG];refine qn Tryz.func69 Tryz.call69 fun β hf=>?_;have BD:=cN 4;have GH:=dG 9 [.mk 4 []];exact dw
  ·have D:=aj (.mk T us::r) [3];rw[show gd (.mk T us::r) [3]=false from by(simp[bX,bY,aV,K])<;>assumption]at D;rw[show bU 94 (.mk T us::r)=aP 5 from by simp[bU,bS,aD,au,aad,aai,aS,K]];rw[aB cc];refine qn Tryz.func69 Tryz.call69 fun β hf=>?_;exact dw
 by_cases V:P=95
 ·subst V;rcases s with _|⟨⟨T,us⟩,r⟩
  ·have D:=aj ([]) [4];rw[show gd ([]) [4]=false from by(simp[bX,bY,aV])<;>assumption]at D;rw[show bU 95 ([])=aP 5 from by simp[bU,bS,aD,au,aad,aai,aS]];rw[aB cc];refine qn Tryz.func69 Tryz.call69 fun β hf=>?_;exact dw
  by_cases K:T=4
  ·subst K;have D:=aj (.mk 4 us::r) [4];rw[show gd (.mk 4 us::r) [4]=true from by(simp[bX,bY,aV])<;>assumption]at D;have A:=bF (r) [.mk 3 []];rw[aG]at A;rw[show bU 95 (.mk 4 us::r)=ep (.mk 3 []::r)from by simp[bU,bS,aD,au,aad,aai,aS]];rw[aG];refine qn Tryz.func69 Tryz.call69 fun β hf=>?_;have IU:=cN 3;exact dw
  ·have D:=aj (.mk T us::r) [4];rw[show gd (.mk T us::r) [4]=false from by(simp[bX,bY,aV,K])<;>assumption]at D;rw[show bU 95 (.mk T us::r)=aP 5 from by simp[bU,bS,aD,au,aad,aai,aS,K]];rw[aB cc];refine qn Tryz.func69 Tryz.call69 fun β hf=>?_;exact dw
 by_cases S:93<=P
 ·rw[show bU P s=aP 5 from by unfold bU;rw[if_neg Y,if_neg W,if_neg V,if_pos S]];rw[aB cc];have G:(P==93)=false:=by simpa using Y
  have E:(P==94)=false:=by simpa using W
  have e3:(P==95)=false:=by simpa using V
  have e4:decide (P>=93)=true:=aan S;refine qn Tryz.func69 Tryz.call69 fun β hf=>?_;exact dw
 have Q:P=69\/P=70\/P=71\/P=72:=by omega
 clear H Y W V S;rcases s with _|⟨⟨T,us⟩,_|⟨⟨U,vs⟩,q⟩⟩
 ·rcases Q with rfl|rfl|rfl|rfl
  ·rw[show bU 69 ([])=aP 5 from by simp[bU,bS,aD,au,aad,aai,aS]];rw[aB cc];refine qn Tryz.func69 Tryz.call69 fun β hf=>?_;exact dw
  ·rw[show bU 70 ([])=aP 5 from by simp[bU,bS,aD,au,aad,aai,aS]];rw[aB cc];refine qn Tryz.func69 Tryz.call69 fun β hf=>?_;exact dw
  ·rw[show bU 71 ([])=aP 5 from by simp[bU,bS,aD,au,aad,aai,aS]];rw[aB cc];refine qn Tryz.func69 Tryz.call69 fun β hf=>?_;exact dw
  ·rw[show bU 72 ([])=aP 5 from by simp[bU,bS,aD,au,aad,aai,aS]];rw[aB cc];refine qn Tryz.func69 Tryz.call69 fun β hf=>?_;exact dw
 ·rcases Q with rfl|rfl|rfl|rfl
  ·rw[show bU 69 ([.mk T us])=aP 5 from by simp[bU,bS,aD,au,aad,aai,aS]];rw[aB cc];refine qn Tryz.func69 Tryz.call69 fun β hf=>?_;exact dw
  ·rw[show bU 70 ([.mk T us])=aP 5 from by simp[bU,bS,aD,au,aad,aai,aS]];rw[aB cc];refine qn Tryz.func69 Tryz.call69 fun β hf=>?_;exact dw
  ·rw[show bU 71 ([.mk T us])=aP 5 from by simp[bU,bS,aD,au,aad,aai,aS]];rw[aB cc];refine qn Tryz.func69 Tryz.call69 fun β hf=>?_;exact dw
  ·rw[show bU 72 ([.mk T us])=aP 5 from by simp[bU,bS,aD,au,aad,aai,aS]];rw[aB cc];refine qn Tryz.func69 Tryz.call69 fun β hf=>?_;exact dw
 have O:=Lv P T U Q
 have M:∀t,mZ P T U=t->bU P (.mk T us :: .mk U vs::q)=(if t=0 then aP 5 else if P=70/\t=5 then ep (.mk 9 [.mk 5 []]::q)else if P≠72 then ep (.mk t []::q)
   else ep (.mk 9 [.mk 11 [.mk (if T=5/\U=5 then 4 else t) [],.mk (if T=5 then 5 else 4) []]]::q)):=by
  rintro t rfl
  conv=>lhs;unfold bU
  rw[if_neg bn,if_neg bn,if_neg bn,if_neg bn];rfl
 generalize mZ P T U=t at O M;rw[M t rfl];clear M;simp only[aaa]at C;by_cases N:t=0
 ·subst N;rw[if_pos rfl,aB cc];rcases Q with rfl|rfl|rfl|rfl
  all_goals
   refine qn Tryz.func69 Tryz.call69 fun β hf=>?_;exact dw
 rw[if_neg N];have G:(t==0)=false:=by simpa using N
 rcases Q with rfl|rfl|rfl|rfl
 ·rw[if_neg bn,if_pos cc];have A:=bF (q) [.mk t []];rw[aG]at A;rw[aG];refine qn Tryz.func69 Tryz.call69 fun β hf=>?_;have IV:=cN t;exact dw
 ·by_cases J:t=5
  ·subst J;rw[if_pos ⟨rfl,rfl⟩];have A:=bF (q) [.mk 9 [.mk 5 []]];rw[aG]at A;rw[aG];refine qn Tryz.func69 Tryz.call69 fun β hf=>?_;have LB:=cN 5;have Re:=dG 9 [.mk 5 []];exact dw
  ·have E:(t==5)=false:=by simpa using J
   rw[if_neg (fun h=>J h.2),if_pos cc];have A:=bF (q) [.mk t []];rw[aG]at A;rw[aG];refine qn Tryz.func69 Tryz.call69 fun β hf=>?_;have Up:=cN t;exact dw
 ·rw[if_neg bn,if_pos cc];have A:=bF (q) [.mk t []];rw[aG]at A;rw[aG];refine qn Tryz.func69 Tryz.call69 fun β hf=>?_;have YD:=cN t;exact dw
 ·rw[if_neg bn,if_neg cc];by_cases K:T=5
  ·subst K;by_cases I:U=5
   ·subst I;rw[if_pos ⟨rfl,rfl⟩,if_pos rfl];have A:=bF (q) [.mk 9 [.mk 11 [.mk 4 [],.mk 5 []]]];rw[aG]at A;rw[aG];refine qn Tryz.func69 Tryz.call69 fun β hf=>?_;have VU:=cN 4;have VV:=cN 5;have VW:=dG 11 [.mk 4 [],.mk 5 []];have YE:=dG 9 [.mk 11 [.mk 4 [],.mk 5 []]];exact dw
   ·have E:(U==5)=false:=by simpa using I
    rw[if_neg (fun h=>I h.2),if_pos rfl];have A:=bF (q) [.mk 9 [.mk 11 [.mk t [],.mk 5 []]]];rw[aG]at A;rw[aG];refine qn Tryz.func69 Tryz.call69 fun β hf=>?_;have YF:=cN 4;have B:=cN 5;have u:=cN t;have p:=dG 11 [.mk t [],.mk 5 []];have adk:=dG 9 [.mk 11 [.mk t [],.mk 5 []]];exact dw
  ·have E:(T==5)=false:=by simpa using K
   rw[if_neg (fun h=>K h.1),if_neg K];have A:=bF (q) [.mk 9 [.mk 11 [.mk t [],.mk 4 []]]];rw[aG]at A;rw[aG];refine qn Tryz.func69 Tryz.call69 fun β hf=>?_;have adl:=cN 4;have adm:=cN t;have adn:=dG 11 [.mk t [],.mk 4 []];have ado:=dG 9 [.mk 11 [.mk t [],.mk 4 []]];exact dw
end Go.Proofs
