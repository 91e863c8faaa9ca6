/- What move of package check answers. The types that a step leads to are small. What numbers of package check answers. -/
import Derived.Test.YtlohbilpimjmmaaGreatDoorChkA
import Derived.Test.YtlohbilpimjmmaaGreatDoorBits
import Derived.Test.YtlohbilpimjmmaaGreatDoorKind5
import Derived.Test.YtlohbilpimjmmaaGreatDoorChk3
set_option maxHeartbeats 0
set_option linter.unusedVariables false
set_option linter.unusedSimpArgs false
set_option maxRecDepth 100000
namespace Go.Proofs
open Go.cq
attribute [local irreducible] AK ai bh bt dS lz
theorem GP (T:Int) (us:List Ty):fG 95 [.v (.own 2 []),.v (.c (.int .i64 0)),.v (.c (.sl 2 [eB (.mk T us)]))] [.own 2 [eB (.mk T us)]] []:=by
 refine bt.tQ Tryz.func95 rfl (fun args w=>Tryz.call95 args w) (Nat.le_of_ble_eq_true rfl) [(0,.own (.tok 1000000 0) 2 ([])),(1,.c (.int .i64 0)),(2,.c (.sl 2 [eB (.mk T us)]))] [] [(1000000,0)] [1000000] rfl rfl fun β=>?_;have hf:=Tryz.func95
 repeat' (first|refine sK ?_|refine zr ?_ ?_|(refine zc ?_ ?_<;>intro h<;>first|(cases h;done)|rw[h]|skip)|(refine uA rfl ?_ ?_<;>(try (show(_:Nat)*_<=_;dsimp only))))
 all_goals first|exact rfl|(show _<=_;simp only[aac,aad];omega)
theorem N4 {s:List Ty} {i:Nat} {t:Ty} (h:s[i]?=some t):s.getD i lA=t:=by rw[List.getD_eq_getElem?_getD,h];rfl
theorem Ja (P nN:Int) (nS:List UInt8) (args:List Nd) (B s:List Ty) (hP:40<=P/\P<=44) (hf:bN P args=some B) (hs:qx s) (G:s.length<=9999999990) :
  ag 62 [aX (.mk 2 nN P nS args),.sl 2 (aq s)] (iW (gq P args s)):=by
 have PC:P=40\/P=41\/P=42\/P=43\/P=44:=by omega
 clear hP;rcases PC with rfl|rfl|rfl|rfl|rfl
 ·obtain⟨rfl,rfl⟩:=cY hf rfl;clear hf;rcases s with _|⟨⟨T,us⟩,r⟩
  ·rw[show gq 40 [] []=aP 5 from by simp[gq],aD cc];refine qn Tryz.func62 Tryz.call62 fun β hf=>?_;exact dw
  ·rw[show gq 40 [] (.mk T us::r)=ee r from by simp[gq],aG];have el:=xx (aq (.mk T us::r)) 0 uf;have A:=jn r;rw[aG]at A;refine qn Tryz.func62 Tryz.call62 fun β hf=>?_;exact dw
 ·obtain⟨N,p,S,xs,rfl,V,n2,rfl⟩:=GQ hf rfl;clear hf;have C:=aQ s;by_cases J:1<=N;rotate_left
  ·rw[show gq 41 [.mk 0 N p S xs] s=aP 5 from by unfold gq;rw[if_neg cc,if_neg cc,if_pos rfl];exact if_neg (fun h=>J h.1),aD cc];have e1:decide (N>=1)=false:=aan J;refine qn Tryz.func62 Tryz.call62 fun β hf=>?_;exact dw
  have e1:decide (N>=1)=true:=aam J;by_cases c2:N<=s.length;rotate_left
  ·rw[show gq 41 [.mk 0 N p S xs] s=aP 5 from by unfold gq;rw[if_neg cc,if_neg cc,if_pos rfl];exact if_neg (fun h=>c2 h.2.1),aD cc];have K:decide (N<=(((aq s).length:Nat):Int))=false:=aan bn;refine qn Tryz.func62 Tryz.call62 fun β hf=>?_;exact dw
  have K:decide (N<=(((aq s).length:Nat):Int))=true:=aam bn;obtain⟨j,hj⟩:∃j:Nat,N-1=(j:Int):=⟨(N-1).toNat,bn⟩
  have Q:IntKind.i64.wrap (N-1)=(j:Int):=by rw[gW bn bn,hj]
  obtain⟨t,M⟩:∃t,s[j]?=some t:=⟨s[j]' bn,c9⟩
  have u:=hs t (aaw M);have htz:=u.2;have E:=sN t bn;have I:=fH M;have hgd:=N4 M;have D:I7 ([Nd.mk 0 N p S xs].getD 0 sM)=N:=rfl;have hNj:(N-1).toNat=j:=by omega
  have Y:gq 41 [.mk 0 N p S xs] s=if lz t=true then ee (t::s)else aP 5:=by
   unfold gq;rw[if_neg cc,if_neg cc,if_pos rfl,D,hNj,hgd];by_cases W:lz t=true
   ·rw[if_pos ⟨J,c2,W⟩,if_pos W]
   ·rw[if_neg (fun h=>W h.2.2),if_neg W]
  rw[Y];obtain⟨T,us⟩:=t;cases W:lz (.mk T us)with
  | false =>
   rw[W]at E;rw[if_neg cc,aD cc];refine qn Tryz.func62 Tryz.call62 fun β hf=>?_
   repeat' (first|refine sK ?_|(refine zc ?_ ?_<;>intro h<;>first|(cases h;done)|rw[h]|skip)|refine uI rfl (0) rfl (rfl) rfl ?_|refine uI rfl j Q I rfl ?_|refine uC rfl E ?_|((first|refine zt ?_|refine zu ?_ ?_)<;>intro h<;>(fail_if_success (cases h;done))<;>rw[h]))
   all_goals first|exact Wk.refl _|exact zQ rfl rfl
  | true =>
   rw[W]at E;have A:=bC s [.mk T us];rw[aG]at A;rw[if_pos rfl,aG];refine qn Tryz.func62 Tryz.call62 fun β hf=>?_
   repeat' (first|refine sK ?_|(refine zc ?_ ?_<;>intro h<;>first|(cases h;done)|rw[h]|skip)|refine uI rfl (0) rfl (rfl) rfl ?_|refine uI rfl j Q I rfl ?_|refine uC rfl E ?_|refine uC rfl A ?_|((first|refine zt ?_|refine zu ?_ ?_)<;>intro h<;>(fail_if_success (cases h;done))<;>rw[h]))
   all_goals first|exact Wk.refl _|exact zQ rfl rfl
 ·obtain⟨rfl,rfl⟩:=cY hf rfl;clear hf;rcases s with _|⟨⟨T,us⟩,_|⟨⟨U,vs⟩,q⟩⟩
  ·rw[show gq 42 [] []=aP 5 from by simp[gq],aD cc];refine qn Tryz.func62 Tryz.call62 fun β hf=>?_;exact dw
  ·rw[show gq 42 [] [.mk T us]=aP 5 from by simp[gq],aD cc];refine qn Tryz.func62 Tryz.call62 fun β hf=>?_;exact dw
  ·rw[show gq 42 [] (.mk T us :: .mk U vs::q)=ee (.mk U vs :: .mk T us::q)from by simp[gq],aG];have el:=xx (aq (.mk T us :: .mk U vs::q)) 1 uf;have A:=bC q [.mk U vs,.mk T us];rw[aG]at A;refine qn Tryz.func62 Tryz.call62 fun β hf=>?_;exact dw
 ·obtain⟨N,p,S,xs,rfl,V,n2,rfl⟩:=GQ hf rfl;clear hf;have C:=aQ s;obtain⟨j,rfl⟩:=Int.eq_ofNat_of_zero_le V;have D:I7 ([Nd.mk 0 (j:Int) p S xs].getD 0 sM)=(j:Int):=rfl;by_cases J:(j:Int)<s.length;rotate_left
  ·rw[show gq 43 [.mk 0 j p S xs] s=aP 5 from by unfold gq;rw[if_neg cc,if_neg cc,if_neg cc,if_pos rfl,D];exact if_neg J,aD cc];have K:decide ((j:Int)<(((aq s).length:Nat):Int))=false:=aan bn;refine qn Tryz.func62 Tryz.call62 fun β hf=>?_;exact dw
  have QX:j<s.length:=by omega
  have K:decide ((j:Int)<(((aq s).length:Nat):Int))=true:=aam bn;obtain⟨t,M⟩:∃t,s[j]?=some t:=⟨s[j],by simp[QX]⟩
  have I:=fH M
  rw[show gq 43 [.mk 0 j p S xs] s=ee (t::(s.take j++s.drop (j+1)))from by
   unfold gq;rw[if_neg cc,if_neg cc,if_neg cc,if_pos rfl,D,if_pos J,aax,N4 M],aG]
  have Q:IntKind.i64.wrap ((j:Int)+1)=((j+1:Nat):Int):=by rw[gW bn bn];rfl
  have zV:=Jb s j QX bn;rw[<- Q]at zV;have A:=bC (s.take j++s.drop (j+1)) [t] Q2;rw[aG]at A;clear M;rcases s with _|⟨a,l⟩
  ·simp at QX
  have H:=ux a l (by simp only[aac]at G;omega);obtain⟨T,us⟩:=t;refine qn Tryz.func62 Tryz.call62 fun β hf=>?_
  repeat' (first|refine sK ?_|(refine zc ?_ ?_<;>intro h<;>first|(cases h;done)|rw[h]|skip)|refine uI rfl (0) rfl (rfl) rfl ?_|refine uI rfl j rfl I rfl ?_|refine uC rfl A ?_|refine ai.lG kn rfl rfl rfl rfl rfl rfl H rfl ?_|refine ai.GS kn rfl rfl rfl rfl rfl rfl rfl zV rfl rfl ?_|((first|refine zt ?_|refine zu ?_ ?_)<;>intro h<;>(fail_if_success (cases h;done))<;>rw[h]))
  all_goals first|exact Wk.refl _|exact zQ rfl rfl
 ·obtain⟨N,p,S,xs,rfl,V,n2,rfl⟩:=GQ hf rfl;clear hf;have C:=aQ s;obtain⟨j,rfl⟩:=Int.eq_ofNat_of_zero_le V;have D:I7 ([Nd.mk 0 (j:Int) p S xs].getD 0 sM)=(j:Int):=rfl;rcases s with _|⟨⟨T,us⟩,r⟩
  ·rw[show gq 44 [.mk 0 j p S xs] []=aP 5 from by simp[gq],aD cc];have K:decide ((j:Int)<((([]:List CV).length:Nat):Int))=false:=aan c9;refine qn Tryz.func62 Tryz.call62 fun β hf=>?_;exact dw
  have Y:gq 44 [.mk 0 j p S xs] (.mk T us::r)=if(j:Int)<r.length+1 then ee (r.take j ++ .mk T us::r.drop j)else aP 5:=by
   unfold gq;rw[if_neg cc,if_neg cc,if_neg cc,if_neg cc,if_pos rfl];simp only[D,aax]
  rw[Y];simp only[aac]at G C;by_cases J:(j:Int)<r.length+1;rotate_left
  ·rw[if_neg J,aD cc];have K:decide ((j:Int)<(((aq (.mk T us::r)).length:Nat):Int))=false:=aan bn;refine qn Tryz.func62 Tryz.call62 fun β hf=>?_;exact dw
  rw[if_pos J,aG];have K:decide ((j:Int)<(((aq (.mk T us::r)).length:Nat):Int))=true:=aam bn;rcases r with _|⟨a,l⟩
  ·obtain rfl:j=0:=by simp at J;omega
   have H:=eI [] c9;have O:=GP T us;refine qn Tryz.func62 Tryz.call62 fun β hf=>?_;exact dw
  ·have H:=ux a l (by simp only[aac]at G;omega);have O:=Jc (a::l) (.mk T us) j c9 bn (by simp only[aac]at *;omega);refine qn Tryz.func62 Tryz.call62 fun β hf=>?_
   repeat' (first|refine sK ?_|(refine zc ?_ ?_<;>intro h<;>first|(cases h;done)|rw[h]|skip)|refine uI rfl (0) rfl (rfl) rfl ?_|refine ai.lG kn rfl rfl rfl rfl rfl rfl H rfl ?_|refine ai.GS kn rfl rfl rfl rfl rfl rfl rfl O rfl rfl ?_|((first|refine zt ?_|refine zu ?_ ?_)<;>intro h<;>(fail_if_success (cases h;done))<;>rw[h]))
   all_goals first|exact Wk.refl _|exact zQ rfl rfl
end Go.Proofs
namespace Go.cq
def Sm (r:CR):Prop:=∀t∈r.1.1,bA t<=2000
def Fu (s:List Ty):Prop:=∀t∈s,bA t<=2000
theorem fX {s:List Ty} (h:Fu s):Sm (ee s):=h
theorem bX (e:Int):Sm (aP e):=fun t M=>by simp[aP]at M
theorem bD {p:Prop} [Decidable p] {a b:CR} (h1:Sm a) (h2:Sm b):Sm (if p then a else b):=by grind
theorem dD {t:Ty} {s:List Ty} (h1:bA t<=2000) (h2:Fu s):Fu (t::s):=fun x O=>by
 rcases List.mem_cons.1 O with rfl|O
 ·exact h1
 ·exact h2 x O
theorem qW {s:List Ty} (h:qx s):Fu s:=fun t M=>by have:=(h t M).2;omega
theorem zW {a b:List Ty} (h1:Fu a) (h2:Fu b):Fu (a++b):=fun x O=>by
 rcases List.mem_append.1 O with O|O
 ·exact h1 x O
 ·exact h2 x O
theorem uy {a b:CR} (u:Sm a) (G:Sm b):Sm (cT a b):=by
 unfold cT;refine bD (bX _) (bD (bX _) (bD G (bD u (bX _))))
theorem jv (a:Ty) (i:Nat):bA (aE a i)<=bA a:=by
 obtain⟨T,l⟩:=a;show bA (l.getD i lA)<=_;rw[List.getD_eq_getElem?_getD];cases h:l[i]? with
 | none=>simp only[Option.getD_none,lA,bA,aY];omega
 | some x =>
  have:=cz (aaw h);simp only[Option.getD_some,bA];omega
theorem A3 (a:Ty):aY (aA a)+1=bA a:=by
 obtain⟨T,l⟩:=a;rfl
theorem vU {s:List Ty} (h:∀t∈s,bA t<=300) (i:Nat):bA (s.getD i lA)<=300:=by
 rw[List.getD_eq_getElem?_getD];cases Y:s[i]? with
 | none=>simp only[Option.getD_none,lA,bA,aY];omega
 | some x=>exact h x (aaw Y)
theorem yC:∀(q:List UInt8) (l:List Nd) (acc r:List Ty),qx acc->jc q l acc=some r->qx r
 | [],l,acc,r,h,e=>by simp only[jc]at e;simp at e;subst e;exact h
 | w::q,[],acc,r,h,e=>by simp only[jc]at e;simp at e;subst e;exact h
 | w::q,.mk kind N P S xs::l,acc,r,h,e=>by
  simp only[jc]at e;split at e
  ·split at e
   ·exact yC q l acc r h e
   ·cases e
  ·split at e
   ·split at e
    ·exact yC q l acc r h e
    ·cases e
   ·split at e
    ·split at e
     ·rename_i V Y;refine yC q l _ r (fun t M=>?_) e;rcases List.mem_append.1 M with M|M
      ·exact h t M
      ·simp at M;subst M;exact cL (ku Y)
     ·cases e
    ·exact yC q l acc r h e
theorem Rh {P:Int} {args:List Nd} {B:List Ty} (h:bN P args=some B):qx B:=by
 unfold bN at h;split at h
 ·cases h
 ·exact yC _ _ _ _ N5 h
theorem jL {P:Int} {args:List Nd} {B:List Ty} (h:bN P args=some B):B.length<=args.length:=by
 unfold bN at h;split at h
 ·cases h
 ·have:∀(q:List UInt8) (l:List Nd) (acc r:List Ty),jc q l acc=some r->r.length<=acc.length+l.length:=by
   intro q
   induction q with
   | nil=>intro l acc r e;simp only[jc]at e;simp at e;subst e;omega
   | cons w q S =>
    intro l acc r e;cases l with
    | nil=>simp only[jc]at e;simp at e;subst e;omega
    | cons x l =>
     obtain⟨k,n,p,s,xs⟩:=x;simp only[jc]at e;simp only[aac];split at e
     ·grind
     ·grind
  have:=this _ _ _ _ h;simpa using this
theorem W2 {l:List Ty} (h:aY l<=2000):Fu l:=fun t M=>by have:=cz M;omega
theorem UH (P:Int) (args:List Nd) (s:List Ty) (Y:qx s):Sm (gq P args s):=by
 have U:=qW Y;have E:=fun i=>vU (fun t M=>(Y t M).2) (s:=s) i;unfold gq;refine bD ?_ (bD ?_ (bD ?_ (bD ?_ (bD ?_ (bX _)))))
 ·rcases s with _|⟨a,r⟩
  ·exact bX _
  ·exact fX (fun t M=>U t (List.mem_cons_of_mem _ M))
 ·rcases s with _|⟨a,_|⟨b,r⟩⟩
  ·exact bX _
  ·exact bX _
  ·exact fX (dD (U b c9) (dD (U a c9) (fun t M=>U t (by simp[M]))))
 ·exact bD (fX (dD (by have:=E (I7 (args.getD 0 sM)-1).toNat;omega) U)) (bX _)
 ·refine bD (fX (dD (by have:=E (I7 (args.getD 0 sM)).toNat;omega) (zW ?_ ?_))) (bX _)
  ·exact fun t M=>U t (List.mem_of_mem_take M)
  ·exact fun t M=>U t (List.mem_of_mem_drop M)
 ·rcases s with _|⟨a,r⟩
  ·exact bX _
  ·refine bD (fX (zW ?_ (dD (U a c9) ?_))) (bX _)
   ·exact fun t M=>U t (List.mem_cons_of_mem _ (List.mem_of_mem_take M))
   ·exact fun t M=>U t (List.mem_cons_of_mem _ (List.mem_of_mem_drop M))
theorem Ri (P:Int) (S:List (List Ty->CR)) (B s:List Ty) (Y:qx s) (M:qx B) (E:∀i W,Fu W->Sm (aS S i W)):Sm (aW P S B s):=by
 have U:=qW Y;have V:=fun i=>vU (fun t h=>(M t h).2) (s:=B) i;have g0:=V 0;unfold aW;refine bD (fX (dD j0 U)) (bD (fX (dD j0 U)) ?_);rcases s with _|⟨a,r⟩
 ·exact bX _
 have u:=(Y a c9).2;have I:Fu r:=fun t h=>U t oe;have H:=jv a 0;have T:=jv a 1;have Q:=A3 a;dsimp only;refine bD (fX (dD j0 I)) (bD (fX (dD j0 I)) (bD (fX (dD j0 I)) (bD ?_ (bD ?_ (bD ?_ (bD ?_ (bD ?_ (bD ?_ (bD ?_ (bD ?_ (bX _)))))))))))
 ·rcases r with _|⟨b,q⟩
  ·exact bX _
  ·have G:=(Y b c9).2;exact fX (dD j0 (fun t h=>I t oe))
 ·exact bD (fX (zW (W2 bn) I)) (bX _)
 ·exact bD (fX (dD bn I)) (bX _)
 ·exact bD (fX (dD bn I)) (bX _)
 ·rcases r with _|⟨b,q⟩
  ·exact bX _
  ·exact bD (fX I) (bX _)
 ·exact bD (uy (E _ _ (dD bn I)) (E _ _ (dD bn I))) (bX _)
 ·exact bD (uy (E _ _ I) (E _ _ (dD bn I))) (bX _)
 ·exact bD (uy (E _ _ (dD bn (dD bn I))) (E _ _ I)) (bX _)
theorem Rj (P:Int) (S:List (List Ty->CR)) (B s:List Ty) (Y:qx s) (M:qx B) (A:B.length<=2) (E:∀i W,Fu W->Sm (aS S i W)):Sm (cJ P S B s):=by
 have U:=qW Y;have V:aY B<=600:=by
  rcases B with _|⟨a,_|⟨b,_|⟨c,l⟩⟩⟩
  ·simp[aY]
  ·have:=(M a c9).2;simp only[aY];omega
  ·have h1:=(M a c9).2;have h2:=(M b c9).2;simp only[aY];omega
  ·simp at A
 unfold cJ;refine bD (bD (fX (dD (by simp only[bA];omega) U)) (bX _)) (bD ?_ (bD ?_ (bD ?_ (bD ?_ (bX _)))))
 ·rcases s with _|⟨a,r⟩
  ·exact bX _
  ·exact bD (fX (dD Sg (fun t h=>U t oe))) (bX _)
 ·rcases s with _|⟨a,r⟩
  ·exact bX _
  ·have I:Fu r:=fun t h=>U t oe;have u:=(Y a c9).2;have H:=jv a 0;have T:=A3 a;refine bD (uy (E _ _ (dD ?_ I)) (fX I)) (bX _);split
   ·simp only[bA];omega
   ·omega
 ·rcases s with _|⟨a,_|⟨b,q⟩⟩
  ·exact bX _
  ·exact bX _
  ·have G:=(Y b c9).2;have Q:=jv b 1;exact bD (fX (dD j0 (fun t h=>U t oe))) (bX _)
 ·rcases s with _|⟨a,_|⟨b,_|⟨c,q⟩⟩⟩
  ·exact bX _
  ·exact bX _
  ·exact bX _
  ·exact bD (fX (fun t h=>U t (by simp at h ⊢;rcases h with h|h<;>simp[h]))) (bX _)
theorem LO (P:Int) (args:List Nd) (S:List (List Ty->CR)) (B s:List Ty) (Y:qx s) (M:qx B) (A:B.length<=2) (E:∀i W,Fu W->Sm (aS S i W)):Sm (cG P args S B s):=by
 have U:=qW Y;have V:aY B<=600:=by
  rcases B with _|⟨a,_|⟨b,_|⟨c,l⟩⟩⟩
  ·simp[aY]
  ·have:=(M a c9).2;simp only[aY];omega
  ·have h1:=(M a c9).2;have h2:=(M b c9).2;simp only[aY];omega
  ·simp at A
 unfold cG;refine bD (bD (bX _) (bD (bX _) (fX (dD (by simp only[bA];omega) U)))) (bD ?_ (bD ?_ (bD ?_ (bD ?_ (bX _)))))
 ·rcases s with _|⟨a,r⟩
  ·exact bX _
  ·have I:Fu r:=fun t h=>U t oe;exact bD (uy (E _ _ I) (E _ _ I)) (bX _)
 ·rcases s with _|⟨a,r⟩
  ·exact bX _
  ·have I:Fu r:=fun t h=>U t oe;exact bD (bD (bX _) (fX I)) (bX _)
 ·rcases s with _|⟨a,_|⟨b,q⟩⟩
  ·exact bX _
  ·exact bX _
  ·have G:=(Y b c9).2;have T:=jv b 1;exact bD (fX (dD bn (fun t h=>U t oe))) (bX _)
 ·rcases s with _|⟨a,r⟩
  ·exact bX _
  ·have I:Fu r:=fun t h=>U t oe;exact bD (bX _) (bD (bX _) (fX (dD (U a c9) (E 0 r I))))
theorem LP (P:Int) (s:List Ty) (Y:qx s):Sm (bS P s):=by
 have U:=qW Y;unfold bS;rcases s with _|⟨a,_|⟨b,q⟩⟩
 all_goals
  dsimp only
  repeat' (first|refine bD ?_ ?_|exact bX _|refine fX (dD Sg ?_)|exact fun t h=>U t oe|(intro t h;simp at h))
 all_goals exact fun t h=>U t (by simp at h ⊢;simp[h])
theorem UI (P:Int) (B s:List Ty) (Y:qx s) (M:qx B):Sm (cn P B s):=by
 have U:=qW Y;have g0:=vU (fun t h=>(M t h).2) (s:=B) 0;unfold cn;rcases s with _|⟨a,r⟩
 ·exact bX _
 have I:Fu r:=fun t h=>U t oe;dsimp only
 refine bD ?_ (bD (bD (fX (dD Sg I)) (bX _)) (bD (bD (fX U) (bX _)) (bD ?_ (bD ?_ (bD (bD (fX (dD Sg I)) (bX _))
  (bD (bD (fX (dD j0 I)) (bX _)) (bD (bD (fun t h=>by simp at h) (bX _)) (bX _))))))))
 ·rcases r with _|⟨b,q⟩
  ·exact bX _
  ·exact bD (fX (dD Sg (fun t h=>I t oe))) (bX _)
 ·rcases r with _|⟨b,q⟩
  ·exact bX _
  ·exact bD (fX I) (bX _)
 ·rcases r with _|⟨b,q⟩
  ·exact bX _
  ·exact bD (fX I) (bX _)
theorem Rk (P:Int) (B s:List Ty) (Y:qx s):Sm (bY P B s):=by
 have U:=qW Y;unfold bY;refine bD (fX (dD Sg U)) (bD (fX (dD Sg U)) ?_);rcases s with _|⟨a,r⟩
 ·exact bX _
 have u:=(Y a c9).2;have H:=jv a 0;have I:Fu r:=fun t h=>U t oe;dsimp only;refine bD ?_ (bD ?_ (bD ?_ (bD ?_ (bD ?_ (bX _)))))
 ·rcases r with _|⟨b,q⟩
  ·exact bX _
  ·exact X2
 ·exact bD (fX (dD j0 U)) (bX _)
 ·rcases r with _|⟨b,q⟩
  ·exact bX _
  ·exact X2
 ·exact bD (fX (dD j0 I)) (bX _)
 ·rcases r with _|⟨b,_|⟨c,q⟩⟩
  ·exact bX _
  ·exact bX _
  ·exact X2
theorem LQ:∀(l:List Nd) (o:List Ty×Bool),Fu o.1->Sm (cA l o)
 | [],o,h=>by simp only[cA];exact h
 | n::l,o,h=>by
  simp only[cA];refine bD (bX _) ?_;by_cases h2:(mj (fq n o.1)).2≠0
  ·rw[if_pos h2];exact bX _
  ·rw[if_neg h2];obtain⟨u,H,p,Y⟩:=rQ (r:=fq n o.1) Ab;rw[H];exact LQ l _ (qW (uz Y))
theorem CH (x:Nd) (l:List Nd) (i:Nat) (s:List Ty):aS (bf (x::l)) i s=match i with|0=>cA (cF x) (s,false)|i+1=>aS (bf l) i s:=by
 rw[A4];cases i<;>simp[aS]
theorem yD:∀(l:List Nd) (i:Nat) (P:List Ty),Fu P->Sm (aS (bf l) i P)
 | [],i,P,h=>by simp only[bf,aS,List.getD_nil];exact bX _
 | x::l,0,P,h=>by rw[CH];exact LQ _ _ h
 | x::l,i+1,P,h=>by rw[CH];exact yD l i P h
theorem PE {P:Int} {args:List Nd} {B:List Ty} (h:bN P args=some B):B.length<=2:=by
 have h1:=jL h;by_cases Y:P=66
 ·subst Y;obtain⟨x,y,N,p,S,xs,t,u,rfl,rfl,_⟩:=Fv h rfl;simp
 ·have h2:(fN P).length<=2:=by
   unfold fN
   repeat' split
   all_goals simp_all
  unfold bN at h;split at h
  ·cases h
  ·omega
theorem Rm (P:Int) (args:List Nd) (B s:List Ty) (Y:qx s) (hf:bN P args=some B):Sm (mE P args (bf args) B s):=by
 have M:=Rh hf;have A:=PE hf;have E:=vU (fun t h=>(M t h).2) (s:=B) 0;unfold mE
 refine bD (UH _ _ _ Y) (bD (bD (fX (dD bn (qW Y))) (bX _)) (bD (Ri _ _ _ _ Y M (yD args)) (bD (Rj _ _ _ _ Y M A (yD args))
  (bD (LO _ _ _ _ _ Y M A (yD args)) (bD (LP _ _ Y) (bD (UI _ _ _ Y M) (Rk _ _ _ Y)))))))
theorem UJ (n:Nd) (s:List Ty) (Y:qx s):Sm (fq n s):=by
 obtain⟨kind,N,P,S,args⟩:=n;simp only[fq];refine bD (LQ _ _ (qW Y)) (bD (bX _) ?_);cases hf:bN P args with
 | none=>exact bX _
 | some B=>exact Rm P args B s Y hf
end Go.cq
namespace Go.Proofs
open Go.cq
attribute [local irreducible] AK ai bh bt aZ fC lz ga ju bw cA fq bf jt iC
theorem CI (P:Int) (s:List Ty) (C:P=69\/P=70\/P=71\/P=72\/93<=P) (I:s.length<=9999999990):ag 69 [.int .i64 P,.sl 2 (aq s)] (iW (bS P s)):=by
 by_cases Y:P=93
 ·subst Y;rcases s with _|⟨⟨T,us⟩,r⟩
  ·have D:=aj ([]) [3];rw[show fY ([]) [3]=false from by(simp[bV,bW,aV])<;>assumption]at D;rw[show bS 93 ([])=aP 5 from by simp[bS,bR,aE,aA,aag,aah,aS]];rw[aD cc];refine qn Tryz.func69 Tryz.call69 fun β hf=>?_;exact dw
  by_cases E:T=3
  ·subst E;have D:=aj (.mk 3 us::r) [3];rw[show fY (.mk 3 us::r) [3]=true from by(simp[bV,bW,aV])<;>assumption]at D;have A:=bC (r) [.mk 4 []];rw[aG]at A;rw[show bS 93 (.mk 3 us::r)=ee (.mk 4 []::r)from by simp[bS,bR,aE,aA,aag,aah,aS]];rw[aG];refine qn Tryz.func69 Tryz.call69 fun β hf=>?_;have ug:=cM 4;exact dw
  ·have D:=aj (.mk T us::r) [3];rw[show fY (.mk T us::r) [3]=false from by(simp[bV,bW,aV,E])<;>assumption]at D;rw[show bS 93 (.mk T us::r)=aP 5 from by simp[bS,bR,aE,aA,aag,aah,aS,E]];rw[aD cc];refine qn Tryz.func69 Tryz.call69 fun β hf=>?_;exact dw
 by_cases W:P=94
 ·subst W;rcases s with _|⟨⟨T,us⟩,r⟩
  ·have D:=aj ([]) [3];rw[show fY ([]) [3]=false from by(simp[bV,bW,aV])<;>assumption]at D;rw[show bS 94 ([])=aP 5 from by simp[bS,bR,aE,aA,aag,aah,aS]];rw[aD cc];refine qn Tryz.func69 Tryz.call69 fun β hf=>?_;exact dw
  by_cases E:T=3
  ·subst E;have D:=aj (.mk 3 us::r) [3];rw[show fY (.mk 3 us::r) [3]=true from by(simp[bV,bW,aV])<;>assumption]at D;have A:=bC (r) [.mk 9 [.mk 4 []]];rw[aG]at A;rw[show bS 94 (.mk 3 us::r)=ee (.mk 9 [.mk 4 []]::r)from by simp[bS,bR,aE,aA,aag,aah,aS]];rw[aG];refine qn Tryz.func69 Tryz.call69 fun β hf=>?_;have BJ:=cM 4;have GU:=dB 9 [.mk 4 []];exact dw
  ·have D:=aj (.mk T us::r) [3];rw[show fY (.mk T us::r) [3]=false from by(simp[bV,bW,aV,E])<;>assumption]at D;rw[show bS 94 (.mk T us::r)=aP 5 from by simp[bS,bR,aE,aA,aag,aah,aS,E]];rw[aD cc];refine qn Tryz.func69 Tryz.call69 fun β hf=>?_;exact dw
 by_cases V:P=95
 ·subst V;rcases s with _|⟨⟨T,us⟩,r⟩
  ·have D:=aj ([]) [4];rw[show fY ([]) [4]=false from by(simp[bV,bW,aV])<;>assumption]at D;rw[show bS 95 ([])=aP 5 from by simp[bS,bR,aE,aA,aag,aah,aS]];rw[aD cc];refine qn Tryz.func69 Tryz.call69 fun β hf=>?_;exact dw
  by_cases E:T=4
  ·subst E;have D:=aj (.mk 4 us::r) [4];rw[show fY (.mk 4 us::r) [4]=true from by(simp[bV,bW,aV])<;>assumption]at D;have A:=bC (r) [.mk 3 []];rw[aG]at A;rw[show bS 95 (.mk 4 us::r)=ee (.mk 3 []::r)from by simp[bS,bR,aE,aA,aag,aah,aS]];rw[aG];refine qn Tryz.func69 Tryz.call69 fun β hf=>?_;have Jd:=cM 3;exact dw
  ·have D:=aj (.mk T us::r) [4];rw[show fY (.mk T us::r) [4]=false from by(simp[bV,bW,aV,E])<;>assumption]at D;rw[show bS 95 (.mk T us::r)=aP 5 from by simp[bS,bR,aE,aA,aag,aah,aS,E]];rw[aD cc];refine qn Tryz.func69 Tryz.call69 fun β hf=>?_;exact dw
 by_cases S:93<=P
 ·rw[show bS P s=aP 5 from by unfold bS;rw[if_neg Y,if_neg W,if_neg V,if_pos S]];rw[aD cc];have H:(P==93)=false:=by simpa using Y
  have K:(P==94)=false:=by simpa using W
  have e3:(P==95)=false:=by simpa using V
  have e4:decide (P>=93)=true:=aam S;refine qn Tryz.func69 Tryz.call69 fun β hf=>?_;exact dw
 have Q:P=69\/P=70\/P=71\/P=72:=by omega
 clear C Y W V S;rcases s with _|⟨⟨T,us⟩,_|⟨⟨U,vs⟩,q⟩⟩
 ·rcases Q with rfl|rfl|rfl|rfl
  ·rw[show bS 69 ([])=aP 5 from by simp[bS,bR,aE,aA,aag,aah,aS]];rw[aD cc];refine qn Tryz.func69 Tryz.call69 fun β hf=>?_;exact dw
  ·rw[show bS 70 ([])=aP 5 from by simp[bS,bR,aE,aA,aag,aah,aS]];rw[aD cc];refine qn Tryz.func69 Tryz.call69 fun β hf=>?_;exact dw
  ·rw[show bS 71 ([])=aP 5 from by simp[bS,bR,aE,aA,aag,aah,aS]];rw[aD cc];refine qn Tryz.func69 Tryz.call69 fun β hf=>?_;exact dw
  ·rw[show bS 72 ([])=aP 5 from by simp[bS,bR,aE,aA,aag,aah,aS]];rw[aD cc];refine qn Tryz.func69 Tryz.call69 fun β hf=>?_;exact dw
 ·rcases Q with rfl|rfl|rfl|rfl
  ·rw[show bS 69 ([.mk T us])=aP 5 from by simp[bS,bR,aE,aA,aag,aah,aS]];rw[aD cc];refine qn Tryz.func69 Tryz.call69 fun β hf=>?_;exact dw
  ·rw[show bS 70 ([.mk T us])=aP 5 from by simp[bS,bR,aE,aA,aag,aah,aS]];rw[aD cc];refine qn Tryz.func69 Tryz.call69 fun β hf=>?_;exact dw
  ·rw[show bS 71 ([.mk T us])=aP 5 from by simp[bS,bR,aE,aA,aag,aah,aS]];rw[aD cc];refine qn Tryz.func69 Tryz.call69 fun β hf=>?_;exact dw
  ·rw[show bS 72 ([.mk T us])=aP 5 from by simp[bS,bR,aE,aA,aag,aah,aS]];rw[aD cc];refine qn Tryz.func69 Tryz.call69 fun β hf=>?_;exact dw
 have O:=LL P T U Q
 have N:∀t,nk P T U=t->bS P (.mk T us :: .mk U vs::q)=(if t=0 then aP 5 else if P=70/\t=5 then ee (.mk 9 [.mk 5 []]::q)else if P≠72 then ee (.mk t []::q)
   else ee (.mk 9 [.mk 11 [.mk (if T=5/\U=5 then 4 else t) [],.mk (if T=5 then 5 else 4) []]]::q)):=by
  rintro t rfl
  conv=>lhs;unfold bS
  rw[if_neg bn,if_neg bn,if_neg bn,if_neg bn];rfl
 generalize nk P T U=t at O N;rw[N t rfl];clear N;simp only[aac]at I;by_cases M:t=0
 ·subst M;rw[if_pos rfl,aD cc];rcases Q with rfl|rfl|rfl|rfl
  all_goals
   refine qn Tryz.func69 Tryz.call69 fun β hf=>?_;exact dw
 rw[if_neg M];have H:(t==0)=false:=by simpa using M
 rcases Q with rfl|rfl|rfl|rfl
 ·rw[if_neg bn,if_pos cc];have A:=bC (q) [.mk t []];rw[aG]at A;rw[aG];refine qn Tryz.func69 Tryz.call69 fun β hf=>?_;have Je:=cM t;exact dw
 ·by_cases p:t=5
  ·subst p;rw[if_pos ⟨rfl,rfl⟩];have A:=bC (q) [.mk 9 [.mk 5 []]];rw[aG]at A;rw[aG];refine qn Tryz.func69 Tryz.call69 fun β hf=>?_;have LR:=cM 5;have Rn:=dB 9 [.mk 5 []];exact dw
  ·have K:(t==5)=false:=by simpa using p
   rw[if_neg (fun h=>p h.2),if_pos cc];have A:=bC (q) [.mk t []];rw[aG]at A;rw[aG];refine qn Tryz.func69 Tryz.call69 fun β hf=>?_;have UK:=cM t;exact dw
 ·rw[if_neg bn,if_pos cc];have A:=bC (q) [.mk t []];rw[aG]at A;rw[aG];refine qn Tryz.func69 Tryz.call69 fun β hf=>?_;have YS:=cM t;exact dw
 ·rw[if_neg bn,if_neg cc];by_cases E:T=5
  ·subst E;by_cases J:U=5
   ·subst J;rw[if_pos ⟨rfl,rfl⟩,if_pos rfl];have A:=bC (q) [.mk 9 [.mk 11 [.mk 4 [],.mk 5 []]]];rw[aG]at A;rw[aG];refine qn Tryz.func69 Tryz.call69 fun β hf=>?_;have Wg:=cM 4;have Wh:=cM 5;have Wi:=dB 11 [.mk 4 [],.mk 5 []];have YT:=dB 9 [.mk 11 [.mk 4 [],.mk 5 []]];exact dw
   ·have K:(U==5)=false:=by simpa using J
    rw[if_neg (fun h=>J h.2),if_pos rfl];have A:=bC (q) [.mk 9 [.mk 11 [.mk t [],.mk 5 []]]];rw[aG]at A;rw[aG];refine qn Tryz.func69 Tryz.call69 fun β hf=>?_;have YU:=cM 4;have G:=cM 5;have B:=cM t;have u:=dB 11 [.mk t [],.mk 5 []];have adB:=dB 9 [.mk 11 [.mk t [],.mk 5 []]];exact dw
  ·have K:(T==5)=false:=by simpa using E
   rw[if_neg (fun h=>E h.1),if_neg E];have A:=bC (q) [.mk 9 [.mk 11 [.mk t [],.mk 4 []]]];rw[aG]at A;rw[aG];refine qn Tryz.func69 Tryz.call69 fun β hf=>?_;have adC:=cM 4;have adD:=cM t;have adE:=dB 11 [.mk t [],.mk 4 []];have adF:=dB 9 [.mk 11 [.mk t [],.mk 4 []]];exact dw
end Go.Proofs
