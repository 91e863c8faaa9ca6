/- What slices.Clone, slices.Delete, slices.Insert and slices.Reverse over values give, as contracts. What the small functions of package run answer: number, truth, option, pair, wants, of. What move of package run's machine does. slices.Clone and slices.Insert over no values; what DUG does. What KindP -/
import Derived.Test.YtlohbilpimjmmaaGreatDoorRun3
import Derived.Test.YtlohbilpimjmmaaGreatDoorSlVl
import Derived.Test.YtlohbilpimjmmaaGreatDoorBits
import Derived.Test.YtlohbilpimjmmaaGreatDoorVal8
set_option maxHeartbeats 0
set_option linter.unusedVariables false
set_option linter.unusedSimpArgs false
set_option maxRecDepth 100000
namespace Go.Proofs
open Go.cq
theorem B3:∀(l:List Vl),(bI (aa l)).all CV.one=true
 | []=>rfl
 | .mk _ _ _ _ _ _ _::l=>by
  simp only[aa,bM,bI,CV.cells,List.all_append,B3 l,Bool.and_true];rfl
theorem uT:∀(n:Nat) (l:List Vl),(aa l).take n=aa (l.take n)
 | 0,l=>rfl
 | n+1,[]=>rfl
 | n+1,x::l=>by simp only[aa,List.take_succ_cons,uT n l]
theorem ta:∀(n:Nat) (l:List Vl),(aa l).drop n=aa (l.drop n)
 | 0,l=>rfl
 | n+1,[]=>rfl
 | n+1,x::l=>by simp only[aa,List.drop_succ_cons,ta n l]
attribute [local irreducible] AK ai bh bt dI
theorem fh (x:Vl) (l:List Vl) (p:l.length<=1099511627776):og 41 none [.c (.sl 7 (aa (x::l)))] (.gv 999999 0 7 (l.length+1)) (some (bI (aa (x::l)))):=by
 have h1:=az l;have Y:([]++aa (x::l)).length=l.length+1:=by simp only[aa,List.nil_append,aac,h1]
 have G:((([]:List CV).length)+(aa (x::l)).length)*112<=140737488355328:=by simp only[aa,aac,aad,h1];omega
 obtain⟨k,A,u,W,args,B,H⟩:=x;refine dS.of Tryz.func41 rfl (fun args w=>Tryz.call41 args w) (Nat.le_of_ble_eq_true rfl) [(0,.c (.sl 7 (aa (.mk k A u W args B H::l))))] ⟨[],[],[]⟩ rfl rfl fun β=>?_;have hf:=Tryz.func41
 repeat' (first|refine sz ?_|refine zr ?_ ?_|(refine zc ?_ ?_<;>intro h<;>first|(cases h;done)|rw[h]|skip)|refine AK.pJ rfl ?_ ?_|refine ai.vW Tryz.hX kn rfl rfl rfl rfl rfl rfl rfl rfl rfl rfl rfl rfl rfl rfl rfl rfl rfl rfl (fun h=>by cases h) rfl rfl rfl G rfl Y ?_|(refine uA rfl ?_ ?_<;>(try (show(_:Nat)*_<=_;dsimp only)))|((first|refine zt ?_|refine zu ?_ ?_)<;>intro h<;>(fail_if_success (cases h;done))<;>rw[h]))
 exact AK.Xa Tryz.hX hf rfl rfl rfl
theorem qF (s:List Vl) (i:Nat) (hi:i<s.length) (hl:s.length<=20000000000):og 108 (some (bI (aa s))) (.gv 1000000 0 7 s.length::[CV.int .i64 (i:Int),CV.int .i64 ((i+1:Nat):Int)].map AV.c)
  (.gv 999999 0 7 (aa (s.take i++s.drop (i+1))).length) (some (bI (aa (s.take i++s.drop (i+1))))):=by
 have z1:=az s;have hc:(bI (aa s)).length=s.length*7:=by rw[dh (gd s),z1]
 have T:bI (aa (s.take i++s.drop (i+1)))=(bI (aa s)).take (i*7)++(bI (aa s)).drop ((i+1)*7):=by
  rw[kF,dy,sP (gd s) i bn,sQ (gd s) (i+1) bn,uT,ta]
 refine dS.Zi (fun args w=>Tryz.call108 args w) bn (B3 _) ?_;intro w G b I vs us hb Y1 ij A N W K q M;simp only[bL,Rel]at M;obtain⟨_,_,rfl,rfl,_,_,rfl,rfl,rfl⟩:=M;have V:vs.length=s.length*7:=by rw[oh A,hc]
 have h1:=mH A W;refine⟨vs.take (i*7)++vs.drop ((i+1)*7),by rw[T];exact eW (rT _ A) (rU _ A),?_⟩;have U:∀o,o<I*7->(w.cell? ⟨b,o,none⟩).isSome=true:=fun o p=>by
  obtain⟨u,S⟩:=(q o).1 p;rw[S];rfl
 have H:(vs.drop ((i+1)*7)).length=(s.length-(i+1))*7:=by rw[List.length_drop,V];omega
 refine Calls.mono (Va s.length I i b w hi K (vs.drop ((i+1)*7)) _ H (fun u S=>h1 u (List.mem_of_mem_drop S)) (fun j u Y=>N _ u (by rwa[List.getElem?_drop]at Y)) U (fun o=>(q o).2) rfl) ?_;rintro e w' ⟨e1,rfl⟩;obtain⟨D,k2,k3,k4,k5⟩:=dU b (vs.drop ((i+1)*7)) (i*7) w.drew;generalize Q:[Value.int IntKind.i64 0,Value.int IntKind.i64 0,Value.int IntKind.i64 0,Value.string ⟨#[]⟩,Value.slice none 0 0,Value.slice none 0 0,Value.slice none 0 0]=zs;have hzl:zs.length=7:=by rw[<- Q];rfl
 obtain⟨J,l2,l3,l4,l5⟩:=dU b zs ((s.length-1)*7) (w.drew.setCells b (i*7) (vs.drop ((i+1)*7)));have P:∀j,j<(vs.drop ((i+1)*7)).length->(w.drew.cell? ⟨b,i*7+j,none⟩).isSome=true:=fun j Y=>U _ (by rw[H]at Y;omega);have E:∀j,j<zs.length->((w.drew.setCells b (i*7) (vs.drop ((i+1)*7))).cell? ⟨b,(s.length-1)*7+j,none⟩).isSome=true:=fun j Y=>cX P (U _ bn);have yo:(aa (s.take i++s.drop (i+1))).length=s.length-1:=by rw[az,aas,List.length_take,List.length_drop];omega
 refine⟨b,I,by rw[yo];exact e1,bn,⟨W0,W3,W4,by rw[J,D];exact aak _,.inl rfl,fun j u Y=>?_,fun C _ h=>by rw[l5 C h,k5 C h];rfl⟩,by rw[J,D];exact hb,fun o=>⟨fun p=>Option.isSome_iff_exists.1 (cX E (cX P (U o p))),by rw[World.frozen?_setCells,World.frozen?_setCells];exact(q o).2⟩⟩;have B:(vs.take (i*7)).length=i*7:=by rw[List.length_take,V];omega
 rw[dN E,dN P];rw[List.getElem?_append]at Y;split at Y
 ·rename_i h;rw[B]at h;rw[List.getElem?_take,if_pos h]at Y;rw[if_neg bn,if_neg bn];exact N j u Y
 ·rename_i h;rw[B]at h Y;have Y0:j-i*7<(vs.drop ((i+1)*7)).length:=by
   rcases Nat.lt_or_ge (j-i*7) (vs.drop ((i+1)*7)).length with O|O
   ·exact O
   ·rw[List.getElem?_eq_none O]at Y;cases Y
  rw[if_neg bn,if_pos bn];exact Y
theorem uU (s:List Vl) (x:Vl) (i:Nat) (h0:0<s.length) (hi:i<=s.length) (hl:s.length<=20000000000):og 109 (some (bI (aa s))) (.gv 1000000 0 7 s.length::[CV.int .i64 (i:Int),CV.sl 7 (aa [x])].map AV.c)
  (.gv 999999 0 7 (aa (s.take i++x::s.drop i)).length) (some (bI (aa (s.take i++x::s.drop i)))):=by
 have z1:=az s;have hc:(bI (aa s)).length=s.length*7:=by rw[dh (gd s),z1]
 have M:bI (aa (s.take i++x::s.drop i))=(bI (aa s)).take (i*7)++(bI (aa [x])++(bI (aa s)).drop (i*7)):=by
  rw[kF,dy,sP (gd s) i bn,sQ (gd s) i bn,uT,ta];simp only[aa,bI,List.append_nil]
 refine dS.Zi (fun args w=>Tryz.call109 args w) h0 (B3 _) ?_;intro w G b I vs us hb Y1 D A iQ W K q sS;obtain⟨k,nn,a1,s0,args,B,H⟩:=x;simp only[bL,Rel,aa,eB,aac,aad]at sS;obtain⟨_,_,rfl,rfl,_,_,rfl,⟨base,len,vc,rfl,rfl,hvc,C⟩,rfl⟩:=sS;have J:vs.length=s.length*7:=by rw[oh A,hc]
 have h1:=mH A W;have E:∀o,o<I*7->(w.cell? ⟨b,o,none⟩).isSome=true:=fun o p=>by
  obtain⟨u,hu⟩:=(q o).1 p;rw[hu];rfl
 rcases C with C|⟨vb,vo,rfl,C⟩
 ·simp at C
 simp only[eX,oG,cN,and_true]at C;obtain⟨⟨⟨U,g1,r1,o1⟩,⟨T,g2,r2,o2⟩,⟨S,g3,r3,o3⟩,⟨Q,g4,r4,o4⟩,⟨P,g5,r5,o5⟩,⟨O,g6,r6,o6⟩,q7⟩,_⟩:=C;obtain⟨⟨N,g7,r7,o7⟩,_⟩:=q7;have IT:vb≠b:=fun h=>by subst h;rw[Y1]at g1;cases g1
 have Jl:bL G (bI (aa [.mk k nn a1 s0 args B H])) [U,T,S,Q,P,O,N]:=by
  simp only[aa,eB,bI,CV.cells,List.append_nil,bL];exact⟨U,_,rfl,r1,T,_,rfl,r2,S,_,rfl,r3,Q,_,rfl,r4,P,_,rfl,r5,O,_,rfl,r6,N,_,rfl,r7,rfl⟩
 refine⟨vs.take (i*7)++([U,T,S,Q,P,O,N]++vs.drop (i*7)),by rw[M];exact eW (rT _ A) (eW Jl (rU _ A)),?_⟩;refine Calls.mono (Vb b s.length I i vb vo vc vs [U,T,S,Q,P,O,N] w hi h0 K bn IT J rfl iQ E (fun o=>(q o).2) (fun j v Y=>?_) h1 (mH Jl (B3 _))) ?_
 ·rcases j with _|_|_|_|_|_|_|j
  ·simp at Y;subst Y;exact D _ _ _ g1
  ·simp at Y;subst Y;exact D _ _ _ g2
  ·simp at Y;subst Y;exact D _ _ _ g3
  ·simp at Y;subst Y;exact D _ _ _ g4
  ·simp at Y;subst Y;exact D _ _ _ g5
  ·simp at Y;subst Y;exact D _ _ _ g6
  ·simp at Y;subst Y;exact D _ _ _ g7
  ·simp at Y
 ·rintro e w' ⟨b',V,e1,e2,e3,e4⟩;have yo:(aa (s.take i++Vl.mk k nn a1 s0 args B H::s.drop i)).length=s.length+1:=by rw[az,aas,aac,List.length_take,List.length_drop];omega
  obtain⟨u0,YX⟩:=Option.isSome_iff_exists.1 ((e4 0).1 bn);exact⟨b',V,by rw[yo];exact e1,by rw[yo];exact e2,e3,C8 YX,fun o=>⟨fun p=>Option.isSome_iff_exists.1 ((e4 o).1 p),(e4 o).2⟩⟩
theorem FJ:∀(p x y q:List AV),x.length=y.length->dK p.length x (p++(y++q))=some (p++(x++q))
 | [],x,y,q,h=>by
  induction x generalizing y with
  | nil=>cases y with
   | nil=>cases q<;>simp only[aad,List.nil_append,dK]
   | cons _ _=>simp at h
  | cons a x S=>cases y with
   | nil=>simp at h
   | cons b y =>
    have:=S y nu;simp only[aad,List.nil_append,List.cons_append]at this ⊢;simp only[dK,this]
 | a::p,x,y,q,h=>by
  cases x with
  | nil=>cases y with
   | nil=>simp only[aac,List.cons_append,dK]
   | cons _ _=>simp at h
  | cons b x=>simp only[aac,List.cons_append,dK,FJ p (b::x) y q h]
theorem FK {l:List Vl} {i:Nat} {v:Vl} (h:l[i]?=some v):l=l.take i++v::l.drop (i+1)/\(l.take i).length=i:=by
 obtain⟨h1,h2⟩:=List.getElem?_eq_some_iff.1 h;constructor
 ·rw[<- FL h,List.take_append_drop]
 ·grind
theorem L9 (a b:List Vl):ah (aa (a++b))=ah (aa a)++ah (aa b):=by rw[ah,kF,dy,List.map_append]
theorem Sl (a:List Vl):(ah (aa a)).length=a.length*7:=by rw[ah,List.length_map,dh (gd _),az]
theorem C9 {l:List Vl} {i:Nat} {k n a:Int} {s:List UInt8} {args:List Vl} {B:List Ty} {H:List Nd} (h:l[i]?=some (.mk k n a s args B H)):gr (0+i*7) (ah (aa l)) =
  some (.c (aF k) :: .c (aF n) :: .c (aF a) :: .c (.str s) :: .c (.sl 7 (aa args)) :: .c (.sl 2 (aq B)) :: .c (.sl 5 (aI H))::ah (aa (l.drop (i+1)))):=by
 obtain⟨h1,h2⟩:=FK h;have V:=Sl (l.take i);rw[h2]at V
 conv=>lhs;rw[h1,L9,Nat.zero_add,<- V,we]
 rfl
theorem FM {l:List Vl} {i:Nat} (h:i<l.length) (k n a:Int) (s:List UInt8) (args:List Vl) (B:List Ty) (H:List Nd):dK (0+i*7) [.c (aF k),.c (aF n),.c (aF a),.c (.str s),.c (.sl 7 (aa args)),.c (.sl 2 (aq B)),.c (.sl 5 (aI H))] (ah (aa l)) =
  some (ah (aa (l.set i (.mk k n a s args B H)))):=by
 obtain⟨v,Y⟩:∃v,l[i]?=some v:=⟨_,List.getElem?_eq_getElem h⟩
 obtain⟨h1,h2⟩:=FK Y;have V:=Sl (l.take i);rw[h2]at V;have C:l.set i (.mk k n a s args B H)=l.take i ++ .mk k n a s args B H::l.drop (i+1):=by
  rw[List.set_eq_take_append_cons_drop,if_pos h]
 rw[C,L9]
 conv=>lhs;rw[h1,L9,Nat.zero_add,<- V]
 have O:ah (aa (v::l.drop (i+1)))=ah [bM v]++ah (aa (l.drop (i+1))):=by
  show ah (bM v::aa (l.drop (i+1)))=_;rw[ah,ah,ah,<- List.map_append];simp only[bI,List.append_nil]
 rw[O,FJ]
 ·rfl
 ·cases v;rfl
theorem Vc {l m:List Vl} {i:Nat} (U:m.length=l.length) (W:l.length<=2*i+1) (Y:2*i<=l.length+1) (h:∀k,k<l.length->m[k]?=if k<i\/l.length<=k+i then l[l.length-1-k]? else l[k]?):m=l.reverse:=by
 apply List.ext_getElem?;intro k;by_cases D:k<l.length
 ·grind
 ·simp_all
theorem jo (l:List Vl) (hl:l.length<=1099511627776):rV 42 [(1000000,ah (aa l))] [.gv 1000000 0 7 l.length] (.c .undef) [(1000000,ah (aa l.reverse))]:=by
 refine dI.of Tryz.func42 rfl (fun args w=>Tryz.call42 args w) (Nat.le_of_ble_eq_true rfl) [(0,.gv 1000000 0 7 l.length)] ⟨[(1000000,ah (aa l))],[],[1000000]⟩ rfl rfl fun β=>?_;have hf:=Tryz.func42;generalize U:l.reverse=rv;refine dnm ?_;have S:IntKind.i64.wrap ((l.length:Nat)-1:Int)=(l.length:Nat)-1:=gW bn bn;refine AK.fW [(1000000,1000000)] [] (env':=[(0,.gv 1000000 0 7 l.length),(2,.c (aF ((0:Nat):Int))),(3,.c (aF ((l.length:Nat)-1-((0:Nat):Int))))])
  (bs':=[(1000000,ah (aa l))]) (ts':=[]) (us':=[1000000]) ⟨⟨_,rfl,⟨_,rfl,rfl⟩⟩,⟨_,rfl,.inl rfl⟩,⟨_,rfl,.inl (congrArg (fun z=>AV.c (.int .i64 z)) (S.trans bn))⟩,trivial⟩ ⟨⟨_,_,rfl,rfl,dz _⟩,trivial⟩ rfl ?_
 refine AK.eK (α:=Nat×List Vl) (fun z=>z.2.length=l.length/\2*z.1<=l.length+1/\∀k,k<l.length->z.2[k]?=if k<z.1\/l.length<=k+z.1 then l[l.length-1-k]? else l[k]?) (fun z=>l.length+1-z.1)
  (fun z=>[(0,.gv 1000000 0 7 l.length),(2,.c (aF (z.1:Nat))),(3,.c (aF ((l.length:Nat)-1-(z.1:Nat))))]) (fun z=>[(1000000,ah (aa z.2))]) (fun _=>[]) [1000000] (0,l)
  ⟨rfl,by show 2*0<=_;omega,fun k p=>by show l[k]?=if k<0\/l.length<=k+0 then _ else _;rw[if_neg bn]⟩ ⟨.inl rfl,.inl rfl,.inl rfl,trivial⟩ ⟨rfl,trivial⟩ trivial rfl (Ol rfl (Hi _ _) rfl) rfl ?_
 rintro⟨i,m⟩ ⟨h1,h2,P⟩ ih;simp only at h1 h2 P;by_cases hij:2*i+1<l.length
 ·have hc:decide (((i:Nat):Int)<(l.length:Nat)-1-(i:Nat))=true:=aam bn;obtain⟨j,hj⟩:∃j:Nat,j+i+1=l.length:=⟨l.length-1-i,bn⟩
  have O:((l.length:Nat)-1-(i:Nat):Int)=(j:Nat):=by omega
  obtain⟨a,ha⟩:∃a,m[j]?=some a:=⟨_,List.getElem?_eq_getElem bn⟩
  obtain⟨b,hb⟩:∃b,m[i]?=some b:=⟨_,List.getElem?_eq_getElem bn⟩
  have T:∀k,k<l.length->((m.set i a).set j b)[k]?=if k<i+1\/l.length<=k+(i+1)then l[l.length-1-k]? else l[k]?:=by
   intro k p;by_cases Xn:k=j
   ·subst Xn;rw[List.getElem?_set_self lD,if_pos bn,<- hb,P i bn,if_neg bn];congr 1;omega
   ·rw[List.getElem?_set_ne bn];by_cases N:k=i
    ·subst N;rw[List.getElem?_set_self bn,if_pos bn,<- ha,P j bn,if_neg bn];congr 1;omega
    ·rw[List.getElem?_set_ne bn,P k p];by_cases B:k<i\/l.length<=k+i
     ·rw[if_pos B,if_pos bn]
     ·rw[if_neg B,if_neg bn]
  obtain⟨D,K,u,Y,W,H,Q⟩:=a;obtain⟨M,q,J,G,V,E,I⟩:=b;have r1:=C9 ha;have r2:=C9 hb;have w1:=FM (l:=m) (i:=i) bn D K u Y W H Q;have w2:=FM (l:=m.set i (.mk D K u Y W H Q)) (i:=j) (by rw[List.length_set];omega) M q J G V E I;have C:IntKind.i64.wrap (((i:Nat):Int)+1)=((i+1:Nat):Int):=by rw[gW bn bn];omega
  have A:IntKind.i64.wrap ((l.length:Nat)-1-(i:Nat)-1:Int)=(l.length:Nat)-1-((i+1:Nat):Int):=by rw[gW bn bn];omega
  repeat' (first|refine nj ?_|(refine zc ?_ ?_<;>intro h<;>first|(cases h;done)|rw[h]|skip)|refine AK.pJ rfl ?_ ?_|refine ai.jf Tryz.hX kn rfl rfl rfl rfl rfl rfl rfl rfl rfl j O bn ?_|refine ai.jf Tryz.hX kn rfl rfl rfl rfl rfl rfl rfl rfl rfl i rfl bn ?_|refine ai.gE Tryz.hX kn rfl rfl rfl rfl rfl rfl r1 rfl ?_|refine ai.gE Tryz.hX kn rfl rfl rfl rfl rfl rfl r2 rfl ?_|refine ai.store Tryz.hX kn rfl rfl rfl rfl rfl rfl rfl rfl rfl w1 rfl ?_|refine ai.store Tryz.hX kn rfl rfl rfl rfl rfl rfl rfl rfl rfl w2 rfl ?_|(refine uA rfl ?_ ?_<;>(try (show(_:Nat)*_<=_;dsimp only)))|((first|refine zt ?_|refine zu ?_ ?_)<;>intro h<;>(fail_if_success (cases h;done))<;>rw[h]))
  refine AK.fW [(1000000,1000000)] [] (env':=[(0,.gv 1000000 0 7 l.length),(2,.c (aF ((i+1:Nat):Int))),(3,.c (aF ((l.length:Nat)-1-((i+1:Nat):Int))))])
   (bs':=[(1000000,ah (aa ((m.set i (.mk D K u Y W H Q)).set j (.mk M q J G V E I))))]) (ts':=[]) (us':=[1000000])
   ⟨⟨_,rfl,⟨_,rfl,rfl⟩⟩,⟨_,rfl,.inl (congrArg (fun z=>AV.c (.int .i64 z)) C)⟩,⟨_,rfl,.inl (congrArg (fun z=>AV.c (.int .i64 z)) A)⟩,trivial⟩ ⟨⟨_,_,rfl,rfl,dz _⟩,trivial⟩ rfl ?_
  exact ih (i+1,(m.set i (.mk D K u Y W H Q)).set j (.mk M q J G V E I)) ⟨by show(List.set _ _ _).length=_;rw[List.length_set,List.length_set];exact h1,by show 2*(i+1)<=_;omega,T⟩ (by show l.length+1-(i+1)<l.length+1-i;omega)
 ·have hc:decide (((i:Nat):Int)<(l.length:Nat)-1-(i:Nat))=false:=aan bn;have hm:m=rv:=by rw[<- U];exact Vc h1 bn h2 P
  subst hm;clear ih
  repeat' (first|refine nj ?_|(refine zc ?_ ?_<;>intro h<;>first|(cases h;done)|rw[h]|skip)|refine AK.pJ rfl ?_ ?_|(refine uA rfl ?_ ?_<;>(try (show(_:Nat)*_<=_;dsimp only)))|((first|refine zt ?_|refine zu ?_ ?_)<;>intro h<;>(fail_if_success (cases h;done))<;>rw[h]))
  exact AK.Da (.inr rfl) Tryz.hX hf rfl [(1000000,1000000)] rfl (.inr rfl) ⟨⟨_,_,rfl,rfl,dz _⟩,trivial⟩
end Go.Proofs
namespace Go.Proofs
open Go.cq
attribute [local irreducible] AK ai bh bt dI
theorem cH (k n:Int):ag 112 [aF k,aF n] (bM (aO k n)):=by
 refine qn Tryz.func112 Tryz.call112 fun β hf=>?_;exact dq
theorem jq (b:Bool):ag 121 [.bool b] (bM (iu b)):=by
 have h1:=cH 2 1;have U:=cH 2 0;cases b
 ·refine qn Tryz.func121 Tryz.call121 fun β hf=>?_;exact dq
 ·refine qn Tryz.func121 Tryz.call121 fun β hf=>?_;exact dq
theorem fL (l:List Vl):ag 111 [.sl 7 (aa l)] (bM (cB l)):=by
 refine qn Tryz.func111 Tryz.call111 fun β hf=>?_;exact dq
theorem iw (a b:Vl):ag 110 [bM a,bM b] (bM (bz a b)):=by
 obtain⟨D,K,u,Y,W,H,Q⟩:=a;obtain⟨U,q,B,G,V,E,T⟩:=b;refine qn Tryz.func110 Tryz.call110 fun β hf=>?_;exact dq
theorem kG (p:Int) (h:40<=p/\p<=95):ag 82 [aF p] (aF (bO p:Nat)):=by
 have A:p=40\/p=41\/p=42\/p=43\/p=44\/p=45\/p=46\/p=47\/p=48\/p=49\/p=50\/p=51\/p=52\/p=53\/p=54\/p=55\/p=56\/p=57\/p=58\/p=59\/p=60\/p=61\/p=62\/p=63\/p=64\/p=65\/p=66\/p=67\/p=68\/p=69\/p=70\/p=71\/p=72\/p=73\/p=74\/p=75\/p=76\/p=77\/p=78\/p=79\/p=80\/p=81\/p=82\/p=83\/p=84\/p=85\/p=86\/p=87\/p=88\/p=89\/p=90\/p=91\/p=92\/p=93\/p=94\/p=95:=by omega
 clear h;rcases A with rfl|rfl|rfl|rfl|rfl|rfl|rfl|rfl|rfl|rfl|rfl|rfl|rfl|rfl|rfl|rfl|rfl|rfl|rfl|rfl|rfl|rfl|rfl|rfl|rfl|rfl|rfl|rfl|rfl|rfl|rfl|rfl|rfl|rfl|rfl|rfl|rfl|rfl|rfl|rfl|rfl|rfl|rfl|rfl|rfl|rfl|rfl|rfl|rfl|rfl|rfl|rfl|rfl|rfl|rfl|rfl
 all_goals
  first
  | (refine bh.of Tryz.func82 rfl (fun args w=>Tryz.call82 args w) (Nat.le_of_ble_eq_true rfl) [(0,.c (aF _))] rfl fun β Y=>?_;have hf:=Tryz.func82;exact dq)
theorem mK (p a b:Int):ag 115 [aF p,aF a,aF b] (aF (ofM p a b)):=by
 refine qn Tryz.func115 Tryz.call115 fun β hf=>?_
 repeat' (first|refine sz ?_|(refine zc ?_ ?_<;>intro h<;>first|(cases h;done)|rw[h]|skip)|((first|refine zt ?_|refine zu ?_ ?_)<;>intro h<;>(fail_if_success (cases h;done))<;>rw[h]))
 all_goals (show(_:CV)=_;clear hf;unfold ofM;simp_all)
end Go.Proofs
namespace Go.Proofs
open Go.cq
theorem dI.Zj {P:Program} {X:Ctx} {f:FuncId} {H G:List (Nat×List AV)} {args Y:List AV} {r:AV} (h:∀(g:Gh) vs,bF g Y vs->bF g args vs) (hq:dI P X f H args r G):dI P X f H Y r G :=
 ⟨hq.1,fun g w vs W E I=>hq.2 g w vs W E (h g vs I)⟩
theorem abV {s t:Nat} {g:Gh} {u:Value} (h:aK g (.c (.sl s [])) u):aK g (.c (.sl t [])) u:=by
 simp only[aK,Rel]at h ⊢;obtain⟨base,Y,I,h1,h2,V,_⟩:=h;exact⟨base,Y,I,h1,h2,V,.inl trivial⟩
theorem gJ (S:bT) (H:List Nd) (fin:Int) (A:S.fr.length<=1099511627776):cC 55 S [.c (.sl 5 (aI H)),.c (aF fin),.c (.sl 0 [])] .undef (cO S H fin []) :=
 dI.Zj (fun g vs h=>by
  simp only[bF]at h ⊢;obtain⟨Y,_,rfl,h1,U,_,rfl,h2,W,_,rfl,V,T,_,rfl,Q,rfl⟩:=h
  exact⟨Y,_,rfl,h1,U,_,rfl,h2,W,_,rfl,V,T,_,rfl,abV Q,rfl⟩) (uV S H fin [] A)
theorem fj:ag 111 [.sl 0 []] (bM (cB [])) :=
 bh.wk (by simp only[xw];exact⟨Oh,trivial⟩) (Wk.refl _) (fL [])
theorem Wr {st:List Vl} {k:Nat} {v:Vl} (h:st[k]?=some v):st.reverse[st.length-1-k]?=some v:=by
 obtain⟨h1,h2⟩:=List.getElem?_eq_some_iff.1 h;rw[List.getElem?_reverse bn];rw[show st.length-1-(st.length-1-k)=k from by omega];exact h
theorem Sn {l:List Vl} {i:Nat} {v:Vl} (h:l[i]?=some v):lV l i=v:=by
 unfold lV;rw[List.getD_eq_getElem?_getD,h];rfl
theorem tX {T:AV->AV->Prop} (E:∀a,T a a):∀l:List AV,Ur T l l
 | []=>trivial
 | a::l=>⟨E a,tX E l⟩
theorem Zk {a b:Nat} (h:a≠b):(!Nat.beq a b)=true:=by
 cases e:Nat.beq a b with
 | false=>rfl
 | true=>exact absurd (beq_true e) h
theorem B4 {f:FuncId} {n:Nat} {β:jG} {R:Ending->World->Prop} {K:List Item} {env:Env} (S:bT) {a b:Nat} {us:List Nat} {bs:List (Nat×List AV)} {D T U:List AV} (N:ak 1000000 bs=some D) (Q:D=mC S a b) (h1:ak a bs=some T) (q1:T=ah (sR S.st)) (h2:ak b bs=some U) (A:U=ah (fR S.fr)) (H:Go.cq.distinct [1000000,a,b]=true) (Y:List (Nat×List AV)) (W:∀g:Nat,Zl (Us a 7 (sR S.st)) bs Y) (V:(Y.all fun p => !Nat.beq p.1 a)=true) {env':Env} {ts ts':List (Nat×Nat)} (P:Zm (Us a 7 (sR S.st)) env env') (M:JI ts ts')
  (h:EK f n β R K env' ⟨(1000000,LB S 0 b)::(b,ah (fR S.fr))::Y,ts',us⟩):EK f n β R K env ⟨bs,ts,us⟩:=by
 subst Q q1 A;obtain⟨O,q,J⟩:=Ah H;have I:∀x,Us a 7 (sR S.st) x x:=fun _ => .inl rfl;refine AK.B5 a 7 (sR S.st) (tail:=[]) (bs':=(1000000,LB S 0 b)::(b,ah (fR S.fr))::Y) h1 (List.append_nil _).symm (gd _) P ⟨⟨_,N,⟨I _,I _,I _,I _,.inr ⟨_,rfl,(iS _).symm,rfl⟩,tX I _⟩⟩,⟨_,h2,tX I _⟩,W 0⟩ ?_ M h;simp only[List.all_cons,V,Bool.and_true,Zk O,Zk (Ne.symm J)]
attribute [local irreducible] AK ai bh bt dI dS lI
theorem FE (S:bT) (N:Int) (V:List UInt8) (l:List Vl):cC 83 S [.c (aX (.mk 2 N 40 V [])),.c (.sl 7 (aa l))] (aF 0) S:=by
 refine mn Tryz.func83 Tryz.call83 fun β hf=>?_;exact dm
theorem PS (S:bT) (N:Int) (U:List UInt8) (a b:Vl) (u:aM a<=8589934593) (G:aM b<=8589934593) (A:S.st.length<=1000000000):iD 83 S [.c (aX (.mk 2 N 42 U [])),.c (.sl 7 (aa [a,b]))] (bl S [a,b]):=by
 have T:=pR S [a,b] (by intro v Y;simp at Y;rcases Y with rfl|rfl<;>assumption) c9 EV;obtain⟨D,K,C,Q,W,H,P⟩:=a;obtain⟨O,q,B,M,V,E,J⟩:=b;refine mn Tryz.func83 Tryz.call83 fun β hf=>?_;exact dm
theorem So (S:bT) (N:Int) (U:List UInt8) (k:Nat) (T:Int) (B:List UInt8) (A:List Nd) (l:List Vl) (v:Vl) (K:1<=k) (V:S.st[k-1]?=some v) (G:aM v<=8589934593) (p:S.st.length<=1000000000) :
  iD 83 S [.c (aX (.mk 2 N 41 U [.mk 0 (k:Nat) T B A])),.c (.sl 7 (aa l))] (bl S [v]):=by
 have Q:=pR S [v] (by intro x O;simp at O;subst O;exact G) c9 EV;have P:=Wr V;have M:k-1<S.st.length:=(List.getElem?_eq_some_iff.1 V).1;obtain⟨D,J,u,H,W,E,C⟩:=v;have I:IntKind.i64.wrap (((S.st.length:Nat):Int)-(k:Nat))=((S.st.length-1-(k-1):Nat):Int):=by rw[gW bn bn];omega
 have q:decide (((k:Nat):Int)<1)=false:=aan bn;have wg:decide (IntKind.i64.wrap (((S.st.length:Nat):Int)-(k:Nat))<0)=false:=by rw[I];exact aan bn
 have Y:=C9 P;refine mn Tryz.func83 Tryz.call83 fun β hf=>?_
 repeat' (first|refine nj ?_|(refine zc ?_ ?_<;>intro h<;>first|(cases h;done)|rw[h]|skip)|refine uI rfl (0) rfl (rfl) rfl ?_|refine ai.jf Tryz.hX kn rfl rfl rfl rfl rfl rfl rfl rfl rfl (S.st.length-1-(k-1)) I bn ?_|refine ai.gE Tryz.hX kn rfl rfl rfl rfl rfl rfl Y rfl ?_|refine tc ?_ (hq:=Q)|(refine uA rfl ?_ ?_<;>(try (show(_:Nat)*_<=_;dsimp only)))|((first|refine zt ?_|refine zu ?_ ?_)<;>intro h<;>(fail_if_success (cases h;done))<;>rw[h]))
 all_goals rfl
theorem Sp {st:List Vl} {k:Nat} {v:Vl} (Y:st[k]?=some v):sR (st.take k++st.drop (k+1))=aa (st.reverse.take (st.length-1-k)++st.reverse.drop (st.length-1-k+1)):=by
 have C:k<st.length:=(List.getElem?_eq_some_iff.1 Y).1;have I:st.length-(st.length-1-k)=k+1:=by omega
 have U:st.length-(st.length-1-k+1)=k:=by omega
 rw[sR,List.reverse_append,List.take_reverse,List.drop_reverse,I,U]
theorem Sq (S:bT) (N:Int) (U:List UInt8) (k:Nat) (T:Int) (B:List UInt8) (A:List Nd) (l:List Vl) (v:Vl) (V:S.st[k]?=some v) (hl:S.st.length<=1000000000) :
  cC 83 S [.c (aX (.mk 2 N 43 U [.mk 0 (k:Nat) T B A])),.c (.sl 7 (aa l))] (aF 0) {S with st:=v::(S.st.take k++S.st.drop (k+1))}:=by
 have P:=Wr V;have C:k<S.st.length:=(List.getElem?_eq_some_iff.1 V).1;have I:IntKind.i64.wrap ((((sR S.st).length:Nat):Int)-(k:Nat))=((S.st.length-1-k+1:Nat):Int):=by rw[iS];rw[gW bn bn];omega
 have Y:IntKind.i64.wrap (IntKind.i64.wrap ((((sR S.st).length:Nat):Int)-(k:Nat))-1)=((S.st.length-1-k:Nat):Int):=by rw[I,gW bn bn];omega
 have O:decide (((k:Nat):Int)<0)=false:=aan bn;have J:decide (IntKind.i64.wrap ((((sR S.st).length:Nat):Int)-(k:Nat))<1)=false:=by rw[I];exact aan bn
 have M:(bif decide (((k:Nat):Int)<0)then true else decide (IntKind.i64.wrap ((((sR S.st).length:Nat):Int)-(k:Nat))<1))=false:=by rw[O,J];rfl
 have Q:=qF S.st.reverse (S.st.length-1-k) Ot Ot;rw[<- Sp V]at Q;have K:(aa S.st.reverse)[S.st.length-1-k]?=some (bM v):=by rw[jx,P];rfl
 obtain⟨x,q,hq⟩:∃x q,S.st.reverse=x::q:=by
  cases h:S.st.reverse with
  | nil=>have:=congrArg List.length h;simp at this;rw[this]at C;simp at C
  | cons x q=>exact⟨x,q,rfl⟩
 have p:=fh x q PN;rw[<- hq]at p;have H:(AV.gv 1000000 0 7 S.st.reverse.length::List.map AV.c [CV.int IntKind.i64 ((S.st.length-1-k:Nat):Int),CV.int IntKind.i64 ((S.st.length-1-k+1:Nat):Int)]) = .gv 1000000 0 7 (q.length+1)::[CV.int IntKind.i64 (IntKind.i64.wrap (IntKind.i64.wrap ((((sR S.st).length:Nat):Int)-(k:Nat))-1)),CV.int IntKind.i64 (IntKind.i64.wrap ((((sR S.st).length:Nat):Int)-(k:Nat)))].map AV.c:=by
  rw[Y,I,hq];rfl
 obtain⟨D,G,u,E,W,af,aB⟩:=v;refine mn Tryz.func83 Tryz.call83 fun β hf=>?_;refine B4 S rfl rfl rfl rfl rfl rfl rfl [] (fun _=>trivial) rfl (env':=[(0,.ptr 1000000 0),(1,.c (aX (.mk 2 N 43 U [.mk 0 (k:Nat) T B A]))),(2,.c (.sl 7 (aa l)))]) (ts':=[]) ⟨⟨_,rfl,.inl rfl⟩,⟨_,rfl,.inl rfl⟩,⟨_,rfl,.inl rfl⟩,trivial⟩ trivial ?_
 repeat' (first|refine nj ?_|(refine zc ?_ ?_<;>intro h<;>first|(cases h;done)|rw[h]|skip)|refine uI rfl (0) rfl (rfl) rfl ?_|refine uI rfl (S.st.length-1-k) Y K rfl ?_|refine ai.lG kn rfl rfl rfl rfl rfl rfl p rfl ?_|refine ai.rq kn rfl rfl rfl rfl rfl rfl rfl rfl rfl Q H rfl ?_|refine ai.mL Tryz.hX kn rfl rfl rfl rfl rfl rfl rfl rfl rfl rfl rfl rfl rfl rfl rfl (sR (S.st.take k++S.st.drop (k+1))) [] (List.append_nil _).symm rfl (by rw[iS];exact td _) rfl rfl rfl rfl rfl rfl rfl (show((sR (S.st.take k++S.st.drop (k+1))).length+1)*112<=_ by rw[iS,aas,List.length_take,List.length_drop];omega) (Hj (.mk D G u E W af aB) _).symm (iS _) rfl ?_|(refine uA rfl ?_ ?_<;>(try (show(_:Nat)*_<=_;dsimp only)))|((first|refine zt ?_|refine zu ?_ ?_)<;>intro h<;>(fail_if_success (cases h;done))<;>rw[h]))
 all_goals rfl
end Go.Proofs
namespace Go.Proofs
open Go.cq
attribute [local irreducible] AK ai bh bt dI dS lI
theorem jy (s:Nat):rV 41 [] [.c (.sl s [])] (.own .exact 7 []) []:=by
 refine dI.of Tryz.func41 rfl (fun args w=>Tryz.call41 args w) (Nat.le_of_ble_eq_true rfl) [(0,.c (.sl s []))] ⟨[],[],[]⟩ rfl rfl fun β=>?_;have hf:=Tryz.func41
 repeat' (first|refine nj ?_|(refine zc ?_ ?_<;>intro h<;>first|(cases h;done)|rw[h]|skip)|refine AK.pJ rfl ?_ ?_|refine ai.Hl Tryz.hX kn rfl rfl rfl rfl rfl rfl rfl rfl rfl rfl rfl rfl rfl ?_|(refine uA rfl ?_ ?_<;>(try (show(_:Nat)*_<=_;dsimp only)))|((first|refine zt ?_|refine zu ?_ ?_)<;>intro h<;>(fail_if_success (cases h;done))<;>rw[h]))
 ·refine AK.weak Em Em.rel Em.one (env':=[(2,.own .exact 7 [])]) (bs':=[]) (ts':=[]) ⟨⟨_,rfl,.inr ⟨_,_,rfl,rfl⟩⟩,trivial⟩ trivial trivial ?_;exact Yk
 ·exact Yk
theorem Db (x:Vl):rV 109 [] [.own .exact 7 [],.c (aF 0),.c (.sl 7 (aa [x]))] (.gv 999999 0 7 1) [(999999,ah (aa [x]))]:=by
 obtain⟨D,K,u,Y,W,H,Q⟩:=x;refine dI.of Tryz.func109 rfl (fun args w=>Tryz.call109 args w) (Nat.le_of_ble_eq_true rfl) [(0,.own .exact 7 []),(1,.c (aF 0)),(2,.c (.sl 7 (aa [.mk D K u Y W H Q])))] ⟨[],[],[]⟩ rfl rfl fun β=>?_;have hf:=Tryz.func109
 repeat' (first|refine nj ?_|(refine zc ?_ ?_<;>intro h<;>first|(cases h;done)|rw[h]|skip)|refine AK.pJ rfl ?_ ?_|refine ai.vW Tryz.hX kn rfl rfl rfl rfl rfl rfl rfl rfl rfl rfl rfl rfl rfl rfl rfl rfl rfl rfl (fun h=>by cases h) rfl rfl rfl (show(0+1)*112<=140737488355328 by decide) rfl (m:=1) rfl ?_|(refine uA rfl ?_ ?_<;>(try (show(_:Nat)*_<=_;dsimp only)))|((first|refine zt ?_|refine zu ?_ ?_)<;>intro h<;>(fail_if_success (cases h;done))<;>rw[h]))
 exact AK.BS Tryz.hX hf rfl [(999999,25)] rfl ⟨_,rfl,rfl⟩ ⟨⟨_,_,rfl,rfl,dz _⟩,trivial⟩
theorem Sr (st:List Vl) (k:Nat) (v:Vl) (D:k<=st.length):sR (st.take k++v::st.drop k)=aa (st.reverse.take (st.length-k)++v::st.reverse.drop (st.length-k)):=by
 have C:st.length-(st.length-k)=k:=by omega
 rw[sR,List.reverse_append,List.reverse_cons,List.take_reverse,List.drop_reverse,C,List.append_assoc];rfl
theorem Ss (S:bT) (N:Int) (V:List UInt8) (k:Nat) (Y:Int) (B:List UInt8) (A:List Nd) (v:Vl) (D:k<=S.st.length) (hl:S.st.length<=1000000000) :
  cC 83 S [.c (aX (.mk 2 N 44 V [.mk 0 (k:Nat) Y B A])),.c (.sl 7 (aa [v]))] (aF 0) {S with st:=S.st.take k++v::S.st.drop k}:=by
 have G:decide (((k:Nat):Int)<0)=false:=aan bn;by_cases U:S.st=[]
 ·obtain⟨a,b,c,d,st,fr,g,u,m,said⟩:=S;simp only at U D hl;subst U;simp only[aad,Nat.le_zero]at D;subst D;have I:IntKind.i64.wrap ((((sR []).length:Nat):Int)-(0:Nat))=0:=by decide
  have J:decide (IntKind.i64.wrap ((((sR []).length:Nat):Int)-(0:Nat))<0)=false:=by rw[I];rfl
  have T:(bif decide (((0:Nat):Int)<0)then true else decide (IntKind.i64.wrap ((((sR []).length:Nat):Int)-(0:Nat))<0))=false:=by rw[G,J];rfl
  have O:=Db v;obtain⟨Q,K,C,P,W,H,M⟩:=v;refine mn Tryz.func83 Tryz.call83 fun β hf=>?_;refine B4 (bT.mk a b c d [] fr g u m said) rfl rfl rfl rfl rfl rfl rfl [] (fun _=>trivial) rfl (env':=[(0,.ptr 1000000 0),(1,.c (aX (.mk 2 N 44 V [.mk 0 ((0:Nat):Int) Y B A]))),(2,.c (.sl 7 (aa [.mk Q K C P W H M])))]) (ts':=[]) ⟨⟨_,rfl,.inl rfl⟩,⟨_,rfl,.inl rfl⟩,⟨_,rfl,.inl rfl⟩,trivial⟩ trivial ?_
  repeat' (first|refine nj ?_|(refine zc ?_ ?_<;>intro h<;>first|(cases h;done)|rw[h]|skip)|refine uI rfl (0) rfl (rfl) rfl ?_|refine ai.xL kn rfl rfl (jy 7) rfl rfl (fun _=>⟨_,_,rfl,.inr rfl,rfl⟩) rfl rfl ?_|refine ai.Su kn rfl rfl O rfl rfl rfl rfl (fun _=>⟨_,_,rfl,rfl,_,_,rfl,.inl (congrArg (fun z=>AV.c (.int .i64 z)) I),_,_,rfl,.inr rfl,rfl⟩) ?_|(refine uA rfl ?_ ?_<;>(try (show(_:Nat)*_<=_;dsimp only)))|((first|refine zt ?_|refine zu ?_ ?_)<;>intro h<;>(fail_if_success (cases h;done))<;>rw[h]))
  all_goals rfl
 ·have hne:0<S.st.length:=List.length_pos_iff.2 U;have I:IntKind.i64.wrap ((((sR S.st).length:Nat):Int)-(k:Nat))=((S.st.length-k:Nat):Int):=by rw[iS,gW bn bn];omega
  have J:decide (IntKind.i64.wrap ((((sR S.st).length:Nat):Int)-(k:Nat))<0)=false:=by rw[I];exact aan bn
  have T:(bif decide (((k:Nat):Int)<0)then true else decide (IntKind.i64.wrap ((((sR S.st).length:Nat):Int)-(k:Nat))<0))=false:=by rw[G,J];rfl
  have E:=uU S.st.reverse v (S.st.length-k) Ot Ot Ot;rw[<- Sr _ _ _ D,iS]at E;obtain⟨x,q,hq⟩:∃x q,S.st.reverse=x::q:=by
   cases h:S.st.reverse with
   | nil=>exact absurd (List.reverse_eq_nil_iff.1 h) U
   | cons x q=>exact⟨x,q,rfl⟩
  have p:=fh x q PN;rw[<- hq]at p;have Ma:(AV.gv 1000000 0 7 S.st.reverse.length::List.map AV.c [CV.int IntKind.i64 ((S.st.length-k:Nat):Int),CV.sl 7 (aa [v])]) = .gv 1000000 0 7 (q.length+1)::[CV.int IntKind.i64 (IntKind.i64.wrap ((((sR S.st).length:Nat):Int)-(k:Nat))),CV.sl 7 (aa [v])].map AV.c:=by
   rw[I,hq];rfl
  obtain⟨Q,K,C,P,W,H,M⟩:=v;refine mn Tryz.func83 Tryz.call83 fun β hf=>?_;refine B4 S rfl rfl rfl rfl rfl rfl rfl [] (fun _=>trivial) rfl (env':=[(0,.ptr 1000000 0),(1,.c (aX (.mk 2 N 44 V [.mk 0 (k:Nat) Y B A]))),(2,.c (.sl 7 (aa [.mk Q K C P W H M])))]) (ts':=[]) ⟨⟨_,rfl,.inl rfl⟩,⟨_,rfl,.inl rfl⟩,⟨_,rfl,.inl rfl⟩,trivial⟩ trivial ?_
  repeat' (first|refine nj ?_|(refine zc ?_ ?_<;>intro h<;>first|(cases h;done)|rw[h]|skip)|refine uI rfl (0) rfl (rfl) rfl ?_|refine ai.lG kn rfl rfl rfl rfl rfl rfl p rfl ?_|refine ai.rq kn rfl rfl rfl rfl rfl rfl rfl rfl rfl E Ma rfl ?_|(refine uA rfl ?_ ?_<;>(try (show(_:Nat)*_<=_;dsimp only)))|((first|refine zt ?_|refine zu ?_ ?_)<;>intro h<;>(fail_if_success (cases h;done))<;>rw[h]))
  all_goals rfl
end Go.Proofs
namespace Go.Proofs
open Go.cq
mutual
theorem Bf:∀(n:Nd) (d left:Int) (t:Ty) (m:Int),fA n d left=(some t,m)->PT t=n
 | .mk kind A p s args,d,left,t,m,h=>by
  simp only[fA]at h;split at h
  ·simp at h
  ·rename_i E;simp only[not_or,ne_eq,Decidable.not_not]at E;rcases D:dM args (d+1) (left-1)with ⟨b,Y⟩
   rw[D]at h;cases b with
   | none=>simp at h
   | some l =>
    simp at h;have:=yT args (d+1) (left-1) l Y D;rw[<- h.1];simp only[PT,this];rw[E.2.2.1,E.2.2.2.1,E.2.2.2.2.1]
theorem yT:∀(l:List Nd) (d left:Int) (r:List Ty) (m:Int),dM l d left=(some r,m)->JJ r=l
 | [],d,left,r,m,h=>by simp[dM]at h;rw[h.1];rfl
 | x::l,d,left,r,m,h=>by
  simp only[dM]at h;rcases D:fA x d left with ⟨b,Y⟩
  rw[D]at h;cases b with
  | none=>simp at h
  | some t =>
   simp only at h;rcases B:dM l d Y with ⟨P,I⟩
   rw[B]at h;cases P with
   | none=>simp at h
   | some q =>
    simp at h;have h1:=Bf x d left t Y D;have h2:=yT l d Y q I B;rw[<- h.1];simp only[JJ,h1,h2]
end
theorem uX (n:Nd):(∃t,aZ n=(t,0)/\bw t=true/\PT t=n/\bA t<=b8 n)\/aZ n=(.mk 0 [],1):=by
 simp only[aZ];rcases D:fA n 1 300 with ⟨b,m⟩
 cases b with
 | none=>right;rfl
 | some t =>
  simp only;cases E:bw t
  ·right;rfl
  ·left;exact⟨t,rfl,E,Bf n 1 300 t m D,uo n 1 300 t m D⟩
attribute [local irreducible] AK ai bh bt PT JJ bw kj fC lz ga ju arity aZ cP oF Zn dG
end Go.Proofs
