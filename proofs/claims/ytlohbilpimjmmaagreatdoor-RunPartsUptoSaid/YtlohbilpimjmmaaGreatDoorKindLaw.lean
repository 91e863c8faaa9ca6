/- What slices.Clone, slices.Delete, slices.Insert and slices.Reverse over values give, as contracts. What the small functions of package run answer: number, truth, option, pair, wants, of. What move of package run's machine does. slices.Clone and slices.Insert over no values; what DUG does. What KindP -/
import Derived.Test.YtlohbilpimjmmaaGreatDoorRun3
import Derived.Test.YtlohbilpimjmmaaGreatDoorSlVl
import Derived.Test.YtlohbilpimjmmaaGreatDoorBits
import Derived.Test.YtlohbilpimjmmaaGreatDoorVal8
set_option maxHeartbeats 0
set_option linter.unusedVariables false
set_option linter.unusedSimpArgs false
set_option maxRecDepth 100000
namespace Go.Proofs
open Go.cu
theorem BX:∀(l:List Vl),(bK (aa l)).all CV.one=true
 | []=>rfl
 | .mk _ _ _ _ _ _ _::l=>by
  simp only[aa,bP,bK,CV.cells,List.all_append,BX l,Bool.and_true];rfl
theorem uJ:∀(n:Nat) (l:List Vl),(aa l).take n=aa (l.take n)
 | 0,l=>rfl
 | n+1,[]=>rfl
 | n+1,x::l=>by simp only[aa,List.take_succ_cons,uJ n l]
theorem sX:∀(n:Nat) (l:List Vl),(aa l).drop n=aa (l.drop n)
 | 0,l=>rfl
 | n+1,[]=>rfl
 | n+1,x::l=>by simp only[aa,List.drop_succ_cons,sX n l]
attribute [local irreducible] AK ai bw bz dJ
theorem fo (x:Vl) (l:List Vl) (C:l.length<=1099511627776):n9 41 none [.c (.sl 7 (aa (x::l)))] (.gy 999999 0 7 (l.length+1)) (some (bK (aa (x::l)))):=by
 have h1:=az l;have p:([]++aa (x::l)).length=l.length+1:=by simp only[aa,List.nil_append,aaa,h1]
 have Y:((([]:List CV).length)+(aa (x::l)).length)*112<=140737488355328:=by simp only[aa,aaa,aab,h1];omega
 obtain⟨k,G,u,S,args,H,B⟩:=x;refine dN.of Tryz.func41 rfl (fun args w=>Tryz.call41 args w) (Nat.le_of_ble_eq_true rfl) [(0,.c (.sl 7 (aa (.mk k G u S args H B::l))))] ⟨[],[],[]⟩ rfl rfl fun β=>?_;have hf:=Tryz.func41
 repeat' (first|refine sz ?_|refine zr ?_ ?_|(refine zc ?_ ?_<;>intro h<;>first|(cases h;done)|rw[h]|skip)|refine AK.pG rfl ?_ ?_|refine ai.vP Tryz.hX kn rfl rfl rfl rfl rfl rfl rfl rfl rfl rfl rfl rfl rfl rfl rfl rfl rfl rfl (fun h=>by cases h) rfl rfl rfl Y rfl p ?_|(refine uA rfl ?_ ?_<;>(try (show(_:Nat)*_<=_;dsimp only)))|((first|refine zt ?_|refine zu ?_ ?_)<;>intro h<;>(fail_if_success (cases h;done))<;>rw[h]))
 exact AK.WR Tryz.hX hf rfl rfl rfl
theorem qE (s:List Vl) (i:Nat) (hi:i<s.length) (hl:s.length<=20000000000):n9 108 (some (bK (aa s))) (.gy 1000000 0 7 s.length::[CV.int .i64 (i:Int),CV.int .i64 ((i+1:Nat):Int)].map AV.c)
  (.gy 999999 0 7 (aa (s.take i++s.drop (i+1))).length) (some (bK (aa (s.take i++s.drop (i+1))))):=by
 have z1:=az s;have hc:(bK (aa s)).length=s.length*7:=by rw[dh (gk s),z1]
 have W:bK (aa (s.take i++s.drop (i+1)))=(bK (aa s)).take (i*7)++(bK (aa s)).drop ((i+1)*7):=by
  rw[kz,dB,sI (gk s) i bn,sJ (gk s) (i+1) bn,uJ,sX]
 refine dN.Y9 (fun args w=>Tryz.call108 args w) bn (BX _) ?_;intro w G b E vs us hb NQ ir D Q Y B T O;simp only[bO,Rel]at O;obtain⟨_,_,rfl,rfl,_,_,rfl,rfl,rfl⟩:=O;have N:vs.length=s.length*7:=by rw[oa D,hc]
 have h1:=mD D Y;refine⟨vs.take (i*7)++vs.drop ((i+1)*7),by rw[W];exact eZ (rS _ D) (rT _ D),?_⟩;have M:∀o,o<E*7->(w.cell? ⟨b,o,none⟩).isSome=true:=fun o q=>by
  obtain⟨u,A⟩:=(T o).1 q;rw[A];rfl
 have H:(vs.drop ((i+1)*7)).length=(s.length-(i+1))*7:=by rw[List.length_drop,N];omega
 refine Calls.mono (UN s.length E i b w hi B (vs.drop ((i+1)*7)) _ H (fun u A=>h1 u (List.mem_of_mem_drop A)) (fun j u P=>Q _ u (by rwa[List.getElem?_drop]at P)) M (fun o=>(T o).2) rfl) ?_;rintro e w' ⟨e1,rfl⟩;obtain⟨K,k2,k3,k4,k5⟩:=dV b (vs.drop ((i+1)*7)) (i*7) w.drew;generalize V:[Value.int IntKind.i64 0,Value.int IntKind.i64 0,Value.int IntKind.i64 0,Value.string ⟨#[]⟩,Value.slice none 0 0,Value.slice none 0 0,Value.slice none 0 0]=zs;have hzl:zs.length=7:=by rw[<- V];rfl
 obtain⟨J,l2,l3,l4,l5⟩:=dV b zs ((s.length-1)*7) (w.drew.setCells b (i*7) (vs.drop ((i+1)*7)));have U:∀j,j<(vs.drop ((i+1)*7)).length->(w.drew.cell? ⟨b,i*7+j,none⟩).isSome=true:=fun j P=>M _ (by rw[H]at P;omega);have I:∀j,j<zs.length->((w.drew.setCells b (i*7) (vs.drop ((i+1)*7))).cell? ⟨b,(s.length-1)*7+j,none⟩).isSome=true:=fun j P=>cY U (M _ bn);have yc:(aa (s.take i++s.drop (i+1))).length=s.length-1:=by rw[az,aax,List.length_take,List.length_drop];omega
 refine⟨b,E,by rw[yc];exact e1,bn,⟨Xi,Xj,XG,by rw[J,K];exact aam _,.inl rfl,fun j u P=>?_,fun C _ h=>by rw[l5 C h,k5 C h];rfl⟩,by rw[J,K];exact hb,fun o=>⟨fun q=>Option.isSome_iff_exists.1 (cY I (cY U (M o q))),by rw[World.frozen?_setCells,World.frozen?_setCells];exact(T o).2⟩⟩;have p:(vs.take (i*7)).length=i*7:=by rw[List.length_take,N];omega
 rw[dQ I,dQ U];rw[List.getElem?_append]at P;split at P
 ·rename_i h;rw[p]at h;rw[List.getElem?_take,if_pos h]at P;rw[if_neg bn,if_neg bn];exact Q j u P
 ·rename_i h;rw[p]at h P;have YL:j-i*7<(vs.drop ((i+1)*7)).length:=by
   rcases Nat.lt_or_ge (j-i*7) (vs.drop ((i+1)*7)).length with S|S
   ·exact S
   ·rw[List.getElem?_eq_none S]at P;cases P
  rw[if_neg bn,if_pos bn];exact P
theorem uK (s:List Vl) (x:Vl) (i:Nat) (h0:0<s.length) (hi:i<=s.length) (hl:s.length<=20000000000):n9 109 (some (bK (aa s))) (.gy 1000000 0 7 s.length::[CV.int .i64 (i:Int),CV.sl 7 (aa [x])].map AV.c)
  (.gy 999999 0 7 (aa (s.take i++x::s.drop i)).length) (some (bK (aa (s.take i++x::s.drop i)))):=by
 have z1:=az s;have hc:(bK (aa s)).length=s.length*7:=by rw[dh (gk s),z1]
 have J:bK (aa (s.take i++x::s.drop i))=(bK (aa s)).take (i*7)++(bK (aa [x])++(bK (aa s)).drop (i*7)):=by
  rw[kz,dB,sI (gk s) i bn,sJ (gk s) i bn,uJ,sX];simp only[aa,bK,List.append_nil]
 refine dN.Y9 (fun args w=>Tryz.call109 args w) h0 (BX _) ?_;intro w G b E vs us hb NQ D U iP Y V T tX;obtain⟨k,nn,a1,s0,args,H,B⟩:=x;simp only[bO,Rel,aa,eC,aaa,aab]at tX;obtain⟨_,_,rfl,rfl,_,_,rfl,⟨base,len,vc,rfl,rfl,hvc,q⟩,rfl⟩:=tX;have I:vs.length=s.length*7:=by rw[oa U,hc]
 have h1:=mD U Y;have A:∀o,o<E*7->(w.cell? ⟨b,o,none⟩).isSome=true:=fun o p=>by
  obtain⟨u,hu⟩:=(T o).1 p;rw[hu];rfl
 rcases q with q|⟨vb,vo,rfl,q⟩
 ·simp at q
 simp only[ff,oD,cO,and_true]at q;obtain⟨⟨⟨S,g1,r1,o1⟩,⟨C,g2,r2,o2⟩,⟨Q,g3,r3,o3⟩,⟨O,g4,r4,o4⟩,⟨N,g5,r5,o5⟩,⟨M,g6,r6,o6⟩,q7⟩,_⟩:=q;obtain⟨⟨K,g7,r7,o7⟩,_⟩:=q7;have Iz:vb≠b:=fun h=>by subst h;rw[NQ]at g1;cases g1
 have I2:bO G (bK (aa [.mk k nn a1 s0 args H B])) [S,C,Q,O,N,M,K]:=by
  simp only[aa,eC,bK,CV.cells,List.append_nil,bO];exact⟨S,_,rfl,r1,C,_,rfl,r2,Q,_,rfl,r3,O,_,rfl,r4,N,_,rfl,r5,M,_,rfl,r6,K,_,rfl,r7,rfl⟩
 refine⟨vs.take (i*7)++([S,C,Q,O,N,M,K]++vs.drop (i*7)),by rw[J];exact eZ (rS _ U) (eZ I2 (rT _ U)),?_⟩;refine Calls.mono (UO b s.length E i vb vo vc vs [S,C,Q,O,N,M,K] w hi h0 V bn Iz I rfl iP A (fun o=>(T o).2) (fun j v P=>?_) h1 (mD I2 (BX _))) ?_
 ·rcases j with _|_|_|_|_|_|_|j
  ·simp at P;subst P;exact D _ _ _ g1
  ·simp at P;subst P;exact D _ _ _ g2
  ·simp at P;subst P;exact D _ _ _ g3
  ·simp at P;subst P;exact D _ _ _ g4
  ·simp at P;subst P;exact D _ _ _ g5
  ·simp at P;subst P;exact D _ _ _ g6
  ·simp at P;subst P;exact D _ _ _ g7
  ·simp at P
 ·rintro e w' ⟨b',W,e1,e2,e3,e4⟩;have yc:(aa (s.take i++Vl.mk k nn a1 s0 args H B::s.drop i)).length=s.length+1:=by rw[az,aax,aaa,List.length_take,List.length_drop];omega
  obtain⟨u0,YI⟩:=Option.isSome_iff_exists.1 ((e4 0).1 bn);exact⟨b',W,by rw[yc];exact e1,by rw[yc];exact e2,e3,C6 YI,fun o=>⟨fun p=>Option.isSome_iff_exists.1 ((e4 o).1 p),(e4 o).2⟩⟩
theorem FB:∀(p x y q:List AV),x.length=y.length->dL p.length x (p++(y++q))=some (p++(x++q))
 | [],x,y,q,h=>by
  induction x generalizing y with
  | nil=>cases y with
   | nil=>cases q<;>simp only[aab,List.nil_append,dL]
   | cons _ _=>simp at h
  | cons a x S=>cases y with
   | nil=>simp at h
   | cons b y =>
    have:=S y lp;simp only[aab,List.nil_append,List.cons_append]at this ⊢;simp only[dL,this]
 | a::p,x,y,q,h=>by
  cases x with
  | nil=>cases y with
   | nil=>simp only[aaa,List.cons_append,dL]
   | cons _ _=>simp at h
  | cons b x=>simp only[aaa,List.cons_append,dL,FB p (b::x) y q h]
theorem FC {l:List Vl} {i:Nat} {v:Vl} (h:l[i]?=some v):l=l.take i++v::l.drop (i+1)/\(l.take i).length=i:=by
 obtain⟨h1,h2⟩:=List.getElem?_eq_some_iff.1 h;constructor
 ·rw[<- FD h,List.take_append_drop]
 ·grind
theorem LZ (a b:List Vl):ag (aa (a++b))=ag (aa a)++ag (aa b):=by rw[ag,kz,dB,List.map_append]
theorem R6 (a:List Vl):(ag (aa a)).length=a.length*7:=by rw[ag,List.length_map,dh (gk _),az]
theorem C7 {l:List Vl} {i:Nat} {k n a:Int} {s:List UInt8} {args:List Vl} {H:List Ty} {B:List Nd} (h:l[i]?=some (.mk k n a s args H B)):gv (0+i*7) (ag (aa l)) =
  some (.c (aF k) :: .c (aF n) :: .c (aF a) :: .c (.str s) :: .c (.sl 7 (aa args)) :: .c (.sl 2 (aE H)) :: .c (.sl 5 (aH B))::ag (aa (l.drop (i+1)))):=by
 obtain⟨h1,h2⟩:=FC h;have V:=R6 (l.take i);rw[h2]at V
 conv=>lhs;rw[h1,LZ,Nat.zero_add,<- V,vV]
 rfl
theorem FE {l:List Vl} {i:Nat} (h:i<l.length) (k n a:Int) (s:List UInt8) (args:List Vl) (H:List Ty) (B:List Nd):dL (0+i*7) [.c (aF k),.c (aF n),.c (aF a),.c (.str s),.c (.sl 7 (aa args)),.c (.sl 2 (aE H)),.c (.sl 5 (aH B))] (ag (aa l)) =
  some (ag (aa (l.set i (.mk k n a s args H B)))):=by
 obtain⟨v,T⟩:∃v,l[i]?=some v:=⟨_,List.getElem?_eq_getElem h⟩
 obtain⟨h1,h2⟩:=FC T;have V:=R6 (l.take i);rw[h2]at V;have A:l.set i (.mk k n a s args H B)=l.take i ++ .mk k n a s args H B::l.drop (i+1):=by
  rw[List.set_eq_take_append_cons_drop,if_pos h]
 rw[A,LZ]
 conv=>lhs;rw[h1,LZ,Nat.zero_add,<- V]
 have O:ag (aa (v::l.drop (i+1)))=ag [bP v]++ag (aa (l.drop (i+1))):=by
  show ag (bP v::aa (l.drop (i+1)))=_;rw[ag,ag,ag,<- List.map_append];simp only[bK,List.append_nil]
 rw[O,FB]
 ·rfl
 ·cases v;rfl
theorem UP {l m:List Vl} {i:Nat} (B:m.length=l.length) (W:l.length<=2*i+1) (Y:2*i<=l.length+1) (h:∀k,k<l.length->m[k]?=if k<i\/l.length<=k+i then l[l.length-1-k]? else l[k]?):m=l.reverse:=by
 apply List.ext_getElem?;intro k;by_cases D:k<l.length
 ·grind
 ·simp_all
theorem jr (l:List Vl) (hl:l.length<=1099511627776):rU 42 [(1000000,ag (aa l))] [.gy 1000000 0 7 l.length] (.c .undef) [(1000000,ag (aa l.reverse))]:=by
 refine dJ.of Tryz.func42 rfl (fun args w=>Tryz.call42 args w) (Nat.le_of_ble_eq_true rfl) [(0,.gy 1000000 0 7 l.length)] ⟨[(1000000,ag (aa l))],[],[1000000]⟩ rfl rfl fun β=>?_;have hf:=Tryz.func42;generalize T:l.reverse=rv;refine dnm ?_;have S:IntKind.i64.wrap ((l.length:Nat)-1:Int)=(l.length:Nat)-1:=gZ bn bn;refine AK.fY [(1000000,1000000)] [] (env':=[(0,.gy 1000000 0 7 l.length),(2,.c (aF ((0:Nat):Int))),(3,.c (aF ((l.length:Nat)-1-((0:Nat):Int))))])
  (bs':=[(1000000,ag (aa l))]) (ts':=[]) (us':=[1000000]) ⟨⟨_,rfl,⟨_,rfl,rfl⟩⟩,⟨_,rfl,.inl rfl⟩,⟨_,rfl,.inl (congrArg (fun z=>AV.c (.int .i64 z)) (S.trans bn))⟩,trivial⟩ ⟨⟨_,_,rfl,rfl,dD _⟩,trivial⟩ rfl ?_
 refine AK.eM (α:=Nat×List Vl) (fun z=>z.2.length=l.length/\2*z.1<=l.length+1/\∀k,k<l.length->z.2[k]?=if k<z.1\/l.length<=k+z.1 then l[l.length-1-k]? else l[k]?) (fun z=>l.length+1-z.1)
  (fun z=>[(0,.gy 1000000 0 7 l.length),(2,.c (aF (z.1:Nat))),(3,.c (aF ((l.length:Nat)-1-(z.1:Nat))))]) (fun z=>[(1000000,ag (aa z.2))]) (fun _=>[]) [1000000] (0,l)
  ⟨rfl,by show 2*0<=_;omega,fun k B=>by show l[k]?=if k<0\/l.length<=k+0 then _ else _;rw[if_neg bn]⟩ ⟨.inl rfl,.inl rfl,.inl rfl,trivial⟩ ⟨rfl,trivial⟩ trivial rfl (N3 rfl (G3 _ _) rfl) rfl ?_
 rintro⟨i,m⟩ ⟨h1,h2,V⟩ ih;simp only at h1 h2 V;by_cases hij:2*i+1<l.length
 ·have hc:decide (((i:Nat):Int)<(l.length:Nat)-1-(i:Nat))=true:=aan bn;obtain⟨j,hj⟩:∃j:Nat,j+i+1=l.length:=⟨l.length-1-i,bn⟩
  have Q:((l.length:Nat)-1-(i:Nat):Int)=(j:Nat):=by omega
  obtain⟨a,ha⟩:∃a,m[j]?=some a:=⟨_,List.getElem?_eq_getElem bn⟩
  obtain⟨b,hb⟩:∃b,m[i]?=some b:=⟨_,List.getElem?_eq_getElem bn⟩
  have p:∀k,k<l.length->((m.set i a).set j b)[k]?=if k<i+1\/l.length<=k+(i+1)then l[l.length-1-k]? else l[k]?:=by
   intro k B;by_cases Xd:k=j
   ·subst Xd;rw[List.getElem?_set_self j0,if_pos bn,<- hb,V i bn,if_neg bn];congr 1;omega
   ·rw[List.getElem?_set_ne bn];by_cases P:k=i
    ·subst P;rw[List.getElem?_set_self bn,if_pos bn,<- ha,V j bn,if_neg bn];congr 1;omega
    ·rw[List.getElem?_set_ne bn,V k B];by_cases Y:k<i\/l.length<=k+i
     ·rw[if_pos Y,if_pos bn]
     ·rw[if_neg Y,if_neg bn]
  obtain⟨U,K,u,q,W,O,H⟩:=a;obtain⟨D,G,C,E,N,M,A⟩:=b;have r1:=C7 ha;have r2:=C7 hb;have w1:=FE (l:=m) (i:=i) bn U K u q W O H;have w2:=FE (l:=m.set i (.mk U K u q W O H)) (i:=j) (by rw[List.length_set];omega) D G C E N M A;have I:IntKind.i64.wrap (((i:Nat):Int)+1)=((i+1:Nat):Int):=by rw[gZ bn bn];omega
  have J:IntKind.i64.wrap ((l.length:Nat)-1-(i:Nat)-1:Int)=(l.length:Nat)-1-((i+1:Nat):Int):=by rw[gZ bn bn];omega
  repeat' (first|refine mY ?_|(refine zc ?_ ?_<;>intro h<;>first|(cases h;done)|rw[h]|skip)|refine AK.pG rfl ?_ ?_|refine ai.jg Tryz.hX kn rfl rfl rfl rfl rfl rfl rfl rfl rfl j Q bn ?_|refine ai.jg Tryz.hX kn rfl rfl rfl rfl rfl rfl rfl rfl rfl i rfl bn ?_|refine ai.gG Tryz.hX kn rfl rfl rfl rfl rfl rfl r1 rfl ?_|refine ai.gG Tryz.hX kn rfl rfl rfl rfl rfl rfl r2 rfl ?_|refine ai.store Tryz.hX kn rfl rfl rfl rfl rfl rfl rfl rfl rfl w1 rfl ?_|refine ai.store Tryz.hX kn rfl rfl rfl rfl rfl rfl rfl rfl rfl w2 rfl ?_|(refine uA rfl ?_ ?_<;>(try (show(_:Nat)*_<=_;dsimp only)))|((first|refine zt ?_|refine zu ?_ ?_)<;>intro h<;>(fail_if_success (cases h;done))<;>rw[h]))
  refine AK.fY [(1000000,1000000)] [] (env':=[(0,.gy 1000000 0 7 l.length),(2,.c (aF ((i+1:Nat):Int))),(3,.c (aF ((l.length:Nat)-1-((i+1:Nat):Int))))])
   (bs':=[(1000000,ag (aa ((m.set i (.mk U K u q W O H)).set j (.mk D G C E N M A))))]) (ts':=[]) (us':=[1000000])
   ⟨⟨_,rfl,⟨_,rfl,rfl⟩⟩,⟨_,rfl,.inl (congrArg (fun z=>AV.c (.int .i64 z)) I)⟩,⟨_,rfl,.inl (congrArg (fun z=>AV.c (.int .i64 z)) J)⟩,trivial⟩ ⟨⟨_,_,rfl,rfl,dD _⟩,trivial⟩ rfl ?_
  exact ih (i+1,(m.set i (.mk U K u q W O H)).set j (.mk D G C E N M A)) ⟨by show(List.set _ _ _).length=_;rw[List.length_set,List.length_set];exact h1,by show 2*(i+1)<=_;omega,p⟩ (by show l.length+1-(i+1)<l.length+1-i;omega)
 ·have hc:decide (((i:Nat):Int)<(l.length:Nat)-1-(i:Nat))=false:=aaw bn;have hm:m=rv:=by rw[<- T];exact UP h1 bn h2 V
  subst hm;clear ih
  repeat' (first|refine mY ?_|(refine zc ?_ ?_<;>intro h<;>first|(cases h;done)|rw[h]|skip)|refine AK.pG rfl ?_ ?_|(refine uA rfl ?_ ?_<;>(try (show(_:Nat)*_<=_;dsimp only)))|((first|refine zt ?_|refine zu ?_ ?_)<;>intro h<;>(fail_if_success (cases h;done))<;>rw[h]))
  exact AK.C8 (.inr rfl) Tryz.hX hf rfl [(1000000,1000000)] rfl (.inr rfl) ⟨⟨_,_,rfl,rfl,dD _⟩,trivial⟩
end Go.Proofs
namespace Go.Proofs
open Go.cu
attribute [local irreducible] AK ai bw bz dJ
theorem cJ (k n:Int):ah 112 [aF k,aF n] (bP (aO k n)):=by
 refine qn Tryz.func112 Tryz.call112 fun β hf=>?_;exact dq
theorem js (b:Bool):ah 121 [.bool b] (bP (iw b)):=by
 have h1:=cJ 2 1;have B:=cJ 2 0;cases b
 ·refine qn Tryz.func121 Tryz.call121 fun β hf=>?_;exact dq
 ·refine qn Tryz.func121 Tryz.call121 fun β hf=>?_;exact dq
theorem fO (l:List Vl):ah 111 [.sl 7 (aa l)] (bP (cx l)):=by
 refine qn Tryz.func111 Tryz.call111 fun β hf=>?_;exact dq
theorem iy (a b:Vl):ah 110 [bP a,bP b] (bP (bB a b)):=by
 obtain⟨Y,K,u,q,W,O,H⟩:=a;obtain⟨D,G,C,E,N,S,A⟩:=b;refine qn Tryz.func110 Tryz.call110 fun β hf=>?_;exact dq
theorem kC (p:Int) (h:40<=p/\p<=95):ah 82 [aF p] (aF (bV p:Nat)):=by
 have T:p=40\/p=41\/p=42\/p=43\/p=44\/p=45\/p=46\/p=47\/p=48\/p=49\/p=50\/p=51\/p=52\/p=53\/p=54\/p=55\/p=56\/p=57\/p=58\/p=59\/p=60\/p=61\/p=62\/p=63\/p=64\/p=65\/p=66\/p=67\/p=68\/p=69\/p=70\/p=71\/p=72\/p=73\/p=74\/p=75\/p=76\/p=77\/p=78\/p=79\/p=80\/p=81\/p=82\/p=83\/p=84\/p=85\/p=86\/p=87\/p=88\/p=89\/p=90\/p=91\/p=92\/p=93\/p=94\/p=95:=by omega
 clear h;rcases T with rfl|rfl|rfl|rfl|rfl|rfl|rfl|rfl|rfl|rfl|rfl|rfl|rfl|rfl|rfl|rfl|rfl|rfl|rfl|rfl|rfl|rfl|rfl|rfl|rfl|rfl|rfl|rfl|rfl|rfl|rfl|rfl|rfl|rfl|rfl|rfl|rfl|rfl|rfl|rfl|rfl|rfl|rfl|rfl|rfl|rfl|rfl|rfl|rfl|rfl|rfl|rfl|rfl|rfl|rfl|rfl
 all_goals
  first
  | (refine bw.of Tryz.func82 rfl (fun args w=>Tryz.call82 args w) (Nat.le_of_ble_eq_true rfl) [(0,.c (aF _))] rfl fun β Y=>?_;have hf:=Tryz.func82;exact dq)
theorem mF (p a b:Int):ah 115 [aF p,aF a,aF b] (aF (ofM p a b)):=by
 refine qn Tryz.func115 Tryz.call115 fun β hf=>?_
 repeat' (first|refine sz ?_|(refine zc ?_ ?_<;>intro h<;>first|(cases h;done)|rw[h]|skip)|((first|refine zt ?_|refine zu ?_ ?_)<;>intro h<;>(fail_if_success (cases h;done))<;>rw[h]))
 all_goals (show(_:CV)=_;clear hf;unfold ofM;simp_all)
end Go.Proofs
namespace Go.Proofs
open Go.cu
theorem dJ.Za {P:Program} {X:Ctx} {f:FuncId} {E N:List (Nat×List AV)} {args p:List AV} {r:AV} (h:∀(g:Gh) vs,bH g p vs->bH g args vs) (hq:dJ P X f E args r N):dJ P X f E p r N :=
 ⟨hq.1,fun g w vs W Q I=>hq.2 g w vs W Q (h g vs I)⟩
theorem abO {s t:Nat} {g:Gh} {u:Value} (h:aJ g (.c (.sl s [])) u):aJ g (.c (.sl t [])) u:=by
 simp only[aJ,Rel]at h ⊢;obtain⟨base,V,E,h1,h2,Y,_⟩:=h;exact⟨base,V,E,h1,h2,Y,.inl trivial⟩
theorem gP (S:bT) (B:List Nd) (fin:Int) (C:S.fr.length<=1099511627776):cE 55 S [.c (.sl 5 (aH B)),.c (aF fin),.c (.sl 0 [])] .undef (dr S B fin []) :=
 dJ.Za (fun g vs h=>by
  simp only[bH]at h ⊢;obtain⟨Y,_,rfl,h1,I,_,rfl,h2,W,_,rfl,V,U,_,rfl,D,rfl⟩:=h
  exact⟨Y,_,rfl,h1,I,_,rfl,h2,W,_,rfl,V,U,_,rfl,abO D,rfl⟩) (uL S B fin [] C)
theorem fq:ah 111 [.sl 0 []] (bP (cx [])) :=
 bw.wk (by simp only[xe];exact⟨N2,trivial⟩) (Wk.refl _) (fO [])
theorem V8 {st:List Vl} {k:Nat} {v:Vl} (h:st[k]?=some v):st.reverse[st.length-1-k]?=some v:=by
 obtain⟨h1,h2⟩:=List.getElem?_eq_some_iff.1 h;rw[List.getElem?_reverse bn];rw[show st.length-1-(st.length-1-k)=k from by omega];exact h
theorem R7 {l:List Vl} {i:Nat} {v:Vl} (h:l[i]?=some v):lV l i=v:=by
 unfold lV;rw[List.getD_eq_getElem?_getD,h];rfl
theorem tM {T:AV->AV->Prop} (K:∀a,T a a):∀l:List AV,T7 T l l
 | []=>trivial
 | a::l=>⟨K a,tM K l⟩
theorem Zb {a b:Nat} (h:a≠b):(!Nat.beq a b)=true:=by
 cases e:Nat.beq a b with
 | false=>rfl
 | true=>exact absurd (beq_true e) h
theorem BY {f:FuncId} {n:Nat} {β:jH} {R:Ending->World->Prop} {K:List Item} {env:Env} (S:bT) {a b:Nat} {us:List Nat} {bs:List (Nat×List AV)} {H T O:List AV} (B:ak 1000000 bs=some H) (D:H=mC S a b) (h1:ak a bs=some T) (q1:T=ag (sR S.st)) (h2:ak b bs=some O) (N:O=ag (fR S.fr)) (U:Go.cu.distinct [1000000,a,b]=true) (Y:List (Nat×List AV)) (W:∀g:Nat,Zc (T8 a 7 (sR S.st)) bs Y) (V:(Y.all fun p => !Nat.beq p.1 a)=true) {env':Env} {ts ts':List (Nat×Nat)} (P:Zd (T8 a 7 (sR S.st)) env env') (M:Jv ts ts')
  (h:EE f n β R K env' ⟨(1000000,Lj S 0 b)::(b,ag (fR S.fr))::Y,ts',us⟩):EE f n β R K env ⟨bs,ts,us⟩:=by
 subst D q1 N;obtain⟨Q,G,E⟩:=z9 U;have I:∀x,T8 a 7 (sR S.st) x x:=fun _ => .inl rfl;refine AK.BZ a 7 (sR S.st) (tail:=[]) (bs':=(1000000,Lj S 0 b)::(b,ag (fR S.fr))::Y) h1 (List.append_nil _).symm (gk _) P ⟨⟨_,B,⟨I _,I _,I _,I _,.inr ⟨_,rfl,(iR _).symm,rfl⟩,tM I _⟩⟩,⟨_,h2,tM I _⟩,W 0⟩ ?_ M h;simp only[List.all_cons,V,Bool.and_true,Zb Q,Zb (Ne.symm E)]
attribute [local irreducible] AK ai bw bz dJ dN nA
theorem Fy (S:bT) (N:Int) (G:List UInt8) (l:List Vl):cE 83 S [.c (aW (.mk 2 N 40 G [])),.c (.sl 7 (aa l))] (aF 0) S:=by
 refine mn Tryz.func83 Tryz.call83 fun β hf=>?_;exact dm
theorem PD (S:bT) (J:Int) (G:List UInt8) (a b:Vl) (p:aM a<=8589934593) (Y:aM b<=8589934593) (C:S.st.length<=1000000000):iC 83 S [.c (aW (.mk 2 J 42 G [])),.c (.sl 7 (aa [a,b]))] (bg S [a,b]):=by
 have A:=pP S [a,b] (by intro v T;simp at T;rcases T with rfl|rfl<;>assumption) cn zH;obtain⟨V,K,u,q,W,O,H⟩:=a;obtain⟨D,U,I,E,N,Q,P⟩:=b;refine mn Tryz.func83 Tryz.call83 fun β hf=>?_;exact dm
theorem R8 (S:bT) (N:Int) (G:List UInt8) (k:Nat) (V:Int) (U:List UInt8) (Q:List Nd) (l:List Vl) (v:Vl) (J:1<=k) (T:S.st[k-1]?=some v) (P:aM v<=8589934593) (C:S.st.length<=1000000000) :
  iC 83 S [.c (aW (.mk 2 N 41 G [.mk 0 (k:Nat) V U Q])),.c (.sl 7 (aa l))] (bg S [v]):=by
 have A:=pP S [v] (by intro x O;simp at O;subst O;exact P) cn zH;have M:=V8 T;have K:k-1<S.st.length:=(List.getElem?_eq_some_iff.1 T).1;obtain⟨H,E,u,q,W,D,B⟩:=v;have I:IntKind.i64.wrap (((S.st.length:Nat):Int)-(k:Nat))=((S.st.length-1-(k-1):Nat):Int):=by rw[gZ bn bn];omega
 have p:decide (((k:Nat):Int)<1)=false:=aaw bn;have vW:decide (IntKind.i64.wrap (((S.st.length:Nat):Int)-(k:Nat))<0)=false:=by rw[I];exact aaw bn
 have Y:=C7 M;refine mn Tryz.func83 Tryz.call83 fun β hf=>?_
 repeat' (first|refine mY ?_|(refine zc ?_ ?_<;>intro h<;>first|(cases h;done)|rw[h]|skip)|refine uI rfl (0) rfl (rfl) rfl ?_|refine ai.jg Tryz.hX kn rfl rfl rfl rfl rfl rfl rfl rfl rfl (S.st.length-1-(k-1)) I bn ?_|refine ai.gG Tryz.hX kn rfl rfl rfl rfl rfl rfl Y rfl ?_|refine sY ?_ (hq:=A)|(refine uA rfl ?_ ?_<;>(try (show(_:Nat)*_<=_;dsimp only)))|((first|refine zt ?_|refine zu ?_ ?_)<;>intro h<;>(fail_if_success (cases h;done))<;>rw[h]))
 all_goals rfl
theorem R9 {st:List Vl} {k:Nat} {v:Vl} (T:st[k]?=some v):sR (st.take k++st.drop (k+1))=aa (st.reverse.take (st.length-1-k)++st.reverse.drop (st.length-1-k+1)):=by
 have H:k<st.length:=(List.getElem?_eq_some_iff.1 T).1;have A:st.length-(st.length-1-k)=k+1:=by omega
 have E:st.length-(st.length-1-k+1)=k:=by omega
 rw[sR,List.reverse_append,List.take_reverse,List.drop_reverse,A,E]
theorem Sa (S:bT) (N:Int) (G:List UInt8) (k:Nat) (V:Int) (O:List UInt8) (U:List Nd) (l:List Vl) (v:Vl) (T:S.st[k]?=some v) (hl:S.st.length<=1000000000) :
  cE 83 S [.c (aW (.mk 2 N 43 G [.mk 0 (k:Nat) V O U])),.c (.sl 7 (aa l))] (aF 0) {S with st:=v::(S.st.take k++S.st.drop (k+1))}:=by
 have M:=V8 T;have H:k<S.st.length:=(List.getElem?_eq_some_iff.1 T).1;have I:IntKind.i64.wrap ((((sR S.st).length:Nat):Int)-(k:Nat))=((S.st.length-1-k+1:Nat):Int):=by rw[iR];rw[gZ bn bn];omega
 have Y:IntKind.i64.wrap (IntKind.i64.wrap ((((sR S.st).length:Nat):Int)-(k:Nat))-1)=((S.st.length-1-k:Nat):Int):=by rw[I,gZ bn bn];omega
 have K:decide (((k:Nat):Int)<0)=false:=aaw bn;have J:decide (IntKind.i64.wrap ((((sR S.st).length:Nat):Int)-(k:Nat))<1)=false:=by rw[I];exact aaw bn
 have E:(bif decide (((k:Nat):Int)<0)then true else decide (IntKind.i64.wrap ((((sR S.st).length:Nat):Int)-(k:Nat))<1))=false:=by rw[K,J];rfl
 have Q:=qE S.st.reverse (S.st.length-1-k) P0 P0;rw[<- R9 T]at Q;have D:(aa S.st.reverse)[S.st.length-1-k]?=some (bP v):=by rw[jz,M];rfl
 obtain⟨x,q,hq⟩:∃x q,S.st.reverse=x::q:=by
  cases h:S.st.reverse with
  | nil=>have:=congrArg List.length h;simp at this;rw[this]at H;simp at H
  | cons x q=>exact⟨x,q,rfl⟩
 have P:=fo x q QT;rw[<- hq]at P;have C:(AV.gy 1000000 0 7 S.st.reverse.length::List.map AV.c [CV.int IntKind.i64 ((S.st.length-1-k:Nat):Int),CV.int IntKind.i64 ((S.st.length-1-k+1:Nat):Int)]) = .gy 1000000 0 7 (q.length+1)::[CV.int IntKind.i64 (IntKind.i64.wrap (IntKind.i64.wrap ((((sR S.st).length:Nat):Int)-(k:Nat))-1)),CV.int IntKind.i64 (IntKind.i64.wrap ((((sR S.st).length:Nat):Int)-(k:Nat)))].map AV.c:=by
  rw[Y,I,hq];rfl
 obtain⟨B,A,u,p,W,af,aA⟩:=v;refine mn Tryz.func83 Tryz.call83 fun β hf=>?_;refine BY S rfl rfl rfl rfl rfl rfl rfl [] (fun _=>trivial) rfl (env':=[(0,.ptr 1000000 0),(1,.c (aW (.mk 2 N 43 G [.mk 0 (k:Nat) V O U]))),(2,.c (.sl 7 (aa l)))]) (ts':=[]) ⟨⟨_,rfl,.inl rfl⟩,⟨_,rfl,.inl rfl⟩,⟨_,rfl,.inl rfl⟩,trivial⟩ trivial ?_
 repeat' (first|refine mY ?_|(refine zc ?_ ?_<;>intro h<;>first|(cases h;done)|rw[h]|skip)|refine uI rfl (0) rfl (rfl) rfl ?_|refine uI rfl (S.st.length-1-k) Y D rfl ?_|refine ai.lz kn rfl rfl rfl rfl rfl rfl P rfl ?_|refine ai.qZ kn rfl rfl rfl rfl rfl rfl rfl rfl rfl Q C rfl ?_|refine ai.mG Tryz.hX kn rfl rfl rfl rfl rfl rfl rfl rfl rfl rfl rfl rfl rfl rfl rfl (sR (S.st.take k++S.st.drop (k+1))) [] (List.append_nil _).symm rfl (by rw[iR];exact sZ _) rfl rfl rfl rfl rfl rfl rfl (show((sR (S.st.take k++S.st.drop (k+1))).length+1)*112<=_ by rw[iR,aax,List.length_take,List.length_drop];omega) (G4 (.mk B A u p W af aA) _).symm (iR _) rfl ?_|(refine uA rfl ?_ ?_<;>(try (show(_:Nat)*_<=_;dsimp only)))|((first|refine zt ?_|refine zu ?_ ?_)<;>intro h<;>(fail_if_success (cases h;done))<;>rw[h]))
 all_goals rfl
end Go.Proofs
namespace Go.Proofs
open Go.cu
attribute [local irreducible] AK ai bw bz dJ dN nA
theorem jA (s:Nat):rU 41 [] [.c (.sl s [])] (.own .exact 7 []) []:=by
 refine dJ.of Tryz.func41 rfl (fun args w=>Tryz.call41 args w) (Nat.le_of_ble_eq_true rfl) [(0,.c (.sl s []))] ⟨[],[],[]⟩ rfl rfl fun β=>?_;have hf:=Tryz.func41
 repeat' (first|refine mY ?_|(refine zc ?_ ?_<;>intro h<;>first|(cases h;done)|rw[h]|skip)|refine AK.pG rfl ?_ ?_|refine ai.G5 Tryz.hX kn rfl rfl rfl rfl rfl rfl rfl rfl rfl rfl rfl rfl rfl ?_|(refine uA rfl ?_ ?_<;>(try (show(_:Nat)*_<=_;dsimp only)))|((first|refine zt ?_|refine zu ?_ ?_)<;>intro h<;>(fail_if_success (cases h;done))<;>rw[h]))
 ·refine AK.weak Em Em.rel Em.one (env':=[(2,.own .exact 7 [])]) (bs':=[]) (ts':=[]) ⟨⟨_,rfl,.inr ⟨_,_,rfl,rfl⟩⟩,trivial⟩ trivial trivial ?_;exact Yh
 ·exact Yh
theorem C9 (x:Vl):rU 109 [] [.own .exact 7 [],.c (aF 0),.c (.sl 7 (aa [x]))] (.gy 999999 0 7 1) [(999999,ag (aa [x]))]:=by
 obtain⟨Y,K,u,q,W,O,H⟩:=x;refine dJ.of Tryz.func109 rfl (fun args w=>Tryz.call109 args w) (Nat.le_of_ble_eq_true rfl) [(0,.own .exact 7 []),(1,.c (aF 0)),(2,.c (.sl 7 (aa [.mk Y K u q W O H])))] ⟨[],[],[]⟩ rfl rfl fun β=>?_;have hf:=Tryz.func109
 repeat' (first|refine mY ?_|(refine zc ?_ ?_<;>intro h<;>first|(cases h;done)|rw[h]|skip)|refine AK.pG rfl ?_ ?_|refine ai.vP Tryz.hX kn rfl rfl rfl rfl rfl rfl rfl rfl rfl rfl rfl rfl rfl rfl rfl rfl rfl rfl (fun h=>by cases h) rfl rfl rfl (show(0+1)*112<=140737488355328 by decide) rfl (m:=1) rfl ?_|(refine uA rfl ?_ ?_<;>(try (show(_:Nat)*_<=_;dsimp only)))|((first|refine zt ?_|refine zu ?_ ?_)<;>intro h<;>(fail_if_success (cases h;done))<;>rw[h]))
 exact AK.BM Tryz.hX hf rfl [(999999,25)] rfl ⟨_,rfl,rfl⟩ ⟨⟨_,_,rfl,rfl,dD _⟩,trivial⟩
theorem Sb (st:List Vl) (k:Nat) (v:Vl) (D:k<=st.length):sR (st.take k++v::st.drop k)=aa (st.reverse.take (st.length-k)++v::st.reverse.drop (st.length-k)):=by
 have A:st.length-(st.length-k)=k:=by omega
 rw[sR,List.reverse_append,List.reverse_cons,List.take_reverse,List.drop_reverse,A,List.append_assoc];rfl
theorem Sc (S:bT) (N:Int) (G:List UInt8) (k:Nat) (Y:Int) (O:List UInt8) (V:List Nd) (v:Vl) (D:k<=S.st.length) (hl:S.st.length<=1000000000) :
  cE 83 S [.c (aW (.mk 2 N 44 G [.mk 0 (k:Nat) Y O V])),.c (.sl 7 (aa [v]))] (aF 0) {S with st:=S.st.take k++v::S.st.drop k}:=by
 have E:decide (((k:Nat):Int)<0)=false:=aaw bn;by_cases B:S.st=[]
 ·obtain⟨a,b,c,d,st,fr,g,u,m,said⟩:=S;simp only at B D hl;subst B;simp only[aab,Nat.le_zero]at D;subst D;have I:IntKind.i64.wrap ((((sR []).length:Nat):Int)-(0:Nat))=0:=by decide
  have U:decide (IntKind.i64.wrap ((((sR []).length:Nat):Int)-(0:Nat))<0)=false:=by rw[I];rfl
  have T:(bif decide (((0:Nat):Int)<0)then true else decide (IntKind.i64.wrap ((((sR []).length:Nat):Int)-(0:Nat))<0))=false:=by rw[E,U];rfl
  have M:=C9 v;obtain⟨Q,K,C,J,W,P,H⟩:=v;refine mn Tryz.func83 Tryz.call83 fun β hf=>?_;refine BY (bT.mk a b c d [] fr g u m said) rfl rfl rfl rfl rfl rfl rfl [] (fun _=>trivial) rfl (env':=[(0,.ptr 1000000 0),(1,.c (aW (.mk 2 N 44 G [.mk 0 ((0:Nat):Int) Y O V]))),(2,.c (.sl 7 (aa [.mk Q K C J W P H])))]) (ts':=[]) ⟨⟨_,rfl,.inl rfl⟩,⟨_,rfl,.inl rfl⟩,⟨_,rfl,.inl rfl⟩,trivial⟩ trivial ?_
  repeat' (first|refine mY ?_|(refine zc ?_ ?_<;>intro h<;>first|(cases h;done)|rw[h]|skip)|refine uI rfl (0) rfl (rfl) rfl ?_|refine ai.xE kn rfl rfl (jA 7) rfl rfl (fun _=>⟨_,_,rfl,.inr rfl,rfl⟩) rfl rfl ?_|refine ai.Sd kn rfl rfl M rfl rfl rfl rfl (fun _=>⟨_,_,rfl,rfl,_,_,rfl,.inl (congrArg (fun z=>AV.c (.int .i64 z)) I),_,_,rfl,.inr rfl,rfl⟩) ?_|(refine uA rfl ?_ ?_<;>(try (show(_:Nat)*_<=_;dsimp only)))|((first|refine zt ?_|refine zu ?_ ?_)<;>intro h<;>(fail_if_success (cases h;done))<;>rw[h]))
  all_goals rfl
 ·have hne:0<S.st.length:=List.length_pos_iff.2 B;have I:IntKind.i64.wrap ((((sR S.st).length:Nat):Int)-(k:Nat))=((S.st.length-k:Nat):Int):=by rw[iR,gZ bn bn];omega
  have U:decide (IntKind.i64.wrap ((((sR S.st).length:Nat):Int)-(k:Nat))<0)=false:=by rw[I];exact aaw bn
  have T:(bif decide (((k:Nat):Int)<0)then true else decide (IntKind.i64.wrap ((((sR S.st).length:Nat):Int)-(k:Nat))<0))=false:=by rw[E,U];rfl
  have A:=uK S.st.reverse v (S.st.length-k) P0 P0 P0;rw[<- Sb _ _ _ D,iR]at A;obtain⟨x,q,hq⟩:∃x q,S.st.reverse=x::q:=by
   cases h:S.st.reverse with
   | nil=>exact absurd (List.reverse_eq_nil_iff.1 h) B
   | cons x q=>exact⟨x,q,rfl⟩
  have p:=fo x q QT;rw[<- hq]at p;have L0:(AV.gy 1000000 0 7 S.st.reverse.length::List.map AV.c [CV.int IntKind.i64 ((S.st.length-k:Nat):Int),CV.sl 7 (aa [v])]) = .gy 1000000 0 7 (q.length+1)::[CV.int IntKind.i64 (IntKind.i64.wrap ((((sR S.st).length:Nat):Int)-(k:Nat))),CV.sl 7 (aa [v])].map AV.c:=by
   rw[I,hq];rfl
  obtain⟨Q,K,C,J,W,P,H⟩:=v;refine mn Tryz.func83 Tryz.call83 fun β hf=>?_;refine BY S rfl rfl rfl rfl rfl rfl rfl [] (fun _=>trivial) rfl (env':=[(0,.ptr 1000000 0),(1,.c (aW (.mk 2 N 44 G [.mk 0 (k:Nat) Y O V]))),(2,.c (.sl 7 (aa [.mk Q K C J W P H])))]) (ts':=[]) ⟨⟨_,rfl,.inl rfl⟩,⟨_,rfl,.inl rfl⟩,⟨_,rfl,.inl rfl⟩,trivial⟩ trivial ?_
  repeat' (first|refine mY ?_|(refine zc ?_ ?_<;>intro h<;>first|(cases h;done)|rw[h]|skip)|refine uI rfl (0) rfl (rfl) rfl ?_|refine ai.lz kn rfl rfl rfl rfl rfl rfl p rfl ?_|refine ai.qZ kn rfl rfl rfl rfl rfl rfl rfl rfl rfl A L0 rfl ?_|(refine uA rfl ?_ ?_<;>(try (show(_:Nat)*_<=_;dsimp only)))|((first|refine zt ?_|refine zu ?_ ?_)<;>intro h<;>(fail_if_success (cases h;done))<;>rw[h]))
  all_goals rfl
end Go.Proofs
namespace Go.Proofs
open Go.cu
mutual
theorem A9:∀(n:Nd) (d left:Int) (t:Ty) (m:Int),fE n d left=(some t,m)->PE t=n
 | .mk kind G p s args,d,left,t,m,h=>by
  simp only[fE]at h;split at h
  ·simp at h
  ·rename_i E;simp only[not_or,ne_eq,Decidable.not_not]at E;rcases D:dP args (d+1) (left-1)with ⟨b,u⟩
   rw[D]at h;cases b with
   | none=>simp at h
   | some l =>
    simp at h;have:=yK args (d+1) (left-1) l u D;rw[<- h.1];simp only[PE,this];rw[E.2.2.1,E.2.2.2.1,E.2.2.2.2.1]
theorem yK:∀(l:List Nd) (d left:Int) (r:List Ty) (m:Int),dP l d left=(some r,m)->Jw r=l
 | [],d,left,r,m,h=>by simp[dP]at h;rw[h.1];rfl
 | x::l,d,left,r,m,h=>by
  simp only[dP]at h;rcases D:fE x d left with ⟨b,u⟩
  rw[D]at h;cases b with
  | none=>simp at h
  | some t =>
   simp only at h;rcases Y:dP l d u with ⟨W,J⟩
   rw[Y]at h;cases W with
   | none=>simp at h
   | some q =>
    simp at h;have h1:=A9 x d left t u D;have h2:=yK l d u q J Y;rw[<- h.1];simp only[Jw,h1,h2]
end
theorem uN (n:Nd):(∃t,aZ n=(t,0)/\bA t=true/\PE t=n/\bC t<=bN n)\/aZ n=(.mk 0 [],1):=by
 simp only[aZ];rcases D:fE n 1 300 with ⟨b,m⟩
 cases b with
 | none=>right;rfl
 | some t =>
  simp only;cases Q:bA t
  ·right;rfl
  ·left;exact⟨t,rfl,Q,A9 n 1 300 t m D,ud n 1 300 t m D⟩
attribute [local irreducible] AK ai bw bz PE Jw bA kg fG lE gh jv arity aZ cP oC Ze dj
end Go.Proofs
