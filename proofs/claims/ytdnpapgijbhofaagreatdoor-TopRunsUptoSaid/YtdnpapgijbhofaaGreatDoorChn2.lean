/- Package run: -/
import Derived.Test.YtdnpapgijbhofaaGreatDoorRunAN
import Derived.Test.YtdnpapgijbhofaaGreatDoorRunAB
import Derived.Test.YtdnpapgijbhofaaGreatDoorLibD
import Derived.Test.YtdnpapgijbhofaaGreatDoorLed4
import Derived.Test.YtdnpapgijbhofaaGreatDoorRun2
open Go.IntKind
open Go.Proofs.Tryz
set_option linter.defProp false
set_option linter.unusedVariables false
set_option linter.unusedSimpArgs false
set_option maxRecDepth 100000
namespace Go.Proofs
open Go.cw
structure Qs where
 code:Int
 st:List Vl
 said:Vl
 bU:Int
 au:Int
def WE(r:Qs):CV:=mW r.code r.st r.said r.bU r.au
def Ad(a b c d:Int)(code:L Nd)(l:L Vl)(g:Int):bZ:=⟨a,b,c,d,l,[⟨code,0,0,[]⟩],g,0,0,lC⟩
def uz(o:MR):Qs:=⟨o.1,if o.1=0 then o.2.st else [],if o.1=10 then o.2.said else lC,o.2.used,if o.1=0 then o.2.au else 0⟩
def ZE(a b c d:Int)(n:Nd)(s:L Ty)(l:L Vl):Bool:=decide ((ke n s).2=0)&&decide (s.length=l.length)&&qU a b c d&&zX s l
def acW:Qs:=⟨14,[],lC,0,0⟩
def wI(a b c d:Int)(n:Nd)(l:L Vl)(g:Int):MR:=l8 (left (Ad a b c d (cG n) l g)+1) (Ad a b c d (cG n) l g)
def Ir(a b c d:Int)(n:Nd)(s:L Ty)(l:L Vl)(g:Int):Qs:=if ZE a b c d n s l=true then uz (wI a b c d n l g)else acW
def vG{a b c d:Int}{n:Nd}{s:L Ty}{l:L Vl}:ZE a b c d n s l=true↔(ke n s).2=0/\s.length=l.length/\qU a b c d=true/\zX s l=true:=by unfold ZE;grind
abbrev VlS(l:L Vl):Prop:=∀v∈l,aH v<=25000000
def Na:∀{l:L Vl},VlS l->aI l<=l.length*25000000
 |[],_=>aaV _
 |v::l,h=>by have h1:=h v cc;have h2:=Na (l:=l) λw M=>h w (by simp[M]);simp only[aI,aag];omega
def Nb:∀{s:L Ty}{l:L Vl},s.length=l.length->zX s l=true->VlS l->ew s l
 |[],[],_,_,_=>trivial
 |t::s,v::l,h,h2,K=>by simp only[zX,aaN]at h2;simp at h;exact⟨⟨h2.1,K v cc⟩,Nb h h2.2 λw M=>K w (by simp[M])⟩
 |[],_::_,h,_,_=>by simp at h
 |_::_,[],h,_,_=>by simp at h
def FN{a b c d:Int}{n:Nd}{s:L Ty}{l:L Vl}{g:Int}(h:ZE a b c d n s l=true)(N:VlS l)(G:0<=g/\g<=1000000):MT (ke n s).1 (Ad a b c d (cG n) l g) s:=by obtain⟨h1,h2,K,W⟩:=vG.1 h;obtain⟨g1,H,D,C,V⟩:=vH h1;have Y:=Nc g1;have U:=nD Y;rw[V]at h1 ⊢;refine⟨Nb h2 W N,⟨by show s.length+cP (cG n)<=340;omega,Y,aeW _,_,_,CI h1,λhf => .inl ⟨rfl,?_⟩⟩,K,⟨afw _,by show(0:Int)<=bJ;decide⟩,⟨afw _,G.1⟩,G.2⟩;show(cz (cG n) (s,false)).1=(_,false);grind
def Je{a b c d:Int}{n:Nd}{s:L Ty}{l:L Vl}{g:Int}(h:ZE a b c d n s l=true)(G:0<=g/\g<=1000000):left (Ad a b c d (cG n) l g)<=1000000000:=by obtain⟨h1,h2,K,Y⟩:=vG.1 h;have W:=nD (Nc (vH h1).1);simp only[left,Ad,Ay,Z5,ahg];omega
def S4{a b c d:Int}{n:Nd}{s:L Ty}{l:L Vl}{g:Int}(h:ZE a b c d n s l=true)(N:VlS l)(G:0<=g/\g<=1000000):ou (left (Ad a b c d (cG n) l g)+1) (Ad a b c d (cG n) l g) (wI a b c d n l g)/\WG (ke n s).1 (Ad a b c d (cG n) l g) (wI a b c d n l g) :=
 vI _ _ _ s (FN h N G) (afo _) (Je h G)
def Is(a b c d g:Int)(code:L Nd)(l:L Vl)(o:MR)(hq:l.length<=1000000000)(U:o.2.st.length<=1000000000\/o.1≠0)(M:cH 85 (Ad a b c d code l g) [] (ag o.1) o.2) :
  af 62 [.agg [ag a,ag b,ag c,ag d],.sl 5 (aD code),.sl 7 (aa l),ag g] (WE (uz o)):=by
 obtain⟨e,W⟩:=o;unfold uz WE;simp only;by_cases Y:e=0
 ·subst Y;cases l with
  |nil=>exact Nf a b c d g code W (U.resolve_right λh=>h Z) M
  |cons x q=>exact Ng a b c d g code x q W (by simp at hq;omega) (U.resolve_right λh=>h Z) M
 rw[if_neg Y,if_neg Y];by_cases E:e=10
 ·subst E;cases l with
  |nil=>exact Iu a b c d g code W M
  |cons x q=>exact Iv a b c d g code x q W (by simp at hq;omega) M
 rw[if_neg E];cases l with
 |nil=>exact KO a b c d g e code W Y E M
 |cons x q=>exact KP a b c d g e code x q W (by simp at hq;omega) Y E M
def Uw(a b c d g:Int)(n:Nd)(B:bD n<=8589934593)(s:L Ty)(C:bp s<=8589934593)(l:L Vl)(N:VlS l)(G:0<=g/\g<=1000000) :
  af 33 [.agg [ag a,ag b,ag c,ag d],aM n,.sl 2 (az s),.sl 7 (aa l),ag g] (WE (Ir a b c d n s l g)):=by
 by_cases K:(ke n s).2=0/\s.length=l.length/\qU a b c d=true;rotate_left
 ·have e:ZE a b c d n s l=false:=by
   cases J:ZE a b c d n s l with
   |false=>rfl
   |true =>
    obtain⟨h1,h2,Y,_⟩:=vG.1 J;simp_all
  unfold Ir;rw[if_neg (by rw[e];decide)];exact Z6 a b c d g n B s C l K
 obtain⟨h1,h2,Y⟩:=K;have Q:l.length<=40:=by have:=(vH h1).2.2.1;omega
 have P:=Na N;have M:zX s l=true->af 62 [.agg [ag a,ag b,ag c,ag d],.sl 5 (aD (cG n)),.sl 7 (aa l),ag g] (WE (uz (wI a b c d n l g))):=by
  intro J;have ok:ZE a b c d n s l=true:=vG.2 ⟨h1,h2,Y,J⟩;obtain⟨S,W⟩:=S4 ok N G;refine Is a b c d g (cG n) l _ ai ?_ (Qt _ _ _ S);obtain⟨_,_,_,V⟩:=W;rcases V with ⟨_,_,U,_⟩|w|w|w|w
  left;have:=bL U;have:=(CJ h1).2.1;omega
  all_goals right
  omega;omega;omega;omega
 have T:=Z7 a b c d g n B s C l ai h1 h2 Y _ _ _ _ _ M;have e:(bif zX s l then mW (uz (wI a b c d n l g)).code (uz (wI a b c d n l g)).st (uz (wI a b c d n l g)).said (uz (wI a b c d n l g)).bU (uz (wI a b c d n l g)).au else mW 14 [] lC 0 0)=WE (Ir a b c d n s l g):=by
  unfold Ir;cases J:zX s l with
  |true =>
   rw[if_pos (vG.2 ⟨h1,h2,Y,J⟩)];rfl
  |false =>
   rw[if_neg (λh=>by have:=(vG.1 h).2.2.2;rw[J]at this;cases this)];rfl
 rw[<- e];exact T
end Go.Proofs
namespace Go.cw
structure MB(c:Nat->List AV)(o:Option (List CV)):Prop where
 conv:∀(ρ:Ren)(ts:List (Nat×Nat))(b b':Nat),(o≠none->ρ.bx b=some b')->fq ρ ts (c b) (c b')
 rn:∀(ψ:Nat->Nat)(b b':Nat),(o≠none->ψ b=b')->Qa ψ (c b)=c b'
 ok:∀(us:List Nat)(b:Nat),(o≠none->mem b us=true)->vJ us (c b)=true
def bI(c:Nat->L AV):Option (L CV)->L (Nat×L AV)
 |none=>[(1000000,c 0)]
 |some f=>[(1000000,c 1000002),(1000002,f.map AV.c)]
def bO(c:Nat->L AV):Option (L CV)->L (Nat×L AV)
 |none=>[(1000000,c 0)]
 |some f=>[(1000000,c 999992),(999992,f.map AV.c)]
section
variable {bs : L (Nat × L AV)}{us : L Nat}{c c' : Nat -> L AV}{f f' : L CV}{km fk a2 : Nat}
def aeY(Y:MB c none)(A:MB c' none)(h1:aq km bs=some (c 0)):HOk bs us (bI c none) (bO c' none) [(1000000,km)] [(km,1000000)] (λ_=>km) [(km,c' 0)]:=by refine⟨rfl,?_,?_,?_,?_,?_,?_,?_⟩;intro k V e;simp only[aj]at e;split at e;simp_all [bI];simp[aq]at e;intro ts k cs e;simp only[bI,aj]at e;split at e;simp at e;subst_vars;exact⟨km,_,fe,h1,Y.conv _ _ _ _ (λh=>absurd rfl h)⟩;simp[aq]at e;intro u O e;simp only[aj]at e;split at e;simp at e;subst_vars;exact⟨1000000,c' 0,fe,ab0,(A.rn _ _ _ (λh=>absurd rfl h)).symm⟩;simp[aq]at e;intro u ok e;simp only[aj]at e;split at e;simp at e;subst_vars;rfl;simp[aq]at e;intro k W;have B:=mem_iff.1 W;simp[bO]at B;subst B;exact⟨km,fe⟩;intro u ok e;simp only[aj]at e;split at e;simp at e;subst_vars;exact .inl ⟨aaV _,fe,ab0⟩;simp[aq]at e;intro ok cs e;simp only[bO,aj]at e;split at e;simp at e;subst_vars;exact A.ok _ _ (λh=>absurd rfl h);simp[aq]at e
def aeZ(I:MB c none)(A:MB c' (some f'))(Y:km≠a2)(P:mem a2 us=false)(W:a2<1000000)(h1:aq km bs=some (c 0)):HOk bs us (bI c none) (bO c' (some f')) [(1000000,km)] [(km,1000000),(a2,999992)] (Ez km (a2+1) a2) [(km,c' a2),(a2,f'.map AV.c)]:=by
 refine⟨Z,?_,?_,?_,?_,?_,?_,?_⟩;intro k U e;simp only[aj]at e;split at e;simp_all [bI];simp[aq]at e;intro ts k cs e;simp only[bI,aj]at e;split at e;simp at e;subst_vars;exact⟨km,_,fe,h1,I.conv _ _ _ _ (λh=>absurd Z h)⟩;simp[aq]at e;intro u O e;simp only[aj]at e;split at e;simp at e;subst_vars;exact⟨1000000,c' 999992,fe,ab0,(A.rn (Ez _ _ _) 999992 a2 (λ_=>rfl)).symm⟩;split at e;simp at e;subst_vars;exact⟨999992,f'.map AV.c,adp,ab0,ad0⟩;simp[aq]at e;intro u ok e;simp only[aj]at e;split at e;simp at e;subst_vars;rfl;split at e;simp at e;subst_vars;rfl;simp[aq]at e
 ·intro k V;have B:=mem_iff.1 V;simp[bO]at B;rcases B with rfl|rfl
  exact⟨km,fe⟩;exact⟨a2,adp⟩
 intro u ok e;simp only[aj]at e;split at e;simp at e;subst_vars;exact .inl ⟨aaV _,fe,ab0⟩;split at e;simp at e;subst_vars;exact .inr ⟨cT P,W⟩;simp[aq]at e;intro ok cs e;simp only[bO,aj]at e;split at e;simp at e;subst_vars;exact A.ok _ _ (λ_=>rfl);split at e;simp at e;subst_vars;exact tU _ _;simp[aq]at e
def ae0(I:MB c (some f))(A:MB c' (some f'))(W:km≠fk)(Y:km≠a2)(P:mem a2 us=false)(V:a2<1000000)(h1:aq km bs=some (c fk))(K:aq fk bs=some (f.map AV.c)) :
  HOk bs us (bI c (some f)) (bO c' (some f')) [(1000000,km),(1000002,fk)] [(km,1000000),(a2,999992)] (Ez km (a2+1) a2) [(km,c' a2),(a2,f'.map AV.c)]:=by
 refine⟨by
  have U:Nat.beq fk km=false:=by
   cases h:Nat.beq fk km with
   |false=>rfl
   |true=>exact absurd (ahZ h).symm W
  simp[distinct,mem,U],?_,?_,?_,?_,?_,?_,?_⟩
 intro k S e;simp only[aj]at e;split at e;simp_all [bI];split at e;simp_all [bI];simp[aq]at e;intro ts k cs e;simp only[bI,aj]at e;split at e;simp at e;subst_vars;exact⟨km,_,fe,h1,I.conv _ _ _ _ (λ_=>by simp[aj])⟩;split at e;simp at e;subst_vars;exact⟨fk,_,fe,K,cJ _⟩;simp[aq]at e;intro u O e;simp only[aj]at e;split at e;simp at e;subst_vars;exact⟨1000000,c' 999992,fe,ab0,(A.rn (Ez _ _ _) 999992 a2 (λ_=>rfl)).symm⟩;split at e;simp at e;subst_vars;exact⟨999992,f'.map AV.c,adp,ab0,ad0⟩;simp[aq]at e;intro u ok e;simp only[aj]at e;split at e;simp at e;subst_vars;rfl;split at e;simp at e;subst_vars;rfl;simp[aq]at e
 ·intro k T;have B:=mem_iff.1 T;simp[bO]at B;rcases B with rfl|rfl
  exact⟨km,fe⟩;exact⟨a2,adp⟩
 intro u ok e;simp only[aj]at e;split at e;simp at e;subst_vars;exact .inl ⟨aaV _,fe,ab0⟩;split at e;simp at e;subst_vars;exact .inr ⟨cT P,V⟩;simp[aq]at e;intro ok cs e;simp only[bO,aj]at e;split at e;simp at e;subst_vars;exact A.ok _ _ (λ_=>rfl);split at e;simp at e;subst_vars;exact tU _ _;simp[aq]at e
end
section
variable {P : Program}{X : Ctx}{ops : Array Oper}{o : Oper}{rest : L Oper}{env : Env}{acc : L Fp}{Q : Env -> St -> L Fp -> Prop}{bs : L (Nat × L AV)}{ts : L (Nat × Nat)}{us : L Nat}
def Ux(us:L Nat)(km a2:Nat):Bool:=both (match mem a2 us with|true=>false|false=>true) (both (Nat.blt a2 1000000) (match Nat.beq km a2 with|true=>false|false=>true))
def S5{km a2:Nat}(h:Ux us km a2=true):mem a2 us=false/\a2<1000000/\km≠a2:=by unfold Ux at h;obtain⟨h1,h⟩:=eo h;obtain⟨h2,K⟩:=eo h;refine⟨by split at h1<;>simp_all,Nat.blt_eq.mp h2,?_⟩;intro e;subst e;rw[Nat.beq_refl]at K;cases K
def WH{us KQ:L Nat}{k:Nat}(h:k∈KQ↔k∈us):mem k KQ=mem k us:=by rw[afT,mem_iff,mem_iff];exact h
def ah.acX(kn:L Nat)(G:cY ops.toList kn env o=some true){f:FuncId}{args:Array Operand}{H:Array TypeId}(T:o.op = .call {callee := .value (.func f),args:=args,argTypes:=H})
  {c c':Nat->L AV}{C:Option (L CV)}{Y:L AV}{r:CV}(hq:cn P X f (bI c none) Y (.c r) (bO c' C))(I:MB c none)(A:MB c' C){d:Nat}(M:o.dst=some d)
  {l:L AV}(W:gI (aG X env) args.toList=some l){km:Nat}{N:L AV}(h1:aq km bs=some N)(E:N=c 0)
  (q:∀ts,fq ⟨λk=>aq k [(1000000,km)],λ_=>none⟩ ts Y l)(J:Ux us km (200000+d)=true)
  {bs':L (Nat×L AV)}(S:kR [km] bs=bs')
  (O:C=none->ah P X ops rest ((d,.c r)::env) ⟨(km,c' 0)::bs',ts,km::us⟩ (⟨[],[km,km,km]⟩::acc) Q)
  (u:∀f',C=some f'->ah P X ops rest ((d,.c r)::env) ⟨(km,c' (200000+d))::(200000+d,f'.map AV.c)::bs',ts,km::(200000+d)::us⟩ (⟨[],[km,km,200000+d,km,200000+d]⟩::acc) Q) :
  ah P X ops (o::rest) env ⟨bs,ts,us⟩ acc Q:=by
 subst S E;obtain⟨q1,K,D⟩:=S5 J;cases C with
 |none =>
  have B:=bN.Bx (env:=env) (σ:=⟨bs,ts,us⟩) T W hq (bx:=[(1000000,km)]) (po:=[(km,1000000)]) (ψ:=λ_=>km) q
   (λNh KQ U V=>aeY I A (jj U cc h1)) Z
  exact ah.step (dh G) B (qV _ _ _) (by rw[M];exact O Z)
 |some f' =>
  have B:=bN.Bx (env:=env) (σ:=⟨bs,ts,us⟩) T W hq (bx:=[(1000000,km)]) (po:=[(km,1000000),(200000+d,999992)]) (ψ:=Ez km (200000+d+1) (200000+d)) q
   (λNh KQ U V=>aeZ I A D (by rw[WH (V _ cc)];exact q1) K (jj U cc h1)) Z
  exact ah.step (dh G) B (qV _ _ _) (by rw[M];exact u f' Z)
def ah.acY(kn:L Nat)(G:cY ops.toList kn env o=some true){f:FuncId}{args:Array Operand}{H:Array TypeId}(T:o.op = .call {callee := .value (.func f),args:=args,argTypes:=H})
  {c c':Nat->L AV}{Y W:L CV}{V:L AV}{r:CV}(hq:cn P X f (bI c (some Y)) V (.c r) (bO c' (some W)))(I:MB c (some Y))(A:MB c' (some W)){d:Nat}(M:o.dst=some d)
  {l:L AV}(S:gI (aG X env) args.toList=some l){km fk:Nat}{N C:L AV}(h1:aq km bs=some N)(E:N=c fk)(K:aq fk bs=some C)(J:C=Y.map AV.c)
  (q:∀ts,fq ⟨λk=>aq k [(1000000,km),(1000002,fk)],λ_=>none⟩ ts V l)(D:Ux us km (200000+d)=true)(O:Nat.beq km fk=false)
  {bs':L (Nat×L AV)}(B:kR [km,fk] bs=bs')
  (u:ah P X ops rest ((d,.c r)::env) ⟨(km,c' (200000+d))::(200000+d,W.map AV.c)::bs',ts,km::(200000+d)::us⟩ (⟨[],[km,fk,km,200000+d,km,200000+d]⟩::acc) Q) :
  ah P X ops (o::rest) env ⟨bs,ts,us⟩ acc Q:=by
 subst B E J;obtain⟨q1,q2,q3⟩:=S5 D;have n1:km≠fk:=by rintro rfl;rw[Nat.beq_refl]at O;cases O
 have hs:=bN.Bx (env:=env) (σ:=⟨bs,ts,us⟩) T S hq (bx:=[(1000000,km),(1000002,fk)]) (po:=[(km,1000000),(200000+d,999992)]) (ψ:=Ez km (200000+d+1) (200000+d)) q
  (λNh KQ U hu=>ae0 I A n1 q3 (by rw[WH (hu _ cc)];exact q1) q2 (jj U cc h1) (jj U cc K)) Z
 exact ah.step (dh G) hs (qV _ _ _) (by rw[M];exact u)
def bN.E1(hX:cB P X){o:Oper}{env:Env}{σ:St}{t:TypeId}{x V:Operand}(T:o.op = .indexAddr t x V){i j:TI}{n e:Nat}(Q:X.ti t=some i)(N:i.kind = .arr n e)(K:X.ti e=some j)
  {cs:L CV}(J:aG X env x=some (.c (.ip cs))){k:IntKind}{z:Int}(H:aG X env V=some (.c (.int k z))){m:Nat}(q:z=m)(G:m<n){r:L CV}(E:cs.drop (m*j.size)=r):bN P X o env σ (.c (.ip r)) (λσ=>σ) ⟨[],[]⟩:=by
 refine bN.val λM w g A I jl W O=>?_;have D:aG X M x=some (.c (.ip cs)):=by rw[I x ab2];exact J
 have u:aG X M V=some (.c (.int k z)):=by rw[I V ab2];exact H
 have S:=cr (a:=A) O W D;simp only[aP,Rel]at S;obtain⟨b,o',e1,B⟩:=S;have e4:=xO (cr (a:=A) O W u);obtain⟨d,jM,U,_⟩:=hX.run_underlying (w:=w) Q;rw[N]at U;simp only[jA]at U;subst U;refine⟨.pointer (some ⟨b,o'+m*j.size,none⟩),?_,?_⟩;obtain⟨dst,op,C,pos,Y,guard⟩:=o;simp only at T;subst T;simp[execOp,e1,e4,q,Instr.indexAt,asIntOf,jM,Instr.sureAddr,G,hX.run_sizeOf K,Addr.add_lit];simp only[aP,Rel];exact⟨b,_,Z,by rw[<- E];exact dJ.drop B⟩
def ah.E1(hX:cB P X)(kn:L Nat){σ:St}(Y:cY ops.toList kn env o=some true){t:TypeId}{x V:Operand}(T:o.op = .indexAddr t x V){d:Nat}(I:o.dst=some d){i j:TI}{n e:Nat}(U:X.ti t=some i)(A:i.kind = .arr n e)(W:X.ti e=some j)
  {cs:L CV}(S:aG X env x=some (.c (.ip cs))){k:IntKind}{z:Int}(O:aG X env V=some (.c (.int k z))){m:Nat}(q:z=m)(G:m<n){r:L CV}(B:cs.drop (m*j.size)=r)
  (k:ah P X ops rest ((d,.c (.ip r))::env) σ (⟨[],[]⟩::acc) Q):ah P X ops (o::rest) env σ acc Q :=
 ah.step (dh Y) (bN.E1 (σ:=σ) hX T U A W S O q G B) (iJ.id []) u6
def cn.imp{P:Program}{X:Ctx}{f:FuncId}{T Y:L (Nat×L AV)}{M:L AV}{r O:AV}(B:∀g u,aP g r u->aP g O u)(q:cn P X f T M r Y):cn P X f T M O Y:=by unfold cn at q ⊢;exact⟨q.1,λg w vs h1 h2 K=>Calls.mono (q.2 g w vs h1 h2 K) λe w' ⟨u,g',E,N,H⟩=>⟨u,g',E,B g' u N,H⟩⟩
end
end Go.cw
namespace Go.cw
def dX.hD(l:dX)(i:Nat)(a:Acc):dX:=⟨l.aS.set i a,l.eG⟩
end Go.cw
namespace Go.Proofs
open Go.cw
structure wH where
 kind:Int
 to:Int
 oZ:Int
 arg:Nd
 t0:Nd
 t1:Nd
 code:Nd
structure w9 where
 fu:Int
 op:Option wH
 val:Vl
structure lN where
 src:Int
 cnt:Int
 jd:Int
 bU:Int
 ops:List wH
structure P9 where
 code:Int
 done:Int
 bU:Int
 au:Int
 made:List Int
structure Wk where
 l:dX
 bU:Int
 done:Int
 used:Int
 au:Int
 made:List Int
def ov(x:w9)(t:Ty):Vl×Int:=match x.op with
 |none=>if cV ((Iw x.val).getD 0 lJ) t=true then((ez x.val).getD 0 lC,0)else(lC,5)
 |some o=>if(gJ t o.arg).2=0 then((gJ t o.arg).1,0)else(lC,5)
def uD(to:Int)(o:Vl):w9:=⟨to,none,o⟩
def Ni(w:Wk)(x:w9)(to n:Int)(a:Acc)(v:Vl):Qs :=
 Ir to x.fu n a.bX (.mk 3 0 0 [] a.code) [.mk 11 [a.param,a.store]] [.mk 11 0 0 [] [v,a.keep] [] []] w.bU
def Jf(w:Wk)(l:dX)(to:Int)(a:Acc)(r:Qs):(List w9×Int)×Wk :=
 let C:={w with bU:=w.bU-r.bU,used:=w.used+r.bU}
 if r.code≠0 then(([],r.code),C)
 else if C.au>bJ-r.au then(([],11),C)
 else(((ez ((ez (r.st.getD 0 lC)).getD 0 lC)).map (uD to),0),{C with au:=C.au+r.au,l:=l.hD to.toNat {a with keep:=(ez (r.st.getD 0 lC)).getD 1 lC}})
def EA(w:Wk)(x:w9)(to n:Int):(List w9×Int)×Wk :=
 if jw w.l x.fu to n≠0 then(([],jw w.l x.fu to n),w)
 else if(bq (Cz w.l x.fu to n) to).is=1 then
  if(ov x (.mk 1 [])).2≠0 then(([],(ov x (.mk 1 [])).2),w)else(([],0),{w with l:=Cz w.l x.fu to n})
 else if(ov x (bq (Cz w.l x.fu to n) to).param).2≠0 then(([],(ov x (bq (Cz w.l x.fu to n) to).param).2),w)
 else Jf w (Cz w.l x.fu to n) to (bq (Cz w.l x.fu to n) to) (Ni w x to n (bq (Cz w.l x.fu to n) to) (ov x (bq (Cz w.l x.fu to n) to).param).1)
def eS:L Acc->Nat->Nat
 |[],k=>k
 |a::l,k=>if a.is=0 then k else eS l (k+1)
def newAcc(o:wH):Acc:=⟨2,0,0,(aJ o.t0).1,(aJ o.t1).1,cG o.code,(gJ (aJ o.t1).1 o.arg).1⟩
def orM(w:Wk)(fu:Int)(o:wH):Int×Wk :=
 if(aJ o.t0).2≠0\/(aJ o.t1).2≠0 then(5,w)
 else if jr (aJ o.t0).1 (aJ o.t1).1 o.code≠0 then(jr (aJ o.t0).1 (aJ o.t1).1 o.code,w)
 else if(gJ (aJ o.t1).1 o.arg).2≠0\/200<gX (gJ (aJ o.t1).1 o.arg).1 then(5,w)
 else if eS (w.l.aS.drop 4) 4=12 then(7,w)
 else if jw (w.l.hD (eS (w.l.aS.drop 4) 4) (newAcc o)) fu (eS (w.l.aS.drop 4) 4) o.oZ≠0 then(jw (w.l.hD (eS (w.l.aS.drop 4) 4) (newAcc o)) fu (eS (w.l.aS.drop 4) 4) o.oZ,w)
 else(0,{w with l:=Cz (w.l.hD (eS (w.l.aS.drop 4) 4) (newAcc o)) fu (eS (w.l.aS.drop 4) 4) o.oZ,made:=w.made++[((eS (w.l.aS.drop 4) 4:Nat):Int)]})
def gC(w:Wk)(x:w9):(List w9×Int)×Wk:=match x.op with
 |none=>EA w x (xA x.val) (vN x.val)
 |some o=>if o.kind=1 then EA w x o.to o.oZ else if o.kind=2 then(([],(orM w x.fu o).1),(orM w x.fu o).2)else(([],3),w)
def allM:Nat->Wk->List w9->Int×Wk
 |_,w,[]=>(0,w)
 |0,w,_::_=>(7,w)
 |k+1,w,x::q=>if 24<=w.done then(7,w)else if(gC w x).1.2≠0 then((gC w x).1.2,(gC w x).2)
  else allM k {(gC w x).2 with done:=(gC w x).2.done+1} (q++(gC w x).1.1)
def lZ(src:Int):Wk->List wH->Int×Wk
 |w,[]=>(0,w)
 |w,o::r=>if(allM 25 w [⟨src,some o,lC⟩]).1≠0 then allM 25 w [⟨src,some o,lC⟩]else lZ src (allM 25 w [⟨src,some o,lC⟩]).2 r
def uw(l:dX)(b:lN):Int :=
 if rP l=false then 2 else if b.src<0\/4<=b.src then 6
 else if bJ<=(bq l b.src).cnt\/b.cnt≠(bq l b.src).cnt+1 then 9
 else if b.jd<0\/b.bU<0\/1048576<b.bU then 2
 else if b.ops.length=0\/8<b.ops.length then 7
 else if(bq l b.src).bX<b.jd then 8 else 0
def sQ(l:dX)(b:lN):dX:=⟨l.aS.set b.src.toNat {bq l b.src with cnt:=(bq l b.src).cnt+1,bX:=(bq l b.src).bX-b.jd},l.eG+b.jd⟩
def om(l:dX)(b:lN):Wk:=⟨sQ l b,b.bU,0,0,0,[]⟩
def gp(l:dX)(b:lN):dX×P9 :=
 if uw l b≠0 then(l,⟨uw l b,0,0,0,[]⟩)
 else if(lZ b.src (om l b) b.ops).1≠0 then(sQ l b,⟨(lZ b.src (om l b) b.ops).1,0,(lZ b.src (om l b) b.ops).2.used,0,[]⟩)
 else((lZ b.src (om l b) b.ops).2.l,⟨0,(lZ b.src (om l b) b.ops).2.done,(lZ b.src (om l b) b.ops).2.used,(lZ b.src (om l b) b.ops).2.au,(lZ b.src (om l b) b.ops).2.made⟩)
def V8:wH->L CV
 |⟨Y,to,T,.mk W a2 A P V,.mk U S H Q O,.mk u K N c4 M,.mk q G J D I⟩ =>
  [ag Y,ag to,ag T,ag W,ag a2,ag A,.str P,.sl 5 (aD V),ag U,ag S,ag H,.str Q,.sl 5 (aD O),ag u,ag K,ag N,.str c4,.sl 5 (aD M),ag q,ag G,ag J,.str D,.sl 5 (aD I)]
def fD:List wH->L CV
 |[]=>[]
 |o::l => .agg (V8 o)::fD l
def opP:Option wH->CV
 |none => .mX
 |some o => .ip (V8 o)
def kO:w9->CV
 |⟨fu,H,.mk k n a s M V code⟩ => .agg [ag fu,opP H,ag k,ag n,ag a,.str s,.sl 7 (aa M),.sl 2 (az V),.sl 5 (aD code)]
def dQ:List w9->L CV
 |[]=>[]
 |x::l=>kO x::dQ l
def kP(b:lN):CV := .agg [ag b.src,ag b.cnt,ag b.jd,ag b.bU,.sl 23 (fD b.ops)]
def qD(r:P9):CV := .agg [ag r.code,ag r.done,ag r.bU,ag r.au,.sl 1 (cM r.made)]
def s9(w:Wk)(b:Nat):AV:=match w.made with
 |[] => .own .exact 1 []
 |_::_ => .gY b 0 1 w.made.length
def wB(w:Wk)(b:Nat):L AV:=bH w.l++[.c (ag w.bU),.c (ag 0),.c (ag w.done),.c (ag w.used),.c (ag w.au),s9 w b]
def wO(w:Wk):Option (L CV):=match w.made with
 |[]=>none
 |_::_=>some (bz (cM w.made))
def mS(w:Wk):MB (wB w) (wO w):=by
 obtain⟨l,W,done,C,Q,N⟩:=w;have E:∀(ρ:Ren)(ts:L (Nat×Nat))(cs:L CV){p q:L AV},fq ρ ts p q->fq ρ ts (cs.map AV.c++p) (cs.map AV.c++q):=by
  intro ρ ts cs p q h
  induction cs with
  |nil=>exact h
  |cons c cs Y=>exact⟨_,_,Z,.inl Z,Y⟩
 have J:∀(ψ:Nat->Nat)(cs:L CV)(p:L AV),Qa ψ (cs.map AV.c++p)=cs.map AV.c++Qa ψ p:=by
  intro ψ cs p
  induction cs with
  |nil=>rfl
  |cons c cs Y=>simp only[aeX,aeN,Qa,AV.rn,Y]
 have H:∀(us:L Nat)(cs:L CV)(p:L AV),vJ us p=true->vJ us (cs.map AV.c++p)=true:=by
  intro us cs p h
  induction cs with
  |nil=>exact h
  |cons c cs Y=>simp only[aeX,aeN,vJ,Uy,both,Y]
 cases N with
 |nil =>
  exact⟨λρ ts b O _=>E ρ ts _ ce,
   λψ b O _=>J ψ _ _,λus b _=>H us _ _ Z⟩
 |cons x r =>
  refine⟨λρ ts b O h=>E ρ ts _ ⟨_,_,Z,.inl Z,_,_,Z,.inl Z,_,_,Z,.inl Z,_,_,Z,.inl Z,_,_,Z,.inl Z,_,_,Z,⟨_,h (by simp[wO]),Z⟩,Z⟩,λψ b O h=>?_,λus b h=>H us _ _ ?_⟩;rw[<- h (by simp[wO])];exact J ψ _ _;have:=h (by simp[wO]);simp only[s9,vJ,Uy,both,this]
def eR(f:FuncId)(w:Wk)(M:L AV)(r:CV)(w':Wk):Prop :=
 rQ f (bI (wB w) (wO w)) (.ptr 1000000 0::M) (.c r) (bO (wB w') (wO w'))
def Av{α:Type}:∀(k:Nat)(a r b:List α),takeN k a=some r->takeN k (a++b)=some r
 |0,a,r,b,h=>by simp only[takeN]at h ⊢;exact h
 |k+1,[],r,b,h=>by simp only[takeN]at h;cases h
 |k+1,x::a,r,b,h=>by
  simp only[aeN,takeN]at h ⊢;cases C:takeN k a with
  |none=>rw[C]at h;cases h
  |some q=>rw[C]at h;rw[Av k a q b C];exact h
def xJ(k:Nat)(l:L AV):bG k [] l=some l:=by cases k<;>cases l<;>rfl
def oz:∀(k:Nat)(cs a r b:L AV),bG k cs a=some r->bG k cs (a++b)=some (r++b)
 |k,[],a,r,b,h=>by rw[xJ]at h ⊢;cases h;rfl
 |0,v::vs,[],r,b,h=>by simp only[bG]at h;cases h
 |0,v::vs,x::a,r,b,h=>by
  simp only[aeN,bG]at h ⊢;cases C:bG 0 vs a with
  |none=>rw[C]at h;cases h
  |some q=>rw[C]at h;rw[oz 0 vs a q b C];cases h;rfl
 |k+1,v::vs,[],r,b,h=>by simp only[bG]at h;cases h
 |k+1,v::vs,x::a,r,b,h=>by
  simp only[aeN,bG]at h ⊢;cases C:bG k (v::vs) a with
  |none=>rw[C]at h;cases h
  |some q=>rw[C]at h;rw[oz k (v::vs) a q b C];cases h;rfl
def mG:∀(p:L AV)(k:Nat)(cs a r:L AV),bG k cs a=some r->bG (p.length+k) cs (p++a)=some (p++r)
 |[],k,cs,a,r,h=>by simpa using h
 |x::p,k,[],a,r,h=>by rw[xJ]at h ⊢;cases h;rfl
 |x::p,k,v::vs,a,r,h=>by rw[show(x::p).length+k=(p.length+k)+1 by simp;omega];simp only[aeN,bG,mG p k (v::vs) a r h]
def Jg:∀(l:L Acc)(i:Nat)(a b:Acc),l[i]?=some a->jx (l.set i b)=jx (l.take i)++(tV b++jx (l.drop (i+1)))
 |[],i,a,b,h=>by simp at h
 |x::l,0,a,b,h=>by simp[jx]
 |x::l,i+1,a,b,h=>by simp only[ahs,jx,ahj,agQ,afn,Jg l i a b h]
section
variable {l : dX}{i : Nat}{a : Acc}
def KR(T:l.aS[i]?=some a):∃p q:L AV,p.length=i*15/\bH l=p++(xP a++q)/\∀b,bH (l.hD i b)=p++(xP b++q):=by have U:i<l.aS.length:=(List.getElem?_eq_some_iff.1 T).1;refine⟨(jx (l.aS.take i)).map AV.c,(jx (l.aS.drop (i+1))++[CV.int .i64 l.eG]).map AV.c,?_,?_,λb=>?_⟩;rw[aeU,zf,afb];omega;show(jx l.aS++[CV.int .i64 l.eG]).map AV.c=_;rw[tc _ _ _ T];simp only[afa,afn,xP];show(jx (l.aS.set i b)++[CV.int .i64 l.eG]).map AV.c=_;rw[Jg _ _ _ _ T];simp only[afa,afn,xP]
def ir(T:l.aS[i]?=some a):∃q,∀k r,dV k (xP a++q)=some r->dV (0+i*15+k) (bH l)=some r:=by obtain⟨p,q,h1,h2,_⟩:=KR T;refine⟨q,λk r h=>?_⟩;rw[h2,aeS,<- h1];exact lz _ _ _ _ _ (jg p _) h
def Ax(T:l.aS[i]?=some a){b:Acc}{k:Nat}{cs:L AV}(h:bG k cs (xP a)=some (xP b)):bG (0+i*15+k) cs (bH l)=some (bH (l.hD i b)):=by obtain⟨p,q,h1,h2,K⟩:=KR T;rw[h2,K,aeS,<- h1];exact mG p k cs _ _ (oz _ _ _ _ _ h)
end
section
variable (w : Wk)(b : Nat)
def ahJ(T:w.l.aS.length=12){i:TI}(h1:i.isAgg=true)(h2:i.size=181):lO i (wB w b)=some (.agg (bH w.l)):=by unfold lO wB;rw[h1,h2];simp only[Av _ _ _ _ (FM T)]
def Jh(T:w.l.aS.length=12)(k:Nat){r:L AV}(h:dV k [AV.c (ag w.bU),.c (ag 0),.c (ag w.done),.c (ag w.used),.c (ag w.au),s9 w b]=some r):dV (181+k) (wB w b)=some r:=by have h1:=jg (bH w.l) [AV.c (ag w.bU),.c (ag 0),.c (ag w.done),.c (ag w.used),.c (ag w.au),s9 w b];rw[jC T]at h1;exact lz _ _ _ _ _ h1 h
def CK(T:w.l.aS.length=12)(k:Nat)(cs:L AV){w':Wk}{O:Nat}(I:w'.l=w.l){r:L AV}(h:bG k cs [AV.c (ag w.bU),.c (ag 0),.c (ag w.done),.c (ag w.used),.c (ag w.au),s9 w b]=some r)
  (B:r=[AV.c (ag w'.bU),.c (ag 0),.c (ag w'.done),.c (ag w'.used),.c (ag w'.au),s9 w' O]):bG (181+k) cs (wB w b)=some (wB w' O):=by
 have h1:=mG (bH w.l) k cs _ _ h;rw[jC T]at h1;unfold wB;rw[h1,B,I]
def ae1(T:w.l.aS.length=12){N:dX}(H:N.aS.length=12):bG 0 (bH N) (wB w b)=some (wB {w with l:=N} b) :=
 oz 0 _ _ _ _ (gL H (jC T))
def acZ(T:w.l.aS.length=12):dV 181 (wB w b)=some [AV.c (ag w.bU),.c (ag 0),.c (ag w.done),.c (ag w.used),.c (ag w.au),s9 w b]:=Jh w b T 0 rfl
def ae2(T:w.l.aS.length=12):dV 182 (wB w b)=some [.c (ag 0),.c (ag w.done),.c (ag w.used),.c (ag w.au),s9 w b]:=Jh w b T 1 rfl
def Z8(T:w.l.aS.length=12):dV 183 (wB w b)=some [.c (ag w.done),.c (ag w.used),.c (ag w.au),s9 w b]:=Jh w b T 2 rfl
def Z9(T:w.l.aS.length=12):dV 184 (wB w b)=some [.c (ag w.used),.c (ag w.au),s9 w b]:=Jh w b T 3 rfl
def Uz(T:w.l.aS.length=12):dV 185 (wB w b)=some [.c (ag w.au),s9 w b]:=Jh w b T 4 rfl
def aaa(T:w.l.aS.length=12):dV 186 (wB w b)=some [s9 w b]:=Jh w b T 5 rfl
def aab(T:w.l.aS.length=12)(z:Int):bG 181 [.c (ag z)] (wB w b)=some (wB {w with bU:=z} b):=CK w b T 0 _ rfl rfl rfl
def WI(T:w.l.aS.length=12)(z:Int):bG 183 [.c (ag z)] (wB w b)=some (wB {w with done:=z} b):=CK w b T 2 _ rfl rfl rfl
def WJ(T:w.l.aS.length=12)(z:Int):bG 184 [.c (ag z)] (wB w b)=some (wB {w with used:=z} b):=CK w b T 3 _ rfl rfl rfl
def Qu(T:w.l.aS.length=12)(z:Int):bG 185 [.c (ag z)] (wB w b)=some (wB {w with au:=z} b):=CK w b T 4 _ rfl rfl rfl
def WK(w:Wk)(b:Nat){i:Nat}{a:Acc}(T:w.l.aS[i]?=some a):∃q,∀k r,dV k (xP a++q)=some r->dV (0+i*15+k) (wB w b)=some r:=by obtain⟨p,q,h1,h2,_⟩:=KR T;refine⟨q++[AV.c (ag w.bU),.c (ag 0),.c (ag w.done),.c (ag w.used),.c (ag w.au),s9 w b],λk r h=>?_⟩;unfold wB;rw[h2,aeS,<- h1,afn,afn];exact lz _ _ _ _ _ (jg p _) h
end
def FO{l:L Acc}{i:Nat}(h:i<l.length):l[i]?=some (l.getD i tT):=by simp[List.getD,aeL h]
def ep{l:dX}(T:l.aS.length=12){i:Int}(C:0<=i)(h1:i<12):l.aS[i.toNat]?=some (bq l i):=FO (by omega)
end Go.Proofs
namespace Go.Proofs
open Go.cw
def ae3{f:FuncId}{n:Nat}{β:kz}{K:L Item}{env:Env}{C:Func}(hf:Tryz.prog.funcs[f]?=some C){bs:L (Nat×L AV)}{ts:L (Nat×Nat)}{us:L Nat}{l:L AV}(B:qT Tryz.X bs env C.results.toList=some l)
  {v:CV}(N:close (zZ l)=some v){w:Wk}{cells:L AV}(h1:aq 1000000 bs=some cells)(E:cells=wB w 0)(q:wO w=none){r:CV}(O:v=r) :
  By f n β (HR β (.c r) (bO (wB w) (wO w))) (.code .ret::K) env ⟨bs,ts,us⟩:=by
 subst E O;rw[q];refine AK.zZ Tryz.hX hf B [(1000000,1000000)] Z (.inr N) ⟨⟨_,_,Z,h1,?_⟩,trivial⟩;have:=mS w;rw[q]at this;exact this.conv _ _ _ _ (λh=>absurd Z h)
def ae4{f:FuncId}{n:Nat}{β:kz}{K:L Item}{env:Env}{C:Func}(hf:Tryz.prog.funcs[f]?=some C){bs:L (Nat×L AV)}{ts:L (Nat×Nat)}{us:L Nat}{l:L AV}(B:qT Tryz.X bs env C.results.toList=some l)
  {v:CV}(N:close (zZ l)=some v){w:Wk}{b:Nat}{cells S:L AV}{q:L CV}(h1:aq 1000000 bs=some cells)(E:cells=wB w b)(D:wO w=some q)(h2:aq b bs=some S)(J:S=q.map AV.c)(I:Go.cw.distinct [1000000,b]=true){r:CV}(O:v=r) :
  By f n β (HR β (.c r) (bO (wB w) (wO w))) (.code .ret::K) env ⟨bs,ts,us⟩:=by
 subst E J O;rw[D];have:=mS w;rw[D]at this;refine AK.zZ Tryz.hX hf B [(1000000,1000000),(999992,b)] ?_ (.inr N) ⟨⟨_,_,Z,h1,this.conv _ _ _ _ (λ_=>rfl)⟩,⟨_,_,Z,h2,cJ _⟩,trivial⟩;unfold xQ;rw[show([(1000000,1000000),(999992,b)]:L (Nat×Nat)).map (·.2)=[1000000,b]from Z,I];rfl
def Ji{l:dX}(U:∀a∈l.aS,0<=a.bX/\a.bX<=4000000){i:Nat}{a:Acc}(h:l.aS[i]?=some a):0<=a.bX/\a.bX<=4000000:=U a (abz h)
def td{l:dX}{F T n:Int}(Y:l.aS.length=12)(h:jw l F T n=0) :
  ∃(i j:Nat) (J aT:Acc),F=i/\T=j/\l.aS[i]?=some J/\l.aS[j]?=some aT/\J.is≠0/\aT.is≠0/\0<=n/\n<=1152921504606846976/\n<=J.bX:=by
 unfold jw at h;split at h;simp at h;rename_i u;split at h;simp at h;rename_i K;split at h;simp at h;rename_i W;have h1:=ep (l:=l) (i:=F) Y ai ai;have h2:=ep (l:=l) (i:=T) Y ai ai;exact⟨F.toNat,T.toNat,_,_,ai,ai,h1,h2,ai,ai,ai,ai,ai⟩
def WL{l:dX}{F T n:Int}{i j:Nat}{J aT:Acc}(Y:l.aS.length=12)(E:F=i)(N:T=j)(H:l.aS[i]?=some J)(C:l.aS[j]?=some aT)(q:J.is≠0)(W:aT.is≠0)(V:0<=n)(U:n<=1152921504606846976)(S:n<=J.bX):jw l F T n=0:=by have h1:=(List.getElem?_eq_some_iff.1 H).1;have h2:=(List.getElem?_eq_some_iff.1 C).1;subst E N;unfold jw;rw[iG H,iG C,if_neg ai,if_neg ai,if_neg ai]
def rR{l:dX}{k:Nat}{z:Int}(h:l.aS.length=12):(l.cq k z).aS.length=12:=by show(lD l.aS k z).length=12;rw[Nj];exact h
def FP(l:dX)(Y:l.aS.length=12)(q:∀a∈l.aS,0<=a.bX/\a.bX<=4000000)(F T n:Int) :
  af 115 [.agg (cN l),ag F,ag T,ag n] (.eF [.agg (cN (if jw l F T n=0 then Cz l F T n else l)),ag (jw l F T n)]):=by
 by_cases e:jw l F T n=0
 ·rw[if_pos e,e];obtain⟨i,j,J,aT,rfl,rfl,U,V,M,S,K,I,H⟩:=td Y e;have bF:=Ji q U;have C:i64.wrap (J.bX-n)=J.bX-n:=iB ai ai;have B:=rR (k:=i) (z:=J.bX-n) Y;obtain⟨W,Q⟩:∃a,(l.cq i (J.bX-n)).aS[j]?=some a:=⟨_,aeL (by rw[B];have:=(List.getElem?_eq_some_iff.1 V).1;omega)⟩;have P:0<=W.bX/\W.bX<=4000000:=by have h1:(lD l.aS i (J.bX-n))[j]?=some W:=Q;rw[xR,V]at h1;have P:=Ji q V;split at h1;simp only[ahK,agP]at h1;subst h1;exact⟨by show 0<=J.bX-n;omega,by show J.bX-n<=_;omega⟩;simp only[agP]at h1;subst h1;exact P
  have O:i64.wrap (W.bX+n)=W.bX+n:=iB ai ai;have hq:=aac l Y i j J aT W U V n (by rw[C];exact Q) (by rw[C];exact B) (by rw[C,O];exact rR B) M S K I H;rw[C,O]at hq;have N:Cz l i j n=(l.cq i (J.bX-n)).cq j (W.bX+n):=by unfold Cz;rw[iG U,abU,abU,iG Q]
  rw[N];exact hq
 rw[if_neg e];obtain⟨e',⟨_,rfl⟩,hq⟩:=aad l Y F T n (λi j J aT E N G D A u e7 e8 e9=>e (WL Y E N G D A u e7 e8 e9));exact hq
attribute [local irreducible] AK ah aR bM cX cn bH cN gh dX.cq dX.hD wB
def wz{p q:Prop}(k:q)(h:q->p:=by first|exact λk=>uP Z k|exact λk=>AK.CL Z FR k|exact λk=>AK.CM Z FR k|exact λk=>uR Z k|exact λk=>ah.done k|exact λk=>uS Z k|exact λk=>uB Z k|exact λk=>Qv Z Z k|exact λk=>ah.drawn (by kernel_rfl) k|exact λk=>ah.nE Tryz.hX kn Z Z Z Z Z Z Z Z Z (by assumption) k|exact λk=>ah.dj Tryz.hX kn Z Z Z Z Z Z (by assumption) (by rfl) k|exact λk=>ah.dj Tryz.hX kn Z Z Z Z Z Z Z (eA (by assumption) Z Z) k|exact λk=>ah.dj Tryz.hX kn Z Z Z Z Z Z Z (ahJ _ _ (by assumption) Z Z) k|exact λk=>ah.dj Tryz.hX kn Z Z Z Z Z Z (by first|exact acZ _ _ (by assumption)|exact ae2 _ _ (by assumption)|exact Z8 _ _ (by assumption)|exact Z9 _ _ (by assumption)|exact Uz _ _ (by assumption)|exact aaa _ _ (by assumption)) (by rfl) k|exact λk=>ah.store Tryz.hX kn Z Z Z Z Z Z Z Z Z (by first|exact aab _ _ (by assumption) _|exact WI _ _ (by assumption) _|exact WJ _ _ (by assumption) _|exact Qu _ _ (by assumption) _) Z k|exact λk=>ah.store Tryz.hX kn Z Z Z Z Z Z Z Z (jq (by assumption) Z) (ae1 _ _ (by assumption) (by assumption)) Z k|exact λk=>ah.store Tryz.hX kn Z Z Z Z Z Z Z Z Z (by assumption) (by rfl) k|exact λk=>ah.store Tryz.hX kn Z Z Z Z Z Z Z (js _) (jq (by assumption) Z) (gL (by assumption) Z) Z k|exact λk=>ah.store Tryz.hX kn Z Z Z Z Z Z Z (js _) (jq (by assumption) Z) (gL (by assumption) (jC (by assumption))) Z k|exact λk=>ah.store Tryz.hX kn Z Z Z Z Z Z Z Z (jq (by assumption) Z) (gL (by assumption) Z) Z k|exact λk=>ah.store Tryz.hX kn Z Z Z Z Z Z Z Z (jq (by assumption) Z) (by assumption) Z k|exact λk=>ah.box kn Z Z Z Z (js _) Z k|exact λk=>ah.xS kn Z Z Z (gK Z Z) (by assumption) k|exact λk=>uC Z (by assumption) k|exact λk=>ah.E1 Tryz.hX kn Z Z Z Z Z Z Z Z (m:=0) Z (by decide) Z k|exact λk=>ah.E1 Tryz.hX kn Z Z Z Z Z Z Z Z (m:=1) Z (by decide) Z k|exact λk=>uI Z 0 Z Z Z k|exact λk=>uI Z 1 Z Z Z k|exact λk=>uI Z _ Z (by assumption) Z k|exact λk=>AK.skip k|exact λk=>AK.seq k|exact λk=>AK.block k|exact λk=>AK.exit Z k|exact λk=>ah.qG Z Z Z ZG k|exact λk=>ah.qH Z Z Z ZG k):p:=h k
def wr{p:Prop}(h:p:=by first|exact ae3 hf Z Z Z Z (by assumption) Z|exact ae4 hf Z Z Z Z (by assumption) Z Z Z Z):p:=h
def vE(o:wH):Prop:=bD o.arg<=1048576/\bD o.t0<=1048576/\bD o.t1<=1048576/\bD o.code<=1048576
def xH(x:w9):Prop:=match x.op with
 |none=>gN (.mk 8 []) x.val=true/\aH x.val<=12400000/\4<=x.fu
 |some o=>vE o
def Nk{v:Vl}(h:gN (.mk 8 []) v=true):∃n a t ts y,v = .mk 8 n a [] [y] (t::ts) []/\0<=n/\n<=bJ/\br t=true/\gN t y=true:=by
 unfold gN oA at h;simp only[aaN]at h;obtain⟨⟨_,J⟩,hs⟩:=h;obtain⟨k,n,a,s,M,V,code⟩:=v;obtain⟨A,S,_⟩:=ja J;simp only[dD]at A;subst A;simp[cA]at S;obtain⟨h1,rfl,rfl⟩:=S;rcases V with _|⟨t,_|⟨Y,ts⟩⟩
 simp at h1
 ·simp[bE,cA,dD]at J;rcases M with _|⟨y,_|⟨z,r⟩⟩
  simp at J;simp[aL,eU,ej]at J hs;refine⟨n,a,t,[],y,Z,ai,J.1.1.2.1,J.1.2,?_⟩;unfold gN oA;simp[J,hs];simp at J
 simp at h1
def xT(x:w9)(t:Ty)(B:bf t<=8589934593)(D:xH x):af 116 [kO x,cU t] (.eF [bA (ov x t).1,ag (ov x t).2]):=by
 obtain⟨fu,H,v⟩:=x;obtain⟨T,ts⟩:=t;cases H with
 |none =>
  obtain⟨n,a,⟨U,us⟩,r,⟨S,Q,N,K,q,M,J⟩,rfl,_⟩:=Nk D.1;have I:=D.2.1;have hq:=gn (.mk U us) (.mk T ts) (by simp only[aH,aI,bp,bf]at I ⊢;omega);unfold ov;simp only[Iw,ez,aaE];cases C:cV (.mk U us) (.mk T ts)with
  |true =>
   rw[C]at hq;rw[if_pos rfl];refine qn func116 call116 λβ hf=>?_
   repeat' (first|refine sz ?_|refine zc ?_ ?_|(intro h;first|(cases h;done)|rw[h]|skip)|refine uC Z hq ?_)
   all_goals rfl
  |false =>
   rw[C]at hq;rw[if_neg bn];refine qn func116 call116 λβ hf=>?_
   repeat' (first|refine sz ?_|refine zc ?_ ?_|(intro h;first|(cases h;done)|rw[h]|skip)|refine uC Z hq ?_)
   all_goals rfl
 |some o =>
  have hq:=oB (.mk T ts) o.arg B (by have:=D.1;omega);obtain⟨Y,to,G,⟨W,a2,A,P,V⟩,⟨E,u,b3,b4,b5⟩,⟨c1,c2,c3,c4,c5⟩,⟨d1,d2,d3,d4,d5⟩⟩:=o;obtain⟨v1,v2,v3,v4,v5,v6,v7⟩:=v;unfold ov;simp only at hq ⊢;generalize gJ (.mk T ts) (.mk W a2 A P V)=r at hq ⊢;obtain⟨⟨r1,r2,r3,r4,r5,r6,r7⟩,e⟩:=r;by_cases O:e=0
  ·subst O;rw[if_pos rfl];refine qn func116 call116 λβ hf=>?_
   repeat' (first|refine sz ?_|refine zc ?_ ?_|(intro h;first|(cases h;done)|rw[h]|skip)|refine uC Z hq ?_)
   all_goals rfl
  rw[if_neg O];have e1:(e != 0)=true:=by simpa using O
  refine qn func116 call116 λβ hf=>?_
  repeat' (first|refine sz ?_|refine zc ?_ ?_|(intro h;first|(cases h;done)|rw[h]|skip)|refine uC Z hq ?_)
  all_goals rfl
end Go.Proofs
