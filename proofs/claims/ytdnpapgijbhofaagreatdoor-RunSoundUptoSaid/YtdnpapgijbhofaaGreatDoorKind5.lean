/- Package check as plain functions, and their laws. -/
import Derived.Test.YtdnpapgijbhofaaGreatDoorVPar
import Derived.Test.YtdnpapgijbhofaaGreatDoorTPure
import Derived.Test.YtdnpapgijbhofaaGreatDoorCtx
open Go.IntKind
open Go.Proofs.Tryz
set_option linter.defProp false
set_option maxHeartbeats 0
set_option linter.unusedVariables false
set_option linter.unusedSimpArgs false
namespace Go.cM
abbrev CR:=(L Ty×Bool)×Int
def dX(s:L Ty):CR:=((s,false),0)
def aM(e:Int):CR:=(([],false),e)
def fG(p:Int):L UInt8 :=
 if p=41\/p=43\/p=44 then [110]
 else if p=45 then [116,118]
 else if p=50\/p=51\/p=54\/p=56\/p=82\/p=88 then [116]
 else if p=61 then [116,116]
 else if p=52\/p=55\/p=58\/p=64 then [99,99]
 else if p=60\/p=65\/p=68 then [99]
 else if p=66 then [116,116,99]
 else []
def iB:L UInt8->L Nd->L Ty->Option (L Ty)
 |w::ws,.mk kind N P S xs::l,acc =>
  if w=110 then(if kind=0/\0<=N/\N<=40 then iB ws l acc else none)
  else if w=99 then(if kind=3 then iB ws l acc else none)
  else if w=116 then(if(aW (.mk kind N P S xs)).2=0 then iB ws l (acc++[(aW (.mk kind N P S xs)).1])else none)
  else iB ws l acc
 |_,_,acc=>some acc
def bJ(p:Int)(J:L Nd):Option (L Ty):=if p<40\/J.length≠(fG p).length then none else iB (fG p) J []
def cR(a b:CR):CR :=
 if a.2≠0 then aM a.2 else if b.2≠0 then aM b.2 else if a.1.2=true then(b.1,0)else if b.1.2=true\/gG a.1.1 b.1.1=true then(a.1,0)else aM 5
mutual
def G1:Nd->Bool
 |.mk Y _ P _ J=>decide (Y=2/\P=84)||iT J
def iT:L Nd->Bool
 |[]=>false
 |x::l=>G1 x||iT l
end
def G4:Nd->Int | .mk _ n _ _ _=>n
def cJ:Nd->L Nd | .mk _ _ _ _ l=>l
def fW(P:Int)(J:L Nd)(s:L Ty):CR :=
 if P=40 then(match s with|_::r=>dX r|_=>aM 5)
 else if P=42 then(match s with|a::b::r=>dX (b::a::r)|_=>aM 5)
 else if P=41 then(if 1<=G4 (J.getD 0 qV)/\G4 (J.getD 0 qV)<=s.length/\kH (s.getD (G4 (J.getD 0 qV)-1).toNat kG)=true then dX (s.getD (G4 (J.getD 0 qV)-1).toNat kG::s)else aM 5)
 else if P=43 then(if G4 (J.getD 0 qV)<s.length then dX (s.getD (G4 (J.getD 0 qV)).toNat kG::(s.take (G4 (J.getD 0 qV)).toNat++s.drop ((G4 (J.getD 0 qV)).toNat+1)))else aM 5)
 else if P=44 then(match s with|a::r=>if G4 (J.getD 0 qV)<r.length+1 then dX (r.take (G4 (J.getD 0 qV)).toNat++a::r.drop (G4 (J.getD 0 qV)).toNat)else aM 5|_=>aM 5)
 else aM 5
def aQ(Y:L (L Ty->CR))(i:Nat):L Ty->CR:=Y.getD i (λ_=>aM 1)
def aV(P:Int)(Y:L (L Ty->CR))(G s:L Ty):CR :=
 if P=54 then dX (.mk 9 [G.getD 0 kG]::s)
 else if P=56 then dX (.mk 10 [G.getD 0 kG]::s)
 else match s with
  |[]=>aM 5
  |a::r =>
   if P=50 then dX (.mk 12 [a,G.getD 0 kG]::r)
   else if P=51 then dX (.mk 12 [G.getD 0 kG,a]::r)
   else if P=53 then dX (.mk 9 [a]::r)
   else if P=46 then(match r with|b::q=>dX (.mk 11 [a,b]::q)|_=>aM 5)
   else if P=47 then(if bM a=11 then dX (aq a++r)else aM 5)
   else if P=48 then(if bM a=11 then dX (aD a 0::r)else aM 5)
   else if P=49 then(if bM a=11 then dX (aD a 1::r)else aM 5)
   else if P=57 then(match r with|b::q=>if bM b=10/\cP a (aD b 0)=true then dX (b::q)else aM 5|_=>aM 5)
   else if P=52 then(if bM a=12 then cR (aQ Y 0 (aD a 0::r)) (aQ Y 1 (aD a 1::r))else aM 5)
   else if P=55 then(if bM a=9 then cR (aQ Y 0 r) (aQ Y 1 (aD a 0::r))else aM 5)
   else if P=58 then(if bM a=10 then cR (aQ Y 0 (aD a 0::a::r)) (aQ Y 1 r)else aM 5)
   else aM 5
def cH(P:Int)(W:L (L Ty->CR))(Y s:L Ty):CR :=
 if P=61 then(if fq (Y.getD 0 kG)=true then dX (.mk 13 Y::s)else aM 5)
 else if P=59 then(match s with|a::r=>if bM a=6\/bM a=10\/bM a=13 then dX (.mk 4 []::r)else aM 5|_=>aM 5)
 else if P=60 then(match s with|a::r=>if bM a=10\/bM a=13 then cR (aQ W 0 ((if bM a=13 then .mk 11 (aq a)else aD a 0)::r)) (dX r)else aM 5|_=>aM 5)
 else if P=62 then(match s with|a::b::q=>if bM b=13/\cP a (aD b 0)=true/\kH (aD b 1)=true then dX (.mk 9 [aD b 1]::q)else aM 5|_=>aM 5)
 else if P=63 then(match s with|a::b::c::q=>if bM b=9/\bM c=13/\cP a (aD c 0)=true/\cP (aD b 0) (aD c 1)=true then dX (c::q)else aM 5|_=>aM 5)
 else aM 5
def cD(P:Int)(J:L Nd)(Y:L (L Ty->CR))(G s:L Ty):CR :=
 if P=66 then(if iT (cJ (J.getD 2 qV))=true then aM 5
  else if(cR (aQ Y 2 [G.getD 0 kG]) (dX [G.getD 1 kG])).2≠0 then aM (cR (aQ Y 2 [G.getD 0 kG]) (dX [G.getD 1 kG])).2 else dX (.mk 14 G::s))
 else if P=64 then(match s with|a::r=>if bM a=2 then cR (aQ Y 0 r) (aQ Y 1 r)else aM 5|_=>aM 5)
 else if P=65 then(match s with|a::r=>if bM a=2 then(if(cR (aQ Y 0 r) (dX (a::r))).2≠0 then aM (cR (aQ Y 0 r) (dX (a::r))).2 else dX r)else aM 5|_=>aM 5)
 else if P=67 then(match s with|a::b::q=>if bM b=14/\cP a (aD b 0)=true then dX (aD b 1::q)else aM 5|_=>aM 5)
 else if P=68 then(match s with|a::r=>if(aQ Y 0 r).2≠0 then aM (aQ Y 0 r).2 else if(aQ Y 0 r).1.2=true then aM 1 else dX (a::(aQ Y 0 r).1.1)|_=>aM 5)
 else aM 5
def mg(p a b:Int):Int :=
 if a=5/\b=5/\(p=69\/p=70\/p=72)then 5
 else if p=71/\(a=5/\b=4\/a=4/\b=5)then 5
 else if p=72/\a=5/\b=4 then 5
 else if(a=3\/a=4)/\(b=3\/b=4)then(if a=4/\b=4/\p≠70 then 4 else 3)
 else 0
def bN(P:Int)(s:L Ty):CR :=
 if P=93 then(match s with|a::r=>if bM a=3 then dX (.mk 4 []::r)else aM 5|_=>aM 5)
 else if P=94 then(match s with|a::r=>if bM a=3 then dX (.mk 9 [.mk 4 []]::r)else aM 5|_=>aM 5)
 else if P=95 then(match s with|a::r=>if bM a=4 then dX (.mk 3 []::r)else aM 5|_=>aM 5)
 else if P>=93 then aM 5
 else match s with
  |a::b::q =>
   if mg P (bM a) (bM b)=0 then aM 5
   else if P=70/\mg P (bM a) (bM b)=5 then dX (.mk 9 [.mk 5 []]::q)
   else if P≠72 then dX (.mk (mg P (bM a) (bM b)) []::q)
   else dX (.mk 9 [.mk 11 [.mk (if bM a=5/\bM b=5 then 4 else mg P (bM a) (bM b)) [],.mk (if bM a=5 then 5 else 4) []]]::q)
  |_=>aM 5
def b8(P:Int)(Y s:L Ty):CR :=
 match s with
 |[]=>aM 5
 |a::r =>
  if P=73 then(match r with|b::q=>if cP a b=true/\fq a=true then dX (.mk 3 []::q)else aM 5|_=>aM 5)
  else if P=74\/P=75\/P=76 then(if bM a=3 then dX (.mk 2 []::r)else aM 5)
  else if P=77 then(if bM a=2 then dX (a::r)else aM 5)
  else if P=78\/P=79 then(match r with|b::q=>if bM a=2/\bM b=2 then dX (b::q)else aM 5|_=>aM 5)
  else if P=80 then(match r with|b::q=>if bM a=6/\bM b=6 then dX (b::q)else aM 5|_=>aM 5)
  else if P=81 then(if fO a=true then dX (.mk 6 []::r)else aM 5)
  else if P=82 then(if bM a=6/\fO (Y.getD 0 kG)=true then dX (.mk 9 [Y.getD 0 kG]::r)else aM 5)
  else if P=83 then(if fO a=true then(([],true),0)else aM 5)
  else aM 5
def bU(P:Int)(Y s:L Ty):CR :=
 if P=89\/P=90 then dX (.mk 7 []::s)
 else if P=91\/P=92 then dX (.mk 5 []::s)
 else match s with
  |[]=>aM 5
  |a::r =>
   if P=84 then(match r with|b::q=>if bM b=4/\fq a=true then dX (.mk 9 [.mk 15 [a]]::q)else aM 5|_=>aM 5)
   else if P=85 then(if bM a=15 then dX (.mk 11 [.mk 7 [],.mk 11 [aD a 0,.mk 4 []]]::a::r)else aM 5)
   else if P=86 then(match r with|b::q=>if bM a=15/\bM b=11/\bM (aD b 0)=4/\bM (aD b 1)=4 then dX (.mk 9 [.mk 11 [a,a]]::q)else aM 5|_=>aM 5)
   else if P=87 then(if bM a=11/\bM (aD a 0)=15/\cP (aD a 0) (aD a 1)=true then dX (.mk 9 [aD a 0]::r)else aM 5)
   else if P=88 then(match r with|b::c::q=>if bM b=5/\bM c=7/\cP a (Y.getD 0 kG)=true/\iV a=true then dX (.mk 8 []::q)else aM 5|_=>aM 5)
   else aM 5
def mz(P:Int)(J:L Nd)(W:L (L Ty->CR))(Y s:L Ty):CR :=
 if P<=44 then fW P J s
 else if P=45 then(if(gQ (Y.getD 0 kG) (J.getD 1 qV)).2=0/\fO (Y.getD 0 kG)=true then dX (Y.getD 0 kG::s)else aM 5)
 else if P<=58 then aV P W Y s
 else if P<=63 then cH P W Y s
 else if P<=68 then cD P J W Y s
 else if P<=72\/P>=93 then bN P s
 else if P<=83 then b8 P Y s
 else bU P Y s
def ld(r:CR):CR:=if r.2≠0 then aM r.2 else if 40<r.1.1.length then aM 7 else if r.1.1.all br=true then(r.1,0)else aM 4
mutual
def cy:L Nd->L Ty×Bool->CR
 |[],o=>(o,0)
 |n::l,o=>if o.2=true then aM 1 else if(ld (fu n o.1)).2≠0 then aM (ld (fu n o.1)).2 else cy l (ld (fu n o.1)).1
def fu:Nd->L Ty->CR
 |.mk Y N P S J,s =>
  if Y=3 then cy J (s,false)
  else if Y≠2 then aM 1
  else match bJ P J with
   |none=>aM 1
   |some G=>mz P J (aX J) G s
def aX:L Nd->L (L Ty->CR)
 |[]=>[]
 |.mk _ _ _ _ a::l=>(λs=>cy a (s,false))::aX l
end
def iD(n:Nd)(s:L Ty):CR :=
 if dD n≠0 then aM (dD n)
 else match n with
  |.mk P _ _ _ J=>if P≠3 then aM 1 else if 40<s.length then aM 7 else if s.all br=true then cy J (s,false)else aM 5
def NF(a:CR):Prop:=a.2=0->a.1.2=true->a.1.1=[]
def sv(s:L Ty):NF (dX s):=λ_ h=>by cases h
def ku(e:Int):NF (aM e):=λ_ h=>by cases h
def lJ{a b:CR}(W:NF a)(A:NF b):NF (cR a b):=by
 unfold cR;split
 ·exact ku _
 ·split
  ·exact ku _
  ·rename_i h1 h2;simp only[ne_eq,aaK]at h1 h2;split
   ·grind
   ·split
    ·grind
    ·exact ku _
def vP{p:Prop}[Decidable p]{a b:CR}(h1:NF a)(h2:NF b):NF (if p then a else b):=by grind
def J7(P:Int)(Y:L (L Ty->CR))(G s:L Ty)(A:∀i s,NF (aQ Y i s)):NF (aV P Y G s):=by
 unfold aV;rcases s with _|⟨a,_|⟨b,_|⟨c,s⟩⟩⟩
 all_goals
  dsimp only
  repeat' (first|exact lJ (A _ _) (A _ _)|exact lJ (A _ _) (sv _)|refine vP ?_ ?_)
  all_goals first|exact sv _|exact ku _|exact lJ (A _ _) (A _ _)
def PS(P:Int)(Y:L (L Ty->CR))(G s:L Ty)(A:∀i s,NF (aQ Y i s)):NF (cH P Y G s):=by
 unfold cH;rcases s with _|⟨a,_|⟨b,_|⟨c,s⟩⟩⟩
 all_goals
  dsimp only
  repeat' (first|exact lJ (A _ _) (A _ _)|exact lJ (A _ _) (sv _)|refine vP ?_ ?_)
  all_goals first|exact sv _|exact ku _|exact lJ (A _ _) (sv _)
def J8(P:Int)(J:L Nd)(Y:L (L Ty->CR))(G s:L Ty)(A:∀i s,NF (aQ Y i s)):NF (cD P J Y G s):=by
 unfold cD;rcases s with _|⟨a,_|⟨b,_|⟨c,s⟩⟩⟩
 all_goals
  dsimp only
  repeat' (first|exact lJ (A _ _) (A _ _)|exact lJ (A _ _) (sv _)|refine vP ?_ ?_)
  all_goals first|exact sv _|exact ku _|exact lJ (A _ _) (A _ _)
def SF(P:Int)(J:L Nd)(s:L Ty):NF (fW P J s):=by
 unfold fW;rcases s with _|⟨a,_|⟨b,_|⟨c,s⟩⟩⟩
 all_goals
  dsimp only
  repeat' (refine vP ?_ ?_)
  all_goals first|exact sv _|exact ku _
def J9(P:Int)(s:L Ty):NF (bN P s):=by
 unfold bN;rcases s with _|⟨a,_|⟨b,_|⟨c,s⟩⟩⟩
 all_goals
  dsimp only
  repeat' (refine vP ?_ ?_)
  all_goals first|exact sv _|exact ku _
def SG(P:Int)(Y s:L Ty):NF (b8 P Y s):=by
 unfold b8;rcases s with _|⟨a,_|⟨b,_|⟨c,s⟩⟩⟩
 all_goals
  dsimp only
  repeat' (refine vP ?_ ?_)
  all_goals first|exact sv _|exact ku _|exact λ_ _=>rfl
def PT(P:Int)(Y s:L Ty):NF (bU P Y s):=by
 unfold bU;rcases s with _|⟨a,_|⟨b,_|⟨c,s⟩⟩⟩
 all_goals
  dsimp only
  repeat' (refine vP ?_ ?_)
  all_goals first|exact sv _|exact ku _
def PU(P:Int)(J:L Nd)(Y:L (L Ty->CR))(G s:L Ty)(A:∀i s,NF (aQ Y i s)):NF (mz P J Y G s):=by
 unfold mz
 repeat' split
 all_goals first|exact SF _ _ _|exact sv _|exact ku _|exact J7 _ _ _ _ A|exact PS _ _ _ _ A|exact J8 _ _ _ _ _ A|exact J9 _ _|exact SG _ _ _|exact PT _ _ _
def qq{r:CR}(h:(ld r).2=0):r.2=0/\ld r=(r.1,0)/\r.1.1.length<=40/\r.1.1.all br=true:=by
 unfold ld at h ⊢;by_cases h1:r.2≠0
 ·rw[if_pos h1]at h;exact absurd h h1
 rw[if_neg h1]at h ⊢;by_cases h2:40<r.1.1.length
 ·rw[if_pos h2]at h;simp[aM]at h
 rw[if_neg h2]at h ⊢;by_cases K:r.1.1.all br=true
 ·simp_all
 ·rw[if_neg K]at h;simp[aM]at h
mutual
def Fl:∀(l:L Nd)(o:L Ty×Bool),(o.2=true->o.1=[])->NF (cy l o)
 |[],o,h=>λ_ h2=>h h2
 |n::l,o,h=>by
  have h1:=SH n;simp only[cy];split
  ·exact ku _
  ·split
   ·exact ku _
   ·rename_i h2 K;simp only[ne_eq,aaK]at K;obtain⟨C,Q,_⟩:=qq K;rw[Q];exact Fl l _ (λhf=>h1 _ C hf)
def SH:∀(n:Nd)(s:L Ty),NF (fu n s)
 |.mk Y N P S J,s=>by
  have h1:=Fl J (s,false) (λh=>by cases h);have h2:=Hy J;simp only[fu];split
  ·exact h1
  ·split
   ·exact ku _
   ·split
    ·exact ku _
    ·exact PU _ _ _ _ _ h2
def Hy:∀(l:L Nd)(i:Nat)(s:L Ty),NF (aQ (aX l) i s)
 |[],i,s=>by simp only[aX,aQ,List.getD_nil];exact ku _
 |.mk k n p q a::l,0,s=>by
  have:=Fl a (s,false) (λh=>by cases h);simpa[aX,aQ]using this
 |.mk k n p q a::l,i+1,s=>by
  have:=Hy l i s;simpa[aX,aQ]using this
end
def DY:∀(l:L Nd)(o:L Ty×Bool),o.1.all br=true->o.1.length<=40->(cy l o).2=0->(cy l o).1.1.all br=true/\(cy l o).1.1.length<=40
 |[],o,h1,h2,_=>⟨h1,h2⟩
 |n::l,o,h1,h2,h=>by
  simp only[cy]at h ⊢;by_cases c:o.2=true
  ·rw[if_pos c]at h;simp[aM]at h
  rw[if_neg c]at h ⊢;by_cases C:(ld (fu n o.1)).2≠0
  ·rw[if_pos C]at h;exact absurd h C
  rw[if_neg C]at h ⊢;simp only[ne_eq,aaK]at C;obtain⟨I,Q,V,p⟩:=qq C;rw[Q]at h ⊢;exact DY l _ p V h
def yw{n:Nd}{s:L Ty}(h:(iD n s).2=0):(iD n s).1.1.all br=true/\(iD n s).1.1.length<=40/\((iD n s).1.2=true->(iD n s).1.1=[]):=by
 obtain⟨Y,N,P,S,J⟩:=n;unfold iD at h ⊢;by_cases W:dD (.mk Y N P S J)≠0
 ·rw[if_pos W]at h;exact absurd h W
 rw[if_neg W]at h ⊢;simp only at h ⊢;by_cases C:Y≠3
 ·rw[if_pos C]at h;simp[aM]at h
 rw[if_neg C]at h ⊢;by_cases K:40<s.length
 ·rw[if_pos K]at h;simp[aM]at h
 rw[if_neg K]at h ⊢;by_cases c4:s.all br=true
 ·rw[if_pos c4]at h ⊢;have g:=DY J (s,false) c4 (by simpa using K) h;exact⟨g.1,g.2,Fl J (s,false) (λh=>by cases h) h⟩
 ·rw[if_neg c4]at h;simp[aM]at h
def Yn:Nd->Int | .mk k _ _ _ _=>k
def wY{n:Nd}{s:L Ty}(h:(iD n s).2=0):dD n=0/\Yn n=3/\s.length<=40/\s.all br=true/\iD n s=cy (cJ n) (s,false):=by
 obtain⟨Y,N,P,S,J⟩:=n;unfold iD at h ⊢;by_cases W:dD (.mk Y N P S J)≠0
 ·rw[if_pos W]at h;exact absurd h W
 rw[if_neg W]at h ⊢;simp only at h ⊢;by_cases C:Y≠3
 ·rw[if_pos C]at h;simp[aM]at h
 rw[if_neg C]at h ⊢;by_cases K:40<s.length
 ·rw[if_pos K]at h;simp[aM]at h
 rw[if_neg K]at h ⊢;by_cases c4:s.all br=true
 ·rw[if_pos c4]at h ⊢;exact⟨by simpa using W,by simpa[Yn]using C,bn,c4,Z⟩
 ·rw[if_neg c4]at h;simp[aM]at h
def L4{n:Nd}{s:L Ty}(h1:dD n=0)(h2:Yn n=3):iD n s=if 40<s.length then aM 7 else if s.all br=true then cy (cJ n) (s,false)else aM 5:=by
 obtain⟨Y,N,P,S,J⟩:=n;unfold iD;rw[if_neg Wy];simp only[Yn]at h2;simp only[cJ];rw[if_neg JY]
def Fr(more:L Ty)(a b:CR):Prop:=a.2=0->b.2=7\/b.2=0/\b.1.2=a.1.2/\(a.1.2=false->b.1.1=a.1.1++more)
end Go.cM
namespace Go.Proofs
open Go.cM
attribute [local irreducible] AK ah aZ
def sJ(n:Int):Bool:=decide (n >= -1152921504606846976)&&decide (n<=1152921504606846976)
def mh(n:Int):Int×Int:=if sJ n=true then(if n<0 then -n else n,0)else(0,2)
def kz(n:Int):Int×Int:=if sJ n=true then(n,0)else(0,11)
def rF(a b:Int):Int×Int:=if sJ a=true/\sJ b=true then kz (a+b)else(0,2)
def jn(a b:Int):Int×Int:=if sJ a=true/\sJ b=true then kz (a-b)else(0,2)
def qd(a b:Int):Int×Int:=if sJ a=true/\sJ b=true then kz (a*b)else(0,2)
def gf(a b:Int):Int×Int×Int:=if sJ a=true/\sJ b=true then(if b=0 then(0,0,6)else(a/b,a%b,0))else(0,0,2)
def Fm{a b q r:Int}(h:r+b*q=a)(p:0<=r)(A:0<b/\r<b\/b<0/\r < -b):a/b=q/\a%b=r:=by
 rcases A with ⟨A,h1⟩|⟨A,h1⟩
 ·exact(Int.ediv_emod_unique A).2 ⟨h,p,h1⟩
 ·have h2:r+(-b)*(-q)=a:=by rw[Int.neg_mul_neg];exact h
  obtain⟨K,W⟩:=(Int.ediv_emod_unique (by omega:0 < -b)).2 ⟨h2,p,h1⟩;rw[Int.ediv_neg]at K;rw[Int.emod_neg]at W;exact⟨bn,W⟩
def Ka(a b:Int)(A:b≠0):a.tmod b+b*a.tdiv b=a/\(0<b -> -b<a.tmod b/\a.tmod b<b)/\(b<0->b<a.tmod b/\a.tmod b < -b) /\
  ((0<=a->0<=a.tmod b)/\(a<=0->a.tmod b<=0))/\(0<=a -> -a<=a.tdiv b/\a.tdiv b<=a)/\(a<=0->a<=a.tdiv b/\a.tdiv b <= -a):=by
 refine⟨Int.tmod_add_mul_tdiv a b,λh=>?_,λh=>?_,⟨λh=>Int.tmod_nonneg b h,λh=>?_⟩,λh=>?_,λh=>?_⟩
 ·refine⟨?_,abu a h⟩;have:=abu (-a) h;rw[Int.neg_tmod]at this;omega
 ·have h1:=abu a (by omega:0 < -b);have h2:=abu (-a) (by omega:0 < -b);rw[Int.neg_tmod]at h2;rw[Int.tmod_neg]at h1 h2;omega
 ·have:=Int.tmod_nonneg b (by omega:0 <= -a);rw[Int.neg_tmod]at this;omega
 ·have:=acA a b;omega
 ·have:=acA a b;omega
def kS{n:Int}:sJ n=true ↔ -1152921504606846976<=n/\n<=1152921504606846976:=by simp[sJ]
def iE(n:Int):aj 92 [.int .i64 n] (.bool (sJ n)):=by
 refine qn func92 call92 λβ hf=>?_
 repeat' (first|refine sz ?_|refine zc ?_ ?_|(intro h;first|(cases h;done)|rw[h]|skip))
 all_goals (simp_all [sJ];try omega)
abbrev two(x:Int×Int):CV := .gb [.int .i64 x.1,.int .i64 x.2]
abbrev three(x:Int×Int×Int):CV := .gb [.int .i64 x.1,.int .i64 x.2.1,.int .i64 x.2.2]
def PV{a b c d:Int}(h:a=c)(C:b=d):CV.gb [.int .i64 a,.int .i64 b] = .gb [.int .i64 c,.int .i64 d]:=by rw[h,C]
def Bx{a b c d e f:Int}(h:a=d)(C:b=e)(Y:c=f):CV.gb [.int .i64 a,.int .i64 b,.int .i64 c] = .gb [.int .i64 d,.int .i64 e,.int .i64 f]:=by rw[h,C,Y]
def yx(n:Int):aj 159 [.int .i64 n] (two (mh n)):=by
 refine qn func159 call159 λβ hf=>?_
 repeat' (first|refine sz ?_|refine zc ?_ ?_|(intro h;first|(cases h;done)|rw[h]|skip)|refine uC Z (iE n) ?_)
 ·simp_all [mh,two]
 ·have h1:sJ n=true:=by simp_all
  have h2:=kS.1 h1;rw[gF bn bn];simp_all [mh,two]
 ·simp_all [mh,two];omega
def zG(n:Int):aj 179 [.int .i64 n] (two (kz n)):=by
 refine qn func179 call179 λβ hf=>?_
 repeat' (first|refine sz ?_|refine zc ?_ ?_|(intro h;first|(cases h;done)|rw[h]|skip)|refine uC Z (iE n) ?_)
 all_goals simp_all [kz,two]
def DZ(a b:Int):aj 161 [.int .i64 a,.int .i64 b] (two (rF a b)):=by
 refine qn func161 call161 λβ hf=>?_
 repeat' (first|refine sz ?_|refine zc ?_ ?_|(intro h;first|(cases h;done)|rw[h]|skip)|refine uC Z (iE a) ?_|refine uC Z (iE b) ?_|refine uC Z (zG _) ?_)
 all_goals try (simp_all [rF,two];done)
 ·rename_i h1;obtain⟨h1,h2⟩:sJ a=true/\sJ b=true:=by simp_all
  have K:=kS.1 h1;have W:=kS.1 h2;rw[gF bn bn];simp[rF,two,h1,h2]
def uv(a b:Int):aj 163 [.int .i64 a,.int .i64 b] (two (jn a b)):=by
 refine qn func163 call163 λβ hf=>?_
 repeat' (first|refine sz ?_|refine zc ?_ ?_|(intro h;first|(cases h;done)|rw[h]|skip)|refine uC Z (iE a) ?_|refine uC Z (iE b) ?_|refine uC Z (zG _) ?_)
 all_goals try (simp_all [jn,two];done)
 ·rename_i h1;obtain⟨h1,h2⟩:sJ a=true/\sJ b=true:=by simp_all
  have K:=kS.1 h1;have W:=kS.1 h2;rw[gF bn bn];simp[jn,two,h1,h2]
def rG(a b:Int):aj 181 [.int .i64 a,.int .i64 b] (three (gf a b)):=by
 refine qn func181 call181 λβ hf=>?_
 repeat' (first|refine sz ?_|refine zc ?_ ?_|(intro h;first|(cases h;done)|rw[h]|skip)|refine uC Z (iE a) ?_|refine uC Z (iE b) ?_|(first|refine ah.quo hX kn Z Z Z Z Z Z Z (by simp_all) ?_|refine ah.rem hX kn Z Z Z Z Z Z Z (by simp_all) ?_))
 all_goals try (simp_all [gf,three];done)
 all_goals
  obtain⟨h1,h2,K⟩:sJ a=true/\sJ b=true/\b≠0:=by simp_all
  have T:=kS.1 h1;have S:=kS.1 h2;obtain⟨C,Q,P,⟨p,u⟩,e6,e7⟩:=Ka a b K;have O : -1152921504606846976<=a.tdiv b/\a.tdiv b<=1152921504606846976:=by omega
  rw[show gf a b=(a/b,a%b,0)from by simp[gf,h1,h2,K]]
 ·have V:a.tmod b<0:=by simp_all
  have U:b>0:=by simp_all
  obtain⟨Y,W⟩:=Fm (a:=a) (b:=b) (q:=a.tdiv b-1) (r:=a.tmod b+b) (by rw[Int.mul_sub];omega) bn bn;rw[gF (n:=a.tdiv b) bn bn,gF bn bn,gF bn bn];exact Bx Y.symm W.symm Z
 ·have V:a.tmod b<0:=by simp_all
  have U:b<0:=by simp_all;omega
  obtain⟨Y,W⟩:=Fm (a:=a) (b:=b) (q:=a.tdiv b+1) (r:=a.tmod b-b) (by rw[Int.mul_add];omega) bn bn;rw[gF (n:=a.tdiv b) bn bn,gF bn bn,gF bn bn];exact Bx Y.symm W.symm Z
 ·have V:a.tmod b>=0:=by simp_all
  obtain⟨Y,W⟩:=Fm (a:=a) (b:=b) (q:=a.tdiv b) (r:=a.tmod b) bn bn bn;rw[gF bn bn];exact Bx Y.symm W.symm Z
end Go.Proofs
namespace Go.Proofs
open Go.cM
def xA:Vl->Int | .mk _ _ a _ _ _ _=>a
def Kb:Vl->L Ty | .mk _ _ _ _ _ t _=>t
def zH:Vl->L Nd | .mk _ _ _ _ _ _ c=>c
structure gU where
 code:List Nd
 pos:Nat
 fin:Int
 aside:List Vl
structure b9 where
 self:Int
 gv:Int
 gw:Int
 balance:Int
 st:List Vl
 fr:List gU
 oC:Int
 used:Int
 bG:Int
 said:Vl
def kJ:Nat->L Vl->Option (L Vl×L Vl)
 |0,s=>some ([],s)
 |_+1,[]=>none
 |n+1,v::s=>match kJ n s with
  |some (l,r)=>some (v::l,r)
  |none=>none
def mB:L Vl->L Vl->Int×L Vl
 |[],s=>(0,s)
 |v::l,s=>if kK v>200 then(13,s)else mB l (v::s)
def aL(k n:Int):Vl := .mk k n 0 [] [] [] []
def gM(b:Bool):Vl:=aL 2 (if b then 1 else 0)
def cw(l:L Vl):Vl := .mk 9 0 0 [] l [] []
def bt(a b:Vl):Vl := .mk 11 0 0 [] [a,b] [] []
def bW(p:Int):Nat :=
 if p∈[41,43,45,54,56,61,66,89,90,91,92]then 0
 else if p∈[42,46,57,62,67,69,70,71,72,73,78,79,80,84,86]then 2
 else if p∈[63,88]then 3 else 1
def ofM(p a b:Int):Int:=if a=5\/b=5 then 5 else if a=4/\b=4/\p≠70 then 4 else 3
def bY:L Vl->Vl->Nat
 |[],_=>0
 |x::l,k=>if dj (kC x) k<0 then bY l k+1 else 0
def eE(l:L Vl)(k:Vl):Bool:=match l[bY l k]? with
 |some x=>decide (dj (kC x) k=0)
 |none=>false
abbrev MR:=Int×b9
def bp(S:b9)(l:L Vl):MR:=((mB l S.st).1,{S with st:=(mB l S.st).2})
def dG(S:b9)(W:L Nd)(fin:Int)(p:L Vl):b9:={S with fr:=⟨W,0,fin,p⟩::S.fr}
def uw(S:b9)(W:L Nd)(fin:Int)(p:L Vl):b9:={S with fr:=⟨W,W.length,fin,p⟩::S.fr}
def aN(J:L Nd)(i:Nat):Nat:=(G4 (J.getD i qV)).toNat
def aC(J:L Nd)(i:Nat):L Nd:=cJ (J.getD i qV)
def aT(J:L Nd)(i:Nat):Ty:=(aW (J.getD i qV)).1
def lV(l:L Vl)(i:Nat):Vl:=l.getD i nE
def PW(P:Int)(J:L Nd)(l:L Vl)(S:b9):MR :=
 if P=42 then bp S [lV l 0,lV l 1]
 else if P=41 then bp S [lV S.st (aN J 0-1)]
 else if P=43 then(0,{S with st:=lV S.st (aN J 0)::(S.st.take (aN J 0)++S.st.drop (aN J 0+1))})
 else if P=44 then(0,{S with st:=S.st.take (aN J 0)++lV l 0::S.st.drop (aN J 0)})
 else(0,S)
def Kc(P:Int)(J:L Nd)(l:L Vl)(S:b9):MR :=
 if P=45 then bp S [(gQ (aT J 0) (J.getD 1 qV)).1]
 else if P=46 then bp S [bt (lV l 0) (lV l 1)]
 else if P=50\/P=51 then bp S [.mk 12 (P-50) 0 [] l [] []]
 else if P=53 then bp S [cw [lV l 0]]
 else if P=54 then bp S [cw []]
 else if P=56 then bp S [.mk 10 0 0 [] [] [] []]
 else if P=47 then bp S [lV (fh (lV l 0)) 1,lV (fh (lV l 0)) 0]
 else if P=48 then bp S [lV (fh (lV l 0)) 0]
 else bp S [lV (fh (lV l 0)) 1]
def By(P:Int)(J:L Nd)(l:L Vl)(S:b9):MR :=
 if P=52 then bp (dG S (aC J (vN (lV l 0)).toNat) 0 []) [lV (fh (lV l 0)) 0]
 else if P=55 then bp (dG S (aC J (min (fh (lV l 0)).length 1)) 0 []) (fh (lV l 0))
 else if P=58 then(match fh (lV l 0)with
  |[]=>(0,dG S (aC J 1) 0 [])
  |x::xs=>bp (dG S (aC J 0) 0 []) [.mk 10 0 0 [] xs [] [],x])
 else if P=60 then(0,uw S (aC J 0) 3 (fh (lV l 0)))
 else if P=64 then(0,dG S (aC J (1-(vN (lV l 0)).toNat)) 0 [])
 else if P=65 then(0,{uw S (aC J 0) 4 []with st:=lV l 0::S.st})
 else if P=68 then(0,dG S (aC J 0) 1 [lV l 0])
 else if P=66 then bp S [.mk 14 0 0 [] [] [aT J 0,aT J 1] (aC J 2)]
 else(0,{dG S (zH (lV l 1)) 2 S.st.reverse with st:=[lV l 0]})
def Kd(P:Int)(J:L Nd)(l:L Vl)(S:b9):MR :=
 if P=57 then(if 24<=(fh (lV l 1)).length then(13,S)else bp S [.mk 10 0 0 [] (lV l 0::fh (lV l 1)) [] []])
 else if P=59 then bp S [aL 4 ((vS (lV l 0)).length+(fh (lV l 0)).length:Nat)]
 else if P=61 then bp S [.mk 13 0 0 [] [] [] []]
 else if P=62 then(if eE (fh (lV l 1)) (lV l 0)=true then bp S [cw [lV (fh (lV (fh (lV l 1)) (bY (fh (lV l 1)) (lV l 0)))) 1]]else bp S [cw []])
 else
  let m:=fh (lV l 2);let i:=bY m (lV l 0);let x:=if eE m (lV l 0)=true then m.take i++m.drop (i+1)else m
  match fh (lV l 1)with
  |[]=>bp S [.mk 13 0 0 [] x [] []]
  |y::_=>if 24<=x.length then(13,S)else bp S [.mk 13 0 0 [] (x.take i++bt (lV l 0) y::x.drop i) [] []]
def Fo(P:Int)(l:L Vl)(S:b9):MR :=
 if P=93 then bp S [aL 4 (mh (vN (lV l 0))).1]
 else if P=94 then(if vN (lV l 0)<0 then bp S [cw []]else bp S [cw [aL 4 (vN (lV l 0))]])
 else if P=95 then bp S [aL 3 (vN (lV l 0))]
 else
  let a:=lV l 0;let b:=lV l 1;let k:=ofM P (vK a) (vK b)
  if P=69 then(if(rF (vN a) (vN b)).2≠0 then((rF (vN a) (vN b)).2,S)else bp S [aL k (rF (vN a) (vN b)).1])
  else if P=71 then(if(qd (vN a) (vN b)).2≠0 then((qd (vN a) (vN b)).2,S)else bp S [aL k (qd (vN a) (vN b)).1])
  else if P=70 then(if(jn (vN a) (vN b)).2≠0 then((jn (vN a) (vN b)).2,S)
   else if k=5 then(if(jn (vN a) (vN b)).1<0 then bp S [cw []]else bp S [cw [aL 5 (jn (vN a) (vN b)).1]])
   else bp S [aL k (jn (vN a) (vN b)).1])
  else if(gf (vN a) (vN b)).2.2≠0 then bp S [cw []]
  else bp S [cw [bt (aL (if k=5/\vK b=5 then 4 else k) (gf (vN a) (vN b)).1) (aL (if k=5 then 5 else 4) (gf (vN a) (vN b)).2.1)]]
def PX(P:Int)(J:L Nd)(l:L Vl)(S:b9):MR :=
 let a:=lV l 0
 if P=73 then bp S [aL 3 (dj a (lV l 1))]
 else if P=74\/P=77 then bp S [gM (decide (vN a=0))]
 else if P=75 then bp S [gM (decide (vN a<0))]
 else if P=76 then bp S [gM (decide (vN a>0))]
 else if P=78 then bp S [gM (decide (vN a=1/\vN (lV l 1)=1))]
 else if P=79 then bp S [gM (decide (vN a=1\/vN (lV l 1)=1))]
 else if P=80 then(if 200<(vS a).length+(vS (lV l 1)).length then(13,S)else bp S [.mk 6 0 0 (vS a++vS (lV l 1)) [] [] []])
 else if P=81 then(if(su a).2≠0 then(13,S)else bp S [.mk 6 0 0 (su a).1 [] [] []])
 else if P=82 then(if(gd (aT J 0) (vS a)).2≠0 then bp S [cw []]else bp S [cw [(gd (aT J 0) (vS a)).1]])
 else(10,{S with said:=a})
def Bz(P:Int)(J:L Nd)(l:L Vl)(S:b9):MR :=
 let a:=lV l 0
 if P=89 then bp S [aL 7 S.self]
 else if P=90 then bp S [aL 7 S.gv]
 else if P=91 then bp S [aL 5 S.gw]
 else if P=92 then bp S [aL 5 S.balance]
 else if P=84 then(if vN (lV l 1)=0 then bp S [cw []]else if S.bG>bL-vN (lV l 1)then(11,S)
  else bp {S with bG:=S.bG+vN (lV l 1)} [cw [.mk 15 (vN (lV l 1)) S.self [] [a] [] []]])
 else if P=88 then bp S [.mk 8 (vN (lV l 1)) (vN (lV l 2)) [] [a] [aT J 0] []]
 else if P=85 then bp S [a,bt (aL 7 (xA a)) (bt (lV (fh a) 0) (aL 4 (vN a)))]
 else if P=86 then
  let n:=vN (lV (fh (lV l 1)) 0);let m:=vN (lV (fh (lV l 1)) 1)
  if n<1\/m<1\/n+m≠vN a then bp S [cw []]
  else bp S [cw [bt (.mk (vK a) n (xA a) (vS a) (fh a) (Kb a) (zH a)) (.mk (vK a) m (xA a) (vS a) (fh a) (Kb a) (zH a))]]
 else
  let x:=lV (fh a) 0;let y:=lV (fh a) 1
  if xA x≠xA y\/dj (lV (fh x) 0) (lV (fh y) 0)≠0 then bp S [cw []]
  else if vN x>bL-vN y then(11,S)
  else bp S [cw [.mk (vK x) (vN x+vN y) (xA x) (vS x) (fh x) (Kb x) (zH x)]]
def BA(P:Int)(J:L Nd)(l:L Vl)(S:b9):MR :=
 if P<=44 then PW P J l S
 else if P<=56/\P≠52/\P≠55 then Kc P J l S
 else if P=52\/P=55\/P=58\/P=60\/64<=P/\P<=68 then By P J l S
 else if P<=63 then Kd P J l S
 else if P<=72\/P>=93 then Fo P l S
 else if P<=83 then PX P J l S
 else Bz P J l S
end Go.Proofs
namespace Go.cM
mutual
def zI:Ty->Bool
 |.mk T J=>decide (arity T=J.length)&&vQ J
def vQ:L Ty->Bool
 |[]=>true
 |t::l=>zI t&&vQ l
end
mutual
def BB:∀(t:Ty)(d n:Int),n<=300->(eF t d n).1=true->zI t=true/\(eF t d n).2=n+bw t
 |.mk T J,d,n,E,h=>by
  simp only[eF]at h ⊢;by_cases c:d>24\/n+1>300\/arity T≠J.length
  ·rw[if_pos c]at h;simp at h
  rw[if_neg c]at h ⊢;have O:=zJ J (d+1) (n+1) bn;rcases K:dJ J (d+1) (n+1)with ⟨b,m⟩
  rw[K]at h O;cases b with
  |false=>simp at h
  |true =>
   obtain⟨S,M⟩:=O rfl;simp only at M ⊢;refine⟨?_,?_⟩
   ·have:arity T=J.length:=by omega
    simp[zI,this,S]
   ·simp only[bw];omega
def zJ:∀(l:L Ty)(d n:Int),n<=300->(dJ l d n).1=true->vQ l=true/\(dJ l d n).2=n+bg l
 |[],d,n,E,h=>by simp[dJ,vQ,bg]
 |t::l,d,n,E,h=>by
  simp only[dJ]at h ⊢;have O:=BB t d n E;have D:=qp t d n E;rcases K:eF t d n with ⟨b,m⟩
  rw[K]at h O D;cases b with
  |false=>simp at h
  |true =>
   obtain⟨S,M⟩:=O rfl;have Y:=D.2.2 Z;simp only at h M Y ⊢;obtain⟨W,V⟩:=zJ l d m Y h;refine⟨by simp[vQ,S,W],?_⟩;simp only[bg];omega
end
def kT(t:Ty):Prop:=zI t=true/\bw t<=300
def cG{t:Ty}(h:br t=true):kT t:=by
 obtain⟨h1,h2⟩:=BB t 1 0 bn h;have K:=(qp t 1 0 bn).2.2 h;exact⟨h1,bn⟩
def BC:∀{l:L Ty}{x:Ty},vQ l=true->x∈l->zI x=true
 |t::l,x,h,I=>by
  simp only[vQ,aal]at h;rcases List.mem_cons.1 I with rfl|I
  ·exact h.1
  ·exact BC h.2 I
def qz{T:Int}{l:L Ty}(h:kT (.mk T l)):arity T=l.length/\∀x∈l,kT x:=by
 obtain⟨h1,h2⟩:=h;simp only[zI,aal,Z5,bw]at h1 h2;exact⟨h1.1,λx I=>⟨BC h1.2 I,by have:=cA I;omega⟩⟩
def eN{T:Int}{l:L Ty}(h:kT (.mk T l))(W:arity T=1):∃x,l=[x]/\kT x:=by
 obtain⟨h1,h2⟩:=qz h;rcases l with _|⟨x,_|⟨y,l⟩⟩
 ·simp at h1;omega
 ·simp_all
 ·simp at h1;omega
def eD{T:Int}{l:L Ty}(h:kT (.mk T l))(W:arity T=2):∃x y,l=[x,y]/\kT x/\kT y:=by
 obtain⟨h1,h2⟩:=qz h;rcases l with _|⟨x,_|⟨y,_|⟨z,l⟩⟩⟩
 ·simp at h1;omega
 ·simp at h1;omega
 ·grind
 ·simp at h1;omega
def wS{T U:Int}{l:L Ty}(h:kT (.mk T l))(W:arity T=arity U):kT (.mk U l):=by
 obtain⟨h1,h2⟩:=h;simp only[zI,bw,W]at h1 h2;exact⟨by simpa[zI]using h1,by simpa[bw]using h2⟩
def pz(s:L Ty):Prop:=∀t∈s,kT t
def mY{t:Ty}{s:L Ty}(h:pz (t::s)):kT t/\pz s:=⟨h t (by simp),λx I=>h x (by simp[I])⟩
def jX{t:Ty}{s:L Ty}(h1:kT t)(h2:pz s):pz (t::s):=λx I=>by
 rcases List.mem_cons.1 I with rfl|I
 ·exact h1
 ·exact h2 x I
def LY:pz []:=λx I=>by simp at I
def sW{s:L Ty}(h:s.all br=true):pz s:=λt I=>cG (List.all_eq_true.1 h t I)
def jG{n:Nd}(h:(aW n).2=0):br (aW n).1=true:=by
 unfold aW at h ⊢;split at h
 ·grind
 ·simp at h
def cW{P:Int}{J:L Nd}{Y:L Ty}(h:bJ P J=some Y)(V:fG P=[]):J=[]/\Y=[]:=by
 unfold bJ at h;rw[V]at h;split at h
 ·simp at h
 ·rename_i c;rcases J with _|⟨x,l⟩
  ·simp[iB]at h;exact⟨Z,h⟩
  ·simp at c
def Fa{P:Int}{J:L Nd}{Y:L Ty}(h:bJ P J=some Y)(V:fG P=[110]):∃N p S xs,J=[.mk 0 N p S xs]/\0<=N/\N<=40/\Y=[]:=by
 unfold bJ at h;rw[V]at h;split at h
 ·simp at h
 ·rename_i c;rcases J with _|⟨⟨k,N,p,S,xs⟩,_|⟨y,l⟩⟩
  ·simp at c
  ·simp[iB]at h;obtain⟨⟨rfl,h1,h2⟩,K⟩:=h;exact⟨N,p,S,xs,Z,h1,h2,K⟩
  ·simp at c
def uo{P:Int}{J:L Nd}{Y:L Ty}(h:bJ P J=some Y)(V:fG P=[116]):∃x t,J=[x]/\Y=[t]/\kT t:=by
 unfold bJ at h;rw[V]at h;split at h
 ·simp at h
 ·rename_i c;rcases J with _|⟨⟨k,N,p,S,xs⟩,_|⟨y,l⟩⟩
  ·simp at c
  ·simp[iB]at h;exact⟨_,_,Z,h.2.symm,cG (jG h.1)⟩
  ·simp at c
def PD{P:Int}{J:L Nd}{Y:L Ty}(h:bJ P J=some Y)(V:fG P=[116,118]):∃x y t,J=[x,y]/\Y=[t]/\kT t:=by
 unfold bJ at h;rw[V]at h;split at h
 ·simp at h
 ·rename_i c;rcases J with _|⟨⟨k,N,p,S,xs⟩,_|⟨⟨k',U,T,S',W⟩,_|⟨z,l⟩⟩⟩
  ·simp at c
  ·simp at c
  ·simp[iB]at h;exact⟨_,_,_,Z,h.2.symm,cG (jG h.1)⟩
  ·simp at c
def Pa{P:Int}{J:L Nd}{Y:L Ty}(h:bJ P J=some Y)(V:fG P=[116,116]):∃x y t u,J=[x,y]/\Y=[t,u]/\kT t/\kT u:=by
 unfold bJ at h;rw[V]at h;split at h
 ·simp at h
 ·rename_i c;rcases J with _|⟨⟨k,N,p,S,xs⟩,_|⟨⟨k',U,T,S',W⟩,_|⟨z,l⟩⟩⟩
  ·simp at c
  ·simp at c
  ·simp[iB]at h;exact⟨_,_,_,_,Z,h.2.2.symm,cG (jG h.1),cG (jG h.2.1)⟩
  ·simp at c
def E7{P:Int}{J:L Nd}{Y:L Ty}(h:bJ P J=some Y)(V:fG P=[99]):∃N p S xs,J=[.mk 3 N p S xs]/\Y=[]:=by
 unfold bJ at h;rw[V]at h;split at h
 ·simp at h
 ·rename_i c;rcases J with _|⟨⟨k,N,p,S,xs⟩,_|⟨y,l⟩⟩
  ·simp at c
  ·simp[iB]at h;obtain⟨rfl,K⟩:=h;exact⟨N,p,S,xs,Z,K⟩
  ·simp at c
def wR{P:Int}{J:L Nd}{Y:L Ty}(h:bJ P J=some Y)(T:fG P=[99,99]):∃N p S xs V U S' W,J=[.mk 3 N p S xs,.mk 3 V U S' W]/\Y=[]:=by
 unfold bJ at h;rw[T]at h;split at h
 ·simp at h
 ·rename_i c;rcases J with _|⟨⟨k,N,p,S,xs⟩,_|⟨⟨k',V,U,S',W⟩,_|⟨z,l⟩⟩⟩
  ·simp at c
  ·simp at c
  ·simp[iB]at h;obtain⟨rfl,rfl,K⟩:=h;exact⟨N,p,S,xs,V,U,S',W,Z,K⟩
  ·simp at c
def DU{P:Int}{J:L Nd}{Y:L Ty}(h:bJ P J=some Y)(V:fG P=[116,116,99]):∃x y N p S xs t u,J=[x,y,.mk 3 N p S xs]/\Y=[t,u]/\kT t/\kT u:=by
 unfold bJ at h;rw[V]at h;split at h
 ·simp at h
 ·rename_i c;rcases J with _|⟨⟨k,N,p,S,xs⟩,_|⟨⟨k',M,I,S',U⟩,_|⟨⟨A,T,O,Q,W⟩,_|⟨w,l⟩⟩⟩⟩
  ·simp at c
  ·simp at c
  ·simp at c
  ·simp[iB]at h;obtain⟨h1,h2,rfl,K⟩:=h;exact⟨_,_,T,O,Q,W,_,_,Z,K.symm,cG (jG h1),cG (jG h2)⟩
  ·simp at c
def zA(x:Nd)(l:L Nd):aX (x::l)=(λs=>cy (cJ x) (s,false))::aX l:=by
 cases x;simp only[aX,cJ]
def L5(e:Int):pz (aM e).1.1:=λx I=>by simp[aM]at I
def jt:∀(l:L Nd)(o:L Ty×Bool),pz o.1->pz (cy l o).1.1/\(cy l o).1.1.length<=o.1.length+40
 |[],o,h=>by simp only[cy];exact⟨h,bn⟩
 |n::l,o,h=>by
  simp only[cy];split
  ·exact⟨L5 _,by simp[aM]⟩
  ·split
   ·exact⟨L5 _,by simp[aM]⟩
   ·rename_i h1 h2;obtain⟨W,Y,q,A⟩:=qq (r:=fu n o.1) JY;have O:=jt l (ld (fu n o.1)).1;rw[Y]at O ⊢;simp only at O ⊢;refine⟨(O (sW A)).1,?_⟩;have:=Hz l (fu n o.1).1 q;omega
where
 Hz:∀(l:L Nd)(o:L Ty×Bool),o.1.length<=40->(cy l o).1.1.length<=40
 |[],o,h=>by simp only[cy];exact h
 |n::l,o,h=>by
  simp only[cy];split
  ·simp[aM]
  ·split
   ·simp[aM]
   ·rename_i h1 h2;obtain⟨a1,a2,a3,a4⟩:=qq (r:=fu n o.1) JY;rw[a2];exact Hz l _ a3
end Go.cM
namespace Go.Proofs
open Go.cM
attribute [local irreducible] AK ah aZ
def sM(t:Int):aj 102 [.int .i64 t] (.int .i64 (arity t)):=by
 refine qn func102 call102 λβ hf=>?_
 repeat' (first|refine sz ?_|refine zc ?_ ?_|(intro h;first|(cases h;done)|rw[h]|skip))
 all_goals simp_all [arity]
end Go.Proofs
namespace Go.Proofs
open Go.cM
attribute [local irreducible] AK ah aZ
def idxOf{α:Type}(p:α->Bool):List α->Int
 |[] => -1
 |x::l=>if p x then 0 else(match idxOf p l with
  |-1 => -1
  |n=>n+1)
def pI{α:Type}(p:α->Bool):∀(l:List α),(idxOf p l = -1/\∀x∈l,p x=false)\/∃(i:Nat) (x:α),l[i]?=some x/\p x=true/\(∀(j:Nat) y,j<i->l[j]?=some y->p y=false)/\idxOf p l=i
 |[] => .inl ⟨Z,ek⟩
 |x::l=>by
  by_cases I:p x
  ·right;exact⟨0,x,ek,I,ek,by simp[idxOf,I]⟩
  ·rcases pI p l with ⟨h1,h2⟩|⟨i,y,h1,h2,Y,W⟩
   ·left;exact⟨by simp[idxOf,I,h1],by simpa[I]using h2⟩
   ·right;refine⟨i+1,y,Wy,h2,?_,?_⟩
    ·intro j z T K;cases j with
     |zero=>simp at K;subst K;simpa using I
     |succ j=>simp at K;exact Y j z bn K
    ·have:idxOf p (x::l)=(match idxOf p l with | -1 => -1|n=>n+1):=by simp[idxOf,I]
     rw[this,W];split
     ·omega
     ·rfl
def sS{α:Type}(p:α->Bool)(l:List α)(i:Nat)(x:α)(I:l[i]?=some x)(h:p x=true)(A:∀(j:Nat) y,j<i->l[j]?=some y->p y=false):idxOf p l=i:=by
 rcases pI p l with ⟨h1,h2⟩|⟨k,y,h1,h2,K,Y⟩
 ·have:=h2 x (aaA I);rw[h]at this;simp at this
 ·rw[Y];rcases Nat.lt_trichotomy i k with W|rfl|W
  ·have:=K i x W I;rw[h]at this;simp at this
  ·rfl
  ·have:=A k y W h1;rw[h2]at this;simp at this
def vI{α:Type}(p:α->Bool)(l:List α)(h:∀(j:Nat) y,l[j]?=some y->p y=false):idxOf p l = -1:=by
 rcases pI p l with ⟨h1,_⟩|⟨k,y,h1,h2,_⟩
 ·exact h1
 ·have:=h k y h1;rw[h2]at this;simp at this
def yg{α:Type}(p:α->Bool)(l:List α):decide (idxOf p l>=0)=l.any p:=by
 rcases pI p l with ⟨h1,h2⟩|⟨k,y,h1,h2,K,W⟩
 ·rw[h1];symm;simp;intro x I;simpa using h2 x I
 ·rw[W];symm;simp;exact⟨y,aaA h1,h2⟩
set_option maxHeartbeats 1000000 in
def Dm(l:L Ty)(p:Ty->Bool)(f:FuncId)(caps:L CV)(hp:∀x∈l,aj f (er x::caps) (.bool (p x)))(hlen:l.length<=1099511627776) :
  aj 110 [.sl 2 (au l),.sH f caps] (.int .i64 (idxOf p l)):=by
 refine qn func110 call110 λβ hf=>?_;refine AK.JR hX mixed 300 Z ?_;refine AK.eX (α:=Nat) (λi=>i<=l.length/\∀(j:Nat) x,j<i->l[j]?=some x->p x=false) (λi=>l.length-i)
  (λi=>[(8,.c (.int .i64 i)),(7,.c (.int .i64 (au l).length)),(0,.c (.sl 2 (au l))),(1,.c (.sH f caps))]) (λ_=>[]) (λ_=>[]) [] 0
  ⟨bn,by intro j x h;omega⟩ ce trivial trivial Z Z Z ?_
 rintro i ⟨hi,hno⟩ ih
 repeat' (first|refine sz ?_|refine zc ?_ ?_|(intro h;first|(cases h;done)|rw[h]|skip))
 ·have hlt:i<l.length:=by simpa[aR]using h
  obtain⟨⟨T,args⟩,hx⟩:∃x,l[i]?=some x:=⟨l[i],by simp[hlt]⟩
  refine ah.index hX Z Z Z Z Z Z Z Z Z Z i Z (by rw[vR,hx];rfl) Z ?_
  repeat' (first|refine sz ?_|refine zc ?_ ?_|(intro h;first|(cases h;done)|rw[h]|skip)|refine uC Z (hp ⟨T,args⟩ (aaA hx)) ?_)
  ·rw[sS p l i ⟨T,args⟩ hx h hno]
  ·have yu:=h
   have We:=ih (i+1) ⟨bn,λj x hj SI=>by
    by_cases hji:j=i
    ·subst hji;rw[hx]at SI;simp at SI;subst SI;exact yu
    ·exact hno j x bn SI⟩ bn
   refine AK.again We ⟨.inl ?_,.inl Z,.inl Z,.inl Z,trivial⟩ trivial trivial Z Z Z;rw[gF bn bn];rfl
 ·have hge:l.length<=i:=by simpa[aR]using h
  rw[vI p l λj y hy=>hno j y Ug hy]
end Go.Proofs
namespace Go.Proofs
open Go.cM
attribute [local irreducible] AK ah aZ
def mD(l:L Ty)(p:Ty->Bool)(f:FuncId)(A:L CV)(q:∀x∈l,aj f (er x::A) (.bool (p x)))(Y:l.length<=1099511627776) :
  aj 89 [.sl 2 (au l),.sH f A] (.bool (l.any p)):=by
 refine qn func89 call89 λβ hf=>?_
 repeat' (first|refine sz ?_|refine uC Z (Dm l p f A q Y) ?_)
 rw[yg]
def D0(p:Int->Bool):∀(l:L Ty),(!(l.any λx => !rH p x))=nh p l
 |[]=>rfl
 |t::l=>by simp only[nh,<- D0 p l,abZ];cases rH p t<;>simp
set_option maxHeartbeats 1000000 in
def yy(p:Int->Bool)(f:FuncId)(caps:L CV)(hp:∀n:Int,aj f (.int .i64 n::caps) (.bool (p n))) :
  ∀(t:Ty),bw t<=1099511627776->aj 119 [er t,.sH f caps] (.bool (rH p t))
 |.mk T args,ht=>by
  simp only[bw]at ht;have JI:=gV args;have hin:∀x∈args,aj 144 (er x::[.ip [.sH f caps]]) (.bool (!rH p x)):=by
   intro x hx;have Ap:=yy p f caps hp x (by have:=cA hx;omega);obtain⟨T',args'⟩:=x;refine qn func144 call144 λβ hf=>?_
   repeat' (first|refine sz ?_|refine uC Z Ap ?_)
   rfl
  refine qn func119 call119 λβ hf=>?_;refine AK.seq ?_;refine AK.region mixed Z ?_
  repeat' (first|refine so ?_|refine zu ?_ ?_|(intro h;first|(cases h;done)|rw[h]|skip))
  refine AK.freeze 3 Z Z Z Z ?_
  repeat' (first|refine sz ?_|refine zc ?_ ?_|(intro h;first|(cases h;done)|rw[h]|skip)|refine uC Z (hp T) ?_|refine uC Z (mD args (λx => !rH p x) _ _ hin bn) ?_)
  ·simp only[rH,<- D0,h,aaI,abO]
  ·simp only[rH,h,aaH]
termination_by t=>SizeOf.sizeOf t
decreasing_by
 have:=Zp hx;simp at this ⊢;omega
end Go.Proofs
namespace Go.Proofs
open Go.cM
attribute [local irreducible] AK ah aZ
def eG{α:Type}{l:List α}{i:Nat}{x:α}(h:l[i]?=some x):l.drop i=x::l.drop (i+1):=by
 obtain⟨h1,h2⟩:=List.getElem?_eq_some_iff.1 h;rw[aby h1,h2]
def bQ{α:Type}{l:List α}{i:Nat}{x:α}(h:l[i]?=some x):i<l.length:=(List.getElem?_eq_some_iff.1 h).1
def gr{α:Type}(l:List α)(i:Nat)(K:i<=l.length):(∃x,l[i]?=some x/\x∈l)\/i=l.length:=by
 rcases abn i l.length with h|h
 ·exact .inl ⟨l[i],ri,abI h⟩
 ·right;omega
def fB{l:L Ty}{i:Nat}{x:Ty}(h:l[i]?=some x):(au l)[i]?=some (er x):=by rw[vR,h];rfl
def dec_lt{a b:Int}(h:a<b):decide (a<b)=true:=aaw h
def E2{a b:Int}(h:b<=a):decide (a<b)=false:=aax (by omega)
def Bb{l:L Ty}{i:Nat}{x:Ty}(h:l[i]?=some x):decide (((i:Nat):Int)<(((au l).length:Nat):Int))=true:=dec_lt (by have:=bQ h;rw[aR];omega)
def wM{l:L Ty}{i:Nat}(h:i=l.length):decide (((i:Nat):Int)<(((au l).length:Nat):Int))=false:=E2 (by rw[aR];omega)
def HA(n:Int):aj 120 [.int .i64 n] (.bool (wZ n)):=by
 refine qn func120 call120 λβ hf=>?_
 repeat' (first|refine sz ?_|refine zc ?_ ?_|(intro h;first|(cases h;done)|rw[h]|skip)|refine uC Z (sM n) ?_)
 all_goals simp_all [wZ]
def HB(n:Int):aj 148 [.int .i64 n] (.bool (qB n)):=by
 refine qn func148 call148 λβ hf=>?_
 repeat' (first|refine sz ?_|refine zc ?_ ?_|(intro h;first|(cases h;done)|rw[h]|skip))
 all_goals simp_all [qB]
def jU(t:Ty)(I:bw t<=1099511627776):aj 103 [er t] (.bool (fq t)):=by
 have hq:=yy wZ 120 [] HA t I;obtain⟨T,J⟩:=t;refine qn func103 call103 λβ hf=>?_
 repeat' (first|refine sz ?_|refine uC Z hq ?_)
 rfl
def lF(t:Ty)(I:bw t<=1099511627776):aj 123 [er t] (.bool (fO t)):=by
 have hq:=yy qB 148 [] HB t I;obtain⟨T,J⟩:=t;refine qn func123 call123 λβ hf=>?_
 repeat' (first|refine sz ?_|refine uC Z hq ?_)
 rfl
def vT(p:Int->Bool):∀(l:L Ty),(!(l.any λx => !BD p x))=Fq p l
 |[]=>rfl
 |t::l=>by simp only[Fq,<- vT p l,abZ];cases BD p t<;>simp
set_option maxHeartbeats 1000000 in
def qW:∀(t:Ty),bw t<=1099511627776->aj 145 [er t] (.bool (kH t))
 |.mk T args,ht=>by
  simp only[bw]at ht;have JI:=gV args;have hin:∀x∈args,aj 172 (er x::[]) (.bool (!kH x)):=by
   intro x hx;have Ap:=qW x (by have:=cA hx;omega);obtain⟨T',args'⟩:=x;refine qn func172 call172 λβ hf=>?_
   repeat' (first|refine sz ?_|refine uC Z Ap ?_)
   rfl
  have hq:=mD args (λx => !kH x) 172 [] hin bn;refine qn func145 call145 λβ hf=>?_
  repeat' (first|refine sz ?_|refine zc ?_ ?_|(intro h;first|(cases h;done)|rw[h]|skip)|refine uC Z hq ?_)
  all_goals
   have ha:=vT PY args;simp only[kH]at *;simp only[BD,<- ha,PY];simp_all
termination_by t=>SizeOf.sizeOf t
decreasing_by
 have:=Zp hx;simp at this ⊢;omega
set_option maxHeartbeats 1000000 in
def wQ:∀(t:Ty),bw t<=1099511627776->aj 68 [er t] (.bool (iV t))
 |.mk T args,ht=>by
  simp only[bw]at ht;have JI:=gV args;have hin:∀x∈args,aj 90 (er x::[]) (.bool (!iV x)):=by
   intro x hx;have Ap:=wQ x (by have:=cA hx;omega);obtain⟨T',args'⟩:=x;refine qn func90 call90 λβ hf=>?_
   repeat' (first|refine sz ?_|refine uC Z Ap ?_)
   rfl
  have hq:=mD args (λx => !iV x) 90 [] hin bn;refine qn func68 call68 λβ hf=>?_
  repeat' (first|refine sz ?_|refine zc ?_ ?_|(intro h;first|(cases h;done)|rw[h]|skip)|refine uC Z hq ?_)
  all_goals
   have ha:=vT Ke args;simp only[iV]at *;simp only[BD,<- ha,Ke];simp_all
termination_by t=>SizeOf.sizeOf t
decreasing_by
 have:=Zp hx;simp at this ⊢;omega
end Go.Proofs
namespace Go.Proofs
open Go.cM
attribute [local irreducible] AK ah aZ
abbrev jW(q:L Int):L CV:=q.map λn => .int .i64 n
def ints_at{l:L Int}{i:Nat}{x:Int}(h:l[i]?=some x):(jW l)[i]?=some (.int .i64 x):=by simp[jW,h]
def Sa{l:L Int}{i:Nat}{x:Int}(h:l[i]?=some x):decide (((i:Nat):Int)<(((jW l).length:Nat):Int))=true:=dec_lt (by have:=bQ h;simp[jW];omega)
def OZ{l:L Int}{i:Nat}(h:i=l.length):decide (((i:Nat):Int)<(((jW l).length:Nat):Int))=false:=E2 (by simp[jW];omega)
def iS{i:Nat}(h:i<1099511627776):some (AV.c (CV.int .i64 (i64.wrap ((i:Int)+1))))=some (AV.c (CV.int .i64 ((i+1:Nat):Int))):=by
 rw[gF bn bn];rfl
end Go.Proofs
