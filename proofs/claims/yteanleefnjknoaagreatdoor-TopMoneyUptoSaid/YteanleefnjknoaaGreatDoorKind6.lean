/- Package check as plain functions, and their laws. -/
import Derived.Test.YteanleefnjknoaaGreatDoorVPar
import Derived.Test.YteanleefnjknoaaGreatDoorTPure
import Derived.Test.YteanleefnjknoaaGreatDoorCtx
open Go.IntKind
open Go.Proofs.Tryz
set_option linter.defProp false
set_option maxHeartbeats 0
set_option linter.unusedVariables false
set_option linter.unusedSimpArgs false
namespace Go.cK
abbrev CR:=(L Ty×Bool)×Int
def eT(s:L Ty):CR:=((s,false),0)
def aR(e:Int):CR:=(([],false),e)
def gC(p:Int):L UInt8 :=
 if p=41\/p=43\/p=44 then [110]
 else if p=45 then [116,118]
 else if p=50\/p=51\/p=54\/p=56\/p=82\/p=88 then [116]
 else if p=61 then [116,116]
 else if p=52\/p=55\/p=58\/p=64 then [99,99]
 else if p=60\/p=65\/p=68 then [99]
 else if p=66 then [116,116,99]
 else []
def jO:L UInt8->L Nd->L Ty->Option (L Ty)
 |w::ws,.mk kind N P S xs::l,acc =>
  if w=110 then(if kind=0/\0<=N/\N<=40 then jO ws l acc else none)
  else if w=99 then(if kind=3 then jO ws l acc else none)
  else if w=116 then(if(aP (.mk kind N P S xs)).2=0 then jO ws l (acc++[(aP (.mk kind N P S xs)).1])else none)
  else jO ws l acc
 |_,_,acc=>some acc
def bW(p:Int)(J:L Nd):Option (L Ty):=if p<40\/J.length≠(gC p).length then none else jO (gC p) J []
def di(a b:CR):CR :=
 if a.2≠0 then aR a.2 else if b.2≠0 then aR b.2 else if a.1.2=true then(b.1,0)else if b.1.2=true\/gJ a.1.1 b.1.1=true then(a.1,0)else aR 5
mutual
def Ln:Nd->Bool
 |.mk T _ P _ J=>decide (T=2/\P=84)||jN J
def jN:L Nd->Bool
 |[]=>false
 |x::l=>Ln x||jN l
end
def Lq:Nd->Int | .mk _ n _ _ _=>n
def cI:Nd->L Nd | .mk _ _ _ _ l=>l
def gV(P:Int)(J:L Nd)(s:L Ty):CR :=
 if P=40 then(match s with|_::r=>eT r|_=>aR 5)
 else if P=42 then(match s with|a::b::r=>eT (b::a::r)|_=>aR 5)
 else if P=41 then(if 1<=Lq (J.getD 0 uo)/\Lq (J.getD 0 uo)<=s.length/\mH (s.getD (Lq (J.getD 0 uo)-1).toNat kX)=true then eT (s.getD (Lq (J.getD 0 uo)-1).toNat kX::s)else aR 5)
 else if P=43 then(if Lq (J.getD 0 uo)<s.length then eT (s.getD (Lq (J.getD 0 uo)).toNat kX::(s.take (Lq (J.getD 0 uo)).toNat++s.drop ((Lq (J.getD 0 uo)).toNat+1)))else aR 5)
 else if P=44 then(match s with|a::r=>if Lq (J.getD 0 uo)<r.length+1 then eT (r.take (Lq (J.getD 0 uo)).toNat++a::r.drop (Lq (J.getD 0 uo)).toNat)else aR 5|_=>aR 5)
 else aR 5
def aV(codes:L (L Ty->CR))(i:Nat):L Ty->CR:=codes.getD i (λ_=>aR 1)
def aX(P:Int)(codes:L (L Ty->CR))(B s:L Ty):CR :=
 if P=54 then eT (.mk 9 [B.getD 0 kX]::s)
 else if P=56 then eT (.mk 10 [B.getD 0 kX]::s)
 else match s with
  |[]=>aR 5
  |a::r =>
   if P=50 then eT (.mk 12 [a,B.getD 0 kX]::r)
   else if P=51 then eT (.mk 12 [B.getD 0 kX,a]::r)
   else if P=53 then eT (.mk 9 [a]::r)
   else if P=46 then(match r with|b::q=>eT (.mk 11 [a,b]::q)|_=>aR 5)
   else if P=47 then(if bS a=11 then eT (au a++r)else aR 5)
   else if P=48 then(if bS a=11 then eT (aE a 0::r)else aR 5)
   else if P=49 then(if bS a=11 then eT (aE a 1::r)else aR 5)
   else if P=57 then(match r with|b::q=>if bS b=10/\dh a (aE b 0)=true then eT (b::q)else aR 5|_=>aR 5)
   else if P=52 then(if bS a=12 then di (aV codes 0 (aE a 0::r)) (aV codes 1 (aE a 1::r))else aR 5)
   else if P=55 then(if bS a=9 then di (aV codes 0 r) (aV codes 1 (aE a 0::r))else aR 5)
   else if P=58 then(if bS a=10 then di (aV codes 0 (aE a 0::a::r)) (aV codes 1 r)else aR 5)
   else aR 5
def cT(P:Int)(codes:L (L Ty->CR))(B s:L Ty):CR :=
 if P=61 then(if fY (B.getD 0 kX)=true then eT (.mk 13 B::s)else aR 5)
 else if P=59 then(match s with|a::r=>if bS a=6\/bS a=10\/bS a=13 then eT (.mk 4 []::r)else aR 5|_=>aR 5)
 else if P=60 then(match s with|a::r=>if bS a=10\/bS a=13 then di (aV codes 0 ((if bS a=13 then .mk 11 (au a)else aE a 0)::r)) (eT r)else aR 5|_=>aR 5)
 else if P=62 then(match s with|a::b::q=>if bS b=13/\dh a (aE b 0)=true/\mH (aE b 1)=true then eT (.mk 9 [aE b 1]::q)else aR 5|_=>aR 5)
 else if P=63 then(match s with|a::b::c::q=>if bS b=9/\bS c=13/\dh a (aE c 0)=true/\dh (aE b 0) (aE c 1)=true then eT (c::q)else aR 5|_=>aR 5)
 else aR 5
def cM(P:Int)(J:L Nd)(codes:L (L Ty->CR))(B s:L Ty):CR :=
 if P=66 then(if jN (cI (J.getD 2 uo))=true then aR 5
  else if(di (aV codes 2 [B.getD 0 kX]) (eT [B.getD 1 kX])).2≠0 then aR (di (aV codes 2 [B.getD 0 kX]) (eT [B.getD 1 kX])).2 else eT (.mk 14 B::s))
 else if P=64 then(match s with|a::r=>if bS a=2 then di (aV codes 0 r) (aV codes 1 r)else aR 5|_=>aR 5)
 else if P=65 then(match s with|a::r=>if bS a=2 then(if(di (aV codes 0 r) (eT (a::r))).2≠0 then aR (di (aV codes 0 r) (eT (a::r))).2 else eT r)else aR 5|_=>aR 5)
 else if P=67 then(match s with|a::b::q=>if bS b=14/\dh a (aE b 0)=true then eT (aE b 1::q)else aR 5|_=>aR 5)
 else if P=68 then(match s with|a::r=>if(aV codes 0 r).2≠0 then aR (aV codes 0 r).2 else if(aV codes 0 r).1.2=true then aR 1 else eT (a::(aV codes 0 r).1.1)|_=>aR 5)
 else aR 5
def oq(p a b:Int):Int :=
 if a=5/\b=5/\(p=69\/p=70\/p=72)then 5
 else if p=71/\(a=5/\b=4\/a=4/\b=5)then 5
 else if p=72/\a=5/\b=4 then 5
 else if(a=3\/a=4)/\(b=3\/b=4)then(if a=4/\b=4/\p≠70 then 4 else 3)
 else 0
def bX(P:Int)(s:L Ty):CR :=
 if P=93 then(match s with|a::r=>if bS a=3 then eT (.mk 4 []::r)else aR 5|_=>aR 5)
 else if P=94 then(match s with|a::r=>if bS a=3 then eT (.mk 9 [.mk 4 []]::r)else aR 5|_=>aR 5)
 else if P=95 then(match s with|a::r=>if bS a=4 then eT (.mk 3 []::r)else aR 5|_=>aR 5)
 else if P>=93 then aR 5
 else match s with
  |a::b::q =>
   if oq P (bS a) (bS b)=0 then aR 5
   else if P=70/\oq P (bS a) (bS b)=5 then eT (.mk 9 [.mk 5 []]::q)
   else if P≠72 then eT (.mk (oq P (bS a) (bS b)) []::q)
   else eT (.mk 9 [.mk 11 [.mk (if bS a=5/\bS b=5 then 4 else oq P (bS a) (bS b)) [],.mk (if bS a=5 then 5 else 4) []]]::q)
  |_=>aR 5
def cx(P:Int)(B s:L Ty):CR :=
 match s with
 |[]=>aR 5
 |a::r =>
  if P=73 then(match r with|b::q=>if dh a b=true/\fY a=true then eT (.mk 3 []::q)else aR 5|_=>aR 5)
  else if P=74\/P=75\/P=76 then(if bS a=3 then eT (.mk 2 []::r)else aR 5)
  else if P=77 then(if bS a=2 then eT (a::r)else aR 5)
  else if P=78\/P=79 then(match r with|b::q=>if bS a=2/\bS b=2 then eT (b::q)else aR 5|_=>aR 5)
  else if P=80 then(match r with|b::q=>if bS a=6/\bS b=6 then eT (b::q)else aR 5|_=>aR 5)
  else if P=81 then(if gW a=true then eT (.mk 6 []::r)else aR 5)
  else if P=82 then(if bS a=6/\gW (B.getD 0 kX)=true then eT (.mk 9 [B.getD 0 kX]::r)else aR 5)
  else if P=83 then(if gW a=true then(([],true),0)else aR 5)
  else aR 5
def cg(P:Int)(B s:L Ty):CR :=
 if P=89\/P=90 then eT (.mk 7 []::s)
 else if P=91\/P=92 then eT (.mk 5 []::s)
 else match s with
  |[]=>aR 5
  |a::r =>
   if P=84 then(match r with|b::q=>if bS b=4/\fY a=true then eT (.mk 9 [.mk 15 [a]]::q)else aR 5|_=>aR 5)
   else if P=85 then(if bS a=15 then eT (.mk 11 [.mk 7 [],.mk 11 [aE a 0,.mk 4 []]]::a::r)else aR 5)
   else if P=86 then(match r with|b::q=>if bS a=15/\bS b=11/\bS (aE b 0)=4/\bS (aE b 1)=4 then eT (.mk 9 [.mk 11 [a,a]]::q)else aR 5|_=>aR 5)
   else if P=87 then(if bS a=11/\bS (aE a 0)=15/\dh (aE a 0) (aE a 1)=true then eT (.mk 9 [aE a 0]::r)else aR 5)
   else if P=88 then(match r with|b::c::q=>if bS b=5/\bS c=7/\dh a (B.getD 0 kX)=true/\iT a=true then eT (.mk 8 []::q)else aR 5|_=>aR 5)
   else aR 5
def mU(P:Int)(J:L Nd)(codes:L (L Ty->CR))(B s:L Ty):CR :=
 if P<=44 then gV P J s
 else if P=45 then(if(gD (B.getD 0 kX) (J.getD 1 uo)).2=0/\gW (B.getD 0 kX)=true then eT (B.getD 0 kX::s)else aR 5)
 else if P<=58 then aX P codes B s
 else if P<=63 then cT P codes B s
 else if P<=68 then cM P J codes B s
 else if P<=72\/P>=93 then bX P s
 else if P<=83 then cx P B s
 else cg P B s
def mm(r:CR):CR:=if r.2≠0 then aR r.2 else if 40<r.1.1.length then aR 7 else if r.1.1.all bB=true then(r.1,0)else aR 4
mutual
def cE:L Nd->L Ty×Bool->CR
 |[],o=>(o,0)
 |n::l,o=>if o.2=true then aR 1 else if(mm (fD n o.1)).2≠0 then aR (mm (fD n o.1)).2 else cE l (mm (fD n o.1)).1
def fD:Nd->L Ty->CR
 |.mk T N P S J,s =>
  if T=3 then cE J (s,false)
  else if T≠2 then aR 1
  else match bW P J with
   |none=>aR 1
   |some B=>mU P J (bf J) B s
def bf:L Nd->L (L Ty->CR)
 |[]=>[]
 |.mk _ _ _ _ a::l=>(λs=>cE a (s,false))::bf l
end
def jP(n:Nd)(s:L Ty):CR :=
 if dY n≠0 then aR (dY n)
 else match n with
  |.mk T _ _ _ J=>if T≠3 then aR 1 else if 40<s.length then aR 7 else if s.all bB=true then cE J (s,false)else aR 5
def NF(a:CR):Prop:=a.2=0->a.1.2=true->a.1.1=[]
def vz(s:L Ty):NF (eT s):=λ_ h=>by cases h
def mA(e:Int):NF (aR e):=λ_ h=>by cases h
def nK{a b:CR}(ha:NF a)(Q:NF b):NF (di a b):=by
 unfold di;split
 ·exact mA _
 ·split
  ·exact mA _
  ·rename_i h1 h2;simp only[ne_eq,aey]at h1 h2;split
   ·grind
   ·split
    ·grind
    ·exact mA _
def zC{p:Prop}[Decidable p]{a b:CR}(h1:NF a)(h2:NF b):NF (if p then a else b):=by grind
def Pr(P:Int)(codes:L (L Ty->CR))(B s:L Ty)(A:∀i s,NF (aV codes i s)):NF (aX P codes B s):=by
 unfold aX;rcases s with _|⟨a,_|⟨b,_|⟨c,s⟩⟩⟩
 all_goals
  dsimp only
  repeat' (first|exact nK (A _ _) (A _ _)|exact nK (A _ _) (vz _)|refine zC ?_ ?_)
  all_goals first|exact vz _|exact mA _|exact nK (A _ _) (A _ _)
def VX(P:Int)(codes:L (L Ty->CR))(B s:L Ty)(A:∀i s,NF (aV codes i s)):NF (cT P codes B s):=by
 unfold cT;rcases s with _|⟨a,_|⟨b,_|⟨c,s⟩⟩⟩
 all_goals
  dsimp only
  repeat' (first|exact nK (A _ _) (A _ _)|exact nK (A _ _) (vz _)|refine zC ?_ ?_)
  all_goals first|exact vz _|exact mA _|exact nK (A _ _) (vz _)
def Pt(P:Int)(J:L Nd)(codes:L (L Ty->CR))(B s:L Ty)(A:∀i s,NF (aV codes i s)):NF (cM P J codes B s):=by
 unfold cM;rcases s with _|⟨a,_|⟨b,_|⟨c,s⟩⟩⟩
 all_goals
  dsimp only
  repeat' (first|exact nK (A _ _) (A _ _)|exact nK (A _ _) (vz _)|refine zC ?_ ?_)
  all_goals first|exact vz _|exact mA _|exact nK (A _ _) (A _ _)
def YV(P:Int)(J:L Nd)(s:L Ty):NF (gV P J s):=by
 unfold gV;rcases s with _|⟨a,_|⟨b,_|⟨c,s⟩⟩⟩
 all_goals
  dsimp only
  repeat' (refine zC ?_ ?_)
  all_goals first|exact vz _|exact mA _
def Pu(P:Int)(s:L Ty):NF (bX P s):=by
 unfold bX;rcases s with _|⟨a,_|⟨b,_|⟨c,s⟩⟩⟩
 all_goals
  dsimp only
  repeat' (refine zC ?_ ?_)
  all_goals first|exact vz _|exact mA _
def YW(P:Int)(B s:L Ty):NF (cx P B s):=by
 unfold cx;rcases s with _|⟨a,_|⟨b,_|⟨c,s⟩⟩⟩
 all_goals
  dsimp only
  repeat' (refine zC ?_ ?_)
  all_goals first|exact vz _|exact mA _|exact λ_ _=>rfl
def VY(P:Int)(B s:L Ty):NF (cg P B s):=by
 unfold cg;rcases s with _|⟨a,_|⟨b,_|⟨c,s⟩⟩⟩
 all_goals
  dsimp only
  repeat' (refine zC ?_ ?_)
  all_goals first|exact vz _|exact mA _
def VZ(P:Int)(J:L Nd)(codes:L (L Ty->CR))(B s:L Ty)(A:∀i s,NF (aV codes i s)):NF (mU P J codes B s):=by
 unfold mU
 repeat' split
 all_goals first|exact YV _ _ _|exact vz _|exact mA _|exact Pr _ _ _ _ A|exact VX _ _ _ _ A|exact Pt _ _ _ _ _ A|exact Pu _ _|exact YW _ _ _|exact VY _ _ _
def sZ{r:CR}(h:(mm r).2=0):r.2=0/\mm r=(r.1,0)/\r.1.1.length<=40/\r.1.1.all bB=true:=by
 unfold mm at h ⊢;by_cases h1:r.2≠0
 ·rw[if_pos h1]at h;exact absurd h h1
 rw[if_neg h1]at h ⊢;by_cases h2:40<r.1.1.length
 ·rw[if_pos h2]at h;simp[aR]at h
 rw[if_neg h2]at h ⊢;by_cases V:r.1.1.all bB=true
 ·simp_all
 ·rw[if_neg V]at h;simp[aR]at h
mutual
def JX:∀(l:L Nd)(o:L Ty×Bool),(o.2=true->o.1=[])->NF (cE l o)
 |[],o,h=>λ_ h2=>h h2
 |n::l,o,h=>by
  have h1:=YX n;simp only[cE];split
  ·exact mA _
  ·split
   ·exact mA _
   ·rename_i h2 V;simp only[ne_eq,aey]at V;obtain⟨I,W,_⟩:=sZ V;rw[W];exact JX l _ (λhf=>h1 _ I hf)
def YX:∀(n:Nd)(s:L Ty),NF (fD n s)
 |.mk T N P S J,s=>by
  have h1:=JX J (s,false) (λh=>by cases h);have h2:=MF J;simp only[fD];split
  ·exact h1
  ·split
   ·exact mA _
   ·split
    ·exact mA _
    ·exact VZ _ _ _ _ _ h2
def MF:∀(l:L Nd)(i:Nat)(s:L Ty),NF (aV (bf l) i s)
 |[],i,s=>by simp only[bf,aV,ahz];exact mA _
 |.mk k n p q a::l,0,s=>by
  have:=JX a (s,false) (λh=>by cases h);simpa[bf,aV]using this
 |.mk k n p q a::l,i+1,s=>by
  have:=MF l i s;simpa[bf,aV]using this
end
def Ij:∀(l:L Nd)(o:L Ty×Bool),o.1.all bB=true->o.1.length<=40->(cE l o).2=0->(cE l o).1.1.all bB=true/\(cE l o).1.1.length<=40
 |[],o,h1,h2,_=>⟨h1,h2⟩
 |n::l,o,h1,h2,h=>by
  simp only[cE]at h ⊢;by_cases c:o.2=true
  ·rw[if_pos c]at h;simp[aR]at h
  rw[if_neg c]at h ⊢;by_cases H:(mm (fD n o.1)).2≠0
  ·rw[if_pos H]at h;exact absurd h H
  rw[if_neg H]at h ⊢;simp only[ne_eq,aey]at H;obtain⟨I,W,Y,E⟩:=sZ H;rw[W]at h ⊢;exact Ij l _ E Y h
def BC{n:Nd}{s:L Ty}(h:(jP n s).2=0):(jP n s).1.1.all bB=true/\(jP n s).1.1.length<=40/\((jP n s).1.2=true->(jP n s).1.1=[]):=by
 obtain⟨T,N,P,S,J⟩:=n;unfold jP at h ⊢;by_cases u:dY (.mk T N P S J)≠0
 ·rw[if_pos u]at h;exact absurd h u
 rw[if_neg u]at h ⊢;simp only at h ⊢;by_cases H:T≠3
 ·rw[if_pos H]at h;simp[aR]at h
 rw[if_neg H]at h ⊢;by_cases p:40<s.length
 ·rw[if_pos p]at h;simp[aR]at h
 rw[if_neg p]at h ⊢;by_cases c4:s.all bB=true
 ·rw[if_pos c4]at h ⊢;have g:=Ij J (s,false) c4 (by simpa using p) h;exact⟨g.1,g.2,JX J (s,false) (λh=>by cases h) h⟩
 ·rw[if_neg c4]at h;simp[aR]at h
def ndK:Nd->Int | .mk k _ _ _ _=>k
def uz{n:Nd}{s:L Ty}(h:(jP n s).2=0):dY n=0/\ndK n=3/\s.length<=40/\s.all bB=true/\jP n s=cE (cI n) (s,false):=by
 obtain⟨T,N,P,S,J⟩:=n;unfold jP at h ⊢;by_cases u:dY (.mk T N P S J)≠0
 ·rw[if_pos u]at h;exact absurd h u
 rw[if_neg u]at h ⊢;simp only at h ⊢;by_cases H:T≠3
 ·rw[if_pos H]at h;simp[aR]at h
 rw[if_neg H]at h ⊢;by_cases p:40<s.length
 ·rw[if_pos p]at h;simp[aR]at h
 rw[if_neg p]at h ⊢;by_cases c4:s.all bB=true
 ·rw[if_pos c4]at h ⊢;exact⟨by simpa using u,by simpa[ndK]using H,bn,c4,Z⟩
 ·rw[if_neg c4]at h;simp[aR]at h
def YY{n:Nd}{s:L Ty}(h1:dY n=0)(h2:ndK n=3):jP n s=if 40<s.length then aR 7 else if s.all bB=true then cE (cI n) (s,false)else aR 5:=by
 obtain⟨T,N,P,S,J⟩:=n;unfold jP;rw[if_neg acA];simp only[ndK]at h2;simp only[cI];rw[if_neg K0]
def Fr(more:L Ty)(a b:CR):Prop:=a.2=0->b.2=7\/b.2=0/\b.1.2=a.1.2/\(a.1.2=false->b.1.1=a.1.1++more)
mutual
def CS:Ty->Bool
 |.mk T J=>decide (arity T=J.length)&&zD J
def zD:L Ty->Bool
 |[]=>true
 |t::l=>CS t&&zD l
end
mutual
def E8:∀(t:Ty)(d n:Int),n<=300->(fC t d n).1=true->CS t=true/\(fC t d n).2=n+bw t
 |.mk T J,d,n,B,h=>by
  simp only[fC]at h ⊢;by_cases c:d>24\/n+1>300\/arity T≠J.length
  ·rw[if_pos c]at h;simp at h
  rw[if_neg c]at h ⊢;have Y:=CT J (d+1) (n+1) bn;rcases C:ey J (d+1) (n+1)with ⟨b,m⟩
  rw[C]at h Y;cases b with
  |false=>simp at h
  |true =>
   obtain⟨K,U⟩:=Y rfl;simp only at U ⊢;refine⟨?_,?_⟩
   ·have:arity T=J.length:=by omega
    simp[CS,this,K]
   ·simp only[bw];omega
def CT:∀(l:L Ty)(d n:Int),n<=300->(ey l d n).1=true->zD l=true/\(ey l d n).2=n+bz l
 |[],d,n,B,h=>by simp[ey,zD,bz]
 |t::l,d,n,B,h=>by
  simp only[ey]at h ⊢;have Y:=E8 t d n B;have W:=tL t d n B;rcases C:fC t d n with ⟨b,m⟩
  rw[C]at h Y W;cases b with
  |false=>simp at h
  |true =>
   obtain⟨K,U⟩:=Y rfl;have V:=W.2.2 Z;simp only at h U V ⊢;obtain⟨S,Q⟩:=CT l d m V h;refine⟨by simp[zD,K,S],?_⟩;simp only[bz];omega
end
def mV(t:Ty):Prop:=CS t=true/\bw t<=300
def cH{t:Ty}(h:bB t=true):mV t:=by
 obtain⟨h1,h2⟩:=E8 t 1 0 bn h;have V:=(tL t 1 0 bn).2.2 h;exact⟨h1,bn⟩
def E9:∀{l:L Ty}{x:Ty},zD l=true->x∈l->CS x=true
 |t::l,x,h,O=>by
  simp only[zD,aai]at h;rcases List.mem_cons.1 O with rfl|O
  ·exact h.1
  ·exact E9 h.2 O
def tH{T:Int}{l:L Ty}(h:mV (.mk T l)):arity T=l.length/\∀x∈l,mV x:=by
 obtain⟨h1,h2⟩:=h;simp only[CS,aai,aeH,bw]at h1 h2;exact⟨h1.1,λx O=>⟨E9 h1.2 O,by have:=cL O;omega⟩⟩
def fJ{T:Int}{l:L Ty}(h:mV (.mk T l))(ha:arity T=1):∃x,l=[x]/\mV x:=by
 obtain⟨h1,h2⟩:=tH h;rcases l with _|⟨x,_|⟨y,l⟩⟩
 ·simp at h1;omega
 ·simp_all
 ·simp at h1;omega
def fz{T:Int}{l:L Ty}(h:mV (.mk T l))(ha:arity T=2):∃x y,l=[x,y]/\mV x/\mV y:=by
 obtain⟨h1,h2⟩:=tH h;rcases l with _|⟨x,_|⟨y,_|⟨z,l⟩⟩⟩
 ·simp at h1;omega
 ·simp at h1;omega
 ·grind
 ·simp at h1;omega
def Ap{T U:Int}{l:L Ty}(h:mV (.mk T l))(ha:arity T=arity U):mV (.mk U l):=by
 obtain⟨h1,h2⟩:=h;simp only[CS,bw,ha]at h1 h2;exact⟨by simpa[CS]using h1,by simpa[bw]using h2⟩
def rJ(s:L Ty):Prop:=∀t∈s,mV t
def oX{t:Ty}{s:L Ty}(h:rJ (t::s)):mV t/\rJ s:=⟨h t (by simp),λx O=>h x (by simp[O])⟩
def lU{t:Ty}{s:L Ty}(h1:mV t)(h2:rJ s):rJ (t::s):=λx O=>by
 rcases List.mem_cons.1 O with rfl|O
 ·exact h1
 ·exact h2 x O
def Rc:rJ []:=λx O=>by simp at O
def s9{s:L Ty}(h:s.all bB=true):rJ s:=λt I=>cH (List.all_eq_true.1 h t I)
def jo{n:Nd}(h:(aP n).2=0):bB (aP n).1=true:=by
 unfold aP at h ⊢;split at h
 ·grind
 ·simp at h
def dN{P:Int}{J:L Nd}{B:L Ty}(h:bW P J=some B)(Y:gC P=[]):J=[]/\B=[]:=by
 unfold bW at h;rw[Y]at h;split at h
 ·simp at h
 ·rename_i c;rcases J with _|⟨x,l⟩
  ·simp[jO]at h;exact⟨Z,h⟩
  ·simp at c
def Jo{P:Int}{J:L Nd}{B:L Ty}(h:bW P J=some B)(Y:gC P=[110]):∃N p S xs,J=[.mk 0 N p S xs]/\0<=N/\N<=40/\B=[]:=by
 unfold bW at h;rw[Y]at h;split at h
 ·simp at h
 ·rename_i c;rcases J with _|⟨⟨k,N,p,S,xs⟩,_|⟨y,l⟩⟩
  ·simp at c
  ·simp[jO]at h;obtain⟨⟨rfl,h1,h2⟩,V⟩:=h;exact⟨N,p,S,xs,Z,h1,h2,V⟩
  ·simp at c
def xP{P:Int}{J:L Nd}{B:L Ty}(h:bW P J=some B)(Y:gC P=[116]):∃x t,J=[x]/\B=[t]/\mV t:=by
 unfold bW at h;rw[Y]at h;split at h
 ·simp at h
 ·rename_i c;rcases J with _|⟨⟨k,N,p,S,xs⟩,_|⟨y,l⟩⟩
  ·simp at c
  ·simp[jO]at h;exact⟨_,_,Z,h.2.symm,cH (jo h.1)⟩
  ·simp at c
def VK{P:Int}{J:L Nd}{B:L Ty}(h:bW P J=some B)(Y:gC P=[116,118]):∃x y t,J=[x,y]/\B=[t]/\mV t:=by
 unfold bW at h;rw[Y]at h;split at h
 ·simp at h
 ·rename_i c;rcases J with _|⟨⟨k,N,p,S,xs⟩,_|⟨⟨k',V,U,u,W⟩,_|⟨z,l⟩⟩⟩
  ·simp at c
  ·simp at c
  ·simp[jO]at h;exact⟨_,_,_,Z,h.2.symm,cH (jo h.1)⟩
  ·simp at c
def UT{P:Int}{J:L Nd}{B:L Ty}(h:bW P J=some B)(Y:gC P=[116,116]):∃x y t u,J=[x,y]/\B=[t,u]/\mV t/\mV u:=by
 unfold bW at h;rw[Y]at h;split at h
 ·simp at h
 ·rename_i c;rcases J with _|⟨⟨k,N,p,S,xs⟩,_|⟨⟨k',V,U,T,W⟩,_|⟨z,l⟩⟩⟩
  ·simp at c
  ·simp at c
  ·simp[jO]at h;exact⟨_,_,_,_,Z,h.2.2.symm,cH (jo h.1),cH (jo h.2.1)⟩
  ·simp at c
def Jl{P:Int}{J:L Nd}{B:L Ty}(h:bW P J=some B)(Y:gC P=[99]):∃N p S xs,J=[.mk 3 N p S xs]/\B=[]:=by
 unfold bW at h;rw[Y]at h;split at h
 ·simp at h
 ·rename_i c;rcases J with _|⟨⟨k,N,p,S,xs⟩,_|⟨y,l⟩⟩
  ·simp at c
  ·simp[jO]at h;obtain⟨rfl,V⟩:=h;exact⟨N,p,S,xs,Z,V⟩
  ·simp at c
def Ao{P:Int}{J:L Nd}{B:L Ty}(h:bW P J=some B)(G:gC P=[99,99]):∃N p S xs W V u Y,J=[.mk 3 N p S xs,.mk 3 W V u Y]/\B=[]:=by
 unfold bW at h;rw[G]at h;split at h
 ·simp at h
 ·rename_i c;rcases J with _|⟨⟨k,N,p,S,xs⟩,_|⟨⟨k',W,V,u,Y⟩,_|⟨z,l⟩⟩⟩
  ·simp at c
  ·simp at c
  ·simp[jO]at h;obtain⟨rfl,rfl,U⟩:=h;exact⟨N,p,S,xs,W,V,u,Y,Z,U⟩
  ·simp at c
def HI{P:Int}{J:L Nd}{B:L Ty}(h:bW P J=some B)(G:gC P=[116,116,99]):∃x y N p S xs t u,J=[x,y,.mk 3 N p S xs]/\B=[t,u]/\mV t/\mV u:=by
 unfold bW at h;rw[G]at h;split at h
 ·simp at h
 ·rename_i c;rcases J with _|⟨⟨k,N,p,S,xs⟩,_|⟨⟨k',Q,O,M,W⟩,_|⟨⟨A,V,D,U,Y⟩,_|⟨w,l⟩⟩⟩⟩
  ·simp at c
  ·simp at c
  ·simp at c
  ·simp[jO]at h;obtain⟨h1,h2,rfl,T⟩:=h;exact⟨_,_,V,D,U,Y,_,_,Z,T.symm,cH (jo h1),cH (jo h2)⟩
  ·simp at c
def CA(x:Nd)(l:L Nd):bf (x::l)=(λs=>cE (cI x) (s,false))::bf l:=by
 cases x;simp only[bf,cI]
def RE(e:Int):rJ (aR e).1.1:=λx O=>by simp[aR]at O
def kY:∀(l:L Nd)(o:L Ty×Bool),rJ o.1->rJ (cE l o).1.1/\(cE l o).1.1.length<=o.1.length+40
 |[],o,h=>by simp only[cE];exact⟨h,bn⟩
 |n::l,o,h=>by
  simp only[cE];split
  ·exact⟨RE _,by simp[aR]⟩
  ·split
   ·exact⟨RE _,by simp[aR]⟩
   ·rename_i h1 h2;obtain⟨U,a2,D,P⟩:=sZ (r:=fD n o.1) K0;have Y:=kY l (mm (fD n o.1)).1;rw[a2]at Y ⊢;simp only at Y ⊢;refine⟨(Y (s9 P)).1,?_⟩;have:=MG l (fD n o.1).1 D;omega
where
 MG:∀(l:L Nd)(o:L Ty×Bool),o.1.length<=40->(cE l o).1.1.length<=40
 |[],o,h=>by simp only[cE];exact h
 |n::l,o,h=>by
  simp only[cE];split
  ·simp[aR]
  ·split
   ·simp[aR]
   ·rename_i h1 h2;obtain⟨a1,a2,a3,a4⟩:=sZ (r:=fD n o.1) K0;rw[a2];exact MG l _ a3
end Go.cK
namespace Go.Proofs
open Go.cK
attribute [local irreducible] AK af bg
def vP(t:Int):ah 46 [.int .i64 t] (.int .i64 (arity t)):=by
 refine qn func46 call46 λβ hf=>?_
 repeat' (first|refine sz ?_|refine zc ?_ ?_|(intro h;first|(cases h;done)|rw[h]|skip))
 all_goals simp_all [arity]
end Go.Proofs
namespace Go.Proofs
open Go.cK
attribute [local irreducible] AK af bg
def idxOf{α:Type}(p:α->Bool):List α->Int
 |[] => -1
 |x::l=>if p x then 0 else(match idxOf p l with
  |-1 => -1
  |n=>n+1)
def rZ{α:Type}(p:α->Bool):∀(l:List α),(idxOf p l = -1/\∀x∈l,p x=false)\/∃(i:Nat) (x:α),l[i]?=some x/\p x=true/\(∀(j:Nat) y,j<i->l[j]?=some y->p y=false)/\idxOf p l=i
 |[] => .inl ⟨Z,cS⟩
 |x::l=>by
  by_cases O:p x
  ·right;exact⟨0,x,cS,O,cS,by simp[idxOf,O]⟩
  ·rcases rZ p l with ⟨h1,h2⟩|⟨i,y,h1,h2,V,S⟩
   ·left;exact⟨by simp[idxOf,O,h1],by simpa[O]using h2⟩
   ·right;refine⟨i+1,y,acA,h2,?_,?_⟩
    ·intro j z Y D;cases j with
     |zero=>simp at D;subst D;simpa using O
     |succ j=>simp at D;exact V j z bn D
    ·have:idxOf p (x::l)=(match idxOf p l with | -1 => -1|n=>n+1):=by simp[idxOf,O]
     rw[this,S];split
     ·omega
     ·rfl
def vW{α:Type}(p:α->Bool)(l:List α)(i:Nat)(x:α)(O:l[i]?=some x)(h:p x=true)(Q:∀(j:Nat) y,j<i->l[j]?=some y->p y=false):idxOf p l=i:=by
 rcases rZ p l with ⟨h1,h2⟩|⟨k,y,h1,h2,V,S⟩
 ·have:=h2 x (aaB O);rw[h]at this;simp at this
 ·rw[S];rcases Nat.lt_trichotomy i k with K|rfl|K
  ·have:=V i x K O;rw[h]at this;simp at this
  ·rfl
  ·have:=Q k y K h1;rw[h2]at this;simp at this
def zf{α:Type}(p:α->Bool)(l:List α)(h:∀(j:Nat) y,l[j]?=some y->p y=false):idxOf p l = -1:=by
 rcases rZ p l with ⟨h1,_⟩|⟨k,y,h1,h2,_⟩
 ·exact h1
 ·have:=h k y h1;rw[h2]at this;simp at this
def Bw{α:Type}(p:α->Bool)(l:List α):decide (idxOf p l>=0)=l.any p:=by
 rcases rZ p l with ⟨h1,h2⟩|⟨k,y,h1,h2,V,S⟩
 ·rw[h1];symm;simp;intro x O;simpa using h2 x O
 ·rw[S];symm;simp;exact⟨y,aaB h1,h2⟩
set_option maxHeartbeats 1000000 in
def G9(l:L Ty)(p:Ty->Bool)(f:FuncId)(caps:L CV)(hp:∀x∈l,ah f (dg x::caps) (.bool (p x)))(hlen:l.length<=1099511627776) :
  ah 139 [.sl 2 (aA l),.rR f caps] (.int .i64 (idxOf p l)):=by
 refine qn func139 call139 λβ hf=>?_;refine AK.OO hX mixed 300 Z ?_;refine AK.eL (α:=Nat) (λi=>i<=l.length/\∀(j:Nat) x,j<i->l[j]?=some x->p x=false) (λi=>l.length-i)
  (λi=>[(8,.c (.int .i64 i)),(7,.c (.int .i64 (aA l).length)),(0,.c (.sl 2 (aA l))),(1,.c (.rR f caps))]) (λ_=>[]) (λ_=>[]) [] 0
  ⟨bn,by intro j x h;omega⟩ ce trivial trivial Z Z Z ?_
 rintro i ⟨hi,hno⟩ ih
 repeat' (first|refine sz ?_|refine zc ?_ ?_|(intro h;first|(cases h;done)|rw[h]|skip))
 ·have hlt:i<l.length:=by simpa[aZ]using h
  obtain⟨⟨T,args⟩,hx⟩:∃x,l[i]?=some x:=⟨l[i],by simp[hlt]⟩
  refine af.index hX Z Z Z Z Z Z Z Z Z Z i Z (by rw[zE,hx];rfl) Z ?_
  repeat' (first|refine sz ?_|refine zc ?_ ?_|(intro h;first|(cases h;done)|rw[h]|skip)|refine uC Z (hp ⟨T,args⟩ (aaB hx)) ?_)
  ·rw[vW p l i ⟨T,args⟩ hx h hno]
  ·have BA:=h
   have yF:=ih (i+1) ⟨bn,λj x hj YZ=>by
    by_cases hji:j=i
    ·subst hji;rw[hx]at YZ;simp at YZ;subst YZ;exact BA
    ·exact hno j x bn YZ⟩ bn
   refine AK.again yF ⟨.inl ?_,.inl Z,.inl Z,.inl Z,trivial⟩ trivial trivial Z Z Z;rw[iy bn bn];rfl
 ·have hge:l.length<=i:=by simpa[aZ]using h
  rw[zf p l λj y hy=>hno j y abS hy]
end Go.Proofs
namespace Go.Proofs
open Go.cK
attribute [local irreducible] AK af bg
def oE(l:L Ty)(p:Ty->Bool)(f:FuncId)(W:L CV)(Y:∀x∈l,ah f (dg x::W) (.bool (p x)))(K:l.length<=1099511627776) :
  ah 103 [.sl 2 (aA l),.rR f W] (.bool (l.any p)):=by
 refine qn func103 call103 λβ hf=>?_
 repeat' (first|refine sz ?_|refine uC Z (G9 l p f W Y K) ?_)
 rw[Bw]
def Ik(p:Int->Bool):∀(l:L Ty),(!(l.any λx => !uO p x))=pg p l
 |[]=>rfl
 |t::l=>by simp only[pg,<- Ik p l,agR];cases uO p t<;>simp
set_option maxHeartbeats 1000000 in
def BT(p:Int->Bool)(f:FuncId)(caps:L CV)(hp:∀n:Int,ah f (.int .i64 n::caps) (.bool (p n))) :
  ∀(t:Ty),bw t<=1099511627776->ah 64 [dg t,.rR f caps] (.bool (uO p t))
 |.mk T args,ht=>by
  simp only[bw]at ht;have Lb:=j9 args;have hin:∀x∈args,ah 104 (dg x::[.ip [.rR f caps]]) (.bool (!uO p x)):=by
   intro x hx;have Dq:=BT p f caps hp x (by have:=cL hx;omega);obtain⟨T',args'⟩:=x;refine qn func104 call104 λβ hf=>?_
   repeat' (first|refine sz ?_|refine uC Z Dq ?_)
   rfl
  refine qn func64 call64 λβ hf=>?_;refine AK.seq ?_;refine AK.region mixed Z ?_
  repeat' (first|refine so ?_|refine zu ?_ ?_|(intro h;first|(cases h;done)|rw[h]|skip))
  refine AK.freeze 3 Z Z Z Z ?_
  repeat' (first|refine sz ?_|refine zc ?_ ?_|(intro h;first|(cases h;done)|rw[h]|skip)|refine uC Z (hp T) ?_|refine uC Z (oE args (λx => !uO p x) _ _ hin bn) ?_)
  ·simp only[uO,<- Ik,h,aeR,agB]
  ·simp only[uO,h,aez]
termination_by t=>SizeOf.sizeOf t
decreasing_by
 have:=aee hx;simp at this ⊢;omega
end Go.Proofs
namespace Go.Proofs
open Go.cK
attribute [local irreducible] AK af bg
def dZ{α:Type}{l:List α}{i:Nat}{x:α}(h:l[i]?=some x):l.drop i=x::l.drop (i+1):=by
 obtain⟨h1,h2⟩:=List.getElem?_eq_some_iff.1 h;rw[agd h1,h2]
def bD{α:Type}{l:List α}{i:Nat}{x:α}(h:l[i]?=some x):i<l.length:=(List.getElem?_eq_some_iff.1 h).1
def iq{α:Type}(l:List α)(i:Nat)(K:i<=l.length):(∃x,l[i]?=some x/\x∈l)\/i=l.length:=by
 rcases afN i l.length with h|h
 ·exact .inl ⟨l[i],p8,ags h⟩
 ·right;omega
def gA{l:L Ty}{i:Nat}{x:Ty}(h:l[i]?=some x):(aA l)[i]?=some (dg x):=by rw[zE,h];rfl
def dec_lt{a b:Int}(h:a<b):decide (a<b)=true:=aak h
def Jf{a b:Int}(h:b<=a):decide (a<b)=false:=aap (by omega)
def Jg{l:L Ty}{i:Nat}{x:Ty}(h:l[i]?=some x):decide (((i:Nat):Int)<(((aA l).length:Nat):Int))=true:=dec_lt (by have:=bD h;rw[aZ];omega)
def DL{l:L Ty}{i:Nat}(h:i=l.length):decide (((i:Nat):Int)<(((aA l).length:Nat):Int))=false:=Jf (by rw[aZ];omega)
def MH(n:Int):ah 65 [.int .i64 n] (.bool (AM n)):=by
 refine qn func65 call65 λβ hf=>?_
 repeat' (first|refine sz ?_|refine zc ?_ ?_|(intro h;first|(cases h;done)|rw[h]|skip)|refine uC Z (vP n) ?_)
 all_goals simp_all [AM]
def MI(n:Int):ah 110 [.int .i64 n] (.bool (tM n)):=by
 refine qn func110 call110 λβ hf=>?_
 repeat' (first|refine sz ?_|refine zc ?_ ?_|(intro h;first|(cases h;done)|rw[h]|skip))
 all_goals simp_all [tM]
def lT(t:Ty)(I:bw t<=1099511627776):ah 47 [dg t] (.bool (fY t)):=by
 have hq:=BT AM 65 [] MH t I;obtain⟨T,J⟩:=t;refine qn func47 call47 λβ hf=>?_
 repeat' (first|refine sz ?_|refine uC Z hq ?_)
 rfl
def nC(t:Ty)(I:bw t<=1099511627776):ah 70 [dg t] (.bool (gW t)):=by
 have hq:=BT tM 110 [] MI t I;obtain⟨T,J⟩:=t;refine qn func70 call70 λβ hf=>?_
 repeat' (first|refine sz ?_|refine uC Z hq ?_)
 rfl
def zF(p:Int->Bool):∀(l:L Ty),(!(l.any λx => !CG p x))=ET p l
 |[]=>rfl
 |t::l=>by simp only[ET,<- zF p l,agR];cases CG p t<;>simp
set_option maxHeartbeats 1000000 in
def uq:∀(t:Ty),bw t<=1099511627776->ah 106 [dg t] (.bool (mH t))
 |.mk T args,ht=>by
  simp only[bw]at ht;have Lb:=j9 args;have hin:∀x∈args,ah 140 (dg x::[]) (.bool (!mH x)):=by
   intro x hx;have Dq:=uq x (by have:=cL hx;omega);obtain⟨T',args'⟩:=x;refine qn func140 call140 λβ hf=>?_
   repeat' (first|refine sz ?_|refine uC Z Dq ?_)
   rfl
  have hq:=oE args (λx => !mH x) 140 [] hin bn;refine qn func106 call106 λβ hf=>?_
  repeat' (first|refine sz ?_|refine zc ?_ ?_|(intro h;first|(cases h;done)|rw[h]|skip)|refine uC Z hq ?_)
  all_goals
   have ha:=zF V0 args;simp only[mH]at *;simp only[CG,<- ha,V0];simp_all
termination_by t=>SizeOf.sizeOf t
decreasing_by
 have:=aee hx;simp at this ⊢;omega
set_option maxHeartbeats 1000000 in
def qa:∀(t:Ty),bw t<=1099511627776->ah 99 [dg t] (.bool (iT t))
 |.mk T args,ht=>by
  simp only[bw]at ht;have Lb:=j9 args;have hin:∀x∈args,ah 138 (dg x::[]) (.bool (!iT x)):=by
   intro x hx;have Dq:=qa x (by have:=cL hx;omega);obtain⟨T',args'⟩:=x;refine qn func138 call138 λβ hf=>?_
   repeat' (first|refine sz ?_|refine uC Z Dq ?_)
   rfl
  have hq:=oE args (λx => !iT x) 138 [] hin bn;refine qn func99 call99 λβ hf=>?_
  repeat' (first|refine sz ?_|refine zc ?_ ?_|(intro h;first|(cases h;done)|rw[h]|skip)|refine uC Z hq ?_)
  all_goals
   have ha:=zF JJ args;simp only[iT]at *;simp only[CG,<- ha,JJ];simp_all
termination_by t=>SizeOf.sizeOf t
decreasing_by
 have:=aee hx;simp at this ⊢;omega
end Go.Proofs
namespace Go.Proofs
open Go.cK
attribute [local irreducible] AK af bg
abbrev eJ(q:L Int):L CV:=q.map λn => .int .i64 n
def ints_at{l:L Int}{i:Nat}{x:Int}(h:l[i]?=some x):(eJ l)[i]?=some (.int .i64 x):=by simp[eJ,h]
def X2{l:L Int}{i:Nat}{x:Int}(h:l[i]?=some x):decide (((i:Nat):Int)<(((eJ l).length:Nat):Int))=true:=dec_lt (by have:=bD h;simp[eJ];omega)
def UH{l:L Int}{i:Nat}(h:i=l.length):decide (((i:Nat):Int)<(((eJ l).length:Nat):Int))=false:=Jf (by simp[eJ];omega)
def gB{i:Nat}(h:i<1099511627776):some (AV.c (CV.int .i64 (i64.wrap ((i:Int)+1))))=some (AV.c (CV.int .i64 ((i+1:Nat):Int))):=by
 rw[iy bn bn];rfl
end Go.Proofs
namespace Go.Proofs
open Go.cK
def Fa{J:L Ty}{x:Ty}(h:J[0]?=some x):lD J=fY x:=by
 cases J with
 |nil=>simp at h
 |cons y l=>simp at h;subst h;rfl
def V1(T:Int)(J:L Ty)(d n:Int)(D:¬(d>24\/n+1>300\/arity T≠J.length)) :
  fC (.mk T J) d n=((ey J (d+1) (n+1)).1&&(if T=13\/T=15 then lD J else true),(ey J (d+1) (n+1)).2):=by
 simp only[fC,if_neg D];rcases ey J (d+1) (n+1)with ⟨b,m⟩
 cases b<;>rfl
def Pv(d m:Int):ey [] d m=(true,m):=rfl
def MJ(T:Int)(J:L Ty)(d n:Int)(D:d>24\/n+1>300\/arity T≠J.length):fC (.mk T J) d n=(false,n+1):=by
 simp only[fC,if_pos D]
def MK(t:Ty)(l:L Ty)(d n:Int):ey (t::l) d n=if(fC t d n).1 then ey l d (fC t d n).2 else(false,(fC t d n).2):=by
 simp only[ey];rcases fC t d n with ⟨b,m⟩
 cases b<;>rfl
attribute [local irreducible] AK af bg cn fC ey lD fY
def um:∀(t:Ty)(d n:Int),bw t<=8589934593->0<=d->d<=1099511627776-bw t->0<=n->n<=300 ->
  gT 34 [.v (.c (dg t)),.v (.c (.int .i64 d)),.box [.c (.int .i64 n)]] [.c (.bool (fC t d n).1)] [(2,[.c (.int .i64 (fC t d n).2)])]
 |.mk T J=>by
  intro d n u OL q p hn;simp only[bw]at u q;have Lb:=j9 J;have V:∀x∈J,∀m:Int,0<=m->m<=300->gT 34 [.v (.c (dg x)),.v (.c (.int .i64 (i64.wrap (d+1)))),.box [.c (.int .i64 m)]] [.c (.bool (fC x (d+1) m).1)] [(2,[.c (.int .i64 (fC x (d+1) m).2)])]:=by
   intro x O m h0 h1;have:=cL O;rw[iy bn bn];exact um x (d+1) m bn bn bn h0 h1
  have I:i64.wrap (n+1)=n+1:=iy bn bn;refine en func34 call34 [(0,.c (dg (.mk T J))),(1,.c (.int .i64 d)),(2,.ptr 1002000 0)] [(1002000,[.c (.int .i64 n)])] [] [1002000] λβ hf=>?_
  repeat' (first|refine pJ ?_|refine ze ?_ ?_|(intro h;first|(cases h;done)|rw[h]|skip)|refine uC Z (vP T) ?_)
  rotate_left 6
  ·refine AK.eL (α:=Nat×Int) (λz=>z.1<=J.length/\ey J (d+1) (n+1)=ey (J.drop z.1) (d+1) z.2/\0<=z.2/\z.2<=300) (λz=>J.length-z.1)
    (λz=>[(34,.c (.int .i64 z.1)),(33,.c (.int .i64 (aA J).length)),(32,.c (.sl 2 (aA J))),(1,.c (.int .i64 d)),(2,.ptr 1002000 0),(3,.ptr 3 0)])
    (λz=>[(3,[.c (.int .i64 T),.c (.sl 2 (aA J))]),(1002000,[.c (.int .i64 z.2)])]) (λ_=>[]) [3,1002000] (0,n+1)
    ⟨bn,Z,bn,?_⟩ ce ⟨Z,aeb (λk=>some [AV.c (CV.int .i64 k)]) I,trivial⟩ trivial Z Z Z ?_
   ·simp_all
   rintro⟨i,m⟩ ⟨D,N,Q,M⟩ ih;simp only at D N Q M;have C:¬(d>24\/n+1>300\/arity T≠J.length):=by
    rename_i g1 g2;simp only[agm,I,afQ,bne_eq_false_iff_eq,aZ]at g1 g2 h;rintro(K|K|K)
    ·omega
    ·omega
    ·exact K h
   have Y:=V1 T J d n C;rcases iq J i D with ⟨x,O,P⟩|B
   ·have hc:=Jg O;have hq:=V x P m Q M;have G:=tL x (d+1) m M;rw[dZ O]at N;rw[MK]at N;obtain⟨U,us⟩:=x
    repeat' (first|refine pJ ?_|refine ze ?_ ?_|(intro h;first|(cases h;done)|rw[h]|skip)|refine uI Z (i) Z (gA O) Z ?_|refine mP ?_ (hq:=hq))
    ·have hf:(fC (.mk U us) (d+1) m).1=false:=by simpa using h
     rw[hf]at N;rw[Y,N];rfl
    ·have hf:(fC (.mk U us) (d+1) m).1=false:=by simpa using h
     rw[hf]at N;rw[Y,N];rfl
    ·have hf:(fC (.mk U us) (d+1) m).1=true:=by simpa using h
     rw[hf]at N;refine AK.again (ih (i+1,(fC (.mk U us) (d+1) m).2) ⟨bD O,N,bn,G.2.2 hf⟩ abJ)
      ⟨.inl (gB rP),.inl Z,.inl Z,.inl Z,.inl Z,.inl Z,trivial⟩ ⟨Z,Z,trivial⟩ trivial Z Z Z
   ·have hc:=DL B;have hG:ey J (d+1) (n+1)=(true,m):=by rw[N,B,aex,Pv]
    rw[hG]at Y;by_cases W:T=13\/T=15
    ·obtain⟨A,S⟩:∃x,J[0]?=some x:=by
      have h1:arity T>=1:=by rcases W with rfl|rfl<;>decide
      have h2:0<J.length:=by simp only[not_or,ne_eq,aey]at C;omega
      exact⟨J[0],by simp[h2]⟩
     have E:=lT A (by have:=cL (aaB S);omega);rw[if_pos W,Fa S]at Y;clear ih V;obtain⟨U,us⟩:=A
     repeat' (first|refine pJ ?_|refine ze ?_ ?_|(intro h;first|(cases h;done)|rw[h]|skip)|refine uI Z (0) Z (gA S) Z ?_|refine uC Z E ?_)
     all_goals first
      |(show(_:L LV)=_;rw[Y];first|rfl|(simp;done)|(exfalso;simp_all;done))
      |(show(_:L (Nat×L LV))=_;rw[Y];done)
      |(show(_:L (Nat×L LV))=_;rw[Y];rfl)
      |(exfalso;clear hf Y N;simp_all;done)
    ·rw[if_neg W]at Y;clear ih V
     repeat' (first|refine pJ ?_|refine ze ?_ ?_|(intro h;first|(cases h;done)|rw[h]|skip))
     all_goals first
      |(show(_:L LV)=_;rw[Y];first|rfl|(simp;done)|(exfalso;simp_all;done))
      |(show(_:L (Nat×L LV))=_;rw[Y];done)
      |(show(_:L (Nat×L LV))=_;rw[Y];rfl)
      |(exfalso;clear hf Y N;simp_all;done)
  all_goals
   have H:d>24\/n+1>300\/arity T≠J.length:=by
    clear V hf
    first
    |(left;simp_all;done)
    |(right;left;simp_all;done)
    |(right;right;simp_all [aZ];done)
   first
   |(show(_:L LV)=_;rw[MJ T J d n H])
   |(show(_:L (Nat×L LV))=_;rw[MJ T J d n H,I])
termination_by t=>SizeOf.sizeOf t
decreasing_by
 have:=aee O;simp at this ⊢;omega
end Go.Proofs
