/- Package check as plain functions, and their laws. -/
import Derived.Test.YtdnpapgijbhofaaGreatDoorVPar
import Derived.Test.YtdnpapgijbhofaaGreatDoorTPure
import Derived.Test.YtdnpapgijbhofaaGreatDoorCtx
open Go.IntKind
open Go.Proofs.Tryz
set_option linter.defProp false
set_option maxHeartbeats 0
set_option linter.unusedVariables false
set_option linter.unusedSimpArgs false
namespace Go.cw
abbrev CR:=(L Ty×Bool)×Int
def gy(s:L Ty):CR:=((s,false),0)
def bw(e:Int):CR:=(([],false),e)
def gH(p:Int):L UInt8 :=
 if p=41\/p=43\/p=44 then [110]
 else if p=45 then [116,118]
 else if p=50\/p=51\/p=54\/p=56\/p=82\/p=88 then [116]
 else if p=61 then [116,116]
 else if p=52\/p=55\/p=58\/p=64 then [99,99]
 else if p=60\/p=65\/p=68 then [99]
 else if p=66 then [116,116,99]
 else []
def ku:L UInt8->L Nd->L Ty->Option (L Ty)
 |w::ws,.mk kind N P S xs::l,acc =>
  if w=110 then(if kind=0/\0<=N/\N<=40 then ku ws l acc else none)
  else if w=99 then(if kind=3 then ku ws l acc else none)
  else if w=116 then(if(aJ (.mk kind N P S xs)).2=0 then ku ws l (acc++[(aJ (.mk kind N P S xs)).1])else none)
  else ku ws l acc
 |_,_,acc=>some acc
def bP(p:Int)(M:L Nd):Option (L Ty):=if p<40\/M.length≠(gH p).length then none else ku (gH p) M []
def cZ(a b:CR):CR :=
 if a.2≠0 then bw a.2 else if b.2≠0 then bw b.2 else if a.1.2=true then(b.1,0)else if b.1.2=true\/gP a.1.1 b.1.1=true then(a.1,0)else bw 5
mutual
def MO:Nd->Bool
 |.mk Y _ P _ M=>decide (Y=2/\P=84)||j8 M
def j8:L Nd->Bool
 |[]=>false
 |x::l=>MO x||j8 l
end
def MS:Nd->Int | .mk _ n _ _ _=>n
def cG:Nd->L Nd | .mk _ _ _ _ l=>l
def iD(P:Int)(M:L Nd)(s:L Ty):CR :=
 if P=40 then(match s with|_::r=>gy r|_=>bw 5)
 else if P=42 then(match s with|a::b::r=>gy (b::a::r)|_=>bw 5)
 else if P=41 then(if 1<=MS (M.getD 0 vw)/\MS (M.getD 0 vw)<=s.length/\ni (s.getD (MS (M.getD 0 vw)-1).toNat lJ)=true then gy (s.getD (MS (M.getD 0 vw)-1).toNat lJ::s)else bw 5)
 else if P=43 then(if MS (M.getD 0 vw)<s.length then gy (s.getD (MS (M.getD 0 vw)).toNat lJ::(s.take (MS (M.getD 0 vw)).toNat++s.drop ((MS (M.getD 0 vw)).toNat+1)))else bw 5)
 else if P=44 then(match s with|a::r=>if MS (M.getD 0 vw)<r.length+1 then gy (r.take (MS (M.getD 0 vw)).toNat++a::r.drop (MS (M.getD 0 vw)).toNat)else bw 5|_=>bw 5)
 else bw 5
def dM(codes:L (L Ty->CR))(i:Nat):L Ty->CR:=codes.getD i (λ_=>bw 1)
def dU(P:Int)(codes:L (L Ty->CR))(V s:L Ty):CR :=
 if P=54 then gy (.mk 9 [V.getD 0 lJ]::s)
 else if P=56 then gy (.mk 10 [V.getD 0 lJ]::s)
 else match s with
  |[]=>bw 5
  |a::r =>
   if P=50 then gy (.mk 12 [a,V.getD 0 lJ]::r)
   else if P=51 then gy (.mk 12 [V.getD 0 lJ,a]::r)
   else if P=53 then gy (.mk 9 [a]::r)
   else if P=46 then(match r with|b::q=>gy (.mk 11 [a,b]::q)|_=>bw 5)
   else if P=47 then(if dD a=11 then gy (aV a++r)else bw 5)
   else if P=48 then(if dD a=11 then gy (aU a 0::r)else bw 5)
   else if P=49 then(if dD a=11 then gy (aU a 1::r)else bw 5)
   else if P=57 then(match r with|b::q=>if dD b=10/\cV a (aU b 0)=true then gy (b::q)else bw 5|_=>bw 5)
   else if P=52 then(if dD a=12 then cZ (dM codes 0 (aU a 0::r)) (dM codes 1 (aU a 1::r))else bw 5)
   else if P=55 then(if dD a=9 then cZ (dM codes 0 r) (dM codes 1 (aU a 0::r))else bw 5)
   else if P=58 then(if dD a=10 then cZ (dM codes 0 (aU a 0::a::r)) (dM codes 1 r)else bw 5)
   else bw 5
def iW(P:Int)(codes:L (L Ty->CR))(V s:L Ty):CR :=
 if P=61 then(if gl (V.getD 0 lJ)=true then gy (.mk 13 V::s)else bw 5)
 else if P=59 then(match s with|a::r=>if dD a=6\/dD a=10\/dD a=13 then gy (.mk 4 []::r)else bw 5|_=>bw 5)
 else if P=60 then(match s with|a::r=>if dD a=10\/dD a=13 then cZ (dM codes 0 ((if dD a=13 then .mk 11 (aV a)else aU a 0)::r)) (gy r)else bw 5|_=>bw 5)
 else if P=62 then(match s with|a::b::q=>if dD b=13/\cV a (aU b 0)=true/\ni (aU b 1)=true then gy (.mk 9 [aU b 1]::q)else bw 5|_=>bw 5)
 else if P=63 then(match s with|a::b::c::q=>if dD b=9/\dD c=13/\cV a (aU c 0)=true/\cV (aU b 0) (aU c 1)=true then gy (c::q)else bw 5|_=>bw 5)
 else bw 5
def eP(P:Int)(M:L Nd)(codes:L (L Ty->CR))(V s:L Ty):CR :=
 if P=66 then(if j8 (cG (M.getD 2 vw))=true then bw 5
  else if(cZ (dM codes 2 [V.getD 0 lJ]) (gy [V.getD 1 lJ])).2≠0 then bw (cZ (dM codes 2 [V.getD 0 lJ]) (gy [V.getD 1 lJ])).2 else gy (.mk 14 V::s))
 else if P=64 then(match s with|a::r=>if dD a=2 then cZ (dM codes 0 r) (dM codes 1 r)else bw 5|_=>bw 5)
 else if P=65 then(match s with|a::r=>if dD a=2 then(if(cZ (dM codes 0 r) (gy (a::r))).2≠0 then bw (cZ (dM codes 0 r) (gy (a::r))).2 else gy r)else bw 5|_=>bw 5)
 else if P=67 then(match s with|a::b::q=>if dD b=14/\cV a (aU b 0)=true then gy (aU b 1::q)else bw 5|_=>bw 5)
 else if P=68 then(match s with|a::r=>if(dM codes 0 r).2≠0 then bw (dM codes 0 r).2 else if(dM codes 0 r).1.2=true then bw 1 else gy (a::(dM codes 0 r).1.1)|_=>bw 5)
 else bw 5
def pe(p a b:Int):Int :=
 if a=5/\b=5/\(p=69\/p=70\/p=72)then 5
 else if p=71/\(a=5/\b=4\/a=4/\b=5)then 5
 else if p=72/\a=5/\b=4 then 5
 else if(a=3\/a=4)/\(b=3\/b=4)then(if a=4/\b=4/\p≠70 then 4 else 3)
 else 0
def eZ(P:Int)(s:L Ty):CR :=
 if P=93 then(match s with|a::r=>if dD a=3 then gy (.mk 4 []::r)else bw 5|_=>bw 5)
 else if P=94 then(match s with|a::r=>if dD a=3 then gy (.mk 9 [.mk 4 []]::r)else bw 5|_=>bw 5)
 else if P=95 then(match s with|a::r=>if dD a=4 then gy (.mk 3 []::r)else bw 5|_=>bw 5)
 else if P>=93 then bw 5
 else match s with
  |a::b::q =>
   if pe P (dD a) (dD b)=0 then bw 5
   else if P=70/\pe P (dD a) (dD b)=5 then gy (.mk 9 [.mk 5 []]::q)
   else if P≠72 then gy (.mk (pe P (dD a) (dD b)) []::q)
   else gy (.mk 9 [.mk 11 [.mk (if dD a=5/\dD b=5 then 4 else pe P (dD a) (dD b)) [],.mk (if dD a=5 then 5 else 4) []]]::q)
  |_=>bw 5
def j9(P:Int)(V s:L Ty):CR :=
 match s with
 |[]=>bw 5
 |a::r =>
  if P=73 then(match r with|b::q=>if cV a b=true/\gl a=true then gy (.mk 3 []::q)else bw 5|_=>bw 5)
  else if P=74\/P=75\/P=76 then(if dD a=3 then gy (.mk 2 []::r)else bw 5)
  else if P=77 then(if dD a=2 then gy (a::r)else bw 5)
  else if P=78\/P=79 then(match r with|b::q=>if dD a=2/\dD b=2 then gy (b::q)else bw 5|_=>bw 5)
  else if P=80 then(match r with|b::q=>if dD a=6/\dD b=6 then gy (b::q)else bw 5|_=>bw 5)
  else if P=81 then(if ig a=true then gy (.mk 6 []::r)else bw 5)
  else if P=82 then(if dD a=6/\ig (V.getD 0 lJ)=true then gy (.mk 9 [V.getD 0 lJ]::r)else bw 5)
  else if P=83 then(if ig a=true then(([],true),0)else bw 5)
  else bw 5
def iI(P:Int)(V s:L Ty):CR :=
 if P=89\/P=90 then gy (.mk 7 []::s)
 else if P=91\/P=92 then gy (.mk 5 []::s)
 else match s with
  |[]=>bw 5
  |a::r =>
   if P=84 then(match r with|b::q=>if dD b=4/\gl a=true then gy (.mk 9 [.mk 15 [a]]::q)else bw 5|_=>bw 5)
   else if P=85 then(if dD a=15 then gy (.mk 11 [.mk 7 [],.mk 11 [aU a 0,.mk 4 []]]::a::r)else bw 5)
   else if P=86 then(match r with|b::q=>if dD a=15/\dD b=11/\dD (aU b 0)=4/\dD (aU b 1)=4 then gy (.mk 9 [.mk 11 [a,a]]::q)else bw 5|_=>bw 5)
   else if P=87 then(if dD a=11/\dD (aU a 0)=15/\cV (aU a 0) (aU a 1)=true then gy (.mk 9 [aU a 0]::r)else bw 5)
   else if P=88 then(match r with|b::c::q=>if dD b=5/\dD c=7/\cV a (V.getD 0 lJ)=true/\jc a=true then gy (.mk 8 []::q)else bw 5|_=>bw 5)
   else bw 5
def nZ(P:Int)(M:L Nd)(codes:L (L Ty->CR))(V s:L Ty):CR :=
 if P<=44 then iD P M s
 else if P=45 then(if(gJ (V.getD 0 lJ) (M.getD 1 vw)).2=0/\ig (V.getD 0 lJ)=true then gy (V.getD 0 lJ::s)else bw 5)
 else if P<=58 then dU P codes V s
 else if P<=63 then iW P codes V s
 else if P<=68 then eP P M codes V s
 else if P<=72\/P>=93 then eZ P s
 else if P<=83 then j9 P V s
 else iI P V s
def mR(r:CR):CR:=if r.2≠0 then bw r.2 else if 40<r.1.1.length then bw 7 else if r.1.1.all br=true then(r.1,0)else bw 4
mutual
def cz:L Nd->L Ty×Bool->CR
 |[],o=>(o,0)
 |n::l,o=>if o.2=true then bw 1 else if(mR (fZ n o.1)).2≠0 then bw (mR (fZ n o.1)).2 else cz l (mR (fZ n o.1)).1
def fZ:Nd->L Ty->CR
 |.mk Y N P S M,s =>
  if Y=3 then cz M (s,false)
  else if Y≠2 then bw 1
  else match bP P M with
   |none=>bw 1
   |some V=>nZ P M (cE M) V s
def cE:L Nd->L (L Ty->CR)
 |[]=>[]
 |.mk _ _ _ _ a::l=>(λs=>cz a (s,false))::cE l
end
def ke(n:Nd)(s:L Ty):CR :=
 if dZ n≠0 then bw (dZ n)
 else match n with
  |.mk Y _ _ _ M=>if Y≠3 then bw 1 else if 40<s.length then bw 7 else if s.all br=true then cz M (s,false)else bw 5
def NF(a:CR):Prop:=a.2=0->a.1.2=true->a.1.1=[]
def wM(s:L Ty):NF (gy s):=λ_ h=>by cases h
def mZ(e:Int):NF (bw e):=λ_ h=>by cases h
def oD{a b:CR}(T:NF a)(U:NF b):NF (cZ a b):=by unfold cZ;split;exact mZ _;split;exact mZ _;rename_i h1 h2;split;grind;split;grind;exact mZ _
def AI{p:Prop}[Decidable p]{a b:CR}(h1:NF a)(h2:NF b):NF (if p then a else b):=by grind
def QM(P:Int)(codes:L (L Ty->CR))(V s:L Ty)(Y:∀i s,NF (dM codes i s)):NF (dU P codes V s):=by
 unfold dU;rcases s with _|⟨a,_|⟨b,_|⟨c,s⟩⟩⟩
 all_goals
  repeat' (first|exact oD (Y _ _) (Y _ _)|exact oD (Y _ _) (wM _)|refine AI ?_ ?_)
  all_goals first|exact wM _|exact mZ _|exact oD (Y _ _) (Y _ _)
def Xq(P:Int)(codes:L (L Ty->CR))(V s:L Ty)(Y:∀i s,NF (dM codes i s)):NF (iW P codes V s):=by
 unfold iW;rcases s with _|⟨a,_|⟨b,_|⟨c,s⟩⟩⟩
 all_goals
  repeat' (first|exact oD (Y _ _) (Y _ _)|exact oD (Y _ _) (wM _)|refine AI ?_ ?_)
  all_goals first|exact wM _|exact mZ _|exact oD (Y _ _) (wM _)
def QN(P:Int)(M:L Nd)(codes:L (L Ty->CR))(V s:L Ty)(Y:∀i s,NF (dM codes i s)):NF (eP P M codes V s):=by
 unfold eP;rcases s with _|⟨a,_|⟨b,_|⟨c,s⟩⟩⟩
 all_goals
  repeat' (first|exact oD (Y _ _) (Y _ _)|exact oD (Y _ _) (wM _)|refine AI ?_ ?_)
  all_goals first|exact wM _|exact mZ _|exact oD (Y _ _) (Y _ _)
def aaA(P:Int)(M:L Nd)(s:L Ty):NF (iD P M s):=by
 unfold iD;rcases s with _|⟨a,_|⟨b,_|⟨c,s⟩⟩⟩
 all_goals
  repeat' (refine AI ?_ ?_)
  all_goals first|exact wM _|exact mZ _
def QO(P:Int)(s:L Ty):NF (eZ P s):=by
 unfold eZ;rcases s with _|⟨a,_|⟨b,_|⟨c,s⟩⟩⟩
 all_goals
  repeat' (refine AI ?_ ?_)
  all_goals first|exact wM _|exact mZ _
def aaB(P:Int)(V s:L Ty):NF (j9 P V s):=by
 unfold j9;rcases s with _|⟨a,_|⟨b,_|⟨c,s⟩⟩⟩
 all_goals
  repeat' (refine AI ?_ ?_)
  all_goals first|exact wM _|exact mZ _|exact λ_ _=>rfl
def Xr(P:Int)(V s:L Ty):NF (iI P V s):=by
 unfold iI;rcases s with _|⟨a,_|⟨b,_|⟨c,s⟩⟩⟩
 all_goals
  repeat' (refine AI ?_ ?_)
  all_goals first|exact wM _|exact mZ _
def Xs(P:Int)(M:L Nd)(codes:L (L Ty->CR))(V s:L Ty)(Y:∀i s,NF (dM codes i s)):NF (nZ P M codes V s):=by
 unfold nZ
 repeat' split
 all_goals first|exact aaA _ _ _|exact wM _|exact mZ _|exact QM _ _ _ _ Y|exact Xq _ _ _ _ Y|exact QN _ _ _ _ _ Y|exact QO _ _|exact aaB _ _ _|exact Xr _ _ _
def uj{r:CR}(h:(mR r).2=0):r.2=0/\mR r=(r.1,0)/\r.1.1.length<=40/\r.1.1.all br=true:=by unfold mR at h ⊢;by_cases h1:r.2≠0;rw[if_pos h1]at h;exact absurd h h1;rw[if_neg h1]at h ⊢;by_cases h2:40<r.1.1.length;rw[if_pos h2]at h;simp[bw]at h;rw[if_neg h2]at h ⊢;by_cases K:r.1.1.all br=true;grind;rw[if_neg K]at h;simp[bw]at h
mutual
def K7:∀(l:L Nd)(o:L Ty×Bool),(o.2=true->o.1=[])->NF (cz l o)
 |[],o,h=>λ_ h2=>h h2
 |n::l,o,h=>by have h1:=aaC n;simp only[cz];split;exact mZ _;split;exact mZ _;rename_i h2 K;simp at K;obtain⟨E,J,_⟩:=uj K;rw[J];exact K7 l _ (λhf=>h1 _ E hf)
def aaC:∀(n:Nd)(s:L Ty),NF (fZ n s)
 |.mk Y N P S M,s=>by have h1:=K7 M (s,false) (λh=>by cases h);have h2:=NR M;simp only[fZ];split;omega;split;exact mZ _;split;exact mZ _;exact Xs _ _ _ _ _ h2
def NR:∀(l:L Nd)(i:Nat)(s:L Ty),NF (dM (cE l) i s)
 |[],i,s=>by simp only[dM];exact mZ _
 |.mk k n p q a::l,0,s=>by have:=K7 a (s,false) (λh=>by cases h);simpa[cE,dM]using this
 |.mk k n p q a::l,i+1,s=>by have:=NR l i s;simpa[cE,dM]using this
end
def Jy:∀(l:L Nd)(o:L Ty×Bool),o.1.all br=true->o.1.length<=40->(cz l o).2=0->(cz l o).1.1.all br=true/\(cz l o).1.1.length<=40
 |[],o,h1,h2,_=>⟨h1,h2⟩
 |n::l,o,h1,h2,h=>by simp only[cz]at h ⊢;by_cases c:o.2=true;rw[if_pos c]at h;simp[bw]at h;rw[if_neg c]at h ⊢;by_cases K:(mR (fZ n o.1)).2≠0;rw[if_pos K]at h;exact absurd h K;simp at K;obtain⟨E,N,H,C⟩:=uj K;rw[N]at h ⊢;exact Jy l _ C H h
def CJ{n:Nd}{s:L Ty}(h:(ke n s).2=0):(ke n s).1.1.all br=true/\(ke n s).1.1.length<=40/\((ke n s).1.2=true->(ke n s).1.1=[]):=by obtain⟨Y,N,P,S,M⟩:=n;unfold ke at h ⊢;by_cases u:dZ (.mk Y N P S M)≠0;rw[if_pos u]at h;exact absurd h u;rw[if_neg u]at h ⊢;simp only at h ⊢;by_cases K:Y≠3;rw[if_pos K]at h;simp[bw]at h;rw[if_neg K]at h ⊢;by_cases T:40<s.length;rw[if_pos T]at h;simp[bw]at h;rw[if_neg T]at h ⊢;by_cases c4:s.all br=true;rw[if_pos c4]at h ⊢;have g:=Jy M (s,false) c4 (by simpa using T) h;exact⟨g.1,g.2,K7 M (s,false) (λh=>by cases h) h⟩;rw[if_neg c4]at h;simp[bw]at h
def ndK:Nd->Int | .mk k _ _ _ _=>k
def vH{n:Nd}{s:L Ty}(h:(ke n s).2=0):dZ n=0/\ndK n=3/\s.length<=40/\s.all br=true/\ke n s=cz (cG n) (s,false):=by obtain⟨Y,N,P,S,M⟩:=n;unfold ke at h ⊢;by_cases u:dZ (.mk Y N P S M)≠0;rw[if_pos u]at h;exact absurd h u;rw[if_neg u]at h ⊢;simp only at h ⊢;by_cases K:Y≠3;rw[if_pos K]at h;simp[bw]at h;rw[if_neg K]at h ⊢;by_cases T:40<s.length;rw[if_pos T]at h;simp[bw]at h;rw[if_neg T]at h ⊢;by_cases c4:s.all br=true;rw[if_pos c4]at h ⊢;exact⟨by simpa using u,by simpa[ndK]using K,ai,c4,rfl⟩;rw[if_neg c4]at h;simp[bw]at h
def aaD{n:Nd}{s:L Ty}(h1:dZ n=0)(h2:ndK n=3):ke n s=if 40<s.length then bw 7 else if s.all br=true then cz (cG n) (s,false)else bw 5:=by obtain⟨Y,N,P,S,M⟩:=n;unfold ke;rw[if_neg ads];simp only[ndK]at h2;simp only[cG];simp_all
def Fr(more:L Ty)(a b:CR):Prop:=a.2=0->b.2=7\/b.2=0/\b.1.2=a.1.2/\(a.1.2=false->b.1.1=a.1.1++more)
mutual
def DY:Ty->Bool
 |.mk T M=>decide (arity T=M.length)&&AJ M
def AJ:L Ty->Bool
 |[]=>true
 |t::l=>DY t&&AJ l
end
mutual
def Gf:∀(t:Ty)(d n:Int),n<=300->(fM t d n).1=true->DY t=true/\(fM t d n).2=n+bf t
 |.mk T M,d,n,B,h=>by
  simp only[fM]at h ⊢;by_cases c:d>24\/n+1>300\/arity T≠M.length;simp_all;rw[if_neg c]at h ⊢;have Y:=DZ M (d+1) (n+1) ai;rcases H:eL M (d+1) (n+1)with ⟨b,m⟩
  rw[H]at h Y;cases b with
  |false=>simp at h
  |true =>
   obtain⟨Q,S⟩:=Y rfl;refine⟨?_,?_⟩;have:arity T=M.length:=(by omega);simp[DY,this,Q];simp only[bf];omega
def DZ:∀(l:L Ty)(d n:Int),n<=300->(eL l d n).1=true->AJ l=true/\(eL l d n).2=n+bp l
 |[],d,n,B,h=>by simp[eL,AJ,bp]
 |t::l,d,n,B,h=>by
  simp only[eL]at h ⊢;have Y:=Gf t d n B;have W:=uO t d n B;rcases H:fM t d n with ⟨b,m⟩
  rw[H]at h Y W;cases b with
  |false=>simp at h
  |true =>
   obtain⟨Q,S⟩:=Y rfl;have q:=W.2.2 Z;obtain⟨V,U⟩:=DZ l d m q h;refine⟨by simp[AJ,Q,V],?_⟩;simp only[bp];omega
end
def nF(t:Ty):Prop:=DY t=true/\bf t<=300
def cF{t:Ty}(h:br t=true):nF t:=by obtain⟨h1,h2⟩:=Gf t 1 0 ai h;have K:=(uO t 1 0 ai).2.2 h;exact⟨h1,ai⟩
def Gg:∀{l:L Ty}{x:Ty},AJ l=true->x∈l->DY x=true
 |t::l,x,h,D=>by
  simp only[AJ,aaN]at h;rcases List.mem_cons.1 D with rfl|D
  grind;exact Gg h.2 D
def uK{T:Int}{l:L Ty}(h:nF (.mk T l)):arity T=l.length/\∀x∈l,nF x:=by obtain⟨h1,h2⟩:=h;simp only[DY,aaN,agh,bf]at h1 h2;exact⟨h1.1,λx D=>⟨Gg h1.2 D,by have:=cI D;omega⟩⟩
def fN{T:Int}{l:L Ty}(h:nF (.mk T l))(Y:arity T=1):∃x,l=[x]/\nF x:=by
 obtain⟨h1,h2⟩:=uK h;rcases l with _|⟨x,_|⟨y,l⟩⟩
 simp_all;grind;grind
def fE{T:Int}{l:L Ty}(h:nF (.mk T l))(Y:arity T=2):∃x y,l=[x,y]/\nF x/\nF y:=by
 obtain⟨h1,h2⟩:=uK h;rcases l with _|⟨x,_|⟨y,_|⟨z,l⟩⟩⟩
 simp_all;simp_all;grind;grind
def BG{T U:Int}{l:L Ty}(h:nF (.mk T l))(Y:arity T=arity U):nF (.mk U l):=by obtain⟨h1,h2⟩:=h;simp only[DY,Y]at h1 h2;exact⟨by simpa[DY]using h1,by simpa[bf]using h2⟩
def sL(s:L Ty):Prop:=∀t∈s,nF t
def qg{t:Ty}{s:L Ty}(h:sL (t::s)):nF t/\sL s:=⟨h t (by simp),λx D=>h x (by simp[D])⟩
def mD{t:Ty}{s:L Ty}(h1:nF t)(h2:sL s):sL (t::s):=λx D=>by
 rcases List.mem_cons.1 D with rfl|D
 omega;exact h2 x D
def SS:sL []:=λx D=>by simp at D
def uk{s:L Ty}(h:s.all br=true):sL s:=λt C=>cF (List.all_eq_true.1 h t C)
def jG{n:Nd}(h:(aJ n).2=0):br (aJ n).1=true:=by unfold aJ at h ⊢;split at h;grind;simp at h
def dG{P:Int}{M:L Nd}{V:L Ty}(h:bP P M=some V)(C:gH P=[]):M=[]/\V=[]:=by
 unfold bP at h;rw[C]at h;split at h;grind;rename_i c;rcases M with _|⟨x,l⟩
 simp[ku]at h;exact⟨Z,h⟩;grind
def KG{P:Int}{M:L Nd}{V:L Ty}(h:bP P M=some V)(C:gH P=[110]):∃N p S xs,M=[.mk 0 N p S xs]/\0<=N/\N<=40/\V=[]:=by
 unfold bP at h;rw[C]at h;split at h;grind;rename_i c;rcases M with _|⟨⟨k,N,p,S,xs⟩,_|⟨y,l⟩⟩
 grind;simp[ku]at h;simp_all;grind
def yV{P:Int}{M:L Nd}{V:L Ty}(h:bP P M=some V)(C:gH P=[116]):∃x t,M=[x]/\V=[t]/\nF t:=by
 unfold bP at h;rw[C]at h;split at h;grind;rename_i c;rcases M with _|⟨⟨k,N,p,S,xs⟩,_|⟨y,l⟩⟩
 grind;simp[ku]at h;exact⟨_,_,Z,h.2.symm,cF (jG h.1)⟩;grind
def Xe{P:Int}{M:L Nd}{V:L Ty}(h:bP P M=some V)(C:gH P=[116,118]):∃x y t,M=[x,y]/\V=[t]/\nF t:=by
 unfold bP at h;rw[C]at h;split at h;grind;rename_i c;rcases M with _|⟨⟨k,N,p,S,xs⟩,_|⟨⟨k',W,U,T,Y⟩,_|⟨z,l⟩⟩⟩
 grind;grind;simp[ku]at h;exact⟨_,_,_,Z,h.2.symm,cF (jG h.1)⟩;grind
def Xt{P:Int}{M:L Nd}{V:L Ty}(h:bP P M=some V)(C:gH P=[116,116]):∃x y t u,M=[x,y]/\V=[t,u]/\nF t/\nF u:=by
 unfold bP at h;rw[C]at h;split at h;grind;rename_i c;rcases M with _|⟨⟨k,N,p,S,xs⟩,_|⟨⟨k',W,U,T,Y⟩,_|⟨z,l⟩⟩⟩
 grind;grind;simp[ku]at h;exact⟨_,_,_,_,Z,h.2.2.symm,cF (jG h.1),cF (jG h.2.1)⟩;grind
def K8{P:Int}{M:L Nd}{V:L Ty}(h:bP P M=some V)(C:gH P=[99]):∃N p S xs,M=[.mk 3 N p S xs]/\V=[]:=by
 unfold bP at h;rw[C]at h;split at h;grind;rename_i c;rcases M with _|⟨⟨k,N,p,S,xs⟩,_|⟨y,l⟩⟩
 grind;simp[ku]at h;simp_all;grind
def Bu{P:Int}{M:L Nd}{V:L Ty}(h:bP P M=some V)(C:gH P=[99,99]):∃N p S xs W U T Y,M=[.mk 3 N p S xs,.mk 3 W U T Y]/\V=[]:=by
 unfold bP at h;rw[C]at h;split at h;grind;rename_i c;rcases M with _|⟨⟨k,N,p,S,xs⟩,_|⟨⟨k',W,U,T,Y⟩,_|⟨z,l⟩⟩⟩
 grind;grind;simp[ku]at h;simp_all;grind
def Jc{P:Int}{M:L Nd}{V:L Ty}(h:bP P M=some V)(C:gH P=[116,116,99]):∃x y N p S xs t u,M=[x,y,.mk 3 N p S xs]/\V=[t,u]/\nF t/\nF u:=by
 unfold bP at h;rw[C]at h;split at h;grind;rename_i c;rcases M with _|⟨⟨k,N,p,S,xs⟩,_|⟨⟨k',Q,O,J,W⟩,_|⟨⟨I,U,E,T,Y⟩,_|⟨w,l⟩⟩⟩⟩
 grind;grind;grind;simp[ku]at h;obtain⟨h1,h2,rfl,K⟩:=h;exact⟨_,_,U,E,T,Y,_,_,Z,K.symm,cF (jG h1),cF (jG h2)⟩;grind
def DK(x:Nd)(l:L Nd):cE (x::l)=(λs=>cz (cG x) (s,false))::cE l:=by cases x;simp only[cE,cG]
def Ta(e:Int):sL (bw e).1.1:=λx D=>by simp[bw]at D
def lK:∀(l:L Nd)(o:L Ty×Bool),sL o.1->sL (cz l o).1.1/\(cz l o).1.1.length<=o.1.length+40
 |[],o,h=>by simp only[cz];exact⟨h,ai⟩
 |n::l,o,h=>by simp only[cz];split;exact⟨Ta _,by simp[bw]⟩;split;exact⟨Ta _,by simp[bw]⟩;rename_i h1 h2;obtain⟨W,a2,A,P⟩:=uj (r:=fZ n o.1) VQ;have Y:=lK l (mR (fZ n o.1)).1;rw[a2]at Y ⊢;simp only at Y ⊢;refine⟨(Y (uk P)).1,?_⟩;have:=NS l (fZ n o.1).1 A;omega
where
 NS:∀(l:L Nd)(o:L Ty×Bool),o.1.length<=40->(cz l o).1.1.length<=40
 |[],o,h=>by simp only[cz];exact h
 |n::l,o,h=>by simp only[cz];split;simp[bw];split;simp[bw];rename_i h1 h2;obtain⟨a1,a2,a3,a4⟩:=uj (r:=fZ n o.1) VQ;rw[a2];exact NS l _ a3
end Go.cw
namespace Go.Proofs
open Go.cw
attribute [local irreducible] AK ah aR
def xm(t:Int):af 102 [.int .i64 t] (.int .i64 (arity t)):=by
 refine qn func102 call102 λβ hf=>?_
 repeat' (first|refine sz ?_|refine zc ?_ ?_|(intro h;first|(cases h;done)|rw[h]|skip))
 all_goals simp_all [arity]
end Go.Proofs
namespace Go.Proofs
open Go.cw
attribute [local irreducible] AK ah aR
def idxOf{α:Type}(p:α->Bool):List α->Int
 |[] => -1
 |x::l=>if p x then 0 else(match idxOf p l with
  |-1 => -1
  |n=>n+1)
def tj{α:Type}(p:α->Bool):∀(l:List α),(idxOf p l = -1/\∀x∈l,p x=false)\/∃(i:Nat) (x:α),l[i]?=some x/\p x=true/\(∀(j:Nat) y,j<i->l[j]?=some y->p y=false)/\idxOf p l=i
 |[] => .inl ⟨Z,cc⟩
 |x::l=>by
  by_cases D:p x;right;exact⟨0,x,cc,D,cc,by simp[idxOf,D]⟩;rcases tj p l with ⟨h1,h2⟩|⟨i,y,h1,h2,K,W⟩
  left;exact⟨by simp[idxOf,D,h1],by simpa[D]using h2⟩;right;refine⟨i+1,y,ads,h2,?_,?_⟩
  ·intro j z V Y;cases j with
   |zero=>simp at Y;subst Y;simpa using D
   |succ j=>simp at Y;exact K j z ai Y
  have:idxOf p (x::l)=(match idxOf p l with | -1 => -1|n=>n+1):=by simp[idxOf,D]
  rw[this,W];split;omega;rfl
def xx{α:Type}(p:α->Bool)(l:List α)(i:Nat)(x:α)(D:l[i]?=some x)(h:p x=true)(U:∀(j:Nat) y,j<i->l[j]?=some y->p y=false):idxOf p l=i:=by
 rcases tj p l with ⟨h1,h2⟩|⟨k,y,h1,h2,K,Y⟩
 have:=h2 x (abz D);rw[h]at this;simp at this;rw[Y];rcases Nat.lt_trichotomy i k with G|rfl|G
 have:=K i x G D;rw[h]at this;simp at this;rfl;have:=U k y G h1;rw[h2]at this;simp at this
def At{α:Type}(p:α->Bool)(l:List α)(h:∀(j:Nat) y,l[j]?=some y->p y=false):idxOf p l = -1:=by
 rcases tj p l with ⟨h1,_⟩|⟨k,y,h1,h2,_⟩
 exact h1;have:=h k y h1;rw[h2]at this;simp at this
def CD{α:Type}(p:α->Bool)(l:List α):decide (idxOf p l>=0)=l.any p:=by
 rcases tj p l with ⟨h1,h2⟩|⟨k,y,h1,h2,K,Y⟩
 rw[h1];symm;simp;intro x D;simpa using h2 x D;rw[Y];symm;simp;exact⟨y,abz h1,h2⟩
set_option maxHeartbeats 1000000 in
def IB(l:L Ty)(p:Ty->Bool)(f:FuncId)(caps:L CV)(hp:∀x∈l,af f (cU x::caps) (.bool (p x)))(hlen:l.length<=1099511627776) :
  af 110 [.sl 2 (az l),.sU f caps] (.int .i64 (idxOf p l)):=by
 refine qn func110 call110 λβ hf=>?_;refine AK.Qi hX mixed 300 Z ?_;refine AK.dN (α:=Nat) (λi=>i<=l.length/\∀(j:Nat) x,j<i->l[j]?=some x->p x=false) (λi=>l.length-i)
  (λi=>[(8,.c (.int .i64 i)),(7,.c (.int .i64 (az l).length)),(0,.c (.sl 2 (az l))),(1,.c (.sU f caps))]) (λ_=>[]) (λ_=>[]) [] 0
  ⟨ai,by intro j x h;omega⟩ ce trivial trivial Z Z Z ?_
 rintro i ⟨hi,hno⟩ ih
 repeat' (first|refine sz ?_|refine zc ?_ ?_|(intro h;first|(cases h;done)|rw[h]|skip))
 ·have hlt:i<l.length:=by simpa[aQ]using h
  obtain⟨⟨T,args⟩,hx⟩:∃x,l[i]?=some x:=⟨l[i],by simp[hlt]⟩;refine ah.index hX Z Z Z Z Z Z Z Z Z Z i Z (by rw[AL,hx];rfl) Z ?_
  repeat' (first|refine sz ?_|refine zc ?_ ?_|(intro h;first|(cases h;done)|rw[h]|skip)|refine uC Z (hp ⟨T,args⟩ (abz hx)) ?_)
  rw[xx p l i ⟨T,args⟩ hx h hno];have EI:=h
  have zV:=ih (i+1) ⟨ai,λj x hj hjx=>by
   by_cases hji:j=i;subst hji;rw[hx]at hjx;simp at hjx;subst hjx;exact EI
   exact hno j x ai hjx⟩ ai
  refine AK.again zV ⟨.inl ?_,.inl Z,.inl Z,.inl Z,trivial⟩ trivial trivial Z Z Z;rw[iB ai ai];rfl
 have hge:l.length<=i:=by simpa[aQ]using h
 rw[At p l λj y hy=>hno j y acj hy]
end Go.Proofs
namespace Go.Proofs
open Go.cw
attribute [local irreducible] AK ah aR
def pJ(l:L Ty)(p:Ty->Bool)(f:FuncId)(G:L CV)(B:∀x∈l,af f (cU x::G) (.bool (p x)))(S:l.length<=1099511627776) :
  af 89 [.sl 2 (az l),.sU f G] (.bool (l.any p)):=by
 refine qn func89 call89 λβ hf=>?_
 repeat' (first|refine sz ?_|refine uC Z (IB l p f G B S) ?_)
 rw[CD]
def Jz(p:Int->Bool):∀(l:L Ty),(!(l.any λx => !vR p x))=qm p l
 |[]=>rfl
 |t::l=>by simp only[qm,<- Jz p l,ahW];cases vR p t<;>simp
set_option maxHeartbeats 1000000 in
def C0(p:Int->Bool)(f:FuncId)(caps:L CV)(hp:∀n:Int,af f (.int .i64 n::caps) (.bool (p n))) :
  ∀(t:Ty),bf t<=1099511627776->af 119 [cU t,.sU f caps] (.bool (vR p t))
 |.mk T args,ht=>by
  simp only[bf]at ht;have Kz:=kG args;have hin:∀x∈args,af 144 (cU x::[.ip [.sU f caps]]) (.bool (!vR p x)):=by
   intro x hx;have Ew:=C0 p f caps hp x (by have:=cI hx;omega);obtain⟨T',args'⟩:=x;refine qn func144 call144 λβ hf=>?_
   repeat' (first|refine sz ?_|refine uC Z Ew ?_)
   rfl
  refine qn func119 call119 λβ hf=>?_;refine AK.seq ?_;refine AK.region mixed Z ?_
  repeat' (first|refine so ?_|refine zu ?_ ?_|(intro h;first|(cases h;done)|rw[h]|skip))
  refine AK.freeze 3 Z Z Z Z ?_
  repeat' (first|refine sz ?_|refine zc ?_ ?_|(intro h;first|(cases h;done)|rw[h]|skip)|refine uC Z (hp T) ?_|refine uC Z (pJ args (λx => !vR p x) _ _ hin ai) ?_)
  simp only[vR,<- Jz,h,afS,ahE];simp only[vR,h,afc]
termination_by t=>SizeOf.sizeOf t
decreasing_by
 have:=aeQ hx;simp at this ⊢;omega
end Go.Proofs
namespace Go.Proofs
open Go.cw
attribute [local irreducible] AK ah aR
def dK{α:Type}{l:List α}{i:Nat}{x:α}(h:l[i]?=some x):l.drop i=x::l.drop (i+1):=by obtain⟨h1,h2⟩:=List.getElem?_eq_some_iff.1 h;rw[ahh h1,h2]
def bt{α:Type}{l:List α}{i:Nat}{x:α}(h:l[i]?=some x):i<l.length:=(List.getElem?_eq_some_iff.1 h).1
def ie{α:Type}(l:List α)(i:Nat)(U:i<=l.length):(∃x,l[i]?=some x/\x∈l)\/i=l.length:=by
 rcases agW i l.length with h|h
 simp_all;omega
def gG{l:L Ty}{i:Nat}{x:Ty}(h:l[i]?=some x):(az l)[i]?=some (cU x):=by rw[AL,h];rfl
def dec_lt{a b:Int}(h:a<b):decide (a<b)=true:=aaX h
def Ky{a b:Int}(h:b<=a):decide (a<b)=false:=aaY (by omega)
def KA{l:L Ty}{i:Nat}{x:Ty}(h:l[i]?=some x):decide (((i:Nat):Int)<(((az l).length:Nat):Int))=true:=dec_lt (by have:=bt h;rw[aQ];omega)
def EX{l:L Ty}{i:Nat}(h:i=l.length):decide (((i:Nat):Int)<(((az l).length:Nat):Int))=false:=Ky (by rw[aQ];omega)
def NT(n:Int):af 120 [.int .i64 n] (.bool (BI n)):=by
 refine qn func120 call120 λβ hf=>?_
 repeat' (first|refine sz ?_|refine zc ?_ ?_|(intro h;first|(cases h;done)|rw[h]|skip)|refine uC Z (xm n) ?_)
 all_goals simp_all [BI]
def NU(n:Int):af 148 [.int .i64 n] (.bool (uT n)):=by
 refine qn func148 call148 λβ hf=>?_
 repeat' (first|refine sz ?_|refine zc ?_ ?_|(intro h;first|(cases h;done)|rw[h]|skip))
 all_goals simp_all [uT]
def mB(t:Ty)(C:bf t<=1099511627776):af 103 [cU t] (.bool (gl t)):=by
 have hq:=C0 BI 120 [] NT t C;obtain⟨T,M⟩:=t;refine qn func103 call103 λβ hf=>?_
 repeat' (first|refine sz ?_|refine uC Z hq ?_)
 rfl
def oa(t:Ty)(C:bf t<=1099511627776):af 123 [cU t] (.bool (ig t)):=by
 have hq:=C0 uT 148 [] NU t C;obtain⟨T,M⟩:=t;refine qn func123 call123 λβ hf=>?_
 repeat' (first|refine sz ?_|refine uC Z hq ?_)
 rfl
def AM(p:Int->Bool):∀(l:L Ty),(!(l.any λx => !DQ p x))=F4 p l
 |[]=>rfl
 |t::l=>by simp only[F4,<- AM p l,ahW];cases DQ p t<;>simp
set_option maxHeartbeats 1000000 in
def vC:∀(t:Ty),bf t<=1099511627776->af 145 [cU t] (.bool (ni t))
 |.mk T args,ht=>by
  simp only[bf]at ht;have Kz:=kG args;have hin:∀x∈args,af 172 (cU x::[]) (.bool (!ni x)):=by
   intro x hx;have Ew:=vC x (by have:=cI hx;omega);obtain⟨T',args'⟩:=x;refine qn func172 call172 λβ hf=>?_
   repeat' (first|refine sz ?_|refine uC Z Ew ?_)
   rfl
  have hq:=pJ args (λx => !ni x) 172 [] hin ai;refine qn func145 call145 λβ hf=>?_
  repeat' (first|refine sz ?_|refine zc ?_ ?_|(intro h;first|(cases h;done)|rw[h]|skip)|refine uC Z hq ?_)
  all_goals
   have ha:=AM Xu args;simp only[ni]at *;simp only[DQ,<- ha,Xu];simp_all
termination_by t=>SizeOf.sizeOf t
decreasing_by
 have:=aeQ hx;simp at this ⊢;omega
set_option maxHeartbeats 1000000 in
def qS:∀(t:Ty),bf t<=1099511627776->af 68 [cU t] (.bool (jc t))
 |.mk T args,ht=>by
  simp only[bf]at ht;have Kz:=kG args;have hin:∀x∈args,af 90 (cU x::[]) (.bool (!jc x)):=by
   intro x hx;have Ew:=qS x (by have:=cI hx;omega);obtain⟨T',args'⟩:=x;refine qn func90 call90 λβ hf=>?_
   repeat' (first|refine sz ?_|refine uC Z Ew ?_)
   rfl
  have hq:=pJ args (λx => !jc x) 90 [] hin ai;refine qn func68 call68 λβ hf=>?_
  repeat' (first|refine sz ?_|refine zc ?_ ?_|(intro h;first|(cases h;done)|rw[h]|skip)|refine uC Z hq ?_)
  all_goals
   have ha:=AM KU args;simp only[jc]at *;simp only[DQ,<- ha,KU];simp_all
termination_by t=>SizeOf.sizeOf t
decreasing_by
 have:=aeQ hx;simp at this ⊢;omega
end Go.Proofs
namespace Go.Proofs
open Go.cw
attribute [local irreducible] AK ah aR
abbrev cM(q:L Int):L CV:=q.map λn => .int .i64 n
def ints_at{l:L Int}{i:Nat}{x:Int}(h:l[i]?=some x):(cM l)[i]?=some (.int .i64 x):=by simp[cM,h]
def ZN{l:L Int}{i:Nat}{x:Int}(h:l[i]?=some x):decide (((i:Nat):Int)<(((cM l).length:Nat):Int))=true:=dec_lt (by have:=bt h;simp[cM];omega)
def Wf{l:L Int}{i:Nat}(h:i=l.length):decide (((i:Nat):Int)<(((cM l).length:Nat):Int))=false:=Ky (by simp[cM];omega)
def dY{i:Nat}(h:i<1099511627776):some (AV.c (CV.int .i64 (i64.wrap ((i:Int)+1))))=some (AV.c (CV.int .i64 ((i+1:Nat):Int))):=by rw[iB ai ai];rfl
end Go.Proofs
namespace Go.Proofs
open Go.cw
def Gi{M:L Ty}{x:Ty}(h:M[0]?=some x):lX M=gl x:=by
 cases M with
 |nil=>simp at h
 |cons y l=>simp at h;subst h;rfl
def Xv(T:Int)(M:L Ty)(d n:Int)(A:¬(d>24\/n+1>300\/arity T≠M.length)) :
  fM (.mk T M) d n=((eL M (d+1) (n+1)).1&&(if T=13\/T=15 then lX M else true),(eL M (d+1) (n+1)).2):=by
 simp only[fM];grind
def QT(d m:Int):eL [] d m=(true,m):=rfl
def NV(T:Int)(M:L Ty)(d n:Int)(A:d>24\/n+1>300\/arity T≠M.length):fM (.mk T M) d n=(false,n+1):=by simp only[fM,if_pos A]
def NW(t:Ty)(l:L Ty)(d n:Int):eL (t::l) d n=if(fM t d n).1 then eL l d (fM t d n).2 else(false,(fM t d n).2):=by simp only[eL];grind
attribute [local irreducible] AK ah aR bM fM eL lX gl
def rK:∀(t:Ty)(d n:Int),bf t<=8589934593->0<=d->d<=1099511627776-bf t->0<=n->n<=300 ->
  hJ 79 [.v (.c (cU t)),.v (.c (.int .i64 d)),.box [.c (.int .i64 n)]] [.c (.bool (fM t d n).1)] [(2,[.c (.int .i64 (fM t d n).2)])]
 |.mk T M=>by
  intro d n u Qe q hn0 hn;simp only[bf]at u q;have Kz:=kG M;have Y:∀x∈M,∀m:Int,0<=m->m<=300->hJ 79 [.v (.c (cU x)),.v (.c (.int .i64 (i64.wrap (d+1)))),.box [.c (.int .i64 m)]] [.c (.bool (fM x (d+1) m).1)] [(2,[.c (.int .i64 (fM x (d+1) m).2)])]:=by intro x D m h0 h1;have:=cI D;rw[iB ai ai];exact rK x (d+1) m ai ai ai h0 h1
  have E:i64.wrap (n+1)=n+1:=iB ai ai;refine en func79 call79 [(0,.c (cU (.mk T M))),(1,.c (.int .i64 d)),(2,.ptr 1002000 0)] [(1002000,[.c (.int .i64 n)])] [] [1002000] λβ hf=>?_
  repeat' (first|refine qz ?_|refine ze ?_ ?_|(intro h;first|(cases h;done)|rw[h]|skip)|refine uC Z (xm T) ?_)
  rotate_left 6
  ·refine AK.dN (α:=Nat×Int) (λz=>z.1<=M.length/\eL M (d+1) (n+1)=eL (M.drop z.1) (d+1) z.2/\0<=z.2/\z.2<=300) (λz=>M.length-z.1)
    (λz=>[(34,.c (.int .i64 z.1)),(33,.c (.int .i64 (az M).length)),(32,.c (.sl 2 (az M))),(1,.c (.int .i64 d)),(2,.ptr 1002000 0),(3,.ptr 3 0)])
    (λz=>[(3,[.c (.int .i64 T),.c (.sl 2 (az M))]),(1002000,[.c (.int .i64 z.2)])]) (λ_=>[]) [3,1002000] (0,n+1)
    ⟨ai,Z,ai,?_⟩ ce ⟨Z,aeM (λk=>some [AV.c (CV.int .i64 k)]) E,trivial⟩ trivial Z Z Z ?_
   simp_all;rintro⟨i,m⟩ ⟨G,H,S,O⟩ ih;simp only at G H S O;have A:¬(d>24\/n+1>300\/arity T≠M.length):=(by rename_i g1 g2;simp only[ahw,E,agY,bne_eq_false_iff_eq,aQ]at g1 g2 h;rintro(J|J|J);omega;omega;exact J h);have Q:=Xv T M d n A;rcases ie M i G with ⟨x,D,P⟩|C
   ·have hc:=KA D;have hq:=Y x P m S O;have N:=uO x (d+1) m O;rw[dK D]at H;rw[NW]at H;obtain⟨U,us⟩:=x
    repeat' (first|refine qz ?_|refine ze ?_ ?_|(intro h;first|(cases h;done)|rw[h]|skip)|refine uI Z (i) Z (gG D) Z ?_|refine nv ?_ (hq:=hq))
    have hf:(fM (.mk U us) (d+1) m).1=false:=(by simpa using h);rw[hf]at H;rw[Q,H];rfl;have hf:(fM (.mk U us) (d+1) m).1=false:=(by simpa using h);rw[hf]at H;rw[Q,H];rfl;have hf:(fM (.mk U us) (d+1) m).1=true:=(by simpa using h);rw[hf]at H;refine AK.again (ih (i+1,(fM (.mk U us) (d+1) m).2) ⟨bt D,H,ai,N.2.2 hf⟩ acd)
     ⟨.inl (dY oy),.inl Z,.inl Z,.inl Z,.inl Z,.inl Z,trivial⟩ ⟨Z,Z,trivial⟩ trivial Z Z Z
   have hc:=EX C;have hG:eL M (d+1) (n+1)=(true,m):=(by rw[H,C,aeT,QT]);rw[hG]at Q;by_cases W:T=13\/T=15
   ·obtain⟨B,V⟩:∃x,M[0]?=some x:=(by have h1:arity T>=1:=(by rcases W with rfl|rfl<;>decide);have h2:0<M.length:=(by simp only[not_or,ne_eq,afF]at A;omega);exact⟨M[0],by simp[h2]⟩);have I:=mB B (by have:=cI (abz V);omega);rw[if_pos W,Gi V]at Q;clear ih Y;obtain⟨U,us⟩:=B
    repeat' (first|refine qz ?_|refine ze ?_ ?_|(intro h;first|(cases h;done)|rw[h]|skip)|refine uI Z (0) Z (gG V) Z ?_|refine uC Z I ?_)
    all_goals first
     |(show(_:L LV)=_;rw[Q];first|rfl|(simp;done)|(exfalso;simp_all;done))
     |(show(_:L (Nat×L LV))=_;rw[Q];done)
     |(show(_:L (Nat×L LV))=_;rw[Q];rfl)
     |(exfalso;clear hf Q H;simp_all;done)
   rw[if_neg W]at Q;clear ih Y
   repeat' (first|refine qz ?_|refine ze ?_ ?_|(intro h;first|(cases h;done)|rw[h]|skip))
   all_goals first
    |(show(_:L LV)=_;rw[Q];first|rfl|(simp;done)|(exfalso;simp_all;done))
    |(show(_:L (Nat×L LV))=_;rw[Q];done)
    |(show(_:L (Nat×L LV))=_;rw[Q];rfl)
    |(exfalso;clear hf Q H;simp_all;done)
  all_goals
   have K:d>24\/n+1>300\/arity T≠M.length:=by
    clear Y hf
    first
    |(left;simp_all;done)
    |(right;left;simp_all;done)
    |(right;right;simp_all [aQ];done)
   first
   |(show(_:L LV)=_;rw[NV T M d n K])
   |(show(_:L (Nat×L LV))=_;rw[NV T M d n K,E])
termination_by t=>SizeOf.sizeOf t
decreasing_by
 have:=aeQ D;simp at this ⊢;omega
end Go.Proofs
