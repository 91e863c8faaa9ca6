/- Package check as plain functions, and their laws. -/
import Derived.Test.YtdnpapgijbhofaaGreatDoorVParRt
import Derived.Test.YtdnpapgijbhofaaGreatDoorTPureRt
import Derived.Test.YtdnpapgijbhofaaGreatDoorCtxRt
open Go.IntKind
open Go.Proofs.Tryz
set_option linter.defProp false
set_option maxHeartbeats 0
set_option linter.unusedVariables false
set_option linter.unusedSimpArgs false
namespace Go.cB
abbrev CR:=(L Ty×Bool)×Int
def eB(s:L Ty):CR:=((s,false),0)
def aX(e:Int):CR:=(([],false),e)
def fF(p:Int):L UInt8 :=
 if p=41\/p=43\/p=44 then [110]
 else if p=45 then [116,118]
 else if p=50\/p=51\/p=54\/p=56\/p=82\/p=88 then [116]
 else if p=61 then [116,116]
 else if p=52\/p=55\/p=58\/p=64 then [99,99]
 else if p=60\/p=65\/p=68 then [99]
 else if p=66 then [116,116,99]
 else []
def iX:L UInt8->L Nd->L Ty->Option (L Ty)
 |w::ws,.mk kind N P S xs::l,acc =>
  if w=110 then(if kind=0/\0<=N/\N<=40 then iX ws l acc else none)
  else if w=99 then(if kind=3 then iX ws l acc else none)
  else if w=116 then(if(aO (.mk kind N P S xs)).2=0 then iX ws l (acc++[(aO (.mk kind N P S xs)).1])else none)
  else iX ws l acc
 |_,_,acc=>some acc
def br(p:Int)(args:L Nd):Option (L Ty):=if p<40\/args.length≠(fF p).length then none else iX (fF p) args []
def cn(a b:CR):CR :=
 if a.2≠0 then aX a.2 else if b.2≠0 then aX b.2 else if a.1.2=true then(b.1,0)else if b.1.2=true\/gO a.1.1 b.1.1=true then(a.1,0)else aX 5
mutual
def I3:Nd->Bool
 |.mk u _ P _ args=>decide (u=2/\P=84)||iB args
def iB:L Nd->Bool
 |[]=>false
 |x::l=>I3 x||iB l
end
def zD:Nd->Int | .mk _ n _ _ _=>n
def cy:Nd->L Nd | .mk _ _ _ _ l=>l
def fZ(P:Int)(args:L Nd)(s:L Ty):CR :=
 if P=40 then(match s with|_::r=>eB r|_=>aX 5)
 else if P=42 then(match s with|a::b::r=>eB (b::a::r)|_=>aX 5)
 else if P=41 then(if 1<=zD (args.getD 0 oF)/\zD (args.getD 0 oF)<=s.length/\gT (s.getD (zD (args.getD 0 oF)-1).toNat iY)=true then eB (s.getD (zD (args.getD 0 oF)-1).toNat iY::s)else aX 5)
 else if P=43 then(if zD (args.getD 0 oF)<s.length then eB (s.getD (zD (args.getD 0 oF)).toNat iY::(s.take (zD (args.getD 0 oF)).toNat++s.drop ((zD (args.getD 0 oF)).toNat+1)))else aX 5)
 else if P=44 then(match s with|a::r=>if zD (args.getD 0 oF)<r.length+1 then eB (r.take (zD (args.getD 0 oF)).toNat++a::r.drop (zD (args.getD 0 oF)).toNat)else aX 5|_=>aX 5)
 else aX 5
def cU(codes:L (L Ty->CR))(i:Nat):L Ty->CR:=codes.getD i (λ_=>aX 1)
def cF(P:Int)(codes:L (L Ty->CR))(types s:L Ty):CR :=
 if P=54 then eB (.mk 9 [types.getD 0 iY]::s)
 else if P=56 then eB (.mk 10 [types.getD 0 iY]::s)
 else match s with
  |[]=>aX 5
  |a::r =>
   if P=50 then eB (.mk 12 [a,types.getD 0 iY]::r)
   else if P=51 then eB (.mk 12 [types.getD 0 iY,a]::r)
   else if P=53 then eB (.mk 9 [a]::r)
   else if P=46 then(match r with|b::q=>eB (.mk 11 [a,b]::q)|_=>aX 5)
   else if P=47 then(if cq a=11 then eB (aK a++r)else aX 5)
   else if P=48 then(if cq a=11 then eB (aG a 0::r)else aX 5)
   else if P=49 then(if cq a=11 then eB (aG a 1::r)else aX 5)
   else if P=57 then(match r with|b::q=>if cq b=10/\cw a (aG b 0)=true then eB (b::q)else aX 5|_=>aX 5)
   else if P=52 then(if cq a=12 then cn (cU codes 0 (aG a 0::r)) (cU codes 1 (aG a 1::r))else aX 5)
   else if P=55 then(if cq a=9 then cn (cU codes 0 r) (cU codes 1 (aG a 0::r))else aX 5)
   else if P=58 then(if cq a=10 then cn (cU codes 0 (aG a 0::a::r)) (cU codes 1 r)else aX 5)
   else aX 5
def gK(P:Int)(codes:L (L Ty->CR))(types s:L Ty):CR :=
 if P=61 then(if eJ (types.getD 0 iY)=true then eB (.mk 13 types::s)else aX 5)
 else if P=59 then(match s with|a::r=>if cq a=6\/cq a=10\/cq a=13 then eB (.mk 4 []::r)else aX 5|_=>aX 5)
 else if P=60 then(match s with|a::r=>if cq a=10\/cq a=13 then cn (cU codes 0 ((if cq a=13 then .mk 11 (aK a)else aG a 0)::r)) (eB r)else aX 5|_=>aX 5)
 else if P=62 then(match s with|a::b::q=>if cq b=13/\cw a (aG b 0)=true/\gT (aG b 1)=true then eB (.mk 9 [aG b 1]::q)else aX 5|_=>aX 5)
 else if P=63 then(match s with|a::b::c::q=>if cq b=9/\cq c=13/\cw a (aG c 0)=true/\cw (aG b 0) (aG c 1)=true then eB (c::q)else aX 5|_=>aX 5)
 else aX 5
def dB(P:Int)(args:L Nd)(codes:L (L Ty->CR))(types s:L Ty):CR :=
 if P=66 then(if iB (cy (args.getD 2 oF))=true then aX 5
  else if(cn (cU codes 2 [types.getD 0 iY]) (eB [types.getD 1 iY])).2≠0 then aX (cn (cU codes 2 [types.getD 0 iY]) (eB [types.getD 1 iY])).2 else eB (.mk 14 types::s))
 else if P=64 then(match s with|a::r=>if cq a=2 then cn (cU codes 0 r) (cU codes 1 r)else aX 5|_=>aX 5)
 else if P=65 then(match s with|a::r=>if cq a=2 then(if(cn (cU codes 0 r) (eB (a::r))).2≠0 then aX (cn (cU codes 0 r) (eB (a::r))).2 else eB r)else aX 5|_=>aX 5)
 else if P=67 then(match s with|a::b::q=>if cq b=14/\cw a (aG b 0)=true then eB (aG b 1::q)else aX 5|_=>aX 5)
 else if P=68 then(match s with|a::r=>if(cU codes 0 r).2≠0 then aX (cU codes 0 r).2 else if(cU codes 0 r).1.2=true then aX 1 else eB (a::(cU codes 0 r).1.1)|_=>aX 5)
 else aX 5
def kY(p a b:Int):Int :=
 if a=5/\b=5/\(p=69\/p=70\/p=72)then 5
 else if p=71/\(a=5/\b=4\/a=4/\b=5)then 5
 else if p=72/\a=5/\b=4 then 5
 else if(a=3\/a=4)/\(b=3\/b=4)then(if a=4/\b=4/\p≠70 then 4 else 3)
 else 0
def dV(P:Int)(s:L Ty):CR :=
 if P=93 then(match s with|a::r=>if cq a=3 then eB (.mk 4 []::r)else aX 5|_=>aX 5)
 else if P=94 then(match s with|a::r=>if cq a=3 then eB (.mk 9 [.mk 4 []]::r)else aX 5|_=>aX 5)
 else if P=95 then(match s with|a::r=>if cq a=4 then eB (.mk 3 []::r)else aX 5|_=>aX 5)
 else if P>=93 then aX 5
 else match s with
  |a::b::q =>
   if kY P (cq a) (cq b)=0 then aX 5
   else if P=70/\kY P (cq a) (cq b)=5 then eB (.mk 9 [.mk 5 []]::q)
   else if P≠72 then eB (.mk (kY P (cq a) (cq b)) []::q)
   else eB (.mk 9 [.mk 11 [.mk (if cq a=5/\cq b=5 then 4 else kY P (cq a) (cq b)) [],.mk (if cq a=5 then 5 else 4) []]]::q)
  |_=>aX 5
def iJ(P:Int)(types s:L Ty):CR :=
 match s with
 |[]=>aX 5
 |a::r =>
  if P=73 then(match r with|b::q=>if cw a b=true/\eJ a=true then eB (.mk 3 []::q)else aX 5|_=>aX 5)
  else if P=74\/P=75\/P=76 then(if cq a=3 then eB (.mk 2 []::r)else aX 5)
  else if P=77 then(if cq a=2 then eB (a::r)else aX 5)
  else if P=78\/P=79 then(match r with|b::q=>if cq a=2/\cq b=2 then eB (b::q)else aX 5|_=>aX 5)
  else if P=80 then(match r with|b::q=>if cq a=6/\cq b=6 then eB (b::q)else aX 5|_=>aX 5)
  else if P=81 then(if fN a=true then eB (.mk 6 []::r)else aX 5)
  else if P=82 then(if cq a=6/\fN (types.getD 0 iY)=true then eB (.mk 9 [types.getD 0 iY]::r)else aX 5)
  else if P=83 then(if fN a=true then(([],true),0)else aX 5)
  else aX 5
def gd(P:Int)(types s:L Ty):CR :=
 if P=89\/P=90 then eB (.mk 7 []::s)
 else if P=91\/P=92 then eB (.mk 5 []::s)
 else match s with
  |[]=>aX 5
  |a::r =>
   if P=84 then(match r with|b::q=>if cq b=4/\eJ a=true then eB (.mk 9 [.mk 15 [a]]::q)else aX 5|_=>aX 5)
   else if P=85 then(if cq a=15 then eB (.mk 11 [.mk 7 [],.mk 11 [aG a 0,.mk 4 []]]::a::r)else aX 5)
   else if P=86 then(match r with|b::q=>if cq a=15/\cq b=11/\cq (aG b 0)=4/\cq (aG b 1)=4 then eB (.mk 9 [.mk 11 [a,a]]::q)else aX 5|_=>aX 5)
   else if P=87 then(if cq a=11/\cq (aG a 0)=15/\cw (aG a 0) (aG a 1)=true then eB (.mk 9 [aG a 0]::r)else aX 5)
   else if P=88 then(match r with|b::c::q=>if cq b=5/\cq c=7/\cw a (types.getD 0 iY)=true/\iP a=true then eB (.mk 8 []::q)else aX 5|_=>aX 5)
   else aX 5
def lD(P:Int)(args:L Nd)(codes:L (L Ty->CR))(types s:L Ty):CR :=
 if P<=44 then fZ P args s
 else if P=45 then(if(gZ (types.getD 0 iY) (args.getD 1 oF)).2=0/\fN (types.getD 0 iY)=true then eB (types.getD 0 iY::s)else aX 5)
 else if P<=58 then cF P codes types s
 else if P<=63 then gK P codes types s
 else if P<=68 then dB P args codes types s
 else if P<=72\/P>=93 then dV P s
 else if P<=83 then iJ P types s
 else gd P types s
def lP(r:CR):CR:=if r.2≠0 then aX r.2 else if 40<r.1.1.length then aX 7 else if r.1.1.all bg=true then(r.1,0)else aX 4
mutual
def bH:L Nd->L Ty×Bool->CR
 |[],o=>(o,0)
 |n::l,o=>if o.2=true then aX 1 else if(lP (eX n o.1)).2≠0 then aX (lP (eX n o.1)).2 else bH l (lP (eX n o.1)).1
def eX:Nd->L Ty->CR
 |.mk u N P S args,s =>
  if u=3 then bH args (s,false)
  else if u≠2 then aX 1
  else match br P args with
   |none=>aX 1
   |some types=>lD P args (bS args) types s
def bS:L Nd->L (L Ty->CR)
 |[]=>[]
 |.mk _ _ _ _ a::l=>(λs=>bH a (s,false))::bS l
end
def iq(n:Nd)(s:L Ty):CR :=
 if dD n≠0 then aX (dD n)
 else match n with
  |.mk u _ _ _ args=>if u≠3 then aX 1 else if 40<s.length then aX 7 else if s.all bg=true then bH args (s,false)else aX 5
def NF(a:CR):Prop:=a.2=0->a.1.2=true->a.1.1=[]
def tG(s:L Ty):NF (eB s):=λ_ h=>by cases h
def kS(e:Int):NF (aX e):=λ_ h=>by cases h
def mm{a b:CR}(W:NF a)(A:NF b):NF (cn a b):=by unfold cn;split;exact kS _;split;exact kS _;rename_i h1 h2;split;grind;split;grind;exact kS _
def xb{p:Prop}[Decidable p]{a b:CR}(h1:NF a)(h2:NF b):NF (if p then a else b):=by grind
def Mb(P:Int)(codes:L (L Ty->CR))(types s:L Ty)(D:∀i s,NF (cU codes i s)):NF (cF P codes types s):=by
 unfold cF;rcases s with _|⟨a,_|⟨b,_|⟨c,s⟩⟩⟩
 all_goals
  repeat' (first|exact mm (D _ _) (D _ _)|exact mm (D _ _) (tG _)|refine xb ?_ ?_)
  all_goals first|exact tG _|exact kS _|exact mm (D _ _) (D _ _)
def R2(P:Int)(codes:L (L Ty->CR))(types s:L Ty)(D:∀i s,NF (cU codes i s)):NF (gK P codes types s):=by
 unfold gK;rcases s with _|⟨a,_|⟨b,_|⟨c,s⟩⟩⟩
 all_goals
  repeat' (first|exact mm (D _ _) (D _ _)|exact mm (D _ _) (tG _)|refine xb ?_ ?_)
  all_goals first|exact tG _|exact kS _|exact mm (D _ _) (tG _)
def Mc(P:Int)(args:L Nd)(codes:L (L Ty->CR))(types s:L Ty)(D:∀i s,NF (cU codes i s)):NF (dB P args codes types s):=by
 unfold dB;rcases s with _|⟨a,_|⟨b,_|⟨c,s⟩⟩⟩
 all_goals
  repeat' (first|exact mm (D _ _) (D _ _)|exact mm (D _ _) (tG _)|refine xb ?_ ?_)
  all_goals first|exact tG _|exact kS _|exact mm (D _ _) (D _ _)
def U6(P:Int)(args:L Nd)(s:L Ty):NF (fZ P args s):=by
 unfold fZ;rcases s with _|⟨a,_|⟨b,_|⟨c,s⟩⟩⟩
 all_goals
  repeat' (refine xb ?_ ?_)
  all_goals first|exact tG _|exact kS _
def Md(P:Int)(s:L Ty):NF (dV P s):=by
 unfold dV;rcases s with _|⟨a,_|⟨b,_|⟨c,s⟩⟩⟩
 all_goals
  repeat' (refine xb ?_ ?_)
  all_goals first|exact tG _|exact kS _
def U7(P:Int)(types s:L Ty):NF (iJ P types s):=by
 unfold iJ;rcases s with _|⟨a,_|⟨b,_|⟨c,s⟩⟩⟩
 all_goals
  repeat' (refine xb ?_ ?_)
  all_goals first|exact tG _|exact kS _|exact λ_ _=>rfl
def R3(P:Int)(types s:L Ty):NF (gd P types s):=by
 unfold gd;rcases s with _|⟨a,_|⟨b,_|⟨c,s⟩⟩⟩
 all_goals
  repeat' (refine xb ?_ ?_)
  all_goals first|exact tG _|exact kS _
def R4(P:Int)(args:L Nd)(codes:L (L Ty->CR))(types s:L Ty)(D:∀i s,NF (cU codes i s)):NF (lD P args codes types s):=by
 unfold lD
 repeat' split
 all_goals first|exact U6 _ _ _|exact tG _|exact kS _|exact Mb _ _ _ _ D|exact R2 _ _ _ _ D|exact Mc _ _ _ _ _ D|exact Md _ _|exact U7 _ _ _|exact R3 _ _ _
def rE{r:CR}(h:(lP r).2=0):r.2=0/\lP r=(r.1,0)/\r.1.1.length<=40/\r.1.1.all bg=true:=by unfold lP at h ⊢;by_cases h1:r.2≠0;rw[if_pos h1]at h;exact absurd h h1;rw[if_neg h1]at h ⊢;by_cases h2:40<r.1.1.length;rw[if_pos h2]at h;simp[aX]at h;rw[if_neg h2]at h ⊢;by_cases U:r.1.1.all bg=true;grind;rw[if_neg U]at h;simp[aX]at h
mutual
def GX:∀(l:L Nd)(o:L Ty×Bool),(o.2=true->o.1=[])->NF (bH l o)
 |[],o,h=>λ_ h2=>h h2
 |n::l,o,h=>by have h1:=U8 n;simp only[bH];split;exact kS _;split;exact kS _;rename_i h2 U;simp at U;obtain⟨Y,B,_⟩:=rE U;rw[B];exact GX l _ (λhf=>h1 _ Y hf)
def U8:∀(n:Nd)(s:L Ty),NF (eX n s)
 |.mk u N P S args,s=>by have h1:=GX args (s,false) (λh=>by cases h);have h2:=JE args;simp only[eX];split;omega;split;exact kS _;split;exact kS _;exact R4 _ _ _ _ _ h2
def JE:∀(l:L Nd)(i:Nat)(s:L Ty),NF (cU (bS l) i s)
 |[],i,s=>by simp only[cU];exact kS _
 |.mk k n p q a::l,0,s=>by have:=GX a (s,false) (λh=>by cases h);simpa[bS,cU]using this
 |.mk k n p q a::l,i+1,s=>by have:=JE l i s;simpa[bS,cU]using this
end
def Fq:∀(l:L Nd)(o:L Ty×Bool),o.1.all bg=true->o.1.length<=40->(bH l o).2=0->(bH l o).1.1.all bg=true/\(bH l o).1.1.length<=40
 |[],o,h1,h2,_=>⟨h1,h2⟩
 |n::l,o,h1,h2,h=>by simp only[bH]at h ⊢;by_cases c:o.2=true;rw[if_pos c]at h;simp[aX]at h;rw[if_neg c]at h ⊢;by_cases M:(lP (eX n o.1)).2≠0;rw[if_pos M]at h;exact absurd h M;simp at M;obtain⟨Y,B,U,p⟩:=rE M;rw[B]at h ⊢;exact Fq l _ p U h
def zM{n:Nd}{s:L Ty}(h:(iq n s).2=0):(iq n s).1.1.all bg=true/\(iq n s).1.1.length<=40/\((iq n s).1.2=true->(iq n s).1.1=[]):=by obtain⟨u,N,P,S,args⟩:=n;unfold iq at h ⊢;by_cases p:dD (.mk u N P S args)≠0;rw[if_pos p]at h;exact absurd h p;rw[if_neg p]at h ⊢;simp only at h ⊢;by_cases M:u≠3;rw[if_pos M]at h;simp[aX]at h;rw[if_neg M]at h ⊢;by_cases Y:40<s.length;rw[if_pos Y]at h;simp[aX]at h;rw[if_neg Y]at h ⊢;by_cases c4:s.all bg=true;rw[if_pos c4]at h ⊢;have g:=Fq args (s,false) c4 (by simpa using Y) h;exact⟨g.1,g.2,GX args (s,false) (λh=>by cases h) h⟩;rw[if_neg c4]at h;simp[aX]at h
def ndK:Nd->Int | .mk k _ _ _ _=>k
def vz{n:Nd}{s:L Ty}(h:(iq n s).2=0):dD n=0/\ndK n=3/\s.length<=40/\s.all bg=true/\iq n s=bH (cy n) (s,false):=by obtain⟨u,N,P,S,args⟩:=n;unfold iq at h ⊢;by_cases p:dD (.mk u N P S args)≠0;rw[if_pos p]at h;exact absurd h p;rw[if_neg p]at h ⊢;simp only at h ⊢;by_cases M:u≠3;rw[if_pos M]at h;simp[aX]at h;rw[if_neg M]at h ⊢;by_cases Y:40<s.length;rw[if_pos Y]at h;simp[aX]at h;rw[if_neg Y]at h ⊢;by_cases c4:s.all bg=true;rw[if_pos c4]at h ⊢;exact⟨by simpa using p,by simpa[ndK]using M,bn,c4,rfl⟩;rw[if_neg c4]at h;simp[aX]at h
def Oi{n:Nd}{s:L Ty}(h1:dD n=0)(h2:ndK n=3):iq n s=if 40<s.length then aX 7 else if s.all bg=true then bH (cy n) (s,false)else aX 5:=by obtain⟨u,N,P,S,args⟩:=n;unfold iq;rw[if_neg Y7];simp only[ndK]at h2;simp only[cy];simp_all
def Fr(more:L Ty)(a b:CR):Prop:=a.2=0->b.2=7\/b.2=0/\b.1.2=a.1.2/\(a.1.2=false->b.1.1=a.1.1++more)
end Go.cB
namespace Go.Proofs
open Go.cB
attribute [local irreducible] AK ai aR
def tQ(n:Int):Bool:=decide (n >= -1152921504606846976)&&decide (n<=1152921504606846976)
def mS(n:Int):Int×Int:=if tQ n=true then(if n<0 then -n else n,0)else(0,2)
def kT(n:Int):Int×Int:=if tQ n=true then(n,0)else(0,11)
def sQ(a b:Int):Int×Int:=if tQ a=true/\tQ b=true then kT (a+b)else(0,2)
def jE(a b:Int):Int×Int:=if tQ a=true/\tQ b=true then kT (a-b)else(0,2)
def qT(a b:Int):Int×Int:=if tQ a=true/\tQ b=true then kT (a*b)else(0,2)
def gk(a b:Int):Int×Int×Int:=if tQ a=true/\tQ b=true then(if b=0 then(0,0,6)else(a/b,a%b,0))else(0,0,2)
def GY{a b q r:Int}(h:r+b*q=a)(M:0<=r)(A:0<b/\r<b\/b<0/\r < -b):a/b=q/\a%b=r:=by
 rcases A with ⟨A,h1⟩|⟨A,h1⟩
 exact(Int.ediv_emod_unique A).2 ⟨h,M,h1⟩;have h2:r+(-b)*(-q)=a:=by rw[Int.neg_mul_neg];exact h
 obtain⟨U,P⟩:=(Int.ediv_emod_unique (by omega:0 < -b)).2 ⟨h2,M,h1⟩;rw[Int.ediv_neg]at U;rw[Int.emod_neg]at P;exact⟨bn,P⟩
def Me(a b:Int)(A:b≠0):a.tmod b+b*a.tdiv b=a/\(0<b -> -b<a.tmod b/\a.tmod b<b)/\(b<0->b<a.tmod b/\a.tmod b < -b) /\
  ((0<=a->0<=a.tmod b)/\(a<=0->a.tmod b<=0))/\(0<=a -> -a<=a.tdiv b/\a.tdiv b<=a)/\(a<=0->a<=a.tdiv b/\a.tdiv b <= -a):=by
 refine⟨Int.tmod_add_mul_tdiv a b,λh=>?_,λh=>?_,⟨λh=>Int.tmod_nonneg b h,λh=>?_⟩,λh=>?_,λh=>?_⟩;refine⟨?_,acS a h⟩;have:=acS (-a) h;rw[Int.neg_tmod]at this;omega;have h1:=acS a (by omega:0 < -b);have h2:=acS (-a) (by omega:0 < -b);rw[Int.neg_tmod]at h2;rw[Int.tmod_neg]at h1 h2;omega;have:=Int.tmod_nonneg b (by omega:0 <= -a);rw[Int.neg_tmod]at this;omega;have:=adR a b;omega;have:=adR a b;omega
def lC{n:Int}:tQ n=true ↔ -1152921504606846976<=n/\n<=1152921504606846976:=by simp[tQ]
def iS(n:Int):af 92 [.int .i64 n] (.bool (tQ n)):=by
 refine qn func92 call92 λβ hf=>?_
 repeat' (first|refine sz ?_|refine zc ?_ ?_|(intro h;first|(cases h;done)|rw[h]|skip))
 all_goals (simp_all [tQ];try omega)
abbrev two(x:Int×Int):CV := .fG [.int .i64 x.1,.int .i64 x.2]
abbrev three(x:Int×Int×Int):CV := .fG [.int .i64 x.1,.int .i64 x.2.1,.int .i64 x.2.2]
def R5{a b c d:Int}(h:a=c)(O:b=d):CV.fG [.int .i64 a,.int .i64 b] = .fG [.int .i64 c,.int .i64 d]:=by rw[h,O]
def CO{a b c d e f:Int}(h:a=d)(O:b=e)(Y:c=f):CV.fG [.int .i64 a,.int .i64 b,.int .i64 c] = .fG [.int .i64 d,.int .i64 e,.int .i64 f]:=by rw[h,O,Y]
def zX(n:Int):af 159 [.int .i64 n] (two (mS n)):=by
 refine qn func159 call159 λβ hf=>?_
 repeat' (first|refine sz ?_|refine zc ?_ ?_|(intro h;first|(cases h;done)|rw[h]|skip)|refine uC Z (iS n) ?_)
 simp_all [mS,two]
 ·have h1:tQ n=true:=by simp_all
  have h2:=lC.1 h1;rw[gM bn bn];simp_all [mS,two]
 simp_all [mS,two];omega
def A1(n:Int):af 179 [.int .i64 n] (two (kT n)):=by
 refine qn func179 call179 λβ hf=>?_
 repeat' (first|refine sz ?_|refine zc ?_ ?_|(intro h;first|(cases h;done)|rw[h]|skip)|refine uC Z (iS n) ?_)
 all_goals simp_all [kT,two]
def Fs(a b:Int):af 161 [.int .i64 a,.int .i64 b] (two (sQ a b)):=by
 refine qn func161 call161 λβ hf=>?_
 repeat' (first|refine sz ?_|refine zc ?_ ?_|(intro h;first|(cases h;done)|rw[h]|skip)|refine uC Z (iS a) ?_|refine uC Z (iS b) ?_|refine uC Z (A1 _) ?_)
 all_goals try (simp_all [sQ,two];done)
 rename_i h1;obtain⟨h1,h2⟩:tQ a=true/\tQ b=true:=by simp_all
 have U:=lC.1 h1;have P:=lC.1 h2;rw[gM bn bn];simp[sQ,two,h1,h2]
def vC(a b:Int):af 163 [.int .i64 a,.int .i64 b] (two (jE a b)):=by
 refine qn func163 call163 λβ hf=>?_
 repeat' (first|refine sz ?_|refine zc ?_ ?_|(intro h;first|(cases h;done)|rw[h]|skip)|refine uC Z (iS a) ?_|refine uC Z (iS b) ?_|refine uC Z (A1 _) ?_)
 all_goals try (simp_all [jE,two];done)
 rename_i h1;obtain⟨h1,h2⟩:tQ a=true/\tQ b=true:=by simp_all
 have U:=lC.1 h1;have P:=lC.1 h2;rw[gM bn bn];simp[jE,two,h1,h2]
def sS(a b:Int):af 181 [.int .i64 a,.int .i64 b] (three (gk a b)):=by
 refine qn func181 call181 λβ hf=>?_
 repeat' (first|refine sz ?_|refine zc ?_ ?_|(intro h;first|(cases h;done)|rw[h]|skip)|refine uC Z (iS a) ?_|refine uC Z (iS b) ?_|(first|refine ai.quo hX kn Z Z Z Z Z Z Z (by simp_all) ?_|refine ai.rem hX kn Z Z Z Z Z Z Z (by simp_all) ?_))
 all_goals try (simp_all [gk,three];done)
 all_goals
  obtain⟨h1,h2,U⟩:tQ a=true/\tQ b=true/\b≠0:=by simp_all
  have P:=lC.1 h1;have V:=lC.1 h2;obtain⟨B,T,O,⟨p,A⟩,e6,e7⟩:=Me a b U;have N : -1152921504606846976<=a.tdiv b/\a.tdiv b<=1152921504606846976:=by omega
  rw[show gk a b=(a/b,a%b,0)from by simp[gk,h1,h2,U]]
 ·have S:a.tmod b<0:=by simp_all
  have Q:b>0:=by simp_all
  obtain⟨Y,W⟩:=GY (a:=a) (b:=b) (q:=a.tdiv b-1) (r:=a.tmod b+b) (by rw[Int.mul_sub];omega) bn bn;rw[gM (n:=a.tdiv b) bn bn,gM bn bn,gM bn bn];exact CO Y.symm W.symm Z
 ·have S:a.tmod b<0:=by simp_all
  have Q:b<0:=by simp_all;omega
  obtain⟨Y,W⟩:=GY (a:=a) (b:=b) (q:=a.tdiv b+1) (r:=a.tmod b-b) (by rw[Int.mul_add];omega) bn bn;rw[gM (n:=a.tdiv b) bn bn,gM bn bn,gM bn bn];exact CO Y.symm W.symm Z
 have S:a.tmod b>=0:=by simp_all
 obtain⟨Y,W⟩:=GY (a:=a) (b:=b) (q:=a.tdiv b) (r:=a.tmod b) bn bn bn;rw[gM bn bn];exact CO Y.symm W.symm Z
end Go.Proofs
namespace Go.Proofs
open Go.cB
def xA:Vl->Int | .mk _ _ a _ _ _ _=>a
def GQ:Vl->L Ty | .mk _ _ _ _ _ t _=>t
def A2:Vl->L Nd | .mk _ _ _ _ _ _ c=>c
structure gB where
 code:List Nd
 pos:Nat
 fin:Int
 aside:List Vl
structure bE where
 self:Int
 gC:Int
 gD:Int
 balance:Int
 st:List Vl
 fr:List gB
 nV:Int
 used:Int
 aZ:Int
 said:Vl
def iQ:Nat->L Vl->Option (L Vl×L Vl)
 |0,s=>some ([],s)
 |_+1,[]=>none
 |n+1,v::s=>match iQ n s with
  |some (l,r)=>some (v::l,r)
  |none=>none
def lF:L Vl->L Vl->Int×L Vl
 |[],s=>(0,s)
 |v::l,s=>if lp v>200 then(13,s)else lF l (v::s)
def aI(k n:Int):Vl := .mk k n 0 [] [] [] []
def gU(b:Bool):Vl:=aI 2 (if b then 1 else 0)
def bN(l:L Vl):Vl := .mk 9 0 0 [] l [] []
def aY(a b:Vl):Vl := .mk 11 0 0 [] [a,b] [] []
def bD(p:Int):Nat :=
 if p∈[41,43,45,54,56,61,66,89,90,91,92]then 0
 else if p∈[42,46,57,62,67,69,70,71,72,73,78,79,80,84,86]then 2
 else if p∈[63,88]then 3 else 1
def ofM(p a b:Int):Int:=if a=5\/b=5 then 5 else if a=4/\b=4/\p≠70 then 4 else 3
def bJ:L Vl->Vl->Nat
 |[],_=>0
 |x::l,k=>if de (lH x) k<0 then bJ l k+1 else 0
def dX(l:L Vl)(k:Vl):Bool:=match l[bJ l k]? with
 |some x=>decide (de (lH x) k=0)
 |none=>false
abbrev MR:=Int×bE
def aQ(S:bE)(l:L Vl):MR:=((lF l S.st).1,{S with st:=(lF l S.st).2})
def dh(S:bE)(H:L Nd)(fin:Int)(T:L Vl):bE:={S with fr:=⟨H,0,fin,T⟩::S.fr}
def qv(S:bE)(H:L Nd)(fin:Int)(T:L Vl):bE:={S with fr:=⟨H,H.length,fin,T⟩::S.fr}
def aN(args:L Nd)(i:Nat):Nat:=(zD (args.getD i oF)).toNat
def aC(args:L Nd)(i:Nat):L Nd:=cy (args.getD i oF)
def aT(args:L Nd)(i:Nat):Ty:=(aO (args.getD i oF)).1
def lV(l:L Vl)(i:Nat):Vl:=l.getD i qp
def RG(P:Int)(args:L Nd)(l:L Vl)(S:bE):MR :=
 if P=42 then aQ S [lV l 0,lV l 1]
 else if P=41 then aQ S [lV S.st (aN args 0-1)]
 else if P=43 then(0,{S with st:=lV S.st (aN args 0)::(S.st.take (aN args 0)++S.st.drop (aN args 0+1))})
 else if P=44 then(0,{S with st:=S.st.take (aN args 0)++lV l 0::S.st.drop (aN args 0)})
 else(0,S)
def L2(P:Int)(args:L Nd)(l:L Vl)(S:bE):MR :=
 if P=45 then aQ S [(gZ (aT args 0) (args.getD 1 oF)).1]
 else if P=46 then aQ S [aY (lV l 0) (lV l 1)]
 else if P=50\/P=51 then aQ S [.mk 12 (P-50) 0 [] l [] []]
 else if P=53 then aQ S [bN [lV l 0]]
 else if P=54 then aQ S [bN []]
 else if P=56 then aQ S [.mk 10 0 0 [] [] [] []]
 else if P=47 then aQ S [lV (di (lV l 0)) 1,lV (di (lV l 0)) 0]
 else if P=48 then aQ S [lV (di (lV l 0)) 0]
 else aQ S [lV (di (lV l 0)) 1]
def yu(P:Int)(args:L Nd)(l:L Vl)(S:bE):MR :=
 if P=52 then aQ (dh S (aC args (vN (lV l 0)).toNat) 0 []) [lV (di (lV l 0)) 0]
 else if P=55 then aQ (dh S (aC args (min (di (lV l 0)).length 1)) 0 []) (di (lV l 0))
 else if P=58 then(match di (lV l 0)with
  |[]=>(0,dh S (aC args 1) 0 [])
  |x::xs=>aQ (dh S (aC args 0) 0 []) [.mk 10 0 0 [] xs [] [],x])
 else if P=60 then(0,qv S (aC args 0) 3 (di (lV l 0)))
 else if P=64 then(0,dh S (aC args (1-(vN (lV l 0)).toNat)) 0 [])
 else if P=65 then(0,{qv S (aC args 0) 4 []with st:=lV l 0::S.st})
 else if P=68 then(0,dh S (aC args 0) 1 [lV l 0])
 else if P=66 then aQ S [.mk 14 0 0 [] [] [aT args 0,aT args 1] (aC args 2)]
 else(0,{dh S (A2 (lV l 1)) 2 S.st.reverse with st:=[lV l 0]})
def zS(P:Int)(args:L Nd)(l:L Vl)(S:bE):MR :=
 if P=57 then(if 24<=(di (lV l 1)).length then(13,S)else aQ S [.mk 10 0 0 [] (lV l 0::di (lV l 1)) [] []])
 else if P=59 then aQ S [aI 4 ((vS (lV l 0)).length+(di (lV l 0)).length:Nat)]
 else if P=61 then aQ S [.mk 13 0 0 [] [] [] []]
 else if P=62 then(if dX (di (lV l 1)) (lV l 0)=true then aQ S [bN [lV (di (lV (di (lV l 1)) (bJ (di (lV l 1)) (lV l 0)))) 1]]else aQ S [bN []])
 else
  let m:=di (lV l 2);let i:=bJ m (lV l 0);let x:=if dX m (lV l 0)=true then m.take i++m.drop (i+1)else m
  match di (lV l 1)with
  |[]=>aQ S [.mk 13 0 0 [] x [] []]
  |y::_=>if 24<=x.length then(13,S)else aQ S [.mk 13 0 0 [] (x.take i++aY (lV l 0) y::x.drop i) [] []]
def vw(P:Int)(l:L Vl)(S:bE):MR :=
 if P=93 then aQ S [aI 4 (mS (vN (lV l 0))).1]
 else if P=94 then(if vN (lV l 0)<0 then aQ S [bN []]else aQ S [bN [aI 4 (vN (lV l 0))]])
 else if P=95 then aQ S [aI 3 (vN (lV l 0))]
 else
  let a:=lV l 0;let b:=lV l 1;let k:=ofM P (vK a) (vK b)
  if P=69 then(if(sQ (vN a) (vN b)).2≠0 then((sQ (vN a) (vN b)).2,S)else aQ S [aI k (sQ (vN a) (vN b)).1])
  else if P=71 then(if(qT (vN a) (vN b)).2≠0 then((qT (vN a) (vN b)).2,S)else aQ S [aI k (qT (vN a) (vN b)).1])
  else if P=70 then(if(jE (vN a) (vN b)).2≠0 then((jE (vN a) (vN b)).2,S)
   else if k=5 then(if(jE (vN a) (vN b)).1<0 then aQ S [bN []]else aQ S [bN [aI 5 (jE (vN a) (vN b)).1]])
   else aQ S [aI k (jE (vN a) (vN b)).1])
  else if(gk (vN a) (vN b)).2.2≠0 then aQ S [bN []]
  else aQ S [bN [aY (aI (if k=5/\vK b=5 then 4 else k) (gk (vN a) (vN b)).1) (aI (if k=5 then 5 else 4) (gk (vN a) (vN b)).2.1)]]
def Fh(P:Int)(args:L Nd)(l:L Vl)(S:bE):MR :=
 let a:=lV l 0
 if P=73 then aQ S [aI 3 (de a (lV l 1))]
 else if P=74\/P=77 then aQ S [gU (decide (vN a=0))]
 else if P=75 then aQ S [gU (decide (vN a<0))]
 else if P=76 then aQ S [gU (decide (vN a>0))]
 else if P=78 then aQ S [gU (decide (vN a=1/\vN (lV l 1)=1))]
 else if P=79 then aQ S [gU (decide (vN a=1\/vN (lV l 1)=1))]
 else if P=80 then(if 200<(vS a).length+(vS (lV l 1)).length then(13,S)else aQ S [.mk 6 0 0 (vS a++vS (lV l 1)) [] [] []])
 else if P=81 then(if(tw a).2≠0 then(13,S)else aQ S [.mk 6 0 0 (tw a).1 [] [] []])
 else if P=82 then(if(gu (aT args 0) (vS a)).2≠0 then aQ S [bN []]else aQ S [bN [(gu (aT args 0) (vS a)).1]])
 else(10,{S with said:=a})
def zT(P:Int)(args:L Nd)(l:L Vl)(S:bE):MR :=
 let a:=lV l 0
 if P=89 then aQ S [aI 7 S.self]
 else if P=90 then aQ S [aI 7 S.gC]
 else if P=91 then aQ S [aI 5 S.gD]
 else if P=92 then aQ S [aI 5 S.balance]
 else if P=84 then(if vN (lV l 1)=0 then aQ S [bN []]else if S.aZ>bF-vN (lV l 1)then(11,S)
  else aQ {S with aZ:=S.aZ+vN (lV l 1)} [bN [.mk 15 (vN (lV l 1)) S.self [] [a] [] []]])
 else if P=88 then aQ S [.mk 8 (vN (lV l 1)) (vN (lV l 2)) [] [a] [aT args 0] []]
 else if P=85 then aQ S [a,aY (aI 7 (xA a)) (aY (lV (di a) 0) (aI 4 (vN a)))]
 else if P=86 then
  let n:=vN (lV (di (lV l 1)) 0);let m:=vN (lV (di (lV l 1)) 1)
  if n<1\/m<1\/n+m≠vN a then aQ S [bN []]
  else aQ S [bN [aY (.mk (vK a) n (xA a) (vS a) (di a) (GQ a) (A2 a)) (.mk (vK a) m (xA a) (vS a) (di a) (GQ a) (A2 a))]]
 else
  let x:=lV (di a) 0;let y:=lV (di a) 1
  if xA x≠xA y\/de (lV (di x) 0) (lV (di y) 0)≠0 then aQ S [bN []]
  else if vN x>bF-vN y then(11,S)
  else aQ S [bN [.mk (vK x) (vN x+vN y) (xA x) (vS x) (di x) (GQ x) (A2 x)]]
def sN(P:Int)(args:L Nd)(l:L Vl)(S:bE):MR :=
 if P<=44 then RG P args l S
 else if P<=56/\P≠52/\P≠55 then L2 P args l S
 else if P=52\/P=55\/P=58\/P=60\/64<=P/\P<=68 then yu P args l S
 else if P<=63 then zS P args l S
 else if P<=72\/P>=93 then vw P l S
 else if P<=83 then Fh P args l S
 else zT P args l S
end Go.Proofs
namespace Go.cB
mutual
def A3:Ty->Bool
 |.mk T args=>decide (arity T=args.length)&&xd args
def xd:L Ty->Bool
 |[]=>true
 |t::l=>A3 t&&xd l
end
mutual
def CP:∀(t:Ty)(d n:Int),n<=300->(eP t d n).1=true->A3 t=true/\(eP t d n).2=n+bp t
 |.mk T args,d,n,O,h=>by
  simp only[eP]at h ⊢;by_cases c:d>24\/n+1>300\/arity T≠args.length;simp_all;rw[if_neg c]at h ⊢;have S:=A4 args (d+1) (n+1) bn;rcases p:dW args (d+1) (n+1)with ⟨b,m⟩
  rw[p]at h S;cases b with
  |false=>simp at h
  |true =>
   obtain⟨Y,W⟩:=S rfl;refine⟨?_,?_⟩;have:arity T=args.length:=(by omega);simp[A3,this,Y];simp only[bp];omega
def A4:∀(l:L Ty)(d n:Int),n<=300->(dW l d n).1=true->xd l=true/\(dW l d n).2=n+aU l
 |[],d,n,O,h=>by simp[dW,xd,aU]
 |t::l,d,n,O,h=>by
  simp only[dW]at h ⊢;have S:=CP t d n O;have A:=rD t d n O;rcases p:eP t d n with ⟨b,m⟩
  rw[p]at h S A;cases b with
  |false=>simp at h
  |true =>
   obtain⟨Y,W⟩:=S rfl;have u:=A.2.2 Z;obtain⟨V,U⟩:=A4 l d m u h;refine⟨by simp[xd,Y,V],?_⟩;simp only[aU];omega
end
def lE(t:Ty):Prop:=A3 t=true/\bp t<=300
def bl{t:Ty}(h:bg t=true):lE t:=by obtain⟨h1,h2⟩:=CP t 1 0 bn h;have U:=(rD t 1 0 bn).2.2 h;exact⟨h1,bn⟩
def CQ:∀{l:L Ty}{x:Ty},xd l=true->x∈l->A3 x=true
 |t::l,x,h,O=>by
  simp only[xd,aak]at h;rcases List.mem_cons.1 O with rfl|O
  grind;exact CQ h.2 O
def rM{T:Int}{l:L Ty}(h:lE (.mk T l)):arity T=l.length/\∀x∈l,lE x:=by obtain⟨h1,h2⟩:=h;simp only[A3,aak,abU,bp]at h1 h2;exact⟨h1.1,λx O=>⟨CQ h1.2 O,by have:=b9 O;omega⟩⟩
def cO{T:Int}{l:L Ty}(h:lE (.mk T l))(W:arity T=1):∃x,l=[x]/\lE x:=by
 obtain⟨h1,h2⟩:=rM h;rcases l with _|⟨x,_|⟨y,l⟩⟩
 simp_all;grind;grind
def cJ{T:Int}{l:L Ty}(h:lE (.mk T l))(W:arity T=2):∃x y,l=[x,y]/\lE x/\lE y:=by
 obtain⟨h1,h2⟩:=rM h;rcases l with _|⟨x,_|⟨y,_|⟨z,l⟩⟩⟩
 simp_all;simp_all;grind;grind
def yh{T U:Int}{l:L Ty}(h:lE (.mk T l))(W:arity T=arity U):lE (.mk U l):=by obtain⟨h1,h2⟩:=h;simp only[A3,W]at h1 h2;exact⟨by simpa[A3]using h1,by simpa[bp]using h2⟩
def qj(s:L Ty):Prop:=∀t∈s,lE t
def nO{t:Ty}{s:L Ty}(h:qj (t::s)):lE t/\qj s:=⟨h t (by simp),λx O=>h x (by simp[O])⟩
def kz{t:Ty}{s:L Ty}(h1:lE t)(h2:qj s):qj (t::s):=λx O=>by
 rcases List.mem_cons.1 O with rfl|O
 omega;exact h2 x O
def N3:qj []:=λx O=>by simp at O
def ue{s:L Ty}(h:s.all bg=true):qj s:=λt A=>bl (List.all_eq_true.1 h t A)
def jU{n:Nd}(h:(aO n).2=0):bg (aO n).1=true:=by unfold aO at h ⊢;split at h;grind;simp at h
def cM{P:Int}{args:L Nd}{types:L Ty}(h:br P args=some types)(C:fF P=[]):args=[]/\types=[]:=by
 unfold br at h;rw[C]at h;split at h;grind;rename_i c;rcases args with _|⟨x,l⟩
 simp[iX]at h;exact⟨Z,h⟩;grind
def Gx{P:Int}{args:L Nd}{types:L Ty}(h:br P args=some types)(C:fF P=[110]):∃N p S xs,args=[.mk 0 N p S xs]/\0<=N/\N<=40/\types=[]:=by
 unfold br at h;rw[C]at h;split at h;grind;rename_i c;rcases args with _|⟨⟨k,N,p,S,xs⟩,_|⟨y,l⟩⟩
 grind;simp[iX]at h;simp_all;grind
def vr{P:Int}{args:L Nd}{types:L Ty}(h:br P args=some types)(C:fF P=[116]):∃x t,args=[x]/\types=[t]/\lE t:=by
 unfold br at h;rw[C]at h;split at h;grind;rename_i c;rcases args with _|⟨⟨k,N,p,S,xs⟩,_|⟨y,l⟩⟩
 grind;simp[iX]at h;exact⟨_,_,Z,h.2.symm,bl (jU h.1)⟩;grind
def Rn{P:Int}{args:L Nd}{types:L Ty}(h:br P args=some types)(C:fF P=[116,118]):∃x y t,args=[x,y]/\types=[t]/\lE t:=by
 unfold br at h;rw[C]at h;split at h;grind;rename_i c;rcases args with _|⟨⟨k,N,p,S,xs⟩,_|⟨⟨k',W,V,S',Y⟩,_|⟨z,l⟩⟩⟩
 grind;grind;simp[iX]at h;exact⟨_,_,_,Z,h.2.symm,bl (jU h.1)⟩;grind
def R6{P:Int}{args:L Nd}{types:L Ty}(h:br P args=some types)(C:fF P=[116,116]):∃x y t u,args=[x,y]/\types=[t,u]/\lE t/\lE u:=by
 unfold br at h;rw[C]at h;split at h;grind;rename_i c;rcases args with _|⟨⟨k,N,p,S,xs⟩,_|⟨⟨k',W,V,S',Y⟩,_|⟨z,l⟩⟩⟩
 grind;grind;simp[iX]at h;exact⟨_,_,_,_,Z,h.2.2.symm,bl (jU h.1),bl (jU h.2.1)⟩;grind
def GZ{P:Int}{args:L Nd}{types:L Ty}(h:br P args=some types)(C:fF P=[99]):∃N p S xs,args=[.mk 3 N p S xs]/\types=[]:=by
 unfold br at h;rw[C]at h;split at h;grind;rename_i c;rcases args with _|⟨⟨k,N,p,S,xs⟩,_|⟨y,l⟩⟩
 grind;simp[iX]at h;simp_all;grind
def yc{P:Int}{args:L Nd}{types:L Ty}(h:br P args=some types)(C:fF P=[99,99]):∃N p S xs W V S' Y,args=[.mk 3 N p S xs,.mk 3 W V S' Y]/\types=[]:=by
 unfold br at h;rw[C]at h;split at h;grind;rename_i c;rcases args with _|⟨⟨k,N,p,S,xs⟩,_|⟨⟨k',W,V,S',Y⟩,_|⟨z,l⟩⟩⟩
 grind;grind;simp[iX]at h;simp_all;grind
def Fa{P:Int}{args:L Nd}{types:L Ty}(h:br P args=some types)(C:fF P=[116,116,99]):∃x y N p S xs t u,args=[x,y,.mk 3 N p S xs]/\types=[t,u]/\lE t/\lE u:=by
 unfold br at h;rw[C]at h;split at h;grind;rename_i c;rcases args with _|⟨⟨k,N,p,S,xs⟩,_|⟨⟨k',Q,O,S',W⟩,_|⟨⟨I,V,J,U,Y⟩,_|⟨w,l⟩⟩⟩⟩
 grind;grind;grind;simp[iX]at h;obtain⟨h1,h2,rfl,T⟩:=h;exact⟨_,_,V,J,U,Y,_,_,Z,T.symm,bl (jU h1),bl (jU h2)⟩;grind
def AQ(x:Nd)(l:L Nd):bS (x::l)=(λs=>bH (cy x) (s,false))::bS l:=by cases x;simp only[bS,cy]
def On(e:Int):qj (aX e).1.1:=λx O=>by simp[aX]at O
def jI:∀(l:L Nd)(o:L Ty×Bool),qj o.1->qj (bH l o).1.1/\(bH l o).1.1.length<=o.1.length+40
 |[],o,h=>by simp only[bH];exact⟨h,bn⟩
 |n::l,o,h=>by simp only[bH];split;exact⟨On _,by simp[aX]⟩;split;exact⟨On _,by simp[aX]⟩;rename_i h1 h2;obtain⟨W,B,Y,Q⟩:=rE (r:=eX n o.1) K0;have S:=jI l (lP (eX n o.1)).1;rw[B]at S ⊢;simp only at S ⊢;refine⟨(S (ue Q)).1,?_⟩;have:=JF l (eX n o.1).1 Y;omega
where
 JF:∀(l:L Nd)(o:L Ty×Bool),o.1.length<=40->(bH l o).1.1.length<=40
 |[],o,h=>by simp only[bH];exact h
 |n::l,o,h=>by simp only[bH];split;simp[aX];split;simp[aX];rename_i h1 h2;obtain⟨a1,a2,a3,a4⟩:=rE (r:=eX n o.1) K0;rw[a2];exact JF l _ a3
end Go.cB
namespace Go.Proofs
open Go.cB
attribute [local irreducible] AK ai aR
def tW(t:Int):af 102 [.int .i64 t] (.int .i64 (arity t)):=by
 refine qn func102 call102 λβ hf=>?_
 repeat' (first|refine sz ?_|refine zc ?_ ?_|(intro h;first|(cases h;done)|rw[h]|skip))
 all_goals simp_all [arity]
end Go.Proofs
namespace Go.Proofs
open Go.cB
attribute [local irreducible] AK ai aR
def idxOf{α:Type}(p:α->Bool):List α->Int
 |[] => -1
 |x::l=>if p x then 0 else(match idxOf p l with
  |-1 => -1
  |n=>n+1)
def qy{α:Type}(p:α->Bool):∀(l:List α),(idxOf p l = -1/\∀x∈l,p x=false)\/∃(i:Nat) (x:α),l[i]?=some x/\p x=true/\(∀(j:Nat) y,j<i->l[j]?=some y->p y=false)/\idxOf p l=i
 |[] => .inl ⟨Z,c9⟩
 |x::l=>by
  by_cases O:p x;right;exact⟨0,x,c9,O,c9,by simp[idxOf,O]⟩;rcases qy p l with ⟨h1,h2⟩|⟨i,y,h1,h2,U,P⟩
  left;exact⟨by simp[idxOf,O,h1],by simpa[O]using h2⟩;right;refine⟨i+1,y,Y7,h2,?_,?_⟩
  ·intro j z T Y;cases j with
   |zero=>simp at Y;subst Y;simpa using O
   |succ j=>simp at Y;exact U j z bn Y
  have:idxOf p (x::l)=(match idxOf p l with | -1 => -1|n=>n+1):=by simp[idxOf,O]
  rw[this,P];split;omega;rfl
def ua{α:Type}(p:α->Bool)(l:List α)(i:Nat)(x:α)(O:l[i]?=some x)(h:p x=true)(A:∀(j:Nat) y,j<i->l[j]?=some y->p y=false):idxOf p l=i:=by
 rcases qy p l with ⟨h1,h2⟩|⟨k,y,h1,h2,U,P⟩
 have:=h2 x (aap O);rw[h]at this;simp at this;rw[P];rcases Nat.lt_trichotomy i k with H|rfl|H
 have:=U i x H O;rw[h]at this;simp at this;rfl;have:=A k y H h1;rw[h2]at this;simp at this
def wU{α:Type}(p:α->Bool)(l:List α)(h:∀(j:Nat) y,l[j]?=some y->p y=false):idxOf p l = -1:=by
 rcases qy p l with ⟨h1,_⟩|⟨k,y,h1,h2,_⟩
 exact h1;have:=h k y h1;rw[h2]at this;simp at this
def zB{α:Type}(p:α->Bool)(l:List α):decide (idxOf p l>=0)=l.any p:=by
 rcases qy p l with ⟨h1,h2⟩|⟨k,y,h1,h2,U,P⟩
 rw[h1];symm;simp;intro x O;simpa using h2 x O;rw[P];symm;simp;exact⟨y,aap h1,h2⟩
set_option maxHeartbeats 1000000 in
def EC(l:L Ty)(p:Ty->Bool)(f:FuncId)(caps:L CV)(hp:∀x∈l,af f (dA x::caps) (.bool (p x)))(hlen:l.length<=1099511627776) :
  af 110 [.sl 2 (aj l),.tO f caps] (.int .i64 (idxOf p l)):=by
 refine qn func110 call110 λβ hf=>?_;refine AK.LF hX mixed 300 Z ?_;refine AK.dI (α:=Nat) (λi=>i<=l.length/\∀(j:Nat) x,j<i->l[j]?=some x->p x=false) (λi=>l.length-i)
  (λi=>[(8,.c (.int .i64 i)),(7,.c (.int .i64 (aj l).length)),(0,.c (.sl 2 (aj l))),(1,.c (.tO f caps))]) (λ_=>[]) (λ_=>[]) [] 0
  ⟨bn,by intro j x h;omega⟩ ce trivial trivial Z Z Z ?_
 rintro i ⟨hi,hno⟩ ih
 repeat' (first|refine sz ?_|refine zc ?_ ?_|(intro h;first|(cases h;done)|rw[h]|skip))
 ·have hlt:i<l.length:=by simpa[aL]using h
  obtain⟨⟨T,args⟩,hx⟩:∃x,l[i]?=some x:=⟨l[i],by simp[hlt]⟩;refine ai.index hX Z Z Z Z Z Z Z Z Z Z i Z (by rw[xe,hx];rfl) Z ?_
  repeat' (first|refine sz ?_|refine zc ?_ ?_|(intro h;first|(cases h;done)|rw[h]|skip)|refine uC Z (hp ⟨T,args⟩ (aap hx)) ?_)
  rw[ua p l i ⟨T,args⟩ hx h hno];have BF:=h
  have Yy:=ih (i+1) ⟨bn,λj x hj U9=>by
   by_cases hji:j=i;subst hji;rw[hx]at U9;simp at U9;subst U9;exact BF
   exact hno j x bn U9⟩ bn
  refine AK.again Yy ⟨.inl ?_,.inl Z,.inl Z,.inl Z,trivial⟩ trivial trivial Z Z Z;rw[gM bn bn];rfl
 have hge:l.length<=i:=by simpa[aL]using h
 rw[wU p l λj y hy=>hno j y UZ hy]
end Go.Proofs
namespace Go.Proofs
open Go.cB
attribute [local irreducible] AK ai aR
def nj(l:L Ty)(p:Ty->Bool)(f:FuncId)(U:L CV)(D:∀x∈l,af f (dA x::U) (.bool (p x)))(T:l.length<=1099511627776) :
  af 89 [.sl 2 (aj l),.tO f U] (.bool (l.any p)):=by
 refine qn func89 call89 λβ hf=>?_
 repeat' (first|refine sz ?_|refine uC Z (EC l p f U D T) ?_)
 rw[zB]
def Ft(p:Int->Bool):∀(l:L Ty),(!(l.any λx => !qU p x))=mo p l
 |[]=>rfl
 |t::l=>by simp only[mo,<- Ft p l,adt];cases qU p t<;>simp
set_option maxHeartbeats 1000000 in
def zY(p:Int->Bool)(f:FuncId)(caps:L CV)(hp:∀n:Int,af f (.int .i64 n::caps) (.bool (p n))) :
  ∀(t:Ty),bp t<=1099511627776->af 119 [dA t,.tO f caps] (.bool (qU p t))
 |.mk T args,ht=>by
  simp only[bp]at ht;have Cf:=ig args;have hin:∀x∈args,af 144 (dA x::[.ip [.tO f caps]]) (.bool (!qU p x)):=by
   intro x hx;have By:=zY p f caps hp x (by have:=b9 hx;omega);obtain⟨T',args'⟩:=x;refine qn func144 call144 λβ hf=>?_
   repeat' (first|refine sz ?_|refine uC Z By ?_)
   rfl
  refine qn func119 call119 λβ hf=>?_;refine AK.seq ?_;refine AK.region mixed Z ?_
  repeat' (first|refine so ?_|refine zu ?_ ?_|(intro h;first|(cases h;done)|rw[h]|skip))
  refine AK.freeze 3 Z Z Z Z ?_
  repeat' (first|refine sz ?_|refine zc ?_ ?_|(intro h;first|(cases h;done)|rw[h]|skip)|refine uC Z (hp T) ?_|refine uC Z (nj args (λx => !qU p x) _ _ hin bn) ?_)
  simp only[qU,<- Ft,h,abq,adm];simp only[qU,h,abn]
termination_by t=>SizeOf.sizeOf t
decreasing_by
 have:=abg hx;simp at this ⊢;omega
end Go.Proofs
namespace Go.Proofs
open Go.cB
attribute [local irreducible] AK ai aR
def cQ{α:Type}{l:List α}{i:Nat}{x:α}(h:l[i]?=some x):l.drop i=x::l.drop (i+1):=by obtain⟨h1,h2⟩:=List.getElem?_eq_some_iff.1 h;rw[acv h1,h2]
def bh{α:Type}{l:List α}{i:Nat}{x:α}(h:l[i]?=some x):i<l.length:=(List.getElem?_eq_some_iff.1 h).1
def eI{α:Type}(l:List α)(i:Nat)(W:i<=l.length):(∃x,l[i]?=some x/\x∈l)\/i=l.length:=by
 rcases acC i l.length with h|h
 simp_all;omega
def eZ{l:L Ty}{i:Nat}{x:Ty}(h:l[i]?=some x):(aj l)[i]?=some (dA x):=by rw[xe,h];rfl
def dec_lt{a b:Int}(h:a<b):decide (a<b)=true:=aam h
def Gs{a b:Int}(h:b<=a):decide (a<b)=false:=aan (by omega)
def wR{l:L Ty}{i:Nat}{x:Ty}(h:l[i]?=some x):decide (((i:Nat):Int)<(((aj l).length:Nat):Int))=true:=dec_lt (by have:=bh h;rw[aL];omega)
def sC{l:L Ty}{i:Nat}(h:i=l.length):decide (((i:Nat):Int)<(((aj l).length:Nat):Int))=false:=Gs (by rw[aL];omega)
def JG(n:Int):af 120 [.int .i64 n] (.bool (wG n)):=by
 refine qn func120 call120 λβ hf=>?_
 repeat' (first|refine sz ?_|refine zc ?_ ?_|(intro h;first|(cases h;done)|rw[h]|skip)|refine uC Z (tW n) ?_)
 all_goals simp_all [wG]
def JH(n:Int):af 148 [.int .i64 n] (.bool (qz n)):=by
 refine qn func148 call148 λβ hf=>?_
 repeat' (first|refine sz ?_|refine zc ?_ ?_|(intro h;first|(cases h;done)|rw[h]|skip))
 all_goals simp_all [qz]
def kr(t:Ty)(A:bp t<=1099511627776):af 103 [dA t] (.bool (eJ t)):=by
 have hq:=zY wG 120 [] JG t A;obtain⟨T,args⟩:=t;refine qn func103 call103 λβ hf=>?_
 repeat' (first|refine sz ?_|refine uC Z hq ?_)
 rfl
def l9(t:Ty)(A:bp t<=1099511627776):af 123 [dA t] (.bool (fN t)):=by
 have hq:=zY qz 148 [] JH t A;obtain⟨T,args⟩:=t;refine qn func123 call123 λβ hf=>?_
 repeat' (first|refine sz ?_|refine uC Z hq ?_)
 rfl
def xg(p:Int->Bool):∀(l:L Ty),(!(l.any λx => !wH p x))=oB p l
 |[]=>rfl
 |t::l=>by simp only[oB,<- xg p l,adt];cases wH p t<;>simp
set_option maxHeartbeats 1000000 in
def sG:∀(t:Ty),bp t<=1099511627776->af 145 [dA t] (.bool (gT t))
 |.mk T args,ht=>by
  simp only[bp]at ht;have Cf:=ig args;have hin:∀x∈args,af 172 (dA x::[]) (.bool (!gT x)):=by
   intro x hx;have By:=sG x (by have:=b9 hx;omega);obtain⟨T',args'⟩:=x;refine qn func172 call172 λβ hf=>?_
   repeat' (first|refine sz ?_|refine uC Z By ?_)
   rfl
  have hq:=nj args (λx => !gT x) 172 [] hin bn;refine qn func145 call145 λβ hf=>?_
  repeat' (first|refine sz ?_|refine zc ?_ ?_|(intro h;first|(cases h;done)|rw[h]|skip)|refine uC Z hq ?_)
  all_goals
   have ha:=xg rQ args;simp only[gT]at *;simp only[wH,<- ha,rQ];simp_all
termination_by t=>SizeOf.sizeOf t
decreasing_by
 have:=abg hx;simp at this ⊢;omega
set_option maxHeartbeats 1000000 in
def yb:∀(t:Ty),bp t<=1099511627776->af 68 [dA t] (.bool (iP t))
 |.mk T args,ht=>by
  simp only[bp]at ht;have Cf:=ig args;have hin:∀x∈args,af 90 (dA x::[]) (.bool (!iP x)):=by
   intro x hx;have By:=yb x (by have:=b9 hx;omega);obtain⟨T',args'⟩:=x;refine qn func90 call90 λβ hf=>?_
   repeat' (first|refine sz ?_|refine uC Z By ?_)
   rfl
  have hq:=nj args (λx => !iP x) 90 [] hin bn;refine qn func68 call68 λβ hf=>?_
  repeat' (first|refine sz ?_|refine zc ?_ ?_|(intro h;first|(cases h;done)|rw[h]|skip)|refine uC Z hq ?_)
  all_goals
   have ha:=xg Mf args;simp only[iP]at *;simp only[wH,<- ha,Mf];simp_all
termination_by t=>SizeOf.sizeOf t
decreasing_by
 have:=abg hx;simp at this ⊢;omega
end Go.Proofs
namespace Go.Proofs
open Go.cB
attribute [local irreducible] AK ai aR
abbrev jf(q:L Int):L CV:=q.map λn => .int .i64 n
def ints_at{l:L Int}{i:Nat}{x:Int}(h:l[i]?=some x):(jf l)[i]?=some (.int .i64 x):=by simp[jf,h]
def Us{l:L Int}{i:Nat}{x:Int}(h:l[i]?=some x):decide (((i:Nat):Int)<(((jf l).length:Nat):Int))=true:=dec_lt (by have:=bh h;simp[jf];omega)
def QI{l:L Int}{i:Nat}(h:i=l.length):decide (((i:Nat):Int)<(((jf l).length:Nat):Int))=false:=Gs (by simp[jf];omega)
def ff{i:Nat}(h:i<1099511627776):some (AV.c (CV.int .i64 (i64.wrap ((i:Int)+1))))=some (AV.c (CV.int .i64 ((i+1:Nat):Int))):=by rw[gM bn bn];rfl
end Go.Proofs
