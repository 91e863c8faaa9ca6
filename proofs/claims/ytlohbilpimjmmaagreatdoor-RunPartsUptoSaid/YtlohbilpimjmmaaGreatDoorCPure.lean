/- Package value's node and parse as plain functions; what tells a value is read as it, and the other way round. Package check as plain functions, and their laws. -/
import Derived.Test.YtlohbilpimjmmaaGreatDoorVRef
set_option linter.unusedVariables false
set_option linter.unusedSimpArgs false
namespace Go.cu
mutual
def er:Vl->Nd
 | .mk k n _ s args _ _ =>
  if k=1 then .mk 2 0 20 [] []
  else if k=2 then .mk 2 0 (22-n) [] []
  else if k=6 then .mk 1 0 0 s []
  else if k=9 then .mk 2 0 (27-args.length) [] (ej args)
  else if k=10 then .mk 3 0 0 [] (ej args)
  else if k=11 then .mk 2 0 23 [] (ej args)
  else if k=12 then .mk 2 0 (24+n) [] (ej args)
  else if k=13 then .mk 3 0 0 [] (mw args)
  else .mk 0 n 0 [] []
def ej:List Vl->List Nd
 | []=>[]
 | x::l=>er x::ej l
def mw:List Vl->List Nd
 | []=>[]
 | .mk _ _ _ _ args _ _::l => .mk 2 0 28 [] (ej args)::mw l
end
def glue (acc:List Vl):List Vl×Bool->List Vl×Bool
 | (q,true)=>(acc++q,true)
 | (_,false)=>([],false)
def pH (T:Int):Vl := .mk T 0 0 [] [] [] []
mutual
def dI:Nd->Ty->Vl×Bool
 | .mk kind N P S args,t =>
  if bS t=1 then(pH 1,decide (kind=2/\P=20/\args.length=0))
  else if bS t=2 then(.mk 2 (IntKind.i64.wrap (22-P)) 0 [] [] [] [],decide (kind=2/\(P=21\/P=22)/\args.length=0))
  else if bS t=3\/bS t=4\/bS t=5\/bS t=7 then(.mk (bS t) N 0 [] [] [] [],decide (kind=0))
  else if bS t=6 then(.mk 6 0 0 S [] [] [],decide (kind=1))
  else if bS t=9 then
   if kind=2/\P=27 then(pH 9,decide (args.length=0))
   else if kind=2/\P=26 then(.mk 9 0 0 [] (eE args (au t)).1 [] [],(eE args (au t)).2)
   else(pH 9,false)
  else if bS t=11 then
   if kind=2/\P=23 then(.mk 11 0 0 [] (eE args (au t)).1 [] [],(eE args (au t)).2)
   else(pH 11,false)
  else if bS t=12 then
   if kind=2/\P=24 then(.mk 12 0 0 [] (eE args [aD t 0]).1 [] [],(eE args [aD t 0]).2)
   else if kind=2/\P=25 then(.mk 12 1 0 [] (eE args [aD t 1]).1 [] [],(eE args [aD t 1]).2)
   else(pH 12,false)
  else if bS t=10 then(.mk 10 0 0 [] (eS args (aD t 0)).1 [] [],decide (kind=3)&&(eS args (aD t 0)).2)
  else if bS t=13 then(.mk 13 0 0 [] (eu args (au t)).1 [] [],decide (kind=3)&&(eu args (au t)).2)
  else(pH (bS t),false)
def eE:List Nd->List Ty->List Vl×Bool
 | [],[]=>([],true)
 | x::l,t::r=>if(dI x t).2=true then glue [(dI x t).1] (eE l r)else([],false)
 | [],_::_=>([],false)
 | _::_,[]=>([],false)
def eS:List Nd->Ty->List Vl×Bool
 | [],_=>([],true)
 | x::l,t=>((dI x t).1::(eS l t).1,(dI x t).2&&(eS l t).2)
def eu:List Nd->List Ty->List Vl×Bool
 | [],_=>([],true)
 | .mk kind _ P _ xs::l,ts=>(.mk 11 0 0 [] (eE xs ts).1 [] []::(eu l ts).1,((eE xs ts).2&&decide (kind=2/\P=28))&&(eu l ts).2)
end
theorem Pf (a b:List Vl) (x:List Vl×Bool):glue a (glue b x)=glue (a++b) x:=by
 obtain⟨q,c⟩:=x;cases c<;>simp[glue]
theorem Q1 (x:List Vl×Bool) (h:x.2=false->x.1=[]):glue [] x=x:=by
 obtain⟨q,c⟩:=x;cases c
 ·simp at h;subst h;rfl
 ·simp[glue]
theorem Ct:∀(l:List Nd) (r:List Ty),(eE l r).2=false->(eE l r).1=[]
 | [],[],h=>by simp[eE]at h
 | [],_::_,_=>by simp[eE]
 | _::_,[],_=>by simp[eE]
 | x::l,t::r,h=>by
  simp only[eE]at h ⊢;by_cases O:(dI x t).2=true
  ·rw[if_pos O]at h ⊢;cases I:eE l r with
   | mk q c =>
    cases c with
    | false=>rfl
    | true=>rw[I]at h;cases h
  ·rw[if_neg O]
theorem II:∀(l:List Nd) (r:List Ty),l.length≠r.length->eE l r=([],false)
 | [],[],h=>by simp at h
 | [],_::_,_=>by simp[eE]
 | _::_,[],_=>by simp[eE]
 | x::l,t::r,h=>by
  simp only[eE,II l r lp];split<;>rfl
mutual
theorem Cu:∀(v:Vl),bN (er v)<=aM v
 | .mk k n a s args H B=>by
  have h1:=ug args;have h2:=Cv args;simp only[er,aM]
  repeat' split
  all_goals simp only[bN,aQ,aab];omega
theorem ug:∀(l:List Vl),aQ (ej l)<=aL l
 | []=>by simp[ej,aQ,aL]
 | x::l=>by
  have h1:=Cu x;have h2:=ug l;simp only[ej,aQ,aL];omega
theorem Cv:∀(l:List Vl),aQ (mw l)<=aL l
 | []=>by simp[mw,aQ,aL]
 | .mk k n a s args H B::l=>by
  have h1:=ug args;have h2:=Cv l;simp only[mw,aQ,bN,aL,aM,aab];omega
end
theorem Pg (a:List Vl) (x:List Vl×Bool):aL (glue a x).1<=aL a+aL x.1:=by
 obtain⟨q,c⟩:=x;cases c
 ·simp[glue,aL]
 ·simp only[glue];have:∀a b:List Vl,aL (a++b)=aL a+aL b:=by
   intro a b
   induction a with
   | nil=>simp[aL]
   | cons x a S=>simp only[List.cons_append,aL,S];omega
  rw[this];omega
mutual
theorem vJ:∀(n:Nd) (t:Ty),aM (dI n t).1<=bN n
 | .mk kind N P S args,t=>by
  have h1:=rL args (au t);have h2:=yh args (aD t 0);have V:=yj args (au t);have D:=rL args [aD t 0];have q:=rL args [aD t 1];simp only[dI,bN,pH]
  repeat' split
  all_goals simp only[aM,aL,br,aQ,aab];omega
theorem rL:∀(l:List Nd) (r:List Ty),aL (eE l r).1<=aQ l
 | [],[]=>by simp[eE,aL]
 | [],_::_=>by simp[eE,aL]
 | _::_,[]=>by simp[eE,aL]
 | x::l,t::r=>by
  have h1:=vJ x t;have h2:=rL l r;simp only[eE,aQ];split
  ·have:=Pg [(dI x t).1] (eE l r);simp only[aL]at this;omega
  ·simp[aL]
theorem yh:∀(l:List Nd) (t:Ty),aL (eS l t).1<=aQ l
 | [],_=>by simp[eS,aL]
 | x::l,t=>by
  have h1:=vJ x t;have h2:=yh l t;simp only[eS,aQ,aL];omega
theorem yj:∀(l:List Nd) (ts:List Ty),aL (eu l ts).1<=aQ l
 | [],_=>by simp[eu,aL]
 | .mk kind N P S xs::l,ts=>by
  have h1:=rL xs ts;have h2:=yj l ts;simp only[eu,aQ,bN,aL,aM,br,aab];omega
end
theorem kN {k n a:Int} {s:List UInt8} {args:List Vl} {H:List Ty} {B:List Nd} {t:Ty} (h:bL (.mk k n a s args H B) t=true):nh k n a args H t=true:=by
 rw[Ug]at h;simp only[aaj]at h;exact h.2.2.2
theorem Q2 {T:Int} (h:rM T=true):T≠8/\T≠14/\T≠15:=by
 simp only[rM,aaj,bne_iff_ne,ne_eq]at h;refine⟨?_,?_,?_⟩<;>(rintro rfl;simp at h)
theorem Fe {t:Ty} (h:sD rM t=true):rM (bS t)=true/\nY rM (au t)=true:=by
 cases t with|mk T l=>simpa[sD,bS,au]using h
theorem Uh {l:List Vl} {ts:List Ty} (h1:l.length=2) (h2:ts.length=2) (h:cX l ts=true):∃x y u w,l=[x,y]/\ts=[u,w]/\bL x u=true/\bL y w=true:=by
 match l,ts,h1,h2 with
 | [x,y],[u,w],_,_ =>
  simp only[cX,aaj]at h;exact⟨x,y,u,w,rfl,rfl,h.1,h.2.1⟩
theorem Ph {k:Int} {m:Nat} (h:arity k=(m:Int)):1<=k/\k<=15:=by
 unfold arity at h;split at h<;>omega
theorem WC {x:Nd} {l:List Nd} {t:Ty} {r:List Ty} (h:(eE (x::l) (t::r)).2=true):(dI x t).2=true/\(eE l r).2=true/\(eE (x::l) (t::r)).1=(dI x t).1::(eE l r).1:=by
 simp only[eE]at h ⊢;by_cases O:(dI x t).2=true
 ·rw[if_pos O]at h ⊢;rcases I:eE l r with ⟨q,c⟩
  rw[I]at h;cases c
  ·simp[glue]at h
  ·exact⟨O,rfl,by simp[glue]⟩
 ·simp_all
end Go.cu
namespace Go.cu
theorem xh {x:Nd} {l:List Nd} {d:Int} (h:cU (x::l) d=0):ef x d=0/\cU l d=0:=by
 simp only[cU]at h;by_cases O:ef x d=0
 ·omega
 ·omega
mutual
theorem Cw:∀(n:Nd) (t:Ty) (d:Int),sD rM t=true->gq t=false->(dI n t).2=true->bL (dI n t).1 t=true->ef n d=0->er (dI n t).1=n
 | .mk kind N P S args,t,d,T,p,hok,h,M=>by
  obtain⟨C,J⟩:=hM M;obtain⟨_,hkd,Q,I,V,E,_,_,_⟩:=l8 C;have O:=Cx args;have iha:=AT args;have ihm:=AU args;obtain⟨Li,D⟩:=iF p;have U:=(Fe T).2;have hrg:=Ph Li;have hpn:=Q2 (Fe T).1;clear M C T p;rcases(by omega:bS t=1\/bS t=2\/bS t=3\/bS t=4\/bS t=5\/bS t=6\/bS t=7\/bS t=9\/bS t=10\/bS t=11\/bS t=12\/bS t=13)with K|K|K|K|K|K|K|K|K|K|K|K
  all_goals rw[K]at Li
  ·simp[dI,K]at hok;obtain⟨rfl,rfl,rfl⟩:=hok;obtain rfl:=Q cc;obtain rfl:=V cc;simp[dI,K,er,pH]
  ·simp[dI,K]at hok;obtain⟨rfl,Pj,rfl⟩:=hok;obtain rfl:=Q cc;obtain rfl:=V cc;rcases Pj with rfl|rfl<;>simp[dI,K,er,pH]<;>decide
  ·simp[dI,K]at hok;subst hok;obtain rfl:=I cc;obtain rfl:=V cc;obtain rfl:=List.length_eq_zero_iff.1 (E cc);simp[dI,K,er,pH]
  ·simp[dI,K]at hok;subst hok;obtain rfl:=I cc;obtain rfl:=V cc;obtain rfl:=List.length_eq_zero_iff.1 (E cc);simp[dI,K,er,pH]
  ·simp[dI,K]at hok;subst hok;obtain rfl:=I cc;obtain rfl:=V cc;obtain rfl:=List.length_eq_zero_iff.1 (E cc);simp[dI,K,er,pH]
  ·simp[dI,K]at hok;subst hok;obtain rfl:=Q cc;obtain rfl:=I cc;obtain rfl:=List.length_eq_zero_iff.1 (E cc);simp[dI,K,er,pH]
  ·simp[dI,K]at hok;subst hok;obtain rfl:=I cc;obtain rfl:=V cc;obtain rfl:=List.length_eq_zero_iff.1 (E cc);simp[dI,K,er,pH]
  ·by_cases H:kind=2/\P=27
   ·obtain⟨rfl,rfl⟩:=H;simp[dI,K]at hok;subst hok;obtain rfl:=Q cc;obtain rfl:=V cc;simp[dI,K,er,pH,ej]
   ·by_cases B:kind=2/\P=26
    ·obtain⟨rfl,rfl⟩:=B;obtain rfl:=Q cc;obtain rfl:=V cc;simp[dI,K]at hok h ⊢;have Y:=kN h;simp[nh]at Y;have ha9:arity 9=1:=by decide
     have hts:au t=[aD t 0]:=by
      match hh:au t,(show(au t).length=1 by omega)with
      | [u],_=>simp[aD,hh]
     have W:cX (eE args (au t)).1 (au t)=true:=by
      generalize eE args (au t)=q at Y;rw[hts]
      match hq:q.1,Y with
      | [],_=>simp[cX]
      | [x],Y=>simp[aR,hq]at Y;simp[cX,Y]
      | x::y::l,Y=>simp[hq]at Y
     obtain⟨A,e2,e3⟩:=O (au t) (d+1) U D hok W J;simp only[er];simp only[A,e2];simp;omega
    ·simp[dI,K,H,B]at hok
  ·simp[dI,K]at hok;obtain⟨rfl,hok⟩:=hok;obtain rfl:=Q cc;obtain rfl:=I cc;obtain rfl:=V cc;simp[dI,K]at h ⊢;have Y:=kN h;simp[nh]at Y;have ha:arity 10=1:=by decide
   have G:aD t 0∈au t:=kO bn;have A:=iha (aD t 0) (d+1) (rN U G) (dz D G) hok Y.2 J;simp[er,A]
  ·by_cases H:kind=2/\P=23
   ·obtain⟨rfl,rfl⟩:=H;obtain rfl:=Q cc;obtain rfl:=V cc;simp[dI,K]at hok h ⊢;have Y:=kN h;simp[nh]at Y;obtain⟨A,e2,e3⟩:=O (au t) (d+1) U D hok Y.2 J;simp[er,A]
   ·simp[dI,K,H]at hok
  ·by_cases H:kind=2/\P=24
   ·obtain⟨rfl,rfl⟩:=H;obtain rfl:=Q cc;obtain rfl:=V cc;simp[dI,K]at hok h ⊢;have Y:=kN h;simp[nh]at Y;have ha:arity 12=2:=by decide
    have G:aD t 0∈au t:=kO bn;have W:cX (eE args [aD t 0]).1 [aD t 0]=true:=by
     generalize eE args [aD t 0]=q at Y
     match hq:q.1,Y with
     | [],_=>simp[cX]
     | [x],Y=>simp[aR,hq]at Y;simp[cX,Y]
     | x::y::l,Y=>simp[hq]at Y
    obtain⟨A,e2,e3⟩:=O [aD t 0] (d+1) (by simp only[nY,Bool.and_true];exact rN U G) (by simp only[mz,Bool.or_false];exact dz D G) hok W J;simp[er,A]
   ·by_cases B:kind=2/\P=25
    ·obtain⟨rfl,rfl⟩:=B;obtain rfl:=Q cc;obtain rfl:=V cc;simp[dI,K]at hok h ⊢;have Y:=kN h;simp[nh]at Y;have ha:arity 12=2:=by decide
     have G:aD t 1∈au t:=kO bn;have W:cX (eE args [aD t 1]).1 [aD t 1]=true:=by
      generalize eE args [aD t 1]=q at Y
      match hq:q.1,Y with
      | [],_=>simp[cX]
      | [x],Y=>simp[aR,hq]at Y;simp[cX,Y]
      | x::y::l,Y=>simp[hq]at Y
     obtain⟨A,e2,e3⟩:=O [aD t 1] (d+1) (by simp only[nY,Bool.and_true];exact rN U G) (by simp only[mz,Bool.or_false];exact dz D G) hok W J;simp[er,A]
    ·simp[dI,K,H,B]at hok
  ·simp[dI,K]at hok;obtain⟨rfl,hok⟩:=hok;obtain rfl:=Q cc;obtain rfl:=I cc;obtain rfl:=V cc;simp[dI,K]at h ⊢;have Y:=kN h;simp[nh]at Y;have ha:arity 13=2:=by decide
   have A:=ihm (au t) (d+1) U D bn hok Y.1.2 J;simp[er,A]
theorem Cx:∀(l:List Nd) (ts:List Ty) (d:Int),nY rM ts=true->mz ts=false->(eE l ts).2=true->cX (eE l ts).1 ts=true->cU l d=0->ej (eE l ts).1=l/\(eE l ts).1.length=l.length/\l.length=ts.length
 | [],[],_,_,_,_,_,_=>by simp[eE,ej]
 | [],_::_,_,_,_,h,_,_=>by simp[eE]at h
 | _::_,[],_,_,_,h,_,_=>by simp[eE]at h
 | x::l,t::ts,d,T,p,hok,h,M=>by
  simp only[nY,aaj]at T;simp only[mz,Bool.or_eq_false_iff]at p;obtain⟨o1,o2,o3⟩:=WC hok;obtain⟨w1,w2⟩:=xh M;rw[o3]at h ⊢;simp only[cX,aaj]at h;have h1:=Cw x t d T.1 p.1 o1 h.1 w1;have h2:=Cx l ts d T.2 p.2 o2 h.2 w2;simp[ej,h1,h2]
theorem AT:∀(l:List Nd) (t:Ty) (d:Int),sD rM t=true->gq t=false->(eS l t).2=true->aR (eS l t).1 t=true->cU l d=0->ej (eS l t).1=l
 | [],_,_,_,_,_,_,_=>by simp[eS,ej]
 | x::l,t,d,T,p,hok,h,M=>by
  obtain⟨w1,w2⟩:=xh M;simp only[eS,aaj]at hok;simp only[eS,aR,aaj]at h;have h1:=Cw x t d T p hok.1 h.1 w1;have h2:=AT l t d T p hok.2 h.2 w2;simp[eS,ej,h1,h2]
theorem AU:∀(l:List Nd) (ts:List Ty) (d:Int),nY rM ts=true->mz ts=false->ts.length=2->(eu l ts).2=true->aR (eu l ts).1 (.mk 11 ts)=true->cU l d=0->mw (eu l ts).1=l
 | [],_,_,_,_,_,_,_,_=>by simp[eu,mw]
 | .mk kind N P S xs::l,ts,d,T,p,h2l,hok,h,M=>by
  obtain⟨w1,w2⟩:=xh M;obtain⟨C,J⟩:=hM w1;obtain⟨_,hkd,Q,I,V,E,_,_,_⟩:=l8 C;simp only[eu,aaj,decide_eq_true_eq]at hok;obtain⟨⟨IK,rfl,rfl⟩,Lq⟩:=hok;obtain rfl:=Q cc;obtain rfl:=V cc;simp only[eu,aR,aaj]at h;have Y:=kN h.1;simp[nh,au]at Y;have h1:=Cx xs ts (d+1) T p IK Y.2 J;have h2:=AU l ts d T p h2l Lq h.2 w2;simp[eu,mw,h1,h2]
end
def iB (t:Ty) (n:Nd):Vl×Int:=if bA t=true/\dj n=0/\(dI n t).2=true/\bL (dI n t).1 t=true then((dI n t).1,0)else(oO,1)
def abi (t:Ty) (v:Vl):Nd×Int:=if pI t v=true/\gh t=true then(if dj (er v)=0 then(er v,0)else(sE,dj (er v)))else(sE,5)
def tJ (v:Vl):List UInt8×Int:=if dj (er v)=0 then(if 200<=(dU (er v)).length then([],4)else(5::dU (er v),0))else([],dj (er v))
def abj (t:Ty) (v:Vl):List UInt8×Int:=if pI t v=true/\gh t=true then tJ v else([],5)
def gC (t:Ty) (s:List UInt8):Vl×Int:=match s with
 | []=>(oO,1)
 | c::r=>if c=5/\(c::r).length<=200/\gh t=true/\(eT r).2=0 then iB t (eT r).1 else(oO,1)
theorem Ff {t:Ty} {n:Nd} (h:(iB t n).2=0):pI t (iB t n).1=true/\dj n=0/\(gh t=true->er (iB t n).1=n):=by
 unfold iB at h ⊢;split at h
 ·rename_i E;rw[if_pos E];have p:gq t=false:=by
   cases p:gq t with
   | false=>rfl
   | true =>
    have h1:=Cy t 24 300 p;rw[Fg,E.1]at h1;cases h1
  refine⟨by unfold pI;simp only[E.1,E.2.2.2];rfl,E.2.1,fun T=>?_⟩;exact Cw n t 1 T p E.2.2.1 E.2.2.2 (gr.1 E.2.1).1
 ·cases h
theorem Fh (t:Ty) (n:Nd):aM (iB t n).1<=bN n:=by
 unfold iB;split
 ·exact vJ n t
 ·exact Cz n
end Go.cu
namespace Go.cu
abbrev CR:=(List Ty×Bool)×Int
def ep (s:List Ty):CR:=((s,false),0)
def aP (e:Int):CR:=(([],false),e)
def fS (p:Int):List UInt8 :=
 if p=41\/p=43\/p=44 then [110]
 else if p=45 then [116,118]
 else if p=50\/p=51\/p=54\/p=56\/p=82\/p=88 then [116]
 else if p=61 then [116,116]
 else if p=52\/p=55\/p=58\/p=64 then [99,99]
 else if p=60\/p=65\/p=68 then [99]
 else if p=66 then [116,116,99]
 else []
def ja:List UInt8->List Nd->List Ty->Option (List Ty)
 | w::ws,.mk kind N P S xs::l,acc =>
  if w=110 then(if kind=0/\0<=N/\N<=40 then ja ws l acc else none)
  else if w=99 then(if kind=3 then ja ws l acc else none)
  else if w=116 then(if(aZ (.mk kind N P S xs)).2=0 then ja ws l (acc++[(aZ (.mk kind N P S xs)).1])else none)
  else ja ws l acc
 | _,_,acc=>some acc
def bQ (p:Int) (args:List Nd):Option (List Ty):=if p<40\/args.length≠(fS p).length then none else ja (fS p) args []
def cT (a b:CR):CR :=
 if a.2≠0 then aP a.2 else if b.2≠0 then aP b.2 else if a.1.2=true then(b.1,0)else if b.1.2=true\/gN a.1.1 b.1.1=true then(a.1,0)else aP 5
mutual
def IL:Nd->Bool
 | .mk kind _ P _ args=>decide (kind=2/\P=84)||ju args
def ju:List Nd->Bool
 | []=>false
 | x::l=>IL x||ju l
end
def IM:Nd->Int | .mk _ n _ _ _=>n
def bh:Nd->List Nd | .mk _ _ _ _ l=>l
def gu (P:Int) (args:List Nd) (s:List Ty):CR :=
 if P=40 then(match s with|_::r=>ep r|_=>aP 5)
 else if P=42 then(match s with|a::b::r=>ep (b::a::r)|_=>aP 5)
 else if P=41 then(if 1<=IM (args.getD 0 sE)/\IM (args.getD 0 sE)<=s.length/\lE (s.getD (IM (args.getD 0 sE)-1).toNat lF)=true then ep (s.getD (IM (args.getD 0 sE)-1).toNat lF::s)else aP 5)
 else if P=43 then(if IM (args.getD 0 sE)<s.length then ep (s.getD (IM (args.getD 0 sE)).toNat lF::(s.take (IM (args.getD 0 sE)).toNat++s.drop ((IM (args.getD 0 sE)).toNat+1)))else aP 5)
 else if P=44 then(match s with|a::r=>if IM (args.getD 0 sE)<r.length+1 then ep (r.take (IM (args.getD 0 sE)).toNat++a::r.drop (IM (args.getD 0 sE)).toNat)else aP 5|_=>aP 5)
 else aP 5
def aS (p:List (List Ty->CR)) (i:Nat):List Ty->CR:=p.getD i (fun _=>aP 1)
def aX (P:Int) (p:List (List Ty->CR)) (H s:List Ty):CR :=
 if P=54 then ep (.mk 9 [H.getD 0 lF]::s)
 else if P=56 then ep (.mk 10 [H.getD 0 lF]::s)
 else match s with
  | []=>aP 5
  | a::r =>
   if P=50 then ep (.mk 12 [a,H.getD 0 lF]::r)
   else if P=51 then ep (.mk 12 [H.getD 0 lF,a]::r)
   else if P=53 then ep (.mk 9 [a]::r)
   else if P=46 then(match r with|b::q=>ep (.mk 11 [a,b]::q)|_=>aP 5)
   else if P=47 then(if bS a=11 then ep (au a++r)else aP 5)
   else if P=48 then(if bS a=11 then ep (aD a 0::r)else aP 5)
   else if P=49 then(if bS a=11 then ep (aD a 1::r)else aP 5)
   else if P=57 then(match r with|b::q=>if bS b=10/\cP a (aD b 0)=true then ep (b::q)else aP 5|_=>aP 5)
   else if P=52 then(if bS a=12 then cT (aS p 0 (aD a 0::r)) (aS p 1 (aD a 1::r))else aP 5)
   else if P=55 then(if bS a=9 then cT (aS p 0 r) (aS p 1 (aD a 0::r))else aP 5)
   else if P=58 then(if bS a=10 then cT (aS p 0 (aD a 0::a::r)) (aS p 1 r)else aP 5)
   else aP 5
def cK (P:Int) (p:List (List Ty->CR)) (H s:List Ty):CR :=
 if P=61 then(if fG (H.getD 0 lF)=true then ep (.mk 13 H::s)else aP 5)
 else if P=59 then(match s with|a::r=>if bS a=6\/bS a=10\/bS a=13 then ep (.mk 4 []::r)else aP 5|_=>aP 5)
 else if P=60 then(match s with|a::r=>if bS a=10\/bS a=13 then cT (aS p 0 ((if bS a=13 then .mk 11 (au a)else aD a 0)::r)) (ep r)else aP 5|_=>aP 5)
 else if P=62 then(match s with|a::b::q=>if bS b=13/\cP a (aD b 0)=true/\lE (aD b 1)=true then ep (.mk 9 [aD b 1]::q)else aP 5|_=>aP 5)
 else if P=63 then(match s with|a::b::c::q=>if bS b=9/\bS c=13/\cP a (aD c 0)=true/\cP (aD b 0) (aD c 1)=true then ep (c::q)else aP 5|_=>aP 5)
 else aP 5
def cI (P:Int) (args:List Nd) (p:List (List Ty->CR)) (H s:List Ty):CR :=
 if P=66 then(if ju (bh (args.getD 2 sE))=true then aP 5
  else if(cT (aS p 2 [H.getD 0 lF]) (ep [H.getD 1 lF])).2≠0 then aP (cT (aS p 2 [H.getD 0 lF]) (ep [H.getD 1 lF])).2 else ep (.mk 14 H::s))
 else if P=64 then(match s with|a::r=>if bS a=2 then cT (aS p 0 r) (aS p 1 r)else aP 5|_=>aP 5)
 else if P=65 then(match s with|a::r=>if bS a=2 then(if(cT (aS p 0 r) (ep (a::r))).2≠0 then aP (cT (aS p 0 r) (ep (a::r))).2 else ep r)else aP 5|_=>aP 5)
 else if P=67 then(match s with|a::b::q=>if bS b=14/\cP a (aD b 0)=true then ep (aD b 1::q)else aP 5|_=>aP 5)
 else if P=68 then(match s with|a::r=>if(aS p 0 r).2≠0 then aP (aS p 0 r).2 else if(aS p 0 r).1.2=true then aP 1 else ep (a::(aS p 0 r).1.1)|_=>aP 5)
 else aP 5
def mZ (p a b:Int):Int :=
 if a=5/\b=5/\(p=69\/p=70\/p=72)then 5
 else if p=71/\(a=5/\b=4\/a=4/\b=5)then 5
 else if p=72/\a=5/\b=4 then 5
 else if(a=3\/a=4)/\(b=3\/b=4)then(if a=4/\b=4/\p≠70 then 4 else 3)
 else 0
def bU (P:Int) (s:List Ty):CR :=
 if P=93 then(match s with|a::r=>if bS a=3 then ep (.mk 4 []::r)else aP 5|_=>aP 5)
 else if P=94 then(match s with|a::r=>if bS a=3 then ep (.mk 9 [.mk 4 []]::r)else aP 5|_=>aP 5)
 else if P=95 then(match s with|a::r=>if bS a=4 then ep (.mk 3 []::r)else aP 5|_=>aP 5)
 else if P>=93 then aP 5
 else match s with
  | a::b::q =>
   if mZ P (bS a) (bS b)=0 then aP 5
   else if P=70/\mZ P (bS a) (bS b)=5 then ep (.mk 9 [.mk 5 []]::q)
   else if P≠72 then ep (.mk (mZ P (bS a) (bS b)) []::q)
   else ep (.mk 9 [.mk 11 [.mk (if bS a=5/\bS b=5 then 4 else mZ P (bS a) (bS b)) [],.mk (if bS a=5 then 5 else 4) []]]::q)
  | _=>aP 5
def ct (P:Int) (H s:List Ty):CR :=
 match s with
 | []=>aP 5
 | a::r =>
  if P=73 then(match r with|b::q=>if cP a b=true/\fG a=true then ep (.mk 3 []::q)else aP 5|_=>aP 5)
  else if P=74\/P=75\/P=76 then(if bS a=3 then ep (.mk 2 []::r)else aP 5)
  else if P=77 then(if bS a=2 then ep (a::r)else aP 5)
  else if P=78\/P=79 then(match r with|b::q=>if bS a=2/\bS b=2 then ep (b::q)else aP 5|_=>aP 5)
  else if P=80 then(match r with|b::q=>if bS a=6/\bS b=6 then ep (b::q)else aP 5|_=>aP 5)
  else if P=81 then(if gh a=true then ep (.mk 6 []::r)else aP 5)
  else if P=82 then(if bS a=6/\gh (H.getD 0 lF)=true then ep (.mk 9 [H.getD 0 lF]::r)else aP 5)
  else if P=83 then(if gh a=true then(([],true),0)else aP 5)
  else aP 5
def b8 (P:Int) (H s:List Ty):CR :=
 if P=89\/P=90 then ep (.mk 7 []::s)
 else if P=91\/P=92 then ep (.mk 5 []::s)
 else match s with
  | []=>aP 5
  | a::r =>
   if P=84 then(match r with|b::q=>if bS b=4/\fG a=true then ep (.mk 9 [.mk 15 [a]]::q)else aP 5|_=>aP 5)
   else if P=85 then(if bS a=15 then ep (.mk 11 [.mk 7 [],.mk 11 [aD a 0,.mk 4 []]]::a::r)else aP 5)
   else if P=86 then(match r with|b::q=>if bS a=15/\bS b=11/\bS (aD b 0)=4/\bS (aD b 1)=4 then ep (.mk 9 [.mk 11 [a,a]]::q)else aP 5|_=>aP 5)
   else if P=87 then(if bS a=11/\bS (aD a 0)=15/\cP (aD a 0) (aD a 1)=true then ep (.mk 9 [aD a 0]::r)else aP 5)
   else if P=88 then(match r with|b::c::q=>if bS b=5/\bS c=7/\cP a (H.getD 0 lF)=true/\jv a=true then ep (.mk 8 []::q)else aP 5|_=>aP 5)
   else aP 5
def nv (P:Int) (args:List Nd) (p:List (List Ty->CR)) (H s:List Ty):CR :=
 if P<=44 then gu P args s
 else if P=45 then(if(iB (H.getD 0 lF) (args.getD 1 sE)).2=0/\gh (H.getD 0 lF)=true then ep (H.getD 0 lF::s)else aP 5)
 else if P<=58 then aX P p H s
 else if P<=63 then cK P p H s
 else if P<=68 then cI P args p H s
 else if P<=72\/P>=93 then bU P s
 else if P<=83 then ct P H s
 else b8 P H s
def lG (r:CR):CR:=if r.2≠0 then aP r.2 else if 40<r.1.1.length then aP 7 else if r.1.1.all bA=true then(r.1,0)else aP 4
mutual
def cw:List Nd->List Ty×Bool->CR
 | [],o=>(o,0)
 | n::l,o=>if o.2=true then aP 1 else if(lG (eX n o.1)).2≠0 then aP (lG (eX n o.1)).2 else cw l (lG (eX n o.1)).1
def eX:Nd->List Ty->CR
 | .mk kind N P S args,s =>
  if kind=3 then cw args (s,false)
  else if kind≠2 then aP 1
  else match bQ P args with
   | none=>aP 1
   | some H=>nv P args (bf args) H s
def bf:List Nd->List (List Ty->CR)
 | []=>[]
 | .mk _ _ _ _ a::l=>(fun s=>cw a (s,false))::bf l
end
def fK (n:Nd) (s:List Ty):CR :=
 if dj n≠0 then aP (dj n)
 else match n with
  | .mk kind _ _ _ args=>if kind≠3 then aP 1 else if 40<s.length then aP 7 else if s.all bA=true then cw args (s,false)else aP 5
def NF (a:CR):Prop:=a.2=0->a.1.2=true->a.1.1=[]
theorem tK (s:List Ty):NF (ep s):=fun _ h=>by cases h
theorem lu (e:Int):NF (aP e):=fun _ h=>by cases h
theorem mA {a b:CR} (p:NF a) (Y:NF b):NF (cT a b):=by
 unfold cT;split
 ·exact lu _
 ·split
  ·exact lu _
  ·rename_i h1 h2;simp only[ne_eq,Decidable.not_not]at h1 h2;split
   ·grind
   ·split
    ·grind
    ·exact lu _
theorem xj {p:Prop} [Decidable p] {a b:CR} (h1:NF a) (h2:NF b):NF (if p then a else b):=by grind
theorem Lr (P:Int) (p:List (List Ty->CR)) (H s:List Ty) (E:∀i s,NF (aS p i s)):NF (aX P p H s):=by
 unfold aX;rcases s with _|⟨a,_|⟨b,_|⟨c,s⟩⟩⟩
 all_goals
  dsimp only
  repeat' (first|exact mA (E _ _) (E _ _)|exact mA (E _ _) (tK _)|refine xj ?_ ?_)
  all_goals first|exact tK _|exact lu _|exact mA (E _ _) (E _ _)
theorem Q3 (P:Int) (p:List (List Ty->CR)) (H s:List Ty) (E:∀i s,NF (aS p i s)):NF (cK P p H s):=by
 unfold cK;rcases s with _|⟨a,_|⟨b,_|⟨c,s⟩⟩⟩
 all_goals
  dsimp only
  repeat' (first|exact mA (E _ _) (E _ _)|exact mA (E _ _) (tK _)|refine xj ?_ ?_)
  all_goals first|exact tK _|exact lu _|exact mA (E _ _) (tK _)
theorem Ls (P:Int) (args:List Nd) (p:List (List Ty->CR)) (H s:List Ty) (E:∀i s,NF (aS p i s)):NF (cI P args p H s):=by
 unfold cI;rcases s with _|⟨a,_|⟨b,_|⟨c,s⟩⟩⟩
 all_goals
  dsimp only
  repeat' (first|exact mA (E _ _) (E _ _)|exact mA (E _ _) (tK _)|refine xj ?_ ?_)
  all_goals first|exact tK _|exact lu _|exact mA (E _ _) (E _ _)
theorem Ui (P:Int) (args:List Nd) (s:List Ty):NF (gu P args s):=by
 unfold gu;rcases s with _|⟨a,_|⟨b,_|⟨c,s⟩⟩⟩
 all_goals
  dsimp only
  repeat' (refine xj ?_ ?_)
  all_goals first|exact tK _|exact lu _
theorem Lt (P:Int) (s:List Ty):NF (bU P s):=by
 unfold bU;rcases s with _|⟨a,_|⟨b,_|⟨c,s⟩⟩⟩
 all_goals
  dsimp only
  repeat' (refine xj ?_ ?_)
  all_goals first|exact tK _|exact lu _
theorem Uj (P:Int) (H s:List Ty):NF (ct P H s):=by
 unfold ct;rcases s with _|⟨a,_|⟨b,_|⟨c,s⟩⟩⟩
 all_goals
  dsimp only
  repeat' (refine xj ?_ ?_)
  all_goals first|exact tK _|exact lu _|exact fun _ _=>rfl
theorem Q4 (P:Int) (H s:List Ty):NF (b8 P H s):=by
 unfold b8;rcases s with _|⟨a,_|⟨b,_|⟨c,s⟩⟩⟩
 all_goals
  dsimp only
  repeat' (refine xj ?_ ?_)
  all_goals first|exact tK _|exact lu _
theorem Q5 (P:Int) (args:List Nd) (p:List (List Ty->CR)) (H s:List Ty) (E:∀i s,NF (aS p i s)):NF (nv P args p H s):=by
 unfold nv
 repeat' split
 all_goals first|exact Ui _ _ _|exact tK _|exact lu _|exact Lr _ _ _ _ E|exact Q3 _ _ _ _ E|exact Ls _ _ _ _ _ E|exact Lt _ _|exact Uj _ _ _|exact Q4 _ _ _
theorem rO {r:CR} (h:(lG r).2=0):r.2=0/\lG r=(r.1,0)/\r.1.1.length<=40/\r.1.1.all bA=true:=by
 unfold lG at h ⊢;by_cases h1:r.2≠0
 ·rw[if_pos h1]at h;exact absurd h h1
 rw[if_neg h1]at h ⊢;by_cases h2:40<r.1.1.length
 ·rw[if_pos h2]at h;simp[aP]at h
 rw[if_neg h2]at h ⊢;by_cases V:r.1.1.all bA=true
 ·simp_all
 ·rw[if_neg V]at h;simp[aP]at h
mutual
theorem GA:∀(l:List Nd) (o:List Ty×Bool),(o.2=true->o.1=[])->NF (cw l o)
 | [],o,h=>fun _ h2=>h h2
 | n::l,o,h=>by
  have h1:=Uk n;simp only[cw];split
  ·exact lu _
  ·split
   ·exact lu _
   ·rename_i h2 V;simp only[ne_eq,Decidable.not_not]at V;obtain⟨A,E,_⟩:=rO V;rw[E];exact GA l _ (fun hf=>h1 _ A hf)
theorem Uk:∀(n:Nd) (s:List Ty),NF (eX n s)
 | .mk kind N P S args,s=>by
  have h1:=GA args (s,false) (fun h=>by cases h);have h2:=IN args;simp only[eX];split
  ·exact h1
  ·split
   ·exact lu _
   ·split
    ·exact lu _
    ·exact Q5 _ _ _ _ _ h2
theorem IN:∀(l:List Nd) (i:Nat) (s:List Ty),NF (aS (bf l) i s)
 | [],i,s=>by simp only[bf,aS,List.getD_nil];exact lu _
 | .mk k n p q a::l,0,s=>by
  have:=GA a (s,false) (fun h=>by cases h);simpa[bf,aS]using this
 | .mk k n p q a::l,i+1,s=>by
  have:=IN l i s;simpa[bf,aS]using this
end
theorem Fi:∀(l:List Nd) (o:List Ty×Bool),o.1.all bA=true->o.1.length<=40->(cw l o).2=0->(cw l o).1.1.all bA=true/\(cw l o).1.1.length<=40
 | [],o,h1,h2,_=>⟨h1,h2⟩
 | n::l,o,h1,h2,h=>by
  simp only[cw]at h ⊢;by_cases c:o.2=true
  ·rw[if_pos c]at h;simp[aP]at h
  rw[if_neg c]at h ⊢;by_cases J:(lG (eX n o.1)).2≠0
  ·rw[if_pos J]at h;exact absurd h J
  rw[if_neg J]at h ⊢;simp only[ne_eq,Decidable.not_not]at J;obtain⟨A,E,B,Q⟩:=rO J;rw[E]at h ⊢;exact Fi l _ Q B h
theorem rP {n:Nd} {s:List Ty} (h:(fK n s).2=0):(fK n s).1.1.all bA=true/\(fK n s).1.1.length<=40/\((fK n s).1.2=true->(fK n s).1.1=[]):=by
 obtain⟨kind,N,P,S,args⟩:=n;unfold fK at h ⊢;by_cases Y:dj (.mk kind N P S args)≠0
 ·rw[if_pos Y]at h;exact absurd h Y
 rw[if_neg Y]at h ⊢;simp only at h ⊢;by_cases J:kind≠3
 ·rw[if_pos J]at h;simp[aP]at h
 rw[if_neg J]at h ⊢;by_cases W:40<s.length
 ·rw[if_pos W]at h;simp[aP]at h
 rw[if_neg W]at h ⊢;by_cases c4:s.all bA=true
 ·rw[if_pos c4]at h ⊢;have g:=Fi args (s,false) c4 (by simpa using W) h;exact⟨g.1,g.2,GA args (s,false) (fun h=>by cases h) h⟩
 ·rw[if_neg c4]at h;simp[aP]at h
theorem AW:∀(a b:List Nd) (o:List Ty×Bool),(cw a o).2=0->cw (a++b) o=cw b (cw a o).1
 | [],b,o,_=>rfl
 | n::a,b,o,h=>by
  simp only[cw,List.cons_append]at h ⊢;by_cases c:o.2=true
  ·rw[if_pos c]at h;simp[aP]at h
  rw[if_neg c]at h ⊢;by_cases J:(lG (eX n o.1)).2≠0
  ·rw[if_pos J]at h;exact absurd h J
  rw[if_neg J]at h ⊢;rw[if_neg c];simp only[if_neg J]at h ⊢;exact AW a b _ h
theorem wR:∀(a b:List Nd) (d:Int),cU a d=0->cU (a++b) d=cU b d
 | [],b,d,_=>rfl
 | x::a,b,d,h=>by
  simp only[cU,List.cons_append]at h ⊢;by_cases c:ef x d=0
  ·rw[if_pos c]at h ⊢;exact wR a b d h
  ·omega
theorem yl:∀(a b:List Nd),cr (a++b)=cr a+cr b
 | [],b=>by simp[cr]
 | x::a,b=>by simp only[List.cons_append,cr,yl a b];omega
def Pk:Nd->Int | .mk k _ _ _ _=>k
theorem sF {n:Nd} {s:List Ty} (h:(fK n s).2=0):dj n=0/\Pk n=3/\s.length<=40/\s.all bA=true/\fK n s=cw (bh n) (s,false):=by
 obtain⟨kind,N,P,S,args⟩:=n;unfold fK at h ⊢;by_cases Y:dj (.mk kind N P S args)≠0
 ·rw[if_pos Y]at h;exact absurd h Y
 rw[if_neg Y]at h ⊢;simp only at h ⊢;by_cases J:kind≠3
 ·rw[if_pos J]at h;simp[aP]at h
 rw[if_neg J]at h ⊢;by_cases W:40<s.length
 ·rw[if_pos W]at h;simp[aP]at h
 rw[if_neg W]at h ⊢;by_cases c4:s.all bA=true
 ·rw[if_pos c4]at h ⊢;exact⟨Wp,by simpa[Pk]using J,bn,c4,rfl⟩
 ·rw[if_neg c4]at h;simp[aP]at h
theorem GB {n:Nd} {s:List Ty} (h1:dj n=0) (h2:Pk n=3):fK n s=if 40<s.length then aP 7 else if s.all bA=true then cw (bh n) (s,false)else aP 5:=by
 obtain⟨kind,N,P,S,args⟩:=n;unfold fK;rw[if_neg Vf];simp only[Pk]at h2;simp only[bh];rw[if_neg uG]
theorem Q6 {a b:Nd} (p:dj a=0) (Y:dj b=0) (W:Pk a=3) (G:Pk b=3) (u:many a+many b<=300):dj (.mk 3 0 0 [] (bh a++bh b))=0:=by
 obtain⟨T,K,S,q,x⟩:=a;obtain⟨D,Q,B,E,y⟩:=b;simp only[Pk]at W G;subst W;subst G;obtain⟨P,_⟩:=hM (gr.1 p).1;obtain⟨O,_⟩:=hM (gr.1 Y).1;have V:=(hM (gr.1 p).1).2;have U:=(hM (gr.1 Y).1).2;rw[gr];simp only[bh];constructor
 ·simp only[ef];rw[if_pos (by simp[fV])];rw[wR _ _ _ V];exact U
 ·simp only[many,yl]at u ⊢;omega
theorem Lu {a b:Nd} {s:List Ty} (p:(fK a s).2=0) (hf:(fK a s).1.2=false) (Y:(fK b (fK a s).1.1).2=0) (u:many a+many b<=300) :
  fK (.mk 3 0 0 [] (bh a++bh b)) s=fK b (fK a s).1.1:=by
 obtain⟨C,I,G,K,W⟩:=sF p;obtain⟨H,V,N,T,U⟩:=sF Y;rw[GB (Q6 C H I V u) rfl,if_neg bn,if_pos K,U];show cw (bh a++bh b) (s,false)=_;rw[W]at p hf ⊢;rw[AW _ _ _ p];exact congrArg (cw (bh b)) (Prod.ext rfl hf)
def Fr (more:List Ty) (a b:CR):Prop:=a.2=0->b.2=7\/b.2=0/\b.1.2=a.1.2/\(a.1.2=false->b.1.1=a.1.1++more)
end Go.cu
