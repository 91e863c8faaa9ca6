/- Package value's node and parse as plain functions; what tells a value is read as it, and the other way round. Package check as plain functions, and their laws. -/
import Derived.Test.YtlohbilpimjmmaaGreatDoorVRef
set_option linter.unusedVariables false
set_option linter.unusedSimpArgs false
namespace Go.cq
mutual
def ej:Vl->Nd
 | .mk k n _ s args _ _ =>
  if k=1 then .mk 2 0 20 [] []
  else if k=2 then .mk 2 0 (22-n) [] []
  else if k=6 then .mk 1 0 0 s []
  else if k=9 then .mk 2 0 (27-args.length) [] (eg args)
  else if k=10 then .mk 3 0 0 [] (eg args)
  else if k=11 then .mk 2 0 23 [] (eg args)
  else if k=12 then .mk 2 0 (24+n) [] (eg args)
  else if k=13 then .mk 3 0 0 [] (mB args)
  else .mk 0 n 0 [] []
def eg:List Vl->List Nd
 | []=>[]
 | x::l=>ej x::eg l
def mB:List Vl->List Nd
 | []=>[]
 | .mk _ _ _ _ args _ _::l => .mk 2 0 28 [] (eg args)::mB l
end
def glue (acc:List Vl):List Vl×Bool->List Vl×Bool
 | (q,true)=>(acc++q,true)
 | (_,false)=>([],false)
def pK (T:Int):Vl := .mk T 0 0 [] [] [] []
mutual
def dF:Nd->Ty->Vl×Bool
 | .mk kind N P S args,t =>
  if bR t=1 then(pK 1,decide (kind=2/\P=20/\args.length=0))
  else if bR t=2 then(.mk 2 (IntKind.i64.wrap (22-P)) 0 [] [] [] [],decide (kind=2/\(P=21\/P=22)/\args.length=0))
  else if bR t=3\/bR t=4\/bR t=5\/bR t=7 then(.mk (bR t) N 0 [] [] [] [],decide (kind=0))
  else if bR t=6 then(.mk 6 0 0 S [] [] [],decide (kind=1))
  else if bR t=9 then
   if kind=2/\P=27 then(pK 9,decide (args.length=0))
   else if kind=2/\P=26 then(.mk 9 0 0 [] (eE args (aA t)).1 [] [],(eE args (aA t)).2)
   else(pK 9,false)
  else if bR t=11 then
   if kind=2/\P=23 then(.mk 11 0 0 [] (eE args (aA t)).1 [] [],(eE args (aA t)).2)
   else(pK 11,false)
  else if bR t=12 then
   if kind=2/\P=24 then(.mk 12 0 0 [] (eE args [aE t 0]).1 [] [],(eE args [aE t 0]).2)
   else if kind=2/\P=25 then(.mk 12 1 0 [] (eE args [aE t 1]).1 [] [],(eE args [aE t 1]).2)
   else(pK 12,false)
  else if bR t=10 then(.mk 10 0 0 [] (eP args (aE t 0)).1 [] [],decide (kind=3)&&(eP args (aE t 0)).2)
  else if bR t=13 then(.mk 13 0 0 [] (eo args (aA t)).1 [] [],decide (kind=3)&&(eo args (aA t)).2)
  else(pK (bR t),false)
def eE:List Nd->List Ty->List Vl×Bool
 | [],[]=>([],true)
 | x::l,t::r=>if(dF x t).2=true then glue [(dF x t).1] (eE l r)else([],false)
 | [],_::_=>([],false)
 | _::_,[]=>([],false)
def eP:List Nd->Ty->List Vl×Bool
 | [],_=>([],true)
 | x::l,t=>((dF x t).1::(eP l t).1,(dF x t).2&&(eP l t).2)
def eo:List Nd->List Ty->List Vl×Bool
 | [],_=>([],true)
 | .mk kind _ P _ xs::l,ts=>(.mk 11 0 0 [] (eE xs ts).1 [] []::(eo l ts).1,((eE xs ts).2&&decide (kind=2/\P=28))&&(eo l ts).2)
end
theorem Py (a b:List Vl) (x:List Vl×Bool):glue a (glue b x)=glue (a++b) x:=by
 obtain⟨q,c⟩:=x;cases c<;>simp[glue]
theorem Ra (x:List Vl×Bool) (h:x.2=false->x.1=[]):glue [] x=x:=by
 obtain⟨q,c⟩:=x;cases c
 ·simp at h;subst h;rfl
 ·simp[glue]
theorem Cz:∀(l:List Nd) (r:List Ty),(eE l r).2=false->(eE l r).1=[]
 | [],[],h=>by simp[eE]at h
 | [],_::_,_=>by simp[eE]
 | _::_,[],_=>by simp[eE]
 | x::l,t::r,h=>by
  simp only[eE]at h ⊢;by_cases O:(dF x t).2=true
  ·rw[if_pos O]at h ⊢;cases I:eE l r with
   | mk q c =>
    cases c with
    | false=>rfl
    | true=>rw[I]at h;cases h
  ·rw[if_neg O]
theorem I3:∀(l:List Nd) (r:List Ty),l.length≠r.length->eE l r=([],false)
 | [],[],h=>by simp at h
 | [],_::_,_=>by simp[eE]
 | _::_,[],_=>by simp[eE]
 | x::l,t::r,h=>by
  simp only[eE,I3 l r nu];split<;>rfl
mutual
theorem CA:∀(v:Vl),b8 (ej v)<=aM v
 | .mk k n a s args B H=>by
  have h1:=uu args;have h2:=CB args;simp only[ej,aM]
  repeat' split
  all_goals simp only[b8,aU,aad];omega
theorem uu:∀(l:List Vl),aU (eg l)<=aJ l
 | []=>by simp[eg,aU,aJ]
 | x::l=>by
  have h1:=CA x;have h2:=uu l;simp only[eg,aU,aJ];omega
theorem CB:∀(l:List Vl),aU (mB l)<=aJ l
 | []=>by simp[mB,aU,aJ]
 | .mk k n a s args B H::l=>by
  have h1:=uu args;have h2:=CB l;simp only[mB,aU,b8,aJ,aM,aad];omega
end
theorem Pz (a:List Vl) (x:List Vl×Bool):aJ (glue a x).1<=aJ a+aJ x.1:=by
 obtain⟨q,c⟩:=x;cases c
 ·simp[glue,aJ]
 ·simp only[glue];have:∀a b:List Vl,aJ (a++b)=aJ a+aJ b:=by
   intro a b
   induction a with
   | nil=>simp[aJ]
   | cons x a S=>simp only[List.cons_append,aJ,S];omega
  rw[this];omega
mutual
theorem vR:∀(n:Nd) (t:Ty),aM (dF n t).1<=b8 n
 | .mk kind N P S args,t=>by
  have h1:=rN args (aA t);have h2:=yz args (aE t 0);have V:=yA args (aA t);have Y:=rN args [aE t 0];have p:=rN args [aE t 1];simp only[dF,b8,pK]
  repeat' split
  all_goals simp only[aM,aJ,aY,aU,aad];omega
theorem rN:∀(l:List Nd) (r:List Ty),aJ (eE l r).1<=aU l
 | [],[]=>by simp[eE,aJ]
 | [],_::_=>by simp[eE,aJ]
 | _::_,[]=>by simp[eE,aJ]
 | x::l,t::r=>by
  have h1:=vR x t;have h2:=rN l r;simp only[eE,aU];split
  ·have:=Pz [(dF x t).1] (eE l r);simp only[aJ]at this;omega
  ·simp[aJ]
theorem yz:∀(l:List Nd) (t:Ty),aJ (eP l t).1<=aU l
 | [],_=>by simp[eP,aJ]
 | x::l,t=>by
  have h1:=vR x t;have h2:=yz l t;simp only[eP,aU,aJ];omega
theorem yA:∀(l:List Nd) (ts:List Ty),aJ (eo l ts).1<=aU l
 | [],_=>by simp[eo,aJ]
 | .mk kind N P S xs::l,ts=>by
  have h1:=rN xs ts;have h2:=yA l ts;simp only[eo,aU,b8,aJ,aM,aY,aad];omega
end
theorem kR {k n a:Int} {s:List UInt8} {args:List Vl} {B:List Ty} {H:List Nd} {t:Ty} (h:bK (.mk k n a s args B H) t=true):nr k n a args B t=true:=by
 rw[UB]at h;simp only[aai]at h;exact h.2.2.2
theorem Rb {T:Int} (h:rO T=true):T≠8/\T≠14/\T≠15:=by
 simp only[rO,aai,bne_iff_ne,ne_eq]at h;refine⟨?_,?_,?_⟩<;>(rintro rfl;simp at h)
theorem Fm {t:Ty} (h:sL rO t=true):rO (bR t)=true/\oa rO (aA t)=true:=by
 cases t with|mk T l=>simpa[sL,bR,aA]using h
theorem UC {l:List Vl} {ts:List Ty} (h1:l.length=2) (h2:ts.length=2) (h:cW l ts=true):∃x y u w,l=[x,y]/\ts=[u,w]/\bK x u=true/\bK y w=true:=by
 match l,ts,h1,h2 with
 | [x,y],[u,w],_,_ =>
  simp only[cW,aai]at h;exact⟨x,y,u,w,rfl,rfl,h.1,h.2.1⟩
theorem PB {k:Int} {m:Nat} (h:arity k=(m:Int)):1<=k/\k<=15:=by
 unfold arity at h;split at h<;>omega
theorem WV {x:Nd} {l:List Nd} {t:Ty} {r:List Ty} (h:(eE (x::l) (t::r)).2=true):(dF x t).2=true/\(eE l r).2=true/\(eE (x::l) (t::r)).1=(dF x t).1::(eE l r).1:=by
 simp only[eE]at h ⊢;by_cases O:(dF x t).2=true
 ·rw[if_pos O]at h ⊢;rcases I:eE l r with ⟨q,c⟩
  rw[I]at h;cases c
  ·simp[glue]at h
  ·exact⟨O,rfl,by simp[glue]⟩
 ·simp_all
end Go.cq
namespace Go.cq
theorem xy {x:Nd} {l:List Nd} {d:Int} (h:dg (x::l) d=0):ep x d=0/\dg l d=0:=by
 simp only[dg]at h;by_cases O:ep x d=0
 ·omega
 ·omega
mutual
theorem CC:∀(n:Nd) (t:Ty) (d:Int),sL rO t=true->gm t=false->(dF n t).2=true->bK (dF n t).1 t=true->ep n d=0->ej (dF n t).1=n
 | .mk kind N P S args,t,d,A,G,hok,h,O=>by
  obtain⟨W,U⟩:=jF O;obtain⟨_,hkd,D,I,Q,H,_,_,_⟩:=mh W;have V:=CD args;have iha:=A1 args;have ihm:=A2 args;obtain⟨Lz,B⟩:=iH G;have Y:=(Fm A).2;have hrg:=PB Lz;have hpn:=Rb (Fm A).1;clear O W A G;rcases(by omega:bR t=1\/bR t=2\/bR t=3\/bR t=4\/bR t=5\/bR t=6\/bR t=7\/bR t=9\/bR t=10\/bR t=11\/bR t=12\/bR t=13)with E|E|E|E|E|E|E|E|E|E|E|E
  all_goals rw[E]at Lz
  ·simp[dF,E]at hok;obtain⟨rfl,rfl,rfl⟩:=hok;obtain rfl:=D cc;obtain rfl:=Q cc;simp[dF,E,ej,pK]
  ·simp[dF,E]at hok;obtain⟨rfl,PC,rfl⟩:=hok;obtain rfl:=D cc;obtain rfl:=Q cc;rcases PC with rfl|rfl<;>simp[dF,E,ej,pK]<;>decide
  ·simp[dF,E]at hok;subst hok;obtain rfl:=I cc;obtain rfl:=Q cc;obtain rfl:=List.length_eq_zero_iff.1 (H cc);simp[dF,E,ej,pK]
  ·simp[dF,E]at hok;subst hok;obtain rfl:=I cc;obtain rfl:=Q cc;obtain rfl:=List.length_eq_zero_iff.1 (H cc);simp[dF,E,ej,pK]
  ·simp[dF,E]at hok;subst hok;obtain rfl:=I cc;obtain rfl:=Q cc;obtain rfl:=List.length_eq_zero_iff.1 (H cc);simp[dF,E,ej,pK]
  ·simp[dF,E]at hok;subst hok;obtain rfl:=D cc;obtain rfl:=I cc;obtain rfl:=List.length_eq_zero_iff.1 (H cc);simp[dF,E,ej,pK]
  ·simp[dF,E]at hok;subst hok;obtain rfl:=I cc;obtain rfl:=Q cc;obtain rfl:=List.length_eq_zero_iff.1 (H cc);simp[dF,E,ej,pK]
  ·by_cases J:kind=2/\P=27
   ·obtain⟨rfl,rfl⟩:=J;simp[dF,E]at hok;subst hok;obtain rfl:=D cc;obtain rfl:=Q cc;simp[dF,E,ej,pK,eg]
   ·by_cases p:kind=2/\P=26
    ·obtain⟨rfl,rfl⟩:=p;obtain rfl:=D cc;obtain rfl:=Q cc;simp[dF,E]at hok h ⊢;have M:=kR h;simp[nr]at M;have ha9:arity 9=1:=by decide
     have hts:aA t=[aE t 0]:=by
      match hh:aA t,(show(aA t).length=1 by omega)with
      | [u],_=>simp[aE,hh]
     have K:cW (eE args (aA t)).1 (aA t)=true:=by
      generalize eE args (aA t)=q at M;rw[hts]
      match hq:q.1,M with
      | [],_=>simp[cW]
      | [x],M=>simp[aR,hq]at M;simp[cW,M]
      | x::y::l,M=>simp[hq]at M
     obtain⟨C,e2,e3⟩:=V (aA t) (d+1) Y B hok K U;simp only[ej];simp only[C,e2];simp;omega
    ·simp[dF,E,J,p]at hok
  ·simp[dF,E]at hok;obtain⟨rfl,hok⟩:=hok;obtain rfl:=D cc;obtain rfl:=I cc;obtain rfl:=Q cc;simp[dF,E]at h ⊢;have M:=kR h;simp[nr]at M;have ha:arity 10=1:=by decide
   have T:aE t 0∈aA t:=kS bn;have C:=iha (aE t 0) (d+1) (rP Y T) (dr B T) hok M.2 U;simp[ej,C]
  ·by_cases J:kind=2/\P=23
   ·obtain⟨rfl,rfl⟩:=J;obtain rfl:=D cc;obtain rfl:=Q cc;simp[dF,E]at hok h ⊢;have M:=kR h;simp[nr]at M;obtain⟨C,e2,e3⟩:=V (aA t) (d+1) Y B hok M.2 U;simp[ej,C]
   ·simp[dF,E,J]at hok
  ·by_cases J:kind=2/\P=24
   ·obtain⟨rfl,rfl⟩:=J;obtain rfl:=D cc;obtain rfl:=Q cc;simp[dF,E]at hok h ⊢;have M:=kR h;simp[nr]at M;have ha:arity 12=2:=by decide
    have T:aE t 0∈aA t:=kS bn;have K:cW (eE args [aE t 0]).1 [aE t 0]=true:=by
     generalize eE args [aE t 0]=q at M
     match hq:q.1,M with
     | [],_=>simp[cW]
     | [x],M=>simp[aR,hq]at M;simp[cW,M]
     | x::y::l,M=>simp[hq]at M
    obtain⟨C,e2,e3⟩:=V [aE t 0] (d+1) (by simp only[oa,Bool.and_true];exact rP Y T) (by simp only[mD,Bool.or_false];exact dr B T) hok K U;simp[ej,C]
   ·by_cases p:kind=2/\P=25
    ·obtain⟨rfl,rfl⟩:=p;obtain rfl:=D cc;obtain rfl:=Q cc;simp[dF,E]at hok h ⊢;have M:=kR h;simp[nr]at M;have ha:arity 12=2:=by decide
     have T:aE t 1∈aA t:=kS bn;have K:cW (eE args [aE t 1]).1 [aE t 1]=true:=by
      generalize eE args [aE t 1]=q at M
      match hq:q.1,M with
      | [],_=>simp[cW]
      | [x],M=>simp[aR,hq]at M;simp[cW,M]
      | x::y::l,M=>simp[hq]at M
     obtain⟨C,e2,e3⟩:=V [aE t 1] (d+1) (by simp only[oa,Bool.and_true];exact rP Y T) (by simp only[mD,Bool.or_false];exact dr B T) hok K U;simp[ej,C]
    ·simp[dF,E,J,p]at hok
  ·simp[dF,E]at hok;obtain⟨rfl,hok⟩:=hok;obtain rfl:=D cc;obtain rfl:=I cc;obtain rfl:=Q cc;simp[dF,E]at h ⊢;have M:=kR h;simp[nr]at M;have ha:arity 13=2:=by decide
   have C:=ihm (aA t) (d+1) Y B bn hok M.1.2 U;simp[ej,C]
theorem CD:∀(l:List Nd) (ts:List Ty) (d:Int),oa rO ts=true->mD ts=false->(eE l ts).2=true->cW (eE l ts).1 ts=true->dg l d=0->eg (eE l ts).1=l/\(eE l ts).1.length=l.length/\l.length=ts.length
 | [],[],_,_,_,_,_,_=>by simp[eE,eg]
 | [],_::_,_,_,_,h,_,_=>by simp[eE]at h
 | _::_,[],_,_,_,h,_,_=>by simp[eE]at h
 | x::l,t::ts,d,A,G,hok,h,O=>by
  simp only[oa,aai]at A;simp only[mD,Bool.or_eq_false_iff]at G;obtain⟨o1,o2,o3⟩:=WV hok;obtain⟨w1,w2⟩:=xy O;rw[o3]at h ⊢;simp only[cW,aai]at h;have h1:=CC x t d A.1 G.1 o1 h.1 w1;have h2:=CD l ts d A.2 G.2 o2 h.2 w2;simp[eg,h1,h2]
theorem A1:∀(l:List Nd) (t:Ty) (d:Int),sL rO t=true->gm t=false->(eP l t).2=true->aR (eP l t).1 t=true->dg l d=0->eg (eP l t).1=l
 | [],_,_,_,_,_,_,_=>by simp[eP,eg]
 | x::l,t,d,A,G,hok,h,O=>by
  obtain⟨w1,w2⟩:=xy O;simp only[eP,aai]at hok;simp only[eP,aR,aai]at h;have h1:=CC x t d A G hok.1 h.1 w1;have h2:=A1 l t d A G hok.2 h.2 w2;simp[eP,eg,h1,h2]
theorem A2:∀(l:List Nd) (ts:List Ty) (d:Int),oa rO ts=true->mD ts=false->ts.length=2->(eo l ts).2=true->aR (eo l ts).1 (.mk 11 ts)=true->dg l d=0->mB (eo l ts).1=l
 | [],_,_,_,_,_,_,_,_=>by simp[eo,mB]
 | .mk kind N P S xs::l,ts,d,A,G,h2l,hok,h,O=>by
  obtain⟨w1,w2⟩:=xy O;obtain⟨W,U⟩:=jF w1;obtain⟨_,hkd,D,I,Q,H,_,_,_⟩:=mh W;simp only[eo,aai,decide_eq_true_eq]at hok;obtain⟨⟨I5,rfl,rfl⟩,LH⟩:=hok;obtain rfl:=D cc;obtain rfl:=Q cc;simp only[eo,aR,aai]at h;have M:=kR h.1;simp[nr,aA]at M;have h1:=CD xs ts (d+1) A G I5 M.2 U;have h2:=A2 l ts d A G h2l LH h.2 w2;simp[eo,mB,h1,h2]
end
def iC (t:Ty) (n:Nd):Vl×Int:=if bw t=true/\dG n=0/\(dF n t).2=true/\bK (dF n t).1 t=true then((dF n t).1,0)else(oL,1)
def abv (t:Ty) (v:Vl):Nd×Int:=if pL t v=true/\ga t=true then(if dG (ej v)=0 then(ej v,0)else(sM,dG (ej v)))else(sM,5)
def tU (v:Vl):List UInt8×Int:=if dG (ej v)=0 then(if 200<=(dR (ej v)).length then([],4)else(5::dR (ej v),0))else([],dG (ej v))
def abw (t:Ty) (v:Vl):List UInt8×Int:=if pL t v=true/\ga t=true then tU v else([],5)
def gA (t:Ty) (s:List UInt8):Vl×Int:=match s with
 | []=>(oL,1)
 | c::r=>if c=5/\(c::r).length<=200/\ga t=true/\(eR r).2=0 then iC t (eR r).1 else(oL,1)
theorem Fo {t:Ty} {n:Nd} (h:(iC t n).2=0):pL t (iC t n).1=true/\dG n=0/\(ga t=true->ej (iC t n).1=n):=by
 unfold iC at h ⊢;split at h
 ·rename_i E;rw[if_pos E];have G:gm t=false:=by
   cases G:gm t with
   | false=>rfl
   | true =>
    have h1:=CE t 24 300 G;rw[Fq,E.1]at h1;cases h1
  refine⟨by unfold pL;simp only[E.1,E.2.2.2];rfl,E.2.1,fun A=>?_⟩;exact CC n t 1 A G E.2.2.1 E.2.2.2 (kr.1 E.2.1).1
 ·cases h
theorem Fs (t:Ty) (n:Nd):aM (iC t n).1<=b8 n:=by
 unfold iC;split
 ·exact vR n t
 ·exact CF n
end Go.cq
namespace Go.cq
abbrev CR:=(List Ty×Bool)×Int
def ee (s:List Ty):CR:=((s,false),0)
def aP (e:Int):CR:=(([],false),e)
def fN (p:Int):List UInt8 :=
 if p=41\/p=43\/p=44 then [110]
 else if p=45 then [116,118]
 else if p=50\/p=51\/p=54\/p=56\/p=82\/p=88 then [116]
 else if p=61 then [116,116]
 else if p=52\/p=55\/p=58\/p=64 then [99,99]
 else if p=60\/p=65\/p=68 then [99]
 else if p=66 then [116,116,99]
 else []
def jc:List UInt8->List Nd->List Ty->Option (List Ty)
 | w::ws,.mk kind N P S xs::l,acc =>
  if w=110 then(if kind=0/\0<=N/\N<=40 then jc ws l acc else none)
  else if w=99 then(if kind=3 then jc ws l acc else none)
  else if w=116 then(if(aZ (.mk kind N P S xs)).2=0 then jc ws l (acc++[(aZ (.mk kind N P S xs)).1])else none)
  else jc ws l acc
 | _,_,acc=>some acc
def bN (p:Int) (args:List Nd):Option (List Ty):=if p<40\/args.length≠(fN p).length then none else jc (fN p) args []
def cT (a b:CR):CR :=
 if a.2≠0 then aP a.2 else if b.2≠0 then aP b.2 else if a.1.2=true then(b.1,0)else if b.1.2=true\/gI a.1.1 b.1.1=true then(a.1,0)else aP 5
mutual
def I6:Nd->Bool
 | .mk kind _ P _ args=>decide (kind=2/\P=84)||jt args
def jt:List Nd->Bool
 | []=>false
 | x::l=>I6 x||jt l
end
def I7:Nd->Int | .mk _ n _ _ _=>n
def cF:Nd->List Nd | .mk _ _ _ _ l=>l
def gq (P:Int) (args:List Nd) (s:List Ty):CR :=
 if P=40 then(match s with|_::r=>ee r|_=>aP 5)
 else if P=42 then(match s with|a::b::r=>ee (b::a::r)|_=>aP 5)
 else if P=41 then(if 1<=I7 (args.getD 0 sM)/\I7 (args.getD 0 sM)<=s.length/\lz (s.getD (I7 (args.getD 0 sM)-1).toNat lA)=true then ee (s.getD (I7 (args.getD 0 sM)-1).toNat lA::s)else aP 5)
 else if P=43 then(if I7 (args.getD 0 sM)<s.length then ee (s.getD (I7 (args.getD 0 sM)).toNat lA::(s.take (I7 (args.getD 0 sM)).toNat++s.drop ((I7 (args.getD 0 sM)).toNat+1)))else aP 5)
 else if P=44 then(match s with|a::r=>if I7 (args.getD 0 sM)<r.length+1 then ee (r.take (I7 (args.getD 0 sM)).toNat++a::r.drop (I7 (args.getD 0 sM)).toNat)else aP 5|_=>aP 5)
 else aP 5
def aS (S:List (List Ty->CR)) (i:Nat):List Ty->CR:=S.getD i (fun _=>aP 1)
def aW (P:Int) (S:List (List Ty->CR)) (B s:List Ty):CR :=
 if P=54 then ee (.mk 9 [B.getD 0 lA]::s)
 else if P=56 then ee (.mk 10 [B.getD 0 lA]::s)
 else match s with
  | []=>aP 5
  | a::r =>
   if P=50 then ee (.mk 12 [a,B.getD 0 lA]::r)
   else if P=51 then ee (.mk 12 [B.getD 0 lA,a]::r)
   else if P=53 then ee (.mk 9 [a]::r)
   else if P=46 then(match r with|b::q=>ee (.mk 11 [a,b]::q)|_=>aP 5)
   else if P=47 then(if bR a=11 then ee (aA a++r)else aP 5)
   else if P=48 then(if bR a=11 then ee (aE a 0::r)else aP 5)
   else if P=49 then(if bR a=11 then ee (aE a 1::r)else aP 5)
   else if P=57 then(match r with|b::q=>if bR b=10/\cP a (aE b 0)=true then ee (b::q)else aP 5|_=>aP 5)
   else if P=52 then(if bR a=12 then cT (aS S 0 (aE a 0::r)) (aS S 1 (aE a 1::r))else aP 5)
   else if P=55 then(if bR a=9 then cT (aS S 0 r) (aS S 1 (aE a 0::r))else aP 5)
   else if P=58 then(if bR a=10 then cT (aS S 0 (aE a 0::a::r)) (aS S 1 r)else aP 5)
   else aP 5
def cJ (P:Int) (S:List (List Ty->CR)) (B s:List Ty):CR :=
 if P=61 then(if fC (B.getD 0 lA)=true then ee (.mk 13 B::s)else aP 5)
 else if P=59 then(match s with|a::r=>if bR a=6\/bR a=10\/bR a=13 then ee (.mk 4 []::r)else aP 5|_=>aP 5)
 else if P=60 then(match s with|a::r=>if bR a=10\/bR a=13 then cT (aS S 0 ((if bR a=13 then .mk 11 (aA a)else aE a 0)::r)) (ee r)else aP 5|_=>aP 5)
 else if P=62 then(match s with|a::b::q=>if bR b=13/\cP a (aE b 0)=true/\lz (aE b 1)=true then ee (.mk 9 [aE b 1]::q)else aP 5|_=>aP 5)
 else if P=63 then(match s with|a::b::c::q=>if bR b=9/\bR c=13/\cP a (aE c 0)=true/\cP (aE b 0) (aE c 1)=true then ee (c::q)else aP 5|_=>aP 5)
 else aP 5
def cG (P:Int) (args:List Nd) (S:List (List Ty->CR)) (B s:List Ty):CR :=
 if P=66 then(if jt (cF (args.getD 2 sM))=true then aP 5
  else if(cT (aS S 2 [B.getD 0 lA]) (ee [B.getD 1 lA])).2≠0 then aP (cT (aS S 2 [B.getD 0 lA]) (ee [B.getD 1 lA])).2 else ee (.mk 14 B::s))
 else if P=64 then(match s with|a::r=>if bR a=2 then cT (aS S 0 r) (aS S 1 r)else aP 5|_=>aP 5)
 else if P=65 then(match s with|a::r=>if bR a=2 then(if(cT (aS S 0 r) (ee (a::r))).2≠0 then aP (cT (aS S 0 r) (ee (a::r))).2 else ee r)else aP 5|_=>aP 5)
 else if P=67 then(match s with|a::b::q=>if bR b=14/\cP a (aE b 0)=true then ee (aE b 1::q)else aP 5|_=>aP 5)
 else if P=68 then(match s with|a::r=>if(aS S 0 r).2≠0 then aP (aS S 0 r).2 else if(aS S 0 r).1.2=true then aP 1 else ee (a::(aS S 0 r).1.1)|_=>aP 5)
 else aP 5
def nk (p a b:Int):Int :=
 if a=5/\b=5/\(p=69\/p=70\/p=72)then 5
 else if p=71/\(a=5/\b=4\/a=4/\b=5)then 5
 else if p=72/\a=5/\b=4 then 5
 else if(a=3\/a=4)/\(b=3\/b=4)then(if a=4/\b=4/\p≠70 then 4 else 3)
 else 0
def bS (P:Int) (s:List Ty):CR :=
 if P=93 then(match s with|a::r=>if bR a=3 then ee (.mk 4 []::r)else aP 5|_=>aP 5)
 else if P=94 then(match s with|a::r=>if bR a=3 then ee (.mk 9 [.mk 4 []]::r)else aP 5|_=>aP 5)
 else if P=95 then(match s with|a::r=>if bR a=4 then ee (.mk 3 []::r)else aP 5|_=>aP 5)
 else if P>=93 then aP 5
 else match s with
  | a::b::q =>
   if nk P (bR a) (bR b)=0 then aP 5
   else if P=70/\nk P (bR a) (bR b)=5 then ee (.mk 9 [.mk 5 []]::q)
   else if P≠72 then ee (.mk (nk P (bR a) (bR b)) []::q)
   else ee (.mk 9 [.mk 11 [.mk (if bR a=5/\bR b=5 then 4 else nk P (bR a) (bR b)) [],.mk (if bR a=5 then 5 else 4) []]]::q)
  | _=>aP 5
def cn (P:Int) (B s:List Ty):CR :=
 match s with
 | []=>aP 5
 | a::r =>
  if P=73 then(match r with|b::q=>if cP a b=true/\fC a=true then ee (.mk 3 []::q)else aP 5|_=>aP 5)
  else if P=74\/P=75\/P=76 then(if bR a=3 then ee (.mk 2 []::r)else aP 5)
  else if P=77 then(if bR a=2 then ee (a::r)else aP 5)
  else if P=78\/P=79 then(match r with|b::q=>if bR a=2/\bR b=2 then ee (b::q)else aP 5|_=>aP 5)
  else if P=80 then(match r with|b::q=>if bR a=6/\bR b=6 then ee (b::q)else aP 5|_=>aP 5)
  else if P=81 then(if ga a=true then ee (.mk 6 []::r)else aP 5)
  else if P=82 then(if bR a=6/\ga (B.getD 0 lA)=true then ee (.mk 9 [B.getD 0 lA]::r)else aP 5)
  else if P=83 then(if ga a=true then(([],true),0)else aP 5)
  else aP 5
def bY (P:Int) (B s:List Ty):CR :=
 if P=89\/P=90 then ee (.mk 7 []::s)
 else if P=91\/P=92 then ee (.mk 5 []::s)
 else match s with
  | []=>aP 5
  | a::r =>
   if P=84 then(match r with|b::q=>if bR b=4/\fC a=true then ee (.mk 9 [.mk 15 [a]]::q)else aP 5|_=>aP 5)
   else if P=85 then(if bR a=15 then ee (.mk 11 [.mk 7 [],.mk 11 [aE a 0,.mk 4 []]]::a::r)else aP 5)
   else if P=86 then(match r with|b::q=>if bR a=15/\bR b=11/\bR (aE b 0)=4/\bR (aE b 1)=4 then ee (.mk 9 [.mk 11 [a,a]]::q)else aP 5|_=>aP 5)
   else if P=87 then(if bR a=11/\bR (aE a 0)=15/\cP (aE a 0) (aE a 1)=true then ee (.mk 9 [aE a 0]::r)else aP 5)
   else if P=88 then(match r with|b::c::q=>if bR b=5/\bR c=7/\cP a (B.getD 0 lA)=true/\ju a=true then ee (.mk 8 []::q)else aP 5|_=>aP 5)
   else aP 5
def mE (P:Int) (args:List Nd) (S:List (List Ty->CR)) (B s:List Ty):CR :=
 if P<=44 then gq P args s
 else if P=45 then(if(iC (B.getD 0 lA) (args.getD 1 sM)).2=0/\ga (B.getD 0 lA)=true then ee (B.getD 0 lA::s)else aP 5)
 else if P<=58 then aW P S B s
 else if P<=63 then cJ P S B s
 else if P<=68 then cG P args S B s
 else if P<=72\/P>=93 then bS P s
 else if P<=83 then cn P B s
 else bY P B s
def mj (r:CR):CR:=if r.2≠0 then aP r.2 else if 40<r.1.1.length then aP 7 else if r.1.1.all bw=true then(r.1,0)else aP 4
mutual
def cA:List Nd->List Ty×Bool->CR
 | [],o=>(o,0)
 | n::l,o=>if o.2=true then aP 1 else if(mj (fq n o.1)).2≠0 then aP (mj (fq n o.1)).2 else cA l (mj (fq n o.1)).1
def fq:Nd->List Ty->CR
 | .mk kind N P S args,s =>
  if kind=3 then cA args (s,false)
  else if kind≠2 then aP 1
  else match bN P args with
   | none=>aP 1
   | some B=>mE P args (bf args) B s
def bf:List Nd->List (List Ty->CR)
 | []=>[]
 | .mk _ _ _ _ a::l=>(fun s=>cA a (s,false))::bf l
end
def iP (n:Nd) (s:List Ty):CR :=
 if dG n≠0 then aP (dG n)
 else match n with
  | .mk kind _ _ _ args=>if kind≠3 then aP 1 else if 40<s.length then aP 7 else if s.all bw=true then cA args (s,false)else aP 5
def NF (a:CR):Prop:=a.2=0->a.1.2=true->a.1.1=[]
theorem tV (s:List Ty):NF (ee s):=fun _ h=>by cases h
theorem lF (e:Int):NF (aP e):=fun _ h=>by cases h
theorem mF {a b:CR} (u:NF a) (G:NF b):NF (cT a b):=by
 unfold cT;split
 ·exact lF _
 ·split
  ·exact lF _
  ·rename_i h1 h2;simp only[ne_eq,Decidable.not_not]at h1 h2;split
   ·grind
   ·split
    ·grind
    ·exact lF _
theorem xz {p:Prop} [Decidable p] {a b:CR} (h1:NF a) (h2:NF b):NF (if p then a else b):=by grind
theorem LI (P:Int) (S:List (List Ty->CR)) (B s:List Ty) (E:∀i s,NF (aS S i s)):NF (aW P S B s):=by
 unfold aW;rcases s with _|⟨a,_|⟨b,_|⟨c,s⟩⟩⟩
 all_goals
  dsimp only
  repeat' (first|exact mF (E _ _) (E _ _)|exact mF (E _ _) (tV _)|refine xz ?_ ?_)
  all_goals first|exact tV _|exact lF _|exact mF (E _ _) (E _ _)
theorem Rc (P:Int) (S:List (List Ty->CR)) (B s:List Ty) (E:∀i s,NF (aS S i s)):NF (cJ P S B s):=by
 unfold cJ;rcases s with _|⟨a,_|⟨b,_|⟨c,s⟩⟩⟩
 all_goals
  dsimp only
  repeat' (first|exact mF (E _ _) (E _ _)|exact mF (E _ _) (tV _)|refine xz ?_ ?_)
  all_goals first|exact tV _|exact lF _|exact mF (E _ _) (tV _)
theorem LJ (P:Int) (args:List Nd) (S:List (List Ty->CR)) (B s:List Ty) (E:∀i s,NF (aS S i s)):NF (cG P args S B s):=by
 unfold cG;rcases s with _|⟨a,_|⟨b,_|⟨c,s⟩⟩⟩
 all_goals
  dsimp only
  repeat' (first|exact mF (E _ _) (E _ _)|exact mF (E _ _) (tV _)|refine xz ?_ ?_)
  all_goals first|exact tV _|exact lF _|exact mF (E _ _) (E _ _)
theorem UD (P:Int) (args:List Nd) (s:List Ty):NF (gq P args s):=by
 unfold gq;rcases s with _|⟨a,_|⟨b,_|⟨c,s⟩⟩⟩
 all_goals
  dsimp only
  repeat' (refine xz ?_ ?_)
  all_goals first|exact tV _|exact lF _
theorem LK (P:Int) (s:List Ty):NF (bS P s):=by
 unfold bS;rcases s with _|⟨a,_|⟨b,_|⟨c,s⟩⟩⟩
 all_goals
  dsimp only
  repeat' (refine xz ?_ ?_)
  all_goals first|exact tV _|exact lF _
theorem UE (P:Int) (B s:List Ty):NF (cn P B s):=by
 unfold cn;rcases s with _|⟨a,_|⟨b,_|⟨c,s⟩⟩⟩
 all_goals
  dsimp only
  repeat' (refine xz ?_ ?_)
  all_goals first|exact tV _|exact lF _|exact fun _ _=>rfl
theorem Re (P:Int) (B s:List Ty):NF (bY P B s):=by
 unfold bY;rcases s with _|⟨a,_|⟨b,_|⟨c,s⟩⟩⟩
 all_goals
  dsimp only
  repeat' (refine xz ?_ ?_)
  all_goals first|exact tV _|exact lF _
theorem Rf (P:Int) (args:List Nd) (S:List (List Ty->CR)) (B s:List Ty) (E:∀i s,NF (aS S i s)):NF (mE P args S B s):=by
 unfold mE
 repeat' split
 all_goals first|exact UD _ _ _|exact tV _|exact lF _|exact LI _ _ _ _ E|exact Rc _ _ _ _ E|exact LJ _ _ _ _ _ E|exact LK _ _|exact UE _ _ _|exact Re _ _ _
theorem rQ {r:CR} (h:(mj r).2=0):r.2=0/\mj r=(r.1,0)/\r.1.1.length<=40/\r.1.1.all bw=true:=by
 unfold mj at h ⊢;by_cases h1:r.2≠0
 ·rw[if_pos h1]at h;exact absurd h h1
 rw[if_neg h1]at h ⊢;by_cases h2:40<r.1.1.length
 ·rw[if_pos h2]at h;simp[aP]at h
 rw[if_neg h2]at h ⊢;by_cases V:r.1.1.all bw=true
 ·simp_all
 ·rw[if_neg V]at h;simp[aP]at h
mutual
theorem GN:∀(l:List Nd) (o:List Ty×Bool),(o.2=true->o.1=[])->NF (cA l o)
 | [],o,h=>fun _ h2=>h h2
 | n::l,o,h=>by
  have h1:=UF n;simp only[cA];split
  ·exact lF _
  ·split
   ·exact lF _
   ·rename_i h2 V;simp only[ne_eq,Decidable.not_not]at V;obtain⟨C,U,_⟩:=rQ V;rw[U];exact GN l _ (fun hf=>h1 _ C hf)
theorem UF:∀(n:Nd) (s:List Ty),NF (fq n s)
 | .mk kind N P S args,s=>by
  have h1:=GN args (s,false) (fun h=>by cases h);have h2:=I8 args;simp only[fq];split
  ·exact h1
  ·split
   ·exact lF _
   ·split
    ·exact lF _
    ·exact Rf _ _ _ _ _ h2
theorem I8:∀(l:List Nd) (i:Nat) (s:List Ty),NF (aS (bf l) i s)
 | [],i,s=>by simp only[bf,aS,List.getD_nil];exact lF _
 | .mk k n p q a::l,0,s=>by
  have:=GN a (s,false) (fun h=>by cases h);simpa[bf,aS]using this
 | .mk k n p q a::l,i+1,s=>by
  have:=I8 l i s;simpa[bf,aS]using this
end
theorem Ft:∀(l:List Nd) (o:List Ty×Bool),o.1.all bw=true->o.1.length<=40->(cA l o).2=0->(cA l o).1.1.all bw=true/\(cA l o).1.1.length<=40
 | [],o,h1,h2,_=>⟨h1,h2⟩
 | n::l,o,h1,h2,h=>by
  simp only[cA]at h ⊢;by_cases c:o.2=true
  ·rw[if_pos c]at h;simp[aP]at h
  rw[if_neg c]at h ⊢;by_cases J:(mj (fq n o.1)).2≠0
  ·rw[if_pos J]at h;exact absurd h J
  rw[if_neg J]at h ⊢;simp only[ne_eq,Decidable.not_not]at J;obtain⟨C,U,B,K⟩:=rQ J;rw[U]at h ⊢;exact Ft l _ K B h
theorem zR {n:Nd} {s:List Ty} (h:(iP n s).2=0):(iP n s).1.1.all bw=true/\(iP n s).1.1.length<=40/\((iP n s).1.2=true->(iP n s).1.1=[]):=by
 obtain⟨kind,N,P,S,args⟩:=n;unfold iP at h ⊢;by_cases q:dG (.mk kind N P S args)≠0
 ·rw[if_pos q]at h;exact absurd h q
 rw[if_neg q]at h ⊢;simp only at h ⊢;by_cases J:kind≠3
 ·rw[if_pos J]at h;simp[aP]at h
 rw[if_neg J]at h ⊢;by_cases H:40<s.length
 ·rw[if_pos H]at h;simp[aP]at h
 rw[if_neg H]at h ⊢;by_cases c4:s.all bw=true
 ·rw[if_pos c4]at h ⊢;have g:=Ft args (s,false) c4 (by simpa using H) h;exact⟨g.1,g.2,GN args (s,false) (fun h=>by cases h) h⟩
 ·rw[if_neg c4]at h;simp[aP]at h
def ndK:Nd->Int | .mk k _ _ _ _=>k
theorem yB {n:Nd} {s:List Ty} (h:(iP n s).2=0):dG n=0/\ndK n=3/\s.length<=40/\s.all bw=true/\iP n s=cA (cF n) (s,false):=by
 obtain⟨kind,N,P,S,args⟩:=n;unfold iP at h ⊢;by_cases q:dG (.mk kind N P S args)≠0
 ·rw[if_pos q]at h;exact absurd h q
 rw[if_neg q]at h ⊢;simp only at h ⊢;by_cases J:kind≠3
 ·rw[if_pos J]at h;simp[aP]at h
 rw[if_neg J]at h ⊢;by_cases H:40<s.length
 ·rw[if_pos H]at h;simp[aP]at h
 rw[if_neg H]at h ⊢;by_cases c4:s.all bw=true
 ·rw[if_pos c4]at h ⊢;exact⟨by simpa using q,by simpa[ndK]using J,bn,c4,rfl⟩
 ·rw[if_neg c4]at h;simp[aP]at h
theorem N3 {n:Nd} {s:List Ty} (h1:dG n=0) (h2:ndK n=3):iP n s=if 40<s.length then aP 7 else if s.all bw=true then cA (cF n) (s,false)else aP 5:=by
 obtain⟨kind,N,P,S,args⟩:=n;unfold iP;rw[if_neg Um];simp only[ndK]at h2;simp only[cF];rw[if_neg Ab]
def Fr (more:List Ty) (a b:CR):Prop:=a.2=0->b.2=7\/b.2=0/\b.1.2=a.1.2/\(a.1.2=false->b.1.1=a.1.1++more)
end Go.cq
