/- A part of the proof. -/
import Derived.Test.YtpnpbmbdkinajaaGreatDoorDataG
set_option linter.all false
set_option maxHeartbeats 0
set_option maxRecDepth 100000
namespace Go.cE
mutual
def I5:Ty->Bool
 |.mk T Y=>(if T=13\/T=15 then jG Y else true)&&JD Y
def JD:Γ->Bool
 |[]=>true
 |t::l=>I5 t&&JD l
end
mutual
def Mj:∀(t:Ty)(d n:Int),(gA t d n).1->I5 t
 |.mk T Y,d,n,h=>by
  simp only[gA]at h;split at h;cases h;rcases V:fy Y (d+1) (n+1)with ⟨b,m⟩
  rw[V]at h;cases b;cases h;have:=JZ Y (d+1) (n+1) (by rw[V]);simp only[I5,this,ajy];exact h
def JZ:∀(l:Γ)(d n:Int),(fy l d n).1->JD l
 |[],_,_,_=>rfl
 |t::l,d,n,h=>by
  simp only[fy]at h;rcases V:gA t d n with ⟨b,m⟩
  rw[V]at h;cases b;cases h;have Y:=Mj t d n (by rw[V]);have U:=JZ l d m h;simp[JD,Y,U]
end
def B8{t}(h:bA t):I5 t:=Mj t 1 0 h
def pX(k n a:Int)(Y:Ξ)(V:Γ)(t:Ty):Bool :=
  if k=1\/k=6 then decide (n=0/\Y.length=0)
  else if k=2 then decide (0<=n/\n<=1/\Y.length=0)
  else if k=3 then decide (-bL<=n/\n<=bL/\Y.length=0)
  else if k=4\/k=5 then decide (0<=n/\n<=bL/\Y.length=0)
  else if k=7 then decide (0<=n/\n<12/\Y.length=0)
  else if k=9 then decide (n=0/\Y.length<=1)&&aS Y (aL t 0)
  else if k=10 then decide (n=0/\Y.length<=24)&&aS Y (aL t 0)
  else if k=11 then decide (n=0/\Y.length=2)&&dM Y (aQ t)
  else if k=12 then decide (0<=n/\n<=1/\Y.length=1)&&aS Y (aL t n.toNat)
  else if k=13 then decide (n=0/\Y.length<=24)&&aS Y (.mk 11 (aQ t))&&Cu Y
  else if k=14 then cx (aL t 0) (V.getD 0 kg)&&cx (aL t 1) (V.getD 1 kg)
  else if k=15 then decide (1<=n/\n<=bL/\0<=a/\a<12/\Y.length=1)&&aS Y (aL t 0)
  else if k=8 then decide (0<=n/\n<=bL/\0<=a/\a<12/\Y.length=1)&&bA (V.getD 0 kg)&&aS Y (V.getD 0 kg)
  else false
def acV(k n a)(s:Δ)(V:Ξ)(Y:Γ)(code:Θ)(t):bJ (.mk k n a s V Y code) t=((k==cL t)&&(cG (.mk k n a s V Y code)&&(decide (s.length<=200)&&pX k n a V Y t))):=by
 by_cases h:k≠cL t\/cG (.mk k n a s V Y code)=false\/200<s.length
 ·simp only[bJ,if_pos h];rcases h with h|h|h
  simp_all;rw[h];simp;grind
 simp only[bJ,if_neg h];simp only[not_or,ne_eq,ahI,aku,Nat.not_lt]at h;rw[h.2.1,show(k==cL t) from by simpa using h.1,show decide (s.length<=200) from by simpa using h.2.2];rfl
def ane(v:Vl)(Y W S:Bool)(T U:Int)(V:Bool):Bool:=match v with
 |.mk _ n a s l Q code=>(Y||n==0)&&((W||a==0)&&((S||s.isEmpty)&&(decide ((l.length:Int)=T)&&(decide ((Q.length:Int)=U)&&(V||decide (code.length=0))))))
end Go.cE
open Go.IntKind Go.Proofs.Tryz
namespace Go.cE
mutual
def fI:Vl->Nd
 |.mk k n _ s Y _ _ =>
  if k=1 then .mk 2 0 20 [] []
  else if k=2 then .mk 2 0 (22-n) [] []
  else if k=6 then .mk 1 0 0 s []
  else if k=9 then .mk 2 0 (27-Y.length) [] (fF Y)
  else if k=10 then .mk 3 0 0 [] (fF Y)
  else if k=11 then .mk 2 0 23 [] (fF Y)
  else if k=12 then .mk 2 0 (24+n) [] (fF Y)
  else if k=13 then .mk 3 0 0 [] (oV Y)
  else .mk 0 n 0 [] []
def fF:Ξ->Θ
 |[]=>[]
 |x::l=>fI x::fF l
def oV:Ξ->Θ
 |[]=>[]
 |.mk _ _ _ _ Y _ _::l => .mk 2 0 28 [] (fF Y)::oV l
end
def glue(Y:Ξ):Ξ×Bool->Ξ×Bool
 |(q,true)=>(Y++q,true)
 |(_,false)=>([],false)
def qQ(T:Int):Vl := .mk T 0 0 [] [] [] []
mutual
def dW:Nd->Ty->Vl×Bool
 |.mk T N P S Y,t =>
  if cL t=1 then(qQ 1,decide (T=2/\P=20/\Y.length=0))
  else if cL t=2 then(.mk 2 (i64.wrap (22-P)) 0 [] [] [] [],decide (T=2/\(P=21\/P=22)/\Y.length=0))
  else if cL t=3\/cL t=4\/cL t=5\/cL t=7 then(.mk (cL t) N 0 [] [] [] [],decide (T=0))
  else if cL t=6 then(.mk 6 0 0 S [] [] [],decide (T=1))
  else if cL t=9 then
   if T=2/\P=27 then(qQ 9,decide (Y.length=0))
   else if T=2/\P=26 then(.mk 9 0 0 [] (eL Y (aQ t)).1 [] [],(eL Y (aQ t)).2)
   else(qQ 9,false)
  else if cL t=11 then
   if T=2/\P=23 then(.mk 11 0 0 [] (eL Y (aQ t)).1 [] [],(eL Y (aQ t)).2)
   else(qQ 11,false)
  else if cL t=12 then
   if T=2/\P=24 then(.mk 12 0 0 [] (eL Y [aL t 0]).1 [] [],(eL Y [aL t 0]).2)
   else if T=2/\P=25 then(.mk 12 1 0 [] (eL Y [aL t 1]).1 [] [],(eL Y [aL t 1]).2)
   else(qQ 12,false)
  else if cL t=10 then(.mk 10 0 0 [] (eM Y (aL t 0)).1 [] [],decide (T=3)&&(eM Y (aL t 0)).2)
  else if cL t=13 then(.mk 13 0 0 [] (eC Y (aQ t)).1 [] [],decide (T=3)&&(eC Y (aQ t)).2)
  else(qQ (cL t),false)
def eL:Θ->Γ->Ξ×Bool
 |[],[]=>([],true)
 |x::l,t::r=>if(dW x t).2=true then glue [(dW x t).1] (eL l r)else([],false)
 |[],_::_=>([],false)
 |_::_,[]=>([],false)
def eM:Θ->Ty->Ξ×Bool
 |[],_=>([],true)
 |x::l,t=>((dW x t).1::(eM l t).1,(dW x t).2&&(eM l t).2)
def eC:Θ->Γ->Ξ×Bool
 |[],_=>([],true)
 |.mk T _ P _ V::l,Y=>(.mk 11 0 0 [] (eL V Y).1 [] []::(eC l Y).1,((eL V Y).2&&decide (T=2/\P=28))&&(eC l Y).2)
end
def Xb(a b)x:glue a (glue b x)=glue (a++b) x:=by obtain⟨q,c⟩:=x;cases c<;>simp[glue]
def Zp(x:Ξ×Bool)(h:x.2=false->x.1=[]):glue [] x=x:=by obtain⟨q,c⟩:=x;cases c;simp at h;subst h;rfl;rfl
def HN:∀l r,(eL l r).2=false->(eL l r).1=[]
 |[],[],h=>by simp[eL]at h
 |[],_::_,_=>by simp[eL]
 |_::_,[],_=>by simp[eL]
 |x::l,t::r,h=>by
  simp only[eL]at h ⊢;by_cases O:(dW x t).2
  ·rw[if_pos O]at h ⊢;cases V:eL l r with
   |mk q c =>
    cases c with
    |false=>rfl
    |true=>rw[V]at h;cases h
  simp_all
def HO:∀l r,l.length≠r.length->eL l r=([],false)
 |[],[],h=>by simp at h
 |[],_::_,_=>by simp[eL]
 |_::_,[],_=>by simp[eL]
 |x::l,t::r,h=>by simp only[eL,HO l r nu];split<;>rfl
mutual
def HP:∀(v:Vl),bE (fI v)<=aG v
 |.mk k n a s Y V code=>by
  have U:=zD Y;have T:=HQ Y;simp only[fI,aG]
  repeat' split
  all_goals simp only[bE,aP,aav];omega
def zD:∀(l:Ξ),aP (fF l)<=aH l
 |[]=>by simp[fF,aP,aH]
 |x::l=>by have Y:=HP x;have V:=zD l;simp only[fF,aP,aH];omega
def HQ:∀(l:Ξ),aP (oV l)<=aH l
 |[]=>by simp[oV,aP,aH]
 |.mk k n a s Y V code::l=>by have U:=zD Y;have T:=HQ l;simp only[oV,aP,bE,aH,aG,aav];omega
end
def Xc(a x):aH (glue a x).1<=aH a+aH x.1:=by
 obtain⟨q,c⟩:=x;cases c;simp[glue,aH];simp only[glue];have:∀a b:Ξ,aH (a++b)=aH a+aH b:=by
  intro a b
  induction a with
  |nil=>simp[aH]
  |cons x a S=>simp only[ahk,aH];omega
 rw[this];omega
mutual
def AG:∀(n:Nd)(t:Ty),aG (dW n t).1<=bE n
 |.mk T N P S V,t=>by
  have U:=wj V (aQ t);have Q:=CO V (aL t 0);have B:=CP V (aQ t);have Y:=wj V [aL t 0];have W:=wj V [aL t 1];simp only[dW,bE,qQ]
  repeat' split
  all_goals simp only[aG,aH,bf,aP,aav];omega
def wj:∀(l:Θ)(r:Γ),aH (eL l r).1<=aP l
 |[],[]=>by simp[eL,aH]
 |[],_::_=>by simp[eL,aH]
 |_::_,[]=>by simp[eL,aH]
 |x::l,t::r=>by have Y:=AG x t;have V:=wj l r;simp only[eL,aP];split;have:=Xc [(dW x t).1] (eL l r);simp only[aH]at this;omega;simp[aH]
def CO:∀(l:Θ)(t:Ty),aH (eM l t).1<=aP l
 |[],_=>by simp[eM,aH]
 |x::l,t=>by have Y:=AG x t;have V:=CO l t;simp only[eM,aP,aH];omega
def CP:∀(l:Θ)(Y:Γ),aH (eC l Y).1<=aP l
 |[],_=>by simp[eC,aH]
 |.mk T N P S V::l,Y=>by have U:=wj V Y;have Q:=CP l Y;simp only[eC,aP,bE,aH,aG,bf,aav];omega
end
def nk{k n a}{s:Δ}{V:Ξ}{Y:Γ}{code:Θ}{t}(h:bJ (.mk k n a s V Y code) t):pX k n a V Y t:=by rw[acV]at h;simp at h;exact h.2.2.2
def Zq{T}(h:uK T):T≠8/\T≠14/\T≠15:=by simp only[uK,aaI,aln]at h;omega
def La{t}(h:vE uK t):uK (cL t)/\oW uK (aQ t):=by cases t with|mk T l=>simpa[vE,cL,aQ]using h
def acW{l Y}(V:l.length=2)(U:Y.length=2)(h:dM l Y):∃x y u w,l=[x,y]/\Y=[u,w]/\bJ x u/\bJ y w:=by
 match l,Y,V,U with
 |[x,y],[u,w],_,_ =>
  simp only[dM]at h;grind
def Xd{k}{m:Nat}(h:arity k=m):1<=k/\k<=15:=by unfold arity at h;split at h<;>omega
def afU{x}{l:Θ}{t}{r:Γ}(h:(eL (x::l) (t::r)).2):(dW x t).2/\(eL l r).2/\(eL (x::l) (t::r)).1=(dW x t).1::(eL l r).1:=by
 simp only[eL]at h ⊢;by_cases O:(dW x t).2
 ·rw[if_pos O]at h ⊢;rcases V:eL l r with ⟨q,c⟩
  rw[V]at h;cases c;simp[glue]at h;exact⟨O,Z,by simp[glue]⟩
 grind
def BL{x}{l:Θ}{d}(h:dJ (x::l) d=0):fG x d=0/\dJ l d=0:=by simp only[dJ]at h;omega
mutual
def HS:∀(n:Nd)(t:Ty)(d:Int),vE uK t->iS t=false->(dW n t).2->bJ (dW n t).1 t->fG n d=0->fI (dW n t).1=n
 |.mk T N P S z,t,d,M,U,F,h,D=>by
  obtain⟨J,K⟩:=kY D;obtain⟨_,ω,V,p,O,E,_,_,_⟩:=oC J;have Q:=HT z;have j:=Fx z;have i:=Fy z;obtain⟨SC,C⟩:=jw U;have W:=(La M).2;have ψ:=Xd SC;have χ:=Zq (La M).1;clear D J M U;rcases(by omega:cL t=1\/cL t=2\/cL t=3\/cL t=4\/cL t=5\/cL t=6\/cL t=7\/cL t=9\/cL t=10\/cL t=11\/cL t=12\/cL t=13)with Y|Y|Y|Y|Y|Y|Y|Y|Y|Y|Y|Y
  all_goals rw[Y]at SC
  simp[dW,Y]at F;obtain⟨rfl,rfl,rfl⟩:=F;obtain rfl:=V bn;obtain rfl:=O bn;simp[dW,Y,fI,qQ]
  ·simp[dW,Y]at F;obtain⟨rfl,WJ,rfl⟩:=F;obtain rfl:=V bn;obtain rfl:=O bn;rcases WJ with rfl|rfl<;>simp[dW,Y,fI,qQ]<;>decide
  simp[dW,Y]at F;subst F;obtain rfl:=p bn;obtain rfl:=O bn;obtain rfl:=List.length_eq_zero_iff.1 (E bn);simp[dW,Y,fI,qQ];simp[dW,Y]at F;subst F;obtain rfl:=p bn;obtain rfl:=O bn;obtain rfl:=List.length_eq_zero_iff.1 (E bn);simp[dW,Y,fI,qQ];simp[dW,Y]at F;subst F;obtain rfl:=p bn;obtain rfl:=O bn;obtain rfl:=List.length_eq_zero_iff.1 (E bn);simp[dW,Y,fI,qQ];simp[dW,Y]at F;subst F;obtain rfl:=V bn;obtain rfl:=p bn;obtain rfl:=List.length_eq_zero_iff.1 (E bn);simp[dW,Y,fI,qQ];simp[dW,Y]at F;subst F;obtain rfl:=p bn;obtain rfl:=O bn;obtain rfl:=List.length_eq_zero_iff.1 (E bn);simp[dW,Y,fI,qQ]
  ·by_cases G:T=2/\P=27;obtain⟨rfl,rfl⟩:=G;simp[dW,Y]at F;subst F;obtain rfl:=V bn;obtain rfl:=O bn;simp[dW,Y,fI,qQ,fF];by_cases o:T=2/\P=26
   ·obtain⟨rfl,rfl⟩:=o;obtain rfl:=V bn;obtain rfl:=O bn;simp[dW,Y]at F h ⊢;have I:=nk h;simp[pX]at I;have υ:arity 9=1:=(by decide);have f:aQ t=[aL t 0]:=by
     match hh:aQ t,(show(aQ t).length=1 by omega)with
     |[u],_=>simp[aL,hh]
    have B:dM (eL z (aQ t)).1 (aQ t):=by
     generalize eL z (aQ t)=q at I;rw[f]
     match r:q.1,I with
     |[],_=>simp[dM]
     |[x],I=>simp[aS,r]at I;simp[dM,I]
     |x::y::l,I=>simp[r]at I
    obtain⟨A,m,b⟩:=Q (aQ t) (d+1) W C F B K;simp only[fI];simp only[A,m];simp;omega
   simp[dW,Y,G,o]at F
  simp[dW,Y]at F;obtain⟨rfl,F⟩:=F;obtain rfl:=V bn;obtain rfl:=p bn;obtain rfl:=O bn;simp[dW,Y]at h ⊢;have I:=nk h;simp[pX]at I;have a:arity 10=1:=(by decide);have H:aL t 0∈aQ t:=nq ai;have A:=j (aL t 0) (d+1) (wo W H) (dP C H) F I.2 K;simp[fI,A];by_cases G:T=2/\P=23;obtain⟨rfl,rfl⟩:=G;obtain rfl:=V bn;obtain rfl:=O bn;simp[dW,Y]at F h ⊢;have I:=nk h;simp[pX]at I;obtain⟨A,m,b⟩:=Q (aQ t) (d+1) W C F I.2 K;simp[fI,A];simp[dW,Y,G]at F
  ·by_cases G:T=2/\P=24
   ·obtain⟨rfl,rfl⟩:=G;obtain rfl:=V bn;obtain rfl:=O bn;simp[dW,Y]at F h ⊢;have I:=nk h;simp[pX]at I;have a:arity 12=2:=(by decide);have H:aL t 0∈aQ t:=nq ai;have B:dM (eL z [aL t 0]).1 [aL t 0]:=by
     generalize eL z [aL t 0]=q at I
     match r:q.1,I with
     |[],_=>simp[dM]
     |[x],I=>simp[aS,r]at I;simp[dM,I]
     |x::y::l,I=>simp[r]at I
    obtain⟨A,m,b⟩:=Q [aL t 0] (d+1) (by simp only[oW,ajy];exact wo W H) (by simp only[oX,Bool.or_false];exact dP C H) F B K;simp[fI,A]
   by_cases o:T=2/\P=25
   ·obtain⟨rfl,rfl⟩:=o;obtain rfl:=V bn;obtain rfl:=O bn;simp[dW,Y]at F h ⊢;have I:=nk h;simp[pX]at I;have a:arity 12=2:=(by decide);have H:aL t 1∈aQ t:=nq ai;have B:dM (eL z [aL t 1]).1 [aL t 1]:=by
     generalize eL z [aL t 1]=q at I
     match r:q.1,I with
     |[],_=>simp[dM]
     |[x],I=>simp[aS,r]at I;simp[dM,I]
     |x::y::l,I=>simp[r]at I
    obtain⟨A,m,b⟩:=Q [aL t 1] (d+1) (by simp only[oW,ajy];exact wo W H) (by simp only[oX,Bool.or_false];exact dP C H) F B K;simp[fI,A]
   simp[dW,Y,G,o]at F
  simp[dW,Y]at F;obtain⟨rfl,F⟩:=F;obtain rfl:=V bn;obtain rfl:=p bn;obtain rfl:=O bn;simp[dW,Y]at h ⊢;have I:=nk h;simp[pX]at I;have a:arity 13=2:=by decide
  have A:=i (aQ t) (d+1) W C ai F I.1.2 K;simp[fI,A]
def HT:∀(l:Θ)(Y:Γ)(d:Int),oW uK Y->oX Y=false->(eL l Y).2->dM (eL l Y).1 Y->dJ l d=0->fF (eL l Y).1=l/\(eL l Y).1.length=l.length/\l.length=Y.length
 |[],[],_,_,_,_,_,_=>by simp[eL,fF]
 |[],_::_,_,_,_,h,_,_=>by simp[eL]at h
 |_::_,[],_,_,_,h,_,_=>by simp[eL]at h
 |x::l,t::Y,d,M,U,hok,h,D=>by simp only[oW,aaI]at M;simp only[oX,aiw]at U;obtain⟨V,T,S⟩:=afU hok;obtain⟨Q,P⟩:=BL D;rw[S]at h ⊢;simp only[dM,aaI]at h;have O:=HS x t d M.1 U.1 V h.1 Q;have N:=HT l Y d M.2 U.2 T h.2 P;simp[fF,O,N]
def Fx:∀(l:Θ)(t:Ty)(d:Int),vE uK t->iS t=false->(eM l t).2->aS (eM l t).1 t->dJ l d=0->fF (eM l t).1=l
 |[],_,_,_,_,_,_,_=>by simp[eM,fF]
 |x::l,t,d,M,U,hok,h,D=>by obtain⟨Y,V⟩:=BL D;simp only[eM,aaI]at hok;simp only[eM,aS,aaI]at h;have T:=HS x t d M U hok.1 h.1 Y;have S:=Fx l t d M U hok.2 h.2 V;simp[eM,fF,T,S]
def Fy:∀(l:Θ)(Y:Γ)(d:Int),oW uK Y->oX Y=false->Y.length=2->(eC l Y).2->aS (eC l Y).1 (.mk 11 Y)->dJ l d=0->oV (eC l Y).1=l
 |[],_,_,_,_,_,_,_,_=>by simp[eC,oV]
 |.mk T N P S Q::l,Y,d,M,U,h2l,hok,h,D=>by obtain⟨F,C⟩:=BL D;obtain⟨J,K⟩:=kY F;obtain⟨_,B,V,p,O,E,_,_,_⟩:=oC J;simp only[eC,aaI,aiP]at hok;obtain⟨⟨A,rfl,rfl⟩,Te⟩:=hok;obtain rfl:=V bn;obtain rfl:=O bn;simp only[eC,aS,aaI]at h;have I:=nk h.1;simp[pX,aQ]at I;have z:=HT Q Y (d+1) M U A I.2 K;have y:=Fy l Y d M U h2l Te h.2 C;simp[eC,oV,z,y]
end
def gV(t:Ty)(n:Nd):Vl×Int:=if bA t=true/\ey n=0/\(dW n t).2/\bJ (dW n t).1 t then((dW n t).1,0)else(jl,1)
def akT(t:Ty)(v:Vl):Nd×Int:=if oJ t v=true/\iF t then(if ey (fI v)=0 then(fI v,0)else(rX,ey (fI v)))else(rX,5)
def yl(v:Vl):Δ×Int:=if ey (fI v)=0 then(if 200<=(fj (fI v)).length then([],4)else(5::fj (fI v),0))else([],ey (fI v))
def akU(t:Ty)(v:Vl):Δ×Int:=if oJ t v=true/\iF t then yl v else([],5)
def jg(t:Ty)(s:Δ):Vl×Int:=match s with
 |[]=>(jl,1)
 |c::r=>if c=5/\(c::r).length<=200/\iF t/\(gu r).2=0 then gV t (gu r).1 else(jl,1)
def D7{t n}(h:(gV t n).2=0):oJ t (gV t n).1/\ey n=0/\(iF t->fI (gV t n).1=n):=by
 unfold gV at h ⊢;split at h
 ·rename_i D;rw[if_pos D];have U:iS t=false:=by
   cases U:iS t with
   |false=>rfl
   |true =>
    have Y:=HU t 24 300 U;rw[Lb,D.1]at Y;cases Y
  refine⟨by unfold oJ;simp only[D.1,D.2.2.2];rfl,D.2.1,λM=>?_⟩;exact HS n t 1 M U D.2.2.1 D.2.2.2 (lF.1 D.2.1).1
 cases h
def AF(t n):aG (gV t n).1<=bE n:=by unfold gV;split;exact AG n t;exact HV n
abbrev CR:=(L Ty×Bool)×Int
def fO(s:Γ):CR:=((s,false),0)
def br(e:Int):CR:=(([],false),e)
def iq(p:Int):Δ :=
 if p=41\/p=43\/p=44 then [110]
 else if p=45 then [116,118]
 else if p=50\/p=51\/p=54\/p=56\/p=82\/p=88 then [116]
 else if p=61 then [116,116]
 else if p=52\/p=55\/p=58\/p=64 then [99,99]
 else if p=60\/p=65\/p=68 then [99]
 else if p=66 then [116,116,99]
 else []
def lq:Δ->Θ->Γ->Option (Γ)
 |w::ws,.mk kind N P S V::l,Y =>
  if w=110 then(if kind=0/\0<=N/\N<=40 then lq ws l Y else none)
  else if w=99 then(if kind=3 then lq ws l Y else none)
  else if w=116 then(if(aM (.mk kind N P S V)).2=0 then lq ws l (Y++[(aM (.mk kind N P S V)).1])else none)
  else lq ws l Y
 |_,_,Y=>some Y
def bB(p:Int)(Y:Θ):Option (Γ):=if p<40\/Y.length≠(iq p).length then none else lq (iq p) Y []
def cJ(a b:CR):CR :=
 if a.2≠0 then br a.2 else if b.2≠0 then br b.2 else if a.1.2=true then(b.1,0)else if b.1.2=true\/gS a.1.1 b.1.1 then(a.1,0)else br 5
mutual
def Fi:Nd->Bool
 |.mk T _ P _ Y=>decide (T=2/\P=84)||dH Y
def dH:Θ->Bool
 |[]=>false
 |x::l=>Fi x||dH l
end
def DX:Nd->Int | .mk _ n _ _ _=>n
def cw:Nd->Θ | .mk _ _ _ _ l=>l
def iK(P:Int)(Y:Θ)(s:Γ):CR :=
 if P=40 then(match s with|_::r=>fO r|_=>br 5)
 else if P=42 then(match s with|a::b::r=>fO (b::a::r)|_=>br 5)
 else if P=41 then(if 1<=DX (Y.getD 0 rX)/\DX (Y.getD 0 rX)<=s.length/\jI (s.getD (DX (Y.getD 0 rX)-1).toNat kg)=true then fO (s.getD (DX (Y.getD 0 rX)-1).toNat kg::s)else br 5)
 else if P=43 then(if DX (Y.getD 0 rX)<s.length then fO (s.getD (DX (Y.getD 0 rX)).toNat kg::(s.take (DX (Y.getD 0 rX)).toNat++s.drop ((DX (Y.getD 0 rX)).toNat+1)))else br 5)
 else if P=44 then(match s with|a::r=>if DX (Y.getD 0 rX)<r.length+1 then fO (r.take (DX (Y.getD 0 rX)).toNat++a::r.drop (DX (Y.getD 0 rX)).toNat)else br 5|_=>br 5)
 else br 5
def dQ(Y:L (Γ->CR))(i:Nat):Γ->CR:=Y.getD i (λ_=>br 1)
def dh(P:Int)(Y:L (Γ->CR))(V s:Γ):CR :=
 if P=54 then fO (.mk 9 [V.getD 0 kg]::s)
 else if P=56 then fO (.mk 10 [V.getD 0 kg]::s)
 else match s with
  |[]=>br 5
  |a::r =>
   if P=50 then fO (.mk 12 [a,V.getD 0 kg]::r)
   else if P=51 then fO (.mk 12 [V.getD 0 kg,a]::r)
   else if P=53 then fO (.mk 9 [a]::r)
   else if P=46 then(match r with|b::q=>fO (.mk 11 [a,b]::q)|_=>br 5)
   else if P=47 then(if cL a=11 then fO (aQ a++r)else br 5)
   else if P=48 then(if cL a=11 then fO (aL a 0::r)else br 5)
   else if P=49 then(if cL a=11 then fO (aL a 1::r)else br 5)
   else if P=57 then(match r with|b::q=>if cL b=10/\cx a (aL b 0) then fO (b::q)else br 5|_=>br 5)
   else if P=52 then(if cL a=12 then cJ (dQ Y 0 (aL a 0::r)) (dQ Y 1 (aL a 1::r))else br 5)
   else if P=55 then(if cL a=9 then cJ (dQ Y 0 r) (dQ Y 1 (aL a 0::r))else br 5)
   else if P=58 then(if cL a=10 then cJ (dQ Y 0 (aL a 0::a::r)) (dQ Y 1 r)else br 5)
   else br 5
def jc(P:Int)(V:L (Γ->CR))(Y s:Γ):CR :=
 if P=61 then(if fZ (Y.getD 0 kg)=true then fO (.mk 13 Y::s)else br 5)
 else if P=59 then(match s with|a::r=>if cL a=6\/cL a=10\/cL a=13 then fO (.mk 4 []::r)else br 5|_=>br 5)
 else if P=60 then(match s with|a::r=>if cL a=10\/cL a=13 then cJ (dQ V 0 ((if cL a=13 then .mk 11 (aQ a)else aL a 0)::r)) (fO r)else br 5|_=>br 5)
 else if P=62 then(match s with|a::b::q=>if cL b=13/\cx a (aL b 0)/\jI (aL b 1) then fO (.mk 9 [aL b 1]::q)else br 5|_=>br 5)
 else if P=63 then(match s with|a::b::c::q=>if cL b=9/\cL c=13/\cx a (aL c 0)/\cx (aL b 0) (aL c 1) then fO (c::q)else br 5|_=>br 5)
 else br 5
def dY(P:Int)(U:Θ)(Y:L (Γ->CR))(V s:Γ):CR :=
 if P=66 then(if dH (cw (U.getD 2 rX))=true then br 5
  else if(cJ (dQ Y 2 [V.getD 0 kg]) (fO [V.getD 1 kg])).2≠0 then br (cJ (dQ Y 2 [V.getD 0 kg]) (fO [V.getD 1 kg])).2 else fO (.mk 14 V::s))
 else if P=64 then(match s with|a::r=>if cL a=2 then cJ (dQ Y 0 r) (dQ Y 1 r)else br 5|_=>br 5)
 else if P=65 then(match s with|a::r=>if cL a=2 then(if(cJ (dQ Y 0 r) (fO (a::r))).2≠0 then br (cJ (dQ Y 0 r) (fO (a::r))).2 else fO r)else br 5|_=>br 5)
 else if P=67 then(match s with|a::b::q=>if cL b=14/\cx a (aL b 0) then fO (aL b 1::q)else br 5|_=>br 5)
 else if P=68 then(match s with|a::r=>if(dQ Y 0 r).2≠0 then br (dQ Y 0 r).2 else if(dQ Y 0 r).1.2=true then br 1 else fO (a::(dQ Y 0 r).1.1)|_=>br 5)
 else br 5
def nU(p a b:Int):Int :=
 if a=5/\b=5/\(p=69\/p=70\/p=72)then 5
 else if p=71/\(a=5/\b=4\/a=4/\b=5)then 5
 else if p=72/\a=5/\b=4 then 5
 else if(a=3\/a=4)/\(b=3\/b=4)then(if a=4/\b=4/\p≠70 then 4 else 3)
 else 0
def eU(P:Int)(s:Γ):CR :=
 if P=93 then(match s with|a::r=>if cL a=3 then fO (.mk 4 []::r)else br 5|_=>br 5)
 else if P=94 then(match s with|a::r=>if cL a=3 then fO (.mk 9 [.mk 4 []]::r)else br 5|_=>br 5)
 else if P=95 then(match s with|a::r=>if cL a=4 then fO (.mk 3 []::r)else br 5|_=>br 5)
 else if P>=93 then br 5
 else match s with
  |a::b::q =>
   if nU P (cL a) (cL b)=0 then br 5
   else if P=70/\nU P (cL a) (cL b)=5 then fO (.mk 9 [.mk 5 []]::q)
   else if P≠72 then fO (.mk (nU P (cL a) (cL b)) []::q)
   else fO (.mk 9 [.mk 11 [.mk (if cL a=5/\cL b=5 then 4 else nU P (cL a) (cL b)) [],.mk (if cL a=5 then 5 else 4) []]]::q)
  |_=>br 5
def kj(P:Int)(Y s:Γ):CR :=
 match s with
 |[]=>br 5
 |a::r =>
  if P=73 then(match r with|b::q=>if cx a b=true/\fZ a then fO (.mk 3 []::q)else br 5|_=>br 5)
  else if P=74\/P=75\/P=76 then(if cL a=3 then fO (.mk 2 []::r)else br 5)
  else if P=77 then(if cL a=2 then fO (a::r)else br 5)
  else if P=78\/P=79 then(match r with|b::q=>if cL a=2/\cL b=2 then fO (b::q)else br 5|_=>br 5)
  else if P=80 then(match r with|b::q=>if cL a=6/\cL b=6 then fO (b::q)else br 5|_=>br 5)
  else if P=81 then(if iF a=true then fO (.mk 6 []::r)else br 5)
  else if P=82 then(if cL a=6/\iF (Y.getD 0 kg)=true then fO (.mk 9 [Y.getD 0 kg]::r)else br 5)
  else if P=83 then(if iF a=true then(([],true),0)else br 5)
  else br 5
def iL(P:Int)(Y s:Γ):CR :=
 if P=89\/P=90 then fO (.mk 7 []::s)
 else if P=91\/P=92 then fO (.mk 5 []::s)
 else match s with
  |[]=>br 5
  |a::r =>
   if P=84 then(match r with|b::q=>if cL b=4/\fZ a then fO (.mk 9 [.mk 15 [a]]::q)else br 5|_=>br 5)
   else if P=85 then(if cL a=15 then fO (.mk 11 [.mk 7 [],.mk 11 [aL a 0,.mk 4 []]]::a::r)else br 5)
   else if P=86 then(match r with|b::q=>if cL a=15/\cL b=11/\cL (aL b 0)=4/\cL (aL b 1)=4 then fO (.mk 9 [.mk 11 [a,a]]::q)else br 5|_=>br 5)
   else if P=87 then(if cL a=11/\cL (aL a 0)=15/\cx (aL a 0) (aL a 1) then fO (.mk 9 [aL a 0]::r)else br 5)
   else if P=88 then(match r with|b::c::q=>if cL b=5/\cL c=7/\cx a (Y.getD 0 kg)=true/\gk a then fO (.mk 8 []::q)else br 5|_=>br 5)
   else br 5
def mJ(P:Int)(U:Θ)(V:L (Γ->CR))(Y s:Γ):CR :=
 if P<=44 then iK P U s
 else if P=45 then(if(gV (Y.getD 0 kg) (U.getD 1 rX)).2=0/\iF (Y.getD 0 kg)=true then fO (Y.getD 0 kg::s)else br 5)
 else if P<=58 then dh P V Y s
 else if P<=63 then jc P V Y s
 else if P<=68 then dY P U V Y s
 else if P<=72\/P>=93 then eU P s
 else if P<=83 then kj P Y s
 else iL P Y s
def nH(r:CR):CR:=if r.2≠0 then br r.2 else if 40<r.1.1.length then br 7 else if r.1.1.all bA=true then(r.1,0)else br 4
mutual
def bU:Θ->Γ×Bool->CR
 |[],o=>(o,0)
 |n::l,o=>if o.2=true then br 1 else if(nH (gf n o.1)).2≠0 then br (nH (gf n o.1)).2 else bU l (nH (gf n o.1)).1
def gf:Nd->Γ->CR
 |.mk T N P S Y,s =>
  if T=3 then bU Y (s,false)
  else if T≠2 then br 1
  else match bB P Y with
   |none=>br 1
   |some V=>mJ P Y (b8 Y) V s
def b8:Θ->L (Γ->CR)
 |[]=>[]
 |.mk _ _ _ _ a::l=>(λs=>bU a (s,false))::b8 l
end
def jR(n:Nd)(s:Γ):CR :=
 if ey n≠0 then br (ey n)
 else match n with
  |.mk T _ _ _ Y=>if T≠3 then br 1 else if 40<s.length then br 7 else if s.all bA=true then bU Y (s,false)else br 5
def NF(a:CR):Prop:=a.2=0->a.1.2->a.1.1=[]
def ym(s):NF (fO s):=λ_ h=>by cases h
def nO(e):NF (br e):=λ_ h=>by cases h
def oY{a b}(Y:NF a)(U:NF b):NF (cJ a b):=by unfold cJ;split;exact nO _;split;exact nO _;rename_i V T;split;grind;split;grind;exact nO _
def BM{p}[Decidable p]{a b}(Y:NF a)(V:NF b):NF (if p then a else b):=by grind
def Tf(P)(Y:L (Γ->CR))(V s)(D:∀i s,NF (dQ Y i s)):NF (dh P Y V s):=by
 unfold dh;rcases s with _|⟨a,_|⟨b,_|⟨c,s⟩⟩⟩
 all_goals
  repeat' (first|exact oY (D _ _) (D _ _)|exact oY (D _ _) (ym _)|refine BM ?_ ?_)
  all_goals first|exact ym _|exact nO _|exact oY (D _ _) (D _ _)
def Zr(P)(Y:L (Γ->CR))(V s)(D:∀i s,NF (dQ Y i s)):NF (jc P Y V s):=by
 unfold jc;rcases s with _|⟨a,_|⟨b,_|⟨c,s⟩⟩⟩
 all_goals
  repeat' (first|exact oY (D _ _) (D _ _)|exact oY (D _ _) (ym _)|refine BM ?_ ?_)
  all_goals first|exact ym _|exact nO _|exact oY (D _ _) (ym _)
def Tg(P U)(Y:L (Γ->CR))(V s)(D:∀i s,NF (dQ Y i s)):NF (dY P U Y V s):=by
 unfold dY;rcases s with _|⟨a,_|⟨b,_|⟨c,s⟩⟩⟩
 all_goals
  repeat' (first|exact oY (D _ _) (D _ _)|exact oY (D _ _) (ym _)|refine BM ?_ ?_)
  all_goals first|exact ym _|exact nO _|exact oY (D _ _) (D _ _)
def acX(P Y s):NF (iK P Y s):=by
 unfold iK;rcases s with _|⟨a,_|⟨b,_|⟨c,s⟩⟩⟩
 all_goals
  repeat' (refine BM ?_ ?_)
  all_goals first|exact ym _|exact nO _
def Th(P s):NF (eU P s):=by
 unfold eU;rcases s with _|⟨a,_|⟨b,_|⟨c,s⟩⟩⟩
 all_goals
  repeat' (refine BM ?_ ?_)
  all_goals first|exact ym _|exact nO _
def acY(P Y s):NF (kj P Y s):=by
 unfold kj;rcases s with _|⟨a,_|⟨b,_|⟨c,s⟩⟩⟩
 all_goals
  repeat' (refine BM ?_ ?_)
  all_goals first|exact ym _|exact nO _|exact λ_ _=>rfl
def Zs(P Y s):NF (iL P Y s):=by
 unfold iL;rcases s with _|⟨a,_|⟨b,_|⟨c,s⟩⟩⟩
 all_goals
  repeat' (refine BM ?_ ?_)
  all_goals first|exact ym _|exact nO _
def Zt(P U)(Y:L (Γ->CR))(V s)(D:∀i s,NF (dQ Y i s)):NF (mJ P U Y V s):=by
 unfold mJ
 repeat' split
 all_goals first|exact acX _ _ _|exact ym _|exact nO _|exact Tf _ _ _ _ D|exact Zr _ _ _ _ D|exact Tg _ _ _ _ _ D|exact Th _ _|exact acY _ _ _|exact Zs _ _ _
def vW{r}(h:(nH r).2=0):r.2=0/\nH r=(r.1,0)/\r.1.1.length<=40/\r.1.1.all bA:=by unfold nH at h ⊢;by_cases Y:r.2≠0;rw[if_pos Y]at h;exact absurd h Y;rw[if_neg Y]at h ⊢;by_cases V:40<r.1.1.length;rw[if_pos V]at h;simp[br]at h;rw[if_neg V]at h ⊢;by_cases B:r.1.1.all bA;grind;rw[if_neg B]at h;simp[br]at h
mutual
def MM:∀(l:Θ)(o:Γ×Bool),(o.2->o.1=[])->NF (bU l o)
 |[],o,h=>λ_ Y=>h Y
 |n::l,o,h=>by have V:=acZ n;simp only[bU];split;exact nO _;split;exact nO _;rename_i Y B;simp at B;obtain⟨A,Q,_⟩:=vW B;rw[Q];exact MM l _ (λhf=>V _ A hf)
def acZ:∀(n:Nd)(s:Γ),NF (gf n s)
 |.mk T N P S Y,s=>by have U:=MM Y (s,false) (λh=>by cases h);have V:=P7 Y;simp only[gf];split;omega;split;exact nO _;split;exact nO _;exact Zt _ _ _ _ _ V
def P7:∀(l:Θ)(i:Nat)(s:Γ),NF (dQ (b8 l) i s)
 |[],i,s=>by simp only[dQ];exact nO _
 |.mk k n p q a::l,0,s=>by have:=MM a (s,false) (λh=>by cases h);simpa[b8,dQ]using this
 |.mk k n p q a::l,i+1,s=>by have:=P7 l i s;simpa[b8,dQ]using this
end
def Lc:∀l o,o.1.all bA->o.1.length<=40->(bU l o).2=0->(bU l o).1.1.all bA/\(bU l o).1.1.length<=40
 |[],o,Y,U,_=>⟨Y,U⟩
 |n::l,o,Y,U,h=>by simp only[bU]at h ⊢;by_cases c:o.2;rw[if_pos c]at h;simp[br]at h;rw[if_neg c]at h ⊢;by_cases u:(nH (gf n o.1)).2≠0;rw[if_pos u]at h;exact absurd h u;simp at u;obtain⟨A,Q,K,V⟩:=vW u;rw[Q]at h ⊢;exact Lc l _ V K h
def D3{n s}(h:(jR n s).2=0):(jR n s).1.1.all bA/\(jR n s).1.1.length<=40/\((jR n s).1.2->(jR n s).1.1=[]):=by obtain⟨T,N,P,S,Y⟩:=n;unfold jR at h ⊢;by_cases G:ey (.mk T N P S Y)≠0;rw[if_pos G]at h;exact absurd h G;rw[if_neg G]at h ⊢;simp only at h ⊢;by_cases u:T≠3;rw[if_pos u]at h;simp[br]at h;rw[if_neg u]at h ⊢;by_cases B:40<s.length;rw[if_pos B]at h;simp[br]at h;rw[if_neg B]at h ⊢;by_cases c4:s.all bA;rw[if_pos c4]at h ⊢;have g:=Lc Y (s,false) c4 (by simpa using B) h;exact⟨g.1,g.2,MM Y (s,false) (λh=>by cases h) h⟩;rw[if_neg c4]at h;simp[br]at h
def ndK:Nd->Int | .mk k _ _ _ _=>k
def sr{n s}(h:(jR n s).2=0):ey n=0/\ndK n=3/\s.length<=40/\s.all bA/\jR n s=bU (cw n) (s,false):=by obtain⟨T,N,P,S,Y⟩:=n;unfold jR at h ⊢;by_cases G:ey (.mk T N P S Y)≠0;rw[if_pos G]at h;exact absurd h G;rw[if_neg G]at h ⊢;simp only at h ⊢;by_cases u:T≠3;rw[if_pos u]at h;simp[br]at h;rw[if_neg u]at h ⊢;by_cases B:40<s.length;rw[if_pos B]at h;simp[br]at h;rw[if_neg B]at h ⊢;by_cases c4:s.all bA;rw[if_pos c4]at h ⊢;exact⟨Rl,by simpa[ndK]using u,ai,c4,rfl⟩;rw[if_neg c4]at h;simp[br]at h
def ac0{n s}(h1:ey n=0)(V:ndK n=3):jR n s=if 40<s.length then br 7 else if s.all bA=true then bU (cw n) (s,false)else br 5:=by obtain⟨T,N,P,S,Y⟩:=n;unfold jR;rw[if_neg ae2];simp only[ndK]at V;simp only[cw];simp_all
def Fr(more:Γ)(a b:CR):Prop:=a.2=0->b.2=7\/b.2=0/\b.1.2=a.1.2/\(a.1.2=false->b.1.1=a.1.1++more)
mutual
def Fz:Ty->Bool
 |.mk T Y=>decide (arity T=Y.length)&&BN Y
def BN:Γ->Bool
 |[]=>true
 |t::l=>Fz t&&BN l
end
mutual
def HW:∀(t:Ty)(d n:Int),n<=300->(gA t d n).1->Fz t/\(gA t d n).2=n+bh t
 |.mk T U,d,n,I,h=>by
  simp only[gA]at h ⊢;by_cases c:d>24\/n+1>300\/arity T≠U.length;simp_all;rw[if_neg c]at h ⊢;have S:=FA U (d+1) (n+1) ai;rcases V:fy U (d+1) (n+1)with ⟨b,m⟩
  rw[V]at h S;cases b with
  |false=>simp at h
  |true =>
   obtain⟨P,Y⟩:=S rfl;refine⟨?_,?_⟩;have:arity T=U.length:=(by omega);simp[Fz,this,P];simp only[bh];omega
def FA:∀(l:Γ)(d n:Int),n<=300->(fy l d n).1->BN l/\(fy l d n).2=n+bf l
 |[],d,n,I,h=>by simp[fy,BN,bf]
 |t::l,d,n,I,h=>by
  simp only[fy]at h ⊢;have S:=HW t d n I;have u:=wu t d n I;rcases V:gA t d n with ⟨b,m⟩
  rw[V]at h S u;cases b with
  |false=>simp at h
  |true =>
   obtain⟨P,Y⟩:=S rfl;have W:=u.2.2 Z;obtain⟨U,Q⟩:=FA l d m W h;refine⟨by simp[BN,P,U],?_⟩;simp only[bf];omega
end
def mN(t:Ty):Prop:=Fz t/\bh t<=300
def bw{t}(h:bA t):mN t:=by obtain⟨Y,V⟩:=HW t 1 0 ai h;have B:=(wu t 1 0 ai).2.2 h;exact⟨Y,ai⟩
def HX:∀{l x},BN l->x∈l->Fz x
 |t::l,x,h,O=>by
  simp only[BN,aaI]at h;rcases List.mem_cons.1 O with rfl|O
  grind;exact HX h.2 O
def sM{T}{l:Γ}(h:mN (.mk T l)):arity T=l.length/\∀x∈l,mN x:=by obtain⟨Y,V⟩:=h;simp only[Fz,aaI,aiP,bh]at Y V;exact⟨Y.1,λx O=>⟨HX Y.2 O,by have:=cN O;omega⟩⟩
def dD{T}{l:Γ}(h:mN (.mk T l))(Y:arity T=1):∃x,l=[x]/\mN x:=by
 obtain⟨V,U⟩:=sM h;rcases l with _|⟨x,_|⟨y,l⟩⟩
 simp_all;grind;grind
def dr{T}{l:Γ}(h:mN (.mk T l))(Y:arity T=2):∃x y,l=[x,y]/\mN x/\mN y:=by
 obtain⟨V,U⟩:=sM h;rcases l with _|⟨x,_|⟨y,_|⟨z,l⟩⟩⟩
 simp_all;simp_all;grind;grind
def CQ{T U}{l:Γ}(h:mN (.mk T l))(Y:arity T=arity U):mN (.mk U l):=by obtain⟨V,S⟩:=h;simp only[Fz,Y]at V S;exact⟨by simpa[Fz]using V,by simpa[bh]using S⟩
def um(s:Γ):Prop:=∀t∈s,mN t
def qS{t}{s:Γ}(h:um (t::s)):mN t/\um s:=⟨h t (by simp),λx O=>h x (by simp[O])⟩
def nr{t s}(V:mN t)(Y:um s):um (t::s):=λx O=>by
 rcases List.mem_cons.1 O with rfl|O
 omega;exact Y x O
def Vu:um []:=λx O=>by simp at O
def vX{s}(h:s.all bA):um s:=λt C=>bw (List.all_eq_true.1 h t C)
def ki{n}(h:(aM n).2=0):bA (aM n).1:=by unfold aM at h ⊢;split at h;grind;simp at h
def dO{P V U}(h:bB P V=some U)(Y:iq P=[]):V=[]/\U=[]:=by
 unfold bB at h;rw[Y]at h;split at h;grind;rename_i c;rcases V with _|⟨x,l⟩
 simp[lq]at h;exact⟨Z,h⟩;grind
def Mt{P V U}(h:bB P V=some U)(Y:iq P=[110]):∃N p S T,V=[.mk 0 N p S T]/\0<=N/\N<=40/\U=[]:=by
 unfold bB at h;rw[Y]at h;split at h;grind;rename_i c;rcases V with _|⟨⟨k,N,p,S,T⟩,_|⟨y,l⟩⟩
 grind;simp[lq]at h;simp_all;grind
def AH{P V U}(h:bB P V=some U)(Y:iq P=[116]):∃x t,V=[x]/\U=[t]/\mN t:=by
 unfold bB at h;rw[Y]at h;split at h;grind;rename_i c;rcases V with _|⟨⟨k,N,p,S,T⟩,_|⟨y,l⟩⟩
 grind;simp[lq]at h;exact⟨_,_,Z,h.2.symm,bw (ki h.1)⟩;grind
def Zu{P T Q}(h:bB P T=some Q)(Y:iq P=[116,118]):∃x y t,T=[x,y]/\Q=[t]/\mN t:=by
 unfold bB at h;rw[Y]at h;split at h;grind;rename_i c;rcases T with _|⟨⟨k,N,p,S,O⟩,_|⟨⟨M,V,U,u,W⟩,_|⟨z,l⟩⟩⟩
 grind;grind;simp[lq]at h;exact⟨_,_,_,Z,h.2.symm,bw (ki h.1)⟩;grind
def Zv{P Q O}(h:bB P Q=some O)(Y:iq P=[116,116]):∃x y t u,Q=[x,y]/\O=[t,u]/\mN t/\mN u:=by
 unfold bB at h;rw[Y]at h;split at h;grind;rename_i c;rcases Q with _|⟨⟨k,N,p,S,M⟩,_|⟨⟨K,V,U,T,W⟩,_|⟨z,l⟩⟩⟩
 grind;grind;simp[lq]at h;exact⟨_,_,_,_,Z,h.2.2.symm,bw (ki h.1),bw (ki h.2.1)⟩;grind
def MN{P V U}(h:bB P V=some U)(Y:iq P=[99]):∃N p S T,V=[.mk 3 N p S T]/\U=[]:=by
 unfold bB at h;rw[Y]at h;split at h;grind;rename_i c;rcases V with _|⟨⟨k,N,p,S,T⟩,_|⟨y,l⟩⟩
 grind;simp[lq]at h;simp_all;grind
def CS{P U T}(h:bB P U=some T)(I:iq P=[99,99]):∃N p S Q W V u Y,U=[.mk 3 N p S Q,.mk 3 W V u Y]/\T=[]:=by
 unfold bB at h;rw[I]at h;split at h;grind;rename_i c;rcases U with _|⟨⟨k,N,p,S,Q⟩,_|⟨⟨O,W,V,u,Y⟩,_|⟨z,l⟩⟩⟩
 grind;grind;simp[lq]at h;simp_all;grind
def KP{P M K}(h:bB P M=some K)(I:iq P=[116,116,99]):∃x y N p S J t u,M=[x,y,.mk 3 N p S J]/\K=[t,u]/\mN t/\mN u:=by
 unfold bB at h;rw[I]at h;split at h;grind;rename_i c;rcases M with _|⟨⟨k,N,p,S,J⟩,_|⟨⟨C,T,Q,O,W⟩,_|⟨⟨E,V,G,U,Y⟩,_|⟨w,l⟩⟩⟩⟩
 grind;grind;grind;simp[lq]at h;obtain⟨F,D,rfl,B⟩:=h;exact⟨_,_,V,G,U,Y,_,_,Z,B.symm,bw (ki F),bw (ki D)⟩;grind
def Fk(x)(l:Θ):b8 (x::l)=(λs=>bU (cw x) (s,false))::b8 l:=by cases x;simp only[b8,cw]
def VG(e):um (br e).1.1:=λx O=>by simp[br]at O
def mu:∀l o,um o.1->um (bU l o).1.1/\(bU l o).1.1.length<=o.1.length+40
 |[],o,h=>by simp only[bU];exact⟨h,ai⟩
 |n::l,o,h=>by simp only[bU];split;exact⟨VG _,by simp[br]⟩;split;exact⟨VG _,by simp[br]⟩;rename_i V h2;obtain⟨T,Y,I,N⟩:=vW (r:=gf n o.1) VK;have S:=mu l (nH (gf n o.1)).1;rw[Y]at S ⊢;simp only at S ⊢;refine⟨(S (vX N)).1,?_⟩;have:=P8 l (gf n o.1).1 I;omega
where
 P8:∀(l:Θ)(o:Γ×Bool),o.1.length<=40->(bU l o).1.1.length<=40
 |[],o,h=>by simp only[bU];exact h
 |n::l,o,h=>by simp only[bU];split;simp[br];split;simp[br];rename_i h1 h2;obtain⟨a1,a2,a3,a4⟩:=vW (r:=gf n o.1) VK;rw[a2];exact P8 l _ a3
end Go.cE
