/- A part of the proof. -/
import Derived.Test.YtpnpbmbdkinajaaGreatDoorChkCG
set_option linter.all false
set_option maxHeartbeats 0
set_option maxRecDepth 100000
namespace Go.Proofs
open Go.cE
def jn{k n a}{s:Δ}{U:Ξ}{V:Γ}{code:Θ}{t}(h:bJ (.mk k n a s U V code) t):k=cL t/\cG (.mk k n a s U V code)/\s.length<=200:=by
 unfold bJ at h;by_cases Y:k≠cL t\/cG (.mk k n a s U V code)=false\/200<s.length;grind;refine⟨aip λK=>Y (.inl K),?_,ai⟩;cases T:cG (.mk k n a s U V code)with
 |true=>rfl
 |false=>exact absurd (.inr (.inl T)) Y
def gN{v T}{S:Γ}(Y:T=2\/T=3\/T=4\/T=5\/T=7)(h:bJ v (.mk T S)):∃n,v=aO T n/\bJ (aO T n) (.mk T S):=by
 obtain⟨k,n,a,s,U,V,code⟩:=v;obtain⟨I,M,W⟩:=jn h;subst I;have:U=[]/\a=0/\s=[]/\V=[]/\code=[]:=by rcases Y with rfl|rfl|rfl|rfl|rfl<;>simp[bJ,cG]at h M<;>simp_all
 obtain⟨rfl,rfl,rfl,rfl,rfl⟩:=this;exact⟨n,Z,h⟩
def Rw{v}{Y:Γ}(h:bJ v (.mk 2 Y)):v=aO 2 0\/v=aO 2 1:=by
 obtain⟨n,rfl,h⟩:=gN (.inl rfl) h;have:0<=n/\n<=1:=by simpa[bJ,cG,aO,cL]using h
 grind
def pG{T n}{Y:Γ}(h:(T=2/\0<=n/\n<=1)\/(T=3 /\ -bL<=n/\n<=bL)\/(T=4/\0<=n/\n<=bL)\/(T=5/\0<=n/\n<=bL)\/(T=7/\0<=n/\n<12)):bJ (aO T n) (.mk T Y)/\fE (aO T n):=by
 rcases h with ⟨rfl,h⟩|⟨rfl,h⟩|⟨rfl,h⟩|⟨rfl,h⟩|⟨rfl,h⟩
 all_goals simp[bJ,cG,aO,cL,fE,eo,h]
def Ua{T n}{Y:Γ}(h:bJ (aO T n) (.mk T Y)):(T=2->0<=n/\n<=1)/\(T=3 -> -bL<=n/\n<=bL)/\(T=4->0<=n/\n<=bL)/\(T=5->0<=n/\n<=bL)/\(T=7->0<=n/\n<12):=by refine⟨?_,?_,?_,?_,?_⟩<;>(rintro rfl;simpa[bJ,cG,aO,cL]using h)
def mL{v t u}(h:bJ v (.mk 11 [t,u]))(Y:fE v):∃x y,v=aU x y/\(bJ x t/\fE x)/\(bJ y u/\fE y):=by
 obtain⟨k,n,a,s,V,U,code⟩:=v;obtain⟨I,M,_⟩:=jn h;subst I;simp[cG]at M;simp[bJ,cG,cL,aQ]at h;obtain⟨rfl,rfl,rfl,rfl⟩:=M;rcases V with _|⟨x,_|⟨y,_|⟨z,r⟩⟩⟩
 grind;grind;simp[dM,fE,eo]at h Y;exact⟨x,y,by rw[h.1];rfl,⟨h.2.1,Y.1⟩,⟨h.2.2,Y.2⟩⟩;grind
def kX{x y t u}(Y:bJ x t/\fE x)(V:bJ y u/\fE y):bJ (aU x y) (.mk 11 [t,u])/\fE (aU x y):=by simp[aU,bJ,cG,cL,aQ,dM,fE,eo,Y,V]
def Ds{v t}(h:bJ v (.mk 9 [t]))(Y:fE v):v=cr []\/∃x,v=cr [x]/\bJ x t/\fE x:=by
 obtain⟨k,n,a,s,V,U,code⟩:=v;obtain⟨I,M,_⟩:=jn h;subst I;simp[cG]at M;simp[bJ,cG,cL]at h;obtain⟨rfl,rfl,rfl,rfl⟩:=M;rcases V with _|⟨x,_|⟨y,r⟩⟩
 exact .inl (by simp at h;rw[h.1];rfl);simp[aS,fE,eo]at h Y;exact .inr ⟨x,by rw[h.1];rfl,h.2,Y⟩;grind
def pH{t}:bJ (cr []) (.mk 9 [t])/\fE (cr []):=by simp[cr,bJ,cG,cL,aS,fE,eo]
def kz{x t}(h:bJ x t/\fE x):bJ (cr [x]) (.mk 9 [t])/\fE (cr [x]):=by simp[cr,bJ,cG,cL,aL,aQ,aS,fE,eo,h]
def oT{v t}(h:bJ v (.mk 10 [t]))(Y:fE v):∃l,v = .mk 10 0 0 [] l [] []/\l.length<=24/\aS l t/\eo l:=by obtain⟨k,n,a,s,V,U,code⟩:=v;obtain⟨I,M,_⟩:=jn h;simp only[cL]at I;subst I;simp[cG]at M;simp[bJ]at h;obtain⟨rfl,rfl,rfl,rfl⟩:=M;exact⟨V,by rw[h.2.1.1],h.2.1.2,h.2.2,Y⟩
def Dq{l t}(E:l.length<=24)(h:aS l t)(Y:eo l):bJ (.mk 10 0 0 [] l [] []) (.mk 10 [t])/\fE (.mk 10 0 0 [] l [] []):=by simp[bJ,cG,cL,aL,aQ,fE,h,Y,E]
def N7{v t u}(h:bJ v (.mk 12 [t,u]))(Y:fE v):∃x,(v = .mk 12 0 0 [] [x] [] []/\bJ x t\/v = .mk 12 1 0 [] [x] [] []/\bJ x u)/\fE x:=by
 obtain⟨k,n,a,s,V,U,code⟩:=v;obtain⟨I,M,_⟩:=jn h;subst I;simp[cG]at M;simp[bJ,cL]at h;obtain⟨rfl,rfl,rfl,rfl⟩:=M;rcases V with _|⟨x,_|⟨y,r⟩⟩
 grind
 ·simp[aS,fE,eo]at h Y;rcases(show n=0\/n=1 by omega)with rfl|rfl
  exact⟨x,.inl ⟨Z,by simpa[aL,aQ]using h.2⟩,Y⟩;exact⟨x,.inr ⟨Z,by simpa[aL,aQ]using h.2⟩,Y⟩
 grind
def adK{x t u}(h:bJ x t/\fE x):bJ (.mk 12 0 0 [] [x] [] []) (.mk 12 [t,u])/\fE (.mk 12 0 0 [] [x] [] []):=by simp[bJ,cG,cL,aL,aQ,aS,fE,eo,h]
def adL{x t u}(h:bJ x u/\fE x):bJ (.mk 12 1 0 [] [x] [] []) (.mk 12 [t,u])/\fE (.mk 12 1 0 [] [x] [] []):=by simp[bJ,cG,cL,aL,aQ,aS,fE,eo,h]
end Go.Proofs
