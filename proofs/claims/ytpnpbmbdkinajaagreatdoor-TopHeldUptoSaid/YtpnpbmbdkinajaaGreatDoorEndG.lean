/- A part of the proof. -/
import Derived.Test.YtpnpbmbdkinajaaGreatDoorCtxG
set_option linter.all false
set_option maxHeartbeats 0
set_option maxRecDepth 100000
open Go.IntKind Go.Proofs.Tryz
namespace Go.cE
section
variable {P:Program}{X:Ctx}{f:FuncId}{n:Nat}{β:lu}{R:Ending->World->Prop}{K:L Item}{env:Env}
def AK.Gl(hX:cI P X){K:Func}(hf:P.funcs[f]?=some K){z:tab}{t:tad}{m:Ω}{o W:L LV}{Q Y:L (Nat×L LV)}{l:Φ}(G:sZ X z env K.results.toList=some l)
  (j:De t o l=some W)(i:EJ z t Q=some Y)(S:both (B4 (tW Y) (qi z Y++pZ 0 rk W l)) (distinct (iB (uy Y))))
  (A:W=o)(O:Y=Q):AK P X f n β (ER β o Q) [] env ⟨z,t,m⟩:=by
 subst A O;intro g w a d D;obtain⟨u,B,V⟩:=sC hX D G;obtain⟨N,M⟩:=eG S;have F:=Df j;obtain⟨I,H,T⟩:=Lt D.inv F (EL i) N M;refine⟨.returned u,w,_,⟨u,_,Z,?_,I,D.frame.trans H⟩,.one step_end,Z,Z,D.defers,Z,K,hf,B⟩;have J:=qX D.inv;show aX _ _ _
 match W,F,T with
 |[],F,T =>
  simp only[pY]at F;subst F;simp only[yu,aX,Rel];exact V
 |[x],F,T =>
  simp only[pY]at F;obtain⟨y,r,rfl,_,rfl⟩:=F;simp only[GN,fT]at T;obtain⟨b,r',U,E,_⟩:=T;simp at U;obtain⟨rfl,_⟩:=U;simp only[yu];exact(uV J E V).1
 |x::x'::r,F,T =>
  simp only[pY]at F;obtain⟨y,q,rfl,_,C,p,rfl,_,_⟩:=F;simp only[yu];refine(uV J (b := .eK (y::C::p)) ?_ V).1;simp only[Conv];exact⟨_,Z,T⟩
end
end Go.cE
