/- A part of the proof. -/
import Derived.Test.YtpnpbmbdkinajaaGreatDoorChn10G
set_option linter.all false
set_option maxHeartbeats 0
set_option maxRecDepth 100000
open Go.IntKind Go.Proofs.Tryz
namespace Go.Proofs
open Go.cE
def uF:pQ vz:=⟨Z,by decide +kernel,λa Y=>by
 have:a=s9\/∃b,a=Mw b:=by simp only[vz,aim,List.not_mem_nil,or_false]at Y;rcases Y with rfl|rfl|rfl|rfl|rfl|rfl|rfl|rfl|rfl|rfl|rfl|rfl<;>first|exact .inl Z|exact .inr ⟨_,Z⟩
 rcases this with rfl|⟨b,rfl⟩
 exact⟨bn,bn,bn⟩
 exact⟨by show bh kg+bh kg<=_;decide,by show aP []<=_;decide,by show aG jl<=_;decide⟩⟩
def Py:sK:=⟨0,1,3,0,[⟨1,2,7,.mk 2 0 20 [] [],.mk 0 0 0 [] [],.mk 0 0 0 [] [],.mk 0 0 0 [] []⟩]⟩
def akD:((iV vz Py).2.code=0/\(iV vz Py).2.done=1)/\(aR (iV vz Py).1 2).cK=1000007/\(iV vz Py).1.fu=3:=by decide +kernel
def yB(b:sK):Prop:=∀o∈b.ops,vw o
def Vw:yB Py:=by intro o Y;simp only[Py,ait]at Y;subst Y;exact⟨bn,bn,bn,bn⟩
def BG(b:sK):sK:={b with bC:=if 3000<b.bC then 3000 else b.bC}
def O4:Nat->eF->List sK->eF
 |0,l,_=>l
 |_+1,l,[]=>l
 |n+1,l,b::r=>O4 n (iV l (BG b)).1 r
def hD:List sK->Ψ
 |[]=>[]
 |b::l=>qc b::hD l
def zb:∀l,(hD l).length=l.length
 |[]=>rfl
 |x::l=>by simp only[hD,aat,zb l]
def zd:∀(l)(k:Nat)(o),l[k]?=some o->(hD l)[k]?=some (qc o)
 |[],k,o,h=>by simp at h
 |x::l,0,o,h=>by simp at h;subst h;rfl
 |x::l,k+1,o,h=>by simp only[aky]at h;exact zd l k o h
def CG{b}(h:yB b):yB (BG b)/\(BG b).bC<=3000:=⟨h,by show(if 3000<b.bC then(3000:Int)else b.bC)<=3000;split<;>omega⟩
def oP{l}(E:pQ l){b}(U:yB b)(N:b.bC<=3000):pQ (iV l b).1:=(acA E N U).1
def SQ:∀(n){l Y},pQ l->(∀b∈Y,yB b)->pQ (O4 n l Y)
 |0,l,Y,h,_=>h
 |n+1,l,[],h,_=>h
 |n+1,l,b::r,h,V=>SQ n (oP h (CG (V b cS)).1 (CG (V b cS)).2) λx O=>V x Ko
def Vx n{l Y}(h:pQ l)(U:∀b∈Y,yB b):(O4 n l Y).aI.length=12:=(SQ n h U).h12
attribute [local irreducible] AK ag aZ bS de cA cq di gL eF.cF eF.iZ wB wF gl
def Fm:af 16 [] (.bool true):=by
 have I:=D2;have t:=qN uF Py bn Vw;have F:=oP uF Vw bn;obtain⟨⟨z,B⟩,h4,y⟩:=akD;generalize iV vz Py=x at *;generalize vz=L0 at *;obtain⟨Ll,⟨code,done,V,U,O⟩⟩:=x;simp only at F z B h4 y t;subst z B;have Q:=F.h12;have W:=gm (l:=Ll) (i:=2) Q bn bn;generalize aR Ll 2=a at *;obtain⟨T,cK,S,⟨P,M⟩,⟨sT,C⟩,cd,⟨K,E,J,q,H,G,D⟩⟩:=a;simp only at h4;subst h4;obtain⟨A,Y⟩:=oM (i:=2) W;have u:=Y 1 _ Z;clear Y;have N:=y8 Q;rw[y]at N;have p:Nat.blt 2 12:=rfl;refine qn func16 call16 λr hf=>?_
 repeat' (first|exact wq|refine wz ?_)
def wp{p:Prop}(h:p:=by exact uQ hf (iN Z Z Z Z (fq (by assumption) Z Z) Z) (Hq _ Z) Z):p:=h
end Go.Proofs
namespace Go.Proofs
open Go.cE Go.ChangeShapes Go.WideShapes Go.ChangeAt Go.RowKit
def Zf(k:Nat)(o:uz):Prop:=bE o.arg<=k/\bE o.t0<=k/\bE o.t1<=k/\bE o.code<=k
def acQ(k:Nat)(b:sK):Prop:=∀o∈b.ops,Zf k o
def afQ:CV->Nat->Prop:=λc k=>∃o:uz,c = .agg (WR o)/\Zf k o
def acR:CV->Nat->Prop:=λc k=>∃b:sK,c=qc b/\acQ k b
def qz{k m:Nat}{o:uz}(h:Zf k o)(Y:k<=m):Zf m o:=⟨aiq h.1 Y,aiq h.2.1 Y,aiq h.2.2.1 Y,aiq h.2.2.2 Y⟩
def P4:∀{V:Ψ}{m:Nat},Bp afQ V m->∃l:List uz,V=fz l/\∀o∈l,Zf m o
 |[],m,_=>⟨[],Z,λo Y=>by simp at Y⟩
 |r::V,m,⟨k,m',⟨t,h1,U⟩,h4,h5⟩=>by
  obtain⟨l,A,Q⟩:=P4 h4;refine⟨t::l,afR,λo Y=>?_⟩;rcases List.mem_cons.1 Y with rfl|Y
  exact qz U ai;exact qz (Q o Y) ai
def K7:∀{V:Ψ}{m:Nat},Bp acR V m->∃l:List sK,V=hD l/\∀b∈l,acQ m b
 |[],m,_=>⟨[],Z,λo Y=>by simp at Y⟩
 |r::V,m,⟨k,m',⟨t,h1,U⟩,h4,h5⟩=>by
  obtain⟨l,A,Q⟩:=K7 h4;refine⟨t::l,afR,λo Y=>?_⟩;rcases List.mem_cons.1 Y with rfl|Y
  exact λx O=>qz (U x O) ai;exact λx O=>qz (Q o Y x O) ai
def P5:Tryz.prog.cellsOf 68=23:=by kernel_rfl
def Xa:Tryz.prog.cellsOf 23=1:=by kernel_rfl
def Eg:Tryz.prog.cellsOf 66=10:=by kernel_rfl
def K8:Tryz.prog.cellsOf 25=5:=by kernel_rfl
section
variable {H:Type}{enc:TypeId×Value->H}{W:World}
def ahQ(m:Nat):RD (H:=H) enc Tryz.prog W YtpnpbmbdkinajaaGreatDoor.Rows.uptoBulk m 68 afQ:=by
 cases m with
 |zero=>exact RD.zero
 |succ m =>
  refine RD.mono (RD.struct jJ Tryz.underlying68 Z (Rs:=[CM,CM,CM,RNd,λc m=>∃l,c = .agg l/\∃J,HK RNd 2 l J/\J+1<=m,RNd]) (λk I=>?_) ?_) (acd _) ?_
  ·refine⟨_,_,Z,Z,RD.int jJ Tryz.underlying3,_,_,Z,ab4,RD.int jJ Tryz.underlying3,_,_,Z,ab4,RD.int jJ Tryz.underlying3,
    _,_,Z,ab4,Ze k k (acd _),_,_,Z,by rw[eO,tD],?_,_,_,Z,by rw[eO,tD,Eg],Ze k k (acd _),Z⟩
   cases k with
   |zero=>exact RD.zero
   |succ k=>exact RD.array jJ Tryz.underlying66 (by rw[Eg,tD]) (Ze k k (acd _))
  simp only[List.map,nj,eO,tD,Eg,P5];rintro c k ⟨l,rfl,J,C,u⟩;obtain⟨G,Q,P,O,rfl,⟨T,rfl,_,F⟩,⟨c2,k2,l2,m2,rfl,⟨B,rfl,_,M⟩,⟨c3,k3,l3,m3,rfl,⟨S,rfl,_,N⟩,⟨c4,k4,l4,m4,rfl,⟨t1,rfl,_,K⟩,⟨c5,k5,l5,m5,rfl,⟨lx,rfl,m6,⟨ca,ka,la,ma,rfl,⟨Y,rfl,_,E⟩,⟨cb,kb,lb,mb,rfl,⟨V,rfl,_,D⟩,hlb,gd⟩,gc⟩,g5⟩,⟨c6,k6,l6,m8,rfl,⟨U,rfl,_,A⟩,rfl,g8⟩,g9⟩,g10⟩,g11⟩,g12⟩,g13⟩:=C;subst hlb;refine⟨⟨T,B,S,t1,Y,V,U⟩,?_,by show bE t1<=k;omega,by show bE Y<=k;omega,by show bE V<=k;omega,by show bE U<=k;omega⟩;cases t1;cases Y;cases V;cases U;rfl
def aev(m:Nat):RD (H:=H) enc Tryz.prog W YtpnpbmbdkinajaaGreatDoor.Rows.uptoBulk m 25 acR:=by
 cases m with
 |zero=>exact RD.zero
 |succ m =>
  refine RD.mono (RD.struct jJ Tryz.underlying25 Z (Rs:=[CM,CM,CM,CM,Rsl 23 afQ]) (λk I=>?_) ?_) (acd _) ?_
  ·exact⟨_,_,Z,Z,RD.int jJ Tryz.underlying3,_,_,Z,ab4,RD.int jJ Tryz.underlying3,_,_,Z,ab4,RD.int jJ Tryz.underlying3,
    _,_,Z,ab4,RD.int jJ Tryz.underlying3,_,_,Z,ab4,Ta Tryz.underlying23 P5 bn (λq z=>ahQ q),Z⟩
  simp only[List.map,nj,eO,Xa,K8];rintro c k ⟨l,rfl,J,C,u⟩;obtain⟨S,Q,P,O,rfl,⟨Y,rfl,_,y⟩,⟨c2,k2,l2,m2,rfl,⟨B,rfl,_,M⟩,⟨c3,k3,l3,m3,rfl,⟨V,rfl,_,N⟩,⟨c4,k4,l4,m4,rfl,⟨U,rfl,_,E⟩,⟨c5,k5,l5,m5,rfl,⟨F,rfl,D,G,A⟩,rfl,g6⟩,g7⟩,g8⟩,g9⟩,g10⟩:=C;obtain⟨ops,rfl,K⟩:=P4 G;exact⟨⟨Y,B,V,U,ops⟩,Z,λo T=>qz (K o T) ai⟩
set_option maxRecDepth 100000 in
def HL{v:Value}{d:DataW H}{U:L MemPlace}{T:Nat}{r:Reach}(V:Value.okWide Tryz.prog W r T 22 v)(S:DataW.Trod enc Tryz.prog W 0 (λ_=>true) true 22 v d U) :
  ∃a:List sK,Rel (oU W) (.sl 5 (hD a)) v/\True/\∀b∈a,acQ (YtpnpbmbdkinajaaGreatDoor.Rows.uptoBulk d) b:=by
 obtain⟨c,Q,h⟩:=CN (R:=Rsl 5 acR) Tryz.underlying22 (λn=>Ta Tryz.underlying22 K8 bn (λk _=>aev k)) S V (λc k h=>by obtain⟨Y,h,_⟩:=h;exact⟨_,_,h⟩);obtain⟨Y,rfl,I,O,N⟩:=h;obtain⟨l,rfl,M⟩:=K7 O;exact⟨l,Q,trivial,λb K o J=>qz (M b K o J) ai⟩
set_option maxRecDepth 100000 in
def acS{v:Value}{d:DataW H}{V:L MemPlace}{U:Nat}{r:Reach}(Y:Value.okWide Tryz.prog W r U 25 v)(T:DataW.Trod enc Tryz.prog W 0 (λ_=>true) true 25 v d V) :
  ∃a:sK,Rel (oU W) (qc a) v/\True/\acQ (YtpnpbmbdkinajaaGreatDoor.Rows.uptoBulk d) a:=by
 obtain⟨c,S,h⟩:=rQ (R:=acR) Tryz.underlying25 (λn=>aev n) T Y (λc k h=>by obtain⟨b,h,_⟩:=h;cases b;exact⟨_,h⟩);obtain⟨a,rfl,Q⟩:=h;exact⟨a,S,trivial,Q⟩
end
end Go.Proofs
