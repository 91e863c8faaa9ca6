/- A part of the proof. -/
import Derived.Test.YtpnpbmbdkinajaaGreatDoorLibDG
import Derived.KernelRfl
import Derived.Test.YtpnpbmbdkinajaaGreatDoorProg
set_option linter.all false
set_option maxHeartbeats 0
set_option maxRecDepth 100000
namespace Go.Proofs
open Go.cE
def yj:Φ:=[Υ 0,Υ 0,Υ 0,Υ 0,.own .exact 2 [],Υ 0,.own .exact 2 [],.own .exact 5 [],Υ 0,Υ 0,Υ 0,.c (.str []),.own .exact 7 [],.own .exact 2 [],.own .exact 5 []]
def afH:Φ:=yj++yj++yj++yj++yj++yj++yj++yj++yj++yj++yj++yj
def Tryz.table:L (Nat×TI):=[
 (2,⟨1,8,.int .i64,some (Υ 0)⟩),
 (3,⟨1,8,.int .i64,some (Υ 0)⟩),
 (4,⟨1,1,.bool,some (.c (.bool false))⟩),
 (5,⟨1,1,.int .u8,some (.c (.int .u8 0))⟩),
 (6,⟨1,1,.int .u8,some (.c (.int .u8 0))⟩),
 (8,⟨4,24,.struct [(0,2),(1,3),(2,4),(3,6)],some (.agg [Υ 0,Υ 0,.c (.bool false),.c (.int .u8 0)])⟩),
 (9,⟨1,16,.str,some (.c (.str []))⟩),
 (10,⟨1,16,.str,some (.c (.str []))⟩),
 (11,⟨1,16,.str,some (.c (.str []))⟩),
 (12,⟨1,8,.int .u64,some (.c (.int .u64 0))⟩),
 (14,⟨2,24,.struct [(0,9),(1,12)],some (.agg [.c (.str []),.c (.int .u64 0)])⟩),
 (15,⟨1,8,.ptr 215,some (.c .nL)⟩),
 (16,⟨1,8,.ptr 218,some (.c .nL)⟩),
 (17,⟨1,8,.ptr 227,some (.c .nL)⟩),
 (19,⟨1,8,.struct [(0,17)],some (.agg [.c .nL])⟩),
 (22,⟨1,24,.slice 25,some (.own .exact 5 [])⟩),
 (23,⟨1,24,.slice 68,some (.own .exact 23 [])⟩),
 (25,⟨5,56,.struct [(0,3),(1,3),(2,3),(3,3),(4,23)],some (.agg [Υ 0,Υ 0,Υ 0,Υ 0,.own .exact 23 []])⟩),
 (26,⟨1,24,.slice 28,some (.own .exact 2 [])⟩),
 (28,⟨2,32,.struct [(0,3),(1,26)],some (.agg [Υ 0,.own .exact 2 []])⟩),
 (29,⟨1,24,.slice 65,some (.own .exact 5 [])⟩),
 (30,⟨1,24,.slice 32,some (.own .exact 7 [])⟩),
 (32,⟨7,112,.struct [(0,3),(1,3),(2,3),(3,9),(4,30),(5,26),(6,29)],some (.agg [Υ 0,Υ 0,Υ 0,.c (.str []),.own .exact 7 [],.own .exact 2 [],.own .exact 5 []])⟩),
 (34,⟨15,224,.struct [(0,3),(1,3),(2,3),(3,28),(5,28),(7,29),(8,32)],some (.agg [Υ 0,Υ 0,Υ 0,Υ 0,.own .exact 2 [],Υ 0,.own .exact 2 [],.own .exact 5 [],Υ 0,Υ 0,Υ 0,.c (.str []),.own .exact 7 [],.own .exact 2 [],.own .exact 5 []])⟩),
 (35,⟨180,2688,.arr 12 34,some (.agg afH)⟩),
 (37,⟨181,2696,.struct [(0,35),(180,3)],some (.agg (afH++[Υ 0]))⟩),
 (38,⟨1,0,.other,none⟩),
 (40,⟨1,8,.int .i64,some (Υ 0)⟩),
 (41,⟨1,24,.slice 3,some (.own .exact 1 [])⟩),
 (43,⟨5,56,.struct [(0,40),(1,3),(2,3),(3,3),(4,41)],some (.agg [Υ 0,Υ 0,Υ 0,Υ 0,.own .exact 1 []])⟩),
 (44,⟨1,8,.other,none⟩),
 (45,⟨1,0,.other,none⟩),
 (49,⟨1,0,.other,none⟩),
 (58,⟨1,8,.ptr 34,some (.c .nL)⟩),
 (59,⟨1,8,.ptr 61,some (.c .nL)⟩),
 (61,⟨187,2760,.struct [(0,37),(181,3),(182,43)],some (.agg (afH++[Υ 0,Υ 0,Υ 0,Υ 0,Υ 0,Υ 0,.own .exact 1 []]))⟩),
 (63,⟨1,8,.ptr 68,some (.c .nL)⟩),
 (65,⟨5,64,.struct [(0,3),(1,3),(2,3),(3,9),(4,29)],some (.agg [Υ 0,Υ 0,Υ 0,.c (.str []),.own .exact 5 []])⟩),
 (66,⟨10,128,.arr 2 65,some (.agg [Υ 0,Υ 0,Υ 0,.c (.str []),.own .exact 5 [],Υ 0,Υ 0,Υ 0,.c (.str []),.own .exact 5 []])⟩),
 (68,⟨23,280,.struct [(0,3),(1,3),(2,3),(3,65),(8,66),(18,65)],some (.agg [Υ 0,Υ 0,Υ 0,Υ 0,Υ 0,Υ 0,.c (.str []),.own .exact 5 [],Υ 0,Υ 0,Υ 0,.c (.str []),.own .exact 5 [],Υ 0,Υ 0,Υ 0,.c (.str []),.own .exact 5 [],Υ 0,Υ 0,Υ 0,.c (.str []),.own .exact 5 []])⟩),
 (70,⟨9,128,.struct [(0,3),(1,63),(2,32)],some (.agg [Υ 0,.c .nL,Υ 0,Υ 0,Υ 0,.c (.str []),.own .exact 7 [],.own .exact 2 [],.own .exact 5 []])⟩),
 (75,⟨1,24,.slice 70,some (.own .exact 9 [])⟩),
 (76,⟨1,0,.other,none⟩),
 (78,⟨1,8,.other,none⟩),
 (79,⟨1,8,.other,none⟩),
 (87,⟨1,8,.other,none⟩),
 (91,⟨1,8,.other,none⟩),
 (93,⟨2,32,.struct [(0,26),(1,4)],some (.agg [.own .exact 2 [],.c (.bool false)])⟩),
 (94,⟨1,0,.other,none⟩),
 (98,⟨1,8,.other,none⟩),
 (99,⟨1,0,.other,none⟩),
 (101,⟨1,0,.other,none⟩),
 (104,⟨11,160,.struct [(0,40),(1,30),(2,32),(9,3),(10,3)],some (.agg [Υ 0,.own .exact 7 [],Υ 0,Υ 0,Υ 0,.c (.str []),.own .exact 7 [],.own .exact 2 [],.own .exact 5 [],Υ 0,Υ 0])⟩),
 (107,⟨4,32,.struct [(0,3),(1,3),(2,3),(3,3)],some (.agg [Υ 0,Υ 0,Υ 0,Υ 0])⟩),
 (108,⟨1,0,.other,none⟩),
 (112,⟨1,8,.ptr 3,some (.c .nL)⟩),
 (120,⟨1,0,.other,none⟩),
 (122,⟨1,0,.other,none⟩),
 (128,⟨1,8,.other,none⟩),
 (130,⟨1,8,.other,none⟩),
 (132,⟨1,8,.other,none⟩),
 (134,⟨1,8,.ptr 140,some (.c .nL)⟩),
 (137,⟨4,64,.struct [(0,29),(1,3),(2,3),(3,30)],some (.agg [.own .exact 5 [],Υ 0,Υ 0,.own .exact 7 []])⟩),
 (138,⟨1,24,.slice 137,some (.own .exact 4 [])⟩),
 (140,⟨16,216,.struct [(0,107),(4,30),(5,138),(6,3),(7,3),(8,3),(9,32)],some (.agg [Υ 0,Υ 0,Υ 0,Υ 0,.own .exact 7 [],.own .exact 4 [],Υ 0,Υ 0,Υ 0,Υ 0,Υ 0,Υ 0,.c (.str []),.own .exact 7 [],.own .exact 2 [],.own .exact 5 []])⟩),
 (143,⟨1,0,.other,none⟩),
 (146,⟨1,0,.other,none⟩),
 (152,⟨1,8,.ptr 137,some (.c .nL)⟩),
 (174,⟨1,0,.other,none⟩),
 (176,⟨1,0,.other,none⟩),
 (181,⟨1,0,.other,none⟩),
 (188,⟨1,8,.int .u64,some (.c (.int .u64 0))⟩),
 (189,⟨1,0,.other,none⟩),
 (191,⟨1,0,.other,none⟩),
 (195,⟨1,0,.other,none⟩),
 (197,⟨1,0,.other,none⟩),
 (199,⟨1,8,.int .u64,some (.c (.int .u64 0))⟩),
 (200,⟨1,24,.slice 5,some (.own .exact 1 [])⟩),
 (204,⟨1,8,.ptr 206,some (.c .nL)⟩),
 (206,⟨3,32,.struct [(0,9),(1,3),(2,40)],some (.agg [.c (.str []),Υ 0,Υ 0])⟩),
 (215,⟨4,40,.struct [(0,17),(1,17),(2,17),(3,9)],some (.agg [.c .nL,.c .nL,.c .nL,.c (.str [])])⟩),
 (219,⟨1,4,.int .u32,some (.c (.int .u32 0))⟩),
 (220,⟨1,1,.int .u8,some (.c (.int .u8 0))⟩),
 (221,⟨1,1,.int .u8,some (.c (.int .u8 0))⟩),
 (222,⟨1,8,.other,none⟩),
 (223,⟨1,8,.ptr 5,some (.c .nL)⟩),
 (224,⟨1,4,.int .i32,some (.c (.int .i32 0))⟩),
 (225,⟨1,4,.int .i32,some (.c (.int .i32 0))⟩),
 (227,⟨11,48,.struct [(0,12),(1,12),(2,219),(3,220),(4,5),(5,5),(6,221),(7,222),(8,223),(9,224),(10,225)],none⟩)]
def Tryz.X:Ctx:=⟨λt=>au t Tryz.table,λn=>au n [(0,.ip [.any,.any])]⟩
def Tryz.Y5:Tryz.table.all (λp=>Y6 Tryz.prog p.1 p.2):=by kernel_rfl
def Tryz.hX:cI Tryz.prog Tryz.X:=Y7 rfl Tryz.Y5
def Tryz.mixed:Tryz.prog.follows .mixedOrders:=by kernel_rfl
def uS{ops}{rest Y:L Oper}{σ env V}{U W:L Fp}{Q:Env->St->L Fp->Prop}(h:K5 Tryz.X ops.toList σ.boxes kn (VC rest) rest env U = .at Y V W)(k:ag Tryz.prog Tryz.X ops Y V σ W Q):ag Tryz.prog Tryz.X ops rest env σ U Q:=ag.akM Tryz.hX kn h k
def SV{ops o}{rest Y:L Oper}{σ env V}{U W:L Fp}{Q:Env->St->L Fp->Prop}(I:simple o.op)(h:K5 Tryz.X ops.toList σ.boxes kn 0 (o::rest) env U = .at Y V W)(k:ag Tryz.prog Tryz.X ops Y V σ W Q):ag Tryz.prog Tryz.X ops (o::rest) env σ U Q:=ag.ahJ Tryz.hX kn I h k
def uB{ops o rest env Y}{V:L Fp}{Q:Env->St->L Fp->Prop}{S U:tab}{P:tad}{N T:Ω}{O}(h:PY Tryz.X ops.toList o env S N = .ok Y U T O)(k:ag Tryz.prog Tryz.X ops rest Y ⟨U,P,T⟩ (O::V) Q):ag Tryz.prog Tryz.X ops (o::rest) env ⟨S,P,N⟩ V Q:=ag.PY Tryz.hX h k
def uA{ops o rest env}{V:L Fp}{Q:Env->St->L Fp->Prop}{P:tab}{O T S d K n sz b Y b9}(h:PZ Tryz.X ops.toList o env O S=some (d,K,n,sz,Y,b9,b,T))(U:(Y.length+b9.length)*b<=140737488355328)(k:ag Tryz.prog Tryz.X ops rest ((d,.own (.tok K n) sz (Y++b9))::env) ⟨P,T,K::S⟩ (⟨[],[K]⟩::V) Q):ag Tryz.prog Tryz.X ops (o::rest) env ⟨P,O,S⟩ V Q:=ag.PZ Tryz.hX h U k
def uC{ops o rest σ env}{V:L Fp}{Q:Env->St->L Fp->Prop}{d f Y r}(h:P0 Tryz.X ops.toList o env=some (d,f,Y))(U:aZ Tryz.prog Tryz.X f Y r)(k:ag Tryz.prog Tryz.X ops rest ((d,.c r)::env) σ (⟨[],[]⟩::V) Q):ag Tryz.prog Tryz.X ops (o::rest) env σ V Q:=ag.P0 h U k
def uI{ops o rest σ env}{T:L Fp}{Q:Env->St->L Fp->Prop}{d U z}(h:P1 Tryz.X ops.toList o env=some (d,U,z))(m:Nat)(Y:z=m){r}(B:U[m]?=some r){S}(V:r.cells=S)(k:ag Tryz.prog Tryz.X ops rest ((d,.c (.ip S))::env) σ (⟨[],[]⟩::T) Q):ag Tryz.prog Tryz.X ops (o::rest) env σ T Q:=ag.P1 Tryz.hX h m Y B V k
def uP{f n V}{R:Ending->World->Prop}{σ}{K D:L Item}{env Y}(h:S8 Tryz.X n σ.boxes 300 K env = .at D Y)(k:AK Tryz.prog Tryz.X f n V R D Y σ):AK Tryz.prog Tryz.X f n V R K env σ:=AK.SH Tryz.hX Tryz.mixed 300 h k
def uR{f n U}{R:Ending->World->Prop}{σ K env id ops Y}(A:vB ops n)(h:ag Tryz.prog Tryz.X ops ops.toList env σ [] (λV O W=>(Y=true->tv ops W)/\AK Tryz.prog Tryz.X f n U R K V O)):AK Tryz.prog Tryz.X f n U R (.code (.region id ops Y)::K) env σ:=AK.region Tryz.mixed A h
def uQ{f n T}{K:L Item}{env σ Y}(hf:Tryz.prog.funcs[f]?=some Y){r W V}(G:nh Tryz.X σ.boxes env Y.results.toList=some r)(D:close r=some W)(U:W=V):AK Tryz.prog Tryz.X f n T (QR T V) (.code .ret::K) env σ:=AK.ahK Tryz.hX hf G D U
def uW{f n T}{K:L Item}{env σ Y}(hf:Tryz.prog.funcs[f]?=some Y){r W V}(G:nh Tryz.X σ.boxes env Y.results.toList=some r)(D:close r=some W)(U:Wk W V):AK Tryz.prog Tryz.X f n T (QR T V) (.code .ret::K) env σ:=AK.HG Tryz.hX hf G D U
def Hw{c b:Bool}(h:c=b:=by first|with_reducible assumption|(simp only[akg,aka,Bool.not_true,Bool.not_false,aks,Int.reduceBNe,Int.reduceBEq];first|done|with_reducible assumption)):c=b:=h
def afI{c b:Bool}(h:c=b:=by first|with_reducible assumption|(simp only[akg,aka,Bool.not_true,Bool.not_false,aks,Int.reduceBNe,Int.reduceBEq];with_reducible assumption)):c=b:=h
def asl{c b:Bool}(h:c=b:=by(fail_if_success (with_reducible rfl));exact Hw):c=b:=h
def ahL{c b:Bool}(h:c=b:=by(fail_if_success (with_reducible rfl));exact afI):c=b:=h
def st{p q:Prop}(k:q)(h:q->p:=by first|exact λk=>uP Z k|exact λk=>AK.D5 Z Hw k|exact λk=>AK.D6 Z Hw k|exact λk=>uR Z k|exact λk=>ag.done k|exact λk=>uS Z k|exact λk=>uB Z k|exact λk=>SV Z Z k|exact λk=>ag.drawn (by kernel_rfl) k):p:=h k
def so{p q:Prop}(k:q)(h:q->p:=by first|exact λk=>ag.done k|exact λk=>uS Z k|exact λk=>uB Z k|exact λk=>SV Z Z k|exact λk=>ag.drawn (by kernel_rfl) k|exact λk=>ag.rN Z Z Z asl k|exact λk=>ag.rO Z Z Z asl k):p:=h k
def sz{p q:Prop}(k:q)(h:q->p:=by first|exact λk=>uP Z k|exact λk=>AK.D5 Z Hw k|exact λk=>AK.D6 Z Hw k|exact λk=>uR Z k|exact λk=>ag.done k|exact λk=>uS Z k|exact λk=>uB Z k|exact λk=>SV Z Z k|exact λk=>ag.drawn (by kernel_rfl) k|exact λk=>uQ hf Z Z k|exact λk=>AK.Gk Tryz.hX hf Z Z Z Z k (by with_reducible rfl)|exact λk=>AK.Gl Tryz.hX hf Z Z Z Z k (by with_reducible rfl)|exact λk=>ag.toStr Tryz.hX kn Z Z Z Z Z Z Z Z Z Z Z (by first|exact Z|exact Bo _) Z k|exact λk=>ag.rN Z Z Z asl k|exact λk=>ag.rO Z Z Z asl k):p:=h k
def rG{p q:Prop}(k:q)(h:q->p:=by first|exact λk=>uP Z k|exact λk=>AK.D5 Z afI k|exact λk=>AK.D6 Z afI k|exact λk=>uR Z k|exact λk=>ag.done k|exact λk=>uS Z k|exact λk=>uB Z k|exact λk=>SV Z Z k|exact λk=>ag.drawn (by kernel_rfl) k|exact λk=>uQ hf Z Z k|exact λk=>AK.Gk Tryz.hX hf Z Z Z Z k (by with_reducible rfl)|exact λk=>AK.Gl Tryz.hX hf Z Z Z Z k (by with_reducible rfl)|exact λk=>ag.toStr Tryz.hX kn Z Z Z Z Z Z Z Z Z Z Z (by first|exact Z|exact Bo _) Z k|exact λk=>ag.rN Z Z Z ahL k|exact λk=>ag.rO Z Z Z ahL k):p:=h k
def ju{p q:Prop}(k:q)(h:q->p:=by first|exact λk=>uP Z k|exact λk=>AK.D5 Z Hw k|exact λk=>AK.D6 Z Hw k|exact λk=>uR Z k|exact λk=>ag.done k|exact λk=>uS Z k|exact λk=>uB Z k|exact λk=>SV Z Z k|exact λk=>ag.drawn (by kernel_rfl) k|exact λk=>uW hf Z Z k|exact λk=>AK.Gk Tryz.hX hf Z Z Z Z k (by with_reducible rfl)|exact λk=>AK.Gl Tryz.hX hf Z Z Z Z k (by with_reducible rfl)|exact λk=>ag.toStr Tryz.hX kn Z Z Z Z Z Z Z Z Z Z Z (by first|exact Z|exact Bo _) Z k|exact λk=>ag.rN Z Z Z asl k|exact λk=>ag.rO Z Z Z asl k):p:=h k
def pS{p q:Prop}(k:q)(h:q->p:=by first|exact λk=>uP Z k|exact λk=>AK.D5 Z Hw k|exact λk=>AK.D6 Z Hw k|exact λk=>uR Z k|exact λk=>ag.done k|exact λk=>uS Z k|exact λk=>uB Z k|exact λk=>SV Z Z k|exact λk=>ag.drawn (by kernel_rfl) k|exact λk=>Y9 hf Z Z Z Z Z Z Z Z Z k|exact λk=>afJ hf Z Z Z Z Z Z Z Z Z k|exact λk=>ag.toStr Tryz.hX kn Z Z Z Z Z Z Z Z Z Z Z (by first|exact Z|exact Bo _) Z k|exact λk=>ag.rN Z Z Z asl k|exact λk=>ag.rO Z Z Z asl k):p:=h k
def NL(_:Bool):Prop:=True
def NLt:NL true:=trivial
def NLf:NL false:=trivial
def nl{b}(h:NL b:=by(fail_if_success (with_reducible exact NLt));(fail_if_success (with_reducible exact NLf));exact trivial):NL b:=h
def nlb{d}{env:Env}{b}(h:au d env=some (.c (.bool b)))(_:NL b):au d env=some (.c (.bool b)):=h
def zc{p q r:Prop}(k:q)(l:r)(h:q->r->p:=by first|exact λa b=>AK.Fw Z a b|exact λa b=>ag.split Z Z (nlb Z nl) a b):p:=h k l
def ze{p q r:Prop}(k:q)(l:r)(h:q->r->p:=by first|exact λa b=>AK.Fw Z a b|exact λa b=>AK.Gk Tryz.hX hf Z Z Z Z a b|exact λa b=>AK.Gl Tryz.hX hf Z Z Z Z a b|exact λa b=>ag.split Z Z (nlb Z nl) a b):p:=h k l
def zu{p q r:Prop}(k:q)(l:r)(h:q->r->p:=by exact λa b=>ag.split Z Z (nlb Z nl) a b):p:=h k l
def oa{ops o rest env}{z:L Fp}{Q:Env->St->L Fp->Prop}{y m i f args T M j Y l}{d:Nat}{nb C V W bx tk}{x:tab}{t:tad}{r P O:Ω}{F}(k:ag Tryz.prog Tryz.X ops rest F ⟨x,t,r⟩ (⟨P,O⟩::z) Q)(N:cZ ops.toList kn env o=some true:=by exact rfl)(K:o.op = .call {callee := .value (.func f),args:=args,argTypes:=T}:=by exact rfl)(hq:bS Tryz.prog Tryz.X f M j Y:=by assumption)(E:ir (aJ Tryz.X env) args.toList=some l:=by exact rfl)(hok:qR y m M l:=by(repeat' (first|exact rfl|exact trivial|refine⟨_,_,rfl,?_,?_⟩|refine⟨_,_,_,rfl,rfl,?_,?_⟩));done)(A:o.dst=some d:=by exact rfl)(I:mh (mj y 0 M l)=some bx:=by exact rfl)(H:mh (lA y 0 M l)=some tk:=by exact rfl)(U:MK bx (10000000*(d+1)) Y=some nb:=by exact rfl)(u:mh (tw (10000000*(d+1)) (sw Y++BK 0 rk j))=some C:=by exact rfl)(G:mh (tC m (dB tk))=some V:=by exact rfl)(D:Eb i bx tk (uy Y) nb C V (sw Y++BK 0 rk j):=by exact rfl)(B:xH nb y=some x:=by exact rfl)(S:mh (C++V)=some W:=by exact rfl)(J:xH W m=some t:=by exact rfl)(q:vC (iB C++i)=some r:=by exact rfl)(b:vC (bx.map (·.2)++dB tk)=some P:=by exact rfl)(p:vC (iB nb++(iB W++iB C))=some O:=by exact rfl)(a:S9 d (10000000*(d+1)) j env=some F:=by exact rfl):ag Tryz.prog Tryz.X ops (o::rest) env ⟨y,m,i⟩ z Q:=ag.Zb kn N K hq E hok A I H U u G D B S J q b p a k
def Zc:Nat->Ψ->Env
 |_,[]=>[]
 |i,c::l=>(i,.c c)::Zc (i+1) l
def VD:∀i l,Zc i l=((l.zipIdx i).map λ(v,i)=>(i,AV.c v))
 |_,[]=>rfl
 |i,c::l=>by simp only[Zc,ajE,ahM,VD (i+1) l]
def qn{f K c V r env}(hf:Tryz.prog.funcs[f]?=some K)(Y:Enters Tryz.prog f)(k:∀T,Tryz.prog.funcs[f]?=some K->AK Tryz.prog Tryz.X f K.ntmps T (QR T r) [.code c] env ⟨[],[],[]⟩)(U:K.body=some c:=by exact rfl)(I:V.length<=K.ntmps:=by exact ahw rfl)(Q:Zc 0 V=env:=by simp only[Zc];try exact rfl):aZ Tryz.prog Tryz.X f V r:=aZ.of hf U Y I env (by rw[<- Q,VD]) λT _=>k T hf
def en{f K c M O Q}(hf:Tryz.prog.funcs[f]?=some K)(Y:Enters Tryz.prog f)(env)(T:tab)(S:tad)(P:Ω)(k:∀V,Tryz.prog.funcs[f]?=some K->AK Tryz.prog Tryz.X f K.ntmps V (ER V O Q) [.code c] env ⟨T,S,P⟩)(U:K.body=some c:=by exact rfl)(I:M.length<=K.ntmps:=by exact ahw rfl)(W:env=((Ec 0 M).zipIdx.map λ(v,i)=>(i,v)):=by exact rfl)(p:wh M=⟨T,S,P⟩:=by exact rfl):bS Tryz.prog Tryz.X f M O Q:=bS.ofL hf U Y I env T S P W p λV=>k V hf
def dq{p:Prop}(h:p:=by(repeat' (first|refine st ?_|(refine AK.Fw Z (λh=>?_) (λh=>?_)<;>first|(cases h;done)|rw[h]|skip)|refine AK.sY Z ?_ ?_|refine uQ hf Z Z ?_|refine AK.Gk Tryz.hX hf Z Z Z Z ?_ (by with_reducible rfl)|refine AK.Gk Tryz.hX hf Z Z Z Z ?_ ?_|refine AK.Gl Tryz.hX hf Z Z Z Z ?_ (by with_reducible rfl)|refine AK.Gl Tryz.hX hf Z Z Z Z ?_ ?_|refine uC Z (by assumption) ?_|refine uI Z _ Z (by assumption) Z ?_|refine uI Z 0 Z (by assumption) Z ?_|refine uI Z 1 Z (by assumption) Z ?_|refine uI Z 0 Z Z Z ?_|refine uI Z 1 Z Z Z ?_|refine uI Z 2 Z Z Z ?_|refine uI Z 3 Z Z Z ?_|refine oa ?_|(first|refine ag.quo Tryz.hX kn Z Z Z Z Z Z Z ((by decide)) ?_|refine ag.rem Tryz.hX kn Z Z Z Z Z Z Z ((by decide)) ?_)|(refine uA Z ?_ ?_<;>(try (show _*_<=_;dsimp only)))|refine ag.toStr Tryz.hX kn Z Z Z Z Z Z Z Z Z Z Z (by first|exact Z|exact Bo _) Z ?_|((first|refine ag.rN Z Z Z Hw (λh=>?_)|refine ag.rO Z Z Z Hw (λh=>?_)|refine ag.split Z Z Z (λh=>?_) (λh=>?_))<;>(fail_if_success (cases h;done))<;>rw[h])))<;>rfl):p:=h
def qdq{f K c V r env}(hf:Tryz.prog.funcs[f]?=some K)(Y:Enters Tryz.prog f)(U:K.body=some c:=by exact rfl)(I:V.length<=K.ntmps:=by exact ahw rfl)(Q:Zc 0 V=env:=by simp only[Zc];try exact rfl)(k:∀β,Tryz.prog.funcs[f]?=some K->AK Tryz.prog Tryz.X f K.ntmps β (QR β r) [.code c] env ⟨[],[],[]⟩:=by intro β hf;exact dq):aZ Tryz.prog Tryz.X f V r:=qn hf Y k U I Q
def dn{p q:Prop}(k:q)(h:q->p:=by intro k;(repeat' (first|refine st ?_|(refine AK.Fw Z (λh=>?_) (λh=>?_)<;>first|(cases h;done)|rw[h]|skip)|refine AK.sY Z ?_ ?_|refine uQ hf Z Z ?_|refine AK.Gk Tryz.hX hf Z Z Z Z ?_ (by with_reducible rfl)|refine AK.Gk Tryz.hX hf Z Z Z Z ?_ ?_|refine AK.Gl Tryz.hX hf Z Z Z Z ?_ (by with_reducible rfl)|refine AK.Gl Tryz.hX hf Z Z Z Z ?_ ?_|refine uC Z (by assumption) ?_|refine uI Z _ Z (by assumption) Z ?_|refine uI Z 0 Z (by assumption) Z ?_|refine uI Z 1 Z (by assumption) Z ?_|refine uI Z 0 Z Z Z ?_|refine uI Z 1 Z Z Z ?_|refine uI Z 2 Z Z Z ?_|refine uI Z 3 Z Z Z ?_|refine oa ?_|(first|refine ag.quo Tryz.hX kn Z Z Z Z Z Z Z ((by decide)) ?_|refine ag.rem Tryz.hX kn Z Z Z Z Z Z Z ((by decide)) ?_)|(refine uA Z ?_ ?_<;>(try (show _*_<=_;dsimp only)))|refine ag.toStr Tryz.hX kn Z Z Z Z Z Z Z Z Z Z Z (by first|exact Z|exact Bo _) Z ?_|((first|refine ag.rN Z Z Z Hw (λh=>?_)|refine ag.rO Z Z Z Hw (λh=>?_)|refine ag.split Z Z Z (λh=>?_) (λh=>?_))<;>(fail_if_success (cases h;done))<;>rw[h])))<;>first|exact Z|exact k):p:=h k
def dnw{p q:Prop}(k:q)(h:q->p:=by intro k;(repeat' (first|refine st ?_|(refine AK.Fw Z (λh=>?_) (λh=>?_)<;>first|(cases h;done)|rw[h]|skip)|refine AK.sY Z ?_ ?_|refine uW hf Z Z ?_|refine AK.Gk Tryz.hX hf Z Z Z Z ?_ (by with_reducible rfl)|refine AK.Gk Tryz.hX hf Z Z Z Z ?_ ?_|refine AK.Gl Tryz.hX hf Z Z Z Z ?_ (by with_reducible rfl)|refine AK.Gl Tryz.hX hf Z Z Z Z ?_ ?_|refine uC Z (by assumption) ?_|refine uI Z _ Z (by assumption) Z ?_|refine uI Z 0 Z (by assumption) Z ?_|refine uI Z 1 Z (by assumption) Z ?_|refine uI Z 0 Z Z Z ?_|refine uI Z 1 Z Z Z ?_|refine uI Z 2 Z Z Z ?_|refine uI Z 3 Z Z Z ?_|refine oa ?_|(first|refine ag.quo Tryz.hX kn Z Z Z Z Z Z Z ((by decide)) ?_|refine ag.rem Tryz.hX kn Z Z Z Z Z Z Z ((by decide)) ?_)|(refine uA Z ?_ ?_<;>(try (show _*_<=_;dsimp only)))|refine ag.toStr Tryz.hX kn Z Z Z Z Z Z Z Z Z Z Z (by first|exact Z|exact Bo _) Z ?_|((first|refine ag.rN Z Z Z Hw (λh=>?_)|refine ag.rO Z Z Z Hw (λh=>?_)|refine ag.split Z Z Z (λh=>?_) (λh=>?_))<;>(fail_if_success (cases h;done))<;>rw[h])))<;>first|exact Wk.refl _|exact k):p:=h k
def dw{p:Prop}(h:p:=by(repeat' (first|refine st ?_|(refine AK.Fw Z (λh=>?_) (λh=>?_)<;>first|(cases h;done)|rw[h]|skip)|refine AK.sY Z ?_ ?_|refine uW hf Z Z ?_|refine AK.Gk Tryz.hX hf Z Z Z Z ?_ (by with_reducible rfl)|refine AK.Gk Tryz.hX hf Z Z Z Z ?_ ?_|refine AK.Gl Tryz.hX hf Z Z Z Z ?_ (by with_reducible rfl)|refine AK.Gl Tryz.hX hf Z Z Z Z ?_ ?_|refine uC Z (by assumption) ?_|refine uI Z _ Z (by assumption) Z ?_|refine uI Z 0 Z (by assumption) Z ?_|refine uI Z 1 Z (by assumption) Z ?_|refine uI Z 0 Z Z Z ?_|refine uI Z 1 Z Z Z ?_|refine uI Z 2 Z Z Z ?_|refine uI Z 3 Z Z Z ?_|refine oa ?_|(first|refine ag.quo Tryz.hX kn Z Z Z Z Z Z Z ((by decide)) ?_|refine ag.rem Tryz.hX kn Z Z Z Z Z Z Z ((by decide)) ?_)|(refine uA Z ?_ ?_<;>(try (show _*_<=_;dsimp only)))|refine ag.toStr Tryz.hX kn Z Z Z Z Z Z Z Z Z Z Z (by first|exact Z|exact Bo _) Z ?_|((first|refine ag.rN Z Z Z Hw (λh=>?_)|refine ag.rO Z Z Z Hw (λh=>?_)|refine ag.split Z Z Z (λh=>?_) (λh=>?_))<;>(fail_if_success (cases h;done))<;>rw[h])))<;>(first|exact Wk.refl _|exact DT Z Z|exact Y|exact Au|exact akh|(show _<=_;simp only[aY,aE,aat,aav];omega))):p:=h
def qdw{f K c V r env}(hf:Tryz.prog.funcs[f]?=some K)(Y:Enters Tryz.prog f)(U:K.body=some c:=by exact rfl)(I:V.length<=K.ntmps:=by exact ahw rfl)(Q:Zc 0 V=env:=by simp only[Zc];try exact rfl)(k:∀β,Tryz.prog.funcs[f]?=some K->AK Tryz.prog Tryz.X f K.ntmps β (QR β r) [.code c] env ⟨[],[],[]⟩:=by intro β hf;exact dw):aZ Tryz.prog Tryz.X f V r:=qn hf Y k U I Q
abbrev af:=@aZ Tryz.prog Tryz.X
abbrev CI:=@AK Tryz.prog Tryz.X
abbrev mM:=@ag Tryz.prog Tryz.X
abbrev iJ:=@bS Tryz.prog Tryz.X
abbrev th:=@cA Tryz.prog Tryz.X
abbrev qL:=@de Tryz.prog Tryz.X
end Go.Proofs
