/- The types of the program, held against it by the kernel. -/
import Derived.Test.YteanleefnjknoaaGreatDoorLibD
import Derived.Test.YteanleefnjknoaaGreatDoorProg
import Derived.KernelRfl
set_option linter.defProp false
namespace Go.Proofs
open Go.cK
def vv:L AV:=[.c (.int .i64 0),.c (.int .i64 0),.c (.int .i64 0),.c (.int .i64 0),.own .exact 2 [],.c (.int .i64 0),.own .exact 2 [],.own .exact 5 [],.c (.int .i64 0),.c (.int .i64 0),.c (.int .i64 0),.c (.str []),.own .exact 7 [],.own .exact 2 [],.own .exact 5 []]
def aaV:L AV:=vv++vv++vv++vv++vv++vv++vv++vv++vv++vv++vv++vv
def Tryz.table:L (Nat×TI):=[
 (2,⟨1,8,.int .i64,some (.c (.int .i64 0))⟩),
 (3,⟨1,8,.int .i64,some (.c (.int .i64 0))⟩),
 (4,⟨1,1,.bool,some (.c (.bool false))⟩),
 (5,⟨1,1,.int .u8,some (.c (.int .u8 0))⟩),
 (6,⟨1,1,.int .u8,some (.c (.int .u8 0))⟩),
 (8,⟨4,24,.struct [(0,2),(1,3),(2,4),(3,6)],some (.agg [.c (.int .i64 0),.c (.int .i64 0),.c (.bool false),.c (.int .u8 0)])⟩),
 (9,⟨1,16,.str,some (.c (.str []))⟩),
 (10,⟨1,16,.str,some (.c (.str []))⟩),
 (11,⟨1,16,.str,some (.c (.str []))⟩),
 (12,⟨1,8,.int .u64,some (.c (.int .u64 0))⟩),
 (14,⟨2,24,.struct [(0,9),(1,12)],some (.agg [.c (.str []),.c (.int .u64 0)])⟩),
 (15,⟨1,8,.ptr 210,some (.c .mw)⟩),
 (16,⟨1,8,.ptr 213,some (.c .mw)⟩),
 (17,⟨1,8,.ptr 222,some (.c .mw)⟩),
 (19,⟨1,8,.struct [(0,17)],some (.agg [.c .mw])⟩),
 (22,⟨1,24,.slice 39,some (.own .exact 5 [])⟩),
 (23,⟨1,24,.slice 25,some (.own .exact 2 [])⟩),
 (25,⟨2,32,.struct [(0,3),(1,23)],some (.agg [.c (.int .i64 0),.own .exact 2 []])⟩),
 (26,⟨1,24,.slice 50,some (.own .exact 5 [])⟩),
 (27,⟨1,24,.slice 29,some (.own .exact 7 [])⟩),
 (29,⟨7,112,.struct [(0,3),(1,3),(2,3),(3,9),(4,27),(5,23),(6,26)],some (.agg [.c (.int .i64 0),.c (.int .i64 0),.c (.int .i64 0),.c (.str []),.own .exact 7 [],.own .exact 2 [],.own .exact 5 []])⟩),
 (31,⟨15,224,.struct [(0,3),(1,3),(2,3),(3,25),(5,25),(7,26),(8,29)],some (.agg [.c (.int .i64 0),.c (.int .i64 0),.c (.int .i64 0),.c (.int .i64 0),.own .exact 2 [],.c (.int .i64 0),.own .exact 2 [],.own .exact 5 [],.c (.int .i64 0),.c (.int .i64 0),.c (.int .i64 0),.c (.str []),.own .exact 7 [],.own .exact 2 [],.own .exact 5 []])⟩),
 (32,⟨180,2688,.arr 12 31,some (.agg aaV)⟩),
 (34,⟨181,2696,.struct [(0,32),(180,3)],some (.agg (aaV++[.c (.int .i64 0)]))⟩),
 (35,⟨1,0,.other,none⟩),
 (37,⟨1,24,.slice 78,some (.own .exact 23 [])⟩),
 (39,⟨5,56,.struct [(0,3),(1,3),(2,3),(3,3),(4,37)],some (.agg [.c (.int .i64 0),.c (.int .i64 0),.c (.int .i64 0),.c (.int .i64 0),.own .exact 23 []])⟩),
 (40,⟨1,8,.int .i64,some (.c (.int .i64 0))⟩),
 (41,⟨1,24,.slice 3,some (.own .exact 1 [])⟩),
 (43,⟨5,56,.struct [(0,40),(1,3),(2,3),(3,3),(4,41)],some (.agg [.c (.int .i64 0),.c (.int .i64 0),.c (.int .i64 0),.c (.int .i64 0),.own .exact 1 []])⟩),
 (45,⟨1,8,.other,none⟩),
 (48,⟨4,32,.struct [(0,3),(1,3),(2,3),(3,3)],some (.agg [.c (.int .i64 0),.c (.int .i64 0),.c (.int .i64 0),.c (.int .i64 0)])⟩),
 (50,⟨5,64,.struct [(0,3),(1,3),(2,3),(3,9),(4,26)],some (.agg [.c (.int .i64 0),.c (.int .i64 0),.c (.int .i64 0),.c (.str []),.own .exact 5 []])⟩),
 (52,⟨2,32,.struct [(0,23),(1,4)],some (.agg [.own .exact 2 [],.c (.bool false)])⟩),
 (53,⟨1,0,.other,none⟩),
 (57,⟨11,160,.struct [(0,40),(1,27),(2,29),(9,3),(10,3)],some (.agg [.c (.int .i64 0),.own .exact 7 [],.c (.int .i64 0),.c (.int .i64 0),.c (.int .i64 0),.c (.str []),.own .exact 7 [],.own .exact 2 [],.own .exact 5 [],.c (.int .i64 0),.c (.int .i64 0)])⟩),
 (67,⟨1,0,.other,none⟩),
 (70,⟨1,8,.other,none⟩),
 (76,⟨10,128,.arr 2 50,some (.agg [.c (.int .i64 0),.c (.int .i64 0),.c (.int .i64 0),.c (.str []),.own .exact 5 [],.c (.int .i64 0),.c (.int .i64 0),.c (.int .i64 0),.c (.str []),.own .exact 5 []])⟩),
 (78,⟨23,280,.struct [(0,3),(1,3),(2,3),(3,50),(8,76),(18,50)],some (.agg [.c (.int .i64 0),.c (.int .i64 0),.c (.int .i64 0),.c (.int .i64 0),.c (.int .i64 0),.c (.int .i64 0),.c (.str []),.own .exact 5 [],.c (.int .i64 0),.c (.int .i64 0),.c (.int .i64 0),.c (.str []),.own .exact 5 [],.c (.int .i64 0),.c (.int .i64 0),.c (.int .i64 0),.c (.str []),.own .exact 5 [],.c (.int .i64 0),.c (.int .i64 0),.c (.int .i64 0),.c (.str []),.own .exact 5 []])⟩),
 (80,⟨1,8,.ptr 31,some (.c .mw)⟩),
 (81,⟨1,8,.ptr 83,some (.c .mw)⟩),
 (83,⟨187,2760,.struct [(0,34),(181,3),(182,43)],some (.agg (aaV++[.c (.int .i64 0),.c (.int .i64 0),.c (.int .i64 0),.c (.int .i64 0),.c (.int .i64 0),.c (.int .i64 0),.own .exact 1 []]))⟩),
 (85,⟨1,8,.ptr 78,some (.c .mw)⟩),
 (87,⟨9,128,.struct [(0,3),(1,85),(2,29)],some (.agg [.c (.int .i64 0),.c .mw,.c (.int .i64 0),.c (.int .i64 0),.c (.int .i64 0),.c (.str []),.own .exact 7 [],.own .exact 2 [],.own .exact 5 []])⟩),
 (91,⟨1,8,.ptr 3,some (.c .mw)⟩),
 (92,⟨1,8,.other,none⟩),
 (93,⟨1,8,.other,none⟩),
 (94,⟨1,8,.ptr 99,some (.c .mw)⟩),
 (96,⟨4,64,.struct [(0,26),(1,3),(2,3),(3,27)],some (.agg [.own .exact 5 [],.c (.int .i64 0),.c (.int .i64 0),.own .exact 7 []])⟩),
 (97,⟨1,24,.slice 96,some (.own .exact 4 [])⟩),
 (99,⟨16,216,.struct [(0,48),(4,27),(5,97),(6,3),(7,3),(8,3),(9,29)],some (.agg [.c (.int .i64 0),.c (.int .i64 0),.c (.int .i64 0),.c (.int .i64 0),.own .exact 7 [],.own .exact 4 [],.c (.int .i64 0),.c (.int .i64 0),.c (.int .i64 0),.c (.int .i64 0),.c (.int .i64 0),.c (.int .i64 0),.c (.str []),.own .exact 7 [],.own .exact 2 [],.own .exact 5 []])⟩),
 (103,⟨1,24,.slice 87,some (.own .exact 9 [])⟩),
 (104,⟨1,0,.other,none⟩),
 (106,⟨1,0,.other,none⟩),
 (112,⟨1,8,.ptr 96,some (.c .mw)⟩),
 (122,⟨1,0,.other,none⟩),
 (124,⟨1,0,.other,none⟩),
 (130,⟨1,8,.other,none⟩),
 (131,⟨1,8,.other,none⟩),
 (134,⟨1,8,.other,none⟩),
 (136,⟨1,0,.other,none⟩),
 (138,⟨1,0,.other,none⟩),
 (142,⟨1,8,.other,none⟩),
 (144,⟨1,0,.other,none⟩),
 (148,⟨1,0,.other,none⟩),
 (164,⟨1,0,.other,none⟩),
 (166,⟨1,0,.other,none⟩),
 (171,⟨1,0,.other,none⟩),
 (176,⟨1,8,.other,none⟩),
 (183,⟨1,8,.int .u64,some (.c (.int .u64 0))⟩),
 (184,⟨1,0,.other,none⟩),
 (186,⟨1,0,.other,none⟩),
 (190,⟨1,0,.other,none⟩),
 (192,⟨1,0,.other,none⟩),
 (194,⟨1,8,.int .u64,some (.c (.int .u64 0))⟩),
 (195,⟨1,24,.slice 5,some (.own .exact 1 [])⟩),
 (199,⟨1,8,.ptr 201,some (.c .mw)⟩),
 (201,⟨3,32,.struct [(0,9),(1,3),(2,40)],some (.agg [.c (.str []),.c (.int .i64 0),.c (.int .i64 0)])⟩),
 (210,⟨4,40,.struct [(0,17),(1,17),(2,17),(3,9)],some (.agg [.c .mw,.c .mw,.c .mw,.c (.str [])])⟩),
 (214,⟨1,4,.int .u32,some (.c (.int .u32 0))⟩),
 (215,⟨1,1,.int .u8,some (.c (.int .u8 0))⟩),
 (216,⟨1,1,.int .u8,some (.c (.int .u8 0))⟩),
 (217,⟨1,8,.other,none⟩),
 (218,⟨1,8,.ptr 5,some (.c .mw)⟩),
 (219,⟨1,4,.int .i32,some (.c (.int .i32 0))⟩),
 (220,⟨1,4,.int .i32,some (.c (.int .i32 0))⟩),
 (222,⟨11,48,.struct [(0,12),(1,12),(2,214),(3,215),(4,5),(5,5),(6,216),(7,217),(8,218),(9,219),(10,220)],none⟩)]
def Tryz.X:Ctx:=⟨λt=>an t Tryz.table,λn=>an n [(0,.ip [.any,.any])]⟩
def Tryz.Vt:Tryz.table.all (λp=>Vu Tryz.prog p.1 p.2)=true:=by kernel_rfl
def Tryz.hX:cF Tryz.prog Tryz.X:=Vv rfl Tryz.Vt
def Tryz.mixed:Tryz.prog.follows .mixedOrders=true:=by kernel_rfl
def uS{ops:Array Oper}{rest Y:L Oper}{σ:St}{env env':Env}{acc W:L Fp}{Q:Env->St->L Fp->Prop}(h:H7 Tryz.X ops.toList σ.boxes kn (Rx rest) rest env acc = .at Y env' W)(k:af Tryz.prog Tryz.X ops Y env' σ W Q):af Tryz.prog Tryz.X ops rest env σ acc Q:=af.afA Tryz.hX kn h k
def O1{ops:Array Oper}{o:Oper}{rest Y:L Oper}{σ:St}{env env':Env}{acc W:L Fp}{Q:Env->St->L Fp->Prop}(G:simple o.op=true)(h:H7 Tryz.X ops.toList σ.boxes kn 0 (o::rest) env acc = .at Y env' W)(k:af Tryz.prog Tryz.X ops Y env' σ W Q):af Tryz.prog Tryz.X ops (o::rest) env σ acc Q:=af.acV Tryz.hX kn G h k
def uB{ops:Array Oper}{o:Oper}{rest:L Oper}{env env':Env}{acc:L Fp}{Q:Env->St->L Fp->Prop}{bs bs':L (Nat×L AV)}{ts:L (Nat×Nat)}{us us':L Nat}{W:Fp}(h:Mj Tryz.X ops.toList o env bs us = .ok env' bs' us' W)(k:af Tryz.prog Tryz.X ops rest env' ⟨bs',ts,us'⟩ (W::acc) Q):af Tryz.prog Tryz.X ops (o::rest) env ⟨bs,ts,us⟩ acc Q:=af.Mj Tryz.hX h k
def uA{ops:Array Oper}{o:Oper}{rest:L Oper}{env:Env}{acc:L Fp}{Q:Env->St->L Fp->Prop}{bs:L (Nat×L AV)}{ts ts':L (Nat×Nat)}{us:L Nat}{d p n sz b:Nat}{rows cq:L CV}(h:Mk Tryz.X ops.toList o env ts us=some (d,p,n,sz,rows,cq,b,ts'))(G:(rows.length+cq.length)*b<=140737488355328)(k:af Tryz.prog Tryz.X ops rest ((d,.own (.tok p n) sz (rows++cq))::env) ⟨bs,ts',p::us⟩ (⟨[],[p]⟩::acc) Q):af Tryz.prog Tryz.X ops (o::rest) env ⟨bs,ts,us⟩ acc Q:=af.Mk Tryz.hX h G k
def uC{ops:Array Oper}{o:Oper}{rest:L Oper}{σ:St}{env:Env}{acc:L Fp}{Q:Env->St->L Fp->Prop}{d:Nat}{f:FuncId}{q:L CV}{r:CV}(h:Ml Tryz.X ops.toList o env=some (d,f,q))(hq:bg Tryz.prog Tryz.X f q r)(k:af Tryz.prog Tryz.X ops rest ((d,.c r)::env) σ (⟨[],[]⟩::acc) Q):af Tryz.prog Tryz.X ops (o::rest) env σ acc Q:=af.Ml h hq k
def uI{ops:Array Oper}{o:Oper}{rest:L Oper}{σ:St}{env:Env}{acc:L Fp}{Q:Env->St->L Fp->Prop}{d:Nat}{rows:L CV}{z:Int}(h:Mm Tryz.X ops.toList o env=some (d,rows,z))(m:Nat)(C:z=m){r:CV}(I:rows[m]?=some r){cs:L CV}(P:r.cells=cs)(k:af Tryz.prog Tryz.X ops rest ((d,.c (.ip cs))::env) σ (⟨[],[]⟩::acc) Q):af Tryz.prog Tryz.X ops (o::rest) env σ acc Q:=af.Mm Tryz.hX h m C I P k
def uP{f:FuncId}{n:Nat}{β:jZ}{R:Ending->World->Prop}{σ:St}{K Q:L Item}{env env':Env}(h:Pf Tryz.X n σ.boxes 300 K env = .at Q env')(k:AK Tryz.prog Tryz.X f n β R Q env' σ):AK Tryz.prog Tryz.X f n β R K env σ:=AK.OO Tryz.hX Tryz.mixed 300 h k
def uR{f:FuncId}{n:Nat}{β:jZ}{R:Ending->World->Prop}{σ:St}{K:L Item}{env:Env}{id:Nat}{ops:Array Oper}{Y:Bool}(N:sM ops n=true)(h:af Tryz.prog Tryz.X ops ops.toList env σ [] (λenv' O W=>(Y=true->qI ops W=true)/\AK Tryz.prog Tryz.X f n β R K env' O)):AK Tryz.prog Tryz.X f n β R (.code (.region id ops Y)::K) env σ:=AK.region Tryz.mixed N h
def uQ{f:FuncId}{n:Nat}{β:jZ}{K:L Item}{env:Env}{σ:St}{S:Func}(hf:Tryz.prog.funcs[f]?=some S){r:AV}{Y W:CV}(C:lZ Tryz.X σ.boxes env S.results.toList=some r)(A:close r=some Y)(B:Y=W):AK Tryz.prog Tryz.X f n β (QR β W) (.code .ret::K) env σ:=AK.acW Tryz.hX hf C A B
def uW{f:FuncId}{n:Nat}{β:jZ}{K:L Item}{env:Env}{σ:St}{S:Func}(hf:Tryz.prog.funcs[f]?=some S){r:AV}{Y W:CV}(C:lZ Tryz.X σ.boxes env S.results.toList=some r)(A:close r=some Y)(B:Wk Y W):AK Tryz.prog Tryz.X f n β (QR β W) (.code .ret::K) env σ:=AK.EV Tryz.hX hf C A B
def ED{c b:Bool}(h:c=b:=by first|with_reducible assumption|(simp only[agB,agm,Bool.not_true,Bool.not_false,agL,Int.reduceBNe,Int.reduceBEq];first|done|with_reducible assumption)):c=b:=h
def aaW{c b:Bool}(h:c=b:=by first|with_reducible assumption|(simp only[agB,agm,Bool.not_true,Bool.not_false,agL,Int.reduceBNe,Int.reduceBEq];with_reducible assumption)):c=b:=h
def XV{c b:Bool}(h:c=b:=by(fail_if_success (with_reducible rfl));exact ED):c=b:=h
def acX{c b:Bool}(h:c=b:=by(fail_if_success (with_reducible rfl));exact aaW):c=b:=h
def st{p q:Prop}(k:q)(h:q->p:=by first|exact λk=>uP Z k|exact λk=>AK.BG Z ED k|exact λk=>AK.BH Z ED k|exact λk=>uR Z k|exact λk=>af.done k|exact λk=>uS Z k|exact λk=>uB Z k|exact λk=>O1 Z Z k|exact λk=>af.drawn (by kernel_rfl) k):p:=h k
def so{p q:Prop}(k:q)(h:q->p:=by first|exact λk=>af.done k|exact λk=>uS Z k|exact λk=>uB Z k|exact λk=>O1 Z Z k|exact λk=>af.drawn (by kernel_rfl) k|exact λk=>af.pM Z Z Z XV k|exact λk=>af.pN Z Z Z XV k):p:=h k
def sz{p q:Prop}(k:q)(h:q->p:=by first|exact λk=>uP Z k|exact λk=>AK.BG Z ED k|exact λk=>AK.BH Z ED k|exact λk=>uR Z k|exact λk=>af.done k|exact λk=>uS Z k|exact λk=>uB Z k|exact λk=>O1 Z Z k|exact λk=>af.drawn (by kernel_rfl) k|exact λk=>uQ hf Z Z k|exact λk=>AK.DA Tryz.hX hf Z Z Z Z k (by with_reducible rfl)|exact λk=>AK.DB Tryz.hX hf Z Z Z Z k (by with_reducible rfl)|exact λk=>af.toStr Tryz.hX kn Z Z Z Z Z Z Z Z Z Z Z (by first|exact Z|exact yT _) Z k|exact λk=>af.pM Z Z Z XV k|exact λk=>af.pN Z Z Z XV k):p:=h k
def pJ{p q:Prop}(k:q)(h:q->p:=by first|exact λk=>uP Z k|exact λk=>AK.BG Z aaW k|exact λk=>AK.BH Z aaW k|exact λk=>uR Z k|exact λk=>af.done k|exact λk=>uS Z k|exact λk=>uB Z k|exact λk=>O1 Z Z k|exact λk=>af.drawn (by kernel_rfl) k|exact λk=>uQ hf Z Z k|exact λk=>AK.DA Tryz.hX hf Z Z Z Z k (by with_reducible rfl)|exact λk=>AK.DB Tryz.hX hf Z Z Z Z k (by with_reducible rfl)|exact λk=>af.toStr Tryz.hX kn Z Z Z Z Z Z Z Z Z Z Z (by first|exact Z|exact yT _) Z k|exact λk=>af.pM Z Z Z acX k|exact λk=>af.pN Z Z Z acX k):p:=h k
def kz{p q:Prop}(k:q)(h:q->p:=by first|exact λk=>uP Z k|exact λk=>AK.BG Z ED k|exact λk=>AK.BH Z ED k|exact λk=>uR Z k|exact λk=>af.done k|exact λk=>uS Z k|exact λk=>uB Z k|exact λk=>O1 Z Z k|exact λk=>af.drawn (by kernel_rfl) k|exact λk=>uW hf Z Z k|exact λk=>AK.DA Tryz.hX hf Z Z Z Z k (by with_reducible rfl)|exact λk=>AK.DB Tryz.hX hf Z Z Z Z k (by with_reducible rfl)|exact λk=>af.toStr Tryz.hX kn Z Z Z Z Z Z Z Z Z Z Z (by first|exact Z|exact yT _) Z k|exact λk=>af.pM Z Z Z XV k|exact λk=>af.pN Z Z Z XV k):p:=h k
def om{p q:Prop}(k:q)(h:q->p:=by first|exact λk=>uP Z k|exact λk=>AK.BG Z ED k|exact λk=>AK.BH Z ED k|exact λk=>uR Z k|exact λk=>af.done k|exact λk=>uS Z k|exact λk=>uB Z k|exact λk=>O1 Z Z k|exact λk=>af.drawn (by kernel_rfl) k|exact λk=>Vx hf Z Z Z Z Z Z Z Z Z k|exact λk=>aaX hf Z Z Z Z Z Z Z Z Z k|exact λk=>af.toStr Tryz.hX kn Z Z Z Z Z Z Z Z Z Z Z (by first|exact Z|exact yT _) Z k|exact λk=>af.pM Z Z Z XV k|exact λk=>af.pN Z Z Z XV k):p:=h k
def NL(_:Bool):Prop:=True
def NLt:NL true:=trivial
def NLf:NL false:=trivial
def nl{b:Bool}(h:NL b:=by(fail_if_success (with_reducible exact NLt));(fail_if_success (with_reducible exact NLf));exact trivial):NL b:=h
def nlb{d:Nat}{env:Env}{b:Bool}(h:an d env=some (.c (.bool b)))(_:NL b):an d env=some (.c (.bool b)):=h
def zc{p q r:Prop}(k:q)(l:r)(h:q->r->p:=by first|exact λa b=>AK.CH Z a b|exact λa b=>af.split Z Z (nlb Z nl) a b):p:=h k l
def ze{p q r:Prop}(k:q)(l:r)(h:q->r->p:=by first|exact λa b=>AK.CH Z a b|exact λa b=>AK.DA Tryz.hX hf Z Z Z Z a b|exact λa b=>AK.DB Tryz.hX hf Z Z Z Z a b|exact λa b=>af.split Z Z (nlb Z nl) a b):p:=h k l
def zu{p q r:Prop}(k:q)(l:r)(h:q->r->p:=by exact λa b=>af.split Z Z (nlb Z nl) a b):p:=h k l
def mP{ops:Array Oper}{o:Oper}{rest:L Oper}{env:Env}{acc:L Fp}{Q:Env->St->L Fp->Prop}{bs:L (Nat×L AV)}{ts:L (Nat×Nat)}{us:L Nat}{f:FuncId}{args:Array Operand}{K:Array TypeId}{U:L PA}{rs:L LV}{M:L (Nat×L LV)}{l:L AV}{d:Nat}{nb:L (Nat×L AV)}{H V Y bx:L (Nat×Nat)}{tk:L (Nat×(Nat×Option Nat))}{bs':L (Nat×L AV)}{ts':L (Nat×Nat)}{us' O N:L Nat}{env':Env}(k:af Tryz.prog Tryz.X ops rest env' ⟨bs',ts',us'⟩ (⟨O,N⟩::acc) Q)(G:dj ops.toList kn env o=some true:=by exact rfl)(p:o.op = .call {callee := .value (.func f),args:=args,argTypes:=K}:=by exact rfl)(hq:cn Tryz.prog Tryz.X f U rs M:=by assumption)(E:gE (aK Tryz.X env) args.toList=some l:=by exact rfl)(hok:jJ bs ts U l:=by(repeat' (first|exact rfl|exact trivial|refine⟨_,_,rfl,?_,?_⟩|refine⟨_,_,_,rfl,rfl,?_,?_⟩));done)(u:o.dst=some d:=by exact rfl)(J:kU (kF bs 0 U l)=some bx:=by exact rfl)(I:kU (j7 bs 0 U l)=some tk:=by exact rfl)(W:JN bx (10000000*(d+1)) M=some nb:=by exact rfl)(T:kU (qJ (10000000*(d+1)) (qf M++zy 0 rk rs))=some H:=by exact rfl)(D:kU (qK ts (dx tk))=some V:=by exact rfl)(A:xY us bx tk (rQ M) nb H V (qf M++zy 0 rk rs)=true:=by exact rfl)(C:uH nb bs=some bs':=by exact rfl)(S:kU (H++V)=some Y:=by exact rfl)(P:uH Y ts=some ts':=by exact rfl)(B:sN (gN H++us)=some us':=by exact rfl)(q:sN (bx.map (·.2)++dx tk)=some O:=by exact rfl)(hW:sN (gN nb++(gN Y++gN H))=some N:=by exact rfl)(he:Pg d (10000000*(d+1)) rs env=some env':=by exact rfl):af Tryz.prog Tryz.X ops (o::rest) env ⟨bs,ts,us⟩ acc Q:=af.Vz kn G p hq E hok u J I W T D A C S P B q hW he k
def VA:Nat->L CV->Env
 |_,[]=>[]
 |i,c::l=>(i,.c c)::VA (i+1) l
def Ry:∀(i:Nat)(l:L CV),VA i l=((l.zipIdx i).map λ(v,i)=>(i,AV.c v))
 |_,[]=>rfl
 |i,c::l=>by simp only[VA,afx,aed,Ry (i+1) l]
def qn{f:FuncId}{S:Func}{c:Code}{J:L CV}{r:CV}{env:Env}(hf:Tryz.prog.funcs[f]?=some S)(B:Enters Tryz.prog f)(k:∀β,Tryz.prog.funcs[f]?=some S->AK Tryz.prog Tryz.X f S.ntmps β (QR β r) [.code c] env ⟨[],[],[]⟩)(Q:S.body=some c:=by exact rfl)(V:J.length<=S.ntmps:=by exact aep rfl)(q:VA 0 J=env:=by simp only[VA];try exact rfl):bg Tryz.prog Tryz.X f J r:=bg.of hf Q B V env (by rw[<- q,Ry]) λβ _=>k β hf
def en{f:FuncId}{S:Func}{c:Code}{U:L PA}{rs:L LV}{M:L (Nat×L LV)}(hf:Tryz.prog.funcs[f]?=some S)(B:Enters Tryz.prog f)(env:Env)(bs:L (Nat×L AV))(ts:L (Nat×Nat))(us:L Nat)(k:∀β,Tryz.prog.funcs[f]?=some S->AK Tryz.prog Tryz.X f S.ntmps β (ER β rs M) [.code c] env ⟨bs,ts,us⟩)(Q:S.body=some c:=by exact rfl)(V:U.length<=S.ntmps:=by exact aep rfl)(q:env=((zz 0 U).zipIdx.map λ(v,i)=>(i,v)):=by exact rfl)(O:tG U=⟨bs,ts,us⟩:=by exact rfl):cn Tryz.prog Tryz.X f U rs M:=cn.ofL hf Q B V env bs ts us q O λβ=>k β hf
def dq{p:Prop}(h:p:=by(repeat' (first|refine st ?_|(refine AK.CH Z (λh=>?_) (λh=>?_)<;>first|(cases h;done)|rw[h]|skip)|refine AK.qA Z ?_ ?_|refine uQ hf Z Z ?_|refine AK.DA Tryz.hX hf Z Z Z Z ?_ (by with_reducible rfl)|refine AK.DA Tryz.hX hf Z Z Z Z ?_ ?_|refine AK.DB Tryz.hX hf Z Z Z Z ?_ (by with_reducible rfl)|refine AK.DB Tryz.hX hf Z Z Z Z ?_ ?_|refine uC Z (by assumption) ?_|refine uI Z _ Z (by assumption) Z ?_|refine uI Z 0 Z (by assumption) Z ?_|refine uI Z 1 Z (by assumption) Z ?_|refine uI Z 0 Z Z Z ?_|refine uI Z 1 Z Z Z ?_|refine uI Z 2 Z Z Z ?_|refine uI Z 3 Z Z Z ?_|refine mP ?_|(first|refine af.quo Tryz.hX kn Z Z Z Z Z Z Z ((by decide)) ?_|refine af.rem Tryz.hX kn Z Z Z Z Z Z Z ((by decide)) ?_)|(refine uA Z ?_ ?_<;>(try (show(_:Nat)*_<=_;dsimp only)))|refine af.toStr Tryz.hX kn Z Z Z Z Z Z Z Z Z Z Z (by first|exact Z|exact yT _) Z ?_|((first|refine af.pM Z Z Z ED (λh=>?_)|refine af.pN Z Z Z ED (λh=>?_)|refine af.split Z Z Z (λh=>?_) (λh=>?_))<;>(fail_if_success (cases h;done))<;>rw[h])))<;>rfl):p:=h
def dn{p q:Prop}(k:q)(h:q->p:=by intro k;(repeat' (first|refine st ?_|(refine AK.CH Z (λh=>?_) (λh=>?_)<;>first|(cases h;done)|rw[h]|skip)|refine AK.qA Z ?_ ?_|refine uQ hf Z Z ?_|refine AK.DA Tryz.hX hf Z Z Z Z ?_ (by with_reducible rfl)|refine AK.DA Tryz.hX hf Z Z Z Z ?_ ?_|refine AK.DB Tryz.hX hf Z Z Z Z ?_ (by with_reducible rfl)|refine AK.DB Tryz.hX hf Z Z Z Z ?_ ?_|refine uC Z (by assumption) ?_|refine uI Z _ Z (by assumption) Z ?_|refine uI Z 0 Z (by assumption) Z ?_|refine uI Z 1 Z (by assumption) Z ?_|refine uI Z 0 Z Z Z ?_|refine uI Z 1 Z Z Z ?_|refine uI Z 2 Z Z Z ?_|refine uI Z 3 Z Z Z ?_|refine mP ?_|(first|refine af.quo Tryz.hX kn Z Z Z Z Z Z Z ((by decide)) ?_|refine af.rem Tryz.hX kn Z Z Z Z Z Z Z ((by decide)) ?_)|(refine uA Z ?_ ?_<;>(try (show(_:Nat)*_<=_;dsimp only)))|refine af.toStr Tryz.hX kn Z Z Z Z Z Z Z Z Z Z Z (by first|exact Z|exact yT _) Z ?_|((first|refine af.pM Z Z Z ED (λh=>?_)|refine af.pN Z Z Z ED (λh=>?_)|refine af.split Z Z Z (λh=>?_) (λh=>?_))<;>(fail_if_success (cases h;done))<;>rw[h])))<;>first|exact Z|exact k):p:=h k
def dnw{p q:Prop}(k:q)(h:q->p:=by intro k;(repeat' (first|refine st ?_|(refine AK.CH Z (λh=>?_) (λh=>?_)<;>first|(cases h;done)|rw[h]|skip)|refine AK.qA Z ?_ ?_|refine uW hf Z Z ?_|refine AK.DA Tryz.hX hf Z Z Z Z ?_ (by with_reducible rfl)|refine AK.DA Tryz.hX hf Z Z Z Z ?_ ?_|refine AK.DB Tryz.hX hf Z Z Z Z ?_ (by with_reducible rfl)|refine AK.DB Tryz.hX hf Z Z Z Z ?_ ?_|refine uC Z (by assumption) ?_|refine uI Z _ Z (by assumption) Z ?_|refine uI Z 0 Z (by assumption) Z ?_|refine uI Z 1 Z (by assumption) Z ?_|refine uI Z 0 Z Z Z ?_|refine uI Z 1 Z Z Z ?_|refine uI Z 2 Z Z Z ?_|refine uI Z 3 Z Z Z ?_|refine mP ?_|(first|refine af.quo Tryz.hX kn Z Z Z Z Z Z Z ((by decide)) ?_|refine af.rem Tryz.hX kn Z Z Z Z Z Z Z ((by decide)) ?_)|(refine uA Z ?_ ?_<;>(try (show(_:Nat)*_<=_;dsimp only)))|refine af.toStr Tryz.hX kn Z Z Z Z Z Z Z Z Z Z Z (by first|exact Z|exact yT _) Z ?_|((first|refine af.pM Z Z Z ED (λh=>?_)|refine af.pN Z Z Z ED (λh=>?_)|refine af.split Z Z Z (λh=>?_) (λh=>?_))<;>(fail_if_success (cases h;done))<;>rw[h])))<;>first|exact Wk.refl _|exact k):p:=h k
def dw{p:Prop}(h:p:=by(repeat' (first|refine st ?_|(refine AK.CH Z (λh=>?_) (λh=>?_)<;>first|(cases h;done)|rw[h]|skip)|refine AK.qA Z ?_ ?_|refine uW hf Z Z ?_|refine AK.DA Tryz.hX hf Z Z Z Z ?_ (by with_reducible rfl)|refine AK.DA Tryz.hX hf Z Z Z Z ?_ ?_|refine AK.DB Tryz.hX hf Z Z Z Z ?_ (by with_reducible rfl)|refine AK.DB Tryz.hX hf Z Z Z Z ?_ ?_|refine uC Z (by assumption) ?_|refine uI Z _ Z (by assumption) Z ?_|refine uI Z 0 Z (by assumption) Z ?_|refine uI Z 1 Z (by assumption) Z ?_|refine uI Z 0 Z Z Z ?_|refine uI Z 1 Z Z Z ?_|refine uI Z 2 Z Z Z ?_|refine uI Z 3 Z Z Z ?_|refine mP ?_|(first|refine af.quo Tryz.hX kn Z Z Z Z Z Z Z ((by decide)) ?_|refine af.rem Tryz.hX kn Z Z Z Z Z Z Z ((by decide)) ?_)|(refine uA Z ?_ ?_<;>(try (show(_:Nat)*_<=_;dsimp only)))|refine af.toStr Tryz.hX kn Z Z Z Z Z Z Z Z Z Z Z (by first|exact Z|exact yT _) Z ?_|((first|refine af.pM Z Z Z ED (λh=>?_)|refine af.pN Z Z Z ED (λh=>?_)|refine af.split Z Z Z (λh=>?_) (λh=>?_))<;>(fail_if_success (cases h;done))<;>rw[h])))<;>(first|exact Wk.refl _|exact Bu Z Z|exact Y|exact xN|exact ae9|(show _<=_;simp only[aZ,aG,aac,aad];omega))):p:=h
abbrev ah:=@bg Tryz.prog Tryz.X
abbrev Av:=@AK Tryz.prog Tryz.X
abbrev lI:=@af Tryz.prog Tryz.X
abbrev gT:=@cn Tryz.prog Tryz.X
abbrev qE:=@cP Tryz.prog Tryz.X
abbrev oY:=@dP Tryz.prog Tryz.X
end Go.Proofs
