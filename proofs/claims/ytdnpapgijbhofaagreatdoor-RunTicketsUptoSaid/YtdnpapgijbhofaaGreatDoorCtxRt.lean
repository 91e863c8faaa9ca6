/- The types of the program, held against it by the kernel. -/
import Derived.Test.YtdnpapgijbhofaaGreatDoorLibDRt
import Derived.Test.YtdnpapgijbhofaaGreatDoorProg
import Derived.KernelRfl
set_option linter.defProp false
namespace Go.Proofs
open Go.cB
def tv:L AV:=[.c (.int .i64 0),.c (.int .i64 0),.c (.int .i64 0),.c (.int .i64 0),.own .exact 2 [],.c (.int .i64 0),.own .exact 2 [],.own .exact 5 [],.c (.int .i64 0),.c (.int .i64 0),.c (.int .i64 0),.c (.str []),.own .exact 7 [],.own .exact 2 [],.own .exact 5 []]
def WX:L AV:=tv++tv++tv++tv++tv++tv++tv++tv++tv++tv++tv++tv
def Tryz.table:L (Nat×TI):=[
 (2,⟨1,8,.int .i64,some (.c (.int .i64 0))⟩),
 (3,⟨1,8,.int .i64,some (.c (.int .i64 0))⟩),
 (4,⟨1,1,.bool,some (.c (.bool false))⟩),
 (5,⟨1,1,.int .u8,some (.c (.int .u8 0))⟩),
 (6,⟨1,1,.int .u8,some (.c (.int .u8 0))⟩),
 (8,⟨4,24,.struct [(0,2),(1,3),(2,4),(3,6)],some (.agg [.c (.int .i64 0),.c (.int .i64 0),.c (.bool false),.c (.int .u8 0)])⟩),
 (9,⟨1,16,.str,some (.c (.str []))⟩),
 (10,⟨1,16,.str,some (.c (.str []))⟩),
 (11,⟨1,16,.str,some (.c (.str []))⟩),
 (12,⟨1,8,.int .u64,some (.c (.int .u64 0))⟩),
 (14,⟨2,24,.struct [(0,9),(1,12)],some (.agg [.c (.str []),.c (.int .u64 0)])⟩),
 (15,⟨1,8,.ptr 222,some (.c .ld)⟩),
 (16,⟨1,8,.ptr 225,some (.c .ld)⟩),
 (17,⟨1,8,.ptr 234,some (.c .ld)⟩),
 (19,⟨1,8,.struct [(0,17)],some (.agg [.c .ld])⟩),
 (22,⟨1,24,.slice 39,some (.own .exact 5 [])⟩),
 (23,⟨1,24,.slice 25,some (.own .exact 2 [])⟩),
 (25,⟨2,32,.struct [(0,3),(1,23)],some (.agg [.c (.int .i64 0),.own .exact 2 []])⟩),
 (26,⟨1,24,.slice 47,some (.own .exact 5 [])⟩),
 (27,⟨1,24,.slice 29,some (.own .exact 7 [])⟩),
 (29,⟨7,112,.struct [(0,3),(1,3),(2,3),(3,9),(4,27),(5,23),(6,26)],some (.agg [.c (.int .i64 0),.c (.int .i64 0),.c (.int .i64 0),.c (.str []),.own .exact 7 [],.own .exact 2 [],.own .exact 5 []])⟩),
 (31,⟨15,224,.struct [(0,3),(1,3),(2,3),(3,25),(5,25),(7,26),(8,29)],some (.agg [.c (.int .i64 0),.c (.int .i64 0),.c (.int .i64 0),.c (.int .i64 0),.own .exact 2 [],.c (.int .i64 0),.own .exact 2 [],.own .exact 5 [],.c (.int .i64 0),.c (.int .i64 0),.c (.int .i64 0),.c (.str []),.own .exact 7 [],.own .exact 2 [],.own .exact 5 []])⟩),
 (32,⟨180,2688,.arr 12 31,some (.agg WX)⟩),
 (34,⟨181,2696,.struct [(0,32),(180,3)],some (.agg (WX++[.c (.int .i64 0)]))⟩),
 (35,⟨1,0,.other,none⟩),
 (37,⟨1,24,.slice 50,some (.own .exact 23 [])⟩),
 (39,⟨5,56,.struct [(0,3),(1,3),(2,3),(3,3),(4,37)],some (.agg [.c (.int .i64 0),.c (.int .i64 0),.c (.int .i64 0),.c (.int .i64 0),.own .exact 23 []])⟩),
 (40,⟨1,8,.int .i64,some (.c (.int .i64 0))⟩),
 (41,⟨1,24,.slice 3,some (.own .exact 1 [])⟩),
 (43,⟨5,56,.struct [(0,40),(1,3),(2,3),(3,3),(4,41)],some (.agg [.c (.int .i64 0),.c (.int .i64 0),.c (.int .i64 0),.c (.int .i64 0),.own .exact 1 []])⟩),
 (44,⟨1,8,.other,none⟩),
 (47,⟨5,64,.struct [(0,3),(1,3),(2,3),(3,9),(4,26)],some (.agg [.c (.int .i64 0),.c (.int .i64 0),.c (.int .i64 0),.c (.str []),.own .exact 5 []])⟩),
 (48,⟨10,128,.arr 2 47,some (.agg [.c (.int .i64 0),.c (.int .i64 0),.c (.int .i64 0),.c (.str []),.own .exact 5 [],.c (.int .i64 0),.c (.int .i64 0),.c (.int .i64 0),.c (.str []),.own .exact 5 []])⟩),
 (50,⟨23,280,.struct [(0,3),(1,3),(2,3),(3,47),(8,48),(18,47)],some (.agg [.c (.int .i64 0),.c (.int .i64 0),.c (.int .i64 0),.c (.int .i64 0),.c (.int .i64 0),.c (.int .i64 0),.c (.str []),.own .exact 5 [],.c (.int .i64 0),.c (.int .i64 0),.c (.int .i64 0),.c (.str []),.own .exact 5 [],.c (.int .i64 0),.c (.int .i64 0),.c (.int .i64 0),.c (.str []),.own .exact 5 [],.c (.int .i64 0),.c (.int .i64 0),.c (.int .i64 0),.c (.str []),.own .exact 5 []])⟩),
 (54,⟨1,0,.other,none⟩),
 (58,⟨1,24,.slice 43,some (.own .exact 5 [])⟩),
 (59,⟨1,0,.other,none⟩),
 (63,⟨4,32,.struct [(0,3),(1,3),(2,3),(3,3)],some (.agg [.c (.int .i64 0),.c (.int .i64 0),.c (.int .i64 0),.c (.int .i64 0)])⟩),
 (65,⟨2,32,.struct [(0,23),(1,4)],some (.agg [.own .exact 2 [],.c (.bool false)])⟩),
 (66,⟨1,0,.other,none⟩),
 (70,⟨11,160,.struct [(0,40),(1,27),(2,29),(9,3),(10,3)],some (.agg [.c (.int .i64 0),.own .exact 7 [],.c (.int .i64 0),.c (.int .i64 0),.c (.int .i64 0),.c (.str []),.own .exact 7 [],.own .exact 2 [],.own .exact 5 [],.c (.int .i64 0),.c (.int .i64 0)])⟩),
 (77,⟨1,0,.other,none⟩),
 (87,⟨1,8,.other,none⟩),
 (88,⟨1,8,.other,none⟩),
 (89,⟨1,8,.other,none⟩),
 (91,⟨1,8,.ptr 31,some (.c .ld)⟩),
 (92,⟨1,8,.ptr 94,some (.c .ld)⟩),
 (94,⟨187,2760,.struct [(0,34),(181,3),(182,43)],some (.agg (WX++[.c (.int .i64 0),.c (.int .i64 0),.c (.int .i64 0),.c (.int .i64 0),.c (.int .i64 0),.c (.int .i64 0),.own .exact 1 []]))⟩),
 (96,⟨1,8,.ptr 50,some (.c .ld)⟩),
 (98,⟨9,128,.struct [(0,3),(1,96),(2,29)],some (.agg [.c (.int .i64 0),.c .ld,.c (.int .i64 0),.c (.int .i64 0),.c (.int .i64 0),.c (.str []),.own .exact 7 [],.own .exact 2 [],.own .exact 5 []])⟩),
 (100,⟨1,8,.other,none⟩),
 (108,⟨1,8,.other,none⟩),
 (113,⟨1,24,.slice 98,some (.own .exact 9 [])⟩),
 (114,⟨1,0,.other,none⟩),
 (119,⟨1,8,.ptr 3,some (.c .ld)⟩),
 (120,⟨1,8,.other,none⟩),
 (121,⟨1,8,.ptr 126,some (.c .ld)⟩),
 (123,⟨4,64,.struct [(0,26),(1,3),(2,3),(3,27)],some (.agg [.own .exact 5 [],.c (.int .i64 0),.c (.int .i64 0),.own .exact 7 []])⟩),
 (124,⟨1,24,.slice 123,some (.own .exact 4 [])⟩),
 (126,⟨16,216,.struct [(0,63),(4,27),(5,124),(6,3),(7,3),(8,3),(9,29)],some (.agg [.c (.int .i64 0),.c (.int .i64 0),.c (.int .i64 0),.c (.int .i64 0),.own .exact 7 [],.own .exact 4 [],.c (.int .i64 0),.c (.int .i64 0),.c (.int .i64 0),.c (.int .i64 0),.c (.int .i64 0),.c (.int .i64 0),.c (.str []),.own .exact 7 [],.own .exact 2 [],.own .exact 5 []])⟩),
 (133,⟨1,8,.other,none⟩),
 (135,⟨1,8,.other,none⟩),
 (139,⟨1,0,.other,none⟩),
 (142,⟨1,8,.ptr 123,some (.c .ld)⟩),
 (148,⟨1,0,.other,none⟩),
 (150,⟨1,0,.other,none⟩),
 (152,⟨1,0,.other,none⟩),
 (160,⟨1,0,.other,none⟩),
 (162,⟨1,0,.other,none⟩),
 (166,⟨1,0,.other,none⟩),
 (180,⟨1,0,.other,none⟩),
 (182,⟨1,0,.other,none⟩),
 (187,⟨1,0,.other,none⟩),
 (195,⟨1,8,.int .u64,some (.c (.int .u64 0))⟩),
 (196,⟨1,0,.other,none⟩),
 (198,⟨1,0,.other,none⟩),
 (202,⟨1,0,.other,none⟩),
 (204,⟨1,0,.other,none⟩),
 (206,⟨1,8,.int .u64,some (.c (.int .u64 0))⟩),
 (207,⟨1,24,.slice 5,some (.own .exact 1 [])⟩),
 (211,⟨1,8,.ptr 213,some (.c .ld)⟩),
 (213,⟨3,32,.struct [(0,9),(1,3),(2,40)],some (.agg [.c (.str []),.c (.int .i64 0),.c (.int .i64 0)])⟩),
 (222,⟨4,40,.struct [(0,17),(1,17),(2,17),(3,9)],some (.agg [.c .ld,.c .ld,.c .ld,.c (.str [])])⟩),
 (226,⟨1,4,.int .u32,some (.c (.int .u32 0))⟩),
 (227,⟨1,1,.int .u8,some (.c (.int .u8 0))⟩),
 (228,⟨1,1,.int .u8,some (.c (.int .u8 0))⟩),
 (229,⟨1,8,.other,none⟩),
 (230,⟨1,8,.ptr 5,some (.c .ld)⟩),
 (231,⟨1,4,.int .i32,some (.c (.int .i32 0))⟩),
 (232,⟨1,4,.int .i32,some (.c (.int .i32 0))⟩),
 (234,⟨11,48,.struct [(0,12),(1,12),(2,226),(3,227),(4,5),(5,5),(6,228),(7,229),(8,230),(9,231),(10,232)],none⟩)]
def Tryz.X:Ctx:=⟨λt=>ak t Tryz.table,λn=>ak n [(0,.ip [.any,.any])]⟩
def Tryz.Q4:Tryz.table.all (λp=>Q5 Tryz.prog p.1 p.2)=true:=by kernel_rfl
def Tryz.hX:cg Tryz.prog Tryz.X:=Q6 rfl Tryz.Q4
def Tryz.mixed:Tryz.prog.follows .mixedOrders=true:=by kernel_rfl
def uS{ops:Array Oper}{rest K:L Oper}{σ:St}{env env':Env}{acc Y:L Fp}{Q:Env->St->L Fp->Prop}(h:Fb Tryz.X ops.toList σ.boxes kn (N7 rest) rest env acc = .at K env' Y)(k:ai Tryz.prog Tryz.X ops K env' σ Y Q):ai Tryz.prog Tryz.X ops rest env σ acc Q:=ai.abb Tryz.hX kn h k
def Pd{ops:Array Oper}{o:Oper}{rest K:L Oper}{σ:St}{env env':Env}{acc Y:L Fp}{Q:Env->St->L Fp->Prop}(C:simple o.op=true)(h:Fb Tryz.X ops.toList σ.boxes kn 0 (o::rest) env acc = .at K env' Y)(k:ai Tryz.prog Tryz.X ops K env' σ Y Q):ai Tryz.prog Tryz.X ops (o::rest) env σ acc Q:=ai.YL Tryz.hX kn C h k
def uB{ops:Array Oper}{o:Oper}{rest:L Oper}{env env':Env}{acc:L Fp}{Q:Env->St->L Fp->Prop}{bs bs':L (Nat×L AV)}{ts:L (Nat×Nat)}{us us':L Nat}{N:Fp}(h:Jf Tryz.X ops.toList o env bs us = .ok env' bs' us' N)(k:ai Tryz.prog Tryz.X ops rest env' ⟨bs',ts,us'⟩ (N::acc) Q):ai Tryz.prog Tryz.X ops (o::rest) env ⟨bs,ts,us⟩ acc Q:=ai.Jf Tryz.hX h k
def uA{ops:Array Oper}{o:Oper}{rest:L Oper}{env:Env}{acc:L Fp}{Q:Env->St->L Fp->Prop}{bs:L (Nat×L AV)}{ts ts':L (Nat×Nat)}{us:L Nat}{d P n sz b:Nat}{rows bL:L CV}(h:Jg Tryz.X ops.toList o env ts us=some (d,P,n,sz,rows,bL,b,ts'))(A:(rows.length+bL.length)*b<=140737488355328)(k:ai Tryz.prog Tryz.X ops rest ((d,.own (.tok P n) sz (rows++bL))::env) ⟨bs,ts',P::us⟩ (⟨[],[P]⟩::acc) Q):ai Tryz.prog Tryz.X ops (o::rest) env ⟨bs,ts,us⟩ acc Q:=ai.Jg Tryz.hX h A k
def uC{ops:Array Oper}{o:Oper}{rest:L Oper}{σ:St}{env:Env}{acc:L Fp}{Q:Env->St->L Fp->Prop}{d:Nat}{f:FuncId}{O:L CV}{r:CV}(h:Jh Tryz.X ops.toList o env=some (d,f,O))(hq:aR Tryz.prog Tryz.X f O r)(k:ai Tryz.prog Tryz.X ops rest ((d,.c r)::env) σ (⟨[],[]⟩::acc) Q):ai Tryz.prog Tryz.X ops (o::rest) env σ acc Q:=ai.Jh h hq k
def uI{ops:Array Oper}{o:Oper}{rest:L Oper}{σ:St}{env:Env}{acc:L Fp}{Q:Env->St->L Fp->Prop}{d:Nat}{rows:L CV}{z:Int}(h:Ji Tryz.X ops.toList o env=some (d,rows,z))(m:Nat)(T:z=m){r:CV}(B:rows[m]?=some r){cs:L CV}(M:r.cells=cs)(k:ai Tryz.prog Tryz.X ops rest ((d,.c (.ip cs))::env) σ (⟨[],[]⟩::acc) Q):ai Tryz.prog Tryz.X ops (o::rest) env σ acc Q:=ai.Ji Tryz.hX h m T B M k
def uP{f:FuncId}{n:Nat}{β:jq}{R:Ending->World->Prop}{σ:St}{K T:L Item}{env env':Env}(h:LN Tryz.X n σ.boxes 300 K env = .at T env')(k:AK Tryz.prog Tryz.X f n β R T env' σ):AK Tryz.prog Tryz.X f n β R K env σ:=AK.LF Tryz.hX Tryz.mixed 300 h k
def uR{f:FuncId}{n:Nat}{β:jq}{R:Ending->World->Prop}{σ:St}{K:L Item}{env:Env}{id:Nat}{ops:Array Oper}{Y:Bool}(J:qR ops n=true)(h:ai Tryz.prog Tryz.X ops ops.toList env σ [] (λenv' D W=>(Y=true->pg ops W=true)/\AK Tryz.prog Tryz.X f n β R K env' D)):AK Tryz.prog Tryz.X f n β R (.code (.region id ops Y)::K) env σ:=AK.region Tryz.mixed J h
def uQ{f:FuncId}{n:Nat}{β:jq}{K:L Item}{env:Env}{σ:St}{P:Func}(hf:Tryz.prog.funcs[f]?=some P){r:AV}{O Y:CV}(A:oK Tryz.X σ.boxes env P.results.toList=some r)(D:close r=some O)(W:O=Y):AK Tryz.prog Tryz.X f n β (QR β Y) (.code .ret::K) env σ:=AK.YM Tryz.hX hf A D W
def uW{f:FuncId}{n:Nat}{β:jq}{K:L Item}{env:Env}{σ:St}{P:Func}(hf:Tryz.prog.funcs[f]?=some P){r:AV}{O Y:CV}(A:oK Tryz.X σ.boxes env P.results.toList=some r)(D:close r=some O)(W:Wk O Y):AK Tryz.prog Tryz.X f n β (QR β Y) (.code .ret::K) env σ:=AK.abc Tryz.hX hf A D W
def Ex{c b:Bool}(h:c=b:=by first|with_reducible assumption|(simp only[adm,ade,Bool.not_true,Bool.not_false,adf,Int.reduceBNe,Int.reduceBEq];first|done|with_reducible assumption)):c=b:=h
def WY{c b:Bool}(h:c=b:=by first|with_reducible assumption|(simp only[adm,ade,Bool.not_true,Bool.not_false,adf,Int.reduceBNe,Int.reduceBEq];with_reducible assumption)):c=b:=h
def V5{c b:Bool}(h:c=b:=by(fail_if_success (with_reducible rfl));exact Ex):c=b:=h
def YN{c b:Bool}(h:c=b:=by(fail_if_success (with_reducible rfl));exact WY):c=b:=h
def st{p q:Prop}(k:q)(h:q->p:=by first|exact λk=>uP Z k|exact λk=>AK.Cq Z Ex k|exact λk=>AK.Cr Z Ex k|exact λk=>uR Z k|exact λk=>ai.done k|exact λk=>uS Z k|exact λk=>uB Z k|exact λk=>Pd Z Z k|exact λk=>ai.drawn (by kernel_rfl) k):p:=h k
def so{p q:Prop}(k:q)(h:q->p:=by first|exact λk=>ai.done k|exact λk=>uS Z k|exact λk=>uB Z k|exact λk=>Pd Z Z k|exact λk=>ai.drawn (by kernel_rfl) k|exact λk=>ai.pn Z Z Z V5 k|exact λk=>ai.pq Z Z Z V5 k):p:=h k
def sz{p q:Prop}(k:q)(h:q->p:=by first|exact λk=>uP Z k|exact λk=>AK.Cq Z Ex k|exact λk=>AK.Cr Z Ex k|exact λk=>uR Z k|exact λk=>ai.done k|exact λk=>uS Z k|exact λk=>uB Z k|exact λk=>Pd Z Z k|exact λk=>ai.drawn (by kernel_rfl) k|exact λk=>uQ hf Z Z k|exact λk=>AK.BB Tryz.hX hf Z Z Z Z k (by with_reducible rfl)|exact λk=>AK.BC Tryz.hX hf Z Z Z Z k (by with_reducible rfl)|exact λk=>ai.toStr Tryz.hX kn Z Z Z Z Z Z Z Z Z Z Z (by first|exact Z|exact wD _) Z k|exact λk=>ai.pn Z Z Z V5 k|exact λk=>ai.pq Z Z Z V5 k):p:=h k
def qg{p q:Prop}(k:q)(h:q->p:=by first|exact λk=>uP Z k|exact λk=>AK.Cq Z WY k|exact λk=>AK.Cr Z WY k|exact λk=>uR Z k|exact λk=>ai.done k|exact λk=>uS Z k|exact λk=>uB Z k|exact λk=>Pd Z Z k|exact λk=>ai.drawn (by kernel_rfl) k|exact λk=>uQ hf Z Z k|exact λk=>AK.BB Tryz.hX hf Z Z Z Z k (by with_reducible rfl)|exact λk=>AK.BC Tryz.hX hf Z Z Z Z k (by with_reducible rfl)|exact λk=>ai.toStr Tryz.hX kn Z Z Z Z Z Z Z Z Z Z Z (by first|exact Z|exact wD _) Z k|exact λk=>ai.pn Z Z Z YN k|exact λk=>ai.pq Z Z Z YN k):p:=h k
def kW{p q:Prop}(k:q)(h:q->p:=by first|exact λk=>uP Z k|exact λk=>AK.Cq Z Ex k|exact λk=>AK.Cr Z Ex k|exact λk=>uR Z k|exact λk=>ai.done k|exact λk=>uS Z k|exact λk=>uB Z k|exact λk=>Pd Z Z k|exact λk=>ai.drawn (by kernel_rfl) k|exact λk=>uW hf Z Z k|exact λk=>AK.BB Tryz.hX hf Z Z Z Z k (by with_reducible rfl)|exact λk=>AK.BC Tryz.hX hf Z Z Z Z k (by with_reducible rfl)|exact λk=>ai.toStr Tryz.hX kn Z Z Z Z Z Z Z Z Z Z Z (by first|exact Z|exact wD _) Z k|exact λk=>ai.pn Z Z Z V5 k|exact λk=>ai.pq Z Z Z V5 k):p:=h k
def mQ{p q:Prop}(k:q)(h:q->p:=by first|exact λk=>uP Z k|exact λk=>AK.Cq Z Ex k|exact λk=>AK.Cr Z Ex k|exact λk=>uR Z k|exact λk=>ai.done k|exact λk=>uS Z k|exact λk=>uB Z k|exact λk=>Pd Z Z k|exact λk=>ai.drawn (by kernel_rfl) k|exact λk=>Q8 hf Z Z Z Z Z Z Z Z Z k|exact λk=>WZ hf Z Z Z Z Z Z Z Z Z k|exact λk=>ai.toStr Tryz.hX kn Z Z Z Z Z Z Z Z Z Z Z (by first|exact Z|exact wD _) Z k|exact λk=>ai.pn Z Z Z V5 k|exact λk=>ai.pq Z Z Z V5 k):p:=h k
def NL(_:Bool):Prop:=True
def NLt:NL true:=trivial
def NLf:NL false:=trivial
def nl{b:Bool}(h:NL b:=by(fail_if_success (with_reducible exact NLt));(fail_if_success (with_reducible exact NLf));exact trivial):NL b:=h
def nlb{d:Nat}{env:Env}{b:Bool}(h:ak d env=some (.c (.bool b)))(_:NL b):ak d env=some (.c (.bool b)):=h
def zc{p q r:Prop}(k:q)(l:r)(h:q->r->p:=by first|exact λa b=>AK.AR Z a b|exact λa b=>ai.split Z Z (nlb Z nl) a b):p:=h k l
def ze{p q r:Prop}(k:q)(l:r)(h:q->r->p:=by first|exact λa b=>AK.AR Z a b|exact λa b=>AK.BB Tryz.hX hf Z Z Z Z a b|exact λa b=>AK.BC Tryz.hX hf Z Z Z Z a b|exact λa b=>ai.split Z Z (nlb Z nl) a b):p:=h k l
def zu{p q r:Prop}(k:q)(l:r)(h:q->r->p:=by exact λa b=>ai.split Z Z (nlb Z nl) a b):p:=h k l
def kV{ops:Array Oper}{o:Oper}{rest:L Oper}{env:Env}{acc:L Fp}{Q:Env->St->L Fp->Prop}{bs:L (Nat×L AV)}{ts:L (Nat×Nat)}{us:L Nat}{f:FuncId}{args:Array Operand}{Y:Array TypeId}{p:L PA}{rs:L LV}{u:L (Nat×L LV)}{l:L AV}{d:Nat}{nb:L (Nat×L AV)}{I H W bx:L (Nat×Nat)}{tk:L (Nat×(Nat×Option Nat))}{bs':L (Nat×L AV)}{ts':L (Nat×Nat)}{us' S P:L Nat}{env':Env}(k:ai Tryz.prog Tryz.X ops rest env' ⟨bs',ts',us'⟩ (⟨S,P⟩::acc) Q)(G:cP ops.toList kn env o=some true:=by exact rfl)(O:o.op = .call {callee := .value (.func f),args:=args,argTypes:=Y}:=by exact rfl)(hq:bW Tryz.prog Tryz.X f p rs u:=by assumption)(N:gq (aH Tryz.X env) args.toList=some l:=by exact rfl)(hok:nR bs ts p l:=by(repeat' (first|exact rfl|exact trivial|refine⟨_,_,rfl,?_,?_⟩|refine⟨_,_,_,rfl,rfl,?_,?_⟩));done)(J:o.dst=some d:=by exact rfl)(M:jA (jB bs 0 p l)=some bx:=by exact rfl)(K:jA (iZ bs 0 p l)=some tk:=by exact rfl)(V:Gz bx (10000000*(d+1)) u=some nb:=by exact rfl)(U:jA (pz (10000000*(d+1)) (oL u++wX 0 rk rs))=some I:=by exact rfl)(E:jA (pE ts (cG tk))=some H:=by exact rfl)(D:zH us bx tk (ql u) nb I H (oL u++wX 0 rk rs)=true:=by exact rfl)(B:sH nb bs=some bs':=by exact rfl)(T:jA (I++H)=some W:=by exact rfl)(C:sH W ts=some ts':=by exact rfl)(A:qS (fK I++us)=some us':=by exact rfl)(q:qS (bx.map (·.2)++cG tk)=some S:=by exact rfl)(hW:qS (fK nb++(fK W++fK I))=some P:=by exact rfl)(he:LO d (10000000*(d+1)) rs env=some env':=by exact rfl):ai Tryz.prog Tryz.X ops (o::rest) env ⟨bs,ts,us⟩ acc Q:=ai.Ra kn G O hq N hok J M K V U E D B T C A q hW he k
def Rb:Nat->L CV->Env
 |_,[]=>[]
 |i,c::l=>(i,.c c)::Rb (i+1) l
def N8:∀(i:Nat)(l:L CV),Rb i l=((l.zipIdx i).map λ(v,i)=>(i,AV.c v))
 |_,[]=>rfl
 |i,c::l=>by simp only[Rb,acr,abk,N8 (i+1) l]
def qn{f:FuncId}{P:Func}{c:Code}{args:L CV}{r:CV}{env:Env}(hf:Tryz.prog.funcs[f]?=some P)(Y:Enters Tryz.prog f)(k:∀β,Tryz.prog.funcs[f]?=some P->AK Tryz.prog Tryz.X f P.ntmps β (QR β r) [.code c] env ⟨[],[],[]⟩)(A:P.body=some c:=by exact rfl)(O:args.length<=P.ntmps:=by exact abf rfl)(u:Rb 0 args=env:=by simp only[Rb];try exact rfl):aR Tryz.prog Tryz.X f args r:=aR.of hf A Y O env (by rw[<- u,N8]) λβ _=>k β hf
def en{f:FuncId}{P:Func}{c:Code}{p:L PA}{rs:L LV}{u:L (Nat×L LV)}(hf:Tryz.prog.funcs[f]?=some P)(Y:Enters Tryz.prog f)(env:Env)(bs:L (Nat×L AV))(ts:L (Nat×Nat))(us:L Nat)(k:∀β,Tryz.prog.funcs[f]?=some P->AK Tryz.prog Tryz.X f P.ntmps β (ER β rs u) [.code c] env ⟨bs,ts,us⟩)(A:P.body=some c:=by exact rfl)(O:p.length<=P.ntmps:=by exact abf rfl)(H:env=((zI 0 p).zipIdx.map λ(v,i)=>(i,v)):=by exact rfl)(M:rJ p=⟨bs,ts,us⟩:=by exact rfl):bW Tryz.prog Tryz.X f p rs u:=bW.ofL hf A Y O env bs ts us H M λβ=>k β hf
def dq{p:Prop}(h:p:=by(repeat' (first|refine st ?_|(refine AK.AR Z (λh=>?_) (λh=>?_)<;>first|(cases h;done)|rw[h]|skip)|refine AK.pe Z ?_ ?_|refine uQ hf Z Z ?_|refine AK.BB Tryz.hX hf Z Z Z Z ?_ (by with_reducible rfl)|refine AK.BB Tryz.hX hf Z Z Z Z ?_ ?_|refine AK.BC Tryz.hX hf Z Z Z Z ?_ (by with_reducible rfl)|refine AK.BC Tryz.hX hf Z Z Z Z ?_ ?_|refine uC Z (by assumption) ?_|refine uI Z _ Z (by assumption) Z ?_|refine uI Z 0 Z (by assumption) Z ?_|refine uI Z 1 Z (by assumption) Z ?_|refine uI Z 0 Z Z Z ?_|refine uI Z 1 Z Z Z ?_|refine uI Z 2 Z Z Z ?_|refine uI Z 3 Z Z Z ?_|refine kV ?_|(first|refine ai.quo Tryz.hX kn Z Z Z Z Z Z Z ((by decide)) ?_|refine ai.rem Tryz.hX kn Z Z Z Z Z Z Z ((by decide)) ?_)|(refine uA Z ?_ ?_<;>(try (show(_:Nat)*_<=_;dsimp only)))|refine ai.toStr Tryz.hX kn Z Z Z Z Z Z Z Z Z Z Z (by first|exact Z|exact wD _) Z ?_|((first|refine ai.pn Z Z Z Ex (λh=>?_)|refine ai.pq Z Z Z Ex (λh=>?_)|refine ai.split Z Z Z (λh=>?_) (λh=>?_))<;>(fail_if_success (cases h;done))<;>rw[h])))<;>rfl):p:=h
def qdq{f:FuncId}{P:Func}{c:Code}{args:L CV}{r:CV}{env:Env}(hf:Tryz.prog.funcs[f]?=some P)(Y:Enters Tryz.prog f)(A:P.body=some c:=by exact rfl)(O:args.length<=P.ntmps:=by exact abf rfl)(u:Rb 0 args=env:=by simp only[Rb];try exact rfl)(k:∀β,Tryz.prog.funcs[f]?=some P->AK Tryz.prog Tryz.X f P.ntmps β (QR β r) [.code c] env ⟨[],[],[]⟩:=by intro β hf;exact dq):aR Tryz.prog Tryz.X f args r:=qn hf Y k A O u
def dn{p q:Prop}(k:q)(h:q->p:=by intro k;(repeat' (first|refine st ?_|(refine AK.AR Z (λh=>?_) (λh=>?_)<;>first|(cases h;done)|rw[h]|skip)|refine AK.pe Z ?_ ?_|refine uQ hf Z Z ?_|refine AK.BB Tryz.hX hf Z Z Z Z ?_ (by with_reducible rfl)|refine AK.BB Tryz.hX hf Z Z Z Z ?_ ?_|refine AK.BC Tryz.hX hf Z Z Z Z ?_ (by with_reducible rfl)|refine AK.BC Tryz.hX hf Z Z Z Z ?_ ?_|refine uC Z (by assumption) ?_|refine uI Z _ Z (by assumption) Z ?_|refine uI Z 0 Z (by assumption) Z ?_|refine uI Z 1 Z (by assumption) Z ?_|refine uI Z 0 Z Z Z ?_|refine uI Z 1 Z Z Z ?_|refine uI Z 2 Z Z Z ?_|refine uI Z 3 Z Z Z ?_|refine kV ?_|(first|refine ai.quo Tryz.hX kn Z Z Z Z Z Z Z ((by decide)) ?_|refine ai.rem Tryz.hX kn Z Z Z Z Z Z Z ((by decide)) ?_)|(refine uA Z ?_ ?_<;>(try (show(_:Nat)*_<=_;dsimp only)))|refine ai.toStr Tryz.hX kn Z Z Z Z Z Z Z Z Z Z Z (by first|exact Z|exact wD _) Z ?_|((first|refine ai.pn Z Z Z Ex (λh=>?_)|refine ai.pq Z Z Z Ex (λh=>?_)|refine ai.split Z Z Z (λh=>?_) (λh=>?_))<;>(fail_if_success (cases h;done))<;>rw[h])))<;>first|exact Z|exact k):p:=h k
def dnw{p q:Prop}(k:q)(h:q->p:=by intro k;(repeat' (first|refine st ?_|(refine AK.AR Z (λh=>?_) (λh=>?_)<;>first|(cases h;done)|rw[h]|skip)|refine AK.pe Z ?_ ?_|refine uW hf Z Z ?_|refine AK.BB Tryz.hX hf Z Z Z Z ?_ (by with_reducible rfl)|refine AK.BB Tryz.hX hf Z Z Z Z ?_ ?_|refine AK.BC Tryz.hX hf Z Z Z Z ?_ (by with_reducible rfl)|refine AK.BC Tryz.hX hf Z Z Z Z ?_ ?_|refine uC Z (by assumption) ?_|refine uI Z _ Z (by assumption) Z ?_|refine uI Z 0 Z (by assumption) Z ?_|refine uI Z 1 Z (by assumption) Z ?_|refine uI Z 0 Z Z Z ?_|refine uI Z 1 Z Z Z ?_|refine uI Z 2 Z Z Z ?_|refine uI Z 3 Z Z Z ?_|refine kV ?_|(first|refine ai.quo Tryz.hX kn Z Z Z Z Z Z Z ((by decide)) ?_|refine ai.rem Tryz.hX kn Z Z Z Z Z Z Z ((by decide)) ?_)|(refine uA Z ?_ ?_<;>(try (show(_:Nat)*_<=_;dsimp only)))|refine ai.toStr Tryz.hX kn Z Z Z Z Z Z Z Z Z Z Z (by first|exact Z|exact wD _) Z ?_|((first|refine ai.pn Z Z Z Ex (λh=>?_)|refine ai.pq Z Z Z Ex (λh=>?_)|refine ai.split Z Z Z (λh=>?_) (λh=>?_))<;>(fail_if_success (cases h;done))<;>rw[h])))<;>first|exact Wk.refl _|exact k):p:=h k
def dw{p:Prop}(h:p:=by(repeat' (first|refine st ?_|(refine AK.AR Z (λh=>?_) (λh=>?_)<;>first|(cases h;done)|rw[h]|skip)|refine AK.pe Z ?_ ?_|refine uW hf Z Z ?_|refine AK.BB Tryz.hX hf Z Z Z Z ?_ (by with_reducible rfl)|refine AK.BB Tryz.hX hf Z Z Z Z ?_ ?_|refine AK.BC Tryz.hX hf Z Z Z Z ?_ (by with_reducible rfl)|refine AK.BC Tryz.hX hf Z Z Z Z ?_ ?_|refine uC Z (by assumption) ?_|refine uI Z _ Z (by assumption) Z ?_|refine uI Z 0 Z (by assumption) Z ?_|refine uI Z 1 Z (by assumption) Z ?_|refine uI Z 0 Z Z Z ?_|refine uI Z 1 Z Z Z ?_|refine uI Z 2 Z Z Z ?_|refine uI Z 3 Z Z Z ?_|refine kV ?_|(first|refine ai.quo Tryz.hX kn Z Z Z Z Z Z Z ((by decide)) ?_|refine ai.rem Tryz.hX kn Z Z Z Z Z Z Z ((by decide)) ?_)|(refine uA Z ?_ ?_<;>(try (show(_:Nat)*_<=_;dsimp only)))|refine ai.toStr Tryz.hX kn Z Z Z Z Z Z Z Z Z Z Z (by first|exact Z|exact wD _) Z ?_|((first|refine ai.pn Z Z Z Ex (λh=>?_)|refine ai.pq Z Z Z Ex (λh=>?_)|refine ai.split Z Z Z (λh=>?_) (λh=>?_))<;>(fail_if_success (cases h;done))<;>rw[h])))<;>(first|exact Wk.refl _|exact zz Z Z|exact Y|exact vp|exact aaT|(show _<=_;simp only[aL,az,aaa,aab];omega))):p:=h
def qdw{f:FuncId}{P:Func}{c:Code}{args:L CV}{r:CV}{env:Env}(hf:Tryz.prog.funcs[f]?=some P)(Y:Enters Tryz.prog f)(A:P.body=some c:=by exact rfl)(O:args.length<=P.ntmps:=by exact abf rfl)(u:Rb 0 args=env:=by simp only[Rb];try exact rfl)(k:∀β,Tryz.prog.funcs[f]?=some P->AK Tryz.prog Tryz.X f P.ntmps β (QR β r) [.code c] env ⟨[],[],[]⟩:=by intro β hf;exact dw):aR Tryz.prog Tryz.X f args r:=qn hf Y k A O u
abbrev af:=@aR Tryz.prog Tryz.X
abbrev Ey:=@AK Tryz.prog Tryz.X
abbrev ov:=@ai Tryz.prog Tryz.X
abbrev fz:=@bW Tryz.prog Tryz.X
abbrev rK:=@dG Tryz.prog Tryz.X
abbrev nP:=@dR Tryz.prog Tryz.X
end Go.Proofs
