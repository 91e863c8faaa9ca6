/- The types of the program, held against it by the kernel. -/
import Derived.Test.YtdnpapgijbhofaaGreatDoorLibD
import Derived.Test.YtdnpapgijbhofaaGreatDoorProg
import Derived.KernelRfl
set_option linter.defProp false
namespace Go.Proofs
open Go.cw
def wK:L AV:=[.c (.int .i64 0),.c (.int .i64 0),.c (.int .i64 0),.c (.int .i64 0),.own .exact 2 [],.c (.int .i64 0),.own .exact 2 [],.own .exact 5 [],.c (.int .i64 0),.c (.int .i64 0),.c (.int .i64 0),.c (.str []),.own .exact 7 [],.own .exact 2 [],.own .exact 5 []]
def ac8:L AV:=wK++wK++wK++wK++wK++wK++wK++wK++wK++wK++wK++wK
def Tryz.table:L (Nat×TI):=[
 (2,⟨1,8,.int .i64,some (.c (.int .i64 0))⟩),
 (3,⟨1,8,.int .i64,some (.c (.int .i64 0))⟩),
 (4,⟨1,1,.bool,some (.c (.bool false))⟩),
 (5,⟨1,1,.int .u8,some (.c (.int .u8 0))⟩),
 (6,⟨1,1,.int .u8,some (.c (.int .u8 0))⟩),
 (8,⟨4,24,.struct [(0,2),(1,3),(2,4),(3,6)],some (.agg [.c (.int .i64 0),.c (.int .i64 0),.c (.bool false),.c (.int .u8 0)])⟩),
 (9,⟨1,16,.str,some (.c (.str []))⟩),
 (10,⟨1,16,.str,some (.c (.str []))⟩),
 (11,⟨1,16,.str,some (.c (.str []))⟩),
 (12,⟨1,8,.int .u64,some (.c (.int .u64 0))⟩),
 (14,⟨2,24,.struct [(0,9),(1,12)],some (.agg [.c (.str []),.c (.int .u64 0)])⟩),
 (15,⟨1,8,.ptr 222,some (.c .mX)⟩),
 (16,⟨1,8,.ptr 225,some (.c .mX)⟩),
 (17,⟨1,8,.ptr 234,some (.c .mX)⟩),
 (19,⟨1,8,.struct [(0,17)],some (.agg [.c .mX])⟩),
 (22,⟨1,24,.slice 39,some (.own .exact 5 [])⟩),
 (23,⟨1,24,.slice 25,some (.own .exact 2 [])⟩),
 (25,⟨2,32,.struct [(0,3),(1,23)],some (.agg [.c (.int .i64 0),.own .exact 2 []])⟩),
 (26,⟨1,24,.slice 47,some (.own .exact 5 [])⟩),
 (27,⟨1,24,.slice 29,some (.own .exact 7 [])⟩),
 (29,⟨7,112,.struct [(0,3),(1,3),(2,3),(3,9),(4,27),(5,23),(6,26)],some (.agg [.c (.int .i64 0),.c (.int .i64 0),.c (.int .i64 0),.c (.str []),.own .exact 7 [],.own .exact 2 [],.own .exact 5 []])⟩),
 (31,⟨15,224,.struct [(0,3),(1,3),(2,3),(3,25),(5,25),(7,26),(8,29)],some (.agg [.c (.int .i64 0),.c (.int .i64 0),.c (.int .i64 0),.c (.int .i64 0),.own .exact 2 [],.c (.int .i64 0),.own .exact 2 [],.own .exact 5 [],.c (.int .i64 0),.c (.int .i64 0),.c (.int .i64 0),.c (.str []),.own .exact 7 [],.own .exact 2 [],.own .exact 5 []])⟩),
 (32,⟨180,2688,.arr 12 31,some (.agg ac8)⟩),
 (34,⟨181,2696,.struct [(0,32),(180,3)],some (.agg (ac8++[.c (.int .i64 0)]))⟩),
 (35,⟨1,0,.other,none⟩),
 (37,⟨1,24,.slice 50,some (.own .exact 23 [])⟩),
 (39,⟨5,56,.struct [(0,3),(1,3),(2,3),(3,3),(4,37)],some (.agg [.c (.int .i64 0),.c (.int .i64 0),.c (.int .i64 0),.c (.int .i64 0),.own .exact 23 []])⟩),
 (40,⟨1,8,.int .i64,some (.c (.int .i64 0))⟩),
 (41,⟨1,24,.slice 3,some (.own .exact 1 [])⟩),
 (43,⟨5,56,.struct [(0,40),(1,3),(2,3),(3,3),(4,41)],some (.agg [.c (.int .i64 0),.c (.int .i64 0),.c (.int .i64 0),.c (.int .i64 0),.own .exact 1 []])⟩),
 (44,⟨1,8,.other,none⟩),
 (47,⟨5,64,.struct [(0,3),(1,3),(2,3),(3,9),(4,26)],some (.agg [.c (.int .i64 0),.c (.int .i64 0),.c (.int .i64 0),.c (.str []),.own .exact 5 []])⟩),
 (48,⟨10,128,.arr 2 47,some (.agg [.c (.int .i64 0),.c (.int .i64 0),.c (.int .i64 0),.c (.str []),.own .exact 5 [],.c (.int .i64 0),.c (.int .i64 0),.c (.int .i64 0),.c (.str []),.own .exact 5 []])⟩),
 (50,⟨23,280,.struct [(0,3),(1,3),(2,3),(3,47),(8,48),(18,47)],some (.agg [.c (.int .i64 0),.c (.int .i64 0),.c (.int .i64 0),.c (.int .i64 0),.c (.int .i64 0),.c (.int .i64 0),.c (.str []),.own .exact 5 [],.c (.int .i64 0),.c (.int .i64 0),.c (.int .i64 0),.c (.str []),.own .exact 5 [],.c (.int .i64 0),.c (.int .i64 0),.c (.int .i64 0),.c (.str []),.own .exact 5 [],.c (.int .i64 0),.c (.int .i64 0),.c (.int .i64 0),.c (.str []),.own .exact 5 []])⟩),
 (54,⟨1,0,.other,none⟩),
 (58,⟨1,24,.slice 43,some (.own .exact 5 [])⟩),
 (59,⟨1,0,.other,none⟩),
 (63,⟨4,32,.struct [(0,3),(1,3),(2,3),(3,3)],some (.agg [.c (.int .i64 0),.c (.int .i64 0),.c (.int .i64 0),.c (.int .i64 0)])⟩),
 (65,⟨2,32,.struct [(0,23),(1,4)],some (.agg [.own .exact 2 [],.c (.bool false)])⟩),
 (66,⟨1,0,.other,none⟩),
 (70,⟨11,160,.struct [(0,40),(1,27),(2,29),(9,3),(10,3)],some (.agg [.c (.int .i64 0),.own .exact 7 [],.c (.int .i64 0),.c (.int .i64 0),.c (.int .i64 0),.c (.str []),.own .exact 7 [],.own .exact 2 [],.own .exact 5 [],.c (.int .i64 0),.c (.int .i64 0)])⟩),
 (77,⟨1,0,.other,none⟩),
 (87,⟨1,8,.other,none⟩),
 (88,⟨1,8,.other,none⟩),
 (89,⟨1,8,.other,none⟩),
 (91,⟨1,8,.ptr 31,some (.c .mX)⟩),
 (92,⟨1,8,.ptr 94,some (.c .mX)⟩),
 (94,⟨187,2760,.struct [(0,34),(181,3),(182,43)],some (.agg (ac8++[.c (.int .i64 0),.c (.int .i64 0),.c (.int .i64 0),.c (.int .i64 0),.c (.int .i64 0),.c (.int .i64 0),.own .exact 1 []]))⟩),
 (96,⟨1,8,.ptr 50,some (.c .mX)⟩),
 (98,⟨9,128,.struct [(0,3),(1,96),(2,29)],some (.agg [.c (.int .i64 0),.c .mX,.c (.int .i64 0),.c (.int .i64 0),.c (.int .i64 0),.c (.str []),.own .exact 7 [],.own .exact 2 [],.own .exact 5 []])⟩),
 (100,⟨1,8,.other,none⟩),
 (108,⟨1,8,.other,none⟩),
 (113,⟨1,24,.slice 98,some (.own .exact 9 [])⟩),
 (114,⟨1,0,.other,none⟩),
 (119,⟨1,8,.ptr 3,some (.c .mX)⟩),
 (120,⟨1,8,.other,none⟩),
 (121,⟨1,8,.ptr 126,some (.c .mX)⟩),
 (123,⟨4,64,.struct [(0,26),(1,3),(2,3),(3,27)],some (.agg [.own .exact 5 [],.c (.int .i64 0),.c (.int .i64 0),.own .exact 7 []])⟩),
 (124,⟨1,24,.slice 123,some (.own .exact 4 [])⟩),
 (126,⟨16,216,.struct [(0,63),(4,27),(5,124),(6,3),(7,3),(8,3),(9,29)],some (.agg [.c (.int .i64 0),.c (.int .i64 0),.c (.int .i64 0),.c (.int .i64 0),.own .exact 7 [],.own .exact 4 [],.c (.int .i64 0),.c (.int .i64 0),.c (.int .i64 0),.c (.int .i64 0),.c (.int .i64 0),.c (.int .i64 0),.c (.str []),.own .exact 7 [],.own .exact 2 [],.own .exact 5 []])⟩),
 (133,⟨1,8,.other,none⟩),
 (135,⟨1,8,.other,none⟩),
 (139,⟨1,0,.other,none⟩),
 (142,⟨1,8,.ptr 123,some (.c .mX)⟩),
 (148,⟨1,0,.other,none⟩),
 (150,⟨1,0,.other,none⟩),
 (152,⟨1,0,.other,none⟩),
 (160,⟨1,0,.other,none⟩),
 (162,⟨1,0,.other,none⟩),
 (166,⟨1,0,.other,none⟩),
 (180,⟨1,0,.other,none⟩),
 (182,⟨1,0,.other,none⟩),
 (187,⟨1,0,.other,none⟩),
 (195,⟨1,8,.int .u64,some (.c (.int .u64 0))⟩),
 (196,⟨1,0,.other,none⟩),
 (198,⟨1,0,.other,none⟩),
 (202,⟨1,0,.other,none⟩),
 (204,⟨1,0,.other,none⟩),
 (206,⟨1,8,.int .u64,some (.c (.int .u64 0))⟩),
 (207,⟨1,24,.slice 5,some (.own .exact 1 [])⟩),
 (211,⟨1,8,.ptr 213,some (.c .mX)⟩),
 (213,⟨3,32,.struct [(0,9),(1,3),(2,40)],some (.agg [.c (.str []),.c (.int .i64 0),.c (.int .i64 0)])⟩),
 (222,⟨4,40,.struct [(0,17),(1,17),(2,17),(3,9)],some (.agg [.c .mX,.c .mX,.c .mX,.c (.str [])])⟩),
 (226,⟨1,4,.int .u32,some (.c (.int .u32 0))⟩),
 (227,⟨1,1,.int .u8,some (.c (.int .u8 0))⟩),
 (228,⟨1,1,.int .u8,some (.c (.int .u8 0))⟩),
 (229,⟨1,8,.other,none⟩),
 (230,⟨1,8,.ptr 5,some (.c .mX)⟩),
 (231,⟨1,4,.int .i32,some (.c (.int .i32 0))⟩),
 (232,⟨1,4,.int .i32,some (.c (.int .i32 0))⟩),
 (234,⟨11,48,.struct [(0,12),(1,12),(2,226),(3,227),(4,5),(5,5),(6,228),(7,229),(8,230),(9,231),(10,232)],none⟩)]
def Tryz.X:Ctx:=⟨λt=>aq t Tryz.table,λn=>aq n [(0,.ip [.any,.any])]⟩
def Tryz.WW:Tryz.table.all (λp=>WX Tryz.prog p.1 p.2)=true:=by kernel_rfl
def Tryz.hX:cB Tryz.prog Tryz.X:=WY rfl Tryz.WW
def Tryz.mixed:Tryz.prog.follows .mixedOrders=true:=by kernel_rfl
def uS{ops:Array Oper}{rest Y:L Oper}{σ:St}{env env':Env}{acc W:L Fp}{Q:Env->St->L Fp->Prop}(h:Jr Tryz.X ops.toList σ.boxes kn (S7 rest) rest env acc = .at Y env' W)(k:ah Tryz.prog Tryz.X ops Y env' σ W Q):ah Tryz.prog Tryz.X ops rest env σ acc Q:=ah.ahO Tryz.hX kn h k
def Qv{ops:Array Oper}{o:Oper}{rest Y:L Oper}{σ:St}{env env':Env}{acc W:L Fp}{Q:Env->St->L Fp->Prop}(C:simple o.op=true)(h:Jr Tryz.X ops.toList σ.boxes kn 0 (o::rest) env acc = .at Y env' W)(k:ah Tryz.prog Tryz.X ops Y env' σ W Q):ah Tryz.prog Tryz.X ops (o::rest) env σ acc Q:=ah.ae6 Tryz.hX kn C h k
def uB{ops:Array Oper}{o:Oper}{rest:L Oper}{env env':Env}{acc:L Fp}{Q:Env->St->L Fp->Prop}{bs bs':L (Nat×L AV)}{ts:L (Nat×Nat)}{us us':L Nat}{Y:Fp}(h:NB Tryz.X ops.toList o env bs us = .ok env' bs' us' Y)(k:ah Tryz.prog Tryz.X ops rest env' ⟨bs',ts,us'⟩ (Y::acc) Q):ah Tryz.prog Tryz.X ops (o::rest) env ⟨bs,ts,us⟩ acc Q:=ah.NB Tryz.hX h k
def uA{ops:Array Oper}{o:Oper}{rest:L Oper}{env:Env}{acc:L Fp}{Q:Env->St->L Fp->Prop}{bs:L (Nat×L AV)}{ts ts':L (Nat×Nat)}{us:L Nat}{d Y n sz b:Nat}{rows bV:L CV}(h:NC Tryz.X ops.toList o env ts us=some (d,Y,n,sz,rows,bV,b,ts'))(U:(rows.length+bV.length)*b<=140737488355328)(k:ah Tryz.prog Tryz.X ops rest ((d,.own (.tok Y n) sz (rows++bV))::env) ⟨bs,ts',Y::us⟩ (⟨[],[Y]⟩::acc) Q):ah Tryz.prog Tryz.X ops (o::rest) env ⟨bs,ts,us⟩ acc Q:=ah.NC Tryz.hX h U k
def uC{ops:Array Oper}{o:Oper}{rest:L Oper}{σ:St}{env:Env}{acc:L Fp}{Q:Env->St->L Fp->Prop}{d:Nat}{f:FuncId}{Y:L CV}{r:CV}(h:ND Tryz.X ops.toList o env=some (d,f,Y))(hq:aR Tryz.prog Tryz.X f Y r)(k:ah Tryz.prog Tryz.X ops rest ((d,.c r)::env) σ (⟨[],[]⟩::acc) Q):ah Tryz.prog Tryz.X ops (o::rest) env σ acc Q:=ah.ND h hq k
def uI{ops:Array Oper}{o:Oper}{rest:L Oper}{σ:St}{env:Env}{acc:L Fp}{Q:Env->St->L Fp->Prop}{d:Nat}{rows:L CV}{z:Int}(h:NG Tryz.X ops.toList o env=some (d,rows,z))(m:Nat)(q:z=m){r:CV}(D:rows[m]?=some r){cs:L CV}(B:r.cells=cs)(k:ah Tryz.prog Tryz.X ops rest ((d,.c (.ip cs))::env) σ (⟨[],[]⟩::acc) Q):ah Tryz.prog Tryz.X ops (o::rest) env σ acc Q:=ah.NG Tryz.hX h m q D B k
def uP{f:FuncId}{n:Nat}{β:kz}{R:Ending->World->Prop}{σ:St}{K W:L Item}{env env':Env}(h:QE Tryz.X n σ.boxes 300 K env = .at W env')(k:AK Tryz.prog Tryz.X f n β R W env' σ):AK Tryz.prog Tryz.X f n β R K env σ:=AK.Qi Tryz.hX Tryz.mixed 300 h k
def uR{f:FuncId}{n:Nat}{β:kz}{R:Ending->World->Prop}{σ:St}{K:L Item}{env:Env}{id:Nat}{ops:Array Oper}{Y:Bool}(I:tW ops n=true)(h:ah Tryz.prog Tryz.X ops ops.toList env σ [] (λenv' P W=>(Y=true->rS ops W=true)/\AK Tryz.prog Tryz.X f n β R K env' P)):AK Tryz.prog Tryz.X f n β R (.code (.region id ops Y)::K) env σ:=AK.region Tryz.mixed I h
def uQ{f:FuncId}{n:Nat}{β:kz}{K:L Item}{env:Env}{σ:St}{C:Func}(hf:Tryz.prog.funcs[f]?=some C){r:AV}{Y W:CV}(B:kQ Tryz.X σ.boxes env C.results.toList=some r)(I:close r=some Y)(O:Y=W):AK Tryz.prog Tryz.X f n β (QR β W) (.code .ret::K) env σ:=AK.ae7 Tryz.hX hf B I O
def uW{f:FuncId}{n:Nat}{β:kz}{K:L Item}{env:Env}{σ:St}{C:Func}(hf:Tryz.prog.funcs[f]?=some C){r:AV}{Y W:CV}(B:kQ Tryz.X σ.boxes env C.results.toList=some r)(I:close r=some Y)(O:Wk Y W):AK Tryz.prog Tryz.X f n β (QR β W) (.code .ret::K) env σ:=AK.F6 Tryz.hX hf B I O
def FR{c b:Bool}(h:c=b:=by first|with_reducible assumption|(simp only[ahE,ahw,Bool.not_true,Bool.not_false,ahS,Int.reduceBNe,Int.reduceBEq];first|done|with_reducible assumption)):c=b:=h
def ac9{c b:Bool}(h:c=b:=by first|with_reducible assumption|(simp only[ahE,ahw,Bool.not_true,Bool.not_false,ahS,Int.reduceBNe,Int.reduceBEq];with_reducible assumption)):c=b:=h
def ZG{c b:Bool}(h:c=b:=by(fail_if_success (with_reducible rfl));exact FR):c=b:=h
def ae8{c b:Bool}(h:c=b:=by(fail_if_success (with_reducible rfl));exact ac9):c=b:=h
def st{p q:Prop}(k:q)(h:q->p:=by first|exact λk=>uP Z k|exact λk=>AK.CL Z FR k|exact λk=>AK.CM Z FR k|exact λk=>uR Z k|exact λk=>ah.done k|exact λk=>uS Z k|exact λk=>uB Z k|exact λk=>Qv Z Z k|exact λk=>ah.drawn (by kernel_rfl) k):p:=h k
def so{p q:Prop}(k:q)(h:q->p:=by first|exact λk=>ah.done k|exact λk=>uS Z k|exact λk=>uB Z k|exact λk=>Qv Z Z k|exact λk=>ah.drawn (by kernel_rfl) k|exact λk=>ah.qG Z Z Z ZG k|exact λk=>ah.qH Z Z Z ZG k):p:=h k
def sz{p q:Prop}(k:q)(h:q->p:=by first|exact λk=>uP Z k|exact λk=>AK.CL Z FR k|exact λk=>AK.CM Z FR k|exact λk=>uR Z k|exact λk=>ah.done k|exact λk=>uS Z k|exact λk=>uB Z k|exact λk=>Qv Z Z k|exact λk=>ah.drawn (by kernel_rfl) k|exact λk=>uQ hf Z Z k|exact λk=>AK.ED Tryz.hX hf Z Z Z Z k (by with_reducible rfl)|exact λk=>AK.EE Tryz.hX hf Z Z Z Z k (by with_reducible rfl)|exact λk=>ah.toStr Tryz.hX kn Z Z Z Z Z Z Z Z Z Z Z (by first|exact Z|exact Ag _) Z k|exact λk=>ah.qG Z Z Z ZG k|exact λk=>ah.qH Z Z Z ZG k):p:=h k
def qz{p q:Prop}(k:q)(h:q->p:=by first|exact λk=>uP Z k|exact λk=>AK.CL Z ac9 k|exact λk=>AK.CM Z ac9 k|exact λk=>uR Z k|exact λk=>ah.done k|exact λk=>uS Z k|exact λk=>uB Z k|exact λk=>Qv Z Z k|exact λk=>ah.drawn (by kernel_rfl) k|exact λk=>uQ hf Z Z k|exact λk=>AK.ED Tryz.hX hf Z Z Z Z k (by with_reducible rfl)|exact λk=>AK.EE Tryz.hX hf Z Z Z Z k (by with_reducible rfl)|exact λk=>ah.toStr Tryz.hX kn Z Z Z Z Z Z Z Z Z Z Z (by first|exact Z|exact Ag _) Z k|exact λk=>ah.qG Z Z Z ae8 k|exact λk=>ah.qH Z Z Z ae8 k):p:=h k
def kM{p q:Prop}(k:q)(h:q->p:=by first|exact λk=>uP Z k|exact λk=>AK.CL Z FR k|exact λk=>AK.CM Z FR k|exact λk=>uR Z k|exact λk=>ah.done k|exact λk=>uS Z k|exact λk=>uB Z k|exact λk=>Qv Z Z k|exact λk=>ah.drawn (by kernel_rfl) k|exact λk=>uW hf Z Z k|exact λk=>AK.ED Tryz.hX hf Z Z Z Z k (by with_reducible rfl)|exact λk=>AK.EE Tryz.hX hf Z Z Z Z k (by with_reducible rfl)|exact λk=>ah.toStr Tryz.hX kn Z Z Z Z Z Z Z Z Z Z Z (by first|exact Z|exact Ag _) Z k|exact λk=>ah.qG Z Z Z ZG k|exact λk=>ah.qH Z Z Z ZG k):p:=h k
def o9{p q:Prop}(k:q)(h:q->p:=by first|exact λk=>uP Z k|exact λk=>AK.CL Z FR k|exact λk=>AK.CM Z FR k|exact λk=>uR Z k|exact λk=>ah.done k|exact λk=>uS Z k|exact λk=>uB Z k|exact λk=>Qv Z Z k|exact λk=>ah.drawn (by kernel_rfl) k|exact λk=>W0 hf Z Z Z Z Z Z Z Z Z k|exact λk=>ada hf Z Z Z Z Z Z Z Z Z k|exact λk=>ah.toStr Tryz.hX kn Z Z Z Z Z Z Z Z Z Z Z (by first|exact Z|exact Ag _) Z k|exact λk=>ah.qG Z Z Z ZG k|exact λk=>ah.qH Z Z Z ZG k):p:=h k
def NL(_:Bool):Prop:=True
def NLt:NL true:=trivial
def NLf:NL false:=trivial
def nl{b:Bool}(h:NL b:=by(fail_if_success (with_reducible exact NLt));(fail_if_success (with_reducible exact NLf));exact trivial):NL b:=h
def nlb{d:Nat}{env:Env}{b:Bool}(h:aq d env=some (.c (.bool b)))(_:NL b):aq d env=some (.c (.bool b)):=h
def zc{p q r:Prop}(k:q)(l:r)(h:q->r->p:=by first|exact λa b=>AK.DR Z a b|exact λa b=>ah.split Z Z (nlb Z nl) a b):p:=h k l
def ze{p q r:Prop}(k:q)(l:r)(h:q->r->p:=by first|exact λa b=>AK.DR Z a b|exact λa b=>AK.ED Tryz.hX hf Z Z Z Z a b|exact λa b=>AK.EE Tryz.hX hf Z Z Z Z a b|exact λa b=>ah.split Z Z (nlb Z nl) a b):p:=h k l
def zu{p q r:Prop}(k:q)(l:r)(h:q->r->p:=by exact λa b=>ah.split Z Z (nlb Z nl) a b):p:=h k l
def nv{ops:Array Oper}{o:Oper}{rest:L Oper}{env:Env}{acc:L Fp}{Q:Env->St->L Fp->Prop}{bs:L (Nat×L AV)}{ts:L (Nat×Nat)}{us:L Nat}{f:FuncId}{args:Array Operand}{Y:Array TypeId}{K:L PA}{rs:L LV}{M:L (Nat×L LV)}{l:L AV}{d:Nat}{nb:L (Nat×L AV)}{H W V bx:L (Nat×Nat)}{tk:L (Nat×(Nat×Option Nat))}{bs':L (Nat×L AV)}{ts':L (Nat×Nat)}{us' P O:L Nat}{env':Env}(k:ah Tryz.prog Tryz.X ops rest env' ⟨bs',ts',us'⟩ (⟨P,O⟩::acc) Q)(G:cY ops.toList kn env o=some true:=by exact rfl)(N:o.op = .call {callee := .value (.func f),args:=args,argTypes:=Y}:=by exact rfl)(hq:bM Tryz.prog Tryz.X f K rs M:=by assumption)(I:gI (aG Tryz.X env) args.toList=some l:=by exact rfl)(hok:ql bs ts K l:=by(repeat' (first|exact rfl|exact trivial|refine⟨_,_,rfl,?_,?_⟩|refine⟨_,_,_,rfl,rfl,?_,?_⟩));done)(J:o.dst=some d:=by exact rfl)(E:lE (lF bs 0 K l)=some bx:=by exact rfl)(C:lE (kD bs 0 K l)=some tk:=by exact rfl)(U:KX bx (10000000*(d+1)) M=some nb:=by exact rfl)(T:lE (rT (10000000*(d+1)) (qX M++AB 0 rk rs))=some H:=by exact rfl)(B:lE (rU ts (di tk))=some W:=by exact rfl)(A:CS us bx tk (sS M) nb H W (qX M++AB 0 rk rs)=true:=by exact rfl)(u:vM nb bs=some bs':=by exact rfl)(S:lE (H++W)=some V:=by exact rfl)(D:vM V ts=some ts':=by exact rfl)(q:tX (gT H++us)=some us':=by exact rfl)(hR:tX (bx.map (·.2)++di tk)=some P:=by exact rfl)(hW:tX (gT nb++(gT V++gT H))=some O:=by exact rfl)(he:QF d (10000000*(d+1)) rs env=some env':=by exact rfl):ah Tryz.prog Tryz.X ops (o::rest) env ⟨bs,ts,us⟩ acc Q:=ah.W3 kn G N hq I hok J E C U T B A u S D q hR hW he k
def W4:Nat->L CV->Env
 |_,[]=>[]
 |i,c::l=>(i,.c c)::W4 (i+1) l
def S8:∀(i:Nat)(l:L CV),W4 i l=((l.zipIdx i).map λ(v,i)=>(i,AV.c v))
 |_,[]=>rfl
 |i,c::l=>by simp only[W4,agR,aeX,S8 (i+1) l]
def qn{f:FuncId}{C:Func}{c:Code}{M:L CV}{r:CV}{env:Env}(hf:Tryz.prog.funcs[f]?=some C)(O:Enters Tryz.prog f)(k:∀β,Tryz.prog.funcs[f]?=some C->AK Tryz.prog Tryz.X f C.ntmps β (QR β r) [.code c] env ⟨[],[],[]⟩)(U:C.body=some c:=by exact rfl)(B:M.length<=C.ntmps:=by exact aeP rfl)(Y:W4 0 M=env:=by simp only[W4];try exact rfl):aR Tryz.prog Tryz.X f M r:=aR.of hf U O B env (by rw[<- Y,S8]) λβ _=>k β hf
def en{f:FuncId}{C:Func}{c:Code}{K:L PA}{rs:L LV}{M:L (Nat×L LV)}(hf:Tryz.prog.funcs[f]?=some C)(O:Enters Tryz.prog f)(env:Env)(bs:L (Nat×L AV))(ts:L (Nat×Nat))(us:L Nat)(k:∀β,Tryz.prog.funcs[f]?=some C->AK Tryz.prog Tryz.X f C.ntmps β (ER β rs M) [.code c] env ⟨bs,ts,us⟩)(U:C.body=some c:=by exact rfl)(B:K.length<=C.ntmps:=by exact aeP rfl)(Y:env=((CT 0 K).zipIdx.map λ(v,i)=>(i,v)):=by exact rfl)(u:uJ K=⟨bs,ts,us⟩:=by exact rfl):bM Tryz.prog Tryz.X f K rs M:=bM.ofL hf U O B env bs ts us Y u λβ=>k β hf
def dq{p:Prop}(h:p:=by(repeat' (first|refine st ?_|(refine AK.DR Z (λh=>?_) (λh=>?_)<;>first|(cases h;done)|rw[h]|skip)|refine AK.rM Z ?_ ?_|refine uQ hf Z Z ?_|refine AK.ED Tryz.hX hf Z Z Z Z ?_ (by with_reducible rfl)|refine AK.ED Tryz.hX hf Z Z Z Z ?_ ?_|refine AK.EE Tryz.hX hf Z Z Z Z ?_ (by with_reducible rfl)|refine AK.EE Tryz.hX hf Z Z Z Z ?_ ?_|refine uC Z (by assumption) ?_|refine uI Z _ Z (by assumption) Z ?_|refine uI Z 0 Z (by assumption) Z ?_|refine uI Z 1 Z (by assumption) Z ?_|refine uI Z 0 Z Z Z ?_|refine uI Z 1 Z Z Z ?_|refine uI Z 2 Z Z Z ?_|refine uI Z 3 Z Z Z ?_|refine nv ?_|(first|refine ah.quo Tryz.hX kn Z Z Z Z Z Z Z ((by decide)) ?_|refine ah.rem Tryz.hX kn Z Z Z Z Z Z Z ((by decide)) ?_)|(refine uA Z ?_ ?_<;>(try (show(_:Nat)*_<=_;dsimp only)))|refine ah.toStr Tryz.hX kn Z Z Z Z Z Z Z Z Z Z Z (by first|exact Z|exact Ag _) Z ?_|((first|refine ah.qG Z Z Z FR (λh=>?_)|refine ah.qH Z Z Z FR (λh=>?_)|refine ah.split Z Z Z (λh=>?_) (λh=>?_))<;>(fail_if_success (cases h;done))<;>rw[h])))<;>rfl):p:=h
def qdq{f:FuncId}{C:Func}{c:Code}{M:L CV}{r:CV}{env:Env}(hf:Tryz.prog.funcs[f]?=some C)(O:Enters Tryz.prog f)(U:C.body=some c:=by exact rfl)(B:M.length<=C.ntmps:=by exact aeP rfl)(Y:W4 0 M=env:=by simp only[W4];try exact rfl)(k:∀β,Tryz.prog.funcs[f]?=some C->AK Tryz.prog Tryz.X f C.ntmps β (QR β r) [.code c] env ⟨[],[],[]⟩:=by intro β hf;exact dq):aR Tryz.prog Tryz.X f M r:=qn hf O k U B Y
def dn{p q:Prop}(k:q)(h:q->p:=by intro k;(repeat' (first|refine st ?_|(refine AK.DR Z (λh=>?_) (λh=>?_)<;>first|(cases h;done)|rw[h]|skip)|refine AK.rM Z ?_ ?_|refine uQ hf Z Z ?_|refine AK.ED Tryz.hX hf Z Z Z Z ?_ (by with_reducible rfl)|refine AK.ED Tryz.hX hf Z Z Z Z ?_ ?_|refine AK.EE Tryz.hX hf Z Z Z Z ?_ (by with_reducible rfl)|refine AK.EE Tryz.hX hf Z Z Z Z ?_ ?_|refine uC Z (by assumption) ?_|refine uI Z _ Z (by assumption) Z ?_|refine uI Z 0 Z (by assumption) Z ?_|refine uI Z 1 Z (by assumption) Z ?_|refine uI Z 0 Z Z Z ?_|refine uI Z 1 Z Z Z ?_|refine uI Z 2 Z Z Z ?_|refine uI Z 3 Z Z Z ?_|refine nv ?_|(first|refine ah.quo Tryz.hX kn Z Z Z Z Z Z Z ((by decide)) ?_|refine ah.rem Tryz.hX kn Z Z Z Z Z Z Z ((by decide)) ?_)|(refine uA Z ?_ ?_<;>(try (show(_:Nat)*_<=_;dsimp only)))|refine ah.toStr Tryz.hX kn Z Z Z Z Z Z Z Z Z Z Z (by first|exact Z|exact Ag _) Z ?_|((first|refine ah.qG Z Z Z FR (λh=>?_)|refine ah.qH Z Z Z FR (λh=>?_)|refine ah.split Z Z Z (λh=>?_) (λh=>?_))<;>(fail_if_success (cases h;done))<;>rw[h])))<;>first|exact Z|exact k):p:=h k
def dnw{p q:Prop}(k:q)(h:q->p:=by intro k;(repeat' (first|refine st ?_|(refine AK.DR Z (λh=>?_) (λh=>?_)<;>first|(cases h;done)|rw[h]|skip)|refine AK.rM Z ?_ ?_|refine uW hf Z Z ?_|refine AK.ED Tryz.hX hf Z Z Z Z ?_ (by with_reducible rfl)|refine AK.ED Tryz.hX hf Z Z Z Z ?_ ?_|refine AK.EE Tryz.hX hf Z Z Z Z ?_ (by with_reducible rfl)|refine AK.EE Tryz.hX hf Z Z Z Z ?_ ?_|refine uC Z (by assumption) ?_|refine uI Z _ Z (by assumption) Z ?_|refine uI Z 0 Z (by assumption) Z ?_|refine uI Z 1 Z (by assumption) Z ?_|refine uI Z 0 Z Z Z ?_|refine uI Z 1 Z Z Z ?_|refine uI Z 2 Z Z Z ?_|refine uI Z 3 Z Z Z ?_|refine nv ?_|(first|refine ah.quo Tryz.hX kn Z Z Z Z Z Z Z ((by decide)) ?_|refine ah.rem Tryz.hX kn Z Z Z Z Z Z Z ((by decide)) ?_)|(refine uA Z ?_ ?_<;>(try (show(_:Nat)*_<=_;dsimp only)))|refine ah.toStr Tryz.hX kn Z Z Z Z Z Z Z Z Z Z Z (by first|exact Z|exact Ag _) Z ?_|((first|refine ah.qG Z Z Z FR (λh=>?_)|refine ah.qH Z Z Z FR (λh=>?_)|refine ah.split Z Z Z (λh=>?_) (λh=>?_))<;>(fail_if_success (cases h;done))<;>rw[h])))<;>first|exact Wk.refl _|exact k):p:=h k
def dw{p:Prop}(h:p:=by(repeat' (first|refine st ?_|(refine AK.DR Z (λh=>?_) (λh=>?_)<;>first|(cases h;done)|rw[h]|skip)|refine AK.rM Z ?_ ?_|refine uW hf Z Z ?_|refine AK.ED Tryz.hX hf Z Z Z Z ?_ (by with_reducible rfl)|refine AK.ED Tryz.hX hf Z Z Z Z ?_ ?_|refine AK.EE Tryz.hX hf Z Z Z Z ?_ (by with_reducible rfl)|refine AK.EE Tryz.hX hf Z Z Z Z ?_ ?_|refine uC Z (by assumption) ?_|refine uI Z _ Z (by assumption) Z ?_|refine uI Z 0 Z (by assumption) Z ?_|refine uI Z 1 Z (by assumption) Z ?_|refine uI Z 0 Z Z Z ?_|refine uI Z 1 Z Z Z ?_|refine uI Z 2 Z Z Z ?_|refine uI Z 3 Z Z Z ?_|refine nv ?_|(first|refine ah.quo Tryz.hX kn Z Z Z Z Z Z Z ((by decide)) ?_|refine ah.rem Tryz.hX kn Z Z Z Z Z Z Z ((by decide)) ?_)|(refine uA Z ?_ ?_<;>(try (show(_:Nat)*_<=_;dsimp only)))|refine ah.toStr Tryz.hX kn Z Z Z Z Z Z Z Z Z Z Z (by first|exact Z|exact Ag _) Z ?_|((first|refine ah.qG Z Z Z FR (λh=>?_)|refine ah.qH Z Z Z FR (λh=>?_)|refine ah.split Z Z Z (λh=>?_) (λh=>?_))<;>(fail_if_success (cases h;done))<;>rw[h])))<;>(first|exact Wk.refl _|exact CB Z Z|exact Y|exact yT|exact ahl|(show _<=_;simp only[aQ,aB,aag,aay];omega))):p:=h
def qdw{f:FuncId}{C:Func}{c:Code}{M:L CV}{r:CV}{env:Env}(hf:Tryz.prog.funcs[f]?=some C)(O:Enters Tryz.prog f)(U:C.body=some c:=by exact rfl)(B:M.length<=C.ntmps:=by exact aeP rfl)(Y:W4 0 M=env:=by simp only[W4];try exact rfl)(k:∀β,Tryz.prog.funcs[f]?=some C->AK Tryz.prog Tryz.X f C.ntmps β (QR β r) [.code c] env ⟨[],[],[]⟩:=by intro β hf;exact dw):aR Tryz.prog Tryz.X f M r:=qn hf O k U B Y
abbrev af:=@aR Tryz.prog Tryz.X
abbrev By:=@AK Tryz.prog Tryz.X
abbrev me:=@ah Tryz.prog Tryz.X
abbrev hJ:=@bM Tryz.prog Tryz.X
abbrev rQ:=@cn Tryz.prog Tryz.X
abbrev qh:=@cX Tryz.prog Tryz.X
end Go.Proofs
