/- The types of the program, held against it by the kernel. -/
import Derived.Test.YtdnpapgijbhofaaGreatDoorLibD
import Derived.Test.YtdnpapgijbhofaaGreatDoorProg
import Derived.KernelRfl
set_option linter.defProp false
namespace Go.Proofs
open Go.cM
def sr:L AV:=[.c (.int .i64 0),.c (.int .i64 0),.c (.int .i64 0),.c (.int .i64 0),.own .exact 2 [],.c (.int .i64 0),.own .exact 2 [],.own .exact 5 [],.c (.int .i64 0),.c (.int .i64 0),.c (.int .i64 0),.c (.str []),.own .exact 7 [],.own .exact 2 [],.own .exact 5 []]
def UE:L AV:=sr++sr++sr++sr++sr++sr++sr++sr++sr++sr++sr++sr
def Tryz.table:L (Nat×TI):=[
 (2,⟨1,8,.int .i64,some (.c (.int .i64 0))⟩),
 (3,⟨1,8,.int .i64,some (.c (.int .i64 0))⟩),
 (4,⟨1,1,.bool,some (.c (.bool false))⟩),
 (5,⟨1,1,.int .u8,some (.c (.int .u8 0))⟩),
 (6,⟨1,1,.int .u8,some (.c (.int .u8 0))⟩),
 (8,⟨4,24,.struct [(0,2),(1,3),(2,4),(3,6)],some (.agg [.c (.int .i64 0),.c (.int .i64 0),.c (.bool false),.c (.int .u8 0)])⟩),
 (9,⟨1,16,.str,some (.c (.str []))⟩),
 (10,⟨1,16,.str,some (.c (.str []))⟩),
 (11,⟨1,16,.str,some (.c (.str []))⟩),
 (12,⟨1,8,.int .u64,some (.c (.int .u64 0))⟩),
 (14,⟨2,24,.struct [(0,9),(1,12)],some (.agg [.c (.str []),.c (.int .u64 0)])⟩),
 (15,⟨1,8,.ptr 222,some (.c .kI)⟩),
 (16,⟨1,8,.ptr 225,some (.c .kI)⟩),
 (17,⟨1,8,.ptr 234,some (.c .kI)⟩),
 (19,⟨1,8,.struct [(0,17)],some (.agg [.c .kI])⟩),
 (22,⟨1,24,.slice 39,some (.own .exact 5 [])⟩),
 (23,⟨1,24,.slice 25,some (.own .exact 2 [])⟩),
 (25,⟨2,32,.struct [(0,3),(1,23)],some (.agg [.c (.int .i64 0),.own .exact 2 []])⟩),
 (26,⟨1,24,.slice 47,some (.own .exact 5 [])⟩),
 (27,⟨1,24,.slice 29,some (.own .exact 7 [])⟩),
 (29,⟨7,112,.struct [(0,3),(1,3),(2,3),(3,9),(4,27),(5,23),(6,26)],some (.agg [.c (.int .i64 0),.c (.int .i64 0),.c (.int .i64 0),.c (.str []),.own .exact 7 [],.own .exact 2 [],.own .exact 5 []])⟩),
 (31,⟨15,224,.struct [(0,3),(1,3),(2,3),(3,25),(5,25),(7,26),(8,29)],some (.agg [.c (.int .i64 0),.c (.int .i64 0),.c (.int .i64 0),.c (.int .i64 0),.own .exact 2 [],.c (.int .i64 0),.own .exact 2 [],.own .exact 5 [],.c (.int .i64 0),.c (.int .i64 0),.c (.int .i64 0),.c (.str []),.own .exact 7 [],.own .exact 2 [],.own .exact 5 []])⟩),
 (32,⟨180,2688,.arr 12 31,some (.agg UE)⟩),
 (34,⟨181,2696,.struct [(0,32),(180,3)],some (.agg (UE++[.c (.int .i64 0)]))⟩),
 (35,⟨1,0,.other,none⟩),
 (37,⟨1,24,.slice 50,some (.own .exact 23 [])⟩),
 (39,⟨5,56,.struct [(0,3),(1,3),(2,3),(3,3),(4,37)],some (.agg [.c (.int .i64 0),.c (.int .i64 0),.c (.int .i64 0),.c (.int .i64 0),.own .exact 23 []])⟩),
 (40,⟨1,8,.int .i64,some (.c (.int .i64 0))⟩),
 (41,⟨1,24,.slice 3,some (.own .exact 1 [])⟩),
 (43,⟨5,56,.struct [(0,40),(1,3),(2,3),(3,3),(4,41)],some (.agg [.c (.int .i64 0),.c (.int .i64 0),.c (.int .i64 0),.c (.int .i64 0),.own .exact 1 []])⟩),
 (44,⟨1,8,.other,none⟩),
 (47,⟨5,64,.struct [(0,3),(1,3),(2,3),(3,9),(4,26)],some (.agg [.c (.int .i64 0),.c (.int .i64 0),.c (.int .i64 0),.c (.str []),.own .exact 5 []])⟩),
 (48,⟨10,128,.arr 2 47,some (.agg [.c (.int .i64 0),.c (.int .i64 0),.c (.int .i64 0),.c (.str []),.own .exact 5 [],.c (.int .i64 0),.c (.int .i64 0),.c (.int .i64 0),.c (.str []),.own .exact 5 []])⟩),
 (50,⟨23,280,.struct [(0,3),(1,3),(2,3),(3,47),(8,48),(18,47)],some (.agg [.c (.int .i64 0),.c (.int .i64 0),.c (.int .i64 0),.c (.int .i64 0),.c (.int .i64 0),.c (.int .i64 0),.c (.str []),.own .exact 5 [],.c (.int .i64 0),.c (.int .i64 0),.c (.int .i64 0),.c (.str []),.own .exact 5 [],.c (.int .i64 0),.c (.int .i64 0),.c (.int .i64 0),.c (.str []),.own .exact 5 [],.c (.int .i64 0),.c (.int .i64 0),.c (.int .i64 0),.c (.str []),.own .exact 5 []])⟩),
 (54,⟨1,0,.other,none⟩),
 (58,⟨1,24,.slice 43,some (.own .exact 5 [])⟩),
 (59,⟨1,0,.other,none⟩),
 (63,⟨4,32,.struct [(0,3),(1,3),(2,3),(3,3)],some (.agg [.c (.int .i64 0),.c (.int .i64 0),.c (.int .i64 0),.c (.int .i64 0)])⟩),
 (65,⟨2,32,.struct [(0,23),(1,4)],some (.agg [.own .exact 2 [],.c (.bool false)])⟩),
 (66,⟨1,0,.other,none⟩),
 (70,⟨11,160,.struct [(0,40),(1,27),(2,29),(9,3),(10,3)],some (.agg [.c (.int .i64 0),.own .exact 7 [],.c (.int .i64 0),.c (.int .i64 0),.c (.int .i64 0),.c (.str []),.own .exact 7 [],.own .exact 2 [],.own .exact 5 [],.c (.int .i64 0),.c (.int .i64 0)])⟩),
 (77,⟨1,0,.other,none⟩),
 (87,⟨1,8,.other,none⟩),
 (88,⟨1,8,.other,none⟩),
 (89,⟨1,8,.other,none⟩),
 (91,⟨1,8,.ptr 31,some (.c .kI)⟩),
 (92,⟨1,8,.ptr 94,some (.c .kI)⟩),
 (94,⟨187,2760,.struct [(0,34),(181,3),(182,43)],some (.agg (UE++[.c (.int .i64 0),.c (.int .i64 0),.c (.int .i64 0),.c (.int .i64 0),.c (.int .i64 0),.c (.int .i64 0),.own .exact 1 []]))⟩),
 (96,⟨1,8,.ptr 50,some (.c .kI)⟩),
 (98,⟨9,128,.struct [(0,3),(1,96),(2,29)],some (.agg [.c (.int .i64 0),.c .kI,.c (.int .i64 0),.c (.int .i64 0),.c (.int .i64 0),.c (.str []),.own .exact 7 [],.own .exact 2 [],.own .exact 5 []])⟩),
 (100,⟨1,8,.other,none⟩),
 (108,⟨1,8,.other,none⟩),
 (113,⟨1,24,.slice 98,some (.own .exact 9 [])⟩),
 (114,⟨1,0,.other,none⟩),
 (119,⟨1,8,.ptr 3,some (.c .kI)⟩),
 (120,⟨1,8,.other,none⟩),
 (121,⟨1,8,.ptr 126,some (.c .kI)⟩),
 (123,⟨4,64,.struct [(0,26),(1,3),(2,3),(3,27)],some (.agg [.own .exact 5 [],.c (.int .i64 0),.c (.int .i64 0),.own .exact 7 []])⟩),
 (124,⟨1,24,.slice 123,some (.own .exact 4 [])⟩),
 (126,⟨16,216,.struct [(0,63),(4,27),(5,124),(6,3),(7,3),(8,3),(9,29)],some (.agg [.c (.int .i64 0),.c (.int .i64 0),.c (.int .i64 0),.c (.int .i64 0),.own .exact 7 [],.own .exact 4 [],.c (.int .i64 0),.c (.int .i64 0),.c (.int .i64 0),.c (.int .i64 0),.c (.int .i64 0),.c (.int .i64 0),.c (.str []),.own .exact 7 [],.own .exact 2 [],.own .exact 5 []])⟩),
 (133,⟨1,8,.other,none⟩),
 (135,⟨1,8,.other,none⟩),
 (139,⟨1,0,.other,none⟩),
 (142,⟨1,8,.ptr 123,some (.c .kI)⟩),
 (148,⟨1,0,.other,none⟩),
 (150,⟨1,0,.other,none⟩),
 (152,⟨1,0,.other,none⟩),
 (160,⟨1,0,.other,none⟩),
 (162,⟨1,0,.other,none⟩),
 (166,⟨1,0,.other,none⟩),
 (180,⟨1,0,.other,none⟩),
 (182,⟨1,0,.other,none⟩),
 (187,⟨1,0,.other,none⟩),
 (195,⟨1,8,.int .u64,some (.c (.int .u64 0))⟩),
 (196,⟨1,0,.other,none⟩),
 (198,⟨1,0,.other,none⟩),
 (202,⟨1,0,.other,none⟩),
 (204,⟨1,0,.other,none⟩),
 (206,⟨1,8,.int .u64,some (.c (.int .u64 0))⟩),
 (207,⟨1,24,.slice 5,some (.own .exact 1 [])⟩),
 (211,⟨1,8,.ptr 213,some (.c .kI)⟩),
 (213,⟨3,32,.struct [(0,9),(1,3),(2,40)],some (.agg [.c (.str []),.c (.int .i64 0),.c (.int .i64 0)])⟩),
 (222,⟨4,40,.struct [(0,17),(1,17),(2,17),(3,9)],some (.agg [.c .kI,.c .kI,.c .kI,.c (.str [])])⟩),
 (226,⟨1,4,.int .u32,some (.c (.int .u32 0))⟩),
 (227,⟨1,1,.int .u8,some (.c (.int .u8 0))⟩),
 (228,⟨1,1,.int .u8,some (.c (.int .u8 0))⟩),
 (229,⟨1,8,.other,none⟩),
 (230,⟨1,8,.ptr 5,some (.c .kI)⟩),
 (231,⟨1,4,.int .i32,some (.c (.int .i32 0))⟩),
 (232,⟨1,4,.int .i32,some (.c (.int .i32 0))⟩),
 (234,⟨11,48,.struct [(0,12),(1,12),(2,226),(3,227),(4,5),(5,5),(6,228),(7,229),(8,230),(9,231),(10,232)],none⟩)]
def Tryz.X:Ctx:=⟨λt=>ak t Tryz.table,λn=>ak n [(0,.ip [.any,.any])]⟩
def Tryz.Pj:Tryz.table.all (λp=>Pk Tryz.prog p.1 p.2)=true:=by kernel_rfl
def Tryz.hX:ct Tryz.prog Tryz.X:=Pm rfl Tryz.Pj
def Tryz.mixed:Tryz.prog.follows .mixedOrders=true:=by kernel_rfl
def uS{ops:Array Oper}{rest K:L Oper}{σ:St}{env env':Env}{acc Y:L Fp}{Q:Env->St->L Fp->Prop}(h:DV Tryz.X ops.toList σ.boxes kn (L1 rest) rest env acc = .at K env' Y)(k:ah Tryz.prog Tryz.X ops K env' σ Y Q):ah Tryz.prog Tryz.X ops rest env σ acc Q:=ah.Y0 Tryz.hX kn h k
def Nv{ops:Array Oper}{o:Oper}{rest K:L Oper}{σ:St}{env env':Env}{acc Y:L Fp}{Q:Env->St->L Fp->Prop}(V:simple o.op=true)(h:DV Tryz.X ops.toList σ.boxes kn 0 (o::rest) env acc = .at K env' Y)(k:ah Tryz.prog Tryz.X ops K env' σ Y Q):ah Tryz.prog Tryz.X ops (o::rest) env σ acc Q:=ah.Ws Tryz.hX kn V h k
def uB{ops:Array Oper}{o:Oper}{rest:L Oper}{env env':Env}{acc:L Fp}{Q:Env->St->L Fp->Prop}{bs bs':L (Nat×L AV)}{ts:L (Nat×Nat)}{us us':L Nat}{P:Fp}(h:Ho Tryz.X ops.toList o env bs us = .ok env' bs' us' P)(k:ah Tryz.prog Tryz.X ops rest env' ⟨bs',ts,us'⟩ (P::acc) Q):ah Tryz.prog Tryz.X ops (o::rest) env ⟨bs,ts,us⟩ acc Q:=ah.Ho Tryz.hX h k
def uA{ops:Array Oper}{o:Oper}{rest:L Oper}{env:Env}{acc:L Fp}{Q:Env->St->L Fp->Prop}{bs:L (Nat×L AV)}{ts ts':L (Nat×Nat)}{us:L Nat}{d M n sz b:Nat}{rows bV:L CV}(h:Hp Tryz.X ops.toList o env ts us=some (d,M,n,sz,rows,bV,b,ts'))(A:(rows.length+bV.length)*b<=140737488355328)(k:ah Tryz.prog Tryz.X ops rest ((d,.own (.tok M n) sz (rows++bV))::env) ⟨bs,ts',M::us⟩ (⟨[],[M]⟩::acc) Q):ah Tryz.prog Tryz.X ops (o::rest) env ⟨bs,ts,us⟩ acc Q:=ah.Hp Tryz.hX h A k
def uC{ops:Array Oper}{o:Oper}{rest:L Oper}{σ:St}{env:Env}{acc:L Fp}{Q:Env->St->L Fp->Prop}{d:Nat}{f:FuncId}{Y:L CV}{r:CV}(h:Hq Tryz.X ops.toList o env=some (d,f,Y))(hq:aZ Tryz.prog Tryz.X f Y r)(k:ah Tryz.prog Tryz.X ops rest ((d,.c r)::env) σ (⟨[],[]⟩::acc) Q):ah Tryz.prog Tryz.X ops (o::rest) env σ acc Q:=ah.Hq h hq k
def uI{ops:Array Oper}{o:Oper}{rest:L Oper}{σ:St}{env:Env}{acc:L Fp}{Q:Env->St->L Fp->Prop}{d:Nat}{rows:L CV}{z:Int}(h:Hr Tryz.X ops.toList o env=some (d,rows,z))(m:Nat)(W:z=m){r:CV}(U:rows[m]?=some r){cs:L CV}(Y:r.cells=cs)(k:ah Tryz.prog Tryz.X ops rest ((d,.c (.ip cs))::env) σ (⟨[],[]⟩::acc) Q):ah Tryz.prog Tryz.X ops (o::rest) env σ acc Q:=ah.Hr Tryz.hX h m W U Y k
def uP{f:FuncId}{n:Nat}{β:je}{R:Ending->World->Prop}{σ:St}{K M:L Item}{env env':Env}(h:JZ Tryz.X n σ.boxes 300 K env = .at M env')(k:AK Tryz.prog Tryz.X f n β R M env' σ):AK Tryz.prog Tryz.X f n β R K env σ:=AK.JR Tryz.hX Tryz.mixed 300 h k
def uR{f:FuncId}{n:Nat}{β:je}{R:Ending->World->Prop}{σ:St}{K:L Item}{env:Env}{id:Nat}{ops:Array Oper}{Y:Bool}(W:qb ops n=true)(h:ah Tryz.prog Tryz.X ops ops.toList env σ [] (λenv' u V=>(Y=true->om ops V=true)/\AK Tryz.prog Tryz.X f n β R K env' u)):AK Tryz.prog Tryz.X f n β R (.code (.region id ops Y)::K) env σ:=AK.region Tryz.mixed W h
def uQ{f:FuncId}{n:Nat}{β:je}{K:L Item}{env:Env}{σ:St}{P:Func}(hf:Tryz.prog.funcs[f]?=some P){r:AV}{E Y:CV}(W:mP Tryz.X σ.boxes env P.results.toList=some r)(A:close r=some E)(S:E=Y):AK Tryz.prog Tryz.X f n β (QR β Y) (.code .ret::K) env σ:=AK.Wt Tryz.hX hf W A S
def uW{f:FuncId}{n:Nat}{β:je}{K:L Item}{env:Env}{σ:St}{P:Func}(hf:Tryz.prog.funcs[f]?=some P){r:AV}{E Y:CV}(W:mP Tryz.X σ.boxes env P.results.toList=some r)(A:close r=some E)(S:Wk E Y):AK Tryz.prog Tryz.X f n β (QR β Y) (.code .ret::K) env σ:=AK.Y1 Tryz.hX hf W A S
def Di{c b:Bool}(h:c=b:=by first|with_reducible assumption|(simp only[abO,abE,Bool.not_true,Bool.not_false,abF,Int.reduceBNe,Int.reduceBEq];first|done|with_reducible assumption)):c=b:=h
def UF{c b:Bool}(h:c=b:=by first|with_reducible assumption|(simp only[abO,abE,Bool.not_true,Bool.not_false,abF,Int.reduceBNe,Int.reduceBEq];with_reducible assumption)):c=b:=h
def TS{c b:Bool}(h:c=b:=by(fail_if_success (with_reducible rfl));exact Di):c=b:=h
def Wu{c b:Bool}(h:c=b:=by(fail_if_success (with_reducible rfl));exact UF):c=b:=h
def st{p q:Prop}(k:q)(h:q->p:=by first|exact λk=>uP Z k|exact λk=>AK.Bl Z Di k|exact λk=>AK.Bm Z Di k|exact λk=>uR Z k|exact λk=>ah.done k|exact λk=>uS Z k|exact λk=>uB Z k|exact λk=>Nv Z Z k|exact λk=>ah.drawn (by kernel_rfl) k):p:=h k
def so{p q:Prop}(k:q)(h:q->p:=by first|exact λk=>ah.done k|exact λk=>uS Z k|exact λk=>uB Z k|exact λk=>Nv Z Z k|exact λk=>ah.drawn (by kernel_rfl) k|exact λk=>ah.oq Z Z Z TS k|exact λk=>ah.ou Z Z Z TS k):p:=h k
def sz{p q:Prop}(k:q)(h:q->p:=by first|exact λk=>uP Z k|exact λk=>AK.Bl Z Di k|exact λk=>AK.Bm Z Di k|exact λk=>uR Z k|exact λk=>ah.done k|exact λk=>uS Z k|exact λk=>uB Z k|exact λk=>Nv Z Z k|exact λk=>ah.drawn (by kernel_rfl) k|exact λk=>uQ hf Z Z k|exact λk=>AK.As Tryz.hX hf Z Z Z Z k (by with_reducible rfl)|exact λk=>AK.At Tryz.hX hf Z Z Z Z k (by with_reducible rfl)|exact λk=>ah.toStr Tryz.hX kn Z Z Z Z Z Z Z Z Z Z Z (by first|exact Z|exact vt _) Z k|exact λk=>ah.oq Z Z Z TS k|exact λk=>ah.ou Z Z Z TS k):p:=h k
def pe{p q:Prop}(k:q)(h:q->p:=by first|exact λk=>uP Z k|exact λk=>AK.Bl Z UF k|exact λk=>AK.Bm Z UF k|exact λk=>uR Z k|exact λk=>ah.done k|exact λk=>uS Z k|exact λk=>uB Z k|exact λk=>Nv Z Z k|exact λk=>ah.drawn (by kernel_rfl) k|exact λk=>uQ hf Z Z k|exact λk=>AK.As Tryz.hX hf Z Z Z Z k (by with_reducible rfl)|exact λk=>AK.At Tryz.hX hf Z Z Z Z k (by with_reducible rfl)|exact λk=>ah.toStr Tryz.hX kn Z Z Z Z Z Z Z Z Z Z Z (by first|exact Z|exact vt _) Z k|exact λk=>ah.oq Z Z Z Wu k|exact λk=>ah.ou Z Z Z Wu k):p:=h k
def qU{p q:Prop}(k:q)(h:q->p:=by first|exact λk=>uP Z k|exact λk=>AK.Bl Z Di k|exact λk=>AK.Bm Z Di k|exact λk=>uR Z k|exact λk=>ah.done k|exact λk=>uS Z k|exact λk=>uB Z k|exact λk=>Nv Z Z k|exact λk=>ah.drawn (by kernel_rfl) k|exact λk=>uW hf Z Z k|exact λk=>AK.As Tryz.hX hf Z Z Z Z k (by with_reducible rfl)|exact λk=>AK.At Tryz.hX hf Z Z Z Z k (by with_reducible rfl)|exact λk=>ah.toStr Tryz.hX kn Z Z Z Z Z Z Z Z Z Z Z (by first|exact Z|exact vt _) Z k|exact λk=>ah.oq Z Z Z TS k|exact λk=>ah.ou Z Z Z TS k):p:=h k
def me{p q:Prop}(k:q)(h:q->p:=by first|exact λk=>uP Z k|exact λk=>AK.Bl Z Di k|exact λk=>AK.Bm Z Di k|exact λk=>uR Z k|exact λk=>ah.done k|exact λk=>uS Z k|exact λk=>uB Z k|exact λk=>Nv Z Z k|exact λk=>ah.drawn (by kernel_rfl) k|exact λk=>Po hf Z Z Z Z Z Z Z Z Z k|exact λk=>UG hf Z Z Z Z Z Z Z Z Z k|exact λk=>ah.toStr Tryz.hX kn Z Z Z Z Z Z Z Z Z Z Z (by first|exact Z|exact vt _) Z k|exact λk=>ah.oq Z Z Z TS k|exact λk=>ah.ou Z Z Z TS k):p:=h k
def NL(_:Bool):Prop:=True
def NLt:NL true:=trivial
def NLf:NL false:=trivial
def nl{b:Bool}(h:NL b:=by(fail_if_success (with_reducible exact NLt));(fail_if_success (with_reducible exact NLf));exact trivial):NL b:=h
def Y2{d:Nat}{env:Env}{b:Bool}(h:ak d env=some (.c (.bool b)))(_:NL b):ak d env=some (.c (.bool b)):=h
def zc{p q r:Prop}(k:q)(l:r)(h:q->r->p:=by first|exact λa b=>AK.zB Z a b|exact λa b=>ah.split Z Z (Y2 Z nl) a b):p:=h k l
def ze{p q r:Prop}(k:q)(l:r)(h:q->r->p:=by first|exact λa b=>AK.zB Z a b|exact λa b=>AK.As Tryz.hX hf Z Z Z Z a b|exact λa b=>AK.At Tryz.hX hf Z Z Z Z a b|exact λa b=>ah.split Z Z (Y2 Z nl) a b):p:=h k l
def zu{p q r:Prop}(k:q)(l:r)(h:q->r->p:=by exact λa b=>ah.split Z Z (Y2 Z nl) a b):p:=h k l
def jT{ops:Array Oper}{o:Oper}{rest:L Oper}{env:Env}{acc:L Fp}{Q:Env->St->L Fp->Prop}{bs:L (Nat×L AV)}{ts:L (Nat×Nat)}{us:L Nat}{f:FuncId}{args:Array Operand}{N:Array TypeId}{A:L PA}{rs:L LV}{Y:L (Nat×L LV)}{l:L AV}{d:Nat}{nb:L (Nat×L AV)}{H u W bx:L (Nat×Nat)}{tk:L (Nat×(Nat×Option Nat))}{bs':L (Nat×L AV)}{ts':L (Nat×Nat)}{us' S P:L Nat}{env':Env}(k:ah Tryz.prog Tryz.X ops rest env' ⟨bs',ts',us'⟩ (⟨S,P⟩::acc) Q)(p:cS ops.toList kn env o=some true:=by exact rfl)(O:o.op = .call {callee := .value (.func f),args:=args,argTypes:=N}:=by exact rfl)(hq:cx Tryz.prog Tryz.X f A rs Y:=by assumption)(B:gk (aJ Tryz.X env) args.toList=some l:=by exact rfl)(hok:iw bs ts A l:=by(repeat' (first|exact rfl|exact trivial|refine⟨_,_,rfl,?_,?_⟩|refine⟨_,_,_,rfl,rfl,?_,?_⟩));done)(M:o.dst=some d:=by exact rfl)(K:jm (iW bs 0 A l)=some bx:=by exact rfl)(J:jm (iK bs 0 A l)=some tk:=by exact rfl)(V:Fc bx (10000000*(d+1)) Y=some nb:=by exact rfl)(U:jm (ov (10000000*(d+1)) (nM Y++vJ 0 rk rs))=some H:=by exact rfl)(I:jm (oz ts (cO tk))=some u:=by exact rfl)(G:ur us bx tk (pF Y) nb H u (nM Y++vJ 0 rk rs)=true:=by exact rfl)(E:q8 nb bs=some bs':=by exact rfl)(T:jm (H++u)=some W:=by exact rfl)(D:q8 W ts=some ts':=by exact rfl)(C:qc (fK H++us)=some us':=by exact rfl)(q:qc (bx.map (·.2)++cO tk)=some S:=by exact rfl)(hW:qc (fK nb++(fK W++fK H))=some P:=by exact rfl)(he:J0 d (10000000*(d+1)) rs env=some env':=by exact rfl):ah Tryz.prog Tryz.X ops (o::rest) env ⟨bs,ts,us⟩ acc Q:=ah.Pq kn p O hq B hok M K J V U I G E T D C q hW he k
def Pr:Nat->L CV->Env
 |_,[]=>[]
 |i,c::l=>(i,.c c)::Pr (i+1) l
def L2:∀(i:Nat)(l:L CV),Pr i l=((l.zipIdx i).map λ(v,i)=>(i,AV.c v))
 |_,[]=>rfl
 |i,c::l=>by simp only[Pr,abi,Zl,L2 (i+1) l]
def qn{f:FuncId}{P:Func}{c:Code}{J:L CV}{r:CV}{env:Env}(hf:Tryz.prog.funcs[f]?=some P)(S:Enters Tryz.prog f)(k:∀β,Tryz.prog.funcs[f]?=some P->AK Tryz.prog Tryz.X f P.ntmps β (QR β r) [.code c] env ⟨[],[],[]⟩)(A:P.body=some c:=by exact rfl)(E:J.length<=P.ntmps:=by exact ZD rfl)(W:Pr 0 J=env:=by simp only[Pr];try exact rfl):aZ Tryz.prog Tryz.X f J r:=aZ.of hf A S E env (by rw[<- W,L2]) λβ _=>k β hf
def en{f:FuncId}{P:Func}{c:Code}{A:L PA}{rs:L LV}{W:L (Nat×L LV)}(hf:Tryz.prog.funcs[f]?=some P)(S:Enters Tryz.prog f)(env:Env)(bs:L (Nat×L AV))(ts:L (Nat×Nat))(us:L Nat)(k:∀β,Tryz.prog.funcs[f]?=some P->AK Tryz.prog Tryz.X f P.ntmps β (ER β rs W) [.code c] env ⟨bs,ts,us⟩)(V:P.body=some c:=by exact rfl)(E:A.length<=P.ntmps:=by exact ZD rfl)(U:env=((vL 0 A).zipIdx.map λ(v,i)=>(i,v)):=by exact rfl)(Y:qx A=⟨bs,ts,us⟩:=by exact rfl):cx Tryz.prog Tryz.X f A rs W:=cx.ofL hf V S E env bs ts us U Y λβ=>k β hf
def dq{p:Prop}(h:p:=by(repeat' (first|refine st ?_|(refine AK.zB Z (λh=>?_) (λh=>?_)<;>first|(cases h;done)|rw[h]|skip)|refine AK.oh Z ?_ ?_|refine uQ hf Z Z ?_|refine AK.As Tryz.hX hf Z Z Z Z ?_ (by with_reducible rfl)|refine AK.As Tryz.hX hf Z Z Z Z ?_ ?_|refine AK.At Tryz.hX hf Z Z Z Z ?_ (by with_reducible rfl)|refine AK.At Tryz.hX hf Z Z Z Z ?_ ?_|refine uC Z (by assumption) ?_|refine uI Z _ Z (by assumption) Z ?_|refine uI Z 0 Z (by assumption) Z ?_|refine uI Z 1 Z (by assumption) Z ?_|refine uI Z 0 Z Z Z ?_|refine uI Z 1 Z Z Z ?_|refine uI Z 2 Z Z Z ?_|refine uI Z 3 Z Z Z ?_|refine jT ?_|(first|refine ah.quo Tryz.hX kn Z Z Z Z Z Z Z ((by decide)) ?_|refine ah.rem Tryz.hX kn Z Z Z Z Z Z Z ((by decide)) ?_)|(refine uA Z ?_ ?_<;>(try (show(_:Nat)*_<=_;dsimp only)))|refine ah.toStr Tryz.hX kn Z Z Z Z Z Z Z Z Z Z Z (by first|exact Z|exact vt _) Z ?_|((first|refine ah.oq Z Z Z Di (λh=>?_)|refine ah.ou Z Z Z Di (λh=>?_)|refine ah.split Z Z Z (λh=>?_) (λh=>?_))<;>(fail_if_success (cases h;done))<;>rw[h])))<;>rfl):p:=h
def dn{p q:Prop}(k:q)(h:q->p:=by intro k;(repeat' (first|refine st ?_|(refine AK.zB Z (λh=>?_) (λh=>?_)<;>first|(cases h;done)|rw[h]|skip)|refine AK.oh Z ?_ ?_|refine uQ hf Z Z ?_|refine AK.As Tryz.hX hf Z Z Z Z ?_ (by with_reducible rfl)|refine AK.As Tryz.hX hf Z Z Z Z ?_ ?_|refine AK.At Tryz.hX hf Z Z Z Z ?_ (by with_reducible rfl)|refine AK.At Tryz.hX hf Z Z Z Z ?_ ?_|refine uC Z (by assumption) ?_|refine uI Z _ Z (by assumption) Z ?_|refine uI Z 0 Z (by assumption) Z ?_|refine uI Z 1 Z (by assumption) Z ?_|refine uI Z 0 Z Z Z ?_|refine uI Z 1 Z Z Z ?_|refine uI Z 2 Z Z Z ?_|refine uI Z 3 Z Z Z ?_|refine jT ?_|(first|refine ah.quo Tryz.hX kn Z Z Z Z Z Z Z ((by decide)) ?_|refine ah.rem Tryz.hX kn Z Z Z Z Z Z Z ((by decide)) ?_)|(refine uA Z ?_ ?_<;>(try (show(_:Nat)*_<=_;dsimp only)))|refine ah.toStr Tryz.hX kn Z Z Z Z Z Z Z Z Z Z Z (by first|exact Z|exact vt _) Z ?_|((first|refine ah.oq Z Z Z Di (λh=>?_)|refine ah.ou Z Z Z Di (λh=>?_)|refine ah.split Z Z Z (λh=>?_) (λh=>?_))<;>(fail_if_success (cases h;done))<;>rw[h])))<;>first|exact Z|exact k):p:=h k
def dnw{p q:Prop}(k:q)(h:q->p:=by intro k;(repeat' (first|refine st ?_|(refine AK.zB Z (λh=>?_) (λh=>?_)<;>first|(cases h;done)|rw[h]|skip)|refine AK.oh Z ?_ ?_|refine uW hf Z Z ?_|refine AK.As Tryz.hX hf Z Z Z Z ?_ (by with_reducible rfl)|refine AK.As Tryz.hX hf Z Z Z Z ?_ ?_|refine AK.At Tryz.hX hf Z Z Z Z ?_ (by with_reducible rfl)|refine AK.At Tryz.hX hf Z Z Z Z ?_ ?_|refine uC Z (by assumption) ?_|refine uI Z _ Z (by assumption) Z ?_|refine uI Z 0 Z (by assumption) Z ?_|refine uI Z 1 Z (by assumption) Z ?_|refine uI Z 0 Z Z Z ?_|refine uI Z 1 Z Z Z ?_|refine uI Z 2 Z Z Z ?_|refine uI Z 3 Z Z Z ?_|refine jT ?_|(first|refine ah.quo Tryz.hX kn Z Z Z Z Z Z Z ((by decide)) ?_|refine ah.rem Tryz.hX kn Z Z Z Z Z Z Z ((by decide)) ?_)|(refine uA Z ?_ ?_<;>(try (show(_:Nat)*_<=_;dsimp only)))|refine ah.toStr Tryz.hX kn Z Z Z Z Z Z Z Z Z Z Z (by first|exact Z|exact vt _) Z ?_|((first|refine ah.oq Z Z Z Di (λh=>?_)|refine ah.ou Z Z Z Di (λh=>?_)|refine ah.split Z Z Z (λh=>?_) (λh=>?_))<;>(fail_if_success (cases h;done))<;>rw[h])))<;>first|exact Wk.refl _|exact k):p:=h k
def dw{p:Prop}(h:p:=by(repeat' (first|refine st ?_|(refine AK.zB Z (λh=>?_) (λh=>?_)<;>first|(cases h;done)|rw[h]|skip)|refine AK.oh Z ?_ ?_|refine uW hf Z Z ?_|refine AK.As Tryz.hX hf Z Z Z Z ?_ (by with_reducible rfl)|refine AK.As Tryz.hX hf Z Z Z Z ?_ ?_|refine AK.At Tryz.hX hf Z Z Z Z ?_ (by with_reducible rfl)|refine AK.At Tryz.hX hf Z Z Z Z ?_ ?_|refine uC Z (by assumption) ?_|refine uI Z _ Z (by assumption) Z ?_|refine uI Z 0 Z (by assumption) Z ?_|refine uI Z 1 Z (by assumption) Z ?_|refine uI Z 0 Z Z Z ?_|refine uI Z 1 Z Z Z ?_|refine uI Z 2 Z Z Z ?_|refine uI Z 3 Z Z Z ?_|refine jT ?_|(first|refine ah.quo Tryz.hX kn Z Z Z Z Z Z Z ((by decide)) ?_|refine ah.rem Tryz.hX kn Z Z Z Z Z Z Z ((by decide)) ?_)|(refine uA Z ?_ ?_<;>(try (show(_:Nat)*_<=_;dsimp only)))|refine ah.toStr Tryz.hX kn Z Z Z Z Z Z Z Z Z Z Z (by first|exact Z|exact vt _) Z ?_|((first|refine ah.oq Z Z Z Di (λh=>?_)|refine ah.ou Z Z Z Di (λh=>?_)|refine ah.split Z Z Z (λh=>?_) (λh=>?_))<;>(fail_if_success (cases h;done))<;>rw[h])))<;>(first|exact Wk.refl _|exact ye Z Z|exact Sn|exact uk|exact YL|(show _<=_;simp only[aR,aB,aac,aad];omega))):p:=h
abbrev aj:=@aZ Tryz.prog Tryz.X
abbrev Dj:=@AK Tryz.prog Tryz.X
abbrev nD:=@ah Tryz.prog Tryz.X
abbrev fA:=@cx Tryz.prog Tryz.X
abbrev qy:=@dM Tryz.prog Tryz.X
abbrev mZ:=@dV Tryz.prog Tryz.X
end Go.Proofs
