/- The types of the program, held against it by the kernel. -/
import Derived.Test.YtlohbilpimjmmaaGreatDoorLibD
import Derived.Test.YtlohbilpimjmmaaGreatDoorProg
import Derived.KernelRfl
namespace Go.Proofs
open Go.cu
def Tryz.table:List (Nat×TI):=[
 (1,⟨1,8,.other,none⟩),
 (2,⟨1,8,.int .i64,some (.c (.int .i64 0))⟩),
 (3,⟨1,8,.int .i64,some (.c (.int .i64 0))⟩),
 (4,⟨1,1,.bool,some (.c (.bool false))⟩),
 (5,⟨1,1,.int .u8,some (.c (.int .u8 0))⟩),
 (6,⟨1,1,.int .u8,some (.c (.int .u8 0))⟩),
 (7,⟨4,24,.struct [(0,2),(1,3),(2,4),(3,6)],some (.agg [.c (.int .i64 0),.c (.int .i64 0),.c (.bool false),.c (.int .u8 0)])⟩),
 (8,⟨4,24,.struct [(0,2),(1,3),(2,4),(3,6)],some (.agg [.c (.int .i64 0),.c (.int .i64 0),.c (.bool false),.c (.int .u8 0)])⟩),
 (9,⟨1,16,.str,some (.c (.str []))⟩),
 (10,⟨1,16,.str,some (.c (.str []))⟩),
 (11,⟨1,16,.str,some (.c (.str []))⟩),
 (12,⟨1,8,.int .u64,some (.c (.int .u64 0))⟩),
 (13,⟨2,24,.struct [(0,9),(1,12)],some (.agg [.c (.str []),.c (.int .u64 0)])⟩),
 (14,⟨2,24,.struct [(0,9),(1,12)],some (.agg [.c (.str []),.c (.int .u64 0)])⟩),
 (15,⟨1,8,.ptr 171,some (.c .lI)⟩),
 (16,⟨1,8,.ptr 174,some (.c .lI)⟩),
 (17,⟨1,8,.ptr 183,some (.c .lI)⟩),
 (18,⟨1,8,.struct [(0,17)],some (.agg [.c .lI])⟩),
 (19,⟨1,8,.struct [(0,17)],some (.agg [.c .lI])⟩),
 (21,⟨1,4,.int .i32,some (.c (.int .i32 0))⟩),
 (22,⟨4,32,.struct [(0,3),(1,3),(2,3),(3,3)],some (.agg [.c (.int .i64 0),.c (.int .i64 0),.c (.int .i64 0),.c (.int .i64 0)])⟩),
 (23,⟨4,32,.struct [(0,3),(1,3),(2,3),(3,3)],some (.agg [.c (.int .i64 0),.c (.int .i64 0),.c (.int .i64 0),.c (.int .i64 0)])⟩),
 (24,⟨1,24,.slice 26,some (.own .exact 5 [])⟩),
 (25,⟨5,64,.struct [(0,3),(1,3),(2,3),(3,9),(4,24)],some (.agg [.c (.int .i64 0),.c (.int .i64 0),.c (.int .i64 0),.c (.str []),.own .exact 5 []])⟩),
 (26,⟨5,64,.struct [(0,3),(1,3),(2,3),(3,9),(4,24)],some (.agg [.c (.int .i64 0),.c (.int .i64 0),.c (.int .i64 0),.c (.str []),.own .exact 5 []])⟩),
 (27,⟨1,24,.slice 54,some (.own .exact 2 [])⟩),
 (28,⟨1,24,.slice 36,some (.own .exact 7 [])⟩),
 (29,⟨2,32,.struct [(0,27),(1,4)],some (.agg [.own .exact 2 [],.c (.bool false)])⟩),
 (30,⟨2,32,.struct [(0,27),(1,4)],some (.agg [.own .exact 2 [],.c (.bool false)])⟩),
 (31,⟨1,8,.int .i64,some (.c (.int .i64 0))⟩),
 (32,⟨1,0,.other,none⟩),
 (33,⟨1,8,.other,none⟩),
 (34,⟨1,8,.other,none⟩),
 (35,⟨7,112,.struct [(0,3),(1,3),(2,3),(3,9),(4,28),(5,27),(6,24)],some (.agg [.c (.int .i64 0),.c (.int .i64 0),.c (.int .i64 0),.c (.str []),.own .exact 7 [],.own .exact 2 [],.own .exact 5 []])⟩),
 (36,⟨7,112,.struct [(0,3),(1,3),(2,3),(3,9),(4,28),(5,27),(6,24)],some (.agg [.c (.int .i64 0),.c (.int .i64 0),.c (.int .i64 0),.c (.str []),.own .exact 7 [],.own .exact 2 [],.own .exact 5 []])⟩),
 (37,⟨11,160,.struct [(0,31),(1,28),(2,36),(9,3),(10,3)],some (.agg [.c (.int .i64 0),.own .exact 7 [],.c (.int .i64 0),.c (.int .i64 0),.c (.int .i64 0),.c (.str []),.own .exact 7 [],.own .exact 2 [],.own .exact 5 [],.c (.int .i64 0),.c (.int .i64 0)])⟩),
 (38,⟨11,160,.struct [(0,31),(1,28),(2,36),(9,3),(10,3)],some (.agg [.c (.int .i64 0),.own .exact 7 [],.c (.int .i64 0),.c (.int .i64 0),.c (.int .i64 0),.c (.str []),.own .exact 7 [],.own .exact 2 [],.own .exact 5 [],.c (.int .i64 0),.c (.int .i64 0)])⟩),
 (39,⟨1,8,.other,none⟩),
 (40,⟨1,8,.other,none⟩),
 (41,⟨1,8,.other,none⟩),
 (42,⟨1,8,.other,none⟩),
 (43,⟨1,8,.other,none⟩),
 (44,⟨1,8,.other,none⟩),
 (45,⟨1,8,.other,none⟩),
 (46,⟨1,8,.other,none⟩),
 (47,⟨1,8,.other,none⟩),
 (48,⟨1,8,.other,none⟩),
 (49,⟨1,8,.other,none⟩),
 (50,⟨1,8,.other,none⟩),
 (51,⟨1,8,.other,none⟩),
 (52,⟨1,8,.other,none⟩),
 (53,⟨2,32,.struct [(0,3),(1,27)],some (.agg [.c (.int .i64 0),.own .exact 2 []])⟩),
 (54,⟨2,32,.struct [(0,3),(1,27)],some (.agg [.c (.int .i64 0),.own .exact 2 []])⟩),
 (55,⟨1,8,.other,none⟩),
 (56,⟨1,8,.other,none⟩),
 (57,⟨1,8,.other,none⟩),
 (58,⟨1,8,.other,none⟩),
 (59,⟨1,8,.other,none⟩),
 (60,⟨1,8,.other,none⟩),
 (61,⟨1,8,.other,none⟩),
 (62,⟨1,8,.other,none⟩),
 (63,⟨1,8,.other,none⟩),
 (64,⟨1,8,.other,none⟩),
 (65,⟨1,8,.other,none⟩),
 (66,⟨1,8,.other,none⟩),
 (67,⟨1,8,.other,none⟩),
 (68,⟨1,8,.other,none⟩),
 (69,⟨1,8,.ptr 3,some (.c .lI)⟩),
 (70,⟨1,8,.other,none⟩),
 (71,⟨1,8,.other,none⟩),
 (72,⟨1,8,.ptr 77,some (.c .lI)⟩),
 (73,⟨4,64,.struct [(0,24),(1,3),(2,3),(3,28)],some (.agg [.own .exact 5 [],.c (.int .i64 0),.c (.int .i64 0),.own .exact 7 []])⟩),
 (74,⟨4,64,.struct [(0,24),(1,3),(2,3),(3,28)],some (.agg [.own .exact 5 [],.c (.int .i64 0),.c (.int .i64 0),.own .exact 7 []])⟩),
 (75,⟨1,24,.slice 74,some (.own .exact 4 [])⟩),
 (76,⟨16,216,.struct [(0,23),(4,28),(5,75),(6,3),(7,3),(8,3),(9,36)],some (.agg [.c (.int .i64 0),.c (.int .i64 0),.c (.int .i64 0),.c (.int .i64 0),.own .exact 7 [],.own .exact 4 [],.c (.int .i64 0),.c (.int .i64 0),.c (.int .i64 0),.c (.int .i64 0),.c (.int .i64 0),.c (.int .i64 0),.c (.str []),.own .exact 7 [],.own .exact 2 [],.own .exact 5 []])⟩),
 (77,⟨16,216,.struct [(0,23),(4,28),(5,75),(6,3),(7,3),(8,3),(9,36)],some (.agg [.c (.int .i64 0),.c (.int .i64 0),.c (.int .i64 0),.c (.int .i64 0),.own .exact 7 [],.own .exact 4 [],.c (.int .i64 0),.c (.int .i64 0),.c (.int .i64 0),.c (.int .i64 0),.c (.int .i64 0),.c (.int .i64 0),.c (.str []),.own .exact 7 [],.own .exact 2 [],.own .exact 5 []])⟩),
 (78,⟨1,8,.other,none⟩),
 (79,⟨1,8,.other,none⟩),
 (80,⟨1,0,.other,none⟩),
 (81,⟨1,8,.other,none⟩),
 (82,⟨1,8,.other,none⟩),
 (83,⟨1,8,.other,none⟩),
 (84,⟨1,8,.other,none⟩),
 (85,⟨1,8,.other,none⟩),
 (86,⟨1,8,.ptr 74,some (.c .lI)⟩),
 (87,⟨1,8,.other,none⟩),
 (88,⟨1,8,.other,none⟩),
 (89,⟨1,8,.other,none⟩),
 (90,⟨1,8,.other,none⟩),
 (91,⟨1,0,.other,none⟩),
 (92,⟨1,8,.other,none⟩),
 (93,⟨1,0,.other,none⟩),
 (94,⟨1,8,.other,none⟩),
 (95,⟨1,8,.other,none⟩),
 (96,⟨1,8,.other,none⟩),
 (97,⟨1,8,.other,none⟩),
 (98,⟨1,8,.other,none⟩),
 (99,⟨1,8,.other,none⟩),
 (100,⟨1,8,.other,none⟩),
 (101,⟨1,8,.other,none⟩),
 (102,⟨1,8,.other,none⟩),
 (103,⟨1,0,.other,none⟩),
 (104,⟨1,8,.other,none⟩),
 (105,⟨1,0,.other,none⟩),
 (106,⟨1,8,.other,none⟩),
 (107,⟨1,8,.other,none⟩),
 (108,⟨1,8,.other,none⟩),
 (109,⟨1,8,.other,none⟩),
 (110,⟨1,0,.other,none⟩),
 (111,⟨1,8,.other,none⟩),
 (112,⟨1,8,.other,none⟩),
 (113,⟨1,8,.other,none⟩),
 (114,⟨1,8,.other,none⟩),
 (115,⟨1,8,.other,none⟩),
 (116,⟨1,8,.other,none⟩),
 (117,⟨1,8,.other,none⟩),
 (118,⟨1,8,.other,none⟩),
 (119,⟨1,8,.other,none⟩),
 (120,⟨1,8,.other,none⟩),
 (121,⟨1,8,.other,none⟩),
 (122,⟨1,8,.other,none⟩),
 (123,⟨1,8,.other,none⟩),
 (124,⟨1,8,.other,none⟩),
 (125,⟨1,8,.other,none⟩),
 (126,⟨1,8,.other,none⟩),
 (127,⟨1,0,.other,none⟩),
 (128,⟨1,8,.other,none⟩),
 (129,⟨1,0,.other,none⟩),
 (130,⟨1,8,.other,none⟩),
 (131,⟨1,8,.other,none⟩),
 (132,⟨1,8,.other,none⟩),
 (133,⟨1,8,.other,none⟩),
 (134,⟨1,0,.other,none⟩),
 (135,⟨1,8,.other,none⟩),
 (136,⟨1,8,.other,none⟩),
 (137,⟨1,8,.other,none⟩),
 (138,⟨1,8,.other,none⟩),
 (139,⟨1,8,.other,none⟩),
 (140,⟨1,24,.slice 3,some (.own .exact 1 [])⟩),
 (141,⟨1,8,.other,none⟩),
 (142,⟨1,8,.other,none⟩),
 (143,⟨1,8,.other,none⟩),
 (144,⟨1,8,.int .u64,some (.c (.int .u64 0))⟩),
 (145,⟨1,0,.other,none⟩),
 (146,⟨1,8,.other,none⟩),
 (147,⟨1,0,.other,none⟩),
 (148,⟨1,8,.other,none⟩),
 (149,⟨1,8,.other,none⟩),
 (150,⟨1,8,.other,none⟩),
 (151,⟨1,0,.other,none⟩),
 (152,⟨1,8,.other,none⟩),
 (153,⟨1,0,.other,none⟩),
 (154,⟨1,8,.other,none⟩),
 (155,⟨1,8,.int .u64,some (.c (.int .u64 0))⟩),
 (156,⟨1,24,.slice 5,some (.own .exact 1 [])⟩),
 (157,⟨1,8,.other,none⟩),
 (158,⟨1,8,.other,none⟩),
 (159,⟨1,8,.other,none⟩),
 (160,⟨1,8,.ptr 162,some (.c .lI)⟩),
 (161,⟨3,32,.struct [(0,9),(1,3),(2,31)],some (.agg [.c (.str []),.c (.int .i64 0),.c (.int .i64 0)])⟩),
 (162,⟨3,32,.struct [(0,9),(1,3),(2,31)],some (.agg [.c (.str []),.c (.int .i64 0),.c (.int .i64 0)])⟩),
 (163,⟨1,8,.other,none⟩),
 (164,⟨1,8,.other,none⟩),
 (165,⟨1,8,.other,none⟩),
 (166,⟨1,8,.other,none⟩),
 (167,⟨1,8,.other,none⟩),
 (168,⟨1,8,.other,none⟩),
 (169,⟨1,8,.other,none⟩),
 (170,⟨4,40,.struct [(0,17),(1,17),(2,17),(3,9)],some (.agg [.c .lI,.c .lI,.c .lI,.c (.str [])])⟩),
 (171,⟨4,40,.struct [(0,17),(1,17),(2,17),(3,9)],some (.agg [.c .lI,.c .lI,.c .lI,.c (.str [])])⟩),
 (175,⟨1,4,.int .u32,some (.c (.int .u32 0))⟩),
 (176,⟨1,1,.int .u8,some (.c (.int .u8 0))⟩),
 (177,⟨1,1,.int .u8,some (.c (.int .u8 0))⟩),
 (178,⟨1,8,.other,none⟩),
 (179,⟨1,8,.ptr 5,some (.c .lI)⟩),
 (180,⟨1,4,.int .i32,some (.c (.int .i32 0))⟩),
 (181,⟨1,4,.int .i32,some (.c (.int .i32 0))⟩),
 (182,⟨11,48,.struct [(0,12),(1,12),(2,175),(3,176),(4,5),(5,5),(6,177),(7,178),(8,179),(9,180),(10,181)],none⟩),
 (183,⟨11,48,.struct [(0,12),(1,12),(2,175),(3,176),(4,5),(5,5),(6,177),(7,178),(8,179),(9,180),(10,181)],none⟩)]
def Tryz.X:Ctx:=⟨fun t=>ak t Tryz.table,fun n=>ak n [(0,.ip [.any,.any])]⟩
theorem Tryz.Rz:Tryz.table.all (fun p=>RA Tryz.prog p.1 p.2)=true:=by kernel_rfl
theorem Tryz.hX:cC Tryz.prog Tryz.X:=RB rfl Tryz.Rz
theorem Tryz.mixed:Tryz.prog.follows .mixedOrders=true:=by kernel_rfl
theorem uS {ops:Array Oper} {rest H:List Oper} {σ:St} {env env':Env} {acc Y:List Fp} {Q:Env->St->List Fp->Prop} (h:Fo Tryz.X ops.toList σ.boxes kn (NS rest) rest env acc = .at H env' Y) (k:ai Tryz.prog Tryz.X ops H env' σ Y Q):ai Tryz.prog Tryz.X ops rest env σ acc Q:=ai.abA Tryz.hX kn h k
theorem Pu {ops:Array Oper} {o:Oper} {rest H:List Oper} {σ:St} {env env':Env} {acc Y:List Fp} {Q:Env->St->List Fp->Prop} (W:simple o.op=true) (h:Fo Tryz.X ops.toList σ.boxes kn 0 (o::rest) env acc = .at H env' Y) (k:ai Tryz.prog Tryz.X ops H env' σ Y Q):ai Tryz.prog Tryz.X ops (o::rest) env σ acc Q:=ai.YR Tryz.hX kn W h k
theorem uB {ops:Array Oper} {o:Oper} {rest:List Oper} {env env':Env} {acc:List Fp} {Q:Env->St->List Fp->Prop} {bs bs':List (Nat×List AV)} {ts:List (Nat×Nat)} {us us':List Nat} {T:Fp} (h:I9 Tryz.X ops.toList o env bs us = .ok env' bs' us' T) (k:ai Tryz.prog Tryz.X ops rest env' ⟨bs',ts,us'⟩ (T::acc) Q):ai Tryz.prog Tryz.X ops (o::rest) env ⟨bs,ts,us⟩ acc Q:=ai.I9 Tryz.hX h k
theorem uA {ops:Array Oper} {o:Oper} {rest:List Oper} {env:Env} {acc:List Fp} {Q:Env->St->List Fp->Prop} {bs:List (Nat×List AV)} {ts ts':List (Nat×Nat)} {us:List Nat} {d T n sz b:Nat} {rows b9:List CV} (h:Ja Tryz.X ops.toList o env ts us=some (d,T,n,sz,rows,b9,b,ts')) (p:(rows.length+b9.length)*b<=140737488355328) (k:ai Tryz.prog Tryz.X ops rest ((d,.own (.tok T n) sz (rows++b9))::env) ⟨bs,ts',T::us⟩ (⟨[],[T]⟩::acc) Q):ai Tryz.prog Tryz.X ops (o::rest) env ⟨bs,ts,us⟩ acc Q:=ai.Ja Tryz.hX h p k
theorem uC {ops:Array Oper} {o:Oper} {rest:List Oper} {σ:St} {env:Env} {acc:List Fp} {Q:Env->St->List Fp->Prop} {d:Nat} {f:FuncId} {p:List CV} {r:CV} (h:Jb Tryz.X ops.toList o env=some (d,f,p)) (hq:bw Tryz.prog Tryz.X f p r) (k:ai Tryz.prog Tryz.X ops rest ((d,.c r)::env) σ (⟨[],[]⟩::acc) Q):ai Tryz.prog Tryz.X ops (o::rest) env σ acc Q:=ai.Jb h hq k
theorem uI {ops:Array Oper} {o:Oper} {rest:List Oper} {σ:St} {env:Env} {acc:List Fp} {Q:Env->St->List Fp->Prop} {d:Nat} {rows:List CV} {z:Int} (h:Jc Tryz.X ops.toList o env=some (d,rows,z)) (m:Nat) (Y:z=m) {r:CV} (K:rows[m]?=some r) {cs:List CV} (u:r.cells=cs) (k:ai Tryz.prog Tryz.X ops rest ((d,.c (.ip cs))::env) σ (⟨[],[]⟩::acc) Q):ai Tryz.prog Tryz.X ops (o::rest) env σ acc Q:=ai.Jc Tryz.hX h m Y K u k
theorem uP {f:FuncId} {n:Nat} {β:jH} {R:Ending->World->Prop} {σ:St} {K u:List Item} {env env':Env} (h:LI Tryz.X n σ.boxes 300 K env = .at u env') (k:AK Tryz.prog Tryz.X f n β R u env' σ):AK Tryz.prog Tryz.X f n β R K env σ:=AK.Lw Tryz.hX Tryz.mixed 300 h k
theorem uR {f:FuncId} {n:Nat} {β:jH} {R:Ending->World->Prop} {σ:St} {K:List Item} {env:Env} {id:Nat} {ops:Array Oper} {Y:Bool} (H:qV ops n=true) (h:ai Tryz.prog Tryz.X ops ops.toList env σ [] (fun env' D W=>(Y=true->pK ops W=true)/\AK Tryz.prog Tryz.X f n β R K env' D)):AK Tryz.prog Tryz.X f n β R (.code (.region id ops Y)::K) env σ:=AK.region Tryz.mixed H h
theorem uQ {f:FuncId} {n:Nat} {β:jH} {K:List Item} {env:Env} {σ:St} {T:Func} (hf:Tryz.prog.funcs[f]?=some T) {r:AV} {M Y:CV} (I:nL Tryz.X σ.boxes env T.results.toList=some r) (E:close r=some M) (P:M=Y):AK Tryz.prog Tryz.X f n β (QR β Y) (.code .ret::K) env σ:=AK.YS Tryz.hX hf I E P
theorem uW {f:FuncId} {n:Nat} {β:jH} {K:List Item} {env:Env} {σ:St} {T:Func} (hf:Tryz.prog.funcs[f]?=some T) {r:AV} {M Y:CV} (I:nL Tryz.X σ.boxes env T.results.toList=some r) (E:close r=some M) (P:Wk M Y):AK Tryz.prog Tryz.X f n β (QR β Y) (.code .ret::K) env σ:=AK.abB Tryz.hX hf I E P
theorem Ev {c b:Bool} (h:c=b:=by first|with_reducible assumption|(simp only[cond_true,cond_false,Bool.not_true,Bool.not_false,bne_self_eq_false,Int.reduceBNe,Int.reduceBEq];first|done|with_reducible assumption)):c=b:=h
theorem UB {c b:Bool} (h:c=b:=by first|with_reducible assumption|(simp only[cond_true,cond_false,Bool.not_true,Bool.not_false,bne_self_eq_false,Int.reduceBNe,Int.reduceBEq];with_reducible assumption)):c=b:=h
theorem st {p q:Prop} (k:q) (h:q->p:=by first|exact fun k=>uP rfl k|exact fun k=>AK.CH rfl Ev k|exact fun k=>AK.CI rfl Ev k|exact fun k=>uR rfl k|exact fun k=>ai.done k|exact fun k=>uS rfl k|exact fun k=>uB rfl k|exact fun k=>Pu rfl rfl k|exact fun k=>ai.drawn (by kernel_rfl) k):p:=h k
theorem so {p q:Prop} (k:q) (h:q->p:=by first|exact fun k=>ai.done k|exact fun k=>uS rfl k|exact fun k=>uB rfl k|exact fun k=>Pu rfl rfl k|exact fun k=>ai.drawn (by kernel_rfl) k):p:=h k
theorem sz {p q:Prop} (k:q) (h:q->p:=by first|exact fun k=>uP rfl k|exact fun k=>AK.CH rfl Ev k|exact fun k=>AK.CI rfl Ev k|exact fun k=>uR rfl k|exact fun k=>ai.done k|exact fun k=>uS rfl k|exact fun k=>uB rfl k|exact fun k=>Pu rfl rfl k|exact fun k=>ai.drawn (by kernel_rfl) k|exact fun k=>uQ hf rfl rfl k|exact fun k=>AK.BJ Tryz.hX hf rfl rfl rfl rfl k (by with_reducible rfl)|exact fun k=>AK.BK Tryz.hX hf rfl rfl rfl rfl k (by with_reducible rfl)|exact fun k=>ai.toStr Tryz.hX kn rfl rfl rfl rfl rfl rfl rfl rfl rfl rfl rfl (by first|exact rfl|exact wS _) rfl k):p:=h k
theorem nK {p q:Prop} (k:q) (h:q->p:=by first|exact fun k=>uP rfl k|exact fun k=>AK.CH rfl UB k|exact fun k=>AK.CI rfl UB k|exact fun k=>uR rfl k|exact fun k=>ai.done k|exact fun k=>uS rfl k|exact fun k=>uB rfl k|exact fun k=>Pu rfl rfl k|exact fun k=>ai.drawn (by kernel_rfl) k|exact fun k=>uQ hf rfl rfl k|exact fun k=>AK.BJ Tryz.hX hf rfl rfl rfl rfl k (by with_reducible rfl)|exact fun k=>AK.BK Tryz.hX hf rfl rfl rfl rfl k (by with_reducible rfl)|exact fun k=>ai.toStr Tryz.hX kn rfl rfl rfl rfl rfl rfl rfl rfl rfl rfl rfl (by first|exact rfl|exact wS _) rfl k):p:=h k
theorem qo {p q:Prop} (k:q) (h:q->p:=by first|exact fun k=>uP rfl k|exact fun k=>AK.CH rfl Ev k|exact fun k=>AK.CI rfl Ev k|exact fun k=>uR rfl k|exact fun k=>ai.done k|exact fun k=>uS rfl k|exact fun k=>uB rfl k|exact fun k=>Pu rfl rfl k|exact fun k=>ai.drawn (by kernel_rfl) k|exact fun k=>uW hf rfl rfl k|exact fun k=>AK.BJ Tryz.hX hf rfl rfl rfl rfl k (by with_reducible rfl)|exact fun k=>AK.BK Tryz.hX hf rfl rfl rfl rfl k (by with_reducible rfl)|exact fun k=>ai.toStr Tryz.hX kn rfl rfl rfl rfl rfl rfl rfl rfl rfl rfl rfl (by first|exact rfl|exact wS _) rfl k):p:=h k
theorem mY {p q:Prop} (k:q) (h:q->p:=by first|exact fun k=>uP rfl k|exact fun k=>AK.CH rfl Ev k|exact fun k=>AK.CI rfl Ev k|exact fun k=>uR rfl k|exact fun k=>ai.done k|exact fun k=>uS rfl k|exact fun k=>uB rfl k|exact fun k=>Pu rfl rfl k|exact fun k=>ai.drawn (by kernel_rfl) k|exact fun k=>RE hf rfl rfl rfl rfl rfl rfl rfl rfl rfl k|exact fun k=>WU hf rfl rfl rfl rfl rfl rfl rfl rfl rfl k|exact fun k=>ai.toStr Tryz.hX kn rfl rfl rfl rfl rfl rfl rfl rfl rfl rfl rfl (by first|exact rfl|exact wS _) rfl k):p:=h k
theorem zc {p q r:Prop} (k:q) (l:r) (h:q->r->p:=by exact fun a b=>AK.CJ rfl a b):p:=h k l
theorem zr {p q r:Prop} (k:q) (l:r) (h:q->r->p:=by first|exact fun a b=>AK.BJ Tryz.hX hf rfl rfl rfl rfl a b|exact fun a b=>AK.BK Tryz.hX hf rfl rfl rfl rfl a b):p:=h k l
theorem zt {p q:Prop} (k:q) (h:q->p:=by first|exact fun k=>ai.uu rfl rfl rfl Ev k|exact fun k=>ai.uv rfl rfl rfl Ev k):p:=h k
theorem Gw {p q:Prop} (k:q) (h:q->p:=by first|exact fun k=>ai.uu rfl rfl rfl UB k|exact fun k=>ai.uv rfl rfl rfl UB k):p:=h k
theorem zu {p q r:Prop} (k:q) (l:r) (h:q->r->p:=by exact fun a b=>ai.split rfl rfl rfl a b):p:=h k l
theorem jl {ops:Array Oper} {o:Oper} {rest:List Oper} {env:Env} {acc:List Fp} {Q:Env->St->List Fp->Prop} {bs:List (Nat×List AV)} {ts:List (Nat×Nat)} {us:List Nat} {f:FuncId} {args:Array Operand} {B:Array TypeId} {p:List PA} {rs:List LV} {u:List (Nat×List LV)} {l:List AV} {d:Nat} {nb:List (Nat×List AV)} {fr Y W bx:List (Nat×Nat)} {tk:List (Nat×(Nat×Option Nat))} {bs':List (Nat×List AV)} {ts':List (Nat×Nat)} {us' S P:List Nat} {env':Env} (k:ai Tryz.prog Tryz.X ops rest env' ⟨bs',ts',us'⟩ (⟨S,P⟩::acc) Q) (O:cV ops.toList kn env o=some true:=by exact rfl) (q:o.op = .call {callee := .value (.func f),args:=args,argTypes:=B}:=by exact rfl) (hq:bz Tryz.prog Tryz.X f p rs u:=by assumption) (C:gI (aK Tryz.X env) args.toList=some l:=by exact rfl) (hok:iV bs ts p l:=by(repeat' (first|exact rfl|exact trivial|refine⟨_,_,rfl,?_,?_⟩|refine⟨_,_,_,rfl,rfl,?_,?_⟩));done) (H:o.dst=some d:=by exact rfl) (N:jP (jx bs 0 p l)=some bx:=by exact rfl) (M:jP (jn bs 0 p l)=some tk:=by exact rfl) (V:GQ bx (10000000*(d+1)) u=some nb:=by exact rfl) (J:jP (pL (10000000*(d+1)) (oP u++xq 0 rk rs))=some fr:=by exact rfl) (K:jP (pM ts (cR tk))=some Y:=by exact rfl) (E:vQ us bx tk (qx u) nb fr Y (oP u++xq 0 rk rs)=true:=by exact rfl) (I:sO nb bs=some bs':=by exact rfl) (U:jP (fr++Y)=some W:=by exact rfl) (T:sO W ts=some ts':=by exact rfl) (G:qW (fX fr++us)=some us':=by exact rfl) (D:qW (bx.map (·.2)++cR tk)=some S:=by exact rfl) (A:qW (fX nb++(fX W++fX fr))=some P:=by exact rfl) (he:LJ d (10000000*(d+1)) rs env=some env':=by exact rfl):ai Tryz.prog Tryz.X ops (o::rest) env ⟨bs,ts,us⟩ acc Q:=ai.RG kn O q hq C hok H N M V J K E I U T G D A he k
def RH:Nat->List CV->Env
 | _,[]=>[]
 | i,c::l=>(i,.c c)::RH (i+1) l
theorem NT:∀(i:Nat) (l:List CV),RH i l=((l.zipIdx i).map fun(v,i)=>(i,AV.c v))
 | _,[]=>rfl
 | i,c::l=>by simp only[RH,List.zipIdx_cons,List.map_cons,NT (i+1) l]
theorem qn {f:FuncId} {T:Func} {c:Code} {args:List CV} {r:CV} {env:Env} (hf:Tryz.prog.funcs[f]?=some T) (P:Enters Tryz.prog f) (k:∀β,Tryz.prog.funcs[f]?=some T->AK Tryz.prog Tryz.X f T.ntmps β (QR β r) [.code c] env ⟨[],[],[]⟩) (p:T.body=some c:=by exact rfl) (O:args.length<=T.ntmps:=by exact Nat.le_of_ble_eq_true rfl) (q:RH 0 args=env:=by simp only[RH];try exact rfl):bw Tryz.prog Tryz.X f args r:=bw.of hf p P O env (by rw[<- q,NT]) fun β _=>k β hf
theorem dq {p:Prop} (h:p:=by(repeat' (first|refine st ?_|(refine AK.CJ rfl (fun h=>?_) (fun h=>?_)<;>first|(cases h;done)|rw[h]|skip)|refine AK.pG rfl ?_ ?_|refine uQ hf rfl rfl ?_|refine AK.BJ Tryz.hX hf rfl rfl rfl rfl ?_ (by with_reducible rfl)|refine AK.BJ Tryz.hX hf rfl rfl rfl rfl ?_ ?_|refine AK.BK Tryz.hX hf rfl rfl rfl rfl ?_ (by with_reducible rfl)|refine AK.BK Tryz.hX hf rfl rfl rfl rfl ?_ ?_|refine uC rfl (by assumption) ?_|refine uI rfl _ rfl (by assumption) rfl ?_|refine uI rfl 0 rfl (by assumption) rfl ?_|refine uI rfl 1 rfl (by assumption) rfl ?_|refine uI rfl 0 rfl rfl rfl ?_|refine uI rfl 1 rfl rfl rfl ?_|refine uI rfl 2 rfl rfl rfl ?_|refine uI rfl 3 rfl rfl rfl ?_|refine jl ?_|(first|refine ai.quo Tryz.hX kn rfl rfl rfl rfl rfl rfl rfl ((by decide)) ?_|refine ai.rem Tryz.hX kn rfl rfl rfl rfl rfl rfl rfl ((by decide)) ?_)|(refine uA rfl ?_ ?_<;>(try (show(_:Nat)*_<=_;dsimp only)))|refine ai.toStr Tryz.hX kn rfl rfl rfl rfl rfl rfl rfl rfl rfl rfl rfl (by first|exact rfl|exact wS _) rfl ?_|((first|refine ai.uu rfl rfl rfl Ev (fun h=>?_)|refine ai.uv rfl rfl rfl Ev (fun h=>?_)|refine ai.split rfl rfl rfl (fun h=>?_) (fun h=>?_))<;>(fail_if_success (cases h;done))<;>rw[h])))<;>rfl):p:=h
theorem dn {p q:Prop} (k:q) (h:q->p:=by intro k;(repeat' (first|refine st ?_|(refine AK.CJ rfl (fun h=>?_) (fun h=>?_)<;>first|(cases h;done)|rw[h]|skip)|refine AK.pG rfl ?_ ?_|refine uQ hf rfl rfl ?_|refine AK.BJ Tryz.hX hf rfl rfl rfl rfl ?_ (by with_reducible rfl)|refine AK.BJ Tryz.hX hf rfl rfl rfl rfl ?_ ?_|refine AK.BK Tryz.hX hf rfl rfl rfl rfl ?_ (by with_reducible rfl)|refine AK.BK Tryz.hX hf rfl rfl rfl rfl ?_ ?_|refine uC rfl (by assumption) ?_|refine uI rfl _ rfl (by assumption) rfl ?_|refine uI rfl 0 rfl (by assumption) rfl ?_|refine uI rfl 1 rfl (by assumption) rfl ?_|refine uI rfl 0 rfl rfl rfl ?_|refine uI rfl 1 rfl rfl rfl ?_|refine uI rfl 2 rfl rfl rfl ?_|refine uI rfl 3 rfl rfl rfl ?_|refine jl ?_|(first|refine ai.quo Tryz.hX kn rfl rfl rfl rfl rfl rfl rfl ((by decide)) ?_|refine ai.rem Tryz.hX kn rfl rfl rfl rfl rfl rfl rfl ((by decide)) ?_)|(refine uA rfl ?_ ?_<;>(try (show(_:Nat)*_<=_;dsimp only)))|refine ai.toStr Tryz.hX kn rfl rfl rfl rfl rfl rfl rfl rfl rfl rfl rfl (by first|exact rfl|exact wS _) rfl ?_|((first|refine ai.uu rfl rfl rfl Ev (fun h=>?_)|refine ai.uv rfl rfl rfl Ev (fun h=>?_)|refine ai.split rfl rfl rfl (fun h=>?_) (fun h=>?_))<;>(fail_if_success (cases h;done))<;>rw[h])))<;>first|exact rfl|exact k):p:=h k
theorem dnw {p q:Prop} (k:q) (h:q->p:=by intro k;(repeat' (first|refine st ?_|(refine AK.CJ rfl (fun h=>?_) (fun h=>?_)<;>first|(cases h;done)|rw[h]|skip)|refine AK.pG rfl ?_ ?_|refine uW hf rfl rfl ?_|refine AK.BJ Tryz.hX hf rfl rfl rfl rfl ?_ (by with_reducible rfl)|refine AK.BJ Tryz.hX hf rfl rfl rfl rfl ?_ ?_|refine AK.BK Tryz.hX hf rfl rfl rfl rfl ?_ (by with_reducible rfl)|refine AK.BK Tryz.hX hf rfl rfl rfl rfl ?_ ?_|refine uC rfl (by assumption) ?_|refine uI rfl _ rfl (by assumption) rfl ?_|refine uI rfl 0 rfl (by assumption) rfl ?_|refine uI rfl 1 rfl (by assumption) rfl ?_|refine uI rfl 0 rfl rfl rfl ?_|refine uI rfl 1 rfl rfl rfl ?_|refine uI rfl 2 rfl rfl rfl ?_|refine uI rfl 3 rfl rfl rfl ?_|refine jl ?_|(first|refine ai.quo Tryz.hX kn rfl rfl rfl rfl rfl rfl rfl ((by decide)) ?_|refine ai.rem Tryz.hX kn rfl rfl rfl rfl rfl rfl rfl ((by decide)) ?_)|(refine uA rfl ?_ ?_<;>(try (show(_:Nat)*_<=_;dsimp only)))|refine ai.toStr Tryz.hX kn rfl rfl rfl rfl rfl rfl rfl rfl rfl rfl rfl (by first|exact rfl|exact wS _) rfl ?_|((first|refine ai.uu rfl rfl rfl Ev (fun h=>?_)|refine ai.uv rfl rfl rfl Ev (fun h=>?_)|refine ai.split rfl rfl rfl (fun h=>?_) (fun h=>?_))<;>(fail_if_success (cases h;done))<;>rw[h])))<;>first|exact Wk.refl _|exact k):p:=h k
theorem dw {p:Prop} (h:p:=by(repeat' (first|refine st ?_|(refine AK.CJ rfl (fun h=>?_) (fun h=>?_)<;>first|(cases h;done)|rw[h]|skip)|refine AK.pG rfl ?_ ?_|refine uW hf rfl rfl ?_|refine AK.BJ Tryz.hX hf rfl rfl rfl rfl ?_ (by with_reducible rfl)|refine AK.BJ Tryz.hX hf rfl rfl rfl rfl ?_ ?_|refine AK.BK Tryz.hX hf rfl rfl rfl rfl ?_ (by with_reducible rfl)|refine AK.BK Tryz.hX hf rfl rfl rfl rfl ?_ ?_|refine uC rfl (by assumption) ?_|refine uI rfl _ rfl (by assumption) rfl ?_|refine uI rfl 0 rfl (by assumption) rfl ?_|refine uI rfl 1 rfl (by assumption) rfl ?_|refine uI rfl 0 rfl rfl rfl ?_|refine uI rfl 1 rfl rfl rfl ?_|refine uI rfl 2 rfl rfl rfl ?_|refine uI rfl 3 rfl rfl rfl ?_|refine jl ?_|(first|refine ai.quo Tryz.hX kn rfl rfl rfl rfl rfl rfl rfl ((by decide)) ?_|refine ai.rem Tryz.hX kn rfl rfl rfl rfl rfl rfl rfl ((by decide)) ?_)|(refine uA rfl ?_ ?_<;>(try (show(_:Nat)*_<=_;dsimp only)))|refine ai.toStr Tryz.hX kn rfl rfl rfl rfl rfl rfl rfl rfl rfl rfl rfl (by first|exact rfl|exact wS _) rfl ?_|((first|refine ai.uu rfl rfl rfl Ev (fun h=>?_)|refine ai.uv rfl rfl rfl Ev (fun h=>?_)|refine ai.split rfl rfl rfl (fun h=>?_) (fun h=>?_))<;>(fail_if_success (cases h;done))<;>rw[h])))<;>(first|exact Wk.refl _|exact zI rfl rfl|exact UC|exact vL|exact abg|(show _<=_;simp only[aY,az,aaa,aab];omega))):p:=h
abbrev ah:=@bw Tryz.prog Tryz.X
abbrev EE:=@AK Tryz.prog Tryz.X
abbrev oE:=@ai Tryz.prog Tryz.X
abbrev fJ:=@bz Tryz.prog Tryz.X
abbrev rU:=@dJ Tryz.prog Tryz.X
abbrev n9:=@dN Tryz.prog Tryz.X
end Go.Proofs
