/- The types of the program, held against it by the kernel. -/
import Derived.Test.YtlohbilpimjmmaaGreatDoorLibD
import Derived.Test.YtlohbilpimjmmaaGreatDoorProg
import Derived.KernelRfl
namespace Go.Proofs
open Go.cq
def Tryz.table:List (Nat×TI):=[
 (1,⟨1,8,.other,none⟩),
 (2,⟨1,8,.int .i64,some (.c (.int .i64 0))⟩),
 (3,⟨1,8,.int .i64,some (.c (.int .i64 0))⟩),
 (4,⟨1,1,.bool,some (.c (.bool false))⟩),
 (5,⟨1,1,.int .u8,some (.c (.int .u8 0))⟩),
 (6,⟨1,1,.int .u8,some (.c (.int .u8 0))⟩),
 (7,⟨4,24,.struct [(0,2),(1,3),(2,4),(3,6)],some (.agg [.c (.int .i64 0),.c (.int .i64 0),.c (.bool false),.c (.int .u8 0)])⟩),
 (8,⟨4,24,.struct [(0,2),(1,3),(2,4),(3,6)],some (.agg [.c (.int .i64 0),.c (.int .i64 0),.c (.bool false),.c (.int .u8 0)])⟩),
 (9,⟨1,16,.str,some (.c (.str []))⟩),
 (10,⟨1,16,.str,some (.c (.str []))⟩),
 (11,⟨1,16,.str,some (.c (.str []))⟩),
 (12,⟨1,8,.int .u64,some (.c (.int .u64 0))⟩),
 (13,⟨2,24,.struct [(0,9),(1,12)],some (.agg [.c (.str []),.c (.int .u64 0)])⟩),
 (14,⟨2,24,.struct [(0,9),(1,12)],some (.agg [.c (.str []),.c (.int .u64 0)])⟩),
 (15,⟨1,8,.ptr 171,some (.c .lO)⟩),
 (16,⟨1,8,.ptr 174,some (.c .lO)⟩),
 (17,⟨1,8,.ptr 183,some (.c .lO)⟩),
 (18,⟨1,8,.struct [(0,17)],some (.agg [.c .lO])⟩),
 (19,⟨1,8,.struct [(0,17)],some (.agg [.c .lO])⟩),
 (21,⟨1,4,.int .i32,some (.c (.int .i32 0))⟩),
 (22,⟨4,32,.struct [(0,3),(1,3),(2,3),(3,3)],some (.agg [.c (.int .i64 0),.c (.int .i64 0),.c (.int .i64 0),.c (.int .i64 0)])⟩),
 (23,⟨4,32,.struct [(0,3),(1,3),(2,3),(3,3)],some (.agg [.c (.int .i64 0),.c (.int .i64 0),.c (.int .i64 0),.c (.int .i64 0)])⟩),
 (24,⟨1,24,.slice 26,some (.own .exact 5 [])⟩),
 (25,⟨5,64,.struct [(0,3),(1,3),(2,3),(3,9),(4,24)],some (.agg [.c (.int .i64 0),.c (.int .i64 0),.c (.int .i64 0),.c (.str []),.own .exact 5 []])⟩),
 (26,⟨5,64,.struct [(0,3),(1,3),(2,3),(3,9),(4,24)],some (.agg [.c (.int .i64 0),.c (.int .i64 0),.c (.int .i64 0),.c (.str []),.own .exact 5 []])⟩),
 (27,⟨1,24,.slice 54,some (.own .exact 2 [])⟩),
 (28,⟨1,24,.slice 36,some (.own .exact 7 [])⟩),
 (29,⟨2,32,.struct [(0,27),(1,4)],some (.agg [.own .exact 2 [],.c (.bool false)])⟩),
 (30,⟨2,32,.struct [(0,27),(1,4)],some (.agg [.own .exact 2 [],.c (.bool false)])⟩),
 (31,⟨1,8,.int .i64,some (.c (.int .i64 0))⟩),
 (32,⟨1,0,.other,none⟩),
 (33,⟨1,8,.other,none⟩),
 (34,⟨1,8,.other,none⟩),
 (35,⟨7,112,.struct [(0,3),(1,3),(2,3),(3,9),(4,28),(5,27),(6,24)],some (.agg [.c (.int .i64 0),.c (.int .i64 0),.c (.int .i64 0),.c (.str []),.own .exact 7 [],.own .exact 2 [],.own .exact 5 []])⟩),
 (36,⟨7,112,.struct [(0,3),(1,3),(2,3),(3,9),(4,28),(5,27),(6,24)],some (.agg [.c (.int .i64 0),.c (.int .i64 0),.c (.int .i64 0),.c (.str []),.own .exact 7 [],.own .exact 2 [],.own .exact 5 []])⟩),
 (37,⟨11,160,.struct [(0,31),(1,28),(2,36),(9,3),(10,3)],some (.agg [.c (.int .i64 0),.own .exact 7 [],.c (.int .i64 0),.c (.int .i64 0),.c (.int .i64 0),.c (.str []),.own .exact 7 [],.own .exact 2 [],.own .exact 5 [],.c (.int .i64 0),.c (.int .i64 0)])⟩),
 (38,⟨11,160,.struct [(0,31),(1,28),(2,36),(9,3),(10,3)],some (.agg [.c (.int .i64 0),.own .exact 7 [],.c (.int .i64 0),.c (.int .i64 0),.c (.int .i64 0),.c (.str []),.own .exact 7 [],.own .exact 2 [],.own .exact 5 [],.c (.int .i64 0),.c (.int .i64 0)])⟩),
 (39,⟨1,8,.other,none⟩),
 (40,⟨1,8,.other,none⟩),
 (41,⟨1,8,.other,none⟩),
 (42,⟨1,8,.other,none⟩),
 (43,⟨1,8,.other,none⟩),
 (44,⟨1,8,.other,none⟩),
 (45,⟨1,8,.other,none⟩),
 (46,⟨1,8,.other,none⟩),
 (47,⟨1,8,.other,none⟩),
 (48,⟨1,8,.other,none⟩),
 (49,⟨1,8,.other,none⟩),
 (50,⟨1,8,.other,none⟩),
 (51,⟨1,8,.other,none⟩),
 (52,⟨1,8,.other,none⟩),
 (53,⟨2,32,.struct [(0,3),(1,27)],some (.agg [.c (.int .i64 0),.own .exact 2 []])⟩),
 (54,⟨2,32,.struct [(0,3),(1,27)],some (.agg [.c (.int .i64 0),.own .exact 2 []])⟩),
 (55,⟨1,8,.other,none⟩),
 (56,⟨1,8,.other,none⟩),
 (57,⟨1,8,.other,none⟩),
 (58,⟨1,8,.other,none⟩),
 (59,⟨1,8,.other,none⟩),
 (60,⟨1,8,.other,none⟩),
 (61,⟨1,8,.other,none⟩),
 (62,⟨1,8,.other,none⟩),
 (63,⟨1,8,.other,none⟩),
 (64,⟨1,8,.other,none⟩),
 (65,⟨1,8,.other,none⟩),
 (66,⟨1,8,.other,none⟩),
 (67,⟨1,8,.other,none⟩),
 (68,⟨1,8,.other,none⟩),
 (69,⟨1,8,.ptr 3,some (.c .lO)⟩),
 (70,⟨1,8,.other,none⟩),
 (71,⟨1,8,.other,none⟩),
 (72,⟨1,8,.ptr 77,some (.c .lO)⟩),
 (73,⟨4,64,.struct [(0,24),(1,3),(2,3),(3,28)],some (.agg [.own .exact 5 [],.c (.int .i64 0),.c (.int .i64 0),.own .exact 7 []])⟩),
 (74,⟨4,64,.struct [(0,24),(1,3),(2,3),(3,28)],some (.agg [.own .exact 5 [],.c (.int .i64 0),.c (.int .i64 0),.own .exact 7 []])⟩),
 (75,⟨1,24,.slice 74,some (.own .exact 4 [])⟩),
 (76,⟨16,216,.struct [(0,23),(4,28),(5,75),(6,3),(7,3),(8,3),(9,36)],some (.agg [.c (.int .i64 0),.c (.int .i64 0),.c (.int .i64 0),.c (.int .i64 0),.own .exact 7 [],.own .exact 4 [],.c (.int .i64 0),.c (.int .i64 0),.c (.int .i64 0),.c (.int .i64 0),.c (.int .i64 0),.c (.int .i64 0),.c (.str []),.own .exact 7 [],.own .exact 2 [],.own .exact 5 []])⟩),
 (77,⟨16,216,.struct [(0,23),(4,28),(5,75),(6,3),(7,3),(8,3),(9,36)],some (.agg [.c (.int .i64 0),.c (.int .i64 0),.c (.int .i64 0),.c (.int .i64 0),.own .exact 7 [],.own .exact 4 [],.c (.int .i64 0),.c (.int .i64 0),.c (.int .i64 0),.c (.int .i64 0),.c (.int .i64 0),.c (.int .i64 0),.c (.str []),.own .exact 7 [],.own .exact 2 [],.own .exact 5 []])⟩),
 (78,⟨1,8,.other,none⟩),
 (79,⟨1,8,.other,none⟩),
 (80,⟨1,0,.other,none⟩),
 (81,⟨1,8,.other,none⟩),
 (82,⟨1,8,.other,none⟩),
 (83,⟨1,8,.other,none⟩),
 (84,⟨1,8,.other,none⟩),
 (85,⟨1,8,.other,none⟩),
 (86,⟨1,8,.ptr 74,some (.c .lO)⟩),
 (87,⟨1,8,.other,none⟩),
 (88,⟨1,8,.other,none⟩),
 (89,⟨1,8,.other,none⟩),
 (90,⟨1,8,.other,none⟩),
 (91,⟨1,0,.other,none⟩),
 (92,⟨1,8,.other,none⟩),
 (93,⟨1,0,.other,none⟩),
 (94,⟨1,8,.other,none⟩),
 (95,⟨1,8,.other,none⟩),
 (96,⟨1,8,.other,none⟩),
 (97,⟨1,8,.other,none⟩),
 (98,⟨1,8,.other,none⟩),
 (99,⟨1,8,.other,none⟩),
 (100,⟨1,8,.other,none⟩),
 (101,⟨1,8,.other,none⟩),
 (102,⟨1,8,.other,none⟩),
 (103,⟨1,0,.other,none⟩),
 (104,⟨1,8,.other,none⟩),
 (105,⟨1,0,.other,none⟩),
 (106,⟨1,8,.other,none⟩),
 (107,⟨1,8,.other,none⟩),
 (108,⟨1,8,.other,none⟩),
 (109,⟨1,8,.other,none⟩),
 (110,⟨1,0,.other,none⟩),
 (111,⟨1,8,.other,none⟩),
 (112,⟨1,8,.other,none⟩),
 (113,⟨1,8,.other,none⟩),
 (114,⟨1,8,.other,none⟩),
 (115,⟨1,8,.other,none⟩),
 (116,⟨1,8,.other,none⟩),
 (117,⟨1,8,.other,none⟩),
 (118,⟨1,8,.other,none⟩),
 (119,⟨1,8,.other,none⟩),
 (120,⟨1,8,.other,none⟩),
 (121,⟨1,8,.other,none⟩),
 (122,⟨1,8,.other,none⟩),
 (123,⟨1,8,.other,none⟩),
 (124,⟨1,8,.other,none⟩),
 (125,⟨1,8,.other,none⟩),
 (126,⟨1,8,.other,none⟩),
 (127,⟨1,0,.other,none⟩),
 (128,⟨1,8,.other,none⟩),
 (129,⟨1,0,.other,none⟩),
 (130,⟨1,8,.other,none⟩),
 (131,⟨1,8,.other,none⟩),
 (132,⟨1,8,.other,none⟩),
 (133,⟨1,8,.other,none⟩),
 (134,⟨1,0,.other,none⟩),
 (135,⟨1,8,.other,none⟩),
 (136,⟨1,8,.other,none⟩),
 (137,⟨1,8,.other,none⟩),
 (138,⟨1,8,.other,none⟩),
 (139,⟨1,8,.other,none⟩),
 (140,⟨1,24,.slice 3,some (.own .exact 1 [])⟩),
 (141,⟨1,8,.other,none⟩),
 (142,⟨1,8,.other,none⟩),
 (143,⟨1,8,.other,none⟩),
 (144,⟨1,8,.int .u64,some (.c (.int .u64 0))⟩),
 (145,⟨1,0,.other,none⟩),
 (146,⟨1,8,.other,none⟩),
 (147,⟨1,0,.other,none⟩),
 (148,⟨1,8,.other,none⟩),
 (149,⟨1,8,.other,none⟩),
 (150,⟨1,8,.other,none⟩),
 (151,⟨1,0,.other,none⟩),
 (152,⟨1,8,.other,none⟩),
 (153,⟨1,0,.other,none⟩),
 (154,⟨1,8,.other,none⟩),
 (155,⟨1,8,.int .u64,some (.c (.int .u64 0))⟩),
 (156,⟨1,24,.slice 5,some (.own .exact 1 [])⟩),
 (157,⟨1,8,.other,none⟩),
 (158,⟨1,8,.other,none⟩),
 (159,⟨1,8,.other,none⟩),
 (160,⟨1,8,.ptr 162,some (.c .lO)⟩),
 (161,⟨3,32,.struct [(0,9),(1,3),(2,31)],some (.agg [.c (.str []),.c (.int .i64 0),.c (.int .i64 0)])⟩),
 (162,⟨3,32,.struct [(0,9),(1,3),(2,31)],some (.agg [.c (.str []),.c (.int .i64 0),.c (.int .i64 0)])⟩),
 (163,⟨1,8,.other,none⟩),
 (164,⟨1,8,.other,none⟩),
 (165,⟨1,8,.other,none⟩),
 (166,⟨1,8,.other,none⟩),
 (167,⟨1,8,.other,none⟩),
 (168,⟨1,8,.other,none⟩),
 (169,⟨1,8,.other,none⟩),
 (170,⟨4,40,.struct [(0,17),(1,17),(2,17),(3,9)],some (.agg [.c .lO,.c .lO,.c .lO,.c (.str [])])⟩),
 (171,⟨4,40,.struct [(0,17),(1,17),(2,17),(3,9)],some (.agg [.c .lO,.c .lO,.c .lO,.c (.str [])])⟩),
 (175,⟨1,4,.int .u32,some (.c (.int .u32 0))⟩),
 (176,⟨1,1,.int .u8,some (.c (.int .u8 0))⟩),
 (177,⟨1,1,.int .u8,some (.c (.int .u8 0))⟩),
 (178,⟨1,8,.other,none⟩),
 (179,⟨1,8,.ptr 5,some (.c .lO)⟩),
 (180,⟨1,4,.int .i32,some (.c (.int .i32 0))⟩),
 (181,⟨1,4,.int .i32,some (.c (.int .i32 0))⟩),
 (182,⟨11,48,.struct [(0,12),(1,12),(2,175),(3,176),(4,5),(5,5),(6,177),(7,178),(8,179),(9,180),(10,181)],none⟩),
 (183,⟨11,48,.struct [(0,12),(1,12),(2,175),(3,176),(4,5),(5,5),(6,177),(7,178),(8,179),(9,180),(10,181)],none⟩)]
def Tryz.X:Ctx:=⟨fun t=>ak t Tryz.table,fun n=>ak n [(0,.ip [.any,.any])]⟩
theorem Tryz.RK:Tryz.table.all (fun p=>RL Tryz.prog p.1 p.2)=true:=by kernel_rfl
theorem Tryz.hX:cx Tryz.prog Tryz.X:=RM rfl Tryz.RK
theorem Tryz.mixed:Tryz.prog.follows .mixedOrders=true:=by kernel_rfl
theorem uS {ops:Array Oper} {rest Y:List Oper} {σ:St} {env env':Env} {acc W:List Fp} {Q:Env->St->List Fp->Prop} (h:Fx Tryz.X ops.toList σ.boxes kn (Oa rest) rest env acc = .at Y env' W) (k:ai Tryz.prog Tryz.X ops Y env' σ W Q):ai Tryz.prog Tryz.X ops rest env σ acc Q:=ai.abL Tryz.hX kn h k
theorem PK {ops:Array Oper} {o:Oper} {rest Y:List Oper} {σ:St} {env env':Env} {acc W:List Fp} {Q:Env->St->List Fp->Prop} (G:simple o.op=true) (h:Fx Tryz.X ops.toList σ.boxes kn 0 (o::rest) env acc = .at Y env' W) (k:ai Tryz.prog Tryz.X ops Y env' σ W Q):ai Tryz.prog Tryz.X ops (o::rest) env σ acc Q:=ai.Y6 Tryz.hX kn G h k
theorem uB {ops:Array Oper} {o:Oper} {rest:List Oper} {env env':Env} {acc:List Fp} {Q:Env->St->List Fp->Prop} {bs bs':List (Nat×List AV)} {ts:List (Nat×Nat)} {us us':List Nat} {M:Fp} (h:Js Tryz.X ops.toList o env bs us = .ok env' bs' us' M) (k:ai Tryz.prog Tryz.X ops rest env' ⟨bs',ts,us'⟩ (M::acc) Q):ai Tryz.prog Tryz.X ops (o::rest) env ⟨bs,ts,us⟩ acc Q:=ai.Js Tryz.hX h k
theorem uA {ops:Array Oper} {o:Oper} {rest:List Oper} {env:Env} {acc:List Fp} {Q:Env->St->List Fp->Prop} {bs:List (Nat×List AV)} {ts ts':List (Nat×Nat)} {us:List Nat} {d u n sz b:Nat} {rows bZ:List CV} (h:Jt Tryz.X ops.toList o env ts us=some (d,u,n,sz,rows,bZ,b,ts')) (G:(rows.length+bZ.length)*b<=140737488355328) (k:ai Tryz.prog Tryz.X ops rest ((d,.own (.tok u n) sz (rows++bZ))::env) ⟨bs,ts',u::us⟩ (⟨[],[u]⟩::acc) Q):ai Tryz.prog Tryz.X ops (o::rest) env ⟨bs,ts,us⟩ acc Q:=ai.Jt Tryz.hX h G k
theorem uC {ops:Array Oper} {o:Oper} {rest:List Oper} {σ:St} {env:Env} {acc:List Fp} {Q:Env->St->List Fp->Prop} {d:Nat} {f:FuncId} {S:List CV} {r:CV} (h:Ju Tryz.X ops.toList o env=some (d,f,S)) (hq:bh Tryz.prog Tryz.X f S r) (k:ai Tryz.prog Tryz.X ops rest ((d,.c r)::env) σ (⟨[],[]⟩::acc) Q):ai Tryz.prog Tryz.X ops (o::rest) env σ acc Q:=ai.Ju h hq k
theorem uI {ops:Array Oper} {o:Oper} {rest:List Oper} {σ:St} {env:Env} {acc:List Fp} {Q:Env->St->List Fp->Prop} {d:Nat} {rows:List CV} {z:Int} (h:Jv Tryz.X ops.toList o env=some (d,rows,z)) (m:Nat) (M:z=m) {r:CV} (K:rows[m]?=some r) {cs:List CV} (Y:r.cells=cs) (k:ai Tryz.prog Tryz.X ops rest ((d,.c (.ip cs))::env) σ (⟨[],[]⟩::acc) Q):ai Tryz.prog Tryz.X ops (o::rest) env σ acc Q:=ai.Jv Tryz.hX h m M K Y k
theorem uP {f:FuncId} {n:Nat} {β:jG} {R:Ending->World->Prop} {σ:St} {K B:List Item} {env env':Env} (h:LY Tryz.X n σ.boxes 300 K env = .at B env') (k:AK Tryz.prog Tryz.X f n β R B env' σ):AK Tryz.prog Tryz.X f n β R K env σ:=AK.LM Tryz.hX Tryz.mixed 300 h k
theorem uR {f:FuncId} {n:Nat} {β:jG} {R:Ending->World->Prop} {σ:St} {K:List Item} {env:Env} {id:Nat} {ops:Array Oper} {Y:Bool} (p:qX ops n=true) (h:ai Tryz.prog Tryz.X ops ops.toList env σ [] (fun env' u W=>(Y=true->pN ops W=true)/\AK Tryz.prog Tryz.X f n β R K env' u)):AK Tryz.prog Tryz.X f n β R (.code (.region id ops Y)::K) env σ:=AK.region Tryz.mixed p h
theorem uQ {f:FuncId} {n:Nat} {β:jG} {K:List Item} {env:Env} {σ:St} {Y:Func} (hf:Tryz.prog.funcs[f]?=some Y) {r:AV} {B W:CV} (I:nQ Tryz.X σ.boxes env Y.results.toList=some r) (E:close r=some B) (P:B=W):AK Tryz.prog Tryz.X f n β (QR β W) (.code .ret::K) env σ:=AK.Y7 Tryz.hX hf I E P
theorem uW {f:FuncId} {n:Nat} {β:jG} {K:List Item} {env:Env} {σ:St} {Y:Func} (hf:Tryz.prog.funcs[f]?=some Y) {r:AV} {B W:CV} (I:nQ Tryz.X σ.boxes env Y.results.toList=some r) (E:close r=some B) (P:Wk B W):AK Tryz.prog Tryz.X f n β (QR β W) (.code .ret::K) env σ:=AK.abM Tryz.hX hf I E P
theorem ED {c b:Bool} (h:c=b:=by first|with_reducible assumption|(simp only[cond_true,cond_false,Bool.not_true,Bool.not_false,bne_self_eq_false,Int.reduceBNe,Int.reduceBEq];first|done|with_reducible assumption)):c=b:=h
theorem UY {c b:Bool} (h:c=b:=by first|with_reducible assumption|(simp only[cond_true,cond_false,Bool.not_true,Bool.not_false,bne_self_eq_false,Int.reduceBNe,Int.reduceBEq];with_reducible assumption)):c=b:=h
theorem st {p q:Prop} (k:q) (h:q->p:=by first|exact fun k=>uP rfl k|exact fun k=>AK.CN rfl ED k|exact fun k=>AK.CO rfl ED k|exact fun k=>uR rfl k|exact fun k=>ai.done k|exact fun k=>uS rfl k|exact fun k=>uB rfl k|exact fun k=>PK rfl rfl k|exact fun k=>ai.drawn (by kernel_rfl) k):p:=h k
theorem so {p q:Prop} (k:q) (h:q->p:=by first|exact fun k=>ai.done k|exact fun k=>uS rfl k|exact fun k=>uB rfl k|exact fun k=>PK rfl rfl k|exact fun k=>ai.drawn (by kernel_rfl) k):p:=h k
theorem sz {p q:Prop} (k:q) (h:q->p:=by first|exact fun k=>uP rfl k|exact fun k=>AK.CN rfl ED k|exact fun k=>AK.CO rfl ED k|exact fun k=>uR rfl k|exact fun k=>ai.done k|exact fun k=>uS rfl k|exact fun k=>uB rfl k|exact fun k=>PK rfl rfl k|exact fun k=>ai.drawn (by kernel_rfl) k|exact fun k=>uQ hf rfl rfl k|exact fun k=>AK.BP Tryz.hX hf rfl rfl rfl rfl k (by with_reducible rfl)|exact fun k=>AK.BQ Tryz.hX hf rfl rfl rfl rfl k (by with_reducible rfl)|exact fun k=>ai.toStr Tryz.hX kn rfl rfl rfl rfl rfl rfl rfl rfl rfl rfl rfl (by first|exact rfl|exact w8 _) rfl k):p:=h k
theorem nP {p q:Prop} (k:q) (h:q->p:=by first|exact fun k=>uP rfl k|exact fun k=>AK.CN rfl UY k|exact fun k=>AK.CO rfl UY k|exact fun k=>uR rfl k|exact fun k=>ai.done k|exact fun k=>uS rfl k|exact fun k=>uB rfl k|exact fun k=>PK rfl rfl k|exact fun k=>ai.drawn (by kernel_rfl) k|exact fun k=>uQ hf rfl rfl k|exact fun k=>AK.BP Tryz.hX hf rfl rfl rfl rfl k (by with_reducible rfl)|exact fun k=>AK.BQ Tryz.hX hf rfl rfl rfl rfl k (by with_reducible rfl)|exact fun k=>ai.toStr Tryz.hX kn rfl rfl rfl rfl rfl rfl rfl rfl rfl rfl rfl (by first|exact rfl|exact w8 _) rfl k):p:=h k
theorem sK {p q:Prop} (k:q) (h:q->p:=by first|exact fun k=>uP rfl k|exact fun k=>AK.CN rfl ED k|exact fun k=>AK.CO rfl ED k|exact fun k=>uR rfl k|exact fun k=>ai.done k|exact fun k=>uS rfl k|exact fun k=>uB rfl k|exact fun k=>PK rfl rfl k|exact fun k=>ai.drawn (by kernel_rfl) k|exact fun k=>uW hf rfl rfl k|exact fun k=>AK.BP Tryz.hX hf rfl rfl rfl rfl k (by with_reducible rfl)|exact fun k=>AK.BQ Tryz.hX hf rfl rfl rfl rfl k (by with_reducible rfl)|exact fun k=>ai.toStr Tryz.hX kn rfl rfl rfl rfl rfl rfl rfl rfl rfl rfl rfl (by first|exact rfl|exact w8 _) rfl k):p:=h k
theorem nj {p q:Prop} (k:q) (h:q->p:=by first|exact fun k=>uP rfl k|exact fun k=>AK.CN rfl ED k|exact fun k=>AK.CO rfl ED k|exact fun k=>uR rfl k|exact fun k=>ai.done k|exact fun k=>uS rfl k|exact fun k=>uB rfl k|exact fun k=>PK rfl rfl k|exact fun k=>ai.drawn (by kernel_rfl) k|exact fun k=>RO hf rfl rfl rfl rfl rfl rfl rfl rfl rfl k|exact fun k=>Xe hf rfl rfl rfl rfl rfl rfl rfl rfl rfl k|exact fun k=>ai.toStr Tryz.hX kn rfl rfl rfl rfl rfl rfl rfl rfl rfl rfl rfl (by first|exact rfl|exact w8 _) rfl k):p:=h k
theorem zc {p q r:Prop} (k:q) (l:r) (h:q->r->p:=by exact fun a b=>AK.CP rfl a b):p:=h k l
theorem zr {p q r:Prop} (k:q) (l:r) (h:q->r->p:=by first|exact fun a b=>AK.BP Tryz.hX hf rfl rfl rfl rfl a b|exact fun a b=>AK.BQ Tryz.hX hf rfl rfl rfl rfl a b):p:=h k l
theorem zt {p q:Prop} (k:q) (h:q->p:=by first|exact fun k=>ai.uF rfl rfl rfl ED k|exact fun k=>ai.uG rfl rfl rfl ED k):p:=h k
theorem GK {p q:Prop} (k:q) (h:q->p:=by first|exact fun k=>ai.uF rfl rfl rfl UY k|exact fun k=>ai.uG rfl rfl rfl UY k):p:=h k
theorem zu {p q r:Prop} (k:q) (l:r) (h:q->r->p:=by exact fun a b=>ai.split rfl rfl rfl a b):p:=h k l
theorem lE {ops:Array Oper} {o:Oper} {rest:List Oper} {env:Env} {acc:List Fp} {Q:Env->St->List Fp->Prop} {bs:List (Nat×List AV)} {ts:List (Nat×Nat)} {us:List Nat} {f:FuncId} {args:Array Operand} {E:Array TypeId} {W:List PA} {rs:List LV} {Y:List (Nat×List LV)} {l:List AV} {d:Nat} {nb:List (Nat×List AV)} {fr V U bx:List (Nat×Nat)} {tk:List (Nat×(Nat×Option Nat))} {bs':List (Nat×List AV)} {ts':List (Nat×Nat)} {us' P O:List Nat} {env':Env} (k:ai Tryz.prog Tryz.X ops rest env' ⟨bs',ts',us'⟩ (⟨P,O⟩::acc) Q) (N:cU ops.toList kn env o=some true:=by exact rfl) (p:o.op = .call {callee := .value (.func f),args:=args,argTypes:=E}:=by exact rfl) (hq:bt Tryz.prog Tryz.X f W rs Y:=by assumption) (A:gG (aL Tryz.X env) args.toList=some l:=by exact rfl) (hok:iX bs ts W l:=by(repeat' (first|exact rfl|exact trivial|refine⟨_,_,rfl,?_,?_⟩|refine⟨_,_,_,rfl,rfl,?_,?_⟩));done) (M:o.dst=some d:=by exact rfl) (K:jN (jw bs 0 W l)=some bx:=by exact rfl) (J:jN (jl bs 0 W l)=some tk:=by exact rfl) (T:G3 bx (10000000*(d+1)) Y=some nb:=by exact rfl) (B:jN (pO (10000000*(d+1)) (oR Y++xF 0 rk rs))=some fr:=by exact rfl) (I:jN (pP ts (cR tk))=some V:=by exact rfl) (G:vX us bx tk (qz Y) nb fr V (oR Y++xF 0 rk rs)=true:=by exact rfl) (D:sY nb bs=some bs':=by exact rfl) (S:jN (fr++V)=some U:=by exact rfl) (H:sY U ts=some ts':=by exact rfl) (C:qY (fV fr++us)=some us':=by exact rfl) (u:qY (bx.map (·.2)++cR tk)=some P:=by exact rfl) (q:qY (fV nb++(fV U++fV fr))=some O:=by exact rfl) (he:LZ d (10000000*(d+1)) rs env=some env':=by exact rfl):ai Tryz.prog Tryz.X ops (o::rest) env ⟨bs,ts,us⟩ acc Q:=ai.RQ kn N p hq A hok M K J T B I G D S H C u q he k
def RR:Nat->List CV->Env
 | _,[]=>[]
 | i,c::l=>(i,.c c)::RR (i+1) l
theorem Ob:∀(i:Nat) (l:List CV),RR i l=((l.zipIdx i).map fun(v,i)=>(i,AV.c v))
 | _,[]=>rfl
 | i,c::l=>by simp only[RR,List.zipIdx_cons,List.map_cons,Ob (i+1) l]
theorem qn {f:FuncId} {Y:Func} {c:Code} {args:List CV} {r:CV} {env:Env} (hf:Tryz.prog.funcs[f]?=some Y) (P:Enters Tryz.prog f) (k:∀β,Tryz.prog.funcs[f]?=some Y->AK Tryz.prog Tryz.X f Y.ntmps β (QR β r) [.code c] env ⟨[],[],[]⟩) (G:Y.body=some c:=by exact rfl) (W:args.length<=Y.ntmps:=by exact Nat.le_of_ble_eq_true rfl) (V:RR 0 args=env:=by simp only[RR];try exact rfl):bh Tryz.prog Tryz.X f args r:=bh.of hf G P W env (by rw[<- V,Ob]) fun β _=>k β hf
theorem dq {p:Prop} (h:p:=by(repeat' (first|refine st ?_|(refine AK.CP rfl (fun h=>?_) (fun h=>?_)<;>first|(cases h;done)|rw[h]|skip)|refine AK.pJ rfl ?_ ?_|refine uQ hf rfl rfl ?_|refine AK.BP Tryz.hX hf rfl rfl rfl rfl ?_ (by with_reducible rfl)|refine AK.BP Tryz.hX hf rfl rfl rfl rfl ?_ ?_|refine AK.BQ Tryz.hX hf rfl rfl rfl rfl ?_ (by with_reducible rfl)|refine AK.BQ Tryz.hX hf rfl rfl rfl rfl ?_ ?_|refine uC rfl (by assumption) ?_|refine uI rfl _ rfl (by assumption) rfl ?_|refine uI rfl 0 rfl (by assumption) rfl ?_|refine uI rfl 1 rfl (by assumption) rfl ?_|refine uI rfl 0 rfl rfl rfl ?_|refine uI rfl 1 rfl rfl rfl ?_|refine uI rfl 2 rfl rfl rfl ?_|refine uI rfl 3 rfl rfl rfl ?_|refine lE ?_|(first|refine ai.quo Tryz.hX kn rfl rfl rfl rfl rfl rfl rfl ((by decide)) ?_|refine ai.rem Tryz.hX kn rfl rfl rfl rfl rfl rfl rfl ((by decide)) ?_)|(refine uA rfl ?_ ?_<;>(try (show(_:Nat)*_<=_;dsimp only)))|refine ai.toStr Tryz.hX kn rfl rfl rfl rfl rfl rfl rfl rfl rfl rfl rfl (by first|exact rfl|exact w8 _) rfl ?_|((first|refine ai.uF rfl rfl rfl ED (fun h=>?_)|refine ai.uG rfl rfl rfl ED (fun h=>?_)|refine ai.split rfl rfl rfl (fun h=>?_) (fun h=>?_))<;>(fail_if_success (cases h;done))<;>rw[h])))<;>rfl):p:=h
theorem dn {p q:Prop} (k:q) (h:q->p:=by intro k;(repeat' (first|refine st ?_|(refine AK.CP rfl (fun h=>?_) (fun h=>?_)<;>first|(cases h;done)|rw[h]|skip)|refine AK.pJ rfl ?_ ?_|refine uQ hf rfl rfl ?_|refine AK.BP Tryz.hX hf rfl rfl rfl rfl ?_ (by with_reducible rfl)|refine AK.BP Tryz.hX hf rfl rfl rfl rfl ?_ ?_|refine AK.BQ Tryz.hX hf rfl rfl rfl rfl ?_ (by with_reducible rfl)|refine AK.BQ Tryz.hX hf rfl rfl rfl rfl ?_ ?_|refine uC rfl (by assumption) ?_|refine uI rfl _ rfl (by assumption) rfl ?_|refine uI rfl 0 rfl (by assumption) rfl ?_|refine uI rfl 1 rfl (by assumption) rfl ?_|refine uI rfl 0 rfl rfl rfl ?_|refine uI rfl 1 rfl rfl rfl ?_|refine uI rfl 2 rfl rfl rfl ?_|refine uI rfl 3 rfl rfl rfl ?_|refine lE ?_|(first|refine ai.quo Tryz.hX kn rfl rfl rfl rfl rfl rfl rfl ((by decide)) ?_|refine ai.rem Tryz.hX kn rfl rfl rfl rfl rfl rfl rfl ((by decide)) ?_)|(refine uA rfl ?_ ?_<;>(try (show(_:Nat)*_<=_;dsimp only)))|refine ai.toStr Tryz.hX kn rfl rfl rfl rfl rfl rfl rfl rfl rfl rfl rfl (by first|exact rfl|exact w8 _) rfl ?_|((first|refine ai.uF rfl rfl rfl ED (fun h=>?_)|refine ai.uG rfl rfl rfl ED (fun h=>?_)|refine ai.split rfl rfl rfl (fun h=>?_) (fun h=>?_))<;>(fail_if_success (cases h;done))<;>rw[h])))<;>first|exact rfl|exact k):p:=h k
theorem dnw {p q:Prop} (k:q) (h:q->p:=by intro k;(repeat' (first|refine st ?_|(refine AK.CP rfl (fun h=>?_) (fun h=>?_)<;>first|(cases h;done)|rw[h]|skip)|refine AK.pJ rfl ?_ ?_|refine uW hf rfl rfl ?_|refine AK.BP Tryz.hX hf rfl rfl rfl rfl ?_ (by with_reducible rfl)|refine AK.BP Tryz.hX hf rfl rfl rfl rfl ?_ ?_|refine AK.BQ Tryz.hX hf rfl rfl rfl rfl ?_ (by with_reducible rfl)|refine AK.BQ Tryz.hX hf rfl rfl rfl rfl ?_ ?_|refine uC rfl (by assumption) ?_|refine uI rfl _ rfl (by assumption) rfl ?_|refine uI rfl 0 rfl (by assumption) rfl ?_|refine uI rfl 1 rfl (by assumption) rfl ?_|refine uI rfl 0 rfl rfl rfl ?_|refine uI rfl 1 rfl rfl rfl ?_|refine uI rfl 2 rfl rfl rfl ?_|refine uI rfl 3 rfl rfl rfl ?_|refine lE ?_|(first|refine ai.quo Tryz.hX kn rfl rfl rfl rfl rfl rfl rfl ((by decide)) ?_|refine ai.rem Tryz.hX kn rfl rfl rfl rfl rfl rfl rfl ((by decide)) ?_)|(refine uA rfl ?_ ?_<;>(try (show(_:Nat)*_<=_;dsimp only)))|refine ai.toStr Tryz.hX kn rfl rfl rfl rfl rfl rfl rfl rfl rfl rfl rfl (by first|exact rfl|exact w8 _) rfl ?_|((first|refine ai.uF rfl rfl rfl ED (fun h=>?_)|refine ai.uG rfl rfl rfl ED (fun h=>?_)|refine ai.split rfl rfl rfl (fun h=>?_) (fun h=>?_))<;>(fail_if_success (cases h;done))<;>rw[h])))<;>first|exact Wk.refl _|exact k):p:=h k
theorem dw {p:Prop} (h:p:=by(repeat' (first|refine st ?_|(refine AK.CP rfl (fun h=>?_) (fun h=>?_)<;>first|(cases h;done)|rw[h]|skip)|refine AK.pJ rfl ?_ ?_|refine uW hf rfl rfl ?_|refine AK.BP Tryz.hX hf rfl rfl rfl rfl ?_ (by with_reducible rfl)|refine AK.BP Tryz.hX hf rfl rfl rfl rfl ?_ ?_|refine AK.BQ Tryz.hX hf rfl rfl rfl rfl ?_ (by with_reducible rfl)|refine AK.BQ Tryz.hX hf rfl rfl rfl rfl ?_ ?_|refine uC rfl (by assumption) ?_|refine uI rfl _ rfl (by assumption) rfl ?_|refine uI rfl 0 rfl (by assumption) rfl ?_|refine uI rfl 1 rfl (by assumption) rfl ?_|refine uI rfl 0 rfl rfl rfl ?_|refine uI rfl 1 rfl rfl rfl ?_|refine uI rfl 2 rfl rfl rfl ?_|refine uI rfl 3 rfl rfl rfl ?_|refine lE ?_|(first|refine ai.quo Tryz.hX kn rfl rfl rfl rfl rfl rfl rfl ((by decide)) ?_|refine ai.rem Tryz.hX kn rfl rfl rfl rfl rfl rfl rfl ((by decide)) ?_)|(refine uA rfl ?_ ?_<;>(try (show(_:Nat)*_<=_;dsimp only)))|refine ai.toStr Tryz.hX kn rfl rfl rfl rfl rfl rfl rfl rfl rfl rfl rfl (by first|exact rfl|exact w8 _) rfl ?_|((first|refine ai.uF rfl rfl rfl ED (fun h=>?_)|refine ai.uG rfl rfl rfl ED (fun h=>?_)|refine ai.split rfl rfl rfl (fun h=>?_) (fun h=>?_))<;>(fail_if_success (cases h;done))<;>rw[h])))<;>(first|exact Wk.refl _|exact zQ rfl rfl|exact UZ|exact vT|exact abt|(show _<=_;simp only[aQ,az,aac,aad];omega))):p:=h
abbrev ag:=@bh Tryz.prog Tryz.X
abbrev EK:=@AK Tryz.prog Tryz.X
abbrev oH:=@ai Tryz.prog Tryz.X
abbrev fG:=@bt Tryz.prog Tryz.X
abbrev rV:=@dI Tryz.prog Tryz.X
abbrev og:=@dS Tryz.prog Tryz.X
end Go.Proofs
