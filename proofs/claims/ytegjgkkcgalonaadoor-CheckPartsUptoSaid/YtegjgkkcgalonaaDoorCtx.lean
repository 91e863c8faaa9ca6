/- The types of the program, held against it by the kernel. -/
import Derived.Test.YtegjgkkcgalonaaDoorLibD
import Derived.Test.YtegjgkkcgalonaaDoorProg
import Derived.KernelRfl
namespace Go.Proofs
open Go.Abs
def Tryd.table : List (Nat × TI) := [
  (1, ⟨1, 8, .other, none⟩),
  (2, ⟨1, 8, .int .i64, some (.c (.int .i64 0))⟩),
  (3, ⟨1, 8, .int .i64, some (.c (.int .i64 0))⟩),
  (4, ⟨1, 1, .bool, some (.c (.bool false))⟩),
  (5, ⟨1, 1, .int .u8, some (.c (.int .u8 0))⟩),
  (6, ⟨1, 1, .int .u8, some (.c (.int .u8 0))⟩),
  (7, ⟨4, 24, .struct [(0, 2), (1, 3), (2, 4), (3, 6)], some (.agg [.c (.int .i64 0), .c (.int .i64 0), .c (.bool false), .c (.int .u8 0)])⟩),
  (8, ⟨4, 24, .struct [(0, 2), (1, 3), (2, 4), (3, 6)], some (.agg [.c (.int .i64 0), .c (.int .i64 0), .c (.bool false), .c (.int .u8 0)])⟩),
  (9, ⟨1, 16, .str, some (.c (.str []))⟩),
  (10, ⟨1, 16, .str, some (.c (.str []))⟩),
  (11, ⟨1, 16, .str, some (.c (.str []))⟩),
  (12, ⟨1, 8, .int .u64, some (.c (.int .u64 0))⟩),
  (13, ⟨2, 24, .struct [(0, 9), (1, 12)], some (.agg [.c (.str []), .c (.int .u64 0)])⟩),
  (14, ⟨2, 24, .struct [(0, 9), (1, 12)], some (.agg [.c (.str []), .c (.int .u64 0)])⟩),
  (15, ⟨1, 8, .ptr 97, some (.c .nilp)⟩),
  (16, ⟨1, 8, .ptr 100, some (.c .nilp)⟩),
  (17, ⟨1, 8, .ptr 110, some (.c .nilp)⟩),
  (18, ⟨1, 8, .struct [(0, 17)], some (.agg [.c .nilp])⟩),
  (19, ⟨1, 8, .struct [(0, 17)], some (.agg [.c .nilp])⟩),
  (21, ⟨1, 4, .int .i32, some (.c (.int .i32 0))⟩),
  (22, ⟨1, 24, .slice 24, some (.own .exact 5 [])⟩),
  (23, ⟨5, 64, .struct [(0, 3), (1, 3), (2, 3), (3, 9), (4, 22)], some (.agg [.c (.int .i64 0), .c (.int .i64 0), .c (.int .i64 0), .c (.str []), .own .exact 5 []])⟩),
  (24, ⟨5, 64, .struct [(0, 3), (1, 3), (2, 3), (3, 9), (4, 22)], some (.agg [.c (.int .i64 0), .c (.int .i64 0), .c (.int .i64 0), .c (.str []), .own .exact 5 []])⟩),
  (25, ⟨1, 24, .slice 39, some (.own .exact 2 [])⟩),
  (26, ⟨2, 32, .struct [(0, 25), (1, 4)], some (.agg [.own .exact 2 [], .c (.bool false)])⟩),
  (27, ⟨2, 32, .struct [(0, 25), (1, 4)], some (.agg [.own .exact 2 [], .c (.bool false)])⟩),
  (28, ⟨1, 8, .int .i64, some (.c (.int .i64 0))⟩),
  (29, ⟨1, 0, .other, none⟩),
  (30, ⟨1, 8, .other, none⟩),
  (31, ⟨1, 8, .other, none⟩),
  (32, ⟨1, 8, .other, none⟩),
  (33, ⟨1, 8, .other, none⟩),
  (34, ⟨1, 8, .other, none⟩),
  (35, ⟨1, 8, .other, none⟩),
  (36, ⟨1, 8, .other, none⟩),
  (37, ⟨1, 8, .other, none⟩),
  (38, ⟨2, 32, .struct [(0, 3), (1, 25)], some (.agg [.c (.int .i64 0), .own .exact 2 []])⟩),
  (39, ⟨2, 32, .struct [(0, 3), (1, 25)], some (.agg [.c (.int .i64 0), .own .exact 2 []])⟩),
  (40, ⟨1, 8, .other, none⟩),
  (41, ⟨1, 8, .other, none⟩),
  (42, ⟨1, 8, .other, none⟩),
  (43, ⟨1, 8, .other, none⟩),
  (44, ⟨1, 8, .other, none⟩),
  (45, ⟨1, 8, .other, none⟩),
  (46, ⟨1, 8, .other, none⟩),
  (47, ⟨1, 8, .ptr 3, some (.c .nilp)⟩),
  (48, ⟨1, 8, .other, none⟩),
  (49, ⟨1, 8, .other, none⟩),
  (50, ⟨1, 8, .other, none⟩),
  (51, ⟨1, 0, .other, none⟩),
  (52, ⟨1, 8, .other, none⟩),
  (53, ⟨1, 8, .other, none⟩),
  (54, ⟨1, 8, .other, none⟩),
  (55, ⟨1, 8, .other, none⟩),
  (56, ⟨1, 0, .other, none⟩),
  (57, ⟨1, 8, .other, none⟩),
  (58, ⟨1, 24, .slice 60, some (.own .exact 7 [])⟩),
  (59, ⟨7, 112, .struct [(0, 3), (1, 3), (2, 3), (3, 9), (4, 58), (5, 25), (6, 22)], some (.agg [.c (.int .i64 0), .c (.int .i64 0), .c (.int .i64 0), .c (.str []), .own .exact 7 [], .own .exact 2 [], .own .exact 5 []])⟩),
  (60, ⟨7, 112, .struct [(0, 3), (1, 3), (2, 3), (3, 9), (4, 58), (5, 25), (6, 22)], some (.agg [.c (.int .i64 0), .c (.int .i64 0), .c (.int .i64 0), .c (.str []), .own .exact 7 [], .own .exact 2 [], .own .exact 5 []])⟩),
  (61, ⟨1, 0, .other, none⟩),
  (62, ⟨1, 8, .other, none⟩),
  (63, ⟨1, 8, .other, none⟩),
  (64, ⟨1, 8, .other, none⟩),
  (65, ⟨1, 8, .other, none⟩),
  (66, ⟨1, 8, .other, none⟩),
  (67, ⟨1, 0, .other, none⟩),
  (68, ⟨1, 8, .other, none⟩),
  (69, ⟨1, 8, .other, none⟩),
  (70, ⟨1, 8, .other, none⟩),
  (71, ⟨1, 0, .other, none⟩),
  (72, ⟨1, 8, .other, none⟩),
  (73, ⟨1, 8, .other, none⟩),
  (74, ⟨1, 8, .other, none⟩),
  (75, ⟨1, 8, .other, none⟩),
  (76, ⟨1, 8, .other, none⟩),
  (77, ⟨1, 8, .other, none⟩),
  (78, ⟨1, 8, .other, none⟩),
  (79, ⟨1, 8, .other, none⟩),
  (80, ⟨1, 8, .other, none⟩),
  (81, ⟨1, 0, .other, none⟩),
  (82, ⟨1, 8, .other, none⟩),
  (83, ⟨1, 8, .other, none⟩),
  (84, ⟨1, 8, .other, none⟩),
  (85, ⟨1, 8, .other, none⟩),
  (86, ⟨1, 24, .slice 3, some (.own .exact 1 [])⟩),
  (87, ⟨1, 8, .other, none⟩),
  (88, ⟨1, 8, .other, none⟩),
  (89, ⟨1, 8, .other, none⟩),
  (90, ⟨1, 8, .other, none⟩),
  (91, ⟨1, 8, .other, none⟩),
  (92, ⟨1, 8, .other, none⟩),
  (93, ⟨1, 8, .other, none⟩),
  (94, ⟨1, 8, .other, none⟩),
  (95, ⟨1, 8, .other, none⟩),
  (96, ⟨4, 40, .struct [(0, 17), (1, 17), (2, 17), (3, 9)], some (.agg [.c .nilp, .c .nilp, .c .nilp, .c (.str [])])⟩),
  (97, ⟨4, 40, .struct [(0, 17), (1, 17), (2, 17), (3, 9)], some (.agg [.c .nilp, .c .nilp, .c .nilp, .c (.str [])])⟩),
  (101, ⟨1, 8, .other, none⟩),
  (102, ⟨1, 4, .int .u32, some (.c (.int .u32 0))⟩),
  (103, ⟨1, 1, .int .u8, some (.c (.int .u8 0))⟩),
  (104, ⟨1, 1, .int .u8, some (.c (.int .u8 0))⟩),
  (105, ⟨1, 8, .other, none⟩),
  (106, ⟨1, 8, .ptr 5, some (.c .nilp)⟩),
  (107, ⟨1, 4, .int .i32, some (.c (.int .i32 0))⟩),
  (108, ⟨1, 4, .int .i32, some (.c (.int .i32 0))⟩),
  (109, ⟨11, 48, .struct [(0, 12), (1, 12), (2, 102), (3, 103), (4, 5), (5, 5), (6, 104), (7, 105), (8, 106), (9, 107), (10, 108)], none⟩),
  (110, ⟨11, 48, .struct [(0, 12), (1, 12), (2, 102), (3, 103), (4, 5), (5, 5), (6, 104), (7, 105), (8, 106), (9, 107), (10, 108)], none⟩)]


def Tryd.X : Ctx := ⟨fun t => getK t Tryd.table, fun n => getK n [(0, .ip [.any, .any])]⟩
theorem Tryd.table_ok : Tryd.table.all (fun p => tiOk Tryd.prog p.1 p.2) = true := by kernel_rfl
theorem Tryd.hX : CtxOk Tryd.prog Tryd.X := ctxOk_of rfl Tryd.table_ok
theorem Tryd.mixed : Tryd.prog.follows .mixedOrders = true := by kernel_rfl
theorem uS {ops : Array Oper} {rest rest' : List Oper} {σ : St} {env env' : Env} {acc acc' : List Fp} {Q : Env → St → List Fp → Prop} (h : arunP Tryd.X ops.toList σ.boxes kn (runLenP rest) rest env acc = .at rest' env' acc') (k : AOps Tryd.prog Tryd.X ops rest' env' σ acc' Q) : AOps Tryd.prog Tryd.X ops rest env σ acc Q := AOps.runS Tryd.hX kn h k
theorem uOne {ops : Array Oper} {o : Oper} {rest rest' : List Oper} {σ : St} {env env' : Env} {acc acc' : List Fp} {Q : Env → St → List Fp → Prop} (hs : simple o.op = true) (h : arunP Tryd.X ops.toList σ.boxes kn 0 (o :: rest) env acc = .at rest' env' acc') (k : AOps Tryd.prog Tryd.X ops rest' env' σ acc' Q) : AOps Tryd.prog Tryd.X ops (o :: rest) env σ acc Q := AOps.runP1 Tryd.hX kn hs h k
theorem uB {ops : Array Oper} {o : Oper} {rest : List Oper} {env env' : Env} {acc : List Fp} {Q : Env → St → List Fp → Prop} {bs bs' : List (Nat × List AV)} {ts : List (Nat × Nat)} {us us' : List Nat} {fp : Fp} (h : stepB Tryd.X ops.toList o env bs us = .ok env' bs' us' fp) (k : AOps Tryd.prog Tryd.X ops rest env' ⟨bs', ts, us'⟩ (fp :: acc) Q) : AOps Tryd.prog Tryd.X ops (o :: rest) env ⟨bs, ts, us⟩ acc Q := AOps.stepB Tryd.hX h k
theorem uA {ops : Array Oper} {o : Oper} {rest : List Oper} {env : Env} {acc : List Fp} {Q : Env → St → List Fp → Prop} {bs : List (Nat × List AV)} {ts ts' : List (Nat × Nat)} {us : List Nat} {d key n sz b : Nat} {rows rows1 : List CV} (h : stepA Tryd.X ops.toList o env ts us = some (d, key, n, sz, rows, rows1, b, ts')) (hb : (rows.length + rows1.length) * b ≤ 140737488355328) (k : AOps Tryd.prog Tryd.X ops rest ((d, .own (.tok key n) sz (rows ++ rows1)) :: env) ⟨bs, ts', key :: us⟩ (⟨[], [key]⟩ :: acc) Q) : AOps Tryd.prog Tryd.X ops (o :: rest) env ⟨bs, ts, us⟩ acc Q := AOps.stepA Tryd.hX h hb k
theorem uC {ops : Array Oper} {o : Oper} {rest : List Oper} {σ : St} {env : Env} {acc : List Fp} {Q : Env → St → List Fp → Prop} {d : Nat} {f : FuncId} {cvs : List CV} {r : CV} (h : stepC Tryd.X ops.toList o env = some (d, f, cvs)) (hq : QCalls Tryd.prog Tryd.X f cvs r) (k : AOps Tryd.prog Tryd.X ops rest ((d, .c r) :: env) σ (⟨[], []⟩ :: acc) Q) : AOps Tryd.prog Tryd.X ops (o :: rest) env σ acc Q := AOps.stepC h hq k
theorem uI {ops : Array Oper} {o : Oper} {rest : List Oper} {σ : St} {env : Env} {acc : List Fp} {Q : Env → St → List Fp → Prop} {d : Nat} {rows : List CV} {z : Int} (h : stepI Tryd.X ops.toList o env = some (d, rows, z)) (m : Nat) (hm : z = m) {r : CV} (hrow : rows[m]? = some r) {cs : List CV} (hcs : r.cells = cs) (k : AOps Tryd.prog Tryd.X ops rest ((d, .c (.ip cs)) :: env) σ (⟨[], []⟩ :: acc) Q) : AOps Tryd.prog Tryd.X ops (o :: rest) env σ acc Q := AOps.stepI Tryd.hX h m hm hrow hcs k
theorem uP {f : FuncId} {n : Nat} {β : Base} {R : Ending → World → Prop} {σ : St} {K K' : List Item} {env env' : Env} (h : akrunP Tryd.X n σ.boxes 300 K env = .at K' env') (k : AK Tryd.prog Tryd.X f n β R K' env' σ) : AK Tryd.prog Tryd.X f n β R K env σ := AK.runP Tryd.hX Tryd.mixed 300 h k
theorem uR {f : FuncId} {n : Nat} {β : Base} {R : Ending → World → Prop} {σ : St} {K : List Item} {env : Env} {id : Nat} {ops : Array Oper} {draw : Bool} (hd : dstsOk ops n = true) (h : AOps Tryd.prog Tryd.X ops ops.toList env σ [] (fun env' σ' fps => (draw = true → okDraw ops fps = true) ∧ AK Tryd.prog Tryd.X f n β R K env' σ')) : AK Tryd.prog Tryd.X f n β R (.code (.region id ops draw) :: K) env σ := AK.region Tryd.mixed hd h
theorem uQ {f : FuncId} {n : Nat} {β : Base} {K : List Item} {env : Env} {σ : St} {fn : Func} (hf : Tryd.prog.funcs[f]? = some fn) {r : AV} {cv cv' : CV} (hr : aresult Tryd.X σ.boxes env fn.results.toList = some r) (hc : close r = some cv) (he : cv = cv') : AK Tryd.prog Tryd.X f n β (QR β cv') (.code .ret :: K) env σ := AK.retQ Tryd.hX hf hr hc he
theorem uW {f : FuncId} {n : Nat} {β : Base} {K : List Item} {env : Env} {σ : St} {fn : Func} (hf : Tryd.prog.funcs[f]? = some fn) {r : AV} {cv cv' : CV} (hr : aresult Tryd.X σ.boxes env fn.results.toList = some r) (hc : close r = some cv) (he : Wk cv cv') : AK Tryd.prog Tryd.X f n β (QR β cv') (.code .ret :: K) env σ := AK.retW Tryd.hX hf hr hc he
theorem asm {c b : Bool} (h : c = b := by first | with_reducible assumption | (simp only [cond_true, cond_false, Bool.not_true, Bool.not_false, bne_self_eq_false, Int.reduceBNe, Int.reduceBEq]; first | done | with_reducible assumption)) : c = b := h
theorem asmo {c b : Bool} (h : c = b := by first | with_reducible assumption | (simp only [cond_true, cond_false, Bool.not_true, Bool.not_false, bne_self_eq_false, Int.reduceBNe, Int.reduceBEq]; with_reducible assumption)) : c = b := h
theorem st {p q : Prop} (k : q) (h : q → p := by first | exact fun k => uP rfl k | exact fun k => AK.condTe rfl asm k | exact fun k => AK.condFe rfl asm k | exact fun k => uR rfl k | exact fun k => AOps.done k | exact fun k => uS rfl k | exact fun k => uB rfl k | exact fun k => uOne rfl rfl k | exact fun k => AOps.drawn (by kernel_rfl) k) : p := h k
theorem sto {p q : Prop} (k : q) (h : q → p := by first | exact fun k => uP rfl k | exact fun k => AK.condTe rfl asmo k | exact fun k => AK.condFe rfl asmo k | exact fun k => uR rfl k | exact fun k => AOps.done k | exact fun k => uS rfl k | exact fun k => uB rfl k | exact fun k => uOne rfl rfl k | exact fun k => AOps.drawn (by kernel_rfl) k) : p := h k
theorem so {p q : Prop} (k : q) (h : q → p := by first | exact fun k => AOps.done k | exact fun k => uS rfl k | exact fun k => uB rfl k | exact fun k => uOne rfl rfl k | exact fun k => AOps.drawn (by kernel_rfl) k) : p := h k
theorem dq {p : Prop} (h : p := by (repeat' (first | refine st ?_ | (refine AK.condS rfl (fun h => ?_) (fun h => ?_) <;> first | (cases h; done) | rw [h] | skip) | refine AK.condU rfl ?_ ?_ | refine uQ hf rfl rfl ?_ | refine AK.retE Tryd.hX hf rfl rfl rfl rfl ?_ (by with_reducible rfl) | refine AK.retE Tryd.hX hf rfl rfl rfl rfl ?_ ?_ | refine AK.endE Tryd.hX hf rfl rfl rfl rfl ?_ (by with_reducible rfl) | refine AK.endE Tryd.hX hf rfl rfl rfl rfl ?_ ?_ | refine uC rfl (by assumption) ?_ | refine uI rfl _ rfl (by assumption) rfl ?_ | refine uI rfl 0 rfl (by assumption) rfl ?_ | refine uI rfl 1 rfl (by assumption) rfl ?_ | (first | refine AOps.quo Tryd.hX kn rfl rfl rfl rfl rfl rfl rfl ((by decide)) ?_ | refine AOps.rem Tryd.hX kn rfl rfl rfl rfl rfl rfl rfl ((by decide)) ?_) | (refine uA rfl ?_ ?_ <;> (try (show (_ : Nat) * _ ≤ _; dsimp only))) | refine AOps.toStr Tryd.hX kn rfl rfl rfl rfl rfl rfl rfl rfl rfl rfl rfl (by first | exact rfl | exact byte1 _) rfl ?_ | ((first | refine AOps.splitT rfl rfl rfl asm (fun h => ?_) | refine AOps.splitF rfl rfl rfl asm (fun h => ?_) | refine AOps.split rfl rfl rfl (fun h => ?_) (fun h => ?_)) <;> (fail_if_success (cases h; done)) <;> rw [h]))) <;> rfl) : p := h

end Go.Proofs
