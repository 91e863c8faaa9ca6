/- Package value's node and parse as plain functions; what tells a value is read as it, and the other way round. -/
import Derived.Test.YtcinhjfonmjneaaVRef
set_option linter.unusedVariables false
set_option linter.unusedSimpArgs false
namespace Go.Abs

mutual
/-- node -/
def vNode : Vl → Nd
  | .mk k n _ s args _ _ =>
    if k = 1 then .mk 2 0 20 [] []
    else if k = 2 then .mk 2 0 (22 - n) [] []
    else if k = 6 then .mk 1 0 0 s []
    else if k = 9 then .mk 2 0 (27 - args.length) [] (vNodes args)
    else if k = 10 then .mk 3 0 0 [] (vNodes args)
    else if k = 11 then .mk 2 0 23 [] (vNodes args)
    else if k = 12 then .mk 2 0 (24 + n) [] (vNodes args)
    else if k = 13 then .mk 3 0 0 [] (vElts args)
    else .mk 0 n 0 [] []
def vNodes : List Vl → List Nd
  | [] => []
  | x :: l => vNode x :: vNodes l
def vElts : List Vl → List Nd
  | [] => []
  | .mk _ _ _ _ args _ _ :: l => .mk 2 0 28 [] (vNodes args) :: vElts l
end
/-- What row answers, behind what it has. -/
def glue (acc : List Vl) : List Vl × Bool → List Vl × Bool
  | (q, true) => (acc ++ q, true)
  | (_, false) => ([], false)
def val0 (T : Int) : Vl := .mk T 0 0 [] [] [] []
mutual
/-- parse -/
def vPar : Nd → Ty → Vl × Bool
  | .mk kind N P S args, t =>
    if tyT t = 1 then (val0 1, decide (kind = 2 ∧ P = 20 ∧ args.length = 0))
    else if tyT t = 2 then (.mk 2 (IntKind.i64.wrap (22 - P)) 0 [] [] [] [], decide (kind = 2 ∧ (P = 21 ∨ P = 22) ∧ args.length = 0))
    else if tyT t = 3 ∨ tyT t = 4 ∨ tyT t = 5 ∨ tyT t = 7 then (.mk (tyT t) N 0 [] [] [] [], decide (kind = 0))
    else if tyT t = 6 then (.mk 6 0 0 S [] [] [], decide (kind = 1))
    else if tyT t = 9 then
      if kind = 2 ∧ P = 27 then (val0 9, decide (args.length = 0))
      else if kind = 2 ∧ P = 26 then (.mk 9 0 0 [] (vRow args (tyArgs t)).1 [] [], (vRow args (tyArgs t)).2)
      else (val0 9, false)
    else if tyT t = 11 then
      if kind = 2 ∧ P = 23 then (.mk 11 0 0 [] (vRow args (tyArgs t)).1 [] [], (vRow args (tyArgs t)).2)
      else (val0 11, false)
    else if tyT t = 12 then
      if kind = 2 ∧ P = 24 then (.mk 12 0 0 [] (vRow args [tyArg t 0]).1 [] [], (vRow args [tyArg t 0]).2)
      else if kind = 2 ∧ P = 25 then (.mk 12 1 0 [] (vRow args [tyArg t 1]).1 [] [], (vRow args [tyArg t 1]).2)
      else (val0 12, false)
    else if tyT t = 10 then (.mk 10 0 0 [] (vParAll args (tyArg t 0)).1 [] [], decide (kind = 3) && (vParAll args (tyArg t 0)).2)
    else if tyT t = 13 then (.mk 13 0 0 [] (vParMap args (tyArgs t)).1 [] [], decide (kind = 3) && (vParMap args (tyArgs t)).2)
    else (val0 (tyT t), false)
def vRow : List Nd → List Ty → List Vl × Bool
  | [], [] => ([], true)
  | x :: l, t :: r => if (vPar x t).2 = true then glue [(vPar x t).1] (vRow l r) else ([], false)
  | [], _ :: _ => ([], false)
  | _ :: _, [] => ([], false)
def vParAll : List Nd → Ty → List Vl × Bool
  | [], _ => ([], true)
  | x :: l, t => ((vPar x t).1 :: (vParAll l t).1, (vPar x t).2 && (vParAll l t).2)
def vParMap : List Nd → List Ty → List Vl × Bool
  | [], _ => ([], true)
  | .mk kind _ P _ xs :: l, ts => (.mk 11 0 0 [] (vRow xs ts).1 [] [] :: (vParMap l ts).1, ((vRow xs ts).2 && decide (kind = 2 ∧ P = 28)) && (vParMap l ts).2)
end

-- sizes
mutual
theorem vNode_size : ∀ (v : Vl), ndSize (vNode v) ≤ vlSize v
  | .mk k n a s args types code => by
    have h1 := vNodes_size args
    have h2 := vElts_size args
    simp only [vNode, vlSize]
    repeat' split
    all_goals simp only [ndSize, ndsSize, List.length_nil]; omega
theorem vNodes_size : ∀ (l : List Vl), ndsSize (vNodes l) ≤ vlsSize l
  | [] => by simp [vNodes, ndsSize, vlsSize]
  | x :: l => by
    have h1 := vNode_size x
    have h2 := vNodes_size l
    simp only [vNodes, ndsSize, vlsSize]; omega
theorem vElts_size : ∀ (l : List Vl), ndsSize (vElts l) ≤ vlsSize l
  | [] => by simp [vElts, ndsSize, vlsSize]
  | .mk k n a s args types code :: l => by
    have h1 := vNodes_size args
    have h2 := vElts_size l
    simp only [vElts, ndsSize, ndSize, vlsSize, vlSize, List.length_nil]; omega
end
-- what the plain parts of a value of a type are
theorem vHas_body {k n a : Int} {s : List UInt8} {args : List Vl} {types : List Ty} {code : List Nd} {t : Ty} (h : vHas (.mk k n a s args types code) t = true) : vBody k n a args types t = true := by
  rw [vHas_eq] at h; simp only [Bool.and_eq_true] at h; exact h.2.2.2
theorem row_two {l : List Vl} {ts : List Ty} (h1 : l.length = 2) (h2 : ts.length = 2) (h : vHasRow l ts = true) : ∃ x y u w, l = [x, y] ∧ ts = [u, w] ∧ vHas x u = true ∧ vHas y w = true := by
  match l, ts, h1, h2 with
  | [x, y], [u, w], _, _ =>
    simp only [vHasRow, Bool.and_eq_true] at h
    exact ⟨x, y, u, w, rfl, rfl, h.1, h.2.1⟩
-- what tells a value is read as it
end Go.Abs
namespace Go.Abs
-- what is read as a value of a type is just what tells it
/-- Parse -/
def tPar (t : Ty) (n : Nd) : Vl × Int := if tGood t = true ∧ tGoodN n = 0 ∧ (vPar n t).2 = true ∧ vHas (vPar n t).1 t = true then ((vPar n t).1, 0) else (vl0, 1)
/-- Node -/
def tVNode (t : Ty) (v : Vl) : Nd × Int := if tHas t v = true ∧ tPack t = true then (if tGoodN (vNode v) = 0 then (vNode v, 0) else (nd0, tGoodN (vNode v))) else (nd0, 5)
/-- Told -/
def tTold (v : Vl) : List UInt8 × Int := if tGoodN (vNode v) = 0 then (if 200 ≤ (bytesN (vNode v)).length then ([], 4) else (5 :: bytesN (vNode v), 0)) else ([], tGoodN (vNode v))
/-- Pack -/
def tVPack (t : Ty) (v : Vl) : List UInt8 × Int := if tHas t v = true ∧ tPack t = true then tTold v else ([], 5)
/-- Unpack -/
def tUnpack (t : Ty) (s : List UInt8) : Vl × Int := match s with
  | [] => (vl0, 1)
  | c :: r => if c = 5 ∧ (c :: r).length ≤ 200 ∧ tPack t = true ∧ (tDecode r).2 = 0 then tPar t (tDecode r).1 else (vl0, 1)
end Go.Abs
