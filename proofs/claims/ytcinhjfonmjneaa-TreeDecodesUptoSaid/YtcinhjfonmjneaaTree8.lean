/- What readNode and DecodeNode of touchstoneref answer; the law TreeDecodes. -/
-- WIDE
import Derived.Test.YtcinhjfonmjneaaNumOf
import Derived.Test.YtcinhjfonmjneaaTreeLaw
import Derived.Test.YtcinhjfonmjneaaKind10
set_option linter.unusedVariables false
set_option linter.unusedSimpArgs false
namespace Go.Proofs
open Go.Abs

/-- What readNode of the reference answers. -/
def rdTup (left : Nat) : Rd Nd → CV
  | .no e => .tup [encNd nd0, .str [], .int .i64 0, .int .i64 e]
  | .ok n r l => .tup [encNd n, .str r, .int .i64 ((left : Int) - l), .int .i64 0]
/-- Some nodes ahead of what is read. -/
def rdCat (acc : List Nd) : Rd (List Nd) → Rd (List Nd)
  | .no e => .no e
  | .ok l s left => .ok (acc ++ l) s left
theorem rdCat_nil (x : Rd (List Nd)) : rdCat [] x = x := by cases x <;> rfl
theorem rdCat_no (f : List UInt8 → Nat → Rd Nd) (acc : List Nd) (k : Nat) (s : List UInt8) (left : Nat) (e : Int) (h : f s left = .no e) : rdCat acc (rdRow f (k + 1) s left) = .no e := by simp only [rdRow, h, rdCat]
theorem rdCat_ok (f : List UInt8 → Nat → Rd Nd) (acc : List Nd) (k : Nat) (s : List UInt8) (left : Nat) (x : Nd) (s' : List UInt8) (left' : Nat) (h : f s left = .ok x s' left') : rdCat acc (rdRow f (k + 1) s left) = rdCat (acc ++ [x]) (rdRow f k s' left') := by
  simp only [rdRow, h]
  cases rdRow f k s' left' <;> simp [rdCat]
theorem rdCat_end (f : List UInt8 → Nat → Rd Nd) (acc : List Nd) (s : List UInt8) (left : Nat) : rdCat acc (rdRow f 0 s left) = .ok acc s left := by simp [rdRow, rdCat]
theorem rd_le : ∀ (g : Nat) (s : List UInt8) (left : Nat) (n : Nd) (r : List UInt8) (left' : Nat), g ≤ 24 → left ≤ 300 → rdNode g s left = .ok n r left' → left' ≤ left ∧ r.length ≤ s.length := by
  intro g s left n r left' hg hl h
  have h1 := rdNode_ok g s left n r left' hg h
  refine ⟨?_, by rw [h1.1]; simp⟩
  omega
theorem rd_lt : ∀ (g : Nat) (s : List UInt8) (left : Nat) (n : Nd) (r : List UInt8) (left' : Nat), g ≤ 24 → left ≤ 300 → rdNode g s left = .ok n r left' → left' < left ∧ r.length ≤ s.length := by
  intro g s left n r left' hg hl h
  have h1 := rdNode_ok g s left n r left' hg h
  refine ⟨?_, by rw [h1.1]; simp⟩
  have : 1 ≤ many n := by cases n; simp [many]
  omega
theorem rd_err : ∀ (g : Nat) (s : List UInt8) (left : Nat) (e : Int), g ≤ 24 → left ≤ 300 → rdNode g s left = .no e → e ≠ 0 := by
  intro g s left e hg hl h
  rcases rdNode_no g s left e hg hl h with h | h <;> omega
theorem node_zero (s : List UInt8) (left : Nat) : rdNode 0 s left = .no 4 := rfl
theorem node_left (g : Nat) (s : List UInt8) : rdNode (g + 1) s 0 = .no 4 := rfl
theorem node_nil (g : Nat) (left : Nat) (h : left ≠ 0) : rdNode (g + 1) [] left = .no 1 := by simp only [rdNode, if_neg h]
theorem node_cons (g : Nat) (c : UInt8) (s : List UInt8) (left : Nat) (h : left ≠ 0) : rdNode (g + 1) (c :: s) left = rdBody (rdNode g) c.toNat s (left - 1) := by simp only [rdNode, if_neg h]
theorem rbody_no (f : List UInt8 → Nat → Rd Nd) (c : Nat) (s : List UInt8) (left : Nat) (h : c > 3) : rdBody f c s left = .no 1 := by
  simp only [rdBody]; rw [if_neg (by omega), if_neg (by omega), if_neg (by omega), if_neg (by omega)]
theorem rbody0_no (f : List UInt8 → Nat → Rd Nd) (s : List UInt8) (left : Nat) (h : takeNum s = none) : rdBody f 0 s left = .no 1 := by simp [rdBody, h]
theorem rbody0 (f : List UInt8 → Nat → Rd Nd) (s : List UInt8) (left : Nat) (n : Int) (r : List UInt8) (h : takeNum s = some (n, r)) : rdBody f 0 s left = .ok (.mk 0 n 0 [] []) r left := by simp [rdBody, h]
theorem rbody1_no (f : List UInt8 → Nat → Rd Nd) (s : List UInt8) (left : Nat) (h : takeNum s = none) : rdBody f 1 s left = .no 1 := by simp [rdBody, h]
theorem rbody1_bad (f : List UInt8 → Nat → Rd Nd) (s : List UInt8) (left : Nat) (n : Int) (r : List UInt8) (h : takeNum s = some (n, r)) (hb : n < 0 ∨ n > 200 ∨ n > r.length) : rdBody f 1 s left = .no 1 := by
  simp only [rdBody, h, if_pos hb]; simp
theorem rbody1 (f : List UInt8 → Nat → Rd Nd) (s : List UInt8) (left : Nat) (n : Int) (r : List UInt8) (h : takeNum s = some (n, r)) (hb : ¬ (n < 0 ∨ n > 200 ∨ n > r.length)) : rdBody f 1 s left = .ok (.mk 1 0 0 (r.take n.toNat) []) (r.drop n.toNat) left := by
  simp only [rdBody, h, if_neg hb]; simp
theorem rbody2_nil (f : List UInt8 → Nat → Rd Nd) (left : Nat) : rdBody f 2 [] left = .no 1 := by simp [rdBody]
theorem rbody2_bad (f : List UInt8 → Nat → Rd Nd) (p : UInt8) (s : List UInt8) (left : Nat) (h : primP p.toNat = false) : rdBody f 2 (p :: s) left = .no 1 := by simp [rdBody, h]
theorem rbody2 (f : List UInt8 → Nat → Rd Nd) (p : UInt8) (s : List UInt8) (left : Nat) (h : primP p.toNat = true) : rdBody f 2 (p :: s) left = rdArgs f 2 p.toNat s left := by simp [rdBody, h]
theorem rbody3 (f : List UInt8 → Nat → Rd Nd) (s : List UInt8) (left : Nat) : rdBody f 3 s left = rdArgs f 3 0 s left := by simp [rdBody]
theorem rargs_no (f : List UInt8 → Nat → Rd Nd) (kind p : Int) (s : List UInt8) (left : Nat) (h : takeNum s = none) : rdArgs f kind p s left = .no 1 := by simp [rdArgs, h]
theorem rargs_neg (f : List UInt8 → Nat → Rd Nd) (kind p : Int) (s : List UInt8) (left : Nat) (n : Int) (r : List UInt8) (h : takeNum s = some (n, r)) (hn : n < 0) : rdArgs f kind p s left = .no 1 := by simp only [rdArgs, h, if_pos hn]
theorem rargs_no2 (f : List UInt8 → Nat → Rd Nd) (kind p : Int) (s : List UInt8) (left : Nat) (m : Nat) (r : List UInt8) (e : Int) (h : takeNum s = some ((m : Int), r)) (hr : rdRow f m r left = .no e) : rdArgs f kind p s left = .no e := by
  simp only [rdArgs, h, if_neg (show ¬ (m : Int) < 0 by omega), Int.toNat_natCast, hr]
theorem rargs_ok (f : List UInt8 → Nat → Rd Nd) (kind p : Int) (s : List UInt8) (left : Nat) (m : Nat) (r : List UInt8) (l : List Nd) (s2 : List UInt8) (l2 : Nat) (h : takeNum s = some ((m : Int), r)) (hr : rdRow f m r left = .ok l s2 l2) : rdArgs f kind p s left = .ok (.mk kind 0 p [] l) s2 l2 := by
  simp only [rdArgs, h, if_neg (show ¬ (m : Int) < 0 by omega), Int.toNat_natCast, hr]
/-- Likewise, by its row. -/
def rowTup (left : Nat) (kind p : Int) : Rd (List Nd) → CV
  | .no e => .tup [encNd nd0, .str [], .int .i64 0, .int .i64 e]
  | .ok l s left' => .tup [encNd (.mk kind 0 p [] l), .str s, .int .i64 ((left : Int) - left'), .int .i64 0]
theorem rowTup_eq (left : Nat) (f : List UInt8 → Nat → Rd Nd) (kind p : Int) (s : List UInt8) (l : Nat) (m : Nat) (r : List UInt8) (h : takeNum s = some ((m : Int), r)) : rdTup left (rdArgs f kind p s l) = rowTup left kind p (rdRow f m r l) := by
  cases hr : rdRow f m r l with
  | no e => rw [rargs_no2 f kind p s l m r e h hr]; rfl
  | ok q s2 l2 => rw [rargs_ok f kind p s l m r q s2 l2 h hr]; rfl
theorem drop_len (p r s : List UInt8) (h : s = p ++ r) : (s.take s.length).drop p.length = r := by rw [List.take_length, h, List.drop_left]
attribute [local irreducible] AK AOps QCalls ECalls numB nOf rdNode rdBody rdArgs rdRow primP takeNum

theorem readNode1_calls (e : Int) : QCalls Try.prog Try.X 134 [.int .i64 e] (.tup [encNd nd0, .str [], .int .i64 0, .int .i64 e]) := by
  refine QCalls.of Try.func134 rfl (fun args w => Try.call134 args w) (Nat.le_of_ble_eq_true rfl) [(0, .c (.int .i64 e))] rfl fun β hβ => ?_; have hf := Try.func134
  repeat' (first | refine AK.runP Try.hX Try.mixed 300 rfl ?_ | refine AK.condTe rfl asm ?_ | refine AK.condFe rfl asm ?_ | (refine AK.condS rfl (fun h => ?_) (fun h => ?_) <;> first | (cases h; done) | rw [h] | skip) | refine AK.retQ Try.hX hf rfl rfl ?_ | refine AK.region Try.mixed rfl ?_ | refine AOps.done ?_ | refine AOps.runS Try.hX kn rfl ?_ | refine AOps.box kn rfl rfl rfl rfl rfl rfl ?_ | refine AOps.alloc Try.hX kn rfl rfl rfl rfl rfl rfl rfl ?_ | refine AOps.store Try.hX kn rfl rfl rfl rfl rfl rfl rfl rfl rfl rfl rfl ?_ | refine AOps.buildSlice Try.hX kn rfl rfl rfl rfl rfl rfl rfl rfl rfl rfl rfl rfl ?_ | refine AOps.append Try.hX kn rfl rfl rfl rfl rfl rfl rfl rfl rfl rfl rfl rfl rfl rfl rfl rfl rfl rfl rfl rfl rfl ?_ ?_ | refine AOps.toStr Try.hX kn rfl rfl rfl rfl rfl rfl rfl rfl rfl rfl rfl (by first | exact rfl | exact byte1 _) rfl ?_ | refine AOps.buildArr Try.hX kn rfl rfl rfl rfl rfl rfl rfl rfl ?_ | refine AOps.indexArr Try.hX kn rfl rfl rfl rfl rfl rfl rfl rfl rfl rfl rfl rfl ?_ | refine AOps.runP1 Try.hX kn rfl rfl ?_ | (refine AOps.splitT rfl rfl rfl asm (fun h => ?_) <;> (fail_if_success (cases h; done)) <;> rw [h]) | (refine AOps.splitF rfl rfl rfl asm (fun h => ?_) <;> (fail_if_success (cases h; done)) <;> rw [h]) | (refine AOps.split rfl rfl rfl (fun h => ?_) (fun h => ?_) <;> (fail_if_success (cases h; done)) <;> rw [h]) | refine AOps.drawn (by kernel_rfl) ?_)
  all_goals rfl

set_option maxHeartbeats 0 in
theorem readNode_calls : ∀ (g : Nat) (s : List UInt8) (left : Nat), g ≤ 24 → left ≤ 300 → s.length ≤ 1048577 → QCalls Try.prog Try.X 110 [.str s, .int .i64 g, .int .i64 left] (rdTup left (rdNode g s left))
  | 0, s, left, hg, hl, hs => by
    rw [node_zero]
    have n4 := readNode1_calls 4
    refine QCalls.of Try.func110 rfl (fun args w => Try.call110 args w) (Nat.le_of_ble_eq_true rfl) [(0, .c (.str s)), (1, .c (.int .i64 (0 : Nat))), (2, .c (.int .i64 left))] rfl fun β hβ => ?_; have hf := Try.func110
    repeat' (first | refine AK.runP Try.hX Try.mixed 300 rfl ?_ | refine AK.condTe rfl asm ?_ | refine AK.condFe rfl asm ?_ | (refine AK.condS rfl (fun h => ?_) (fun h => ?_) <;> first | (cases h; done) | rw [h] | skip) | refine AK.retQ Try.hX hf rfl rfl ?_ | refine AK.region Try.mixed rfl ?_ | refine AOps.done ?_ | refine AOps.runS Try.hX kn rfl ?_ | refine AOps.callc kn rfl rfl rfl rfl rfl (n4) ?_ | refine AOps.box kn rfl rfl rfl rfl rfl rfl ?_ | refine AOps.alloc Try.hX kn rfl rfl rfl rfl rfl rfl rfl ?_ | refine AOps.store Try.hX kn rfl rfl rfl rfl rfl rfl rfl rfl rfl rfl rfl ?_ | refine AOps.buildSlice Try.hX kn rfl rfl rfl rfl rfl rfl rfl rfl rfl rfl rfl rfl ?_ | refine AOps.append Try.hX kn rfl rfl rfl rfl rfl rfl rfl rfl rfl rfl rfl rfl rfl rfl rfl rfl rfl rfl rfl rfl rfl ?_ ?_ | refine AOps.toStr Try.hX kn rfl rfl rfl rfl rfl rfl rfl rfl rfl rfl rfl (by first | exact rfl | exact byte1 _) rfl ?_ | refine AOps.buildArr Try.hX kn rfl rfl rfl rfl rfl rfl rfl rfl ?_ | refine AOps.indexArr Try.hX kn rfl rfl rfl rfl rfl rfl rfl rfl rfl rfl rfl rfl ?_ | refine AOps.runP1 Try.hX kn rfl rfl ?_ | (refine AOps.splitT rfl rfl rfl asm (fun h => ?_) <;> (fail_if_success (cases h; done)) <;> rw [h]) | (refine AOps.splitF rfl rfl rfl asm (fun h => ?_) <;> (fail_if_success (cases h; done)) <;> rw [h]) | (refine AOps.split rfl rfl rfl (fun h => ?_) (fun h => ?_) <;> (fail_if_success (cases h; done)) <;> rw [h]) | refine AOps.drawn (by kernel_rfl) ?_)
    all_goals rfl
  | g + 1, s, left, hg, hl, hs => by
    have n1 := readNode1_calls 1
    have g0 : (((g + 1 : Nat) : Int) == 0) = false := by simp; omega
    by_cases hl0 : left = 0
    · subst hl0
      rw [node_left]
      have n4 := readNode1_calls 4
      refine QCalls.of Try.func110 rfl (fun args w => Try.call110 args w) (Nat.le_of_ble_eq_true rfl) [(0, .c (.str s)), (1, .c (.int .i64 (g + 1 : Nat))), (2, .c (.int .i64 (0 : Nat)))] rfl fun β hβ => ?_; have hf := Try.func110
      repeat' (first | refine AK.runP Try.hX Try.mixed 300 rfl ?_ | refine AK.condTe rfl asm ?_ | refine AK.condFe rfl asm ?_ | (refine AK.condS rfl (fun h => ?_) (fun h => ?_) <;> first | (cases h; done) | rw [h] | skip) | refine AK.retQ Try.hX hf rfl rfl ?_ | refine AK.region Try.mixed rfl ?_ | refine AOps.done ?_ | refine AOps.runS Try.hX kn rfl ?_ | refine AOps.callc kn rfl rfl rfl rfl rfl (n4) ?_ | refine AOps.box kn rfl rfl rfl rfl rfl rfl ?_ | refine AOps.alloc Try.hX kn rfl rfl rfl rfl rfl rfl rfl ?_ | refine AOps.store Try.hX kn rfl rfl rfl rfl rfl rfl rfl rfl rfl rfl rfl ?_ | refine AOps.buildSlice Try.hX kn rfl rfl rfl rfl rfl rfl rfl rfl rfl rfl rfl rfl ?_ | refine AOps.append Try.hX kn rfl rfl rfl rfl rfl rfl rfl rfl rfl rfl rfl rfl rfl rfl rfl rfl rfl rfl rfl rfl rfl ?_ ?_ | refine AOps.toStr Try.hX kn rfl rfl rfl rfl rfl rfl rfl rfl rfl rfl rfl (by first | exact rfl | exact byte1 _) rfl ?_ | refine AOps.buildArr Try.hX kn rfl rfl rfl rfl rfl rfl rfl rfl ?_ | refine AOps.indexArr Try.hX kn rfl rfl rfl rfl rfl rfl rfl rfl rfl rfl rfl rfl ?_ | refine AOps.runP1 Try.hX kn rfl rfl ?_ | (refine AOps.splitT rfl rfl rfl asm (fun h => ?_) <;> (fail_if_success (cases h; done)) <;> rw [h]) | (refine AOps.splitF rfl rfl rfl asm (fun h => ?_) <;> (fail_if_success (cases h; done)) <;> rw [h]) | (refine AOps.split rfl rfl rfl (fun h => ?_) (fun h => ?_) <;> (fail_if_success (cases h; done)) <;> rw [h]) | refine AOps.drawn (by kernel_rfl) ?_)
      all_goals rfl
    have l0' : ((left : Int) == 0) = false := by simpa using hl0
    have l0 : (bif (((g + 1 : Nat) : Int) == 0) then true else ((left : Int) == 0)) = false := by rw [g0, l0']; rfl
    have hin : ∀ (s' : List UInt8) (l' : Nat), l' ≤ 300 → s'.length ≤ 1048577 → QCalls Try.prog Try.X 110 [.str s', .int .i64 (IntKind.i64.wrap (((g + 1 : Nat) : Int) - 1)), .int .i64 (l' : Int)] (rdTup l' (rdNode g s' l')) := by
      intro s' l' h1 h2
      rw [w64 (by omega) (by omega), show (((g + 1 : Nat) : Int) - 1) = (g : Int) from by omega]
      exact readNode_calls g s' l' (by omega) h1 h2
    cases s with
    | nil =>
      rw [node_nil _ _ hl0]
      refine QCalls.of Try.func110 rfl (fun args w => Try.call110 args w) (Nat.le_of_ble_eq_true rfl) [(0, .c (.str [])), (1, .c (.int .i64 (g + 1 : Nat))), (2, .c (.int .i64 left))] rfl fun β hβ => ?_; have hf := Try.func110
      repeat' (first | refine AK.runP Try.hX Try.mixed 300 rfl ?_ | refine AK.condTe rfl asm ?_ | refine AK.condFe rfl asm ?_ | (refine AK.condS rfl (fun h => ?_) (fun h => ?_) <;> first | (cases h; done) | rw [h] | skip) | refine AK.retQ Try.hX hf rfl rfl ?_ | refine AK.region Try.mixed rfl ?_ | refine AOps.done ?_ | refine AOps.runS Try.hX kn rfl ?_ | refine AOps.callc kn rfl rfl rfl rfl rfl (n1) ?_ | refine AOps.box kn rfl rfl rfl rfl rfl rfl ?_ | refine AOps.alloc Try.hX kn rfl rfl rfl rfl rfl rfl rfl ?_ | refine AOps.store Try.hX kn rfl rfl rfl rfl rfl rfl rfl rfl rfl rfl rfl ?_ | refine AOps.buildSlice Try.hX kn rfl rfl rfl rfl rfl rfl rfl rfl rfl rfl rfl rfl ?_ | refine AOps.append Try.hX kn rfl rfl rfl rfl rfl rfl rfl rfl rfl rfl rfl rfl rfl rfl rfl rfl rfl rfl rfl rfl rfl ?_ ?_ | refine AOps.toStr Try.hX kn rfl rfl rfl rfl rfl rfl rfl rfl rfl rfl rfl (by first | exact rfl | exact byte1 _) rfl ?_ | refine AOps.buildArr Try.hX kn rfl rfl rfl rfl rfl rfl rfl rfl ?_ | refine AOps.indexArr Try.hX kn rfl rfl rfl rfl rfl rfl rfl rfl rfl rfl rfl rfl ?_ | refine AOps.runP1 Try.hX kn rfl rfl ?_ | (refine AOps.splitT rfl rfl rfl asm (fun h => ?_) <;> (fail_if_success (cases h; done)) <;> rw [h]) | (refine AOps.splitF rfl rfl rfl asm (fun h => ?_) <;> (fail_if_success (cases h; done)) <;> rw [h]) | (refine AOps.split rfl rfl rfl (fun h => ?_) (fun h => ?_) <;> (fail_if_success (cases h; done)) <;> rw [h]) | refine AOps.drawn (by kernel_rfl) ?_)
      all_goals rfl
    | cons c s =>
    rw [node_cons _ _ _ _ hl0]
    simp only [List.length_cons] at hs
    have hct := c.toNat_lt
    by_cases hc3 : c.toNat > 3
    · rw [rbody_no _ _ _ _ hc3]
      have c3 : decide (((c.toNat : Nat) : Int) > 3) = true := decide_eq_true (by omega)
      have c3' : (bif ((c :: s) == (ByteArray.mk #[]).data.toList) then true else decide (((c.toNat : Nat) : Int) > 3)) = true := c3
      refine QCalls.of Try.func110 rfl (fun args w => Try.call110 args w) (Nat.le_of_ble_eq_true rfl) [(0, .c (.str (c :: s))), (1, .c (.int .i64 (g + 1 : Nat))), (2, .c (.int .i64 left))] rfl fun β hβ => ?_; have hf := Try.func110
      repeat' (first | refine AK.runP Try.hX Try.mixed 300 rfl ?_ | refine AK.condTe rfl asm ?_ | refine AK.condFe rfl asm ?_ | (refine AK.condS rfl (fun h => ?_) (fun h => ?_) <;> first | (cases h; done) | rw [h] | skip) | refine AK.retQ Try.hX hf rfl rfl ?_ | refine AK.region Try.mixed rfl ?_ | refine AOps.done ?_ | refine AOps.runS Try.hX kn rfl ?_ | refine AOps.callc kn rfl rfl rfl rfl rfl (n1) ?_ | refine AOps.box kn rfl rfl rfl rfl rfl rfl ?_ | refine AOps.alloc Try.hX kn rfl rfl rfl rfl rfl rfl rfl ?_ | refine AOps.store Try.hX kn rfl rfl rfl rfl rfl rfl rfl rfl rfl rfl rfl ?_ | refine AOps.buildSlice Try.hX kn rfl rfl rfl rfl rfl rfl rfl rfl rfl rfl rfl rfl ?_ | refine AOps.append Try.hX kn rfl rfl rfl rfl rfl rfl rfl rfl rfl rfl rfl rfl rfl rfl rfl rfl rfl rfl rfl rfl rfl ?_ ?_ | refine AOps.toStr Try.hX kn rfl rfl rfl rfl rfl rfl rfl rfl rfl rfl rfl (by first | exact rfl | exact byte1 _) rfl ?_ | refine AOps.buildArr Try.hX kn rfl rfl rfl rfl rfl rfl rfl rfl ?_ | refine AOps.indexArr Try.hX kn rfl rfl rfl rfl rfl rfl rfl rfl rfl rfl rfl rfl ?_ | refine AOps.runP1 Try.hX kn rfl rfl ?_ | (refine AOps.splitT rfl rfl rfl asm (fun h => ?_) <;> (fail_if_success (cases h; done)) <;> rw [h]) | (refine AOps.splitF rfl rfl rfl asm (fun h => ?_) <;> (fail_if_success (cases h; done)) <;> rw [h]) | (refine AOps.split rfl rfl rfl (fun h => ?_) (fun h => ?_) <;> (fail_if_success (cases h; done)) <;> rw [h]) | refine AOps.drawn (by kernel_rfl) ?_)
      all_goals rfl
    rcases (by omega : c.toNat = 0 ∨ c.toNat = 1 ∨ c.toNat = 2 ∨ c.toNat = 3) with h | h | h | h
    · obtain rfl : c = 0 := UInt8.toNat_inj.1 h
      clear h hc3 hct
      have c3' : (bif ((0 :: s) == (ByteArray.mk #[]).data.toList) then true else decide ((((0 : UInt8).toNat : Nat) : Int) > 3)) = false := rfl
      have kt0 : (IntKind.i64.wrap (((0 : UInt8).toNat : Nat) : Int) == 2) = false := by decide
      have kt1 : (IntKind.i64.wrap (((0 : UInt8).toNat : Nat) : Int) == 0) = true := by decide
      show QCalls _ _ _ _ (rdTup left (rdBody (rdNode g) 0 s (left - 1)))
      have h2 := numberOf_calls s (by omega)
      rcases nOf_cases s with ⟨e1, e2⟩ | ⟨n, r, e2, e3, b1, b2, e1⟩
      · rw [rbody0_no _ _ _ e2]
        rw [e1] at h2
        simp only at h2
        refine QCalls.of Try.func110 rfl (fun args w => Try.call110 args w) (Nat.le_of_ble_eq_true rfl) [(0, .c (.str (0 :: s))), (1, .c (.int .i64 (g + 1 : Nat))), (2, .c (.int .i64 left))] rfl fun β hβ => ?_; have hf := Try.func110
        repeat' (first | refine AK.runP Try.hX Try.mixed 300 rfl ?_ | refine AK.condTe rfl asm ?_ | refine AK.condFe rfl asm ?_ | (refine AK.condS rfl (fun h => ?_) (fun h => ?_) <;> first | (cases h; done) | rw [h] | skip) | refine AK.retQ Try.hX hf rfl rfl ?_ | refine AK.region Try.mixed rfl ?_ | refine AOps.done ?_ | refine AOps.runS Try.hX kn rfl ?_ | refine AOps.callc kn rfl rfl rfl rfl rfl (n1) ?_ | refine AOps.callq kn rfl rfl rfl rfl (h2) ?_ | refine AOps.box kn rfl rfl rfl rfl rfl rfl ?_ | refine AOps.alloc Try.hX kn rfl rfl rfl rfl rfl rfl rfl ?_ | refine AOps.store Try.hX kn rfl rfl rfl rfl rfl rfl rfl rfl rfl rfl rfl ?_ | refine AOps.buildSlice Try.hX kn rfl rfl rfl rfl rfl rfl rfl rfl rfl rfl rfl rfl ?_ | refine AOps.append Try.hX kn rfl rfl rfl rfl rfl rfl rfl rfl rfl rfl rfl rfl rfl rfl rfl rfl rfl rfl rfl rfl rfl ?_ ?_ | refine AOps.toStr Try.hX kn rfl rfl rfl rfl rfl rfl rfl rfl rfl rfl rfl (by first | exact rfl | exact byte1 _) rfl ?_ | refine AOps.buildArr Try.hX kn rfl rfl rfl rfl rfl rfl rfl rfl ?_ | refine AOps.indexArr Try.hX kn rfl rfl rfl rfl rfl rfl rfl rfl rfl rfl rfl rfl ?_ | refine AOps.runP1 Try.hX kn rfl rfl ?_ | (refine AOps.splitT rfl rfl rfl asm (fun h => ?_) <;> (fail_if_success (cases h; done)) <;> rw [h]) | (refine AOps.splitF rfl rfl rfl asm (fun h => ?_) <;> (fail_if_success (cases h; done)) <;> rw [h]) | (refine AOps.split rfl rfl rfl (fun h => ?_) (fun h => ?_) <;> (fail_if_success (cases h; done)) <;> rw [h]) | refine AOps.drawn (by kernel_rfl) ?_)
        all_goals rfl
      · rw [rbody0 _ _ _ _ _ e2]
        rw [e1] at h2
        simp only at h2
        have z0 : ((((numB n).length : Nat) : Int) == 0) = false := by have := numB_ne n; simp [this]
        have hd := drop_len _ _ _ e3
        have hdl : (numB n).length ≤ s.length := by rw [e3]; simp
        refine QCalls.of Try.func110 rfl (fun args w => Try.call110 args w) (Nat.le_of_ble_eq_true rfl) [(0, .c (.str (0 :: s))), (1, .c (.int .i64 (g + 1 : Nat))), (2, .c (.int .i64 left))] rfl fun β hβ => ?_; have hf := Try.func110
        repeat' (first | refine AK.runP Try.hX Try.mixed 300 rfl ?_ | refine AK.condTe rfl asm ?_ | refine AK.condFe rfl asm ?_ | (refine AK.condS rfl (fun h => ?_) (fun h => ?_) <;> first | (cases h; done) | rw [h] | skip) | refine AK.retQ Try.hX hf rfl rfl ?_ | refine AK.region Try.mixed rfl ?_ | refine AOps.done ?_ | refine AOps.runS Try.hX kn rfl ?_ | refine AOps.callc kn rfl rfl rfl rfl rfl (n1) ?_ | refine AOps.callq kn rfl rfl rfl rfl (h2) ?_ | (refine AOps.sliceStr Try.hX kn rfl rfl rfl rfl rfl rfl (l := some (numB n).length) (h := none) rfl rfl (Nat.le_refl _) hdl ?_; rw [show List.drop ((some (numB n).length).getD 0) (List.take (Option.getD none s.length) s) = r from hd]) | refine AOps.box kn rfl rfl rfl rfl rfl rfl ?_ | refine AOps.alloc Try.hX kn rfl rfl rfl rfl rfl rfl rfl ?_ | refine AOps.store Try.hX kn rfl rfl rfl rfl rfl rfl rfl rfl rfl rfl rfl ?_ | refine AOps.buildSlice Try.hX kn rfl rfl rfl rfl rfl rfl rfl rfl rfl rfl rfl rfl ?_ | refine AOps.append Try.hX kn rfl rfl rfl rfl rfl rfl rfl rfl rfl rfl rfl rfl rfl rfl rfl rfl rfl rfl rfl rfl rfl ?_ ?_ | refine AOps.toStr Try.hX kn rfl rfl rfl rfl rfl rfl rfl rfl rfl rfl rfl (by first | exact rfl | exact byte1 _) rfl ?_ | refine AOps.buildArr Try.hX kn rfl rfl rfl rfl rfl rfl rfl rfl ?_ | refine AOps.indexArr Try.hX kn rfl rfl rfl rfl rfl rfl rfl rfl rfl rfl rfl rfl ?_ | refine AOps.runP1 Try.hX kn rfl rfl ?_ | (refine AOps.splitT rfl rfl rfl asm (fun h => ?_) <;> (fail_if_success (cases h; done)) <;> rw [h]) | (refine AOps.splitF rfl rfl rfl asm (fun h => ?_) <;> (fail_if_success (cases h; done)) <;> rw [h]) | (refine AOps.split rfl rfl rfl (fun h => ?_) (fun h => ?_) <;> (fail_if_success (cases h; done)) <;> rw [h]) | refine AOps.drawn (by kernel_rfl) ?_)
        all_goals
          show CV.tup [_, _, _, _] = CV.tup [_, _, _, _]
          rw [show ((left : Int) - ((left - 1 : Nat) : Int)) = 1 from by omega]
          rfl
    · obtain rfl : c = 1 := UInt8.toNat_inj.1 h
      clear h hc3 hct
      have c3' : (bif ((1 :: s) == (ByteArray.mk #[]).data.toList) then true else decide ((((1 : UInt8).toNat : Nat) : Int) > 3)) = false := rfl
      have kt0 : (IntKind.i64.wrap (((1 : UInt8).toNat : Nat) : Int) == 2) = false := by decide
      have kt1 : (IntKind.i64.wrap (((1 : UInt8).toNat : Nat) : Int) == 0) = false := by decide
      have kt2 : (IntKind.i64.wrap (((1 : UInt8).toNat : Nat) : Int) == 1) = true := by decide
      show QCalls _ _ _ _ (rdTup left (rdBody (rdNode g) 1 s (left - 1)))
      have h2 := numberOf_calls s (by omega)
      rcases nOf_cases s with ⟨e1, e2⟩ | ⟨n, r, e2, e3, b1, b2, e1⟩
      · rw [rbody1_no _ _ _ e2]
        rw [e1] at h2
        simp only at h2
        refine QCalls.of Try.func110 rfl (fun args w => Try.call110 args w) (Nat.le_of_ble_eq_true rfl) [(0, .c (.str (1 :: s))), (1, .c (.int .i64 (g + 1 : Nat))), (2, .c (.int .i64 left))] rfl fun β hβ => ?_; have hf := Try.func110
        repeat' (first | refine AK.runP Try.hX Try.mixed 300 rfl ?_ | refine AK.condTe rfl asm ?_ | refine AK.condFe rfl asm ?_ | (refine AK.condS rfl (fun h => ?_) (fun h => ?_) <;> first | (cases h; done) | rw [h] | skip) | refine AK.retQ Try.hX hf rfl rfl ?_ | refine AK.region Try.mixed rfl ?_ | refine AOps.done ?_ | refine AOps.runS Try.hX kn rfl ?_ | refine AOps.callc kn rfl rfl rfl rfl rfl (n1) ?_ | refine AOps.callq kn rfl rfl rfl rfl (h2) ?_ | refine AOps.box kn rfl rfl rfl rfl rfl rfl ?_ | refine AOps.alloc Try.hX kn rfl rfl rfl rfl rfl rfl rfl ?_ | refine AOps.store Try.hX kn rfl rfl rfl rfl rfl rfl rfl rfl rfl rfl rfl ?_ | refine AOps.buildSlice Try.hX kn rfl rfl rfl rfl rfl rfl rfl rfl rfl rfl rfl rfl ?_ | refine AOps.append Try.hX kn rfl rfl rfl rfl rfl rfl rfl rfl rfl rfl rfl rfl rfl rfl rfl rfl rfl rfl rfl rfl rfl ?_ ?_ | refine AOps.toStr Try.hX kn rfl rfl rfl rfl rfl rfl rfl rfl rfl rfl rfl (by first | exact rfl | exact byte1 _) rfl ?_ | refine AOps.buildArr Try.hX kn rfl rfl rfl rfl rfl rfl rfl rfl ?_ | refine AOps.indexArr Try.hX kn rfl rfl rfl rfl rfl rfl rfl rfl rfl rfl rfl rfl ?_ | refine AOps.runP1 Try.hX kn rfl rfl ?_ | (refine AOps.splitT rfl rfl rfl asm (fun h => ?_) <;> (fail_if_success (cases h; done)) <;> rw [h]) | (refine AOps.splitF rfl rfl rfl asm (fun h => ?_) <;> (fail_if_success (cases h; done)) <;> rw [h]) | (refine AOps.split rfl rfl rfl (fun h => ?_) (fun h => ?_) <;> (fail_if_success (cases h; done)) <;> rw [h]) | refine AOps.drawn (by kernel_rfl) ?_)
        all_goals rfl
      · rw [e1] at h2
        simp only at h2
        have z0 : ((((numB n).length : Nat) : Int) == 0) = false := by have := numB_ne n; simp [this]
        have hd := drop_len _ _ _ e3
        have hdl : (numB n).length ≤ s.length := by rw [e3]; simp
        by_cases k1 : n < 0
        · rw [rbody1_bad _ _ _ _ _ e2 (.inl k1)]
          have f1 : decide (n < 0) = true := decide_eq_true k1
          refine QCalls.of Try.func110 rfl (fun args w => Try.call110 args w) (Nat.le_of_ble_eq_true rfl) [(0, .c (.str (1 :: s))), (1, .c (.int .i64 (g + 1 : Nat))), (2, .c (.int .i64 left))] rfl fun β hβ => ?_; have hf := Try.func110
          repeat' (first | refine AK.runP Try.hX Try.mixed 300 rfl ?_ | refine AK.condTe rfl asm ?_ | refine AK.condFe rfl asm ?_ | (refine AK.condS rfl (fun h => ?_) (fun h => ?_) <;> first | (cases h; done) | rw [h] | skip) | refine AK.retQ Try.hX hf rfl rfl ?_ | refine AK.region Try.mixed rfl ?_ | refine AOps.done ?_ | refine AOps.runS Try.hX kn rfl ?_ | refine AOps.callc kn rfl rfl rfl rfl rfl (n1) ?_ | refine AOps.callq kn rfl rfl rfl rfl (h2) ?_ | (refine AOps.sliceStr Try.hX kn rfl rfl rfl rfl rfl rfl (l := some (numB n).length) (h := none) rfl rfl (Nat.le_refl _) hdl ?_; rw [show List.drop ((some (numB n).length).getD 0) (List.take (Option.getD none s.length) s) = r from hd]) | refine AOps.box kn rfl rfl rfl rfl rfl rfl ?_ | refine AOps.alloc Try.hX kn rfl rfl rfl rfl rfl rfl rfl ?_ | refine AOps.store Try.hX kn rfl rfl rfl rfl rfl rfl rfl rfl rfl rfl rfl ?_ | refine AOps.buildSlice Try.hX kn rfl rfl rfl rfl rfl rfl rfl rfl rfl rfl rfl rfl ?_ | refine AOps.append Try.hX kn rfl rfl rfl rfl rfl rfl rfl rfl rfl rfl rfl rfl rfl rfl rfl rfl rfl rfl rfl rfl rfl ?_ ?_ | refine AOps.toStr Try.hX kn rfl rfl rfl rfl rfl rfl rfl rfl rfl rfl rfl (by first | exact rfl | exact byte1 _) rfl ?_ | refine AOps.buildArr Try.hX kn rfl rfl rfl rfl rfl rfl rfl rfl ?_ | refine AOps.indexArr Try.hX kn rfl rfl rfl rfl rfl rfl rfl rfl rfl rfl rfl rfl ?_ | refine AOps.runP1 Try.hX kn rfl rfl ?_ | (refine AOps.splitT rfl rfl rfl asm (fun h => ?_) <;> (fail_if_success (cases h; done)) <;> rw [h]) | (refine AOps.splitF rfl rfl rfl asm (fun h => ?_) <;> (fail_if_success (cases h; done)) <;> rw [h]) | (refine AOps.split rfl rfl rfl (fun h => ?_) (fun h => ?_) <;> (fail_if_success (cases h; done)) <;> rw [h]) | refine AOps.drawn (by kernel_rfl) ?_)
          all_goals rfl
        obtain ⟨m, rfl⟩ : ∃ m : Nat, n = m := ⟨n.toNat, by omega⟩
        have f1 : decide (((m : Nat) : Int) < 0) = false := decide_eq_false k1
        by_cases k2 : (m : Int) > 200
        · rw [rbody1_bad _ _ _ _ _ e2 (.inr (.inl k2))]
          have f2 : decide (((m : Nat) : Int) > 200) = true := decide_eq_true k2
          refine QCalls.of Try.func110 rfl (fun args w => Try.call110 args w) (Nat.le_of_ble_eq_true rfl) [(0, .c (.str (1 :: s))), (1, .c (.int .i64 (g + 1 : Nat))), (2, .c (.int .i64 left))] rfl fun β hβ => ?_; have hf := Try.func110
          repeat' (first | refine AK.runP Try.hX Try.mixed 300 rfl ?_ | refine AK.condTe rfl asm ?_ | refine AK.condFe rfl asm ?_ | (refine AK.condS rfl (fun h => ?_) (fun h => ?_) <;> first | (cases h; done) | rw [h] | skip) | refine AK.retQ Try.hX hf rfl rfl ?_ | refine AK.region Try.mixed rfl ?_ | refine AOps.done ?_ | refine AOps.runS Try.hX kn rfl ?_ | refine AOps.callc kn rfl rfl rfl rfl rfl (n1) ?_ | refine AOps.callq kn rfl rfl rfl rfl (h2) ?_ | (refine AOps.sliceStr Try.hX kn rfl rfl rfl rfl rfl rfl (l := some (numB m).length) (h := none) rfl rfl (Nat.le_refl _) hdl ?_; rw [show List.drop ((some (numB m).length).getD 0) (List.take (Option.getD none s.length) s) = r from hd]) | refine AOps.box kn rfl rfl rfl rfl rfl rfl ?_ | refine AOps.alloc Try.hX kn rfl rfl rfl rfl rfl rfl rfl ?_ | refine AOps.store Try.hX kn rfl rfl rfl rfl rfl rfl rfl rfl rfl rfl rfl ?_ | refine AOps.buildSlice Try.hX kn rfl rfl rfl rfl rfl rfl rfl rfl rfl rfl rfl rfl ?_ | refine AOps.append Try.hX kn rfl rfl rfl rfl rfl rfl rfl rfl rfl rfl rfl rfl rfl rfl rfl rfl rfl rfl rfl rfl rfl ?_ ?_ | refine AOps.toStr Try.hX kn rfl rfl rfl rfl rfl rfl rfl rfl rfl rfl rfl (by first | exact rfl | exact byte1 _) rfl ?_ | refine AOps.buildArr Try.hX kn rfl rfl rfl rfl rfl rfl rfl rfl ?_ | refine AOps.indexArr Try.hX kn rfl rfl rfl rfl rfl rfl rfl rfl rfl rfl rfl rfl ?_ | refine AOps.runP1 Try.hX kn rfl rfl ?_ | (refine AOps.splitT rfl rfl rfl asm (fun h => ?_) <;> (fail_if_success (cases h; done)) <;> rw [h]) | (refine AOps.splitF rfl rfl rfl asm (fun h => ?_) <;> (fail_if_success (cases h; done)) <;> rw [h]) | (refine AOps.split rfl rfl rfl (fun h => ?_) (fun h => ?_) <;> (fail_if_success (cases h; done)) <;> rw [h]) | refine AOps.drawn (by kernel_rfl) ?_)
          all_goals rfl
        have f2 : decide (((m : Nat) : Int) > 200) = false := decide_eq_false k2
        by_cases k3 : (m : Int) > r.length
        · rw [rbody1_bad _ _ _ _ _ e2 (.inr (.inr k3))]
          have f3 : decide (((m : Nat) : Int) > ((r.length : Nat) : Int)) = true := decide_eq_true k3
          have f4 : (bif decide (((m : Nat) : Int) < 0) then true else bif (IntKind.i64.wrap (((1 : UInt8).toNat : Nat) : Int) == 1) then bif false then true else decide (((m : Nat) : Int) > ((r.length : Nat) : Int)) else false) = true := by rw [f1, kt2, f3]; rfl
          refine QCalls.of Try.func110 rfl (fun args w => Try.call110 args w) (Nat.le_of_ble_eq_true rfl) [(0, .c (.str (1 :: s))), (1, .c (.int .i64 (g + 1 : Nat))), (2, .c (.int .i64 left))] rfl fun β hβ => ?_; have hf := Try.func110
          repeat' (first | refine AK.runP Try.hX Try.mixed 300 rfl ?_ | refine AK.condTe rfl asm ?_ | refine AK.condFe rfl asm ?_ | (refine AK.condS rfl (fun h => ?_) (fun h => ?_) <;> first | (cases h; done) | rw [h] | skip) | refine AK.retQ Try.hX hf rfl rfl ?_ | refine AK.region Try.mixed rfl ?_ | refine AOps.done ?_ | refine AOps.runS Try.hX kn rfl ?_ | refine AOps.callc kn rfl rfl rfl rfl rfl (n1) ?_ | refine AOps.callq kn rfl rfl rfl rfl (h2) ?_ | (refine AOps.sliceStr Try.hX kn rfl rfl rfl rfl rfl rfl (l := some (numB m).length) (h := none) rfl rfl (Nat.le_refl _) hdl ?_; rw [show List.drop ((some (numB m).length).getD 0) (List.take (Option.getD none s.length) s) = r from hd]) | refine AOps.box kn rfl rfl rfl rfl rfl rfl ?_ | refine AOps.alloc Try.hX kn rfl rfl rfl rfl rfl rfl rfl ?_ | refine AOps.store Try.hX kn rfl rfl rfl rfl rfl rfl rfl rfl rfl rfl rfl ?_ | refine AOps.buildSlice Try.hX kn rfl rfl rfl rfl rfl rfl rfl rfl rfl rfl rfl rfl ?_ | refine AOps.append Try.hX kn rfl rfl rfl rfl rfl rfl rfl rfl rfl rfl rfl rfl rfl rfl rfl rfl rfl rfl rfl rfl rfl ?_ ?_ | refine AOps.toStr Try.hX kn rfl rfl rfl rfl rfl rfl rfl rfl rfl rfl rfl (by first | exact rfl | exact byte1 _) rfl ?_ | refine AOps.buildArr Try.hX kn rfl rfl rfl rfl rfl rfl rfl rfl ?_ | refine AOps.indexArr Try.hX kn rfl rfl rfl rfl rfl rfl rfl rfl rfl rfl rfl rfl ?_ | refine AOps.runP1 Try.hX kn rfl rfl ?_ | (refine AOps.splitT rfl rfl rfl asm (fun h => ?_) <;> (fail_if_success (cases h; done)) <;> rw [h]) | (refine AOps.splitF rfl rfl rfl asm (fun h => ?_) <;> (fail_if_success (cases h; done)) <;> rw [h]) | (refine AOps.split rfl rfl rfl (fun h => ?_) (fun h => ?_) <;> (fail_if_success (cases h; done)) <;> rw [h]) | refine AOps.drawn (by kernel_rfl) ?_)
          all_goals rfl
        have f3 : decide (((m : Nat) : Int) > ((r.length : Nat) : Int)) = false := decide_eq_false k3
        have f4 : (bif decide (((m : Nat) : Int) < 0) then true else bif (IntKind.i64.wrap (((1 : UInt8).toNat : Nat) : Int) == 1) then bif false then true else decide (((m : Nat) : Int) > ((r.length : Nat) : Int)) else false) = false := by rw [f1, kt2, f3]; rfl
        rw [rbody1 _ _ _ _ _ e2 (by omega), Int.toNat_natCast]
        have hmr : m ≤ r.length := by omega
        refine QCalls.of Try.func110 rfl (fun args w => Try.call110 args w) (Nat.le_of_ble_eq_true rfl) [(0, .c (.str (1 :: s))), (1, .c (.int .i64 (g + 1 : Nat))), (2, .c (.int .i64 left))] rfl fun β hβ => ?_; have hf := Try.func110
        repeat' (first | refine AK.runP Try.hX Try.mixed 300 rfl ?_ | refine AK.condTe rfl asm ?_ | refine AK.condFe rfl asm ?_ | (refine AK.condS rfl (fun h => ?_) (fun h => ?_) <;> first | (cases h; done) | rw [h] | skip) | refine AK.retQ Try.hX hf rfl rfl ?_ | refine AK.region Try.mixed rfl ?_ | refine AOps.done ?_ | refine AOps.runS Try.hX kn rfl ?_ | refine AOps.callc kn rfl rfl rfl rfl rfl (n1) ?_ | refine AOps.callq kn rfl rfl rfl rfl (h2) ?_ | (refine AOps.sliceStr Try.hX kn rfl rfl rfl rfl rfl rfl (s := s) (l := some (numB m).length) (h := none) rfl rfl (Nat.le_refl _) hdl ?_; rw [show List.drop ((some (numB m).length).getD 0) (List.take (Option.getD none s.length) s) = r from hd]) | refine AOps.sliceStr Try.hX kn rfl rfl rfl rfl rfl rfl (s := r) (l := none) (h := some m) rfl rfl hmr (Nat.zero_le _) ?_ | refine AOps.sliceStr Try.hX kn rfl rfl rfl rfl rfl rfl (s := r) (l := some m) (h := none) rfl rfl (Nat.le_refl _) hmr ?_ | refine AOps.box kn rfl rfl rfl rfl rfl rfl ?_ | refine AOps.alloc Try.hX kn rfl rfl rfl rfl rfl rfl rfl ?_ | refine AOps.store Try.hX kn rfl rfl rfl rfl rfl rfl rfl rfl rfl rfl rfl ?_ | refine AOps.buildSlice Try.hX kn rfl rfl rfl rfl rfl rfl rfl rfl rfl rfl rfl rfl ?_ | refine AOps.append Try.hX kn rfl rfl rfl rfl rfl rfl rfl rfl rfl rfl rfl rfl rfl rfl rfl rfl rfl rfl rfl rfl rfl ?_ ?_ | refine AOps.toStr Try.hX kn rfl rfl rfl rfl rfl rfl rfl rfl rfl rfl rfl (by first | exact rfl | exact byte1 _) rfl ?_ | refine AOps.buildArr Try.hX kn rfl rfl rfl rfl rfl rfl rfl rfl ?_ | refine AOps.indexArr Try.hX kn rfl rfl rfl rfl rfl rfl rfl rfl rfl rfl rfl rfl ?_ | refine AOps.runP1 Try.hX kn rfl rfl ?_ | (refine AOps.splitT rfl rfl rfl asm (fun h => ?_) <;> (fail_if_success (cases h; done)) <;> rw [h]) | (refine AOps.splitF rfl rfl rfl asm (fun h => ?_) <;> (fail_if_success (cases h; done)) <;> rw [h]) | (refine AOps.split rfl rfl rfl (fun h => ?_) (fun h => ?_) <;> (fail_if_success (cases h; done)) <;> rw [h]) | refine AOps.drawn (by kernel_rfl) ?_)
        all_goals
          show CV.tup [_, _, _, _] = CV.tup [_, _, _, _]
          rw [show ((left : Int) - ((left - 1 : Nat) : Int)) = 1 from by omega]
          rw [show List.drop ((some m).getD 0) (List.take (Option.getD none r.length) r) = r.drop m from by rw [Option.getD_none, List.take_length]; rfl]
          rfl
    · obtain rfl : c = 2 := UInt8.toNat_inj.1 h
      clear h hc3 hct
      have c3' : (bif ((2 :: s) == (ByteArray.mk #[]).data.toList) then true else decide ((((2 : UInt8).toNat : Nat) : Int) > 3)) = false := rfl
      have kt0 : (IntKind.i64.wrap (((2 : UInt8).toNat : Nat) : Int) == 2) = true := by decide
      have kt1 : (IntKind.i64.wrap (((2 : UInt8).toNat : Nat) : Int) == 0) = false := by decide
      have kt2 : (IntKind.i64.wrap (((2 : UInt8).toNat : Nat) : Int) == 1) = false := by decide
      show QCalls _ _ _ _ (rdTup left (rdBody (rdNode g) 2 s (left - 1)))
      cases s with
      | nil =>
        have s0 : (([] : List UInt8) == (ByteArray.mk #[]).data.toList) = true := rfl
        rw [rbody2_nil]
        refine QCalls.of Try.func110 rfl (fun args w => Try.call110 args w) (Nat.le_of_ble_eq_true rfl) [(0, .c (.str (2 :: []))), (1, .c (.int .i64 (g + 1 : Nat))), (2, .c (.int .i64 left))] rfl fun β hβ => ?_; have hf := Try.func110
        repeat' (first | refine AK.runP Try.hX Try.mixed 300 rfl ?_ | refine AK.condTe rfl asm ?_ | refine AK.condFe rfl asm ?_ | (refine AK.condS rfl (fun h => ?_) (fun h => ?_) <;> first | (cases h; done) | rw [h] | skip) | refine AK.retQ Try.hX hf rfl rfl ?_ | refine AK.region Try.mixed rfl ?_ | refine AOps.done ?_ | refine AOps.runS Try.hX kn rfl ?_ | refine AOps.callc kn rfl rfl rfl rfl rfl (n1) ?_ | refine AOps.box kn rfl rfl rfl rfl rfl rfl ?_ | refine AOps.alloc Try.hX kn rfl rfl rfl rfl rfl rfl rfl ?_ | refine AOps.store Try.hX kn rfl rfl rfl rfl rfl rfl rfl rfl rfl rfl rfl ?_ | refine AOps.buildSlice Try.hX kn rfl rfl rfl rfl rfl rfl rfl rfl rfl rfl rfl rfl ?_ | refine AOps.append Try.hX kn rfl rfl rfl rfl rfl rfl rfl rfl rfl rfl rfl rfl rfl rfl rfl rfl rfl rfl rfl rfl rfl ?_ ?_ | refine AOps.toStr Try.hX kn rfl rfl rfl rfl rfl rfl rfl rfl rfl rfl rfl (by first | exact rfl | exact byte1 _) rfl ?_ | refine AOps.buildArr Try.hX kn rfl rfl rfl rfl rfl rfl rfl rfl ?_ | refine AOps.indexArr Try.hX kn rfl rfl rfl rfl rfl rfl rfl rfl rfl rfl rfl rfl ?_ | refine AOps.runP1 Try.hX kn rfl rfl ?_ | (refine AOps.splitT rfl rfl rfl asm (fun h => ?_) <;> (fail_if_success (cases h; done)) <;> rw [h]) | (refine AOps.splitF rfl rfl rfl asm (fun h => ?_) <;> (fail_if_success (cases h; done)) <;> rw [h]) | (refine AOps.split rfl rfl rfl (fun h => ?_) (fun h => ?_) <;> (fail_if_success (cases h; done)) <;> rw [h]) | refine AOps.drawn (by kernel_rfl) ?_)
        all_goals rfl
      | cons p s =>
      simp only [List.length_cons] at hs
      have s0 : ((p :: s) == (ByteArray.mk #[]).data.toList) = false := rfl
      have hpt := p.toNat_lt
      have hpr := isPrim_calls (IntKind.i64.wrap p.toNat)
      have hpw : IntKind.i64.wrap ((p.toNat : Nat) : Int) = p.toNat := w64 (by omega) (by omega)
      rw [show primP (IntKind.i64.wrap p.toNat) = primP p.toNat from by rw [hpw]] at hpr
      cases hp : primP p.toNat with
      | false =>
        rw [rbody2_bad _ _ _ _ hp]
        rw [hp] at hpr
        refine QCalls.of Try.func110 rfl (fun args w => Try.call110 args w) (Nat.le_of_ble_eq_true rfl) [(0, .c (.str (2 :: p :: s))), (1, .c (.int .i64 (g + 1 : Nat))), (2, .c (.int .i64 left))] rfl fun β hβ => ?_; have hf := Try.func110
        repeat' (first | refine AK.runP Try.hX Try.mixed 300 rfl ?_ | refine AK.condTe rfl asm ?_ | refine AK.condFe rfl asm ?_ | (refine AK.condS rfl (fun h => ?_) (fun h => ?_) <;> first | (cases h; done) | rw [h] | skip) | refine AK.retQ Try.hX hf rfl rfl ?_ | refine AK.region Try.mixed rfl ?_ | refine AOps.done ?_ | refine AOps.runS Try.hX kn rfl ?_ | refine AOps.callc kn rfl rfl rfl rfl rfl (n1) ?_ | refine AOps.callq kn rfl rfl rfl rfl (hpr) ?_ | refine AOps.box kn rfl rfl rfl rfl rfl rfl ?_ | refine AOps.alloc Try.hX kn rfl rfl rfl rfl rfl rfl rfl ?_ | refine AOps.store Try.hX kn rfl rfl rfl rfl rfl rfl rfl rfl rfl rfl rfl ?_ | refine AOps.buildSlice Try.hX kn rfl rfl rfl rfl rfl rfl rfl rfl rfl rfl rfl rfl ?_ | refine AOps.append Try.hX kn rfl rfl rfl rfl rfl rfl rfl rfl rfl rfl rfl rfl rfl rfl rfl rfl rfl rfl rfl rfl rfl ?_ ?_ | refine AOps.toStr Try.hX kn rfl rfl rfl rfl rfl rfl rfl rfl rfl rfl rfl (by first | exact rfl | exact byte1 _) rfl ?_ | refine AOps.buildArr Try.hX kn rfl rfl rfl rfl rfl rfl rfl rfl ?_ | refine AOps.indexArr Try.hX kn rfl rfl rfl rfl rfl rfl rfl rfl rfl rfl rfl rfl ?_ | refine AOps.runP1 Try.hX kn rfl rfl ?_ | (refine AOps.splitT rfl rfl rfl asm (fun h => ?_) <;> (fail_if_success (cases h; done)) <;> rw [h]) | (refine AOps.splitF rfl rfl rfl asm (fun h => ?_) <;> (fail_if_success (cases h; done)) <;> rw [h]) | (refine AOps.split rfl rfl rfl (fun h => ?_) (fun h => ?_) <;> (fail_if_success (cases h; done)) <;> rw [h]) | refine AOps.drawn (by kernel_rfl) ?_)
        all_goals rfl
      | true =>
      rw [rbody2 _ _ _ _ hp, ← hpw]
      rw [hp] at hpr
      have h2 := numberOf_calls s (by omega)
      rcases nOf_cases s with ⟨e1, e2⟩ | ⟨n, r, e2, e3, b1, b2, e1⟩
      · rw [rargs_no _ _ _ _ _ e2]
        rw [e1] at h2
        simp only at h2
        refine QCalls.of Try.func110 rfl (fun args w => Try.call110 args w) (Nat.le_of_ble_eq_true rfl) [(0, .c (.str (2 :: p :: s))), (1, .c (.int .i64 (g + 1 : Nat))), (2, .c (.int .i64 left))] rfl fun β hβ => ?_; have hf := Try.func110
        repeat' (first | refine AK.runP Try.hX Try.mixed 300 rfl ?_ | refine AK.condTe rfl asm ?_ | refine AK.condFe rfl asm ?_ | (refine AK.condS rfl (fun h => ?_) (fun h => ?_) <;> first | (cases h; done) | rw [h] | skip) | refine AK.retQ Try.hX hf rfl rfl ?_ | refine AK.region Try.mixed rfl ?_ | refine AOps.done ?_ | refine AOps.runS Try.hX kn rfl ?_ | refine AOps.callc kn rfl rfl rfl rfl rfl (n1) ?_ | refine AOps.callq kn rfl rfl rfl rfl (h2) ?_ | refine AOps.callq kn rfl rfl rfl rfl (hpr) ?_ | refine AOps.box kn rfl rfl rfl rfl rfl rfl ?_ | refine AOps.alloc Try.hX kn rfl rfl rfl rfl rfl rfl rfl ?_ | refine AOps.store Try.hX kn rfl rfl rfl rfl rfl rfl rfl rfl rfl rfl rfl ?_ | refine AOps.buildSlice Try.hX kn rfl rfl rfl rfl rfl rfl rfl rfl rfl rfl rfl rfl ?_ | refine AOps.append Try.hX kn rfl rfl rfl rfl rfl rfl rfl rfl rfl rfl rfl rfl rfl rfl rfl rfl rfl rfl rfl rfl rfl ?_ ?_ | refine AOps.toStr Try.hX kn rfl rfl rfl rfl rfl rfl rfl rfl rfl rfl rfl (by first | exact rfl | exact byte1 _) rfl ?_ | refine AOps.buildArr Try.hX kn rfl rfl rfl rfl rfl rfl rfl rfl ?_ | refine AOps.indexArr Try.hX kn rfl rfl rfl rfl rfl rfl rfl rfl rfl rfl rfl rfl ?_ | refine AOps.runP1 Try.hX kn rfl rfl ?_ | (refine AOps.splitT rfl rfl rfl asm (fun h => ?_) <;> (fail_if_success (cases h; done)) <;> rw [h]) | (refine AOps.splitF rfl rfl rfl asm (fun h => ?_) <;> (fail_if_success (cases h; done)) <;> rw [h]) | (refine AOps.split rfl rfl rfl (fun h => ?_) (fun h => ?_) <;> (fail_if_success (cases h; done)) <;> rw [h]) | refine AOps.drawn (by kernel_rfl) ?_)
        all_goals rfl
      rw [e1] at h2
      simp only at h2
      have z0 : ((((numB n).length : Nat) : Int) == 0) = false := by have := numB_ne n; simp [this]
      have hd := drop_len _ _ _ e3
      have hdl : (numB n).length ≤ s.length := by rw [e3]; simp
      by_cases k1 : n < 0
      · rw [rargs_neg _ _ _ _ _ _ _ e2 k1]
        have f1 : decide (n < 0) = true := decide_eq_true k1
        refine QCalls.of Try.func110 rfl (fun args w => Try.call110 args w) (Nat.le_of_ble_eq_true rfl) [(0, .c (.str (2 :: p :: s))), (1, .c (.int .i64 (g + 1 : Nat))), (2, .c (.int .i64 left))] rfl fun β hβ => ?_; have hf := Try.func110
        repeat' (first | refine AK.runP Try.hX Try.mixed 300 rfl ?_ | refine AK.condTe rfl asm ?_ | refine AK.condFe rfl asm ?_ | (refine AK.condS rfl (fun h => ?_) (fun h => ?_) <;> first | (cases h; done) | rw [h] | skip) | refine AK.retQ Try.hX hf rfl rfl ?_ | refine AK.region Try.mixed rfl ?_ | refine AOps.done ?_ | refine AOps.runS Try.hX kn rfl ?_ | refine AOps.callc kn rfl rfl rfl rfl rfl (n1) ?_ | refine AOps.callq kn rfl rfl rfl rfl (h2) ?_ | refine AOps.callq kn rfl rfl rfl rfl (hpr) ?_ | (refine AOps.sliceStr Try.hX kn rfl rfl rfl rfl rfl rfl (l := some (numB n).length) (h := none) rfl rfl (Nat.le_refl _) hdl ?_; rw [show List.drop ((some (numB n).length).getD 0) (List.take (Option.getD none s.length) s) = r from hd]) | refine AOps.box kn rfl rfl rfl rfl rfl rfl ?_ | refine AOps.alloc Try.hX kn rfl rfl rfl rfl rfl rfl rfl ?_ | refine AOps.store Try.hX kn rfl rfl rfl rfl rfl rfl rfl rfl rfl rfl rfl ?_ | refine AOps.buildSlice Try.hX kn rfl rfl rfl rfl rfl rfl rfl rfl rfl rfl rfl rfl ?_ | refine AOps.append Try.hX kn rfl rfl rfl rfl rfl rfl rfl rfl rfl rfl rfl rfl rfl rfl rfl rfl rfl rfl rfl rfl rfl ?_ ?_ | refine AOps.toStr Try.hX kn rfl rfl rfl rfl rfl rfl rfl rfl rfl rfl rfl (by first | exact rfl | exact byte1 _) rfl ?_ | refine AOps.buildArr Try.hX kn rfl rfl rfl rfl rfl rfl rfl rfl ?_ | refine AOps.indexArr Try.hX kn rfl rfl rfl rfl rfl rfl rfl rfl rfl rfl rfl rfl ?_ | refine AOps.runP1 Try.hX kn rfl rfl ?_ | (refine AOps.splitT rfl rfl rfl asm (fun h => ?_) <;> (fail_if_success (cases h; done)) <;> rw [h]) | (refine AOps.splitF rfl rfl rfl asm (fun h => ?_) <;> (fail_if_success (cases h; done)) <;> rw [h]) | (refine AOps.split rfl rfl rfl (fun h => ?_) (fun h => ?_) <;> (fail_if_success (cases h; done)) <;> rw [h]) | refine AOps.drawn (by kernel_rfl) ?_)
        all_goals rfl
      obtain ⟨m, rfl⟩ : ∃ m : Nat, n = m := ⟨n.toNat, by omega⟩
      have f1 : decide (((m : Nat) : Int) < 0) = false := decide_eq_false k1
      rw [rowTup_eq left _ 2 (IntKind.i64.wrap ((p.toNat : Nat) : Int)) s _ m r e2]
      have hrl : r.length ≤ s.length := by rw [e3]; simp
      unfold maxI at b2
      refine QCalls.of Try.func110 rfl (fun args w => Try.call110 args w) (Nat.le_of_ble_eq_true rfl) [(0, .c (.str (2 :: p :: s))), (1, .c (.int .i64 (g + 1 : Nat))), (2, .c (.int .i64 left))] rfl fun β hβ => ?_; have hf := Try.func110
      repeat' (first | refine AK.runP Try.hX Try.mixed 300 rfl ?_ | refine AK.condTe rfl asm ?_ | refine AK.condFe rfl asm ?_ | (refine AK.condS rfl (fun h => ?_) (fun h => ?_) <;> first | (cases h; done) | rw [h] | skip) | refine AK.retQ Try.hX hf rfl rfl ?_ | refine AK.region Try.mixed rfl ?_ | refine AOps.done ?_ | refine AOps.runS Try.hX kn rfl ?_ | refine AOps.callc kn rfl rfl rfl rfl rfl (n1) ?_ | refine AOps.callq kn rfl rfl rfl rfl (h2) ?_ | refine AOps.callq kn rfl rfl rfl rfl (hpr) ?_ | (refine AOps.sliceStr Try.hX kn rfl rfl rfl rfl rfl rfl (l := some (numB (m : Int)).length) (h := none) rfl rfl (Nat.le_refl _) hdl ?_; rw [show List.drop ((some (numB (m : Int)).length).getD 0) (List.take (Option.getD none s.length) s) = r from hd]) | refine AOps.box kn rfl rfl rfl rfl rfl rfl ?_ | refine AOps.alloc Try.hX kn rfl rfl rfl rfl rfl rfl rfl ?_ | refine AOps.store Try.hX kn rfl rfl rfl rfl rfl rfl rfl rfl rfl rfl rfl ?_ | refine AOps.buildSlice Try.hX kn rfl rfl rfl rfl rfl rfl rfl rfl rfl rfl rfl rfl ?_ | refine AOps.append Try.hX kn rfl rfl rfl rfl rfl rfl rfl rfl rfl rfl rfl rfl rfl rfl rfl rfl rfl rfl rfl rfl rfl ?_ ?_ | refine AOps.toStr Try.hX kn rfl rfl rfl rfl rfl rfl rfl rfl rfl rfl rfl (by first | exact rfl | exact byte1 _) rfl ?_ | refine AOps.buildArr Try.hX kn rfl rfl rfl rfl rfl rfl rfl rfl ?_ | refine AOps.indexArr Try.hX kn rfl rfl rfl rfl rfl rfl rfl rfl rfl rfl rfl rfl ?_ | refine AOps.runP1 Try.hX kn rfl rfl ?_ | (refine AOps.splitT rfl rfl rfl asm (fun h => ?_) <;> (fail_if_success (cases h; done)) <;> rw [h]) | (refine AOps.splitF rfl rfl rfl asm (fun h => ?_) <;> (fail_if_success (cases h; done)) <;> rw [h]) | (refine AOps.split rfl rfl rfl (fun h => ?_) (fun h => ?_) <;> (fail_if_success (cases h; done)) <;> rw [h]) | refine AOps.drawn (by kernel_rfl) ?_)
      refine AK.ren [(6, 6), (11, 11)] [(11000, (0, none))] (env' := [(15, .c (.int .i64 (0 : Nat))), (14, .c (.int .i64 ((left : Int) - ((left - 1 : Nat) : Int)))), (12, .c (.int .i64 (m : Nat))), (10, .c (.clo 134 [])), (0, .c (.str r)), (1, .c (.int .i64 (g + 1 : Nat))), (2, .c (.int .i64 left)), (6, .ptr 6 0), (11, .ptr 11 0)])
        (bs' := [(6, [.c (.int .i64 0), .c (.int .i64 0), .c (.int .i64 0), .c (.str []), .own .exact 5 []]), (11, [.c (.int .i64 2), .c (.int .i64 0), .c (.int .i64 (IntKind.i64.wrap ((p.toNat : Nat) : Int))), .c (.str []), .own (.tok 11000 0) 5 []])]) (ts' := [(11000, 0)]) (us' := [6, 11, 11000])
        ⟨⟨_, rfl, .inl rfl⟩, ⟨_, rfl, .inl (congrArg (fun k => AV.c (CV.int .i64 k)) (show (1 : Int) = (left : Int) - ((left - 1 : Nat) : Int) from by omega))⟩, ⟨_, rfl, .inl rfl⟩, ⟨_, rfl, .inl rfl⟩, ⟨_, rfl, .inl rfl⟩, ⟨_, rfl, .inl rfl⟩, ⟨_, rfl, .inl rfl⟩, ⟨_, rfl, ⟨_, rfl, rfl⟩⟩, ⟨_, rfl, ⟨_, rfl, rfl⟩⟩, trivial⟩ ⟨⟨_, _, rfl, rfl, ⟨_, _, rfl, .inl rfl, ⟨_, _, rfl, .inl rfl, ⟨_, _, rfl, .inl rfl, ⟨_, _, rfl, .inl rfl, ⟨_, _, rfl, rfl, rfl⟩⟩⟩⟩⟩⟩, ⟨_, _, rfl, rfl, ⟨_, _, rfl, .inl rfl, ⟨_, _, rfl, .inl rfl, ⟨_, _, rfl, .inl rfl, ⟨_, _, rfl, .inl rfl, ⟨_, _, rfl, ⟨_, rfl, .inl ⟨rfl, _, rfl, .inr rfl⟩⟩, rfl⟩⟩⟩⟩⟩⟩, trivial⟩ rfl ?_
      refine AK.loopE (α := Nat × List Nd × List UInt8 × Nat) (fun z => z.1 ≤ m ∧ z.1 = z.2.1.length ∧ z.1 + z.2.2.2 ≤ left - 1 ∧ z.2.2.1.length ≤ 1048577 ∧ rdRow (rdNode g) m r (left - 1) = rdCat z.2.1 (rdRow (rdNode g) (m - z.1) z.2.2.1 z.2.2.2)) (fun z => m - z.1)
        (fun z => [(15, .c (.int .i64 z.1)), (14, .c (.int .i64 ((left : Int) - (z.2.2.2 : Nat)))), (12, .c (.int .i64 (m : Nat))), (10, .c (.clo 134 [])), (0, .c (.str z.2.2.1)), (1, .c (.int .i64 (g + 1 : Nat))), (2, .c (.int .i64 left)), (6, .ptr 6 0), (11, .ptr 11 0)])
        (fun z => [(6, [.c (.int .i64 0), .c (.int .i64 0), .c (.int .i64 0), .c (.str []), .own .exact 5 []]), (11, [.c (.int .i64 2), .c (.int .i64 0), .c (.int .i64 (IntKind.i64.wrap ((p.toNat : Nat) : Int))), .c (.str []), .own (.tok 11000 0) 5 (encNds z.2.1)])]) (fun _ => [(11000, 0)]) [6, 11, 11000] (0, [], r, left - 1)
        ⟨by omega, rfl, by show 0 + (left - 1) ≤ left - 1; omega, by show r.length ≤ 1048577; omega, by rw [rdCat_nil]; rfl⟩ ⟨.inl rfl, .inl rfl, .inl rfl, .inl rfl, .inl rfl, .inl rfl, .inl rfl, .inl rfl, .inl rfl, trivial⟩ ⟨rfl, rfl, trivial⟩ ⟨rfl, trivial⟩ rfl rfl rfl ?_
      rintro ⟨i, acc, s', l⟩ ⟨hi, hia, hil, hsl, hinv⟩ ih
      simp only at hi hia hil hsl hinv
      clear hd hdl e3 e2 e1 h2 z0
      have hwl : IntKind.i64.wrap ((left : Int) - ((left : Int) - (l : Nat))) = (l : Int) := by rw [w64 (by omega) (by omega)]; omega
      by_cases him : i < m
      · have ci : decide (((i : Nat) : Int) < ((m : Nat) : Int)) = true := decide_eq_true (by omega)
        have hq := hin s' l (by omega) hsl
        rw [← hwl] at hq
        rw [show m - i = m - (i + 1) + 1 from by omega] at hinv
        cases hr : rdNode g s' l with
        | no e =>
          rw [hr] at hq
          have he := rd_err g s' l e (by omega) (by omega) hr
          have c1 : (e != 0) = true := by simpa using he
          have hq' : QCalls Try.prog Try.X 110 [.str s', .int .i64 (IntKind.i64.wrap (((g + 1 : Nat) : Int) - 1)), .int .i64 (IntKind.i64.wrap ((left : Int) - ((left : Int) - (l : Nat))))] (.tup [encNd nd0, .str [], .int .i64 0, .int .i64 e]) := hq
          rw [hinv, rdCat_no _ _ _ _ _ _ hr]
          have ne := readNode1_calls e
          clear ih hinv hq
          repeat' (first | refine AK.runP Try.hX Try.mixed 300 rfl ?_ | refine AK.condTe rfl asm ?_ | refine AK.condFe rfl asm ?_ | (refine AK.condS rfl (fun h => ?_) (fun h => ?_) <;> first | (cases h; done) | rw [h] | skip) | refine AK.retQ Try.hX hf rfl rfl ?_ | refine AK.region Try.mixed rfl ?_ | refine AOps.done ?_ | refine AOps.runS Try.hX kn rfl ?_ | refine AOps.callc kn rfl rfl rfl rfl rfl (ne) ?_ | refine AOps.callq kn rfl rfl rfl rfl (hq') ?_ | refine AOps.box kn rfl rfl rfl rfl rfl rfl ?_ | refine AOps.alloc Try.hX kn rfl rfl rfl rfl rfl rfl rfl ?_ | refine AOps.store Try.hX kn rfl rfl rfl rfl rfl rfl rfl rfl rfl rfl rfl ?_ | refine AOps.buildSlice Try.hX kn rfl rfl rfl rfl rfl rfl rfl rfl rfl rfl rfl rfl ?_ | refine AOps.append Try.hX kn rfl rfl rfl rfl rfl rfl rfl rfl rfl rfl rfl rfl rfl rfl rfl rfl rfl rfl rfl rfl rfl ?_ ?_ | refine AOps.toStr Try.hX kn rfl rfl rfl rfl rfl rfl rfl rfl rfl rfl rfl (by first | exact rfl | exact byte1 _) rfl ?_ | refine AOps.buildArr Try.hX kn rfl rfl rfl rfl rfl rfl rfl rfl ?_ | refine AOps.indexArr Try.hX kn rfl rfl rfl rfl rfl rfl rfl rfl rfl rfl rfl rfl ?_ | refine AOps.runP1 Try.hX kn rfl rfl ?_ | (refine AOps.splitT rfl rfl rfl asm (fun h => ?_) <;> (fail_if_success (cases h; done)) <;> rw [h]) | (refine AOps.splitF rfl rfl rfl asm (fun h => ?_) <;> (fail_if_success (cases h; done)) <;> rw [h]) | (refine AOps.split rfl rfl rfl (fun h => ?_) (fun h => ?_) <;> (fail_if_success (cases h; done)) <;> rw [h]) | refine AOps.drawn (by kernel_rfl) ?_)
          all_goals rfl
        | ok x r' l' =>
          rw [hr] at hq
          have hle := rd_lt g s' l x r' l' (by omega) (by omega) hr
          obtain ⟨x1, x2, x3, x4, x5⟩ := x
          have hq' : QCalls Try.prog Try.X 110 [.str s', .int .i64 (IntKind.i64.wrap (((g + 1 : Nat) : Int) - 1)), .int .i64 (IntKind.i64.wrap ((left : Int) - ((left : Int) - (l : Nat))))] (.tup [encNd (.mk x1 x2 x3 x4 x5), .str r', .int .i64 ((l : Int) - (l' : Nat)), .int .i64 0]) := hq
          rw [rdCat_ok _ _ _ _ _ _ _ _ hr] at hinv
          clear hq
          repeat' (first | refine AK.runP Try.hX Try.mixed 300 rfl ?_ | refine AK.condTe rfl asm ?_ | refine AK.condFe rfl asm ?_ | (refine AK.condS rfl (fun h => ?_) (fun h => ?_) <;> first | (cases h; done) | rw [h] | skip) | refine AK.retQ Try.hX hf rfl rfl ?_ | refine AK.region Try.mixed rfl ?_ | refine AOps.done ?_ | refine AOps.runS Try.hX kn rfl ?_ | refine AOps.callq kn rfl rfl rfl rfl (hq') ?_ | refine AOps.box kn rfl rfl rfl rfl rfl rfl ?_ | refine AOps.alloc Try.hX kn rfl rfl rfl rfl rfl rfl rfl ?_ | refine AOps.store Try.hX kn rfl rfl rfl rfl rfl rfl rfl rfl rfl rfl rfl ?_ | refine AOps.buildSlice Try.hX kn rfl rfl rfl rfl rfl rfl rfl rfl rfl rfl rfl rfl ?_ | refine AOps.append Try.hX kn rfl rfl rfl rfl rfl rfl rfl rfl rfl rfl rfl rfl rfl rfl rfl rfl rfl rfl rfl rfl rfl ?_ ?_ | refine AOps.toStr Try.hX kn rfl rfl rfl rfl rfl rfl rfl rfl rfl rfl rfl (by first | exact rfl | exact byte1 _) rfl ?_ | refine AOps.buildArr Try.hX kn rfl rfl rfl rfl rfl rfl rfl rfl ?_ | refine AOps.indexArr Try.hX kn rfl rfl rfl rfl rfl rfl rfl rfl rfl rfl rfl rfl ?_ | refine AOps.runP1 Try.hX kn rfl rfl ?_ | (refine AOps.splitT rfl rfl rfl asm (fun h => ?_) <;> (fail_if_success (cases h; done)) <;> rw [h]) | (refine AOps.splitF rfl rfl rfl asm (fun h => ?_) <;> (fail_if_success (cases h; done)) <;> rw [h]) | (refine AOps.split rfl rfl rfl (fun h => ?_) (fun h => ?_) <;> (fail_if_success (cases h; done)) <;> rw [h]) | refine AOps.drawn (by kernel_rfl) ?_)
          · have h1 := encNds_length acc
            simp only [List.length_cons, List.length_nil]
            omega
          · have hap : encNds acc ++ [encNd (.mk x1 x2 x3 x4 x5)] = encNds (acc ++ [Nd.mk x1 x2 x3 x4 x5]) := (encNds_append acc [.mk x1 x2 x3 x4 x5]).symm
            have hmany : IntKind.i64.wrap (((left : Int) - (l : Nat)) + ((l : Int) - (l' : Nat))) = (left : Int) - (l' : Nat) := by rw [w64 (by omega) (by omega)]; omega
            refine AK.ren [(6, 6), (11, 11)] [(11000, (0, some 11000))] (env' := [(15, .c (.int .i64 ((i + 1 : Nat) : Int))), (14, .c (.int .i64 ((left : Int) - (l' : Nat)))), (12, .c (.int .i64 (m : Nat))), (10, .c (.clo 134 [])), (0, .c (.str r')), (1, .c (.int .i64 (g + 1 : Nat))), (2, .c (.int .i64 left)), (6, .ptr 6 0), (11, .ptr 11 0)])
              (bs' := [(6, [.c (.int .i64 0), .c (.int .i64 0), .c (.int .i64 0), .c (.str []), .own .exact 5 []]), (11, [.c (.int .i64 2), .c (.int .i64 0), .c (.int .i64 (IntKind.i64.wrap ((p.toNat : Nat) : Int))), .c (.str []), .own (.tok 11000 0) 5 (encNds (acc ++ [Nd.mk x1 x2 x3 x4 x5]))])]) (ts' := [(11000, 0)]) (us' := [6, 11, 11000])
              ⟨⟨_, rfl, .inl (succ64' (i := i) (by omega))⟩, ⟨_, rfl, .inl (congrArg (fun k => AV.c (CV.int .i64 k)) hmany)⟩, ⟨_, rfl, .inl rfl⟩, ⟨_, rfl, .inl rfl⟩, ⟨_, rfl, .inl rfl⟩, ⟨_, rfl, .inl rfl⟩, ⟨_, rfl, .inl rfl⟩, ⟨_, rfl, ⟨_, rfl, rfl⟩⟩, ⟨_, rfl, ⟨_, rfl, rfl⟩⟩, trivial⟩ ⟨⟨_, _, rfl, rfl, ⟨_, _, rfl, .inl rfl, ⟨_, _, rfl, .inl rfl, ⟨_, _, rfl, .inl rfl, ⟨_, _, rfl, .inl rfl, ⟨_, _, rfl, rfl, rfl⟩⟩⟩⟩⟩⟩, ⟨_, _, rfl, rfl, ⟨_, _, rfl, .inl rfl, ⟨_, _, rfl, .inl rfl, ⟨_, _, rfl, .inl rfl, ⟨_, _, rfl, .inl rfl, ⟨_, _, rfl, ⟨_, rfl, .inr ⟨_, _, rfl, rfl, congrArg (AV.own (.tok 11000 1) 5) hap⟩⟩, rfl⟩⟩⟩⟩⟩⟩, trivial⟩ rfl ?_
            exact ih (i + 1, acc ++ [Nd.mk x1 x2 x3 x4 x5], r', l') ⟨him, by simp [hia], by show i + 1 + l' ≤ left - 1; omega, by show r'.length ≤ 1048577; omega, hinv⟩ (by show m - (i + 1) < m - i; omega)
      · have ci : decide (((i : Nat) : Int) < ((m : Nat) : Int)) = false := decide_eq_false (by omega)
        rw [hinv, show m - i = 0 from by omega, rdCat_end]
        clear ih hinv
        repeat' (first | refine AK.runP Try.hX Try.mixed 300 rfl ?_ | refine AK.condTe rfl asm ?_ | refine AK.condFe rfl asm ?_ | (refine AK.condS rfl (fun h => ?_) (fun h => ?_) <;> first | (cases h; done) | rw [h] | skip) | refine AK.retQ Try.hX hf rfl rfl ?_ | refine AK.region Try.mixed rfl ?_ | refine AOps.done ?_ | refine AOps.runS Try.hX kn rfl ?_ | refine AOps.box kn rfl rfl rfl rfl rfl rfl ?_ | refine AOps.alloc Try.hX kn rfl rfl rfl rfl rfl rfl rfl ?_ | refine AOps.store Try.hX kn rfl rfl rfl rfl rfl rfl rfl rfl rfl rfl rfl ?_ | refine AOps.buildSlice Try.hX kn rfl rfl rfl rfl rfl rfl rfl rfl rfl rfl rfl rfl ?_ | refine AOps.append Try.hX kn rfl rfl rfl rfl rfl rfl rfl rfl rfl rfl rfl rfl rfl rfl rfl rfl rfl rfl rfl rfl rfl ?_ ?_ | refine AOps.toStr Try.hX kn rfl rfl rfl rfl rfl rfl rfl rfl rfl rfl rfl (by first | exact rfl | exact byte1 _) rfl ?_ | refine AOps.buildArr Try.hX kn rfl rfl rfl rfl rfl rfl rfl rfl ?_ | refine AOps.indexArr Try.hX kn rfl rfl rfl rfl rfl rfl rfl rfl rfl rfl rfl rfl ?_ | refine AOps.runP1 Try.hX kn rfl rfl ?_ | (refine AOps.splitT rfl rfl rfl asm (fun h => ?_) <;> (fail_if_success (cases h; done)) <;> rw [h]) | (refine AOps.splitF rfl rfl rfl asm (fun h => ?_) <;> (fail_if_success (cases h; done)) <;> rw [h]) | (refine AOps.split rfl rfl rfl (fun h => ?_) (fun h => ?_) <;> (fail_if_success (cases h; done)) <;> rw [h]) | refine AOps.drawn (by kernel_rfl) ?_)
        all_goals rfl
    · obtain rfl : c = 3 := UInt8.toNat_inj.1 h
      clear h hc3 hct
      have c3' : (bif ((3 :: s) == (ByteArray.mk #[]).data.toList) then true else decide ((((3 : UInt8).toNat : Nat) : Int) > 3)) = false := rfl
      have kt0 : (IntKind.i64.wrap (((3 : UInt8).toNat : Nat) : Int) == 2) = false := by decide
      have kt1 : (IntKind.i64.wrap (((3 : UInt8).toNat : Nat) : Int) == 0) = false := by decide
      have kt2 : (IntKind.i64.wrap (((3 : UInt8).toNat : Nat) : Int) == 1) = false := by decide
      show QCalls _ _ _ _ (rdTup left (rdBody (rdNode g) 3 s (left - 1)))
      rw [rbody3]
      have h2 := numberOf_calls s (by omega)
      rcases nOf_cases s with ⟨e1, e2⟩ | ⟨n, r, e2, e3, b1, b2, e1⟩
      · rw [rargs_no _ _ _ _ _ e2]
        rw [e1] at h2
        simp only at h2
        refine QCalls.of Try.func110 rfl (fun args w => Try.call110 args w) (Nat.le_of_ble_eq_true rfl) [(0, .c (.str (3 :: s))), (1, .c (.int .i64 (g + 1 : Nat))), (2, .c (.int .i64 left))] rfl fun β hβ => ?_; have hf := Try.func110
        repeat' (first | refine AK.runP Try.hX Try.mixed 300 rfl ?_ | refine AK.condTe rfl asm ?_ | refine AK.condFe rfl asm ?_ | (refine AK.condS rfl (fun h => ?_) (fun h => ?_) <;> first | (cases h; done) | rw [h] | skip) | refine AK.retQ Try.hX hf rfl rfl ?_ | refine AK.region Try.mixed rfl ?_ | refine AOps.done ?_ | refine AOps.runS Try.hX kn rfl ?_ | refine AOps.callc kn rfl rfl rfl rfl rfl (n1) ?_ | refine AOps.callq kn rfl rfl rfl rfl (h2) ?_ | refine AOps.box kn rfl rfl rfl rfl rfl rfl ?_ | refine AOps.alloc Try.hX kn rfl rfl rfl rfl rfl rfl rfl ?_ | refine AOps.store Try.hX kn rfl rfl rfl rfl rfl rfl rfl rfl rfl rfl rfl ?_ | refine AOps.buildSlice Try.hX kn rfl rfl rfl rfl rfl rfl rfl rfl rfl rfl rfl rfl ?_ | refine AOps.append Try.hX kn rfl rfl rfl rfl rfl rfl rfl rfl rfl rfl rfl rfl rfl rfl rfl rfl rfl rfl rfl rfl rfl ?_ ?_ | refine AOps.toStr Try.hX kn rfl rfl rfl rfl rfl rfl rfl rfl rfl rfl rfl (by first | exact rfl | exact byte1 _) rfl ?_ | refine AOps.buildArr Try.hX kn rfl rfl rfl rfl rfl rfl rfl rfl ?_ | refine AOps.indexArr Try.hX kn rfl rfl rfl rfl rfl rfl rfl rfl rfl rfl rfl rfl ?_ | refine AOps.runP1 Try.hX kn rfl rfl ?_ | (refine AOps.splitT rfl rfl rfl asm (fun h => ?_) <;> (fail_if_success (cases h; done)) <;> rw [h]) | (refine AOps.splitF rfl rfl rfl asm (fun h => ?_) <;> (fail_if_success (cases h; done)) <;> rw [h]) | (refine AOps.split rfl rfl rfl (fun h => ?_) (fun h => ?_) <;> (fail_if_success (cases h; done)) <;> rw [h]) | refine AOps.drawn (by kernel_rfl) ?_)
        all_goals rfl
      rw [e1] at h2
      simp only at h2
      have z0 : ((((numB n).length : Nat) : Int) == 0) = false := by have := numB_ne n; simp [this]
      have hd := drop_len _ _ _ e3
      have hdl : (numB n).length ≤ s.length := by rw [e3]; simp
      by_cases k1 : n < 0
      · rw [rargs_neg _ _ _ _ _ _ _ e2 k1]
        have f1 : decide (n < 0) = true := decide_eq_true k1
        refine QCalls.of Try.func110 rfl (fun args w => Try.call110 args w) (Nat.le_of_ble_eq_true rfl) [(0, .c (.str (3 :: s))), (1, .c (.int .i64 (g + 1 : Nat))), (2, .c (.int .i64 left))] rfl fun β hβ => ?_; have hf := Try.func110
        repeat' (first | refine AK.runP Try.hX Try.mixed 300 rfl ?_ | refine AK.condTe rfl asm ?_ | refine AK.condFe rfl asm ?_ | (refine AK.condS rfl (fun h => ?_) (fun h => ?_) <;> first | (cases h; done) | rw [h] | skip) | refine AK.retQ Try.hX hf rfl rfl ?_ | refine AK.region Try.mixed rfl ?_ | refine AOps.done ?_ | refine AOps.runS Try.hX kn rfl ?_ | refine AOps.callc kn rfl rfl rfl rfl rfl (n1) ?_ | refine AOps.callq kn rfl rfl rfl rfl (h2) ?_ | (refine AOps.sliceStr Try.hX kn rfl rfl rfl rfl rfl rfl (l := some (numB n).length) (h := none) rfl rfl (Nat.le_refl _) hdl ?_; rw [show List.drop ((some (numB n).length).getD 0) (List.take (Option.getD none s.length) s) = r from hd]) | refine AOps.box kn rfl rfl rfl rfl rfl rfl ?_ | refine AOps.alloc Try.hX kn rfl rfl rfl rfl rfl rfl rfl ?_ | refine AOps.store Try.hX kn rfl rfl rfl rfl rfl rfl rfl rfl rfl rfl rfl ?_ | refine AOps.buildSlice Try.hX kn rfl rfl rfl rfl rfl rfl rfl rfl rfl rfl rfl rfl ?_ | refine AOps.append Try.hX kn rfl rfl rfl rfl rfl rfl rfl rfl rfl rfl rfl rfl rfl rfl rfl rfl rfl rfl rfl rfl rfl ?_ ?_ | refine AOps.toStr Try.hX kn rfl rfl rfl rfl rfl rfl rfl rfl rfl rfl rfl (by first | exact rfl | exact byte1 _) rfl ?_ | refine AOps.buildArr Try.hX kn rfl rfl rfl rfl rfl rfl rfl rfl ?_ | refine AOps.indexArr Try.hX kn rfl rfl rfl rfl rfl rfl rfl rfl rfl rfl rfl rfl ?_ | refine AOps.runP1 Try.hX kn rfl rfl ?_ | (refine AOps.splitT rfl rfl rfl asm (fun h => ?_) <;> (fail_if_success (cases h; done)) <;> rw [h]) | (refine AOps.splitF rfl rfl rfl asm (fun h => ?_) <;> (fail_if_success (cases h; done)) <;> rw [h]) | (refine AOps.split rfl rfl rfl (fun h => ?_) (fun h => ?_) <;> (fail_if_success (cases h; done)) <;> rw [h]) | refine AOps.drawn (by kernel_rfl) ?_)
        all_goals rfl
      obtain ⟨m, rfl⟩ : ∃ m : Nat, n = m := ⟨n.toNat, by omega⟩
      have f1 : decide (((m : Nat) : Int) < 0) = false := decide_eq_false k1
      rw [rowTup_eq left _ 3 0 s _ m r e2]
      have hrl : r.length ≤ s.length := by rw [e3]; simp
      unfold maxI at b2
      refine QCalls.of Try.func110 rfl (fun args w => Try.call110 args w) (Nat.le_of_ble_eq_true rfl) [(0, .c (.str (3 :: s))), (1, .c (.int .i64 (g + 1 : Nat))), (2, .c (.int .i64 left))] rfl fun β hβ => ?_; have hf := Try.func110
      repeat' (first | refine AK.runP Try.hX Try.mixed 300 rfl ?_ | refine AK.condTe rfl asm ?_ | refine AK.condFe rfl asm ?_ | (refine AK.condS rfl (fun h => ?_) (fun h => ?_) <;> first | (cases h; done) | rw [h] | skip) | refine AK.retQ Try.hX hf rfl rfl ?_ | refine AK.region Try.mixed rfl ?_ | refine AOps.done ?_ | refine AOps.runS Try.hX kn rfl ?_ | refine AOps.callc kn rfl rfl rfl rfl rfl (n1) ?_ | refine AOps.callq kn rfl rfl rfl rfl (h2) ?_ | (refine AOps.sliceStr Try.hX kn rfl rfl rfl rfl rfl rfl (l := some (numB (m : Int)).length) (h := none) rfl rfl (Nat.le_refl _) hdl ?_; rw [show List.drop ((some (numB (m : Int)).length).getD 0) (List.take (Option.getD none s.length) s) = r from hd]) | refine AOps.box kn rfl rfl rfl rfl rfl rfl ?_ | refine AOps.alloc Try.hX kn rfl rfl rfl rfl rfl rfl rfl ?_ | refine AOps.store Try.hX kn rfl rfl rfl rfl rfl rfl rfl rfl rfl rfl rfl ?_ | refine AOps.buildSlice Try.hX kn rfl rfl rfl rfl rfl rfl rfl rfl rfl rfl rfl rfl ?_ | refine AOps.append Try.hX kn rfl rfl rfl rfl rfl rfl rfl rfl rfl rfl rfl rfl rfl rfl rfl rfl rfl rfl rfl rfl rfl ?_ ?_ | refine AOps.toStr Try.hX kn rfl rfl rfl rfl rfl rfl rfl rfl rfl rfl rfl (by first | exact rfl | exact byte1 _) rfl ?_ | refine AOps.buildArr Try.hX kn rfl rfl rfl rfl rfl rfl rfl rfl ?_ | refine AOps.indexArr Try.hX kn rfl rfl rfl rfl rfl rfl rfl rfl rfl rfl rfl rfl ?_ | refine AOps.runP1 Try.hX kn rfl rfl ?_ | (refine AOps.splitT rfl rfl rfl asm (fun h => ?_) <;> (fail_if_success (cases h; done)) <;> rw [h]) | (refine AOps.splitF rfl rfl rfl asm (fun h => ?_) <;> (fail_if_success (cases h; done)) <;> rw [h]) | (refine AOps.split rfl rfl rfl (fun h => ?_) (fun h => ?_) <;> (fail_if_success (cases h; done)) <;> rw [h]) | refine AOps.drawn (by kernel_rfl) ?_)
      refine AK.ren [(6, 6), (11, 11)] [(11000, (0, none))] (env' := [(15, .c (.int .i64 (0 : Nat))), (14, .c (.int .i64 ((left : Int) - ((left - 1 : Nat) : Int)))), (12, .c (.int .i64 (m : Nat))), (10, .c (.clo 134 [])), (0, .c (.str r)), (1, .c (.int .i64 (g + 1 : Nat))), (2, .c (.int .i64 left)), (6, .ptr 6 0), (11, .ptr 11 0)])
        (bs' := [(6, [.c (.int .i64 0), .c (.int .i64 0), .c (.int .i64 0), .c (.str []), .own .exact 5 []]), (11, [.c (.int .i64 3), .c (.int .i64 0), .c (.int .i64 0), .c (.str []), .own (.tok 11000 0) 5 []])]) (ts' := [(11000, 0)]) (us' := [6, 11, 11000])
        ⟨⟨_, rfl, .inl rfl⟩, ⟨_, rfl, .inl (congrArg (fun k => AV.c (CV.int .i64 k)) (show (1 : Int) = (left : Int) - ((left - 1 : Nat) : Int) from by omega))⟩, ⟨_, rfl, .inl rfl⟩, ⟨_, rfl, .inl rfl⟩, ⟨_, rfl, .inl rfl⟩, ⟨_, rfl, .inl rfl⟩, ⟨_, rfl, .inl rfl⟩, ⟨_, rfl, ⟨_, rfl, rfl⟩⟩, ⟨_, rfl, ⟨_, rfl, rfl⟩⟩, trivial⟩ ⟨⟨_, _, rfl, rfl, ⟨_, _, rfl, .inl rfl, ⟨_, _, rfl, .inl rfl, ⟨_, _, rfl, .inl rfl, ⟨_, _, rfl, .inl rfl, ⟨_, _, rfl, rfl, rfl⟩⟩⟩⟩⟩⟩, ⟨_, _, rfl, rfl, ⟨_, _, rfl, .inl rfl, ⟨_, _, rfl, .inl rfl, ⟨_, _, rfl, .inl rfl, ⟨_, _, rfl, .inl rfl, ⟨_, _, rfl, ⟨_, rfl, .inl ⟨rfl, _, rfl, .inr rfl⟩⟩, rfl⟩⟩⟩⟩⟩⟩, trivial⟩ rfl ?_
      refine AK.loopE (α := Nat × List Nd × List UInt8 × Nat) (fun z => z.1 ≤ m ∧ z.1 = z.2.1.length ∧ z.1 + z.2.2.2 ≤ left - 1 ∧ z.2.2.1.length ≤ 1048577 ∧ rdRow (rdNode g) m r (left - 1) = rdCat z.2.1 (rdRow (rdNode g) (m - z.1) z.2.2.1 z.2.2.2)) (fun z => m - z.1)
        (fun z => [(15, .c (.int .i64 z.1)), (14, .c (.int .i64 ((left : Int) - (z.2.2.2 : Nat)))), (12, .c (.int .i64 (m : Nat))), (10, .c (.clo 134 [])), (0, .c (.str z.2.2.1)), (1, .c (.int .i64 (g + 1 : Nat))), (2, .c (.int .i64 left)), (6, .ptr 6 0), (11, .ptr 11 0)])
        (fun z => [(6, [.c (.int .i64 0), .c (.int .i64 0), .c (.int .i64 0), .c (.str []), .own .exact 5 []]), (11, [.c (.int .i64 3), .c (.int .i64 0), .c (.int .i64 0), .c (.str []), .own (.tok 11000 0) 5 (encNds z.2.1)])]) (fun _ => [(11000, 0)]) [6, 11, 11000] (0, [], r, left - 1)
        ⟨by omega, rfl, by show 0 + (left - 1) ≤ left - 1; omega, by show r.length ≤ 1048577; omega, by rw [rdCat_nil]; rfl⟩ ⟨.inl rfl, .inl rfl, .inl rfl, .inl rfl, .inl rfl, .inl rfl, .inl rfl, .inl rfl, .inl rfl, trivial⟩ ⟨rfl, rfl, trivial⟩ ⟨rfl, trivial⟩ rfl rfl rfl ?_
      rintro ⟨i, acc, s', l⟩ ⟨hi, hia, hil, hsl, hinv⟩ ih
      simp only at hi hia hil hsl hinv
      clear hd hdl e3 e2 e1 h2 z0
      have hwl : IntKind.i64.wrap ((left : Int) - ((left : Int) - (l : Nat))) = (l : Int) := by rw [w64 (by omega) (by omega)]; omega
      by_cases him : i < m
      · have ci : decide (((i : Nat) : Int) < ((m : Nat) : Int)) = true := decide_eq_true (by omega)
        have hq := hin s' l (by omega) hsl
        rw [← hwl] at hq
        rw [show m - i = m - (i + 1) + 1 from by omega] at hinv
        cases hr : rdNode g s' l with
        | no e =>
          rw [hr] at hq
          have he := rd_err g s' l e (by omega) (by omega) hr
          have c1 : (e != 0) = true := by simpa using he
          have hq' : QCalls Try.prog Try.X 110 [.str s', .int .i64 (IntKind.i64.wrap (((g + 1 : Nat) : Int) - 1)), .int .i64 (IntKind.i64.wrap ((left : Int) - ((left : Int) - (l : Nat))))] (.tup [encNd nd0, .str [], .int .i64 0, .int .i64 e]) := hq
          rw [hinv, rdCat_no _ _ _ _ _ _ hr]
          have ne := readNode1_calls e
          clear ih hinv hq
          repeat' (first | refine AK.runP Try.hX Try.mixed 300 rfl ?_ | refine AK.condTe rfl asm ?_ | refine AK.condFe rfl asm ?_ | (refine AK.condS rfl (fun h => ?_) (fun h => ?_) <;> first | (cases h; done) | rw [h] | skip) | refine AK.retQ Try.hX hf rfl rfl ?_ | refine AK.region Try.mixed rfl ?_ | refine AOps.done ?_ | refine AOps.runS Try.hX kn rfl ?_ | refine AOps.callc kn rfl rfl rfl rfl rfl (ne) ?_ | refine AOps.callq kn rfl rfl rfl rfl (hq') ?_ | refine AOps.box kn rfl rfl rfl rfl rfl rfl ?_ | refine AOps.alloc Try.hX kn rfl rfl rfl rfl rfl rfl rfl ?_ | refine AOps.store Try.hX kn rfl rfl rfl rfl rfl rfl rfl rfl rfl rfl rfl ?_ | refine AOps.buildSlice Try.hX kn rfl rfl rfl rfl rfl rfl rfl rfl rfl rfl rfl rfl ?_ | refine AOps.append Try.hX kn rfl rfl rfl rfl rfl rfl rfl rfl rfl rfl rfl rfl rfl rfl rfl rfl rfl rfl rfl rfl rfl ?_ ?_ | refine AOps.toStr Try.hX kn rfl rfl rfl rfl rfl rfl rfl rfl rfl rfl rfl (by first | exact rfl | exact byte1 _) rfl ?_ | refine AOps.buildArr Try.hX kn rfl rfl rfl rfl rfl rfl rfl rfl ?_ | refine AOps.indexArr Try.hX kn rfl rfl rfl rfl rfl rfl rfl rfl rfl rfl rfl rfl ?_ | refine AOps.runP1 Try.hX kn rfl rfl ?_ | (refine AOps.splitT rfl rfl rfl asm (fun h => ?_) <;> (fail_if_success (cases h; done)) <;> rw [h]) | (refine AOps.splitF rfl rfl rfl asm (fun h => ?_) <;> (fail_if_success (cases h; done)) <;> rw [h]) | (refine AOps.split rfl rfl rfl (fun h => ?_) (fun h => ?_) <;> (fail_if_success (cases h; done)) <;> rw [h]) | refine AOps.drawn (by kernel_rfl) ?_)
          all_goals rfl
        | ok x r' l' =>
          rw [hr] at hq
          have hle := rd_lt g s' l x r' l' (by omega) (by omega) hr
          obtain ⟨x1, x2, x3, x4, x5⟩ := x
          have hq' : QCalls Try.prog Try.X 110 [.str s', .int .i64 (IntKind.i64.wrap (((g + 1 : Nat) : Int) - 1)), .int .i64 (IntKind.i64.wrap ((left : Int) - ((left : Int) - (l : Nat))))] (.tup [encNd (.mk x1 x2 x3 x4 x5), .str r', .int .i64 ((l : Int) - (l' : Nat)), .int .i64 0]) := hq
          rw [rdCat_ok _ _ _ _ _ _ _ _ hr] at hinv
          clear hq
          repeat' (first | refine AK.runP Try.hX Try.mixed 300 rfl ?_ | refine AK.condTe rfl asm ?_ | refine AK.condFe rfl asm ?_ | (refine AK.condS rfl (fun h => ?_) (fun h => ?_) <;> first | (cases h; done) | rw [h] | skip) | refine AK.retQ Try.hX hf rfl rfl ?_ | refine AK.region Try.mixed rfl ?_ | refine AOps.done ?_ | refine AOps.runS Try.hX kn rfl ?_ | refine AOps.callq kn rfl rfl rfl rfl (hq') ?_ | refine AOps.box kn rfl rfl rfl rfl rfl rfl ?_ | refine AOps.alloc Try.hX kn rfl rfl rfl rfl rfl rfl rfl ?_ | refine AOps.store Try.hX kn rfl rfl rfl rfl rfl rfl rfl rfl rfl rfl rfl ?_ | refine AOps.buildSlice Try.hX kn rfl rfl rfl rfl rfl rfl rfl rfl rfl rfl rfl rfl ?_ | refine AOps.append Try.hX kn rfl rfl rfl rfl rfl rfl rfl rfl rfl rfl rfl rfl rfl rfl rfl rfl rfl rfl rfl rfl rfl ?_ ?_ | refine AOps.toStr Try.hX kn rfl rfl rfl rfl rfl rfl rfl rfl rfl rfl rfl (by first | exact rfl | exact byte1 _) rfl ?_ | refine AOps.buildArr Try.hX kn rfl rfl rfl rfl rfl rfl rfl rfl ?_ | refine AOps.indexArr Try.hX kn rfl rfl rfl rfl rfl rfl rfl rfl rfl rfl rfl rfl ?_ | refine AOps.runP1 Try.hX kn rfl rfl ?_ | (refine AOps.splitT rfl rfl rfl asm (fun h => ?_) <;> (fail_if_success (cases h; done)) <;> rw [h]) | (refine AOps.splitF rfl rfl rfl asm (fun h => ?_) <;> (fail_if_success (cases h; done)) <;> rw [h]) | (refine AOps.split rfl rfl rfl (fun h => ?_) (fun h => ?_) <;> (fail_if_success (cases h; done)) <;> rw [h]) | refine AOps.drawn (by kernel_rfl) ?_)
          · have h1 := encNds_length acc
            simp only [List.length_cons, List.length_nil]
            omega
          · have hap : encNds acc ++ [encNd (.mk x1 x2 x3 x4 x5)] = encNds (acc ++ [Nd.mk x1 x2 x3 x4 x5]) := (encNds_append acc [.mk x1 x2 x3 x4 x5]).symm
            have hmany : IntKind.i64.wrap (((left : Int) - (l : Nat)) + ((l : Int) - (l' : Nat))) = (left : Int) - (l' : Nat) := by rw [w64 (by omega) (by omega)]; omega
            refine AK.ren [(6, 6), (11, 11)] [(11000, (0, some 11000))] (env' := [(15, .c (.int .i64 ((i + 1 : Nat) : Int))), (14, .c (.int .i64 ((left : Int) - (l' : Nat)))), (12, .c (.int .i64 (m : Nat))), (10, .c (.clo 134 [])), (0, .c (.str r')), (1, .c (.int .i64 (g + 1 : Nat))), (2, .c (.int .i64 left)), (6, .ptr 6 0), (11, .ptr 11 0)])
              (bs' := [(6, [.c (.int .i64 0), .c (.int .i64 0), .c (.int .i64 0), .c (.str []), .own .exact 5 []]), (11, [.c (.int .i64 3), .c (.int .i64 0), .c (.int .i64 0), .c (.str []), .own (.tok 11000 0) 5 (encNds (acc ++ [Nd.mk x1 x2 x3 x4 x5]))])]) (ts' := [(11000, 0)]) (us' := [6, 11, 11000])
              ⟨⟨_, rfl, .inl (succ64' (i := i) (by omega))⟩, ⟨_, rfl, .inl (congrArg (fun k => AV.c (CV.int .i64 k)) hmany)⟩, ⟨_, rfl, .inl rfl⟩, ⟨_, rfl, .inl rfl⟩, ⟨_, rfl, .inl rfl⟩, ⟨_, rfl, .inl rfl⟩, ⟨_, rfl, .inl rfl⟩, ⟨_, rfl, ⟨_, rfl, rfl⟩⟩, ⟨_, rfl, ⟨_, rfl, rfl⟩⟩, trivial⟩ ⟨⟨_, _, rfl, rfl, ⟨_, _, rfl, .inl rfl, ⟨_, _, rfl, .inl rfl, ⟨_, _, rfl, .inl rfl, ⟨_, _, rfl, .inl rfl, ⟨_, _, rfl, rfl, rfl⟩⟩⟩⟩⟩⟩, ⟨_, _, rfl, rfl, ⟨_, _, rfl, .inl rfl, ⟨_, _, rfl, .inl rfl, ⟨_, _, rfl, .inl rfl, ⟨_, _, rfl, .inl rfl, ⟨_, _, rfl, ⟨_, rfl, .inr ⟨_, _, rfl, rfl, congrArg (AV.own (.tok 11000 1) 5) hap⟩⟩, rfl⟩⟩⟩⟩⟩⟩, trivial⟩ rfl ?_
            exact ih (i + 1, acc ++ [Nd.mk x1 x2 x3 x4 x5], r', l') ⟨him, by simp [hia], by show i + 1 + l' ≤ left - 1; omega, by show r'.length ≤ 1048577; omega, hinv⟩ (by show m - (i + 1) < m - i; omega)
      · have ci : decide (((i : Nat) : Int) < ((m : Nat) : Int)) = false := decide_eq_false (by omega)
        rw [hinv, show m - i = 0 from by omega, rdCat_end]
        clear ih hinv
        repeat' (first | refine AK.runP Try.hX Try.mixed 300 rfl ?_ | refine AK.condTe rfl asm ?_ | refine AK.condFe rfl asm ?_ | (refine AK.condS rfl (fun h => ?_) (fun h => ?_) <;> first | (cases h; done) | rw [h] | skip) | refine AK.retQ Try.hX hf rfl rfl ?_ | refine AK.region Try.mixed rfl ?_ | refine AOps.done ?_ | refine AOps.runS Try.hX kn rfl ?_ | refine AOps.box kn rfl rfl rfl rfl rfl rfl ?_ | refine AOps.alloc Try.hX kn rfl rfl rfl rfl rfl rfl rfl ?_ | refine AOps.store Try.hX kn rfl rfl rfl rfl rfl rfl rfl rfl rfl rfl rfl ?_ | refine AOps.buildSlice Try.hX kn rfl rfl rfl rfl rfl rfl rfl rfl rfl rfl rfl rfl ?_ | refine AOps.append Try.hX kn rfl rfl rfl rfl rfl rfl rfl rfl rfl rfl rfl rfl rfl rfl rfl rfl rfl rfl rfl rfl rfl ?_ ?_ | refine AOps.toStr Try.hX kn rfl rfl rfl rfl rfl rfl rfl rfl rfl rfl rfl (by first | exact rfl | exact byte1 _) rfl ?_ | refine AOps.buildArr Try.hX kn rfl rfl rfl rfl rfl rfl rfl rfl ?_ | refine AOps.indexArr Try.hX kn rfl rfl rfl rfl rfl rfl rfl rfl rfl rfl rfl rfl ?_ | refine AOps.runP1 Try.hX kn rfl rfl ?_ | (refine AOps.splitT rfl rfl rfl asm (fun h => ?_) <;> (fail_if_success (cases h; done)) <;> rw [h]) | (refine AOps.splitF rfl rfl rfl asm (fun h => ?_) <;> (fail_if_success (cases h; done)) <;> rw [h]) | (refine AOps.split rfl rfl rfl (fun h => ?_) (fun h => ?_) <;> (fail_if_success (cases h; done)) <;> rw [h]) | refine AOps.drawn (by kernel_rfl) ?_)
        all_goals rfl
theorem DecodeNode_calls (s : List UInt8) (hs : s.length ≤ 1048577) : QCalls Try.prog Try.X 64 [.str s] (.tup [encNd (tDecode s).1, .int .i64 (tDecode s).2]) := by
  have h1 := readNode_calls 24 s 300 (by omega) (by omega) hs
  unfold tDecode
  cases hr : rdNode 24 s 300 with
  | no e =>
    rw [hr] at h1
    have he := rd_err 24 s 300 e (by omega) (by omega) hr
    have c1 : (e == 0) = false := by simpa using he
    have c2 : (e != 0) = true := by simpa using he
    refine QCalls.of Try.func64 rfl (fun args w => Try.call64 args w) (Nat.le_of_ble_eq_true rfl) [(0, .c (.str s))] rfl fun β hβ => ?_; have hf := Try.func64
    repeat' (first | refine AK.runP Try.hX Try.mixed 300 rfl ?_ | refine AK.condTe rfl asm ?_ | refine AK.condFe rfl asm ?_ | (refine AK.condS rfl (fun h => ?_) (fun h => ?_) <;> first | (cases h; done) | rw [h] | skip) | refine AK.retQ Try.hX hf rfl rfl ?_ | refine AK.region Try.mixed rfl ?_ | refine AOps.done ?_ | refine AOps.runS Try.hX kn rfl ?_ | refine AOps.callq kn rfl rfl rfl rfl (h1) ?_ | refine AOps.box kn rfl rfl rfl rfl rfl rfl ?_ | refine AOps.alloc Try.hX kn rfl rfl rfl rfl rfl rfl rfl ?_ | refine AOps.store Try.hX kn rfl rfl rfl rfl rfl rfl rfl rfl rfl rfl rfl ?_ | refine AOps.buildSlice Try.hX kn rfl rfl rfl rfl rfl rfl rfl rfl rfl rfl rfl rfl ?_ | refine AOps.append Try.hX kn rfl rfl rfl rfl rfl rfl rfl rfl rfl rfl rfl rfl rfl rfl rfl rfl rfl rfl rfl rfl rfl ?_ ?_ | refine AOps.toStr Try.hX kn rfl rfl rfl rfl rfl rfl rfl rfl rfl rfl rfl (by first | exact rfl | exact byte1 _) rfl ?_ | refine AOps.buildArr Try.hX kn rfl rfl rfl rfl rfl rfl rfl rfl ?_ | refine AOps.indexArr Try.hX kn rfl rfl rfl rfl rfl rfl rfl rfl rfl rfl rfl rfl ?_ | refine AOps.runP1 Try.hX kn rfl rfl ?_ | (refine AOps.splitT rfl rfl rfl asm (fun h => ?_) <;> (fail_if_success (cases h; done)) <;> rw [h]) | (refine AOps.splitF rfl rfl rfl asm (fun h => ?_) <;> (fail_if_success (cases h; done)) <;> rw [h]) | (refine AOps.split rfl rfl rfl (fun h => ?_) (fun h => ?_) <;> (fail_if_success (cases h; done)) <;> rw [h]) | refine AOps.drawn (by kernel_rfl) ?_)
    all_goals rfl
  | ok n r l =>
    rw [hr] at h1
    have hle := rd_le 24 s 300 n r l (by omega) (by omega) hr
    obtain ⟨n1, n2, n3, n4, n5⟩ := n
    have h1' : QCalls Try.prog Try.X 110 [.str s, .int .i64 24, .int .i64 300] (.tup [encNd (.mk n1 n2 n3 n4 n5), .str r, .int .i64 (((300 : Nat) : Int) - l), .int .i64 0]) := h1
    have c3 : decide ((((300 : Nat) : Int) - l) > 300) = false := decide_eq_false (by omega)
    cases r with
    | nil =>
      have c4 : (bif ((0 : Int) == 0) then bif !(([] : List UInt8) == (ByteArray.mk #[]).data.toList) then true else decide ((((300 : Nat) : Int) - l) > 300) else false) = false := by rw [c3]; rfl
      refine QCalls.of Try.func64 rfl (fun args w => Try.call64 args w) (Nat.le_of_ble_eq_true rfl) [(0, .c (.str s))] rfl fun β hβ => ?_; have hf := Try.func64
      repeat' (first | refine AK.runP Try.hX Try.mixed 300 rfl ?_ | refine AK.condTe rfl asm ?_ | refine AK.condFe rfl asm ?_ | (refine AK.condS rfl (fun h => ?_) (fun h => ?_) <;> first | (cases h; done) | rw [h] | skip) | refine AK.retQ Try.hX hf rfl rfl ?_ | refine AK.region Try.mixed rfl ?_ | refine AOps.done ?_ | refine AOps.runS Try.hX kn rfl ?_ | refine AOps.callq kn rfl rfl rfl rfl (h1') ?_ | refine AOps.box kn rfl rfl rfl rfl rfl rfl ?_ | refine AOps.alloc Try.hX kn rfl rfl rfl rfl rfl rfl rfl ?_ | refine AOps.store Try.hX kn rfl rfl rfl rfl rfl rfl rfl rfl rfl rfl rfl ?_ | refine AOps.buildSlice Try.hX kn rfl rfl rfl rfl rfl rfl rfl rfl rfl rfl rfl rfl ?_ | refine AOps.append Try.hX kn rfl rfl rfl rfl rfl rfl rfl rfl rfl rfl rfl rfl rfl rfl rfl rfl rfl rfl rfl rfl rfl ?_ ?_ | refine AOps.toStr Try.hX kn rfl rfl rfl rfl rfl rfl rfl rfl rfl rfl rfl (by first | exact rfl | exact byte1 _) rfl ?_ | refine AOps.buildArr Try.hX kn rfl rfl rfl rfl rfl rfl rfl rfl ?_ | refine AOps.indexArr Try.hX kn rfl rfl rfl rfl rfl rfl rfl rfl rfl rfl rfl rfl ?_ | refine AOps.runP1 Try.hX kn rfl rfl ?_ | (refine AOps.splitT rfl rfl rfl asm (fun h => ?_) <;> (fail_if_success (cases h; done)) <;> rw [h]) | (refine AOps.splitF rfl rfl rfl asm (fun h => ?_) <;> (fail_if_success (cases h; done)) <;> rw [h]) | (refine AOps.split rfl rfl rfl (fun h => ?_) (fun h => ?_) <;> (fail_if_success (cases h; done)) <;> rw [h]) | refine AOps.drawn (by kernel_rfl) ?_)
      all_goals rfl
    | cons b r =>
      simp only [if_neg (List.cons_ne_nil b r)]
      have c4 : (bif ((0 : Int) == 0) then bif !((b :: r) == (ByteArray.mk #[]).data.toList) then true else decide ((((300 : Nat) : Int) - l) > 300) else false) = true := rfl
      refine QCalls.of Try.func64 rfl (fun args w => Try.call64 args w) (Nat.le_of_ble_eq_true rfl) [(0, .c (.str s))] rfl fun β hβ => ?_; have hf := Try.func64
      repeat' (first | refine AK.runP Try.hX Try.mixed 300 rfl ?_ | refine AK.condTe rfl asm ?_ | refine AK.condFe rfl asm ?_ | (refine AK.condS rfl (fun h => ?_) (fun h => ?_) <;> first | (cases h; done) | rw [h] | skip) | refine AK.retQ Try.hX hf rfl rfl ?_ | refine AK.region Try.mixed rfl ?_ | refine AOps.done ?_ | refine AOps.runS Try.hX kn rfl ?_ | refine AOps.callq kn rfl rfl rfl rfl (h1') ?_ | refine AOps.box kn rfl rfl rfl rfl rfl rfl ?_ | refine AOps.alloc Try.hX kn rfl rfl rfl rfl rfl rfl rfl ?_ | refine AOps.store Try.hX kn rfl rfl rfl rfl rfl rfl rfl rfl rfl rfl rfl ?_ | refine AOps.buildSlice Try.hX kn rfl rfl rfl rfl rfl rfl rfl rfl rfl rfl rfl rfl ?_ | refine AOps.append Try.hX kn rfl rfl rfl rfl rfl rfl rfl rfl rfl rfl rfl rfl rfl rfl rfl rfl rfl rfl rfl rfl rfl ?_ ?_ | refine AOps.toStr Try.hX kn rfl rfl rfl rfl rfl rfl rfl rfl rfl rfl rfl (by first | exact rfl | exact byte1 _) rfl ?_ | refine AOps.buildArr Try.hX kn rfl rfl rfl rfl rfl rfl rfl rfl ?_ | refine AOps.indexArr Try.hX kn rfl rfl rfl rfl rfl rfl rfl rfl rfl rfl rfl rfl ?_ | refine AOps.runP1 Try.hX kn rfl rfl ?_ | (refine AOps.splitT rfl rfl rfl asm (fun h => ?_) <;> (fail_if_success (cases h; done)) <;> rw [h]) | (refine AOps.splitF rfl rfl rfl asm (fun h => ?_) <;> (fail_if_success (cases h; done)) <;> rw [h]) | (refine AOps.split rfl rfl rfl (fun h => ?_) (fun h => ?_) <;> (fail_if_success (cases h; done)) <;> rw [h]) | refine AOps.drawn (by kernel_rfl) ?_)
      all_goals rfl

set_option maxHeartbeats 0 in
theorem TreeDecodes_calls (s : List UInt8) (hs : s.length ≤ 1048576) : QCalls Try.prog Try.X 13 [.str s] (.bool true) := by
  have h1 := Decode_calls s
  have h2 := DecodeNode_calls s (by omega)
  have h3 := growsL_calls
  have hsz : ndSize (tDecode s).1 ≤ 1099511627776 := by
    by_cases he : (tDecode s).2 = 0
    · obtain ⟨hg, hb⟩ := tDecode_only he
      have := bytesN_size _ 1 (tGoodN_zero.1 hg).1
      rw [hb] at this; omega
    · rw [tDecode_bad he]; simp [nd0, ndSize, ndsSize]
  have h4 := SameNode_calls (tDecode s).1 (tDecode s).1 hsz
  rw [(ndSame_iff _ _).2 rfl] at h4
  rcases hr : tDecode s with ⟨⟨b1, b2, b3, b4, b5⟩, e⟩
  rw [hr] at h1 h2 h4
  have he : (e == e) = true := by simp
  refine QCalls.of Try.func13 rfl (fun args w => Try.call13 args w) (Nat.le_of_ble_eq_true rfl) [(0, .c (.str s))] rfl fun β hβ => ?_; have hf := Try.func13
  repeat' (first | refine AK.runP Try.hX Try.mixed 300 rfl ?_ | refine AK.condTe rfl asm ?_ | refine AK.condFe rfl asm ?_ | (refine AK.condS rfl (fun h => ?_) (fun h => ?_) <;> first | (cases h; done) | rw [h] | skip) | refine AK.retQ Try.hX hf rfl rfl ?_ | refine AK.region Try.mixed rfl ?_ | refine AOps.done ?_ | refine AOps.runS Try.hX kn rfl ?_ | refine AOps.callq kn rfl rfl rfl rfl (h1) ?_ | refine AOps.callq kn rfl rfl rfl rfl (h2) ?_ | refine AOps.callq kn rfl rfl rfl rfl (h3) ?_ | refine AOps.callq kn rfl rfl rfl rfl (h4) ?_ | refine AOps.box kn rfl rfl rfl rfl rfl rfl ?_ | refine AOps.alloc Try.hX kn rfl rfl rfl rfl rfl rfl rfl ?_ | refine AOps.store Try.hX kn rfl rfl rfl rfl rfl rfl rfl rfl rfl rfl rfl ?_ | refine AOps.buildSlice Try.hX kn rfl rfl rfl rfl rfl rfl rfl rfl rfl rfl rfl rfl ?_ | refine AOps.append Try.hX kn rfl rfl rfl rfl rfl rfl rfl rfl rfl rfl rfl rfl rfl rfl rfl rfl rfl rfl rfl rfl rfl ?_ ?_ | refine AOps.toStr Try.hX kn rfl rfl rfl rfl rfl rfl rfl rfl rfl rfl rfl (by first | exact rfl | exact byte1 _) rfl ?_ | refine AOps.buildArr Try.hX kn rfl rfl rfl rfl rfl rfl rfl rfl ?_ | refine AOps.indexArr Try.hX kn rfl rfl rfl rfl rfl rfl rfl rfl rfl rfl rfl rfl ?_ | refine AOps.runP1 Try.hX kn rfl rfl ?_ | (refine AOps.splitT rfl rfl rfl asm (fun h => ?_) <;> (fail_if_success (cases h; done)) <;> rw [h]) | (refine AOps.splitF rfl rfl rfl asm (fun h => ?_) <;> (fail_if_success (cases h; done)) <;> rw [h]) | (refine AOps.split rfl rfl rfl (fun h => ?_) (fun h => ?_) <;> (fail_if_success (cases h; done)) <;> rw [h]) | refine AOps.drawn (by kernel_rfl) ?_)
  all_goals rfl
end Go.Proofs
