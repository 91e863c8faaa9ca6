/- What readNode and DecodeNode of touchstoneref answer; the law TreeDecodes. What ParseValue and Unpack of touchstoneref answer; the law ValueParses. What the arguments of the laws read as: closed values of the chain's data. -/
import Derived.Test.YtcinhjfonmjneaaVal11
import Derived.Test.YtcinhjfonmjneaaNum1
import Derived.Test.YtcinhjfonmjneaaParsesA
import Derived.Test.YtcinhjfonmjneaaRows
import Derived.Test.YtcinhjfonmjneaaCtx
import Derived.WalkKit
import Derived.ProofKit
import Derived.OpenShut
-- WIDE
set_option linter.unusedVariables false
set_option linter.unusedSimpArgs false
namespace Go.Proofs
open Go.Abs

/-- What readNode of the reference answers. -/
def rdTup (left : Nat) : Rd Nd → CV
  | .no e => .tup [encNd nd0, .str [], .int .i64 0, .int .i64 e]
  | .ok n r l => .tup [encNd n, .str r, .int .i64 ((left : Int) - l), .int .i64 0]
/-- Some nodes ahead of what is read. -/
def rdCat (acc : List Nd) : Rd (List Nd) → Rd (List Nd)
  | .no e => .no e
  | .ok l s left => .ok (acc ++ l) s left
theorem rdCat_nil (x : Rd (List Nd)) : rdCat [] x = x := by cases x <;> rfl
theorem rdCat_no (f : List UInt8 → Nat → Rd Nd) (acc : List Nd) (k : Nat) (s : List UInt8) (left : Nat) (e : Int) (h : f s left = .no e) : rdCat acc (rdRow f (k + 1) s left) = .no e := by simp only [rdRow, h, rdCat]
theorem rdCat_ok (f : List UInt8 → Nat → Rd Nd) (acc : List Nd) (k : Nat) (s : List UInt8) (left : Nat) (x : Nd) (s' : List UInt8) (left' : Nat) (h : f s left = .ok x s' left') : rdCat acc (rdRow f (k + 1) s left) = rdCat (acc ++ [x]) (rdRow f k s' left') := by
  simp only [rdRow, h]
  cases rdRow f k s' left' <;> simp [rdCat]
theorem rdCat_end (f : List UInt8 → Nat → Rd Nd) (acc : List Nd) (s : List UInt8) (left : Nat) : rdCat acc (rdRow f 0 s left) = .ok acc s left := by simp [rdRow, rdCat]
theorem rd_le : ∀ (g : Nat) (s : List UInt8) (left : Nat) (n : Nd) (r : List UInt8) (left' : Nat), g ≤ 24 → left ≤ 300 → rdNode g s left = .ok n r left' → left' ≤ left ∧ r.length ≤ s.length := by
  intro g s left n r left' hg hl h
  have h1 := rdNode_ok g s left n r left' hg h
  refine ⟨?_, by rw [h1.1]; simp⟩
  omega
theorem rd_lt : ∀ (g : Nat) (s : List UInt8) (left : Nat) (n : Nd) (r : List UInt8) (left' : Nat), g ≤ 24 → left ≤ 300 → rdNode g s left = .ok n r left' → left' < left ∧ r.length ≤ s.length := by
  intro g s left n r left' hg hl h
  have h1 := rdNode_ok g s left n r left' hg h
  refine ⟨?_, by rw [h1.1]; simp⟩
  have : 1 ≤ many n := by cases n; simp [many]
  omega
theorem rd_err : ∀ (g : Nat) (s : List UInt8) (left : Nat) (e : Int), g ≤ 24 → left ≤ 300 → rdNode g s left = .no e → e ≠ 0 := by
  intro g s left e hg hl h
  rcases rdNode_no g s left e hg hl h with h | h <;> omega
theorem node_zero (s : List UInt8) (left : Nat) : rdNode 0 s left = .no 4 := rfl
theorem node_left (g : Nat) (s : List UInt8) : rdNode (g + 1) s 0 = .no 4 := rfl
theorem node_nil (g : Nat) (left : Nat) (h : left ≠ 0) : rdNode (g + 1) [] left = .no 1 := by simp only [rdNode, if_neg h]
theorem node_cons (g : Nat) (c : UInt8) (s : List UInt8) (left : Nat) (h : left ≠ 0) : rdNode (g + 1) (c :: s) left = rdBody (rdNode g) c.toNat s (left - 1) := by simp only [rdNode, if_neg h]
theorem rbody_no (f : List UInt8 → Nat → Rd Nd) (c : Nat) (s : List UInt8) (left : Nat) (h : c > 3) : rdBody f c s left = .no 1 := by
  simp only [rdBody]; rw [if_neg (by omega), if_neg (by omega), if_neg (by omega), if_neg (by omega)]
theorem rbody0_no (f : List UInt8 → Nat → Rd Nd) (s : List UInt8) (left : Nat) (h : takeNum s = none) : rdBody f 0 s left = .no 1 := by simp [rdBody, h]
theorem rbody0 (f : List UInt8 → Nat → Rd Nd) (s : List UInt8) (left : Nat) (n : Int) (r : List UInt8) (h : takeNum s = some (n, r)) : rdBody f 0 s left = .ok (.mk 0 n 0 [] []) r left := by simp [rdBody, h]
theorem rbody1_no (f : List UInt8 → Nat → Rd Nd) (s : List UInt8) (left : Nat) (h : takeNum s = none) : rdBody f 1 s left = .no 1 := by simp [rdBody, h]
theorem rbody1_bad (f : List UInt8 → Nat → Rd Nd) (s : List UInt8) (left : Nat) (n : Int) (r : List UInt8) (h : takeNum s = some (n, r)) (hb : n < 0 ∨ n > 200 ∨ n > r.length) : rdBody f 1 s left = .no 1 := by
  simp only [rdBody, h, if_pos hb]; simp
theorem rbody1 (f : List UInt8 → Nat → Rd Nd) (s : List UInt8) (left : Nat) (n : Int) (r : List UInt8) (h : takeNum s = some (n, r)) (hb : ¬ (n < 0 ∨ n > 200 ∨ n > r.length)) : rdBody f 1 s left = .ok (.mk 1 0 0 (r.take n.toNat) []) (r.drop n.toNat) left := by
  simp only [rdBody, h, if_neg hb]; simp
theorem rbody2_nil (f : List UInt8 → Nat → Rd Nd) (left : Nat) : rdBody f 2 [] left = .no 1 := by simp [rdBody]
theorem rbody2_bad (f : List UInt8 → Nat → Rd Nd) (p : UInt8) (s : List UInt8) (left : Nat) (h : primP p.toNat = false) : rdBody f 2 (p :: s) left = .no 1 := by simp [rdBody, h]
theorem rbody2 (f : List UInt8 → Nat → Rd Nd) (p : UInt8) (s : List UInt8) (left : Nat) (h : primP p.toNat = true) : rdBody f 2 (p :: s) left = rdArgs f 2 p.toNat s left := by simp [rdBody, h]
theorem rbody3 (f : List UInt8 → Nat → Rd Nd) (s : List UInt8) (left : Nat) : rdBody f 3 s left = rdArgs f 3 0 s left := by simp [rdBody]
theorem rargs_no (f : List UInt8 → Nat → Rd Nd) (kind p : Int) (s : List UInt8) (left : Nat) (h : takeNum s = none) : rdArgs f kind p s left = .no 1 := by simp [rdArgs, h]
theorem rargs_neg (f : List UInt8 → Nat → Rd Nd) (kind p : Int) (s : List UInt8) (left : Nat) (n : Int) (r : List UInt8) (h : takeNum s = some (n, r)) (hn : n < 0) : rdArgs f kind p s left = .no 1 := by simp only [rdArgs, h, if_pos hn]
theorem rargs_no2 (f : List UInt8 → Nat → Rd Nd) (kind p : Int) (s : List UInt8) (left : Nat) (m : Nat) (r : List UInt8) (e : Int) (h : takeNum s = some ((m : Int), r)) (hr : rdRow f m r left = .no e) : rdArgs f kind p s left = .no e := by
  simp only [rdArgs, h, if_neg (show ¬ (m : Int) < 0 by omega), Int.toNat_natCast, hr]
theorem rargs_ok (f : List UInt8 → Nat → Rd Nd) (kind p : Int) (s : List UInt8) (left : Nat) (m : Nat) (r : List UInt8) (l : List Nd) (s2 : List UInt8) (l2 : Nat) (h : takeNum s = some ((m : Int), r)) (hr : rdRow f m r left = .ok l s2 l2) : rdArgs f kind p s left = .ok (.mk kind 0 p [] l) s2 l2 := by
  simp only [rdArgs, h, if_neg (show ¬ (m : Int) < 0 by omega), Int.toNat_natCast, hr]
/-- Likewise, by its row. -/
def rowTup (left : Nat) (kind p : Int) : Rd (List Nd) → CV
  | .no e => .tup [encNd nd0, .str [], .int .i64 0, .int .i64 e]
  | .ok l s left' => .tup [encNd (.mk kind 0 p [] l), .str s, .int .i64 ((left : Int) - left'), .int .i64 0]
theorem rowTup_eq (left : Nat) (f : List UInt8 → Nat → Rd Nd) (kind p : Int) (s : List UInt8) (l : Nat) (m : Nat) (r : List UInt8) (h : takeNum s = some ((m : Int), r)) : rdTup left (rdArgs f kind p s l) = rowTup left kind p (rdRow f m r l) := by
  cases hr : rdRow f m r l with
  | no e => rw [rargs_no2 f kind p s l m r e h hr]; rfl
  | ok q s2 l2 => rw [rargs_ok f kind p s l m r q s2 l2 h hr]; rfl
theorem drop_len (p r s : List UInt8) (h : s = p ++ r) : (s.take s.length).drop p.length = r := by rw [List.take_length, h, List.drop_left]
attribute [local irreducible] AK AOps QCalls ECalls numB nOf rdNode rdBody rdArgs rdRow primP takeNum

theorem readNode1_calls (e : Int) : QCalls Try.prog Try.X 134 [.int .i64 e] (.tup [encNd nd0, .str [], .int .i64 0, .int .i64 e]) := by
  refine QCalls.of Try.func134 rfl (fun args w => Try.call134 args w) (Nat.le_of_ble_eq_true rfl) [(0, .c (.int .i64 e))] rfl fun β hβ => ?_; have hf := Try.func134
  repeat' (first | refine st ?_ | refine uQ hf rfl rfl ?_)
  all_goals rfl

set_option maxHeartbeats 0 in
theorem readNode_calls : ∀ (g : Nat) (s : List UInt8) (left : Nat), g ≤ 24 → left ≤ 300 → s.length ≤ 1048577 → QCalls Try.prog Try.X 110 [.str s, .int .i64 g, .int .i64 left] (rdTup left (rdNode g s left))
  | 0, s, left, hg, hl, hs => by
    rw [node_zero]
    have n4 := readNode1_calls 4
    refine QCalls.of Try.func110 rfl (fun args w => Try.call110 args w) (Nat.le_of_ble_eq_true rfl) [(0, .c (.str s)), (1, .c (.int .i64 (0 : Nat))), (2, .c (.int .i64 left))] rfl fun β hβ => ?_; have hf := Try.func110
    repeat' (first | refine st ?_ | (refine AK.condS rfl (fun h => ?_) (fun h => ?_) <;> first | (cases h; done) | rw [h] | skip) | refine uQ hf rfl rfl ?_ | refine uC rfl n4 ?_ | (refine uA rfl ?_ ?_ <;> (try (show (_ : Nat) * _ ≤ _; dsimp only))) | refine AOps.toStr Try.hX kn rfl rfl rfl rfl rfl rfl rfl rfl rfl rfl rfl (by first | exact rfl | exact byte1 _) rfl ?_ | ((first | refine AOps.splitT rfl rfl rfl asm (fun h => ?_) | refine AOps.splitF rfl rfl rfl asm (fun h => ?_) | refine AOps.split rfl rfl rfl (fun h => ?_) (fun h => ?_)) <;> (fail_if_success (cases h; done)) <;> rw [h]))
    all_goals rfl
  | g + 1, s, left, hg, hl, hs => by
    have n1 := readNode1_calls 1
    have g0 : (((g + 1 : Nat) : Int) == 0) = false := by simp; omega
    by_cases hl0 : left = 0
    · subst hl0
      rw [node_left]
      have n4 := readNode1_calls 4
      refine QCalls.of Try.func110 rfl (fun args w => Try.call110 args w) (Nat.le_of_ble_eq_true rfl) [(0, .c (.str s)), (1, .c (.int .i64 (g + 1 : Nat))), (2, .c (.int .i64 (0 : Nat)))] rfl fun β hβ => ?_; have hf := Try.func110
      repeat' (first | refine st ?_ | (refine AK.condS rfl (fun h => ?_) (fun h => ?_) <;> first | (cases h; done) | rw [h] | skip) | refine uQ hf rfl rfl ?_ | refine uC rfl n4 ?_ | (refine uA rfl ?_ ?_ <;> (try (show (_ : Nat) * _ ≤ _; dsimp only))) | refine AOps.toStr Try.hX kn rfl rfl rfl rfl rfl rfl rfl rfl rfl rfl rfl (by first | exact rfl | exact byte1 _) rfl ?_ | ((first | refine AOps.splitT rfl rfl rfl asm (fun h => ?_) | refine AOps.splitF rfl rfl rfl asm (fun h => ?_) | refine AOps.split rfl rfl rfl (fun h => ?_) (fun h => ?_)) <;> (fail_if_success (cases h; done)) <;> rw [h]))
      all_goals rfl
    have l0' : ((left : Int) == 0) = false := by simpa using hl0
    have l0 : (bif (((g + 1 : Nat) : Int) == 0) then true else ((left : Int) == 0)) = false := by rw [g0, l0']; rfl
    have hin : ∀ (s' : List UInt8) (l' : Nat), l' ≤ 300 → s'.length ≤ 1048577 → QCalls Try.prog Try.X 110 [.str s', .int .i64 (IntKind.i64.wrap (((g + 1 : Nat) : Int) - 1)), .int .i64 (l' : Int)] (rdTup l' (rdNode g s' l')) := by
      intro s' l' h1 h2
      rw [w64 (by omega) (by omega), show (((g + 1 : Nat) : Int) - 1) = (g : Int) from by omega]
      exact readNode_calls g s' l' (by omega) h1 h2
    cases s with
    | nil =>
      rw [node_nil _ _ hl0]
      refine QCalls.of Try.func110 rfl (fun args w => Try.call110 args w) (Nat.le_of_ble_eq_true rfl) [(0, .c (.str [])), (1, .c (.int .i64 (g + 1 : Nat))), (2, .c (.int .i64 left))] rfl fun β hβ => ?_; have hf := Try.func110
      repeat' (first | refine st ?_ | (refine AK.condS rfl (fun h => ?_) (fun h => ?_) <;> first | (cases h; done) | rw [h] | skip) | refine uQ hf rfl rfl ?_ | refine uC rfl n1 ?_ | (refine uA rfl ?_ ?_ <;> (try (show (_ : Nat) * _ ≤ _; dsimp only))) | refine AOps.toStr Try.hX kn rfl rfl rfl rfl rfl rfl rfl rfl rfl rfl rfl (by first | exact rfl | exact byte1 _) rfl ?_ | ((first | refine AOps.splitT rfl rfl rfl asm (fun h => ?_) | refine AOps.splitF rfl rfl rfl asm (fun h => ?_) | refine AOps.split rfl rfl rfl (fun h => ?_) (fun h => ?_)) <;> (fail_if_success (cases h; done)) <;> rw [h]))
      all_goals rfl
    | cons c s =>
    rw [node_cons _ _ _ _ hl0]
    simp only [List.length_cons] at hs
    have hct := c.toNat_lt
    by_cases hc3 : c.toNat > 3
    · rw [rbody_no _ _ _ _ hc3]
      have c3 : decide (((c.toNat : Nat) : Int) > 3) = true := decide_eq_true (by omega)
      have c3' : (bif ((c :: s) == (ByteArray.mk #[]).data.toList) then true else decide (((c.toNat : Nat) : Int) > 3)) = true := c3
      refine QCalls.of Try.func110 rfl (fun args w => Try.call110 args w) (Nat.le_of_ble_eq_true rfl) [(0, .c (.str (c :: s))), (1, .c (.int .i64 (g + 1 : Nat))), (2, .c (.int .i64 left))] rfl fun β hβ => ?_; have hf := Try.func110
      repeat' (first | refine st ?_ | (refine AK.condS rfl (fun h => ?_) (fun h => ?_) <;> first | (cases h; done) | rw [h] | skip) | refine uQ hf rfl rfl ?_ | refine uC rfl n1 ?_ | (refine uA rfl ?_ ?_ <;> (try (show (_ : Nat) * _ ≤ _; dsimp only))) | refine AOps.toStr Try.hX kn rfl rfl rfl rfl rfl rfl rfl rfl rfl rfl rfl (by first | exact rfl | exact byte1 _) rfl ?_ | ((first | refine AOps.splitT rfl rfl rfl asm (fun h => ?_) | refine AOps.splitF rfl rfl rfl asm (fun h => ?_) | refine AOps.split rfl rfl rfl (fun h => ?_) (fun h => ?_)) <;> (fail_if_success (cases h; done)) <;> rw [h]))
      all_goals rfl
    rcases (by omega : c.toNat = 0 ∨ c.toNat = 1 ∨ c.toNat = 2 ∨ c.toNat = 3) with h | h | h | h
    · obtain rfl : c = 0 := UInt8.toNat_inj.1 h
      clear h hc3 hct
      have c3' : (bif ((0 :: s) == (ByteArray.mk #[]).data.toList) then true else decide ((((0 : UInt8).toNat : Nat) : Int) > 3)) = false := rfl
      have kt0 : (IntKind.i64.wrap (((0 : UInt8).toNat : Nat) : Int) == 2) = false := by decide
      have kt1 : (IntKind.i64.wrap (((0 : UInt8).toNat : Nat) : Int) == 0) = true := by decide
      show QCalls _ _ _ _ (rdTup left (rdBody (rdNode g) 0 s (left - 1)))
      have h2 := numberOf_calls s (by omega)
      rcases nOf_cases s with ⟨e1, e2⟩ | ⟨n, r, e2, e3, b1, b2, e1⟩
      · rw [rbody0_no _ _ _ e2]
        rw [e1] at h2
        simp only at h2
        refine QCalls.of Try.func110 rfl (fun args w => Try.call110 args w) (Nat.le_of_ble_eq_true rfl) [(0, .c (.str (0 :: s))), (1, .c (.int .i64 (g + 1 : Nat))), (2, .c (.int .i64 left))] rfl fun β hβ => ?_; have hf := Try.func110
        repeat' (first | refine st ?_ | (refine AK.condS rfl (fun h => ?_) (fun h => ?_) <;> first | (cases h; done) | rw [h] | skip) | refine uQ hf rfl rfl ?_ | refine uC rfl n1 ?_ | refine uC rfl h2 ?_ | (refine uA rfl ?_ ?_ <;> (try (show (_ : Nat) * _ ≤ _; dsimp only))) | refine AOps.toStr Try.hX kn rfl rfl rfl rfl rfl rfl rfl rfl rfl rfl rfl (by first | exact rfl | exact byte1 _) rfl ?_ | ((first | refine AOps.splitT rfl rfl rfl asm (fun h => ?_) | refine AOps.splitF rfl rfl rfl asm (fun h => ?_) | refine AOps.split rfl rfl rfl (fun h => ?_) (fun h => ?_)) <;> (fail_if_success (cases h; done)) <;> rw [h]))
        all_goals rfl
      · rw [rbody0 _ _ _ _ _ e2]
        rw [e1] at h2
        simp only at h2
        have z0 : ((((numB n).length : Nat) : Int) == 0) = false := by have := numB_ne n; simp [this]
        have hd := drop_len _ _ _ e3
        have hdl : (numB n).length ≤ s.length := by rw [e3]; simp
        refine QCalls.of Try.func110 rfl (fun args w => Try.call110 args w) (Nat.le_of_ble_eq_true rfl) [(0, .c (.str (0 :: s))), (1, .c (.int .i64 (g + 1 : Nat))), (2, .c (.int .i64 left))] rfl fun β hβ => ?_; have hf := Try.func110
        repeat' (first | refine st ?_ | (refine AK.condS rfl (fun h => ?_) (fun h => ?_) <;> first | (cases h; done) | rw [h] | skip) | refine uQ hf rfl rfl ?_ | refine uC rfl n1 ?_ | refine uC rfl h2 ?_ | (refine AOps.sliceStr Try.hX kn rfl rfl rfl rfl rfl rfl (l := some (numB n).length) (h := none) rfl rfl (Nat.le_refl _) hdl ?_; rw [show List.drop ((some (numB n).length).getD 0) (List.take (Option.getD none s.length) s) = r from hd]) | (refine uA rfl ?_ ?_ <;> (try (show (_ : Nat) * _ ≤ _; dsimp only))) | refine AOps.toStr Try.hX kn rfl rfl rfl rfl rfl rfl rfl rfl rfl rfl rfl (by first | exact rfl | exact byte1 _) rfl ?_ | ((first | refine AOps.splitT rfl rfl rfl asm (fun h => ?_) | refine AOps.splitF rfl rfl rfl asm (fun h => ?_) | refine AOps.split rfl rfl rfl (fun h => ?_) (fun h => ?_)) <;> (fail_if_success (cases h; done)) <;> rw [h]))
        all_goals
          show CV.tup [_, _, _, _] = CV.tup [_, _, _, _]
          rw [show ((left : Int) - ((left - 1 : Nat) : Int)) = 1 from by omega]
          rfl
    · obtain rfl : c = 1 := UInt8.toNat_inj.1 h
      clear h hc3 hct
      have c3' : (bif ((1 :: s) == (ByteArray.mk #[]).data.toList) then true else decide ((((1 : UInt8).toNat : Nat) : Int) > 3)) = false := rfl
      have kt0 : (IntKind.i64.wrap (((1 : UInt8).toNat : Nat) : Int) == 2) = false := by decide
      have kt1 : (IntKind.i64.wrap (((1 : UInt8).toNat : Nat) : Int) == 0) = false := by decide
      have kt2 : (IntKind.i64.wrap (((1 : UInt8).toNat : Nat) : Int) == 1) = true := by decide
      show QCalls _ _ _ _ (rdTup left (rdBody (rdNode g) 1 s (left - 1)))
      have h2 := numberOf_calls s (by omega)
      rcases nOf_cases s with ⟨e1, e2⟩ | ⟨n, r, e2, e3, b1, b2, e1⟩
      · rw [rbody1_no _ _ _ e2]
        rw [e1] at h2
        simp only at h2
        refine QCalls.of Try.func110 rfl (fun args w => Try.call110 args w) (Nat.le_of_ble_eq_true rfl) [(0, .c (.str (1 :: s))), (1, .c (.int .i64 (g + 1 : Nat))), (2, .c (.int .i64 left))] rfl fun β hβ => ?_; have hf := Try.func110
        repeat' (first | refine st ?_ | (refine AK.condS rfl (fun h => ?_) (fun h => ?_) <;> first | (cases h; done) | rw [h] | skip) | refine uQ hf rfl rfl ?_ | refine uC rfl n1 ?_ | refine uC rfl h2 ?_ | (refine uA rfl ?_ ?_ <;> (try (show (_ : Nat) * _ ≤ _; dsimp only))) | refine AOps.toStr Try.hX kn rfl rfl rfl rfl rfl rfl rfl rfl rfl rfl rfl (by first | exact rfl | exact byte1 _) rfl ?_ | ((first | refine AOps.splitT rfl rfl rfl asm (fun h => ?_) | refine AOps.splitF rfl rfl rfl asm (fun h => ?_) | refine AOps.split rfl rfl rfl (fun h => ?_) (fun h => ?_)) <;> (fail_if_success (cases h; done)) <;> rw [h]))
        all_goals rfl
      · rw [e1] at h2
        simp only at h2
        have z0 : ((((numB n).length : Nat) : Int) == 0) = false := by have := numB_ne n; simp [this]
        have hd := drop_len _ _ _ e3
        have hdl : (numB n).length ≤ s.length := by rw [e3]; simp
        by_cases k1 : n < 0
        · rw [rbody1_bad _ _ _ _ _ e2 (.inl k1)]
          have f1 : decide (n < 0) = true := decide_eq_true k1
          refine QCalls.of Try.func110 rfl (fun args w => Try.call110 args w) (Nat.le_of_ble_eq_true rfl) [(0, .c (.str (1 :: s))), (1, .c (.int .i64 (g + 1 : Nat))), (2, .c (.int .i64 left))] rfl fun β hβ => ?_; have hf := Try.func110
          repeat' (first | refine st ?_ | (refine AK.condS rfl (fun h => ?_) (fun h => ?_) <;> first | (cases h; done) | rw [h] | skip) | refine uQ hf rfl rfl ?_ | refine uC rfl n1 ?_ | refine uC rfl h2 ?_ | (refine AOps.sliceStr Try.hX kn rfl rfl rfl rfl rfl rfl (l := some (numB n).length) (h := none) rfl rfl (Nat.le_refl _) hdl ?_; rw [show List.drop ((some (numB n).length).getD 0) (List.take (Option.getD none s.length) s) = r from hd]) | (refine uA rfl ?_ ?_ <;> (try (show (_ : Nat) * _ ≤ _; dsimp only))) | refine AOps.toStr Try.hX kn rfl rfl rfl rfl rfl rfl rfl rfl rfl rfl rfl (by first | exact rfl | exact byte1 _) rfl ?_ | ((first | refine AOps.splitT rfl rfl rfl asm (fun h => ?_) | refine AOps.splitF rfl rfl rfl asm (fun h => ?_) | refine AOps.split rfl rfl rfl (fun h => ?_) (fun h => ?_)) <;> (fail_if_success (cases h; done)) <;> rw [h]))
          all_goals rfl
        obtain ⟨m, rfl⟩ : ∃ m : Nat, n = m := ⟨n.toNat, by omega⟩
        have f1 : decide (((m : Nat) : Int) < 0) = false := decide_eq_false k1
        by_cases k2 : (m : Int) > 200
        · rw [rbody1_bad _ _ _ _ _ e2 (.inr (.inl k2))]
          have f2 : decide (((m : Nat) : Int) > 200) = true := decide_eq_true k2
          refine QCalls.of Try.func110 rfl (fun args w => Try.call110 args w) (Nat.le_of_ble_eq_true rfl) [(0, .c (.str (1 :: s))), (1, .c (.int .i64 (g + 1 : Nat))), (2, .c (.int .i64 left))] rfl fun β hβ => ?_; have hf := Try.func110
          repeat' (first | refine st ?_ | (refine AK.condS rfl (fun h => ?_) (fun h => ?_) <;> first | (cases h; done) | rw [h] | skip) | refine uQ hf rfl rfl ?_ | refine uC rfl n1 ?_ | refine uC rfl h2 ?_ | (refine AOps.sliceStr Try.hX kn rfl rfl rfl rfl rfl rfl (l := some (numB m).length) (h := none) rfl rfl (Nat.le_refl _) hdl ?_; rw [show List.drop ((some (numB m).length).getD 0) (List.take (Option.getD none s.length) s) = r from hd]) | (refine uA rfl ?_ ?_ <;> (try (show (_ : Nat) * _ ≤ _; dsimp only))) | refine AOps.toStr Try.hX kn rfl rfl rfl rfl rfl rfl rfl rfl rfl rfl rfl (by first | exact rfl | exact byte1 _) rfl ?_ | ((first | refine AOps.splitT rfl rfl rfl asm (fun h => ?_) | refine AOps.splitF rfl rfl rfl asm (fun h => ?_) | refine AOps.split rfl rfl rfl (fun h => ?_) (fun h => ?_)) <;> (fail_if_success (cases h; done)) <;> rw [h]))
          all_goals rfl
        have f2 : decide (((m : Nat) : Int) > 200) = false := decide_eq_false k2
        by_cases k3 : (m : Int) > r.length
        · rw [rbody1_bad _ _ _ _ _ e2 (.inr (.inr k3))]
          have f3 : decide (((m : Nat) : Int) > ((r.length : Nat) : Int)) = true := decide_eq_true k3
          have f4 : (bif decide (((m : Nat) : Int) < 0) then true else bif (IntKind.i64.wrap (((1 : UInt8).toNat : Nat) : Int) == 1) then bif false then true else decide (((m : Nat) : Int) > ((r.length : Nat) : Int)) else false) = true := by rw [f1, kt2, f3]; rfl
          refine QCalls.of Try.func110 rfl (fun args w => Try.call110 args w) (Nat.le_of_ble_eq_true rfl) [(0, .c (.str (1 :: s))), (1, .c (.int .i64 (g + 1 : Nat))), (2, .c (.int .i64 left))] rfl fun β hβ => ?_; have hf := Try.func110
          repeat' (first | refine st ?_ | (refine AK.condS rfl (fun h => ?_) (fun h => ?_) <;> first | (cases h; done) | rw [h] | skip) | refine uQ hf rfl rfl ?_ | refine uC rfl n1 ?_ | refine uC rfl h2 ?_ | (refine AOps.sliceStr Try.hX kn rfl rfl rfl rfl rfl rfl (l := some (numB m).length) (h := none) rfl rfl (Nat.le_refl _) hdl ?_; rw [show List.drop ((some (numB m).length).getD 0) (List.take (Option.getD none s.length) s) = r from hd]) | (refine uA rfl ?_ ?_ <;> (try (show (_ : Nat) * _ ≤ _; dsimp only))) | refine AOps.toStr Try.hX kn rfl rfl rfl rfl rfl rfl rfl rfl rfl rfl rfl (by first | exact rfl | exact byte1 _) rfl ?_ | ((first | refine AOps.splitT rfl rfl rfl asm (fun h => ?_) | refine AOps.splitF rfl rfl rfl asm (fun h => ?_) | refine AOps.split rfl rfl rfl (fun h => ?_) (fun h => ?_)) <;> (fail_if_success (cases h; done)) <;> rw [h]))
          all_goals rfl
        have f3 : decide (((m : Nat) : Int) > ((r.length : Nat) : Int)) = false := decide_eq_false k3
        have f4 : (bif decide (((m : Nat) : Int) < 0) then true else bif (IntKind.i64.wrap (((1 : UInt8).toNat : Nat) : Int) == 1) then bif false then true else decide (((m : Nat) : Int) > ((r.length : Nat) : Int)) else false) = false := by rw [f1, kt2, f3]; rfl
        rw [rbody1 _ _ _ _ _ e2 (by omega), Int.toNat_natCast]
        have hmr : m ≤ r.length := by omega
        refine QCalls.of Try.func110 rfl (fun args w => Try.call110 args w) (Nat.le_of_ble_eq_true rfl) [(0, .c (.str (1 :: s))), (1, .c (.int .i64 (g + 1 : Nat))), (2, .c (.int .i64 left))] rfl fun β hβ => ?_; have hf := Try.func110
        repeat' (first | refine st ?_ | (refine AK.condS rfl (fun h => ?_) (fun h => ?_) <;> first | (cases h; done) | rw [h] | skip) | refine uQ hf rfl rfl ?_ | refine uC rfl n1 ?_ | refine uC rfl h2 ?_ | (refine AOps.sliceStr Try.hX kn rfl rfl rfl rfl rfl rfl (s := s) (l := some (numB m).length) (h := none) rfl rfl (Nat.le_refl _) hdl ?_; rw [show List.drop ((some (numB m).length).getD 0) (List.take (Option.getD none s.length) s) = r from hd]) | refine AOps.sliceStr Try.hX kn rfl rfl rfl rfl rfl rfl (s := r) (l := none) (h := some m) rfl rfl hmr (Nat.zero_le _) ?_ | refine AOps.sliceStr Try.hX kn rfl rfl rfl rfl rfl rfl (s := r) (l := some m) (h := none) rfl rfl (Nat.le_refl _) hmr ?_ | (refine uA rfl ?_ ?_ <;> (try (show (_ : Nat) * _ ≤ _; dsimp only))) | refine AOps.toStr Try.hX kn rfl rfl rfl rfl rfl rfl rfl rfl rfl rfl rfl (by first | exact rfl | exact byte1 _) rfl ?_ | ((first | refine AOps.splitT rfl rfl rfl asm (fun h => ?_) | refine AOps.splitF rfl rfl rfl asm (fun h => ?_) | refine AOps.split rfl rfl rfl (fun h => ?_) (fun h => ?_)) <;> (fail_if_success (cases h; done)) <;> rw [h]))
        all_goals
          show CV.tup [_, _, _, _] = CV.tup [_, _, _, _]
          rw [show ((left : Int) - ((left - 1 : Nat) : Int)) = 1 from by omega]
          rw [show List.drop ((some m).getD 0) (List.take (Option.getD none r.length) r) = r.drop m from by rw [Option.getD_none, List.take_length]; rfl]
          rfl
    · obtain rfl : c = 2 := UInt8.toNat_inj.1 h
      clear h hc3 hct
      have c3' : (bif ((2 :: s) == (ByteArray.mk #[]).data.toList) then true else decide ((((2 : UInt8).toNat : Nat) : Int) > 3)) = false := rfl
      have kt0 : (IntKind.i64.wrap (((2 : UInt8).toNat : Nat) : Int) == 2) = true := by decide
      have kt1 : (IntKind.i64.wrap (((2 : UInt8).toNat : Nat) : Int) == 0) = false := by decide
      have kt2 : (IntKind.i64.wrap (((2 : UInt8).toNat : Nat) : Int) == 1) = false := by decide
      show QCalls _ _ _ _ (rdTup left (rdBody (rdNode g) 2 s (left - 1)))
      cases s with
      | nil =>
        have s0 : (([] : List UInt8) == (ByteArray.mk #[]).data.toList) = true := rfl
        rw [rbody2_nil]
        refine QCalls.of Try.func110 rfl (fun args w => Try.call110 args w) (Nat.le_of_ble_eq_true rfl) [(0, .c (.str (2 :: []))), (1, .c (.int .i64 (g + 1 : Nat))), (2, .c (.int .i64 left))] rfl fun β hβ => ?_; have hf := Try.func110
        repeat' (first | refine st ?_ | (refine AK.condS rfl (fun h => ?_) (fun h => ?_) <;> first | (cases h; done) | rw [h] | skip) | refine uQ hf rfl rfl ?_ | refine uC rfl n1 ?_ | (refine uA rfl ?_ ?_ <;> (try (show (_ : Nat) * _ ≤ _; dsimp only))) | refine AOps.toStr Try.hX kn rfl rfl rfl rfl rfl rfl rfl rfl rfl rfl rfl (by first | exact rfl | exact byte1 _) rfl ?_ | ((first | refine AOps.splitT rfl rfl rfl asm (fun h => ?_) | refine AOps.splitF rfl rfl rfl asm (fun h => ?_) | refine AOps.split rfl rfl rfl (fun h => ?_) (fun h => ?_)) <;> (fail_if_success (cases h; done)) <;> rw [h]))
        all_goals rfl
      | cons p s =>
      simp only [List.length_cons] at hs
      have s0 : ((p :: s) == (ByteArray.mk #[]).data.toList) = false := rfl
      have hpt := p.toNat_lt
      have hpr := isPrim_calls (IntKind.i64.wrap p.toNat)
      have hpw : IntKind.i64.wrap ((p.toNat : Nat) : Int) = p.toNat := w64 (by omega) (by omega)
      rw [show primP (IntKind.i64.wrap p.toNat) = primP p.toNat from by rw [hpw]] at hpr
      cases hp : primP p.toNat with
      | false =>
        rw [rbody2_bad _ _ _ _ hp]
        rw [hp] at hpr
        refine QCalls.of Try.func110 rfl (fun args w => Try.call110 args w) (Nat.le_of_ble_eq_true rfl) [(0, .c (.str (2 :: p :: s))), (1, .c (.int .i64 (g + 1 : Nat))), (2, .c (.int .i64 left))] rfl fun β hβ => ?_; have hf := Try.func110
        repeat' (first | refine st ?_ | (refine AK.condS rfl (fun h => ?_) (fun h => ?_) <;> first | (cases h; done) | rw [h] | skip) | refine uQ hf rfl rfl ?_ | refine uC rfl n1 ?_ | refine uC rfl hpr ?_ | (refine uA rfl ?_ ?_ <;> (try (show (_ : Nat) * _ ≤ _; dsimp only))) | refine AOps.toStr Try.hX kn rfl rfl rfl rfl rfl rfl rfl rfl rfl rfl rfl (by first | exact rfl | exact byte1 _) rfl ?_ | ((first | refine AOps.splitT rfl rfl rfl asm (fun h => ?_) | refine AOps.splitF rfl rfl rfl asm (fun h => ?_) | refine AOps.split rfl rfl rfl (fun h => ?_) (fun h => ?_)) <;> (fail_if_success (cases h; done)) <;> rw [h]))
        all_goals rfl
      | true =>
      rw [rbody2 _ _ _ _ hp, ← hpw]
      rw [hp] at hpr
      have h2 := numberOf_calls s (by omega)
      rcases nOf_cases s with ⟨e1, e2⟩ | ⟨n, r, e2, e3, b1, b2, e1⟩
      · rw [rargs_no _ _ _ _ _ e2]
        rw [e1] at h2
        simp only at h2
        refine QCalls.of Try.func110 rfl (fun args w => Try.call110 args w) (Nat.le_of_ble_eq_true rfl) [(0, .c (.str (2 :: p :: s))), (1, .c (.int .i64 (g + 1 : Nat))), (2, .c (.int .i64 left))] rfl fun β hβ => ?_; have hf := Try.func110
        repeat' (first | refine st ?_ | (refine AK.condS rfl (fun h => ?_) (fun h => ?_) <;> first | (cases h; done) | rw [h] | skip) | refine uQ hf rfl rfl ?_ | refine uC rfl n1 ?_ | refine uC rfl h2 ?_ | refine uC rfl hpr ?_ | (refine uA rfl ?_ ?_ <;> (try (show (_ : Nat) * _ ≤ _; dsimp only))) | refine AOps.toStr Try.hX kn rfl rfl rfl rfl rfl rfl rfl rfl rfl rfl rfl (by first | exact rfl | exact byte1 _) rfl ?_ | ((first | refine AOps.splitT rfl rfl rfl asm (fun h => ?_) | refine AOps.splitF rfl rfl rfl asm (fun h => ?_) | refine AOps.split rfl rfl rfl (fun h => ?_) (fun h => ?_)) <;> (fail_if_success (cases h; done)) <;> rw [h]))
        all_goals rfl
      rw [e1] at h2
      simp only at h2
      have z0 : ((((numB n).length : Nat) : Int) == 0) = false := by have := numB_ne n; simp [this]
      have hd := drop_len _ _ _ e3
      have hdl : (numB n).length ≤ s.length := by rw [e3]; simp
      by_cases k1 : n < 0
      · rw [rargs_neg _ _ _ _ _ _ _ e2 k1]
        have f1 : decide (n < 0) = true := decide_eq_true k1
        refine QCalls.of Try.func110 rfl (fun args w => Try.call110 args w) (Nat.le_of_ble_eq_true rfl) [(0, .c (.str (2 :: p :: s))), (1, .c (.int .i64 (g + 1 : Nat))), (2, .c (.int .i64 left))] rfl fun β hβ => ?_; have hf := Try.func110
        repeat' (first | refine st ?_ | (refine AK.condS rfl (fun h => ?_) (fun h => ?_) <;> first | (cases h; done) | rw [h] | skip) | refine uQ hf rfl rfl ?_ | refine uC rfl n1 ?_ | refine uC rfl h2 ?_ | refine uC rfl hpr ?_ | (refine AOps.sliceStr Try.hX kn rfl rfl rfl rfl rfl rfl (l := some (numB n).length) (h := none) rfl rfl (Nat.le_refl _) hdl ?_; rw [show List.drop ((some (numB n).length).getD 0) (List.take (Option.getD none s.length) s) = r from hd]) | (refine uA rfl ?_ ?_ <;> (try (show (_ : Nat) * _ ≤ _; dsimp only))) | refine AOps.toStr Try.hX kn rfl rfl rfl rfl rfl rfl rfl rfl rfl rfl rfl (by first | exact rfl | exact byte1 _) rfl ?_ | ((first | refine AOps.splitT rfl rfl rfl asm (fun h => ?_) | refine AOps.splitF rfl rfl rfl asm (fun h => ?_) | refine AOps.split rfl rfl rfl (fun h => ?_) (fun h => ?_)) <;> (fail_if_success (cases h; done)) <;> rw [h]))
        all_goals rfl
      obtain ⟨m, rfl⟩ : ∃ m : Nat, n = m := ⟨n.toNat, by omega⟩
      have f1 : decide (((m : Nat) : Int) < 0) = false := decide_eq_false k1
      rw [rowTup_eq left _ 2 (IntKind.i64.wrap ((p.toNat : Nat) : Int)) s _ m r e2]
      have hrl : r.length ≤ s.length := by rw [e3]; simp
      unfold maxI at b2
      refine QCalls.of Try.func110 rfl (fun args w => Try.call110 args w) (Nat.le_of_ble_eq_true rfl) [(0, .c (.str (2 :: p :: s))), (1, .c (.int .i64 (g + 1 : Nat))), (2, .c (.int .i64 left))] rfl fun β hβ => ?_; have hf := Try.func110
      repeat' (first | refine st ?_ | (refine AK.condS rfl (fun h => ?_) (fun h => ?_) <;> first | (cases h; done) | rw [h] | skip) | refine uQ hf rfl rfl ?_ | refine uC rfl n1 ?_ | refine uC rfl h2 ?_ | refine uC rfl hpr ?_ | (refine AOps.sliceStr Try.hX kn rfl rfl rfl rfl rfl rfl (l := some (numB (m : Int)).length) (h := none) rfl rfl (Nat.le_refl _) hdl ?_; rw [show List.drop ((some (numB (m : Int)).length).getD 0) (List.take (Option.getD none s.length) s) = r from hd]) | (refine uA rfl ?_ ?_ <;> (try (show (_ : Nat) * _ ≤ _; dsimp only))) | refine AOps.toStr Try.hX kn rfl rfl rfl rfl rfl rfl rfl rfl rfl rfl rfl (by first | exact rfl | exact byte1 _) rfl ?_ | ((first | refine AOps.splitT rfl rfl rfl asm (fun h => ?_) | refine AOps.splitF rfl rfl rfl asm (fun h => ?_) | refine AOps.split rfl rfl rfl (fun h => ?_) (fun h => ?_)) <;> (fail_if_success (cases h; done)) <;> rw [h]))
      refine AK.ren [(6, 6), (11, 11)] [(11000, (0, none))] (env' := [(15, .c (.int .i64 (0 : Nat))), (14, .c (.int .i64 ((left : Int) - ((left - 1 : Nat) : Int)))), (12, .c (.int .i64 (m : Nat))), (10, .c (.clo 134 [])), (0, .c (.str r)), (1, .c (.int .i64 (g + 1 : Nat))), (2, .c (.int .i64 left)), (6, .ptr 6 0), (11, .ptr 11 0)])
        (bs' := [(6, [.c (.int .i64 0), .c (.int .i64 0), .c (.int .i64 0), .c (.str []), .own .exact 5 []]), (11, [.c (.int .i64 2), .c (.int .i64 0), .c (.int .i64 (IntKind.i64.wrap ((p.toNat : Nat) : Int))), .c (.str []), .own (.tok 11000 0) 5 []])]) (ts' := [(11000, 0)]) (us' := [6, 11, 11000])
        ⟨⟨_, rfl, .inl rfl⟩, ⟨_, rfl, .inl (congrArg (fun k => AV.c (CV.int .i64 k)) (show (1 : Int) = (left : Int) - ((left - 1 : Nat) : Int) from by omega))⟩, ⟨_, rfl, .inl rfl⟩, ⟨_, rfl, .inl rfl⟩, ⟨_, rfl, .inl rfl⟩, ⟨_, rfl, .inl rfl⟩, ⟨_, rfl, .inl rfl⟩, ⟨_, rfl, ⟨_, rfl, rfl⟩⟩, ⟨_, rfl, ⟨_, rfl, rfl⟩⟩, trivial⟩ ⟨⟨_, _, rfl, rfl, ⟨_, _, rfl, .inl rfl, ⟨_, _, rfl, .inl rfl, ⟨_, _, rfl, .inl rfl, ⟨_, _, rfl, .inl rfl, ⟨_, _, rfl, rfl, rfl⟩⟩⟩⟩⟩⟩, ⟨_, _, rfl, rfl, ⟨_, _, rfl, .inl rfl, ⟨_, _, rfl, .inl rfl, ⟨_, _, rfl, .inl rfl, ⟨_, _, rfl, .inl rfl, ⟨_, _, rfl, ⟨_, rfl, .inl ⟨rfl, _, rfl, .inr rfl⟩⟩, rfl⟩⟩⟩⟩⟩⟩, trivial⟩ rfl ?_
      refine AK.loopE (α := Nat × List Nd × List UInt8 × Nat) (fun z => z.1 ≤ m ∧ z.1 = z.2.1.length ∧ z.1 + z.2.2.2 ≤ left - 1 ∧ z.2.2.1.length ≤ 1048577 ∧ rdRow (rdNode g) m r (left - 1) = rdCat z.2.1 (rdRow (rdNode g) (m - z.1) z.2.2.1 z.2.2.2)) (fun z => m - z.1)
        (fun z => [(15, .c (.int .i64 z.1)), (14, .c (.int .i64 ((left : Int) - (z.2.2.2 : Nat)))), (12, .c (.int .i64 (m : Nat))), (10, .c (.clo 134 [])), (0, .c (.str z.2.2.1)), (1, .c (.int .i64 (g + 1 : Nat))), (2, .c (.int .i64 left)), (6, .ptr 6 0), (11, .ptr 11 0)])
        (fun z => [(6, [.c (.int .i64 0), .c (.int .i64 0), .c (.int .i64 0), .c (.str []), .own .exact 5 []]), (11, [.c (.int .i64 2), .c (.int .i64 0), .c (.int .i64 (IntKind.i64.wrap ((p.toNat : Nat) : Int))), .c (.str []), .own (.tok 11000 0) 5 (encNds z.2.1)])]) (fun _ => [(11000, 0)]) [6, 11, 11000] (0, [], r, left - 1)
        ⟨by omega, rfl, by show 0 + (left - 1) ≤ left - 1; omega, by show r.length ≤ 1048577; omega, by rw [rdCat_nil]; rfl⟩ ⟨.inl rfl, .inl rfl, .inl rfl, .inl rfl, .inl rfl, .inl rfl, .inl rfl, .inl rfl, .inl rfl, trivial⟩ ⟨rfl, rfl, trivial⟩ ⟨rfl, trivial⟩ rfl rfl rfl ?_
      rintro ⟨i, acc, s', l⟩ ⟨hi, hia, hil, hsl, hinv⟩ ih
      simp only at hi hia hil hsl hinv
      clear hd hdl e3 e2 e1 h2 z0
      have hwl : IntKind.i64.wrap ((left : Int) - ((left : Int) - (l : Nat))) = (l : Int) := by rw [w64 (by omega) (by omega)]; omega
      by_cases him : i < m
      · have ci : decide (((i : Nat) : Int) < ((m : Nat) : Int)) = true := decide_eq_true (by omega)
        have hq := hin s' l (by omega) hsl
        rw [← hwl] at hq
        rw [show m - i = m - (i + 1) + 1 from by omega] at hinv
        cases hr : rdNode g s' l with
        | no e =>
          rw [hr] at hq
          have he := rd_err g s' l e (by omega) (by omega) hr
          have c1 : (e != 0) = true := by simpa using he
          have hq' : QCalls Try.prog Try.X 110 [.str s', .int .i64 (IntKind.i64.wrap (((g + 1 : Nat) : Int) - 1)), .int .i64 (IntKind.i64.wrap ((left : Int) - ((left : Int) - (l : Nat))))] (.tup [encNd nd0, .str [], .int .i64 0, .int .i64 e]) := hq
          rw [hinv, rdCat_no _ _ _ _ _ _ hr]
          have ne := readNode1_calls e
          clear ih hinv hq
          repeat' (first | refine st ?_ | (refine AK.condS rfl (fun h => ?_) (fun h => ?_) <;> first | (cases h; done) | rw [h] | skip) | refine uQ hf rfl rfl ?_ | refine uC rfl ne ?_ | refine uC rfl hq' ?_ | (refine uA rfl ?_ ?_ <;> (try (show (_ : Nat) * _ ≤ _; dsimp only))) | refine AOps.toStr Try.hX kn rfl rfl rfl rfl rfl rfl rfl rfl rfl rfl rfl (by first | exact rfl | exact byte1 _) rfl ?_ | ((first | refine AOps.splitT rfl rfl rfl asm (fun h => ?_) | refine AOps.splitF rfl rfl rfl asm (fun h => ?_) | refine AOps.split rfl rfl rfl (fun h => ?_) (fun h => ?_)) <;> (fail_if_success (cases h; done)) <;> rw [h]))
          all_goals rfl
        | ok x r' l' =>
          rw [hr] at hq
          have hle := rd_lt g s' l x r' l' (by omega) (by omega) hr
          obtain ⟨x1, x2, x3, x4, x5⟩ := x
          have hq' : QCalls Try.prog Try.X 110 [.str s', .int .i64 (IntKind.i64.wrap (((g + 1 : Nat) : Int) - 1)), .int .i64 (IntKind.i64.wrap ((left : Int) - ((left : Int) - (l : Nat))))] (.tup [encNd (.mk x1 x2 x3 x4 x5), .str r', .int .i64 ((l : Int) - (l' : Nat)), .int .i64 0]) := hq
          rw [rdCat_ok _ _ _ _ _ _ _ _ hr] at hinv
          clear hq
          repeat' (first | refine st ?_ | (refine AK.condS rfl (fun h => ?_) (fun h => ?_) <;> first | (cases h; done) | rw [h] | skip) | refine uQ hf rfl rfl ?_ | refine uC rfl hq' ?_ | (refine uA rfl ?_ ?_ <;> (try (show (_ : Nat) * _ ≤ _; dsimp only))) | refine AOps.toStr Try.hX kn rfl rfl rfl rfl rfl rfl rfl rfl rfl rfl rfl (by first | exact rfl | exact byte1 _) rfl ?_ | ((first | refine AOps.splitT rfl rfl rfl asm (fun h => ?_) | refine AOps.splitF rfl rfl rfl asm (fun h => ?_) | refine AOps.split rfl rfl rfl (fun h => ?_) (fun h => ?_)) <;> (fail_if_success (cases h; done)) <;> rw [h]))
          · have h1 := encNds_length acc
            simp only [List.length_cons, List.length_nil]
            omega
          · have hap : encNds acc ++ [encNd (.mk x1 x2 x3 x4 x5)] = encNds (acc ++ [Nd.mk x1 x2 x3 x4 x5]) := (encNds_append acc [.mk x1 x2 x3 x4 x5]).symm
            have hmany : IntKind.i64.wrap (((left : Int) - (l : Nat)) + ((l : Int) - (l' : Nat))) = (left : Int) - (l' : Nat) := by rw [w64 (by omega) (by omega)]; omega
            refine AK.ren [(6, 6), (11, 11)] [(11000, (0, some 11000))] (env' := [(15, .c (.int .i64 ((i + 1 : Nat) : Int))), (14, .c (.int .i64 ((left : Int) - (l' : Nat)))), (12, .c (.int .i64 (m : Nat))), (10, .c (.clo 134 [])), (0, .c (.str r')), (1, .c (.int .i64 (g + 1 : Nat))), (2, .c (.int .i64 left)), (6, .ptr 6 0), (11, .ptr 11 0)])
              (bs' := [(6, [.c (.int .i64 0), .c (.int .i64 0), .c (.int .i64 0), .c (.str []), .own .exact 5 []]), (11, [.c (.int .i64 2), .c (.int .i64 0), .c (.int .i64 (IntKind.i64.wrap ((p.toNat : Nat) : Int))), .c (.str []), .own (.tok 11000 0) 5 (encNds (acc ++ [Nd.mk x1 x2 x3 x4 x5]))])]) (ts' := [(11000, 0)]) (us' := [6, 11, 11000])
              ⟨⟨_, rfl, .inl (succ64' (i := i) (by omega))⟩, ⟨_, rfl, .inl (congrArg (fun k => AV.c (CV.int .i64 k)) hmany)⟩, ⟨_, rfl, .inl rfl⟩, ⟨_, rfl, .inl rfl⟩, ⟨_, rfl, .inl rfl⟩, ⟨_, rfl, .inl rfl⟩, ⟨_, rfl, .inl rfl⟩, ⟨_, rfl, ⟨_, rfl, rfl⟩⟩, ⟨_, rfl, ⟨_, rfl, rfl⟩⟩, trivial⟩ ⟨⟨_, _, rfl, rfl, ⟨_, _, rfl, .inl rfl, ⟨_, _, rfl, .inl rfl, ⟨_, _, rfl, .inl rfl, ⟨_, _, rfl, .inl rfl, ⟨_, _, rfl, rfl, rfl⟩⟩⟩⟩⟩⟩, ⟨_, _, rfl, rfl, ⟨_, _, rfl, .inl rfl, ⟨_, _, rfl, .inl rfl, ⟨_, _, rfl, .inl rfl, ⟨_, _, rfl, .inl rfl, ⟨_, _, rfl, ⟨_, rfl, .inr ⟨_, _, rfl, rfl, congrArg (AV.own (.tok 11000 1) 5) hap⟩⟩, rfl⟩⟩⟩⟩⟩⟩, trivial⟩ rfl ?_
            exact ih (i + 1, acc ++ [Nd.mk x1 x2 x3 x4 x5], r', l') ⟨him, by simp [hia], by show i + 1 + l' ≤ left - 1; omega, by show r'.length ≤ 1048577; omega, hinv⟩ (by show m - (i + 1) < m - i; omega)
      · have ci : decide (((i : Nat) : Int) < ((m : Nat) : Int)) = false := decide_eq_false (by omega)
        rw [hinv, show m - i = 0 from by omega, rdCat_end]
        clear ih hinv
        repeat' (first | refine st ?_ | (refine AK.condS rfl (fun h => ?_) (fun h => ?_) <;> first | (cases h; done) | rw [h] | skip) | refine uQ hf rfl rfl ?_ | (refine uA rfl ?_ ?_ <;> (try (show (_ : Nat) * _ ≤ _; dsimp only))) | refine AOps.toStr Try.hX kn rfl rfl rfl rfl rfl rfl rfl rfl rfl rfl rfl (by first | exact rfl | exact byte1 _) rfl ?_ | ((first | refine AOps.splitT rfl rfl rfl asm (fun h => ?_) | refine AOps.splitF rfl rfl rfl asm (fun h => ?_) | refine AOps.split rfl rfl rfl (fun h => ?_) (fun h => ?_)) <;> (fail_if_success (cases h; done)) <;> rw [h]))
        all_goals rfl
    · obtain rfl : c = 3 := UInt8.toNat_inj.1 h
      clear h hc3 hct
      have c3' : (bif ((3 :: s) == (ByteArray.mk #[]).data.toList) then true else decide ((((3 : UInt8).toNat : Nat) : Int) > 3)) = false := rfl
      have kt0 : (IntKind.i64.wrap (((3 : UInt8).toNat : Nat) : Int) == 2) = false := by decide
      have kt1 : (IntKind.i64.wrap (((3 : UInt8).toNat : Nat) : Int) == 0) = false := by decide
      have kt2 : (IntKind.i64.wrap (((3 : UInt8).toNat : Nat) : Int) == 1) = false := by decide
      show QCalls _ _ _ _ (rdTup left (rdBody (rdNode g) 3 s (left - 1)))
      rw [rbody3]
      have h2 := numberOf_calls s (by omega)
      rcases nOf_cases s with ⟨e1, e2⟩ | ⟨n, r, e2, e3, b1, b2, e1⟩
      · rw [rargs_no _ _ _ _ _ e2]
        rw [e1] at h2
        simp only at h2
        refine QCalls.of Try.func110 rfl (fun args w => Try.call110 args w) (Nat.le_of_ble_eq_true rfl) [(0, .c (.str (3 :: s))), (1, .c (.int .i64 (g + 1 : Nat))), (2, .c (.int .i64 left))] rfl fun β hβ => ?_; have hf := Try.func110
        repeat' (first | refine st ?_ | (refine AK.condS rfl (fun h => ?_) (fun h => ?_) <;> first | (cases h; done) | rw [h] | skip) | refine uQ hf rfl rfl ?_ | refine uC rfl n1 ?_ | refine uC rfl h2 ?_ | (refine uA rfl ?_ ?_ <;> (try (show (_ : Nat) * _ ≤ _; dsimp only))) | refine AOps.toStr Try.hX kn rfl rfl rfl rfl rfl rfl rfl rfl rfl rfl rfl (by first | exact rfl | exact byte1 _) rfl ?_ | ((first | refine AOps.splitT rfl rfl rfl asm (fun h => ?_) | refine AOps.splitF rfl rfl rfl asm (fun h => ?_) | refine AOps.split rfl rfl rfl (fun h => ?_) (fun h => ?_)) <;> (fail_if_success (cases h; done)) <;> rw [h]))
        all_goals rfl
      rw [e1] at h2
      simp only at h2
      have z0 : ((((numB n).length : Nat) : Int) == 0) = false := by have := numB_ne n; simp [this]
      have hd := drop_len _ _ _ e3
      have hdl : (numB n).length ≤ s.length := by rw [e3]; simp
      by_cases k1 : n < 0
      · rw [rargs_neg _ _ _ _ _ _ _ e2 k1]
        have f1 : decide (n < 0) = true := decide_eq_true k1
        refine QCalls.of Try.func110 rfl (fun args w => Try.call110 args w) (Nat.le_of_ble_eq_true rfl) [(0, .c (.str (3 :: s))), (1, .c (.int .i64 (g + 1 : Nat))), (2, .c (.int .i64 left))] rfl fun β hβ => ?_; have hf := Try.func110
        repeat' (first | refine st ?_ | (refine AK.condS rfl (fun h => ?_) (fun h => ?_) <;> first | (cases h; done) | rw [h] | skip) | refine uQ hf rfl rfl ?_ | refine uC rfl n1 ?_ | refine uC rfl h2 ?_ | (refine AOps.sliceStr Try.hX kn rfl rfl rfl rfl rfl rfl (l := some (numB n).length) (h := none) rfl rfl (Nat.le_refl _) hdl ?_; rw [show List.drop ((some (numB n).length).getD 0) (List.take (Option.getD none s.length) s) = r from hd]) | (refine uA rfl ?_ ?_ <;> (try (show (_ : Nat) * _ ≤ _; dsimp only))) | refine AOps.toStr Try.hX kn rfl rfl rfl rfl rfl rfl rfl rfl rfl rfl rfl (by first | exact rfl | exact byte1 _) rfl ?_ | ((first | refine AOps.splitT rfl rfl rfl asm (fun h => ?_) | refine AOps.splitF rfl rfl rfl asm (fun h => ?_) | refine AOps.split rfl rfl rfl (fun h => ?_) (fun h => ?_)) <;> (fail_if_success (cases h; done)) <;> rw [h]))
        all_goals rfl
      obtain ⟨m, rfl⟩ : ∃ m : Nat, n = m := ⟨n.toNat, by omega⟩
      have f1 : decide (((m : Nat) : Int) < 0) = false := decide_eq_false k1
      rw [rowTup_eq left _ 3 0 s _ m r e2]
      have hrl : r.length ≤ s.length := by rw [e3]; simp
      unfold maxI at b2
      refine QCalls.of Try.func110 rfl (fun args w => Try.call110 args w) (Nat.le_of_ble_eq_true rfl) [(0, .c (.str (3 :: s))), (1, .c (.int .i64 (g + 1 : Nat))), (2, .c (.int .i64 left))] rfl fun β hβ => ?_; have hf := Try.func110
      repeat' (first | refine st ?_ | (refine AK.condS rfl (fun h => ?_) (fun h => ?_) <;> first | (cases h; done) | rw [h] | skip) | refine uQ hf rfl rfl ?_ | refine uC rfl n1 ?_ | refine uC rfl h2 ?_ | (refine AOps.sliceStr Try.hX kn rfl rfl rfl rfl rfl rfl (l := some (numB (m : Int)).length) (h := none) rfl rfl (Nat.le_refl _) hdl ?_; rw [show List.drop ((some (numB (m : Int)).length).getD 0) (List.take (Option.getD none s.length) s) = r from hd]) | (refine uA rfl ?_ ?_ <;> (try (show (_ : Nat) * _ ≤ _; dsimp only))) | refine AOps.toStr Try.hX kn rfl rfl rfl rfl rfl rfl rfl rfl rfl rfl rfl (by first | exact rfl | exact byte1 _) rfl ?_ | ((first | refine AOps.splitT rfl rfl rfl asm (fun h => ?_) | refine AOps.splitF rfl rfl rfl asm (fun h => ?_) | refine AOps.split rfl rfl rfl (fun h => ?_) (fun h => ?_)) <;> (fail_if_success (cases h; done)) <;> rw [h]))
      refine AK.ren [(6, 6), (11, 11)] [(11000, (0, none))] (env' := [(15, .c (.int .i64 (0 : Nat))), (14, .c (.int .i64 ((left : Int) - ((left - 1 : Nat) : Int)))), (12, .c (.int .i64 (m : Nat))), (10, .c (.clo 134 [])), (0, .c (.str r)), (1, .c (.int .i64 (g + 1 : Nat))), (2, .c (.int .i64 left)), (6, .ptr 6 0), (11, .ptr 11 0)])
        (bs' := [(6, [.c (.int .i64 0), .c (.int .i64 0), .c (.int .i64 0), .c (.str []), .own .exact 5 []]), (11, [.c (.int .i64 3), .c (.int .i64 0), .c (.int .i64 0), .c (.str []), .own (.tok 11000 0) 5 []])]) (ts' := [(11000, 0)]) (us' := [6, 11, 11000])
        ⟨⟨_, rfl, .inl rfl⟩, ⟨_, rfl, .inl (congrArg (fun k => AV.c (CV.int .i64 k)) (show (1 : Int) = (left : Int) - ((left - 1 : Nat) : Int) from by omega))⟩, ⟨_, rfl, .inl rfl⟩, ⟨_, rfl, .inl rfl⟩, ⟨_, rfl, .inl rfl⟩, ⟨_, rfl, .inl rfl⟩, ⟨_, rfl, .inl rfl⟩, ⟨_, rfl, ⟨_, rfl, rfl⟩⟩, ⟨_, rfl, ⟨_, rfl, rfl⟩⟩, trivial⟩ ⟨⟨_, _, rfl, rfl, ⟨_, _, rfl, .inl rfl, ⟨_, _, rfl, .inl rfl, ⟨_, _, rfl, .inl rfl, ⟨_, _, rfl, .inl rfl, ⟨_, _, rfl, rfl, rfl⟩⟩⟩⟩⟩⟩, ⟨_, _, rfl, rfl, ⟨_, _, rfl, .inl rfl, ⟨_, _, rfl, .inl rfl, ⟨_, _, rfl, .inl rfl, ⟨_, _, rfl, .inl rfl, ⟨_, _, rfl, ⟨_, rfl, .inl ⟨rfl, _, rfl, .inr rfl⟩⟩, rfl⟩⟩⟩⟩⟩⟩, trivial⟩ rfl ?_
      refine AK.loopE (α := Nat × List Nd × List UInt8 × Nat) (fun z => z.1 ≤ m ∧ z.1 = z.2.1.length ∧ z.1 + z.2.2.2 ≤ left - 1 ∧ z.2.2.1.length ≤ 1048577 ∧ rdRow (rdNode g) m r (left - 1) = rdCat z.2.1 (rdRow (rdNode g) (m - z.1) z.2.2.1 z.2.2.2)) (fun z => m - z.1)
        (fun z => [(15, .c (.int .i64 z.1)), (14, .c (.int .i64 ((left : Int) - (z.2.2.2 : Nat)))), (12, .c (.int .i64 (m : Nat))), (10, .c (.clo 134 [])), (0, .c (.str z.2.2.1)), (1, .c (.int .i64 (g + 1 : Nat))), (2, .c (.int .i64 left)), (6, .ptr 6 0), (11, .ptr 11 0)])
        (fun z => [(6, [.c (.int .i64 0), .c (.int .i64 0), .c (.int .i64 0), .c (.str []), .own .exact 5 []]), (11, [.c (.int .i64 3), .c (.int .i64 0), .c (.int .i64 0), .c (.str []), .own (.tok 11000 0) 5 (encNds z.2.1)])]) (fun _ => [(11000, 0)]) [6, 11, 11000] (0, [], r, left - 1)
        ⟨by omega, rfl, by show 0 + (left - 1) ≤ left - 1; omega, by show r.length ≤ 1048577; omega, by rw [rdCat_nil]; rfl⟩ ⟨.inl rfl, .inl rfl, .inl rfl, .inl rfl, .inl rfl, .inl rfl, .inl rfl, .inl rfl, .inl rfl, trivial⟩ ⟨rfl, rfl, trivial⟩ ⟨rfl, trivial⟩ rfl rfl rfl ?_
      rintro ⟨i, acc, s', l⟩ ⟨hi, hia, hil, hsl, hinv⟩ ih
      simp only at hi hia hil hsl hinv
      clear hd hdl e3 e2 e1 h2 z0
      have hwl : IntKind.i64.wrap ((left : Int) - ((left : Int) - (l : Nat))) = (l : Int) := by rw [w64 (by omega) (by omega)]; omega
      by_cases him : i < m
      · have ci : decide (((i : Nat) : Int) < ((m : Nat) : Int)) = true := decide_eq_true (by omega)
        have hq := hin s' l (by omega) hsl
        rw [← hwl] at hq
        rw [show m - i = m - (i + 1) + 1 from by omega] at hinv
        cases hr : rdNode g s' l with
        | no e =>
          rw [hr] at hq
          have he := rd_err g s' l e (by omega) (by omega) hr
          have c1 : (e != 0) = true := by simpa using he
          have hq' : QCalls Try.prog Try.X 110 [.str s', .int .i64 (IntKind.i64.wrap (((g + 1 : Nat) : Int) - 1)), .int .i64 (IntKind.i64.wrap ((left : Int) - ((left : Int) - (l : Nat))))] (.tup [encNd nd0, .str [], .int .i64 0, .int .i64 e]) := hq
          rw [hinv, rdCat_no _ _ _ _ _ _ hr]
          have ne := readNode1_calls e
          clear ih hinv hq
          repeat' (first | refine st ?_ | (refine AK.condS rfl (fun h => ?_) (fun h => ?_) <;> first | (cases h; done) | rw [h] | skip) | refine uQ hf rfl rfl ?_ | refine uC rfl ne ?_ | refine uC rfl hq' ?_ | (refine uA rfl ?_ ?_ <;> (try (show (_ : Nat) * _ ≤ _; dsimp only))) | refine AOps.toStr Try.hX kn rfl rfl rfl rfl rfl rfl rfl rfl rfl rfl rfl (by first | exact rfl | exact byte1 _) rfl ?_ | ((first | refine AOps.splitT rfl rfl rfl asm (fun h => ?_) | refine AOps.splitF rfl rfl rfl asm (fun h => ?_) | refine AOps.split rfl rfl rfl (fun h => ?_) (fun h => ?_)) <;> (fail_if_success (cases h; done)) <;> rw [h]))
          all_goals rfl
        | ok x r' l' =>
          rw [hr] at hq
          have hle := rd_lt g s' l x r' l' (by omega) (by omega) hr
          obtain ⟨x1, x2, x3, x4, x5⟩ := x
          have hq' : QCalls Try.prog Try.X 110 [.str s', .int .i64 (IntKind.i64.wrap (((g + 1 : Nat) : Int) - 1)), .int .i64 (IntKind.i64.wrap ((left : Int) - ((left : Int) - (l : Nat))))] (.tup [encNd (.mk x1 x2 x3 x4 x5), .str r', .int .i64 ((l : Int) - (l' : Nat)), .int .i64 0]) := hq
          rw [rdCat_ok _ _ _ _ _ _ _ _ hr] at hinv
          clear hq
          repeat' (first | refine st ?_ | (refine AK.condS rfl (fun h => ?_) (fun h => ?_) <;> first | (cases h; done) | rw [h] | skip) | refine uQ hf rfl rfl ?_ | refine uC rfl hq' ?_ | (refine uA rfl ?_ ?_ <;> (try (show (_ : Nat) * _ ≤ _; dsimp only))) | refine AOps.toStr Try.hX kn rfl rfl rfl rfl rfl rfl rfl rfl rfl rfl rfl (by first | exact rfl | exact byte1 _) rfl ?_ | ((first | refine AOps.splitT rfl rfl rfl asm (fun h => ?_) | refine AOps.splitF rfl rfl rfl asm (fun h => ?_) | refine AOps.split rfl rfl rfl (fun h => ?_) (fun h => ?_)) <;> (fail_if_success (cases h; done)) <;> rw [h]))
          · have h1 := encNds_length acc
            simp only [List.length_cons, List.length_nil]
            omega
          · have hap : encNds acc ++ [encNd (.mk x1 x2 x3 x4 x5)] = encNds (acc ++ [Nd.mk x1 x2 x3 x4 x5]) := (encNds_append acc [.mk x1 x2 x3 x4 x5]).symm
            have hmany : IntKind.i64.wrap (((left : Int) - (l : Nat)) + ((l : Int) - (l' : Nat))) = (left : Int) - (l' : Nat) := by rw [w64 (by omega) (by omega)]; omega
            refine AK.ren [(6, 6), (11, 11)] [(11000, (0, some 11000))] (env' := [(15, .c (.int .i64 ((i + 1 : Nat) : Int))), (14, .c (.int .i64 ((left : Int) - (l' : Nat)))), (12, .c (.int .i64 (m : Nat))), (10, .c (.clo 134 [])), (0, .c (.str r')), (1, .c (.int .i64 (g + 1 : Nat))), (2, .c (.int .i64 left)), (6, .ptr 6 0), (11, .ptr 11 0)])
              (bs' := [(6, [.c (.int .i64 0), .c (.int .i64 0), .c (.int .i64 0), .c (.str []), .own .exact 5 []]), (11, [.c (.int .i64 3), .c (.int .i64 0), .c (.int .i64 0), .c (.str []), .own (.tok 11000 0) 5 (encNds (acc ++ [Nd.mk x1 x2 x3 x4 x5]))])]) (ts' := [(11000, 0)]) (us' := [6, 11, 11000])
              ⟨⟨_, rfl, .inl (succ64' (i := i) (by omega))⟩, ⟨_, rfl, .inl (congrArg (fun k => AV.c (CV.int .i64 k)) hmany)⟩, ⟨_, rfl, .inl rfl⟩, ⟨_, rfl, .inl rfl⟩, ⟨_, rfl, .inl rfl⟩, ⟨_, rfl, .inl rfl⟩, ⟨_, rfl, .inl rfl⟩, ⟨_, rfl, ⟨_, rfl, rfl⟩⟩, ⟨_, rfl, ⟨_, rfl, rfl⟩⟩, trivial⟩ ⟨⟨_, _, rfl, rfl, ⟨_, _, rfl, .inl rfl, ⟨_, _, rfl, .inl rfl, ⟨_, _, rfl, .inl rfl, ⟨_, _, rfl, .inl rfl, ⟨_, _, rfl, rfl, rfl⟩⟩⟩⟩⟩⟩, ⟨_, _, rfl, rfl, ⟨_, _, rfl, .inl rfl, ⟨_, _, rfl, .inl rfl, ⟨_, _, rfl, .inl rfl, ⟨_, _, rfl, .inl rfl, ⟨_, _, rfl, ⟨_, rfl, .inr ⟨_, _, rfl, rfl, congrArg (AV.own (.tok 11000 1) 5) hap⟩⟩, rfl⟩⟩⟩⟩⟩⟩, trivial⟩ rfl ?_
            exact ih (i + 1, acc ++ [Nd.mk x1 x2 x3 x4 x5], r', l') ⟨him, by simp [hia], by show i + 1 + l' ≤ left - 1; omega, by show r'.length ≤ 1048577; omega, hinv⟩ (by show m - (i + 1) < m - i; omega)
      · have ci : decide (((i : Nat) : Int) < ((m : Nat) : Int)) = false := decide_eq_false (by omega)
        rw [hinv, show m - i = 0 from by omega, rdCat_end]
        clear ih hinv
        repeat' (first | refine st ?_ | (refine AK.condS rfl (fun h => ?_) (fun h => ?_) <;> first | (cases h; done) | rw [h] | skip) | refine uQ hf rfl rfl ?_ | (refine uA rfl ?_ ?_ <;> (try (show (_ : Nat) * _ ≤ _; dsimp only))) | refine AOps.toStr Try.hX kn rfl rfl rfl rfl rfl rfl rfl rfl rfl rfl rfl (by first | exact rfl | exact byte1 _) rfl ?_ | ((first | refine AOps.splitT rfl rfl rfl asm (fun h => ?_) | refine AOps.splitF rfl rfl rfl asm (fun h => ?_) | refine AOps.split rfl rfl rfl (fun h => ?_) (fun h => ?_)) <;> (fail_if_success (cases h; done)) <;> rw [h]))
        all_goals rfl
theorem DecodeNode_calls (s : List UInt8) (hs : s.length ≤ 1048577) : QCalls Try.prog Try.X 64 [.str s] (.tup [encNd (tDecode s).1, .int .i64 (tDecode s).2]) := by
  have h1 := readNode_calls 24 s 300 (by omega) (by omega) hs
  unfold tDecode
  cases hr : rdNode 24 s 300 with
  | no e =>
    rw [hr] at h1
    have he := rd_err 24 s 300 e (by omega) (by omega) hr
    have c1 : (e == 0) = false := by simpa using he
    have c2 : (e != 0) = true := by simpa using he
    refine QCalls.of Try.func64 rfl (fun args w => Try.call64 args w) (Nat.le_of_ble_eq_true rfl) [(0, .c (.str s))] rfl fun β hβ => ?_; have hf := Try.func64
    repeat' (first | refine st ?_ | (refine AK.condS rfl (fun h => ?_) (fun h => ?_) <;> first | (cases h; done) | rw [h] | skip) | refine uQ hf rfl rfl ?_ | refine uC rfl h1 ?_ | ((first | refine AOps.splitT rfl rfl rfl asm (fun h => ?_) | refine AOps.splitF rfl rfl rfl asm (fun h => ?_) | refine AOps.split rfl rfl rfl (fun h => ?_) (fun h => ?_)) <;> (fail_if_success (cases h; done)) <;> rw [h]))
    all_goals rfl
  | ok n r l =>
    rw [hr] at h1
    have hle := rd_le 24 s 300 n r l (by omega) (by omega) hr
    obtain ⟨n1, n2, n3, n4, n5⟩ := n
    have h1' : QCalls Try.prog Try.X 110 [.str s, .int .i64 24, .int .i64 300] (.tup [encNd (.mk n1 n2 n3 n4 n5), .str r, .int .i64 (((300 : Nat) : Int) - l), .int .i64 0]) := h1
    have c3 : decide ((((300 : Nat) : Int) - l) > 300) = false := decide_eq_false (by omega)
    cases r with
    | nil =>
      have c4 : (bif ((0 : Int) == 0) then bif !(([] : List UInt8) == (ByteArray.mk #[]).data.toList) then true else decide ((((300 : Nat) : Int) - l) > 300) else false) = false := by rw [c3]; rfl
      refine QCalls.of Try.func64 rfl (fun args w => Try.call64 args w) (Nat.le_of_ble_eq_true rfl) [(0, .c (.str s))] rfl fun β hβ => ?_; have hf := Try.func64
      repeat' (first | refine st ?_ | (refine AK.condS rfl (fun h => ?_) (fun h => ?_) <;> first | (cases h; done) | rw [h] | skip) | refine uQ hf rfl rfl ?_ | refine uC rfl h1' ?_ | ((first | refine AOps.splitT rfl rfl rfl asm (fun h => ?_) | refine AOps.splitF rfl rfl rfl asm (fun h => ?_) | refine AOps.split rfl rfl rfl (fun h => ?_) (fun h => ?_)) <;> (fail_if_success (cases h; done)) <;> rw [h]))
      all_goals rfl
    | cons b r =>
      simp only [if_neg (List.cons_ne_nil b r)]
      have c4 : (bif ((0 : Int) == 0) then bif !((b :: r) == (ByteArray.mk #[]).data.toList) then true else decide ((((300 : Nat) : Int) - l) > 300) else false) = true := rfl
      refine QCalls.of Try.func64 rfl (fun args w => Try.call64 args w) (Nat.le_of_ble_eq_true rfl) [(0, .c (.str s))] rfl fun β hβ => ?_; have hf := Try.func64
      repeat' (first | refine st ?_ | (refine AK.condS rfl (fun h => ?_) (fun h => ?_) <;> first | (cases h; done) | rw [h] | skip) | refine uQ hf rfl rfl ?_ | refine uC rfl h1' ?_ | ((first | refine AOps.splitT rfl rfl rfl asm (fun h => ?_) | refine AOps.splitF rfl rfl rfl asm (fun h => ?_) | refine AOps.split rfl rfl rfl (fun h => ?_) (fun h => ?_)) <;> (fail_if_success (cases h; done)) <;> rw [h]))
      all_goals rfl

end Go.Proofs

set_option linter.unusedVariables false
set_option linter.unusedSimpArgs false
set_option maxRecDepth 100000
namespace Go.Proofs
open Go.Abs
attribute [local irreducible] AK AOps QCalls ECalls vNode vNodes vElts tHas vHas tGoodN tDecode bytesN vPar tGood tPack tPar tUnpack tVNode tVPack tTold vSame ndSame tEncode rNode gGuess
set_option maxHeartbeats 0 in
theorem rUnpack_calls (t : Ty) (s : List UInt8) (ht : tySize t ≤ 1048577) : QCalls Try.prog Try.X 84 [encTy t, .str s] (.tup [encVl (tUnpack t s).1, .int .i64 (tUnpack t s).2]) := by
  have h2 := rPacked_calls t (by omega)
  cases s with
  | nil =>
    rw [tUnpack_nil]
    clear h2
    obtain ⟨T, ts⟩ := t
    refine QCalls.of Try.func84 rfl (fun args w => Try.call84 args w) (Nat.le_of_ble_eq_true rfl) [(0, .c (encTy (.mk T ts))), (1, .c (.str []))] rfl fun β hβ => ?_; have hf := Try.func84
    exact dq
  | cons c r =>
  have e0 : ((c :: r) == (ByteArray.mk #[]).data.toList) = false := rfl
  by_cases hc : c = 5
  rotate_left
  · rw [tUnpack_no _ _ _ (fun h => hc h.1)]
    have e1 : (((c.toNat : Nat) : Int) != 5) = true := by
      have : c.toNat ≠ 5 := fun h => hc (UInt8.toNat_inj.1 h)
      simp only [bne_iff_ne, ne_eq]; omega
    have e2 : (bif (c :: r) == (ByteArray.mk #[]).data.toList then true else (((c.toNat : Nat) : Int) != 5)) = true := by rw [e0, e1]; rfl
    have e3 : ∀ b, (bif (bif (c :: r) == (ByteArray.mk #[]).data.toList then true else (((c.toNat : Nat) : Int) != 5)) then true else b) = true := fun b => by rw [e2]; rfl
    have e4 := e3 (decide ((((c :: r : List UInt8).length : Nat) : Int) > 200))
    clear h2
    obtain ⟨T, ts⟩ := t
    refine QCalls.of Try.func84 rfl (fun args w => Try.call84 args w) (Nat.le_of_ble_eq_true rfl) [(0, .c (encTy (.mk T ts))), (1, .c (.str (c :: r)))] rfl fun β hβ => ?_; have hf := Try.func84
    repeat' (first | refine st ?_ | (refine AK.condS rfl (fun h => ?_) (fun h => ?_) <;> first | (cases h; done) | rw [h] | skip) | refine uQ hf rfl rfl ?_ | refine AOps.indexStr Try.hX kn rfl rfl rfl rfl rfl rfl (m := 0) rfl rfl ?_ | ((first | refine AOps.splitT rfl rfl rfl asm (fun h => ?_) | refine AOps.splitF rfl rfl rfl asm (fun h => ?_) | refine AOps.split rfl rfl rfl (fun h => ?_) (fun h => ?_)) <;> (fail_if_success (cases h; done)) <;> rw [h]))
    all_goals rfl
  subst hc
  have ea : (bif (5 :: r : List UInt8) == (ByteArray.mk #[]).data.toList then true else ((((5 : UInt8).toNat : Nat) : Int) != 5)) = false := by rw [e0]; rfl
  by_cases hl : (5 :: r : List UInt8).length ≤ 200
  rotate_left
  · rw [tUnpack_no _ _ _ (fun h => hl h.2.1)]
    have e1 : decide ((((5 :: r : List UInt8).length : Nat) : Int) > 200) = true := decide_eq_true (by omega)
    have eb : (bif (bif (5 :: r : List UInt8) == (ByteArray.mk #[]).data.toList then true else ((((5 : UInt8).toNat : Nat) : Int) != 5)) then true else decide ((((5 :: r : List UInt8).length : Nat) : Int) > 200)) = true := by rw [ea, e1]; rfl
    have ec : ∀ b, (bif (bif (bif (5 :: r : List UInt8) == (ByteArray.mk #[]).data.toList then true else ((((5 : UInt8).toNat : Nat) : Int) != 5)) then true else decide ((((5 :: r : List UInt8).length : Nat) : Int) > 200)) then true else b) = true := fun b => by rw [eb]; rfl
    clear h2
    obtain ⟨T, ts⟩ := t
    refine QCalls.of Try.func84 rfl (fun args w => Try.call84 args w) (Nat.le_of_ble_eq_true rfl) [(0, .c (encTy (.mk T ts))), (1, .c (.str (5 :: r)))] rfl fun β hβ => ?_; have hf := Try.func84
    repeat' (first | refine st ?_ | (refine AK.condS rfl (fun h => ?_) (fun h => ?_) <;> first | (cases h; done) | rw [h] | skip) | refine uQ hf rfl rfl ?_ | refine AOps.indexStr Try.hX kn rfl rfl rfl rfl rfl rfl (m := 0) rfl rfl ?_ | ((first | refine AOps.splitT rfl rfl rfl asm (fun h => ?_) | refine AOps.splitF rfl rfl rfl asm (fun h => ?_) | refine AOps.split rfl rfl rfl (fun h => ?_) (fun h => ?_)) <;> (fail_if_success (cases h; done)) <;> rw [h]))
    all_goals rfl
  have e1 : decide ((((5 :: r : List UInt8).length : Nat) : Int) > 200) = false := decide_eq_false (by omega)
  have eb : (bif (bif (5 :: r : List UInt8) == (ByteArray.mk #[]).data.toList then true else ((((5 : UInt8).toNat : Nat) : Int) != 5)) then true else decide ((((5 :: r : List UInt8).length : Nat) : Int) > 200)) = false := by rw [ea, e1]; rfl
  have ec : ∀ b, (bif (bif (bif (5 :: r : List UInt8) == (ByteArray.mk #[]).data.toList then true else ((((5 : UInt8).toNat : Nat) : Int) != 5)) then true else decide ((((5 :: r : List UInt8).length : Nat) : Int) > 200)) then true else b) = b := fun b => by rw [eb]; rfl
  have ed := ec (!false)
  have ee := ec (!true)
  cases g2 : tPack t with
  | false =>
    rw [g2] at h2
    rw [tUnpack_no _ _ _ (fun h => by rw [g2] at h; exact absurd h.2.2.1 (by simp))]
    obtain ⟨T, ts⟩ := t
    refine QCalls.of Try.func84 rfl (fun args w => Try.call84 args w) (Nat.le_of_ble_eq_true rfl) [(0, .c (encTy (.mk T ts))), (1, .c (.str (5 :: r)))] rfl fun β hβ => ?_; have hf := Try.func84
    repeat' (first | refine st ?_ | (refine AK.condS rfl (fun h => ?_) (fun h => ?_) <;> first | (cases h; done) | rw [h] | skip) | refine uQ hf rfl rfl ?_ | refine AOps.indexStr Try.hX kn rfl rfl rfl rfl rfl rfl (m := 0) rfl rfl ?_ | refine uC rfl h2 ?_ | ((first | refine AOps.splitT rfl rfl rfl asm (fun h => ?_) | refine AOps.splitF rfl rfl rfl asm (fun h => ?_) | refine AOps.split rfl rfl rfl (fun h => ?_) (fun h => ?_)) <;> (fail_if_success (cases h; done)) <;> rw [h]))
    all_goals rfl
  | true =>
  rw [g2] at h2
  have h3 := DecodeNode_calls r (by simp only [List.length_cons] at hl; omega)
  by_cases hd : (tDecode r).2 = 0
  rotate_left
  · rw [tUnpack_no _ _ _ (fun h => hd h.2.2.2)]
    rcases hr : tDecode r with ⟨⟨a1, a2, a3, a4, a5⟩, e⟩
    rw [hr] at h3 hd
    simp only at h3 hd
    have e3 : (e != 0) = true := by simpa using hd
    obtain ⟨T, ts⟩ := t
    refine QCalls.of Try.func84 rfl (fun args w => Try.call84 args w) (Nat.le_of_ble_eq_true rfl) [(0, .c (encTy (.mk T ts))), (1, .c (.str (5 :: r)))] rfl fun β hβ => ?_; have hf := Try.func84
    repeat' (first | refine st ?_ | (refine AK.condS rfl (fun h => ?_) (fun h => ?_) <;> first | (cases h; done) | rw [h] | skip) | refine uQ hf rfl rfl ?_ | refine AOps.indexStr Try.hX kn rfl rfl rfl rfl rfl rfl (m := 0) rfl rfl ?_ | refine uC rfl h2 ?_ | refine uC rfl h3 ?_ | refine AOps.sliceStr Try.hX kn rfl rfl rfl rfl rfl rfl (l := some 1) (h := none) rfl rfl (by simp) (by simp) ?_ | ((first | refine AOps.splitT rfl rfl rfl asm (fun h => ?_) | refine AOps.splitF rfl rfl rfl asm (fun h => ?_) | refine AOps.split rfl rfl rfl (fun h => ?_) (fun h => ?_)) <;> (fail_if_success (cases h; done)) <;> rw [h]))
    all_goals rfl
  rw [tUnpack_go _ _ ⟨hl, g2, hd⟩]
  have hsm := tDecode_small (s := r) (n := 200) (by simp only [List.length_cons] at hl; omega)
  have hgd := (tDecode_only hd).1
  have h4 := ParseValue_calls t (tDecode r).1 (good_wf hgd) ht (by omega)
  clear hsm hgd
  rcases hr : tDecode r with ⟨⟨a1, a2, a3, a4, a5⟩, e⟩
  rw [hr] at h3 h4 hd
  simp only at h3 h4 hd
  subst hd
  rcases hp : tPar t (.mk a1 a2 a3 a4 a5) with ⟨⟨y1, y2, y3, y4, y5, y6, y7⟩, e2⟩
  rw [hp] at h4
  obtain ⟨T, ts⟩ := t
  refine QCalls.of Try.func84 rfl (fun args w => Try.call84 args w) (Nat.le_of_ble_eq_true rfl) [(0, .c (encTy (.mk T ts))), (1, .c (.str (5 :: r)))] rfl fun β hβ => ?_; have hf := Try.func84
  repeat' (first | refine st ?_ | (refine AK.condS rfl (fun h => ?_) (fun h => ?_) <;> first | (cases h; done) | rw [h] | skip) | refine uQ hf rfl rfl ?_ | refine AOps.indexStr Try.hX kn rfl rfl rfl rfl rfl rfl (m := 0) rfl rfl ?_ | refine uC rfl h2 ?_ | refine uC rfl h3 ?_ | refine uC rfl h4 ?_ | refine AOps.sliceStr Try.hX kn rfl rfl rfl rfl rfl rfl (l := some 1) (h := none) rfl rfl (by simp) (by simp) ?_ | ((first | refine AOps.splitT rfl rfl rfl asm (fun h => ?_) | refine AOps.splitF rfl rfl rfl asm (fun h => ?_) | refine AOps.split rfl rfl rfl (fun h => ?_) (fun h => ?_)) <;> (fail_if_success (cases h; done)) <;> rw [h]))
  all_goals rfl
theorem tUnpack_size (t : Ty) (s : List UInt8) : vlSize (tUnpack t s).1 ≤ 1048577 := by
  cases s with
  | nil => rw [tUnpack_nil]; decide
  | cons c r =>
    by_cases h : c = 5 ∧ (c :: r).length ≤ 200 ∧ tPack t = true ∧ (tDecode r).2 = 0
    · obtain ⟨rfl, hl, hp, hd⟩ := h
      rw [tUnpack_go t r ⟨hl, hp, hd⟩]
      have h1 := tPar_size t (tDecode r).1
      have h2 := tDecode_small (s := r) (n := 200) (by simp only [List.length_cons] at hl; omega)
      omega
    · rw [tUnpack_no t c r h]; decide

set_option maxHeartbeats 0 in
theorem ValueParses_calls (t : Ty) (hw : tyWf t) (ht : tySize t ≤ 1048577) (n : Nd) (hwn : ndWf n) (hn : ndSize n ≤ 1048577) (s : List UInt8) (hs : s.length ≤ 1048576) : QCalls Try.prog Try.X 21 [encTy t, encNd n, .str s] (.bool true) := by
  have h1 := vParse_calls t n ht hn
  have h2 := ParseValue_calls t n hwn ht hn
  have h3 := Unpack_calls t s ht
  have h4 := rUnpack_calls t s ht
  have h5 := worthL_calls
  have z1 := tPar_size t n
  have z2 := tUnpack_size t s
  generalize tPar t n = r at h1 h2 z1
  generalize tUnpack t s = q at h3 h4 z2
  obtain ⟨r1, r2⟩ := r
  obtain ⟨q1, q2⟩ := q
  simp only at z1 z2 h1 h2 h3 h4
  have h6 := rSameValue_calls r1 r1 (by omega)
  have h7 := rSameValue_calls q1 q1 (by omega)
  rw [(vSame_iff _ _).2 rfl] at h6 h7
  have e1 : (r2 == r2) = true := by simp
  have e2 : (q2 == q2) = true := by simp
  have e4 : (r2 != r2) = false := by simp
  clear z1 z2 hwn hw
  obtain ⟨y1, y2, y3, y4, y5, y6, y7⟩ := r1
  obtain ⟨w1, w2, w3, w4, w5, w6, w7⟩ := q1
  obtain ⟨T, ts⟩ := t
  obtain ⟨x1, x2, x3, x4, x5⟩ := n
  refine QCalls.of Try.func21 rfl (fun args w => Try.call21 args w) (Nat.le_of_ble_eq_true rfl) [(0, .c (encTy (.mk T ts))), (1, .c (encNd (.mk x1 x2 x3 x4 x5))), (2, .c (.str s))] rfl fun β hβ => ?_; have hf := Try.func21
  repeat' (first | refine st ?_ | (refine AK.condS rfl (fun h => ?_) (fun h => ?_) <;> first | (cases h; done) | rw [h] | skip) | refine uQ hf rfl rfl ?_ | refine uC rfl h1 ?_ | refine uC rfl h2 ?_ | refine uC rfl h3 ?_ | refine uC rfl h4 ?_ | refine uC rfl h5 ?_ | refine uC rfl h6 ?_ | refine uC rfl h7 ?_ | ((first | refine AOps.splitT rfl rfl rfl asm (fun h => ?_) | refine AOps.splitF rfl rfl rfl asm (fun h => ?_) | refine AOps.split rfl rfl rfl (fun h => ?_) (fun h => ?_)) <;> (fail_if_success (cases h; done)) <;> rw [h]))
  all_goals
    show (_ : CV) = _
    first | rfl | simp
end Go.Proofs

set_option linter.unusedVariables false
set_option linter.unusedSimpArgs false
namespace Go.Proofs
open Go.Abs Go.ChangeShapes Go.WideShapes Go.ChangeAt Go.RowKit

theorem bulkAll_sum {H : Type} : ∀ (l : List (DataW H)), (l.map Ytcinhjfonmjneaa.Rows.uptoBulk).sum = Ytcinhjfonmjneaa.Rows.uptoBulkAll l
  | [] => rfl
  | d :: l => by simp only [List.map_cons, List.sum_cons, Ytcinhjfonmjneaa.Rows.uptoBulkAll, bulkAll_sum l]

theorem bulkOk {H : Type} : BulkOk (H := H) Ytcinhjfonmjneaa.Rows.uptoBulk where
  lit := fun l => by cases l <;> simp [Ytcinhjfonmjneaa.Rows.uptoBulk]
  str := fun s => by simp [Ytcinhjfonmjneaa.Rows.uptoBulk]
  nil := by simp [Ytcinhjfonmjneaa.Rows.uptoBulk]
  slice := fun l r => by rw [bulkAll_sum]; simp only [Ytcinhjfonmjneaa.Rows.uptoBulk]; omega
  agg := fun l => by rw [bulkAll_sum]; simp only [Ytcinhjfonmjneaa.Rows.uptoBulk]; omega

def RTy : CV → Nat → Prop := fun c m => ∃ t : Ty, c = encTy t ∧ tyWf t ∧ tySize t ≤ m
def RNd : CV → Nat → Prop := fun c m => ∃ t : Nd, c = encNd t ∧ ndWf t ∧ ndSize t ≤ m
def RVl : CV → Nat → Prop := fun c m => ∃ t : Vl, c = encVl t ∧ vlWf t ∧ vlSize t ≤ m

theorem rows_tys : ∀ {rows : List CV} {m : Nat}, RowsR RTy rows m → ∃ l : List Ty, rows = encTys l ∧ tysWf l ∧ tysSize l ≤ m
  | [], m, _ => ⟨[], rfl, trivial, by simp [tysSize]⟩
  | r :: rows, m, ⟨k, m', ⟨t, h1, h2, h3⟩, h4, h5⟩ => by
    obtain ⟨l, e1, e2, e3⟩ := rows_tys h4
    exact ⟨t :: l, by rw [h1, e1]; rfl, ⟨h2, e2⟩, by simp only [tysSize]; omega⟩
theorem rows_nds : ∀ {rows : List CV} {m : Nat}, RowsR RNd rows m → ∃ l : List Nd, rows = encNds l ∧ ndsWf l ∧ ndsSize l ≤ m
  | [], m, _ => ⟨[], rfl, trivial, by simp [ndsSize]⟩
  | r :: rows, m, ⟨k, m', ⟨t, h1, h2, h3⟩, h4, h5⟩ => by
    obtain ⟨l, e1, e2, e3⟩ := rows_nds h4
    exact ⟨t :: l, by rw [h1, e1]; rfl, ⟨h2, e2⟩, by simp only [ndsSize]; omega⟩
abbrev Rint : CV → Nat → Prop := fun c k => ∃ z, c = .int .i64 z ∧ (Lit.int .i64 z).wf = true ∧ 1 ≤ k
abbrev Rstr : CV → Nat → Prop := fun c k => ∃ s, c = .str s ∧ s.length + 1 ≤ k
abbrev Rsl (s : Nat) (R : CV → Nat → Prop) : CV → Nat → Prop := fun c k => ∃ rows, c = .sl s rows ∧ ∃ m', RowsR R rows m' ∧ m' + 1 ≤ k

theorem cells_int : Try.prog.cellsOf 3 = 1 := by kernel_rfl
theorem cells_str : Try.prog.cellsOf 9 = 1 := by kernel_rfl
theorem cells_tys : Try.prog.cellsOf 33 = 1 := by kernel_rfl
theorem cells_nds : Try.prog.cellsOf 30 = 1 := by kernel_rfl
theorem cells_ty : Try.prog.cellsOf 35 = 2 := by kernel_rfl
theorem cells_nd : Try.prog.cellsOf 32 = 5 := by kernel_rfl
section
variable {H : Type} {enc : TypeId × Value → H} {W : World}

theorem rdSl {m e t s : Nat} {R : CV → Nat → Prop} (hu : Try.prog.underlying t = some (.slice e)) (hs : Try.prog.cellsOf e = s) (h0 : 0 < s) (h : ∀ k, k < m → RD enc Try.prog W Ytcinhjfonmjneaa.Rows.uptoBulk k e R) :
    RD (H := H) enc Try.prog W Ytcinhjfonmjneaa.Rows.uptoBulk m t (Rsl s R) := by
  cases m with
  | zero => exact RD.zero
  | succ k => exact RD.slice bulkOk hu hs h0 (h k (by omega))

theorem rdTy : ∀ (n m : Nat), m ≤ n → RD (H := H) enc Try.prog W Ytcinhjfonmjneaa.Rows.uptoBulk m 35 RTy
  | 0, m, hm => by obtain rfl : m = 0 := by omega
                   exact RD.zero
  | n + 1, 0, _ => RD.zero
  | n + 1, m + 1, hm => by
    refine RD.mono (RD.struct bulkOk Try.underlying35 rfl (Rs := [Rint, Rsl 2 RTy]) (fun k hk => ?_) ?_) (Nat.le_refl _) ?_
    · exact ⟨_, _, rfl, rfl, RD.int bulkOk Try.underlying3, _, _, rfl, by rw [cells_int], rdSl Try.underlying33 cells_ty (by decide) (fun q hq => rdTy n q (by omega)), rfl⟩
    · simp only [List.map, fieldsEnd, cells_int, cells_tys, cells_ty]
    · rintro c k ⟨l, rfl, m', hF, hle⟩
      obtain ⟨c1, k1, l1, m1, rfl, ⟨z, rfl, hz, _⟩, ⟨c2, k2, l2, m2, rfl, ⟨rows, rfl, m3, hr, h3⟩, rfl, h4⟩, h5⟩ := hF
      obtain ⟨tl, rfl, e2, e3⟩ := rows_tys hr
      exact ⟨.mk z tl, rfl, ⟨bounds_i64 hz, e2⟩, by simp only [tySize]; omega⟩

theorem rdNd : ∀ (n m : Nat), m ≤ n → RD (H := H) enc Try.prog W Ytcinhjfonmjneaa.Rows.uptoBulk m 32 RNd
  | 0, m, hm => by obtain rfl : m = 0 := by omega
                   exact RD.zero
  | n + 1, 0, _ => RD.zero
  | n + 1, m + 1, hm => by
    refine RD.mono (RD.struct bulkOk Try.underlying32 rfl (Rs := [Rint, Rint, Rint, Rstr, Rsl 5 RNd]) (fun k hk => ?_) ?_) (Nat.le_refl _) ?_
    · exact ⟨_, _, rfl, rfl, RD.int bulkOk Try.underlying3, _, _, rfl, by rw [cells_int], RD.int bulkOk Try.underlying3, _, _, rfl, by rw [cells_int], RD.int bulkOk Try.underlying3,
        _, _, rfl, by rw [cells_int], RD.str bulkOk Try.underlying9, _, _, rfl, by rw [cells_int, cells_str], rdSl Try.underlying30 cells_nd (by decide) (fun q hq => rdNd n q (by omega)), rfl⟩
    · simp only [List.map, fieldsEnd, cells_int, cells_str, cells_nds, cells_nd]
    · rintro c k ⟨l, rfl, m', hF, hle⟩
      obtain ⟨c1, k1, l1, m1, rfl, ⟨z, rfl, hz, _⟩, ⟨c2, k2, l2, m2, rfl, ⟨z2, rfl, hz2, _⟩, ⟨c3, k3, l3, m3, rfl, ⟨z3, rfl, hz3, _⟩, ⟨c4, k4, l4, m4, rfl, ⟨s, rfl, hs⟩, ⟨c5, k5, l5, m5, rfl, ⟨rows, rfl, m6, hr, h6⟩, rfl, h7⟩, h8⟩, h9⟩, h10⟩, h11⟩ := hF
      obtain ⟨tl, rfl, e2, e3⟩ := rows_nds hr
      exact ⟨.mk z z2 z3 s tl, rfl, ⟨bounds_i64 hz, bounds_i64 hz2, bounds_i64 hz3, e2⟩, by simp only [ndSize]; omega⟩

set_option maxRecDepth 100000 in
theorem openTy {v : Value} {d : DataW H} {ps : List MemPlace} {b0 : Nat} {r : Reach} (hok : Value.okWide Try.prog W r b0 35 v) (hd : DataW.Trod enc Try.prog W 0 (fun _ => true) true 35 v d ps) :
    ∃ a : Ty, Rel (ImmOf W) (encTy a) v ∧ tyWf a ∧ tySize a ≤ Ytcinhjfonmjneaa.Rows.uptoBulk d := by
  obtain ⟨c, h1, h⟩ := rel_of_trod_agg (R := RTy) Try.underlying35 (fun n => rdTy n n (Nat.le_refl _)) hd hok (fun c k h => by obtain ⟨t, h, _⟩ := h; cases t; exact ⟨_, h⟩)
  obtain ⟨a, rfl, h2, h3⟩ := h
  exact ⟨a, h1, h2, h3⟩
set_option maxRecDepth 100000 in
theorem openNd {v : Value} {d : DataW H} {ps : List MemPlace} {b0 : Nat} {r : Reach} (hok : Value.okWide Try.prog W r b0 32 v) (hd : DataW.Trod enc Try.prog W 0 (fun _ => true) true 32 v d ps) :
    ∃ a : Nd, Rel (ImmOf W) (encNd a) v ∧ ndWf a ∧ ndSize a ≤ Ytcinhjfonmjneaa.Rows.uptoBulk d := by
  obtain ⟨c, h1, h⟩ := rel_of_trod_agg (R := RNd) Try.underlying32 (fun n => rdNd n n (Nat.le_refl _)) hd hok (fun c k h => by obtain ⟨t, h, _⟩ := h; cases t; exact ⟨_, h⟩)
  obtain ⟨a, rfl, h2, h3⟩ := h
  exact ⟨a, h1, h2, h3⟩
end
end Go.Proofs
