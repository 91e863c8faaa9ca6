/- What numberOf of touchstoneref answers. -/
-- WIDE
import Derived.Test.YtcinhjfonmjneaaTree7
set_option linter.unusedVariables false
set_option linter.unusedSimpArgs false
namespace Go.Proofs
open Go.Abs
theorem bound_of {ρ : Operand → Option AV} {o : Operand} {k : IntKind} {z : Int} (h : ρ o = some (.c (.int k z))) (m : Nat) (hz : z = (m : Int)) : bound ρ (some o) = some (some m) := by
  subst hz
  simp only [bound, h]
  rfl
theorem tup2 {a a' b b' : Int} (h1 : a = a') (h2 : b = b') : CV.tup [CV.int .i64 a, CV.int .i64 b] = CV.tup [CV.int .i64 a', CV.int .i64 b'] := by rw [h1, h2]
theorem bytes_at {s : List UInt8} {i : Nat} {b : UInt8} (h : s[i]? = some b) : (byteRows s)[i]? = some (CV.int .u8 b.toNat) := by simp [byteRows, h]
theorem wt_zero : wt 0 = 1 := rfl
theorem wt_one : wt (0 + 1) = 64 := rfl
theorem val_nil : val [] = 0 := rfl
theorem wt_succ (i : Nat) (h : 1 ≤ i) : wt (i + 1) = wt i * 128 := by
  cases i with
  | zero => omega
  | succ i => simp only [wt, Nat.pow_succ]; omega
theorem wt_le (i : Nat) (h : i ≤ 8) : wt i ≤ 36028797018963968 := by
  have : i = 0 ∨ i = 1 ∨ i = 2 ∨ i = 3 ∨ i = 4 ∨ i = 5 ∨ i = 6 ∨ i = 7 ∨ i = 8 := by omega
  rcases this with rfl | rfl | rfl | rfl | rfl | rfl | rfl | rfl | rfl <;> decide
theorem take_snoc {s : List UInt8} {i : Nat} {b : UInt8} (h : s[i]? = some b) : s.take (i + 1) = s.take i ++ [b] := by
  rw [List.take_add_one, h]; rfl
theorem split_at {s : List UInt8} {i : Nat} {b : UInt8} (h : s[i]? = some b) : s = s.take i ++ b :: s.drop (i + 1) := by
  have hl : i < s.length := (List.getElem?_eq_some_iff.1 h).1
  rw [← drop_at h, List.take_append_drop]
theorem goB_snoc {l : List UInt8} {b : UInt8} (h : goB l) (hb : 128 ≤ b.toNat) : goB (l ++ [b]) := by
  intro x hx
  rcases List.mem_append.1 hx with hx | hx
  · exact h x hx
  · simp at hx; rw [hx]; exact hb
theorem nIn_dec' (n : Int) : nIn n = decide (-maxI ≤ n ∧ n ≤ maxI) := by
  unfold nIn; rw [Bool.eq_iff_iff]; simp [maxI]
attribute [local irreducible] AK AOps QCalls ECalls numB nOf val wt nIn

set_option maxHeartbeats 0 in
theorem numberOf_calls (s : List UInt8) (hs : s.length ≤ 1099511627776) : QCalls Try.prog Try.X 135 [.str s] (.tup [.int .i64 (nOf s).1, .int .i64 (nOf s).2]) := by
  have hbl : (byteRows s).length = s.length := by simp [byteRows]
  refine QCalls.of Try.func135 rfl (fun args w => Try.call135 args w) (Nat.le_of_ble_eq_true rfl) [(0, .c (.str s))] rfl fun β hβ => ?_; have hf := Try.func135
  repeat' (first | refine AK.runP Try.hX Try.mixed 300 rfl ?_ | refine AK.condTe rfl asm ?_ | refine AK.condFe rfl asm ?_ | (refine AK.condS rfl (fun h => ?_) (fun h => ?_) <;> first | (cases h; done) | rw [h] | skip) | refine AK.retQ Try.hX hf rfl rfl ?_ | refine AK.region Try.mixed rfl ?_ | refine AOps.done ?_ | refine AOps.runS Try.hX kn rfl ?_ | refine AOps.toBytes Try.hX kn rfl rfl rfl rfl rfl rfl rfl rfl rfl rfl ?_ | refine AOps.box kn rfl rfl rfl rfl rfl rfl ?_ | refine AOps.alloc Try.hX kn rfl rfl rfl rfl rfl rfl rfl ?_ | refine AOps.store Try.hX kn rfl rfl rfl rfl rfl rfl rfl rfl rfl rfl rfl ?_ | refine AOps.buildSlice Try.hX kn rfl rfl rfl rfl rfl rfl rfl rfl rfl rfl rfl rfl ?_ | refine AOps.append Try.hX kn rfl rfl rfl rfl rfl rfl rfl rfl rfl rfl rfl rfl rfl rfl rfl rfl rfl rfl rfl rfl rfl ?_ ?_ | refine AOps.toStr Try.hX kn rfl rfl rfl rfl rfl rfl rfl rfl rfl rfl rfl (by first | exact rfl | exact byte1 _) rfl ?_ | refine AOps.buildArr Try.hX kn rfl rfl rfl rfl rfl rfl rfl rfl ?_ | refine AOps.indexArr Try.hX kn rfl rfl rfl rfl rfl rfl rfl rfl rfl rfl rfl rfl ?_ | refine AOps.runP1 Try.hX kn rfl rfl ?_ | (refine AOps.splitT rfl rfl rfl asm (fun h => ?_) <;> (fail_if_success (cases h; done)) <;> rw [h]) | (refine AOps.splitF rfl rfl rfl asm (fun h => ?_) <;> (fail_if_success (cases h; done)) <;> rw [h]) | (refine AOps.split rfl rfl rfl (fun h => ?_) (fun h => ?_) <;> (fail_if_success (cases h; done)) <;> rw [h]) | refine AOps.drawn (by kernel_rfl) ?_)
  refine AK.loopE (α := Nat) (fun i => i ≤ s.length ∧ i ≤ 9 ∧ goB (s.take i)) (fun i => s.length - i)
    (fun i => [(12, .c (.int .i64 i)), (11, .c (.int .i64 (byteRows s).length)), (10, .c (.sl 1 (byteRows s))), (0, .c (.str s)), (4, .c (.int .i64 (val (s.take i) : Nat))), (5, .c (.int .i64 (wt i : Nat)))]) (fun _ => []) (fun _ => []) [] 0
    ⟨by omega, by omega, by simp [goB]⟩ ⟨.inl rfl, .inl rfl, .inl rfl, .inl rfl, .inl (congrArg (fun z => some (AV.c (CV.int .i64 z))) (show (0 : Int) = ((val (s.take 0) : Nat) : Int) from by rw [List.take_zero, val_nil]; rfl)), .inl (congrArg (fun z => some (AV.c (CV.int .i64 z))) (show (1 : Int) = ((wt 0 : Nat) : Int) from by rw [wt_zero]; rfl)), trivial⟩ trivial trivial rfl rfl rfl ?_
  rintro i ⟨hi, hi9, hgo⟩ ih
  have hll : (s.take i).length = i := by rw [List.length_take]; omega
  by_cases hend : i = s.length
  · have c0 : decide (((i : Nat) : Int) < (((byteRows s).length : Nat) : Int)) = false := decide_eq_false (by omega)
    have hn := nOf_long (s := s) (l := s.take i) (t := []) (by rw [hend]; simp) hgo (.inr rfl)
    rw [hn]
    clear ih
    repeat' (first | refine AK.runP Try.hX Try.mixed 300 rfl ?_ | refine AK.condTe rfl asm ?_ | refine AK.condFe rfl asm ?_ | (refine AK.condS rfl (fun h => ?_) (fun h => ?_) <;> first | (cases h; done) | rw [h] | skip) | refine AK.retQ Try.hX hf rfl rfl ?_ | refine AK.region Try.mixed rfl ?_ | refine AOps.done ?_ | refine AOps.runS Try.hX kn rfl ?_ | refine AOps.box kn rfl rfl rfl rfl rfl rfl ?_ | refine AOps.alloc Try.hX kn rfl rfl rfl rfl rfl rfl rfl ?_ | refine AOps.store Try.hX kn rfl rfl rfl rfl rfl rfl rfl rfl rfl rfl rfl ?_ | refine AOps.buildSlice Try.hX kn rfl rfl rfl rfl rfl rfl rfl rfl rfl rfl rfl rfl ?_ | refine AOps.append Try.hX kn rfl rfl rfl rfl rfl rfl rfl rfl rfl rfl rfl rfl rfl rfl rfl rfl rfl rfl rfl rfl rfl ?_ ?_ | refine AOps.toStr Try.hX kn rfl rfl rfl rfl rfl rfl rfl rfl rfl rfl rfl (by first | exact rfl | exact byte1 _) rfl ?_ | refine AOps.buildArr Try.hX kn rfl rfl rfl rfl rfl rfl rfl rfl ?_ | refine AOps.indexArr Try.hX kn rfl rfl rfl rfl rfl rfl rfl rfl rfl rfl rfl rfl ?_ | refine AOps.runP1 Try.hX kn rfl rfl ?_ | (refine AOps.splitT rfl rfl rfl asm (fun h => ?_) <;> (fail_if_success (cases h; done)) <;> rw [h]) | (refine AOps.splitF rfl rfl rfl asm (fun h => ?_) <;> (fail_if_success (cases h; done)) <;> rw [h]) | (refine AOps.split rfl rfl rfl (fun h => ?_) (fun h => ?_) <;> (fail_if_success (cases h; done)) <;> rw [h]) | refine AOps.drawn (by kernel_rfl) ?_)
    all_goals rfl
  have c0 : decide (((i : Nat) : Int) < (((byteRows s).length : Nat) : Int)) = true := decide_eq_true (by omega)
  obtain ⟨b, hb⟩ : ∃ b, s[i]? = some b := ⟨s[i]'(by omega), by simp⟩
  have hsp := split_at hb
  have hrow := bytes_at hb
  have htk := take_snoc hb
  have hbt := b.toNat_lt
  by_cases h9 : i = 9
  · have c1 : decide (((i : Nat) : Int) > 8) = true := decide_eq_true (by omega)
    have hn := nOf_long hsp hgo (.inl (by omega))
    rw [hn]
    clear ih hn
    repeat' (first | refine AK.runP Try.hX Try.mixed 300 rfl ?_ | refine AK.condTe rfl asm ?_ | refine AK.condFe rfl asm ?_ | (refine AK.condS rfl (fun h => ?_) (fun h => ?_) <;> first | (cases h; done) | rw [h] | skip) | refine AK.retQ Try.hX hf rfl rfl ?_ | refine AK.region Try.mixed rfl ?_ | refine AOps.done ?_ | refine AOps.runS Try.hX kn rfl ?_ | refine AOps.index Try.hX rfl rfl rfl rfl rfl rfl rfl rfl rfl rfl (i) rfl (hrow) rfl ?_ | refine AOps.box kn rfl rfl rfl rfl rfl rfl ?_ | refine AOps.alloc Try.hX kn rfl rfl rfl rfl rfl rfl rfl ?_ | refine AOps.store Try.hX kn rfl rfl rfl rfl rfl rfl rfl rfl rfl rfl rfl ?_ | refine AOps.buildSlice Try.hX kn rfl rfl rfl rfl rfl rfl rfl rfl rfl rfl rfl rfl ?_ | refine AOps.append Try.hX kn rfl rfl rfl rfl rfl rfl rfl rfl rfl rfl rfl rfl rfl rfl rfl rfl rfl rfl rfl rfl rfl ?_ ?_ | refine AOps.toStr Try.hX kn rfl rfl rfl rfl rfl rfl rfl rfl rfl rfl rfl (by first | exact rfl | exact byte1 _) rfl ?_ | refine AOps.buildArr Try.hX kn rfl rfl rfl rfl rfl rfl rfl rfl ?_ | refine AOps.indexArr Try.hX kn rfl rfl rfl rfl rfl rfl rfl rfl rfl rfl rfl rfl ?_ | refine AOps.runP1 Try.hX kn rfl rfl ?_ | (refine AOps.splitT rfl rfl rfl asm (fun h => ?_) <;> (fail_if_success (cases h; done)) <;> rw [h]) | (refine AOps.splitF rfl rfl rfl asm (fun h => ?_) <;> (fail_if_success (cases h; done)) <;> rw [h]) | (refine AOps.split rfl rfl rfl (fun h => ?_) (fun h => ?_) <;> (fail_if_success (cases h; done)) <;> rw [h]) | refine AOps.drawn (by kernel_rfl) ?_)
    all_goals rfl
  have c1 : decide (((i : Nat) : Int) > 8) = false := decide_eq_false (by omega)
  have hwl := wt_le i (by omega)
  have hvl := val_lt (s.take i)
  rw [hll] at hvl
  have hwb : IntKind.i64.wrap ((b.toNat : Nat) : Int) = b.toNat := w64 (by omega) (by omega)
  have hwi : IntKind.i64.wrap (((i : Nat) : Int) + 1) = ((i + 1 : Nat) : Int) := by rw [w64 (by omega) (by omega)]; omega
  obtain ⟨c, s0, rfl⟩ : ∃ c s0, s = c :: s0 := by
    cases s with
    | nil => simp at hb
    | cons c s0 => exact ⟨c, s0, rfl⟩
  have hct := c.toNat_lt
  have hneg : neg1 ((c :: s0).take i ++ [b]) = decide (c.toNat / 64 % 2 = 1) := by rw [← htk]; rfl
  have hand := and64u (c := c.toNat) hct
  by_cases hi0 : i = 0
  · have c2 : (((i : Nat) : Int) == 0) = true := by simpa using hi0
    have c3 : (((i : Nat) : Int) == 8) = false := by simp; omega
    have hB : (IntKind.i64.wrap ((b.toNat : Nat) : Int)).tmod 64 = ((b.toNat % 64 : Nat) : Int) := by rw [hwb]; exact tmod_nat b.toNat 64
    have hm : b.toNat % 64 < 64 := Nat.mod_lt _ (by omega)
    have hmul : b.toNat % 64 * wt i ≤ 128 * 36028797018963968 := Nat.mul_le_mul (by omega) hwl
    have hvv : val ((c :: s0).take (i + 1)) = val ((c :: s0).take i) + b.toNat % 64 * wt i := by
      rw [htk]
      rw [hi0]; simp only [List.take_zero, List.nil_append]; rw [val_first, val_nil, wt_zero]; omega
    have hE : (IntKind.i64.wrap (((val ((c :: s0).take i) : Nat) : Int) + IntKind.i64.wrap ((IntKind.i64.wrap ((b.toNat : Nat) : Int)).tmod 64 * ((wt i : Nat) : Int)))) = ((val ((c :: s0).take (i + 1)) : Nat) : Int) := by
      rw [hB, hvv, show (((b.toNat % 64 : Nat) : Int) * ((wt i : Nat) : Int)) = ((b.toNat % 64 * wt i : Nat) : Int) from (Int.natCast_mul _ _).symm]
      generalize b.toNat % 64 * wt i = q at *
      rw [w64 (n := (q : Int)) (by omega) (by omega), w64 (by omega) (by omega)]; omega
    have hvb : val ((c :: s0).take (i + 1)) ≤ 5000000000000000000 := by rw [hvv]; omega
    have hK : (64 : Int) = ((wt (i + 1) : Nat) : Int) := by rw [hi0]; unfold wt; rfl
    by_cases hgb : b.toNat < 128
    rotate_left
    · have c5 : decide (((b.toNat : Nat) : Int) < 128) = false := decide_eq_false (by omega)
      repeat' (first | refine AK.runP Try.hX Try.mixed 300 rfl ?_ | refine AK.condTe rfl asm ?_ | refine AK.condFe rfl asm ?_ | (refine AK.condS rfl (fun h => ?_) (fun h => ?_) <;> first | (cases h; done) | rw [h] | skip) | refine AK.retQ Try.hX hf rfl rfl ?_ | refine AK.region Try.mixed rfl ?_ | refine AOps.done ?_ | refine AOps.runS Try.hX kn rfl ?_ | refine AOps.index Try.hX rfl rfl rfl rfl rfl rfl rfl rfl rfl rfl (i) rfl (hrow) rfl ?_ | (first | refine AOps.quo Try.hX kn rfl rfl rfl rfl rfl rfl rfl ((by decide)) ?_ | refine AOps.rem Try.hX kn rfl rfl rfl rfl rfl rfl rfl ((by decide)) ?_) | refine AOps.box kn rfl rfl rfl rfl rfl rfl ?_ | refine AOps.alloc Try.hX kn rfl rfl rfl rfl rfl rfl rfl ?_ | refine AOps.store Try.hX kn rfl rfl rfl rfl rfl rfl rfl rfl rfl rfl rfl ?_ | refine AOps.buildSlice Try.hX kn rfl rfl rfl rfl rfl rfl rfl rfl rfl rfl rfl rfl ?_ | refine AOps.append Try.hX kn rfl rfl rfl rfl rfl rfl rfl rfl rfl rfl rfl rfl rfl rfl rfl rfl rfl rfl rfl rfl rfl ?_ ?_ | refine AOps.toStr Try.hX kn rfl rfl rfl rfl rfl rfl rfl rfl rfl rfl rfl (by first | exact rfl | exact byte1 _) rfl ?_ | refine AOps.buildArr Try.hX kn rfl rfl rfl rfl rfl rfl rfl rfl ?_ | refine AOps.indexArr Try.hX kn rfl rfl rfl rfl rfl rfl rfl rfl rfl rfl rfl rfl ?_ | refine AOps.runP1 Try.hX kn rfl rfl ?_ | (refine AOps.splitT rfl rfl rfl asm (fun h => ?_) <;> (fail_if_success (cases h; done)) <;> rw [h]) | (refine AOps.splitF rfl rfl rfl asm (fun h => ?_) <;> (fail_if_success (cases h; done)) <;> rw [h]) | (refine AOps.split rfl rfl rfl (fun h => ?_) (fun h => ?_) <;> (fail_if_success (cases h; done)) <;> rw [h]) | refine AOps.drawn (by kernel_rfl) ?_)
      exact AK.again (ih (i + 1) ⟨by omega, by omega, by rw [htk]; exact goB_snoc hgo (by omega)⟩ (by omega)) ⟨.inl (succ64 (by omega)), .inl rfl, .inl rfl, .inl rfl, .inl (congrArg (fun z => some (AV.c (CV.int .i64 z))) hE), .inl (congrArg (fun z => some (AV.c (CV.int .i64 z))) hK), trivial⟩ trivial trivial rfl rfl rfl
    have c5 : decide (((b.toNat : Nat) : Int) < 128) = true := decide_eq_true (by omega)
    clear ih
    by_cases hsg : c.toNat / 64 % 2 = 1
    · have c6 : (IntKind.u8.wrap (((BitVec.ofInt IntKind.u8.bits ((c.toNat : Nat) : Int)) &&& (BitVec.ofInt IntKind.u8.bits 64)).toNat) != 0) = true := Eq.trans hand (by simp [hsg])
      have hE2 : (IntKind.i64.wrap (0 - (IntKind.i64.wrap (((val ((c :: s0).take i) : Nat) : Int) + IntKind.i64.wrap ((IntKind.i64.wrap ((b.toNat : Nat) : Int)).tmod 64 * ((wt i : Nat) : Int)))))) = (-((val ((c :: s0).take (i + 1)) : Nat) : Int)) := by rw [hE, w64 (by omega) (by omega)]; omega
      have hn := nOf_end hsp hgo hgb (n := (-((val ((c :: s0).take (i + 1)) : Nat) : Int))) (by rw [hneg, htk]; simp [hsg])
      have hI := rIn_calls (-((val ((c :: s0).take (i + 1)) : Nat) : Int)) (by constructor <;> omega)
      rw [← hE2] at hI
      by_cases hin : -maxI ≤ (-((val ((c :: s0).take (i + 1)) : Nat) : Int)) ∧ (-((val ((c :: s0).take (i + 1)) : Nat) : Int)) ≤ maxI
      rotate_left
      · rw [if_neg (fun h => hin h.1)] at hn
        rw [hE2, nIn_dec', decide_eq_false hin] at hI
        rw [← hE2] at hI
        rw [hn]
        repeat' (first | refine AK.runP Try.hX Try.mixed 300 rfl ?_ | refine AK.condTe rfl asm ?_ | refine AK.condFe rfl asm ?_ | (refine AK.condS rfl (fun h => ?_) (fun h => ?_) <;> first | (cases h; done) | rw [h] | skip) | refine AK.retQ Try.hX hf rfl rfl ?_ | refine AK.region Try.mixed rfl ?_ | refine AOps.done ?_ | refine AOps.runS Try.hX kn rfl ?_ | refine AOps.index Try.hX rfl rfl rfl rfl rfl rfl rfl rfl rfl rfl (i) rfl (hrow) rfl ?_ | (first | refine AOps.quo Try.hX kn rfl rfl rfl rfl rfl rfl rfl ((by decide)) ?_ | refine AOps.rem Try.hX kn rfl rfl rfl rfl rfl rfl rfl ((by decide)) ?_) | refine AOps.callq kn rfl rfl rfl rfl (hI) ?_ | refine AOps.box kn rfl rfl rfl rfl rfl rfl ?_ | refine AOps.alloc Try.hX kn rfl rfl rfl rfl rfl rfl rfl ?_ | refine AOps.store Try.hX kn rfl rfl rfl rfl rfl rfl rfl rfl rfl rfl rfl ?_ | refine AOps.buildSlice Try.hX kn rfl rfl rfl rfl rfl rfl rfl rfl rfl rfl rfl rfl ?_ | refine AOps.append Try.hX kn rfl rfl rfl rfl rfl rfl rfl rfl rfl rfl rfl rfl rfl rfl rfl rfl rfl rfl rfl rfl rfl ?_ ?_ | refine AOps.toStr Try.hX kn rfl rfl rfl rfl rfl rfl rfl rfl rfl rfl rfl (by first | exact rfl | exact byte1 _) rfl ?_ | refine AOps.buildArr Try.hX kn rfl rfl rfl rfl rfl rfl rfl rfl ?_ | refine AOps.indexArr Try.hX kn rfl rfl rfl rfl rfl rfl rfl rfl rfl rfl rfl rfl ?_ | refine AOps.runP1 Try.hX kn rfl rfl ?_ | (refine AOps.splitT rfl rfl rfl asm (fun h => ?_) <;> (fail_if_success (cases h; done)) <;> rw [h]) | (refine AOps.splitF rfl rfl rfl asm (fun h => ?_) <;> (fail_if_success (cases h; done)) <;> rw [h]) | (refine AOps.split rfl rfl rfl (fun h => ?_) (fun h => ?_) <;> (fail_if_success (cases h; done)) <;> rw [h]) | refine AOps.drawn (by kernel_rfl) ?_)
        all_goals rfl
      have hT := numberText_calls (-((val ((c :: s0).take (i + 1)) : Nat) : Int)) hin.1 hin.2
      rw [hE2, nIn_dec', decide_eq_true hin] at hI
      rw [← hE2] at hI hT
      rw [hE2] at hT
      by_cases heq : numB (-((val ((c :: s0).take (i + 1)) : Nat) : Int)) = (c :: s0).take i ++ [b]
      · rw [if_pos ⟨hin, heq⟩] at hn
        rw [heq] at hT
        rw [← hE2] at hT
        rw [hn]
        have c7 : (!((c :: s0).take i ++ [b] == (c :: s0).take i ++ [b])) = false := by simp
        repeat' (first | refine AK.runP Try.hX Try.mixed 300 rfl ?_ | refine AK.condTe rfl asm ?_ | refine AK.condFe rfl asm ?_ | (refine AK.condS rfl (fun h => ?_) (fun h => ?_) <;> first | (cases h; done) | rw [h] | skip) | refine AK.retQ Try.hX hf rfl rfl ?_ | refine AK.region Try.mixed rfl ?_ | refine AOps.done ?_ | refine AOps.runS Try.hX kn rfl ?_ | refine AOps.index Try.hX rfl rfl rfl rfl rfl rfl rfl rfl rfl rfl (i) rfl (hrow) rfl ?_ | (first | refine AOps.quo Try.hX kn rfl rfl rfl rfl rfl rfl rfl ((by decide)) ?_ | refine AOps.rem Try.hX kn rfl rfl rfl rfl rfl rfl rfl ((by decide)) ?_) | refine AOps.callq kn rfl rfl rfl rfl (hI) ?_ | refine AOps.callq kn rfl rfl rfl rfl (hT) ?_ | (refine AOps.sliceStr Try.hX kn rfl rfl rfl rfl rfl rfl (l := none) (h := some (i + 1)) rfl (bound_of rfl (i + 1) hwi) (show i + 1 ≤ (c :: s0).length from by omega) (Nat.zero_le _) ?_; rw [show List.drop (Option.getD none 0) (List.take (Option.getD (some (i + 1)) (c :: s0).length) (c :: s0)) = (c :: s0).take i ++ [b] from htk]) | refine AOps.box kn rfl rfl rfl rfl rfl rfl ?_ | refine AOps.alloc Try.hX kn rfl rfl rfl rfl rfl rfl rfl ?_ | refine AOps.store Try.hX kn rfl rfl rfl rfl rfl rfl rfl rfl rfl rfl rfl ?_ | refine AOps.buildSlice Try.hX kn rfl rfl rfl rfl rfl rfl rfl rfl rfl rfl rfl rfl ?_ | refine AOps.append Try.hX kn rfl rfl rfl rfl rfl rfl rfl rfl rfl rfl rfl rfl rfl rfl rfl rfl rfl rfl rfl rfl rfl ?_ ?_ | refine AOps.toStr Try.hX kn rfl rfl rfl rfl rfl rfl rfl rfl rfl rfl rfl (by first | exact rfl | exact byte1 _) rfl ?_ | refine AOps.buildArr Try.hX kn rfl rfl rfl rfl rfl rfl rfl rfl ?_ | refine AOps.indexArr Try.hX kn rfl rfl rfl rfl rfl rfl rfl rfl rfl rfl rfl rfl ?_ | refine AOps.runP1 Try.hX kn rfl rfl ?_ | (refine AOps.splitT rfl rfl rfl asm (fun h => ?_) <;> (fail_if_success (cases h; done)) <;> rw [h]) | (refine AOps.splitF rfl rfl rfl asm (fun h => ?_) <;> (fail_if_success (cases h; done)) <;> rw [h]) | (refine AOps.split rfl rfl rfl (fun h => ?_) (fun h => ?_) <;> (fail_if_success (cases h; done)) <;> rw [h]) | refine AOps.drawn (by kernel_rfl) ?_)
        all_goals
          refine tup2 (b := IntKind.i64.wrap (((i : Nat) : Int) + 1)) (b' := ((((c :: s0).take i).length : Nat) : Int) + 1) hE2 ?_
          rw [hwi, hll]; simp
      · rw [if_neg (fun h => heq h.2)] at hn
        have c7 : (!(numB (-((val ((c :: s0).take (i + 1)) : Nat) : Int)) == (c :: s0).take i ++ [b])) = true := by simpa using heq
        rw [hn]
        generalize numB (-((val ((c :: s0).take (i + 1)) : Nat) : Int)) = tx at hT c7
        rw [← hE2] at hT
        repeat' (first | refine AK.runP Try.hX Try.mixed 300 rfl ?_ | refine AK.condTe rfl asm ?_ | refine AK.condFe rfl asm ?_ | (refine AK.condS rfl (fun h => ?_) (fun h => ?_) <;> first | (cases h; done) | rw [h] | skip) | refine AK.retQ Try.hX hf rfl rfl ?_ | refine AK.region Try.mixed rfl ?_ | refine AOps.done ?_ | refine AOps.runS Try.hX kn rfl ?_ | refine AOps.index Try.hX rfl rfl rfl rfl rfl rfl rfl rfl rfl rfl (i) rfl (hrow) rfl ?_ | (first | refine AOps.quo Try.hX kn rfl rfl rfl rfl rfl rfl rfl ((by decide)) ?_ | refine AOps.rem Try.hX kn rfl rfl rfl rfl rfl rfl rfl ((by decide)) ?_) | refine AOps.callq kn rfl rfl rfl rfl (hI) ?_ | refine AOps.callq kn rfl rfl rfl rfl (hT) ?_ | (refine AOps.sliceStr Try.hX kn rfl rfl rfl rfl rfl rfl (l := none) (h := some (i + 1)) rfl (bound_of rfl (i + 1) hwi) (show i + 1 ≤ (c :: s0).length from by omega) (Nat.zero_le _) ?_; rw [show List.drop (Option.getD none 0) (List.take (Option.getD (some (i + 1)) (c :: s0).length) (c :: s0)) = (c :: s0).take i ++ [b] from htk]) | refine AOps.box kn rfl rfl rfl rfl rfl rfl ?_ | refine AOps.alloc Try.hX kn rfl rfl rfl rfl rfl rfl rfl ?_ | refine AOps.store Try.hX kn rfl rfl rfl rfl rfl rfl rfl rfl rfl rfl rfl ?_ | refine AOps.buildSlice Try.hX kn rfl rfl rfl rfl rfl rfl rfl rfl rfl rfl rfl rfl ?_ | refine AOps.append Try.hX kn rfl rfl rfl rfl rfl rfl rfl rfl rfl rfl rfl rfl rfl rfl rfl rfl rfl rfl rfl rfl rfl ?_ ?_ | refine AOps.toStr Try.hX kn rfl rfl rfl rfl rfl rfl rfl rfl rfl rfl rfl (by first | exact rfl | exact byte1 _) rfl ?_ | refine AOps.buildArr Try.hX kn rfl rfl rfl rfl rfl rfl rfl rfl ?_ | refine AOps.indexArr Try.hX kn rfl rfl rfl rfl rfl rfl rfl rfl rfl rfl rfl rfl ?_ | refine AOps.runP1 Try.hX kn rfl rfl ?_ | (refine AOps.splitT rfl rfl rfl asm (fun h => ?_) <;> (fail_if_success (cases h; done)) <;> rw [h]) | (refine AOps.splitF rfl rfl rfl asm (fun h => ?_) <;> (fail_if_success (cases h; done)) <;> rw [h]) | (refine AOps.split rfl rfl rfl (fun h => ?_) (fun h => ?_) <;> (fail_if_success (cases h; done)) <;> rw [h]) | refine AOps.drawn (by kernel_rfl) ?_)
        all_goals rfl
    · have c6 : (IntKind.u8.wrap (((BitVec.ofInt IntKind.u8.bits ((c.toNat : Nat) : Int)) &&& (BitVec.ofInt IntKind.u8.bits 64)).toNat) != 0) = false := Eq.trans hand (by simp [hsg])
      have hE2 : (IntKind.i64.wrap (((val ((c :: s0).take i) : Nat) : Int) + IntKind.i64.wrap ((IntKind.i64.wrap ((b.toNat : Nat) : Int)).tmod 64 * ((wt i : Nat) : Int)))) = ((val ((c :: s0).take (i + 1)) : Nat) : Int) := hE
      have hn := nOf_end hsp hgo hgb (n := ((val ((c :: s0).take (i + 1)) : Nat) : Int)) (by rw [hneg, htk]; simp [hsg])
      have hI := rIn_calls ((val ((c :: s0).take (i + 1)) : Nat) : Int) (by constructor <;> omega)
      rw [← hE2] at hI
      by_cases hin : -maxI ≤ ((val ((c :: s0).take (i + 1)) : Nat) : Int) ∧ ((val ((c :: s0).take (i + 1)) : Nat) : Int) ≤ maxI
      rotate_left
      · rw [if_neg (fun h => hin h.1)] at hn
        rw [hE2, nIn_dec', decide_eq_false hin] at hI
        rw [← hE2] at hI
        rw [hn]
        repeat' (first | refine AK.runP Try.hX Try.mixed 300 rfl ?_ | refine AK.condTe rfl asm ?_ | refine AK.condFe rfl asm ?_ | (refine AK.condS rfl (fun h => ?_) (fun h => ?_) <;> first | (cases h; done) | rw [h] | skip) | refine AK.retQ Try.hX hf rfl rfl ?_ | refine AK.region Try.mixed rfl ?_ | refine AOps.done ?_ | refine AOps.runS Try.hX kn rfl ?_ | refine AOps.index Try.hX rfl rfl rfl rfl rfl rfl rfl rfl rfl rfl (i) rfl (hrow) rfl ?_ | (first | refine AOps.quo Try.hX kn rfl rfl rfl rfl rfl rfl rfl ((by decide)) ?_ | refine AOps.rem Try.hX kn rfl rfl rfl rfl rfl rfl rfl ((by decide)) ?_) | refine AOps.callq kn rfl rfl rfl rfl (hI) ?_ | refine AOps.box kn rfl rfl rfl rfl rfl rfl ?_ | refine AOps.alloc Try.hX kn rfl rfl rfl rfl rfl rfl rfl ?_ | refine AOps.store Try.hX kn rfl rfl rfl rfl rfl rfl rfl rfl rfl rfl rfl ?_ | refine AOps.buildSlice Try.hX kn rfl rfl rfl rfl rfl rfl rfl rfl rfl rfl rfl rfl ?_ | refine AOps.append Try.hX kn rfl rfl rfl rfl rfl rfl rfl rfl rfl rfl rfl rfl rfl rfl rfl rfl rfl rfl rfl rfl rfl ?_ ?_ | refine AOps.toStr Try.hX kn rfl rfl rfl rfl rfl rfl rfl rfl rfl rfl rfl (by first | exact rfl | exact byte1 _) rfl ?_ | refine AOps.buildArr Try.hX kn rfl rfl rfl rfl rfl rfl rfl rfl ?_ | refine AOps.indexArr Try.hX kn rfl rfl rfl rfl rfl rfl rfl rfl rfl rfl rfl rfl ?_ | refine AOps.runP1 Try.hX kn rfl rfl ?_ | (refine AOps.splitT rfl rfl rfl asm (fun h => ?_) <;> (fail_if_success (cases h; done)) <;> rw [h]) | (refine AOps.splitF rfl rfl rfl asm (fun h => ?_) <;> (fail_if_success (cases h; done)) <;> rw [h]) | (refine AOps.split rfl rfl rfl (fun h => ?_) (fun h => ?_) <;> (fail_if_success (cases h; done)) <;> rw [h]) | refine AOps.drawn (by kernel_rfl) ?_)
        all_goals rfl
      have hT := numberText_calls ((val ((c :: s0).take (i + 1)) : Nat) : Int) hin.1 hin.2
      rw [hE2, nIn_dec', decide_eq_true hin] at hI
      rw [← hE2] at hI hT
      rw [hE2] at hT
      by_cases heq : numB ((val ((c :: s0).take (i + 1)) : Nat) : Int) = (c :: s0).take i ++ [b]
      · rw [if_pos ⟨hin, heq⟩] at hn
        rw [heq] at hT
        rw [← hE2] at hT
        rw [hn]
        have c7 : (!((c :: s0).take i ++ [b] == (c :: s0).take i ++ [b])) = false := by simp
        repeat' (first | refine AK.runP Try.hX Try.mixed 300 rfl ?_ | refine AK.condTe rfl asm ?_ | refine AK.condFe rfl asm ?_ | (refine AK.condS rfl (fun h => ?_) (fun h => ?_) <;> first | (cases h; done) | rw [h] | skip) | refine AK.retQ Try.hX hf rfl rfl ?_ | refine AK.region Try.mixed rfl ?_ | refine AOps.done ?_ | refine AOps.runS Try.hX kn rfl ?_ | refine AOps.index Try.hX rfl rfl rfl rfl rfl rfl rfl rfl rfl rfl (i) rfl (hrow) rfl ?_ | (first | refine AOps.quo Try.hX kn rfl rfl rfl rfl rfl rfl rfl ((by decide)) ?_ | refine AOps.rem Try.hX kn rfl rfl rfl rfl rfl rfl rfl ((by decide)) ?_) | refine AOps.callq kn rfl rfl rfl rfl (hI) ?_ | refine AOps.callq kn rfl rfl rfl rfl (hT) ?_ | (refine AOps.sliceStr Try.hX kn rfl rfl rfl rfl rfl rfl (l := none) (h := some (i + 1)) rfl (bound_of rfl (i + 1) hwi) (show i + 1 ≤ (c :: s0).length from by omega) (Nat.zero_le _) ?_; rw [show List.drop (Option.getD none 0) (List.take (Option.getD (some (i + 1)) (c :: s0).length) (c :: s0)) = (c :: s0).take i ++ [b] from htk]) | refine AOps.box kn rfl rfl rfl rfl rfl rfl ?_ | refine AOps.alloc Try.hX kn rfl rfl rfl rfl rfl rfl rfl ?_ | refine AOps.store Try.hX kn rfl rfl rfl rfl rfl rfl rfl rfl rfl rfl rfl ?_ | refine AOps.buildSlice Try.hX kn rfl rfl rfl rfl rfl rfl rfl rfl rfl rfl rfl rfl ?_ | refine AOps.append Try.hX kn rfl rfl rfl rfl rfl rfl rfl rfl rfl rfl rfl rfl rfl rfl rfl rfl rfl rfl rfl rfl rfl ?_ ?_ | refine AOps.toStr Try.hX kn rfl rfl rfl rfl rfl rfl rfl rfl rfl rfl rfl (by first | exact rfl | exact byte1 _) rfl ?_ | refine AOps.buildArr Try.hX kn rfl rfl rfl rfl rfl rfl rfl rfl ?_ | refine AOps.indexArr Try.hX kn rfl rfl rfl rfl rfl rfl rfl rfl rfl rfl rfl rfl ?_ | refine AOps.runP1 Try.hX kn rfl rfl ?_ | (refine AOps.splitT rfl rfl rfl asm (fun h => ?_) <;> (fail_if_success (cases h; done)) <;> rw [h]) | (refine AOps.splitF rfl rfl rfl asm (fun h => ?_) <;> (fail_if_success (cases h; done)) <;> rw [h]) | (refine AOps.split rfl rfl rfl (fun h => ?_) (fun h => ?_) <;> (fail_if_success (cases h; done)) <;> rw [h]) | refine AOps.drawn (by kernel_rfl) ?_)
        all_goals
          refine tup2 (b := IntKind.i64.wrap (((i : Nat) : Int) + 1)) (b' := ((((c :: s0).take i).length : Nat) : Int) + 1) hE2 ?_
          rw [hwi, hll]; simp
      · rw [if_neg (fun h => heq h.2)] at hn
        have c7 : (!(numB ((val ((c :: s0).take (i + 1)) : Nat) : Int) == (c :: s0).take i ++ [b])) = true := by simpa using heq
        rw [hn]
        generalize numB ((val ((c :: s0).take (i + 1)) : Nat) : Int) = tx at hT c7
        rw [← hE2] at hT
        repeat' (first | refine AK.runP Try.hX Try.mixed 300 rfl ?_ | refine AK.condTe rfl asm ?_ | refine AK.condFe rfl asm ?_ | (refine AK.condS rfl (fun h => ?_) (fun h => ?_) <;> first | (cases h; done) | rw [h] | skip) | refine AK.retQ Try.hX hf rfl rfl ?_ | refine AK.region Try.mixed rfl ?_ | refine AOps.done ?_ | refine AOps.runS Try.hX kn rfl ?_ | refine AOps.index Try.hX rfl rfl rfl rfl rfl rfl rfl rfl rfl rfl (i) rfl (hrow) rfl ?_ | (first | refine AOps.quo Try.hX kn rfl rfl rfl rfl rfl rfl rfl ((by decide)) ?_ | refine AOps.rem Try.hX kn rfl rfl rfl rfl rfl rfl rfl ((by decide)) ?_) | refine AOps.callq kn rfl rfl rfl rfl (hI) ?_ | refine AOps.callq kn rfl rfl rfl rfl (hT) ?_ | (refine AOps.sliceStr Try.hX kn rfl rfl rfl rfl rfl rfl (l := none) (h := some (i + 1)) rfl (bound_of rfl (i + 1) hwi) (show i + 1 ≤ (c :: s0).length from by omega) (Nat.zero_le _) ?_; rw [show List.drop (Option.getD none 0) (List.take (Option.getD (some (i + 1)) (c :: s0).length) (c :: s0)) = (c :: s0).take i ++ [b] from htk]) | refine AOps.box kn rfl rfl rfl rfl rfl rfl ?_ | refine AOps.alloc Try.hX kn rfl rfl rfl rfl rfl rfl rfl ?_ | refine AOps.store Try.hX kn rfl rfl rfl rfl rfl rfl rfl rfl rfl rfl rfl ?_ | refine AOps.buildSlice Try.hX kn rfl rfl rfl rfl rfl rfl rfl rfl rfl rfl rfl rfl ?_ | refine AOps.append Try.hX kn rfl rfl rfl rfl rfl rfl rfl rfl rfl rfl rfl rfl rfl rfl rfl rfl rfl rfl rfl rfl rfl ?_ ?_ | refine AOps.toStr Try.hX kn rfl rfl rfl rfl rfl rfl rfl rfl rfl rfl rfl (by first | exact rfl | exact byte1 _) rfl ?_ | refine AOps.buildArr Try.hX kn rfl rfl rfl rfl rfl rfl rfl rfl ?_ | refine AOps.indexArr Try.hX kn rfl rfl rfl rfl rfl rfl rfl rfl rfl rfl rfl rfl ?_ | refine AOps.runP1 Try.hX kn rfl rfl ?_ | (refine AOps.splitT rfl rfl rfl asm (fun h => ?_) <;> (fail_if_success (cases h; done)) <;> rw [h]) | (refine AOps.splitF rfl rfl rfl asm (fun h => ?_) <;> (fail_if_success (cases h; done)) <;> rw [h]) | (refine AOps.split rfl rfl rfl (fun h => ?_) (fun h => ?_) <;> (fail_if_success (cases h; done)) <;> rw [h]) | refine AOps.drawn (by kernel_rfl) ?_)
        all_goals rfl
  have c2 : (((i : Nat) : Int) == 0) = false := by simpa using hi0
  have hB : (IntKind.i64.wrap ((b.toNat : Nat) : Int)).tmod 128 = ((b.toNat % 128 : Nat) : Int) := by rw [hwb]; exact tmod_nat b.toNat 128
  have hm : b.toNat % 128 < 128 := Nat.mod_lt _ (by omega)
  have hmul : b.toNat % 128 * wt i ≤ 128 * 36028797018963968 := Nat.mul_le_mul (by omega) hwl
  have hvv : val ((c :: s0).take (i + 1)) = val ((c :: s0).take i) + b.toNat % 128 * wt i := by
    rw [htk]
    rw [val_snoc _ _ (by intro h; rw [h] at hll; simp at hll; omega), hll]
  have hE : (IntKind.i64.wrap (((val ((c :: s0).take i) : Nat) : Int) + IntKind.i64.wrap ((IntKind.i64.wrap ((b.toNat : Nat) : Int)).tmod 128 * ((wt i : Nat) : Int)))) = ((val ((c :: s0).take (i + 1)) : Nat) : Int) := by
    rw [hB, hvv, show (((b.toNat % 128 : Nat) : Int) * ((wt i : Nat) : Int)) = ((b.toNat % 128 * wt i : Nat) : Int) from (Int.natCast_mul _ _).symm]
    generalize b.toNat % 128 * wt i = q at *
    rw [w64 (n := (q : Int)) (by omega) (by omega), w64 (by omega) (by omega)]; omega
  have hvb : val ((c :: s0).take (i + 1)) ≤ 5000000000000000000 := by rw [hvv]; omega
  have hK : IntKind.i64.wrap (((wt i : Nat) : Int) * 128) = ((wt (i + 1) : Nat) : Int) := by rw [wt_succ i (by omega), w64 (by omega) (by omega)]; omega
  by_cases hi8 : i = 8
  · have c3 : (((i : Nat) : Int) == 8) = true := by simp; omega
    by_cases hbig : 63 < b.toNat % 128
    · have c4 : decide ((IntKind.i64.wrap ((b.toNat : Nat) : Int)).tmod 128 > 63) = true := decide_eq_true (by rw [hB]; omega)
      have hn := nOf_big hsp hgo (by omega) hbig
      rw [hn]
      clear ih hn
      repeat' (first | refine AK.runP Try.hX Try.mixed 300 rfl ?_ | refine AK.condTe rfl asm ?_ | refine AK.condFe rfl asm ?_ | (refine AK.condS rfl (fun h => ?_) (fun h => ?_) <;> first | (cases h; done) | rw [h] | skip) | refine AK.retQ Try.hX hf rfl rfl ?_ | refine AK.region Try.mixed rfl ?_ | refine AOps.done ?_ | refine AOps.runS Try.hX kn rfl ?_ | refine AOps.index Try.hX rfl rfl rfl rfl rfl rfl rfl rfl rfl rfl (i) rfl (hrow) rfl ?_ | (first | refine AOps.quo Try.hX kn rfl rfl rfl rfl rfl rfl rfl ((by decide)) ?_ | refine AOps.rem Try.hX kn rfl rfl rfl rfl rfl rfl rfl ((by decide)) ?_) | refine AOps.box kn rfl rfl rfl rfl rfl rfl ?_ | refine AOps.alloc Try.hX kn rfl rfl rfl rfl rfl rfl rfl ?_ | refine AOps.store Try.hX kn rfl rfl rfl rfl rfl rfl rfl rfl rfl rfl rfl ?_ | refine AOps.buildSlice Try.hX kn rfl rfl rfl rfl rfl rfl rfl rfl rfl rfl rfl rfl ?_ | refine AOps.append Try.hX kn rfl rfl rfl rfl rfl rfl rfl rfl rfl rfl rfl rfl rfl rfl rfl rfl rfl rfl rfl rfl rfl ?_ ?_ | refine AOps.toStr Try.hX kn rfl rfl rfl rfl rfl rfl rfl rfl rfl rfl rfl (by first | exact rfl | exact byte1 _) rfl ?_ | refine AOps.buildArr Try.hX kn rfl rfl rfl rfl rfl rfl rfl rfl ?_ | refine AOps.indexArr Try.hX kn rfl rfl rfl rfl rfl rfl rfl rfl rfl rfl rfl rfl ?_ | refine AOps.runP1 Try.hX kn rfl rfl ?_ | (refine AOps.splitT rfl rfl rfl asm (fun h => ?_) <;> (fail_if_success (cases h; done)) <;> rw [h]) | (refine AOps.splitF rfl rfl rfl asm (fun h => ?_) <;> (fail_if_success (cases h; done)) <;> rw [h]) | (refine AOps.split rfl rfl rfl (fun h => ?_) (fun h => ?_) <;> (fail_if_success (cases h; done)) <;> rw [h]) | refine AOps.drawn (by kernel_rfl) ?_)
      all_goals rfl
    have c4 : decide ((IntKind.i64.wrap ((b.toNat : Nat) : Int)).tmod 128 > 63) = false := decide_eq_false (by rw [hB]; omega)
    by_cases hgb : b.toNat < 128
    rotate_left
    · have c5 : decide (((b.toNat : Nat) : Int) < 128) = false := decide_eq_false (by omega)
      repeat' (first | refine AK.runP Try.hX Try.mixed 300 rfl ?_ | refine AK.condTe rfl asm ?_ | refine AK.condFe rfl asm ?_ | (refine AK.condS rfl (fun h => ?_) (fun h => ?_) <;> first | (cases h; done) | rw [h] | skip) | refine AK.retQ Try.hX hf rfl rfl ?_ | refine AK.region Try.mixed rfl ?_ | refine AOps.done ?_ | refine AOps.runS Try.hX kn rfl ?_ | refine AOps.index Try.hX rfl rfl rfl rfl rfl rfl rfl rfl rfl rfl (i) rfl (hrow) rfl ?_ | (first | refine AOps.quo Try.hX kn rfl rfl rfl rfl rfl rfl rfl ((by decide)) ?_ | refine AOps.rem Try.hX kn rfl rfl rfl rfl rfl rfl rfl ((by decide)) ?_) | refine AOps.box kn rfl rfl rfl rfl rfl rfl ?_ | refine AOps.alloc Try.hX kn rfl rfl rfl rfl rfl rfl rfl ?_ | refine AOps.store Try.hX kn rfl rfl rfl rfl rfl rfl rfl rfl rfl rfl rfl ?_ | refine AOps.buildSlice Try.hX kn rfl rfl rfl rfl rfl rfl rfl rfl rfl rfl rfl rfl ?_ | refine AOps.append Try.hX kn rfl rfl rfl rfl rfl rfl rfl rfl rfl rfl rfl rfl rfl rfl rfl rfl rfl rfl rfl rfl rfl ?_ ?_ | refine AOps.toStr Try.hX kn rfl rfl rfl rfl rfl rfl rfl rfl rfl rfl rfl (by first | exact rfl | exact byte1 _) rfl ?_ | refine AOps.buildArr Try.hX kn rfl rfl rfl rfl rfl rfl rfl rfl ?_ | refine AOps.indexArr Try.hX kn rfl rfl rfl rfl rfl rfl rfl rfl rfl rfl rfl rfl ?_ | refine AOps.runP1 Try.hX kn rfl rfl ?_ | (refine AOps.splitT rfl rfl rfl asm (fun h => ?_) <;> (fail_if_success (cases h; done)) <;> rw [h]) | (refine AOps.splitF rfl rfl rfl asm (fun h => ?_) <;> (fail_if_success (cases h; done)) <;> rw [h]) | (refine AOps.split rfl rfl rfl (fun h => ?_) (fun h => ?_) <;> (fail_if_success (cases h; done)) <;> rw [h]) | refine AOps.drawn (by kernel_rfl) ?_)
      exact AK.again (ih (i + 1) ⟨by omega, by omega, by rw [htk]; exact goB_snoc hgo (by omega)⟩ (by omega)) ⟨.inl (succ64 (by omega)), .inl rfl, .inl rfl, .inl rfl, .inl (congrArg (fun z => some (AV.c (CV.int .i64 z))) hE), .inl (congrArg (fun z => some (AV.c (CV.int .i64 z))) hK), trivial⟩ trivial trivial rfl rfl rfl
    have c5 : decide (((b.toNat : Nat) : Int) < 128) = true := decide_eq_true (by omega)
    clear ih
    by_cases hsg : c.toNat / 64 % 2 = 1
    · have c6 : (IntKind.u8.wrap (((BitVec.ofInt IntKind.u8.bits ((c.toNat : Nat) : Int)) &&& (BitVec.ofInt IntKind.u8.bits 64)).toNat) != 0) = true := Eq.trans hand (by simp [hsg])
      have hE2 : (IntKind.i64.wrap (0 - (IntKind.i64.wrap (((val ((c :: s0).take i) : Nat) : Int) + IntKind.i64.wrap ((IntKind.i64.wrap ((b.toNat : Nat) : Int)).tmod 128 * ((wt i : Nat) : Int)))))) = (-((val ((c :: s0).take (i + 1)) : Nat) : Int)) := by rw [hE, w64 (by omega) (by omega)]; omega
      have hn := nOf_end hsp hgo hgb (n := (-((val ((c :: s0).take (i + 1)) : Nat) : Int))) (by rw [hneg, htk]; simp [hsg])
      have hI := rIn_calls (-((val ((c :: s0).take (i + 1)) : Nat) : Int)) (by constructor <;> omega)
      rw [← hE2] at hI
      by_cases hin : -maxI ≤ (-((val ((c :: s0).take (i + 1)) : Nat) : Int)) ∧ (-((val ((c :: s0).take (i + 1)) : Nat) : Int)) ≤ maxI
      rotate_left
      · rw [if_neg (fun h => hin h.1)] at hn
        rw [hE2, nIn_dec', decide_eq_false hin] at hI
        rw [← hE2] at hI
        rw [hn]
        repeat' (first | refine AK.runP Try.hX Try.mixed 300 rfl ?_ | refine AK.condTe rfl asm ?_ | refine AK.condFe rfl asm ?_ | (refine AK.condS rfl (fun h => ?_) (fun h => ?_) <;> first | (cases h; done) | rw [h] | skip) | refine AK.retQ Try.hX hf rfl rfl ?_ | refine AK.region Try.mixed rfl ?_ | refine AOps.done ?_ | refine AOps.runS Try.hX kn rfl ?_ | refine AOps.index Try.hX rfl rfl rfl rfl rfl rfl rfl rfl rfl rfl (i) rfl (hrow) rfl ?_ | (first | refine AOps.quo Try.hX kn rfl rfl rfl rfl rfl rfl rfl ((by decide)) ?_ | refine AOps.rem Try.hX kn rfl rfl rfl rfl rfl rfl rfl ((by decide)) ?_) | refine AOps.callq kn rfl rfl rfl rfl (hI) ?_ | refine AOps.box kn rfl rfl rfl rfl rfl rfl ?_ | refine AOps.alloc Try.hX kn rfl rfl rfl rfl rfl rfl rfl ?_ | refine AOps.store Try.hX kn rfl rfl rfl rfl rfl rfl rfl rfl rfl rfl rfl ?_ | refine AOps.buildSlice Try.hX kn rfl rfl rfl rfl rfl rfl rfl rfl rfl rfl rfl rfl ?_ | refine AOps.append Try.hX kn rfl rfl rfl rfl rfl rfl rfl rfl rfl rfl rfl rfl rfl rfl rfl rfl rfl rfl rfl rfl rfl ?_ ?_ | refine AOps.toStr Try.hX kn rfl rfl rfl rfl rfl rfl rfl rfl rfl rfl rfl (by first | exact rfl | exact byte1 _) rfl ?_ | refine AOps.buildArr Try.hX kn rfl rfl rfl rfl rfl rfl rfl rfl ?_ | refine AOps.indexArr Try.hX kn rfl rfl rfl rfl rfl rfl rfl rfl rfl rfl rfl rfl ?_ | refine AOps.runP1 Try.hX kn rfl rfl ?_ | (refine AOps.splitT rfl rfl rfl asm (fun h => ?_) <;> (fail_if_success (cases h; done)) <;> rw [h]) | (refine AOps.splitF rfl rfl rfl asm (fun h => ?_) <;> (fail_if_success (cases h; done)) <;> rw [h]) | (refine AOps.split rfl rfl rfl (fun h => ?_) (fun h => ?_) <;> (fail_if_success (cases h; done)) <;> rw [h]) | refine AOps.drawn (by kernel_rfl) ?_)
        all_goals rfl
      have hT := numberText_calls (-((val ((c :: s0).take (i + 1)) : Nat) : Int)) hin.1 hin.2
      rw [hE2, nIn_dec', decide_eq_true hin] at hI
      rw [← hE2] at hI hT
      rw [hE2] at hT
      by_cases heq : numB (-((val ((c :: s0).take (i + 1)) : Nat) : Int)) = (c :: s0).take i ++ [b]
      · rw [if_pos ⟨hin, heq⟩] at hn
        rw [heq] at hT
        rw [← hE2] at hT
        rw [hn]
        have c7 : (!((c :: s0).take i ++ [b] == (c :: s0).take i ++ [b])) = false := by simp
        repeat' (first | refine AK.runP Try.hX Try.mixed 300 rfl ?_ | refine AK.condTe rfl asm ?_ | refine AK.condFe rfl asm ?_ | (refine AK.condS rfl (fun h => ?_) (fun h => ?_) <;> first | (cases h; done) | rw [h] | skip) | refine AK.retQ Try.hX hf rfl rfl ?_ | refine AK.region Try.mixed rfl ?_ | refine AOps.done ?_ | refine AOps.runS Try.hX kn rfl ?_ | refine AOps.index Try.hX rfl rfl rfl rfl rfl rfl rfl rfl rfl rfl (i) rfl (hrow) rfl ?_ | (first | refine AOps.quo Try.hX kn rfl rfl rfl rfl rfl rfl rfl ((by decide)) ?_ | refine AOps.rem Try.hX kn rfl rfl rfl rfl rfl rfl rfl ((by decide)) ?_) | refine AOps.callq kn rfl rfl rfl rfl (hI) ?_ | refine AOps.callq kn rfl rfl rfl rfl (hT) ?_ | (refine AOps.sliceStr Try.hX kn rfl rfl rfl rfl rfl rfl (l := none) (h := some (i + 1)) rfl (bound_of rfl (i + 1) hwi) (show i + 1 ≤ (c :: s0).length from by omega) (Nat.zero_le _) ?_; rw [show List.drop (Option.getD none 0) (List.take (Option.getD (some (i + 1)) (c :: s0).length) (c :: s0)) = (c :: s0).take i ++ [b] from htk]) | refine AOps.box kn rfl rfl rfl rfl rfl rfl ?_ | refine AOps.alloc Try.hX kn rfl rfl rfl rfl rfl rfl rfl ?_ | refine AOps.store Try.hX kn rfl rfl rfl rfl rfl rfl rfl rfl rfl rfl rfl ?_ | refine AOps.buildSlice Try.hX kn rfl rfl rfl rfl rfl rfl rfl rfl rfl rfl rfl rfl ?_ | refine AOps.append Try.hX kn rfl rfl rfl rfl rfl rfl rfl rfl rfl rfl rfl rfl rfl rfl rfl rfl rfl rfl rfl rfl rfl ?_ ?_ | refine AOps.toStr Try.hX kn rfl rfl rfl rfl rfl rfl rfl rfl rfl rfl rfl (by first | exact rfl | exact byte1 _) rfl ?_ | refine AOps.buildArr Try.hX kn rfl rfl rfl rfl rfl rfl rfl rfl ?_ | refine AOps.indexArr Try.hX kn rfl rfl rfl rfl rfl rfl rfl rfl rfl rfl rfl rfl ?_ | refine AOps.runP1 Try.hX kn rfl rfl ?_ | (refine AOps.splitT rfl rfl rfl asm (fun h => ?_) <;> (fail_if_success (cases h; done)) <;> rw [h]) | (refine AOps.splitF rfl rfl rfl asm (fun h => ?_) <;> (fail_if_success (cases h; done)) <;> rw [h]) | (refine AOps.split rfl rfl rfl (fun h => ?_) (fun h => ?_) <;> (fail_if_success (cases h; done)) <;> rw [h]) | refine AOps.drawn (by kernel_rfl) ?_)
        all_goals
          refine tup2 (b := IntKind.i64.wrap (((i : Nat) : Int) + 1)) (b' := ((((c :: s0).take i).length : Nat) : Int) + 1) hE2 ?_
          rw [hwi, hll]; simp
      · rw [if_neg (fun h => heq h.2)] at hn
        have c7 : (!(numB (-((val ((c :: s0).take (i + 1)) : Nat) : Int)) == (c :: s0).take i ++ [b])) = true := by simpa using heq
        rw [hn]
        generalize numB (-((val ((c :: s0).take (i + 1)) : Nat) : Int)) = tx at hT c7
        rw [← hE2] at hT
        repeat' (first | refine AK.runP Try.hX Try.mixed 300 rfl ?_ | refine AK.condTe rfl asm ?_ | refine AK.condFe rfl asm ?_ | (refine AK.condS rfl (fun h => ?_) (fun h => ?_) <;> first | (cases h; done) | rw [h] | skip) | refine AK.retQ Try.hX hf rfl rfl ?_ | refine AK.region Try.mixed rfl ?_ | refine AOps.done ?_ | refine AOps.runS Try.hX kn rfl ?_ | refine AOps.index Try.hX rfl rfl rfl rfl rfl rfl rfl rfl rfl rfl (i) rfl (hrow) rfl ?_ | (first | refine AOps.quo Try.hX kn rfl rfl rfl rfl rfl rfl rfl ((by decide)) ?_ | refine AOps.rem Try.hX kn rfl rfl rfl rfl rfl rfl rfl ((by decide)) ?_) | refine AOps.callq kn rfl rfl rfl rfl (hI) ?_ | refine AOps.callq kn rfl rfl rfl rfl (hT) ?_ | (refine AOps.sliceStr Try.hX kn rfl rfl rfl rfl rfl rfl (l := none) (h := some (i + 1)) rfl (bound_of rfl (i + 1) hwi) (show i + 1 ≤ (c :: s0).length from by omega) (Nat.zero_le _) ?_; rw [show List.drop (Option.getD none 0) (List.take (Option.getD (some (i + 1)) (c :: s0).length) (c :: s0)) = (c :: s0).take i ++ [b] from htk]) | refine AOps.box kn rfl rfl rfl rfl rfl rfl ?_ | refine AOps.alloc Try.hX kn rfl rfl rfl rfl rfl rfl rfl ?_ | refine AOps.store Try.hX kn rfl rfl rfl rfl rfl rfl rfl rfl rfl rfl rfl ?_ | refine AOps.buildSlice Try.hX kn rfl rfl rfl rfl rfl rfl rfl rfl rfl rfl rfl rfl ?_ | refine AOps.append Try.hX kn rfl rfl rfl rfl rfl rfl rfl rfl rfl rfl rfl rfl rfl rfl rfl rfl rfl rfl rfl rfl rfl ?_ ?_ | refine AOps.toStr Try.hX kn rfl rfl rfl rfl rfl rfl rfl rfl rfl rfl rfl (by first | exact rfl | exact byte1 _) rfl ?_ | refine AOps.buildArr Try.hX kn rfl rfl rfl rfl rfl rfl rfl rfl ?_ | refine AOps.indexArr Try.hX kn rfl rfl rfl rfl rfl rfl rfl rfl rfl rfl rfl rfl ?_ | refine AOps.runP1 Try.hX kn rfl rfl ?_ | (refine AOps.splitT rfl rfl rfl asm (fun h => ?_) <;> (fail_if_success (cases h; done)) <;> rw [h]) | (refine AOps.splitF rfl rfl rfl asm (fun h => ?_) <;> (fail_if_success (cases h; done)) <;> rw [h]) | (refine AOps.split rfl rfl rfl (fun h => ?_) (fun h => ?_) <;> (fail_if_success (cases h; done)) <;> rw [h]) | refine AOps.drawn (by kernel_rfl) ?_)
        all_goals rfl
    · have c6 : (IntKind.u8.wrap (((BitVec.ofInt IntKind.u8.bits ((c.toNat : Nat) : Int)) &&& (BitVec.ofInt IntKind.u8.bits 64)).toNat) != 0) = false := Eq.trans hand (by simp [hsg])
      have hE2 : (IntKind.i64.wrap (((val ((c :: s0).take i) : Nat) : Int) + IntKind.i64.wrap ((IntKind.i64.wrap ((b.toNat : Nat) : Int)).tmod 128 * ((wt i : Nat) : Int)))) = ((val ((c :: s0).take (i + 1)) : Nat) : Int) := hE
      have hn := nOf_end hsp hgo hgb (n := ((val ((c :: s0).take (i + 1)) : Nat) : Int)) (by rw [hneg, htk]; simp [hsg])
      have hI := rIn_calls ((val ((c :: s0).take (i + 1)) : Nat) : Int) (by constructor <;> omega)
      rw [← hE2] at hI
      by_cases hin : -maxI ≤ ((val ((c :: s0).take (i + 1)) : Nat) : Int) ∧ ((val ((c :: s0).take (i + 1)) : Nat) : Int) ≤ maxI
      rotate_left
      · rw [if_neg (fun h => hin h.1)] at hn
        rw [hE2, nIn_dec', decide_eq_false hin] at hI
        rw [← hE2] at hI
        rw [hn]
        repeat' (first | refine AK.runP Try.hX Try.mixed 300 rfl ?_ | refine AK.condTe rfl asm ?_ | refine AK.condFe rfl asm ?_ | (refine AK.condS rfl (fun h => ?_) (fun h => ?_) <;> first | (cases h; done) | rw [h] | skip) | refine AK.retQ Try.hX hf rfl rfl ?_ | refine AK.region Try.mixed rfl ?_ | refine AOps.done ?_ | refine AOps.runS Try.hX kn rfl ?_ | refine AOps.index Try.hX rfl rfl rfl rfl rfl rfl rfl rfl rfl rfl (i) rfl (hrow) rfl ?_ | (first | refine AOps.quo Try.hX kn rfl rfl rfl rfl rfl rfl rfl ((by decide)) ?_ | refine AOps.rem Try.hX kn rfl rfl rfl rfl rfl rfl rfl ((by decide)) ?_) | refine AOps.callq kn rfl rfl rfl rfl (hI) ?_ | refine AOps.box kn rfl rfl rfl rfl rfl rfl ?_ | refine AOps.alloc Try.hX kn rfl rfl rfl rfl rfl rfl rfl ?_ | refine AOps.store Try.hX kn rfl rfl rfl rfl rfl rfl rfl rfl rfl rfl rfl ?_ | refine AOps.buildSlice Try.hX kn rfl rfl rfl rfl rfl rfl rfl rfl rfl rfl rfl rfl ?_ | refine AOps.append Try.hX kn rfl rfl rfl rfl rfl rfl rfl rfl rfl rfl rfl rfl rfl rfl rfl rfl rfl rfl rfl rfl rfl ?_ ?_ | refine AOps.toStr Try.hX kn rfl rfl rfl rfl rfl rfl rfl rfl rfl rfl rfl (by first | exact rfl | exact byte1 _) rfl ?_ | refine AOps.buildArr Try.hX kn rfl rfl rfl rfl rfl rfl rfl rfl ?_ | refine AOps.indexArr Try.hX kn rfl rfl rfl rfl rfl rfl rfl rfl rfl rfl rfl rfl ?_ | refine AOps.runP1 Try.hX kn rfl rfl ?_ | (refine AOps.splitT rfl rfl rfl asm (fun h => ?_) <;> (fail_if_success (cases h; done)) <;> rw [h]) | (refine AOps.splitF rfl rfl rfl asm (fun h => ?_) <;> (fail_if_success (cases h; done)) <;> rw [h]) | (refine AOps.split rfl rfl rfl (fun h => ?_) (fun h => ?_) <;> (fail_if_success (cases h; done)) <;> rw [h]) | refine AOps.drawn (by kernel_rfl) ?_)
        all_goals rfl
      have hT := numberText_calls ((val ((c :: s0).take (i + 1)) : Nat) : Int) hin.1 hin.2
      rw [hE2, nIn_dec', decide_eq_true hin] at hI
      rw [← hE2] at hI hT
      rw [hE2] at hT
      by_cases heq : numB ((val ((c :: s0).take (i + 1)) : Nat) : Int) = (c :: s0).take i ++ [b]
      · rw [if_pos ⟨hin, heq⟩] at hn
        rw [heq] at hT
        rw [← hE2] at hT
        rw [hn]
        have c7 : (!((c :: s0).take i ++ [b] == (c :: s0).take i ++ [b])) = false := by simp
        repeat' (first | refine AK.runP Try.hX Try.mixed 300 rfl ?_ | refine AK.condTe rfl asm ?_ | refine AK.condFe rfl asm ?_ | (refine AK.condS rfl (fun h => ?_) (fun h => ?_) <;> first | (cases h; done) | rw [h] | skip) | refine AK.retQ Try.hX hf rfl rfl ?_ | refine AK.region Try.mixed rfl ?_ | refine AOps.done ?_ | refine AOps.runS Try.hX kn rfl ?_ | refine AOps.index Try.hX rfl rfl rfl rfl rfl rfl rfl rfl rfl rfl (i) rfl (hrow) rfl ?_ | (first | refine AOps.quo Try.hX kn rfl rfl rfl rfl rfl rfl rfl ((by decide)) ?_ | refine AOps.rem Try.hX kn rfl rfl rfl rfl rfl rfl rfl ((by decide)) ?_) | refine AOps.callq kn rfl rfl rfl rfl (hI) ?_ | refine AOps.callq kn rfl rfl rfl rfl (hT) ?_ | (refine AOps.sliceStr Try.hX kn rfl rfl rfl rfl rfl rfl (l := none) (h := some (i + 1)) rfl (bound_of rfl (i + 1) hwi) (show i + 1 ≤ (c :: s0).length from by omega) (Nat.zero_le _) ?_; rw [show List.drop (Option.getD none 0) (List.take (Option.getD (some (i + 1)) (c :: s0).length) (c :: s0)) = (c :: s0).take i ++ [b] from htk]) | refine AOps.box kn rfl rfl rfl rfl rfl rfl ?_ | refine AOps.alloc Try.hX kn rfl rfl rfl rfl rfl rfl rfl ?_ | refine AOps.store Try.hX kn rfl rfl rfl rfl rfl rfl rfl rfl rfl rfl rfl ?_ | refine AOps.buildSlice Try.hX kn rfl rfl rfl rfl rfl rfl rfl rfl rfl rfl rfl rfl ?_ | refine AOps.append Try.hX kn rfl rfl rfl rfl rfl rfl rfl rfl rfl rfl rfl rfl rfl rfl rfl rfl rfl rfl rfl rfl rfl ?_ ?_ | refine AOps.toStr Try.hX kn rfl rfl rfl rfl rfl rfl rfl rfl rfl rfl rfl (by first | exact rfl | exact byte1 _) rfl ?_ | refine AOps.buildArr Try.hX kn rfl rfl rfl rfl rfl rfl rfl rfl ?_ | refine AOps.indexArr Try.hX kn rfl rfl rfl rfl rfl rfl rfl rfl rfl rfl rfl rfl ?_ | refine AOps.runP1 Try.hX kn rfl rfl ?_ | (refine AOps.splitT rfl rfl rfl asm (fun h => ?_) <;> (fail_if_success (cases h; done)) <;> rw [h]) | (refine AOps.splitF rfl rfl rfl asm (fun h => ?_) <;> (fail_if_success (cases h; done)) <;> rw [h]) | (refine AOps.split rfl rfl rfl (fun h => ?_) (fun h => ?_) <;> (fail_if_success (cases h; done)) <;> rw [h]) | refine AOps.drawn (by kernel_rfl) ?_)
        all_goals
          refine tup2 (b := IntKind.i64.wrap (((i : Nat) : Int) + 1)) (b' := ((((c :: s0).take i).length : Nat) : Int) + 1) hE2 ?_
          rw [hwi, hll]; simp
      · rw [if_neg (fun h => heq h.2)] at hn
        have c7 : (!(numB ((val ((c :: s0).take (i + 1)) : Nat) : Int) == (c :: s0).take i ++ [b])) = true := by simpa using heq
        rw [hn]
        generalize numB ((val ((c :: s0).take (i + 1)) : Nat) : Int) = tx at hT c7
        rw [← hE2] at hT
        repeat' (first | refine AK.runP Try.hX Try.mixed 300 rfl ?_ | refine AK.condTe rfl asm ?_ | refine AK.condFe rfl asm ?_ | (refine AK.condS rfl (fun h => ?_) (fun h => ?_) <;> first | (cases h; done) | rw [h] | skip) | refine AK.retQ Try.hX hf rfl rfl ?_ | refine AK.region Try.mixed rfl ?_ | refine AOps.done ?_ | refine AOps.runS Try.hX kn rfl ?_ | refine AOps.index Try.hX rfl rfl rfl rfl rfl rfl rfl rfl rfl rfl (i) rfl (hrow) rfl ?_ | (first | refine AOps.quo Try.hX kn rfl rfl rfl rfl rfl rfl rfl ((by decide)) ?_ | refine AOps.rem Try.hX kn rfl rfl rfl rfl rfl rfl rfl ((by decide)) ?_) | refine AOps.callq kn rfl rfl rfl rfl (hI) ?_ | refine AOps.callq kn rfl rfl rfl rfl (hT) ?_ | (refine AOps.sliceStr Try.hX kn rfl rfl rfl rfl rfl rfl (l := none) (h := some (i + 1)) rfl (bound_of rfl (i + 1) hwi) (show i + 1 ≤ (c :: s0).length from by omega) (Nat.zero_le _) ?_; rw [show List.drop (Option.getD none 0) (List.take (Option.getD (some (i + 1)) (c :: s0).length) (c :: s0)) = (c :: s0).take i ++ [b] from htk]) | refine AOps.box kn rfl rfl rfl rfl rfl rfl ?_ | refine AOps.alloc Try.hX kn rfl rfl rfl rfl rfl rfl rfl ?_ | refine AOps.store Try.hX kn rfl rfl rfl rfl rfl rfl rfl rfl rfl rfl rfl ?_ | refine AOps.buildSlice Try.hX kn rfl rfl rfl rfl rfl rfl rfl rfl rfl rfl rfl rfl ?_ | refine AOps.append Try.hX kn rfl rfl rfl rfl rfl rfl rfl rfl rfl rfl rfl rfl rfl rfl rfl rfl rfl rfl rfl rfl rfl ?_ ?_ | refine AOps.toStr Try.hX kn rfl rfl rfl rfl rfl rfl rfl rfl rfl rfl rfl (by first | exact rfl | exact byte1 _) rfl ?_ | refine AOps.buildArr Try.hX kn rfl rfl rfl rfl rfl rfl rfl rfl ?_ | refine AOps.indexArr Try.hX kn rfl rfl rfl rfl rfl rfl rfl rfl rfl rfl rfl rfl ?_ | refine AOps.runP1 Try.hX kn rfl rfl ?_ | (refine AOps.splitT rfl rfl rfl asm (fun h => ?_) <;> (fail_if_success (cases h; done)) <;> rw [h]) | (refine AOps.splitF rfl rfl rfl asm (fun h => ?_) <;> (fail_if_success (cases h; done)) <;> rw [h]) | (refine AOps.split rfl rfl rfl (fun h => ?_) (fun h => ?_) <;> (fail_if_success (cases h; done)) <;> rw [h]) | refine AOps.drawn (by kernel_rfl) ?_)
        all_goals rfl
  have c3 : (((i : Nat) : Int) == 8) = false := by simp; omega
  by_cases hgb : b.toNat < 128
  rotate_left
  · have c5 : decide (((b.toNat : Nat) : Int) < 128) = false := decide_eq_false (by omega)
    repeat' (first | refine AK.runP Try.hX Try.mixed 300 rfl ?_ | refine AK.condTe rfl asm ?_ | refine AK.condFe rfl asm ?_ | (refine AK.condS rfl (fun h => ?_) (fun h => ?_) <;> first | (cases h; done) | rw [h] | skip) | refine AK.retQ Try.hX hf rfl rfl ?_ | refine AK.region Try.mixed rfl ?_ | refine AOps.done ?_ | refine AOps.runS Try.hX kn rfl ?_ | refine AOps.index Try.hX rfl rfl rfl rfl rfl rfl rfl rfl rfl rfl (i) rfl (hrow) rfl ?_ | (first | refine AOps.quo Try.hX kn rfl rfl rfl rfl rfl rfl rfl ((by decide)) ?_ | refine AOps.rem Try.hX kn rfl rfl rfl rfl rfl rfl rfl ((by decide)) ?_) | refine AOps.box kn rfl rfl rfl rfl rfl rfl ?_ | refine AOps.alloc Try.hX kn rfl rfl rfl rfl rfl rfl rfl ?_ | refine AOps.store Try.hX kn rfl rfl rfl rfl rfl rfl rfl rfl rfl rfl rfl ?_ | refine AOps.buildSlice Try.hX kn rfl rfl rfl rfl rfl rfl rfl rfl rfl rfl rfl rfl ?_ | refine AOps.append Try.hX kn rfl rfl rfl rfl rfl rfl rfl rfl rfl rfl rfl rfl rfl rfl rfl rfl rfl rfl rfl rfl rfl ?_ ?_ | refine AOps.toStr Try.hX kn rfl rfl rfl rfl rfl rfl rfl rfl rfl rfl rfl (by first | exact rfl | exact byte1 _) rfl ?_ | refine AOps.buildArr Try.hX kn rfl rfl rfl rfl rfl rfl rfl rfl ?_ | refine AOps.indexArr Try.hX kn rfl rfl rfl rfl rfl rfl rfl rfl rfl rfl rfl rfl ?_ | refine AOps.runP1 Try.hX kn rfl rfl ?_ | (refine AOps.splitT rfl rfl rfl asm (fun h => ?_) <;> (fail_if_success (cases h; done)) <;> rw [h]) | (refine AOps.splitF rfl rfl rfl asm (fun h => ?_) <;> (fail_if_success (cases h; done)) <;> rw [h]) | (refine AOps.split rfl rfl rfl (fun h => ?_) (fun h => ?_) <;> (fail_if_success (cases h; done)) <;> rw [h]) | refine AOps.drawn (by kernel_rfl) ?_)
    exact AK.again (ih (i + 1) ⟨by omega, by omega, by rw [htk]; exact goB_snoc hgo (by omega)⟩ (by omega)) ⟨.inl (succ64 (by omega)), .inl rfl, .inl rfl, .inl rfl, .inl (congrArg (fun z => some (AV.c (CV.int .i64 z))) hE), .inl (congrArg (fun z => some (AV.c (CV.int .i64 z))) hK), trivial⟩ trivial trivial rfl rfl rfl
  have c5 : decide (((b.toNat : Nat) : Int) < 128) = true := decide_eq_true (by omega)
  clear ih
  by_cases hsg : c.toNat / 64 % 2 = 1
  · have c6 : (IntKind.u8.wrap (((BitVec.ofInt IntKind.u8.bits ((c.toNat : Nat) : Int)) &&& (BitVec.ofInt IntKind.u8.bits 64)).toNat) != 0) = true := Eq.trans hand (by simp [hsg])
    have hE2 : (IntKind.i64.wrap (0 - (IntKind.i64.wrap (((val ((c :: s0).take i) : Nat) : Int) + IntKind.i64.wrap ((IntKind.i64.wrap ((b.toNat : Nat) : Int)).tmod 128 * ((wt i : Nat) : Int)))))) = (-((val ((c :: s0).take (i + 1)) : Nat) : Int)) := by rw [hE, w64 (by omega) (by omega)]; omega
    have hn := nOf_end hsp hgo hgb (n := (-((val ((c :: s0).take (i + 1)) : Nat) : Int))) (by rw [hneg, htk]; simp [hsg])
    have hI := rIn_calls (-((val ((c :: s0).take (i + 1)) : Nat) : Int)) (by constructor <;> omega)
    rw [← hE2] at hI
    by_cases hin : -maxI ≤ (-((val ((c :: s0).take (i + 1)) : Nat) : Int)) ∧ (-((val ((c :: s0).take (i + 1)) : Nat) : Int)) ≤ maxI
    rotate_left
    · rw [if_neg (fun h => hin h.1)] at hn
      rw [hE2, nIn_dec', decide_eq_false hin] at hI
      rw [← hE2] at hI
      rw [hn]
      repeat' (first | refine AK.runP Try.hX Try.mixed 300 rfl ?_ | refine AK.condTe rfl asm ?_ | refine AK.condFe rfl asm ?_ | (refine AK.condS rfl (fun h => ?_) (fun h => ?_) <;> first | (cases h; done) | rw [h] | skip) | refine AK.retQ Try.hX hf rfl rfl ?_ | refine AK.region Try.mixed rfl ?_ | refine AOps.done ?_ | refine AOps.runS Try.hX kn rfl ?_ | refine AOps.index Try.hX rfl rfl rfl rfl rfl rfl rfl rfl rfl rfl (i) rfl (hrow) rfl ?_ | (first | refine AOps.quo Try.hX kn rfl rfl rfl rfl rfl rfl rfl ((by decide)) ?_ | refine AOps.rem Try.hX kn rfl rfl rfl rfl rfl rfl rfl ((by decide)) ?_) | refine AOps.callq kn rfl rfl rfl rfl (hI) ?_ | refine AOps.box kn rfl rfl rfl rfl rfl rfl ?_ | refine AOps.alloc Try.hX kn rfl rfl rfl rfl rfl rfl rfl ?_ | refine AOps.store Try.hX kn rfl rfl rfl rfl rfl rfl rfl rfl rfl rfl rfl ?_ | refine AOps.buildSlice Try.hX kn rfl rfl rfl rfl rfl rfl rfl rfl rfl rfl rfl rfl ?_ | refine AOps.append Try.hX kn rfl rfl rfl rfl rfl rfl rfl rfl rfl rfl rfl rfl rfl rfl rfl rfl rfl rfl rfl rfl rfl ?_ ?_ | refine AOps.toStr Try.hX kn rfl rfl rfl rfl rfl rfl rfl rfl rfl rfl rfl (by first | exact rfl | exact byte1 _) rfl ?_ | refine AOps.buildArr Try.hX kn rfl rfl rfl rfl rfl rfl rfl rfl ?_ | refine AOps.indexArr Try.hX kn rfl rfl rfl rfl rfl rfl rfl rfl rfl rfl rfl rfl ?_ | refine AOps.runP1 Try.hX kn rfl rfl ?_ | (refine AOps.splitT rfl rfl rfl asm (fun h => ?_) <;> (fail_if_success (cases h; done)) <;> rw [h]) | (refine AOps.splitF rfl rfl rfl asm (fun h => ?_) <;> (fail_if_success (cases h; done)) <;> rw [h]) | (refine AOps.split rfl rfl rfl (fun h => ?_) (fun h => ?_) <;> (fail_if_success (cases h; done)) <;> rw [h]) | refine AOps.drawn (by kernel_rfl) ?_)
      all_goals rfl
    have hT := numberText_calls (-((val ((c :: s0).take (i + 1)) : Nat) : Int)) hin.1 hin.2
    rw [hE2, nIn_dec', decide_eq_true hin] at hI
    rw [← hE2] at hI hT
    rw [hE2] at hT
    by_cases heq : numB (-((val ((c :: s0).take (i + 1)) : Nat) : Int)) = (c :: s0).take i ++ [b]
    · rw [if_pos ⟨hin, heq⟩] at hn
      rw [heq] at hT
      rw [← hE2] at hT
      rw [hn]
      have c7 : (!((c :: s0).take i ++ [b] == (c :: s0).take i ++ [b])) = false := by simp
      repeat' (first | refine AK.runP Try.hX Try.mixed 300 rfl ?_ | refine AK.condTe rfl asm ?_ | refine AK.condFe rfl asm ?_ | (refine AK.condS rfl (fun h => ?_) (fun h => ?_) <;> first | (cases h; done) | rw [h] | skip) | refine AK.retQ Try.hX hf rfl rfl ?_ | refine AK.region Try.mixed rfl ?_ | refine AOps.done ?_ | refine AOps.runS Try.hX kn rfl ?_ | refine AOps.index Try.hX rfl rfl rfl rfl rfl rfl rfl rfl rfl rfl (i) rfl (hrow) rfl ?_ | (first | refine AOps.quo Try.hX kn rfl rfl rfl rfl rfl rfl rfl ((by decide)) ?_ | refine AOps.rem Try.hX kn rfl rfl rfl rfl rfl rfl rfl ((by decide)) ?_) | refine AOps.callq kn rfl rfl rfl rfl (hI) ?_ | refine AOps.callq kn rfl rfl rfl rfl (hT) ?_ | (refine AOps.sliceStr Try.hX kn rfl rfl rfl rfl rfl rfl (l := none) (h := some (i + 1)) rfl (bound_of rfl (i + 1) hwi) (show i + 1 ≤ (c :: s0).length from by omega) (Nat.zero_le _) ?_; rw [show List.drop (Option.getD none 0) (List.take (Option.getD (some (i + 1)) (c :: s0).length) (c :: s0)) = (c :: s0).take i ++ [b] from htk]) | refine AOps.box kn rfl rfl rfl rfl rfl rfl ?_ | refine AOps.alloc Try.hX kn rfl rfl rfl rfl rfl rfl rfl ?_ | refine AOps.store Try.hX kn rfl rfl rfl rfl rfl rfl rfl rfl rfl rfl rfl ?_ | refine AOps.buildSlice Try.hX kn rfl rfl rfl rfl rfl rfl rfl rfl rfl rfl rfl rfl ?_ | refine AOps.append Try.hX kn rfl rfl rfl rfl rfl rfl rfl rfl rfl rfl rfl rfl rfl rfl rfl rfl rfl rfl rfl rfl rfl ?_ ?_ | refine AOps.toStr Try.hX kn rfl rfl rfl rfl rfl rfl rfl rfl rfl rfl rfl (by first | exact rfl | exact byte1 _) rfl ?_ | refine AOps.buildArr Try.hX kn rfl rfl rfl rfl rfl rfl rfl rfl ?_ | refine AOps.indexArr Try.hX kn rfl rfl rfl rfl rfl rfl rfl rfl rfl rfl rfl rfl ?_ | refine AOps.runP1 Try.hX kn rfl rfl ?_ | (refine AOps.splitT rfl rfl rfl asm (fun h => ?_) <;> (fail_if_success (cases h; done)) <;> rw [h]) | (refine AOps.splitF rfl rfl rfl asm (fun h => ?_) <;> (fail_if_success (cases h; done)) <;> rw [h]) | (refine AOps.split rfl rfl rfl (fun h => ?_) (fun h => ?_) <;> (fail_if_success (cases h; done)) <;> rw [h]) | refine AOps.drawn (by kernel_rfl) ?_)
      all_goals
        refine tup2 (b := IntKind.i64.wrap (((i : Nat) : Int) + 1)) (b' := ((((c :: s0).take i).length : Nat) : Int) + 1) hE2 ?_
        rw [hwi, hll]; simp
    · rw [if_neg (fun h => heq h.2)] at hn
      have c7 : (!(numB (-((val ((c :: s0).take (i + 1)) : Nat) : Int)) == (c :: s0).take i ++ [b])) = true := by simpa using heq
      rw [hn]
      generalize numB (-((val ((c :: s0).take (i + 1)) : Nat) : Int)) = tx at hT c7
      rw [← hE2] at hT
      repeat' (first | refine AK.runP Try.hX Try.mixed 300 rfl ?_ | refine AK.condTe rfl asm ?_ | refine AK.condFe rfl asm ?_ | (refine AK.condS rfl (fun h => ?_) (fun h => ?_) <;> first | (cases h; done) | rw [h] | skip) | refine AK.retQ Try.hX hf rfl rfl ?_ | refine AK.region Try.mixed rfl ?_ | refine AOps.done ?_ | refine AOps.runS Try.hX kn rfl ?_ | refine AOps.index Try.hX rfl rfl rfl rfl rfl rfl rfl rfl rfl rfl (i) rfl (hrow) rfl ?_ | (first | refine AOps.quo Try.hX kn rfl rfl rfl rfl rfl rfl rfl ((by decide)) ?_ | refine AOps.rem Try.hX kn rfl rfl rfl rfl rfl rfl rfl ((by decide)) ?_) | refine AOps.callq kn rfl rfl rfl rfl (hI) ?_ | refine AOps.callq kn rfl rfl rfl rfl (hT) ?_ | (refine AOps.sliceStr Try.hX kn rfl rfl rfl rfl rfl rfl (l := none) (h := some (i + 1)) rfl (bound_of rfl (i + 1) hwi) (show i + 1 ≤ (c :: s0).length from by omega) (Nat.zero_le _) ?_; rw [show List.drop (Option.getD none 0) (List.take (Option.getD (some (i + 1)) (c :: s0).length) (c :: s0)) = (c :: s0).take i ++ [b] from htk]) | refine AOps.box kn rfl rfl rfl rfl rfl rfl ?_ | refine AOps.alloc Try.hX kn rfl rfl rfl rfl rfl rfl rfl ?_ | refine AOps.store Try.hX kn rfl rfl rfl rfl rfl rfl rfl rfl rfl rfl rfl ?_ | refine AOps.buildSlice Try.hX kn rfl rfl rfl rfl rfl rfl rfl rfl rfl rfl rfl rfl ?_ | refine AOps.append Try.hX kn rfl rfl rfl rfl rfl rfl rfl rfl rfl rfl rfl rfl rfl rfl rfl rfl rfl rfl rfl rfl rfl ?_ ?_ | refine AOps.toStr Try.hX kn rfl rfl rfl rfl rfl rfl rfl rfl rfl rfl rfl (by first | exact rfl | exact byte1 _) rfl ?_ | refine AOps.buildArr Try.hX kn rfl rfl rfl rfl rfl rfl rfl rfl ?_ | refine AOps.indexArr Try.hX kn rfl rfl rfl rfl rfl rfl rfl rfl rfl rfl rfl rfl ?_ | refine AOps.runP1 Try.hX kn rfl rfl ?_ | (refine AOps.splitT rfl rfl rfl asm (fun h => ?_) <;> (fail_if_success (cases h; done)) <;> rw [h]) | (refine AOps.splitF rfl rfl rfl asm (fun h => ?_) <;> (fail_if_success (cases h; done)) <;> rw [h]) | (refine AOps.split rfl rfl rfl (fun h => ?_) (fun h => ?_) <;> (fail_if_success (cases h; done)) <;> rw [h]) | refine AOps.drawn (by kernel_rfl) ?_)
      all_goals rfl
  · have c6 : (IntKind.u8.wrap (((BitVec.ofInt IntKind.u8.bits ((c.toNat : Nat) : Int)) &&& (BitVec.ofInt IntKind.u8.bits 64)).toNat) != 0) = false := Eq.trans hand (by simp [hsg])
    have hE2 : (IntKind.i64.wrap (((val ((c :: s0).take i) : Nat) : Int) + IntKind.i64.wrap ((IntKind.i64.wrap ((b.toNat : Nat) : Int)).tmod 128 * ((wt i : Nat) : Int)))) = ((val ((c :: s0).take (i + 1)) : Nat) : Int) := hE
    have hn := nOf_end hsp hgo hgb (n := ((val ((c :: s0).take (i + 1)) : Nat) : Int)) (by rw [hneg, htk]; simp [hsg])
    have hI := rIn_calls ((val ((c :: s0).take (i + 1)) : Nat) : Int) (by constructor <;> omega)
    rw [← hE2] at hI
    by_cases hin : -maxI ≤ ((val ((c :: s0).take (i + 1)) : Nat) : Int) ∧ ((val ((c :: s0).take (i + 1)) : Nat) : Int) ≤ maxI
    rotate_left
    · rw [if_neg (fun h => hin h.1)] at hn
      rw [hE2, nIn_dec', decide_eq_false hin] at hI
      rw [← hE2] at hI
      rw [hn]
      repeat' (first | refine AK.runP Try.hX Try.mixed 300 rfl ?_ | refine AK.condTe rfl asm ?_ | refine AK.condFe rfl asm ?_ | (refine AK.condS rfl (fun h => ?_) (fun h => ?_) <;> first | (cases h; done) | rw [h] | skip) | refine AK.retQ Try.hX hf rfl rfl ?_ | refine AK.region Try.mixed rfl ?_ | refine AOps.done ?_ | refine AOps.runS Try.hX kn rfl ?_ | refine AOps.index Try.hX rfl rfl rfl rfl rfl rfl rfl rfl rfl rfl (i) rfl (hrow) rfl ?_ | (first | refine AOps.quo Try.hX kn rfl rfl rfl rfl rfl rfl rfl ((by decide)) ?_ | refine AOps.rem Try.hX kn rfl rfl rfl rfl rfl rfl rfl ((by decide)) ?_) | refine AOps.callq kn rfl rfl rfl rfl (hI) ?_ | refine AOps.box kn rfl rfl rfl rfl rfl rfl ?_ | refine AOps.alloc Try.hX kn rfl rfl rfl rfl rfl rfl rfl ?_ | refine AOps.store Try.hX kn rfl rfl rfl rfl rfl rfl rfl rfl rfl rfl rfl ?_ | refine AOps.buildSlice Try.hX kn rfl rfl rfl rfl rfl rfl rfl rfl rfl rfl rfl rfl ?_ | refine AOps.append Try.hX kn rfl rfl rfl rfl rfl rfl rfl rfl rfl rfl rfl rfl rfl rfl rfl rfl rfl rfl rfl rfl rfl ?_ ?_ | refine AOps.toStr Try.hX kn rfl rfl rfl rfl rfl rfl rfl rfl rfl rfl rfl (by first | exact rfl | exact byte1 _) rfl ?_ | refine AOps.buildArr Try.hX kn rfl rfl rfl rfl rfl rfl rfl rfl ?_ | refine AOps.indexArr Try.hX kn rfl rfl rfl rfl rfl rfl rfl rfl rfl rfl rfl rfl ?_ | refine AOps.runP1 Try.hX kn rfl rfl ?_ | (refine AOps.splitT rfl rfl rfl asm (fun h => ?_) <;> (fail_if_success (cases h; done)) <;> rw [h]) | (refine AOps.splitF rfl rfl rfl asm (fun h => ?_) <;> (fail_if_success (cases h; done)) <;> rw [h]) | (refine AOps.split rfl rfl rfl (fun h => ?_) (fun h => ?_) <;> (fail_if_success (cases h; done)) <;> rw [h]) | refine AOps.drawn (by kernel_rfl) ?_)
      all_goals rfl
    have hT := numberText_calls ((val ((c :: s0).take (i + 1)) : Nat) : Int) hin.1 hin.2
    rw [hE2, nIn_dec', decide_eq_true hin] at hI
    rw [← hE2] at hI hT
    rw [hE2] at hT
    by_cases heq : numB ((val ((c :: s0).take (i + 1)) : Nat) : Int) = (c :: s0).take i ++ [b]
    · rw [if_pos ⟨hin, heq⟩] at hn
      rw [heq] at hT
      rw [← hE2] at hT
      rw [hn]
      have c7 : (!((c :: s0).take i ++ [b] == (c :: s0).take i ++ [b])) = false := by simp
      repeat' (first | refine AK.runP Try.hX Try.mixed 300 rfl ?_ | refine AK.condTe rfl asm ?_ | refine AK.condFe rfl asm ?_ | (refine AK.condS rfl (fun h => ?_) (fun h => ?_) <;> first | (cases h; done) | rw [h] | skip) | refine AK.retQ Try.hX hf rfl rfl ?_ | refine AK.region Try.mixed rfl ?_ | refine AOps.done ?_ | refine AOps.runS Try.hX kn rfl ?_ | refine AOps.index Try.hX rfl rfl rfl rfl rfl rfl rfl rfl rfl rfl (i) rfl (hrow) rfl ?_ | (first | refine AOps.quo Try.hX kn rfl rfl rfl rfl rfl rfl rfl ((by decide)) ?_ | refine AOps.rem Try.hX kn rfl rfl rfl rfl rfl rfl rfl ((by decide)) ?_) | refine AOps.callq kn rfl rfl rfl rfl (hI) ?_ | refine AOps.callq kn rfl rfl rfl rfl (hT) ?_ | (refine AOps.sliceStr Try.hX kn rfl rfl rfl rfl rfl rfl (l := none) (h := some (i + 1)) rfl (bound_of rfl (i + 1) hwi) (show i + 1 ≤ (c :: s0).length from by omega) (Nat.zero_le _) ?_; rw [show List.drop (Option.getD none 0) (List.take (Option.getD (some (i + 1)) (c :: s0).length) (c :: s0)) = (c :: s0).take i ++ [b] from htk]) | refine AOps.box kn rfl rfl rfl rfl rfl rfl ?_ | refine AOps.alloc Try.hX kn rfl rfl rfl rfl rfl rfl rfl ?_ | refine AOps.store Try.hX kn rfl rfl rfl rfl rfl rfl rfl rfl rfl rfl rfl ?_ | refine AOps.buildSlice Try.hX kn rfl rfl rfl rfl rfl rfl rfl rfl rfl rfl rfl rfl ?_ | refine AOps.append Try.hX kn rfl rfl rfl rfl rfl rfl rfl rfl rfl rfl rfl rfl rfl rfl rfl rfl rfl rfl rfl rfl rfl ?_ ?_ | refine AOps.toStr Try.hX kn rfl rfl rfl rfl rfl rfl rfl rfl rfl rfl rfl (by first | exact rfl | exact byte1 _) rfl ?_ | refine AOps.buildArr Try.hX kn rfl rfl rfl rfl rfl rfl rfl rfl ?_ | refine AOps.indexArr Try.hX kn rfl rfl rfl rfl rfl rfl rfl rfl rfl rfl rfl rfl ?_ | refine AOps.runP1 Try.hX kn rfl rfl ?_ | (refine AOps.splitT rfl rfl rfl asm (fun h => ?_) <;> (fail_if_success (cases h; done)) <;> rw [h]) | (refine AOps.splitF rfl rfl rfl asm (fun h => ?_) <;> (fail_if_success (cases h; done)) <;> rw [h]) | (refine AOps.split rfl rfl rfl (fun h => ?_) (fun h => ?_) <;> (fail_if_success (cases h; done)) <;> rw [h]) | refine AOps.drawn (by kernel_rfl) ?_)
      all_goals
        refine tup2 (b := IntKind.i64.wrap (((i : Nat) : Int) + 1)) (b' := ((((c :: s0).take i).length : Nat) : Int) + 1) hE2 ?_
        rw [hwi, hll]; simp
    · rw [if_neg (fun h => heq h.2)] at hn
      have c7 : (!(numB ((val ((c :: s0).take (i + 1)) : Nat) : Int) == (c :: s0).take i ++ [b])) = true := by simpa using heq
      rw [hn]
      generalize numB ((val ((c :: s0).take (i + 1)) : Nat) : Int) = tx at hT c7
      rw [← hE2] at hT
      repeat' (first | refine AK.runP Try.hX Try.mixed 300 rfl ?_ | refine AK.condTe rfl asm ?_ | refine AK.condFe rfl asm ?_ | (refine AK.condS rfl (fun h => ?_) (fun h => ?_) <;> first | (cases h; done) | rw [h] | skip) | refine AK.retQ Try.hX hf rfl rfl ?_ | refine AK.region Try.mixed rfl ?_ | refine AOps.done ?_ | refine AOps.runS Try.hX kn rfl ?_ | refine AOps.index Try.hX rfl rfl rfl rfl rfl rfl rfl rfl rfl rfl (i) rfl (hrow) rfl ?_ | (first | refine AOps.quo Try.hX kn rfl rfl rfl rfl rfl rfl rfl ((by decide)) ?_ | refine AOps.rem Try.hX kn rfl rfl rfl rfl rfl rfl rfl ((by decide)) ?_) | refine AOps.callq kn rfl rfl rfl rfl (hI) ?_ | refine AOps.callq kn rfl rfl rfl rfl (hT) ?_ | (refine AOps.sliceStr Try.hX kn rfl rfl rfl rfl rfl rfl (l := none) (h := some (i + 1)) rfl (bound_of rfl (i + 1) hwi) (show i + 1 ≤ (c :: s0).length from by omega) (Nat.zero_le _) ?_; rw [show List.drop (Option.getD none 0) (List.take (Option.getD (some (i + 1)) (c :: s0).length) (c :: s0)) = (c :: s0).take i ++ [b] from htk]) | refine AOps.box kn rfl rfl rfl rfl rfl rfl ?_ | refine AOps.alloc Try.hX kn rfl rfl rfl rfl rfl rfl rfl ?_ | refine AOps.store Try.hX kn rfl rfl rfl rfl rfl rfl rfl rfl rfl rfl rfl ?_ | refine AOps.buildSlice Try.hX kn rfl rfl rfl rfl rfl rfl rfl rfl rfl rfl rfl rfl ?_ | refine AOps.append Try.hX kn rfl rfl rfl rfl rfl rfl rfl rfl rfl rfl rfl rfl rfl rfl rfl rfl rfl rfl rfl rfl rfl ?_ ?_ | refine AOps.toStr Try.hX kn rfl rfl rfl rfl rfl rfl rfl rfl rfl rfl rfl (by first | exact rfl | exact byte1 _) rfl ?_ | refine AOps.buildArr Try.hX kn rfl rfl rfl rfl rfl rfl rfl rfl ?_ | refine AOps.indexArr Try.hX kn rfl rfl rfl rfl rfl rfl rfl rfl rfl rfl rfl rfl ?_ | refine AOps.runP1 Try.hX kn rfl rfl ?_ | (refine AOps.splitT rfl rfl rfl asm (fun h => ?_) <;> (fail_if_success (cases h; done)) <;> rw [h]) | (refine AOps.splitF rfl rfl rfl asm (fun h => ?_) <;> (fail_if_success (cases h; done)) <;> rw [h]) | (refine AOps.split rfl rfl rfl (fun h => ?_) (fun h => ?_) <;> (fail_if_success (cases h; done)) <;> rw [h]) | refine AOps.drawn (by kernel_rfl) ?_)
      all_goals rfl
end Go.Proofs
