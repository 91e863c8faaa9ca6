/- What numberOf of touchstoneref answers. What GoodNode of touchstoneref answers. What dataNode of touchstoneref answers. What TreeBack, TreeOnly and TreeCut of touchstonekeep answer: true, for all arguments. What Node, Told, Pack, Parse and Unpack of package value answer. -/
import Derived.Test.YtcinhjfonmjneaaTree7
import Derived.Test.YtcinhjfonmjneaaVal8
import Derived.Test.YtcinhjfonmjneaaVGue
import Derived.Test.YtcinhjfonmjneaaTree4
import Derived.Test.YtcinhjfonmjneaaNum1
-- WIDE
set_option linter.unusedVariables false
set_option linter.unusedSimpArgs false
namespace Go.Proofs
open Go.Abs
theorem bound_of {ρ : Operand → Option AV} {o : Operand} {k : IntKind} {z : Int} (h : ρ o = some (.c (.int k z))) (m : Nat) (hz : z = (m : Int)) : bound ρ (some o) = some (some m) := by
  subst hz
  simp only [bound, h]
  rfl
theorem tup2 {a a' b b' : Int} (h1 : a = a') (h2 : b = b') : CV.tup [CV.int .i64 a, CV.int .i64 b] = CV.tup [CV.int .i64 a', CV.int .i64 b'] := by rw [h1, h2]
theorem bytes_at {s : List UInt8} {i : Nat} {b : UInt8} (h : s[i]? = some b) : (byteRows s)[i]? = some (CV.int .u8 b.toNat) := by simp [byteRows, h]
theorem wt_zero : wt 0 = 1 := rfl
theorem val_nil : val [] = 0 := rfl
theorem wt_succ (i : Nat) (h : 1 ≤ i) : wt (i + 1) = wt i * 128 := by
  cases i with
  | zero => omega
  | succ i => simp only [wt, Nat.pow_succ]; omega
theorem wt_le (i : Nat) (h : i ≤ 8) : wt i ≤ 36028797018963968 := by
  have : i = 0 ∨ i = 1 ∨ i = 2 ∨ i = 3 ∨ i = 4 ∨ i = 5 ∨ i = 6 ∨ i = 7 ∨ i = 8 := by omega
  rcases this with rfl | rfl | rfl | rfl | rfl | rfl | rfl | rfl | rfl <;> decide
theorem take_snoc {s : List UInt8} {i : Nat} {b : UInt8} (h : s[i]? = some b) : s.take (i + 1) = s.take i ++ [b] := by
  rw [List.take_add_one, h]; rfl
theorem split_at {s : List UInt8} {i : Nat} {b : UInt8} (h : s[i]? = some b) : s = s.take i ++ b :: s.drop (i + 1) := by
  have hl : i < s.length := (List.getElem?_eq_some_iff.1 h).1
  rw [← drop_at h, List.take_append_drop]
theorem goB_snoc {l : List UInt8} {b : UInt8} (h : goB l) (hb : 128 ≤ b.toNat) : goB (l ++ [b]) := by
  intro x hx
  rcases List.mem_append.1 hx with hx | hx
  · exact h x hx
  · simp at hx; rw [hx]; exact hb
theorem nIn_dec' (n : Int) : nIn n = decide (-maxI ≤ n ∧ n ≤ maxI) := by
  unfold nIn; rw [Bool.eq_iff_iff]; simp [maxI]
attribute [local irreducible] AK AOps QCalls ECalls numB nOf val wt nIn

set_option maxHeartbeats 0 in
theorem numberOf_calls (s : List UInt8) (hs : s.length ≤ 1099511627776) : QCalls Try.prog Try.X 135 [.str s] (.tup [.int .i64 (nOf s).1, .int .i64 (nOf s).2]) := by
  have hbl : (byteRows s).length = s.length := by simp [byteRows]
  refine QCalls.of Try.func135 rfl (fun args w => Try.call135 args w) (Nat.le_of_ble_eq_true rfl) [(0, .c (.str s))] rfl fun β hβ => ?_; have hf := Try.func135
  repeat' (first | refine st ?_ | (refine AK.condS rfl (fun h => ?_) (fun h => ?_) <;> first | (cases h; done) | rw [h] | skip) | refine uQ hf rfl rfl ?_ | refine AOps.toBytes Try.hX kn rfl rfl rfl rfl rfl rfl rfl rfl rfl rfl ?_ | refine AOps.toStr Try.hX kn rfl rfl rfl rfl rfl rfl rfl rfl rfl rfl rfl (by first | exact rfl | exact byte1 _) rfl ?_ | ((first | refine AOps.splitT rfl rfl rfl asm (fun h => ?_) | refine AOps.splitF rfl rfl rfl asm (fun h => ?_) | refine AOps.split rfl rfl rfl (fun h => ?_) (fun h => ?_)) <;> (fail_if_success (cases h; done)) <;> rw [h]))
  refine AK.loopE (α := Nat) (fun i => i ≤ s.length ∧ i ≤ 9 ∧ goB (s.take i)) (fun i => s.length - i)
    (fun i => [(12, .c (.int .i64 i)), (11, .c (.int .i64 (byteRows s).length)), (10, .c (.sl 1 (byteRows s))), (0, .c (.str s)), (4, .c (.int .i64 (val (s.take i) : Nat))), (5, .c (.int .i64 (wt i : Nat)))]) (fun _ => []) (fun _ => []) [] 0
    ⟨by omega, by omega, by simp [goB]⟩ ⟨.inl rfl, .inl rfl, .inl rfl, .inl rfl, .inl (congrArg (fun z => some (AV.c (CV.int .i64 z))) (show (0 : Int) = ((val (s.take 0) : Nat) : Int) from by rw [List.take_zero, val_nil]; rfl)), .inl (congrArg (fun z => some (AV.c (CV.int .i64 z))) (show (1 : Int) = ((wt 0 : Nat) : Int) from by rw [wt_zero]; rfl)), trivial⟩ trivial trivial rfl rfl rfl ?_
  rintro i ⟨hi, hi9, hgo⟩ ih
  have hll : (s.take i).length = i := by rw [List.length_take]; omega
  by_cases hend : i = s.length
  · have c0 : decide (((i : Nat) : Int) < (((byteRows s).length : Nat) : Int)) = false := decide_eq_false (by omega)
    have hn := nOf_long (s := s) (l := s.take i) (t := []) (by rw [hend]; simp) hgo (.inr rfl)
    rw [hn]
    clear ih
    repeat' (first | refine st ?_ | (refine AK.condS rfl (fun h => ?_) (fun h => ?_) <;> first | (cases h; done) | rw [h] | skip) | refine uQ hf rfl rfl ?_ | refine AOps.toStr Try.hX kn rfl rfl rfl rfl rfl rfl rfl rfl rfl rfl rfl (by first | exact rfl | exact byte1 _) rfl ?_ | ((first | refine AOps.splitT rfl rfl rfl asm (fun h => ?_) | refine AOps.splitF rfl rfl rfl asm (fun h => ?_) | refine AOps.split rfl rfl rfl (fun h => ?_) (fun h => ?_)) <;> (fail_if_success (cases h; done)) <;> rw [h]))
    all_goals rfl
  have c0 : decide (((i : Nat) : Int) < (((byteRows s).length : Nat) : Int)) = true := decide_eq_true (by omega)
  obtain ⟨b, hb⟩ : ∃ b, s[i]? = some b := ⟨s[i]'(by omega), by simp⟩
  have hsp := split_at hb
  have hrow := bytes_at hb
  have htk := take_snoc hb
  have hbt := b.toNat_lt
  by_cases h9 : i = 9
  · have c1 : decide (((i : Nat) : Int) > 8) = true := decide_eq_true (by omega)
    have hn := nOf_long hsp hgo (.inl (by omega))
    rw [hn]
    clear ih hn
    repeat' (first | refine st ?_ | (refine AK.condS rfl (fun h => ?_) (fun h => ?_) <;> first | (cases h; done) | rw [h] | skip) | refine uQ hf rfl rfl ?_ | refine uI rfl (i) rfl (hrow) rfl ?_ | refine AOps.toStr Try.hX kn rfl rfl rfl rfl rfl rfl rfl rfl rfl rfl rfl (by first | exact rfl | exact byte1 _) rfl ?_ | ((first | refine AOps.splitT rfl rfl rfl asm (fun h => ?_) | refine AOps.splitF rfl rfl rfl asm (fun h => ?_) | refine AOps.split rfl rfl rfl (fun h => ?_) (fun h => ?_)) <;> (fail_if_success (cases h; done)) <;> rw [h]))
    all_goals rfl
  have c1 : decide (((i : Nat) : Int) > 8) = false := decide_eq_false (by omega)
  have hwl := wt_le i (by omega)
  have hvl := val_lt (s.take i)
  rw [hll] at hvl
  have hwb : IntKind.i64.wrap ((b.toNat : Nat) : Int) = b.toNat := w64 (by omega) (by omega)
  have hwi : IntKind.i64.wrap (((i : Nat) : Int) + 1) = ((i + 1 : Nat) : Int) := by rw [w64 (by omega) (by omega)]; omega
  obtain ⟨c, s0, rfl⟩ : ∃ c s0, s = c :: s0 := by
    cases s with
    | nil => simp at hb
    | cons c s0 => exact ⟨c, s0, rfl⟩
  have hct := c.toNat_lt
  have hneg : neg1 ((c :: s0).take i ++ [b]) = decide (c.toNat / 64 % 2 = 1) := by rw [← htk]; rfl
  have hand := and64u (c := c.toNat) hct
  by_cases hi0 : i = 0
  · have c2 : (((i : Nat) : Int) == 0) = true := by simpa using hi0
    have c3 : (((i : Nat) : Int) == 8) = false := by simp; omega
    have hB : (IntKind.i64.wrap ((b.toNat : Nat) : Int)).tmod 64 = ((b.toNat % 64 : Nat) : Int) := by rw [hwb]; exact tmod_nat b.toNat 64
    have hm : b.toNat % 64 < 64 := Nat.mod_lt _ (by omega)
    have hmul : b.toNat % 64 * wt i ≤ 128 * 36028797018963968 := Nat.mul_le_mul (by omega) hwl
    have hvv : val ((c :: s0).take (i + 1)) = val ((c :: s0).take i) + b.toNat % 64 * wt i := by
      rw [htk]
      rw [hi0]; simp only [List.take_zero, List.nil_append]; rw [val_first, val_nil, wt_zero]; omega
    have hE : (IntKind.i64.wrap (((val ((c :: s0).take i) : Nat) : Int) + IntKind.i64.wrap ((IntKind.i64.wrap ((b.toNat : Nat) : Int)).tmod 64 * ((wt i : Nat) : Int)))) = ((val ((c :: s0).take (i + 1)) : Nat) : Int) := by
      rw [hB, hvv, show (((b.toNat % 64 : Nat) : Int) * ((wt i : Nat) : Int)) = ((b.toNat % 64 * wt i : Nat) : Int) from (Int.natCast_mul _ _).symm]
      generalize b.toNat % 64 * wt i = q at *
      rw [w64 (n := (q : Int)) (by omega) (by omega), w64 (by omega) (by omega)]; omega
    have hvb : val ((c :: s0).take (i + 1)) ≤ 5000000000000000000 := by rw [hvv]; omega
    have hK : (64 : Int) = ((wt (i + 1) : Nat) : Int) := by rw [hi0]; unfold wt; rfl
    by_cases hgb : b.toNat < 128
    rotate_left
    · have c5 : decide (((b.toNat : Nat) : Int) < 128) = false := decide_eq_false (by omega)
      repeat' (first | refine st ?_ | (refine AK.condS rfl (fun h => ?_) (fun h => ?_) <;> first | (cases h; done) | rw [h] | skip) | refine uQ hf rfl rfl ?_ | refine uI rfl (i) rfl (hrow) rfl ?_ | (first | refine AOps.quo Try.hX kn rfl rfl rfl rfl rfl rfl rfl ((by decide)) ?_ | refine AOps.rem Try.hX kn rfl rfl rfl rfl rfl rfl rfl ((by decide)) ?_) | refine AOps.toStr Try.hX kn rfl rfl rfl rfl rfl rfl rfl rfl rfl rfl rfl (by first | exact rfl | exact byte1 _) rfl ?_ | ((first | refine AOps.splitT rfl rfl rfl asm (fun h => ?_) | refine AOps.splitF rfl rfl rfl asm (fun h => ?_) | refine AOps.split rfl rfl rfl (fun h => ?_) (fun h => ?_)) <;> (fail_if_success (cases h; done)) <;> rw [h]))
      exact AK.again (ih (i + 1) ⟨by omega, by omega, by rw [htk]; exact goB_snoc hgo (by omega)⟩ (by omega)) ⟨.inl (succ64 (by omega)), .inl rfl, .inl rfl, .inl rfl, .inl (congrArg (fun z => some (AV.c (CV.int .i64 z))) hE), .inl (congrArg (fun z => some (AV.c (CV.int .i64 z))) hK), trivial⟩ trivial trivial rfl rfl rfl
    have c5 : decide (((b.toNat : Nat) : Int) < 128) = true := decide_eq_true (by omega)
    clear ih
    by_cases hsg : c.toNat / 64 % 2 = 1
    · have c6 : (IntKind.u8.wrap (((BitVec.ofInt IntKind.u8.bits ((c.toNat : Nat) : Int)) &&& (BitVec.ofInt IntKind.u8.bits 64)).toNat) != 0) = true := Eq.trans hand (by simp [hsg])
      have hE2 : (IntKind.i64.wrap (0 - (IntKind.i64.wrap (((val ((c :: s0).take i) : Nat) : Int) + IntKind.i64.wrap ((IntKind.i64.wrap ((b.toNat : Nat) : Int)).tmod 64 * ((wt i : Nat) : Int)))))) = (-((val ((c :: s0).take (i + 1)) : Nat) : Int)) := by rw [hE, w64 (by omega) (by omega)]; omega
      have hn := nOf_end hsp hgo hgb (n := (-((val ((c :: s0).take (i + 1)) : Nat) : Int))) (by rw [hneg, htk]; simp [hsg])
      have hI := rIn_calls (-((val ((c :: s0).take (i + 1)) : Nat) : Int)) (by constructor <;> omega)
      rw [← hE2] at hI
      by_cases hin : -maxI ≤ (-((val ((c :: s0).take (i + 1)) : Nat) : Int)) ∧ (-((val ((c :: s0).take (i + 1)) : Nat) : Int)) ≤ maxI
      rotate_left
      · rw [if_neg (fun h => hin h.1)] at hn
        rw [hE2, nIn_dec', decide_eq_false hin] at hI
        rw [← hE2] at hI
        rw [hn]
        repeat' (first | refine st ?_ | (refine AK.condS rfl (fun h => ?_) (fun h => ?_) <;> first | (cases h; done) | rw [h] | skip) | refine uQ hf rfl rfl ?_ | refine uI rfl (i) rfl (hrow) rfl ?_ | (first | refine AOps.quo Try.hX kn rfl rfl rfl rfl rfl rfl rfl ((by decide)) ?_ | refine AOps.rem Try.hX kn rfl rfl rfl rfl rfl rfl rfl ((by decide)) ?_) | refine uC rfl hI ?_ | refine AOps.toStr Try.hX kn rfl rfl rfl rfl rfl rfl rfl rfl rfl rfl rfl (by first | exact rfl | exact byte1 _) rfl ?_ | ((first | refine AOps.splitT rfl rfl rfl asm (fun h => ?_) | refine AOps.splitF rfl rfl rfl asm (fun h => ?_) | refine AOps.split rfl rfl rfl (fun h => ?_) (fun h => ?_)) <;> (fail_if_success (cases h; done)) <;> rw [h]))
        all_goals rfl
      have hT := numberText_calls (-((val ((c :: s0).take (i + 1)) : Nat) : Int)) hin.1 hin.2
      rw [hE2, nIn_dec', decide_eq_true hin] at hI
      rw [← hE2] at hI hT
      rw [hE2] at hT
      by_cases heq : numB (-((val ((c :: s0).take (i + 1)) : Nat) : Int)) = (c :: s0).take i ++ [b]
      · rw [if_pos ⟨hin, heq⟩] at hn
        rw [heq] at hT
        rw [← hE2] at hT
        rw [hn]
        have c7 : (!((c :: s0).take i ++ [b] == (c :: s0).take i ++ [b])) = false := by simp
        repeat' (first | refine st ?_ | (refine AK.condS rfl (fun h => ?_) (fun h => ?_) <;> first | (cases h; done) | rw [h] | skip) | refine uQ hf rfl rfl ?_ | refine uI rfl (i) rfl (hrow) rfl ?_ | (first | refine AOps.quo Try.hX kn rfl rfl rfl rfl rfl rfl rfl ((by decide)) ?_ | refine AOps.rem Try.hX kn rfl rfl rfl rfl rfl rfl rfl ((by decide)) ?_) | refine uC rfl hI ?_ | refine uC rfl hT ?_ | (refine AOps.sliceStr Try.hX kn rfl rfl rfl rfl rfl rfl (l := none) (h := some (i + 1)) rfl (bound_of rfl (i + 1) hwi) (show i + 1 ≤ (c :: s0).length from by omega) (Nat.zero_le _) ?_; rw [show List.drop (Option.getD none 0) (List.take (Option.getD (some (i + 1)) (c :: s0).length) (c :: s0)) = (c :: s0).take i ++ [b] from htk]) | refine AOps.toStr Try.hX kn rfl rfl rfl rfl rfl rfl rfl rfl rfl rfl rfl (by first | exact rfl | exact byte1 _) rfl ?_ | ((first | refine AOps.splitT rfl rfl rfl asm (fun h => ?_) | refine AOps.splitF rfl rfl rfl asm (fun h => ?_) | refine AOps.split rfl rfl rfl (fun h => ?_) (fun h => ?_)) <;> (fail_if_success (cases h; done)) <;> rw [h]))
        all_goals
          refine tup2 (b := IntKind.i64.wrap (((i : Nat) : Int) + 1)) (b' := ((((c :: s0).take i).length : Nat) : Int) + 1) hE2 ?_
          rw [hwi, hll]; simp
      · rw [if_neg (fun h => heq h.2)] at hn
        have c7 : (!(numB (-((val ((c :: s0).take (i + 1)) : Nat) : Int)) == (c :: s0).take i ++ [b])) = true := by simpa using heq
        rw [hn]
        generalize numB (-((val ((c :: s0).take (i + 1)) : Nat) : Int)) = tx at hT c7
        rw [← hE2] at hT
        repeat' (first | refine st ?_ | (refine AK.condS rfl (fun h => ?_) (fun h => ?_) <;> first | (cases h; done) | rw [h] | skip) | refine uQ hf rfl rfl ?_ | refine uI rfl (i) rfl (hrow) rfl ?_ | (first | refine AOps.quo Try.hX kn rfl rfl rfl rfl rfl rfl rfl ((by decide)) ?_ | refine AOps.rem Try.hX kn rfl rfl rfl rfl rfl rfl rfl ((by decide)) ?_) | refine uC rfl hI ?_ | refine uC rfl hT ?_ | (refine AOps.sliceStr Try.hX kn rfl rfl rfl rfl rfl rfl (l := none) (h := some (i + 1)) rfl (bound_of rfl (i + 1) hwi) (show i + 1 ≤ (c :: s0).length from by omega) (Nat.zero_le _) ?_; rw [show List.drop (Option.getD none 0) (List.take (Option.getD (some (i + 1)) (c :: s0).length) (c :: s0)) = (c :: s0).take i ++ [b] from htk]) | refine AOps.toStr Try.hX kn rfl rfl rfl rfl rfl rfl rfl rfl rfl rfl rfl (by first | exact rfl | exact byte1 _) rfl ?_ | ((first | refine AOps.splitT rfl rfl rfl asm (fun h => ?_) | refine AOps.splitF rfl rfl rfl asm (fun h => ?_) | refine AOps.split rfl rfl rfl (fun h => ?_) (fun h => ?_)) <;> (fail_if_success (cases h; done)) <;> rw [h]))
        all_goals rfl
    · have c6 : (IntKind.u8.wrap (((BitVec.ofInt IntKind.u8.bits ((c.toNat : Nat) : Int)) &&& (BitVec.ofInt IntKind.u8.bits 64)).toNat) != 0) = false := Eq.trans hand (by simp [hsg])
      have hE2 : (IntKind.i64.wrap (((val ((c :: s0).take i) : Nat) : Int) + IntKind.i64.wrap ((IntKind.i64.wrap ((b.toNat : Nat) : Int)).tmod 64 * ((wt i : Nat) : Int)))) = ((val ((c :: s0).take (i + 1)) : Nat) : Int) := hE
      have hn := nOf_end hsp hgo hgb (n := ((val ((c :: s0).take (i + 1)) : Nat) : Int)) (by rw [hneg, htk]; simp [hsg])
      have hI := rIn_calls ((val ((c :: s0).take (i + 1)) : Nat) : Int) (by constructor <;> omega)
      rw [← hE2] at hI
      by_cases hin : -maxI ≤ ((val ((c :: s0).take (i + 1)) : Nat) : Int) ∧ ((val ((c :: s0).take (i + 1)) : Nat) : Int) ≤ maxI
      rotate_left
      · rw [if_neg (fun h => hin h.1)] at hn
        rw [hE2, nIn_dec', decide_eq_false hin] at hI
        rw [← hE2] at hI
        rw [hn]
        repeat' (first | refine st ?_ | (refine AK.condS rfl (fun h => ?_) (fun h => ?_) <;> first | (cases h; done) | rw [h] | skip) | refine uQ hf rfl rfl ?_ | refine uI rfl (i) rfl (hrow) rfl ?_ | (first | refine AOps.quo Try.hX kn rfl rfl rfl rfl rfl rfl rfl ((by decide)) ?_ | refine AOps.rem Try.hX kn rfl rfl rfl rfl rfl rfl rfl ((by decide)) ?_) | refine uC rfl hI ?_ | refine AOps.toStr Try.hX kn rfl rfl rfl rfl rfl rfl rfl rfl rfl rfl rfl (by first | exact rfl | exact byte1 _) rfl ?_ | ((first | refine AOps.splitT rfl rfl rfl asm (fun h => ?_) | refine AOps.splitF rfl rfl rfl asm (fun h => ?_) | refine AOps.split rfl rfl rfl (fun h => ?_) (fun h => ?_)) <;> (fail_if_success (cases h; done)) <;> rw [h]))
        all_goals rfl
      have hT := numberText_calls ((val ((c :: s0).take (i + 1)) : Nat) : Int) hin.1 hin.2
      rw [hE2, nIn_dec', decide_eq_true hin] at hI
      rw [← hE2] at hI hT
      rw [hE2] at hT
      by_cases heq : numB ((val ((c :: s0).take (i + 1)) : Nat) : Int) = (c :: s0).take i ++ [b]
      · rw [if_pos ⟨hin, heq⟩] at hn
        rw [heq] at hT
        rw [← hE2] at hT
        rw [hn]
        have c7 : (!((c :: s0).take i ++ [b] == (c :: s0).take i ++ [b])) = false := by simp
        repeat' (first | refine st ?_ | (refine AK.condS rfl (fun h => ?_) (fun h => ?_) <;> first | (cases h; done) | rw [h] | skip) | refine uQ hf rfl rfl ?_ | refine uI rfl (i) rfl (hrow) rfl ?_ | (first | refine AOps.quo Try.hX kn rfl rfl rfl rfl rfl rfl rfl ((by decide)) ?_ | refine AOps.rem Try.hX kn rfl rfl rfl rfl rfl rfl rfl ((by decide)) ?_) | refine uC rfl hI ?_ | refine uC rfl hT ?_ | (refine AOps.sliceStr Try.hX kn rfl rfl rfl rfl rfl rfl (l := none) (h := some (i + 1)) rfl (bound_of rfl (i + 1) hwi) (show i + 1 ≤ (c :: s0).length from by omega) (Nat.zero_le _) ?_; rw [show List.drop (Option.getD none 0) (List.take (Option.getD (some (i + 1)) (c :: s0).length) (c :: s0)) = (c :: s0).take i ++ [b] from htk]) | refine AOps.toStr Try.hX kn rfl rfl rfl rfl rfl rfl rfl rfl rfl rfl rfl (by first | exact rfl | exact byte1 _) rfl ?_ | ((first | refine AOps.splitT rfl rfl rfl asm (fun h => ?_) | refine AOps.splitF rfl rfl rfl asm (fun h => ?_) | refine AOps.split rfl rfl rfl (fun h => ?_) (fun h => ?_)) <;> (fail_if_success (cases h; done)) <;> rw [h]))
        all_goals
          refine tup2 (b := IntKind.i64.wrap (((i : Nat) : Int) + 1)) (b' := ((((c :: s0).take i).length : Nat) : Int) + 1) hE2 ?_
          rw [hwi, hll]; simp
      · rw [if_neg (fun h => heq h.2)] at hn
        have c7 : (!(numB ((val ((c :: s0).take (i + 1)) : Nat) : Int) == (c :: s0).take i ++ [b])) = true := by simpa using heq
        rw [hn]
        generalize numB ((val ((c :: s0).take (i + 1)) : Nat) : Int) = tx at hT c7
        rw [← hE2] at hT
        repeat' (first | refine st ?_ | (refine AK.condS rfl (fun h => ?_) (fun h => ?_) <;> first | (cases h; done) | rw [h] | skip) | refine uQ hf rfl rfl ?_ | refine uI rfl (i) rfl (hrow) rfl ?_ | (first | refine AOps.quo Try.hX kn rfl rfl rfl rfl rfl rfl rfl ((by decide)) ?_ | refine AOps.rem Try.hX kn rfl rfl rfl rfl rfl rfl rfl ((by decide)) ?_) | refine uC rfl hI ?_ | refine uC rfl hT ?_ | (refine AOps.sliceStr Try.hX kn rfl rfl rfl rfl rfl rfl (l := none) (h := some (i + 1)) rfl (bound_of rfl (i + 1) hwi) (show i + 1 ≤ (c :: s0).length from by omega) (Nat.zero_le _) ?_; rw [show List.drop (Option.getD none 0) (List.take (Option.getD (some (i + 1)) (c :: s0).length) (c :: s0)) = (c :: s0).take i ++ [b] from htk]) | refine AOps.toStr Try.hX kn rfl rfl rfl rfl rfl rfl rfl rfl rfl rfl rfl (by first | exact rfl | exact byte1 _) rfl ?_ | ((first | refine AOps.splitT rfl rfl rfl asm (fun h => ?_) | refine AOps.splitF rfl rfl rfl asm (fun h => ?_) | refine AOps.split rfl rfl rfl (fun h => ?_) (fun h => ?_)) <;> (fail_if_success (cases h; done)) <;> rw [h]))
        all_goals rfl
  have c2 : (((i : Nat) : Int) == 0) = false := by simpa using hi0
  have hB : (IntKind.i64.wrap ((b.toNat : Nat) : Int)).tmod 128 = ((b.toNat % 128 : Nat) : Int) := by rw [hwb]; exact tmod_nat b.toNat 128
  have hm : b.toNat % 128 < 128 := Nat.mod_lt _ (by omega)
  have hmul : b.toNat % 128 * wt i ≤ 128 * 36028797018963968 := Nat.mul_le_mul (by omega) hwl
  have hvv : val ((c :: s0).take (i + 1)) = val ((c :: s0).take i) + b.toNat % 128 * wt i := by
    rw [htk]
    rw [val_snoc _ _ (by intro h; rw [h] at hll; simp at hll; omega), hll]
  have hE : (IntKind.i64.wrap (((val ((c :: s0).take i) : Nat) : Int) + IntKind.i64.wrap ((IntKind.i64.wrap ((b.toNat : Nat) : Int)).tmod 128 * ((wt i : Nat) : Int)))) = ((val ((c :: s0).take (i + 1)) : Nat) : Int) := by
    rw [hB, hvv, show (((b.toNat % 128 : Nat) : Int) * ((wt i : Nat) : Int)) = ((b.toNat % 128 * wt i : Nat) : Int) from (Int.natCast_mul _ _).symm]
    generalize b.toNat % 128 * wt i = q at *
    rw [w64 (n := (q : Int)) (by omega) (by omega), w64 (by omega) (by omega)]; omega
  have hvb : val ((c :: s0).take (i + 1)) ≤ 5000000000000000000 := by rw [hvv]; omega
  have hK : IntKind.i64.wrap (((wt i : Nat) : Int) * 128) = ((wt (i + 1) : Nat) : Int) := by rw [wt_succ i (by omega), w64 (by omega) (by omega)]; omega
  by_cases hi8 : i = 8
  · have c3 : (((i : Nat) : Int) == 8) = true := by simp; omega
    by_cases hbig : 63 < b.toNat % 128
    · have c4 : decide ((IntKind.i64.wrap ((b.toNat : Nat) : Int)).tmod 128 > 63) = true := decide_eq_true (by rw [hB]; omega)
      have hn := nOf_big hsp hgo (by omega) hbig
      rw [hn]
      clear ih hn
      repeat' (first | refine st ?_ | (refine AK.condS rfl (fun h => ?_) (fun h => ?_) <;> first | (cases h; done) | rw [h] | skip) | refine uQ hf rfl rfl ?_ | refine uI rfl (i) rfl (hrow) rfl ?_ | (first | refine AOps.quo Try.hX kn rfl rfl rfl rfl rfl rfl rfl ((by decide)) ?_ | refine AOps.rem Try.hX kn rfl rfl rfl rfl rfl rfl rfl ((by decide)) ?_) | refine AOps.toStr Try.hX kn rfl rfl rfl rfl rfl rfl rfl rfl rfl rfl rfl (by first | exact rfl | exact byte1 _) rfl ?_ | ((first | refine AOps.splitT rfl rfl rfl asm (fun h => ?_) | refine AOps.splitF rfl rfl rfl asm (fun h => ?_) | refine AOps.split rfl rfl rfl (fun h => ?_) (fun h => ?_)) <;> (fail_if_success (cases h; done)) <;> rw [h]))
      all_goals rfl
    have c4 : decide ((IntKind.i64.wrap ((b.toNat : Nat) : Int)).tmod 128 > 63) = false := decide_eq_false (by rw [hB]; omega)
    by_cases hgb : b.toNat < 128
    rotate_left
    · have c5 : decide (((b.toNat : Nat) : Int) < 128) = false := decide_eq_false (by omega)
      repeat' (first | refine st ?_ | (refine AK.condS rfl (fun h => ?_) (fun h => ?_) <;> first | (cases h; done) | rw [h] | skip) | refine uQ hf rfl rfl ?_ | refine uI rfl (i) rfl (hrow) rfl ?_ | (first | refine AOps.quo Try.hX kn rfl rfl rfl rfl rfl rfl rfl ((by decide)) ?_ | refine AOps.rem Try.hX kn rfl rfl rfl rfl rfl rfl rfl ((by decide)) ?_) | refine AOps.toStr Try.hX kn rfl rfl rfl rfl rfl rfl rfl rfl rfl rfl rfl (by first | exact rfl | exact byte1 _) rfl ?_ | ((first | refine AOps.splitT rfl rfl rfl asm (fun h => ?_) | refine AOps.splitF rfl rfl rfl asm (fun h => ?_) | refine AOps.split rfl rfl rfl (fun h => ?_) (fun h => ?_)) <;> (fail_if_success (cases h; done)) <;> rw [h]))
      exact AK.again (ih (i + 1) ⟨by omega, by omega, by rw [htk]; exact goB_snoc hgo (by omega)⟩ (by omega)) ⟨.inl (succ64 (by omega)), .inl rfl, .inl rfl, .inl rfl, .inl (congrArg (fun z => some (AV.c (CV.int .i64 z))) hE), .inl (congrArg (fun z => some (AV.c (CV.int .i64 z))) hK), trivial⟩ trivial trivial rfl rfl rfl
    have c5 : decide (((b.toNat : Nat) : Int) < 128) = true := decide_eq_true (by omega)
    clear ih
    by_cases hsg : c.toNat / 64 % 2 = 1
    · have c6 : (IntKind.u8.wrap (((BitVec.ofInt IntKind.u8.bits ((c.toNat : Nat) : Int)) &&& (BitVec.ofInt IntKind.u8.bits 64)).toNat) != 0) = true := Eq.trans hand (by simp [hsg])
      have hE2 : (IntKind.i64.wrap (0 - (IntKind.i64.wrap (((val ((c :: s0).take i) : Nat) : Int) + IntKind.i64.wrap ((IntKind.i64.wrap ((b.toNat : Nat) : Int)).tmod 128 * ((wt i : Nat) : Int)))))) = (-((val ((c :: s0).take (i + 1)) : Nat) : Int)) := by rw [hE, w64 (by omega) (by omega)]; omega
      have hn := nOf_end hsp hgo hgb (n := (-((val ((c :: s0).take (i + 1)) : Nat) : Int))) (by rw [hneg, htk]; simp [hsg])
      have hI := rIn_calls (-((val ((c :: s0).take (i + 1)) : Nat) : Int)) (by constructor <;> omega)
      rw [← hE2] at hI
      by_cases hin : -maxI ≤ (-((val ((c :: s0).take (i + 1)) : Nat) : Int)) ∧ (-((val ((c :: s0).take (i + 1)) : Nat) : Int)) ≤ maxI
      rotate_left
      · rw [if_neg (fun h => hin h.1)] at hn
        rw [hE2, nIn_dec', decide_eq_false hin] at hI
        rw [← hE2] at hI
        rw [hn]
        repeat' (first | refine st ?_ | (refine AK.condS rfl (fun h => ?_) (fun h => ?_) <;> first | (cases h; done) | rw [h] | skip) | refine uQ hf rfl rfl ?_ | refine uI rfl (i) rfl (hrow) rfl ?_ | (first | refine AOps.quo Try.hX kn rfl rfl rfl rfl rfl rfl rfl ((by decide)) ?_ | refine AOps.rem Try.hX kn rfl rfl rfl rfl rfl rfl rfl ((by decide)) ?_) | refine uC rfl hI ?_ | refine AOps.toStr Try.hX kn rfl rfl rfl rfl rfl rfl rfl rfl rfl rfl rfl (by first | exact rfl | exact byte1 _) rfl ?_ | ((first | refine AOps.splitT rfl rfl rfl asm (fun h => ?_) | refine AOps.splitF rfl rfl rfl asm (fun h => ?_) | refine AOps.split rfl rfl rfl (fun h => ?_) (fun h => ?_)) <;> (fail_if_success (cases h; done)) <;> rw [h]))
        all_goals rfl
      have hT := numberText_calls (-((val ((c :: s0).take (i + 1)) : Nat) : Int)) hin.1 hin.2
      rw [hE2, nIn_dec', decide_eq_true hin] at hI
      rw [← hE2] at hI hT
      rw [hE2] at hT
      by_cases heq : numB (-((val ((c :: s0).take (i + 1)) : Nat) : Int)) = (c :: s0).take i ++ [b]
      · rw [if_pos ⟨hin, heq⟩] at hn
        rw [heq] at hT
        rw [← hE2] at hT
        rw [hn]
        have c7 : (!((c :: s0).take i ++ [b] == (c :: s0).take i ++ [b])) = false := by simp
        repeat' (first | refine st ?_ | (refine AK.condS rfl (fun h => ?_) (fun h => ?_) <;> first | (cases h; done) | rw [h] | skip) | refine uQ hf rfl rfl ?_ | refine uI rfl (i) rfl (hrow) rfl ?_ | (first | refine AOps.quo Try.hX kn rfl rfl rfl rfl rfl rfl rfl ((by decide)) ?_ | refine AOps.rem Try.hX kn rfl rfl rfl rfl rfl rfl rfl ((by decide)) ?_) | refine uC rfl hI ?_ | refine uC rfl hT ?_ | (refine AOps.sliceStr Try.hX kn rfl rfl rfl rfl rfl rfl (l := none) (h := some (i + 1)) rfl (bound_of rfl (i + 1) hwi) (show i + 1 ≤ (c :: s0).length from by omega) (Nat.zero_le _) ?_; rw [show List.drop (Option.getD none 0) (List.take (Option.getD (some (i + 1)) (c :: s0).length) (c :: s0)) = (c :: s0).take i ++ [b] from htk]) | refine AOps.toStr Try.hX kn rfl rfl rfl rfl rfl rfl rfl rfl rfl rfl rfl (by first | exact rfl | exact byte1 _) rfl ?_ | ((first | refine AOps.splitT rfl rfl rfl asm (fun h => ?_) | refine AOps.splitF rfl rfl rfl asm (fun h => ?_) | refine AOps.split rfl rfl rfl (fun h => ?_) (fun h => ?_)) <;> (fail_if_success (cases h; done)) <;> rw [h]))
        all_goals
          refine tup2 (b := IntKind.i64.wrap (((i : Nat) : Int) + 1)) (b' := ((((c :: s0).take i).length : Nat) : Int) + 1) hE2 ?_
          rw [hwi, hll]; simp
      · rw [if_neg (fun h => heq h.2)] at hn
        have c7 : (!(numB (-((val ((c :: s0).take (i + 1)) : Nat) : Int)) == (c :: s0).take i ++ [b])) = true := by simpa using heq
        rw [hn]
        generalize numB (-((val ((c :: s0).take (i + 1)) : Nat) : Int)) = tx at hT c7
        rw [← hE2] at hT
        repeat' (first | refine st ?_ | (refine AK.condS rfl (fun h => ?_) (fun h => ?_) <;> first | (cases h; done) | rw [h] | skip) | refine uQ hf rfl rfl ?_ | refine uI rfl (i) rfl (hrow) rfl ?_ | (first | refine AOps.quo Try.hX kn rfl rfl rfl rfl rfl rfl rfl ((by decide)) ?_ | refine AOps.rem Try.hX kn rfl rfl rfl rfl rfl rfl rfl ((by decide)) ?_) | refine uC rfl hI ?_ | refine uC rfl hT ?_ | (refine AOps.sliceStr Try.hX kn rfl rfl rfl rfl rfl rfl (l := none) (h := some (i + 1)) rfl (bound_of rfl (i + 1) hwi) (show i + 1 ≤ (c :: s0).length from by omega) (Nat.zero_le _) ?_; rw [show List.drop (Option.getD none 0) (List.take (Option.getD (some (i + 1)) (c :: s0).length) (c :: s0)) = (c :: s0).take i ++ [b] from htk]) | refine AOps.toStr Try.hX kn rfl rfl rfl rfl rfl rfl rfl rfl rfl rfl rfl (by first | exact rfl | exact byte1 _) rfl ?_ | ((first | refine AOps.splitT rfl rfl rfl asm (fun h => ?_) | refine AOps.splitF rfl rfl rfl asm (fun h => ?_) | refine AOps.split rfl rfl rfl (fun h => ?_) (fun h => ?_)) <;> (fail_if_success (cases h; done)) <;> rw [h]))
        all_goals rfl
    · have c6 : (IntKind.u8.wrap (((BitVec.ofInt IntKind.u8.bits ((c.toNat : Nat) : Int)) &&& (BitVec.ofInt IntKind.u8.bits 64)).toNat) != 0) = false := Eq.trans hand (by simp [hsg])
      have hE2 : (IntKind.i64.wrap (((val ((c :: s0).take i) : Nat) : Int) + IntKind.i64.wrap ((IntKind.i64.wrap ((b.toNat : Nat) : Int)).tmod 128 * ((wt i : Nat) : Int)))) = ((val ((c :: s0).take (i + 1)) : Nat) : Int) := hE
      have hn := nOf_end hsp hgo hgb (n := ((val ((c :: s0).take (i + 1)) : Nat) : Int)) (by rw [hneg, htk]; simp [hsg])
      have hI := rIn_calls ((val ((c :: s0).take (i + 1)) : Nat) : Int) (by constructor <;> omega)
      rw [← hE2] at hI
      by_cases hin : -maxI ≤ ((val ((c :: s0).take (i + 1)) : Nat) : Int) ∧ ((val ((c :: s0).take (i + 1)) : Nat) : Int) ≤ maxI
      rotate_left
      · rw [if_neg (fun h => hin h.1)] at hn
        rw [hE2, nIn_dec', decide_eq_false hin] at hI
        rw [← hE2] at hI
        rw [hn]
        repeat' (first | refine st ?_ | (refine AK.condS rfl (fun h => ?_) (fun h => ?_) <;> first | (cases h; done) | rw [h] | skip) | refine uQ hf rfl rfl ?_ | refine uI rfl (i) rfl (hrow) rfl ?_ | (first | refine AOps.quo Try.hX kn rfl rfl rfl rfl rfl rfl rfl ((by decide)) ?_ | refine AOps.rem Try.hX kn rfl rfl rfl rfl rfl rfl rfl ((by decide)) ?_) | refine uC rfl hI ?_ | refine AOps.toStr Try.hX kn rfl rfl rfl rfl rfl rfl rfl rfl rfl rfl rfl (by first | exact rfl | exact byte1 _) rfl ?_ | ((first | refine AOps.splitT rfl rfl rfl asm (fun h => ?_) | refine AOps.splitF rfl rfl rfl asm (fun h => ?_) | refine AOps.split rfl rfl rfl (fun h => ?_) (fun h => ?_)) <;> (fail_if_success (cases h; done)) <;> rw [h]))
        all_goals rfl
      have hT := numberText_calls ((val ((c :: s0).take (i + 1)) : Nat) : Int) hin.1 hin.2
      rw [hE2, nIn_dec', decide_eq_true hin] at hI
      rw [← hE2] at hI hT
      rw [hE2] at hT
      by_cases heq : numB ((val ((c :: s0).take (i + 1)) : Nat) : Int) = (c :: s0).take i ++ [b]
      · rw [if_pos ⟨hin, heq⟩] at hn
        rw [heq] at hT
        rw [← hE2] at hT
        rw [hn]
        have c7 : (!((c :: s0).take i ++ [b] == (c :: s0).take i ++ [b])) = false := by simp
        repeat' (first | refine st ?_ | (refine AK.condS rfl (fun h => ?_) (fun h => ?_) <;> first | (cases h; done) | rw [h] | skip) | refine uQ hf rfl rfl ?_ | refine uI rfl (i) rfl (hrow) rfl ?_ | (first | refine AOps.quo Try.hX kn rfl rfl rfl rfl rfl rfl rfl ((by decide)) ?_ | refine AOps.rem Try.hX kn rfl rfl rfl rfl rfl rfl rfl ((by decide)) ?_) | refine uC rfl hI ?_ | refine uC rfl hT ?_ | (refine AOps.sliceStr Try.hX kn rfl rfl rfl rfl rfl rfl (l := none) (h := some (i + 1)) rfl (bound_of rfl (i + 1) hwi) (show i + 1 ≤ (c :: s0).length from by omega) (Nat.zero_le _) ?_; rw [show List.drop (Option.getD none 0) (List.take (Option.getD (some (i + 1)) (c :: s0).length) (c :: s0)) = (c :: s0).take i ++ [b] from htk]) | refine AOps.toStr Try.hX kn rfl rfl rfl rfl rfl rfl rfl rfl rfl rfl rfl (by first | exact rfl | exact byte1 _) rfl ?_ | ((first | refine AOps.splitT rfl rfl rfl asm (fun h => ?_) | refine AOps.splitF rfl rfl rfl asm (fun h => ?_) | refine AOps.split rfl rfl rfl (fun h => ?_) (fun h => ?_)) <;> (fail_if_success (cases h; done)) <;> rw [h]))
        all_goals
          refine tup2 (b := IntKind.i64.wrap (((i : Nat) : Int) + 1)) (b' := ((((c :: s0).take i).length : Nat) : Int) + 1) hE2 ?_
          rw [hwi, hll]; simp
      · rw [if_neg (fun h => heq h.2)] at hn
        have c7 : (!(numB ((val ((c :: s0).take (i + 1)) : Nat) : Int) == (c :: s0).take i ++ [b])) = true := by simpa using heq
        rw [hn]
        generalize numB ((val ((c :: s0).take (i + 1)) : Nat) : Int) = tx at hT c7
        rw [← hE2] at hT
        repeat' (first | refine st ?_ | (refine AK.condS rfl (fun h => ?_) (fun h => ?_) <;> first | (cases h; done) | rw [h] | skip) | refine uQ hf rfl rfl ?_ | refine uI rfl (i) rfl (hrow) rfl ?_ | (first | refine AOps.quo Try.hX kn rfl rfl rfl rfl rfl rfl rfl ((by decide)) ?_ | refine AOps.rem Try.hX kn rfl rfl rfl rfl rfl rfl rfl ((by decide)) ?_) | refine uC rfl hI ?_ | refine uC rfl hT ?_ | (refine AOps.sliceStr Try.hX kn rfl rfl rfl rfl rfl rfl (l := none) (h := some (i + 1)) rfl (bound_of rfl (i + 1) hwi) (show i + 1 ≤ (c :: s0).length from by omega) (Nat.zero_le _) ?_; rw [show List.drop (Option.getD none 0) (List.take (Option.getD (some (i + 1)) (c :: s0).length) (c :: s0)) = (c :: s0).take i ++ [b] from htk]) | refine AOps.toStr Try.hX kn rfl rfl rfl rfl rfl rfl rfl rfl rfl rfl rfl (by first | exact rfl | exact byte1 _) rfl ?_ | ((first | refine AOps.splitT rfl rfl rfl asm (fun h => ?_) | refine AOps.splitF rfl rfl rfl asm (fun h => ?_) | refine AOps.split rfl rfl rfl (fun h => ?_) (fun h => ?_)) <;> (fail_if_success (cases h; done)) <;> rw [h]))
        all_goals rfl
  have c3 : (((i : Nat) : Int) == 8) = false := by simp; omega
  by_cases hgb : b.toNat < 128
  rotate_left
  · have c5 : decide (((b.toNat : Nat) : Int) < 128) = false := decide_eq_false (by omega)
    repeat' (first | refine st ?_ | (refine AK.condS rfl (fun h => ?_) (fun h => ?_) <;> first | (cases h; done) | rw [h] | skip) | refine uQ hf rfl rfl ?_ | refine uI rfl (i) rfl (hrow) rfl ?_ | (first | refine AOps.quo Try.hX kn rfl rfl rfl rfl rfl rfl rfl ((by decide)) ?_ | refine AOps.rem Try.hX kn rfl rfl rfl rfl rfl rfl rfl ((by decide)) ?_) | refine AOps.toStr Try.hX kn rfl rfl rfl rfl rfl rfl rfl rfl rfl rfl rfl (by first | exact rfl | exact byte1 _) rfl ?_ | ((first | refine AOps.splitT rfl rfl rfl asm (fun h => ?_) | refine AOps.splitF rfl rfl rfl asm (fun h => ?_) | refine AOps.split rfl rfl rfl (fun h => ?_) (fun h => ?_)) <;> (fail_if_success (cases h; done)) <;> rw [h]))
    exact AK.again (ih (i + 1) ⟨by omega, by omega, by rw [htk]; exact goB_snoc hgo (by omega)⟩ (by omega)) ⟨.inl (succ64 (by omega)), .inl rfl, .inl rfl, .inl rfl, .inl (congrArg (fun z => some (AV.c (CV.int .i64 z))) hE), .inl (congrArg (fun z => some (AV.c (CV.int .i64 z))) hK), trivial⟩ trivial trivial rfl rfl rfl
  have c5 : decide (((b.toNat : Nat) : Int) < 128) = true := decide_eq_true (by omega)
  clear ih
  by_cases hsg : c.toNat / 64 % 2 = 1
  · have c6 : (IntKind.u8.wrap (((BitVec.ofInt IntKind.u8.bits ((c.toNat : Nat) : Int)) &&& (BitVec.ofInt IntKind.u8.bits 64)).toNat) != 0) = true := Eq.trans hand (by simp [hsg])
    have hE2 : (IntKind.i64.wrap (0 - (IntKind.i64.wrap (((val ((c :: s0).take i) : Nat) : Int) + IntKind.i64.wrap ((IntKind.i64.wrap ((b.toNat : Nat) : Int)).tmod 128 * ((wt i : Nat) : Int)))))) = (-((val ((c :: s0).take (i + 1)) : Nat) : Int)) := by rw [hE, w64 (by omega) (by omega)]; omega
    have hn := nOf_end hsp hgo hgb (n := (-((val ((c :: s0).take (i + 1)) : Nat) : Int))) (by rw [hneg, htk]; simp [hsg])
    have hI := rIn_calls (-((val ((c :: s0).take (i + 1)) : Nat) : Int)) (by constructor <;> omega)
    rw [← hE2] at hI
    by_cases hin : -maxI ≤ (-((val ((c :: s0).take (i + 1)) : Nat) : Int)) ∧ (-((val ((c :: s0).take (i + 1)) : Nat) : Int)) ≤ maxI
    rotate_left
    · rw [if_neg (fun h => hin h.1)] at hn
      rw [hE2, nIn_dec', decide_eq_false hin] at hI
      rw [← hE2] at hI
      rw [hn]
      repeat' (first | refine st ?_ | (refine AK.condS rfl (fun h => ?_) (fun h => ?_) <;> first | (cases h; done) | rw [h] | skip) | refine uQ hf rfl rfl ?_ | refine uI rfl (i) rfl (hrow) rfl ?_ | (first | refine AOps.quo Try.hX kn rfl rfl rfl rfl rfl rfl rfl ((by decide)) ?_ | refine AOps.rem Try.hX kn rfl rfl rfl rfl rfl rfl rfl ((by decide)) ?_) | refine uC rfl hI ?_ | refine AOps.toStr Try.hX kn rfl rfl rfl rfl rfl rfl rfl rfl rfl rfl rfl (by first | exact rfl | exact byte1 _) rfl ?_ | ((first | refine AOps.splitT rfl rfl rfl asm (fun h => ?_) | refine AOps.splitF rfl rfl rfl asm (fun h => ?_) | refine AOps.split rfl rfl rfl (fun h => ?_) (fun h => ?_)) <;> (fail_if_success (cases h; done)) <;> rw [h]))
      all_goals rfl
    have hT := numberText_calls (-((val ((c :: s0).take (i + 1)) : Nat) : Int)) hin.1 hin.2
    rw [hE2, nIn_dec', decide_eq_true hin] at hI
    rw [← hE2] at hI hT
    rw [hE2] at hT
    by_cases heq : numB (-((val ((c :: s0).take (i + 1)) : Nat) : Int)) = (c :: s0).take i ++ [b]
    · rw [if_pos ⟨hin, heq⟩] at hn
      rw [heq] at hT
      rw [← hE2] at hT
      rw [hn]
      have c7 : (!((c :: s0).take i ++ [b] == (c :: s0).take i ++ [b])) = false := by simp
      repeat' (first | refine st ?_ | (refine AK.condS rfl (fun h => ?_) (fun h => ?_) <;> first | (cases h; done) | rw [h] | skip) | refine uQ hf rfl rfl ?_ | refine uI rfl (i) rfl (hrow) rfl ?_ | (first | refine AOps.quo Try.hX kn rfl rfl rfl rfl rfl rfl rfl ((by decide)) ?_ | refine AOps.rem Try.hX kn rfl rfl rfl rfl rfl rfl rfl ((by decide)) ?_) | refine uC rfl hI ?_ | refine uC rfl hT ?_ | (refine AOps.sliceStr Try.hX kn rfl rfl rfl rfl rfl rfl (l := none) (h := some (i + 1)) rfl (bound_of rfl (i + 1) hwi) (show i + 1 ≤ (c :: s0).length from by omega) (Nat.zero_le _) ?_; rw [show List.drop (Option.getD none 0) (List.take (Option.getD (some (i + 1)) (c :: s0).length) (c :: s0)) = (c :: s0).take i ++ [b] from htk]) | refine AOps.toStr Try.hX kn rfl rfl rfl rfl rfl rfl rfl rfl rfl rfl rfl (by first | exact rfl | exact byte1 _) rfl ?_ | ((first | refine AOps.splitT rfl rfl rfl asm (fun h => ?_) | refine AOps.splitF rfl rfl rfl asm (fun h => ?_) | refine AOps.split rfl rfl rfl (fun h => ?_) (fun h => ?_)) <;> (fail_if_success (cases h; done)) <;> rw [h]))
      all_goals
        refine tup2 (b := IntKind.i64.wrap (((i : Nat) : Int) + 1)) (b' := ((((c :: s0).take i).length : Nat) : Int) + 1) hE2 ?_
        rw [hwi, hll]; simp
    · rw [if_neg (fun h => heq h.2)] at hn
      have c7 : (!(numB (-((val ((c :: s0).take (i + 1)) : Nat) : Int)) == (c :: s0).take i ++ [b])) = true := by simpa using heq
      rw [hn]
      generalize numB (-((val ((c :: s0).take (i + 1)) : Nat) : Int)) = tx at hT c7
      rw [← hE2] at hT
      repeat' (first | refine st ?_ | (refine AK.condS rfl (fun h => ?_) (fun h => ?_) <;> first | (cases h; done) | rw [h] | skip) | refine uQ hf rfl rfl ?_ | refine uI rfl (i) rfl (hrow) rfl ?_ | (first | refine AOps.quo Try.hX kn rfl rfl rfl rfl rfl rfl rfl ((by decide)) ?_ | refine AOps.rem Try.hX kn rfl rfl rfl rfl rfl rfl rfl ((by decide)) ?_) | refine uC rfl hI ?_ | refine uC rfl hT ?_ | (refine AOps.sliceStr Try.hX kn rfl rfl rfl rfl rfl rfl (l := none) (h := some (i + 1)) rfl (bound_of rfl (i + 1) hwi) (show i + 1 ≤ (c :: s0).length from by omega) (Nat.zero_le _) ?_; rw [show List.drop (Option.getD none 0) (List.take (Option.getD (some (i + 1)) (c :: s0).length) (c :: s0)) = (c :: s0).take i ++ [b] from htk]) | refine AOps.toStr Try.hX kn rfl rfl rfl rfl rfl rfl rfl rfl rfl rfl rfl (by first | exact rfl | exact byte1 _) rfl ?_ | ((first | refine AOps.splitT rfl rfl rfl asm (fun h => ?_) | refine AOps.splitF rfl rfl rfl asm (fun h => ?_) | refine AOps.split rfl rfl rfl (fun h => ?_) (fun h => ?_)) <;> (fail_if_success (cases h; done)) <;> rw [h]))
      all_goals rfl
  · have c6 : (IntKind.u8.wrap (((BitVec.ofInt IntKind.u8.bits ((c.toNat : Nat) : Int)) &&& (BitVec.ofInt IntKind.u8.bits 64)).toNat) != 0) = false := Eq.trans hand (by simp [hsg])
    have hE2 : (IntKind.i64.wrap (((val ((c :: s0).take i) : Nat) : Int) + IntKind.i64.wrap ((IntKind.i64.wrap ((b.toNat : Nat) : Int)).tmod 128 * ((wt i : Nat) : Int)))) = ((val ((c :: s0).take (i + 1)) : Nat) : Int) := hE
    have hn := nOf_end hsp hgo hgb (n := ((val ((c :: s0).take (i + 1)) : Nat) : Int)) (by rw [hneg, htk]; simp [hsg])
    have hI := rIn_calls ((val ((c :: s0).take (i + 1)) : Nat) : Int) (by constructor <;> omega)
    rw [← hE2] at hI
    by_cases hin : -maxI ≤ ((val ((c :: s0).take (i + 1)) : Nat) : Int) ∧ ((val ((c :: s0).take (i + 1)) : Nat) : Int) ≤ maxI
    rotate_left
    · rw [if_neg (fun h => hin h.1)] at hn
      rw [hE2, nIn_dec', decide_eq_false hin] at hI
      rw [← hE2] at hI
      rw [hn]
      repeat' (first | refine st ?_ | (refine AK.condS rfl (fun h => ?_) (fun h => ?_) <;> first | (cases h; done) | rw [h] | skip) | refine uQ hf rfl rfl ?_ | refine uI rfl (i) rfl (hrow) rfl ?_ | (first | refine AOps.quo Try.hX kn rfl rfl rfl rfl rfl rfl rfl ((by decide)) ?_ | refine AOps.rem Try.hX kn rfl rfl rfl rfl rfl rfl rfl ((by decide)) ?_) | refine uC rfl hI ?_ | refine AOps.toStr Try.hX kn rfl rfl rfl rfl rfl rfl rfl rfl rfl rfl rfl (by first | exact rfl | exact byte1 _) rfl ?_ | ((first | refine AOps.splitT rfl rfl rfl asm (fun h => ?_) | refine AOps.splitF rfl rfl rfl asm (fun h => ?_) | refine AOps.split rfl rfl rfl (fun h => ?_) (fun h => ?_)) <;> (fail_if_success (cases h; done)) <;> rw [h]))
      all_goals rfl
    have hT := numberText_calls ((val ((c :: s0).take (i + 1)) : Nat) : Int) hin.1 hin.2
    rw [hE2, nIn_dec', decide_eq_true hin] at hI
    rw [← hE2] at hI hT
    rw [hE2] at hT
    by_cases heq : numB ((val ((c :: s0).take (i + 1)) : Nat) : Int) = (c :: s0).take i ++ [b]
    · rw [if_pos ⟨hin, heq⟩] at hn
      rw [heq] at hT
      rw [← hE2] at hT
      rw [hn]
      have c7 : (!((c :: s0).take i ++ [b] == (c :: s0).take i ++ [b])) = false := by simp
      repeat' (first | refine st ?_ | (refine AK.condS rfl (fun h => ?_) (fun h => ?_) <;> first | (cases h; done) | rw [h] | skip) | refine uQ hf rfl rfl ?_ | refine uI rfl (i) rfl (hrow) rfl ?_ | (first | refine AOps.quo Try.hX kn rfl rfl rfl rfl rfl rfl rfl ((by decide)) ?_ | refine AOps.rem Try.hX kn rfl rfl rfl rfl rfl rfl rfl ((by decide)) ?_) | refine uC rfl hI ?_ | refine uC rfl hT ?_ | (refine AOps.sliceStr Try.hX kn rfl rfl rfl rfl rfl rfl (l := none) (h := some (i + 1)) rfl (bound_of rfl (i + 1) hwi) (show i + 1 ≤ (c :: s0).length from by omega) (Nat.zero_le _) ?_; rw [show List.drop (Option.getD none 0) (List.take (Option.getD (some (i + 1)) (c :: s0).length) (c :: s0)) = (c :: s0).take i ++ [b] from htk]) | refine AOps.toStr Try.hX kn rfl rfl rfl rfl rfl rfl rfl rfl rfl rfl rfl (by first | exact rfl | exact byte1 _) rfl ?_ | ((first | refine AOps.splitT rfl rfl rfl asm (fun h => ?_) | refine AOps.splitF rfl rfl rfl asm (fun h => ?_) | refine AOps.split rfl rfl rfl (fun h => ?_) (fun h => ?_)) <;> (fail_if_success (cases h; done)) <;> rw [h]))
      all_goals
        refine tup2 (b := IntKind.i64.wrap (((i : Nat) : Int) + 1)) (b' := ((((c :: s0).take i).length : Nat) : Int) + 1) hE2 ?_
        rw [hwi, hll]; simp
    · rw [if_neg (fun h => heq h.2)] at hn
      have c7 : (!(numB ((val ((c :: s0).take (i + 1)) : Nat) : Int) == (c :: s0).take i ++ [b])) = true := by simpa using heq
      rw [hn]
      generalize numB ((val ((c :: s0).take (i + 1)) : Nat) : Int) = tx at hT c7
      rw [← hE2] at hT
      repeat' (first | refine st ?_ | (refine AK.condS rfl (fun h => ?_) (fun h => ?_) <;> first | (cases h; done) | rw [h] | skip) | refine uQ hf rfl rfl ?_ | refine uI rfl (i) rfl (hrow) rfl ?_ | (first | refine AOps.quo Try.hX kn rfl rfl rfl rfl rfl rfl rfl ((by decide)) ?_ | refine AOps.rem Try.hX kn rfl rfl rfl rfl rfl rfl rfl ((by decide)) ?_) | refine uC rfl hI ?_ | refine uC rfl hT ?_ | (refine AOps.sliceStr Try.hX kn rfl rfl rfl rfl rfl rfl (l := none) (h := some (i + 1)) rfl (bound_of rfl (i + 1) hwi) (show i + 1 ≤ (c :: s0).length from by omega) (Nat.zero_le _) ?_; rw [show List.drop (Option.getD none 0) (List.take (Option.getD (some (i + 1)) (c :: s0).length) (c :: s0)) = (c :: s0).take i ++ [b] from htk]) | refine AOps.toStr Try.hX kn rfl rfl rfl rfl rfl rfl rfl rfl rfl rfl rfl (by first | exact rfl | exact byte1 _) rfl ?_ | ((first | refine AOps.splitT rfl rfl rfl asm (fun h => ?_) | refine AOps.splitF rfl rfl rfl asm (fun h => ?_) | refine AOps.split rfl rfl rfl (fun h => ?_) (fun h => ?_)) <;> (fail_if_success (cases h; done)) <;> rw [h]))
      all_goals rfl
end Go.Proofs

-- WIDE
set_option linter.unusedVariables false
set_option linter.unusedSimpArgs false
namespace Go.Proofs
open Go.Abs
theorem deeps_snoc (l : List (Nd × Int)) (x : Nd × Int) : encDeeps l ++ [encDeep x] = encDeeps (l ++ [x]) := by rw [deeps_append]; rfl
theorem okAL_rows (us : List Nat) : ∀ (l : List CV), okAL us (rowCells l) = true := by
  intro l
  unfold rowCells
  generalize flatC l = m
  induction m with
  | nil => rfl
  | cons a m ih => simp only [List.map_cons, okAL, okA]; exact ih
theorem okAL_append (us : List Nat) : ∀ (a b : List AV), okAL us a = true → okAL us b = true → okAL us (a ++ b) = true
  | [], b, _, h => h
  | x :: a, b, h, h' => by
    simp only [List.cons_append, okAL] at h ⊢
    split at h
    · exact okAL_append us a b h h'
    · exact absurd h (by decide)
theorem okAL_rows2 (us : List Nat) (a b : List CV) : okAL us (rowCells a ++ rowCells b) = true := okAL_append us _ _ (okAL_rows us a) (okAL_rows us b)
theorem okB_cons {us : List Nat} {k : Nat} {a : List AV} {l : List (Nat × List AV)} (h1 : mem k us = true) (h2 : okAL us a = true) (h3 : okB us l = true) : okB us ((k, a) :: l) = true := by
  simp only [okB, h1, h2]; exact h3
theorem convL_of {ρ : Ren} {ts : List (Nat × Nat)} {a b : List CV} (h : rowCells a = rowCells b) : ConvL ρ ts (rowCells b) (rowCells a) := by rw [h]; exact convL_c ρ ts _
theorem convL_nil {ρ : Ren} {ts : List (Nat × Nat)} (a : List CV) : ConvL ρ ts (rowCells a ++ []) (rowCells a) := by rw [List.append_nil]; exact convL_c ρ ts _
theorem bls_at {l r : List (Nd × Int)} {x : Nd × Int} : (l ++ x :: r)[l.length]? = some x := by simp
attribute [local irreducible] AK AOps QCalls ECalls wrong wrongs wl cnt tGoodN nIn primP encDeeps many manys

set_option maxHeartbeats 0 in
theorem GoodNode_calls (n : Nd) (hw : ndWf n) (hn : ndSize n ≤ 1048577) : QCalls Try.prog Try.X 45 [encNd n] (.int .i64 (tGoodN n)) := by
  have hmn := many_size n
  have hW0 : wrong n 1 = wl [(n, 1)] := by unfold wl; unfold wl; split <;> simp_all
  have hC0 : many n = cnt [(n, 1)] := by unfold cnt; unfold cnt; rfl
  have hspec : tGoodN n = if wrong n 1 = 0 then (if 300 < many n then 4 else 0) else wrong n 1 := tGoodN_eq n
  obtain ⟨n1, n2, n3, n4, n5⟩ := n
  have e0 : rowCells [CV.agg [.int .i64 n1, .int .i64 n2, .int .i64 n3, .str n4, .sl 5 (encNds n5), .int .i64 1]] = rowCells (encDeeps ([] ++ [(Nd.mk n1 n2 n3 n4 n5, 1)])) := by unfold encDeeps; rfl
  refine QCalls.of Try.func45 rfl (fun args w => Try.call45 args w) (Nat.le_of_ble_eq_true rfl) [(0, .c (encNd (.mk n1 n2 n3 n4 n5)))] rfl fun β hβ => ?_; have hf := Try.func45
  repeat' (first | refine AOps.buildSliceB Try.hX kn rfl rfl rfl rfl rfl rfl rfl rfl rfl rfl rfl rfl rfl rfl ?_ | refine st ?_ | (refine AK.condS rfl (fun h => ?_) (fun h => ?_) <;> first | (cases h; done) | rw [h] | skip) | refine uQ hf rfl rfl ?_ | (refine uA rfl ?_ ?_ <;> (try (show (_ : Nat) * _ ≤ _; dsimp only))) | ((first | refine AOps.splitT rfl rfl rfl asm (fun h => ?_) | refine AOps.splitF rfl rfl rfl asm (fun h => ?_) | refine AOps.split rfl rfl rfl (fun h => ?_) (fun h => ?_)) <;> (fail_if_success (cases h; done)) <;> rw [h]))
  refine AK.ren [(3000, 11)] [] (env' := [(4, .c (.int .i64 (0 : Nat))), (3, .bsl 3000 0 6 1)])
    (bs' := [(3000, rowCells (encDeeps ([] ++ [(Nd.mk n1 n2 n3 n4 n5, 1)])))]) (ts' := []) (us' := [3000])
    ⟨⟨_, rfl, .inl rfl⟩, ⟨_, rfl, ⟨_, rfl, rfl⟩⟩, trivial⟩ ⟨⟨_, _, rfl, rfl, convL_of e0⟩, trivial⟩ rfl ?_
  refine AK.loopE (α := List (Nd × Int) × List (Nd × Int)) (fun z => wrong (.mk n1 n2 n3 n4 n5) 1 = wl z.2 ∧ many (.mk n1 n2 n3 n4 n5) = z.1.length + cnt z.2 ∧ (∀ x ∈ z.2, ndWf x.1 ∧ ndSize x.1 ≤ 1048577 ∧ 1 ≤ x.2 ∧ x.2 ≤ 25)) (fun z => cnt z.2)
    (fun z => [(4, .c (.int .i64 (z.1.length : Nat))), (3, .bsl 3000 0 6 (z.1 ++ z.2).length)]) (fun z => [(3000, rowCells (encDeeps (z.1 ++ z.2)))]) (fun _ => []) [3000] ([], [(Nd.mk n1 n2 n3 n4 n5, 1)])
    ⟨hW0, by rw [hC0]; simp, by intro x hx; simp at hx; subst hx; exact ⟨hw, hn, by show (1 : Int) ≤ 1; omega, by show (1 : Int) ≤ 25; omega⟩⟩ ⟨.inl rfl, .inl rfl, trivial⟩ ⟨rfl, trivial⟩ trivial rfl (okB_cons rfl (okAL_rows _ _) rfl) rfl ?_
  rintro ⟨done, todo⟩ ⟨hW, hC, hall⟩ ih
  simp only at hW hC hall
  have hcl := cnt_len todo
  cases todo with
  | nil =>
    have hc : decide (((done.length : Nat) : Int) < (((done ++ []).length : Nat) : Int)) = false := decide_eq_false (by simp)
    have h0 : wrong (.mk n1 n2 n3 n4 n5) 1 = 0 := by rw [hW]; unfold wl; rfl
    have h1 : many (.mk n1 n2 n3 n4 n5) = (done ++ []).length := by rw [hC]; unfold cnt; simp
    rw [hspec, if_pos h0, h1]
    clear ih
    by_cases h3 : 300 < (done ++ []).length
    · have e3 : decide ((((done ++ []).length : Nat) : Int) > 300) = true := decide_eq_true (by omega)
      rw [if_pos h3]
      repeat' (first | refine st ?_ | (refine AK.condS rfl (fun h => ?_) (fun h => ?_) <;> first | (cases h; done) | rw [h] | skip) | refine uQ hf rfl rfl ?_ | (refine uA rfl ?_ ?_ <;> (try (show (_ : Nat) * _ ≤ _; dsimp only))) | ((first | refine AOps.splitT rfl rfl rfl asm (fun h => ?_) | refine AOps.splitF rfl rfl rfl asm (fun h => ?_) | refine AOps.split rfl rfl rfl (fun h => ?_) (fun h => ?_)) <;> (fail_if_success (cases h; done)) <;> rw [h]))
      all_goals rfl
    · have e3 : decide ((((done ++ []).length : Nat) : Int) > 300) = false := decide_eq_false (by omega)
      rw [if_neg h3]
      repeat' (first | refine st ?_ | (refine AK.condS rfl (fun h => ?_) (fun h => ?_) <;> first | (cases h; done) | rw [h] | skip) | refine uQ hf rfl rfl ?_ | (refine uA rfl ?_ ?_ <;> (try (show (_ : Nat) * _ ≤ _; dsimp only))) | ((first | refine AOps.splitT rfl rfl rfl asm (fun h => ?_) | refine AOps.splitF rfl rfl rfl asm (fun h => ?_) | refine AOps.split rfl rfl rfl (fun h => ?_) (fun h => ?_)) <;> (fail_if_success (cases h; done)) <;> rw [h]))
      all_goals rfl
  | cons x todo =>
  obtain ⟨⟨kind, nn, p, s, args⟩, d⟩ := x
  obtain ⟨hxw, hxs, hd1, hd2⟩ := hall _ (List.mem_cons_self ..)
  simp only at hxw hxs hd1 hd2
  simp only [ndWf] at hxw
  simp only [ndSize] at hxs
  have hal := ndsSize_len args
  have hll : (done ++ (Nd.mk kind nn p s args, d) :: todo).length = done.length + 1 + todo.length := by simp; omega
  have hbig : done.length + 1 + todo.length ≤ 1048577 := by
    have := hcl; simp only [List.length_cons] at this; omega
  have hc : decide (((done.length : Nat) : Int) < (((done ++ (Nd.mk kind nn p s args, d) :: todo).length : Nat) : Int)) = true := decide_eq_true (by rw [hll]; omega)
  have hlt : done.length < (done ++ (Nd.mk kind nn p s args, d) :: todo).length := by rw [hll]; omega
  have hat := deeps_at (bls_at (l := done) (r := todo) (x := (Nd.mk kind nn p s args, d)))
  have hIn := rIn_calls nn hxw.2.1
  have hbad : ∀ e, e ≠ 0 → wrong1 kind nn p s args.length d = e → tGoodN (.mk n1 n2 n3 n4 n5) = e := by
    intro e he h1
    have h2 := wl_bad (r := todo) h1 he
    rw [hspec, hW, h2, if_neg he]
  by_cases c1 : d > 24
  · have e1 : decide (d > 24) = true := decide_eq_true c1
    rw [hbad 4 (by omega) (by simp only [wrong1, if_pos c1])]
    clear ih
    repeat' (first | refine st ?_ | (refine AK.condS rfl (fun h => ?_) (fun h => ?_) <;> first | (cases h; done) | rw [h] | skip) | refine uQ hf rfl rfl ?_ | refine AOps.indexB Try.hX kn rfl rfl rfl rfl rfl rfl rfl rfl rfl done.length rfl hlt ?_ | refine AOps.loadB Try.hX kn rfl rfl rfl rfl rfl rfl hat rfl ?_ | (refine uA rfl ?_ ?_ <;> (try (show (_ : Nat) * _ ≤ _; dsimp only))) | ((first | refine AOps.splitT rfl rfl rfl asm (fun h => ?_) | refine AOps.splitF rfl rfl rfl asm (fun h => ?_) | refine AOps.split rfl rfl rfl (fun h => ?_) (fun h => ?_)) <;> (fail_if_success (cases h; done)) <;> rw [h]))
    all_goals rfl
  have e1 : decide (d > 24) = false := decide_eq_false c1
  by_cases c2 : kind < 0
  · have e2 : (bif decide (kind < 0) then true else decide (kind > 3)) = true := by rw [decide_eq_true c2]; rfl
    have e3 : decide (kind < 0) = true := decide_eq_true c2
    rw [hbad 3 (by omega) (by simp only [wrong1, if_neg c1, c2, true_or, if_true])]
    clear ih
    repeat' (first | refine st ?_ | (refine AK.condS rfl (fun h => ?_) (fun h => ?_) <;> first | (cases h; done) | rw [h] | skip) | refine uQ hf rfl rfl ?_ | refine AOps.indexB Try.hX kn rfl rfl rfl rfl rfl rfl rfl rfl rfl done.length rfl hlt ?_ | refine AOps.loadB Try.hX kn rfl rfl rfl rfl rfl rfl hat rfl ?_ | refine uC rfl (isPrim_calls p) ?_ | (refine uA rfl ?_ ?_ <;> (try (show (_ : Nat) * _ ≤ _; dsimp only))) | ((first | refine AOps.splitT rfl rfl rfl asm (fun h => ?_) | refine AOps.splitF rfl rfl rfl asm (fun h => ?_) | refine AOps.split rfl rfl rfl (fun h => ?_) (fun h => ?_)) <;> (fail_if_success (cases h; done)) <;> rw [h]))
    all_goals rfl
  by_cases c3 : kind > 3
  · have e2 : (bif decide (kind < 0) then true else decide (kind > 3)) = true := by rw [decide_eq_true c3]; simp
    have e3 : decide (kind < 0) = false := decide_eq_false c2
    have e4 : decide (kind > 3) = true := decide_eq_true c3
    rw [hbad 3 (by omega) (by simp only [wrong1, if_neg c1, c3, true_or, or_true, if_true])]
    clear ih
    repeat' (first | refine st ?_ | (refine AK.condS rfl (fun h => ?_) (fun h => ?_) <;> first | (cases h; done) | rw [h] | skip) | refine uQ hf rfl rfl ?_ | refine AOps.indexB Try.hX kn rfl rfl rfl rfl rfl rfl rfl rfl rfl done.length rfl hlt ?_ | refine AOps.loadB Try.hX kn rfl rfl rfl rfl rfl rfl hat rfl ?_ | refine uC rfl (isPrim_calls p) ?_ | (refine uA rfl ?_ ?_ <;> (try (show (_ : Nat) * _ ≤ _; dsimp only))) | ((first | refine AOps.splitT rfl rfl rfl asm (fun h => ?_) | refine AOps.splitF rfl rfl rfl asm (fun h => ?_) | refine AOps.split rfl rfl rfl (fun h => ?_) (fun h => ?_)) <;> (fail_if_success (cases h; done)) <;> rw [h]))
    all_goals rfl
  have h4 : kind = 0 ∨ kind = 1 ∨ kind = 2 ∨ kind = 3 := by omega
  have hle1 : done.length + 1 ≤ (done ++ (Nd.mk kind nn p s args, d) :: todo).length := by rw [hll]; omega
  have hwi : IntKind.i64.wrap (((done.length : Nat) : Int) + 1) = ((done.length + 1 : Nat) : Int) := by rw [w64 (by omega) (by omega)]; omega
  have hdrop : dropN (0 + (done.length + 1) * 6) (rowCells (encDeeps (done ++ (Nd.mk kind nn p s args, d) :: todo))) = some (rowCells (encDeeps todo) ++ []) := by
    rw [deeps_drop _ _ hle1]
    have : (done ++ (Nd.mk kind nn p s args, d) :: todo).drop (done.length + 1) = todo := by
      rw [← List.drop_drop, List.drop_left]; rfl
    rw [this]
  have hsub : (done ++ (Nd.mk kind nn p s args, d) :: todo).length - (done.length + 1) = (encDeeps todo).length := by rw [hll, deeps_len]; omega
  rcases h4 with rfl | rfl | rfl | rfl
  · skip
    repeat' (first | refine st ?_ | (refine AK.condS rfl (fun h => ?_) (fun h => ?_) <;> first | (cases h; done) | rw [h] | skip) | refine uQ hf rfl rfl ?_ | refine AOps.indexB Try.hX kn rfl rfl rfl rfl rfl rfl rfl rfl rfl done.length rfl hlt ?_ | refine AOps.loadB Try.hX kn rfl rfl rfl rfl rfl rfl hat rfl ?_ | refine uC rfl (isPrim_calls p) ?_ | refine uC rfl hIn ?_ | refine AOps.sliceB Try.hX kn rfl rfl rfl rfl rfl rfl rfl rfl (l := some (done.length + 1)) (h := none) (bound_of rfl (done.length + 1) hwi) rfl (Nat.le_refl _) hle1 ?_ | refine AOps.appendF Try.hX kn rfl rfl rfl rfl rfl rfl rfl rfl rfl rfl rfl rfl rfl rfl (encDeeps todo) [] rfl hdrop hsub (deeps_shape todo) (by rw [deeps_flat, ← deeps_len, ← hsub]; rfl) (deeps_cells todo) rfl rfl (show ((done ++ (Nd.mk 0 nn p s args, d) :: todo).length - (done.length + 1)) * 72 ≤ 140737488355328 by omega) ?_ | refine AOps.sliceB Try.hX kn rfl rfl rfl rfl rfl rfl rfl rfl (l := none) (h := some (done.length + 1)) rfl (bound_of rfl (done.length + 1) hwi) hle1 (Nat.zero_le _) ?_ | (refine uA rfl ?_ ?_ <;> (try (show (_ : Nat) * _ ≤ _; dsimp only))) | ((first | refine AOps.splitT rfl rfl rfl asm (fun h => ?_) | refine AOps.splitF rfl rfl rfl asm (fun h => ?_) | refine AOps.split rfl rfl rfl (fun h => ?_) (fun h => ?_)) <;> (fail_if_success (cases h; done)) <;> rw [h]))
    all_goals first
      | (show (_ : CV) = _
         clear hf ih hIn hat hdrop hsub hall
         refine congrArg (CV.int .i64) ?_
         symm
         refine hbad _ (by omega) ?_
         clear hbad
         try simp only [encNds_length] at *
         unfold wrong1 maxI
         simp_all [nIn, List.length_pos_iff] <;> (repeat' split) <;> omega)
      | skip
    have hw1 : wrong1 (0) nn p s args.length d = 0 := by
      clear hf hIn ih hat hdrop hsub hall hbad
      try simp only [encNds_length] at *
      unfold wrong1 maxI
      simp_all [nIn, List.length_pos_iff] <;> (repeat' split) <;> omega
    refine AK.ren [(5, 5), (3000, 3000)] [] (env' := [(118, .c (.int .i64 (0 : Nat))), (117, .c (.int .i64 (encNds args).length)), (116, .c (.sl 5 (encNds args))), (6, .c (.sl 6 (encDeeps todo))), (4, .c (.int .i64 (done.length : Nat))), (5, .ptr 5 0), (3, .bsl 3000 0 6 (done.length + 1))])
      (bs' := [(5, [.c (.int .i64 0), .c (.int .i64 nn), .c (.int .i64 p), .c (.str s), .c (.sl 5 (encNds args)), .c (.int .i64 d)]), (3000, rowCells (encDeeps (done ++ (Nd.mk 0 nn p s args, d) :: todo)))]) (ts' := []) (us' := [5, 3000])
      ⟨⟨_, rfl, .inl rfl⟩, ⟨_, rfl, .inl rfl⟩, ⟨_, rfl, .inl rfl⟩, ⟨_, rfl, .inl rfl⟩, ⟨_, rfl, .inl rfl⟩, ⟨_, rfl, ⟨_, rfl, rfl⟩⟩, ⟨_, rfl, ⟨_, rfl, rfl⟩⟩, trivial⟩ ⟨⟨_, _, rfl, rfl, ⟨_, _, rfl, .inl rfl, ⟨_, _, rfl, .inl rfl, ⟨_, _, rfl, .inl rfl, ⟨_, _, rfl, .inl rfl, ⟨_, _, rfl, .inl rfl, ⟨_, _, rfl, .inl rfl, rfl⟩⟩⟩⟩⟩⟩⟩, ⟨_, rowCells _, rfl, rfl, convL_c _ _ _⟩, trivial⟩ rfl ?_
    refine AK.loopE (α := Nat × List AV) (fun z => z.1 ≤ args.length) (fun z => args.length - z.1)
      (fun z => [(118, .c (.int .i64 z.1)), (117, .c (.int .i64 (encNds args).length)), (116, .c (.sl 5 (encNds args))), (6, .c (.sl 6 (encDeeps todo))), (4, .c (.int .i64 (done.length : Nat))), (5, .ptr 5 0), (3, .bsl 3000 0 6 ((done ++ (Nd.mk 0 nn p s args, d) :: kidsAt (args.take z.1) (d + 1))).length)])
      (fun z => [(5, [.c (.int .i64 0), .c (.int .i64 nn), .c (.int .i64 p), .c (.str s), .c (.sl 5 (encNds args)), .c (.int .i64 d)]), (3000, rowCells (encDeeps ((done ++ (Nd.mk 0 nn p s args, d) :: kidsAt (args.take z.1) (d + 1)))) ++ z.2)]) (fun _ => []) [5, 3000] (0, rowCells (encDeeps todo))
      (Nat.zero_le _) ⟨.inl rfl, .inl rfl, .inl rfl, .inl rfl, .inl rfl, .inl rfl, .inl (congrArg (fun q => some (AV.bsl 3000 0 6 q)) (show done.length + 1 = ((done ++ (Nd.mk 0 nn p s args, d) :: kidsAt (args.take 0) (d + 1))).length from by simp [kidsAt])), trivial⟩ ⟨rfl, congrArg some (show rowCells (encDeeps (done ++ (Nd.mk 0 nn p s args, d) :: todo)) = rowCells (encDeeps ((done ++ (Nd.mk 0 nn p s args, d) :: kidsAt (args.take 0) (d + 1)))) ++ rowCells (encDeeps todo) from by rw [← rowCells_append, ← deeps_append]; simp [kidsAt]), trivial⟩ trivial rfl (okB_cons rfl rfl (okB_cons rfl (okAL_rows2 _ _ _) rfl)) rfl ?_
    rintro ⟨j, tail⟩ hj jh
    simp only at hj
    have hfl : ((done ++ (Nd.mk 0 nn p s args, d) :: kidsAt (args.take j) (d + 1))).length = done.length + 1 + j := by simp [kidsAt, List.length_take]; omega
    rcases get_or args j hj with ⟨y, hy, hm⟩ | he
    · have hcj := nds_lt hy
      have hjl := lt_of_get hy
      have hnext : (done ++ (Nd.mk 0 nn p s args, d) :: kidsAt (args.take (j + 1)) (d + 1)) = (done ++ (Nd.mk 0 nn p s args, d) :: kidsAt (args.take j) (d + 1)) ++ [(y, d + 1)] := by
        have : args.take (j + 1) = args.take j ++ [y] := by rw [List.take_add_one, hy]; rfl
        rw [this]; simp [kidsAt]
      have hdw : IntKind.i64.wrap (d + 1) = d + 1 := w64 (by omega) (by omega)
      obtain ⟨y1, y2, y3, y4, y5⟩ := y
      have hcs : encDeeps ((done ++ (Nd.mk 0 nn p s args, d) :: kidsAt (args.take j) (d + 1))) ++ [CV.agg [.int .i64 y1, .int .i64 y2, .int .i64 y3, .str y4, .sl 5 (encNds y5), .int .i64 (IntKind.i64.wrap (d + 1))]] = encDeeps ((done ++ (Nd.mk 0 nn p s args, d) :: kidsAt (args.take (j + 1)) (d + 1))) := by
        rw [hdw, hnext]; exact deeps_snoc _ (Nd.mk y1 y2 y3 y4 y5, d + 1)
      repeat' (first | refine st ?_ | (refine AK.condS rfl (fun h => ?_) (fun h => ?_) <;> first | (cases h; done) | rw [h] | skip) | refine uQ hf rfl rfl ?_ | refine uI rfl (j) rfl (nds_at hy) rfl ?_ | refine AOps.appendB Try.hX kn rfl rfl rfl rfl rfl rfl rfl rfl rfl rfl rfl rfl rfl rfl rfl (encDeeps ((done ++ (Nd.mk 0 nn p s args, d) :: kidsAt (args.take j) (d + 1)))) tail rfl (deeps_len _).symm (deeps_flat _) rfl rfl rfl rfl rfl rfl rfl (show ((encDeeps ((done ++ (Nd.mk 0 nn p s args, d) :: kidsAt (args.take j) (d + 1)))).length + 1) * 72 ≤ 140737488355328 by rw [deeps_len, hfl]; omega) hcs (deeps_len ((done ++ (Nd.mk 0 nn p s args, d) :: kidsAt (args.take (j + 1)) (d + 1)))) rfl ?_ | (refine uA rfl ?_ ?_ <;> (try (show (_ : Nat) * _ ≤ _; dsimp only))) | ((first | refine AOps.splitT rfl rfl rfl asm (fun h => ?_) | refine AOps.splitF rfl rfl rfl asm (fun h => ?_) | refine AOps.split rfl rfl rfl (fun h => ?_) (fun h => ?_)) <;> (fail_if_success (cases h; done)) <;> rw [h]))
      refine AK.ren [(5, 5), (3000, 129)] [] (env' := [(118, .c (.int .i64 ((j + 1 : Nat) : Int))), (117, .c (.int .i64 (encNds args).length)), (116, .c (.sl 5 (encNds args))), (6, .c (.sl 6 (encDeeps todo))), (4, .c (.int .i64 (done.length : Nat))), (5, .ptr 5 0), (3, .bsl 3000 0 6 ((done ++ (Nd.mk 0 nn p s args, d) :: kidsAt (args.take (j + 1)) (d + 1))).length)])
        (bs' := [(5, [.c (.int .i64 0), .c (.int .i64 nn), .c (.int .i64 p), .c (.str s), .c (.sl 5 (encNds args)), .c (.int .i64 d)]), (3000, rowCells (encDeeps ((done ++ (Nd.mk 0 nn p s args, d) :: kidsAt (args.take (j + 1)) (d + 1)))) ++ [])]) (ts' := []) (us' := [5, 3000])
        ⟨⟨_, rfl, .inl (succ64' (i := j) (by omega))⟩, ⟨_, rfl, .inl rfl⟩, ⟨_, rfl, .inl rfl⟩, ⟨_, rfl, .inl rfl⟩, ⟨_, rfl, .inl rfl⟩, ⟨_, rfl, ⟨_, rfl, rfl⟩⟩, ⟨_, rfl, ⟨_, rfl, rfl⟩⟩, trivial⟩ ⟨⟨_, _, rfl, rfl, ⟨_, _, rfl, .inl rfl, ⟨_, _, rfl, .inl rfl, ⟨_, _, rfl, .inl rfl, ⟨_, _, rfl, .inl rfl, ⟨_, _, rfl, .inl rfl, ⟨_, _, rfl, .inl rfl, rfl⟩⟩⟩⟩⟩⟩⟩, ⟨_, _, rfl, rfl, convL_nil _⟩, trivial⟩ rfl ?_
      exact jh (j + 1, []) hjl (by show args.length - (j + 1) < args.length - j; omega)
    · have hcj := nds_end he
      have hfe : (done ++ (Nd.mk 0 nn p s args, d) :: kidsAt (args.take j) (d + 1)) = done ++ (Nd.mk 0 nn p s args, d) :: kidsAt args (d + 1) := by rw [he, List.take_length]
      clear jh
      have hcs : encDeeps ((done ++ (Nd.mk 0 nn p s args, d) :: kidsAt (args.take j) (d + 1))) ++ encDeeps todo = encDeeps ((done ++ [(Nd.mk 0 nn p s args, d)]) ++ (kidsAt args (d + 1) ++ todo)) := by
        rw [← deeps_append, hfe]; simp
      have htot : ((done ++ (Nd.mk 0 nn p s args, d) :: kidsAt (args.take j) (d + 1))).length + todo.length ≤ 3000000 := by rw [hfl]; omega
      repeat' (first | refine st ?_ | (refine AK.condS rfl (fun h => ?_) (fun h => ?_) <;> first | (cases h; done) | rw [h] | skip) | refine uQ hf rfl rfl ?_ | refine AOps.appendB Try.hX kn rfl rfl rfl rfl rfl rfl rfl rfl rfl rfl rfl rfl rfl rfl rfl (encDeeps ((done ++ (Nd.mk 0 nn p s args, d) :: kidsAt (args.take j) (d + 1)))) tail rfl (deeps_len _).symm (deeps_flat _) rfl rfl rfl rfl rfl rfl rfl (show ((encDeeps ((done ++ (Nd.mk 0 nn p s args, d) :: kidsAt (args.take j) (d + 1)))).length + (encDeeps todo).length) * 72 ≤ 140737488355328 by rw [deeps_len, deeps_len]; omega) hcs (deeps_len _) rfl ?_ | (refine uA rfl ?_ ?_ <;> (try (show (_ : Nat) * _ ≤ _; dsimp only))) | ((first | refine AOps.splitT rfl rfl rfl asm (fun h => ?_) | refine AOps.splitF rfl rfl rfl asm (fun h => ?_) | refine AOps.split rfl rfl rfl (fun h => ?_) (fun h => ?_)) <;> (fail_if_success (cases h; done)) <;> rw [h]))
      refine AK.ren [(3000, 133)] [] (env' := [(4, .c (.int .i64 (((done ++ [(Nd.mk 0 nn p s args, d)]).length : Nat) : Int))), (3, .bsl 3000 0 6 ((done ++ [(Nd.mk 0 nn p s args, d)]) ++ (kidsAt args (d + 1) ++ todo)).length)])
        (bs' := [(3000, rowCells (encDeeps ((done ++ [(Nd.mk 0 nn p s args, d)]) ++ (kidsAt args (d + 1) ++ todo))))]) (ts' := []) (us' := [3000])
        ⟨⟨_, rfl, .inl (congrArg (fun q => AV.c (CV.int .i64 q)) (show IntKind.i64.wrap (((done.length : Nat) : Int) + 1) = (((done ++ [(Nd.mk 0 nn p s args, d)]).length : Nat) : Int) from by rw [hwi]; simp))⟩, ⟨_, rfl, ⟨_, rfl, rfl⟩⟩, trivial⟩ ⟨⟨_, rowCells _, rfl, rfl, convL_c _ _ _⟩, trivial⟩ rfl ?_
      refine ih (done ++ [(Nd.mk 0 nn p s args, d)], kidsAt args (d + 1) ++ todo) ⟨?_, ?_, ?_⟩ ?_
      · rw [hW]; exact wl_step hw1
      · rw [hC, cnt_step]; simp; omega
      · intro x hx
        rcases List.mem_append.1 hx with hx | hx
        · obtain ⟨y, hy, rfl⟩ := List.mem_map.1 hx
          have := ndsSize_mem hy
          exact ⟨ndsWf_mem hxw.2.2.2 hy, by show ndSize y ≤ 1048577; omega, by show 1 ≤ d + 1; omega, by show d + 1 ≤ 25; omega⟩
        · exact hall x (List.mem_cons_of_mem _ hx)
      · show cnt (kidsAt args (d + 1) ++ todo) < cnt ((Nd.mk 0 nn p s args, d) :: todo)
        rw [cnt_step]; omega
  · skip
    repeat' (first | refine st ?_ | (refine AK.condS rfl (fun h => ?_) (fun h => ?_) <;> first | (cases h; done) | rw [h] | skip) | refine uQ hf rfl rfl ?_ | refine AOps.indexB Try.hX kn rfl rfl rfl rfl rfl rfl rfl rfl rfl done.length rfl hlt ?_ | refine AOps.loadB Try.hX kn rfl rfl rfl rfl rfl rfl hat rfl ?_ | refine uC rfl (isPrim_calls p) ?_ | refine uC rfl hIn ?_ | refine AOps.sliceB Try.hX kn rfl rfl rfl rfl rfl rfl rfl rfl (l := some (done.length + 1)) (h := none) (bound_of rfl (done.length + 1) hwi) rfl (Nat.le_refl _) hle1 ?_ | refine AOps.appendF Try.hX kn rfl rfl rfl rfl rfl rfl rfl rfl rfl rfl rfl rfl rfl rfl (encDeeps todo) [] rfl hdrop hsub (deeps_shape todo) (by rw [deeps_flat, ← deeps_len, ← hsub]; rfl) (deeps_cells todo) rfl rfl (show ((done ++ (Nd.mk 1 nn p s args, d) :: todo).length - (done.length + 1)) * 72 ≤ 140737488355328 by omega) ?_ | refine AOps.sliceB Try.hX kn rfl rfl rfl rfl rfl rfl rfl rfl (l := none) (h := some (done.length + 1)) rfl (bound_of rfl (done.length + 1) hwi) hle1 (Nat.zero_le _) ?_ | (refine uA rfl ?_ ?_ <;> (try (show (_ : Nat) * _ ≤ _; dsimp only))) | ((first | refine AOps.splitT rfl rfl rfl asm (fun h => ?_) | refine AOps.splitF rfl rfl rfl asm (fun h => ?_) | refine AOps.split rfl rfl rfl (fun h => ?_) (fun h => ?_)) <;> (fail_if_success (cases h; done)) <;> rw [h]))
    all_goals first
      | (show (_ : CV) = _
         clear hf ih hIn hat hdrop hsub hall
         refine congrArg (CV.int .i64) ?_
         symm
         refine hbad _ (by omega) ?_
         clear hbad
         try simp only [encNds_length] at *
         unfold wrong1 maxI
         simp_all [nIn, List.length_pos_iff] <;> (repeat' split) <;> omega)
      | skip
    have hw1 : wrong1 (1) nn p s args.length d = 0 := by
      clear hf hIn ih hat hdrop hsub hall hbad
      try simp only [encNds_length] at *
      unfold wrong1 maxI
      simp_all [nIn, List.length_pos_iff] <;> (repeat' split) <;> omega
    refine AK.ren [(5, 5), (3000, 3000)] [] (env' := [(118, .c (.int .i64 (0 : Nat))), (117, .c (.int .i64 (encNds args).length)), (116, .c (.sl 5 (encNds args))), (6, .c (.sl 6 (encDeeps todo))), (4, .c (.int .i64 (done.length : Nat))), (5, .ptr 5 0), (3, .bsl 3000 0 6 (done.length + 1))])
      (bs' := [(5, [.c (.int .i64 1), .c (.int .i64 nn), .c (.int .i64 p), .c (.str s), .c (.sl 5 (encNds args)), .c (.int .i64 d)]), (3000, rowCells (encDeeps (done ++ (Nd.mk 1 nn p s args, d) :: todo)))]) (ts' := []) (us' := [5, 3000])
      ⟨⟨_, rfl, .inl rfl⟩, ⟨_, rfl, .inl rfl⟩, ⟨_, rfl, .inl rfl⟩, ⟨_, rfl, .inl rfl⟩, ⟨_, rfl, .inl rfl⟩, ⟨_, rfl, ⟨_, rfl, rfl⟩⟩, ⟨_, rfl, ⟨_, rfl, rfl⟩⟩, trivial⟩ ⟨⟨_, _, rfl, rfl, ⟨_, _, rfl, .inl rfl, ⟨_, _, rfl, .inl rfl, ⟨_, _, rfl, .inl rfl, ⟨_, _, rfl, .inl rfl, ⟨_, _, rfl, .inl rfl, ⟨_, _, rfl, .inl rfl, rfl⟩⟩⟩⟩⟩⟩⟩, ⟨_, rowCells _, rfl, rfl, convL_c _ _ _⟩, trivial⟩ rfl ?_
    refine AK.loopE (α := Nat × List AV) (fun z => z.1 ≤ args.length) (fun z => args.length - z.1)
      (fun z => [(118, .c (.int .i64 z.1)), (117, .c (.int .i64 (encNds args).length)), (116, .c (.sl 5 (encNds args))), (6, .c (.sl 6 (encDeeps todo))), (4, .c (.int .i64 (done.length : Nat))), (5, .ptr 5 0), (3, .bsl 3000 0 6 ((done ++ (Nd.mk 1 nn p s args, d) :: kidsAt (args.take z.1) (d + 1))).length)])
      (fun z => [(5, [.c (.int .i64 1), .c (.int .i64 nn), .c (.int .i64 p), .c (.str s), .c (.sl 5 (encNds args)), .c (.int .i64 d)]), (3000, rowCells (encDeeps ((done ++ (Nd.mk 1 nn p s args, d) :: kidsAt (args.take z.1) (d + 1)))) ++ z.2)]) (fun _ => []) [5, 3000] (0, rowCells (encDeeps todo))
      (Nat.zero_le _) ⟨.inl rfl, .inl rfl, .inl rfl, .inl rfl, .inl rfl, .inl rfl, .inl (congrArg (fun q => some (AV.bsl 3000 0 6 q)) (show done.length + 1 = ((done ++ (Nd.mk 1 nn p s args, d) :: kidsAt (args.take 0) (d + 1))).length from by simp [kidsAt])), trivial⟩ ⟨rfl, congrArg some (show rowCells (encDeeps (done ++ (Nd.mk 1 nn p s args, d) :: todo)) = rowCells (encDeeps ((done ++ (Nd.mk 1 nn p s args, d) :: kidsAt (args.take 0) (d + 1)))) ++ rowCells (encDeeps todo) from by rw [← rowCells_append, ← deeps_append]; simp [kidsAt]), trivial⟩ trivial rfl (okB_cons rfl rfl (okB_cons rfl (okAL_rows2 _ _ _) rfl)) rfl ?_
    rintro ⟨j, tail⟩ hj jh
    simp only at hj
    have hfl : ((done ++ (Nd.mk 1 nn p s args, d) :: kidsAt (args.take j) (d + 1))).length = done.length + 1 + j := by simp [kidsAt, List.length_take]; omega
    rcases get_or args j hj with ⟨y, hy, hm⟩ | he
    · have hcj := nds_lt hy
      have hjl := lt_of_get hy
      have hnext : (done ++ (Nd.mk 1 nn p s args, d) :: kidsAt (args.take (j + 1)) (d + 1)) = (done ++ (Nd.mk 1 nn p s args, d) :: kidsAt (args.take j) (d + 1)) ++ [(y, d + 1)] := by
        have : args.take (j + 1) = args.take j ++ [y] := by rw [List.take_add_one, hy]; rfl
        rw [this]; simp [kidsAt]
      have hdw : IntKind.i64.wrap (d + 1) = d + 1 := w64 (by omega) (by omega)
      obtain ⟨y1, y2, y3, y4, y5⟩ := y
      have hcs : encDeeps ((done ++ (Nd.mk 1 nn p s args, d) :: kidsAt (args.take j) (d + 1))) ++ [CV.agg [.int .i64 y1, .int .i64 y2, .int .i64 y3, .str y4, .sl 5 (encNds y5), .int .i64 (IntKind.i64.wrap (d + 1))]] = encDeeps ((done ++ (Nd.mk 1 nn p s args, d) :: kidsAt (args.take (j + 1)) (d + 1))) := by
        rw [hdw, hnext]; exact deeps_snoc _ (Nd.mk y1 y2 y3 y4 y5, d + 1)
      repeat' (first | refine st ?_ | (refine AK.condS rfl (fun h => ?_) (fun h => ?_) <;> first | (cases h; done) | rw [h] | skip) | refine uQ hf rfl rfl ?_ | refine uI rfl (j) rfl (nds_at hy) rfl ?_ | refine AOps.appendB Try.hX kn rfl rfl rfl rfl rfl rfl rfl rfl rfl rfl rfl rfl rfl rfl rfl (encDeeps ((done ++ (Nd.mk 1 nn p s args, d) :: kidsAt (args.take j) (d + 1)))) tail rfl (deeps_len _).symm (deeps_flat _) rfl rfl rfl rfl rfl rfl rfl (show ((encDeeps ((done ++ (Nd.mk 1 nn p s args, d) :: kidsAt (args.take j) (d + 1)))).length + 1) * 72 ≤ 140737488355328 by rw [deeps_len, hfl]; omega) hcs (deeps_len ((done ++ (Nd.mk 1 nn p s args, d) :: kidsAt (args.take (j + 1)) (d + 1)))) rfl ?_ | (refine uA rfl ?_ ?_ <;> (try (show (_ : Nat) * _ ≤ _; dsimp only))) | ((first | refine AOps.splitT rfl rfl rfl asm (fun h => ?_) | refine AOps.splitF rfl rfl rfl asm (fun h => ?_) | refine AOps.split rfl rfl rfl (fun h => ?_) (fun h => ?_)) <;> (fail_if_success (cases h; done)) <;> rw [h]))
      refine AK.ren [(5, 5), (3000, 129)] [] (env' := [(118, .c (.int .i64 ((j + 1 : Nat) : Int))), (117, .c (.int .i64 (encNds args).length)), (116, .c (.sl 5 (encNds args))), (6, .c (.sl 6 (encDeeps todo))), (4, .c (.int .i64 (done.length : Nat))), (5, .ptr 5 0), (3, .bsl 3000 0 6 ((done ++ (Nd.mk 1 nn p s args, d) :: kidsAt (args.take (j + 1)) (d + 1))).length)])
        (bs' := [(5, [.c (.int .i64 1), .c (.int .i64 nn), .c (.int .i64 p), .c (.str s), .c (.sl 5 (encNds args)), .c (.int .i64 d)]), (3000, rowCells (encDeeps ((done ++ (Nd.mk 1 nn p s args, d) :: kidsAt (args.take (j + 1)) (d + 1)))) ++ [])]) (ts' := []) (us' := [5, 3000])
        ⟨⟨_, rfl, .inl (succ64' (i := j) (by omega))⟩, ⟨_, rfl, .inl rfl⟩, ⟨_, rfl, .inl rfl⟩, ⟨_, rfl, .inl rfl⟩, ⟨_, rfl, .inl rfl⟩, ⟨_, rfl, ⟨_, rfl, rfl⟩⟩, ⟨_, rfl, ⟨_, rfl, rfl⟩⟩, trivial⟩ ⟨⟨_, _, rfl, rfl, ⟨_, _, rfl, .inl rfl, ⟨_, _, rfl, .inl rfl, ⟨_, _, rfl, .inl rfl, ⟨_, _, rfl, .inl rfl, ⟨_, _, rfl, .inl rfl, ⟨_, _, rfl, .inl rfl, rfl⟩⟩⟩⟩⟩⟩⟩, ⟨_, _, rfl, rfl, convL_nil _⟩, trivial⟩ rfl ?_
      exact jh (j + 1, []) hjl (by show args.length - (j + 1) < args.length - j; omega)
    · have hcj := nds_end he
      have hfe : (done ++ (Nd.mk 1 nn p s args, d) :: kidsAt (args.take j) (d + 1)) = done ++ (Nd.mk 1 nn p s args, d) :: kidsAt args (d + 1) := by rw [he, List.take_length]
      clear jh
      have hcs : encDeeps ((done ++ (Nd.mk 1 nn p s args, d) :: kidsAt (args.take j) (d + 1))) ++ encDeeps todo = encDeeps ((done ++ [(Nd.mk 1 nn p s args, d)]) ++ (kidsAt args (d + 1) ++ todo)) := by
        rw [← deeps_append, hfe]; simp
      have htot : ((done ++ (Nd.mk 1 nn p s args, d) :: kidsAt (args.take j) (d + 1))).length + todo.length ≤ 3000000 := by rw [hfl]; omega
      repeat' (first | refine st ?_ | (refine AK.condS rfl (fun h => ?_) (fun h => ?_) <;> first | (cases h; done) | rw [h] | skip) | refine uQ hf rfl rfl ?_ | refine AOps.appendB Try.hX kn rfl rfl rfl rfl rfl rfl rfl rfl rfl rfl rfl rfl rfl rfl rfl (encDeeps ((done ++ (Nd.mk 1 nn p s args, d) :: kidsAt (args.take j) (d + 1)))) tail rfl (deeps_len _).symm (deeps_flat _) rfl rfl rfl rfl rfl rfl rfl (show ((encDeeps ((done ++ (Nd.mk 1 nn p s args, d) :: kidsAt (args.take j) (d + 1)))).length + (encDeeps todo).length) * 72 ≤ 140737488355328 by rw [deeps_len, deeps_len]; omega) hcs (deeps_len _) rfl ?_ | (refine uA rfl ?_ ?_ <;> (try (show (_ : Nat) * _ ≤ _; dsimp only))) | ((first | refine AOps.splitT rfl rfl rfl asm (fun h => ?_) | refine AOps.splitF rfl rfl rfl asm (fun h => ?_) | refine AOps.split rfl rfl rfl (fun h => ?_) (fun h => ?_)) <;> (fail_if_success (cases h; done)) <;> rw [h]))
      refine AK.ren [(3000, 133)] [] (env' := [(4, .c (.int .i64 (((done ++ [(Nd.mk 1 nn p s args, d)]).length : Nat) : Int))), (3, .bsl 3000 0 6 ((done ++ [(Nd.mk 1 nn p s args, d)]) ++ (kidsAt args (d + 1) ++ todo)).length)])
        (bs' := [(3000, rowCells (encDeeps ((done ++ [(Nd.mk 1 nn p s args, d)]) ++ (kidsAt args (d + 1) ++ todo))))]) (ts' := []) (us' := [3000])
        ⟨⟨_, rfl, .inl (congrArg (fun q => AV.c (CV.int .i64 q)) (show IntKind.i64.wrap (((done.length : Nat) : Int) + 1) = (((done ++ [(Nd.mk 1 nn p s args, d)]).length : Nat) : Int) from by rw [hwi]; simp))⟩, ⟨_, rfl, ⟨_, rfl, rfl⟩⟩, trivial⟩ ⟨⟨_, rowCells _, rfl, rfl, convL_c _ _ _⟩, trivial⟩ rfl ?_
      refine ih (done ++ [(Nd.mk 1 nn p s args, d)], kidsAt args (d + 1) ++ todo) ⟨?_, ?_, ?_⟩ ?_
      · rw [hW]; exact wl_step hw1
      · rw [hC, cnt_step]; simp; omega
      · intro x hx
        rcases List.mem_append.1 hx with hx | hx
        · obtain ⟨y, hy, rfl⟩ := List.mem_map.1 hx
          have := ndsSize_mem hy
          exact ⟨ndsWf_mem hxw.2.2.2 hy, by show ndSize y ≤ 1048577; omega, by show 1 ≤ d + 1; omega, by show d + 1 ≤ 25; omega⟩
        · exact hall x (List.mem_cons_of_mem _ hx)
      · show cnt (kidsAt args (d + 1) ++ todo) < cnt ((Nd.mk 1 nn p s args, d) :: todo)
        rw [cnt_step]; omega
  · skip
    repeat' (first | refine st ?_ | (refine AK.condS rfl (fun h => ?_) (fun h => ?_) <;> first | (cases h; done) | rw [h] | skip) | refine uQ hf rfl rfl ?_ | refine AOps.indexB Try.hX kn rfl rfl rfl rfl rfl rfl rfl rfl rfl done.length rfl hlt ?_ | refine AOps.loadB Try.hX kn rfl rfl rfl rfl rfl rfl hat rfl ?_ | refine uC rfl (isPrim_calls p) ?_ | refine uC rfl hIn ?_ | refine AOps.sliceB Try.hX kn rfl rfl rfl rfl rfl rfl rfl rfl (l := some (done.length + 1)) (h := none) (bound_of rfl (done.length + 1) hwi) rfl (Nat.le_refl _) hle1 ?_ | refine AOps.appendF Try.hX kn rfl rfl rfl rfl rfl rfl rfl rfl rfl rfl rfl rfl rfl rfl (encDeeps todo) [] rfl hdrop hsub (deeps_shape todo) (by rw [deeps_flat, ← deeps_len, ← hsub]; rfl) (deeps_cells todo) rfl rfl (show ((done ++ (Nd.mk 2 nn p s args, d) :: todo).length - (done.length + 1)) * 72 ≤ 140737488355328 by omega) ?_ | refine AOps.sliceB Try.hX kn rfl rfl rfl rfl rfl rfl rfl rfl (l := none) (h := some (done.length + 1)) rfl (bound_of rfl (done.length + 1) hwi) hle1 (Nat.zero_le _) ?_ | (refine uA rfl ?_ ?_ <;> (try (show (_ : Nat) * _ ≤ _; dsimp only))) | ((first | refine AOps.splitT rfl rfl rfl asm (fun h => ?_) | refine AOps.splitF rfl rfl rfl asm (fun h => ?_) | refine AOps.split rfl rfl rfl (fun h => ?_) (fun h => ?_)) <;> (fail_if_success (cases h; done)) <;> rw [h]))
    all_goals first
      | (show (_ : CV) = _
         clear hf ih hIn hat hdrop hsub hall
         refine congrArg (CV.int .i64) ?_
         symm
         refine hbad _ (by omega) ?_
         clear hbad
         try simp only [encNds_length] at *
         unfold wrong1 maxI
         simp_all [nIn, List.length_pos_iff] <;> (repeat' split) <;> omega)
      | skip
    have hw1 : wrong1 (2) nn p s args.length d = 0 := by
      clear hf hIn ih hat hdrop hsub hall hbad
      try simp only [encNds_length] at *
      unfold wrong1 maxI
      simp_all [nIn, List.length_pos_iff] <;> (repeat' split) <;> omega
    refine AK.ren [(5, 5), (3000, 3000)] [] (env' := [(118, .c (.int .i64 (0 : Nat))), (117, .c (.int .i64 (encNds args).length)), (116, .c (.sl 5 (encNds args))), (6, .c (.sl 6 (encDeeps todo))), (4, .c (.int .i64 (done.length : Nat))), (5, .ptr 5 0), (3, .bsl 3000 0 6 (done.length + 1))])
      (bs' := [(5, [.c (.int .i64 2), .c (.int .i64 nn), .c (.int .i64 p), .c (.str s), .c (.sl 5 (encNds args)), .c (.int .i64 d)]), (3000, rowCells (encDeeps (done ++ (Nd.mk 2 nn p s args, d) :: todo)))]) (ts' := []) (us' := [5, 3000])
      ⟨⟨_, rfl, .inl rfl⟩, ⟨_, rfl, .inl rfl⟩, ⟨_, rfl, .inl rfl⟩, ⟨_, rfl, .inl rfl⟩, ⟨_, rfl, .inl rfl⟩, ⟨_, rfl, ⟨_, rfl, rfl⟩⟩, ⟨_, rfl, ⟨_, rfl, rfl⟩⟩, trivial⟩ ⟨⟨_, _, rfl, rfl, ⟨_, _, rfl, .inl rfl, ⟨_, _, rfl, .inl rfl, ⟨_, _, rfl, .inl rfl, ⟨_, _, rfl, .inl rfl, ⟨_, _, rfl, .inl rfl, ⟨_, _, rfl, .inl rfl, rfl⟩⟩⟩⟩⟩⟩⟩, ⟨_, rowCells _, rfl, rfl, convL_c _ _ _⟩, trivial⟩ rfl ?_
    refine AK.loopE (α := Nat × List AV) (fun z => z.1 ≤ args.length) (fun z => args.length - z.1)
      (fun z => [(118, .c (.int .i64 z.1)), (117, .c (.int .i64 (encNds args).length)), (116, .c (.sl 5 (encNds args))), (6, .c (.sl 6 (encDeeps todo))), (4, .c (.int .i64 (done.length : Nat))), (5, .ptr 5 0), (3, .bsl 3000 0 6 ((done ++ (Nd.mk 2 nn p s args, d) :: kidsAt (args.take z.1) (d + 1))).length)])
      (fun z => [(5, [.c (.int .i64 2), .c (.int .i64 nn), .c (.int .i64 p), .c (.str s), .c (.sl 5 (encNds args)), .c (.int .i64 d)]), (3000, rowCells (encDeeps ((done ++ (Nd.mk 2 nn p s args, d) :: kidsAt (args.take z.1) (d + 1)))) ++ z.2)]) (fun _ => []) [5, 3000] (0, rowCells (encDeeps todo))
      (Nat.zero_le _) ⟨.inl rfl, .inl rfl, .inl rfl, .inl rfl, .inl rfl, .inl rfl, .inl (congrArg (fun q => some (AV.bsl 3000 0 6 q)) (show done.length + 1 = ((done ++ (Nd.mk 2 nn p s args, d) :: kidsAt (args.take 0) (d + 1))).length from by simp [kidsAt])), trivial⟩ ⟨rfl, congrArg some (show rowCells (encDeeps (done ++ (Nd.mk 2 nn p s args, d) :: todo)) = rowCells (encDeeps ((done ++ (Nd.mk 2 nn p s args, d) :: kidsAt (args.take 0) (d + 1)))) ++ rowCells (encDeeps todo) from by rw [← rowCells_append, ← deeps_append]; simp [kidsAt]), trivial⟩ trivial rfl (okB_cons rfl rfl (okB_cons rfl (okAL_rows2 _ _ _) rfl)) rfl ?_
    rintro ⟨j, tail⟩ hj jh
    simp only at hj
    have hfl : ((done ++ (Nd.mk 2 nn p s args, d) :: kidsAt (args.take j) (d + 1))).length = done.length + 1 + j := by simp [kidsAt, List.length_take]; omega
    rcases get_or args j hj with ⟨y, hy, hm⟩ | he
    · have hcj := nds_lt hy
      have hjl := lt_of_get hy
      have hnext : (done ++ (Nd.mk 2 nn p s args, d) :: kidsAt (args.take (j + 1)) (d + 1)) = (done ++ (Nd.mk 2 nn p s args, d) :: kidsAt (args.take j) (d + 1)) ++ [(y, d + 1)] := by
        have : args.take (j + 1) = args.take j ++ [y] := by rw [List.take_add_one, hy]; rfl
        rw [this]; simp [kidsAt]
      have hdw : IntKind.i64.wrap (d + 1) = d + 1 := w64 (by omega) (by omega)
      obtain ⟨y1, y2, y3, y4, y5⟩ := y
      have hcs : encDeeps ((done ++ (Nd.mk 2 nn p s args, d) :: kidsAt (args.take j) (d + 1))) ++ [CV.agg [.int .i64 y1, .int .i64 y2, .int .i64 y3, .str y4, .sl 5 (encNds y5), .int .i64 (IntKind.i64.wrap (d + 1))]] = encDeeps ((done ++ (Nd.mk 2 nn p s args, d) :: kidsAt (args.take (j + 1)) (d + 1))) := by
        rw [hdw, hnext]; exact deeps_snoc _ (Nd.mk y1 y2 y3 y4 y5, d + 1)
      repeat' (first | refine st ?_ | (refine AK.condS rfl (fun h => ?_) (fun h => ?_) <;> first | (cases h; done) | rw [h] | skip) | refine uQ hf rfl rfl ?_ | refine uI rfl (j) rfl (nds_at hy) rfl ?_ | refine AOps.appendB Try.hX kn rfl rfl rfl rfl rfl rfl rfl rfl rfl rfl rfl rfl rfl rfl rfl (encDeeps ((done ++ (Nd.mk 2 nn p s args, d) :: kidsAt (args.take j) (d + 1)))) tail rfl (deeps_len _).symm (deeps_flat _) rfl rfl rfl rfl rfl rfl rfl (show ((encDeeps ((done ++ (Nd.mk 2 nn p s args, d) :: kidsAt (args.take j) (d + 1)))).length + 1) * 72 ≤ 140737488355328 by rw [deeps_len, hfl]; omega) hcs (deeps_len ((done ++ (Nd.mk 2 nn p s args, d) :: kidsAt (args.take (j + 1)) (d + 1)))) rfl ?_ | (refine uA rfl ?_ ?_ <;> (try (show (_ : Nat) * _ ≤ _; dsimp only))) | ((first | refine AOps.splitT rfl rfl rfl asm (fun h => ?_) | refine AOps.splitF rfl rfl rfl asm (fun h => ?_) | refine AOps.split rfl rfl rfl (fun h => ?_) (fun h => ?_)) <;> (fail_if_success (cases h; done)) <;> rw [h]))
      refine AK.ren [(5, 5), (3000, 129)] [] (env' := [(118, .c (.int .i64 ((j + 1 : Nat) : Int))), (117, .c (.int .i64 (encNds args).length)), (116, .c (.sl 5 (encNds args))), (6, .c (.sl 6 (encDeeps todo))), (4, .c (.int .i64 (done.length : Nat))), (5, .ptr 5 0), (3, .bsl 3000 0 6 ((done ++ (Nd.mk 2 nn p s args, d) :: kidsAt (args.take (j + 1)) (d + 1))).length)])
        (bs' := [(5, [.c (.int .i64 2), .c (.int .i64 nn), .c (.int .i64 p), .c (.str s), .c (.sl 5 (encNds args)), .c (.int .i64 d)]), (3000, rowCells (encDeeps ((done ++ (Nd.mk 2 nn p s args, d) :: kidsAt (args.take (j + 1)) (d + 1)))) ++ [])]) (ts' := []) (us' := [5, 3000])
        ⟨⟨_, rfl, .inl (succ64' (i := j) (by omega))⟩, ⟨_, rfl, .inl rfl⟩, ⟨_, rfl, .inl rfl⟩, ⟨_, rfl, .inl rfl⟩, ⟨_, rfl, .inl rfl⟩, ⟨_, rfl, ⟨_, rfl, rfl⟩⟩, ⟨_, rfl, ⟨_, rfl, rfl⟩⟩, trivial⟩ ⟨⟨_, _, rfl, rfl, ⟨_, _, rfl, .inl rfl, ⟨_, _, rfl, .inl rfl, ⟨_, _, rfl, .inl rfl, ⟨_, _, rfl, .inl rfl, ⟨_, _, rfl, .inl rfl, ⟨_, _, rfl, .inl rfl, rfl⟩⟩⟩⟩⟩⟩⟩, ⟨_, _, rfl, rfl, convL_nil _⟩, trivial⟩ rfl ?_
      exact jh (j + 1, []) hjl (by show args.length - (j + 1) < args.length - j; omega)
    · have hcj := nds_end he
      have hfe : (done ++ (Nd.mk 2 nn p s args, d) :: kidsAt (args.take j) (d + 1)) = done ++ (Nd.mk 2 nn p s args, d) :: kidsAt args (d + 1) := by rw [he, List.take_length]
      clear jh
      have hcs : encDeeps ((done ++ (Nd.mk 2 nn p s args, d) :: kidsAt (args.take j) (d + 1))) ++ encDeeps todo = encDeeps ((done ++ [(Nd.mk 2 nn p s args, d)]) ++ (kidsAt args (d + 1) ++ todo)) := by
        rw [← deeps_append, hfe]; simp
      have htot : ((done ++ (Nd.mk 2 nn p s args, d) :: kidsAt (args.take j) (d + 1))).length + todo.length ≤ 3000000 := by rw [hfl]; omega
      repeat' (first | refine st ?_ | (refine AK.condS rfl (fun h => ?_) (fun h => ?_) <;> first | (cases h; done) | rw [h] | skip) | refine uQ hf rfl rfl ?_ | refine AOps.appendB Try.hX kn rfl rfl rfl rfl rfl rfl rfl rfl rfl rfl rfl rfl rfl rfl rfl (encDeeps ((done ++ (Nd.mk 2 nn p s args, d) :: kidsAt (args.take j) (d + 1)))) tail rfl (deeps_len _).symm (deeps_flat _) rfl rfl rfl rfl rfl rfl rfl (show ((encDeeps ((done ++ (Nd.mk 2 nn p s args, d) :: kidsAt (args.take j) (d + 1)))).length + (encDeeps todo).length) * 72 ≤ 140737488355328 by rw [deeps_len, deeps_len]; omega) hcs (deeps_len _) rfl ?_ | (refine uA rfl ?_ ?_ <;> (try (show (_ : Nat) * _ ≤ _; dsimp only))) | ((first | refine AOps.splitT rfl rfl rfl asm (fun h => ?_) | refine AOps.splitF rfl rfl rfl asm (fun h => ?_) | refine AOps.split rfl rfl rfl (fun h => ?_) (fun h => ?_)) <;> (fail_if_success (cases h; done)) <;> rw [h]))
      refine AK.ren [(3000, 133)] [] (env' := [(4, .c (.int .i64 (((done ++ [(Nd.mk 2 nn p s args, d)]).length : Nat) : Int))), (3, .bsl 3000 0 6 ((done ++ [(Nd.mk 2 nn p s args, d)]) ++ (kidsAt args (d + 1) ++ todo)).length)])
        (bs' := [(3000, rowCells (encDeeps ((done ++ [(Nd.mk 2 nn p s args, d)]) ++ (kidsAt args (d + 1) ++ todo))))]) (ts' := []) (us' := [3000])
        ⟨⟨_, rfl, .inl (congrArg (fun q => AV.c (CV.int .i64 q)) (show IntKind.i64.wrap (((done.length : Nat) : Int) + 1) = (((done ++ [(Nd.mk 2 nn p s args, d)]).length : Nat) : Int) from by rw [hwi]; simp))⟩, ⟨_, rfl, ⟨_, rfl, rfl⟩⟩, trivial⟩ ⟨⟨_, rowCells _, rfl, rfl, convL_c _ _ _⟩, trivial⟩ rfl ?_
      refine ih (done ++ [(Nd.mk 2 nn p s args, d)], kidsAt args (d + 1) ++ todo) ⟨?_, ?_, ?_⟩ ?_
      · rw [hW]; exact wl_step hw1
      · rw [hC, cnt_step]; simp; omega
      · intro x hx
        rcases List.mem_append.1 hx with hx | hx
        · obtain ⟨y, hy, rfl⟩ := List.mem_map.1 hx
          have := ndsSize_mem hy
          exact ⟨ndsWf_mem hxw.2.2.2 hy, by show ndSize y ≤ 1048577; omega, by show 1 ≤ d + 1; omega, by show d + 1 ≤ 25; omega⟩
        · exact hall x (List.mem_cons_of_mem _ hx)
      · show cnt (kidsAt args (d + 1) ++ todo) < cnt ((Nd.mk 2 nn p s args, d) :: todo)
        rw [cnt_step]; omega
  · skip
    repeat' (first | refine st ?_ | (refine AK.condS rfl (fun h => ?_) (fun h => ?_) <;> first | (cases h; done) | rw [h] | skip) | refine uQ hf rfl rfl ?_ | refine AOps.indexB Try.hX kn rfl rfl rfl rfl rfl rfl rfl rfl rfl done.length rfl hlt ?_ | refine AOps.loadB Try.hX kn rfl rfl rfl rfl rfl rfl hat rfl ?_ | refine uC rfl (isPrim_calls p) ?_ | refine uC rfl hIn ?_ | refine AOps.sliceB Try.hX kn rfl rfl rfl rfl rfl rfl rfl rfl (l := some (done.length + 1)) (h := none) (bound_of rfl (done.length + 1) hwi) rfl (Nat.le_refl _) hle1 ?_ | refine AOps.appendF Try.hX kn rfl rfl rfl rfl rfl rfl rfl rfl rfl rfl rfl rfl rfl rfl (encDeeps todo) [] rfl hdrop hsub (deeps_shape todo) (by rw [deeps_flat, ← deeps_len, ← hsub]; rfl) (deeps_cells todo) rfl rfl (show ((done ++ (Nd.mk 3 nn p s args, d) :: todo).length - (done.length + 1)) * 72 ≤ 140737488355328 by omega) ?_ | refine AOps.sliceB Try.hX kn rfl rfl rfl rfl rfl rfl rfl rfl (l := none) (h := some (done.length + 1)) rfl (bound_of rfl (done.length + 1) hwi) hle1 (Nat.zero_le _) ?_ | (refine uA rfl ?_ ?_ <;> (try (show (_ : Nat) * _ ≤ _; dsimp only))) | ((first | refine AOps.splitT rfl rfl rfl asm (fun h => ?_) | refine AOps.splitF rfl rfl rfl asm (fun h => ?_) | refine AOps.split rfl rfl rfl (fun h => ?_) (fun h => ?_)) <;> (fail_if_success (cases h; done)) <;> rw [h]))
    all_goals first
      | (show (_ : CV) = _
         clear hf ih hIn hat hdrop hsub hall
         refine congrArg (CV.int .i64) ?_
         symm
         refine hbad _ (by omega) ?_
         clear hbad
         try simp only [encNds_length] at *
         unfold wrong1 maxI
         simp_all [nIn, List.length_pos_iff] <;> (repeat' split) <;> omega)
      | skip
    have hw1 : wrong1 (3) nn p s args.length d = 0 := by
      clear hf hIn ih hat hdrop hsub hall hbad
      try simp only [encNds_length] at *
      unfold wrong1 maxI
      simp_all [nIn, List.length_pos_iff] <;> (repeat' split) <;> omega
    refine AK.ren [(5, 5), (3000, 3000)] [] (env' := [(118, .c (.int .i64 (0 : Nat))), (117, .c (.int .i64 (encNds args).length)), (116, .c (.sl 5 (encNds args))), (6, .c (.sl 6 (encDeeps todo))), (4, .c (.int .i64 (done.length : Nat))), (5, .ptr 5 0), (3, .bsl 3000 0 6 (done.length + 1))])
      (bs' := [(5, [.c (.int .i64 3), .c (.int .i64 nn), .c (.int .i64 p), .c (.str s), .c (.sl 5 (encNds args)), .c (.int .i64 d)]), (3000, rowCells (encDeeps (done ++ (Nd.mk 3 nn p s args, d) :: todo)))]) (ts' := []) (us' := [5, 3000])
      ⟨⟨_, rfl, .inl rfl⟩, ⟨_, rfl, .inl rfl⟩, ⟨_, rfl, .inl rfl⟩, ⟨_, rfl, .inl rfl⟩, ⟨_, rfl, .inl rfl⟩, ⟨_, rfl, ⟨_, rfl, rfl⟩⟩, ⟨_, rfl, ⟨_, rfl, rfl⟩⟩, trivial⟩ ⟨⟨_, _, rfl, rfl, ⟨_, _, rfl, .inl rfl, ⟨_, _, rfl, .inl rfl, ⟨_, _, rfl, .inl rfl, ⟨_, _, rfl, .inl rfl, ⟨_, _, rfl, .inl rfl, ⟨_, _, rfl, .inl rfl, rfl⟩⟩⟩⟩⟩⟩⟩, ⟨_, rowCells _, rfl, rfl, convL_c _ _ _⟩, trivial⟩ rfl ?_
    refine AK.loopE (α := Nat × List AV) (fun z => z.1 ≤ args.length) (fun z => args.length - z.1)
      (fun z => [(118, .c (.int .i64 z.1)), (117, .c (.int .i64 (encNds args).length)), (116, .c (.sl 5 (encNds args))), (6, .c (.sl 6 (encDeeps todo))), (4, .c (.int .i64 (done.length : Nat))), (5, .ptr 5 0), (3, .bsl 3000 0 6 ((done ++ (Nd.mk 3 nn p s args, d) :: kidsAt (args.take z.1) (d + 1))).length)])
      (fun z => [(5, [.c (.int .i64 3), .c (.int .i64 nn), .c (.int .i64 p), .c (.str s), .c (.sl 5 (encNds args)), .c (.int .i64 d)]), (3000, rowCells (encDeeps ((done ++ (Nd.mk 3 nn p s args, d) :: kidsAt (args.take z.1) (d + 1)))) ++ z.2)]) (fun _ => []) [5, 3000] (0, rowCells (encDeeps todo))
      (Nat.zero_le _) ⟨.inl rfl, .inl rfl, .inl rfl, .inl rfl, .inl rfl, .inl rfl, .inl (congrArg (fun q => some (AV.bsl 3000 0 6 q)) (show done.length + 1 = ((done ++ (Nd.mk 3 nn p s args, d) :: kidsAt (args.take 0) (d + 1))).length from by simp [kidsAt])), trivial⟩ ⟨rfl, congrArg some (show rowCells (encDeeps (done ++ (Nd.mk 3 nn p s args, d) :: todo)) = rowCells (encDeeps ((done ++ (Nd.mk 3 nn p s args, d) :: kidsAt (args.take 0) (d + 1)))) ++ rowCells (encDeeps todo) from by rw [← rowCells_append, ← deeps_append]; simp [kidsAt]), trivial⟩ trivial rfl (okB_cons rfl rfl (okB_cons rfl (okAL_rows2 _ _ _) rfl)) rfl ?_
    rintro ⟨j, tail⟩ hj jh
    simp only at hj
    have hfl : ((done ++ (Nd.mk 3 nn p s args, d) :: kidsAt (args.take j) (d + 1))).length = done.length + 1 + j := by simp [kidsAt, List.length_take]; omega
    rcases get_or args j hj with ⟨y, hy, hm⟩ | he
    · have hcj := nds_lt hy
      have hjl := lt_of_get hy
      have hnext : (done ++ (Nd.mk 3 nn p s args, d) :: kidsAt (args.take (j + 1)) (d + 1)) = (done ++ (Nd.mk 3 nn p s args, d) :: kidsAt (args.take j) (d + 1)) ++ [(y, d + 1)] := by
        have : args.take (j + 1) = args.take j ++ [y] := by rw [List.take_add_one, hy]; rfl
        rw [this]; simp [kidsAt]
      have hdw : IntKind.i64.wrap (d + 1) = d + 1 := w64 (by omega) (by omega)
      obtain ⟨y1, y2, y3, y4, y5⟩ := y
      have hcs : encDeeps ((done ++ (Nd.mk 3 nn p s args, d) :: kidsAt (args.take j) (d + 1))) ++ [CV.agg [.int .i64 y1, .int .i64 y2, .int .i64 y3, .str y4, .sl 5 (encNds y5), .int .i64 (IntKind.i64.wrap (d + 1))]] = encDeeps ((done ++ (Nd.mk 3 nn p s args, d) :: kidsAt (args.take (j + 1)) (d + 1))) := by
        rw [hdw, hnext]; exact deeps_snoc _ (Nd.mk y1 y2 y3 y4 y5, d + 1)
      repeat' (first | refine st ?_ | (refine AK.condS rfl (fun h => ?_) (fun h => ?_) <;> first | (cases h; done) | rw [h] | skip) | refine uQ hf rfl rfl ?_ | refine uI rfl (j) rfl (nds_at hy) rfl ?_ | refine AOps.appendB Try.hX kn rfl rfl rfl rfl rfl rfl rfl rfl rfl rfl rfl rfl rfl rfl rfl (encDeeps ((done ++ (Nd.mk 3 nn p s args, d) :: kidsAt (args.take j) (d + 1)))) tail rfl (deeps_len _).symm (deeps_flat _) rfl rfl rfl rfl rfl rfl rfl (show ((encDeeps ((done ++ (Nd.mk 3 nn p s args, d) :: kidsAt (args.take j) (d + 1)))).length + 1) * 72 ≤ 140737488355328 by rw [deeps_len, hfl]; omega) hcs (deeps_len ((done ++ (Nd.mk 3 nn p s args, d) :: kidsAt (args.take (j + 1)) (d + 1)))) rfl ?_ | (refine uA rfl ?_ ?_ <;> (try (show (_ : Nat) * _ ≤ _; dsimp only))) | ((first | refine AOps.splitT rfl rfl rfl asm (fun h => ?_) | refine AOps.splitF rfl rfl rfl asm (fun h => ?_) | refine AOps.split rfl rfl rfl (fun h => ?_) (fun h => ?_)) <;> (fail_if_success (cases h; done)) <;> rw [h]))
      refine AK.ren [(5, 5), (3000, 129)] [] (env' := [(118, .c (.int .i64 ((j + 1 : Nat) : Int))), (117, .c (.int .i64 (encNds args).length)), (116, .c (.sl 5 (encNds args))), (6, .c (.sl 6 (encDeeps todo))), (4, .c (.int .i64 (done.length : Nat))), (5, .ptr 5 0), (3, .bsl 3000 0 6 ((done ++ (Nd.mk 3 nn p s args, d) :: kidsAt (args.take (j + 1)) (d + 1))).length)])
        (bs' := [(5, [.c (.int .i64 3), .c (.int .i64 nn), .c (.int .i64 p), .c (.str s), .c (.sl 5 (encNds args)), .c (.int .i64 d)]), (3000, rowCells (encDeeps ((done ++ (Nd.mk 3 nn p s args, d) :: kidsAt (args.take (j + 1)) (d + 1)))) ++ [])]) (ts' := []) (us' := [5, 3000])
        ⟨⟨_, rfl, .inl (succ64' (i := j) (by omega))⟩, ⟨_, rfl, .inl rfl⟩, ⟨_, rfl, .inl rfl⟩, ⟨_, rfl, .inl rfl⟩, ⟨_, rfl, .inl rfl⟩, ⟨_, rfl, ⟨_, rfl, rfl⟩⟩, ⟨_, rfl, ⟨_, rfl, rfl⟩⟩, trivial⟩ ⟨⟨_, _, rfl, rfl, ⟨_, _, rfl, .inl rfl, ⟨_, _, rfl, .inl rfl, ⟨_, _, rfl, .inl rfl, ⟨_, _, rfl, .inl rfl, ⟨_, _, rfl, .inl rfl, ⟨_, _, rfl, .inl rfl, rfl⟩⟩⟩⟩⟩⟩⟩, ⟨_, _, rfl, rfl, convL_nil _⟩, trivial⟩ rfl ?_
      exact jh (j + 1, []) hjl (by show args.length - (j + 1) < args.length - j; omega)
    · have hcj := nds_end he
      have hfe : (done ++ (Nd.mk 3 nn p s args, d) :: kidsAt (args.take j) (d + 1)) = done ++ (Nd.mk 3 nn p s args, d) :: kidsAt args (d + 1) := by rw [he, List.take_length]
      clear jh
      have hcs : encDeeps ((done ++ (Nd.mk 3 nn p s args, d) :: kidsAt (args.take j) (d + 1))) ++ encDeeps todo = encDeeps ((done ++ [(Nd.mk 3 nn p s args, d)]) ++ (kidsAt args (d + 1) ++ todo)) := by
        rw [← deeps_append, hfe]; simp
      have htot : ((done ++ (Nd.mk 3 nn p s args, d) :: kidsAt (args.take j) (d + 1))).length + todo.length ≤ 3000000 := by rw [hfl]; omega
      repeat' (first | refine st ?_ | (refine AK.condS rfl (fun h => ?_) (fun h => ?_) <;> first | (cases h; done) | rw [h] | skip) | refine uQ hf rfl rfl ?_ | refine AOps.appendB Try.hX kn rfl rfl rfl rfl rfl rfl rfl rfl rfl rfl rfl rfl rfl rfl rfl (encDeeps ((done ++ (Nd.mk 3 nn p s args, d) :: kidsAt (args.take j) (d + 1)))) tail rfl (deeps_len _).symm (deeps_flat _) rfl rfl rfl rfl rfl rfl rfl (show ((encDeeps ((done ++ (Nd.mk 3 nn p s args, d) :: kidsAt (args.take j) (d + 1)))).length + (encDeeps todo).length) * 72 ≤ 140737488355328 by rw [deeps_len, deeps_len]; omega) hcs (deeps_len _) rfl ?_ | (refine uA rfl ?_ ?_ <;> (try (show (_ : Nat) * _ ≤ _; dsimp only))) | ((first | refine AOps.splitT rfl rfl rfl asm (fun h => ?_) | refine AOps.splitF rfl rfl rfl asm (fun h => ?_) | refine AOps.split rfl rfl rfl (fun h => ?_) (fun h => ?_)) <;> (fail_if_success (cases h; done)) <;> rw [h]))
      refine AK.ren [(3000, 133)] [] (env' := [(4, .c (.int .i64 (((done ++ [(Nd.mk 3 nn p s args, d)]).length : Nat) : Int))), (3, .bsl 3000 0 6 ((done ++ [(Nd.mk 3 nn p s args, d)]) ++ (kidsAt args (d + 1) ++ todo)).length)])
        (bs' := [(3000, rowCells (encDeeps ((done ++ [(Nd.mk 3 nn p s args, d)]) ++ (kidsAt args (d + 1) ++ todo))))]) (ts' := []) (us' := [3000])
        ⟨⟨_, rfl, .inl (congrArg (fun q => AV.c (CV.int .i64 q)) (show IntKind.i64.wrap (((done.length : Nat) : Int) + 1) = (((done ++ [(Nd.mk 3 nn p s args, d)]).length : Nat) : Int) from by rw [hwi]; simp))⟩, ⟨_, rfl, ⟨_, rfl, rfl⟩⟩, trivial⟩ ⟨⟨_, rowCells _, rfl, rfl, convL_c _ _ _⟩, trivial⟩ rfl ?_
      refine ih (done ++ [(Nd.mk 3 nn p s args, d)], kidsAt args (d + 1) ++ todo) ⟨?_, ?_, ?_⟩ ?_
      · rw [hW]; exact wl_step hw1
      · rw [hC, cnt_step]; simp; omega
      · intro x hx
        rcases List.mem_append.1 hx with hx | hx
        · obtain ⟨y, hy, rfl⟩ := List.mem_map.1 hx
          have := ndsSize_mem hy
          exact ⟨ndsWf_mem hxw.2.2.2 hy, by show ndSize y ≤ 1048577; omega, by show 1 ≤ d + 1; omega, by show d + 1 ≤ 25; omega⟩
        · exact hall x (List.mem_cons_of_mem _ hx)
      · show cnt (kidsAt args (d + 1) ++ todo) < cnt ((Nd.mk 3 nn p s args, d) :: todo)
        rw [cnt_step]; omega
end Go.Proofs

-- WIDE
set_option linter.unusedVariables false
set_option linter.unusedSimpArgs false
namespace Go.Proofs
open Go.Abs
section
variable (n a : Int) (s : List UInt8) (args : List Vl) (types : List Ty) (code : List Nd)
theorem rn1 : rNode (.mk 1 n a s args types code) = .mk 2 0 20 [] (rNodes args) := by simp [rNode]
theorem rn2 : rNode (.mk 2 n a s args types code) = .mk 2 0 (IntKind.i64.wrap (22 - n)) [] (rNodes args) := by simp [rNode]
theorem rn6 : rNode (.mk 6 n a s args types code) = .mk 1 0 0 s [] := by simp [rNode]
theorem rn9 : rNode (.mk 9 n a s args types code) = .mk 2 0 (IntKind.i64.wrap (27 - args.length)) [] (rNodes args) := by simp [rNode]
theorem rn10 : rNode (.mk 10 n a s args types code) = .mk 3 0 0 [] (rNodes args) := by simp [rNode]
theorem rn11 : rNode (.mk 11 n a s args types code) = .mk 2 0 23 [] (rNodes args) := by simp [rNode]
theorem rn12 : rNode (.mk 12 n a s args types code) = .mk 2 0 (IntKind.i64.wrap (24 + n)) [] (rNodes args) := by simp [rNode]
theorem rn13 : rNode (.mk 13 n a s args types code) = .mk 3 0 0 [] ((rNodes args).map set28) := by simp [rNode]
end
theorem rnd {k n a : Int} {s : List UInt8} {args : List Vl} {types : List Ty} {code : List Nd} (h1 : k ≠ 1) (h2 : k ≠ 2) (h6 : k ≠ 6) (h9 : k ≠ 9) (h10 : k ≠ 10) (h11 : k ≠ 11) (h12 : k ≠ 12) (h13 : k ≠ 13) :
    rNode (.mk k n a s args types code) = .mk 0 n 0 [] [] := by simp [rNode, h1, h2, h6, h9, h10, h11, h12, h13]
theorem encNd_mk (k n p : Int) (s : List UInt8) (args : List Nd) : encNd (.mk k n p s args) = .agg [.int .i64 k, .int .i64 n, .int .i64 p, .str s, .sl 5 (encNds args)] := rfl
attribute [local irreducible] AK AOps QCalls ECalls rNode rNodes vNode vNodes encNds encVls

set_option maxHeartbeats 0 in
theorem dataNode_calls : ∀ (v : Vl), vlSize v ≤ 1048577 → QCalls Try.prog Try.X 120 [encVl v] (encNd (rNode v))
  | .mk k n a s args types code, ht => by
    simp only [vlSize] at ht
    have hl1 := vlsSize_len args
    have hin : ∀ x ∈ args, QCalls Try.prog Try.X 120 [encVl x] (encNd (rNode x)) := fun x hx => dataNode_calls x (by have := vlsSize_mem hx; omega)
    have hrl : ∀ l : List Nd, (encNds l).length = l.length := encNds_length
    have hfl : ∀ l : List Nd, (flatC (encNds l)).length = l.length * 5 := encNds_flat
    have hnil : encNds (rNodes []) = [] := by unfold rNodes; unfold encNds; rfl
    have rnil : rNodes [] = [] := by unfold rNodes; rfl
    have enil : encNds [] = [] := by unfold encNds; rfl
    have hone : ∀ q, encNds [q] = [encNd q] := by intro q; unfold encNds; unfold encNds; rfl
    have htl : ∀ i, i ≤ args.length → (rNodes (args.take i)).length = i := fun i hi => by rw [rNodes_len, List.length_take]; omega
    refine QCalls.of Try.func120 rfl (fun args w => Try.call120 args w) (Nat.le_of_ble_eq_true rfl) [(0, .c (encVl (.mk k n a s args types code)))] rfl fun β hβ => ?_; have hf := Try.func120
    repeat' (first | refine st ?_ | (refine AK.condS rfl (fun h => ?_) (fun h => ?_) <;> first | (cases h; done) | rw [h] | skip) | refine uQ hf rfl rfl ?_ | (refine uA rfl ?_ ?_ <;> (try (show (_ : Nat) * _ ≤ _; dsimp only))))
    refine AK.loopE (α := Nat) (fun i => i ≤ args.length) (fun i => args.length - i)
      (fun i => match i with
        | 0 => [(11, .c (.int .i64 ((0 : Nat)))), (10, .c (.int .i64 (encVls args).length)), (9, .c (.sl 7 (encVls args))), (1, .ptr 1 0), (2, .ptr 2 0), (3, .ptr 3 0)]
        | j + 1 => [(11, .c (.int .i64 (((j + 1 : Nat) : Int)))), (10, .c (.int .i64 (encVls args).length)), (9, .c (.sl 7 (encVls args))), (1, .ptr 1 0), (2, .ptr 2 0), (3, .ptr 3 0)])
      (fun i => match i with
        | 0 => [(1, [.c (.int .i64 k), .c (.int .i64 n), .c (.int .i64 a), .c (.str s), .c (.sl 7 (encVls args)), .c (.sl 2 (encTys types)), .c (.sl 5 (encNds code))]), (2, [.c (.int .i64 0), .c (.int .i64 0), .c (.int .i64 0), .c (.str []), .own .exact 5 []]), (3, [.c (.int .i64 2), .c (.int .i64 0), .c (.int .i64 0), .c (.str []), .own .exact 5 []])]
        | j + 1 => [(1, [.c (.int .i64 k), .c (.int .i64 n), .c (.int .i64 a), .c (.str s), .c (.sl 7 (encVls args)), .c (.sl 2 (encTys types)), .c (.sl 5 (encNds code))]), (2, [.c (.int .i64 0), .c (.int .i64 0), .c (.int .i64 0), .c (.str []), .own .exact 5 []]), (3, [.c (.int .i64 2), .c (.int .i64 0), .c (.int .i64 0), .c (.str []), .bsl 3000 0 5 ((j + 1))]), (3000, rowCells (encNds (rNodes (args.take (j + 1)))) ++ [])])
      (fun _ => []) [1, 2, 3, 3000] 0
      (Nat.zero_le _) ⟨.inl rfl, .inl rfl, .inl rfl, .inl rfl, .inl rfl, .inl rfl, trivial⟩ ⟨rfl, rfl, rfl, trivial⟩ trivial rfl rfl rfl ?_
    intro i hi ih
    cases i with
    | zero =>
      rcases get_or args 0 hi with ⟨x, hx, hm⟩ | he
      · have hc := vls_lt hx
        have hq := hin x hm
        have hnx := rNodes_snoc args 0 x hx
        have hjl := lt_of_get hx
        generalize rNode x = q at hq hnx
        have hcs : ([] : List CV) ++ [encNd q] = encNds (rNodes (args.take (0 + 1))) := by rw [hnx, encNds_append, hone, List.take_zero, hnil]
        obtain ⟨q1, q2, q3, q4, q5⟩ := q
        obtain ⟨x1, x2, x3, x4, x5, x6, x7⟩ := x
        repeat' (first | refine st ?_ | (refine AK.condS rfl (fun h => ?_) (fun h => ?_) <;> first | (cases h; done) | rw [h] | skip) | refine uQ hf rfl rfl ?_ | refine uI rfl (0) rfl (vls_at hx) rfl ?_ | refine uC rfl hq ?_ | refine AOps.appendN Try.hX kn rfl rfl rfl rfl rfl rfl rfl rfl rfl rfl rfl rfl rfl rfl rfl rfl rfl rfl (List.cons_ne_nil _ _) rfl rfl rfl (show (0 + 1) * 64 ≤ 140737488355328 by omega) hcs (m := 0 + 1) (by rw [hrl, htl _ hjl]) ?_ | (refine uA rfl ?_ ?_ <;> (try (show (_ : Nat) * _ ≤ _; dsimp only))))
        refine AK.ren [(1, 1), (2, 2), (3, 3), (3000, 20)] [] (env' := [(11, .c (.int .i64 (((0 + 1 : Nat) : Int)))), (10, .c (.int .i64 (encVls args).length)), (9, .c (.sl 7 (encVls args))), (1, .ptr 1 0), (2, .ptr 2 0), (3, .ptr 3 0)]) (bs' := [(1, [.c (.int .i64 k), .c (.int .i64 n), .c (.int .i64 a), .c (.str s), .c (.sl 7 (encVls args)), .c (.sl 2 (encTys types)), .c (.sl 5 (encNds code))]), (2, [.c (.int .i64 0), .c (.int .i64 0), .c (.int .i64 0), .c (.str []), .own .exact 5 []]), (3, [.c (.int .i64 2), .c (.int .i64 0), .c (.int .i64 0), .c (.str []), .bsl 3000 0 5 ((0 + 1))]), (3000, rowCells (encNds (rNodes (args.take (0 + 1)))) ++ [])]) (ts' := []) (us' := [1, 2, 3, 3000])
          ⟨⟨_, rfl, .inl rfl⟩, ⟨_, rfl, .inl rfl⟩, ⟨_, rfl, .inl rfl⟩, ⟨_, rfl, ⟨_, rfl, rfl⟩⟩, ⟨_, rfl, ⟨_, rfl, rfl⟩⟩, ⟨_, rfl, ⟨_, rfl, rfl⟩⟩, trivial⟩
          ⟨⟨_, _, rfl, rfl, ⟨_, _, rfl, .inl rfl, ⟨_, _, rfl, .inl rfl, ⟨_, _, rfl, .inl rfl, ⟨_, _, rfl, .inl rfl, ⟨_, _, rfl, .inl rfl, ⟨_, _, rfl, .inl rfl, ⟨_, _, rfl, .inl rfl, rfl⟩⟩⟩⟩⟩⟩⟩⟩, ⟨_, _, rfl, rfl, ⟨_, _, rfl, .inl rfl, ⟨_, _, rfl, .inl rfl, ⟨_, _, rfl, .inl rfl, ⟨_, _, rfl, .inl rfl, ⟨_, _, rfl, rfl, rfl⟩⟩⟩⟩⟩⟩, ⟨_, _, rfl, rfl, ⟨_, _, rfl, .inl rfl, ⟨_, _, rfl, .inl rfl, ⟨_, _, rfl, .inl rfl, ⟨_, _, rfl, .inl rfl, ⟨_, _, rfl, ⟨_, rfl, rfl⟩, rfl⟩⟩⟩⟩⟩⟩, ⟨_, rowCells _, rfl, rfl, convL_nil _⟩, trivial⟩ rfl ?_
        exact ih 1 hjl (by show args.length - 1 < args.length - 0; omega)
      · have hc := vls_end he
        obtain rfl : args = [] := List.length_eq_zero_iff.1 he.symm
        clear ih hin
        by_cases hk1 : k = 1
        · subst hk1
          repeat' (first | refine st ?_ | (refine AK.condS rfl (fun h => ?_) (fun h => ?_) <;> first | (cases h; done) | rw [h] | skip) | refine uQ hf rfl rfl ?_ | (refine uA rfl ?_ ?_ <;> (try (show (_ : Nat) * _ ≤ _; dsimp only))))
          all_goals
            show (_ : CV) = _
            rw [rn1, encNd_mk]
            all_goals (try simp only [rnil, enil, encVls_length, List.map_nil])
        by_cases hk2 : k = 2
        · subst hk2
          repeat' (first | refine st ?_ | (refine AK.condS rfl (fun h => ?_) (fun h => ?_) <;> first | (cases h; done) | rw [h] | skip) | refine uQ hf rfl rfl ?_ | (refine uA rfl ?_ ?_ <;> (try (show (_ : Nat) * _ ≤ _; dsimp only))))
          all_goals
            show (_ : CV) = _
            rw [rn2, encNd_mk]
            all_goals (try simp only [rnil, enil, encVls_length, List.map_nil])
        by_cases hk6 : k = 6
        · subst hk6
          repeat' (first | refine st ?_ | (refine AK.condS rfl (fun h => ?_) (fun h => ?_) <;> first | (cases h; done) | rw [h] | skip) | refine uQ hf rfl rfl ?_ | (refine uA rfl ?_ ?_ <;> (try (show (_ : Nat) * _ ≤ _; dsimp only))))
          all_goals
            show (_ : CV) = _
            rw [rn6, encNd_mk]
            all_goals (try simp only [rnil, enil, encVls_length, List.map_nil])
        by_cases hk9 : k = 9
        · subst hk9
          repeat' (first | refine st ?_ | (refine AK.condS rfl (fun h => ?_) (fun h => ?_) <;> first | (cases h; done) | rw [h] | skip) | refine uQ hf rfl rfl ?_ | (refine uA rfl ?_ ?_ <;> (try (show (_ : Nat) * _ ≤ _; dsimp only))))
          all_goals
            show (_ : CV) = _
            rw [rn9, encNd_mk]
            all_goals (try simp only [rnil, enil, encVls_length, List.map_nil])
        by_cases hk10 : k = 10
        · subst hk10
          repeat' (first | refine st ?_ | (refine AK.condS rfl (fun h => ?_) (fun h => ?_) <;> first | (cases h; done) | rw [h] | skip) | refine uQ hf rfl rfl ?_ | (refine uA rfl ?_ ?_ <;> (try (show (_ : Nat) * _ ≤ _; dsimp only))))
          all_goals
            show (_ : CV) = _
            rw [rn10, encNd_mk]
            all_goals (try simp only [rnil, enil, encVls_length, List.map_nil])
        by_cases hk11 : k = 11
        · subst hk11
          repeat' (first | refine st ?_ | (refine AK.condS rfl (fun h => ?_) (fun h => ?_) <;> first | (cases h; done) | rw [h] | skip) | refine uQ hf rfl rfl ?_ | (refine uA rfl ?_ ?_ <;> (try (show (_ : Nat) * _ ≤ _; dsimp only))))
          all_goals
            show (_ : CV) = _
            rw [rn11, encNd_mk]
            all_goals (try simp only [rnil, enil, encVls_length, List.map_nil])
        by_cases hk12 : k = 12
        · subst hk12
          repeat' (first | refine st ?_ | (refine AK.condS rfl (fun h => ?_) (fun h => ?_) <;> first | (cases h; done) | rw [h] | skip) | refine uQ hf rfl rfl ?_ | (refine uA rfl ?_ ?_ <;> (try (show (_ : Nat) * _ ≤ _; dsimp only))))
          all_goals
            show (_ : CV) = _
            rw [rn12, encNd_mk]
            all_goals (try simp only [rnil, enil, encVls_length, List.map_nil])
        by_cases hk13 : k = 13
        · subst hk13
          have hc2 : decide (((0 : Nat) : Int) < (((0 : Nat)) : Int)) = false := by decide
          repeat' (first | refine st ?_ | (refine AK.condS rfl (fun h => ?_) (fun h => ?_) <;> first | (cases h; done) | rw [h] | skip) | refine uQ hf rfl rfl ?_ | (refine uA rfl ?_ ?_ <;> (try (show (_ : Nat) * _ ≤ _; dsimp only))))
          refine AK.loopE (α := Unit) (fun _ => True) (fun _ => 0) (fun _ => [(67, .c (.int .i64 (0 : Nat))), (66, .c (.int .i64 (0 : Nat))), (2, .ptr 2 0), (3, .ptr 3 0)])
            (fun _ => [(2, [.c (.int .i64 0), .c (.int .i64 0), .c (.int .i64 0), .c (.str []), .own .exact 5 []]), (3, [.c (.int .i64 3), .c (.int .i64 0), .c (.int .i64 0), .c (.str []), .own .exact 5 []])]) (fun _ => []) [2, 3] ()
            trivial ⟨.inl rfl, .inl rfl, .inl rfl, .inl rfl, trivial⟩ ⟨rfl, rfl, trivial⟩ trivial rfl rfl rfl ?_
          intro _ _ _
          repeat' (first | refine st ?_ | (refine AK.condS rfl (fun h => ?_) (fun h => ?_) <;> first | (cases h; done) | rw [h] | skip) | refine uQ hf rfl rfl ?_ | (refine uA rfl ?_ ?_ <;> (try (show (_ : Nat) * _ ≤ _; dsimp only))))
          all_goals
            show (_ : CV) = _
            rw [rn13, encNd_mk]
            all_goals (try simp only [rnil, enil, encVls_length, List.map_nil])
        have q1 : (k == 1) = false := by simpa using hk1
        have q2 : (k == 2) = false := by simpa using hk2
        have q6 : (k == 6) = false := by simpa using hk6
        have q9 : (k == 9) = false := by simpa using hk9
        have q10 : (k == 10) = false := by simpa using hk10
        have q11 : (k == 11) = false := by simpa using hk11
        have q12 : (k == 12) = false := by simpa using hk12
        have q13 : (k == 13) = false := by simpa using hk13
        repeat' (first | refine st ?_ | (refine AK.condS rfl (fun h => ?_) (fun h => ?_) <;> first | (cases h; done) | rw [h] | skip) | refine uQ hf rfl rfl ?_ | (refine uA rfl ?_ ?_ <;> (try (show (_ : Nat) * _ ≤ _; dsimp only))))
        all_goals
          show (_ : CV) = _
          rw [rnd hk1 hk2 hk6 hk9 hk10 hk11 hk12 hk13, encNd_mk, enil]
    | succ j =>
      show AK Try.prog Try.X _ _ _ _ _ ([(11, .c (.int .i64 (((j + 1 : Nat) : Int)))), (10, .c (.int .i64 (encVls args).length)), (9, .c (.sl 7 (encVls args))), (1, .ptr 1 0), (2, .ptr 2 0), (3, .ptr 3 0)]) ⟨[(1, [.c (.int .i64 k), .c (.int .i64 n), .c (.int .i64 a), .c (.str s), .c (.sl 7 (encVls args)), .c (.sl 2 (encTys types)), .c (.sl 5 (encNds code))]), (2, [.c (.int .i64 0), .c (.int .i64 0), .c (.int .i64 0), .c (.str []), .own .exact 5 []]), (3, [.c (.int .i64 2), .c (.int .i64 0), .c (.int .i64 0), .c (.str []), .bsl 3000 0 5 ((j + 1))]), (3000, rowCells (encNds (rNodes (args.take (j + 1)))) ++ [])], [], [1, 2, 3, 3000]⟩
      rcases get_or args (j + 1) hi with ⟨x, hx, hm⟩ | he
      · have hc := vls_lt hx
        have hq := hin x hm
        have hnx := rNodes_snoc args (j + 1) x hx
        have hjl := lt_of_get hx
        generalize rNode x = q at hq hnx
        have hn1 : j + 1 = (encNds (rNodes (args.take (j + 1)))).length := by rw [hrl, htl _ hi]
        have hf1 : (flatC (encNds (rNodes (args.take (j + 1))))).length = (j + 1) * 5 := by rw [hfl, htl _ hi]
        have hb1 : ((encNds (rNodes (args.take (j + 1)))).length + 1) * 64 ≤ 140737488355328 := by rw [hrl, htl _ hi]; omega
        have hm1 : (encNds (rNodes (args.take (j + 1 + 1)))).length = j + 1 + 1 := by rw [hrl, htl _ hjl]
        have hcs : encNds (rNodes (args.take (j + 1))) ++ [encNd q] = encNds (rNodes (args.take (j + 1 + 1))) := by rw [hnx, encNds_append, hone]
        obtain ⟨q1, q2, q3, q4, q5⟩ := q
        obtain ⟨x1, x2, x3, x4, x5, x6, x7⟩ := x
        repeat' (first | refine st ?_ | (refine AK.condS rfl (fun h => ?_) (fun h => ?_) <;> first | (cases h; done) | rw [h] | skip) | refine uQ hf rfl rfl ?_ | refine uI rfl ((j + 1)) rfl (vls_at hx) rfl ?_ | refine uC rfl hq ?_ | refine AOps.appendB Try.hX kn rfl rfl rfl rfl rfl rfl rfl rfl rfl rfl rfl rfl rfl rfl rfl (encNds (rNodes (args.take (j + 1)))) [] rfl hn1 hf1 rfl rfl rfl rfl rfl rfl rfl hb1 hcs (m := j + 1 + 1) hm1 rfl ?_ | (refine uA rfl ?_ ?_ <;> (try (show (_ : Nat) * _ ≤ _; dsimp only))))
        refine AK.ren [(1, 1), (2, 2), (3, 3), (3000, 20)] [] (env' := [(11, .c (.int .i64 (((j + 1 + 1 : Nat) : Int)))), (10, .c (.int .i64 (encVls args).length)), (9, .c (.sl 7 (encVls args))), (1, .ptr 1 0), (2, .ptr 2 0), (3, .ptr 3 0)]) (bs' := [(1, [.c (.int .i64 k), .c (.int .i64 n), .c (.int .i64 a), .c (.str s), .c (.sl 7 (encVls args)), .c (.sl 2 (encTys types)), .c (.sl 5 (encNds code))]), (2, [.c (.int .i64 0), .c (.int .i64 0), .c (.int .i64 0), .c (.str []), .own .exact 5 []]), (3, [.c (.int .i64 2), .c (.int .i64 0), .c (.int .i64 0), .c (.str []), .bsl 3000 0 5 ((j + 1 + 1))]), (3000, rowCells (encNds (rNodes (args.take (j + 1 + 1)))) ++ [])]) (ts' := []) (us' := [1, 2, 3, 3000])
          ⟨⟨_, rfl, .inl (succ64' (i := j + 1) (by omega))⟩, ⟨_, rfl, .inl rfl⟩, ⟨_, rfl, .inl rfl⟩, ⟨_, rfl, ⟨_, rfl, rfl⟩⟩, ⟨_, rfl, ⟨_, rfl, rfl⟩⟩, ⟨_, rfl, ⟨_, rfl, rfl⟩⟩, trivial⟩
          ⟨⟨_, _, rfl, rfl, ⟨_, _, rfl, .inl rfl, ⟨_, _, rfl, .inl rfl, ⟨_, _, rfl, .inl rfl, ⟨_, _, rfl, .inl rfl, ⟨_, _, rfl, .inl rfl, ⟨_, _, rfl, .inl rfl, ⟨_, _, rfl, .inl rfl, rfl⟩⟩⟩⟩⟩⟩⟩⟩, ⟨_, _, rfl, rfl, ⟨_, _, rfl, .inl rfl, ⟨_, _, rfl, .inl rfl, ⟨_, _, rfl, .inl rfl, ⟨_, _, rfl, .inl rfl, ⟨_, _, rfl, rfl, rfl⟩⟩⟩⟩⟩⟩, ⟨_, _, rfl, rfl, ⟨_, _, rfl, .inl rfl, ⟨_, _, rfl, .inl rfl, ⟨_, _, rfl, .inl rfl, ⟨_, _, rfl, .inl rfl, ⟨_, _, rfl, ⟨_, rfl, rfl⟩, rfl⟩⟩⟩⟩⟩⟩, ⟨_, rowCells _, rfl, rfl, convL_nil _⟩, trivial⟩ rfl ?_
        exact ih (j + 1 + 1) hjl (by show args.length - (j + 1 + 1) < args.length - (j + 1); omega)
      · have hc := vls_end he
        clear ih hin
        by_cases hk13 : k = 13
        · subst hk13
          repeat' (first | refine st ?_ | (refine AK.condS rfl (fun h => ?_) (fun h => ?_) <;> first | (cases h; done) | rw [h] | skip) | refine uQ hf rfl rfl ?_ | (refine uA rfl ?_ ?_ <;> (try (show (_ : Nat) * _ ≤ _; dsimp only))))
          refine AK.loopE (α := Nat) (fun i => i ≤ args.length) (fun i => args.length - i) (fun i => [(67, .c (.int .i64 (i : Nat))), (66, .c (.int .i64 ((j + 1 : Nat) : Int))), (2, .ptr 2 0), (3, .ptr 3 0)]) (fun i => [(2, [.c (.int .i64 0), .c (.int .i64 0), .c (.int .i64 0), .c (.str []), .own .exact 5 []]), (3, [.c (.int .i64 3), .c (.int .i64 0), .c (.int .i64 0), .c (.str []), .bsl 3000 0 5 (j + 1)]), (3000, rowCells (encNds (((rNodes args).take i).map set28 ++ (rNodes args).drop i)))]) (fun _ => []) [2, 3, 3000] 0
            (Nat.zero_le _) ⟨.inl rfl, .inl rfl, .inl rfl, .inl rfl, trivial⟩ ⟨rfl, rfl, (by show some _ = some _; simp only [List.append_nil, List.take_zero, List.map_nil, List.nil_append, List.drop_zero]; rw [he, List.take_length]), trivial⟩ trivial rfl (okB_cons rfl rfl (okB_cons rfl rfl (okB_cons rfl (okAL_rows _ _) rfl))) rfl ?_
          intro i hi2 ih
          rcases get_or (rNodes args) i (by rw [rNodes_len]; exact hi2) with ⟨y, hy, hym⟩ | he2
          · have hyl := lt_of_get hy
            rw [rNodes_len] at hyl
            have hlt : i < j + 1 := by omega
            have hc2 : decide (((i : Nat) : Int) < ((j + 1 : Nat) : Int)) = true := decide_eq_true (by omega)
            have hstep := map28_step (rNodes args) i y hy
            have hwr : writeAt (0 + i * 5 + 2) [AV.c (.int .i64 28)] (rowCells (encNds (((rNodes args).take i).map set28 ++ (rNodes args).drop i))) = some (rowCells (encNds (((rNodes args).take (i + 1)).map set28 ++ (rNodes args).drop (i + 1)))) := by
              rw [writeAt_one (by simp only [rowCells, List.length_map]; rw [hfl]; simp only [List.length_append, List.length_map, List.length_take, List.length_drop, rNodes_len]; omega), set28_row _ i y (map28_at _ i y hy), hstep]
            repeat' (first | refine st ?_ | (refine AK.condS rfl (fun h => ?_) (fun h => ?_) <;> first | (cases h; done) | rw [h] | skip) | refine uQ hf rfl rfl ?_ | refine AOps.indexB Try.hX kn rfl rfl rfl rfl rfl rfl rfl rfl rfl i rfl hlt ?_ | refine AOps.store Try.hX kn rfl rfl rfl rfl rfl rfl rfl rfl rfl hwr rfl ?_ | (refine uA rfl ?_ ?_ <;> (try (show (_ : Nat) * _ ≤ _; dsimp only))))
            refine AK.again (ih (i + 1) (by omega) (by show args.length - (i + 1) < args.length - i; omega)) ⟨.inl (succ64 (by omega)), .inl rfl, .inl rfl, .inl rfl, trivial⟩ ⟨rfl, rfl, rfl, trivial⟩ trivial rfl (okB_cons rfl rfl (okB_cons rfl rfl (okB_cons rfl (okAL_rows _ _) rfl))) rfl
          · rw [rNodes_len] at he2
            have hc2 : decide (((i : Nat) : Int) < ((j + 1 : Nat) : Int)) = false := decide_eq_false (by omega)
            clear ih
            refine AK.freezeB 3000 5 (encNds ((rNodes args).map set28)) (tail := []) (env' := [(67, .c (.int .i64 (i : Nat))), (66, .c (.int .i64 ((j + 1 : Nat) : Int))), (2, .ptr 2 0), (3, .ptr 3 0)]) (bs' := [(2, [.c (.int .i64 0), .c (.int .i64 0), .c (.int .i64 0), .c (.str []), .own .exact 5 []]), (3, [.c (.int .i64 3), .c (.int .i64 0), .c (.int .i64 0), .c (.str []), .c (.sl 5 (encNds ((rNodes args).map set28)))])]) (ts' := []) rfl (by simp only [List.append_nil]; rw [he2, ← rNodes_len args, List.take_length, List.drop_length, List.append_nil]) (encNds_cells _)
              ⟨⟨_, rfl, .inl rfl⟩, ⟨_, rfl, .inl rfl⟩, ⟨_, rfl, .inl rfl⟩, ⟨_, rfl, .inl rfl⟩, trivial⟩ ⟨⟨_, rfl, .inl rfl, .inl rfl, .inl rfl, .inl rfl, .inl rfl, trivial⟩, ⟨_, rfl, .inl rfl, .inl rfl, .inl rfl, .inl rfl, .inr ⟨_, rfl, (by rw [hrl, List.length_map, rNodes_len]; exact he), rfl⟩, trivial⟩, trivial⟩ rfl trivial ?_
            repeat' (first | refine st ?_ | (refine AK.condS rfl (fun h => ?_) (fun h => ?_) <;> first | (cases h; done) | rw [h] | skip) | refine uQ hf rfl rfl ?_ | (refine uA rfl ?_ ?_ <;> (try (show (_ : Nat) * _ ≤ _; dsimp only))))
            all_goals
              show (_ : CV) = _
              rw [rn13, encNd_mk]
        refine AK.freezeB 3000 5 (encNds (rNodes args)) (tail := []) (env' := [(11, .c (.int .i64 (((j + 1 : Nat) : Int)))), (10, .c (.int .i64 (encVls args).length)), (9, .c (.sl 7 (encVls args))), (1, .ptr 1 0), (2, .ptr 2 0), (3, .ptr 3 0)]) (bs' := [(1, [.c (.int .i64 k), .c (.int .i64 n), .c (.int .i64 a), .c (.str s), .c (.sl 7 (encVls args)), .c (.sl 2 (encTys types)), .c (.sl 5 (encNds code))]), (2, [.c (.int .i64 0), .c (.int .i64 0), .c (.int .i64 0), .c (.str []), .own .exact 5 []]), (3, [.c (.int .i64 2), .c (.int .i64 0), .c (.int .i64 0), .c (.str []), .c (.sl 5 (encNds (rNodes args)))])]) (ts' := []) rfl (by simp only [List.append_nil]; rw [he, List.take_length]) (encNds_cells _)
          ⟨⟨_, rfl, .inl rfl⟩, ⟨_, rfl, .inl rfl⟩, ⟨_, rfl, .inl rfl⟩, ⟨_, rfl, .inl rfl⟩, ⟨_, rfl, .inl rfl⟩, ⟨_, rfl, .inl rfl⟩, trivial⟩ ⟨⟨_, rfl, .inl rfl, .inl rfl, .inl rfl, .inl rfl, .inl rfl, .inl rfl, .inl rfl, trivial⟩, ⟨_, rfl, .inl rfl, .inl rfl, .inl rfl, .inl rfl, .inl rfl, trivial⟩, ⟨_, rfl, .inl rfl, .inl rfl, .inl rfl, .inl rfl, .inr ⟨_, rfl, (by rw [hrl, rNodes_len]; exact he), rfl⟩, trivial⟩, trivial⟩ rfl trivial ?_
        by_cases hk1 : k = 1
        · subst hk1
          repeat' (first | refine st ?_ | (refine AK.condS rfl (fun h => ?_) (fun h => ?_) <;> first | (cases h; done) | rw [h] | skip) | refine uQ hf rfl rfl ?_ | (refine uA rfl ?_ ?_ <;> (try (show (_ : Nat) * _ ≤ _; dsimp only))))
          all_goals
            show (_ : CV) = _
            rw [rn1, encNd_mk]
            all_goals (try simp only [encVls_length])
        by_cases hk2 : k = 2
        · subst hk2
          repeat' (first | refine st ?_ | (refine AK.condS rfl (fun h => ?_) (fun h => ?_) <;> first | (cases h; done) | rw [h] | skip) | refine uQ hf rfl rfl ?_ | (refine uA rfl ?_ ?_ <;> (try (show (_ : Nat) * _ ≤ _; dsimp only))))
          all_goals
            show (_ : CV) = _
            rw [rn2, encNd_mk]
            all_goals (try simp only [encVls_length])
        by_cases hk6 : k = 6
        · subst hk6
          repeat' (first | refine st ?_ | (refine AK.condS rfl (fun h => ?_) (fun h => ?_) <;> first | (cases h; done) | rw [h] | skip) | refine uQ hf rfl rfl ?_ | (refine uA rfl ?_ ?_ <;> (try (show (_ : Nat) * _ ≤ _; dsimp only))))
          all_goals
            show (_ : CV) = _
            rw [rn6, encNd_mk]
            all_goals (try simp only [enil, encVls_length])
        by_cases hk9 : k = 9
        · subst hk9
          repeat' (first | refine st ?_ | (refine AK.condS rfl (fun h => ?_) (fun h => ?_) <;> first | (cases h; done) | rw [h] | skip) | refine uQ hf rfl rfl ?_ | (refine uA rfl ?_ ?_ <;> (try (show (_ : Nat) * _ ≤ _; dsimp only))))
          all_goals
            show (_ : CV) = _
            rw [rn9, encNd_mk]
            all_goals (try simp only [encVls_length])
        by_cases hk10 : k = 10
        · subst hk10
          repeat' (first | refine st ?_ | (refine AK.condS rfl (fun h => ?_) (fun h => ?_) <;> first | (cases h; done) | rw [h] | skip) | refine uQ hf rfl rfl ?_ | (refine uA rfl ?_ ?_ <;> (try (show (_ : Nat) * _ ≤ _; dsimp only))))
          all_goals
            show (_ : CV) = _
            rw [rn10, encNd_mk]
            all_goals (try simp only [encVls_length])
        by_cases hk11 : k = 11
        · subst hk11
          repeat' (first | refine st ?_ | (refine AK.condS rfl (fun h => ?_) (fun h => ?_) <;> first | (cases h; done) | rw [h] | skip) | refine uQ hf rfl rfl ?_ | (refine uA rfl ?_ ?_ <;> (try (show (_ : Nat) * _ ≤ _; dsimp only))))
          all_goals
            show (_ : CV) = _
            rw [rn11, encNd_mk]
            all_goals (try simp only [encVls_length])
        by_cases hk12 : k = 12
        · subst hk12
          repeat' (first | refine st ?_ | (refine AK.condS rfl (fun h => ?_) (fun h => ?_) <;> first | (cases h; done) | rw [h] | skip) | refine uQ hf rfl rfl ?_ | (refine uA rfl ?_ ?_ <;> (try (show (_ : Nat) * _ ≤ _; dsimp only))))
          all_goals
            show (_ : CV) = _
            rw [rn12, encNd_mk]
            all_goals (try simp only [encVls_length])
        have q1 : (k == 1) = false := by simpa using hk1
        have q2 : (k == 2) = false := by simpa using hk2
        have q6 : (k == 6) = false := by simpa using hk6
        have q9 : (k == 9) = false := by simpa using hk9
        have q10 : (k == 10) = false := by simpa using hk10
        have q11 : (k == 11) = false := by simpa using hk11
        have q12 : (k == 12) = false := by simpa using hk12
        have q13 : (k == 13) = false := by simpa using hk13
        repeat' (first | refine st ?_ | (refine AK.condS rfl (fun h => ?_) (fun h => ?_) <;> first | (cases h; done) | rw [h] | skip) | refine uQ hf rfl rfl ?_ | (refine uA rfl ?_ ?_ <;> (try (show (_ : Nat) * _ ≤ _; dsimp only))))
        all_goals
          show (_ : CV) = _
          rw [rnd hk1 hk2 hk6 hk9 hk10 hk11 hk12 hk13, encNd_mk, enil]
termination_by v => SizeOf.sizeOf v
decreasing_by
  have := List.sizeOf_lt_of_mem hx
  simp at this ⊢; omega
end Go.Proofs

-- WIDE
set_option linter.unusedVariables false
set_option linter.unusedSimpArgs false
namespace Go.Proofs
open Go.Abs

theorem numB_pos (n : Int) : 1 ≤ (numB n).length := by
  have := numB_ne n
  cases h : numB n with
  | nil => exact absurd h this
  | cons a b => simp
mutual
/-- Trees that are read are not larger than their bytes. -/
theorem bytesN_size : ∀ (t : Nd) (d : Int), wrong t d = 0 → ndSize t ≤ (bytesN t).length
  | .mk kind n p s args, d, h => by
    obtain ⟨h1, h2⟩ := wrong_eq h
    obtain ⟨_, hk, _, _, hs, ha, _, _, _⟩ := wrong1_eq h1
    have ih := bytesNs_size args (d + 1) h2
    have h3 := numB_pos (s.length : Int)
    have h4 := numB_pos (args.length : Int)
    simp only [ndSize]
    rcases hk with rfl | rfl | ⟨rfl, hp⟩ | rfl
    · obtain rfl := hs (by omega)
      have := ha (by omega); rw [List.length_eq_zero_iff] at this; subst this
      rw [bytes0]; simp [ndsSize]
    · have := ha (by omega); rw [List.length_eq_zero_iff] at this; subst this
      rw [bytes1]; simp only [ndsSize, List.length_cons, List.length_append]; omega
    · obtain rfl := hs (by omega)
      rw [bytes2]; simp only [List.length_cons, List.length_append, List.length_nil]; omega
    · obtain rfl := hs (by omega)
      rw [bytes3]; simp only [List.length_cons, List.length_append, List.length_nil]; omega
theorem bytesNs_size : ∀ (l : List Nd) (d : Int), wrongs l d = 0 → ndsSize l ≤ (bytesNs l).length
  | [], d, _ => by simp [ndsSize]
  | t :: l, d, h => by
    have h1 := wrongs_at h t (by simp)
    have h2 : wrongs l d = 0 := by simp only [wrongs] at h; rw [if_pos h1] at h; exact h
    have ih1 := bytesN_size t d h1
    have ih2 := bytesNs_size l d h2
    simp only [bytesNs, ndsSize, List.length_append]; omega
end
attribute [local irreducible] AK AOps QCalls ECalls tDecode bytesN tGoodN ndSame

end Go.Proofs

set_option linter.unusedVariables false
set_option linter.unusedSimpArgs false
set_option maxRecDepth 100000
namespace Go.Proofs
open Go.Abs
theorem tDecode_small {s : List UInt8} {n : Nat} (hs : s.length ≤ n) : ndSize (tDecode s).1 ≤ n + 1 := by
  by_cases he : (tDecode s).2 = 0
  · obtain ⟨hg, hb⟩ := tDecode_only he
    have h1 := bytesN_size _ 1 (tGoodN_zero.1 hg).1
    rw [hb] at h1; omega
  · rw [tDecode_bad he]; simp [nd0, ndSize, ndsSize]
theorem tUnpack_nil (t : Ty) : tUnpack t [] = (vl0, 1) := rfl
theorem tUnpack_no (t : Ty) (c : UInt8) (r : List UInt8) (h : ¬ (c = 5 ∧ (c :: r).length ≤ 200 ∧ tPack t = true ∧ (tDecode r).2 = 0)) : tUnpack t (c :: r) = (vl0, 1) := by simp only [tUnpack, if_neg h]
theorem tUnpack_go (t : Ty) (r : List UInt8) (h : (5 :: r : List UInt8).length ≤ 200 ∧ tPack t = true ∧ (tDecode r).2 = 0) : tUnpack t (5 :: r) = tPar t (tDecode r).1 := by
  unfold tUnpack
  exact if_pos ⟨rfl, h⟩
attribute [local irreducible] AK AOps QCalls ECalls vNode vNodes vElts tHas vHas tGoodN tDecode bytesN vPar tGood tPack tPar tUnpack

set_option maxHeartbeats 0 in
theorem vParse_calls (t : Ty) (n : Nd) (ht : tySize t ≤ 1048577) (hn : ndSize n ≤ 1048577) : QCalls Try.prog Try.X 81 [encTy t, encNd n] (.tup [encVl (tPar t n).1, .int .i64 (tPar t n).2]) := by
  have h1 := Good_calls t ht
  have h2 := treeGood_calls n hn
  obtain ⟨T, ts⟩ := t
  obtain ⟨a1, a2, a3, a4, a5⟩ := n
  cases g1 : tGood (.mk T ts) with
  | false =>
    rw [g1] at h1
    rw [show tPar (.mk T ts) (.mk a1 a2 a3 a4 a5) = (vl0, 1) from by unfold tPar; rw [if_neg (by simp [g1])]]
    refine QCalls.of Try.func81 rfl (fun args w => Try.call81 args w) (Nat.le_of_ble_eq_true rfl) [(0, .c (encTy (.mk T ts))), (1, .c (encNd (.mk a1 a2 a3 a4 a5)))] rfl fun β hβ => ?_; have hf := Try.func81
    exact dq
  | true =>
  rw [g1] at h1
  by_cases g2 : tGoodN (.mk a1 a2 a3 a4 a5) = 0
  rotate_left
  · rw [show tPar (.mk T ts) (.mk a1 a2 a3 a4 a5) = (vl0, 1) from by unfold tPar; rw [if_neg (fun h => g2 h.2.1)]]
    have e1 : (tGoodN (.mk a1 a2 a3 a4 a5) != 0) = true := by simpa using g2
    generalize tGoodN (.mk a1 a2 a3 a4 a5) = z at h2 e1
    refine QCalls.of Try.func81 rfl (fun args w => Try.call81 args w) (Nat.le_of_ble_eq_true rfl) [(0, .c (encTy (.mk T ts))), (1, .c (encNd (.mk a1 a2 a3 a4 a5)))] rfl fun β hβ => ?_; have hf := Try.func81
    exact dq
  rw [g2] at h2
  have h3 := vparse_calls (.mk a1 a2 a3 a4 a5) (.mk T ts) (tGood_bad g1) hn ht
  have hsz := vPar_size (.mk a1 a2 a3 a4 a5) (.mk T ts)
  have h4 := has_calls (vPar (.mk a1 a2 a3 a4 a5) (.mk T ts)).1 (.mk T ts) (tGood_bad g1) (by omega) ht
  rcases hr : vPar (.mk a1 a2 a3 a4 a5) (.mk T ts) with ⟨⟨y1, y2, y3, y4, y5, y6, y7⟩, b⟩
  rw [hr] at h3 h4
  simp only at h3 h4
  cases b with
  | false =>
    rw [show tPar (.mk T ts) (.mk a1 a2 a3 a4 a5) = (vl0, 1) from by unfold tPar; rw [if_neg (by simp [hr])]]
    refine QCalls.of Try.func81 rfl (fun args w => Try.call81 args w) (Nat.le_of_ble_eq_true rfl) [(0, .c (encTy (.mk T ts))), (1, .c (encNd (.mk a1 a2 a3 a4 a5)))] rfl fun β hβ => ?_; have hf := Try.func81
    exact dq
  | true =>
    cases g4 : vHas (.mk y1 y2 y3 y4 y5 y6 y7) (.mk T ts) with
    | false =>
      rw [g4] at h4
      rw [show tPar (.mk T ts) (.mk a1 a2 a3 a4 a5) = (vl0, 1) from by unfold tPar; rw [if_neg (by simp [hr, g4])]]
      refine QCalls.of Try.func81 rfl (fun args w => Try.call81 args w) (Nat.le_of_ble_eq_true rfl) [(0, .c (encTy (.mk T ts))), (1, .c (encNd (.mk a1 a2 a3 a4 a5)))] rfl fun β hβ => ?_; have hf := Try.func81
      exact dq
    | true =>
      rw [g4] at h4
      rw [show tPar (.mk T ts) (.mk a1 a2 a3 a4 a5) = (.mk y1 y2 y3 y4 y5 y6 y7, 0) from by unfold tPar; rw [hr, if_pos ⟨g1, g2, rfl, g4⟩]]
      refine QCalls.of Try.func81 rfl (fun args w => Try.call81 args w) (Nat.le_of_ble_eq_true rfl) [(0, .c (encTy (.mk T ts))), (1, .c (encNd (.mk a1 a2 a3 a4 a5)))] rfl fun β hβ => ?_; have hf := Try.func81
      exact dq

/-- What CutPrefix of one byte answers. -/
def cut5 : List UInt8 → List UInt8 × Bool
  | [] => ([], false)
  | c :: r => if c = 5 then (r, true) else (c :: r, false)
theorem hasPrefix_calls (s : List UInt8) : QCalls Try.prog Try.X 152 [.str s, .str [5]] (.bool (cut5 s).2) := by
  cases s with
  | nil =>
    refine QCalls.of Try.func152 rfl (fun args w => Try.call152 args w) (Nat.le_of_ble_eq_true rfl) [(0, .c (.str [])), (1, .c (.str [5]))] rfl fun β hβ => ?_; have hf := Try.func152
    exact dq
  | cons c r =>
    have e1 : decide ((((c :: r).length : Nat) : Int) ≥ ((([5] : List UInt8).length : Nat) : Int)) = true := decide_eq_true (by simp only [List.length_cons, List.length_nil]; omega)
    have e2 : (cut5 (c :: r)).2 = ([c] == [5]) := by
      simp only [cut5]
      by_cases h : c = 5
      · rw [if_pos h, h]; rfl
      · rw [if_neg h]; simp [h]
    rw [e2]
    refine QCalls.of Try.func152 rfl (fun args w => Try.call152 args w) (Nat.le_of_ble_eq_true rfl) [(0, .c (.str (c :: r))), (1, .c (.str [5]))] rfl fun β hβ => ?_; have hf := Try.func152
    exact dq
theorem cutPrefixL_calls (s : List UInt8) : QCalls Try.prog Try.X 148 [.str s, .str [5]] (.tup [.str (cut5 s).1, .bool (cut5 s).2]) := by
  have h1 := hasPrefix_calls s
  cases s with
  | nil =>
    refine QCalls.of Try.func148 rfl (fun args w => Try.call148 args w) (Nat.le_of_ble_eq_true rfl) [(0, .c (.str [])), (1, .c (.str [5]))] rfl fun β hβ => ?_; have hf := Try.func148
    exact dq
  | cons c r =>
    by_cases h : c = 5
    · subst h
      rw [show cut5 (5 :: r) = (r, true) from by simp [cut5]] at h1 ⊢
      simp only at h1
      refine QCalls.of Try.func148 rfl (fun args w => Try.call148 args w) (Nat.le_of_ble_eq_true rfl) [(0, .c (.str (5 :: r))), (1, .c (.str [5]))] rfl fun β hβ => ?_; have hf := Try.func148
      exact dq
    · rw [show cut5 (c :: r) = (c :: r, false) from by simp [cut5, h]] at h1 ⊢
      simp only at h1
      refine QCalls.of Try.func148 rfl (fun args w => Try.call148 args w) (Nat.le_of_ble_eq_true rfl) [(0, .c (.str (c :: r))), (1, .c (.str [5]))] rfl fun β hβ => ?_; have hf := Try.func148
      exact dq
theorem cutPrefix_calls (s : List UInt8) : QCalls Try.prog Try.X 125 [.str s, .str [5]] (.tup [.str (cut5 s).1, .bool (cut5 s).2]) := by
  have h1 := cutPrefixL_calls s
  generalize cut5 s = z at h1
  refine QCalls.of Try.func125 rfl (fun args w => Try.call125 args w) (Nat.le_of_ble_eq_true rfl) [(0, .c (.str s)), (1, .c (.str [5]))] rfl fun β hβ => ?_; have hf := Try.func125
  exact dq

set_option maxHeartbeats 0 in
theorem Unpack_calls (t : Ty) (s : List UInt8) (ht : tySize t ≤ 1048577) : QCalls Try.prog Try.X 83 [encTy t, .str s] (.tup [encVl (tUnpack t s).1, .int .i64 (tUnpack t s).2]) := by
  have h1 := cutPrefix_calls s
  have h2 := Packed_calls t (by omega)
  obtain ⟨T, ts⟩ := t
  cases s with
  | nil =>
    rw [tUnpack_nil]
    refine QCalls.of Try.func83 rfl (fun args w => Try.call83 args w) (Nat.le_of_ble_eq_true rfl) [(0, .c (encTy (.mk T ts))), (1, .c (.str []))] rfl fun β hβ => ?_; have hf := Try.func83
    exact dq
  | cons c r =>
  by_cases hc : c = 5
  rotate_left
  · rw [tUnpack_no _ _ _ (fun h => hc h.1)]
    rw [show cut5 (c :: r) = (c :: r, false) from by simp [cut5, hc]] at h1
    simp only at h1
    refine QCalls.of Try.func83 rfl (fun args w => Try.call83 args w) (Nat.le_of_ble_eq_true rfl) [(0, .c (encTy (.mk T ts))), (1, .c (.str (c :: r)))] rfl fun β hβ => ?_; have hf := Try.func83
    exact dq
  subst hc
  rw [show cut5 (5 :: r) = (r, true) from by simp [cut5]] at h1
  simp only at h1
  by_cases hl : (5 :: r : List UInt8).length ≤ 200
  rotate_left
  · rw [tUnpack_no _ _ _ (fun h => hl h.2.1)]
    have e1 : decide ((((5 :: r : List UInt8).length : Nat) : Int) > 200) = true := decide_eq_true (by omega)
    have e2 : (bif false then true else decide ((((5 :: r : List UInt8).length : Nat) : Int) > 200)) = true := e1
    refine QCalls.of Try.func83 rfl (fun args w => Try.call83 args w) (Nat.le_of_ble_eq_true rfl) [(0, .c (encTy (.mk T ts))), (1, .c (.str (5 :: r)))] rfl fun β hβ => ?_; have hf := Try.func83
    exact dq
  have e1 : decide ((((5 :: r : List UInt8).length : Nat) : Int) > 200) = false := decide_eq_false (by omega)
  cases g2 : tPack (.mk T ts) with
  | false =>
    rw [g2] at h2
    rw [tUnpack_no _ _ _ (fun h => by rw [g2] at h; exact absurd h.2.2.1 (by simp))]
    refine QCalls.of Try.func83 rfl (fun args w => Try.call83 args w) (Nat.le_of_ble_eq_true rfl) [(0, .c (encTy (.mk T ts))), (1, .c (.str (5 :: r)))] rfl fun β hβ => ?_; have hf := Try.func83
    exact dq
  | true =>
  rw [g2] at h2
  have h3 := Decode_calls r
  by_cases hd : (tDecode r).2 = 0
  rotate_left
  · rw [tUnpack_no _ _ _ (fun h => hd h.2.2.2)]
    rcases hr : tDecode r with ⟨⟨a1, a2, a3, a4, a5⟩, e⟩
    rw [hr] at h3 hd
    simp only at h3 hd
    have e3 : (e != 0) = true := by simpa using hd
    refine QCalls.of Try.func83 rfl (fun args w => Try.call83 args w) (Nat.le_of_ble_eq_true rfl) [(0, .c (encTy (.mk T ts))), (1, .c (.str (5 :: r)))] rfl fun β hβ => ?_; have hf := Try.func83
    exact dq
  rw [tUnpack_go _ _ ⟨hl, g2, hd⟩]
  have hsm := tDecode_small (s := r) (n := 200) (by simp only [List.length_cons] at hl; omega)
  have h4 := vParse_calls (.mk T ts) (tDecode r).1 ht (by omega)
  rcases hr : tDecode r with ⟨⟨a1, a2, a3, a4, a5⟩, e⟩
  rw [hr] at h3 h4 hd
  simp only at h3 h4 hd
  subst hd
  rcases hp : tPar (.mk T ts) (.mk a1 a2 a3 a4 a5) with ⟨⟨y1, y2, y3, y4, y5, y6, y7⟩, e2⟩
  rw [hp] at h4
  refine QCalls.of Try.func83 rfl (fun args w => Try.call83 args w) (Nat.le_of_ble_eq_true rfl) [(0, .c (encTy (.mk T ts))), (1, .c (.str (5 :: r)))] rfl fun β hβ => ?_; have hf := Try.func83
  exact dq
end Go.Proofs
