/- What slices.IndexFunc over types answers. -/
import Derived.Test.YtcinhjfonmjneaaKind1
set_option linter.unusedVariables false
set_option linter.unusedSimpArgs false
namespace Go.Proofs
open Go.Abs
attribute [local irreducible] AK AOps QCalls

/-- The place of the first that has a property, -1 if there is none. -/
def idxOf {α : Type} (p : α → Bool) : List α → Int
  | [] => -1
  | x :: l => if p x then 0 else (match idxOf p l with
    | -1 => -1
    | n => n + 1)

theorem idxOf_cases {α : Type} (p : α → Bool) : ∀ (l : List α), (idxOf p l = -1 ∧ ∀ x ∈ l, p x = false) ∨ ∃ (i : Nat) (x : α), l[i]? = some x ∧ p x = true ∧ (∀ (j : Nat) y, j < i → l[j]? = some y → p y = false) ∧ idxOf p l = i
  | [] => .inl ⟨rfl, by simp⟩
  | x :: l => by
    by_cases hx : p x
    · right; exact ⟨0, x, by simp, hx, by simp, by simp [idxOf, hx]⟩
    · rcases idxOf_cases p l with ⟨h1, h2⟩ | ⟨i, y, h1, h2, h3, h4⟩
      · left; exact ⟨by simp [idxOf, hx, h1], by simpa [hx] using h2⟩
      · right
        refine ⟨i + 1, y, by simpa using h1, h2, ?_, ?_⟩
        · intro j z hj hz
          cases j with
          | zero => simp at hz; subst hz; simpa using hx
          | succ j => simp at hz; exact h3 j z (by omega) hz
        · have : idxOf p (x :: l) = (match idxOf p l with | -1 => -1 | n => n + 1) := by simp [idxOf, hx]
          rw [this, h4]
          split
          · omega
          · rfl

theorem idxOf_first {α : Type} (p : α → Bool) (l : List α) (i : Nat) (x : α) (hx : l[i]? = some x) (h : p x = true) (hb : ∀ (j : Nat) y, j < i → l[j]? = some y → p y = false) : idxOf p l = i := by
  rcases idxOf_cases p l with ⟨h1, h2⟩ | ⟨k, y, h1, h2, h3, h4⟩
  · have := h2 x (List.mem_of_getElem? hx); rw [h] at this; simp at this
  · rw [h4]
    rcases Nat.lt_trichotomy i k with hlt | rfl | hlt
    · have := h3 i x hlt hx; rw [h] at this; simp at this
    · rfl
    · have := hb k y hlt h1; rw [h2] at this; simp at this

theorem idxOf_none {α : Type} (p : α → Bool) (l : List α) (h : ∀ (j : Nat) y, l[j]? = some y → p y = false) : idxOf p l = -1 := by
  rcases idxOf_cases p l with ⟨h1, _⟩ | ⟨k, y, h1, h2, _⟩
  · exact h1
  · have := h k y h1; rw [h2] at this; simp at this

theorem idxOf_any {α : Type} (p : α → Bool) (l : List α) : decide (idxOf p l ≥ 0) = l.any p := by
  rcases idxOf_cases p l with ⟨h1, h2⟩ | ⟨k, y, h1, h2, h3, h4⟩
  · rw [h1]; symm; simp; intro x hx; simpa using h2 x hx
  · rw [h4]; symm; simp; exact ⟨y, List.mem_of_getElem? h1, h2⟩

set_option maxHeartbeats 1000000 in
theorem indexTy_calls (l : List Ty) (p : Ty → Bool) (f : FuncId) (caps : List CV) (hp : ∀ x ∈ l, QCalls Try.prog Try.X f (encTy x :: caps) (.bool (p x))) (hlen : l.length ≤ 1099511627776) :
    QCalls Try.prog Try.X 130 [.sl 2 (encTys l), .clo f caps] (.int .i64 (idxOf p l)) := by
  refine QCalls.of Try.func130 rfl (fun args w => Try.call130 args w) (Nat.le_of_ble_eq_true rfl) [(0, .c (.sl 2 (encTys l))), (1, .c (.clo f caps))] rfl fun β hβ => ?_; have hf := Try.func130
  refine AK.runP Try.hX Try.mixed 300 rfl ?_
  refine AK.loopE (α := Nat) (fun i => i ≤ l.length ∧ ∀ (j : Nat) x, j < i → l[j]? = some x → p x = false) (fun i => l.length - i)
    (fun i => [(8, .c (.int .i64 i)), (7, .c (.int .i64 (encTys l).length)), (0, .c (.sl 2 (encTys l))), (1, .c (.clo f caps))]) (fun _ => []) (fun _ => []) [] 0
    ⟨by omega, by intro j x h; omega⟩ ⟨.inl rfl, .inl rfl, .inl rfl, .inl rfl, trivial⟩ trivial trivial rfl rfl rfl ?_
  rintro i ⟨hi, hno⟩ ih
  repeat' (first | refine AK.runP Try.hX Try.mixed 300 rfl ?_ | refine AK.condTe rfl asm ?_ | refine AK.condFe rfl asm ?_ | (refine AK.condS rfl (fun h => ?_) (fun h => ?_) <;> first | (cases h; done) | rw [h] | skip) | refine AK.retQ Try.hX hf rfl rfl ?_ | refine AK.region Try.mixed rfl ?_ | refine AOps.done ?_ | refine AOps.runS Try.hX kn rfl ?_ | refine AOps.box kn rfl rfl rfl rfl rfl rfl ?_ | refine AOps.alloc Try.hX kn rfl rfl rfl rfl rfl rfl rfl ?_ | refine AOps.store Try.hX kn rfl rfl rfl rfl rfl rfl rfl rfl rfl rfl rfl ?_ | refine AOps.buildSlice Try.hX kn rfl rfl rfl rfl rfl rfl rfl rfl rfl rfl rfl rfl ?_ | refine AOps.append Try.hX kn rfl rfl rfl rfl rfl rfl rfl rfl rfl rfl rfl rfl rfl rfl rfl rfl rfl rfl rfl rfl rfl ?_ ?_ | refine AOps.toStr Try.hX kn rfl rfl rfl rfl rfl rfl rfl rfl rfl rfl rfl (by first | exact rfl | exact byte1 _) rfl ?_ | refine AOps.buildArr Try.hX kn rfl rfl rfl rfl rfl rfl rfl rfl ?_ | refine AOps.indexArr Try.hX kn rfl rfl rfl rfl rfl rfl rfl rfl rfl rfl rfl rfl ?_ | refine AOps.runP1 Try.hX kn rfl rfl ?_ | (refine AOps.splitT rfl rfl rfl asm (fun h => ?_) <;> (fail_if_success (cases h; done)) <;> rw [h]) | (refine AOps.splitF rfl rfl rfl asm (fun h => ?_) <;> (fail_if_success (cases h; done)) <;> rw [h]) | (refine AOps.split rfl rfl rfl (fun h => ?_) (fun h => ?_) <;> (fail_if_success (cases h; done)) <;> rw [h]) | refine AOps.drawn (by kernel_rfl) ?_)
  · have hlt : i < l.length := by simpa [encTys_length] using h
    obtain ⟨⟨T, args⟩, hx⟩ : ∃ x, l[i]? = some x := ⟨l[i], by simp [hlt]⟩
    refine AOps.index Try.hX rfl rfl rfl rfl rfl rfl rfl rfl rfl rfl i rfl (by rw [encTys_get, hx]; rfl) rfl ?_
    repeat' (first | refine AK.runP Try.hX Try.mixed 300 rfl ?_ | refine AK.condTe rfl asm ?_ | refine AK.condFe rfl asm ?_ | (refine AK.condS rfl (fun h => ?_) (fun h => ?_) <;> first | (cases h; done) | rw [h] | skip) | refine AK.retQ Try.hX hf rfl rfl ?_ | refine AK.region Try.mixed rfl ?_ | refine AOps.done ?_ | refine AOps.runS Try.hX kn rfl ?_ | refine AOps.callc kn rfl rfl rfl rfl rfl (hp ⟨T, args⟩ (List.mem_of_getElem? hx)) ?_ | refine AOps.box kn rfl rfl rfl rfl rfl rfl ?_ | refine AOps.alloc Try.hX kn rfl rfl rfl rfl rfl rfl rfl ?_ | refine AOps.store Try.hX kn rfl rfl rfl rfl rfl rfl rfl rfl rfl rfl rfl ?_ | refine AOps.buildSlice Try.hX kn rfl rfl rfl rfl rfl rfl rfl rfl rfl rfl rfl rfl ?_ | refine AOps.append Try.hX kn rfl rfl rfl rfl rfl rfl rfl rfl rfl rfl rfl rfl rfl rfl rfl rfl rfl rfl rfl rfl rfl ?_ ?_ | refine AOps.toStr Try.hX kn rfl rfl rfl rfl rfl rfl rfl rfl rfl rfl rfl (by first | exact rfl | exact byte1 _) rfl ?_ | refine AOps.buildArr Try.hX kn rfl rfl rfl rfl rfl rfl rfl rfl ?_ | refine AOps.indexArr Try.hX kn rfl rfl rfl rfl rfl rfl rfl rfl rfl rfl rfl rfl ?_ | refine AOps.runP1 Try.hX kn rfl rfl ?_ | (refine AOps.splitT rfl rfl rfl asm (fun h => ?_) <;> (fail_if_success (cases h; done)) <;> rw [h]) | (refine AOps.splitF rfl rfl rfl asm (fun h => ?_) <;> (fail_if_success (cases h; done)) <;> rw [h]) | (refine AOps.split rfl rfl rfl (fun h => ?_) (fun h => ?_) <;> (fail_if_success (cases h; done)) <;> rw [h]) | refine AOps.drawn (by kernel_rfl) ?_)
    · rw [idxOf_first p l i ⟨T, args⟩ hx h hno]
    · have hp' := h
      have ih' := ih (i + 1) ⟨by omega, fun j x hj hjx => by
        by_cases hji : j = i
        · subst hji; rw [hx] at hjx; simp at hjx; subst hjx; exact hp'
        · exact hno j x (by omega) hjx⟩ (by omega)
      refine AK.again ih' ⟨.inl ?_, .inl rfl, .inl rfl, .inl rfl, trivial⟩ trivial trivial rfl rfl rfl
      rw [w64 (by omega) (by omega)]; rfl
  · have hge : l.length ≤ i := by simpa [encTys_length] using h
    rw [idxOf_none p l fun j y hy => hno j y (by have := (List.getElem?_eq_some_iff.1 hy).1; omega) hy]

end Go.Proofs
