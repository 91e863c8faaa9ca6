/- Leaving a call with boxes at the end of its text. -/
import Derived.Test.YtcinhjfonmjneaaLibC
set_option linter.unusedVariables false
set_option linter.unusedSimpArgs false
namespace Go.Abs
section
variable {P : Program} {X : Ctx} {f : FuncId} {n : Nat} {β : Base} {R : Ending → World → Prop} {K : List Item} {env : Env}
/-- Leaving with boxes at the end of the text. -/
theorem AK.endE (hX : CtxOk P X) {fn : Func} (hf : P.funcs[f]? = some fn) {bs : List (Nat × List AV)} {ts : List (Nat × Nat)} {us : List Nat} {rs rs' : List LV} {os os' : List (Nat × List LV)} {l : List AV} (hr : ares X bs env fn.results.toList = some l)
    (h1 : mkLVs ts rs l = some rs') (h2 : mkOuts bs ts os = some os') (hc : both (leaveCheck (bxOuts os') (tkOuts bs os' ++ tkLVs 0 rk rs' l)) (distinct (keysOf (obxs os'))) = true)
    (e1 : rs' = rs) (e2 : os' = os) : AK P X f n β (ER β rs os) [] env ⟨bs, ts, us⟩ := by
  subst e1 e2
  intro g w a cs hL
  obtain ⟨u, h3, h4⟩ := ares_results hX hL hr
  obtain ⟨c1, c2⟩ := both_eq hc
  have hok := mkLVs_ok h1
  obtain ⟨i1, i2, i3⟩ := leave_inv hL.inv hok (mkOuts_ok h2) c1 c2
  refine ⟨.returned u, w, _, ⟨u, _, rfl, ?_, i1, hL.frame.trans i2⟩, .one step_end, rfl, rfl, hL.defers, rfl, fn, hf, h3⟩
  have hts := inv_toks hL.inv
  show RelA _ _ _
  match rs', hok, i3 with
  | [], hok, i3 =>
    simp only [okLVs] at hok; subst hok
    simp only [retAV, RelA, Rel]; exact h4
  | [x], hok, i3 =>
    simp only [okLVs] at hok
    obtain ⟨y, r, rfl, _, rfl⟩ := hok
    simp only [avs, ConvL] at i3
    obtain ⟨b, r', h5, h6, _⟩ := i3
    simp at h5; obtain ⟨rfl, _⟩ := h5
    simp only [retAV]
    exact (conv_ok hts h6 h4).1
  | x :: x' :: r, hok, i3 =>
    simp only [okLVs] at hok
    obtain ⟨y, q, rfl, _, y', q', rfl, _, _⟩ := hok
    simp only [retAV]
    refine (conv_ok hts (b := .tup (y :: y' :: q')) ?_ h4).1
    simp only [Conv]
    exact ⟨_, rfl, i3⟩

end
end Go.Abs
