/- THE LAW STARTS NO GOROUTINE: no text of the translation does. MADE BY PROGRAM (genlaw.py). Conditions: none. -/
import Derived.Test.YtjofohhnkdbfbaaGreatDoorRows
import Derived.SevenTiedAt
import Derived.KernelRfl
namespace Go.Proofs.YtjofohhnkdbfbaaGreatDoor
open Go
theorem goes_none {P : Program} (h : P.funcs.any Func.goes = false) (c : OpenClaim) (hs : c.start = .entering) : false = c.goesBy P := by
  have h1 : ∀ g : FuncId, (P.funcs[g]?).any Func.goes = false := by
    intro g
    cases hg : P.funcs[g]? with
    | none => rfl
    | some fn =>
      obtain ⟨hl, he⟩ := Array.getElem?_eq_some_iff.1 hg
      rw [Array.any_eq_false] at h
      have := h g hl
      rw [he] at this
      simpa using this
  unfold OpenClaim.goesBy Program.goesAt Program.goesFrom
  rw [hs]
  cases hf : P.funcNamed c.func with
  | none => simp
  | some f =>
    have : P.goes f = false := by
      unfold Program.goes
      rw [h, Bool.and_false, Bool.or_false, List.any_eq_false]
      intro g _
      rw [h1 g]
      simp
    simp [this]
theorem law_goes0 : Tryz.pinned.checked.prog.funcs.any Func.goes = false := by kernel_rfl
theorem law_goes : false = Rows.attrNamesRow.goesBy Tryz.pinned.checked.prog := goes_none law_goes0 _ rfl
end Go.Proofs.YtjofohhnkdbfbaaGreatDoor
