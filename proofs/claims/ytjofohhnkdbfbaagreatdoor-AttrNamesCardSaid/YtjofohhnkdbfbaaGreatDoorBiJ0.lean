/- THE ROW's CLOSED CELLS, one by one. MADE BY PROGRAM (genlaw.py). -/
import Derived.Test.YtjofohhnkdbfbaaGreatDoorRows
import Derived.JoinedOf
import Derived.KernelRfl
set_option linter.unusedVariables false
namespace Go.Proofs.YtjofohhnkdbfbaaGreatDoor
open Go
theorem and_tt {a b : Bool} (h : a = true) (k : b = true) : (a && b) = true := by rw [h, k]; rfl
set_option maxHeartbeats 40000000 in
set_option maxRecDepth 100000 in
theorem law_facts : joinedFacts Tryz.checked.prog 4 Tryz.f4 Rows.attrNamesSpec Rows.attrNamesRow = true := by
  unfold joinedFacts
  repeat' (with_reducible refine and_tt ?_ ?_)
  all_goals as_aux_lemma => kernel_rfl
end Go.Proofs.YtjofohhnkdbfbaaGreatDoor
