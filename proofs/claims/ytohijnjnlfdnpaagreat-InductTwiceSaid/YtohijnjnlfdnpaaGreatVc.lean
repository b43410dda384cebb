/- battenlaw22.InductTwice: closed facts of its row. -/
import Derived.Test.YtohijnjnlfdnpaaGreatRows
import Derived.WalkKit
import Derived.ProofKit
import Derived.OpenShut
namespace Go.Proofs.YtohijnjnlfdnpaaGreat.inductTwice
open Go.ChangeShapes Go.WideShapes Go.ChangeAt Go.RowKit
theorem over_named : Tryz.pinned.checked.prog.funcNamed Rows.inductTwiceRow.func = some 4 := by kernel_rfl
theorem over_inst : Tryz.f4.isInstance Tryz.pinned.checked.prog Rows.inductTwiceRow.origin Rows.inductTwiceRow.targs := of_decide_eq_true (by kernel_rfl)
theorem over_wrap : Tryz.f4.isWrapper Tryz.pinned.checked.prog Rows.inductTwiceRow.wrapper Rows.inductTwiceRow.mainSum := by unfold Func.isWrapper; first | (rw [if_pos (by decide +kernel)]; kernel_rfl) | (rw [if_neg (by decide +kernel)]; exact ⟨rfl, rfl⟩)
set_option maxHeartbeats 4000000 in
theorem over_closed : joinedFacts Tryz.pinned.checked.prog 4 Tryz.f4 Rows.inductTwiceSpec Rows.inductTwiceRow = true := by
  unfold joinedFacts
  simp only [Bool.and_eq_true]
  repeat' apply And.intro
  all_goals (as_aux_lemma => kernel_rfl)
end Go.Proofs.YtohijnjnlfdnpaaGreat.inductTwice
