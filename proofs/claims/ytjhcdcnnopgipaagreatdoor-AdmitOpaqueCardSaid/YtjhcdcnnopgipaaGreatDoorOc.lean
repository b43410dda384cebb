/- battenlaw24.AdmitOpaque: closed facts of its row. -/
import Derived.Test.YtjhcdcnnopgipaaGreatDoorRows
import Derived.WalkKit
import Derived.ProofKit
import Derived.OpenShut
namespace Go.Proofs.YtjhcdcnnopgipaaGreatDoor.admitOpaque
open Go.ChangeShapes Go.WideShapes Go.ChangeAt Go.RowKit
theorem over_named : Tryz.pinned.checked.prog.funcNamed Rows.admitOpaqueRow.func = some 3 := by kernel_rfl
theorem over_inst : Tryz.f3.isInstance Tryz.pinned.checked.prog Rows.admitOpaqueRow.origin Rows.admitOpaqueRow.targs := of_decide_eq_true (by kernel_rfl)
theorem over_wrap : Tryz.f3.isWrapper Tryz.pinned.checked.prog Rows.admitOpaqueRow.wrapper Rows.admitOpaqueRow.mainSum := by unfold Func.isWrapper; first | (rw [if_pos (by decide +kernel)]; kernel_rfl) | (rw [if_neg (by decide +kernel)]; exact ⟨rfl, rfl⟩)
set_option maxHeartbeats 4000000 in
theorem over_closed : joinedFacts Tryz.pinned.checked.prog 3 Tryz.f3 Rows.admitOpaqueSpec Rows.admitOpaqueRow = true := by
  unfold joinedFacts
  simp only [Bool.and_eq_true]
  repeat' apply And.intro
  all_goals (as_aux_lemma => kernel_rfl)
end Go.Proofs.YtjhcdcnnopgipaaGreatDoor.admitOpaque
