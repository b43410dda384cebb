/- battenlaw24.AdmitOpaque: closed facts of its card. -/
import Derived.Test.YtjhcdcnnopgipaaGreatDoorCards
import Derived.WalkKit
import Derived.ProofKit
import Derived.OpenShut
import Derived.SevenTiedAt
namespace Go.Proofs.YtjhcdcnnopgipaaGreatDoor.admitOpaque
open Go.ChangeShapes Go.WideShapes Go.ChangeAt Go.RowKit
theorem card_wf : Rows.admitOpaqueRow.wfByText (OpenSpec.ofChange Rows.admitOpaqueSpec) = true := by kernel_rfl
theorem card_main : Tryz.pinned.checked.prog.mainIs = some (true, "2c1a3e06a60df62ea7abdf22b6ba3f7c9cfb8e163bead1ee04046691690b8b0f".toList) := by kernel_rfl
theorem card_named : Tryz.prog.funcNamed "batten/battenlaw24.AdmitOpaque" = some 3 := by kernel_rfl
theorem card_looks : true = Tryz.pinned.checked.prog.looks [] := by kernel_rfl
theorem card_kinds : ([5, 4, 5].all fun u => !Tryz.prog.wantsStandIn u) = true := by kernel_rfl
theorem card_goes : false = Rows.admitOpaqueRow.goesBy Tryz.pinned.checked.prog := by kernel_rfl
end Go.Proofs.YtjhcdcnnopgipaaGreatDoor.admitOpaque
