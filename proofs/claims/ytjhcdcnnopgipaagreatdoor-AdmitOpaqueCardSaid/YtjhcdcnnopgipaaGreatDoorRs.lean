/- The sample's run. -/
import Derived.KernelRfl
import Derived.Test.YtjhcdcnnopgipaaGreatDoorGt
namespace Go.Proofs.YtjhcdcnnopgipaaGreatDoor
open Go Go.Ev Go.Ev.K
theorem sample_run : evC T0 100000 100000 (.func 5 [] []) [] 0 hp0 (endLit lit litN litV) = true := by kernel_rfl
theorem t1_ok : ∀ f c, T1 f = some c → FOK Tryz.prog f c := upd_ok t0_ok (sumLit_ok follows t0_ok sample_run)
end Go.Proofs.YtjhcdcnnopgipaaGreatDoor
