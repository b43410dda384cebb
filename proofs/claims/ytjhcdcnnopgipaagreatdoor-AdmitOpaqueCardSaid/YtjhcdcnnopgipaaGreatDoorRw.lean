/- The run of the chapter's example. -/
import Derived.KernelRfl
import Derived.Test.YtjhcdcnnopgipaaGreatDoorRs
namespace Go.Proofs.YtjhcdcnnopgipaaGreatDoor
open Go Go.Ev Go.Ev.K
theorem works_run : evC T1 100000 100000 (.func 16 [] []) [] 0 hp0 endT = true := by kernel_rfl
theorem t2_ok : ∀ f c, T2 f = some c → FOK Tryz.prog f c := upd_ok t1_ok (sumTrue_ok (closed_of_run follows t1_ok works_run))
end Go.Proofs.YtjhcdcnnopgipaaGreatDoor
