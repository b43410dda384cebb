/- AdmitOpaque: runs, part 6. -/
import Derived.KernelRfl
import Derived.Test.YtjhcdcnnopgipaaGreatDoorOw
namespace Go.Proofs.YtjhcdcnnopgipaaGreatDoor
open Go Go.Ev Go.Ev.K
theorem tO5_true_0 (m0 : Nat) (m2 : Nat) : CHO0 m0 m2 5 0 = GOO m0 true m2 5 0 := by kernel_rfl
theorem uO5_true_0 (m0 : Nat) (m2 : Nat) (h0 : m0 % 13 = 5) (b0 : m0 < 256) (h2 : m2 % 3 = 0) (b2 : m2 < 256) : GOO m0 true m2 5 0 = true := by rw [← tO5_true_0 m0 m2]; exact chO0 h0 b0 h2 b2
theorem tO5_true_1 (m0 : Nat) (m2 : Nat) : CHO0 m0 m2 5 1 = GOO m0 true m2 5 1 := by kernel_rfl
theorem uO5_true_1 (m0 : Nat) (m2 : Nat) (h0 : m0 % 13 = 5) (b0 : m0 < 256) (h2 : m2 % 3 = 1) (b2 : m2 < 256) : GOO m0 true m2 5 1 = true := by rw [← tO5_true_1 m0 m2]; exact chO0 h0 b0 h2 b2
theorem tO5_true_2 (m0 : Nat) (m2 : Nat) : CHO0 m0 m2 5 2 = GOO m0 true m2 5 2 := by kernel_rfl
theorem uO5_true_2 (m0 : Nat) (m2 : Nat) (h0 : m0 % 13 = 5) (b0 : m0 < 256) (h2 : m2 % 3 = 2) (b2 : m2 < 256) : GOO m0 true m2 5 2 = true := by rw [← tO5_true_2 m0 m2]; exact chO0 h0 b0 h2 b2
theorem tO5_false_0 (m0 : Nat) (m2 : Nat) : CHO0 m0 m2 5 0 = GOO m0 false m2 5 0 := by kernel_rfl
theorem uO5_false_0 (m0 : Nat) (m2 : Nat) (h0 : m0 % 13 = 5) (b0 : m0 < 256) (h2 : m2 % 3 = 0) (b2 : m2 < 256) : GOO m0 false m2 5 0 = true := by rw [← tO5_false_0 m0 m2]; exact chO0 h0 b0 h2 b2
theorem tO5_false_1 (m0 : Nat) (m2 : Nat) : CHO0 m0 m2 5 1 = GOO m0 false m2 5 1 := by kernel_rfl
theorem uO5_false_1 (m0 : Nat) (m2 : Nat) (h0 : m0 % 13 = 5) (b0 : m0 < 256) (h2 : m2 % 3 = 1) (b2 : m2 < 256) : GOO m0 false m2 5 1 = true := by rw [← tO5_false_1 m0 m2]; exact chO0 h0 b0 h2 b2
theorem tO5_false_2 (m0 : Nat) (m2 : Nat) : CHO0 m0 m2 5 2 = GOO m0 false m2 5 2 := by kernel_rfl
theorem uO5_false_2 (m0 : Nat) (m2 : Nat) (h0 : m0 % 13 = 5) (b0 : m0 < 256) (h2 : m2 % 3 = 2) (b2 : m2 < 256) : GOO m0 false m2 5 2 = true := by rw [← tO5_false_2 m0 m2]; exact chO0 h0 b0 h2 b2
end Go.Proofs.YtjhcdcnnopgipaaGreatDoor
