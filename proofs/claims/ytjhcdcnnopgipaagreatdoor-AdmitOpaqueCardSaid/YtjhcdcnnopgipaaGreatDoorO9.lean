/- AdmitOpaque: runs, part 10. -/
import Derived.KernelRfl
import Derived.Test.YtjhcdcnnopgipaaGreatDoorOw
namespace Go.Proofs.YtjhcdcnnopgipaaGreatDoor
open Go Go.Ev Go.Ev.K
theorem tO9_true_0 (m0 : Nat) (m2 : Nat) : CHO0 m0 m2 9 0 = GOO m0 true m2 9 0 := by kernel_rfl
theorem uO9_true_0 (m0 : Nat) (m2 : Nat) (h0 : m0 % 13 = 9) (b0 : m0 < 256) (h2 : m2 % 3 = 0) (b2 : m2 < 256) : GOO m0 true m2 9 0 = true := by rw [← tO9_true_0 m0 m2]; exact chO0 h0 b0 h2 b2
theorem tO9_true_1 (m0 : Nat) (m2 : Nat) : CHO0 m0 m2 9 1 = GOO m0 true m2 9 1 := by kernel_rfl
theorem uO9_true_1 (m0 : Nat) (m2 : Nat) (h0 : m0 % 13 = 9) (b0 : m0 < 256) (h2 : m2 % 3 = 1) (b2 : m2 < 256) : GOO m0 true m2 9 1 = true := by rw [← tO9_true_1 m0 m2]; exact chO0 h0 b0 h2 b2
theorem tO9_true_2 (m0 : Nat) (m2 : Nat) : CHO0 m0 m2 9 2 = GOO m0 true m2 9 2 := by kernel_rfl
theorem uO9_true_2 (m0 : Nat) (m2 : Nat) (h0 : m0 % 13 = 9) (b0 : m0 < 256) (h2 : m2 % 3 = 2) (b2 : m2 < 256) : GOO m0 true m2 9 2 = true := by rw [← tO9_true_2 m0 m2]; exact chO0 h0 b0 h2 b2
theorem tO9_false_0 (m0 : Nat) (m2 : Nat) : CHO0 m0 m2 9 0 = GOO m0 false m2 9 0 := by kernel_rfl
theorem uO9_false_0 (m0 : Nat) (m2 : Nat) (h0 : m0 % 13 = 9) (b0 : m0 < 256) (h2 : m2 % 3 = 0) (b2 : m2 < 256) : GOO m0 false m2 9 0 = true := by rw [← tO9_false_0 m0 m2]; exact chO0 h0 b0 h2 b2
theorem tO9_false_1 (m0 : Nat) (m2 : Nat) : CHO0 m0 m2 9 1 = GOO m0 false m2 9 1 := by kernel_rfl
theorem uO9_false_1 (m0 : Nat) (m2 : Nat) (h0 : m0 % 13 = 9) (b0 : m0 < 256) (h2 : m2 % 3 = 1) (b2 : m2 < 256) : GOO m0 false m2 9 1 = true := by rw [← tO9_false_1 m0 m2]; exact chO0 h0 b0 h2 b2
theorem tO9_false_2 (m0 : Nat) (m2 : Nat) : CHO0 m0 m2 9 2 = GOO m0 false m2 9 2 := by kernel_rfl
theorem uO9_false_2 (m0 : Nat) (m2 : Nat) (h0 : m0 % 13 = 9) (b0 : m0 < 256) (h2 : m2 % 3 = 2) (b2 : m2 < 256) : GOO m0 false m2 9 2 = true := by rw [← tO9_false_2 m0 m2]; exact chO0 h0 b0 h2 b2
end Go.Proofs.YtjhcdcnnopgipaaGreatDoor
