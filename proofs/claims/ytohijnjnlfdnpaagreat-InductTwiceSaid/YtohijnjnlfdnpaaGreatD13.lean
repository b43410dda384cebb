/- InductTwice: the runs at the letter 13. -/
import Derived.KernelRfl
import Derived.Test.YtohijnjnlfdnpaaGreatTx
namespace Go.Proofs.YtohijnjnlfdnpaaGreat
open Go Go.Ev Go.Ev.K
theorem t13_00 (m0 m1 m2 : Nat) : CHn m0 m1 13 0 = GOt m0 m1 m2 13 0 0 := by kernel_rfl
theorem t13_01 (m0 m1 m2 : Nat) : CHn m0 m1 13 0 = GOt m0 m1 m2 13 0 1 := by kernel_rfl
theorem t13_02 (m0 m1 m2 : Nat) : CHn m0 m1 13 0 = GOt m0 m1 m2 13 0 2 := by kernel_rfl
theorem t13_10 (m0 m1 m2 : Nat) : CHn m0 m1 13 1 = GOt m0 m1 m2 13 1 0 := by kernel_rfl
theorem t13_11 (m0 m1 m2 : Nat) : CHn m0 m1 13 1 = GOt m0 m1 m2 13 1 1 := by kernel_rfl
theorem t13_12 (m0 m1 m2 : Nat) : CHn m0 m1 13 1 = GOt m0 m1 m2 13 1 2 := by kernel_rfl
theorem t13_20 (m0 m1 m2 : Nat) : CHn m0 m1 13 2 = GOt m0 m1 m2 13 2 0 := by kernel_rfl
theorem t13_21 (m0 m1 m2 : Nat) : CHn m0 m1 13 2 = GOt m0 m1 m2 13 2 1 := by kernel_rfl
theorem t13_22 (m0 m1 m2 : Nat) : CHn m0 m1 13 2 = GOt m0 m1 m2 13 2 2 := by kernel_rfl
theorem u13 (m0 m1 m2 : Nat) (h0 : m0 % 26 = 13) : ∀ j1 j2, m1 % 3 = j1 → m2 % 3 = j2 → GOt m0 m1 m2 13 j1 j2 = true
  | 0, 0, h1, h2 => by rw [← t13_00]; exact chn h0 h1
  | 0, 1, h1, h2 => by rw [← t13_01]; exact chn h0 h1
  | 0, 2, h1, h2 => by rw [← t13_02]; exact chn h0 h1
  | 1, 0, h1, h2 => by rw [← t13_10]; exact chn h0 h1
  | 1, 1, h1, h2 => by rw [← t13_11]; exact chn h0 h1
  | 1, 2, h1, h2 => by rw [← t13_12]; exact chn h0 h1
  | 2, 0, h1, h2 => by rw [← t13_20]; exact chn h0 h1
  | 2, 1, h1, h2 => by rw [← t13_21]; exact chn h0 h1
  | 2, 2, h1, h2 => by rw [← t13_22]; exact chn h0 h1
  | _ + 3, _, h, _ => by omega
  | _, _ + 3, _, h => by omega
end Go.Proofs.YtohijnjnlfdnpaaGreat
