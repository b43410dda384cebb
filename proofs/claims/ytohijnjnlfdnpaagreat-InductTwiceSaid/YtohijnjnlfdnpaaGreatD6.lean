/- InductTwice: the runs at the letter 6. -/
import Derived.KernelRfl
import Derived.Test.YtohijnjnlfdnpaaGreatTx
namespace Go.Proofs.YtohijnjnlfdnpaaGreat
open Go Go.Ev Go.Ev.K
theorem t6_00 (m0 m1 m2 : Nat) : CHt m0 m1 m2 6 0 0 = GOt m0 m1 m2 6 0 0 := by kernel_rfl
theorem t6_01 (m0 m1 m2 : Nat) : CHt m0 m1 m2 6 0 1 = GOt m0 m1 m2 6 0 1 := by kernel_rfl
theorem t6_02 (m0 m1 m2 : Nat) : CHt m0 m1 m2 6 0 2 = GOt m0 m1 m2 6 0 2 := by kernel_rfl
theorem t6_10 (m0 m1 m2 : Nat) : CHt m0 m1 m2 6 1 0 = GOt m0 m1 m2 6 1 0 := by kernel_rfl
theorem t6_11 (m0 m1 m2 : Nat) : CHt m0 m1 m2 6 1 1 = GOt m0 m1 m2 6 1 1 := by kernel_rfl
theorem t6_12 (m0 m1 m2 : Nat) : CHt m0 m1 m2 6 1 2 = GOt m0 m1 m2 6 1 2 := by kernel_rfl
theorem t6_20 (m0 m1 m2 : Nat) : CHt m0 m1 m2 6 2 0 = GOt m0 m1 m2 6 2 0 := by kernel_rfl
theorem t6_21 (m0 m1 m2 : Nat) : CHt m0 m1 m2 6 2 1 = GOt m0 m1 m2 6 2 1 := by kernel_rfl
theorem t6_22 (m0 m1 m2 : Nat) : CHt m0 m1 m2 6 2 2 = GOt m0 m1 m2 6 2 2 := by kernel_rfl
theorem u6 (m0 m1 m2 : Nat) (h0 : m0 % 26 = 6) : ∀ j1 j2, m1 % 3 = j1 → m2 % 3 = j2 → GOt m0 m1 m2 6 j1 j2 = true
  | 0, 0, h1, h2 => by rw [← t6_00]; exact cht h0 h1 h2
  | 0, 1, h1, h2 => by rw [← t6_01]; exact cht h0 h1 h2
  | 0, 2, h1, h2 => by rw [← t6_02]; exact cht h0 h1 h2
  | 1, 0, h1, h2 => by rw [← t6_10]; exact cht h0 h1 h2
  | 1, 1, h1, h2 => by rw [← t6_11]; exact cht h0 h1 h2
  | 1, 2, h1, h2 => by rw [← t6_12]; exact cht h0 h1 h2
  | 2, 0, h1, h2 => by rw [← t6_20]; exact cht h0 h1 h2
  | 2, 1, h1, h2 => by rw [← t6_21]; exact cht h0 h1 h2
  | 2, 2, h1, h2 => by rw [← t6_22]; exact cht h0 h1 h2
  | _ + 3, _, h, _ => by omega
  | _, _ + 3, _, h => by omega
end Go.Proofs.YtohijnjnlfdnpaaGreat
