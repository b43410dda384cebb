/- InductTwice: the runs at the letter 21. -/
import Derived.KernelRfl
import Derived.Test.YtohijnjnlfdnpaaGreatTx
namespace Go.Proofs.YtohijnjnlfdnpaaGreat
open Go Go.Ev Go.Ev.K
theorem t21_00 (m0 m1 m2 : Nat) : CHt m0 m1 m2 21 0 0 = GOt m0 m1 m2 21 0 0 := by kernel_rfl
theorem t21_01 (m0 m1 m2 : Nat) : CHt m0 m1 m2 21 0 1 = GOt m0 m1 m2 21 0 1 := by kernel_rfl
theorem t21_02 (m0 m1 m2 : Nat) : CHt m0 m1 m2 21 0 2 = GOt m0 m1 m2 21 0 2 := by kernel_rfl
theorem t21_10 (m0 m1 m2 : Nat) : CHt m0 m1 m2 21 1 0 = GOt m0 m1 m2 21 1 0 := by kernel_rfl
theorem t21_11 (m0 m1 m2 : Nat) : CHt m0 m1 m2 21 1 1 = GOt m0 m1 m2 21 1 1 := by kernel_rfl
theorem t21_12 (m0 m1 m2 : Nat) : CHt m0 m1 m2 21 1 2 = GOt m0 m1 m2 21 1 2 := by kernel_rfl
theorem t21_20 (m0 m1 m2 : Nat) : CHt m0 m1 m2 21 2 0 = GOt m0 m1 m2 21 2 0 := by kernel_rfl
theorem t21_21 (m0 m1 m2 : Nat) : CHt m0 m1 m2 21 2 1 = GOt m0 m1 m2 21 2 1 := by kernel_rfl
theorem t21_22 (m0 m1 m2 : Nat) : CHt m0 m1 m2 21 2 2 = GOt m0 m1 m2 21 2 2 := by kernel_rfl
theorem u21 (m0 m1 m2 : Nat) (h0 : m0 % 26 = 21) : ∀ j1 j2, m1 % 3 = j1 → m2 % 3 = j2 → GOt m0 m1 m2 21 j1 j2 = true
  | 0, 0, h1, h2 => by rw [← t21_00]; exact cht h0 h1 h2
  | 0, 1, h1, h2 => by rw [← t21_01]; exact cht h0 h1 h2
  | 0, 2, h1, h2 => by rw [← t21_02]; exact cht h0 h1 h2
  | 1, 0, h1, h2 => by rw [← t21_10]; exact cht h0 h1 h2
  | 1, 1, h1, h2 => by rw [← t21_11]; exact cht h0 h1 h2
  | 1, 2, h1, h2 => by rw [← t21_12]; exact cht h0 h1 h2
  | 2, 0, h1, h2 => by rw [← t21_20]; exact cht h0 h1 h2
  | 2, 1, h1, h2 => by rw [← t21_21]; exact cht h0 h1 h2
  | 2, 2, h1, h2 => by rw [← t21_22]; exact cht h0 h1 h2
  | _ + 3, _, h, _ => by omega
  | _, _ + 3, _, h => by omega
end Go.Proofs.YtohijnjnlfdnpaaGreat
