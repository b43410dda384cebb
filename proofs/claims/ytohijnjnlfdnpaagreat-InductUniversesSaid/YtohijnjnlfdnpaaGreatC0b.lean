/- The runs at the first number's remainder 0. -/
import Derived.KernelRfl
import Derived.Test.YtohijnjnlfdnpaaGreatTt
namespace Go.Proofs.YtohijnjnlfdnpaaGreat
open Go Go.Ev Go.Ev.K
theorem c0500 (m0 m1 m2 m3 : Nat) : CH m0 m1 m2 m3 0 5 0 0 = GO m0 m1 m2 m3 0 5 0 0 := by kernel_rfl
theorem c0501 (m0 m1 m2 m3 : Nat) : CH m0 m1 m2 m3 0 5 0 1 = GO m0 m1 m2 m3 0 5 0 1 := by kernel_rfl
theorem c0502 (m0 m1 m2 m3 : Nat) : CH m0 m1 m2 m3 0 5 0 2 = GO m0 m1 m2 m3 0 5 0 2 := by kernel_rfl
theorem c0510 (m0 m1 m2 m3 : Nat) : CH m0 m1 m2 m3 0 5 1 0 = GO m0 m1 m2 m3 0 5 1 0 := by kernel_rfl
theorem c0511 (m0 m1 m2 m3 : Nat) : CH m0 m1 m2 m3 0 5 1 1 = GO m0 m1 m2 m3 0 5 1 1 := by kernel_rfl
theorem c0512 (m0 m1 m2 m3 : Nat) : CH m0 m1 m2 m3 0 5 1 2 = GO m0 m1 m2 m3 0 5 1 2 := by kernel_rfl
theorem c0520 (m0 m1 m2 m3 : Nat) : CH m0 m1 m2 m3 0 5 2 0 = GO m0 m1 m2 m3 0 5 2 0 := by kernel_rfl
theorem c0521 (m0 m1 m2 m3 : Nat) : CH m0 m1 m2 m3 0 5 2 1 = GO m0 m1 m2 m3 0 5 2 1 := by kernel_rfl
theorem c0522 (m0 m1 m2 m3 : Nat) : CH m0 m1 m2 m3 0 5 2 2 = GO m0 m1 m2 m3 0 5 2 2 := by kernel_rfl
theorem d05 (m0 m1 m2 m3 : Nat) : ∀ j2 j3, j2 < 3 → j3 < 3 → CH m0 m1 m2 m3 0 5 j2 j3 = GO m0 m1 m2 m3 0 5 j2 j3
  | 0, 0, _, _ => c0500 m0 m1 m2 m3
  | 0, 1, _, _ => c0501 m0 m1 m2 m3
  | 0, 2, _, _ => c0502 m0 m1 m2 m3
  | 1, 0, _, _ => c0510 m0 m1 m2 m3
  | 1, 1, _, _ => c0511 m0 m1 m2 m3
  | 1, 2, _, _ => c0512 m0 m1 m2 m3
  | 2, 0, _, _ => c0520 m0 m1 m2 m3
  | 2, 1, _, _ => c0521 m0 m1 m2 m3
  | 2, 2, _, _ => c0522 m0 m1 m2 m3
  | _ + 3, _, h, _ => absurd h (by omega)
  | _, _ + 3, _, h => absurd h (by omega)
theorem c0600 (m0 m1 m2 m3 : Nat) : CH m0 m1 m2 m3 0 6 0 0 = GO m0 m1 m2 m3 0 6 0 0 := by kernel_rfl
theorem c0601 (m0 m1 m2 m3 : Nat) : CH m0 m1 m2 m3 0 6 0 1 = GO m0 m1 m2 m3 0 6 0 1 := by kernel_rfl
theorem c0602 (m0 m1 m2 m3 : Nat) : CH m0 m1 m2 m3 0 6 0 2 = GO m0 m1 m2 m3 0 6 0 2 := by kernel_rfl
theorem c0610 (m0 m1 m2 m3 : Nat) : CH m0 m1 m2 m3 0 6 1 0 = GO m0 m1 m2 m3 0 6 1 0 := by kernel_rfl
theorem c0611 (m0 m1 m2 m3 : Nat) : CH m0 m1 m2 m3 0 6 1 1 = GO m0 m1 m2 m3 0 6 1 1 := by kernel_rfl
theorem c0612 (m0 m1 m2 m3 : Nat) : CH m0 m1 m2 m3 0 6 1 2 = GO m0 m1 m2 m3 0 6 1 2 := by kernel_rfl
theorem c0620 (m0 m1 m2 m3 : Nat) : CH m0 m1 m2 m3 0 6 2 0 = GO m0 m1 m2 m3 0 6 2 0 := by kernel_rfl
theorem c0621 (m0 m1 m2 m3 : Nat) : CH m0 m1 m2 m3 0 6 2 1 = GO m0 m1 m2 m3 0 6 2 1 := by kernel_rfl
theorem c0622 (m0 m1 m2 m3 : Nat) : CH m0 m1 m2 m3 0 6 2 2 = GO m0 m1 m2 m3 0 6 2 2 := by kernel_rfl
theorem d06 (m0 m1 m2 m3 : Nat) : ∀ j2 j3, j2 < 3 → j3 < 3 → CH m0 m1 m2 m3 0 6 j2 j3 = GO m0 m1 m2 m3 0 6 j2 j3
  | 0, 0, _, _ => c0600 m0 m1 m2 m3
  | 0, 1, _, _ => c0601 m0 m1 m2 m3
  | 0, 2, _, _ => c0602 m0 m1 m2 m3
  | 1, 0, _, _ => c0610 m0 m1 m2 m3
  | 1, 1, _, _ => c0611 m0 m1 m2 m3
  | 1, 2, _, _ => c0612 m0 m1 m2 m3
  | 2, 0, _, _ => c0620 m0 m1 m2 m3
  | 2, 1, _, _ => c0621 m0 m1 m2 m3
  | 2, 2, _, _ => c0622 m0 m1 m2 m3
  | _ + 3, _, h, _ => absurd h (by omega)
  | _, _ + 3, _, h => absurd h (by omega)
theorem c0700 (m0 m1 m2 m3 : Nat) : CH m0 m1 m2 m3 0 7 0 0 = GO m0 m1 m2 m3 0 7 0 0 := by kernel_rfl
theorem c0701 (m0 m1 m2 m3 : Nat) : CH m0 m1 m2 m3 0 7 0 1 = GO m0 m1 m2 m3 0 7 0 1 := by kernel_rfl
theorem c0702 (m0 m1 m2 m3 : Nat) : CH m0 m1 m2 m3 0 7 0 2 = GO m0 m1 m2 m3 0 7 0 2 := by kernel_rfl
theorem c0710 (m0 m1 m2 m3 : Nat) : CH m0 m1 m2 m3 0 7 1 0 = GO m0 m1 m2 m3 0 7 1 0 := by kernel_rfl
theorem c0711 (m0 m1 m2 m3 : Nat) : CH m0 m1 m2 m3 0 7 1 1 = GO m0 m1 m2 m3 0 7 1 1 := by kernel_rfl
theorem c0712 (m0 m1 m2 m3 : Nat) : CH m0 m1 m2 m3 0 7 1 2 = GO m0 m1 m2 m3 0 7 1 2 := by kernel_rfl
theorem c0720 (m0 m1 m2 m3 : Nat) : CH m0 m1 m2 m3 0 7 2 0 = GO m0 m1 m2 m3 0 7 2 0 := by kernel_rfl
theorem c0721 (m0 m1 m2 m3 : Nat) : CH m0 m1 m2 m3 0 7 2 1 = GO m0 m1 m2 m3 0 7 2 1 := by kernel_rfl
theorem c0722 (m0 m1 m2 m3 : Nat) : CH m0 m1 m2 m3 0 7 2 2 = GO m0 m1 m2 m3 0 7 2 2 := by kernel_rfl
theorem d07 (m0 m1 m2 m3 : Nat) : ∀ j2 j3, j2 < 3 → j3 < 3 → CH m0 m1 m2 m3 0 7 j2 j3 = GO m0 m1 m2 m3 0 7 j2 j3
  | 0, 0, _, _ => c0700 m0 m1 m2 m3
  | 0, 1, _, _ => c0701 m0 m1 m2 m3
  | 0, 2, _, _ => c0702 m0 m1 m2 m3
  | 1, 0, _, _ => c0710 m0 m1 m2 m3
  | 1, 1, _, _ => c0711 m0 m1 m2 m3
  | 1, 2, _, _ => c0712 m0 m1 m2 m3
  | 2, 0, _, _ => c0720 m0 m1 m2 m3
  | 2, 1, _, _ => c0721 m0 m1 m2 m3
  | 2, 2, _, _ => c0722 m0 m1 m2 m3
  | _ + 3, _, h, _ => absurd h (by omega)
  | _, _ + 3, _, h => absurd h (by omega)
theorem c0800 (m0 m1 m2 m3 : Nat) : CH m0 m1 m2 m3 0 8 0 0 = GO m0 m1 m2 m3 0 8 0 0 := by kernel_rfl
theorem c0801 (m0 m1 m2 m3 : Nat) : CH m0 m1 m2 m3 0 8 0 1 = GO m0 m1 m2 m3 0 8 0 1 := by kernel_rfl
theorem c0802 (m0 m1 m2 m3 : Nat) : CH m0 m1 m2 m3 0 8 0 2 = GO m0 m1 m2 m3 0 8 0 2 := by kernel_rfl
theorem c0810 (m0 m1 m2 m3 : Nat) : CH m0 m1 m2 m3 0 8 1 0 = GO m0 m1 m2 m3 0 8 1 0 := by kernel_rfl
theorem c0811 (m0 m1 m2 m3 : Nat) : CH m0 m1 m2 m3 0 8 1 1 = GO m0 m1 m2 m3 0 8 1 1 := by kernel_rfl
theorem c0812 (m0 m1 m2 m3 : Nat) : CH m0 m1 m2 m3 0 8 1 2 = GO m0 m1 m2 m3 0 8 1 2 := by kernel_rfl
theorem c0820 (m0 m1 m2 m3 : Nat) : CH m0 m1 m2 m3 0 8 2 0 = GO m0 m1 m2 m3 0 8 2 0 := by kernel_rfl
theorem c0821 (m0 m1 m2 m3 : Nat) : CH m0 m1 m2 m3 0 8 2 1 = GO m0 m1 m2 m3 0 8 2 1 := by kernel_rfl
theorem c0822 (m0 m1 m2 m3 : Nat) : CH m0 m1 m2 m3 0 8 2 2 = GO m0 m1 m2 m3 0 8 2 2 := by kernel_rfl
theorem d08 (m0 m1 m2 m3 : Nat) : ∀ j2 j3, j2 < 3 → j3 < 3 → CH m0 m1 m2 m3 0 8 j2 j3 = GO m0 m1 m2 m3 0 8 j2 j3
  | 0, 0, _, _ => c0800 m0 m1 m2 m3
  | 0, 1, _, _ => c0801 m0 m1 m2 m3
  | 0, 2, _, _ => c0802 m0 m1 m2 m3
  | 1, 0, _, _ => c0810 m0 m1 m2 m3
  | 1, 1, _, _ => c0811 m0 m1 m2 m3
  | 1, 2, _, _ => c0812 m0 m1 m2 m3
  | 2, 0, _, _ => c0820 m0 m1 m2 m3
  | 2, 1, _, _ => c0821 m0 m1 m2 m3
  | 2, 2, _, _ => c0822 m0 m1 m2 m3
  | _ + 3, _, h, _ => absurd h (by omega)
  | _, _ + 3, _, h => absurd h (by omega)
theorem c0900 (m0 m1 m2 m3 : Nat) : CH m0 m1 m2 m3 0 9 0 0 = GO m0 m1 m2 m3 0 9 0 0 := by kernel_rfl
theorem c0901 (m0 m1 m2 m3 : Nat) : CH m0 m1 m2 m3 0 9 0 1 = GO m0 m1 m2 m3 0 9 0 1 := by kernel_rfl
theorem c0902 (m0 m1 m2 m3 : Nat) : CH m0 m1 m2 m3 0 9 0 2 = GO m0 m1 m2 m3 0 9 0 2 := by kernel_rfl
theorem c0910 (m0 m1 m2 m3 : Nat) : CH m0 m1 m2 m3 0 9 1 0 = GO m0 m1 m2 m3 0 9 1 0 := by kernel_rfl
theorem c0911 (m0 m1 m2 m3 : Nat) : CH m0 m1 m2 m3 0 9 1 1 = GO m0 m1 m2 m3 0 9 1 1 := by kernel_rfl
theorem c0912 (m0 m1 m2 m3 : Nat) : CH m0 m1 m2 m3 0 9 1 2 = GO m0 m1 m2 m3 0 9 1 2 := by kernel_rfl
theorem c0920 (m0 m1 m2 m3 : Nat) : CH m0 m1 m2 m3 0 9 2 0 = GO m0 m1 m2 m3 0 9 2 0 := by kernel_rfl
theorem c0921 (m0 m1 m2 m3 : Nat) : CH m0 m1 m2 m3 0 9 2 1 = GO m0 m1 m2 m3 0 9 2 1 := by kernel_rfl
theorem c0922 (m0 m1 m2 m3 : Nat) : CH m0 m1 m2 m3 0 9 2 2 = GO m0 m1 m2 m3 0 9 2 2 := by kernel_rfl
theorem d09 (m0 m1 m2 m3 : Nat) : ∀ j2 j3, j2 < 3 → j3 < 3 → CH m0 m1 m2 m3 0 9 j2 j3 = GO m0 m1 m2 m3 0 9 j2 j3
  | 0, 0, _, _ => c0900 m0 m1 m2 m3
  | 0, 1, _, _ => c0901 m0 m1 m2 m3
  | 0, 2, _, _ => c0902 m0 m1 m2 m3
  | 1, 0, _, _ => c0910 m0 m1 m2 m3
  | 1, 1, _, _ => c0911 m0 m1 m2 m3
  | 1, 2, _, _ => c0912 m0 m1 m2 m3
  | 2, 0, _, _ => c0920 m0 m1 m2 m3
  | 2, 1, _, _ => c0921 m0 m1 m2 m3
  | 2, 2, _, _ => c0922 m0 m1 m2 m3
  | _ + 3, _, h, _ => absurd h (by omega)
  | _, _ + 3, _, h => absurd h (by omega)
end Go.Proofs.YtohijnjnlfdnpaaGreat
