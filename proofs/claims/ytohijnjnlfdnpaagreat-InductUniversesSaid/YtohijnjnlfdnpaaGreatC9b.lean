/- The runs at the first number's remainder 9. -/
import Derived.KernelRfl
import Derived.Test.YtohijnjnlfdnpaaGreatTt
namespace Go.Proofs.YtohijnjnlfdnpaaGreat
open Go Go.Ev Go.Ev.K
theorem c9500 (m0 m1 m2 m3 : Nat) : CH m0 m1 m2 m3 9 5 0 0 = GO m0 m1 m2 m3 9 5 0 0 := by kernel_rfl
theorem c9501 (m0 m1 m2 m3 : Nat) : CH m0 m1 m2 m3 9 5 0 1 = GO m0 m1 m2 m3 9 5 0 1 := by kernel_rfl
theorem c9502 (m0 m1 m2 m3 : Nat) : CH m0 m1 m2 m3 9 5 0 2 = GO m0 m1 m2 m3 9 5 0 2 := by kernel_rfl
theorem c9510 (m0 m1 m2 m3 : Nat) : CH m0 m1 m2 m3 9 5 1 0 = GO m0 m1 m2 m3 9 5 1 0 := by kernel_rfl
theorem c9511 (m0 m1 m2 m3 : Nat) : CH m0 m1 m2 m3 9 5 1 1 = GO m0 m1 m2 m3 9 5 1 1 := by kernel_rfl
theorem c9512 (m0 m1 m2 m3 : Nat) : CH m0 m1 m2 m3 9 5 1 2 = GO m0 m1 m2 m3 9 5 1 2 := by kernel_rfl
theorem c9520 (m0 m1 m2 m3 : Nat) : CH m0 m1 m2 m3 9 5 2 0 = GO m0 m1 m2 m3 9 5 2 0 := by kernel_rfl
theorem c9521 (m0 m1 m2 m3 : Nat) : CH m0 m1 m2 m3 9 5 2 1 = GO m0 m1 m2 m3 9 5 2 1 := by kernel_rfl
theorem c9522 (m0 m1 m2 m3 : Nat) : CH m0 m1 m2 m3 9 5 2 2 = GO m0 m1 m2 m3 9 5 2 2 := by kernel_rfl
theorem d95 (m0 m1 m2 m3 : Nat) : ∀ j2 j3, j2 < 3 → j3 < 3 → CH m0 m1 m2 m3 9 5 j2 j3 = GO m0 m1 m2 m3 9 5 j2 j3
  | 0, 0, _, _ => c9500 m0 m1 m2 m3
  | 0, 1, _, _ => c9501 m0 m1 m2 m3
  | 0, 2, _, _ => c9502 m0 m1 m2 m3
  | 1, 0, _, _ => c9510 m0 m1 m2 m3
  | 1, 1, _, _ => c9511 m0 m1 m2 m3
  | 1, 2, _, _ => c9512 m0 m1 m2 m3
  | 2, 0, _, _ => c9520 m0 m1 m2 m3
  | 2, 1, _, _ => c9521 m0 m1 m2 m3
  | 2, 2, _, _ => c9522 m0 m1 m2 m3
  | _ + 3, _, h, _ => absurd h (by omega)
  | _, _ + 3, _, h => absurd h (by omega)
theorem c9600 (m0 m1 m2 m3 : Nat) : CH m0 m1 m2 m3 9 6 0 0 = GO m0 m1 m2 m3 9 6 0 0 := by kernel_rfl
theorem c9601 (m0 m1 m2 m3 : Nat) : CH m0 m1 m2 m3 9 6 0 1 = GO m0 m1 m2 m3 9 6 0 1 := by kernel_rfl
theorem c9602 (m0 m1 m2 m3 : Nat) : CH m0 m1 m2 m3 9 6 0 2 = GO m0 m1 m2 m3 9 6 0 2 := by kernel_rfl
theorem c9610 (m0 m1 m2 m3 : Nat) : CH m0 m1 m2 m3 9 6 1 0 = GO m0 m1 m2 m3 9 6 1 0 := by kernel_rfl
theorem c9611 (m0 m1 m2 m3 : Nat) : CH m0 m1 m2 m3 9 6 1 1 = GO m0 m1 m2 m3 9 6 1 1 := by kernel_rfl
theorem c9612 (m0 m1 m2 m3 : Nat) : CH m0 m1 m2 m3 9 6 1 2 = GO m0 m1 m2 m3 9 6 1 2 := by kernel_rfl
theorem c9620 (m0 m1 m2 m3 : Nat) : CH m0 m1 m2 m3 9 6 2 0 = GO m0 m1 m2 m3 9 6 2 0 := by kernel_rfl
theorem c9621 (m0 m1 m2 m3 : Nat) : CH m0 m1 m2 m3 9 6 2 1 = GO m0 m1 m2 m3 9 6 2 1 := by kernel_rfl
theorem c9622 (m0 m1 m2 m3 : Nat) : CH m0 m1 m2 m3 9 6 2 2 = GO m0 m1 m2 m3 9 6 2 2 := by kernel_rfl
theorem d96 (m0 m1 m2 m3 : Nat) : ∀ j2 j3, j2 < 3 → j3 < 3 → CH m0 m1 m2 m3 9 6 j2 j3 = GO m0 m1 m2 m3 9 6 j2 j3
  | 0, 0, _, _ => c9600 m0 m1 m2 m3
  | 0, 1, _, _ => c9601 m0 m1 m2 m3
  | 0, 2, _, _ => c9602 m0 m1 m2 m3
  | 1, 0, _, _ => c9610 m0 m1 m2 m3
  | 1, 1, _, _ => c9611 m0 m1 m2 m3
  | 1, 2, _, _ => c9612 m0 m1 m2 m3
  | 2, 0, _, _ => c9620 m0 m1 m2 m3
  | 2, 1, _, _ => c9621 m0 m1 m2 m3
  | 2, 2, _, _ => c9622 m0 m1 m2 m3
  | _ + 3, _, h, _ => absurd h (by omega)
  | _, _ + 3, _, h => absurd h (by omega)
theorem c9700 (m0 m1 m2 m3 : Nat) : CH m0 m1 m2 m3 9 7 0 0 = GO m0 m1 m2 m3 9 7 0 0 := by kernel_rfl
theorem c9701 (m0 m1 m2 m3 : Nat) : CH m0 m1 m2 m3 9 7 0 1 = GO m0 m1 m2 m3 9 7 0 1 := by kernel_rfl
theorem c9702 (m0 m1 m2 m3 : Nat) : CH m0 m1 m2 m3 9 7 0 2 = GO m0 m1 m2 m3 9 7 0 2 := by kernel_rfl
theorem c9710 (m0 m1 m2 m3 : Nat) : CH m0 m1 m2 m3 9 7 1 0 = GO m0 m1 m2 m3 9 7 1 0 := by kernel_rfl
theorem c9711 (m0 m1 m2 m3 : Nat) : CH m0 m1 m2 m3 9 7 1 1 = GO m0 m1 m2 m3 9 7 1 1 := by kernel_rfl
theorem c9712 (m0 m1 m2 m3 : Nat) : CH m0 m1 m2 m3 9 7 1 2 = GO m0 m1 m2 m3 9 7 1 2 := by kernel_rfl
theorem c9720 (m0 m1 m2 m3 : Nat) : CH m0 m1 m2 m3 9 7 2 0 = GO m0 m1 m2 m3 9 7 2 0 := by kernel_rfl
theorem c9721 (m0 m1 m2 m3 : Nat) : CH m0 m1 m2 m3 9 7 2 1 = GO m0 m1 m2 m3 9 7 2 1 := by kernel_rfl
theorem c9722 (m0 m1 m2 m3 : Nat) : CH m0 m1 m2 m3 9 7 2 2 = GO m0 m1 m2 m3 9 7 2 2 := by kernel_rfl
theorem d97 (m0 m1 m2 m3 : Nat) : ∀ j2 j3, j2 < 3 → j3 < 3 → CH m0 m1 m2 m3 9 7 j2 j3 = GO m0 m1 m2 m3 9 7 j2 j3
  | 0, 0, _, _ => c9700 m0 m1 m2 m3
  | 0, 1, _, _ => c9701 m0 m1 m2 m3
  | 0, 2, _, _ => c9702 m0 m1 m2 m3
  | 1, 0, _, _ => c9710 m0 m1 m2 m3
  | 1, 1, _, _ => c9711 m0 m1 m2 m3
  | 1, 2, _, _ => c9712 m0 m1 m2 m3
  | 2, 0, _, _ => c9720 m0 m1 m2 m3
  | 2, 1, _, _ => c9721 m0 m1 m2 m3
  | 2, 2, _, _ => c9722 m0 m1 m2 m3
  | _ + 3, _, h, _ => absurd h (by omega)
  | _, _ + 3, _, h => absurd h (by omega)
theorem c9800 (m0 m1 m2 m3 : Nat) : CH m0 m1 m2 m3 9 8 0 0 = GO m0 m1 m2 m3 9 8 0 0 := by kernel_rfl
theorem c9801 (m0 m1 m2 m3 : Nat) : CH m0 m1 m2 m3 9 8 0 1 = GO m0 m1 m2 m3 9 8 0 1 := by kernel_rfl
theorem c9802 (m0 m1 m2 m3 : Nat) : CH m0 m1 m2 m3 9 8 0 2 = GO m0 m1 m2 m3 9 8 0 2 := by kernel_rfl
theorem c9810 (m0 m1 m2 m3 : Nat) : CH m0 m1 m2 m3 9 8 1 0 = GO m0 m1 m2 m3 9 8 1 0 := by kernel_rfl
theorem c9811 (m0 m1 m2 m3 : Nat) : CH m0 m1 m2 m3 9 8 1 1 = GO m0 m1 m2 m3 9 8 1 1 := by kernel_rfl
theorem c9812 (m0 m1 m2 m3 : Nat) : CH m0 m1 m2 m3 9 8 1 2 = GO m0 m1 m2 m3 9 8 1 2 := by kernel_rfl
theorem c9820 (m0 m1 m2 m3 : Nat) : CH m0 m1 m2 m3 9 8 2 0 = GO m0 m1 m2 m3 9 8 2 0 := by kernel_rfl
theorem c9821 (m0 m1 m2 m3 : Nat) : CH m0 m1 m2 m3 9 8 2 1 = GO m0 m1 m2 m3 9 8 2 1 := by kernel_rfl
theorem c9822 (m0 m1 m2 m3 : Nat) : CH m0 m1 m2 m3 9 8 2 2 = GO m0 m1 m2 m3 9 8 2 2 := by kernel_rfl
theorem d98 (m0 m1 m2 m3 : Nat) : ∀ j2 j3, j2 < 3 → j3 < 3 → CH m0 m1 m2 m3 9 8 j2 j3 = GO m0 m1 m2 m3 9 8 j2 j3
  | 0, 0, _, _ => c9800 m0 m1 m2 m3
  | 0, 1, _, _ => c9801 m0 m1 m2 m3
  | 0, 2, _, _ => c9802 m0 m1 m2 m3
  | 1, 0, _, _ => c9810 m0 m1 m2 m3
  | 1, 1, _, _ => c9811 m0 m1 m2 m3
  | 1, 2, _, _ => c9812 m0 m1 m2 m3
  | 2, 0, _, _ => c9820 m0 m1 m2 m3
  | 2, 1, _, _ => c9821 m0 m1 m2 m3
  | 2, 2, _, _ => c9822 m0 m1 m2 m3
  | _ + 3, _, h, _ => absurd h (by omega)
  | _, _ + 3, _, h => absurd h (by omega)
theorem c9900 (m0 m1 m2 m3 : Nat) : CH m0 m1 m2 m3 9 9 0 0 = GO m0 m1 m2 m3 9 9 0 0 := by kernel_rfl
theorem c9901 (m0 m1 m2 m3 : Nat) : CH m0 m1 m2 m3 9 9 0 1 = GO m0 m1 m2 m3 9 9 0 1 := by kernel_rfl
theorem c9902 (m0 m1 m2 m3 : Nat) : CH m0 m1 m2 m3 9 9 0 2 = GO m0 m1 m2 m3 9 9 0 2 := by kernel_rfl
theorem c9910 (m0 m1 m2 m3 : Nat) : CH m0 m1 m2 m3 9 9 1 0 = GO m0 m1 m2 m3 9 9 1 0 := by kernel_rfl
theorem c9911 (m0 m1 m2 m3 : Nat) : CH m0 m1 m2 m3 9 9 1 1 = GO m0 m1 m2 m3 9 9 1 1 := by kernel_rfl
theorem c9912 (m0 m1 m2 m3 : Nat) : CH m0 m1 m2 m3 9 9 1 2 = GO m0 m1 m2 m3 9 9 1 2 := by kernel_rfl
theorem c9920 (m0 m1 m2 m3 : Nat) : CH m0 m1 m2 m3 9 9 2 0 = GO m0 m1 m2 m3 9 9 2 0 := by kernel_rfl
theorem c9921 (m0 m1 m2 m3 : Nat) : CH m0 m1 m2 m3 9 9 2 1 = GO m0 m1 m2 m3 9 9 2 1 := by kernel_rfl
theorem c9922 (m0 m1 m2 m3 : Nat) : CH m0 m1 m2 m3 9 9 2 2 = GO m0 m1 m2 m3 9 9 2 2 := by kernel_rfl
theorem d99 (m0 m1 m2 m3 : Nat) : ∀ j2 j3, j2 < 3 → j3 < 3 → CH m0 m1 m2 m3 9 9 j2 j3 = GO m0 m1 m2 m3 9 9 j2 j3
  | 0, 0, _, _ => c9900 m0 m1 m2 m3
  | 0, 1, _, _ => c9901 m0 m1 m2 m3
  | 0, 2, _, _ => c9902 m0 m1 m2 m3
  | 1, 0, _, _ => c9910 m0 m1 m2 m3
  | 1, 1, _, _ => c9911 m0 m1 m2 m3
  | 1, 2, _, _ => c9912 m0 m1 m2 m3
  | 2, 0, _, _ => c9920 m0 m1 m2 m3
  | 2, 1, _, _ => c9921 m0 m1 m2 m3
  | 2, 2, _, _ => c9922 m0 m1 m2 m3
  | _ + 3, _, h, _ => absurd h (by omega)
  | _, _ + 3, _, h => absurd h (by omega)
end Go.Proofs.YtohijnjnlfdnpaaGreat
