/- The runs at the first number's remainder 8. -/
import Derived.KernelRfl
import Derived.Test.YtohijnjnlfdnpaaGreatTt
namespace Go.Proofs.YtohijnjnlfdnpaaGreat
open Go Go.Ev Go.Ev.K
theorem c8500 (m0 m1 m2 m3 : Nat) : CH m0 m1 m2 m3 8 5 0 0 = GO m0 m1 m2 m3 8 5 0 0 := by kernel_rfl
theorem c8501 (m0 m1 m2 m3 : Nat) : CH m0 m1 m2 m3 8 5 0 1 = GO m0 m1 m2 m3 8 5 0 1 := by kernel_rfl
theorem c8502 (m0 m1 m2 m3 : Nat) : CH m0 m1 m2 m3 8 5 0 2 = GO m0 m1 m2 m3 8 5 0 2 := by kernel_rfl
theorem c8510 (m0 m1 m2 m3 : Nat) : CH m0 m1 m2 m3 8 5 1 0 = GO m0 m1 m2 m3 8 5 1 0 := by kernel_rfl
theorem c8511 (m0 m1 m2 m3 : Nat) : CH m0 m1 m2 m3 8 5 1 1 = GO m0 m1 m2 m3 8 5 1 1 := by kernel_rfl
theorem c8512 (m0 m1 m2 m3 : Nat) : CH m0 m1 m2 m3 8 5 1 2 = GO m0 m1 m2 m3 8 5 1 2 := by kernel_rfl
theorem c8520 (m0 m1 m2 m3 : Nat) : CH m0 m1 m2 m3 8 5 2 0 = GO m0 m1 m2 m3 8 5 2 0 := by kernel_rfl
theorem c8521 (m0 m1 m2 m3 : Nat) : CH m0 m1 m2 m3 8 5 2 1 = GO m0 m1 m2 m3 8 5 2 1 := by kernel_rfl
theorem c8522 (m0 m1 m2 m3 : Nat) : CH m0 m1 m2 m3 8 5 2 2 = GO m0 m1 m2 m3 8 5 2 2 := by kernel_rfl
theorem d85 (m0 m1 m2 m3 : Nat) : ∀ j2 j3, j2 < 3 → j3 < 3 → CH m0 m1 m2 m3 8 5 j2 j3 = GO m0 m1 m2 m3 8 5 j2 j3
  | 0, 0, _, _ => c8500 m0 m1 m2 m3
  | 0, 1, _, _ => c8501 m0 m1 m2 m3
  | 0, 2, _, _ => c8502 m0 m1 m2 m3
  | 1, 0, _, _ => c8510 m0 m1 m2 m3
  | 1, 1, _, _ => c8511 m0 m1 m2 m3
  | 1, 2, _, _ => c8512 m0 m1 m2 m3
  | 2, 0, _, _ => c8520 m0 m1 m2 m3
  | 2, 1, _, _ => c8521 m0 m1 m2 m3
  | 2, 2, _, _ => c8522 m0 m1 m2 m3
  | _ + 3, _, h, _ => absurd h (by omega)
  | _, _ + 3, _, h => absurd h (by omega)
theorem c8600 (m0 m1 m2 m3 : Nat) : CH m0 m1 m2 m3 8 6 0 0 = GO m0 m1 m2 m3 8 6 0 0 := by kernel_rfl
theorem c8601 (m0 m1 m2 m3 : Nat) : CH m0 m1 m2 m3 8 6 0 1 = GO m0 m1 m2 m3 8 6 0 1 := by kernel_rfl
theorem c8602 (m0 m1 m2 m3 : Nat) : CH m0 m1 m2 m3 8 6 0 2 = GO m0 m1 m2 m3 8 6 0 2 := by kernel_rfl
theorem c8610 (m0 m1 m2 m3 : Nat) : CH m0 m1 m2 m3 8 6 1 0 = GO m0 m1 m2 m3 8 6 1 0 := by kernel_rfl
theorem c8611 (m0 m1 m2 m3 : Nat) : CH m0 m1 m2 m3 8 6 1 1 = GO m0 m1 m2 m3 8 6 1 1 := by kernel_rfl
theorem c8612 (m0 m1 m2 m3 : Nat) : CH m0 m1 m2 m3 8 6 1 2 = GO m0 m1 m2 m3 8 6 1 2 := by kernel_rfl
theorem c8620 (m0 m1 m2 m3 : Nat) : CH m0 m1 m2 m3 8 6 2 0 = GO m0 m1 m2 m3 8 6 2 0 := by kernel_rfl
theorem c8621 (m0 m1 m2 m3 : Nat) : CH m0 m1 m2 m3 8 6 2 1 = GO m0 m1 m2 m3 8 6 2 1 := by kernel_rfl
theorem c8622 (m0 m1 m2 m3 : Nat) : CH m0 m1 m2 m3 8 6 2 2 = GO m0 m1 m2 m3 8 6 2 2 := by kernel_rfl
theorem d86 (m0 m1 m2 m3 : Nat) : ∀ j2 j3, j2 < 3 → j3 < 3 → CH m0 m1 m2 m3 8 6 j2 j3 = GO m0 m1 m2 m3 8 6 j2 j3
  | 0, 0, _, _ => c8600 m0 m1 m2 m3
  | 0, 1, _, _ => c8601 m0 m1 m2 m3
  | 0, 2, _, _ => c8602 m0 m1 m2 m3
  | 1, 0, _, _ => c8610 m0 m1 m2 m3
  | 1, 1, _, _ => c8611 m0 m1 m2 m3
  | 1, 2, _, _ => c8612 m0 m1 m2 m3
  | 2, 0, _, _ => c8620 m0 m1 m2 m3
  | 2, 1, _, _ => c8621 m0 m1 m2 m3
  | 2, 2, _, _ => c8622 m0 m1 m2 m3
  | _ + 3, _, h, _ => absurd h (by omega)
  | _, _ + 3, _, h => absurd h (by omega)
theorem c8700 (m0 m1 m2 m3 : Nat) : CH m0 m1 m2 m3 8 7 0 0 = GO m0 m1 m2 m3 8 7 0 0 := by kernel_rfl
theorem c8701 (m0 m1 m2 m3 : Nat) : CH m0 m1 m2 m3 8 7 0 1 = GO m0 m1 m2 m3 8 7 0 1 := by kernel_rfl
theorem c8702 (m0 m1 m2 m3 : Nat) : CH m0 m1 m2 m3 8 7 0 2 = GO m0 m1 m2 m3 8 7 0 2 := by kernel_rfl
theorem c8710 (m0 m1 m2 m3 : Nat) : CH m0 m1 m2 m3 8 7 1 0 = GO m0 m1 m2 m3 8 7 1 0 := by kernel_rfl
theorem c8711 (m0 m1 m2 m3 : Nat) : CH m0 m1 m2 m3 8 7 1 1 = GO m0 m1 m2 m3 8 7 1 1 := by kernel_rfl
theorem c8712 (m0 m1 m2 m3 : Nat) : CH m0 m1 m2 m3 8 7 1 2 = GO m0 m1 m2 m3 8 7 1 2 := by kernel_rfl
theorem c8720 (m0 m1 m2 m3 : Nat) : CH m0 m1 m2 m3 8 7 2 0 = GO m0 m1 m2 m3 8 7 2 0 := by kernel_rfl
theorem c8721 (m0 m1 m2 m3 : Nat) : CH m0 m1 m2 m3 8 7 2 1 = GO m0 m1 m2 m3 8 7 2 1 := by kernel_rfl
theorem c8722 (m0 m1 m2 m3 : Nat) : CH m0 m1 m2 m3 8 7 2 2 = GO m0 m1 m2 m3 8 7 2 2 := by kernel_rfl
theorem d87 (m0 m1 m2 m3 : Nat) : ∀ j2 j3, j2 < 3 → j3 < 3 → CH m0 m1 m2 m3 8 7 j2 j3 = GO m0 m1 m2 m3 8 7 j2 j3
  | 0, 0, _, _ => c8700 m0 m1 m2 m3
  | 0, 1, _, _ => c8701 m0 m1 m2 m3
  | 0, 2, _, _ => c8702 m0 m1 m2 m3
  | 1, 0, _, _ => c8710 m0 m1 m2 m3
  | 1, 1, _, _ => c8711 m0 m1 m2 m3
  | 1, 2, _, _ => c8712 m0 m1 m2 m3
  | 2, 0, _, _ => c8720 m0 m1 m2 m3
  | 2, 1, _, _ => c8721 m0 m1 m2 m3
  | 2, 2, _, _ => c8722 m0 m1 m2 m3
  | _ + 3, _, h, _ => absurd h (by omega)
  | _, _ + 3, _, h => absurd h (by omega)
theorem c8800 (m0 m1 m2 m3 : Nat) : CH m0 m1 m2 m3 8 8 0 0 = GO m0 m1 m2 m3 8 8 0 0 := by kernel_rfl
theorem c8801 (m0 m1 m2 m3 : Nat) : CH m0 m1 m2 m3 8 8 0 1 = GO m0 m1 m2 m3 8 8 0 1 := by kernel_rfl
theorem c8802 (m0 m1 m2 m3 : Nat) : CH m0 m1 m2 m3 8 8 0 2 = GO m0 m1 m2 m3 8 8 0 2 := by kernel_rfl
theorem c8810 (m0 m1 m2 m3 : Nat) : CH m0 m1 m2 m3 8 8 1 0 = GO m0 m1 m2 m3 8 8 1 0 := by kernel_rfl
theorem c8811 (m0 m1 m2 m3 : Nat) : CH m0 m1 m2 m3 8 8 1 1 = GO m0 m1 m2 m3 8 8 1 1 := by kernel_rfl
theorem c8812 (m0 m1 m2 m3 : Nat) : CH m0 m1 m2 m3 8 8 1 2 = GO m0 m1 m2 m3 8 8 1 2 := by kernel_rfl
theorem c8820 (m0 m1 m2 m3 : Nat) : CH m0 m1 m2 m3 8 8 2 0 = GO m0 m1 m2 m3 8 8 2 0 := by kernel_rfl
theorem c8821 (m0 m1 m2 m3 : Nat) : CH m0 m1 m2 m3 8 8 2 1 = GO m0 m1 m2 m3 8 8 2 1 := by kernel_rfl
theorem c8822 (m0 m1 m2 m3 : Nat) : CH m0 m1 m2 m3 8 8 2 2 = GO m0 m1 m2 m3 8 8 2 2 := by kernel_rfl
theorem d88 (m0 m1 m2 m3 : Nat) : ∀ j2 j3, j2 < 3 → j3 < 3 → CH m0 m1 m2 m3 8 8 j2 j3 = GO m0 m1 m2 m3 8 8 j2 j3
  | 0, 0, _, _ => c8800 m0 m1 m2 m3
  | 0, 1, _, _ => c8801 m0 m1 m2 m3
  | 0, 2, _, _ => c8802 m0 m1 m2 m3
  | 1, 0, _, _ => c8810 m0 m1 m2 m3
  | 1, 1, _, _ => c8811 m0 m1 m2 m3
  | 1, 2, _, _ => c8812 m0 m1 m2 m3
  | 2, 0, _, _ => c8820 m0 m1 m2 m3
  | 2, 1, _, _ => c8821 m0 m1 m2 m3
  | 2, 2, _, _ => c8822 m0 m1 m2 m3
  | _ + 3, _, h, _ => absurd h (by omega)
  | _, _ + 3, _, h => absurd h (by omega)
theorem c8900 (m0 m1 m2 m3 : Nat) : CH m0 m1 m2 m3 8 9 0 0 = GO m0 m1 m2 m3 8 9 0 0 := by kernel_rfl
theorem c8901 (m0 m1 m2 m3 : Nat) : CH m0 m1 m2 m3 8 9 0 1 = GO m0 m1 m2 m3 8 9 0 1 := by kernel_rfl
theorem c8902 (m0 m1 m2 m3 : Nat) : CH m0 m1 m2 m3 8 9 0 2 = GO m0 m1 m2 m3 8 9 0 2 := by kernel_rfl
theorem c8910 (m0 m1 m2 m3 : Nat) : CH m0 m1 m2 m3 8 9 1 0 = GO m0 m1 m2 m3 8 9 1 0 := by kernel_rfl
theorem c8911 (m0 m1 m2 m3 : Nat) : CH m0 m1 m2 m3 8 9 1 1 = GO m0 m1 m2 m3 8 9 1 1 := by kernel_rfl
theorem c8912 (m0 m1 m2 m3 : Nat) : CH m0 m1 m2 m3 8 9 1 2 = GO m0 m1 m2 m3 8 9 1 2 := by kernel_rfl
theorem c8920 (m0 m1 m2 m3 : Nat) : CH m0 m1 m2 m3 8 9 2 0 = GO m0 m1 m2 m3 8 9 2 0 := by kernel_rfl
theorem c8921 (m0 m1 m2 m3 : Nat) : CH m0 m1 m2 m3 8 9 2 1 = GO m0 m1 m2 m3 8 9 2 1 := by kernel_rfl
theorem c8922 (m0 m1 m2 m3 : Nat) : CH m0 m1 m2 m3 8 9 2 2 = GO m0 m1 m2 m3 8 9 2 2 := by kernel_rfl
theorem d89 (m0 m1 m2 m3 : Nat) : ∀ j2 j3, j2 < 3 → j3 < 3 → CH m0 m1 m2 m3 8 9 j2 j3 = GO m0 m1 m2 m3 8 9 j2 j3
  | 0, 0, _, _ => c8900 m0 m1 m2 m3
  | 0, 1, _, _ => c8901 m0 m1 m2 m3
  | 0, 2, _, _ => c8902 m0 m1 m2 m3
  | 1, 0, _, _ => c8910 m0 m1 m2 m3
  | 1, 1, _, _ => c8911 m0 m1 m2 m3
  | 1, 2, _, _ => c8912 m0 m1 m2 m3
  | 2, 0, _, _ => c8920 m0 m1 m2 m3
  | 2, 1, _, _ => c8921 m0 m1 m2 m3
  | 2, 2, _, _ => c8922 m0 m1 m2 m3
  | _ + 3, _, h, _ => absurd h (by omega)
  | _, _ + 3, _, h => absurd h (by omega)
end Go.Proofs.YtohijnjnlfdnpaaGreat
