/- The runs at the first number's remainder 6. -/
import Derived.KernelRfl
import Derived.Test.YtohijnjnlfdnpaaGreatTt
namespace Go.Proofs.YtohijnjnlfdnpaaGreat
open Go Go.Ev Go.Ev.K
theorem c6500 (m0 m1 m2 m3 : Nat) : CH m0 m1 m2 m3 6 5 0 0 = GO m0 m1 m2 m3 6 5 0 0 := by kernel_rfl
theorem c6501 (m0 m1 m2 m3 : Nat) : CH m0 m1 m2 m3 6 5 0 1 = GO m0 m1 m2 m3 6 5 0 1 := by kernel_rfl
theorem c6502 (m0 m1 m2 m3 : Nat) : CH m0 m1 m2 m3 6 5 0 2 = GO m0 m1 m2 m3 6 5 0 2 := by kernel_rfl
theorem c6510 (m0 m1 m2 m3 : Nat) : CH m0 m1 m2 m3 6 5 1 0 = GO m0 m1 m2 m3 6 5 1 0 := by kernel_rfl
theorem c6511 (m0 m1 m2 m3 : Nat) : CH m0 m1 m2 m3 6 5 1 1 = GO m0 m1 m2 m3 6 5 1 1 := by kernel_rfl
theorem c6512 (m0 m1 m2 m3 : Nat) : CH m0 m1 m2 m3 6 5 1 2 = GO m0 m1 m2 m3 6 5 1 2 := by kernel_rfl
theorem c6520 (m0 m1 m2 m3 : Nat) : CH m0 m1 m2 m3 6 5 2 0 = GO m0 m1 m2 m3 6 5 2 0 := by kernel_rfl
theorem c6521 (m0 m1 m2 m3 : Nat) : CH m0 m1 m2 m3 6 5 2 1 = GO m0 m1 m2 m3 6 5 2 1 := by kernel_rfl
theorem c6522 (m0 m1 m2 m3 : Nat) : CH m0 m1 m2 m3 6 5 2 2 = GO m0 m1 m2 m3 6 5 2 2 := by kernel_rfl
theorem d65 (m0 m1 m2 m3 : Nat) : ∀ j2 j3, j2 < 3 → j3 < 3 → CH m0 m1 m2 m3 6 5 j2 j3 = GO m0 m1 m2 m3 6 5 j2 j3
  | 0, 0, _, _ => c6500 m0 m1 m2 m3
  | 0, 1, _, _ => c6501 m0 m1 m2 m3
  | 0, 2, _, _ => c6502 m0 m1 m2 m3
  | 1, 0, _, _ => c6510 m0 m1 m2 m3
  | 1, 1, _, _ => c6511 m0 m1 m2 m3
  | 1, 2, _, _ => c6512 m0 m1 m2 m3
  | 2, 0, _, _ => c6520 m0 m1 m2 m3
  | 2, 1, _, _ => c6521 m0 m1 m2 m3
  | 2, 2, _, _ => c6522 m0 m1 m2 m3
  | _ + 3, _, h, _ => absurd h (by omega)
  | _, _ + 3, _, h => absurd h (by omega)
theorem c6600 (m0 m1 m2 m3 : Nat) : CH m0 m1 m2 m3 6 6 0 0 = GO m0 m1 m2 m3 6 6 0 0 := by kernel_rfl
theorem c6601 (m0 m1 m2 m3 : Nat) : CH m0 m1 m2 m3 6 6 0 1 = GO m0 m1 m2 m3 6 6 0 1 := by kernel_rfl
theorem c6602 (m0 m1 m2 m3 : Nat) : CH m0 m1 m2 m3 6 6 0 2 = GO m0 m1 m2 m3 6 6 0 2 := by kernel_rfl
theorem c6610 (m0 m1 m2 m3 : Nat) : CH m0 m1 m2 m3 6 6 1 0 = GO m0 m1 m2 m3 6 6 1 0 := by kernel_rfl
theorem c6611 (m0 m1 m2 m3 : Nat) : CH m0 m1 m2 m3 6 6 1 1 = GO m0 m1 m2 m3 6 6 1 1 := by kernel_rfl
theorem c6612 (m0 m1 m2 m3 : Nat) : CH m0 m1 m2 m3 6 6 1 2 = GO m0 m1 m2 m3 6 6 1 2 := by kernel_rfl
theorem c6620 (m0 m1 m2 m3 : Nat) : CH m0 m1 m2 m3 6 6 2 0 = GO m0 m1 m2 m3 6 6 2 0 := by kernel_rfl
theorem c6621 (m0 m1 m2 m3 : Nat) : CH m0 m1 m2 m3 6 6 2 1 = GO m0 m1 m2 m3 6 6 2 1 := by kernel_rfl
theorem c6622 (m0 m1 m2 m3 : Nat) : CH m0 m1 m2 m3 6 6 2 2 = GO m0 m1 m2 m3 6 6 2 2 := by kernel_rfl
theorem d66 (m0 m1 m2 m3 : Nat) : ∀ j2 j3, j2 < 3 → j3 < 3 → CH m0 m1 m2 m3 6 6 j2 j3 = GO m0 m1 m2 m3 6 6 j2 j3
  | 0, 0, _, _ => c6600 m0 m1 m2 m3
  | 0, 1, _, _ => c6601 m0 m1 m2 m3
  | 0, 2, _, _ => c6602 m0 m1 m2 m3
  | 1, 0, _, _ => c6610 m0 m1 m2 m3
  | 1, 1, _, _ => c6611 m0 m1 m2 m3
  | 1, 2, _, _ => c6612 m0 m1 m2 m3
  | 2, 0, _, _ => c6620 m0 m1 m2 m3
  | 2, 1, _, _ => c6621 m0 m1 m2 m3
  | 2, 2, _, _ => c6622 m0 m1 m2 m3
  | _ + 3, _, h, _ => absurd h (by omega)
  | _, _ + 3, _, h => absurd h (by omega)
theorem c6700 (m0 m1 m2 m3 : Nat) : CH m0 m1 m2 m3 6 7 0 0 = GO m0 m1 m2 m3 6 7 0 0 := by kernel_rfl
theorem c6701 (m0 m1 m2 m3 : Nat) : CH m0 m1 m2 m3 6 7 0 1 = GO m0 m1 m2 m3 6 7 0 1 := by kernel_rfl
theorem c6702 (m0 m1 m2 m3 : Nat) : CH m0 m1 m2 m3 6 7 0 2 = GO m0 m1 m2 m3 6 7 0 2 := by kernel_rfl
theorem c6710 (m0 m1 m2 m3 : Nat) : CH m0 m1 m2 m3 6 7 1 0 = GO m0 m1 m2 m3 6 7 1 0 := by kernel_rfl
theorem c6711 (m0 m1 m2 m3 : Nat) : CH m0 m1 m2 m3 6 7 1 1 = GO m0 m1 m2 m3 6 7 1 1 := by kernel_rfl
theorem c6712 (m0 m1 m2 m3 : Nat) : CH m0 m1 m2 m3 6 7 1 2 = GO m0 m1 m2 m3 6 7 1 2 := by kernel_rfl
theorem c6720 (m0 m1 m2 m3 : Nat) : CH m0 m1 m2 m3 6 7 2 0 = GO m0 m1 m2 m3 6 7 2 0 := by kernel_rfl
theorem c6721 (m0 m1 m2 m3 : Nat) : CH m0 m1 m2 m3 6 7 2 1 = GO m0 m1 m2 m3 6 7 2 1 := by kernel_rfl
theorem c6722 (m0 m1 m2 m3 : Nat) : CH m0 m1 m2 m3 6 7 2 2 = GO m0 m1 m2 m3 6 7 2 2 := by kernel_rfl
theorem d67 (m0 m1 m2 m3 : Nat) : ∀ j2 j3, j2 < 3 → j3 < 3 → CH m0 m1 m2 m3 6 7 j2 j3 = GO m0 m1 m2 m3 6 7 j2 j3
  | 0, 0, _, _ => c6700 m0 m1 m2 m3
  | 0, 1, _, _ => c6701 m0 m1 m2 m3
  | 0, 2, _, _ => c6702 m0 m1 m2 m3
  | 1, 0, _, _ => c6710 m0 m1 m2 m3
  | 1, 1, _, _ => c6711 m0 m1 m2 m3
  | 1, 2, _, _ => c6712 m0 m1 m2 m3
  | 2, 0, _, _ => c6720 m0 m1 m2 m3
  | 2, 1, _, _ => c6721 m0 m1 m2 m3
  | 2, 2, _, _ => c6722 m0 m1 m2 m3
  | _ + 3, _, h, _ => absurd h (by omega)
  | _, _ + 3, _, h => absurd h (by omega)
theorem c6800 (m0 m1 m2 m3 : Nat) : CH m0 m1 m2 m3 6 8 0 0 = GO m0 m1 m2 m3 6 8 0 0 := by kernel_rfl
theorem c6801 (m0 m1 m2 m3 : Nat) : CH m0 m1 m2 m3 6 8 0 1 = GO m0 m1 m2 m3 6 8 0 1 := by kernel_rfl
theorem c6802 (m0 m1 m2 m3 : Nat) : CH m0 m1 m2 m3 6 8 0 2 = GO m0 m1 m2 m3 6 8 0 2 := by kernel_rfl
theorem c6810 (m0 m1 m2 m3 : Nat) : CH m0 m1 m2 m3 6 8 1 0 = GO m0 m1 m2 m3 6 8 1 0 := by kernel_rfl
theorem c6811 (m0 m1 m2 m3 : Nat) : CH m0 m1 m2 m3 6 8 1 1 = GO m0 m1 m2 m3 6 8 1 1 := by kernel_rfl
theorem c6812 (m0 m1 m2 m3 : Nat) : CH m0 m1 m2 m3 6 8 1 2 = GO m0 m1 m2 m3 6 8 1 2 := by kernel_rfl
theorem c6820 (m0 m1 m2 m3 : Nat) : CH m0 m1 m2 m3 6 8 2 0 = GO m0 m1 m2 m3 6 8 2 0 := by kernel_rfl
theorem c6821 (m0 m1 m2 m3 : Nat) : CH m0 m1 m2 m3 6 8 2 1 = GO m0 m1 m2 m3 6 8 2 1 := by kernel_rfl
theorem c6822 (m0 m1 m2 m3 : Nat) : CH m0 m1 m2 m3 6 8 2 2 = GO m0 m1 m2 m3 6 8 2 2 := by kernel_rfl
theorem d68 (m0 m1 m2 m3 : Nat) : ∀ j2 j3, j2 < 3 → j3 < 3 → CH m0 m1 m2 m3 6 8 j2 j3 = GO m0 m1 m2 m3 6 8 j2 j3
  | 0, 0, _, _ => c6800 m0 m1 m2 m3
  | 0, 1, _, _ => c6801 m0 m1 m2 m3
  | 0, 2, _, _ => c6802 m0 m1 m2 m3
  | 1, 0, _, _ => c6810 m0 m1 m2 m3
  | 1, 1, _, _ => c6811 m0 m1 m2 m3
  | 1, 2, _, _ => c6812 m0 m1 m2 m3
  | 2, 0, _, _ => c6820 m0 m1 m2 m3
  | 2, 1, _, _ => c6821 m0 m1 m2 m3
  | 2, 2, _, _ => c6822 m0 m1 m2 m3
  | _ + 3, _, h, _ => absurd h (by omega)
  | _, _ + 3, _, h => absurd h (by omega)
theorem c6900 (m0 m1 m2 m3 : Nat) : CH m0 m1 m2 m3 6 9 0 0 = GO m0 m1 m2 m3 6 9 0 0 := by kernel_rfl
theorem c6901 (m0 m1 m2 m3 : Nat) : CH m0 m1 m2 m3 6 9 0 1 = GO m0 m1 m2 m3 6 9 0 1 := by kernel_rfl
theorem c6902 (m0 m1 m2 m3 : Nat) : CH m0 m1 m2 m3 6 9 0 2 = GO m0 m1 m2 m3 6 9 0 2 := by kernel_rfl
theorem c6910 (m0 m1 m2 m3 : Nat) : CH m0 m1 m2 m3 6 9 1 0 = GO m0 m1 m2 m3 6 9 1 0 := by kernel_rfl
theorem c6911 (m0 m1 m2 m3 : Nat) : CH m0 m1 m2 m3 6 9 1 1 = GO m0 m1 m2 m3 6 9 1 1 := by kernel_rfl
theorem c6912 (m0 m1 m2 m3 : Nat) : CH m0 m1 m2 m3 6 9 1 2 = GO m0 m1 m2 m3 6 9 1 2 := by kernel_rfl
theorem c6920 (m0 m1 m2 m3 : Nat) : CH m0 m1 m2 m3 6 9 2 0 = GO m0 m1 m2 m3 6 9 2 0 := by kernel_rfl
theorem c6921 (m0 m1 m2 m3 : Nat) : CH m0 m1 m2 m3 6 9 2 1 = GO m0 m1 m2 m3 6 9 2 1 := by kernel_rfl
theorem c6922 (m0 m1 m2 m3 : Nat) : CH m0 m1 m2 m3 6 9 2 2 = GO m0 m1 m2 m3 6 9 2 2 := by kernel_rfl
theorem d69 (m0 m1 m2 m3 : Nat) : ∀ j2 j3, j2 < 3 → j3 < 3 → CH m0 m1 m2 m3 6 9 j2 j3 = GO m0 m1 m2 m3 6 9 j2 j3
  | 0, 0, _, _ => c6900 m0 m1 m2 m3
  | 0, 1, _, _ => c6901 m0 m1 m2 m3
  | 0, 2, _, _ => c6902 m0 m1 m2 m3
  | 1, 0, _, _ => c6910 m0 m1 m2 m3
  | 1, 1, _, _ => c6911 m0 m1 m2 m3
  | 1, 2, _, _ => c6912 m0 m1 m2 m3
  | 2, 0, _, _ => c6920 m0 m1 m2 m3
  | 2, 1, _, _ => c6921 m0 m1 m2 m3
  | 2, 2, _, _ => c6922 m0 m1 m2 m3
  | _ + 3, _, h, _ => absurd h (by omega)
  | _, _ + 3, _, h => absurd h (by omega)
end Go.Proofs.YtohijnjnlfdnpaaGreat
