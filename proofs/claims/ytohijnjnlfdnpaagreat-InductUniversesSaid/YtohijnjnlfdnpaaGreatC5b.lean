/- The runs at the first number's remainder 5. -/
import Derived.KernelRfl
import Derived.Test.YtohijnjnlfdnpaaGreatTt
namespace Go.Proofs.YtohijnjnlfdnpaaGreat
open Go Go.Ev Go.Ev.K
theorem c5500 (m0 m1 m2 m3 : Nat) : CH m0 m1 m2 m3 5 5 0 0 = GO m0 m1 m2 m3 5 5 0 0 := by kernel_rfl
theorem c5501 (m0 m1 m2 m3 : Nat) : CH m0 m1 m2 m3 5 5 0 1 = GO m0 m1 m2 m3 5 5 0 1 := by kernel_rfl
theorem c5502 (m0 m1 m2 m3 : Nat) : CH m0 m1 m2 m3 5 5 0 2 = GO m0 m1 m2 m3 5 5 0 2 := by kernel_rfl
theorem c5510 (m0 m1 m2 m3 : Nat) : CH m0 m1 m2 m3 5 5 1 0 = GO m0 m1 m2 m3 5 5 1 0 := by kernel_rfl
theorem c5511 (m0 m1 m2 m3 : Nat) : CH m0 m1 m2 m3 5 5 1 1 = GO m0 m1 m2 m3 5 5 1 1 := by kernel_rfl
theorem c5512 (m0 m1 m2 m3 : Nat) : CH m0 m1 m2 m3 5 5 1 2 = GO m0 m1 m2 m3 5 5 1 2 := by kernel_rfl
theorem c5520 (m0 m1 m2 m3 : Nat) : CH m0 m1 m2 m3 5 5 2 0 = GO m0 m1 m2 m3 5 5 2 0 := by kernel_rfl
theorem c5521 (m0 m1 m2 m3 : Nat) : CH m0 m1 m2 m3 5 5 2 1 = GO m0 m1 m2 m3 5 5 2 1 := by kernel_rfl
theorem c5522 (m0 m1 m2 m3 : Nat) : CH m0 m1 m2 m3 5 5 2 2 = GO m0 m1 m2 m3 5 5 2 2 := by kernel_rfl
theorem d55 (m0 m1 m2 m3 : Nat) : ∀ j2 j3, j2 < 3 → j3 < 3 → CH m0 m1 m2 m3 5 5 j2 j3 = GO m0 m1 m2 m3 5 5 j2 j3
  | 0, 0, _, _ => c5500 m0 m1 m2 m3
  | 0, 1, _, _ => c5501 m0 m1 m2 m3
  | 0, 2, _, _ => c5502 m0 m1 m2 m3
  | 1, 0, _, _ => c5510 m0 m1 m2 m3
  | 1, 1, _, _ => c5511 m0 m1 m2 m3
  | 1, 2, _, _ => c5512 m0 m1 m2 m3
  | 2, 0, _, _ => c5520 m0 m1 m2 m3
  | 2, 1, _, _ => c5521 m0 m1 m2 m3
  | 2, 2, _, _ => c5522 m0 m1 m2 m3
  | _ + 3, _, h, _ => absurd h (by omega)
  | _, _ + 3, _, h => absurd h (by omega)
theorem c5600 (m0 m1 m2 m3 : Nat) : CH m0 m1 m2 m3 5 6 0 0 = GO m0 m1 m2 m3 5 6 0 0 := by kernel_rfl
theorem c5601 (m0 m1 m2 m3 : Nat) : CH m0 m1 m2 m3 5 6 0 1 = GO m0 m1 m2 m3 5 6 0 1 := by kernel_rfl
theorem c5602 (m0 m1 m2 m3 : Nat) : CH m0 m1 m2 m3 5 6 0 2 = GO m0 m1 m2 m3 5 6 0 2 := by kernel_rfl
theorem c5610 (m0 m1 m2 m3 : Nat) : CH m0 m1 m2 m3 5 6 1 0 = GO m0 m1 m2 m3 5 6 1 0 := by kernel_rfl
theorem c5611 (m0 m1 m2 m3 : Nat) : CH m0 m1 m2 m3 5 6 1 1 = GO m0 m1 m2 m3 5 6 1 1 := by kernel_rfl
theorem c5612 (m0 m1 m2 m3 : Nat) : CH m0 m1 m2 m3 5 6 1 2 = GO m0 m1 m2 m3 5 6 1 2 := by kernel_rfl
theorem c5620 (m0 m1 m2 m3 : Nat) : CH m0 m1 m2 m3 5 6 2 0 = GO m0 m1 m2 m3 5 6 2 0 := by kernel_rfl
theorem c5621 (m0 m1 m2 m3 : Nat) : CH m0 m1 m2 m3 5 6 2 1 = GO m0 m1 m2 m3 5 6 2 1 := by kernel_rfl
theorem c5622 (m0 m1 m2 m3 : Nat) : CH m0 m1 m2 m3 5 6 2 2 = GO m0 m1 m2 m3 5 6 2 2 := by kernel_rfl
theorem d56 (m0 m1 m2 m3 : Nat) : ∀ j2 j3, j2 < 3 → j3 < 3 → CH m0 m1 m2 m3 5 6 j2 j3 = GO m0 m1 m2 m3 5 6 j2 j3
  | 0, 0, _, _ => c5600 m0 m1 m2 m3
  | 0, 1, _, _ => c5601 m0 m1 m2 m3
  | 0, 2, _, _ => c5602 m0 m1 m2 m3
  | 1, 0, _, _ => c5610 m0 m1 m2 m3
  | 1, 1, _, _ => c5611 m0 m1 m2 m3
  | 1, 2, _, _ => c5612 m0 m1 m2 m3
  | 2, 0, _, _ => c5620 m0 m1 m2 m3
  | 2, 1, _, _ => c5621 m0 m1 m2 m3
  | 2, 2, _, _ => c5622 m0 m1 m2 m3
  | _ + 3, _, h, _ => absurd h (by omega)
  | _, _ + 3, _, h => absurd h (by omega)
theorem c5700 (m0 m1 m2 m3 : Nat) : CH m0 m1 m2 m3 5 7 0 0 = GO m0 m1 m2 m3 5 7 0 0 := by kernel_rfl
theorem c5701 (m0 m1 m2 m3 : Nat) : CH m0 m1 m2 m3 5 7 0 1 = GO m0 m1 m2 m3 5 7 0 1 := by kernel_rfl
theorem c5702 (m0 m1 m2 m3 : Nat) : CH m0 m1 m2 m3 5 7 0 2 = GO m0 m1 m2 m3 5 7 0 2 := by kernel_rfl
theorem c5710 (m0 m1 m2 m3 : Nat) : CH m0 m1 m2 m3 5 7 1 0 = GO m0 m1 m2 m3 5 7 1 0 := by kernel_rfl
theorem c5711 (m0 m1 m2 m3 : Nat) : CH m0 m1 m2 m3 5 7 1 1 = GO m0 m1 m2 m3 5 7 1 1 := by kernel_rfl
theorem c5712 (m0 m1 m2 m3 : Nat) : CH m0 m1 m2 m3 5 7 1 2 = GO m0 m1 m2 m3 5 7 1 2 := by kernel_rfl
theorem c5720 (m0 m1 m2 m3 : Nat) : CH m0 m1 m2 m3 5 7 2 0 = GO m0 m1 m2 m3 5 7 2 0 := by kernel_rfl
theorem c5721 (m0 m1 m2 m3 : Nat) : CH m0 m1 m2 m3 5 7 2 1 = GO m0 m1 m2 m3 5 7 2 1 := by kernel_rfl
theorem c5722 (m0 m1 m2 m3 : Nat) : CH m0 m1 m2 m3 5 7 2 2 = GO m0 m1 m2 m3 5 7 2 2 := by kernel_rfl
theorem d57 (m0 m1 m2 m3 : Nat) : ∀ j2 j3, j2 < 3 → j3 < 3 → CH m0 m1 m2 m3 5 7 j2 j3 = GO m0 m1 m2 m3 5 7 j2 j3
  | 0, 0, _, _ => c5700 m0 m1 m2 m3
  | 0, 1, _, _ => c5701 m0 m1 m2 m3
  | 0, 2, _, _ => c5702 m0 m1 m2 m3
  | 1, 0, _, _ => c5710 m0 m1 m2 m3
  | 1, 1, _, _ => c5711 m0 m1 m2 m3
  | 1, 2, _, _ => c5712 m0 m1 m2 m3
  | 2, 0, _, _ => c5720 m0 m1 m2 m3
  | 2, 1, _, _ => c5721 m0 m1 m2 m3
  | 2, 2, _, _ => c5722 m0 m1 m2 m3
  | _ + 3, _, h, _ => absurd h (by omega)
  | _, _ + 3, _, h => absurd h (by omega)
theorem c5800 (m0 m1 m2 m3 : Nat) : CH m0 m1 m2 m3 5 8 0 0 = GO m0 m1 m2 m3 5 8 0 0 := by kernel_rfl
theorem c5801 (m0 m1 m2 m3 : Nat) : CH m0 m1 m2 m3 5 8 0 1 = GO m0 m1 m2 m3 5 8 0 1 := by kernel_rfl
theorem c5802 (m0 m1 m2 m3 : Nat) : CH m0 m1 m2 m3 5 8 0 2 = GO m0 m1 m2 m3 5 8 0 2 := by kernel_rfl
theorem c5810 (m0 m1 m2 m3 : Nat) : CH m0 m1 m2 m3 5 8 1 0 = GO m0 m1 m2 m3 5 8 1 0 := by kernel_rfl
theorem c5811 (m0 m1 m2 m3 : Nat) : CH m0 m1 m2 m3 5 8 1 1 = GO m0 m1 m2 m3 5 8 1 1 := by kernel_rfl
theorem c5812 (m0 m1 m2 m3 : Nat) : CH m0 m1 m2 m3 5 8 1 2 = GO m0 m1 m2 m3 5 8 1 2 := by kernel_rfl
theorem c5820 (m0 m1 m2 m3 : Nat) : CH m0 m1 m2 m3 5 8 2 0 = GO m0 m1 m2 m3 5 8 2 0 := by kernel_rfl
theorem c5821 (m0 m1 m2 m3 : Nat) : CH m0 m1 m2 m3 5 8 2 1 = GO m0 m1 m2 m3 5 8 2 1 := by kernel_rfl
theorem c5822 (m0 m1 m2 m3 : Nat) : CH m0 m1 m2 m3 5 8 2 2 = GO m0 m1 m2 m3 5 8 2 2 := by kernel_rfl
theorem d58 (m0 m1 m2 m3 : Nat) : ∀ j2 j3, j2 < 3 → j3 < 3 → CH m0 m1 m2 m3 5 8 j2 j3 = GO m0 m1 m2 m3 5 8 j2 j3
  | 0, 0, _, _ => c5800 m0 m1 m2 m3
  | 0, 1, _, _ => c5801 m0 m1 m2 m3
  | 0, 2, _, _ => c5802 m0 m1 m2 m3
  | 1, 0, _, _ => c5810 m0 m1 m2 m3
  | 1, 1, _, _ => c5811 m0 m1 m2 m3
  | 1, 2, _, _ => c5812 m0 m1 m2 m3
  | 2, 0, _, _ => c5820 m0 m1 m2 m3
  | 2, 1, _, _ => c5821 m0 m1 m2 m3
  | 2, 2, _, _ => c5822 m0 m1 m2 m3
  | _ + 3, _, h, _ => absurd h (by omega)
  | _, _ + 3, _, h => absurd h (by omega)
theorem c5900 (m0 m1 m2 m3 : Nat) : CH m0 m1 m2 m3 5 9 0 0 = GO m0 m1 m2 m3 5 9 0 0 := by kernel_rfl
theorem c5901 (m0 m1 m2 m3 : Nat) : CH m0 m1 m2 m3 5 9 0 1 = GO m0 m1 m2 m3 5 9 0 1 := by kernel_rfl
theorem c5902 (m0 m1 m2 m3 : Nat) : CH m0 m1 m2 m3 5 9 0 2 = GO m0 m1 m2 m3 5 9 0 2 := by kernel_rfl
theorem c5910 (m0 m1 m2 m3 : Nat) : CH m0 m1 m2 m3 5 9 1 0 = GO m0 m1 m2 m3 5 9 1 0 := by kernel_rfl
theorem c5911 (m0 m1 m2 m3 : Nat) : CH m0 m1 m2 m3 5 9 1 1 = GO m0 m1 m2 m3 5 9 1 1 := by kernel_rfl
theorem c5912 (m0 m1 m2 m3 : Nat) : CH m0 m1 m2 m3 5 9 1 2 = GO m0 m1 m2 m3 5 9 1 2 := by kernel_rfl
theorem c5920 (m0 m1 m2 m3 : Nat) : CH m0 m1 m2 m3 5 9 2 0 = GO m0 m1 m2 m3 5 9 2 0 := by kernel_rfl
theorem c5921 (m0 m1 m2 m3 : Nat) : CH m0 m1 m2 m3 5 9 2 1 = GO m0 m1 m2 m3 5 9 2 1 := by kernel_rfl
theorem c5922 (m0 m1 m2 m3 : Nat) : CH m0 m1 m2 m3 5 9 2 2 = GO m0 m1 m2 m3 5 9 2 2 := by kernel_rfl
theorem d59 (m0 m1 m2 m3 : Nat) : ∀ j2 j3, j2 < 3 → j3 < 3 → CH m0 m1 m2 m3 5 9 j2 j3 = GO m0 m1 m2 m3 5 9 j2 j3
  | 0, 0, _, _ => c5900 m0 m1 m2 m3
  | 0, 1, _, _ => c5901 m0 m1 m2 m3
  | 0, 2, _, _ => c5902 m0 m1 m2 m3
  | 1, 0, _, _ => c5910 m0 m1 m2 m3
  | 1, 1, _, _ => c5911 m0 m1 m2 m3
  | 1, 2, _, _ => c5912 m0 m1 m2 m3
  | 2, 0, _, _ => c5920 m0 m1 m2 m3
  | 2, 1, _, _ => c5921 m0 m1 m2 m3
  | 2, 2, _, _ => c5922 m0 m1 m2 m3
  | _ + 3, _, h, _ => absurd h (by omega)
  | _, _ + 3, _, h => absurd h (by omega)
end Go.Proofs.YtohijnjnlfdnpaaGreat
