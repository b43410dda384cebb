/- The runs at the first number's remainder 3. -/
import Derived.KernelRfl
import Derived.Test.YtohijnjnlfdnpaaGreatTt
namespace Go.Proofs.YtohijnjnlfdnpaaGreat
open Go Go.Ev Go.Ev.K
theorem c3500 (m0 m1 m2 m3 : Nat) : CH m0 m1 m2 m3 3 5 0 0 = GO m0 m1 m2 m3 3 5 0 0 := by kernel_rfl
theorem c3501 (m0 m1 m2 m3 : Nat) : CH m0 m1 m2 m3 3 5 0 1 = GO m0 m1 m2 m3 3 5 0 1 := by kernel_rfl
theorem c3502 (m0 m1 m2 m3 : Nat) : CH m0 m1 m2 m3 3 5 0 2 = GO m0 m1 m2 m3 3 5 0 2 := by kernel_rfl
theorem c3510 (m0 m1 m2 m3 : Nat) : CH m0 m1 m2 m3 3 5 1 0 = GO m0 m1 m2 m3 3 5 1 0 := by kernel_rfl
theorem c3511 (m0 m1 m2 m3 : Nat) : CH m0 m1 m2 m3 3 5 1 1 = GO m0 m1 m2 m3 3 5 1 1 := by kernel_rfl
theorem c3512 (m0 m1 m2 m3 : Nat) : CH m0 m1 m2 m3 3 5 1 2 = GO m0 m1 m2 m3 3 5 1 2 := by kernel_rfl
theorem c3520 (m0 m1 m2 m3 : Nat) : CH m0 m1 m2 m3 3 5 2 0 = GO m0 m1 m2 m3 3 5 2 0 := by kernel_rfl
theorem c3521 (m0 m1 m2 m3 : Nat) : CH m0 m1 m2 m3 3 5 2 1 = GO m0 m1 m2 m3 3 5 2 1 := by kernel_rfl
theorem c3522 (m0 m1 m2 m3 : Nat) : CH m0 m1 m2 m3 3 5 2 2 = GO m0 m1 m2 m3 3 5 2 2 := by kernel_rfl
theorem d35 (m0 m1 m2 m3 : Nat) : ∀ j2 j3, j2 < 3 → j3 < 3 → CH m0 m1 m2 m3 3 5 j2 j3 = GO m0 m1 m2 m3 3 5 j2 j3
  | 0, 0, _, _ => c3500 m0 m1 m2 m3
  | 0, 1, _, _ => c3501 m0 m1 m2 m3
  | 0, 2, _, _ => c3502 m0 m1 m2 m3
  | 1, 0, _, _ => c3510 m0 m1 m2 m3
  | 1, 1, _, _ => c3511 m0 m1 m2 m3
  | 1, 2, _, _ => c3512 m0 m1 m2 m3
  | 2, 0, _, _ => c3520 m0 m1 m2 m3
  | 2, 1, _, _ => c3521 m0 m1 m2 m3
  | 2, 2, _, _ => c3522 m0 m1 m2 m3
  | _ + 3, _, h, _ => absurd h (by omega)
  | _, _ + 3, _, h => absurd h (by omega)
theorem c3600 (m0 m1 m2 m3 : Nat) : CH m0 m1 m2 m3 3 6 0 0 = GO m0 m1 m2 m3 3 6 0 0 := by kernel_rfl
theorem c3601 (m0 m1 m2 m3 : Nat) : CH m0 m1 m2 m3 3 6 0 1 = GO m0 m1 m2 m3 3 6 0 1 := by kernel_rfl
theorem c3602 (m0 m1 m2 m3 : Nat) : CH m0 m1 m2 m3 3 6 0 2 = GO m0 m1 m2 m3 3 6 0 2 := by kernel_rfl
theorem c3610 (m0 m1 m2 m3 : Nat) : CH m0 m1 m2 m3 3 6 1 0 = GO m0 m1 m2 m3 3 6 1 0 := by kernel_rfl
theorem c3611 (m0 m1 m2 m3 : Nat) : CH m0 m1 m2 m3 3 6 1 1 = GO m0 m1 m2 m3 3 6 1 1 := by kernel_rfl
theorem c3612 (m0 m1 m2 m3 : Nat) : CH m0 m1 m2 m3 3 6 1 2 = GO m0 m1 m2 m3 3 6 1 2 := by kernel_rfl
theorem c3620 (m0 m1 m2 m3 : Nat) : CH m0 m1 m2 m3 3 6 2 0 = GO m0 m1 m2 m3 3 6 2 0 := by kernel_rfl
theorem c3621 (m0 m1 m2 m3 : Nat) : CH m0 m1 m2 m3 3 6 2 1 = GO m0 m1 m2 m3 3 6 2 1 := by kernel_rfl
theorem c3622 (m0 m1 m2 m3 : Nat) : CH m0 m1 m2 m3 3 6 2 2 = GO m0 m1 m2 m3 3 6 2 2 := by kernel_rfl
theorem d36 (m0 m1 m2 m3 : Nat) : ∀ j2 j3, j2 < 3 → j3 < 3 → CH m0 m1 m2 m3 3 6 j2 j3 = GO m0 m1 m2 m3 3 6 j2 j3
  | 0, 0, _, _ => c3600 m0 m1 m2 m3
  | 0, 1, _, _ => c3601 m0 m1 m2 m3
  | 0, 2, _, _ => c3602 m0 m1 m2 m3
  | 1, 0, _, _ => c3610 m0 m1 m2 m3
  | 1, 1, _, _ => c3611 m0 m1 m2 m3
  | 1, 2, _, _ => c3612 m0 m1 m2 m3
  | 2, 0, _, _ => c3620 m0 m1 m2 m3
  | 2, 1, _, _ => c3621 m0 m1 m2 m3
  | 2, 2, _, _ => c3622 m0 m1 m2 m3
  | _ + 3, _, h, _ => absurd h (by omega)
  | _, _ + 3, _, h => absurd h (by omega)
theorem c3700 (m0 m1 m2 m3 : Nat) : CH m0 m1 m2 m3 3 7 0 0 = GO m0 m1 m2 m3 3 7 0 0 := by kernel_rfl
theorem c3701 (m0 m1 m2 m3 : Nat) : CH m0 m1 m2 m3 3 7 0 1 = GO m0 m1 m2 m3 3 7 0 1 := by kernel_rfl
theorem c3702 (m0 m1 m2 m3 : Nat) : CH m0 m1 m2 m3 3 7 0 2 = GO m0 m1 m2 m3 3 7 0 2 := by kernel_rfl
theorem c3710 (m0 m1 m2 m3 : Nat) : CH m0 m1 m2 m3 3 7 1 0 = GO m0 m1 m2 m3 3 7 1 0 := by kernel_rfl
theorem c3711 (m0 m1 m2 m3 : Nat) : CH m0 m1 m2 m3 3 7 1 1 = GO m0 m1 m2 m3 3 7 1 1 := by kernel_rfl
theorem c3712 (m0 m1 m2 m3 : Nat) : CH m0 m1 m2 m3 3 7 1 2 = GO m0 m1 m2 m3 3 7 1 2 := by kernel_rfl
theorem c3720 (m0 m1 m2 m3 : Nat) : CH m0 m1 m2 m3 3 7 2 0 = GO m0 m1 m2 m3 3 7 2 0 := by kernel_rfl
theorem c3721 (m0 m1 m2 m3 : Nat) : CH m0 m1 m2 m3 3 7 2 1 = GO m0 m1 m2 m3 3 7 2 1 := by kernel_rfl
theorem c3722 (m0 m1 m2 m3 : Nat) : CH m0 m1 m2 m3 3 7 2 2 = GO m0 m1 m2 m3 3 7 2 2 := by kernel_rfl
theorem d37 (m0 m1 m2 m3 : Nat) : ∀ j2 j3, j2 < 3 → j3 < 3 → CH m0 m1 m2 m3 3 7 j2 j3 = GO m0 m1 m2 m3 3 7 j2 j3
  | 0, 0, _, _ => c3700 m0 m1 m2 m3
  | 0, 1, _, _ => c3701 m0 m1 m2 m3
  | 0, 2, _, _ => c3702 m0 m1 m2 m3
  | 1, 0, _, _ => c3710 m0 m1 m2 m3
  | 1, 1, _, _ => c3711 m0 m1 m2 m3
  | 1, 2, _, _ => c3712 m0 m1 m2 m3
  | 2, 0, _, _ => c3720 m0 m1 m2 m3
  | 2, 1, _, _ => c3721 m0 m1 m2 m3
  | 2, 2, _, _ => c3722 m0 m1 m2 m3
  | _ + 3, _, h, _ => absurd h (by omega)
  | _, _ + 3, _, h => absurd h (by omega)
theorem c3800 (m0 m1 m2 m3 : Nat) : CH m0 m1 m2 m3 3 8 0 0 = GO m0 m1 m2 m3 3 8 0 0 := by kernel_rfl
theorem c3801 (m0 m1 m2 m3 : Nat) : CH m0 m1 m2 m3 3 8 0 1 = GO m0 m1 m2 m3 3 8 0 1 := by kernel_rfl
theorem c3802 (m0 m1 m2 m3 : Nat) : CH m0 m1 m2 m3 3 8 0 2 = GO m0 m1 m2 m3 3 8 0 2 := by kernel_rfl
theorem c3810 (m0 m1 m2 m3 : Nat) : CH m0 m1 m2 m3 3 8 1 0 = GO m0 m1 m2 m3 3 8 1 0 := by kernel_rfl
theorem c3811 (m0 m1 m2 m3 : Nat) : CH m0 m1 m2 m3 3 8 1 1 = GO m0 m1 m2 m3 3 8 1 1 := by kernel_rfl
theorem c3812 (m0 m1 m2 m3 : Nat) : CH m0 m1 m2 m3 3 8 1 2 = GO m0 m1 m2 m3 3 8 1 2 := by kernel_rfl
theorem c3820 (m0 m1 m2 m3 : Nat) : CH m0 m1 m2 m3 3 8 2 0 = GO m0 m1 m2 m3 3 8 2 0 := by kernel_rfl
theorem c3821 (m0 m1 m2 m3 : Nat) : CH m0 m1 m2 m3 3 8 2 1 = GO m0 m1 m2 m3 3 8 2 1 := by kernel_rfl
theorem c3822 (m0 m1 m2 m3 : Nat) : CH m0 m1 m2 m3 3 8 2 2 = GO m0 m1 m2 m3 3 8 2 2 := by kernel_rfl
theorem d38 (m0 m1 m2 m3 : Nat) : ∀ j2 j3, j2 < 3 → j3 < 3 → CH m0 m1 m2 m3 3 8 j2 j3 = GO m0 m1 m2 m3 3 8 j2 j3
  | 0, 0, _, _ => c3800 m0 m1 m2 m3
  | 0, 1, _, _ => c3801 m0 m1 m2 m3
  | 0, 2, _, _ => c3802 m0 m1 m2 m3
  | 1, 0, _, _ => c3810 m0 m1 m2 m3
  | 1, 1, _, _ => c3811 m0 m1 m2 m3
  | 1, 2, _, _ => c3812 m0 m1 m2 m3
  | 2, 0, _, _ => c3820 m0 m1 m2 m3
  | 2, 1, _, _ => c3821 m0 m1 m2 m3
  | 2, 2, _, _ => c3822 m0 m1 m2 m3
  | _ + 3, _, h, _ => absurd h (by omega)
  | _, _ + 3, _, h => absurd h (by omega)
theorem c3900 (m0 m1 m2 m3 : Nat) : CH m0 m1 m2 m3 3 9 0 0 = GO m0 m1 m2 m3 3 9 0 0 := by kernel_rfl
theorem c3901 (m0 m1 m2 m3 : Nat) : CH m0 m1 m2 m3 3 9 0 1 = GO m0 m1 m2 m3 3 9 0 1 := by kernel_rfl
theorem c3902 (m0 m1 m2 m3 : Nat) : CH m0 m1 m2 m3 3 9 0 2 = GO m0 m1 m2 m3 3 9 0 2 := by kernel_rfl
theorem c3910 (m0 m1 m2 m3 : Nat) : CH m0 m1 m2 m3 3 9 1 0 = GO m0 m1 m2 m3 3 9 1 0 := by kernel_rfl
theorem c3911 (m0 m1 m2 m3 : Nat) : CH m0 m1 m2 m3 3 9 1 1 = GO m0 m1 m2 m3 3 9 1 1 := by kernel_rfl
theorem c3912 (m0 m1 m2 m3 : Nat) : CH m0 m1 m2 m3 3 9 1 2 = GO m0 m1 m2 m3 3 9 1 2 := by kernel_rfl
theorem c3920 (m0 m1 m2 m3 : Nat) : CH m0 m1 m2 m3 3 9 2 0 = GO m0 m1 m2 m3 3 9 2 0 := by kernel_rfl
theorem c3921 (m0 m1 m2 m3 : Nat) : CH m0 m1 m2 m3 3 9 2 1 = GO m0 m1 m2 m3 3 9 2 1 := by kernel_rfl
theorem c3922 (m0 m1 m2 m3 : Nat) : CH m0 m1 m2 m3 3 9 2 2 = GO m0 m1 m2 m3 3 9 2 2 := by kernel_rfl
theorem d39 (m0 m1 m2 m3 : Nat) : ∀ j2 j3, j2 < 3 → j3 < 3 → CH m0 m1 m2 m3 3 9 j2 j3 = GO m0 m1 m2 m3 3 9 j2 j3
  | 0, 0, _, _ => c3900 m0 m1 m2 m3
  | 0, 1, _, _ => c3901 m0 m1 m2 m3
  | 0, 2, _, _ => c3902 m0 m1 m2 m3
  | 1, 0, _, _ => c3910 m0 m1 m2 m3
  | 1, 1, _, _ => c3911 m0 m1 m2 m3
  | 1, 2, _, _ => c3912 m0 m1 m2 m3
  | 2, 0, _, _ => c3920 m0 m1 m2 m3
  | 2, 1, _, _ => c3921 m0 m1 m2 m3
  | 2, 2, _, _ => c3922 m0 m1 m2 m3
  | _ + 3, _, h, _ => absurd h (by omega)
  | _, _ + 3, _, h => absurd h (by omega)
end Go.Proofs.YtohijnjnlfdnpaaGreat
