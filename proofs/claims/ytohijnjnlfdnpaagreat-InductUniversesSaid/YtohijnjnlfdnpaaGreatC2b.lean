/- The runs at the first number's remainder 2. -/
import Derived.KernelRfl
import Derived.Test.YtohijnjnlfdnpaaGreatTt
namespace Go.Proofs.YtohijnjnlfdnpaaGreat
open Go Go.Ev Go.Ev.K
theorem c2500 (m0 m1 m2 m3 : Nat) : CH m0 m1 m2 m3 2 5 0 0 = GO m0 m1 m2 m3 2 5 0 0 := by kernel_rfl
theorem c2501 (m0 m1 m2 m3 : Nat) : CH m0 m1 m2 m3 2 5 0 1 = GO m0 m1 m2 m3 2 5 0 1 := by kernel_rfl
theorem c2502 (m0 m1 m2 m3 : Nat) : CH m0 m1 m2 m3 2 5 0 2 = GO m0 m1 m2 m3 2 5 0 2 := by kernel_rfl
theorem c2510 (m0 m1 m2 m3 : Nat) : CH m0 m1 m2 m3 2 5 1 0 = GO m0 m1 m2 m3 2 5 1 0 := by kernel_rfl
theorem c2511 (m0 m1 m2 m3 : Nat) : CH m0 m1 m2 m3 2 5 1 1 = GO m0 m1 m2 m3 2 5 1 1 := by kernel_rfl
theorem c2512 (m0 m1 m2 m3 : Nat) : CH m0 m1 m2 m3 2 5 1 2 = GO m0 m1 m2 m3 2 5 1 2 := by kernel_rfl
theorem c2520 (m0 m1 m2 m3 : Nat) : CH m0 m1 m2 m3 2 5 2 0 = GO m0 m1 m2 m3 2 5 2 0 := by kernel_rfl
theorem c2521 (m0 m1 m2 m3 : Nat) : CH m0 m1 m2 m3 2 5 2 1 = GO m0 m1 m2 m3 2 5 2 1 := by kernel_rfl
theorem c2522 (m0 m1 m2 m3 : Nat) : CH m0 m1 m2 m3 2 5 2 2 = GO m0 m1 m2 m3 2 5 2 2 := by kernel_rfl
theorem d25 (m0 m1 m2 m3 : Nat) : ∀ j2 j3, j2 < 3 → j3 < 3 → CH m0 m1 m2 m3 2 5 j2 j3 = GO m0 m1 m2 m3 2 5 j2 j3
  | 0, 0, _, _ => c2500 m0 m1 m2 m3
  | 0, 1, _, _ => c2501 m0 m1 m2 m3
  | 0, 2, _, _ => c2502 m0 m1 m2 m3
  | 1, 0, _, _ => c2510 m0 m1 m2 m3
  | 1, 1, _, _ => c2511 m0 m1 m2 m3
  | 1, 2, _, _ => c2512 m0 m1 m2 m3
  | 2, 0, _, _ => c2520 m0 m1 m2 m3
  | 2, 1, _, _ => c2521 m0 m1 m2 m3
  | 2, 2, _, _ => c2522 m0 m1 m2 m3
  | _ + 3, _, h, _ => absurd h (by omega)
  | _, _ + 3, _, h => absurd h (by omega)
theorem c2600 (m0 m1 m2 m3 : Nat) : CH m0 m1 m2 m3 2 6 0 0 = GO m0 m1 m2 m3 2 6 0 0 := by kernel_rfl
theorem c2601 (m0 m1 m2 m3 : Nat) : CH m0 m1 m2 m3 2 6 0 1 = GO m0 m1 m2 m3 2 6 0 1 := by kernel_rfl
theorem c2602 (m0 m1 m2 m3 : Nat) : CH m0 m1 m2 m3 2 6 0 2 = GO m0 m1 m2 m3 2 6 0 2 := by kernel_rfl
theorem c2610 (m0 m1 m2 m3 : Nat) : CH m0 m1 m2 m3 2 6 1 0 = GO m0 m1 m2 m3 2 6 1 0 := by kernel_rfl
theorem c2611 (m0 m1 m2 m3 : Nat) : CH m0 m1 m2 m3 2 6 1 1 = GO m0 m1 m2 m3 2 6 1 1 := by kernel_rfl
theorem c2612 (m0 m1 m2 m3 : Nat) : CH m0 m1 m2 m3 2 6 1 2 = GO m0 m1 m2 m3 2 6 1 2 := by kernel_rfl
theorem c2620 (m0 m1 m2 m3 : Nat) : CH m0 m1 m2 m3 2 6 2 0 = GO m0 m1 m2 m3 2 6 2 0 := by kernel_rfl
theorem c2621 (m0 m1 m2 m3 : Nat) : CH m0 m1 m2 m3 2 6 2 1 = GO m0 m1 m2 m3 2 6 2 1 := by kernel_rfl
theorem c2622 (m0 m1 m2 m3 : Nat) : CH m0 m1 m2 m3 2 6 2 2 = GO m0 m1 m2 m3 2 6 2 2 := by kernel_rfl
theorem d26 (m0 m1 m2 m3 : Nat) : ∀ j2 j3, j2 < 3 → j3 < 3 → CH m0 m1 m2 m3 2 6 j2 j3 = GO m0 m1 m2 m3 2 6 j2 j3
  | 0, 0, _, _ => c2600 m0 m1 m2 m3
  | 0, 1, _, _ => c2601 m0 m1 m2 m3
  | 0, 2, _, _ => c2602 m0 m1 m2 m3
  | 1, 0, _, _ => c2610 m0 m1 m2 m3
  | 1, 1, _, _ => c2611 m0 m1 m2 m3
  | 1, 2, _, _ => c2612 m0 m1 m2 m3
  | 2, 0, _, _ => c2620 m0 m1 m2 m3
  | 2, 1, _, _ => c2621 m0 m1 m2 m3
  | 2, 2, _, _ => c2622 m0 m1 m2 m3
  | _ + 3, _, h, _ => absurd h (by omega)
  | _, _ + 3, _, h => absurd h (by omega)
theorem c2700 (m0 m1 m2 m3 : Nat) : CH m0 m1 m2 m3 2 7 0 0 = GO m0 m1 m2 m3 2 7 0 0 := by kernel_rfl
theorem c2701 (m0 m1 m2 m3 : Nat) : CH m0 m1 m2 m3 2 7 0 1 = GO m0 m1 m2 m3 2 7 0 1 := by kernel_rfl
theorem c2702 (m0 m1 m2 m3 : Nat) : CH m0 m1 m2 m3 2 7 0 2 = GO m0 m1 m2 m3 2 7 0 2 := by kernel_rfl
theorem c2710 (m0 m1 m2 m3 : Nat) : CH m0 m1 m2 m3 2 7 1 0 = GO m0 m1 m2 m3 2 7 1 0 := by kernel_rfl
theorem c2711 (m0 m1 m2 m3 : Nat) : CH m0 m1 m2 m3 2 7 1 1 = GO m0 m1 m2 m3 2 7 1 1 := by kernel_rfl
theorem c2712 (m0 m1 m2 m3 : Nat) : CH m0 m1 m2 m3 2 7 1 2 = GO m0 m1 m2 m3 2 7 1 2 := by kernel_rfl
theorem c2720 (m0 m1 m2 m3 : Nat) : CH m0 m1 m2 m3 2 7 2 0 = GO m0 m1 m2 m3 2 7 2 0 := by kernel_rfl
theorem c2721 (m0 m1 m2 m3 : Nat) : CH m0 m1 m2 m3 2 7 2 1 = GO m0 m1 m2 m3 2 7 2 1 := by kernel_rfl
theorem c2722 (m0 m1 m2 m3 : Nat) : CH m0 m1 m2 m3 2 7 2 2 = GO m0 m1 m2 m3 2 7 2 2 := by kernel_rfl
theorem d27 (m0 m1 m2 m3 : Nat) : ∀ j2 j3, j2 < 3 → j3 < 3 → CH m0 m1 m2 m3 2 7 j2 j3 = GO m0 m1 m2 m3 2 7 j2 j3
  | 0, 0, _, _ => c2700 m0 m1 m2 m3
  | 0, 1, _, _ => c2701 m0 m1 m2 m3
  | 0, 2, _, _ => c2702 m0 m1 m2 m3
  | 1, 0, _, _ => c2710 m0 m1 m2 m3
  | 1, 1, _, _ => c2711 m0 m1 m2 m3
  | 1, 2, _, _ => c2712 m0 m1 m2 m3
  | 2, 0, _, _ => c2720 m0 m1 m2 m3
  | 2, 1, _, _ => c2721 m0 m1 m2 m3
  | 2, 2, _, _ => c2722 m0 m1 m2 m3
  | _ + 3, _, h, _ => absurd h (by omega)
  | _, _ + 3, _, h => absurd h (by omega)
theorem c2800 (m0 m1 m2 m3 : Nat) : CH m0 m1 m2 m3 2 8 0 0 = GO m0 m1 m2 m3 2 8 0 0 := by kernel_rfl
theorem c2801 (m0 m1 m2 m3 : Nat) : CH m0 m1 m2 m3 2 8 0 1 = GO m0 m1 m2 m3 2 8 0 1 := by kernel_rfl
theorem c2802 (m0 m1 m2 m3 : Nat) : CH m0 m1 m2 m3 2 8 0 2 = GO m0 m1 m2 m3 2 8 0 2 := by kernel_rfl
theorem c2810 (m0 m1 m2 m3 : Nat) : CH m0 m1 m2 m3 2 8 1 0 = GO m0 m1 m2 m3 2 8 1 0 := by kernel_rfl
theorem c2811 (m0 m1 m2 m3 : Nat) : CH m0 m1 m2 m3 2 8 1 1 = GO m0 m1 m2 m3 2 8 1 1 := by kernel_rfl
theorem c2812 (m0 m1 m2 m3 : Nat) : CH m0 m1 m2 m3 2 8 1 2 = GO m0 m1 m2 m3 2 8 1 2 := by kernel_rfl
theorem c2820 (m0 m1 m2 m3 : Nat) : CH m0 m1 m2 m3 2 8 2 0 = GO m0 m1 m2 m3 2 8 2 0 := by kernel_rfl
theorem c2821 (m0 m1 m2 m3 : Nat) : CH m0 m1 m2 m3 2 8 2 1 = GO m0 m1 m2 m3 2 8 2 1 := by kernel_rfl
theorem c2822 (m0 m1 m2 m3 : Nat) : CH m0 m1 m2 m3 2 8 2 2 = GO m0 m1 m2 m3 2 8 2 2 := by kernel_rfl
theorem d28 (m0 m1 m2 m3 : Nat) : ∀ j2 j3, j2 < 3 → j3 < 3 → CH m0 m1 m2 m3 2 8 j2 j3 = GO m0 m1 m2 m3 2 8 j2 j3
  | 0, 0, _, _ => c2800 m0 m1 m2 m3
  | 0, 1, _, _ => c2801 m0 m1 m2 m3
  | 0, 2, _, _ => c2802 m0 m1 m2 m3
  | 1, 0, _, _ => c2810 m0 m1 m2 m3
  | 1, 1, _, _ => c2811 m0 m1 m2 m3
  | 1, 2, _, _ => c2812 m0 m1 m2 m3
  | 2, 0, _, _ => c2820 m0 m1 m2 m3
  | 2, 1, _, _ => c2821 m0 m1 m2 m3
  | 2, 2, _, _ => c2822 m0 m1 m2 m3
  | _ + 3, _, h, _ => absurd h (by omega)
  | _, _ + 3, _, h => absurd h (by omega)
theorem c2900 (m0 m1 m2 m3 : Nat) : CH m0 m1 m2 m3 2 9 0 0 = GO m0 m1 m2 m3 2 9 0 0 := by kernel_rfl
theorem c2901 (m0 m1 m2 m3 : Nat) : CH m0 m1 m2 m3 2 9 0 1 = GO m0 m1 m2 m3 2 9 0 1 := by kernel_rfl
theorem c2902 (m0 m1 m2 m3 : Nat) : CH m0 m1 m2 m3 2 9 0 2 = GO m0 m1 m2 m3 2 9 0 2 := by kernel_rfl
theorem c2910 (m0 m1 m2 m3 : Nat) : CH m0 m1 m2 m3 2 9 1 0 = GO m0 m1 m2 m3 2 9 1 0 := by kernel_rfl
theorem c2911 (m0 m1 m2 m3 : Nat) : CH m0 m1 m2 m3 2 9 1 1 = GO m0 m1 m2 m3 2 9 1 1 := by kernel_rfl
theorem c2912 (m0 m1 m2 m3 : Nat) : CH m0 m1 m2 m3 2 9 1 2 = GO m0 m1 m2 m3 2 9 1 2 := by kernel_rfl
theorem c2920 (m0 m1 m2 m3 : Nat) : CH m0 m1 m2 m3 2 9 2 0 = GO m0 m1 m2 m3 2 9 2 0 := by kernel_rfl
theorem c2921 (m0 m1 m2 m3 : Nat) : CH m0 m1 m2 m3 2 9 2 1 = GO m0 m1 m2 m3 2 9 2 1 := by kernel_rfl
theorem c2922 (m0 m1 m2 m3 : Nat) : CH m0 m1 m2 m3 2 9 2 2 = GO m0 m1 m2 m3 2 9 2 2 := by kernel_rfl
theorem d29 (m0 m1 m2 m3 : Nat) : ∀ j2 j3, j2 < 3 → j3 < 3 → CH m0 m1 m2 m3 2 9 j2 j3 = GO m0 m1 m2 m3 2 9 j2 j3
  | 0, 0, _, _ => c2900 m0 m1 m2 m3
  | 0, 1, _, _ => c2901 m0 m1 m2 m3
  | 0, 2, _, _ => c2902 m0 m1 m2 m3
  | 1, 0, _, _ => c2910 m0 m1 m2 m3
  | 1, 1, _, _ => c2911 m0 m1 m2 m3
  | 1, 2, _, _ => c2912 m0 m1 m2 m3
  | 2, 0, _, _ => c2920 m0 m1 m2 m3
  | 2, 1, _, _ => c2921 m0 m1 m2 m3
  | 2, 2, _, _ => c2922 m0 m1 m2 m3
  | _ + 3, _, h, _ => absurd h (by omega)
  | _, _ + 3, _, h => absurd h (by omega)
end Go.Proofs.YtohijnjnlfdnpaaGreat
