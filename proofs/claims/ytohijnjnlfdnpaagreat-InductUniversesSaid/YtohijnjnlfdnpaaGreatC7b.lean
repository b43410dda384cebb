/- The runs at the first number's remainder 7. -/
import Derived.KernelRfl
import Derived.Test.YtohijnjnlfdnpaaGreatTt
namespace Go.Proofs.YtohijnjnlfdnpaaGreat
open Go Go.Ev Go.Ev.K
theorem c7500 (m0 m1 m2 m3 : Nat) : CH m0 m1 m2 m3 7 5 0 0 = GO m0 m1 m2 m3 7 5 0 0 := by kernel_rfl
theorem c7501 (m0 m1 m2 m3 : Nat) : CH m0 m1 m2 m3 7 5 0 1 = GO m0 m1 m2 m3 7 5 0 1 := by kernel_rfl
theorem c7502 (m0 m1 m2 m3 : Nat) : CH m0 m1 m2 m3 7 5 0 2 = GO m0 m1 m2 m3 7 5 0 2 := by kernel_rfl
theorem c7510 (m0 m1 m2 m3 : Nat) : CH m0 m1 m2 m3 7 5 1 0 = GO m0 m1 m2 m3 7 5 1 0 := by kernel_rfl
theorem c7511 (m0 m1 m2 m3 : Nat) : CH m0 m1 m2 m3 7 5 1 1 = GO m0 m1 m2 m3 7 5 1 1 := by kernel_rfl
theorem c7512 (m0 m1 m2 m3 : Nat) : CH m0 m1 m2 m3 7 5 1 2 = GO m0 m1 m2 m3 7 5 1 2 := by kernel_rfl
theorem c7520 (m0 m1 m2 m3 : Nat) : CH m0 m1 m2 m3 7 5 2 0 = GO m0 m1 m2 m3 7 5 2 0 := by kernel_rfl
theorem c7521 (m0 m1 m2 m3 : Nat) : CH m0 m1 m2 m3 7 5 2 1 = GO m0 m1 m2 m3 7 5 2 1 := by kernel_rfl
theorem c7522 (m0 m1 m2 m3 : Nat) : CH m0 m1 m2 m3 7 5 2 2 = GO m0 m1 m2 m3 7 5 2 2 := by kernel_rfl
theorem d75 (m0 m1 m2 m3 : Nat) : ∀ j2 j3, j2 < 3 → j3 < 3 → CH m0 m1 m2 m3 7 5 j2 j3 = GO m0 m1 m2 m3 7 5 j2 j3
  | 0, 0, _, _ => c7500 m0 m1 m2 m3
  | 0, 1, _, _ => c7501 m0 m1 m2 m3
  | 0, 2, _, _ => c7502 m0 m1 m2 m3
  | 1, 0, _, _ => c7510 m0 m1 m2 m3
  | 1, 1, _, _ => c7511 m0 m1 m2 m3
  | 1, 2, _, _ => c7512 m0 m1 m2 m3
  | 2, 0, _, _ => c7520 m0 m1 m2 m3
  | 2, 1, _, _ => c7521 m0 m1 m2 m3
  | 2, 2, _, _ => c7522 m0 m1 m2 m3
  | _ + 3, _, h, _ => absurd h (by omega)
  | _, _ + 3, _, h => absurd h (by omega)
theorem c7600 (m0 m1 m2 m3 : Nat) : CH m0 m1 m2 m3 7 6 0 0 = GO m0 m1 m2 m3 7 6 0 0 := by kernel_rfl
theorem c7601 (m0 m1 m2 m3 : Nat) : CH m0 m1 m2 m3 7 6 0 1 = GO m0 m1 m2 m3 7 6 0 1 := by kernel_rfl
theorem c7602 (m0 m1 m2 m3 : Nat) : CH m0 m1 m2 m3 7 6 0 2 = GO m0 m1 m2 m3 7 6 0 2 := by kernel_rfl
theorem c7610 (m0 m1 m2 m3 : Nat) : CH m0 m1 m2 m3 7 6 1 0 = GO m0 m1 m2 m3 7 6 1 0 := by kernel_rfl
theorem c7611 (m0 m1 m2 m3 : Nat) : CH m0 m1 m2 m3 7 6 1 1 = GO m0 m1 m2 m3 7 6 1 1 := by kernel_rfl
theorem c7612 (m0 m1 m2 m3 : Nat) : CH m0 m1 m2 m3 7 6 1 2 = GO m0 m1 m2 m3 7 6 1 2 := by kernel_rfl
theorem c7620 (m0 m1 m2 m3 : Nat) : CH m0 m1 m2 m3 7 6 2 0 = GO m0 m1 m2 m3 7 6 2 0 := by kernel_rfl
theorem c7621 (m0 m1 m2 m3 : Nat) : CH m0 m1 m2 m3 7 6 2 1 = GO m0 m1 m2 m3 7 6 2 1 := by kernel_rfl
theorem c7622 (m0 m1 m2 m3 : Nat) : CH m0 m1 m2 m3 7 6 2 2 = GO m0 m1 m2 m3 7 6 2 2 := by kernel_rfl
theorem d76 (m0 m1 m2 m3 : Nat) : ∀ j2 j3, j2 < 3 → j3 < 3 → CH m0 m1 m2 m3 7 6 j2 j3 = GO m0 m1 m2 m3 7 6 j2 j3
  | 0, 0, _, _ => c7600 m0 m1 m2 m3
  | 0, 1, _, _ => c7601 m0 m1 m2 m3
  | 0, 2, _, _ => c7602 m0 m1 m2 m3
  | 1, 0, _, _ => c7610 m0 m1 m2 m3
  | 1, 1, _, _ => c7611 m0 m1 m2 m3
  | 1, 2, _, _ => c7612 m0 m1 m2 m3
  | 2, 0, _, _ => c7620 m0 m1 m2 m3
  | 2, 1, _, _ => c7621 m0 m1 m2 m3
  | 2, 2, _, _ => c7622 m0 m1 m2 m3
  | _ + 3, _, h, _ => absurd h (by omega)
  | _, _ + 3, _, h => absurd h (by omega)
theorem c7700 (m0 m1 m2 m3 : Nat) : CH m0 m1 m2 m3 7 7 0 0 = GO m0 m1 m2 m3 7 7 0 0 := by kernel_rfl
theorem c7701 (m0 m1 m2 m3 : Nat) : CH m0 m1 m2 m3 7 7 0 1 = GO m0 m1 m2 m3 7 7 0 1 := by kernel_rfl
theorem c7702 (m0 m1 m2 m3 : Nat) : CH m0 m1 m2 m3 7 7 0 2 = GO m0 m1 m2 m3 7 7 0 2 := by kernel_rfl
theorem c7710 (m0 m1 m2 m3 : Nat) : CH m0 m1 m2 m3 7 7 1 0 = GO m0 m1 m2 m3 7 7 1 0 := by kernel_rfl
theorem c7711 (m0 m1 m2 m3 : Nat) : CH m0 m1 m2 m3 7 7 1 1 = GO m0 m1 m2 m3 7 7 1 1 := by kernel_rfl
theorem c7712 (m0 m1 m2 m3 : Nat) : CH m0 m1 m2 m3 7 7 1 2 = GO m0 m1 m2 m3 7 7 1 2 := by kernel_rfl
theorem c7720 (m0 m1 m2 m3 : Nat) : CH m0 m1 m2 m3 7 7 2 0 = GO m0 m1 m2 m3 7 7 2 0 := by kernel_rfl
theorem c7721 (m0 m1 m2 m3 : Nat) : CH m0 m1 m2 m3 7 7 2 1 = GO m0 m1 m2 m3 7 7 2 1 := by kernel_rfl
theorem c7722 (m0 m1 m2 m3 : Nat) : CH m0 m1 m2 m3 7 7 2 2 = GO m0 m1 m2 m3 7 7 2 2 := by kernel_rfl
theorem d77 (m0 m1 m2 m3 : Nat) : ∀ j2 j3, j2 < 3 → j3 < 3 → CH m0 m1 m2 m3 7 7 j2 j3 = GO m0 m1 m2 m3 7 7 j2 j3
  | 0, 0, _, _ => c7700 m0 m1 m2 m3
  | 0, 1, _, _ => c7701 m0 m1 m2 m3
  | 0, 2, _, _ => c7702 m0 m1 m2 m3
  | 1, 0, _, _ => c7710 m0 m1 m2 m3
  | 1, 1, _, _ => c7711 m0 m1 m2 m3
  | 1, 2, _, _ => c7712 m0 m1 m2 m3
  | 2, 0, _, _ => c7720 m0 m1 m2 m3
  | 2, 1, _, _ => c7721 m0 m1 m2 m3
  | 2, 2, _, _ => c7722 m0 m1 m2 m3
  | _ + 3, _, h, _ => absurd h (by omega)
  | _, _ + 3, _, h => absurd h (by omega)
theorem c7800 (m0 m1 m2 m3 : Nat) : CH m0 m1 m2 m3 7 8 0 0 = GO m0 m1 m2 m3 7 8 0 0 := by kernel_rfl
theorem c7801 (m0 m1 m2 m3 : Nat) : CH m0 m1 m2 m3 7 8 0 1 = GO m0 m1 m2 m3 7 8 0 1 := by kernel_rfl
theorem c7802 (m0 m1 m2 m3 : Nat) : CH m0 m1 m2 m3 7 8 0 2 = GO m0 m1 m2 m3 7 8 0 2 := by kernel_rfl
theorem c7810 (m0 m1 m2 m3 : Nat) : CH m0 m1 m2 m3 7 8 1 0 = GO m0 m1 m2 m3 7 8 1 0 := by kernel_rfl
theorem c7811 (m0 m1 m2 m3 : Nat) : CH m0 m1 m2 m3 7 8 1 1 = GO m0 m1 m2 m3 7 8 1 1 := by kernel_rfl
theorem c7812 (m0 m1 m2 m3 : Nat) : CH m0 m1 m2 m3 7 8 1 2 = GO m0 m1 m2 m3 7 8 1 2 := by kernel_rfl
theorem c7820 (m0 m1 m2 m3 : Nat) : CH m0 m1 m2 m3 7 8 2 0 = GO m0 m1 m2 m3 7 8 2 0 := by kernel_rfl
theorem c7821 (m0 m1 m2 m3 : Nat) : CH m0 m1 m2 m3 7 8 2 1 = GO m0 m1 m2 m3 7 8 2 1 := by kernel_rfl
theorem c7822 (m0 m1 m2 m3 : Nat) : CH m0 m1 m2 m3 7 8 2 2 = GO m0 m1 m2 m3 7 8 2 2 := by kernel_rfl
theorem d78 (m0 m1 m2 m3 : Nat) : ∀ j2 j3, j2 < 3 → j3 < 3 → CH m0 m1 m2 m3 7 8 j2 j3 = GO m0 m1 m2 m3 7 8 j2 j3
  | 0, 0, _, _ => c7800 m0 m1 m2 m3
  | 0, 1, _, _ => c7801 m0 m1 m2 m3
  | 0, 2, _, _ => c7802 m0 m1 m2 m3
  | 1, 0, _, _ => c7810 m0 m1 m2 m3
  | 1, 1, _, _ => c7811 m0 m1 m2 m3
  | 1, 2, _, _ => c7812 m0 m1 m2 m3
  | 2, 0, _, _ => c7820 m0 m1 m2 m3
  | 2, 1, _, _ => c7821 m0 m1 m2 m3
  | 2, 2, _, _ => c7822 m0 m1 m2 m3
  | _ + 3, _, h, _ => absurd h (by omega)
  | _, _ + 3, _, h => absurd h (by omega)
theorem c7900 (m0 m1 m2 m3 : Nat) : CH m0 m1 m2 m3 7 9 0 0 = GO m0 m1 m2 m3 7 9 0 0 := by kernel_rfl
theorem c7901 (m0 m1 m2 m3 : Nat) : CH m0 m1 m2 m3 7 9 0 1 = GO m0 m1 m2 m3 7 9 0 1 := by kernel_rfl
theorem c7902 (m0 m1 m2 m3 : Nat) : CH m0 m1 m2 m3 7 9 0 2 = GO m0 m1 m2 m3 7 9 0 2 := by kernel_rfl
theorem c7910 (m0 m1 m2 m3 : Nat) : CH m0 m1 m2 m3 7 9 1 0 = GO m0 m1 m2 m3 7 9 1 0 := by kernel_rfl
theorem c7911 (m0 m1 m2 m3 : Nat) : CH m0 m1 m2 m3 7 9 1 1 = GO m0 m1 m2 m3 7 9 1 1 := by kernel_rfl
theorem c7912 (m0 m1 m2 m3 : Nat) : CH m0 m1 m2 m3 7 9 1 2 = GO m0 m1 m2 m3 7 9 1 2 := by kernel_rfl
theorem c7920 (m0 m1 m2 m3 : Nat) : CH m0 m1 m2 m3 7 9 2 0 = GO m0 m1 m2 m3 7 9 2 0 := by kernel_rfl
theorem c7921 (m0 m1 m2 m3 : Nat) : CH m0 m1 m2 m3 7 9 2 1 = GO m0 m1 m2 m3 7 9 2 1 := by kernel_rfl
theorem c7922 (m0 m1 m2 m3 : Nat) : CH m0 m1 m2 m3 7 9 2 2 = GO m0 m1 m2 m3 7 9 2 2 := by kernel_rfl
theorem d79 (m0 m1 m2 m3 : Nat) : ∀ j2 j3, j2 < 3 → j3 < 3 → CH m0 m1 m2 m3 7 9 j2 j3 = GO m0 m1 m2 m3 7 9 j2 j3
  | 0, 0, _, _ => c7900 m0 m1 m2 m3
  | 0, 1, _, _ => c7901 m0 m1 m2 m3
  | 0, 2, _, _ => c7902 m0 m1 m2 m3
  | 1, 0, _, _ => c7910 m0 m1 m2 m3
  | 1, 1, _, _ => c7911 m0 m1 m2 m3
  | 1, 2, _, _ => c7912 m0 m1 m2 m3
  | 2, 0, _, _ => c7920 m0 m1 m2 m3
  | 2, 1, _, _ => c7921 m0 m1 m2 m3
  | 2, 2, _, _ => c7922 m0 m1 m2 m3
  | _ + 3, _, h, _ => absurd h (by omega)
  | _, _ + 3, _, h => absurd h (by omega)
end Go.Proofs.YtohijnjnlfdnpaaGreat
