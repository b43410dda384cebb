/- The runs at the first number's remainder 4. -/
import Derived.KernelRfl
import Derived.Test.YtohijnjnlfdnpaaGreatTt
namespace Go.Proofs.YtohijnjnlfdnpaaGreat
open Go Go.Ev Go.Ev.K
theorem c4500 (m0 m1 m2 m3 : Nat) : CH m0 m1 m2 m3 4 5 0 0 = GO m0 m1 m2 m3 4 5 0 0 := by kernel_rfl
theorem c4501 (m0 m1 m2 m3 : Nat) : CH m0 m1 m2 m3 4 5 0 1 = GO m0 m1 m2 m3 4 5 0 1 := by kernel_rfl
theorem c4502 (m0 m1 m2 m3 : Nat) : CH m0 m1 m2 m3 4 5 0 2 = GO m0 m1 m2 m3 4 5 0 2 := by kernel_rfl
theorem c4510 (m0 m1 m2 m3 : Nat) : CH m0 m1 m2 m3 4 5 1 0 = GO m0 m1 m2 m3 4 5 1 0 := by kernel_rfl
theorem c4511 (m0 m1 m2 m3 : Nat) : CH m0 m1 m2 m3 4 5 1 1 = GO m0 m1 m2 m3 4 5 1 1 := by kernel_rfl
theorem c4512 (m0 m1 m2 m3 : Nat) : CH m0 m1 m2 m3 4 5 1 2 = GO m0 m1 m2 m3 4 5 1 2 := by kernel_rfl
theorem c4520 (m0 m1 m2 m3 : Nat) : CH m0 m1 m2 m3 4 5 2 0 = GO m0 m1 m2 m3 4 5 2 0 := by kernel_rfl
theorem c4521 (m0 m1 m2 m3 : Nat) : CH m0 m1 m2 m3 4 5 2 1 = GO m0 m1 m2 m3 4 5 2 1 := by kernel_rfl
theorem c4522 (m0 m1 m2 m3 : Nat) : CH m0 m1 m2 m3 4 5 2 2 = GO m0 m1 m2 m3 4 5 2 2 := by kernel_rfl
theorem d45 (m0 m1 m2 m3 : Nat) : ∀ j2 j3, j2 < 3 → j3 < 3 → CH m0 m1 m2 m3 4 5 j2 j3 = GO m0 m1 m2 m3 4 5 j2 j3
  | 0, 0, _, _ => c4500 m0 m1 m2 m3
  | 0, 1, _, _ => c4501 m0 m1 m2 m3
  | 0, 2, _, _ => c4502 m0 m1 m2 m3
  | 1, 0, _, _ => c4510 m0 m1 m2 m3
  | 1, 1, _, _ => c4511 m0 m1 m2 m3
  | 1, 2, _, _ => c4512 m0 m1 m2 m3
  | 2, 0, _, _ => c4520 m0 m1 m2 m3
  | 2, 1, _, _ => c4521 m0 m1 m2 m3
  | 2, 2, _, _ => c4522 m0 m1 m2 m3
  | _ + 3, _, h, _ => absurd h (by omega)
  | _, _ + 3, _, h => absurd h (by omega)
theorem c4600 (m0 m1 m2 m3 : Nat) : CH m0 m1 m2 m3 4 6 0 0 = GO m0 m1 m2 m3 4 6 0 0 := by kernel_rfl
theorem c4601 (m0 m1 m2 m3 : Nat) : CH m0 m1 m2 m3 4 6 0 1 = GO m0 m1 m2 m3 4 6 0 1 := by kernel_rfl
theorem c4602 (m0 m1 m2 m3 : Nat) : CH m0 m1 m2 m3 4 6 0 2 = GO m0 m1 m2 m3 4 6 0 2 := by kernel_rfl
theorem c4610 (m0 m1 m2 m3 : Nat) : CH m0 m1 m2 m3 4 6 1 0 = GO m0 m1 m2 m3 4 6 1 0 := by kernel_rfl
theorem c4611 (m0 m1 m2 m3 : Nat) : CH m0 m1 m2 m3 4 6 1 1 = GO m0 m1 m2 m3 4 6 1 1 := by kernel_rfl
theorem c4612 (m0 m1 m2 m3 : Nat) : CH m0 m1 m2 m3 4 6 1 2 = GO m0 m1 m2 m3 4 6 1 2 := by kernel_rfl
theorem c4620 (m0 m1 m2 m3 : Nat) : CH m0 m1 m2 m3 4 6 2 0 = GO m0 m1 m2 m3 4 6 2 0 := by kernel_rfl
theorem c4621 (m0 m1 m2 m3 : Nat) : CH m0 m1 m2 m3 4 6 2 1 = GO m0 m1 m2 m3 4 6 2 1 := by kernel_rfl
theorem c4622 (m0 m1 m2 m3 : Nat) : CH m0 m1 m2 m3 4 6 2 2 = GO m0 m1 m2 m3 4 6 2 2 := by kernel_rfl
theorem d46 (m0 m1 m2 m3 : Nat) : ∀ j2 j3, j2 < 3 → j3 < 3 → CH m0 m1 m2 m3 4 6 j2 j3 = GO m0 m1 m2 m3 4 6 j2 j3
  | 0, 0, _, _ => c4600 m0 m1 m2 m3
  | 0, 1, _, _ => c4601 m0 m1 m2 m3
  | 0, 2, _, _ => c4602 m0 m1 m2 m3
  | 1, 0, _, _ => c4610 m0 m1 m2 m3
  | 1, 1, _, _ => c4611 m0 m1 m2 m3
  | 1, 2, _, _ => c4612 m0 m1 m2 m3
  | 2, 0, _, _ => c4620 m0 m1 m2 m3
  | 2, 1, _, _ => c4621 m0 m1 m2 m3
  | 2, 2, _, _ => c4622 m0 m1 m2 m3
  | _ + 3, _, h, _ => absurd h (by omega)
  | _, _ + 3, _, h => absurd h (by omega)
theorem c4700 (m0 m1 m2 m3 : Nat) : CH m0 m1 m2 m3 4 7 0 0 = GO m0 m1 m2 m3 4 7 0 0 := by kernel_rfl
theorem c4701 (m0 m1 m2 m3 : Nat) : CH m0 m1 m2 m3 4 7 0 1 = GO m0 m1 m2 m3 4 7 0 1 := by kernel_rfl
theorem c4702 (m0 m1 m2 m3 : Nat) : CH m0 m1 m2 m3 4 7 0 2 = GO m0 m1 m2 m3 4 7 0 2 := by kernel_rfl
theorem c4710 (m0 m1 m2 m3 : Nat) : CH m0 m1 m2 m3 4 7 1 0 = GO m0 m1 m2 m3 4 7 1 0 := by kernel_rfl
theorem c4711 (m0 m1 m2 m3 : Nat) : CH m0 m1 m2 m3 4 7 1 1 = GO m0 m1 m2 m3 4 7 1 1 := by kernel_rfl
theorem c4712 (m0 m1 m2 m3 : Nat) : CH m0 m1 m2 m3 4 7 1 2 = GO m0 m1 m2 m3 4 7 1 2 := by kernel_rfl
theorem c4720 (m0 m1 m2 m3 : Nat) : CH m0 m1 m2 m3 4 7 2 0 = GO m0 m1 m2 m3 4 7 2 0 := by kernel_rfl
theorem c4721 (m0 m1 m2 m3 : Nat) : CH m0 m1 m2 m3 4 7 2 1 = GO m0 m1 m2 m3 4 7 2 1 := by kernel_rfl
theorem c4722 (m0 m1 m2 m3 : Nat) : CH m0 m1 m2 m3 4 7 2 2 = GO m0 m1 m2 m3 4 7 2 2 := by kernel_rfl
theorem d47 (m0 m1 m2 m3 : Nat) : ∀ j2 j3, j2 < 3 → j3 < 3 → CH m0 m1 m2 m3 4 7 j2 j3 = GO m0 m1 m2 m3 4 7 j2 j3
  | 0, 0, _, _ => c4700 m0 m1 m2 m3
  | 0, 1, _, _ => c4701 m0 m1 m2 m3
  | 0, 2, _, _ => c4702 m0 m1 m2 m3
  | 1, 0, _, _ => c4710 m0 m1 m2 m3
  | 1, 1, _, _ => c4711 m0 m1 m2 m3
  | 1, 2, _, _ => c4712 m0 m1 m2 m3
  | 2, 0, _, _ => c4720 m0 m1 m2 m3
  | 2, 1, _, _ => c4721 m0 m1 m2 m3
  | 2, 2, _, _ => c4722 m0 m1 m2 m3
  | _ + 3, _, h, _ => absurd h (by omega)
  | _, _ + 3, _, h => absurd h (by omega)
theorem c4800 (m0 m1 m2 m3 : Nat) : CH m0 m1 m2 m3 4 8 0 0 = GO m0 m1 m2 m3 4 8 0 0 := by kernel_rfl
theorem c4801 (m0 m1 m2 m3 : Nat) : CH m0 m1 m2 m3 4 8 0 1 = GO m0 m1 m2 m3 4 8 0 1 := by kernel_rfl
theorem c4802 (m0 m1 m2 m3 : Nat) : CH m0 m1 m2 m3 4 8 0 2 = GO m0 m1 m2 m3 4 8 0 2 := by kernel_rfl
theorem c4810 (m0 m1 m2 m3 : Nat) : CH m0 m1 m2 m3 4 8 1 0 = GO m0 m1 m2 m3 4 8 1 0 := by kernel_rfl
theorem c4811 (m0 m1 m2 m3 : Nat) : CH m0 m1 m2 m3 4 8 1 1 = GO m0 m1 m2 m3 4 8 1 1 := by kernel_rfl
theorem c4812 (m0 m1 m2 m3 : Nat) : CH m0 m1 m2 m3 4 8 1 2 = GO m0 m1 m2 m3 4 8 1 2 := by kernel_rfl
theorem c4820 (m0 m1 m2 m3 : Nat) : CH m0 m1 m2 m3 4 8 2 0 = GO m0 m1 m2 m3 4 8 2 0 := by kernel_rfl
theorem c4821 (m0 m1 m2 m3 : Nat) : CH m0 m1 m2 m3 4 8 2 1 = GO m0 m1 m2 m3 4 8 2 1 := by kernel_rfl
theorem c4822 (m0 m1 m2 m3 : Nat) : CH m0 m1 m2 m3 4 8 2 2 = GO m0 m1 m2 m3 4 8 2 2 := by kernel_rfl
theorem d48 (m0 m1 m2 m3 : Nat) : ∀ j2 j3, j2 < 3 → j3 < 3 → CH m0 m1 m2 m3 4 8 j2 j3 = GO m0 m1 m2 m3 4 8 j2 j3
  | 0, 0, _, _ => c4800 m0 m1 m2 m3
  | 0, 1, _, _ => c4801 m0 m1 m2 m3
  | 0, 2, _, _ => c4802 m0 m1 m2 m3
  | 1, 0, _, _ => c4810 m0 m1 m2 m3
  | 1, 1, _, _ => c4811 m0 m1 m2 m3
  | 1, 2, _, _ => c4812 m0 m1 m2 m3
  | 2, 0, _, _ => c4820 m0 m1 m2 m3
  | 2, 1, _, _ => c4821 m0 m1 m2 m3
  | 2, 2, _, _ => c4822 m0 m1 m2 m3
  | _ + 3, _, h, _ => absurd h (by omega)
  | _, _ + 3, _, h => absurd h (by omega)
theorem c4900 (m0 m1 m2 m3 : Nat) : CH m0 m1 m2 m3 4 9 0 0 = GO m0 m1 m2 m3 4 9 0 0 := by kernel_rfl
theorem c4901 (m0 m1 m2 m3 : Nat) : CH m0 m1 m2 m3 4 9 0 1 = GO m0 m1 m2 m3 4 9 0 1 := by kernel_rfl
theorem c4902 (m0 m1 m2 m3 : Nat) : CH m0 m1 m2 m3 4 9 0 2 = GO m0 m1 m2 m3 4 9 0 2 := by kernel_rfl
theorem c4910 (m0 m1 m2 m3 : Nat) : CH m0 m1 m2 m3 4 9 1 0 = GO m0 m1 m2 m3 4 9 1 0 := by kernel_rfl
theorem c4911 (m0 m1 m2 m3 : Nat) : CH m0 m1 m2 m3 4 9 1 1 = GO m0 m1 m2 m3 4 9 1 1 := by kernel_rfl
theorem c4912 (m0 m1 m2 m3 : Nat) : CH m0 m1 m2 m3 4 9 1 2 = GO m0 m1 m2 m3 4 9 1 2 := by kernel_rfl
theorem c4920 (m0 m1 m2 m3 : Nat) : CH m0 m1 m2 m3 4 9 2 0 = GO m0 m1 m2 m3 4 9 2 0 := by kernel_rfl
theorem c4921 (m0 m1 m2 m3 : Nat) : CH m0 m1 m2 m3 4 9 2 1 = GO m0 m1 m2 m3 4 9 2 1 := by kernel_rfl
theorem c4922 (m0 m1 m2 m3 : Nat) : CH m0 m1 m2 m3 4 9 2 2 = GO m0 m1 m2 m3 4 9 2 2 := by kernel_rfl
theorem d49 (m0 m1 m2 m3 : Nat) : ∀ j2 j3, j2 < 3 → j3 < 3 → CH m0 m1 m2 m3 4 9 j2 j3 = GO m0 m1 m2 m3 4 9 j2 j3
  | 0, 0, _, _ => c4900 m0 m1 m2 m3
  | 0, 1, _, _ => c4901 m0 m1 m2 m3
  | 0, 2, _, _ => c4902 m0 m1 m2 m3
  | 1, 0, _, _ => c4910 m0 m1 m2 m3
  | 1, 1, _, _ => c4911 m0 m1 m2 m3
  | 1, 2, _, _ => c4912 m0 m1 m2 m3
  | 2, 0, _, _ => c4920 m0 m1 m2 m3
  | 2, 1, _, _ => c4921 m0 m1 m2 m3
  | 2, 2, _, _ => c4922 m0 m1 m2 m3
  | _ + 3, _, h, _ => absurd h (by omega)
  | _, _ + 3, _, h => absurd h (by omega)
end Go.Proofs.YtohijnjnlfdnpaaGreat
