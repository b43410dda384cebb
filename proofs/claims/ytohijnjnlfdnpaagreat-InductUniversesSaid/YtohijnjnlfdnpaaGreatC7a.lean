/- The runs at the first number's remainder 7. -/
import Derived.KernelRfl
import Derived.Test.YtohijnjnlfdnpaaGreatTt
namespace Go.Proofs.YtohijnjnlfdnpaaGreat
open Go Go.Ev Go.Ev.K
theorem c7000 (m0 m1 m2 m3 : Nat) : CH m0 m1 m2 m3 7 0 0 0 = GO m0 m1 m2 m3 7 0 0 0 := by kernel_rfl
theorem c7001 (m0 m1 m2 m3 : Nat) : CH m0 m1 m2 m3 7 0 0 1 = GO m0 m1 m2 m3 7 0 0 1 := by kernel_rfl
theorem c7002 (m0 m1 m2 m3 : Nat) : CH m0 m1 m2 m3 7 0 0 2 = GO m0 m1 m2 m3 7 0 0 2 := by kernel_rfl
theorem c7010 (m0 m1 m2 m3 : Nat) : CH m0 m1 m2 m3 7 0 1 0 = GO m0 m1 m2 m3 7 0 1 0 := by kernel_rfl
theorem c7011 (m0 m1 m2 m3 : Nat) : CH m0 m1 m2 m3 7 0 1 1 = GO m0 m1 m2 m3 7 0 1 1 := by kernel_rfl
theorem c7012 (m0 m1 m2 m3 : Nat) : CH m0 m1 m2 m3 7 0 1 2 = GO m0 m1 m2 m3 7 0 1 2 := by kernel_rfl
theorem c7020 (m0 m1 m2 m3 : Nat) : CH m0 m1 m2 m3 7 0 2 0 = GO m0 m1 m2 m3 7 0 2 0 := by kernel_rfl
theorem c7021 (m0 m1 m2 m3 : Nat) : CH m0 m1 m2 m3 7 0 2 1 = GO m0 m1 m2 m3 7 0 2 1 := by kernel_rfl
theorem c7022 (m0 m1 m2 m3 : Nat) : CH m0 m1 m2 m3 7 0 2 2 = GO m0 m1 m2 m3 7 0 2 2 := by kernel_rfl
theorem d70 (m0 m1 m2 m3 : Nat) : ∀ j2 j3, j2 < 3 → j3 < 3 → CH m0 m1 m2 m3 7 0 j2 j3 = GO m0 m1 m2 m3 7 0 j2 j3
  | 0, 0, _, _ => c7000 m0 m1 m2 m3
  | 0, 1, _, _ => c7001 m0 m1 m2 m3
  | 0, 2, _, _ => c7002 m0 m1 m2 m3
  | 1, 0, _, _ => c7010 m0 m1 m2 m3
  | 1, 1, _, _ => c7011 m0 m1 m2 m3
  | 1, 2, _, _ => c7012 m0 m1 m2 m3
  | 2, 0, _, _ => c7020 m0 m1 m2 m3
  | 2, 1, _, _ => c7021 m0 m1 m2 m3
  | 2, 2, _, _ => c7022 m0 m1 m2 m3
  | _ + 3, _, h, _ => absurd h (by omega)
  | _, _ + 3, _, h => absurd h (by omega)
theorem c7100 (m0 m1 m2 m3 : Nat) : CH m0 m1 m2 m3 7 1 0 0 = GO m0 m1 m2 m3 7 1 0 0 := by kernel_rfl
theorem c7101 (m0 m1 m2 m3 : Nat) : CH m0 m1 m2 m3 7 1 0 1 = GO m0 m1 m2 m3 7 1 0 1 := by kernel_rfl
theorem c7102 (m0 m1 m2 m3 : Nat) : CH m0 m1 m2 m3 7 1 0 2 = GO m0 m1 m2 m3 7 1 0 2 := by kernel_rfl
theorem c7110 (m0 m1 m2 m3 : Nat) : CH m0 m1 m2 m3 7 1 1 0 = GO m0 m1 m2 m3 7 1 1 0 := by kernel_rfl
theorem c7111 (m0 m1 m2 m3 : Nat) : CH m0 m1 m2 m3 7 1 1 1 = GO m0 m1 m2 m3 7 1 1 1 := by kernel_rfl
theorem c7112 (m0 m1 m2 m3 : Nat) : CH m0 m1 m2 m3 7 1 1 2 = GO m0 m1 m2 m3 7 1 1 2 := by kernel_rfl
theorem c7120 (m0 m1 m2 m3 : Nat) : CH m0 m1 m2 m3 7 1 2 0 = GO m0 m1 m2 m3 7 1 2 0 := by kernel_rfl
theorem c7121 (m0 m1 m2 m3 : Nat) : CH m0 m1 m2 m3 7 1 2 1 = GO m0 m1 m2 m3 7 1 2 1 := by kernel_rfl
theorem c7122 (m0 m1 m2 m3 : Nat) : CH m0 m1 m2 m3 7 1 2 2 = GO m0 m1 m2 m3 7 1 2 2 := by kernel_rfl
theorem d71 (m0 m1 m2 m3 : Nat) : ∀ j2 j3, j2 < 3 → j3 < 3 → CH m0 m1 m2 m3 7 1 j2 j3 = GO m0 m1 m2 m3 7 1 j2 j3
  | 0, 0, _, _ => c7100 m0 m1 m2 m3
  | 0, 1, _, _ => c7101 m0 m1 m2 m3
  | 0, 2, _, _ => c7102 m0 m1 m2 m3
  | 1, 0, _, _ => c7110 m0 m1 m2 m3
  | 1, 1, _, _ => c7111 m0 m1 m2 m3
  | 1, 2, _, _ => c7112 m0 m1 m2 m3
  | 2, 0, _, _ => c7120 m0 m1 m2 m3
  | 2, 1, _, _ => c7121 m0 m1 m2 m3
  | 2, 2, _, _ => c7122 m0 m1 m2 m3
  | _ + 3, _, h, _ => absurd h (by omega)
  | _, _ + 3, _, h => absurd h (by omega)
theorem c7200 (m0 m1 m2 m3 : Nat) : CH m0 m1 m2 m3 7 2 0 0 = GO m0 m1 m2 m3 7 2 0 0 := by kernel_rfl
theorem c7201 (m0 m1 m2 m3 : Nat) : CH m0 m1 m2 m3 7 2 0 1 = GO m0 m1 m2 m3 7 2 0 1 := by kernel_rfl
theorem c7202 (m0 m1 m2 m3 : Nat) : CH m0 m1 m2 m3 7 2 0 2 = GO m0 m1 m2 m3 7 2 0 2 := by kernel_rfl
theorem c7210 (m0 m1 m2 m3 : Nat) : CH m0 m1 m2 m3 7 2 1 0 = GO m0 m1 m2 m3 7 2 1 0 := by kernel_rfl
theorem c7211 (m0 m1 m2 m3 : Nat) : CH m0 m1 m2 m3 7 2 1 1 = GO m0 m1 m2 m3 7 2 1 1 := by kernel_rfl
theorem c7212 (m0 m1 m2 m3 : Nat) : CH m0 m1 m2 m3 7 2 1 2 = GO m0 m1 m2 m3 7 2 1 2 := by kernel_rfl
theorem c7220 (m0 m1 m2 m3 : Nat) : CH m0 m1 m2 m3 7 2 2 0 = GO m0 m1 m2 m3 7 2 2 0 := by kernel_rfl
theorem c7221 (m0 m1 m2 m3 : Nat) : CH m0 m1 m2 m3 7 2 2 1 = GO m0 m1 m2 m3 7 2 2 1 := by kernel_rfl
theorem c7222 (m0 m1 m2 m3 : Nat) : CH m0 m1 m2 m3 7 2 2 2 = GO m0 m1 m2 m3 7 2 2 2 := by kernel_rfl
theorem d72 (m0 m1 m2 m3 : Nat) : ∀ j2 j3, j2 < 3 → j3 < 3 → CH m0 m1 m2 m3 7 2 j2 j3 = GO m0 m1 m2 m3 7 2 j2 j3
  | 0, 0, _, _ => c7200 m0 m1 m2 m3
  | 0, 1, _, _ => c7201 m0 m1 m2 m3
  | 0, 2, _, _ => c7202 m0 m1 m2 m3
  | 1, 0, _, _ => c7210 m0 m1 m2 m3
  | 1, 1, _, _ => c7211 m0 m1 m2 m3
  | 1, 2, _, _ => c7212 m0 m1 m2 m3
  | 2, 0, _, _ => c7220 m0 m1 m2 m3
  | 2, 1, _, _ => c7221 m0 m1 m2 m3
  | 2, 2, _, _ => c7222 m0 m1 m2 m3
  | _ + 3, _, h, _ => absurd h (by omega)
  | _, _ + 3, _, h => absurd h (by omega)
theorem c7300 (m0 m1 m2 m3 : Nat) : CH m0 m1 m2 m3 7 3 0 0 = GO m0 m1 m2 m3 7 3 0 0 := by kernel_rfl
theorem c7301 (m0 m1 m2 m3 : Nat) : CH m0 m1 m2 m3 7 3 0 1 = GO m0 m1 m2 m3 7 3 0 1 := by kernel_rfl
theorem c7302 (m0 m1 m2 m3 : Nat) : CH m0 m1 m2 m3 7 3 0 2 = GO m0 m1 m2 m3 7 3 0 2 := by kernel_rfl
theorem c7310 (m0 m1 m2 m3 : Nat) : CH m0 m1 m2 m3 7 3 1 0 = GO m0 m1 m2 m3 7 3 1 0 := by kernel_rfl
theorem c7311 (m0 m1 m2 m3 : Nat) : CH m0 m1 m2 m3 7 3 1 1 = GO m0 m1 m2 m3 7 3 1 1 := by kernel_rfl
theorem c7312 (m0 m1 m2 m3 : Nat) : CH m0 m1 m2 m3 7 3 1 2 = GO m0 m1 m2 m3 7 3 1 2 := by kernel_rfl
theorem c7320 (m0 m1 m2 m3 : Nat) : CH m0 m1 m2 m3 7 3 2 0 = GO m0 m1 m2 m3 7 3 2 0 := by kernel_rfl
theorem c7321 (m0 m1 m2 m3 : Nat) : CH m0 m1 m2 m3 7 3 2 1 = GO m0 m1 m2 m3 7 3 2 1 := by kernel_rfl
theorem c7322 (m0 m1 m2 m3 : Nat) : CH m0 m1 m2 m3 7 3 2 2 = GO m0 m1 m2 m3 7 3 2 2 := by kernel_rfl
theorem d73 (m0 m1 m2 m3 : Nat) : ∀ j2 j3, j2 < 3 → j3 < 3 → CH m0 m1 m2 m3 7 3 j2 j3 = GO m0 m1 m2 m3 7 3 j2 j3
  | 0, 0, _, _ => c7300 m0 m1 m2 m3
  | 0, 1, _, _ => c7301 m0 m1 m2 m3
  | 0, 2, _, _ => c7302 m0 m1 m2 m3
  | 1, 0, _, _ => c7310 m0 m1 m2 m3
  | 1, 1, _, _ => c7311 m0 m1 m2 m3
  | 1, 2, _, _ => c7312 m0 m1 m2 m3
  | 2, 0, _, _ => c7320 m0 m1 m2 m3
  | 2, 1, _, _ => c7321 m0 m1 m2 m3
  | 2, 2, _, _ => c7322 m0 m1 m2 m3
  | _ + 3, _, h, _ => absurd h (by omega)
  | _, _ + 3, _, h => absurd h (by omega)
theorem c7400 (m0 m1 m2 m3 : Nat) : CH m0 m1 m2 m3 7 4 0 0 = GO m0 m1 m2 m3 7 4 0 0 := by kernel_rfl
theorem c7401 (m0 m1 m2 m3 : Nat) : CH m0 m1 m2 m3 7 4 0 1 = GO m0 m1 m2 m3 7 4 0 1 := by kernel_rfl
theorem c7402 (m0 m1 m2 m3 : Nat) : CH m0 m1 m2 m3 7 4 0 2 = GO m0 m1 m2 m3 7 4 0 2 := by kernel_rfl
theorem c7410 (m0 m1 m2 m3 : Nat) : CH m0 m1 m2 m3 7 4 1 0 = GO m0 m1 m2 m3 7 4 1 0 := by kernel_rfl
theorem c7411 (m0 m1 m2 m3 : Nat) : CH m0 m1 m2 m3 7 4 1 1 = GO m0 m1 m2 m3 7 4 1 1 := by kernel_rfl
theorem c7412 (m0 m1 m2 m3 : Nat) : CH m0 m1 m2 m3 7 4 1 2 = GO m0 m1 m2 m3 7 4 1 2 := by kernel_rfl
theorem c7420 (m0 m1 m2 m3 : Nat) : CH m0 m1 m2 m3 7 4 2 0 = GO m0 m1 m2 m3 7 4 2 0 := by kernel_rfl
theorem c7421 (m0 m1 m2 m3 : Nat) : CH m0 m1 m2 m3 7 4 2 1 = GO m0 m1 m2 m3 7 4 2 1 := by kernel_rfl
theorem c7422 (m0 m1 m2 m3 : Nat) : CH m0 m1 m2 m3 7 4 2 2 = GO m0 m1 m2 m3 7 4 2 2 := by kernel_rfl
theorem d74 (m0 m1 m2 m3 : Nat) : ∀ j2 j3, j2 < 3 → j3 < 3 → CH m0 m1 m2 m3 7 4 j2 j3 = GO m0 m1 m2 m3 7 4 j2 j3
  | 0, 0, _, _ => c7400 m0 m1 m2 m3
  | 0, 1, _, _ => c7401 m0 m1 m2 m3
  | 0, 2, _, _ => c7402 m0 m1 m2 m3
  | 1, 0, _, _ => c7410 m0 m1 m2 m3
  | 1, 1, _, _ => c7411 m0 m1 m2 m3
  | 1, 2, _, _ => c7412 m0 m1 m2 m3
  | 2, 0, _, _ => c7420 m0 m1 m2 m3
  | 2, 1, _, _ => c7421 m0 m1 m2 m3
  | 2, 2, _, _ => c7422 m0 m1 m2 m3
  | _ + 3, _, h, _ => absurd h (by omega)
  | _, _ + 3, _, h => absurd h (by omega)
end Go.Proofs.YtohijnjnlfdnpaaGreat
