/- The runs at the first number's remainder 3. -/
import Derived.KernelRfl
import Derived.Test.YtohijnjnlfdnpaaGreatTt
namespace Go.Proofs.YtohijnjnlfdnpaaGreat
open Go Go.Ev Go.Ev.K
theorem c3000 (m0 m1 m2 m3 : Nat) : CH m0 m1 m2 m3 3 0 0 0 = GO m0 m1 m2 m3 3 0 0 0 := by kernel_rfl
theorem c3001 (m0 m1 m2 m3 : Nat) : CH m0 m1 m2 m3 3 0 0 1 = GO m0 m1 m2 m3 3 0 0 1 := by kernel_rfl
theorem c3002 (m0 m1 m2 m3 : Nat) : CH m0 m1 m2 m3 3 0 0 2 = GO m0 m1 m2 m3 3 0 0 2 := by kernel_rfl
theorem c3010 (m0 m1 m2 m3 : Nat) : CH m0 m1 m2 m3 3 0 1 0 = GO m0 m1 m2 m3 3 0 1 0 := by kernel_rfl
theorem c3011 (m0 m1 m2 m3 : Nat) : CH m0 m1 m2 m3 3 0 1 1 = GO m0 m1 m2 m3 3 0 1 1 := by kernel_rfl
theorem c3012 (m0 m1 m2 m3 : Nat) : CH m0 m1 m2 m3 3 0 1 2 = GO m0 m1 m2 m3 3 0 1 2 := by kernel_rfl
theorem c3020 (m0 m1 m2 m3 : Nat) : CH m0 m1 m2 m3 3 0 2 0 = GO m0 m1 m2 m3 3 0 2 0 := by kernel_rfl
theorem c3021 (m0 m1 m2 m3 : Nat) : CH m0 m1 m2 m3 3 0 2 1 = GO m0 m1 m2 m3 3 0 2 1 := by kernel_rfl
theorem c3022 (m0 m1 m2 m3 : Nat) : CH m0 m1 m2 m3 3 0 2 2 = GO m0 m1 m2 m3 3 0 2 2 := by kernel_rfl
theorem d30 (m0 m1 m2 m3 : Nat) : ∀ j2 j3, j2 < 3 → j3 < 3 → CH m0 m1 m2 m3 3 0 j2 j3 = GO m0 m1 m2 m3 3 0 j2 j3
  | 0, 0, _, _ => c3000 m0 m1 m2 m3
  | 0, 1, _, _ => c3001 m0 m1 m2 m3
  | 0, 2, _, _ => c3002 m0 m1 m2 m3
  | 1, 0, _, _ => c3010 m0 m1 m2 m3
  | 1, 1, _, _ => c3011 m0 m1 m2 m3
  | 1, 2, _, _ => c3012 m0 m1 m2 m3
  | 2, 0, _, _ => c3020 m0 m1 m2 m3
  | 2, 1, _, _ => c3021 m0 m1 m2 m3
  | 2, 2, _, _ => c3022 m0 m1 m2 m3
  | _ + 3, _, h, _ => absurd h (by omega)
  | _, _ + 3, _, h => absurd h (by omega)
theorem c3100 (m0 m1 m2 m3 : Nat) : CH m0 m1 m2 m3 3 1 0 0 = GO m0 m1 m2 m3 3 1 0 0 := by kernel_rfl
theorem c3101 (m0 m1 m2 m3 : Nat) : CH m0 m1 m2 m3 3 1 0 1 = GO m0 m1 m2 m3 3 1 0 1 := by kernel_rfl
theorem c3102 (m0 m1 m2 m3 : Nat) : CH m0 m1 m2 m3 3 1 0 2 = GO m0 m1 m2 m3 3 1 0 2 := by kernel_rfl
theorem c3110 (m0 m1 m2 m3 : Nat) : CH m0 m1 m2 m3 3 1 1 0 = GO m0 m1 m2 m3 3 1 1 0 := by kernel_rfl
theorem c3111 (m0 m1 m2 m3 : Nat) : CH m0 m1 m2 m3 3 1 1 1 = GO m0 m1 m2 m3 3 1 1 1 := by kernel_rfl
theorem c3112 (m0 m1 m2 m3 : Nat) : CH m0 m1 m2 m3 3 1 1 2 = GO m0 m1 m2 m3 3 1 1 2 := by kernel_rfl
theorem c3120 (m0 m1 m2 m3 : Nat) : CH m0 m1 m2 m3 3 1 2 0 = GO m0 m1 m2 m3 3 1 2 0 := by kernel_rfl
theorem c3121 (m0 m1 m2 m3 : Nat) : CH m0 m1 m2 m3 3 1 2 1 = GO m0 m1 m2 m3 3 1 2 1 := by kernel_rfl
theorem c3122 (m0 m1 m2 m3 : Nat) : CH m0 m1 m2 m3 3 1 2 2 = GO m0 m1 m2 m3 3 1 2 2 := by kernel_rfl
theorem d31 (m0 m1 m2 m3 : Nat) : ∀ j2 j3, j2 < 3 → j3 < 3 → CH m0 m1 m2 m3 3 1 j2 j3 = GO m0 m1 m2 m3 3 1 j2 j3
  | 0, 0, _, _ => c3100 m0 m1 m2 m3
  | 0, 1, _, _ => c3101 m0 m1 m2 m3
  | 0, 2, _, _ => c3102 m0 m1 m2 m3
  | 1, 0, _, _ => c3110 m0 m1 m2 m3
  | 1, 1, _, _ => c3111 m0 m1 m2 m3
  | 1, 2, _, _ => c3112 m0 m1 m2 m3
  | 2, 0, _, _ => c3120 m0 m1 m2 m3
  | 2, 1, _, _ => c3121 m0 m1 m2 m3
  | 2, 2, _, _ => c3122 m0 m1 m2 m3
  | _ + 3, _, h, _ => absurd h (by omega)
  | _, _ + 3, _, h => absurd h (by omega)
theorem c3200 (m0 m1 m2 m3 : Nat) : CH m0 m1 m2 m3 3 2 0 0 = GO m0 m1 m2 m3 3 2 0 0 := by kernel_rfl
theorem c3201 (m0 m1 m2 m3 : Nat) : CH m0 m1 m2 m3 3 2 0 1 = GO m0 m1 m2 m3 3 2 0 1 := by kernel_rfl
theorem c3202 (m0 m1 m2 m3 : Nat) : CH m0 m1 m2 m3 3 2 0 2 = GO m0 m1 m2 m3 3 2 0 2 := by kernel_rfl
theorem c3210 (m0 m1 m2 m3 : Nat) : CH m0 m1 m2 m3 3 2 1 0 = GO m0 m1 m2 m3 3 2 1 0 := by kernel_rfl
theorem c3211 (m0 m1 m2 m3 : Nat) : CH m0 m1 m2 m3 3 2 1 1 = GO m0 m1 m2 m3 3 2 1 1 := by kernel_rfl
theorem c3212 (m0 m1 m2 m3 : Nat) : CH m0 m1 m2 m3 3 2 1 2 = GO m0 m1 m2 m3 3 2 1 2 := by kernel_rfl
theorem c3220 (m0 m1 m2 m3 : Nat) : CH m0 m1 m2 m3 3 2 2 0 = GO m0 m1 m2 m3 3 2 2 0 := by kernel_rfl
theorem c3221 (m0 m1 m2 m3 : Nat) : CH m0 m1 m2 m3 3 2 2 1 = GO m0 m1 m2 m3 3 2 2 1 := by kernel_rfl
theorem c3222 (m0 m1 m2 m3 : Nat) : CH m0 m1 m2 m3 3 2 2 2 = GO m0 m1 m2 m3 3 2 2 2 := by kernel_rfl
theorem d32 (m0 m1 m2 m3 : Nat) : ∀ j2 j3, j2 < 3 → j3 < 3 → CH m0 m1 m2 m3 3 2 j2 j3 = GO m0 m1 m2 m3 3 2 j2 j3
  | 0, 0, _, _ => c3200 m0 m1 m2 m3
  | 0, 1, _, _ => c3201 m0 m1 m2 m3
  | 0, 2, _, _ => c3202 m0 m1 m2 m3
  | 1, 0, _, _ => c3210 m0 m1 m2 m3
  | 1, 1, _, _ => c3211 m0 m1 m2 m3
  | 1, 2, _, _ => c3212 m0 m1 m2 m3
  | 2, 0, _, _ => c3220 m0 m1 m2 m3
  | 2, 1, _, _ => c3221 m0 m1 m2 m3
  | 2, 2, _, _ => c3222 m0 m1 m2 m3
  | _ + 3, _, h, _ => absurd h (by omega)
  | _, _ + 3, _, h => absurd h (by omega)
theorem c3300 (m0 m1 m2 m3 : Nat) : CH m0 m1 m2 m3 3 3 0 0 = GO m0 m1 m2 m3 3 3 0 0 := by kernel_rfl
theorem c3301 (m0 m1 m2 m3 : Nat) : CH m0 m1 m2 m3 3 3 0 1 = GO m0 m1 m2 m3 3 3 0 1 := by kernel_rfl
theorem c3302 (m0 m1 m2 m3 : Nat) : CH m0 m1 m2 m3 3 3 0 2 = GO m0 m1 m2 m3 3 3 0 2 := by kernel_rfl
theorem c3310 (m0 m1 m2 m3 : Nat) : CH m0 m1 m2 m3 3 3 1 0 = GO m0 m1 m2 m3 3 3 1 0 := by kernel_rfl
theorem c3311 (m0 m1 m2 m3 : Nat) : CH m0 m1 m2 m3 3 3 1 1 = GO m0 m1 m2 m3 3 3 1 1 := by kernel_rfl
theorem c3312 (m0 m1 m2 m3 : Nat) : CH m0 m1 m2 m3 3 3 1 2 = GO m0 m1 m2 m3 3 3 1 2 := by kernel_rfl
theorem c3320 (m0 m1 m2 m3 : Nat) : CH m0 m1 m2 m3 3 3 2 0 = GO m0 m1 m2 m3 3 3 2 0 := by kernel_rfl
theorem c3321 (m0 m1 m2 m3 : Nat) : CH m0 m1 m2 m3 3 3 2 1 = GO m0 m1 m2 m3 3 3 2 1 := by kernel_rfl
theorem c3322 (m0 m1 m2 m3 : Nat) : CH m0 m1 m2 m3 3 3 2 2 = GO m0 m1 m2 m3 3 3 2 2 := by kernel_rfl
theorem d33 (m0 m1 m2 m3 : Nat) : ∀ j2 j3, j2 < 3 → j3 < 3 → CH m0 m1 m2 m3 3 3 j2 j3 = GO m0 m1 m2 m3 3 3 j2 j3
  | 0, 0, _, _ => c3300 m0 m1 m2 m3
  | 0, 1, _, _ => c3301 m0 m1 m2 m3
  | 0, 2, _, _ => c3302 m0 m1 m2 m3
  | 1, 0, _, _ => c3310 m0 m1 m2 m3
  | 1, 1, _, _ => c3311 m0 m1 m2 m3
  | 1, 2, _, _ => c3312 m0 m1 m2 m3
  | 2, 0, _, _ => c3320 m0 m1 m2 m3
  | 2, 1, _, _ => c3321 m0 m1 m2 m3
  | 2, 2, _, _ => c3322 m0 m1 m2 m3
  | _ + 3, _, h, _ => absurd h (by omega)
  | _, _ + 3, _, h => absurd h (by omega)
theorem c3400 (m0 m1 m2 m3 : Nat) : CH m0 m1 m2 m3 3 4 0 0 = GO m0 m1 m2 m3 3 4 0 0 := by kernel_rfl
theorem c3401 (m0 m1 m2 m3 : Nat) : CH m0 m1 m2 m3 3 4 0 1 = GO m0 m1 m2 m3 3 4 0 1 := by kernel_rfl
theorem c3402 (m0 m1 m2 m3 : Nat) : CH m0 m1 m2 m3 3 4 0 2 = GO m0 m1 m2 m3 3 4 0 2 := by kernel_rfl
theorem c3410 (m0 m1 m2 m3 : Nat) : CH m0 m1 m2 m3 3 4 1 0 = GO m0 m1 m2 m3 3 4 1 0 := by kernel_rfl
theorem c3411 (m0 m1 m2 m3 : Nat) : CH m0 m1 m2 m3 3 4 1 1 = GO m0 m1 m2 m3 3 4 1 1 := by kernel_rfl
theorem c3412 (m0 m1 m2 m3 : Nat) : CH m0 m1 m2 m3 3 4 1 2 = GO m0 m1 m2 m3 3 4 1 2 := by kernel_rfl
theorem c3420 (m0 m1 m2 m3 : Nat) : CH m0 m1 m2 m3 3 4 2 0 = GO m0 m1 m2 m3 3 4 2 0 := by kernel_rfl
theorem c3421 (m0 m1 m2 m3 : Nat) : CH m0 m1 m2 m3 3 4 2 1 = GO m0 m1 m2 m3 3 4 2 1 := by kernel_rfl
theorem c3422 (m0 m1 m2 m3 : Nat) : CH m0 m1 m2 m3 3 4 2 2 = GO m0 m1 m2 m3 3 4 2 2 := by kernel_rfl
theorem d34 (m0 m1 m2 m3 : Nat) : ∀ j2 j3, j2 < 3 → j3 < 3 → CH m0 m1 m2 m3 3 4 j2 j3 = GO m0 m1 m2 m3 3 4 j2 j3
  | 0, 0, _, _ => c3400 m0 m1 m2 m3
  | 0, 1, _, _ => c3401 m0 m1 m2 m3
  | 0, 2, _, _ => c3402 m0 m1 m2 m3
  | 1, 0, _, _ => c3410 m0 m1 m2 m3
  | 1, 1, _, _ => c3411 m0 m1 m2 m3
  | 1, 2, _, _ => c3412 m0 m1 m2 m3
  | 2, 0, _, _ => c3420 m0 m1 m2 m3
  | 2, 1, _, _ => c3421 m0 m1 m2 m3
  | 2, 2, _, _ => c3422 m0 m1 m2 m3
  | _ + 3, _, h, _ => absurd h (by omega)
  | _, _ + 3, _, h => absurd h (by omega)
end Go.Proofs.YtohijnjnlfdnpaaGreat
