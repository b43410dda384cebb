/- The runs at the first number's remainder 4. -/
import Derived.KernelRfl
import Derived.Test.YtohijnjnlfdnpaaGreatTt
namespace Go.Proofs.YtohijnjnlfdnpaaGreat
open Go Go.Ev Go.Ev.K
theorem c4000 (m0 m1 m2 m3 : Nat) : CH m0 m1 m2 m3 4 0 0 0 = GO m0 m1 m2 m3 4 0 0 0 := by kernel_rfl
theorem c4001 (m0 m1 m2 m3 : Nat) : CH m0 m1 m2 m3 4 0 0 1 = GO m0 m1 m2 m3 4 0 0 1 := by kernel_rfl
theorem c4002 (m0 m1 m2 m3 : Nat) : CH m0 m1 m2 m3 4 0 0 2 = GO m0 m1 m2 m3 4 0 0 2 := by kernel_rfl
theorem c4010 (m0 m1 m2 m3 : Nat) : CH m0 m1 m2 m3 4 0 1 0 = GO m0 m1 m2 m3 4 0 1 0 := by kernel_rfl
theorem c4011 (m0 m1 m2 m3 : Nat) : CH m0 m1 m2 m3 4 0 1 1 = GO m0 m1 m2 m3 4 0 1 1 := by kernel_rfl
theorem c4012 (m0 m1 m2 m3 : Nat) : CH m0 m1 m2 m3 4 0 1 2 = GO m0 m1 m2 m3 4 0 1 2 := by kernel_rfl
theorem c4020 (m0 m1 m2 m3 : Nat) : CH m0 m1 m2 m3 4 0 2 0 = GO m0 m1 m2 m3 4 0 2 0 := by kernel_rfl
theorem c4021 (m0 m1 m2 m3 : Nat) : CH m0 m1 m2 m3 4 0 2 1 = GO m0 m1 m2 m3 4 0 2 1 := by kernel_rfl
theorem c4022 (m0 m1 m2 m3 : Nat) : CH m0 m1 m2 m3 4 0 2 2 = GO m0 m1 m2 m3 4 0 2 2 := by kernel_rfl
theorem d40 (m0 m1 m2 m3 : Nat) : ∀ j2 j3, j2 < 3 → j3 < 3 → CH m0 m1 m2 m3 4 0 j2 j3 = GO m0 m1 m2 m3 4 0 j2 j3
  | 0, 0, _, _ => c4000 m0 m1 m2 m3
  | 0, 1, _, _ => c4001 m0 m1 m2 m3
  | 0, 2, _, _ => c4002 m0 m1 m2 m3
  | 1, 0, _, _ => c4010 m0 m1 m2 m3
  | 1, 1, _, _ => c4011 m0 m1 m2 m3
  | 1, 2, _, _ => c4012 m0 m1 m2 m3
  | 2, 0, _, _ => c4020 m0 m1 m2 m3
  | 2, 1, _, _ => c4021 m0 m1 m2 m3
  | 2, 2, _, _ => c4022 m0 m1 m2 m3
  | _ + 3, _, h, _ => absurd h (by omega)
  | _, _ + 3, _, h => absurd h (by omega)
theorem c4100 (m0 m1 m2 m3 : Nat) : CH m0 m1 m2 m3 4 1 0 0 = GO m0 m1 m2 m3 4 1 0 0 := by kernel_rfl
theorem c4101 (m0 m1 m2 m3 : Nat) : CH m0 m1 m2 m3 4 1 0 1 = GO m0 m1 m2 m3 4 1 0 1 := by kernel_rfl
theorem c4102 (m0 m1 m2 m3 : Nat) : CH m0 m1 m2 m3 4 1 0 2 = GO m0 m1 m2 m3 4 1 0 2 := by kernel_rfl
theorem c4110 (m0 m1 m2 m3 : Nat) : CH m0 m1 m2 m3 4 1 1 0 = GO m0 m1 m2 m3 4 1 1 0 := by kernel_rfl
theorem c4111 (m0 m1 m2 m3 : Nat) : CH m0 m1 m2 m3 4 1 1 1 = GO m0 m1 m2 m3 4 1 1 1 := by kernel_rfl
theorem c4112 (m0 m1 m2 m3 : Nat) : CH m0 m1 m2 m3 4 1 1 2 = GO m0 m1 m2 m3 4 1 1 2 := by kernel_rfl
theorem c4120 (m0 m1 m2 m3 : Nat) : CH m0 m1 m2 m3 4 1 2 0 = GO m0 m1 m2 m3 4 1 2 0 := by kernel_rfl
theorem c4121 (m0 m1 m2 m3 : Nat) : CH m0 m1 m2 m3 4 1 2 1 = GO m0 m1 m2 m3 4 1 2 1 := by kernel_rfl
theorem c4122 (m0 m1 m2 m3 : Nat) : CH m0 m1 m2 m3 4 1 2 2 = GO m0 m1 m2 m3 4 1 2 2 := by kernel_rfl
theorem d41 (m0 m1 m2 m3 : Nat) : ∀ j2 j3, j2 < 3 → j3 < 3 → CH m0 m1 m2 m3 4 1 j2 j3 = GO m0 m1 m2 m3 4 1 j2 j3
  | 0, 0, _, _ => c4100 m0 m1 m2 m3
  | 0, 1, _, _ => c4101 m0 m1 m2 m3
  | 0, 2, _, _ => c4102 m0 m1 m2 m3
  | 1, 0, _, _ => c4110 m0 m1 m2 m3
  | 1, 1, _, _ => c4111 m0 m1 m2 m3
  | 1, 2, _, _ => c4112 m0 m1 m2 m3
  | 2, 0, _, _ => c4120 m0 m1 m2 m3
  | 2, 1, _, _ => c4121 m0 m1 m2 m3
  | 2, 2, _, _ => c4122 m0 m1 m2 m3
  | _ + 3, _, h, _ => absurd h (by omega)
  | _, _ + 3, _, h => absurd h (by omega)
theorem c4200 (m0 m1 m2 m3 : Nat) : CH m0 m1 m2 m3 4 2 0 0 = GO m0 m1 m2 m3 4 2 0 0 := by kernel_rfl
theorem c4201 (m0 m1 m2 m3 : Nat) : CH m0 m1 m2 m3 4 2 0 1 = GO m0 m1 m2 m3 4 2 0 1 := by kernel_rfl
theorem c4202 (m0 m1 m2 m3 : Nat) : CH m0 m1 m2 m3 4 2 0 2 = GO m0 m1 m2 m3 4 2 0 2 := by kernel_rfl
theorem c4210 (m0 m1 m2 m3 : Nat) : CH m0 m1 m2 m3 4 2 1 0 = GO m0 m1 m2 m3 4 2 1 0 := by kernel_rfl
theorem c4211 (m0 m1 m2 m3 : Nat) : CH m0 m1 m2 m3 4 2 1 1 = GO m0 m1 m2 m3 4 2 1 1 := by kernel_rfl
theorem c4212 (m0 m1 m2 m3 : Nat) : CH m0 m1 m2 m3 4 2 1 2 = GO m0 m1 m2 m3 4 2 1 2 := by kernel_rfl
theorem c4220 (m0 m1 m2 m3 : Nat) : CH m0 m1 m2 m3 4 2 2 0 = GO m0 m1 m2 m3 4 2 2 0 := by kernel_rfl
theorem c4221 (m0 m1 m2 m3 : Nat) : CH m0 m1 m2 m3 4 2 2 1 = GO m0 m1 m2 m3 4 2 2 1 := by kernel_rfl
theorem c4222 (m0 m1 m2 m3 : Nat) : CH m0 m1 m2 m3 4 2 2 2 = GO m0 m1 m2 m3 4 2 2 2 := by kernel_rfl
theorem d42 (m0 m1 m2 m3 : Nat) : ∀ j2 j3, j2 < 3 → j3 < 3 → CH m0 m1 m2 m3 4 2 j2 j3 = GO m0 m1 m2 m3 4 2 j2 j3
  | 0, 0, _, _ => c4200 m0 m1 m2 m3
  | 0, 1, _, _ => c4201 m0 m1 m2 m3
  | 0, 2, _, _ => c4202 m0 m1 m2 m3
  | 1, 0, _, _ => c4210 m0 m1 m2 m3
  | 1, 1, _, _ => c4211 m0 m1 m2 m3
  | 1, 2, _, _ => c4212 m0 m1 m2 m3
  | 2, 0, _, _ => c4220 m0 m1 m2 m3
  | 2, 1, _, _ => c4221 m0 m1 m2 m3
  | 2, 2, _, _ => c4222 m0 m1 m2 m3
  | _ + 3, _, h, _ => absurd h (by omega)
  | _, _ + 3, _, h => absurd h (by omega)
theorem c4300 (m0 m1 m2 m3 : Nat) : CH m0 m1 m2 m3 4 3 0 0 = GO m0 m1 m2 m3 4 3 0 0 := by kernel_rfl
theorem c4301 (m0 m1 m2 m3 : Nat) : CH m0 m1 m2 m3 4 3 0 1 = GO m0 m1 m2 m3 4 3 0 1 := by kernel_rfl
theorem c4302 (m0 m1 m2 m3 : Nat) : CH m0 m1 m2 m3 4 3 0 2 = GO m0 m1 m2 m3 4 3 0 2 := by kernel_rfl
theorem c4310 (m0 m1 m2 m3 : Nat) : CH m0 m1 m2 m3 4 3 1 0 = GO m0 m1 m2 m3 4 3 1 0 := by kernel_rfl
theorem c4311 (m0 m1 m2 m3 : Nat) : CH m0 m1 m2 m3 4 3 1 1 = GO m0 m1 m2 m3 4 3 1 1 := by kernel_rfl
theorem c4312 (m0 m1 m2 m3 : Nat) : CH m0 m1 m2 m3 4 3 1 2 = GO m0 m1 m2 m3 4 3 1 2 := by kernel_rfl
theorem c4320 (m0 m1 m2 m3 : Nat) : CH m0 m1 m2 m3 4 3 2 0 = GO m0 m1 m2 m3 4 3 2 0 := by kernel_rfl
theorem c4321 (m0 m1 m2 m3 : Nat) : CH m0 m1 m2 m3 4 3 2 1 = GO m0 m1 m2 m3 4 3 2 1 := by kernel_rfl
theorem c4322 (m0 m1 m2 m3 : Nat) : CH m0 m1 m2 m3 4 3 2 2 = GO m0 m1 m2 m3 4 3 2 2 := by kernel_rfl
theorem d43 (m0 m1 m2 m3 : Nat) : ∀ j2 j3, j2 < 3 → j3 < 3 → CH m0 m1 m2 m3 4 3 j2 j3 = GO m0 m1 m2 m3 4 3 j2 j3
  | 0, 0, _, _ => c4300 m0 m1 m2 m3
  | 0, 1, _, _ => c4301 m0 m1 m2 m3
  | 0, 2, _, _ => c4302 m0 m1 m2 m3
  | 1, 0, _, _ => c4310 m0 m1 m2 m3
  | 1, 1, _, _ => c4311 m0 m1 m2 m3
  | 1, 2, _, _ => c4312 m0 m1 m2 m3
  | 2, 0, _, _ => c4320 m0 m1 m2 m3
  | 2, 1, _, _ => c4321 m0 m1 m2 m3
  | 2, 2, _, _ => c4322 m0 m1 m2 m3
  | _ + 3, _, h, _ => absurd h (by omega)
  | _, _ + 3, _, h => absurd h (by omega)
theorem c4400 (m0 m1 m2 m3 : Nat) : CH m0 m1 m2 m3 4 4 0 0 = GO m0 m1 m2 m3 4 4 0 0 := by kernel_rfl
theorem c4401 (m0 m1 m2 m3 : Nat) : CH m0 m1 m2 m3 4 4 0 1 = GO m0 m1 m2 m3 4 4 0 1 := by kernel_rfl
theorem c4402 (m0 m1 m2 m3 : Nat) : CH m0 m1 m2 m3 4 4 0 2 = GO m0 m1 m2 m3 4 4 0 2 := by kernel_rfl
theorem c4410 (m0 m1 m2 m3 : Nat) : CH m0 m1 m2 m3 4 4 1 0 = GO m0 m1 m2 m3 4 4 1 0 := by kernel_rfl
theorem c4411 (m0 m1 m2 m3 : Nat) : CH m0 m1 m2 m3 4 4 1 1 = GO m0 m1 m2 m3 4 4 1 1 := by kernel_rfl
theorem c4412 (m0 m1 m2 m3 : Nat) : CH m0 m1 m2 m3 4 4 1 2 = GO m0 m1 m2 m3 4 4 1 2 := by kernel_rfl
theorem c4420 (m0 m1 m2 m3 : Nat) : CH m0 m1 m2 m3 4 4 2 0 = GO m0 m1 m2 m3 4 4 2 0 := by kernel_rfl
theorem c4421 (m0 m1 m2 m3 : Nat) : CH m0 m1 m2 m3 4 4 2 1 = GO m0 m1 m2 m3 4 4 2 1 := by kernel_rfl
theorem c4422 (m0 m1 m2 m3 : Nat) : CH m0 m1 m2 m3 4 4 2 2 = GO m0 m1 m2 m3 4 4 2 2 := by kernel_rfl
theorem d44 (m0 m1 m2 m3 : Nat) : ∀ j2 j3, j2 < 3 → j3 < 3 → CH m0 m1 m2 m3 4 4 j2 j3 = GO m0 m1 m2 m3 4 4 j2 j3
  | 0, 0, _, _ => c4400 m0 m1 m2 m3
  | 0, 1, _, _ => c4401 m0 m1 m2 m3
  | 0, 2, _, _ => c4402 m0 m1 m2 m3
  | 1, 0, _, _ => c4410 m0 m1 m2 m3
  | 1, 1, _, _ => c4411 m0 m1 m2 m3
  | 1, 2, _, _ => c4412 m0 m1 m2 m3
  | 2, 0, _, _ => c4420 m0 m1 m2 m3
  | 2, 1, _, _ => c4421 m0 m1 m2 m3
  | 2, 2, _, _ => c4422 m0 m1 m2 m3
  | _ + 3, _, h, _ => absurd h (by omega)
  | _, _ + 3, _, h => absurd h (by omega)
end Go.Proofs.YtohijnjnlfdnpaaGreat
