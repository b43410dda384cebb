/- The runs at the first number's remainder 5. -/
import Derived.KernelRfl
import Derived.Test.YtohijnjnlfdnpaaGreatTt
namespace Go.Proofs.YtohijnjnlfdnpaaGreat
open Go Go.Ev Go.Ev.K
theorem c5000 (m0 m1 m2 m3 : Nat) : CH m0 m1 m2 m3 5 0 0 0 = GO m0 m1 m2 m3 5 0 0 0 := by kernel_rfl
theorem c5001 (m0 m1 m2 m3 : Nat) : CH m0 m1 m2 m3 5 0 0 1 = GO m0 m1 m2 m3 5 0 0 1 := by kernel_rfl
theorem c5002 (m0 m1 m2 m3 : Nat) : CH m0 m1 m2 m3 5 0 0 2 = GO m0 m1 m2 m3 5 0 0 2 := by kernel_rfl
theorem c5010 (m0 m1 m2 m3 : Nat) : CH m0 m1 m2 m3 5 0 1 0 = GO m0 m1 m2 m3 5 0 1 0 := by kernel_rfl
theorem c5011 (m0 m1 m2 m3 : Nat) : CH m0 m1 m2 m3 5 0 1 1 = GO m0 m1 m2 m3 5 0 1 1 := by kernel_rfl
theorem c5012 (m0 m1 m2 m3 : Nat) : CH m0 m1 m2 m3 5 0 1 2 = GO m0 m1 m2 m3 5 0 1 2 := by kernel_rfl
theorem c5020 (m0 m1 m2 m3 : Nat) : CH m0 m1 m2 m3 5 0 2 0 = GO m0 m1 m2 m3 5 0 2 0 := by kernel_rfl
theorem c5021 (m0 m1 m2 m3 : Nat) : CH m0 m1 m2 m3 5 0 2 1 = GO m0 m1 m2 m3 5 0 2 1 := by kernel_rfl
theorem c5022 (m0 m1 m2 m3 : Nat) : CH m0 m1 m2 m3 5 0 2 2 = GO m0 m1 m2 m3 5 0 2 2 := by kernel_rfl
theorem d50 (m0 m1 m2 m3 : Nat) : ∀ j2 j3, j2 < 3 → j3 < 3 → CH m0 m1 m2 m3 5 0 j2 j3 = GO m0 m1 m2 m3 5 0 j2 j3
  | 0, 0, _, _ => c5000 m0 m1 m2 m3
  | 0, 1, _, _ => c5001 m0 m1 m2 m3
  | 0, 2, _, _ => c5002 m0 m1 m2 m3
  | 1, 0, _, _ => c5010 m0 m1 m2 m3
  | 1, 1, _, _ => c5011 m0 m1 m2 m3
  | 1, 2, _, _ => c5012 m0 m1 m2 m3
  | 2, 0, _, _ => c5020 m0 m1 m2 m3
  | 2, 1, _, _ => c5021 m0 m1 m2 m3
  | 2, 2, _, _ => c5022 m0 m1 m2 m3
  | _ + 3, _, h, _ => absurd h (by omega)
  | _, _ + 3, _, h => absurd h (by omega)
theorem c5100 (m0 m1 m2 m3 : Nat) : CH m0 m1 m2 m3 5 1 0 0 = GO m0 m1 m2 m3 5 1 0 0 := by kernel_rfl
theorem c5101 (m0 m1 m2 m3 : Nat) : CH m0 m1 m2 m3 5 1 0 1 = GO m0 m1 m2 m3 5 1 0 1 := by kernel_rfl
theorem c5102 (m0 m1 m2 m3 : Nat) : CH m0 m1 m2 m3 5 1 0 2 = GO m0 m1 m2 m3 5 1 0 2 := by kernel_rfl
theorem c5110 (m0 m1 m2 m3 : Nat) : CH m0 m1 m2 m3 5 1 1 0 = GO m0 m1 m2 m3 5 1 1 0 := by kernel_rfl
theorem c5111 (m0 m1 m2 m3 : Nat) : CH m0 m1 m2 m3 5 1 1 1 = GO m0 m1 m2 m3 5 1 1 1 := by kernel_rfl
theorem c5112 (m0 m1 m2 m3 : Nat) : CH m0 m1 m2 m3 5 1 1 2 = GO m0 m1 m2 m3 5 1 1 2 := by kernel_rfl
theorem c5120 (m0 m1 m2 m3 : Nat) : CH m0 m1 m2 m3 5 1 2 0 = GO m0 m1 m2 m3 5 1 2 0 := by kernel_rfl
theorem c5121 (m0 m1 m2 m3 : Nat) : CH m0 m1 m2 m3 5 1 2 1 = GO m0 m1 m2 m3 5 1 2 1 := by kernel_rfl
theorem c5122 (m0 m1 m2 m3 : Nat) : CH m0 m1 m2 m3 5 1 2 2 = GO m0 m1 m2 m3 5 1 2 2 := by kernel_rfl
theorem d51 (m0 m1 m2 m3 : Nat) : ∀ j2 j3, j2 < 3 → j3 < 3 → CH m0 m1 m2 m3 5 1 j2 j3 = GO m0 m1 m2 m3 5 1 j2 j3
  | 0, 0, _, _ => c5100 m0 m1 m2 m3
  | 0, 1, _, _ => c5101 m0 m1 m2 m3
  | 0, 2, _, _ => c5102 m0 m1 m2 m3
  | 1, 0, _, _ => c5110 m0 m1 m2 m3
  | 1, 1, _, _ => c5111 m0 m1 m2 m3
  | 1, 2, _, _ => c5112 m0 m1 m2 m3
  | 2, 0, _, _ => c5120 m0 m1 m2 m3
  | 2, 1, _, _ => c5121 m0 m1 m2 m3
  | 2, 2, _, _ => c5122 m0 m1 m2 m3
  | _ + 3, _, h, _ => absurd h (by omega)
  | _, _ + 3, _, h => absurd h (by omega)
theorem c5200 (m0 m1 m2 m3 : Nat) : CH m0 m1 m2 m3 5 2 0 0 = GO m0 m1 m2 m3 5 2 0 0 := by kernel_rfl
theorem c5201 (m0 m1 m2 m3 : Nat) : CH m0 m1 m2 m3 5 2 0 1 = GO m0 m1 m2 m3 5 2 0 1 := by kernel_rfl
theorem c5202 (m0 m1 m2 m3 : Nat) : CH m0 m1 m2 m3 5 2 0 2 = GO m0 m1 m2 m3 5 2 0 2 := by kernel_rfl
theorem c5210 (m0 m1 m2 m3 : Nat) : CH m0 m1 m2 m3 5 2 1 0 = GO m0 m1 m2 m3 5 2 1 0 := by kernel_rfl
theorem c5211 (m0 m1 m2 m3 : Nat) : CH m0 m1 m2 m3 5 2 1 1 = GO m0 m1 m2 m3 5 2 1 1 := by kernel_rfl
theorem c5212 (m0 m1 m2 m3 : Nat) : CH m0 m1 m2 m3 5 2 1 2 = GO m0 m1 m2 m3 5 2 1 2 := by kernel_rfl
theorem c5220 (m0 m1 m2 m3 : Nat) : CH m0 m1 m2 m3 5 2 2 0 = GO m0 m1 m2 m3 5 2 2 0 := by kernel_rfl
theorem c5221 (m0 m1 m2 m3 : Nat) : CH m0 m1 m2 m3 5 2 2 1 = GO m0 m1 m2 m3 5 2 2 1 := by kernel_rfl
theorem c5222 (m0 m1 m2 m3 : Nat) : CH m0 m1 m2 m3 5 2 2 2 = GO m0 m1 m2 m3 5 2 2 2 := by kernel_rfl
theorem d52 (m0 m1 m2 m3 : Nat) : ∀ j2 j3, j2 < 3 → j3 < 3 → CH m0 m1 m2 m3 5 2 j2 j3 = GO m0 m1 m2 m3 5 2 j2 j3
  | 0, 0, _, _ => c5200 m0 m1 m2 m3
  | 0, 1, _, _ => c5201 m0 m1 m2 m3
  | 0, 2, _, _ => c5202 m0 m1 m2 m3
  | 1, 0, _, _ => c5210 m0 m1 m2 m3
  | 1, 1, _, _ => c5211 m0 m1 m2 m3
  | 1, 2, _, _ => c5212 m0 m1 m2 m3
  | 2, 0, _, _ => c5220 m0 m1 m2 m3
  | 2, 1, _, _ => c5221 m0 m1 m2 m3
  | 2, 2, _, _ => c5222 m0 m1 m2 m3
  | _ + 3, _, h, _ => absurd h (by omega)
  | _, _ + 3, _, h => absurd h (by omega)
theorem c5300 (m0 m1 m2 m3 : Nat) : CH m0 m1 m2 m3 5 3 0 0 = GO m0 m1 m2 m3 5 3 0 0 := by kernel_rfl
theorem c5301 (m0 m1 m2 m3 : Nat) : CH m0 m1 m2 m3 5 3 0 1 = GO m0 m1 m2 m3 5 3 0 1 := by kernel_rfl
theorem c5302 (m0 m1 m2 m3 : Nat) : CH m0 m1 m2 m3 5 3 0 2 = GO m0 m1 m2 m3 5 3 0 2 := by kernel_rfl
theorem c5310 (m0 m1 m2 m3 : Nat) : CH m0 m1 m2 m3 5 3 1 0 = GO m0 m1 m2 m3 5 3 1 0 := by kernel_rfl
theorem c5311 (m0 m1 m2 m3 : Nat) : CH m0 m1 m2 m3 5 3 1 1 = GO m0 m1 m2 m3 5 3 1 1 := by kernel_rfl
theorem c5312 (m0 m1 m2 m3 : Nat) : CH m0 m1 m2 m3 5 3 1 2 = GO m0 m1 m2 m3 5 3 1 2 := by kernel_rfl
theorem c5320 (m0 m1 m2 m3 : Nat) : CH m0 m1 m2 m3 5 3 2 0 = GO m0 m1 m2 m3 5 3 2 0 := by kernel_rfl
theorem c5321 (m0 m1 m2 m3 : Nat) : CH m0 m1 m2 m3 5 3 2 1 = GO m0 m1 m2 m3 5 3 2 1 := by kernel_rfl
theorem c5322 (m0 m1 m2 m3 : Nat) : CH m0 m1 m2 m3 5 3 2 2 = GO m0 m1 m2 m3 5 3 2 2 := by kernel_rfl
theorem d53 (m0 m1 m2 m3 : Nat) : ∀ j2 j3, j2 < 3 → j3 < 3 → CH m0 m1 m2 m3 5 3 j2 j3 = GO m0 m1 m2 m3 5 3 j2 j3
  | 0, 0, _, _ => c5300 m0 m1 m2 m3
  | 0, 1, _, _ => c5301 m0 m1 m2 m3
  | 0, 2, _, _ => c5302 m0 m1 m2 m3
  | 1, 0, _, _ => c5310 m0 m1 m2 m3
  | 1, 1, _, _ => c5311 m0 m1 m2 m3
  | 1, 2, _, _ => c5312 m0 m1 m2 m3
  | 2, 0, _, _ => c5320 m0 m1 m2 m3
  | 2, 1, _, _ => c5321 m0 m1 m2 m3
  | 2, 2, _, _ => c5322 m0 m1 m2 m3
  | _ + 3, _, h, _ => absurd h (by omega)
  | _, _ + 3, _, h => absurd h (by omega)
theorem c5400 (m0 m1 m2 m3 : Nat) : CH m0 m1 m2 m3 5 4 0 0 = GO m0 m1 m2 m3 5 4 0 0 := by kernel_rfl
theorem c5401 (m0 m1 m2 m3 : Nat) : CH m0 m1 m2 m3 5 4 0 1 = GO m0 m1 m2 m3 5 4 0 1 := by kernel_rfl
theorem c5402 (m0 m1 m2 m3 : Nat) : CH m0 m1 m2 m3 5 4 0 2 = GO m0 m1 m2 m3 5 4 0 2 := by kernel_rfl
theorem c5410 (m0 m1 m2 m3 : Nat) : CH m0 m1 m2 m3 5 4 1 0 = GO m0 m1 m2 m3 5 4 1 0 := by kernel_rfl
theorem c5411 (m0 m1 m2 m3 : Nat) : CH m0 m1 m2 m3 5 4 1 1 = GO m0 m1 m2 m3 5 4 1 1 := by kernel_rfl
theorem c5412 (m0 m1 m2 m3 : Nat) : CH m0 m1 m2 m3 5 4 1 2 = GO m0 m1 m2 m3 5 4 1 2 := by kernel_rfl
theorem c5420 (m0 m1 m2 m3 : Nat) : CH m0 m1 m2 m3 5 4 2 0 = GO m0 m1 m2 m3 5 4 2 0 := by kernel_rfl
theorem c5421 (m0 m1 m2 m3 : Nat) : CH m0 m1 m2 m3 5 4 2 1 = GO m0 m1 m2 m3 5 4 2 1 := by kernel_rfl
theorem c5422 (m0 m1 m2 m3 : Nat) : CH m0 m1 m2 m3 5 4 2 2 = GO m0 m1 m2 m3 5 4 2 2 := by kernel_rfl
theorem d54 (m0 m1 m2 m3 : Nat) : ∀ j2 j3, j2 < 3 → j3 < 3 → CH m0 m1 m2 m3 5 4 j2 j3 = GO m0 m1 m2 m3 5 4 j2 j3
  | 0, 0, _, _ => c5400 m0 m1 m2 m3
  | 0, 1, _, _ => c5401 m0 m1 m2 m3
  | 0, 2, _, _ => c5402 m0 m1 m2 m3
  | 1, 0, _, _ => c5410 m0 m1 m2 m3
  | 1, 1, _, _ => c5411 m0 m1 m2 m3
  | 1, 2, _, _ => c5412 m0 m1 m2 m3
  | 2, 0, _, _ => c5420 m0 m1 m2 m3
  | 2, 1, _, _ => c5421 m0 m1 m2 m3
  | 2, 2, _, _ => c5422 m0 m1 m2 m3
  | _ + 3, _, h, _ => absurd h (by omega)
  | _, _ + 3, _, h => absurd h (by omega)
end Go.Proofs.YtohijnjnlfdnpaaGreat
