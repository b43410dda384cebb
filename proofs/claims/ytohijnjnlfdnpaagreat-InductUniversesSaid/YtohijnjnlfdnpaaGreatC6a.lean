/- The runs at the first number's remainder 6. -/
import Derived.KernelRfl
import Derived.Test.YtohijnjnlfdnpaaGreatTt
namespace Go.Proofs.YtohijnjnlfdnpaaGreat
open Go Go.Ev Go.Ev.K
theorem c6000 (m0 m1 m2 m3 : Nat) : CH m0 m1 m2 m3 6 0 0 0 = GO m0 m1 m2 m3 6 0 0 0 := by kernel_rfl
theorem c6001 (m0 m1 m2 m3 : Nat) : CH m0 m1 m2 m3 6 0 0 1 = GO m0 m1 m2 m3 6 0 0 1 := by kernel_rfl
theorem c6002 (m0 m1 m2 m3 : Nat) : CH m0 m1 m2 m3 6 0 0 2 = GO m0 m1 m2 m3 6 0 0 2 := by kernel_rfl
theorem c6010 (m0 m1 m2 m3 : Nat) : CH m0 m1 m2 m3 6 0 1 0 = GO m0 m1 m2 m3 6 0 1 0 := by kernel_rfl
theorem c6011 (m0 m1 m2 m3 : Nat) : CH m0 m1 m2 m3 6 0 1 1 = GO m0 m1 m2 m3 6 0 1 1 := by kernel_rfl
theorem c6012 (m0 m1 m2 m3 : Nat) : CH m0 m1 m2 m3 6 0 1 2 = GO m0 m1 m2 m3 6 0 1 2 := by kernel_rfl
theorem c6020 (m0 m1 m2 m3 : Nat) : CH m0 m1 m2 m3 6 0 2 0 = GO m0 m1 m2 m3 6 0 2 0 := by kernel_rfl
theorem c6021 (m0 m1 m2 m3 : Nat) : CH m0 m1 m2 m3 6 0 2 1 = GO m0 m1 m2 m3 6 0 2 1 := by kernel_rfl
theorem c6022 (m0 m1 m2 m3 : Nat) : CH m0 m1 m2 m3 6 0 2 2 = GO m0 m1 m2 m3 6 0 2 2 := by kernel_rfl
theorem d60 (m0 m1 m2 m3 : Nat) : ∀ j2 j3, j2 < 3 → j3 < 3 → CH m0 m1 m2 m3 6 0 j2 j3 = GO m0 m1 m2 m3 6 0 j2 j3
  | 0, 0, _, _ => c6000 m0 m1 m2 m3
  | 0, 1, _, _ => c6001 m0 m1 m2 m3
  | 0, 2, _, _ => c6002 m0 m1 m2 m3
  | 1, 0, _, _ => c6010 m0 m1 m2 m3
  | 1, 1, _, _ => c6011 m0 m1 m2 m3
  | 1, 2, _, _ => c6012 m0 m1 m2 m3
  | 2, 0, _, _ => c6020 m0 m1 m2 m3
  | 2, 1, _, _ => c6021 m0 m1 m2 m3
  | 2, 2, _, _ => c6022 m0 m1 m2 m3
  | _ + 3, _, h, _ => absurd h (by omega)
  | _, _ + 3, _, h => absurd h (by omega)
theorem c6100 (m0 m1 m2 m3 : Nat) : CH m0 m1 m2 m3 6 1 0 0 = GO m0 m1 m2 m3 6 1 0 0 := by kernel_rfl
theorem c6101 (m0 m1 m2 m3 : Nat) : CH m0 m1 m2 m3 6 1 0 1 = GO m0 m1 m2 m3 6 1 0 1 := by kernel_rfl
theorem c6102 (m0 m1 m2 m3 : Nat) : CH m0 m1 m2 m3 6 1 0 2 = GO m0 m1 m2 m3 6 1 0 2 := by kernel_rfl
theorem c6110 (m0 m1 m2 m3 : Nat) : CH m0 m1 m2 m3 6 1 1 0 = GO m0 m1 m2 m3 6 1 1 0 := by kernel_rfl
theorem c6111 (m0 m1 m2 m3 : Nat) : CH m0 m1 m2 m3 6 1 1 1 = GO m0 m1 m2 m3 6 1 1 1 := by kernel_rfl
theorem c6112 (m0 m1 m2 m3 : Nat) : CH m0 m1 m2 m3 6 1 1 2 = GO m0 m1 m2 m3 6 1 1 2 := by kernel_rfl
theorem c6120 (m0 m1 m2 m3 : Nat) : CH m0 m1 m2 m3 6 1 2 0 = GO m0 m1 m2 m3 6 1 2 0 := by kernel_rfl
theorem c6121 (m0 m1 m2 m3 : Nat) : CH m0 m1 m2 m3 6 1 2 1 = GO m0 m1 m2 m3 6 1 2 1 := by kernel_rfl
theorem c6122 (m0 m1 m2 m3 : Nat) : CH m0 m1 m2 m3 6 1 2 2 = GO m0 m1 m2 m3 6 1 2 2 := by kernel_rfl
theorem d61 (m0 m1 m2 m3 : Nat) : ∀ j2 j3, j2 < 3 → j3 < 3 → CH m0 m1 m2 m3 6 1 j2 j3 = GO m0 m1 m2 m3 6 1 j2 j3
  | 0, 0, _, _ => c6100 m0 m1 m2 m3
  | 0, 1, _, _ => c6101 m0 m1 m2 m3
  | 0, 2, _, _ => c6102 m0 m1 m2 m3
  | 1, 0, _, _ => c6110 m0 m1 m2 m3
  | 1, 1, _, _ => c6111 m0 m1 m2 m3
  | 1, 2, _, _ => c6112 m0 m1 m2 m3
  | 2, 0, _, _ => c6120 m0 m1 m2 m3
  | 2, 1, _, _ => c6121 m0 m1 m2 m3
  | 2, 2, _, _ => c6122 m0 m1 m2 m3
  | _ + 3, _, h, _ => absurd h (by omega)
  | _, _ + 3, _, h => absurd h (by omega)
theorem c6200 (m0 m1 m2 m3 : Nat) : CH m0 m1 m2 m3 6 2 0 0 = GO m0 m1 m2 m3 6 2 0 0 := by kernel_rfl
theorem c6201 (m0 m1 m2 m3 : Nat) : CH m0 m1 m2 m3 6 2 0 1 = GO m0 m1 m2 m3 6 2 0 1 := by kernel_rfl
theorem c6202 (m0 m1 m2 m3 : Nat) : CH m0 m1 m2 m3 6 2 0 2 = GO m0 m1 m2 m3 6 2 0 2 := by kernel_rfl
theorem c6210 (m0 m1 m2 m3 : Nat) : CH m0 m1 m2 m3 6 2 1 0 = GO m0 m1 m2 m3 6 2 1 0 := by kernel_rfl
theorem c6211 (m0 m1 m2 m3 : Nat) : CH m0 m1 m2 m3 6 2 1 1 = GO m0 m1 m2 m3 6 2 1 1 := by kernel_rfl
theorem c6212 (m0 m1 m2 m3 : Nat) : CH m0 m1 m2 m3 6 2 1 2 = GO m0 m1 m2 m3 6 2 1 2 := by kernel_rfl
theorem c6220 (m0 m1 m2 m3 : Nat) : CH m0 m1 m2 m3 6 2 2 0 = GO m0 m1 m2 m3 6 2 2 0 := by kernel_rfl
theorem c6221 (m0 m1 m2 m3 : Nat) : CH m0 m1 m2 m3 6 2 2 1 = GO m0 m1 m2 m3 6 2 2 1 := by kernel_rfl
theorem c6222 (m0 m1 m2 m3 : Nat) : CH m0 m1 m2 m3 6 2 2 2 = GO m0 m1 m2 m3 6 2 2 2 := by kernel_rfl
theorem d62 (m0 m1 m2 m3 : Nat) : ∀ j2 j3, j2 < 3 → j3 < 3 → CH m0 m1 m2 m3 6 2 j2 j3 = GO m0 m1 m2 m3 6 2 j2 j3
  | 0, 0, _, _ => c6200 m0 m1 m2 m3
  | 0, 1, _, _ => c6201 m0 m1 m2 m3
  | 0, 2, _, _ => c6202 m0 m1 m2 m3
  | 1, 0, _, _ => c6210 m0 m1 m2 m3
  | 1, 1, _, _ => c6211 m0 m1 m2 m3
  | 1, 2, _, _ => c6212 m0 m1 m2 m3
  | 2, 0, _, _ => c6220 m0 m1 m2 m3
  | 2, 1, _, _ => c6221 m0 m1 m2 m3
  | 2, 2, _, _ => c6222 m0 m1 m2 m3
  | _ + 3, _, h, _ => absurd h (by omega)
  | _, _ + 3, _, h => absurd h (by omega)
theorem c6300 (m0 m1 m2 m3 : Nat) : CH m0 m1 m2 m3 6 3 0 0 = GO m0 m1 m2 m3 6 3 0 0 := by kernel_rfl
theorem c6301 (m0 m1 m2 m3 : Nat) : CH m0 m1 m2 m3 6 3 0 1 = GO m0 m1 m2 m3 6 3 0 1 := by kernel_rfl
theorem c6302 (m0 m1 m2 m3 : Nat) : CH m0 m1 m2 m3 6 3 0 2 = GO m0 m1 m2 m3 6 3 0 2 := by kernel_rfl
theorem c6310 (m0 m1 m2 m3 : Nat) : CH m0 m1 m2 m3 6 3 1 0 = GO m0 m1 m2 m3 6 3 1 0 := by kernel_rfl
theorem c6311 (m0 m1 m2 m3 : Nat) : CH m0 m1 m2 m3 6 3 1 1 = GO m0 m1 m2 m3 6 3 1 1 := by kernel_rfl
theorem c6312 (m0 m1 m2 m3 : Nat) : CH m0 m1 m2 m3 6 3 1 2 = GO m0 m1 m2 m3 6 3 1 2 := by kernel_rfl
theorem c6320 (m0 m1 m2 m3 : Nat) : CH m0 m1 m2 m3 6 3 2 0 = GO m0 m1 m2 m3 6 3 2 0 := by kernel_rfl
theorem c6321 (m0 m1 m2 m3 : Nat) : CH m0 m1 m2 m3 6 3 2 1 = GO m0 m1 m2 m3 6 3 2 1 := by kernel_rfl
theorem c6322 (m0 m1 m2 m3 : Nat) : CH m0 m1 m2 m3 6 3 2 2 = GO m0 m1 m2 m3 6 3 2 2 := by kernel_rfl
theorem d63 (m0 m1 m2 m3 : Nat) : ∀ j2 j3, j2 < 3 → j3 < 3 → CH m0 m1 m2 m3 6 3 j2 j3 = GO m0 m1 m2 m3 6 3 j2 j3
  | 0, 0, _, _ => c6300 m0 m1 m2 m3
  | 0, 1, _, _ => c6301 m0 m1 m2 m3
  | 0, 2, _, _ => c6302 m0 m1 m2 m3
  | 1, 0, _, _ => c6310 m0 m1 m2 m3
  | 1, 1, _, _ => c6311 m0 m1 m2 m3
  | 1, 2, _, _ => c6312 m0 m1 m2 m3
  | 2, 0, _, _ => c6320 m0 m1 m2 m3
  | 2, 1, _, _ => c6321 m0 m1 m2 m3
  | 2, 2, _, _ => c6322 m0 m1 m2 m3
  | _ + 3, _, h, _ => absurd h (by omega)
  | _, _ + 3, _, h => absurd h (by omega)
theorem c6400 (m0 m1 m2 m3 : Nat) : CH m0 m1 m2 m3 6 4 0 0 = GO m0 m1 m2 m3 6 4 0 0 := by kernel_rfl
theorem c6401 (m0 m1 m2 m3 : Nat) : CH m0 m1 m2 m3 6 4 0 1 = GO m0 m1 m2 m3 6 4 0 1 := by kernel_rfl
theorem c6402 (m0 m1 m2 m3 : Nat) : CH m0 m1 m2 m3 6 4 0 2 = GO m0 m1 m2 m3 6 4 0 2 := by kernel_rfl
theorem c6410 (m0 m1 m2 m3 : Nat) : CH m0 m1 m2 m3 6 4 1 0 = GO m0 m1 m2 m3 6 4 1 0 := by kernel_rfl
theorem c6411 (m0 m1 m2 m3 : Nat) : CH m0 m1 m2 m3 6 4 1 1 = GO m0 m1 m2 m3 6 4 1 1 := by kernel_rfl
theorem c6412 (m0 m1 m2 m3 : Nat) : CH m0 m1 m2 m3 6 4 1 2 = GO m0 m1 m2 m3 6 4 1 2 := by kernel_rfl
theorem c6420 (m0 m1 m2 m3 : Nat) : CH m0 m1 m2 m3 6 4 2 0 = GO m0 m1 m2 m3 6 4 2 0 := by kernel_rfl
theorem c6421 (m0 m1 m2 m3 : Nat) : CH m0 m1 m2 m3 6 4 2 1 = GO m0 m1 m2 m3 6 4 2 1 := by kernel_rfl
theorem c6422 (m0 m1 m2 m3 : Nat) : CH m0 m1 m2 m3 6 4 2 2 = GO m0 m1 m2 m3 6 4 2 2 := by kernel_rfl
theorem d64 (m0 m1 m2 m3 : Nat) : ∀ j2 j3, j2 < 3 → j3 < 3 → CH m0 m1 m2 m3 6 4 j2 j3 = GO m0 m1 m2 m3 6 4 j2 j3
  | 0, 0, _, _ => c6400 m0 m1 m2 m3
  | 0, 1, _, _ => c6401 m0 m1 m2 m3
  | 0, 2, _, _ => c6402 m0 m1 m2 m3
  | 1, 0, _, _ => c6410 m0 m1 m2 m3
  | 1, 1, _, _ => c6411 m0 m1 m2 m3
  | 1, 2, _, _ => c6412 m0 m1 m2 m3
  | 2, 0, _, _ => c6420 m0 m1 m2 m3
  | 2, 1, _, _ => c6421 m0 m1 m2 m3
  | 2, 2, _, _ => c6422 m0 m1 m2 m3
  | _ + 3, _, h, _ => absurd h (by omega)
  | _, _ + 3, _, h => absurd h (by omega)
end Go.Proofs.YtohijnjnlfdnpaaGreat
