/- The runs at the first number's remainder 1. -/
import Derived.KernelRfl
import Derived.Test.YtohijnjnlfdnpaaGreatTt
namespace Go.Proofs.YtohijnjnlfdnpaaGreat
open Go Go.Ev Go.Ev.K
theorem c1000 (m0 m1 m2 m3 : Nat) : CH m0 m1 m2 m3 1 0 0 0 = GO m0 m1 m2 m3 1 0 0 0 := by kernel_rfl
theorem c1001 (m0 m1 m2 m3 : Nat) : CH m0 m1 m2 m3 1 0 0 1 = GO m0 m1 m2 m3 1 0 0 1 := by kernel_rfl
theorem c1002 (m0 m1 m2 m3 : Nat) : CH m0 m1 m2 m3 1 0 0 2 = GO m0 m1 m2 m3 1 0 0 2 := by kernel_rfl
theorem c1010 (m0 m1 m2 m3 : Nat) : CH m0 m1 m2 m3 1 0 1 0 = GO m0 m1 m2 m3 1 0 1 0 := by kernel_rfl
theorem c1011 (m0 m1 m2 m3 : Nat) : CH m0 m1 m2 m3 1 0 1 1 = GO m0 m1 m2 m3 1 0 1 1 := by kernel_rfl
theorem c1012 (m0 m1 m2 m3 : Nat) : CH m0 m1 m2 m3 1 0 1 2 = GO m0 m1 m2 m3 1 0 1 2 := by kernel_rfl
theorem c1020 (m0 m1 m2 m3 : Nat) : CH m0 m1 m2 m3 1 0 2 0 = GO m0 m1 m2 m3 1 0 2 0 := by kernel_rfl
theorem c1021 (m0 m1 m2 m3 : Nat) : CH m0 m1 m2 m3 1 0 2 1 = GO m0 m1 m2 m3 1 0 2 1 := by kernel_rfl
theorem c1022 (m0 m1 m2 m3 : Nat) : CH m0 m1 m2 m3 1 0 2 2 = GO m0 m1 m2 m3 1 0 2 2 := by kernel_rfl
theorem d10 (m0 m1 m2 m3 : Nat) : ∀ j2 j3, j2 < 3 → j3 < 3 → CH m0 m1 m2 m3 1 0 j2 j3 = GO m0 m1 m2 m3 1 0 j2 j3
  | 0, 0, _, _ => c1000 m0 m1 m2 m3
  | 0, 1, _, _ => c1001 m0 m1 m2 m3
  | 0, 2, _, _ => c1002 m0 m1 m2 m3
  | 1, 0, _, _ => c1010 m0 m1 m2 m3
  | 1, 1, _, _ => c1011 m0 m1 m2 m3
  | 1, 2, _, _ => c1012 m0 m1 m2 m3
  | 2, 0, _, _ => c1020 m0 m1 m2 m3
  | 2, 1, _, _ => c1021 m0 m1 m2 m3
  | 2, 2, _, _ => c1022 m0 m1 m2 m3
  | _ + 3, _, h, _ => absurd h (by omega)
  | _, _ + 3, _, h => absurd h (by omega)
theorem c1100 (m0 m1 m2 m3 : Nat) : CH m0 m1 m2 m3 1 1 0 0 = GO m0 m1 m2 m3 1 1 0 0 := by kernel_rfl
theorem c1101 (m0 m1 m2 m3 : Nat) : CH m0 m1 m2 m3 1 1 0 1 = GO m0 m1 m2 m3 1 1 0 1 := by kernel_rfl
theorem c1102 (m0 m1 m2 m3 : Nat) : CH m0 m1 m2 m3 1 1 0 2 = GO m0 m1 m2 m3 1 1 0 2 := by kernel_rfl
theorem c1110 (m0 m1 m2 m3 : Nat) : CH m0 m1 m2 m3 1 1 1 0 = GO m0 m1 m2 m3 1 1 1 0 := by kernel_rfl
theorem c1111 (m0 m1 m2 m3 : Nat) : CH m0 m1 m2 m3 1 1 1 1 = GO m0 m1 m2 m3 1 1 1 1 := by kernel_rfl
theorem c1112 (m0 m1 m2 m3 : Nat) : CH m0 m1 m2 m3 1 1 1 2 = GO m0 m1 m2 m3 1 1 1 2 := by kernel_rfl
theorem c1120 (m0 m1 m2 m3 : Nat) : CH m0 m1 m2 m3 1 1 2 0 = GO m0 m1 m2 m3 1 1 2 0 := by kernel_rfl
theorem c1121 (m0 m1 m2 m3 : Nat) : CH m0 m1 m2 m3 1 1 2 1 = GO m0 m1 m2 m3 1 1 2 1 := by kernel_rfl
theorem c1122 (m0 m1 m2 m3 : Nat) : CH m0 m1 m2 m3 1 1 2 2 = GO m0 m1 m2 m3 1 1 2 2 := by kernel_rfl
theorem d11 (m0 m1 m2 m3 : Nat) : ∀ j2 j3, j2 < 3 → j3 < 3 → CH m0 m1 m2 m3 1 1 j2 j3 = GO m0 m1 m2 m3 1 1 j2 j3
  | 0, 0, _, _ => c1100 m0 m1 m2 m3
  | 0, 1, _, _ => c1101 m0 m1 m2 m3
  | 0, 2, _, _ => c1102 m0 m1 m2 m3
  | 1, 0, _, _ => c1110 m0 m1 m2 m3
  | 1, 1, _, _ => c1111 m0 m1 m2 m3
  | 1, 2, _, _ => c1112 m0 m1 m2 m3
  | 2, 0, _, _ => c1120 m0 m1 m2 m3
  | 2, 1, _, _ => c1121 m0 m1 m2 m3
  | 2, 2, _, _ => c1122 m0 m1 m2 m3
  | _ + 3, _, h, _ => absurd h (by omega)
  | _, _ + 3, _, h => absurd h (by omega)
theorem c1200 (m0 m1 m2 m3 : Nat) : CH m0 m1 m2 m3 1 2 0 0 = GO m0 m1 m2 m3 1 2 0 0 := by kernel_rfl
theorem c1201 (m0 m1 m2 m3 : Nat) : CH m0 m1 m2 m3 1 2 0 1 = GO m0 m1 m2 m3 1 2 0 1 := by kernel_rfl
theorem c1202 (m0 m1 m2 m3 : Nat) : CH m0 m1 m2 m3 1 2 0 2 = GO m0 m1 m2 m3 1 2 0 2 := by kernel_rfl
theorem c1210 (m0 m1 m2 m3 : Nat) : CH m0 m1 m2 m3 1 2 1 0 = GO m0 m1 m2 m3 1 2 1 0 := by kernel_rfl
theorem c1211 (m0 m1 m2 m3 : Nat) : CH m0 m1 m2 m3 1 2 1 1 = GO m0 m1 m2 m3 1 2 1 1 := by kernel_rfl
theorem c1212 (m0 m1 m2 m3 : Nat) : CH m0 m1 m2 m3 1 2 1 2 = GO m0 m1 m2 m3 1 2 1 2 := by kernel_rfl
theorem c1220 (m0 m1 m2 m3 : Nat) : CH m0 m1 m2 m3 1 2 2 0 = GO m0 m1 m2 m3 1 2 2 0 := by kernel_rfl
theorem c1221 (m0 m1 m2 m3 : Nat) : CH m0 m1 m2 m3 1 2 2 1 = GO m0 m1 m2 m3 1 2 2 1 := by kernel_rfl
theorem c1222 (m0 m1 m2 m3 : Nat) : CH m0 m1 m2 m3 1 2 2 2 = GO m0 m1 m2 m3 1 2 2 2 := by kernel_rfl
theorem d12 (m0 m1 m2 m3 : Nat) : ∀ j2 j3, j2 < 3 → j3 < 3 → CH m0 m1 m2 m3 1 2 j2 j3 = GO m0 m1 m2 m3 1 2 j2 j3
  | 0, 0, _, _ => c1200 m0 m1 m2 m3
  | 0, 1, _, _ => c1201 m0 m1 m2 m3
  | 0, 2, _, _ => c1202 m0 m1 m2 m3
  | 1, 0, _, _ => c1210 m0 m1 m2 m3
  | 1, 1, _, _ => c1211 m0 m1 m2 m3
  | 1, 2, _, _ => c1212 m0 m1 m2 m3
  | 2, 0, _, _ => c1220 m0 m1 m2 m3
  | 2, 1, _, _ => c1221 m0 m1 m2 m3
  | 2, 2, _, _ => c1222 m0 m1 m2 m3
  | _ + 3, _, h, _ => absurd h (by omega)
  | _, _ + 3, _, h => absurd h (by omega)
theorem c1300 (m0 m1 m2 m3 : Nat) : CH m0 m1 m2 m3 1 3 0 0 = GO m0 m1 m2 m3 1 3 0 0 := by kernel_rfl
theorem c1301 (m0 m1 m2 m3 : Nat) : CH m0 m1 m2 m3 1 3 0 1 = GO m0 m1 m2 m3 1 3 0 1 := by kernel_rfl
theorem c1302 (m0 m1 m2 m3 : Nat) : CH m0 m1 m2 m3 1 3 0 2 = GO m0 m1 m2 m3 1 3 0 2 := by kernel_rfl
theorem c1310 (m0 m1 m2 m3 : Nat) : CH m0 m1 m2 m3 1 3 1 0 = GO m0 m1 m2 m3 1 3 1 0 := by kernel_rfl
theorem c1311 (m0 m1 m2 m3 : Nat) : CH m0 m1 m2 m3 1 3 1 1 = GO m0 m1 m2 m3 1 3 1 1 := by kernel_rfl
theorem c1312 (m0 m1 m2 m3 : Nat) : CH m0 m1 m2 m3 1 3 1 2 = GO m0 m1 m2 m3 1 3 1 2 := by kernel_rfl
theorem c1320 (m0 m1 m2 m3 : Nat) : CH m0 m1 m2 m3 1 3 2 0 = GO m0 m1 m2 m3 1 3 2 0 := by kernel_rfl
theorem c1321 (m0 m1 m2 m3 : Nat) : CH m0 m1 m2 m3 1 3 2 1 = GO m0 m1 m2 m3 1 3 2 1 := by kernel_rfl
theorem c1322 (m0 m1 m2 m3 : Nat) : CH m0 m1 m2 m3 1 3 2 2 = GO m0 m1 m2 m3 1 3 2 2 := by kernel_rfl
theorem d13 (m0 m1 m2 m3 : Nat) : ∀ j2 j3, j2 < 3 → j3 < 3 → CH m0 m1 m2 m3 1 3 j2 j3 = GO m0 m1 m2 m3 1 3 j2 j3
  | 0, 0, _, _ => c1300 m0 m1 m2 m3
  | 0, 1, _, _ => c1301 m0 m1 m2 m3
  | 0, 2, _, _ => c1302 m0 m1 m2 m3
  | 1, 0, _, _ => c1310 m0 m1 m2 m3
  | 1, 1, _, _ => c1311 m0 m1 m2 m3
  | 1, 2, _, _ => c1312 m0 m1 m2 m3
  | 2, 0, _, _ => c1320 m0 m1 m2 m3
  | 2, 1, _, _ => c1321 m0 m1 m2 m3
  | 2, 2, _, _ => c1322 m0 m1 m2 m3
  | _ + 3, _, h, _ => absurd h (by omega)
  | _, _ + 3, _, h => absurd h (by omega)
theorem c1400 (m0 m1 m2 m3 : Nat) : CH m0 m1 m2 m3 1 4 0 0 = GO m0 m1 m2 m3 1 4 0 0 := by kernel_rfl
theorem c1401 (m0 m1 m2 m3 : Nat) : CH m0 m1 m2 m3 1 4 0 1 = GO m0 m1 m2 m3 1 4 0 1 := by kernel_rfl
theorem c1402 (m0 m1 m2 m3 : Nat) : CH m0 m1 m2 m3 1 4 0 2 = GO m0 m1 m2 m3 1 4 0 2 := by kernel_rfl
theorem c1410 (m0 m1 m2 m3 : Nat) : CH m0 m1 m2 m3 1 4 1 0 = GO m0 m1 m2 m3 1 4 1 0 := by kernel_rfl
theorem c1411 (m0 m1 m2 m3 : Nat) : CH m0 m1 m2 m3 1 4 1 1 = GO m0 m1 m2 m3 1 4 1 1 := by kernel_rfl
theorem c1412 (m0 m1 m2 m3 : Nat) : CH m0 m1 m2 m3 1 4 1 2 = GO m0 m1 m2 m3 1 4 1 2 := by kernel_rfl
theorem c1420 (m0 m1 m2 m3 : Nat) : CH m0 m1 m2 m3 1 4 2 0 = GO m0 m1 m2 m3 1 4 2 0 := by kernel_rfl
theorem c1421 (m0 m1 m2 m3 : Nat) : CH m0 m1 m2 m3 1 4 2 1 = GO m0 m1 m2 m3 1 4 2 1 := by kernel_rfl
theorem c1422 (m0 m1 m2 m3 : Nat) : CH m0 m1 m2 m3 1 4 2 2 = GO m0 m1 m2 m3 1 4 2 2 := by kernel_rfl
theorem d14 (m0 m1 m2 m3 : Nat) : ∀ j2 j3, j2 < 3 → j3 < 3 → CH m0 m1 m2 m3 1 4 j2 j3 = GO m0 m1 m2 m3 1 4 j2 j3
  | 0, 0, _, _ => c1400 m0 m1 m2 m3
  | 0, 1, _, _ => c1401 m0 m1 m2 m3
  | 0, 2, _, _ => c1402 m0 m1 m2 m3
  | 1, 0, _, _ => c1410 m0 m1 m2 m3
  | 1, 1, _, _ => c1411 m0 m1 m2 m3
  | 1, 2, _, _ => c1412 m0 m1 m2 m3
  | 2, 0, _, _ => c1420 m0 m1 m2 m3
  | 2, 1, _, _ => c1421 m0 m1 m2 m3
  | 2, 2, _, _ => c1422 m0 m1 m2 m3
  | _ + 3, _, h, _ => absurd h (by omega)
  | _, _ + 3, _, h => absurd h (by omega)
end Go.Proofs.YtohijnjnlfdnpaaGreat
