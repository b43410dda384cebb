/- The runs at the first number's remainder 2. -/
import Derived.KernelRfl
import Derived.Test.YtohijnjnlfdnpaaGreatTt
namespace Go.Proofs.YtohijnjnlfdnpaaGreat
open Go Go.Ev Go.Ev.K
theorem c2000 (m0 m1 m2 m3 : Nat) : CH m0 m1 m2 m3 2 0 0 0 = GO m0 m1 m2 m3 2 0 0 0 := by kernel_rfl
theorem c2001 (m0 m1 m2 m3 : Nat) : CH m0 m1 m2 m3 2 0 0 1 = GO m0 m1 m2 m3 2 0 0 1 := by kernel_rfl
theorem c2002 (m0 m1 m2 m3 : Nat) : CH m0 m1 m2 m3 2 0 0 2 = GO m0 m1 m2 m3 2 0 0 2 := by kernel_rfl
theorem c2010 (m0 m1 m2 m3 : Nat) : CH m0 m1 m2 m3 2 0 1 0 = GO m0 m1 m2 m3 2 0 1 0 := by kernel_rfl
theorem c2011 (m0 m1 m2 m3 : Nat) : CH m0 m1 m2 m3 2 0 1 1 = GO m0 m1 m2 m3 2 0 1 1 := by kernel_rfl
theorem c2012 (m0 m1 m2 m3 : Nat) : CH m0 m1 m2 m3 2 0 1 2 = GO m0 m1 m2 m3 2 0 1 2 := by kernel_rfl
theorem c2020 (m0 m1 m2 m3 : Nat) : CH m0 m1 m2 m3 2 0 2 0 = GO m0 m1 m2 m3 2 0 2 0 := by kernel_rfl
theorem c2021 (m0 m1 m2 m3 : Nat) : CH m0 m1 m2 m3 2 0 2 1 = GO m0 m1 m2 m3 2 0 2 1 := by kernel_rfl
theorem c2022 (m0 m1 m2 m3 : Nat) : CH m0 m1 m2 m3 2 0 2 2 = GO m0 m1 m2 m3 2 0 2 2 := by kernel_rfl
theorem d20 (m0 m1 m2 m3 : Nat) : ∀ j2 j3, j2 < 3 → j3 < 3 → CH m0 m1 m2 m3 2 0 j2 j3 = GO m0 m1 m2 m3 2 0 j2 j3
  | 0, 0, _, _ => c2000 m0 m1 m2 m3
  | 0, 1, _, _ => c2001 m0 m1 m2 m3
  | 0, 2, _, _ => c2002 m0 m1 m2 m3
  | 1, 0, _, _ => c2010 m0 m1 m2 m3
  | 1, 1, _, _ => c2011 m0 m1 m2 m3
  | 1, 2, _, _ => c2012 m0 m1 m2 m3
  | 2, 0, _, _ => c2020 m0 m1 m2 m3
  | 2, 1, _, _ => c2021 m0 m1 m2 m3
  | 2, 2, _, _ => c2022 m0 m1 m2 m3
  | _ + 3, _, h, _ => absurd h (by omega)
  | _, _ + 3, _, h => absurd h (by omega)
theorem c2100 (m0 m1 m2 m3 : Nat) : CH m0 m1 m2 m3 2 1 0 0 = GO m0 m1 m2 m3 2 1 0 0 := by kernel_rfl
theorem c2101 (m0 m1 m2 m3 : Nat) : CH m0 m1 m2 m3 2 1 0 1 = GO m0 m1 m2 m3 2 1 0 1 := by kernel_rfl
theorem c2102 (m0 m1 m2 m3 : Nat) : CH m0 m1 m2 m3 2 1 0 2 = GO m0 m1 m2 m3 2 1 0 2 := by kernel_rfl
theorem c2110 (m0 m1 m2 m3 : Nat) : CH m0 m1 m2 m3 2 1 1 0 = GO m0 m1 m2 m3 2 1 1 0 := by kernel_rfl
theorem c2111 (m0 m1 m2 m3 : Nat) : CH m0 m1 m2 m3 2 1 1 1 = GO m0 m1 m2 m3 2 1 1 1 := by kernel_rfl
theorem c2112 (m0 m1 m2 m3 : Nat) : CH m0 m1 m2 m3 2 1 1 2 = GO m0 m1 m2 m3 2 1 1 2 := by kernel_rfl
theorem c2120 (m0 m1 m2 m3 : Nat) : CH m0 m1 m2 m3 2 1 2 0 = GO m0 m1 m2 m3 2 1 2 0 := by kernel_rfl
theorem c2121 (m0 m1 m2 m3 : Nat) : CH m0 m1 m2 m3 2 1 2 1 = GO m0 m1 m2 m3 2 1 2 1 := by kernel_rfl
theorem c2122 (m0 m1 m2 m3 : Nat) : CH m0 m1 m2 m3 2 1 2 2 = GO m0 m1 m2 m3 2 1 2 2 := by kernel_rfl
theorem d21 (m0 m1 m2 m3 : Nat) : ∀ j2 j3, j2 < 3 → j3 < 3 → CH m0 m1 m2 m3 2 1 j2 j3 = GO m0 m1 m2 m3 2 1 j2 j3
  | 0, 0, _, _ => c2100 m0 m1 m2 m3
  | 0, 1, _, _ => c2101 m0 m1 m2 m3
  | 0, 2, _, _ => c2102 m0 m1 m2 m3
  | 1, 0, _, _ => c2110 m0 m1 m2 m3
  | 1, 1, _, _ => c2111 m0 m1 m2 m3
  | 1, 2, _, _ => c2112 m0 m1 m2 m3
  | 2, 0, _, _ => c2120 m0 m1 m2 m3
  | 2, 1, _, _ => c2121 m0 m1 m2 m3
  | 2, 2, _, _ => c2122 m0 m1 m2 m3
  | _ + 3, _, h, _ => absurd h (by omega)
  | _, _ + 3, _, h => absurd h (by omega)
theorem c2200 (m0 m1 m2 m3 : Nat) : CH m0 m1 m2 m3 2 2 0 0 = GO m0 m1 m2 m3 2 2 0 0 := by kernel_rfl
theorem c2201 (m0 m1 m2 m3 : Nat) : CH m0 m1 m2 m3 2 2 0 1 = GO m0 m1 m2 m3 2 2 0 1 := by kernel_rfl
theorem c2202 (m0 m1 m2 m3 : Nat) : CH m0 m1 m2 m3 2 2 0 2 = GO m0 m1 m2 m3 2 2 0 2 := by kernel_rfl
theorem c2210 (m0 m1 m2 m3 : Nat) : CH m0 m1 m2 m3 2 2 1 0 = GO m0 m1 m2 m3 2 2 1 0 := by kernel_rfl
theorem c2211 (m0 m1 m2 m3 : Nat) : CH m0 m1 m2 m3 2 2 1 1 = GO m0 m1 m2 m3 2 2 1 1 := by kernel_rfl
theorem c2212 (m0 m1 m2 m3 : Nat) : CH m0 m1 m2 m3 2 2 1 2 = GO m0 m1 m2 m3 2 2 1 2 := by kernel_rfl
theorem c2220 (m0 m1 m2 m3 : Nat) : CH m0 m1 m2 m3 2 2 2 0 = GO m0 m1 m2 m3 2 2 2 0 := by kernel_rfl
theorem c2221 (m0 m1 m2 m3 : Nat) : CH m0 m1 m2 m3 2 2 2 1 = GO m0 m1 m2 m3 2 2 2 1 := by kernel_rfl
theorem c2222 (m0 m1 m2 m3 : Nat) : CH m0 m1 m2 m3 2 2 2 2 = GO m0 m1 m2 m3 2 2 2 2 := by kernel_rfl
theorem d22 (m0 m1 m2 m3 : Nat) : ∀ j2 j3, j2 < 3 → j3 < 3 → CH m0 m1 m2 m3 2 2 j2 j3 = GO m0 m1 m2 m3 2 2 j2 j3
  | 0, 0, _, _ => c2200 m0 m1 m2 m3
  | 0, 1, _, _ => c2201 m0 m1 m2 m3
  | 0, 2, _, _ => c2202 m0 m1 m2 m3
  | 1, 0, _, _ => c2210 m0 m1 m2 m3
  | 1, 1, _, _ => c2211 m0 m1 m2 m3
  | 1, 2, _, _ => c2212 m0 m1 m2 m3
  | 2, 0, _, _ => c2220 m0 m1 m2 m3
  | 2, 1, _, _ => c2221 m0 m1 m2 m3
  | 2, 2, _, _ => c2222 m0 m1 m2 m3
  | _ + 3, _, h, _ => absurd h (by omega)
  | _, _ + 3, _, h => absurd h (by omega)
theorem c2300 (m0 m1 m2 m3 : Nat) : CH m0 m1 m2 m3 2 3 0 0 = GO m0 m1 m2 m3 2 3 0 0 := by kernel_rfl
theorem c2301 (m0 m1 m2 m3 : Nat) : CH m0 m1 m2 m3 2 3 0 1 = GO m0 m1 m2 m3 2 3 0 1 := by kernel_rfl
theorem c2302 (m0 m1 m2 m3 : Nat) : CH m0 m1 m2 m3 2 3 0 2 = GO m0 m1 m2 m3 2 3 0 2 := by kernel_rfl
theorem c2310 (m0 m1 m2 m3 : Nat) : CH m0 m1 m2 m3 2 3 1 0 = GO m0 m1 m2 m3 2 3 1 0 := by kernel_rfl
theorem c2311 (m0 m1 m2 m3 : Nat) : CH m0 m1 m2 m3 2 3 1 1 = GO m0 m1 m2 m3 2 3 1 1 := by kernel_rfl
theorem c2312 (m0 m1 m2 m3 : Nat) : CH m0 m1 m2 m3 2 3 1 2 = GO m0 m1 m2 m3 2 3 1 2 := by kernel_rfl
theorem c2320 (m0 m1 m2 m3 : Nat) : CH m0 m1 m2 m3 2 3 2 0 = GO m0 m1 m2 m3 2 3 2 0 := by kernel_rfl
theorem c2321 (m0 m1 m2 m3 : Nat) : CH m0 m1 m2 m3 2 3 2 1 = GO m0 m1 m2 m3 2 3 2 1 := by kernel_rfl
theorem c2322 (m0 m1 m2 m3 : Nat) : CH m0 m1 m2 m3 2 3 2 2 = GO m0 m1 m2 m3 2 3 2 2 := by kernel_rfl
theorem d23 (m0 m1 m2 m3 : Nat) : ∀ j2 j3, j2 < 3 → j3 < 3 → CH m0 m1 m2 m3 2 3 j2 j3 = GO m0 m1 m2 m3 2 3 j2 j3
  | 0, 0, _, _ => c2300 m0 m1 m2 m3
  | 0, 1, _, _ => c2301 m0 m1 m2 m3
  | 0, 2, _, _ => c2302 m0 m1 m2 m3
  | 1, 0, _, _ => c2310 m0 m1 m2 m3
  | 1, 1, _, _ => c2311 m0 m1 m2 m3
  | 1, 2, _, _ => c2312 m0 m1 m2 m3
  | 2, 0, _, _ => c2320 m0 m1 m2 m3
  | 2, 1, _, _ => c2321 m0 m1 m2 m3
  | 2, 2, _, _ => c2322 m0 m1 m2 m3
  | _ + 3, _, h, _ => absurd h (by omega)
  | _, _ + 3, _, h => absurd h (by omega)
theorem c2400 (m0 m1 m2 m3 : Nat) : CH m0 m1 m2 m3 2 4 0 0 = GO m0 m1 m2 m3 2 4 0 0 := by kernel_rfl
theorem c2401 (m0 m1 m2 m3 : Nat) : CH m0 m1 m2 m3 2 4 0 1 = GO m0 m1 m2 m3 2 4 0 1 := by kernel_rfl
theorem c2402 (m0 m1 m2 m3 : Nat) : CH m0 m1 m2 m3 2 4 0 2 = GO m0 m1 m2 m3 2 4 0 2 := by kernel_rfl
theorem c2410 (m0 m1 m2 m3 : Nat) : CH m0 m1 m2 m3 2 4 1 0 = GO m0 m1 m2 m3 2 4 1 0 := by kernel_rfl
theorem c2411 (m0 m1 m2 m3 : Nat) : CH m0 m1 m2 m3 2 4 1 1 = GO m0 m1 m2 m3 2 4 1 1 := by kernel_rfl
theorem c2412 (m0 m1 m2 m3 : Nat) : CH m0 m1 m2 m3 2 4 1 2 = GO m0 m1 m2 m3 2 4 1 2 := by kernel_rfl
theorem c2420 (m0 m1 m2 m3 : Nat) : CH m0 m1 m2 m3 2 4 2 0 = GO m0 m1 m2 m3 2 4 2 0 := by kernel_rfl
theorem c2421 (m0 m1 m2 m3 : Nat) : CH m0 m1 m2 m3 2 4 2 1 = GO m0 m1 m2 m3 2 4 2 1 := by kernel_rfl
theorem c2422 (m0 m1 m2 m3 : Nat) : CH m0 m1 m2 m3 2 4 2 2 = GO m0 m1 m2 m3 2 4 2 2 := by kernel_rfl
theorem d24 (m0 m1 m2 m3 : Nat) : ∀ j2 j3, j2 < 3 → j3 < 3 → CH m0 m1 m2 m3 2 4 j2 j3 = GO m0 m1 m2 m3 2 4 j2 j3
  | 0, 0, _, _ => c2400 m0 m1 m2 m3
  | 0, 1, _, _ => c2401 m0 m1 m2 m3
  | 0, 2, _, _ => c2402 m0 m1 m2 m3
  | 1, 0, _, _ => c2410 m0 m1 m2 m3
  | 1, 1, _, _ => c2411 m0 m1 m2 m3
  | 1, 2, _, _ => c2412 m0 m1 m2 m3
  | 2, 0, _, _ => c2420 m0 m1 m2 m3
  | 2, 1, _, _ => c2421 m0 m1 m2 m3
  | 2, 2, _, _ => c2422 m0 m1 m2 m3
  | _ + 3, _, h, _ => absurd h (by omega)
  | _, _ + 3, _, h => absurd h (by omega)
end Go.Proofs.YtohijnjnlfdnpaaGreat
