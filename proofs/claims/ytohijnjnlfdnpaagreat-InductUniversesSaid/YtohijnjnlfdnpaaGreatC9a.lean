/- The runs at the first number's remainder 9. -/
import Derived.KernelRfl
import Derived.Test.YtohijnjnlfdnpaaGreatTt
namespace Go.Proofs.YtohijnjnlfdnpaaGreat
open Go Go.Ev Go.Ev.K
theorem c9000 (m0 m1 m2 m3 : Nat) : CH m0 m1 m2 m3 9 0 0 0 = GO m0 m1 m2 m3 9 0 0 0 := by kernel_rfl
theorem c9001 (m0 m1 m2 m3 : Nat) : CH m0 m1 m2 m3 9 0 0 1 = GO m0 m1 m2 m3 9 0 0 1 := by kernel_rfl
theorem c9002 (m0 m1 m2 m3 : Nat) : CH m0 m1 m2 m3 9 0 0 2 = GO m0 m1 m2 m3 9 0 0 2 := by kernel_rfl
theorem c9010 (m0 m1 m2 m3 : Nat) : CH m0 m1 m2 m3 9 0 1 0 = GO m0 m1 m2 m3 9 0 1 0 := by kernel_rfl
theorem c9011 (m0 m1 m2 m3 : Nat) : CH m0 m1 m2 m3 9 0 1 1 = GO m0 m1 m2 m3 9 0 1 1 := by kernel_rfl
theorem c9012 (m0 m1 m2 m3 : Nat) : CH m0 m1 m2 m3 9 0 1 2 = GO m0 m1 m2 m3 9 0 1 2 := by kernel_rfl
theorem c9020 (m0 m1 m2 m3 : Nat) : CH m0 m1 m2 m3 9 0 2 0 = GO m0 m1 m2 m3 9 0 2 0 := by kernel_rfl
theorem c9021 (m0 m1 m2 m3 : Nat) : CH m0 m1 m2 m3 9 0 2 1 = GO m0 m1 m2 m3 9 0 2 1 := by kernel_rfl
theorem c9022 (m0 m1 m2 m3 : Nat) : CH m0 m1 m2 m3 9 0 2 2 = GO m0 m1 m2 m3 9 0 2 2 := by kernel_rfl
theorem d90 (m0 m1 m2 m3 : Nat) : ∀ j2 j3, j2 < 3 → j3 < 3 → CH m0 m1 m2 m3 9 0 j2 j3 = GO m0 m1 m2 m3 9 0 j2 j3
  | 0, 0, _, _ => c9000 m0 m1 m2 m3
  | 0, 1, _, _ => c9001 m0 m1 m2 m3
  | 0, 2, _, _ => c9002 m0 m1 m2 m3
  | 1, 0, _, _ => c9010 m0 m1 m2 m3
  | 1, 1, _, _ => c9011 m0 m1 m2 m3
  | 1, 2, _, _ => c9012 m0 m1 m2 m3
  | 2, 0, _, _ => c9020 m0 m1 m2 m3
  | 2, 1, _, _ => c9021 m0 m1 m2 m3
  | 2, 2, _, _ => c9022 m0 m1 m2 m3
  | _ + 3, _, h, _ => absurd h (by omega)
  | _, _ + 3, _, h => absurd h (by omega)
theorem c9100 (m0 m1 m2 m3 : Nat) : CH m0 m1 m2 m3 9 1 0 0 = GO m0 m1 m2 m3 9 1 0 0 := by kernel_rfl
theorem c9101 (m0 m1 m2 m3 : Nat) : CH m0 m1 m2 m3 9 1 0 1 = GO m0 m1 m2 m3 9 1 0 1 := by kernel_rfl
theorem c9102 (m0 m1 m2 m3 : Nat) : CH m0 m1 m2 m3 9 1 0 2 = GO m0 m1 m2 m3 9 1 0 2 := by kernel_rfl
theorem c9110 (m0 m1 m2 m3 : Nat) : CH m0 m1 m2 m3 9 1 1 0 = GO m0 m1 m2 m3 9 1 1 0 := by kernel_rfl
theorem c9111 (m0 m1 m2 m3 : Nat) : CH m0 m1 m2 m3 9 1 1 1 = GO m0 m1 m2 m3 9 1 1 1 := by kernel_rfl
theorem c9112 (m0 m1 m2 m3 : Nat) : CH m0 m1 m2 m3 9 1 1 2 = GO m0 m1 m2 m3 9 1 1 2 := by kernel_rfl
theorem c9120 (m0 m1 m2 m3 : Nat) : CH m0 m1 m2 m3 9 1 2 0 = GO m0 m1 m2 m3 9 1 2 0 := by kernel_rfl
theorem c9121 (m0 m1 m2 m3 : Nat) : CH m0 m1 m2 m3 9 1 2 1 = GO m0 m1 m2 m3 9 1 2 1 := by kernel_rfl
theorem c9122 (m0 m1 m2 m3 : Nat) : CH m0 m1 m2 m3 9 1 2 2 = GO m0 m1 m2 m3 9 1 2 2 := by kernel_rfl
theorem d91 (m0 m1 m2 m3 : Nat) : ∀ j2 j3, j2 < 3 → j3 < 3 → CH m0 m1 m2 m3 9 1 j2 j3 = GO m0 m1 m2 m3 9 1 j2 j3
  | 0, 0, _, _ => c9100 m0 m1 m2 m3
  | 0, 1, _, _ => c9101 m0 m1 m2 m3
  | 0, 2, _, _ => c9102 m0 m1 m2 m3
  | 1, 0, _, _ => c9110 m0 m1 m2 m3
  | 1, 1, _, _ => c9111 m0 m1 m2 m3
  | 1, 2, _, _ => c9112 m0 m1 m2 m3
  | 2, 0, _, _ => c9120 m0 m1 m2 m3
  | 2, 1, _, _ => c9121 m0 m1 m2 m3
  | 2, 2, _, _ => c9122 m0 m1 m2 m3
  | _ + 3, _, h, _ => absurd h (by omega)
  | _, _ + 3, _, h => absurd h (by omega)
theorem c9200 (m0 m1 m2 m3 : Nat) : CH m0 m1 m2 m3 9 2 0 0 = GO m0 m1 m2 m3 9 2 0 0 := by kernel_rfl
theorem c9201 (m0 m1 m2 m3 : Nat) : CH m0 m1 m2 m3 9 2 0 1 = GO m0 m1 m2 m3 9 2 0 1 := by kernel_rfl
theorem c9202 (m0 m1 m2 m3 : Nat) : CH m0 m1 m2 m3 9 2 0 2 = GO m0 m1 m2 m3 9 2 0 2 := by kernel_rfl
theorem c9210 (m0 m1 m2 m3 : Nat) : CH m0 m1 m2 m3 9 2 1 0 = GO m0 m1 m2 m3 9 2 1 0 := by kernel_rfl
theorem c9211 (m0 m1 m2 m3 : Nat) : CH m0 m1 m2 m3 9 2 1 1 = GO m0 m1 m2 m3 9 2 1 1 := by kernel_rfl
theorem c9212 (m0 m1 m2 m3 : Nat) : CH m0 m1 m2 m3 9 2 1 2 = GO m0 m1 m2 m3 9 2 1 2 := by kernel_rfl
theorem c9220 (m0 m1 m2 m3 : Nat) : CH m0 m1 m2 m3 9 2 2 0 = GO m0 m1 m2 m3 9 2 2 0 := by kernel_rfl
theorem c9221 (m0 m1 m2 m3 : Nat) : CH m0 m1 m2 m3 9 2 2 1 = GO m0 m1 m2 m3 9 2 2 1 := by kernel_rfl
theorem c9222 (m0 m1 m2 m3 : Nat) : CH m0 m1 m2 m3 9 2 2 2 = GO m0 m1 m2 m3 9 2 2 2 := by kernel_rfl
theorem d92 (m0 m1 m2 m3 : Nat) : ∀ j2 j3, j2 < 3 → j3 < 3 → CH m0 m1 m2 m3 9 2 j2 j3 = GO m0 m1 m2 m3 9 2 j2 j3
  | 0, 0, _, _ => c9200 m0 m1 m2 m3
  | 0, 1, _, _ => c9201 m0 m1 m2 m3
  | 0, 2, _, _ => c9202 m0 m1 m2 m3
  | 1, 0, _, _ => c9210 m0 m1 m2 m3
  | 1, 1, _, _ => c9211 m0 m1 m2 m3
  | 1, 2, _, _ => c9212 m0 m1 m2 m3
  | 2, 0, _, _ => c9220 m0 m1 m2 m3
  | 2, 1, _, _ => c9221 m0 m1 m2 m3
  | 2, 2, _, _ => c9222 m0 m1 m2 m3
  | _ + 3, _, h, _ => absurd h (by omega)
  | _, _ + 3, _, h => absurd h (by omega)
theorem c9300 (m0 m1 m2 m3 : Nat) : CH m0 m1 m2 m3 9 3 0 0 = GO m0 m1 m2 m3 9 3 0 0 := by kernel_rfl
theorem c9301 (m0 m1 m2 m3 : Nat) : CH m0 m1 m2 m3 9 3 0 1 = GO m0 m1 m2 m3 9 3 0 1 := by kernel_rfl
theorem c9302 (m0 m1 m2 m3 : Nat) : CH m0 m1 m2 m3 9 3 0 2 = GO m0 m1 m2 m3 9 3 0 2 := by kernel_rfl
theorem c9310 (m0 m1 m2 m3 : Nat) : CH m0 m1 m2 m3 9 3 1 0 = GO m0 m1 m2 m3 9 3 1 0 := by kernel_rfl
theorem c9311 (m0 m1 m2 m3 : Nat) : CH m0 m1 m2 m3 9 3 1 1 = GO m0 m1 m2 m3 9 3 1 1 := by kernel_rfl
theorem c9312 (m0 m1 m2 m3 : Nat) : CH m0 m1 m2 m3 9 3 1 2 = GO m0 m1 m2 m3 9 3 1 2 := by kernel_rfl
theorem c9320 (m0 m1 m2 m3 : Nat) : CH m0 m1 m2 m3 9 3 2 0 = GO m0 m1 m2 m3 9 3 2 0 := by kernel_rfl
theorem c9321 (m0 m1 m2 m3 : Nat) : CH m0 m1 m2 m3 9 3 2 1 = GO m0 m1 m2 m3 9 3 2 1 := by kernel_rfl
theorem c9322 (m0 m1 m2 m3 : Nat) : CH m0 m1 m2 m3 9 3 2 2 = GO m0 m1 m2 m3 9 3 2 2 := by kernel_rfl
theorem d93 (m0 m1 m2 m3 : Nat) : ∀ j2 j3, j2 < 3 → j3 < 3 → CH m0 m1 m2 m3 9 3 j2 j3 = GO m0 m1 m2 m3 9 3 j2 j3
  | 0, 0, _, _ => c9300 m0 m1 m2 m3
  | 0, 1, _, _ => c9301 m0 m1 m2 m3
  | 0, 2, _, _ => c9302 m0 m1 m2 m3
  | 1, 0, _, _ => c9310 m0 m1 m2 m3
  | 1, 1, _, _ => c9311 m0 m1 m2 m3
  | 1, 2, _, _ => c9312 m0 m1 m2 m3
  | 2, 0, _, _ => c9320 m0 m1 m2 m3
  | 2, 1, _, _ => c9321 m0 m1 m2 m3
  | 2, 2, _, _ => c9322 m0 m1 m2 m3
  | _ + 3, _, h, _ => absurd h (by omega)
  | _, _ + 3, _, h => absurd h (by omega)
theorem c9400 (m0 m1 m2 m3 : Nat) : CH m0 m1 m2 m3 9 4 0 0 = GO m0 m1 m2 m3 9 4 0 0 := by kernel_rfl
theorem c9401 (m0 m1 m2 m3 : Nat) : CH m0 m1 m2 m3 9 4 0 1 = GO m0 m1 m2 m3 9 4 0 1 := by kernel_rfl
theorem c9402 (m0 m1 m2 m3 : Nat) : CH m0 m1 m2 m3 9 4 0 2 = GO m0 m1 m2 m3 9 4 0 2 := by kernel_rfl
theorem c9410 (m0 m1 m2 m3 : Nat) : CH m0 m1 m2 m3 9 4 1 0 = GO m0 m1 m2 m3 9 4 1 0 := by kernel_rfl
theorem c9411 (m0 m1 m2 m3 : Nat) : CH m0 m1 m2 m3 9 4 1 1 = GO m0 m1 m2 m3 9 4 1 1 := by kernel_rfl
theorem c9412 (m0 m1 m2 m3 : Nat) : CH m0 m1 m2 m3 9 4 1 2 = GO m0 m1 m2 m3 9 4 1 2 := by kernel_rfl
theorem c9420 (m0 m1 m2 m3 : Nat) : CH m0 m1 m2 m3 9 4 2 0 = GO m0 m1 m2 m3 9 4 2 0 := by kernel_rfl
theorem c9421 (m0 m1 m2 m3 : Nat) : CH m0 m1 m2 m3 9 4 2 1 = GO m0 m1 m2 m3 9 4 2 1 := by kernel_rfl
theorem c9422 (m0 m1 m2 m3 : Nat) : CH m0 m1 m2 m3 9 4 2 2 = GO m0 m1 m2 m3 9 4 2 2 := by kernel_rfl
theorem d94 (m0 m1 m2 m3 : Nat) : ∀ j2 j3, j2 < 3 → j3 < 3 → CH m0 m1 m2 m3 9 4 j2 j3 = GO m0 m1 m2 m3 9 4 j2 j3
  | 0, 0, _, _ => c9400 m0 m1 m2 m3
  | 0, 1, _, _ => c9401 m0 m1 m2 m3
  | 0, 2, _, _ => c9402 m0 m1 m2 m3
  | 1, 0, _, _ => c9410 m0 m1 m2 m3
  | 1, 1, _, _ => c9411 m0 m1 m2 m3
  | 1, 2, _, _ => c9412 m0 m1 m2 m3
  | 2, 0, _, _ => c9420 m0 m1 m2 m3
  | 2, 1, _, _ => c9421 m0 m1 m2 m3
  | 2, 2, _, _ => c9422 m0 m1 m2 m3
  | _ + 3, _, h, _ => absurd h (by omega)
  | _, _ + 3, _, h => absurd h (by omega)
end Go.Proofs.YtohijnjnlfdnpaaGreat
