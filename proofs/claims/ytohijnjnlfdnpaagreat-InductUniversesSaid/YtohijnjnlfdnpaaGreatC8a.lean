/- The runs at the first number's remainder 8. -/
import Derived.KernelRfl
import Derived.Test.YtohijnjnlfdnpaaGreatTt
namespace Go.Proofs.YtohijnjnlfdnpaaGreat
open Go Go.Ev Go.Ev.K
theorem c8000 (m0 m1 m2 m3 : Nat) : CH m0 m1 m2 m3 8 0 0 0 = GO m0 m1 m2 m3 8 0 0 0 := by kernel_rfl
theorem c8001 (m0 m1 m2 m3 : Nat) : CH m0 m1 m2 m3 8 0 0 1 = GO m0 m1 m2 m3 8 0 0 1 := by kernel_rfl
theorem c8002 (m0 m1 m2 m3 : Nat) : CH m0 m1 m2 m3 8 0 0 2 = GO m0 m1 m2 m3 8 0 0 2 := by kernel_rfl
theorem c8010 (m0 m1 m2 m3 : Nat) : CH m0 m1 m2 m3 8 0 1 0 = GO m0 m1 m2 m3 8 0 1 0 := by kernel_rfl
theorem c8011 (m0 m1 m2 m3 : Nat) : CH m0 m1 m2 m3 8 0 1 1 = GO m0 m1 m2 m3 8 0 1 1 := by kernel_rfl
theorem c8012 (m0 m1 m2 m3 : Nat) : CH m0 m1 m2 m3 8 0 1 2 = GO m0 m1 m2 m3 8 0 1 2 := by kernel_rfl
theorem c8020 (m0 m1 m2 m3 : Nat) : CH m0 m1 m2 m3 8 0 2 0 = GO m0 m1 m2 m3 8 0 2 0 := by kernel_rfl
theorem c8021 (m0 m1 m2 m3 : Nat) : CH m0 m1 m2 m3 8 0 2 1 = GO m0 m1 m2 m3 8 0 2 1 := by kernel_rfl
theorem c8022 (m0 m1 m2 m3 : Nat) : CH m0 m1 m2 m3 8 0 2 2 = GO m0 m1 m2 m3 8 0 2 2 := by kernel_rfl
theorem d80 (m0 m1 m2 m3 : Nat) : ∀ j2 j3, j2 < 3 → j3 < 3 → CH m0 m1 m2 m3 8 0 j2 j3 = GO m0 m1 m2 m3 8 0 j2 j3
  | 0, 0, _, _ => c8000 m0 m1 m2 m3
  | 0, 1, _, _ => c8001 m0 m1 m2 m3
  | 0, 2, _, _ => c8002 m0 m1 m2 m3
  | 1, 0, _, _ => c8010 m0 m1 m2 m3
  | 1, 1, _, _ => c8011 m0 m1 m2 m3
  | 1, 2, _, _ => c8012 m0 m1 m2 m3
  | 2, 0, _, _ => c8020 m0 m1 m2 m3
  | 2, 1, _, _ => c8021 m0 m1 m2 m3
  | 2, 2, _, _ => c8022 m0 m1 m2 m3
  | _ + 3, _, h, _ => absurd h (by omega)
  | _, _ + 3, _, h => absurd h (by omega)
theorem c8100 (m0 m1 m2 m3 : Nat) : CH m0 m1 m2 m3 8 1 0 0 = GO m0 m1 m2 m3 8 1 0 0 := by kernel_rfl
theorem c8101 (m0 m1 m2 m3 : Nat) : CH m0 m1 m2 m3 8 1 0 1 = GO m0 m1 m2 m3 8 1 0 1 := by kernel_rfl
theorem c8102 (m0 m1 m2 m3 : Nat) : CH m0 m1 m2 m3 8 1 0 2 = GO m0 m1 m2 m3 8 1 0 2 := by kernel_rfl
theorem c8110 (m0 m1 m2 m3 : Nat) : CH m0 m1 m2 m3 8 1 1 0 = GO m0 m1 m2 m3 8 1 1 0 := by kernel_rfl
theorem c8111 (m0 m1 m2 m3 : Nat) : CH m0 m1 m2 m3 8 1 1 1 = GO m0 m1 m2 m3 8 1 1 1 := by kernel_rfl
theorem c8112 (m0 m1 m2 m3 : Nat) : CH m0 m1 m2 m3 8 1 1 2 = GO m0 m1 m2 m3 8 1 1 2 := by kernel_rfl
theorem c8120 (m0 m1 m2 m3 : Nat) : CH m0 m1 m2 m3 8 1 2 0 = GO m0 m1 m2 m3 8 1 2 0 := by kernel_rfl
theorem c8121 (m0 m1 m2 m3 : Nat) : CH m0 m1 m2 m3 8 1 2 1 = GO m0 m1 m2 m3 8 1 2 1 := by kernel_rfl
theorem c8122 (m0 m1 m2 m3 : Nat) : CH m0 m1 m2 m3 8 1 2 2 = GO m0 m1 m2 m3 8 1 2 2 := by kernel_rfl
theorem d81 (m0 m1 m2 m3 : Nat) : ∀ j2 j3, j2 < 3 → j3 < 3 → CH m0 m1 m2 m3 8 1 j2 j3 = GO m0 m1 m2 m3 8 1 j2 j3
  | 0, 0, _, _ => c8100 m0 m1 m2 m3
  | 0, 1, _, _ => c8101 m0 m1 m2 m3
  | 0, 2, _, _ => c8102 m0 m1 m2 m3
  | 1, 0, _, _ => c8110 m0 m1 m2 m3
  | 1, 1, _, _ => c8111 m0 m1 m2 m3
  | 1, 2, _, _ => c8112 m0 m1 m2 m3
  | 2, 0, _, _ => c8120 m0 m1 m2 m3
  | 2, 1, _, _ => c8121 m0 m1 m2 m3
  | 2, 2, _, _ => c8122 m0 m1 m2 m3
  | _ + 3, _, h, _ => absurd h (by omega)
  | _, _ + 3, _, h => absurd h (by omega)
theorem c8200 (m0 m1 m2 m3 : Nat) : CH m0 m1 m2 m3 8 2 0 0 = GO m0 m1 m2 m3 8 2 0 0 := by kernel_rfl
theorem c8201 (m0 m1 m2 m3 : Nat) : CH m0 m1 m2 m3 8 2 0 1 = GO m0 m1 m2 m3 8 2 0 1 := by kernel_rfl
theorem c8202 (m0 m1 m2 m3 : Nat) : CH m0 m1 m2 m3 8 2 0 2 = GO m0 m1 m2 m3 8 2 0 2 := by kernel_rfl
theorem c8210 (m0 m1 m2 m3 : Nat) : CH m0 m1 m2 m3 8 2 1 0 = GO m0 m1 m2 m3 8 2 1 0 := by kernel_rfl
theorem c8211 (m0 m1 m2 m3 : Nat) : CH m0 m1 m2 m3 8 2 1 1 = GO m0 m1 m2 m3 8 2 1 1 := by kernel_rfl
theorem c8212 (m0 m1 m2 m3 : Nat) : CH m0 m1 m2 m3 8 2 1 2 = GO m0 m1 m2 m3 8 2 1 2 := by kernel_rfl
theorem c8220 (m0 m1 m2 m3 : Nat) : CH m0 m1 m2 m3 8 2 2 0 = GO m0 m1 m2 m3 8 2 2 0 := by kernel_rfl
theorem c8221 (m0 m1 m2 m3 : Nat) : CH m0 m1 m2 m3 8 2 2 1 = GO m0 m1 m2 m3 8 2 2 1 := by kernel_rfl
theorem c8222 (m0 m1 m2 m3 : Nat) : CH m0 m1 m2 m3 8 2 2 2 = GO m0 m1 m2 m3 8 2 2 2 := by kernel_rfl
theorem d82 (m0 m1 m2 m3 : Nat) : ∀ j2 j3, j2 < 3 → j3 < 3 → CH m0 m1 m2 m3 8 2 j2 j3 = GO m0 m1 m2 m3 8 2 j2 j3
  | 0, 0, _, _ => c8200 m0 m1 m2 m3
  | 0, 1, _, _ => c8201 m0 m1 m2 m3
  | 0, 2, _, _ => c8202 m0 m1 m2 m3
  | 1, 0, _, _ => c8210 m0 m1 m2 m3
  | 1, 1, _, _ => c8211 m0 m1 m2 m3
  | 1, 2, _, _ => c8212 m0 m1 m2 m3
  | 2, 0, _, _ => c8220 m0 m1 m2 m3
  | 2, 1, _, _ => c8221 m0 m1 m2 m3
  | 2, 2, _, _ => c8222 m0 m1 m2 m3
  | _ + 3, _, h, _ => absurd h (by omega)
  | _, _ + 3, _, h => absurd h (by omega)
theorem c8300 (m0 m1 m2 m3 : Nat) : CH m0 m1 m2 m3 8 3 0 0 = GO m0 m1 m2 m3 8 3 0 0 := by kernel_rfl
theorem c8301 (m0 m1 m2 m3 : Nat) : CH m0 m1 m2 m3 8 3 0 1 = GO m0 m1 m2 m3 8 3 0 1 := by kernel_rfl
theorem c8302 (m0 m1 m2 m3 : Nat) : CH m0 m1 m2 m3 8 3 0 2 = GO m0 m1 m2 m3 8 3 0 2 := by kernel_rfl
theorem c8310 (m0 m1 m2 m3 : Nat) : CH m0 m1 m2 m3 8 3 1 0 = GO m0 m1 m2 m3 8 3 1 0 := by kernel_rfl
theorem c8311 (m0 m1 m2 m3 : Nat) : CH m0 m1 m2 m3 8 3 1 1 = GO m0 m1 m2 m3 8 3 1 1 := by kernel_rfl
theorem c8312 (m0 m1 m2 m3 : Nat) : CH m0 m1 m2 m3 8 3 1 2 = GO m0 m1 m2 m3 8 3 1 2 := by kernel_rfl
theorem c8320 (m0 m1 m2 m3 : Nat) : CH m0 m1 m2 m3 8 3 2 0 = GO m0 m1 m2 m3 8 3 2 0 := by kernel_rfl
theorem c8321 (m0 m1 m2 m3 : Nat) : CH m0 m1 m2 m3 8 3 2 1 = GO m0 m1 m2 m3 8 3 2 1 := by kernel_rfl
theorem c8322 (m0 m1 m2 m3 : Nat) : CH m0 m1 m2 m3 8 3 2 2 = GO m0 m1 m2 m3 8 3 2 2 := by kernel_rfl
theorem d83 (m0 m1 m2 m3 : Nat) : ∀ j2 j3, j2 < 3 → j3 < 3 → CH m0 m1 m2 m3 8 3 j2 j3 = GO m0 m1 m2 m3 8 3 j2 j3
  | 0, 0, _, _ => c8300 m0 m1 m2 m3
  | 0, 1, _, _ => c8301 m0 m1 m2 m3
  | 0, 2, _, _ => c8302 m0 m1 m2 m3
  | 1, 0, _, _ => c8310 m0 m1 m2 m3
  | 1, 1, _, _ => c8311 m0 m1 m2 m3
  | 1, 2, _, _ => c8312 m0 m1 m2 m3
  | 2, 0, _, _ => c8320 m0 m1 m2 m3
  | 2, 1, _, _ => c8321 m0 m1 m2 m3
  | 2, 2, _, _ => c8322 m0 m1 m2 m3
  | _ + 3, _, h, _ => absurd h (by omega)
  | _, _ + 3, _, h => absurd h (by omega)
theorem c8400 (m0 m1 m2 m3 : Nat) : CH m0 m1 m2 m3 8 4 0 0 = GO m0 m1 m2 m3 8 4 0 0 := by kernel_rfl
theorem c8401 (m0 m1 m2 m3 : Nat) : CH m0 m1 m2 m3 8 4 0 1 = GO m0 m1 m2 m3 8 4 0 1 := by kernel_rfl
theorem c8402 (m0 m1 m2 m3 : Nat) : CH m0 m1 m2 m3 8 4 0 2 = GO m0 m1 m2 m3 8 4 0 2 := by kernel_rfl
theorem c8410 (m0 m1 m2 m3 : Nat) : CH m0 m1 m2 m3 8 4 1 0 = GO m0 m1 m2 m3 8 4 1 0 := by kernel_rfl
theorem c8411 (m0 m1 m2 m3 : Nat) : CH m0 m1 m2 m3 8 4 1 1 = GO m0 m1 m2 m3 8 4 1 1 := by kernel_rfl
theorem c8412 (m0 m1 m2 m3 : Nat) : CH m0 m1 m2 m3 8 4 1 2 = GO m0 m1 m2 m3 8 4 1 2 := by kernel_rfl
theorem c8420 (m0 m1 m2 m3 : Nat) : CH m0 m1 m2 m3 8 4 2 0 = GO m0 m1 m2 m3 8 4 2 0 := by kernel_rfl
theorem c8421 (m0 m1 m2 m3 : Nat) : CH m0 m1 m2 m3 8 4 2 1 = GO m0 m1 m2 m3 8 4 2 1 := by kernel_rfl
theorem c8422 (m0 m1 m2 m3 : Nat) : CH m0 m1 m2 m3 8 4 2 2 = GO m0 m1 m2 m3 8 4 2 2 := by kernel_rfl
theorem d84 (m0 m1 m2 m3 : Nat) : ∀ j2 j3, j2 < 3 → j3 < 3 → CH m0 m1 m2 m3 8 4 j2 j3 = GO m0 m1 m2 m3 8 4 j2 j3
  | 0, 0, _, _ => c8400 m0 m1 m2 m3
  | 0, 1, _, _ => c8401 m0 m1 m2 m3
  | 0, 2, _, _ => c8402 m0 m1 m2 m3
  | 1, 0, _, _ => c8410 m0 m1 m2 m3
  | 1, 1, _, _ => c8411 m0 m1 m2 m3
  | 1, 2, _, _ => c8412 m0 m1 m2 m3
  | 2, 0, _, _ => c8420 m0 m1 m2 m3
  | 2, 1, _, _ => c8421 m0 m1 m2 m3
  | 2, 2, _, _ => c8422 m0 m1 m2 m3
  | _ + 3, _, h, _ => absurd h (by omega)
  | _, _ + 3, _, h => absurd h (by omega)
end Go.Proofs.YtohijnjnlfdnpaaGreat
