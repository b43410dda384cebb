/- The runs at the first number's remainder 0. -/
import Derived.KernelRfl
import Derived.Test.YtohijnjnlfdnpaaGreatTt
namespace Go.Proofs.YtohijnjnlfdnpaaGreat
open Go Go.Ev Go.Ev.K
theorem c0000 (m0 m1 m2 m3 : Nat) : CH m0 m1 m2 m3 0 0 0 0 = GO m0 m1 m2 m3 0 0 0 0 := by kernel_rfl
theorem c0001 (m0 m1 m2 m3 : Nat) : CH m0 m1 m2 m3 0 0 0 1 = GO m0 m1 m2 m3 0 0 0 1 := by kernel_rfl
theorem c0002 (m0 m1 m2 m3 : Nat) : CH m0 m1 m2 m3 0 0 0 2 = GO m0 m1 m2 m3 0 0 0 2 := by kernel_rfl
theorem c0010 (m0 m1 m2 m3 : Nat) : CH m0 m1 m2 m3 0 0 1 0 = GO m0 m1 m2 m3 0 0 1 0 := by kernel_rfl
theorem c0011 (m0 m1 m2 m3 : Nat) : CH m0 m1 m2 m3 0 0 1 1 = GO m0 m1 m2 m3 0 0 1 1 := by kernel_rfl
theorem c0012 (m0 m1 m2 m3 : Nat) : CH m0 m1 m2 m3 0 0 1 2 = GO m0 m1 m2 m3 0 0 1 2 := by kernel_rfl
theorem c0020 (m0 m1 m2 m3 : Nat) : CH m0 m1 m2 m3 0 0 2 0 = GO m0 m1 m2 m3 0 0 2 0 := by kernel_rfl
theorem c0021 (m0 m1 m2 m3 : Nat) : CH m0 m1 m2 m3 0 0 2 1 = GO m0 m1 m2 m3 0 0 2 1 := by kernel_rfl
theorem c0022 (m0 m1 m2 m3 : Nat) : CH m0 m1 m2 m3 0 0 2 2 = GO m0 m1 m2 m3 0 0 2 2 := by kernel_rfl
theorem d00 (m0 m1 m2 m3 : Nat) : ∀ j2 j3, j2 < 3 → j3 < 3 → CH m0 m1 m2 m3 0 0 j2 j3 = GO m0 m1 m2 m3 0 0 j2 j3
  | 0, 0, _, _ => c0000 m0 m1 m2 m3
  | 0, 1, _, _ => c0001 m0 m1 m2 m3
  | 0, 2, _, _ => c0002 m0 m1 m2 m3
  | 1, 0, _, _ => c0010 m0 m1 m2 m3
  | 1, 1, _, _ => c0011 m0 m1 m2 m3
  | 1, 2, _, _ => c0012 m0 m1 m2 m3
  | 2, 0, _, _ => c0020 m0 m1 m2 m3
  | 2, 1, _, _ => c0021 m0 m1 m2 m3
  | 2, 2, _, _ => c0022 m0 m1 m2 m3
  | _ + 3, _, h, _ => absurd h (by omega)
  | _, _ + 3, _, h => absurd h (by omega)
theorem c0100 (m0 m1 m2 m3 : Nat) : CH m0 m1 m2 m3 0 1 0 0 = GO m0 m1 m2 m3 0 1 0 0 := by kernel_rfl
theorem c0101 (m0 m1 m2 m3 : Nat) : CH m0 m1 m2 m3 0 1 0 1 = GO m0 m1 m2 m3 0 1 0 1 := by kernel_rfl
theorem c0102 (m0 m1 m2 m3 : Nat) : CH m0 m1 m2 m3 0 1 0 2 = GO m0 m1 m2 m3 0 1 0 2 := by kernel_rfl
theorem c0110 (m0 m1 m2 m3 : Nat) : CH m0 m1 m2 m3 0 1 1 0 = GO m0 m1 m2 m3 0 1 1 0 := by kernel_rfl
theorem c0111 (m0 m1 m2 m3 : Nat) : CH m0 m1 m2 m3 0 1 1 1 = GO m0 m1 m2 m3 0 1 1 1 := by kernel_rfl
theorem c0112 (m0 m1 m2 m3 : Nat) : CH m0 m1 m2 m3 0 1 1 2 = GO m0 m1 m2 m3 0 1 1 2 := by kernel_rfl
theorem c0120 (m0 m1 m2 m3 : Nat) : CH m0 m1 m2 m3 0 1 2 0 = GO m0 m1 m2 m3 0 1 2 0 := by kernel_rfl
theorem c0121 (m0 m1 m2 m3 : Nat) : CH m0 m1 m2 m3 0 1 2 1 = GO m0 m1 m2 m3 0 1 2 1 := by kernel_rfl
theorem c0122 (m0 m1 m2 m3 : Nat) : CH m0 m1 m2 m3 0 1 2 2 = GO m0 m1 m2 m3 0 1 2 2 := by kernel_rfl
theorem d01 (m0 m1 m2 m3 : Nat) : ∀ j2 j3, j2 < 3 → j3 < 3 → CH m0 m1 m2 m3 0 1 j2 j3 = GO m0 m1 m2 m3 0 1 j2 j3
  | 0, 0, _, _ => c0100 m0 m1 m2 m3
  | 0, 1, _, _ => c0101 m0 m1 m2 m3
  | 0, 2, _, _ => c0102 m0 m1 m2 m3
  | 1, 0, _, _ => c0110 m0 m1 m2 m3
  | 1, 1, _, _ => c0111 m0 m1 m2 m3
  | 1, 2, _, _ => c0112 m0 m1 m2 m3
  | 2, 0, _, _ => c0120 m0 m1 m2 m3
  | 2, 1, _, _ => c0121 m0 m1 m2 m3
  | 2, 2, _, _ => c0122 m0 m1 m2 m3
  | _ + 3, _, h, _ => absurd h (by omega)
  | _, _ + 3, _, h => absurd h (by omega)
theorem c0200 (m0 m1 m2 m3 : Nat) : CH m0 m1 m2 m3 0 2 0 0 = GO m0 m1 m2 m3 0 2 0 0 := by kernel_rfl
theorem c0201 (m0 m1 m2 m3 : Nat) : CH m0 m1 m2 m3 0 2 0 1 = GO m0 m1 m2 m3 0 2 0 1 := by kernel_rfl
theorem c0202 (m0 m1 m2 m3 : Nat) : CH m0 m1 m2 m3 0 2 0 2 = GO m0 m1 m2 m3 0 2 0 2 := by kernel_rfl
theorem c0210 (m0 m1 m2 m3 : Nat) : CH m0 m1 m2 m3 0 2 1 0 = GO m0 m1 m2 m3 0 2 1 0 := by kernel_rfl
theorem c0211 (m0 m1 m2 m3 : Nat) : CH m0 m1 m2 m3 0 2 1 1 = GO m0 m1 m2 m3 0 2 1 1 := by kernel_rfl
theorem c0212 (m0 m1 m2 m3 : Nat) : CH m0 m1 m2 m3 0 2 1 2 = GO m0 m1 m2 m3 0 2 1 2 := by kernel_rfl
theorem c0220 (m0 m1 m2 m3 : Nat) : CH m0 m1 m2 m3 0 2 2 0 = GO m0 m1 m2 m3 0 2 2 0 := by kernel_rfl
theorem c0221 (m0 m1 m2 m3 : Nat) : CH m0 m1 m2 m3 0 2 2 1 = GO m0 m1 m2 m3 0 2 2 1 := by kernel_rfl
theorem c0222 (m0 m1 m2 m3 : Nat) : CH m0 m1 m2 m3 0 2 2 2 = GO m0 m1 m2 m3 0 2 2 2 := by kernel_rfl
theorem d02 (m0 m1 m2 m3 : Nat) : ∀ j2 j3, j2 < 3 → j3 < 3 → CH m0 m1 m2 m3 0 2 j2 j3 = GO m0 m1 m2 m3 0 2 j2 j3
  | 0, 0, _, _ => c0200 m0 m1 m2 m3
  | 0, 1, _, _ => c0201 m0 m1 m2 m3
  | 0, 2, _, _ => c0202 m0 m1 m2 m3
  | 1, 0, _, _ => c0210 m0 m1 m2 m3
  | 1, 1, _, _ => c0211 m0 m1 m2 m3
  | 1, 2, _, _ => c0212 m0 m1 m2 m3
  | 2, 0, _, _ => c0220 m0 m1 m2 m3
  | 2, 1, _, _ => c0221 m0 m1 m2 m3
  | 2, 2, _, _ => c0222 m0 m1 m2 m3
  | _ + 3, _, h, _ => absurd h (by omega)
  | _, _ + 3, _, h => absurd h (by omega)
theorem c0300 (m0 m1 m2 m3 : Nat) : CH m0 m1 m2 m3 0 3 0 0 = GO m0 m1 m2 m3 0 3 0 0 := by kernel_rfl
theorem c0301 (m0 m1 m2 m3 : Nat) : CH m0 m1 m2 m3 0 3 0 1 = GO m0 m1 m2 m3 0 3 0 1 := by kernel_rfl
theorem c0302 (m0 m1 m2 m3 : Nat) : CH m0 m1 m2 m3 0 3 0 2 = GO m0 m1 m2 m3 0 3 0 2 := by kernel_rfl
theorem c0310 (m0 m1 m2 m3 : Nat) : CH m0 m1 m2 m3 0 3 1 0 = GO m0 m1 m2 m3 0 3 1 0 := by kernel_rfl
theorem c0311 (m0 m1 m2 m3 : Nat) : CH m0 m1 m2 m3 0 3 1 1 = GO m0 m1 m2 m3 0 3 1 1 := by kernel_rfl
theorem c0312 (m0 m1 m2 m3 : Nat) : CH m0 m1 m2 m3 0 3 1 2 = GO m0 m1 m2 m3 0 3 1 2 := by kernel_rfl
theorem c0320 (m0 m1 m2 m3 : Nat) : CH m0 m1 m2 m3 0 3 2 0 = GO m0 m1 m2 m3 0 3 2 0 := by kernel_rfl
theorem c0321 (m0 m1 m2 m3 : Nat) : CH m0 m1 m2 m3 0 3 2 1 = GO m0 m1 m2 m3 0 3 2 1 := by kernel_rfl
theorem c0322 (m0 m1 m2 m3 : Nat) : CH m0 m1 m2 m3 0 3 2 2 = GO m0 m1 m2 m3 0 3 2 2 := by kernel_rfl
theorem d03 (m0 m1 m2 m3 : Nat) : ∀ j2 j3, j2 < 3 → j3 < 3 → CH m0 m1 m2 m3 0 3 j2 j3 = GO m0 m1 m2 m3 0 3 j2 j3
  | 0, 0, _, _ => c0300 m0 m1 m2 m3
  | 0, 1, _, _ => c0301 m0 m1 m2 m3
  | 0, 2, _, _ => c0302 m0 m1 m2 m3
  | 1, 0, _, _ => c0310 m0 m1 m2 m3
  | 1, 1, _, _ => c0311 m0 m1 m2 m3
  | 1, 2, _, _ => c0312 m0 m1 m2 m3
  | 2, 0, _, _ => c0320 m0 m1 m2 m3
  | 2, 1, _, _ => c0321 m0 m1 m2 m3
  | 2, 2, _, _ => c0322 m0 m1 m2 m3
  | _ + 3, _, h, _ => absurd h (by omega)
  | _, _ + 3, _, h => absurd h (by omega)
theorem c0400 (m0 m1 m2 m3 : Nat) : CH m0 m1 m2 m3 0 4 0 0 = GO m0 m1 m2 m3 0 4 0 0 := by kernel_rfl
theorem c0401 (m0 m1 m2 m3 : Nat) : CH m0 m1 m2 m3 0 4 0 1 = GO m0 m1 m2 m3 0 4 0 1 := by kernel_rfl
theorem c0402 (m0 m1 m2 m3 : Nat) : CH m0 m1 m2 m3 0 4 0 2 = GO m0 m1 m2 m3 0 4 0 2 := by kernel_rfl
theorem c0410 (m0 m1 m2 m3 : Nat) : CH m0 m1 m2 m3 0 4 1 0 = GO m0 m1 m2 m3 0 4 1 0 := by kernel_rfl
theorem c0411 (m0 m1 m2 m3 : Nat) : CH m0 m1 m2 m3 0 4 1 1 = GO m0 m1 m2 m3 0 4 1 1 := by kernel_rfl
theorem c0412 (m0 m1 m2 m3 : Nat) : CH m0 m1 m2 m3 0 4 1 2 = GO m0 m1 m2 m3 0 4 1 2 := by kernel_rfl
theorem c0420 (m0 m1 m2 m3 : Nat) : CH m0 m1 m2 m3 0 4 2 0 = GO m0 m1 m2 m3 0 4 2 0 := by kernel_rfl
theorem c0421 (m0 m1 m2 m3 : Nat) : CH m0 m1 m2 m3 0 4 2 1 = GO m0 m1 m2 m3 0 4 2 1 := by kernel_rfl
theorem c0422 (m0 m1 m2 m3 : Nat) : CH m0 m1 m2 m3 0 4 2 2 = GO m0 m1 m2 m3 0 4 2 2 := by kernel_rfl
theorem d04 (m0 m1 m2 m3 : Nat) : ∀ j2 j3, j2 < 3 → j3 < 3 → CH m0 m1 m2 m3 0 4 j2 j3 = GO m0 m1 m2 m3 0 4 j2 j3
  | 0, 0, _, _ => c0400 m0 m1 m2 m3
  | 0, 1, _, _ => c0401 m0 m1 m2 m3
  | 0, 2, _, _ => c0402 m0 m1 m2 m3
  | 1, 0, _, _ => c0410 m0 m1 m2 m3
  | 1, 1, _, _ => c0411 m0 m1 m2 m3
  | 1, 2, _, _ => c0412 m0 m1 m2 m3
  | 2, 0, _, _ => c0420 m0 m1 m2 m3
  | 2, 1, _, _ => c0421 m0 m1 m2 m3
  | 2, 2, _, _ => c0422 m0 m1 m2 m3
  | _ + 3, _, h, _ => absurd h (by omega)
  | _, _ + 3, _, h => absurd h (by omega)
end Go.Proofs.YtohijnjnlfdnpaaGreat
