/- The runs at the first number's remainder 1. -/
import Derived.KernelRfl
import Derived.Test.YtohijnjnlfdnpaaGreatTt
namespace Go.Proofs.YtohijnjnlfdnpaaGreat
open Go Go.Ev Go.Ev.K
theorem c1500 (m0 m1 m2 m3 : Nat) : CH m0 m1 m2 m3 1 5 0 0 = GO m0 m1 m2 m3 1 5 0 0 := by kernel_rfl
theorem c1501 (m0 m1 m2 m3 : Nat) : CH m0 m1 m2 m3 1 5 0 1 = GO m0 m1 m2 m3 1 5 0 1 := by kernel_rfl
theorem c1502 (m0 m1 m2 m3 : Nat) : CH m0 m1 m2 m3 1 5 0 2 = GO m0 m1 m2 m3 1 5 0 2 := by kernel_rfl
theorem c1510 (m0 m1 m2 m3 : Nat) : CH m0 m1 m2 m3 1 5 1 0 = GO m0 m1 m2 m3 1 5 1 0 := by kernel_rfl
theorem c1511 (m0 m1 m2 m3 : Nat) : CH m0 m1 m2 m3 1 5 1 1 = GO m0 m1 m2 m3 1 5 1 1 := by kernel_rfl
theorem c1512 (m0 m1 m2 m3 : Nat) : CH m0 m1 m2 m3 1 5 1 2 = GO m0 m1 m2 m3 1 5 1 2 := by kernel_rfl
theorem c1520 (m0 m1 m2 m3 : Nat) : CH m0 m1 m2 m3 1 5 2 0 = GO m0 m1 m2 m3 1 5 2 0 := by kernel_rfl
theorem c1521 (m0 m1 m2 m3 : Nat) : CH m0 m1 m2 m3 1 5 2 1 = GO m0 m1 m2 m3 1 5 2 1 := by kernel_rfl
theorem c1522 (m0 m1 m2 m3 : Nat) : CH m0 m1 m2 m3 1 5 2 2 = GO m0 m1 m2 m3 1 5 2 2 := by kernel_rfl
theorem d15 (m0 m1 m2 m3 : Nat) : ∀ j2 j3, j2 < 3 → j3 < 3 → CH m0 m1 m2 m3 1 5 j2 j3 = GO m0 m1 m2 m3 1 5 j2 j3
  | 0, 0, _, _ => c1500 m0 m1 m2 m3
  | 0, 1, _, _ => c1501 m0 m1 m2 m3
  | 0, 2, _, _ => c1502 m0 m1 m2 m3
  | 1, 0, _, _ => c1510 m0 m1 m2 m3
  | 1, 1, _, _ => c1511 m0 m1 m2 m3
  | 1, 2, _, _ => c1512 m0 m1 m2 m3
  | 2, 0, _, _ => c1520 m0 m1 m2 m3
  | 2, 1, _, _ => c1521 m0 m1 m2 m3
  | 2, 2, _, _ => c1522 m0 m1 m2 m3
  | _ + 3, _, h, _ => absurd h (by omega)
  | _, _ + 3, _, h => absurd h (by omega)
theorem c1600 (m0 m1 m2 m3 : Nat) : CH m0 m1 m2 m3 1 6 0 0 = GO m0 m1 m2 m3 1 6 0 0 := by kernel_rfl
theorem c1601 (m0 m1 m2 m3 : Nat) : CH m0 m1 m2 m3 1 6 0 1 = GO m0 m1 m2 m3 1 6 0 1 := by kernel_rfl
theorem c1602 (m0 m1 m2 m3 : Nat) : CH m0 m1 m2 m3 1 6 0 2 = GO m0 m1 m2 m3 1 6 0 2 := by kernel_rfl
theorem c1610 (m0 m1 m2 m3 : Nat) : CH m0 m1 m2 m3 1 6 1 0 = GO m0 m1 m2 m3 1 6 1 0 := by kernel_rfl
theorem c1611 (m0 m1 m2 m3 : Nat) : CH m0 m1 m2 m3 1 6 1 1 = GO m0 m1 m2 m3 1 6 1 1 := by kernel_rfl
theorem c1612 (m0 m1 m2 m3 : Nat) : CH m0 m1 m2 m3 1 6 1 2 = GO m0 m1 m2 m3 1 6 1 2 := by kernel_rfl
theorem c1620 (m0 m1 m2 m3 : Nat) : CH m0 m1 m2 m3 1 6 2 0 = GO m0 m1 m2 m3 1 6 2 0 := by kernel_rfl
theorem c1621 (m0 m1 m2 m3 : Nat) : CH m0 m1 m2 m3 1 6 2 1 = GO m0 m1 m2 m3 1 6 2 1 := by kernel_rfl
theorem c1622 (m0 m1 m2 m3 : Nat) : CH m0 m1 m2 m3 1 6 2 2 = GO m0 m1 m2 m3 1 6 2 2 := by kernel_rfl
theorem d16 (m0 m1 m2 m3 : Nat) : ∀ j2 j3, j2 < 3 → j3 < 3 → CH m0 m1 m2 m3 1 6 j2 j3 = GO m0 m1 m2 m3 1 6 j2 j3
  | 0, 0, _, _ => c1600 m0 m1 m2 m3
  | 0, 1, _, _ => c1601 m0 m1 m2 m3
  | 0, 2, _, _ => c1602 m0 m1 m2 m3
  | 1, 0, _, _ => c1610 m0 m1 m2 m3
  | 1, 1, _, _ => c1611 m0 m1 m2 m3
  | 1, 2, _, _ => c1612 m0 m1 m2 m3
  | 2, 0, _, _ => c1620 m0 m1 m2 m3
  | 2, 1, _, _ => c1621 m0 m1 m2 m3
  | 2, 2, _, _ => c1622 m0 m1 m2 m3
  | _ + 3, _, h, _ => absurd h (by omega)
  | _, _ + 3, _, h => absurd h (by omega)
theorem c1700 (m0 m1 m2 m3 : Nat) : CH m0 m1 m2 m3 1 7 0 0 = GO m0 m1 m2 m3 1 7 0 0 := by kernel_rfl
theorem c1701 (m0 m1 m2 m3 : Nat) : CH m0 m1 m2 m3 1 7 0 1 = GO m0 m1 m2 m3 1 7 0 1 := by kernel_rfl
theorem c1702 (m0 m1 m2 m3 : Nat) : CH m0 m1 m2 m3 1 7 0 2 = GO m0 m1 m2 m3 1 7 0 2 := by kernel_rfl
theorem c1710 (m0 m1 m2 m3 : Nat) : CH m0 m1 m2 m3 1 7 1 0 = GO m0 m1 m2 m3 1 7 1 0 := by kernel_rfl
theorem c1711 (m0 m1 m2 m3 : Nat) : CH m0 m1 m2 m3 1 7 1 1 = GO m0 m1 m2 m3 1 7 1 1 := by kernel_rfl
theorem c1712 (m0 m1 m2 m3 : Nat) : CH m0 m1 m2 m3 1 7 1 2 = GO m0 m1 m2 m3 1 7 1 2 := by kernel_rfl
theorem c1720 (m0 m1 m2 m3 : Nat) : CH m0 m1 m2 m3 1 7 2 0 = GO m0 m1 m2 m3 1 7 2 0 := by kernel_rfl
theorem c1721 (m0 m1 m2 m3 : Nat) : CH m0 m1 m2 m3 1 7 2 1 = GO m0 m1 m2 m3 1 7 2 1 := by kernel_rfl
theorem c1722 (m0 m1 m2 m3 : Nat) : CH m0 m1 m2 m3 1 7 2 2 = GO m0 m1 m2 m3 1 7 2 2 := by kernel_rfl
theorem d17 (m0 m1 m2 m3 : Nat) : ∀ j2 j3, j2 < 3 → j3 < 3 → CH m0 m1 m2 m3 1 7 j2 j3 = GO m0 m1 m2 m3 1 7 j2 j3
  | 0, 0, _, _ => c1700 m0 m1 m2 m3
  | 0, 1, _, _ => c1701 m0 m1 m2 m3
  | 0, 2, _, _ => c1702 m0 m1 m2 m3
  | 1, 0, _, _ => c1710 m0 m1 m2 m3
  | 1, 1, _, _ => c1711 m0 m1 m2 m3
  | 1, 2, _, _ => c1712 m0 m1 m2 m3
  | 2, 0, _, _ => c1720 m0 m1 m2 m3
  | 2, 1, _, _ => c1721 m0 m1 m2 m3
  | 2, 2, _, _ => c1722 m0 m1 m2 m3
  | _ + 3, _, h, _ => absurd h (by omega)
  | _, _ + 3, _, h => absurd h (by omega)
theorem c1800 (m0 m1 m2 m3 : Nat) : CH m0 m1 m2 m3 1 8 0 0 = GO m0 m1 m2 m3 1 8 0 0 := by kernel_rfl
theorem c1801 (m0 m1 m2 m3 : Nat) : CH m0 m1 m2 m3 1 8 0 1 = GO m0 m1 m2 m3 1 8 0 1 := by kernel_rfl
theorem c1802 (m0 m1 m2 m3 : Nat) : CH m0 m1 m2 m3 1 8 0 2 = GO m0 m1 m2 m3 1 8 0 2 := by kernel_rfl
theorem c1810 (m0 m1 m2 m3 : Nat) : CH m0 m1 m2 m3 1 8 1 0 = GO m0 m1 m2 m3 1 8 1 0 := by kernel_rfl
theorem c1811 (m0 m1 m2 m3 : Nat) : CH m0 m1 m2 m3 1 8 1 1 = GO m0 m1 m2 m3 1 8 1 1 := by kernel_rfl
theorem c1812 (m0 m1 m2 m3 : Nat) : CH m0 m1 m2 m3 1 8 1 2 = GO m0 m1 m2 m3 1 8 1 2 := by kernel_rfl
theorem c1820 (m0 m1 m2 m3 : Nat) : CH m0 m1 m2 m3 1 8 2 0 = GO m0 m1 m2 m3 1 8 2 0 := by kernel_rfl
theorem c1821 (m0 m1 m2 m3 : Nat) : CH m0 m1 m2 m3 1 8 2 1 = GO m0 m1 m2 m3 1 8 2 1 := by kernel_rfl
theorem c1822 (m0 m1 m2 m3 : Nat) : CH m0 m1 m2 m3 1 8 2 2 = GO m0 m1 m2 m3 1 8 2 2 := by kernel_rfl
theorem d18 (m0 m1 m2 m3 : Nat) : ∀ j2 j3, j2 < 3 → j3 < 3 → CH m0 m1 m2 m3 1 8 j2 j3 = GO m0 m1 m2 m3 1 8 j2 j3
  | 0, 0, _, _ => c1800 m0 m1 m2 m3
  | 0, 1, _, _ => c1801 m0 m1 m2 m3
  | 0, 2, _, _ => c1802 m0 m1 m2 m3
  | 1, 0, _, _ => c1810 m0 m1 m2 m3
  | 1, 1, _, _ => c1811 m0 m1 m2 m3
  | 1, 2, _, _ => c1812 m0 m1 m2 m3
  | 2, 0, _, _ => c1820 m0 m1 m2 m3
  | 2, 1, _, _ => c1821 m0 m1 m2 m3
  | 2, 2, _, _ => c1822 m0 m1 m2 m3
  | _ + 3, _, h, _ => absurd h (by omega)
  | _, _ + 3, _, h => absurd h (by omega)
theorem c1900 (m0 m1 m2 m3 : Nat) : CH m0 m1 m2 m3 1 9 0 0 = GO m0 m1 m2 m3 1 9 0 0 := by kernel_rfl
theorem c1901 (m0 m1 m2 m3 : Nat) : CH m0 m1 m2 m3 1 9 0 1 = GO m0 m1 m2 m3 1 9 0 1 := by kernel_rfl
theorem c1902 (m0 m1 m2 m3 : Nat) : CH m0 m1 m2 m3 1 9 0 2 = GO m0 m1 m2 m3 1 9 0 2 := by kernel_rfl
theorem c1910 (m0 m1 m2 m3 : Nat) : CH m0 m1 m2 m3 1 9 1 0 = GO m0 m1 m2 m3 1 9 1 0 := by kernel_rfl
theorem c1911 (m0 m1 m2 m3 : Nat) : CH m0 m1 m2 m3 1 9 1 1 = GO m0 m1 m2 m3 1 9 1 1 := by kernel_rfl
theorem c1912 (m0 m1 m2 m3 : Nat) : CH m0 m1 m2 m3 1 9 1 2 = GO m0 m1 m2 m3 1 9 1 2 := by kernel_rfl
theorem c1920 (m0 m1 m2 m3 : Nat) : CH m0 m1 m2 m3 1 9 2 0 = GO m0 m1 m2 m3 1 9 2 0 := by kernel_rfl
theorem c1921 (m0 m1 m2 m3 : Nat) : CH m0 m1 m2 m3 1 9 2 1 = GO m0 m1 m2 m3 1 9 2 1 := by kernel_rfl
theorem c1922 (m0 m1 m2 m3 : Nat) : CH m0 m1 m2 m3 1 9 2 2 = GO m0 m1 m2 m3 1 9 2 2 := by kernel_rfl
theorem d19 (m0 m1 m2 m3 : Nat) : ∀ j2 j3, j2 < 3 → j3 < 3 → CH m0 m1 m2 m3 1 9 j2 j3 = GO m0 m1 m2 m3 1 9 j2 j3
  | 0, 0, _, _ => c1900 m0 m1 m2 m3
  | 0, 1, _, _ => c1901 m0 m1 m2 m3
  | 0, 2, _, _ => c1902 m0 m1 m2 m3
  | 1, 0, _, _ => c1910 m0 m1 m2 m3
  | 1, 1, _, _ => c1911 m0 m1 m2 m3
  | 1, 2, _, _ => c1912 m0 m1 m2 m3
  | 2, 0, _, _ => c1920 m0 m1 m2 m3
  | 2, 1, _, _ => c1921 m0 m1 m2 m3
  | 2, 2, _, _ => c1922 m0 m1 m2 m3
  | _ + 3, _, h, _ => absurd h (by omega)
  | _, _ + 3, _, h => absurd h (by omega)
end Go.Proofs.YtohijnjnlfdnpaaGreat
