/- All runs. -/
import Derived.KernelRfl
import Derived.Test.YtohijnjnlfdnpaaGreatC0a
import Derived.Test.YtohijnjnlfdnpaaGreatC0b
import Derived.Test.YtohijnjnlfdnpaaGreatC1a
import Derived.Test.YtohijnjnlfdnpaaGreatC1b
import Derived.Test.YtohijnjnlfdnpaaGreatC2a
import Derived.Test.YtohijnjnlfdnpaaGreatC2b
import Derived.Test.YtohijnjnlfdnpaaGreatC3a
import Derived.Test.YtohijnjnlfdnpaaGreatC3b
import Derived.Test.YtohijnjnlfdnpaaGreatC4a
import Derived.Test.YtohijnjnlfdnpaaGreatC4b
import Derived.Test.YtohijnjnlfdnpaaGreatC5a
import Derived.Test.YtohijnjnlfdnpaaGreatC5b
import Derived.Test.YtohijnjnlfdnpaaGreatC6a
import Derived.Test.YtohijnjnlfdnpaaGreatC6b
import Derived.Test.YtohijnjnlfdnpaaGreatC7a
import Derived.Test.YtohijnjnlfdnpaaGreatC7b
import Derived.Test.YtohijnjnlfdnpaaGreatC8a
import Derived.Test.YtohijnjnlfdnpaaGreatC8b
import Derived.Test.YtohijnjnlfdnpaaGreatC9a
import Derived.Test.YtohijnjnlfdnpaaGreatC9b
import Derived.Test.YtohijnjnlfdnpaaGreatRw
namespace Go.Proofs.YtohijnjnlfdnpaaGreat
open Go Go.Ev Go.Ev.K
theorem g0 (m0 m1 m2 m3 : Nat) : ∀ j1 j2 j3, j1 < 10 → j2 < 3 → j3 < 3 → CH m0 m1 m2 m3 0 j1 j2 j3 = GO m0 m1 m2 m3 0 j1 j2 j3
  | 0, j2, j3, _, h2, h3 => d00 m0 m1 m2 m3 j2 j3 h2 h3
  | 1, j2, j3, _, h2, h3 => d01 m0 m1 m2 m3 j2 j3 h2 h3
  | 2, j2, j3, _, h2, h3 => d02 m0 m1 m2 m3 j2 j3 h2 h3
  | 3, j2, j3, _, h2, h3 => d03 m0 m1 m2 m3 j2 j3 h2 h3
  | 4, j2, j3, _, h2, h3 => d04 m0 m1 m2 m3 j2 j3 h2 h3
  | 5, j2, j3, _, h2, h3 => d05 m0 m1 m2 m3 j2 j3 h2 h3
  | 6, j2, j3, _, h2, h3 => d06 m0 m1 m2 m3 j2 j3 h2 h3
  | 7, j2, j3, _, h2, h3 => d07 m0 m1 m2 m3 j2 j3 h2 h3
  | 8, j2, j3, _, h2, h3 => d08 m0 m1 m2 m3 j2 j3 h2 h3
  | 9, j2, j3, _, h2, h3 => d09 m0 m1 m2 m3 j2 j3 h2 h3
  | _ + 10, _, _, h, _, _ => absurd h (by omega)
theorem g1 (m0 m1 m2 m3 : Nat) : ∀ j1 j2 j3, j1 < 10 → j2 < 3 → j3 < 3 → CH m0 m1 m2 m3 1 j1 j2 j3 = GO m0 m1 m2 m3 1 j1 j2 j3
  | 0, j2, j3, _, h2, h3 => d10 m0 m1 m2 m3 j2 j3 h2 h3
  | 1, j2, j3, _, h2, h3 => d11 m0 m1 m2 m3 j2 j3 h2 h3
  | 2, j2, j3, _, h2, h3 => d12 m0 m1 m2 m3 j2 j3 h2 h3
  | 3, j2, j3, _, h2, h3 => d13 m0 m1 m2 m3 j2 j3 h2 h3
  | 4, j2, j3, _, h2, h3 => d14 m0 m1 m2 m3 j2 j3 h2 h3
  | 5, j2, j3, _, h2, h3 => d15 m0 m1 m2 m3 j2 j3 h2 h3
  | 6, j2, j3, _, h2, h3 => d16 m0 m1 m2 m3 j2 j3 h2 h3
  | 7, j2, j3, _, h2, h3 => d17 m0 m1 m2 m3 j2 j3 h2 h3
  | 8, j2, j3, _, h2, h3 => d18 m0 m1 m2 m3 j2 j3 h2 h3
  | 9, j2, j3, _, h2, h3 => d19 m0 m1 m2 m3 j2 j3 h2 h3
  | _ + 10, _, _, h, _, _ => absurd h (by omega)
theorem g2 (m0 m1 m2 m3 : Nat) : ∀ j1 j2 j3, j1 < 10 → j2 < 3 → j3 < 3 → CH m0 m1 m2 m3 2 j1 j2 j3 = GO m0 m1 m2 m3 2 j1 j2 j3
  | 0, j2, j3, _, h2, h3 => d20 m0 m1 m2 m3 j2 j3 h2 h3
  | 1, j2, j3, _, h2, h3 => d21 m0 m1 m2 m3 j2 j3 h2 h3
  | 2, j2, j3, _, h2, h3 => d22 m0 m1 m2 m3 j2 j3 h2 h3
  | 3, j2, j3, _, h2, h3 => d23 m0 m1 m2 m3 j2 j3 h2 h3
  | 4, j2, j3, _, h2, h3 => d24 m0 m1 m2 m3 j2 j3 h2 h3
  | 5, j2, j3, _, h2, h3 => d25 m0 m1 m2 m3 j2 j3 h2 h3
  | 6, j2, j3, _, h2, h3 => d26 m0 m1 m2 m3 j2 j3 h2 h3
  | 7, j2, j3, _, h2, h3 => d27 m0 m1 m2 m3 j2 j3 h2 h3
  | 8, j2, j3, _, h2, h3 => d28 m0 m1 m2 m3 j2 j3 h2 h3
  | 9, j2, j3, _, h2, h3 => d29 m0 m1 m2 m3 j2 j3 h2 h3
  | _ + 10, _, _, h, _, _ => absurd h (by omega)
theorem g3 (m0 m1 m2 m3 : Nat) : ∀ j1 j2 j3, j1 < 10 → j2 < 3 → j3 < 3 → CH m0 m1 m2 m3 3 j1 j2 j3 = GO m0 m1 m2 m3 3 j1 j2 j3
  | 0, j2, j3, _, h2, h3 => d30 m0 m1 m2 m3 j2 j3 h2 h3
  | 1, j2, j3, _, h2, h3 => d31 m0 m1 m2 m3 j2 j3 h2 h3
  | 2, j2, j3, _, h2, h3 => d32 m0 m1 m2 m3 j2 j3 h2 h3
  | 3, j2, j3, _, h2, h3 => d33 m0 m1 m2 m3 j2 j3 h2 h3
  | 4, j2, j3, _, h2, h3 => d34 m0 m1 m2 m3 j2 j3 h2 h3
  | 5, j2, j3, _, h2, h3 => d35 m0 m1 m2 m3 j2 j3 h2 h3
  | 6, j2, j3, _, h2, h3 => d36 m0 m1 m2 m3 j2 j3 h2 h3
  | 7, j2, j3, _, h2, h3 => d37 m0 m1 m2 m3 j2 j3 h2 h3
  | 8, j2, j3, _, h2, h3 => d38 m0 m1 m2 m3 j2 j3 h2 h3
  | 9, j2, j3, _, h2, h3 => d39 m0 m1 m2 m3 j2 j3 h2 h3
  | _ + 10, _, _, h, _, _ => absurd h (by omega)
theorem g4 (m0 m1 m2 m3 : Nat) : ∀ j1 j2 j3, j1 < 10 → j2 < 3 → j3 < 3 → CH m0 m1 m2 m3 4 j1 j2 j3 = GO m0 m1 m2 m3 4 j1 j2 j3
  | 0, j2, j3, _, h2, h3 => d40 m0 m1 m2 m3 j2 j3 h2 h3
  | 1, j2, j3, _, h2, h3 => d41 m0 m1 m2 m3 j2 j3 h2 h3
  | 2, j2, j3, _, h2, h3 => d42 m0 m1 m2 m3 j2 j3 h2 h3
  | 3, j2, j3, _, h2, h3 => d43 m0 m1 m2 m3 j2 j3 h2 h3
  | 4, j2, j3, _, h2, h3 => d44 m0 m1 m2 m3 j2 j3 h2 h3
  | 5, j2, j3, _, h2, h3 => d45 m0 m1 m2 m3 j2 j3 h2 h3
  | 6, j2, j3, _, h2, h3 => d46 m0 m1 m2 m3 j2 j3 h2 h3
  | 7, j2, j3, _, h2, h3 => d47 m0 m1 m2 m3 j2 j3 h2 h3
  | 8, j2, j3, _, h2, h3 => d48 m0 m1 m2 m3 j2 j3 h2 h3
  | 9, j2, j3, _, h2, h3 => d49 m0 m1 m2 m3 j2 j3 h2 h3
  | _ + 10, _, _, h, _, _ => absurd h (by omega)
theorem g5 (m0 m1 m2 m3 : Nat) : ∀ j1 j2 j3, j1 < 10 → j2 < 3 → j3 < 3 → CH m0 m1 m2 m3 5 j1 j2 j3 = GO m0 m1 m2 m3 5 j1 j2 j3
  | 0, j2, j3, _, h2, h3 => d50 m0 m1 m2 m3 j2 j3 h2 h3
  | 1, j2, j3, _, h2, h3 => d51 m0 m1 m2 m3 j2 j3 h2 h3
  | 2, j2, j3, _, h2, h3 => d52 m0 m1 m2 m3 j2 j3 h2 h3
  | 3, j2, j3, _, h2, h3 => d53 m0 m1 m2 m3 j2 j3 h2 h3
  | 4, j2, j3, _, h2, h3 => d54 m0 m1 m2 m3 j2 j3 h2 h3
  | 5, j2, j3, _, h2, h3 => d55 m0 m1 m2 m3 j2 j3 h2 h3
  | 6, j2, j3, _, h2, h3 => d56 m0 m1 m2 m3 j2 j3 h2 h3
  | 7, j2, j3, _, h2, h3 => d57 m0 m1 m2 m3 j2 j3 h2 h3
  | 8, j2, j3, _, h2, h3 => d58 m0 m1 m2 m3 j2 j3 h2 h3
  | 9, j2, j3, _, h2, h3 => d59 m0 m1 m2 m3 j2 j3 h2 h3
  | _ + 10, _, _, h, _, _ => absurd h (by omega)
theorem g6 (m0 m1 m2 m3 : Nat) : ∀ j1 j2 j3, j1 < 10 → j2 < 3 → j3 < 3 → CH m0 m1 m2 m3 6 j1 j2 j3 = GO m0 m1 m2 m3 6 j1 j2 j3
  | 0, j2, j3, _, h2, h3 => d60 m0 m1 m2 m3 j2 j3 h2 h3
  | 1, j2, j3, _, h2, h3 => d61 m0 m1 m2 m3 j2 j3 h2 h3
  | 2, j2, j3, _, h2, h3 => d62 m0 m1 m2 m3 j2 j3 h2 h3
  | 3, j2, j3, _, h2, h3 => d63 m0 m1 m2 m3 j2 j3 h2 h3
  | 4, j2, j3, _, h2, h3 => d64 m0 m1 m2 m3 j2 j3 h2 h3
  | 5, j2, j3, _, h2, h3 => d65 m0 m1 m2 m3 j2 j3 h2 h3
  | 6, j2, j3, _, h2, h3 => d66 m0 m1 m2 m3 j2 j3 h2 h3
  | 7, j2, j3, _, h2, h3 => d67 m0 m1 m2 m3 j2 j3 h2 h3
  | 8, j2, j3, _, h2, h3 => d68 m0 m1 m2 m3 j2 j3 h2 h3
  | 9, j2, j3, _, h2, h3 => d69 m0 m1 m2 m3 j2 j3 h2 h3
  | _ + 10, _, _, h, _, _ => absurd h (by omega)
theorem g7 (m0 m1 m2 m3 : Nat) : ∀ j1 j2 j3, j1 < 10 → j2 < 3 → j3 < 3 → CH m0 m1 m2 m3 7 j1 j2 j3 = GO m0 m1 m2 m3 7 j1 j2 j3
  | 0, j2, j3, _, h2, h3 => d70 m0 m1 m2 m3 j2 j3 h2 h3
  | 1, j2, j3, _, h2, h3 => d71 m0 m1 m2 m3 j2 j3 h2 h3
  | 2, j2, j3, _, h2, h3 => d72 m0 m1 m2 m3 j2 j3 h2 h3
  | 3, j2, j3, _, h2, h3 => d73 m0 m1 m2 m3 j2 j3 h2 h3
  | 4, j2, j3, _, h2, h3 => d74 m0 m1 m2 m3 j2 j3 h2 h3
  | 5, j2, j3, _, h2, h3 => d75 m0 m1 m2 m3 j2 j3 h2 h3
  | 6, j2, j3, _, h2, h3 => d76 m0 m1 m2 m3 j2 j3 h2 h3
  | 7, j2, j3, _, h2, h3 => d77 m0 m1 m2 m3 j2 j3 h2 h3
  | 8, j2, j3, _, h2, h3 => d78 m0 m1 m2 m3 j2 j3 h2 h3
  | 9, j2, j3, _, h2, h3 => d79 m0 m1 m2 m3 j2 j3 h2 h3
  | _ + 10, _, _, h, _, _ => absurd h (by omega)
theorem g8 (m0 m1 m2 m3 : Nat) : ∀ j1 j2 j3, j1 < 10 → j2 < 3 → j3 < 3 → CH m0 m1 m2 m3 8 j1 j2 j3 = GO m0 m1 m2 m3 8 j1 j2 j3
  | 0, j2, j3, _, h2, h3 => d80 m0 m1 m2 m3 j2 j3 h2 h3
  | 1, j2, j3, _, h2, h3 => d81 m0 m1 m2 m3 j2 j3 h2 h3
  | 2, j2, j3, _, h2, h3 => d82 m0 m1 m2 m3 j2 j3 h2 h3
  | 3, j2, j3, _, h2, h3 => d83 m0 m1 m2 m3 j2 j3 h2 h3
  | 4, j2, j3, _, h2, h3 => d84 m0 m1 m2 m3 j2 j3 h2 h3
  | 5, j2, j3, _, h2, h3 => d85 m0 m1 m2 m3 j2 j3 h2 h3
  | 6, j2, j3, _, h2, h3 => d86 m0 m1 m2 m3 j2 j3 h2 h3
  | 7, j2, j3, _, h2, h3 => d87 m0 m1 m2 m3 j2 j3 h2 h3
  | 8, j2, j3, _, h2, h3 => d88 m0 m1 m2 m3 j2 j3 h2 h3
  | 9, j2, j3, _, h2, h3 => d89 m0 m1 m2 m3 j2 j3 h2 h3
  | _ + 10, _, _, h, _, _ => absurd h (by omega)
theorem g9 (m0 m1 m2 m3 : Nat) : ∀ j1 j2 j3, j1 < 10 → j2 < 3 → j3 < 3 → CH m0 m1 m2 m3 9 j1 j2 j3 = GO m0 m1 m2 m3 9 j1 j2 j3
  | 0, j2, j3, _, h2, h3 => d90 m0 m1 m2 m3 j2 j3 h2 h3
  | 1, j2, j3, _, h2, h3 => d91 m0 m1 m2 m3 j2 j3 h2 h3
  | 2, j2, j3, _, h2, h3 => d92 m0 m1 m2 m3 j2 j3 h2 h3
  | 3, j2, j3, _, h2, h3 => d93 m0 m1 m2 m3 j2 j3 h2 h3
  | 4, j2, j3, _, h2, h3 => d94 m0 m1 m2 m3 j2 j3 h2 h3
  | 5, j2, j3, _, h2, h3 => d95 m0 m1 m2 m3 j2 j3 h2 h3
  | 6, j2, j3, _, h2, h3 => d96 m0 m1 m2 m3 j2 j3 h2 h3
  | 7, j2, j3, _, h2, h3 => d97 m0 m1 m2 m3 j2 j3 h2 h3
  | 8, j2, j3, _, h2, h3 => d98 m0 m1 m2 m3 j2 j3 h2 h3
  | 9, j2, j3, _, h2, h3 => d99 m0 m1 m2 m3 j2 j3 h2 h3
  | _ + 10, _, _, h, _, _ => absurd h (by omega)
theorem all_runs (m0 m1 m2 m3 : Nat) : ∀ j0 j1 j2 j3, j0 < 10 → j1 < 10 → j2 < 3 → j3 < 3 → CH m0 m1 m2 m3 j0 j1 j2 j3 = GO m0 m1 m2 m3 j0 j1 j2 j3
  | 0, j1, j2, j3, _, h1, h2, h3 => g0 m0 m1 m2 m3 j1 j2 j3 h1 h2 h3
  | 1, j1, j2, j3, _, h1, h2, h3 => g1 m0 m1 m2 m3 j1 j2 j3 h1 h2 h3
  | 2, j1, j2, j3, _, h1, h2, h3 => g2 m0 m1 m2 m3 j1 j2 j3 h1 h2 h3
  | 3, j1, j2, j3, _, h1, h2, h3 => g3 m0 m1 m2 m3 j1 j2 j3 h1 h2 h3
  | 4, j1, j2, j3, _, h1, h2, h3 => g4 m0 m1 m2 m3 j1 j2 j3 h1 h2 h3
  | 5, j1, j2, j3, _, h1, h2, h3 => g5 m0 m1 m2 m3 j1 j2 j3 h1 h2 h3
  | 6, j1, j2, j3, _, h1, h2, h3 => g6 m0 m1 m2 m3 j1 j2 j3 h1 h2 h3
  | 7, j1, j2, j3, _, h1, h2, h3 => g7 m0 m1 m2 m3 j1 j2 j3 h1 h2 h3
  | 8, j1, j2, j3, _, h1, h2, h3 => g8 m0 m1 m2 m3 j1 j2 j3 h1 h2 h3
  | 9, j1, j2, j3, _, h1, h2, h3 => g9 m0 m1 m2 m3 j1 j2 j3 h1 h2 h3
  | _ + 10, _, _, _, h, _, _, _ => absurd h (by omega)
theorem runs (m0 m1 m2 m3 : Nat) (h0 : m0 < 256) (h1 : m1 < 256) : GO m0 m1 m2 m3 (m0 % 10) (m1 % 10) (m2 % 3) (m3 % 3) = true := by
  rw [← all_runs m0 m1 m2 m3 _ _ _ _ (Nat.mod_lt _ (by omega)) (Nat.mod_lt _ (by omega)) (Nat.mod_lt _ (by omega)) (Nat.mod_lt _ (by omega))]
  have e0 : Nat.ble m0 9223372036854775807 = true := Nat.ble_eq_true_of_le (by omega)
  have e1 : Nat.ble m1 9223372036854775807 = true := Nat.ble_eq_true_of_le (by omega)
  have eq : ∀ a b : Nat, Nat.beq (Nat.mod a b) (a % b) = true := fun a b => Nat.beq_refl _
  unfold CH
  rw [e0, e1, eq, eq, eq, eq]
  rfl
theorem law_body : Tryz.f3.body.isSome = true := by kernel_rfl
theorem law_tie : resFunc Tryz.prog Tryz.f3 = some rf3 := by kernel_rfl
theorem law_name : (Tryz.f3.name == "runtime.NumGoroutine") = false := by kernel_rfl
theorem fnok_of {P : Program} {f : Nat} {fn : Func} {rf : RFunc} (h1 : P.funcs[f]? = some fn) (h2 : resFunc P fn = some rf) (h3 : (fn.name == "runtime.NumGoroutine") = false) : ∃ c, FnOK P f fn c rf := by
  unfold resFunc at h2
  split at h2
  · rename_i code hb
    split at h2
    · rename_i b rs e1 e2
      cases h2
      exact ⟨code, h1, hb, h3, e1, e2⟩
    · cases h2
  · cases h2
end Go.Proofs.YtohijnjnlfdnpaaGreat
