/- InductTwice: the runs' ends. -/
import Derived.Test.YtohijnjnlfdnpaaGreatTw
namespace Go.Proofs.YtohijnjnlfdnpaaGreat
open Go Go.Ev Go.Ev.K
theorem cht {m0 m1 m2 j0 j1 j2 : Nat} (h0 : m0 % 26 = j0) (h1 : m1 % 3 = j1) (h2 : m2 % 3 = j2) : CHt m0 m1 m2 j0 j1 j2 = true := by
  subst h0; subst h1; subst h2
  have eq : ∀ a b : Nat, Nat.beq (Nat.mod a b) (a % b) = true := fun a b => Nat.beq_refl _
  unfold CHt
  rw [eq, eq, eq]
  rfl
theorem chn {m0 m1 j0 j1 : Nat} (h0 : m0 % 26 = j0) (h1 : m1 % 3 = j1) : CHn m0 m1 j0 j1 = true := by
  subst h0; subst h1
  have eq : ∀ a b : Nat, Nat.beq (Nat.mod a b) (a % b) = true := fun a b => Nat.beq_refl _
  unfold CHn
  rw [eq, eq]
  rfl
end Go.Proofs.YtohijnjnlfdnpaaGreat
