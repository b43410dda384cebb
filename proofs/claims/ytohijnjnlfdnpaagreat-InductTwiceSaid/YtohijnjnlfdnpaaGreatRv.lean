/- InductTwice: all runs. -/
import Derived.KernelRfl
import Derived.Test.YtohijnjnlfdnpaaGreatD0
import Derived.Test.YtohijnjnlfdnpaaGreatD1
import Derived.Test.YtohijnjnlfdnpaaGreatD2
import Derived.Test.YtohijnjnlfdnpaaGreatD3
import Derived.Test.YtohijnjnlfdnpaaGreatD4
import Derived.Test.YtohijnjnlfdnpaaGreatD5
import Derived.Test.YtohijnjnlfdnpaaGreatD6
import Derived.Test.YtohijnjnlfdnpaaGreatD7
import Derived.Test.YtohijnjnlfdnpaaGreatD8
import Derived.Test.YtohijnjnlfdnpaaGreatD9
import Derived.Test.YtohijnjnlfdnpaaGreatD10
import Derived.Test.YtohijnjnlfdnpaaGreatD11
import Derived.Test.YtohijnjnlfdnpaaGreatD12
import Derived.Test.YtohijnjnlfdnpaaGreatD13
import Derived.Test.YtohijnjnlfdnpaaGreatD14
import Derived.Test.YtohijnjnlfdnpaaGreatD15
import Derived.Test.YtohijnjnlfdnpaaGreatD16
import Derived.Test.YtohijnjnlfdnpaaGreatD17
import Derived.Test.YtohijnjnlfdnpaaGreatD18
import Derived.Test.YtohijnjnlfdnpaaGreatD19
import Derived.Test.YtohijnjnlfdnpaaGreatD20
import Derived.Test.YtohijnjnlfdnpaaGreatD21
import Derived.Test.YtohijnjnlfdnpaaGreatD22
import Derived.Test.YtohijnjnlfdnpaaGreatD23
import Derived.Test.YtohijnjnlfdnpaaGreatD24
import Derived.Test.YtohijnjnlfdnpaaGreatD25
import Derived.Test.YtohijnjnlfdnpaaGreatRw
namespace Go.Proofs.YtohijnjnlfdnpaaGreat
open Go Go.Ev Go.Ev.K
theorem runst_at (m0 m1 m2 : Nat) : ∀ j0, m0 % 26 = j0 → GOt m0 m1 m2 j0 (m1 % 3) (m2 % 3) = true
  | 0, h => u0 m0 m1 m2 h _ _ rfl rfl
  | 1, h => u1 m0 m1 m2 h _ _ rfl rfl
  | 2, h => u2 m0 m1 m2 h _ _ rfl rfl
  | 3, h => u3 m0 m1 m2 h _ _ rfl rfl
  | 4, h => u4 m0 m1 m2 h _ _ rfl rfl
  | 5, h => u5 m0 m1 m2 h _ _ rfl rfl
  | 6, h => u6 m0 m1 m2 h _ _ rfl rfl
  | 7, h => u7 m0 m1 m2 h _ _ rfl rfl
  | 8, h => u8 m0 m1 m2 h _ _ rfl rfl
  | 9, h => u9 m0 m1 m2 h _ _ rfl rfl
  | 10, h => u10 m0 m1 m2 h _ _ rfl rfl
  | 11, h => u11 m0 m1 m2 h _ _ rfl rfl
  | 12, h => u12 m0 m1 m2 h _ _ rfl rfl
  | 13, h => u13 m0 m1 m2 h _ _ rfl rfl
  | 14, h => u14 m0 m1 m2 h _ _ rfl rfl
  | 15, h => u15 m0 m1 m2 h _ _ rfl rfl
  | 16, h => u16 m0 m1 m2 h _ _ rfl rfl
  | 17, h => u17 m0 m1 m2 h _ _ rfl rfl
  | 18, h => u18 m0 m1 m2 h _ _ rfl rfl
  | 19, h => u19 m0 m1 m2 h _ _ rfl rfl
  | 20, h => u20 m0 m1 m2 h _ _ rfl rfl
  | 21, h => u21 m0 m1 m2 h _ _ rfl rfl
  | 22, h => u22 m0 m1 m2 h _ _ rfl rfl
  | 23, h => u23 m0 m1 m2 h _ _ rfl rfl
  | 24, h => u24 m0 m1 m2 h _ _ rfl rfl
  | 25, h => u25 m0 m1 m2 h _ _ rfl rfl
  | _ + 26, h => by omega
theorem runst (m0 m1 m2 : Nat) : GOt m0 m1 m2 (m0 % 26) (m1 % 3) (m2 % 3) = true := runst_at m0 m1 m2 _ rfl
theorem law4_tie : resFunc Tryz.prog Tryz.f4 = some rf4 := by kernel_rfl
theorem law4_name : (Tryz.f4.name == "runtime.NumGoroutine") = false := by kernel_rfl
theorem fnok4_of {P : Program} {f : Nat} {fn : Func} {rf : RFunc} (h1 : P.funcs[f]? = some fn) (h2 : resFunc P fn = some rf) (h3 : (fn.name == "runtime.NumGoroutine") = false) : ∃ c, FnOK P f fn c rf := by
  unfold resFunc at h2
  split at h2
  · rename_i code hb
    split at h2
    · rename_i b rs e1 e2
      cases h2
      exact ⟨code, h1, hb, h3, e1, e2⟩
    · cases h2
  · cases h2
end Go.Proofs.YtohijnjnlfdnpaaGreat
