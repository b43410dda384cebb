/- AdmitOpaque: all runs. -/
import Derived.KernelRfl
import Derived.Test.YtjhcdcnnopgipaaGreatDoorO0
import Derived.Test.YtjhcdcnnopgipaaGreatDoorO1
import Derived.Test.YtjhcdcnnopgipaaGreatDoorO2
import Derived.Test.YtjhcdcnnopgipaaGreatDoorO3
import Derived.Test.YtjhcdcnnopgipaaGreatDoorO4
import Derived.Test.YtjhcdcnnopgipaaGreatDoorO5
import Derived.Test.YtjhcdcnnopgipaaGreatDoorO6
import Derived.Test.YtjhcdcnnopgipaaGreatDoorO7
import Derived.Test.YtjhcdcnnopgipaaGreatDoorO8
import Derived.Test.YtjhcdcnnopgipaaGreatDoorO9
import Derived.Test.YtjhcdcnnopgipaaGreatDoorO10
import Derived.Test.YtjhcdcnnopgipaaGreatDoorO11
import Derived.Test.YtjhcdcnnopgipaaGreatDoorO12
import Derived.Test.YtjhcdcnnopgipaaGreatDoorRw
namespace Go.Proofs.YtjhcdcnnopgipaaGreatDoor
open Go Go.Ev Go.Ev.K
theorem runsO (m0 : Nat) (b1 : Bool) (m2 : Nat) (b0 : m0 < 256) (b2 : m2 < 256) : GOO m0 b1 m2 (m0 % 13) (m2 % 3) = true := by
  have l0 : m0 % 13 < 13 := Nat.mod_lt _ (by omega)
  have l2 : m2 % 3 < 3 := Nat.mod_lt _ (by omega)
  generalize h0 : m0 % 13 = j0 at l0 ⊢
  generalize h2 : m2 % 3 = j2 at l2 ⊢
  match j0, l0, h0 with
  | 0, _, h0 =>
    cases b1 with
    | true =>
      match j2, l2, h2 with
      | 0, _, h2 =>
        exact uO0_true_0 m0 m2 h0 b0 h2 b2
      | 1, _, h2 =>
        exact uO0_true_1 m0 m2 h0 b0 h2 b2
      | 2, _, h2 =>
        exact uO0_true_2 m0 m2 h0 b0 h2 b2
      | _ + 3, l2, _ => exact absurd l2 (by omega)
    | false =>
      match j2, l2, h2 with
      | 0, _, h2 =>
        exact uO0_false_0 m0 m2 h0 b0 h2 b2
      | 1, _, h2 =>
        exact uO0_false_1 m0 m2 h0 b0 h2 b2
      | 2, _, h2 =>
        exact uO0_false_2 m0 m2 h0 b0 h2 b2
      | _ + 3, l2, _ => exact absurd l2 (by omega)
  | 1, _, h0 =>
    cases b1 with
    | true =>
      match j2, l2, h2 with
      | 0, _, h2 =>
        exact uO1_true_0 m0 m2 h0 b0 h2 b2
      | 1, _, h2 =>
        exact uO1_true_1 m0 m2 h0 b0 h2 b2
      | 2, _, h2 =>
        exact uO1_true_2 m0 m2 h0 b0 h2 b2
      | _ + 3, l2, _ => exact absurd l2 (by omega)
    | false =>
      match j2, l2, h2 with
      | 0, _, h2 =>
        exact uO1_false_0 m0 m2 h0 b0 h2 b2
      | 1, _, h2 =>
        exact uO1_false_1 m0 m2 h0 b0 h2 b2
      | 2, _, h2 =>
        exact uO1_false_2 m0 m2 h0 b0 h2 b2
      | _ + 3, l2, _ => exact absurd l2 (by omega)
  | 2, _, h0 =>
    cases b1 with
    | true =>
      match j2, l2, h2 with
      | 0, _, h2 =>
        exact uO2_true_0 m0 m2 h0 b0 h2 b2
      | 1, _, h2 =>
        exact uO2_true_1 m0 m2 h0 b0 h2 b2
      | 2, _, h2 =>
        exact uO2_true_2 m0 m2 h0 b0 h2 b2
      | _ + 3, l2, _ => exact absurd l2 (by omega)
    | false =>
      match j2, l2, h2 with
      | 0, _, h2 =>
        exact uO2_false_0 m0 m2 h0 b0 h2 b2
      | 1, _, h2 =>
        exact uO2_false_1 m0 m2 h0 b0 h2 b2
      | 2, _, h2 =>
        exact uO2_false_2 m0 m2 h0 b0 h2 b2
      | _ + 3, l2, _ => exact absurd l2 (by omega)
  | 3, _, h0 =>
    cases b1 with
    | true =>
      match j2, l2, h2 with
      | 0, _, h2 =>
        exact uO3_true_0 m0 m2 h0 b0 h2 b2
      | 1, _, h2 =>
        exact uO3_true_1 m0 m2 h0 b0 h2 b2
      | 2, _, h2 =>
        exact uO3_true_2 m0 m2 h0 b0 h2 b2
      | _ + 3, l2, _ => exact absurd l2 (by omega)
    | false =>
      match j2, l2, h2 with
      | 0, _, h2 =>
        exact uO3_false_0 m0 m2 h0 b0 h2 b2
      | 1, _, h2 =>
        exact uO3_false_1 m0 m2 h0 b0 h2 b2
      | 2, _, h2 =>
        exact uO3_false_2 m0 m2 h0 b0 h2 b2
      | _ + 3, l2, _ => exact absurd l2 (by omega)
  | 4, _, h0 =>
    cases b1 with
    | true =>
      match j2, l2, h2 with
      | 0, _, h2 =>
        exact uO4_true_0 m0 m2 h0 b0 h2 b2
      | 1, _, h2 =>
        exact uO4_true_1 m0 m2 h0 b0 h2 b2
      | 2, _, h2 =>
        exact uO4_true_2 m0 m2 h0 b0 h2 b2
      | _ + 3, l2, _ => exact absurd l2 (by omega)
    | false =>
      match j2, l2, h2 with
      | 0, _, h2 =>
        exact uO4_false_0 m0 m2 h0 b0 h2 b2
      | 1, _, h2 =>
        exact uO4_false_1 m0 m2 h0 b0 h2 b2
      | 2, _, h2 =>
        exact uO4_false_2 m0 m2 h0 b0 h2 b2
      | _ + 3, l2, _ => exact absurd l2 (by omega)
  | 5, _, h0 =>
    cases b1 with
    | true =>
      match j2, l2, h2 with
      | 0, _, h2 =>
        exact uO5_true_0 m0 m2 h0 b0 h2 b2
      | 1, _, h2 =>
        exact uO5_true_1 m0 m2 h0 b0 h2 b2
      | 2, _, h2 =>
        exact uO5_true_2 m0 m2 h0 b0 h2 b2
      | _ + 3, l2, _ => exact absurd l2 (by omega)
    | false =>
      match j2, l2, h2 with
      | 0, _, h2 =>
        exact uO5_false_0 m0 m2 h0 b0 h2 b2
      | 1, _, h2 =>
        exact uO5_false_1 m0 m2 h0 b0 h2 b2
      | 2, _, h2 =>
        exact uO5_false_2 m0 m2 h0 b0 h2 b2
      | _ + 3, l2, _ => exact absurd l2 (by omega)
  | 6, _, h0 =>
    cases b1 with
    | true =>
      match j2, l2, h2 with
      | 0, _, h2 =>
        exact uO6_true_0 m0 m2 h0 b0 h2 b2
      | 1, _, h2 =>
        exact uO6_true_1 m0 m2 h0 b0 h2 b2
      | 2, _, h2 =>
        exact uO6_true_2 m0 m2 h0 b0 h2 b2
      | _ + 3, l2, _ => exact absurd l2 (by omega)
    | false =>
      match j2, l2, h2 with
      | 0, _, h2 =>
        exact uO6_false_0 m0 m2 h0 b0 h2 b2
      | 1, _, h2 =>
        exact uO6_false_1 m0 m2 h0 b0 h2 b2
      | 2, _, h2 =>
        exact uO6_false_2 m0 m2 h0 b0 h2 b2
      | _ + 3, l2, _ => exact absurd l2 (by omega)
  | 7, _, h0 =>
    cases b1 with
    | true =>
      match j2, l2, h2 with
      | 0, _, h2 =>
        exact uO7_true_0 m0 m2 h0 b0 h2 b2
      | 1, _, h2 =>
        exact uO7_true_1 m0 m2 h0 b0 h2 b2
      | 2, _, h2 =>
        exact uO7_true_2 m0 m2 h0 b0 h2 b2
      | _ + 3, l2, _ => exact absurd l2 (by omega)
    | false =>
      match j2, l2, h2 with
      | 0, _, h2 =>
        exact uO7_false_0 m0 m2 h0 b0 h2 b2
      | 1, _, h2 =>
        exact uO7_false_1 m0 m2 h0 b0 h2 b2
      | 2, _, h2 =>
        exact uO7_false_2 m0 m2 h0 b0 h2 b2
      | _ + 3, l2, _ => exact absurd l2 (by omega)
  | 8, _, h0 =>
    cases b1 with
    | true =>
      match j2, l2, h2 with
      | 0, _, h2 =>
        exact uO8_true_0 m0 m2 h0 b0 h2 b2
      | 1, _, h2 =>
        exact uO8_true_1 m0 m2 h0 b0 h2 b2
      | 2, _, h2 =>
        exact uO8_true_2 m0 m2 h0 b0 h2 b2
      | _ + 3, l2, _ => exact absurd l2 (by omega)
    | false =>
      match j2, l2, h2 with
      | 0, _, h2 =>
        exact uO8_false_0 m0 m2 h0 b0 h2 b2
      | 1, _, h2 =>
        exact uO8_false_1 m0 m2 h0 b0 h2 b2
      | 2, _, h2 =>
        exact uO8_false_2 m0 m2 h0 b0 h2 b2
      | _ + 3, l2, _ => exact absurd l2 (by omega)
  | 9, _, h0 =>
    cases b1 with
    | true =>
      match j2, l2, h2 with
      | 0, _, h2 =>
        exact uO9_true_0 m0 m2 h0 b0 h2 b2
      | 1, _, h2 =>
        exact uO9_true_1 m0 m2 h0 b0 h2 b2
      | 2, _, h2 =>
        exact uO9_true_2 m0 m2 h0 b0 h2 b2
      | _ + 3, l2, _ => exact absurd l2 (by omega)
    | false =>
      match j2, l2, h2 with
      | 0, _, h2 =>
        exact uO9_false_0 m0 m2 h0 b0 h2 b2
      | 1, _, h2 =>
        exact uO9_false_1 m0 m2 h0 b0 h2 b2
      | 2, _, h2 =>
        exact uO9_false_2 m0 m2 h0 b0 h2 b2
      | _ + 3, l2, _ => exact absurd l2 (by omega)
  | 10, _, h0 =>
    cases b1 with
    | true =>
      match j2, l2, h2 with
      | 0, _, h2 =>
        exact uO10_true_0 m0 m2 h0 b0 h2 b2
      | 1, _, h2 =>
        exact uO10_true_1 m0 m2 h0 b0 h2 b2
      | 2, _, h2 =>
        exact uO10_true_2 m0 m2 h0 b0 h2 b2
      | _ + 3, l2, _ => exact absurd l2 (by omega)
    | false =>
      match j2, l2, h2 with
      | 0, _, h2 =>
        exact uO10_false_0 m0 m2 h0 b0 h2 b2
      | 1, _, h2 =>
        exact uO10_false_1 m0 m2 h0 b0 h2 b2
      | 2, _, h2 =>
        exact uO10_false_2 m0 m2 h0 b0 h2 b2
      | _ + 3, l2, _ => exact absurd l2 (by omega)
  | 11, _, h0 =>
    cases b1 with
    | true =>
      match j2, l2, h2 with
      | 0, _, h2 =>
        exact uO11_true_0 m0 m2 h0 b0 h2 b2
      | 1, _, h2 =>
        exact uO11_true_1 m0 m2 h0 b0 h2 b2
      | 2, _, h2 =>
        exact uO11_true_2 m0 m2 h0 b0 h2 b2
      | _ + 3, l2, _ => exact absurd l2 (by omega)
    | false =>
      match j2, l2, h2 with
      | 0, _, h2 =>
        exact uO11_false_0 m0 m2 h0 b0 h2 b2
      | 1, _, h2 =>
        exact uO11_false_1 m0 m2 h0 b0 h2 b2
      | 2, _, h2 =>
        exact uO11_false_2 m0 m2 h0 b0 h2 b2
      | _ + 3, l2, _ => exact absurd l2 (by omega)
  | 12, _, h0 =>
    cases b1 with
    | true =>
      match j2, l2, h2 with
      | 0, _, h2 =>
        exact uO12_true_0 m0 m2 h0 b0 h2 b2
      | 1, _, h2 =>
        exact uO12_true_1 m0 m2 h0 b0 h2 b2
      | 2, _, h2 =>
        exact uO12_true_2 m0 m2 h0 b0 h2 b2
      | _ + 3, l2, _ => exact absurd l2 (by omega)
    | false =>
      match j2, l2, h2 with
      | 0, _, h2 =>
        exact uO12_false_0 m0 m2 h0 b0 h2 b2
      | 1, _, h2 =>
        exact uO12_false_1 m0 m2 h0 b0 h2 b2
      | 2, _, h2 =>
        exact uO12_false_2 m0 m2 h0 b0 h2 b2
      | _ + 3, l2, _ => exact absurd l2 (by omega)
  | _ + 13, l0, _ => exact absurd l0 (by omega)
theorem law3_tie : resFunc Tryz.prog Tryz.f3 = some rf3 := by kernel_rfl
theorem law3_name : (Tryz.f3.name == "runtime.NumGoroutine") = false := by kernel_rfl
end Go.Proofs.YtjhcdcnnopgipaaGreatDoor
