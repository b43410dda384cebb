/- AdmitForms: all runs. -/
import Derived.KernelRfl
import Derived.Test.YtjhcdcnnopgipaaGreatDoorF0
import Derived.Test.YtjhcdcnnopgipaaGreatDoorF1
import Derived.Test.YtjhcdcnnopgipaaGreatDoorRw
namespace Go.Proofs.YtjhcdcnnopgipaaGreatDoor
open Go Go.Ev Go.Ev.K
theorem runsF (m0 : Nat) (m1 : Nat) (b0 : m0 < 256) (b1 : m1 < 256) : GOF m0 m1 (m0 % 13) (m1 % 3) = true := by
  have l0 : m0 % 13 < 13 := Nat.mod_lt _ (by omega)
  have l1 : m1 % 3 < 3 := Nat.mod_lt _ (by omega)
  generalize h0 : m0 % 13 = j0 at l0 ⊢
  generalize h1 : m1 % 3 = j1 at l1 ⊢
  match j0, l0, h0 with
  | 0, _, h0 =>
    match j1, l1, h1 with
    | 0, _, h1 =>
      exact uF0_0 m0 m1 h0 b0 h1 b1
    | 1, _, h1 =>
      exact uF0_1 m0 m1 h0 b0 h1 b1
    | 2, _, h1 =>
      exact uF0_2 m0 m1 h0 b0 h1 b1
    | _ + 3, l1, _ => exact absurd l1 (by omega)
  | 1, _, h0 =>
    match j1, l1, h1 with
    | 0, _, h1 =>
      exact uF1_0 m0 m1 h0 b0 h1 b1
    | 1, _, h1 =>
      exact uF1_1 m0 m1 h0 b0 h1 b1
    | 2, _, h1 =>
      exact uF1_2 m0 m1 h0 b0 h1 b1
    | _ + 3, l1, _ => exact absurd l1 (by omega)
  | 2, _, h0 =>
    match j1, l1, h1 with
    | 0, _, h1 =>
      exact uF2_0 m0 m1 h0 b0 h1 b1
    | 1, _, h1 =>
      exact uF2_1 m0 m1 h0 b0 h1 b1
    | 2, _, h1 =>
      exact uF2_2 m0 m1 h0 b0 h1 b1
    | _ + 3, l1, _ => exact absurd l1 (by omega)
  | 3, _, h0 =>
    match j1, l1, h1 with
    | 0, _, h1 =>
      exact uF3_0 m0 m1 h0 b0 h1 b1
    | 1, _, h1 =>
      exact uF3_1 m0 m1 h0 b0 h1 b1
    | 2, _, h1 =>
      exact uF3_2 m0 m1 h0 b0 h1 b1
    | _ + 3, l1, _ => exact absurd l1 (by omega)
  | 4, _, h0 =>
    match j1, l1, h1 with
    | 0, _, h1 =>
      exact uF4_0 m0 m1 h0 b0 h1 b1
    | 1, _, h1 =>
      exact uF4_1 m0 m1 h0 b0 h1 b1
    | 2, _, h1 =>
      exact uF4_2 m0 m1 h0 b0 h1 b1
    | _ + 3, l1, _ => exact absurd l1 (by omega)
  | 5, _, h0 =>
    match j1, l1, h1 with
    | 0, _, h1 =>
      exact uF5_0 m0 m1 h0 b0 h1 b1
    | 1, _, h1 =>
      exact uF5_1 m0 m1 h0 b0 h1 b1
    | 2, _, h1 =>
      exact uF5_2 m0 m1 h0 b0 h1 b1
    | _ + 3, l1, _ => exact absurd l1 (by omega)
  | 6, _, h0 =>
    match j1, l1, h1 with
    | 0, _, h1 =>
      exact uF6_0 m0 m1 h0 b0 h1 b1
    | 1, _, h1 =>
      exact uF6_1 m0 m1 h0 b0 h1 b1
    | 2, _, h1 =>
      exact uF6_2 m0 m1 h0 b0 h1 b1
    | _ + 3, l1, _ => exact absurd l1 (by omega)
  | 7, _, h0 =>
    match j1, l1, h1 with
    | 0, _, h1 =>
      exact uF7_0 m0 m1 h0 b0 h1 b1
    | 1, _, h1 =>
      exact uF7_1 m0 m1 h0 b0 h1 b1
    | 2, _, h1 =>
      exact uF7_2 m0 m1 h0 b0 h1 b1
    | _ + 3, l1, _ => exact absurd l1 (by omega)
  | 8, _, h0 =>
    match j1, l1, h1 with
    | 0, _, h1 =>
      exact uF8_0 m0 m1 h0 b0 h1 b1
    | 1, _, h1 =>
      exact uF8_1 m0 m1 h0 b0 h1 b1
    | 2, _, h1 =>
      exact uF8_2 m0 m1 h0 b0 h1 b1
    | _ + 3, l1, _ => exact absurd l1 (by omega)
  | 9, _, h0 =>
    match j1, l1, h1 with
    | 0, _, h1 =>
      exact uF9_0 m0 m1 h0 b0 h1 b1
    | 1, _, h1 =>
      exact uF9_1 m0 m1 h0 b0 h1 b1
    | 2, _, h1 =>
      exact uF9_2 m0 m1 h0 b0 h1 b1
    | _ + 3, l1, _ => exact absurd l1 (by omega)
  | 10, _, h0 =>
    match j1, l1, h1 with
    | 0, _, h1 =>
      exact uF10_0 m0 m1 h0 b0 h1 b1
    | 1, _, h1 =>
      exact uF10_1 m0 m1 h0 b0 h1 b1
    | 2, _, h1 =>
      exact uF10_2 m0 m1 h0 b0 h1 b1
    | _ + 3, l1, _ => exact absurd l1 (by omega)
  | 11, _, h0 =>
    match j1, l1, h1 with
    | 0, _, h1 =>
      exact uF11_0 m0 m1 h0 b0 h1 b1
    | 1, _, h1 =>
      exact uF11_1 m0 m1 h0 b0 h1 b1
    | 2, _, h1 =>
      exact uF11_2 m0 m1 h0 b0 h1 b1
    | _ + 3, l1, _ => exact absurd l1 (by omega)
  | 12, _, h0 =>
    match j1, l1, h1 with
    | 0, _, h1 =>
      exact uF12_0 m0 m1 h0 b0 h1 b1
    | 1, _, h1 =>
      exact uF12_1 m0 m1 h0 b0 h1 b1
    | 2, _, h1 =>
      exact uF12_2 m0 m1 h0 b0 h1 b1
    | _ + 3, l1, _ => exact absurd l1 (by omega)
  | _ + 13, l0, _ => exact absurd l0 (by omega)
theorem law4_tie : resFunc Tryz.prog Tryz.f4 = some rf4 := by kernel_rfl
theorem law4_name : (Tryz.f4.name == "runtime.NumGoroutine") = false := by kernel_rfl
end Go.Proofs.YtjhcdcnnopgipaaGreatDoor
