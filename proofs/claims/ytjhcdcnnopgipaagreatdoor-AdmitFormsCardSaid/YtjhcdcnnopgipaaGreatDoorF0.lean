/- AdmitForms: runs, part 1. -/
import Derived.KernelRfl
import Derived.Test.YtjhcdcnnopgipaaGreatDoorFw
namespace Go.Proofs.YtjhcdcnnopgipaaGreatDoor
open Go Go.Ev Go.Ev.K
theorem tF0_0 (m0 : Nat) (m1 : Nat) : CHF0 m0 m1 0 0 = GOF m0 m1 0 0 := by kernel_rfl
theorem uF0_0 (m0 : Nat) (m1 : Nat) (h0 : m0 % 13 = 0) (b0 : m0 < 256) (h1 : m1 % 3 = 0) (b1 : m1 < 256) : GOF m0 m1 0 0 = true := by rw [← tF0_0 m0 m1]; exact chF0 h0 b0 h1 b1
theorem tF0_1 (m0 : Nat) (m1 : Nat) : CHF0 m0 m1 0 1 = GOF m0 m1 0 1 := by kernel_rfl
theorem uF0_1 (m0 : Nat) (m1 : Nat) (h0 : m0 % 13 = 0) (b0 : m0 < 256) (h1 : m1 % 3 = 1) (b1 : m1 < 256) : GOF m0 m1 0 1 = true := by rw [← tF0_1 m0 m1]; exact chF0 h0 b0 h1 b1
theorem tF0_2 (m0 : Nat) (m1 : Nat) : CHF0 m0 m1 0 2 = GOF m0 m1 0 2 := by kernel_rfl
theorem uF0_2 (m0 : Nat) (m1 : Nat) (h0 : m0 % 13 = 0) (b0 : m0 < 256) (h1 : m1 % 3 = 2) (b1 : m1 < 256) : GOF m0 m1 0 2 = true := by rw [← tF0_2 m0 m1]; exact chF0 h0 b0 h1 b1
theorem tF1_0 (m0 : Nat) (m1 : Nat) : CHF0 m0 m1 1 0 = GOF m0 m1 1 0 := by kernel_rfl
theorem uF1_0 (m0 : Nat) (m1 : Nat) (h0 : m0 % 13 = 1) (b0 : m0 < 256) (h1 : m1 % 3 = 0) (b1 : m1 < 256) : GOF m0 m1 1 0 = true := by rw [← tF1_0 m0 m1]; exact chF0 h0 b0 h1 b1
theorem tF1_1 (m0 : Nat) (m1 : Nat) : CHF0 m0 m1 1 1 = GOF m0 m1 1 1 := by kernel_rfl
theorem uF1_1 (m0 : Nat) (m1 : Nat) (h0 : m0 % 13 = 1) (b0 : m0 < 256) (h1 : m1 % 3 = 1) (b1 : m1 < 256) : GOF m0 m1 1 1 = true := by rw [← tF1_1 m0 m1]; exact chF0 h0 b0 h1 b1
theorem tF1_2 (m0 : Nat) (m1 : Nat) : CHF0 m0 m1 1 2 = GOF m0 m1 1 2 := by kernel_rfl
theorem uF1_2 (m0 : Nat) (m1 : Nat) (h0 : m0 % 13 = 1) (b0 : m0 < 256) (h1 : m1 % 3 = 2) (b1 : m1 < 256) : GOF m0 m1 1 2 = true := by rw [← tF1_2 m0 m1]; exact chF0 h0 b0 h1 b1
theorem tF2_0 (m0 : Nat) (m1 : Nat) : CHF0 m0 m1 2 0 = GOF m0 m1 2 0 := by kernel_rfl
theorem uF2_0 (m0 : Nat) (m1 : Nat) (h0 : m0 % 13 = 2) (b0 : m0 < 256) (h1 : m1 % 3 = 0) (b1 : m1 < 256) : GOF m0 m1 2 0 = true := by rw [← tF2_0 m0 m1]; exact chF0 h0 b0 h1 b1
theorem tF2_1 (m0 : Nat) (m1 : Nat) : CHF0 m0 m1 2 1 = GOF m0 m1 2 1 := by kernel_rfl
theorem uF2_1 (m0 : Nat) (m1 : Nat) (h0 : m0 % 13 = 2) (b0 : m0 < 256) (h1 : m1 % 3 = 1) (b1 : m1 < 256) : GOF m0 m1 2 1 = true := by rw [← tF2_1 m0 m1]; exact chF0 h0 b0 h1 b1
theorem tF2_2 (m0 : Nat) (m1 : Nat) : CHF0 m0 m1 2 2 = GOF m0 m1 2 2 := by kernel_rfl
theorem uF2_2 (m0 : Nat) (m1 : Nat) (h0 : m0 % 13 = 2) (b0 : m0 < 256) (h1 : m1 % 3 = 2) (b1 : m1 < 256) : GOF m0 m1 2 2 = true := by rw [← tF2_2 m0 m1]; exact chF0 h0 b0 h1 b1
theorem tF3_0 (m0 : Nat) (m1 : Nat) : CHF0 m0 m1 3 0 = GOF m0 m1 3 0 := by kernel_rfl
theorem uF3_0 (m0 : Nat) (m1 : Nat) (h0 : m0 % 13 = 3) (b0 : m0 < 256) (h1 : m1 % 3 = 0) (b1 : m1 < 256) : GOF m0 m1 3 0 = true := by rw [← tF3_0 m0 m1]; exact chF0 h0 b0 h1 b1
theorem tF3_1 (m0 : Nat) (m1 : Nat) : CHF0 m0 m1 3 1 = GOF m0 m1 3 1 := by kernel_rfl
theorem uF3_1 (m0 : Nat) (m1 : Nat) (h0 : m0 % 13 = 3) (b0 : m0 < 256) (h1 : m1 % 3 = 1) (b1 : m1 < 256) : GOF m0 m1 3 1 = true := by rw [← tF3_1 m0 m1]; exact chF0 h0 b0 h1 b1
theorem tF3_2 (m0 : Nat) (m1 : Nat) : CHF0 m0 m1 3 2 = GOF m0 m1 3 2 := by kernel_rfl
theorem uF3_2 (m0 : Nat) (m1 : Nat) (h0 : m0 % 13 = 3) (b0 : m0 < 256) (h1 : m1 % 3 = 2) (b1 : m1 < 256) : GOF m0 m1 3 2 = true := by rw [← tF3_2 m0 m1]; exact chF0 h0 b0 h1 b1
theorem tF4_0 (m0 : Nat) (m1 : Nat) : CHF0 m0 m1 4 0 = GOF m0 m1 4 0 := by kernel_rfl
theorem uF4_0 (m0 : Nat) (m1 : Nat) (h0 : m0 % 13 = 4) (b0 : m0 < 256) (h1 : m1 % 3 = 0) (b1 : m1 < 256) : GOF m0 m1 4 0 = true := by rw [← tF4_0 m0 m1]; exact chF0 h0 b0 h1 b1
theorem tF4_1 (m0 : Nat) (m1 : Nat) : CHF0 m0 m1 4 1 = GOF m0 m1 4 1 := by kernel_rfl
theorem uF4_1 (m0 : Nat) (m1 : Nat) (h0 : m0 % 13 = 4) (b0 : m0 < 256) (h1 : m1 % 3 = 1) (b1 : m1 < 256) : GOF m0 m1 4 1 = true := by rw [← tF4_1 m0 m1]; exact chF0 h0 b0 h1 b1
theorem tF4_2 (m0 : Nat) (m1 : Nat) : CHF0 m0 m1 4 2 = GOF m0 m1 4 2 := by kernel_rfl
theorem uF4_2 (m0 : Nat) (m1 : Nat) (h0 : m0 % 13 = 4) (b0 : m0 < 256) (h1 : m1 % 3 = 2) (b1 : m1 < 256) : GOF m0 m1 4 2 = true := by rw [← tF4_2 m0 m1]; exact chF0 h0 b0 h1 b1
theorem tF5_0 (m0 : Nat) (m1 : Nat) : CHF0 m0 m1 5 0 = GOF m0 m1 5 0 := by kernel_rfl
theorem uF5_0 (m0 : Nat) (m1 : Nat) (h0 : m0 % 13 = 5) (b0 : m0 < 256) (h1 : m1 % 3 = 0) (b1 : m1 < 256) : GOF m0 m1 5 0 = true := by rw [← tF5_0 m0 m1]; exact chF0 h0 b0 h1 b1
theorem tF5_1 (m0 : Nat) (m1 : Nat) : CHF0 m0 m1 5 1 = GOF m0 m1 5 1 := by kernel_rfl
theorem uF5_1 (m0 : Nat) (m1 : Nat) (h0 : m0 % 13 = 5) (b0 : m0 < 256) (h1 : m1 % 3 = 1) (b1 : m1 < 256) : GOF m0 m1 5 1 = true := by rw [← tF5_1 m0 m1]; exact chF0 h0 b0 h1 b1
theorem tF5_2 (m0 : Nat) (m1 : Nat) : CHF0 m0 m1 5 2 = GOF m0 m1 5 2 := by kernel_rfl
theorem uF5_2 (m0 : Nat) (m1 : Nat) (h0 : m0 % 13 = 5) (b0 : m0 < 256) (h1 : m1 % 3 = 2) (b1 : m1 < 256) : GOF m0 m1 5 2 = true := by rw [← tF5_2 m0 m1]; exact chF0 h0 b0 h1 b1
theorem tF6_0 (m0 : Nat) (m1 : Nat) : CHF0 m0 m1 6 0 = GOF m0 m1 6 0 := by kernel_rfl
theorem uF6_0 (m0 : Nat) (m1 : Nat) (h0 : m0 % 13 = 6) (b0 : m0 < 256) (h1 : m1 % 3 = 0) (b1 : m1 < 256) : GOF m0 m1 6 0 = true := by rw [← tF6_0 m0 m1]; exact chF0 h0 b0 h1 b1
theorem tF6_1 (m0 : Nat) (m1 : Nat) : CHF0 m0 m1 6 1 = GOF m0 m1 6 1 := by kernel_rfl
theorem uF6_1 (m0 : Nat) (m1 : Nat) (h0 : m0 % 13 = 6) (b0 : m0 < 256) (h1 : m1 % 3 = 1) (b1 : m1 < 256) : GOF m0 m1 6 1 = true := by rw [← tF6_1 m0 m1]; exact chF0 h0 b0 h1 b1
theorem tF6_2 (m0 : Nat) (m1 : Nat) : CHF0 m0 m1 6 2 = GOF m0 m1 6 2 := by kernel_rfl
theorem uF6_2 (m0 : Nat) (m1 : Nat) (h0 : m0 % 13 = 6) (b0 : m0 < 256) (h1 : m1 % 3 = 2) (b1 : m1 < 256) : GOF m0 m1 6 2 = true := by rw [← tF6_2 m0 m1]; exact chF0 h0 b0 h1 b1
end Go.Proofs.YtjhcdcnnopgipaaGreatDoor
