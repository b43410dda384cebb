/- AdmitForms: runs, part 2. -/
import Derived.KernelRfl
import Derived.Test.YtjhcdcnnopgipaaGreatDoorFw
namespace Go.Proofs.YtjhcdcnnopgipaaGreatDoor
open Go Go.Ev Go.Ev.K
theorem tF7_0 (m0 : Nat) (m1 : Nat) : CHF0 m0 m1 7 0 = GOF m0 m1 7 0 := by kernel_rfl
theorem uF7_0 (m0 : Nat) (m1 : Nat) (h0 : m0 % 13 = 7) (b0 : m0 < 256) (h1 : m1 % 3 = 0) (b1 : m1 < 256) : GOF m0 m1 7 0 = true := by rw [← tF7_0 m0 m1]; exact chF0 h0 b0 h1 b1
theorem tF7_1 (m0 : Nat) (m1 : Nat) : CHF0 m0 m1 7 1 = GOF m0 m1 7 1 := by kernel_rfl
theorem uF7_1 (m0 : Nat) (m1 : Nat) (h0 : m0 % 13 = 7) (b0 : m0 < 256) (h1 : m1 % 3 = 1) (b1 : m1 < 256) : GOF m0 m1 7 1 = true := by rw [← tF7_1 m0 m1]; exact chF0 h0 b0 h1 b1
theorem tF7_2 (m0 : Nat) (m1 : Nat) : CHF0 m0 m1 7 2 = GOF m0 m1 7 2 := by kernel_rfl
theorem uF7_2 (m0 : Nat) (m1 : Nat) (h0 : m0 % 13 = 7) (b0 : m0 < 256) (h1 : m1 % 3 = 2) (b1 : m1 < 256) : GOF m0 m1 7 2 = true := by rw [← tF7_2 m0 m1]; exact chF0 h0 b0 h1 b1
theorem tF8_0 (m0 : Nat) (m1 : Nat) : CHF0 m0 m1 8 0 = GOF m0 m1 8 0 := by kernel_rfl
theorem uF8_0 (m0 : Nat) (m1 : Nat) (h0 : m0 % 13 = 8) (b0 : m0 < 256) (h1 : m1 % 3 = 0) (b1 : m1 < 256) : GOF m0 m1 8 0 = true := by rw [← tF8_0 m0 m1]; exact chF0 h0 b0 h1 b1
theorem tF8_1 (m0 : Nat) (m1 : Nat) : CHF0 m0 m1 8 1 = GOF m0 m1 8 1 := by kernel_rfl
theorem uF8_1 (m0 : Nat) (m1 : Nat) (h0 : m0 % 13 = 8) (b0 : m0 < 256) (h1 : m1 % 3 = 1) (b1 : m1 < 256) : GOF m0 m1 8 1 = true := by rw [← tF8_1 m0 m1]; exact chF0 h0 b0 h1 b1
theorem tF8_2 (m0 : Nat) (m1 : Nat) : CHF0 m0 m1 8 2 = GOF m0 m1 8 2 := by kernel_rfl
theorem uF8_2 (m0 : Nat) (m1 : Nat) (h0 : m0 % 13 = 8) (b0 : m0 < 256) (h1 : m1 % 3 = 2) (b1 : m1 < 256) : GOF m0 m1 8 2 = true := by rw [← tF8_2 m0 m1]; exact chF0 h0 b0 h1 b1
theorem tF9_0 (m0 : Nat) (m1 : Nat) : CHF0 m0 m1 9 0 = GOF m0 m1 9 0 := by kernel_rfl
theorem uF9_0 (m0 : Nat) (m1 : Nat) (h0 : m0 % 13 = 9) (b0 : m0 < 256) (h1 : m1 % 3 = 0) (b1 : m1 < 256) : GOF m0 m1 9 0 = true := by rw [← tF9_0 m0 m1]; exact chF0 h0 b0 h1 b1
theorem tF9_1 (m0 : Nat) (m1 : Nat) : CHF0 m0 m1 9 1 = GOF m0 m1 9 1 := by kernel_rfl
theorem uF9_1 (m0 : Nat) (m1 : Nat) (h0 : m0 % 13 = 9) (b0 : m0 < 256) (h1 : m1 % 3 = 1) (b1 : m1 < 256) : GOF m0 m1 9 1 = true := by rw [← tF9_1 m0 m1]; exact chF0 h0 b0 h1 b1
theorem tF9_2 (m0 : Nat) (m1 : Nat) : CHF0 m0 m1 9 2 = GOF m0 m1 9 2 := by kernel_rfl
theorem uF9_2 (m0 : Nat) (m1 : Nat) (h0 : m0 % 13 = 9) (b0 : m0 < 256) (h1 : m1 % 3 = 2) (b1 : m1 < 256) : GOF m0 m1 9 2 = true := by rw [← tF9_2 m0 m1]; exact chF0 h0 b0 h1 b1
theorem tF10_0 (m0 : Nat) (m1 : Nat) : CHF0 m0 m1 10 0 = GOF m0 m1 10 0 := by kernel_rfl
theorem uF10_0 (m0 : Nat) (m1 : Nat) (h0 : m0 % 13 = 10) (b0 : m0 < 256) (h1 : m1 % 3 = 0) (b1 : m1 < 256) : GOF m0 m1 10 0 = true := by rw [← tF10_0 m0 m1]; exact chF0 h0 b0 h1 b1
theorem tF10_1 (m0 : Nat) (m1 : Nat) : CHF0 m0 m1 10 1 = GOF m0 m1 10 1 := by kernel_rfl
theorem uF10_1 (m0 : Nat) (m1 : Nat) (h0 : m0 % 13 = 10) (b0 : m0 < 256) (h1 : m1 % 3 = 1) (b1 : m1 < 256) : GOF m0 m1 10 1 = true := by rw [← tF10_1 m0 m1]; exact chF0 h0 b0 h1 b1
theorem tF10_2 (m0 : Nat) (m1 : Nat) : CHF0 m0 m1 10 2 = GOF m0 m1 10 2 := by kernel_rfl
theorem uF10_2 (m0 : Nat) (m1 : Nat) (h0 : m0 % 13 = 10) (b0 : m0 < 256) (h1 : m1 % 3 = 2) (b1 : m1 < 256) : GOF m0 m1 10 2 = true := by rw [← tF10_2 m0 m1]; exact chF0 h0 b0 h1 b1
theorem tF11_0 (m0 : Nat) (m1 : Nat) : CHF0 m0 m1 11 0 = GOF m0 m1 11 0 := by kernel_rfl
theorem uF11_0 (m0 : Nat) (m1 : Nat) (h0 : m0 % 13 = 11) (b0 : m0 < 256) (h1 : m1 % 3 = 0) (b1 : m1 < 256) : GOF m0 m1 11 0 = true := by rw [← tF11_0 m0 m1]; exact chF0 h0 b0 h1 b1
theorem tF11_1 (m0 : Nat) (m1 : Nat) : CHF0 m0 m1 11 1 = GOF m0 m1 11 1 := by kernel_rfl
theorem uF11_1 (m0 : Nat) (m1 : Nat) (h0 : m0 % 13 = 11) (b0 : m0 < 256) (h1 : m1 % 3 = 1) (b1 : m1 < 256) : GOF m0 m1 11 1 = true := by rw [← tF11_1 m0 m1]; exact chF0 h0 b0 h1 b1
theorem tF11_2 (m0 : Nat) (m1 : Nat) : CHF0 m0 m1 11 2 = GOF m0 m1 11 2 := by kernel_rfl
theorem uF11_2 (m0 : Nat) (m1 : Nat) (h0 : m0 % 13 = 11) (b0 : m0 < 256) (h1 : m1 % 3 = 2) (b1 : m1 < 256) : GOF m0 m1 11 2 = true := by rw [← tF11_2 m0 m1]; exact chF0 h0 b0 h1 b1
theorem tF12_0 (m0 : Nat) (m1 : Nat) : CHF0 m0 m1 12 0 = GOF m0 m1 12 0 := by kernel_rfl
theorem uF12_0 (m0 : Nat) (m1 : Nat) (h0 : m0 % 13 = 12) (b0 : m0 < 256) (h1 : m1 % 3 = 0) (b1 : m1 < 256) : GOF m0 m1 12 0 = true := by rw [← tF12_0 m0 m1]; exact chF0 h0 b0 h1 b1
theorem tF12_1 (m0 : Nat) (m1 : Nat) : CHF0 m0 m1 12 1 = GOF m0 m1 12 1 := by kernel_rfl
theorem uF12_1 (m0 : Nat) (m1 : Nat) (h0 : m0 % 13 = 12) (b0 : m0 < 256) (h1 : m1 % 3 = 1) (b1 : m1 < 256) : GOF m0 m1 12 1 = true := by rw [← tF12_1 m0 m1]; exact chF0 h0 b0 h1 b1
theorem tF12_2 (m0 : Nat) (m1 : Nat) : CHF0 m0 m1 12 2 = GOF m0 m1 12 2 := by kernel_rfl
theorem uF12_2 (m0 : Nat) (m1 : Nat) (h0 : m0 % 13 = 12) (b0 : m0 < 256) (h1 : m1 % 3 = 2) (b1 : m1 < 256) : GOF m0 m1 12 2 = true := by rw [← tF12_2 m0 m1]; exact chF0 h0 b0 h1 b1
end Go.Proofs.YtjhcdcnnopgipaaGreatDoor
