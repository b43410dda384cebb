/- The facts on strings.Builder's functions and types; numDigits at 1. -/
import Derived.Test.YtjhcdcnnopgipaaGreatDoorKd
import Derived.Test.YtjhcdcnnopgipaaGreatDoorRows
import Derived.KernelRfl
namespace Go.Proofs.YtjhcdcnnopgipaaGreatDoor
open Go Go.Ev Go.Ev.K Go.Shelf Go.Proofs Go.RowKit
noncomputable def rho : Go.Shelf.Ren where
  f := fun n => bif Nat.beq n 276 then 270 else (bif Nat.beq n 240 then 226 else (bif Nat.beq n 169 then 172 else (bif Nat.beq n 166 then 171 else (n))))
  t := fun n => bif Nat.beq n 127 then 322 else (bif Nat.beq n 164 then 370 else (bif Nat.beq n 80 then 251 else (bif Nat.beq n 75 then 248 else (bif Nat.beq n 72 then 245 else (bif Nat.beq n 70 then 243 else (bif Nat.beq n 37 then 118 else (bif Nat.beq n 20 then 20 else (bif Nat.beq n 9 then 9 else (bif Nat.beq n 5 then 5 else (bif Nat.beq n 4 then 4 else (bif Nat.beq n 3 then 3 else (bif Nat.beq n 0 then 0 else (n)))))))))))))
  g := fun n => n
theorem lays166 : Lays.n166 Tryz.prog rho where
  mixed := by kernel_rfl
  f166 := by kernel_rfl
  f240 := by kernel_rfl
  f276 := by kernel_rfl
  t0 := by kernel_rfl
  a0 := fun w => by kernel_rfl
  z0 := fun w => by kernel_rfl
  v0 := fun w => by kernel_rfl
  t3 := by kernel_rfl
  a3 := fun w => by kernel_rfl
  z3 := fun w => by kernel_rfl
  v3 := fun w => by kernel_rfl
  t4 := by kernel_rfl
  a4 := fun w => by kernel_rfl
  z4 := fun w => by kernel_rfl
  v4 := fun w => by kernel_rfl
  t9 := by kernel_rfl
  a9 := fun w => by kernel_rfl
  z9 := fun w => by kernel_rfl
  v9 := fun w => by kernel_rfl
  t20 := by kernel_rfl
  a20 := fun w => by kernel_rfl
  z20 := fun w => by kernel_rfl
  v20 := fun w => by kernel_rfl
  t37 := by kernel_rfl
  a37 := fun w => by kernel_rfl
  z37 := fun w => by kernel_rfl
  v37 := fun w => by kernel_rfl
  t70 := by kernel_rfl
  a70 := fun w => by kernel_rfl
  z70 := fun w => by kernel_rfl
  v70 := fun w => by kernel_rfl
  t72 := by kernel_rfl
  a72 := fun w => by kernel_rfl
  z72 := fun w => by kernel_rfl
  v72 := fun w => by kernel_rfl
  t75 := by kernel_rfl
  a75 := fun w => by kernel_rfl
  z75 := fun w => by kernel_rfl
  v75 := fun w => by kernel_rfl
  t164 := by kernel_rfl
  a164 := fun w => by kernel_rfl
  z164 := fun w => by kernel_rfl
  v164 := fun w => by kernel_rfl
theorem lays169 : Lays.n169 Tryz.prog rho where
  mixed := by kernel_rfl
  f169 := by kernel_rfl
  t0 := by kernel_rfl
  a0 := fun w => by kernel_rfl
  z0 := fun w => by kernel_rfl
  v0 := fun w => by kernel_rfl
  t3 := by kernel_rfl
  a3 := fun w => by kernel_rfl
  z3 := fun w => by kernel_rfl
  v3 := fun w => by kernel_rfl
  t9 := by kernel_rfl
  a9 := fun w => by kernel_rfl
  z9 := fun w => by kernel_rfl
  v9 := fun w => by kernel_rfl
  t37 := by kernel_rfl
  a37 := fun w => by kernel_rfl
  z37 := fun w => by kernel_rfl
  v37 := fun w => by kernel_rfl
  t70 := by kernel_rfl
  a70 := fun w => by kernel_rfl
  z70 := fun w => by kernel_rfl
  v70 := fun w => by kernel_rfl
  t72 := by kernel_rfl
  a72 := fun w => by kernel_rfl
  z72 := fun w => by kernel_rfl
  v72 := fun w => by kernel_rfl
  t127 := by kernel_rfl
  a127 := fun w => by kernel_rfl
  z127 := fun w => by kernel_rfl
  v127 := fun w => by kernel_rfl
theorem extra : Builder.Extra Tryz.prog rho where
  sizeBuilder := by kernel_rfl
  liesBuilder := by kernel_rfl
  t5 := by kernel_rfl
  a5 := fun w => by kernel_rfl
  z5 := fun w => by kernel_rfl
  v5 := fun w => by kernel_rfl
  infoByte := by kernel_rfl
  cellsByte := by kernel_rfl
  sizeByte := by kernel_rfl
  neB5 := by show (245 : Nat) ≠ 5; decide
theorem one_type {P : Program} {p : TypeId → Bool} {T : Nat} (hn : ∀ t, P.types.size ≤ t → p t = false) (h : (List.range P.types.size).all (fun t => !p t || Nat.beq t T) = true) : ∀ t, p t = true → t = T := by
  intro t ht
  rcases Nat.lt_or_ge t P.types.size with hl | hl
  · have := List.all_eq_true.1 h t (List.mem_range.2 hl)
    rw [ht] at this
    exact Nat.eq_of_beq_eq_true this
  · rw [hn t hl] at ht; cases ht
theorem no_type {P : Program} {t : TypeId} (h : P.types.size ≤ t) : P.types[t]? = none := by
  have : P.types[t]? = none := Array.getElem?_eq_none h
  exact this
theorem bldP : BldP Tryz.prog rho where
  L6 := lays166
  L9 := lays169
  X := extra
  T := one_type (P := Tryz.prog) (fun t h => by simp only [isBld, no_type h]) (by kernel_rfl)
  E := one_type (P := Tryz.prog) (fun t h => by simp only [isU8, no_type h]) (by kernel_rfl)
  e5 := by kernel_rfl

set_option maxRecDepth 100000 in
theorem len1 (w : World) : Calls Tryz.prog 155 #[.int .u64 1] w fun e w' => e = .returned (.int .i64 1) ∧ w' = w := by
  go_enter Tryz.func155, Tryz.ntmps155
  go_wp2
  go_ret
  exact ⟨by kernel_rfl, rfl⟩
set_option maxRecDepth 100000 in
theorem log1 (w : World) : Calls Tryz.prog 369 #[.int .i64 1] w fun e w' => e = .returned (.int .i64 0) ∧ w' = w := by
  go_enter Tryz.func369, Tryz.ntmps369
  go_wp2
  go_ret
  exact ⟨by kernel_rfl, rfl⟩
set_option maxRecDepth 100000 in
theorem bool1 (w : World) : Calls Tryz.prog 370 #[.bool true] w fun e w' => e = .returned (.int .i64 1) ∧ w' = w := by
  go_enter Tryz.func370, Tryz.ntmps370
  go_wp2
  go_ret
  exact ⟨by kernel_rfl, rfl⟩
set_option maxRecDepth 100000 in
/-- numDigits of 1 -/
theorem nd_walk (w : World) (h : GlobOK Tryz.prog (fun _ => none) w) : Calls Tryz.prog 356 #[.int .u64 1] w fun e w' => e = .returned (.int .i64 1) ∧ w' = w := by
  have hg := (h 0 (by kernel_rfl)).2.1
  go_enter Tryz.func356, Tryz.ntmps356
  go_wp2_with (first | (go_at_call 155; refine (len1 _).mono ?_; rintro e w' ⟨rfl, rfl⟩) | (go_at_call 369; refine (log1 _).mono ?_; rintro e w' ⟨rfl, rfl⟩) | (go_at_call 370; refine (bool1 _).mono ?_; rintro e w' ⟨rfl, rfl⟩))
  go_ret
  exact ⟨by kernel_rfl, rfl⟩
end Go.Proofs.YtjhcdcnnopgipaaGreatDoor
