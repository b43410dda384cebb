/- The evaluator for the kernel: closures of closed constants. -/
import Derived.Test.YtjhcdcnnopgipaaGreatDoorEd
/- Printed by genk.py. -/
namespace Go.Ev.K
open Go Go.Ev
/-! ## Sixteen-fold nodes -/
inductive D where
  | d0 | d1 | d2 | d3 | d4 | d5 | d6 | d7 | d8 | d9 | d10 | d11 | d12 | d13 | d14 | d15
  deriving DecidableEq
noncomputable def D.nat (d : D) : Nat := match d with | .d0 => 0 | .d1 => 1 | .d2 => 2 | .d3 => 3 | .d4 => 4 | .d5 => 5 | .d6 => 6 | .d7 => 7 | .d8 => 8 | .d9 => 9 | .d10 => 10 | .d11 => 11 | .d12 => 12 | .d13 => 13 | .d14 => 14 | .d15 => 15
noncomputable def T16 (α β : Type) : Type := α → α → α → α → α → α → α → α → α → α → α → α → α → α → α → α → β
noncomputable def N16 (α : Type) : Type := T16 α Bool → Bool
noncomputable def mk16 {α : Type} (f : D → α) : N16 α := fun k => k (f .d0) (f .d1) (f .d2) (f .d3) (f .d4) (f .d5) (f .d6) (f .d7) (f .d8) (f .d9) (f .d10) (f .d11) (f .d12) (f .d13) (f .d14) (f .d15)
noncomputable def S16 (α : Type) : Type := (α → Bool) → T16 α Bool
noncomputable def U16 (α : Type) : Type := α → (N16 α → Bool) → T16 α Bool
noncomputable def s0 (α : Type) : S16 α := fun K x0 _ _ _ _ _ _ _ _ _ _ _ _ _ _ _ => K x0
noncomputable def s1 (α : Type) : S16 α := fun K _ x1 _ _ _ _ _ _ _ _ _ _ _ _ _ _ => K x1
noncomputable def s2 (α : Type) : S16 α := fun K _ _ x2 _ _ _ _ _ _ _ _ _ _ _ _ _ => K x2
noncomputable def s3 (α : Type) : S16 α := fun K _ _ _ x3 _ _ _ _ _ _ _ _ _ _ _ _ => K x3
noncomputable def s4 (α : Type) : S16 α := fun K _ _ _ _ x4 _ _ _ _ _ _ _ _ _ _ _ => K x4
noncomputable def s5 (α : Type) : S16 α := fun K _ _ _ _ _ x5 _ _ _ _ _ _ _ _ _ _ => K x5
noncomputable def s6 (α : Type) : S16 α := fun K _ _ _ _ _ _ x6 _ _ _ _ _ _ _ _ _ => K x6
noncomputable def s7 (α : Type) : S16 α := fun K _ _ _ _ _ _ _ x7 _ _ _ _ _ _ _ _ => K x7
noncomputable def s8 (α : Type) : S16 α := fun K _ _ _ _ _ _ _ _ x8 _ _ _ _ _ _ _ => K x8
noncomputable def s9 (α : Type) : S16 α := fun K _ _ _ _ _ _ _ _ _ x9 _ _ _ _ _ _ => K x9
noncomputable def s10 (α : Type) : S16 α := fun K _ _ _ _ _ _ _ _ _ _ x10 _ _ _ _ _ => K x10
noncomputable def s11 (α : Type) : S16 α := fun K _ _ _ _ _ _ _ _ _ _ _ x11 _ _ _ _ => K x11
noncomputable def s12 (α : Type) : S16 α := fun K _ _ _ _ _ _ _ _ _ _ _ _ x12 _ _ _ => K x12
noncomputable def s13 (α : Type) : S16 α := fun K _ _ _ _ _ _ _ _ _ _ _ _ _ x13 _ _ => K x13
noncomputable def s14 (α : Type) : S16 α := fun K _ _ _ _ _ _ _ _ _ _ _ _ _ _ x14 _ => K x14
noncomputable def s15 (α : Type) : S16 α := fun K _ _ _ _ _ _ _ _ _ _ _ _ _ _ _ x15 => K x15
noncomputable def u0 (α : Type) : U16 α := fun v K _ x1 x2 x3 x4 x5 x6 x7 x8 x9 x10 x11 x12 x13 x14 x15 => K (fun k => k v x1 x2 x3 x4 x5 x6 x7 x8 x9 x10 x11 x12 x13 x14 x15)
noncomputable def u1 (α : Type) : U16 α := fun v K x0 _ x2 x3 x4 x5 x6 x7 x8 x9 x10 x11 x12 x13 x14 x15 => K (fun k => k x0 v x2 x3 x4 x5 x6 x7 x8 x9 x10 x11 x12 x13 x14 x15)
noncomputable def u2 (α : Type) : U16 α := fun v K x0 x1 _ x3 x4 x5 x6 x7 x8 x9 x10 x11 x12 x13 x14 x15 => K (fun k => k x0 x1 v x3 x4 x5 x6 x7 x8 x9 x10 x11 x12 x13 x14 x15)
noncomputable def u3 (α : Type) : U16 α := fun v K x0 x1 x2 _ x4 x5 x6 x7 x8 x9 x10 x11 x12 x13 x14 x15 => K (fun k => k x0 x1 x2 v x4 x5 x6 x7 x8 x9 x10 x11 x12 x13 x14 x15)
noncomputable def u4 (α : Type) : U16 α := fun v K x0 x1 x2 x3 _ x5 x6 x7 x8 x9 x10 x11 x12 x13 x14 x15 => K (fun k => k x0 x1 x2 x3 v x5 x6 x7 x8 x9 x10 x11 x12 x13 x14 x15)
noncomputable def u5 (α : Type) : U16 α := fun v K x0 x1 x2 x3 x4 _ x6 x7 x8 x9 x10 x11 x12 x13 x14 x15 => K (fun k => k x0 x1 x2 x3 x4 v x6 x7 x8 x9 x10 x11 x12 x13 x14 x15)
noncomputable def u6 (α : Type) : U16 α := fun v K x0 x1 x2 x3 x4 x5 _ x7 x8 x9 x10 x11 x12 x13 x14 x15 => K (fun k => k x0 x1 x2 x3 x4 x5 v x7 x8 x9 x10 x11 x12 x13 x14 x15)
noncomputable def u7 (α : Type) : U16 α := fun v K x0 x1 x2 x3 x4 x5 x6 _ x8 x9 x10 x11 x12 x13 x14 x15 => K (fun k => k x0 x1 x2 x3 x4 x5 x6 v x8 x9 x10 x11 x12 x13 x14 x15)
noncomputable def u8 (α : Type) : U16 α := fun v K x0 x1 x2 x3 x4 x5 x6 x7 _ x9 x10 x11 x12 x13 x14 x15 => K (fun k => k x0 x1 x2 x3 x4 x5 x6 x7 v x9 x10 x11 x12 x13 x14 x15)
noncomputable def u9 (α : Type) : U16 α := fun v K x0 x1 x2 x3 x4 x5 x6 x7 x8 _ x10 x11 x12 x13 x14 x15 => K (fun k => k x0 x1 x2 x3 x4 x5 x6 x7 x8 v x10 x11 x12 x13 x14 x15)
noncomputable def u10 (α : Type) : U16 α := fun v K x0 x1 x2 x3 x4 x5 x6 x7 x8 x9 _ x11 x12 x13 x14 x15 => K (fun k => k x0 x1 x2 x3 x4 x5 x6 x7 x8 x9 v x11 x12 x13 x14 x15)
noncomputable def u11 (α : Type) : U16 α := fun v K x0 x1 x2 x3 x4 x5 x6 x7 x8 x9 x10 _ x12 x13 x14 x15 => K (fun k => k x0 x1 x2 x3 x4 x5 x6 x7 x8 x9 x10 v x12 x13 x14 x15)
noncomputable def u12 (α : Type) : U16 α := fun v K x0 x1 x2 x3 x4 x5 x6 x7 x8 x9 x10 x11 _ x13 x14 x15 => K (fun k => k x0 x1 x2 x3 x4 x5 x6 x7 x8 x9 x10 x11 v x13 x14 x15)
noncomputable def u13 (α : Type) : U16 α := fun v K x0 x1 x2 x3 x4 x5 x6 x7 x8 x9 x10 x11 x12 _ x14 x15 => K (fun k => k x0 x1 x2 x3 x4 x5 x6 x7 x8 x9 x10 x11 x12 v x14 x15)
noncomputable def u14 (α : Type) : U16 α := fun v K x0 x1 x2 x3 x4 x5 x6 x7 x8 x9 x10 x11 x12 x13 _ x15 => K (fun k => k x0 x1 x2 x3 x4 x5 x6 x7 x8 x9 x10 x11 x12 x13 v x15)
noncomputable def u15 (α : Type) : U16 α := fun v K x0 x1 x2 x3 x4 x5 x6 x7 x8 x9 x10 x11 x12 x13 x14 _ => K (fun k => k x0 x1 x2 x3 x4 x5 x6 x7 x8 x9 x10 x11 x12 x13 x14 v)
noncomputable def sD (α : Type) (d : D) : S16 α := @D.rec (fun _ => S16 α) (s0 α) (s1 α) (s2 α) (s3 α) (s4 α) (s5 α) (s6 α) (s7 α) (s8 α) (s9 α) (s10 α) (s11 α) (s12 α) (s13 α) (s14 α) (s15 α) d
noncomputable def uD (α : Type) (d : D) : U16 α := @D.rec (fun _ => U16 α) (u0 α) (u1 α) (u2 α) (u3 α) (u4 α) (u5 α) (u6 α) (u7 α) (u8 α) (u9 α) (u10 α) (u11 α) (u12 α) (u13 α) (u14 α) (u15 α) d
inductive SUP (A B : Type) where
  | mk (s : A) (u : B)
abbrev SU (α : Type) : Type := SUP (S16 α) (U16 α)
noncomputable def suD (α : Type) (d : D) : SU α := @D.rec (fun _ => SU α) (SUP.mk (s0 α) (u0 α)) (SUP.mk (s1 α) (u1 α)) (SUP.mk (s2 α) (u2 α)) (SUP.mk (s3 α) (u3 α)) (SUP.mk (s4 α) (u4 α)) (SUP.mk (s5 α) (u5 α)) (SUP.mk (s6 α) (u6 α)) (SUP.mk (s7 α) (u7 α)) (SUP.mk (s8 α) (u8 α)) (SUP.mk (s9 α) (u9 α)) (SUP.mk (s10 α) (u10 α)) (SUP.mk (s11 α) (u11 α)) (SUP.mk (s12 α) (u12 α)) (SUP.mk (s13 α) (u13 α)) (SUP.mk (s14 α) (u14 α)) (SUP.mk (s15 α) (u15 α)) d
noncomputable def D.of (n : Nat) : D := match n with | 0 => .d0 | 1 => .d1 | 2 => .d2 | 3 => .d3 | 4 => .d4 | 5 => .d5 | 6 => .d6 | 7 => .d7 | 8 => .d8 | 9 => .d9 | 10 => .d10 | 11 => .d11 | 12 => .d12 | 13 => .d13 | 14 => .d14 | _ => .d15

/-! ## The environment -/
noncomputable def A1 : Type := N16 AV
noncomputable def KEnv : Type := N16 A1
abbrev Rd := KEnv → (AV → Bool) → Bool
abbrev Wr := AV → KEnv → (KEnv → Bool) → Bool
noncomputable def rdA (a b : D) : Rd := fun e K => e (sD A1 a (fun row => row (sD AV b K)))
noncomputable def wrA (a b : D) : Wr := fun v e K => e (sD A1 a (fun row => row (uD AV b v (fun row' => e (uD A1 a row' K)))))
/-- the reading, the writing of a slot -/
noncomputable def rd (i : Nat) : Rd := @Bool.rec (fun _ => Rd) (fun _ _ => false) (rdA (D.of (i / 16)) (D.of (i % 16))) (Nat.blt i 255)
noncomputable def wr (i : Nat) : Wr := @Bool.rec (fun _ => Wr) (fun _ _ _ => false) (wrA (D.of (i / 16)) (D.of (i % 16))) (Nat.blt i 255)
noncomputable def wNo : Wr := fun _ e K => K e
noncomputable def kc (v : AV) : Rd := fun _ K => K v
noncomputable def row0 : A1 := mk16 (fun _ => AV.undef)
noncomputable def env0 : KEnv := mk16 (fun _ => row0)
noncomputable def us16 : List (U16 AV) := [u0 AV, u1 AV, u2 AV, u3 AV, u4 AV, u5 AV, u6 AV, u7 AV, u8 AV, u9 AV, u10 AV, u11 AV, u12 AV, u13 AV, u14 AV, u15 AV]
noncomputable def r0 : Rd := fun e K => e (s0 A1 (fun row => row (s0 AV K)))
noncomputable def r1 : Rd := fun e K => e (s0 A1 (fun row => row (s1 AV K)))
noncomputable def r2 : Rd := fun e K => e (s0 A1 (fun row => row (s2 AV K)))
noncomputable def r3 : Rd := fun e K => e (s0 A1 (fun row => row (s3 AV K)))
noncomputable def r4 : Rd := fun e K => e (s0 A1 (fun row => row (s4 AV K)))
noncomputable def r5 : Rd := fun e K => e (s0 A1 (fun row => row (s5 AV K)))
noncomputable def r6 : Rd := fun e K => e (s0 A1 (fun row => row (s6 AV K)))
noncomputable def r7 : Rd := fun e K => e (s0 A1 (fun row => row (s7 AV K)))
noncomputable def r8 : Rd := fun e K => e (s0 A1 (fun row => row (s8 AV K)))
noncomputable def r9 : Rd := fun e K => e (s0 A1 (fun row => row (s9 AV K)))
noncomputable def r10 : Rd := fun e K => e (s0 A1 (fun row => row (s10 AV K)))
noncomputable def r11 : Rd := fun e K => e (s0 A1 (fun row => row (s11 AV K)))
noncomputable def r12 : Rd := fun e K => e (s0 A1 (fun row => row (s12 AV K)))
noncomputable def r13 : Rd := fun e K => e (s0 A1 (fun row => row (s13 AV K)))
noncomputable def r14 : Rd := fun e K => e (s0 A1 (fun row => row (s14 AV K)))
noncomputable def r15 : Rd := fun e K => e (s0 A1 (fun row => row (s15 AV K)))
noncomputable def r16 : Rd := fun e K => e (s1 A1 (fun row => row (s0 AV K)))
noncomputable def r17 : Rd := fun e K => e (s1 A1 (fun row => row (s1 AV K)))
noncomputable def r18 : Rd := fun e K => e (s1 A1 (fun row => row (s2 AV K)))
noncomputable def r19 : Rd := fun e K => e (s1 A1 (fun row => row (s3 AV K)))
noncomputable def r20 : Rd := fun e K => e (s1 A1 (fun row => row (s4 AV K)))
noncomputable def r21 : Rd := fun e K => e (s1 A1 (fun row => row (s5 AV K)))
noncomputable def r22 : Rd := fun e K => e (s1 A1 (fun row => row (s6 AV K)))
noncomputable def r23 : Rd := fun e K => e (s1 A1 (fun row => row (s7 AV K)))
noncomputable def r24 : Rd := fun e K => e (s1 A1 (fun row => row (s8 AV K)))
noncomputable def r25 : Rd := fun e K => e (s1 A1 (fun row => row (s9 AV K)))
noncomputable def r26 : Rd := fun e K => e (s1 A1 (fun row => row (s10 AV K)))
noncomputable def r27 : Rd := fun e K => e (s1 A1 (fun row => row (s11 AV K)))
noncomputable def r28 : Rd := fun e K => e (s1 A1 (fun row => row (s12 AV K)))
noncomputable def r29 : Rd := fun e K => e (s1 A1 (fun row => row (s13 AV K)))
noncomputable def r30 : Rd := fun e K => e (s1 A1 (fun row => row (s14 AV K)))
noncomputable def r31 : Rd := fun e K => e (s1 A1 (fun row => row (s15 AV K)))
noncomputable def r32 : Rd := fun e K => e (s2 A1 (fun row => row (s0 AV K)))
noncomputable def r33 : Rd := fun e K => e (s2 A1 (fun row => row (s1 AV K)))
noncomputable def r34 : Rd := fun e K => e (s2 A1 (fun row => row (s2 AV K)))
noncomputable def r35 : Rd := fun e K => e (s2 A1 (fun row => row (s3 AV K)))
noncomputable def r36 : Rd := fun e K => e (s2 A1 (fun row => row (s4 AV K)))
noncomputable def r37 : Rd := fun e K => e (s2 A1 (fun row => row (s5 AV K)))
noncomputable def r38 : Rd := fun e K => e (s2 A1 (fun row => row (s6 AV K)))
noncomputable def r39 : Rd := fun e K => e (s2 A1 (fun row => row (s7 AV K)))
noncomputable def r40 : Rd := fun e K => e (s2 A1 (fun row => row (s8 AV K)))
noncomputable def r41 : Rd := fun e K => e (s2 A1 (fun row => row (s9 AV K)))
noncomputable def r42 : Rd := fun e K => e (s2 A1 (fun row => row (s10 AV K)))
noncomputable def r43 : Rd := fun e K => e (s2 A1 (fun row => row (s11 AV K)))
noncomputable def r44 : Rd := fun e K => e (s2 A1 (fun row => row (s12 AV K)))
noncomputable def r45 : Rd := fun e K => e (s2 A1 (fun row => row (s13 AV K)))
noncomputable def r46 : Rd := fun e K => e (s2 A1 (fun row => row (s14 AV K)))
noncomputable def r47 : Rd := fun e K => e (s2 A1 (fun row => row (s15 AV K)))
noncomputable def r48 : Rd := fun e K => e (s3 A1 (fun row => row (s0 AV K)))
noncomputable def r49 : Rd := fun e K => e (s3 A1 (fun row => row (s1 AV K)))
noncomputable def r50 : Rd := fun e K => e (s3 A1 (fun row => row (s2 AV K)))
noncomputable def r51 : Rd := fun e K => e (s3 A1 (fun row => row (s3 AV K)))
noncomputable def r52 : Rd := fun e K => e (s3 A1 (fun row => row (s4 AV K)))
noncomputable def r53 : Rd := fun e K => e (s3 A1 (fun row => row (s5 AV K)))
noncomputable def r54 : Rd := fun e K => e (s3 A1 (fun row => row (s6 AV K)))
noncomputable def r55 : Rd := fun e K => e (s3 A1 (fun row => row (s7 AV K)))
noncomputable def r56 : Rd := fun e K => e (s3 A1 (fun row => row (s8 AV K)))
noncomputable def r57 : Rd := fun e K => e (s3 A1 (fun row => row (s9 AV K)))
noncomputable def r58 : Rd := fun e K => e (s3 A1 (fun row => row (s10 AV K)))
noncomputable def r59 : Rd := fun e K => e (s3 A1 (fun row => row (s11 AV K)))
noncomputable def r60 : Rd := fun e K => e (s3 A1 (fun row => row (s12 AV K)))
noncomputable def r61 : Rd := fun e K => e (s3 A1 (fun row => row (s13 AV K)))
noncomputable def r62 : Rd := fun e K => e (s3 A1 (fun row => row (s14 AV K)))
noncomputable def r63 : Rd := fun e K => e (s3 A1 (fun row => row (s15 AV K)))
noncomputable def r64 : Rd := fun e K => e (s4 A1 (fun row => row (s0 AV K)))
noncomputable def r65 : Rd := fun e K => e (s4 A1 (fun row => row (s1 AV K)))
noncomputable def r66 : Rd := fun e K => e (s4 A1 (fun row => row (s2 AV K)))
noncomputable def r67 : Rd := fun e K => e (s4 A1 (fun row => row (s3 AV K)))
noncomputable def r68 : Rd := fun e K => e (s4 A1 (fun row => row (s4 AV K)))
noncomputable def r69 : Rd := fun e K => e (s4 A1 (fun row => row (s5 AV K)))
noncomputable def r70 : Rd := fun e K => e (s4 A1 (fun row => row (s6 AV K)))
noncomputable def r71 : Rd := fun e K => e (s4 A1 (fun row => row (s7 AV K)))
noncomputable def r72 : Rd := fun e K => e (s4 A1 (fun row => row (s8 AV K)))
noncomputable def r73 : Rd := fun e K => e (s4 A1 (fun row => row (s9 AV K)))
noncomputable def r74 : Rd := fun e K => e (s4 A1 (fun row => row (s10 AV K)))
noncomputable def r75 : Rd := fun e K => e (s4 A1 (fun row => row (s11 AV K)))
noncomputable def r76 : Rd := fun e K => e (s4 A1 (fun row => row (s12 AV K)))
noncomputable def r77 : Rd := fun e K => e (s4 A1 (fun row => row (s13 AV K)))
noncomputable def r78 : Rd := fun e K => e (s4 A1 (fun row => row (s14 AV K)))
noncomputable def r79 : Rd := fun e K => e (s4 A1 (fun row => row (s15 AV K)))
noncomputable def r80 : Rd := fun e K => e (s5 A1 (fun row => row (s0 AV K)))
noncomputable def r81 : Rd := fun e K => e (s5 A1 (fun row => row (s1 AV K)))
noncomputable def r82 : Rd := fun e K => e (s5 A1 (fun row => row (s2 AV K)))
noncomputable def r83 : Rd := fun e K => e (s5 A1 (fun row => row (s3 AV K)))
noncomputable def r84 : Rd := fun e K => e (s5 A1 (fun row => row (s4 AV K)))
noncomputable def r85 : Rd := fun e K => e (s5 A1 (fun row => row (s5 AV K)))
noncomputable def r86 : Rd := fun e K => e (s5 A1 (fun row => row (s6 AV K)))
noncomputable def r87 : Rd := fun e K => e (s5 A1 (fun row => row (s7 AV K)))
noncomputable def r88 : Rd := fun e K => e (s5 A1 (fun row => row (s8 AV K)))
noncomputable def r89 : Rd := fun e K => e (s5 A1 (fun row => row (s9 AV K)))
noncomputable def r90 : Rd := fun e K => e (s5 A1 (fun row => row (s10 AV K)))
noncomputable def r91 : Rd := fun e K => e (s5 A1 (fun row => row (s11 AV K)))
noncomputable def r92 : Rd := fun e K => e (s5 A1 (fun row => row (s12 AV K)))
noncomputable def r93 : Rd := fun e K => e (s5 A1 (fun row => row (s13 AV K)))
noncomputable def r94 : Rd := fun e K => e (s5 A1 (fun row => row (s14 AV K)))
noncomputable def r95 : Rd := fun e K => e (s5 A1 (fun row => row (s15 AV K)))
noncomputable def r96 : Rd := fun e K => e (s6 A1 (fun row => row (s0 AV K)))
noncomputable def r97 : Rd := fun e K => e (s6 A1 (fun row => row (s1 AV K)))
noncomputable def r98 : Rd := fun e K => e (s6 A1 (fun row => row (s2 AV K)))
noncomputable def r99 : Rd := fun e K => e (s6 A1 (fun row => row (s3 AV K)))
noncomputable def r100 : Rd := fun e K => e (s6 A1 (fun row => row (s4 AV K)))
noncomputable def r101 : Rd := fun e K => e (s6 A1 (fun row => row (s5 AV K)))
noncomputable def r102 : Rd := fun e K => e (s6 A1 (fun row => row (s6 AV K)))
noncomputable def r103 : Rd := fun e K => e (s6 A1 (fun row => row (s7 AV K)))
noncomputable def r104 : Rd := fun e K => e (s6 A1 (fun row => row (s8 AV K)))
noncomputable def r105 : Rd := fun e K => e (s6 A1 (fun row => row (s9 AV K)))
noncomputable def r106 : Rd := fun e K => e (s6 A1 (fun row => row (s10 AV K)))
noncomputable def r107 : Rd := fun e K => e (s6 A1 (fun row => row (s11 AV K)))
noncomputable def r108 : Rd := fun e K => e (s6 A1 (fun row => row (s12 AV K)))
noncomputable def r109 : Rd := fun e K => e (s6 A1 (fun row => row (s13 AV K)))
noncomputable def r110 : Rd := fun e K => e (s6 A1 (fun row => row (s14 AV K)))
noncomputable def r111 : Rd := fun e K => e (s6 A1 (fun row => row (s15 AV K)))
noncomputable def r112 : Rd := fun e K => e (s7 A1 (fun row => row (s0 AV K)))
noncomputable def r113 : Rd := fun e K => e (s7 A1 (fun row => row (s1 AV K)))
noncomputable def r114 : Rd := fun e K => e (s7 A1 (fun row => row (s2 AV K)))
noncomputable def r115 : Rd := fun e K => e (s7 A1 (fun row => row (s3 AV K)))
noncomputable def r116 : Rd := fun e K => e (s7 A1 (fun row => row (s4 AV K)))
noncomputable def r117 : Rd := fun e K => e (s7 A1 (fun row => row (s5 AV K)))
noncomputable def r118 : Rd := fun e K => e (s7 A1 (fun row => row (s6 AV K)))
noncomputable def r119 : Rd := fun e K => e (s7 A1 (fun row => row (s7 AV K)))
noncomputable def r120 : Rd := fun e K => e (s7 A1 (fun row => row (s8 AV K)))
noncomputable def r121 : Rd := fun e K => e (s7 A1 (fun row => row (s9 AV K)))
noncomputable def r122 : Rd := fun e K => e (s7 A1 (fun row => row (s10 AV K)))
noncomputable def r123 : Rd := fun e K => e (s7 A1 (fun row => row (s11 AV K)))
noncomputable def r124 : Rd := fun e K => e (s7 A1 (fun row => row (s12 AV K)))
noncomputable def r125 : Rd := fun e K => e (s7 A1 (fun row => row (s13 AV K)))
noncomputable def r126 : Rd := fun e K => e (s7 A1 (fun row => row (s14 AV K)))
noncomputable def r127 : Rd := fun e K => e (s7 A1 (fun row => row (s15 AV K)))
noncomputable def r128 : Rd := fun e K => e (s8 A1 (fun row => row (s0 AV K)))
noncomputable def r129 : Rd := fun e K => e (s8 A1 (fun row => row (s1 AV K)))
noncomputable def r130 : Rd := fun e K => e (s8 A1 (fun row => row (s2 AV K)))
noncomputable def r131 : Rd := fun e K => e (s8 A1 (fun row => row (s3 AV K)))
noncomputable def r132 : Rd := fun e K => e (s8 A1 (fun row => row (s4 AV K)))
noncomputable def r133 : Rd := fun e K => e (s8 A1 (fun row => row (s5 AV K)))
noncomputable def r134 : Rd := fun e K => e (s8 A1 (fun row => row (s6 AV K)))
noncomputable def r135 : Rd := fun e K => e (s8 A1 (fun row => row (s7 AV K)))
noncomputable def r136 : Rd := fun e K => e (s8 A1 (fun row => row (s8 AV K)))
noncomputable def r137 : Rd := fun e K => e (s8 A1 (fun row => row (s9 AV K)))
noncomputable def r138 : Rd := fun e K => e (s8 A1 (fun row => row (s10 AV K)))
noncomputable def r139 : Rd := fun e K => e (s8 A1 (fun row => row (s11 AV K)))
noncomputable def r140 : Rd := fun e K => e (s8 A1 (fun row => row (s12 AV K)))
noncomputable def r141 : Rd := fun e K => e (s8 A1 (fun row => row (s13 AV K)))
noncomputable def r142 : Rd := fun e K => e (s8 A1 (fun row => row (s14 AV K)))
noncomputable def r143 : Rd := fun e K => e (s8 A1 (fun row => row (s15 AV K)))
noncomputable def r144 : Rd := fun e K => e (s9 A1 (fun row => row (s0 AV K)))
noncomputable def r145 : Rd := fun e K => e (s9 A1 (fun row => row (s1 AV K)))
noncomputable def r146 : Rd := fun e K => e (s9 A1 (fun row => row (s2 AV K)))
noncomputable def r147 : Rd := fun e K => e (s9 A1 (fun row => row (s3 AV K)))
noncomputable def r148 : Rd := fun e K => e (s9 A1 (fun row => row (s4 AV K)))
noncomputable def r149 : Rd := fun e K => e (s9 A1 (fun row => row (s5 AV K)))
noncomputable def r150 : Rd := fun e K => e (s9 A1 (fun row => row (s6 AV K)))
noncomputable def r151 : Rd := fun e K => e (s9 A1 (fun row => row (s7 AV K)))
noncomputable def r152 : Rd := fun e K => e (s9 A1 (fun row => row (s8 AV K)))
noncomputable def r153 : Rd := fun e K => e (s9 A1 (fun row => row (s9 AV K)))
noncomputable def r154 : Rd := fun e K => e (s9 A1 (fun row => row (s10 AV K)))
noncomputable def r155 : Rd := fun e K => e (s9 A1 (fun row => row (s11 AV K)))
noncomputable def r156 : Rd := fun e K => e (s9 A1 (fun row => row (s12 AV K)))
noncomputable def r157 : Rd := fun e K => e (s9 A1 (fun row => row (s13 AV K)))
noncomputable def r158 : Rd := fun e K => e (s9 A1 (fun row => row (s14 AV K)))
noncomputable def r159 : Rd := fun e K => e (s9 A1 (fun row => row (s15 AV K)))
noncomputable def r160 : Rd := fun e K => e (s10 A1 (fun row => row (s0 AV K)))
noncomputable def r161 : Rd := fun e K => e (s10 A1 (fun row => row (s1 AV K)))
noncomputable def r162 : Rd := fun e K => e (s10 A1 (fun row => row (s2 AV K)))
noncomputable def r163 : Rd := fun e K => e (s10 A1 (fun row => row (s3 AV K)))
noncomputable def r164 : Rd := fun e K => e (s10 A1 (fun row => row (s4 AV K)))
noncomputable def r165 : Rd := fun e K => e (s10 A1 (fun row => row (s5 AV K)))
noncomputable def r166 : Rd := fun e K => e (s10 A1 (fun row => row (s6 AV K)))
noncomputable def r167 : Rd := fun e K => e (s10 A1 (fun row => row (s7 AV K)))
noncomputable def r168 : Rd := fun e K => e (s10 A1 (fun row => row (s8 AV K)))
noncomputable def r169 : Rd := fun e K => e (s10 A1 (fun row => row (s9 AV K)))
noncomputable def r170 : Rd := fun e K => e (s10 A1 (fun row => row (s10 AV K)))
noncomputable def r171 : Rd := fun e K => e (s10 A1 (fun row => row (s11 AV K)))
noncomputable def r172 : Rd := fun e K => e (s10 A1 (fun row => row (s12 AV K)))
noncomputable def r173 : Rd := fun e K => e (s10 A1 (fun row => row (s13 AV K)))
noncomputable def r174 : Rd := fun e K => e (s10 A1 (fun row => row (s14 AV K)))
noncomputable def r175 : Rd := fun e K => e (s10 A1 (fun row => row (s15 AV K)))
noncomputable def r176 : Rd := fun e K => e (s11 A1 (fun row => row (s0 AV K)))
noncomputable def r177 : Rd := fun e K => e (s11 A1 (fun row => row (s1 AV K)))
noncomputable def r178 : Rd := fun e K => e (s11 A1 (fun row => row (s2 AV K)))
noncomputable def r179 : Rd := fun e K => e (s11 A1 (fun row => row (s3 AV K)))
noncomputable def r180 : Rd := fun e K => e (s11 A1 (fun row => row (s4 AV K)))
noncomputable def r181 : Rd := fun e K => e (s11 A1 (fun row => row (s5 AV K)))
noncomputable def r182 : Rd := fun e K => e (s11 A1 (fun row => row (s6 AV K)))
noncomputable def r183 : Rd := fun e K => e (s11 A1 (fun row => row (s7 AV K)))
noncomputable def r184 : Rd := fun e K => e (s11 A1 (fun row => row (s8 AV K)))
noncomputable def r185 : Rd := fun e K => e (s11 A1 (fun row => row (s9 AV K)))
noncomputable def r186 : Rd := fun e K => e (s11 A1 (fun row => row (s10 AV K)))
noncomputable def r187 : Rd := fun e K => e (s11 A1 (fun row => row (s11 AV K)))
noncomputable def r188 : Rd := fun e K => e (s11 A1 (fun row => row (s12 AV K)))
noncomputable def r189 : Rd := fun e K => e (s11 A1 (fun row => row (s13 AV K)))
noncomputable def r190 : Rd := fun e K => e (s11 A1 (fun row => row (s14 AV K)))
noncomputable def r191 : Rd := fun e K => e (s11 A1 (fun row => row (s15 AV K)))
noncomputable def r192 : Rd := fun e K => e (s12 A1 (fun row => row (s0 AV K)))
noncomputable def r193 : Rd := fun e K => e (s12 A1 (fun row => row (s1 AV K)))
noncomputable def r194 : Rd := fun e K => e (s12 A1 (fun row => row (s2 AV K)))
noncomputable def r195 : Rd := fun e K => e (s12 A1 (fun row => row (s3 AV K)))
noncomputable def r196 : Rd := fun e K => e (s12 A1 (fun row => row (s4 AV K)))
noncomputable def r197 : Rd := fun e K => e (s12 A1 (fun row => row (s5 AV K)))
noncomputable def r198 : Rd := fun e K => e (s12 A1 (fun row => row (s6 AV K)))
noncomputable def r199 : Rd := fun e K => e (s12 A1 (fun row => row (s7 AV K)))
noncomputable def r200 : Rd := fun e K => e (s12 A1 (fun row => row (s8 AV K)))
noncomputable def r201 : Rd := fun e K => e (s12 A1 (fun row => row (s9 AV K)))
noncomputable def r202 : Rd := fun e K => e (s12 A1 (fun row => row (s10 AV K)))
noncomputable def r203 : Rd := fun e K => e (s12 A1 (fun row => row (s11 AV K)))
noncomputable def r204 : Rd := fun e K => e (s12 A1 (fun row => row (s12 AV K)))
noncomputable def r205 : Rd := fun e K => e (s12 A1 (fun row => row (s13 AV K)))
noncomputable def r206 : Rd := fun e K => e (s12 A1 (fun row => row (s14 AV K)))
noncomputable def r207 : Rd := fun e K => e (s12 A1 (fun row => row (s15 AV K)))
noncomputable def r208 : Rd := fun e K => e (s13 A1 (fun row => row (s0 AV K)))
noncomputable def r209 : Rd := fun e K => e (s13 A1 (fun row => row (s1 AV K)))
noncomputable def r210 : Rd := fun e K => e (s13 A1 (fun row => row (s2 AV K)))
noncomputable def r211 : Rd := fun e K => e (s13 A1 (fun row => row (s3 AV K)))
noncomputable def r212 : Rd := fun e K => e (s13 A1 (fun row => row (s4 AV K)))
noncomputable def r213 : Rd := fun e K => e (s13 A1 (fun row => row (s5 AV K)))
noncomputable def r214 : Rd := fun e K => e (s13 A1 (fun row => row (s6 AV K)))
noncomputable def r215 : Rd := fun e K => e (s13 A1 (fun row => row (s7 AV K)))
noncomputable def r216 : Rd := fun e K => e (s13 A1 (fun row => row (s8 AV K)))
noncomputable def r217 : Rd := fun e K => e (s13 A1 (fun row => row (s9 AV K)))
noncomputable def r218 : Rd := fun e K => e (s13 A1 (fun row => row (s10 AV K)))
noncomputable def r219 : Rd := fun e K => e (s13 A1 (fun row => row (s11 AV K)))
noncomputable def r220 : Rd := fun e K => e (s13 A1 (fun row => row (s12 AV K)))
noncomputable def r221 : Rd := fun e K => e (s13 A1 (fun row => row (s13 AV K)))
noncomputable def r222 : Rd := fun e K => e (s13 A1 (fun row => row (s14 AV K)))
noncomputable def r223 : Rd := fun e K => e (s13 A1 (fun row => row (s15 AV K)))
noncomputable def r224 : Rd := fun e K => e (s14 A1 (fun row => row (s0 AV K)))
noncomputable def r225 : Rd := fun e K => e (s14 A1 (fun row => row (s1 AV K)))
noncomputable def r226 : Rd := fun e K => e (s14 A1 (fun row => row (s2 AV K)))
noncomputable def r227 : Rd := fun e K => e (s14 A1 (fun row => row (s3 AV K)))
noncomputable def r228 : Rd := fun e K => e (s14 A1 (fun row => row (s4 AV K)))
noncomputable def r229 : Rd := fun e K => e (s14 A1 (fun row => row (s5 AV K)))
noncomputable def r230 : Rd := fun e K => e (s14 A1 (fun row => row (s6 AV K)))
noncomputable def r231 : Rd := fun e K => e (s14 A1 (fun row => row (s7 AV K)))
noncomputable def r232 : Rd := fun e K => e (s14 A1 (fun row => row (s8 AV K)))
noncomputable def r233 : Rd := fun e K => e (s14 A1 (fun row => row (s9 AV K)))
noncomputable def r234 : Rd := fun e K => e (s14 A1 (fun row => row (s10 AV K)))
noncomputable def r235 : Rd := fun e K => e (s14 A1 (fun row => row (s11 AV K)))
noncomputable def r236 : Rd := fun e K => e (s14 A1 (fun row => row (s12 AV K)))
noncomputable def r237 : Rd := fun e K => e (s14 A1 (fun row => row (s13 AV K)))
noncomputable def r238 : Rd := fun e K => e (s14 A1 (fun row => row (s14 AV K)))
noncomputable def r239 : Rd := fun e K => e (s14 A1 (fun row => row (s15 AV K)))
noncomputable def r240 : Rd := fun e K => e (s15 A1 (fun row => row (s0 AV K)))
noncomputable def r241 : Rd := fun e K => e (s15 A1 (fun row => row (s1 AV K)))
noncomputable def r242 : Rd := fun e K => e (s15 A1 (fun row => row (s2 AV K)))
noncomputable def r243 : Rd := fun e K => e (s15 A1 (fun row => row (s3 AV K)))
noncomputable def r244 : Rd := fun e K => e (s15 A1 (fun row => row (s4 AV K)))
noncomputable def r245 : Rd := fun e K => e (s15 A1 (fun row => row (s5 AV K)))
noncomputable def r246 : Rd := fun e K => e (s15 A1 (fun row => row (s6 AV K)))
noncomputable def r247 : Rd := fun e K => e (s15 A1 (fun row => row (s7 AV K)))
noncomputable def r248 : Rd := fun e K => e (s15 A1 (fun row => row (s8 AV K)))
noncomputable def r249 : Rd := fun e K => e (s15 A1 (fun row => row (s9 AV K)))
noncomputable def r250 : Rd := fun e K => e (s15 A1 (fun row => row (s10 AV K)))
noncomputable def r251 : Rd := fun e K => e (s15 A1 (fun row => row (s11 AV K)))
noncomputable def r252 : Rd := fun e K => e (s15 A1 (fun row => row (s12 AV K)))
noncomputable def r253 : Rd := fun e K => e (s15 A1 (fun row => row (s13 AV K)))
noncomputable def r254 : Rd := fun e K => e (s15 A1 (fun row => row (s14 AV K)))
noncomputable def w0 : Wr := fun v e K => e (s0 A1 (fun row => row (u0 AV v (fun row' => e (u0 A1 row' K)))))
noncomputable def w1 : Wr := fun v e K => e (s0 A1 (fun row => row (u1 AV v (fun row' => e (u0 A1 row' K)))))
noncomputable def w2 : Wr := fun v e K => e (s0 A1 (fun row => row (u2 AV v (fun row' => e (u0 A1 row' K)))))
noncomputable def w3 : Wr := fun v e K => e (s0 A1 (fun row => row (u3 AV v (fun row' => e (u0 A1 row' K)))))
noncomputable def w4 : Wr := fun v e K => e (s0 A1 (fun row => row (u4 AV v (fun row' => e (u0 A1 row' K)))))
noncomputable def w5 : Wr := fun v e K => e (s0 A1 (fun row => row (u5 AV v (fun row' => e (u0 A1 row' K)))))
noncomputable def w6 : Wr := fun v e K => e (s0 A1 (fun row => row (u6 AV v (fun row' => e (u0 A1 row' K)))))
noncomputable def w7 : Wr := fun v e K => e (s0 A1 (fun row => row (u7 AV v (fun row' => e (u0 A1 row' K)))))
noncomputable def w8 : Wr := fun v e K => e (s0 A1 (fun row => row (u8 AV v (fun row' => e (u0 A1 row' K)))))
noncomputable def w9 : Wr := fun v e K => e (s0 A1 (fun row => row (u9 AV v (fun row' => e (u0 A1 row' K)))))
noncomputable def w10 : Wr := fun v e K => e (s0 A1 (fun row => row (u10 AV v (fun row' => e (u0 A1 row' K)))))
noncomputable def w11 : Wr := fun v e K => e (s0 A1 (fun row => row (u11 AV v (fun row' => e (u0 A1 row' K)))))
noncomputable def w12 : Wr := fun v e K => e (s0 A1 (fun row => row (u12 AV v (fun row' => e (u0 A1 row' K)))))
noncomputable def w13 : Wr := fun v e K => e (s0 A1 (fun row => row (u13 AV v (fun row' => e (u0 A1 row' K)))))
noncomputable def w14 : Wr := fun v e K => e (s0 A1 (fun row => row (u14 AV v (fun row' => e (u0 A1 row' K)))))
noncomputable def w15 : Wr := fun v e K => e (s0 A1 (fun row => row (u15 AV v (fun row' => e (u0 A1 row' K)))))
noncomputable def w16 : Wr := fun v e K => e (s1 A1 (fun row => row (u0 AV v (fun row' => e (u1 A1 row' K)))))
noncomputable def w17 : Wr := fun v e K => e (s1 A1 (fun row => row (u1 AV v (fun row' => e (u1 A1 row' K)))))
noncomputable def w18 : Wr := fun v e K => e (s1 A1 (fun row => row (u2 AV v (fun row' => e (u1 A1 row' K)))))
noncomputable def w19 : Wr := fun v e K => e (s1 A1 (fun row => row (u3 AV v (fun row' => e (u1 A1 row' K)))))
noncomputable def w20 : Wr := fun v e K => e (s1 A1 (fun row => row (u4 AV v (fun row' => e (u1 A1 row' K)))))
noncomputable def w21 : Wr := fun v e K => e (s1 A1 (fun row => row (u5 AV v (fun row' => e (u1 A1 row' K)))))
noncomputable def w22 : Wr := fun v e K => e (s1 A1 (fun row => row (u6 AV v (fun row' => e (u1 A1 row' K)))))
noncomputable def w23 : Wr := fun v e K => e (s1 A1 (fun row => row (u7 AV v (fun row' => e (u1 A1 row' K)))))
noncomputable def w24 : Wr := fun v e K => e (s1 A1 (fun row => row (u8 AV v (fun row' => e (u1 A1 row' K)))))
noncomputable def w25 : Wr := fun v e K => e (s1 A1 (fun row => row (u9 AV v (fun row' => e (u1 A1 row' K)))))
noncomputable def w26 : Wr := fun v e K => e (s1 A1 (fun row => row (u10 AV v (fun row' => e (u1 A1 row' K)))))
noncomputable def w27 : Wr := fun v e K => e (s1 A1 (fun row => row (u11 AV v (fun row' => e (u1 A1 row' K)))))
noncomputable def w28 : Wr := fun v e K => e (s1 A1 (fun row => row (u12 AV v (fun row' => e (u1 A1 row' K)))))
noncomputable def w29 : Wr := fun v e K => e (s1 A1 (fun row => row (u13 AV v (fun row' => e (u1 A1 row' K)))))
noncomputable def w30 : Wr := fun v e K => e (s1 A1 (fun row => row (u14 AV v (fun row' => e (u1 A1 row' K)))))
noncomputable def w31 : Wr := fun v e K => e (s1 A1 (fun row => row (u15 AV v (fun row' => e (u1 A1 row' K)))))
noncomputable def w32 : Wr := fun v e K => e (s2 A1 (fun row => row (u0 AV v (fun row' => e (u2 A1 row' K)))))
noncomputable def w33 : Wr := fun v e K => e (s2 A1 (fun row => row (u1 AV v (fun row' => e (u2 A1 row' K)))))
noncomputable def w34 : Wr := fun v e K => e (s2 A1 (fun row => row (u2 AV v (fun row' => e (u2 A1 row' K)))))
noncomputable def w35 : Wr := fun v e K => e (s2 A1 (fun row => row (u3 AV v (fun row' => e (u2 A1 row' K)))))
noncomputable def w36 : Wr := fun v e K => e (s2 A1 (fun row => row (u4 AV v (fun row' => e (u2 A1 row' K)))))
noncomputable def w37 : Wr := fun v e K => e (s2 A1 (fun row => row (u5 AV v (fun row' => e (u2 A1 row' K)))))
noncomputable def w38 : Wr := fun v e K => e (s2 A1 (fun row => row (u6 AV v (fun row' => e (u2 A1 row' K)))))
noncomputable def w39 : Wr := fun v e K => e (s2 A1 (fun row => row (u7 AV v (fun row' => e (u2 A1 row' K)))))
noncomputable def w40 : Wr := fun v e K => e (s2 A1 (fun row => row (u8 AV v (fun row' => e (u2 A1 row' K)))))
noncomputable def w41 : Wr := fun v e K => e (s2 A1 (fun row => row (u9 AV v (fun row' => e (u2 A1 row' K)))))
noncomputable def w42 : Wr := fun v e K => e (s2 A1 (fun row => row (u10 AV v (fun row' => e (u2 A1 row' K)))))
noncomputable def w43 : Wr := fun v e K => e (s2 A1 (fun row => row (u11 AV v (fun row' => e (u2 A1 row' K)))))
noncomputable def w44 : Wr := fun v e K => e (s2 A1 (fun row => row (u12 AV v (fun row' => e (u2 A1 row' K)))))
noncomputable def w45 : Wr := fun v e K => e (s2 A1 (fun row => row (u13 AV v (fun row' => e (u2 A1 row' K)))))
noncomputable def w46 : Wr := fun v e K => e (s2 A1 (fun row => row (u14 AV v (fun row' => e (u2 A1 row' K)))))
noncomputable def w47 : Wr := fun v e K => e (s2 A1 (fun row => row (u15 AV v (fun row' => e (u2 A1 row' K)))))
noncomputable def w48 : Wr := fun v e K => e (s3 A1 (fun row => row (u0 AV v (fun row' => e (u3 A1 row' K)))))
noncomputable def w49 : Wr := fun v e K => e (s3 A1 (fun row => row (u1 AV v (fun row' => e (u3 A1 row' K)))))
noncomputable def w50 : Wr := fun v e K => e (s3 A1 (fun row => row (u2 AV v (fun row' => e (u3 A1 row' K)))))
noncomputable def w51 : Wr := fun v e K => e (s3 A1 (fun row => row (u3 AV v (fun row' => e (u3 A1 row' K)))))
noncomputable def w52 : Wr := fun v e K => e (s3 A1 (fun row => row (u4 AV v (fun row' => e (u3 A1 row' K)))))
noncomputable def w53 : Wr := fun v e K => e (s3 A1 (fun row => row (u5 AV v (fun row' => e (u3 A1 row' K)))))
noncomputable def w54 : Wr := fun v e K => e (s3 A1 (fun row => row (u6 AV v (fun row' => e (u3 A1 row' K)))))
noncomputable def w55 : Wr := fun v e K => e (s3 A1 (fun row => row (u7 AV v (fun row' => e (u3 A1 row' K)))))
noncomputable def w56 : Wr := fun v e K => e (s3 A1 (fun row => row (u8 AV v (fun row' => e (u3 A1 row' K)))))
noncomputable def w57 : Wr := fun v e K => e (s3 A1 (fun row => row (u9 AV v (fun row' => e (u3 A1 row' K)))))
noncomputable def w58 : Wr := fun v e K => e (s3 A1 (fun row => row (u10 AV v (fun row' => e (u3 A1 row' K)))))
noncomputable def w59 : Wr := fun v e K => e (s3 A1 (fun row => row (u11 AV v (fun row' => e (u3 A1 row' K)))))
noncomputable def w60 : Wr := fun v e K => e (s3 A1 (fun row => row (u12 AV v (fun row' => e (u3 A1 row' K)))))
noncomputable def w61 : Wr := fun v e K => e (s3 A1 (fun row => row (u13 AV v (fun row' => e (u3 A1 row' K)))))
noncomputable def w62 : Wr := fun v e K => e (s3 A1 (fun row => row (u14 AV v (fun row' => e (u3 A1 row' K)))))
noncomputable def w63 : Wr := fun v e K => e (s3 A1 (fun row => row (u15 AV v (fun row' => e (u3 A1 row' K)))))
noncomputable def w64 : Wr := fun v e K => e (s4 A1 (fun row => row (u0 AV v (fun row' => e (u4 A1 row' K)))))
noncomputable def w65 : Wr := fun v e K => e (s4 A1 (fun row => row (u1 AV v (fun row' => e (u4 A1 row' K)))))
noncomputable def w66 : Wr := fun v e K => e (s4 A1 (fun row => row (u2 AV v (fun row' => e (u4 A1 row' K)))))
noncomputable def w67 : Wr := fun v e K => e (s4 A1 (fun row => row (u3 AV v (fun row' => e (u4 A1 row' K)))))
noncomputable def w68 : Wr := fun v e K => e (s4 A1 (fun row => row (u4 AV v (fun row' => e (u4 A1 row' K)))))
noncomputable def w69 : Wr := fun v e K => e (s4 A1 (fun row => row (u5 AV v (fun row' => e (u4 A1 row' K)))))
noncomputable def w70 : Wr := fun v e K => e (s4 A1 (fun row => row (u6 AV v (fun row' => e (u4 A1 row' K)))))
noncomputable def w71 : Wr := fun v e K => e (s4 A1 (fun row => row (u7 AV v (fun row' => e (u4 A1 row' K)))))
noncomputable def w72 : Wr := fun v e K => e (s4 A1 (fun row => row (u8 AV v (fun row' => e (u4 A1 row' K)))))
noncomputable def w73 : Wr := fun v e K => e (s4 A1 (fun row => row (u9 AV v (fun row' => e (u4 A1 row' K)))))
noncomputable def w74 : Wr := fun v e K => e (s4 A1 (fun row => row (u10 AV v (fun row' => e (u4 A1 row' K)))))
noncomputable def w75 : Wr := fun v e K => e (s4 A1 (fun row => row (u11 AV v (fun row' => e (u4 A1 row' K)))))
noncomputable def w76 : Wr := fun v e K => e (s4 A1 (fun row => row (u12 AV v (fun row' => e (u4 A1 row' K)))))
noncomputable def w77 : Wr := fun v e K => e (s4 A1 (fun row => row (u13 AV v (fun row' => e (u4 A1 row' K)))))
noncomputable def w78 : Wr := fun v e K => e (s4 A1 (fun row => row (u14 AV v (fun row' => e (u4 A1 row' K)))))
noncomputable def w79 : Wr := fun v e K => e (s4 A1 (fun row => row (u15 AV v (fun row' => e (u4 A1 row' K)))))
noncomputable def w80 : Wr := fun v e K => e (s5 A1 (fun row => row (u0 AV v (fun row' => e (u5 A1 row' K)))))
noncomputable def w81 : Wr := fun v e K => e (s5 A1 (fun row => row (u1 AV v (fun row' => e (u5 A1 row' K)))))
noncomputable def w82 : Wr := fun v e K => e (s5 A1 (fun row => row (u2 AV v (fun row' => e (u5 A1 row' K)))))
noncomputable def w83 : Wr := fun v e K => e (s5 A1 (fun row => row (u3 AV v (fun row' => e (u5 A1 row' K)))))
noncomputable def w84 : Wr := fun v e K => e (s5 A1 (fun row => row (u4 AV v (fun row' => e (u5 A1 row' K)))))
noncomputable def w85 : Wr := fun v e K => e (s5 A1 (fun row => row (u5 AV v (fun row' => e (u5 A1 row' K)))))
noncomputable def w86 : Wr := fun v e K => e (s5 A1 (fun row => row (u6 AV v (fun row' => e (u5 A1 row' K)))))
noncomputable def w87 : Wr := fun v e K => e (s5 A1 (fun row => row (u7 AV v (fun row' => e (u5 A1 row' K)))))
noncomputable def w88 : Wr := fun v e K => e (s5 A1 (fun row => row (u8 AV v (fun row' => e (u5 A1 row' K)))))
noncomputable def w89 : Wr := fun v e K => e (s5 A1 (fun row => row (u9 AV v (fun row' => e (u5 A1 row' K)))))
noncomputable def w90 : Wr := fun v e K => e (s5 A1 (fun row => row (u10 AV v (fun row' => e (u5 A1 row' K)))))
noncomputable def w91 : Wr := fun v e K => e (s5 A1 (fun row => row (u11 AV v (fun row' => e (u5 A1 row' K)))))
noncomputable def w92 : Wr := fun v e K => e (s5 A1 (fun row => row (u12 AV v (fun row' => e (u5 A1 row' K)))))
noncomputable def w93 : Wr := fun v e K => e (s5 A1 (fun row => row (u13 AV v (fun row' => e (u5 A1 row' K)))))
noncomputable def w94 : Wr := fun v e K => e (s5 A1 (fun row => row (u14 AV v (fun row' => e (u5 A1 row' K)))))
noncomputable def w95 : Wr := fun v e K => e (s5 A1 (fun row => row (u15 AV v (fun row' => e (u5 A1 row' K)))))
noncomputable def w96 : Wr := fun v e K => e (s6 A1 (fun row => row (u0 AV v (fun row' => e (u6 A1 row' K)))))
noncomputable def w97 : Wr := fun v e K => e (s6 A1 (fun row => row (u1 AV v (fun row' => e (u6 A1 row' K)))))
noncomputable def w98 : Wr := fun v e K => e (s6 A1 (fun row => row (u2 AV v (fun row' => e (u6 A1 row' K)))))
noncomputable def w99 : Wr := fun v e K => e (s6 A1 (fun row => row (u3 AV v (fun row' => e (u6 A1 row' K)))))
noncomputable def w100 : Wr := fun v e K => e (s6 A1 (fun row => row (u4 AV v (fun row' => e (u6 A1 row' K)))))
noncomputable def w101 : Wr := fun v e K => e (s6 A1 (fun row => row (u5 AV v (fun row' => e (u6 A1 row' K)))))
noncomputable def w102 : Wr := fun v e K => e (s6 A1 (fun row => row (u6 AV v (fun row' => e (u6 A1 row' K)))))
noncomputable def w103 : Wr := fun v e K => e (s6 A1 (fun row => row (u7 AV v (fun row' => e (u6 A1 row' K)))))
noncomputable def w104 : Wr := fun v e K => e (s6 A1 (fun row => row (u8 AV v (fun row' => e (u6 A1 row' K)))))
noncomputable def w105 : Wr := fun v e K => e (s6 A1 (fun row => row (u9 AV v (fun row' => e (u6 A1 row' K)))))
noncomputable def w106 : Wr := fun v e K => e (s6 A1 (fun row => row (u10 AV v (fun row' => e (u6 A1 row' K)))))
noncomputable def w107 : Wr := fun v e K => e (s6 A1 (fun row => row (u11 AV v (fun row' => e (u6 A1 row' K)))))
noncomputable def w108 : Wr := fun v e K => e (s6 A1 (fun row => row (u12 AV v (fun row' => e (u6 A1 row' K)))))
noncomputable def w109 : Wr := fun v e K => e (s6 A1 (fun row => row (u13 AV v (fun row' => e (u6 A1 row' K)))))
noncomputable def w110 : Wr := fun v e K => e (s6 A1 (fun row => row (u14 AV v (fun row' => e (u6 A1 row' K)))))
noncomputable def w111 : Wr := fun v e K => e (s6 A1 (fun row => row (u15 AV v (fun row' => e (u6 A1 row' K)))))
noncomputable def w112 : Wr := fun v e K => e (s7 A1 (fun row => row (u0 AV v (fun row' => e (u7 A1 row' K)))))
noncomputable def w113 : Wr := fun v e K => e (s7 A1 (fun row => row (u1 AV v (fun row' => e (u7 A1 row' K)))))
noncomputable def w114 : Wr := fun v e K => e (s7 A1 (fun row => row (u2 AV v (fun row' => e (u7 A1 row' K)))))
noncomputable def w115 : Wr := fun v e K => e (s7 A1 (fun row => row (u3 AV v (fun row' => e (u7 A1 row' K)))))
noncomputable def w116 : Wr := fun v e K => e (s7 A1 (fun row => row (u4 AV v (fun row' => e (u7 A1 row' K)))))
noncomputable def w117 : Wr := fun v e K => e (s7 A1 (fun row => row (u5 AV v (fun row' => e (u7 A1 row' K)))))
noncomputable def w118 : Wr := fun v e K => e (s7 A1 (fun row => row (u6 AV v (fun row' => e (u7 A1 row' K)))))
noncomputable def w119 : Wr := fun v e K => e (s7 A1 (fun row => row (u7 AV v (fun row' => e (u7 A1 row' K)))))
noncomputable def w120 : Wr := fun v e K => e (s7 A1 (fun row => row (u8 AV v (fun row' => e (u7 A1 row' K)))))
noncomputable def w121 : Wr := fun v e K => e (s7 A1 (fun row => row (u9 AV v (fun row' => e (u7 A1 row' K)))))
noncomputable def w122 : Wr := fun v e K => e (s7 A1 (fun row => row (u10 AV v (fun row' => e (u7 A1 row' K)))))
noncomputable def w123 : Wr := fun v e K => e (s7 A1 (fun row => row (u11 AV v (fun row' => e (u7 A1 row' K)))))
noncomputable def w124 : Wr := fun v e K => e (s7 A1 (fun row => row (u12 AV v (fun row' => e (u7 A1 row' K)))))
noncomputable def w125 : Wr := fun v e K => e (s7 A1 (fun row => row (u13 AV v (fun row' => e (u7 A1 row' K)))))
noncomputable def w126 : Wr := fun v e K => e (s7 A1 (fun row => row (u14 AV v (fun row' => e (u7 A1 row' K)))))
noncomputable def w127 : Wr := fun v e K => e (s7 A1 (fun row => row (u15 AV v (fun row' => e (u7 A1 row' K)))))
noncomputable def w128 : Wr := fun v e K => e (s8 A1 (fun row => row (u0 AV v (fun row' => e (u8 A1 row' K)))))
noncomputable def w129 : Wr := fun v e K => e (s8 A1 (fun row => row (u1 AV v (fun row' => e (u8 A1 row' K)))))
noncomputable def w130 : Wr := fun v e K => e (s8 A1 (fun row => row (u2 AV v (fun row' => e (u8 A1 row' K)))))
noncomputable def w131 : Wr := fun v e K => e (s8 A1 (fun row => row (u3 AV v (fun row' => e (u8 A1 row' K)))))
noncomputable def w132 : Wr := fun v e K => e (s8 A1 (fun row => row (u4 AV v (fun row' => e (u8 A1 row' K)))))
noncomputable def w133 : Wr := fun v e K => e (s8 A1 (fun row => row (u5 AV v (fun row' => e (u8 A1 row' K)))))
noncomputable def w134 : Wr := fun v e K => e (s8 A1 (fun row => row (u6 AV v (fun row' => e (u8 A1 row' K)))))
noncomputable def w135 : Wr := fun v e K => e (s8 A1 (fun row => row (u7 AV v (fun row' => e (u8 A1 row' K)))))
noncomputable def w136 : Wr := fun v e K => e (s8 A1 (fun row => row (u8 AV v (fun row' => e (u8 A1 row' K)))))
noncomputable def w137 : Wr := fun v e K => e (s8 A1 (fun row => row (u9 AV v (fun row' => e (u8 A1 row' K)))))
noncomputable def w138 : Wr := fun v e K => e (s8 A1 (fun row => row (u10 AV v (fun row' => e (u8 A1 row' K)))))
noncomputable def w139 : Wr := fun v e K => e (s8 A1 (fun row => row (u11 AV v (fun row' => e (u8 A1 row' K)))))
noncomputable def w140 : Wr := fun v e K => e (s8 A1 (fun row => row (u12 AV v (fun row' => e (u8 A1 row' K)))))
noncomputable def w141 : Wr := fun v e K => e (s8 A1 (fun row => row (u13 AV v (fun row' => e (u8 A1 row' K)))))
noncomputable def w142 : Wr := fun v e K => e (s8 A1 (fun row => row (u14 AV v (fun row' => e (u8 A1 row' K)))))
noncomputable def w143 : Wr := fun v e K => e (s8 A1 (fun row => row (u15 AV v (fun row' => e (u8 A1 row' K)))))
noncomputable def w144 : Wr := fun v e K => e (s9 A1 (fun row => row (u0 AV v (fun row' => e (u9 A1 row' K)))))
noncomputable def w145 : Wr := fun v e K => e (s9 A1 (fun row => row (u1 AV v (fun row' => e (u9 A1 row' K)))))
noncomputable def w146 : Wr := fun v e K => e (s9 A1 (fun row => row (u2 AV v (fun row' => e (u9 A1 row' K)))))
noncomputable def w147 : Wr := fun v e K => e (s9 A1 (fun row => row (u3 AV v (fun row' => e (u9 A1 row' K)))))
noncomputable def w148 : Wr := fun v e K => e (s9 A1 (fun row => row (u4 AV v (fun row' => e (u9 A1 row' K)))))
noncomputable def w149 : Wr := fun v e K => e (s9 A1 (fun row => row (u5 AV v (fun row' => e (u9 A1 row' K)))))
noncomputable def w150 : Wr := fun v e K => e (s9 A1 (fun row => row (u6 AV v (fun row' => e (u9 A1 row' K)))))
noncomputable def w151 : Wr := fun v e K => e (s9 A1 (fun row => row (u7 AV v (fun row' => e (u9 A1 row' K)))))
noncomputable def w152 : Wr := fun v e K => e (s9 A1 (fun row => row (u8 AV v (fun row' => e (u9 A1 row' K)))))
noncomputable def w153 : Wr := fun v e K => e (s9 A1 (fun row => row (u9 AV v (fun row' => e (u9 A1 row' K)))))
noncomputable def w154 : Wr := fun v e K => e (s9 A1 (fun row => row (u10 AV v (fun row' => e (u9 A1 row' K)))))
noncomputable def w155 : Wr := fun v e K => e (s9 A1 (fun row => row (u11 AV v (fun row' => e (u9 A1 row' K)))))
noncomputable def w156 : Wr := fun v e K => e (s9 A1 (fun row => row (u12 AV v (fun row' => e (u9 A1 row' K)))))
noncomputable def w157 : Wr := fun v e K => e (s9 A1 (fun row => row (u13 AV v (fun row' => e (u9 A1 row' K)))))
noncomputable def w158 : Wr := fun v e K => e (s9 A1 (fun row => row (u14 AV v (fun row' => e (u9 A1 row' K)))))
noncomputable def w159 : Wr := fun v e K => e (s9 A1 (fun row => row (u15 AV v (fun row' => e (u9 A1 row' K)))))
noncomputable def w160 : Wr := fun v e K => e (s10 A1 (fun row => row (u0 AV v (fun row' => e (u10 A1 row' K)))))
noncomputable def w161 : Wr := fun v e K => e (s10 A1 (fun row => row (u1 AV v (fun row' => e (u10 A1 row' K)))))
noncomputable def w162 : Wr := fun v e K => e (s10 A1 (fun row => row (u2 AV v (fun row' => e (u10 A1 row' K)))))
noncomputable def w163 : Wr := fun v e K => e (s10 A1 (fun row => row (u3 AV v (fun row' => e (u10 A1 row' K)))))
noncomputable def w164 : Wr := fun v e K => e (s10 A1 (fun row => row (u4 AV v (fun row' => e (u10 A1 row' K)))))
noncomputable def w165 : Wr := fun v e K => e (s10 A1 (fun row => row (u5 AV v (fun row' => e (u10 A1 row' K)))))
noncomputable def w166 : Wr := fun v e K => e (s10 A1 (fun row => row (u6 AV v (fun row' => e (u10 A1 row' K)))))
noncomputable def w167 : Wr := fun v e K => e (s10 A1 (fun row => row (u7 AV v (fun row' => e (u10 A1 row' K)))))
noncomputable def w168 : Wr := fun v e K => e (s10 A1 (fun row => row (u8 AV v (fun row' => e (u10 A1 row' K)))))
noncomputable def w169 : Wr := fun v e K => e (s10 A1 (fun row => row (u9 AV v (fun row' => e (u10 A1 row' K)))))
noncomputable def w170 : Wr := fun v e K => e (s10 A1 (fun row => row (u10 AV v (fun row' => e (u10 A1 row' K)))))
noncomputable def w171 : Wr := fun v e K => e (s10 A1 (fun row => row (u11 AV v (fun row' => e (u10 A1 row' K)))))
noncomputable def w172 : Wr := fun v e K => e (s10 A1 (fun row => row (u12 AV v (fun row' => e (u10 A1 row' K)))))
noncomputable def w173 : Wr := fun v e K => e (s10 A1 (fun row => row (u13 AV v (fun row' => e (u10 A1 row' K)))))
noncomputable def w174 : Wr := fun v e K => e (s10 A1 (fun row => row (u14 AV v (fun row' => e (u10 A1 row' K)))))
noncomputable def w175 : Wr := fun v e K => e (s10 A1 (fun row => row (u15 AV v (fun row' => e (u10 A1 row' K)))))
noncomputable def w176 : Wr := fun v e K => e (s11 A1 (fun row => row (u0 AV v (fun row' => e (u11 A1 row' K)))))
noncomputable def w177 : Wr := fun v e K => e (s11 A1 (fun row => row (u1 AV v (fun row' => e (u11 A1 row' K)))))
noncomputable def w178 : Wr := fun v e K => e (s11 A1 (fun row => row (u2 AV v (fun row' => e (u11 A1 row' K)))))
noncomputable def w179 : Wr := fun v e K => e (s11 A1 (fun row => row (u3 AV v (fun row' => e (u11 A1 row' K)))))
noncomputable def w180 : Wr := fun v e K => e (s11 A1 (fun row => row (u4 AV v (fun row' => e (u11 A1 row' K)))))
noncomputable def w181 : Wr := fun v e K => e (s11 A1 (fun row => row (u5 AV v (fun row' => e (u11 A1 row' K)))))
noncomputable def w182 : Wr := fun v e K => e (s11 A1 (fun row => row (u6 AV v (fun row' => e (u11 A1 row' K)))))
noncomputable def w183 : Wr := fun v e K => e (s11 A1 (fun row => row (u7 AV v (fun row' => e (u11 A1 row' K)))))
noncomputable def w184 : Wr := fun v e K => e (s11 A1 (fun row => row (u8 AV v (fun row' => e (u11 A1 row' K)))))
noncomputable def w185 : Wr := fun v e K => e (s11 A1 (fun row => row (u9 AV v (fun row' => e (u11 A1 row' K)))))
noncomputable def w186 : Wr := fun v e K => e (s11 A1 (fun row => row (u10 AV v (fun row' => e (u11 A1 row' K)))))
noncomputable def w187 : Wr := fun v e K => e (s11 A1 (fun row => row (u11 AV v (fun row' => e (u11 A1 row' K)))))
noncomputable def w188 : Wr := fun v e K => e (s11 A1 (fun row => row (u12 AV v (fun row' => e (u11 A1 row' K)))))
noncomputable def w189 : Wr := fun v e K => e (s11 A1 (fun row => row (u13 AV v (fun row' => e (u11 A1 row' K)))))
noncomputable def w190 : Wr := fun v e K => e (s11 A1 (fun row => row (u14 AV v (fun row' => e (u11 A1 row' K)))))
noncomputable def w191 : Wr := fun v e K => e (s11 A1 (fun row => row (u15 AV v (fun row' => e (u11 A1 row' K)))))
noncomputable def w192 : Wr := fun v e K => e (s12 A1 (fun row => row (u0 AV v (fun row' => e (u12 A1 row' K)))))
noncomputable def w193 : Wr := fun v e K => e (s12 A1 (fun row => row (u1 AV v (fun row' => e (u12 A1 row' K)))))
noncomputable def w194 : Wr := fun v e K => e (s12 A1 (fun row => row (u2 AV v (fun row' => e (u12 A1 row' K)))))
noncomputable def w195 : Wr := fun v e K => e (s12 A1 (fun row => row (u3 AV v (fun row' => e (u12 A1 row' K)))))
noncomputable def w196 : Wr := fun v e K => e (s12 A1 (fun row => row (u4 AV v (fun row' => e (u12 A1 row' K)))))
noncomputable def w197 : Wr := fun v e K => e (s12 A1 (fun row => row (u5 AV v (fun row' => e (u12 A1 row' K)))))
noncomputable def w198 : Wr := fun v e K => e (s12 A1 (fun row => row (u6 AV v (fun row' => e (u12 A1 row' K)))))
noncomputable def w199 : Wr := fun v e K => e (s12 A1 (fun row => row (u7 AV v (fun row' => e (u12 A1 row' K)))))
noncomputable def w200 : Wr := fun v e K => e (s12 A1 (fun row => row (u8 AV v (fun row' => e (u12 A1 row' K)))))
noncomputable def w201 : Wr := fun v e K => e (s12 A1 (fun row => row (u9 AV v (fun row' => e (u12 A1 row' K)))))
noncomputable def w202 : Wr := fun v e K => e (s12 A1 (fun row => row (u10 AV v (fun row' => e (u12 A1 row' K)))))
noncomputable def w203 : Wr := fun v e K => e (s12 A1 (fun row => row (u11 AV v (fun row' => e (u12 A1 row' K)))))
noncomputable def w204 : Wr := fun v e K => e (s12 A1 (fun row => row (u12 AV v (fun row' => e (u12 A1 row' K)))))
noncomputable def w205 : Wr := fun v e K => e (s12 A1 (fun row => row (u13 AV v (fun row' => e (u12 A1 row' K)))))
noncomputable def w206 : Wr := fun v e K => e (s12 A1 (fun row => row (u14 AV v (fun row' => e (u12 A1 row' K)))))
noncomputable def w207 : Wr := fun v e K => e (s12 A1 (fun row => row (u15 AV v (fun row' => e (u12 A1 row' K)))))
noncomputable def w208 : Wr := fun v e K => e (s13 A1 (fun row => row (u0 AV v (fun row' => e (u13 A1 row' K)))))
noncomputable def w209 : Wr := fun v e K => e (s13 A1 (fun row => row (u1 AV v (fun row' => e (u13 A1 row' K)))))
noncomputable def w210 : Wr := fun v e K => e (s13 A1 (fun row => row (u2 AV v (fun row' => e (u13 A1 row' K)))))
noncomputable def w211 : Wr := fun v e K => e (s13 A1 (fun row => row (u3 AV v (fun row' => e (u13 A1 row' K)))))
noncomputable def w212 : Wr := fun v e K => e (s13 A1 (fun row => row (u4 AV v (fun row' => e (u13 A1 row' K)))))
noncomputable def w213 : Wr := fun v e K => e (s13 A1 (fun row => row (u5 AV v (fun row' => e (u13 A1 row' K)))))
noncomputable def w214 : Wr := fun v e K => e (s13 A1 (fun row => row (u6 AV v (fun row' => e (u13 A1 row' K)))))
noncomputable def w215 : Wr := fun v e K => e (s13 A1 (fun row => row (u7 AV v (fun row' => e (u13 A1 row' K)))))
noncomputable def w216 : Wr := fun v e K => e (s13 A1 (fun row => row (u8 AV v (fun row' => e (u13 A1 row' K)))))
noncomputable def w217 : Wr := fun v e K => e (s13 A1 (fun row => row (u9 AV v (fun row' => e (u13 A1 row' K)))))
noncomputable def w218 : Wr := fun v e K => e (s13 A1 (fun row => row (u10 AV v (fun row' => e (u13 A1 row' K)))))
noncomputable def w219 : Wr := fun v e K => e (s13 A1 (fun row => row (u11 AV v (fun row' => e (u13 A1 row' K)))))
noncomputable def w220 : Wr := fun v e K => e (s13 A1 (fun row => row (u12 AV v (fun row' => e (u13 A1 row' K)))))
noncomputable def w221 : Wr := fun v e K => e (s13 A1 (fun row => row (u13 AV v (fun row' => e (u13 A1 row' K)))))
noncomputable def w222 : Wr := fun v e K => e (s13 A1 (fun row => row (u14 AV v (fun row' => e (u13 A1 row' K)))))
noncomputable def w223 : Wr := fun v e K => e (s13 A1 (fun row => row (u15 AV v (fun row' => e (u13 A1 row' K)))))
noncomputable def w224 : Wr := fun v e K => e (s14 A1 (fun row => row (u0 AV v (fun row' => e (u14 A1 row' K)))))
noncomputable def w225 : Wr := fun v e K => e (s14 A1 (fun row => row (u1 AV v (fun row' => e (u14 A1 row' K)))))
noncomputable def w226 : Wr := fun v e K => e (s14 A1 (fun row => row (u2 AV v (fun row' => e (u14 A1 row' K)))))
noncomputable def w227 : Wr := fun v e K => e (s14 A1 (fun row => row (u3 AV v (fun row' => e (u14 A1 row' K)))))
noncomputable def w228 : Wr := fun v e K => e (s14 A1 (fun row => row (u4 AV v (fun row' => e (u14 A1 row' K)))))
noncomputable def w229 : Wr := fun v e K => e (s14 A1 (fun row => row (u5 AV v (fun row' => e (u14 A1 row' K)))))
noncomputable def w230 : Wr := fun v e K => e (s14 A1 (fun row => row (u6 AV v (fun row' => e (u14 A1 row' K)))))
noncomputable def w231 : Wr := fun v e K => e (s14 A1 (fun row => row (u7 AV v (fun row' => e (u14 A1 row' K)))))
noncomputable def w232 : Wr := fun v e K => e (s14 A1 (fun row => row (u8 AV v (fun row' => e (u14 A1 row' K)))))
noncomputable def w233 : Wr := fun v e K => e (s14 A1 (fun row => row (u9 AV v (fun row' => e (u14 A1 row' K)))))
noncomputable def w234 : Wr := fun v e K => e (s14 A1 (fun row => row (u10 AV v (fun row' => e (u14 A1 row' K)))))
noncomputable def w235 : Wr := fun v e K => e (s14 A1 (fun row => row (u11 AV v (fun row' => e (u14 A1 row' K)))))
noncomputable def w236 : Wr := fun v e K => e (s14 A1 (fun row => row (u12 AV v (fun row' => e (u14 A1 row' K)))))
noncomputable def w237 : Wr := fun v e K => e (s14 A1 (fun row => row (u13 AV v (fun row' => e (u14 A1 row' K)))))
noncomputable def w238 : Wr := fun v e K => e (s14 A1 (fun row => row (u14 AV v (fun row' => e (u14 A1 row' K)))))
noncomputable def w239 : Wr := fun v e K => e (s14 A1 (fun row => row (u15 AV v (fun row' => e (u14 A1 row' K)))))
noncomputable def w240 : Wr := fun v e K => e (s15 A1 (fun row => row (u0 AV v (fun row' => e (u15 A1 row' K)))))
noncomputable def w241 : Wr := fun v e K => e (s15 A1 (fun row => row (u1 AV v (fun row' => e (u15 A1 row' K)))))
noncomputable def w242 : Wr := fun v e K => e (s15 A1 (fun row => row (u2 AV v (fun row' => e (u15 A1 row' K)))))
noncomputable def w243 : Wr := fun v e K => e (s15 A1 (fun row => row (u3 AV v (fun row' => e (u15 A1 row' K)))))
noncomputable def w244 : Wr := fun v e K => e (s15 A1 (fun row => row (u4 AV v (fun row' => e (u15 A1 row' K)))))
noncomputable def w245 : Wr := fun v e K => e (s15 A1 (fun row => row (u5 AV v (fun row' => e (u15 A1 row' K)))))
noncomputable def w246 : Wr := fun v e K => e (s15 A1 (fun row => row (u6 AV v (fun row' => e (u15 A1 row' K)))))
noncomputable def w247 : Wr := fun v e K => e (s15 A1 (fun row => row (u7 AV v (fun row' => e (u15 A1 row' K)))))
noncomputable def w248 : Wr := fun v e K => e (s15 A1 (fun row => row (u8 AV v (fun row' => e (u15 A1 row' K)))))
noncomputable def w249 : Wr := fun v e K => e (s15 A1 (fun row => row (u9 AV v (fun row' => e (u15 A1 row' K)))))
noncomputable def w250 : Wr := fun v e K => e (s15 A1 (fun row => row (u10 AV v (fun row' => e (u15 A1 row' K)))))
noncomputable def w251 : Wr := fun v e K => e (s15 A1 (fun row => row (u11 AV v (fun row' => e (u15 A1 row' K)))))
noncomputable def w252 : Wr := fun v e K => e (s15 A1 (fun row => row (u12 AV v (fun row' => e (u15 A1 row' K)))))
noncomputable def w253 : Wr := fun v e K => e (s15 A1 (fun row => row (u13 AV v (fun row' => e (u15 A1 row' K)))))
noncomputable def w254 : Wr := fun v e K => e (s15 A1 (fun row => row (u14 AV v (fun row' => e (u15 A1 row' K)))))
/-- what the environment holds, as a trie -/
noncomputable def trN (K : Tr AV → Bool) : T16 A1 Bool := fun x0 x1 x2 x3 x4 x5 x6 x7 x8 x9 x10 x11 x12 x13 x14 x15 =>
  x0 (fun x0_0 x0_1 x0_2 x0_3 x0_4 x0_5 x0_6 x0_7 x0_8 x0_9 x0_10 x0_11 x0_12 x0_13 x0_14 x0_15 => 
  x1 (fun x1_0 x1_1 x1_2 x1_3 x1_4 x1_5 x1_6 x1_7 x1_8 x1_9 x1_10 x1_11 x1_12 x1_13 x1_14 x1_15 => 
  x2 (fun x2_0 x2_1 x2_2 x2_3 x2_4 x2_5 x2_6 x2_7 x2_8 x2_9 x2_10 x2_11 x2_12 x2_13 x2_14 x2_15 => 
  x3 (fun x3_0 x3_1 x3_2 x3_3 x3_4 x3_5 x3_6 x3_7 x3_8 x3_9 x3_10 x3_11 x3_12 x3_13 x3_14 x3_15 => 
  x4 (fun x4_0 x4_1 x4_2 x4_3 x4_4 x4_5 x4_6 x4_7 x4_8 x4_9 x4_10 x4_11 x4_12 x4_13 x4_14 x4_15 => 
  x5 (fun x5_0 x5_1 x5_2 x5_3 x5_4 x5_5 x5_6 x5_7 x5_8 x5_9 x5_10 x5_11 x5_12 x5_13 x5_14 x5_15 => 
  x6 (fun x6_0 x6_1 x6_2 x6_3 x6_4 x6_5 x6_6 x6_7 x6_8 x6_9 x6_10 x6_11 x6_12 x6_13 x6_14 x6_15 => 
  x7 (fun x7_0 x7_1 x7_2 x7_3 x7_4 x7_5 x7_6 x7_7 x7_8 x7_9 x7_10 x7_11 x7_12 x7_13 x7_14 x7_15 => 
  x8 (fun x8_0 x8_1 x8_2 x8_3 x8_4 x8_5 x8_6 x8_7 x8_8 x8_9 x8_10 x8_11 x8_12 x8_13 x8_14 x8_15 => 
  x9 (fun x9_0 x9_1 x9_2 x9_3 x9_4 x9_5 x9_6 x9_7 x9_8 x9_9 x9_10 x9_11 x9_12 x9_13 x9_14 x9_15 => 
  x10 (fun x10_0 x10_1 x10_2 x10_3 x10_4 x10_5 x10_6 x10_7 x10_8 x10_9 x10_10 x10_11 x10_12 x10_13 x10_14 x10_15 => 
  x11 (fun x11_0 x11_1 x11_2 x11_3 x11_4 x11_5 x11_6 x11_7 x11_8 x11_9 x11_10 x11_11 x11_12 x11_13 x11_14 x11_15 => 
  x12 (fun x12_0 x12_1 x12_2 x12_3 x12_4 x12_5 x12_6 x12_7 x12_8 x12_9 x12_10 x12_11 x12_12 x12_13 x12_14 x12_15 => 
  x13 (fun x13_0 x13_1 x13_2 x13_3 x13_4 x13_5 x13_6 x13_7 x13_8 x13_9 x13_10 x13_11 x13_12 x13_13 x13_14 x13_15 => 
  x14 (fun x14_0 x14_1 x14_2 x14_3 x14_4 x14_5 x14_6 x14_7 x14_8 x14_9 x14_10 x14_11 x14_12 x14_13 x14_14 x14_15 => 
  x15 (fun x15_0 x15_1 x15_2 x15_3 x15_4 x15_5 x15_6 x15_7 x15_8 x15_9 x15_10 x15_11 x15_12 x15_13 x15_14 _ => 
  K (.node (.node (.node (.node (.node (.node (.node (.node .nil (some x7_15) .nil) (some x3_15) (.node .nil (some x11_15) .nil)) (some x1_15) (.node (.node .nil (some x9_15) .nil) (some x5_15) (.node .nil (some x13_15) .nil))) (some x0_15) (.node (.node (.node .nil (some x8_15) .nil) (some x4_15) (.node .nil (some x12_15) .nil)) (some x2_15) (.node (.node .nil (some x10_15) .nil) (some x6_15) (.node .nil (some x14_15) .nil)))) (some x0_7) (.node (.node (.node (.node .nil (some x8_7) .nil) (some x4_7) (.node .nil (some x12_7) .nil)) (some x2_7) (.node (.node .nil (some x10_7) .nil) (some x6_7) (.node .nil (some x14_7) .nil))) (some x1_7) (.node (.node (.node .nil (some x9_7) .nil) (some x5_7) (.node .nil (some x13_7) .nil)) (some x3_7) (.node (.node .nil (some x11_7) .nil) (some x7_7) (.node .nil (some x15_7) .nil))))) (some x0_3) (.node (.node (.node (.node (.node .nil (some x8_3) .nil) (some x4_3) (.node .nil (some x12_3) .nil)) (some x2_3) (.node (.node .nil (some x10_3) .nil) (some x6_3) (.node .nil (some x14_3) .nil))) (some x1_3) (.node (.node (.node .nil (some x9_3) .nil) (some x5_3) (.node .nil (some x13_3) .nil)) (some x3_3) (.node (.node .nil (some x11_3) .nil) (some x7_3) (.node .nil (some x15_3) .nil)))) (some x0_11) (.node (.node (.node (.node .nil (some x8_11) .nil) (some x4_11) (.node .nil (some x12_11) .nil)) (some x2_11) (.node (.node .nil (some x10_11) .nil) (some x6_11) (.node .nil (some x14_11) .nil))) (some x1_11) (.node (.node (.node .nil (some x9_11) .nil) (some x5_11) (.node .nil (some x13_11) .nil)) (some x3_11) (.node (.node .nil (some x11_11) .nil) (some x7_11) (.node .nil (some x15_11) .nil)))))) (some x0_1) (.node (.node (.node (.node (.node (.node .nil (some x8_1) .nil) (some x4_1) (.node .nil (some x12_1) .nil)) (some x2_1) (.node (.node .nil (some x10_1) .nil) (some x6_1) (.node .nil (some x14_1) .nil))) (some x1_1) (.node (.node (.node .nil (some x9_1) .nil) (some x5_1) (.node .nil (some x13_1) .nil)) (some x3_1) (.node (.node .nil (some x11_1) .nil) (some x7_1) (.node .nil (some x15_1) .nil)))) (some x0_9) (.node (.node (.node (.node .nil (some x8_9) .nil) (some x4_9) (.node .nil (some x12_9) .nil)) (some x2_9) (.node (.node .nil (some x10_9) .nil) (some x6_9) (.node .nil (some x14_9) .nil))) (some x1_9) (.node (.node (.node .nil (some x9_9) .nil) (some x5_9) (.node .nil (some x13_9) .nil)) (some x3_9) (.node (.node .nil (some x11_9) .nil) (some x7_9) (.node .nil (some x15_9) .nil))))) (some x0_5) (.node (.node (.node (.node (.node .nil (some x8_5) .nil) (some x4_5) (.node .nil (some x12_5) .nil)) (some x2_5) (.node (.node .nil (some x10_5) .nil) (some x6_5) (.node .nil (some x14_5) .nil))) (some x1_5) (.node (.node (.node .nil (some x9_5) .nil) (some x5_5) (.node .nil (some x13_5) .nil)) (some x3_5) (.node (.node .nil (some x11_5) .nil) (some x7_5) (.node .nil (some x15_5) .nil)))) (some x0_13) (.node (.node (.node (.node .nil (some x8_13) .nil) (some x4_13) (.node .nil (some x12_13) .nil)) (some x2_13) (.node (.node .nil (some x10_13) .nil) (some x6_13) (.node .nil (some x14_13) .nil))) (some x1_13) (.node (.node (.node .nil (some x9_13) .nil) (some x5_13) (.node .nil (some x13_13) .nil)) (some x3_13) (.node (.node .nil (some x11_13) .nil) (some x7_13) (.node .nil (some x15_13) .nil))))))) (some x0_0) (.node (.node (.node (.node (.node (.node (.node .nil (some x8_0) .nil) (some x4_0) (.node .nil (some x12_0) .nil)) (some x2_0) (.node (.node .nil (some x10_0) .nil) (some x6_0) (.node .nil (some x14_0) .nil))) (some x1_0) (.node (.node (.node .nil (some x9_0) .nil) (some x5_0) (.node .nil (some x13_0) .nil)) (some x3_0) (.node (.node .nil (some x11_0) .nil) (some x7_0) (.node .nil (some x15_0) .nil)))) (some x0_8) (.node (.node (.node (.node .nil (some x8_8) .nil) (some x4_8) (.node .nil (some x12_8) .nil)) (some x2_8) (.node (.node .nil (some x10_8) .nil) (some x6_8) (.node .nil (some x14_8) .nil))) (some x1_8) (.node (.node (.node .nil (some x9_8) .nil) (some x5_8) (.node .nil (some x13_8) .nil)) (some x3_8) (.node (.node .nil (some x11_8) .nil) (some x7_8) (.node .nil (some x15_8) .nil))))) (some x0_4) (.node (.node (.node (.node (.node .nil (some x8_4) .nil) (some x4_4) (.node .nil (some x12_4) .nil)) (some x2_4) (.node (.node .nil (some x10_4) .nil) (some x6_4) (.node .nil (some x14_4) .nil))) (some x1_4) (.node (.node (.node .nil (some x9_4) .nil) (some x5_4) (.node .nil (some x13_4) .nil)) (some x3_4) (.node (.node .nil (some x11_4) .nil) (some x7_4) (.node .nil (some x15_4) .nil)))) (some x0_12) (.node (.node (.node (.node .nil (some x8_12) .nil) (some x4_12) (.node .nil (some x12_12) .nil)) (some x2_12) (.node (.node .nil (some x10_12) .nil) (some x6_12) (.node .nil (some x14_12) .nil))) (some x1_12) (.node (.node (.node .nil (some x9_12) .nil) (some x5_12) (.node .nil (some x13_12) .nil)) (some x3_12) (.node (.node .nil (some x11_12) .nil) (some x7_12) (.node .nil (some x15_12) .nil)))))) (some x0_2) (.node (.node (.node (.node (.node (.node .nil (some x8_2) .nil) (some x4_2) (.node .nil (some x12_2) .nil)) (some x2_2) (.node (.node .nil (some x10_2) .nil) (some x6_2) (.node .nil (some x14_2) .nil))) (some x1_2) (.node (.node (.node .nil (some x9_2) .nil) (some x5_2) (.node .nil (some x13_2) .nil)) (some x3_2) (.node (.node .nil (some x11_2) .nil) (some x7_2) (.node .nil (some x15_2) .nil)))) (some x0_10) (.node (.node (.node (.node .nil (some x8_10) .nil) (some x4_10) (.node .nil (some x12_10) .nil)) (some x2_10) (.node (.node .nil (some x10_10) .nil) (some x6_10) (.node .nil (some x14_10) .nil))) (some x1_10) (.node (.node (.node .nil (some x9_10) .nil) (some x5_10) (.node .nil (some x13_10) .nil)) (some x3_10) (.node (.node .nil (some x11_10) .nil) (some x7_10) (.node .nil (some x15_10) .nil))))) (some x0_6) (.node (.node (.node (.node (.node .nil (some x8_6) .nil) (some x4_6) (.node .nil (some x12_6) .nil)) (some x2_6) (.node (.node .nil (some x10_6) .nil) (some x6_6) (.node .nil (some x14_6) .nil))) (some x1_6) (.node (.node (.node .nil (some x9_6) .nil) (some x5_6) (.node .nil (some x13_6) .nil)) (some x3_6) (.node (.node .nil (some x11_6) .nil) (some x7_6) (.node .nil (some x15_6) .nil)))) (some x0_14) (.node (.node (.node (.node .nil (some x8_14) .nil) (some x4_14) (.node .nil (some x12_14) .nil)) (some x2_14) (.node (.node .nil (some x10_14) .nil) (some x6_14) (.node .nil (some x14_14) .nil))) (some x1_14) (.node (.node (.node .nil (some x9_14) .nil) (some x5_14) (.node .nil (some x13_14) .nil)) (some x3_14) (.node (.node .nil (some x11_14) .nil) (some x7_14) (.node .nil (some x15_14) .nil))))))))))))))))))))))))
noncomputable def trieOf (f : D → D → AV) : Tr AV := (.node (.node (.node (.node (.node (.node (.node (.node .nil (some (f .d7 .d15)) .nil) (some (f .d3 .d15)) (.node .nil (some (f .d11 .d15)) .nil)) (some (f .d1 .d15)) (.node (.node .nil (some (f .d9 .d15)) .nil) (some (f .d5 .d15)) (.node .nil (some (f .d13 .d15)) .nil))) (some (f .d0 .d15)) (.node (.node (.node .nil (some (f .d8 .d15)) .nil) (some (f .d4 .d15)) (.node .nil (some (f .d12 .d15)) .nil)) (some (f .d2 .d15)) (.node (.node .nil (some (f .d10 .d15)) .nil) (some (f .d6 .d15)) (.node .nil (some (f .d14 .d15)) .nil)))) (some (f .d0 .d7)) (.node (.node (.node (.node .nil (some (f .d8 .d7)) .nil) (some (f .d4 .d7)) (.node .nil (some (f .d12 .d7)) .nil)) (some (f .d2 .d7)) (.node (.node .nil (some (f .d10 .d7)) .nil) (some (f .d6 .d7)) (.node .nil (some (f .d14 .d7)) .nil))) (some (f .d1 .d7)) (.node (.node (.node .nil (some (f .d9 .d7)) .nil) (some (f .d5 .d7)) (.node .nil (some (f .d13 .d7)) .nil)) (some (f .d3 .d7)) (.node (.node .nil (some (f .d11 .d7)) .nil) (some (f .d7 .d7)) (.node .nil (some (f .d15 .d7)) .nil))))) (some (f .d0 .d3)) (.node (.node (.node (.node (.node .nil (some (f .d8 .d3)) .nil) (some (f .d4 .d3)) (.node .nil (some (f .d12 .d3)) .nil)) (some (f .d2 .d3)) (.node (.node .nil (some (f .d10 .d3)) .nil) (some (f .d6 .d3)) (.node .nil (some (f .d14 .d3)) .nil))) (some (f .d1 .d3)) (.node (.node (.node .nil (some (f .d9 .d3)) .nil) (some (f .d5 .d3)) (.node .nil (some (f .d13 .d3)) .nil)) (some (f .d3 .d3)) (.node (.node .nil (some (f .d11 .d3)) .nil) (some (f .d7 .d3)) (.node .nil (some (f .d15 .d3)) .nil)))) (some (f .d0 .d11)) (.node (.node (.node (.node .nil (some (f .d8 .d11)) .nil) (some (f .d4 .d11)) (.node .nil (some (f .d12 .d11)) .nil)) (some (f .d2 .d11)) (.node (.node .nil (some (f .d10 .d11)) .nil) (some (f .d6 .d11)) (.node .nil (some (f .d14 .d11)) .nil))) (some (f .d1 .d11)) (.node (.node (.node .nil (some (f .d9 .d11)) .nil) (some (f .d5 .d11)) (.node .nil (some (f .d13 .d11)) .nil)) (some (f .d3 .d11)) (.node (.node .nil (some (f .d11 .d11)) .nil) (some (f .d7 .d11)) (.node .nil (some (f .d15 .d11)) .nil)))))) (some (f .d0 .d1)) (.node (.node (.node (.node (.node (.node .nil (some (f .d8 .d1)) .nil) (some (f .d4 .d1)) (.node .nil (some (f .d12 .d1)) .nil)) (some (f .d2 .d1)) (.node (.node .nil (some (f .d10 .d1)) .nil) (some (f .d6 .d1)) (.node .nil (some (f .d14 .d1)) .nil))) (some (f .d1 .d1)) (.node (.node (.node .nil (some (f .d9 .d1)) .nil) (some (f .d5 .d1)) (.node .nil (some (f .d13 .d1)) .nil)) (some (f .d3 .d1)) (.node (.node .nil (some (f .d11 .d1)) .nil) (some (f .d7 .d1)) (.node .nil (some (f .d15 .d1)) .nil)))) (some (f .d0 .d9)) (.node (.node (.node (.node .nil (some (f .d8 .d9)) .nil) (some (f .d4 .d9)) (.node .nil (some (f .d12 .d9)) .nil)) (some (f .d2 .d9)) (.node (.node .nil (some (f .d10 .d9)) .nil) (some (f .d6 .d9)) (.node .nil (some (f .d14 .d9)) .nil))) (some (f .d1 .d9)) (.node (.node (.node .nil (some (f .d9 .d9)) .nil) (some (f .d5 .d9)) (.node .nil (some (f .d13 .d9)) .nil)) (some (f .d3 .d9)) (.node (.node .nil (some (f .d11 .d9)) .nil) (some (f .d7 .d9)) (.node .nil (some (f .d15 .d9)) .nil))))) (some (f .d0 .d5)) (.node (.node (.node (.node (.node .nil (some (f .d8 .d5)) .nil) (some (f .d4 .d5)) (.node .nil (some (f .d12 .d5)) .nil)) (some (f .d2 .d5)) (.node (.node .nil (some (f .d10 .d5)) .nil) (some (f .d6 .d5)) (.node .nil (some (f .d14 .d5)) .nil))) (some (f .d1 .d5)) (.node (.node (.node .nil (some (f .d9 .d5)) .nil) (some (f .d5 .d5)) (.node .nil (some (f .d13 .d5)) .nil)) (some (f .d3 .d5)) (.node (.node .nil (some (f .d11 .d5)) .nil) (some (f .d7 .d5)) (.node .nil (some (f .d15 .d5)) .nil)))) (some (f .d0 .d13)) (.node (.node (.node (.node .nil (some (f .d8 .d13)) .nil) (some (f .d4 .d13)) (.node .nil (some (f .d12 .d13)) .nil)) (some (f .d2 .d13)) (.node (.node .nil (some (f .d10 .d13)) .nil) (some (f .d6 .d13)) (.node .nil (some (f .d14 .d13)) .nil))) (some (f .d1 .d13)) (.node (.node (.node .nil (some (f .d9 .d13)) .nil) (some (f .d5 .d13)) (.node .nil (some (f .d13 .d13)) .nil)) (some (f .d3 .d13)) (.node (.node .nil (some (f .d11 .d13)) .nil) (some (f .d7 .d13)) (.node .nil (some (f .d15 .d13)) .nil))))))) (some (f .d0 .d0)) (.node (.node (.node (.node (.node (.node (.node .nil (some (f .d8 .d0)) .nil) (some (f .d4 .d0)) (.node .nil (some (f .d12 .d0)) .nil)) (some (f .d2 .d0)) (.node (.node .nil (some (f .d10 .d0)) .nil) (some (f .d6 .d0)) (.node .nil (some (f .d14 .d0)) .nil))) (some (f .d1 .d0)) (.node (.node (.node .nil (some (f .d9 .d0)) .nil) (some (f .d5 .d0)) (.node .nil (some (f .d13 .d0)) .nil)) (some (f .d3 .d0)) (.node (.node .nil (some (f .d11 .d0)) .nil) (some (f .d7 .d0)) (.node .nil (some (f .d15 .d0)) .nil)))) (some (f .d0 .d8)) (.node (.node (.node (.node .nil (some (f .d8 .d8)) .nil) (some (f .d4 .d8)) (.node .nil (some (f .d12 .d8)) .nil)) (some (f .d2 .d8)) (.node (.node .nil (some (f .d10 .d8)) .nil) (some (f .d6 .d8)) (.node .nil (some (f .d14 .d8)) .nil))) (some (f .d1 .d8)) (.node (.node (.node .nil (some (f .d9 .d8)) .nil) (some (f .d5 .d8)) (.node .nil (some (f .d13 .d8)) .nil)) (some (f .d3 .d8)) (.node (.node .nil (some (f .d11 .d8)) .nil) (some (f .d7 .d8)) (.node .nil (some (f .d15 .d8)) .nil))))) (some (f .d0 .d4)) (.node (.node (.node (.node (.node .nil (some (f .d8 .d4)) .nil) (some (f .d4 .d4)) (.node .nil (some (f .d12 .d4)) .nil)) (some (f .d2 .d4)) (.node (.node .nil (some (f .d10 .d4)) .nil) (some (f .d6 .d4)) (.node .nil (some (f .d14 .d4)) .nil))) (some (f .d1 .d4)) (.node (.node (.node .nil (some (f .d9 .d4)) .nil) (some (f .d5 .d4)) (.node .nil (some (f .d13 .d4)) .nil)) (some (f .d3 .d4)) (.node (.node .nil (some (f .d11 .d4)) .nil) (some (f .d7 .d4)) (.node .nil (some (f .d15 .d4)) .nil)))) (some (f .d0 .d12)) (.node (.node (.node (.node .nil (some (f .d8 .d12)) .nil) (some (f .d4 .d12)) (.node .nil (some (f .d12 .d12)) .nil)) (some (f .d2 .d12)) (.node (.node .nil (some (f .d10 .d12)) .nil) (some (f .d6 .d12)) (.node .nil (some (f .d14 .d12)) .nil))) (some (f .d1 .d12)) (.node (.node (.node .nil (some (f .d9 .d12)) .nil) (some (f .d5 .d12)) (.node .nil (some (f .d13 .d12)) .nil)) (some (f .d3 .d12)) (.node (.node .nil (some (f .d11 .d12)) .nil) (some (f .d7 .d12)) (.node .nil (some (f .d15 .d12)) .nil)))))) (some (f .d0 .d2)) (.node (.node (.node (.node (.node (.node .nil (some (f .d8 .d2)) .nil) (some (f .d4 .d2)) (.node .nil (some (f .d12 .d2)) .nil)) (some (f .d2 .d2)) (.node (.node .nil (some (f .d10 .d2)) .nil) (some (f .d6 .d2)) (.node .nil (some (f .d14 .d2)) .nil))) (some (f .d1 .d2)) (.node (.node (.node .nil (some (f .d9 .d2)) .nil) (some (f .d5 .d2)) (.node .nil (some (f .d13 .d2)) .nil)) (some (f .d3 .d2)) (.node (.node .nil (some (f .d11 .d2)) .nil) (some (f .d7 .d2)) (.node .nil (some (f .d15 .d2)) .nil)))) (some (f .d0 .d10)) (.node (.node (.node (.node .nil (some (f .d8 .d10)) .nil) (some (f .d4 .d10)) (.node .nil (some (f .d12 .d10)) .nil)) (some (f .d2 .d10)) (.node (.node .nil (some (f .d10 .d10)) .nil) (some (f .d6 .d10)) (.node .nil (some (f .d14 .d10)) .nil))) (some (f .d1 .d10)) (.node (.node (.node .nil (some (f .d9 .d10)) .nil) (some (f .d5 .d10)) (.node .nil (some (f .d13 .d10)) .nil)) (some (f .d3 .d10)) (.node (.node .nil (some (f .d11 .d10)) .nil) (some (f .d7 .d10)) (.node .nil (some (f .d15 .d10)) .nil))))) (some (f .d0 .d6)) (.node (.node (.node (.node (.node .nil (some (f .d8 .d6)) .nil) (some (f .d4 .d6)) (.node .nil (some (f .d12 .d6)) .nil)) (some (f .d2 .d6)) (.node (.node .nil (some (f .d10 .d6)) .nil) (some (f .d6 .d6)) (.node .nil (some (f .d14 .d6)) .nil))) (some (f .d1 .d6)) (.node (.node (.node .nil (some (f .d9 .d6)) .nil) (some (f .d5 .d6)) (.node .nil (some (f .d13 .d6)) .nil)) (some (f .d3 .d6)) (.node (.node .nil (some (f .d11 .d6)) .nil) (some (f .d7 .d6)) (.node .nil (some (f .d15 .d6)) .nil)))) (some (f .d0 .d14)) (.node (.node (.node (.node .nil (some (f .d8 .d14)) .nil) (some (f .d4 .d14)) (.node .nil (some (f .d12 .d14)) .nil)) (some (f .d2 .d14)) (.node (.node .nil (some (f .d10 .d14)) .nil) (some (f .d6 .d14)) (.node .nil (some (f .d14 .d14)) .nil))) (some (f .d1 .d14)) (.node (.node (.node .nil (some (f .d9 .d14)) .nil) (some (f .d5 .d14)) (.node .nil (some (f .d13 .d14)) .nil)) (some (f .d3 .d14)) (.node (.node .nil (some (f .d11 .d14)) .nil) (some (f .d7 .d14)) (.node .nil (some (f .d15 .d14)) .nil))))))))
noncomputable def trLook (tm : Env) (i : Nat) : AV := @Option.rec AV (fun _ => AV) .undef (fun v => v) (Tr.get tm i)
noncomputable def envOf (tm : Env) : KEnv := mk16 fun a => mk16 fun b => trLook tm (Nat.add (Nat.mul (nat_lit 16) a.nat) b.nat)
/-- parameters get their arguments -/
noncomputable def setK (ps : List Nat) : List AV → KEnv → (KEnv → Bool) → Bool :=
  @List.rec Nat (fun _ => List AV → KEnv → (KEnv → Bool) → Bool) (fun l e K => @List.rec AV (fun _ => Bool) (K e) (fun _ _ _ => false) l)
    (fun p _ ih l e K => @List.rec AV (fun _ => Bool) false (fun v l' _ => wr p v e fun e' => ih l' e' K) l) ps

/-! ## Forcing -/
noncomputable def fN (n : Nat) (K : Nat → Bool) : Bool := @Nat.rec (fun _ => Bool) (K (nat_lit 0)) (fun m _ => K m) (Nat.add n (nat_lit 1))
noncomputable def fI (n : Int) (K : Int → Bool) : Bool := @Int.rec (fun _ => Bool) (fun m => fN m fun m' => K (.ofNat m')) (fun m => fN m fun m' => K (.negSucc m')) n
noncomputable def ifB (b : Bool) (x y : Bool) : Bool := @Bool.rec (fun _ => Bool) y x b
noncomputable def boolK (b : Bool) (K : AV → Bool) : Bool := @Bool.rec (fun _ => Bool) (K (.bool false)) (K (.bool true)) b
noncomputable def optK {α : Type} (o : Option α) (K : α → Bool) : Bool := @Option.rec α (fun _ => Bool) false (fun x => K x) o

/-! ## The heap -/
noncomputable def H1 : Type := N16 (Option AB)
noncomputable def H2 : Type := N16 H1
noncomputable def H3 : Type := N16 H2
noncomputable def H4 : Type := N16 H3
noncomputable def Hp : Type := N16 H4
/-- a block's way -/
inductive KeyP (A5 B5 A4 B4 A3 B3 A2 B2 A1 B1 : Type) where
  | no
  | at (s5 : A5) (u5 : B5) (s4 : A4) (u4 : B4) (s3 : A3) (u3 : B3) (s2 : A2) (u2 : B2) (s1 : A1) (u1 : B1)
abbrev Key : Type := KeyP (S16 H4) (U16 H4) (S16 H3) (U16 H3) (S16 H2) (U16 H2) (S16 H1) (U16 H1) (S16 (Option AB)) (U16 (Option AB))
noncomputable def fK (n : Nat) (K : Nat → Key) : Key := @Nat.rec (fun _ => Key) (K (nat_lit 0)) (fun m _ => K m) (Nat.add n (nat_lit 1))
noncomputable def keyD (a b c d f : D) : Key := @SUP.rec (S16 H4) (U16 H4) (fun _ => Key) (fun s5 u5 => @SUP.rec (S16 H3) (U16 H3) (fun _ => Key) (fun s4 u4 => @SUP.rec (S16 H2) (U16 H2) (fun _ => Key) (fun s3 u3 => @SUP.rec (S16 H1) (U16 H1) (fun _ => Key) (fun s2 u2 =>
  @SUP.rec (S16 (Option AB)) (U16 (Option AB)) (fun _ => Key) (fun s1 u1 => KeyP.at s5 u5 s4 u4 s3 u3 s2 u2 s1 u1) (suD (Option AB) f)) (suD H1 d)) (suD H2 c)) (suD H3 b)) (suD H4 a)
noncomputable def keyOf (i : Nat) : Key := @Bool.rec (fun _ => Key) KeyP.no (fK (Nat.div i (nat_lit 65536)) fun a => fK (Nat.mod (Nat.div i (nat_lit 4096)) (nat_lit 16)) fun b => fK (Nat.mod (Nat.div i (nat_lit 256)) (nat_lit 16)) fun c => fK (Nat.mod (Nat.div i (nat_lit 16)) (nat_lit 16)) fun d => fK (Nat.mod i (nat_lit 16)) fun f => keyD (D.of a) (D.of b) (D.of c) (D.of d) (D.of f)) (Nat.ble (Nat.add i (nat_lit 1)) (nat_lit 1048576))
noncomputable def hgetK (b : Nat) (t : Hp) (K : Option AB → Bool) : Bool :=
  @KeyP.rec _ _ _ _ _ _ _ _ _ _ (fun _ => Bool) false (fun s5 _ s4 _ s3 _ s2 _ s1 _ => t (s5 fun t4 => t4 (s4 fun t3 => t3 (s3 fun t2 => t2 (s2 fun t1 => t1 (s1 K)))))) (keyOf b)
noncomputable def hputK (b : Nat) (x : AB) (t : Hp) (K : Hp → Bool) : Bool :=
  @KeyP.rec _ _ _ _ _ _ _ _ _ _ (fun _ => Bool) false (fun s5 u5 s4 u4 s3 u3 s2 u2 _ u1 => t (s5 fun t4 => t4 (s4 fun t3 => t3 (s3 fun t2 => t2 (s2 fun t1 => t1 (u1 (some x) fun t1' => t2 (u2 t1' fun t2' => t3 (u3 t2' fun t3' => t4 (u4 t3' fun t4' => t (u5 t4' K))))))))) ) (keyOf b)
noncomputable def hp0 : Hp := mk16 fun _ => mk16 fun _ => mk16 fun _ => mk16 fun _ => mk16 fun _ => none

abbrev KV := Nat → Hp → AV → Bool
abbrev CallK := AV → List AV → Nat → Hp → KV → Bool
abbrev OpF := CallK → KEnv → Nat → Hp → KV → Bool
noncomputable def pushK (x : AB) (n : Nat) (t : Hp) (K : Nat → Hp → Bool) : Bool := hputK n x t fun t' => fN (Nat.add n (nat_lit 1)) fun n' => K n' t'

noncomputable def abCells (x : AB) : (List AV → Bool → Bool) → Bool := @AB.rec (fun _ => (List AV → Bool → Bool) → Bool) (fun cs g K => K cs g) (fun _ _ => fun _ => false) (fun _ _ _ _ _ _ _ => fun _ => false) (fun _ => fun _ => false) (fun _ => fun _ => false) (fun _ => fun _ => false) (fun _ => false) x
noncomputable def abLoop (x : AB) : (LoopState → Option Jump → Env → List Nat → RCode → RCode → Nat → Bool) → Bool := @AB.rec (fun _ => (LoopState → Option Jump → Env → List Nat → RCode → RCode → Nat → Bool) → Bool) (fun _ _ => fun _ => false) (fun _ _ => fun _ => false) (fun st pd tm ps as bd d K => K st pd tm ps as bd d) (fun _ => fun _ => false) (fun _ => fun _ => false) (fun _ => fun _ => false) (fun _ => false) x
noncomputable def abMap (x : AB) : (List (AV × AV × Nat) → Nat → Bool) → Bool := @AB.rec (fun _ => (List (AV × AV × Nat) → Nat → Bool) → Bool) (fun _ _ => fun _ => false) (fun es c K => K es c) (fun _ _ _ _ _ _ _ => fun _ => false) (fun _ => fun _ => false) (fun _ => fun _ => false) (fun _ => fun _ => false) (fun _ => false) x
noncomputable def cellsB (t : Hp) (b : Nat) (K : List AV → Bool → Bool) : Bool := hgetK b t fun o => optK o fun x => abCells x K
noncomputable def loopB (t : Hp) (b : Nat) (K : LoopState → Option Jump → Env → List Nat → RCode → RCode → Nat → Bool) : Bool := hgetK b t fun o => optK o fun x => abLoop x K

/-! ## Values -/
noncomputable def onPtr (v : AV) : (Nat → Nat → Bool) → Bool := @AV.rec (fun _ => (Nat → Nat → Bool) → Bool) (fun _ => Bool) (fun _ => fun _ => false) (fun _ _ => fun _ => false) (fun _ => fun _ => false) (fun _ => false) (fun b o K => K b o) (fun _ => false) (fun _ _ _ _ => fun _ => false) (fun _ _ _ _ => fun _ => false) (fun _ => false) (fun _ => fun _ => false) (fun _ => false) (fun _ _ _ _ _ => fun _ => false) (fun _ => fun _ => false) (fun _ => false) (fun _ _ _ => fun _ => false) (fun _ _ => fun _ => false) (fun _ _ => fun _ => false) false (fun _ _ _ _ => false) v
noncomputable def onBool (v : AV) : Bool → Bool → Bool := @AV.rec (fun _ => Bool → Bool → Bool) (fun _ => Bool) (fun b x y => ifB b x y) (fun _ _ => fun _ _ => false) (fun _ => fun _ _ => false) (fun _ _ => false) (fun _ _ => fun _ _ => false) (fun _ _ => false) (fun _ _ _ _ => fun _ _ => false) (fun _ _ _ _ => fun _ _ => false) (fun _ _ => false) (fun _ => fun _ _ => false) (fun _ _ => false) (fun _ _ _ _ _ => fun _ _ => false) (fun _ => fun _ _ => false) (fun _ _ => false) (fun _ _ _ => fun _ _ => false) (fun _ _ => fun _ _ => false) (fun _ _ => fun _ _ => false) false (fun _ _ _ _ => false) v
noncomputable def onAgg (v : AV) : (List AV → Bool) → Bool := @AV.rec (fun _ => (List AV → Bool) → Bool) (fun _ => Bool) (fun _ => fun _ => false) (fun _ _ => fun _ => false) (fun _ => fun _ => false) (fun _ => false) (fun _ _ => fun _ => false) (fun _ => false) (fun _ _ _ _ => fun _ => false) (fun _ _ _ _ => fun _ => false) (fun _ => false) (fun _ => fun _ => false) (fun _ => false) (fun _ _ _ _ _ => fun _ => false) (fun _ => fun _ => false) (fun _ => false) (fun _ _ _ => fun _ => false) (fun cs _ K => K cs) (fun _ _ => fun _ => false) false (fun _ _ _ _ => false) v
noncomputable def onTup (v : AV) : (List AV → Bool) → Bool := @AV.rec (fun _ => (List AV → Bool) → Bool) (fun _ => Bool) (fun _ => fun _ => false) (fun _ _ => fun _ => false) (fun _ => fun _ => false) (fun _ => false) (fun _ _ => fun _ => false) (fun _ => false) (fun _ _ _ _ => fun _ => false) (fun _ _ _ _ => fun _ => false) (fun _ => false) (fun _ => fun _ => false) (fun _ => false) (fun _ _ _ _ _ => fun _ => false) (fun _ => fun _ => false) (fun _ => false) (fun _ _ _ => fun _ => false) (fun _ _ => fun _ => false) (fun cs _ K => K cs) false (fun _ _ _ _ => false) v
noncomputable def onInt (v : AV) : (IntKind → Int → Bool) → Bool → Bool := @AV.rec (fun _ => (IntKind → Int → Bool) → Bool → Bool) (fun _ => Bool) (fun _ => fun _ F => F) (fun k n K _ => K k n) (fun _ => fun _ F => F) (fun _ F => F) (fun _ _ => fun _ F => F) (fun _ F => F) (fun _ _ _ _ => fun _ F => F) (fun _ _ _ _ => fun _ F => F) (fun _ F => F) (fun _ => fun _ F => F) (fun _ F => F) (fun _ _ _ _ _ => fun _ F => F) (fun _ => fun _ F => F) (fun _ F => F) (fun _ _ _ => fun _ F => F) (fun _ _ => fun _ F => F) (fun _ _ => fun _ F => F) false (fun _ _ _ _ => false) v
noncomputable def onIS (v : AV) : (IntKind → Int → Bool) → (List Nat → Bool) → Bool → Bool := @AV.rec (fun _ => (IntKind → Int → Bool) → (List Nat → Bool) → Bool → Bool) (fun _ => Bool) (fun _ => fun _ _ F => F) (fun k n K _ _ => K k n) (fun s _ K _ => K s) (fun _ _ F => F) (fun _ _ => fun _ _ F => F) (fun _ _ F => F) (fun _ _ _ _ => fun _ _ F => F) (fun _ _ _ _ => fun _ _ F => F) (fun _ _ F => F) (fun _ => fun _ _ F => F) (fun _ _ F => F) (fun _ _ _ _ _ => fun _ _ F => F) (fun _ => fun _ _ F => F) (fun _ _ F => F) (fun _ _ _ => fun _ _ F => F) (fun _ _ => fun _ _ F => F) (fun _ _ => fun _ _ F => F) false (fun _ _ _ _ => false) v
noncomputable def onStr (v : AV) : (List Nat → Bool) → Bool → Bool := @AV.rec (fun _ => (List Nat → Bool) → Bool → Bool) (fun _ => Bool) (fun _ => fun _ F => F) (fun _ _ => fun _ F => F) (fun s K _ => K s) (fun _ F => F) (fun _ _ => fun _ F => F) (fun _ F => F) (fun _ _ _ _ => fun _ F => F) (fun _ _ _ _ => fun _ F => F) (fun _ F => F) (fun _ => fun _ F => F) (fun _ F => F) (fun _ _ _ _ _ => fun _ F => F) (fun _ => fun _ F => F) (fun _ F => F) (fun _ _ _ => fun _ F => F) (fun _ _ => fun _ F => F) (fun _ _ => fun _ F => F) false (fun _ _ _ _ => false) v
noncomputable def onSl4 (v : AV) : (Nat → Nat → Nat → Nat → Bool) → Bool := @AV.rec (fun _ => (Nat → Nat → Nat → Nat → Bool) → Bool) (fun _ => Bool) (fun _ => fun _ => false) (fun _ _ => fun _ => false) (fun _ => fun _ => false) (fun _ => false) (fun _ _ => fun _ => false) (fun _ => false) (fun b o n c K => K b o n c) (fun _ _ _ _ => fun _ => false) (fun _ => false) (fun _ => fun _ => false) (fun _ => false) (fun _ _ _ _ _ => fun _ => false) (fun _ => fun _ => false) (fun _ => false) (fun _ _ _ => fun _ => false) (fun _ _ => fun _ => false) (fun _ _ => fun _ => false) false (fun _ _ _ _ => false) v
noncomputable def onGsl (v : AV) : (Nat → Nat → Nat → Nat → Bool) → Bool := @AV.rec (fun _ => (Nat → Nat → Nat → Nat → Bool) → Bool) (fun _ => Bool) (fun _ => fun _ => false) (fun _ _ => fun _ => false) (fun _ => fun _ => false) (fun _ => false) (fun _ _ => fun _ => false) (fun _ => false) (fun _ _ _ _ => fun _ => false) (fun b o n c K => K b o n c) (fun _ => false) (fun _ => fun _ => false) (fun _ => false) (fun _ _ _ _ _ => fun _ => false) (fun _ => fun _ => false) (fun _ => false) (fun _ _ _ => fun _ => false) (fun _ _ => fun _ => false) (fun _ _ => fun _ => false) false (fun _ _ _ _ => false) v
noncomputable def isNils (v : AV) : Bool → Bool := @AV.rec (fun _ => Bool → Bool) (fun _ => Bool) (fun _ => fun _ => false) (fun _ _ => fun _ => false) (fun _ => fun _ => false) (fun _ => false) (fun _ _ => fun _ => false) (fun Y => Y) (fun _ _ _ _ => fun _ => false) (fun _ _ _ _ => fun _ => false) (fun _ => false) (fun _ => fun _ => false) (fun _ => false) (fun _ _ _ _ _ => fun _ => false) (fun _ => fun _ => false) (fun _ => false) (fun _ _ _ => fun _ => false) (fun _ _ => fun _ => false) (fun _ _ => fun _ => false) false (fun _ _ _ _ => false) v
noncomputable def isNilp (v : AV) : Bool → Bool := @AV.rec (fun _ => Bool → Bool) (fun _ => Bool) (fun _ => fun _ => false) (fun _ _ => fun _ => false) (fun _ => fun _ => false) (fun Y => Y) (fun _ _ => fun _ => false) (fun _ => false) (fun _ _ _ _ => fun _ => false) (fun _ _ _ _ => fun _ => false) (fun _ => false) (fun _ => fun _ => false) (fun _ => false) (fun _ _ _ _ _ => fun _ => false) (fun _ => fun _ => false) (fun _ => false) (fun _ _ _ => fun _ => false) (fun _ _ => fun _ => false) (fun _ _ => fun _ => false) false (fun _ _ _ _ => false) v
noncomputable def isNilm (v : AV) : Bool → Bool := @AV.rec (fun _ => Bool → Bool) (fun _ => Bool) (fun _ => fun _ => false) (fun _ _ => fun _ => false) (fun _ => fun _ => false) (fun _ => false) (fun _ _ => fun _ => false) (fun _ => false) (fun _ _ _ _ => fun _ => false) (fun _ _ _ _ => fun _ => false) (fun Y => Y) (fun _ => fun _ => false) (fun _ => false) (fun _ _ _ _ _ => fun _ => false) (fun _ => fun _ => false) (fun _ => false) (fun _ _ _ => fun _ => false) (fun _ _ => fun _ => false) (fun _ _ => fun _ => false) false (fun _ _ _ _ => false) v
noncomputable def isNilf (v : AV) : Bool → Bool := @AV.rec (fun _ => Bool → Bool) (fun _ => Bool) (fun _ => fun _ => false) (fun _ _ => fun _ => false) (fun _ => fun _ => false) (fun _ => false) (fun _ _ => fun _ => false) (fun _ => false) (fun _ _ _ _ => fun _ => false) (fun _ _ _ _ => fun _ => false) (fun _ => false) (fun _ => fun _ => false) (fun Y => Y) (fun _ _ _ _ _ => fun _ => false) (fun _ => fun _ => false) (fun _ => false) (fun _ _ _ => fun _ => false) (fun _ _ => fun _ => false) (fun _ _ => fun _ => false) false (fun _ _ _ _ => false) v
noncomputable def isNili (v : AV) : Bool → Bool := @AV.rec (fun _ => Bool → Bool) (fun _ => Bool) (fun _ => fun _ => false) (fun _ _ => fun _ => false) (fun _ => fun _ => false) (fun _ => false) (fun _ _ => fun _ => false) (fun _ => false) (fun _ _ _ _ => fun _ => false) (fun _ _ _ _ => fun _ => false) (fun _ => false) (fun _ => fun _ => false) (fun _ => false) (fun _ _ _ _ _ => fun _ => false) (fun _ => fun _ => false) (fun Y => Y) (fun _ _ _ => fun _ => false) (fun _ _ => fun _ => false) (fun _ _ => fun _ => false) false (fun _ _ _ _ => false) v
noncomputable def onMap (v : AV) : (Nat → Bool) → Bool := @AV.rec (fun _ => (Nat → Bool) → Bool) (fun _ => Bool) (fun _ => fun _ => false) (fun _ _ => fun _ => false) (fun _ => fun _ => false) (fun _ => false) (fun _ _ => fun _ => false) (fun _ => false) (fun _ _ _ _ => fun _ => false) (fun _ _ _ _ => fun _ => false) (fun _ => false) (fun b K => K b) (fun _ => false) (fun _ _ _ _ _ => fun _ => false) (fun _ => fun _ => false) (fun _ => false) (fun _ _ _ => fun _ => false) (fun _ _ => fun _ => false) (fun _ _ => fun _ => false) false (fun _ _ _ _ => false) v
noncomputable def onYield (v : AV) : (Nat → Bool) → Bool := @AV.rec (fun _ => (Nat → Bool) → Bool) (fun _ => Bool) (fun _ => fun _ => false) (fun _ _ => fun _ => false) (fun _ => fun _ => false) (fun _ => false) (fun _ _ => fun _ => false) (fun _ => false) (fun _ _ _ _ => fun _ => false) (fun _ _ _ _ => fun _ => false) (fun _ => false) (fun _ => fun _ => false) (fun _ => false) (fun _ _ _ _ _ => fun _ => false) (fun b K => K b) (fun _ => false) (fun _ _ _ => fun _ => false) (fun _ _ => fun _ => false) (fun _ _ => fun _ => false) false (fun _ _ _ _ => false) v
noncomputable def onIface (v : AV) : (TypeId → AV → Bool) → Bool := @AV.rec (fun _ => (TypeId → AV → Bool) → Bool) (fun _ => Bool) (fun _ => fun _ => false) (fun _ _ => fun _ => false) (fun _ => fun _ => false) (fun _ => false) (fun _ _ => fun _ => false) (fun _ => false) (fun _ _ _ _ => fun _ => false) (fun _ _ _ _ => fun _ => false) (fun _ => false) (fun _ => fun _ => false) (fun _ => false) (fun _ _ _ _ _ => fun _ => false) (fun _ => fun _ => false) (fun _ => false) (fun t x _ K => K t x) (fun _ _ => fun _ => false) (fun _ _ => fun _ => false) false (fun _ _ _ _ => false) v
noncomputable def onFunc (v : AV) : (FuncId → List AV → List AV → Bool) → Bool := @AV.rec (fun _ => (FuncId → List AV → List AV → Bool) → Bool) (fun _ => Bool) (fun _ => fun _ => false) (fun _ _ => fun _ => false) (fun _ => fun _ => false) (fun _ => false) (fun _ _ => fun _ => false) (fun _ => false) (fun _ _ _ _ => fun _ => false) (fun _ _ _ _ => fun _ => false) (fun _ => false) (fun _ => fun _ => false) (fun _ => false) (fun f a b _ _ K => K f a b) (fun _ => fun _ => false) (fun _ => false) (fun _ _ _ => fun _ => false) (fun _ _ => fun _ => false) (fun _ _ => fun _ => false) false (fun _ _ _ _ => false) v
noncomputable def onNat (v : AV) : (Nat → Bool) → Bool := @AV.rec (fun _ => (Nat → Bool) → Bool) (fun _ => Bool) (fun _ => fun _ => false) (fun _ n K => @Int.rec (fun _ => Bool) (fun m => K m) (fun _ => false) n) (fun _ => fun _ => false) (fun _ => false) (fun _ _ => fun _ => false) (fun _ => false) (fun _ _ _ _ => fun _ => false) (fun _ _ _ _ => fun _ => false) (fun _ => false) (fun _ => fun _ => false) (fun _ => false) (fun _ _ _ _ _ => fun _ => false) (fun _ => fun _ => false) (fun _ => false) (fun _ _ _ => fun _ => false) (fun _ _ => fun _ => false) (fun _ _ => fun _ => false) false (fun _ _ _ _ => false) v
noncomputable def cellsF (v : AV) : AV → (List AV → Bool) → Bool := @AV.rec (fun _ => AV → (List AV → Bool) → Bool) (fun _ => Bool) (fun _ => fun v K => K [v]) (fun _ _ => fun v K => K [v]) (fun _ => fun v K => K [v]) (fun v K => K [v]) (fun _ _ => fun v K => K [v]) (fun v K => K [v]) (fun _ _ _ _ => fun v K => K [v]) (fun _ _ _ _ => fun v K => K [v]) (fun v K => K [v]) (fun _ => fun v K => K [v]) (fun v K => K [v]) (fun _ _ _ _ _ => fun v K => K [v]) (fun _ => fun v K => K [v]) (fun v K => K [v]) (fun _ _ _ => fun v K => K [v]) (fun cs _ _ K => K cs) (fun _ _ => fun v K => K [v]) false (fun _ _ _ _ => false) v
noncomputable def cellsK (v : AV) (K : List AV → Bool) : Bool := cellsF v v K
noncomputable def ckF (v : AV) : AV → (AV → Bool) → Bool := @AV.rec (fun _ => AV → (AV → Bool) → Bool) (fun _ => Bool) (fun _ => fun v K => K v) (fun _ _ => fun v K => K v) (fun _ => fun v K => K v) (fun _ _ => false) (fun _ _ => fun v K => K v) (fun v K => K v) (fun _ _ _ _ => fun v K => K v) (fun _ _ _ _ => fun v K => K v) (fun v K => K v) (fun _ => fun v K => K v) (fun _ _ => false) (fun _ _ _ _ _ => fun v K => K v) (fun _ => fun v K => K v) (fun _ _ => false) (fun _ _ _ => fun v K => K v) (fun _ _ => fun v K => K v) (fun _ _ => fun v K => K v) false (fun _ _ _ _ => false) v
noncomputable def fVF (v : AV) : AV → (AV → Bool) → Bool := @AV.rec (fun _ => AV → (AV → Bool) → Bool) (fun _ => Bool) (fun b _ K => boolK b K) (fun k n _ K => fI n fun n => K (.int k n)) (fun _ => fun v K => K v) (fun v K => K v) (fun _ _ => fun v K => K v) (fun v K => K v) (fun _ _ _ _ => fun v K => K v) (fun _ _ _ _ => fun v K => K v) (fun v K => K v) (fun _ => fun v K => K v) (fun v K => K v) (fun _ _ _ _ _ => fun v K => K v) (fun _ => fun v K => K v) (fun v K => K v) (fun _ _ _ => fun v K => K v) (fun _ _ => fun v K => K v) (fun _ _ => fun v K => K v) false (fun _ _ _ _ => false) v
noncomputable def fV (v : AV) (K : AV → Bool) : Bool := fVF v v K
noncomputable def onLen (v : AV) : (AV → Bool) → Bool := @AV.rec (fun _ => (AV → Bool) → Bool) (fun _ => Bool) (fun _ => fun _ => false) (fun _ _ => fun _ => false) (fun _ => fun _ => false) (fun _ => false) (fun _ _ => fun _ => false) (fun K => K (.int .i64 (.ofNat 0))) (fun _ _ n _ K => K (.int .i64 (.ofNat n))) (fun _ _ n _ K => K (.int .i64 (.ofNat n))) (fun _ => false) (fun _ => fun _ => false) (fun _ => false) (fun _ _ _ _ _ => fun _ => false) (fun _ => fun _ => false) (fun _ => false) (fun _ _ _ => fun _ => false) (fun _ _ => fun _ => false) (fun _ _ => fun _ => false) false (fun _ _ _ _ => false) v
noncomputable def onSl (v : AV) : (Nat → Nat → Nat → Bool) → Bool := @AV.rec (fun _ => (Nat → Nat → Nat → Bool) → Bool) (fun _ => Bool) (fun _ => fun _ => false) (fun _ _ => fun _ => false) (fun _ => fun _ => false) (fun _ => false) (fun _ _ => fun _ => false) (fun _ => false) (fun b o n _ K => K b o n) (fun b o n _ K => K b o n) (fun _ => false) (fun _ => fun _ => false) (fun _ => false) (fun _ _ _ _ _ => fun _ => false) (fun _ => fun _ => false) (fun _ => false) (fun _ _ _ => fun _ => false) (fun _ _ => fun _ => false) (fun _ _ => fun _ => false) false (fun _ _ _ _ => false) v
noncomputable def scK (v : AV) : Bool → Bool := @AV.rec (fun _ => Bool → Bool) (fun _ => Bool) (fun _ => fun b => b) (fun _ _ => fun b => b) (fun _ => fun b => b) (fun b => b) (fun _ _ => fun b => b) (fun b => b) (fun _ _ _ _ => fun b => b) (fun _ _ _ _ => fun b => b) (fun b => b) (fun _ => fun b => b) (fun b => b) (fun _ _ _ _ _ => fun b => b) (fun _ => fun b => b) (fun b => b) (fun _ _ _ => fun b => b) (fun _ _ _ => false) (fun _ _ _ => false) false (fun _ _ _ _ => false) v
noncomputable def wantV (v : AV) : Bool → Bool → Bool → Bool := @AV.rec (fun _ => Bool → Bool → Bool → Bool) (fun _ => Bool) (fun b w T F => ifB b (ifB w T F) (ifB w F T)) (fun _ _ => fun _ _ F => F) (fun _ => fun _ _ F => F) (fun _ _ F => F) (fun _ _ => fun _ _ F => F) (fun _ _ F => F) (fun _ _ _ _ => fun _ _ F => F) (fun _ _ _ _ => fun _ _ F => F) (fun _ _ F => F) (fun _ => fun _ _ F => F) (fun _ _ F => F) (fun _ _ _ _ _ => fun _ _ F => F) (fun _ => fun _ _ F => F) (fun _ _ F => F) (fun _ _ _ => fun _ _ F => F) (fun _ _ => fun _ _ F => F) (fun _ _ => fun _ _ F => F) false (fun _ _ _ _ => false) v
noncomputable def blk (v : AV) : List Nat → List Nat := @AV.rec (fun _ => List Nat → List Nat) (fun _ => Bool) (fun _ => fun l => l) (fun _ _ => fun l => l) (fun _ => fun l => l) (fun l => l) (fun b _ l => b :: l) (fun l => l) (fun b _ _ _ l => b :: l) (fun b _ _ _ l => b :: l) (fun l => l) (fun b l => b :: l) (fun l => l) (fun _ _ _ _ _ => fun l => l) (fun _ => fun l => l) (fun l => l) (fun _ _ ih l => ih l) (fun _ _ => fun l => l) (fun _ _ => fun l => l) false (fun _ _ _ _ => false) v
noncomputable def blkL (cs : List AV) (l : List Nat) : List Nat := @List.rec AV (fun _ => List Nat) l (fun a _ ih => blk a ih) cs
noncomputable def blkF (v : AV) : AV → List Nat → List Nat := @AV.rec (fun _ => AV → List Nat → List Nat) (fun _ => Bool) (fun _ => fun v l => blk v l) (fun _ _ => fun v l => blk v l) (fun _ => fun v l => blk v l) (fun v l => blk v l) (fun _ _ => fun v l => blk v l) (fun v l => blk v l) (fun _ _ _ _ => fun v l => blk v l) (fun _ _ _ _ => fun v l => blk v l) (fun v l => blk v l) (fun _ => fun v l => blk v l) (fun v l => blk v l) (fun _ _ _ _ _ => fun v l => blk v l) (fun _ => fun v l => blk v l) (fun v l => blk v l) (fun _ _ _ => fun v l => blk v l) (fun cs _ _ l => blkL cs l) (fun _ _ => fun v l => blk v l) false (fun _ _ _ _ => false) v
/-- the blocks that a key names -/
noncomputable def blkK (v : AV) (l : List Nat) : List Nat := blkF v v l
noncomputable def allS (l : List AV) : Bool := @List.rec AV (fun _ => Bool) true (fun v _ ih => scK v ih) l
abbrev Rds := KEnv → (List AV → Bool) → Bool
noncomputable def an : Rds := fun _ K => K []
noncomputable def ar (x : Rd) (l : Rds) : Rds := fun e K => x e fun v => l e fun vs => K (v :: vs)
abbrev Rdo := KEnv → (Option AV → Bool) → Bool
noncomputable def on : Rdo := fun _ K => K none
noncomputable def os (x : Rd) : Rdo := fun e K => x e fun v => K (some v)

/-! ## Lists -/
noncomputable def nthK (l : List AV) : Nat → (AV → Bool) → Bool :=
  @List.rec AV (fun _ => Nat → (AV → Bool) → Bool) (fun _ _ => false)
    (fun a _ ih n K => @Nat.rec (fun _ => Bool) (K a) (fun m _ => ih m K) n) l
noncomputable def dropK (n : Nat) : List AV → (List AV → Bool) → Bool :=
  @Nat.rec (fun _ => List AV → (List AV → Bool) → Bool) (fun l K => K l)
    (fun _ ih l K => @List.rec AV (fun _ => Bool) false (fun _ m _ => ih m K) l) n
noncomputable def takeK (n : Nat) : List AV → (List AV → Bool) → Bool :=
  @Nat.rec (fun _ => List AV → (List AV → Bool) → Bool) (fun _ K => K [])
    (fun _ ih l K => @List.rec AV (fun _ => Bool) false (fun a m _ => ih m fun r => K (a :: r)) l) n
noncomputable def subK (l : List AV) (o n : Nat) (K : List AV → Bool) : Bool := dropK o l fun m => takeK n m K
noncomputable def overK (vs : List AV) : List AV → (List AV → Bool) → Bool :=
  @List.rec AV (fun _ => List AV → (List AV → Bool) → Bool) (fun l K => K l)
    (fun v _ ih l K => @List.rec AV (fun _ => Bool) false (fun _ m _ => ih m fun r => K (v :: r)) l) vs
noncomputable def spliceK (o : Nat) : List AV → List AV → (List AV → Bool) → Bool :=
  @Nat.rec (fun _ => List AV → List AV → (List AV → Bool) → Bool) (fun l vs K => overK vs l K)
    (fun _ ih l vs K => @List.rec AV (fun _ => Bool) false (fun a m _ => ih m vs fun r => K (a :: r)) l) o
noncomputable def appF (l : List AV) : List AV → (List AV → Bool) → Bool :=
  @List.rec AV (fun _ => List AV → (List AV → Bool) → Bool) (fun m K => K m) (fun a _ ih m K => ih m fun r => K (a :: r)) l
noncomputable def appK (l m : List AV) (K : List AV → Bool) : Bool := @List.rec AV (fun _ => Bool) (K l) (fun _ _ _ => appF l m K) m
noncomputable def partK (cs : List AV) (o : Nat) (g : Option Nat) (K : AV → Bool) : Bool :=
  @Option.rec Nat (fun _ => Bool) (nthK cs o K) (fun m => subK cs o m fun l => K (.agg l)) g
noncomputable def wrK (t : Hp) (b o : Nat) (vs : List AV) (K : Hp → Bool) : Bool :=
  cellsB t b fun cs g => ifB (allS vs) (spliceK o cs vs fun cs' => hputK b (.cells cs' g) t K) false
abbrev PtF := KEnv → List AV → (List AV → Bool) → Bool
noncomputable def pn : PtF := fun _ cs K => K cs
noncomputable def pt (off sz : Nat) (x : Rd) (rest : PtF) : PtF := fun e cs K => x e fun v => cellsK v fun vs => ifB (Nat.beq vs.length sz) (spliceK off cs vs fun cs' => rest e cs' K) false

/-! ## Numbers -/
noncomputable def kmax (k : IntKind) : Nat := match k with | .i8 => 127 | .i16 => 32767 | .i32 => 2147483647 | .i64 => 9223372036854775807 | .u8 => 255 | .u16 => 65535 | .u32 => 4294967295 | .u64 => 18446744073709551615
noncomputable def kk (k l : IntKind) : Bool := decide (k = l)
abbrev NB := IntKind → IntKind → Nat → Nat → (AV → Bool) → Bool → Bool
noncomputable def nbAdd : NB := fun k l m p K F => ifB (kk k l) (ifB (Nat.ble (Nat.add m p) (kmax k)) (fN (Nat.add m p) fun r => K (.int k (.ofNat r))) F) F
noncomputable def nbSub : NB := fun k l m p K F => ifB (kk k l) (ifB (Nat.ble p m) (ifB (Nat.ble (Nat.sub m p) (kmax k)) (fN (Nat.sub m p) fun r => K (.int k (.ofNat r))) F) F) F
noncomputable def nbEql : NB := fun k l m p K F => ifB (kk k l) (boolK (Nat.beq m p) K) F
noncomputable def nbNeq : NB := fun k l m p K F => ifB (kk k l) (ifB (Nat.beq m p) (K (.bool false)) (K (.bool true))) F
noncomputable def nbLss : NB := fun k l m p K F => ifB (kk k l) (boolK (Nat.ble (Nat.add m (nat_lit 1)) p) K) F
noncomputable def nbLeq : NB := fun k l m p K F => ifB (kk k l) (boolK (Nat.ble m p) K) F
noncomputable def nbGtr : NB := fun k l m p K F => ifB (kk k l) (boolK (Nat.ble (Nat.add p (nat_lit 1)) m) K) F
noncomputable def nbGeq : NB := fun k l m p K F => ifB (kk k l) (boolK (Nat.ble p m) K) F
noncomputable def nbNo : NB := fun _ _ _ _ _ F => F

noncomputable def natBin (op : BinOp) : NB := @BinOp.rec (fun _ => NB) nbAdd nbSub nbNo nbNo nbNo nbNo nbNo nbNo nbNo nbNo nbNo nbEql nbNeq nbLss nbLeq nbGtr nbGeq op
noncomputable def intBin (nb : NB) (k l : IntKind) (a b : Int) (K : AV → Bool) (F : Bool) : Bool :=
  @Int.rec (fun _ => Bool) (fun m => @Int.rec (fun _ => Bool) (fun p => nb k l m p K F) (fun _ => F) b) (fun _ => F) a

/-! ## Strings -/
noncomputable def strK (a : List Nat) : List Nat → Bool → Bool → Bool :=
  @List.rec Nat (fun _ => List Nat → Bool → Bool → Bool) (fun b Y N => @List.rec Nat (fun _ => Bool) Y (fun _ _ _ => N) b)
    (fun x _ ih b Y N => @List.rec Nat (fun _ => Bool) N (fun y m _ => ifB (Nat.beq x y) (ih m Y N) N) b) a

noncomputable def intEq (a b : Int) (Y : Bool) : Bool := @Int.rec (fun _ => Bool) (fun m => @Int.rec (fun _ => Bool) (fun p => ifB (Nat.beq m p) Y false) (fun _ => false) b) (fun m => @Int.rec (fun _ => Bool) (fun _ => false) (fun p => ifB (Nat.beq m p) Y false) b) a
/-- are two values one? (yes: Y) -/
noncomputable def aveqF (v : AV) : AV → Bool → Bool := @AV.rec (fun _ => AV → Bool → Bool) (fun _ => List AV → Bool → Bool) (fun b w Y => onBool w (ifB b Y false) (ifB b false Y)) (fun k a w Y => onInt w (fun l b => ifB (kk k l) (intEq a b Y) false) false) (fun s w Y => onStr w (fun t => strK s t Y false) false) (fun w Y => isNilp w Y) (fun b o w Y => onPtr w fun c p => ifB (Nat.beq b c) (ifB (Nat.beq o p) Y false) false) (fun w Y => isNils w Y) (fun b o n c w Y => onSl4 w fun b' o' n' c' => ifB (Nat.beq b b') (ifB (Nat.beq o o') (ifB (Nat.beq n n') (ifB (Nat.beq c c') Y false) false) false) false) (fun b o n c w Y => onGsl w fun b' o' n' c' => ifB (Nat.beq b b') (ifB (Nat.beq o o') (ifB (Nat.beq n n') (ifB (Nat.beq c c') Y false) false) false) false) (fun w Y => isNilm w Y) (fun b w Y => onMap w fun c => ifB (Nat.beq b c) Y false) (fun w Y => isNilf w Y) (fun f _ _ iha ihb w Y => onFunc w fun g c d => ifB (Nat.beq f g) (iha c (ihb d Y)) false) (fun b w Y => onYield w fun c => ifB (Nat.beq b c) Y false) (fun w Y => isNili w Y) (fun t _ ih w Y => onIface w fun u x => ifB (Nat.beq t u) (ih x Y) false) (fun _ ih w Y => onAgg w fun m => ih m Y) (fun _ ih w Y => onTup w fun m => ih m Y) (fun m Y => @List.rec AV (fun _ => Bool) Y (fun _ _ _ => false) m) (fun _ _ iha ihl m Y => @List.rec AV (fun _ => Bool) false (fun b m' _ => iha b (ihl m' Y)) m) v
noncomputable def aveqsF (l : List AV) : List AV → Bool → Bool := @AV.rec_1 (fun _ => AV → Bool → Bool) (fun _ => List AV → Bool → Bool) (fun b w Y => onBool w (ifB b Y false) (ifB b false Y)) (fun k a w Y => onInt w (fun l b => ifB (kk k l) (intEq a b Y) false) false) (fun s w Y => onStr w (fun t => strK s t Y false) false) (fun w Y => isNilp w Y) (fun b o w Y => onPtr w fun c p => ifB (Nat.beq b c) (ifB (Nat.beq o p) Y false) false) (fun w Y => isNils w Y) (fun b o n c w Y => onSl4 w fun b' o' n' c' => ifB (Nat.beq b b') (ifB (Nat.beq o o') (ifB (Nat.beq n n') (ifB (Nat.beq c c') Y false) false) false) false) (fun b o n c w Y => onGsl w fun b' o' n' c' => ifB (Nat.beq b b') (ifB (Nat.beq o o') (ifB (Nat.beq n n') (ifB (Nat.beq c c') Y false) false) false) false) (fun w Y => isNilm w Y) (fun b w Y => onMap w fun c => ifB (Nat.beq b c) Y false) (fun w Y => isNilf w Y) (fun f _ _ iha ihb w Y => onFunc w fun g c d => ifB (Nat.beq f g) (iha c (ihb d Y)) false) (fun b w Y => onYield w fun c => ifB (Nat.beq b c) Y false) (fun w Y => isNili w Y) (fun t _ ih w Y => onIface w fun u x => ifB (Nat.beq t u) (ih x Y) false) (fun _ ih w Y => onAgg w fun m => ih m Y) (fun _ ih w Y => onTup w fun m => ih m Y) (fun m Y => @List.rec AV (fun _ => Bool) Y (fun _ _ _ => false) m) (fun _ _ iha ihl m Y => @List.rec AV (fun _ => Bool) false (fun b m' _ => iha b (ihl m' Y)) m) l
noncomputable def sameK (u v : AV) (Y : Bool) : Bool := ifB (aveqF u v true) Y (ifB (aveq u v) Y false)

/-! ## Operations -/
/-- the blocks that are asked, in a heap of their own -/
noncomputable def bring (l : List Nat) (t : Hp) : Tr AB → (Tr AB → Bool) → Bool :=
  @List.rec Nat (fun _ => Tr AB → (Tr AB → Bool) → Bool) (fun s K => K s)
    (fun b _ ih s K => hgetK b t fun o => @Option.rec AB (fun _ => Bool) (ih s K) (fun x => ih (s.put b x) K) o) l
noncomputable def abForce (x : AB) : (AB → Bool) → Bool := @AB.rec (fun _ => (AB → Bool) → Bool) (fun cs g K => appF cs [] fun cs' => K (.cells cs' g)) (fun es clock K => K (.map es clock)) (fun _ _ _ _ _ _ _ => fun _ => false) (fun _ => fun _ => false) (fun _ => fun _ => false) (fun _ => fun _ => false) (fun K => K .dead) x
noncomputable def layK (l : List Nat) (h : Heap) : Hp → (Hp → Bool) → Bool :=
  @List.rec Nat (fun _ => Hp → (Hp → Bool) → Bool) (fun t K => K t)
    (fun b _ ih t K => @Option.rec AB (fun _ => Bool) (ih t K) (fun x => abForce x fun x => hputK b x t fun t' => ih t' K) (h.get b)) l
/-- one block more, at most -/
noncomputable def newK (h : Heap) (n : Nat) (t : Hp) (K : Nat → Hp → Bool) : Bool :=
  ifB (Nat.beq h.next n) (K n t) (ifB (Nat.beq h.next (Nat.add n (nat_lit 1))) (optK (h.get n) fun x => abForce x fun x => pushK x n t K) false)
noncomputable def slowEnd (op : ROp) (l : List Nat) (n : Nat) (t : Hp) (K : KV) : Bool :=
  bring l t .nil fun s => optK (aop .nil ⟨n, s⟩ op) fun p => @Prod.rec AV Heap (fun _ => Bool) (fun v h => layK l h t fun t' => newK h n t' fun n' t'' => fV v (K n' t'')) p
/-- Are the keys of a map's operation held against each other by their places? Then the blocks that the map's keys name are asked, too. -/
noncomputable def byPlace (q : EqD) : Bool := match q with | .ptr => true | .struct _ => true | _ => false
noncomputable def deepOp (op : ROp) : Bool := match op with | .lk q _ _ _ _ => byPlace q | .mu q _ _ _ => byPlace q | .me q _ _ _ => byPlace q | .bdel q _ _ => byPlace q | _ => false
noncomputable def keysB (es : List (AV × AV × Nat)) (l : List Nat) : List Nat := @List.rec (AV × AV × Nat) (fun _ => List Nat) l (fun p _ ih => blkK p.1 ih) es
noncomputable def abKeys (x : AB) (l : List Nat) : List Nat := @AB.rec (fun _ => List Nat → List Nat) (fun _ _ => fun l => l) (fun es _ l => keysB es l) (fun _ _ _ _ _ _ _ => fun l => l) (fun _ => fun l => l) (fun _ => fun l => l) (fun _ => fun l => l) (fun l => l) x l
noncomputable def deepL (t : Hp) (K : List Nat → Bool) (l : List Nat) : List Nat → Bool := @List.rec Nat (fun _ => List Nat → Bool) (fun acc => K acc)
  (fun b _ ih acc => hgetK b t fun o => @Option.rec AB (fun _ => Bool) (ih (b :: acc)) (fun x => ih (abKeys x (b :: acc))) o) l
noncomputable def deepK (op : ROp) (l : List Nat) (t : Hp) (K : List Nat → Bool) : Bool := ifB (deepOp op) (deepL t K l []) (K l)
noncomputable def slowE (op : ROp) (l : List Nat) (n : Nat) (t : Hp) (K : KV) : Bool := deepK op l t fun l' => slowEnd op l' n t K
noncomputable def bins (op : BinOp) (q : Option EqD) (v w : AV) (n : Nat) (t : Hp) (K : KV) : Bool := slowEnd (.bin op q (.c v) (.c w)) (blk v (blk w [])) n t K
noncomputable def sbNo : List Nat → List Nat → (AV → Bool) → Bool → Bool := fun _ _ _ F => F
noncomputable def sbEql : List Nat → List Nat → (AV → Bool) → Bool → Bool := fun a b K _ => strK a b (K (.bool true)) (K (.bool false))
noncomputable def sbNeq : List Nat → List Nat → (AV → Bool) → Bool → Bool := fun a b K _ => strK a b (K (.bool false)) (K (.bool true))
noncomputable def strBin (op : BinOp) : List Nat → List Nat → (AV → Bool) → Bool → Bool := @BinOp.rec (fun _ => List Nat → List Nat → (AV → Bool) → Bool → Bool) sbNo sbNo sbNo sbNo sbNo sbNo sbNo sbNo sbNo sbNo sbNo sbEql sbNeq sbNo sbNo sbNo sbNo op
noncomputable def kMv (x : Rd) : OpF := fun _ e n t K => x e (K n t)
noncomputable def kPick (c a b : Rd) : OpF := fun _ e n t K => c e fun v => onBool v (a e (K n t)) (b e (K n t))
noncomputable def kAlloc (x : AB) : OpF := fun _ _ n t K => pushK x n t fun n' t' => K n' t' (.ptr n 0)
noncomputable def kBox (x : Rd) : OpF := fun _ e n t K => x e fun v => cellsK v fun cs => pushK (.cells cs false) n t fun n' t' => K n' t' (.ptr n 0)
noncomputable def kBuild (zero : List AV) (parts : PtF) : OpF := fun _ e n t K => parts e zero fun cs => K n t (.agg cs)
noncomputable def kBslice (len : Nat) (base : List AV) (parts : PtF) : OpF := fun _ e n t K => parts e base fun cs => pushK (.cells cs false) n t fun n' t' => K n' t' (.slice n 0 len len)
noncomputable def kLd (g : Option Nat) (a : Rd) : OpF := fun _ e n t K => a e fun v => onPtr v fun b o => cellsB t b fun cs _ => partK cs o g (K n t)
noncomputable def kSt (m : Nat) (a x : Rd) : OpF := fun _ e n t K => a e fun v => onPtr v fun b o => x e fun w => cellsK w fun vs => ifB (Nat.beq vs.length m) (wrK t b o vs fun t' => K n t' .undef) false
noncomputable def kNilck (x : Rd) : OpF := fun _ e n t K => x e fun v => ckF v v (K n t)
noncomputable def binInt (op : BinOp) (k : IntKind) (a : Int) (w : AV) (K : AV → Bool) (F : Bool) : Bool := onInt w (fun l b => intBin (natBin op) k l a b K F) F
noncomputable def binStr (op : BinOp) (a : List Nat) (w : AV) (K : AV → Bool) (F : Bool) : Bool := onStr w (fun b => strBin op a b K F) F
noncomputable def kBin (op : BinOp) (q : Option EqD) (x y : Rd) : OpF := fun _ e n t K => x e fun v => y e fun w => onIS v (fun k a => binInt op k a w (K n t) (bins op q v w n t K)) (fun a => binStr op a w (K n t) (bins op q v w n t K)) (bins op q v w n t K)
noncomputable def kUn (op : UnOp) (x : Rd) : OpF := fun _ e n t K => x e fun v => optK (unA op v) fun r => fV r (K n t)
noncomputable def kNot (x : Rd) : OpF := fun _ e n t K => x e fun v => onBool v (K n t (.bool false)) (K n t (.bool true))
noncomputable def kMkfn (f : FuncId) (a b : Rds) : OpF := fun _ e n t K => a e fun a => b e fun b => K n t (.func f a b)
noncomputable def kFa (off : Nat) (x : Rd) : OpF := fun _ e n t K => x e fun v => onPtr v fun b o => fN (Nat.add o off) fun o => K n t (.ptr b o)
noncomputable def kFld (off : Nat) (g : Option Nat) (x : Rd) : OpF := fun _ e n t K => x e fun v => onAgg v fun cs => partK cs off g (K n t)
noncomputable def kIaSl (sz : Nat) (x i : Rd) : OpF := fun _ e n t K => i e fun w => onNat w fun j => x e fun v => onSl v fun b o len =>
  ifB (Nat.ble (Nat.add j (nat_lit 1)) len) (fN (Nat.add o (Nat.mul j sz)) fun o => K n t (.ptr b o)) false
noncomputable def kIxArr (m sz : Nat) (ag : Option Nat) (x i : Rd) : OpF := fun _ e n t K => x e fun v => onAgg v fun cs => i e fun w => onNat w fun j =>
  ifB (Nat.ble (Nat.add j (nat_lit 1)) m) (partK cs (Nat.mul j sz) ag (K n t)) false
noncomputable def kEx (x : Rd) (i : Nat) : OpF := fun _ e n t K => x e fun v => onTup v fun vs => nthK vs i (K n t)
noncomputable def kCall (f : Rd) (args : Rds) : OpF := fun call e n t K => f e fun fv => args e fun l => call fv l n t K
noncomputable def kLen (x : Rd) : OpF := fun _ e n t K => x e fun v => onLen v (K n t)
abbrev CloF := KEnv → (ROp → List Nat → Bool) → Bool
noncomputable def kSlow (c : CloF) : OpF := fun _ e n t K => c e fun op l => slowE op l n t K

noncomputable def qCvInt (k : IntKind) (x : Rd) : CloF := fun e K => x e fun x' => K (ROp.cvInt k (.c x')) []
noncomputable def qCvStr (x : Rd) : CloF := fun e K => x e fun x' => K (ROp.cvStr (.c x')) []
noncomputable def qCvBytes (x : Rd) : CloF := fun e K => x e fun x' => K (ROp.cvBytes (.c x')) []
noncomputable def qCvOfBytes (x : Rd) : CloF := fun e K => x e fun x' => K (ROp.cvOfBytes (.c x')) (blk x' [])
noncomputable def qMkif (ty : TypeId) (x : Rd) : CloF := fun e K => x e fun x' => K (ROp.mkif ty (.c x')) []
noncomputable def qMkmap : CloF := fun _ K => K (ROp.mkmap) []
noncomputable def qMksl (sz : Nat) (bt : Nat) (z : (List AV)) (l : Rd) (c : Rd) : CloF := fun e K => l e fun l' => c e fun c' => K (ROp.mksl sz bt z (.c l') (.c c')) []
noncomputable def qSl (k : SK) (x : Rd) (lo : Rdo) (hi : Rdo) (mx : Rdo) : CloF := fun e K => x e fun x' => lo e fun lo' => hi e fun hi' => mx e fun mx' => K (ROp.sl k (.c x') (lo'.map .c) (hi'.map .c) (mx'.map .c)) []
noncomputable def qIaArr (m : Nat) (sz : Nat) (x : Rd) (i : Rd) : CloF := fun e K => x e fun x' => i e fun i' => K (ROp.iaArr m sz (.c x') (.c i')) []
noncomputable def qIxStr (x : Rd) (i : Rd) : CloF := fun e K => x e fun x' => i e fun i' => K (ROp.ixStr (.c x') (.c i')) []
noncomputable def qLk (q : EqD) (z : AV) (ok : Bool) (m : Rd) (k : Rd) : CloF := fun e K => m e fun m' => k e fun k' => K (ROp.lk q z ok (.c m') (.c k')) (blk m' (blkK k' []))
noncomputable def qMu (q : EqD) (m : Rd) (k : Rd) (v : Rd) : CloF := fun e K => m e fun m' => k e fun k' => v e fun v' => K (ROp.mu q (.c m') (.c k') (.c v')) (blk m' (blkK k' []))
noncomputable def qMe (q : EqD) (z : AV) (m : Rd) (k : Rd) : CloF := fun e K => m e fun m' => k e fun k' => K (ROp.me q z (.c m') (.c k')) (blk m' (blkK k' []))
noncomputable def qEs (m : Rd) (s : Rd) (v : Rd) : CloF := fun e K => m e fun m' => s e fun s' => v e fun v' => K (ROp.es (.c m') (.c s') (.c v')) (blk m' [])
noncomputable def qTa (ty : TypeId) (ok : Bool) (z : AV) (x : Rd) : CloF := fun e K => x e fun x' => K (ROp.ta ty ok z (.c x')) []
noncomputable def qBlenStr (x : Rd) : CloF := fun e K => x e fun x' => K (ROp.blenStr (.c x')) []
noncomputable def qBlenMap (x : Rd) : CloF := fun e K => x e fun x' => K (ROp.blenMap (.c x')) (blk x' [])
noncomputable def qBlenArr (m : Nat) : CloF := fun _ K => K (ROp.blenArr m) []
noncomputable def qBapp (sz : Nat) (bt : Nat) (s : Rd) (x : Rd) : CloF := fun e K => s e fun s' => x e fun x' => K (ROp.bapp sz bt (.c s') (.c x')) (blk s' (blk x' []))
noncomputable def qBappZ (sz : Nat) (bt : Nat) (z : (List AV)) (s : Rd) (x : Rd) : CloF := fun e K => s e fun s' => x e fun x' => K (ROp.bappZ sz bt z (.c s') (.c x')) (blk s' [])
noncomputable def qBcap (x : Rd) : CloF := fun e K => x e fun x' => K (ROp.bcap (.c x')) []
noncomputable def qBminmax (mx : Bool) (xs : Rds) : CloF := fun e K => xs e fun xs' => K (ROp.bminmax mx (xs'.map .c)) []
noncomputable def qBclear (sz : Nat) (z : (List AV)) (x : Rd) : CloF := fun e K => x e fun x' => K (ROp.bclear sz z (.c x')) (blk x' [])
noncomputable def qBcopy (sz : Nat) (d : Rd) (s : Rd) : CloF := fun e K => d e fun d' => s e fun s' => K (ROp.bcopy sz (.c d') (.c s')) (blk d' (blk s' []))
noncomputable def qBdel (q : EqD) (m : Rd) (k : Rd) : CloF := fun e K => m e fun m' => k e fun k' => K (ROp.bdel q (.c m') (.c k')) (blk m' (blkK k' []))
noncomputable def qLd (g : (Option Nat)) (a : Rd) : CloF := fun e K => a e fun a' => K (ROp.ld g (.c a')) (blk a' [])
noncomputable def qBin (op : BinOp) (q : (Option EqD)) (x : Rd) (y : Rd) : CloF := fun e K => x e fun x' => y e fun y' => K (ROp.bin op q (.c x') (.c y')) (blk x' (blk y' []))
noncomputable def qNo : CloF := fun _ _ => false

/-! ## Regions -/
abbrev RegF := CallK → KEnv → Nat → Hp → (KEnv → Nat → Hp → Bool) → Bool
noncomputable def z : RegF := fun _ e n t K => K e n t
noncomputable def a (w : Wr) (op : OpF) (rest : RegF) : RegF := fun call e n t K => op call e n t fun n t v => w v e fun e => rest call e n t K
noncomputable def b (op : OpF) (rest : RegF) : RegF := fun call e n t K => op call e n t fun n t _ => rest call e n t K
noncomputable def g (s : Rd) (want : Bool) (w : Wr) (op : OpF) (rest : RegF) : RegF := fun call e n t K => s e fun v =>
  wantV v want (op call e n t fun n t v => w v e fun e => rest call e n t K) (w .undef e fun e => rest call e n t K)

abbrev DregF := CallK → Nat → List Pend → KEnv → Nat → Hp → (KEnv → Nat → Hp → Bool) → Bool
noncomputable def blkOp (op : ROp) : List Nat := match op with
  | .ld _ (.c v) => blk v []
  | .lk _ _ _ (.c v) (.c k) => blk v (blkK k [])
  | .blenMap (.c v) => blk v []
  | .cvOfBytes (.c v) => blk v []
  | .bin _ _ (.c v) (.c w) => blk v (blk w [])
  | _ => []
noncomputable def chkSlow (op : ROp) (v : AV) (n : Nat) (t : Hp) (Y : Bool) : Bool := deepK op (blkOp op) t fun l => bring l t .nil fun s => optK (aop .nil ⟨n, s⟩ op) fun r => @Prod.rec AV Heap (fun _ => Bool) (fun u _ => sameK u v Y) r
noncomputable def chkLd (g : Option Nat) (a : RO) (v : AV) (t : Hp) (Y : Bool) : Bool := @RO.rec (fun _ => Bool) (fun _ => false) (fun p => onPtr p fun b o => cellsB t b fun cs _ => partK cs o g fun u => sameK u v Y) a
abbrev ChkF := ROp → AV → Nat → Hp → Bool → Bool
noncomputable def chkF (op : ROp) : ChkF := @ROp.rec (fun _ => ChkF) (fun _ => chkSlow) (fun _ _ _ => chkSlow) (fun _ => chkSlow) (fun _ => chkSlow) (fun _ _ => chkSlow) (fun _ _ _ => chkSlow) (fun g a _ v _ t Y => chkLd g a v t Y) (fun _ _ _ => chkSlow) (fun _ => chkSlow) (fun _ _ _ _ => chkSlow) (fun _ _ => chkSlow) (fun _ _ => chkSlow) (fun _ => chkSlow) (fun _ => chkSlow) (fun _ => chkSlow) (fun _ _ => chkSlow) (fun _ _ _ => chkSlow) chkSlow (fun _ _ _ _ _ => chkSlow) (fun _ _ _ _ _ => chkSlow) (fun _ _ => chkSlow) (fun _ _ _ => chkSlow) (fun _ _ _ _ => chkSlow) (fun _ _ _ => chkSlow) (fun _ _ _ _ _ => chkSlow) (fun _ _ => chkSlow) (fun _ _ _ _ _ => chkSlow) (fun _ _ _ _ => chkSlow) (fun _ _ _ _ => chkSlow) (fun _ _ _ => chkSlow) (fun _ _ _ _ => chkSlow) (fun _ _ => chkSlow) (fun _ _ => chkSlow) (fun _ => chkSlow) (fun _ => chkSlow) (fun _ => chkSlow) (fun _ => chkSlow) (fun _ _ _ _ => chkSlow) (fun _ _ _ _ _ => chkSlow) (fun _ => chkSlow) (fun _ _ => chkSlow) (fun _ _ _ => chkSlow) (fun _ _ _ => chkSlow) (fun _ _ _ => chkSlow) op
noncomputable def stableK (n : Nat) (t : Hp) (k : Nat) (l : List Pend) (Y : Bool) : Bool := @List.rec Pend (fun _ => Bool) Y
  (fun p _ ih => @Pend.rec (fun _ => Bool) (fun till _ op v => ifB (Nat.ble k till) (chkF op op v n t ih) ih) p) l
noncomputable def dz : DregF := fun _ _ _ e n t K => K e n t
noncomputable def dO (w : Wr) (op : OpF) (rest : DregF) : DregF := fun call k ps e n t K => op call e n t fun n t v => w v e fun e => rest call k ps e n t K
noncomputable def dR (till : Nat) (w : Wr) (op : OpF) (c : CloF) (rest : DregF) : DregF := fun call k ps e n t K => op call e n t fun n t v =>
  ifB (Nat.ble (Nat.add k (nat_lit 1)) till) (c e fun op' _ => w v e fun e => rest call k (⟨till, .nil, op', v⟩ :: ps) e n t K) (w v e fun e => rest call k ps e n t K)
noncomputable def dW (w : Wr) (op : OpF) (rest : DregF) : DregF := fun call k ps e n t K => fN (Nat.add k (nat_lit 1)) fun k => op call e n t fun n t v => stableK n t k ps (w v e fun e => rest call k ps e n t K)
noncomputable def dF (w : Wr) (rest : DregF) : DregF := fun call k ps e n t K => w .undef e fun e => rest call k ps e n t K
noncomputable def dFW (w : Wr) (rest : DregF) : DregF := fun call k ps e n t K => fN (Nat.add k (nat_lit 1)) fun k => w .undef e fun e => rest call k ps e n t K
noncomputable def noPend (k : Nat) (ps : List Pend) (Y : Bool) : Bool := @List.rec Pend (fun _ => Bool) Y (fun p _ ih => @Pend.rec (fun _ => Bool) (fun till _ _ _ => ifB (Nat.ble (Nat.add k (nat_lit 1)) till) false ih) p) ps
/-- two stores into two blocks: in either order -/
noncomputable def dE (n1 : Nat) (a1 x1 : Rd) (n2 : Nat) (a2 x2 : Rd) : DregF := fun call k ps e n t K => noPend k ps (a1 e fun v1 => onPtr v1 fun b1 _ => a2 e fun v2 => onPtr v2 fun b2 _ =>
  ifB (Nat.beq b1 b2) false (kSt n1 a1 x1 call e n t fun n t _ => kSt n2 a2 x2 call e n t fun n t _ => K e n t))
noncomputable def dG (s : Rd) (want : Bool) (x y : DregF → DregF) (rest : DregF) : DregF := fun call k ps e n t K => s e fun v => wantV v want (x rest call k ps e n t K) (y rest call k ps e n t K)

/-! ## Code -/
abbrev Kn := KEnv → Nat → Hp → List Nat → Bool
abbrev Ke := Ex → Kn
abbrev C := Nat → CallK → Option Nat → KEnv → Nat → Hp → List Nat → Kn → Ke → Bool
noncomputable def stBusy (s : LoopState) (x y : Bool) : Bool := @LoopState.rec (fun _ => Bool) y x y y s
noncomputable def stReady (s : LoopState) (x y : Bool) : Bool := @LoopState.rec (fun _ => Bool) x y y y s
noncomputable def jumpK (j : Option Jump) (kn : Kn) (ke : Ke) : Kn := @Option.rec Jump (fun _ => Kn) kn (fun j => @Jump.rec (fun _ => Kn) (ke .ret) (fun id => ke (.exit id)) j) j
noncomputable def endK (L : Nat) (marks : List Nat) (e : KEnv) (kn : Kn) (ke : Ke) (n : Nat) (t : Hp) : Bool :=
  loopB t L fun st pd tm ps as bd d => stBusy st false (hputK L (.loop .exhausted pd tm ps as bd d) t fun t' => jumpK pd kn ke e n t' marks)
noncomputable def cSkip : C := fun _ _ _ e n t m kn _ => kn e n t m
noncomputable def cReg (ops : RegF) : C := fun _ call _ e n t m kn _ => ops call e n t fun e n t => kn e n t m
noncomputable def cDreg (ops : DregF) : C := fun _ call _ e n t m kn _ => ops call 0 [] e n t fun e n t => kn e n t m
noncomputable def cSeq (x y : C) : C := fun F call r e n t m kn ke => x F call r e n t m (fun e n t m => y F call r e n t m kn ke) ke
noncomputable def cCond (c : Rd) (x y : C) : C := fun F call r e n t m kn ke => c e fun v => onBool v (x F call r e n t m kn ke) (y F call r e n t m kn ke)
noncomputable def blkX (id : Nat) (kn : Kn) (ke : Ke) : Ke := fun x => @Ex.rec (fun _ => Kn) (fun _ _ _ _ => false) (fun id' e n t m => ifB (Nat.beq id' id) (kn e n t m) (ke (.exit id') e n t m)) (ke .ret) x
noncomputable def cBlock (id : Nat) (x : C) : C := fun F call r e n t m kn ke => x F call r e n t m kn (blkX id kn ke)
noncomputable def loopF (x : C) (F : Nat) (call : CallK) (r : Option Nat) (ke : Ke) (i : Nat) : Kn := @Nat.rec (fun _ => Kn) (fun _ _ _ _ => false) (fun _ ih e n t m => x F call r e n t m ih ke) i
noncomputable def cLoop (x : C) : C := fun F call r e n t m _ ke => loopF x F call r ke F e n t m
noncomputable def rangeOwn (call : CallK) (f : AV) (ps : List Nat) (as bd : RCode) (e : KEnv) (n : Nat) (t : Hp) (m : List Nat) (kn : Kn) (ke : Ke) (tm : Tr AV) : Bool :=
  pushK (.deferred true) n t fun n1 t1 => pushK (.loop .ready none tm ps as bd n) n1 t1 fun n2 t2 => call f [.yield n1] n2 t2 fun n3 t3 _ => endK n1 (n :: m) e kn ke n3 t3
noncomputable def rangeIn (call : CallK) (L : Nat) (f : AV) (ps : List Nat) (as bd : RCode) (e : KEnv) (n : Nat) (t : Hp) (m : List Nat) (kn : Kn) (ke : Ke) (tm : Tr AV) : Bool :=
  loopB t L fun _ _ _ _ _ _ d => pushK (.loop .ready none tm ps as bd d) n t fun n2 t2 => call f [.yield n] n2 t2 fun n3 t3 _ => endK n m e kn ke n3 t3
noncomputable def cRange (f : Rd) (ps : List Nat) (as bd : RCode) : C := fun _ call r e n t m kn ke => f e fun fv =>
  @Option.rec Nat (fun _ => Bool) (e (trN (rangeOwn call fv ps as bd e n t m kn ke))) (fun L => e (trN (rangeIn call L fv ps as bd e n t m kn ke))) r
noncomputable def cExit (id : Nat) : C := fun _ _ _ e n t m _ ke => ke (.exit id) e n t m
noncomputable def cRet : C := fun _ _ _ e n t m _ ke => ke .ret e n t m
noncomputable def cBad : C := fun _ _ _ _ _ _ _ _ _ => false
abbrev ResF := KEnv → Hp → (List AV → Bool) → Bool
noncomputable def vn : ResF := fun _ _ K => K []
noncomputable def vt (x : Rd) (l : ResF) : ResF := fun e t K => x e fun v => l e t fun vs => K (v :: vs)
noncomputable def vp (x : Rd) (g : Option Nat) (l : ResF) : ResF := fun e t K => x e fun v => onPtr v fun b o => cellsB t b fun cs _ => partK cs o g fun v => l e t fun vs => K (v :: vs)

/-! ## Resolved code, made into closures -/
noncomputable def ofRO (x : RO) : Rd := match x with | .t i => rd i | .c v => kc v
noncomputable def ofROs (l : List RO) : Rds := match l with | [] => an | x :: l => ar (ofRO x) (ofROs l)
noncomputable def ofROo (o : Option RO) : Rdo := match o with | none => on | some x => os (ofRO x)
noncomputable def ofParts (l : List (Nat × Nat × RO)) : PtF := match l with | [] => pn | (off, sz, x) :: l => pt off sz (ofRO x) (ofParts l)
noncomputable def ofBin (op : BinOp) (q : Option EqD) (x y : RO) : OpF := kBin op q (ofRO x) (ofRO y)
noncomputable def ofUn (op : UnOp) (x : Rd) : OpF := match op with
  | .not => kNot x
  | .neg => kUn .neg x
  | .xor => kUn .xor x
  | .plus => kUn .plus x
noncomputable def ofOp (op : ROp) : OpF := match op with
  | .mv x => kMv (ofRO x)
  | .pick c a b => kPick (ofRO c) (ofRO a) (ofRO b)
  | .alloc z => kAlloc (zeroAB z)
  | .box x => kBox (ofRO x)
  | .build z l => kBuild z (ofParts l)
  | .bslice n z l => kBslice n z (ofParts l)
  | .ld g a => kLd g (ofRO a)
  | .st n a v => kSt n (ofRO a) (ofRO v)
  | .nilck x => kNilck (ofRO x)
  | .bin op q x y => kBin op q (ofRO x) (ofRO y)
  | .un op x => ofUn op (ofRO x)
  | .mkfn f a b => kMkfn f (ofROs a) (ofROs b)
  | .fa o x => kFa o (ofRO x)
  | .fld o g x => kFld o g (ofRO x)
  | .iaSl s x i => kIaSl s (ofRO x) (ofRO i)
  | .ixArr m s g x i => kIxArr m s g (ofRO x) (ofRO i)
  | .ex x i => kEx (ofRO x) i
  | .call f l => kCall (ofRO f) (ofROs l)
  | .blenSl x => kLen (ofRO x)
  | .cvInt k x => kSlow (qCvInt k (ofRO x))
  | .cvStr x => kSlow (qCvStr (ofRO x))
  | .cvBytes x => kSlow (qCvBytes (ofRO x))
  | .cvOfBytes x => kSlow (qCvOfBytes (ofRO x))
  | .mkif ty x => kSlow (qMkif ty (ofRO x))
  | .mkmap => kSlow qMkmap
  | .mksl sz bt z l c => kSlow (qMksl sz bt z (ofRO l) (ofRO c))
  | .sl k x lo hi mx => kSlow (qSl k (ofRO x) (ofROo lo) (ofROo hi) (ofROo mx))
  | .iaArr m sz x i => kSlow (qIaArr m sz (ofRO x) (ofRO i))
  | .ixStr x i => kSlow (qIxStr (ofRO x) (ofRO i))
  | .lk q z ok m k => kSlow (qLk q z ok (ofRO m) (ofRO k))
  | .mu q m k v => kSlow (qMu q (ofRO m) (ofRO k) (ofRO v))
  | .me q z m k => kSlow (qMe q z (ofRO m) (ofRO k))
  | .es m s v => kSlow (qEs (ofRO m) (ofRO s) (ofRO v))
  | .ta ty ok z x => kSlow (qTa ty ok z (ofRO x))
  | .blenStr x => kSlow (qBlenStr (ofRO x))
  | .blenMap x => kSlow (qBlenMap (ofRO x))
  | .blenArr m => kSlow (qBlenArr m)
  | .bapp sz bt s x => kSlow (qBapp sz bt (ofRO s) (ofRO x))
  | .bappZ sz bt z s x => kSlow (qBappZ sz bt z (ofRO s) (ofRO x))
  | .bcap x => kSlow (qBcap (ofRO x))
  | .bminmax mx xs => kSlow (qBminmax mx (ofROs xs))
  | .bclear sz z x => kSlow (qBclear sz z (ofRO x))
  | .bcopy sz d s => kSlow (qBcopy sz (ofRO d) (ofRO s))
  | .bdel q m k => kSlow (qBdel q (ofRO m) (ofRO k))
noncomputable def ofClo (op : ROp) : CloF := match op with
  | .ld g a => qLd g (ofRO a)
  | .bin op q x y => qBin op q (ofRO x) (ofRO y)
  | .lk q z ok m k => qLk q z ok (ofRO m) (ofRO k)
  | .blenMap x => qBlenMap (ofRO x)
  | .cvOfBytes x => qCvOfBytes (ofRO x)
  | _ => qNo
noncomputable def ofDst (d : Option Nat) : Wr := match d with | some i => wr i | none => wNo
abbrev Hook := ROp → Option OpF
noncomputable def noH : Hook := fun _ => none
noncomputable def ofOpH (H : Hook) (op : ROp) : OpF := match H op with | some f => f | none => ofOp op
noncomputable def ofOper (H : Hook) (o : ROper) (rest : RegF) : RegF := match o with
  | ⟨some d, op, none⟩ => a (wr d) (ofOpH H op) rest
  | ⟨none, op, none⟩ => b (ofOpH H op) rest
  | ⟨d, op, some (s, want)⟩ => g (rd s) want (ofDst d) (ofOpH H op) rest
noncomputable def ofOps (H : Hook) (l : List ROper) : RegF := match l with | [] => z | o :: l => ofOper H o (ofOps H l)
/-- what an operand's number leaves, where that is known -/
noncomputable def kRemO (k : IntKind) (p j : Nat) (x : Rd) : OpF := fun _ e n t K => x e fun v => onInt v (fun l i => @Int.rec (fun _ => Bool) (fun m => ifB (kk l k) (ifB (Nat.beq (Nat.mod m p) j) (K n t (.int k (.ofNat j))) false) false) (fun _ => false) i) false
noncomputable def kCvO (k : IntKind) (x : Rd) : OpF := fun _ e n t K => x e fun v => onInt v (fun _ i => @Int.rec (fun _ => Bool) (fun m => ifB (Nat.ble m (kmax k)) (K n t (.int k (.ofNat m))) false) (fun _ => false) i) false
/-- 'c': the slots whose conversion is of such a number; 'r': the slots whose remainder is known -/
noncomputable def hookOf (c : List Nat) (r : List (Nat × Nat)) : Hook := fun op => match op with
  | .cvInt k (.t i) => match c.contains i with | true => some (kCvO k (rd i)) | false => none
  | .bin .rem none (.t i) (.c (.int k (.ofNat (p + 1)))) => match r.find? (fun q => Nat.beq q.1 i) with | some q => some (kRemO k (p + 1) q.2 (rd i)) | none => none
  | _ => none
noncomputable def dItem (w : Bool) (r : Bool) (till : Nat) (d : Option Nat) (op : ROp) : DregF → DregF :=
  match w, r with
  | true, _ => dW (ofDst d) (ofOp op)
  | false, true => dR till (ofDst d) (ofOp op) (ofClo op)
  | false, false => dO (ofDst d) (ofOp op)
noncomputable def dOff (w : Bool) (d : Option Nat) : DregF → DregF := match w with | true => dFW (ofDst d) | false => dF (ofDst d)
noncomputable def ofDoper (o : ROper) (till : Nat) (rest : DregF) : DregF := match o with
  | ⟨d, op, none⟩ => dItem op.writes op.reads till d op rest
  | ⟨d, op, some (s, want)⟩ => dG (rd s) want (dItem op.writes op.reads till d op) (dOff op.writes d) rest
noncomputable def ofDops (l : List (ROper × Nat)) (rest : DregF) : DregF := match l with | [] => rest | (o, till) :: l => ofDoper o till (ofDops l rest)
noncomputable def ofD2 (pre : List (ROper × Nat)) (p q : ROper) : C := match p, q with
  | ⟨none, .st n1 a1 x1, none⟩, ⟨none, .st n2 a2 x2, none⟩ => cDreg (ofDops pre (dE n1 (ofRO a1) (ofRO x1) n2 (ofRO a2) (ofRO x2)))
  | _, _ => cBad
noncomputable def ofC (H : Hook) (c : RCode) : C := match c with
  | .skip => cSkip
  | .reg ops => cReg (ofOps H ops)
  | .dreg ops => cDreg (ofDops ops dz)
  | .dreg2 pre p q => ofD2 pre p.1 q.1
  | .seq x y => cSeq (ofC H x) (ofC H y)
  | .cond c x y => cCond (ofRO c) (ofC H x) (ofC H y)
  | .block id x => cBlock id (ofC H x)
  | .loop x => cLoop (ofC H x)
  | .rangeF f ps as bd => cRange (ofRO f) ps as bd
  | .exit id => cExit id
  | .ret => cRet
  | .bad => cBad
noncomputable def ofRes (l : List (Nat × Option (Option Nat))) : ResF := match l with
  | [] => vn
  | (s, none) :: l => vt (rd s) (ofRes l)
  | (s, some g) :: l => vp (rd s) g (ofRes l)

/-! ## Calls -/
inductive KFP (A B S : Type) where
  | fn (body : A) (res : B)
  | clone
  | sum (s : S)
abbrev SumF := List AV → Nat → Hp → KV → Bool
abbrev KF : Type := KFP C ResF SumF
noncomputable def ofF (f : RFunc) : KF := KFP.fn (ofC noH f.body) (ofRes f.results)
noncomputable def argRow (l : List AV) : List (U16 AV) → A1 → (A1 → Bool) → Bool :=
  @List.rec AV (fun _ => List (U16 AV) → A1 → (A1 → Bool) → Bool) (fun _ row K => K row)
    (fun v _ ih us row K => @List.rec (U16 AV) (fun _ => Bool) false (fun u us' _ => row (u v fun row' => ih us' row' K)) us) l
noncomputable def argEnv (l : List AV) (K : KEnv → Bool) : Bool := argRow l us16 row0 fun row => env0 (u0 A1 row K)
noncomputable def oneK (l : List AV) (K : AV → Bool) : Bool := @List.rec AV (fun _ => Bool) (K (.tup [])) (fun a m _ => @List.rec AV (fun _ => Bool) (K a) (fun _ _ _ => K (.tup (a :: m))) m) l
noncomputable def leaveH (rs : ResF) (K : KV) (e : KEnv) (n : Nat) (t : Hp) : Bool := rs e t fun l => oneK l (K n t)
noncomputable def markK (m : List Nat) : Hp → (Hp → Bool) → Bool := @List.rec Nat (fun _ => Hp → (Hp → Bool) → Bool) (fun t K => K t)
  (fun b _ ih t K => hgetK b t fun o => optK o fun x => @AB.rec (fun _ => Bool) (fun _ _ => false) (fun _ _ => false) (fun _ _ _ _ _ _ _ => false) (fun d => ifB d (hputK b (.deferred false) t fun t' => ih t' K) false) (fun _ => false) (fun _ => false) (false) x) m
noncomputable def leaveK (rs : ResF) (K : KV) : Kn := fun e n t m => markK m t fun t' => leaveH rs K e n t'
noncomputable def leaveX (rs : ResF) (K : KV) : Ke := fun x => @Ex.rec (fun _ => Kn) (fun _ _ _ _ => false) (fun _ _ _ _ _ => false) (leaveK rs K) x
noncomputable def cloneK (args : List AV) (n : Nat) (t : Hp) (K : KV) : Bool := @List.rec AV (fun _ => Bool) false (fun v m _ => @List.rec AV (fun _ => Bool) (@AV.rec (fun _ => Bool) (fun _ => Bool) (fun _ => false) (fun _ _ => false) (fun _ => false) (false) (fun _ _ => false) (false) (fun _ _ _ _ => false) (fun _ _ _ _ => false) (false) (fun _ => false) (false) (fun _ _ _ _ _ => false) (fun _ => false) (false) (fun ty x _ => @AV.rec (fun _ => TypeId → Bool) (fun _ => Bool) (fun _ => fun _ => false) (fun _ _ => fun _ => false) (fun _ => fun _ => false) (fun _ => false) (fun _ _ => fun _ => false) (fun _ => false) (fun _ _ _ _ => fun _ => false) (fun _ _ _ _ => fun _ => false) (fun _ => false) (fun b ty => hgetK b t fun o => optK o fun x => @AB.rec (fun _ => Bool) (fun _ _ => false) (fun es clock => pushK (.map es clock) n t fun n' t' => K n' t' (.iface ty (.map n))) (fun _ _ _ _ _ _ _ => false) (fun _ => false) (fun _ => false) (fun _ => false) (false) x) (fun _ => false) (fun _ _ _ _ _ => fun _ => false) (fun _ => fun _ => false) (fun _ => false) (fun _ _ _ => fun _ => false) (fun _ _ => fun _ => false) (fun _ _ => fun _ => false) false (fun _ _ _ _ => false) x ty) (fun _ _ => false) (fun _ _ => false) false (fun _ _ _ _ => false) v) (fun _ _ _ => false) m) args
noncomputable def roundEnd (L : Nat) (r : LoopState) (j : Option Jump) (v : AV) (K : KV) : Kn := fun _ n t _ =>
  loopB t L fun _ _ tm ps as bd d => hputK L (.loop r j tm ps as bd d) t fun t' => K n t' v
noncomputable def roundX (L : Nat) (K : KV) : Ke := fun x => @Ex.rec (fun _ => Kn) (fun _ _ _ _ => false) (fun id => roundEnd L .done (some (.exit id)) (.bool false) K) (roundEnd L .done (some .ret) (.bool false) K) x
noncomputable def roundGo (F : Nat) (ih : CallK) (L : Nat) (body : RCode) (K : KV) : Kn := fun e n t m =>
  loopB t L fun st pd tm ps as bd d => stReady st (hputK L (.loop .busy pd tm ps as bd d) t fun t' => ofC noH body F ih (some L) e n t' m (roundEnd L .ready none (.bool true) K) (roundX L K)) false
noncomputable def yieldK (F : Nat) (ih : CallK) (L : Nat) (args : List AV) (n : Nat) (t : Hp) (K : KV) : Bool :=
  loopB t L fun _ _ tm ps as bd _ => setK ps args (envOf tm) fun e => ofC noH as F ih (some L) e n t [] (roundGo F ih L bd K) (fun _ _ _ _ _ => false)
noncomputable def fnK (c : KF) : Nat → CallK → List AV → Nat → Hp → KV → Bool := @KFP.rec C ResF SumF (fun _ => Nat → CallK → List AV → Nat → Hp → KV → Bool)
  (fun body rs F ih args n t K => argEnv args fun e => body F ih none e n t [] (leaveK rs K) (leaveX rs K)) (fun _ _ => cloneK) (fun s _ _ => s) c
noncomputable def callV (v : AV) : (Nat → Option KF) → Nat → CallK → List AV → Nat → Hp → KV → Bool := @AV.rec (fun _ => (Nat → Option KF) → Nat → CallK → List AV → Nat → Hp → KV → Bool) (fun _ => Bool) (fun _ => fun _ _ _ _ _ _ _ => false) (fun _ _ => fun _ _ _ _ _ _ _ => false) (fun _ => fun _ _ _ _ _ _ _ => false) (fun _ _ _ _ _ _ _ => false) (fun _ _ => fun _ _ _ _ _ _ _ => false) (fun _ _ _ _ _ _ _ => false) (fun _ _ _ _ => fun _ _ _ _ _ _ _ => false) (fun _ _ _ _ => fun _ _ _ _ _ _ _ => false) (fun _ _ _ _ _ _ _ => false) (fun _ => fun _ _ _ _ _ _ _ => false) (fun _ _ _ _ _ _ _ => false) (fun f a b _ _ T F ih args n t K => optK (T f) fun c => appK args b fun l => appK a l fun l => fnK c F ih l n t K) (fun L _ F ih args n t K => yieldK F ih L args n t K) (fun _ _ _ _ _ _ _ => false) (fun _ _ _ => fun _ _ _ _ _ _ _ => false) (fun _ _ => fun _ _ _ _ _ _ _ => false) (fun _ _ => fun _ _ _ _ _ _ _ => false) false (fun _ _ _ _ => false) v
noncomputable def callS (T : Nat → Option KF) (F : Nat) (ih : CallK) : CallK := fun f args n t K => callV f T F ih args n t K
noncomputable def evC (T : Nat → Option KF) (F : Nat) (d : Nat) : CallK := @Nat.rec (fun _ => CallK) (fun _ _ _ _ _ => false) (fun _ ih => callS T F ih) d
/-! ## Summaries -/
/-- a call without arguments that comes to 'true' wherever it is made -/
noncomputable def sumTrue : SumF := fun args n t K => @List.rec AV (fun _ => Bool) (K n t (.bool true)) (fun _ _ _ => false) args
noncomputable def boolEq (a b : Bool) (Y : Bool) : Bool := ifB a (ifB b Y false) (ifB b false Y)
abbrev EN := AV × AV × Nat
noncomputable def entEq (l : List EN) : List EN → Bool → Bool := @List.rec EN (fun _ => List EN → Bool → Bool) (fun m Y => @List.rec EN (fun _ => Bool) Y (fun _ _ _ => false) m)
  (fun p _ ih m Y => @List.rec EN (fun _ => Bool) false (fun q m' _ => aveqF p.1 q.1 (aveqF p.2.1 q.2.1 (ifB (Nat.beq p.2.2 q.2.2) (ih m' Y) false))) m) l
noncomputable def abEq (x : AB) : AB → Bool → Bool := @AB.rec (fun _ => AB → Bool → Bool) (fun cs g y Y => abCells y fun cs' g' => aveqsF cs cs' (boolEq g g' Y)) (fun es c y Y => abMap y fun es' c' => ifB (Nat.beq c c') (entEq es es' Y) false) (fun _ _ _ _ _ _ _ => fun _ _ => false) (fun _ => fun _ _ => false) (fun _ => fun _ _ => false) (fun _ => fun _ _ => false) (fun _ _ => false) x
abbrev Lit := List (Nat × AB)
/-- are the listed blocks there? -/
noncomputable def chkLit (l : Lit) (t : Hp) (Y : Bool) : Bool := @List.rec (Nat × AB) (fun _ => Bool) Y (fun p _ ih => hgetK p.1 t fun o => optK o fun x => abEq x p.2 ih) l
noncomputable def layLit (l : Lit) : Hp → (Hp → Bool) → Bool := @List.rec (Nat × AB) (fun _ => Hp → (Hp → Bool) → Bool) (fun t K => K t) (fun p _ ih t K => hputK p.1 p.2 t fun t' => ih t' K) l
/-- the end of a run whose result and heap are told -/
noncomputable def endLit (l : Lit) (m : Nat) (u : AV) : KV := fun n t v => ifB (Nat.beq n m) (aveqF v u (chkLit l t true)) false
/-- a call without arguments, in an empty heap, whose result and heap are told -/
noncomputable def sumLit (l : Lit) (m : Nat) (u : AV) : SumF := fun args n _ K => @List.rec AV (fun _ => Bool) (ifB (Nat.beq n 0) (layLit l hp0 fun t' => K m t' u) false) (fun _ _ _ => false) args
noncomputable def tget (t : Tr KF) : Nat → Option KF := Tr.get t
end Go.Ev.K
