/- The evaluator's operations, on. -/
import Derived.Test.YtjhcdcnnopgipaaGreatDoorEa
namespace Go.Ev
open Go
section
variable {P : Program} {ι : Inj} {h h' : Heap} {w : World} {tm : Env} {a : Act} {v : AV}

theorem aeq_bin {e : EqD} {x y : AV} {x' y' : Value} {b : Bool} (hb : aeq h e x y = some b) (hx : VR ι x x') (hy : VR ι y y') (hni : e ≠ .int) (hns : e ≠ .str) :
    (∀ t, binOp .eql t x' y' = (do pure (.bool (← Op.equal t x' y')) : Sem Value)) ∧ (∀ t, binOp .neq t x' y' = (do pure (.bool (!(← Op.equal t x' y'))) : Sem Value)) ∧
      ((∃ cx cy fs, x' = .agg cx ∧ y' = .agg cy ∧ e = .struct fs) ∨ ∀ op t o1 o2, eqGuard op t o1 o2 x' y' = pure ()) := by
  unfold aeq at hb
  split at hb
  · exact absurd rfl hni
  · exact absurd rfl hns
  · rw [hx.bool, hy.bool]; exact ⟨fun _ => rfl, fun _ => rfl, .inr fun op t o1 o2 => eqGuard_at_bool ..⟩
  · simp only [VR] at hx hy; subst hx; subst hy; exact ⟨fun _ => rfl, fun _ => rfl, .inr fun op t o1 o2 => eqGuard_at_pointer ..⟩
  · simp only [VR] at hx hy; subst hx; obtain ⟨_, _, rfl⟩ := hy; exact ⟨fun _ => rfl, fun _ => rfl, .inr fun op t o1 o2 => eqGuard_at_pointer ..⟩
  · simp only [VR] at hx hy; subst hy; obtain ⟨_, _, rfl⟩ := hx; exact ⟨fun _ => rfl, fun _ => rfl, .inr fun op t o1 o2 => eqGuard_at_pointer ..⟩
  · simp only [VR] at hx hy; obtain ⟨_, _, rfl⟩ := hx; obtain ⟨_, _, rfl⟩ := hy; exact ⟨fun _ => rfl, fun _ => rfl, .inr fun op t o1 o2 => eqGuard_at_pointer ..⟩
  · simp only [VR] at hx hy; subst hx; obtain ⟨_, rfl, _⟩ := hy; exact ⟨fun _ => rfl, fun _ => rfl, .inr fun op t o1 o2 => eqGuard_nil_iface ..⟩
  · simp only [VR] at hx hy; subst hy; obtain ⟨_, rfl, _⟩ := hx; exact ⟨fun _ => rfl, fun _ => rfl, .inr fun op t o1 o2 => eqGuard_at_iface ..⟩
  · simp only [VR] at hx hy; subst hx; subst hy; exact ⟨fun _ => rfl, fun _ => rfl, .inr fun op t o1 o2 => eqGuard_at_slice ..⟩
  · simp only [VR] at hx hy; subst hx; obtain ⟨_, _, _, rfl, _⟩ := hy; exact ⟨fun _ => rfl, fun _ => rfl, .inr fun op t o1 o2 => eqGuard_at_slice ..⟩
  · simp only [VR] at hx hy; subst hy; obtain ⟨_, _, _, rfl, _⟩ := hx; exact ⟨fun _ => rfl, fun _ => rfl, .inr fun op t o1 o2 => eqGuard_at_slice ..⟩
  · simp only [VR] at hx hy; subst hx; obtain ⟨_, _, _, _, rfl, _⟩ := hy; exact ⟨fun _ => rfl, fun _ => rfl, .inr fun op t o1 o2 => eqGuard_at_slice ..⟩
  · simp only [VR] at hx hy; subst hy; obtain ⟨_, _, _, _, rfl, _⟩ := hx; exact ⟨fun _ => rfl, fun _ => rfl, .inr fun op t o1 o2 => eqGuard_at_slice ..⟩
  · simp only [VR] at hx hy; subst hx; subst hy; exact ⟨fun _ => rfl, fun _ => rfl, .inr fun op t o1 o2 => eqGuard_at_map ..⟩
  · simp only [VR] at hx hy; subst hx; obtain ⟨_, _, rfl⟩ := hy; exact ⟨fun _ => rfl, fun _ => rfl, .inr fun op t o1 o2 => eqGuard_at_map ..⟩
  · simp only [VR] at hx hy; subst hy; obtain ⟨_, _, rfl⟩ := hx; exact ⟨fun _ => rfl, fun _ => rfl, .inr fun op t o1 o2 => eqGuard_at_map ..⟩
  · simp only [VR] at hx hy; subst hx; subst hy; exact ⟨fun _ => rfl, fun _ => rfl, .inr fun op t o1 o2 => eqGuard_at_nilFunc ..⟩
  · simp only [VR] at hx hy; subst hx; obtain ⟨_, _, rfl, _⟩ := hy; exact ⟨fun _ => rfl, fun _ => rfl, .inr fun op t o1 o2 => eqGuard_at_nilFunc ..⟩
  · simp only [VR] at hx hy; subst hy; obtain ⟨_, _, rfl, _⟩ := hx; exact ⟨fun _ => rfl, fun _ => rfl, .inr fun op t o1 o2 => eqGuard_at_func ..⟩
  · obtain ⟨cx, rfl, _⟩ := hx.agg; obtain ⟨cy, rfl, _⟩ := hy.agg
    exact ⟨fun _ => rfl, fun _ => rfl, .inl ⟨_, _, _, rfl, rfl, rfl⟩⟩
  · cases hb

/-- '==' -/
theorem eq_run (r : Rel P ι h w) {t : TypeId} {e : EqD} (he : eqd P t = some e) {x y : AV} {x' y' : Value} {b : Bool} (hx : VR ι x x') (hy : VR ι y y') (hb : aeq h e x y = some b) :
    (Op.equal t x' y').run P w = .ok b w := by
  unfold eqd at he
  have : eqdF P 8 t = some e := by
    split at he
    · cases he
    · cases he
    · exact he
  exact eqd_sound r 8 t e this 10000 (by omega) hx hy hb

theorem eqd_struct_guard {t : TypeId} {fs : List (Nat × Option Nat × EqD)} (he : eqd P t = some (.struct fs)) : P.eqGuardType P.depth t = false := by
  cases hgt : P.eqGuardType P.depth t with
  | false => rfl
  | true =>
    exfalso
    unfold eqd at he
    rw [hgt] at he
    cases hu : P.underlying t with
    | none => rw [hu] at he; simp [eqdF, hu] at he
    | some d =>
      rw [hu] at he
      cases d <;> simp [eqdF, hu] at he
      split at he <;> simp at he

theorem bytesLess_eq : ∀ (a b : List UInt8), Op.bytesLess a b = strLess (a.map UInt8.toNat) (b.map UInt8.toNat)
  | [], [] => rfl
  | _ :: _, [] => rfl
  | [], _ :: _ => rfl
  | x :: a, y :: b => by
    simp only [Op.bytesLess, List.map_cons, strLess, bytesLess_eq a b]
    have h1 : (decide (x < y)) = Nat.blt x.toNat y.toNat := by
      rw [Bool.eq_iff_iff]; simp [UInt8.lt_iff_toNat_lt, Nat.blt_eq]
    have h2 : (x == y) = Nat.beq x.toNat y.toNat := by
      rw [Bool.eq_iff_iff, Nat.beq_eq]; simp [UInt8.toNat_inj]
    rw [h1, h2]
    cases Nat.blt x.toNat y.toNat <;> cases Nat.beq x.toNat y.toNat <;> simp

theorem run_stringOp (w : World) (op : BinOp) {s t : ByteArray} {x : AV} (hb : binStr op (s.data.toList.map UInt8.toNat) (t.data.toList.map UInt8.toNat) = some x) :
    ∃ v, (Op.stringOp op s t).run P w = .ok v w ∧ ∀ ι : Inj, VR ι x v := by
  have e1 : (s.toList == t.toList) = decide (s.data.toList.map UInt8.toNat = t.data.toList.map UInt8.toNat) := by
    rw [ByteArray.toList_eq, ByteArray.toList_eq]; exact toNat_map_beq _ _
  have e2 : Op.bytesLess s.toList t.toList = strLess (s.data.toList.map UInt8.toNat) (t.data.toList.map UInt8.toNat) := by
    rw [ByteArray.toList_eq, ByteArray.toList_eq]; exact bytesLess_eq _ _
  cases op <;> simp only [binStr] at hb <;> first
    | contradiction
    | (cases hb; refine ⟨_, by simp only [Op.stringOp, e1, e2]; rfl, fun ι => by simp only [VR]⟩; done)
    | skip
  split at hb
  · rename_i hle
    cases hb
    refine ⟨.string (s ++ t), ?_, fun ι => ?_⟩
    · simp only [Op.stringOp]
      rw [if_neg]
      · rfl
      · rw [Nat.ble_eq] at hle
        simp at hle
        have : IntKind.i64.max = 9223372036854775807 := IntKind.max_i64
        rw [this]
        have h1 : s.size = s.data.size := rfl
        have h2 : t.size = t.data.size := rfl
        omega
    · simp only [VR]
      exact ⟨_, rfl, by simp⟩
  · cases hb

theorem binA_run (r : Rel P ι h w) (op : BinOp) (t : TypeId) (x y : Operand) {X Y : AV} {x' y' : Value} (ex : VR ι X x') (ey : VR ι Y y') {z : AV} (hz : binA h op (eqOf P op t) X Y = some z) :
    ∃ v', ((do eqGuard op t x y x' y'; binOp op t x' y') : Sem Value).run P w = .ok v' w ∧ VR ι z v' := by
  unfold binA at hz
  split at hz
  · -- ints
    rename_i k m l n
    rw [ex.int, ey.int]
    simp only [eqGuard_at_int, pure_bind]
    split at hz
    · unfold shiftI at hz
      split at hz
      · cases hz
      · rename_i hneg
        have : ¬ n < 0 := by simpa using hneg
        cases hz
        exact ⟨_, by rw [binOp_shl]; simp only [Op.shift]; rw [if_neg this]; rfl, by simp only [VR]⟩
    · unfold shiftI at hz
      split at hz
      · cases hz
      · rename_i hneg
        have : ¬ n < 0 := by simpa using hneg
        cases hz
        exact ⟨_, by rw [binOp_shr]; simp only [Op.shift]; rw [if_neg this]; rfl, by simp only [VR]⟩
    · rename_i hs1 hs2
      split at hz
      · rename_i hk
        have := of_decide_eq_true hk
        subst this
        cases op <;> simp only [binInt] at hz
        case add => cases hz; exact ⟨_, by rw [binOp_add]; rfl, by simp only [VR]⟩
        case sub => cases hz; exact ⟨_, by rw [binOp_sub]; rfl, by simp only [VR]⟩
        case mul => cases hz; exact ⟨_, by rw [binOp_mul]; rfl, by simp only [VR]⟩
        case quo =>
          split at hz
          · cases hz
          · rename_i h0
            have : ¬ n = 0 := by simpa using h0
            cases hz; exact ⟨_, by rw [binOp_quo]; simp only [Op.intDiv]; rw [if_neg this]; rfl, by simp only [VR]⟩
        case rem =>
          split at hz
          · cases hz
          · rename_i h0
            have : ¬ n = 0 := by simpa using h0
            cases hz; exact ⟨_, by rw [binOp_rem]; simp only [Op.intDiv]; rw [if_neg this]; rfl, by simp only [VR]⟩
        case and => cases hz; exact ⟨_, by rw [binOp_and]; rfl, by simp only [VR]⟩
        case or => cases hz; exact ⟨_, by rw [binOp_or]; rfl, by simp only [VR]⟩
        case xor => cases hz; exact ⟨_, by rw [binOp_xor]; rfl, by simp only [VR]⟩
        case andNot => cases hz; exact ⟨_, by rw [binOp_andNot]; rfl, by simp only [VR]⟩
        case eql => cases hz; exact ⟨_, by rw [binOp_eql]; rfl, by simp only [VR]; congr 1⟩
        case neq => cases hz; exact ⟨_, by rw [binOp_neq]; rfl, by simp only [VR]; congr 1⟩
        case lss => cases hz; exact ⟨_, by rw [binOp_lss]; rfl, by simp only [VR]⟩
        case leq => cases hz; exact ⟨_, by rw [binOp_leq]; rfl, by simp only [VR]⟩
        case gtr => cases hz; exact ⟨_, by rw [binOp_gtr]; rfl, by simp only [VR]⟩
        case geq => cases hz; exact ⟨_, by rw [binOp_geq]; rfl, by simp only [VR]⟩
        case shl => exact absurd rfl hs1
        case shr => exact absurd rfl hs2
      · cases hz
  · -- strings
    obtain ⟨s, hs, hsl⟩ := ex.str
    obtain ⟨s', hs', hsl'⟩ := ey.str
    rw [hs, hs']
    simp only [eqGuard_at_string, pure_bind]
    subst hsl; subst hsl'
    obtain ⟨v', h1, h2⟩ := run_stringOp (P := P) w op hz
    refine ⟨v', ?_, h2 ι⟩
    have : binOp op t (.string s) (.string s') = Op.stringOp op s s' := by cases op <;> rfl
    rw [this]; exact h1
  · -- equality
    rename_i hni hns
    split at hz
    · rename_i e he
      have heqd : eqd P t = some e := by
        unfold eqOf at he
        split at he <;> first | exact he | cases he
      split at hz
      · rename_i b hb
        cases hz
        have hint : e ≠ .int := by
          rintro rfl
          unfold aeq at hb
          split at hb <;> first | contradiction | skip
          all_goals (first | exact hni _ _ _ _ rfl rfl | cases hb)
        have hstr : e ≠ .str := by
          rintro rfl
          unfold aeq at hb
          split at hb <;> first | contradiction | skip
          all_goals (first | exact hns _ _ rfl rfl | cases hb)
        obtain ⟨h1, h2, h3⟩ := aeq_bin hb ex ey hint hstr
        have hrun := eq_run r heqd ex ey hb
        refine ⟨.bool b, ?_, by simp only [VR]⟩
        rcases h3 with ⟨cx, cy, fs, hcx, hcy, hfs⟩ | h3
        · have hg : P.eqGuardType P.depth t = false := eqd_struct_guard (by rw [← hfs]; exact heqd)
          rw [hcx, hcy] at h1 hrun ⊢
          simp only [Sem.run_bind, run_eqGuard_agg w _ t x y cx cy hg, Result.andThen_ok, h1, hrun, Sem.run_pure]
        · rw [h3, pure_bind, h1]
          simp only [Sem.run_bind, hrun, Result.andThen_ok, Sem.run_pure]
      · rename_i b hb
        cases hz
        have hint : e ≠ .int := by
          rintro rfl
          unfold aeq at hb
          split at hb <;> first | contradiction | skip
          all_goals (first | exact hni _ _ _ _ rfl rfl | cases hb)
        have hstr : e ≠ .str := by
          rintro rfl
          unfold aeq at hb
          split at hb <;> first | contradiction | skip
          all_goals (first | exact hns _ _ rfl rfl | cases hb)
        obtain ⟨h1, h2, h3⟩ := aeq_bin hb ex ey hint hstr
        have hrun := eq_run r heqd ex ey hb
        refine ⟨.bool (!b), ?_, by simp only [VR]⟩
        rcases h3 with ⟨cx, cy, fs, hcx, hcy, hfs⟩ | h3
        · have hg : P.eqGuardType P.depth t = false := eqd_struct_guard (by rw [← hfs]; exact heqd)
          rw [hcx, hcy] at h2 hrun ⊢
          simp only [Sem.run_bind, run_eqGuard_agg w _ t x y cx cy hg, Result.andThen_ok, h2, hrun, Sem.run_pure]
        · rw [h3, pure_bind, h2]
          simp only [Sem.run_bind, hrun, Result.andThen_ok, Sem.run_pure]
      · cases hz
    · cases hz

theorem sound_binOp (op : BinOp) (t : TypeId) (x y : Operand) (u : TypeId) : Sound P (.binOp op t x y u) := by
  intro ι h h' w tm a v rop o r ht ho hres hv
  simp only [resOp] at hres
  split at hres
  · rename_i qx qy hqx hqy
    cases hres
    simp only [aop] at hv
    have ex := rso_VR ht hqx
    have ey := rso_VR ht hqy
    split at hv
    · rename_i z hz
      cases hv
      obtain ⟨v', h1, h2⟩ := binA_run r op t x y ex ey hz
      refine .of (v' := v') (w' := w) ?_ (.here r h2)
      simp only [execOp, ho]
      rw [Sem.run_bind, h1]
      rfl
    · cases hv
  · cases hres
end
end Go.Ev

namespace Go.Ev
open Go
section
variable {P : Program} {ι : Inj} {h h' : Heap} {w : World} {tm : Env} {a : Act} {v : AV}

theorem sound_unOp (op : UnOp) (t : TypeId) (x : Operand) : Sound P (.unOp op t x) := by
  intro ι h h' w tm a v rop o r ht ho hres hv
  simp only [resOp] at hres
  split at hres
  · rename_i q hq
    cases hres
    simp only [aop] at hv
    have ex := rso_VR ht hq
    split at hv
    · rename_i z hz
      cases hv
      generalize ro tm q = X at ex hz
      unfold unA at hz
      split at hz
      · cases hz
        refine .of (v' := .bool _) (w' := w) ?_ (.here r (by simp only [VR]; rfl))
        simp [execOp, ho, ex.bool, Op.unary]
      · cases hz
        refine .of (v' := .int _ _) (w' := w) ?_ (.here r (by simp only [VR]; rfl))
        simp [execOp, ho, ex.int, Op.unary, Op.intArith]
      · cases hz
    · cases hv
  · cases hres

/-! ### Slices -/
theorem bound_spec {x : Option AV} {d y n : Nat} (hb : bound x d y = some n) : (x = none ∧ n = d) ∨ (∃ k, x = some (.int k (n : Int)) ∧ n ≤ y) := by
  unfold bound at hb
  split at hb
  · cases hb; exact .inl ⟨rfl, rfl⟩
  · rename_i v
    split at hb
    · rename_i m hm
      obtain ⟨k, hk⟩ := asNat_spec hm
      split at hb
      · rename_i hle
        cases hb
        rw [Nat.ble_eq] at hle
        exact .inr ⟨k, by rw [hk], hle⟩
      · cases hb
    · cases hb

theorem bound_up {x : Option AV} {d y y' n : Nat} (hb : bound x d y = some n) (hn : n ≤ y') : bound x d y' = some n := by
  rcases bound_spec hb with ⟨rfl, rfl⟩ | ⟨k, rfl, _⟩
  · rfl
  · simp only [bound, asNat, natOf]
    have : Nat.ble n y' = true := by rw [Nat.ble_eq]; exact hn
    rw [this]
theorem bound_some {x : AV} {d d' y n : Nat} (hb : bound (some x) d y = some n) : bound (some x) d' y = some n := hb

/-- An optional operand. -/
def OR (ι : Inj) : Option AV → Option Value → Prop
  | none, v => v = none
  | some a, v => ∃ b, v = some b ∧ VR ι a b

theorem OR.none {v : Option Value} (hv : OR ι none v) : v = .none := hv
theorem OR.int {k : IntKind} {n : Int} {v : Option Value} (hv : OR ι (some (.int k n)) v) : v = some (.int k n) := by
  obtain ⟨b, rfl, hb⟩ := hv; rw [hb.int]

theorem optM_OR (ht : TmR ι tm a.tmps) {x : Option Operand} {q : Option RO} (hq : optM rso x = some q) : OR ι (q.map (ro tm)) (x.map a.eval) := by
  unfold optM at hq
  split at hq
  · cases hq; rfl
  · rename_i y
    split at hq
    · rename_i r hr
      cases hq
      exact ⟨_, rfl, rso_VR ht hr⟩
    · cases hq

/-- the bounds of a slice expression -/
theorem bounds_run {isSlice : Bool} {len cap : Nat} {lo hi mx : Option AV} {lo' hi' mx' : Option Value} (hlo : OR ι lo lo') (hhi : OR ι hi hi') (hmx : OR ι mx mx') {l hh m : Nat}
    (h1 : bound mx cap cap = some m) (h2 : boundH hi mx len m = some hh) (h3 : bound lo 0 hh = some l) (w : World) :
    (Instr.sliceBounds isSlice len cap lo' hi' mx').run P w = .ok (l, hh, m) w := by
  have sb : ∀ (k : IntKind) (n y : Nat) (code : BoundsCode), n ≤ y → (Instr.sliceBound (.int k (n : Int)) y code).run P w = .ok n w := fun k n y code hle => by
    have := run_sliceBound (P := P) (w := w) k (n : Int) y code (by omega) (by omega)
    simpa using this
  have fl : (lo' = none ∧ l = 0) ∨ (∃ k, lo' = some (.int k (l : Int)) ∧ l ≤ hh) := by
    rcases bound_spec h3 with ⟨rfl, rfl⟩ | ⟨k, rfl, hle⟩
    · exact .inl ⟨hlo.none, rfl⟩
    · exact .inr ⟨k, hlo.int, hle⟩
  have fm : (mx' = none ∧ m = cap) ∨ (∃ k, mx' = some (.int k (m : Int)) ∧ m ≤ cap) := by
    rcases bound_spec h1 with ⟨rfl, rfl⟩ | ⟨k, rfl, hle⟩
    · exact .inl ⟨hmx.none, rfl⟩
    · exact .inr ⟨k, hmx.int, hle⟩
  have fh : (hi' = none ∧ mx' = none ∧ hh = len) ∨ (∃ k, hi' = some (.int k (hh : Int)) ∧ hh ≤ m) := by
    cases hi with
    | none =>
      cases mx with
      | some _ => simp [boundH] at h2
      | none =>
        rcases bound_spec (show bound none len m = some hh from by simpa [boundH] using h2) with ⟨_, rfl⟩ | ⟨_, he, _⟩
        · exact .inl ⟨hhi.none, hmx.none, rfl⟩
        · cases he
    | some x =>
      have h2' : bound (some x) len m = some hh := by cases mx <;> simpa [boundH] using h2
      rcases bound_spec h2' with ⟨he, _⟩ | ⟨k, he, hle⟩
      · cases he
      · cases he; exact .inr ⟨k, hhi.int, hle⟩
  unfold Instr.sliceBounds
  rcases fm with ⟨rfl, rfl⟩ | ⟨km, rfl, hm⟩
  · rcases fh with ⟨rfl, _, rfl⟩ | ⟨kh, rfl, hh'⟩
    · rcases fl with ⟨rfl, rfl⟩ | ⟨kl, rfl, hl⟩
      · simp
      · simp [sb _ _ _ _ hl]
    · rcases fl with ⟨rfl, rfl⟩ | ⟨kl, rfl, hl⟩
      · simp [sb _ _ _ _ hh']
      · simp [sb _ _ _ _ hh', sb _ _ _ _ hl]
  · rcases fh with ⟨rfl, he, rfl⟩ | ⟨kh, rfl, hh'⟩
    · cases he
    · rcases fl with ⟨rfl, rfl⟩ | ⟨kl, rfl, hl⟩
      · simp [sb _ _ _ _ hm, sb _ _ _ _ hh']
      · simp [sb _ _ _ _ hm, sb _ _ _ _ hh', sb _ _ _ _ hl]

theorem bounds_le {len cap : Nat} {lo hi mx : Option AV} {l hh m : Nat} (hlc : len ≤ cap)
    (h1 : bound mx cap cap = some m) (h2 : boundH hi mx len m = some hh) (h3 : bound lo 0 hh = some l) : l ≤ hh ∧ hh ≤ m ∧ m ≤ cap := by
  have a1 : m ≤ cap := by rcases bound_spec h1 with ⟨_, rfl⟩ | ⟨_, _, hle⟩ <;> omega
  have a3 : l ≤ hh := by rcases bound_spec h3 with ⟨_, rfl⟩ | ⟨_, _, hle⟩ <;> omega
  refine ⟨a3, ?_, a1⟩
  cases mx with
  | none =>
    have h2' : bound hi len m = some hh := by cases hi <;> simpa [boundH] using h2
    rcases bound_spec h2' with ⟨_, rfl⟩ | ⟨_, _, hle⟩
    · rcases bound_spec h1 with ⟨_, rfl⟩ | ⟨_, he, _⟩
      · omega
      · cases he
    · exact hle
  | some mv =>
    cases hi with
    | none => simp [boundH] at h2
    | some hv =>
      have h2' : bound (some hv) len m = some hh := by simpa [boundH] using h2
      rcases bound_spec h2' with ⟨he, _⟩ | ⟨_, _, hle⟩
      · cases he
      · exact hle

theorem boundH_le {hi mx : Option AV} {len m hh : Nat} (h2 : boundH hi mx len m = some hh) (hl : len ≤ m) : hh ≤ m := by
  unfold boundH at h2
  split at h2
  · cases h2
  · rcases bound_spec h2 with ⟨_, rfl⟩ | ⟨_, _, h5⟩ <;> omega

theorem extract_bytes (s : ByteArray) (l k : Nat) : ((s.extract l k).data.toList.map UInt8.toNat) = ((s.data.toList.map UInt8.toNat).drop l).take (k - l) := by
  simp [ByteArray.data_extract, List.extract_eq_take_drop, List.map_take, List.map_drop]

theorem sliceEx_run {sz b o len cap : Nat} {v : Value} (hv : VR ι (.slice b o len cap) v) {lo hi mx : Option AV} {lo' hi' mx' : Option Value} (hlo : OR ι lo lo') (hhi : OR ι hi hi') (hmx : OR ι mx mx') {z : AV} (hz : sliceEx sz b o len cap lo hi mx = some z) :
    ∃ p o' l hh m, v = .slice (some ⟨p, o', none⟩) len cap ∧ (∀ isSlice w, (Instr.sliceBounds isSlice len cap lo' hi' mx').run P w = .ok (l, hh, m) w) ∧ VR ι z (.slice (some (if m = l then ⟨p, o', none⟩ else ⟨p, o' + l * sz, none⟩)) (hh - l) (m - l)) := by
  simp only [VR] at hv
  obtain ⟨p, o', hp, rfl, hlc, hoo⟩ := hv
  unfold sliceEx at hz
  split at hz
  · rename_i m h1
    split at hz
    · rename_i hh h2
      split at hz
      · rename_i l h3
        cases hz
        obtain ⟨b1, b2, b3⟩ := bounds_le hlc h1 h2 h3
        refine ⟨p.blk, o', l, hh, m, rfl, fun isSlice w => bounds_run hlo hhi hmx h1 h2 h3 w, ?_⟩
        simp only [VR]
        by_cases e : m = l
        · exact ⟨p, o', hp, by rw [if_pos e], by omega, .inr (by omega)⟩
        · refine ⟨p, o' + l * sz, hp, by rw [if_neg e], by omega, ?_⟩
          rcases hoo with h4 | h4
          · left; rw [h4]
          · omega
      · cases hz
    · cases hz
  · cases hz

theorem sound_slice (t : TypeId) (x : Operand) (lo hi mx : Option Operand) : Sound P (.slice t x lo hi mx) := by
  intro ι h h' w tm a v rop o r ht ho hres hv
  simp only [resOp] at hres
  have fin : ∀ {k : SK} {q : RO} {ql qh qm : Option RO}, rso x = some q → optM rso lo = some ql → optM rso hi = some qh → optM rso mx = some qm → rop = .sl k q ql qh qm →
      (∀ z, sliceA k (ro tm q) (ql.map (ro tm)) (qh.map (ro tm)) (qm.map (ro tm)) = some z → VR ι (ro tm q) (a.eval x) → OR ι (ql.map (ro tm)) (lo.map a.eval) → OR ι (qh.map (ro tm)) (hi.map a.eval) → OR ι (qm.map (ro tm)) (mx.map a.eval) →
        ∃ v', (Instr.sliceAt t (a.eval x) (lo.map a.eval) (hi.map a.eval) (mx.map a.eval)).run P w = .ok v' w ∧ VR ι z v') → OpRuns P ι h w v h' ((execOp a.eval o).run P w) := by
    intro k q ql qh qm hq hl hh hm hop hgo
    subst hop
    simp only [aop] at hv
    split at hv
    · rename_i z hz
      cases hv
      obtain ⟨v', h1, h2⟩ := hgo _ hz (rso_VR ht hq) (optM_OR ht hl) (optM_OR ht hh) (optM_OR ht hm)
      refine .of (v' := v') (w' := w) ?_ (.here r h2)
      simp only [execOp, ho, Sem.run_bind, h1, Result.andThen_ok, Sem.run_pure]
    · cases hv
  split at hres
  · rename_i q ql qh qm hu hq hl hh hm
    cases hres
    refine fin hq hl hh hm rfl ?_
    intro z hz ex el eh em
    generalize ro tm q = X at ex hz
    unfold sliceA at hz
    split at hz <;> first | contradiction | skip
    · rename_i s _
      obtain ⟨bs, hbe, hbl⟩ := ex.str
      rw [hbe]
      split at hz
      · rename_i hmn
        rw [hmn] at em
        rw [em.none]
        unfold sliceStr at hz
        split at hz
        · rename_i hh' h2
          split at hz
          · rename_i l' h3
            split at hz
            · rename_i rs hs
              cases hz
              have hsz : bs.size = s.length := by rw [← hbl]; simp
              have hb := bounds_run (P := P) (isSlice := false) (len := s.length) (cap := s.length) (m := s.length) (mx := none) (mx' := none) el eh rfl (by simp [bound]) (by cases hx9 : Option.map (ro tm) qh <;> simpa [boundH, hx9] using h2) h3 w
              refine ⟨.string (bs.extract l' hh'), ?_, ?_⟩
              · simp only [Instr.sliceAt, Instr.slice, Sem.run_bind, run_underlying hu, Result.andThen_ok, hsz, Option.isSome_none, Bool.false_eq_true, if_false, hb, Sem.run_pure]
              · simp only [VR]
                refine ⟨_, rfl, ?_⟩
                obtain ⟨e1, _⟩ := sub_spec hs
                rw [e1, extract_bytes, hbl]
            · cases hz
          · cases hz
        · cases hz
      · cases hz
  · rename_i e q ql qh qm hu hq hl hh hm
    split at hres
    · rename_i sz hsz
      cases hres
      obtain ⟨it, hi', hs⟩ := szOf_spec hsz
      refine fin hq hl hh hm rfl ?_
      intro z hz ex el eh em
      generalize ro tm q = X at ex hz
      unfold sliceA at hz
      split at hz <;> first | contradiction | skip
      · rename_i sz' b off len cap hk
        cases hk
        obtain ⟨p, o', l, hh', m, hpe, hb, hvr⟩ := sliceEx_run (P := P) ex el eh em hz
        rw [hpe]
        refine ⟨_, ?_, hvr⟩
        simp only [Instr.sliceAt, Instr.slice, Sem.run_bind, run_underlying hu, Result.andThen_ok, hb, run_sizeOf hi', hs, Sem.run_pure]
        split <;> simp [Addr.add_plain]
      · rename_i sz' hk
        simp only [VR] at ex
        rw [ex]
        unfold sliceNil at hz
        split at hz
        · rename_i m h1
          split at hz
          · rename_i hh' h2
            split at hz
            · rename_i l h3
              cases hz
              have hm0 : m = 0 := by rcases bound_spec h1 with ⟨_, rfl⟩ | ⟨_, _, hle⟩ <;> omega
              subst hm0
              have hh0 : hh' = 0 := by have := boundH_le h2 (Nat.le_refl _); omega
              subst hh0
              have hb := bounds_run (P := P) (isSlice := true) (len := 0) (cap := 0) el eh em h1 h2 h3 w
              obtain ⟨b1, b2, b3⟩ := bounds_le (len := 0) (cap := 0) (Nat.le_refl _) h1 h2 h3
              have : l = 0 := by omega
              subst_vars
              refine ⟨.slice none 0 0, ?_, by simp only [VR]⟩
              simp only [Instr.sliceAt, Instr.slice, Sem.run_bind, run_underlying hu, Result.andThen_ok, hb, run_sizeOf hi', Sem.run_pure]
              simp
            · cases hz
          · cases hz
        · cases hz
      · rename_i sz' b off len sz'' hk
        cases hk
        simp only [VR] at ex
        obtain ⟨p, o', c, hp, hpe, hlc, hon, hoo⟩ := ex
        rw [hpe]
        split at hz
        · rename_i hszz
          have := Nat.eq_of_beq_eq_true hszz
          subst this
          unfold sliceGr at hz
          split at hz
          · rename_i hmn
            rw [hmn] at em
            rw [em.none]
            split at hz
            · rename_i hh' h2
              split at hz
              · rename_i l h3
                cases hz
                have hle : hh' ≤ len := by rcases bound_spec h2 with ⟨_, rfl⟩ | ⟨_, _, h5⟩ <;> omega
                have hll : l ≤ hh' := by rcases bound_spec h3 with ⟨_, rfl⟩ | ⟨_, _, h5⟩ <;> omega
                have h2' : bound (Option.map (ro tm) qh) len c = some hh' := bound_up h2 (by omega)
                have hb := bounds_run (P := P) (isSlice := true) (len := len) (cap := c) (m := c) (mx := none) (mx' := none) el eh rfl (by simp [bound]) (by cases hx9 : Option.map (ro tm) qh <;> simpa [boundH, hx9] using h2') h3 w
                refine ⟨.slice (some (if c = l then ⟨p.blk, o', none⟩ else ⟨p.blk, o' + l * sz, none⟩)) (hh' - l) (c - l), ?_, ?_⟩
                · simp only [Instr.sliceAt, Instr.slice, Sem.run_bind, run_underlying hu, Result.andThen_ok, hb, run_sizeOf hi', hs, Sem.run_pure]
                  split <;> simp [Addr.add_plain]
                · simp only [VR]
                  have hcl : l ≤ c := by omega
                  have hmul : l * sz + (c - l) * sz = c * sz := by rw [← Nat.add_mul]; congr 1; omega
                  by_cases e : c = l
                  · subst e
                    exact ⟨p, o', 0, hp, by simp, by omega, by simp; omega, .inr rfl⟩
                  · refine ⟨p, o' + l * sz, c - l, hp, by rw [if_neg e], by omega, by omega, ?_⟩
                    rcases hoo with h5 | h5
                    · left; rw [h5]
                    · omega
              · cases hz
            · cases hz
          · rename_i mv hmn
            rw [hmn] at em
            split at hz
            · rename_i m h1
              split at hz
              · cases hz
              · rename_i hv' hhn
                rw [hhn] at eh
                split at hz
                · rename_i hh' h2
                  split at hz
                  · rename_i l h3
                    cases hz
                    have hml : m ≤ len := by rcases bound_spec h1 with ⟨h5, _⟩ | ⟨_, _, h5⟩ <;> first | omega | cases h5
                    have hb := bounds_run (P := P) (isSlice := true) (len := len) (cap := c) (m := m) (hh := hh') (mx := some mv) (hi := some hv') el eh em (bound_up (bound_some h1) (by omega)) (by simpa [boundH] using bound_some h2) h3 w
                    have hhm : hh' ≤ m := by rcases bound_spec h2 with ⟨h5, _⟩ | ⟨_, _, h5⟩ <;> first | omega | cases h5
                    have hll : l ≤ hh' := by rcases bound_spec h3 with ⟨_, rfl⟩ | ⟨_, _, h5⟩ <;> omega
                    refine ⟨.slice (some (if m = l then ⟨p.blk, o', none⟩ else ⟨p.blk, o' + l * sz, none⟩)) (hh' - l) (m - l), ?_, ?_⟩
                    · simp only [Instr.sliceAt, Instr.slice, Sem.run_bind, run_underlying hu, Result.andThen_ok, hb, run_sizeOf hi', hs, Sem.run_pure]
                      split <;> simp [Addr.add_plain]
                    · simp only [VR]
                      by_cases e : m = l
                      · exact ⟨p, o', hp, by rw [if_pos e], by omega, .inr (by omega)⟩
                      · refine ⟨p, o' + l * sz, hp, by rw [if_neg e], by omega, ?_⟩
                        rcases hoo with h5 | h5
                        · left; rw [h5]
                        · omega
                  · cases hz
                · cases hz
            · cases hz
        · cases hz
    · cases hres
  · rename_i n e q ql qh qm hu hq hl hh hm
    split at hres
    · rename_i sz hsz
      cases hres
      obtain ⟨it, hi', hs⟩ := szOf_spec hsz
      refine fin hq hl hh hm rfl ?_
      intro z hz ex el eh em
      generalize ro tm q = X at ex hz
      unfold sliceA at hz
      split at hz <;> first | contradiction | skip
      rename_i n' sz' b off hk
      cases hk
      obtain ⟨p, hp, hpe⟩ := ex.ptr
      have ex' : VR ι (.slice b off n n) (.slice (some ⟨p.blk, off, none⟩) n n) := by simp only [VR]; exact ⟨p, off, hp, rfl, Nat.le_refl _, .inl rfl⟩
      obtain ⟨p', o', l, hh', m, hpe', hb, hvr⟩ := sliceEx_run (P := P) ex' el eh em hz
      cases hpe'
      rw [hpe]
      refine ⟨_, ?_, hvr⟩
      simp only [Instr.sliceAt, Instr.sureAddr, Sem.run_bind, run_underlying hu, Result.andThen_ok, hb, run_sizeOf hi', hs, Sem.run_pure]
      split <;> simp [Addr.add_plain]
    · cases hres
  · cases hres
end
end Go.Ev

namespace Go.Ev
open Go
section
variable {P : Program} {ι : Inj} {h h' : Heap} {w : World} {tm : Env} {a : Act} {v : AV}

theorem bytesOf_spec : ∀ {cs : List AV} {l : List Nat}, bytesOf cs = some l → cs = l.map (fun (m : Nat) => AV.int .u8 (m : Int)) ∧ ∀ m ∈ l, m < 256
  | [], l, hb => by simp only [bytesOf] at hb; cases hb; exact ⟨rfl, by simp⟩
  | c :: cs, l, hb => by
    unfold bytesOf at hb
    split at hb
    · rename_i heq; cases heq
    · rename_i m cs' heq
      cases heq
      split at hb
      · rename_i r' hlt hr
        cases hb
        obtain ⟨e, hm⟩ := bytesOf_spec hr
        rw [Nat.blt_eq] at hlt
        refine ⟨by rw [e]; rfl, ?_⟩
        intro y hy
        rcases List.mem_cons.1 hy with rfl | hy
        · exact hlt
        · exact hm y hy
      · cases hb
    · cases hb

theorem VRs.ints {k : IntKind} : ∀ {l : List Nat} {m : List Value}, VRs ι (l.map (fun (x : Nat) => AV.int k (x : Int))) m → m = l.map (fun (x : Nat) => Value.int k (x : Int))
  | [], m, hv => by rw [VRs.nil.1 hv]; rfl
  | x :: l, m, hv => by
    obtain ⟨b, m', rfl, hb, hm⟩ := VRs.cons.1 hv
    rw [hb.int, VRs.ints hm]; rfl
theorem VRs.mkInts {k : IntKind} : ∀ (l : List Nat), VRs ι (l.map (fun (x : Nat) => AV.int k (x : Int))) (l.map (fun (x : Nat) => Value.int k (x : Int)))
  | [] => VRs.nil.2 rfl
  | x :: l => VRs.mk (by simp only [VR]) (VRs.mkInts l)

theorem foldl_bytes : ∀ (l : List Nat) (s : ByteArray), (∀ m ∈ l, m < 256) → ((l.map (fun (x : Nat) => (x : Int))).foldl (fun (r : ByteArray) n => r.push (UInt8.ofNat n.toNat)) s).data.toList.map UInt8.toNat = s.data.toList.map UInt8.toNat ++ l
  | [], s, _ => by simp
  | m :: l, s, hm => by
    simp only [List.map_cons, List.foldl_cons]
    rw [foldl_bytes l _ (fun x hx => hm x (by simp [hx]))]
    have : m < 256 := hm m (by simp)
    simp only [ByteArray.data_push, Array.toList_push, List.map_append, List.map_cons, List.map_nil, List.append_assoc, List.singleton_append]
    simp
    omega

theorem readCells_run (r : Rel P ι h w) {b o n : Nat} {p : Pl} (hp : ι b = some p) {cs : List AV} (hc : readCells h b o n = some cs) :
    ∃ m, (loadCells ⟨p.blk, o, none⟩ n).run P w = .ok m.toArray w ∧ VRs ι cs m := by
  unfold readCells at hc
  split at hc
  · rename_i cs' g hg
    have hcells : h.cells b = some cs' := by unfold Heap.cells; rw [hg]
    obtain ⟨c, e, lo, hi, hw, hv, hl, _⟩ := r.cells hp hcells
    obtain ⟨e1, hle⟩ := sub_spec hc
    refine ⟨(c.toList.drop o).take n, run_loadCells_at hw o n (by omega), ?_⟩
    rw [e1]
    have := (hv.drop (n := o)).take (n := n)
    simp only [List.drop_take, List.take_take] at this
    rw [Nat.min_eq_left (by omega)] at this
    exact this
  · cases hc

theorem run_load0 (a : Addr) (w : World) : (loadCells a 0).run P w = .ok #[] w := rfl

theorem sound_convert (s d : TypeId) (x : Operand) : Sound P (.convert s d x) := by
  intro ι h h' w tm a v rop o r ht ho hres hv
  simp only [resOp] at hres
  split at hres
  · rename_i k k' q hus hud hq
    cases hres
    simp only [aop] at hv
    have ex := rso_VR ht hq
    split at hv
    · rename_i k'' n e
      cases hv
      rw [e] at ex
      refine .of (v' := .int k' (k'.wrap n)) (w' := w) ?_ (.here r (by simp only [VR]))
      have : (convert s d (.int k'' n)).run P w = .ok (.int k' (k'.wrap n)) w := by
        simp [convert, run_underlying hus, run_underlying hud, Conv.intToInt]
      simp only [execOp, ho, ex.int, Sem.run_bind, this, Result.andThen_ok, Sem.run_pure]
    · cases hv
  · rename_i q hus hud hq
    cases hres
    simp only [aop] at hv
    have ex := rso_VR ht hq
    split at hv
    · rename_i l e
      cases hv
      rw [e] at ex
      obtain ⟨bs, hbe, hbl⟩ := ex.str
      refine .of (v' := .string bs) (w' := w) ?_ (.here r (by simp only [VR]; exact ⟨_, rfl, hbl⟩))
      have : (convert s d (.string bs)).run P w = .ok (.string bs) w := by
        simp [convert, run_underlying hus, run_underlying hud]
      simp only [execOp, ho, hbe, Sem.run_bind, this, Result.andThen_ok, Sem.run_pure]
    · cases hv
  · rename_i e q hus hud hq
    split at hres
    · rename_i hue
      cases hres
      simp only [aop] at hv
      have ex := rso_VR ht hq
      split at hv
      · rename_i l he
        cases hv
        rw [he] at ex
        obtain ⟨bs, hbe, hbl⟩ := ex.str
        have hlen : l.length = bs.size := by rw [← hbl]; simp
        obtain ⟨c, hc, hgc⟩ : ∃ c, bs.size ≤ c ∧ grownCap w bs.size 0 e = c := ⟨_, by simp [grownCap, Question.cut], rfl⟩
        obtain ⟨cells, hcl⟩ : ∃ x : Array Value, x = bytesRow bs c := ⟨_, rfl⟩
        have hcells : cells.size = c := by rw [hcl]; simp [bytesRow]; omega
        have hrun := run_bytes_of_string w s d e bs hus hud hue
        rw [hgc, ← hcl] at hrun
        have hvr : VRs ι (l.map fun (c : Nat) => AV.int .u8 c) (cells.toList.take l.length) := by
          have e1 : cells.toList.take l.length = l.map fun (x : Nat) => Value.int .u8 (x : Int) := by
            simp only [hcl, bytesRow, Array.toList_append, Array.toList_map]
            rw [List.take_append_of_le_length (by simp; omega), List.take_of_length_le (by simp; omega), ← hbl]
            simp
          rw [e1]
          exact VRs.mkInts l
        have hal := r.drew.alloc (n := c) (ab := .cells (l.map fun (c : Nat) => AV.int .u8 c) true) (o := .cells cells e (cells.size, cells.size + 1)) (fun ι' hl' =>
          ⟨cells, e, cells.size, cells.size + 1, rfl, hcells, by simpa using hvr.mono hl', by simp; omega, (fun h => by cases h), .inr (Nat.le_refl _)⟩)
        refine .of (v' := .slice (some ⟨w.heap.size, 0, none⟩) bs.size c) (w' := w.drew.alloc (.cells cells e (cells.size, cells.size + 1))) ?_ ⟨_, ?_, hal.1, (Ext.drew ι h w).trans hal.2⟩
        · simp only [execOp, ho, hbe, Sem.run_bind, hrun, Result.andThen_ok, Sem.run_pure]
        · simp only [VR]
          exact ⟨_, 0, c, Inj.add_same _ _ _, by rw [hlen]; rfl, by omega, by simp, .inl rfl⟩
      · cases hv
    · cases hres
  · rename_i e q hus hud hq
    split at hres
    · rename_i hue
      cases hres
      simp only [aop] at hv
      have ex := rso_VR ht hq
      have fin : ∀ {bs : ByteArray} {l : List Nat}, v = .str l → h' = h → bs.data.toList.map UInt8.toNat = l → (convert s d (a.eval x)).run P w = .ok (.string bs) w → OpRuns P ι h w v h' ((execOp a.eval o).run P w) := by
        intro bs l hve hhe hbl hrun
        subst hve; subst hhe
        refine .of (v' := .string bs) (w' := w) ?_ (.here r (by simp only [VR]; exact ⟨_, rfl, hbl⟩))
        simp only [execOp, ho, Sem.run_bind, hrun, Result.andThen_ok, Sem.run_pure]
      have go : ∀ {b off off' n c : Nat} {p : Pl}, ι b = some p → (n = 0 ∨ off' = off) → a.eval x = .slice (some ⟨p.blk, off', none⟩) n c →
          (match (match (match Nat.beq n 0 with | true => some [] | false => readCells h b off n : Option (List AV)) with
            | some cs => (match bytesOf cs with | some l => some (AV.str l) | none => none)
            | none => none) with | some x => some (x, h) | none => none : Option (AV × Heap)) = some (v, h') → OpRuns P ι h w v h' ((execOp a.eval o).run P w) := by
        intro b off off' n c p hp hoff he hv
        have hread : ∀ cs, (match Nat.beq n 0 with | true => some [] | false => readCells h b off n : Option (List AV)) = some cs → ∃ m, (loadCells ⟨p.blk, off', none⟩ n).run P w = .ok m.toArray w ∧ VRs ι cs m := by
          intro cs hcs
          split at hcs
          · rename_i h0
            have := Nat.eq_of_beq_eq_true h0
            subst this
            cases hcs
            exact ⟨[], rfl, VRs.nil.2 rfl⟩
          · rename_i h0
            have : off' = off := by
              rcases hoff with h5 | h5
              · subst h5; simp at h0
              · exact h5
            subst this
            exact readCells_run r hp hcs
        split at hv
        · rename_i y hy
          cases hv
          split at hy
          · rename_i cs hcs
            split at hy
            · rename_i l hl
              cases hy
              obtain ⟨m, h1, h2⟩ := hread cs hcs
              obtain ⟨e1, e2⟩ := bytesOf_spec hl
              rw [e1] at h2
              have hm := h2.ints
              rw [hm] at h1
              have h3 := run_bytesToString w ⟨p.blk, off', none⟩ n c (l.map (fun (x : Nat) => (x : Int))) (by rw [h1]; simp)
              have h4 := run_convert_bytes_string w s d e (some ⟨p.blk, off', none⟩) n c hus hue hud
              refine fin rfl rfl (foldl_bytes l ByteArray.empty e2 |>.trans (by simp)) ?_
              rw [he, h4, h3]
            · cases hy
          · cases hy
        · cases hv
      split at hv
      · rename_i he
        cases hv
        rw [he] at ex
        simp only [VR] at ex
        refine fin (bs := .empty) rfl rfl (by simp) ?_
        rw [ex, run_convert_bytes_string w s d e none 0 0 hus hue hud]
        rfl
      · rename_i b off n cap he
        rw [he] at ex
        simp only [VR] at ex
        obtain ⟨p, o', hp, hpe, hlc, hoo⟩ := ex
        exact go hp (by rcases hoo with h5 | h5 <;> omega) hpe hv
      · rename_i b off n sz he
        rw [he] at ex
        simp only [VR] at ex
        obtain ⟨p, o', c, hp, hpe, hlc, hon, hoo⟩ := ex
        exact go hp (by rcases hoo with h5 | h5 <;> omega) hpe hv
      · cases hv
    · cases hres
  · cases hres
end
end Go.Ev

noncomputable section
namespace Go.Ev
open Go
section
variable {P : Program} {ι : Inj} {h h' : Heap} {w : World} {tm : Env} {a : Act} {v : AV}

mutual
theorem aveq_eq : ∀ (x y : AV), aveq x y = true → x = y
  | .bool _, y, e => by cases y <;> simp [aveq] at e; rw [e]
  | .int _ _, y, e => by cases y <;> simp [aveq] at e; rw [e.1, e.2]
  | .str _, y, e => by cases y <;> simp [aveq] at e; rw [e]
  | .nilp, y, e => by cases y <;> simp [aveq] at e; rfl
  | .ptr _ _, y, e => by cases y <;> simp [aveq] at e; rw [e.1, e.2]
  | .nils, y, e => by cases y <;> simp [aveq] at e; rfl
  | .slice _ _ _ _, y, e => by cases y <;> simp [aveq] at e; obtain ⟨⟨⟨e1, e2⟩, e3⟩, e4⟩ := e; rw [e1, e2, e3, e4]
  | .gslice _ _ _ _, y, e => by cases y <;> simp [aveq] at e; obtain ⟨⟨⟨e1, e2⟩, e3⟩, e4⟩ := e; rw [e1, e2, e3, e4]
  | .nilm, y, e => by cases y <;> simp [aveq] at e; rfl
  | .map _, y, e => by cases y <;> simp [aveq] at e; rw [e]
  | .nilf, y, e => by cases y <;> simp [aveq] at e; rfl
  | .func _ a b, y, e => by
    cases y <;> simp [aveq] at e
    rw [e.1.1, avseq_eq a _ e.1.2, avseq_eq b _ e.2]
  | .yield _, y, e => by cases y <;> simp [aveq] at e; rw [e]
  | .nili, y, e => by cases y <;> simp [aveq] at e; rfl
  | .iface _ x, y, e => by cases y <;> simp [aveq] at e; rw [e.1, aveq_eq x _ e.2]
  | .agg x, y, e => by cases y <;> simp [aveq] at e; rw [avseq_eq x _ e]
  | .tup x, y, e => by cases y <;> simp [aveq] at e; rw [avseq_eq x _ e]
theorem avseq_eq : ∀ (x y : List AV), avseq x y = true → x = y
  | [], [], _ => rfl
  | a :: l, b :: m, e => by simp [avseq] at e; rw [aveq_eq a _ e.1, avseq_eq l _ e.2]
  | [], _ :: _, e => by simp [avseq] at e
  | _ :: _, [], e => by simp [avseq] at e
end

/-! ### Keys -/
theorem checkKey_run (b : Bool) (w : World) : ∀ (n : Nat) (t : TypeId) (e : EqD), eqdF P n t = some e → ∀ (d : Nat), n ≤ d → ∀ {x : AV} {x' : Value}, VR ι x x' → kfits e x = true → (Instr.checkKey b d t x').run P w = .ok () w
  | 0, t, e, he, _, _, _, _, _, _ => by simp [eqdF] at he
  | n + 1, t, e, he, d, hd, x, x', hx, hk => by
    obtain ⟨d, rfl⟩ : ∃ m, d = m + 1 := ⟨d - 1, by omega⟩
    have hd' : n ≤ d := by omega
    simp only [eqdF] at he
    split at he
    · rename_i hu
      cases he
      cases x <;> simp [kfits] at hk
      rw [hx.bool]; simp [Instr.checkKey, run_underlying hu]
    · rename_i k hu
      cases he
      cases x <;> simp [kfits] at hk
      rw [hx.int]; simp [Instr.checkKey, run_underlying hu]
    · rename_i hu
      cases he
      cases x <;> simp [kfits] at hk
      obtain ⟨s, rfl, _⟩ := hx.str; simp [Instr.checkKey, run_underlying hu]
    · rename_i el hu
      split at he
      · cases he
        cases x <;> simp [kfits] at hk
        · simp only [VR] at hx; subst hx; simp [Instr.checkKey, run_underlying hu]
        · obtain ⟨s, _, rfl⟩ := hx.ptr; simp [Instr.checkKey, run_underlying hu]
      · cases he
    · cases he; cases x <;> simp [kfits] at hk
    · cases he; cases x <;> simp [kfits] at hk
    · cases he; cases x <;> simp [kfits] at hk
    · cases he; cases x <;> simp [kfits] at hk
    · rename_i fs hu
      split at he
      · cases he
      · split at he
        · rename_i l hl
          cases he
          cases x <;> simp [kfits] at hk
          rename_i xs
          obtain ⟨cx, rfl, hcx⟩ := hx.agg
          have key : ∀ (fl : List Field) (l : List (Nat × Option Nat × EqD)), allM (fun (f : Field) => match aggN P f.type, eqdF P n f.type with
              | some g, some e => some (f.offset, g, e) | _, _ => none) (fl.filter (fun f => f.name != "_")) = some l → kfitss l xs = true →
              (forIn fl PUnit.unit fun (f : Field) (_ : PUnit) => (do
                if f.name ≠ "_" then Instr.checkKey b d f.type (← part f.type cx f.offset)
                pure (ForInStep.yield PUnit.unit) : Sem (ForInStep PUnit))).run P w = .ok PUnit.unit w := by
            intro fl
            induction fl with
            | nil => intro l _ _; simp
            | cons f fl ih =>
              intro l hl hk
              by_cases hname : f.name = "_"
              · have : (f :: fl).filter (fun f => f.name != "_") = fl.filter (fun f => f.name != "_") := by simp [hname]
                rw [this] at hl
                have := ih l hl hk
                simp [hname] at this ⊢
                exact this
              · have : (f :: fl).filter (fun f => f.name != "_") = f :: fl.filter (fun f => f.name != "_") := by simp [hname]
                rw [this] at hl
                obtain ⟨q, l', h1, h2, rfl⟩ := allM_cons hl
                split at h1
                · rename_i g e' hg he'
                  cases h1
                  simp only [kfitss, Bool.and_eq_true] at hk
                  obtain ⟨hk1, hk2⟩ := hk
                  split at hk1
                  · rename_i y hpy
                    obtain ⟨y', hy1, hy2⟩ := part_sound hcx hg hpy w
                    have := ih l' h2 hk2
                    have hck := checkKey_run b w n f.type e' he' d hd' hy2 hk1
                    simp [hname, hy1, hck] at this ⊢
                    exact this
                  · cases hk1
                · cases h1
          have := key fs.toList l hl hk
          simp only [Instr.checkKey, Sem.run_bind, run_underlying hu, Result.andThen_ok]
          rw [← Array.forIn_toList]
          simp at this ⊢
          rw [this]; rfl
        · cases he
    · rename_i len el hu
      split at he
      · rename_i it g e' hi hg he'
        cases he
        cases x <;> simp [kfits] at hk
        rename_i xs
        obtain ⟨cx, rfl, hcx⟩ := hx.agg
        have key : ∀ (is : List Nat), kfitss (is.map fun j => (j * it.size, g, e')) xs = true →
            (forIn is PUnit.unit fun (i : Nat) (_ : PUnit) => (do
              Instr.checkKey b d el (← part el cx (i * (← sizeOf el)))
              pure (ForInStep.yield PUnit.unit) : Sem (ForInStep PUnit))).run P w = .ok PUnit.unit w := by
          intro is
          induction is with
          | nil => intro _; simp
          | cons j is ih =>
            intro hk
            simp only [List.map_cons, kfitss, Bool.and_eq_true] at hk
            obtain ⟨hk1, hk2⟩ := hk
            split at hk1
            · rename_i y hpy
              obtain ⟨y', hy1, hy2⟩ := part_sound hcx hg hpy w
              have := ih hk2
              have hck := checkKey_run b w n el e' he' d hd' hy2 hk1
              simp [run_sizeOf hi, hy1, hck] at this ⊢
              exact this
            · cases hk1
        have := key (List.range len) hk
        simp only [Instr.checkKey, Sem.run_bind, run_underlying hu, Result.andThen_ok]
        simp only [Std.Legacy.Range.forIn_eq_forIn_range', Std.Legacy.Range.size, Nat.sub_zero, Nat.add_one_sub_one, Nat.div_one, ← List.range_eq_range']
        simp at this ⊢
        rw [this]; rfl
      · cases he
    · cases he

theorem keyS_same {x : AV} {x' y' : Value} (hk : keyS x = true) (hx : VR ι x x') (hy : VR ι x y') (n : Nat) : Instr.sameBits n x' y' = true := by
  cases x <;> simp [keyS] at hk
  · rw [hx.bool, hy.bool]; cases n <;> simp [Instr.sameBits]
  · rw [hx.int, hy.int]; cases n <;> simp [Instr.sameBits]
  · obtain ⟨s, rfl, hs⟩ := hx.str
    obtain ⟨s', rfl, hs'⟩ := hy.str
    have : s = s' := str_eq.1 (hs.trans hs'.symm)
    subst this
    have : (s == s) = true := by rw [str_beq]; simp
    cases n <;> simp [Instr.sameBits, this]
  · simp only [VR] at hx hy; subst hx; subst hy; cases n <;> simp [Instr.sameBits]
  · obtain ⟨p, hp, rfl⟩ := hx.ptr
    obtain ⟨q, hq, rfl⟩ := hy.ptr
    rw [hp] at hq; cases hq
    cases n <;> simp [Instr.sameBits]

theorem keySs_same {n : Nat} : ∀ {xs : List AV} {l m : List Value}, xs.all keyS = true → VRs ι xs l → VRs ι xs m → ((l.zip m).all fun (x, y) => Instr.sameBits n x y) = true
  | [], _, _, _, hl, hm => by rw [VRs.nil.1 hl]; simp
  | x :: xs, _, _, hk, hl, hm => by
    obtain ⟨b, l', rfl, hb, hl'⟩ := VRs.cons.1 hl
    obtain ⟨c, m', rfl, hc, hm'⟩ := VRs.cons.1 hm
    simp only [List.all_cons, Bool.and_eq_true] at hk
    simp only [List.zip_cons_cons, List.all_cons, Bool.and_eq_true]
    exact ⟨keyS_same hk.1 hb hc n, keySs_same hk.2 hl' hm'⟩

theorem keyv_same {x : AV} {x' y' : Value} (hk : keyv x = true) (hx : VR ι x x') (hy : VR ι x y') (n : Nat) : Instr.sameBits (n + 1) x' y' = true := by
  cases x with
  | agg xs =>
    obtain ⟨c, rfl, hc⟩ := hx.agg
    obtain ⟨d, rfl, hd⟩ := hy.agg
    have h1 := hc.length
    have h2 := hd.length
    simp only [Instr.sameBits, Bool.and_eq_true]
    refine ⟨by simp at h1 h2 ⊢; omega, ?_⟩
    exact keySs_same hk hc hd
  | _ => exact keyS_same (by simpa only [keyv] using hk) hx hy _

/-- an entry's place -/
def placeE (h : Heap) (e : EqD) (k : AV) : List (AV × AV × Nat) → Option Nat
  | [] => none
  | (k', _, _) :: l => match aeq h e k k' with
    | some true => some 0
    | _ => (placeE h e k l).map (· + 1)

theorem ER.cons {k v : AV} {n : Nat} {l : List (AV × AV × Nat)} {m : List MapEntry} (he : ER ι ((k, v, n) :: l) m) : ∃ e m', m = e :: m' ∧ VR ι k e.key ∧ VR ι v e.val ∧ e.born = n ∧ ER ι l m' := he

theorem ER.mk {k v : AV} {n : Nat} {l : List (AV × AV × Nat)} {e : MapEntry} {m : List MapEntry} (hk : VR ι k e.key) (hv : VR ι v e.val) (hn : e.born = n) (hl : ER ι l m) : ER ι ((k, v, n) :: l) (e :: m) := ⟨e, m, rfl, hk, hv, hn, hl⟩

theorem ER.append : ∀ {l l' : List (AV × AV × Nat)} {m m' : List MapEntry}, ER ι l m → ER ι l' m' → ER ι (l ++ l') (m ++ m')
  | [], _, m, _, h1, h2 => by
    have : m = [] := h1
    subst this; simpa using h2
  | (_, _, _) :: _, _, _, _, h1, h2 => by
    obtain ⟨e, m', rfl, hk, hv, hn, hl⟩ := h1.cons
    exact ER.mk hk hv hn (ER.append hl h2)
theorem ER.length : ∀ {l : List (AV × AV × Nat)} {m : List MapEntry}, ER ι l m → m.length = l.length
  | [], m, h1 => by have : m = [] := h1; subst this; rfl
  | (_, _, _) :: _, _, h1 => by
    obtain ⟨e, m', rfl, _, _, _, hl⟩ := h1.cons
    simp [hl.length]

/-- the search -/
theorem findAsking_run (r : Rel P ι h w) {kt : TypeId} {e : EqD} (he : eqd P kt = some e) {k : AV} {k' : Value} (hk : VR ι k k') : ∀ (es : List (AV × AV × Nat)) (m : List MapEntry) (j : Nat) (res : Option (AV × Nat)), ER ι es m →
    findE h e k es = some res → match res with
      | none => (Instr.findAsking kt k' m j).run P w = .ok none w
      | some (v, n) => ∃ i ent, m[i]? = some ent ∧ placeE h e k es = some i ∧ VR ι v ent.val ∧ ent.born = n ∧ (Instr.findAsking kt k' m j).run P w = .ok (some (j + i, ent.val)) w
  | [], m, j, res, hm, hf => by
    have : m = [] := hm
    subst this
    simp only [findE] at hf; cases hf
    rfl
  | (k1, v1, n1) :: es, m, j, res, hm, hf => by
    obtain ⟨ent, m', rfl, hk1, hv1, hn1, hm'⟩ := hm.cons
    simp only [findE] at hf
    split at hf
    · rename_i ha
      cases hf
      have := eq_run r he hk hk1 ha
      refine ⟨0, ent, rfl, by simp [placeE, ha], hv1, hn1, ?_⟩
      simp [Instr.findAsking, this]
    · rename_i ha
      have heq := eq_run r he hk hk1 ha
      have ih := findAsking_run r he hk es m' (j + 1) res hm' hf
      cases res with
      | none => simp only [] at ih ⊢; simp [Instr.findAsking, heq, ih]
      | some q =>
        obtain ⟨v, n⟩ := q
        obtain ⟨i, ent', h1, h2, h3, h4, h5⟩ := ih
        refine ⟨i + 1, ent', by simpa using h1, by simp [placeE, ha, h2], h3, h4, ?_⟩
        simp [Instr.findAsking, heq, h5]
        omega
    · cases hf

theorem sameNow_run (r : Rel P ι h w) {kt : TypeId} {e : EqD} (he : eqd P kt = some e) {d : TypeDesc} (hd : P.underlying kt = some d) {x y : AV} {x' y' : Value} (hx : VR ι x x') (hy : VR ι y y') {b b' : Bool} (ha : aeq h e x y = some b)
    (hs : Instr.sameNow d x' y' = some b') : b' = b := by
  have hrun := eq_run r he hx hy ha
  obtain ⟨n, hn⟩ : ∃ n, Op.maxDepth = n + 1 := ⟨9999, rfl⟩
  have : Op.equal kt x' y' = Op.equalIn (n + 1) kt x' y' := by unfold Op.equal; rw [hn]
  rw [this] at hrun
  unfold Instr.sameNow at hs
  split at hs
  · split at hs
    · rename_i k k1 a1 k2 a2 hk
      subst hk
      rw [run_equalIn_int w n kt _ _ _ _ hd] at hrun
      cases hrun; cases hs; rfl
    · cases hs
  · rename_i a1 b1
    cases hs
    simp [Op.equalIn, run_underlying hd] at hrun
    exact hrun
  · rename_i a1 b1
    cases hs
    rw [run_equalIn_bool' w n kt _ _ hd] at hrun
    cases hrun; rfl
  · cases hs

theorem findNow_run (r : Rel P ι h w) {kt : TypeId} {e : EqD} (he : eqd P kt = some e) {d : TypeDesc} (hd : P.underlying kt = some d) {k : AV} {k' : Value} (hk : VR ι k k') : ∀ (es : List (AV × AV × Nat)) (m : List MapEntry) (j : Nat) (res : Option (AV × Nat)), ER ι es m →
    findE h e k es = some res → ∀ q, Instr.findNow d k' m j = some q → (Instr.findAsking kt k' m j).run P w = .ok q w
  | [], m, j, res, hm, hf, q, hq => by
    have : m = [] := hm
    subst this
    simp only [Instr.findNow] at hq; cases hq
    rfl
  | (k1, v1, n1) :: es, m, j, res, hm, hf, q, hq => by
    obtain ⟨ent, m', rfl, hk1, hv1, hn1, hm'⟩ := hm.cons
    simp only [findE] at hf
    simp only [Instr.findNow] at hq
    split at hf
    · rename_i ha
      have heq := eq_run r he hk hk1 ha
      split at hq
      · cases hq; simp [Instr.findAsking, heq]
      · rename_i hs
        have := sameNow_run r he hd hk hk1 ha hs
        cases this
      · cases hq
    · rename_i ha
      have heq := eq_run r he hk hk1 ha
      split at hq
      · rename_i hs
        have := sameNow_run r he hd hk hk1 ha hs
        cases this
      · have := findNow_run r he hd hk es m' (j + 1) res hm' hf q hq
        simp [Instr.findAsking, heq, this]
      · cases hq
    · cases hf

theorem findKey_run (r : Rel P ι h w) {kt : TypeId} {e : EqD} (he : eqd P kt = some e) {d : TypeDesc} (hd : P.underlying kt = some d) {k : AV} {k' : Value} (hk : VR ι k k') {es : List (AV × AV × Nat)} {m : List MapEntry} {res : Option (AV × Nat)} (hm : ER ι es m)
    (hf : findE h e k es = some res) : match res with
      | none => (Instr.findKey kt k' m).run P w = .ok none w
      | some (v, n) => ∃ i ent, m[i]? = some ent ∧ placeE h e k es = some i ∧ VR ι v ent.val ∧ ent.born = n ∧ (Instr.findKey kt k' m).run P w = .ok (some (i, ent.val)) w := by
  have hrun : (Instr.findKey kt k' m).run P w = (Instr.findAsking kt k' m 0).run P w := by
    simp only [Instr.findKey, Sem.run_bind, run_underlying hd, Result.andThen_ok]
    cases hq : Instr.findNow d k' m 0 with
    | some q => rw [findNow_run r he hd hk es m 0 res hm hf q hq]; rfl
    | none => rfl
  have := findAsking_run r he hk es m 0 res hm hf
  rw [hrun]
  cases res with
  | none => exact this
  | some q => simpa using this

theorem eqd_underlying {t : TypeId} {e : EqD} (he : eqd P t = some e) : ∃ d, P.underlying t = some d ∧ eqdF P 8 t = some e := by
  unfold eqd at he
  have h8 : eqdF P 8 t = some e := by
    split at he
    · cases he
    · cases he
    · exact he
  cases hu : P.underlying t with
  | none => simp [eqdF, hu] at h8
  | some d => exact ⟨d, rfl, h8⟩
end
end Go.Ev

noncomputable section
namespace Go.Ev
open Go
section
variable {P : Program} {ι : Inj} {h h' : Heap} {w : World} {tm : Env} {a : Act} {v : AV}

theorem run_getObj_map {blk : Nat} {m : Array MapEntry} {c : Nat} (hx : w.heap[blk]? = some (.map m c)) : (getObj blk).run P w = .ok (.map m c) w := by
  simp [getObj, Sem.run, hx]
theorem run_setObj_map {blk : Nat} {m : Array MapEntry} {c : Nat} (hx : w.heap[blk]? = some (.map m c)) (o : Obj) : (setObj blk o).run P w = .ok () { w with heap := w.heap.setIfInBounds blk o } := by
  simp [setObj, Sem.run, hx]

/-- a map's block becomes another one -/
theorem map_update (r : Rel P ι h w) {b : Nat} {p : Pl} (hb : ι b = some p) {es es' : List (AV × AV × Nat)} {clock clock' : Nat} (hg : h.get b = some (.map es clock)) {m' : Array MapEntry} (hm : ER ι es' m'.toList) :
    Rel P ι (h.set b (.map es' clock')) { w with heap := w.heap.setIfInBounds p.blk (.map m' clock') } ∧ Ext ι h w ι (h.set b (.map es' clock')) { w with heap := w.heap.setIfInBounds p.blk (.map m' clock') } := by
  have hlt := r.size b p hb
  refine r.update hb hg (by intro e; cases e) (by simp) ?_ ?_ ⟨rfl, rfl, rfl⟩
  · intro c hc
    simp [Array.getElem?_setIfInBounds_ne (Ne.symm hc)]
  · exact ⟨m', by simp [Array.getElem?_setIfInBounds_self_of_lt hlt], hm⟩

theorem VR.mapv {b : Nat} {v : Value} (hv : VR ι (.map b) v) : ∃ p, ι b = some p ∧ v = .map (some p.blk) := by simpa only [VR] using hv

theorem zeroV_spec {t : TypeId} {z : AV} (hz : zeroV P t = some z) : ∃ zv, (∀ w, (zeroValue t).run P w = .ok zv w) ∧ ∀ ι, VR ι z zv := by
  unfold zeroV at hz
  split at hz
  · rename_i zv he
    cases hi : P.info? t with
    | none => rw [hi] at he; simp at he
    | some i =>
      rw [hi] at he
      simp at he
      exact ⟨zv, fun w => run_zeroValue hi he w, fun ι => ofV_VR ι hz⟩
  · cases hz

theorem sound_lookup (t : TypeId) (x k : Operand) (ok : Bool) : Sound P (.lookup t x k ok) := by
  intro ι h h' w tm a v rop o r ht ho hres hv
  simp only [resOp] at hres
  split at hres
  · rename_i kt el qm qk hu hqm hqk
    split at hres
    · rename_i d z hd hz
      cases hres
      simp only [aop] at hv
      have em := rso_VR ht hqm
      have ek := rso_VR ht hqk
      obtain ⟨kd, hkd, h8⟩ := eqd_underlying hd
      obtain ⟨zv, hzr, hzvr⟩ := zeroV_spec hz
      split at hv
      · rename_i hfit
        have hck : ∀ b, (Instr.checkKey b 10000 kt (a.eval k)).run P w = .ok () w := fun b => checkKey_run b w 8 kt d h8 10000 (by omega) ek hfit
        -- what was found
        have fin : ∀ {x' : AV} {fnd : Bool} {x'' : Value}, VR ι x' x'' → v = okPair ok x' fnd → h' = h →
            (Instr.lookup t (a.eval x) (a.eval k) ok).run P w = .ok (if ok then .tuple #[x'', .bool fnd] else x'') w → OpRuns P ι h w v h' ((execOp a.eval o).run P w) := by
          intro x' fnd x'' hvr hve hhe hrun
          subst hve; subst hhe
          refine .of (v' := if ok then .tuple #[x'', .bool fnd] else x'') (w' := w) ?_ (.here r ?_)
          · simp only [execOp, ho, Sem.run_bind, hrun, Result.andThen_ok, Sem.run_pure]
          · cases ok
            · exact hvr
            · simp only [okPair, VR, if_true]
              exact ⟨_, rfl, VRs.mk hvr (VRs.mk (by simp only [VR]) (VRs.nil.2 rfl))⟩
        have run2 : ∀ {m : Array MapEntry}, (a.eval x = .map none ∧ m = #[] ∨ ∃ b c, a.eval x = .map (some b) ∧ w.heap[b]? = some (.map m c)) →
            (∀ i y', (Instr.findKey kt (a.eval k) m.toList).run P w = .ok (some (i, y')) w → (Instr.lookup t (a.eval x) (a.eval k) ok).run P w = .ok (if ok then .tuple #[y', .bool true] else y') w) ∧
            ((Instr.findKey kt (a.eval k) m.toList).run P w = .ok none w → (Instr.lookup t (a.eval x) (a.eval k) ok).run P w = .ok (if ok then .tuple #[zv, .bool false] else zv) w) := by
          intro m hlk
          rcases hlk with ⟨he, rfl⟩ | ⟨b, c, he, hx⟩
          · refine ⟨fun i y' hf => ?_, fun hf => ?_⟩
            · simp only [Instr.lookup, he, Sem.run_bind, run_underlying hu, Result.andThen_ok, Sem.run_pure, hck, hf]
            · simp only [Instr.lookup, he, Sem.run_bind, run_underlying hu, Result.andThen_ok, Sem.run_pure, hck, hf, hzr]
          · refine ⟨fun i y' hf => ?_, fun hf => ?_⟩
            · simp only [Instr.lookup, he, Sem.run_bind, run_underlying hu, Result.andThen_ok, run_getObj_map hx, Sem.run_pure, hck, hf]
            · simp only [Instr.lookup, he, Sem.run_bind, run_underlying hu, Result.andThen_ok, run_getObj_map hx, Sem.run_pure, hck, hf, hzr]
        split at hv
        · rename_i y n hf
          cases hv
          split at hf
          · cases hf
          · rename_i b hm
            split at hf
            · rename_i es clock hg
              rw [hm] at em
              obtain ⟨p, hp, hpe⟩ := em.mapv
              obtain ⟨m, hx, hER⟩ := r.blocks b p _ hp hg
              obtain ⟨i, ent, _, _, h1, _, h3⟩ := findKey_run r hd hkd ek hER hf
              exact fin h1 rfl rfl ((run2 (m := m) (.inr ⟨_, _, hpe, hx⟩)).1 i _ h3)
            · cases hf
          · cases hf
        · rename_i hf
          cases hv
          split at hf
          · rename_i hm
            rw [hm] at em
            simp only [VR] at em
            have h3 := findKey_run r hd hkd ek (es := []) (m := (#[] : Array MapEntry).toList) (show ER ι [] [] from rfl) (res := none) rfl
            exact fin (hzvr ι) rfl rfl ((run2 (m := #[]) (.inl ⟨em, rfl⟩)).2 h3)
          · rename_i b hm
            split at hf
            · rename_i es clock hg
              rw [hm] at em
              obtain ⟨p, hp, hpe⟩ := em.mapv
              obtain ⟨m, hx, hER⟩ := r.blocks b p _ hp hg
              have h3 := findKey_run r hd hkd ek hER hf
              exact fin (hzvr ι) rfl rfl ((run2 (m := m) (.inr ⟨_, _, hpe, hx⟩)).2 h3)
            · cases hf
          · cases hf
        · cases hv
      · cases hv
    · cases hres
  · cases hres

/-- The place that 'setE' turns. -/
theorem setE_ER (r : Rel P ι h w) {e : EqD} {k : AV} {k' : Value} (hk : VR ι k k') {x : Option AV} : ∀ {es es' : List (AV × AV × Nat)} {m : List MapEntry} {i : Nat}, ER ι es m → placeE h e k es = some i → setE h e k x es = some es' →
    ∀ (f : MapEntry → MapEntry), (∀ ent, (f ent).born = ent.born) → (∀ ent, (f ent).key = k') → (∀ ent v, VR ι v ent.val → VR ι (x.getD v) (f ent).val) → ER ι es' (m.modify i f) ∧ ∃ ent, m[i]? = some ent ∧ VR ι k ent.key
  | [], _, _, _, _, hp, _ => by simp [placeE] at hp
  | (k1, v1, n1) :: es, es', m, i, hm, hp, hs => by
    intro f hf1 hf2 hf3
    obtain ⟨ent, m', rfl, hk1, hv1, hn1, hm'⟩ := hm.cons
    simp only [setE] at hs
    simp only [placeE] at hp
    split at hs
    · rename_i ha
      rw [ha] at hp
      cases hp
      split at hs
      · rename_i hkk
        cases hs
        have := aveq_eq _ _ hkk
        subst this
        refine ⟨?_, ent, rfl, hk1⟩
        simp only [List.modify_zero_cons]
        exact ER.mk (by rw [hf2]; exact hk) (hf3 _ _ hv1) (by rw [hf1]; exact hn1) hm'
      · cases hs
    · rename_i ha
      rw [ha] at hp
      simp only [Option.map_eq_some_iff] at hp
      obtain ⟨j, hj, rfl⟩ := hp
      split at hs
      · rename_i m1 hs1
        cases hs
        obtain ⟨h1, ent', h2, h3⟩ := setE_ER r hk hm' hj hs1 f hf1 hf2 hf3
        refine ⟨?_, ent', by simpa using h2, h3⟩
        simp only [List.modify_succ_cons]
        exact ER.mk hk1 hv1 hn1 h1
      · cases hs
    · cases hs

theorem toList_modify {α : Type} (m : Array α) (i : Nat) (f : α → α) : (m.modify i f).toList = m.toList.modify i f := by simp

theorem run_keyStays {x : AV} {x' y' : Value} (hk : keyv x = true) (hx : VR ι x x') (hy : VR ι x y') (w : World) : (Instr.keyThatStays x' y').run P w = .ok y' w := by
  obtain ⟨n, hn⟩ : ∃ n, 10000 = n + 1 := ⟨9999, rfl⟩
  have := keyv_same hk hx hy n
  unfold Instr.keyThatStays
  rw [hn, this]
  rfl

theorem sound_mapUpdate' (t : TypeId) (x k y : Operand) (op₀ : Op) (hop : ∀ {rop}, resOp P op₀ = some rop → ∃ kt el qm qk qy d, P.underlying t = some (.map kt el) ∧ rso x = some qm ∧ rso k = some qk ∧ rso y = some qy ∧ eqd P kt = some d ∧ rop = .mu d qm qk qy)
    (hex : ∀ {o : Oper} {ρ : Operand → Value}, o.op = op₀ → execOp ρ o = (do Instr.mapUpdate t (ρ x) (ρ k) (ρ y); pure .skip : Sem Next)) : Sound P op₀ := by
  intro ι h h' w tm a v rop o r ht ho hres hv
  obtain ⟨kt, el, qm, qk, qy, d, hu, hqm, hqk, hqy, hd, rfl⟩ := hop hres
  simp only [aop] at hv
  have em := rso_VR ht hqm
  have ek := rso_VR ht hqk
  have ey := rso_VR ht hqy
  obtain ⟨kd, hkd, h8⟩ := eqd_underlying hd
  split at hv
  · rename_i b hm hfits
    rw [Bool.and_eq_true] at hfits
    obtain ⟨hfit, hkv⟩ := hfits
    have hck : ∀ b, (Instr.checkKey b 10000 kt (a.eval k)).run P w = .ok () w := fun b => checkKey_run b w 8 kt d h8 10000 (by omega) ek hfit
    rw [hm] at em
    obtain ⟨p, hp, hpe⟩ := em.mapv
    split at hv
    · rename_i es clock hg
      obtain ⟨m, hx, hER⟩ := r.blocks b p _ hp hg
      split at hv
      · rename_i q hf
        split at hv
        · rename_i es' hs
          cases hv
          obtain ⟨i, ent, h1, h2, h3, h4, h5⟩ := findKey_run r hd hkd ek hER hf
          obtain ⟨hE, ent', h6, h7⟩ := setE_ER r ek hER h2 hs (fun e => { e with key := a.eval k, val := a.eval y }) (fun _ => rfl) (fun _ => rfl) (fun _ _ _ => ey)
          have hst := run_keyStays (P := P) hkv h7 ek w
          have := map_update r hp (es' := es') (clock' := clock) hg (m' := m.modify i fun e => { e with key := a.eval k, val := a.eval y }) (by rw [toList_modify]; exact hE)
          refine ⟨undef, _, .inr ⟨?_, rfl⟩, ι, VR.undef ι, this.1, this.2⟩
          have hgi : ((m[i]?).map (·.key)).getD (a.eval k) = ent'.key := by
            have : m[i]? = some ent' := by simpa using h6
            rw [this]; rfl
          rw [hex ho]
          simp only [Instr.mapUpdate, hpe, Sem.run_bind, run_underlying hu, Result.andThen_ok, run_getObj_map hx, hck, h5, hgi, hst, run_setObj_map hx, Sem.run_pure]
        · cases hv
      · rename_i hf
        cases hv
        have h5 := findKey_run r hd hkd ek hER hf
        simp only [] at h5
        have := map_update r hp (es' := es ++ [(ro tm qk, ro tm qy, clock)]) (clock' := clock + 1) hg (m' := m.push { key := a.eval k, val := a.eval y, born := clock }) (by
          rw [Array.toList_push]; exact hER.append (ER.mk ek ey rfl rfl))
        refine ⟨undef, _, .inr ⟨?_, rfl⟩, ι, VR.undef ι, this.1, this.2⟩
        rw [hex ho]
        simp only [Instr.mapUpdate, hpe, Sem.run_bind, run_underlying hu, Result.andThen_ok, run_getObj_map hx, hck, h5, run_setObj_map hx, Sem.run_pure]
      · cases hv
    · cases hv
  · cases hv

theorem sound_mapUpdate (t : TypeId) (x k y : Operand) : Sound P (.mapUpdate t x k y) := by
  refine sound_mapUpdate' t x k y _ ?_ ?_
  · intro rop hres
    simp only [resOp] at hres
    split at hres
    · rename_i kt el qm qk qy hu hqm hqk hqy
      split at hres
      · rename_i d hd; cases hres; exact ⟨kt, el, qm, qk, qy, d, hu, hqm, hqk, hqy, hd, rfl⟩
      · cases hres
    · cases hres
  · intro o ρ ho; simp only [execOp, ho]
theorem sound_insert (t : TypeId) (x k y : Operand) : Sound P (.insert t x k y) := by
  refine sound_mapUpdate' t x k y _ ?_ ?_
  · intro rop hres
    simp only [resOp] at hres
    split at hres
    · rename_i kt el qm qk qy hu hqm hqk hqy
      split at hres
      · rename_i d hd; cases hres; exact ⟨kt, el, qm, qk, qy, d, hu, hqm, hqk, hqy, hd, rfl⟩
      · cases hres
    · cases hres
  · intro o ρ ho; simp only [execOp, ho]

theorem sound_mapEntry (t : TypeId) (x k : Operand) : Sound P (.mapEntry t x k) := by
  intro ι h h' w tm a v rop o r ht ho hres hv
  simp only [resOp] at hres
  split at hres
  · rename_i kt el qm qk hu hqm hqk
    split at hres
    · rename_i d z hd hz
      cases hres
      simp only [aop] at hv
      have em := rso_VR ht hqm
      have ek := rso_VR ht hqk
      obtain ⟨kd, hkd, h8⟩ := eqd_underlying hd
      obtain ⟨zv, hzr, hzvr⟩ := zeroV_spec hz
      split at hv
      · rename_i b hm hfits
        rw [Bool.and_eq_true] at hfits
        obtain ⟨hfit, hkv⟩ := hfits
        have hck : ∀ b, (Instr.checkKey b 10000 kt (a.eval k)).run P w = .ok () w := fun b => checkKey_run b w 8 kt d h8 10000 (by omega) ek hfit
        rw [hm] at em
        obtain ⟨p, hp, hpe⟩ := em.mapv
        split at hv
        · rename_i es clock hg
          obtain ⟨m, hx, hER⟩ := r.blocks b p _ hp hg
          split at hv
          · rename_i y n hf
            split at hv
            · rename_i es' hs
              cases hv
              obtain ⟨i, ent, h1, h2, h3, h4, h5⟩ := findKey_run r hd hkd ek hER hf
              obtain ⟨hE, ent', h6, h7⟩ := setE_ER r ek hER h2 hs (fun e => { e with key := a.eval k }) (fun _ => rfl) (fun _ => rfl) (fun _ _ h => h)
              have hst := run_keyStays (P := P) hkv h7 ek w
              have := map_update r hp (es' := es') (clock' := clock) hg (m' := m.modify i fun e => { e with key := a.eval k }) (by rw [toList_modify]; exact hE)
              have hm1 : m[i]? = some ent := by simpa using h1
              have hgi : ((m[i]?).map (·.key)).getD (a.eval k) = ent'.key := by
                have : m[i]? = some ent' := by simpa using h6
                rw [this]; rfl
              have hgb : ((m[i]?).map (fun x => (x.born : Int))).getD 0 = n := by rw [hm1]; simp [h4]
              refine .of (v' := .tuple #[ent.val, goInt n]) ?_ ⟨ι, ?_, this.1, this.2⟩
              · simp only [execOp, ho, Instr.mapEntry, hpe, Sem.run_bind, run_underlying hu, Result.andThen_ok, run_getObj_map hx, hck, h5, hgi, hgb, hst, run_setObj_map hx, Sem.run_pure]
              · simp only [VR]
                exact ⟨_, rfl, VRs.mk h3 (VRs.mk (by simp only [VR]; rfl) (VRs.nil.2 rfl))⟩
            · cases hv
          · rename_i hf
            cases hv
            have h5 := findKey_run r hd hkd ek hER hf
            simp only [] at h5
            have := map_update r hp (es' := es ++ [(ro tm qk, z, clock)]) (clock' := clock + 1) hg (m' := m.push { key := a.eval k, val := zv, born := clock }) (by
              rw [Array.toList_push]; exact hER.append (ER.mk ek (hzvr ι) rfl rfl))
            refine .of (v' := .tuple #[zv, goInt clock]) ?_ ⟨ι, ?_, this.1, this.2⟩
            · simp only [execOp, ho, Instr.mapEntry, hpe, Sem.run_bind, run_underlying hu, Result.andThen_ok, run_getObj_map hx, hck, h5, hzr, run_setObj_map hx, Sem.run_pure]
            · simp only [VR]
              exact ⟨_, rfl, VRs.mk (hzvr ι) (VRs.mk (by simp only [VR]; rfl) (VRs.nil.2 rfl))⟩
          · cases hv
        · cases hv
      · cases hv
    · cases hres
  · cases hres

theorem setB_ER {n : Nat} {y : AV} {y' : Value} (hy : VR ι y y') : ∀ {es es' : List (AV × AV × Nat)} {m : List MapEntry}, ER ι es m → setB n y es = some es' →
    ∃ i, m.findIdx? (fun e => (e.born : Int) == (n : Int)) = some i ∧ ER ι es' (m.modify i fun e => { e with val := y' })
  | [], _, _, _, hs => by simp [setB] at hs
  | (k1, v1, n1) :: es, es', m, hm, hs => by
    obtain ⟨ent, m', rfl, hk1, hv1, hn1, hm'⟩ := hm.cons
    simp only [setB] at hs
    split at hs
    · rename_i hb
      cases hs
      have := Nat.eq_of_beq_eq_true hb
      refine ⟨0, ?_, ?_⟩
      · simp [List.findIdx?_cons, hn1, this]
      · simp only [List.modify_zero_cons]
        exact ER.mk hk1 hy hn1 hm'
    · rename_i hb
      split at hs
      · rename_i m1 hs1
        cases hs
        obtain ⟨i, h1, h2⟩ := setB_ER hy hm' hs1
        have hne : n1 ≠ n := by intro e; subst e; rw [Nat.beq_refl] at hb; cases hb
        refine ⟨i + 1, ?_, ?_⟩
        · have : ¬ ((n1 : Int) = (n : Int)) := by omega
          simp [List.findIdx?_cons, hn1, this, h1]
        · simp only [List.modify_succ_cons]
          exact ER.mk hk1 hv1 hn1 h2
      · cases hs

theorem sound_entryStore (t : TypeId) (x s y : Operand) : Sound P (.entryStore t x s y) := by
  intro ι h h' w tm a v rop o r ht ho hres hv
  simp only [resOp] at hres
  split at hres
  · rename_i qm qs qy hqm hqs hqy
    cases hres
    simp only [aop] at hv
    have em := rso_VR ht hqm
    have es := rso_VR ht hqs
    have ey := rso_VR ht hqy
    split at hv
    · rename_i b n hm hn
      obtain ⟨k, hk⟩ := asNat_spec hn
      rw [hm] at em
      rw [hk] at es
      obtain ⟨p, hp, hpe⟩ := em.mapv
      split at hv
      · rename_i ents clock hg
        obtain ⟨m, hx, hER⟩ := r.blocks b p _ hp hg
        split at hv
        · rename_i es' hs
          cases hv
          obtain ⟨i, h1, h2⟩ := setB_ER ey hER hs
          have := map_update r hp (es' := es') (clock' := clock) hg (m' := m.modify i fun e => { e with val := a.eval y }) (by rw [toList_modify]; exact h2)
          refine ⟨undef, _, .inr ⟨?_, rfl⟩, ι, VR.undef ι, this.1, this.2⟩
          have hfi : m.findIdx? (fun e => (e.born : Int) == (n : Int)) = some i := by
            rw [← h1]; cases m; simp
          simp only [execOp, ho, Instr.entryStore, hpe, es.int, asInt, asIntOf, Sem.run_bind, Sem.run_pure, Result.andThen_ok, run_getObj_map hx, hfi, run_setObj_map hx]
        · cases hv
      · cases hv
    · cases hv
  · cases hres
end
end Go.Ev

noncomputable section
namespace Go.Ev
open Go
section
variable {P : Program} {ι : Inj} {h h' : Heap} {w : World} {tm : Env} {a : Act} {v : AV}

/-! ### append -/
theorem append_in (ts : Array TypeId) {t u e : TypeId} {i : TypeInfo} (h0 : ts[0]? = some t) (h1 : ts[1]? = some u) (hu : P.underlying t = some (.slice e)) (huu : (∃ e', P.underlying u = some (.slice e')) ∨ P.underlying u = some .string)
    (hi : P.info? e = some i) (ty : TypeId) (base : Option Addr) {len cap n : Nat} {x : Value} (hn : (Builtin.lenOf x).run P w = .ok n w) (hle : len + n ≤ cap)
    {new : Array Value} (hnew : (Builtin.firstCells i.size n x).run P w = .ok new w) {w' : World} (hst : ∀ a, base = some a → (storeCells (a.add (len * i.size)) new.toList).run P w = .ok () w') (hb0 : base = none → w' = w) :
    (Builtin.append_ ts ty #[.slice base len cap, x]).run P w = .ok (.slice base (len + n) cap) w' := by
  cases base with
  | none =>
    have := hb0 rfl
    subst this
    rcases huu with ⟨e', huu⟩ | huu <;> simp [Builtin.append_, h0, h1, run_underlying hu, run_underlying huu, run_sizeOf hi, hn, hle, hnew]
  | some b =>
    have := hst b rfl
    rcases huu with ⟨e', huu⟩ | huu <;> simp [Builtin.append_, h0, h1, run_underlying hu, run_underlying huu, run_sizeOf hi, hn, hle, hnew, this]

theorem append_new (ts : Array TypeId) {t u e : TypeId} {i : TypeInfo} {zv : Value} (h0 : ts[0]? = some t) (h1 : ts[1]? = some u) (hu : P.underlying t = some (.slice e)) (huu : (∃ e', P.underlying u = some (.slice e')) ∨ P.underlying u = some .string)
    (hi : P.info? e = some i) (hz : i.zero = some zv) (ty : TypeId) (base : Option Addr) {len cap n : Nat} {x : Value} (hn : (Builtin.lenOf x).run P w = .ok n w) (hle : ¬ len + n ≤ cap)
    (h48 : (len + n) * i.bytes ≤ 1099511627776) (h63 : len + n ≤ 1099511627776) {old new : Array Value} (hold : (Builtin.firstCells i.size len (.slice base len cap)).run P w.drew = .ok old w.drew)
    (hnew : (Builtin.firstCells i.size n x).run P w.drew = .ok new w.drew) :
    (Builtin.append_ ts ty #[.slice base len cap, x]).run P w = .ok (.slice (some ⟨w.heap.size, 0, none⟩) (len + n) (grownCap w (len + n) cap e))
      (w.drew.alloc (.cells (old ++ (new ++ Builtin.zeroCells zv.cells (grownCap w (len + n) cap e - (len + n)))) e)) := by
  have h63' : ¬ (9223372036854775807 < ((len : Int) + (n : Int))) := by omega
  have h48' : ¬ (281474976710656 < Builtin.nextslicecap (len + n) cap * i.bytes) := by
    have h2 := nextslicecap_le (need := len + n) (old := cap) (by omega)
    have h3 := Nat.mul_le_mul_right i.bytes h2
    have h4 : 2 * (len + n) * i.bytes = 2 * ((len + n) * i.bytes) := Nat.mul_assoc _ _ _
    omega
  rcases huu with ⟨e', huu⟩ | huu <;>
    simp [Builtin.append_, h0, h1, run_underlying hu, run_underlying huu, run_sizeOf hi, hn, hle, typeInfo, zeroValue, hi, hz, h63', h48', Question.forced, hold, hnew, newRow, grownCap]

/-- append of zeros: 'append(s, make([]T, n)...)' -/
theorem appendZ_in (ts : Array TypeId) {t u e : TypeId} {i : TypeInfo} {k : IntKind} (h0 : ts[0]? = some t) (h1 : ts[1]? = some u) (hu : P.underlying t = some (.slice e)) (huu : P.underlying u = some (.int k))
    (hi : P.info? e = some i) (ty : TypeId) (base : Option Addr) {len cap n : Nat} {kx : IntKind} {zv : Value} (hz : i.zero = some zv) (hle : len + n ≤ cap) (hnb : n * i.bytes ≤ 1099511627776) (hn63 : n ≤ 1099511627776)
    {w' : World} (hst : ∀ a, base = some a → (storeCells (a.add (len * i.size)) (if n * i.size = 0 then #[] else Builtin.zeroCells zv.cells n).toList).run P w = .ok () w') (hb0 : base = none → w' = w) :
    (Builtin.append_ ts ty #[.slice base len cap, .int kx (n : Int)]).run P w = .ok (.slice base (len + n) cap) w' := by
  have hw : IntKind.i64.wrap (n : Int) = n := IntWalk.i64_in _ (by omega)
  have h1' : ¬ ((n : Int) < 0) := by omega
  have h2' : ¬ (281474976710656 < (n : Int) * (i.bytes : Int)) := by
    have : (n : Int) * (i.bytes : Int) = ((n * i.bytes : Nat) : Int) := by simp
    rw [this]; omega
  by_cases hzero : n * i.size = 0
  · simp only [hzero, if_true] at hst
    cases base with
    | none => have := hb0 rfl; subst this; simp [Builtin.append_, h0, h1, run_underlying hu, run_underlying huu, run_sizeOf hi, asInt, asIntOf, hw, h1', h2', typeInfo, hi, hle, hzero]
    | some b => have := hst b rfl; simp [Builtin.append_, h0, h1, run_underlying hu, run_underlying huu, run_sizeOf hi, asInt, asIntOf, hw, h1', h2', typeInfo, hi, hle, hzero]; rw [show (storeCells (b.add (len * i.size)) []).run P w = .ok () w' by simpa using this]; rfl
  · simp only [hzero, if_false] at hst
    cases base with
    | none => have := hb0 rfl; subst this; simp [Builtin.append_, h0, h1, run_underlying hu, run_underlying huu, run_sizeOf hi, asInt, asIntOf, hw, h1', h2', typeInfo, hi, hle, run_zeroValue hi hz]
    | some b => have := hst b rfl; simp [Builtin.append_, h0, h1, run_underlying hu, run_underlying huu, run_sizeOf hi, asInt, asIntOf, hw, h1', h2', typeInfo, hi, hle, hzero, run_zeroValue hi hz, this]

theorem appendZ_new (ts : Array TypeId) {t u e : TypeId} {i : TypeInfo} {k : IntKind} (h0 : ts[0]? = some t) (h1 : ts[1]? = some u) (hu : P.underlying t = some (.slice e)) (huu : P.underlying u = some (.int k))
    (hi : P.info? e = some i) (ty : TypeId) (base : Option Addr) {len cap n : Nat} {kx : IntKind} {zv : Value} (hz : i.zero = some zv) (hle : ¬ len + n ≤ cap) (hnb : n * i.bytes ≤ 1099511627776) (hn63 : n ≤ 1099511627776)
    (h48 : (len + n) * i.bytes ≤ 1099511627776) (h63 : len + n ≤ 1099511627776) {old : Array Value} (hold : (Builtin.firstCells i.size len (.slice base len cap)).run P w.drew = .ok old w.drew) :
    (Builtin.append_ ts ty #[.slice base len cap, .int kx (n : Int)]).run P w = .ok (.slice (some ⟨w.heap.size, 0, none⟩) (len + n) (grownCap w (len + n) cap e))
      (w.drew.alloc (.cells (old ++ ((if n * i.size = 0 then #[] else Builtin.zeroCells zv.cells n) ++ Builtin.zeroCells zv.cells (grownCap w (len + n) cap e - (len + n)))) e)) := by
  have hw : IntKind.i64.wrap (n : Int) = n := IntWalk.i64_in _ (by omega)
  have h1' : ¬ ((n : Int) < 0) := by omega
  have h2' : ¬ (281474976710656 < (n : Int) * (i.bytes : Int)) := by
    have : (n : Int) * (i.bytes : Int) = ((n * i.bytes : Nat) : Int) := by simp
    rw [this]; omega
  have h63' : ¬ (9223372036854775807 < ((len : Int) + (n : Int))) := by omega
  have h48' : ¬ (281474976710656 < Builtin.nextslicecap (len + n) cap * i.bytes) := by
    have h2 := nextslicecap_le (need := len + n) (old := cap) (by omega)
    have h3 := Nat.mul_le_mul_right i.bytes h2
    have h4 : 2 * (len + n) * i.bytes = 2 * ((len + n) * i.bytes) := Nat.mul_assoc _ _ _
    omega
  by_cases hzero : n * i.size = 0
  · simp only [hzero, if_true]
    simp [Builtin.append_, h0, h1, run_underlying hu, run_underlying huu, run_sizeOf hi, asInt, asIntOf, hw, h1', h2', typeInfo, hi, hle, hzero, h63', h48', Question.forced, hold, run_zeroValue hi hz, newRow, grownCap]
  · simp only [hzero, if_false]
    simp [Builtin.append_, h0, h1, run_underlying hu, run_underlying huu, run_sizeOf hi, asInt, asIntOf, hw, h1', h2', typeInfo, hi, hle, hzero, h63', h48', Question.forced, hold, run_zeroValue hi hz, newRow, grownCap]

/-- An old block goes; a new one stands in its place. -/
theorem Rel.move (r : Rel P ι h w) {b : Nat} {p : Pl} {ab ab₀ : AB} {w' : World} (hb : ι b = some p) (hold : h.get b = some ab₀) (hlive : ab₀ ≠ .dead)
    (hs : w'.heap.size = w.heap.size) (hsame : ∀ c, c ≠ p.blk → w'.heap[c]? = w.heap[c]?) (hnew : ∀ ι', Le ι ι' → BR P ι' p ab w'.heap[p.blk]?) (ha : Aside w w') :
    Rel P (ι.add h.next p) ((h.set b .dead).push ab) w' ∧ Ext ι h w (ι.add h.next p) ((h.set b .dead).push ab) w' := by
  have hnn := r.next_none
  have hblt := r.dom b p hb
  constructor
  · exact {
      glob := r.glob.step (fun c q hc => by
        unfold Inj.add at hc
        split at hc
        · cases hc; exact .inr (.inr ⟨b, _, hb, rfl⟩)
        · exact .inl hc) (by rw [hs]; exact Nat.le_refl _) (fun c _ hn => hsame c (fun e => hn b p hb e.symm))
      size := by
        intro c q hc
        unfold Inj.add at hc
        rw [hs]
        split at hc
        · cases hc; exact r.size b _ hb
        · exact r.size c q hc
      dom := by
        intro c q hc
        unfold Inj.add at hc
        simp only [Heap.next_push, Heap.next_set]
        split at hc
        · omega
        · have := r.dom c q hc; omega
      blocks := by
        intro c q ab' hc hg
        rw [Heap.get_push, Heap.get_set, Heap.next_set] at hg
        unfold Inj.add at hc
        split at hc
        · rename_i e; subst e; cases hc
          rw [if_pos rfl] at hg; cases hg
          exact hnew _ (Inj.le_add hnn)
        · rename_i e
          rw [if_neg e] at hg
          split at hg
          · cases hg; trivial
          · rename_i e2
            by_cases hq : q.blk = p.blk
            · rcases r.inj c b q p hc hb hq e2 _ _ hg hold with hd | hd
              · subst hd; trivial
              · exact absurd hd hlive
            · rw [hsame _ hq]; exact (r.blocks c q ab' hc hg).mono (Inj.le_add hnn)
      inj := by
        intro c d q s hc hd hqs hne x y hx hy
        rw [Heap.get_push, Heap.get_set, Heap.next_set] at hx hy
        unfold Inj.add at hc hd
        split at hc
        · rename_i e; subst e; cases hc
          split at hd
          · rename_i e2; exact absurd e2.symm hne
          · rename_i e2
            right
            rw [if_neg e2] at hy
            by_cases e3 : d = b
            · rw [if_pos e3] at hy; cases hy; rfl
            · rw [if_neg e3] at hy
              rcases r.inj d b s p hd hb hqs.symm e3 _ _ hy hold with h1 | h1
              · exact h1
              · exact absurd h1 hlive
        · rename_i e
          rw [if_neg e] at hx
          split at hd
          · rename_i e2; subst e2; cases hd
            left
            by_cases e3 : c = b
            · rw [if_pos e3] at hx; cases hx; rfl
            · rw [if_neg e3] at hx
              rcases r.inj c b q p hc hb hqs e3 _ _ hx hold with h1 | h1
              · exact h1
              · exact absurd h1 hlive
          · rename_i e2
            rw [if_neg e2] at hy
            by_cases e3 : c = b
            · left; rw [if_pos e3] at hx; cases hx; rfl
            · rw [if_neg e3] at hx
              by_cases e4 : d = b
              · right; rw [if_pos e4] at hy; cases hy; rfl
              · rw [if_neg e4] at hy; exact r.inj c d q s hc hd hqs hne _ _ hx hy
      wf := by
        intro c hc
        rw [Heap.next_push, Heap.next_set] at hc
        have := r.dom b p hb
        rw [Heap.get_push, Heap.next_set, if_neg (by omega), Heap.get_set, if_neg (by omega)]
        exact r.wf c (by omega) }
  · exact {
      le := Inj.le_add hnn
      fresh := by
        intro c q hc hn
        unfold Inj.add at hc
        split at hc
        · rename_i e; subst e; cases hc; exact ⟨Nat.le_refl _, .inr ⟨b, _, hb, rfl⟩⟩
        · rw [hn] at hc; cases hc
      size := by rw [hs]; exact Nat.le_refl _
      next := by simp
      same := fun c _ hn => hsame c (fun e => hn b p hb e.symm)
      habs := by
        intro c hc hn
        rw [Heap.get_push, Heap.get_set, Heap.next_set, if_neg (by omega), if_neg]
        intro e; subst e; rw [hb] at hn; cases hn
      aside := ha }

theorem Rel.bury (r : Rel P ι h w) {b : Nat} (hb : b < h.next) : Rel P ι (h.set b .dead) w where
  glob := r.glob
  size := r.size
  dom := r.dom
  blocks := by
    intro c q ab hc hg
    rw [Heap.get_set] at hg
    split at hg
    · cases hg; trivial
    · exact r.blocks c q ab hc hg
  inj := by
    intro c d q s hc hd hqs hne x y hx hy
    rw [Heap.get_set] at hx hy
    by_cases e1 : c = b
    · left; rw [if_pos e1] at hx; cases hx; rfl
    · rw [if_neg e1] at hx
      by_cases e2 : d = b
      · right; rw [if_pos e2] at hy; cases hy; rfl
      · rw [if_neg e2] at hy; exact r.inj c d q s hc hd hqs hne _ _ hx hy
  wf := by
    intro c hc
    rw [Heap.next_set] at hc
    rw [Heap.get_set, if_neg (by omega)]
    exact r.wf c hc
theorem Ext.bury {b : Nat} {p : Pl} (hb : ι b = some p) : Ext ι h w ι (h.set b .dead) w where
  le := .refl ι
  fresh := fun c q hc hn => by rw [hn] at hc; cases hc
  size := Nat.le_refl _
  next := Nat.le_refl _
  same := fun _ _ _ => rfl
  habs := by
    intro c _ hn
    rw [Heap.get_set, if_neg]
    intro e; subst e; rw [hb] at hn; cases hn
  aside := .refl w

theorem zeroCells_size (zc : Array Value) (n : Nat) : (Builtin.zeroCells zc n).size = n * zc.size := by simp [Builtin.zeroCells]

/-- A grown row: the elements, and room. -/
theorem Good.grown (r : Rel P ι h w) {cs : List AV} {m : List Value} (hv : VRs ι cs m) (elem : TypeId) {zc : Array Value} {n c sz : Nat} (hsz : zc.size = sz) (hn : cs.length = n * sz) (hc : n ≤ c) (c' : Array Value)
    (hc' : c'.toList = m ++ (Builtin.zeroCells zc (c - n)).toList) :
    ∃ ι', VR ι' (.gslice h.next 0 n sz) (.slice (some ⟨w.heap.size, 0, none⟩) n c) ∧ Rel P ι' (h.push (.cells cs true)) (w.drew.alloc (.cells c' elem)) ∧ Ext ι h w ι' (h.push (.cells cs true)) (w.drew.alloc (.cells c' elem)) := by
  have hml := hv.length
  have hsize : c'.size = c * sz := by
    have := congrArg List.length hc'
    simp only [Array.length_toList, List.length_append, zeroCells_size, hsz] at this
    rw [this, hml, hn, ← Nat.add_mul]
    congr 1
    omega
  have hcs : cs.length ≤ c'.size := by rw [hsize, hn]; exact Nat.mul_le_mul_right _ hc
  have hal := r.drew.alloc (n := c'.size) (ab := .cells cs true) (o := .cells c' elem) (fun ι' hl =>
    ⟨c', elem, 0, 0, rfl, rfl, by
      rw [hc', ← hml, List.take_append_of_le_length (Nat.le_refl _), List.take_length]
      exact hv.mono hl, hcs, (fun h => by cases h), .inl (Nat.le_refl _)⟩)
  refine ⟨_, ?_, hal.1, (Ext.drew ι h w).trans hal.2⟩
  simp only [VR]
  exact ⟨_, 0, c, Inj.add_same _ _ _, rfl, hc, by simp [hsize], .inl rfl⟩

theorem firstN_run (r : Rel P ι h w) {sz n l : Nat} {x : AV} {x' : Value} (hx : VR ι x x') (hl : lenA x = some l) (hnl : n ≤ l) {cs : List AV} (hf : firstN h sz n x = some cs) :
    ∃ m, (Builtin.firstCells sz n x').run P w = .ok m.toArray w ∧ VRs ι cs m := by
  have rd : ∀ {b o o' : Nat} {p : Pl}, ι b = some p → (n = 0 ∨ o' = o) → (match Nat.beq n 0 with | true => some [] | false => readCells h b o (n * sz) : Option (List AV)) = some cs →
      ∃ m, (loadCells ⟨p.blk, o', none⟩ (n * sz)).run P w = .ok m.toArray w ∧ VRs ι cs m := by
    intro b o o' p hp hoo hc
    split at hc
    · rename_i h0
      have := Nat.eq_of_beq_eq_true h0
      subst this
      cases hc
      exact ⟨[], by rw [Nat.zero_mul]; rfl, VRs.nil.2 rfl⟩
    · rename_i h0
      have : o' = o := by
        rcases hoo with h5 | h5
        · subst h5; simp at h0
        · exact h5
      subst this
      exact readCells_run r hp hc
  unfold firstN at hf
  split at hf
  · split at hf
    · cases hf
      simp only [VR] at hx; subst hx
      exact ⟨[], rfl, VRs.nil.2 rfl⟩
    · cases hf
  · simp only [VR] at hx
    obtain ⟨p, o', hp, rfl, hlc, hoo⟩ := hx
    simp only [Builtin.firstCells]
    simp only [lenA] at hl; cases hl
    exact rd hp (by rcases hoo with h5 | h5 <;> omega) hf
  · simp only [VR] at hx
    obtain ⟨p, o', c, hp, rfl, hlc, hon, hoo⟩ := hx
    simp only [Builtin.firstCells]
    simp only [lenA] at hl; cases hl
    exact rd hp (by rcases hoo with h5 | h5 <;> omega) hf
  · rename_i s
    split at hf
    · rename_i m hm
      cases hf
      obtain ⟨bs, rfl, hbl⟩ := hx.str
      obtain ⟨e1, hle⟩ := takeN_spec hm
      refine ⟨m.map (fun (x : Nat) => Value.int .u8 (x : Int)), ?_, VRs.mkInts m⟩
      simp only [Builtin.firstCells, Sem.run_pure]
      congr 1
      apply Array.ext'
      rw [e1, ← hbl]
      simp [ByteArray.data_extract, List.extract_eq_take_drop, List.map_take]
      rfl
    · cases hf
  · cases hf

theorem lenOf_run {x : AV} {x' : Value} (hx : VR ι x x') {n : Nat} (hl : lenA x = some n) (w : World) : (Builtin.lenOf x').run P w = .ok n w := by
  unfold lenA at hl
  split at hl
  · cases hl; simp only [VR] at hx; subst hx; rfl
  · cases hl; simp only [VR] at hx; obtain ⟨_, _, _, rfl, _⟩ := hx; rfl
  · cases hl; simp only [VR] at hx; obtain ⟨_, _, _, _, rfl, _⟩ := hx; rfl
  · cases hl
    obtain ⟨bs, rfl, hbl⟩ := hx.str
    have : bs.size = bs.data.toList.length := by simp
    rw [← hbl]; simp [Builtin.lenOf]
  · cases hl

/-- What 'append' comes to, out of the two ways that it can go. -/
theorem appA_sound (r : Rel P ι h w) {s : AV} {s' : Value} (hs : VR ι s s') {sz bytes n : Nat} {newA : List AV} {new new' : List Value} (hnew : VRs ι newA new) (hnew' : VRs ι newA new') (hlen : newA.length = n * sz) {elem : TypeId} {zc : Array Value} (hzc : zc.size = sz)
    (hA : appA h sz bytes s n newA = some (v, h')) {R : Result Value}
    (hin : ∀ base len cap, s' = .slice base len cap → len + n ≤ cap → ∀ w', (∀ a, base = some a → (storeCells (a.add (len * sz)) new).run P w = .ok () w') → (base = none → w' = w) → R = .ok (.slice base (len + n) cap) w')
    (hout : ∀ base len cap old, s' = .slice base len cap → ¬ len + n ≤ cap → (len + n) * bytes ≤ 1099511627776 → len + n ≤ 1099511627776 → (Builtin.firstCells sz len (.slice base len cap)).run P w.drew = .ok old w.drew →
      R = .ok (.slice (some ⟨w.heap.size, 0, none⟩) (len + n) (grownCap w (len + n) cap elem)) (w.drew.alloc (.cells (old ++ (new'.toArray ++ Builtin.zeroCells zc (grownCap w (len + n) cap elem - (len + n)))) elem))) :
    ∃ v' w', R = .ok v' w' ∧ Good P ι h w v h' v' w' := by
  unfold appA at hA
  split at hA
  · -- nil
    simp only [VR] at hs; subst hs
    split at hA
    · rename_i h0
      have := Nat.eq_of_beq_eq_true h0
      subst this
      cases hA
      refine ⟨_, _, hin none 0 0 rfl (Nat.le_refl _) w (fun a ha => by cases ha) (fun _ => rfl), .here r ?_⟩
      simp only [VR]
    · rename_i h0
      have hn0 : n ≠ 0 := by intro e; subst e; simp at h0
      split at hA
      · rename_i hb
        cases hA
        rw [Bool.and_eq_true, Nat.ble_eq, Nat.ble_eq] at hb
        have hR := hout none 0 0 #[] rfl (by omega) (by rw [Nat.zero_add]; exact hb.1) (by omega) rfl
        simp only [Nat.zero_add] at hR
        rw [hR]
        refine ⟨_, _, rfl, ?_⟩
        have hg := grownCap_ge w n 0 elem
        exact Good.grown r hnew' elem hzc hlen hg (#[] ++ (new'.toArray ++ Builtin.zeroCells zc (grownCap w n 0 elem - n))) (by simp)
      · cases hA
  · -- exact
    rename_i b o len cap
    have hs0 := hs
    simp only [VR] at hs
    obtain ⟨p, o', hp, rfl, hlc, hoo⟩ := hs
    split at hA
    · rename_i hle
      rw [Nat.ble_eq] at hle
      split at hA
      · rename_i h0
        have := Nat.eq_of_beq_eq_true h0
        subst this
        cases hA
        have : new = [] := by
          have := hnew.length
          rw [hlen, Nat.zero_mul] at this
          exact List.eq_nil_of_length_eq_zero this
        subst this
        exact ⟨_, _, hin _ len cap rfl hle w (fun a _ => rfl) (fun e => by cases e), .here r hs0⟩
      · rename_i h0
        have hn0 : n ≠ 0 := by intro e; subst e; simp at h0
        split at hA
        · rename_i h1 hw
          cases hA
          have : o' = o := by rcases hoo with h5 | h5 <;> omega
          subst this
          obtain ⟨w', e1, e2, e3⟩ := write_sound r hp hw hnew
          refine ⟨_, _, hin _ len cap rfl hle w' (fun a ha => by cases ha; rw [Addr.add_plain]; exact e1) (fun e => by cases e), ι, ?_, e2, e3⟩
          simp only [VR]
          exact ⟨p, o', hp, rfl, hle, .inl rfl⟩
        · cases hA
    · rename_i hle
      have hle' : ¬ len + n ≤ cap := by intro e; rw [← Nat.ble_eq] at e; rw [e] at hle; cases hle
      split at hA
      · rename_i old hb ho
        cases hA
        rw [Bool.and_eq_true, Nat.ble_eq, Nat.ble_eq] at hb
        obtain ⟨m, e1, e2⟩ := firstN_run r.drew hs0 (l := len) rfl (Nat.le_refl _) ho
        have hR := hout _ len cap m.toArray rfl hle' hb.1 hb.2 e1
        rw [hR]
        refine ⟨_, _, rfl, ?_⟩
        have hg := grownCap_ge w (len + n) cap elem
        have hol : old.length = len * sz := by
          unfold firstN at ho
          simp only [] at ho
          split at ho
          · rename_i h0
            have := Nat.eq_of_beq_eq_true h0
            subst this; cases ho; simp
          · unfold readCells at ho
            split at ho
            · obtain ⟨e3, e4⟩ := sub_spec ho
              rw [e3]; simp; omega
            · cases ho
        exact Good.grown r (e2.append hnew') elem hzc (by rw [List.length_append, hol, hlen, ← Nat.add_mul]) hg _ (by simp)
      · cases hA
  · -- grown
    rename_i b o len sz'
    have hs0 := hs
    simp only [VR] at hs
    obtain ⟨p, o', c, hp, rfl, hlc, hon, hoo⟩ := hs
    split at hA
    · cases hA
    · rename_i hszs
      rw [Bool.and_eq_true, Nat.blt_eq] at hszs
      have := Nat.eq_of_beq_eq_true hszs.1
      subst this
      have hpos := hszs.2
      split at hA
      · rename_i h0
        have := Nat.eq_of_beq_eq_true h0
        subst this
        cases hA
        have : new = [] := by
          have := hnew.length
          rw [hlen, Nat.zero_mul] at this
          exact List.eq_nil_of_length_eq_zero this
        subst this
        exact ⟨_, _, hin _ len c rfl hlc w (fun a _ => rfl) (fun e => by cases e), .here r hs0⟩
      · rename_i h0
        have hn0 : n ≠ 0 := by intro e; subst e; simp at h0
        split at hA
        · rename_i cs hg
          obtain ⟨cc, e, lo, hi, hx, hcn, hcv, hcl, _, hcf⟩ := r.blocks b p _ hp hg
          split at hA
          · rename_i hin'
            rw [Nat.ble_eq] at hin'
            have hlen' : len + n ≤ c := by
              have : (len + n) * sz ≤ c * sz := by omega
              exact Nat.le_of_mul_le_mul_right this hpos
            have : o' = o := by rcases hoo with h5 | h5 <;> omega
            subst this
            split at hA
            · rename_i h1 hw
              cases hA
              obtain ⟨w', e1, e2, e3⟩ := write_sound r hp hw hnew
              refine ⟨_, _, hin _ len c rfl hlen' w' (fun a ha => by cases ha; rw [Addr.add_plain]; exact e1) (fun e => by cases e), ι, ?_, e2, e3⟩
              simp only [VR]
              exact ⟨p, o', c, hp, rfl, hlen', hon, .inl rfl⟩
            · cases hA
          · split at hA
            · rename_i old hb ho
              cases hA
              simp only [Bool.and_eq_true, Nat.ble_eq] at hb
              obtain ⟨⟨⟨hb1, hb2⟩, hb3⟩, hb4⟩ := hb
              have := Nat.eq_of_beq_eq_true hb1
              subst this
              obtain ⟨e3, e4⟩ := takeN_spec ho
              have hold : VRs ι old ((cc.toList.take cs.length).take (len * sz)) := by rw [e3]; exact hcv.take
              rw [List.take_take, Nat.min_eq_left e4] at hold
              have hol : old.length = len * sz := by rw [e3]; simp; omega
              by_cases hfit : len + n ≤ c
              · -- in its place
                have : o' = 0 := by rcases hoo with h5 | h5 <;> omega
                subst this
                have hmul : (len + n) * sz ≤ c * sz := Nat.mul_le_mul_right _ hfit
                have hnl := hnew.length
                have hsplit : len * sz + n * sz = (len + n) * sz := by rw [Nat.add_mul]
                obtain ⟨w', c', s1, s2, s3, s4, s5, s6⟩ := run_storeCells_at (P := P) new 0 (len * sz) hx hcf (by omega) (hnew.oneCell hb4)
                have hsz' : c'.size = cc.size := by
                  have := congrArg List.length s3
                  simp at this; omega
                have hmv := r.move (ab := .cells (old ++ newA) true) hp hg (by intro e; cases e) s5 s4 (fun ι' hl => ⟨c', e, lo, hi, s2, by rw [hsz']; exact hcn, by
                  have e5 : List.take (old ++ newA).length c'.toList = cc.toList.take (len * sz) ++ new := by
                    rw [s3, List.length_append, hol, ← hnl, Nat.add_zero]
                    have e6 : (List.take (len * sz) cc.toList).length = len * sz := by simp; omega
                    rw [List.append_assoc, List.take_append, e6, List.take_of_length_le (by rw [e6]; omega)]
                    congr 1
                    rw [Nat.add_sub_cancel_left, List.take_append_of_le_length (Nat.le_refl _), List.take_length]
                  rw [e5]
                  exact (hold.append hnew).mono hl, by rw [hsz', List.length_append, hol, hlen]; omega, (fun h => by cases h), by rw [hsz']; exact hcf⟩) s6
                refine ⟨_, _, hin _ len c rfl hfit w' (fun a ha => by cases ha; rw [Addr.add_plain, Nat.zero_add]; exact s1) (fun e => by cases e), _, ?_, hmv.1, hmv.2⟩
                simp only [VR]
                exact ⟨p, 0, c, Inj.add_same _ _ _, rfl, hfit, hon, .inl rfl⟩
              · -- elsewhere
                have hfc : (Builtin.firstCells sz len (.slice (some ⟨p.blk, o', none⟩) len c)).run P w.drew = .ok ((cc.toList.take (len * sz))).toArray w.drew := by
                  simp only [Builtin.firstCells]
                  by_cases hl0 : len = 0
                  · subst hl0
                    rw [Nat.zero_mul]; rfl
                  · have : o' = 0 := by rcases hoo with h5 | h5 <;> omega
                    subst this
                    have := run_loadCells_at (P := P) (w := w.drew) hx 0 (len * sz) (by omega)
                    simpa using this
                have hR := hout _ len c _ rfl hfit hb2 hb3 hfc
                rw [hR]
                refine ⟨_, _, rfl, ?_⟩
                have hg' := grownCap_ge w (len + n) c elem
                have hbr : Rel P ι (h.set b .dead) w := r.bury (r.dom b p hp)
                obtain ⟨ι', g1, g2, g3⟩ := Good.grown hbr (hold.append hnew') elem hzc (by rw [List.length_append, hol, hlen, ← Nat.add_mul]) hg' ((cc.toList.take (len * sz)).toArray ++ (new'.toArray ++ Builtin.zeroCells zc (grownCap w (len + n) c elem - (len + n)))) (by simp)
                exact ⟨ι', g1, g2, (Ext.bury hp).trans g3⟩
            · cases hA
        · cases hA
  · cases hA
end
end Go.Ev

noncomputable section
namespace Go.Ev
open Go
section
variable {P : Program} {ι : Inj} {h h' : Heap} {w : World} {tm : Env} {a : Act} {v : AV}

/-! ### makeSlice, typeAssert -/
theorem sound_makeSlice (t : TypeId) (l c : Operand) : Sound P (.makeSlice t l c) := by
  intro ι h h' w tm a v rop o r ht ho hres hv
  simp only [resOp] at hres
  split at hres
  · rename_i e ql qc hu hql hqc
    split at hres
    · rename_i i z hi hz
      cases hres
      simp only [aop] at hv
      have el := rso_VR ht hql
      have ec := rso_VR ht hqc
      split at hv
      · rename_i n m hn hm
        obtain ⟨k1, hk1⟩ := asNat_spec hn
        obtain ⟨k2, hk2⟩ := asNat_spec hm
        rw [hk1] at el
        rw [hk2] at ec
        split at hv
        · rename_i hb
          cases hv
          simp only [Bool.and_eq_true, Nat.ble_eq, Nat.beq_eq] at hb
          obtain ⟨⟨⟨hnm, hmb⟩, hm40⟩, hzl⟩ := hb
          obtain ⟨i', zv, hi', hzv, hvr⟩ := zeroC_spec hz
          rw [hi] at hi'; cases hi'
          have hsz : zv.cells.size = i.size := by have := (hvr ι).length; simp at this; omega
          have wn : IntKind.i64.wrap (n : Int) = n := IntWalk.i64_in _ (by omega)
          have wm : IntKind.i64.wrap (m : Int) = m := IntWalk.i64_in _ (by omega)
          have hb1 : ¬ (281474976710656 < (i.bytes : Int) * (m : Int)) := by
            have : (i.bytes : Int) * (m : Int) = ((m * i.bytes : Nat) : Int) := by rw [Int.mul_comm]; simp
            rw [this]; omega
          have hneg : ¬ ((m : Int) < 0) := by omega
          have hneg2 : ¬ ((n : Int) < 0) := by omega
          have hnm' : ¬ ((m : Int) < (n : Int)) := by omega
          have hbase : VRs ι (rep z m) ((List.range (m * i.size)).map fun j => zv.cells[j % zv.cells.size]!) := by
            rw [← hsz, range_zero_cells]; exact (hvr ι).rep m
          have hrun : ∃ c' : Array Value, VRs ι (rep z m) c'.toList ∧ (Instr.makeSlice t (.int k1 (n : Int)) (.int k2 (m : Int))).run P w = .ok (.slice (some ⟨w.heap.size, 0, none⟩) n m) (w.alloc (.cells c' e)) := by
            by_cases h0 : m * i.size = 0
            · refine ⟨#[], by rw [h0] at hbase; simpa using hbase, ?_⟩
              have hz0 : (Array.map (fun _ => (default : Value)) (Array.range 0)) = #[] := by simp
              simp [Instr.makeSlice, run_underlying hu, asInt, asIntOf, typeInfo, hi, wn, wm, hb1, hneg, hneg2, hnm', sizeOf, h0, newRow, hz0]
            · refine ⟨(Array.range (m * i.size)).map (zv.cells[· % zv.cells.size]!), by simpa using hbase, ?_⟩
              simp [Instr.makeSlice, run_underlying hu, asInt, asIntOf, typeInfo, hi, wn, wm, hb1, hneg, hneg2, hnm', sizeOf, h0, newRow, zeroValue, hzv]
          obtain ⟨c', hc', hr'⟩ := hrun
          obtain ⟨ι', hle, hat, hrel, hext⟩ := Good.row r (P := P) e hc' false
          refine .of (v' := .slice (some ⟨w.heap.size, 0, none⟩) n m) (w' := w.alloc (.cells c' e)) ?_ ⟨ι', ?_, hrel, hext⟩
          · simp only [execOp, ho, el.int, ec.int, Sem.run_bind, hr', Result.andThen_ok, Sem.run_pure]
          · simp only [VR]; exact ⟨_, _, hat, rfl, hnm, .inl rfl⟩
        · cases hv
      · cases hv
    · cases hres
  · cases hres

theorem sound_typeAssert (x : Operand) (u t : TypeId) (ok : Bool) : Sound P (.typeAssert x u t ok) := by
  intro ι h h' w tm a v rop o r ht ho hres hv
  simp only [resOp] at hres
  split at hres
  · cases hres
  · rename_i d q z hni hu hq hz
    cases hres
    simp only [aop] at hv
    have ex := rso_VR ht hq
    obtain ⟨zv, hzr, hzvr⟩ := zeroV_spec hz
    have fin : ∀ {y : AV} {y' : Value}, v = y → h' = h → VR ι y y' → (Instr.typeAssert (a.eval x) u t ok).run P w = .ok y' w → OpRuns P ι h w v h' ((execOp a.eval o).run P w) := by
      intro y y' hve hhe hvr hrun
      subst hve; subst hhe
      refine .of (v' := y') (w' := w) ?_ (.here r hvr)
      simp only [execOp, ho, Sem.run_bind, hrun, Result.andThen_ok, Sem.run_pure]
    have pair : ∀ {y : AV} {y' : Value} (b : Bool), VR ι y y' → VR ι (.tup [y, .bool b]) (.tuple #[y', .bool b]) := by
      intro y y' b hy
      simp only [VR]
      exact ⟨_, rfl, VRs.mk hy (VRs.mk (by simp only [VR]) (VRs.nil.2 rfl))⟩
    split at hv
    · rename_i t' y he
      rw [he] at ex
      simp only [VR] at ex
      obtain ⟨y', hye, hy⟩ := ex
      have hrun : (Instr.typeAssert (a.eval x) u t ok).run P w = (if t' = t then (pure (if ok then .tuple #[y', .bool true] else y') : Sem Value) else (do
          if ok then pure (.tuple #[← zeroValue t, .bool false]) else runtimePanic (.typeAssertion (some u) (some t') t "") : Sem Value)).run P w := by
        rw [hye]
        simp only [Instr.typeAssert, Sem.run_bind, run_underlying hu, Result.andThen_ok]
      split at hv
      · rename_i htt
        cases hv
        have := Nat.eq_of_beq_eq_true htt
        subst this
        refine fin rfl rfl (pair true hy) ?_
        rw [hrun, if_pos rfl]; rfl
      · rename_i htt
        cases hv
        have := Nat.eq_of_beq_eq_true htt
        subst this
        refine fin rfl rfl hy ?_
        rw [hrun, if_pos rfl]; rfl
      · rename_i htt
        cases hv
        have hne : t' ≠ t := by intro e; subst e; rw [Nat.beq_refl] at htt; cases htt
        refine fin rfl rfl (pair false (hzvr ι)) ?_
        rw [hrun, if_neg hne]
        simp [hzr]
      · cases hv
    · rename_i he
      rw [he] at ex
      simp only [VR] at ex
      split at hv
      · cases hv
        refine fin rfl rfl (pair false (hzvr ι)) ?_
        rw [ex]
        have : (Instr.typeAssert .nilIface u t true).run P w = (do pure (.tuple #[← zeroValue t, .bool false]) : Sem Value).run P w := by
          simp only [Instr.typeAssert, Sem.run_bind, run_underlying hu, Result.andThen_ok, if_true]
        rw [this]
        simp [hzr]
      · cases hv
    · cases hv
  · cases hres

/-! ### Built-in functions -/
/-- A call of a built-in. -/
theorem exec_builtin {o : Oper} {c : Call} (ho : o.op = .call c) {b : Builtin} (hb : c.callee = .builtin b) (ρ : Operand → Value) :
    ∃ consts, execOp ρ o = builtin b c.argTypes o.type consts (c.args.map ρ) := by
  simp only [execOp, ho, resolve, hb, pure_bind, invoke]
  exact ⟨_, rfl⟩

theorem args_eval (a : Act) {args : Array Operand} {l : List Operand} (h : args.toList = l) : args.map a.eval = (l.map a.eval).toArray := by
  subst h; exact Array.ext' (by simp)

theorem minmax_run (w : World) : ∀ (l : List AV) (mx : Bool) (x v : AV) (m : List Value) (x' : Value), VR ι x x' → VRs ι l m → minmax mx x l = some v →
    ∃ v', (m.foldlM (match mx with | true => Builtin.max2 | false => Builtin.min2) x').run P w = .ok v' w ∧ VR ι v v'
  | [], mx, x, v, m, x', hx, hm, h => by
    rw [VRs.nil.1 hm]
    have : v = x := by
      unfold minmax at h
      split at h
      · rename_i heq; cases heq
      · cases h; rfl
      · cases h
    subst this
    exact ⟨x', rfl, hx⟩
  | y :: l, mx, x, v, m, x', hx, hm, h => by
    obtain ⟨y', m', rfl, hy, hm'⟩ := VRs.cons.1 hm
    unfold minmax at h
    split at h
    · rename_i k a1 k2 b1 l2 heq
      cases heq
      have ex := hx.int
      have ey := hy.int
      subst ex; subst ey
      cases mx with
      | true =>
        obtain ⟨v', h1, h2⟩ := minmax_run w l true _ v m' (.int k (if b1 > a1 then b1 else a1)) (by simp only [VR]) hm' h
        refine ⟨v', ?_, h2⟩
        simp only [List.foldlM_cons, Builtin.max2, pure_bind]
        exact h1
      | false =>
        obtain ⟨v', h1, h2⟩ := minmax_run w l false _ v m' (.int k (if b1 < a1 then b1 else a1)) (by simp only [VR]) hm' h
        refine ⟨v', ?_, h2⟩
        simp only [List.foldlM_cons, Builtin.min2, pure_bind]
        exact h1
    · rename_i heq; cases heq
    · cases h

theorem delE_spec {e : EqD} {k : AV} : ∀ {es es' : List (AV × AV × Nat)}, delE h e k es = some es' →
    ∃ res, findE h e k es = some res ∧ (match res with | none => es' = es | some _ => ∀ i, placeE h e k es = some i → es' = es.eraseIdx i)
  | [], es', hd => by simp only [delE] at hd; cases hd; exact ⟨none, rfl, rfl⟩
  | (k1, v1, n1) :: es, es', hd => by
    simp only [delE] at hd
    split at hd
    · rename_i ha
      cases hd
      refine ⟨some (v1, n1), by simp only [findE, ha], ?_⟩
      intro i hi
      simp only [placeE, ha] at hi
      cases hi; rfl
    · rename_i ha
      split at hd
      · rename_i m hm
        cases hd
        obtain ⟨res, h1, h2⟩ := delE_spec hm
        refine ⟨res, by simp only [findE, ha, h1], ?_⟩
        cases res with
        | none => simp only at h2 ⊢; rw [h2]
        | some q =>
          simp only at h2 ⊢
          intro i hi
          simp only [placeE, ha, Option.map_eq_some_iff] at hi
          obtain ⟨j, hj, rfl⟩ := hi
          rw [h2 j hj]; rfl
      · cases hd
    · cases hd

theorem ER.eraseIdx : ∀ {l : List (AV × AV × Nat)} {m : List MapEntry} (i : Nat), ER ι l m → ER ι (l.eraseIdx i) (m.eraseIdx i)
  | [], m, i, hm => by rw [show m = [] from hm]; simp; rfl
  | (k, v, n) :: l, m, i, hm => by
    obtain ⟨e, m', rfl, hk, hv, hn, hm'⟩ := hm.cons
    cases i with
    | zero => simpa using hm'
    | succ i => simp only [List.eraseIdx_cons_succ]; exact ER.mk hk hv hn (ER.eraseIdx i hm')

theorem sound_call_builtin (b : Builtin) (args : Array Operand) (ts : Array TypeId) : Sound P (.call { callee := .builtin b, args := args, argTypes := ts }) := by
  intro ι h h' w tm a v rop o r ht ho hres hv
  change resBuiltin P b args.toList ts.toList = some rop at hres
  obtain ⟨consts, hex⟩ := exec_builtin ho rfl a.eval
  -- a value
  have fin : ∀ {x : AV} {x' : Value}, v = x → h' = h → VR ι x x' → (execOp a.eval o).run P w = .ok (.value x') w → OpRuns P ι h w v h' ((execOp a.eval o).run P w) := by
    intro x x' hve hhe hvr hrun
    subst hve; subst hhe
    exact .of hrun (.here r hvr)
  unfold resBuiltin at hres
  split at hres
  · -- len
    rename_i t us x hts hxs
    have hargs := args_eval a hxs
    have h0 : ts[0]? = some t := by have : ts.toList[0]? = some t := by rw [hts]; rfl
                                    simpa using this
    have run : ∀ {y : Value}, (Builtin.len_ ts o.type #[a.eval x]).run P w = .ok y w → (execOp a.eval o).run P w = .ok (.value y) w := by
      intro y hy
      rw [hex, hargs]
      simp [builtin, hy]
    split at hres
    · rename_i q hu hq
      cases hres
      simp only [aop] at hv
      have ex := rso_VR ht hq
      split at hv
      · rename_i s he
        cases hv
        rw [he] at ex
        obtain ⟨bs, hbe, hbl⟩ := ex.str
        refine fin rfl rfl (x' := .int .i64 s.length) (by simp only [VR]) (run ?_)
        have : bs.size = s.length := by rw [← hbl]; simp
        simp [Builtin.len_, h0, run_underlying hu, hbe, goInt, this]
      · cases hv
    · rename_i e q hu hq
      cases hres
      simp only [aop] at hv
      have ex := rso_VR ht hq
      split at hv
      · rename_i he
        cases hv
        rw [he] at ex; simp only [VR] at ex
        exact fin rfl rfl (x' := .int .i64 0) (by simp only [VR]) (run (by simp [Builtin.len_, h0, run_underlying hu, ex, goInt]))
      · rename_i b' o' n c he
        cases hv
        rw [he] at ex; simp only [VR] at ex
        obtain ⟨_, _, _, hx, _⟩ := ex
        exact fin rfl rfl (x' := .int .i64 n) (by simp only [VR]) (run (by simp [Builtin.len_, h0, run_underlying hu, hx, goInt]))
      · rename_i b' o' n c he
        cases hv
        rw [he] at ex; simp only [VR] at ex
        obtain ⟨_, _, _, _, hx, _⟩ := ex
        exact fin rfl rfl (x' := .int .i64 n) (by simp only [VR]) (run (by simp [Builtin.len_, h0, run_underlying hu, hx, goInt]))
      · cases hv
    · rename_i k e q hu hq
      cases hres
      simp only [aop] at hv
      have ex := rso_VR ht hq
      split at hv
      · rename_i he
        cases hv
        rw [he] at ex; simp only [VR] at ex
        exact fin rfl rfl (x' := .int .i64 0) (by simp only [VR]) (run (by simp [Builtin.len_, h0, run_underlying hu, ex, goInt]))
      · rename_i b' he
        rw [he] at ex
        obtain ⟨p, hp, hpe⟩ := ex.mapv
        split at hv
        · rename_i es clock hg
          cases hv
          obtain ⟨m, hx, hER⟩ := r.blocks b' p _ hp hg
          have : m.size = es.length := by simpa using hER.length
          exact fin rfl rfl (x' := .int .i64 es.length) (by simp only [VR]) (run (by simp [Builtin.len_, h0, run_underlying hu, hpe, run_getObj_map hx, goInt, this]))
        · cases hv
      · cases hv
    · rename_i n e q hu hq
      cases hres
      simp only [aop] at hv
      cases hv
      exact fin rfl rfl (x' := .int .i64 n) (by simp only [VR]) (run (by simp [Builtin.len_, h0, run_underlying hu, goInt]))
    · cases hres
  · -- cap
    rename_i t us x hts hxs
    have hargs := args_eval a hxs
    have h0 : ts[0]? = some t := by have : ts.toList[0]? = some t := by rw [hts]; rfl
                                    simpa using this
    split at hres
    · rename_i e q hu hq
      cases hres
      simp only [aop] at hv
      have ex := rso_VR ht hq
      split at hv
      · rename_i he
        cases hv
        rw [he] at ex; simp only [VR] at ex
        exact fin rfl rfl (x' := .int .i64 0) (by simp only [VR]) (by rw [hex, hargs]; simp [builtin, Builtin.cap_, h0, run_underlying hu, ex, goInt])
      · rename_i b' o' n c he
        cases hv
        rw [he] at ex; simp only [VR] at ex
        obtain ⟨_, _, _, hx, _⟩ := ex
        exact fin rfl rfl (x' := .int .i64 c) (by simp only [VR]) (by rw [hex, hargs]; simp [builtin, Builtin.cap_, h0, run_underlying hu, hx, goInt])
      · cases hv
    · cases hres
  · -- append
    rename_i t u us s x hts hxs
    have hargs := args_eval a hxs
    have h0 : ts[0]? = some t := by have : ts.toList[0]? = some t := by rw [hts]; rfl
                                    simpa using this
    have h1 : ts[1]? = some u := by have : ts.toList[1]? = some u := by rw [hts]; rfl
                                    simpa using this
    have up : ∀ {y : Value} {w' : World}, (Builtin.append_ ts o.type #[a.eval s, a.eval x]).run P w = .ok y w' → (execOp a.eval o).run P w = .ok (.value y) w' := by
      intro y w' hy
      rw [hex, hargs]
      simp [builtin, hy]
    -- elements
    have plain : ∀ {e : TypeId} {i : TypeInfo} {z : List AV} {qs qx : RO}, P.underlying t = some (.slice e) → ((∃ e', P.underlying u = some (.slice e')) ∨ P.underlying u = some .string) → P.info? e = some i → zeroC P e = some z → Nat.beq z.length i.size = true →
        rso s = some qs → rso x = some qx → aop tm h (.bapp i.size i.bytes qs qx) = some (v, h') → OpRuns P ι h w v h' ((execOp a.eval o).run P w) := by
      intro e i z qs qx hu huu hi hz hzl hqs hqx hv
      simp only [aop] at hv
      have es := rso_VR ht hqs
      have ex := rso_VR ht hqx
      obtain ⟨i', zv, hi', hzv, hvr⟩ := zeroC_spec hz
      rw [hi] at hi'; cases hi'
      have hsz : zv.cells.size = i.size := by have := (hvr ι).length; have := Nat.eq_of_beq_eq_true hzl; simp at *; omega
      split at hv
      · rename_i n hn
        split at hv
        · rename_i newA hf
          split at hv
          · rename_i hlen
            have hlen := Nat.eq_of_beq_eq_true hlen
            obtain ⟨m, e1, e2⟩ := firstN_run r ex hn (Nat.le_refl _) hf
            obtain ⟨m', e1', e2'⟩ := firstN_run r.drew ex hn (Nat.le_refl _) hf
            obtain ⟨v', w', hR, hg⟩ := appA_sound (elem := e) (zc := zv.cells) r es e2 e2' hlen hsz hv (R := (Builtin.append_ ts o.type #[a.eval s, a.eval x]).run P w)
              (by
                intro base len cap hs' hle w' hst hb0
                rw [hs']
                exact append_in ts h0 h1 hu huu hi o.type base (lenOf_run ex hn w) hle e1 (by simpa using hst) hb0)
              (by
                intro base len cap old hs' hle h48 h63 hold
                rw [hs']
                exact append_new ts h0 h1 hu huu hi hzv o.type base (lenOf_run ex hn w) hle h48 h63 hold e1')
            exact .of (up hR) hg
          · cases hv
        · cases hv
      · cases hv
    split at hres
    · rename_i e k qs qx hu huu hqs hqx
      split at hres
      · rename_i i z hi hz
        split at hres
        · rename_i hzl
          cases hres
          simp only [aop] at hv
          have es := rso_VR ht hqs
          have ex := rso_VR ht hqx
          obtain ⟨i', zv, hi', hzv, hvr⟩ := zeroC_spec hz
          rw [hi] at hi'; cases hi'
          have hsz : zv.cells.size = i.size := by have := (hvr ι).length; have := Nat.eq_of_beq_eq_true hzl; simp at *; omega
          split at hv
          · rename_i n hn
            obtain ⟨kx, hkx⟩ := asNat_spec hn
            rw [hkx] at ex
            have ex := ex.int
            split at hv
            · rename_i hb
              simp only [Bool.and_eq_true, Nat.ble_eq, Nat.beq_eq] at hb
              obtain ⟨⟨hb1, hb2⟩, hb3⟩ := hb
              have hrep : VRs ι (rep z n) (Builtin.zeroCells zv.cells n).toList := by
                have := (hvr ι).rep n
                rw [← range_zero_cells] at this
                simpa [Builtin.zeroCells] using this
              have hrl : (rep z n).length = n * i.size := by
                have := hrep.length
                rw [Array.length_toList, zeroCells_size, hsz] at this
                exact this.symm
              have hnew : VRs ι (rep z n) (if n * i.size = 0 then #[] else Builtin.zeroCells zv.cells n).toList := by
                split
                · rename_i h0'
                  have : rep z n = [] := List.eq_nil_of_length_eq_zero (by rw [hrl, h0'])
                  rw [this]; exact VRs.nil.2 rfl
                · exact hrep
              obtain ⟨v', w', hR, hg⟩ := appA_sound (elem := e) (zc := zv.cells) r es hnew hnew hrl hsz hv (R := (Builtin.append_ ts o.type #[a.eval s, a.eval x]).run P w)
                (by
                  intro base len cap hs' hle w' hst hb0
                  rw [hs', ex]
                  exact appendZ_in ts h0 h1 hu huu hi o.type base hzv hle hb1 hb2 hst hb0)
                (by
                  intro base len cap old hs' hle h48 h63 hold
                  rw [hs', ex]
                  exact appendZ_new ts h0 h1 hu huu hi o.type base hzv hle hb1 hb2 h48 h63 hold)
              exact .of (up hR) hg
            · cases hv
          · cases hv
        · cases hres
      · cases hres
    · rename_i e e' qs qx hu huu hqs hqx
      split at hres
      · rename_i i z hi hz
        split at hres
        · rename_i hzl
          cases hres
          exact plain hu (.inl ⟨_, huu⟩) hi hz hzl hqs hqx hv
        · cases hres
      · cases hres
    · rename_i e qs qx hu huu hqs hqx
      split at hres
      · rename_i i z hi hz
        split at hres
        · rename_i hzl
          cases hres
          exact plain hu (.inr huu) hi hz hzl hqs hqx hv
        · cases hres
      · cases hres
    · cases hres
  · -- max
    rename_i hxs
    split at hres
    · rename_i l hl
      cases hres
      simp only [aop] at hv
      have e := rsos_VR ht hl
      split at hv
      · rename_i x l' hx
        rw [hx] at e
        obtain ⟨x', m, he, hx', hm⟩ := VRs.cons.1 e
        split at hv
        · rename_i y hy
          cases hv
          obtain ⟨v', h1, h2⟩ := minmax_run (P := P) w l' true x v m x' hx' hm hy
          refine fin rfl rfl h2 ?_
          rw [hex, args_eval a rfl, he]
          simp only [builtin, Builtin.max_, Sem.run_bind, h1, Result.andThen_ok, Sem.run_pure]
        · cases hv
      · cases hv
    · cases hres
  · -- min
    rename_i hxs
    split at hres
    · rename_i l hl
      cases hres
      simp only [aop] at hv
      have e := rsos_VR ht hl
      split at hv
      · rename_i x l' hx
        rw [hx] at e
        obtain ⟨x', m, he, hx', hm⟩ := VRs.cons.1 e
        split at hv
        · rename_i y hy
          cases hv
          obtain ⟨v', h1, h2⟩ := minmax_run (P := P) w l' false x v m x' hx' hm hy
          refine fin rfl rfl h2 ?_
          rw [hex, args_eval a rfl, he]
          simp only [builtin, Builtin.min_, Sem.run_bind, h1, Result.andThen_ok, Sem.run_pure]
        · cases hv
      · cases hv
    · cases hres
  · -- clear
    rename_i t us x hts hxs
    have hargs := args_eval a hxs
    have h0 : ts[0]? = some t := by have : ts.toList[0]? = some t := by rw [hts]; rfl
                                    simpa using this
    split at hres
    · rename_i e q hu hq
      split at hres
      · rename_i sz z hszo hz
        cases hres
        simp only [aop] at hv
        have ex := rso_VR ht hq
        obtain ⟨i', zv, hi', hzv, hvr⟩ := zeroC_spec hz
        have hzrun : ∀ n, VRs ι (rep z n) (Builtin.zeroCells zv.cells n).toList := by
          intro n
          have := (hvr ι).rep n
          rw [← range_zero_cells] at this
          simpa [Builtin.zeroCells] using this
        have skip : ∀ {base : Option Addr} {c : Nat}, a.eval x = .slice base 0 c → v = .undef → h' = h → OpRuns P ι h w v h' ((execOp a.eval o).run P w) := by
          intro base c hx hve hhe
          subst hve; subst hhe
          refine .of (v' := .tuple #[]) (w' := w) ?_ (.here r (VR.undef ι))
          rw [hex, hargs]
          cases base <;> simp [builtin, Builtin.clear_, h0, run_underlying hu, hx]
        have put : ∀ {b o' : Nat} {p : Pl} {n c o'' : Nat}, ι b = some p → a.eval x = .slice (some ⟨p.blk, o'', none⟩) n c → n ≠ 0 → o'' = o' → (match writeCells h b o' (rep z n) with | some x => some (AV.undef, x) | none => none) = some (v, h') →
            OpRuns P ι h w v h' ((execOp a.eval o).run P w) := by
          intro b o' p n c o'' hp hx hn0 ho' hw
          subst ho'
          split at hw
          · rename_i h1 hw1
            cases hw
            obtain ⟨w', e1, e2, e3⟩ := write_sound r hp hw1 (hzrun n)
            refine .of (v' := .tuple #[]) (w' := w') ?_ ⟨ι, VR.undef ι, e2, e3⟩
            rw [hex, hargs]
            cases n with
            | zero => exact absurd rfl hn0
            | succ n => simp [builtin, Builtin.clear_, h0, run_underlying hu, hx, run_zeroValue hi' hzv, e1]
          · cases hw
        split at hv
        · rename_i he
          cases hv
          rw [he] at ex; simp only [VR] at ex
          exact skip ex rfl rfl
        · rename_i b' o' n c he
          rw [he] at ex; simp only [VR] at ex
          obtain ⟨p, o'', hp, hx, hlc, hoo⟩ := ex
          split at hv
          · rename_i hn
            have := Nat.eq_of_beq_eq_true hn
            subst this
            cases hv
            exact skip hx rfl rfl
          · rename_i hn
            have hn0 : n ≠ 0 := by intro e; subst e; simp at hn
            split at hv
            · exact put hp hx hn0 (by rcases hoo with h5 | h5 <;> omega) hv
            · cases hv
        · rename_i b' o' n c he
          rw [he] at ex; simp only [VR] at ex
          obtain ⟨p, o'', c', hp, hx, hlc, hon, hoo⟩ := ex
          split at hv
          · rename_i hn
            have := Nat.eq_of_beq_eq_true hn
            subst this
            cases hv
            exact skip hx rfl rfl
          · rename_i hn
            have hn0 : n ≠ 0 := by intro e; subst e; simp at hn
            split at hv
            · exact put hp hx hn0 (by rcases hoo with h5 | h5 <;> omega) hv
            · cases hv
        · cases hv
      · cases hres
    · cases hres
  · -- copy
    rename_i t us d x hts hxs
    have hargs := args_eval a hxs
    have h0 : ts[0]? = some t := by have : ts.toList[0]? = some t := by rw [hts]; rfl
                                    simpa using this
    split at hres
    · rename_i e qd qx hu hqd hqx
      split at hres
      · rename_i sz hszo
        cases hres
        obtain ⟨i, hi, rfl⟩ := szOf_spec hszo
        simp only [aop] at hv
        have ed := rso_VR ht hqd
        have ex := rso_VR ht hqx
        split at hv
        · rename_i n m hn hm
          have hls := lenOf_run (P := P) ex hm w
          split at hv
          · rename_i cs hf
            obtain ⟨mm, e1, e2⟩ := firstN_run r ex hm (Nat.min_le_right n m) hf
            have hmin : Nat.min m n = min n m := Nat.min_comm m n
            have run : ∀ {base : Option Addr} {c : Nat} {w' : World}, a.eval d = .slice base n c → (∀ b, base = some b → (storeCells b mm).run P w = .ok () w') → (base = none → w' = w) →
                (execOp a.eval o).run P w = .ok (.value (.int .i64 (min n m : Nat))) w' := by
              intro base c w' hd hst hb0
              rw [hex, hargs]
              cases base with
              | none =>
                have := hb0 rfl; subst this
                simp [builtin, Builtin.copy_, h0, run_underlying hu, hd, hls, run_sizeOf hi, hmin, e1, goInt]
              | some b =>
                have := hst b rfl
                simp [builtin, Builtin.copy_, h0, run_underlying hu, hd, hls, run_sizeOf hi, hmin, e1, goInt, this]
            have nomm : min n m = 0 → mm = [] := by
              intro h0'
              have hcs : cs = [] := by
                unfold firstN at hf
                rw [h0'] at hf
                split at hf <;> simp [takeN] at hf <;> exact hf
              rw [hcs] at e2
              exact VRs.nil.1 e2
            split at hv
            · rename_i he
              cases hv
              rw [he] at ed hn
              simp only [lenA] at hn; cases hn
              simp only [VR] at ed
              have := run ed (fun b hb => by cases hb) (fun _ => rfl) (w' := w)
              rw [Nat.zero_min] at this
              exact .of this (.here r (by simp only [VR]; rfl))
            · rename_i b o' n' c he
              rw [he] at ed hn
              simp only [lenA] at hn; cases hn
              simp only [VR] at ed
              obtain ⟨p, o'', hp, hd, hlc, hoo⟩ := ed
              split at hv
              · rename_i hz
                cases hv
                have hz := Nat.eq_of_beq_eq_true hz
                have := run hd (w' := w) (fun b hb => by rw [nomm hz]; rfl) (fun _ => rfl)
                rw [hz] at this
                exact .of this (.here r (by simp only [VR]; rfl))
              · rename_i hz
                have hz : min n m ≠ 0 := by intro e; rw [e] at hz; simp at hz
                split at hv
                · rename_i h1 hw
                  cases hv
                  have : o'' = o' := by rcases hoo with h5 | h5 <;> omega
                  subst this
                  obtain ⟨w', s1, s2, s3⟩ := write_sound r hp hw e2
                  exact .of (run hd (fun b hb => by cases hb; exact s1) (fun e => by cases e)) ⟨ι, by simp only [VR]; congr 1; omega, s2, s3⟩
                · cases hv
            · rename_i b o' n' c he
              rw [he] at ed hn
              simp only [lenA] at hn; cases hn
              simp only [VR] at ed
              obtain ⟨p, o'', c', hp, hd, hlc, hon, hoo⟩ := ed
              split at hv
              · rename_i hz
                cases hv
                have hz := Nat.eq_of_beq_eq_true hz
                have := run hd (w' := w) (fun b hb => by rw [nomm hz]; rfl) (fun _ => rfl)
                rw [hz] at this
                exact .of this (.here r (by simp only [VR]; rfl))
              · rename_i hz
                have hz : min n m ≠ 0 := by intro e; rw [e] at hz; simp at hz
                split at hv
                · rename_i h1 hw
                  cases hv
                  have : o'' = o' := by rcases hoo with h5 | h5 <;> omega
                  subst this
                  obtain ⟨w', s1, s2, s3⟩ := write_sound r hp hw e2
                  exact .of (run hd (fun b hb => by cases hb; exact s1) (fun e => by cases e)) ⟨ι, by simp only [VR]; congr 1; omega, s2, s3⟩
                · cases hv
            · cases hv
          · cases hv
        · cases hv
      · cases hres
    · cases hres
  · -- delete
    rename_i t us m k hts hxs
    have hargs := args_eval a hxs
    have h0 : ts[0]? = some t := by have : ts.toList[0]? = some t := by rw [hts]; rfl
                                    simpa using this
    split at hres
    · rename_i kt el qm qk hu hqm hqk
      split at hres
      · rename_i d hd
        cases hres
        simp only [aop] at hv
        have em := rso_VR ht hqm
        have ek := rso_VR ht hqk
        obtain ⟨kd, hkd, h8⟩ := eqd_underlying hd
        split at hv
        · rename_i hm hfit
          cases hv
          have hck : ∀ b, (Instr.checkKey b 10000 kt (a.eval k)).run P w = .ok () w := fun b => checkKey_run b w 8 kt d h8 10000 (by omega) ek hfit
          rw [hm] at em
          simp only [VR] at em
          refine .of (v' := .tuple #[]) (w' := w) ?_ (.here r (VR.undef ι))
          rw [hex, hargs]
          simp [builtin, Builtin.delete_, h0, run_underlying hu, em, hck]
        · rename_i b hm hfit
          have hck : ∀ b, (Instr.checkKey b 10000 kt (a.eval k)).run P w = .ok () w := fun b => checkKey_run b w 8 kt d h8 10000 (by omega) ek hfit
          rw [hm] at em
          obtain ⟨p, hp, hpe⟩ := em.mapv
          split at hv
          · rename_i es clock hg
            obtain ⟨mm, hx, hER⟩ := r.blocks b p _ hp hg
            split at hv
            · rename_i es' hdel
              cases hv
              obtain ⟨res, h1, h2⟩ := delE_spec hdel
              have hfk := findKey_run r hd hkd ek hER h1
              cases res with
              | none =>
                simp only at hfk h2
                have := map_update r hp (es' := es') (clock' := clock) hg (m' := mm) (by rw [h2]; exact hER)
                refine .of (v' := .tuple #[]) (w' := { w with heap := w.heap.setIfInBounds p.blk (.map mm clock) }) ?_ ⟨ι, VR.undef ι, this.1, this.2⟩
                rw [hex, hargs]
                simp [builtin, Builtin.delete_, h0, run_underlying hu, hpe, run_getObj_map hx, hck, hfk, run_setObj_map hx]
              | some q =>
                obtain ⟨i, ent, f1, f2, f3, f4, f5⟩ := hfk
                have he := h2 i f2
                have := map_update r hp (es' := es') (clock' := clock) hg (m' := mm.eraseIdxIfInBounds i) (by
                  rw [he]
                  have hl : (mm.eraseIdxIfInBounds i).toList = mm.toList.eraseIdx i := by
                    unfold Array.eraseIdxIfInBounds
                    split
                    · simp
                    · rename_i hlt; rw [List.eraseIdx_of_length_le]; simpa using hlt
                  rw [hl]; exact hER.eraseIdx i)
                refine .of (v' := .tuple #[]) (w' := { w with heap := w.heap.setIfInBounds p.blk (.map (mm.eraseIdxIfInBounds i) clock) }) ?_ ⟨ι, VR.undef ι, this.1, this.2⟩
                rw [hex, hargs]
                simp [builtin, Builtin.delete_, h0, run_underlying hu, hpe, run_getObj_map hx, hck, f5, run_setObj_map hx]
            · cases hv
          · cases hv
        · cases hv
      · cases hres
    · cases hres
  · cases hres

/-- Any operation that is no call. -/
theorem aop_sound (op₀ : Op) : Sound P op₀ := by
  intro ι h h' w tm a v op o r ht ho hres hv
  cases op₀ with
  | move x => exact sound_move x r ht ho hres hv
  | assign x => exact sound_assign x r ht ho hres hv
  | pick c x y => exact sound_pick c x y r ht ho hres hv
  | alloc e => exact sound_alloc e r ht ho hres hv
  | box t x => exact sound_box t x r ht ho hres hv
  | build t ps => exact sound_build t ps r ht ho hres hv
  | buildSlice t n ps => exact sound_buildSlice t n ps r ht ho hres hv
  | load t x => exact sound_load t x r ht ho hres hv
  | store t x y => exact sound_store t x y r ht ho hres hv
  | nilCheck x => exact sound_nilCheck x r ht ho hres hv
  | binOp op t x y u => exact sound_binOp op t x y u r ht ho hres hv
  | unOp op t x => exact sound_unOp op t x r ht ho hres hv
  | convert s d x => exact sound_convert s d x r ht ho hres hv
  | makeInterface t x => exact sound_makeInterface t x r ht ho hres hv
  | makeFunc f x y => exact sound_makeFunc f x y r ht ho hres hv
  | makeMap t x => exact sound_makeMap t x r ht ho hres hv
  | makeSlice t l c => exact sound_makeSlice t l c r ht ho hres hv
  | slice t x lo hi mx => exact sound_slice t x lo hi mx r ht ho hres hv
  | fieldAddr s x i => exact sound_fieldAddr s x i r ht ho hres hv
  | field s x i => exact sound_field s x i r ht ho hres hv
  | indexAddr t x i => exact sound_indexAddr t x i r ht ho hres hv
  | index t x i => exact sound_index t x i r ht ho hres hv
  | lookup t m k ok => exact sound_lookup t m k ok r ht ho hres hv
  | mapUpdate t m k x => exact sound_mapUpdate t m k x r ht ho hres hv
  | insert t m k x => exact sound_insert t m k x r ht ho hres hv
  | mapEntry t m k => exact sound_mapEntry t m k r ht ho hres hv
  | entryStore t m s x => exact sound_entryStore t m s x r ht ho hres hv
  | typeAssert x u t ok => exact sound_typeAssert x u t ok r ht ho hres hv
  | extract x i => exact sound_extract x i r ht ho hres hv
  | call c =>
    obtain ⟨callee, args, ts⟩ := c
    cases callee with
    | builtin b => exact sound_call_builtin b args ts r ht ho hres hv
    | value f =>
      simp only [resOp] at hres
      split at hres
      · cases hres; simp [aop] at hv
      · cases hres
    | invoke x y =>
      simp [resOp] at hres
  | _ => 
    simp [resOp] at hres
end
end Go.Ev
