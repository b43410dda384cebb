/- The closures are sound: where a run comes to true, the call comes to its value. -/
import Derived.ChangeSame
import Derived.KernelRfl
import Derived.RowKit3
import Derived.Test.YtjhcdcnnopgipaaGreatDoorKb
namespace Go.Ev.K
open Go Go.Ev

/-! ## Regions -/
section
variable {P : Program} {call : CallK}
theorem oneW.mono {tm : Env} {h : Heap} {op : ROp} {Q Q' : AV → Heap → Prop} (hq : oneW (CallW P) tm h op Q) (hm : ∀ v h, Q v h → Q' v h) : oneW (CallW P) tm h op Q' := by
  cases op
  case call f args => exact CallW.mono hq hm
  all_goals
    obtain ⟨v, h', h1, h2⟩ := hq
    exact ⟨v, h', h1, hm _ _ h2⟩

/-- what a region's continuation is given -/
def GoodR (K : KEnv → Nat → Hp → Bool) (tm : Env) (h : Heap) : Prop := ∃ e n t, EnvOK e tm ∧ HeapOK n t h ∧ K e n t = true

theorem want_spec {tm : Env} {s : Nat} {w T F : Bool} (h : wantV (tm.look s) w T F = true) : (wantedR tm (some (s, w)) = true ∧ T = true) ∨ (wantedR tm (some (s, w)) = false ∧ F = true) := by
  unfold wantedR
  dsimp only
  cases hv : tm.look s
  case bool b => rw [hv] at h; cases b <;> cases w <;> first | exact .inl ⟨rfl, h⟩ | exact .inr ⟨rfl, h⟩
  all_goals (rw [hv] at h; exact .inr ⟨rfl, h⟩)
theorem ofDst_spec {d : Option Nat} {v : AV} {e : KEnv} {tm : Env} {K : KEnv → Bool} (he : EnvOK e tm) (hk : ofDst d v e K = true) : ∃ e', EnvOK e' (putD tm d v) ∧ K e' = true := by
  cases d with
  | none => exact ⟨e, he, hk⟩
  | some i => exact wr_spec he hk

/-- an operation's other closure -/
def HookOK (P : Program) (H : Hook) : Prop := ∀ op f, H op = some f → ∀ {call : CallK} {e : KEnv} {tm : Env} {n : Nat} {t : Hp} {h : Heap} {K : KV}, CallOK P call → EnvOK e tm → HeapOK n t h → f call e n t K = true → oneW (CallW P) tm h op (Good K)
theorem HookOK.no (P : Program) : HookOK P noH := fun op f h => by cases h
theorem opH_ok {H : Hook} (hH : HookOK P H) (hcall : CallOK P call) {op : ROp} {e : KEnv} {tm : Env} {n : Nat} {t : Hp} {h : Heap} {K : KV} (he : EnvOK e tm) (hh : HeapOK n t h) (hk : ofOpH H op call e n t K = true) : oneW (CallW P) tm h op (Good K) := by
  unfold ofOpH at hk
  cases hf : H op with
  | none => rw [hf] at hk; exact op_ok he hh hcall hk
  | some f => rw [hf] at hk; exact hH op f hf hcall he hh hk
theorem ops_ok {H : Hook} (hH : HookOK P H) (hcall : CallOK P call) : ∀ {l : List ROper} {e : KEnv} {tm : Env} {n : Nat} {t : Hp} {h : Heap} {K : KEnv → Nat → Hp → Bool}, EnvOK e tm → HeapOK n t h → ofOps H l call e n t K = true → opsW (CallW P) l tm h (GoodR K)
  | [], e, tm, n, t, h, K, he, hh, hk => ⟨e, n, t, he, hh, hk⟩
  | ⟨d, op, none⟩ :: l, e, tm, n, t, h, K, he, hh, hk => by
    have hk' : ofOpH H op call e n t (fun n t v => ofDst d v e fun e => ofOps H l call e n t K) = true := by
      cases d <;> exact hk
    refine oneW.mono (opH_ok hH hcall he hh hk') ?_
    rintro v h' ⟨n', t', h1, h2⟩
    obtain ⟨e', h3, h4⟩ := ofDst_spec he h2
    exact ops_ok hH hcall h3 h1 h4
  | ⟨d, op, some (s, want)⟩ :: l, e, tm, n, t, h, K, he, hh, hk => by
    have hk' : rd s e (fun v => wantV v want (ofOpH H op call e n t fun n t v => ofDst d v e fun e => ofOps H l call e n t K) (ofDst d .undef e fun e => ofOps H l call e n t K)) = true := by
      cases d <;> exact hk
    have h1 := rd_spec he hk'
    rcases want_spec h1 with ⟨h2, h3⟩ | ⟨h2, h3⟩
    · simp only [opsW, h2]
      refine oneW.mono (opH_ok hH hcall he hh h3) ?_
      rintro v h' ⟨n', t', h1, h2⟩
      obtain ⟨e', h3, h4⟩ := ofDst_spec he h2
      exact ops_ok hH hcall h3 h1 h4
    · simp only [opsW, h2]
      obtain ⟨e', h4, h5⟩ := ofDst_spec he h3
      exact ops_ok hH hcall h4 hh h5

/-! ## Are two values one? -/
theorem intEq_spec {a b : Int} {Y : Bool} (h : intEq a b Y = true) : a = b ∧ Y = true := by
  cases a with
  | ofNat m =>
    cases b with
    | ofNat p => obtain ⟨h1, h2⟩ := ifB_no (b := Nat.beq m p) h; exact ⟨by rw [Nat.eq_of_beq_eq_true h1], h2⟩
    | negSucc p => exact Bool.noConfusion h
  | negSucc m =>
    cases b with
    | ofNat p => exact Bool.noConfusion h
    | negSucc p => obtain ⟨h1, h2⟩ := ifB_no (b := Nat.beq m p) h; exact ⟨by rw [Nat.eq_of_beq_eq_true h1], h2⟩

mutual
theorem aveqF_spec : ∀ (u v : AV) (Y : Bool), aveqF u v Y = true → u = v ∧ Y = true
  | .bool b, v, Y, h => by
    rcases onBool_spec (v := v) h with ⟨h1, h2⟩ | ⟨h1, h2⟩
    · obtain ⟨h3, h4⟩ := ifB_no h2; rw [h1, h3]; exact ⟨rfl, h4⟩
    · rcases ifB_true h2 with ⟨_, h4⟩ | ⟨h3, h4⟩
      · cases h4
      · rw [h1, h3]; exact ⟨rfl, h4⟩
  | .int k a, v, Y, h => by
    rcases onInt_spec (v := v) h with h1 | ⟨l, b, h1, h2⟩
    · cases h1
    · obtain ⟨h3, h4⟩ := ifB_no h2
      obtain ⟨h5, h6⟩ := intEq_spec h4
      rw [h1, kk_eq h3, h5]; exact ⟨rfl, h6⟩
  | .str s, v, Y, h => by
    rcases onStr_spec (v := v) h with h1 | ⟨t, h1, h2⟩
    · cases h1
    · rcases strK_spec h2 with ⟨h3, h4⟩ | ⟨_, h4⟩
      · rw [h1, h3]; exact ⟨rfl, h4⟩
      · cases h4
  | .nilp, v, Y, h => by cases v <;> first | exact ⟨rfl, h⟩ | exact Bool.noConfusion h
  | .nils, v, Y, h => by cases v <;> first | exact ⟨rfl, h⟩ | exact Bool.noConfusion h
  | .ptr b o, v, Y, h => by
    obtain ⟨c, p, h1, h2⟩ := onPtr_spec (v := v) h
    obtain ⟨h3, h4⟩ := ifB_no h2
    obtain ⟨h5, h6⟩ := ifB_no h4
    rw [h1, Nat.eq_of_beq_eq_true h3, Nat.eq_of_beq_eq_true h5]; exact ⟨rfl, h6⟩
  | .slice b o n c, v, Y, h => by
    cases v
    case slice b' o' n' c' =>
      obtain ⟨h1, h⟩ := ifB_no (b := Nat.beq b b') h
      obtain ⟨h2, h⟩ := ifB_no h
      obtain ⟨h3, h⟩ := ifB_no h
      obtain ⟨h4, h⟩ := ifB_no h
      rw [Nat.eq_of_beq_eq_true h1, Nat.eq_of_beq_eq_true h2, Nat.eq_of_beq_eq_true h3, Nat.eq_of_beq_eq_true h4]; exact ⟨rfl, h⟩
    all_goals exact Bool.noConfusion h
  | .gslice b o n c, v, Y, h => by
    cases v
    case gslice b' o' n' c' =>
      obtain ⟨h1, h⟩ := ifB_no (b := Nat.beq b b') h
      obtain ⟨h2, h⟩ := ifB_no h
      obtain ⟨h3, h⟩ := ifB_no h
      obtain ⟨h4, h⟩ := ifB_no h
      rw [Nat.eq_of_beq_eq_true h1, Nat.eq_of_beq_eq_true h2, Nat.eq_of_beq_eq_true h3, Nat.eq_of_beq_eq_true h4]; exact ⟨rfl, h⟩
    all_goals exact Bool.noConfusion h
  | .agg cs, v, Y, h => by
    obtain ⟨m, h1, h2⟩ := onAgg_spec (v := v) h
    obtain ⟨h3, h4⟩ := aveqsF_spec cs m Y h2
    rw [h1, h3]; exact ⟨rfl, h4⟩
  | .nilm, v, Y, h => by cases v <;> first | exact ⟨rfl, h⟩ | exact Bool.noConfusion h
  | .nilf, v, Y, h => by cases v <;> first | exact ⟨rfl, h⟩ | exact Bool.noConfusion h
  | .nili, v, Y, h => by cases v <;> first | exact ⟨rfl, h⟩ | exact Bool.noConfusion h
  | .map b, v, Y, h => by
    cases v
    case map c =>
      obtain ⟨h1, h⟩ := ifB_no (b := Nat.beq b c) h
      rw [Nat.eq_of_beq_eq_true h1]; exact ⟨rfl, h⟩
    all_goals exact Bool.noConfusion h
  | .yield b, v, Y, h => by
    cases v
    case yield c =>
      obtain ⟨h1, h⟩ := ifB_no (b := Nat.beq b c) h
      rw [Nat.eq_of_beq_eq_true h1]; exact ⟨rfl, h⟩
    all_goals exact Bool.noConfusion h
  | .iface t x, v, Y, h => by
    cases v
    case iface u y =>
      obtain ⟨h1, h⟩ := ifB_no (b := Nat.beq t u) h
      obtain ⟨h2, h⟩ := aveqF_spec x y Y h
      rw [Nat.eq_of_beq_eq_true h1, h2]; exact ⟨rfl, h⟩
    all_goals exact Bool.noConfusion h
  | .func f a b, v, Y, h => by
    cases v
    case func g c d =>
      obtain ⟨h1, h⟩ := ifB_no (b := Nat.beq f g) h
      obtain ⟨h2, h⟩ := aveqsF_spec a c _ h
      obtain ⟨h3, h⟩ := aveqsF_spec b d Y h
      rw [Nat.eq_of_beq_eq_true h1, h2, h3]; exact ⟨rfl, h⟩
    all_goals exact Bool.noConfusion h
  | .tup cs, v, Y, h => by
    obtain ⟨m, h1, h2⟩ := onTup_spec (v := v) h
    obtain ⟨h3, h4⟩ := aveqsF_spec cs m Y h2
    rw [h1, h3]; exact ⟨rfl, h4⟩
theorem aveqsF_spec : ∀ (l m : List AV) (Y : Bool), aveqsF l m Y = true → l = m ∧ Y = true
  | [], [], _, h => ⟨rfl, h⟩
  | [], _ :: _, _, h => Bool.noConfusion h
  | _ :: _, [], _, h => Bool.noConfusion h
  | a :: l, b :: m, Y, h => by
    obtain ⟨h1, h2⟩ := aveqF_spec a b _ h
    obtain ⟨h3, h4⟩ := aveqsF_spec l m Y h2
    exact ⟨by rw [h1, h3], h4⟩
end
mutual
theorem aveq_refl : ∀ v : AV, aveq v v = true
  | .bool _ => by simp [aveq]
  | .int _ _ => by simp [aveq]
  | .str _ => by simp [aveq]
  | .nilp => rfl
  | .ptr _ _ => by simp [aveq]
  | .nils => rfl
  | .slice _ _ _ _ => by simp [aveq]
  | .gslice _ _ _ _ => by simp [aveq]
  | .nilm => rfl
  | .map _ => by simp [aveq]
  | .nilf => rfl
  | .func _ a b => by simp [aveq, avseq_refl a, avseq_refl b]
  | .yield _ => by simp [aveq]
  | .nili => rfl
  | .iface _ v => by simp [aveq, aveq_refl v]
  | .agg l => by simp [aveq, avseq_refl l]
  | .tup l => by simp [aveq, avseq_refl l]
theorem avseq_refl : ∀ l : List AV, avseq l l = true
  | [] => rfl
  | a :: l => by simp [avseq, aveq_refl a, avseq_refl l]
end
theorem sameK_spec {u v : AV} {Y : Bool} (h : sameK u v Y = true) : aveq u v = true ∧ Y = true := by
  rcases ifB_true h with ⟨h1, h2⟩ | ⟨_, h2⟩
  · obtain ⟨h3, _⟩ := aveqF_spec u v true h1
    rw [h3]; exact ⟨aveq_refl v, h2⟩
  · exact ifB_no h2

/-! ## Regions whose order is drawn -/
def PendOK : List Pend → List Pend → Prop
  | [], l => l = []
  | p :: l, m => ∃ q m', m = q :: m' ∧ p.till = q.till ∧ p.v = q.v ∧ (∀ h, aop .nil h p.op = aop q.tm h q.op) ∧ PendOK l m'

theorem chkSlow_spec {op : ROp} {v : AV} {n : Nat} {t : Hp} {h : Heap} {Y : Bool} (hh : HeapOK n t h) (hk : chkSlow op v n t Y = true) : (∃ u h', aop .nil h op = some (u, h') ∧ aveq u v = true) ∧ Y = true := by
  obtain ⟨l, hk⟩ := deepK_spec (K := fun l => bring l t .nil fun s => optK (aop .nil ⟨n, s⟩ op) fun r => @Prod.rec AV Heap (fun _ => Bool) (fun u _ => sameK u v Y) r) hh hk
  obtain ⟨s, hk, hs⟩ := bring_spec hh hk
  obtain ⟨⟨u, hl'⟩, hp, hk⟩ := optK_some hk
  obtain ⟨h1, h2⟩ := sameK_spec (show sameK u v Y = true from hk)
  have part : Part ⟨n, s⟩ h := ⟨hh.next.symm, fun b x hb => by
    have hb' : s.get b = some x := hb
    rw [hs b] at hb'
    split at hb'
    · split at hb'
      · rename_i h1; rw [h1]; exact hb'
      · cases hb'
    · cases hb'⟩
  obtain ⟨h', h3, _⟩ := part.aop hp
  exact ⟨⟨u, h', h3, h1⟩, h2⟩
theorem chkF_spec {op : ROp} {v : AV} {n : Nat} {t : Hp} {h : Heap} {Y : Bool} (hh : HeapOK n t h) (hk : chkF op op v n t Y = true) : (∃ u h', aop .nil h op = some (u, h') ∧ aveq u v = true) ∧ Y = true := by
  cases op
  case ld g a =>
    cases a with
    | t i => exact Bool.noConfusion hk
    | c p =>
      have hk' : onPtr p (fun b o => cellsB t b fun cs _ => partK cs o g fun u => sameK u v Y) = true := hk
      obtain ⟨b, o, h2, h3⟩ := onPtr_spec hk'
      obtain ⟨cs, gr, h4, h5⟩ := cells_spec hh h3
      obtain ⟨u, h6, h7⟩ := partK_spec h5
      obtain ⟨h8, h9⟩ := sameK_spec h7
      exact ⟨⟨u, h, by simp only [aop, ro, h2, Heap.cells, h4, h6], h8⟩, h9⟩
  all_goals exact chkSlow_spec hh hk
theorem stableK_spec {n k : Nat} {t : Hp} {h : Heap} (hh : HeapOK n t h) : ∀ {ps qs : List Pend} {Y : Bool}, PendOK ps qs → stableK n t k ps Y = true → stable h k qs = true ∧ Y = true
  | [], qs, Y, hp, hk => by rw [show qs = [] from hp]; exact ⟨rfl, hk⟩
  | ⟨till, tm, op, v⟩ :: ps, qs, Y, hp, hk => by
    obtain ⟨q, m, rfl, h1, h2, h3, h4⟩ := hp
    dsimp only at h1 h2 h3
    have hk' : ifB (Nat.ble k till) (chkF op op v n t (stableK n t k ps Y)) (stableK n t k ps Y) = true := hk
    simp only [stable]
    rcases ifB_true hk' with ⟨h5, h6⟩ | ⟨h5, h6⟩
    · obtain ⟨⟨u, h', h7, h8⟩, h9⟩ := chkF_spec hh h6
      obtain ⟨h10, h11⟩ := stableK_spec hh h4 h9
      refine ⟨?_, h11⟩
      rw [h10, ← h3, h7]
      cases Nat.blt q.till k with
      | true => rfl
      | false => dsimp only; rw [← h2, h8]; rfl
    · obtain ⟨h10, h11⟩ := stableK_spec hh h4 h6
      refine ⟨?_, h11⟩
      have : Nat.blt q.till k = true := by
        rw [← h1, Nat.blt_eq]
        have : ¬ k ≤ till := fun hle => by rw [Nat.ble_eq_true_of_le hle] at h5; cases h5
        omega
      rw [this, h10]; rfl

theorem ofClo_spec {e : KEnv} {tm : Env} (he : EnvOK e tm) {op : ROp} {K : ROp → List Nat → Bool} (hk : ofClo op e K = true) : ∃ op' l', K op' l' = true ∧ ∀ h, aop .nil h op' = aop tm h op := by
  cases op
  case ld => exact clo_ld he hk
  case bin => exact clo_bin he hk
  case lk => exact clo_lk he hk
  case blenMap => exact clo_blenMap he hk
  case cvOfBytes => exact clo_cvOfBytes he hk
  all_goals exact Bool.noConfusion hk

section
variable (hcall : CallOK P call) {X : DregF} {l : List (ROper × Nat)} {Q : Env → Heap → Prop} {K : KEnv → Nat → Hp → Bool} (ih : ∀ {k : Nat} {ps qs : List Pend} {e : KEnv} {tm : Env} {n : Nat} {t : Hp} {h : Heap}, EnvOK e tm → HeapOK n t h → PendOK ps qs → X call k ps e n t K = true →
    dopsW (CallW P) l k qs tm h Q)
  include hcall ih
theorem dItem_ok {op : ROp} {till : Nat} {d : Option Nat} {k : Nat} {ps qs : List Pend} {e : KEnv} {tm : Env} {n : Nat} {t : Hp} {h : Heap} (he : EnvOK e tm) (hh : HeapOK n t h) (hp : PendOK ps qs)
    (hk : dItem op.writes op.reads till d op X call k ps e n t K = true) :
    match op.writes with
      | true => oneW (CallW P) tm h op fun v h' => stable h' (k + 1) qs = true ∧ dopsW (CallW P) l (k + 1) qs (putD tm d v) h' Q
      | false => ∃ v h', aop tm h op = some (v, h') ∧ dopsW (CallW P) l k (match op.reads && Nat.blt k till with | true => ⟨till, tm, op, v⟩ :: qs | false => qs) (putD tm d v) h' Q := by
  cases hw : op.writes with
  | true =>
    rw [hw] at hk
    have hk' : ofOp op call e n t (fun n t v => stableK n t (k + 1) ps (ofDst d v e fun e => X call (k + 1) ps e n t K)) = true := hk
    refine oneW.mono (op_ok he hh hcall hk') ?_
    rintro v h' ⟨n', t', h1, h2⟩
    obtain ⟨h3, h4⟩ := stableK_spec h1 hp h2
    obtain ⟨e', h5, h6⟩ := ofDst_spec he h4
    exact ⟨h3, ih h5 h1 hp h6⟩
  | false =>
    rw [hw] at hk
    dsimp only
    cases hr : op.reads with
    | true =>
      rw [hr] at hk
      have hk' : ofOp op call e n t (fun n t v => ifB (Nat.ble (Nat.add k (nat_lit 1)) till) (ofClo op e fun op' _ => ofDst d v e fun e => X call k (⟨till, .nil, op', v⟩ :: ps) e n t K) (ofDst d v e fun e => X call k ps e n t K)) = true := hk
      obtain ⟨v, h', h1, n', t', h2, h3⟩ := op_plain he hh hw hk'
      refine ⟨v, h', h1, ?_⟩
      rcases ifB_true h3 with ⟨h4, h5⟩ | ⟨h4, h5⟩
      · have : Nat.blt k till = true := h4
        simp only [this, Bool.and_self]
        obtain ⟨op', l', h6, h7⟩ := ofClo_spec he h5
        obtain ⟨e', h8, h9⟩ := ofDst_spec he h6
        exact ih h8 h2 (show PendOK (⟨till, .nil, op', v⟩ :: ps) (⟨till, tm, op, v⟩ :: qs) from ⟨_, _, rfl, rfl, rfl, h7, hp⟩) h9
      · have : Nat.blt k till = false := h4
        simp only [this, Bool.and_false]
        obtain ⟨e', h8, h9⟩ := ofDst_spec he h5
        exact ih h8 h2 hp h9
    | false =>
      rw [hr] at hk
      have hk' : ofOp op call e n t (fun n t v => ofDst d v e fun e => X call k ps e n t K) = true := hk
      obtain ⟨v, h', h1, n', t', h2, h3⟩ := op_plain he hh hw hk'
      refine ⟨v, h', h1, ?_⟩
      simp only [Bool.false_and]
      obtain ⟨e', h8, h9⟩ := ofDst_spec he h3
      exact ih h8 h2 hp h9
theorem dOff_true {d : Option Nat} {k : Nat} {ps qs : List Pend} {e : KEnv} {tm : Env} {n : Nat} {t : Hp} {h : Heap} (he : EnvOK e tm) (hh : HeapOK n t h) (hp : PendOK ps qs)
    (hk : dOff true d X call k ps e n t K = true) : dopsW (CallW P) l (k + 1) qs (putD tm d .undef) h Q := by
  have _ := hcall
  have hk' : ofDst d .undef e (fun e => X call (k + 1) ps e n t K) = true := hk
  obtain ⟨e', h8, h9⟩ := ofDst_spec he hk'
  exact ih h8 hh hp h9
theorem dOff_false {d : Option Nat} {k : Nat} {ps qs : List Pend} {e : KEnv} {tm : Env} {n : Nat} {t : Hp} {h : Heap} (he : EnvOK e tm) (hh : HeapOK n t h) (hp : PendOK ps qs)
    (hk : dOff false d X call k ps e n t K = true) : dopsW (CallW P) l k qs (putD tm d .undef) h Q := by
  have _ := hcall
  have hk' : ofDst d .undef e (fun e => X call k ps e n t K) = true := hk
  obtain ⟨e', h8, h9⟩ := ofDst_spec he hk'
  exact ih h8 hh hp h9
end

theorem dops_tail (hcall : CallOK P call) {K : KEnv → Nat → Hp → Bool} {Q : Env → Heap → Prop} {rest : DregF} {r : List (ROper × Nat)}
    (hr : ∀ {k : Nat} {ps qs : List Pend} {e : KEnv} {tm : Env} {n : Nat} {t : Hp} {h : Heap}, EnvOK e tm → HeapOK n t h → PendOK ps qs → rest call k ps e n t K = true → dopsW (CallW P) r k qs tm h Q) :
    ∀ {l : List (ROper × Nat)} {k : Nat} {ps qs : List Pend} {e : KEnv} {tm : Env} {n : Nat} {t : Hp} {h : Heap}, EnvOK e tm → HeapOK n t h → PendOK ps qs → ofDops l rest call k ps e n t K = true →
    dopsW (CallW P) (l ++ r) k qs tm h Q
  | [], k, ps, qs, e, tm, n, t, h, he, hh, hp, hk => hr he hh hp hk
  | (⟨d, op, none⟩, till) :: l, k, ps, qs, e, tm, n, t, h, he, hh, hp, hk => by
    have h1 := dItem_ok hcall (X := ofDops l rest) (l := l ++ r) (fun he hh hp hk => dops_tail hcall hr he hh hp hk) he hh hp (show dItem op.writes op.reads till d op (ofDops l rest) call k ps e n t K = true from hk)
    simp only [List.cons_append, dopsW, wantedR]
    exact h1
  | (⟨d, op, some (s, want)⟩, till) :: l, k, ps, qs, e, tm, n, t, h, he, hh, hp, hk => by
    have hk' : rd s e (fun v => wantV v want (dItem op.writes op.reads till d op (ofDops l rest) call k ps e n t K) (dOff op.writes d (ofDops l rest) call k ps e n t K)) = true := hk
    have h1 := rd_spec he hk'
    rcases want_spec h1 with ⟨h2, h3⟩ | ⟨h2, h3⟩
    · have h4 := dItem_ok hcall (X := ofDops l rest) (l := l ++ r) (fun he hh hp hk => dops_tail hcall hr he hh hp hk) he hh hp h3
      simp only [List.cons_append, dopsW, h2]
      exact h4
    · simp only [List.cons_append, dopsW, h2]
      cases hw : op.writes with
      | true => rw [hw] at h3; exact dOff_true hcall (X := ofDops l rest) (l := l ++ r) (fun he hh hp hk => dops_tail hcall hr he hh hp hk) he hh hp h3
      | false => rw [hw] at h3; exact dOff_false hcall (X := ofDops l rest) (l := l ++ r) (fun he hh hp hk => dops_tail hcall hr he hh hp hk) he hh hp h3

theorem dops_ok (hcall : CallOK P call) {K : KEnv → Nat → Hp → Bool} {l : List (ROper × Nat)} {k : Nat} {ps qs : List Pend} {e : KEnv} {tm : Env} {n : Nat} {t : Hp} {h : Heap} (he : EnvOK e tm) (hh : HeapOK n t h) (hp : PendOK ps qs) (hk : ofDops l dz call k ps e n t K = true) :
    dopsW (CallW P) l k qs tm h (GoodR K) := by
  have := dops_tail hcall (K := K) (Q := GoodR K) (rest := dz) (r := []) (fun {k ps qs e tm n t h} he hh hp hk => (⟨e, n, t, he, hh, hk⟩ : GoodR K tm h)) he hh hp hk
  simpa using this

/-! Two stores into two blocks. -/
theorem noPend_spec {k : Nat} {h : Heap} {Y : Bool} : ∀ {ps qs : List Pend}, PendOK ps qs → noPend k ps Y = true → (∀ h j, k < j → stable h j qs = true) ∧ Y = true
  | [], qs, hp, hk => by rw [show qs = [] from hp]; exact ⟨fun _ _ _ => rfl, hk⟩
  | ⟨till, tm, op, v⟩ :: ps, qs, hp, hk => by
    obtain ⟨q, m, rfl, h1, h2, h3, h4⟩ := hp
    dsimp only at h1
    have hk' : ifB (Nat.ble (k + 1) till) false (noPend k ps Y) = true := hk
    rcases ifB_true hk' with ⟨_, h5⟩ | ⟨h5, h6⟩
    · cases h5
    · obtain ⟨h7, h8⟩ := noPend_spec (h := h) h4 h6
      refine ⟨fun g j hj => ?_, h8⟩
      have : Nat.blt q.till j = true := by
        rw [← h1, Nat.blt_eq]
        have : ¬ k + 1 ≤ till := fun hle => by rw [Nat.ble_eq_true_of_le hle] at h5; cases h5
        omega
      simp only [stable, this, h7 g j hj]; rfl

theorem writeCells_get {h h' : Heap} {b o : Nat} {vs : List AV} (hw : writeCells h b o vs = some h') : ∃ x, h' = h.set b x ∧ ∀ g : Heap, g.get b = h.get b → writeCells g b o vs = some (g.set b x) := by
  unfold writeCells at hw
  split at hw
  · rename_i cs g h1
    split at hw
    · rename_i h2
      split at hw
      · rename_i cs' h3
        cases hw
        refine ⟨_, rfl, fun g hg => ?_⟩
        unfold writeCells
        rw [hg, h1]; dsimp only; rw [h2]; dsimp only; rw [h3]
      · cases hw
    · cases hw
  · cases hw

theorem st_inv {tm : Env} {h h' : Heap} {m : Nat} {a x : RO} {v : AV} (e : aop tm h (.st m a x) = some (v, h')) : ∃ b o, ro tm a = .ptr b o ∧ v = .undef ∧ Nat.beq (ro tm x).cells.length m = true ∧ writeCells h b o (ro tm x).cells = some h' := by
  simp only [aop] at e
  split at e
  · rename_i b o hp
    split at e
    · rename_i hb
      split at e
      · rename_i h1
        cases e
        exact ⟨b, o, hp, rfl, hb, h1⟩
      · cases e
    · cases e
  · cases e
theorem st_mk {tm : Env} {h h' : Heap} {m : Nat} {a x : RO} {b o : Nat} (h1 : ro tm a = .ptr b o) (h2 : Nat.beq (ro tm x).cells.length m = true) (h3 : writeCells h b o (ro tm x).cells = some h') : aop tm h (.st m a x) = some (.undef, h') := by
  simp only [aop, h1, h2, h3]

theorem dE_ok {K : KEnv → Nat → Hp → Bool} {n1 n2 : Nat} {a1 x1 a2 x2 : RO} {t1 t2 k : Nat} {ps qs : List Pend} {e : KEnv} {tm : Env} {n : Nat} {t : Hp} {h : Heap} (he : EnvOK e tm) (hh : HeapOK n t h) (hp : PendOK ps qs)
    (hk : dE n1 (ofRO a1) (ofRO x1) n2 (ofRO a2) (ofRO x2) call k ps e n t K = true) :
    dopsW (CallW P) [(⟨none, .st n1 a1 x1, none⟩, t1), (⟨none, .st n2 a2 x2, none⟩, t2)] k qs tm h (GoodR K) ∧ dopsW (CallW P) [(⟨none, .st n2 a2 x2, none⟩, t2), (⟨none, .st n1 a1 x1, none⟩, t1)] k qs tm h (GoodR K) := by
  obtain ⟨hs, hk⟩ := noPend_spec (h := h) hp hk
  obtain ⟨b1, o1, p1, hk⟩ := onPtr_spec (ofRO_spec he hk)
  obtain ⟨b2, o2, p2, hk⟩ := onPtr_spec (ofRO_spec he hk)
  rcases ifB_true hk with ⟨_, hf⟩ | ⟨hne, hk⟩
  · cases hf
  have hbb : b1 ≠ b2 := fun e => by rw [e, Nat.beq_refl] at hne; cases hne
  obtain ⟨v1, h1, g1, n', t', hh1, hk1⟩ := op_st (call := call) he hh hk
  obtain ⟨v2, h2, g2, n'', t'', hh2, hk2⟩ := op_st (call := call) he hh1 hk1
  obtain ⟨c1, q1, e1, rfl, f1, w1⟩ := st_inv g1
  obtain ⟨c2, q2, e2, rfl, f2, w2⟩ := st_inv g2
  rw [p1] at e1; cases e1
  rw [p2] at e2; cases e2
  obtain ⟨y1, rfl, z1⟩ := writeCells_get w1
  obtain ⟨y2, rfl, z2⟩ := writeCells_get w2
  have w2' : writeCells h b2 o2 (ro tm x2).cells = some (h.set b2 y2) := z2 h (by rw [Heap.get_set, if_neg (Ne.symm hbb)])
  have w1' : writeCells (h.set b2 y2) b1 o1 (ro tm x1).cells = some ((h.set b2 y2).set b1 y1) := z1 _ (by rw [Heap.get_set, if_neg hbb])
  constructor
  · simp only [dopsW, wantedR, ROp.writes]
    refine ⟨_, _, g1, hs _ _ (by omega), _, _, g2, hs _ _ (by omega), ?_⟩
    exact ⟨e, n'', t'', he, hh2, hk2⟩
  · simp only [dopsW, wantedR, ROp.writes]
    refine ⟨_, _, st_mk p2 f2 w2', hs _ _ (by omega), _, _, st_mk p1 f1 w1', hs _ _ (by omega), ?_⟩
    refine ⟨e, n'', t'', he, hh2.congr rfl fun b => ?_, hk2⟩
    simp only [Heap.get_set]
    by_cases h1 : b = b1
    · subst h1; simp [hbb]
    · simp [h1]
end
end Go.Ev.K

namespace Go.Ev.K
open Go Go.Ev

section
variable {P : Program}
theorem opsW_mono {Q Q' : Env → Heap → Prop} (hq : ∀ tm h, Q tm h → Q' tm h) : ∀ {l : List ROper} {tm : Env} {h : Heap}, opsW (CallW P) l tm h Q → opsW (CallW P) l tm h Q'
  | [], tm, h, hk => hq _ _ hk
  | o :: l, tm, h, hk => by
    simp only [opsW] at hk ⊢
    cases hw : wantedR tm o.guard with
    | true => rw [hw] at hk; exact oneW.mono hk fun v h' h2 => opsW_mono hq h2
    | false => rw [hw] at hk; exact opsW_mono hq hk
theorem dopsW_mono {Q Q' : Env → Heap → Prop} (hq : ∀ tm h, Q tm h → Q' tm h) : ∀ {l : List (ROper × Nat)} {k : Nat} {ps : List Pend} {tm : Env} {h : Heap}, dopsW (CallW P) l k ps tm h Q → dopsW (CallW P) l k ps tm h Q'
  | [], k, ps, tm, h, hk => hq _ _ hk
  | (o, till) :: l, k, ps, tm, h, hk => by
    simp only [dopsW] at hk ⊢
    cases hw : wantedR tm o.guard with
    | true =>
      rw [hw] at hk
      dsimp only at hk ⊢
      cases ho : o.op.writes with
      | true => rw [ho] at hk; exact oneW.mono hk fun v h' h2 => ⟨h2.1, dopsW_mono hq h2.2⟩
      | false => rw [ho] at hk; obtain ⟨v, h', h1, h2⟩ := hk; exact ⟨v, h', h1, dopsW_mono hq h2⟩
    | false => rw [hw] at hk; exact dopsW_mono hq hk

/-! ## Code -/
theorem EnvOK.congr {e : KEnv} {tm tm' : Env} (he : EnvOK e tm) (hl : ∀ i, tm'.look i = tm.look i) : EnvOK e tm' := by
  obtain ⟨⟨f, h1, h2⟩, h3⟩ := he
  exact ⟨⟨f, h1, fun a b => by rw [hl, h2]⟩, fun i hi => by rw [hl, h3 i hi]⟩

/-- another environment with the same values -/
theorem aw_tm {nt : Nat} {pre : List Item} {tm tm' : Env} {h : Heap} {m : List Nat} {r : Option Nat} {Q : Ex → St → Prop} (hl : ∀ i, tm'.look i = tm.look i) (ha : AW P nt pre ⟨tm', h, m, r⟩ Q) : AW P nt pre ⟨tm, h, m, r⟩ Q := by
  intro ι w a b hat
  exact ha ι w a b ⟨hat.rel, fun i => by have := hat.tm i; rw [← hl i] at this; exact this, hat.nt, hat.defers, hat.round⟩

/-! ### The environment as a trie -/
def Tr.low {α : Type} (d : Nat) (t : Tr α) : Prop := ∀ k, 2 ^ d ≤ k + 1 → t.get k = none
theorem Tr.low_nil {α : Type} {d : Nat} : Tr.low d (Tr.nil : Tr α) := fun _ _ => rfl
theorem Tr.low_node {α : Type} {d : Nat} {l : Tr α} {v : Option α} {r : Tr α} (hl : Tr.low d l) (hr : Tr.low d r) : Tr.low (d + 1) (.node l v r) := by
  intro k hk
  have hp : 0 < 2 ^ d := Nat.two_pow_pos d
  have hs : 2 ^ (d + 1) = 2 * 2 ^ d := by rw [Nat.pow_succ]; omega
  rw [hs] at hk
  cases k with
  | zero => omega
  | succ k =>
    rw [Tr.get_succ]
    split
    · exact hl _ (by omega)
    · exact hr _ (by omega)
theorem trieOf_low (f : D → D → AV) : Tr.low 8 (trieOf f) := by
  unfold trieOf
  repeat (first | exact Tr.low_nil | apply Tr.low_node)
theorem trieOf_at (f : D → D → AV) : ∀ a b : D, (a = .d15 → b = .d15 → False) → Env.look (trieOf f) (16 * a.nat + b.nat) = f a b := by
  intro a b h
  cases a
  case d15 => cases b <;> first | rfl | exact (h rfl rfl).elim
  all_goals (cases b <;> rfl)

theorem low_look {t : Tr AV} (hl : Tr.low 8 t) {i : Nat} (h : 255 ≤ i) : Env.look t i = .undef := by
  unfold Env.look
  rw [hl i (by show 256 ≤ i + 1; omega)]
theorem trN_eq (f : D → D → AV) (K : Tr AV → Bool) : (mk16 (α := A1) fun a => mk16 (f a)) (trN K) = K (trieOf f) := by kernel_rfl
theorem trN_spec {e : KEnv} {tm : Env} {K : Tr AV → Bool} (he : EnvOK e tm) (hk : e (trN K) = true) : ∃ tm', (∀ i, Env.look tm' i = tm.look i) ∧ K tm' = true := by
  obtain ⟨⟨f, rfl, hf⟩, hfar⟩ := he
  refine ⟨trieOf f, fun i => ?_, (trN_eq f K).symm.trans hk⟩
  by_cases hi : i < 255
  · have h1 := trieOf_at f (D.of (i / 16)) (D.of (i % 16)) (fun h1 h2 => by
      have e1 := congrArg D.nat h1
      have e2 := congrArg D.nat h2
      rw [D.nat_of (by omega)] at e1 e2
      simp only [D.nat] at e1 e2
      omega)
    have h2 := hf (D.of (i / 16)) (D.of (i % 16))
    rw [D.nat_of (by omega), D.nat_of (by omega), show 16 * (i / 16) + i % 16 = i by omega] at h1 h2
    rw [h1, h2]
  · rw [hfar i (by omega)]
    exact low_look (trieOf_low f) (by omega)

/-! ### What a continuation of code is given -/
noncomputable def exK (kn : Kn) (ke : Ke) (x : Ex) : Kn := @Ex.rec (fun _ => Kn) kn (fun id => ke (.exit id)) (ke .ret) x
def GoodC (r : Option Nat) (kn : Kn) (ke : Ke) (x : Ex) (s : St) : Prop := s.round = r ∧ ∃ e n t, EnvOK e s.tm ∧ HeapOK n t s.h ∧ exK kn ke x e n t s.marks = true

def jmp : Option Jump → Ex
  | none => .normal
  | some .ret => .ret
  | some (.exit id) => .exit id
theorem endK_spec {L : Nat} {r : Option Nat} {marks : List Nat} {e : KEnv} {tm : Env} {kn : Kn} {ke : Ke} {n : Nat} {t : Hp} {h' h0 : Heap} (he : EnvOK e tm) (hh : HeapOK n t h') (hk : endK L marks e kn ke n t = true) :
    ∃ x s', loopEnd L ⟨tm, h0, marks, r⟩ h' = some (x, s') ∧ GoodC r kn ke x s' := by
  obtain ⟨st, pd, tm', ps, as, bd, d, h1, h2, h3⟩ := loop_spec hh hk
  have hb : st ≠ .busy ∧ hputK L (.loop .exhausted pd tm' ps as bd d) t (fun t' => jumpK pd kn ke e n t' marks) = true := by
    cases st
    case busy => exact Bool.noConfusion h3
    all_goals exact ⟨nofun, h3⟩
  obtain ⟨t', h4, h5⟩ := hput_spec hh (x := .loop .exhausted pd tm' ps as bd d) h2 hb.2
  have hl : loopEnd L ⟨tm, h0, marks, r⟩ h' = some (jmp pd, ⟨tm, h'.set L (.loop .exhausted pd tm' ps as bd d), marks, r⟩) := by
    unfold loopEnd
    rw [h1]
    cases st
    case busy => exact absurd rfl hb.1
    all_goals (cases pd with | none => rfl | some j => cases j <;> rfl)
  cases pd with
  | none => exact ⟨.normal, _, hl, rfl, e, n, t', he, h4, h5⟩
  | some j =>
    cases j with
    | ret => exact ⟨.ret, _, hl, rfl, e, n, t', he, h4, h5⟩
    | exit id => exact ⟨.exit id, _, hl, rfl, e, n, t', he, h4, h5⟩

theorem ofD2_spec {pre : List (ROper × Nat)} {p q : ROper} {F : Nat} {call : CallK} {r : Option Nat} {e : KEnv} {n : Nat} {t : Hp} {m : List Nat} {kn : Kn} {ke : Ke} (hk : ofD2 pre p q F call r e n t m kn ke = true) :
    ∃ n1 a1 x1 n2 a2 x2, p = ⟨none, .st n1 a1 x1, none⟩ ∧ q = ⟨none, .st n2 a2 x2, none⟩ ∧ ofDops pre (dE n1 (ofRO a1) (ofRO x1) n2 (ofRO a2) (ofRO x2)) call 0 [] e n t (fun e n t => kn e n t m) = true := by
  obtain ⟨d1, op1, g1⟩ := p
  obtain ⟨d2, op2, g2⟩ := q
  cases d1 with
  | some _ => exact Bool.noConfusion hk
  | none =>
    cases op1
    case st n1 a1 x1 =>
      cases g1 with
      | some _ => exact Bool.noConfusion hk
      | none =>
        cases d2 with
        | some _ => exact Bool.noConfusion hk
        | none =>
          cases op2
          case st n2 a2 x2 =>
            cases g2 with
            | some _ => exact Bool.noConfusion hk
            | none => exact ⟨n1, a1, x1, n2, a2, x2, rfl, rfl, hk⟩
          all_goals exact Bool.noConfusion hk
    all_goals exact Bool.noConfusion hk
section
variable {call : CallK} (hmix : P.follows .mixedOrders = true) {H : Hook} (hH : HookOK P H) (hcall : CallOK P call)
  include hmix hH hcall
theorem code_ok (F : Nat) : ∀ (c₀ : Code) {nt : Nat} {c : RCode} {r : Option Nat} {e : KEnv} {n : Nat} {t : Hp} {m : List Nat} {kn : Kn} {ke : Ke} {tm : Env} {h : Heap}, resCode P nt c₀ = some c → EnvOK e tm → HeapOK n t h → ofC H c F call r e n t m kn ke = true →
    AW P nt [.code c₀] ⟨tm, h, m, r⟩ (GoodC r kn ke)
  | .skip, nt, c, r, e, n, t, m, kn, ke, tm, h, hc, he, hh, hk => by
    simp only [resCode] at hc; cases hc
    exact aw_skip ⟨rfl, e, n, t, he, hh, hk⟩
  | .label l, nt, c, r, e, n, t, m, kn, ke, tm, h, hc, he, hh, hk => by
    simp only [resCode] at hc; cases hc
    exact aw_label ⟨rfl, e, n, t, he, hh, hk⟩
  | .region id ops false, nt, c, r, e, n, t, m, kn, ke, tm, h, hc, he, hh, hk => by
    simp only [resCode] at hc
    split at hc
    · rename_i l hl
      cases hc
      have h1 := ops_ok hH hcall he hh (show ofOps H l call e n t (fun e n t => kn e n t m) = true from hk)
      exact aw_reg hl (opsW_mono (fun tm' h' ⟨e', n', t', a1, a2, a3⟩ => ⟨rfl, e', n', t', a1, a2, a3⟩) h1)
    · cases hc; exact Bool.noConfusion hk
  | .region id ops true, nt, c, r, e, n, t, m, kn, ke, tm, h, hc, he, hh, hk => by
    simp only [resCode] at hc
    split at hc
    · rename_i l hl
      split at hc
      · rename_i lm hm
        cases hc
        have h1 := dops_ok hcall he hh (show PendOK [] [] from rfl) (show ofDops lm dz call 0 [] e n t (fun e n t => kn e n t m) = true from hk)
        exact aw_dreg hmix hl hm (dopsW_mono (fun tm' h' ⟨e', n', t', a1, a2, a3⟩ => ⟨rfl, e', n', t', a1, a2, a3⟩) h1)
      · split at hc
        · rename_i pre p q hm
          cases hc
          obtain ⟨p, t1⟩ := p
          obtain ⟨q, t2⟩ := q
          obtain ⟨n1, a1, x1, n2, a2, x2, rfl, rfl, hk1⟩ := ofD2_spec (show ofD2 pre p q F call r e n t m kn ke = true from hk)
          have hg : ∀ tm' h', GoodR (fun e n t => kn e n t m) tm' h' → GoodC r kn ke .normal ⟨tm', h', m, r⟩ := fun tm' h' ⟨e', n', t', a1, a2, a3⟩ => ⟨rfl, e', n', t', a1, a2, a3⟩
          exact aw_dreg2 hmix hl hm
            (dopsW_mono hg (dops_tail hcall (fun he hh hp hk => (dE_ok he hh hp hk).1) he hh (show PendOK [] [] from rfl) hk1))
            (dopsW_mono hg (dops_tail hcall (fun he hh hp hk => (dE_ok he hh hp hk).2) he hh (show PendOK [] [] from rfl) hk1))
        · cases hc; exact Bool.noConfusion hk
    · cases hc; exact Bool.noConfusion hk
  | .seq x y, nt, c, r, e, n, t, m, kn, ke, tm, h, hc, he, hh, hk => by
    simp only [resCode] at hc
    split at hc
    · rename_i a b ha hb
      cases hc
      have h1 := code_ok F x ha he hh (show ofC H a F call r e n t m (fun e n t m => ofC H b F call r e n t m kn ke) ke = true from hk)
      refine aw_seq (h1.mono fun x s' hg => ?_)
      cases x with
      | normal =>
        obtain ⟨hr, e', n', t', a1, a2, a3⟩ := hg
        obtain ⟨tm', h', m', r'⟩ := s'
        cases hr
        exact code_ok F y hb a1 a2 a3
      | exit id => exact hg
      | ret => exact hg
    · cases hc
  | .cond c0 x y, nt, c, r, e, n, t, m, kn, ke, tm, h, hc, he, hh, hk => by
    simp only [resCode] at hc
    split at hc
    · rename_i q a b hq ha hb
      cases hc
      have h1 := ofRO_spec he (x := q) (K := fun v => onBool v (ofC H a F call r e n t m kn ke) (ofC H b F call r e n t m kn ke)) hk
      rcases onBool_spec h1 with ⟨h2, h3⟩ | ⟨h2, h3⟩
      · exact aw_cond hq h2 (code_ok F x ha he hh h3)
      · exact aw_cond hq h2 (code_ok F y hb he hh h3)
    · cases hc
  | .block id x, nt, c, r, e, n, t, m, kn, ke, tm, h, hc, he, hh, hk => by
    simp only [resCode] at hc
    split at hc
    · rename_i a ha
      cases hc
      have h1 := code_ok F x ha he hh (show ofC H a F call r e n t m kn (blkX id kn ke) = true from hk)
      refine aw_block (h1.mono fun x s' hg => ?_)
      cases x with
      | normal => exact hg
      | exit id' =>
        obtain ⟨hr, e', n', t', a1, a2, a3⟩ := hg
        have a3' : ifB (Nat.beq id' id) (kn e' n' t' s'.marks) (ke (.exit id') e' n' t' s'.marks) = true := a3
        unfold Ex.inBlk
        dsimp only
        rcases ifB_true a3' with ⟨b1, b2⟩ | ⟨b1, b2⟩
        · rw [if_pos (Nat.eq_of_beq_eq_true b1)]
          exact ⟨hr, e', n', t', a1, a2, b2⟩
        · rw [if_neg (fun e => by rw [e, Nat.beq_refl] at b1; cases b1)]
          exact ⟨hr, e', n', t', a1, a2, b2⟩
      | ret => exact hg
    · cases hc
  | .loop x, nt, c, r, e, n, t, m, kn, ke, tm, h, hc, he, hh, hk => by
    simp only [resCode] at hc
    split at hc
    · rename_i a ha
      cases hc
      have loop : ∀ (i : Nat) {e : KEnv} {n : Nat} {t : Hp} {m : List Nat} {tm : Env} {h : Heap}, EnvOK e tm → HeapOK n t h → loopF (ofC H a) F call r ke i e n t m = true →
          AW P nt [.code x] ⟨tm, h, m, r⟩ (Ex.thn (fun s' => AW P nt [.inLoop x] s' (GoodC r kn ke)) (GoodC r kn ke)) := by
        intro i
        induction i with
        | zero => intro e n t m tm h he hh hk; exact Bool.noConfusion hk
        | succ i ih =>
          intro e n t m tm h he hh hk
          have h1 := code_ok F x ha he hh (show ofC H a F call r e n t m (loopF (ofC H a) F call r ke i) ke = true from hk)
          refine h1.mono fun z s' hg => ?_
          cases z with
          | normal =>
            obtain ⟨hr, e', n', t', a1, a2, a3⟩ := hg
            obtain ⟨tm', h', m', r'⟩ := s'
            cases hr
            exact aw_inLoop (ih a1 a2 a3)
          | exit id => exact hg
          | ret => exact hg
      exact aw_loop (loop F he hh hk)
    · cases hc
  | .scope x, nt, c, r, e, n, t, m, kn, ke, tm, h, hc, he, hh, hk => by
    simp only [resCode] at hc
    exact aw_scope (code_ok F x hc he hh hk)
  | .rangeFunc f ps as bd, nt, c, r, e, n, t, m, kn, ke, tm, h, hc, he, hh, hk => by
    simp only [resCode] at hc
    split at hc
    · rename_i q a b hq ha hb hps
      cases hc
      have hps' : ∀ i ∈ ps.toList, i < nt := fun i hi => by
        have := List.all_eq_true.1 hps i hi
        rw [Nat.blt_eq] at this; exact this
      have h1 := ofRO_spec he (x := q) (K := fun fv => @Option.rec Nat (fun _ => Bool) (e (trN (rangeOwn call fv ps.toList a b e n t m kn ke))) (fun L => e (trN (rangeIn call L fv ps.toList a b e n t m kn ke))) r) hk
      have hq2 : ∀ tm', (∀ i, Env.look tm' i = tm.look i) → ro tm' q = ro tm q := fun tm' hl => by
        cases q with
        | t i => exact hl i
        | c v => rfl
      cases r with
      | none =>
        obtain ⟨tm', hl, h2⟩ := trN_spec he h1
        have he' := he.congr hl
        obtain ⟨t1, b1, b2⟩ := push_spec hh (x := .deferred true) trivial h2
        obtain ⟨t2, b3, b4⟩ := push_spec b1 (x := .loop .ready none tm' ps.toList a b n) he'.far b2
        have h3 := hcall _ _ _ _ _ _ b3 b4
        refine aw_tm hl (aw_range_none hq ha hb hps' rfl ?_)
        have hn : h.next = n := hh.next
        dsimp only
        rw [hq2 tm' hl, hn]
        refine h3.mono ?_
        rintro v h' ⟨n3, t3, c1, c2⟩
        exact endK_spec (h0 := h) he' c1 c2
      | some L =>
        obtain ⟨tm', hl, h2⟩ := trN_spec he h1
        have he' := he.congr hl
        obtain ⟨st, pd, tm2, ps2, as2, bd2, d, g1, g2, g3⟩ := loop_spec hh h2
        obtain ⟨t2, b3, b4⟩ := push_spec hh (x := .loop .ready none tm' ps.toList a b d) he'.far g3
        have h3 := hcall _ _ _ _ _ _ b3 b4
        refine aw_tm hl (aw_range_some hq ha hb hps' rfl g1 ?_)
        have hn : h.next = n := hh.next
        dsimp only
        rw [hq2 tm' hl, hn]
        refine h3.mono ?_
        rintro v h' ⟨n3, t3, c1, c2⟩
        exact endK_spec (h0 := h) he' c1 c2
    · cases hc
  | .exit id, nt, c, r, e, n, t, m, kn, ke, tm, h, hc, he, hh, hk => by
    simp only [resCode] at hc; cases hc
    exact aw_exit ⟨rfl, e, n, t, he, hh, hk⟩
  | .ret, nt, c, r, e, n, t, m, kn, ke, tm, h, hc, he, hh, hk => by
    simp only [resCode] at hc; cases hc
    exact aw_ret ⟨rfl, e, n, t, he, hh, hk⟩
  | .goto _, nt, c, r, e, n, t, m, kn, ke, tm, h, hc, he, hh, hk => by
    simp only [resCode] at hc; cases hc; exact Bool.noConfusion hk
  | .refuse _, nt, c, r, e, n, t, m, kn, ke, tm, h, hc, he, hh, hk => by
    simp only [resCode] at hc; cases hc; exact Bool.noConfusion hk
end
end
end Go.Ev.K

namespace Go.Ev.K
open Go Go.Ev

section
variable {P : Program}

/-! ## Leaving a function -/
theorem oneK_eq (l : List AV) (K : AV → Bool) : oneK l K = K (one l) := by
  cases l with
  | nil => rfl
  | cons a l => cases l <;> rfl
theorem ofRes_spec {e : KEnv} {tm : Env} {n : Nat} {t : Hp} {h : Heap} (he : EnvOK e tm) (hh : HeapOK n t h) : ∀ {rs : List (Nat × Option (Option Nat))} {K : List AV → Bool}, ofRes rs e t K = true → ∃ l, resultsA tm h rs = some l ∧ K l = true
  | [], K, hk => ⟨[], rfl, hk⟩
  | (s, none) :: rs, K, hk => by
    have h1 := rd_spec (K := fun v => ofRes rs e t fun vs => K (v :: vs)) he hk
    obtain ⟨l, h2, h3⟩ := ofRes_spec he hh (rs := rs) h1
    exact ⟨_, by simp only [resultsA, h2], h3⟩
  | (s, some g) :: rs, K, hk => by
    have h1 := rd_spec (K := fun v => onPtr v fun b o => cellsB t b fun cs _ => partK cs o g fun v => ofRes rs e t fun vs => K (v :: vs)) he hk
    obtain ⟨b, o, h2, h3⟩ := onPtr_spec h1
    obtain ⟨cs, gr, h4, h5⟩ := cells_spec hh h3
    obtain ⟨v, h6, h7⟩ := partK_spec h5
    obtain ⟨l, h8, h9⟩ := ofRes_spec he hh (rs := rs) h7
    exact ⟨v :: l, by simp only [resultsA, h2, Heap.cells, h4, h6, h8], h9⟩
theorem markK_spec {n : Nat} : ∀ {m : List Nat} {t : Hp} {h : Heap} {K : Hp → Bool}, HeapOK n t h → markK m t K = true → ∃ h' t', dropMarks m h = some h' ∧ HeapOK n t' h' ∧ K t' = true
  | [], t, h, K, hh, hk => ⟨h, t, rfl, hh, hk⟩
  | b :: m, t, h, K, hh, hk => by
    obtain ⟨x, h1, h2⟩ := optK_some (hget_spec hh hk)
    cases x with
    | deferred d =>
      cases d with
      | true =>
        obtain ⟨t', h3, h4⟩ := hput_spec hh (x := .deferred false) (K := fun t' => markK m t' K) trivial h2
        obtain ⟨h', t2, h5, h6, h7⟩ := markK_spec h3 h4
        exact ⟨h', t2, by simp only [dropMarks, h1, h5], h6, h7⟩
      | false => exact Bool.noConfusion h2
    | bld _ => exact Bool.noConfusion h2
    | bytes _ => exact Bool.noConfusion h2
    | cells _ _ => exact Bool.noConfusion h2
    | map _ _ => exact Bool.noConfusion h2
    | loop _ _ _ _ _ _ _ => exact Bool.noConfusion h2
    | dead => exact Bool.noConfusion h2
theorem leave_spec {rs : List (Nat × Option (Option Nat))} {K : KV} {e : KEnv} {tm : Env} {n : Nat} {t : Hp} {m : List Nat} {h : Heap} (he : EnvOK e tm) (hh : HeapOK n t h) (hk : leaveK (ofRes rs) K e n t m = true) :
    ∃ h' l, dropMarks m h = some h' ∧ resultsA tm h' rs = some l ∧ Good K (one l) h' := by
  obtain ⟨h', t', h1, h2, h3⟩ := markK_spec hh hk
  obtain ⟨l, h4, h5⟩ := ofRes_spec he h2 (rs := rs) h3
  rw [oneK_eq] at h5
  exact ⟨h', l, h1, h4, n, t', h2, h5⟩

/-! ## Calls -/
/-- arguments that were captured are arguments -/
theorem callW_func {f : Nat} {a b args : List AV} {h : Heap} {Q : AV → Heap → Prop} (hc : CallW P (.func f [] []) (a ++ args ++ b) h Q) : CallW P (.func f a b) args h Q := by
  intro ι w fv argv r hf ha
  simp only [VR] at hf
  obtain ⟨a', b', rfl, h1, h2⟩ := hf
  have hall : VRs ι (a ++ args ++ b) (a'.toList ++ argv ++ b'.toList) := (h1.append ha).append h2
  obtain ⟨v, h', ι', v', w', q1, q2, q3, q4, q5⟩ := hc ι w (.func (.func f) #[] #[]) _ r (by simp only [VR]; exact ⟨#[], #[], rfl, VRs.nil.2 rfl, VRs.nil.2 rfl⟩) hall
  refine ⟨v, h', ι', v', w', q1, q2, q3, q4, ?_⟩
  have e : (do let d ← Deferred.ofValue (.func (.func f) a' b') argv.toArray; invoke d.target d.args : Sem Next) =
      (do let d ← Deferred.ofValue (.func (.func f) #[] #[]) (a'.toList ++ argv ++ b'.toList).toArray; invoke d.target d.args) := by
    have he : a' ++ argv.toArray ++ b' = #[] ++ (a'.toList ++ argv ++ b'.toList).toArray ++ #[] := by apply Array.ext'; simp
    simp only [Deferred.ofValue, pure_bind, invoke, he]
  rw [e]; exact q5

/-- what is asked of a function's closure -/
def FOK (P : Program) (f : Nat) (c : KF) : Prop :=
  (∃ fn code rf, FnOK P f fn code rf ∧ c = KFP.fn (ofC noH rf.body) (ofRes rf.results)) ∨
  (c = KFP.clone ∧ ∃ fn, P.funcs[f]? = some fn ∧ fn.body = none ∧ (fn.name == "runtime.NumGoroutine") = false ∧ Extern.findNext fn = none ∧ Extern.find fn = some Extern.MapsClone.clone) ∨
  ∃ s, c = KFP.sum s ∧ ∀ args n t h K, HeapOK n t h → s args n t K = true → CallW P (.func f [] []) args h (Good K)

section
variable (hmix : P.follows .mixedOrders = true) {call : CallK} (hcall : CallOK P call) {F : Nat}
  include hmix hcall
theorem fn_ok {f : Nat} {fn : Func} {code : Code} {rf : RFunc} (ok : FnOK P f fn code rf) {a b args : List AV} {n : Nat} {t : Hp} {h : Heap} {K : KV} (hh : HeapOK n t h)
    (hk : argEnv (a ++ args ++ b) (fun e => ofC noH rf.body F call none e n t [] (leaveK (ofRes rf.results) K) (leaveX (ofRes rf.results) K)) = true) : CallW P (.func f a b) args h (Good K) := by
  obtain ⟨e, he, h1⟩ := argEnv_spec hk
  refine callW_fn ok ((code_ok hmix (HookOK.no P) hcall F code ok.code he hh h1).mono fun x s hg => ?_)
  obtain ⟨_, e', n', t', a1, a2, a3⟩ := hg
  cases x with
  | normal => exact leave_spec a1 a2 a3
  | ret => exact leave_spec a1 a2 a3
  | exit id => exact Bool.noConfusion a3

theorem clone_ok {f : Nat} {fn : Func} (hf : P.funcs[f]? = some fn) (hb : fn.body = none) (hname : (fn.name == "runtime.NumGoroutine") = false) (hn : Extern.findNext fn = none) (he : Extern.find fn = some Extern.MapsClone.clone)
    {a b args l : List AV} {n : Nat} {t : Hp} {h : Heap} {K : KV} (hh : HeapOK n t h) (hl : l = a ++ args ++ b) (hk : cloneK l n t K = true) : CallW P (.func f a b) args h (Good K) := by
  have _ := hmix
  have _ := hcall
  cases l with
  | nil => exact Bool.noConfusion hk
  | cons v m =>
    cases m with
    | cons _ _ => exact Bool.noConfusion hk
    | nil =>
      cases v
      case iface ty x =>
        cases x
        case map bl =>
          have hk' : hgetK bl t (fun o => optK o fun x => (@AB.rec (fun _ => Bool) (fun _ _ => false) (fun es clock => pushK (.map es clock) n t fun n' t' => K n' t' (.iface ty (.map n))) (fun _ _ _ _ _ _ _ => false) (fun _ => false) (fun _ => false) (fun _ => false) false x)) = true := hk
          obtain ⟨x, h1, h2⟩ := optK_some (hget_spec hh hk')
          cases x with
          | map es clock =>
            obtain ⟨t', h3, h4⟩ := push_spec hh (x := .map es clock) (K := fun n' t' => K n' t' (.iface ty (.map n))) trivial h2
            refine callW_clone hf hb hname hn he (v := .iface ty (.map n)) (h' := h.push (.map es clock)) ?_ ⟨n + 1, t', h3, h4⟩
            rw [← hl]
            simp only [mapCloneA, h1, hh.next]
          | cells _ _ => exact Bool.noConfusion h2
          | loop _ _ _ _ _ _ _ => exact Bool.noConfusion h2
          | deferred _ => exact Bool.noConfusion h2
          | bld _ => exact Bool.noConfusion h2
          | bytes _ => exact Bool.noConfusion h2
          | dead => exact Bool.noConfusion h2
        all_goals exact Bool.noConfusion hk
      all_goals exact Bool.noConfusion hk

theorem round_ok {L : Nat} {K : KV} {x : Ex} {s : St} (hg : GoodC (some L) (roundEnd L .ready none (.bool true) K) (roundX L K) x s) : RoundPost L (Good K) x s := by
  have _ := hmix
  have _ := hcall
  obtain ⟨_, e, n, t, a1, a2, a3⟩ := hg
  cases x with
  | normal =>
    obtain ⟨st, pd, tm, ps, as, bd, d, b1, b2, b3⟩ := loop_spec a2 a3
    obtain ⟨t', c1, c2⟩ := hput_spec a2 (x := .loop .ready none tm ps as bd d) b2 b3
    exact ⟨st, pd, tm, ps, as, bd, d, b1, n, t', c1, c2⟩
  | ret =>
    obtain ⟨st, pd, tm, ps, as, bd, d, b1, b2, b3⟩ := loop_spec a2 a3
    obtain ⟨t', c1, c2⟩ := hput_spec a2 (x := .loop .done (some .ret) tm ps as bd d) b2 b3
    exact ⟨st, pd, tm, ps, as, bd, d, b1, n, t', c1, c2⟩
  | exit id =>
    obtain ⟨st, pd, tm, ps, as, bd, d, b1, b2, b3⟩ := loop_spec a2 a3
    obtain ⟨t', c1, c2⟩ := hput_spec a2 (x := .loop .done (some (.exit id)) tm ps as bd d) b2 b3
    exact ⟨st, pd, tm, ps, as, bd, d, b1, n, t', c1, c2⟩

theorem yield_ok {L : Nat} {args : List AV} {n : Nat} {t : Hp} {h : Heap} {K : KV} (hh : HeapOK n t h) (hk : yieldK F call L args n t K = true) : CallW P (.yield L) args h (Good K) := by
  obtain ⟨st, pd, tm, ps, as, bd, d, b1, b2, b3⟩ := loop_spec hh hk
  obtain ⟨tm', e, c1, c2, c3⟩ := setK_spec (envOf_ok b2) b3
  refine callW_yield b1 c1 fun nt assign body ha hb => ?_
  refine (code_ok hmix (HookOK.no P) hcall F assign ha c2 hh c3).mono fun x s hg => ?_
  obtain ⟨hr, e', n', t', a1, a2, a3⟩ := hg
  cases x with
  | normal =>
    obtain ⟨st2, pd2, tm2, ps2, as2, bd2, d2, f1, f2, f3⟩ := loop_spec a2 a3
    have f4 : st2 = .ready ∧ hputK L (.loop .busy pd2 tm2 ps2 as2 bd2 d2) t' (fun t' => ofC noH bd F call (some L) e' n' t' s.marks (roundEnd L .ready none (.bool true) K) (roundX L K)) = true := by
      cases st2
      case ready => exact ⟨rfl, f3⟩
      all_goals exact Bool.noConfusion f3
    obtain ⟨rfl, f5⟩ := f4
    obtain ⟨t2, g1, g2⟩ := hput_spec a2 (x := .loop .busy pd2 tm2 ps2 as2 bd2 d2) f2 f5
    obtain ⟨tms, hs, ms, rs⟩ := s
    cases hr
    exact ⟨pd2, tm2, ps2, as2, bd2, d2, f1, (code_ok hmix (HookOK.no P) hcall F body hb a1 g1 g2).mono fun x s hg => round_ok hmix hcall hg⟩
  | ret => exact Bool.noConfusion a3
  | exit id => exact Bool.noConfusion a3
end

/-- THE EVALUATOR IS SOUND: where it comes to 'true' the call comes to a value and a heap at which its continuation is true. -/
theorem evC_ok (hmix : P.follows .mixedOrders = true) {T : Nat → Option KF} (hT : ∀ f c, T f = some c → FOK P f c) (F : Nat) : ∀ d, CallOK P (evC T F d)
  | 0 => fun f args n t h K hh hk => Bool.noConfusion hk
  | d + 1 => by
    have ih := evC_ok hmix hT F d
    intro f args n t h K hh hk
    have hk' : callV f T F (evC T F d) args n t K = true := hk
    cases f
    case func f a b =>
      have hk2 : optK (T f) (fun c => appK args b fun l => appK a l fun l => fnK c F (evC T F d) l n t K) = true := hk'
      obtain ⟨c, h1, h2⟩ := optK_some hk2
      rw [appK_eq, appK_eq, ← List.append_assoc] at h2
      rcases hT f c h1 with ⟨fn, code, rf, ok, rfl⟩ | ⟨rfl, fn, g1, g2, g3, g4, g5⟩ | ⟨s, rfl, hs⟩
      · exact fn_ok hmix ih ok hh h2
      · exact clone_ok hmix ih g1 g2 g3 g4 g5 hh rfl h2
      · exact callW_func (hs _ _ _ _ _ hh h2)
    case yield L => exact yield_ok hmix ih hh hk'
    all_goals exact Bool.noConfusion hk'
end
end Go.Ev.K

namespace Go.Ev.K
open Go Go.Ev

/-! ## What is known of an argument -/
theorem hookOf_ok (P : Program) (c : List Nat) (r : List (Nat × Nat)) : HookOK P (hookOf c r) := by
  intro op f hf call e tm n t h K hcall he hh hk
  unfold hookOf at hf
  split at hf
  · rename_i k i
    split at hf
    · cases hf
      have h1 := rd_spec (K := fun v => onInt v (fun _ i => @Int.rec (fun _ => Bool) (fun m => ifB (Nat.ble m (kmax k)) (K n t (.int k (.ofNat m))) false) (fun _ => false) i) false) he hk
      rcases onInt_spec h1 with h2 | ⟨l, a, h2, h3⟩
      · cases h2
      · cases a with
        | negSucc m => exact Bool.noConfusion h3
        | ofNat m =>
          obtain ⟨h4, h5⟩ := ifB_no h3
          refine ⟨.int k (.ofNat m), h, ?_, n, t, hh, h5⟩
          simp only [aop, ro, h2]
          rw [wrap_kmax (Nat.le_of_ble_eq_true h4)]
    · cases hf
  · rename_i i k p
    split at hf
    · rename_i q hq
      cases hf
      have h1 := rd_spec (K := fun v => onInt v (fun l i => @Int.rec (fun _ => Bool) (fun m => ifB (kk l k) (ifB (Nat.beq (Nat.mod m (p + 1)) q.2) (K n t (.int k (.ofNat q.2))) false) false) (fun _ => false) i) false) he hk
      rcases onInt_spec h1 with h2 | ⟨l, a, h2, h3⟩
      · cases h2
      · cases a with
        | negSucc m => exact Bool.noConfusion h3
        | ofNat m =>
          obtain ⟨h4, h5⟩ := ifB_no h3
          obtain ⟨h6, h7⟩ := ifB_no h5
          have e := kk_eq h4
          subst e
          refine ⟨.int l (.ofNat q.2), h, ?_, n, t, hh, h7⟩
          have hm : m % (p + 1) = q.2 := Nat.eq_of_beq_eq_true h6
          have hmod : (Int.ofNat m).tmod (Int.ofNat (p + 1)) = Int.ofNat q.2 := by rw [← hm]; rfl
          have hne : decide (Int.ofNat (p + 1) = 0) = false := by
            apply decide_eq_false
            intro e; cases e
          simp only [aop, ro, h2, binA, decide_true, Ev.binInt, hne, hmod]
    · cases hf
  · cases hf

/-! ## A whole run -/
/-- the call's last word: 'true' -/
noncomputable def endT : KV := fun _ _ v => onBool v true false

theorem rel_none {P : Program} {w : World} (g : GlobOK P (fun _ => none) w) : Rel P (fun _ => none) ⟨0, .nil⟩ w where
  glob := g
  size := fun _ _ h => by cases h
  dom := fun _ _ h => by cases h
  blocks := fun _ _ _ h => by cases h
  inj := fun _ _ _ _ h => by cases h
  wf := fun _ _ => rfl

theorem kept_of_ext {ι : Inj} {h' : Heap} {w w' : World} (he : Ext (fun _ => none) ⟨0, .nil⟩ w ι h' w') : w.keptBut w' (fun _ => False) := by
  refine ⟨he.aside.os, he.aside.output, fun i hi => ?_⟩
  have hs := he.same i hi (fun _ _ h => by cases h)
  rw [hs]
  cases w.heap[i]? with
  | none => rfl
  | some o => cases o <;> first | rfl | exact ⟨rfl, rfl, rfl, fun _ _ => rfl⟩ | exact .inr ⟨rfl, rfl⟩

theorem top {P : Program} (hmix : P.follows .mixedOrders = true) {T : Nat → Option KF} (hT : ∀ f c, T f = some c → FOK P f c) {f : Nat} {fn : Func} {code : Code} {rf : RFunc} (ok : FnOK P f fn code rf) {H : Hook} (hH : HookOK P H) {F D : Nat} {args : List AV}
    (hk : argEnv args (fun e => ofC H rf.body F (evC T F D) none e 0 hp0 [] (leaveK (ofRes rf.results) endT) (leaveX (ofRes rf.results) endT)) = true) (w : World) (hw : GlobOK P (fun _ => none) w) (argv : List Value) (ha : VRs (fun _ => none) args argv) :
    Calls P f argv.toArray w fun e w' => e = .returned (.bool true) ∧ w.keptBut w' (fun _ => False) := by
  obtain ⟨e, he, h1⟩ := argEnv_spec hk
  have hb : AW P fn.ntmps [.code code] ⟨setArgs args 0 .nil, ⟨0, .nil⟩, [], none⟩ (FnPost rf (Good endT)) :=
    (code_ok hmix hH (evC_ok hmix hT F D) F code ok.code he HeapOK.hp0 h1).mono fun x s hg => by
      obtain ⟨_, e', n', t', a1, a2, a3⟩ := hg
      cases x with
      | normal => exact leave_spec a1 a2 a3
      | ret => exact leave_spec a1 a2 a3
      | exit id => exact Bool.noConfusion a3
  obtain ⟨v, h', ι', v', w', ⟨n', t', _, q2⟩, r1, r2, r3, r4⟩ := fn_enters ok hb (rel_none hw) ha
  rcases onBool_spec q2 with ⟨hv, _⟩ | ⟨_, q3⟩
  · rw [hv] at r1
    intro cs
    obtain ⟨fr, s1, s2, s3⟩ := r4 cs
    refine ⟨.returned v', w', fr, ⟨by rw [r1.bool], kept_of_ext r3⟩, s1, s2, s3⟩
  · cases q3
end Go.Ev.K

namespace Go.Ev.K
open Go Go.Ev

/-! ## A table's functions -/
theorem fok_of {P : Program} {f : Nat} {fn : Func} {c : KF} (h1 : P.funcs[f]? = some fn) (h2 : (resFunc P fn).map ofF = some c) (h3 : (fn.name == "runtime.NumGoroutine") = false) : FOK P f c := by
  cases hr : resFunc P fn with
  | none => rw [hr] at h2; cases h2
  | some rf =>
    rw [hr] at h2
    have hc : ofF rf = c := by simpa using h2
    unfold resFunc at hr
    split at hr
    · rename_i code hb
      split at hr
      · rename_i b rs e1 e2
        cases hr
        exact .inl ⟨fn, code, _, ⟨h1, hb, h3, e1, e2⟩, hc.symm⟩
      · cases hr
    · cases hr

/-- 'p' of every entry of a trie whose entry 'j' is numbered 'a * j + c' -/
def AllP {α : Type} (p : Nat → α → Prop) : Tr α → Nat → Nat → Prop
  | .nil, _, _ => True
  | .node l v r, a, c => (∀ x, v = some x → p c x) ∧ AllP p l (2 * a) (a + c) ∧ AllP p r (2 * a) (2 * a + c)
theorem AllP.get {α : Type} {p : Nat → α → Prop} : ∀ {t : Tr α} {a c : Nat}, AllP p t a c → ∀ j x, Tr.get t j = some x → p (a * j + c) x
  | .nil, _, _, _, j, x, h => by cases h
  | .node l v r, a, c, ⟨h1, h2, h3⟩, 0, x, h => by rw [Tr.get_zero] at h; simpa using h1 x h
  | .node l v r, a, c, ⟨h1, h2, h3⟩, j + 1, x, h => by
    rw [Tr.get_succ] at h
    split at h
    · have := h2.get _ _ h
      rwa [show 2 * a * (j / 2) + (a + c) = a * (j + 1) + c by
        rw [Nat.mul_add, Nat.mul_one, show 2 * a * (j / 2) = a * (2 * (j / 2)) by rw [Nat.mul_comm 2 a, Nat.mul_assoc], show 2 * (j / 2) = j by omega]; omega] at this
    · have := h3.get _ _ h
      rwa [show 2 * a * (j / 2) + (2 * a + c) = a * (j + 1) + c by
        have e : 2 * (j / 2) + 1 = j := by omega
        calc 2 * a * (j / 2) + (2 * a + c) = a * (2 * (j / 2) + 1 + 1) + c := by
              rw [Nat.mul_comm 2 a, Nat.mul_assoc, Nat.mul_add a (2 * (j / 2) + 1) 1, Nat.mul_add a (2 * (j / 2)) 1]; omega
          _ = a * (j + 1) + c := by rw [e]] at this
theorem AllP.nl {α : Type} {p : Nat → α → Prop} {a c : Nat} : AllP p (.nil : Tr α) a c := trivial
theorem AllP.nd {α : Type} {p : Nat → α → Prop} {a c : Nat} {l r : Tr α} {x : α} (h1 : p c x) (h2 : AllP p l (2 * a) (a + c)) (h3 : AllP p r (2 * a) (2 * a + c)) : AllP p (.node l (some x) r) a c :=
  ⟨fun y e => by cases e; exact h1, h2, h3⟩
theorem AllP.nn {α : Type} {p : Nat → α → Prop} {a c : Nat} {l r : Tr α} (h2 : AllP p l (2 * a) (a + c)) (h3 : AllP p r (2 * a) (2 * a + c)) : AllP p (.node l none r) a c :=
  ⟨fun y e => by (cases e), h2, h3⟩
theorem table_ok {P : Program} {t : Tr KF} (h : AllP (FOK P) t 1 0) : ∀ f c, Tr.get t f = some c → FOK P f c := fun f c hc => by
  have := h.get f c hc
  simpa using this
end Go.Ev.K

namespace Go.Ev.K
open Go Go.Ev

section
variable {P : Program}
/-! ## Calls that touch nothing old -/
theorem rel_same {ι : Inj} {h : Heap} {w w' : World} (r : Rel P ι h w) (hs : w.heap.size ≤ w'.heap.size) (hsame : ∀ c, c < w.heap.size → w'.heap[c]? = w.heap[c]?) : Rel P ι h w' where
  glob := r.glob.step (fun _ _ h => .inl h) hs (fun c hc _ => hsame c hc)
  size := fun b p hb => Nat.lt_of_lt_of_le (r.size b p hb) hs
  dom := r.dom
  blocks := fun b p ab hb hg => by rw [hsame _ (r.size b p hb)]; exact r.blocks b p ab hb hg
  inj := r.inj
  wf := r.wf
theorem ext_same {ι : Inj} {h : Heap} {w w' : World} (hs : w.heap.size ≤ w'.heap.size) (hsame : ∀ c, c < w.heap.size → w'.heap[c]? = w.heap[c]?) (ha : Aside w w') : Ext ι h w ι h w' where
  le := .refl ι
  fresh := fun b p hb hn => by rw [hn] at hb; cases hb
  size := hs
  next := Nat.le_refl _
  same := fun c hc _ => hsame c hc
  habs := fun _ _ _ => rfl
  aside := ha

theorem callW_closed {f : Nat} (hc : CallW P (.func f [] []) [] ⟨0, .nil⟩ (fun v _ => v = .bool true)) {h : Heap} {Q : AV → Heap → Prop} (hq : Q (.bool true) h) : CallW P (.func f [] []) [] h Q := by
  intro ι w fv argv r hf ha
  simp only [VR] at hf
  obtain ⟨a', b', rfl, h1, h2⟩ := hf
  rw [VRs.nil.1 ha]
  obtain ⟨v, h', ι', v', w', rfl, q2, q3, q4, q5⟩ := hc (fun _ => none) w (.func (.func f) a' b') [] (rel_none r.glob.none) (by simp only [VR]; exact ⟨a', b', rfl, VRs.nil.2 (VRs.nil.1 h1), VRs.nil.2 (VRs.nil.1 h2)⟩) (VRs.nil.2 rfl)
  have hsame : ∀ c, c < w.heap.size → w'.heap[c]? = w.heap[c]? := fun c hc => q4.same c hc (fun _ _ h => by cases h)
  exact ⟨.bool true, h, ι, v', w', hq, by simp only [VR] at q2 ⊢; exact q2, rel_same r q4.size hsame, ext_same q4.size hsame q4.aside, q5⟩

theorem sumTrue_ok {f : Nat} (hc : CallW P (.func f [] []) [] ⟨0, .nil⟩ (fun v _ => v = .bool true)) : FOK P f (KFP.sum sumTrue) := by
  refine .inr (.inr ⟨_, rfl, fun args n t h K hh hk => ?_⟩)
  cases args with
  | cons _ _ => exact Bool.noConfusion hk
  | nil => exact callW_closed hc ⟨n, t, hh, hk⟩

/-- the run of a call without arguments that ends with 'true' -/
theorem closed_of_run (hmix : P.follows .mixedOrders = true) {T : Nat → Option KF} (hT : ∀ f c, T f = some c → FOK P f c) {F D f : Nat} (hk : evC T F D (.func f [] []) [] 0 hp0 endT = true) : CallW P (.func f [] []) [] ⟨0, .nil⟩ (fun v _ => v = .bool true) :=
  (evC_ok hmix hT F D _ _ _ _ _ _ HeapOK.hp0 hk).mono fun v h ⟨n, t, _, h2⟩ => by
    rcases onBool_spec h2 with ⟨hv, _⟩ | ⟨_, hf⟩
    · exact hv
    · cases hf

/-! ## Calls whose heap is told -/
theorem boolEq_spec {a b Y : Bool} (h : boolEq a b Y = true) : a = b ∧ Y = true := by
  cases a <;> cases b <;> first | exact ⟨rfl, h⟩ | exact Bool.noConfusion h
theorem entEq_spec : ∀ {l m : List EN} {Y : Bool}, entEq l m Y = true → l = m ∧ Y = true
  | [], [], _, h => ⟨rfl, h⟩
  | [], _ :: _, _, h => Bool.noConfusion h
  | _ :: _, [], _, h => Bool.noConfusion h
  | p :: l, q :: m, Y, h => by
    obtain ⟨h1, g1⟩ := aveqF_spec p.1 q.1 _ h
    obtain ⟨h2, g2⟩ := aveqF_spec p.2.1 q.2.1 _ g1
    obtain ⟨h3', g3⟩ := ifB_no g2
    obtain ⟨h4, g4⟩ := entEq_spec (l := l) (m := m) g3
    have h3 := Nat.eq_of_beq_eq_true h3'
    clear g1 g2 g3 h3' h
    obtain ⟨a, b, c⟩ := p
    obtain ⟨a', b', c'⟩ := q
    dsimp only at h1 h2 h3
    rw [h1, h2, h3, h4]; exact ⟨rfl, g4⟩
theorem abEq_spec {x y : AB} {Y : Bool} (h : abEq x y Y = true) : x = y ∧ ABok y ∧ Y = true := by
  cases x with
  | cells cs g =>
    cases y with
    | cells cs' g' =>
      obtain ⟨h1, h2⟩ := aveqsF_spec cs cs' _ h
      obtain ⟨h3, h4⟩ := boolEq_spec h2
      rw [h1, h3]; exact ⟨rfl, trivial, h4⟩
    | map _ _ => exact Bool.noConfusion h
    | loop _ _ _ _ _ _ _ => exact Bool.noConfusion h
    | deferred _ => exact Bool.noConfusion h
    | bld _ => exact Bool.noConfusion h
    | bytes _ => exact Bool.noConfusion h
    | dead => exact Bool.noConfusion h
  | map es c =>
    cases y with
    | map es' c' =>
      obtain ⟨h1, h2⟩ := ifB_no (b := Nat.beq c c') h
      obtain ⟨h3, h4⟩ := entEq_spec h2
      rw [Nat.eq_of_beq_eq_true h1, h3]; exact ⟨rfl, trivial, h4⟩
    | cells _ _ => exact Bool.noConfusion h
    | loop _ _ _ _ _ _ _ => exact Bool.noConfusion h
    | deferred _ => exact Bool.noConfusion h
    | bld _ => exact Bool.noConfusion h
    | bytes _ => exact Bool.noConfusion h
    | dead => exact Bool.noConfusion h
  | loop _ _ _ _ _ _ _ => exact Bool.noConfusion h
  | deferred _ => exact Bool.noConfusion h
  | bld _ => exact Bool.noConfusion h
  | bytes _ => exact Bool.noConfusion h
  | dead => exact Bool.noConfusion h
theorem chkLit_spec {n : Nat} {t : Hp} {h : Heap} (hh : HeapOK n t h) : ∀ {l : Lit} {Y : Bool}, chkLit l t Y = true → (∀ p ∈ l, h.get p.1 = some p.2 ∧ ABok p.2) ∧ Y = true
  | [], _, hk => ⟨nofun, hk⟩
  | p :: l, Y, hk => by
    obtain ⟨x, h1, h2⟩ := optK_some (hget_spec (K := fun o => optK o fun x => abEq x p.2 (chkLit l t Y)) hh hk)
    obtain ⟨h3, h4, h5⟩ := abEq_spec h2
    obtain ⟨h6, h7⟩ := chkLit_spec hh (l := l) h5
    refine ⟨fun q hq => ?_, h7⟩
    rcases List.mem_cons.1 hq with rfl | hq
    · exact ⟨by rw [h1, h3], h4⟩
    · exact h6 q hq
/-- the told blocks, in a heap -/
noncomputable def litH (l : Lit) (h : Heap) : Heap := match l with | [] => h | p :: l => litH l (h.set p.1 p.2)
theorem litH_next : ∀ (l : Lit) (h : Heap), (litH l h).next = h.next
  | [], _ => rfl
  | p :: l, h => by rw [litH, litH_next l]; rfl
theorem litH_get : ∀ (l : Lit) (h : Heap) (b : Nat) (x : AB), (litH l h).get b = some x → (b, x) ∈ l ∨ h.get b = some x
  | [], _, _, _, e => .inr e
  | p :: l, h, b, x, e => by
    rw [litH] at e
    rcases litH_get l _ b x e with e | e
    · exact .inl (List.mem_cons_of_mem _ e)
    · rw [Heap.get_set] at e
      split at e
      · rename_i e2; cases e; subst e2; exact .inl List.mem_cons_self
      · exact .inr e
theorem layLit_spec {n : Nat} : ∀ {l : Lit} {t : Hp} {h : Heap} {K : Hp → Bool}, HeapOK n t h → (∀ p ∈ l, ABok p.2) → layLit l t K = true → ∃ t', HeapOK n t' (litH l h) ∧ K t' = true
  | [], t, h, K, hh, _, hk => ⟨t, hh, hk⟩
  | p :: l, t, h, K, hh, ho, hk => by
    obtain ⟨t1, h1, h2⟩ := hput_spec hh (ho p List.mem_cons_self) (show hputK p.1 p.2 t (fun t' => layLit l t' K) = true from hk)
    exact layLit_spec (l := l) h1 (fun q hq => ho q (List.mem_cons_of_mem _ hq)) h2

theorem rel_part {ι : Inj} {h g : Heap} {w : World} (r : Rel P ι h w) (hn : g.next = h.next) (hg : ∀ b x, g.get b = some x → h.get b = some x) : Rel P ι g w where
  glob := r.glob
  size := r.size
  dom := fun b p hb => by rw [hn]; exact r.dom b p hb
  blocks := fun b p ab hb hx => r.blocks b p ab hb (hg b ab hx)
  inj := fun b c p q hb hc hpq hne x y hx hy => r.inj b c p q hb hc hpq hne x y (hg b x hx) (hg c y hy)
  wf := fun b hb => by
    cases hx : g.get b with
    | none => rfl
    | some x => have := hg b x hx; rw [r.wf b (by rw [← hn]; exact hb)] at this; cases this

/-- the run of a call without arguments whose result and heap are told -/
theorem sumLit_ok (hmix : P.follows .mixedOrders = true) {T : Nat → Option KF} (hT : ∀ f c, T f = some c → FOK P f c) {F D f : Nat} {l : Lit} {m : Nat} {u : AV} (hk : evC T F D (.func f [] []) [] 0 hp0 (endLit l m u) = true) : FOK P f (KFP.sum (sumLit l m u)) := by
  have hc := evC_ok hmix hT F D _ _ _ _ _ _ HeapOK.hp0 hk
  refine .inr (.inr ⟨_, rfl, fun args n t h K hh hk2 => ?_⟩)
  cases args with
  | cons _ _ => exact Bool.noConfusion hk2
  | nil =>
    obtain ⟨hn, hk3⟩ := ifB_no (b := Nat.beq n 0) hk2
    have hn := Nat.eq_of_beq_eq_true hn
    subst hn
    intro ι w fv argv r hf ha
    have hι : ι = fun _ => none := by
      funext b
      cases e : ι b with
      | none => rfl
      | some p => have := r.dom b p e; rw [hh.next] at this; omega
    subst hι
    obtain ⟨v, h', ι', v', w', ⟨n', t', hh', q1⟩, q2, q3, q4, q5⟩ := hc (fun _ => none) w fv argv (rel_none r.glob.none) hf ha
    obtain ⟨e1', q1'⟩ := ifB_no (b := Nat.beq n' m) q1
    have e1 := Nat.eq_of_beq_eq_true e1'
    clear e1' q1
    subst e1
    obtain ⟨e2, q6⟩ := aveqF_spec v u _ q1'
    clear q1'
    subst e2
    obtain ⟨hl, _⟩ := chkLit_spec hh' q6
    have h00 : HeapOK n' hp0 ⟨n', .nil⟩ := ⟨rfl, HeapOK.hp0.enc, fun b x hb => by cases hb⟩
    obtain ⟨t2, g1, g2⟩ := layLit_spec h00 (fun p hp => (hl p hp).2) hk3
    have hr : Rel P ι' (litH l ⟨n', .nil⟩) w' := rel_part q3 (by rw [litH_next]; exact hh'.next.symm) (fun b x hb => by
      rcases litH_get l _ b x hb with hb | hb
      · exact (hl (b, x) hb).1
      · cases hb)
    refine ⟨v, _, ι', v', w', ⟨n', t2, g1, g2⟩, q2, hr, ?_, q5⟩
    exact {
      le := q4.le
      fresh := fun b p hb hn => ⟨by rw [hh.next]; omega, (q4.fresh b p hb hn).2⟩
      size := q4.size
      next := by rw [hh.next]; omega
      same := q4.same
      habs := fun b hb _ => by rw [hh.next] at hb; omega
      aside := q4.aside }
end
end Go.Ev.K
