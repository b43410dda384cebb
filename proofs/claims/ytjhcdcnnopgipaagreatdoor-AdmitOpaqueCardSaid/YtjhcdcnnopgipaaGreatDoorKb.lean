/- The closures' operations are the evaluator's. -/
import Derived.Test.YtjhcdcnnopgipaaGreatDoorKa
namespace Go.Ev.K
open Go Go.Ev

/-! ## Sixteen-fold nodes -/
noncomputable def up {α : Type} (d : D) (v : α) (f : D → α) : D → α := fun x => @Bool.rec (fun _ => α) (f x) v (Nat.beq x.nat d.nat)
theorem up_same {α : Type} (d : D) (v : α) (f : D → α) : up d v f d = v := by cases d <;> rfl
theorem up_ne {α : Type} {d x : D} (v : α) (f : D → α) (h : x ≠ d) : up d v f x = f x := by
  unfold up
  cases e : Nat.beq x.nat d.nat with
  | false => rfl
  | true => exact absurd (by have := Nat.eq_of_beq_eq_true e; revert this; cases x <;> cases d <;> simp [D.nat]) h
theorem up_map {α β : Type} (g : α → β) (d : D) (v : α) (f : D → α) (x : D) : g (up d v f x) = up d (g v) (fun a => g (f a)) x := by
  unfold up
  cases Nat.beq x.nat d.nat <;> rfl
theorem mk_s {α : Type} (f : D → α) (d : D) (K : α → Bool) : mk16 f (sD α d K) = K (f d) := by cases d <;> rfl
theorem mk_u {α : Type} (f : D → α) (d : D) (v : α) (K : N16 α → Bool) : mk16 f (uD α d v K) = K (mk16 (up d v f)) := by cases d <;> rfl
theorem D.nat_lt (d : D) : d.nat < 16 := by cases d <;> decide
theorem D.of_nat (d : D) : D.of d.nat = d := by cases d <;> rfl
theorem D.nat_of {k : Nat} (h : k < 16) : (D.of k).nat = k := by
  match k, h with
  | 0, _ | 1, _ | 2, _ | 3, _ | 4, _ | 5, _ | 6, _ | 7, _ | 8, _ | 9, _ | 10, _ | 11, _ | 12, _ | 13, _ | 14, _ | 15, _ => rfl
  | k + 16, h => omega
theorem D.nat_inj {a b : D} (h : a.nat = b.nat) : a = b := by rw [← D.of_nat a, h, D.of_nat]
theorem D.of_inj {j k : Nat} (hj : j < 16) (hk : k < 16) (h : D.of j = D.of k) : j = k := by
  have := congrArg D.nat h
  rwa [D.nat_of hj, D.nat_of hk] at this

/-! ## Forcing -/
theorem ifB_true {b x y : Bool} (h : ifB b x y = true) : (b = true ∧ x = true) ∨ (b = false ∧ y = true) := by
  cases b with
  | true => exact .inl ⟨rfl, h⟩
  | false => exact .inr ⟨rfl, h⟩
theorem ifB_no {b x : Bool} (h : ifB b x false = true) : b = true ∧ x = true := by
  cases b with
  | true => exact ⟨rfl, h⟩
  | false => exact Bool.noConfusion h
theorem fN_eq (n : Nat) (K : Nat → Bool) : fN n K = K n := rfl
theorem fI_eq (n : Int) (K : Int → Bool) : fI n K = K n := by cases n <;> rfl
theorem boolK_eq (b : Bool) (K : AV → Bool) : boolK b K = K (.bool b) := by cases b <;> rfl
theorem optK_some {α : Type} {o : Option α} {K : α → Bool} (h : optK o K = true) : ∃ x, o = some x ∧ K x = true := by
  cases o with
  | none => exact Bool.noConfusion h
  | some x => exact ⟨x, rfl, h⟩

/-! ## The environment -/
structure EnvOK (e : KEnv) (tm : Env) : Prop where
  enc : ∃ f : D → D → AV, e = mk16 (fun a => mk16 (f a)) ∧ ∀ a b, tm.look (16 * a.nat + b.nat) = f a b
  far : ∀ i, 255 ≤ i → tm.look i = .undef

theorem rdA_eq (f : D → D → AV) (a b : D) (K : AV → Bool) : rdA a b (mk16 (fun a => mk16 (f a))) K = K (f a b) := by
  show mk16 (fun a => mk16 (f a)) (sD A1 a fun row => row (sD AV b K)) = _
  refine (mk_s (α := A1) _ a _).trans ?_
  exact mk_s _ b K
theorem wrA_eq (f : D → D → AV) (a b : D) (v : AV) (K : KEnv → Bool) : wrA a b v (mk16 (fun a => mk16 (f a))) K = K (mk16 (up a (mk16 (up b v (f a))) (fun a => mk16 (f a)))) := by
  show mk16 (fun a => mk16 (f a)) (sD A1 a fun row => row (uD AV b v fun row' => mk16 (fun a => mk16 (f a)) (uD A1 a row' K))) = _
  refine (mk_s (α := A1) _ a _).trans ?_
  refine (mk_u _ b v _).trans ?_
  exact mk_u (α := A1) _ a _ K

theorem rd_spec {i : Nat} {e : KEnv} {tm : Env} {K : AV → Bool} (he : EnvOK e tm) (h : rd i e K = true) : K (tm.look i) = true := by
  unfold rd at h
  cases hb : Nat.blt i 255 with
  | false => rw [hb] at h; exact Bool.noConfusion h
  | true =>
    rw [hb] at h
    have hi : i < 255 := by rw [Nat.blt_eq] at hb; exact hb
    obtain ⟨f, rfl, hf⟩ := he.enc
    have h' : rdA (D.of (i / 16)) (D.of (i % 16)) (mk16 (fun a => mk16 (f a))) K = true := h
    rw [rdA_eq, ← hf, D.nat_of (by omega), D.nat_of (by omega)] at h'
    rwa [show 16 * (i / 16) + i % 16 = i by omega] at h'

theorem wr_spec {i : Nat} {e : KEnv} {tm : Env} {v : AV} {K : KEnv → Bool} (he : EnvOK e tm) (h : wr i v e K = true) : ∃ e', EnvOK e' (tm.put i v) ∧ K e' = true := by
  unfold wr at h
  cases hb : Nat.blt i 255 with
  | false => rw [hb] at h; exact Bool.noConfusion h
  | true =>
    rw [hb] at h
    have hi : i < 255 := by rw [Nat.blt_eq] at hb; exact hb
    obtain ⟨⟨f, rfl, hf⟩, hfar⟩ := he
    have h' : wrA (D.of (i / 16)) (D.of (i % 16)) v (mk16 (fun a => mk16 (f a))) K = true := h
    rw [wrA_eq] at h'
    refine ⟨_, ⟨⟨fun a => up (D.of (i / 16)) (up (D.of (i % 16)) v (f (D.of (i / 16)))) f a, ?_, ?_⟩, ?_⟩, h'⟩
    · exact congrArg mk16 (funext fun x => (up_map (β := A1) mk16 _ _ f x).symm)
    · intro a b
      show _ = up (D.of (i / 16)) (up (D.of (i % 16)) v (f (D.of (i / 16)))) f a b
      rw [Env.look_put]
      by_cases ha : a = D.of (i / 16)
      · subst ha
        rw [up_same]
        by_cases hb : b = D.of (i % 16)
        · subst hb
          rw [up_same, D.nat_of (by omega), D.nat_of (by omega), if_pos (by omega)]
        · rw [up_ne _ _ hb, ← hf, if_neg]
          intro e
          apply hb
          have := D.nat_lt b
          rw [D.nat_of (by omega)] at e
          have : b.nat = i % 16 := by omega
          rw [← this, D.of_nat]
      · rw [up_ne _ _ ha, ← hf, if_neg]
        intro e
        apply ha
        have := D.nat_lt a
        have := D.nat_lt b
        have : a.nat = i / 16 := by omega
        rw [← this, D.of_nat]
    · intro j hj
      rw [Env.look_put, if_neg (by omega), hfar j hj]

theorem EnvOK.env0 : EnvOK env0 .nil := ⟨⟨fun _ _ => .undef, rfl, fun _ _ => rfl⟩, fun _ _ => rfl⟩

theorem trLook_eq (tm : Env) (i : Nat) : trLook tm i = tm.look i := by
  unfold trLook Env.look
  cases Tr.get tm i <;> rfl
theorem envOf_ok {tm : Env} (h : ∀ i, 255 ≤ i → tm.look i = .undef) : EnvOK (envOf tm) tm :=
  ⟨⟨fun a b => trLook tm (Nat.add (Nat.mul (nat_lit 16) a.nat) b.nat), rfl, fun _ _ => (trLook_eq tm _).symm⟩, h⟩

theorem setK_spec : ∀ {ps : List Nat} {args : List AV} {e : KEnv} {tm : Env} {K : KEnv → Bool}, EnvOK e tm → setK ps args e K = true → ∃ tm' e', setPs ps args tm = some tm' ∧ EnvOK e' tm' ∧ K e' = true
  | [], [], e, tm, K, he, h => ⟨tm, e, rfl, he, h⟩
  | [], _ :: _, _, _, _, _, h => Bool.noConfusion h
  | _ :: _, [], _, _, _, _, h => Bool.noConfusion h
  | p :: ps, v :: args, e, tm, K, he, h => by
    obtain ⟨e', he', h'⟩ := wr_spec (K := fun e' => setK ps args e' K) he h
    exact setK_spec (ps := ps) (args := args) he' h'

theorem us16_drop : ∀ (j : Nat), j < 16 → us16.drop j = uD AV (D.of j) :: us16.drop (j + 1) := by
  intro j h
  match j, h with
  | 0, _ | 1, _ | 2, _ | 3, _ | 4, _ | 5, _ | 6, _ | 7, _ | 8, _ | 9, _ | 10, _ | 11, _ | 12, _ | 13, _ | 14, _ | 15, _ => rfl
  | j + 16, h => omega
theorem us16_end {j : Nat} (h : 16 ≤ j) : us16.drop j = [] := List.drop_eq_nil_of_le (by simpa [us16] using h)

theorem argRow_spec : ∀ {l : List AV} {j : Nat} {K : A1 → Bool} {f : D → AV}, argRow l (us16.drop j) (mk16 f) K = true →
    ∃ f', K (mk16 f') = true ∧ (l = [] ∨ j + l.length ≤ 16) ∧ ∀ d : D, f' d = if j ≤ d.nat ∧ d.nat < j + l.length then (nth l (d.nat - j)).getD .undef else f d
  | [], j, K, f, h => by
    refine ⟨f, h, .inl rfl, fun d => ?_⟩
    rw [if_neg]; simp only [List.length_nil]; omega
  | v :: l, j, K, f, h => by
    by_cases hj : j < 16
    · rw [us16_drop j hj] at h
      have h' : argRow l (us16.drop (j + 1)) (mk16 (up (D.of j) v f)) K = true := by
        have h2 : mk16 f (uD AV (D.of j) v fun row' => argRow l (us16.drop (j + 1)) row' K) = true := h
        rwa [mk_u] at h2
      obtain ⟨f', hK, hl, hf⟩ := argRow_spec h'
      refine ⟨f', hK, .inr ?_, fun d => ?_⟩
      · rcases hl with rfl | hl
        · simp; omega
        · simp; omega
      · rw [hf d]
        simp only [List.length_cons]
        by_cases h1 : j + 1 ≤ d.nat ∧ d.nat < j + 1 + l.length
        · rw [if_pos h1, if_pos (by omega)]
          have : d.nat - j = (d.nat - (j + 1)) + 1 := by omega
          rw [this]; rfl
        · rw [if_neg h1]
          by_cases h2 : d.nat = j
          · rw [if_pos (by omega)]
            have : d = D.of j := by rw [← h2, D.of_nat]
            rw [← this, up_same, h2]; simp [nth]
          · rw [if_neg (by omega), up_ne]
            intro e; apply h2; rw [e, D.nat_of hj]
    · rw [us16_end (by omega)] at h
      exact Bool.noConfusion h

theorem argEnv_spec {l : List AV} {K : KEnv → Bool} (h : argEnv l K = true) : ∃ e, EnvOK e (setArgs l 0 .nil) ∧ K e = true := by
  obtain ⟨f', hK, hl, hf⟩ := argRow_spec (j := 0) h
  have h' : mk16 (fun _ => row0) (uD A1 .d0 (mk16 f') K) = true := hK
  have h2 := (mk_u (α := A1) (fun _ => row0) .d0 (mk16 f') K).symm.trans h'
  have hlen : l.length ≤ 16 := by rcases hl with rfl | hl; simp; omega
  refine ⟨_, ⟨⟨fun a => up .d0 f' (fun _ _ => AV.undef) a, ?_, ?_⟩, ?_⟩, h2⟩
  · exact congrArg mk16 (funext fun x => (up_map (β := A1) mk16 _ f' (fun _ _ => AV.undef) x).symm)
  · intro a b
    show _ = up D.d0 f' (fun _ _ => AV.undef) a b
    rw [look_setArgs]
    by_cases ha : a = .d0
    · subst ha
      rw [up_same, hf b]
      have : 16 * D.d0.nat + b.nat = b.nat := by simp [D.nat]
      rw [this, Env.look_nil]
    · rw [up_ne _ _ ha, Env.look_nil, if_neg]
      have := D.nat_lt b
      have : a.nat ≠ 0 := fun e => ha (by rw [← D.of_nat a, e]; rfl)
      omega
  · intro i hi
    rw [look_setArgs, if_neg (by omega)]; rfl
end Go.Ev.K

namespace Go.Ev.K
open Go Go.Ev

/-! ## The heap -/
noncomputable def M1 (f : D → Option AB) : H1 := mk16 f
noncomputable def M2 (f : D → D → Option AB) : H2 := mk16 (α := H1) fun a => M1 (f a)
noncomputable def M3 (f : D → D → D → Option AB) : H3 := mk16 (α := H2) fun a => M2 (f a)
noncomputable def M4 (f : D → D → D → D → Option AB) : H4 := mk16 (α := H3) fun a => M3 (f a)
noncomputable def M5 (f : D → D → D → D → D → Option AB) : Hp := mk16 (α := H4) fun a => M4 (f a)

theorem M1_s (f : D → Option AB) (d : D) (K : Option AB → Bool) : M1 f (sD (Option AB) d K) = K (f d) := mk_s f d K
theorem M2_s (f : D → D → Option AB) (d : D) (K : H1 → Bool) : M2 f (sD H1 d K) = K (M1 (f d)) := mk_s (α := H1) _ d K
theorem M3_s (f : D → D → D → Option AB) (d : D) (K : H2 → Bool) : M3 f (sD H2 d K) = K (M2 (f d)) := mk_s (α := H2) _ d K
theorem M4_s (f : D → D → D → D → Option AB) (d : D) (K : H3 → Bool) : M4 f (sD H3 d K) = K (M3 (f d)) := mk_s (α := H3) _ d K
theorem M5_s (f : D → D → D → D → D → Option AB) (d : D) (K : H4 → Bool) : M5 f (sD H4 d K) = K (M4 (f d)) := mk_s (α := H4) _ d K
theorem M1_u (f : D → Option AB) (d : D) (v : Option AB) (K : H1 → Bool) : M1 f (uD (Option AB) d v K) = K (M1 (up d v f)) := mk_u f d v K
theorem M2_u (f : D → D → Option AB) (d : D) (v : D → Option AB) (K : H2 → Bool) : M2 f (uD H1 d (M1 v) K) = K (M2 (up d v f)) :=
  (mk_u (α := H1) _ d (M1 v) K).trans (congrArg K (congrArg (mk16 (α := H1)) (funext fun x => (up_map (β := H1) M1 d v f x).symm)))
theorem M3_u (f : D → D → D → Option AB) (d : D) (v : D → D → Option AB) (K : H3 → Bool) : M3 f (uD H2 d (M2 v) K) = K (M3 (up d v f)) :=
  (mk_u (α := H2) _ d (M2 v) K).trans (congrArg K (congrArg (mk16 (α := H2)) (funext fun x => (up_map (β := H2) M2 d v f x).symm)))
theorem M4_u (f : D → D → D → D → Option AB) (d : D) (v : D → D → D → Option AB) (K : H4 → Bool) : M4 f (uD H3 d (M3 v) K) = K (M4 (up d v f)) :=
  (mk_u (α := H3) _ d (M3 v) K).trans (congrArg K (congrArg (mk16 (α := H3)) (funext fun x => (up_map (β := H3) M3 d v f x).symm)))
theorem M5_u (f : D → D → D → D → D → Option AB) (d : D) (v : D → D → D → D → Option AB) (K : Hp → Bool) : M5 f (uD H4 d (M4 v) K) = K (M5 (up d v f)) :=
  (mk_u (α := H4) _ d (M4 v) K).trans (congrArg K (congrArg (mk16 (α := H4)) (funext fun x => (up_map (β := H4) M4 d v f x).symm)))

theorem suD_eq (α : Type) (d : D) : suD α d = SUP.mk (sD α d) (uD α d) := by cases d <;> rfl
theorem keyD_eq (a b c d f : D) : keyD a b c d f = KeyP.at (sD H4 a) (uD H4 a) (sD H3 b) (uD H3 b) (sD H2 c) (uD H2 c) (sD H1 d) (uD H1 d) (sD (Option AB) f) (uD (Option AB) f) := by
  simp only [keyD, suD_eq]
theorem keyOf_no {i : Nat} (h : ¬ i < 1048576) : keyOf i = KeyP.no := by
  unfold keyOf
  have : Nat.ble (Nat.add i (nat_lit 1)) (nat_lit 1048576) = false := by
    cases e : Nat.ble (Nat.add i (nat_lit 1)) (nat_lit 1048576) with
    | false => rfl
    | true => exact absurd (show i + 1 ≤ 1048576 from Nat.le_of_ble_eq_true e) (by omega)
  rw [this]
theorem keyOf_at {i : Nat} (h : i < 1048576) : keyOf i = keyD (D.of (i / 65536)) (D.of (i / 4096 % 16)) (D.of (i / 256 % 16)) (D.of (i / 16 % 16)) (D.of (i % 16)) := by
  unfold keyOf
  have : Nat.ble (Nat.add i (nat_lit 1)) (nat_lit 1048576) = true := Nat.ble_eq_true_of_le (show i + 1 ≤ 1048576 by omega)
  rw [this]
  rfl

/-- the block of a number -/
noncomputable def at5 (f : D → D → D → D → D → Option AB) (i : Nat) : Option AB := f (D.of (i / 65536)) (D.of (i / 4096 % 16)) (D.of (i / 256 % 16)) (D.of (i / 16 % 16)) (D.of (i % 16))
theorem hgetK_eq {i : Nat} (h : i < 1048576) (f : D → D → D → D → D → Option AB) (K : Option AB → Bool) : hgetK i (M5 f) K = K (at5 f i) := by
  unfold hgetK at5
  rw [keyOf_at h, keyD_eq]
  refine (M5_s f _ _).trans ?_
  refine (M4_s _ _ _).trans ?_
  refine (M3_s _ _ _).trans ?_
  refine (M2_s _ _ _).trans ?_
  exact M1_s _ _ K
noncomputable def up5 (a b c d e : D) (x : Option AB) (f : D → D → D → D → D → Option AB) : D → D → D → D → D → Option AB :=
  up a (up b (up c (up d (up e x (f a b c d)) (f a b c)) (f a b)) (f a)) f
theorem hputK_eq {i : Nat} (h : i < 1048576) (x : AB) (f : D → D → D → D → D → Option AB) (K : Hp → Bool) :
    hputK i x (M5 f) K = K (M5 (up5 (D.of (i / 65536)) (D.of (i / 4096 % 16)) (D.of (i / 256 % 16)) (D.of (i / 16 % 16)) (D.of (i % 16)) (some x) f)) := by
  unfold hputK
  rw [keyOf_at h, keyD_eq]
  refine (M5_s f _ _).trans ?_
  refine (M4_s _ _ _).trans ?_
  refine (M3_s _ _ _).trans ?_
  refine (M2_s _ _ _).trans ?_
  refine (M1_u _ _ _ _).trans ?_
  refine (M2_u _ _ _ _).trans ?_
  refine (M3_u _ _ _ _).trans ?_
  refine (M4_u _ _ _ _).trans ?_
  exact M5_u _ _ _ K
theorem at5_up {i j : Nat} (hi : i < 1048576) (hj : j < 1048576) (x : Option AB) (f : D → D → D → D → D → Option AB) :
    at5 (up5 (D.of (i / 65536)) (D.of (i / 4096 % 16)) (D.of (i / 256 % 16)) (D.of (i / 16 % 16)) (D.of (i % 16)) x f) j = if j = i then x else at5 f j := by
  unfold at5 up5
  by_cases e : j = i
  · subst e
    rw [if_pos rfl]
    simp only [up_same]
  · rw [if_neg e]
    by_cases h1 : j / 65536 = i / 65536
    · by_cases h2 : j / 4096 % 16 = i / 4096 % 16
      · by_cases h3 : j / 256 % 16 = i / 256 % 16
        · by_cases h4 : j / 16 % 16 = i / 16 % 16
          · have h5 : j % 16 ≠ i % 16 := by omega
            rw [h1, h2, h3, h4]
            simp only [up_same]
            rw [up_ne]
            intro e; exact h5 (D.of_inj (by omega) (by omega) e)
          · rw [h1, h2, h3]
            simp only [up_same]
            rw [up_ne (d := D.of (i / 16 % 16))]
            intro e; exact h4 (D.of_inj (by omega) (by omega) e)
        · rw [h1, h2]
          simp only [up_same]
          rw [up_ne (d := D.of (i / 256 % 16))]
          intro e; exact h3 (D.of_inj (by omega) (by omega) e)
      · rw [h1]
        simp only [up_same]
        rw [up_ne (d := D.of (i / 4096 % 16))]
        intro e; exact h2 (D.of_inj (by omega) (by omega) e)
    · rw [up_ne (d := D.of (i / 65536))]
      intro e; exact h1 (D.of_inj (by omega) (by omega) e)

def Near (tm : Env) : Prop := ∀ i, 255 ≤ i → tm.look i = .undef
def ABok : AB → Prop
  | .loop _ _ tm _ _ _ _ => Near tm
  | _ => True
structure HeapOK (n : Nat) (t : Hp) (h : Heap) : Prop where
  next : h.next = n
  enc : ∃ f, t = M5 f ∧ ∀ i, i < 1048576 → h.get i = at5 f i
  ok : ∀ b x, h.get b = some x → ABok x

theorem hget_spec {n b : Nat} {t : Hp} {h : Heap} {K : Option AB → Bool} (hh : HeapOK n t h) (hk : hgetK b t K = true) : K (h.get b) = true := by
  by_cases hb : b < 1048576
  · obtain ⟨f, rfl, hf⟩ := hh.enc
    rw [hgetK_eq hb] at hk
    rw [hf b hb]; exact hk
  · unfold hgetK at hk
    rw [keyOf_no hb] at hk
    exact Bool.noConfusion hk
theorem hput_spec {n b : Nat} {t : Hp} {h : Heap} {x : AB} {K : Hp → Bool} (hh : HeapOK n t h) (hx : ABok x) (hk : hputK b x t K = true) : ∃ t', HeapOK n t' (h.set b x) ∧ K t' = true := by
  by_cases hb : b < 1048576
  · obtain ⟨hn, ⟨f, rfl, hf⟩, hok⟩ := hh
    rw [hputK_eq hb] at hk
    refine ⟨_, ⟨hn, ⟨_, rfl, fun i hi => ?_⟩, fun c y hy => ?_⟩, hk⟩
    · rw [at5_up hb hi, Heap.get_set, hf i hi]
    · rw [Heap.get_set] at hy
      split at hy
      · cases hy; exact hx
      · exact hok c y hy
  · unfold hputK at hk
    rw [keyOf_no hb] at hk
    exact Bool.noConfusion hk
theorem push_spec {n : Nat} {t : Hp} {h : Heap} {x : AB} {K : Nat → Hp → Bool} (hh : HeapOK n t h) (hx : ABok x) (hk : pushK x n t K = true) : ∃ t', HeapOK (n + 1) t' (h.push x) ∧ K (n + 1) t' = true := by
  unfold pushK at hk
  obtain ⟨t', hh', hk'⟩ := hput_spec hh hx hk
  refine ⟨t', ⟨by simp [hh.next], ?_, fun c y hy => hh'.ok c y ?_⟩, hk'⟩
  · obtain ⟨f, e, hf⟩ := hh'.enc
    exact ⟨f, e, fun i hi => by rw [← hf i hi, Heap.get_push, Heap.get_set, hh.next]⟩
  · rw [← hy, Heap.get_push, Heap.get_set, hh.next]
theorem HeapOK.hp0 : HeapOK 0 hp0 ⟨0, .nil⟩ := ⟨rfl, ⟨fun _ _ _ _ _ => none, rfl, fun _ _ => rfl⟩, fun _ _ h => by cases h⟩

theorem cells_spec {n b : Nat} {t : Hp} {h : Heap} {K : List AV → Bool → Bool} (hh : HeapOK n t h) (hk : cellsB t b K = true) : ∃ cs g, h.get b = some (.cells cs g) ∧ K cs g = true := by
  unfold cellsB at hk
  obtain ⟨x, hx, hk⟩ := optK_some (hget_spec hh hk)
  cases x with
  | cells cs g => exact ⟨cs, g, hx, hk⟩
  | map _ _ => exact Bool.noConfusion hk
  | loop _ _ _ _ _ _ _ => exact Bool.noConfusion hk
  | deferred _ => exact Bool.noConfusion hk
  | bld _ => exact Bool.noConfusion hk
  | bytes _ => exact Bool.noConfusion hk
  | dead => exact Bool.noConfusion hk
theorem loop_spec {n b : Nat} {t : Hp} {h : Heap} {K : LoopState → Option Jump → Env → List Nat → RCode → RCode → Nat → Bool} (hh : HeapOK n t h) (hk : loopB t b K = true) :
    ∃ st pd tm ps as bd d, h.get b = some (.loop st pd tm ps as bd d) ∧ Near tm ∧ K st pd tm ps as bd d = true := by
  unfold loopB at hk
  obtain ⟨x, hx, hk⟩ := optK_some (hget_spec hh hk)
  cases x with
  | loop st pd tm ps as bd d => exact ⟨st, pd, tm, ps, as, bd, d, hx, hh.ok _ _ hx, hk⟩
  | cells _ _ => exact Bool.noConfusion hk
  | map _ _ => exact Bool.noConfusion hk
  | deferred _ => exact Bool.noConfusion hk
  | bld _ => exact Bool.noConfusion hk
  | bytes _ => exact Bool.noConfusion hk
  | dead => exact Bool.noConfusion hk
end Go.Ev.K

namespace Go.Ev.K
open Go Go.Ev

/-! ## An operation in a part of the heap -/
structure Part (hl h : Heap) : Prop where
  next : hl.next = h.next
  sub : ∀ b x, hl.get b = some x → h.get b = some x
/-- what an operation does to the heap: a block gets another content, a block is new -/
noncomputable def eff (s : Option (Nat × AB)) (new : Option AB) (h : Heap) : Heap :=
  let h1 := match s with | some (b, x) => h.set b x | none => h
  match new with | some x => h1.push x | none => h1
def Does1 (hl h hl' h' : Heap) : Prop := ∃ s new, (∀ b x, s = some (b, x) → ∃ y, hl.get b = some y) ∧ hl' = eff s new hl ∧ h' = eff s new h

section
variable {hl h : Heap}
theorem Does1.same : Does1 hl h hl h := ⟨none, none, by simp, rfl, rfl⟩
theorem Does1.set {b : Nat} {x y : AB} (hb : hl.get b = some y) : Does1 hl h (hl.set b x) (h.set b x) :=
  ⟨some (b, x), none, by intro b' x' e; cases e; exact ⟨y, hb⟩, rfl, rfl⟩
theorem Does1.push (x : AB) : Does1 hl h (hl.push x) (h.push x) := ⟨none, some x, by simp, rfl, rfl⟩
theorem Does1.setPush {b : Nat} {x y z : AB} (hb : hl.get b = some y) : Does1 hl h ((hl.set b x).push z) ((h.set b x).push z) :=
  ⟨some (b, x), some z, by intro b' x' e; cases e; exact ⟨y, hb⟩, rfl, rfl⟩

variable (p : Part hl h)
  include p
theorem Part.cells {b : Nat} {cs : List AV} (e : hl.cells b = some cs) : h.cells b = some cs := by
  unfold Heap.cells at e ⊢
  split at e
  · rename_i h1; rw [p.sub _ _ h1]; exact e
  · cases e
theorem Part.readCells {b o n : Nat} {cs : List AV} (e : Ev.readCells hl b o n = some cs) : Ev.readCells h b o n = some cs := by
  unfold Ev.readCells at e ⊢
  split at e
  · rename_i h1; rw [p.sub _ _ h1]; exact e
  · cases e
theorem Part.firstN {sz n : Nat} {x : AV} {cs : List AV} (e : Ev.firstN hl sz n x = some cs) : Ev.firstN h sz n x = some cs := by
  unfold Ev.firstN at e ⊢
  cases x
  case slice b o l c => dsimp only at e ⊢; cases hn : Nat.beq n 0 <;> rw [hn] at e <;> first | exact e | exact p.readCells e
  case gslice b o l c => dsimp only at e ⊢; cases hn : Nat.beq n 0 <;> rw [hn] at e <;> first | exact e | exact p.readCells e
  all_goals exact e
theorem Part.writeCells {b o : Nat} {vs : List AV} {hl1 : Heap} (e : Ev.writeCells hl b o vs = some hl1) : ∃ x, (∃ y, hl.get b = some y) ∧ hl1 = hl.set b x ∧ Ev.writeCells h b o vs = some (h.set b x) := by
  unfold Ev.writeCells at e ⊢
  split at e
  · rename_i cs g h1
    rw [p.sub _ _ h1]
    dsimp only
    split at e
    · split at e
      · cases e
        exact ⟨_, ⟨_, h1⟩, rfl, rfl⟩
      · cases e
    · cases e
  · cases e
theorem Part.live {b : Nat} (e : liveCells hl b = true) : liveCells h b = true := by
  unfold liveCells at e ⊢
  split at e
  · rename_i h1; rw [p.sub _ _ h1]
  · cases e

mutual
theorem Part.aeq : ∀ (q : EqD) (x y : AV) (r : Bool), Ev.aeq hl q x y = some r → Ev.aeq h q x y = some r
  | .int, x, y, r, e => by cases x <;> cases y <;> first | exact e | (simp only [Ev.aeq] at e ⊢; first | exact e | cases e)
  | .str, x, y, r, e => by cases x <;> cases y <;> first | exact e | (simp only [Ev.aeq] at e ⊢; first | exact e | cases e)
  | .bool, x, y, r, e => by cases x <;> cases y <;> first | exact e | (simp only [Ev.aeq] at e ⊢; first | exact e | cases e)
  | .iface, x, y, r, e => by cases x <;> cases y <;> first | exact e | (simp only [Ev.aeq] at e ⊢; first | exact e | cases e)
  | .nilS, x, y, r, e => by cases x <;> cases y <;> first | exact e | (simp only [Ev.aeq] at e ⊢; first | exact e | cases e)
  | .nilM, x, y, r, e => by cases x <;> cases y <;> first | exact e | (simp only [Ev.aeq] at e ⊢; first | exact e | cases e)
  | .nilF, x, y, r, e => by cases x <;> cases y <;> first | exact e | (simp only [Ev.aeq] at e ⊢; first | exact e | cases e)
  | .ptr, x, y, r, e => by
    cases x <;> cases y
    case ptr.ptr b o c o' =>
      simp only [Ev.aeq] at e ⊢
      cases hb : Nat.beq b c with
      | true => rw [hb] at e; exact e
      | false =>
        rw [hb] at e
        dsimp only at e ⊢
        cases h1 : liveCells hl b && liveCells hl c with
        | false => rw [h1] at e; cases e
        | true =>
          rw [h1] at e
          simp only [Bool.and_eq_true] at h1
          rw [p.live h1.1, p.live h1.2]; exact e
    all_goals first | exact e | (simp only [Ev.aeq] at e ⊢; first | exact e | cases e)
  | .struct fs, x, y, r, e => by
    cases x <;> cases y
    case agg.agg xs ys =>
      simp only [Ev.aeq] at e ⊢
      exact Part.aeqs fs xs ys r e
    all_goals first | exact e | (simp only [Ev.aeq] at e ⊢; first | exact e | cases e)
theorem Part.aeqs : ∀ (fs : List (Nat × Option Nat × EqD)) (xs ys : List AV) (r : Bool), Ev.aeqs hl fs xs ys = some r → Ev.aeqs h fs xs ys = some r
  | [], _, _, _, e => by have _ := p; simp only [Ev.aeqs] at e ⊢; exact e
  | (off, n, q) :: fs, xs, ys, r, e => by
    simp only [Ev.aeqs] at e ⊢
    cases h1 : partOf xs off n with
    | none => rw [h1] at e; cases e
    | some x =>
      cases h2 : partOf ys off n with
      | none => rw [h1, h2] at e; cases e
      | some y =>
        rw [h1, h2] at e
        dsimp only at e ⊢
        cases h3 : Ev.aeq hl q x y with
        | none => rw [h3] at e; cases e
        | some s =>
          rw [h3] at e
          rw [Part.aeq q x y s h3]
          cases s with
          | true => exact Part.aeqs fs xs ys r e
          | false => exact e
end

theorem Part.findE {q : EqD} {k : AV} : ∀ {l : List (AV × AV × Nat)} {r : Option (AV × Nat)}, Ev.findE hl q k l = some r → Ev.findE h q k l = some r
  | [], r, e => by simp only [Ev.findE] at e ⊢; exact e
  | (k', v, n) :: l, r, e => by
    simp only [Ev.findE] at e ⊢
    cases h3 : Ev.aeq hl q k k' with
    | none => rw [h3] at e; cases e
    | some s =>
      rw [h3] at e
      rw [p.aeq q k k' s h3]
      cases s with
      | true => exact e
      | false => exact Part.findE e
theorem Part.setE {q : EqD} {k : AV} {v : Option AV} : ∀ {l m : List (AV × AV × Nat)}, Ev.setE hl q k v l = some m → Ev.setE h q k v l = some m
  | [], _, e => by simp only [Ev.setE] at e; cases e
  | (k', v', n) :: l, m, e => by
    simp only [Ev.setE] at e ⊢
    cases h3 : Ev.aeq hl q k k' with
    | none => rw [h3] at e; cases e
    | some s =>
      rw [h3] at e
      rw [p.aeq q k k' s h3]
      cases s with
      | true => exact e
      | false =>
        dsimp only at e ⊢
        cases h4 : Ev.setE hl q k v l with
        | none => rw [h4] at e; cases e
        | some m' => rw [h4] at e; rw [Part.setE h4]; exact e
theorem Part.delE {q : EqD} {k : AV} : ∀ {l m : List (AV × AV × Nat)}, Ev.delE hl q k l = some m → Ev.delE h q k l = some m
  | [], _, e => by simp only [Ev.delE] at e ⊢; exact e
  | (k', v', n) :: l, m, e => by
    simp only [Ev.delE] at e ⊢
    cases h3 : Ev.aeq hl q k k' with
    | none => rw [h3] at e; cases e
    | some s =>
      rw [h3] at e
      rw [p.aeq q k k' s h3]
      cases s with
      | true => exact e
      | false =>
        dsimp only at e ⊢
        cases h4 : Ev.delE hl q k l with
        | none => rw [h4] at e; cases e
        | some m' => rw [h4] at e; rw [Part.delE h4]; exact e

theorem Part.binA {op : BinOp} {q : Option EqD} {x y v : AV} (e : Ev.binA hl op q x y = some v) : Ev.binA h op q x y = some v := by
  unfold Ev.binA at e ⊢
  split at e
  · exact e
  · exact e
  · cases q with
    | none => cases e
    | some q =>
      dsimp only at e ⊢
      cases h1 : Ev.aeq hl q x y with
      | none => rw [h1] at e; cases op <;> cases e
      | some r => rw [h1] at e; rw [p.aeq q x y r h1]; exact e

theorem Part.appA {sz bytes n : Nat} {s v : AV} {new : List AV} {hl' : Heap} (e : Ev.appA hl sz bytes s n new = some (v, hl')) : ∃ h', Ev.appA h sz bytes s n new = some (v, h') ∧ Does1 hl h hl' h' := by
  unfold Ev.appA at e ⊢
  cases s
  case nils =>
    dsimp only at e ⊢
    split at e
    · cases e; exact ⟨h, rfl, .same⟩
    · split at e
      · cases e; rw [p.next]; exact ⟨_, rfl, .push _⟩
      · cases e
  case slice b o len cap =>
    dsimp only at e ⊢
    split at e
    · split at e
      · cases e; exact ⟨h, rfl, .same⟩
      · split at e
        · rename_i h2
          cases e
          obtain ⟨x, ⟨y, hy⟩, h3, h4⟩ := p.writeCells h2
          rw [h4, h3]
          exact ⟨_, rfl, .set hy⟩
        · cases e
    · split at e
      · rename_i old h1 h2
        cases e
        rw [h1, p.firstN h2, p.next]
        exact ⟨_, rfl, .push _⟩
      · cases e
  case gslice b o len sz' =>
    dsimp only at e ⊢
    split at e
    · cases e
    · split at e
      · cases e; exact ⟨h, rfl, .same⟩
      · split at e
        · rename_i cs h1
          rw [p.sub _ _ h1]
          dsimp only
          split at e
          · split at e
            · rename_i h2
              cases e
              obtain ⟨x, ⟨y, hy⟩, h3, h4⟩ := p.writeCells h2
              rw [h4, h3]
              exact ⟨_, rfl, .set hy⟩
            · cases e
          · split at e
            · rename_i old h2 h3
              cases e
              rw [p.next]
              exact ⟨_, rfl, .setPush h1⟩
            · cases e
        · cases e
  all_goals cases e

theorem Part.aop {tm : Env} {op : ROp} {v : AV} {hl' : Heap} (e : Ev.aop tm hl op = some (v, hl')) : ∃ h', Ev.aop tm h op = some (v, h') ∧ Does1 hl h hl' h' := by
  cases op
  case mv => simp only [Ev.aop] at e ⊢; cases e; exact ⟨h, rfl, .same⟩
  case pick => simp only [Ev.aop] at e ⊢; (repeat' split at e) <;> first | cases e; done | (cases e; exact ⟨h, rfl, .same⟩)
  case alloc => simp only [Ev.aop] at e ⊢; cases e; rw [p.next]; exact ⟨_, rfl, .push _⟩
  case box => simp only [Ev.aop] at e ⊢; cases e; rw [p.next]; exact ⟨_, rfl, .push _⟩
  case build => simp only [Ev.aop] at e ⊢; (repeat' split at e) <;> first | cases e; done | (cases e; exact ⟨h, rfl, .same⟩)
  case bslice => simp only [Ev.aop] at e ⊢; split at e; (cases e; rw [p.next]; exact ⟨_, rfl, .push _⟩); cases e
  case ld n x =>
    simp only [Ev.aop] at e ⊢
    split at e
    · split at e
      · rename_i h1
        split at h1
        · rename_i cs h2
          rw [p.cells h2]; dsimp only; rw [h1]; cases e; exact ⟨h, rfl, .same⟩
        · cases h1
      · cases e
    · cases e
  case st n x y =>
    simp only [Ev.aop] at e ⊢
    split at e
    · split at e
      · split at e
        · rename_i h1
          cases e
          obtain ⟨x, ⟨y, hy⟩, h3, h4⟩ := p.writeCells h1
          rw [h4, h3]; exact ⟨_, rfl, .set hy⟩
        · cases e
      · cases e
    · cases e
  case bin op q x y =>
    simp only [Ev.aop] at e ⊢
    split at e
    · rename_i h1
      rw [p.binA h1]; cases e; exact ⟨h, rfl, .same⟩
    · cases e
  case cvBytes => simp only [Ev.aop] at e ⊢; split at e; (cases e; rw [p.next]; exact ⟨_, rfl, .push _⟩); cases e
  case cvOfBytes x =>
    simp only [Ev.aop] at e ⊢
    split at e
    · cases e; exact ⟨h, rfl, .same⟩
    · rename_i b o n c _
      cases hn : Nat.beq n 0 with
      | true => rw [hn] at e; dsimp only at e ⊢; (repeat' split at e) <;> first | cases e; done | (cases e; exact ⟨h, rfl, .same⟩)
      | false =>
        rw [hn] at e
        dsimp only at e ⊢
        cases h1 : Ev.readCells hl b o n with
        | none => rw [h1] at e; cases e
        | some cs =>
          rw [h1] at e; rw [p.readCells h1]
          (repeat' split at e) <;> first | cases e; done | (cases e; exact ⟨h, rfl, .same⟩)
    · rename_i b o n c _
      cases hn : Nat.beq n 0 with
      | true => rw [hn] at e; dsimp only at e ⊢; (repeat' split at e) <;> first | cases e; done | (cases e; exact ⟨h, rfl, .same⟩)
      | false =>
        rw [hn] at e
        dsimp only at e ⊢
        cases h1 : Ev.readCells hl b o n with
        | none => rw [h1] at e; cases e
        | some cs =>
          rw [h1] at e; rw [p.readCells h1]
          (repeat' split at e) <;> first | cases e; done | (cases e; exact ⟨h, rfl, .same⟩)
    · cases e
  case mkmap => simp only [Ev.aop] at e ⊢; cases e; rw [p.next]; exact ⟨_, rfl, .push _⟩
  case mksl => simp only [Ev.aop] at e ⊢; (repeat' split at e) <;> first | cases e; done | (cases e; rw [p.next]; exact ⟨_, rfl, .push _⟩)
  case lk q z ok m k =>
    simp only [Ev.aop] at e ⊢
    split at e
    · cases hm : ro tm m
      case nilm => rw [hm] at e; dsimp only at e ⊢; cases e; exact ⟨h, rfl, .same⟩
      case map b =>
        rw [hm] at e
        dsimp only at e ⊢
        cases h1 : hl.get b with
        | none => rw [h1] at e; cases e
        | some x =>
          rw [h1] at e; rw [p.sub _ _ h1]
          cases x
          case map es clock =>
            dsimp only at e ⊢
            cases h2 : Ev.findE hl q (ro tm k) es with
            | none => rw [h2] at e; cases e
            | some r => rw [h2] at e; rw [p.findE h2]; cases r <;> (cases e; exact ⟨h, rfl, .same⟩)
          all_goals cases e
      all_goals (rw [hm] at e; cases e)
    · cases e
  case mu q m k x =>
    simp only [Ev.aop] at e ⊢
    split at e
    · split at e
      · rename_i es clock h1
        rw [p.sub _ _ h1]
        dsimp only
        split at e
        · rename_i h2
          rw [p.findE h2]
          dsimp only
          split at e
          · rename_i h3
            rw [p.setE h3]; cases e; exact ⟨_, rfl, .set h1⟩
          · cases e
        · rename_i h2
          rw [p.findE h2]; cases e; exact ⟨_, rfl, .set h1⟩
        · cases e
      · cases e
    · cases e
  case me q z m k =>
    simp only [Ev.aop] at e ⊢
    split at e
    · split at e
      · rename_i es clock h1
        rw [p.sub _ _ h1]
        dsimp only
        split at e
        · rename_i h2
          rw [p.findE h2]
          dsimp only
          split at e
          · rename_i h3
            rw [p.setE h3]; cases e; exact ⟨_, rfl, .set h1⟩
          · cases e
        · rename_i h2
          rw [p.findE h2]; cases e; exact ⟨_, rfl, .set h1⟩
        · cases e
      · cases e
    · cases e
  case es m s x =>
    simp only [Ev.aop] at e ⊢
    split at e
    · split at e
      · rename_i h1
        rw [p.sub _ _ h1]
        dsimp only
        split at e
        · cases e; exact ⟨_, rfl, .set h1⟩
        · cases e
      · cases e
    · cases e
  case blenMap x =>
    simp only [Ev.aop] at e ⊢
    split at e
    · cases e; exact ⟨h, rfl, .same⟩
    · split at e
      · rename_i h1
        rw [p.sub _ _ h1]; cases e; exact ⟨h, rfl, .same⟩
      · cases e
    · cases e
  case bapp sz bytes s x =>
    simp only [Ev.aop] at e ⊢
    split at e
    · split at e
      · rename_i h1
        rw [p.firstN h1]
        dsimp only
        split at e
        · exact p.appA e
        · cases e
      · cases e
    · cases e
  case bappZ sz bytes z s x =>
    simp only [Ev.aop] at e ⊢
    split at e
    · split at e
      · exact p.appA e
      · cases e
    · cases e
  case bclear sz z x =>
    simp only [Ev.aop] at e ⊢
    split at e
    · cases e; exact ⟨h, rfl, .same⟩
    · split at e
      · cases e; exact ⟨h, rfl, .same⟩
      · split at e
        · split at e
          · rename_i h1
            cases e
            obtain ⟨x, ⟨y, hy⟩, h3, h4⟩ := p.writeCells h1
            rw [h4, h3]; exact ⟨_, rfl, .set hy⟩
          · cases e
        · cases e
    · split at e
      · cases e; exact ⟨h, rfl, .same⟩
      · split at e
        · split at e
          · rename_i h1
            cases e
            obtain ⟨x, ⟨y, hy⟩, h3, h4⟩ := p.writeCells h1
            rw [h4, h3]; exact ⟨_, rfl, .set hy⟩
          · cases e
        · cases e
    · cases e
  case bcopy sz d s =>
    simp only [Ev.aop] at e ⊢
    split at e
    · split at e
      · rename_i h1
        rw [p.firstN h1]
        dsimp only
        split at e
        · cases e; exact ⟨h, rfl, .same⟩
        · split at e
          · cases e; exact ⟨h, rfl, .same⟩
          · split at e
            · rename_i h1
              cases e
              obtain ⟨x, ⟨y, hy⟩, h3, h4⟩ := p.writeCells h1
              rw [h4, h3]; exact ⟨_, rfl, .set hy⟩
            · cases e
        · split at e
          · cases e; exact ⟨h, rfl, .same⟩
          · split at e
            · rename_i h1
              cases e
              obtain ⟨x, ⟨y, hy⟩, h3, h4⟩ := p.writeCells h1
              rw [h4, h3]; exact ⟨_, rfl, .set hy⟩
            · cases e
        · cases e
      · cases e
    · cases e
  case bdel q m k =>
    simp only [Ev.aop] at e ⊢
    split at e
    · cases e; exact ⟨h, rfl, .same⟩
    · split at e
      · rename_i h1
        rw [p.sub _ _ h1]
        dsimp only
        split at e
        · rename_i h3
          rw [p.delE h3]; cases e; exact ⟨_, rfl, .set h1⟩
        · cases e
      · cases e
    · cases e
  case call => simp only [Ev.aop] at e; cases e
  all_goals
    simp only [Ev.aop] at e ⊢
    first
      | (cases e; exact ⟨h, rfl, .same⟩)
      | ((repeat' split at e) <;> first | cases e; done | (cases e; exact ⟨h, rfl, .same⟩))
end
end Go.Ev.K

namespace Go.Ev.K
open Go Go.Ev

/-- what a continuation is given -/
def Good (K : KV) (v : AV) (h : Heap) : Prop := ∃ n t, HeapOK n t h ∧ K n t v = true

theorem HeapOK.congr {n : Nat} {t : Hp} {h h' : Heap} (hh : HeapOK n t h) (hn : h'.next = h.next) (hg : ∀ b, h'.get b = h.get b) : HeapOK n t h' where
  next := hn.trans hh.next
  enc := by obtain ⟨f, e, hf⟩ := hh.enc; exact ⟨f, e, fun i hi => by rw [hg, hf i hi]⟩
  ok := fun b x hx => hh.ok b x (by rw [← hg]; exact hx)

theorem appF_eq : ∀ (l m : List AV) (K : List AV → Bool), appF l m K = K (l ++ m)
  | [], _, _ => rfl
  | a :: l, m, K => appF_eq l m fun r => K (a :: r)
theorem appK_eq (l m : List AV) (K : List AV → Bool) : appK l m K = K (l ++ m) := by
  cases m with
  | nil => simp only [List.append_nil]; rfl
  | cons a m => exact appF_eq l (a :: m) K

theorem abForce_spec {x : AB} {K : AB → Bool} (h : abForce x K = true) : ABok x ∧ K x = true := by
  cases x with
  | cells cs g =>
    have h' : appF cs [] (fun cs' => K (.cells cs' g)) = true := h
    rw [appF_eq, List.append_nil] at h'
    exact ⟨trivial, h'⟩
  | map es clock => exact ⟨trivial, h⟩
  | dead => exact ⟨trivial, h⟩
  | loop _ _ _ _ _ _ _ => exact Bool.noConfusion h
  | deferred _ => exact Bool.noConfusion h
  | bld _ => exact Bool.noConfusion h
  | bytes _ => exact Bool.noConfusion h

theorem bring_spec {n : Nat} {t : Hp} {h : Heap} (hh : HeapOK n t h) : ∀ {l : List Nat} {s : Tr AB} {K : Tr AB → Bool}, bring l t s K = true →
    ∃ s', K s' = true ∧ ∀ b, s'.get b = if b ∈ l then (match h.get b with | some x => some x | none => s.get b) else s.get b
  | [], s, K, hk => ⟨s, hk, fun b => by simp⟩
  | c :: l, s, K, hk => by
    have hk' := hget_spec (K := fun o => @Option.rec AB (fun _ => Bool) (bring l t s K) (fun x => bring l t (s.put c x) K) o) hh hk
    cases hc : h.get c with
    | none =>
      rw [hc] at hk'
      obtain ⟨s', h1, h2⟩ := bring_spec (l := l) hh hk'
      refine ⟨s', h1, fun b => ?_⟩
      rw [h2 b]
      by_cases hb : b = c
      · subst hb; simp [hc]
      · simp [hb]
    | some x =>
      rw [hc] at hk'
      obtain ⟨s', h1, h2⟩ := bring_spec (l := l) hh hk'
      refine ⟨s', h1, fun b => ?_⟩
      rw [h2 b, Tr.get_put]
      by_cases hb : b = c
      · subst hb; simp [hc]
      · simp [hb]

theorem lay_spec {n : Nat} {h' : Heap} : ∀ {l : List Nat} {t : Hp} {h : Heap} {K : Hp → Bool}, HeapOK n t h → layK l h' t K = true →
    ∃ t' h1, HeapOK n t' h1 ∧ K t' = true ∧ h1.next = h.next ∧ ∀ b, h1.get b = if b ∈ l then (match h'.get b with | some x => some x | none => h.get b) else h.get b
  | [], t, h, K, hh, hk => ⟨t, h, hh, hk, rfl, fun b => by simp⟩
  | c :: l, t, h, K, hh, hk => by
    have hk' : @Option.rec AB (fun _ => Bool) (layK l h' t K) (fun x => abForce x fun x => hputK c x t fun t' => layK l h' t' K) (h'.get c) = true := hk
    cases hc : h'.get c with
    | none =>
      rw [hc] at hk'
      obtain ⟨t', h1, a1, a2, a3, a4⟩ := lay_spec hh (show layK l h' t K = true from hk')
      refine ⟨t', h1, a1, a2, a3, fun b => ?_⟩
      rw [a4 b]
      by_cases hb : b = c
      · subst hb; simp [hc]
      · simp [hb]
    | some x =>
      rw [hc] at hk'
      obtain ⟨hx, hk2⟩ := abForce_spec hk'
      obtain ⟨t2, b1, b2⟩ := hput_spec hh hx hk2
      obtain ⟨t', h1, a1, a2, a3, a4⟩ := lay_spec b1 (show layK l h' t2 K = true from b2)
      refine ⟨t', h1, a1, a2, a3, fun b => ?_⟩
      rw [a4 b, Heap.get_set]
      by_cases hb : b = c
      · subst hb; simp [hc]
      · simp [hb]

theorem deepL_spec {n : Nat} {t : Hp} {h : Heap} {K : List Nat → Bool} (hh : HeapOK n t h) : ∀ {l acc : List Nat}, deepL t K l acc = true → ∃ l', K l' = true
  | [], acc, hk => ⟨acc, hk⟩
  | b :: l, acc, hk => by
    have hk' := hget_spec (K := fun o => @Option.rec AB (fun _ => Bool) (deepL t K l (b :: acc)) (fun x => deepL t K l (abKeys x (b :: acc))) o) hh hk
    cases hc : h.get b with
    | none => rw [hc] at hk'; exact deepL_spec hh hk'
    | some x => rw [hc] at hk'; exact deepL_spec hh hk'
theorem deepK_spec {op : ROp} {l : List Nat} {n : Nat} {t : Hp} {h : Heap} {K : List Nat → Bool} (hh : HeapOK n t h) (hk : deepK op l t K = true) : ∃ l', K l' = true := by
  unfold deepK at hk
  cases hd : deepOp op with
  | true => rw [hd] at hk; exact deepL_spec hh (show deepL t K l [] = true from hk)
  | false => rw [hd] at hk; exact ⟨l, hk⟩

theorem slowEnd_spec {op : ROp} {l : List Nat} {n : Nat} {t : Hp} {h : Heap} {K : KV} (hh : HeapOK n t h) (hk : slowEnd op l n t K = true) : ∃ v h', aop .nil h op = some (v, h') ∧ Good K v h' := by
  unfold slowEnd at hk
  obtain ⟨s, hk, hs⟩ := bring_spec hh hk
  obtain ⟨p, hp, hk⟩ := optK_some hk
  obtain ⟨v, hl'⟩ := p
  have part : Part ⟨n, s⟩ h := ⟨hh.next.symm, fun b x hb => by
    have hb' : s.get b = some x := hb
    rw [hs b] at hb'
    split at hb'
    · split at hb'
      · rename_i h1; rw [h1]; exact hb'
      · cases hb'
    · cases hb'⟩
  obtain ⟨h', h1, sets, new, hsets, e1, e2⟩ := part.aop hp
  refine ⟨v, h', h1, ?_⟩
  have hk1 : layK l hl' t (fun t' => newK hl' n t' fun n' t'' => fV v (K n' t'')) = true := hk
  obtain ⟨t1, h2, a1, a2, a3, a4⟩ := lay_spec hh hk1
  have hmem : ∀ b y, s.get b = some y → b ∈ l := fun b y hb => by
    rw [hs b] at hb
    split at hb
    · assumption
    · cases hb
  have hfv : ∀ {v : AV} {K : AV → Bool}, fV v K = true → K v = true := fun {v K} hv => by
    cases v
    case bool b => cases b <;> exact hv
    case int k i => exact (fI_eq i fun n => K (.int k n)).symm.trans hv
    all_goals exact hv
  -- the block that is set
  have hset : ∀ b x, sets = some (b, x) → b ∈ l := fun b x e => by
    obtain ⟨y, hy⟩ := hsets b x e
    exact hmem b y hy
  have hget : ∀ b, b ∈ l → s.get b = h.get b := fun b hb => by
    rw [hs b, if_pos hb]
    cases h.get b <;> rfl
  have hget' : ∀ b, b ∉ l → s.get b = none := fun b hb => by rw [hs b, if_neg hb]; rfl
  unfold newK at a2
  cases new with
  | none =>
    have hn : hl'.next = n := by rw [e1]; cases sets <;> rfl
    rw [hn, Nat.beq_refl] at a2
    refine ⟨n, t1, a1.congr ?_ ?_, hfv a2⟩
    · rw [e2, a3]; cases sets <;> rfl
    · intro b
      rw [a4 b, e1, e2]
      cases sets with
      | none =>
        simp only [eff]
        by_cases hb : b ∈ l
        · rw [if_pos hb]
          have : Heap.get ⟨n, s⟩ b = h.get b := hget b hb
          rw [this]
          cases h.get b <;> rfl
        · rw [if_neg hb]
      | some q =>
        obtain ⟨c, x⟩ := q
        simp only [eff, Heap.get_set]
        by_cases hb : b ∈ l
        · rw [if_pos hb]
          have : Heap.get ⟨n, s⟩ b = h.get b := hget b hb
          rw [this]
          by_cases hc : b = c
          · simp [hc]
          · simp only [if_neg hc]; cases h.get b <;> rfl
        · rw [if_neg hb, if_neg]
          intro e; subst e; exact hb (hset b x rfl)
  | some z =>
    have hn : hl'.next = n + 1 := by rw [e1]; cases sets <;> rfl
    have hne : Nat.beq (n + 1) n = false := by
      cases e : Nat.beq (n + 1) n with
      | false => rfl
      | true => exact absurd (Nat.eq_of_beq_eq_true e) (by omega)
    rw [hn, hne] at a2
    have a2' : ifB (Nat.beq (n + 1) (Nat.add n 1)) (optK (hl'.get n) fun x => abForce x fun x => pushK x n t1 fun n' t'' => fV v (K n' t'')) false = true := a2
    rw [show Nat.add n 1 = n + 1 from rfl, Nat.beq_refl] at a2'
    have hz : hl'.get n = some z := by
      rw [e1]
      cases sets with
      | none => simp [eff]
      | some q => simp [eff]
    rw [hz] at a2'
    obtain ⟨hok, a5⟩ := abForce_spec (show abForce z (fun x => pushK x n t1 fun n' t'' => fV v (K n' t'')) = true from a2')
    obtain ⟨t2, b1, b2⟩ := push_spec a1 hok a5
    refine ⟨n + 1, t2, b1.congr ?_ ?_, hfv b2⟩
    · rw [e2]
      cases sets <;> simp [eff, a3]
    · intro b
      rw [Heap.get_push, a4 b, e1, e2, a3, hh.next]
      cases sets with
      | none =>
        simp only [eff, Heap.get_push, hh.next]
        by_cases hbn : b = n
        · simp [hbn]
        · simp only [if_neg hbn]
          by_cases hb : b ∈ l
          · rw [if_pos hb]
            have : Heap.get ⟨n, s⟩ b = h.get b := hget b hb
            rw [this]
            cases h.get b <;> rfl
          · rw [if_neg hb]
      | some q =>
        obtain ⟨c, x⟩ := q
        simp only [eff, Heap.get_push, Heap.get_set, Heap.next_set, hh.next]
        by_cases hbn : b = n
        · simp [hbn]
        · simp only [if_neg hbn]
          by_cases hb : b ∈ l
          · rw [if_pos hb]
            have : Heap.get ⟨n, s⟩ b = h.get b := hget b hb
            rw [this]
            by_cases hc : b = c
            · simp [hc]
            · simp only [if_neg hc]; cases h.get b <;> rfl
          · rw [if_neg hb, if_neg]
            intro e; subst e; exact hb (hset b x rfl)
end Go.Ev.K

namespace Go.Ev.K
open Go Go.Ev

/-! ## Values -/
theorem onPtr_spec {v : AV} {K : Nat → Nat → Bool} (h : onPtr v K = true) : ∃ b o, v = .ptr b o ∧ K b o = true := by
  cases v
  case ptr b o => exact ⟨b, o, rfl, h⟩
  all_goals exact Bool.noConfusion h
theorem onBool_spec {v : AV} {x y : Bool} (h : onBool v x y = true) : (v = .bool true ∧ x = true) ∨ (v = .bool false ∧ y = true) := by
  cases v
  case bool b => cases b; exact .inr ⟨rfl, h⟩; exact .inl ⟨rfl, h⟩
  all_goals exact Bool.noConfusion h
theorem onAgg_spec {v : AV} {K : List AV → Bool} (h : onAgg v K = true) : ∃ cs, v = .agg cs ∧ K cs = true := by
  cases v
  case agg cs => exact ⟨cs, rfl, h⟩
  all_goals exact Bool.noConfusion h
theorem onTup_spec {v : AV} {K : List AV → Bool} (h : onTup v K = true) : ∃ cs, v = .tup cs ∧ K cs = true := by
  cases v
  case tup cs => exact ⟨cs, rfl, h⟩
  all_goals exact Bool.noConfusion h
theorem onInt_spec {v : AV} {K : IntKind → Int → Bool} {F : Bool} (h : onInt v K F = true) : F = true ∨ ∃ k n, v = .int k n ∧ K k n = true := by
  cases v
  case int k n => exact .inr ⟨k, n, rfl, h⟩
  all_goals exact .inl h
theorem onIS_spec {v : AV} {K : IntKind → Int → Bool} {S : List Nat → Bool} {F : Bool} (h : onIS v K S F = true) : F = true ∨ (∃ k n, v = .int k n ∧ K k n = true) ∨ ∃ s, v = .str s ∧ S s = true := by
  cases v
  case int k n => exact .inr (.inl ⟨k, n, rfl, h⟩)
  case str s => exact .inr (.inr ⟨s, rfl, h⟩)
  all_goals exact .inl h
theorem onStr_spec {v : AV} {S : List Nat → Bool} {F : Bool} (h : onStr v S F = true) : F = true ∨ ∃ s, v = .str s ∧ S s = true := by
  cases v
  case str s => exact .inr ⟨s, rfl, h⟩
  all_goals exact .inl h
theorem onNat_spec {v : AV} {K : Nat → Bool} (h : onNat v K = true) : ∃ m, asNat v = some m ∧ K m = true := by
  cases v
  case int k n =>
    cases n with
    | ofNat m => exact ⟨m, rfl, h⟩
    | negSucc m => exact Bool.noConfusion h
  all_goals exact Bool.noConfusion h
theorem cellsK_eq (v : AV) (K : List AV → Bool) : cellsK v K = K v.cells := by cases v <;> rfl
theorem ckF_spec {v : AV} {K : AV → Bool} (h : ckF v v K = true) : (v ≠ .nilp ∧ v ≠ .nili ∧ v ≠ .nilf) ∧ K v = true := by
  cases v
  case nilp => exact Bool.noConfusion h
  case nili => exact Bool.noConfusion h
  case nilf => exact Bool.noConfusion h
  all_goals exact ⟨⟨nofun, nofun, nofun⟩, h⟩
theorem fV_eq (v : AV) (K : AV → Bool) : fV v K = K v := by
  cases v
  case bool b => cases b <;> rfl
  case int k i => exact fI_eq i fun n => K (.int k n)
  all_goals rfl
theorem onLen_spec {v : AV} {K : AV → Bool} (h : onLen v K = true) : (v = .nils ∧ K (.int .i64 (.ofNat 0)) = true) ∨ (∃ b o n c, v = .slice b o n c ∧ K (.int .i64 (.ofNat n)) = true) ∨ ∃ b o n c, v = .gslice b o n c ∧ K (.int .i64 (.ofNat n)) = true := by
  cases v
  case nils => exact .inl ⟨rfl, h⟩
  case slice b o n c => exact .inr (.inl ⟨b, o, n, c, rfl, h⟩)
  case gslice b o n c => exact .inr (.inr ⟨b, o, n, c, rfl, h⟩)
  all_goals exact Bool.noConfusion h
theorem onSl_spec {v : AV} {K : Nat → Nat → Nat → Bool} (h : onSl v K = true) : (∃ b o n c, v = .slice b o n c ∧ K b o n = true) ∨ ∃ b o n c, v = .gslice b o n c ∧ K b o n = true := by
  cases v
  case slice b o n c => exact .inl ⟨b, o, n, c, rfl, h⟩
  case gslice b o n c => exact .inr ⟨b, o, n, c, rfl, h⟩
  all_goals exact Bool.noConfusion h
theorem scK_eq (v : AV) (b : Bool) : scK v b = (scalar v && b) := by cases v <;> cases b <;> rfl
theorem allS_eq : ∀ l : List AV, allS l = l.all scalar
  | [] => rfl
  | v :: l => by
    have : allS (v :: l) = scK v (allS l) := rfl
    rw [this, scK_eq, allS_eq l]; rfl
theorem wantV_spec {v : AV} {w T F : Bool} (h : wantV v w T F = true) : ((match v with | .bool b => b == w | _ => false) = true ∧ T = true) ∨ ((match v with | .bool b => b == w | _ => false) = false ∧ F = true) := by
  cases v
  case bool b => cases b <;> cases w <;> first | exact .inl ⟨rfl, h⟩ | exact .inr ⟨rfl, h⟩
  all_goals exact .inr ⟨rfl, h⟩

/-! ## Operands -/
section
variable {e : KEnv} {tm : Env} (he : EnvOK e tm)
  include he
theorem ofRO_spec {x : RO} {K : AV → Bool} (h : ofRO x e K = true) : K (ro tm x) = true := by
  cases x with
  | t i => exact rd_spec he h
  | c v => exact h
theorem ofROs_spec : ∀ {l : List RO} {K : List AV → Bool}, ofROs l e K = true → K (l.map (ro tm)) = true
  | [], _, h => h
  | x :: l, K, h => by
    have h1 := ofRO_spec he (x := x) (K := fun v => ofROs l e fun vs => K (v :: vs)) h
    exact ofROs_spec (l := l) (K := fun vs => K (ro tm x :: vs)) h1
theorem ofROo_spec {o : Option RO} {K : Option AV → Bool} (h : ofROo o e K = true) : K (o.map (ro tm)) = true := by
  cases o with
  | none => exact h
  | some x => exact ofRO_spec he (x := x) (K := fun v => K (some v)) h
end

/-! ## Lists -/
theorem nthK_spec : ∀ {l : List AV} {n : Nat} {K : AV → Bool}, nthK l n K = true → ∃ a, nth l n = some a ∧ K a = true
  | [], _, _, h => Bool.noConfusion h
  | a :: _, 0, _, h => ⟨a, rfl, h⟩
  | _ :: l, n + 1, _, h => nthK_spec (l := l) (n := n) h
theorem dropK_spec : ∀ {n : Nat} {l : List AV} {K : List AV → Bool}, dropK n l K = true → ∃ m, dropN n l = some m ∧ K m = true
  | 0, l, _, h => ⟨l, by cases l <;> rfl, h⟩
  | n + 1, [], _, h => Bool.noConfusion h
  | n + 1, a :: l, K, h => dropK_spec (n := n) (l := l) h
theorem takeK_spec : ∀ {n : Nat} {l : List AV} {K : List AV → Bool}, takeK n l K = true → ∃ m, takeN n l = some m ∧ K m = true
  | 0, l, _, h => ⟨[], by cases l <;> rfl, h⟩
  | n + 1, [], _, h => Bool.noConfusion h
  | n + 1, a :: l, K, h => by
    obtain ⟨m, h1, h2⟩ := takeK_spec (n := n) (l := l) (K := fun r => K (a :: r)) h
    exact ⟨a :: m, by simp only [takeN, h1], h2⟩
theorem subK_spec {l : List AV} {o n : Nat} {K : List AV → Bool} (h : subK l o n K = true) : ∃ m, sub l o n = some m ∧ K m = true := by
  obtain ⟨m, h1, h2⟩ := dropK_spec h
  obtain ⟨m', h3, h4⟩ := takeK_spec h2
  exact ⟨m', by unfold sub; rw [h1]; exact h3, h4⟩
theorem overK_spec : ∀ {vs l : List AV} {K : List AV → Bool}, overK vs l K = true → ∃ m, over l vs = some m ∧ K m = true
  | [], l, _, h => ⟨l, by cases l <;> rfl, h⟩
  | v :: vs, [], _, h => Bool.noConfusion h
  | v :: vs, a :: l, K, h => by
    obtain ⟨m, h1, h2⟩ := overK_spec (vs := vs) (l := l) (K := fun r => K (v :: r)) h
    exact ⟨v :: m, by simp only [over, h1], h2⟩
theorem spliceK_spec : ∀ {o : Nat} {l vs : List AV} {K : List AV → Bool}, spliceK o l vs K = true → ∃ m, splice l o vs = some m ∧ K m = true
  | 0, l, vs, _, h => by
    obtain ⟨m, h1, h2⟩ := overK_spec h
    exact ⟨m, by cases l <;> exact h1, h2⟩
  | o + 1, [], _, _, h => Bool.noConfusion h
  | o + 1, a :: l, vs, K, h => by
    obtain ⟨m, h1, h2⟩ := spliceK_spec (o := o) (l := l) (vs := vs) (K := fun r => K (a :: r)) h
    exact ⟨a :: m, by simp only [splice, h1], h2⟩
theorem partK_spec {cs : List AV} {o : Nat} {g : Option Nat} {K : AV → Bool} (h : partK cs o g K = true) : ∃ v, partOf cs o g = some v ∧ K v = true := by
  cases g with
  | none => exact nthK_spec h
  | some m =>
    obtain ⟨l, h1, h2⟩ := subK_spec (K := fun l => K (.agg l)) h
    exact ⟨.agg l, by simp only [partOf, h1], h2⟩
theorem wrK_spec {n b o : Nat} {t : Hp} {h : Heap} {vs : List AV} {K : Hp → Bool} (hh : HeapOK n t h) (hk : wrK t b o vs K = true) : ∃ h' t', writeCells h b o vs = some h' ∧ HeapOK n t' h' ∧ K t' = true := by
  obtain ⟨cs, g, h1, h2⟩ := cells_spec hh hk
  obtain ⟨h3, h4⟩ := ifB_no h2
  obtain ⟨cs', h5, h6⟩ := spliceK_spec h4
  obtain ⟨t', h7, h8⟩ := hput_spec hh (x := .cells cs' g) trivial h6
  rw [allS_eq] at h3
  exact ⟨_, t', by unfold writeCells; rw [h1]; dsimp only; rw [h3]; dsimp only; rw [h5], h7, h8⟩
theorem ofParts_spec {e : KEnv} {tm : Env} (he : EnvOK e tm) : ∀ {l : List (Nat × Nat × RO)} {cs : List AV} {K : List AV → Bool}, ofParts l e cs K = true → ∃ cs', fillP tm cs l = some cs' ∧ K cs' = true
  | [], cs, _, h => ⟨cs, rfl, h⟩
  | (off, sz, x) :: l, cs, K, h => by
    have h1 := ofRO_spec he (x := x) (K := fun v => cellsK v fun vs => ifB (Nat.beq vs.length sz) (spliceK off cs vs fun cs' => ofParts l e cs' K) false) h
    rw [cellsK_eq] at h1
    obtain ⟨h2, h3⟩ := ifB_no h1
    obtain ⟨cs', h4, h5⟩ := spliceK_spec h3
    obtain ⟨cs2, h6, h7⟩ := ofParts_spec he (l := l) h5
    exact ⟨cs2, by simp only [fillP, h2, h4, h6], h7⟩

/-! ## Numbers and strings -/
theorem wrap_kmax {k : IntKind} {r : Nat} (h : r ≤ kmax k) : k.wrap (.ofNat r) = .ofNat r := by
  cases k <;> simp only [kmax] at h <;> simp [IntKind.wrap, IntKind.bits, IntKind.signed] <;> omega
theorem kk_eq {k l : IntKind} (h : kk k l = true) : k = l := of_decide_eq_true h
theorem dec_lt (m p : Nat) : decide (Int.ofNat m < Int.ofNat p) = Nat.ble (m + 1) p := by
  rw [Bool.eq_iff_iff, decide_eq_true_iff, Nat.ble_eq]
  simp only [Int.ofNat_eq_natCast]; omega
theorem dec_le (m p : Nat) : decide (Int.ofNat m ≤ Int.ofNat p) = Nat.ble m p := by
  rw [Bool.eq_iff_iff, decide_eq_true_iff, Nat.ble_eq]
  simp only [Int.ofNat_eq_natCast]; omega
theorem dec_eq (m p : Nat) : decide (Int.ofNat m = Int.ofNat p) = Nat.beq m p := by
  rw [Bool.eq_iff_iff, decide_eq_true_iff, Nat.beq_eq]
  simp only [Int.ofNat_eq_natCast]; omega

theorem natBin_spec {op : BinOp} {h : Heap} {q : Option EqD} {k l : IntKind} {m p : Nat} {K : AV → Bool} {F : Bool} (hk : natBin op k l m p K F = true) :
    F = true ∨ ∃ r, binA h op q (.int k (.ofNat m)) (.int l (.ofNat p)) = some r ∧ K r = true := by
  have start : ∀ {Y : Bool}, ifB (kk k l) Y F = true → F = true ∨ (k = l ∧ Y = true) := fun h => by
    rcases ifB_true h with ⟨h1, h2⟩ | ⟨_, h2⟩
    · exact .inr ⟨kk_eq h1, h2⟩
    · exact .inl h2
  cases op
  case add =>
    rcases start hk with h0 | ⟨e, h0⟩
    · exact .inl h0
    · subst e
      rcases ifB_true h0 with ⟨h1, h2⟩ | ⟨_, h2⟩
      · refine .inr ⟨_, by simp only [binA, decide_true, Ev.binInt]; rfl, ?_⟩
        have : (Int.ofNat m + Int.ofNat p) = Int.ofNat (m + p) := rfl
        rw [this, wrap_kmax (show m + p ≤ kmax k from Nat.le_of_ble_eq_true h1)]; exact h2
      · exact .inl h2
  case sub =>
    rcases start hk with h0 | ⟨e, h0⟩
    · exact .inl h0
    · subst e
      rcases ifB_true h0 with ⟨h1, h2⟩ | ⟨_, h2⟩
      · rcases ifB_true h2 with ⟨h3, h4⟩ | ⟨_, h4⟩
        · refine .inr ⟨_, by simp only [binA, decide_true, Ev.binInt]; rfl, ?_⟩
          have hle : p ≤ m := Nat.le_of_ble_eq_true h1
          have : (Int.ofNat m - Int.ofNat p) = Int.ofNat (m - p) := by simp only [Int.ofNat_eq_natCast]; omega
          rw [this, wrap_kmax (show m - p ≤ kmax k from Nat.le_of_ble_eq_true h3)]; exact h4
        · exact .inl h4
      · exact .inl h2
  case eql =>
    rcases start hk with h0 | ⟨e, h0⟩
    · exact .inl h0
    · subst e
      rw [boolK_eq] at h0
      exact .inr ⟨_, by simp only [binA, decide_true, Ev.binInt]; rfl, by rw [dec_eq]; exact h0⟩
  case neq =>
    rcases start hk with h0 | ⟨e, h0⟩
    · exact .inl h0
    · subst e
      refine .inr ⟨_, by simp only [binA, decide_true, Ev.binInt]; rfl, ?_⟩
      rw [dec_eq]
      rcases ifB_true h0 with ⟨h1, h2⟩ | ⟨h1, h2⟩ <;> rw [h1] <;> exact h2
  case lss =>
    rcases start hk with h0 | ⟨e, h0⟩
    · exact .inl h0
    · subst e
      rw [boolK_eq] at h0
      exact .inr ⟨_, by simp only [binA, decide_true, Ev.binInt]; rfl, by rw [dec_lt]; exact h0⟩
  case leq =>
    rcases start hk with h0 | ⟨e, h0⟩
    · exact .inl h0
    · subst e
      rw [boolK_eq] at h0
      exact .inr ⟨_, by simp only [binA, decide_true, Ev.binInt]; rfl, by rw [dec_le]; exact h0⟩
  case gtr =>
    rcases start hk with h0 | ⟨e, h0⟩
    · exact .inl h0
    · subst e
      rw [boolK_eq] at h0
      exact .inr ⟨_, by simp only [binA, decide_true, Ev.binInt]; rfl, by rw [dec_lt]; exact h0⟩
  case geq =>
    rcases start hk with h0 | ⟨e, h0⟩
    · exact .inl h0
    · subst e
      rw [boolK_eq] at h0
      exact .inr ⟨_, by simp only [binA, decide_true, Ev.binInt]; rfl, by rw [dec_le]; exact h0⟩
  all_goals exact .inl hk

theorem strK_spec : ∀ {a b : List Nat} {Y N : Bool}, strK a b Y N = true → (a = b ∧ Y = true) ∨ (a ≠ b ∧ N = true)
  | [], [], _, _, h => .inl ⟨rfl, h⟩
  | [], _ :: _, _, _, h => .inr ⟨nofun, h⟩
  | _ :: _, [], _, _, h => .inr ⟨nofun, h⟩
  | x :: a, y :: b, Y, N, h => by
    rcases ifB_true (b := Nat.beq x y) h with ⟨h1, h2⟩ | ⟨h1, h2⟩
    · have e := Nat.eq_of_beq_eq_true h1
      subst e
      rcases strK_spec (a := a) (b := b) h2 with ⟨h3, h4⟩ | ⟨h3, h4⟩
      · exact .inl ⟨by rw [h3], h4⟩
      · exact .inr ⟨by intro e; cases e; exact h3 rfl, h4⟩
    · refine .inr ⟨?_, h2⟩
      intro e; cases e; rw [Nat.beq_refl] at h1; cases h1

theorem strBin_spec {op : BinOp} {h : Heap} {q : Option EqD} {a b : List Nat} {K : AV → Bool} {F : Bool} (hk : strBin op a b K F = true) : F = true ∨ ∃ r, binA h op q (.str a) (.str b) = some r ∧ K r = true := by
  cases op
  case eql =>
    rcases strK_spec (a := a) (b := b) hk with ⟨h1, h2⟩ | ⟨h1, h2⟩
    · exact .inr ⟨_, rfl, by rw [decide_eq_true h1]; exact h2⟩
    · exact .inr ⟨_, rfl, by rw [decide_eq_false h1]; exact h2⟩
  case neq =>
    rcases strK_spec (a := a) (b := b) hk with ⟨h1, h2⟩ | ⟨h1, h2⟩
    · exact .inr ⟨_, rfl, by rw [decide_eq_true h1]; exact h2⟩
    · exact .inr ⟨_, rfl, by rw [decide_eq_false h1]; exact h2⟩
  all_goals exact .inl hk
end Go.Ev.K

namespace Go.Ev.K
open Go Go.Ev

/-! ## Closed forms of operations -/
section
variable {e : KEnv} {tm : Env} (he : EnvOK e tm)
  include he
theorem map_c (l : List AV) (tm : Env) : (l.map RO.c).map (ro tm) = l := by
  have _ := he
  induction l with
  | nil => rfl
  | cons a l ih => simp only [List.map_cons, ih]; rfl
theorem omap_c (o : Option AV) (tm : Env) : (o.map RO.c).map (ro tm) = o := by
  have _ := he
  cases o <;> rfl

theorem clo_cvInt {k : IntKind} {x : RO} {K : ROp → List Nat → Bool} (hk : qCvInt k (ofRO x) e K = true) : ∃ op' l', K op' l' = true ∧ ∀ h, aop .nil h op' = aop tm h (.cvInt k x) := by
  replace hk := ofRO_spec he (x := x) (K := fun x' => K (ROp.cvInt k (.c x')) []) hk
  exact ⟨_, _, hk, fun h => rfl⟩
theorem clo_cvStr {x : RO} {K : ROp → List Nat → Bool} (hk : qCvStr (ofRO x) e K = true) : ∃ op' l', K op' l' = true ∧ ∀ h, aop .nil h op' = aop tm h (.cvStr x) := by
  replace hk := ofRO_spec he (x := x) (K := fun x' => K (ROp.cvStr (.c x')) []) hk
  exact ⟨_, _, hk, fun h => rfl⟩
theorem clo_cvBytes {x : RO} {K : ROp → List Nat → Bool} (hk : qCvBytes (ofRO x) e K = true) : ∃ op' l', K op' l' = true ∧ ∀ h, aop .nil h op' = aop tm h (.cvBytes x) := by
  replace hk := ofRO_spec he (x := x) (K := fun x' => K (ROp.cvBytes (.c x')) []) hk
  exact ⟨_, _, hk, fun h => rfl⟩
theorem clo_cvOfBytes {x : RO} {K : ROp → List Nat → Bool} (hk : qCvOfBytes (ofRO x) e K = true) : ∃ op' l', K op' l' = true ∧ ∀ h, aop .nil h op' = aop tm h (.cvOfBytes x) := by
  replace hk := ofRO_spec he (x := x) (K := fun x' => K (ROp.cvOfBytes (.c x')) (blk x' [])) hk
  exact ⟨_, _, hk, fun h => rfl⟩
theorem clo_mkif {ty : TypeId} {x : RO} {K : ROp → List Nat → Bool} (hk : qMkif ty (ofRO x) e K = true) : ∃ op' l', K op' l' = true ∧ ∀ h, aop .nil h op' = aop tm h (.mkif ty x) := by
  replace hk := ofRO_spec he (x := x) (K := fun x' => K (ROp.mkif ty (.c x')) []) hk
  exact ⟨_, _, hk, fun h => rfl⟩
theorem clo_mkmap {K : ROp → List Nat → Bool} (hk : qMkmap e K = true) : ∃ op' l', K op' l' = true ∧ ∀ h, aop .nil h op' = aop tm h (.mkmap) := by
  have _ := he
  exact ⟨_, _, hk, fun h => rfl⟩
theorem clo_mksl {sz : Nat} {bt : Nat} {z : (List AV)} {l : RO} {c : RO} {K : ROp → List Nat → Bool} (hk : qMksl sz bt z (ofRO l) (ofRO c) e K = true) : ∃ op' l', K op' l' = true ∧ ∀ h, aop .nil h op' = aop tm h (.mksl sz bt z l c) := by
  replace hk := ofRO_spec he (x := l) (K := fun l' => ofRO c e fun c' => K (ROp.mksl sz bt z (.c l') (.c c')) []) hk
  replace hk := ofRO_spec he (x := c) (K := fun c' => K (ROp.mksl sz bt z (.c (ro tm l)) (.c c')) []) hk
  exact ⟨_, _, hk, fun h => rfl⟩
theorem clo_sl {k : SK} {x : RO} {lo : Option RO} {hi : Option RO} {mx : Option RO} {K : ROp → List Nat → Bool} (hk : qSl k (ofRO x) (ofROo lo) (ofROo hi) (ofROo mx) e K = true) : ∃ op' l', K op' l' = true ∧ ∀ h, aop .nil h op' = aop tm h (.sl k x lo hi mx) := by
  replace hk := ofRO_spec he (x := x) (K := fun x' => ofROo lo e fun lo' => ofROo hi e fun hi' => ofROo mx e fun mx' => K (ROp.sl k (.c x') (lo'.map .c) (hi'.map .c) (mx'.map .c)) []) hk
  replace hk := ofROo_spec he (o := lo) (K := fun lo' => ofROo hi e fun hi' => ofROo mx e fun mx' => K (ROp.sl k (.c (ro tm x)) (lo'.map .c) (hi'.map .c) (mx'.map .c)) []) hk
  replace hk := ofROo_spec he (o := hi) (K := fun hi' => ofROo mx e fun mx' => K (ROp.sl k (.c (ro tm x)) ((lo.map (ro tm)).map .c) (hi'.map .c) (mx'.map .c)) []) hk
  replace hk := ofROo_spec he (o := mx) (K := fun mx' => K (ROp.sl k (.c (ro tm x)) ((lo.map (ro tm)).map .c) ((hi.map (ro tm)).map .c) (mx'.map .c)) []) hk
  exact ⟨_, _, hk, fun h => by simp only [aop, omap_c he]; rfl⟩
theorem clo_iaArr {m : Nat} {sz : Nat} {x : RO} {i : RO} {K : ROp → List Nat → Bool} (hk : qIaArr m sz (ofRO x) (ofRO i) e K = true) : ∃ op' l', K op' l' = true ∧ ∀ h, aop .nil h op' = aop tm h (.iaArr m sz x i) := by
  replace hk := ofRO_spec he (x := x) (K := fun x' => ofRO i e fun i' => K (ROp.iaArr m sz (.c x') (.c i')) []) hk
  replace hk := ofRO_spec he (x := i) (K := fun i' => K (ROp.iaArr m sz (.c (ro tm x)) (.c i')) []) hk
  exact ⟨_, _, hk, fun h => rfl⟩
theorem clo_ixStr {x : RO} {i : RO} {K : ROp → List Nat → Bool} (hk : qIxStr (ofRO x) (ofRO i) e K = true) : ∃ op' l', K op' l' = true ∧ ∀ h, aop .nil h op' = aop tm h (.ixStr x i) := by
  replace hk := ofRO_spec he (x := x) (K := fun x' => ofRO i e fun i' => K (ROp.ixStr (.c x') (.c i')) []) hk
  replace hk := ofRO_spec he (x := i) (K := fun i' => K (ROp.ixStr (.c (ro tm x)) (.c i')) []) hk
  exact ⟨_, _, hk, fun h => rfl⟩
theorem clo_lk {q : EqD} {z : AV} {ok : Bool} {m : RO} {k : RO} {K : ROp → List Nat → Bool} (hk : qLk q z ok (ofRO m) (ofRO k) e K = true) : ∃ op' l', K op' l' = true ∧ ∀ h, aop .nil h op' = aop tm h (.lk q z ok m k) := by
  replace hk := ofRO_spec he (x := m) (K := fun m' => ofRO k e fun k' => K (ROp.lk q z ok (.c m') (.c k')) (blk m' (blkK k' []))) hk
  replace hk := ofRO_spec he (x := k) (K := fun k' => K (ROp.lk q z ok (.c (ro tm m)) (.c k')) (blk (ro tm m) (blkK k' []))) hk
  exact ⟨_, _, hk, fun h => rfl⟩
theorem clo_mu {q : EqD} {m : RO} {k : RO} {v : RO} {K : ROp → List Nat → Bool} (hk : qMu q (ofRO m) (ofRO k) (ofRO v) e K = true) : ∃ op' l', K op' l' = true ∧ ∀ h, aop .nil h op' = aop tm h (.mu q m k v) := by
  replace hk := ofRO_spec he (x := m) (K := fun m' => ofRO k e fun k' => ofRO v e fun v' => K (ROp.mu q (.c m') (.c k') (.c v')) (blk m' (blkK k' []))) hk
  replace hk := ofRO_spec he (x := k) (K := fun k' => ofRO v e fun v' => K (ROp.mu q (.c (ro tm m)) (.c k') (.c v')) (blk (ro tm m) (blkK k' []))) hk
  replace hk := ofRO_spec he (x := v) (K := fun v' => K (ROp.mu q (.c (ro tm m)) (.c (ro tm k)) (.c v')) (blk (ro tm m) (blkK (ro tm k) []))) hk
  exact ⟨_, _, hk, fun h => rfl⟩
theorem clo_me {q : EqD} {z : AV} {m : RO} {k : RO} {K : ROp → List Nat → Bool} (hk : qMe q z (ofRO m) (ofRO k) e K = true) : ∃ op' l', K op' l' = true ∧ ∀ h, aop .nil h op' = aop tm h (.me q z m k) := by
  replace hk := ofRO_spec he (x := m) (K := fun m' => ofRO k e fun k' => K (ROp.me q z (.c m') (.c k')) (blk m' (blkK k' []))) hk
  replace hk := ofRO_spec he (x := k) (K := fun k' => K (ROp.me q z (.c (ro tm m)) (.c k')) (blk (ro tm m) (blkK k' []))) hk
  exact ⟨_, _, hk, fun h => rfl⟩
theorem clo_es {m : RO} {s : RO} {v : RO} {K : ROp → List Nat → Bool} (hk : qEs (ofRO m) (ofRO s) (ofRO v) e K = true) : ∃ op' l', K op' l' = true ∧ ∀ h, aop .nil h op' = aop tm h (.es m s v) := by
  replace hk := ofRO_spec he (x := m) (K := fun m' => ofRO s e fun s' => ofRO v e fun v' => K (ROp.es (.c m') (.c s') (.c v')) (blk m' [])) hk
  replace hk := ofRO_spec he (x := s) (K := fun s' => ofRO v e fun v' => K (ROp.es (.c (ro tm m)) (.c s') (.c v')) (blk (ro tm m) [])) hk
  replace hk := ofRO_spec he (x := v) (K := fun v' => K (ROp.es (.c (ro tm m)) (.c (ro tm s)) (.c v')) (blk (ro tm m) [])) hk
  exact ⟨_, _, hk, fun h => rfl⟩
theorem clo_ta {ty : TypeId} {ok : Bool} {z : AV} {x : RO} {K : ROp → List Nat → Bool} (hk : qTa ty ok z (ofRO x) e K = true) : ∃ op' l', K op' l' = true ∧ ∀ h, aop .nil h op' = aop tm h (.ta ty ok z x) := by
  replace hk := ofRO_spec he (x := x) (K := fun x' => K (ROp.ta ty ok z (.c x')) []) hk
  exact ⟨_, _, hk, fun h => rfl⟩
theorem clo_blenStr {x : RO} {K : ROp → List Nat → Bool} (hk : qBlenStr (ofRO x) e K = true) : ∃ op' l', K op' l' = true ∧ ∀ h, aop .nil h op' = aop tm h (.blenStr x) := by
  replace hk := ofRO_spec he (x := x) (K := fun x' => K (ROp.blenStr (.c x')) []) hk
  exact ⟨_, _, hk, fun h => rfl⟩
theorem clo_blenMap {x : RO} {K : ROp → List Nat → Bool} (hk : qBlenMap (ofRO x) e K = true) : ∃ op' l', K op' l' = true ∧ ∀ h, aop .nil h op' = aop tm h (.blenMap x) := by
  replace hk := ofRO_spec he (x := x) (K := fun x' => K (ROp.blenMap (.c x')) (blk x' [])) hk
  exact ⟨_, _, hk, fun h => rfl⟩
theorem clo_blenArr {m : Nat} {K : ROp → List Nat → Bool} (hk : qBlenArr m e K = true) : ∃ op' l', K op' l' = true ∧ ∀ h, aop .nil h op' = aop tm h (.blenArr m) := by
  have _ := he
  exact ⟨_, _, hk, fun h => rfl⟩
theorem clo_bapp {sz : Nat} {bt : Nat} {s : RO} {x : RO} {K : ROp → List Nat → Bool} (hk : qBapp sz bt (ofRO s) (ofRO x) e K = true) : ∃ op' l', K op' l' = true ∧ ∀ h, aop .nil h op' = aop tm h (.bapp sz bt s x) := by
  replace hk := ofRO_spec he (x := s) (K := fun s' => ofRO x e fun x' => K (ROp.bapp sz bt (.c s') (.c x')) (blk s' (blk x' []))) hk
  replace hk := ofRO_spec he (x := x) (K := fun x' => K (ROp.bapp sz bt (.c (ro tm s)) (.c x')) (blk (ro tm s) (blk x' []))) hk
  exact ⟨_, _, hk, fun h => rfl⟩
theorem clo_bappZ {sz : Nat} {bt : Nat} {z : (List AV)} {s : RO} {x : RO} {K : ROp → List Nat → Bool} (hk : qBappZ sz bt z (ofRO s) (ofRO x) e K = true) : ∃ op' l', K op' l' = true ∧ ∀ h, aop .nil h op' = aop tm h (.bappZ sz bt z s x) := by
  replace hk := ofRO_spec he (x := s) (K := fun s' => ofRO x e fun x' => K (ROp.bappZ sz bt z (.c s') (.c x')) (blk s' [])) hk
  replace hk := ofRO_spec he (x := x) (K := fun x' => K (ROp.bappZ sz bt z (.c (ro tm s)) (.c x')) (blk (ro tm s) [])) hk
  exact ⟨_, _, hk, fun h => rfl⟩
theorem clo_bcap {x : RO} {K : ROp → List Nat → Bool} (hk : qBcap (ofRO x) e K = true) : ∃ op' l', K op' l' = true ∧ ∀ h, aop .nil h op' = aop tm h (.bcap x) := by
  replace hk := ofRO_spec he (x := x) (K := fun x' => K (ROp.bcap (.c x')) []) hk
  exact ⟨_, _, hk, fun h => rfl⟩
theorem clo_bminmax {mx : Bool} {xs : List RO} {K : ROp → List Nat → Bool} (hk : qBminmax mx (ofROs xs) e K = true) : ∃ op' l', K op' l' = true ∧ ∀ h, aop .nil h op' = aop tm h (.bminmax mx xs) := by
  replace hk := ofROs_spec he (l := xs) (K := fun xs' => K (ROp.bminmax mx (xs'.map .c)) []) hk
  exact ⟨_, _, hk, fun h => by simp only [aop, map_c he]⟩
theorem clo_bclear {sz : Nat} {z : (List AV)} {x : RO} {K : ROp → List Nat → Bool} (hk : qBclear sz z (ofRO x) e K = true) : ∃ op' l', K op' l' = true ∧ ∀ h, aop .nil h op' = aop tm h (.bclear sz z x) := by
  replace hk := ofRO_spec he (x := x) (K := fun x' => K (ROp.bclear sz z (.c x')) (blk x' [])) hk
  exact ⟨_, _, hk, fun h => rfl⟩
theorem clo_bcopy {sz : Nat} {d : RO} {s : RO} {K : ROp → List Nat → Bool} (hk : qBcopy sz (ofRO d) (ofRO s) e K = true) : ∃ op' l', K op' l' = true ∧ ∀ h, aop .nil h op' = aop tm h (.bcopy sz d s) := by
  replace hk := ofRO_spec he (x := d) (K := fun d' => ofRO s e fun s' => K (ROp.bcopy sz (.c d') (.c s')) (blk d' (blk s' []))) hk
  replace hk := ofRO_spec he (x := s) (K := fun s' => K (ROp.bcopy sz (.c (ro tm d)) (.c s')) (blk (ro tm d) (blk s' []))) hk
  exact ⟨_, _, hk, fun h => rfl⟩
theorem clo_bdel {q : EqD} {m : RO} {k : RO} {K : ROp → List Nat → Bool} (hk : qBdel q (ofRO m) (ofRO k) e K = true) : ∃ op' l', K op' l' = true ∧ ∀ h, aop .nil h op' = aop tm h (.bdel q m k) := by
  replace hk := ofRO_spec he (x := m) (K := fun m' => ofRO k e fun k' => K (ROp.bdel q (.c m') (.c k')) (blk m' (blkK k' []))) hk
  replace hk := ofRO_spec he (x := k) (K := fun k' => K (ROp.bdel q (.c (ro tm m)) (.c k')) (blk (ro tm m) (blkK k' []))) hk
  exact ⟨_, _, hk, fun h => rfl⟩
theorem clo_ld {g : (Option Nat)} {a : RO} {K : ROp → List Nat → Bool} (hk : qLd g (ofRO a) e K = true) : ∃ op' l', K op' l' = true ∧ ∀ h, aop .nil h op' = aop tm h (.ld g a) := by
  replace hk := ofRO_spec he (x := a) (K := fun a' => K (ROp.ld g (.c a')) (blk a' [])) hk
  exact ⟨_, _, hk, fun h => rfl⟩
theorem clo_bin {op : BinOp} {q : (Option EqD)} {x : RO} {y : RO} {K : ROp → List Nat → Bool} (hk : qBin op q (ofRO x) (ofRO y) e K = true) : ∃ op' l', K op' l' = true ∧ ∀ h, aop .nil h op' = aop tm h (.bin op q x y) := by
  replace hk := ofRO_spec he (x := x) (K := fun x' => ofRO y e fun y' => K (ROp.bin op q (.c x') (.c y')) (blk x' (blk y' []))) hk
  replace hk := ofRO_spec he (x := y) (K := fun y' => K (ROp.bin op q (.c (ro tm x)) (.c y')) (blk (ro tm x) (blk y' []))) hk
  exact ⟨_, _, hk, fun h => rfl⟩
end

/-! ## One operation -/
section
variable {P : Program} {call : CallK}
/-- calls come to what they say -/
def CallOK (P : Program) (call : CallK) : Prop := ∀ f args n t h K, HeapOK n t h → call f args n t K = true → CallW P f args h (Good K)

theorem slow_spec {c : CloF} {op : ROp} {e : KEnv} {tm : Env} {n : Nat} {t : Hp} {h : Heap} {K : KV} (hh : HeapOK n t h) (hc : ∀ {K : ROp → List Nat → Bool}, c e K = true → ∃ op' l, K op' l = true ∧ ∀ h, aop .nil h op' = aop tm h op)
    (hk : kSlow c call e n t K = true) : ∃ v h', aop tm h op = some (v, h') ∧ Good K v h' := by
  obtain ⟨op', l, h1, h2⟩ := hc (K := fun op l => slowE op l n t K) hk
  obtain ⟨l', h1⟩ := deepK_spec hh h1
  obtain ⟨v, h', h3, h4⟩ := slowEnd_spec hh h1
  exact ⟨v, h', by rw [← h2]; exact h3, h4⟩

variable {e : KEnv} {tm : Env} {n : Nat} {t : Hp} {h : Heap} {K : KV} (he : EnvOK e tm) (hh : HeapOK n t h)
  include he hh
theorem op_mv {x : RO} (hk : kMv (ofRO x) call e n t K = true) : ∃ v h', aop tm h (.mv x) = some (v, h') ∧ Good K v h' :=
  ⟨_, h, rfl, n, t, hh, ofRO_spec he (K := K n t) hk⟩
theorem op_pick {c a b : RO} (hk : kPick (ofRO c) (ofRO a) (ofRO b) call e n t K = true) : ∃ v h', aop tm h (.pick c a b) = some (v, h') ∧ Good K v h' := by
  have h1 := ofRO_spec he (x := c) (K := fun v => onBool v (ofRO a e (K n t)) (ofRO b e (K n t))) hk
  rcases onBool_spec h1 with ⟨h2, h3⟩ | ⟨h2, h3⟩
  · exact ⟨ro tm a, h, by simp only [aop, h2], n, t, hh, ofRO_spec he h3⟩
  · exact ⟨ro tm b, h, by simp only [aop, h2], n, t, hh, ofRO_spec he h3⟩
theorem op_alloc {z : List AV} (hk : kAlloc (zeroAB z) call e n t K = true) : ∃ v h', aop tm h (.alloc z) = some (v, h') ∧ Good K v h' := by
  have _ := he
  have hz : ABok (zeroAB z) := by unfold zeroAB; split <;> trivial
  obtain ⟨t', h1, h2⟩ := push_spec (x := zeroAB z) (K := fun n' t' => K n' t' (.ptr n 0)) hh hz hk
  exact ⟨_, _, rfl, _, t', h1, by rw [hh.next]; exact h2⟩
theorem op_box {x : RO} (hk : kBox (ofRO x) call e n t K = true) : ∃ v h', aop tm h (.box x) = some (v, h') ∧ Good K v h' := by
  have h1 := ofRO_spec he (x := x) (K := fun v => cellsK v fun cs => pushK (.cells cs false) n t fun n' t' => K n' t' (.ptr n 0)) hk
  rw [cellsK_eq] at h1
  obtain ⟨t', h1, h2⟩ := push_spec hh (x := .cells (ro tm x).cells false) trivial h1
  exact ⟨_, _, rfl, _, t', h1, by rw [hh.next]; exact h2⟩
theorem op_build {z : List AV} {l : List (Nat × Nat × RO)} (hk : kBuild z (ofParts l) call e n t K = true) : ∃ v h', aop tm h (.build z l) = some (v, h') ∧ Good K v h' := by
  obtain ⟨cs, h1, h2⟩ := ofParts_spec he (l := l) (K := fun cs => K n t (.agg cs)) hk
  exact ⟨.agg cs, h, by simp only [aop, h1], n, t, hh, h2⟩
theorem op_bslice {m : Nat} {z : List AV} {l : List (Nat × Nat × RO)} (hk : kBslice m z (ofParts l) call e n t K = true) : ∃ v h', aop tm h (.bslice m z l) = some (v, h') ∧ Good K v h' := by
  obtain ⟨cs, h1, h2⟩ := ofParts_spec he (l := l) (K := fun cs => pushK (.cells cs false) n t fun n' t' => K n' t' (.slice n 0 m m)) hk
  obtain ⟨t', h3, h4⟩ := push_spec hh (x := .cells cs false) trivial h2
  exact ⟨.slice h.next 0 m m, _, by simp only [aop, h1], _, t', h3, by rw [hh.next]; exact h4⟩
theorem op_ld {g : Option Nat} {a : RO} (hk : kLd g (ofRO a) call e n t K = true) : ∃ v h', aop tm h (.ld g a) = some (v, h') ∧ Good K v h' := by
  have h1 := ofRO_spec he (x := a) (K := fun v => onPtr v fun b o => cellsB t b fun cs _ => partK cs o g (K n t)) hk
  obtain ⟨b, o, h2, h3⟩ := onPtr_spec h1
  obtain ⟨cs, gr, h4, h5⟩ := cells_spec hh h3
  obtain ⟨v, h6, h7⟩ := partK_spec h5
  exact ⟨v, h, by simp only [aop, h2, Heap.cells, h4, h6], n, t, hh, h7⟩
theorem op_st {m : Nat} {a x : RO} (hk : kSt m (ofRO a) (ofRO x) call e n t K = true) : ∃ v h', aop tm h (.st m a x) = some (v, h') ∧ Good K v h' := by
  have h1 := ofRO_spec he (x := a) (K := fun v => onPtr v fun b o => ofRO x e fun w => cellsK w fun vs => ifB (Nat.beq vs.length m) (wrK t b o vs fun t' => K n t' .undef) false) hk
  obtain ⟨b, o, h2, h3⟩ := onPtr_spec h1
  have h4 := ofRO_spec he h3
  rw [cellsK_eq] at h4
  obtain ⟨h5, h6⟩ := ifB_no h4
  obtain ⟨h', t', h7, h8, h9⟩ := wrK_spec hh h6
  exact ⟨_, h', by simp only [aop, h2, h5, h7], n, t', h8, h9⟩
theorem op_nilck {x : RO} (hk : kNilck (ofRO x) call e n t K = true) : ∃ v h', aop tm h (.nilck x) = some (v, h') ∧ Good K v h' := by
  have h1 := ofRO_spec he (x := x) (K := fun v => ckF v v (K n t)) hk
  obtain ⟨⟨h2, h3, h4⟩, h5⟩ := ckF_spec h1
  refine ⟨ro tm x, h, ?_, n, t, hh, h5⟩
  simp only [aop]
theorem op_bin {op : BinOp} {q : Option EqD} {x y : RO} (hk : kBin op q (ofRO x) (ofRO y) call e n t K = true) : ∃ v h', aop tm h (.bin op q x y) = some (v, h') ∧ Good K v h' := by
  have h1 := ofRO_spec he (x := x) (K := fun v => ofRO y e fun w => onIS v (fun k a => binInt op k a w (K n t) (bins op q v w n t K)) (fun a => binStr op a w (K n t) (bins op q v w n t K)) (bins op q v w n t K)) hk
  have h2 := ofRO_spec he h1
  have slow : bins op q (ro tm x) (ro tm y) n t K = true → ∃ v h', aop tm h (.bin op q x y) = some (v, h') ∧ Good K v h' := fun h3 => by
    obtain ⟨v, h', h4, h5⟩ := slowEnd_spec hh h3
    exact ⟨v, h', h4, h5⟩
  have fast : ∀ r, binA h op q (ro tm x) (ro tm y) = some r → K n t r = true → ∃ v h', aop tm h (.bin op q x y) = some (v, h') ∧ Good K v h' := fun r h3 h4 =>
    ⟨r, h, by simp only [aop, h3], n, t, hh, h4⟩
  rcases onIS_spec h2 with h3 | ⟨k, a, h3, h4⟩ | ⟨s, h3, h4⟩
  · exact slow h3
  · rcases onInt_spec h4 with h5 | ⟨l, b, h5, h6⟩
    · exact slow h5
    · cases a with
      | negSucc m => exact slow h6
      | ofNat m =>
        cases b with
        | negSucc p => exact slow h6
        | ofNat p =>
          rcases natBin_spec (h := h) (q := q) h6 with h7 | ⟨r, h7, h8⟩
          · exact slow h7
          · exact fast r (by rw [h3, h5]; exact h7) h8
  · rcases onStr_spec h4 with h5 | ⟨b, h5, h6⟩
    · exact slow h5
    · rcases strBin_spec (h := h) (q := q) h6 with h7 | ⟨r, h7, h8⟩
      · exact slow h7
      · exact fast r (by rw [h3, h5]; exact h7) h8
theorem op_un {op : UnOp} {x : RO} (hk : ofUn op (ofRO x) call e n t K = true) : ∃ v h', aop tm h (.un op x) = some (v, h') ∧ Good K v h' := by
  have gen : kUn op (ofRO x) call e n t K = true → ∃ v h', aop tm h (.un op x) = some (v, h') ∧ Good K v h' := fun hk => by
    have h1 := ofRO_spec he (x := x) (K := fun v => optK (unA op v) fun r => fV r (K n t)) hk
    obtain ⟨r, h2, h3⟩ := optK_some h1
    rw [fV_eq] at h3
    exact ⟨r, h, by simp only [aop, h2], n, t, hh, h3⟩
  cases op
  case not =>
    have h1 := ofRO_spec he (x := x) (K := fun v => onBool v (K n t (.bool false)) (K n t (.bool true))) hk
    rcases onBool_spec h1 with ⟨h2, h3⟩ | ⟨h2, h3⟩
    · exact ⟨_, h, by simp only [aop, h2, unA]; rfl, n, t, hh, h3⟩
    · exact ⟨_, h, by simp only [aop, h2, unA]; rfl, n, t, hh, h3⟩
  all_goals exact gen hk
theorem op_mkfn {f : FuncId} {a b : List RO} (hk : kMkfn f (ofROs a) (ofROs b) call e n t K = true) : ∃ v h', aop tm h (.mkfn f a b) = some (v, h') ∧ Good K v h' := by
  have h1 := ofROs_spec he (l := a) (K := fun a => ofROs b e fun b => K n t (.func f a b)) hk
  have h2 := ofROs_spec he (l := b) h1
  exact ⟨_, h, rfl, n, t, hh, h2⟩
theorem op_fa {off : Nat} {x : RO} (hk : kFa off (ofRO x) call e n t K = true) : ∃ v h', aop tm h (.fa off x) = some (v, h') ∧ Good K v h' := by
  have h1 := ofRO_spec he (x := x) (K := fun v => onPtr v fun b o => fN (Nat.add o off) fun o => K n t (.ptr b o)) hk
  obtain ⟨b, o, h2, h3⟩ := onPtr_spec h1
  exact ⟨.ptr b (o + off), h, by simp only [aop, h2], n, t, hh, h3⟩
theorem op_fld {off : Nat} {g : Option Nat} {x : RO} (hk : kFld off g (ofRO x) call e n t K = true) : ∃ v h', aop tm h (.fld off g x) = some (v, h') ∧ Good K v h' := by
  have h1 := ofRO_spec he (x := x) (K := fun v => onAgg v fun cs => partK cs off g (K n t)) hk
  obtain ⟨cs, h2, h3⟩ := onAgg_spec h1
  obtain ⟨v, h4, h5⟩ := partK_spec h3
  exact ⟨v, h, by simp only [aop, h2, h4], n, t, hh, h5⟩
theorem op_iaSl {sz : Nat} {x i : RO} (hk : kIaSl sz (ofRO x) (ofRO i) call e n t K = true) : ∃ v h', aop tm h (.iaSl sz x i) = some (v, h') ∧ Good K v h' := by
  have h1 := ofRO_spec he (x := i) (K := fun w => onNat w fun j => ofRO x e fun v => onSl v fun b o len => ifB (Nat.ble (Nat.add j (nat_lit 1)) len) (fN (Nat.add o (Nat.mul j sz)) fun o => K n t (.ptr b o)) false) hk
  obtain ⟨j, h2, h3⟩ := onNat_spec h1
  have h4 := ofRO_spec he h3
  have fin : ∀ {b o len : Nat}, ifB (Nat.ble (Nat.add j (nat_lit 1)) len) (fN (Nat.add o (Nat.mul j sz)) fun o => K n t (.ptr b o)) false = true → Nat.blt j len = true ∧ K n t (.ptr b (o + j * sz)) = true := fun h5 => by
    obtain ⟨h6, h7⟩ := ifB_no h5
    exact ⟨h6, h7⟩
  rcases onSl_spec h4 with ⟨b, o, len, c, h5, h6⟩ | ⟨b, o, len, c, h5, h6⟩
  · obtain ⟨h7, h8⟩ := fin h6
    exact ⟨_, h, by simp only [aop, h2, h5, h7], n, t, hh, h8⟩
  · obtain ⟨h7, h8⟩ := fin h6
    exact ⟨_, h, by simp only [aop, h2, h5, h7], n, t, hh, h8⟩
theorem op_ixArr {m sz : Nat} {g : Option Nat} {x i : RO} (hk : kIxArr m sz g (ofRO x) (ofRO i) call e n t K = true) : ∃ v h', aop tm h (.ixArr m sz g x i) = some (v, h') ∧ Good K v h' := by
  have h1 := ofRO_spec he (x := x) (K := fun v => onAgg v fun cs => ofRO i e fun w => onNat w fun j => ifB (Nat.ble (Nat.add j (nat_lit 1)) m) (partK cs (Nat.mul j sz) g (K n t)) false) hk
  obtain ⟨cs, h2, h3⟩ := onAgg_spec h1
  obtain ⟨j, h4, h5⟩ := onNat_spec (ofRO_spec he h3)
  obtain ⟨h6, h7⟩ := ifB_no h5
  obtain ⟨v, h8, h9⟩ := partK_spec h7
  have h6' : Nat.blt j m = true := h6
  have h8' : partOf cs (j * sz) g = some v := h8
  exact ⟨v, h, by simp only [aop, h2, h4, h6', h8'], n, t, hh, h9⟩
theorem op_ex {x : RO} {i : Nat} (hk : kEx (ofRO x) i call e n t K = true) : ∃ v h', aop tm h (.ex x i) = some (v, h') ∧ Good K v h' := by
  have h1 := ofRO_spec he (x := x) (K := fun v => onTup v fun vs => nthK vs i (K n t)) hk
  obtain ⟨vs, h2, h3⟩ := onTup_spec h1
  obtain ⟨v, h4, h5⟩ := nthK_spec h3
  exact ⟨v, h, by simp only [aop, h2, h4], n, t, hh, h5⟩
theorem op_len {x : RO} (hk : kLen (ofRO x) call e n t K = true) : ∃ v h', aop tm h (.blenSl x) = some (v, h') ∧ Good K v h' := by
  have h1 := ofRO_spec he (x := x) (K := fun v => onLen v (K n t)) hk
  rcases onLen_spec h1 with ⟨h2, h3⟩ | ⟨b, o, m, c, h2, h3⟩ | ⟨b, o, m, c, h2, h3⟩
  · exact ⟨_, h, by simp only [aop, h2]; rfl, n, t, hh, h3⟩
  · exact ⟨_, h, by simp only [aop, h2]; rfl, n, t, hh, h3⟩
  · exact ⟨_, h, by simp only [aop, h2]; rfl, n, t, hh, h3⟩
theorem op_call (hcall : CallOK P call) {f : RO} {args : List RO} (hk : kCall (ofRO f) (ofROs args) call e n t K = true) : CallW P (ro tm f) (args.map (ro tm)) h (Good K) := by
  have h1 := ofRO_spec he (x := f) (K := fun fv => ofROs args e fun l => call fv l n t K) hk
  have h2 := ofROs_spec he (l := args) h1
  exact hcall _ _ _ _ _ _ hh h2

theorem op_ok (hcall : CallOK P call) {op : ROp} (hk : ofOp op call e n t K = true) : oneW (CallW P) tm h op (Good K) := by
  cases op
  case call f args => exact op_call he hh hcall hk
  case mv => exact op_mv (call := call) he hh hk
  case pick => exact op_pick (call := call) he hh hk
  case alloc => exact op_alloc (call := call) he hh hk
  case box => exact op_box (call := call) he hh hk
  case build => exact op_build (call := call) he hh hk
  case bslice => exact op_bslice (call := call) he hh hk
  case ld => exact op_ld (call := call) he hh hk
  case st => exact op_st (call := call) he hh hk
  case nilck => exact op_nilck (call := call) he hh hk
  case bin => exact op_bin (call := call) he hh hk
  case un => exact op_un (call := call) he hh hk
  case mkfn => exact op_mkfn (call := call) he hh hk
  case fa => exact op_fa (call := call) he hh hk
  case fld => exact op_fld (call := call) he hh hk
  case iaSl => exact op_iaSl (call := call) he hh hk
  case ixArr => exact op_ixArr (call := call) he hh hk
  case ex => exact op_ex (call := call) he hh hk
  case blenSl => exact op_len (call := call) he hh hk
  case cvInt => exact slow_spec (call := call) hh (clo_cvInt he) hk
  case cvStr => exact slow_spec (call := call) hh (clo_cvStr he) hk
  case cvBytes => exact slow_spec (call := call) hh (clo_cvBytes he) hk
  case cvOfBytes => exact slow_spec (call := call) hh (clo_cvOfBytes he) hk
  case mkif => exact slow_spec (call := call) hh (clo_mkif he) hk
  case mkmap => exact slow_spec (call := call) hh (clo_mkmap he) hk
  case mksl => exact slow_spec (call := call) hh (clo_mksl he) hk
  case sl => exact slow_spec (call := call) hh (clo_sl he) hk
  case iaArr => exact slow_spec (call := call) hh (clo_iaArr he) hk
  case ixStr => exact slow_spec (call := call) hh (clo_ixStr he) hk
  case lk => exact slow_spec (call := call) hh (clo_lk he) hk
  case mu => exact slow_spec (call := call) hh (clo_mu he) hk
  case me => exact slow_spec (call := call) hh (clo_me he) hk
  case es => exact slow_spec (call := call) hh (clo_es he) hk
  case ta => exact slow_spec (call := call) hh (clo_ta he) hk
  case blenStr => exact slow_spec (call := call) hh (clo_blenStr he) hk
  case blenMap => exact slow_spec (call := call) hh (clo_blenMap he) hk
  case blenArr => exact slow_spec (call := call) hh (clo_blenArr he) hk
  case bapp => exact slow_spec (call := call) hh (clo_bapp he) hk
  case bappZ => exact slow_spec (call := call) hh (clo_bappZ he) hk
  case bcap => exact slow_spec (call := call) hh (clo_bcap he) hk
  case bminmax => exact slow_spec (call := call) hh (clo_bminmax he) hk
  case bclear => exact slow_spec (call := call) hh (clo_bclear he) hk
  case bcopy => exact slow_spec (call := call) hh (clo_bcopy he) hk
  case bdel => exact slow_spec (call := call) hh (clo_bdel he) hk

theorem op_plain {op : ROp} (hw : op.writes = false) (hk : ofOp op call e n t K = true) : ∃ v h', aop tm h op = some (v, h') ∧ Good K v h' := by
  cases op
  case call f args => cases hw
  case mv => exact op_mv (call := call) he hh hk
  case pick => exact op_pick (call := call) he hh hk
  case alloc => exact op_alloc (call := call) he hh hk
  case box => exact op_box (call := call) he hh hk
  case build => exact op_build (call := call) he hh hk
  case bslice => exact op_bslice (call := call) he hh hk
  case ld => exact op_ld (call := call) he hh hk
  case st => exact op_st (call := call) he hh hk
  case nilck => exact op_nilck (call := call) he hh hk
  case bin => exact op_bin (call := call) he hh hk
  case un => exact op_un (call := call) he hh hk
  case mkfn => exact op_mkfn (call := call) he hh hk
  case fa => exact op_fa (call := call) he hh hk
  case fld => exact op_fld (call := call) he hh hk
  case iaSl => exact op_iaSl (call := call) he hh hk
  case ixArr => exact op_ixArr (call := call) he hh hk
  case ex => exact op_ex (call := call) he hh hk
  case blenSl => exact op_len (call := call) he hh hk
  case cvInt => exact slow_spec (call := call) hh (clo_cvInt he) hk
  case cvStr => exact slow_spec (call := call) hh (clo_cvStr he) hk
  case cvBytes => exact slow_spec (call := call) hh (clo_cvBytes he) hk
  case cvOfBytes => exact slow_spec (call := call) hh (clo_cvOfBytes he) hk
  case mkif => exact slow_spec (call := call) hh (clo_mkif he) hk
  case mkmap => exact slow_spec (call := call) hh (clo_mkmap he) hk
  case mksl => exact slow_spec (call := call) hh (clo_mksl he) hk
  case sl => exact slow_spec (call := call) hh (clo_sl he) hk
  case iaArr => exact slow_spec (call := call) hh (clo_iaArr he) hk
  case ixStr => exact slow_spec (call := call) hh (clo_ixStr he) hk
  case lk => exact slow_spec (call := call) hh (clo_lk he) hk
  case mu => exact slow_spec (call := call) hh (clo_mu he) hk
  case me => exact slow_spec (call := call) hh (clo_me he) hk
  case es => exact slow_spec (call := call) hh (clo_es he) hk
  case ta => exact slow_spec (call := call) hh (clo_ta he) hk
  case blenStr => exact slow_spec (call := call) hh (clo_blenStr he) hk
  case blenMap => exact slow_spec (call := call) hh (clo_blenMap he) hk
  case blenArr => exact slow_spec (call := call) hh (clo_blenArr he) hk
  case bapp => exact slow_spec (call := call) hh (clo_bapp he) hk
  case bappZ => exact slow_spec (call := call) hh (clo_bappZ he) hk
  case bcap => exact slow_spec (call := call) hh (clo_bcap he) hk
  case bminmax => exact slow_spec (call := call) hh (clo_bminmax he) hk
  case bclear => exact slow_spec (call := call) hh (clo_bclear he) hk
  case bcopy => exact slow_spec (call := call) hh (clo_bcopy he) hk
  case bdel => exact slow_spec (call := call) hh (clo_bdel he) hk
end
end Go.Ev.K
