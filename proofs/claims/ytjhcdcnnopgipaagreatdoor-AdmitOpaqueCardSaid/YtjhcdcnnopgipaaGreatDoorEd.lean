/- Rules for code, calls, loops over functions. -/
import Derived.Test.YtjhcdcnnopgipaaGreatDoorEc
noncomputable section
namespace Go.Ev
open Go

/-! ## Code -/
/-- Where code comes to. -/
def Arr (P : Program) (m : Machine) (b : FB) (k : List Item) (cs : List Frame) : Ex → Act → World → Prop
  | .normal, a, w => Steps P m (lone (b.at a k) cs w)
  | .exit id, a, w => ∃ todo, exitTo id todo = exitTo id k ∧ Steps P m (lone (b.at a (.code (.exit id) :: todo)) cs w)
  | .ret, a, w => ∃ todo, Steps P m (lone (b.at a (.code .ret :: todo)) cs w)

theorem Arr.of_steps {P : Program} {m m₁ : Machine} {b : FB} {k : List Item} {cs : List Frame} {e : Ex} {a : Act} {w : World} (h : Steps P m m₁) (h' : Arr P m₁ b k cs e a w) : Arr P m b k cs e a w := by
  cases e with
  | normal => exact h.trans h'
  | exit id => obtain ⟨t, h1, h2⟩ := h'; exact ⟨t, h1, h.trans h2⟩
  | ret => obtain ⟨t, h1⟩ := h'; exact ⟨t, h.trans h1⟩

/-- What a stack's front comes to. -/
def AW (P : Program) (nt : Nat) (pre : List Item) (s : St) (Q : Ex → St → Prop) : Prop :=
  ∀ ι w a b, At P nt ι s b a w → ∃ e s' ι' w' a', Q e s' ∧ At P nt ι' s' b a' w' ∧ Ext ι s.h w ι' s'.h w' ∧ ∀ k cs, Arr P (lone (b.at a (pre ++ k)) cs w) b k cs e a' w'

def Ex.thn (next : St → Prop) (Q : Ex → St → Prop) : Ex → St → Prop
  | .normal, s => next s
  | e, s => Q e s

section rules
variable {P : Program} {nt : Nat} {s : St} {Q : Ex → St → Prop}

theorem AW.mono {pre : List Item} {Q' : Ex → St → Prop} (h : AW P nt pre s Q) (hq : ∀ e s, Q e s → Q' e s) : AW P nt pre s Q' := by
  intro ι w a b hat
  obtain ⟨e, s', ι', w', a', q, r⟩ := h ι w a b hat
  exact ⟨e, s', ι', w', a', hq _ _ q, r⟩

theorem aw_nil (h : Q .normal s) : AW P nt [] s Q := by
  intro ι w a b hat
  exact ⟨.normal, s, ι, w, a, h, hat, .refl _ _ _, fun _ _ => .refl _ _⟩

/-- One step that turns the stack alone. -/
theorem aw_head {pre pre' : List Item} (hs : ∀ (b : FB) (a : Act) (k : List Item) (cs : List Frame) (w : World), step P (lone (b.at a (pre ++ k)) cs w) = .next (lone (b.at a (pre' ++ k)) cs w)) (h : AW P nt pre' s Q) : AW P nt pre s Q := by
  intro ι w a b hat
  obtain ⟨e, s', ι', w', a', q, r1, r2, r3⟩ := h ι w a b hat
  exact ⟨e, s', ι', w', a', q, r1, r2, fun k cs => .of_steps (.one (hs b a k cs w)) (r3 k cs)⟩

/-- First the head, then the rest. -/
theorem aw_cons {x : Item} {rest : List Item} (hx : ∀ id k, exitTo id (rest ++ k) = exitTo id k) (h : AW P nt [x] s (Ex.thn (fun s' => AW P nt rest s' Q) Q)) : AW P nt (x :: rest) s Q := by
  intro ι w a b hat
  obtain ⟨e, s', ι', w', a', q, r1, r2, r3⟩ := h ι w a b hat
  cases e with
  | normal =>
    obtain ⟨e2, s2, ι2, w2, a2, q2, t1, t2, t3⟩ := q ι' w' a' b r1
    exact ⟨e2, s2, ι2, w2, a2, q2, t1, r2.trans t2, fun k cs => .of_steps (r3 (rest ++ k) cs) (t3 k cs)⟩
  | exit id =>
    refine ⟨_, s', ι', w', a', q, r1, r2, fun k cs => ?_⟩
    obtain ⟨todo, h1, h2⟩ := r3 (rest ++ k) cs
    exact ⟨todo, by rw [h1, hx], h2⟩
  | ret => exact ⟨_, s', ι', w', a', q, r1, r2, fun k cs => r3 (rest ++ k) cs⟩

theorem aw_skip (h : Q .normal s) : AW P nt [.code .skip] s Q := aw_head (pre' := []) (fun _ _ _ _ _ => mv_skip) (aw_nil h)
theorem aw_label {l : Nat} (h : Q .normal s) : AW P nt [.code (.label l)] s Q := aw_head (pre' := []) (fun _ _ _ _ _ => mv_label) (aw_nil h)
theorem aw_exit {id : Nat} (h : Q (.exit id) s) : AW P nt [.code (.exit id)] s Q := by
  intro ι w a b hat
  exact ⟨.exit id, s, ι, w, a, h, hat, .refl _ _ _, fun k cs => ⟨k, rfl, .refl _ _⟩⟩
theorem aw_ret (h : Q .ret s) : AW P nt [.code .ret] s Q := by
  intro ι w a b hat
  exact ⟨.ret, s, ι, w, a, h, hat, .refl _ _ _, fun k cs => ⟨k, .refl _ _⟩⟩
theorem aw_seq {x y : Code} (h : AW P nt [.code x] s (Ex.thn (fun s' => AW P nt [.code y] s' Q) Q)) : AW P nt [.code (.seq x y)] s Q :=
  aw_head (pre' := [.code x, .code y]) (fun _ _ _ _ _ => mv_seq) (aw_cons (fun _ _ => rfl) h)
theorem aw_cond {c : Operand} {q : RO} {x y : Code} {t : Bool} (hq : rso c = some q) (ht : ro s.tm q = .bool t) (h : AW P nt [.code (if t then x else y)] s Q) : AW P nt [.code (.cond c x y)] s Q := by
  intro ι w a b hat
  obtain ⟨e, s', ι', w', a', q1, r1, r2, r3⟩ := h ι w a b hat
  have := rso_VR hat.tm hq
  rw [ht] at this
  exact ⟨e, s', ι', w', a', q1, r1, r2, fun k cs => .of_steps (.one (mv_cond this.bool)) (r3 k cs)⟩
def Ex.inBlk (id : Nat) (Q : Ex → St → Prop) : Ex → St → Prop
  | .exit id', s => if id' = id then Q .normal s else Q (.exit id') s
  | e, s => Q e s
theorem aw_block {id : Nat} {c : Code} (h : AW P nt [.code c] s (Ex.inBlk id Q)) : AW P nt [.code (.block id c)] s Q := by
  intro ι w a b hat
  obtain ⟨e, s', ι', w', a', q1, r1, r2, r3⟩ := h ι w a b hat
  cases e with
  | normal => exact ⟨.normal, s', ι', w', a', q1, r1, r2, fun k cs => .head mv_block (Steps.trans (r3 (.inBlock id :: k) cs) (.one mv_inBlock))⟩
  | ret => exact ⟨.ret, s', ι', w', a', q1, r1, r2, fun k cs => .of_steps (.one mv_block) (r3 (.inBlock id :: k) cs)⟩
  | exit id' =>
    by_cases hid : id' = id
    · subst hid
      simp only [Ex.inBlk, if_true] at q1
      refine ⟨.normal, s', ι', w', a', q1, r1, r2, fun k cs => ?_⟩
      obtain ⟨todo, h1, h2⟩ := r3 (.inBlock id' :: k) cs
      exact .head mv_block (h2.trans (.one (mv_exit (by rw [h1]; simp [exitTo]))))
    · simp only [Ex.inBlk, hid, if_false] at q1
      refine ⟨.exit id', s', ι', w', a', q1, r1, r2, fun k cs => ?_⟩
      obtain ⟨todo, h1, h2⟩ := r3 (.inBlock id :: k) cs
      refine ⟨todo, ?_, .head mv_block h2⟩
      have : (id == id') = false := by simp; exact fun h => hid h.symm
      rw [h1]; simp [exitTo, this]
theorem aw_inLoop {c : Code} (h : AW P nt [.code c] s (Ex.thn (fun s' => AW P nt [.inLoop c] s' Q) Q)) : AW P nt [.inLoop c] s Q :=
  aw_head (pre' := [.code c, .inLoop c]) (fun _ _ _ _ _ => mv_inLoop) (aw_cons (fun _ _ => rfl) h)
theorem aw_loop {c : Code} (h : AW P nt [.code c] s (Ex.thn (fun s' => AW P nt [.inLoop c] s' Q) Q)) : AW P nt [.code (.loop c)] s Q :=
  aw_head (pre' := [.code c, .inLoop c]) (fun _ _ _ _ _ => mv_loop) (aw_cons (fun _ _ => rfl) h)

theorem At.of_reg {ι ι' : Inj} {b : FB} {a a' : Act} {w w' : World} {tm : Env} {h : Heap} (hat : At P nt ι s b a w) (r : Rel P ι' h w') (ht : TmR ι' tm a'.tmps) (hs : a'.tmps.size = a.tmps.size) (hd : a'.defers = a.defers) (he : Ext ι s.h w ι' h w') :
    At P nt ι' { s with tm := tm, h := h } b a' w' where
  rel := r
  tm := ht
  nt := by rw [hs]; exact hat.nt
  defers := by rw [hd]; exact hat.defers.mono he.le
  round := hat.round.mono he.le

theorem aw_reg {id : Nat} {ops : Array Oper} {l : List ROper} (hl : allM (resOper P nt ops) ops.toList = some l) (h : opsW (CallW P) l s.tm s.h fun tm h => Q .normal { s with tm := tm, h := h }) : AW P nt [.code (.region id ops false)] s Q := by
  intro ι w a b hat
  obtain ⟨tm', h', ι', a', w', q, r1, r2, r3, r4, r5, r6⟩ := ops_run (b := b) l 0 (by simpa using hl) h hat.rel hat.tm hat.nt
  refine ⟨.normal, _, ι', w', a', q, hat.of_reg r1 r2 r3 r4 r5, r5, fun k cs => .head mv_region ?_⟩
  rw [List.range_eq_range']
  simpa using r6 k cs
theorem aw_dreg (hmix : P.follows .mixedOrders = true) {id : Nat} {ops : Array Oper} {l : List ROper} (hl : allM (resOper P nt ops) ops.toList = some l) {m : List (ROper × Nat)} (hm : resDraw ops l = some m)
    (h : dopsW (CallW P) m 0 [] s.tm s.h fun tm h => Q .normal { s with tm := tm, h := h }) : AW P nt [.code (.region id ops true)] s Q := by
  intro ι w a b hat
  obtain ⟨bb, till, os, ok, hm'⟩ := resDraw_spec hm
  obtain ⟨tm', h', ι', a', w', q, r1, r2, r3, r4, r5, r6⟩ := draw_run ok hl hmix hm' (id := id) h hat.rel hat.tm hat.nt b
  exact ⟨.normal, _, ι', w', a', q, hat.of_reg r1 r2 r3 r4 r5, r5, fun k cs => r6 k cs⟩
theorem aw_dreg2 (hmix : P.follows .mixedOrders = true) {id : Nat} {ops : Array Oper} {l : List ROper} (hl : allM (resOper P nt ops) ops.toList = some l) {pre : List (ROper × Nat)} {p q : ROper × Nat} (hm : resDraw2 ops l = some (pre, p, q))
    (h1 : dopsW (CallW P) (pre ++ [p, q]) 0 [] s.tm s.h fun tm h => Q .normal { s with tm := tm, h := h }) (h2 : dopsW (CallW P) (pre ++ [q, p]) 0 [] s.tm s.h fun tm h => Q .normal { s with tm := tm, h := h }) : AW P nt [.code (.region id ops true)] s Q := by
  intro ι w a b hat
  obtain ⟨n, b1, b2, till, os1, os2, hn, ok1, ok2, hm1, hm2⟩ := resDraw2_spec hm
  have hlen : ops.size = l.length := by
    have := allM_length hl
    simpa using this.symm
  obtain ⟨tm', h', ι', a', w', q, r1, r2, r3, r4, r5, r6⟩ := draw_run2 (s := n) (t := n + 1) (by omega) (by omega) ok1 ok2 hl hmix hm1 hm2 (id := id) h1 h2 hat.rel hat.tm hat.nt b
  exact ⟨.normal, _, ι', w', a', q, hat.of_reg r1 r2 r3 r4 r5, r5, fun k cs => r6 k cs⟩
theorem Ex.thn_self {e : Ex} {s : St} (h : Q e s) : Ex.thn (Q .normal) Q e s := by cases e <;> exact h
theorem aw_scope {c : Code} (h : AW P nt [.code c] s Q) : AW P nt [.code (.scope c)] s Q :=
  aw_head (pre' := [.code c, .inScope c]) (fun _ _ _ _ _ => mv_scope) (aw_cons (fun _ _ => rfl) (h.mono fun e s' hq => by
    cases e with
    | normal => exact aw_head (pre' := []) (fun _ _ _ _ _ => mv_inScope) (aw_nil hq)
    | exit id => exact hq
    | ret => exact hq))
end rules
end Go.Ev

noncomputable section
namespace Go.Ev
open Go

/-! ## Calls of functions -/
theorem look_setArgs : ∀ (l : List AV) (j : Nat) (tm : Env) (i : Nat), (setArgs l j tm).look i = if j ≤ i ∧ i < j + l.length then (nth l (i - j)).getD .undef else tm.look i
  | [], j, tm, i => by simp only [setArgs, List.length_nil]; rw [if_neg (by omega)]
  | a :: l, j, tm, i => by
    simp only [setArgs, List.length_cons]
    rw [look_setArgs l (j + 1) (tm.put j a) i, Env.look_put]
    by_cases h1 : i = j
    · subst h1
      rw [if_neg (by omega), if_pos rfl, if_pos (by omega)]
      simp [nth]
    · rw [if_neg h1]
      by_cases h2 : j + 1 ≤ i ∧ i < j + 1 + l.length
      · rw [if_pos h2, if_pos (by omega)]
        have : i - j = (i - (j + 1)) + 1 := by omega
        rw [this]; rfl
      · rw [if_neg h2, if_neg (by omega)]

theorem TmR.args {ι : Inj} {args : List AV} {argv : List Value} (h : VRs ι args argv) (n : Nat) : TmR ι (setArgs args 0 .nil) (argv.toArray ++ Array.replicate n undef) := by
  intro i
  rw [look_setArgs]
  have hl := h.length
  by_cases hi : i < args.length
  · rw [if_pos (by omega)]
    cases hn : nth args (i - 0) with
    | none =>
      rw [nth_eq'] at hn
      simp at hn
      omega
    | some a =>
      obtain ⟨v, hv, hr⟩ := h.nth hn
      have : (argv.toArray ++ Array.replicate n undef).getD i undef = v := by
        simp only [Nat.sub_zero] at hv
        have hlt : i < argv.length := by omega
        rw [Array.getD_eq_getD_getElem?, Array.getElem?_append, if_pos (by simpa using hlt)]
        simp only [List.getElem?_toArray, hv, Option.getD_some]
      rw [this]; exact hr
  · rw [if_neg (by omega), Env.look_nil]
    have : (argv.toArray ++ Array.replicate n undef).getD i undef = undef := by
      rw [Array.getD_eq_getD_getElem?, Array.getElem?_append, if_neg (by simp; omega)]
      by_cases h2 : i - argv.length < n
      · simp [h2]
      · simp [h2]
    rw [this]; exact VR.undef ι

section leave
variable {P : Program}

/-- A frame that returns. -/
def FB.out (b : FB) (a : Act) (todo : List Item) : Frame := { b.at a todo with mode := .returning }

theorem mv_ret {b : FB} (hb : b.ro = none) {a : Act} {k : List Item} {cs : List Frame} {w : World} : step P (lone (b.at a (.code .ret :: k)) cs w) = .next (lone (b.out a (.code .ret :: k)) cs w) :=
  step_lone_go (by simp [stepG, stepG.exec, FB.at, FB.out, hb])
theorem mv_end {b : FB} (hb : b.ro = none) {a : Act} {cs : List Frame} {w : World} : step P (lone (b.at a []) cs w) = .next (lone (b.out a []) cs w) :=
  step_lone_go (by simp [stepG, stepG.exec, FB.at, FB.out, hb])

theorem run_setObj_def {w : World} {b : Nat} {ds : Option (List Deferred)} {o : Obj} (hx : w.heap[b]? = some (.deferred ds)) : (setObj b o).run P w = .ok () { w with heap := w.heap.setIfInBounds b o } := by
  simp [setObj, Sem.run, hx]
theorem run_setObj_loop {w : World} {b : Nat} {r : Loop} {o : Obj} (hx : w.heap[b]? = some (.loop r)) : (setObj b o).run P w = .ok () { w with heap := w.heap.setIfInBounds b o } := by
  simp [setObj, Sem.run, hx]

theorem mv_mark {b : FB} {a : Act} {todo : List Item} {cs : List Frame} {w : World} {blk : Nat} {ds : List Deferred} (hx : w.heap[blk]? = some (.deferred (some []))) (hd : a.defers = { target := .collected blk, args := #[] } :: ds) :
    step P (lone (b.out a todo) cs w) = .next (lone (b.out { a with defers := ds } todo) cs { w with heap := w.heap.setIfInBounds blk (.deferred none) }) := by
  refine step_lone_go ?_
  have hg : (getObj blk).run P w = .ok (.deferred (some [])) w := by simp [getObj, Sem.run, hx]
  have ht : (Instr.takeDeferred blk).run P w = .ok [] { w with heap := w.heap.setIfInBounds blk (.deferred none) } := by
    simp [Instr.takeDeferred, hg, run_setObj_def hx]
  simp [stepG, unwind, FB.out, FB.at, hd, ht]


/-- A result's value. -/
def resM (tmps : Array Value) (r : ResultVar) : Sem Value :=
  match r with
  | .tmp t => pure (tmps.getD t undef)
  | .cell a t => do loadVar t (← asAddr (tmps.getD a undef))

theorem results_eq (fn : Func) (tmps : Array Value) : results fn tmps = (do let vs ← fn.results.mapM (resM tmps); pure (if h : vs.size = 1 then vs[0] else .tuple vs) : Sem Value) := by
  have e : (resM tmps) = (fun r => match r with
      | .tmp t => pure (tmps.getD t undef)
      | .cell a t => do loadVar t (← asAddr (tmps.getD a undef)) : ResultVar → Sem Value) := by funext r; cases r <;> rfl
  rw [e]; rfl

theorem run_results {ι : Inj} {h : Heap} {w : World} (r : Rel P ι h w) {tm : Env} {tmps : Array Value} (ht : TmR ι tm tmps) : ∀ {rs : List ResultVar} {m : List (Nat × Option (Option Nat))} {l : List AV},
    allM (resSlot P) rs = some m → resultsA tm h m = some l → ∃ vs : List Value, (rs.mapM (resM tmps)).run P w = .ok vs w ∧ VRs ι l vs
  | [], m, l, hm, hr => by
    rw [allM_nil hm] at hr
    simp only [resultsA] at hr; cases hr
    exact ⟨[], by simp, VRs.nil.2 rfl⟩
  | x :: rs, m, l, hm, hr => by
    obtain ⟨y, m', h1, h2, rfl⟩ := allM_cons hm
    cases x with
    | tmp t =>
      simp only [resSlot] at h1
      cases h1
      simp only [resultsA] at hr
      split at hr
      · rename_i l' hl'
        cases hr
        obtain ⟨vs, e1, e2⟩ := run_results r ht h2 hl'
        exact ⟨tmps.getD t undef :: vs, by simp only [List.mapM_cons, resM, pure_bind, Sem.run_bind, e1, Result.andThen_ok, Sem.run_pure], VRs.mk (ht t) e2⟩
      · cases hr
    | cell a t =>
      simp only [resSlot] at h1
      split at h1
      · rename_i n hn
        cases h1
        simp only [resultsA] at hr
        split at hr
        · rename_i b o hp
          split at hr
          · rename_i v l' hv hl'
            cases hr
            obtain ⟨vs, e1, e2⟩ := run_results r ht h2 hl'
            have hpt := ht a
            rw [hp] at hpt
            simp only [VR] at hpt
            obtain ⟨p, hpl, hpe⟩ := hpt
            split at hv
            · rename_i cs hcs
              obtain ⟨v', f1, f2⟩ := loadVar_sound r hn hpl hcs hv
              have ha : (asAddr (.pointer (some ⟨p.blk, o, none⟩))).run P w = .ok ⟨p.blk, o, none⟩ w := rfl
              exact ⟨v' :: vs, by simp only [List.mapM_cons, resM, Sem.run_bind, hpe, ha, Result.andThen_ok, f1, e1, Sem.run_pure], VRs.mk f2 e2⟩
            · cases hv
          · cases hr
        · cases hr
      · cases h1

/-- The marks of a frame's range-over-func loops go. -/
theorem leave_marks {ι : Inj} : ∀ {ms : List Nat} {h h' : Heap} {ds : List Deferred} {w : World}, Rel P ι h w → DR ι ms ds → dropMarks ms h = some h' → ∀ (b : FB) (tmps : Array Value),
    ∃ w', Rel P ι h' w' ∧ Ext ι h w ι h' w' ∧ ∀ todo cs, Steps P (lone (b.out ⟨tmps, ds⟩ todo) cs w) (lone (b.out ⟨tmps, []⟩ todo) cs w')
  | [], h, h', ds, w, r, hd, hm, b, tmps => by
    simp only [dropMarks] at hm; cases hm
    rw [show ds = [] from hd]
    exact ⟨w, r, .refl _ _ _, fun _ _ => .refl _ _⟩
  | m :: ms, h, h', ds, w, r, hd, hm, b, tmps => by
    obtain ⟨p, ds', hp, rfl, hd'⟩ := hd
    simp only [dropMarks] at hm
    split at hm
    · rename_i hg
      have hx : w.heap[p.blk]? = some (.deferred (some [])) := r.blocks m p _ hp hg
      have hlt := r.size m p hp
      have hu := r.update (w' := { w with heap := w.heap.setIfInBounds p.blk (.deferred none) }) (ab := .deferred false) hp hg (by intro e; cases e) (by simp)
        (fun c hc => by simp [Array.getElem?_setIfInBounds_ne (Ne.symm hc)]) (by simp only [BR]; simp [Array.getElem?_setIfInBounds_self_of_lt hlt]) ⟨rfl, rfl, rfl⟩
      obtain ⟨w', e1, e2, e3⟩ := leave_marks hu.1 hd' hm b tmps
      exact ⟨w', e1, hu.2.trans e2, fun todo cs => .head (mv_mark (a := ⟨tmps, _⟩) hx rfl) (e3 todo cs)⟩
    · cases hm
end leave

/-- A function whose code is known. -/
structure FnOK (P : Program) (f : Nat) (fn : Func) (c : Code) (rf : RFunc) : Prop where
  at_ : P.funcs[f]? = some fn
  body : fn.body = some c
  name : (fn.name == "runtime.NumGoroutine") = false
  code : resCode P fn.ntmps c = some rf.body
  results : allM (resSlot P) fn.results.toList = some rf.results

def FnPost (rf : RFunc) (Q : AV → Heap → Prop) : Ex → St → Prop
  | .exit _, _ => False
  | _, s => ∃ h' l, dropMarks s.marks s.h = some h' ∧ resultsA s.tm h' rf.results = some l ∧ Q (one l) h'

theorem one_VR {ι : Inj} {l : List AV} {vs : Array Value} (h : VRs ι l vs.toList) : VR ι (one l) (if h : vs.size = 1 then vs[0] else .tuple vs) := by
  have hl := h.length
  simp only [Array.length_toList] at hl
  cases l with
  | nil =>
    rw [dif_neg (by rw [hl]; simp)]
    simp only [one, VR]; exact ⟨vs, rfl, h⟩
  | cons a l =>
    cases l with
    | nil =>
      simp at hl
      rw [dif_pos hl]
      obtain ⟨v, m, e, hv, hm⟩ := VRs.cons.1 h
      have : vs[0] = v := by
        have h0 : vs.toList[0]? = some v := by rw [e]; rfl
        rw [Array.getElem?_toList, Array.getElem?_eq_getElem (by omega)] at h0
        exact Option.some.inj h0
      rw [this]; exact hv
    | cons a2 l =>
      rw [dif_neg (by rw [hl]; simp)]
      simp only [one, VR]; exact ⟨vs, rfl, h⟩

section
variable {P : Program}
/-- The body's end, and what follows it. -/
theorem fn_enters {f : Nat} {fn : Func} {c : Code} {rf : RFunc} (ok : FnOK P f fn c rf) {args : List AV} {h : Heap} {Q : AV → Heap → Prop} (hb : AW P fn.ntmps [.code c] ⟨setArgs args 0 .nil, h, [], none⟩ (FnPost rf Q))
    {ι : Inj} {w : World} {argv : List Value} (r : Rel P ι h w) (ha : VRs ι args argv) :
    ∃ v h' ι' v' w', Q v h' ∧ VR ι' v v' ∧ Rel P ι' h' w' ∧ Ext ι h w ι' h' w' ∧ ∀ cs, ∃ fr, Steps P (lone (Frame.enter P f argv.toArray .normal) cs w) (lone fr cs w') ∧ fr.fn = f ∧ fr.leaving P w' (.returned v') := by
  let b : FB := ⟨f, .normal, none⟩
  have henter : Frame.enter P f argv.toArray .normal = b.at ⟨argv.toArray ++ Array.replicate (fn.ntmps - argv.toArray.size) undef, []⟩ ([.code c] ++ []) := by
    simp [Frame.enter, FB.at, ok.at_, ok.body, b]
  have hat : At P fn.ntmps ι ⟨setArgs args 0 .nil, h, [], none⟩ b ⟨argv.toArray ++ Array.replicate (fn.ntmps - argv.toArray.size) undef, []⟩ w :=
    ⟨r, TmR.args ha _, by simp; omega, rfl, rfl⟩
  obtain ⟨e, s', ι', w', a', q, r1, r2, r3⟩ := hb ι w _ b hat
  have fin : (∀ cs, ∃ todo, Steps P (lone (Frame.enter P f argv.toArray .normal) cs w) (lone (b.out a' todo) cs w')) → (∃ h' l, dropMarks s'.marks s'.h = some h' ∧ resultsA s'.tm h' rf.results = some l ∧ Q (one l) h') →
      ∃ v h' ι' v' w', Q v h' ∧ VR ι' v v' ∧ Rel P ι' h' w' ∧ Ext ι h w ι' h' w' ∧ ∀ cs, ∃ fr, Steps P (lone (Frame.enter P f argv.toArray .normal) cs w) (lone fr cs w') ∧ fr.fn = f ∧ fr.leaving P w' (.returned v') := by
    rintro hs ⟨h', l, hm, hl, hq⟩
    obtain ⟨w2, e1, e2, e3⟩ := leave_marks r1.rel r1.defers hm b a'.tmps
    obtain ⟨vs, f1, f2⟩ := run_results e1 r1.tm ok.results hl
    have hres : (results fn a'.tmps).run P w2 = .ok (if h : vs.toArray.size = 1 then vs.toArray[0] else .tuple vs.toArray) w2 := by
      rw [results_eq, Array.mapM_eq_mapM_toList]
      simp only [Sem.run_bind, Sem.run_map, f1, Result.andThen_ok, Sem.run_pure]
    refine ⟨one l, h', ι', _, w2, hq, one_VR (vs := vs.toArray) (by simpa using f2), e1, r2.trans e2, fun cs => ?_⟩
    obtain ⟨todo, h1⟩ := hs cs
    exact ⟨b.out ⟨a'.tmps, []⟩ todo, h1.trans (e3 todo cs), rfl, rfl, rfl, rfl, fn, ok.at_, hres⟩
  have r3' : ∀ cs, Arr P (lone (Frame.enter P f argv.toArray .normal) cs w) b [] cs e a' w' := fun cs => by rw [henter]; exact r3 [] cs
  cases e with
  | normal => exact fin (fun cs => ⟨[], Steps.trans (r3' cs) (.one (mv_end rfl))⟩) q
  | ret => exact fin (fun cs => by obtain ⟨todo, h1⟩ := r3' cs; exact ⟨_, h1.trans (.one (mv_ret rfl))⟩) q
  | exit id => exact q.elim

theorem run_enter {f : Nat} {fn : Func} (hf : P.funcs[f]? = some fn) (hb : fn.body.isNone = false) (hn : (fn.name == "runtime.NumGoroutine") = false) (args : Array Value) (w : World) : (callFunc f args).run P w = .ok (.enter f args) w := by
  have h1 : fn.name ≠ "runtime.NumGoroutine" := by simpa using hn
  have h2 : fn.body ≠ none := by intro e; rw [e] at hb; cases hb
  simp [callFunc, hf, h1, h2]

theorem callW_fn {f : Nat} {fn : Func} {c : Code} {rf : RFunc} (ok : FnOK P f fn c rf) {a b args : List AV} {h : Heap} {Q : AV → Heap → Prop} (hb : AW P fn.ntmps [.code c] ⟨setArgs (a ++ args ++ b) 0 .nil, h, [], none⟩ (FnPost rf Q)) :
    CallW P (.func f a b) args h Q := by
  intro ι w fv argv r hf ha
  simp only [VR] at hf
  obtain ⟨a', b', rfl, h1, h2⟩ := hf
  have hall : VRs ι (a ++ args ++ b) (a'.toList ++ argv ++ b'.toList) := (h1.append ha).append h2
  have hinv : (do let d ← Deferred.ofValue (.func (.func f) a' b') argv.toArray; invoke d.target d.args : Sem Next).run P w = .ok (.enter f (a'.toList ++ argv ++ b'.toList).toArray) w := by
    have hn : fn.body.isNone = false := by rw [ok.body]; rfl
    have he : a' ++ argv.toArray ++ b' = (a'.toList ++ argv ++ b'.toList).toArray := by apply Array.ext'; simp
    simp only [Deferred.ofValue, pure_bind, invoke, he, run_enter ok.at_ hn ok.name]
  obtain ⟨v, h', ι', v', w', q1, q2, q3, q4, q5⟩ := fn_enters ok hb r hall
  refine ⟨v, h', ι', v', w', q1, q2, q3, q4, ?_⟩
  intro cf cs hk
  obtain ⟨fr, s1, s2, s3⟩ := q5 (cf :: cs)
  refine ⟨Frame.enter P f (a'.toList ++ argv ++ b'.toList).toArray .normal, cf :: cs, w, ?_, s1.trans (.one (step_leave_returned s3))⟩
  simp [stepG.apply, hinv]
end
end Go.Ev

noncomputable section
namespace Go.Ev
open Go

/-! ## Range over functions -/
section
variable {P : Program}

theorem run_getLoop {w : World} {l : Nat} {r : Loop} (hx : w.heap[l]? = some (.loop r)) : (Instr.getLoop l).run P w = .ok r w := by
  simp [Instr.getLoop, getObj, Sem.run, hx]

/-- The frame of a round. -/
theorem round_at (l : Nat) (f : FuncId) (tmps : Array Value) (assign body : Code) : Frame.round l f tmps assign body .normal = (⟨f, .normal, some l⟩ : FB).at ⟨tmps, []⟩ ([.code assign] ++ [.beginRound, .code body]) := rfl

theorem mv_beginRound {b : FB} {l : Nat} (hb : b.ro = some l) {a : Act} {k : List Item} {cs : List Frame} {w : World} {r : Loop} (hx : w.heap[l]? = some (.loop r)) (hr : r.state = .ready) :
    step P (lone (b.at a (.beginRound :: k)) cs w) = .next (lone (b.at a k) cs { w with heap := w.heap.setIfInBounds l (.loop { r with state := .busy }) }) := by
  refine step_lone_go ?_
  have h1 : (Instr.beginRound l).run P w = .ok () { w with heap := w.heap.setIfInBounds l (.loop { r with state := .busy }) } := by
    simp [Instr.beginRound, run_getLoop hx, run_setObj_loop hx, hr]
  simp [stepG, stepG.exec, stepG.apply, FB.at, hb, h1, Frame.finish]

/-- A round's end. -/
theorem mv_endRound {b : FB} {l : Nat} (hb : b.ro = some l) (hk : b.kind = .normal) {a : Act} {todo : List Item} {jump : Option Code} {c : Frame} {cs : List Frame} {w : World} {r : Loop} (hx : w.heap[l]? = some (.loop r))
    (ht : (todo = [] ∧ jump = none) ∨ (∃ k, todo = .code .ret :: k ∧ jump = some .ret) ∨ (∃ id k, todo = .code (.exit id) :: k ∧ exitTo id k = none ∧ jump = some (.exit id))) :
    step P (lone (b.at a todo) (c :: cs) w) = .next (lone (c.finish (.bool jump.isNone)) cs { w with heap := w.heap.setIfInBounds l (.loop { r with state := if jump.isNone then .ready else .done, pending := jump }) }) := by
  refine step_lone_go ?_
  have h1 : (Instr.endRound l jump).run P w = .ok (.bool jump.isNone) { w with heap := w.heap.setIfInBounds l (.loop { r with state := if jump.isNone then .ready else .done, pending := jump }) } := by
    simp [Instr.endRound, run_getLoop hx, run_setObj_loop hx]
  rcases ht with ⟨rfl, rfl⟩ | ⟨k, rfl, rfl⟩ | ⟨id, k, rfl, he, rfl⟩
  · simp at h1; simp [stepG, stepG.exec, FB.at, hb, hk, h1, doReturn]
  · simp at h1; simp [stepG, stepG.exec, FB.at, hb, hk, h1, doReturn]
  · simp at h1; simp [stepG, stepG.exec, FB.at, hb, hk, h1, doReturn, he]

theorem mv_endRange {b : FB} {l : Nat} {a : Act} {k : List Item} {cs : List Frame} {w : World} {r : Loop} (hx : w.heap[l]? = some (.loop r)) (hr : r.state ≠ .busy) :
    step P (lone (b.at a (.endRangeFunc l :: k)) cs w) = .next (lone (b.at a ((r.pending.map Item.code).toList ++ k)) cs { w with heap := w.heap.setIfInBounds l (.loop { r with state := .exhausted }) }) := by
  refine step_lone_go ?_
  have h1 : (Instr.endLoop l).run P w = .ok r.pending { w with heap := w.heap.setIfInBounds l (.loop { r with state := .exhausted }) } := by
    simp [Instr.endLoop, run_getLoop hx, run_setObj_loop hx, hr]
  simp [stepG, stepG.exec, FB.at, h1]

theorem setPs_run {ι : Inj} : ∀ {ps : List Nat} {args : List AV} {tm tm' : Env} {argv : List Value} {tmps : Array Value}, setPs ps args tm = some tm' → TmR ι tm tmps → VRs ι args argv → (∀ i ∈ ps, i < tmps.size) →
    TmR ι tm' ((ps.zip argv).foldl (fun (tmps : Array Value) (x : Nat × Value) => tmps.setIfInBounds x.1 x.2) tmps) ∧ argv.length = ps.length ∧ ((ps.zip argv).foldl (fun (tmps : Array Value) (x : Nat × Value) => tmps.setIfInBounds x.1 x.2) tmps).size = tmps.size
  | [], [], tm, tm', argv, tmps, h, ht, ha, hp => by
    simp only [setPs] at h; cases h
    rw [VRs.nil.1 ha]
    exact ⟨ht, rfl, rfl⟩
  | [], _ :: _, _, _, _, _, h, _, _, _ => by simp [setPs] at h
  | _ :: _, [], _, _, _, _, h, _, _, _ => by simp [setPs] at h
  | p :: ps, a :: args, tm, tm', argv, tmps, h, ht, ha, hp => by
    obtain ⟨v, m, rfl, hv, hm⟩ := VRs.cons.1 ha
    simp only [setPs] at h
    have := setPs_run (tmps := tmps.setIfInBounds p v) h (ht.put (hp p (by simp)) hv) hm (fun i hi => by simpa using hp i (by simp [hi]))
    simp only [List.zip_cons_cons, List.foldl_cons, List.length_cons]
    refine ⟨this.1, by rw [this.2.1], by rw [this.2.2]; simp⟩

/-- What follows a round's body. -/
def RoundPost (L : Nat) (Q : AV → Heap → Prop) (e : Ex) (s : St) : Prop :=
  ∃ st pend tm ps as bd d, s.h.get L = some (.loop st pend tm ps as bd d) ∧ match e with
    | .normal => Q (.bool true) (s.h.set L (.loop .ready none tm ps as bd d))
    | .ret => Q (.bool false) (s.h.set L (.loop .done (some .ret) tm ps as bd d))
    | .exit id => Q (.bool false) (s.h.set L (.loop .done (some (.exit id)) tm ps as bd d))
/-- What follows the parameters' assignment. -/
def AssignPost (P : Program) (nt : Nat) (body : Code) (L : Nat) (Q : AV → Heap → Prop) (e : Ex) (s : St) : Prop :=
  match e with
  | .normal => ∃ pend tm ps as bd d, s.h.get L = some (.loop .ready pend tm ps as bd d) ∧ AW P nt [.code body] { s with h := s.h.set L (.loop .busy pend tm ps as bd d) } (RoundPost L Q)
  | _ => False
end
end Go.Ev

noncomputable section
namespace Go.Ev
open Go
section
variable {P : Program}

/-- A loop's block gets another record. -/
theorem loop_update {ι : Inj} {h : Heap} {w : World} (r : Rel P ι h w) {L : Nat} {p : Pl} (hp : ι L = some p) {ab ab₀ : AB} (hg : h.get L = some ab₀) (hl : ab₀ ≠ .dead) {x : Loop} (hb : BR P ι p ab (some (.loop x))) :
    Rel P ι (h.set L ab) { w with heap := w.heap.setIfInBounds p.blk (.loop x) } ∧ Ext ι h w ι (h.set L ab) { w with heap := w.heap.setIfInBounds p.blk (.loop x) } := by
  have hlt := r.size L p hp
  exact r.update (w' := { w with heap := w.heap.setIfInBounds p.blk (.loop x) }) hp hg hl (by simp) (fun c hc => by simp [Array.getElem?_setIfInBounds_ne (Ne.symm hc)])
    (by simp only [Array.getElem?_setIfInBounds_self_of_lt hlt]; exact hb) ⟨rfl, rfl, rfl⟩

theorem callW_yield {L : Nat} {args : List AV} {h : Heap} {Q : AV → Heap → Prop} {st : LoopState} {pend : Option Jump} {tm : Env} {ps : List Nat} {as bd : RCode} {d : Nat} (hg : h.get L = some (.loop st pend tm ps as bd d)) {tm' : Env} (hp : setPs ps args tm = some tm')
    (hb : ∀ nt (assign body : Code), resCode P nt assign = some as → resCode P nt body = some bd → AW P nt [.code assign] ⟨tm', h, [], some L⟩ (AssignPost P nt body L Q)) : CallW P (.yield L) args h Q := by
  intro ι w fv argv r hf ha
  simp only [VR] at hf
  obtain ⟨p, hpL, rfl⟩ := hf
  obtain ⟨x, n, pd, hx, x1, x2, x3, x4, x5, x6, x7, x8, x9, x10⟩ := r.blocks L p _ hpL hg
  have hps : ∀ i ∈ ps, i < x.tmps.size := fun i hi => Nat.lt_of_lt_of_le (x8 i hi) x4
  obtain ⟨s1, s2, s3⟩ := setPs_run hp x3 ha hps
  have hinv : (do let d ← Deferred.ofValue (.func (.yield p.blk) #[] #[]) argv.toArray; invoke d.target d.args : Sem Next).run P w =
      .ok (.round p.blk x.fn ((ps.zip argv).foldl (fun (tmps : Array Value) (x : Nat × Value) => tmps.setIfInBounds x.1 x.2) x.tmps) x.assign x.body) w := by
    have hlen : argv.length = x.params.size := by rw [s2, ← x5]; simp
    have hz : (x.params.zip argv.toArray).foldl (fun tmps (ta : Tmp × Value) => tmps.setIfInBounds ta.1 ta.2) x.tmps = (ps.zip argv).foldl (fun (tmps : Array Value) (x : Nat × Value) => tmps.setIfInBounds x.1 x.2) x.tmps := by
      rw [← Array.foldl_toList, ← x5]
      simp
    simp only [Deferred.ofValue, pure_bind, invoke, Instr.yield, Sem.run_bind, run_getLoop hx, Result.andThen_ok]
    have : ¬ ((#[] ++ argv.toArray).size ≠ x.params.size) := by simp [hlen]
    rw [if_neg this]
    simp only [Sem.run_pure, Array.empty_append]
    rw [← hz]
  let b : FB := ⟨x.fn, .normal, some p.blk⟩
  have hat : At P n ι ⟨tm', h, [], some L⟩ b ⟨(ps.zip argv).foldl (fun (tmps : Array Value) (x : Nat × Value) => tmps.setIfInBounds x.1 x.2) x.tmps, []⟩ w :=
    ⟨r, s1, by rw [s3]; exact x4, rfl, p, hpL, rfl⟩
  obtain ⟨e1, t1, ι1, w1, a1, q1, r1, r2, r3⟩ := hb n x.assign x.body x6 x7 ι w _ b hat
  cases e1 with
  | exit id => exact q1.elim
  | ret => exact q1.elim
  | normal =>
    obtain ⟨pend1, tm1, ps1, as1, bd1, d1, hg1, hbody⟩ := q1
    have hp1 := r2.le L p hpL
    obtain ⟨y, n1, pd1, hy, y1, y2, y3, y4, y5, y6, y7, y8, y9, y10⟩ := r1.rel.blocks L p _ hp1 hg1
    have hu := loop_update r1.rel hp1 hg1 (by intro e; cases e) (ab := .loop .busy pend1 tm1 ps1 as1 bd1 d1) (x := { y with state := .busy }) ⟨_, n1, pd1, rfl, rfl, y2, y3, y4, y5, y6, y7, y8, y9, y10⟩
    have hat1 : At P n ι1 { t1 with h := t1.h.set L (.loop .busy pend1 tm1 ps1 as1 bd1 d1) } b a1 { w1 with heap := w1.heap.setIfInBounds p.blk (.loop { y with state := .busy }) } :=
      ⟨hu.1, r1.tm, r1.nt, r1.defers, r1.round⟩
    obtain ⟨e2, t2, ι2, w2, a2, ⟨st2, pend2, tm2, ps2, as2, bd2, d2, hg2, q2⟩, u1, u2, u3⟩ := hbody ι1 _ a1 b hat1
    have hp2 := u2.le L p hp1
    obtain ⟨z, n2, pd2, hz, z1, z2, z3, z4, z5, z6, z7, z8, z9, z10⟩ := u1.rel.blocks L p _ hp2 hg2
    have steps : ∀ (c : Frame) (cs : List Frame), Arr P (lone (Frame.round p.blk x.fn ((ps.zip argv).foldl (fun (tmps : Array Value) (x : Nat × Value) => tmps.setIfInBounds x.1 x.2) x.tmps) x.assign x.body .normal) (c :: cs) w) b [] (c :: cs) e2 a2 w2 := by
      intro c cs
      rw [round_at]
      have g1 := r3 [.beginRound, .code x.body] (c :: cs)
      exact .of_steps (Steps.trans g1 (.one (mv_beginRound rfl hy y1))) (u3 [] (c :: cs))
    have fin : ∀ (j : Option Jump) (jump : Option Code) (v : AV), JR j jump → v = .bool jump.isNone → Q v (t2.h.set L (.loop (if jump.isNone then .ready else .done) j tm2 ps2 as2 bd2 d2)) →
        (∀ (c : Frame) (cs : List Frame), Steps P (lone (Frame.round p.blk x.fn ((ps.zip argv).foldl (fun (tmps : Array Value) (x : Nat × Value) => tmps.setIfInBounds x.1 x.2) x.tmps) x.assign x.body .normal) (c :: cs) w)
          (lone (c.finish (.bool jump.isNone)) cs { w2 with heap := w2.heap.setIfInBounds p.blk (.loop { z with state := if jump.isNone then .ready else .done, pending := jump }) })) →
        ∃ v h' ι' v' w', Q v h' ∧ VR ι' v v' ∧ Rel P ι' h' w' ∧ Ext ι h w ι' h' w' ∧ Does P (do let d ← Deferred.ofValue (.func (.yield p.blk) #[] #[]) argv.toArray; invoke d.target d.args) w v' w' := by
      intro j jump v hj hv hq hs
      have hu2 := loop_update u1.rel hp2 hg2 (by intro e; cases e) (ab := .loop (if jump.isNone then .ready else .done) j tm2 ps2 as2 bd2 d2) (x := { z with state := if jump.isNone then .ready else .done, pending := jump }) ⟨_, n2, pd2, rfl, rfl, hj, z3, z4, z5, z6, z7, z8, z9, z10⟩
      refine ⟨v, _, ι2, .bool jump.isNone, _, hq, by rw [hv]; simp only [VR], hu2.1, ((r2.trans hu.2).trans u2).trans hu2.2, ?_⟩
      intro c cs _
      refine ⟨_, c :: cs, w, ?_, hs c cs⟩
      simp [stepG.apply, hinv]
    cases e2 with
    | normal => exact fin none none (.bool true) rfl rfl q2 fun c cs => (steps c cs).trans (.one (mv_endRound rfl rfl hz (.inl ⟨rfl, rfl⟩)))
    | ret =>
      refine fin (some .ret) (some .ret) (.bool false) rfl rfl q2 ?_
      intro c cs
      obtain ⟨todo, h1⟩ := steps c cs
      exact h1.trans (.one (mv_endRound rfl rfl hz (.inr (.inl ⟨_, rfl, rfl⟩))))
    | exit id =>
      refine fin (some (.exit id)) (some (.exit id)) (.bool false) rfl rfl q2 ?_
      intro c cs
      obtain ⟨todo, h0, h1⟩ := steps c cs
      exact h1.trans (.one (mv_endRound rfl rfl hz (.inr (.inr ⟨id, _, rfl, by rw [h0]; rfl, rfl⟩))))
end
end Go.Ev

noncomputable section
namespace Go.Ev
open Go
section
variable {P : Program}

theorem mv_range {b : FB} {a : Act} {k : List Item} {cs : List Frame} {w : World} {f : Operand} {params : Array Tmp} {assign body : Code} {l : Nat} {mark : List Deferred} {w1 : World}
    (he : (Instr.enterLoop b.fn a.tmps params assign body b.ro).run P w = .ok (l, mark) w1) {v : Value} {w2 : World}
    (hd : Does P (do let d ← Deferred.ofValue (a.eval f) #[.func (.yield l) #[] #[]]; invoke d.target d.args) w1 v w2) :
    Steps P (lone (b.at a (.code (.rangeFunc f params assign body) :: k)) cs w) (lone (b.at ⟨a.tmps, mark ++ a.defers⟩ (.endRangeFunc l :: k)) cs w2) := by
  obtain ⟨fr', cs', w', h1, h2⟩ := hd (b.at ⟨a.tmps, mark ++ a.defers⟩ (.inRangeFunc l :: k)) cs (by intro d r s k e; simp [FB.at] at e)
  have hf : (b.at ⟨a.tmps, mark ++ a.defers⟩ (.inRangeFunc l :: k)).finish v = b.at ⟨a.tmps, mark ++ a.defers⟩ (.endRangeFunc l :: k) := by simp [Frame.finish, FB.at]
  rw [hf] at h2
  refine .head (step_lone_go ?_) h2
  rw [← h1]
  have hev : (b.at ⟨a.tmps, mark ++ a.defers⟩ (.inRangeFunc l :: k)).eval f = a.eval f := by rw [FB.eval_at]; cases f <;> rfl
  have hres : (do let d ← resolve (b.at ⟨a.tmps, mark ++ a.defers⟩ (.inRangeFunc l :: k)).eval { callee := .value f, args := #[.const (.func (.yield l) #[] #[])], argTypes := #[] } 0; invoke d.target d.args : Sem Next) =
      (do let d ← Deferred.ofValue (a.eval f) #[.func (.yield l) #[] #[]]; invoke d.target d.args) := by
    simp only [resolve, hev]
    congr 1
    simp [Frame.eval]
  rw [← hres]
  simp only [FB.at] at he ⊢
  simp [stepG, stepG.exec, he]

theorem loopEnd_spec {L : Nat} {s s' : St} {h : Heap} {e : Ex} (hl : loopEnd L s h = some (e, s')) : ∃ st pend tm ps as bd d, h.get L = some (.loop st pend tm ps as bd d) ∧ st ≠ .busy ∧ e = (match pend with | none => .normal | some .ret => .ret | some (.exit id) => .exit id) ∧
    s' = { s with h := h.set L (.loop .exhausted pend tm ps as bd d) } := by
  unfold loopEnd at hl
  split at hl
  · cases hl
  · rename_i st pend tm ps as bd d hne hg
    simp only [Option.some.injEq, Prod.mk.injEq] at hl
    refine ⟨st, pend, tm, ps, as, bd, d, hg, hne, ?_, hl.2.symm⟩
    rw [← hl.1]
    cases pend with
    | none => rfl
    | some j => cases j <;> rfl
  · cases hl

/-- The loop's end. -/
theorem range_end {nt : Nat} {Q : Ex → St → Prop} {L : Nat} {s0 : St} {ι ι' : Inj} {w w' : World} {h0 h' : Heap} {b : FB} {a' : Act} {p : Pl} (hp : ι' L = some p) (r : Rel P ι' h' w') (hext : Ext ι h0 w ι' h' w')
    (htm : TmR ι' s0.tm a'.tmps) (hnt : nt ≤ a'.tmps.size) (hdf : DR ι' s0.marks a'.defers) (hro : RoR ι' s0.round b.ro) {m : List Item → List Frame → Machine}
    (hs : ∀ k cs, Steps P (m k cs) (lone (b.at a' (.endRangeFunc p.blk :: k)) cs w'))
    (hq : ∃ e s'', loopEnd L s0 h' = some (e, s'') ∧ Q e s'') :
    ∃ e s' ι2 w2 a2, Q e s' ∧ At P nt ι2 s' b a2 w2 ∧ Ext ι h0 w ι2 s'.h w2 ∧ ∀ k cs, Arr P (m k cs) b k cs e a2 w2 := by
  obtain ⟨e, s'', hl, hq⟩ := hq
  obtain ⟨st, pend, tm, ps, as, bd, d, hg, hst, he, rfl⟩ := loopEnd_spec hl
  obtain ⟨z, n2, pd2, hz, z1, z2, z3, z4, z5, z6, z7, z8, z9, z10⟩ := r.blocks L p _ hp hg
  have hu := loop_update r hp hg (by intro e; cases e) (ab := .loop .exhausted pend tm ps as bd d) (x := { z with state := .exhausted }) ⟨_, n2, pd2, rfl, rfl, z2, z3, z4, z5, z6, z7, z8, z9, z10⟩
  refine ⟨e, _, ι', _, a', hq, ⟨hu.1, htm, hnt, hdf, hro⟩, hext.trans hu.2, fun k cs => ?_⟩
  have hend := mv_endRange (P := P) (b := b) (a := a') (k := k) (cs := cs) hz (by rw [z1]; exact hst)
  have hsteps := (hs k cs).trans (.one hend)
  subst he
  cases pend with
  | none =>
    simp only [JR] at z2
    have ht : (z.pending.map Item.code).toList ++ k = k := by rw [z2]; rfl
    rw [ht] at hsteps
    exact hsteps
  | some j =>
    cases j with
    | ret =>
      simp only [JR] at z2
      have ht : (z.pending.map Item.code).toList ++ k = .code .ret :: k := by rw [z2]; rfl
      rw [ht] at hsteps
      exact ⟨k, hsteps⟩
    | exit id =>
      simp only [JR] at z2
      have ht : (z.pending.map Item.code).toList ++ k = .code (.exit id) :: k := by rw [z2]; rfl
      rw [ht] at hsteps
      exact ⟨k, rfl, hsteps⟩
end
end Go.Ev

noncomputable section
namespace Go.Ev
open Go
section
variable {P : Program} {nt : Nat} {s : St} {Q : Ex → St → Prop}

/-- A loop over a function, in a function's own frame. -/
theorem aw_range_none {f : Operand} {qf : RO} {params : Array Tmp} {assign body : Code} {as bd : RCode} (hq : rso f = some qf) (ha : resCode P nt assign = some as) (hb : resCode P nt body = some bd) (hps : ∀ i ∈ params.toList, i < nt) (hr : s.round = none)
    (h : CallW P (ro s.tm qf) [.yield (s.h.next + 1)] ((s.h.push (.deferred true)).push (.loop .ready none s.tm params.toList as bd s.h.next))
      (fun _ h' => ∃ e s'', loopEnd (s.h.next + 1) { s with marks := s.h.next :: s.marks } h' = some (e, s'') ∧ Q e s'')) : AW P nt [.code (.rangeFunc f params assign body)] s Q := by
  intro ι w a b hat
  have hro : b.ro = none := by have := hat.round; rw [hr] at this; exact this
  -- the mark's block, the loop's block
  have r1 := hat.rel.alloc (n := 0) (ab := .deferred true) (o := .deferred (some [])) (fun _ _ => rfl)
  have hm : (ι.add s.h.next ⟨w.heap.size, 0⟩) s.h.next = some ⟨w.heap.size, 0⟩ := Inj.add_same _ _ _
  have r2 := r1.1.alloc (n := 0) (ab := .loop .ready none s.tm params.toList as bd s.h.next)
    (o := .loop { state := .ready, pending := none, fn := b.fn, tmps := a.tmps, params := params, assign := assign, body := body, defers := w.heap.size }) (fun ι' hl =>
      ⟨_, nt, ⟨w.heap.size, 0⟩, rfl, rfl, rfl, (hat.tm.mono r1.2.le).mono hl, hat.nt, rfl, ha, hb, hps, hl _ _ hm, rfl⟩)
  have hL : ((ι.add s.h.next ⟨w.heap.size, 0⟩).add (s.h.push (.deferred true)).next ⟨(w.alloc (.deferred (some []))).heap.size, 0⟩) (s.h.next + 1) = some ⟨(w.alloc (.deferred (some []))).heap.size, 0⟩ := Inj.add_same _ _ _
  have hext := r1.2.trans r2.2
  have he : (Instr.enterLoop b.fn a.tmps params assign body b.ro).run P w = .ok ((w.alloc (.deferred (some []))).heap.size, [{ target := .collected w.heap.size, args := #[] }])
      ((w.alloc (.deferred (some []))).alloc (.loop { state := .ready, pending := none, fn := b.fn, tmps := a.tmps, params := params, assign := assign, body := body, defers := w.heap.size })) := by
    rw [hro]
    simp [Instr.enterLoop]
  obtain ⟨v, h', ι3, v', w3, q1, q2, q3, q4, q5⟩ := h _ _ (a.eval f) [.func (.yield (w.alloc (.deferred (some []))).heap.size) #[] #[]] r2.1 ((rso_VR hat.tm hq).mono hext.le)
    (VRs.mk (by simp only [VR]; exact ⟨_, hL, rfl⟩) (VRs.nil.2 rfl))
  have hs := fun k cs => mv_range (cs := cs) (k := k) he q5
  exact range_end (q4.le _ _ hL) q3 (hext.trans q4) (s0 := { s with marks := s.h.next :: s.marks }) (a' := ⟨a.tmps, [{ target := .collected w.heap.size, args := #[] }] ++ a.defers⟩) ((hat.tm.mono hext.le).mono q4.le) hat.nt
    ⟨_, _, q4.le _ _ (r2.2.le _ _ hm), rfl, (hat.defers.mono hext.le).mono q4.le⟩ ((hat.round.mono hext.le).mono q4.le) (m := fun k cs => lone (b.at a (.code (.rangeFunc f params assign body) :: k)) cs w) hs q1

/-- A loop over a function, in a round of another one. -/
theorem aw_range_some {f : Operand} {qf : RO} {params : Array Tmp} {assign body : Code} {as bd : RCode} (hq : rso f = some qf) (ha : resCode P nt assign = some as) (hb : resCode P nt body = some bd) (hps : ∀ i ∈ params.toList, i < nt) {l : Nat} (hr : s.round = some l)
    {st : LoopState} {pend : Option Jump} {tm : Env} {ps : List Nat} {as0 bd0 : RCode} {d : Nat} (hg : s.h.get l = some (.loop st pend tm ps as0 bd0 d))
    (h : CallW P (ro s.tm qf) [.yield s.h.next] (s.h.push (.loop .ready none s.tm params.toList as bd d))
      (fun _ h' => ∃ e s'', loopEnd s.h.next s h' = some (e, s'') ∧ Q e s'')) : AW P nt [.code (.rangeFunc f params assign body)] s Q := by
  intro ι w a b hat
  obtain ⟨p, hp, hro⟩ : ∃ p, ι l = some p ∧ b.ro = some p.blk := by have := hat.round; rw [hr] at this; exact this
  obtain ⟨x, n, pd, hx, x1, x2, x3, x4, x5, x6, x7, x8, x9, x10⟩ := hat.rel.blocks l p _ hp hg
  have r2 := hat.rel.alloc (n := 0) (ab := .loop .ready none s.tm params.toList as bd d)
    (o := .loop { state := .ready, pending := none, fn := b.fn, tmps := a.tmps, params := params, assign := assign, body := body, defers := x.defers }) (fun ι' hl =>
      ⟨_, nt, pd, rfl, rfl, rfl, hat.tm.mono hl, hat.nt, rfl, ha, hb, hps, hl _ _ x9, x10⟩)
  have hL : (ι.add s.h.next ⟨w.heap.size, 0⟩) s.h.next = some ⟨w.heap.size, 0⟩ := Inj.add_same _ _ _
  have he : (Instr.enterLoop b.fn a.tmps params assign body b.ro).run P w = .ok (w.heap.size, [])
      (w.alloc (.loop { state := .ready, pending := none, fn := b.fn, tmps := a.tmps, params := params, assign := assign, body := body, defers := x.defers })) := by
    rw [hro]
    simp [Instr.enterLoop, run_getLoop hx]
  obtain ⟨v, h', ι3, v', w3, q1, q2, q3, q4, q5⟩ := h _ _ (a.eval f) [.func (.yield w.heap.size) #[] #[]] r2.1 ((rso_VR hat.tm hq).mono r2.2.le)
    (VRs.mk (by simp only [VR]; exact ⟨_, hL, rfl⟩) (VRs.nil.2 rfl))
  have hs := fun k cs => mv_range (cs := cs) (k := k) he q5
  exact range_end (q4.le _ _ hL) q3 (r2.2.trans q4) (s0 := s) (a' := ⟨a.tmps, [] ++ a.defers⟩) ((hat.tm.mono r2.2.le).mono q4.le) hat.nt
    ((hat.defers.mono r2.2.le).mono q4.le) ((hat.round.mono r2.2.le).mono q4.le) (m := fun k cs => lone (b.at a (.code (.rangeFunc f params assign body) :: k)) cs w) hs q1
end
end Go.Ev

noncomputable section
namespace Go.Ev
open Go
section
variable {P : Program}

theorem run_extern {f : Nat} {fn : Func} {e : Array Value → Sem Value} (hf : P.funcs[f]? = some fn) (hb : fn.body = none) (hname : (fn.name == "runtime.NumGoroutine") = false) (hn : Extern.findNext fn = none) (he : Extern.find fn = some e) (args : Array Value) (w : World) :
    (callFunc f args).run P w = ((e args).run P w).andThen fun v w' => .ok (.value v) w' := by
  have h1 : fn.name ≠ "runtime.NumGoroutine" := by simpa using hname
  simp [callFunc, hf, hb, h1, hn, he]

theorem callW_clone {f : Nat} {fn : Func} (hf : P.funcs[f]? = some fn) (hb : fn.body = none) (hname : (fn.name == "runtime.NumGoroutine") = false) (hn : Extern.findNext fn = none) (he : Extern.find fn = some Extern.MapsClone.clone)
    {a b args : List AV} {h h' : Heap} {v : AV} {Q : AV → Heap → Prop} (hc : mapCloneA (a ++ args ++ b) h = some (v, h')) (hq : Q v h') : CallW P (.func f a b) args h Q := by
  intro ι w fv argv r hf' ha
  simp only [VR] at hf'
  obtain ⟨a', b', rfl, h1, h2⟩ := hf'
  have hall : VRs ι (a ++ args ++ b) (a'.toList ++ argv ++ b'.toList) := (h1.append ha).append h2
  unfold mapCloneA at hc
  split at hc
  · rename_i t m hargs
    rw [hargs] at hall
    obtain ⟨x, l, hx, hxv, hl⟩ := VRs.cons.1 hall
    rw [VRs.nil.1 hl] at hx
    simp only [VR] at hxv
    obtain ⟨y, rfl, p, hp, rfl⟩ := hxv
    split at hc
    · rename_i es clock hg
      cases hc
      obtain ⟨mm, hxx, hER⟩ := r.blocks m p _ hp hg
      have hal := r.alloc (n := 0) (ab := .map es clock) (o := .map mm clock) (fun ι' hle => ⟨mm, rfl, hER.mono hle⟩)
      refine ⟨_, _, _, .iface t (.map (some w.heap.size)), _, hq, ?_, hal.1, hal.2, ?_⟩
      · simp only [VR]; exact ⟨_, rfl, _, Inj.add_same _ _ _, rfl⟩
      · apply Does.value
        have hargv : a' ++ argv.toArray ++ b' = #[.iface t (.map (some p.blk))] := by
          apply Array.ext'
          simp only [Array.toList_append]
          simpa using hx
        have hcl : (Extern.MapsClone.clone #[.iface t (.map (some p.blk))]).run P w = .ok (.iface t (.map (some w.heap.size))) (w.alloc (.map mm clock)) := by
          have e : Extern.MapsClone.clone #[.iface t (.map (some p.blk))] = (do
              let x ← getObj p.blk
              match x with
                | .map entries clock => do pure (.iface t (.map (some (← newObj (.map entries clock)))))
                | _ => stuck "maps.clone: a map expected" : Sem Value) := rfl
          rw [e]
          simp [run_getObj_map hxx]
        simp only [Deferred.ofValue, pure_bind, invoke, hargv, run_extern hf hb hname hn he, hcl, Result.andThen_ok]
    · cases hc
  · cases hc
end
end Go.Ev
