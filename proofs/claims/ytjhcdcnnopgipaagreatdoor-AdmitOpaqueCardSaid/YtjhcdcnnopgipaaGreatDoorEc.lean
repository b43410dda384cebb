/- The machine's steps over related memories; regions whose order is drawn. -/
import Derived.Orders
import Derived.Test.YtjhcdcnnopgipaaGreatDoorEb
noncomputable section
namespace Go.Ev
open Go

theorem fillP_congr {tm tm' : Env} : ∀ {ps : List (Nat × Nat × RO)} {cs : List AV}, (∀ x ∈ ps.map (·.2.2), ro tm x = ro tm' x) → fillP tm cs ps = fillP tm' cs ps
  | [], _, _ => rfl
  | (off, sz, x) :: ps, cs, h => by
    have hx : ro tm x = ro tm' x := h x (by simp)
    simp only [fillP, hx]
    split
    · split
      · exact fillP_congr fun y hy => h y (by simp only [List.map_cons, List.mem_cons]; exact .inr hy)
      · rfl
    · rfl

theorem map_ro_congr {tm tm' : Env} : ∀ {l : List RO}, (∀ x ∈ l, ro tm x = ro tm' x) → l.map (ro tm) = l.map (ro tm')
  | [], _ => rfl
  | x :: l, h => by
    simp only [List.map_cons, h x (by simp)]
    rw [map_ro_congr fun y hy => h y (by simp [hy])]
theorem omap_ro_congr {tm tm' : Env} {l : Option RO} (h : ∀ x ∈ l.toList, ro tm x = ro tm' x) : l.map (ro tm) = l.map (ro tm') := by
  cases l with
  | none => rfl
  | some x => simp only [Option.map_some, h x (by simp)]

theorem aop_congr {tm tm' : Env} {hp : Heap} {op : ROp} (h : ∀ x ∈ op.ros, ro tm x = ro tm' x) : aop tm hp op = aop tm' hp op := by
  cases op
  case build z ps => simp only [aop, fillP_congr h]
  case bslice n z ps => simp only [aop, fillP_congr h]
  case mkfn f a b =>
    simp only [ROp.ros, List.mem_append] at h
    simp only [aop, map_ro_congr fun x hx => h x (.inl hx), map_ro_congr fun x hx => h x (.inr hx)]
  case bminmax m xs =>
    simp only [ROp.ros] at h
    simp only [aop, map_ro_congr h]
  case sl k x lo hi mx =>
    simp only [ROp.ros, List.mem_cons, List.mem_append] at h
    simp only [aop, h x (.inl rfl), omap_ro_congr fun y hy => h y (.inr (.inl (.inl hy))), omap_ro_congr fun y hy => h y (.inr (.inl (.inr hy))), omap_ro_congr fun y hy => h y (.inr (.inr hy))]
  case call f args => rfl
  all_goals
    simp only [ROp.ros, List.forall_mem_cons] at h
    simp only [aop, h]

def ROp.allocs : ROp → Bool
  | .alloc _ | .box _ | .bslice _ _ _ | .cvBytes _ | .mkmap | .mksl _ _ _ _ _ => true
  | _ => false

def H00 : Heap := ⟨0, .nil⟩

/-- An operation that has nothing to do with the heap. -/
theorem aop_pure {tm : Env} {op : ROp} (hw : op.writes = false) (hr : op.reads = false) (ha : op.allocs = false) (h : Heap) :
    aop tm h op = match aop tm H00 op with | some (v, _) => some (v, h) | none => none := by
  cases op <;> first
    | (simp [ROp.writes] at hw; done)
    | (simp [ROp.reads] at hr; done)
    | (simp [ROp.allocs] at ha; done)
    | (simp only [aop]; done)
    | (simp only [aop]; split <;> rfl)
    | (simp only [aop]; split <;> first | rfl | (split <;> rfl))
    | (simp only [aop]; split <;> first | rfl | (split <;> first | rfl | (split <;> rfl)))

theorem liveCells_push {h : Heap} (hwf : ∀ b, h.next ≤ b → h.get b = none) {b : Nat} {B : AB} (hl : liveCells h b = true) : liveCells (h.push B) b = true := by
  have : b ≠ h.next := by
    intro e; subst e
    rw [liveCells, hwf _ (Nat.le_refl _)] at hl
    cases hl
  rw [liveCells, Heap.get_push, if_neg this]
  exact hl

mutual
theorem aeq_push {h : Heap} (hwf : ∀ b, h.next ≤ b → h.get b = none) (B : AB) : ∀ (e : EqD) (x y : AV) (b : Bool), aeq h e x y = some b → aeq (h.push B) e x y = some b
  | .struct fs, x, y, b, he => by
    cases x <;> first | (simp [aeq] at he; done) | skip
    cases y <;> first | (simp [aeq] at he; done) | skip
    simp only [aeq] at he ⊢
    exact aeqs_push hwf B fs _ _ b he
  | .ptr, x, y, b, he => by
    cases x <;> first | (simp [aeq] at he; done) | skip
    · cases y <;> first | (simp [aeq] at he; done) | (simpa [aeq] using he)
    · cases y <;> first | (simp [aeq] at he; done) | skip
      · simpa [aeq] using he
      · simp only [aeq] at he ⊢
        split at he
        · exact he
        · rename_i hb
          split at he
          · rename_i hl
            rw [Bool.and_eq_true] at hl
            simp only [liveCells_push hwf hl.1, liveCells_push hwf hl.2, Bool.and_self]
            exact he
          · cases he
  | .int, x, y, b, he => by cases x <;> cases y <;> first | (simp [aeq] at he; done) | (simpa [aeq] using he)
  | .str, x, y, b, he => by cases x <;> cases y <;> first | (simp [aeq] at he; done) | (simpa [aeq] using he)
  | .bool, x, y, b, he => by cases x <;> cases y <;> first | (simp [aeq] at he; done) | (simpa [aeq] using he)
  | .iface, x, y, b, he => by cases x <;> cases y <;> first | (simp [aeq] at he; done) | (simpa [aeq] using he)
  | .nilS, x, y, b, he => by cases x <;> cases y <;> first | (simp [aeq] at he; done) | (simpa [aeq] using he)
  | .nilM, x, y, b, he => by cases x <;> cases y <;> first | (simp [aeq] at he; done) | (simpa [aeq] using he)
  | .nilF, x, y, b, he => by cases x <;> cases y <;> first | (simp [aeq] at he; done) | (simpa [aeq] using he)
theorem aeqs_push {h : Heap} (hwf : ∀ b, h.next ≤ b → h.get b = none) (B : AB) : ∀ (fs : List (Nat × Option Nat × EqD)) (xs ys : List AV) (b : Bool), aeqs h fs xs ys = some b → aeqs (h.push B) fs xs ys = some b
  | [], _, _, _, he => by unfold aeqs at he ⊢; exact he
  | (off, n, e) :: fs, xs, ys, b, he => by
    simp only [aeqs] at he ⊢
    split at he
    · rename_i x y hx hy
      split at he
      · rename_i h1
        rw [aeq_push hwf B e x y _ h1]
        exact aeqs_push hwf B fs xs ys b he
      · rename_i h1
        rw [aeq_push hwf B e x y _ h1]
        exact he
      · cases he
    · cases he
end

theorem findE_push {h : Heap} (hwf : ∀ b, h.next ≤ b → h.get b = none) (B : AB) {e : EqD} {k : AV} : ∀ {es : List (AV × AV × Nat)} {r : Option (AV × Nat)}, findE h e k es = some r → findE (h.push B) e k es = some r
  | [], r, hf => by simpa [findE] using hf
  | (k', v, n) :: es, r, hf => by
    simp only [findE] at hf ⊢
    split at hf
    · rename_i h1; rw [aeq_push hwf B e k k' _ h1]; exact hf
    · rename_i h1; rw [aeq_push hwf B e k k' _ h1]; exact findE_push hwf B hf
    · cases hf

theorem get_push_some {h : Heap} (hwf : ∀ b, h.next ≤ b → h.get b = none) {B ab : AB} {b : Nat} (hg : h.get b = some ab) : (h.push B).get b = some ab := by
  rw [Heap.get_push, if_neg]
  · exact hg
  · intro e; subst e; rw [hwf _ (Nat.le_refl _)] at hg; cases hg

theorem readCells_push {h : Heap} (hwf : ∀ b, h.next ≤ b → h.get b = none) {B : AB} {b o n : Nat} {cs : List AV} (hr : readCells h b o n = some cs) : readCells (h.push B) b o n = some cs := by
  unfold readCells at hr ⊢
  split at hr
  · rename_i c g hg; rw [get_push_some hwf hg]; exact hr
  · cases hr

theorem binA_push {h : Heap} (hwf : ∀ b, h.next ≤ b → h.get b = none) (B : AB) {op : BinOp} {e : Option EqD} {x y r : AV} (hb : binA h op e x y = some r) : binA (h.push B) op e x y = some r := by
  unfold binA at hb ⊢
  split at hb
  · exact hb
  · exact hb
  · rename_i h1 h2
    split at hb
    · split at hb
      · rename_i ha; rw [aeq_push hwf B _ _ _ _ ha]; exact hb
      · rename_i ha; rw [aeq_push hwf B _ _ _ _ ha]; exact hb
      · cases hb
    · cases hb

/-- What reads, reads the same with a new block beside. -/
theorem aop_read {tm : Env} {op : ROp} (hr : op.reads = true) {h h' : Heap} {v : AV} (hv : aop tm h op = some (v, h')) :
    h' = h ∧ ((∀ b, h.next ≤ b → h.get b = none) → ∀ B, aop tm (h.push B) op = some (v, h.push B)) := by
  cases op <;> first | (simp [ROp.reads] at hr; done) | skip
  case ld n a =>
    simp only [aop] at hv ⊢
    split at hv
    · rename_i b o he
      split at hv
      · rename_i x hx
        cases hv
        refine ⟨rfl, fun hwf B => ?_⟩
        have : (h.push B).cells b = h.cells b ∨ h.cells b = none := by
          unfold Heap.cells
          cases hg : h.get b with
          | none => exact .inr rfl
          | some ab => rw [get_push_some hwf hg]; exact .inl rfl
        rcases this with h1 | h1
        · rw [h1, hx]
        · rw [h1] at hx; cases hx
      · cases hv
    · cases hv
  case lk e z ok m k =>
    simp only [aop] at hv ⊢
    split at hv
    · cases hm : ro tm m <;> simp only [hm] at hv ⊢ <;> first | (cases hv; done) | skip
      · cases hv; exact ⟨rfl, fun _ _ => rfl⟩
      · rename_i b
        cases hg : h.get b with
        | none => rw [hg] at hv; cases hv
        | some ab =>
          rw [hg] at hv
          cases ab <;> simp only [] at hv <;> first | (cases hv; done) | skip
          rename_i es c
          cases hf : findE h e (ro tm k) es with
          | none => rw [hf] at hv; cases hv
          | some r =>
            rw [hf] at hv
            cases r with
            | none => cases hv; refine ⟨rfl, fun hwf B => ?_⟩; simp only [get_push_some hwf hg, findE_push hwf B hf]
            | some q => obtain ⟨x, n⟩ := q; cases hv; refine ⟨rfl, fun hwf B => ?_⟩; simp only [get_push_some hwf hg, findE_push hwf B hf]
    · cases hv
  case blenMap x =>
    simp only [aop] at hv ⊢
    split at hv
    · cases hv; exact ⟨rfl, fun _ _ => rfl⟩
    · split at hv
      · rename_i es c hg; cases hv; refine ⟨rfl, fun hwf B => ?_⟩; rw [get_push_some hwf hg]
      · cases hv
    · cases hv
  case cvOfBytes x =>
    simp only [aop] at hv ⊢
    cases hx : ro tm x <;> simp only [hx] at hv ⊢ <;> first | (cases hv; done) | skip
    · cases hv; exact ⟨rfl, fun _ _ => rfl⟩
    · rename_i b o n c
      cases hz : Nat.beq n 0 with
      | true => rw [hz] at hv; simp only [] at hv ⊢; cases hv; exact ⟨rfl, fun _ _ => rfl⟩
      | false =>
        rw [hz] at hv
        simp only [] at hv ⊢
        cases hr : readCells h b o n with
        | none => rw [hr] at hv; cases hv
        | some cs =>
          rw [hr] at hv
          simp only [] at hv
          cases hb : bytesOf cs with
          | none => rw [hb] at hv; cases hv
          | some l => rw [hb] at hv; cases hv; refine ⟨rfl, fun hwf B => ?_⟩; simp only [readCells_push hwf hr, hb]
    · rename_i b o n c
      cases hz : Nat.beq n 0 with
      | true => rw [hz] at hv; simp only [] at hv ⊢; cases hv; exact ⟨rfl, fun _ _ => rfl⟩
      | false =>
        rw [hz] at hv
        simp only [] at hv ⊢
        cases hr : readCells h b o n with
        | none => rw [hr] at hv; cases hv
        | some cs =>
          rw [hr] at hv
          simp only [] at hv
          cases hb : bytesOf cs with
          | none => rw [hb] at hv; cases hv
          | some l => rw [hb] at hv; cases hv; refine ⟨rfl, fun hwf B => ?_⟩; simp only [readCells_push hwf hr, hb]
  case bin op e x y =>
    simp only [aop] at hv ⊢
    split at hv
    · rename_i r hx; cases hv; refine ⟨rfl, fun hwf B => ?_⟩; rw [binA_push hwf B hx]
    · cases hv
end Go.Ev

noncomputable section
namespace Go.Ev
open Go
section
variable {P : Program}

/-- What allocates: what it makes, and that it looks at nothing but its operands. -/
def Allocs (P : Program) (ι : Inj) (h : Heap) (w : World) (v : AV) (h' : Heap) (r : Result Next) : Prop :=
  ∃ (B : AB) (n : Nat) (m : Nat → Value) (obj : Obj) (w₁ : World), h' = h.push B ∧ (w₁ = w ∨ w₁ = w.drew) ∧ r = .ok (.value (m w.heap.size)) (w₁.alloc obj) ∧
    (∀ ι', Le ι ι' → ∀ blk, BR P ι' ⟨blk, n⟩ B (some obj)) ∧ (∀ ι' blk, Le ι ι' → ι' h.next = some ⟨blk, n⟩ → VR ι' v (m blk))

theorem Allocs.row {ι : Inj} {h : Heap} {w : World} {v : AV} {r : Result Next} {cs : List AV} {c : Array Value} (elem : TypeId) (hv : VRs ι cs c.toList) (g : Bool) (m : Nat → Value)
    (hr : r = .ok (.value (m w.heap.size)) (w.alloc (.cells c elem))) (hm : ∀ ι' blk, Le ι ι' → ι' h.next = some ⟨blk, c.size⟩ → VR ι' v (m blk)) : Allocs P ι h w v (h.push (.cells cs g)) r :=
  ⟨_, c.size, m, _, w, rfl, .inl rfl, hr, fun _ hl blk => BR.fresh elem (hv.mono hl) blk rfl g, hm⟩

theorem alloc_ops (op₀ : Op) {ι : Inj} {h h' : Heap} {w : World} {tm : Env} {a : Act} {v : AV} {rop : ROp} {o : Oper} (hal : rop.allocs = true) (ht : TmR ι tm a.tmps) (ho : o.op = op₀) (hres : resOp P op₀ = some rop)
    (hv : aop tm h rop = some (v, h')) : Allocs P ι h w v h' ((execOp a.eval o).run P w) := by
  cases op₀
  case alloc elem =>
    obtain ⟨z, zv, i, rfl, hi, hzv, hbr⟩ := res_alloc hres
    simp only [aop] at hv
    cases hv
    refine ⟨_, zv.cells.size, fun b => .pointer (some ⟨b, 0, none⟩), .cells zv.cells elem, w, rfl, .inl rfl, ?_, fun ι' _ blk => hbr ι' blk, ?_⟩
    · simp [execOp, ho, Instr.alloc, newVar, newRow, run_zeroValue hi hzv]
    · intro ι' blk _ hat; simp only [VR]; exact ⟨_, hat, rfl⟩
  case box elem x =>
    simp only [resOp] at hres
    split at hres
    · rename_i q hq
      cases hres
      simp only [aop] at hv
      cases hv
      have := rso_VR ht hq
      refine .row elem this.cells false (fun b => .pointer (some ⟨b, 0, none⟩)) ?_ ?_
      · simp [execOp, ho, Instr.box, newVar, newRow]
      · intro ι' blk _ hat; simp only [VR]; exact ⟨_, hat, rfl⟩
    · cases hres
  case makeMap t x =>
    cases x with
    | none =>
      simp only [resOp] at hres
      cases hres
      simp only [aop] at hv
      cases hv
      refine ⟨_, 0, fun b => .map (some b), .map #[] 0, w, rfl, .inl rfl, ?_, fun _ _ _ => ⟨#[], rfl, rfl⟩, ?_⟩
      · simp [execOp, ho, Instr.makeMap]
      · intro ι' blk _ hat; simp only [VR]; exact ⟨_, hat, rfl⟩
    | some x => simp [resOp] at hres
  case buildSlice t len ps =>
    simp only [resOp] at hres
    split at hres
    · rename_i e hu
      split at hres
      · rename_i i z hi hz
        split at hres
        · rename_i hb
          split at hres
          · rename_i l hl
            cases hres
            rw [Bool.and_eq_true, Nat.ble_eq, Nat.beq_eq] at hb
            obtain ⟨hsm, hzl⟩ := hb
            obtain ⟨i', zv, hi', hzv, hvr⟩ := zeroC_spec hz
            rw [hi] at hi'; cases hi'
            simp only [aop] at hv
            cases hf : fillP tm (rep z len) l with
            | none => rw [hf] at hv; cases hv
            | some cs =>
              rw [hf] at hv; cases hv
              have hsz : zv.cells.size = i.size := by have := (hvr ι).length; simp at this; omega
              have hbase : VRs ι (rep z len) ((List.range (len * i.size)).map fun j => zv.cells[j % zv.cells.size]!) := by
                rw [← hsz, range_zero_cells]; exact (hvr ι).rep len
              have hrun : ∃ c' : Array Value, VRs ι cs c'.toList ∧ (Instr.buildSlice t len (ps.map fun (x : Nat × Operand) => (x.1, a.eval x.2))).run P w = .ok (.slice (some ⟨w.heap.size, 0, none⟩) len len) (w.alloc (.cells c' e)) := by
                by_cases h0 : len * i.size = 0
                · have hb0 : VRs ι (rep z len) (#[] : Array Value).toList := by
                    rw [h0] at hbase; simpa using hbase
                  obtain ⟨c', h3, h4⟩ := fill_sound ht hl hb0 hf
                  refine ⟨c', h4, ?_⟩
                  have hz0 : (Array.map (fun _ => (default : Value)) (Array.range 0)) = #[] := by simp
                  simp [Instr.buildSlice, run_underlying hu, sizeOf, typeInfo, hi, h0, newRow, hz0, h3]
                · obtain ⟨c', h3, h4⟩ := fill_sound ht hl (c := (Array.range (len * i.size)).map (zv.cells[· % zv.cells.size]!)) (by simpa using hbase) hf
                  refine ⟨c', h4, ?_⟩
                  exact run_buildSlice w t e len _ c' i zv hu hi hzv (by omega) h0 (by rw [map_parts]; exact h3)
              obtain ⟨c', hc', hr'⟩ := hrun
              refine .row e hc' false (fun b => .slice (some ⟨b, 0, none⟩) len len) ?_ ?_
              · simp only [execOp, ho, Sem.run_bind, hr', Result.andThen_ok, Sem.run_pure]
              · intro ι' blk _ hat; simp only [VR]; exact ⟨_, _, hat, rfl, Nat.le_refl _, .inl rfl⟩
          · cases hres
        · cases hres
      · cases hres
    · cases hres
  case makeSlice t l c =>
    simp only [resOp] at hres
    split at hres
    · rename_i e ql qc hu hql hqc
      split at hres
      · rename_i i z hi hz
        cases hres
        simp only [aop] at hv
        have el := rso_VR ht hql
        have ec := rso_VR ht hqc
        split at hv
        · rename_i n m hn hm
          obtain ⟨k1, hk1⟩ := asNat_spec hn
          obtain ⟨k2, hk2⟩ := asNat_spec hm
          rw [hk1] at el
          rw [hk2] at ec
          split at hv
          · rename_i hb
            cases hv
            simp only [Bool.and_eq_true, Nat.ble_eq, Nat.beq_eq] at hb
            obtain ⟨⟨⟨hnm, hmb⟩, hm40⟩, hzl⟩ := hb
            obtain ⟨i', zv, hi', hzv, hvr⟩ := zeroC_spec hz
            rw [hi] at hi'; cases hi'
            have hsz : zv.cells.size = i.size := by have := (hvr ι).length; simp at this; omega
            have wn : IntKind.i64.wrap (n : Int) = n := IntWalk.i64_in _ (by omega)
            have wm : IntKind.i64.wrap (m : Int) = m := IntWalk.i64_in _ (by omega)
            have hb1 : ¬ (281474976710656 < (i.bytes : Int) * (m : Int)) := by
              have : (i.bytes : Int) * (m : Int) = ((m * i.bytes : Nat) : Int) := by rw [Int.mul_comm]; simp
              rw [this]; omega
            have hneg : ¬ ((m : Int) < 0) := by omega
            have hneg2 : ¬ ((n : Int) < 0) := by omega
            have hnm' : ¬ ((m : Int) < (n : Int)) := by omega
            have hbase : VRs ι (rep z m) ((List.range (m * i.size)).map fun j => zv.cells[j % zv.cells.size]!) := by
              rw [← hsz, range_zero_cells]; exact (hvr ι).rep m
            have hrun : ∃ c' : Array Value, VRs ι (rep z m) c'.toList ∧ (Instr.makeSlice t (.int k1 (n : Int)) (.int k2 (m : Int))).run P w = .ok (.slice (some ⟨w.heap.size, 0, none⟩) n m) (w.alloc (.cells c' e)) := by
              by_cases h0 : m * i.size = 0
              · refine ⟨#[], by rw [h0] at hbase; simpa using hbase, ?_⟩
                have hz0 : (Array.map (fun _ => (default : Value)) (Array.range 0)) = #[] := by simp
                simp [Instr.makeSlice, run_underlying hu, asInt, asIntOf, typeInfo, hi, wn, wm, hb1, hneg, hneg2, hnm', sizeOf, h0, newRow, hz0]
              · refine ⟨(Array.range (m * i.size)).map (zv.cells[· % zv.cells.size]!), by simpa using hbase, ?_⟩
                simp [Instr.makeSlice, run_underlying hu, asInt, asIntOf, typeInfo, hi, wn, wm, hb1, hneg, hneg2, hnm', sizeOf, h0, newRow, zeroValue, hzv]
            obtain ⟨c', hc', hr'⟩ := hrun
            refine .row e hc' false (fun b => .slice (some ⟨b, 0, none⟩) n m) ?_ ?_
            · simp only [execOp, ho, el.int, ec.int, Sem.run_bind, hr', Result.andThen_ok, Sem.run_pure]
            · intro ι' blk _ hat; simp only [VR]; exact ⟨_, _, hat, rfl, hnm, .inl rfl⟩
          · cases hv
        · cases hv
      · cases hres
    · cases hres
  case convert s d x =>
    simp only [resOp] at hres
    split at hres
    · cases hres; simp [ROp.allocs] at hal
    · cases hres; simp [ROp.allocs] at hal
    · rename_i e q hus hud hq
      split at hres
      · rename_i hue
        cases hres
        simp only [aop] at hv
        have ex := rso_VR ht hq
        split at hv
        · rename_i l he
          cases hv
          rw [he] at ex
          obtain ⟨bs, hbe, hbl⟩ := ex.str
          have hlen : l.length = bs.size := by rw [← hbl]; simp
          obtain ⟨c, hc, hgc⟩ : ∃ c, bs.size ≤ c ∧ grownCap w bs.size 0 e = c := ⟨_, by simp [grownCap, Question.cut], rfl⟩
          obtain ⟨cells, hcl⟩ : ∃ x : Array Value, x = bytesRow bs c := ⟨_, rfl⟩
          have hcells : cells.size = c := by rw [hcl]; simp [bytesRow]; omega
          have hrun := run_bytes_of_string w s d e bs hus hud hue
          rw [hgc, ← hcl] at hrun
          have hvr : VRs ι (l.map fun (c : Nat) => AV.int .u8 c) (cells.toList.take l.length) := by
            have e1 : cells.toList.take l.length = l.map fun (x : Nat) => Value.int .u8 (x : Int) := by
              simp only [hcl, bytesRow, Array.toList_append, Array.toList_map]
              rw [List.take_append_of_le_length (by simp; omega), List.take_of_length_le (by simp; omega), ← hbl]
              simp
            rw [e1]
            exact VRs.mkInts l
          refine ⟨_, c, fun b => .slice (some ⟨b, 0, none⟩) bs.size c, .cells cells e (cells.size, cells.size + 1), w.drew, rfl, .inr rfl, ?_,
            fun ι' hl' blk => ⟨cells, e, cells.size, cells.size + 1, rfl, hcells, by simpa using hvr.mono hl', by simp; omega, (fun h => by cases h), .inr (Nat.le_refl _)⟩, ?_⟩
          · simp only [execOp, ho, hbe, Sem.run_bind, hrun, Result.andThen_ok, Sem.run_pure]
          · intro ι' blk _ hat
            simp only [VR]
            exact ⟨_, 0, c, hat, by rw [hlen], by omega, by simp, .inl rfl⟩
        · cases hv
      · cases hres
    · split at hres
      · cases hres; simp [ROp.allocs] at hal
      · cases hres
    · cases hres
  case makeFunc fn x y =>
    cases fn
    case func f =>
      simp only [resOp] at hres
      split at hres
      · cases hres; simp [ROp.allocs] at hal
      · cases hres
    all_goals simp [resOp] at hres
  case call c =>
    obtain ⟨callee, args, ts⟩ := c
    cases callee
    case builtin b =>
      change resBuiltin P b args.toList ts.toList = some rop at hres
      unfold resBuiltin at hres
      (repeat' split at hres) <;> cases hres <;> simp [ROp.allocs] at hal
    case value f =>
      simp only [resOp] at hres
      split at hres
      · cases hres; simp [ROp.allocs] at hal
      · cases hres
    case invoke x y => simp [resOp] at hres
  all_goals
    exfalso
    first
      | (simp [resOp] at hres; done)
      | (simp only [resOp] at hres
         (repeat' split at hres) <;> cases hres <;> simp [ROp.allocs] at hal)
end
end Go.Ev

noncomputable section
namespace Go.Ev
open Go

/-! ## Frames, the rounds of a range function among them -/
structure FB where
  fn : FuncId
  kind : CallKind
  ro : Option Nat

def FB.at (b : FB) (a : Act) (todo : List Item) : Frame :=
  { fn := b.fn, tmps := a.tmps, todo, defers := a.defers, mode := .run, kind := b.kind, roundOf := b.ro }

theorem FB.eval_at (b : FB) (a : Act) (todo : List Item) : (b.at a todo).eval = a.eval := by
  funext x; cases x <;> rfl

section moves
variable {P : Program} {b : FB} {a : Act} {k : List Item} {cs : List Frame} {w : World}
theorem mv_skip : step P (lone (b.at a (.code .skip :: k)) cs w) = .next (lone (b.at a k) cs w) := step_lone_go (by simp [stepG, stepG.exec, FB.at])
theorem mv_label {l : Nat} : step P (lone (b.at a (.code (.label l) :: k)) cs w) = .next (lone (b.at a k) cs w) := step_lone_go (by simp [stepG, stepG.exec, FB.at])
theorem mv_inBlock {id : Nat} : step P (lone (b.at a (.inBlock id :: k)) cs w) = .next (lone (b.at a k) cs w) := step_lone_go (by simp [stepG, stepG.exec, FB.at])
theorem mv_inScope {c : Code} : step P (lone (b.at a (.inScope c :: k)) cs w) = .next (lone (b.at a k) cs w) := step_lone_go (by simp [stepG, stepG.exec, FB.at])
theorem mv_scope {c : Code} : step P (lone (b.at a (.code (.scope c) :: k)) cs w) = .next (lone (b.at a (.code c :: .inScope c :: k)) cs w) := step_lone_go (by simp [stepG, stepG.exec, FB.at])
theorem mv_seq {x y : Code} : step P (lone (b.at a (.code (.seq x y) :: k)) cs w) = .next (lone (b.at a (.code x :: .code y :: k)) cs w) :=
  step_lone_go (by simp [stepG, stepG.exec, FB.at])
theorem mv_cond {c : Operand} {x y : Code} {t : Bool} (h : a.eval c = .bool t) :
    step P (lone (b.at a (.code (.cond c x y) :: k)) cs w) = .next (lone (b.at a (.code (if t then x else y) :: k)) cs w) :=
  step_lone_go (by
    have := FB.eval_at b a (.code (.cond c x y) :: k)
    simp only [FB.at] at this
    simp [stepG, stepG.exec, FB.at, this, h])
theorem mv_block {id : Nat} {c : Code} : step P (lone (b.at a (.code (.block id c) :: k)) cs w) = .next (lone (b.at a (.code c :: .inBlock id :: k)) cs w) :=
  step_lone_go (by simp [stepG, stepG.exec, FB.at])
theorem mv_loop {c : Code} : step P (lone (b.at a (.code (.loop c) :: k)) cs w) = .next (lone (b.at a (.code c :: .inLoop c :: k)) cs w) :=
  step_lone_go (by simp [stepG, stepG.exec, FB.at])
theorem mv_inLoop {c : Code} : step P (lone (b.at a (.inLoop c :: k)) cs w) = .next (lone (b.at a (.code c :: .inLoop c :: k)) cs w) :=
  step_lone_go (by simp [stepG, stepG.exec, FB.at])
theorem mv_exit {id : Nat} {k' : List Item} (h : exitTo id k = some k') :
    step P (lone (b.at a (.code (.exit id) :: k)) cs w) = .next (lone (b.at a k') cs w) := step_lone_go (by simp [stepG, stepG.exec, FB.at, h])
theorem mv_region {id : Nat} {ops : Array Oper} :
    step P (lone (b.at a (.code (.region id ops false) :: k)) cs w) = .next (lone (b.at a (.inRegion ops (List.range ops.size) :: k)) cs w) :=
  step_lone_go (by simp [stepG, stepG.exec, FB.at])
theorem mv_draw {id : Nat} {ops : Array Oper} :
    step P (lone (b.at a (.code (.region id ops true) :: k)) cs w) =
      .next (lone (b.at a (.inRegion ops (Region.schedule (P.follows .mixedOrders) ops (w.tape w.drawn (.order b.fn id))) :: k)) cs { w with drawn := w.drawn + 1 }) :=
  step_lone_go (by simp [stepG, stepG.exec, FB.at, choose, Sem.run, Question.forced, Question.cut])
theorem mv_regionEnd {ops : Array Oper} : step P (lone (b.at a (.inRegion ops [] :: k)) cs w) = .next (lone (b.at a k) cs w) :=
  step_lone_go (by simp [stepG, stepG.exec, FB.at])

theorem FB.finish_at (b : FB) (a : Act) (ops : Array Oper) (i : Nat) (rest : List Nat) (k : List Item) (v : Value) :
    (b.at a (.inRegion ops (i :: rest) :: k)).finish v = b.at (a.put ((ops[i]?).bind (·.dst)) v) (.inRegion ops rest :: k) := by
  cases h : (ops[i]?).bind (·.dst) <;> simp [Frame.finish, FB.at, Act.put, h]

theorem mv_opSkip {ops : Array Oper} {i : Nat} {rest : List Nat} {o : Oper} (ho : ops[i]? = some o) (h : Region.wanted o (yielded ops a.tmps) = false) :
    step P (lone (b.at a (.inRegion ops (i :: rest) :: k)) cs w) = .next (lone (b.at (a.put o.dst undef) (.inRegion ops rest :: k)) cs w) := by
  have := FB.finish_at b a ops i rest k undef
  rw [ho] at this
  simp only [Option.bind_some] at this
  rw [← this]
  refine step_lone_go ?_
  simp [stepG, stepG.exec, FB.at, ho, h]

/-- A call, or any operation, comes to a value. -/
def Does (P : Program) (s : Sem Next) (w : World) (v : Value) (w' : World) : Prop :=
  ∀ (c : Frame) (cs : List Frame), (∀ d r s k, c.todo ≠ .call d true r s :: k) →
    ∃ fr' cs' w₁, (stepG.apply P true c cs none s w).bare = .go { frame := fr', callers := cs', status := .running, dying := none } w₁ ∧ Steps P (lone fr' cs' w₁) (lone (c.finish v) cs w')

theorem Does.value {s : Sem Next} {v : Value} {w' : World} (h : s.run P w = .ok (.value v) w') : Does P s w v w' := by
  intro c cs _
  refine ⟨c.finish v, cs, w', ?_, .refl _ _⟩
  simp [stepG.apply, h]
theorem Does.skip {s : Sem Next} {w' : World} (h : s.run P w = .ok .skip w') : Does P s w undef w' := by
  intro c cs _
  refine ⟨c.finish undef, cs, w', ?_, .refl _ _⟩
  simp [stepG.apply, h]

theorem mv_op {ops : Array Oper} {i : Nat} {rest : List Nat} {o : Oper} (ho : ops[i]? = some o) (hw : Region.wanted o (yielded ops a.tmps) = true) (hd : ∀ c, o.op ≠ .defer c) {v : Value} {w' : World}
    (h : Does P (execOp a.eval o) w v w') :
    Steps P (lone (b.at a (.inRegion ops (i :: rest) :: k)) cs w) (lone (b.at (a.put o.dst v) (.inRegion ops rest :: k)) cs w') := by
  obtain ⟨fr', cs', w₁, h1, h2⟩ := h (b.at a (.inRegion ops (i :: rest) :: k)) cs (by intro d r s k e; simp [FB.at] at e)
  have hf := FB.finish_at b a ops i rest k v
  rw [ho] at hf
  simp only [Option.bind_some] at hf
  rw [hf] at h2
  refine .head (step_lone_go ?_) h2
  rw [← h1]
  have he := FB.eval_at b a (.inRegion ops (i :: rest) :: k)
  have hst : stepG P true { frame := b.at a (.inRegion ops (i :: rest) :: k), callers := cs, status := .running, dying := none } w =
      stepG.apply P true (b.at a (.inRegion ops (i :: rest) :: k)) cs none (execOp a.eval o) w := by
    have e1 : stepG P true { frame := b.at a (.inRegion ops (i :: rest) :: k), callers := cs, status := .running, dying := none } w =
        stepG.oper P true (b.at a (.inRegion ops (i :: rest) :: k)) cs none w := by
      simp [stepG, stepG.exec, FB.at, ho, hw]
    rw [e1]
    have e2 : (b.at a (.inRegion ops (i :: rest) :: k)).oper? = some o := by simp [Frame.oper?, FB.at, ho]
    unfold stepG.oper
    simp only [e2, he]
    split
    · rename_i h3; exact absurd h3 (hd _)
    · rfl
  rw [hst]
end moves

/-! ## Related states -/
def DR (ι : Inj) : List Nat → List Deferred → Prop
  | [], l => l = []
  | m :: ms, l => ∃ p ds, ι m = some p ∧ l = { target := .collected p.blk, args := #[] } :: ds ∧ DR ι ms ds
theorem DR.mono {ι ι' : Inj} (h : Le ι ι') : ∀ {ms : List Nat} {l : List Deferred}, DR ι ms l → DR ι' ms l
  | [], _, hd => hd
  | _ :: _, _, ⟨p, ds, hp, e, hd⟩ => ⟨p, ds, h _ _ hp, e, hd.mono h⟩
def RoR (ι : Inj) : Option Nat → Option Nat → Prop
  | none, r => r = none
  | some l, r => ∃ p, ι l = some p ∧ r = some p.blk
theorem RoR.mono {ι ι' : Inj} (h : Le ι ι') {r r' : Option Nat} (hr : RoR ι r r') : RoR ι' r r' := by
  cases r with
  | none => exact hr
  | some l => obtain ⟨p, hp, e⟩ := hr; exact ⟨p, h _ _ hp, e⟩

structure At (P : Program) (nt : Nat) (ι : Inj) (s : St) (b : FB) (a : Act) (w : World) : Prop where
  rel : Rel P ι s.h w
  tm : TmR ι s.tm a.tmps
  nt : nt ≤ a.tmps.size
  defers : DR ι s.marks a.defers
  round : RoR ι s.round b.ro

/-- A call of a function value. -/
def CallW (P : Program) (f : AV) (args : List AV) (h : Heap) (Q : AV → Heap → Prop) : Prop :=
  ∀ ι w fv argv, Rel P ι h w → VR ι f fv → VRs ι args argv →
    ∃ v h' ι' v' w', Q v h' ∧ VR ι' v v' ∧ Rel P ι' h' w' ∧ Ext ι h w ι' h' w' ∧ Does P (do let d ← Deferred.ofValue fv argv.toArray; invoke d.target d.args) w v' w'

theorem CallW.mono {P : Program} {f : AV} {args : List AV} {h : Heap} {Q Q' : AV → Heap → Prop} (hc : CallW P f args h Q) (hq : ∀ v h, Q v h → Q' v h) : CallW P f args h Q' := by
  intro ι w fv argv r hf ha
  obtain ⟨v, h', ι', v', w', h1, h2⟩ := hc ι w fv argv r hf ha
  exact ⟨v, h', ι', v', w', hq _ _ h1, h2⟩

/-! ## One operation -/
abbrev CW := AV → List AV → Heap → (AV → Heap → Prop) → Prop

def oneW (C : CW) (tm : Env) (h : Heap) (op : ROp) (Q : AV → Heap → Prop) : Prop :=
  match op with
  | .call f args => C (ro tm f) (args.map (ro tm)) h Q
  | op => ∃ v h', aop tm h op = some (v, h') ∧ Q v h'

theorem resOp_call {P : Program} {op₀ : Op} {qf : RO} {ql : List RO} (h : resOp P op₀ = some (.call qf ql)) :
    ∃ (f : Operand) (args : Array Operand) (ts : Array TypeId), op₀ = .call { callee := .value f, args := args, argTypes := ts } ∧ rso f = some qf ∧ allM rso args.toList = some ql := by
  cases op₀
  case call c =>
    obtain ⟨callee, args, ts⟩ := c
    cases callee
    case value f =>
      simp only [resOp] at h
      split at h
      · rename_i h1 h2; cases h; exact ⟨f, args, ts, rfl, h1, h2⟩
      · cases h
    case builtin b =>
      exfalso
      change resBuiltin P b args.toList ts.toList = some _ at h
      unfold resBuiltin at h
      (repeat' split at h) <;> cases h
    case invoke x y => simp [resOp] at h
  case makeFunc fn x y =>
    exfalso
    cases fn
    case func f =>
      simp only [resOp] at h
      split at h <;> cases h
    all_goals simp [resOp] at h
  case makeMap t x => exfalso; cases x <;> simp [resOp] at h
  all_goals
    exfalso
    first
      | (simp [resOp] at h; done)
      | (simp only [resOp] at h
         (repeat' split at h) <;> cases h)

theorem one_run {P : Program} {ι : Inj} {h : Heap} {w : World} {tm : Env} {a : Act} {o : Oper} {rop : ROp} {Q : AV → Heap → Prop} (r : Rel P ι h w) (ht : TmR ι tm a.tmps) (hres : resOp P o.op = some rop)
    (hq : oneW (CallW P) tm h rop Q) : ∃ v h' ι' v' w', Q v h' ∧ VR ι' v v' ∧ Rel P ι' h' w' ∧ Ext ι h w ι' h' w' ∧ Does P (execOp a.eval o) w v' w' := by
  have plain : (∃ v h', aop tm h rop = some (v, h') ∧ Q v h') → ∃ v h' ι' v' w', Q v h' ∧ VR ι' v v' ∧ Rel P ι' h' w' ∧ Ext ι h w ι' h' w' ∧ Does P (execOp a.eval o) w v' w' := by
    rintro ⟨v, h', hv, hq⟩
    obtain ⟨v', w', hr, ι', h1, h2, h3⟩ := aop_sound o.op r ht rfl hres hv
    refine ⟨v, h', ι', v', w', hq, h1, h2, h3, ?_⟩
    rcases hr with hr | ⟨hr, rfl⟩
    · exact .value hr
    · exact .skip hr
  cases rop
  case call qf ql =>
    obtain ⟨f, args, ts, ho, hf, hl⟩ := resOp_call hres
    obtain ⟨v, h', ι', v', w', h1, h2, h3, h4, h5⟩ := hq ι w (a.eval f) (args.toList.map a.eval) r (rso_VR ht hf) (rsos_VR ht hl)
    refine ⟨v, h', ι', v', w', h1, h2, h3, h4, ?_⟩
    have : execOp a.eval o = (do let d ← Deferred.ofValue (a.eval f) (args.toList.map a.eval).toArray; invoke d.target d.args) := by
      simp only [execOp, ho, resolve, args_eval a rfl]
    rw [this]
    exact h5
  all_goals exact plain hq

theorem resOp_defer {P : Program} {op₀ : Op} {rop : ROp} (h : resOp P op₀ = some rop) (c : Call) : op₀ ≠ .defer c := by
  intro e; subst e; simp [resOp] at h

theorem resOper_spec {P : Program} {n : Nat} {ops : Array Oper} {o : Oper} {q : ROper} (h : resOper P n ops o = some q) :
    resOp P o.op = some q.op ∧ q.dst = o.dst ∧ (∀ d, o.dst = some d → d < n) ∧
      (match o.guard with | none => q.guard = none | some (j, want) => ∃ s, (ops[j]?).bind (·.dst) = some s ∧ q.guard = some (s, want)) := by
  unfold resOper at h
  split at h
  · rename_i op h1 h2
    have hd : ∀ d, o.dst = some d → d < n := by
      intro d hd
      rw [hd] at h2
      simpa using h2
    split at h
    · rename_i hg; cases h; exact ⟨h1, rfl, hd, by rw [hg]⟩
    · rename_i j want hg
      split at h
      · rename_i s hs; cases h; exact ⟨h1, rfl, hd, by rw [hg]; exact ⟨s, hs, rfl⟩⟩
      · cases h
  · cases h

theorem VR.of_bool {ι : Inj} {x : AV} {b : Bool} (h : VR ι x (.bool b)) : x = .bool b := by
  cases x <;> simp only [VR] at h <;> first
    | (cases h; rfl)
    | (obtain ⟨_, h1, _⟩ := h; cases h1; done)
    | (obtain ⟨_, _, h1⟩ := h; cases h1; done)
    | (obtain ⟨_, _, h1, _⟩ := h; cases h1; done)
    | (obtain ⟨_, _, _, h1, _⟩ := h; cases h1; done)
    | (obtain ⟨_, _, _, _, h1, _⟩ := h; cases h1; done)
    | cases h

theorem wanted_run {ι : Inj} {tm : Env} {a : Act} {ops : Array Oper} {o : Oper} {g : Option (Nat × Bool)} (ht : TmR ι tm a.tmps)
    (hg : match o.guard with | none => g = none | some (j, want) => ∃ s, (ops[j]?).bind (·.dst) = some s ∧ g = some (s, want)) :
    Region.wanted o (yielded ops a.tmps) = wantedR tm g := by
  unfold Region.wanted
  split at hg
  · rename_i h1; rw [h1, hg]; rfl
  · rename_i j want h1
    obtain ⟨s, hs, rfl⟩ := hg
    rw [h1]
    simp only [wantedR, yielded, hs, Option.bind_some]
    have hv := ht s
    have hno : (∀ b, tm.look s ≠ .bool b) → ((match a.tmps[s]? with | some (.bool b) => some b | _ => none) == some want) = false := by
      intro hne
      cases hts : a.tmps[s]? with
      | none => rfl
      | some v =>
        have hu : a.tmps.getD s undef = v := by simp [Array.getD_eq_getD_getElem?, hts]
        rw [hu] at hv
        cases v
        case bool b => exact absurd hv.of_bool (hne b)
        all_goals rfl
    cases hl : tm.look s
    case bool b =>
      rw [hl] at hv
      have hb := hv.bool
      have hts : a.tmps[s]? = some (.bool b) := by
        cases hts : a.tmps[s]? with
        | none => simp [Array.getD_eq_getD_getElem?, hts, undef] at hb
        | some v => simp [Array.getD_eq_getD_getElem?, hts] at hb; rw [hb]
      rw [hts]
      cases b <;> cases want <;> rfl
    all_goals exact hno (by rw [hl]; intro b e; cases e)

/-! ## Regions in their order -/
def opsW (C : CW) : List ROper → Env → Heap → (Env → Heap → Prop) → Prop
  | [], tm, h, Q => Q tm h
  | o :: l, tm, h, Q => match wantedR tm o.guard with
    | true => oneW C tm h o.op fun v h' => opsW C l (putD tm o.dst v) h' Q
    | false => opsW C l (putD tm o.dst .undef) h Q

theorem TmR.putD {ι : Inj} {tm : Env} {a : Act} (h : TmR ι tm a.tmps) {d : Option Nat} (hd : ∀ x, d = some x → x < a.tmps.size) {x : AV} {v : Value} (hv : VR ι x v) : TmR ι (putD tm d x) (a.put d v).tmps := by
  cases d with
  | none => exact h
  | some d => exact h.put (hd d rfl) hv
theorem Act.put_size (a : Act) (d : Option Nat) (v : Value) : (a.put d v).tmps.size = a.tmps.size := by cases d <;> simp [Act.put]
theorem Act.put_defers' (a : Act) (d : Option Nat) (v : Value) : (a.put d v).defers = a.defers := by cases d <;> simp [Act.put]

/-- Where a region comes to. -/
def RegTo (P : Program) (ι : Inj) (h : Heap) (w : World) (a : Act) (Q : Env → Heap → Prop) (S : Act → World → Prop) : Prop :=
  ∃ tm' h' ι' a' w', Q tm' h' ∧ Rel P ι' h' w' ∧ TmR ι' tm' a'.tmps ∧ a'.tmps.size = a.tmps.size ∧ a'.defers = a.defers ∧ Ext ι h w ι' h' w' ∧ S a' w'

theorem ops_run {P : Program} {ops : Array Oper} {n : Nat} {b : FB} : ∀ (l : List ROper) (i : Nat), allM (resOper P n ops) (ops.toList.drop i) = some l →
    ∀ {tm : Env} {h : Heap} {Q : Env → Heap → Prop}, opsW (CallW P) l tm h Q → ∀ {ι : Inj} {a : Act} {w : World}, Rel P ι h w → TmR ι tm a.tmps → n ≤ a.tmps.size →
      RegTo P ι h w a Q fun a' w' => ∀ k cs, Steps P (lone (b.at a (.inRegion ops (List.range' i (ops.size - i)) :: k)) cs w) (lone (b.at a' k) cs w')
  | [], i, hl, tm, h, Q, hq, ι, a, w, r, ht, hn => by
    have hi : ops.size ≤ i := by
      cases hd : ops.toList.drop i with
      | nil => simpa using hd
      | cons x l => rw [hd] at hl; obtain ⟨_, _, _, _, e⟩ := allM_cons hl; cases e
    refine ⟨tm, h, ι, a, w, hq, r, ht, rfl, rfl, .refl ι h w, ?_⟩
    have : ops.size - i = 0 := by omega
    rw [this]
    exact fun k cs => .one mv_regionEnd
  | q :: l, i, hl, tm, h, Q, hq, ι, a, w, r, ht, hn => by
    cases hd : ops.toList.drop i with
    | nil => rw [hd] at hl; simp [allM] at hl
    | cons o rest =>
      rw [hd] at hl
      obtain ⟨q', l', h1, h2, e⟩ := allM_cons hl
      cases e
      have hi : i < ops.size := by
        rcases Nat.lt_or_ge i ops.size with h3 | h3
        · exact h3
        · rw [List.drop_eq_nil_of_le (by simpa using h3)] at hd; cases hd
      have ho : ops[i]? = some o := by
        have : (ops.toList.drop i)[0]? = some o := by rw [hd]; rfl
        simpa using this
      have hrest : ops.toList.drop (i + 1) = rest := by
        rw [List.drop_add_one_eq_tail_drop, hd]; rfl
      rw [← hrest] at h2
      obtain ⟨hres, hdst, hdn, hg⟩ := resOper_spec h1
      have hsz : ops.size - i = (ops.size - (i + 1)) + 1 := by omega
      rw [hsz, List.range'_succ]
      have hwr := wanted_run (ops := ops) ht hg
      have hput : ∀ {ι : Inj} {x : AV} {v : Value}, TmR ι tm a.tmps → VR ι x v → TmR ι (putD tm q.dst x) (a.put o.dst v).tmps := fun h hv => by
        rw [hdst]; exact h.putD (fun x hx => Nat.lt_of_lt_of_le (hdn x hx) hn) hv
      simp only [opsW] at hq
      split at hq
      · rename_i hw
        obtain ⟨v, h', ι', v', w', q1, q2, q3, q4, q5⟩ := one_run r ht hres hq
        have hs := fun k cs => mv_op (b := b) (k := k) (cs := cs) (rest := List.range' (i + 1) (ops.size - (i + 1))) ho (by rw [hwr]; exact hw) (resOp_defer hres) q5
        obtain ⟨tm2, h2', ι2, a2, w2, z1, z2, z3, z4, z5, z6, z7⟩ := ops_run l (i + 1) h2 (a := a.put o.dst v') q1 q3 (hput (ht.mono q4.le) q2) (by rw [Act.put_size]; exact hn)
        exact ⟨tm2, h2', ι2, a2, w2, z1, z2, z3, by rw [z4, Act.put_size], by rw [z5, Act.put_defers'], q4.trans z6, fun k cs => (hs k cs).trans (z7 k cs)⟩
      · rename_i hw
        have hs := fun k cs => mv_opSkip (P := P) (b := b) (k := k) (cs := cs) (w := w) (rest := List.range' (i + 1) (ops.size - (i + 1))) ho (by rw [hwr]; exact hw)
        obtain ⟨tm2, h2', ι2, a2, w2, z1, z2, z3, z4, z5, z6, z7⟩ := ops_run l (i + 1) h2 (a := a.put o.dst undef) hq r (hput ht (VR.undef ι)) (by rw [Act.put_size]; exact hn)
        exact ⟨tm2, h2', ι2, a2, w2, z1, z2, z3, by rw [z4, Act.put_size], by rw [z5, Act.put_defers'], z6, fun k cs => .head (hs k cs) (z7 k cs)⟩
end Go.Ev

noncomputable section
namespace Go.Ev
open Go

/-! ## Regions whose order is drawn -/
structure DStep (l : List ROper) (b : Array Nat) (till : Nat → Nat) (dn : List Nat) (i : Nat) (q : ROper) : Prop where
  new : i ∉ dn
  slots : ∀ s ∈ q.slots, ∀ j r, nth l j = some r → r.dst = some s → j ≠ i → (j ∈ dn → bit b i j = true) ∧ (j ∉ dn → bit b j i = true)
  late : ∀ j ∈ dn, isW l j = true → bit b i j = true
  early : q.op.writes = true → ∀ j ∈ dn, isW l j = false → till j ≤ nW l dn → bit b i j = true

structure DrawOK (E : Nat → Nat → Prop) (N : Nat) (l : List ROper) (b : Array Nat) (till : Nat → Nat) (os : List Nat) : Prop where
  all : ∀ i, i < N → i ∈ os
  bound : ∀ i ∈ os, i < N
  dist : ∀ i j q r, nth l i = some q → nth l j = some r → i ≠ j → ∀ d, q.dst = some d → r.dst ≠ some d
  back : ∀ dn i rest, os = dn ++ i :: rest → ∀ e, E i e → e ∈ dn
  anc : ∀ i, i < N → ∀ j, j < N → bit b i j = true → ∃ e, E i e ∧ (e = j ∨ bit b e j = true)
  steps : ∀ dn i rest, os = dn ++ i :: rest → ∀ q, nth l i = some q → DStep l b till dn i q

def dopsW (C : CW) : List (ROper × Nat) → Nat → List Pend → Env → Heap → (Env → Heap → Prop) → Prop
  | [], _, _, tm, h, Q => Q tm h
  | (o, till) :: l, k, ps, tm, h, Q => match wantedR tm o.guard with
    | true => match o.op.writes with
      | true => oneW C tm h o.op fun v h' => stable h' (k + 1) ps = true ∧ dopsW C l (k + 1) ps (putD tm o.dst v) h' Q
      | false => ∃ v h', aop tm h o.op = some (v, h') ∧ dopsW C l k (match o.op.reads && Nat.blt k till with | true => ⟨till, tm, o.op, v⟩ :: ps | false => ps) (putD tm o.dst v) h' Q
    | false => dopsW C l (match o.op.writes with | true => k + 1 | false => k) ps (putD tm o.dst .undef) h Q

/-- What a slot holds, where the operations of 'D' are done. -/
def LookIs (l : List ROper) (tm0 : Env) (val : Nat → AV) (D : Nat → Prop) (s : Nat) (x : AV) : Prop :=
  (∃ j q, D j ∧ nth l j = some q ∧ q.dst = some s ∧ x = val j) ∨ ((∀ j q, D j → nth l j = some q → q.dst ≠ some s) ∧ x = tm0.look s)

structure Pending (P : Program) (l : List ROper) (b : Array Nat) (till : Nat → Nat) (tm0 : Env) (val : Nat → AV) (aid : Nat → Option Nat) (h0 : Heap) (ps : List Pend) (ι : Inj) (h : Heap) (k : Nat) (dn : List Nat) (i : Nat) (q : ROper)
    (Di : List Nat) (tmc : Env) : Prop where
  sub : ∀ j ∈ Di, j ∈ dn
  new : i ∉ Di
  look : ∀ s ∈ q.slots, LookIs l tm0 val (· ∈ Di) s (tmc.look s)
  slots : ∀ s ∈ q.slots, ∀ j r, nth l j = some r → r.dst = some s → j ≠ i → (j ∈ Di → bit b i j = true) ∧ (j ∉ Di → bit b j i = true)
  off : wantedR tmc q.guard = false → val i = .undef
  pure : wantedR tmc q.guard = true → q.op.reads = false → q.op.allocs = false → ∃ z, aop tmc H00 q.op = some (val i, z)
  read : wantedR tmc q.guard = true → q.op.reads = true → aop tmc h q.op = some (val i, h) ∧ (k < till i → ⟨till i, tmc, q.op, val i⟩ ∈ ps)
  alloc : wantedR tmc q.guard = true → q.op.allocs = true → ∃ hi B, aop tmc hi q.op = some (val i, hi.push B) ∧ aid i = some hi.next ∧ h0.next ≤ hi.next ∧ hi.next < h.next ∧ ι hi.next = none ∧ h.get hi.next = some B

structure DInv (P : Program) (E : Nat → Nat → Prop) (N : Nat) (l : List ROper) (b : Array Nat) (till : Nat → Nat) (ι0 : Inj) (h0 : Heap) (w0 : World) (tm0 : Env) (a0 : Act)
    (dn : List Nat) (k : Nat) (ps : List Pend) (val : Nat → AV) (aid : Nat → Option Nat) (tm : Env) (h : Heap) (g : Nat → Prop) (ι : Inj) (a : Act) (w : World) : Prop where
  rel : Rel P ι h w
  ext : Ext ι0 h0 w0 ι h w
  size : a.tmps.size = a0.tmps.size
  defers : a.defers = a0.defers
  lt : ∀ i, g i → i < N
  sub : ∀ i, g i → i ∈ dn
  closed : ∀ i, g i → ∀ e, E i e → g e
  writers : ∀ i ∈ dn, isW l i = true → g i
  kn : k = nW l dn
  canon : ∀ s, LookIs l tm0 val (· ∈ dn) s (tm.look s)
  mach : ∃ tmS, TmR ι tmS a.tmps ∧ ∀ s, LookIs l tm0 val (g) s (tmS.look s)
  pend : ∀ i ∈ dn, ¬ g i → ∀ q, nth l i = some q → ∃ Di tmc, Pending P l b till tm0 val aid h0 ps ι h k dn i q Di tmc
  aids : ∀ i ∈ dn, ∀ x, aid i = some x → x < h.next
  aidd : ∀ i ∈ dn, ∀ j ∈ dn, i ≠ j → ∀ x, aid i = some x → aid j ≠ some x

theorem allM_nth {α β : Type} {f : α → Option β} : ∀ {L : List α} {m : List β} {i : Nat} {x : α}, allM f L = some m → L[i]? = some x → ∃ y, nth m i = some y ∧ f x = some y
  | [], _, i, x, _, hx => by simp at hx
  | z :: L, m, i, x, h, hx => by
    obtain ⟨y, m', h1, h2, rfl⟩ := allM_cons h
    cases i with
    | zero => simp at hx; subst hx; exact ⟨y, rfl, h1⟩
    | succ i => simp only [nth]; exact allM_nth h2 (by simpa using hx)
theorem allM_nth' {α β : Type} {f : α → Option β} : ∀ {L : List α} {m : List β} {i : Nat} {y : β}, allM f L = some m → nth m i = some y → ∃ x, L[i]? = some x ∧ f x = some y
  | [], m, i, y, h, hy => by rw [allM_nil h] at hy; simp [nth] at hy
  | z :: L, m, i, y, h, hy => by
    obtain ⟨y', m', h1, h2, rfl⟩ := allM_cons h
    cases i with
    | zero => simp only [nth] at hy; cases hy; exact ⟨z, rfl, h1⟩
    | succ i => simp only [nth] at hy; simpa using allM_nth' h2 hy

section
variable {P : Program} {E : Nat → Nat → Prop} {N : Nat} {l : List ROper} {b : Array Nat} {till : Nat → Nat} {os : List Nat} {ι0 : Inj} {h0 : Heap} {w0 : World} {tm0 : Env} {a0 : Act}
variable {dn : List Nat} {k : Nat} {ps : List Pend} {val : Nat → AV} {aid : Nat → Option Nat} {tm : Env} {h : Heap} {g : Nat → Prop} {ι : Inj} {a : Act} {w : World}

theorem LookIs.val_congr {D : Nat → Prop} {val' : Nat → AV} {s : Nat} {x : AV} (hl : LookIs l tm0 val D s x) (hv : ∀ j, D j → val' j = val j) : LookIs l tm0 val' D s x := by
  rcases hl with ⟨j, q, h1, h2, h3, h4⟩ | h1
  · exact .inl ⟨j, q, h1, h2, h3, by rw [hv j h1, h4]⟩
  · exact .inr h1

/-- Two pictures that hold the same operations of a slot. -/
theorem LookIs.unique (hd' : ∀ i j q r, nth l i = some q → nth l j = some r → i ≠ j → ∀ d, q.dst = some d → r.dst ≠ some d) {D F : Nat → Prop} {s : Nat} {x y : AV} (hx : LookIs l tm0 val D s x) (hy : LookIs l tm0 val F s y)
    (h1 : ∀ j q, nth l j = some q → q.dst = some s → (D j ↔ F j)) : x = y := by
  rcases hx with ⟨i, q, a1, a2, a3, rfl⟩ | ⟨a1, rfl⟩
  · rcases hy with ⟨j, r, b1, b2, b3, rfl⟩ | ⟨b1, rfl⟩
    · by_cases e : i = j
      · rw [e]
      · exact absurd b3 (hd' i j q r a2 b2 e s a3)
    · exact absurd a3 (b1 i q ((h1 i q a2 a3).1 a1) a2)
  · rcases hy with ⟨j, r, b1, b2, b3, rfl⟩ | ⟨b1, rfl⟩
    · exact absurd b3 (a1 j r ((h1 j r b2 b3).2 b1) b2)
    · rfl

theorem LookIs.put (_hd : ∀ i j q r, nth l i = some q → nth l j = some r → i ≠ j → ∀ d, q.dst = some d → r.dst ≠ some d) {D F : Nat → Prop} {i : Nat} {q : ROper} (hq : nth l i = some q) (hE : ∀ j, F j ↔ (D j ∨ j = i))
    {tm : Env} (hl : ∀ s, LookIs l tm0 val D s (tm.look s)) (s : Nat) : LookIs l tm0 val F s ((putD tm q.dst (val i)).look s) := by
  cases hdst : q.dst with
  | none =>
    show LookIs l tm0 val F s (tm.look s)
    rcases hl s with ⟨j, r, h1, h2, h3, h4⟩ | ⟨h1, h2⟩
    · exact .inl ⟨j, r, (hE j).2 (.inl h1), h2, h3, h4⟩
    · refine .inr ⟨fun j r hj hr => ?_, h2⟩
      rcases (hE j).1 hj with hj | rfl
      · exact h1 j r hj hr
      · rw [hq] at hr; cases hr; rw [hdst]; simp
  | some d =>
    show LookIs l tm0 val F s (Env.look (tm.put d (val i)) s)
    rw [Env.look_put]
    by_cases e : s = d
    · rw [if_pos e]
      exact .inl ⟨i, q, (hE i).2 (.inr rfl), hq, by rw [hdst, e], rfl⟩
    · rw [if_neg e]
      rcases hl s with ⟨j, r, h1, h2, h3, h4⟩ | ⟨h1, h2⟩
      · exact .inl ⟨j, r, (hE j).2 (.inl h1), h2, h3, h4⟩
      · refine .inr ⟨fun j r hj hr => ?_, h2⟩
        rcases (hE j).1 hj with hj | rfl
        · exact h1 j r hj hr
        · rw [hq] at hr; cases hr; rw [hdst]; intro e2; cases e2; exact e rfl

/-- The ancestors of what may come have come. -/
theorem anc_done (ok : DrawOK E N l b till os) (_hlt : ∀ i, g i → i < N) (hc : ∀ i, g i → ∀ e, E i e → g e) :
    ∀ (n : Nat) (dn rest : List Nat) (i : Nat), dn.length ≤ n → os = dn ++ i :: rest → (∀ e, E i e → g e) → ∀ j, j < N → bit b i j = true → g j := by
  intro n
  induction n with
  | zero =>
    intro dn rest i hn hos hr j hj hb
    obtain ⟨e, he, h1⟩ := ok.anc i (ok.bound i (by rw [hos]; simp)) j hj hb
    have := ok.back dn i rest hos e he
    have hd : dn = [] := List.eq_nil_of_length_eq_zero (by omega)
    rw [hd] at this; cases this
  | succ n ih =>
    intro dn rest i hn hos hr j hj hb
    obtain ⟨e, he, h1⟩ := ok.anc i (ok.bound i (by rw [hos]; simp)) j hj hb
    have hg := hr e he
    rcases h1 with h1 | h1
    · rw [← h1]; exact hg
    · have hm := ok.back dn i rest hos e he
      obtain ⟨d1, d2, hd⟩ := List.append_of_mem hm
      refine ih d1 (d2 ++ i :: rest) e ?_ (by rw [hos, hd]; simp) (hc e hg) j hj h1
      rw [hd] at hn
      simp at hn
      omega

theorem anc_ready (ok : DrawOK E N l b till os) (inv : DInv P E N l b till ι0 h0 w0 tm0 a0 dn k ps val aid tm h g ι a w) {i : Nat} (hi : i < N) (hr : ∀ e, E i e → g e) {j : Nat} (hj : j < N) (hb : bit b i j = true) : g j := by
  obtain ⟨d1, d2, hd⟩ := List.append_of_mem (ok.all i hi)
  exact anc_done ok inv.lt inv.closed d1.length d1 d2 i (Nat.le_refl _) hd hr j hj hb
theorem anc_listed (ok : DrawOK E N l b till os) (inv : DInv P E N l b till ι0 h0 w0 tm0 a0 dn k ps val aid tm h g ι a w) {i : Nat} (hi : g i) {j : Nat} (hj : j < N) (hb : bit b i j = true) : g j :=
  anc_ready ok inv (inv.lt i hi) (inv.closed i hi) hj hb

theorem Ext.none' {h' : Heap} {ι' : Inj} {w' : World} (e : Ext ι h w ι' h' w') {x : Nat} (hx : ι x = none) (hlt : x < h.next) : ι' x = none := by
  cases hn : ι' x with
  | none => rfl
  | some p => have := (e.fresh x p hn hx).1; omega

theorem Ext.grow (e : Ext ι0 h0 w0 ι h w) (B : AB) : Ext ι0 h0 w0 ι (h.push B) w where
  le := e.le
  fresh := e.fresh
  size := e.size
  next := Nat.le_succ_of_le e.next
  same := e.same
  habs := fun x hx hn => by
    have := e.next
    rw [Heap.get_push, if_neg (by omega)]
    exact e.habs x hx hn
  aside := e.aside

theorem Ext.place (e : Ext ι0 h0 w0 ι h w) {x n : Nat} (hx : ι x = none) (hlo : h0.next ≤ x) (obj : Obj) : Ext ι0 h0 w0 (ι.add x ⟨w.heap.size, n⟩) h (w.alloc obj) where
  le := e.le.trans (Inj.le_add hx)
  fresh := fun c p hc hn => by
    unfold Inj.add at hc
    split at hc
    · rename_i e2; subst e2; cases hc; exact ⟨hlo, .inl e.size⟩
    · exact e.fresh c p hc hn
  size := by rw [World.size_alloc]; have := e.size; omega
  next := e.next
  same := fun c hc hn => by
    rw [← e.same c hc hn]
    show (w.heap.push obj)[c]? = _
    have := e.size
    rw [Array.getElem?_push, if_neg (by omega)]
  habs := e.habs
  aside := ⟨e.aside.tape, e.aside.os, e.aside.output⟩

theorem Ext.drew' (e : Ext ι0 h0 w0 ι h w) : Ext ι0 h0 w0 ι h w.drew := e.trans (Ext.drew ι h w)

theorem ro_agree {tm tm' : Env} {q : ROper} (h : ∀ s ∈ q.slots, tm.look s = tm'.look s) : ∀ x ∈ q.op.ros, ro tm x = ro tm' x := by
  intro x hx
  cases x with
  | c v => rfl
  | t s => exact h s (by unfold ROper.slots; exact List.mem_append_left _ (List.mem_filterMap.2 ⟨.t s, hx, rfl⟩))
theorem guard_agree {tm tm' : Env} {q : ROper} (h : ∀ s ∈ q.slots, tm.look s = tm'.look s) : wantedR tm q.guard = wantedR tm' q.guard := by
  cases hg : q.guard with
  | none => rfl
  | some g =>
    obtain ⟨s, want⟩ := g
    have := h s (by unfold ROper.slots; rw [hg]; simp)
    simp only [wantedR, this]
theorem oneW_congr {C : CW} {tm tm' : Env} {op : ROp} {Q : AV → Heap → Prop} (hr : ∀ x ∈ op.ros, ro tm x = ro tm' x) (hq : oneW C tm h op Q) : oneW C tm' h op Q := by
  cases op
  case call f args =>
    simp only [oneW] at hq ⊢
    have h1 : ro tm f = ro tm' f := hr f (by simp [ROp.ros])
    have h2 : args.map (ro tm) = args.map (ro tm') := map_ro_congr fun x hx => hr x (by simp [ROp.ros, hx])
    rw [← h1, ← h2]; exact hq
  all_goals
    simp only [oneW] at hq ⊢
    obtain ⟨v, h', h1, h2⟩ := hq
    exact ⟨v, h', by rw [← aop_congr hr]; exact h1, h2⟩

theorem allocs_push {tm : Env} {op : ROp} (ha : op.allocs = true) {h h' : Heap} {v : AV} (hv : aop tm h op = some (v, h')) : ∃ B, h' = h.push B := by
  cases op <;> first | (simp [ROp.allocs] at ha; done) | skip
  case alloc z => simp only [aop] at hv; cases hv; exact ⟨_, rfl⟩
  case box x => simp only [aop] at hv; cases hv; exact ⟨_, rfl⟩
  case mkmap => simp only [aop] at hv; cases hv; exact ⟨_, rfl⟩
  case bslice n z p =>
    simp only [aop] at hv
    split at hv
    · cases hv; exact ⟨_, rfl⟩
    · cases hv
  case cvBytes x =>
    simp only [aop] at hv
    split at hv
    · cases hv; exact ⟨_, rfl⟩
    · cases hv
  case mksl a b c d e =>
    simp only [aop] at hv
    split at hv
    · split at hv
      · cases hv; exact ⟨_, rfl⟩
      · cases hv
    · cases hv

theorem stable_spec {h : Heap} {k : Nat} : ∀ {ps : List Pend}, stable h k ps = true → ∀ p ∈ ps, k ≤ p.till → ∃ h', aop p.tm h p.op = some (p.v, h')
  | [], _, p, hp, _ => by cases hp
  | q :: ps, hs, p, hp, hk => by
    simp only [stable, Bool.and_eq_true] at hs
    cases hp with
    | head =>
      have h1 := hs.1
      split at h1
      · rename_i hb; rw [Nat.blt_eq] at hb; omega
      · split at h1
        · rename_i v h' hv; rw [aveq_eq _ _ h1] at hv; exact ⟨h', hv⟩
        · cases h1
    | tail _ hm => exact stable_spec hs.2 p hm hk

theorem isW_of {i : Nat} {q : ROper} (hq : nth l i = some q) : isW l i = q.op.writes := by simp [isW, hq]
theorem nW_append (dn : List Nat) (i : Nat) : nW l (dn ++ [i]) = nW l dn + (if isW l i = true then 1 else 0) := by
  unfold nW
  rw [List.filter_append, List.length_append]
  by_cases h : isW l i = true <;> simp [h]

/-- Beside the order: one more that writes nothing is done. -/
theorem DInv.adv (ok : DrawOK E N l b till os) (inv : DInv P E N l b till ι0 h0 w0 tm0 a0 dn k ps val aid tm h g ι a w) {i : Nat} {rest : List Nat} (hos : os = dn ++ i :: rest) {q : ROper} (hq : nth l i = some q) (hw : q.op.writes = false)
    {C : CW} {R : List (ROper × Nat)} {Q : Env → Heap → Prop} (hd : dopsW C ((q, till i) :: R) k ps tm h Q) :
    ∃ ps' val' aid' tm' h', DInv P E N l b till ι0 h0 w0 tm0 a0 (dn ++ [i]) k ps' val' aid' tm' h' g ι a w ∧ dopsW C R k ps' tm' h' Q := by
  have st := ok.steps dn i rest hos q hq
  have hni : i ∉ dn := st.new
  have hngl : ¬ g i := fun e => hni (inv.sub i e)
  have hisw : isW l i = false := by rw [isW_of hq, hw]
  have hkn : k = nW l (dn ++ [i]) := by rw [nW_append, hisw]; simpa using inv.kn
  have hmem : ∀ j, j ∈ dn ++ [i] ↔ (j ∈ dn ∨ j = i) := fun j => by simp
  -- all but the operation itself
  have mk : ∀ (v : AV) (h' : Heap) (ps' : List Pend) (id : Option Nat), (∀ p ∈ ps, p ∈ ps') → Rel P ι h' w → Ext ι0 h0 w0 ι h' w → h.next ≤ h'.next →
      (∀ x, id = some x → x = h.next ∧ h.next < h'.next) →
      (∀ tmc op x, aop tmc h op = some (x, h) → op.reads = true → aop tmc h' op = some (x, h')) → (∀ x, x < h.next → h'.get x = h.get x) →
      (∀ val' : Nat → AV, val' i = v → (∀ j, j ∈ dn → val' j = val j) → ∀ aid' : Nat → Option Nat, aid' i = id → Pending P l b till tm0 val' aid' h0 ps' ι h' k (dn ++ [i]) i q dn tm) →
      ∃ val' aid', DInv P E N l b till ι0 h0 w0 tm0 a0 (dn ++ [i]) k ps' val' aid' (putD tm q.dst v) h' g ι a w := by
    intro v h' ps' id hps hrel hext hnx hid hread hget hpend
    have hval : ∀ j, j ∈ dn → (fun j => if j = i then v else val j) j = val j := by
      intro j hj
      have : j ≠ i := fun e => hni (e ▸ hj)
      simp [this]
    refine ⟨fun j => if j = i then v else val j, fun j => if j = i then id else aid j, ?_⟩
    exact {
      rel := hrel
      ext := hext
      size := inv.size
      defers := inv.defers
      lt := inv.lt
      sub := fun j hj => (hmem j).2 (.inl (inv.sub j hj))
      closed := inv.closed
      writers := by
        intro j hj hjw
        rcases (hmem j).1 hj with hj | rfl
        · exact inv.writers j hj hjw
        · rw [hisw] at hjw; cases hjw
      kn := hkn
      canon := by
        intro s
        have := LookIs.put (val := fun j => if j = i then v else val j) ok.dist hq (F := (· ∈ dn ++ [i])) (fun j => hmem j) (fun s => (inv.canon s).val_congr hval) s
        simpa using this
      mach := by
        obtain ⟨tmS, h1, h2⟩ := inv.mach
        exact ⟨tmS, h1, fun s => (h2 s).val_congr fun j hj => hval j (inv.sub j hj)⟩
      pend := by
        intro j hj hjl r hr
        rcases (hmem j).1 hj with hj | rfl
        · obtain ⟨Di, tmc, p⟩ := inv.pend j hj hjl r hr
          have hji : j ≠ i := fun e => hni (e ▸ hj)
          refine ⟨Di, tmc, ?_⟩
          exact {
            sub := fun x hx => (hmem x).2 (.inl (p.sub x hx))
            new := p.new
            look := fun s hs => (p.look s hs).val_congr fun x hx => hval x (p.sub x hx)
            slots := p.slots
            off := fun ho => by simp only [hji, if_false]; exact p.off ho
            pure := fun a1 a2 a3 => by simp only [hji, if_false]; exact p.pure a1 a2 a3
            read := fun a1 a2 => by
              simp only [hji, if_false]
              obtain ⟨b1, b2⟩ := p.read a1 a2
              exact ⟨hread _ _ _ b1 a2, fun hlt => hps _ (b2 hlt)⟩
            alloc := fun a1 a2 => by
              simp only [hji, if_false]
              obtain ⟨hi, B, b1, b2, b3, b4, b5, b6⟩ := p.alloc a1 a2
              exact ⟨hi, B, b1, b2, b3, by omega, b5, by rw [hget _ b4]; exact b6⟩ }
        · rw [hq] at hr; cases hr
          exact ⟨dn, tm, hpend _ (by simp) hval _ (by simp)⟩
      aids := by
        intro j hj x hx
        rcases (hmem j).1 hj with hj | rfl
        · have hji : j ≠ i := fun e => hni (e ▸ hj)
          simp only [hji, if_false] at hx
          have := inv.aids j hj x hx
          omega
        · simp only [if_true] at hx
          obtain ⟨e, h1⟩ := hid x hx
          omega
      aidd := by
        intro j mj j' mj' hne x hx hx'
        rcases (hmem j).1 mj with hj | hj
        · have hji : j ≠ i := fun e => hni (e ▸ hj)
          simp only [hji, if_false] at hx
          rcases (hmem j').1 mj' with hj' | hj'
          · have hji' : j' ≠ i := fun e => hni (e ▸ hj')
            simp only [hji', if_false] at hx'
            exact inv.aidd j hj j' hj' hne x hx hx'
          · simp only [hj', if_true] at hx'
            have := (hid x hx').1
            have := inv.aids j hj x hx
            omega
        · simp only [hj, if_true] at hx
          rcases (hmem j').1 mj' with hj' | hj'
          · have hji' : j' ≠ i := fun e => hni (e ▸ hj')
            simp only [hji', if_false] at hx'
            have := (hid x hx).1
            have := inv.aids j' hj' x hx'
            omega
          · exact hne (hj.trans hj'.symm) }
  have base : ∀ (val' : Nat → AV), (∀ j, j ∈ dn → val' j = val j) → (∀ s ∈ q.slots, LookIs l tm0 val' (· ∈ dn) s (tm.look s)) := fun val' hv s _ => (inv.canon s).val_congr hv
  simp only [dopsW] at hd
  cases hg : wantedR tm q.guard with
  | false =>
    rw [hg, hw] at hd
    simp only [] at hd
    obtain ⟨val', aid', h1⟩ := mk .undef h ps none (fun _ h => h) inv.rel inv.ext (Nat.le_refl _) (fun x hx => by cases hx) (fun _ _ _ hx _ => hx) (fun _ _ => rfl) (fun val' hvi hv aid' hai =>
      { sub := fun x hx => (hmem x).2 (.inl hx), new := hni, look := base val' hv, slots := st.slots, off := fun _ => hvi
        pure := fun a1 => by rw [hg] at a1; cases a1
        read := fun a1 => by rw [hg] at a1; cases a1
        alloc := fun a1 => by rw [hg] at a1; cases a1 })
    exact ⟨ps, val', aid', _, h, h1, hd⟩
  | true =>
    rw [hg, hw] at hd
    simp only [] at hd
    obtain ⟨v, h', hv, hd⟩ := hd
    cases hr : q.op.reads with
    | true =>
      obtain ⟨e, hpush⟩ := aop_read hr hv
      subst e
      have hna : q.op.allocs = false := by cases hop : q.op <;> rw [hop] at hr <;> simp [ROp.reads] at hr <;> rfl
      obtain ⟨val', aid', h1⟩ := mk v h' (match q.op.reads && Nat.blt k (till i) with | true => ⟨till i, tm, q.op, v⟩ :: ps | false => ps) none (fun p hp => by split; exact List.mem_cons_of_mem _ hp; exact hp) inv.rel inv.ext (Nat.le_refl _)
        (fun x hx => by cases hx) (fun _ _ _ hx _ => hx) (fun _ _ => rfl) (fun val' hvi hv' aid' hai =>
        { sub := fun x hx => (hmem x).2 (.inl hx), new := hni, look := base val' hv', slots := st.slots
          off := fun a1 => by rw [hg] at a1; cases a1
          pure := fun _ a2 => by rw [hr] at a2; cases a2
          read := fun _ _ => ⟨by rw [hvi]; exact hv, fun hlt => by
            have : Nat.blt k (till i) = true := by rw [Nat.blt_eq]; exact hlt
            simp only [hr, this, Bool.and_self, hvi]
            exact List.mem_cons_self⟩
          alloc := fun _ a2 => by rw [hna] at a2; cases a2 })
      exact ⟨_, val', aid', _, h', h1, hd⟩
    | false =>
      have hps : (match q.op.reads && Nat.blt k (till i) with | true => (⟨till i, tm, q.op, v⟩ : Pend) :: ps | false => ps) = ps := by rw [hr]; rfl
      rw [hps] at hd
      cases ha : q.op.allocs with
      | false =>
        rw [aop_pure hw hr ha] at hv
        cases hz : aop tm H00 q.op with
        | none => rw [hz] at hv; cases hv
        | some z =>
          obtain ⟨v2, h2⟩ := z
          rw [hz] at hv; cases hv
          obtain ⟨val', aid', h1⟩ := mk v h ps none (fun p hp => hp) inv.rel inv.ext (Nat.le_refl _)
            (fun x hx => by cases hx) (fun _ _ _ hx _ => hx) (fun _ _ => rfl) (fun val' hvi hv' aid' hai =>
            { sub := fun x hx => (hmem x).2 (.inl hx), new := hni, look := base val' hv', slots := st.slots
              off := fun a1 => by rw [hg] at a1; cases a1
              pure := fun _ _ _ => ⟨h2, by rw [hvi]; exact hz⟩
              read := fun _ a2 => by rw [hr] at a2; cases a2
              alloc := fun _ a2 => by rw [ha] at a2; cases a2 })
          exact ⟨_, val', aid', _, _, h1, hd⟩
      | true =>
        obtain ⟨B, e⟩ := allocs_push ha hv
        subst e
        obtain ⟨val', aid', h1⟩ := mk v (h.push B) ps (some h.next) (fun p hp => hp) (inv.rel.grow B) (inv.ext.grow B) (by simp)
          (fun x hx => by cases hx; exact ⟨rfl, by simp⟩) (fun tmc op x hx hro => (aop_read hro hx).2 inv.rel.wf B) (fun x hx => by rw [Heap.get_push, if_neg (by omega)]) (fun val' hvi hv' aid' hai =>
          { sub := fun x hx => (hmem x).2 (.inl hx), new := hni, look := base val' hv', slots := st.slots
            off := fun a1 => by rw [hg] at a1; cases a1
            pure := fun _ _ a3 => by rw [ha] at a3; cases a3
            read := fun _ a2 => by rw [hr] at a2; cases a2
            alloc := fun _ _ => ⟨h, B, by rw [hvi]; exact hv, hai, inv.ext.next, by simp, inv.rel.next_none, by simp⟩ })
        exact ⟨_, val', aid', _, _, h1, hd⟩
end
end Go.Ev

noncomputable section
namespace Go.Ev
open Go
section
variable {P : Program} {ops : Array Oper} {n : Nat} {E : Nat → Nat → Prop} {l : List ROper} {b : Array Nat} {till : Nat → Nat} {os : List Nat} {ι0 : Inj} {h0 : Heap} {w0 : World} {tm0 : Env} {a0 : Act}
variable {dn : List Nat} {k : Nat} {ps : List Pend} {val : Nat → AV} {aid : Nat → Option Nat} {tm : Env} {h : Heap} {g : Nat → Prop} {ι : Inj} {a : Act} {w : World}

theorem lt_of_nth (hl : allM (resOper P n ops) ops.toList = some l) {j : Nat} {q : ROper} (hq : nth l j = some q) : j < ops.size := by
  obtain ⟨x, hx, _⟩ := allM_nth' hl hq
  have := (List.getElem?_eq_some_iff.1 hx).1
  simpa using this

/-- One that writes nothing comes at its turn. -/
theorem DInv.exec (ok : DrawOK E ops.size l b till os) (hl : allM (resOper P n ops) ops.toList = some l) (hn : n ≤ a0.tmps.size) (inv : DInv P E ops.size l b till ι0 h0 w0 tm0 a0 dn k ps val aid tm h g ι a w)
    {i : Nat} {o : Oper} (ho : ops[i]? = some o) (hready : ∀ e, E i e → g e) (hngl : ¬ g i) (hi : i ∈ dn) {q : ROper} (hq : nth l i = some q) (hw : q.op.writes = false) :
    ∃ ι' a' w', DInv P E ops.size l b till ι0 h0 w0 tm0 a0 dn k ps val aid tm h (fun j => g j ∨ j = i) ι' a' w' ∧
      ∀ (fb : FB) rest kk cs, Steps P (lone (fb.at a (.inRegion ops (i :: rest) :: kk)) cs w) (lone (fb.at a' (.inRegion ops rest :: kk)) cs w') := by
  obtain ⟨Di, tmc, p⟩ := inv.pend i hi hngl q hq
  obtain ⟨tmS, hS, hSl⟩ := inv.mach
  have hil : i < ops.size := (Array.getElem?_eq_some_iff.1 ho).1
  have hro : resOper P n ops o = some q := by
    obtain ⟨y, h1, h2⟩ := allM_nth hl (i := i) (x := o) (by simpa using ho)
    rw [hq] at h1; cases h1; exact h2
  obtain ⟨hres, hdst, hdn, hg⟩ := resOper_spec hro
  have agree : ∀ s ∈ q.slots, tmS.look s = tmc.look s := by
    intro s hs
    refine LookIs.unique ok.dist (hSl s) (p.look s hs) ?_
    intro j r hr hrd
    by_cases e : j = i
    · rw [e]; exact ⟨fun x => absurd x hngl, fun x => absurd x p.new⟩
    · obtain ⟨h1, h2⟩ := p.slots s hs j r hr hrd e
      constructor
      · intro hj
        by_cases hD : j ∈ Di
        · exact hD
        · exact absurd (anc_listed ok inv hj (lt_of_nth hl hq) (h2 hD)) hngl
      · intro hD
        exact anc_ready ok inv hil hready (lt_of_nth hl hr) (h1 hD)
  have hwr := wanted_run (ops := ops) hS hg
  have hgw : wantedR tmS q.guard = wantedR tmc q.guard := guard_agree agree
  have hsz : ∀ d, o.dst = some d → d < a.tmps.size := fun d hd => by rw [inv.size]; exact Nat.lt_of_lt_of_le (hdn d hd) hn
  have hE : ∀ j, (fun j => g j ∨ j = i) j ↔ (g j ∨ j = i) := fun j => Iff.rfl
  -- all but the operation itself
  have mk : ∀ (ι' : Inj) (v' : Value) (w' : World), Le ι ι' → VR ι' (val i) v' → Rel P ι' h w' → Ext ι0 h0 w0 ι' h w' →
      (∀ j ∈ dn, ¬ g j → j ≠ i → ∀ x, aid j = some x → ι x = none → ι' x = none) →
      DInv P E ops.size l b till ι0 h0 w0 tm0 a0 dn k ps val aid tm h (fun j => g j ∨ j = i) ι' (a.put o.dst v') w' := by
    intro ι' v' w' hle hv hrel hext hnone
    exact {
      rel := hrel
      ext := hext
      size := by rw [Act.put_size]; exact inv.size
      defers := by rw [Act.put_defers']; exact inv.defers
      lt := fun j hj => by
        rcases hj with hj | hj
        · exact inv.lt j hj
        · rw [hj]; exact hil
      sub := by
        intro j hj
        rcases (hE j).1 hj with hj | rfl
        · exact inv.sub j hj
        · exact hi
      closed := by
        intro j hj e he
        rcases (hE j).1 hj with hj | rfl
        · exact (hE _).2 (.inl (inv.closed j hj e he))
        · exact (hE _).2 (.inl (hready e he))
      writers := fun j hj hjw => (hE j).2 (.inl (inv.writers j hj hjw))
      kn := inv.kn
      canon := inv.canon
      mach := ⟨putD tmS q.dst (val i), by rw [hdst]; exact (hS.mono hle).putD hsz hv, fun s => LookIs.put ok.dist hq hE hSl s⟩
      pend := by
        intro j hj hjl r hr
        have hjl' : ¬ g j := fun e => hjl ((hE j).2 (.inl e))
        have hji : j ≠ i := fun e => hjl ((hE j).2 (.inr e))
        obtain ⟨Di, tmc, p⟩ := inv.pend j hj hjl' r hr
        refine ⟨Di, tmc, { p with alloc := ?_ }⟩
        intro a1 a2
        obtain ⟨hi, B, b1, b2, b3, b4, b5, b6⟩ := p.alloc a1 a2
        exact ⟨hi, B, b1, b2, b3, b4, hnone j hj hjl' hji _ b2 b5, b6⟩
      aids := inv.aids
      aidd := inv.aidd }
  cases hgc : wantedR tmc q.guard with
  | false =>
    refine ⟨ι, a.put o.dst undef, w, mk ι undef w (.refl ι) (by rw [p.off hgc]; exact VR.undef ι) inv.rel inv.ext (fun _ _ _ _ _ _ hx => hx), fun fb rest kk cs => .one (mv_opSkip ho ?_)⟩
    rw [hwr, hgw, hgc]
  | true =>
    have hwant : Region.wanted o (yielded ops a.tmps) = true := by rw [hwr, hgw, hgc]
    -- operations that leave the abstract heap
    have stay : aop tmS h q.op = some (val i, h) → ∃ ι' a' w', DInv P E ops.size l b till ι0 h0 w0 tm0 a0 dn k ps val aid tm h (fun j => g j ∨ j = i) ι' a' w' ∧
        ∀ (fb : FB) rest kk cs, Steps P (lone (fb.at a (.inRegion ops (i :: rest) :: kk)) cs w) (lone (fb.at a' (.inRegion ops rest :: kk)) cs w') := by
      intro hv
      obtain ⟨v', w', hr, ι', h1, h2, h3⟩ := aop_sound o.op inv.rel hS rfl hres hv
      refine ⟨ι', a.put o.dst v', w', mk ι' v' w' h3.le h1 h2 (inv.ext.trans h3) (fun j hj _ _ x hx hn => Ext.none' h3 hn (inv.aids j hj x hx)), fun fb rest kk cs => mv_op ho hwant (resOp_defer hres) ?_⟩
      rcases hr with hr | ⟨hr, rfl⟩
      · exact .value hr
      · exact .skip hr
    have hrs := ro_agree agree
    cases hr : q.op.reads with
    | true => exact stay (by rw [aop_congr hrs]; exact (p.read hgc hr).1)
    | false =>
      cases ha : q.op.allocs with
      | false =>
        obtain ⟨z, hz⟩ := p.pure hgc hr ha
        refine stay ?_
        rw [aop_congr hrs, aop_pure hw hr ha, hz]
      | true =>
        obtain ⟨hi', B, b1, b2, b3, b4, b5, b6⟩ := p.alloc hgc ha
        rw [← aop_congr hrs] at b1
        obtain ⟨B', nn, m, obj, w₁, c1, c2, c3, c4, c5⟩ := alloc_ops (w := w) o.op ha hS rfl hres b1
        have hB : B' = B := by
          have h1 : (hi'.push B').get hi'.next = (hi'.push B).get hi'.next := by rw [← c1]
          simpa using h1
        subst hB
        have hrel1 : Rel P ι h w₁ := by rcases c2 with rfl | rfl; exact inv.rel; exact inv.rel.drew
        have hext1 : Ext ι0 h0 w0 ι h w₁ := by rcases c2 with rfl | rfl; exact inv.ext; exact inv.ext.drew'
        have hsize1 : w₁.heap.size = w.heap.size := by rcases c2 with rfl | rfl <;> rfl
        have hrel2 := hrel1.alloc_at (n := nn) (o := obj) b5 b4 b6 (fun ι' hle => c4 ι' hle _)
        have hext2 := hext1.place (n := nn) b5 b3 obj
        refine ⟨_, a.put o.dst (m w.heap.size), _, mk _ (m w.heap.size) _ (Inj.le_add b5) ?_ hrel2 hext2 ?_, fun fb rest kk cs => mv_op ho hwant (resOp_defer hres) (.value c3)⟩
        · refine c5 _ _ (Inj.le_add b5) ?_
          rw [← hsize1]; exact Inj.add_same _ _ _
        · intro j hj _ hji x hx hxn
          have hne : x ≠ hi'.next := by
            intro e; subst e
            exact inv.aidd j hj i hi hji _ hx b2
          unfold Inj.add
          rw [if_neg hne]; exact hxn

/-- The next writer comes at its turn. -/
theorem DInv.write (ok : DrawOK E ops.size l b till os) (hl : allM (resOper P n ops) ops.toList = some l) (hn : n ≤ a0.tmps.size) (inv : DInv P E ops.size l b till ι0 h0 w0 tm0 a0 dn k ps val aid tm h g ι a w)
    {i : Nat} {rest : List Nat} (hos : os = dn ++ i :: rest) {o : Oper} (ho : ops[i]? = some o) (hready : ∀ e, E i e → g e) (hngl : ¬ g i) {q : ROper} (hq : nth l i = some q) (hw : q.op.writes = true)
    {R : List (ROper × Nat)} {Q : Env → Heap → Prop} (hd : dopsW (CallW P) ((q, till i) :: R) k ps tm h Q) :
    ∃ val' tm' h' ι' a' w', DInv P E ops.size l b till ι0 h0 w0 tm0 a0 (dn ++ [i]) (k + 1) ps val' (fun j => if j = i then none else aid j) tm' h' (fun j => g j ∨ j = i) ι' a' w' ∧ dopsW (CallW P) R (k + 1) ps tm' h' Q ∧
      ∀ (fb : FB) rest kk cs, Steps P (lone (fb.at a (.inRegion ops (i :: rest) :: kk)) cs w) (lone (fb.at a' (.inRegion ops rest :: kk)) cs w') := by
  have st := ok.steps dn i rest hos q hq
  have hni : i ∉ dn := st.new
  obtain ⟨tmS, hS, hSl⟩ := inv.mach
  have hil : i < ops.size := (Array.getElem?_eq_some_iff.1 ho).1
  have hro : resOper P n ops o = some q := by
    obtain ⟨y, h1, h2⟩ := allM_nth hl (i := i) (x := o) (by simpa using ho)
    rw [hq] at h1; cases h1; exact h2
  obtain ⟨hres, hdst, hdn, hg⟩ := resOper_spec hro
  have hisw : isW l i = true := by rw [isW_of hq, hw]
  have hkn : k + 1 = nW l (dn ++ [i]) := by rw [nW_append, hisw, ← inv.kn]; rfl
  have hmem : ∀ j, j ∈ dn ++ [i] ↔ (j ∈ dn ∨ j = i) := fun j => by simp
  have agree : ∀ s ∈ q.slots, tm.look s = tmS.look s := by
    intro s hs
    refine LookIs.unique ok.dist (inv.canon s) (hSl s) ?_
    intro j r hr hrd
    by_cases e : j = i
    · rw [e]; exact ⟨fun x => absurd x hni, fun x => absurd x hngl⟩
    · obtain ⟨h1, h2⟩ := st.slots s hs j r hr hrd e
      exact ⟨fun hD => anc_ready ok inv hil hready (lt_of_nth hl hr) (h1 hD), fun hj => inv.sub j hj⟩
  have hwr := wanted_run (ops := ops) hS hg
  have hgw : wantedR tm q.guard = wantedR tmS q.guard := guard_agree agree
  have hsz : ∀ d, o.dst = some d → d < a.tmps.size := fun d hd => by rw [inv.size]; exact Nat.lt_of_lt_of_le (hdn d hd) hn
  have hE : ∀ j, (fun j => g j ∨ j = i) j ↔ (g j ∨ j = i) := fun j => Iff.rfl
  have pendw : ∀ j ∈ dn, ¬ g j → k < till j := by
    intro j hj hjl
    rcases Nat.lt_or_ge k (till j) with h1 | h1
    · exact h1
    · have hjw : isW l j = false := by
        cases hjw : isW l j with
        | false => rfl
        | true => exact absurd (inv.writers j hj hjw) hjl
      have := st.early hw j hj hjw (by rw [← inv.kn]; exact h1)
      exact absurd (anc_ready ok inv hil hready (ok.bound j (by rw [hos]; exact List.mem_append_left _ hj)) this) hjl
  have mk : ∀ (v : AV) (ι' : Inj) (h' : Heap) (v' : Value) (w' : World), VR ι' v v' → Rel P ι' h' w' → Ext ι h w ι' h' w' →
      (∀ j tmc op x, ⟨till j, tmc, op, x⟩ ∈ ps → k < till j → op.reads = true → aop tmc h op = some (x, h) → aop tmc h' op = some (x, h')) →
      DInv P E ops.size l b till ι0 h0 w0 tm0 a0 (dn ++ [i]) (k + 1) ps (fun j => if j = i then v else val j) (fun j => if j = i then none else aid j) (putD tm q.dst v) h' (fun j => g j ∨ j = i) ι' (a.put o.dst v') w' := by
    intro v ι' h' v' w' hv hrel hext hread
    have hval : ∀ j, j ∈ dn → (fun j => if j = i then v else val j) j = val j := by
      intro j hj
      have : j ≠ i := fun e => hni (e ▸ hj)
      simp [this]
    exact {
      rel := hrel
      ext := inv.ext.trans hext
      size := by rw [Act.put_size]; exact inv.size
      defers := by rw [Act.put_defers']; exact inv.defers
      lt := fun j hj => by
        rcases hj with hj | hj
        · exact inv.lt j hj
        · rw [hj]; exact hil
      sub := by
        intro j hj
        rcases (hE j).1 hj with hj | hj
        · exact (hmem j).2 (.inl (inv.sub j hj))
        · exact (hmem j).2 (.inr hj)
      closed := by
        intro j hj e he
        rcases (hE j).1 hj with hj | rfl
        · exact (hE _).2 (.inl (inv.closed j hj e he))
        · exact (hE _).2 (.inl (hready e he))
      writers := by
        intro j mj hjw
        rcases (hmem j).1 mj with hj | hj
        · exact (hE j).2 (.inl (inv.writers j hj hjw))
        · exact (hE j).2 (.inr hj)
      kn := hkn
      canon := by
        intro s
        have := LookIs.put (val := fun j => if j = i then v else val j) ok.dist hq (F := (· ∈ dn ++ [i])) (fun j => hmem j) (fun s => (inv.canon s).val_congr hval) s
        simpa using this
      mach := ⟨putD tmS q.dst v, by rw [hdst]; exact (hS.mono hext.le).putD hsz hv, fun s => by
        have := LookIs.put (val := fun j => if j = i then v else val j) ok.dist hq hE (fun s => (hSl s).val_congr fun j hj => hval j (inv.sub j hj)) s
        simpa using this⟩
      pend := by
        intro j mj hjl r hr
        have hjl' : ¬ g j := fun e => hjl ((hE j).2 (.inl e))
        have hji : j ≠ i := fun e => hjl ((hE j).2 (.inr e))
        have hj : j ∈ dn := ((hmem j).1 mj).resolve_right hji
        obtain ⟨Di, tmc, p⟩ := inv.pend j hj hjl' r hr
        have hlt := pendw j hj hjl'
        refine ⟨Di, tmc, ?_⟩
        exact {
          sub := fun x hx => (hmem x).2 (.inl (p.sub x hx))
          new := p.new
          look := fun s hs => (p.look s hs).val_congr fun x hx => hval x (p.sub x hx)
          slots := p.slots
          off := fun a1 => by simp only [hji, if_false]; exact p.off a1
          pure := fun a1 a2 a3 => by simp only [hji, if_false]; exact p.pure a1 a2 a3
          read := fun a1 a2 => by
            simp only [hji, if_false]
            obtain ⟨b1, b2⟩ := p.read a1 a2
            have := b2 hlt
            exact ⟨hread j _ _ _ this hlt a2 b1, fun _ => this⟩
          alloc := fun a1 a2 => by
            simp only [hji, if_false]
            obtain ⟨hi, B, b1, b2, b3, b4, b5, b6⟩ := p.alloc a1 a2
            exact ⟨hi, B, b1, b2, b3, Nat.lt_of_lt_of_le b4 hext.next, Ext.none' hext b5 b4, by rw [hext.habs _ b4 b5]; exact b6⟩ }
      aids := by
        intro j mj x hx
        by_cases hji : j = i
        · simp [hji] at hx
        · simp only [hji, if_false] at hx
          exact Nat.lt_of_lt_of_le (inv.aids j (((hmem j).1 mj).resolve_right hji) x hx) hext.next
      aidd := by
        intro j mj j' mj' hne x hx hx'
        by_cases hji : j = i
        · simp [hji] at hx
        · by_cases hji' : j' = i
          · simp [hji'] at hx'
          · simp only [hji, if_false] at hx
            simp only [hji', if_false] at hx'
            exact inv.aidd j (((hmem j).1 mj).resolve_right hji) j' (((hmem j').1 mj').resolve_right hji') hne x hx hx' }
  simp only [dopsW] at hd
  cases hgc : wantedR tm q.guard with
  | false =>
    rw [hgc, hw] at hd
    simp only [] at hd
    refine ⟨_, _, h, ι, a.put o.dst undef, w, mk .undef ι h undef w (VR.undef ι) inv.rel (.refl ι h w) (fun _ _ _ _ _ _ _ hx => hx), hd, fun fb rest kk cs => .one (mv_opSkip ho ?_)⟩
    rw [hwr, ← hgw, hgc]
  | true =>
    rw [hgc, hw] at hd
    simp only [] at hd
    obtain ⟨v, h', ι', v', w', ⟨q0, q1⟩, q2, q3, q4, q5⟩ := one_run inv.rel hS hres (oneW_congr (ro_agree agree) hd)
    refine ⟨_, _, h', ι', a.put o.dst v', w', mk v ι' h' v' w' q2 q3 q4 ?_, q1, fun fb rest kk cs => mv_op ho (by rw [hwr, ← hgw, hgc]) (resOp_defer hres) q5⟩
    intro j tmc op x hp hlt hrd _
    obtain ⟨h2, hv2⟩ := stable_spec q0 _ hp hlt
    have e := (aop_read hrd hv2).1
    rw [e] at hv2
    exact hv2
end
end Go.Ev

noncomputable section
namespace Go.Ev
open Go
section
variable {P : Program} {ops : Array Oper} {n : Nat} {E : Nat → Nat → Prop} {l : List ROper} {b : Array Nat} {till : Nat → Nat} {os : List Nat} {ι0 : Inj} {h0 : Heap} {w0 : World} {tm0 : Env} {a0 : Act}

theorem catchUp {N : Nat} (ok : DrawOK E N l b till os) {C : CW} {Q : Env → Heap → Prop} {k : Nat} {g : Nat → Prop} {ι : Inj} {a : Act} {w : World} : ∀ (rest : List Nat) (dn : List Nat) (R : List (ROper × Nat)) (ps : List Pend) (val : Nat → AV) (aid : Nat → Option Nat) (tm : Env) (h : Heap),
    os = dn ++ rest → allM (drawItem l till) rest = some R → DInv P E N l b till ι0 h0 w0 tm0 a0 dn k ps val aid tm h g ι a w → dopsW C R k ps tm h Q →
    ∃ dn' rest' R' ps' val' aid' tm' h', os = dn' ++ rest' ∧ allM (drawItem l till) rest' = some R' ∧ DInv P E N l b till ι0 h0 w0 tm0 a0 dn' k ps' val' aid' tm' h' g ι a w ∧ dopsW C R' k ps' tm' h' Q ∧
      (rest' = [] ∨ ∃ i r, rest' = i :: r ∧ isW l i = true)
  | [], dn, R, ps, val, aid, tm, h, hos, hR, inv, hd => ⟨dn, [], R, ps, val, aid, tm, h, hos, hR, inv, hd, .inl rfl⟩
  | i :: rest, dn, R, ps, val, aid, tm, h, hos, hR, inv, hd => by
    cases hw : isW l i with
    | true => exact ⟨dn, i :: rest, R, ps, val, aid, tm, h, hos, hR, inv, hd, .inr ⟨i, rest, rfl, hw⟩⟩
    | false =>
      obtain ⟨x, R', hx, hR', rfl⟩ := allM_cons hR
      cases hq : nth l i with
      | none => simp [drawItem, hq] at hx
      | some q =>
        simp only [drawItem, hq] at hx
        cases hx
        obtain ⟨ps', val', aid', tm', h', h1, h2⟩ := inv.adv ok hos hq (by rw [← isW_of hq]; exact hw) hd
        exact catchUp ok rest (dn ++ [i]) R' ps' val' aid' tm' h' (by rw [hos]; simp) hR' h1 h2


/-- An order that holds the edges. 'g': what has come. -/
def Valid (E : Nat → Nat → Prop) (N : Nat) : List Nat → (Nat → Prop) → Prop
  | [], g => ∀ i, i < N → g i
  | i :: L, g => i < N ∧ ¬ g i ∧ (∀ e, E i e → g e) ∧ Valid E N L (fun j => g j ∨ j = i)

theorem draw_go (ok : DrawOK E ops.size l b till os) (hl : allM (resOper P n ops) ops.toList = some l) (hn : n ≤ a0.tmps.size) {Q : Env → Heap → Prop} : ∀ (L : List Nat) (g : Nat → Prop) (dn : List Nat) (k : Nat) (rest : List Nat) (R : List (ROper × Nat)) (ps : List Pend) (val : Nat → AV) (aid : Nat → Option Nat) (tm : Env) (h : Heap) (ι : Inj) (a : Act) (w : World),
    Valid E ops.size L g → os = dn ++ rest → allM (drawItem l till) rest = some R → DInv P E ops.size l b till ι0 h0 w0 tm0 a0 dn k ps val aid tm h g ι a w → dopsW (CallW P) R k ps tm h Q →
    (rest = [] ∨ ∃ i r, rest = i :: r ∧ isW l i = true) →
    RegTo P ι0 h0 w0 a0 Q fun a' w' => ∀ (fb : FB) kk cs, Steps P (lone (fb.at a (.inRegion ops L :: kk)) cs w) (lone (fb.at a' kk) cs w') := by
  intro L
  induction L with
  | nil =>
    intro g dn k rest R ps val aid tm h ι a w hall hos hR inv hd hrest
    have hnil : rest = [] := by
      rcases hrest with h1 | ⟨i, r, h1, h2⟩
      · exact h1
      · exfalso
        cases hq : nth l i with
        | none => simp [isW, hq] at h2
        | some q =>
          have st := ok.steps dn i r (by rw [hos, h1]) q hq
          exact st.new (inv.sub i (hall i (lt_of_nth hl hq)))
    subst hnil
    have := allM_nil hR
    subst this
    obtain ⟨tmS, hS, hSl⟩ := inv.mach
    refine ⟨tm, h, ι, a, w, hd, inv.rel, ?_, inv.size, inv.defers, inv.ext, fun fb kk cs => .one mv_regionEnd⟩
    intro s
    have : tm.look s = tmS.look s := LookIs.unique ok.dist (inv.canon s) (hSl s) (fun j r hr _ => ⟨fun _ => hall j (lt_of_nth hl hr), fun hj => inv.sub j hj⟩)
    rw [this]; exact hS s
  | cons i L ih =>
    intro g dn k rest R ps val aid tm h ι a w hv hos hR inv hd hrest
    obtain ⟨hlt, hngl, hready, hvL⟩ := hv
    obtain ⟨o, ho⟩ : ∃ o, ops[i]? = some o := ⟨_, Array.getElem?_eq_getElem hlt⟩
    obtain ⟨q, hq, hro⟩ := allM_nth hl (i := i) (x := o) (by simpa using ho)
    cases hw : q.op.writes with
    | false =>
      have hdn : i ∈ dn := by
        rcases hrest with h1 | ⟨j, r, h1, h2⟩
        · subst h1
          have := ok.all i hlt
          rw [hos] at this
          simpa using this
        · by_cases hd1 : i ∈ dn
          · exact hd1
          · exfalso
            have h3 := ok.all i hlt
            rw [hos, h1] at h3
            have h4 : i ∈ r := by
              rcases List.mem_append.1 h3 with h5 | h5
              · exact absurd h5 hd1
              · rcases List.mem_cons.1 h5 with h6 | h6
                · subst h6; rw [isW_of hq, hw] at h2; cases h2
                · exact h6
            obtain ⟨r1, r2, h5⟩ := List.append_of_mem h4
            have st := ok.steps (dn ++ j :: r1) i r2 (by rw [hos, h1, h5]; simp) q hq
            have h6 := st.late j (by simp) h2
            cases hqj : nth l j with
            | none => simp [isW, hqj] at h2
            | some qj =>
              have hglj := anc_ready ok inv hlt hready (lt_of_nth hl hqj) h6
              have st2 := ok.steps dn j r (by rw [hos, h1]) qj hqj
              exact st2.new (inv.sub j hglj)
      obtain ⟨ι', a', w', inv', hs⟩ := inv.exec ok hl hn ho hready hngl hdn hq hw
      obtain ⟨tm2, h2, ι2, a2, w2, z1, z2, z3, z4, z5, z6, z7⟩ := ih _ dn k rest R ps val aid tm h ι' a' w' hvL hos hR inv' hd hrest
      exact ⟨tm2, h2, ι2, a2, w2, z1, z2, z3, z4, z5, z6, fun fb kk cs => (hs fb _ kk cs).trans (z7 fb kk cs)⟩
    | true =>
      have hisw : isW l i = true := by rw [isW_of hq, hw]
      have hdn : i ∉ dn := fun e => hngl (inv.writers i e hisw)
      obtain ⟨r, hrest'⟩ : ∃ r, rest = i :: r := by
        have h3 := ok.all i hlt
        rw [hos] at h3
        rcases List.mem_append.1 h3 with h5 | h5
        · exact absurd h5 hdn
        · rcases hrest with h1 | ⟨j, r, h1, h2⟩
          · rw [h1] at h5; cases h5
          · rw [h1] at h5
            rcases List.mem_cons.1 h5 with h6 | h6
            · exact ⟨r, by rw [h1, h6]⟩
            · exfalso
              obtain ⟨r1, r2, h5⟩ := List.append_of_mem h6
              have st := ok.steps (dn ++ j :: r1) i r2 (by rw [hos, h1, h5]; simp) q hq
              have h7 := st.late j (by simp) h2
              cases hqj : nth l j with
              | none => simp [isW, hqj] at h2
              | some qj =>
                have hglj := anc_ready ok inv hlt hready (lt_of_nth hl hqj) h7
                have st2 := ok.steps dn j r (by rw [hos, h1]) qj hqj
                exact st2.new (inv.sub j hglj)
      subst hrest'
      obtain ⟨x, R', hx, hR', rfl⟩ := allM_cons hR
      simp only [drawItem, hq] at hx
      cases hx
      obtain ⟨val', tm', h', ι', a', w', inv', hd', hs⟩ := inv.write ok hl hn hos ho hready hngl hq hw hd
      obtain ⟨dn2, rest2, R2, ps2, val2, aid2, tm2, h2, c1, c2, c3, c4, c5⟩ := catchUp ok r (dn ++ [i]) R' ps val' _ tm' h' (by rw [hos]; simp) hR' inv' hd'
      obtain ⟨tm2, h2, ι2, a2, w2, z1, z2, z3, z4, z5, z6, z7⟩ := ih _ dn2 (k + 1) rest2 R2 ps2 val2 aid2 tm2 h2 ι' a' w' hvL c1 c2 c3 c4 c5
      exact ⟨tm2, h2, ι2, a2, w2, z1, z2, z3, z4, z5, z6, fun fb kk cs => (hs fb _ kk cs).trans (z7 fb kk cs)⟩

/-! ### What is drawn -/
def gl (listed : Array Bool) (i : Nat) : Prop := listed.getD i false = true
def TextE (ops : Array Oper) (i e : Nat) : Prop := ∃ o, ops[i]? = some o ∧ ∃ d ∈ o.after, Region.binds .any d = true ∧ d.on = e
def TextX (ops : Array Oper) (x : Option (Nat × Nat)) (i e : Nat) : Prop := TextE ops i e ∨ x = some (i, e)

theorem Valid.congr {N : Nat} : ∀ {L : List Nat} {g g' : Nat → Prop}, Valid E N L g → (∀ j, g j ↔ g' j) → Valid E N L g'
  | [], g, g', h, e => fun i hi => (e i).1 (h i hi)
  | i :: L, g, g', h, e => ⟨h.1, fun x => h.2.1 ((e i).2 x), fun y hy => (e y).1 (h.2.2.1 y hy), h.2.2.2.congr fun j => by rw [e j]⟩

def unl (N : Nat) (listed : Array Bool) : List Nat := (List.range N).filter fun i => !listed.getD i true

theorem unl_lt {N : Nat} {listed : Array Bool} {i : Nat} (hi : i < N) (hs : listed.size = N) (hn : listed.getD i true = false) : (unl N (listed.setIfInBounds i true)).length < (unl N listed).length := by
  have e : unl N (listed.setIfInBounds i true) = (unl N listed).filter fun j => !(listed.setIfInBounds i true).getD j true := by
    unfold unl
    rw [List.filter_filter]
    apply List.filter_congr
    intro j _
    by_cases hji : i = j
    · subst hji
      have : i < listed.size := by omega
      simp [Array.getD_eq_getD_getElem?, this]
    · simp [Array.getD_eq_getD_getElem?, Array.getElem?_setIfInBounds_ne hji]
  rw [e, List.length_filter_lt_length_iff_exists]
  refine ⟨i, List.mem_filter.2 ⟨List.mem_range.2 hi, by rw [hn]; rfl⟩, ?_⟩
  have : i < listed.size := by omega
  simp [Array.getD_eq_getD_getElem?, this]

theorem gl_of {listed : Array Bool} {i : Nat} (hi : i < listed.size) : listed.getD i true = listed.getD i false := by
  simp [Array.getD_eq_getD_getElem?, Array.getElem?_eq_getElem hi]

theorem go_step (md : Region.Mode) (ops : Array Oper) (fuel t : Nat) (listed : Array Bool) : Region.linearise.go md ops (fuel + 1) t listed [] =
    match (Region.ready md ops listed)[t % (Region.ready md ops listed).length]? with
    | some i => i :: Region.linearise.go md ops fuel (t / (Region.ready md ops listed).length) (listed.setIfInBounds i true) []
    | none => [] := by
  simp only [Region.linearise.go]
  change (match (Region.ready md ops listed)[t % (Region.ready md ops listed).length]? with
      | some i => Region.linearise.go md ops fuel (t / (Region.ready md ops listed).length) (listed.setIfInBounds i true) [i]
      | none => [].reverse) = _
  cases (Region.ready md ops listed)[t % (Region.ready md ops listed).length]? with
  | none => rfl
  | some i => simp only []; rw [linearise_go_acc]; simp


theorem gl_set {listed : Array Bool} {i j : Nat} (hi : i < listed.size) : gl (listed.setIfInBounds i true) j ↔ (gl listed j ∨ j = i) := by
  unfold gl
  by_cases e : i = j
  · subst e; simp [Array.getD_eq_getD_getElem?, hi]
  · have : j ≠ i := fun h => e h.symm
    simp [Array.getD_eq_getD_getElem?, Array.getElem?_setIfInBounds_ne e, this]

/-- What is drawn holds the text's edges. -/
theorem linearise_valid (hall : ∀ i, i < ops.size → i ∈ os) (hback : ∀ dn i rest, os = dn ++ i :: rest → ∀ e, TextE ops i e → e ∈ dn) (hb : ∀ i ∈ os, i < ops.size) : ∀ (fuel t : Nat) (listed : Array Bool), listed.size = ops.size → (unl ops.size listed).length ≤ fuel →
    Valid (TextE ops) ops.size (Region.linearise.go .any ops fuel t listed []) (gl listed) := by
  intro fuel
  induction fuel with
  | zero =>
    intro t listed hs hu i hi
    have h1 : unl ops.size listed = [] := List.eq_nil_of_length_eq_zero (by omega)
    unfold unl at h1
    rw [List.filter_eq_nil_iff] at h1
    have := h1 i (List.mem_range.2 hi)
    rw [gl_of (by omega)] at this
    simpa [gl] using this
  | succ fuel ih =>
    intro t listed hs hu
    rw [go_step]
    cases hi : (Region.ready .any ops listed)[t % (Region.ready .any ops listed).length]? with
    | none =>
      have hnil : Region.ready .any ops listed = [] := by
        cases hr : Region.ready .any ops listed with
        | nil => rfl
        | cons x xs =>
          rw [hr] at hi
          have hlt : t % (x :: xs).length < (x :: xs).length := Nat.mod_lt _ (by simp)
          simp at hi
          simp at hlt
          omega
      have key : ∀ (n : Nat) (dn rest : List Nat), dn.length ≤ n → os = dn ++ rest → ∀ i ∈ dn, gl listed i := by
        intro n
        induction n with
        | zero =>
          intro dn rest hn _ i hi
          have hd : dn = [] := List.eq_nil_of_length_eq_zero (by omega)
          rw [hd] at hi; cases hi
        | succ n ih2 =>
          intro dn rest hn hos i hi
          obtain ⟨d1, d2, hd⟩ := List.append_of_mem hi
          cases hg : listed.getD i false with
          | true => exact hg
          | false =>
            exfalso
            have hlt : i < ops.size := hb i (by rw [hos, hd]; simp)
            obtain ⟨o, ho⟩ : ∃ o, ops[i]? = some o := ⟨_, Array.getElem?_eq_getElem hlt⟩
            have hl1 : d1.length ≤ n := by rw [hd] at hn; simp at hn; omega
            have : i ∈ Region.ready .any ops listed := mem_ready.2 ⟨by rw [gl_of (by omega)]; exact hg, o, ho, fun e he hbi =>
              ih2 d1 (i :: (d2 ++ rest)) hl1 (by rw [hos, hd]; simp) e.on (hback d1 i (d2 ++ rest) (by rw [hos, hd]; simp) e.on ⟨o, ho, e, he, hbi, rfl⟩)⟩
            rw [hnil] at this; cases this
      intro i hlt
      exact key os.length os [] (Nat.le_refl _) (by simp) i (hall i hlt)
    | some i =>
      have hmem := List.mem_of_getElem? hi
      obtain ⟨hun, o, ho, hready⟩ := mem_ready.1 hmem
      have hlt : i < ops.size := (Array.getElem?_eq_some_iff.1 ho).1
      have hu' : (unl ops.size (listed.setIfInBounds i true)).length ≤ fuel := by
        have := unl_lt hlt hs hun
        omega
      refine ⟨hlt, ?_, ?_, (ih _ _ (by simp [hs]) hu').congr fun j => gl_set (by omega)⟩
      · unfold gl
        rw [← gl_of (by omega), hun]; simp
      · rintro e ⟨o', ho', d, hd, hbi, rfl⟩
        rw [ho] at ho'; cases ho'
        exact hready d hd hbi

theorem Valid.had {N s t : Nat} : ∀ {L : List Nat} {g : Nat → Prop}, Valid (TextE ops) N L g → g s → Valid (TextX ops (some (t, s))) N L g
  | [], _, h, _ => h
  | i :: L, g, h, hs => ⟨h.1, h.2.1, fun e he => by
      rcases he with he | he
      · exact h.2.2.1 e he
      · cases he; exact hs, h.2.2.2.had (.inl hs)⟩

/-- Of two, one comes first. -/
theorem Valid.split {N s t : Nat} (hst : s ≠ t) (hsN : s < N) : ∀ {L : List Nat} {g : Nat → Prop}, Valid (TextE ops) N L g → ¬ g s → ¬ g t → Valid (TextX ops (some (t, s))) N L g ∨ Valid (TextX ops (some (s, t))) N L g
  | [], g, h, hs, _ => absurd (h s hsN) hs
  | i :: L, g, h, hs, ht => by
    by_cases h1 : i = s
    · left
      subst h1
      refine ⟨h.1, h.2.1, fun e he => ?_, h.2.2.2.had (.inr rfl)⟩
      rcases he with he | he
      · exact h.2.2.1 e he
      · cases he; exact absurd rfl hst
    · by_cases h2 : i = t
      · right
        subst h2
        refine ⟨h.1, h.2.1, fun e he => ?_, h.2.2.2.had (.inr rfl)⟩
        rcases he with he | he
        · exact h.2.2.1 e he
        · cases he; exact absurd rfl hst
      · have hs' : ¬ (g s ∨ s = i) := fun x => x.elim hs fun e => h1 e.symm
        have ht' : ¬ (g t ∨ t = i) := fun x => x.elim ht fun e => h2 e.symm
        rcases h.2.2.2.split hst hsN hs' ht' with h3 | h3
        · left
          refine ⟨h.1, h.2.1, fun e he => ?_, h3⟩
          rcases he with he | he
          · exact h.2.2.1 e he
          · cases he; exact absurd rfl h2
        · right
          refine ⟨h.1, h.2.1, fun e he => ?_, h3⟩
          rcases he with he | he
          · exact h.2.2.1 e he
          · cases he; exact absurd rfl h1

/-- A region in an order that holds the edges. -/
theorem draw_list (ok : DrawOK E ops.size l b till os) (hl : allM (resOper P n ops) ops.toList = some l) {m : List (ROper × Nat)} (hm : allM (drawItem l till) os = some m) {tm : Env} {h : Heap} {Q : Env → Heap → Prop}
    (hd : dopsW (CallW P) m 0 [] tm h Q) {ι : Inj} {a : Act} {w : World} (r : Rel P ι h w) (ht : TmR ι tm a.tmps) (hn : n ≤ a.tmps.size) {L : List Nat} (hv : Valid E ops.size L fun _ => False) :
    RegTo P ι h w a Q fun a' w' => ∀ (fb : FB) kk cs, Steps P (lone (fb.at a (.inRegion ops L :: kk)) cs w.drew) (lone (fb.at a' kk) cs w') := by
  have inv : DInv P E ops.size l b till ι h w tm a [] 0 [] (fun _ => .undef) (fun _ => none) tm h (fun _ => False) ι a w.drew := {
    rel := r.drew
    ext := Ext.drew ι h w
    size := rfl
    defers := rfl
    lt := fun i hi => hi.elim
    sub := fun i hi => hi.elim
    closed := fun i hi => hi.elim
    writers := fun i hi => by cases hi
    kn := rfl
    canon := fun s => .inr ⟨(fun j q hj => by cases hj), rfl⟩
    mach := ⟨tm, ht, fun s => .inr ⟨fun j q hj => hj.elim, rfl⟩⟩
    pend := fun i hi => by cases hi
    aids := fun i hi => by cases hi
    aidd := fun i hi => by cases hi }
  obtain ⟨dn2, rest2, R2, ps2, val2, aid2, tm2, h2, c1, c2, c3, c4, c5⟩ := catchUp ok os [] m [] _ _ tm h rfl hm inv hd
  exact draw_go ok hl hn L _ dn2 0 rest2 R2 ps2 val2 aid2 tm2 h2 ι a w.drew hv c1 c2 c3 c4 c5

theorem drawn_valid (hall : ∀ i, i < ops.size → i ∈ os) (hback : ∀ dn i rest, os = dn ++ i :: rest → ∀ e, TextE ops i e → e ∈ dn) (hb : ∀ i ∈ os, i < ops.size) (t : Nat) : Valid (TextE ops) ops.size (Region.linearise .any ops t) fun _ => False := by
  refine (linearise_valid hall hback hb ops.size t (Array.replicate ops.size false) (by simp) (by unfold unl; exact Nat.le_trans (List.length_filter_le _ _) (by simp))).congr ?_
  intro j
  unfold gl
  by_cases hj : j < ops.size <;> simp [Array.getD_eq_getD_getElem?, hj]

/-- A region whose order is drawn. -/
theorem draw_run (ok : DrawOK (TextE ops) ops.size l b till os) (hl : allM (resOper P n ops) ops.toList = some l) (hmix : P.follows .mixedOrders = true) {m : List (ROper × Nat)} (hm : allM (drawItem l till) os = some m) {id : Nat} {tm : Env} {h : Heap} {Q : Env → Heap → Prop}
    (hd : dopsW (CallW P) m 0 [] tm h Q) {ι : Inj} {a : Act} {w : World} (r : Rel P ι h w) (ht : TmR ι tm a.tmps) (hn : n ≤ a.tmps.size) (fb : FB) :
    RegTo P ι h w a Q fun a' w' => ∀ kk cs, Steps P (lone (fb.at a (.code (.region id ops true) :: kk)) cs w) (lone (fb.at a' kk) cs w') := by
  obtain ⟨tm2, h2, ι2, a2, w2, z1, z2, z3, z4, z5, z6, z7⟩ := draw_list ok hl hm hd r ht hn (drawn_valid ok.all ok.back ok.bound (w.tape w.drawn (.order fb.fn id)))
  refine ⟨tm2, h2, ι2, a2, w2, z1, z2, z3, z4, z5, z6, fun kk cs => .head mv_draw ?_⟩
  have := z7 fb kk cs
  simp only [Region.schedule, hmix, Bool.true_or, if_true]
  exact this
end
end Go.Ev

noncomputable section
namespace Go.Ev
open Go

theorem nth_eq' {α : Type} : ∀ (l : List α) (i : Nat), nth l i = l[i]?
  | [], i => by simp [nth]
  | a :: l, 0 => rfl
  | a :: l, i + 1 => by simp only [nth]; rw [nth_eq' l i]; simp

theorem mem_zip {l : List ROper} {j : Nat} {r : ROper} (h : nth l j = some r) : (r, j) ∈ l.zipIdx := by
  rw [nth_eq'] at h
  rw [List.mem_zipIdx_iff_getElem?]; simpa using h

theorem stepsB_spec {l : List ROper} {lz : List (ROper × Nat)} {b : Array Nat} {till : Nat → Nat} : ∀ {os dn : List Nat}, stepsB l lz b till dn os = true → ∀ d1 i rest, os = d1 ++ i :: rest → stepB l lz b till (dn ++ d1) i = true
  | [], dn, h, d1, i, rest, e => by cases d1 <;> cases e
  | x :: os, dn, h, d1, i, rest, e => by
    simp only [stepsB, Bool.and_eq_true] at h
    cases d1 with
    | nil => simp at e; rw [← e.1]; simpa using h.1
    | cons y d1 =>
      simp at e
      have := stepsB_spec h.2 d1 i rest e.2
      rw [← e.1]
      simpa using this

theorem backB_spec {ops : Array Oper} {x : Option (Nat × Nat)} : ∀ {os dn : List Nat}, backB ops x dn os = true → ∀ d1 i rest, os = d1 ++ i :: rest → ∀ e, TextX ops x i e → e ∈ dn ++ d1
  | [], dn, h, d1, i, rest, e, _, _ => by cases d1 <;> cases e
  | y :: os, dn, h, d1, i, rest, e, f, hf => by
    simp only [backB, Bool.and_eq_true] at h
    cases d1 with
    | nil =>
      simp at e
      obtain ⟨e1, e2⟩ := e
      subst e1
      have h1 := h.1
      simp only [List.append_nil]
      rcases hf with ⟨o, ho, d, hd, hb, rfl⟩ | hf
      · rw [ho] at h1
        simp only [Bool.and_eq_true] at h1
        have := List.all_eq_true.1 h1.1 d (by simpa using hd)
        simp only [hb, Bool.not_true, Bool.false_or] at this
        simpa using this
      · subst hf
        split at h1
        · simp only [Bool.and_eq_true, Nat.beq_refl, Bool.not_true, Bool.false_or] at h1
          simpa using h1.2
        · cases h1
    | cons z d1 =>
      simp at e
      have := backB_spec h.2 d1 i rest e.2 f hf
      rw [← e.1]
      simpa using this

theorem drawB_ok {ops : Array Oper} {x : Option (Nat × Nat)} {l : List ROper} {b : Array Nat} {till : Nat → Nat} {os : List Nat} (h : drawB ops x l b till os = true) : DrawOK (TextX ops x) ops.size l b till os := by
  unfold drawB at h
  simp only [Bool.and_eq_true] at h
  obtain ⟨⟨⟨⟨⟨h1, h2⟩, h3⟩, h4⟩, h4'⟩, h5⟩ := h
  constructor
  · intro i hi
    have := List.all_eq_true.1 h1 i (List.mem_range.2 hi)
    simpa using this
  · intro i hi
    have := List.all_eq_true.1 h2 i hi
    rw [Nat.blt_eq] at this; exact this
  · intro i j q r hq hr hne d hd he
    have a1 := List.all_eq_true.1 h3 _ (mem_zip hq)
    simp only [hd] at a1
    have a2 := List.all_eq_true.1 a1 _ (mem_zip hr)
    simp only [he, Nat.beq_refl] at a2
    simp at a2
    exact hne a2
  · intro dn i rest hos e he
    simpa using backB_spec h4 dn i rest hos e he
  · intro i hi j hj hb
    obtain ⟨o, ho⟩ : ∃ o, ops[i]? = some o := ⟨_, Array.getElem?_eq_getElem hi⟩
    have a1 := List.all_eq_true.1 h4' (o, i) (by rw [List.mem_zipIdx_iff_getElem?]; simpa using ho)
    have a2 := List.all_eq_true.1 a1 j (List.mem_range.2 hj)
    simp only [hb, Bool.not_true, Bool.false_or, Bool.or_eq_true] at a2
    rcases a2 with a2 | a2
    · obtain ⟨e, he, h6⟩ := List.any_eq_true.1 a2
      simp only [Bool.and_eq_true, Bool.or_eq_true] at h6
      refine ⟨e.on, .inl ⟨o, ho, e, by simpa using he, h6.1, rfl⟩, ?_⟩
      rcases h6.2 with h7 | h7
      · exact .inl (Nat.eq_of_beq_eq_true h7)
      · exact .inr h7
    · split at a2
      · rename_i s t
        simp only [Bool.and_eq_true, Bool.or_eq_true] at a2
        have := Nat.eq_of_beq_eq_true a2.1
        subst this
        refine ⟨t, .inr rfl, ?_⟩
        rcases a2.2 with h7 | h7
        · exact .inl (Nat.eq_of_beq_eq_true h7)
        · exact .inr h7
      · cases a2
  · intro dn i rest hos q hq
    have a1 := stepsB_spec h5 dn i rest hos
    simp only [List.nil_append, stepB, hq, Bool.and_eq_true] at a1
    obtain ⟨⟨⟨b1, b2⟩, b3⟩, b4⟩ := a1
    constructor
    · simpa using b1
    · intro s hs j r hr hd hne
      have c1 := List.all_eq_true.1 b2 s hs
      unfold slotB at c1
      have c2 := List.all_eq_true.1 c1 _ (mem_zip hr)
      have hne' : Nat.beq j i = false := by
        cases hx : Nat.beq j i with
        | false => rfl
        | true => exact absurd (Nat.eq_of_beq_eq_true hx) hne
      simp only [hd, Nat.beq_refl, hne', Bool.not_false, Bool.and_self] at c2
      constructor
      · intro hj
        have : dn.contains j = true := by simpa using hj
        rw [this] at c2; exact c2
      · intro hj
        have : dn.contains j = false := by simpa using hj
        rw [this] at c2; exact c2
    · intro j hj hw
      have c1 := List.all_eq_true.1 b3 j hj
      simpa [hw] using c1
    · intro hw j hj hjw ht
      rw [hw] at b4
      have c1 := List.all_eq_true.1 b4 j hj
      have : Nat.ble (till j) (nW l dn) = true := by rw [Nat.ble_eq]; exact ht
      simpa [hjw, this] using c1

theorem resDraw_spec {ops : Array Oper} {l : List ROper} {m : List (ROper × Nat)} (h : resDraw ops l = some m) : ∃ b till os, DrawOK (TextE ops) ops.size l b till os ∧ allM (drawItem l till) os = some m := by
  unfold resDraw at h
  simp only [] at h
  split at h
  · rename_i hd
    have e : TextX ops none = TextE ops := by
      funext i e
      simp [TextX]
    exact ⟨_, _, _, e ▸ drawB_ok hd, h⟩
  · cases h
end Go.Ev

namespace Go.Ev
open Go

theorem DrawOK.text {ops : Array Oper} {x : Option (Nat × Nat)} {N : Nat} {l : List ROper} {b : Array Nat} {till : Nat → Nat} {os : List Nat} (ok : DrawOK (TextX ops x) N l b till os) :
    ∀ dn i rest, os = dn ++ i :: rest → ∀ e, TextE ops i e → e ∈ dn := fun dn i rest h e he => ok.back dn i rest h e (.inl he)

section
variable {P : Program} {ops : Array Oper} {l : List ROper} {n : Nat} {till : Nat → Nat}
/-- A region whose order is drawn, but for two operations whose order nothing tells. -/
theorem draw_run2 {s t : Nat} (hst : s ≠ t) (hs : s < ops.size) {b1 b2 : Array Nat} {os1 os2 : List Nat} (ok1 : DrawOK (TextX ops (some (t, s))) ops.size l b1 till os1) (ok2 : DrawOK (TextX ops (some (s, t))) ops.size l b2 till os2)
    (hl : allM (resOper P n ops) ops.toList = some l) (hmix : P.follows .mixedOrders = true) {m1 m2 : List (ROper × Nat)} (hm1 : allM (drawItem l till) os1 = some m1) (hm2 : allM (drawItem l till) os2 = some m2) {id : Nat} {tm : Env} {h : Heap} {Q : Env → Heap → Prop}
    (hd1 : dopsW (CallW P) m1 0 [] tm h Q) (hd2 : dopsW (CallW P) m2 0 [] tm h Q) {ι : Inj} {a : Act} {w : World} (r : Rel P ι h w) (ht : TmR ι tm a.tmps) (hn : n ≤ a.tmps.size) (fb : FB) :
    RegTo P ι h w a Q fun a' w' => ∀ kk cs, Steps P (lone (fb.at a (.code (.region id ops true) :: kk)) cs w) (lone (fb.at a' kk) cs w') := by
  have fin : ∀ {m : List (ROper × Nat)}, RegTo P ι h w a Q (fun a' w' => ∀ (fb1 : FB) kk cs, Steps P (lone (fb1.at a (.inRegion ops (Region.linearise .any ops (w.tape w.drawn (.order fb.fn id))) :: kk)) cs w.drew) (lone (fb1.at a' kk) cs w')) →
      RegTo P ι h w a Q fun a' w' => ∀ kk cs, Steps P (lone (fb.at a (.code (.region id ops true) :: kk)) cs w) (lone (fb.at a' kk) cs w') := by
    rintro _ ⟨tm2, h2, ι2, a2, w2, z1, z2, z3, z4, z5, z6, z7⟩
    refine ⟨tm2, h2, ι2, a2, w2, z1, z2, z3, z4, z5, z6, fun kk cs => .head mv_draw ?_⟩
    have := z7 fb kk cs
    simp only [Region.schedule, hmix, Bool.true_or, if_true]
    exact this
  have hv := drawn_valid ok1.all ok1.text ok1.bound (w.tape w.drawn (.order fb.fn id))
  rcases hv.split hst hs (fun h => h) (fun h => h) with h1 | h1
  · exact fin (m := m1) (draw_list ok1 hl hm1 hd1 r ht hn h1)
  · exact fin (m := m2) (draw_list ok2 hl hm2 hd2 r ht hn h1)
end

theorem allM_length {α β : Type} {f : α → Option β} : ∀ {l : List α} {m : List β}, allM f l = some m → m.length = l.length
  | [], m, h => by rw [allM_nil h]; rfl
  | a :: l, m, h => by
    obtain ⟨b, m', _, e2, rfl⟩ := allM_cons h
    simp [allM_length e2]
theorem allM_append {α β : Type} {f : α → Option β} : ∀ {l m : List α} {x y : List β}, allM f l = some x → allM f m = some y → allM f (l ++ m) = some (x ++ y)
  | [], m, x, y, h1, h2 => by rw [allM_nil h1]; simpa using h2
  | a :: l, m, x, y, h1, h2 => by
    obtain ⟨b, x', e1, e2, rfl⟩ := allM_cons h1
    simp only [List.cons_append, allM, e1, allM_append e2 h2]

theorem resDraw2_spec {ops : Array Oper} {l : List ROper} {pre : List (ROper × Nat)} {p q : ROper × Nat} (h : resDraw2 ops l = some (pre, p, q)) :
    ∃ n b1 b2 till os1 os2, l.length = n + 2 ∧ DrawOK (TextX ops (some (n + 1, n))) ops.size l b1 till os1 ∧ DrawOK (TextX ops (some (n, n + 1))) ops.size l b2 till os2 ∧
      allM (drawItem l till) os1 = some (pre ++ [p, q]) ∧ allM (drawItem l till) os2 = some (pre ++ [q, p]) := by
  unfold resDraw2 at h
  split at h
  · rename_i n hn
    dsimp only at h
    split at h
    · rename_i hd
      simp only [Bool.and_eq_true] at hd
      split at h
      · rename_i pre' p' q' h1 h2 h3
        cases h
        refine ⟨n, _, _, _, _, _, hn, drawB_ok hd.1, drawB_ok hd.2, allM_append h1 ?_, allM_append h1 ?_⟩
        · simp only [allM, h2, h3]
        · simp only [allM, h2, h3]
      · cases h
    · cases h
  · cases h
end Go.Ev
