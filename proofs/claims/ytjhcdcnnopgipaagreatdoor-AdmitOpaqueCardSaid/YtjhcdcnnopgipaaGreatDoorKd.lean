/- strings.Builder's methods, as summaries. -/
import Derived.Shelf.Strings.BuilderK
import Derived.Test.YtjhcdcnnopgipaaGreatDoorKc
noncomputable section
namespace Go.Ev
open Go Go.Proofs Go.Shelf Go.RowKit

/-! ## strings.Builder -/
section
variable {P : Program} {ρ : Ren}

/-- 'append' of a string to bytes that are owned: the row is the old one, or a new one. -/
theorem append_bld (w : World) (t u e : TypeId) (i : TypeInfo) (ht : P.underlying t = some (.slice e)) (hu : P.underlying u = some .string) (hi : P.info? e = some i) (hz : i.zero = some (.int .u8 0))
    (hsize : i.size = 1) (hby : i.bytes = 1) (v : Value) (n : Nat) (xs : List Value) (hown : w.ownsRowF 0 e 1 v n xs) (s : ByteArray) (h63 : n + s.size ≤ maxLen) (hbytes : n + s.size ≤ 140737488355328) :
    ∃ v' w', (∀ ty, (Builtin.append_ #[t, u] ty #[v, .string s]).run P w = .ok v' w') ∧ w'.ownsRowF 0 e 1 v' (n + s.size) (xs ++ Lib.strCells s) ∧ w.grownBy w' v.ownBlock ∧
      (v' = .slice none 0 0 ↔ v = .slice none 0 0 ∧ s.size = 0) ∧ (v'.ownBlock = v.ownBlock ∨ ∃ k, v'.ownBlock = some k ∧ w.heap.size ≤ k) := by
  rcases hown.2 with ⟨rfl, rfl⟩ | ⟨g, cap, cur, fz, rfl, hbg, hg, hfz, hnc, hcm, hcs, htake⟩
  · obtain ⟨v', w', h1, h2, h3, h4⟩ := Lib.run_append_own_string (P := P) w w.heap.size t u 0 e i ht hu hi hz hsize hby (.slice none 0 0) 0 xs ⟨hown.1, .inl ⟨rfl, rfl⟩⟩ s h63 hbytes (Nat.le_refl _)
    refine ⟨v', w', fun _ => h1, ?_, h3, h4, ?_⟩
    · refine ⟨h2.1, ?_⟩
      rcases h2.2 with hn | ⟨g, cap, cur, hv, _, hg, rest⟩
      · exact .inl hn
      · exact .inr ⟨g, cap, cur, (0, 0), hv, Nat.zero_le _, hg, Nat.zero_le _, rest⟩
    · rcases h2.2 with ⟨rfl, _⟩ | ⟨g, cap, cur, rfl, hb, _⟩
      · exact .inl rfl
      · exact .inr ⟨g, rfl, hb⟩
  · have hsmall : n + s.size ≤ 9223372036854775807 := by simp only [maxLen] at h63; omega
    have hxl : xs.length = n := by simpa using hown.1
    have hlen : (xs ++ Lib.strCells s).length = (n + s.size) * 1 := by rw [List.length_append, hxl, Lib.strCells_length, Nat.mul_one]
    by_cases hroom : n + s.size ≤ cap
    · have hcs' : cur.size = cap := by simpa using hcs
      have hr := fun ty => Lib.run_append_room_stringF (P := P) w t u ty e i ht hu hi hsize g n cap cur fz hg (by simpa using hfz) s hroom (by omega)
      refine ⟨_, _, hr, ⟨hlen, .inr ⟨g, cap, _, fz, rfl, hbg, setRow_heap w g cur _ e _ hg, by omega, hroom, hcm, ?_, ?_⟩⟩, ⟨rfl, rfl, rfl, by simp, fun k _ hk => setRow_other w g k _ (fun e => hk (by simp [Value.ownBlock, e]))⟩, by simp, .inl rfl⟩
      · simp only [List.size_toArray, List.length_append, List.length_take, List.length_drop, Array.length_toList, Lib.strCells_length]
        omega
      · have ht' : cur.toList.take n = xs := by simpa using htake
        rw [ht', ← hlen]
        exact List.take_left
    · have holds : ∀ j u, xs[j]? = some u → w.cell? ((⟨g, 0, none⟩ : Addr).add j) = some u := hown.cells (g := g) rfl
      have hr := fun ty => Lib.run_append_grow_string (P := P) w t u ty e i (.int .u8 0) ht hu hi hz ⟨g, 0, none⟩ n cap xs (by rw [hsize]; simpa using hxl) holds s (by omega) (by omega) (by rw [hby]; exact growslice_fits (by omega) (by omega))
      have hge := grownCap_ge w (n + s.size) cap e
      have hcm2 : grownCap w (n + s.size) cap e ≤ maxLen := grownCap_le_maxLen w (n + s.size) cap e h63
      refine ⟨_, _, hr, ⟨hlen, .inr ⟨w.heap.size, _, _, (0, 0), rfl, Nat.zero_le _, heap_alloc_new w.drew _, Nat.zero_le _, hge, hcm2, ?_, ?_⟩⟩, ⟨rfl, rfl, rfl, by simp, fun k hk _ => by first | exact heap_alloc_old w.drew _ k hk | exact heap_alloc_old w.drew _ hk⟩, by simp, .inr ⟨w.heap.size, rfl, Nat.le_refl _⟩⟩
      · have hz1 : (Value.int IntKind.u8 0).cells.size = 1 := rfl
        simp only [Array.size_append, List.size_toArray, size_zeroCells, hz1, hxl, Lib.strCells_length]
        omega
      · simp only [Array.toList_append, List.append_assoc]
        rw [← List.append_assoc, ← hlen]
        exact List.take_left

theorem wpList_append_told {w : World} {ops : Array Oper} {rest : List Oper} {o : Oper} {a : Act} {Q : Exit → Act → World → Prop} (hgd : o.guard = none) (sl x : Operand) (t u : TypeId)
    (ho : o.op = .call { callee := .builtin .append, args := #[sl, x], argTypes := #[t, u] }) (v v' : Value) (s : ByteArray) (w2 : World) (hs : a.eval sl = v) (hx : a.eval x = .string s)
    (hr : ∀ ty, (Builtin.append_ #[t, u] ty #[v, .string s]).run P w = .ok v' w2) (h : wpList P ops Q rest (a.put o.dst v') w2) : wpList P ops Q (o :: rest) a w := by
  refine wpList_plain hgd fun K hK => ?_
  unfold Oper.wp execOp
  simp only [ho, resolve, invoke, builtin, Sem.run_bind, Sem.run_pure, Result.andThen_ok, List.map_toArray, List.map_cons, List.map_nil, hs, hx, hr]
  exact hK _ _ h

set_option maxHeartbeats 2000000 in
set_option maxRecDepth 100000 in
/-- WriteString, its world told. -/
theorem bld_WriteString (L : Lays.n166 P ρ) (X : Builder.Extra P ρ) (b : Nat) (v v' : Value) (s : ByteArray) (w w1 w2 : World)
    (hc : Calls P (ρ.f 240) #[.pointer (some ⟨b, 0, none⟩)] w fun e w' => e = .returned (.tuple #[]) ∧ w' = w1)
    (hb1 : w1.heap[b]? = some (.cells #[.pointer (some ⟨b, 0, none⟩), v] (ρ.t 72) (0, 0)))
    (hr : ∀ ty, (Builtin.append_ #[ρ.t 37, ρ.t 9] ty #[v, .string s]).run P w1 = .ok v' w2)
    (hb2 : w2.heap[b]? = some (.cells #[.pointer (some ⟨b, 0, none⟩), v] (ρ.t 72) (0, 0)))
    (hv' : ∃ ao n' cap, v' = .slice ao n' cap) :
    Calls P (ρ.f 166) #[.pointer (some ⟨b, 0, none⟩), .string s] w fun e w' => e = .returned (.tuple #[.int .i64 s.size, .nilIface]) ∧ w' = w2.setCell ⟨b, 1, none⟩ v' := by
  have mixed := L.mixed
  have t72 := L.t72; have a72 := L.a72; have z72 := L.z72; have v72 := L.v72; have u72 := run_underlying L.t72
  have t70 := L.t70; have a70 := L.a70; have z70 := L.z70; have v70 := L.v70; have u70 := run_underlying L.t70
  have t37 := L.t37; have a37 := L.a37; have z37 := L.z37; have v37 := L.v37; have u37 := run_underlying L.t37
  have t3 := L.t3; have a3 := L.a3; have z3 := L.z3; have v3 := L.v3; have u3 := run_underlying L.t3
  have t9 := L.t9; have a9 := L.a9; have z9 := L.z9; have v9 := L.v9; have u9 := run_underlying L.t9
  have t4 := L.t4; have a4 := L.a4; have z4 := L.z4; have v4 := L.v4; have u4 := run_underlying L.t4
  have t164 := L.t164; have a164 := L.a164; have z164 := L.z164; have v164 := L.v164; have u164 := run_underlying L.t164
  have t5 := X.t5; have a5 := X.a5; have z5 := X.z5; have v5 := X.v5; have u5 := run_underlying X.t5
  have e240 : ∀ args w, (callFunc (ρ.f 240) args).run P w = .ok (.enter (ρ.f 240) args) w := enters_of L.f240 (by kernel_rfl) rfl
  go_enter L.f166, Body.n166_ntmps ρ
  go_wp2_with (go_at_fn (ρ.f 240); refine hc.mono ?_)
  rintro e w1 ⟨rfl, rfl⟩
  have c0 : w1.cell? ⟨b, 0, none⟩ = some (.pointer (some ⟨b, 0, none⟩)) := by rw [Lib.cell_of_heap hb1]; rfl
  have c1 : w1.cell? ⟨b, 1, none⟩ = some v := by rw [Lib.cell_of_heap hb1]; rfl
  have d0 : w2.cell? ⟨b, 0, none⟩ = some (.pointer (some ⟨b, 0, none⟩)) := by rw [Lib.cell_of_heap hb2]; rfl
  have d1 : w2.cell? ⟨b, 1, none⟩ = some v := by rw [Lib.cell_of_heap hb2]; rfl
  have f1 : w2.frozen? ⟨b, 1, none⟩ = false := Lib.frozen_of_heap hb2 1
  obtain ⟨ao, n', cap, rfl⟩ := hv'
  go_wp2_with (at_builtin; refine wpList_append_told rfl _ _ (ρ.t 37) (ρ.t 9) rfl v _ s w2 rfl rfl hr ?_)
  go_wp2
  go_ret2
  exact ⟨rfl, rfl⟩

set_option maxHeartbeats 1000000 in
set_option maxRecDepth 100000 in
/-- String of a builder with bytes, its world told. -/
theorem bld_String (L : Lays.n169 P ρ) (X : Builder.Extra P ρ) (b g cap : Nat) (addr : Value) (cur : Array Value) (fz : Nat × Nat) (l : List UInt8) (w : World)
    (hbk : w.heap[b]? = some (.cells #[addr, .slice (some ⟨g, 0, none⟩) l.length cap] (ρ.t 72) (0, 0))) (hg : w.heap[g]? = some (.cells cur (ρ.t 5) fz)) (hnc : l.length ≤ cap) (hcm : cap ≤ maxLen) (hcs : cur.size = cap)
    (htake : cur.toList.take l.length = Lib.byteCells l) (h0 : l ≠ []) :
    Calls P (ρ.f 169) #[.pointer (some ⟨b, 0, none⟩)] w fun e w' => e = .returned (.string ⟨l.toArray⟩) ∧ w' = w.drew.freeze ⟨g, 0, none⟩ l.length := by
  have hl0 : l.length ≠ 0 := by simpa using h0
  have c1 : w.drew.cell? ⟨b, 1, none⟩ = some (.slice (some ⟨g, 0, none⟩) l.length cap) := by
    have : w.drew.heap[b]? = some (.cells #[addr, .slice (some ⟨g, 0, none⟩) l.length cap] (ρ.t 72) (0, 0)) := hbk
    rw [Lib.cell_of_heap this]; rfl
  have hSD : (Builtin.unsafeSliceData_ #[(ρ.t 37)] (ρ.t 127) #[.slice (some ⟨g, 0, none⟩) l.length cap]).run P w.drew = .ok (.pointer (some ⟨g, 0, none⟩)) w.drew :=
    Lib.run_unsafeSliceData_row _ _ _ _ _ _ (by omega)
  have hUS : (Builtin.unsafeString_ #[(ρ.t 127), (ρ.t 3)] (ρ.t 9) #[.pointer (some ⟨g, 0, none⟩), .int .i64 l.length]).run P w.drew = .ok (.string ⟨l.toArray⟩) (w.drew.freeze ⟨g, 0, none⟩ l.length) := by
    refine Lib.run_unsafeString_row w.drew (ρ.t 127) (ρ.t 3) (ρ.t 9) (ρ.t 5) L.t127 X.cellsByte g cur.size (by have hg' : w.drew.heap[g]? = some (.cells cur (ρ.t 5) fz) := hg; simp [World.shape?, hg']) l h0 (by omega) (by unfold maxLen at hcm; omega) ?_
    intro j x hx
    have hj : (cur.toList.take l.length)[j]? = some (.int .u8 x.toNat) := by rw [htake]; simp [Lib.byteCells, hx]
    have hadd : (⟨g, 0, none⟩ : Addr).add j = ⟨g, j, none⟩ := by unfold Addr.add; split <;> simp_all
    have hg' : w.drew.heap[g]? = some (.cells cur (ρ.t 5) fz) := hg
    rw [hadd, cell_of_row w.drew g j cur _ fz hg']
    rw [List.getElem?_take] at hj
    split at hj
    · simpa using hj
    · cases hj
  have mixed := L.mixed
  have t72 := L.t72; have a72 := L.a72; have z72 := L.z72; have v72 := L.v72; have u72 := run_underlying L.t72
  have t70 := L.t70; have a70 := L.a70; have z70 := L.z70; have v70 := L.v70; have u70 := run_underlying L.t70
  have t37 := L.t37; have a37 := L.a37; have z37 := L.z37; have v37 := L.v37; have u37 := run_underlying L.t37
  have t127 := L.t127; have a127 := L.a127; have z127 := L.z127; have v127 := L.v127; have u127 := run_underlying L.t127
  have t3 := L.t3; have a3 := L.a3; have z3 := L.z3; have v3 := L.v3; have u3 := run_underlying L.t3
  have t9 := L.t9; have a9 := L.a9; have z9 := L.z9; have v9 := L.v9; have u9 := run_underlying L.t9
  have t5 := X.t5; have a5 := X.a5; have z5 := X.z5; have v5 := X.v5; have u5 := run_underlying X.t5
  go_enter L.f169, Body.n169_ntmps ρ
  go_wp2
  go_region_o
  all_goals (go_wp2; go_ret; exact ⟨rfl, rfl⟩)

set_option maxHeartbeats 2000000 in
set_option maxRecDepth 100000 in
theorem bld_String_nil (L : Lays.n169 P ρ) (X : Builder.Extra P ρ) (b : Nat) (addr : Value) (w : World) (hbk : w.heap[b]? = some (.cells #[addr, .slice none 0 0] (ρ.t 72) (0, 0))) :
    Calls P (ρ.f 169) #[.pointer (some ⟨b, 0, none⟩)] w fun e w' => e = .returned (.string ⟨#[]⟩) ∧ w' = w.drew := by
  have hUS := Any.unsafeString_none L X
  have c1 : w.drew.cell? ⟨b, 1, none⟩ = some (.slice none 0 0) := by
    have : w.drew.heap[b]? = some (.cells #[addr, .slice none 0 0] (ρ.t 72) (0, 0)) := hbk
    rw [Lib.cell_of_heap this]; rfl
  have hSD : (Builtin.unsafeSliceData_ #[(ρ.t 37)] (ρ.t 127) #[.slice none 0 0]).run P w.drew = .ok (.pointer none) w.drew := rfl
  have mixed := L.mixed
  have t72 := L.t72; have a72 := L.a72; have z72 := L.z72; have v72 := L.v72; have u72 := run_underlying L.t72
  have t70 := L.t70; have a70 := L.a70; have z70 := L.z70; have v70 := L.v70; have u70 := run_underlying L.t70
  have t37 := L.t37; have a37 := L.a37; have z37 := L.z37; have v37 := L.v37; have u37 := run_underlying L.t37
  have t127 := L.t127; have a127 := L.a127; have z127 := L.z127; have v127 := L.v127; have u127 := run_underlying L.t127
  have t3 := L.t3; have a3 := L.a3; have z3 := L.z3; have v3 := L.v3; have u3 := run_underlying L.t3
  have t9 := L.t9; have a9 := L.a9; have z9 := L.z9; have v9 := L.v9; have u9 := run_underlying L.t9
  have t5 := X.t5; have a5 := X.a5; have z5 := X.z5; have v5 := X.v5; have u5 := run_underlying X.t5
  go_enter L.f169, Body.n169_ntmps ρ
  go_wp2
  go_region_o
  all_goals (go_wp2; go_ret; exact ⟨rfl, rfl⟩)
end
end Go.Ev

noncomputable section
namespace Go.Ev
open Go Go.Proofs Go.Shelf Go.RowKit
section
variable {P : Program} {ρ : Ren}

/-- what is asked of a program -/
structure BldP (P : Program) (ρ : Ren) : Prop where
  L6 : Lays.n166 P ρ
  L9 : Lays.n169 P ρ
  X : Builder.Extra P ρ
  T : ∀ t, isBld P t = true → t = ρ.t 72
  E : ∀ t, isU8 P t = true → t = ρ.t 5
  e5 : isU8 P (ρ.t 5) = true

/-! ## What the methods do -/
def bldWrite (args : List AV) (h : Heap) : Option (AV × Heap) :=
  match args with
  | [.ptr b 0, .str s] => match h.get b with
    | some (.bld none) => match s with
      | [] => some (.tup [.int .i64 (.ofNat 0), .nili], h)
      | a :: s => match Nat.ble (a :: s).length 4294967296 with
        | true => some (.tup [.int .i64 (.ofNat (a :: s).length), .nili], (h.set b (.bld (some (h.next, (a :: s).length)))).push (.bytes (a :: s)))
        | false => none
    | some (.bld (some (c, n))) => match h.get c with
      | some (.bytes l) => match Nat.beq l.length n && Nat.ble 1 n && Nat.ble (n + s.length) 4294967296 with
        | true => some (.tup [.int .i64 (.ofNat s.length), .nili], ((h.set c .dead).set b (.bld (some (h.next, n + s.length)))).push (.bytes (l ++ s)))
        | false => none
      | _ => none
    | _ => none
  | _ => none
def bldString (args : List AV) (h : Heap) : Option (AV × Heap) :=
  match args with
  | [.ptr b 0] => match h.get b with
    | some (.bld none) => some (.str [], h)
    | some (.bld (some (c, n))) => match h.get c with
      | some (.bytes l) => match Nat.beq l.length n && Nat.ble 1 n with
        | true => some (.str l, h)
        | false => none
      | _ => none
    | _ => none
  | _ => none

/-! ## A call that a walk shows -/
theorem callW_of_calls {f : Nat} {fn : Func} (hf : P.funcs[f]? = some fn) (hb : fn.body.isNone = false) (hn : (fn.name == "runtime.NumGoroutine") = false) {args : List AV} {h : Heap} {Q : AV → Heap → Prop}
    (H : ∀ ι w argv, Rel P ι h w → VRs ι args argv → ∃ v h' ι' v' w', Q v h' ∧ VR ι' v v' ∧ Rel P ι' h' w' ∧ Ext ι h w ι' h' w' ∧ Calls P f argv.toArray w fun e w'' => e = .returned v' ∧ w'' = w') : CallW P (.func f [] []) args h Q := by
  intro ι w fv argv r hf' ha
  simp only [VR] at hf'
  obtain ⟨a', b', rfl, h1, h2⟩ := hf'
  have ea : a' = #[] := by have := VRs.nil.1 h1; simpa using this
  have eb : b' = #[] := by have := VRs.nil.1 h2; simpa using this
  subst ea; subst eb
  obtain ⟨v, h', ι', v', w', q1, q2, q3, q4, q5⟩ := H ι w argv r ha
  refine ⟨v, h', ι', v', w', q1, q2, q3, q4, ?_⟩
  have hinv : (do let d ← Deferred.ofValue (.func (.func f) #[] #[]) argv.toArray; invoke d.target d.args : Sem Next).run P w = .ok (.enter f argv.toArray) w := by
    have he : #[] ++ argv.toArray ++ #[] = argv.toArray := by simp
    simp only [Deferred.ofValue, pure_bind, invoke, he, run_enter hf hb hn]
  intro cf cs hk
  obtain ⟨e, w2, fr, ⟨rfl, rfl⟩, s1, s2, s3⟩ := q5 (cf :: cs)
  refine ⟨Frame.enter P f argv.toArray .normal, cf :: cs, w, ?_, Steps.trans s1 (.one (step_leave_returned s3))⟩
  simp [stepG.apply, hinv]

variable {ι : Inj} {h h0 : Heap} {w w' : World}
theorem Rel.bldStep (r : Rel P ι h0 w) {b g' n' : Nat} {p : Pl} {ab0 ab row : AB} (hp : ι b = some p) (hb : h0.get b = some ab0) (hlive : ab0 ≠ .dead)
    (ex : Nat → Prop) (hs : w.heap.size ≤ w'.heap.size) (hsame : ∀ k, k < w.heap.size → k ≠ p.blk → k ≠ g' → ¬ ex k → w'.heap[k]? = w.heap[k]?) (hgp : g' ≠ p.blk) (hgl : g' < w'.heap.size)
    (hg : w.heap.size ≤ g' ∨ ∃ c q, ι c = some q ∧ q.blk = g') (hfree : ∀ d q x, ι d = some q → q.blk = g' → h0.get d = some x → x = .dead)
    (hex : ∀ k, ex k → ∃ c q, ι c = some q ∧ q.blk = k) (hexd : ∀ d q x, ι d = some q → ex q.blk → h0.get d = some x → x = .dead)
    (hab : BR P (ι.add h0.next ⟨g', n'⟩) p ab w'.heap[p.blk]?) (hrow : BR P (ι.add h0.next ⟨g', n'⟩) ⟨g', n'⟩ row w'.heap[g']?) (ha : Aside w w') :
    Rel P (ι.add h0.next ⟨g', n'⟩) ((h0.set b ab).push row) w' ∧ Ext ι h0 w (ι.add h0.next ⟨g', n'⟩) ((h0.set b ab).push row) w' := by
  have hnn := r.next_none
  have hblt := r.dom b p hp
  constructor
  · exact {
      glob := r.glob.step (fun c q hc => by
        unfold Inj.add at hc
        split at hc
        · cases hc; exact .inr hg
        · exact .inl hc) hs (fun k hk hn => by
          refine hsame k hk (fun e => hn b p hp e.symm) (fun e => ?_) (fun e => ?_)
          · rcases hg with h | ⟨c, q, h1, h2⟩
            · omega
            · exact hn c q h1 (h2.trans e.symm)
          · obtain ⟨c, q, h1, h2⟩ := hex k e
            exact hn c q h1 h2)
      size := by
        intro c q hc
        unfold Inj.add at hc
        split at hc
        · cases hc; exact hgl
        · have := r.size c q hc; omega
      dom := by
        intro c q hc
        unfold Inj.add at hc
        simp only [Heap.next_push, Heap.next_set]
        split at hc
        · omega
        · have := r.dom c q hc; omega
      blocks := by
        intro c q ab' hc hg'
        rw [Heap.get_push, Heap.get_set, Heap.next_set] at hg'
        unfold Inj.add at hc
        split at hc
        · rename_i e; subst e; cases hc
          rw [if_pos rfl] at hg'; cases hg'
          exact hrow
        · rename_i e
          rw [if_neg e] at hg'
          by_cases e2 : c = b
          · subst e2
            rw [if_pos rfl] at hg'; cases hg'
            rw [hp] at hc; cases hc
            exact hab
          · rw [if_neg e2] at hg'
            by_cases h1 : q.blk = p.blk
            · rcases r.inj c b q p hc hp h1 e2 _ _ hg' hb with h | h
              · subst h; trivial
              · exact absurd h hlive
            · by_cases h2 : q.blk = g'
              · have := hfree c q _ hc h2 hg'; subst this; trivial
              · by_cases h3 : ex q.blk
                · have := hexd c q _ hc h3 hg'; subst this; trivial
                · rw [hsame _ (r.size c q hc) h1 h2 h3]; exact (r.blocks c q ab' hc hg').mono (Inj.le_add hnn)
      inj := by
        intro c d q s hc hd hqs hne x y hx hy
        rw [Heap.get_push, Heap.get_set, Heap.next_set] at hx hy
        unfold Inj.add at hc hd
        by_cases e1 : c = h0.next
        · rw [if_pos e1] at hc; cases hc
          by_cases e2 : d = h0.next
          · exact absurd (e1.trans e2.symm) hne
          · rw [if_neg e2] at hd hy
            by_cases e3 : d = b
            · subst e3; rw [hp] at hd; cases hd; exact absurd hqs hgp
            · rw [if_neg e3] at hy
              exact .inr (hfree d s y hd hqs.symm hy)
        · rw [if_neg e1] at hc hx
          by_cases e2 : d = h0.next
          · rw [if_pos e2] at hd; cases hd
            by_cases e3 : c = b
            · subst e3; rw [hp] at hc; cases hc; exact absurd hqs.symm hgp
            · rw [if_neg e3] at hx
              exact .inl (hfree c q x hc hqs hx)
          · rw [if_neg e2] at hd hy
            by_cases e3 : c = b
            · subst e3
              rw [if_neg (Ne.symm hne)] at hy
              rcases r.inj c d q s hc hd hqs hne _ _ hb hy with h | h
              · exact absurd h hlive
              · exact .inr h
            · rw [if_neg e3] at hx
              by_cases e4 : d = b
              · subst e4
                rcases r.inj c d q s hc hd hqs hne _ _ hx hb with h | h
                · exact .inl h
                · exact absurd h hlive
              · rw [if_neg e4] at hy; exact r.inj c d q s hc hd hqs hne _ _ hx hy
      wf := by
        intro c hc
        rw [Heap.next_push, Heap.next_set] at hc
        rw [Heap.get_push, Heap.get_set, Heap.next_set, if_neg (by omega), if_neg (by omega)]
        exact r.wf c (by omega) }
  · exact {
      le := Inj.le_add hnn
      fresh := by
        intro c q hc hn
        unfold Inj.add at hc
        split at hc
        · rename_i e; subst e; cases hc; exact ⟨Nat.le_refl _, hg⟩
        · rw [hn] at hc; cases hc
      size := hs
      next := by simp
      same := by
        intro k hk hn
        refine hsame k hk (fun e => hn b p hp e.symm) (fun e => ?_) (fun e => ?_)
        · rcases hg with h | ⟨c, q, h1, h2⟩
          · omega
          · exact hn c q h1 (h2.trans e.symm)
        · obtain ⟨c, q, h1, h2⟩ := hex k e
          exact hn c q h1 h2
      habs := by
        intro c hc hn
        rw [Heap.get_push, Heap.get_set, Heap.next_set, if_neg (by omega), if_neg]
        intro e; subst e; rw [hp] at hn; cases hn
      aside := ha }

/-- An old block becomes another one; the world may be greater. -/
theorem Rel.grownAt (r : Rel P ι h0 w) {b : Nat} {p : Pl} {ab ab0 : AB} (hp : ι b = some p) (hb : h0.get b = some ab0) (hlive : ab0 ≠ .dead)
    (hs : w.heap.size ≤ w'.heap.size) (hsame : ∀ k, k < w.heap.size → k ≠ p.blk → w'.heap[k]? = w.heap[k]?) (hab : BR P ι p ab w'.heap[p.blk]?) (ha : Aside w w') :
    Rel P ι (h0.set b ab) w' ∧ Ext ι h0 w ι (h0.set b ab) w' := by
  constructor
  · exact {
      glob := r.glob.step (fun c q hc => .inl hc) hs (fun k hk hn => hsame k hk (fun e => hn b p hp e.symm))
      size := fun c q hc => Nat.lt_of_lt_of_le (r.size c q hc) hs
      dom := r.dom
      blocks := by
        intro c q ab' hc hg
        rw [Heap.get_set] at hg
        split at hg
        · rename_i e; subst e; cases hg
          rw [hp] at hc; cases hc
          exact hab
        · rename_i e
          by_cases hq : q.blk = p.blk
          · rcases r.inj c b q p hc hp hq e _ _ hg hb with hd | hd
            · subst hd; trivial
            · exact absurd hd hlive
          · rw [hsame _ (r.size c q hc) hq]; exact r.blocks c q ab' hc hg
      inj := by
        intro c d q s hc hd hqs hne x y hx hy
        rw [Heap.get_set] at hx hy
        have := r.inj c d q s hc hd hqs hne
        by_cases e1 : c = b
        · subst e1
          rw [if_neg (Ne.symm hne)] at hy
          rcases this _ _ hb hy with h1 | h1
          · exact absurd h1 hlive
          · exact .inr h1
        · rw [if_neg e1] at hx
          by_cases e2 : d = b
          · subst e2
            rcases this _ _ hx hb with h1 | h1
            · exact .inl h1
            · exact absurd h1 hlive
          · rw [if_neg e2] at hy; exact this _ _ hx hy
      wf := by
        intro c hc
        rw [Heap.next_set] at hc
        have := r.dom b p hp
        rw [Heap.get_set, if_neg (by omega)]
        exact r.wf c hc }
  · exact {
      le := .refl ι
      fresh := fun c q hc hn => by rw [hn] at hc; cases hc
      size := hs
      next := Nat.le_refl _
      same := fun k hk hn => hsame k hk (fun e => hn b p hp e.symm)
      habs := by
        intro c _ hn
        rw [Heap.get_set, if_neg]
        intro e; subst e; rw [hp] at hn; cases hn
      aside := ha }
/-- A part of a related heap. -/
theorem rel_part' {ι : Inj} {h g : Heap} {w : World} (r : Rel P ι h w) (hn : g.next = h.next) (hg : ∀ b x, g.get b = some x → h.get b = some x) : Rel P ι g w where
  glob := r.glob
  size := r.size
  dom := fun b p hb => by rw [hn]; exact r.dom b p hb
  blocks := fun b p ab hb hx => r.blocks b p ab hb (hg b ab hx)
  inj := fun b c p q hb hc hpq hne x y hx hy => r.inj b c p q hb hc hpq hne x y (hg b x hx) (hg c y hy)
  wf := fun b hb => by
    cases hx : g.get b with
    | none => rfl
    | some x => have := hg b x hx; rw [r.wf b (by rw [← hn]; exact hb)] at this; cases this

theorem strCells_eq (s : ByteArray) : Lib.strCells s = (s.data.toList.map UInt8.toNat).map (fun (n : Nat) => Value.int .u8 n) := by
  simp [Lib.strCells, List.map_map, Function.comp_def]
theorem byteCells_eq (l : List UInt8) : Lib.byteCells l = (l.map UInt8.toNat).map (fun (n : Nat) => Value.int .u8 n) := by
  simp [Lib.byteCells, List.map_map, Function.comp_def]

theorem heap_setCell_at {w : World} {b : Nat} {a v x : Value} {T : TypeId} {fz : Nat × Nat} (o : Nat) (hb : w.heap[b]? = some (.cells #[a, v] T fz)) : (w.setCell ⟨b, o, none⟩ x).heap[b]? = some (.cells (#[a, v].setIfInBounds o x) T fz) := by
  simp [World.setCell, Array.getElem?_modify, hb]
theorem heap_setCell_ne {w : World} {b k o : Nat} {x : Value} (hk : k ≠ b) : (w.setCell ⟨b, o, none⟩ x).heap[k]? = w.heap[k]? := by
  simp [World.setCell, Array.getElem?_modify, Ne.symm hk]
theorem heap_setCell_size {w : World} {b o : Nat} {x : Value} : (w.setCell ⟨b, o, none⟩ x).heap.size = w.heap.size := by
  simp [World.setCell]

theorem bld_check (D : BldP P ρ) {b : Nat} {addr v : Value} (hx : w.heap[b]? = some (.cells #[addr, v] (ρ.t 72) (0, 0))) (ha : addr = .pointer none ∨ addr = .pointer (some ⟨b, 0, none⟩)) :
    ∃ w1, Calls P (ρ.f 240) #[.pointer (some ⟨b, 0, none⟩)] w (fun e w' => e = .returned (.tuple #[]) ∧ w' = w1) ∧ w1.heap[b]? = some (.cells #[.pointer (some ⟨b, 0, none⟩), v] (ρ.t 72) (0, 0)) ∧
      w1.heap.size = w.heap.size ∧ (∀ k, k ≠ b → w1.heap[k]? = w.heap[k]?) ∧ Aside w w1 := by
  have L := D.L6
  rcases ha with rfl | rfl
  · refine ⟨_, Any.Builder_copyCheck_fresh { L with } D.X.toX72 b w (by simp [World.cell?, hx]) (by simp [World.shape?, hx]) (by simp [World.frozen?, hx]), ?_, heap_setCell_size, fun k hk => heap_setCell_ne hk, ⟨rfl, rfl, rfl⟩⟩
    rw [heap_setCell_at 0 hx]; rfl
  · exact ⟨w, Any.Builder_copyCheck_used { L with } D.X.toX72 b w (by simp [World.cell?, hx]), hx, rfl, fun _ _ => rfl, .refl w⟩

/-- A write, whole. -/
theorem bld_write (D : BldP P ρ) {b n : Nat} {addr v : Value} {xs : List Value} (s : ByteArray) (hx : w.heap[b]? = some (.cells #[addr, v] (ρ.t 72) (0, 0))) (ha : addr = .pointer none ∨ addr = .pointer (some ⟨b, 0, none⟩))
    (hown : w.ownsRowF 0 (ρ.t 5) 1 v n xs) (hne : v.ownBlock ≠ some b) (hlen : n + s.size ≤ 4294967296) :
    ∃ v' w', Calls P (ρ.f 166) #[.pointer (some ⟨b, 0, none⟩), .string s] w (fun e w'' => e = .returned (.tuple #[.int .i64 s.size, .nilIface]) ∧ w'' = w') ∧
      w'.heap[b]? = some (.cells #[.pointer (some ⟨b, 0, none⟩), v'] (ρ.t 72) (0, 0)) ∧ w'.ownsRowF 0 (ρ.t 5) 1 v' (n + s.size) (xs ++ Lib.strCells s) ∧ w.heap.size ≤ w'.heap.size ∧
      (∀ k, k < w.heap.size → k ≠ b → some k ≠ v.ownBlock → w'.heap[k]? = w.heap[k]?) ∧ Aside w w' ∧ (v' = .slice none 0 0 ↔ v = .slice none 0 0 ∧ s.size = 0) ∧
      (v'.ownBlock = v.ownBlock ∨ ∃ k, v'.ownBlock = some k ∧ w.heap.size ≤ k) := by
  obtain ⟨w1, c1, hb1, hs1, ho1, as1⟩ := bld_check D hx ha
  have hblt : b < w.heap.size := by
    rcases Nat.lt_or_ge b w.heap.size with h' | h'
    · exact h'
    · simp [Array.getElem?_eq_none h'] at hx
  have hown1 : w1.ownsRowF 0 (ρ.t 5) 1 v n xs := by
    refine ⟨hown.1, ?_⟩
    rcases hown.2 with hn | ⟨g, cap, cur, fz, rfl, hb, hg, rest⟩
    · exact .inl hn
    · refine .inr ⟨g, cap, cur, fz, rfl, hb, ?_, rest⟩
      rw [ho1 g (by intro e; exact hne (by simp [Value.ownBlock, e])), hg]
  obtain ⟨i0, hi, hz0, hz1, hz2⟩ := info_parts D.X.infoByte
  obtain ⟨v', w2, hr, hown2, hgrow, hnil, hown3⟩ := append_bld (P := P) w1 (ρ.t 37) (ρ.t 9) (ρ.t 5) i0 D.L6.t37 D.L6.t9 hi hz0 hz1 hz2 v n xs hown1 s (by unfold maxLen; omega) (by omega)
  have hb2 : w2.heap[b]? = some (.cells #[.pointer (some ⟨b, 0, none⟩), v] (ρ.t 72) (0, 0)) := by
    rw [hgrow.block b (by rw [hs1]; exact hblt) (fun e => hne e.symm)]; exact hb1
  have hsl : ∃ ao n' cap, v' = .slice ao n' cap := by
    rcases hown2.2 with ⟨hv, _⟩ | ⟨g, cap, cur, fz, hv, _⟩
    · exact ⟨_, _, _, hv⟩
    · exact ⟨_, _, _, hv⟩
  have hne' : v'.ownBlock ≠ some b := by
    rcases hown3 with e | ⟨k, e, hk⟩
    · rw [e]; exact hne
    · rw [e]; intro h'; cases h'; omega
  refine ⟨v', w2.setCell ⟨b, 1, none⟩ v', bld_WriteString D.L6 D.X b v v' s w w1 w2 c1 hb1 hr hb2 hsl, ?_, ?_, ?_, ?_, ?_, hnil, ?_⟩
  · rw [heap_setCell_at 1 hb2]; rfl
  · refine ⟨hown2.1, ?_⟩
    rcases hown2.2 with hn | ⟨g, cap, cur, fz, rfl, hb, hg, rest⟩
    · exact .inl hn
    · refine .inr ⟨g, cap, cur, fz, rfl, hb, ?_, rest⟩
      rw [heap_setCell_ne (by intro e; exact hne' (by simp [Value.ownBlock, e])), hg]
  · rw [heap_setCell_size, ← hs1]; exact hgrow.size
  · intro k hk hkb hkv
    rw [heap_setCell_ne hkb, hgrow.block k (by omega) hkv, ho1 k hkb]
  · exact as1.trans ⟨hgrow.tape, hgrow.os, hgrow.output⟩
  · rcases hown3 with e | ⟨k, e, hk⟩
    · exact .inl e
    · exact .inr ⟨k, e, by omega⟩

/-- the row of bytes, told -/
theorem bytes_owns {q : Pl} {l : List Nat} (D : BldP P ρ) (hb : BR P ι q (.bytes l) w.heap[q.blk]?) : w.ownsRowF 0 (ρ.t 5) 1 (.slice (some ⟨q.blk, 0, none⟩) l.length q.n) l.length (l.map fun (n : Nat) => Value.int .u8 n) := by
  obtain ⟨c, e, fz, hx, he, hcs, hm, hfz, hle, ht, _⟩ := hb
  have := D.E _ he; subst this
  refine ⟨by simp, .inr ⟨q.blk, q.n, c, fz, rfl, Nat.zero_le _, hx, by simpa using hfz, by omega, hm, by simpa using hcs, by simpa using ht⟩⟩

theorem callW_bldWrite (D : BldP P ρ) {args : List AV} {v : AV} {h' : Heap} {Q : AV → Heap → Prop} (hc : bldWrite args h = some (v, h')) (hq : Q v h') : CallW P (.func (ρ.f 166) [] []) args h Q := by
  refine callW_of_calls D.L6.f166 (by rfl) (by kernel_rfl) fun ι w argv r ha => ?_
  unfold bldWrite at hc
  split at hc
  · rename_i b s
    obtain ⟨pv, m, rfl, hp, ha⟩ := VRs.cons.1 ha
    obtain ⟨sv, m', rfl, hsv, ha⟩ := VRs.cons.1 ha
    rw [VRs.nil.1 ha]
    simp only [VR] at hp hsv
    obtain ⟨p, hp, rfl⟩ := hp
    obtain ⟨bs, rfl, hbs⟩ := hsv
    have hsz : bs.size = s.length := by rw [← hbs, List.length_map, Array.length_toList]; rfl
    have hstr : Lib.strCells bs = s.map (fun (n : Nat) => Value.int .u8 n) := by rw [strCells_eq, hbs]
    have hplt := r.size b p hp
    split at hc
    · rename_i hg
      obtain ⟨addr, vv, T, hx, hT, haddr, hvv⟩ := r.blocks b p _ hp hg
      have hT' := D.T _ hT; subst hT'
      simp only at hvv
      subst hvv
      have hown : w.ownsRowF 0 (ρ.t 5) 1 (.slice none 0 0) 0 [] := World.ownsRowF_nil _ _ _ _
      cases s with
      | nil =>
        cases hc
        obtain ⟨v', w', hcall, hb', hown', hs', hk', as', hnil, _⟩ := bld_write D bs hx haddr hown (by simp [Value.ownBlock]) (by rw [hsz]; simp)
        have hv' := hnil.2 ⟨rfl, by simpa using hsz⟩
        subst hv'
        have hsz0 : bs.size = 0 := by simpa using hsz
        have hu : Rel P ι (h.set b (.bld none)) w' ∧ Ext ι h w ι (h.set b (.bld none)) w' := Rel.grownAt r hp hg (by intro e; cases e) hs' (fun k hk h1 => hk' k hk h1 (by simp [Value.ownBlock])) ⟨_, _, _, hb', hT, .inr rfl, rfl⟩ as'
        have hheq : ∀ c, (h.set b (.bld none)).get c = h.get c := fun c => by rw [Heap.get_set]; split <;> first | (rename_i e; rw [e, hg]) | rfl
        refine ⟨_, _, _, _, w', hq, ?_, rel_part' hu.1 rfl (fun c x hx => by rw [hheq]; exact hx), ?_, hcall⟩
        · rw [hsz0]
          simp only [VR]
          exact ⟨_, rfl, VRs.mk (by simp only [VR]; rfl) (VRs.mk (by simp only [VR]) (VRs.nil.2 rfl))⟩
        · exact { hu.2 with habs := fun _ _ _ => rfl, next := Nat.le_refl _ }
      | cons a s =>
        simp only at hc
        split at hc
        · rename_i hle
          cases hc
          have hle := Nat.le_of_ble_eq_true hle
          obtain ⟨v', w', hcall, hb', hown', hs', hk', as', hnil, hblk⟩ := bld_write D bs hx haddr hown (by simp [Value.ownBlock]) (by rw [hsz]; omega)
          rw [hsz, Nat.zero_add, List.nil_append, hstr] at hown'
          rcases hown'.2 with ⟨_, h0⟩ | ⟨g', cap, cur, fz, rfl, _, hg', hfz, hnc, hcm, hcs, htake⟩
          · simp at h0
          have hgl : g' < w'.heap.size := by
            rcases Nat.lt_or_ge g' w'.heap.size with h' | h'
            · exact h'
            · simp [Array.getElem?_eq_none h'] at hg'
          have hge : w.heap.size ≤ g' := by
            rcases hblk with e | ⟨k, e, hk⟩
            · simp [Value.ownBlock] at e
            · simp [Value.ownBlock] at e; omega
          have := Rel.bldStep r (g' := g') (n' := cap) (w' := w') (ab := .bld (some (h.next, (a :: s).length))) (row := .bytes (a :: s)) hp hg (by intro e; cases e) (fun _ => False) hs'
            (fun k hk h1 _ _ => hk' k hk h1 (by simp [Value.ownBlock])) (by omega) hgl (.inl hge) (fun d q x hd hq _ => by have := r.size d q hd; omega) (fun _ h => h.elim) (fun _ _ _ _ h => h.elim)
            ⟨_, _, _, hb', hT, .inr rfl, _, Inj.add_same _ _ _, rfl⟩
            ⟨cur, ρ.t 5, fz, hg', D.e5, by simpa using hcs, hcm, by simpa using hfz, by simp at hcs hnc ⊢; omega, by simpa using htake, bs.data.toList, hbs⟩ as'
          refine ⟨_, _, _, _, w', hq, ?_, this.1, this.2, hcall⟩
          rw [hsz]
          simp only [VR]
          exact ⟨_, rfl, VRs.mk (by simp only [VR]; rfl) (VRs.mk (by simp only [VR]) (VRs.nil.2 rfl))⟩
        · cases hc
    · rename_i c n hg
      split at hc
      · rename_i l hgl
        split at hc
        · rename_i hcond
          cases hc
          simp only [Bool.and_eq_true, Nat.beq_eq, Nat.ble_eq] at hcond
          obtain ⟨⟨hln, hn1⟩, hbd⟩ := hcond
          obtain ⟨addr, vv, T, hx, hT, haddr, q, hcq, hvv⟩ := r.blocks b p _ hp hg
          have hT' := D.T _ hT; subst hT'
          subst hvv
          have hrow := r.blocks c q _ hcq hgl
          have hl8' : ∃ s8 : List UInt8, s8.map UInt8.toNat = l ++ s := by
            obtain ⟨_, _, _, _, _, _, _, _, _, _, l8, hl8⟩ := hrow
            exact ⟨l8 ++ bs.data.toList, by rw [List.map_append, hl8, hbs]⟩
          have hown := bytes_owns (w := w) D hrow
          rw [hln] at hown
          have hcb : c ≠ b := by intro e; subst e; rw [hg] at hgl; cases hgl
          have hqp : q.blk ≠ p.blk := by
            intro e
            rcases r.inj c b q p hcq hp e hcb _ _ hgl hg with h | h <;> cases h
          obtain ⟨v', w', hcall, hb', hown', hs', hk', as', hnil, hblk⟩ := bld_write D bs hx haddr hown (by simp [Value.ownBlock]; exact hqp) (by rw [hsz]; omega)
          rw [hsz, hstr, ← List.map_append] at hown'
          rcases hown'.2 with ⟨_, h0⟩ | ⟨g', cap, cur, fz, rfl, _, hg', hfz, hnc, hcm, hcs, htake⟩
          · omega
          have hgl' : g' < w'.heap.size := by
            rcases Nat.lt_or_ge g' w'.heap.size with h' | h'
            · exact h'
            · simp [Array.getElem?_eq_none h'] at hg'
          have hlen2 : (l ++ s).length = (n + s.length) * 1 := by rw [List.length_append, hln, Nat.mul_one]
          have htk : cur.toList.take (l ++ s).length = (l ++ s).map (fun (n : Nat) => Value.int .u8 n) := by rw [hlen2]; exact htake
          have hcd := r.dom c q hcq
          have hqs := r.size c q hcq
          have hge : g' = q.blk ∨ w.heap.size ≤ g' := by
            rcases hblk with e | ⟨k, e, hk⟩
            · simp [Value.ownBlock] at e; exact .inl e
            · simp [Value.ownBlock] at e; exact .inr (by omega)
          have r0 := r.bury hcd
          have e0 := Ext.bury (h := h) (w := w) hcq
          have hdead : ∀ d s' x, ι d = some s' → s'.blk = q.blk → (h.set c .dead).get d = some x → x = .dead := fun d s' x hd hs2 hx2 => by
            rw [Heap.get_set] at hx2
            split at hx2
            · cases hx2; rfl
            · rename_i hdc
              rcases r.inj d c s' q hd hcq hs2 hdc _ _ hx2 hgl with h | h
              · exact h
              · cases h
          have hg0 : (h.set c .dead).get b = some (.bld (some (c, n))) := by rw [Heap.get_set, if_neg (Ne.symm hcb)]; exact hg
          have := Rel.bldStep r0 (g' := g') (n' := cap) (w' := w') (ab := .bld (some (h.next, n + s.length))) (row := .bytes (l ++ s)) hp hg0 (by intro e; cases e) (fun k => k = q.blk) hs'
            (fun k hk h1 h2 h3 => hk' k hk h1 (by simp [Value.ownBlock]; exact h3))
            (by rcases hge with e | e <;> omega) hgl' (hge.symm.imp id fun e => ⟨c, q, hcq, e.symm⟩)
            (fun d s' x hd hs2 hx2 => by
              rcases hge with e | e
              · exact hdead d s' x hd (hs2.trans e) hx2
              · have := r.size d s' hd; omega)
            (fun k e => ⟨c, q, hcq, e.symm⟩) (hdead)
            ⟨_, _, _, hb', hT, .inr rfl, _, Inj.add_same _ _ _, rfl⟩
            ⟨cur, ρ.t 5, fz, hg', D.e5, by simpa using hcs, hcm, by simp at hfz ⊢; omega, by simp at hcs hnc ⊢; omega, htk, hl8'⟩ as'
          refine ⟨_, _, _, _, w', hq, ?_, this.1, e0.trans this.2, hcall⟩
          rw [hsz]
          simp only [VR]
          exact ⟨_, rfl, VRs.mk (by simp only [VR]; rfl) (VRs.mk (by simp only [VR]) (VRs.nil.2 rfl))⟩
        · cases hc
      · cases hc
    · cases hc
  · cases hc

theorem callW_bldString (D : BldP P ρ) {args : List AV} {v : AV} {h' : Heap} {Q : AV → Heap → Prop} (hc : bldString args h = some (v, h')) (hq : Q v h') : CallW P (.func (ρ.f 169) [] []) args h Q := by
  refine callW_of_calls D.L9.f169 (by rfl) (by kernel_rfl) fun ι w argv r ha => ?_
  unfold bldString at hc
  split at hc
  · rename_i b
    obtain ⟨pv, m, rfl, hp, ha⟩ := VRs.cons.1 ha
    rw [VRs.nil.1 ha]
    simp only [VR] at hp
    obtain ⟨p, hp, rfl⟩ := hp
    split at hc
    · rename_i hg
      cases hc
      obtain ⟨addr, vv, T, hx, hT, haddr, hvv⟩ := r.blocks b p _ hp hg
      have hT' := D.T _ hT; subst hT'
      simp only at hvv
      subst hvv
      exact ⟨_, _, ι, _, w.drew, hq, by simp only [VR]; exact ⟨_, rfl, rfl⟩, r.drew, Ext.drew ι h w, bld_String_nil D.L9 D.X p.blk addr w hx⟩
    · rename_i c n hg
      split at hc
      · rename_i l hgl
        split at hc
        · rename_i hcond
          cases hc
          simp only [Bool.and_eq_true, Nat.beq_eq, Nat.ble_eq] at hcond
          obtain ⟨hln, hn1⟩ := hcond
          obtain ⟨addr, vv, T, hx, hT, haddr, q, hcq, hvv⟩ := r.blocks b p _ hp hg
          have hT' := D.T _ hT; subst hT'
          subst hvv
          obtain ⟨cur, e, fz, hrow, he, hcs, hm, hfz, hle, ht, l8, rfl⟩ := r.blocks c q _ hcq hgl
          have he' := D.E _ he; subst he'
          subst hln
          have hl8 : l8 ≠ [] := by intro e; subst e; simp at hn1
          have hcall := bld_String D.L9 D.X p.blk q.blk q.n addr cur fz l8 w (by simpa using hx) hrow (by simp at hle; omega) hm hcs (by rw [byteCells_eq]; simpa using ht) hl8
          have hfro : (w.drew.freeze ⟨q.blk, 0, none⟩ l8.length).heap[q.blk]? = some (.cells cur (ρ.t 5) (if fz.1 == fz.2 then (0, 0 + l8.length) else (min fz.1 0, max fz.2 (0 + l8.length)))) := by
            have hl0 : l8.length ≠ 0 := by simpa using hl8
            have hrow' : w.drew.heap[q.blk]? = some (.cells cur (ρ.t 5) fz) := hrow
            obtain ⟨lo, hi⟩ := fz
            simp only [World.freeze, if_neg hl0, Array.getElem?_modify, hrow', if_pos, Option.map_some]
          have hcb : c ≠ b := by intro e; subst e; rw [hg] at hgl; cases hgl
          have hu := Rel.grownAt (w' := w.drew.freeze ⟨q.blk, 0, none⟩ l8.length) (ab := .bytes (l8.map UInt8.toNat)) r hcq hgl (by intro e; cases e) (by unfold World.freeze; split <;> simp) (fun k _ hk => by
            unfold World.freeze
            split
            · rfl
            · simp only [Array.getElem?_modify]; rw [if_neg (Ne.symm hk)]; rfl) ⟨cur, ρ.t 5, _, hfro, he, hcs, hm, by
              simp only [List.length_map] at hfz ⊢
              split
              · simp
              · simp only; omega, hle, ht, l8, rfl⟩ (by unfold World.freeze; split <;> exact ⟨rfl, rfl, rfl⟩)
          have hheq : ∀ d, (h.set c (.bytes (l8.map UInt8.toNat))).get d = h.get d := fun d => by rw [Heap.get_set]; split <;> first | (rename_i e; rw [e, hgl]) | rfl
          refine ⟨_, _, ι, _, _, hq, ?_, rel_part' hu.1 rfl (fun d x hx => by rw [hheq]; exact hx), { hu.2 with habs := fun _ _ _ => rfl, next := Nat.le_refl _ }, hcall⟩
          simp only [VR]
          exact ⟨_, rfl, rfl⟩
        · cases hc
      · cases hc
    · cases hc
  · cases hc
end
end Go.Ev

namespace Go.Ev.K
open Go Go.Ev

/-! ## Summaries of strings.Builder's methods -/
noncomputable def abBld (x : AB) : (Option (Nat × Nat) → Bool) → Bool := @AB.rec (fun _ => (Option (Nat × Nat) → Bool) → Bool) (fun _ _ _ => false) (fun _ _ _ => false) (fun _ _ _ _ _ _ _ _ => false) (fun _ _ => false) (fun buf K => K buf) (fun _ _ => false) (fun _ => false) x
noncomputable def abBytes (x : AB) : (List Nat → Bool) → Bool := @AB.rec (fun _ => (List Nat → Bool) → Bool) (fun _ _ _ => false) (fun _ _ _ => false) (fun _ _ _ _ _ _ _ _ => false) (fun _ _ => false) (fun _ _ => false) (fun l K => K l) (fun _ => false) x
noncomputable def natApp (l : List Nat) : List Nat → (List Nat → Bool) → Bool := @List.rec Nat (fun _ => List Nat → (List Nat → Bool) → Bool) (fun m K => K m) (fun a _ ih m K => ih m fun r => K (a :: r)) l
noncomputable def lenK (l : List Nat) : Nat → (Nat → Bool) → Bool := @List.rec Nat (fun _ => Nat → (Nat → Bool) → Bool) (fun n K => fN n K) (fun _ _ ih n K => fN (Nat.add n (nat_lit 1)) fun n' => ih n' K) l
noncomputable def arg1 (args : List AV) (K : AV → Bool) : Bool := @List.rec AV (fun _ => Bool) false (fun v m _ => @List.rec AV (fun _ => Bool) (K v) (fun _ _ _ => false) m) args
noncomputable def arg2 (args : List AV) (K : AV → AV → Bool) : Bool := @List.rec AV (fun _ => Bool) false (fun v m _ => arg1 m (K v)) args
noncomputable def wsNew (b : Nat) (s : List Nat) (n : Nat) (t : Hp) (K : KV) : Bool :=
  @List.rec Nat (fun _ => Bool) (K n t (.tup [.int .i64 (.ofNat (nat_lit 0)), .nili])) (fun _ _ _ => lenK s (nat_lit 0) fun m => ifB (Nat.ble m (nat_lit 4294967296)) (natApp s [] fun s' => hputK b (.bld (some (n, m))) t fun t1 => pushK (.bytes s') n t1 fun n2 t2 => K n2 t2 (.tup [.int .i64 (.ofNat m), .nili])) false) s
noncomputable def wsOld (b c k : Nat) (s : List Nat) (n : Nat) (t : Hp) (K : KV) : Bool :=
  hgetK c t fun y => optK y fun y => abBytes y fun l => lenK l (nat_lit 0) fun m => ifB (Nat.beq m k) (ifB (Nat.ble (nat_lit 1) k) (lenK s (nat_lit 0) fun j => ifB (Nat.ble (Nat.add k j) (nat_lit 4294967296)) (fN (Nat.add k j) fun q => natApp s [] fun s' => natApp l s' fun l' =>
    hputK c .dead t fun t1 => hputK b (.bld (some (n, q))) t1 fun t2 => pushK (.bytes l') n t2 fun n3 t3 => K n3 t3 (.tup [.int .i64 (.ofNat j), .nili])) false) false) false
noncomputable def sumWS : SumF := fun args n t K => arg2 args fun v u => onPtr v fun b o => ifB (Nat.beq o (nat_lit 0)) (onStr u (fun s => hgetK b t fun x => optK x fun x => abBld x fun buf =>
  @Option.rec (Nat × Nat) (fun _ => Bool) (wsNew b s n t K) (fun p => @Prod.rec Nat Nat (fun _ => Bool) (fun c k => wsOld b c k s n t K) p) buf) false) false
noncomputable def sumBS : SumF := fun args n t K => arg1 args fun v => onPtr v fun b o => ifB (Nat.beq o (nat_lit 0)) (hgetK b t fun x => optK x fun x => abBld x fun buf =>
  @Option.rec (Nat × Nat) (fun _ => Bool) (K n t (.str [])) (fun p => @Prod.rec Nat Nat (fun _ => Bool) (fun c k => hgetK c t fun y => optK y fun y => abBytes y fun l => lenK l (nat_lit 0) fun m => ifB (Nat.beq m k) (ifB (Nat.ble (nat_lit 1) k) (K n t (.str l)) false) false) p) buf) false

theorem natApp_eq : ∀ (l m : List Nat) (K : List Nat → Bool), natApp l m K = K (l ++ m)
  | [], _, _ => rfl
  | a :: l, m, K => natApp_eq l m fun r => K (a :: r)
theorem lenK_eq : ∀ (l : List Nat) (n : Nat) (K : Nat → Bool), lenK l n K = K (n + l.length)
  | [], n, K => by show fN n K = _; rw [fN_eq]; rfl
  | a :: l, n, K => by
    show fN (n + 1) (fun n' => lenK l n' K) = _
    rw [fN_eq, lenK_eq l (n + 1) K]
    congr 1; simp only [List.length_cons]; omega
theorem arg1_spec {args : List AV} {K : AV → Bool} (h : arg1 args K = true) : ∃ v, args = [v] ∧ K v = true := by
  cases args with
  | nil => exact Bool.noConfusion h
  | cons v m => cases m with
    | nil => exact ⟨v, rfl, h⟩
    | cons _ _ => exact Bool.noConfusion h
theorem arg2_spec {args : List AV} {K : AV → AV → Bool} (h : arg2 args K = true) : ∃ v u, args = [v, u] ∧ K v u = true := by
  cases args with
  | nil => exact Bool.noConfusion h
  | cons v m =>
    obtain ⟨u, rfl, h⟩ := arg1_spec (args := m) (K := K v) h
    exact ⟨v, u, rfl, h⟩
theorem abBld_spec {x : AB} {K : Option (Nat × Nat) → Bool} (h : abBld x K = true) : ∃ buf, x = .bld buf ∧ K buf = true := by
  cases x <;> first | exact ⟨_, rfl, h⟩ | exact Bool.noConfusion h
theorem abBytes_spec {x : AB} {K : List Nat → Bool} (h : abBytes x K = true) : ∃ l, x = .bytes l ∧ K l = true := by
  cases x <;> first | exact ⟨_, rfl, h⟩ | exact Bool.noConfusion h

section
variable {P : Program}
theorem sumWS_spec {args : List AV} {n : Nat} {t : Hp} {h : Heap} {K : KV} (hh : HeapOK n t h) (hk : sumWS args n t K = true) : ∃ v h', bldWrite args h = some (v, h') ∧ Good K v h' := by
  obtain ⟨v, u, rfl, h1⟩ := arg2_spec hk
  obtain ⟨b, o, rfl, h2⟩ := onPtr_spec h1
  obtain ⟨h3', h4⟩ := ifB_no (b := Nat.beq o 0) h2
  have h3 := Nat.eq_of_beq_eq_true h3'
  subst h3
  rcases onStr_spec h4 with h5 | ⟨s, rfl, h5⟩
  · cases h5
  obtain ⟨x, h6, h7⟩ := optK_some (hget_spec (K := fun x => optK x fun x => abBld x fun buf => @Option.rec (Nat × Nat) (fun _ => Bool) (wsNew b s n t K) (fun p => @Prod.rec Nat Nat (fun _ => Bool) (fun c k => wsOld b c k s n t K) p) buf) hh h5)
  obtain ⟨buf, rfl, h8⟩ := abBld_spec h7
  cases buf with
  | none =>
    have h9 : wsNew b s n t K = true := h8
    cases s with
    | nil => exact ⟨_, h, by simp only [bldWrite, h6], n, t, hh, h9⟩
    | cons a s =>
      have h10 : lenK (a :: s) 0 (fun m => ifB (Nat.ble m 4294967296) (natApp (a :: s) [] fun s' => hputK b (.bld (some (n, m))) t fun t1 => pushK (.bytes s') n t1 fun n2 t2 => K n2 t2 (.tup [.int .i64 (.ofNat m), .nili])) false) = true := h9
      rw [lenK_eq, Nat.zero_add] at h10
      obtain ⟨h11, h12⟩ := ifB_no h10
      rw [natApp_eq, List.append_nil] at h12
      obtain ⟨t1, h13, h14⟩ := hput_spec hh (x := .bld (some (n, (a :: s).length))) (K := fun t1 => pushK (.bytes (a :: s)) n t1 fun n2 t2 => K n2 t2 (.tup [.int .i64 (.ofNat (a :: s).length), .nili])) trivial h12
      obtain ⟨t2, h15, h16⟩ := push_spec h13 (x := .bytes (a :: s)) (K := fun n2 t2 => K n2 t2 (.tup [.int .i64 (.ofNat (a :: s).length), .nili])) trivial h14
      refine ⟨_, _, by simp only [bldWrite, h6, h11]; rw [hh.next], n + 1, t2, h15, h16⟩
  | some p =>
    obtain ⟨c, k⟩ := p
    have h9 : wsOld b c k s n t K = true := h8
    obtain ⟨y, h10, h11⟩ := optK_some (hget_spec (K := fun y => optK y fun y => abBytes y fun l => lenK l 0 fun m => ifB (Nat.beq m k) (ifB (Nat.ble 1 k) (lenK s 0 fun j => ifB (Nat.ble (Nat.add k j) 4294967296) (fN (Nat.add k j) fun q => natApp s [] fun s' => natApp l s' fun l' =>
      hputK c .dead t fun t1 => hputK b (.bld (some (n, q))) t1 fun t2 => pushK (.bytes l') n t2 fun n3 t3 => K n3 t3 (.tup [.int .i64 (.ofNat j), .nili])) false) false) false) hh h9)
    obtain ⟨l, rfl, h12⟩ := abBytes_spec h11
    rw [lenK_eq, Nat.zero_add] at h12
    obtain ⟨g1, h13⟩ := ifB_no h12
    obtain ⟨g2, h14⟩ := ifB_no h13
    rw [lenK_eq, Nat.zero_add] at h14
    obtain ⟨g3, h15⟩ := ifB_no h14
    rw [fN_eq, natApp_eq, natApp_eq, List.append_nil] at h15
    obtain ⟨t1, f1, f2⟩ := hput_spec hh (x := .dead) (K := fun t1 => hputK b (.bld (some (n, k + s.length))) t1 fun t2 => pushK (.bytes (l ++ s)) n t2 fun n3 t3 => K n3 t3 (.tup [.int .i64 (.ofNat s.length), .nili])) trivial h15
    obtain ⟨t2, f3, f4⟩ := hput_spec f1 (x := .bld (some (n, k + s.length))) (K := fun t2 => pushK (.bytes (l ++ s)) n t2 fun n3 t3 => K n3 t3 (.tup [.int .i64 (.ofNat s.length), .nili])) trivial f2
    obtain ⟨t3, f5, f6⟩ := push_spec f3 (x := .bytes (l ++ s)) (K := fun n3 t3 => K n3 t3 (.tup [.int .i64 (.ofNat s.length), .nili])) trivial f4
    have g3' : Nat.ble (k + s.length) 4294967296 = true := g3
    refine ⟨_, _, by simp only [bldWrite, h6, h10, g1, g2, g3', Bool.and_self]; rw [hh.next], n + 1, t3, f5, f6⟩

theorem sumBS_spec {args : List AV} {n : Nat} {t : Hp} {h : Heap} {K : KV} (hh : HeapOK n t h) (hk : sumBS args n t K = true) : ∃ v h', bldString args h = some (v, h') ∧ Good K v h' := by
  obtain ⟨v, rfl, h1⟩ := arg1_spec hk
  obtain ⟨b, o, rfl, h2⟩ := onPtr_spec h1
  obtain ⟨h3', h4⟩ := ifB_no (b := Nat.beq o 0) h2
  have h3 := Nat.eq_of_beq_eq_true h3'
  subst h3
  obtain ⟨x, h6, h7⟩ := optK_some (hget_spec (K := fun x => optK x fun x => abBld x fun buf => @Option.rec (Nat × Nat) (fun _ => Bool) (K n t (.str [])) (fun p => @Prod.rec Nat Nat (fun _ => Bool) (fun c k => hgetK c t fun y => optK y fun y => abBytes y fun l => lenK l 0 fun m => ifB (Nat.beq m k) (ifB (Nat.ble 1 k) (K n t (.str l)) false) false) p) buf) hh h4)
  obtain ⟨buf, rfl, h8⟩ := abBld_spec h7
  cases buf with
  | none => exact ⟨_, h, by simp only [bldString, h6], n, t, hh, h8⟩
  | some p =>
    obtain ⟨c, k⟩ := p
    obtain ⟨y, h10, h11⟩ := optK_some (hget_spec (K := fun y => optK y fun y => abBytes y fun l => lenK l 0 fun m => ifB (Nat.beq m k) (ifB (Nat.ble 1 k) (K n t (.str l)) false) false) hh h8)
    obtain ⟨l, rfl, h12⟩ := abBytes_spec h11
    rw [lenK_eq, Nat.zero_add] at h12
    obtain ⟨g1, h13⟩ := ifB_no h12
    obtain ⟨g2, h14⟩ := ifB_no h13
    exact ⟨_, h, by simp only [bldString, h6, h10, g1, g2, Bool.and_self], n, t, hh, h14⟩

theorem fok_ws {ρ : Go.Shelf.Ren} (D : BldP P ρ) {f : Nat} (e : ρ.f 166 = f) : FOK P f (KFP.sum sumWS) := by
  subst e
  refine .inr (.inr ⟨_, rfl, fun args n t h K hh hk => ?_⟩)
  obtain ⟨v, h', h1, h2⟩ := sumWS_spec hh hk
  exact callW_bldWrite D h1 h2
theorem fok_bs {ρ : Go.Shelf.Ren} (D : BldP P ρ) {f : Nat} (e : ρ.f 169 = f) : FOK P f (KFP.sum sumBS) := by
  subst e
  refine .inr (.inr ⟨_, rfl, fun args n t h K hh hk => ?_⟩)
  obtain ⟨v, h', h1, h2⟩ := sumBS_spec hh hk
  exact callW_bldString D h1 h2
end
end Go.Ev.K

namespace Go.Ev.K
open Go Go.Ev
/-! ## A summary of a call at one number, where the listed variable is read -/
noncomputable def sumND : SumF := fun args n t K => arg1 args fun v => onInt v (fun k i => ifB (kk k .u64) (@Int.rec (fun _ => Bool) (fun m => ifB (Nat.beq m (nat_lit 1)) (K n t (.int .i64 (.ofNat (nat_lit 1)))) false) (fun _ => false) i) false) false
theorem fok_nd {P : Program} {f : Nat} {fn : Func} (hf : P.funcs[f]? = some fn) (hb : fn.body.isNone = false) (hn : (fn.name == "runtime.NumGoroutine") = false)
    (H : ∀ w, GlobOK P (fun _ => none) w → Calls P f #[.int .u64 1] w fun e w' => e = .returned (.int .i64 1) ∧ w' = w) : FOK P f (KFP.sum sumND) := by
  refine .inr (.inr ⟨_, rfl, fun args n t h K hh hk => ?_⟩)
  obtain ⟨v, rfl, h1⟩ := arg1_spec hk
  rcases onInt_spec h1 with h2 | ⟨k, i, rfl, h3⟩
  · cases h2
  obtain ⟨h4, h5⟩ := ifB_no h3
  have e := kk_eq h4
  subst e
  cases i with
  | negSucc m => exact Bool.noConfusion h5
  | ofNat m =>
    obtain ⟨h6, h7⟩ := ifB_no (b := Nat.beq m 1) h5
    have e := Nat.eq_of_beq_eq_true h6
    subst e
    refine callW_of_calls hf hb hn fun ι w argv r ha => ?_
    obtain ⟨x, m', rfl, hx, ha⟩ := VRs.cons.1 ha
    rw [VRs.nil.1 ha]
    simp only [VR] at hx
    subst hx
    exact ⟨_, h, ι, .int .i64 1, w, ⟨n, t, hh, h7⟩, by simp only [VR]; rfl, r, .refl ι h w, H w r.glob.none⟩
end Go.Ev.K
