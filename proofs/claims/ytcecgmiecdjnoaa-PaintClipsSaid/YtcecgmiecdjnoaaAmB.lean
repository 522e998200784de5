/- The abstract machine: new variables, literals, make. -/
import Derived.Test.YtcecgmiecdjnoaaAmA
import Derived.Laws.MakeOwn
import Derived.Deep.AppendSrc
import Derived.Laws.StructEq
set_option linter.unusedVariables false
set_option linter.unusedSimpArgs false
namespace AM
open Go

theorem foldl_set_list (off : Nat) : ∀ (l : List Value) (k : Nat) (cells : Array Value), off + k + l.length ≤ cells.size →
    ((l.zipIdx k).foldl (fun cs (p : Value × Nat) => cs.setIfInBounds (off + p.2) p.1) cells).toList = cells.toList.take (off + k) ++ l ++ cells.toList.drop (off + k + l.length)
  | [], k, cells, _ => by simp
  | v :: r, k, cells, h => by
    simp only [List.length_cons] at h
    rw [List.zipIdx_cons, List.foldl_cons, foldl_set_list off r (k + 1) _ (by simp; omega)]
    have hlt : off + k < cells.toList.length := by simp; omega
    simp only [Array.toList_setIfInBounds]
    have e1 : (cells.toList.set (off + k) v).take (off + (k + 1)) = cells.toList.take (off + k) ++ [v] := by
      rw [← Nat.add_assoc, List.take_add_one, List.getElem?_set_self hlt, List.take_set_of_le (by omega)]
      rfl
    have e2 : (cells.toList.set (off + k) v).drop (off + (k + 1) + r.length) = cells.toList.drop (off + k + (r.length + 1)) := by
      rw [List.drop_set_of_lt (by omega)]
      congr 1; omega
    rw [e1, e2]
    simp

theorem fill_step (place : Nat → Option (Nat × Nat)) (cells : Array Value) (i : Nat) (u : Value) (rest : List (Nat × Value)) {off size : Nat} (hp : place i = some (off, size)) (hs : u.cells.size = size) (hle : off + size ≤ cells.size) :
    Instr.fill place cells ((i, u) :: rest) = Instr.fill place (cells.toList.take off ++ u.cells.toList ++ cells.toList.drop (off + size)).toArray rest := by
  have hne : ¬ (u.cells.size ≠ size || off + u.cells.size > cells.size) = true := by
    simp only [ne_eq, Bool.or_eq_true, decide_eq_true_eq, not_or]
    omega
  have hfold : u.cells.zipIdx.foldl (fun cs (p : Value × Nat) => cs.setIfInBounds (off + p.2) p.1) cells = (cells.toList.take off ++ u.cells.toList ++ cells.toList.drop (off + size)).toArray := by
    apply Array.ext'
    rw [← Array.foldl_toList, Array.toList_zipIdx, foldl_set_list off u.cells.toList 0 cells (by simp; omega)]
    simp [hs]
  simp only [Instr.fill, hp]
  rw [if_neg hne]
  congr 1

section
variable {P : Program} {F : Fr} {tb : Tab} {s s' : St} {loc : Nat → Value} {a : Act} {w : World} {o : Oper} {v : V}

/-! ### A struct's literal -/
theorem places_get {P : Program} : ∀ {fs : List (Nat × TypeId)} {gs : List Field}, fieldsB P fs gs = true → ∃ places : List (Nat × Nat), gs.mapM (fun f => (P.info? f.type).map fun i => (f.offset, i.size)) = some places ∧
    ∀ k off ft, nth fs k = some (off, ft) → places[k]? = some (off, P.cellsOf ft)
  | [], [], _ => ⟨[], rfl, fun k off ft h => by cases k <;> simp [nth] at h⟩
  | [], _ :: _, hb => by simp [fieldsB] at hb
  | _ :: _, [], hb => by simp [fieldsB] at hb
  | (o, t) :: r, f :: q, hb => by
    simp only [fieldsB, Bool.and_eq_true] at hb
    obtain ⟨places, hp, hk⟩ := places_get (fs := r) (gs := q) hb.2
    have ho : f.offset = o := (Nat.eq_of_beq_eq_true hb.1.1.1).symm
    have ht : f.type = t := (Nat.eq_of_beq_eq_true hb.1.1.2).symm
    have hne : P.cellsOf t ≠ 0 := fun e => by have := hb.1.2; rw [e] at this; simp at this
    cases hi : P.info? t with
    | none => simp [Program.cellsOf, hi] at hne
    | some i =>
      refine ⟨(o, i.size) :: places, by simp [List.mapM_cons, ht, hi, ho, hp], fun k off ft h => ?_⟩
      cases k with
      | zero =>
        simp only [nth, Option.some.injEq, Prod.mk.injEq] at h
        obtain ⟨rfl, rfl⟩ := h
        simp [Program.cellsOf, hi]
      | succ k => simpa using hk k off ft (by simpa [nth] using h)

theorem build_fill (hb : tabB P tb = true) (h : RelL F s loc a w) {offs : List (Nat × TypeId)} {place : Nat → Option (Nat × Nat)} (hp : ∀ k off ft, nth offs k = some (off, ft) → place k = some (off, P.cellsOf ft)) :
    ∀ (parts : List (Nat × Operand)) (cs : List V) (us : List Value) (ds : List V), VRs (cxOf F s loc w) cs us → (∀ u ∈ us, u.oneCell' = true) → buildA tb s offs cs parts = some ds →
      ∃ qs : List Value, Instr.fill place us.toArray (parts.map fun (i, x) => (i, a.eval x)) = some qs.toArray ∧ VRs (cxOf F s loc w) ds qs ∧ ∀ u ∈ qs, u.oneCell' = true
  | [], cs, us, ds, hv, h1, hd => by
    simp only [buildA, Option.some.injEq] at hd
    subst hd
    exact ⟨us, rfl, hv, h1⟩
  | (i, x) :: r, cs, us, ds, hv, h1, hd => by
    simp only [buildA] at hd
    cases hn : nth offs i with
    | none => rw [hn] at hd; cases hd
    | some q =>
      obtain ⟨off, ft⟩ := q
      rw [hn] at hd
      simp only at hd
      cases hte : tb.get ft with
      | none => rw [hte] at hd; cases hd
      | some j =>
        rw [hte] at hd
        simp only at hd
        cases hc : ((s.val x).sure && Nat.beq (s.val x).cellsOf.length j.size && Nat.ble (off + j.size) cs.length)
        · rw [hc] at hd; cases hd
        · rw [hc] at hd
          simp only [cond_true] at hd
          simp only [Bool.and_eq_true] at hc
          have hsz := Nat.eq_of_beq_eq_true hc.1.2
          have hle := Nat.le_of_ble_eq_true hc.2
          obtain ⟨hvs, hone⟩ := VR_cells (x := cxOf F s loc w) h.blk (h.oper x) hc.1.1
          have hlen := VRs.len hvs
          have hlu := VRs.len hv
          have hj := ti_ok hb hte
          have hcs : (a.eval x).cells.size = j.size := by have : (a.eval x).cells.size = (a.eval x).cells.toList.length := by simp
                                                          omega
          have hset := VRs_set hv hvs off
          have hone' : ∀ u ∈ us.take off ++ (a.eval x).cells.toList ++ us.drop (off + (a.eval x).cells.toList.length), u.oneCell' = true := by
            intro u hu
            simp only [List.mem_append] at hu
            rcases hu with (hu | hu) | hu
            · exact h1 u (List.mem_of_mem_take hu)
            · exact hone u hu
            · exact h1 u (List.mem_of_mem_drop hu)
          obtain ⟨qs, hq1, hq2⟩ := build_fill hb h hp r _ _ ds hset hone' hd
          refine ⟨qs, ?_, hq2⟩
          rw [List.map_cons, fill_step place us.toArray i (a.eval x) _ (hp i off ft hn) (by rw [hcs, hj.cellsOf]) (by rw [hj.cellsOf]; simp; omega)]
          rw [hj.cellsOf]
          have : (a.eval x).cells.toList.length = j.size := by omega
          rw [this] at hq1
          exact hq1

theorem meets_build (hb : tabB P tb = true) (h : RelL F s loc a w) {t : TypeId} {parts : Array (Nat × Operand)} (ho : o.op = .build t parts) {d : Nat} {g : Bool} (hl : opA tb s d (.build t parts) = some (g, v, s')) : g = true → Meets P F a w o v s' := by
  intro hg
  simp only [opA] at hl
  cases hti : tb.get t with
  | none => simp only [hti, reduceCtorEq] at hl
  | some i =>
    have hok := ti_ok hb hti
    obtain ⟨t0, kd, sz, byt, ty, zr, eqq⟩ := i
    rw [hti] at hl
    cases kd <;> simp only [reduceCtorEq] at hl
    rename_i fs
    cases hd : buildA tb s fs zr parts.toList with
    | none => rw [hd] at hl; cases hl
    | some cs =>
      rw [hd] at hl
      simp only [Option.some.injEq, Prod.mk.injEq] at hl
      obtain ⟨rfl, rfl, rfl⟩ := hl
      obtain ⟨j, z, hj, hjs, hjb, hjz, hz, _⟩ := hok.info
      have hk := hok.kd
      cases hu : P.underlying t with
      | none => rw [hu] at hk; simp [kdB] at hk
      | some dd =>
        rw [hu] at hk
        cases dd <;> simp only [kdB, Bool.false_eq_true] at hk
        rename_i gs
        obtain ⟨places, hpl, hpk⟩ := places_get hk
        obtain ⟨hz1, hz2⟩ := zbs_VRs (x := cxOf F s loc w) hz
        obtain ⟨qs, hq1, hq2, hq3⟩ := build_fill hb h (place := (places.toArray[·]?)) (fun k off ft hn => by simpa using hpk k off ft hn) parts.toList zr z.cells.toList cs hz1 hz2 hd
        have hbuilt : P.built t ((parts.map fun (i, x) => (i, a.eval x)).toList) = some qs.toArray := by
          unfold Program.built
          rw [hj, hu]
          simp only [hjz, hpl]
          simpa using hq1
        refine meets_pure h (u := .agg qs.toArray) (execOp_v (X := Instr.build t (parts.map fun (i, x) => (i, a.eval x))) (by simp [execOp, ho]) (run_build w t _ _ hbuilt)) ⟨qs, rfl, hq2, hq3⟩

/-! ### A new variable -/
theorem meets_alloc (hb : tabB P tb = true) (h : RelL F s loc a w) {t : TypeId} (ho : o.op = .alloc t) {d : Nat} {g : Bool} (hl : opA tb s d (.alloc t) = some (g, v, s')) : g = true → Meets P F a w o v s' := by
  intro hg
  simp only [opA] at hl
  cases hti : tb.get t with
  | none => simp only [hti, reduceCtorEq] at hl
  | some i =>
    have hok := ti_ok hb hti
    rw [hti] at hl
    simp only at hl
    cases hc : (s.free d && Nat.beq i.zero.length i.size)
    · rw [hc] at hl; cases hl
    · rw [hc] at hl
      simp only [cond_true, Option.some.injEq, Prod.mk.injEq] at hl
      obtain ⟨rfl, rfl, rfl⟩ := hl
      simp only [Bool.and_eq_true] at hc
      have hfree : s.mem d = .dead := by
        have := hc.1
        unfold St.free at this
        cases hm : s.mem d <;> rw [hm] at this <;> simp at this ⊢
      obtain ⟨j, z, hj, hjs, hjb, hjz, hz, _⟩ := hok.info
      have hal := h.alloc hfree (.cells z.cells t) (.cells t i.zero) (.pointer (some ⟨w.heap.size, 0, none⟩)) rfl (fun hle => by
        refine ⟨w.heap.size, z.cells.toList, upd_same _ _ _, ?_, (zbs_VRs hz).1, (zbs_VRs (x := cxOf F s loc w) hz).2⟩
        show (w.alloc _).heap[w.heap.size]? = _
        rw [heap_alloc_new])
      refine ⟨.pointer (some ⟨w.heap.size, 0, none⟩), w.alloc (.cells z.cells t), _, .inl (execOp_v (X := Instr.alloc t true (.tuple #[])) (by simp [execOp, ho]) ?_), hal.1, ?_⟩
      · simp [Instr.alloc, zeroValue, typeInfo, hj, hjz, newVar, newRow]
      · refine ⟨?_, w.heap.size, upd_same _ _ _, rfl⟩
        show isCell (upd s.mem d _ d)
        rw [upd_same]; trivial

theorem free_dead {s : St} {d : Nat} (h : s.free d = true) : s.mem d = .dead := by
  unfold St.free at h
  cases hm : s.mem d <;> rw [hm] at h <;> simp at h ⊢

theorem meets_box (hb : tabB P tb = true) (h : RelL F s loc a w) {t : TypeId} {x : Operand} (ho : o.op = .box t x) {d : Nat} {g : Bool} (hl : opA tb s d (.box t x) = some (g, v, s')) : g = true → Meets P F a w o v s' := by
  intro hg
  simp only [opA] at hl
  cases hc : (s.free d && (s.val x).sure)
  · rw [hc] at hl; cases hl
  · rw [hc] at hl
    simp only [cond_true, Option.some.injEq, Prod.mk.injEq] at hl
    obtain ⟨rfl, rfl, rfl⟩ := hl
    simp only [Bool.and_eq_true] at hc
    have hfree := free_dead hc.1
    obtain ⟨hvs, hone⟩ := VR_cells (x := cxOf F s loc w) h.blk (h.oper x) hc.2
    have hal := h.alloc hfree (.cells (a.eval x).cells t) (.cells t (s.val x).cellsOf) (.pointer (some ⟨w.heap.size, 0, none⟩)) rfl (fun hle => by
      refine ⟨w.heap.size, (a.eval x).cells.toList, upd_same _ _ _, ?_, VRs.mono hle _ _ hvs, hone⟩
      show (w.alloc _).heap[w.heap.size]? = _
      rw [heap_alloc_new])
    refine ⟨.pointer (some ⟨w.heap.size, 0, none⟩), w.alloc (.cells (a.eval x).cells t), _, .inl (execOp_v (X := Instr.box t (a.eval x)) (by simp [execOp, ho]) ?_), hal.1, ?_⟩
    · simp [Instr.box, newVar, newRow]
    · refine ⟨?_, w.heap.size, upd_same _ _ _, rfl⟩
      show isCell (upd s.mem d _ d)
      rw [upd_same]; trivial

theorem meets_range (hb : tabB P tb = true) (h : RelL F s loc a w) {t : TypeId} {x : Operand} (ho : o.op = .range t x) {d : Nat} {g : Bool} (hl : opA tb s d (.range t x) = some (g, v, s')) : g = true → Meets P F a w o v s' := by
  intro hg
  have hv := h.oper x
  simp only [opA] at hl
  generalize s.val x = vx at hl hv
  cases vx <;> simp only [reduceCtorEq] at hl
  rename_i b
  cases hti : tb.get t with
  | none => simp only [hti, reduceCtorEq] at hl
  | some i =>
    have hok := ti_ok hb hti
    obtain ⟨t0, kd, sz, byt, ty, zr, eqq⟩ := i
    rw [hti] at hl
    cases kd <;> simp only [reduceCtorEq] at hl
    cases hc : s.free d
    · rw [hc] at hl; cases hl
    · rw [hc] at hl
      simp only [cond_true, Option.some.injEq, Prod.mk.injEq] at hl
      obtain ⟨rfl, rfl, rfl⟩ := hl
      have hu := hok.under_str rfl
      have hal := h.alloc (free_dead hc) (.stringIter b 0) (.iter b 0) (.pointer (some ⟨w.heap.size, 0, none⟩)) rfl (fun hle => ⟨w.heap.size, upd_same _ _ _, heap_alloc_new w _⟩)
      refine ⟨.pointer (some ⟨w.heap.size, 0, none⟩), w.alloc (.stringIter b 0), _, .inl (execOp_v (X := Instr.range t (a.eval x)) (by simp [execOp, ho]) ?_), hal.1, ?_⟩
      · have hx : a.eval x = .string b := hv
        simp [Instr.range, run_underlying hu, hx]
      · refine ⟨?_, w.heap.size, upd_same _ _ _, rfl⟩
        show isCell (upd s.mem d _ d)
        rw [upd_same]; trivial

/-! ### make -/
theorem mod_flat (z : List Value) : ∀ (c : Nat), (List.range (c * z.length)).map (fun i => z.toArray[i % z.length]!) = (List.replicate c z).flatten
  | 0 => by simp
  | c + 1 => by
    rw [Nat.succ_mul, Nat.add_comm, List.range_add, List.map_append, List.map_map, List.replicate_succ, List.flatten_cons]
    congr 1
    · apply List.ext_getElem
      · simp
      · intro i h1 h2
        simp at h1
        simp [Nat.mod_eq_of_lt h1, h2]
    · rw [← mod_flat z c]
      apply List.map_congr_left
      intro i hi
      simp

theorem madeCells_flat (z : Array Value) (c : Nat) : (madeCells z (c * z.size)).toList = (List.replicate c z.toList).flatten := by
  have := mod_flat z.toList c
  simpa [madeCells] using this

theorem take_flat {α : Type} (z : List α) : ∀ (n c : Nat), n ≤ c → ((List.replicate c z).flatten).take (n * z.length) = (List.replicate n z).flatten
  | 0, c, _ => by simp
  | n + 1, 0, h => by omega
  | n + 1, c + 1, h => by
    rw [List.replicate_succ, List.replicate_succ, List.flatten_cons, List.flatten_cons, Nat.succ_mul, Nat.add_comm, List.take_length_add_append, take_flat z n c (by omega)]

theorem meets_make (hb : tabB P tb = true) (h : RelL F s loc a w) {t : TypeId} {x y : Operand} (ho : o.op = .makeSlice t x y) {d : Nat} {g : Bool} (hl : opA tb s d (.makeSlice t x y) = some (g, v, s')) : g = true → Meets P F a w o v s' := by
  intro hg
  have hvx := h.oper x
  have hvy := h.oper y
  simp only [opA] at hl
  generalize s.val x = vx at hl hvx
  generalize s.val y = vy at hl hvy
  cases hti : tb.get t with
  | none => simp only [hti, reduceCtorEq] at hl
  | some i =>
    have hok := ti_ok hb hti
    obtain ⟨t0, kd, sz, byt, ty, zr, eqq⟩ := i
    rw [hti] at hl
    cases kd <;> simp only [reduceCtorEq] at hl
    rename_i et
    cases hte : tb.get et with
    | none => simp only [hte, reduceCtorEq] at hl
    | some j =>
      have hj := ti_ok hb hte
      simp only [hte] at hl
      cases hty : j.ty with
      | none => simp only [hty, reduceCtorEq] at hl
      | some e =>
        simp only [hty] at hl
        cases hc : (s.free d && Nat.beq j.size e.size && Nat.ble 1 j.size && Nat.ble 1 j.bytes)
        · rw [hc] at hl; cases hl
        · rw [hc] at hl
          simp only [cond_true] at hl
          simp only [Bool.and_eq_true] at hc
          cases vx <;> cases vy <;> try (simp only [reduceCtorEq] at hl; done)
          rename_i k n k' m
          cases k <;> cases k' <;> try (simp only [reduceCtorEq] at hl; done)
          simp only [Option.some.injEq, Prod.mk.injEq] at hl
          obtain ⟨rfl, rfl, rfl⟩ := hl
          simp only [Bool.and_eq_true, decide_eq_true_eq, roomOk] at hg
          obtain ⟨⟨h0, h1⟩, h2⟩ := hg
          obtain ⟨jj, z, hjj, hjs, hjb, hjz, hz, hze⟩ := hj.info
          obtain ⟨hes, hea, hzt⟩ := hze e hty
          have hfree := free_dead hc.1.1.1
          have hb1 := Nat.le_of_ble_eq_true hc.2
          have hmm : m.toNat ≤ 140737488355328 := Nat.le_trans (Nat.le_mul_of_pos_right _ hb1) h2
          have hmi : (m.toNat : Int) = m := by omega
          have hbytes : (jj.bytes : Int) * m ≤ 281474976710656 := by
            have h3 : ((jj.bytes * m.toNat : Nat) : Int) ≤ 281474976710656 := by rw [hjb, Nat.mul_comm]; omega
            rwa [Int.natCast_mul, hmi] at h3
          have hr := run_make (P := P) w t et jj z (hok.under_slice rfl) hjj hjz .i64 .i64 n m h0 h1 hbytes (by omega)
          have hzs : z.cells.size = e.size := by
            have := RdC.len e (encZ_Rd (ok := fun _ => True) (w := w) e hzt)
            simpa using this
          have hsz : jj.size = z.cells.size := by rw [hjs, hzs, hes]
          rw [hsz] at hr
          have hrd := encZ_Rd (ok := okOf F s.mem loc w) (w := w) e hzt
          have hal := h.alloc hfree (.cells (madeCells z.cells (m.toNat * z.cells.size)) et) (.arr et e (List.replicate n.toNat e.d)) (.slice (some ⟨w.heap.size, 0, none⟩) n.toNat m.toNat) rfl (fun hle => by
            refine ⟨(List.replicate n.toNat z.cells.toList).flatten, ⟨?_, .inr ⟨w.heap.size, m.toNat, _, ?_, Nat.zero_le _, heap_alloc_new w _, ?_, ?_, ?_, ?_⟩⟩, Els.replicate (RdC.mono hle.ok hle.cell e hrd) _⟩
            · simp [hzs]
            · rw [List.length_replicate]; exact upd_same _ _ _
            · rw [List.length_replicate]; omega
            · simp only [maxLen]; omega
            · rw [size_madeCells, hzs]
            · rw [List.length_replicate, madeCells_flat, ← hzs]
              have := take_flat z.cells.toList n.toNat m.toNat (by omega)
              simpa using this)
          refine ⟨_, _, _, .inl (execOp_v (X := Instr.makeSlice t (a.eval x) (a.eval y)) (by simp [execOp, ho]) (by rw [show a.eval x = _ from hvx, show a.eval y = _ from hvy]; exact hr)), hal.1, ?_⟩
          refine ⟨(upd_same _ _ _).symm, ?_⟩
          show isArr (upd s.mem d _ d)
          rw [upd_same]; trivial
end
end AM
namespace AM
open Go

section
variable {P : Program} {F : Fr} {tb : Tab} {s s' : St} {loc : Nat → Value} {a : Act} {w : World} {o : Oper} {v : V}

theorem le_maxLen {n : Nat} (h : n ≤ 1000000) : n ≤ maxLen := Nat.le_trans h (by unfold maxLen; decide)

/-! ### 1. A slice's literal -/
theorem slice_fill (h : RelL F s loc a w) {e : Ty} : ∀ (parts : List (Nat × Operand)) (k : Nat) (cells : List Value) (xs : List e.T) (fs : List Nat), fillIx k parts = true → decAll s e (parts.map (·.2)) = some (xs, fs) → (k + parts.length) * e.size ≤ cells.length →
    ∃ vs : List Value, Els (fun x q => RdC (okF (cxOf F s loc w) fs) w e x q) xs vs ∧ vs.length = parts.length * e.size ∧ xs.length = parts.length ∧
      Instr.fill (fun i => some (i * e.size, e.size)) cells.toArray (parts.map fun (i, x) => (i, a.eval x)) = some (cells.take (k * e.size) ++ vs ++ cells.drop ((k + parts.length) * e.size)).toArray
  | [], k, cells, xs, fs, _, hd, _ => by
    simp only [List.map_nil, decAll, Option.some.injEq, Prod.mk.injEq] at hd
    obtain ⟨rfl, rfl⟩ := hd
    exact ⟨[], rfl, by simp, rfl, by simp [Instr.fill]⟩
  | (i, x) :: r, k, cells, xs, fs, hi, hd, hl => by
    simp only [fillIx, Bool.and_eq_true] at hi
    have hik := Nat.eq_of_beq_eq_true hi.1
    subst hik
    simp only [List.map_cons, decAll] at hd
    cases h1 : decV s.mem e (s.val x) with
    | none => rw [h1] at hd; cases hd
    | some q =>
      obtain ⟨y, f1⟩ := q
      rw [h1] at hd
      cases h2 : decAll s e (r.map (·.2)) with
      | none => rw [h2] at hd; cases hd
      | some q2 =>
        obtain ⟨ys, f2⟩ := q2
        rw [h2] at hd
        simp only [Option.some.injEq, Prod.mk.injEq] at hd
        obtain ⟨rfl, rfl⟩ := hd
        have hs := decV_sure h1
        have hrd := decV_sound (x := cxOf F s loc w) h.blk (h.oper x) hs h1
        have hlen := RdC.len e hrd
        have hlen' : (a.eval x).cells.size = e.size := by simpa using hlen
        simp only [List.length_cons] at hl
        have hm : (i + (r.length + 1)) * e.size = i * e.size + e.size + r.length * e.size := by rw [Nat.add_mul, Nat.succ_mul]; omega
        have hlc : (cells.take (i * e.size) ++ (a.eval x).cells.toList ++ cells.drop (i * e.size + e.size)).length = cells.length := by
          simp only [List.length_append, List.length_take, List.length_drop]; omega
        obtain ⟨vs, he, hvl, hxl, hf⟩ := slice_fill h r (i + 1) (cells.take (i * e.size) ++ (a.eval x).cells.toList ++ cells.drop (i * e.size + e.size)) ys f2 hi.2 h2 (by
          rw [hlc]
          have : (i + 1 + r.length) * e.size = i * e.size + e.size + r.length * e.size := by rw [Nat.add_mul, Nat.succ_mul]
          omega)
        refine ⟨(a.eval x).cells.toList ++ vs, ⟨_, _, rfl, RdC_ok (fun g hg => okF_l hg) hrd, Els.mono (fun y q hq => RdC_ok (fun g hg => okF_r hg) hq) he⟩, by simp only [List.length_append, hvl, hlen, List.length_cons, Nat.succ_mul]; omega, by simp [hxl], ?_⟩
        rw [List.map_cons, fill_step _ cells.toArray i (a.eval x) _ rfl hlen' (by simp; omega)]
        simp only [List.length_cons]
        rw [hf]
        congr 2
        have e1 : (i + 1) * e.size = i * e.size + e.size := Nat.succ_mul _ _
        have hpre : (cells.take (i * e.size) ++ (a.eval x).cells.toList).length = i * e.size + e.size := by rw [List.length_append, List.length_take, hlen]; omega
        have t1 : (cells.take (i * e.size) ++ (a.eval x).cells.toList ++ cells.drop (i * e.size + e.size)).take ((i + 1) * e.size) = cells.take (i * e.size) ++ (a.eval x).cells.toList := by
          rw [e1, ← hpre, List.take_left]
        have t2 : (cells.take (i * e.size) ++ (a.eval x).cells.toList ++ cells.drop (i * e.size + e.size)).drop ((i + 1 + r.length) * e.size) = cells.drop ((i + (r.length + 1)) * e.size) := by
          have : (i + 1 + r.length) * e.size = (i * e.size + e.size) + r.length * e.size := by rw [Nat.add_mul, Nat.succ_mul]
          rw [this, ← List.drop_drop, ← hpre, List.drop_left, hpre, List.drop_drop, hm]
        have t3 : i * e.size + e.size = (i + 1) * e.size := e1.symm
        simp only [List.toList_toArray] at *
        rw [t1, t2]
        simp [List.append_assoc]

theorem exec_buildSlice {t : TypeId} {n : Nat} {parts : Array (Nat × Operand)} (ho : o.op = .buildSlice t n parts) : execOp a.eval o = (do pure (.value (← Instr.buildSlice t n (parts.map fun (i, x) => (i, a.eval x))))) := by
  simp [execOp, ho]

theorem meets_buildSlice (hb : tabB P tb = true) (h : RelL F s loc a w) {t : TypeId} {n : Nat} {parts : Array (Nat × Operand)} (ho : o.op = .buildSlice t n parts) {d : Nat} {g : Bool} (hl : opA tb s d (.buildSlice t n parts) = some (g, v, s')) : g = true → Meets P F a w o v s' := by
  intro hg
  simp only [opA] at hl
  cases hti : tb.get t with
  | none => simp only [hti, reduceCtorEq] at hl
  | some i =>
    have hok := ti_ok hb hti
    obtain ⟨t0, kd, sz, byt, ty, zr, eqq⟩ := i
    rw [hti] at hl
    cases kd <;> simp only [reduceCtorEq] at hl
    rename_i et
    cases hte : tb.get et with
    | none => simp only [hte, reduceCtorEq] at hl
    | some j =>
      have hj := ti_ok hb hte
      simp only [hte] at hl
      cases hty : j.ty with
      | none => simp only [hty, reduceCtorEq] at hl
      | some e =>
        simp only [hty] at hl
        cases hc : (s.free d && Nat.beq j.size e.size && Nat.beq n parts.toList.length && fillIx 0 parts.toList && Nat.ble (n * j.size) 1000000 && Nat.ble n 1000000)
        · rw [hc] at hl; cases hl
        · rw [hc] at hl
          simp only [cond_true] at hl
          cases hd : decAll s e (parts.toList.map (·.2)) with
          | none => rw [hd] at hl; cases hl
          | some q =>
            obtain ⟨xs, fs⟩ := q
            rw [hd] at hl
            simp only [Option.some.injEq, Prod.mk.injEq] at hl
            obtain ⟨rfl, rfl, rfl⟩ := hl
            simp only [Bool.and_eq_true] at hc
            obtain ⟨⟨⟨⟨⟨h1, h2⟩, h3⟩, h4⟩, h5⟩, h6⟩ := hc
            have h6 := Nat.le_of_ble_eq_true h6
            have hsz := Nat.eq_of_beq_eq_true h2
            have hn := Nat.eq_of_beq_eq_true h3
            have hbig := Nat.le_of_ble_eq_true h5
            have hfree := freeze_dead fs s d (free_dead h1)
            obtain ⟨jj, z, hjj, hjs, hjb, hjz, hz, hze⟩ := hj.info
            obtain ⟨hes, hea, hzt⟩ := hze e hty
            have hzs : z.cells.size = e.size := by
              have := RdC.len e (encZ_Rd (ok := fun _ => True) (w := w) e hzt)
              simpa using this
            have hjj' : jj.size = e.size := by rw [hjs, hsz]
            have hlenc : ∀ (zz : Array Value), ((Array.range (n * e.size)).map fun i => zz[i % zz.size]!).toList.length = n * e.size := fun zz => by simp
            have hrun : ∀ (zz : Array Value), ∃ vs : List Value, Els (fun x q => RdC (okF (cxOf F s loc w) fs) w e x q) xs vs ∧ xs.length = n ∧ vs.length = n * e.size ∧
                Instr.fill (fun i => some (i * e.size, e.size)) ((Array.range (n * e.size)).map fun i => zz[i % zz.size]!) (parts.toList.map fun (i, x) => (i, a.eval x)) = some vs.toArray := by
              intro zz
              obtain ⟨vs, he, hvl, hxl, hf⟩ := slice_fill h parts.toList 0 ((Array.range (n * e.size)).map fun i => zz[i % zz.size]!).toList xs fs h4 hd (by rw [hlenc, ← hn, Nat.zero_add]; exact Nat.le_refl _)
              refine ⟨vs, he, by rw [hxl, ← hn], by rw [hvl, ← hn], ?_⟩
              rw [Array.toArray_toList] at hf
              rw [hf, ← hn]
              congr 2
              rw [Nat.zero_mul, List.take_zero, List.nil_append, Nat.zero_add, List.drop_eq_nil_of_le (by rw [hlenc]; exact Nat.le_refl _), List.append_nil]
            have hfin : ∃ vs : List Value, Els (fun x q => RdC (okF (cxOf F s loc w) fs) w e x q) xs vs ∧ xs.length = n ∧ vs.length = n * e.size ∧
                (Instr.buildSlice t n (parts.map fun (i, x) => (i, a.eval x))).run P w = .ok (.slice (some ⟨w.heap.size, 0, none⟩) n n) (w.alloc (.cells vs.toArray et)) := by
              have hso : (Go.sizeOf et).run P w = .ok e.size w := by rw [hj.sizeOf, hsz]
              have hzv : (zeroValue et).run P w = .ok z w := by simp [zeroValue, typeInfo, hjj, hjz]
              have hnb : ¬ (16777216 < n * e.size) := by rw [← hsz]; omega
              by_cases hz0 : n * e.size = 0
              · obtain ⟨vs, he, hxl, hvl, hf⟩ := hrun #[]
                refine ⟨vs, he, hxl, hvl, ?_⟩
                simp [hz0] at hf
                simp [Instr.buildSlice, run_underlying (hok.under_slice rfl), hso, hz0, hf, newRow]
              · obtain ⟨vs, he, hxl, hvl, hf⟩ := hrun z.cells
                refine ⟨vs, he, hxl, hvl, ?_⟩
                simp at hf
                simp [Instr.buildSlice, run_underlying (hok.under_slice rfl), hso, hnb, hz0, hzv, hf, newRow]
            obtain ⟨vs, he, hxl, hvl, hr⟩ := hfin
            have hfr := h.freeze fs
            have hal := hfr.alloc hfree (.cells vs.toArray et) (.arr et e xs) (.slice (some ⟨w.heap.size, 0, none⟩) n n) rfl (fun hle => by
              refine ⟨vs, ⟨by rw [hxl]; exact hvl, .inr ⟨w.heap.size, n, vs.toArray, by rw [hxl]; exact upd_same _ _ _, Nat.zero_le _, heap_alloc_new w _, by omega, le_maxLen h6, by simpa using hvl, by rw [hxl, ← hvl]; simp⟩⟩, Els.mono (fun y q hq => RdC.mono hle.ok hle.cell e (RdC_ok (fun g hg => freeze_ok h hg) hq)) he⟩)
            refine ⟨_, _, _, .inl (execOp_v (exec_buildSlice ho) hr), hal.1, ?_⟩
            refine ⟨(upd_same _ _ _).symm, ?_⟩
            show isArr (upd (s.freeze fs).mem d _ d)
            rw [upd_same]; trivial
end
end AM
namespace AM
open Go

theorem run_append_any {P : Program} (w : World) (t tx ty e : TypeId) (i : TypeInfo) (z : Value) (size : Nat) (ht : P.underlying t = some (.slice e)) (hi : P.info? e = some i) (hz : i.zero = some z)
    (hsize : i.size = size) (hzs : z.cells.size = size) (hsz : 0 < size) (hb0 : 0 < i.bytes)
    {v : Value} {n : Nat} {xs : List Value} (hown : w.ownsRow 0 e size v n xs) {x : Value} {m : Nat} {news : List Value} (hs : Src P size tx x m news w)
    (hbytes : (n + m) * i.bytes ≤ 140737488355328) :
    ∃ v' w', (Builtin.append_ #[t, tx] ty #[v, x]).run P w = .ok v' w' ∧ w'.ownsRow 0 e size v' (n + m) (xs ++ news) ∧ w.grownBy w' v.ownBlock ∧ (v'.ownBlock = v.ownBlock ∨ v'.ownBlock = some w.heap.size) := by
  subst hsize
  have hnm : n + m ≤ 140737488355328 := Nat.le_trans (Nat.le_mul_of_pos_right _ hb0) hbytes
  have hlen : (xs ++ news).length = (n + m) * i.size := by rw [List.length_append, hown.1, hs.newsLen, Nat.add_mul]
  have h63 : n + m ≤ maxLen := by simp only [maxLen]; omega
  have grown : ∀ (old : Nat) (row : Option Nat), 
      (w.drew.alloc (.cells ((xs ++ news).toArray ++ Builtin.zeroCells z.cells (grownCap w (n + m) old e - (n + m))) e)).ownsRow 0 e i.size
        (.slice (some ⟨w.heap.size, 0, none⟩) (n + m) (grownCap w (n + m) old e)) (n + m) (xs ++ news) ∧
      w.grownBy (w.drew.alloc (.cells ((xs ++ news).toArray ++ Builtin.zeroCells z.cells (grownCap w (n + m) old e - (n + m))) e)) row := by
    intro old row
    have hge := grownCap_ge w (n + m) old e
    have hcm : grownCap w (n + m) old e ≤ maxLen := grownCap_le_maxLen w (n + m) old e h63
    refine ⟨⟨hlen, .inr ⟨w.heap.size, _, _, rfl, Nat.zero_le _, heap_alloc_new w.drew _, hge, hcm, ?_, ?_⟩⟩, ⟨rfl, rfl, rfl, by simp, fun k hk _ => heap_alloc_old w.drew _ k hk⟩⟩
    · rw [Array.size_append, size_zeroCells, hzs, List.size_toArray, hlen, ← Nat.add_mul]
      congr 1
      omega
    · rw [Array.toList_append, ← hlen]
      exact List.take_left
  rcases hown.2 with ⟨rfl, rfl⟩ | ⟨g, cap, cur, rfl, hbg, hg, hnc, hcm, hcs, htake⟩
  · have hx : xs = [] := List.eq_nil_of_length_eq_zero (by simpa using hown.1)
    subst hx
    by_cases hm : m = 0
    · subst hm
      have hn : news = [] := List.eq_nil_of_length_eq_zero (by simpa using hs.newsLen)
      subst hn
      refine ⟨.slice none 0 0, w, ?_, World.ownsRow_nil w 0 e i.size, ⟨rfl, rfl, rfl, Nat.le_refl _, fun _ _ _ => rfl⟩, .inl rfl⟩
      rcases hs.kind with ⟨e', hk⟩ | hk <;> simp [Builtin.append_, run_underlying ht, run_underlying hk, Go.sizeOf, typeInfo, hi, hs.len, hs.cells]
    · have hr := run_append_grow_src (P := P) w t tx ty e i z ht hi hz none 0 0 [] (run_firstCells_none w.drew i.size 0 0 0) x m news hs (by omega) (by omega) (growslice_fits (by omega) hbytes)
      have hgr := grown 0 none
      exact ⟨_, _, hr, hgr.1, hgr.2, .inr rfl⟩
  · by_cases hroom : n + m ≤ cap
    · have hfit : n * i.size + news.length ≤ cur.size := by rw [hs.newsLen, hcs, ← Nat.add_mul]; exact Nat.mul_le_mul_right _ hroom
      have hst := run_storeCells_at (P := P) g (n * i.size) e news 0 cur w hg (by simpa using hfit) hs.one
      simp only [Nat.add_zero] at hst
      refine ⟨.slice (some ⟨g, 0, none⟩) (n + m) cap, w.setRow g (cur.toList.take (n * i.size) ++ news ++ cur.toList.drop (n * i.size + news.length)).toArray, ?_, ⟨hlen, .inr ⟨g, cap, _, rfl, hbg, setRow_heap w g cur _ e _ hg, hroom, hcm, ?_, ?_⟩⟩, ⟨rfl, rfl, rfl, by simp [World.setRow], fun k _ hk => setRow_other w g k _ (fun e => hk (by simp [Value.ownBlock, e]))⟩, .inl rfl⟩
      · rcases hs.kind with ⟨e', hk⟩ | hk <;> simp [Builtin.append_, run_underlying ht, run_underlying hk, Go.sizeOf, typeInfo, hi, hs.len, hroom, hs.cells, Addr.add_lit, hst]
      · simp only [List.size_toArray, List.length_append, List.length_take, List.length_drop, Array.length_toList]
        omega
      · rw [htake, ← hlen]
        exact List.take_left
    · have holds : ∀ j u, xs[j]? = some u → w.cell? ((⟨g, 0, none⟩ : Addr).add j) = some u := hown.cells (g := g) rfl
      have hold : (Builtin.firstCells i.size n (.slice (some ⟨g, 0, none⟩) n cap)).run P w.drew = .ok xs.toArray w.drew := run_firstCells_some w.drew i.size n ⟨g, 0, none⟩ n cap xs hown.1 (by simpa using holds)
      have hr := run_append_grow_src (P := P) w t tx ty e i z ht hi hz (some ⟨g, 0, none⟩) n cap xs hold x m news hs (by omega) (by omega) (growslice_fits (by omega) hbytes)
      have hgr := grown cap (some g)
      exact ⟨_, _, hr, hgr.1, hgr.2, .inr rfl⟩

section
variable {P : Program} {F : Fr} {tb : Tab} {s s' : St} {loc : Nat → Value} {a : Act} {w : World} {o : Oper} {v : V}

theorem own_prefix {w : World} {t : TypeId} {size n k : Nat} {g c : Nat} {xs : List Value} (h : w.ownsRow 0 t size (.slice (some ⟨g, 0, none⟩) n c) n xs) (hk : k ≤ n) : w.ownsRow 0 t size (.slice (some ⟨g, 0, none⟩) k c) k (xs.take (k * size)) := by
  have hks : k * size ≤ n * size := Nat.mul_le_mul_right _ hk
  refine ⟨by rw [List.length_take, h.1]; omega, ?_⟩
  rcases h.2 with ⟨h0, _⟩ | ⟨g', cap, cur, hv, h00, hg, hnc, hcm, hcs, htake⟩
  · cases h0
  · injection hv with e1 e2 e3
    injection e1 with e1; injection e1 with e1 _ _
    subst e1; subst e3
    exact .inr ⟨g, c, cur, rfl, h00, hg, by omega, hcm, hcs, by rw [← htake, List.take_take, Nat.min_eq_left hks]⟩

/-- What a slice's value offers to append. -/
theorem src_sound (h : RelL F s loc a w) {e : Ty} {vx : V} {u : Value} (hv : VR (cxOf F s loc w) vx u) {ys : List e.T} (hs : srcL s.mem e vx = some ys) :
    ∃ A c vs, u = .slice A ys.length c ∧ Els (fun y q => RdC (okOf F s.mem loc w) w e y q) ys vs ∧ (0 < ys.length → ∃ ad, A = some ad ∧ CellsAt w ad vs) := by
  have hle : ∀ (y : e.T) (q : List Value), RdC (okOf F s.mem loc w) w e y q → q.length = e.size := fun y q hq => RdC.len e hq
  unfold srcL at hs
  cases vx <;> simp only [dec, reduceCtorEq] at hs
  case im e' xs =>
    by_cases he : e' = e
    · subst he
      simp only [dite_true, Option.some.injEq] at hs
      subst hs
      obtain ⟨A, c, vs, hu, hc, hels, hz⟩ := hv
      injection hu with hu _
      exact ⟨A, c, vs, hu, hels, fun hn => let ⟨ad, hA, _, hcell⟩ := hz hn; ⟨ad, hA, hcell⟩⟩
    · simp only [he, dite_false, reduceCtorEq] at hs
  case nils =>
    simp only [Option.some.injEq] at hs
    subst hs
    exact ⟨none, 0, [], hv, rfl, fun hn => by simp at hn⟩
  case own b =>
    cases hm : s.mem b <;> rw [hm] at hs <;> simp only [reduceCtorEq] at hs
    rename_i t e' xs
    by_cases he : e' = e
    · subst he
      simp only [dite_true, Option.some.injEq] at hs
      subst hs
      have hbr := h.blk b
      rw [hm] at hbr
      obtain ⟨flat, hown, hels⟩ := hbr
      have hu : u = loc b := hv.1
      rcases hown.2 with ⟨hv0, hn0⟩ | ⟨g, cap, cur, hv0, rest⟩
      · have hv0 : loc b = .slice none 0 0 := hv0
        exact ⟨none, 0, flat, by rw [hu, hv0, hn0], hels, fun hn => by omega⟩
      · have hv0 : loc b = .slice (some ⟨g, 0, none⟩) xs.length cap := hv0
        exact ⟨some ⟨g, 0, none⟩, cap, flat, by rw [hu, hv0], hels, fun hn => ⟨_, rfl, hown.cells (g := g) (by show Value.ownBlock (loc b) = _; rw [hv0]; rfl)⟩⟩
    · simp only [he, dite_false, reduceCtorEq] at hs
  case ownsub b off len =>
    cases hm : s.mem b <;> rw [hm] at hs <;> simp only [reduceCtorEq] at hs
    rename_i t e' xs
    by_cases he : e' = e
    · subst he
      simp only [dite_true, Option.some.injEq] at hs
      subst hs
      have hbr := h.blk b
      rw [hm] at hbr
      obtain ⟨flat, hown, hels⟩ := hbr
      obtain ⟨t', e'', xs', A, n, c, hm', hlb, hle', c', hlc, hcc, hu⟩ := hv
      have hm' : s.mem b = .arr t' e'' xs' := hm'
      rw [hm] at hm'
      injection hm' with q1 q2 q3
      subst q1; subst q2
      have q3 := eq_of_heq q3
      subst q3
      have hlen2 : ((xs.drop off).take len).length = len := by rw [List.length_take, List.length_drop]; omega
      have hsub := Els.take hle len (Els.drop hle off hels)
      rcases hu with ⟨hA, hu⟩ | ⟨g, hA, hu | ⟨hc0, _, ad, hu⟩⟩
      · subst hA
        refine ⟨none, c', _, by rw [hu, hlen2], hsub, fun hp => ?_⟩
        rw [hlen2] at hp
        rcases hown.2 with ⟨hv0, hn0⟩ | ⟨g, cap, cur, hv0, rest⟩
        · omega
        · rw [hlb] at hv0; cases hv0
      · subst hA
        refine ⟨_, c', _, by rw [hu, hlen2], hsub, fun hp => ⟨_, rfl, ?_⟩⟩
        intro j q hq
        rw [List.getElem?_take] at hq
        split at hq
        · rw [List.getElem?_drop] at hq
          have := hown.cells (g := g) (by rw [hlb]; rfl) _ q hq
          rw [Addr.add_lit] at this ⊢
          rw [Nat.zero_add] at this
          exact this
        · cases hq
      · refine ⟨some ad, 0, _, by rw [hu, hlen2]; congr 1; omega, hsub, fun hp => ?_⟩
        rw [hlen2] at hp
        omega
    · simp only [he, dite_false, reduceCtorEq] at hs

theorem src_Src {tx : TypeId} (hk : ∃ e', P.underlying tx = some (.slice e')) (h : RelL F s loc a w) {e : Ty} {vx : V} {u : Value} (hv : VR (cxOf F s loc w) vx u) {ys : List e.T} (hs : srcL s.mem e vx = some ys) :
    ∃ news, Src P e.size tx u ys.length news w ∧ Els (fun y q => RdC (okOf F s.mem loc w) w e y q) ys news := by
  obtain ⟨e', hk⟩ := hk
  obtain ⟨A, c, vs, hu, hels, hz⟩ := src_sound h hv hs
  have hlen := Els.len (fun x us hx => RdC.len e hx) hels
  have hone := Els.all (fun x us hx => RdC.one e hx) hels
  cases A with
  | none =>
    have hn : ys.length = 0 := by
      rcases Nat.eq_zero_or_pos ys.length with h0 | h0
      · exact h0
      · obtain ⟨ad, hA, _⟩ := hz h0; cases hA
    have hy : ys = [] := List.eq_nil_of_length_eq_zero hn
    subst hy
    have hvs : vs = [] := hels
    subst hvs
    rw [hu]
    exact ⟨[], Src.ofNil (w := w) hk c, rfl⟩
  | some ad =>
    rw [hu]
    by_cases hn : ys.length = 0
    · have hy : ys = [] := List.eq_nil_of_length_eq_zero hn
      subst hy
      have hvs : vs = [] := hels
      subst hvs
      exact ⟨[], Src.ofSlice w hk ad 0 c [] (by simp) (fun j q hq => by simp at hq) (fun q hq => by simp at hq), rfl⟩
    · obtain ⟨ad', hA, hcell⟩ := hz (by omega)
      injection hA with hA
      subst hA
      exact ⟨vs, Src.ofSlice w hk ad _ c vs hlen hcell hone, hels⟩

/-- The heart of append: a block of the frame's own holds more. -/
theorem RelL.append (h : RelL F s loc a w) {d : Nat} {t : TypeId} {e : Ty} {cur ys : List e.T} {flat news : List Value} {u v' : Value} {w' : World}
    (hd : (s.mem d = .dead ∧ u = .slice none 0 0) ∨ (live s.mem d ∧ u.ownBlock = blkOf (loc d)))
    (hels : Els (fun y q => RdC (okOf F s.mem loc w) w e y q) cur flat) (hn : Els (fun y q => RdC (okOf F s.mem loc w) w e y q) ys news)
    (hown : w'.ownsRow 0 t e.size v' (cur.length + ys.length) (flat ++ news)) (hg : w.grownBy w' u.ownBlock) (hat : v'.ownBlock = u.ownBlock ∨ v'.ownBlock = some w.heap.size) :
    RelL F ((s.kill d).blk d (.arr t e (cur ++ ys))) (upd loc d v') a w' := by
  have hk := h.kill d
  have hob : ∀ q : Value, (∃ A n c, q = .slice A n c) → q.ownBlock = blkOf q := by
    rintro q ⟨A, n, c, rfl⟩
    cases A <;> rfl
  have hv' : v'.ownBlock = blkOf v' := by
    rcases hown.2 with ⟨e1, _⟩ | ⟨g, cap, cur', e1, _⟩
    · exact hob _ ⟨_, _, _, e1⟩
    · exact hob _ ⟨_, _, _, e1⟩
  have hother : ∀ b, b ≠ d → ((s.kill d).blk d (.arr t e (cur ++ ys))).mem b = (s.kill d).mem b ∧ upd loc d v' b = loc b := fun b hb => ⟨upd_other _ _ _ hb, upd_other _ _ _ hb⟩
  have hsame : ((s.kill d).blk d (.arr t e (cur ++ ys))).mem d = .arr t e (cur ++ ys) := upd_same _ _ _
  have hklive : ∀ b, live (s.kill d).mem b ↔ live s.mem b := fun b => not_congr frzB_live
  have hlive : ∀ b, b ≠ d → (live ((s.kill d).blk d (.arr t e (cur ++ ys))).mem b ↔ live s.mem b) := fun b hb => by
    rw [← hklive]; unfold live; rw [(hother b hb).1]
  -- the block written is not another's
  have hrow : ∀ b g, b ≠ d → live s.mem b → blkOf (loc b) = some g → u.ownBlock ≠ some g := fun b g hb hlb hbg he => by
    rcases hd with ⟨_, rfl⟩ | ⟨hld, hu⟩
    · cases he
    · exact hb (h.inj b d g hlb hld hbg (by rw [← hu]; exact he))
  have hrowok : ∀ g, okOf F s.mem loc w g → u.ownBlock ≠ some g := fun g hgok he => by
    rcases hd with ⟨_, rfl⟩ | ⟨hld, hu⟩
    · cases he
    · exact hgok.2 ⟨d, hld, by rw [← hu]; exact he⟩
  have hok : ∀ g, okOf F s.mem loc w g → okOf F ((s.kill d).blk d (.arr t e (cur ++ ys))).mem (upd loc d v') w' g := fun g hgok => by
    refine ⟨⟨by have := hgok.1.1; have := hg.size; omega, hgok.1.2⟩, ?_⟩
    rintro ⟨b, hb, hbg⟩
    by_cases hbd : b = d
    · subst hbd
      rw [upd_same, ← hv'] at hbg
      rcases hat with hat | hat
      · rw [hat] at hbg
        exact hrowok g hgok hbg
      · rw [hat] at hbg
        injection hbg with hbg
        have := hgok.1.1
        omega
    · rw [(hother b hbd).2] at hbg
      exact hgok.2 ⟨b, (hlive b hbd).1 hb, hbg⟩
  have hcell : ∀ (p : Addr) (q : Value), okOf F s.mem loc w p.block → w.cell? p = some q → w'.cell? p = some q := fun p q hp hq => by
    rw [World.cell?_of_block (hg.block p.block hp.1.1 (fun e => hrowok _ hp e.symm))]; exact hq
  have hkok : ∀ g, (cxOf F (s.kill d) loc w).ok g ↔ okOf F s.mem loc w g := fun g =>
    ⟨fun hgo => ⟨hgo.1, fun ⟨c, hc, hcg⟩ => hgo.2 ⟨c, (hklive c).2 hc, hcg⟩⟩, fun hgo => ⟨hgo.1, fun ⟨c, hc, hcg⟩ => hgo.2 ⟨c, (hklive c).1 hc, hcg⟩⟩⟩
  have hleB : (cxOf F s loc w).leB d (cxOf F ((s.kill d).blk d (.arr t e (cur ++ ys))) (upd loc d v') w') := by
    refine ⟨hok, hcell, fun c hc => ?_⟩
    show Alike (s.mem c) (loc c) (((s.kill d).blk d (.arr t e (cur ++ ys))).mem c) (upd loc d v' c)
    rw [(hother c hc).1, (hother c hc).2]
    show Alike (s.mem c) (loc c) (frzB d .dead (s.mem c)) (loc c)
    cases hm : s.mem c with
    | dead => exact .inl rfl
    | arr t e xs => exact .inr ⟨rfl, rfl, rfl, rfl⟩
    | cells t cs => exact .inr ⟨rfl, trivial⟩
    | iter t p => exact .inr ⟨rfl, trivial⟩
  refine ⟨fun b => ?_, fun b b' g hb hb' hbg hbg' => ?_, fun b g hb hbg => ?_, fun k => VR_frz hleB .dead (.inl rfl) _ _ (h.env k), h.size, h.defers, ?_⟩
  · by_cases hbd : b = d
    · subst hbd
      rw [hsame]
      refine ⟨flat ++ news, ?_, Els.append (Els.mono (fun y q hq => RdC.mono hok hcell e hq) hels) (Els.mono (fun y q hq => RdC.mono hok hcell e hq) hn)⟩
      show w'.ownsRow 0 t e.size (upd loc b v' b) _ _
      rw [upd_same, List.length_append]; exact hown
    · rw [(hother b hbd).1]
      have hb := h.blk b
      show BR _ b (frzB d .dead (s.mem b))
      cases hm : s.mem b with
      | dead => trivial
      | cells t' cs =>
        rw [hm] at hb
        obtain ⟨g, us, e1, hgh, hs, h1⟩ := hb
        have e1 : loc b = .pointer (some ⟨g, 0, none⟩) := e1
        refine ⟨g, us, by rw [← e1]; exact (hother b hbd).2, ?_, VRs_frz hleB .dead (.inl rfl) _ _ hs, h1⟩
        have hlb : live s.mem b := fun e2 => by rw [hm] at e2; cases e2
        show w'.heap[g]? = _
        rw [hg.block g (h.lt hlb (by rw [e1]; rfl)) (fun e2 => hrow b g hbd hlb (by rw [e1]; rfl) e2.symm)]
        exact hgh
      | arr t' e' xs =>
        rw [hm] at hb
        obtain ⟨fl, ho, he⟩ := hb
        have hlb : live s.mem b := fun e2 => by rw [hm] at e2; cases e2
        refine ⟨fl, ?_, Els.mono (fun y q hq => RdC.mono hok hcell e' hq) he⟩
        show w'.ownsRow 0 t' e'.size (upd loc d v' b) _ _
        rw [(hother b hbd).2]
        refine ownsRow_of_block ho (fun g hbg => ?_)
        exact hg.block g (h.lt hlb hbg) (fun e2 => hrow b g hbd hlb hbg e2.symm)
      | iter t' p =>
        rw [hm] at hb
        obtain ⟨g, e1, hgh⟩ := hb
        have e1 : loc b = .pointer (some ⟨g, 0, none⟩) := e1
        have hlb : live s.mem b := fun e2 => by rw [hm] at e2; cases e2
        refine ⟨g, by rw [← e1]; exact (hother b hbd).2, ?_⟩
        show w'.heap[g]? = _
        rw [hg.block g (h.lt hlb (by rw [e1]; rfl)) (fun e2 => hrow b g hbd hlb (by rw [e1]; rfl) e2.symm)]
        exact hgh
  · -- two names never lie in one block
    have key : ∀ b g, b ≠ d → live ((s.kill d).blk d (.arr t e (cur ++ ys))).mem b → blkOf (upd loc d v' b) = some g → blkOf (upd loc d v' d) = some g → False := fun b g hbd hb hbg hdg => by
      rw [(hother b hbd).2] at hbg
      rw [upd_same, ← hv'] at hdg
      have hlb := (hlive b hbd).1 hb
      rcases hat with hat | hat
      · rw [hat] at hdg
        exact hrow b g hbd hlb hbg hdg
      · rw [hat] at hdg
        injection hdg with hdg
        have := h.lt hlb hbg
        omega
    by_cases hbd : b = d
    · by_cases hbd' : b' = d
      · rw [hbd, hbd']
      · subst hbd; exact (key b' g hbd' hb' hbg' hbg).elim
    · by_cases hbd' : b' = d
      · subst hbd'; exact (key b g hbd hb hbg hbg').elim
      · rw [(hother b hbd).2] at hbg
        rw [(hother b' hbd').2] at hbg'
        exact h.inj b b' g ((hlive b hbd).1 hb) ((hlive b' hbd').1 hb') hbg hbg'
  · by_cases hbd : b = d
    · subst hbd
      rw [upd_same, ← hv'] at hbg
      rcases hat with hat | hat
      · rw [hat] at hbg
        rcases hd with ⟨_, rfl⟩ | ⟨hld, hu⟩
        · cases hbg
        · exact h.low b g hld (by rw [← hu]; exact hbg)
      · rw [hat] at hbg
        injection hbg with hbg
        right
        have := h.kept.size
        omega
    · rw [(hother b hbd).2] at hbg
      exact h.low b g ((hlive b hbd).1 hb) hbg
  · refine ⟨hg.os.trans h.kept.os, hg.tape.trans h.kept.tape, hg.output.trans h.kept.output, by have := h.kept.size; have := hg.size; omega, fun k hkk hf => ?_⟩
    rw [hg.block k (by have := h.kept.size; omega) (fun e2 => ?_)]
    · exact h.kept.block k hkk hf
    · rcases hd with ⟨_, rfl⟩ | ⟨hld, hu⟩
      · cases e2
      · rcases h.low d k hld (by rw [← hu]; exact e2.symm) with h1 | h1
        · exact hf h1
        · omega
end
end AM
namespace AM
open Go

section
variable {P : Program} {F : Fr} {tb : Tab} {s s' : St} {loc : Nat → Value} {a : Act} {w : World} {o : Oper} {v : V}

theorem els_bytes {ok : Nat → Prop} : ∀ (l : List UInt8), Els (fun (y : (Ty.int .u8).T) q => RdC ok w (.int .u8) y q) (l.map fun (c : UInt8) => (c.toNat : Int)) (l.map fun b => Value.int .u8 b.toNat)
  | [] => rfl
  | c :: r => ⟨[_], _, rfl, rfl, els_bytes r⟩

theorem exec_builtin {b : Builtin} {args : Array Operand} {ts : Array TypeId} (ho : o.op = .call { callee := .builtin b, args := args, argTypes := ts }) {X : Sem Value} (hX : builtin b ts o.type (args.map fun | .const _ => true | _ => false) (args.map a.eval) = (do pure (.value (← X)))) :
    execOp a.eval o = (do pure (.value (← X))) := by
  rw [← hX]
  simp [execOp, ho, resolve, invoke]
  rfl

theorem meets_append (hb : tabB P tb = true) (h : RelL F s loc a w) {d : Nat} {t tx : TypeId} {x y : Operand} {args : Array Operand} {ts : Array TypeId} (ho : o.op = .call { callee := .builtin .append, args := args, argTypes := ts }) (hargs : args.toList = [x, y]) (hts : ts.toList = [t, tx])
    {g : Bool} (hl : appendA tb s d t tx (s.val x) (s.val y) = some (g, v, s')) : g = true → Meets P F a w o v s' := by
  intro hg
  obtain ⟨args⟩ := args
  obtain ⟨ts⟩ := ts
  simp only at hargs hts
  subst hargs; subst hts
  have hvx := h.oper x
  have hvy := h.oper y
  simp only [appendA] at hl
  generalize s.val x = vx at hl hvx
  generalize s.val y = vy at hl hvy
  cases hti : tb.get t with
  | none => simp only [hti, reduceCtorEq] at hl
  | some i0 =>
    have hok := ti_ok hb hti
    obtain ⟨t0, kd, sz, byt, ty, zr, eqq⟩ := i0
    cases htx : tb.get tx with
    | none => cases kd <;> simp only [hti, htx, reduceCtorEq] at hl
    | some ix =>
      have hokx := ti_ok hb htx
      cases kd <;> simp only [hti, htx, reduceCtorEq] at hl
      rename_i et
      cases hte : tb.get et with
      | none => simp only [hte, reduceCtorEq] at hl
      | some j =>
        have hj := ti_ok hb hte
        simp only [hte] at hl
        cases hty : j.ty with
        | none => simp only [hty, reduceCtorEq] at hl
        | some e =>
          simp only [hty] at hl
          cases hc : (Nat.beq j.size e.size && Nat.ble 1 j.size && Nat.ble 1 j.bytes)
          · rw [hc] at hl; cases hl
          · rw [hc] at hl
            simp only [cond_true] at hl
            simp only [Bool.and_eq_true] at hc
            have hsz := Nat.eq_of_beq_eq_true hc.1.1
            have hs1 := Nat.le_of_ble_eq_true hc.1.2
            have hb1 := Nat.le_of_ble_eq_true hc.2
            -- the source
            generalize hys : srcA s.mem ix.kd e vy = oys at hl
            cases oys with
            | none => cases hl
            | some ys =>
              simp only at hl
              have hsrc : ∃ news, Src P e.size tx (a.eval y) ys.length news w ∧ Els (fun y q => RdC (okOf F s.mem loc w) w e y q) ys news := by
                obtain ⟨t1, kx, sx, bx, tyx, zx, eqx⟩ := ix
                cases kx <;> simp only [srcA, reduceCtorEq] at hys
                case slice e' => exact src_Src ⟨e', hokx.under_slice rfl⟩ h hvy hys
                case str =>
                  cases vy <;> simp only [reduceCtorEq] at hys
                  rename_i b
                  unfold bytesAs at hys
                  by_cases he : Ty.int .u8 = e
                  · subst he
                    simp only [dite_true, Option.some.injEq] at hys
                    subst hys
                    have hy : a.eval y = .string b := hvy
                    rw [hy]
                    refine ⟨byteCells b, ?_, els_bytes _⟩
                    have := Src.ofString (w := w) (hokx.under_str rfl) b
                    have hlen : (bytesL b).length = b.size := by
                      unfold bytesL
                      rw [List.length_map, Array.length_toList]
                      rfl
                    show Src P 1 tx (.string b) (bytesL b).length (byteCells b) w
                    rw [hlen]; exact this
                  · simp only [he, dite_false, reduceCtorEq] at hys
              obtain ⟨news, hS, hen⟩ := hsrc
              obtain ⟨jj, z, hjj, hjs, hjb, hjz, hz, hze⟩ := hj.info
              obtain ⟨hes, hea, hzt⟩ := hze e hty
              have hzs : z.cells.size = e.size := by
                have := RdC.len e (encZ_Rd (ok := fun _ => True) (w := w) e hzt)
                simpa using this
              -- what it comes to
              have fin : ∀ {dd : Nat} {u : Value} {cur : List e.T} {flat : List Value}, a.eval x = u → ((s.mem dd = .dead ∧ u = .slice none 0 0) ∨ (live s.mem dd ∧ u.ownBlock = blkOf (loc dd))) → w.ownsRow 0 et e.size u cur.length flat → Els (fun y q => RdC (okOf F s.mem loc w) w e y q) cur flat →
                  roomOk (cur.length + ys.length) j.bytes = true → Meets P F a w o (.own dd) ((s.kill dd).blk dd (.arr et e (cur ++ ys))) := by
                intro dd u cur flat hu hdd hown hels hroom
                simp only [roomOk, decide_eq_true_eq] at hroom
                obtain ⟨v', w', hr, hown', hg', hat⟩ := run_append_any (P := P) w t tx o.type et jj z e.size (hok.under_slice rfl) hjj hjz (by rw [hjs, hsz]) hzs (by omega) (by omega) hown hS (by rw [hjb]; exact hroom)
                have hrel := h.append (d := dd) hdd hels hen hown' hg' hat
                refine ⟨v', w', _, .inl (execOp_v (X := Builtin.append_ #[t, tx] o.type #[a.eval x, a.eval y]) (exec_builtin ho (by simp [builtin])) (by rw [hu]; exact hr)), hrel, (upd_same _ _ _).symm, ?_⟩
                show isArr (upd _ dd _ dd)
                rw [upd_same]; trivial
              cases vx <;> try (simp only [reduceCtorEq] at hl; done)
              case nils =>
                simp only at hl
                cases hf : s.free d
                · rw [hf] at hl; cases hl
                · rw [hf] at hl
                  simp only [cond_true, Option.some.injEq, Prod.mk.injEq] at hl
                  obtain ⟨rfl, rfl, rfl⟩ := hl
                  exact fin (dd := d) (cur := []) (flat := []) hvx (.inl ⟨free_dead hf, rfl⟩) (World.ownsRow_nil w 0 et e.size) rfl (by simpa using hg)
              case own b =>
                simp only at hl
                cases hm : s.mem b <;> rw [hm] at hl <;> simp only [reduceCtorEq] at hl
                rename_i et' e' xs
                by_cases he : e' = e
                · subst he
                  simp only [dite_true] at hl
                  cases hcc : Nat.beq et' et
                  · rw [hcc] at hl; cases hl
                  · rw [hcc] at hl
                    simp only [cond_true, Option.some.injEq, Prod.mk.injEq] at hl
                    obtain ⟨rfl, rfl, rfl⟩ := hl
                    have := Nat.eq_of_beq_eq_true hcc
                    subst this
                    have hbr := h.blk b
                    rw [hm] at hbr
                    obtain ⟨flat, hown, hels⟩ := hbr
                    have hob : (loc b).ownBlock = blkOf (loc b) := by
                      obtain ⟨A, n, c, hlb⟩ := own_is (x := cxOf F s loc w) (b := b) (m := .arr et' e' xs) trivial (hm ▸ h.blk b)
                      have hlb : loc b = .slice A n c := hlb
                      rw [hlb]; cases A <;> rfl
                    exact fin (dd := b) hvx.1 (.inr ⟨(fun e2 => by rw [hm] at e2; cases e2), hob⟩) hown hels hg
                · simp only [he, dite_false, reduceCtorEq] at hl
              case ownsub b off len =>
                cases off with
                | succ k => simp only [reduceCtorEq] at hl
                | zero =>
                  simp only at hl
                  cases hm : s.mem b <;> rw [hm] at hl <;> simp only [reduceCtorEq] at hl
                  rename_i et' e' xs
                  by_cases he : e' = e
                  · subst he
                    simp only [dite_true] at hl
                    cases hcc : Nat.beq et' et
                    · rw [hcc] at hl; cases hl
                    · rw [hcc] at hl
                      simp only [cond_true, Option.some.injEq, Prod.mk.injEq] at hl
                      obtain ⟨rfl, rfl, rfl⟩ := hl
                      have := Nat.eq_of_beq_eq_true hcc
                      subst this
                      have hbr := h.blk b
                      rw [hm] at hbr
                      obtain ⟨flat, hown, hels⟩ := hbr
                      obtain ⟨t', e'', xs', A, n, c, hm', hlb, hle', c', hlc, hcc', hu⟩ := hvx
                      have hm' : s.mem b = .arr t' e'' xs' := hm'
                      rw [hm] at hm'
                      injection hm' with q1 q2 q3
                      subst q1; subst q2
                      have q3 := eq_of_heq q3
                      subst q3
                      have hlb : loc b = .slice A n c := hlb
                      have hcl : (xs.take len).length = len := by rw [List.length_take]; omega
                      have hels' := Els.take (fun x us hx => RdC.len e' hx) len hels
                      have hlive : live s.mem b := fun e2 => by rw [hm] at e2; cases e2
                      rcases hown.2 with ⟨hv0, hn0⟩ | ⟨g, cap, cur, hv0, rest⟩
                      · have hv0 : loc b = .slice none 0 0 := hv0
                        rw [hlb] at hv0
                        injection hv0 with e1 e2 e3
                        subst e1; subst e2; subst e3
                        have hlen0 : len = 0 := by omega
                        subst hlen0
                        have hc0 : c' = 0 := by omega
                        rcases hu with ⟨_, hu⟩ | ⟨g, hA, _⟩
                        · have hnil : xs = [] := List.eq_nil_of_length_eq_zero hn0
                          subst hnil
                          refine fin (dd := b) (cur := ([] : List e'.T).take 0) (flat := []) (by rw [hu, hc0]) (.inr ⟨hlive, by rw [hlb]; rfl⟩) (by simpa using World.ownsRow_nil w 0 et' e'.size) rfl (by simpa using hg)
                        · cases hA
                      · have hv0 : loc b = .slice (some ⟨g, 0, none⟩) xs.length cap := hv0
                        rw [hlb] at hv0
                        injection hv0 with e1 e2 e3
                        subst e1; subst e2; subst e3
                        rcases hu with ⟨hA, _⟩ | ⟨g2, hA, hu | ⟨_, h0, _⟩⟩
                        · cases hA
                        · injection hA with hA; injection hA with hA _ _
                          subst hA
                          have hcc2 : c' = c := by omega
                          have hown' : w.ownsRow 0 et' e'.size (.slice (some ⟨g, 0, none⟩) xs.length c) xs.length flat := by rw [← hlb]; exact hown
                          have hp := own_prefix hown' (k := len) (by omega)
                          refine fin (dd := b) (cur := xs.take len) (u := .slice (some ⟨g, 0, none⟩) len c) (by rw [hu, hcc2, Nat.zero_mul]) (.inr ⟨hlive, by rw [hlb]; rfl⟩) (by rw [hcl]; exact hp) hels' (by rw [hcl]; exact hg)
                        · exact absurd rfl h0
                  · simp only [he, dite_false, reduceCtorEq] at hl

theorem meets_clear (hb : tabB P tb = true) (h : RelL F s loc a w) {t : TypeId} {x : Operand} {args : Array Operand} {ts : Array TypeId} (ho : o.op = .call { callee := .builtin .clear, args := args, argTypes := ts }) (hargs : args.toList = [x]) (hts : ts.toList.headD 0 = t) (hne : 0 < ts.size)
    {g : Bool} (hl : clearA tb s t (s.val x) = some (g, v, s')) : g = true → Meets P F a w o v s' := by
  intro hg
  obtain ⟨args⟩ := args
  obtain ⟨ts⟩ := ts
  simp only at hargs hts
  subst hargs
  have hv := h.oper x
  simp only [clearA] at hl
  generalize s.val x = vx at hl hv
  cases hti : tb.get t with
  | none => simp only [hti, reduceCtorEq] at hl
  | some i0 =>
    have hok := ti_ok hb hti
    obtain ⟨t0, kd, sz, byt, ty, zr, eqq⟩ := i0
    cases kd <;> simp only [hti, reduceCtorEq] at hl
    rename_i et
    cases hte : tb.get et with
    | none => simp only [hte, reduceCtorEq] at hl
    | some j =>
      have hj := ti_ok hb hte
      simp only [hte] at hl
      cases hty : j.ty with
      | none => simp only [hty, reduceCtorEq] at hl
      | some e =>
        simp only [hty] at hl
        cases hc : Nat.beq j.size e.size
        · rw [hc] at hl; cases hl
        · rw [hc] at hl
          simp only [cond_true] at hl
          cases vx <;> simp only [reduceCtorEq] at hl
          rename_i b off len
          cases hm : s.mem b <;> rw [hm] at hl <;> simp only [reduceCtorEq] at hl
          rename_i et' e' xs
          by_cases he : e' = e
          · subst he
            simp only [dite_true, Option.some.injEq, Prod.mk.injEq] at hl
            obtain ⟨rfl, rfl, rfl⟩ := hl
            obtain ⟨t', e'', xs', A, n, c, hm', hlb, hle', c', hlc, hcc', hu⟩ := hv
            have hm' : s.mem b = .arr t' e'' xs' := hm'
            rw [hm] at hm'
            injection hm' with q1 q2 q3
            subst q1; subst q2
            have q3 := eq_of_heq q3
            subst q3
            have hlb : loc b = .slice A n c := hlb
            obtain ⟨jj, z, hjj, hjs, hjb, hjz, hz, hze⟩ := hj.info
            obtain ⟨hes, hea, hzt⟩ := hze e' hty
            have hzs : z.cells.size = e'.size := by
              have := RdC.len e' (encZ_Rd (ok := fun _ => True) (w := w) e' hzt)
              simpa using this
            have hts0 : ts[0]? = some t := by cases ts with
              | nil => simp at hne
              | cons q r => simp at hts; simp [hts]
            have hex : execOp a.eval o = (do pure (.value (← Builtin.clear_ ts.toArray o.type #[a.eval x]))) := exec_builtin ho (by simp [builtin])
            by_cases hlen0 : len = 0
            · subst hlen0
              have hxs : xs.take off ++ List.replicate 0 e'.d ++ xs.drop (off + 0) = xs := by simp
              rw [hxs]
              have hs : s.blk b (.arr et' e' xs) = s := by
                unfold St.blk
                congr 1
                funext k
                unfold upd
                by_cases hk : k = b
                · subst hk; simp [hm]
                · rw [beq_ne hk]; rfl
              rw [hs]
              refine meets_pure h (u := .tuple #[]) (execOp_v hex ?_) trivial
              rcases hu with ⟨_, hu⟩ | ⟨g2, _, hu | ⟨_, _, ad, hu⟩⟩ <;> simp [Builtin.clear_, hts0, hu, run_underlying (hok.under_slice rfl)]
            · have hbr := h.blk b
              rw [hm] at hbr
              obtain ⟨flat, hown, hels⟩ := hbr
              rcases hown.2 with ⟨hv0, hn0⟩ | ⟨g, cap, cur, hv0, h00, hgh, hnc, hcm, hcs, htake⟩
              · omega
              · have hv0 : loc b = .slice (some ⟨g, 0, none⟩) xs.length cap := hv0
                rw [hlb] at hv0
                injection hv0 with e1 e2 e3
                subst e1; subst e2; subst e3
                rcases hu with ⟨hA, _⟩ | ⟨g2, hA, hu | ⟨hc0, _⟩⟩
                · cases hA
                · injection hA with hA; injection hA with hA _ _
                  subst hA
                  have hlive : live s.mem b := fun e2 => by rw [hm] at e2; cases e2
                  have hflat : flat.length = xs.length * e'.size := hown.1
                  have hzc : (Builtin.zeroCells z.cells len).toList = (List.replicate len z.cells.toList).flatten := by
                    have := mod_flat z.cells.toList len
                    simpa [Builtin.zeroCells] using this
                  have hzcl : (Builtin.zeroCells z.cells len).toList.length = len * e'.size := by simp [Builtin.zeroCells, hzs]
                  have hcurlen : xs.length * e'.size ≤ cur.size := by rw [hcs]; exact Nat.mul_le_mul_right _ hnc
                  have hoff : off * e'.size + len * e'.size ≤ xs.length * e'.size := by rw [← Nat.add_mul]; exact Nat.mul_le_mul_right _ hle'
                  have hzrd := encZ_Rd (ok := okOf F s.mem loc w) (w := w) e' hzt
                  have hone : ∀ q ∈ (Builtin.zeroCells z.cells len).toList, q.oneCell' = true := by
                    rw [hzc]
                    exact Els.all (fun x us hx => RdC.one e' hx) (Els.replicate hzrd len)
                  have hst := run_storeCells_at (P := P) g (off * e'.size) et' (Builtin.zeroCells z.cells len).toList 0 cur w hgh (by rw [hzcl]; omega) hone
                  simp only [Nat.add_zero] at hst
                  have hwr := h.write (w' := w.setRow g (cur.toList.take (off * e'.size) ++ (Builtin.zeroCells z.cells len).toList ++ cur.toList.drop (off * e'.size + (Builtin.zeroCells z.cells len).toList.length)).toArray) hlive (g := g) (by rw [hlb]; rfl) rfl rfl rfl (by simp [World.setRow]) (fun k hk => setRow_other w g k _ hk)
                    (.arr et' e' (xs.take off ++ List.replicate len e'.d ++ xs.drop (off + len))) (by rw [hm]; exact .inr ⟨rfl, rfl, rfl, by simp only [List.length_append, List.length_take, List.length_replicate, List.length_drop]; omega⟩) (by simp) (fun hle2 => by
                      have hxl : (xs.take off ++ List.replicate len e'.d ++ xs.drop (off + len)).length = xs.length := by simp only [List.length_append, List.length_take, List.length_replicate, List.length_drop]; omega
                      have hlenR : ∀ (y : e'.T) (q : List Value), RdC (cxOf F s loc w).ok w e' y q → q.length = e'.size := fun y q hq => RdC.len e' hq
                      refine ⟨flat.take (off * e'.size) ++ (List.replicate len z.cells.toList).flatten ++ flat.drop ((off + len) * e'.size), ?_, Els.mono (fun y q hq => RdC.mono hle2.ok hle2.cell e' hq) (Els.append (Els.append (Els.take hlenR off hels) (Els.replicate hzrd len)) (Els.drop hlenR (off + len) hels))⟩
                      have hrl : ((List.replicate len z.cells.toList).flatten).length = len * e'.size := by rw [← hzc, hzcl]
                      refine ⟨?_, .inr ⟨g, c, _, by show loc b = _; rw [hlb, hxl], Nat.zero_le _, setRow_heap w g _ _ et' (0, 0) hgh, by rw [hxl]; exact hnc, hcm, ?_, ?_⟩⟩
                      · rw [hxl]
                        simp only [List.length_append, List.length_take, List.length_drop, hrl, Nat.add_mul]
                        omega
                      · simp only [List.size_toArray, List.length_append, List.length_take, List.length_drop, hzcl, Array.length_toList]
                        omega
                      · rw [hxl, hzc, hrl, ← htake, Nat.add_mul]
                        exact splice_take _ _ _ _ _ hrl hoff (by simpa using hcurlen))
                  refine ⟨.tuple #[], _, loc, .inl (execOp_v hex ?_), hwr.1, trivial⟩
                  have hzv : (zeroValue et).run P w = .ok z w := by simp [zeroValue, typeInfo, hjj, hjz]
                  obtain ⟨len', rfl⟩ : ∃ k, len = k + 1 := ⟨len - 1, by omega⟩
                  simp [Builtin.clear_, hts0, hu, run_underlying (hok.under_slice rfl), hzv, hst]
                · omega
          · simp only [he, dite_false, reduceCtorEq] at hl
end
end AM
namespace AM
open Go

section
variable {P : Program} {F : Fr} {tb : Tab} {s s' : St} {loc : Nat → Value} {a : Act} {w : World} {o : Oper} {v : V}

theorem eqB_spec {P : Program} {t : TypeId} {ty : Option Ty} (h : eqB P t ty = true) : P.stoodInHeld t = false ∧ P.eqGuardType P.depth t = false ∧ P.underlying t = some (.struct (P.fieldsOf t)) ∧ ∀ e, ty = some e → eqFieldsB P 0 (leaves e) (P.fieldsOf t).toList = true := by
  unfold eqB at h
  simp only [Bool.and_eq_true, Bool.not_eq_true'] at h
  refine ⟨h.1.1, h.1.2, ?_⟩
  cases hu : P.underlying t with
  | none => rw [hu] at h; cases h.2
  | some d =>
    rw [hu] at h
    cases d <;> try (simp only [Bool.false_eq_true, and_false] at h; done)
    rename_i gs
    have : P.fieldsOf t = gs := by simp [Program.fieldsOf, hu]
    rw [this]
    refine ⟨rfl, fun e he => ?_⟩
    subst he
    exact h.2

theorem eqFields_run {x : Cx} : ∀ (fs : List Field) (ls : List Ty) (k : Nat) (cs ds : List V) (us qs : List Value) (r : Bool) (d : Nat) (pre pre' : List Value), eqFieldsB P k ls fs = true → VRs x cs us → VRs x ds qs → eqVs ls cs ds = some r → pre.length = k → pre'.length = k →
    ∀ w, (Op.eqFields (d + 1) (pre ++ us).toArray (pre' ++ qs).toArray fs).run P w = .ok r w
  | [], ls, k, cs, ds, us, qs, r, d, pre, pre', hb, _, _, he, _, _, w => by
    cases ls with
    | cons t ts => simp [eqFieldsB] at hb
    | nil =>
      cases cs <;> cases ds <;> simp [eqVs] at he
      subst he
      simp [Op.eqFields]
  | f :: fs, [], _, _, _, _, _, _, _, _, _, hb, _, _, _, _, _, _ => by simp [eqFieldsB] at hb
  | f :: fs, t :: ts, k, [], ds, _, _, _, _, _, _, _, _, _, he, _, _, _ => by cases ds <;> simp [eqVs] at he
  | f :: fs, t :: ts, k, c :: cs, [], _, _, _, _, _, _, _, _, _, he, _, _, _ => by simp [eqVs] at he
  | f :: fs, t :: ts, k, c :: cs, c' :: ds, us, qs, r, d, pre, pre', hb, ⟨u, us', eu, hv, hvs⟩, ⟨q, qs', eq, hv', hvs'⟩, he, hp, hp', w => by
    simp only [eqFieldsB, Bool.and_eq_true] at hb
    obtain ⟨⟨⟨h1, h2⟩, h3⟩, h4⟩ := hb
    have hoff := Nat.eq_of_beq_eq_true h1
    have hname : f.name ≠ "_" := by simpa using h2
    simp only [eqVs] at he
    cases h5 : eqV t c c' with
    | none => rw [h5] at he; cases he
    | some r1 =>
      cases h6 : eqVs ts cs ds with
      | none => rw [h5, h6] at he; cases he
      | some r2 =>
        rw [h5, h6] at he
        simp only [Option.some.injEq] at he
        subst he
        have ih := eqFields_run fs ts (k + 1) cs ds us' qs' r2 d (pre ++ [u]) (pre' ++ [q]) h4 hvs hvs' h6 (by simp [hp]) (by simp [hp'])
        subst eu; subst eq
        have hpart : ∀ (xs : List Value) (y : Value) (rest : List Value) (dd : TypeDesc), xs.length = k → P.underlying f.type = some dd → (∀ e, dd ≠ .struct e) → (∀ n e, dd ≠ .array n e) → (part f.type (xs ++ y :: rest).toArray f.offset).run P w = .ok y w := by
          intro xs y rest dd hx hu hs ha
          have hagg : (isAgg f.type).run P w = .ok false w := by
            unfold isAgg
            rw [Sem.run_bind, run_underlying hu w]
            cases dd <;> simp_all
          have hget : (xs ++ y :: rest)[k]? = some y := by rw [← hx]; simp
          simp [part, hagg, hoff, hget]
        have hrun : (part f.type (pre ++ u :: us').toArray f.offset).run P w = .ok u w ∧ (part f.type (pre' ++ q :: qs').toArray f.offset).run P w = .ok q w ∧ (Op.equalIn (d + 1) f.type u q).run P w = .ok r1 w := by
          cases hu : P.underlying f.type with
          | none => rw [hu] at h3; cases t <;> cases h3
          | some dd =>
            rw [hu] at h3
            cases t <;> cases dd <;> try (cases h3; done)
            · cases c <;> cases c' <;> simp only [eqV, reduceCtorEq] at h5
              split at h5
              · rename_i hk
                subst hk
                simp only [Option.some.injEq] at h5
                subst h5
                rw [show u = _ from hv, show q = _ from hv']
                exact ⟨hpart _ _ _ _ hp hu (by simp) (by simp), hpart _ _ _ _ hp' hu (by simp) (by simp), run_equalIn_int w d _ _ _ _ _ hu⟩
              · cases h5
            · cases c <;> cases c' <;> simp only [eqV, reduceCtorEq, Option.some.injEq] at h5
              subst h5
              rw [show u = _ from hv, show q = _ from hv']
              exact ⟨hpart _ _ _ _ hp hu (by simp) (by simp), hpart _ _ _ _ hp' hu (by simp) (by simp), run_equalIn_bool' w d _ _ _ hu⟩
            · cases c <;> cases c' <;> simp only [eqV, reduceCtorEq, Option.some.injEq] at h5
              subst h5
              rw [show u = _ from hv, show q = _ from hv']
              exact ⟨hpart _ _ _ _ hp hu (by simp) (by simp), hpart _ _ _ _ hp' hu (by simp) (by simp), run_equalIn_string w d _ _ _ hu⟩
        obtain ⟨p1, p2, heq⟩ := hrun
        simp only [Op.eqFields, ne_eq, hname, not_false_eq_true, if_true, Sem.run_bind, p1, p2, heq, Result.andThen_ok]
        cases r1
        · simp
        · simp only [Bool.not_true, Bool.false_eq_true, if_false, cond_true]
          have := ih w
          simpa using this

theorem run_eq_agg {x : Cx} {t : TypeId} {e : Ty} (h : eqB P t (some e) = true) {cs ds : List V} {us qs : List Value} (h1 : VRs x cs us) (h2 : VRs x ds qs) {r : Bool} (he : eqVs (leaves e) cs ds = some r) (w : World) : (Op.equal t (.agg us.toArray) (.agg qs.toArray)).run P w = .ok r w := by
  obtain ⟨a1, a2, a3, a4⟩ := eqB_spec h
  have := eqFields_run (P := P) (P.fieldsOf t).toList (leaves e) 0 cs ds us qs r 9998 [] [] (a4 e rfl) h1 h2 he rfl rfl w
  unfold Op.equal Op.maxDepth
  rw [run_equalIn_struct w 9999 t _ _ a3 a1]
  simpa using this

theorem guard_agg {op : BinOp} {t : TypeId} {x y : Operand} {us qs : Array Value} (h : P.eqGuardType P.depth t = false) (w : World) : (eqGuard op t x y (.agg us) (.agg qs)).run P w = .ok () w := by
  cases op <;> simp [eqGuard, h]

theorem meets_ptrEq (hb : tabB P tb = true) (h : RelL F s loc a w) {op : BinOp} {t t' : TypeId} {x y : Operand} (ho : o.op = .binOp op t x y t') (hy : a.eval y = .pointer none) {g : Bool} (hl : ptrEq tb t op (s.val x) s = some (g, v, s')) : g = true → Meets P F a w o v s' := by
  intro hg
  have hv := h.oper x
  simp only [ptrEq] at hl
  generalize s.val x = vx at hl hv
  cases hti : tb.get t with
  | none => simp only [hti, reduceCtorEq] at hl
  | some i =>
    have hok := ti_ok hb hti
    obtain ⟨t0, kd, sz, byt, ty, zr, eqq⟩ := i
    cases kd <;> simp only [hti, reduceCtorEq] at hl
    rename_i e
    have hu : P.underlying t = some (.pointer e) := by
      have := hok.kd
      cases hu : P.underlying t with
      | none => rw [hu] at this; simp [kdB] at this
      | some d =>
        rw [hu] at this
        cases d <;> simp [kdB] at this
        subst this; rfl
    have hnil : ∀ d : Nat, (Op.equalIn (d + 1) t (.pointer none) (.pointer none)).run P w = .ok true w := fun d => by simp [Op.equalIn, run_underlying hu]
    have hsome : ∀ (ad : Addr) (d : Nat), (Op.equalIn (d + 1) t (.pointer (some ad)) (.pointer none)).run P w = .ok false w := fun ad d => by simp [Op.equalIn, run_underlying hu]
    have fin : ∀ {q : Option Addr} {b : Bool}, a.eval x = .pointer q → (∀ d : Nat, (Op.equalIn (d + 1) t (.pointer q) (.pointer none)).run P w = .ok b w) → (op = .eql ∧ v = .bool b ∨ op = .neq ∧ v = .bool (!b)) → s' = s → Meets P F a w o v s' := by
      intro q b hx hr hop hs
      subst hs
      have hgd : (eqGuard op t x y (.pointer q) (.pointer none)).run P w = .ok () w := eqGuard_plain (by simp) (by simp) w
      rcases hop with ⟨rfl, rfl⟩ | ⟨rfl, rfl⟩
      · exact meets_pure h (execOp_binOp (u := .bool b) ho hx hy hgd (by simp only [binOp]; simp [Op.equal, Op.maxDepth, hr 9999])) rfl
      · exact meets_pure h (execOp_binOp (u := .bool (!b)) ho hx hy hgd (by simp only [binOp]; simp [Op.equal, Op.maxDepth, hr 9999])) rfl
    cases op <;> cases vx <;> try (simp only [reduceCtorEq] at hl; done)
    all_goals
      simp only [Option.some.injEq, Prod.mk.injEq] at hl
      obtain ⟨_, rfl, rfl⟩ := hl
    · obtain ⟨g', _, hx⟩ := hv.2
      exact fin hx (hsome _) (.inl ⟨rfl, rfl⟩) rfl
    · obtain ⟨_, _, _, _, _, _, _, _, _, _, hx⟩ := hv
      exact fin hx (hsome _) (.inl ⟨rfl, rfl⟩) rfl
    · obtain ⟨ad, _, hx, _⟩ := hv
      exact fin hx (hsome _) (.inl ⟨rfl, rfl⟩) rfl
    · exact fin hv hnil (.inl ⟨rfl, rfl⟩) rfl
    · obtain ⟨g', _, hx⟩ := hv.2
      exact fin hx (hsome _) (.inr ⟨rfl, rfl⟩) rfl
    · obtain ⟨_, _, _, _, _, _, _, _, _, _, hx⟩ := hv
      exact fin hx (hsome _) (.inr ⟨rfl, rfl⟩) rfl
    · obtain ⟨ad, _, hx, _⟩ := hv
      exact fin hx (hsome _) (.inr ⟨rfl, rfl⟩) rfl
    · exact fin hv hnil (.inr ⟨rfl, rfl⟩) rfl

theorem meets_binOp (hb : tabB P tb = true) (h : RelL F s loc a w) {op : BinOp} {t t' : TypeId} {x y : Operand} (ho : o.op = .binOp op t x y t') {d : Nat} {g : Bool} (hl : opA tb s d (.binOp op t x y t') = some (g, v, s')) : g = true → Meets P F a w o v s' := by
  intro hg
  have hvx := h.oper x
  have hvy := h.oper y
  -- the plain case
  have plain : ∀ (p q : V), s.val x = p → s.val y = q → (bif okTy tb t p q then (match binV op p q with | some (g, v) => some (g, v, s) | none => none) else none : OpR) = some (g, v, s') → Meets P F a w o v s' := by
    intro p q hp hq hl
    rw [hp] at hvx
    rw [hq] at hvy
    cases hc : okTy tb t p q
    · rw [hc] at hl; cases hl
    · rw [hc] at hl
      simp only [cond_true] at hl
      cases hbv : binV op p q with
      | none => rw [hbv] at hl; cases hl
      | some r =>
        obtain ⟨g', v'⟩ := r
        rw [hbv] at hl
        simp only [Option.some.injEq, Prod.mk.injEq] at hl
        obtain ⟨rfl, rfl, rfl⟩ := hl
        obtain ⟨e1, e2⟩ := binV_plain hvx hvy hbv
        obtain ⟨u, hr, hvu⟩ := binV_run (P := P) hvx hvy hbv hg t (fun b c hpb hqc => by
          subst hpb; subst hqc
          simp only [okTy] at hc
          cases hti : tb.get t with
          | none => rw [hti] at hc; cases hc
          | some i =>
            have hok := ti_ok hb hti
            obtain ⟨t0, kd, sz, byt, ty, zr, eqq⟩ := i
            rw [hti] at hc
            cases kd <;> simp only [Bool.false_eq_true] at hc
            have := hok.kd
            cases hu : P.underlying t with
            | none => rw [hu] at this; simp [kdB] at this
            | some d =>
              rw [hu] at this
              cases d <;> simp [kdB] at this
              rfl) w
        exact meets_pure h (execOp_binOp ho rfl rfl (eqGuard_plain e1 e2 w) hr) hvu
  simp only [opA] at hl
  cases hy : s.val y with
  | nilp =>
    have hye : a.eval y = .pointer none := by rw [hy] at hvy; exact hvy
    cases hx : s.val x with
    | agg as => rw [hx, hy] at hl; exact meets_ptrEq hb h ho hye (by rw [hx]; exact hl) hg
    | _ => rw [hx, hy] at hl; exact meets_ptrEq hb h ho hye (by rw [hx]; exact hl) hg
  | agg bs =>
    cases hx : s.val x with
    | agg as =>
      rw [hx, hy] at hl
      simp only at hl
      cases hti : tb.get t with
      | none => simp only [hti, reduceCtorEq] at hl
      | some i =>
        have hok := ti_ok hb hti
        rw [hti] at hl
        simp only at hl
        cases hty : i.ty with
        | none => simp only [hty, reduceCtorEq] at hl
        | some e =>
          simp only [hty] at hl
          cases hc : i.eq
          · rw [hc] at hl; cases hl
          · rw [hc] at hl
            simp only [cond_true] at hl
            have heqb := hok.eq hc
            rw [hty] at heqb
            rw [hx] at hvx
            rw [hy] at hvy
            obtain ⟨us, hxe, hus, _⟩ := hvx
            obtain ⟨qs, hye, hqs, _⟩ := hvy
            cases he : eqVs (leaves e) as bs with
            | none => cases op <;> simp only [he, reduceCtorEq] at hl
            | some r =>
              have hr := run_eq_agg heqb hus hqs he w
              obtain ⟨_, hgt, _⟩ := eqB_spec heqb
              cases op <;> simp only [he, reduceCtorEq, Option.some.injEq, Prod.mk.injEq] at hl
              · obtain ⟨_, rfl, rfl⟩ := hl
                exact meets_pure h (execOp_binOp (u := .bool r) ho hxe hye (guard_agg hgt w) (by simp only [binOp]; simp [hr])) rfl
              · obtain ⟨_, rfl, rfl⟩ := hl
                exact meets_pure h (execOp_binOp (u := .bool (!r)) ho hxe hye (guard_agg hgt w) (by simp only [binOp]; simp [hr])) rfl
    | _ => rw [hx, hy] at hl; exact plain _ _ hx hy hl
  | _ =>
    cases hx : s.val x with
    | agg as => rw [hx, hy] at hl; exact plain _ _ hx hy hl
    | _ => rw [hx, hy] at hl; exact plain _ _ hx hy hl

theorem foldInt_run {f : Int → Int → Int} {m2 : Value → Value → Sem Value} (hm : ∀ (k : IntKind) (p q : Int) (w : World), (m2 (.int k p) (.int k q)).run P w = .ok (.int k (f p q)) w) {x : Cx} (k : IntKind) :
    ∀ (r : List V) (us : List Value) (p n : Int), VRs x r us → foldInt f k p r = some n → (us.foldlM m2 (.int k p) : Sem Value).run P w = .ok (.int k n) w
  | [], us, p, n, e, h => by
    simp only [foldInt, Option.some.injEq] at h
    subst h
    rw [show us = [] from e]; simp
  | v :: r, us, p, n, ⟨u, q, e, hv, hr⟩, h => by
    subst e
    cases v <;> simp only [foldInt, reduceCtorEq] at h
    split at h
    · rename_i hk
      subst hk
      rw [show u = _ from hv]
      simp [List.foldlM_cons, hm, foldInt_run hm _ r q _ n hr h]
    · cases h

theorem meets_builtin (hb : tabB P tb = true) (h : RelL F s loc a w) {d : Nat} {b : Builtin} {args : Array Operand} {ts : Array TypeId} (ho : o.op = .call { callee := .builtin b, args := args, argTypes := ts })
    {g : Bool} (hl : builtinA tb s d b ts.toList (args.toList.map s.val) = some (g, v, s')) : g = true → Meets P F a w o v s' := by
  intro hg
  have hvs := h.opers args.toList
  have hargs : (args.map a.eval).toList = args.toList.map a.eval := by simp
  cases b <;> try (simp only [builtinA, reduceCtorEq] at hl; done)
  case len =>
    cases hal : args.toList with
    | nil => simp only [builtinA, hal, List.map_nil, reduceCtorEq] at hl
    | cons x r =>
      cases r with
      | cons y q => simp only [builtinA, hal, List.map_cons, reduceCtorEq] at hl
      | nil =>
        simp only [builtinA, hal, List.map_cons, List.map_nil] at hl
        have hv := h.oper x
        generalize s.val x = vx at hl hv
        have hex : execOp a.eval o = (do pure (.value (← Builtin.len_ ts o.type #[a.eval x]))) := exec_builtin ho (by
          have : args.map a.eval = #[a.eval x] := by apply Array.ext'; simp [hal]
          simp [builtin, this])
        cases hts : ts.toList with
        | nil => simp only [hts, reduceCtorEq] at hl
        | cons t tr =>
          have hts0 : ts[0]? = some t := by rw [← Array.getElem?_toList, hts]; rfl
          simp only [hts] at hl
          cases hti : tb.get t with
          | none => simp only [hti, reduceCtorEq] at hl
          | some i =>
            have hok := ti_ok hb hti
            obtain ⟨t0, kd, sz, byt, ty, zr, eqq⟩ := i
            rw [hti] at hl
            cases kd <;> simp only [reduceCtorEq] at hl
            case str =>
              cases vx <;> simp only [reduceCtorEq, Option.some.injEq, Prod.mk.injEq] at hl
              obtain ⟨_, rfl, rfl⟩ := hl
              exact meets_pure h (execOp_v hex (by simp [Builtin.len_, hts0, run_underlying (hok.under_str rfl), show a.eval x = _ from hv, goInt])) rfl
            case slice et =>
              have fin : ∀ {A : Option Addr} {n c : Nat}, a.eval x = .slice A n c → Meets P F a w o (.int .i64 n) s := by
                intro A n c hx
                exact meets_pure h (execOp_v hex (by simp [Builtin.len_, hts0, run_underlying (hok.under_slice rfl), hx, goInt])) rfl
              cases vx <;> simp only [lenA, reduceCtorEq, Option.some.injEq, Prod.mk.injEq] at hl
              case im e xs =>
                obtain ⟨_, rfl, rfl⟩ := hl
                obtain ⟨A, c, vs, hu, _⟩ := hv
                injection hu with hu _
                exact fin hu
              case own bb =>
                cases hm : s.mem bb <;> simp only [hm, reduceCtorEq, Option.some.injEq, Prod.mk.injEq] at hl
                rename_i et' e' xs
                obtain ⟨_, rfl, rfl⟩ := hl
                have hbr := h.blk bb
                rw [hm] at hbr
                obtain ⟨flat, hown, hels⟩ := hbr
                have hu : a.eval x = loc bb := hv.1
                rcases hown.2 with ⟨hv0, hn0⟩ | ⟨g, cap, cur, hv0, _⟩
                · have hv0 : loc bb = .slice none 0 0 := hv0
                  have := fin (by rw [hu, hv0])
                  rw [hn0]; exact this
                · have hv0 : loc bb = .slice (some ⟨g, 0, none⟩) xs.length cap := hv0
                  exact fin (by rw [hu, hv0])
              case ownsub bb off len =>
                obtain ⟨_, rfl, rfl⟩ := hl
                obtain ⟨t', e', xs', A, n, c, hm', hlb, hle', c', hlc, hcc', hu⟩ := hv
                rcases hu with ⟨_, hu⟩ | ⟨g2, _, hu | ⟨hc0, _, ad, hu⟩⟩
                · exact fin hu
                · exact fin hu
                · have : len = 0 := by omega
                  rw [this]
                  exact fin hu
              case nils =>
                obtain ⟨_, rfl, rfl⟩ := hl
                exact fin hv
  case append =>
    cases hal : args.toList with
    | nil => simp only [builtinA, hal, List.map_nil, reduceCtorEq] at hl
    | cons x r =>
      cases r with
      | nil => simp only [builtinA, hal, List.map_cons, List.map_nil, reduceCtorEq] at hl
      | cons y q =>
        cases q with
        | cons z q => simp only [builtinA, hal, List.map_cons, reduceCtorEq] at hl
        | nil =>
          simp only [builtinA, hal, List.map_cons, List.map_nil] at hl
          cases hts : ts.toList with
          | nil => simp only [hts, reduceCtorEq] at hl
          | cons t tr =>
            cases tr with
            | nil => simp only [hts, reduceCtorEq] at hl
            | cons tx tr =>
              cases tr with
              | cons ty tr => simp only [hts, reduceCtorEq] at hl
              | nil =>
                simp only [hts] at hl
                exact meets_append hb h ho hal hts hl hg
  case clear =>
    cases hal : args.toList with
    | nil => simp only [builtinA, hal, List.map_nil, reduceCtorEq] at hl
    | cons x r =>
      cases r with
      | cons y q => simp only [builtinA, hal, List.map_cons, reduceCtorEq] at hl
      | nil =>
        simp only [builtinA, hal, List.map_cons, List.map_nil] at hl
        cases hts : ts.toList with
        | nil => simp only [hts, reduceCtorEq] at hl
        | cons t tr =>
          have hlen : 0 < ts.size := by
            have : ts.size = ts.toList.length := by simp
            rw [this, hts]; simp
          exact meets_clear hb h ho hal (t := t) (by rw [hts]; rfl) hlen (by simpa only [hts] using hl) hg
  case max =>
    cases hal : args.toList with
    | nil => simp only [builtinA, hal, List.map_nil, reduceCtorEq] at hl
    | cons x r =>
      rw [hal] at hvs hargs
      simp only [builtinA, hal, List.map_cons] at hl
      obtain ⟨u, q, e, hv, hr⟩ := hvs
      generalize s.val x = vx at hl hv
      cases vx <;> simp only [reduceCtorEq] at hl
      rename_i k p
      cases hf : foldInt imax k p (List.map s.val r) with
      | none => simp only [hf, reduceCtorEq] at hl
      | some n =>
        simp only [hf, Option.some.injEq, Prod.mk.injEq] at hl
        obtain ⟨_, rfl, rfl⟩ := hl
        have hex : execOp a.eval o = (do pure (.value (← Builtin.max_ ts o.type (args.map a.eval)))) := exec_builtin ho (by simp [builtin])
        refine meets_pure h (u := .int k n) (execOp_v hex ?_) rfl
        unfold Builtin.max_
        rw [hargs, e]
        rw [show u = _ from hv]
        exact foldInt_run (m2 := Builtin.max2) (fun k p q w => by simp [Builtin.max2, imax]) k _ q p n hr hf
  case min =>
    cases hal : args.toList with
    | nil => simp only [builtinA, hal, List.map_nil, reduceCtorEq] at hl
    | cons x r =>
      rw [hal] at hvs hargs
      simp only [builtinA, hal, List.map_cons] at hl
      obtain ⟨u, q, e, hv, hr⟩ := hvs
      generalize s.val x = vx at hl hv
      cases vx <;> simp only [reduceCtorEq] at hl
      rename_i k p
      cases hf : foldInt imin k p (List.map s.val r) with
      | none => simp only [hf, reduceCtorEq] at hl
      | some n =>
        simp only [hf, Option.some.injEq, Prod.mk.injEq] at hl
        obtain ⟨_, rfl, rfl⟩ := hl
        have hex : execOp a.eval o = (do pure (.value (← Builtin.min_ ts o.type (args.map a.eval)))) := exec_builtin ho (by simp [builtin])
        refine meets_pure h (u := .int k n) (execOp_v hex ?_) rfl
        unfold Builtin.min_
        rw [hargs, e]
        rw [show u = _ from hv]
        exact foldInt_run (m2 := Builtin.min2) (fun k p q w => by simp [Builtin.min2, imin]) k _ q p n hr hf
end
end AM
namespace AM
open Go

section
variable {P : Program} {F : Fr} {tb : Tab} {s s' : St} {loc : Nat → Value} {a : Act} {w : World} {o : Oper} {v : V}

theorem meets_move (h : RelL F s loc a w) {x : Operand} (ho : o.op = .move x ∨ o.op = .assign x) : Meets P F a w o (s.val x) s :=
  meets_pure h (u := a.eval x) (by rcases ho with ho | ho <;> simp [execOp, ho]) (h.oper x)
theorem meets_not (h : RelL F s loc a w) {t : TypeId} {x : Operand} (ho : o.op = .unOp .not t x) {b : Bool} (hx : a.eval x = .bool b) : Meets P F a w o (.bool (!b)) s :=
  meets_pure h (u := .bool (!b)) (by simp [execOp, ho, hx, Op.unary]) rfl
theorem meets_neg (h : RelL F s loc a w) {t : TypeId} {x : Operand} (ho : o.op = .unOp .neg t x) {k : IntKind} {n : Int} (hx : a.eval x = .int k n) : Meets P F a w o (.int k (k.wrap (0 - n))) s :=
  meets_pure h (u := .int k (k.wrap (0 - n))) (by simp [execOp, ho, hx, Op.unary, Op.intArith]) rfl
theorem TIOk.under {P : Program} {t : TypeId} {i : TI} (h : TIOk P t i) : ∃ d, P.underlying t = some d := by
  have := h.kd
  cases hu : P.underlying t with
  | none => rw [hu] at this; cases hk : i.kd <;> simp [hk, kdB] at this
  | some d => exact ⟨d, rfl⟩

theorem meets_pureops (hb : tabB P tb = true) (h : RelL F s loc a w) {d : Nat} {op : Op} (ho : o.op = op) {g : Bool} (hl : opA tb s d op = some (g, v, s')) (hg : g = true)
    (hop : (∃ x, op = .move x) ∨ (∃ x, op = .assign x) ∨ (∃ x, op = .nilCheck x) ∨ (∃ u t x, op = .unOp u t x) ∨ (∃ t u x, op = .convert t u x) ∨ (∃ t x y, op = .index t x y) ∨ (∃ x k, op = .extract x k) ∨ (∃ f x y, op = .makeFunc f x y)) : Meets P F a w o v s' := by
  rcases hop with ⟨x, rfl⟩ | ⟨x, rfl⟩ | ⟨x, rfl⟩ | ⟨u, t, x, rfl⟩ | ⟨t, u, x, rfl⟩ | ⟨t, x, y, rfl⟩ | ⟨x, k, rfl⟩ | ⟨f, fs, cs, rfl⟩
  · simp only [opA, Option.some.injEq, Prod.mk.injEq] at hl
    obtain ⟨_, rfl, rfl⟩ := hl
    exact meets_move h (.inl ho)
  · simp only [opA, Option.some.injEq, Prod.mk.injEq] at hl
    obtain ⟨_, rfl, rfl⟩ := hl
    exact meets_move h (.inr ho)
  · simp only [opA] at hl
    have hv := h.oper x
    generalize s.val x = vx at hl hv
    have fin : ∀ {ad : Addr}, a.eval x = .pointer (some ad) → (execOp a.eval o).run P w = .ok (.value (.pointer (some ad))) w := fun hx => by simp [execOp, ho, hx]
    cases vx <;> simp only [reduceCtorEq, Option.some.injEq, Prod.mk.injEq] at hl
    · obtain ⟨_, rfl, rfl⟩ := hl
      obtain ⟨hc, g', hl', hx⟩ := hv
      exact meets_pure h (fin hx) ⟨hc, g', hl', rfl⟩
    · obtain ⟨_, rfl, rfl⟩ := hl
      obtain ⟨t', e', xs', g, n, c, h1, h2, h3, h4, hx⟩ := hv
      exact meets_pure h (fin hx) ⟨t', e', xs', g, n, c, h1, h2, h3, h4, rfl⟩
    · obtain ⟨_, rfl, rfl⟩ := hl
      obtain ⟨ad, vs, hx, h1⟩ := hv
      exact meets_pure h (fin hx) ⟨ad, vs, rfl, h1⟩
  · have hv := h.oper x
    cases u <;> simp only [opA, reduceCtorEq] at hl <;> (generalize s.val x = vx at hl hv) <;> (cases vx <;> simp only [reduceCtorEq, Option.some.injEq, Prod.mk.injEq] at hl)
    · obtain ⟨_, rfl, rfl⟩ := hl
      exact meets_neg h ho hv
    · obtain ⟨_, rfl, rfl⟩ := hl
      exact meets_not h ho hv
  · simp only [opA] at hl
    have hv := h.oper x
    generalize s.val x = vx at hl hv
    cases hts : tb.get t with
    | none => simp only [hts, reduceCtorEq] at hl
    | some i0 =>
    obtain ⟨d0, hd0⟩ := (ti_ok hb hts).under
    simp only [hts] at hl
    cases hti : tb.get u with
    | none => simp only [hti, reduceCtorEq] at hl
    | some i =>
      have hok := ti_ok hb hti
      obtain ⟨t0, kd, sz, byt, ty, zr, eqq⟩ := i
      rw [hti] at hl
      cases kd <;> cases vx <;> simp only [reduceCtorEq, Option.some.injEq, Prod.mk.injEq] at hl
      · obtain ⟨hgg, rfl, rfl⟩ := hl
        rename_i k k' n
        have hx : a.eval x = .int k' n := hv
        refine meets_pure h (execOp_v (X := convert t u (a.eval x)) (by simp [execOp, ho]) ?_) rfl
        simp [convert, Sem.run_bind, run_underlying hd0, run_underlying (hok.under_int rfl), hx, Conv.intToInt]
      · obtain ⟨hgg, rfl, rfl⟩ := hl
        rename_i b
        have hx : a.eval x = .string b := hv
        refine meets_pure h (execOp_v (X := convert t u (a.eval x)) (by simp [execOp, ho]) ?_) rfl
        simp [convert, Sem.run_bind, run_underlying hd0, run_underlying (hok.under_str rfl), hx]
  · simp only [opA] at hl
    have hv := h.oper x
    have hv' := h.oper y
    generalize s.val x = vx at hl hv
    generalize s.val y = vy at hl hv'
    cases hti : tb.get t with
    | none => simp only [hti, reduceCtorEq] at hl
    | some i =>
      have hok := ti_ok hb hti
      obtain ⟨t0, kd, sz, byt, ty, zr, eqq⟩ := i
      rw [hti] at hl
      cases kd <;> cases vx <;> cases vy <;> try (simp only [reduceCtorEq] at hl; done)
      simp only [Option.some.injEq, Prod.mk.injEq] at hl
      obtain ⟨rfl, rfl, rfl⟩ := hl
      obtain ⟨h0, h1⟩ := idxOk_spec hg
      refine meets_pure h (execOp_v (X := Instr.index t (a.eval x) (a.eval y)) (by simp [execOp, ho]) ?_) rfl
      rw [show a.eval x = _ from hv, show a.eval y = _ from hv']
      exact run_index_str (hok.under_str rfl) h0 h1 w
  · simp only [opA] at hl
    have hv := h.oper x
    generalize s.val x = vx at hl hv
    cases vx <;> simp only [reduceCtorEq] at hl
    rename_i vs
    cases hc : Nat.blt k vs.length
    · rw [hc] at hl; cases hl
    · rw [hc] at hl
      simp only [cond_true, Option.some.injEq, Prod.mk.injEq] at hl
      obtain ⟨_, rfl, rfl⟩ := hl
      have hk : k < vs.length := by simpa [Nat.blt_eq] using hc
      obtain ⟨us, hx, hvs⟩ := hv
      obtain ⟨u, hu, hvu⟩ := VRs.get hvs k (vs.getD k .junk) (by rw [List.getD_eq_getElem?_getD, List.getElem?_eq_getElem hk]; rfl)
      refine meets_pure h (u := u) (execOp_v (X := Instr.extract (a.eval x) k) (by simp [execOp, ho]) ?_) hvu
      rw [hx]
      simp [Instr.extract, hu]
  · cases f with
    | func f =>
      obtain ⟨fs⟩ := fs
      cases fs with
      | cons _ _ => simp only [opA, reduceCtorEq] at hl
      | nil =>
        simp only [opA, Option.some.injEq, Prod.mk.injEq] at hl
        obtain ⟨_, rfl, rfl⟩ := hl
        refine meets_pure h (u := .func (.func f) #[] (cs.map a.eval)) (by simp [execOp, ho, Instr.makeFunc]) ?_
        exact ⟨cs.toList.map a.eval, by rw [← Array.toList_map, Array.toArray_toList], h.opers _⟩
    | _ => simp only [opA, reduceCtorEq] at hl

theorem opA_meets (hb : tabB P tb = true) (h : RelL F s loc a w) {d : Nat} {g : Bool} (hl : opA tb s d o.op = some (g, v, s')) (hg : g = true) : Meets P F a w o v s' := by
  cases hop : o.op with
  | move x => exact meets_pureops hb h hop (by rw [hop] at hl; exact hl) hg (.inl ⟨_, rfl⟩)
  | assign x => exact meets_pureops hb h hop (by rw [hop] at hl; exact hl) hg (.inr (.inl ⟨_, rfl⟩))
  | pick c x y => rw [hop] at hl; simp only [opA, reduceCtorEq] at hl
  | alloc t => exact meets_alloc hb h hop (by rw [hop] at hl; exact hl) hg
  | box t x => exact meets_box hb h hop (by rw [hop] at hl; exact hl) hg
  | build t p => exact meets_build hb h hop (by rw [hop] at hl; exact hl) hg
  | buildSlice t n p => exact meets_buildSlice hb h hop (by rw [hop] at hl; exact hl) hg
  | insert t m k x => rw [hop] at hl; simp only [opA, reduceCtorEq] at hl
  | load t x => exact meets_load hb h hop (by rw [hop] at hl; exact hl) hg
  | store t x y => exact meets_store hb h hop (by rw [hop] at hl; exact hl) hg
  | ready g => rw [hop] at hl; simp only [opA, reduceCtorEq] at hl
  | waits g => rw [hop] at hl; simp only [opA, reduceCtorEq] at hl
  | nilCheck x => exact meets_pureops hb h hop (by rw [hop] at hl; exact hl) hg (.inr (.inr (.inl ⟨_, rfl⟩)))
  | binOp op t x y t' => exact meets_binOp hb h hop (by rw [hop] at hl; exact hl) hg
  | unOp op t x => exact meets_pureops hb h hop (by rw [hop] at hl; exact hl) hg (.inr (.inr (.inr (.inl ⟨_, _, _, rfl⟩))))
  | convert t u x => exact meets_pureops hb h hop (by rw [hop] at hl; exact hl) hg (.inr (.inr (.inr (.inr (.inl ⟨_, _, _, rfl⟩)))))
  | sliceToArrayPointer t x => rw [hop] at hl; simp only [opA, reduceCtorEq] at hl
  | makeInterface t x => rw [hop] at hl; simp only [opA, reduceCtorEq] at hl
  | makeFunc f x y => exact meets_pureops hb h hop (by rw [hop] at hl; exact hl) hg (.inr (.inr (.inr (.inr (.inr (.inr (.inr ⟨_, _, _, rfl⟩)))))))
  | makeMap t x => rw [hop] at hl; simp only [opA, reduceCtorEq] at hl
  | makeChan t x => rw [hop] at hl; simp only [opA, reduceCtorEq] at hl
  | makeSlice t x y => exact meets_make hb h hop (by rw [hop] at hl; exact hl) hg
  | slice t x lo hi mx => exact meets_slice hb h hop (by rw [hop] at hl; exact hl) hg
  | fieldAddr t x f => exact meets_fieldAddr hb h hop (by rw [hop] at hl; exact hl) hg
  | field t x f => exact meets_field hb h hop (by rw [hop] at hl; exact hl) hg
  | indexAddr t x y => exact meets_indexAddr hb h hop (by rw [hop] at hl; exact hl) hg
  | index t x y => exact meets_pureops hb h hop (by rw [hop] at hl; exact hl) hg (.inr (.inr (.inr (.inr (.inr (.inl ⟨_, _, _, rfl⟩))))))
  | lookup t x y b => rw [hop] at hl; simp only [opA, reduceCtorEq] at hl
  | mapUpdate t m k x => rw [hop] at hl; simp only [opA, reduceCtorEq] at hl
  | mapEntry t m k => rw [hop] at hl; simp only [opA, reduceCtorEq] at hl
  | entryStore t m k x => rw [hop] at hl; simp only [opA, reduceCtorEq] at hl
  | range t x => exact meets_range hb h hop (by rw [hop] at hl; exact hl) hg
  | next x b => rw [hop] at hl; simp only [opA, reduceCtorEq] at hl
  | entry x => rw [hop] at hl; simp only [opA, reduceCtorEq] at hl
  | typeAssert x t u b => rw [hop] at hl; simp only [opA, reduceCtorEq] at hl
  | extract x k => exact meets_pureops hb h hop (by rw [hop] at hl; exact hl) hg (.inr (.inr (.inr (.inr (.inr (.inr (.inl ⟨_, _, rfl⟩)))))))
  | call c =>
    obtain ⟨callee, args, ts⟩ := c
    rw [hop] at hl
    cases callee with
    | builtin b => exact meets_builtin hb h hop (by simpa only [opA] using hl) hg
    | value f => simp only [opA, reduceCtorEq] at hl
    | invoke r m => simp only [opA, reduceCtorEq] at hl
  | go c => rw [hop] at hl; simp only [opA, reduceCtorEq] at hl
  | defer c => rw [hop] at hl; simp only [opA, reduceCtorEq] at hl
  | panic x => rw [hop] at hl; simp only [opA, reduceCtorEq] at hl
  | send c x => rw [hop] at hl; simp only [opA, reduceCtorEq] at hl
  | recv t c b => rw [hop] at hl; simp only [opA, reduceCtorEq] at hl
  | select cs b => rw [hop] at hl; simp only [opA, reduceCtorEq] at hl
end
end AM
namespace AM
open Go

theorem put_mem (s : St) (d : Option Nat) (v : V) : (s.put d v).mem = s.mem := by cases d <;> rfl
theorem put_val {s : St} {k : Nat} {v : V} {x : Operand} (h : x ≠ .tmp k) : (s.put (some k) v).val x = s.val x := by
  cases x with
  | tmp t =>
    show (bif Nat.ble GH t then V.junk else upd s.env k v t) = (bif Nat.ble GH t then V.junk else s.env t)
    rw [upd_other _ _ _ (fun e => h (by rw [e]))]
  | _ => rfl
theorem put_blk (s : St) (d : Option Nat) (v : V) (b : Nat) (x : Blk) : (s.put d v).blk b x = (s.blk b x).put d v := by cases d <;> rfl

mutual
theorem frz_apart (b : Nat) (x : Blk) : ∀ v : V, b ∉ blksV v → frz b x v = v
  | .junk, _ => rfl
  | .int _ _, _ => rfl
  | .bool _, _ => rfl
  | .str _, _ => rfl
  | .agg cs, h => by simp only [frz]; rw [frzs_apart b x cs h]
  | .im _ _, _ => rfl
  | .own c, h => by
    have : c ≠ b := fun e => h (by simp [blksV, e])
    simp only [frz, beq_ne this, cond_false]
  | .ownsub c _ _, h => by
    have : c ≠ b := fun e => h (by simp [blksV, e])
    simp only [frz, beq_ne this, cond_false]
  | .ptr c _, h => by
    have : c ≠ b := fun e => h (by simp [blksV, e])
    simp only [frz, beq_ne this, cond_false]
  | .elt c _ _, h => by
    have : c ≠ b := fun e => h (by simp [blksV, e])
    simp only [frz, beq_ne this, cond_false]
  | .at_ _ _, _ => rfl
  | .nilp, _ => rfl
  | .nils, _ => rfl
  | .fn _ cs, h => by simp only [frz]; rw [frzs_apart b x cs h]
  | .tuple cs, h => by simp only [frz]; rw [frzs_apart b x cs h]
theorem frzs_apart (b : Nat) (x : Blk) : ∀ vs : List V, b ∉ blksVs vs → frzs b x vs = vs
  | [], _ => rfl
  | v :: r, h => by
    simp only [blksVs, List.mem_append, not_or] at h
    simp only [frzs]
    rw [frz_apart b x v h.1, frzs_apart b x r h.2]
end

theorem St.ext {s q : St} (h : s.env = q.env) (h' : s.mem = q.mem) : s = q := by cases s; cases q; simp_all
theorem put_freeze1 (s : St) (k : Nat) {v : V} (b : Nat) (hv : b ∉ blksV v) : (s.put (some k) v).freeze1 b = (s.freeze1 b).put (some k) v := by
  refine St.ext (funext fun i => ?_) rfl
  show frz b (s.mem b) (upd s.env k v i) = upd (fun i => frz b (s.mem b) (s.env i)) k v i
  by_cases h : i = k
  · subst h; rw [upd_same, upd_same, frz_apart _ _ _ hv]
  · rw [upd_other _ _ _ h, upd_other _ _ _ h]
theorem put_freeze (k : Nat) {v : V} : ∀ (l : List Nat) (s : St), (∀ b ∈ l, b ∉ blksV v) → (s.put (some k) v).freeze l = (s.freeze l).put (some k) v
  | [], _, _ => rfl
  | b :: r, s, hv => by
    show ((s.put (some k) v).freeze1 b).freeze r = _
    rw [put_freeze1 s k b (hv b (List.mem_cons_self ..)), put_freeze k r _ (fun c hc => hv c (List.mem_cons_of_mem _ hc))]; rfl
theorem put_kill (s : St) (k : Nat) {v : V} (b : Nat) (hv : b ∉ blksV v) : (s.put (some k) v).kill b = (s.kill b).put (some k) v := by
  refine St.ext (funext fun i => ?_) rfl
  show frz b .dead (upd s.env k v i) = upd (fun i => frz b .dead (s.env i)) k v i
  by_cases h : i = k
  · subst h; rw [upd_same, upd_same, frz_apart _ _ _ hv]
  · rw [upd_other _ _ _ h, upd_other _ _ _ h]

/-- What an operation yields, with a slot put. -/
def mp (k : Nat) (v : V) (r : Bool × V × St) : Bool × V × St := (r.1, r.2.1, r.2.2.put (some k) v)

section
variable {tb : Tab} {s : St} {k : Nat} {v : V}

theorem loadA_put (t : TypeId) (a : V) : loadA tb (s.put (some k) v) t a = (loadA tb s t a).map (mp k v) := by
  cases a <;> simp only [loadA, put_mem, Bool.cond_eq_ite] <;> (repeat' split) <;> simp_all [mp]
theorem fieldAddrA_put (t : TypeId) (f : Nat) (a : V) : fieldAddrA tb (s.put (some k) v) t f a = (fieldAddrA tb s t f a).map (mp k v) := by
  cases a <;> simp only [fieldAddrA, put_mem, Bool.cond_eq_ite] <;> (repeat' split) <;> simp_all [mp]
theorem indexAddrA_put (t : TypeId) (a b : V) : indexAddrA tb (s.put (some k) v) t a b = (indexAddrA tb s t a b).map (mp k v) := by
  cases b <;> try rfl
  cases a <;> simp only [indexAddrA, put_mem, Bool.cond_eq_ite] <;> (repeat' split) <;> simp_all [mp]
theorem storeA_put (t : TypeId) (a x : V) (hv : ∀ b ∈ twStore s a x, b ∉ blksV v) : storeA tb (s.put (some k) v) t a x = (storeA tb s t a x).map (mp k v) := by
  have hpf : ∀ x, putF (s.put (some k) v) x = putF s x := fun _ => rfl
  have hpn : ∀ x, putNames (s.put (some k) v) x = putNames s x := fun _ => rfl
  cases a <;> try rfl
  case ptr b o => simp only [storeA, put_mem, put_blk, Bool.cond_eq_ite]; (repeat' split) <;> simp_all [mp]
  case elt b i p =>
    simp only [storeA, put_mem, hpf, hpn]
    cases tb.get t with
    | none => rfl
    | some j =>
      cases hm : s.mem b <;> try rfl
      rename_i tt e xs
      simp only
      cases ht : tyP e p with
      | none => rfl
      | some u =>
        cases hs : setP p (putF s x) e (xs.getD i e.d) with
        | none => rfl
        | some y =>
          simp only
          rw [put_freeze k _ _ (fun f hf => hv f (by simp only [twStore, hm, ht]; exact List.mem_cons_of_mem _ hf)), put_blk]
          cases (Nat.beq j.size u.size && !(hasN (putNames s x u) b)) <;> rfl
theorem optNat_put {o : Option Operand} (ho : ∀ x, o = some x → x ≠ .tmp k) (d : Int) : optNat o (s.put (some k) v) d = optNat o s d := by
  cases o with
  | none => rfl
  | some x => simp only [optNat, put_val (ho x rfl)]
theorem sliceA_put (t : TypeId) (x : V) {lo hi mx : Option Operand} (hlo : ∀ x, lo = some x → x ≠ .tmp k) (hhi : ∀ x, hi = some x → x ≠ .tmp k) : sliceA tb (s.put (some k) v) t x lo hi mx = (sliceA tb s t x lo hi mx).map (mp k v) := by
  cases mx <;> simp only [sliceA, put_mem, Bool.cond_eq_ite, optNat_put hlo, optNat_put hhi] <;> (repeat' split) <;> simp_all [mp]
theorem buildA_put (offs : List (Nat × TypeId)) : ∀ (ps : List (Nat × Operand)) (cs : List V), (∀ x ∈ ps.map (·.2), x ≠ .tmp k) → buildA tb (s.put (some k) v) offs cs ps = buildA tb s offs cs ps
  | [], cs, _ => rfl
  | (i, x) :: r, cs, h => by
    have hx : x ≠ .tmp k := h x (by simp)
    have hr : ∀ y ∈ r.map (·.2), y ≠ .tmp k := fun y hy => h y (by simp only [List.map_cons, List.mem_cons]; exact .inr hy)
    simp only [buildA, put_val hx]
    simp only [buildA_put offs r _ hr]
theorem decAll_put (e : Ty) : ∀ (os : List Operand), (∀ x ∈ os, x ≠ .tmp k) → decAll (s.put (some k) v) e os = decAll s e os
  | [], _ => rfl
  | o :: r, h => by
    simp only [decAll, put_mem, put_val (h o (by simp)), decAll_put e r (fun x hx => h x (by simp [hx]))]
theorem vals_put : ∀ {os : List Operand}, (∀ x ∈ os, x ≠ .tmp k) → os.map (s.put (some k) v).val = os.map s.val
  | [], _ => rfl
  | o :: r, h => by simp only [List.map_cons, put_val (h o (by simp)), vals_put (os := r) (fun x hx => h x (by simp [hx]))]
theorem appendA_put (d : Nat) (t tx : TypeId) (x y : V) (hv : ∀ b ∈ twApp d x, b ∉ blksV v) : appendA tb (s.put (some k) v) d t tx x y = (appendA tb s d t tx x y).map (mp k v) := by
  have hfree : (s.put (some k) v).free d = s.free d := rfl
  cases x <;> try (simp only [appendA, put_mem, Bool.cond_eq_ite]; (repeat' split) <;> simp_all [mp]; done)
  case nils =>
    have hk := put_kill s k (v := v) d (hv d (by simp [twApp]))
    simp only [appendA, put_mem, hk, put_blk, Bool.cond_eq_ite, hfree]; (repeat' split) <;> simp_all [mp]
  case own b =>
    have hk := put_kill s k (v := v) b (hv b (by simp [twApp]))
    simp only [appendA, put_mem, hk, put_blk, Bool.cond_eq_ite, hfree]; (repeat' split) <;> simp_all [mp]
  case ownsub b off len =>
    have hk := put_kill s k (v := v) b (hv b (by simp [twApp]))
    cases off with
    | zero => simp only [appendA, put_mem, hk, put_blk, Bool.cond_eq_ite, hfree]; (repeat' split) <;> simp_all [mp]
    | succ n => simp only [appendA, put_mem, Bool.cond_eq_ite, hfree]; (repeat' split) <;> simp_all [mp]
theorem clearA_put (t : TypeId) (x : V) : clearA tb (s.put (some k) v) t x = (clearA tb s t x).map (mp k v) := by
  cases x <;> simp only [clearA, put_mem, put_blk, Bool.cond_eq_ite] <;> (repeat' split) <;> simp_all [mp]
theorem lenA_put (x : V) : lenA (s.put (some k) v) x = lenA s x := by cases x <;> rfl
theorem builtinA_put (d : Nat) (b : Builtin) (ts : List TypeId) (vs : List V) (hv : b = .append → ∀ x r, vs = x :: r → ∀ b ∈ twApp d x, b ∉ blksV v) : builtinA tb (s.put (some k) v) d b ts vs = (builtinA tb s d b ts vs).map (mp k v) := by
  cases b
  case append =>
    match vs with
    | [] => rfl
    | [_] => rfl
    | [x, y] =>
      match ts with
      | [] => rfl
      | [_] => rfl
      | [t, tx] => exact appendA_put d t tx x y (hv rfl x [y] rfl)
      | _ :: _ :: _ :: _ => rfl
    | _ :: _ :: _ :: _ => rfl
  case len =>
    match vs with
    | [] => rfl
    | _ :: _ :: _ => rfl
    | [x] =>
      match ts with
      | [] => rfl
      | t :: _ =>
        simp only [builtinA, lenA_put]
        (repeat' split) <;> simp_all [mp]
  case max | min =>
    match vs with
    | [] => rfl
    | x :: r =>
      cases x <;> try rfl
      simp only [builtinA]
      split <;> simp_all [mp]
  case clear =>
    match vs with
    | [] => rfl
    | _ :: _ :: _ => rfl
    | [x] =>
      match ts with
      | [] => rfl
      | t :: _ => exact clearA_put t x
  all_goals rfl
theorem ptrEq_put (t : TypeId) (op : BinOp) (a : V) : ptrEq tb t op a (s.put (some k) v) = (ptrEq tb t op a s).map (mp k v) := by
  simp only [ptrEq]
  (repeat' split) <;> simp_all [mp]
theorem opA_put (d : Nat) (o : Op) (hv : ∀ b ∈ twA tb s d o, b ∉ blksV v) (ho : ∀ x ∈ o.operands, x ≠ .tmp k) : opA tb (s.put (some k) v) d o = (opA tb s d o).map (mp k v) := by
  have hfree : ∀ d, (s.put (some k) v).free d = s.free d := fun d => rfl
  cases o <;> simp only [Op.operands] at ho <;> try (first | rfl | (simp only [opA]; rfl))
  case move x => simp only [opA, put_val (ho x (by simp))]; rfl
  case assign x => simp only [opA, put_val (ho x (by simp))]; rfl
  case alloc t => simp only [opA, hfree, put_blk, Bool.cond_eq_ite]; (repeat' split) <;> simp_all [mp]
  case box t x => simp only [opA, hfree, put_blk, put_val (ho x (by simp)), Bool.cond_eq_ite]; (repeat' split) <;> simp_all [mp]
  case build t ps =>
    have := fun offs cs => buildA_put (tb := tb) (s := s) (k := k) (v := v) offs ps.toList cs (fun x hx => ho x (by simpa using hx))
    simp only [opA, this]
    (repeat' split) <;> simp_all [mp]
  case buildSlice t n ps =>
    have := fun e => decAll_put (s := s) (k := k) (v := v) e (ps.toList.map (·.2)) (fun x hx => ho x (by simpa using hx))
    simp only [twA, twBuild] at hv
    simp only [opA, hfree, this]
    cases h1 : tb.get t with
    | none => rfl
    | some j =>
      obtain ⟨t0, kd, sz, byt, ty, zr, eqq⟩ := j
      cases kd <;> try rfl
      rename_i et
      simp only [h1] at hv ⊢
      cases h2 : tb.get et with
      | none => rfl
      | some i =>
        simp only [h2] at hv ⊢
        cases h3 : i.ty with
        | none => rfl
        | some e =>
          simp only [h3] at hv ⊢
          cases (s.free d && Nat.beq i.size e.size && Nat.beq n ps.toList.length && fillIx 0 ps.toList && Nat.ble (n * i.size) 1000000 && Nat.ble n 1000000) with
          | false => rfl
          | true =>
            simp only [cond_true]
            cases h4 : decAll s e (ps.toList.map (·.2)) with
            | none => rfl
            | some q =>
              obtain ⟨xs, fs⟩ := q
              simp only [h4] at hv ⊢
              rw [put_freeze k _ _ (fun f hf => hv f (List.mem_cons_of_mem _ hf)), put_blk]; rfl
  case load t x => simp only [opA, put_val (ho x (by simp)), loadA_put]
  case store t x y => simp only [opA, put_val (ho x (by simp)), put_val (ho y (by simp)), storeA_put _ _ _ hv]
  case nilCheck x => simp only [opA, put_val (ho x (by simp))]; (repeat' split) <;> simp_all [mp]
  case binOp op t x y t' =>
    simp only [opA, put_val (ho x (by simp)), put_val (ho y (by simp)), ptrEq_put, Bool.cond_eq_ite]
    (repeat' split) <;> simp_all [mp]
  case unOp u t x => cases u <;> simp only [opA, put_val (ho x (by simp))] <;> (repeat' split) <;> simp_all [mp]
  case convert t u x => simp only [opA, put_val (ho x (by simp))]; (repeat' split) <;> simp_all [mp]
  case makeFunc f fs cs =>
    cases f with
    | func f =>
      obtain ⟨fs⟩ := fs
      cases fs with
      | cons _ _ => rfl
      | nil => 
        have := vals_put (s := s) (k := k) (v := v) (os := cs.toList) (fun x hx => ho x (by simp only [Array.mem_append]; exact .inr (by simpa using hx)))
        simp only [opA, this]; rfl
    | _ => rfl
  case makeSlice t x y => simp only [opA, hfree, put_val (ho x (by simp)), put_val (ho y (by simp)), put_blk, Bool.cond_eq_ite]; (repeat' split) <;> simp_all [mp]
  case slice t x lo hi mx => 
    have := fun y => sliceA_put (tb := tb) (s := s) (k := k) (v := v) t y (lo := lo) (hi := hi) (mx := mx) (fun x hx => ho x (by simp [hx])) (fun x hx => ho x (by simp [hx]))
    simp only [opA, put_val (ho x (by simp)), this]
  case fieldAddr t x f => simp only [opA, put_val (ho x (by simp)), fieldAddrA_put]
  case field t x f => simp only [opA, put_val (ho x (by simp)), Bool.cond_eq_ite]; (repeat' split) <;> simp_all [mp]
  case indexAddr t x y => simp only [opA, put_val (ho x (by simp)), put_val (ho y (by simp)), indexAddrA_put]
  case index t x y => simp only [opA, put_val (ho x (by simp)), put_val (ho y (by simp))]; (repeat' split) <;> simp_all [mp]
  case range t x => simp only [opA, hfree, put_val (ho x (by simp)), put_blk, Bool.cond_eq_ite]; (repeat' split) <;> simp_all [mp]
  case extract x j => simp only [opA, put_val (ho x (by simp)), Bool.cond_eq_ite]; (repeat' split) <;> simp_all [mp]
  case call c =>
    obtain ⟨callee, args, ts⟩ := c
    cases callee with
    | builtin b =>
      have := vals_put (s := s) (k := k) (v := v) (os := args.toList) (fun x hx => ho x (by simp [Call.operands]; exact Array.mem_toList_iff.1 hx))
      simp only [opA, this]
      refine builtinA_put d b _ _ (fun hb x r hx => ?_)
      subst hb
      simpa only [twA, hx] using hv
    | _ => rfl
end
end AM
namespace AM
open Go

def blkBlks : Blk → List Nat
  | .cells _ cs => blksVs cs
  | _ => []
/-- What speaks of none of these blocks stays. -/
def KeepT (tw : List Nat) (s s' : St) : Prop :=
  (∀ k, (∀ b ∈ tw, b ∉ blksV (s.env k)) → s'.env k = s.env k) ∧ (∀ b, b ∉ tw → (∀ c ∈ tw, c ∉ blkBlks (s.mem b)) → s'.mem b = s.mem b)

structure SpecOk (P : Program) (f : FuncId) (sp : Spec) : Prop where
  put : ∀ args s d k v, (∀ b ∈ sp.tw args s.mem d, b ∉ blksV v) → sp.run args (s.put (some k) v) d = (sp.run args s d).map (mp k v)
  keep : ∀ args s d g v s', sp.run args s d = some (g, v, s') → KeepT (sp.tw args s.mem d) s s'
  enter : ∀ (args : Array Value) (w : World), (callFunc f args).run P w = .ok (.enter f args) w
  calls : ∀ (F : Fr) (s : St) (loc : Nat → Value) (a : Act) (w : World) (args : List V) (us : List Value) (d : Nat) (v : V) (s' : St), RelL F s loc a w → VRs (cxOf F s loc w) args us → sp.run args s d = some (true, v, s') →
    Calls P f us.toArray w (fun e w' => ∃ u loc', e = .returned u ∧ RelL F s' loc' a w' ∧ VR (cxOf F s' loc' w') v u)
def TblOk (P : Program) (tbl : Tbl) : Prop := ∀ f sp, tbl f = some sp → SpecOk P f sp

section
variable {P : Program} {F : Fr} {s s' : St} {loc : Nat → Value} {a : Act} {w : World} {o : Oper} {v : V} {c : Cfg} {R : Type} {r : R} {Q : Exit → Act → World → Prop}

theorem opC_put {k d : Nat} (hT : TblOk P c.tbl) (op : Op) (hv : ∀ b ∈ twC c s d op, b ∉ blksV v) (ho : ∀ x ∈ op.operands, x ≠ .tmp k) : opC c (s.put (some k) v) d op = (opC c s d op).map (mp k v) := by
  have base : (∀ b ∈ twA c.tb s d op, b ∉ blksV v) → opA c.tb (s.put (some k) v) d op = (opA c.tb s d op).map (mp k v) := fun hv => opA_put (tb := c.tb) (s := s) (k := k) (v := v) d op hv ho
  cases op <;> try exact base hv
  case call cl =>
    obtain ⟨callee, args, ts⟩ := cl
    cases callee with
    | value f =>
      have hf : f ≠ .tmp k := ho f (by simp [Op.operands, Call.operands])
      have := vals_put (s := s) (k := k) (v := v) (os := args.toList) (fun x hx => ho x (by simp [Op.operands, Call.operands]; exact .inr (Array.mem_toList_iff.1 hx)))
      simp only [opC, put_val hf, this]
      cases hf : s.val f <;> try rfl
      rename_i g cs
      simp only [twC, hf] at hv ⊢
      cases ht : c.tbl g with
      | none => rfl
      | some sp =>
        simp only [ht] at hv
        exact (hT g sp ht).put _ _ _ _ _ hv
    | builtin b => exact base hv
    | invoke r m => exact base hv

theorem opC_sound (htb : tabB P c.tb = true) (hT : TblOk P c.tbl) (h : RelL F s loc a w) {d : Nat} (hc : opC c s d o.op = some (true, v, s')) {next : Act → World → Prop}
    (hn : ∀ u w' loc', RelL F s' loc' a w' → VR (cxOf F s' loc' w') v u → next (a.put o.dst u) w') : o.wp P a w next Q := by
  have base : opA c.tb s d o.op = some (true, v, s') → o.wp P a w next Q := fun hA => by
    obtain ⟨u, w', loc', hd, hr, hv⟩ := opA_meets htb h hA rfl
    exact hd.wp (hn u w' loc' hr hv)
  cases hop : o.op with
  | call cl =>
    obtain ⟨callee, args, ts⟩ := cl
    rw [hop] at hc
    cases callee with
    | value f =>
      simp only [opC] at hc
      have hf := h.oper f
      generalize s.val f = vf at hc hf
      cases vf <;> simp only [reduceCtorEq] at hc
      rename_i g cs
      obtain ⟨us, hx, hus⟩ := hf
      cases ht : c.tbl g with
      | none => simp only [ht, reduceCtorEq] at hc
      | some sp =>
        simp only [ht] at hc
        have hargs := VRs.append (h.opers args.toList) hus
        have hcalls := (hT g sp ht).calls F s loc a w _ _ d v s' h hargs hc
        have hrun : (execOp a.eval o).run P w = .ok (.enter g (args.toList.map a.eval ++ us).toArray) w := by
          have henter := (hT g sp ht).enter (args.toList.map a.eval ++ us).toArray w
          have e : (args.toList.map a.eval ++ us).toArray = args.map a.eval ++ us.toArray := by
            apply Array.ext'
            simp
          rw [e] at henter ⊢
          simp only [execOp, hop, resolve, hx, Deferred.ofValue, Sem.run_bind, Sem.run_pure, Result.andThen_ok, invoke]
          simpa using henter
        unfold Oper.wp
        rw [hrun]
        refine Calls.mono hcalls fun e w' ⟨u, loc', he, hr, hv⟩ => ?_
        subst he
        exact hn u w' loc' hr hv
    | builtin b => exact base (by rw [hop]; exact hc)
    | invoke r m => exact base (by rw [hop]; exact hc)
  | _ => exact base (by rw [hop] at hc ⊢; exact hc)

theorem run_getObj_it {r : Nat} {t : ByteArray} {p : Nat} (hb : w.heap[r]? = some (.stringIter t p)) : (getObj r).run P w = .ok (.stringIter t p) w := by
  simp [getObj, Sem.run, hb]
theorem run_setObj_it {r : Nat} {t : ByteArray} {p : Nat} (y : Obj) (hb : w.heap[r]? = some (.stringIter t p)) : (setObj r y).run P w = .ok () { w with heap := w.heap.setIfInBounds r y } := by
  simp [setObj, Sem.run, hb]

theorem nextK_sound (h : RelL F s loc a w) {x : Operand} (ho : o.op = .next x true) {d : Nat} {K : V → St → Option R} (hk : nextK s d (s.val x) K = some r) {next : Act → World → Prop}
    (hn : ∀ v s' u w' loc', K v s' = some r → RelL F s' loc' a w' → VR (cxOf F s' loc' w') v u → next (a.put o.dst u) w') : o.wp P a w next Q := by
  have hv := h.oper x
  generalize s.val x = vx at hk hv
  cases vx <;> simp only [nextK, reduceCtorEq] at hk
  rename_i b off
  cases off with
  | succ n => simp only [reduceCtorEq] at hk
  | zero =>
    simp only at hk
    obtain ⟨hc, g, hl, hx⟩ := hv
    cases hm : s.mem b <;> simp only [hm, reduceCtorEq] at hk
    rename_i t pos
    have hbr := h.blk b
    rw [hm] at hbr
    obtain ⟨g', hl', hg⟩ := hbr
    have hl2 : loc b = .pointer (some ⟨g, 0, none⟩) := hl
    have hl3 : loc b = .pointer (some ⟨g', 0, none⟩) := hl'
    have hgg : g' = g := by rw [hl2] at hl3; injection hl3 with e; injection e with e; injection e with e; exact e.symm
    subst hgg
    have hg2 : w.heap[g']? = some (.stringIter t pos) := hg
    by_cases hp : pos < t.size
    · rw [decide_eq_true hp] at hk
      simp only [cond_true] at hk
      have hrun : (execOp a.eval o).run P w = .ok (.value (.tuple #[.bool true, goInt pos, .int .i32 (Utf8.decode t pos).1])) { w with heap := w.heap.setIfInBounds g' (.stringIter t (pos + (Utf8.decode t pos).2)) } := by
        refine execOp_v (X := Instr.next (a.eval x) true o.type) (by simp only [execOp, ho]) ?_
        rw [hx]
        simp [Instr.next, Sem.run_bind, run_getObj_it hg2, run_setObj_it _ hg2, hp]
      unfold Oper.wp
      rw [hrun]
      have hlt := (Array.getElem?_eq_some_iff.1 hg).1
      obtain ⟨hr, hle⟩ := h.write (b := b) (g := g') (w' := { w with heap := w.heap.setIfInBounds g' (.stringIter t (pos + (Utf8.decode t pos).2)) }) (fun e => by rw [hm] at e; cases e) (by rw [hl2]; rfl) rfl rfl rfl (by simp) (fun k hk => by simp [Array.getElem?_setIfInBounds_ne (Ne.symm hk)]) (.iter t (pos + (Utf8.decode t pos).2)) (by rw [hm]; exact .inr ⟨rfl, trivial⟩) (fun e => by cases e)
        (fun _ => ⟨g', hl2, by
          have : g' < w.heap.size := hlt
          simp [cxOf, this]⟩)
      exact hn _ _ _ _ loc hk hr ⟨_, rfl, ⟨_, _, rfl, rfl, ⟨_, _, rfl, rfl, ⟨_, _, rfl, rfl, rfl⟩⟩⟩⟩
    · rw [decide_eq_false hp] at hk
      simp only [cond_false] at hk
      have hrun : (execOp a.eval o).run P w = .ok (.value (.tuple #[.bool false])) w := by
        refine execOp_v (X := Instr.next (a.eval x) true o.type) (by simp only [execOp, ho]) ?_
        rw [hx]
        simp [Instr.next, Sem.run_bind, run_getObj_it hg2, run_setObj_it _ hg2, hp]
      unfold Oper.wp
      rw [hrun]
      exact hn _ _ _ _ loc hk h ⟨_, rfl, ⟨_, _, rfl, rfl, rfl⟩⟩

theorem opK_forms (op : Op) (s : St) (d : Nat) (K : V → St → Option R) :
    (∃ x y z, op = .pick x y z) ∨ (∃ x, op = .next x true) ∨ opK c s d op K = (match opC c s d op with | some (g, v, s') => bif g then K v s' else none | none => none) := by
  cases op <;> try exact .inr (.inr rfl)
  case pick x y z => exact .inl ⟨_, _, _, rfl⟩
  case next x b => cases b with
    | true => exact .inr (.inl ⟨_, rfl⟩)
    | false => exact .inr (.inr rfl)

theorem opK_sound (htb : tabB P c.tb = true) (hT : TblOk P c.tbl) (h : RelL F s loc a w) {d : Nat} {K : V → St → Option R} (hk : opK c s d o.op K = some r) {next : Act → World → Prop}
    (hn : ∀ v s' u w' loc', K v s' = some r → RelL F s' loc' a w' → VR (cxOf F s' loc' w') v u → next (a.put o.dst u) w') : o.wp P a w next Q := by
  rcases opK_forms (c := c) o.op s d K with ⟨x, y, z, hop⟩ | ⟨x, hop⟩ | heq
  · rw [hop] at hk
    simp only [opK] at hk
    have hv := h.oper x
    generalize s.val x = vx at hk hv
    cases vx <;> simp only [reduceCtorEq] at hk
    rename_i t
    have hx : a.eval x = .bool t := hv
    have hrun : (execOp a.eval o).run P w = .ok (.value (if t then a.eval y else a.eval z)) w := by
      simp only [execOp, hop, hx, asBool, Sem.run_bind, Sem.run_pure, Result.andThen_ok]
    unfold Oper.wp
    rw [hrun]
    cases t
    · exact hn _ _ _ _ loc hk h (h.oper z)
    · exact hn _ _ _ _ loc hk h (h.oper y)
  · rw [hop] at hk
    exact nextK_sound (d := d) h hop hk hn
  · rw [heq] at hk
    cases hC : opC c s d o.op with
    | none => simp only [hC, reduceCtorEq] at hk
    | some q =>
      obtain ⟨g, v, s'⟩ := q
      rw [hC] at hk
      cases g
      · cases hk
      · exact opC_sound htb hT h hC (fun u w' loc' hr hv => hn v s' u w' loc' hk hr hv)
end
end AM
namespace AM
open Go

section
variable {P : Program} {F : Fr} {s s' : St} {loc : Nat → Value} {a : Act} {w : World} {o : Oper} {v : V} {c : Cfg} {R : Type} {r : R} {Q : Exit → Act → World → Prop}

theorem nextK_mono {d : Nat} {x : V} {K K' : V → St → Option R} (hm : ∀ v s', K v s' = some r → K' v s' = some r) (h : nextK s d x K = some r) : nextK s d x K' = some r := by
  cases x <;> simp only [nextK, reduceCtorEq] at h ⊢
  rename_i b off
  cases off with
  | succ n => simp only [reduceCtorEq] at h
  | zero =>
    simp only at h ⊢
    cases hb : s.mem b <;> simp only [hb, reduceCtorEq] at h ⊢
    rename_i t pos
    cases hd : decide (pos < t.size)
    · rw [hd] at h; exact hm _ _ h
    · rw [hd] at h; exact hm _ _ h

theorem opK_mono {d : Nat} {op : Op} {K K' : V → St → Option R} (hm : ∀ v s', K v s' = some r → K' v s' = some r) (h : opK c s d op K = some r) : opK c s d op K' = some r := by
  rcases opK_forms (c := c) op s d K with ⟨x, y, z, rfl⟩ | ⟨x, rfl⟩ | heq
  · simp only [opK] at h ⊢
    cases hx : s.val x <;> simp only [hx, reduceCtorEq] at h ⊢
    rename_i b
    cases b
    · exact hm _ _ h
    · exact hm _ _ h
  · exact nextK_mono (d := d) hm h
  · rcases opK_forms (c := c) op s d K' with ⟨x, y, z, rfl⟩ | ⟨x, rfl⟩ | heq'
    · simp only [opK] at h ⊢
      cases hx : s.val x <;> simp only [hx, reduceCtorEq] at h ⊢
      rename_i b
      cases b
      · exact hm _ _ h
      · exact hm _ _ h
    · exact nextK_mono (d := d) hm h
    · rw [heq] at h
      rw [heq']
      cases hC : opC c s d op with
      | none => simp only [hC, reduceCtorEq] at h
      | some q =>
        obtain ⟨g, v, s'⟩ := q
        rw [hC] at h
        cases g
        · cases h
        · exact hm _ _ h

theorem dst_lt {nt : Nat} (h : dstOk nt o = true) : ∀ k, o.dst = some k → k < nt := fun k hk => by
  simp only [dstOk, hk] at h
  simpa [Nat.blt_eq] using h

/-- Is the operation wanted? -/
def wantedA (all : List Oper) (o : Oper) (s : St) : Option Bool :=
  match o.guard with
  | none => some true
  | some (j, want) => match guardSlot all j with
    | some g => match s.env g with
      | .bool b => some (b == want)
      | .tuple [] => some false
      | _ => none
    | none => none

theorem put_lit {g : Nat} {v : V} (h : s.env g = v) : s.put (some g) v = s := by
  refine St.ext (funext fun i => ?_) rfl
  show upd s.env g v i = s.env i
  by_cases hi : i = g
  · subst hi; rw [upd_same, h]
  · rw [upd_other _ _ _ hi]

theorem guardK_eq (all : List Oper) (o : Oper) (s : St) (yes no : St → Option R) : guardK all o s yes no = match wantedA all o s with | some true => yes s | some false => no s | none => none := by
  unfold guardK wantedA
  cases hg : o.guard with
  | none => rfl
  | some jw =>
    obtain ⟨j, want⟩ := jw
    simp only
    cases hs : guardSlot all j with
    | none => rfl
    | some g =>
      simp only
      cases he : s.env g <;> try rfl
      · rename_i b
        cases b <;> cases want <;> simp only [cond_true, cond_false, put_lit he] <;> rfl
      · rename_i vs
        cases vs <;> rfl

theorem nth_get {α : Type} : ∀ (l : List α) (i : Nat), nth l i = l[i]?
  | [], i => by cases i <;> rfl
  | x :: r, 0 => rfl
  | x :: r, i + 1 => by simpa [nth] using nth_get r i

def dstAt (ops : List Oper) (j : Nat) : Option Nat := match nth ops j with | some o => o.dst | none => none
theorem guardSlot_dst {ops : List Oper} {j g : Nat} (h : guardSlot ops j = some g) : Nat.ble GH g = false ∧ dstAt ops j = some g := by
  unfold guardSlot at h
  unfold dstAt
  cases hn : nth ops j with
  | none => simp only [hn, reduceCtorEq] at h
  | some o =>
    simp only [hn] at h
    simp only
    cases ho : o.dst with
    | none => simp only [ho, reduceCtorEq] at h
    | some k =>
      simp only [ho] at h
      cases hk : Nat.ble GH k
      · rw [hk] at h
        have := Option.some.inj h
        subst this
        exact ⟨hk, rfl⟩
      · rw [hk] at h; cases h
theorem yielded_of {ops : Array Oper} (h : RelL F s loc a w) {j g : Nat} {b : Bool} (hg : guardSlot ops.toList j = some g) (hb : s.env g = .bool b) : yielded ops a.tmps j = some b := by
  obtain ⟨hGH, hg⟩ := guardSlot_dst hg
  have hv := h.oper (.tmp g)
  have hvv : s.val (.tmp g) = s.env g := by show (bif Nat.ble GH g then V.junk else s.env g) = _; rw [hGH]; rfl
  rw [hvv, hb] at hv
  have hv : a.tmps.getD g undef = .bool b := hv
  unfold dstAt at hg
  rw [nth_get] at hg
  have ho : (ops[j]?).bind (·.dst) = some g := by
    rw [Array.getElem?_toList] at hg
    cases hj : ops[j]? with
    | none => rw [hj] at hg; cases hg
    | some x => rw [hj] at hg; exact hg
  unfold yielded
  rw [ho]
  simp only [Option.bind_some]
  cases ht : a.tmps[g]? with
  | none => simp [Array.getD_eq_getD_getElem?, ht, undef] at hv
  | some u =>
    simp [Array.getD_eq_getD_getElem?, ht] at hv
    subst hv; rfl

theorem yielded_none {ops : Array Oper} (h : RelL F s loc a w) {j g : Nat} (hg : guardSlot ops.toList j = some g) (hb : s.env g = .tuple []) : yielded ops a.tmps j = none := by
  obtain ⟨hGH, hg⟩ := guardSlot_dst hg
  have hv := h.oper (.tmp g)
  have hvv : s.val (.tmp g) = s.env g := by show (bif Nat.ble GH g then V.junk else s.env g) = _; rw [hGH]; rfl
  rw [hvv, hb] at hv
  have hv : ∃ us : List Value, a.tmps.getD g undef = .tuple us.toArray ∧ us = [] := hv
  obtain ⟨us, hv, rfl⟩ := hv
  unfold dstAt at hg
  rw [nth_get] at hg
  have ho : (ops[j]?).bind (·.dst) = some g := by
    rw [Array.getElem?_toList] at hg
    cases hj : ops[j]? with
    | none => rw [hj] at hg; cases hg
    | some x => rw [hj] at hg; exact hg
  unfold yielded
  rw [ho]
  simp only [Option.bind_some]
  cases ht : a.tmps[g]? with
  | none => rfl
  | some u =>
    simp [Array.getD_eq_getD_getElem?, ht] at hv
    subst hv; rfl

theorem wanted_of {ops : Array Oper} (h : RelL F s loc a w) {b : Bool} (hw : wantedA ops.toList o s = some b) : Region.wanted o (yielded ops a.tmps) = b := by
  unfold wantedA at hw
  unfold Region.wanted
  cases hg : o.guard with
  | none => rw [hg] at hw; exact Option.some.inj hw
  | some jw =>
    obtain ⟨j, want⟩ := jw
    rw [hg] at hw
    simp only at hw ⊢
    cases hs : guardSlot ops.toList j with
    | none => rw [hs] at hw; cases hw
    | some g =>
      rw [hs] at hw
      simp only at hw
      cases he : s.env g <;> simp only [he, reduceCtorEq] at hw
      · rename_i t
        rw [yielded_of h hs he]
        have := Option.some.inj hw
        subst this
        cases t <;> cases want <;> rfl
      · rename_i vs
        cases vs with
        | cons _ _ => simp only [reduceCtorEq] at hw
        | nil =>
          rw [yielded_none h hs he]
          have := Option.some.inj hw
          subst this
          rfl

theorem guard_sound (hnt : F.nt = c.nt) (h : RelL F s loc a w) {ops : Array Oper} {yes : St → Option R} {K : St → Option R} (hk : guardK ops.toList o s yes (fun s => skipK c s o K) = some r) {next : Act → World → Prop}
    (hy : yes s = some r → o.wp P a w next Q) (hn : ∀ s' a' w' loc', K s' = some r → RelL F s' loc' a' w' → next a' w') : if Region.wanted o (yielded ops a.tmps) then o.wp P a w next Q else next (a.put o.dst undef) w := by
  rw [guardK_eq] at hk
  cases hw : wantedA ops.toList o s with
  | none => rw [hw] at hk; cases hk
  | some b =>
    rw [hw] at hk
    rw [wanted_of h hw]
    cases b
    · simp only [skipK] at hk
      cases hd : dstOk c.nt o
      · rw [hd] at hk; cases hk
      · rw [hd] at hk
        simp only [Bool.false_eq_true, if_false]
        exact hn _ _ _ loc hk (h.put o.dst (by rw [hnt]; exact dst_lt hd) ⟨[], rfl, rfl⟩)
    · simp only [if_true]
      exact hy hk

theorem step_sound (hnt : F.nt = c.nt) (htb : tabB P c.tb = true) (hT : TblOk P c.tbl) (h : RelL F s loc a w) {ops : Array Oper} {K : St → Option R} (hk : stepK c ops.toList o K s = some r) {next : Act → World → Prop}
    (hn : ∀ s' a' w' loc', K s' = some r → RelL F s' loc' a' w' → next a' w') : if Region.wanted o (yielded ops a.tmps) then o.wp P a w next Q else next (a.put o.dst undef) w := by
  refine guard_sound hnt h hk (fun hy => ?_) hn
  simp only [oneK] at hy
  cases hd : dstOk c.nt o
  · rw [hd] at hy; cases hy
  · rw [hd] at hy
    simp only [cond_true] at hy
    exact opK_sound htb hT h hy (fun v s' u w' loc' hk' hr hv => hn _ _ _ loc' hk' (hr.put o.dst (by rw [hnt]; exact dst_lt hd) hv))

theorem stepL_sound (hnt : F.nt = c.nt) (htb : tabB P c.tb = true) (hT : TblOk P c.tbl) (h : RelL F s loc a w) {ops : Array Oper} {i : Nat} {wl : List Nat} {log : Log} {K : Log → St → Option R} (hk : stepL c ops.toList i o wl K log s = some r) {next : Act → World → Prop}
    (hn : ∀ lg s' a' w' loc', K lg s' = some r → RelL F s' loc' a' w' → next a' w') : if Region.wanted o (yielded ops a.tmps) then o.wp P a w next Q else next (a.put o.dst undef) w := by
  refine guard_sound hnt h hk (fun hy => ?_) (hn log)
  simp only [oneL] at hy
  cases hd : dstOk c.nt o
  · rw [hd] at hy; cases hy
  · rw [hd] at hy
    simp only [cond_true] at hy
    cases hw : isW o.op
    · rw [hw] at hy
      simp only [cond_false] at hy
      exact opK_sound htb hT h hy (fun v s' u w' loc' hk' hr hv => hn _ _ _ _ loc' hk' (hr.put o.dst (by rw [hnt]; exact dst_lt hd) hv))
    · rw [hw] at hy
      simp only [cond_true] at hy
      cases hc : log.all (fun e => bif hasN wl e.1 then apartN (twC c s (dstOf o) o.op) e.2 else true)
      · rw [hc] at hy; cases hy
      · rw [hc] at hy
        simp only [cond_true] at hy
        exact opK_sound htb hT h hy (fun v s' u w' loc' hk' hr hv => hn _ _ _ _ loc' hk' (hr.put o.dst (by rw [hnt]; exact dst_lt hd) hv))

theorem list_sound (hnt : F.nt = c.nt) (htb : tabB P c.tb = true) (hT : TblOk P c.tbl) {ops : Array Oper} {K : St → Option R} (hn : ∀ s' a' w' loc', K s' = some r → RelL F s' loc' a' w' → Q .normal a' w') :
    ∀ (l : List Oper) (s : St) (loc : Nat → Value) (a : Act) (w : World), RelL F s loc a w → opsK c ops.toList K l s = some r → wpList P ops Q l a w
  | [], s, loc, a, w, h, hk => hn s a w loc hk h
  | o :: rest, s, loc, a, w, h, hk => by
    have := step_sound (Q := Q) hnt htb hT h (o := o) (ops := ops) hk (next := wpList P ops Q rest) (fun s' a' w' loc' hk' hr => list_sound hnt htb hT hn rest s' loc' a' w' hr hk')
    unfold wpList
    split
    · rename_i hw; rw [if_pos hw] at this; exact .inl this
    · rename_i hw; rw [if_neg hw] at this; exact this

/-! ### Operations that only read -/
def valL (c : Cfg) (s : St) (op : Op) : Option V :=
  match op with
  | .pick x a b => match s.val x with
    | .bool t => some (bif t then s.val a else s.val b)
    | _ => none
  | o => match opA c.tb s 0 o with
    | some (true, v, _) => some v
    | _ => none

theorem optM {α : Type} {q : OpR} {f g : Option α} (h : f = g) : f = g := h

theorem loadA_st {tb : Tab} {t : TypeId} {x : V} {g : Bool} (h : loadA tb s t x = some (g, v, s')) : s' = s := by
  cases x <;> simp only [loadA, Bool.cond_eq_ite, reduceCtorEq] at h <;> (repeat' split at h) <;> simp_all
theorem fieldAddrA_st {tb : Tab} {t : TypeId} {f : Nat} {x : V} {g : Bool} (h : fieldAddrA tb s t f x = some (g, v, s')) : s' = s := by
  cases x <;> simp only [fieldAddrA, Bool.cond_eq_ite, reduceCtorEq] at h <;> (repeat' split at h) <;> simp_all
theorem indexAddrA_st {tb : Tab} {t : TypeId} {x y : V} {g : Bool} (h : indexAddrA tb s t x y = some (g, v, s')) : s' = s := by
  cases y <;> try (simp only [indexAddrA, reduceCtorEq] at h; done)
  cases x <;> simp only [indexAddrA, Bool.cond_eq_ite, reduceCtorEq] at h <;> (repeat' split at h) <;> simp_all
theorem sliceA_st {tb : Tab} {t : TypeId} {x : V} {lo hi mx : Option Operand} {g : Bool} (h : sliceA tb s t x lo hi mx = some (g, v, s')) : s' = s := by
  simp only [sliceA, Bool.cond_eq_ite] at h
  (repeat' split at h) <;> simp_all
theorem ptrEq_st {tb : Tab} {t : TypeId} {op : BinOp} {x : V} {g : Bool} (h : ptrEq tb t op x s = some (g, v, s')) : s' = s := by
  simp only [ptrEq] at h
  (repeat' split at h) <;> simp_all

/-- What only reads leaves the state; and it asks for no new name. -/
theorem opA_L {tb : Tab} {d : Nat} (op : Op) (hL : isW op = false) : opA tb s d op = opA tb s 0 op ∧ ∀ g v s', opA tb s d op = some (g, v, s') → s' = s := by
  cases op <;> try (cases hL; done)
  case load t x => exact ⟨rfl, fun g v s' h => loadA_st h⟩
  case fieldAddr t x f => exact ⟨rfl, fun g v s' h => fieldAddrA_st h⟩
  case indexAddr t x y => exact ⟨rfl, fun g v s' h => indexAddrA_st h⟩
  case slice t x lo hi mx => exact ⟨rfl, fun g v s' h => sliceA_st h⟩
  case call cl =>
    obtain ⟨callee, args, ts⟩ := cl
    cases callee with
    | builtin b =>
      cases b <;> try (cases hL; done)
      all_goals
        simp only [opA]
        generalize args.toList.map s.val = vs
        generalize ts.toList = tl
        refine ⟨by rcases vs with _ | ⟨x, _ | ⟨y, r⟩⟩ <;> (try cases x) <;> rfl, fun g v s' h => ?_⟩
        unfold builtinA at h
        (repeat' split at h) <;> simp_all
    | value f => cases hL
    | invoke r m => cases hL
  case makeFunc f fs cs =>
    refine ⟨by cases f <;> (try rfl); obtain ⟨fs⟩ := fs; cases fs <;> rfl, fun g v s' h => ?_⟩
    simp only [opA] at h
    split at h <;> simp_all
  case binOp op t x y t' =>
    refine ⟨rfl, fun g v s' h => ?_⟩
    simp only [opA, Bool.cond_eq_ite] at h
    (repeat' split at h) <;> first | exact ptrEq_st h | simp_all
  case unOp u t x =>
    refine ⟨by cases u <;> rfl, fun g v s' h => ?_⟩
    cases u <;> simp only [opA] at h <;> (repeat' split at h) <;> simp_all
  all_goals
    refine ⟨rfl, fun g v s' h => ?_⟩
    simp only [opA, Bool.cond_eq_ite] at h
    (repeat' split at h) <;> simp_all

theorem opC_L (op : Op) (hL : isW op = false) (s : St) (d : Nat) : opC c s d op = opA c.tb s d op := by
  cases op <;> try rfl
  rename_i cl
  obtain ⟨callee, args, ts⟩ := cl
  cases callee with
  | value f => cases hL
  | _ => rfl

theorem valL_eq {op : Op} (h : ∀ x y z, op ≠ .pick x y z) (s : St) : valL c s op = match opA c.tb s 0 op with | some (true, v, _) => some v | _ => none := by
  cases op <;> try rfl
  exact absurd rfl (h _ _ _)

theorem L_form {d : Nat} (op : Op) (hL : isW op = false) (K : V → St → Option R) : opK c s d op K = match valL c s op with | some v => K v s | none => none := by
  by_cases hp : ∃ x y z, op = .pick x y z
  · obtain ⟨x, y, z, rfl⟩ := hp
    simp only [opK, valL]
    cases s.val x <;> try rfl
    rename_i b
    cases b <;> rfl
  · have hp : ∀ x y z, op ≠ .pick x y z := fun x y z e => hp ⟨x, y, z, e⟩
    rcases opK_forms (c := c) op s d K with ⟨x, y, z, rfl⟩ | ⟨x, rfl⟩ | heq
    · exact absurd rfl (hp _ _ _)
    · cases hL
    · rw [heq, opC_L op hL, valL_eq hp]
      obtain ⟨h1, h2⟩ := opA_L (s := s) (tb := c.tb) (d := d) op hL
      cases hA : opA c.tb s d op with
      | none => rw [h1] at hA; rw [hA]
      | some q =>
        obtain ⟨g, v, s'⟩ := q
        have := h2 g v s' hA
        subst this
        rw [h1] at hA
        rw [hA]
        cases g <;> rfl

theorem twA_L {tb : Tab} {d : Nat} (op : Op) (hL : isW op = false) : twA tb s d op = [] := by
  cases op <;> try (first | rfl | (cases hL; done))
  rename_i cl
  obtain ⟨callee, args, ts⟩ := cl
  cases callee with
  | builtin b => cases b <;> first | rfl | (cases hL; done)
  | value f => cases hL
  | invoke r m => rfl

/-- A slot that it does not look at. -/
theorem valL_put {k : Nat} {v : V} (op : Op) (hL : isW op = false) (ho : ∀ x ∈ op.operands, x ≠ .tmp k) : valL c (s.put (some k) v) op = valL c s op := by
  by_cases hp : ∃ x y z, op = .pick x y z
  · obtain ⟨x, y, z, rfl⟩ := hp
    simp only [Op.operands] at ho
    simp only [valL, put_val (ho x (by simp)), put_val (ho y (by simp)), put_val (ho z (by simp))]
  · have hp : ∀ x y z, op ≠ .pick x y z := fun x y z e => hp ⟨x, y, z, e⟩
    rw [valL_eq hp, valL_eq hp, opA_put 0 op (fun b hb => by rw [twA_L op hL] at hb; cases hb) ho]
    cases opA c.tb s 0 op with
    | none => rfl
    | some q => obtain ⟨g, v, s'⟩ := q; cases g <;> rfl

theorem loadA_clean {tb : Tab} {t : TypeId} {x : V} {s q : St} (hx : ∀ b ∈ blksV x, s.mem b = q.mem b) : loadA tb s t x = (loadA tb q t x).map (fun r => (r.1, r.2.1, s)) := by
  cases x <;> simp only [loadA, Bool.cond_eq_ite]
  case ptr b o => rw [hx b (by simp [blksV])]; (repeat' split) <;> simp_all
  case elt b i p => rw [hx b (by simp [blksV])]; (repeat' split) <;> simp_all
  all_goals first | rfl | ((repeat' split) <;> simp_all)
theorem fieldAddrA_clean {tb : Tab} {t : TypeId} {f : Nat} {x : V} {s q : St} (hx : ∀ b ∈ blksV x, s.mem b = q.mem b) : fieldAddrA tb s t f x = (fieldAddrA tb q t f x).map (fun r => (r.1, r.2.1, s)) := by
  cases x <;> simp only [fieldAddrA, Bool.cond_eq_ite]
  case elt b i p => rw [hx b (by simp [blksV])]; (repeat' split) <;> simp_all
  all_goals first | rfl | ((repeat' split) <;> simp_all)
theorem indexAddrA_clean {tb : Tab} {t : TypeId} {x y : V} {s q : St} (hx : ∀ b ∈ blksV x, s.mem b = q.mem b) : indexAddrA tb s t x y = (indexAddrA tb q t x y).map (fun r => (r.1, r.2.1, s)) := by
  cases y <;> try rfl
  cases x <;> simp only [indexAddrA, Bool.cond_eq_ite]
  case own b => rw [hx b (by simp [blksV])]; (repeat' split) <;> simp_all
  case ownsub b o l => rw [hx b (by simp [blksV])]; (repeat' split) <;> simp_all
  case elt b i p => rw [hx b (by simp [blksV])]; (repeat' split) <;> simp_all
  all_goals first | rfl | ((repeat' split) <;> simp_all)
theorem optNat_same {o : Option Operand} {s q : St} (h : ∀ x, o = some x → s.val x = q.val x) (d : Int) : optNat o s d = optNat o q d := by
  cases o with
  | none => rfl
  | some x => simp only [optNat, h x rfl]
theorem sliceA_clean {tb : Tab} {t : TypeId} {x : V} {lo hi mx : Option Operand} {s q : St} (hx : ∀ b ∈ blksV x, s.mem b = q.mem b) (hlo : ∀ x, lo = some x → s.val x = q.val x) (hhi : ∀ x, hi = some x → s.val x = q.val x) :
    sliceA tb s t x lo hi mx = (sliceA tb q t x lo hi mx).map (fun r => (r.1, r.2.1, s)) := by
  cases mx with
  | some _ => rfl
  | none =>
    simp only [sliceA, optNat_same hlo, optNat_same hhi, Bool.cond_eq_ite]
    cases x <;> simp only
    case own b => rw [hx b (by simp [blksV])]; (repeat' split) <;> simp_all
    case ownsub b o l => rw [hx b (by simp [blksV])]; (repeat' split) <;> simp_all
    all_goals first | rfl | ((repeat' split) <;> simp_all)
theorem lenA_clean {x : V} {s q : St} (hx : ∀ b ∈ blksV x, s.mem b = q.mem b) : lenA s x = lenA q x := by
  cases x <;> simp only [lenA]
  case own b => rw [hx b (by simp [blksV])]
theorem buildA_same {tb : Tab} {s q : St} (offs : List (Nat × TypeId)) : ∀ (ps : List (Nat × Operand)) (cs : List V), (∀ x ∈ ps.map (·.2), s.val x = q.val x) → buildA tb s offs cs ps = buildA tb q offs cs ps
  | [], cs, _ => rfl
  | (i, x) :: r, cs, h => by
    have hx : s.val x = q.val x := h x (by simp)
    have hr : ∀ y ∈ r.map (·.2), s.val y = q.val y := fun y hy => h y (by simp only [List.map_cons, List.mem_cons]; exact .inr hy)
    simp only [buildA, hx]
    simp only [buildA_same offs r _ hr]
theorem vals_same {s q : St} {os : List Operand} (h : ∀ x ∈ os, s.val x = q.val x) : os.map s.val = os.map q.val := List.map_congr_left h
theorem ptrEq_same {tb : Tab} {t : TypeId} {op : BinOp} {x : V} (s q : St) : ptrEq tb t op x s = (ptrEq tb t op x q).map (fun r => (r.1, r.2.1, s)) := by
  simp only [ptrEq]
  (repeat' split) <;> simp_all
/-- Memory matters at the blocks alone that the operands speak of. -/
theorem opA_clean {tb : Tab} {s q : St} (op : Op) (hL : isW op = false) (hs : ∀ x ∈ op.operands, s.val x = q.val x) (hc : ∀ x ∈ op.operands, ∀ b ∈ blksV (q.val x), s.mem b = q.mem b) : opA tb s 0 op = (opA tb q 0 op).map (fun r => (r.1, r.2.1, s)) := by
  cases op <;> try (cases hL; done)
  all_goals simp only [Op.operands] at hs hc
  case pick x y z => rfl
  case move x => simp only [opA, hs x (by simp)]; rfl
  case assign x => simp only [opA, hs x (by simp)]; rfl
  case build t ps =>
    have := fun offs cs => buildA_same (tb := tb) (s := s) (q := q) offs ps.toList cs (fun x hx => hs x (by simpa using hx))
    simp only [opA, this]
    (repeat' split) <;> simp_all
  case load t x => simp only [opA, hs x (by simp)]; exact loadA_clean (hc x (by simp))
  case nilCheck x => simp only [opA, hs x (by simp)]; (repeat' split) <;> simp_all
  case binOp op t x y t' =>
    simp only [opA, hs x (by simp), hs y (by simp), Bool.cond_eq_ite]
    have := fun t op x => ptrEq_same (tb := tb) (t := t) (op := op) (x := x) s q
    (repeat' split) <;> first | exact this _ _ _ | simp_all
  case unOp u t x => cases u <;> simp only [opA, hs x (by simp)] <;> (repeat' split) <;> simp_all
  case convert t u x => simp only [opA, hs x (by simp)]; (repeat' split) <;> simp_all
  case makeFunc f fs cs =>
    cases f with
    | func f =>
      obtain ⟨fs⟩ := fs
      cases fs with
      | cons _ _ => rfl
      | nil =>
        have := vals_same (s := s) (q := q) (os := cs.toList) (fun x hx => hs x (by simp only [Array.mem_append]; exact .inr (by simpa using hx)))
        simp only [opA, this]; rfl
    | _ => rfl
  case slice t x lo hi mx =>
    simp only [opA, hs x (by simp)]
    exact sliceA_clean (hc x (by simp)) (fun y hy => hs y (by simp [hy])) (fun y hy => hs y (by simp [hy]))
  case fieldAddr t x f => simp only [opA, hs x (by simp)]; exact fieldAddrA_clean (hc x (by simp))
  case field t x f => simp only [opA, hs x (by simp), Bool.cond_eq_ite]; (repeat' split) <;> simp_all
  case indexAddr t x y => simp only [opA, hs x (by simp), hs y (by simp)]; exact indexAddrA_clean (hc x (by simp))
  case index t x y => simp only [opA, hs x (by simp), hs y (by simp)]; (repeat' split) <;> simp_all
  case extract x j => simp only [opA, hs x (by simp), Bool.cond_eq_ite]; (repeat' split) <;> simp_all
  case call cl =>
    obtain ⟨callee, args, ts⟩ := cl
    cases callee with
    | builtin b =>
      have hvs := vals_same (s := s) (q := q) (os := args.toList) (fun x hx => hs x (by simp [Call.operands]; exact Array.mem_toList_iff.1 hx))
      have hcl : ∀ v ∈ args.toList.map q.val, ∀ b ∈ blksV v, s.mem b = q.mem b := fun v hv => by
        obtain ⟨x, hx, rfl⟩ := List.mem_map.1 hv
        exact hc x (by simp [Call.operands]; exact Array.mem_toList_iff.1 hx)
      simp only [opA, hvs]
      generalize args.toList.map q.val = vs at hcl
      generalize ts.toList = tl
      cases b <;> try (cases hL; done)
      case len =>
        match vs with
        | [] => rfl
        | _ :: _ :: _ => rfl
        | [x] =>
          match tl with
          | [] => rfl
          | t :: _ =>
            have := lenA_clean (hcl x (by simp))
            simp only [builtinA, this]
            (repeat' split) <;> simp_all
      all_goals
        match vs with
        | [] => rfl
        | x :: r =>
          cases x <;> try rfl
          simp only [builtinA]
          split <;> simp_all
    | value f => cases hL
    | invoke r m => cases hL

theorem valL_clean {s q : St} (op : Op) (hL : isW op = false) (hs : ∀ x ∈ op.operands, s.val x = q.val x) (hc : ∀ x ∈ op.operands, ∀ b ∈ blksV (q.val x), s.mem b = q.mem b) : valL c s op = valL c q op := by
  by_cases hp : ∃ x y z, op = .pick x y z
  · obtain ⟨x, y, z, rfl⟩ := hp
    simp only [Op.operands] at hs
    simp only [valL, hs x (by simp), hs y (by simp), hs z (by simp)]
  · have hp : ∀ x y z, op ≠ .pick x y z := fun x y z e => hp ⟨x, y, z, e⟩
    rw [valL_eq hp, valL_eq hp, opA_clean op hL hs hc]
    cases opA c.tb q 0 op with
    | none => rfl
    | some q => obtain ⟨g, v, s'⟩ := q; cases g <;> rfl
end
end AM
namespace AM
open Go

section
variable {P : Program} {F : Fr} {s s' : St} {loc : Nat → Value} {a : Act} {w : World} {o : Oper} {v : V} {c : Cfg} {R : Type} {r : R} {Q : Exit → Act → World → Prop}

/-! ### What speaks of nothing that is touched stays -/
theorem KeepT.refl (tw : List Nat) (s : St) : KeepT tw s s := ⟨fun _ _ => rfl, fun _ _ _ => rfl⟩
theorem KeepT.mono {tw tw' : List Nat} {s s' : St} (h : KeepT tw s s') (hs : ∀ b ∈ tw, b ∈ tw') : KeepT tw' s s' :=
  ⟨fun k hk => h.1 k (fun b hb => hk b (hs b hb)), fun b hb hc => h.2 b (fun h => hb (hs b h)) (fun c hc' => hc c (hs c hc'))⟩
theorem KeepT.trans {tw : List Nat} {a b d : St} (h : KeepT tw a b) (h' : KeepT tw b d) : KeepT tw a d :=
  ⟨fun k hk => by rw [h'.1 k (by rw [h.1 k hk]; exact hk), h.1 k hk], fun c hc hb => by rw [h'.2 c hc (by rw [h.2 c hc hb]; exact hb), h.2 c hc hb]⟩
theorem KeepT.blk {tw : List Nat} (s : St) {b : Nat} (x : Blk) (hb : b ∈ tw) : KeepT tw s (s.blk b x) :=
  ⟨fun _ _ => rfl, fun c hc _ => upd_other _ _ _ (fun e => hc (e ▸ hb))⟩
theorem frzB_apart {b : Nat} {x m : Blk} (h : b ∉ blkBlks m) : frzB b x m = m := by
  cases m with
  | cells t cs => simp only [frzB]; rw [frzs_apart b x cs h]
  | _ => rfl
theorem KeepT.freeze1 {tw : List Nat} (s : St) {b : Nat} (hb : b ∈ tw) : KeepT tw s (s.freeze1 b) :=
  ⟨fun k hk => frz_apart _ _ _ (hk b hb), fun c hc hm => by
    have hcb : c ≠ b := fun e => hc (by rw [e]; exact hb)
    show upd (fun d => frzB b (s.mem b) (s.mem d)) b Blk.dead c = _
    rw [upd_other _ _ _ hcb, frzB_apart (hm b hb)]⟩
theorem KeepT.freeze {tw : List Nat} : ∀ (l : List Nat) (s : St), (∀ b ∈ l, b ∈ tw) → KeepT tw s (s.freeze l)
  | [], s, _ => KeepT.refl tw s
  | b :: r, s, h => (KeepT.freeze1 s (h b (List.mem_cons_self ..))).trans (KeepT.freeze r _ (fun c hc => h c (List.mem_cons_of_mem _ hc)))
theorem KeepT.kill {tw : List Nat} (s : St) {b : Nat} (hb : b ∈ tw) : KeepT tw s (s.kill b) :=
  ⟨fun k hk => frz_apart _ _ _ (hk b hb), fun c hc hm => by
    show frzB b .dead (s.mem c) = _
    rw [frzB_apart (hm b hb)]⟩

theorem storeA_keep {tb : Tab} {t : TypeId} {x y : V} {g : Bool} (h : storeA tb s t x y = some (g, v, s')) : KeepT (twStore s x y) s s' := by
  cases x <;> try (simp only [storeA, reduceCtorEq] at h; done)
  case ptr b o =>
    simp only [storeA, Bool.cond_eq_ite] at h
    (repeat' split at h) <;> first | (cases h; done) | (simp only [Option.some.injEq, Prod.mk.injEq] at h; obtain ⟨_, _, rfl⟩ := h; exact KeepT.blk s _ (by simp [twStore]))
  case elt b i p =>
    simp only [storeA] at h
    cases h1 : tb.get t with
    | none => simp only [h1, reduceCtorEq] at h
    | some j =>
      cases hm : s.mem b <;> simp only [h1, hm, reduceCtorEq] at h
      rename_i tt e xs
      cases ht : tyP e p with
      | none => simp only [ht, reduceCtorEq] at h
      | some u =>
        simp only [ht] at h
        cases hs : setP p (putF s y) e (xs.getD i e.d) with
        | none => simp only [hs, reduceCtorEq] at h
        | some z =>
          simp only [hs] at h
          cases hc : (Nat.beq j.size u.size && !(hasN (putNames s y u) b))
          · rw [hc] at h; cases h
          · rw [hc] at h
            simp only [cond_true, Option.some.injEq, Prod.mk.injEq] at h
            obtain ⟨_, _, rfl⟩ := h
            have htw : twStore s (.elt b i p) y = b :: putNames s y u := by simp only [twStore, hm, ht]
            rw [htw]
            exact (KeepT.freeze _ s (fun c hc => List.mem_cons_of_mem _ hc)).trans (KeepT.blk _ _ (List.mem_cons_self ..))
theorem appendA_keep {tb : Tab} {d : Nat} {t tx : TypeId} {x y : V} {g : Bool} (h : appendA tb s d t tx x y = some (g, v, s')) : KeepT (twApp d x) s s' := by
  have fin : ∀ (b : Nat) (z : Blk), b ∈ twApp d x → KeepT (twApp d x) s ((s.kill b).blk b z) := fun b z hb => (KeepT.kill s hb).trans (KeepT.blk _ _ hb)
  cases x
  case nils => simp only [appendA, Bool.cond_eq_ite] at h; (repeat' split at h) <;> first | (cases h; done) | (simp only [Option.some.injEq, Prod.mk.injEq] at h; obtain ⟨_, _, rfl⟩ := h; exact fin d _ (by simp [twApp]))
  case own b => simp only [appendA, Bool.cond_eq_ite] at h; (repeat' split at h) <;> first | (cases h; done) | (simp only [Option.some.injEq, Prod.mk.injEq] at h; obtain ⟨_, _, rfl⟩ := h; exact fin b _ (by simp [twApp]))
  case ownsub b off len =>
    cases off with
    | zero => simp only [appendA, Bool.cond_eq_ite] at h; (repeat' split at h) <;> first | (cases h; done) | (simp only [Option.some.injEq, Prod.mk.injEq] at h; obtain ⟨_, _, rfl⟩ := h; exact fin b _ (by simp [twApp]))
    | succ n => simp only [appendA, Bool.cond_eq_ite] at h; (repeat' split at h) <;> (cases h; done)
  all_goals (simp only [appendA, Bool.cond_eq_ite] at h; (repeat' split at h) <;> (cases h; done))
theorem clearA_keep {tb : Tab} {t : TypeId} {x : V} {g : Bool} (h : clearA tb s t x = some (g, v, s')) : KeepT (twClear x) s s' := by
  cases x <;> simp only [clearA, Bool.cond_eq_ite] at h <;> (repeat' split at h) <;> first | (cases h; done) | (simp only [Option.some.injEq, Prod.mk.injEq] at h; obtain ⟨_, _, rfl⟩ := h; exact KeepT.blk s _ (by simp_all [twClear]))

theorem opA_keep {tb : Tab} {d : Nat} {op : Op} {g : Bool} (h : opA tb s d op = some (g, v, s')) : KeepT (twA tb s d op) s s' := by
  cases hL : isW op with
  | false => rw [(opA_L op hL).2 g v s' h]; exact KeepT.refl _ s
  | true =>
    cases op <;> try (cases hL; done)
    all_goals try (simp only [opA, reduceCtorEq] at h; done)
    case alloc t =>
      simp only [opA, Bool.cond_eq_ite] at h
      (repeat' split at h) <;> first | (cases h; done) | (simp only [Option.some.injEq, Prod.mk.injEq] at h; obtain ⟨_, _, rfl⟩ := h; exact KeepT.blk s _ (by simp [twA]))
    case box t x =>
      simp only [opA, Bool.cond_eq_ite] at h
      (repeat' split at h) <;> first | (cases h; done) | (simp only [Option.some.injEq, Prod.mk.injEq] at h; obtain ⟨_, _, rfl⟩ := h; exact KeepT.blk s _ (by simp [twA]))
    case buildSlice t n ps =>
      simp only [opA] at h
      cases h1 : tb.get t with
      | none => simp only [h1, reduceCtorEq] at h
      | some j =>
        obtain ⟨t0, kd, sz, byt, ty, zr, eqq⟩ := j
        cases kd <;> simp only [h1, reduceCtorEq] at h
        rename_i et
        cases h2 : tb.get et with
        | none => simp only [h2, reduceCtorEq] at h
        | some i =>
          simp only [h2] at h
          cases h3 : i.ty with
          | none => simp only [h3, reduceCtorEq] at h
          | some e =>
            simp only [h3] at h
            cases hc : (s.free d && Nat.beq i.size e.size && Nat.beq n ps.toList.length && fillIx 0 ps.toList && Nat.ble (n * i.size) 1000000 && Nat.ble n 1000000) with
            | false => rw [hc] at h; cases h
            | true =>
              rw [hc] at h
              simp only [cond_true] at h
              cases h4 : decAll s e (ps.toList.map (·.2)) with
              | none => simp only [h4, reduceCtorEq] at h
              | some q =>
                obtain ⟨xs, fs⟩ := q
                simp only [h4, Option.some.injEq, Prod.mk.injEq] at h
                obtain ⟨_, _, rfl⟩ := h
                have htw : twA tb s d (.buildSlice t n ps) = d :: fs := by simp only [twA, twBuild, h1, h2, h3, h4]
                rw [htw]
                exact (KeepT.freeze _ s (fun c hc => List.mem_cons_of_mem _ hc)).trans (KeepT.blk _ _ (List.mem_cons_self ..))
    case store t x y => exact storeA_keep h
    case makeSlice t x y =>
      simp only [opA, Bool.cond_eq_ite] at h
      (repeat' split at h) <;> first | (cases h; done) | (simp only [Option.some.injEq, Prod.mk.injEq] at h; obtain ⟨_, _, rfl⟩ := h; exact KeepT.blk s _ (by simp [twA]))
    case range t x =>
      simp only [opA, Bool.cond_eq_ite] at h
      (repeat' split at h) <;> first | (cases h; done) | (simp only [Option.some.injEq, Prod.mk.injEq] at h; obtain ⟨_, _, rfl⟩ := h; exact KeepT.blk s _ (by simp [twA]))
    case call cl =>
      obtain ⟨callee, args, ts⟩ := cl
      cases callee with
      | builtin b =>
        simp only [opA] at h
        have htw : ∀ (b : Builtin), twA tb s d (.call { callee := .builtin b, args := args, argTypes := ts }) = (match b with
          | .append => (match args.toList.map s.val with | x :: _ => twApp d x | [] => [])
          | .clear => (match args.toList.map s.val with | x :: _ => twClear x | [] => [])
          | _ => []) := fun b => by cases b <;> rfl
        rw [htw]
        generalize args.toList.map s.val = vs at h ⊢
        generalize ts.toList = tl at h
        cases b <;> try (cases hL; done)
        all_goals try (simp only [builtinA, reduceCtorEq] at h; done)
        case append =>
          rcases vs with _ | ⟨x, _ | ⟨y, _ | ⟨z, vs⟩⟩⟩ <;> try (simp only [builtinA, reduceCtorEq] at h; done)
          rcases tl with _ | ⟨t, _ | ⟨u, _ | ⟨z, tl⟩⟩⟩ <;> try (simp only [builtinA, reduceCtorEq] at h; done)
          exact appendA_keep h
        case clear =>
          rcases vs with _ | ⟨x, _ | ⟨y, vs⟩⟩ <;> try (simp only [builtinA, reduceCtorEq] at h; done)
          rcases tl with _ | ⟨t, tl⟩ <;> try (simp only [builtinA, reduceCtorEq] at h; done)
          exact clearA_keep h
      | value f => simp only [opA, reduceCtorEq] at h
      | invoke r m => simp only [opA, reduceCtorEq] at h

theorem opC_keep (hT : TblOk P c.tbl) {d : Nat} {op : Op} {g : Bool} (h : opC c s d op = some (g, v, s')) : KeepT (twC c s d op) s s' := by
  have base : opA c.tb s d op = some (g, v, s') → KeepT (twA c.tb s d op) s s' := opA_keep
  cases op <;> try exact base h
  case call cl =>
    obtain ⟨callee, args, ts⟩ := cl
    cases callee with
    | value f =>
      simp only [opC, twC] at h ⊢
      cases hf : s.val f <;> simp only [hf, reduceCtorEq] at h
      rename_i gg cs
      cases ht : c.tbl gg with
      | none => simp only [ht, reduceCtorEq] at h
      | some sp => simp only [ht] at h ⊢; exact (hT gg sp ht).keep _ _ _ _ _ _ h
    | builtin b => exact base h
    | invoke r m => exact base h

theorem opK_keep (hT : TblOk P c.tbl) {d : Nat} {op : Op} {K K' : V → St → Option R} (hm : ∀ v s', KeepT (twC c s d op) s s' → K v s' = some r → K' v s' = some r) (h : opK c s d op K = some r) : opK c s d op K' = some r := by
  by_cases hp : (∃ x y z, op = .pick x y z) ∨ (∃ x, op = .next x true)
  · rcases hp with ⟨x, y, z, rfl⟩ | ⟨x, rfl⟩
    · simp only [opK] at h ⊢
      cases hx : s.val x <;> simp only [hx, reduceCtorEq] at h ⊢
      rename_i b
      cases b
      · exact hm _ _ (KeepT.refl _ s) h
      · exact hm _ _ (KeepT.refl _ s) h
    · simp only [opK] at h ⊢
      have htw : twC c s d (.next x true) = (match s.val x with | .ptr b _ => [b] | _ => []) := rfl
      rw [htw] at hm
      cases hx : s.val x <;> simp only [hx, nextK, reduceCtorEq] at h ⊢ hm
      rename_i b off
      cases off with
      | succ n => simp only [reduceCtorEq] at h
      | zero =>
        simp only at h ⊢
        cases hb : s.mem b <;> simp only [hb, reduceCtorEq] at h ⊢
        rename_i t pos
        cases hd : decide (pos < t.size)
        · rw [hd] at h; exact hm _ _ (KeepT.refl _ s) h
        · rw [hd] at h; exact hm _ _ (KeepT.blk s _ (List.mem_cons_self ..)) h
  · rcases opK_forms (c := c) op s d K with hq | hq | heq
    · exact absurd (.inl hq) hp
    · exact absurd (.inr hq) hp
    · rcases opK_forms (c := c) op s d K' with hq | hq | heq'
      · exact absurd (.inl hq) hp
      · exact absurd (.inr hq) hp
      · rw [heq] at h
        rw [heq']
        cases hC : opC c s d op with
        | none => simp only [hC, reduceCtorEq] at h
        | some q =>
          obtain ⟨g, v, s'⟩ := q
          rw [hC] at h
          cases g
          · cases h
          · exact hm _ _ (opC_keep hT hC) h

/-! ### A slot that an operation does not look at -/
theorem opK_put (hT : TblOk P c.tbl) {k d : Nat} (op : Op) (hv : ∀ b ∈ twC c s d op, b ∉ blksV v) (ho : ∀ x ∈ op.operands, x ≠ .tmp k) (K : V → St → Option R) :
    opK c (s.put (some k) v) d op K = opK c s d op (fun u s' => K u (s'.put (some k) v)) := by
  by_cases hp : (∃ x y z, op = .pick x y z) ∨ (∃ x, op = .next x true)
  · rcases hp with ⟨x, y, z, rfl⟩ | ⟨x, rfl⟩
    · simp only [Op.operands] at ho
      simp only [opK, put_val (ho x (by simp)), put_val (ho y (by simp)), put_val (ho z (by simp))]
    · simp only [Op.operands] at ho
      simp only [opK, put_val (ho x (by simp))]
      cases s.val x <;> try rfl
  · rcases opK_forms (c := c) op (s.put (some k) v) d K with hq | hq | heq
    · exact absurd (.inl hq) hp
    · exact absurd (.inr hq) hp
    · rcases opK_forms (c := c) op s d (fun u s' => K u (s'.put (some k) v)) with hq | hq | heq'
      · exact absurd (.inl hq) hp
      · exact absurd (.inr hq) hp
      · rw [heq, heq', opC_put hT op hv ho]
        cases opC c s d op with
        | none => rfl
        | some q => obtain ⟨g, u, s'⟩ := q; rfl

theorem put_comm {d e : Option Nat} (h : ∀ k, d = some k → e ≠ some k) (s : St) (v u : V) : (s.put d v).put e u = (s.put e u).put d v := by
  cases d with
  | none => rfl
  | some d =>
    cases e with
    | none => rfl
    | some e =>
      have hne : e ≠ d := fun he => h d rfl (by rw [he])
      refine St.ext (funext fun i => ?_) rfl
      show upd (upd s.env d v) e u i = upd (upd s.env e u) d v i
      by_cases hi : i = e
      · subst hi; rw [upd_same, upd_other _ _ _ hne, upd_same]
      · rw [upd_other _ _ _ hi]
        by_cases hj : i = d
        · subst hj; rw [upd_same, upd_same]
        · rw [upd_other _ _ _ hj, upd_other _ _ _ hj, upd_other _ _ _ hi]

theorem looks_ops {ops : Array Oper} {d : Nat} (h : d ∉ o.looksAt ops) : ∀ x ∈ o.op.operands, x ≠ .tmp d := fun x hx e => by
  subst e
  exact h (List.mem_append_left _ (List.mem_filterMap.2 ⟨.tmp d, by simpa using hx, rfl⟩))
theorem looks_guard {ops : Array Oper} {d j g : Nat} {b : Bool} (h : d ∉ o.looksAt ops) (hg : o.guard = some (j, b)) (hs : guardSlot ops.toList j = some g) : g ≠ d := fun e => by
  subst e
  refine h (List.mem_append_right _ ?_)
  have hs := (guardSlot_dst hs).2
  unfold dstAt at hs
  rw [nth_get, Array.getElem?_toList] at hs
  simp only [hg]
  cases hj : ops[j]? with
  | none => rw [hj] at hs; cases hs
  | some x => rw [hj] at hs; simp [hs]

theorem wantedA_same {ops : Array Oper} {q : St} (h : ∀ j b g, o.guard = some (j, b) → guardSlot ops.toList j = some g → blksV (s.env g) = [] → q.env g = s.env g) {t : Bool} (hw : wantedA ops.toList o s = some t) : wantedA ops.toList o q = some t := by
  unfold wantedA at hw ⊢
  cases hg : o.guard with
  | none => rw [hg] at hw; exact hw
  | some jw =>
    obtain ⟨j, want⟩ := jw
    rw [hg] at hw
    simp only at hw ⊢
    cases hs : guardSlot ops.toList j with
    | none => rw [hs] at hw; cases hw
    | some g =>
      rw [hs] at hw
      simp only at hw ⊢
      cases he : s.env g <;> simp only [he, reduceCtorEq] at hw
      · rename_i b
        rw [h j want g hg hs (by rw [he]; rfl), he]
        exact hw
      · rename_i vs
        cases vs with
        | cons _ _ => simp only [reduceCtorEq] at hw
        | nil =>
          rw [h j want g hg hs (by rw [he]; rfl), he]
          exact hw

theorem wantedA_put {ops : Array Oper} {d : Nat} (h : d ∉ o.looksAt ops) : wantedA ops.toList o (s.put (some d) v) = wantedA ops.toList o s := by
  unfold wantedA
  cases hg : o.guard with
  | none => rfl
  | some jw =>
    obtain ⟨j, want⟩ := jw
    simp only
    cases hs : guardSlot ops.toList j with
    | none => rfl
    | some g =>
      simp only
      rw [show (s.put (some d) v).env g = s.env g from upd_other _ _ _ (looks_guard h hg hs)]
end
end AM
namespace AM
open Go

section
variable {P : Program} {F : Fr} {s s' : St} {loc : Nat → Value} {a : Act} {w : World} {o : Oper} {v : V} {c : Cfg} {R : Type} {r : R} {Q : Exit → Act → World → Prop} {ops : Array Oper}

theorem hasN_iff : ∀ {l : List Nat} {b : Nat}, hasN l b = true ↔ b ∈ l
  | [], b => by simp [hasN]
  | x :: r, b => by
    simp only [hasN, List.mem_cons]
    by_cases h : x = b
    · subst h; simp
    · rw [beq_ne h]
      simp only [cond_false, hasN_iff]
      constructor
      · exact .inr
      · rintro (rfl | h')
        · exact absurd rfl h
        · exact h'
theorem addN_mem {x b : Nat} {l : List Nat} : b ∈ addN x l ↔ b = x ∨ b ∈ l := by
  unfold addN
  cases h : hasN l x
  · simp
  · simp only [cond_true]
    constructor
    · exact .inr
    · rintro (rfl | h')
      · exact hasN_iff.1 h
      · exact h'
theorem unionN_mem : ∀ {l q : List Nat} {b : Nat}, b ∈ unionN l q ↔ b ∈ l ∨ b ∈ q
  | [], q, b => by simp [unionN]
  | x :: r, q, b => by
    simp only [unionN, addN_mem, unionN_mem, List.mem_cons]
    constructor
    · rintro (h | h | h)
      · exact .inl (.inl h)
      · exact .inl (.inr h)
      · exact .inr h
    · rintro ((h | h) | h)
      · exact .inl h
      · exact .inr (.inl h)
      · exact .inr (.inr h)
theorem unionN_right {l q : List Nat} {b : Nat} (_ : Unit) (h : b ∈ q) : b ∈ unionN l q := unionN_mem.2 (.inr h)

/-- What an operation that only reads puts into its slot, and what it has seen. -/
def outL (c : Cfg) (all : List Oper) (o : Oper) (s : St) : Option (V × Option (List Nat)) :=
  match wantedA all o s with
  | some true => bif dstOk c.nt o then (match valL c s o.op with | some v => some (v, some (seenOf s o v)) | none => none) else none
  | some false => bif dstOk c.nt o then some (.tuple [], none) else none
  | none => none
def logOf (i : Nat) (q : Option (List Nat)) (log : Log) : Log := match q with | some l => (i, l) :: log | none => log

theorem stepL_eq (all : List Oper) (i : Nat) (o : Oper) (wl : List Nat) (K : Log → St → Option R) (log : Log) (s : St) : stepL c all i o wl K log s = match wantedA all o s with | some true => oneL c i o wl K log s | some false => skipK c s o (K log) | none => none := guardK_eq all o s _ _

theorem step_L {all : List Oper} (hL : isW o.op = false) (i : Nat) (wl : List Nat) (K : Log → St → Option R) (log : Log) (s : St) : stepL c all i o wl K log s = match outL c all o s with | some (v, q) => K (logOf i q log) (s.put o.dst v) | none => none := by
  rw [stepL_eq]
  unfold outL
  cases wantedA all o s with
  | none => rfl
  | some b =>
    cases b
    · simp only [skipK]
      cases dstOk c.nt o <;> rfl
    · simp only [oneL, hL, L_form o.op hL]
      cases dstOk c.nt o
      · rfl
      · simp only [cond_true, cond_false]
        cases valL c s o.op <;> rfl

theorem seenOf_put {d : Nat} {u : V} (h : ∀ x ∈ o.op.operands, x ≠ .tmp d) : seenOf (s.put (some d) u) o v = seenOf s o v := by
  unfold seenOf
  rw [vals_put (os := o.op.operands.toList) (fun x hx => h x (Array.mem_toList_iff.1 hx))]
  rfl

theorem outL_put (hL : isW o.op = false) {d : Option Nat} (h : ∀ k, d = some k → k ∉ o.looksAt ops) : outL c ops.toList o (s.put d v) = outL c ops.toList o s := by
  cases d with
  | none => rfl
  | some k =>
    have h := h k rfl
    unfold outL
    rw [wantedA_put h, valL_put o.op hL (looks_ops h)]
    simp only [seenOf_put (looks_ops h)]

def LogEq (l l' : Log) : Prop := ∀ e, e ∈ l ↔ e ∈ l'
theorem LogEq.refl (l : Log) : LogEq l l := fun _ => Iff.rfl
theorem LogEq.all {l l' : Log} (h : LogEq l l') (p : Nat × List Nat → Bool) : l.all p = l'.all p := by
  rw [Bool.eq_iff_iff, List.all_eq_true, List.all_eq_true]
  exact ⟨fun hp e he => hp e ((h e).2 he), fun hp e he => hp e ((h e).1 he)⟩
theorem LogEq.cons {l l' : Log} (h : LogEq l l') (e : Nat × List Nat) : LogEq (e :: l) (e :: l') := fun x => by
  simp only [List.mem_cons, h x]
theorem LogEq.logOf {l l' : Log} (h : LogEq l l') (i : Nat) (q : Option (List Nat)) : LogEq (logOf i q l) (logOf i q l') := by
  cases q with
  | none => exact h
  | some x => exact h.cons _
theorem LogEq.swap (l : Log) (i j : Nat) (q q' : Option (List Nat)) : LogEq (AM.logOf i q (AM.logOf j q' l)) (AM.logOf j q' (AM.logOf i q l)) := fun e => by
  cases q <;> cases q' <;> simp only [AM.logOf, List.mem_cons]
  constructor
  · rintro (h | h | h)
    · exact .inr (.inl h)
    · exact .inl h
    · exact .inr (.inr h)
  · rintro (h | h | h)
    · exact .inr (.inl h)
    · exact .inl h
    · exact .inr (.inr h)
/-- What comes later does not see the log's order. -/
def Blind (K : Log → St → Option R) : Prop := ∀ l l' s, LogEq l l' → K l s = K l' s
theorem stepL_blind {all : List Oper} {i : Nat} {wl : List Nat} {K : Log → St → Option R} (hK : Blind K) : Blind (fun l s => stepL c all i o wl K l s) := fun l l' s h => by
  show stepL c all i o wl K l s = stepL c all i o wl K l' s
  rw [stepL_eq, stepL_eq]
  cases wantedA all o s with
  | none => rfl
  | some b =>
    cases b
    · simp only [skipK]
      cases dstOk c.nt o
      · rfl
      · exact hK _ _ _ h
    · simp only [oneL, h.all]
      cases isW o.op
      · simp only [cond_false]
        have : (fun v s' => K ((i, seenOf s o v) :: l) (St.put s' o.dst v)) = (fun v s' => K ((i, seenOf s o v) :: l') (St.put s' o.dst v)) := funext fun v => funext fun s' => hK _ _ _ (h.cons _)
        rw [this]
      · have : (fun v s' => K l (St.put s' o.dst v)) = (fun v s' => K l' (St.put s' o.dst v)) := funext fun v => funext fun s' => hK _ _ _ h
        simp only [cond_true]
        rw [this]

/-- Two that only read. -/
theorem swap_LL {x y : Oper} (hap : x.apart ops y = true) (hx : isW x.op = false) (hy : isW y.op = false) {i j : Nat} {wx wy : List Nat} {K : Log → St → Option R} (hK : Blind K) {log : Log} (h : stepL c ops.toList i x wx (fun l s => stepL c ops.toList j y wy K l s) log s = some r) :
    stepL c ops.toList j y wy (fun l s => stepL c ops.toList i x wx K l s) log s = some r := by
  obtain ⟨h1, h2, h3⟩ := Oper.apart_spec hap
  rw [step_L hx] at h
  rw [step_L hy]
  cases hox : outL c ops.toList x s with
  | none => simp only [hox, reduceCtorEq] at h
  | some vx =>
    obtain ⟨vx, qx⟩ := vx
    simp only [hox] at h
    rw [step_L hy, outL_put hy h1] at h
    cases hoy : outL c ops.toList y s with
    | none => simp only [hoy, reduceCtorEq] at h
    | some vy =>
      obtain ⟨vy, qy⟩ := vy
      simp only [hoy] at h
      show stepL c ops.toList i x wx K (logOf j qy log) (s.put y.dst vy) = some r
      rw [step_L hx, outL_put hx h3, hox]
      simp only
      rw [← put_comm h2, hK _ _ _ (LogEq.swap log i j qx qy)]; exact h

theorem moreB_self {m : Nat → Blk} {l : List Nat} : ∀ (k : List Nat) (b : Nat), b ∈ l → b ∈ k.foldr (fun b r => match m b with | .cells _ cs => unionN (blksVs cs) r | _ => r) l
  | [], b, h => h
  | c :: r, b, h => by
    simp only [List.foldr_cons]
    have ih := moreB_self (m := m) r b h
    cases m c <;> first | exact ih | exact unionN_mem.2 (.inr ih)
theorem moreB_in {m : Nat → Blk} {l : List Nat} : ∀ (k : List Nat) (b c : Nat), b ∈ k → c ∈ blkBlks (m b) → c ∈ k.foldr (fun b r => match m b with | .cells _ cs => unionN (blksVs cs) r | _ => r) l
  | [], b, c, h, _ => by simp at h
  | d :: r, b, c, h, hc => by
    simp only [List.foldr_cons]
    rcases List.mem_cons.1 h with rfl | h
    · cases hm : m b <;> simp only [hm, blkBlks] at hc ⊢ <;> first | (simp at hc; done) | exact unionN_mem.2 (.inl hc)
    · have ih := moreB_in (m := m) (l := l) r b c h hc
      cases m d <;> first | exact ih | exact unionN_mem.2 (.inr ih)

theorem blksVs_mem : ∀ {vs : List V} {v : V} {b : Nat}, v ∈ vs → b ∈ blksV v → b ∈ blksVs vs
  | [], v, b, h, _ => by simp at h
  | x :: r, v, b, h, hb => by
    simp only [blksVs, List.mem_append]
    rcases List.mem_cons.1 h with rfl | h
    · exact .inl hb
    · exact .inr (blksVs_mem h hb)
theorem moreB_same {m m' : Nat → Blk} {l : List Nat} (h : ∀ b ∈ l, m' b = m b) : moreB m' l = moreB m l := by
  have key : ∀ (k : List Nat), (∀ b ∈ k, m' b = m b) → k.foldr (fun b r => match m' b with | .cells _ cs => unionN (blksVs cs) r | _ => r) l = k.foldr (fun b r => match m b with | .cells _ cs => unionN (blksVs cs) r | _ => r) l := by
    intro k
    induction k with
    | nil => intro _; rfl
    | cons b r ih =>
      intro hk
      simp only [List.foldr_cons]
      rw [ih (fun c hc => hk c (List.mem_cons_of_mem _ hc)), hk b (List.mem_cons_self ..)]
  exact key l h

theorem apartN_not : ∀ {l q : List Nat}, apartN l q = true → ∀ b ∈ l, b ∉ q
  | [], _, _, b, hb => by simp at hb
  | x :: r, m, h, b, hb => by
    simp only [apartN] at h
    cases hx : hasN m x
    · rw [hx] at h
      rcases List.mem_cons.1 hb with rfl | hb
      · intro hm; rw [hasN_iff.2 hm] at hx; cases hx
      · exact apartN_not h b hb
    · rw [hx] at h; cases h

theorem twC_put {k d : Nat} {op : Op} (ho : ∀ x ∈ op.operands, x ≠ .tmp k) : twC c (s.put (some k) v) d op = twC c s d op := by
  cases op <;> try rfl
  all_goals simp only [Op.operands] at ho
  case store t x y => simp only [twC, twA, put_val (ho x (by simp)), put_val (ho y (by simp))]; rfl
  case buildSlice t n ps =>
    have := fun e => decAll_put (s := s) (k := k) (v := v) e (ps.toList.map (·.2)) (fun x hx => ho x (by simpa using hx))
    simp only [twC, twA, twBuild, this]
  case next x b => simp only [twC, twA, put_val (ho x (by simp))]
  case call cl =>
    obtain ⟨callee, args, ts⟩ := cl
    cases callee with
    | value f =>
      have hf : f ≠ .tmp k := ho f (by simp [Call.operands])
      have := vals_put (s := s) (k := k) (v := v) (os := args.toList) (fun x hx => ho x (by simp [Call.operands]; exact .inr (Array.mem_toList_iff.1 hx)))
      simp only [twC, put_val hf, this, put_mem]
    | builtin b =>
      have := vals_put (s := s) (k := k) (v := v) (os := args.toList) (fun x hx => ho x (by simp [Call.operands]; exact Array.mem_toList_iff.1 hx))
      cases b <;> try rfl
      all_goals simp only [twC, twA, this]
    | invoke r m => rfl
/-- One that only reads before one that writes, and touches nothing that it has seen. -/
theorem swap_LW (hT : TblOk P c.tbl) {x y : Oper} (hap : x.apart ops y = true) (hx : isW x.op = false) (hy : isW y.op = true) {i j : Nat} {wx wy : List Nat} (hij : hasN wy i = true) {K : Log → St → Option R} {log : Log} (h : stepL c ops.toList i x wx (fun l s => stepL c ops.toList j y wy K l s) log s = some r) :
    stepL c ops.toList j y wy (fun l s => stepL c ops.toList i x wx K l s) log s = some r := by
  obtain ⟨h1, h2, h3⟩ := Oper.apart_spec hap
  rw [step_L hx] at h
  cases hox : outL c ops.toList x s with
  | none => simp only [hox, reduceCtorEq] at h
  | some vx =>
    obtain ⟨vx, qx⟩ := vx
    simp only [hox] at h
    rw [stepL_eq] at h ⊢
    have hwy : wantedA ops.toList y (s.put x.dst vx) = wantedA ops.toList y s := by
      cases hxd : x.dst with
      | none => rfl
      | some d => exact wantedA_put (h1 d hxd)
    rw [hwy] at h
    cases hw : wantedA ops.toList y s with
    | none => simp only [hw, reduceCtorEq] at h
    | some b =>
      simp only [hw] at h
      cases b
      · simp only [skipK] at h ⊢
        cases hd : dstOk c.nt y
        · rw [hd] at h; cases h
        · rw [hd] at h
          simp only [cond_true] at h ⊢
          show stepL c ops.toList i x wx K log (s.put y.dst (.tuple [])) = some r
          rw [step_L hx, outL_put hx h3, hox]
          simp only
          rw [← put_comm h2]; exact h
      · simp only at h ⊢
        simp only [oneL, hy, cond_true] at h ⊢
        cases hd : dstOk c.nt y
        · rw [hd] at h; cases h
        rw [hd] at h
        simp only [cond_true] at h ⊢
        have htw : twC c (s.put x.dst vx) (dstOf y) y.op = twC c s (dstOf y) y.op := by
          cases hxd : x.dst with
          | none => rfl
          | some d => exact twC_put (looks_ops (h1 d hxd))
        rw [htw] at h
        generalize hg : twC c s (dstOf y) y.op = tw at h
        cases hall : (logOf i qx log).all (fun e => bif hasN wy e.1 then apartN tw e.2 else true)
        · rw [hall] at h; cases h
        rw [hall] at h
        simp only [cond_true] at h
        have hallo : log.all (fun e => bif hasN wy e.1 then apartN tw e.2 else true) = true := by
          cases qx with
          | none => exact hall
          | some q =>
            simp only [logOf, List.all_cons, Bool.and_eq_true] at hall
            exact hall.2
        rw [hallo]
        simp only [cond_true]
        -- what is put is not touched
        have hvx : x.dst = none ∨ ∀ b ∈ tw, b ∉ blksV vx := by
          right
          unfold outL at hox
          cases hwx : wantedA ops.toList x s with
          | none => simp [hwx] at hox
          | some bx =>
            cases bx
            · simp only [hwx] at hox
              cases hdx : dstOk c.nt x <;> simp [hdx] at hox
              rw [← hox.1]
              intro b _ hb
              simp [blksV, blksVs] at hb
            · simp only [hwx] at hox
              cases hdx : dstOk c.nt x <;> simp [hdx] at hox
              cases hv : valL c s x.op with
              | none => simp [hv] at hox
              | some u =>
                simp only [hv, Option.some.injEq, Prod.mk.injEq] at hox
                obtain ⟨rfl, rfl⟩ := hox
                simp only [logOf, List.all_cons, Bool.and_eq_true, hij, cond_true] at hall
                intro b hb hbv
                exact apartN_not hall.1 b hb (List.mem_append_right _ hbv)
        have hput : opK c (s.put x.dst vx) (dstOf y) y.op (fun v s' => K (logOf i qx log) (s'.put y.dst v)) = opK c s (dstOf y) y.op (fun v s' => K (logOf i qx log) ((s'.put y.dst v).put x.dst vx)) := by
          cases hxd : x.dst with
          | none => rfl
          | some d =>
            rcases hvx with hvx | hvx
            · rw [hxd] at hvx; cases hvx
            · rw [opK_put hT y.op (by rw [hg]; exact hvx) (looks_ops (h1 d hxd))]
              have : ∀ (u : V) (s' : St), (s'.put (some d) vx).put y.dst u = (s'.put y.dst u).put (some d) vx := fun u s' => put_comm (fun k hk => by injection hk with hk; subst hk; exact h2 d hxd) s' vx u
              simp only [this]
        rw [hput] at h
        refine opK_keep hT (fun v s' hk hK => ?_) h
        rw [hg] at hk
        -- behind the one that writes it yields the same
        have again : outL c ops.toList x (s'.put y.dst v) = some (vx, qx) := by
          rw [outL_put hx h3]
          unfold outL at hox ⊢
          cases hwx : wantedA ops.toList x s with
          | none => simp [hwx] at hox
          | some bx =>
            have hw' : wantedA ops.toList x s' = some bx := wantedA_same (fun j b g hg hs ht => hk.1 g (fun b _ hb => by rw [ht] at hb; simp at hb)) hwx
            rw [hw']
            cases bx
            · simp only [hwx] at hox; exact hox
            · simp only [hwx] at hox
              cases hdx : dstOk c.nt x
              · simp [hdx] at hox
              rw [hdx] at hox
              simp only [cond_true] at hox ⊢
              cases hv : valL c s x.op with
              | none => simp [hv] at hox
              | some u =>
                simp only [hv, Option.some.injEq, Prod.mk.injEq] at hox
                obtain ⟨rfl, rfl⟩ := hox
                simp only [logOf, List.all_cons, Bool.and_eq_true, hij, cond_true] at hall
                have hap2 := apartN_not hall.1
                have hseen : ∀ z ∈ x.op.operands, ∀ b ∈ blksV (s.val z), b ∈ blksVs (x.op.operands.toList.map s.val) := fun z hz b hb => blksVs_mem (List.mem_map.2 ⟨z, by simpa using hz, rfl⟩) hb
                have hop : ∀ b ∈ tw, b ∉ blksVs (x.op.operands.toList.map s.val) := fun b hb hm => hap2 b hb (List.mem_append_left _ (moreB_self _ b hm))
                have hmem : ∀ b ∈ blksVs (x.op.operands.toList.map s.val), s'.mem b = s.mem b := fun b hb => hk.2 b (fun ht => hop b ht hb) (fun c hc hm => hap2 c hc (List.mem_append_left _ (moreB_in _ b c hb hm)))
                have hsame : ∀ z ∈ x.op.operands, s'.val z = s.val z := fun z hz => by
                  cases z with
                  | tmp t =>
                    show (bif Nat.ble GH t then V.junk else s'.env t) = (bif Nat.ble GH t then V.junk else s.env t)
                    cases hG : Nat.ble GH t
                    · have hvt : s.val (.tmp t) = s.env t := by show (bif Nat.ble GH t then V.junk else s.env t) = _; rw [hG]; rfl
                      exact hk.1 t (fun b hb hm => hop b hb (hseen _ hz b (by rw [hvt]; exact hm)))
                    · rfl
                  | _ => rfl
                have hvals : x.op.operands.toList.map s'.val = x.op.operands.toList.map s.val := vals_same (fun z hz => hsame z (Array.mem_toList_iff.1 hz))
                rw [valL_clean x.op hx hsame (fun z hz b hb => hmem b (hseen z hz b hb)), hv]
                simp only [Option.some.injEq, Prod.mk.injEq, true_and]
                unfold seenOf
                rw [hvals]
                congr 1
                exact moreB_same hmem
        show stepL c ops.toList i x wx K log (s'.put y.dst v) = some r
        rw [step_L hx, again]
        exact hK

theorem isAlloc_spec (h : isAlloc o = true) : ∃ t, o.op = .alloc t ∧ o.guard = none := by
  unfold isAlloc at h
  cases hop : o.op <;> simp only [hop, Bool.false_eq_true] at h
  exact ⟨_, rfl, by simpa using h⟩

def passes (wl tw : List Nat) (log : Log) : Bool := log.all (fun e => bif hasN wl e.1 then apartN tw e.2 else true)
theorem alloc_form {all : List Oper} {t : TypeId} (hop : o.op = .alloc t) (hg : o.guard = none) {i : Nat} {wl : List Nat} {log : Log} {K : Log → St → Option R} (h : stepL c all i o wl K log s = some r) :
    dstOk c.nt o = true ∧ s.free (dstOf o) = true ∧ ∃ x, (∀ (s' : St) (K' : Log → St → Option R), s'.free (dstOf o) = true → stepL c all i o wl K' log s' = K' log ((s'.blk (dstOf o) x).put o.dst (.ptr (dstOf o) 0))) ∧ x ≠ .dead := by
  have hform : ∀ (s' : St) (K' : Log → St → Option R), stepL c all i o wl K' log s' = oneL c i o wl K' log s' := fun s' K' => by rw [stepL_eq]; simp [wantedA, hg]
  have hW : isW o.op = true := by rw [hop]; rfl
  have htw : ∀ s', twC c s' (dstOf o) o.op = [dstOf o] := fun s' => by rw [hop]; rfl
  have hC : ∀ s', opC c s' (dstOf o) o.op = match c.tb.get t with | some i => bif (s'.free (dstOf o) && Nat.beq i.zero.length i.size) then some (true, .ptr (dstOf o) 0, s'.blk (dstOf o) (.cells t i.zero)) else none | none => none := fun s' => by rw [hop]; rfl
  have hK : ∀ {R' : Type} s' (K' : V → St → Option R'), opK c s' (dstOf o) o.op K' = match opC c s' (dstOf o) o.op with | some (g, v, s') => bif g then K' v s' else none | none => none := fun s' K' => by rw [hop]; rfl
  rw [hform] at h
  simp only [oneL, hW, htw, cond_true] at h
  cases hd : dstOk c.nt o
  · rw [hd] at h; cases h
  rw [hd] at h
  simp only [cond_true] at h
  cases hp : log.all (fun e => bif hasN wl e.1 then apartN [dstOf o] e.2 else true)
  · rw [hp] at h; cases h
  rw [hp] at h
  simp only [cond_true] at h
  rw [hK, hC] at h
  cases ht : c.tb.get t with
  | none => simp only [ht, reduceCtorEq] at h
  | some ii =>
    simp only [ht] at h hC
    cases hf : s.free (dstOf o)
    · simp [hf] at h
    cases hl : Nat.beq ii.zero.length ii.size
    · simp only [hl, Bool.and_false, cond_false, reduceCtorEq] at h
    refine ⟨rfl, rfl, .cells t ii.zero, fun s' K' hf' => ?_, fun e => by cases e⟩
    rw [hform]
    simp only [oneL, hW, htw, hd, hp, cond_true]
    rw [hK, hC, hf', hl]
    rfl

theorem upd_comm {α : Type} {f : Nat → α} {d e : Nat} (h : d ≠ e) (u v : α) : upd (upd f d u) e v = upd (upd f e v) d u := by
  funext i
  by_cases hi : i = e
  · subst hi; rw [upd_same, upd_other _ _ _ (Ne.symm h), upd_same]
  · rw [upd_other _ _ _ hi]
    by_cases hj : i = d
    · subst hj; rw [upd_same, upd_same]
    · rw [upd_other _ _ _ hj, upd_other _ _ _ hj, upd_other _ _ _ hi]

theorem swap_AA {x y : Oper} (hap : x.apart ops y = true) (hx : isAlloc x = true) (hy : isAlloc y = true) {i j : Nat} {wx wy : List Nat} {K : Log → St → Option R} {log : Log} (h : stepL c ops.toList i x wx (fun l s => stepL c ops.toList j y wy K l s) log s = some r) :
    stepL c ops.toList j y wy (fun l s => stepL c ops.toList i x wx K l s) log s = some r := by
  obtain ⟨h1, h2, h3⟩ := Oper.apart_spec hap
  obtain ⟨t, hop, hg⟩ := isAlloc_spec hx
  obtain ⟨u, hop', hg'⟩ := isAlloc_spec hy
  obtain ⟨hdx, hfx, bx, hX, hbx⟩ := alloc_form hop hg h
  rw [hX s _ hfx] at h
  obtain ⟨hdy, hfy, b, hY, hb⟩ := alloc_form hop' hg' h
  have hne : dstOf x ≠ dstOf y := fun e => by
    have : ((s.blk (dstOf x) bx).put x.dst (.ptr (dstOf x) 0)).free (dstOf y) = true := hfy
    unfold St.free at this
    rw [put_mem] at this
    rw [← e, show (s.blk (dstOf x) bx).mem (dstOf x) = bx from upd_same _ _ _] at this
    cases bx <;> first | exact hbx rfl | cases this
  have hfy' : s.free (dstOf y) = true := by
    have : ((s.blk (dstOf x) bx).put x.dst (.ptr (dstOf x) 0)).free (dstOf y) = true := hfy
    unfold St.free at this ⊢
    rw [put_mem, show (s.blk (dstOf x) bx).mem (dstOf y) = s.mem (dstOf y) from upd_other _ _ _ (Ne.symm hne)] at this
    exact this
  rw [hY _ _ hfy] at h
  rw [hY _ _ hfy']
  have hfx' : ((s.blk (dstOf y) b).put y.dst (.ptr (dstOf y) 0)).free (dstOf x) = true := by
    unfold St.free at hfx ⊢
    rw [put_mem, show (s.blk (dstOf y) b).mem (dstOf x) = s.mem (dstOf x) from upd_other _ _ _ hne]
    exact hfx
  rw [hX _ _ hfx']
  rw [← h]
  congr 1
  rw [put_blk, put_blk, put_comm (fun k hk e => h2 k e hk)]
  have : (s.blk (dstOf y) b).blk (dstOf x) bx = (s.blk (dstOf x) bx).blk (dstOf y) b := St.ext rfl (upd_comm (Ne.symm hne) _ _)
  rw [this]
end
end AM
namespace AM
open Go

section
variable {P : Program} {F : Fr} {s s' : St} {loc : Nat → Value} {a : Act} {w : World} {o : Oper} {v : V} {c : Cfg} {R : Type} {r : R} {Q : Exit → Act → World → Prop} {ops : Array Oper}

theorem stepL_mono {all : List Oper} {i : Nat} {wl : List Nat} {log : Log} {K K' : Log → St → Option R} (hm : ∀ l s', K l s' = some r → K' l s' = some r) (h : stepL c all i o wl K log s = some r) : stepL c all i o wl K' log s = some r := by
  rw [stepL_eq] at h ⊢
  cases hw : wantedA all o s with
  | none => simp only [hw, reduceCtorEq] at h
  | some b =>
    simp only [hw] at h ⊢
    cases b
    · simp only [skipK] at h ⊢
      cases hd : dstOk c.nt o
      · rw [hd] at h; cases h
      · rw [hd] at h; exact hm _ _ h
    · simp only [oneL] at h ⊢
      cases hd : dstOk c.nt o
      · rw [hd] at h; cases h
      · rw [hd] at h
        simp only [cond_true] at h ⊢
        cases hW : isW o.op
        · rw [hW] at h
          simp only [cond_false] at h ⊢
          exact opK_mono (fun v s' hv => hm _ _ hv) h
        · rw [hW] at h
          simp only [cond_true] at h ⊢
          cases hc : log.all (fun e => bif hasN wl e.1 then apartN (twC c s (dstOf o) o.op) e.2 else true)
          · rw [hc] at h; cases h
          · rw [hc] at h
            simp only [cond_true] at h ⊢
            exact opK_mono (fun v s' hv => hm _ _ hv) h

theorem opsL_blind {all : List Oper} {K : St → Option R} : ∀ (pl : List (Nat × Oper × List Nat)), Blind (opsL c all K pl)
  | [] => fun _ _ _ _ => rfl
  | (i, o, wl) :: rest => stepL_blind (i := i) (wl := wl) (opsL_blind rest)

def SwapOk (ops : Array Oper) (i : Nat) (x : Oper) (y : Oper) (wy : List Nat) : Prop :=
  x.apart ops y = true ∧ ((isW x.op = false ∧ isW y.op = false) ∨ (isW x.op = false ∧ isW y.op = true ∧ hasN wy i = true) ∨ (isAlloc x = true ∧ isAlloc y = true))

theorem swap_any (hT : TblOk P c.tbl) {x y : Oper} {i j : Nat} {wx wy : List Nat} (h : SwapOk ops i x y wy) {K : Log → St → Option R} (hK : Blind K) {log : Log} (hk : stepL c ops.toList i x wx (fun l s => stepL c ops.toList j y wy K l s) log s = some r) :
    stepL c ops.toList j y wy (fun l s => stepL c ops.toList i x wx K l s) log s = some r := by
  obtain ⟨hap, ⟨h1, h2⟩ | ⟨h1, h2, h3⟩ | ⟨h1, h2⟩⟩ := h
  · exact swap_LL hap h1 h2 hK hk
  · exact swap_LW hT hap h1 h2 h3 hk
  · exact swap_AA hap h1 h2 hk

abbrev Plan := List (Nat × Oper × List Nat)
theorem bubble (hT : TblOk P c.tbl) {j : Nat} {y : Oper} {wy : List Nat} {K : St → Option R} {post : Plan} : ∀ (pre : Plan) (log : Log) (s : St), (∀ p ∈ pre, SwapOk ops p.1 p.2.1 y wy) → opsL c ops.toList K (pre ++ (j, y, wy) :: post) log s = some r →
    stepL c ops.toList j y wy (opsL c ops.toList K (pre ++ post)) log s = some r
  | [], _, s, _, h => h
  | (i, x, wx) :: pre, log, s, hp, h => by
    have h' : stepL c ops.toList i x wx (opsL c ops.toList K (pre ++ (j, y, wy) :: post)) log s = some r := h
    have h2 := stepL_mono (fun l s' hs => bubble hT pre l s' (fun p hp' => hp p (List.mem_cons_of_mem _ hp')) hs) h'
    exact swap_any hT (hp (i, x, wx) (List.mem_cons_self ..)) (opsL_blind _) h2

structure Inv (ops : Array Oper) (listed : Array Bool) (pl : Plan) : Prop where
  size : listed.size = ops.size
  at_ : ∀ p ∈ pl, ops[p.1]? = some p.2.1
  nodup : (pl.map (·.1)).Nodup
  mem : ∀ i, i < ops.size → (listed.getD i true = false ↔ i ∈ pl.map (·.1))
  pairs : pl.Pairwise (fun p q => p.1 ∈ reach ops.toList ops.toList.length q.1 ∨ SwapOk ops p.1 p.2.1 q.2.1 q.2.2)
  lin : pl.Pairwise (fun p q => q.1 ∉ aft p.2.1)
  self : ∀ p ∈ pl, p.1 ∉ aft p.2.1
  down : ∀ j o, ops[j]? = some o → j ∉ pl.map (·.1) → ∀ e ∈ aft o, e ∉ pl.map (·.1)
  range : ∀ p ∈ pl, ∀ e ∈ aft p.2.1, e < ops.size

theorem aft_mem {o : Oper} {j : Nat} : j ∈ aft o ↔ ∃ e ∈ o.after, Region.binds .any e = true ∧ e.on = j := by
  unfold aft
  simp only [List.mem_map, List.mem_filter, Array.mem_toList_iff]
  constructor
  · rintro ⟨e, ⟨h1, h2⟩, h3⟩; exact ⟨e, h1, h2, h3⟩
  · rintro ⟨e, h1, h2, h3⟩; exact ⟨e, ⟨h1, h2⟩, h3⟩

theorem getD_flip {l : Array Bool} {i : Nat} (h : i < l.size) : l.getD i true = l.getD i false := by simp [h]

theorem reach_out {pl : Plan} (hd : ∀ j o, ops[j]? = some o → j ∉ pl.map (·.1) → ∀ e ∈ aft o, e ∉ pl.map (·.1)) : ∀ (n : Nat) (i : Nat) (o : Oper), ops[i]? = some o → (∀ e ∈ aft o, e ∉ pl.map (·.1)) → ∀ j ∈ reach ops.toList n i, j ∉ pl.map (·.1)
  | 0, _, _, _, _, j, hj => by simp [reach] at hj
  | n + 1, i, o, ho, ha, j, hj => by
    simp only [reach, nth_get, Array.getElem?_toList, ho] at hj
    obtain ⟨e, he, hj⟩ := List.mem_flatMap.1 hj
    rcases List.mem_cons.1 hj with rfl | hj
    · exact ha _ he
    · cases hoe : ops[e]? with
      | none =>
        cases n with
        | zero => simp [reach] at hj
        | succ n => simp [reach, nth_get, Array.getElem?_toList, hoe] at hj
      | some oe => exact reach_out hd n e oe hoe (hd e oe hoe (ha e he)) j hj

theorem ready_aft {listed : Array Bool} {pl : Plan} (hi : Inv ops listed pl) {i : Nat} {o : Oper} (h : ∀ e ∈ o.after, Region.binds .any e = true → listed.getD e.on false = true) : ∀ e ∈ aft o, e ∉ pl.map (·.1) := fun j hj hm => by
  obtain ⟨e, he, hb, rfl⟩ := aft_mem.1 hj
  have h1 := h e he hb
  have hlt : e.on < listed.size := by
    rcases Nat.lt_or_ge e.on listed.size with h' | h'
    · exact h'
    · simp [Array.getElem?_eq_none h'] at h1
  have h2 := (hi.mem e.on (by rw [← hi.size]; exact hlt)).2 hm
  rw [getD_flip hlt, h1] at h2
  cases h2

theorem any_sound (hnt : F.nt = c.nt) (htb : tabB P c.tb = true) (hT : TblOk P c.tbl) {K : St → Option R} (hn : ∀ s' a' w' loc', K s' = some r → RelL F s' loc' a' w' → Q .normal a' w') :
    ∀ (pl : Plan) (n : Nat) (listed : Array Bool) (log : Log) (s : St) (loc : Nat → Value) (a : Act) (w : World), pl.length = n → Inv ops listed pl → RelL F s loc a w → opsL c ops.toList K pl log s = some r →
    wpAny P .any ops Q n listed a w := by
  intro pl n
  induction n generalizing pl with
  | zero =>
    intro listed log s loc a w hl hi h hk
    have : pl = [] := List.length_eq_zero_iff.1 hl
    subst this
    refine ⟨?_, hn s a w loc hk h⟩
    rw [List.eq_nil_iff_forall_not_mem]
    intro j hj
    obtain ⟨h0, o, ho, _⟩ := mem_ready.1 hj
    have := (hi.mem j (Array.getElem?_eq_some_iff.1 ho).1).1 h0
    simp at this
  | succ n ih =>
    intro listed log s loc a w hl hi h hk
    refine ⟨fun hr => ?_, fun i hir => ?_⟩
    · -- the first is ready
      cases pl with
      | nil => simp at hl
      | cons p rest =>
        exfalso
        have hpo := hi.at_ p (List.mem_cons_self ..)
        have hps : p.1 < ops.size := (Array.getElem?_eq_some_iff.1 hpo).1
        have : p.1 ∈ Region.ready .any ops listed := by
          rw [mem_ready]
          refine ⟨(hi.mem p.1 hps).2 (by simp), p.2.1, hpo, fun e he hb => ?_⟩
          have hea : e.on ∈ aft p.2.1 := aft_mem.2 ⟨e, he, hb, rfl⟩
          have hlt := hi.range p (List.mem_cons_self ..) e.on hea
          have hnot : e.on ∉ (p :: rest).map (·.1) := by
            simp only [List.map_cons, List.mem_cons, not_or]
            refine ⟨fun e' => hi.self p (List.mem_cons_self ..) (e' ▸ hea), fun hm => ?_⟩
            obtain ⟨q, hq, hqe⟩ := List.mem_map.1 hm
            exact (List.pairwise_cons.1 hi.lin).1 q hq (hqe ▸ hea)
          have h1 := (hi.mem e.on hlt)
          rw [getD_flip (by rw [hi.size]; exact hlt)] at h1
          cases hg : listed.getD e.on false
          · exact absurd (h1.1 hg) hnot
          · rfl
        rw [hr] at this
        cases this
    · obtain ⟨h0, o, ho, hafter⟩ := mem_ready.1 hir
      have his : i < ops.size := (Array.getElem?_eq_some_iff.1 ho).1
      have him := (hi.mem i his).1 h0
      obtain ⟨p, hp, hpi⟩ := List.mem_map.1 him
      obtain ⟨pre, post, hpl⟩ := List.append_of_mem hp
      subst hpl
      obtain ⟨i', y, fy⟩ := p
      simp only at hpi
      subst hpi
      have hy : y = o := by
        have := hi.at_ (i', y, fy) hp
        simp only at this
        rw [ho] at this
        exact (Option.some.inj this).symm
      subst hy
      have hout := ready_aft (i := i') hi hafter
      have hsw : ∀ p ∈ pre, SwapOk ops p.1 p.2.1 y fy := fun q hq => by
        have hpair := (List.pairwise_append.1 hi.pairs).2.2 q hq (i', y, fy) (List.mem_cons_self ..)
        rcases hpair with h1 | h1
        · exact absurd (List.mem_map.2 ⟨q, List.mem_append_left _ hq, rfl⟩) (reach_out hi.down _ i' y ho hout q.1 h1)
        · exact h1
      have hk2 := bubble (ops := ops) (c := c) hT pre log s hsw hk
      have hnd := hi.nodup
      rw [List.map_append, List.map_cons, List.nodup_append] at hnd
      obtain ⟨hn1, hn2, hn3⟩ := hnd
      have hinot : i' ∉ (pre ++ post).map (·.1) := by
        rw [List.map_append, List.mem_append]
        rintro (hm | hm)
        · exact hn3 i' hm i' (List.mem_cons_self ..) rfl
        · exact (List.nodup_cons.1 hn2).1 hm
      have hsub : (pre ++ post).Sublist (pre ++ (i', y, fy) :: post) := List.Sublist.append (List.Sublist.refl _) (List.sublist_cons_self ..)
      have hmem' : ∀ j, j ∈ (pre ++ post).map (·.1) ↔ j ∈ (pre ++ (i', y, fy) :: post).map (·.1) ∧ j ≠ i' := fun j => by
        constructor
        · intro hj
          exact ⟨(hsub.map _).subset hj, fun e => hinot (e ▸ hj)⟩
        · rintro ⟨hj, hne⟩
          simp only [List.map_append, List.map_cons, List.mem_append, List.mem_cons] at hj ⊢
          rcases hj with hj | hj | hj
          · exact .inl hj
          · exact absurd hj hne
          · exact .inr hj
      have hi' : Inv ops (listed.setIfInBounds i' true) (pre ++ post) := by
        refine ⟨by simpa using hi.size, fun p hp => hi.at_ p (hsub.subset hp), (hsub.map _).nodup hi.nodup, fun j hj => ?_, hi.pairs.sublist hsub, hi.lin.sublist hsub, fun p hp => hi.self p (hsub.subset hp), fun j oj hoj hjn e he => ?_, fun p hp => hi.range p (hsub.subset hp)⟩
        · rw [hmem']
          by_cases hji : i' = j
          · subst hji
            have : i' < listed.size := by rw [hi.size]; exact his
            simp [this]
          · rw [getD_set_ne true hji, hi.mem j hj]
            exact ⟨fun h => ⟨h, Ne.symm hji⟩, fun h => h.1⟩
        · rw [hmem']
          intro hcon
          by_cases hji : j = i'
          · subst hji
            have : oj = y := by rw [ho] at hoj; exact (Option.some.inj hoj).symm
            subst this
            exact hout e he hcon.1
          · refine hi.down j oj hoj (fun hj => hjn ((hmem' j).2 ⟨hj, hji⟩)) e he hcon.1
      unfold wpOp
      simp only [ho]
      have := stepL_sound (Q := Q) hnt htb hT h (o := y) (ops := ops) hk2 (next := wpAny P .any ops Q n (listed.setIfInBounds i' true)) (fun lg s' a' w' loc' hk' hr => ih (pre ++ post) _ lg s' loc' a' w' (by simp at hl ⊢; omega) hi' hr hk')
      split
      · rename_i hw; rw [if_pos hw] at this; exact .inl this
      · rename_i hw; rw [if_neg hw] at this; exact this

/-! ### The check -/
theorem plan_map : ∀ {l before : List Nat}, (∀ i ∈ l, i < ops.size) → (planOf ops.toList before l).map (·.1) = l
  | [], _, _ => rfl
  | i :: r, before, h => by
    have hi := h i (by simp)
    have : nth ops.toList i = some ops[i] := by rw [nth_get, Array.getElem?_toList, Array.getElem?_eq_getElem hi]
    simp only [planOf, this, List.map_cons, plan_map (l := r) (fun j hj => h j (by simp [hj]))]
theorem plan_at : ∀ {l before : List Nat}, ∀ p ∈ planOf ops.toList before l, ops[p.1]? = some p.2.1
  | [], _, p, hp => by simp [planOf] at hp
  | i :: r, before, p, hp => by
    cases hi : nth ops.toList i with
    | none => simp only [planOf, hi] at hp; exact plan_at p hp
    | some o =>
      simp only [planOf, hi] at hp
      rcases List.mem_cons.1 hp with rfl | hp
      · rw [nth_get, Array.getElem?_toList] at hi; exact hi
      · exact plan_at p hp
theorem watch_of {i j : Nat} : ∀ {l : List Nat}, i ∈ l → i ∉ reach ops.toList ops.toList.length j → i ∈ watch ops.toList j l
  | k :: r, h, hn => by
    simp only [watch]
    rcases List.mem_cons.1 h with rfl | h
    · cases hb : hasN (reach ops.toList ops.toList.length j) i
      · exact List.mem_cons_self ..
      · exact absurd (hasN_iff.1 hb) hn
    · cases hb : hasN (reach ops.toList ops.toList.length j) k
      · exact List.mem_cons_of_mem _ (watch_of h hn)
      · exact watch_of h hn
/-- Each of the plan watches all that came before it, and that it need not wait for. -/
theorem plan_watch : ∀ {l before : List Nat}, ∀ q ∈ planOf ops.toList before l, ∀ i ∈ before, i ∉ reach ops.toList ops.toList.length q.1 → hasN q.2.2 i = true
  | [], _, q, hq, _, _, _ => by simp [planOf] at hq
  | k :: r, before, q, hq, i, hi, hn => by
    cases hk : nth ops.toList k with
    | none => simp only [planOf, hk] at hq; exact plan_watch q hq i hi hn
    | some o =>
      simp only [planOf, hk] at hq
      rcases List.mem_cons.1 hq with rfl | hq
      · exact hasN_iff.2 (watch_of hi hn)
      · exact plan_watch q hq i (List.mem_cons_of_mem _ hi) hn
theorem nodupB_iff : ∀ {l : List Nat}, nodupB l = true → l.Nodup
  | [], _ => List.nodup_nil
  | i :: r, h => by
    simp only [nodupB, Bool.and_eq_true, Bool.not_eq_true'] at h
    refine List.nodup_cons.2 ⟨fun hm => ?_, nodupB_iff h.2⟩
    rw [hasN_iff.2 hm] at h
    cases h.1
theorem plan_sub : ∀ {l before : List Nat} {p : Nat × Oper × List Nat}, p ∈ planOf ops.toList before l → p.1 ∈ l
  | [], _, p, hp => by simp [planOf] at hp
  | i :: r, before, p, hp => by
    cases hi : nth ops.toList i with
    | none => simp only [planOf, hi] at hp; exact List.mem_cons_of_mem _ (plan_sub hp)
    | some o =>
      simp only [planOf, hi] at hp
      rcases List.mem_cons.1 hp with rfl | hp
      · exact List.mem_cons_self ..
      · exact List.mem_cons_of_mem _ (plan_sub hp)
theorem plan_pairs : ∀ {l before : List Nat}, pairsB ops.toList l = true → (planOf ops.toList before l).Pairwise (fun p q => p.1 ∈ reach ops.toList ops.toList.length q.1 ∨ SwapOk ops p.1 p.2.1 q.2.1 q.2.2)
  | [], _, _ => by simp [planOf]
  | i :: r, before, h => by
    simp only [pairsB, Bool.and_eq_true, List.all_eq_true] at h
    cases hi : nth ops.toList i with
    | none => simp only [planOf, hi]; exact plan_pairs h.2
    | some o =>
      simp only [planOf, hi]
      refine List.pairwise_cons.2 ⟨fun q hq => ?_, plan_pairs h.2⟩
      have hpb := h.1 q.1 (plan_sub hq)
      have hqo := plan_at q hq
      have hqn : nth ops.toList q.1 = some q.2.1 := by rw [nth_get, Array.getElem?_toList]; exact hqo
      simp only [pairB, hi, hqn, Bool.or_eq_true] at hpb
      by_cases hr : i ∈ reach ops.toList ops.toList.length q.1
      · exact .inl hr
      · right
        rcases hpb with hpb | hpb
        · exact absurd (hasN_iff.1 hpb) hr
        · simp only [swapB, apartB, Bool.and_eq_true, Bool.or_eq_true, Bool.not_eq_true', Array.toArray_toList] at hpb
          refine ⟨hpb.1, ?_⟩
          rcases hpb.2 with h1 | h1
          · cases hq2 : isW q.2.1.op with
            | false => exact .inl ⟨h1, rfl⟩
            | true => exact .inr (.inl ⟨h1, rfl, plan_watch q hq i (List.mem_cons_self ..) hr⟩)
          · exact .inr (.inr h1)
theorem plan_lin : ∀ {l before : List Nat}, linB ops.toList l = true → (planOf ops.toList before l).Pairwise (fun p q => q.1 ∉ aft p.2.1) ∧ ∀ p ∈ planOf ops.toList before l, p.1 ∉ aft p.2.1 ∧ ∀ e ∈ aft p.2.1, e < ops.size
  | [], _, _ => by simp [planOf]
  | i :: r, before, h => by
    simp only [linB, Bool.and_eq_true] at h
    cases hi : nth ops.toList i with
    | none => simp [hi] at h
    | some o =>
      simp only [hi, Bool.and_eq_true, Bool.not_eq_true', List.all_eq_true] at h
      obtain ⟨⟨h1, h2⟩, h3⟩ := h
      obtain ⟨h4, h5⟩ := plan_lin (before := i :: before) h3
      simp only [planOf, hi]
      refine ⟨List.pairwise_cons.2 ⟨fun q hq hm => ?_, h4⟩, fun p hp => ?_⟩
      · have := (h2 q.1 hm).1
        rw [hasN_iff.2 (plan_sub hq)] at this
        cases this
      · rcases List.mem_cons.1 hp with rfl | hp
        · refine ⟨fun hm => ?_, fun e he => ?_⟩
          · rw [hasN_iff.2 hm] at h1; cases h1
          · have := (h2 e he).2
            rw [Nat.blt_eq] at this
            simpa using this
        · exact h5 p hp

theorem inv_of {l : List Nat} (h : orderOk ops.toList l = true) (hlt : ∀ i ∈ l, i < ops.size) : Inv ops (Array.replicate ops.size false) (planOf ops.toList [] l) := by
  simp only [orderOk, Bool.and_eq_true, List.all_eq_true, List.mem_range] at h
  obtain ⟨⟨⟨h1, h2⟩, h3⟩, h4, _⟩ := h
  obtain ⟨h5, h6⟩ := plan_lin (before := []) h4
  have hmap := plan_map (ops := ops) (before := []) hlt
  refine ⟨by simp, plan_at, by rw [hmap]; exact nodupB_iff h2, fun i hi => ?_, plan_pairs h3, h5, fun p hp => (h6 p hp).1, fun j o ho hj e he => ?_, fun p hp => (h6 p hp).2⟩
  · rw [hmap]
    refine ⟨fun _ => hasN_iff.1 (h1 i (by simpa using hi)), fun _ => by simp [hi]⟩
  · exfalso
    apply hj
    rw [hmap]
    exact hasN_iff.1 (h1 j (by simpa using (Array.getElem?_eq_some_iff.1 ho).1))

theorem lin_lt : ∀ {l : List Nat}, linB ops.toList l = true → ∀ i ∈ l, i < ops.size
  | [], _, i, h => by simp at h
  | j :: r, h, i, hi => by
    simp only [linB, Bool.and_eq_true] at h
    rcases List.mem_cons.1 hi with rfl | hi
    · cases hn : nth ops.toList i with
      | none => simp [hn] at h
      | some o =>
        rw [nth_get, Array.getElem?_toList] at hn
        exact (Array.getElem?_eq_some_iff.1 hn).1
    · exact lin_lt h.2 i hi

theorem plan_len {l : List Nat} (hlt : ∀ i ∈ l, i < ops.size) : (planOf ops.toList [] l).length = l.length := by
  have := congrArg List.length (plan_map (ops := ops) (before := []) hlt)
  simpa using this
end
end AM
