/- The plain law of the bands joined. -/
import Derived.Test.YtcecgmiecdjnoaaPaintB
import Derived.Test.YtcecgmiecdjnoaaAmC
set_option linter.unusedVariables false
set_option linter.unusedSimpArgs false
namespace AM.T
open Go AM

abbrev Bd := Int × Int × Int
/-! ### In -/
def inB (p y : Int) (l : List Bd) : Bool := l.any fun b => b.1 == p && decide (b.2.1 ≤ y) && decide (y < b.2.2)
theorem F9_loop (l : List Bd) (p y : Int) (hl : l.length < 1000000) : loopD F9_b0 ((p, y, l, (0 : Int), ()), ()) = some (if inB p y l then .inl ((true, ()), ()) else .inr ((), ())) := by
  have := loopD_spec (f := F9_b0) (fun x => x.1.2.2.1 = l ∧ x.1.1 = p ∧ x.1.2.1 = y ∧ 0 ≤ x.1.2.2.2.1 ∧ x.1.2.2.2.1 ≤ (l.length : Int)) (fun x => l.length - x.1.2.2.2.1.toNat)
    (fun x => if inB p y (l.drop x.1.2.2.2.1.toNat) then .inl ((true, ()), ()) else .inr ((), ())) ?_ ((p, y, l, (0 : Int), ()), ()) ⟨rfl, rfl, rfl, Int.le_refl _, by simp⟩ (by simp; omega)
  · simpa using this
  · rintro ⟨⟨p', y', l', i, _⟩, _⟩ ⟨rfl, rfl, rfl, h0, h1⟩
    simp only at hl h0 h1
    by_cases hi : i < (l'.length : Int)
    · have hk : i.toNat < l'.length := by omega
      have hd := drop_at hk ((0 : Int), (0 : Int), (0 : Int))
      generalize he : l'.getD i.toNat ((0 : Int), (0 : Int), (0 : Int)) = e at hd
      have hw : w64 (i + 1) = i + 1 := w64_id (by omega) (by omega)
      have ht : (i + 1).toNat = i.toNat + 1 := by omega
      have hix := idxOk_true h0 hi
      by_cases hc : e.1 = p' ∧ e.2.1 ≤ y' ∧ y' < e.2.2
      · left
        intro again K
        simp only [F9_b0, hi, decide_true, cond_true, hix, he, hc.1, beq_self_eq_true, hc.2.1, hc.2.2, hd, inB, List.any_cons, Bool.and_self, Bool.true_or, if_true]
      · right
        have hf : (e.1 == p' && decide (e.2.1 ≤ y') && decide (y' < e.2.2)) = false := by
          cases hb : (e.1 == p' && decide (e.2.1 ≤ y') && decide (y' < e.2.2))
          · rfl
          · simp at hb; exact absurd ⟨hb.1.1, hb.1.2, hb.2⟩ hc
        refine ⟨((p', y', l', i + 1, ()), ()), ⟨rfl, rfl, rfl, by simp only; omega, by simp only; omega⟩, by simp only; omega, ?_, fun again K => ?_⟩
        · simp only [ht, hd, inB, List.any_cons, hf, Bool.false_or]
        · simp only [F9_b0, hi, decide_true, cond_true, hix, he, hw]
          by_cases c1 : e.1 = p'
          · by_cases c2 : e.2.1 ≤ y'
            · have c3 : ¬ y' < e.2.2 := fun c3 => hc ⟨c1, c2, c3⟩
              simp only [c1, beq_self_eq_true, cond_true, c2, decide_true, c3, decide_false, cond_false]
            · simp only [c1, beq_self_eq_true, cond_true, c2, decide_false, cond_false]
          · have : (e.1 == p') = false := by simpa using c1
            simp only [this, cond_false]
    · left
      intro again K
      have : l'.drop i.toNat = [] := List.drop_eq_nil_of_le (by omega)
      simp [F9_b0, hi, this, inB]
theorem F9_eq (l : List Bd) (p y : Int) (hl : l.length < 1000000) : F9 (l, p, y, ()) = some (inB p y l, ()) := by
  simp only [F9, F9_loop l p y hl, Option.bind_some]
  cases inB p y l <;> rfl

/-! ### bands -/
theorem F6_eq (l : List Bd) (hl : l.length < 1000000) : F6 (l, ()) = some (l, ()) := by
  have := loopD_spec (f := F6_b0) (fun x => x.1.1 = l ∧ 0 ≤ x.1.2.1 ∧ x.1.2.1 ≤ (l.length : Int) ∧ (x.2.1.length : Int) = x.1.2.1) (fun x => l.length - x.1.2.1.toNat)
    (fun x => (((), ()), (x.2.1 ++ l.drop x.1.2.1.toNat, ()))) ?_ ((l, (0 : Int), (), ()), ([], ())) ⟨rfl, Int.le_refl _, by simp, by simp⟩ (by simp; omega)
  · simp only [F6, this, Option.bind_some]
    simp
  · rintro ⟨⟨l', i, _, _⟩, ⟨m, _⟩⟩ ⟨rfl, h0, h1, h2⟩
    simp only at hl h0 h1 h2
    by_cases hi : i < (l'.length : Int)
    · right
      have hk : i.toNat < l'.length := by omega
      have hd := drop_at hk ((0 : Int), (0 : Int), (0 : Int))
      generalize he : l'.getD i.toNat ((0 : Int), (0 : Int), (0 : Int)) = e at hd
      have hw : w64 (i + 1) = i + 1 := w64_id (by omega) (by omega)
      have ht : (i + 1).toNat = i.toNat + 1 := by omega
      have hix := idxOk_true h0 hi
      have hr : roomOk (m.length + [e].length) 24 = true := roomOk_true (by simp; omega)
      refine ⟨((l', i + 1, (), ()), (m ++ [e], ())), ⟨rfl, by simp only; omega, by simp only; omega, by simp; omega⟩, by simp only; omega, ?_, fun again K => ?_⟩
      · simp only [ht, hd, List.append_assoc, List.singleton_append]
      · simp only [F6_b0, hi, decide_true, cond_true, hix, he, hw]
        rw [show ((e.1, e.2.1, e.2.2) : Bd) = e from rfl, hr]
        rfl
    · left
      intro again K
      have : l'.drop i.toNat = [] := List.drop_eq_nil_of_le (by omega)
      simp [F6_b0, hi, this]

/-! ### Tidy -/
def okNext (q e : Bd) : Bool := !(decide (e.1 < q.1)) && !(e.1 == q.1 && decide (e.2.1 ≤ q.2.2))
def tidyB : Option Bd → List Bd → Bool
  | _, [] => true
  | none, e :: r => decide (e.2.1 < e.2.2) && tidyB (some e) r
  | some q, e :: r => decide (e.2.1 < e.2.2) && okNext q e && tidyB (some e) r
def prevB (l : List Bd) (i : Int) : Option Bd := if i = 0 then none else some (l.getD (i - 1).toNat (0, 0, 0))
theorem F8_eq (l : List Bd) (hl : l.length < 1000000) : F8 (l, ()) = some (tidyB none l, ()) := by
  have := loopD_spec (f := F8_b0) (fun x => x.1.1 = l ∧ 0 ≤ x.1.2.1 ∧ x.1.2.1 ≤ (l.length : Int)) (fun x => l.length - x.1.2.1.toNat)
    (fun x => if tidyB (prevB l x.1.2.1) (l.drop x.1.2.1.toNat) then .inr ((), ()) else .inl ((false, ()), ())) ?_ ((l, (0 : Int), ()), ()) ⟨rfl, Int.le_refl _, by simp⟩ (by simp; omega)
  · simp only [F8, this, Option.bind_some]
    simp only [prevB, if_true, Int.toNat_zero, List.drop_zero]
    cases tidyB none l <;> rfl
  · rintro ⟨⟨l', i, _⟩, _⟩ ⟨rfl, h0, h1⟩
    simp only at hl h0 h1
    by_cases hi : i < (l'.length : Int)
    · have hk : i.toNat < l'.length := by omega
      have hd := drop_at hk ((0 : Int), (0 : Int), (0 : Int))
      generalize he : l'.getD i.toNat ((0 : Int), (0 : Int), (0 : Int)) = e at hd
      have hw : w64 (i + 1) = i + 1 := w64_id (by omega) (by omega)
      have ht : (i + 1).toNat = i.toNat + 1 := by omega
      have hix := idxOk_true h0 hi
      have hp1 : prevB l' (i + 1) = some e := by
        unfold prevB
        rw [if_neg (by omega), show i + 1 - 1 = i by omega, he]
      by_cases hb : e.2.1 < e.2.2
      · have hb' : ¬ e.2.1 ≥ e.2.2 := by omega
        by_cases hz : i > 0
        · have hwm : w64 (i - 1) = i - 1 := w64_id (by omega) (by omega)
          have hixm : idxOk (i - 1) l'.length = true := idxOk_true (by omega) (by omega)
          generalize hq : l'.getD (i - 1).toNat ((0 : Int), (0 : Int), (0 : Int)) = q
          have hp0 : prevB l' i = some q := by
            unfold prevB
            rw [if_neg (by omega), hq]
          by_cases c1 : e.1 < q.1
          · left
            intro again K
            simp only [F8_b0, hi, decide_true, cond_true, hix, he, hb', decide_false, cond_false, hz, hwm, hixm, hq, c1, hp0, hd, tidyB, okNext, Bool.not_true, Bool.false_and, Bool.and_false, Bool.false_eq_true, if_false]
          · by_cases c2 : e.1 = q.1
            · by_cases c3 : e.2.1 ≤ q.2.2
              · left
                intro again K
                have c2' : (e.1 == q.1) = true := by simpa using c2
                simp only [F8_b0, hi, decide_true, cond_true, hix, he, hb', decide_false, cond_false, hz, hwm, hixm, hq, c1, c2', c3, hp0, hd, tidyB, okNext, Bool.and_self, Bool.not_true, Bool.and_false, Bool.false_and, Bool.false_eq_true, if_false]
              · right
                refine ⟨((l', i + 1, ()), ()), ⟨rfl, by simp only; omega, by simp only; omega⟩, by simp only; omega, ?_, fun again K => ?_⟩
                · simp [hp0, hp1, hd, ht, tidyB, okNext, hb, c1, c3]
                · have c2' : (e.1 == q.1) = true := by simpa using c2
                  simp only [F8_b0, hi, decide_true, cond_true, hix, he, hb', decide_false, cond_false, hz, hwm, hixm, hq, c1, c2', c3, hw]
            · right
              refine ⟨((l', i + 1, ()), ()), ⟨rfl, by simp only; omega, by simp only; omega⟩, by simp only; omega, ?_, fun again K => ?_⟩
              · have c2' : (e.1 == q.1) = false := by simpa using c2
                simp [hp0, hp1, hd, ht, tidyB, okNext, hb, c1, c2']
              · have c2' : (e.1 == q.1) = false := by simpa using c2
                simp only [F8_b0, hi, decide_true, cond_true, hix, he, hb', decide_false, cond_false, hz, hwm, hixm, hq, c1, c2', hw]
        · have hi0 : i = 0 := by omega
          subst hi0
          right
          refine ⟨((l', 0 + 1, ()), ()), ⟨rfl, by simp only; omega, by simp only; omega⟩, by simp only; omega, ?_, fun again K => ?_⟩
          · have hp0 : prevB l' 0 = none := rfl
            simp only [hp0, hp1, hd, ht, tidyB, hb, decide_true, Bool.true_and]
          · simp only [F8_b0, hi, decide_true, cond_true, hix, he, hb', decide_false, cond_false, hz, hw]
      · left
        intro again K
        have hb' : e.2.1 ≥ e.2.2 := by omega
        have hf : tidyB (prevB l' i) (l'.drop i.toNat) = false := by
          rw [hd]
          cases prevB l' i <;> simp [tidyB, hb]
        simp only [F8_b0, hi, decide_true, cond_true, hix, he, hb', hf, Bool.false_eq_true, if_false]
    · left
      intro again K
      have : l'.drop i.toNat = [] := List.drop_eq_nil_of_le (by omega)
      have hf : tidyB (prevB l' i) [] = true := by cases prevB l' i <;> rfl
      simp [F8_b0, hi, this, hf]

/-! ### DeleteFunc -/
def good (b : Bd) : Bool := decide (b.2.1 < b.2.2)
theorem F17_eq (b : Bd) : F17 (b, ()) = some (!good b, ()) := by
  simp only [F17, good]
  congr 2
  by_cases h : b.2.1 < b.2.2
  · have : ¬ b.2.1 ≥ b.2.2 := by omega
    simp [h]
  · have : b.2.1 ≥ b.2.2 := by omega
    simp [h]; omega
theorem F31_eq (l : List Bd) (hl : l.length < 1000000) : ∃ j : Int, F31 (l, (), ()) = some (j, ()) ∧ ((j = -1 ∧ ∀ b ∈ l, good b = true) ∨ (0 ≤ j ∧ j < (l.length : Int) ∧ (∀ b ∈ l.take j.toNat, good b = true) ∧ good (l.getD j.toNat (0, 0, 0)) = false)) := by
  have h31 := loopD_post (f := F31_b0) (fun x => x.1.1 = (l.length : Int) ∧ x.1.2.2.1 = l ∧ 0 ≤ x.1.2.2.2.1 ∧ x.1.2.2.2.1 ≤ (l.length : Int) ∧ ∀ b ∈ l.take x.1.2.2.2.1.toNat, good b = true) (fun x => l.length - x.1.2.2.2.1.toNat)
    (fun z => match z with | .inl a => 0 ≤ a.1.1 ∧ a.1.1 < (l.length : Int) ∧ (∀ b ∈ l.take a.1.1.toNat, good b = true) ∧ good (l.getD a.1.1.toNat (0, 0, 0)) = false | .inr _ => ∀ b ∈ l, good b = true) ?_ (((l.length : Int), (), l, (0 : Int), ()), ()) ⟨rfl, rfl, Int.le_refl _, by simp, by simp⟩ (by simp; omega)
  · obtain ⟨z, hz, hp⟩ := h31
    simp only [F31, hz, Option.bind_some]
    cases z with
    | inl a => exact ⟨a.1.1, rfl, .inr hp⟩
    | inr a => exact ⟨-1, rfl, .inl ⟨rfl, hp⟩⟩
  · rintro ⟨⟨n, _, l', i, _⟩, _⟩ ⟨hn, hl', h0, h1, h2⟩
    simp only at hn hl' h0 h1 h2
    subst hl'
    subst hn
    by_cases hi : i < (l'.length : Int)
    · have hk : i.toNat < l'.length := by omega
      have hd := drop_at hk ((0 : Int), (0 : Int), (0 : Int))
      generalize he : l'.getD i.toNat ((0 : Int), (0 : Int), (0 : Int)) = e at hd
      have hw : w64 (i + 1) = i + 1 := w64_id (by omega) (by omega)
      have ht : (i + 1).toNat = i.toNat + 1 := by omega
      have hix := idxOk_true h0 hi
      cases hg : good e
      · left
        refine ⟨.inl ((i, ()), ()), ⟨h0, hi, h2, by simp only; rw [he]; exact hg⟩, fun again K => ?_⟩
        simp only [F31_b0, hi, decide_true, cond_true, hix, he, F17_eq, callF_eq, Option.bind_some, hg, Bool.not_false]
      · right
        refine ⟨(((l'.length : Int), (), l', i + 1, ()), ()), ⟨rfl, rfl, by simp only; omega, by simp only; omega, ?_⟩, by simp only; omega, fun again K => ?_⟩
        · simp only [ht]
          intro b hb
          have htake : l'.take (i.toNat + 1) = l'.take i.toNat ++ [e] := by
            have hge : l'[i.toNat]? = some e := by
              have := congrArg List.head? hd
              simpa using this
            rw [List.take_add_one, hge]; rfl
          rw [htake] at hb
          rcases List.mem_append.1 hb with hb | hb
          · exact h2 b hb
          · rw [List.mem_singleton.1 hb]; exact hg
        · simp only [F31_b0, hi, decide_true, cond_true, hix, he, F17_eq, callF_eq, Option.bind_some, hg, Bool.not_true, cond_false, hw]
    · left
      refine ⟨.inr ((), ()), ?_, fun again K => ?_⟩
      · have : i.toNat = l'.length := by omega
        simpa [this] using h2
      · simp [F31_b0, hi]
theorem take_set_lt {α : Type} (m : List α) (w : Nat) (e : α) (h : w < m.length) : (m.set w e).take (w + 1) = m.take w ++ [e] := by
  apply List.ext_getElem?
  intro j
  rw [List.getElem?_take, List.getElem?_append]
  simp only [List.length_take, Nat.min_eq_left (Nat.le_of_lt h)]
  by_cases hj : j < w
  · rw [if_pos (by omega), if_pos hj, List.getElem?_set_ne (by omega), List.getElem?_take, if_pos hj]
  · by_cases hw : j = w
    · subst hw
      rw [if_pos (by omega), if_neg (by omega), List.getElem?_set_self h]
      simp
    · rw [if_neg (by omega), if_neg hj]
      rw [List.getElem?_eq_none (by simp; omega)]
theorem F15_eq (l : List Bd) (hl : l.length < 1000000) : F15 (l, (), ()) = some (l.filter good, ()) := by
  obtain ⟨j, hj, hc⟩ := F31_eq l hl
  simp only [F15, hj, callF_eq, Option.bind_some]
  rcases hc with ⟨rfl, hall⟩ | ⟨h0, h1, hall, hbad⟩
  · simp only [beq_self_eq_true, cond_true]
    rw [List.filter_eq_self.2 hall]
  · have hne : (j == -1) = false := by simp; omega
    have hw : w64 (j + 1) = j + 1 := w64_id (by omega) (by omega)
    simp only [hne, cond_false, hw]
    have h15 := loopD_post (f := F15_b0) (fun x => 0 ≤ x.1.2.2.2.1 ∧ x.1.2.2.2.1 ≤ x.1.2.1 ∧ x.1.2.1 ≤ (l.length : Int) ∧ x.2.1.length = l.length ∧ x.2.1.drop x.1.2.1.toNat = l.drop x.1.2.1.toNat ∧ x.2.1.take x.1.2.2.2.1.toNat = (l.take x.1.2.1.toNat).filter good) (fun x => l.length - x.1.2.1.toNat)
      (fun z => 0 ≤ z.1.2.1 ∧ z.1.2.1 ≤ (l.length : Int) ∧ z.2.1.length = l.length ∧ z.2.1.take z.1.2.1.toNat = l.filter good) ?_ (((), j + 1, (), j, ()), (l, ())) ?_ (by simp; omega)
    · obtain ⟨z, hz, p0, p1, p2, p3⟩ := h15
      simp only [hz, Option.bind_some]
      rw [sliceOk_true p0 (by omega) (by simp)]
      simp only [cond_true]
      have hlen : (z.2.1.take z.1.2.1.toNat).length = z.1.2.1.toNat := by rw [List.length_take]; omega
      have hL : (z.2.1.take z.1.2.1.toNat ++ List.replicate ((z.2.1.length : Int).toNat - z.1.2.1.toNat) ((0 : Int), (0 : Int), (0 : Int)) ++ z.2.1.drop (z.1.2.1.toNat + ((z.2.1.length : Int).toNat - z.1.2.1.toNat))).length = l.length := by
        simp only [List.length_append, hlen, List.length_replicate, List.length_drop]; omega
      rw [sliceOk_true (Int.le_refl _) p0 (by rw [hL]; omega)]
      simp only [cond_true, Nat.sub_zero]
      rw [List.append_assoc, List.take_append, hlen, Nat.sub_self, List.take_zero, List.append_nil, List.take_of_length_le (by omega), p3]
    · rintro ⟨⟨_, i, _, k, _⟩, ⟨m, _⟩⟩ ⟨q0, q1, q2, q3, q4, q5⟩
      simp only at q0 q1 q2 q3 q4 q5
      by_cases hi : i < (m.length : Int)
      · have hkl : i.toNat < m.length := by omega
        have hd := drop_at hkl ((0 : Int), (0 : Int), (0 : Int))
        generalize he : m.getD i.toNat ((0 : Int), (0 : Int), (0 : Int)) = e at hd
        have hwi : w64 (i + 1) = i + 1 := w64_id (by omega) (by omega)
        have hti : (i + 1).toNat = i.toNat + 1 := by omega
        have hix := idxOk_true (by omega : 0 ≤ i) hi
        have hlt : l.take (i.toNat + 1) = l.take i.toNat ++ [e] := by
          have hge : l[i.toNat]? = some e := by
            rw [hd] at q4
            have := congrArg List.head? q4
            simpa using this.symm
          rw [List.take_add_one, hge]; rfl
        have hld : m.drop (i.toNat + 1) = l.drop (i.toNat + 1) := by
          have := congrArg (List.drop 1) q4
          simpa [List.drop_drop, Nat.add_comm] using this
        cases hg : good e
        · right
          refine ⟨(((), i + 1, (), k, ()), (m, ())), ⟨q0, by simp only; omega, by simp only; omega, q3, by simp only [hti]; exact hld, ?_⟩, by simp only; omega, fun again K => ?_⟩
          · simp only [hti, hlt, List.filter_append, q5]
            simp [hg]
          · simp only [F15_b0, hi, decide_true, cond_true, hix, he, F17_eq, callF_eq, Option.bind_some, hg, Bool.not_false, Bool.not_true, cond_false, hwi]
        · right
          have hwk : w64 (k + 1) = k + 1 := w64_id (by omega) (by omega)
          have htk : (k + 1).toNat = k.toNat + 1 := by omega
          have hixk := idxOk_true q0 (by omega : k < (m.length : Int))
          refine ⟨(((), i + 1, (), k + 1, ()), (m.set k.toNat e, ())), ⟨by simp only; omega, by simp only; omega, by simp only; omega, by simp [q3], ?_, ?_⟩, by simp only; omega, fun again K => ?_⟩
          · simp only [hti]
            rw [List.drop_set_of_lt (by omega), hld]
          · simp only [hti, htk, hlt, List.filter_append]
            rw [take_set_lt _ _ _ (by omega), q5]
            simp [hg]
          · simp only [F15_b0, hi, decide_true, cond_true, hix, he, F17_eq, callF_eq, Option.bind_some, hg, Bool.not_true, Bool.not_false, hwi, hwk, hixk]
      · left
        refine ⟨(((), k, ()), (m, ())), ⟨q0, by simp only; omega, q3, ?_⟩, fun again K => ?_⟩
        · have : i.toNat = l.length := by omega
          simp only [this, List.take_length] at q5
          exact q5
        · simp only [F15_b0, hi, decide_false, cond_false]
    · refine ⟨h0, by simp only; omega, by simp only; omega, rfl, rfl, ?_⟩
      simp only
      have htj : (j + 1).toNat = j.toNat + 1 := by omega
      have hkl : j.toNat < l.length := by omega
      have hge : l[j.toNat]? = some (l.getD j.toNat (0, 0, 0)) := by simp [hkl]
      rw [htj, List.take_add_one, hge, List.filter_append, List.filter_eq_self.2 hall]
      simp only [Option.toList_some, List.filter_cons, hbad, Bool.false_eq_true, if_false, List.filter_nil, List.append_nil]

/-! ### Join -/
def lastOf (out : List Bd) : Option Bd := out.getLast?
def joinStep (out : List Bd) (b : Bd) : List Bd := match out.getLast? with
  | none => [b]
  | some q => if q.1 = b.1 ∧ b.2.1 ≤ q.2.2 then out.dropLast ++ [(q.1, q.2.1, max q.2.2 b.2.2)] else out ++ [b]
theorem joinStep_len (out : List Bd) (b : Bd) : (joinStep out b).length ≤ out.length + 1 := by
  unfold joinStep
  split
  · simp
  · split
    · simp
    · simp
theorem F7_loop (s : List Bd) (hs : s.length < 1000000) : loopD F7_b0 (((s.length : Int), (), (0 : Int), (), ()), (s, ([] : List Bd), ())) = some (((), ()), (s.foldl joinStep [], ())) := by
  have := loopD_spec (f := F7_b0) (fun x => x.1.1 = (s.length : Int) ∧ x.2.1 = s ∧ 0 ≤ x.1.2.2.1 ∧ x.1.2.2.1 ≤ (s.length : Int) ∧ (x.2.2.1.length : Int) ≤ x.1.2.2.1) (fun x => s.length - x.1.2.2.1.toNat)
    (fun x => (((), ()), ((s.drop x.1.2.2.1.toNat).foldl joinStep x.2.2.1, ()))) ?_ (((s.length : Int), (), (0 : Int), (), ()), (s, [], ())) ⟨rfl, rfl, Int.le_refl _, by simp, by simp⟩ (by simp; omega)
  · simpa using this
  · rintro ⟨⟨n, _, i, _, _⟩, ⟨s', out, _⟩⟩ ⟨hn, hs', h0, h1, h2⟩
    simp only at hn hs' h0 h1 h2
    subst hn
    subst hs'
    by_cases hi : i < (s'.length : Int)
    · right
      have hk : i.toNat < s'.length := by omega
      have hd := drop_at hk ((0 : Int), (0 : Int), (0 : Int))
      generalize he : s'.getD i.toNat ((0 : Int), (0 : Int), (0 : Int)) = e at hd
      have hw : w64 (i + 1) = i + 1 := w64_id (by omega) (by omega)
      have ht : (i + 1).toNat = i.toNat + 1 := by omega
      have hix := idxOk_true h0 hi
      have hjl := joinStep_len out e
      refine ⟨(((s'.length : Int), (), i + 1, (), ()), (s', joinStep out e, ())), ⟨rfl, rfl, by simp only; omega, by simp only; omega, by simp only; omega⟩, by simp only; omega, by simp only [ht, hd, List.foldl_cons], fun again K => ?_⟩
      have hr : roomOk (out.length + [e].length) 24 = true := roomOk_true (by simp; omega)
      have hwl : w64 ((out.length : Int) - 1) = (out.length : Int) - 1 := w64_id (by omega) (by omega)
      rcases List.eq_nil_or_concat out with rfl | ⟨o, q, rfl⟩
      · have hneg : ¬ (-1 : Int) ≥ 0 := by omega
        have hw0 : w64 ((([] : List Bd).length : Int) - 1) = -1 := hwl
        simp only [F7_b0, hi, decide_true, cond_true, hix, he, hw0, hneg, decide_false, cond_false, hr, hw]
        rfl
      · simp only [List.concat_eq_append] at *
        have hge : ((o ++ [q]).length : Int) - 1 ≥ 0 := by simp
        have hixl : idxOk (((o ++ [q]).length : Int) - 1) (o ++ [q]).length = true := idxOk_true hge (by omega)
        have hgq : (o ++ [q]).getD (((o ++ [q]).length : Int) - 1).toNat ((0 : Int), (0 : Int), (0 : Int)) = q := by
          have : (((o ++ [q]).length : Int) - 1).toNat = o.length := by simp
          rw [this]; simp
        have hst : ∀ x : Bd, (o ++ [q]).set (((o ++ [q]).length : Int) - 1).toNat x = o ++ [x] := fun x => by
          have : (((o ++ [q]).length : Int) - 1).toNat = o.length := by simp
          rw [this]; simp
        have hj : joinStep (o ++ [q]) e = if q.1 = e.1 ∧ e.2.1 ≤ q.2.2 then o ++ [(q.1, q.2.1, max q.2.2 e.2.2)] else (o ++ [q]) ++ [e] := by
          simp [joinStep]
        rw [hj]
        simp only [F7_b0, hi, decide_true, cond_true, hix, he, hwl, hge, hixl, hgq, hst, hr, hw, imax_eq]
        by_cases c1 : q.1 = e.1
        · by_cases c2 : e.2.1 ≤ q.2.2
          · rw [if_pos ⟨c1, c2⟩]
            have c1' : (q.1 == e.1) = true := by simpa using c1
            simp only [c1', c2, decide_true, cond_true]
          · rw [if_neg (fun h => c2 h.2)]
            have c1' : (q.1 == e.1) = true := by simpa using c1
            simp only [c1', c2, decide_false, cond_true, cond_false]
        · rw [if_neg (fun h => c1 h.1)]
          have c1' : (q.1 == e.1) = false := by simpa using c1
          simp only [c1', cond_false]
    · left
      intro again K
      have : s'.drop i.toNat = [] := List.drop_eq_nil_of_le (by omega)
      simp [F7_b0, hi, this]
def joined (l : List Bd) : List Bd := (sortB (l.filter good)).foldl joinStep []
theorem F7_eq (l : List Bd) (hl : l.length < 1000000) : F7 (l, ()) = some (joined l, ()) := by
  have hf : (l.filter good).length ≤ l.length := List.length_filter_le _ _
  have hsl : (sortB (l.filter good)).length = (l.filter good).length := by simp [sortB]
  have hp : preClone (l, ()) = true := roomOk_true (by simp; omega)
  have hsz : decide ((l.filter good).length < 4611686018427387904) = true := by simp; omega
  simp only [F7, hp, cond_true, cloneR, F15_eq l hl, callF_eq, Option.bind_some, hsz]
  rw [F7_loop _ (by omega)]
  rfl

/-! ### The law -/
/-- Sorted: by page, top. -/
def leB (x y : Bd) : Prop := x.1 < y.1 ∨ (x.1 = y.1 ∧ x.2.1 ≤ y.2.1)
theorem sortB_sorted (l : List Bd) : (sortB l).Pairwise leB := by
  have h := List.pairwise_mergeSort (le := fun x y : Bd => !(Go.Proofs.ltOf Go.Proofs.Try.cfB) y x) (fun a b c h1 h2 => ?_) (fun a b => ?_) l
  · refine List.Pairwise.imp (fun {a b} hab => ?_) h
    rw [Go.Proofs.Try.ltB] at hab
    unfold leB
    simp at hab
    omega
  · rw [Go.Proofs.Try.ltB] at *
    simp at *
    omega
  · simp only [Go.Proofs.Try.ltB]
    simp
    omega
theorem sortB_mem (l : List Bd) (b : Bd) : b ∈ sortB l ↔ b ∈ l := List.mem_mergeSort
theorem tidy_snoc : ∀ (o : List Bd) (p : Option Bd) (q e : Bd), tidyB p (o ++ [q]) = true → good e = true → okNext q e = true → tidyB p (o ++ [q] ++ [e]) = true
  | [], p, q, e, h, hg, ho => by
    cases p <;> simp_all [tidyB, good]
  | x :: o, p, q, e, h, hg, ho => by
    cases p with
    | none =>
      simp only [List.cons_append, tidyB, Bool.and_eq_true] at h ⊢
      exact ⟨h.1, tidy_snoc o (some x) q e h.2 hg ho⟩
    | some r =>
      simp only [List.cons_append, tidyB, Bool.and_eq_true] at h ⊢
      exact ⟨h.1, tidy_snoc o (some x) q e h.2 hg ho⟩
theorem tidy_last : ∀ (o : List Bd) (p : Option Bd) (q : Bd) (n : Int), tidyB p (o ++ [q]) = true → q.2.2 ≤ n → tidyB p (o ++ [(q.1, q.2.1, n)]) = true
  | [], p, q, n, h, hn => by
    cases p with
    | none => simp_all [tidyB]; omega
    | some r => simp_all [tidyB, okNext]; omega
  | x :: o, p, q, n, h, hn => by
    cases p with
    | none =>
      simp only [List.cons_append, tidyB, Bool.and_eq_true] at h ⊢
      exact ⟨h.1, tidy_last o (some x) q n h.2 hn⟩
    | some r =>
      simp only [List.cons_append, tidyB, Bool.and_eq_true] at h ⊢
      exact ⟨h.1, tidy_last o (some x) q n h.2 hn⟩
theorem inB_append (p y : Int) (a b : List Bd) : inB p y (a ++ b) = (inB p y a || inB p y b) := List.any_append
theorem fold_ok : ∀ (s : List Bd) (o : List Bd) (q : Bd), tidyB none (o ++ [q]) = true → (∀ b ∈ s, good b = true ∧ leB q b) → s.Pairwise leB →
    tidyB none (s.foldl joinStep (o ++ [q])) = true ∧ ∀ p y, inB p y (s.foldl joinStep (o ++ [q])) = (inB p y (o ++ [q]) || inB p y s)
  | [], o, q, h, _, _ => ⟨h, fun p y => by simp [inB]⟩
  | e :: s, o, q, h, hs, hp => by
    obtain ⟨hge, hle⟩ := hs e (List.mem_cons_self ..)
    rw [List.pairwise_cons] at hp
    have hj : joinStep (o ++ [q]) e = if q.1 = e.1 ∧ e.2.1 ≤ q.2.2 then o ++ [(q.1, q.2.1, max q.2.2 e.2.2)] else (o ++ [q]) ++ [e] := by
      simp [joinStep]
    rw [List.foldl_cons, hj]
    have hge' : e.2.1 < e.2.2 := by simpa [good] using hge
    by_cases c : q.1 = e.1 ∧ e.2.1 ≤ q.2.2
    · rw [if_pos c]
      have h2 := fold_ok s o (q.1, q.2.1, max q.2.2 e.2.2) (tidy_last o none q _ h (by omega)) (fun b hb => ⟨(hs b (List.mem_cons_of_mem _ hb)).1, (hs b (List.mem_cons_of_mem _ hb)).2⟩) hp.2
      refine ⟨h2.1, fun p y => ?_⟩
      rw [h2.2 p y, inB_append, inB_append]
      have hqe : inB p y [(q.1, q.2.1, max q.2.2 e.2.2)] = (inB p y [q] || inB p y [e]) := by
        unfold leB at hle
        simp only [inB, List.any_cons, List.any_nil, Bool.or_false]
        by_cases hq : q.1 = p
        · have he : e.1 = p := by omega
          have b1 : (q.1 == p) = true := by simpa using hq
          have b2 : (e.1 == p) = true := by simpa using he
          rw [b1, b2]
          simp only [Bool.true_and]
          rw [Bool.eq_iff_iff]
          simp
          omega
        · have he : e.1 ≠ p := by omega
          have b1 : (q.1 == p) = false := by simpa using hq
          have b2 : (e.1 == p) = false := by simpa using he
          rw [b1, b2]; simp
      rw [hqe]
      rw [show e :: s = [e] ++ s from rfl, inB_append]
      simp only [Bool.or_assoc]
    · rw [if_neg c]
      have hok : okNext q e = true := by
        unfold leB at hle
        simp only [okNext, Bool.and_eq_true, Bool.not_eq_true', decide_eq_false_iff_not]
        refine ⟨by omega, ?_⟩
        cases hb : (e.1 == q.1 && decide (e.2.1 ≤ q.2.2))
        · rfl
        · simp at hb; omega
      have h2 := fold_ok s (o ++ [q]) e (tidy_snoc o none q e h hge hok) (fun b hb => ⟨(hs b (List.mem_cons_of_mem _ hb)).1, hp.1 b hb⟩) hp.2
      refine ⟨h2.1, fun p y => ?_⟩
      have hes : inB p y (e :: s) = (inB p y [e] || inB p y s) := inB_append p y [e] s
      rw [h2.2 p y, inB_append, hes]
      simp only [Bool.or_assoc]
theorem joined_ok (l : List Bd) : tidyB none (joined l) = true ∧ ∀ p y, inB p y (joined l) = inB p y l := by
  have hgood : ∀ b ∈ sortB (l.filter good), good b = true := fun b hb => by
    rw [sortB_mem] at hb
    exact (List.mem_filter.1 hb).2
  have hin : ∀ p y, inB p y (sortB (l.filter good)) = inB p y l := fun p y => by
    rw [Bool.eq_iff_iff]
    simp only [inB, List.any_eq_true]
    constructor
    · rintro ⟨b, hb, h⟩
      rw [sortB_mem] at hb
      exact ⟨b, (List.mem_filter.1 hb).1, h⟩
    · rintro ⟨b, hb, h⟩
      refine ⟨b, ?_, h⟩
      rw [sortB_mem, List.mem_filter]
      refine ⟨hb, ?_⟩
      simp at h
      simp [good]; omega
  have hsorted := sortB_sorted (l.filter good)
  unfold joined
  cases hs : sortB (l.filter good) with
  | nil =>
    refine ⟨rfl, fun p y => ?_⟩
    rw [← hin p y, hs]; rfl
  | cons e s =>
    rw [hs] at hgood hsorted
    rw [List.pairwise_cons] at hsorted
    have he : good e = true := hgood e (List.mem_cons_self ..)
    have h0 : joinStep [] e = [] ++ [e] := rfl
    rw [List.foldl_cons, h0]
    have h2 := fold_ok s [] e (by simpa [tidyB, good] using he) (fun b hb => ⟨hgood b (List.mem_cons_of_mem _ hb), hsorted.1 b hb⟩) hsorted.2
    refine ⟨h2.1, fun p y => ?_⟩
    have hes : inB p y (e :: s) = (inB p y [e] || inB p y s) := inB_append p y [e] s
    rw [h2.2 p y, ← hin p y, hs, hes, List.nil_append]
theorem joined_len (l : List Bd) : (joined l).length ≤ l.length := by
  have h : ∀ (s o : List Bd), (s.foldl joinStep o).length ≤ o.length + s.length := by
    intro s
    induction s with
    | nil => intro o; simp
    | cons e s ih =>
      intro o
      have := ih (joinStep o e)
      have := joinStep_len o e
      simp only [List.foldl_cons, List.length_cons]
      omega
  have h1 := h (sortB (l.filter good)) []
  have hf : (l.filter good).length ≤ l.length := List.length_filter_le _ _
  have hsl : (sortB (l.filter good)).length = (l.filter good).length := by simp [sortB]
  unfold joined
  simp at h1
  omega

/-- **Bands joined are the same heights, in order, none touching another one.** -/
theorem PaintJoins_true (x : List Bd × Int × Int × Unit) : F3 x = some (true, ()) := by
  obtain ⟨l, p, y, u⟩ := x
  simp only [F3, awakeR, Bool.not_true, cond_false]
  by_cases hl : (l.length : Int) > 200
  · simp only [hl, decide_true, cond_true]
  · have hl' : l.length < 1000000 := by omega
    have hj := joined_len l
    have hok := joined_ok l
    simp only [hl, decide_false, cond_false, F7_eq l hl', callF_eq, Option.bind_some, F6_eq _ (by omega : (joined l).length < 1000000), F8_eq _ (by omega : (joined l).length < 1000000), F9_eq _ p y (by omega : (joined l).length < 1000000), F6_eq l hl', F9_eq l p y hl', hok.1, cond_true, hok.2 p y, beq_self_eq_true]
end AM.T
