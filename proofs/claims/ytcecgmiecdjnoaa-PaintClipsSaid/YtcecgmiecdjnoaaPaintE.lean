/- The plain law of the bands clipped. -/
import Derived.Test.YtcecgmiecdjnoaaPaintC
set_option linter.unusedVariables false
set_option linter.unusedSimpArgs false
namespace AM.T
open Go AM

def interB (a b : Bd) : Option Bd := if a.1 = b.1 ∧ max a.2.1 b.2.1 < min a.2.2 b.2.2 then some (a.1, max a.2.1 b.2.1, min a.2.2 b.2.2) else none
theorem F10_inner (B A : List Bd) (e : Bd) (out : List Bd) (i n : Int) (l : List Bd) (hs : out.length + B.length < 1000000) :
    loopD F10_b1 (((B.length : Int), (), (), (0 : Int), i, n, (), l, (), ()), (B, (e.1, e.2.1, e.2.2, ()), A, out, ())) = some ((i, n, (), l, (), ()), (A, out ++ B.filterMap (interB e), ())) := by
  have := loopD_spec (f := F10_b1) (fun x => x.1.1 = (B.length : Int) ∧ 0 ≤ x.1.2.2.2.1 ∧ x.1.2.2.2.1 ≤ (B.length : Int) ∧ x.1.2.2.2.2.1 = i ∧ x.1.2.2.2.2.2.1 = n ∧ x.1.2.2.2.2.2.2.2.1 = l ∧ x.2.1 = B ∧ x.2.2.1 = (e.1, e.2.1, e.2.2, ()) ∧ x.2.2.2.1 = A ∧ (x.2.2.2.2.1.length : Int) ≤ out.length + x.1.2.2.2.1) (fun x => B.length - x.1.2.2.2.1.toNat)
    (fun x => ((i, n, (), l, (), ()), (A, x.2.2.2.2.1 ++ (B.drop x.1.2.2.2.1.toNat).filterMap (interB e), ()))) ?_ (((B.length : Int), (), (), (0 : Int), i, n, (), l, (), ()), (B, (e.1, e.2.1, e.2.2, ()), A, out, ())) ⟨rfl, Int.le_refl _, by simp, rfl, rfl, rfl, rfl, rfl, rfl, by simp⟩ (by simp; omega)
  · simpa using this
  · rintro ⟨⟨nn, _, _, k, i', n', _, l', _, _⟩, ⟨B', e', A', m, _⟩⟩ ⟨h1, h2, h3, h4, h5, h6, h7, h8, h9, h10⟩
    simp only at h1 h2 h3 h4 h5 h6 h7 h8 h9 h10
    subst h1 h4 h5 h6 h7 h8 h9
    by_cases hk : k < (B'.length : Int)
    · right
      have hkn : k.toNat < B'.length := by omega
      have hd := drop_at hkn ((0 : Int), (0 : Int), (0 : Int))
      generalize hb : B'.getD k.toNat ((0 : Int), (0 : Int), (0 : Int)) = b at hd
      have hw : w64 (k + 1) = k + 1 := w64_id (by omega) (by omega)
      have ht : (k + 1).toNat = k.toNat + 1 := by omega
      have hix := idxOk_true h2 hk
      by_cases c1 : e.1 = b.1
      · have c1' : (e.1 != b.1) = false := by simpa using c1
        by_cases c2 : max e.2.1 b.2.1 < min e.2.2 b.2.2
        · have hi : interB e b = some (e.1, max e.2.1 b.2.1, min e.2.2 b.2.2) := by unfold interB; rw [if_pos ⟨c1, c2⟩]
          have hr : roomOk (m.length + [((e.1, max e.2.1 b.2.1, min e.2.2 b.2.2) : Bd)].length) 24 = true := roomOk_true (by simp; omega)
          refine ⟨(((B'.length : Int), (), (), k + 1, i', n', (), l', (), ()), (B', (e.1, e.2.1, e.2.2, ()), A', m ++ [(e.1, max e.2.1 b.2.1, min e.2.2 b.2.2)], ())), ⟨rfl, by simp only; omega, by simp only; omega, rfl, rfl, rfl, rfl, rfl, rfl, by simp; omega⟩, by simp only; omega, ?_, fun again K => ?_⟩
          · simp only [ht, hd, List.filterMap_cons, hi, List.append_assoc, List.singleton_append]
          · simp only [F10_b1, hk, decide_true, cond_true, hix, hb, c1', cond_false, imax_eq, imin_eq, c2, hr, hw]
        · have hi : interB e b = none := by unfold interB; rw [if_neg (fun h => c2 h.2)]
          refine ⟨(((B'.length : Int), (), (), k + 1, i', n', (), l', (), ()), (B', (e.1, e.2.1, e.2.2, ()), A', m, ())), ⟨rfl, by simp only; omega, by simp only; omega, rfl, rfl, rfl, rfl, rfl, rfl, by simp only; omega⟩, by simp only; omega, ?_, fun again K => ?_⟩
          · simp only [ht, hd, List.filterMap_cons, hi]
          · simp only [F10_b1, hk, decide_true, cond_true, hix, hb, c1', cond_false, imax_eq, imin_eq, c2, decide_false, hw]
      · have c1' : (e.1 != b.1) = true := by simpa using c1
        have hi : interB e b = none := by unfold interB; rw [if_neg (fun h => c1 h.1)]
        refine ⟨(((B'.length : Int), (), (), k + 1, i', n', (), l', (), ()), (B', (e.1, e.2.1, e.2.2, ()), A', m, ())), ⟨rfl, by simp only; omega, by simp only; omega, rfl, rfl, rfl, rfl, rfl, rfl, by simp only; omega⟩, by simp only; omega, ?_, fun again K => ?_⟩
        · simp only [ht, hd, List.filterMap_cons, hi]
        · simp only [F10_b1, hk, decide_true, cond_true, hix, hb, c1', hw]
    · left
      intro again K
      have : B'.drop k.toNat = [] := List.drop_eq_nil_of_le (by omega)
      simp [F10_b1, hk, this]
def clipB (A B : List Bd) : List Bd := A.flatMap fun a => B.filterMap (interB a)
theorem F10_outer (A l : List Bd) (hA : A.length ≤ 100) (hl : l.length ≤ 100) :
    loopD F10_b0 (((A.length : Int), (), l, (0 : Int), (), ()), (A, ([] : List Bd), ())) = some (((), ()), (clipB A (joined l), ())) := by
  have hj := joined_len l
  have := loopD_spec (f := F10_b0) (fun x => x.1.1 = (A.length : Int) ∧ x.1.2.2.1 = l ∧ 0 ≤ x.1.2.2.2.1 ∧ x.1.2.2.2.1 ≤ (A.length : Int) ∧ x.2.1 = A ∧ (x.2.2.1.length : Int) ≤ 100 * x.1.2.2.2.1) (fun x => A.length - x.1.2.2.2.1.toNat)
    (fun x => (((), ()), (x.2.2.1 ++ clipB (A.drop x.1.2.2.2.1.toNat) (joined l), ()))) ?_ (((A.length : Int), (), l, (0 : Int), (), ()), (A, [], ())) ⟨rfl, rfl, Int.le_refl _, by simp, rfl, by simp⟩ (by simp; omega)
  · simpa using this
  · rintro ⟨⟨nn, _, l', i, _, _⟩, ⟨A', m, _⟩⟩ ⟨h1, h2, h3, h4, h5, h6⟩
    simp only at h1 h2 h3 h4 h5 h6
    subst h1 h2 h5
    by_cases hi : i < (A'.length : Int)
    · right
      have hk : i.toNat < A'.length := by omega
      have hd := drop_at hk ((0 : Int), (0 : Int), (0 : Int))
      generalize he : A'.getD i.toNat ((0 : Int), (0 : Int), (0 : Int)) = e at hd
      have hw : w64 (i + 1) = i + 1 := w64_id (by omega) (by omega)
      have ht : (i + 1).toNat = i.toNat + 1 := by omega
      have hix := idxOk_true h3 hi
      have hfl : ((joined l').filterMap (interB e)).length ≤ (joined l').length := List.length_filterMap_le _ _
      refine ⟨(((A'.length : Int), (), l', i + 1, (), ()), (A', m ++ (joined l').filterMap (interB e), ())), ⟨rfl, rfl, by simp only; omega, by simp only; omega, rfl, by simp; omega⟩, by simp only; omega, ?_, fun again K => ?_⟩
      · simp only [ht, hd, clipB, List.flatMap_cons, List.append_assoc]
      · simp only [F10_b0, hi, decide_true, cond_true, hix, he, F7_eq l' (by omega), callF_eq, Option.bind_some]
        rw [F10_inner (joined l') A' e m i _ l' (by omega)]
        simp only [Option.bind_some, hw]
    · left
      intro again K
      have : A'.drop i.toNat = [] := List.drop_eq_nil_of_le (by omega)
      simp [F10_b0, hi, this, clipB]
theorem F10_eq (a l : List Bd) (ha : a.length ≤ 100) (hl : l.length ≤ 100) : F10 (a, l, ()) = some (clipB (joined a) (joined l), ()) := by
  have hj := joined_len a
  simp only [F10, F7_eq a (by omega), callF_eq, Option.bind_some, F10_outer (joined a) l (by omega) hl]

/-! ### The law -/
def sepB (x y : Bd) : Prop := x.1 < y.1 ∨ (x.1 = y.1 ∧ x.2.2 < y.2.1)
theorem okNext_sep (q e : Bd) : okNext q e = true ↔ sepB q e := by
  unfold okNext sepB
  cases h : (e.1 == q.1 && decide (e.2.1 ≤ q.2.2))
  · simp at h ⊢; omega
  · simp at h ⊢; omega
theorem tidy_some : ∀ (l : List Bd) (q : Bd), tidyB (some q) l = true → good q = true → (∀ b ∈ l, good b = true) ∧ l.Pairwise sepB ∧ ∀ b ∈ l, sepB q b
  | [], q, h, hq => ⟨fun b hb => by simp at hb, List.Pairwise.nil, fun b hb => by simp at hb⟩
  | e :: r, q, h, hq => by
    simp only [tidyB, Bool.and_eq_true, okNext_sep] at h
    have hg : good e = true := h.1.1
    obtain ⟨h1, h2, h3⟩ := tidy_some r e h.2 hg
    refine ⟨fun b hb => ?_, List.Pairwise.cons h3 h2, fun b hb => ?_⟩
    · rcases List.mem_cons.1 hb with rfl | hb
      · exact hg
      · exact h1 b hb
    · rcases List.mem_cons.1 hb with rfl | hb
      · exact h.1.2
      · have a1 := h.1.2
        have a2 := h3 b hb
        have a3 : e.2.1 < e.2.2 := by simpa [good] using hg
        unfold sepB at *
        omega
theorem tidy_pair {l : List Bd} (h : tidyB none l = true) : (∀ b ∈ l, good b = true) ∧ l.Pairwise sepB := by
  cases l with
  | nil => exact ⟨fun b hb => by simp at hb, List.Pairwise.nil⟩
  | cons e r =>
    simp only [tidyB, Bool.and_eq_true] at h
    obtain ⟨h1, h2, h3⟩ := tidy_some r e h.2 h.1
    exact ⟨fun b hb => by
      rcases List.mem_cons.1 hb with rfl | hb
      · exact h.1
      · exact h1 b hb, List.Pairwise.cons h3 h2⟩
theorem pair_some : ∀ (l : List Bd) (q : Bd), (∀ b ∈ l, good b = true) → (q :: l).Pairwise sepB → tidyB (some q) l = true
  | [], q, _, _ => rfl
  | e :: r, q, hg, hp => by
    rw [List.pairwise_cons] at hp
    simp only [tidyB, Bool.and_eq_true, okNext_sep]
    exact ⟨⟨hg e (List.mem_cons_self ..), hp.1 e (List.mem_cons_self ..)⟩, pair_some r e (fun b hb => hg b (List.mem_cons_of_mem _ hb)) hp.2⟩
theorem pair_tidy {l : List Bd} (hg : ∀ b ∈ l, good b = true) (hp : l.Pairwise sepB) : tidyB none l = true := by
  cases l with
  | nil => rfl
  | cons e r =>
    simp only [tidyB, Bool.and_eq_true]
    exact ⟨hg e (List.mem_cons_self ..), pair_some r e (fun b hb => hg b (List.mem_cons_of_mem _ hb)) hp⟩
theorem inter_some {a b c : Bd} (h : interB a b = some c) : a.1 = b.1 ∧ max a.2.1 b.2.1 < min a.2.2 b.2.2 ∧ c = (a.1, max a.2.1 b.2.1, min a.2.2 b.2.2) := by
  unfold interB at h
  split at h
  · rename_i hc
    exact ⟨hc.1, hc.2, (Option.some.inj h).symm⟩
  · cases h
theorem clip_tidy (A B : List Bd) (hA : tidyB none A = true) (hB : tidyB none B = true) : tidyB none (clipB A B) = true := by
  obtain ⟨a1, a2⟩ := tidy_pair hA
  obtain ⟨b1, b2⟩ := tidy_pair hB
  refine pair_tidy (fun c hc => ?_) ?_
  · obtain ⟨a, ha, hc⟩ := List.mem_flatMap.1 hc
    obtain ⟨b, hb, hc⟩ := List.mem_filterMap.1 hc
    obtain ⟨h1, h2, rfl⟩ := inter_some hc
    simpa [good] using h2
  · unfold clipB
    rw [List.pairwise_flatMap]
    refine ⟨fun a ha => ?_, ?_⟩
    · rw [List.pairwise_filterMap]
      refine List.Pairwise.imp (fun {x y} hxy c hc c' hc' => ?_) b2
      obtain ⟨h1, h2, rfl⟩ := inter_some hc
      obtain ⟨h1', h2', rfl⟩ := inter_some hc'
      have e1 : x.1 = y.1 := h1.symm.trans h1'
      have e2 : x.2.2 < y.2.1 := by
        unfold sepB at hxy
        omega
      exact .inr ⟨rfl, by show min a.2.2 x.2.2 < max a.2.1 y.2.1; omega⟩
    · refine List.Pairwise.imp (fun {x y} hxy c hc c' hc' => ?_) a2
      obtain ⟨b, hb, hc⟩ := List.mem_filterMap.1 hc
      obtain ⟨b', hb', hc'⟩ := List.mem_filterMap.1 hc'
      obtain ⟨h1, h2, rfl⟩ := inter_some hc
      obtain ⟨h1', h2', rfl⟩ := inter_some hc'
      rcases hxy with h | ⟨h, h3⟩
      · exact .inl h
      · exact .inr ⟨h, by show min x.2.2 b.2.2 < max y.2.1 b'.2.1; omega⟩
theorem clip_in (A B : List Bd) (p y : Int) : inB p y (clipB A B) = (inB p y A && inB p y B) := by
  rw [Bool.eq_iff_iff]
  simp only [inB, List.any_eq_true, Bool.and_eq_true]
  constructor
  · rintro ⟨c, hc, h⟩
    obtain ⟨a, ha, hc⟩ := List.mem_flatMap.1 hc
    obtain ⟨b, hb, hc⟩ := List.mem_filterMap.1 hc
    obtain ⟨h1, h2, rfl⟩ := inter_some hc
    simp at h
    refine ⟨⟨a, ha, ?_⟩, ⟨b, hb, ?_⟩⟩
    · simp; omega
    · simp; omega
  · rintro ⟨⟨a, ha, h⟩, ⟨b, hb, h'⟩⟩
    simp at h h'
    refine ⟨(a.1, max a.2.1 b.2.1, min a.2.2 b.2.2), List.mem_flatMap.2 ⟨a, ha, List.mem_filterMap.2 ⟨b, hb, ?_⟩⟩, ?_⟩
    · unfold interB
      rw [if_pos ⟨by omega, by omega⟩]
    · simp; omega
theorem clip_len (A B : List Bd) : (clipB A B).length ≤ A.length * B.length := by
  unfold clipB
  induction A with
  | nil => simp
  | cons a r ih =>
    have := List.length_filterMap_le (interB a) B
    simp only [List.flatMap_cons, List.length_append, List.length_cons, Nat.succ_mul]
    omega

/-- **Bands clipped by others are the heights in both.** -/
theorem PaintClips_true (x : List Bd × List Bd × List Int × Unit) : F4 x = some (true, ()) := by
  obtain ⟨a, l, at_, u⟩ := x
  simp only [F4, awakeR, Bool.not_true, cond_false]
  by_cases ha : (a.length : Int) > 100
  · simp only [ha, decide_true, cond_true]
  · by_cases hl : (l.length : Int) > 100
    · simp only [ha, hl, decide_true, decide_false, cond_true, cond_false]
    · have ha' : a.length ≤ 100 := by omega
      have hl' : l.length ≤ 100 := by omega
      have ja := joined_len a
      have jl := joined_len l
      have hcl := clip_len (joined a) (joined l)
      have hm : (joined a).length * (joined l).length ≤ 100 * 100 := Nat.mul_le_mul (by omega) (by omega)
      have hc : (clipB (joined a) (joined l)).length < 1000000 := by omega
      have ht := clip_tidy (joined a) (joined l) (joined_ok a).1 (joined_ok l).1
      simp only [ha, hl, decide_false, cond_false, F10_eq a l ha' hl', callF_eq, Option.bind_some, F6_eq _ hc, F8_eq _ hc, ht, cond_true, F9_eq _ _ _ hc, F6_eq a (by omega : a.length < 1000000), F9_eq a _ _ (by omega : a.length < 1000000), F6_eq l (by omega : l.length < 1000000), F9_eq l _ _ (by omega : l.length < 1000000), clip_in, (joined_ok a).2, (joined_ok l).2]
      generalize inB (at_.getD 0 0) (at_.getD 1 0) a = p
      generalize inB (at_.getD 0 0) (at_.getD 1 0) l = q
      cases p <;> cases q <;> rfl
end AM.T
