/- The abstract machine: a state written out anew. -/
import Derived.Test.YtcecgmiecdjnoaaAmB
import Derived.Scope
import Derived.Shelf.SlSortCmp.NoneTotal
import Derived.Deep.Slices
import Derived.OpenShut
import Derived.WideShapes
import Derived.ChangeOld
import Derived.Below
set_option linter.unusedVariables false
set_option linter.unusedSimpArgs false
namespace AM
open Go

/-! ### 1. What is kept of a state -/
structure Cx.leO (l : List Nat) (x x' : Cx) : Prop where
  ok : ∀ g, x.ok g → x'.ok g
  w : x'.w = x.w
  alike : ∀ c, hasN l c = true → Alike (x.mem c) (x.loc c) (x'.mem c) (x'.loc c)

mutual
theorem VR_only {x x' : Cx} {l : List Nat} (h : x.leO l x') : ∀ (v : V) (u : Value), VR x v u → VR x' (only l v) u
  | .junk, _, _ => trivial
  | .int _ _, _, e => e
  | .bool _, _, e => e
  | .str _, _, e => e
  | .agg cs, _, ⟨us, e, hs, h1⟩ => ⟨us, e, VRs_only h cs us hs, h1⟩
  | .im e xs, _, hr => RdC.mono h.ok (fun a u _ hc => by rw [h.w]; exact hc) (.slice e) hr
  | .own c, u, ⟨e, ha⟩ => by
    simp only [only, okN]
    cases hc : hasN l c
    · trivial
    · obtain ⟨hl, ha'⟩ := (h.alike c hc).isArr ha
      exact ⟨by rw [e, hl], ha'⟩
  | .ownsub c off len, u, hv => by
    simp only [only, okN]
    cases hc : hasN l c
    · trivial
    · obtain ⟨t, e, xs, A, n, c', hm', hl, hle, rest⟩ := hv
      obtain ⟨hl', xs', hm'', hn⟩ := (h.alike c hc).arr hm'
      exact ⟨t, e, xs', A, n, c', hm'', by rw [hl', hl], by omega, rest⟩
  | .ptr c off, u, hv => by
    simp only [only, okN]
    cases hc : hasN l c
    · trivial
    · obtain ⟨hcc, g, hl, e⟩ := hv
      obtain ⟨hl', hc'⟩ := (h.alike c hc).isCell hcc
      exact ⟨hc', g, by rw [hl', hl], e⟩
  | .elt c i p, u, hv => by
    simp only [only, okN]
    cases hc : hasN l c
    · trivial
    · obtain ⟨t, e, xs, g, n, c', hm', hi, hl, hp, he⟩ := hv
      obtain ⟨hl', xs', hm'', hn⟩ := (h.alike c hc).arr hm'
      exact ⟨t, e, xs', g, n, c', hm'', by omega, by rw [hl', hl], hp, he⟩
  | .at_ e y, _, ⟨a, vs, hu, ho, hr, hc⟩ => ⟨a, vs, hu, h.ok _ ho, RdC.mono h.ok (fun a u _ hc => by rw [h.w]; exact hc) e hr, fun j u hj => by rw [h.w]; exact hc j u hj⟩
  | .nilp, _, e => e
  | .nils, _, e => e
  | .fn f cs, _, ⟨us, e, hs⟩ => ⟨us, e, VRs_only h cs us hs⟩
  | .tuple cs, _, ⟨us, e, hs⟩ => ⟨us, e, VRs_only h cs us hs⟩
theorem VRs_only {x x' : Cx} {l : List Nat} (h : x.leO l x') : ∀ (vs : List V) (us : List Value), VRs x vs us → VRs x' (onlys l vs) us
  | [], _, e => e
  | v :: r, _, ⟨u, q, e, hv, hr⟩ => ⟨u, q, e, VR_only h v u hv, VRs_only h r q hr⟩
end

section
variable {P : Program} {F : Fr} {s q : St} {loc : Nat → Value} {a : Act} {w : World}

theorem RelL.only (h : RelL F s loc a w) {l : List Nat} (he : ∀ i, q.env i = .junk ∨ q.env i = AM.only l (s.env i)) (hm : ∀ b, q.mem b = .dead ∨ q.mem b = onlyB l (s.mem b)) (hl : ∀ b, hasN l b = true → q.mem b = onlyB l (s.mem b)) : RelL F q loc a w := by
  have hlive : ∀ b, live q.mem b → live s.mem b := fun b hb e => hb (by
    rcases hm b with h1 | h1
    · exact h1
    · rw [h1, e]; rfl)
  have hok : ∀ g, okOf F s.mem loc w g → okOf F q.mem loc w g := fun g hg => ⟨hg.1, fun ⟨b, hb, hbg⟩ => hg.2 ⟨b, hlive b hb, hbg⟩⟩
  have hle : (cxOf F s loc w).leO l (cxOf F q loc w) := ⟨hok, rfl, fun c hc => by
    show Alike (s.mem c) (loc c) (q.mem c) (loc c)
    rw [hl c hc]
    cases hmm : s.mem c with
    | dead => exact .inl rfl
    | arr t e xs => exact .inr ⟨rfl, rfl, rfl, rfl⟩
    | cells t cs => exact .inr ⟨rfl, trivial⟩
    | iter t p => exact .inr ⟨rfl, trivial⟩⟩
  refine ⟨fun b => ?_, fun b b' g hb hb' hg hg' => h.inj b b' g (hlive b hb) (hlive b' hb') hg hg', fun b g hb hg => h.low b g (hlive b hb) hg, fun k => ?_, h.size, h.defers, h.kept⟩
  · rcases hm b with h1 | h1
    · rw [h1]; trivial
    · rw [h1]
      have hb := h.blk b
      cases hmm : s.mem b with
      | dead => trivial
      | cells t cs =>
        rw [hmm] at hb
        obtain ⟨g, us, e, hg, hs, h1⟩ := hb
        exact ⟨g, us, e, hg, VRs_only hle _ _ hs, h1⟩
      | arr t e xs =>
        rw [hmm] at hb
        obtain ⟨flat, ho, he⟩ := hb
        exact ⟨flat, ho, Els.mono (fun y q => RdC.mono hok (fun _ _ _ hc => hc) e) he⟩
      | iter t p => rw [hmm] at hb; exact hb
  · rcases he k with h1 | h1
    · rw [h1]; trivial
    · rw [h1]; exact VR_only hle _ _ (h.env k)

/-! ### 2. A slice of the frame's own takes another name -/
structure Cx.leR (b c : Nat) (x x' : Cx) : Prop where
  ok : ∀ g, x.ok g → x'.ok g
  w : x'.w = x.w
  alike : ∀ d, d ≠ b → Alike (x.mem d) (x.loc d) (x'.mem d) (x'.loc d)
  here : x'.mem c = x.mem b ∧ x'.loc c = x.loc b

mutual
theorem VR_ren {x x' : Cx} {b c : Nat} (h : x.leR b c x') : ∀ (v : V) (u : Value), VR x v u → VR x' (ren b c v) u
  | .junk, _, _ => trivial
  | .int _ _, _, e => e
  | .bool _, _, e => e
  | .str _, _, e => e
  | .agg cs, _, ⟨us, e, hs, h1⟩ => ⟨us, e, VRs_ren h cs us hs, h1⟩
  | .im e xs, _, hr => RdC.mono h.ok (fun a u _ hc => by rw [h.w]; exact hc) (.slice e) hr
  | .own d, u, ⟨e, ha⟩ => by
    simp only [ren]
    by_cases hd : d = b
    · subst hd
      rw [beq_self]
      exact ⟨by rw [e, h.here.2], by rw [h.here.1]; exact ha⟩
    · rw [beq_ne hd]
      obtain ⟨hl, ha'⟩ := (h.alike d hd).isArr ha
      exact ⟨by rw [e, hl], ha'⟩
  | .ownsub d off len, u, hv => by
    simp only [ren]
    obtain ⟨t, e, xs, A, n, c', hm', hl, hle, rest⟩ := hv
    by_cases hd : d = b
    · subst hd
      rw [beq_self]
      exact ⟨t, e, xs, A, n, c', by rw [h.here.1, hm'], by rw [h.here.2, hl], hle, rest⟩
    · rw [beq_ne hd]
      obtain ⟨hl', xs', hm'', hn⟩ := (h.alike d hd).arr hm'
      exact ⟨t, e, xs', A, n, c', hm'', by rw [hl', hl], by omega, rest⟩
  | .ptr d off, u, hv => by
    simp only [ren]
    by_cases hd : d = b
    · subst hd; rw [beq_self]; trivial
    · rw [beq_ne hd]
      obtain ⟨hcc, g, hl, e⟩ := hv
      obtain ⟨hl', hc'⟩ := (h.alike d hd).isCell hcc
      exact ⟨hc', g, by rw [hl', hl], e⟩
  | .elt d i p, u, hv => by
    simp only [ren]
    by_cases hd : d = b
    · subst hd; rw [beq_self]; trivial
    · rw [beq_ne hd]
      obtain ⟨t, e, xs, g, n, c', hm', hi, hl, hp, he⟩ := hv
      obtain ⟨hl', xs', hm'', hn⟩ := (h.alike d hd).arr hm'
      exact ⟨t, e, xs', g, n, c', hm'', by omega, by rw [hl', hl], hp, he⟩
  | .at_ e y, _, ⟨a, vs, hu, ho, hr, hc⟩ => ⟨a, vs, hu, h.ok _ ho, RdC.mono h.ok (fun a u _ hc => by rw [h.w]; exact hc) e hr, fun j u hj => by rw [h.w]; exact hc j u hj⟩
  | .nilp, _, e => e
  | .nils, _, e => e
  | .fn f cs, _, ⟨us, e, hs⟩ => ⟨us, e, VRs_ren h cs us hs⟩
  | .tuple cs, _, ⟨us, e, hs⟩ => ⟨us, e, VRs_ren h cs us hs⟩
theorem VRs_ren {x x' : Cx} {b c : Nat} (h : x.leR b c x') : ∀ (vs : List V) (us : List Value), VRs x vs us → VRs x' (rens b c vs) us
  | [], _, e => e
  | v :: r, _, ⟨u, q, e, hv, hr⟩ => ⟨u, q, e, VR_ren h v u hv, VRs_ren h r q hr⟩
end

theorem RelL.rename (h : RelL F s loc a w) {b k : Nat} (hbk : b ≠ k) (hk : s.mem k = .dead) (hba : isArr (s.mem b)) :
    RelL F { env := fun i => ren b k (s.env i), mem := upd (upd (fun c => renB b k (s.mem c)) k (s.mem b)) b .dead } (upd loc k (loc b)) a w := by
  generalize hq : ({ env := fun i => ren b k (s.env i), mem := upd (upd (fun c => renB b k (s.mem c)) k (s.mem b)) b .dead } : St) = q
  have hqe : ∀ i, q.env i = ren b k (s.env i) := fun i => by rw [← hq]
  have hqb : q.mem b = .dead := by rw [← hq]; exact upd_same _ _ _
  have hqk : q.mem k = s.mem b := by
    rw [← hq]
    show upd (upd (fun c => renB b k (s.mem c)) k _) b .dead k = _
    rw [upd_other _ _ _ (Ne.symm hbk), upd_same]
  have hqo : ∀ c, c ≠ b → c ≠ k → q.mem c = renB b k (s.mem c) := fun c h1 h2 => by
    rw [← hq]
    show upd (upd (fun c => renB b k (s.mem c)) k _) b .dead c = _
    rw [upd_other _ _ _ h1, upd_other _ _ _ h2]
  have hdead : ∀ m, renB b k m = .dead ↔ m = .dead := fun m => by cases m <;> simp [renB]
  have hlk : upd loc k (loc b) k = loc b := upd_same _ _ _
  have hlo : ∀ c, c ≠ k → upd loc k (loc b) c = loc c := fun c hc => upd_other _ _ _ hc
  have hlb : live s.mem b := fun e => by rw [e] at hba; exact hba
  have hsrc : ∀ c, live q.mem c → ∃ d, live s.mem d ∧ upd loc k (loc b) c = loc d ∧ (c = k → d = b) ∧ (c ≠ k → d = c ∧ c ≠ b) := fun c hc => by
    by_cases hcb : c = b
    · subst hcb; exact absurd hqb hc
    · by_cases hck : c = k
      · subst hck
        exact ⟨b, hlb, hlk, fun _ => rfl, fun e => absurd rfl e⟩
      · exact ⟨c, fun e => hc (by rw [hqo c hcb hck, (hdead _).2 e]), hlo c hck, fun e => absurd e hck, fun _ => ⟨rfl, hcb⟩⟩
  have hok : ∀ g, okOf F s.mem loc w g → okOf F q.mem (upd loc k (loc b)) w g := fun g hg => ⟨hg.1, fun ⟨c, hc, hcg⟩ => by
    obtain ⟨d, hd, hld, _⟩ := hsrc c hc
    exact hg.2 ⟨d, hd, by rw [← hld]; exact hcg⟩⟩
  have hle : (cxOf F s loc w).leR b k (cxOf F q (upd loc k (loc b)) w) := ⟨hok, rfl, fun d hd => by
    show Alike (s.mem d) (loc d) (q.mem d) (upd loc k (loc b) d)
    by_cases hdk : d = k
    · subst hdk; rw [hk]; exact .inl rfl
    · rw [hqo d hd hdk, hlo d hdk]
      cases hmm : s.mem d with
      | dead => exact .inl rfl
      | arr t e xs => exact .inr ⟨rfl, rfl, rfl, rfl⟩
      | cells t cs => exact .inr ⟨rfl, trivial⟩
      | iter t p => exact .inr ⟨rfl, trivial⟩, ⟨hqk, hlk⟩⟩
  refine ⟨fun c => ?_, fun c c' g hc hc' hg hg' => ?_, fun c g hc hg => ?_, fun i => by rw [hqe]; exact VR_ren hle _ _ (h.env i), h.size, h.defers, h.kept⟩
  · by_cases hcb : c = b
    · subst hcb; rw [hqb]; trivial
    · by_cases hck : c = k
      · subst hck
        rw [hqk]
        have hb := h.blk b
        cases hmm : s.mem b with
        | arr t e xs =>
          rw [hmm] at hb
          obtain ⟨flat, ho, he⟩ := hb
          refine ⟨flat, ?_, Els.mono (fun y q => RdC.mono hok (fun _ _ _ hc => hc) e) he⟩
          show w.ownsRow 0 t e.size (upd loc c (loc b) c) xs.length flat
          rw [hlk]; exact ho
        | _ => rw [hmm] at hba; exact hba.elim
      · rw [hqo c hcb hck]
        have hb := h.blk c
        cases hmm : s.mem c with
        | dead => trivial
        | cells t cs =>
          rw [hmm] at hb
          obtain ⟨g, us, e, hg, hs, h1⟩ := hb
          exact ⟨g, us, by show upd loc k (loc b) c = _; rw [hlo c hck]; exact e, hg, VRs_ren hle _ _ hs, h1⟩
        | arr t e xs =>
          rw [hmm] at hb
          obtain ⟨flat, ho, he⟩ := hb
          refine ⟨flat, ?_, Els.mono (fun y q => RdC.mono hok (fun _ _ _ hc => hc) e) he⟩
          show w.ownsRow 0 t e.size (upd loc k (loc b) c) xs.length flat
          rw [hlo c hck]; exact ho
        | iter t p =>
          rw [hmm] at hb
          obtain ⟨g, e, hg⟩ := hb
          exact ⟨g, by show upd loc k (loc b) c = _; rw [hlo c hck]; exact e, hg⟩
  · obtain ⟨d, hd, hld, h1, h2⟩ := hsrc c hc
    obtain ⟨d', hd', hld', h1', h2'⟩ := hsrc c' hc'
    rw [hld] at hg
    rw [hld'] at hg'
    have hdd := h.inj d d' g hd hd' hg hg'
    subst hdd
    by_cases hck : c = k
    · by_cases hck' : c' = k
      · rw [hck, hck']
      · have e1 := h1 hck
        obtain ⟨e2, e3⟩ := h2' hck'
        exact absurd (e2.symm.trans e1) e3
    · by_cases hck' : c' = k
      · have e1 := h1' hck'
        obtain ⟨e2, e3⟩ := h2 hck
        exact absurd (e2.symm.trans e1) e3
      · rw [← (h2 hck).1, ← (h2' hck').1]
  · obtain ⟨d, hd, hld, _⟩ := hsrc c hc
    rw [hld] at hg
    exact h.low d g hd hg

/-- Nothing yet, as a slice of the frame's own. -/
theorem RelL.nilown (h : RelL F s loc a w) {k : Nat} (hk : s.mem k = .dead) (he : s.env k = .nils) (t : TypeId) (e : Ty) :
    RelL F { env := upd s.env k (.own k), mem := upd s.mem k (.arr t e []) } (upd loc k (.slice none 0 0)) a w := by
  generalize hq : ({ env := upd s.env k (.own k), mem := upd s.mem k (.arr t e []) } : St) = q
  have hqk : q.mem k = .arr t e [] := by rw [← hq]; exact upd_same _ _ _
  have hqo : ∀ c, c ≠ k → q.mem c = s.mem c := fun c hc => by rw [← hq]; exact upd_other _ _ _ hc
  have hlk : upd loc k (.slice none 0 0) k = .slice none 0 0 := upd_same _ _ _
  have hlo : ∀ c, c ≠ k → upd loc k (.slice none 0 0) c = loc c := fun c hc => upd_other _ _ _ hc
  have hsrc : ∀ c g, live q.mem c → blkOf (upd loc k (.slice none 0 0) c) = some g → c ≠ k ∧ live s.mem c ∧ blkOf (loc c) = some g := fun c g hc hg => by
    by_cases hck : c = k
    · subst hck; rw [hlk] at hg; cases hg
    · refine ⟨hck, ?_, by rw [hlo c hck] at hg; exact hg⟩
      unfold live at hc ⊢
      rw [hqo c hck] at hc; exact hc
  have hok : ∀ g, okOf F s.mem loc w g → okOf F q.mem (upd loc k (.slice none 0 0)) w g := fun g hg => ⟨hg.1, fun ⟨c, hc, hcg⟩ => by
    obtain ⟨_, h1, h2⟩ := hsrc c g hc hcg
    exact hg.2 ⟨c, h1, h2⟩⟩
  have hle : (cxOf F s loc w).le (cxOf F q (upd loc k (.slice none 0 0)) w) := ⟨hok, fun _ _ _ hc => hc, fun c => by
    show Alike (s.mem c) (loc c) (q.mem c) (upd loc k (.slice none 0 0) c)
    by_cases hck : c = k
    · subst hck; rw [hk]; exact .inl rfl
    · rw [hqo c hck, hlo c hck]; exact Alike.refl _ _⟩
  refine ⟨fun c => ?_, fun c c' g hc hc' hg hg' => ?_, fun c g hc hg => ?_, fun i => ?_, h.size, h.defers, h.kept⟩
  · by_cases hck : c = k
    · subst hck
      rw [hqk]
      refine ⟨[], ?_, rfl⟩
      show w.ownsRow 0 t e.size (upd loc c (.slice none 0 0) c) 0 []
      rw [hlk]
      exact ⟨by simp, .inl ⟨rfl, rfl⟩⟩
    · rw [hqo c hck]
      exact (h.blk c).mono hle (hlo c hck) (fun g _ => rfl)
  · obtain ⟨_, h1, h2⟩ := hsrc c g hc hg
    obtain ⟨_, h1', h2'⟩ := hsrc c' g hc' hg'
    exact h.inj c c' g h1 h1' h2 h2'
  · obtain ⟨_, h1, h2⟩ := hsrc c g hc hg
    exact h.low c g h1 h2
  · have hi := h.env i
    by_cases hik : i = k
    · subst hik
      rw [he] at hi
      have : q.env i = .own i := by rw [← hq]; exact upd_same _ _ _
      rw [this]
      refine ⟨?_, by show isArr (q.mem i); rw [hqk]; trivial⟩
      show slotV F a i = upd loc i (.slice none 0 0) i
      rw [hlk]; exact hi
    · have : q.env i = s.env i := by rw [← hq]; exact upd_other _ _ _ hik
      rw [this]; exact VR.mono hle _ _ hi

theorem RelL.canon : ∀ (l : List (Nat × TypeId × Ty)) {s : St} {loc : Nat → Value}, RelL F s loc a w → ∃ loc', RelL F (s.canon l) loc' a w
  | [], _, loc, h => ⟨loc, h⟩
  | (k, t, e) :: r, s, loc, h => by
    simp only [St.canon]
    cases he : s.env k <;> try exact RelL.canon r h
    case own b =>
      simp only
      by_cases hbk : b = k
      · subst hbk; rw [beq_self]; exact RelL.canon r h
      · rw [beq_ne hbk]
        simp only [cond_false]
        cases hm : s.mem k <;> try exact RelL.canon r h
        have hv := h.env k
        rw [he] at hv
        exact RelL.canon r (h.rename hbk hm hv.2)
    case nils =>
      simp only
      cases hm : s.mem k <;> try exact RelL.canon r h
      exact RelL.canon r (h.nilown hm he t e)

theorem lookV_map (f : Nat → V) : ∀ (l : List Nat) (i : Nat), lookV (l.map fun k => (k, f k)) i = .junk ∨ lookV (l.map fun k => (k, f k)) i = f i
  | [], _ => .inl rfl
  | k :: r, i => by
    simp only [List.map_cons, lookV]
    by_cases h : i = k
    · subst h; rw [beq_self]; exact .inr rfl
    · rw [beq_ne h]; exact lookV_map f r i
theorem lookB_map (f : Nat → Blk) : ∀ (l : List Nat) (i : Nat), (lookB (l.map fun k => (k, f k)) i = .dead ∨ lookB (l.map fun k => (k, f k)) i = f i) ∧ (hasN l i = true → lookB (l.map fun k => (k, f k)) i = f i)
  | [], _ => ⟨.inl rfl, fun h => by cases h⟩
  | k :: r, i => by
    simp only [List.map_cons, lookB, hasN]
    by_cases h : i = k
    · subst h; rw [beq_self]; exact ⟨.inr rfl, fun _ => rfl⟩
    · rw [beq_ne h, beq_ne (Ne.symm h)]; exact lookB_map f r i

theorem RelL.norm (h : RelL F s loc a w) (n : Norm) : ∃ loc', RelL F (n.run s) loc' a w := by
  obtain ⟨loc', h'⟩ := h.canon n.own
  refine ⟨loc', h'.only (l := n.namesAt (s.canon n.own)) (fun i => ?_) (fun b => (lookB_map _ (n.namesAt (s.canon n.own)) b).1) (fun b => (lookB_map _ (n.namesAt (s.canon n.own)) b).2)⟩
  exact lookV_map (fun k => AM.only (n.namesAt (s.canon n.own)) ((s.canon n.own).env k)) n.live i
end
end AM
namespace AM
open Go

section
variable {P : Program} {F : Fr} {c : Cfg} {R : Type} {r : R}

def exOf : Ex → Exit
  | .normal => .normal
  | .exit i => .exit i
  | .ret => .ret

/-- What is asked of an end. -/
def Post (F : Fr) (K : Ex → St → Option R) (r : R) (Q : Exit → Act → World → Prop) : Prop :=
  ∀ ex s a w loc, K ex s = some r → RelL F s loc a w → Q (exOf ex) a w

/-- The summary of a loop is right. -/
def LoopOk (P : Program) (c : Cfg) (b : Code) : Prop :=
  ∀ (L : LoopSum), c.sum (regId b) = some L → ∀ (F : Fr), F.nt = c.nt → ∀ {R : Type} (K : Ex → St → Option R) (r : R) (Q : Exit → Act → World → Prop), Post F K r Q →
    ∀ (s : St) (loc : Nat → Value) (a : Act) (w : World), RelL F s loc a w → L.sem s K = some r → (Code.loop b).wp P Q a w
def loopsOf : Code → List Code
  | .seq a b => loopsOf a ++ loopsOf b
  | .cond _ a b => loopsOf a ++ loopsOf b
  | .block _ b => loopsOf b
  | .scope b => loopsOf b
  | .loop b => b :: loopsOf b
  | _ => []
def LoopsOk (P : Program) (c : Cfg) (code : Code) : Prop := ∀ b ∈ loopsOf code, LoopOk P c b

theorem region_sound (hm : P.follows .mixedOrders = true) (hnt : F.nt = c.nt) (htb : tabB P c.tb = true) (hT : TblOk P c.tbl) {id : Nat} {ops : Array Oper} {draw : Bool} {K : Ex → St → Option R} {Q : Exit → Act → World → Prop} (hQ : Post F K r Q)
    {s : St} {loc : Nat → Value} {a : Act} {w : World} (h : RelL F s loc a w) (hk : exec c (.region id ops draw) s K = some r) : (Code.region id ops draw).wp P Q a w := by
  simp only [exec] at hk
  cases draw
  · simp only [cond_false] at hk
    exact wp_region_list (list_sound hnt htb hT (fun s' a' w' loc' hK hr => hQ .normal s' a' w' loc' hK hr) ops.toList s loc a w h hk)
  · simp only [cond_true] at hk
    generalize early ops.toList ops.toList.length [] = l at hk
    cases ho : orderOk ops.toList l
    · rw [ho] at hk; cases hk
    · rw [ho] at hk
      simp only [cond_true] at hk
      have ho' := ho
      simp only [orderOk, Bool.and_eq_true] at ho'
      have hlt := lin_lt ho'.2.1
      have hlen : (planOf ops.toList [] l).length = ops.size := by
        rw [plan_len hlt]
        simpa using Nat.eq_of_beq_eq_true ho'.2.2
      exact wp_region_any hm (any_sound hnt htb hT (fun s' a' w' loc' hK hr => hQ .normal s' a' w' loc' hK hr) (planOf ops.toList [] l) ops.size _ [] s loc a _ hlen (inv_of ho hlt) (h.quiet ⟨rfl, rfl, rfl, rfl⟩) hk)

theorem exec_sound (hm : P.follows .mixedOrders = true) (hnt : F.nt = c.nt) (htb : tabB P c.tb = true) (hT : TblOk P c.tbl) : ∀ (code : Code) (hS : LoopsOk P c code) {K : Ex → St → Option R} {Q : Exit → Act → World → Prop}, Post F K r Q →
    ∀ {s : St} {loc : Nat → Value} {a : Act} {w : World}, RelL F s loc a w → exec c code s K = some r → code.wp P Q a w
  | .skip, hS, K, Q, hQ, s, loc, a, w, h, hk => wp_skip (hQ .normal s a w loc hk h)
  | .region id ops draw, hS, K, Q, hQ, s, loc, a, w, h, hk => region_sound hm hnt htb hT hQ h hk
  | .seq x y, hS, K, Q, hQ, s, loc, a, w, h, hk => by
    refine wp_seq (exec_sound hm hnt htb hT x (fun p hp => hS p (List.mem_append_left _ hp)) (K := fun ex s' => match ex with
    | .normal => exec c y s' K
    | ex => K ex s') ?_ h hk)
    intro ex s' a' w' loc' hK hr
    cases ex with
    | normal => exact exec_sound hm hnt htb hT y (fun p hp => hS p (List.mem_append_right _ hp)) hQ hr hK
    | exit i => exact hQ (.exit i) s' a' w' loc' hK hr
    | ret => exact hQ .ret s' a' w' loc' hK hr
  | .cond x y z, hS, K, Q, hQ, s, loc, a, w, h, hk => by
    simp only [exec] at hk
    have hv := h.oper x
    generalize s.val x = vx at hk hv
    cases vx <;> simp only [reduceCtorEq] at hk
    rename_i b
    have hx : a.eval x = .bool b := hv
    refine wp_cond hx ?_
    cases b
    · exact exec_sound hm hnt htb hT z (fun p hp => hS p (List.mem_append_right _ hp)) hQ h hk
    · exact exec_sound hm hnt htb hT y (fun p hp => hS p (List.mem_append_left _ hp)) hQ h hk
  | .block id b, hS, K, Q, hQ, s, loc, a, w, h, hk => by
    refine wp_block (exec_sound hm hnt htb hT b hS (K := fun ex s' => match ex with
    | .exit i => bif Nat.beq i id then K .normal s' else K (.exit i) s'
    | ex => K ex s') ?_ h hk)
    intro ex s' a' w' loc' hK hr
    cases ex with
    | normal => exact hQ .normal s' a' w' loc' hK hr
    | exit i =>
      show (if i = id then Q .normal a' w' else Q (.exit i) a' w')
      by_cases hi : i = id
      · rw [if_pos hi]
        subst hi
        simp only [beq_self, cond_true] at hK
        exact hQ .normal s' a' w' loc' hK hr
      · rw [if_neg hi]
        simp only [beq_ne hi, cond_false] at hK
        exact hQ (.exit i) s' a' w' loc' hK hr
    | ret => exact hQ .ret s' a' w' loc' hK hr
  | .loop b, hS, K, Q, hQ, s, loc, a, w, h, hk => by
    simp only [exec] at hk
    cases hL : c.sum (regId b) with
    | some L =>
      simp only [hL] at hk
      exact hS b (List.mem_cons_self ..) L hL F hnt K r Q hQ s loc a w h hk
    | none =>
      simp only [hL] at hk
      have key : ∀ (n : Nat) (s : St) (loc : Nat → Value) (a : Act) (w : World), RelL F s loc a w → loopK (fun s K => exec c b s K) (c.ann (regId b)) K n s = some r → Code.rounds P b Q n a w := by
        intro n
        induction n with
        | zero => intro s loc a w h hk; cases hk
        | succ n ih =>
          intro s loc a w h hk
          rw [rounds_succ]
          simp only [loopK] at hk
          refine exec_sound hm hnt htb hT b (fun p hp => hS p (List.mem_cons_of_mem _ hp)) (K := fun ex s' => match ex with
            | .normal => loopK (fun s K => exec c b s K) (c.ann (regId b)) K n ((c.ann (regId b)).head.run s')
            | .exit i => K (.exit i) ((c.ann (regId b)).out.run s')
            | .ret => K .ret ((c.ann (regId b)).ret.run s')) ?_ h hk
          intro ex s' a' w' loc' hK hr
          cases ex with
          | normal =>
            obtain ⟨loc2, hr2⟩ := hr.norm (c.ann (regId b)).head
            exact ih _ loc2 a' w' hr2 hK
          | exit i =>
            obtain ⟨loc2, hr2⟩ := hr.norm (c.ann (regId b)).out
            exact hQ (.exit i) _ a' w' loc2 hK hr2
          | ret =>
            obtain ⟨loc2, hr2⟩ := hr.norm (c.ann (regId b)).ret
            exact hQ .ret _ a' w' loc2 hK hr2
      obtain ⟨loc2, hr2⟩ := h.norm (c.ann (regId b)).head
      exact wp_loop_rounds c.fuel (key c.fuel _ loc2 a w hr2 hk)
  | .exit id, hS, K, Q, hQ, s, loc, a, w, h, hk => wp_exit (hQ (.exit id) s a w loc hk h)
  | .ret, hS, K, Q, hQ, s, loc, a, w, h, hk => wp_ret (hQ .ret s a w loc hk h)
  | .label l, hS, K, Q, hQ, s, loc, a, w, h, hk => wp_label (hQ .normal s a w loc hk h)
  | .scope b, hS, K, Q, hQ, s, loc, a, w, h, hk => by
    simp only [exec] at hk
    refine wp_scope_straight (exec_sound hm hnt htb hT b hS (K := K) ?_ h hk)
    intro ex s' a' w' loc' hK hr
    cases ex with
    | normal => exact hQ .normal s' a' w' loc' hK hr
    | exit i => exact hQ (.exit i) s' a' w' loc' hK hr
    | ret => exact hQ .ret s' a' w' loc' hK hr
  | .goto l, hS, K, Q, hQ, s, loc, a, w, h, hk => by simp only [exec, reduceCtorEq] at hk

/-- A summary that is what the rounds come to. -/
theorem loopOk_of (hm : P.follows .mixedOrders = true) (htb : tabB P c.tb = true) (hT : TblOk P c.tbl) {b : Code} (hS : LoopsOk P c b) (n : Ann)
    (h : ∀ (L : LoopSum), c.sum (regId b) = some L → ∀ {R : Type} (s : St) (K : Ex → St → Option R) (r : R), L.sem s K = some r → ∃ N, loopK (fun s K => exec c b s K) n K N (n.head.run s) = some r) : LoopOk P c b := by
  intro L hL F hnt R K r Q hQ s loc a w hr hk
  obtain ⟨N, hN⟩ := h L hL s K r hk
  have key : ∀ (N : Nat) (s : St) (loc : Nat → Value) (a : Act) (w : World), RelL F s loc a w → loopK (fun s K => exec c b s K) n K N s = some r → Code.rounds P b Q N a w := by
    intro N
    induction N with
    | zero => intro s loc a w h hk; cases hk
    | succ N ih =>
      intro s loc a w h hk
      rw [rounds_succ]
      simp only [loopK] at hk
      refine exec_sound hm hnt htb hT b hS (K := fun ex s' => match ex with
        | .normal => loopK (fun s K => exec c b s K) n K N (n.head.run s')
        | .exit i => K (.exit i) (n.out.run s')
        | .ret => K .ret (n.ret.run s')) ?_ h hk
      intro ex s' a' w' loc' hK hr
      cases ex with
      | normal =>
        obtain ⟨loc2, hr2⟩ := hr.norm n.head
        exact ih _ loc2 a' w' hr2 hK
      | exit i =>
        obtain ⟨loc2, hr2⟩ := hr.norm n.out
        exact hQ (.exit i) _ a' w' loc2 hK hr2
      | ret =>
        obtain ⟨loc2, hr2⟩ := hr.norm n.ret
        exact hQ .ret _ a' w' loc2 hK hr2
  obtain ⟨loc2, hr2⟩ := hr.norm n.head
  exact wp_loop_rounds N (key N _ loc2 a w hr2 hN)
end
end AM
namespace AM
open Go

section
variable {P : Program} {F : Fr} {c : Cfg} {R : Type} {r : R} {s s' : St} {loc : Nat → Value} {a : Act} {w w' : World}

/-! ### 1. Results -/
theorem resV_sound {tb : Tab} (htb : tabB P tb = true) (h : RelL F s loc a w) : ∀ (rs : List ResultVar) (vs : List V), resV s tb rs = some vs →
    ∃ us : List Value, (rs.mapM fun
      | .tmp t => pure (a.tmps.getD t undef)
      | .cell k t => do loadVar t (← asAddr (a.tmps.getD k undef)) : Sem (List Value)).run P w = .ok us w ∧ VRs (cxOf F s loc w) vs us
  | [], vs, hv => by
    simp only [resV, Option.some.injEq] at hv
    subst hv
    exact ⟨[], by simp, rfl⟩
  | .tmp t :: r, vs, hv => by
    simp only [resV] at hv
    cases hr : resV s tb r with
    | none => simp only [hr, reduceCtorEq] at hv
    | some ws =>
      simp only [hr, Option.some.injEq] at hv
      subst hv
      obtain ⟨us, h1, h2⟩ := resV_sound htb h r ws hr
      exact ⟨a.tmps.getD t undef :: us, by simp only [List.mapM_cons, Sem.run_bind, Sem.run_pure, Result.andThen_ok, h1], ⟨_, us, rfl, h.oper (.tmp t), h2⟩⟩
  | .cell k t :: r, vs, hv => by
    simp only [resV] at hv
    cases hl : loadA tb s t (s.val (.tmp k)) with
    | none => simp only [hl, reduceCtorEq] at hv
    | some q =>
      obtain ⟨g, v, s'⟩ := q
      rw [hl] at hv
      cases g
      · cases hr : resV s tb r <;> simp [hr] at hv
      · cases hr : resV s tb r with
        | none => simp [hr] at hv
        | some ws =>
          simp only [hr, Option.some.injEq] at hv
          subst hv
          obtain ⟨us, h1, h2⟩ := resV_sound htb h r ws hr
          obtain ⟨ad, u, hx, hru, hvu, _⟩ := load_sound (x := .tmp k) htb h hl
          have hx' : a.tmps.getD k undef = .pointer (some ad) := hx
          have hA : asAddr (.pointer (some ad)) = pure ad := rfl
          exact ⟨u :: us, by simp only [List.mapM_cons, Sem.run_bind, hx', hA, Sem.run_pure, Result.andThen_ok, hru, h1], ⟨_, us, rfl, hvu, h2⟩⟩

theorem results_sound {tb : Tab} (htb : tabB P tb = true) (h : RelL F s loc a w) {fn : Func} {vs : List V} (hv : resV s tb fn.results.toList = some vs) :
    ∃ u, (results fn a.tmps).run P w = .ok u w ∧ VR (cxOf F s loc w) (retV vs) u := by
  obtain ⟨us, h1, h2⟩ := resV_sound htb h fn.results.toList vs hv
  have hm : (fn.results.mapM fun
      | .tmp t => pure (a.tmps.getD t undef)
      | .cell k t => do loadVar t (← asAddr (a.tmps.getD k undef)) : Sem (Array Value)).run P w = .ok us.toArray w := by
    rw [Array.mapM_eq_mapM_toList]
    simp only [Sem.run_map, h1, Result.andThen_ok]
  refine ⟨if h : us.length = 1 then us[0] else .tuple us.toArray, ?_, ?_⟩
  · unfold results
    simp only [Sem.run_bind]
    erw [hm]
    rfl
  · match vs, us, h2 with
    | [], us, e => rw [show us = [] from e]; exact ⟨[], rfl, rfl⟩
    | [v], us, ⟨u, q, e, hv, hr⟩ =>
      rw [show q = [] from hr] at e
      subst e
      exact hv
    | v :: v' :: vs, us, ⟨u, q, e, hv, hr⟩ =>
      obtain ⟨u', q', e', hv', hr'⟩ := hr
      subst e'; subst e
      exact ⟨_, by simp, ⟨_, _, rfl, hv, ⟨_, _, rfl, hv', hr'⟩⟩⟩

/-! ### 2. The frame of a call -/
theorem argsAt_env {x : Cx} : ∀ (n : Nat) (args : List V) (us : List Value), VRs x args us → ∀ i, VR x (lookV (argsAt n args) i) (if n ≤ i then us.getD (i - n) undef else undef)
  | _, [], us, e, i => trivial
  | n, v :: r, us, ⟨u, q, e, hv, hr⟩, i => by
    simp only [argsAt, lookV]
    by_cases hi : i = n
    · subst hi
      rw [beq_self, if_pos (Nat.le_refl _)]
      subst e
      simpa using hv
    · rw [beq_ne hi]
      simp only [cond_false]
      have := argsAt_env (n + 1) r q hr i
      by_cases hle : n ≤ i
      · rw [if_pos hle]
        rw [if_pos (by omega)] at this
        subst e
        rw [show i - n = (i - (n + 1)) + 1 by omega]
        simpa using this
      · rw [if_neg hle]
        rw [if_neg (by omega)] at this
        exact this

theorem lookV_app : ∀ (l m : List (Nat × V)) (i : Nat), lookV (l ++ m) i = bif l.any (fun p => Nat.beq i p.1) then lookV l i else lookV m i
  | [], m, i => rfl
  | (k, v) :: r, m, i => by
    simp only [List.cons_append, lookV, List.any_cons]
    by_cases hk : i = k
    · subst hk
      simp
    · rw [beq_ne hk]
      simp only [cond_false, Bool.false_or]
      exact lookV_app r m i
theorem argsAt_any : ∀ (n : Nat) (args : List V) (i : Nat), (argsAt n args).any (fun p => Nat.beq i p.1) = true ↔ n ≤ i ∧ i < n + args.length
  | n, [], i => by simp only [argsAt, List.any_nil, List.length_nil, Bool.false_eq_true, false_iff]; omega
  | n, v :: r, i => by
    simp only [argsAt, List.any_cons, Bool.or_eq_true, argsAt_any (n + 1) r i, List.length_cons]
    constructor
    · rintro (h | h)
      · have := Nat.eq_of_beq_eq_true h; omega
      · omega
    · intro h
      by_cases hi : i = n
      · subst hi; exact .inl (beq_self _)
      · right; omega
theorem lookV_out {i : Nat} : ∀ {l : List (Nat × V)}, (∀ p ∈ l, p.1 ≠ i) → lookV l i = .junk
  | [], _ => rfl
  | (k, v) :: r, h => by
    simp only [lookV]
    rw [beq_ne (Ne.symm (h (k, v) (List.mem_cons_self ..)))]
    exact lookV_out (fun p hp => h p (List.mem_cons_of_mem _ hp))

/-- A call begins: arguments, slots kept along, blocks that are lent. -/
theorem RelL.begin {F' : Fr} (hw : F'.w0 = w) {args : List V} {us : List Value} {gs : List (Nat × V)} {m : List (Nat × Blk)} (hl : us.length ≤ F'.nt)
    (hgs : ∀ p ∈ gs, GH ≤ p.1 ∧ F'.nt ≤ p.1)
    (hblk : ∀ b, BR ⟨okOf F' (lookB m) loc w, w, loc, lookB m⟩ b (lookB m b))
    (hinj : ∀ b b' g, live (lookB m) b → live (lookB m) b' → blkOf (loc b) = some g → blkOf (loc b') = some g → b = b')
    (hlow : ∀ b g, live (lookB m) b → blkOf (loc b) = some g → F'.foot g ∨ F'.w0.heap.size ≤ g)
    (h : VRs ⟨okOf F' (lookB m) loc w, w, loc, lookB m⟩ args us)
    (hg : ∀ k, GH ≤ k → F'.nt ≤ k → VR ⟨okOf F' (lookB m) loc w, w, loc, lookB m⟩ (lookV gs k) (F'.ghost k)) :
    RelL F' (stOf (argsAt 0 args ++ gs) m) loc { tmps := us.toArray ++ Array.replicate (F'.nt - us.length) undef, defers := [] } w := by
  refine ⟨hblk, hinj, hlow, fun k => ?_, by simp; omega, rfl, ⟨by rw [hw], by rw [hw], by rw [hw], by rw [hw]; exact Nat.le_refl _, fun k _ _ => by rw [hw]⟩⟩
  show VR ⟨okOf F' (lookB m) loc w, w, loc, lookB m⟩ (lookV (argsAt 0 args ++ gs) k) (slotV F' { tmps := us.toArray ++ Array.replicate (F'.nt - us.length) undef, defers := [] } k)
  have hlen := VRs.len h
  have ha := argsAt_env 0 args us h k
  simp only [Nat.zero_le, if_true, Nat.sub_zero] at ha
  have e : (us.toArray ++ Array.replicate (F'.nt - us.length) undef).getD k undef = us.getD k undef := by
    rw [Array.getD_eq_getD_getElem?, List.getD_eq_getElem?_getD, Array.getElem?_append]
    by_cases hk : k < us.length
    · simp [hk]
    · simp only [List.size_toArray, hk, if_false]
      rw [List.getElem?_eq_none (by omega)]
      simp only [Array.getElem?_replicate]
      split <;> rfl
  rw [lookV_app]
  unfold slotV
  by_cases hk : GH ≤ k ∧ F'.nt ≤ k
  · have hn : (argsAt 0 args).any (fun p => Nat.beq k p.1) = false := by
      cases hh : (argsAt 0 args).any (fun p => Nat.beq k p.1)
      · rfl
      · rw [argsAt_any] at hh; omega
    rw [if_pos hk, hn]
    exact hg k hk.1 hk.2
  · rw [if_neg hk]
    show VR _ _ ((us.toArray ++ Array.replicate (F'.nt - us.length) undef).getD k undef)
    rw [e]
    by_cases hk2 : k < us.length
    · rw [(argsAt_any 0 args k).2 (by omega)]
      exact ha
    · have hn : (argsAt 0 args).any (fun p => Nat.beq k p.1) = false := by
        cases hh : (argsAt 0 args).any (fun p => Nat.beq k p.1)
        · rfl
        · rw [argsAt_any] at hh; omega
      rw [hn, cond_false, lookV_out (fun p hp e => hk (by rw [← e]; exact hgs p hp))]
      trivial

theorem RelL.start {F' : Fr} (hw : F'.w0 = w) (hgh : F'.ghost = fun _ => undef) {args : List V} {us : List Value} (hl : us.length ≤ F'.nt) (h : VRs ⟨okOf F' (fun _ => .dead) loc w, w, loc, fun _ => .dead⟩ args us) :
    RelL F' (stOf (argsAt 0 args) []) loc { tmps := us.toArray ++ Array.replicate (F'.nt - us.length) undef, defers := [] } w := by
  have := RelL.begin (F' := F') (gs := []) (m := []) (loc := loc) hw hl (fun p hp => by cases hp) (fun b => trivial) (fun b b' g hb => absurd rfl hb) (fun b g hb => absurd rfl hb) h (fun k _ _ => trivial)
  rw [List.append_nil] at this
  exact this

theorem execF_sound (hm : P.follows .mixedOrders = true) {fn : Func} {f : FuncId} (hf : P.funcs[f]? = some fn) (hnt : F.nt = c.nt) (hfn : fn.ntmps = c.nt) (htb : tabB P c.tb = true) (hT : TblOk P c.tbl) (hS : ∀ b, fn.body = some b → LoopsOk P c b)
    {args : List V} {us : List Value} (hus : us.length ≤ c.nt) {gs : List (Nat × V)} {m : List (Nat × Blk)} {K : V → St → Option R} (h : RelL F (stOf (argsAt 0 args ++ gs) m) loc { tmps := us.toArray ++ Array.replicate (c.nt - us.length) undef, defers := [] } w)
    (hk : execG c fn args gs m K = some r) :
    Calls P f us.toArray w (fun e w' => ∃ u v s' loc' a', e = .returned u ∧ K v s' = some r ∧ RelL F s' loc' a' w' ∧ VR (cxOf F s' loc' w') v u) := by
  unfold execG at hk
  cases hb : fn.body with
  | none => simp only [hb, reduceCtorEq] at hk
  | some b =>
    simp only [hb] at hk
    refine calls_of_wp hf hb ?_
    rw [hfn]
    refine exec_sound hm hnt htb hT b (hS b hb) ?_ (by simpa using h) hk
    intro ex s' a' w' loc' hK hr
    have fin : (∃ vs, resV s' c.tb fn.results.toList = some vs ∧ K (retV vs) s' = some r) → a'.defers = [] ∧ ∃ v, (results fn a'.tmps).run P w' = .ok v w' ∧ ∃ u v' s'' loc' a', Ending.returned v = .returned u ∧ K v' s'' = some r ∧ RelL F s'' loc' a' w' ∧ VR (cxOf F s'' loc' w') v' u := by
      rintro ⟨vs, hv, hK⟩
      obtain ⟨u, h1, h2⟩ := results_sound htb hr hv
      exact ⟨hr.defers, u, h1, u, _, s', loc', a', rfl, hK, hr, h2⟩
    cases ex with
    | exit i => simp only [reduceCtorEq] at hK
    | normal =>
      refine fin ?_
      simp only at hK
      cases hv : resV s' c.tb fn.results.toList with
      | none => simp only [hv, reduceCtorEq] at hK
      | some vs => simp only [hv] at hK; exact ⟨vs, rfl, hK⟩
    | ret =>
      refine fin ?_
      simp only at hK
      cases hv : resV s' c.tb fn.results.toList with
      | none => simp only [hv, reduceCtorEq] at hK
      | some vs => simp only [hv] at hK; exact ⟨vs, rfl, hK⟩
end
end AM
namespace AM
open Go

/-! ### 1. Arguments and results, typed -/
@[reducible] def Args : List Ty → Type
  | [] => Unit
  | t :: r => t.T × Args r
def encs : (ts : List Ty) → Args ts → List V
  | [], _ => []
  | t :: r, x => encV t x.1 :: encs r x.2
def shape (t : Ty) (v : V) : Bool := match v with | .agg _ => t.agg | _ => !t.agg
def decs (m : Nat → Blk) : (ts : List Ty) → List V → Option (Args ts × List Nat)
  | [], [] => some ((), [])
  | t :: r, v :: vs => bif shape t v then (match decV m t v, decs m r vs with
    | some (x, fs), some (xs, gs) => some ((x, xs), fs ++ gs)
    | _, _ => none) else none
  | _, _ => none

inductive RK where
  | dat (t : Ty)
  | own (t : TypeId) (e : Ty)
@[reducible] def RK.T : RK → Type
  | .dat t => t.T
  | .own _ e => List e.T
@[reducible] def Outs : List RK → Type
  | [] => Unit
  | k :: r => k.T × Outs r
def hasOwn : List RK → Bool
  | [] => false
  | .dat _ :: r => hasOwn r
  | .own _ _ :: _ => true
/-- At most one slice of the caller's own. -/
def oneOwn : List RK → Bool
  | [] => true
  | .dat _ :: r => oneOwn r
  | .own _ _ :: r => !(hasOwn r)
def outV (d : Nat) : (rk : List RK) → Outs rk → List V
  | [], _ => []
  | .dat t :: r, x => encV t x.1 :: outV d r x.2
  | .own _ _ :: r, x => .own d :: outV d r x.2
def outM (d : Nat) : (rk : List RK) → Outs rk → St → St
  | [], _, s => s
  | .dat _ :: r, x, s => outM d r x.2 s
  | .own t e :: r, x, s => s.blk d (.arr t e x.1)
/-- What a callee leaves: data (with the blocks that go into it), and the block of the slice. -/
def getOut (m : Nat → Blk) : (rk : List RK) → List V → Option (Outs rk × List Nat × List Nat)
  | [], [] => some ((), [], [])
  | .dat t :: r, v :: vs => bif shape t v then (match decV m t v, getOut m r vs with
    | some (x, fs), some (xs, gs, os) => some ((x, xs), fs ++ gs, os)
    | _, _ => none) else none
  | .own t e :: r, .own b :: vs => match m b, getOut m r vs with
    | .arr t' e' xs, some (ys, gs, os) => if h : e' = e then (bif Nat.beq t' t then some ((h ▸ xs, ys), gs, b :: os) else none) else none
    | _, _ => none
  | _, _ => none
def unret (n : Nat) (v : V) : Option (List V) := match n with
  | 1 => some [v]
  | _ => match v with | .tuple vs => some vs | _ => none
def K0 (rk : List RK) (v : V) (s : St) : Option (Outs rk) :=
  match unret rk.length v with
  | some vs => (match getOut s.mem rk vs with
    | some (ys, fs, os) => bif apartN os fs then some ys else none
    | none => none)
  | none => none

/-- A call of a function of data, that leaves new data, and perhaps a new slice of the caller's own. -/
def specOf (ts : List Ty) (rk : List RK) (pre : Args ts → Bool) (f : Args ts → Outs rk) : Spec where
  run := fun args s d => match decs s.mem ts args with
    | some (xs, fs) => bif (bif hasOwn rk then s.free d else true) then some (pre xs, retV (outV d rk (f xs)), outM d rk (f xs) (s.freeze fs)) else none
    | none => none
  tw := fun args m d => match decs m ts args with
    | some (_, fs) => d :: fs
    | none => [d]

def scalar : List RK → Bool
  | [] => true
  | .dat (.int _) :: r | .dat .bool :: r | .dat .str :: r => scalar r
  | _ :: _ => false
/-- The results are numbers, truth values and texts: the caller keeps what it has. -/
def specS (ts : List Ty) (rk : List RK) (pre : Args ts → Bool) (f : Args ts → Outs rk) : Spec where
  run := fun args s d => match decs s.mem ts args with
    | some (xs, fs) => some (pre xs, retV (outV d rk (f xs)), s)
    | none => none
  tw := fun _ _ _ => []

section
variable {P : Program} {F : Fr} {c : Cfg} {R : Type} {r : R} {s s' : St} {loc : Nat → Value} {a : Act} {w w' : World}

theorem outM_env (d : Nat) : ∀ (rk : List RK) (ys : Outs rk) (s : St), (outM d rk ys s).env = s.env
  | [], _, _ => rfl
  | .dat _ :: r, x, s => outM_env d r x.2 s
  | .own _ _ :: _, _, _ => rfl
theorem outM_put (d : Nat) (k : Nat) (v : V) : ∀ (rk : List RK) (ys : Outs rk) (s : St), outM d rk ys (s.put (some k) v) = (outM d rk ys s).put (some k) v
  | [], _, _ => rfl
  | .dat _ :: r, x, s => outM_put d k v r x.2 s
  | .own _ _ :: _, _, _ => rfl

theorem outM_keep (d : Nat) {tw : List Nat} (hd : d ∈ tw) : ∀ (rk : List RK) (ys : Outs rk) (s : St), KeepT tw s (outM d rk ys s)
  | [], _, s => KeepT.refl tw s
  | .dat _ :: r, x, s => outM_keep d hd r x.2 s
  | .own _ _ :: _, _, s => KeepT.blk s _ hd
theorem specOf_put {ts : List Ty} {rk : List RK} {pre : Args ts → Bool} {f : Args ts → Outs rk} (args : List V) (s : St) (d k : Nat) (v : V) (hv : ∀ b ∈ (specOf ts rk pre f).tw args s.mem d, b ∉ blksV v) :
    (specOf ts rk pre f).run args (s.put (some k) v) d = ((specOf ts rk pre f).run args s d).map (mp k v) := by
  have hfree : (s.put (some k) v).free d = s.free d := rfl
  simp only [specOf, put_mem, hfree] at hv ⊢
  cases hd : decs s.mem ts args with
  | none => rfl
  | some p =>
    obtain ⟨xs, fs⟩ := p
    simp only [hd] at hv
    simp only
    rw [put_freeze k fs s (fun b hb => hv b (List.mem_cons_of_mem _ hb)), outM_put]
    cases (bif hasOwn rk then s.free d else true) <;> rfl
theorem specOf_keep {ts : List Ty} {rk : List RK} {pre : Args ts → Bool} {f : Args ts → Outs rk} (args : List V) (s : St) (d : Nat) (g : Bool) (v : V) (s' : St) (h : (specOf ts rk pre f).run args s d = some (g, v, s')) : KeepT ((specOf ts rk pre f).tw args s.mem d) s s' := by
  simp only [specOf] at h ⊢
  cases hd : decs s.mem ts args with
  | none => rw [hd] at h; cases h
  | some p =>
    obtain ⟨xs, fs⟩ := p
    rw [hd] at h
    simp only at h ⊢
    cases hc : (bif hasOwn rk then s.free d else true)
    · rw [hc] at h; cases h
    · rw [hc] at h
      simp only [cond_true, Option.some.injEq, Prod.mk.injEq] at h
      obtain ⟨_, _, rfl⟩ := h
      exact (KeepT.freeze fs s (fun b hb => List.mem_cons_of_mem _ hb)).trans (outM_keep d (List.mem_cons_self ..) rk _ _)
theorem specS_put {ts : List Ty} {rk : List RK} {pre : Args ts → Bool} {f : Args ts → Outs rk} (args : List V) (s : St) (d k : Nat) (v : V) (hv : ∀ b ∈ (specS ts rk pre f).tw args s.mem d, b ∉ blksV v) :
    (specS ts rk pre f).run args (s.put (some k) v) d = ((specS ts rk pre f).run args s d).map (mp k v) := by
  simp only [specS, put_mem]
  cases decs s.mem ts args with
  | none => rfl
  | some p => rfl
theorem specS_keep {ts : List Ty} {rk : List RK} {pre : Args ts → Bool} {f : Args ts → Outs rk} (args : List V) (s : St) (d : Nat) (g : Bool) (v : V) (s' : St) (h : (specS ts rk pre f).run args s d = some (g, v, s')) : KeepT ((specS ts rk pre f).tw args s.mem d) s s' := by
  simp only [specS] at h
  cases hd : decs s.mem ts args with
  | none => rw [hd] at h; cases h
  | some p =>
    rw [hd] at h
    simp only [Option.some.injEq, Prod.mk.injEq] at h
    obtain ⟨_, _, rfl⟩ := h
    exact KeepT.refl _ s

/-! ### 2. Data, as seen by another frame -/
theorem shape_VR {x x' : Cx} (hbr : ∀ b, BR x b (x.mem b)) {t : Ty} {v : V} {u : Value} (hv : VR x v u) (hs : v.sure = true) (hsh : shape t v = true) {y : t.T} (hr : RdC x'.ok x'.w t y u.cells.toList) : VR x' (encV t y) u := by
  unfold encV
  refine VR_mk (VRs_enc t hr) (RdC.one t hr) ?_
  by_cases ha : ∃ cs, v = .agg cs
  · obtain ⟨cs, rfl⟩ := ha
    obtain ⟨us, rfl, _, _⟩ := hv
    have : t.agg = true := hsh
    rw [if_pos this]
    rfl
  · have h1 := VR_one hbr hv hs (fun cs e => ha ⟨cs, e⟩)
    have : t.agg = false := by
      cases v <;> first | exact absurd ⟨_, rfl⟩ ha | simpa [shape] using hsh
    rw [if_neg (by rw [this]; simp)]
    cases u <;> first | rfl | (simp [Value.oneCell'] at h1)

theorem okF_append1 {x : Cx} {fs gs : List Nat} {g : Nat} (h : okF x fs g) : okF x (fs ++ gs) g := by
  rcases h with h | ⟨b, hb, h1, h2⟩
  · exact .inl h
  · exact .inr ⟨b, List.mem_append_left _ hb, h1, h2⟩
theorem okF_append2 {x : Cx} {fs gs : List Nat} {g : Nat} (h : okF x gs g) : okF x (fs ++ gs) g := by
  rcases h with h | ⟨b, hb, h1, h2⟩
  · exact .inl h
  · exact .inr ⟨b, List.mem_append_right _ hb, h1, h2⟩

theorem RdC_ok' {ok ok' : Nat → Prop} {w : World} (h : ∀ g, ok g → ok' g) {t : Ty} {x : t.T} {us : List Value} (hr : RdC ok w t x us) : RdC ok' w t x us := RdC.mono h (fun _ _ _ hc => hc) t hr

theorem decs_sound {x x' : Cx} (hbr : ∀ b, BR x b (x.mem b)) (hw : x'.w = x.w) : ∀ (ts : List Ty) {vs : List V} {us : List Value} {xs : Args ts} {fs : List Nat}, VRs x vs us → decs x.mem ts vs = some (xs, fs) → (∀ g, okF x fs g → x'.ok g) → VRs x' (encs ts xs) us
  | [], [], us, xs, fs, h, hd, hok => h
  | [], _ :: _, us, xs, fs, h, hd, hok => by simp [decs] at hd
  | _ :: _, [], us, xs, fs, h, hd, hok => by simp [decs] at hd
  | t :: r, v :: vs, us, xs, fs, ⟨u, q, e, hv, hr⟩, hd, hok => by
    simp only [decs] at hd
    cases hsh : shape t v
    · rw [hsh] at hd; cases hd
    · rw [hsh] at hd
      simp only [cond_true] at hd
      cases h1 : decV x.mem t v with
      | none => simp only [h1, reduceCtorEq] at hd
      | some p =>
        obtain ⟨y, f1⟩ := p
        cases h2 : decs x.mem r vs with
        | none => simp only [h1, h2, reduceCtorEq] at hd
        | some p2 =>
          obtain ⟨ys, g1⟩ := p2
          simp only [h1, h2, Option.some.injEq, Prod.mk.injEq] at hd
          obtain ⟨rfl, rfl⟩ := hd
          have hs := decV_sure h1
          have hrd := decV_sound hbr hv hs h1
          refine ⟨u, q, e, shape_VR hbr hv hs hsh ?_, decs_sound hbr hw r hr h2 (fun g hg => hok g (okF_append2 hg))⟩
          rw [hw]
          exact RdC_ok' (fun g hg => hok g (okF_append1 hg)) hrd

/-! ### 3. The heap has grown -/
theorem RelL.grow (h : RelL F s loc a w) (hg : ∀ k, k < w.heap.size → w'.heap[k]? = w.heap[k]?) (hsz : w.heap.size ≤ w'.heap.size) (hos : w'.os = w.os) (htape : w'.tape = w.tape) (hout : w'.output = w.output) : RelL F s loc a w' := by
  have hle : (cxOf F s loc w).le (cxOf F s loc w') := ⟨fun g hgo => ⟨⟨Nat.lt_of_lt_of_le hgo.1.1 hsz, hgo.1.2⟩, hgo.2⟩, fun p u hp hc => by
    show w'.cell? p = some u
    rw [World.cell?_of_block (hg p.block hp.1.1)]; exact hc, fun b => Alike.refl _ _⟩
  refine ⟨fun b => ?_, h.inj, h.low, fun k => VR.mono hle _ _ (h.env k), h.size, h.defers, ?_⟩
  · by_cases hd : s.mem b = .dead
    · rw [hd]; trivial
    · exact (h.blk b).mono hle rfl (fun g hbg => hg g (h.lt hd hbg))
  · exact ⟨hos.trans h.kept.os, htape.trans h.kept.tape, hout.trans h.kept.output, Nat.le_trans h.kept.size hsz, fun k hk hf => by
      rw [hg k (Nat.lt_of_lt_of_le hk h.kept.size)]; exact h.kept.block k hk hf⟩

/-- … and a block of what is new is the frame's own. -/
theorem RelL.adopt (h : RelL F s loc a w) (hg : ∀ k, k < w.heap.size → w'.heap[k]? = w.heap[k]?) (hsz : w.heap.size ≤ w'.heap.size) (hos : w'.os = w.os) (htape : w'.tape = w.tape) (hout : w'.output = w.output)
    {d : Nat} (hd : s.mem d = .dead) (x : Blk) (val : Value) (hval : ∀ g, blkOf val = some g → w.heap.size ≤ g) (hbr : BR (cxOf F (s.blk d x) (upd loc d val) w') d x) : RelL F (s.blk d x) (upd loc d val) a w' := by
  have hother : ∀ b, b ≠ d → (s.blk d x).mem b = s.mem b ∧ upd loc d val b = loc b := fun b hb => ⟨upd_other _ _ _ hb, upd_other _ _ _ hb⟩
  have hlive : ∀ b, b ≠ d → (live (s.blk d x).mem b ↔ live s.mem b) := fun b hb => by unfold live; rw [(hother b hb).1]
  have hle : (cxOf F s loc w).le (cxOf F (s.blk d x) (upd loc d val) w') := by
    refine ⟨fun g hgo => ⟨⟨Nat.lt_of_lt_of_le hgo.1.1 hsz, hgo.1.2⟩, ?_⟩, fun p u hp hc => ?_, fun b => ?_⟩
    · rintro ⟨b, hb, hbg⟩
      by_cases hbd : b = d
      · subst hbd
        have hbg' : blkOf (upd loc b val b) = some g := hbg
        rw [upd_same] at hbg'
        have := hval g hbg'
        have := hgo.1.1
        omega
      · exact hgo.2 ⟨b, (hlive b hbd).1 hb, by rw [← (hother b hbd).2]; exact hbg⟩
    · show w'.cell? p = some u
      rw [World.cell?_of_block (hg p.block hp.1.1)]; exact hc
    · show Alike (s.mem b) (loc b) ((s.blk d x).mem b) (upd loc d val b)
      by_cases hbd : b = d
      · subst hbd; rw [hd]; exact .inl rfl
      · rw [(hother b hbd).1, (hother b hbd).2]; exact Alike.refl _ _
  refine ⟨fun b => ?_, fun b b' g hb hb' hg1 hg2 => ?_, fun b g hb hg1 => ?_, fun k => VR.mono hle _ _ (h.env k), h.size, h.defers, ?_⟩
  · by_cases hbd : b = d
    · subst hbd
      show BR _ b (upd s.mem b x b)
      rw [upd_same]; exact hbr
    · rw [(hother b hbd).1]
      by_cases hdead : s.mem b = .dead
      · rw [hdead]; trivial
      · exact (h.blk b).mono hle (hother b hbd).2 (fun g hbg => hg g (h.lt hdead hbg))
  · by_cases hbd : b = d
    · by_cases hbd' : b' = d
      · rw [hbd, hbd']
      · exfalso
        subst hbd
        rw [upd_same] at hg1
        rw [(hother b' hbd').2] at hg2
        have := hval g hg1
        have := h.lt ((hlive b' hbd').1 hb') hg2
        omega
    · by_cases hbd' : b' = d
      · exfalso
        subst hbd'
        rw [upd_same] at hg2
        rw [(hother b hbd).2] at hg1
        have := hval g hg2
        have := h.lt ((hlive b hbd).1 hb) hg1
        omega
      · rw [(hother b hbd).2] at hg1
        rw [(hother b' hbd').2] at hg2
        exact h.inj b b' g ((hlive b hbd).1 hb) ((hlive b' hbd').1 hb') hg1 hg2
  · by_cases hbd : b = d
    · subst hbd
      rw [upd_same] at hg1
      have := hval g hg1
      have := h.kept.size
      right; omega
    · rw [(hother b hbd).2] at hg1
      exact h.low b g ((hlive b hbd).1 hb) hg1
  · exact ⟨hos.trans h.kept.os, htape.trans h.kept.tape, hout.trans h.kept.output, Nat.le_trans h.kept.size hsz, fun k hk hf => by
      rw [hg k (Nat.lt_of_lt_of_le hk h.kept.size)]; exact h.kept.block k hk hf⟩
end
end AM
namespace AM
open Go

section
variable {P : Program} {F : Fr} {c : Cfg} {R : Type} {r : R} {s s' : St} {loc : Nat → Value} {a : Act} {w w' : World}

/-- The callee's frame: it sees what it is given, and nothing else that is the caller's own. -/
def frOf (F : Fr) (s : St) (loc : Nat → Value) (w : World) (fs : List Nat) (nt : Nat) : Fr where
  w0 := w
  foot := fun _ => False
  nt := nt
  hide := fun g => g < w.heap.size ∧ (F.hide g ∨ (owned s.mem loc g ∧ ¬ ∃ b ∈ fs, live s.mem b ∧ blkOf (loc b) = some g))
  ghost := fun _ => undef
  hl := fun g h => ⟨h.1, fun h => h⟩

theorem decs_len {m : Nat → Blk} : ∀ {ts : List Ty} {vs : List V} {z : Args ts × List Nat}, decs m ts vs = some z → vs.length = ts.length
  | [], [], _, _ => rfl
  | [], _ :: _, _, h => by simp [decs] at h
  | _ :: _, [], _, h => by simp [decs] at h
  | t :: r, v :: vs, z, h => by
    simp only [decs] at h
    cases hsh : shape t v
    · rw [hsh] at h; cases h
    · rw [hsh] at h
      simp only [cond_true] at h
      cases h1 : decV m t v with
      | none => simp only [h1, reduceCtorEq] at h
      | some p =>
        cases h2 : decs m r vs with
        | none => simp only [h1, h2, reduceCtorEq] at h
        | some p2 => rw [List.length_cons, List.length_cons, decs_len h2]
theorem encs_len : ∀ (ts : List Ty) (xs : Args ts), (encs ts xs).length = ts.length
  | [], _ => rfl
  | t :: r, xs => by rw [encs, List.length_cons, List.length_cons, encs_len r]

theorem call_body (hm : P.follows .mixedOrders = true) {fn : Func} {f : FuncId} (hf : P.funcs[f]? = some fn) (hfn : fn.ntmps = c.nt) (htb : tabB P c.tb = true) (hT : TblOk P c.tbl) (hS : ∀ b, fn.body = some b → LoopsOk P c b)
    {ts : List Ty} {rk : List RK} {ys : Outs rk} (hlen : ts.length ≤ c.nt) {xs : Args ts} (hb : execF c fn (encs ts xs) [] (K0 rk) = some ys)
    (h : RelL F s loc a w) {args : List V} {us : List Value} (hus : VRs (cxOf F s loc w) args us) {fs : List Nat} (hd : decs s.mem ts args = some (xs, fs)) :
    Calls P f us.toArray w (fun e w' => ∃ u v s2 loc2 a2, e = .returned u ∧ K0 rk v s2 = some ys ∧ RelL (frOf F s loc w fs c.nt) s2 loc2 a2 w' ∧ VR (cxOf (frOf F s loc w fs c.nt) s2 loc2 w') v u) := by
  have hl : us.length ≤ c.nt := by rw [VRs.len hus, decs_len hd]; exact hlen
  have hv : VRs ⟨okOf (frOf F s loc w fs c.nt) (fun _ => .dead) loc w, w, loc, fun _ => .dead⟩ (encs ts xs) us := by
    refine decs_sound (x := cxOf F s loc w) (x' := ⟨okOf (frOf F s loc w fs c.nt) (fun _ => .dead) loc w, w, loc, fun _ => .dead⟩) h.blk rfl ts hus hd (fun g hg => ?_)
    rcases hg with hg | ⟨b, hb, hlb, hbg⟩
    · exact ⟨⟨hg.1.1, fun hh => hh.2.elim hg.1.2 (fun h2 => hg.2 h2.1)⟩, fun ⟨d, hd, _⟩ => hd rfl⟩
    · exact ⟨⟨h.lt hlb hbg, fun hh => hh.2.elim (h.seen hlb hbg) (fun h2 => h2.2 ⟨b, hb, hlb, hbg⟩)⟩, fun ⟨d, hd, _⟩ => hd rfl⟩
  exact execF_sound hm hf rfl hfn htb hT hS hl (gs := []) (by rw [List.append_nil]; exact RelL.start (F' := frOf F s loc w fs c.nt) rfl rfl hl hv) hb

/-! ### What the callee leaves -/
theorem getOut_own {m : Nat → Blk} {d : Nat} : ∀ {rk : List RK} {vs : List V} {ys : Outs rk} {gs os : List Nat}, oneOwn rk = true → getOut m rk vs = some (ys, gs, os) →
    (os = [] ∧ hasOwn rk = false ∧ ∀ s, outM d rk ys s = s) ∨ (hasOwn rk = true ∧ ∃ b t e, ∃ xs : List e.T, os = [b] ∧ m b = .arr t e xs ∧ ∀ s, outM d rk ys s = s.blk d (.arr t e xs))
  | [], [], ys, gs, os, _, h => by
    simp only [getOut, Option.some.injEq, Prod.mk.injEq] at h
    obtain ⟨_, _, rfl⟩ := h
    exact .inl ⟨rfl, rfl, fun _ => rfl⟩
  | [], _ :: _, _, _, _, _, h => by simp [getOut] at h
  | .dat t :: r, [], _, _, _, _, h => by simp [getOut] at h
  | .dat t :: r, v :: vs, ys, gs, os, ho, h => by
    simp only [getOut] at h
    cases hsh : shape t v
    · rw [hsh] at h; cases h
    · rw [hsh] at h
      simp only [cond_true] at h
      cases h1 : decV m t v with
      | none => simp only [h1, reduceCtorEq] at h
      | some p =>
        obtain ⟨y, f1⟩ := p
        cases h2 : getOut m r vs with
        | none => simp only [h1, h2, reduceCtorEq] at h
        | some p2 =>
          obtain ⟨ys', g', o'⟩ := p2
          simp only [h1, h2, Option.some.injEq, Prod.mk.injEq] at h
          obtain ⟨rfl, rfl, rfl⟩ := h
          exact getOut_own (rk := r) ho h2
  | .own t e :: r, [], _, _, _, _, h => by simp [getOut] at h
  | .own t e :: r, v :: vs, ys, gs, os, ho, h => by
    cases v <;> simp only [getOut, reduceCtorEq] at h
    rename_i b
    cases hmb : m b <;> simp only [hmb, reduceCtorEq] at h
    rename_i t' e' xs
    cases h2 : getOut m r vs with
    | none => simp only [h2, reduceCtorEq] at h
    | some p2 =>
      obtain ⟨ys', g', o'⟩ := p2
      simp only [h2] at h
      split at h
      · rename_i he
        subst he
        cases hb : Nat.beq t' t
        · rw [hb] at h; cases h
        · rw [hb] at h
          simp only [cond_true, Option.some.injEq, Prod.mk.injEq] at h
          obtain ⟨rfl, rfl, rfl⟩ := h
          have ht := Nat.eq_of_beq_eq_true hb
          subst ht
          have hr : hasOwn r = false := by simpa [oneOwn] using ho
          have hr1 : oneOwn r = true := by
            clear h2 ho ys'
            induction r with
            | nil => rfl
            | cons k r ih => cases k with
              | dat t => exact ih hr
              | own t e => simp [hasOwn] at hr
          rcases getOut_own (d := d) hr1 h2 with ⟨ho2, _, _⟩ | ⟨hh, _⟩
          · subst ho2
            exact .inr ⟨rfl, b, t', e', xs, rfl, hmb, fun _ => rfl⟩
          · rw [hr] at hh; cases hh
      · cases h

theorem outs_sound {x x' : Cx} (hbr : ∀ b, BR x b (x.mem b)) (hw : x'.w = x.w) {d : Nat} : ∀ {rk : List RK} {vs : List V} {us : List Value} {ys : Outs rk} {gs os : List Nat}, VRs x vs us → getOut x.mem rk vs = some (ys, gs, os) →
    (∀ g, okF x gs g → x'.ok g) → (∀ b ∈ os, x'.loc d = x.loc b ∧ isArr (x'.mem d)) → VRs x' (outV d rk ys) us
  | [], [], us, ys, gs, os, h, _, _, _ => h
  | [], _ :: _, _, _, _, _, _, h, _, _ => by simp [getOut] at h
  | .dat t :: r, [], _, _, _, _, _, h, _, _ => by simp [getOut] at h
  | .dat t :: r, v :: vs, us, ys, gs, os, ⟨u, q, e, hv, hr⟩, h, hok, hos => by
    simp only [getOut] at h
    cases hsh : shape t v
    · rw [hsh] at h; cases h
    · rw [hsh] at h
      simp only [cond_true] at h
      cases h1 : decV x.mem t v with
      | none => simp only [h1, reduceCtorEq] at h
      | some p =>
        obtain ⟨y, f1⟩ := p
        cases h2 : getOut x.mem r vs with
        | none => simp only [h1, h2, reduceCtorEq] at h
        | some p2 =>
          obtain ⟨ys', g', o'⟩ := p2
          simp only [h1, h2, Option.some.injEq, Prod.mk.injEq] at h
          obtain ⟨rfl, rfl, rfl⟩ := h
          have hrd := decV_sound hbr hv (decV_sure h1) h1
          refine ⟨u, q, e, shape_VR hbr hv (decV_sure h1) hsh ?_, outs_sound hbr hw hr h2 (fun g hg => hok g (okF_append2 hg)) hos⟩
          rw [hw]
          exact RdC_ok' (fun g hg => hok g (okF_append1 hg)) hrd
  | .own t e :: r, [], _, _, _, _, _, h, _, _ => by simp [getOut] at h
  | .own t e :: r, v :: vs, us, ys, gs, os, ⟨u, q, eq, hv, hr⟩, h, hok, hos => by
    cases v <;> simp only [getOut, reduceCtorEq] at h
    rename_i b
    cases hmb : x.mem b <;> simp only [hmb, reduceCtorEq] at h
    rename_i t' e' xs
    cases h2 : getOut x.mem r vs with
    | none => simp only [h2, reduceCtorEq] at h
    | some p2 =>
      obtain ⟨ys', g', o'⟩ := p2
      simp only [h2] at h
      split at h
      · rename_i he
        subst he
        cases hb : Nat.beq t' t
        · rw [hb] at h; cases h
        · rw [hb] at h
          simp only [cond_true, Option.some.injEq, Prod.mk.injEq] at h
          obtain ⟨rfl, rfl, rfl⟩ := h
          obtain ⟨hl, ha⟩ := hos b (List.mem_cons_self ..)
          refine ⟨u, q, eq, ⟨by rw [hv.1, hl], ha⟩, outs_sound hbr hw hr h2 hok (fun b hb => hos b (List.mem_cons_of_mem _ hb))⟩
      · cases h

theorem outs_scalar {x x' : Cx} (hbr : ∀ b, BR x b (x.mem b)) {d : Nat} : ∀ {rk : List RK} {vs : List V} {us : List Value} {ys : Outs rk} {gs os : List Nat}, scalar rk = true → VRs x vs us → getOut x.mem rk vs = some (ys, gs, os) → VRs x' (outV d rk ys) us
  | [], [], us, ys, gs, os, _, h, _ => h
  | [], _ :: _, _, _, _, _, _, _, h => by simp [getOut] at h
  | .own t e :: r, _, _, _, _, _, hs, _, _ => by simp [scalar] at hs
  | .dat t :: r, [], _, _, _, _, _, _, h => by simp [getOut] at h
  | .dat t :: r, v :: vs, us, ys, gs, os, hs, ⟨u, q, e, hv, hr⟩, h => by
    simp only [getOut] at h
    cases hsh : shape t v
    · rw [hsh] at h; cases h
    · rw [hsh] at h
      simp only [cond_true] at h
      cases h1 : decV x.mem t v with
      | none => simp only [h1, reduceCtorEq] at h
      | some p =>
        obtain ⟨y, f1⟩ := p
        cases h2 : getOut x.mem r vs with
        | none => simp only [h1, h2, reduceCtorEq] at h
        | some p2 =>
          obtain ⟨ys', g', o'⟩ := p2
          simp only [h1, h2, Option.some.injEq, Prod.mk.injEq] at h
          obtain ⟨rfl, rfl, rfl⟩ := h
          have hrd := decV_sound hbr hv (decV_sure h1) h1
          have hsr : scalar r = true := by cases t <;> simp_all [scalar]
          refine ⟨u, q, e, shape_VR hbr hv (decV_sure h1) hsh ?_, outs_scalar hbr hsr hr h2⟩
          cases t <;> first | exact hrd | simp [scalar] at hs

theorem apartN_iff : ∀ {l m : List Nat}, apartN l m = true → ∀ b ∈ l, b ∉ m
  | [], _, _, b, hb => by simp at hb
  | x :: r, m, h, b, hb => by
    simp only [apartN] at h
    cases hx : hasN m x
    · rw [hx] at h
      rcases List.mem_cons.1 hb with rfl | hb
      · intro hm; rw [hasN_iff.2 hm] at hx; cases hx
      · exact apartN_iff h b hb
    · rw [hx] at h; cases h

theorem outV_len (d : Nat) : ∀ (rk : List RK) (ys : Outs rk), (outV d rk ys).length = rk.length
  | [], _ => rfl
  | .dat _ :: r, ys => by rw [outV, List.length_cons, List.length_cons, outV_len d r]
  | .own _ _ :: r, ys => by rw [outV, List.length_cons, List.length_cons, outV_len d r]

theorem unret_ne {n : Nat} {v : V} {vs : List V} (hne : n ≠ 1) (hu : unret n v = some vs) : v = .tuple vs := by
  unfold unret at hu
  split at hu
  · exact absurd rfl hne
  · cases v <;> simp only [reduceCtorEq, Option.some.injEq] at hu
    rw [hu]

/-- A result, or a tuple of them. -/
theorem ret_sound {x x' : Cx} {n : Nat} {v : V} {u : Value} {vs : List V} (hu : unret n v = some vs) (hv : VR x v u) {ws : List V} (hn : ws.length = n) (hws : ∀ us, VRs x vs us → VRs x' ws us) : VR x' (retV ws) u := by
  have big : n ≠ 1 → VR x' (retV ws) u := fun hne => by
    have hu' : v = .tuple vs := unret_ne hne hu
    subst hu'
    obtain ⟨us, rfl, hs⟩ := hv
    have hr : retV ws = .tuple ws := by
      match ws, hn with
      | [], _ => rfl
      | [x], hn => exact absurd hn.symm hne
      | _ :: _ :: _, _ => rfl
    rw [hr]
    exact ⟨us, rfl, hws us hs⟩
  by_cases h1 : n = 1
  · subst h1
    have hu : vs = [v] := (Option.some.inj hu).symm
    subst hu
    match ws, hn with
    | [x], _ =>
      obtain ⟨u', q, e, hx, _⟩ := hws [u] ⟨u, [], rfl, hv, rfl⟩
      injection e with e1 _
      subst e1
      exact hx
  · exact big h1

theorem K0_some {rk : List RK} {v : V} {s : St} {ys : Outs rk} (h : K0 rk v s = some ys) : ∃ vs gs os, unret rk.length v = some vs ∧ getOut s.mem rk vs = some (ys, gs, os) ∧ ∀ b ∈ os, b ∉ gs := by
  unfold K0 at h
  cases hu : unret rk.length v with
  | none => simp only [hu, reduceCtorEq] at h
  | some vs =>
    simp only [hu] at h
    cases hg : getOut s.mem rk vs with
    | none => simp only [hg, reduceCtorEq] at h
    | some p =>
      obtain ⟨y, gs, os⟩ := p
      simp only [hg] at h
      cases ha : apartN os gs
      · rw [ha] at h; cases h
      · rw [ha] at h
        simp only [cond_true, Option.some.injEq] at h
        subst h
        exact ⟨vs, gs, os, rfl, hg, apartN_iff ha⟩

theorem enter_of {fn : Func} {f : FuncId} (hf : P.funcs[f]? = some fn) (hname : (fn.name == "runtime.NumGoroutine") = false) (hbody : fn.body.isNone = false) (args : Array Value) (w : World) : (callFunc f args).run P w = .ok (.enter f args) w := by
  have h1 : ¬ fn.name = "runtime.NumGoroutine" := by simpa using hname
  have h2 : ¬ fn.body = none := fun e => by rw [e] at hbody; cases hbody
  simp [callFunc, Sem.run_bind, hf, h1, h2]

/-- Numbers, truth values and texts. -/
theorem specS_ok (hm : P.follows .mixedOrders = true) {fn : Func} {f : FuncId} (hf : P.funcs[f]? = some fn) (hname : (fn.name == "runtime.NumGoroutine") = false) (hbody : fn.body.isNone = false) (hfn : fn.ntmps = c.nt) (htb : tabB P c.tb = true) (hT : TblOk P c.tbl) (hS : ∀ b, fn.body = some b → LoopsOk P c b)
    {ts : List Ty} {rk : List RK} {pre : Args ts → Bool} {g : Args ts → Outs rk} (hlen : ts.length ≤ c.nt) (hsc : scalar rk = true) (hb : ∀ xs, pre xs = true → execF c fn (encs ts xs) [] (K0 rk) = some (g xs)) : SpecOk P f (specS ts rk pre g) := by
  refine ⟨specS_put, specS_keep, enter_of hf hname hbody, fun F s loc a w args us d v s' h hus hsp => ?_⟩
  simp only [specS] at hsp
  cases hd : decs s.mem ts args with
  | none => rw [hd] at hsp; cases hsp
  | some p =>
    obtain ⟨xs, fs⟩ := p
    rw [hd] at hsp
    simp only [Option.some.injEq, Prod.mk.injEq] at hsp
    obtain ⟨hp, rfl, rfl⟩ := hsp
    refine Calls.mono (call_body hm hf hfn htb hT hS hlen (hb xs hp) h hus hd) ?_
    rintro e w' ⟨u, v2, s2, loc2, a2, rfl, hK, hr, hv⟩
    obtain ⟨vs, gs, os, hu, hg, _⟩ := K0_some hK
    have hk := hr.kept
    refine ⟨u, loc, rfl, h.grow (fun k hk' => hk.block k hk' (fun h => h)) hk.size hk.os hk.tape hk.output, ?_⟩
    exact ret_sound hu hv (outV_len d rk _) (fun us hus => outs_scalar hr.blk hsc hus hg)

theorem specOf_ok (hm : P.follows .mixedOrders = true) {fn : Func} {f : FuncId} (hf : P.funcs[f]? = some fn) (hname : (fn.name == "runtime.NumGoroutine") = false) (hbody : fn.body.isNone = false) (hfn : fn.ntmps = c.nt) (htb : tabB P c.tb = true) (hT : TblOk P c.tbl) (hS : ∀ b, fn.body = some b → LoopsOk P c b)
    {ts : List Ty} {rk : List RK} {pre : Args ts → Bool} {g : Args ts → Outs rk} (hlen : ts.length ≤ c.nt) (hone : oneOwn rk = true) (hb : ∀ xs, pre xs = true → execF c fn (encs ts xs) [] (K0 rk) = some (g xs)) : SpecOk P f (specOf ts rk pre g) := by
  refine ⟨specOf_put, specOf_keep, enter_of hf hname hbody, fun F s loc a w args us d v s' h hus hsp => ?_⟩
  simp only [specOf] at hsp
  cases hd : decs s.mem ts args with
  | none => rw [hd] at hsp; cases hsp
  | some p =>
    obtain ⟨xs, fs⟩ := p
    rw [hd] at hsp
    simp only at hsp
    cases hfr : (bif hasOwn rk then s.free d else true)
    · rw [hfr] at hsp; cases hsp
    rw [hfr] at hsp
    simp only [cond_true, Option.some.injEq, Prod.mk.injEq] at hsp
    obtain ⟨hp, rfl, rfl⟩ := hsp
    refine Calls.mono (call_body hm hf hfn htb hT hS hlen (hb xs hp) h hus hd) ?_
    rintro e w' ⟨u, v2, s2, loc2, a2, rfl, hK, hr, hv⟩
    obtain ⟨vs, gs, os, hu, hgo, hap⟩ := K0_some hK
    have hk := hr.kept
    have hw0 : (frOf F s loc w fs c.nt).w0 = w := rfl
    have hfz := h.freeze fs
    -- what the callee saw, and left, is good in the caller's eyes
    have hgood : ∀ g, okF (cxOf (frOf F s loc w fs c.nt) s2 loc2 w') gs g → (g < w'.heap.size ∧ ¬ F.hide g) ∧ ¬ owned (s.freeze fs).mem loc g := by
      intro g hg
      have new : w.heap.size ≤ g → g < w'.heap.size → (g < w'.heap.size ∧ ¬ F.hide g) ∧ ¬ owned (s.freeze fs).mem loc g := fun hge hlt => by
        refine ⟨⟨hlt, fun hh => ?_⟩, fun ⟨b, hb, hbg⟩ => ?_⟩
        · have := (F.hl g hh).1
          have := h.kept.size
          omega
        · have := h.lt (freeze_mem fs s b hb).1 hbg
          omega
      rcases hg with hg | ⟨b, hb, hlb, hbg⟩
      · by_cases hge : w.heap.size ≤ g
        · exact new hge hg.1.1
        · have hlt : g < w.heap.size := by omega
          have hnh : ¬ (frOf F s loc w fs c.nt).hide g := hg.1.2
          refine ⟨⟨hg.1.1, fun hh => hnh ⟨hlt, .inl hh⟩⟩, fun ⟨b, hb, hbg⟩ => ?_⟩
          obtain ⟨hb1, hb2⟩ := freeze_mem fs s b hb
          refine hnh ⟨hlt, .inr ⟨⟨b, hb1, hbg⟩, ?_⟩⟩
          rintro ⟨b', hb', hlb', hbg'⟩
          have := h.inj b' b g hlb' hb1 hbg' hbg
          subst this
          exact hb2 hb'
      · rcases hr.low b g hlb hbg with h1 | h1
        · exact h1.elim
        · exact new h1 (hr.lt hlb hbg)
    rcases getOut_own (d := d) hone hgo with ⟨ho, hno, hM⟩ | ⟨hown, b, t, e, ys, ho, hmb, hM⟩
    · rw [hM]
      subst ho
      refine ⟨u, loc, rfl, hfz.grow (fun k hk' => hk.block k hk' (fun h => h)) hk.size hk.os hk.tape hk.output, ?_⟩
      refine ret_sound hu hv (outV_len d rk _) (fun us hus => outs_sound (x' := cxOf F (s.freeze fs) loc w') hr.blk rfl hus hgo (fun g hg => hgood g hg) (fun b hb => by cases hb))
    · rw [hM]
      subst ho
      rw [hown] at hfr
      simp only [cond_true] at hfr
      have hdead : (s.freeze fs).mem d = .dead := by
        refine freeze_dead fs s d ?_
        unfold St.free at hfr
        cases hm : s.mem d <;> simp [hm] at hfr
        rfl
      have hlb : live s2.mem b := fun e => by rw [hmb] at e; cases e
      have hval : ∀ g, blkOf (loc2 b) = some g → w.heap.size ≤ g := fun g hg => by
        rcases hr.low b g hlb hg with h1 | h1
        · exact h1.elim
        · exact h1
      have hok : ∀ g, okF (cxOf (frOf F s loc w fs c.nt) s2 loc2 w') gs g → okOf F ((s.freeze fs).blk d (.arr t e ys)).mem (upd loc d (loc2 b)) w' g := by
        intro g hg
        obtain ⟨h1, h2⟩ := hgood g hg
        refine ⟨h1, fun ⟨b', hb', hbg'⟩ => ?_⟩
        by_cases hbd : b' = d
        · subst hbd
          rw [upd_same] at hbg'
          rcases hg with hg | ⟨b2, hb2, hlb2, hbg2⟩
          · exact hg.2 ⟨b, hlb, hbg'⟩
          · have := hr.inj b2 b g hlb2 hlb hbg2 hbg'
            subst this
            exact hap b2 (List.mem_cons_self ..) hb2
        · rw [upd_other _ _ _ hbd] at hbg'
          refine h2 ⟨b', ?_, hbg'⟩
          unfold live at hb' ⊢
          rw [show ((s.freeze fs).blk d (.arr t e ys)).mem b' = (s.freeze fs).mem b' from upd_other _ _ _ hbd] at hb'
          exact hb'
      have hbr2 := hr.blk b
      rw [hmb] at hbr2
      obtain ⟨flat, hrow, hels⟩ := hbr2
      have hrel := hfz.adopt (w' := w') (fun k hk' => hk.block k hk' (fun h => h)) hk.size hk.os hk.tape hk.output hdead (.arr t e ys) (loc2 b) hval (by
        refine ⟨flat, ?_, Els.mono (fun y q hq => RdC_ok' (fun g hg => hok g (.inl hg)) hq) hels⟩
        show w'.ownsRow 0 t e.size (upd loc d (loc2 b) d) ys.length flat
        rw [upd_same]; exact hrow)
      refine ⟨u, upd loc d (loc2 b), rfl, hrel, ?_⟩
      refine ret_sound hu hv (outV_len d rk _) (fun us hus => outs_sound (x' := cxOf F ((s.freeze fs).blk d (.arr t e ys)) (upd loc d (loc2 b)) w') hr.blk rfl hus hgo hok (fun b' hb' => ?_))
      have : b' = b := by simpa using hb'
      subst this
      exact ⟨upd_same _ _ _, by show isArr (upd (s.freeze fs).mem d (.arr t e ys) d); rw [upd_same]; trivial⟩
end
end AM
namespace AM
open Go

/-! ### 1. A value that is just the encoding of data -/
def getC : (t : Ty) → List V → Option (t.T × List V)
  | .int k, v :: r => match v with
    | .int k' n => if k' = k then some (n, r) else none
    | _ => none
  | .bool, v :: r => match v with
    | .bool b => some (b, r)
    | _ => none
  | .str, v :: r => match v with
    | .str s => some (s, r)
    | _ => none
  | .slice e, v :: r => match v with
    | .im e' xs => if h : e' = e then some (h ▸ xs, r) else none
    | _ => none
  | .pair a b, cs => match getC a cs with
    | some (x, r) => match getC b r with
      | some (y, r') => some ((x, y), r')
      | none => none
    | none => none
  | .last a, cs => getC a cs
  | .ref e, v :: r => match v with
    | .nilp => some (none, r)
    | .at_ e' x => if h : e' = e then some (some (h ▸ x), r) else none
    | _ => none
  | _, _ => none
def getE (t : Ty) (v : V) : Option t.T :=
  match (bif t.agg then (match v with | .agg cs => getC t cs | _ => none) else getC t [v]) with
  | some (x, []) => some x
  | _ => none

theorem getC_spec : ∀ (t : Ty) {cs : List V} {x : t.T} {r : List V}, getC t cs = some (x, r) → cs = enc t x ++ r
  | .int k, [], x, r, h => by simp [getC] at h
  | .int k, v :: q, x, r, h => by
    cases v <;> simp only [getC, reduceCtorEq] at h
    split at h
    · rename_i hk
      subst hk
      simp only [Option.some.injEq, Prod.mk.injEq] at h
      obtain ⟨rfl, rfl⟩ := h
      rfl
    · cases h
  | .bool, [], x, r, h => by simp [getC] at h
  | .bool, v :: q, x, r, h => by
    cases v <;> simp only [getC, reduceCtorEq, Option.some.injEq, Prod.mk.injEq] at h
    obtain ⟨rfl, rfl⟩ := h
    rfl
  | .str, [], x, r, h => by simp [getC] at h
  | .str, v :: q, x, r, h => by
    cases v <;> simp only [getC, reduceCtorEq, Option.some.injEq, Prod.mk.injEq] at h
    obtain ⟨rfl, rfl⟩ := h
    rfl
  | .slice e, [], x, r, h => by simp [getC] at h
  | .slice e, v :: q, x, r, h => by
    cases v <;> simp only [getC, reduceCtorEq] at h
    split at h
    · rename_i hk
      subst hk
      simp only [Option.some.injEq, Prod.mk.injEq] at h
      obtain ⟨rfl, rfl⟩ := h
      rfl
    · cases h
  | .pair a b, cs, x, r, h => by
    simp only [getC] at h
    cases h1 : getC a cs with
    | none => simp only [h1, reduceCtorEq] at h
    | some p =>
      obtain ⟨y, q⟩ := p
      simp only [h1] at h
      cases h2 : getC b q with
      | none => simp only [h2, reduceCtorEq] at h
      | some p2 =>
        obtain ⟨z, q2⟩ := p2
        simp only [h2, Option.some.injEq, Prod.mk.injEq] at h
        obtain ⟨rfl, rfl⟩ := h
        rw [getC_spec a h1, getC_spec b h2]
        simp [enc]
  | .last a, cs, x, r, h => getC_spec a (by simpa only [getC] using h)
  | .ref e, [], x, r, h => by simp [getC] at h
  | .ref e, v :: q, x, r, h => by
    cases v <;> simp only [getC, reduceCtorEq] at h
    · split at h
      · rename_i hk
        subst hk
        simp only [Option.some.injEq, Prod.mk.injEq] at h
        obtain ⟨rfl, rfl⟩ := h
        rfl
      · cases h
    · simp only [Option.some.injEq, Prod.mk.injEq] at h
      obtain ⟨rfl, rfl⟩ := h
      rfl
  | .vec n e, cs, x, r, h => by cases cs <;> simp [getC] at h

theorem getE_spec {t : Ty} {v : V} {x : t.T} (h : getE t v = some x) : v = encV t x := by
  unfold getE at h
  unfold encV
  cases ha : t.agg
  · rw [ha] at h
    simp only [cond_false] at h
    cases hg : getC t [v] with
    | none => simp only [hg, reduceCtorEq] at h
    | some p =>
      obtain ⟨y, r⟩ := p
      rw [hg] at h
      cases r with
      | cons _ _ => simp at h
      | nil =>
        simp only [Option.some.injEq] at h
        subst h
        have := getC_spec t hg
        rw [List.append_nil] at this
        simp only [mkV, cond_false, ← this, List.headD_cons]
  · rw [ha] at h
    simp only [cond_true] at h
    cases v with
    | agg cs =>
      simp only at h
      cases hg : getC t cs with
      | none => simp only [hg, reduceCtorEq] at h
      | some p =>
        obtain ⟨y, r⟩ := p
        rw [hg] at h
        cases r with
        | cons _ _ => simp at h
        | nil =>
          simp only [Option.some.injEq] at h
          subst h
          have := getC_spec t hg
          rw [List.append_nil] at this
          simp only [mkV, cond_true, ← this]
    | _ => simp only [reduceCtorEq] at h

/-! ### 2. Slots -/
inductive SK where
  | dat (t : Ty)
  | own (t : TypeId) (e : Ty)
  | iter (b : Nat)
abbrev Slots := List (Nat × SK)
@[reducible] def SK.T : SK → Type
  | .dat t => t.T
  | .own _ e => List e.T
  | .iter _ => ByteArray × Nat
@[reducible] def SX : Slots → Type
  | [] => Unit
  | (_, k) :: r => k.T × SX r
def valS (k : Nat) : (sk : SK) → sk.T → V
  | .dat t, x => encV t x
  | .own _ _, _ => .own k
  | .iter b, _ => .ptr b 0
def envS : (l : Slots) → SX l → List (Nat × V)
  | [], _ => []
  | (k, sk) :: r, x => (k, valS k sk x.1) :: envS r x.2
def ownS : (l : Slots) → SX l → List (Nat × Blk)
  | [], _ => []
  | (k, .own t e) :: r, x => (k, .arr t e x.1) :: ownS r x.2
  | (_, .dat _) :: r, x => ownS r x.2
  | (_, .iter _) :: r, x => ownS r x.2
def iterS : (l : Slots) → SX l → List (Nat × Blk)
  | [], _ => []
  | (_, .iter b) :: r, x => (b, .iter x.1.1 x.1.2) :: iterS r x.2
  | (_, .dat _) :: r, x => iterS r x.2
  | (_, .own _ _) :: r, x => iterS r x.2
/-- The state that holds just this. -/
def mkS (l : Slots) (x : SX l) : St := stOf (envS l x) (ownS l x ++ iterS l x)
def ownsN : Slots → List (Nat × TypeId × Ty)
  | [] => []
  | (k, .own t e) :: r => (k, t, e) :: ownsN r
  | (_, .dat _) :: r => ownsN r
  | (_, .iter _) :: r => ownsN r
def keepN : Slots → List Nat
  | [] => []
  | (_, .iter b) :: r => b :: keepN r
  | (_, .dat _) :: r => keepN r
  | (_, .own _ _) :: r => keepN r
def normS (l : Slots) : Norm := { live := l.map (·.1), own := ownsN l, keep := keepN l }
def getK (s : St) (k : Nat) : (sk : SK) → Option sk.T
  | .dat t => getE t (s.env k)
  | .own t e => match s.env k with
    | .own b => bif Nat.beq b k then (match s.mem k with
      | .arr t' e' xs => if h : e' = e then (bif Nat.beq t' t then some (h ▸ xs) else none) else none
      | _ => none) else none
    | _ => none
  | .iter b => match s.env k with
    | .ptr b' 0 => bif Nat.beq b' b then (match s.mem b with
      | .iter t p => some (t, p)
      | _ => none) else none
    | _ => none
def getS (s : St) : (l : Slots) → Option (SX l)
  | [] => some ()
  | (k, sk) :: r => match getK s k sk, getS s r with
    | some x, some y => some (x, y)
    | _, _ => none

theorem getK_val {s : St} {k : Nat} {sk : SK} {x : sk.T} (h : getK s k sk = some x) : s.env k = valS k sk x := by
  cases sk with
  | dat t => exact getE_spec h
  | own t e =>
    simp only [getK] at h
    cases he : s.env k <;> simp only [he, reduceCtorEq] at h
    rename_i b
    cases hb : Nat.beq b k
    · rw [hb] at h; cases h
    · rw [Nat.eq_of_beq_eq_true hb]; rfl
  | iter b =>
    simp only [getK] at h
    cases he : s.env k <;> simp only [he, reduceCtorEq] at h
    rename_i b' off
    cases off with
    | succ n => simp only [reduceCtorEq] at h
    | zero =>
      simp only at h
      cases hb : Nat.beq b' b
      · rw [hb] at h; cases h
      · rw [Nat.eq_of_beq_eq_true hb]; rfl
theorem getK_own {s : St} {k : Nat} {t : TypeId} {e : Ty} {x : List e.T} (h : getK s k (.own t e) = some x) : s.mem k = .arr t e x := by
  simp only [getK] at h
  cases he : s.env k <;> simp only [he, reduceCtorEq] at h
  rename_i b
  cases hb : Nat.beq b k
  · rw [hb] at h; cases h
  · rw [hb] at h
    simp only [cond_true] at h
    cases hm : s.mem k <;> simp only [hm, reduceCtorEq] at h
    rename_i t' e' xs
    split at h
    · rename_i hh
      subst hh
      cases ht : Nat.beq t' t
      · rw [ht] at h; cases h
      · rw [ht] at h
        simp only [cond_true, Option.some.injEq] at h
        rw [Nat.eq_of_beq_eq_true ht, ← h]
    · cases h
theorem getK_iter {s : St} {k b : Nat} {x : ByteArray × Nat} (h : getK s k (.iter b) = some x) : s.mem b = .iter x.1 x.2 := by
  simp only [getK] at h
  cases he : s.env k <;> simp only [he, reduceCtorEq] at h
  rename_i b' off
  cases off with
  | succ n => simp only [reduceCtorEq] at h
  | zero =>
    simp only at h
    cases hb : Nat.beq b' b
    · rw [hb] at h; cases h
    · rw [hb] at h
      simp only [cond_true] at h
      cases hm : s.mem b <;> simp only [hm, reduceCtorEq, Option.some.injEq] at h
      rw [← h]

theorem getS_env {s : St} {f : Nat → V} : ∀ {l : Slots} {x : SX l}, getS s l = some x → (∀ k ∈ l.map (·.1), s.env k = f k) → (l.map (·.1)).map (fun k => (k, f k)) = envS l x
  | [], _, _, _ => rfl
  | (k, sk) :: r, x, h, hf => by
    simp only [getS] at h
    cases h1 : getK s k sk with
    | none => simp only [h1, reduceCtorEq] at h
    | some y =>
      cases h2 : getS s r with
      | none => simp only [h1, h2, reduceCtorEq] at h
      | some z =>
        simp only [h1, h2, Option.some.injEq] at h
        subst h
        simp only [List.map_cons, envS]
        rw [← hf k (by simp), getK_val h1, getS_env h2 (fun j hj => hf j (by simp only [List.map_cons, List.mem_cons]; exact .inr hj))]
theorem getS_own {s : St} {g : Nat → Blk} : ∀ {l : Slots} {x : SX l}, getS s l = some x → (∀ k ∈ (ownsN l).map (·.1), s.mem k = g k) → ((ownsN l).map (·.1)).map (fun k => (k, g k)) = ownS l x
  | [], _, _, _ => rfl
  | (k, sk) :: r, x, h, hf => by
    simp only [getS] at h
    cases h1 : getK s k sk with
    | none => simp only [h1, reduceCtorEq] at h
    | some y =>
      cases h2 : getS s r with
      | none => simp only [h1, h2, reduceCtorEq] at h
      | some z =>
        simp only [h1, h2, Option.some.injEq] at h
        subst h
        cases sk with
        | dat t => exact getS_own (l := r) (x := z) h2 hf
        | iter b => exact getS_own (l := r) (x := z) h2 hf
        | own t e =>
          simp only [ownsN, List.map_cons, ownS]
          rw [← hf k (by simp [ownsN]), getK_own h1, getS_own h2 (fun j hj => hf j (by simp only [ownsN, List.map_cons, List.mem_cons]; exact .inr hj))]
theorem getS_iter {s : St} {g : Nat → Blk} : ∀ {l : Slots} {x : SX l}, getS s l = some x → (∀ k ∈ keepN l, s.mem k = g k) → (keepN l).map (fun k => (k, g k)) = iterS l x
  | [], _, _, _ => rfl
  | (k, sk) :: r, x, h, hf => by
    simp only [getS] at h
    cases h1 : getK s k sk with
    | none => simp only [h1, reduceCtorEq] at h
    | some y =>
      cases h2 : getS s r with
      | none => simp only [h1, h2, reduceCtorEq] at h
      | some z =>
        simp only [h1, h2, Option.some.injEq] at h
        subst h
        cases sk with
        | dat t => exact getS_iter (l := r) (x := z) h2 hf
        | own t e => exact getS_iter (l := r) (x := z) h2 hf
        | iter b =>
          simp only [keepN, List.map_cons, iterS]
          rw [← hf b (by simp [keepN]), getK_iter h1, getS_iter h2 (fun j hj => hf j (by simp only [keepN, List.mem_cons]; exact .inr hj))]

theorem lookV_mem (f : Nat → V) : ∀ {l : List Nat} {i : Nat}, i ∈ l → lookV (l.map fun k => (k, f k)) i = f i
  | k :: r, i, h => by
    simp only [List.map_cons, lookV]
    by_cases hi : i = k
    · subst hi; rw [beq_self]; rfl
    · rw [beq_ne hi]
      rcases List.mem_cons.1 h with h | h
      · exact absurd h hi
      · exact lookV_mem f h

/-- A state that reads as this is this. -/
theorem norm_get {s : St} {l : Slots} {x : SX l} (h : getS ((normS l).run s) l = some x) : (normS l).run s = mkS l x := by
  have e1 := getS_env (f := fun k => only (normS l).names ((s.canon (normS l).own).env k)) h (fun k hk => lookV_mem (fun k => only (normS l).names ((s.canon (normS l).own).env k)) hk)
  have hb : ∀ b ∈ (normS l).names, ((normS l).run s).mem b = onlyB (normS l).names ((s.canon (normS l).own).mem b) := fun b hb => (lookB_map _ (normS l).names b).2 (hasN_iff.2 hb)
  have e2 := getS_own (g := fun b => onlyB (normS l).names ((s.canon (normS l).own).mem b)) h (fun k hk => hb k (List.mem_append_left _ hk))
  have e3 := getS_iter (g := fun b => onlyB (normS l).names ((s.canon (normS l).own).mem b)) h (fun k hk => hb k (List.mem_append_right _ hk))
  show stOf ((l.map (·.1)).map (fun k => (k, only (normS l).names ((s.canon (normS l).own).env k)))) (((ownsN l).map (·.1) ++ keepN l).map (fun b => (b, onlyB (normS l).names ((s.canon (normS l).own).mem b)))) = mkS l x
  rw [e1, List.map_append, e2, e3]
  rfl

/-! ### 3. Rounds -/
inductive LEnd (A B : Type) where
  | out (z : A)
  | ret (z : B)
/-- Rounds: a round goes on, or ends. -/
def rounds {X E : Type} (f : X → (X → Option E) → (E → Option E) → Option E) : Nat → X → Option E
  | 0, _ => none
  | n + 1, x => f x (rounds f n) some

def FUEL : Nat := 4611686018427387904

def sumOf (head out ret : Slots) (eid : Nat) (f : SX head → Option (LEnd (SX out) (SX ret))) : LoopSum where
  sem := fun s K => match getS ((normS head).run s) head with
    | some x => match f x with
      | some (.out z) => K (.exit eid) (mkS out z)
      | some (.ret z) => K .ret (mkS ret z)
      | none => none
    | none => none
def annOf (head out ret : Slots) : Ann := ⟨normS head, normS out, normS ret⟩

/-- A round, as the machine runs it. -/
def bodyK {R : Type} (c : Cfg) (b : Code) (head out ret : Slots) (x : SX head) (again : St → Option R) (K : Ex → St → Option R) : Option R :=
  exec c b (mkS head x) (fun ex s' => match ex with
    | .normal => again ((normS head).run s')
    | .exit i => K (.exit i) ((normS out).run s')
    | .ret => K .ret ((normS ret).run s'))

/-- A round in plain words: 'f' gets what is done next for each end. -/
def Body (c : Cfg) (b : Code) (head out ret : Slots) (eid : Nat) (f : {E : Type} → SX head → (SX head → Option E) → (LEnd (SX out) (SX ret) → Option E) → Option E) : Prop :=
  ∀ {R : Type} (x : SX head) (again : St → Option R) (K : Ex → St → Option R),
    bodyK c b head out ret x again K = f x (fun y => again (mkS head y)) (fun e => match e with | .out z => K (.exit eid) (mkS out z) | .ret z => K .ret (mkS ret z))

/-- A round does not look at what is done next. -/
def Para {X E : Type} (f : {R : Type} → X → (X → Option R) → (E → Option R) → Option R) : Prop :=
  ∀ {R : Type} (x : X) (again : X → Option R) (K : E → Option R) (again' : X → Option E), (∀ y, again y = (again' y).bind K) → f x again K = (f x again' some).bind K

theorem loop_rounds {c : Cfg} {b : Code} {head out ret : Slots} {eid : Nat} {f : {E : Type} → SX head → (SX head → Option E) → (LEnd (SX out) (SX ret) → Option E) → Option E}
    (hb : Body c b head out ret eid f) (hp : Para (X := SX head) (E := LEnd (SX out) (SX ret)) f) {R : Type} (K : Ex → St → Option R) : ∀ (n : Nat) (x : SX head),
    loopK (fun s K => exec c b s K) (annOf head out ret) K n (mkS head x) = (rounds (f (E := LEnd (SX out) (SX ret))) n x).bind (fun e => match e with | .out z => K (.exit eid) (mkS out z) | .ret z => K .ret (mkS ret z))
  | 0, x => rfl
  | n + 1, x => by
    have h1 : loopK (fun s K => exec c b s K) (annOf head out ret) K (n + 1) (mkS head x) = bodyK c b head out ret x (fun s => loopK (fun s K => exec c b s K) (annOf head out ret) K n s) K := rfl
    rw [h1, hb]
    exact hp x _ _ (rounds (f (E := LEnd (SX out) (SX ret))) n) (fun y => loop_rounds hb hp K n y)

theorem loopOk_sum {P : Program} {c : Cfg} (hm : P.follows .mixedOrders = true) (htb : tabB P c.tb = true) (hT : TblOk P c.tbl) {b : Code} (hS : LoopsOk P c b)
    {head out ret : Slots} {eid : Nat} {f : {E : Type} → SX head → (SX head → Option E) → (LEnd (SX out) (SX ret) → Option E) → Option E}
    (hb : Body c b head out ret eid f) (hp : Para (X := SX head) (E := LEnd (SX out) (SX ret)) f) (N : SX head → Nat)
    (hsum : c.sum (regId b) = some (sumOf head out ret eid (fun x => rounds (f (E := LEnd (SX out) (SX ret))) (N x) x))) : LoopOk P c b := by
  refine loopOk_of hm htb hT hS (annOf head out ret) (fun L hL R s K r hk => ?_)
  rw [hsum] at hL
  have hL := Option.some.inj hL
  subst hL
  simp only [sumOf] at hk
  cases hg : getS ((normS head).run s) head with
  | none => simp only [hg, reduceCtorEq] at hk
  | some x =>
    simp only [hg] at hk
    refine ⟨N x, ?_⟩
    show loopK _ _ K (N x) ((normS head).run s) = some r
    rw [norm_get hg, loop_rounds hb hp]
    cases hr : rounds (f (E := LEnd (SX out) (SX ret))) (N x) x with
    | none => simp only [hr, reduceCtorEq] at hk
    | some e =>
      rw [hr] at hk
      cases e <;> exact hk
end AM
namespace AM
open Go

/-! ### 1. What lives -/
def lessN (x : Nat) : List Nat → List Nat
  | [] => []
  | y :: r => bif Nat.beq x y then lessN x r else y :: lessN x r
def tmpsOf : List Operand → List Nat
  | [] => []
  | .tmp t :: r => t :: tmpsOf r
  | _ :: r => tmpsOf r
def liveOps (all : List Oper) : List Oper → List Nat → List Nat
  | [], l => l
  | o :: r, l =>
    let l' := liveOps all r l
    let l1 := match o.guard with
      | none => (match o.dst with | some d => lessN d l' | none => l')
      | some (j, _) => (let l2 := (match o.dst with | some d => lessN d l' | none => l'); match guardSlot all j with | some g => addN g l2 | none => l2)
    unionN (tmpsOf o.op.operands.toList) l1
def iterN {α : Type} (f : α → α) : Nat → α → α
  | 0, x => x
  | n + 1, x => iterN f n (f x)
def liveC : Code → List Nat → (Nat → List Nat) → List Nat → List Nat
  | .region _ ops _, l, _, _ => liveOps ops.toList ops.toList l
  | .seq a b, l, ex, rt => liveC a (liveC b l ex rt) ex rt
  | .cond x a b, l, ex, rt => unionN (tmpsOf [x]) (unionN (liveC a l ex rt) (liveC b l ex rt))
  | .block id b, l, ex, rt => liveC b l (fun i => bif Nat.beq i id then l else ex i) rt
  | .loop b, _, ex, rt => iterN (fun l => unionN (liveC b l ex rt) l) 3 []
  | .exit id, _, ex, _ => ex id
  | .ret, _, _, rt => rt
  | .scope b, l, ex, rt => liveC b l ex rt
  | _, l, _, _ => l
def exitsOf : Code → List Nat
  | .seq a b => exitsOf a ++ exitsOf b
  | .cond _ a b => exitsOf a ++ exitsOf b
  | .block _ b => exitsOf b
  | .loop b => exitsOf b
  | .exit id => [id]
  | .scope b => exitsOf b
  | _ => []
/-- The loops, with what lives at the head, at an exit, at a return. -/
def lives : Code → List Nat → (Nat → List Nat) → List Nat → List (Nat × List Nat × List Nat × List Nat)
  | .seq a b, l, ex, rt => lives a (liveC b l ex rt) ex rt ++ lives b l ex rt
  | .cond _ a b, l, ex, rt => lives a l ex rt ++ lives b l ex rt
  | .block id b, l, ex, rt => lives b l (fun i => bif Nat.beq i id then l else ex i) rt
  | .loop b, _, ex, rt =>
    let h := iterN (fun l => unionN (liveC b l ex rt) l) 3 []
    (regId b, h, (exitsOf b).foldr (fun i l => unionN (ex i) l) [], rt) :: lives b h ex rt
  | .scope b, l, ex, rt => lives b l ex rt
  | _, _, _, _ => []
/-- Of which type is a slot? -/
def typesC : Code → List (Nat × TypeId)
  | .region _ ops _ => ops.toList.filterMap fun o => match o.dst with | some d => some (d, o.type) | none => none
  | .seq a b => typesC a ++ typesC b
  | .cond _ a b => typesC a ++ typesC b
  | .block _ b => typesC b
  | .loop b => typesC b
  | .scope b => typesC b
  | _ => []
def ownOf (tb : Tab) (ty : List (Nat × TypeId)) : List Nat → List (Nat × TypeId × Ty)
  | [] => []
  | k :: r => match ty.lookup k with
    | some t => (match tb.get t with
      | some { kd := .slice et, .. } => (match tb.get et with
        | some { ty := some e, .. } => (k, et, e) :: ownOf tb ty r
        | _ => ownOf tb ty r)
      | _ => ownOf tb ty r)
    | none => ownOf tb ty r
def normOf (tb : Tab) (ty : List (Nat × TypeId)) (l : List Nat) : Norm := { live := l, own := ownOf tb ty l, keep := [], auto := true }
def resTmps : List ResultVar → List Nat
  | [] => []
  | .tmp t :: r => t :: resTmps r
  | .cell a _ :: r => a :: resTmps r
def annsOf (tb : Tab) (fn : Func) : List (Nat × Ann) :=
  match fn.body with
  | some b =>
    let ty := typesC b
    (lives b (resTmps fn.results.toList) (fun _ => []) (resTmps fn.results.toList)).map fun q => (q.1, ⟨normOf tb ty q.2.1, normOf tb ty q.2.2.1, normOf tb ty q.2.2.2⟩)
  | none => []
def annAt (l : List (Nat × Ann)) (i : Nat) : Ann := match l.lookup i with
  | some a => a
  | none => ⟨⟨[], [], [], false⟩, ⟨[], [], [], false⟩, ⟨[], [], [], false⟩⟩

/-! ### 2. A function as it stands -/
def cfgOf (tb : Tab) (tbl : Tbl) (fn : Func) : Cfg := { tb := tb, tbl := tbl, nt := fn.ntmps, ann := annAt (annsOf tb fn), fuel := FUEL }
def runOf (tb : Tab) (tbl : Tbl) (fn : Func) (ts : List Ty) (rk : List RK) (xs : Args ts) : Option (Outs rk) := execF (cfgOf tb tbl fn) fn (encs ts xs) [] (K0 rk)
def outD : (rk : List RK) → Outs rk
  | [] => ()
  | .dat t :: r => (t.d, outD r)
  | .own _ _ :: r => ([], outD r)
/-- The contract of a function that is run as it stands. -/
def specRun (tb : Tab) (tbl : Tbl) (fn : Func) (ts : List Ty) (rk : List RK) : Spec :=
  bif scalar rk then specS ts rk (fun xs => (runOf tb tbl fn ts rk xs).isSome) (fun xs => (runOf tb tbl fn ts rk xs).getD (outD rk))
  else specOf ts rk (fun xs => (runOf tb tbl fn ts rk xs).isSome) (fun xs => (runOf tb tbl fn ts rk xs).getD (outD rk))

theorem specRun_ok {P : Program} {tb : Tab} {tbl : Tbl} (hm : P.follows .mixedOrders = true) {fn : Func} {f : FuncId} (hf : P.funcs[f]? = some fn) (hname : (fn.name == "runtime.NumGoroutine") = false) (hbody : fn.body.isNone = false) (htb : tabB P tb = true) (hT : TblOk P tbl)
    {ts : List Ty} {rk : List RK} (hlen : Nat.ble ts.length fn.ntmps = true) (hone : oneOwn rk = true) : SpecOk P f (specRun tb tbl fn ts rk) := by
  have hS : ∀ b, fn.body = some b → LoopsOk P (cfgOf tb tbl fn) b := fun b _ p _ L hL => by cases hL
  have hb : ∀ xs, (runOf tb tbl fn ts rk xs).isSome = true → execF (cfgOf tb tbl fn) fn (encs ts xs) [] (K0 rk) = some ((runOf tb tbl fn ts rk xs).getD (outD rk)) := fun xs h => by
    show runOf tb tbl fn ts rk xs = _
    cases hr : runOf tb tbl fn ts rk xs with
    | none => rw [hr] at h; cases h
    | some y => rfl
  unfold specRun
  cases hsc : scalar rk
  · exact specOf_ok (c := cfgOf tb tbl fn) hm hf hname hbody rfl htb hT hS (Nat.le_of_ble_eq_true hlen) hone hb
  · exact specS_ok (c := cfgOf tb tbl fn) hm hf hname hbody rfl htb hT hS (Nat.le_of_ble_eq_true hlen) hsc hb

def addT (t : Tbl) (f : FuncId) (sp : Spec) : Tbl := fun g => bif Nat.beq g f then some sp else t g
theorem addT_ok {P : Program} {t : Tbl} {f : FuncId} {sp : Spec} (h : TblOk P t) (hs : SpecOk P f sp) : TblOk P (addT t f sp) := fun g q hq => by
  unfold addT at hq
  by_cases hg : g = f
  · subst hg
    rw [beq_self] at hq
    simp only [cond_true, Option.some.injEq] at hq
    subst hq; exact hs
  · rw [beq_ne hg] at hq
    exact h g q hq
end AM
namespace AM
open Go

/-! ### 1. Kinds -/
/-- Data; a pointer to data, not nil; a slice of one's own; a pointer to a struct of one's own ('back': it stays the caller's); a function with what it has captured. -/
inductive FK where
  | unit
  | dat (t : Ty)
  | nn (t : Ty)
  | own (t : TypeId) (e : Ty)
  | obj (back : Bool) (t : TypeId) (f : FK)
  | fn (f : FuncId) (cs : FK)
  | pair (a b : FK)
@[reducible] def FK.T : FK → Type
  | .unit => Unit
  | .dat t => t.T
  | .nn t => t.T
  | .own _ e => List e.T
  | .obj _ _ f => f.T
  | .fn _ c => c.T
  | .pair a b => a.T × b.T
/-- How many blocks there are. -/
def FK.cnt : FK → Nat
  | .unit | .dat _ | .nn _ => 0
  | .own _ _ => 1
  | .obj _ _ f => f.cnt + 1
  | .fn _ c => c.cnt
  | .pair a b => a.cnt + b.cnt
def encX (nm : Nat → Nat) (flat : Bool) (i : Nat) : (k : FK) → k.T → List V
  | .unit, _ => []
  | .dat t, x => bif flat then enc t x else [encV t x]
  | .nn t, x => [.at_ t x]
  | .own _ _, _ => [.own (nm i)]
  | .obj _ _ _, _ => [.ptr (nm i) 0]
  | .fn f c, x => [.fn f (encX nm false i c x)]
  | .pair a b, x => encX nm flat i a x.1 ++ encX nm flat (i + a.cnt) b x.2
def memX (nm : Nat → Nat) (i : Nat) : (k : FK) → k.T → List (Nat × Blk)
  | .unit, _ => []
  | .dat _, _ => []
  | .nn _, _ => []
  | .own t e, x => [(nm i, .arr t e x)]
  | .obj _ t f, x => (nm i, .cells t (encX nm true (i + 1) f x)) :: memX nm (i + 1) f x
  | .fn _ c, x => memX nm i c x
  | .pair a b, x => memX nm i a x.1 ++ memX nm (i + a.cnt) b x.2

/-- Where a block comes from. -/
inductive Src where
  | nil
  | blk (b : Nat)
  | sub (b len : Nat)
def Src.names : Src → List Nat
  | .nil => []
  | .blk b => [b]
  | .sub b _ => [b]
def locS (loc : Nat → Value) : Src → Value
  | .nil => .slice none 0 0
  | .blk b => loc b
  | .sub b len => match loc b with
    | .slice A _ c => .slice A len c
    | v => v
def ownX (t : TypeId) (e : Ty) (r : List V) (src : Src) (f : List e.T → List e.T) : Blk → Option (List e.T × List V × List Nat × List Src)
  | .arr t' e' xs => if h : e' = e then (bif Nat.beq t' t then some (f (h ▸ xs), r, [], [src]) else none) else none
  | _ => none
/-- Values back as what they stand for: it; the other values; the blocks of the data; where the blocks come from. -/
def decX (m : Nat → Blk) : (flat : Bool) → (k : FK) → List V → Option (k.T × List V × List Nat × List Src)
  | _, .unit, vs => some ((), vs, [], [])
  | true, .dat t, vs => match dec m t vs with
    | some (x, r, fs) => some (x, r, fs, [])
    | none => none
  | false, .dat t, v :: r => bif shape t v then (match decV m t v with
    | some (x, fs) => some (x, r, fs, [])
    | none => none) else none
  | _, .nn t, v :: r => bif shape (.ref t) v then (match decV m (.ref t) v with
    | some (some x, fs) => some (x, r, fs, [])
    | _ => none) else none
  | _, .own t e, v :: r => match v with
    | .own b => ownX t e r (.blk b) (fun xs => xs) (m b)
    | .ownsub b 0 len => ownX t e r (.sub b len) (fun xs => xs.take len) (m b)
    | .nils => some ([], r, [], [.nil])
    | _ => none
  | _, .obj _ t f, v :: r => match v with
    | .ptr b 0 => (match m b with
      | .cells t' cs => bif Nat.beq t' t then (match decX m true f cs with
        | some (x, [], fs, ss) => some (x, r, fs, .blk b :: ss)
        | _ => none) else none
      | _ => none)
    | _ => none
  | _, .fn f c, v :: r => match v with
    | .fn g vs => bif Nat.beq g f then (match decX m false c vs with
      | some (x, [], fs, ss) => some (x, r, fs, ss)
      | _ => none) else none
    | _ => none
  | flat, .pair a b, vs => match decX m flat a vs with
    | some (x, r, fs, ss) => (match decX m flat b r with
      | some (y, r', gs, qs) => some ((x, y), r', fs ++ gs, ss ++ qs)
      | none => none)
    | none => none
  | _, _, _ => none

/-! ### 2. From one frame to another one -/
/-- Data that lie in no other block. -/
def Ty.flat : Ty → Bool
  | .int _ | .bool | .str => true
  | .slice _ | .ref _ => false
  | .pair a b => a.flat && b.flat
  | .last a => a.flat
  | .vec _ e => e.flat
def FK.flat : FK → Bool
  | .unit => true
  | .dat t => t.flat
  | .nn _ => false
  | .own _ e => e.flat
  | .obj _ _ f => f.flat
  | .fn _ c => c.flat
  | .pair a b => a.flat && b.flat
theorem RdC_flat {ok ok' : Nat → Prop} {w w' : World} : ∀ (t : Ty), t.flat = true → ∀ {x : t.T} {us : List Value}, RdC ok w t x us → RdC ok' w' t x us
  | .int _, _, _, _, h => h
  | .bool, _, _, _, h => h
  | .str, _, _, _, h => h
  | .slice _, hf, _, _, _ => by cases hf
  | .ref _, hf, _, _, _ => by cases hf
  | .pair a b, hf, _, _, ⟨p, q, h, hp, hq⟩ => by
    simp only [Ty.flat, Bool.and_eq_true] at hf
    exact ⟨p, q, h, RdC_flat a hf.1 hp, RdC_flat b hf.2 hq⟩
  | .last a, hf, _, _, h => RdC_flat a hf h
  | .vec n e, hf, _, _, ⟨h, he⟩ => ⟨h, Els.mono (fun x us hx => RdC_flat e hf hx) he⟩
section
variable {x x' : Cx} {nm : Nat → Nat}

theorem ownX_inv {t : TypeId} {e : Ty} {r : List V} {src : Src} {f : List e.T → List e.T} {b : Blk} {xs : List e.T} {rest : List V} {fs : List Nat} {ss : List Src} (h : ownX t e r src f b = some (xs, rest, fs, ss)) :
    ∃ ys, b = .arr t e ys ∧ xs = f ys ∧ rest = r ∧ fs = [] ∧ ss = [src] := by
  unfold ownX at h
  cases b <;> simp only [reduceCtorEq] at h
  rename_i t' e' ys
  split at h
  · rename_i he
    subst he
    cases ht : Nat.beq t' t
    · rw [ht] at h; cases h
    · rw [ht] at h
      simp only [cond_true, Option.some.injEq, Prod.mk.injEq] at h
      obtain ⟨rfl, rfl, rfl, rfl⟩ := h
      rw [Nat.eq_of_beq_eq_true ht]
      exact ⟨_, rfl, rfl, rfl, rfl, rfl⟩
  · cases h

theorem okF_app1 {x : Cx} {fs gs : List Nat} {g : Nat} (h : okF x fs g) : okF x (fs ++ gs) g := okF_append1 h

theorem decX_sound (hbr : ∀ b, BR x b (x.mem b)) (hw : x'.w = x.w) : ∀ (k : FK) (flat : Bool) (i : Nat) {vs : List V} {us : List Value} {xs : k.T} {rest : List V} {fs : List Nat} {ss : List Src}, VRs x vs us → decX x.mem flat k vs = some (xs, rest, fs, ss) →
    (k.flat = true ∨ ∀ g, okF x fs g → x'.ok g) → (∀ j s, ss[j]? = some s → x'.loc (nm (i + j)) = locS x.loc s) → (∀ p ∈ memX nm i k xs, x'.mem p.1 = p.2) →
    ss.length = k.cnt ∧ (∃ us1 us2, us = us1 ++ us2 ∧ VRs x' (encX nm flat i k xs) us1 ∧ VRs x rest us2) ∧ ∀ p ∈ memX nm i k xs, BR x' p.1 p.2
  | .unit, flat, i, vs, us, xs, rest, fs, ss, hv, h, hok, hl, hm => by
    have h : some ((), vs, [], []) = some (xs, rest, fs, ss) := by cases flat <;> exact h
    simp only [Option.some.injEq, Prod.mk.injEq] at h
    obtain ⟨_, rfl, rfl, rfl⟩ := h
    exact ⟨rfl, ⟨[], us, rfl, rfl, hv⟩, fun p hp => by cases hp⟩
  | .dat t, true, i, vs, us, xs, rest, fs, ss, hv, h, hok, hl, hm => by
    simp only [decX] at h
    cases hd : dec x.mem t vs with
    | none => simp only [hd, reduceCtorEq] at h
    | some q =>
      obtain ⟨y, r, f⟩ := q
      simp only [hd, Option.some.injEq, Prod.mk.injEq] at h
      obtain ⟨rfl, rfl, rfl, rfl⟩ := h
      obtain ⟨p, q, e, hp, hq⟩ := dec_sound hbr t hv hd
      refine ⟨rfl, ⟨p, q, e, ?_, hq⟩, fun p hp => by cases hp⟩
      show VRs x' (enc t y) p
      exact VRs_enc t (by rw [hw]; exact hok.elim (fun hf => RdC_flat t hf hp) (fun hok => RdC_ok hok hp))
  | .dat t, false, i, [], us, xs, rest, fs, ss, hv, h, hok, hl, hm => by simp [decX] at h
  | .dat t, false, i, v :: vs, us, xs, rest, fs, ss, ⟨u, q, e, hv, hr⟩, h, hok, hl, hm => by
    simp only [decX] at h
    cases hsh : shape t v
    · rw [hsh] at h; cases h
    · rw [hsh] at h
      simp only [cond_true] at h
      cases hd : decV x.mem t v with
      | none => simp only [hd, reduceCtorEq] at h
      | some p =>
        obtain ⟨y, f⟩ := p
        simp only [hd, Option.some.injEq, Prod.mk.injEq] at h
        obtain ⟨rfl, rfl, rfl, rfl⟩ := h
        have hs := decV_sure hd
        have hrd := decV_sound hbr hv hs hd
        refine ⟨rfl, ⟨[u], q, e, ⟨u, [], rfl, shape_VR hbr hv hs hsh ?_, rfl⟩, hr⟩, fun p hp => by cases hp⟩
        rw [hw]
        exact hok.elim (fun hf => RdC_flat t hf hrd) (fun hok => RdC_ok' hok hrd)
  | .nn t, flat, i, [], us, xs, rest, fs, ss, hv, h, hok, hl, hm => by cases flat <;> simp [decX] at h
  | .nn t, flat, i, v :: vs, us, xs, rest, fs, ss, ⟨u, q, e, hv, hr⟩, h, hok, hl, hm => by
    have h : (bif shape (.ref t) v then (match decV x.mem (.ref t) v with
      | some (some x, fs) => some (x, vs, fs, [])
      | _ => none) else none) = some (xs, rest, fs, ss) := by cases flat <;> exact h
    cases hsh : shape (.ref t) v
    · rw [hsh] at h; cases h
    rw [hsh] at h
    simp only [cond_true] at h
    cases hd : decV x.mem (.ref t) v with
    | none => simp only [hd, reduceCtorEq] at h
    | some p =>
      obtain ⟨y, f⟩ := p
      cases y with
      | none => simp only [hd, reduceCtorEq] at h
      | some y =>
        simp only [hd, Option.some.injEq, Prod.mk.injEq] at h
        obtain ⟨rfl, rfl, rfl, rfl⟩ := h
        have hok : ∀ g, okF x f g → x'.ok g := hok.elim (fun hf => by cases hf) (fun h => h)
        have hrd := decV_sound hbr hv (decV_sure hd) hd
        refine ⟨rfl, ⟨[u], q, e, ⟨u, [], rfl, ?_, rfl⟩, hr⟩, fun p hp => by cases hp⟩
        exact shape_VR (t := .ref t) (y := some y) hbr hv (decV_sure hd) hsh (by rw [hw]; exact RdC_ok' hok hrd)
  | .own t e, flat, i, [], us, xs, rest, fs, ss, hv, h, hok, hl, hm => by cases flat <;> simp [decX] at h
  | .own t e, flat, i, v :: vs, us, xs, rest, fs, ss, ⟨u, q, eq, hv, hr⟩, h, hok, hl, hm => by
    have hmi : x'.mem (nm i) = .arr t e xs := hm (nm i, .arr t e xs) (List.mem_cons_self ..)
    have fin : (∃ src, ss = [src] ∧ u = locS x.loc src) → fs = [] → rest = vs → (∃ flat, x.w.ownsRow 0 t e.size u xs.length flat ∧ Els (fun y q => RdC x.ok x.w e y q) xs flat) →
        ss.length = (FK.own t e).cnt ∧ (∃ us1 us2, us = us1 ++ us2 ∧ VRs x' (encX nm flat i (.own t e) xs) us1 ∧ VRs x rest us2) ∧ ∀ p ∈ memX nm i (.own t e) xs, BR x' p.1 p.2 := by
      rintro ⟨src, rfl, hu⟩ rfl rfl ⟨fl, ho, he⟩
      have hli : x'.loc (nm i) = u := by rw [hu]; exact hl 0 src rfl
      refine ⟨rfl, ⟨[u], q, eq, ⟨u, [], rfl, ⟨hli.symm, by rw [hmi]; trivial⟩, rfl⟩, hr⟩, fun p hp => ?_⟩
      have hp : p = (nm i, .arr t e xs) := by simpa [memX] using hp
      subst hp
      refine ⟨fl, by rw [hw, hli]; exact ho, Els.mono (fun y q hq => by rw [hw]; exact hok.elim (fun hf => RdC_flat e hf hq) (fun hok => RdC_ok' (fun g hg => hok g (.inl hg)) hq)) he⟩
    cases v with
    | own b =>
      have h : ownX t e vs (.blk b) (fun xs => xs) (x.mem b) = some (xs, rest, fs, ss) := by cases flat <;> exact h
      obtain ⟨ys, hb, rfl, rfl, rfl, rfl⟩ := ownX_inv h
      have hbb := hbr b
      rw [hb] at hbb
      obtain ⟨fl, ho, he⟩ := hbb
      exact fin ⟨_, rfl, hv.1⟩ rfl rfl ⟨fl, by rw [hv.1]; exact ho, he⟩
    | ownsub b off len =>
      cases off with
      | succ n => cases flat <;> simp [decX] at h
      | zero =>
        have h : ownX t e vs (.sub b len) (fun xs => xs.take len) (x.mem b) = some (xs, rest, fs, ss) := by cases flat <;> exact h
        obtain ⟨ys, hb, rfl, rfl, rfl, rfl⟩ := ownX_inv h
        have hbb := hbr b
        rw [hb] at hbb
        obtain ⟨fl, ho, he⟩ := hbb
        obtain ⟨t', e', xs', A, n, c, hm', hloc, hle, c', hlc, hcc, hu⟩ := hv
        rw [hb] at hm'
        injection hm' with h1 h2 h3
        subst h1; subst h2
        have h3 := eq_of_heq h3
        subst h3
        have hcc : c' = c := by omega
        subst hcc
        have hlen2 : (ys.take len).length = len := by rw [List.length_take]; omega
        have hels := Els.take (fun y q hq => RdC.len e hq) len he
        rcases hu with ⟨hA, hu⟩ | ⟨g, hA, hu | ⟨_, h0, _⟩⟩
        · subst hA
          refine fin ⟨_, rfl, by rw [hu]; simp only [locS, hloc]⟩ rfl rfl ⟨fl.take (len * e.size), ?_, hels⟩
          rcases ho.2 with ⟨h1, _⟩ | ⟨g, cap, cur, h1, _⟩
          · rw [hloc] at h1
            injection h1 with _ _ h1
            subst h1
            have : len = 0 := by omega
            subst this
            rw [hu, hlen2]
            exact ⟨by simp, .inl ⟨rfl, rfl⟩⟩
          · rw [hloc] at h1; injection h1 with h1; cases h1
        · subst hA
          have hu' : u = .slice (some ⟨g, 0, none⟩) len c' := by rw [hu]; simp
          refine fin ⟨_, rfl, by rw [hu']; simp only [locS, hloc]⟩ rfl rfl ⟨fl.take (len * e.size), ?_, hels⟩
          have hn : n = ys.length := by
            rcases ho.2 with ⟨h1, _⟩ | ⟨g, cap, cur, h1, _⟩
            · rw [hloc] at h1; injection h1 with h1; cases h1
            · rw [hloc] at h1; injection h1
          rw [hu', hlen2]
          subst hn
          exact own_prefix (by rw [← hloc]; exact ho) (by omega)
        · exact absurd rfl h0
    | nils =>
      have h : some (([] : List e.T), vs, ([] : List Nat), [Src.nil]) = some (xs, rest, fs, ss) := by cases flat <;> exact h
      simp only [Option.some.injEq, Prod.mk.injEq] at h
      obtain ⟨rfl, rfl, rfl, rfl⟩ := h
      exact fin ⟨_, rfl, hv⟩ rfl rfl ⟨[], by rw [show u = _ from hv]; exact ⟨by simp, .inl ⟨rfl, rfl⟩⟩, rfl⟩
    | _ => cases flat <;> simp [decX] at h
  | .obj bk t f, flat, i, [], us, xs, rest, fs, ss, hv, h, hok, hl, hm => by cases flat <;> simp [decX] at h
  | .obj bk t f, flat, i, v :: vs, us, xs, rest, fs, ss, ⟨u, q, eq, hv, hr⟩, h, hok, hl, hm => by
    cases v <;> try (cases flat <;> simp [decX] at h <;> done)
    rename_i b off
    cases off with
    | succ n => cases flat <;> simp [decX] at h
    | zero =>
      have h : (match x.mem b with
        | .cells t' cs => bif Nat.beq t' t then (match decX x.mem true f cs with
          | some (x, [], fs, ss) => some (x, vs, fs, .blk b :: ss)
          | _ => none) else none
        | _ => none) = some (xs, rest, fs, ss) := by cases flat <;> exact h
      cases hb : x.mem b <;> simp only [hb, reduceCtorEq] at h
      rename_i t' cs
      cases ht : Nat.beq t' t
      · rw [ht] at h; cases h
      rw [ht] at h
      simp only [cond_true] at h
      have ht := Nat.eq_of_beq_eq_true ht
      subst ht
      cases hd : decX x.mem true f cs with
      | none => simp only [hd, reduceCtorEq] at h
      | some p =>
        obtain ⟨y, r, f1, s1⟩ := p
        cases r with
        | cons _ _ => simp only [hd, reduceCtorEq] at h
        | nil =>
          simp only [hd, Option.some.injEq, Prod.mk.injEq] at h
          obtain ⟨rfl, rfl, rfl, rfl⟩ := h
          have hbb := hbr b
          rw [hb] at hbb
          obtain ⟨g, cu, e, hg, hcs, h1⟩ := hbb
          obtain ⟨hc, ⟨us1, us2, e1, hv1, hv2⟩, hbs⟩ := decX_sound hbr hw f true (i + 1) hcs hd hok (fun j s hj => by
            have := hl (j + 1) s (by simpa using hj)
            rwa [show i + (j + 1) = i + 1 + j by omega] at this) (fun p hp => hm p (List.mem_cons_of_mem _ hp))
          have h2 : us2 = [] := hv2
          subst h2
          rw [List.append_nil] at e1
          subst e1
          have hli : x'.loc (nm i) = x.loc b := hl 0 (.blk b) rfl
          have hmi : x'.mem (nm i) = .cells t' (encX nm true (i + 1) f y) := hm (nm i, _) (List.mem_cons_self ..)
          obtain ⟨_, g', hl', hu⟩ := hv
          refine ⟨by simp [FK.cnt, hc], ⟨[u], q, eq, ⟨u, [], rfl, ⟨by rw [hmi]; trivial, g', by rw [hli]; exact hl', hu⟩, rfl⟩, hr⟩, fun p hp => ?_⟩
          rcases List.mem_cons.1 hp with rfl | hp
          · exact ⟨g, cu, by rw [hli]; exact e, by rw [hw]; exact hg, hv1, h1⟩
          · exact hbs p hp
  | .fn f c, flat, i, [], us, xs, rest, fs, ss, hv, h, hok, hl, hm => by cases flat <;> simp [decX] at h
  | .fn f c, flat, i, v :: vs, us, xs, rest, fs, ss, ⟨u, q, eq, hv, hr⟩, h, hok, hl, hm => by
    cases v <;> try (cases flat <;> simp [decX] at h <;> done)
    rename_i g ws
    have h : (bif Nat.beq g f then (match decX x.mem false c ws with
      | some (x, [], fs, ss) => some (x, vs, fs, ss)
      | _ => none) else none) = some (xs, rest, fs, ss) := by cases flat <;> exact h
    cases hg : Nat.beq g f
    · rw [hg] at h; cases h
    rw [hg] at h
    simp only [cond_true] at h
    have hg := Nat.eq_of_beq_eq_true hg
    subst hg
    cases hd : decX x.mem false c ws with
    | none => simp only [hd, reduceCtorEq] at h
    | some p =>
      obtain ⟨y, r, f1, s1⟩ := p
      cases r with
      | cons _ _ => simp only [hd, reduceCtorEq] at h
      | nil =>
        simp only [hd, Option.some.injEq, Prod.mk.injEq] at h
        obtain ⟨rfl, rfl, rfl, rfl⟩ := h
        obtain ⟨cu, e, hcs⟩ := hv
        obtain ⟨hc, ⟨us1, us2, e1, hv1, hv2⟩, hbs⟩ := decX_sound hbr hw c false i hcs hd hok hl hm
        have h2 : us2 = [] := hv2
        subst h2
        rw [List.append_nil] at e1
        subst e1
        exact ⟨hc, ⟨[u], q, eq, ⟨u, [], rfl, ⟨_, e, hv1⟩, rfl⟩, hr⟩, hbs⟩
  | .pair a b, flat, i, vs, us, xs, rest, fs, ss, hv, h, hok, hl, hm => by
    have h : (match decX x.mem flat a vs with
      | some (x_1, r, fs, ss) => (match decX x.mem flat b r with
        | some (y, r', gs, qs) => some ((x_1, y), r', fs ++ gs, ss ++ qs)
        | none => none)
      | none => none) = some (xs, rest, fs, ss) := by cases flat <;> exact h
    cases h1 : decX x.mem flat a vs with
    | none => simp only [h1, reduceCtorEq] at h
    | some p =>
      obtain ⟨y, r, f1, s1⟩ := p
      simp only [h1] at h
      cases h2 : decX x.mem flat b r with
      | none => simp only [h2, reduceCtorEq] at h
      | some p2 =>
        obtain ⟨z, r2, f2, s2⟩ := p2
        simp only [h2, Option.some.injEq, Prod.mk.injEq] at h
        obtain ⟨rfl, rfl, rfl, rfl⟩ := h
        obtain ⟨hc1, ⟨ua, ub, e1, hva, hvb⟩, hb1⟩ := decX_sound hbr hw a flat i hv h1 (hok.elim (fun hf => .inl (by simp only [FK.flat, Bool.and_eq_true] at hf; exact hf.1)) (fun hok => .inr fun g hg => hok g (okF_append1 hg))) (fun j s hj => hl j s (by rw [List.getElem?_append_left (List.getElem?_eq_some_iff.1 hj).1]; exact hj)) (fun p hp => hm p (List.mem_append_left _ hp))
        obtain ⟨hc2, ⟨uc, ud, e2, hvc, hvd⟩, hb2⟩ := decX_sound hbr hw b flat (i + a.cnt) hvb h2 (hok.elim (fun hf => .inl (by simp only [FK.flat, Bool.and_eq_true] at hf; exact hf.2)) (fun hok => .inr fun g hg => hok g (okF_append2 hg))) (fun j s hj => by
          have := hl (s1.length + j) s (by rw [List.getElem?_append_right (by omega)]; simpa using hj)
          rwa [hc1, show i + (a.cnt + j) = i + a.cnt + j by omega] at this) (fun p hp => hm p (List.mem_append_right _ hp))
        refine ⟨by simp [FK.cnt, hc1, hc2], ⟨ua ++ uc, ud, by rw [e1, e2, List.append_assoc], VRs.append hva hvc, hvd⟩, fun p hp => ?_⟩
        rcases List.mem_append.1 hp with hp | hp
        · exact hb1 p hp
        · exact hb2 p hp
end
end AM
namespace AM
open Go

/-! ### 1. The contract -/
def chain : List FK → FK
  | [] => .unit
  | k :: r => .pair k (chain r)
/-- Which blocks stay the caller's. -/
def bkX : FK → List Bool
  | .unit | .dat _ | .nn _ => []
  | .own _ _ => [false]
  | .obj b _ f => b :: List.replicate f.cnt false
  | .fn _ c => bkX c
  | .pair a b => bkX a ++ bkX b
/-- The objects that come back. -/
def blX : FK → List FK
  | .unit | .dat _ | .nn _ | .own _ _ => []
  | .obj b t f => bif b then [.obj true t f] else []
  | .fn _ c => blX c
  | .pair a b => blX a ++ blX b
def bsN : List Bool → List Src → List Nat
  | true :: r, .blk b :: q => b :: bsN r q
  | _ :: r, _ :: q => bsN r q
  | _, _ => []
def dsN : List Bool → List Src → List Nat
  | true :: r, .blk _ :: q => dsN r q
  | _ :: r, s :: q => s.names ++ dsN r q
  | _, _ => []
def srcN (ss : List Src) : List Nat := ss.flatMap Src.names
def St.kills (s : St) : List Nat → St
  | [] => s
  | b :: r => (s.kill b).kills r
def St.deads (s : St) : List Nat → St
  | [] => s
  | b :: r => (s.blk b .dead).deads r
def St.blks (s : St) : List (Nat × Blk) → St
  | [] => s
  | p :: r => (s.blks r).blk p.1 p.2
def namR (d n : Nat) : List Nat := (List.range n).map fun i => (d + 1) * 4294967296 + i
def namB : List FK → List Nat → List Nat
  | k :: r, b :: bs => (b :: (List.range (k.cnt - 1)).map fun i => (b + 1) * 4294967296 + 2147483648 + i) ++ namB r bs
  | _, _ => []
def nthN (l : List Nat) (i : Nat) : Nat := match nth l i with | some n => n | none => 0
/-- A callee's names for what it is lent. -/
def calN (i : Nat) : Nat := 1152921504606846976 + i
def ixs : Nat → List Bool → List Nat
  | _, [] => []
  | i, true :: r => i :: ixs (i + 1) r
  | i, false :: r => ixs (i + 1) r
/-- The slots kept along: pointers to what comes back. -/
def ghA : Nat → List Nat → List (Nat × V)
  | _, [] => []
  | j, i :: r => (GH + j, .ptr (calN i) 0) :: ghA (j + 1) r
def gsX (k : FK) : List (Nat × V) := ghA 0 (ixs 0 (bkX k))
def ghosts (s : St) (n : Nat) : List V := (List.range n).map fun j => s.env (GH + j)
def outX (aks rks : List FK) : FK := chain (rks ++ blX (chain aks))
def KX (aks rks : List FK) (v : V) (s : St) : Option (outX aks rks).T :=
  match unret rks.length v with
  | some vs => (match decX s.mem false (outX aks rks) (vs ++ ghosts s (blX (chain aks)).length) with
    | some (y, [], fs, ss) => bif nodupB (srcN ss) && apartN (srcN ss) fs && Nat.beq vs.length rks.length then some y else none
    | _ => none)
  | none => none
def nsX (aks rks : List FK) (d : Nat) (ss : List Src) : List Nat := namR d (chain rks).cnt ++ namB (blX (chain aks)) (bsN (bkX (chain aks)) ss)
/-- What has gone into data stays as it is, if what comes back may be a part of it. -/
def St.frzIf (s : St) (fz : Bool) (fs : List Nat) : St := bif fz then s.freeze fs else s
def fzX (aks rks : List FK) : Bool := !(outX aks rks).flat
/-- The caller's state behind the call. -/
def backX (aks rks : List FK) (s : St) (d : Nat) (fs : List Nat) (ss : List Src) (y : (outX aks rks).T) : St :=
  (((s.frzIf (fzX aks rks) fs).kills (dsN (bkX (chain aks)) ss)).deads (dsN (bkX (chain aks)) ss)).blks (memX (nthN (nsX aks rks d ss)) 0 (outX aks rks) y)
def roomX (aks rks : List FK) (s : St) (d : Nat) (fs : List Nat) (ss : List Src) : Bool :=
  nodupB (srcN ss) && apartN (srcN ss) fs && nodupB (nsX aks rks d ss) && Nat.beq (nsX aks rks d ss).length (outX aks rks).cnt &&
    (nsX aks rks d ss).all fun n => bif hasN (bsN (bkX (chain aks)) ss) n then true else (((s.frzIf (fzX aks rks) fs).kills (dsN (bkX (chain aks)) ss)).deads (dsN (bkX (chain aks)) ss)).free n
def specX (aks rks : List FK) (pre : (chain aks).T → Bool) (f : (chain aks).T → (outX aks rks).T) : Spec where
  run := fun args s d => match decX s.mem false (chain aks) args with
    | some (xs, [], fs, ss) => bif Nat.beq args.length aks.length && roomX aks rks s d fs ss then
        some (pre xs, retV ((encX (nthN (nsX aks rks d ss)) false 0 (outX aks rks) (f xs)).take rks.length), backX aks rks s d fs ss (f xs)) else none
    | _ => none
  tw := fun args m d => match decX m false (chain aks) args with
    | some (_, _, fs, ss) => fs ++ srcN ss ++ nsX aks rks d ss
    | none => []

/-! ### 2. Lists of names -/
section
variable {P : Program} {F : Fr} {c : Cfg} {R : Type} {r : R} {s s' : St} {loc : Nat → Value} {a : Act} {w w' : World}

theorem memX_names (nm : Nat → Nat) : ∀ (k : FK) (i : Nat) (x : k.T), (memX nm i k x).map (·.1) = (List.range k.cnt).map fun j => nm (i + j)
  | .unit, i, x => rfl
  | .dat _, i, x => rfl
  | .nn _, i, x => rfl
  | .own _ _, i, x => by simp [memX, FK.cnt]
  | .obj _ t f, i, x => by
    simp only [memX, List.map_cons, memX_names nm f (i + 1) x, FK.cnt, List.range_succ_eq_map, List.map_map]
    congr 1
    exact List.map_congr_left (fun j _ => by show nm (i + 1 + j) = nm (i + (j + 1)); congr 1; omega)
  | .fn _ c, i, x => memX_names nm c i x
  | .pair a b, i, x => by
    simp only [memX, List.map_append, memX_names nm a i x.1, memX_names nm b (i + a.cnt) x.2, FK.cnt, List.range_add, List.map_map]
    congr 1
    exact List.map_congr_left (fun j _ => by show nm (i + a.cnt + j) = nm (i + (a.cnt + j)); congr 1; omega)

theorem lookB_mem : ∀ {l : List (Nat × Blk)} {n : Nat} {x : Blk}, (l.map (·.1)).Nodup → (n, x) ∈ l → lookB l n = x
  | (k, y) :: r, n, x, hd, h => by
    simp only [List.map_cons, List.nodup_cons] at hd
    simp only [lookB]
    rcases List.mem_cons.1 h with h | h
    · injection h with h1 h2
      subst h1; subst h2
      rw [beq_self]; rfl
    · have : n ≠ k := fun e => hd.1 (List.mem_map.2 ⟨(n, x), h, e⟩)
      rw [beq_ne this]
      exact lookB_mem hd.2 h
theorem lookB_out : ∀ {l : List (Nat × Blk)} {n : Nat}, n ∉ l.map (·.1) → lookB l n = .dead
  | [], _, _ => rfl
  | (k, y) :: r, n, h => by
    simp only [List.map_cons, List.mem_cons, not_or] at h
    simp only [lookB]
    rw [beq_ne h.1]
    exact lookB_out h.2
theorem blks_env (s : St) : ∀ (l : List (Nat × Blk)), (s.blks l).env = s.env
  | [] => rfl
  | p :: r => blks_env s r
theorem blks_in (s : St) : ∀ {l : List (Nat × Blk)} {n : Nat} {x : Blk}, (l.map (·.1)).Nodup → (n, x) ∈ l → (s.blks l).mem n = x
  | (k, y) :: r, n, x, hd, h => by
    simp only [List.map_cons, List.nodup_cons] at hd
    simp only [St.blks]
    rcases List.mem_cons.1 h with h | h
    · injection h with h1 h2
      subst h1; subst h2
      exact upd_same _ _ _
    · have : n ≠ k := fun e => hd.1 (List.mem_map.2 ⟨(n, x), h, e⟩)
      show upd (s.blks r).mem k y n = x
      rw [upd_other _ _ _ this]
      exact blks_in s hd.2 h
theorem blks_out (s : St) : ∀ {l : List (Nat × Blk)} {n : Nat}, n ∉ l.map (·.1) → (s.blks l).mem n = s.mem n
  | [], _, _ => rfl
  | (k, y) :: r, n, h => by
    simp only [List.map_cons, List.mem_cons, not_or] at h
    show upd (s.blks r).mem k y n = _
    rw [upd_other _ _ _ h.1]
    exact blks_out s h.2
theorem deads_env : ∀ (l : List Nat) (s : St), (s.deads l).env = s.env
  | [], _ => rfl
  | b :: r, s => deads_env r (s.blk b .dead)
theorem deads_mem : ∀ (l : List Nat) (s : St) (n : Nat), (n ∈ l → (s.deads l).mem n = .dead) ∧ (n ∉ l → (s.deads l).mem n = s.mem n)
  | [], s, n => ⟨fun h => (List.not_mem_nil h).elim, fun _ => rfl⟩
  | b :: r, s, n => by
    obtain ⟨h1, h2⟩ := deads_mem r (s.blk b .dead) n
    constructor
    · intro h
      by_cases hr : n ∈ r
      · exact h1 hr
      · rcases List.mem_cons.1 h with rfl | h
        · show ((s.blk n .dead).deads r).mem n = _
          rw [h2 hr]; exact upd_same _ _ _
        · exact absurd h hr
    · intro h
      simp only [List.mem_cons, not_or] at h
      show ((s.blk b .dead).deads r).mem n = _
      rw [h2 h.2]; exact upd_other _ _ _ h.1

theorem RelL.kills (h : RelL F s loc a w) : ∀ (l : List Nat), RelL F (s.kills l) loc a w := by
  intro l
  induction l generalizing s with
  | nil => exact h
  | cons b r ih => exact ih (h.kill b)
theorem kills_live : ∀ (l : List Nat) (s : St) (b : Nat), live (s.kills l).mem b ↔ live s.mem b
  | [], s, b => Iff.rfl
  | c :: r, s, b => (kills_live r (s.kill c) b).trans (not_congr frzB_live)

/-! ### 3. What is not spoken of -/
mutual
theorem frz_less (b : Nat) : ∀ (v : V) (c : Nat), c ∈ blksV (frz b .dead v) → c ∈ blksV v ∧ c ≠ b
  | .junk, c, h => by simp [frz, blksV] at h
  | .int _ _, c, h => by simp [frz, blksV] at h
  | .bool _, c, h => by simp [frz, blksV] at h
  | .str _, c, h => by simp [frz, blksV] at h
  | .agg cs, c, h => frzs_less b cs c h
  | .im _ _, c, h => by simp [frz, blksV] at h
  | .own d, c, h => by
    simp only [frz] at h
    by_cases hd : d = b
    · subst hd; rw [beq_self] at h; simp [blksV] at h
    · rw [beq_ne hd] at h
      have : c = d := by simpa [blksV] using h
      subst this
      exact ⟨by simp [blksV], hd⟩
  | .ownsub d _ _, c, h => by
    simp only [frz] at h
    by_cases hd : d = b
    · subst hd; rw [beq_self] at h; simp [blksV] at h
    · rw [beq_ne hd] at h
      have : c = d := by simpa [blksV] using h
      subst this
      exact ⟨by simp [blksV], hd⟩
  | .ptr d _, c, h => by
    simp only [frz] at h
    by_cases hd : d = b
    · subst hd; rw [beq_self] at h; simp [blksV] at h
    · rw [beq_ne hd] at h
      have : c = d := by simpa [blksV] using h
      subst this
      exact ⟨by simp [blksV], hd⟩
  | .elt d _ _, c, h => by
    simp only [frz] at h
    by_cases hd : d = b
    · subst hd; rw [beq_self] at h; simp [blksV] at h
    · rw [beq_ne hd] at h
      have : c = d := by simpa [blksV] using h
      subst this
      exact ⟨by simp [blksV], hd⟩
  | .at_ _ _, c, h => by simp [frz, blksV] at h
  | .nilp, c, h => by simp [frz, blksV] at h
  | .nils, c, h => by simp [frz, blksV] at h
  | .fn _ cs, c, h => frzs_less b cs c h
  | .tuple cs, c, h => frzs_less b cs c h
theorem frzs_less (b : Nat) : ∀ (vs : List V) (c : Nat), c ∈ blksVs (frzs b .dead vs) → c ∈ blksVs vs ∧ c ≠ b
  | [], c, h => by simp [frzs, blksVs] at h
  | v :: r, c, h => by
    simp only [frzs, blksVs, List.mem_append] at h ⊢
    rcases h with h | h
    · have := frz_less b v c h; exact ⟨.inl this.1, this.2⟩
    · have := frzs_less b r c h; exact ⟨.inr this.1, this.2⟩
end
theorem frzB_less (b : Nat) (m : Blk) (c : Nat) (h : c ∈ blkBlks (frzB b .dead m)) : c ∈ blkBlks m ∧ c ≠ b := by
  cases m with
  | cells t cs => exact frzs_less b cs c h
  | _ => simp [frzB, blkBlks] at h
theorem kills_less : ∀ (l : List Nat) (s : St), (∀ k c, c ∈ blksV ((s.kills l).env k) → c ∈ blksV (s.env k) ∧ c ∉ l) ∧ (∀ b c, c ∈ blkBlks ((s.kills l).mem b) → c ∈ blkBlks (s.mem b) ∧ c ∉ l)
  | [], s => ⟨fun k c h => ⟨h, List.not_mem_nil⟩, fun b c h => ⟨h, List.not_mem_nil⟩⟩
  | d :: r, s => by
    obtain ⟨h1, h2⟩ := kills_less r (s.kill d)
    constructor
    · intro k c h
      obtain ⟨h3, h4⟩ := h1 k c h
      obtain ⟨h5, h6⟩ := frz_less d (s.env k) c h3
      exact ⟨h5, by simp [h6, h4]⟩
    · intro b c h
      obtain ⟨h3, h4⟩ := h2 b c h
      obtain ⟨h5, h6⟩ := frzB_less d (s.mem b) c h3
      exact ⟨h5, by simp [h6, h4]⟩

/-- Nothing is asked of some blocks. -/
structure Cx.leD (l : List Nat) (x x' : Cx) : Prop where
  ok : ∀ g, x.ok g → x'.ok g
  cell : ∀ (a : Addr) (u : Value), x.ok a.block → x.w.cell? a = some u → x'.w.cell? a = some u
  alike : ∀ c, c ∉ l → Alike (x.mem c) (x.loc c) (x'.mem c) (x'.loc c)

mutual
theorem VR.monoD {x x' : Cx} {l : List Nat} (h : x.leD l x') : ∀ (v : V) (u : Value), (∀ c ∈ blksV v, c ∉ l) → VR x v u → VR x' v u
  | .junk, _, _, _ => trivial
  | .int _ _, _, _, e => e
  | .bool _, _, _, e => e
  | .str _, _, _, e => e
  | .agg cs, _, hn, ⟨us, e, hs, h1⟩ => ⟨us, e, VRs.monoD h cs us hn hs, h1⟩
  | .im e xs, _, _, hr => RdC.mono h.ok h.cell (.slice e) hr
  | .own b, u, hn, ⟨e, ha⟩ => by
    obtain ⟨hl, ha'⟩ := (h.alike b (hn b (by simp [blksV]))).isArr ha
    exact ⟨by rw [e, hl], ha'⟩
  | .ownsub b off len, u, hn, ⟨t, e, xs, A, n, c, hm, hl, hle, rest⟩ => by
    obtain ⟨hl', xs', hm', hn⟩ := (h.alike b (hn b (by simp [blksV]))).arr hm
    exact ⟨t, e, xs', A, n, c, hm', by rw [hl', hl], by omega, rest⟩
  | .ptr b off, u, hn, ⟨hc, g, hl, e⟩ => by
    obtain ⟨hl', hc'⟩ := (h.alike b (hn b (by simp [blksV]))).isCell hc
    exact ⟨hc', g, by rw [hl', hl], e⟩
  | .elt b i p, u, hn, ⟨t, e, xs, g, n, c, hm, hi, hl, hp, he⟩ => by
    obtain ⟨hl', xs', hm', hn⟩ := (h.alike b (hn b (by simp [blksV]))).arr hm
    exact ⟨t, e, xs', g, n, c, hm', by omega, by rw [hl', hl], hp, he⟩
  | .at_ e y, _, _, ⟨a, vs, hu, ho, hr, hc⟩ => ⟨a, vs, hu, h.ok _ ho, RdC.mono h.ok h.cell e hr, fun j u hj => h.cell _ _ (by rw [add_block]; exact ho) (hc j u hj)⟩
  | .nilp, _, _, e => e
  | .nils, _, _, e => e
  | .fn f cs, _, hn, ⟨us, e, hs⟩ => ⟨us, e, VRs.monoD h cs us hn hs⟩
  | .tuple cs, _, hn, ⟨us, e, hs⟩ => ⟨us, e, VRs.monoD h cs us hn hs⟩
theorem VRs.monoD {x x' : Cx} {l : List Nat} (h : x.leD l x') : ∀ (vs : List V) (us : List Value), (∀ c ∈ blksVs vs, c ∉ l) → VRs x vs us → VRs x' vs us
  | [], _, _, e => e
  | v :: r, _, hn, ⟨u, q, e, hv, hr⟩ => ⟨u, q, e, VR.monoD h v u (fun c hc => hn c (List.mem_append_left _ hc)) hv, VRs.monoD h r q (fun c hc => hn c (List.mem_append_right _ hc)) hr⟩
end
theorem BR.monoD {x x' : Cx} {l : List Nat} (h : x.leD l x') {b : Nat} (hl : x'.loc b = x.loc b) (hb : ∀ g, blkOf (x.loc b) = some g → x'.w.heap[g]? = x.w.heap[g]?) :
    ∀ {m : Blk}, (∀ c ∈ blkBlks m, c ∉ l) → BR x b m → BR x' b m
  | .dead, _, _ => trivial
  | .cells t cs, hn, ⟨g, us, e, hg, hs, h1⟩ => ⟨g, us, by rw [hl, e], by rw [hb g (by rw [e]; rfl)]; exact hg, VRs.monoD h _ _ hn hs, h1⟩
  | .arr t e xs, _, ⟨flat, ho, he⟩ => ⟨flat, by rw [hl]; exact ownsRow_of_block ho hb, Els.mono (fun y q => RdC.mono h.ok h.cell e) he⟩
  | .iter s p, _, ⟨g, e, hg⟩ => ⟨g, by rw [hl, e], by rw [hb g (by rw [e]; rfl)]; exact hg⟩

/-! ### 4. Names of sources -/
theorem decX_src {m : Nat → Blk} : ∀ (k : FK) (flat : Bool) {vs : List V} {xs : k.T} {rest : List V} {fs : List Nat} {ss : List Src}, decX m flat k vs = some (xs, rest, fs, ss) →
    ss.length = k.cnt ∧ (∀ b ∈ srcN ss, m b ≠ .dead) ∧ ∀ j : Nat, (bkX k)[j]? = some true → ∃ b, ss[j]? = some (Src.blk b) ∧ ∃ t cs, m b = Blk.cells t cs
  | .unit, flat, vs, xs, rest, fs, ss, h => by
    have h : some ((), vs, ([] : List Nat), ([] : List Src)) = some (xs, rest, fs, ss) := by cases flat <;> exact h
    simp only [Option.some.injEq, Prod.mk.injEq] at h
    obtain ⟨_, rfl, rfl, rfl⟩ := h
    exact ⟨rfl, fun b hb => by simp [srcN] at hb, fun j hj => by simp [bkX] at hj⟩
  | .dat t, flat, vs, xs, rest, fs, ss, h => by
    have : ss = [] := by
      cases flat with
      | true =>
        simp only [decX] at h
        cases hd : dec m t vs with
        | none => simp only [hd, reduceCtorEq] at h
        | some q => simp only [hd, Option.some.injEq, Prod.mk.injEq] at h; exact h.2.2.2.symm
      | false =>
        cases vs with
        | nil => simp [decX] at h
        | cons v vs =>
          simp only [decX] at h
          cases hsh : shape t v
          · rw [hsh] at h; cases h
          · rw [hsh] at h
            simp only [cond_true] at h
            cases hd : decV m t v with
            | none => simp only [hd, reduceCtorEq] at h
            | some p => simp only [hd, Option.some.injEq, Prod.mk.injEq] at h; exact h.2.2.2.symm
    subst this
    exact ⟨rfl, fun b hb => by simp [srcN] at hb, fun j hj => by simp [bkX] at hj⟩
  | .nn t, flat, [], xs, rest, fs, ss, h => by cases flat <;> simp [decX] at h
  | .nn t, flat, v :: vs, xs, rest, fs, ss, h => by
    have h : (bif shape (.ref t) v then (match decV m (.ref t) v with
      | some (some x, fs) => some (x, vs, fs, [])
      | _ => none) else none) = some (xs, rest, fs, ss) := by cases flat <;> exact h
    have : ss = [] := by
      cases hsh : shape (.ref t) v
      · rw [hsh] at h; cases h
      rw [hsh] at h
      simp only [cond_true] at h
      cases hd : decV m (.ref t) v with
      | none => simp only [hd, reduceCtorEq] at h
      | some p =>
        obtain ⟨y, f⟩ := p
        cases y with
        | none => simp only [hd, reduceCtorEq] at h
        | some y => simp only [hd, Option.some.injEq, Prod.mk.injEq] at h; exact h.2.2.2.symm
    subst this
    exact ⟨rfl, fun b hb => by simp [srcN] at hb, fun j hj => by simp [bkX] at hj⟩
  | .own t e, flat, [], xs, rest, fs, ss, h => by cases flat <;> simp [decX] at h
  | .own t e, flat, v :: vs, xs, rest, fs, ss, h => by
    have fin : (∃ src, ss = [src] ∧ ∀ b ∈ src.names, m b ≠ .dead) → ss.length = (FK.own t e).cnt ∧ (∀ b ∈ srcN ss, m b ≠ .dead) ∧ ∀ j : Nat, (bkX (.own t e))[j]? = some true → ∃ b, ss[j]? = some (Src.blk b) ∧ ∃ t cs, m b = Blk.cells t cs := by
      rintro ⟨src, rfl, hb⟩
      refine ⟨rfl, fun b hb' => hb b (by simpa [srcN] using hb'), fun j hj => ?_⟩
      cases j <;> simp [bkX] at hj
    cases v with
    | own b =>
      have h : ownX t e vs (.blk b) (fun xs => xs) (m b) = some (xs, rest, fs, ss) := by cases flat <;> exact h
      obtain ⟨ys, hb, rfl, rfl, rfl, rfl⟩ := ownX_inv h
      exact fin ⟨_, rfl, fun c hc e => by
        have : c = b := by simpa [Src.names] using hc
        subst this; rw [hb] at e; cases e⟩
    | ownsub b off len =>
      cases off with
      | succ n => cases flat <;> simp [decX] at h
      | zero =>
        have h : ownX t e vs (.sub b len) (fun xs => xs.take len) (m b) = some (xs, rest, fs, ss) := by cases flat <;> exact h
        obtain ⟨ys, hb, rfl, rfl, rfl, rfl⟩ := ownX_inv h
        exact fin ⟨_, rfl, fun c hc e => by
          have : c = b := by simpa [Src.names] using hc
          subst this; rw [hb] at e; cases e⟩
    | nils =>
      have h : some (([] : List e.T), vs, ([] : List Nat), [Src.nil]) = some (xs, rest, fs, ss) := by cases flat <;> exact h
      simp only [Option.some.injEq, Prod.mk.injEq] at h
      obtain ⟨rfl, rfl, rfl, rfl⟩ := h
      exact fin ⟨_, rfl, fun c hc => by simp [Src.names] at hc⟩
    | _ => cases flat <;> simp [decX] at h
  | .obj bk t f, flat, [], xs, rest, fs, ss, h => by cases flat <;> simp [decX] at h
  | .obj bk t f, flat, v :: vs, xs, rest, fs, ss, h => by
    cases v <;> try (cases flat <;> simp [decX] at h <;> done)
    rename_i b off
    cases off with
    | succ n => cases flat <;> simp [decX] at h
    | zero =>
      have h : (match m b with
        | .cells t' cs => bif Nat.beq t' t then (match decX m true f cs with
          | some (x, [], fs, ss) => some (x, vs, fs, .blk b :: ss)
          | _ => none) else none
        | _ => none) = some (xs, rest, fs, ss) := by cases flat <;> exact h
      cases hb : m b <;> simp only [hb, reduceCtorEq] at h
      rename_i t' cs
      cases ht : Nat.beq t' t
      · rw [ht] at h; cases h
      rw [ht] at h
      simp only [cond_true] at h
      cases hd : decX m true f cs with
      | none => simp only [hd, reduceCtorEq] at h
      | some p =>
        obtain ⟨y, r, f1, s1⟩ := p
        cases r with
        | cons _ _ => simp only [hd, reduceCtorEq] at h
        | nil =>
          simp only [hd, Option.some.injEq, Prod.mk.injEq] at h
          obtain ⟨rfl, rfl, rfl, rfl⟩ := h
          obtain ⟨h1, h2, h3⟩ := decX_src f true hd
          refine ⟨by simp [FK.cnt, h1], fun c hc => ?_, fun j hj => ?_⟩
          · simp only [srcN, List.flatMap_cons, List.mem_append, Src.names, List.mem_singleton] at hc
            rcases hc with rfl | hc
            · rw [hb]; intro e; cases e
            · exact h2 c hc
          · cases j with
            | zero => exact ⟨b, rfl, _, _, hb⟩
            | succ j =>
              simp only [bkX, List.getElem?_cons_succ, List.getElem?_replicate] at hj
              split at hj <;> simp at hj
  | .fn f c, flat, [], xs, rest, fs, ss, h => by cases flat <;> simp [decX] at h
  | .fn f c, flat, v :: vs, xs, rest, fs, ss, h => by
    cases v <;> try (cases flat <;> simp [decX] at h <;> done)
    rename_i g ws
    have h : (bif Nat.beq g f then (match decX m false c ws with
      | some (x, [], fs, ss) => some (x, vs, fs, ss)
      | _ => none) else none) = some (xs, rest, fs, ss) := by cases flat <;> exact h
    cases hg : Nat.beq g f
    · rw [hg] at h; cases h
    rw [hg] at h
    simp only [cond_true] at h
    cases hd : decX m false c ws with
    | none => simp only [hd, reduceCtorEq] at h
    | some p =>
      obtain ⟨y, r, f1, s1⟩ := p
      cases r with
      | cons _ _ => simp only [hd, reduceCtorEq] at h
      | nil =>
        simp only [hd, Option.some.injEq, Prod.mk.injEq] at h
        obtain ⟨rfl, rfl, rfl, rfl⟩ := h
        exact decX_src c false hd
  | .pair a b, flat, vs, xs, rest, fs, ss, h => by
    have h : (match decX m flat a vs with
      | some (x_1, r, fs, ss) => (match decX m flat b r with
        | some (y, r', gs, qs) => some ((x_1, y), r', fs ++ gs, ss ++ qs)
        | none => none)
      | none => none) = some (xs, rest, fs, ss) := by cases flat <;> exact h
    cases h1 : decX m flat a vs with
    | none => simp only [h1, reduceCtorEq] at h
    | some p =>
      obtain ⟨y, r, f1, s1⟩ := p
      simp only [h1] at h
      cases h2 : decX m flat b r with
      | none => simp only [h2, reduceCtorEq] at h
      | some p2 =>
        obtain ⟨z, r2, f2, s2⟩ := p2
        simp only [h2, Option.some.injEq, Prod.mk.injEq] at h
        obtain ⟨rfl, rfl, rfl, rfl⟩ := h
        obtain ⟨a1, a2, a3⟩ := decX_src a flat h1
        obtain ⟨b1, b2, b3⟩ := decX_src b flat h2
        have hlen : ∀ k : FK, (bkX k).length = k.cnt := fun k => by
          induction k with
          | unit => rfl
          | dat _ => rfl
          | nn _ => rfl
          | own _ _ => rfl
          | obj _ _ f ih => simp [bkX, FK.cnt]
          | fn _ c ih => exact ih
          | pair a b iha ihb => simp [bkX, FK.cnt, iha, ihb]
        refine ⟨by simp [FK.cnt, a1, b1], fun c hc => ?_, fun j hj => ?_⟩
        · simp only [srcN, List.flatMap_append, List.mem_append] at hc
          rcases hc with hc | hc
          · exact a2 c hc
          · exact b2 c hc
        · simp only [bkX] at hj
          by_cases hja : j < (bkX a).length
          · rw [List.getElem?_append_left hja] at hj
            obtain ⟨b, hb, hbc⟩ := a3 j hj
            exact ⟨b, by rw [List.getElem?_append_left (List.getElem?_eq_some_iff.1 hb).1]; exact hb, hbc⟩
          · rw [List.getElem?_append_right (by omega)] at hj
            obtain ⟨b, hb, hbc⟩ := b3 _ hj
            refine ⟨b, ?_, hbc⟩
            rw [List.getElem?_append_right (by rw [a1, ← hlen a]; omega), a1, ← hlen a]
            exact hb
end
end AM
namespace AM
open Go

section
variable {P : Program} {F : Fr} {c : Cfg} {R : Type} {r : R} {s s' : St} {loc : Nat → Value} {a : Act} {w w' : World}

/-! ### 1. The callee's frame -/
def footX (loc : Nat → Value) (ss : List Src) (g : Nat) : Prop := ∃ b ∈ srcN ss, blkOf (loc b) = some g
def frX (F : Fr) (s : St) (loc : Nat → Value) (w : World) (fs : List Nat) (ss : List Src) (bs : List Nat) (nt : Nat) : Fr where
  w0 := w
  foot := footX loc ss
  nt := nt
  hide := fun g => g < w.heap.size ∧ ¬ footX loc ss g ∧ (F.hide g ∨ (owned s.mem loc g ∧ ¬ ∃ b ∈ fs, live s.mem b ∧ blkOf (loc b) = some g))
  ghost := fun k => match bs[k - GH]? with | some b => loc b | none => undef
  hl := fun g h => ⟨h.1, h.2.1⟩

theorem locS_blk {s : Src} {g : Nat} (h : blkOf (locS loc s) = some g) : ∃ b ∈ s.names, blkOf (loc b) = some g := by
  cases s with
  | nil => cases h
  | blk b => exact ⟨b, by simp [Src.names], h⟩
  | sub b len =>
    refine ⟨b, by simp [Src.names], ?_⟩
    simp only [locS] at h
    cases hl : loc b <;> rw [hl] at h <;> first | exact h | (rename_i A n cc; cases A <;> exact h)
theorem srcN_mem {ss : List Src} {j : Nat} {s : Src} (h : ss[j]? = some s) {b : Nat} (hb : b ∈ s.names) : b ∈ srcN ss := List.mem_flatMap.2 ⟨s, List.mem_of_getElem? h, hb⟩
theorem src_inj : ∀ {ss : List Src} {j j' : Nat} {s s' : Src} {b : Nat}, (srcN ss).Nodup → ss[j]? = some s → ss[j']? = some s' → b ∈ s.names → b ∈ s'.names → j = j'
  | [], j, j', s, s', b, hd, h, h', hb, hb' => by simp at h
  | q :: ss, j, j', s, s', b, hd, h, h', hb, hb' => by
    simp only [srcN, List.flatMap_cons, List.nodup_append] at hd
    cases j with
    | zero =>
      cases j' with
      | zero => rfl
      | succ j' =>
        simp only [List.getElem?_cons_zero, Option.some.injEq] at h
        subst h
        exact absurd rfl (hd.2.2 b hb b (srcN_mem (by simpa using h') hb'))
    | succ j =>
      cases j' with
      | zero =>
        simp only [List.getElem?_cons_zero, Option.some.injEq] at h'
        subst h'
        exact absurd rfl (hd.2.2 b hb' b (srcN_mem (by simpa using h) hb))
      | succ j' =>
        have := src_inj (ss := ss) (j := j) (j' := j') (s := s) (s' := s') hd.2.1 (by simpa using h) (by simpa using h') hb hb'
        rw [this]

theorem memX_back (nm : Nat → Nat) : ∀ (k : FK) (i j : Nat) (x : k.T), (bkX k)[j]? = some true → ∃ t cs, (nm (i + j), Blk.cells t cs) ∈ memX nm i k x
  | .unit, i, j, x, h => by simp [bkX] at h
  | .dat _, i, j, x, h => by simp [bkX] at h
  | .nn _, i, j, x, h => by simp [bkX] at h
  | .own _ _, i, j, x, h => by cases j <;> simp [bkX] at h
  | .obj b t f, i, j, x, h => by
    cases j with
    | zero => exact ⟨_, _, List.mem_cons_self ..⟩
    | succ j =>
      simp only [bkX, List.getElem?_cons_succ, List.getElem?_replicate] at h
      split at h <;> simp at h
  | .fn _ c, i, j, x, h => memX_back nm c i j x h
  | .pair a b, i, j, x, h => by
    simp only [bkX] at h
    have hlen : ∀ k : FK, (bkX k).length = k.cnt := fun k => by
      induction k with
      | unit => rfl
      | dat _ => rfl
      | nn _ => rfl
      | own _ _ => rfl
      | obj _ _ f ih => simp [bkX, FK.cnt]
      | fn _ c ih => exact ih
      | pair a b iha ihb => simp [bkX, FK.cnt, iha, ihb]
    by_cases hj : j < (bkX a).length
    · rw [List.getElem?_append_left hj] at h
      obtain ⟨t, cs, hm⟩ := memX_back nm a i j x.1 h
      exact ⟨t, cs, List.mem_append_left _ hm⟩
    · rw [List.getElem?_append_right (by omega)] at h
      obtain ⟨t, cs, hm⟩ := memX_back nm b (i + a.cnt) _ x.2 h
      refine ⟨t, cs, List.mem_append_right _ ?_⟩
      have := hlen a
      rwa [show i + a.cnt + (j - (bkX a).length) = i + j by omega] at hm
theorem bkX_len (k : FK) : (bkX k).length = k.cnt := by
  induction k with
  | unit => rfl
  | dat _ => rfl
  | nn _ => rfl
  | own _ _ => rfl
  | obj _ _ f ih => simp [bkX, FK.cnt]
  | fn _ c ih => exact ih
  | pair a b iha ihb => simp [bkX, FK.cnt, iha, ihb]
theorem blX_len (k : FK) : (blX k).length = (bkX k).count true := by
  induction k with
  | unit => rfl
  | dat _ => rfl
  | nn _ => rfl
  | own _ _ => rfl
  | obj b _ f ih =>
    cases b
    · simp [blX, bkX, List.count_replicate]
    · simp [blX, bkX, List.count_replicate]
  | fn _ c ih => exact ih
  | pair a b iha ihb => simp [blX, bkX, iha, ihb]
theorem bsN_len : ∀ (fl : List Bool) (ss : List Src), fl.length = ss.length → (∀ j : Nat, fl[j]? = some true → ∃ b, ss[j]? = some (Src.blk b)) → (bsN fl ss).length = fl.count true
  | [], [], _, _ => rfl
  | [], _ :: _, h, _ => by simp at h
  | _ :: _, [], h, _ => by simp at h
  | true :: r, s :: q, h, hb => by
    obtain ⟨b, hb0⟩ := hb 0 rfl
    simp only [List.getElem?_cons_zero, Option.some.injEq] at hb0
    subst hb0
    simp only [bsN, List.length_cons, List.count_cons_self]
    rw [bsN_len r q (by simpa using h) (fun j hj => by simpa using hb (j + 1) (by simpa using hj))]
  | false :: r, s :: q, h, hb => by
    simp only [bsN]
    rw [bsN_len r q (by simpa using h) (fun j hj => by simpa using hb (j + 1) (by simpa using hj))]
    simp
/-- Each block that is lent stays the caller's, or goes. -/
theorem src_cases : ∀ (fl : List Bool) (ss : List Src), fl.length = ss.length → ∀ b ∈ srcN ss, b ∈ bsN fl ss ∨ b ∈ dsN fl ss
  | _, [], _, b, hb => by simp [srcN] at hb
  | [], _ :: _, h, _, _ => by simp at h
  | true :: r, s :: q, h, b, hb => by
    simp only [srcN, List.flatMap_cons, List.mem_append] at hb
    cases s with
    | blk c =>
      rcases hb with hb | hb
      · left; simp only [bsN, List.mem_cons]; left; simpa [Src.names] using hb
      · rcases src_cases r q (by simpa using h) b hb with h1 | h1
        · left; exact List.mem_cons_of_mem _ h1
        · right; exact h1
    | nil =>
      rcases hb with hb | hb
      · simp [Src.names] at hb
      · rcases src_cases r q (by simpa using h) b hb with h1 | h1
        · left; exact h1
        · right; exact List.mem_append_right _ h1
    | sub c len =>
      rcases hb with hb | hb
      · right; exact List.mem_append_left _ hb
      · rcases src_cases r q (by simpa using h) b hb with h1 | h1
        · left; exact h1
        · right; exact List.mem_append_right _ h1
  | false :: r, s :: q, h, b, hb => by
    simp only [srcN, List.flatMap_cons, List.mem_append] at hb
    rcases hb with hb | hb
    · right; exact List.mem_append_left _ hb
    · rcases src_cases r q (by simpa using h) b hb with h1 | h1
      · left; exact h1
      · right; exact List.mem_append_right _ h1
theorem dsN_src : ∀ (fl : List Bool) (ss : List Src), ∀ b ∈ dsN fl ss, b ∈ srcN ss
  | [], ss, b, hb => by simp [dsN] at hb
  | _ :: _, [], b, hb => by simp [dsN] at hb
  | true :: r, s :: q, b, hb => by
    simp only [srcN, List.flatMap_cons, List.mem_append]
    cases s with
    | blk c => exact .inr (dsN_src r q b hb)
    | nil =>
      simp only [dsN, List.mem_append] at hb
      exact hb.imp id (dsN_src r q b)
    | sub c len =>
      simp only [dsN, List.mem_append] at hb
      exact hb.imp id (dsN_src r q b)
  | false :: r, s :: q, b, hb => by
    simp only [srcN, List.flatMap_cons, List.mem_append]
    simp only [dsN, List.mem_append] at hb
    exact hb.imp id (dsN_src r q b)
theorem bsN_src : ∀ (fl : List Bool) (ss : List Src), ∀ b ∈ bsN fl ss, b ∈ srcN ss
  | [], ss, b, hb => by simp [bsN] at hb
  | _ :: _, [], b, hb => by simp [bsN] at hb
  | true :: r, s :: q, b, hb => by
    simp only [srcN, List.flatMap_cons, List.mem_append]
    cases s with
    | blk c =>
      simp only [bsN, List.mem_cons] at hb
      exact hb.imp (fun e => by simp [Src.names, e]) (bsN_src r q b)
    | nil => exact .inr (bsN_src r q b hb)
    | sub c len => exact .inr (bsN_src r q b hb)
  | false :: r, s :: q, b, hb => by
    simp only [srcN, List.flatMap_cons, List.mem_append]
    exact .inr (bsN_src r q b hb)
/-- … not both. -/
theorem bs_ds : ∀ (fl : List Bool) (ss : List Src), (srcN ss).Nodup → ∀ b, b ∈ bsN fl ss → b ∉ dsN fl ss
  | [], ss, _, b, hb => by simp [bsN] at hb
  | _ :: _, [], _, b, hb => by simp [bsN] at hb
  | true :: r, s :: q, hd, b, hb => by
    simp only [srcN, List.flatMap_cons, List.nodup_append] at hd
    cases s with
    | blk c =>
      simp only [bsN, List.mem_cons] at hb
      simp only [dsN]
      rcases hb with rfl | hb
      · exact fun hm => hd.2.2 b (by simp [Src.names]) b (dsN_src r q b hm) rfl
      · exact bs_ds r q hd.2.1 b hb
    | nil =>
      simp only [dsN, List.mem_append, not_or]
      exact ⟨by simp [Src.names], bs_ds r q hd.2.1 b hb⟩
    | sub c len =>
      simp only [dsN, List.mem_append, not_or]
      exact ⟨fun hm => hd.2.2 b hm b (bsN_src r q b hb) rfl, bs_ds r q hd.2.1 b hb⟩
  | false :: r, s :: q, hd, b, hb => by
    simp only [srcN, List.flatMap_cons, List.nodup_append] at hd
    simp only [dsN, List.mem_append, not_or]
    exact ⟨fun hm => hd.2.2 b hm b (bsN_src r q b hb) rfl, bs_ds r q hd.2.1 b hb⟩

theorem ghA_low : ∀ (l : List Nat) (j k : Nat), k < GH + j → lookV (ghA j l) k = .junk
  | [], j, k, h => rfl
  | i :: r, j, k, h => by
    simp only [ghA, lookV]
    rw [beq_ne (by omega)]
    exact ghA_low r (j + 1) k (by omega)
theorem ghA_key : ∀ (l : List Nat) (j : Nat), ∀ p ∈ ghA j l, GH ≤ p.1
  | [], j, p, h => by simp [ghA] at h
  | i :: r, j, p, h => by
    simp only [ghA, List.mem_cons] at h
    rcases h with rfl | h
    · exact Nat.le_add_right _ _
    · exact ghA_key r (j + 1) p h
theorem gh_ok {x' : Cx} : ∀ (fl : List Bool) (ss : List Src) (i j : Nat), fl.length = ss.length → (∀ n : Nat, fl[n]? = some true → ∃ b, ss[n]? = some (Src.blk b) ∧ VR x' (.ptr (calN (i + n)) 0) (loc b)) →
    ∀ k, VR x' (lookV (ghA j (ixs i fl)) k) (match (bsN fl ss)[k - (GH + j)]? with | some b => loc b | none => undef)
  | [], ss, i, j, hl, h, k => trivial
  | _ :: _, [], i, j, hl, h, k => by simp at hl
  | true :: r, s :: q, i, j, hl, h, k => by
    obtain ⟨b, hb, hv⟩ := h 0 rfl
    simp only [List.getElem?_cons_zero, Option.some.injEq] at hb
    subst hb
    have ih := gh_ok r q (i + 1) (j + 1) (by simpa using hl) (fun n hn => by
      obtain ⟨b, h1, h2⟩ := h (n + 1) (by simpa using hn)
      exact ⟨b, by simpa using h1, by rwa [show i + (n + 1) = i + 1 + n by omega] at h2⟩) k
    simp only [ixs, ghA, lookV, bsN]
    by_cases hk : k = GH + j
    · subst hk
      rw [beq_self, Nat.sub_self]
      simpa using hv
    · rw [beq_ne hk]
      simp only [cond_false]
      by_cases hlt : k < GH + j
      · rw [ghA_low _ _ _ (by omega)]; trivial
      · rw [show k - (GH + j) = (k - (GH + (j + 1))) + 1 by omega]
        simpa using ih
  | false :: r, s :: q, i, j, hl, h, k => by
    have ih := gh_ok r q (i + 1) j (by simpa using hl) (fun n hn => by
      obtain ⟨b, h1, h2⟩ := h (n + 1) (by simpa using hn)
      exact ⟨b, by simpa using h1, by rwa [show i + (n + 1) = i + 1 + n by omega] at h2⟩) k
    exact ih

theorem calN_inj {i j : Nat} (h : calN i = calN j) : i = j := by unfold calN at h; omega
theorem range_cal (n : Nat) : ((List.range n).map fun j => calN (0 + j)).Nodup := by
  rw [List.Nodup, List.pairwise_map]
  exact List.Pairwise.imp (fun h e => h (by have := calN_inj e; omega)) List.nodup_range

/-- The call is entered. -/
theorem enterX (h : RelL F s loc a w) {k : FK} {nt : Nat} (hnt : nt ≤ GH) {args : List V} {us : List Value} (hus : VRs (cxOf F s loc w) args us) {xs : k.T} {fs : List Nat} {ss : List Src} (hd : decX s.mem false k args = some (xs, [], fs, ss))
    (hnd : (srcN ss).Nodup) (hap : ∀ b ∈ srcN ss, b ∉ fs) (hl : us.length ≤ nt) :
    RelL (frX F s loc w fs ss (bsN (bkX k) ss) nt) (stOf (argsAt 0 (encX calN false 0 k xs) ++ gsX k) (memX calN 0 k xs)) (fun n => locS loc (ss.getD (n - calN 0) .nil)) { tmps := us.toArray ++ Array.replicate (nt - us.length) undef, defers := [] } w := by
  obtain ⟨hlen, hlv, hbk⟩ := decX_src k false hd
  have hnames := memX_names calN k 0 xs
  have hnodup : ((memX calN 0 k xs).map (·.1)).Nodup := by rw [hnames]; exact range_cal _
  have hloc : ∀ (j : Nat) (q : Src), ss[j]? = some q → locS loc (ss.getD (calN (0 + j) - calN 0) .nil) = locS loc q := fun j q hq => by
    rw [show calN (0 + j) - calN 0 = j by unfold calN; omega, List.getD_eq_getElem?_getD, hq]; rfl
  have hat : ∀ n, live (lookB (memX calN 0 k xs)) n → ∃ j q, n = calN (0 + j) ∧ ss[j]? = some q := fun n hn => by
    have : n ∈ (memX calN 0 k xs).map (·.1) := by
      apply Classical.byContradiction
      intro hc
      exact hn (lookB_out hc)
    rw [hnames] at this
    obtain ⟨j, hj, rfl⟩ := List.mem_map.1 this
    have hj := List.mem_range.1 hj
    exact ⟨j, ss[j]'(by omega), rfl, by simp⟩
  have hsrc : ∀ n g, live (lookB (memX calN 0 k xs)) n → blkOf (locS loc (ss.getD (n - calN 0) .nil)) = some g → ∃ j q b, n = calN (0 + j) ∧ ss[j]? = some q ∧ b ∈ q.names ∧ blkOf (loc b) = some g := fun n g hn hg => by
    obtain ⟨j, q, rfl, hq⟩ := hat n hn
    rw [hloc j q hq] at hg
    obtain ⟨b, hb, hbg⟩ := locS_blk hg
    exact ⟨j, q, b, rfl, hq, hb, hbg⟩
  have hinj : ∀ b b' g, live (lookB (memX calN 0 k xs)) b → live (lookB (memX calN 0 k xs)) b' → blkOf (locS loc (ss.getD (b - calN 0) .nil)) = some g → blkOf (locS loc (ss.getD (b' - calN 0) .nil)) = some g → b = b' := fun n n' g hn hn' hg hg' => by
    obtain ⟨j, q, b, rfl, hq, hb, hbg⟩ := hsrc n g hn hg
    obtain ⟨j', q', b', rfl, hq', hb', hbg'⟩ := hsrc n' g hn' hg'
    have e := h.inj b b' g (hlv b (srcN_mem hq hb)) (hlv b' (srcN_mem hq' hb')) hbg hbg'
    subst e
    rw [src_inj hnd hq hq' hb hb']
  have hlow : ∀ b g, live (lookB (memX calN 0 k xs)) b → blkOf (locS loc (ss.getD (b - calN 0) .nil)) = some g → (frX F s loc w fs ss (bsN (bkX k) ss) nt).foot g ∨ w.heap.size ≤ g := fun n g hn hg => by
    obtain ⟨j, q, b, rfl, hq, hb, hbg⟩ := hsrc n g hn hg
    exact .inl ⟨b, srcN_mem hq hb, hbg⟩
  have hok : ∀ g, okF (cxOf F s loc w) fs g → okOf (frX F s loc w fs ss (bsN (bkX k) ss) nt) (lookB (memX calN 0 k xs)) (fun n => locS loc (ss.getD (n - calN 0) .nil)) w g := fun g hg => by
    rcases hg with hg | ⟨b, hb, hlb, hbg⟩
    · refine ⟨⟨hg.1.1, fun hh => hh.2.2.elim hg.1.2 (fun h2 => hg.2 h2.1)⟩, fun ⟨n, hn, hng⟩ => ?_⟩
      obtain ⟨j, q, b, rfl, hq, hb, hbg⟩ := hsrc n g hn hng
      exact hg.2 ⟨b, hlv b (srcN_mem hq hb), hbg⟩
    · refine ⟨⟨h.lt hlb hbg, fun hh => hh.2.2.elim (h.seen hlb hbg) (fun h2 => h2.2 ⟨b, hb, hlb, hbg⟩)⟩, fun ⟨n, hn, hng⟩ => ?_⟩
      obtain ⟨j, q, b', rfl, hq, hb', hbg'⟩ := hsrc n g hn hng
      have e := h.inj b b' g hlb (hlv b' (srcN_mem hq hb')) hbg hbg'
      subst e
      exact hap b (srcN_mem hq hb') hb
  obtain ⟨hc, ⟨us1, us2, e, hv1, hv2⟩, hbs⟩ := decX_sound (x := cxOf F s loc w) (x' := ⟨okOf (frX F s loc w fs ss (bsN (bkX k) ss) nt) (lookB (memX calN 0 k xs)) (fun n => locS loc (ss.getD (n - calN 0) .nil)) w, w, (fun n => locS loc (ss.getD (n - calN 0) .nil)), lookB (memX calN 0 k xs)⟩) (nm := calN)
    h.blk rfl k false 0 hus hd (.inr hok) (fun j q hq => hloc j q hq) (fun p hp => lookB_mem hnodup hp)
  have h2 : us2 = [] := hv2
  subst h2
  rw [List.append_nil] at e
  subst e
  refine RelL.begin (F' := frX F s loc w fs ss (bsN (bkX k) ss) nt) rfl hl (fun p hp => ?_) (fun b => ?_) hinj hlow hv1 (fun i hi hi2 => ?_)
  · have := ghA_key _ _ p hp
    exact ⟨this, Nat.le_trans hnt this⟩
  · by_cases hb : b ∈ (memX calN 0 k xs).map (·.1)
    · obtain ⟨p, hp, rfl⟩ := List.mem_map.1 hb
      rw [lookB_mem hnodup hp]
      exact hbs p hp
    · rw [lookB_out hb]; trivial
  · refine gh_ok (loc := loc) (bkX k) ss 0 0 (by rw [bkX_len, hlen]) (fun n hn => ?_) i
    obtain ⟨b, hb, _⟩ := hbk n hn
    refine ⟨b, hb, ?_⟩
    obtain ⟨t, cs, hm⟩ := memX_back calN k 0 n xs hn
    obtain ⟨g, us', e, hg, hs, h1⟩ := hbs _ hm
    have e' : locS loc (ss.getD (calN (0 + n) - calN 0) .nil) = .pointer (some ⟨g, 0, none⟩) := e
    refine ⟨by show isCell (lookB (memX calN 0 k xs) (calN (0 + n))); rw [lookB_mem hnodup hm]; trivial, g, e', ?_⟩
    rw [hloc n _ hb] at e'
    exact e'
end
end AM
namespace AM
open Go

/-! ### 1. Names and places -/
def locZ (loc2 loc : Nat → Value) : List Nat → List Src → Nat → Value
  | n :: r, s :: q, k => if k = n then locS loc2 s else locZ loc2 loc r q k
  | _, _, k => loc k
theorem locZ_in {loc2 loc : Nat → Value} : ∀ {ns : List Nat} {ss : List Src} {j n : Nat} {s : Src}, ns.Nodup → ns[j]? = some n → ss[j]? = some s → locZ loc2 loc ns ss n = locS loc2 s
  | [], ss, j, n, s, hd, h, hs => by simp at h
  | _ :: _, [], j, n, s, hd, h, hs => by simp at hs
  | m :: r, t :: q, 0, n, s, hd, h, hs => by
    simp only [List.getElem?_cons_zero, Option.some.injEq] at h hs
    subst h; subst hs
    simp [locZ]
  | m :: r, t :: q, j + 1, n, s, hd, h, hs => by
    simp only [List.nodup_cons] at hd
    have h' : r[j]? = some n := by simpa using h
    have : n ≠ m := fun e => hd.1 (by rw [← e]; exact List.mem_of_getElem? h')
    simp only [locZ, if_neg this]
    exact locZ_in hd.2 h' (by simpa using hs)
theorem locZ_out {loc2 loc : Nat → Value} : ∀ {ns : List Nat} {ss : List Src} {n : Nat}, n ∉ ns → locZ loc2 loc ns ss n = loc n
  | [], ss, n, h => by cases ss <;> rfl
  | _ :: _, [], n, h => rfl
  | m :: r, t :: q, n, h => by
    simp only [List.mem_cons, not_or] at h
    simp only [locZ, if_neg h.1]
    exact locZ_out h.2
theorem nthN_get {l : List Nat} {i n : Nat} (h : l[i]? = some n) : nthN l i = n := by
  unfold nthN
  rw [nth_get, h]
theorem map_nthN (l : List Nat) : (List.range l.length).map (fun j => nthN l (0 + j)) = l := by
  apply List.ext_getElem?
  intro i
  rw [List.getElem?_map]
  by_cases hi : i < l.length
  · rw [List.getElem?_range hi]
    simp only [Option.map_some, Nat.zero_add]
    rw [nthN_get (List.getElem?_eq_getElem hi), List.getElem?_eq_getElem hi]
  · rw [List.getElem?_eq_none (by simpa using hi), List.getElem?_eq_none (by simpa using hi)]; rfl

theorem bsN_at : ∀ {fl : List Bool} {ss : List Src} {b : Nat}, b ∈ bsN fl ss → ∃ j : Nat, fl[j]? = some true ∧ ss[j]? = some (Src.blk b)
  | [], ss, b, h => by simp [bsN] at h
  | _ :: _, [], b, h => by simp [bsN] at h
  | true :: r, s :: q, b, h => by
    cases s with
    | blk c =>
      simp only [bsN, List.mem_cons] at h
      rcases h with rfl | h
      · exact ⟨0, rfl, rfl⟩
      · obtain ⟨j, h1, h2⟩ := bsN_at h
        exact ⟨j + 1, by simpa using h1, by simpa using h2⟩
    | nil =>
      obtain ⟨j, h1, h2⟩ := bsN_at (fl := r) (ss := q) h
      exact ⟨j + 1, by simpa using h1, by simpa using h2⟩
    | sub c len =>
      obtain ⟨j, h1, h2⟩ := bsN_at (fl := r) (ss := q) h
      exact ⟨j + 1, by simpa using h1, by simpa using h2⟩
  | false :: r, s :: q, b, h => by
    obtain ⟨j, h1, h2⟩ := bsN_at (fl := r) (ss := q) h
    exact ⟨j + 1, by simpa using h1, by simpa using h2⟩
theorem memX_kind (nm : Nat → Nat) : ∀ (k : FK) (i : Nat) (x : k.T), ∀ p ∈ memX nm i k x, (∃ t cs, p.2 = .cells t cs) ∨ ∃ t e xs, p.2 = .arr t e xs
  | .unit, i, x, p, h => by simp [memX] at h
  | .dat _, i, x, p, h => by simp [memX] at h
  | .nn _, i, x, p, h => by simp [memX] at h
  | .own t e, i, x, p, h => by
    simp only [memX, List.mem_singleton] at h
    subst h; exact .inr ⟨_, _, _, rfl⟩
  | .obj _ t f, i, x, p, h => by
    simp only [memX, List.mem_cons] at h
    rcases h with rfl | h
    · exact .inl ⟨_, _, rfl⟩
    · exact memX_kind nm f (i + 1) x p h
  | .fn _ c, i, x, p, h => memX_kind nm c i x p h
  | .pair a b, i, x, p, h => by
    rcases List.mem_append.1 h with h | h
    · exact memX_kind nm a i x.1 p h
    · exact memX_kind nm b (i + a.cnt) x.2 p h
def isCells : Blk → Prop | .cells _ _ => True | _ => False
theorem freeze_cells : ∀ (fs : List Nat) (s : St) (b : Nat), b ∉ fs → isCells (s.mem b) → isCells ((s.freeze fs).mem b)
  | [], s, b, _, h => h
  | c :: r, s, b, hn, h => by
    simp only [List.mem_cons, not_or] at hn
    refine freeze_cells r (s.freeze1 c) b hn.2 ?_
    show isCells (upd (fun d => frzB c (s.mem c) (s.mem d)) c .dead b)
    rw [upd_other _ _ _ hn.1]
    cases hm : s.mem b <;> rw [hm] at h <;> first | exact h.elim | trivial
theorem kills_cells : ∀ (l : List Nat) (s : St) (b : Nat), isCells (s.mem b) → isCells ((s.kills l).mem b)
  | [], s, b, h => h
  | c :: r, s, b, h => by
    refine kills_cells r (s.kill c) b ?_
    show isCells (frzB c .dead (s.mem b))
    cases hm : s.mem b <;> rw [hm] at h <;> first | exact h.elim | trivial
theorem freeze_live : ∀ (fs : List Nat) (s : St) (b : Nat), live s.mem b → b ∉ fs → live (s.freeze fs).mem b
  | [], s, b, h, _ => h
  | c :: r, s, b, h, hn => by
    simp only [List.mem_cons, not_or] at hn
    refine freeze_live r (s.freeze1 c) b (fun e => h ?_) hn.2
    have : (s.freeze1 c).mem b = frzB c (s.mem c) (s.mem b) := by
      show upd (fun d => frzB c (s.mem c) (s.mem d)) c .dead b = _
      rw [upd_other _ _ _ hn.1]
    rw [this] at e
    exact frzB_live.1 e

theorem RelL.frzIf {F : Fr} {s : St} {loc : Nat → Value} {a : Act} {w : World} (h : RelL F s loc a w) (fz : Bool) (fs : List Nat) : RelL F (s.frzIf fz fs) loc a w := by
  cases fz
  · exact h
  · exact h.freeze fs
theorem frzIf_mem {fz : Bool} {fs : List Nat} {s : St} {b : Nat} (h : live (s.frzIf fz fs).mem b) : live s.mem b ∧ (fz = true → b ∉ fs) := by
  cases fz
  · exact ⟨h, fun e => by cases e⟩
  · have := freeze_mem fs s b h
    exact ⟨this.1, fun _ => this.2⟩
theorem frzIf_live {fz : Bool} {fs : List Nat} {s : St} {b : Nat} (h : live s.mem b) (hn : b ∉ fs) : live (s.frzIf fz fs).mem b := by
  cases fz
  · exact h
  · exact freeze_live fs s b h hn
theorem frzIf_cells {fz : Bool} {fs : List Nat} {s : St} {b : Nat} (hn : b ∉ fs) (h : isCells (s.mem b)) : isCells ((s.frzIf fz fs).mem b) := by
  cases fz
  · exact h
  · exact freeze_cells fs s b hn h

section
variable {P : Program} {F : Fr} {c : Cfg} {R : Type} {r : R} {s s2 : St} {loc loc2 : Nat → Value} {a a2 : Act} {w w' : World}

theorem leaveX (h : RelL F s loc a w) {k : FK} {args : List V} {xs : k.T} {fs : List Nat} {ss : List Src} (hd : decX s.mem false k args = some (xs, [], fs, ss)) (hnd : (srcN ss).Nodup) (hap : ∀ b ∈ srcN ss, b ∉ fs)
    {nt : Nat} (hr : RelL (frX F s loc w fs ss (bsN (bkX k) ss) nt) s2 loc2 a2 w')
    {fz : Bool} {kx : FK} (hfz : fz = true ∨ kx.flat = true) {vs : List V} {us : List Value} {y : kx.T} {fs2 : List Nat} {ss2 : List Src} (hus : VRs (cxOf (frX F s loc w fs ss (bsN (bkX k) ss) nt) s2 loc2 w') vs us) (hd2 : decX s2.mem false kx vs = some (y, [], fs2, ss2)) (hnd2 : (srcN ss2).Nodup) (hap2 : ∀ b ∈ srcN ss2, b ∉ fs2)
    {ns : List Nat} (hns : ns.Nodup) (hlen : ns.length = kx.cnt) (hroom : ∀ n ∈ ns, n ∈ bsN (bkX k) ss ∨ (((s.frzIf fz fs).kills (dsN (bkX k) ss)).deads (dsN (bkX k) ss)).mem n = .dead)
    (hbn : ∀ b ∈ bsN (bkX k) ss, b ∈ ns) (hroots : ∀ x' : Cx, VRs x' (encX (nthN ns) false 0 kx y) us → ∀ b ∈ bsN (bkX k) ss, isCell (x'.mem b) ∧ x'.loc b = loc b) :
    ∃ loc', RelL F ((((s.frzIf fz fs).kills (dsN (bkX k) ss)).deads (dsN (bkX k) ss)).blks (memX (nthN ns) 0 kx y)) loc' a w' ∧
      VRs (cxOf F ((((s.frzIf fz fs).kills (dsN (bkX k) ss)).deads (dsN (bkX k) ss)).blks (memX (nthN ns) 0 kx y)) loc' w') (encX (nthN ns) false 0 kx y) us := by
  obtain ⟨hl1, hlv, hbk⟩ := decX_src k false hd
  obtain ⟨hl2, hlv2, _⟩ := decX_src kx false hd2
  have hfl : (bkX k).length = ss.length := by rw [bkX_len, hl1]
  have hnames : (memX (nthN ns) 0 kx y).map (·.1) = ns := by rw [memX_names, ← hlen, map_nthN]
  have h2 := (h.frzIf fz fs).kills (dsN (bkX k) ss)
  have hlive2 : ∀ b, live ((s.frzIf fz fs).kills (dsN (bkX k) ss)).mem b → live s.mem b ∧ (fz = true → b ∉ fs) := fun b hb => frzIf_mem ((kills_live _ _ b).1 hb)
  have hlent : ∀ b ∈ srcN ss, live ((s.frzIf fz fs).kills (dsN (bkX k) ss)).mem b := fun b hb => (kills_live _ _ b).2 (frzIf_live (hlv b hb) (hap b hb))
  obtain ⟨hless, hlessB⟩ := kills_less (dsN (bkX k) ss) (s.frzIf fz fs)
  have hcells : ∀ b ∈ bsN (bkX k) ss, isCells (((s.frzIf fz fs).kills (dsN (bkX k) ss)).mem b) := fun b hb => by
    obtain ⟨j, h1, h3⟩ := bsN_at hb
    obtain ⟨b', h4, t, cs, h5⟩ := hbk j h1
    rw [h3] at h4
    injection h4 with h4
    injection h4 with h4
    subst h4
    exact kills_cells _ _ _ (frzIf_cells (hap b (bsN_src _ _ b hb)) (by rw [h5]; trivial))
  generalize hS2 : (s.frzIf fz fs).kills (dsN (bkX k) ss) = S2 at h2 hlive2 hlent hroom hless hlessB hcells
  generalize hds : dsN (bkX k) ss = ds at hroom hless hlessB
  have hcase : ∀ b ∈ srcN ss, b ∈ bsN (bkX k) ss ∨ b ∈ ds := fun b hb => hds ▸ src_cases _ _ hfl b hb
  have hdsrc : ∀ b ∈ ds, b ∈ srcN ss := fun b hb => dsN_src _ _ b (hds ▸ hb)
  have hbsrc := bsN_src (bkX k) ss
  have hbd : ∀ b ∈ bsN (bkX k) ss, b ∉ ds := fun b hb => hds ▸ bs_ds _ _ hnd b hb
  generalize hbs : bsN (bkX k) ss = bs at hr hus hroom hbn hroots hcase hbsrc hbd hcells
  generalize hF' : frX F s loc w fs ss bs nt = F' at hr hus
  have hw0 : F'.w0 = w := by rw [← hF']; rfl
  have hfoot : ∀ g, F'.foot g ↔ ∃ b ∈ srcN ss, blkOf (loc b) = some g := fun g => by rw [← hF']; rfl
  have hhide : ∀ g, F'.hide g ↔ g < w.heap.size ∧ ¬ (∃ b ∈ srcN ss, blkOf (loc b) = some g) ∧ (F.hide g ∨ (owned s.mem loc g ∧ ¬ ∃ b ∈ fs, live s.mem b ∧ blkOf (loc b) = some g)) := fun g => by rw [← hF']; rfl
  have hk := hr.kept
  -- the state behind it
  generalize hS' : (S2.deads ds).blks (memX (nthN ns) 0 kx y) = S'
  have henv : S'.env = S2.env := by rw [← hS', blks_env, deads_env]
  have hin : ∀ p ∈ memX (nthN ns) 0 kx y, S'.mem p.1 = p.2 := fun p hp => by rw [← hS']; exact blks_in _ (by rw [hnames]; exact hns) hp
  have hout : ∀ n, n ∉ ns → S'.mem n = (S2.deads ds).mem n := fun n hn => by rw [← hS']; exact blks_out _ (by rw [hnames]; exact hn)
  have hsrcat : ∀ n ∈ ns, ∃ q, locZ loc2 loc ns ss2 n = locS loc2 q ∧ (∀ g, blkOf (locS loc2 q) = some g → ∃ p ∈ q.names, live s2.mem p ∧ blkOf (loc2 p) = some g) ∧ ∃ j, ns[j]? = some n ∧ ss2[j]? = some q := fun n hn => by
    obtain ⟨j, hj, hjn⟩ := List.mem_iff_getElem.1 hn
    have hj' : j < ss2.length := by rw [hl2, ← hlen]; exact hj
    have e1 : ns[j]? = some n := by rw [List.getElem?_eq_getElem hj, hjn]
    have e2 : ss2[j]? = some ss2[j] := List.getElem?_eq_getElem hj'
    refine ⟨ss2[j], locZ_in hns e1 e2, fun g hg => ?_, j, e1, e2⟩
    obtain ⟨p, hp, hpg⟩ := locS_blk hg
    exact ⟨p, hp, hlv2 p (srcN_mem e2 hp), hpg⟩
  -- what lives behind it
  have hS'live : ∀ n, live S'.mem n → n ∈ ns ∨ (n ∉ ns ∧ n ∉ ds ∧ live S2.mem n) := fun n hn => by
    by_cases hnn : n ∈ ns
    · exact .inl hnn
    · refine .inr ⟨hnn, ?_⟩
      unfold live at hn ⊢
      rw [hout n hnn] at hn
      by_cases hnd : n ∈ ds
      · exact absurd ((deads_mem ds S2 n).1 hnd) hn
      · rw [(deads_mem ds S2 n).2 hnd] at hn
        exact ⟨hnd, hn⟩
  have hother : ∀ n, live S2.mem n → n ∉ ns → n ∉ ds → n ∉ srcN ss := fun n _ h1 h3 h4 => (hcase n h4).elim (fun h5 => h1 (hbn n h5)) h3
  -- blocks of the callee's
  have hpg : ∀ p g, live s2.mem p → blkOf (loc2 p) = some g → (∃ b ∈ srcN ss, blkOf (loc b) = some g) ∨ w.heap.size ≤ g := fun p g hp hg => by
    rcases hr.low p g hp hg with h1 | h1
    · exact .inl ((hfoot g).1 h1)
    · exact .inr (hw0 ▸ h1)
  have hown2 : ∀ b ∈ srcN ss, ∀ g, blkOf (loc b) = some g → owned S2.mem loc g := fun b hb g hg => ⟨b, hlent b hb, hg⟩
  have hok : fz = true → ∀ g, okF (cxOf F' s2 loc2 w') fs2 g → okOf F S'.mem (locZ loc2 loc ns ss2) w' g := by
    intro hfzt g hg
    have hlow : ∀ n, n ∉ ns → n ∉ ds → live S2.mem n → blkOf (loc n) = some g → ¬ ((∃ b ∈ srcN ss, blkOf (loc b) = some g) ∨ w.heap.size ≤ g) := fun n h1 h3 h4 h5 h6 => by
      rcases h6 with ⟨b, hb, hbg⟩ | h6
      · have := h2.inj n b g h4 (hlent b hb) h5 hbg
        subst this
        exact hother n h4 h1 h3 hb
      · have := h2.lt h4 h5
        omega
    rcases hg with hg | ⟨p, hp, hpl, hpg'⟩
    · refine ⟨⟨hg.1.1, fun hh => hg.1.2 ((hhide g).2 ⟨?_, fun hf => ?_, .inl hh⟩)⟩, fun ⟨n, hn, hng⟩ => ?_⟩
      · have := (F.hl g hh).1
        have := h.kept.size
        omega
      · obtain ⟨b, hb, hbg⟩ := hf
        exact h.seen (hlv b hb) hbg hh
      · rcases hS'live n hn with hnn | ⟨hnn, hnd', hnl⟩
        · obtain ⟨q, e, hq, _⟩ := hsrcat n hnn
          rw [e] at hng
          obtain ⟨p, _, hpl, hpg'⟩ := hq g hng
          exact hg.2 ⟨p, hpl, hpg'⟩
        · rw [locZ_out hnn] at hng
          have hx := hlow n hnn hnd' hnl hng
          refine hg.1.2 ((hhide g).2 ⟨h2.lt hnl hng, fun hf => hx (.inl hf), .inr ⟨⟨n, (hlive2 n hnl).1, hng⟩, ?_⟩⟩)
          rintro ⟨b, hb, hbl, hbg⟩
          have := h.inj b n g hbl (hlive2 n hnl).1 hbg hng
          subst this
          exact (hlive2 b hnl).2 hfzt hb
    · have hpp := hpg p g hpl hpg'
      refine ⟨⟨hr.lt hpl hpg', fun hh => ?_⟩, fun ⟨n, hn, hng⟩ => ?_⟩
      · rcases hpp with ⟨b, hb, hbg⟩ | hge
        · exact h.seen (hlv b hb) hbg hh
        · have := (F.hl g hh).1
          have := h.kept.size
          omega
      · rcases hS'live n hn with hnn | ⟨hnn, hnd', hnl⟩
        · obtain ⟨q, e, hq, j, _, ej⟩ := hsrcat n hnn
          rw [e] at hng
          obtain ⟨p', hp', hpl', hpg2⟩ := hq g hng
          have := hr.inj p' p g hpl' hpl hpg2 hpg'
          subst this
          exact hap2 p' (srcN_mem ej hp') hp
        · rw [locZ_out hnn] at hng
          exact hlow n hnn hnd' hnl hng hpp
  obtain ⟨hc, ⟨us1, us2, e, hv1, hv2⟩, hbr⟩ := decX_sound (x := cxOf F' s2 loc2 w') (x' := cxOf F S' (locZ loc2 loc ns ss2) w') (nm := nthN ns) hr.blk rfl kx false 0 hus hd2 (hfz.elim (fun h => .inr (hok h)) .inl) (fun j q hq => by
    have hj : j < ns.length := by rw [hlen, ← hl2]; exact (List.getElem?_eq_some_iff.1 hq).1
    show locZ loc2 loc ns ss2 (nthN ns (0 + j)) = _
    rw [Nat.zero_add, nthN_get (List.getElem?_eq_getElem hj)]
    exact locZ_in hns (List.getElem?_eq_getElem hj) hq) hin
  have hu2 : us2 = [] := hv2
  subst hu2
  rw [List.append_nil] at e
  subst e
  have hroot := hroots _ hv1
  have hheap : ∀ g, okOf F S2.mem loc w g → w'.heap[g]? = w.heap[g]? := fun g hg => by
    have := hk.block g (by rw [hw0]; exact hg.1.1) (fun hf => by
      obtain ⟨b, hb, hbg⟩ := (hfoot g).1 hf
      exact hg.2 (hown2 b hb g hbg))
    rw [hw0] at this
    exact this
  have hsz : w.heap.size ≤ w'.heap.size := by have := hk.size; rw [hw0] at this; exact this
  have hleD : (cxOf F S2 loc w).leD ds (cxOf F S' (locZ loc2 loc ns ss2) w') := by
    refine ⟨fun g hg => ⟨⟨Nat.lt_of_lt_of_le hg.1.1 hsz, hg.1.2⟩, fun ⟨n, hn, hng⟩ => ?_⟩, fun p u hp hcell => ?_, fun n hnd' => ?_⟩
    · rcases hS'live n hn with hnn | ⟨hnn, hnd', hnl⟩
      · obtain ⟨q, e, hq, _⟩ := hsrcat n hnn
        rw [e] at hng
        obtain ⟨p, _, hpl, hpg'⟩ := hq g hng
        rcases hpg p g hpl hpg' with ⟨b, hb, hbg⟩ | hge
        · exact hg.2 (hown2 b hb g hbg)
        · have := hg.1.1; omega
      · rw [locZ_out hnn] at hng
        exact hg.2 ⟨n, hnl, hng⟩
    · show w'.cell? p = some u
      rw [World.cell?_of_block (hheap p.block hp)]; exact hcell
    · show Alike (S2.mem n) (loc n) (S'.mem n) (locZ loc2 loc ns ss2 n)
      by_cases hnn : n ∈ ns
      · rcases hroom n hnn with hb | hdead
        · obtain ⟨hcell, hlc⟩ := hroot n hb
          have hlc : locZ loc2 loc ns ss2 n = loc n := hlc
          have hcell : isCell (S'.mem n) := hcell
          rw [hlc]
          have hl := hcells n hb
          have hx : ∃ p ∈ memX (nthN ns) 0 kx y, p.1 = n := by
            have : n ∈ (memX (nthN ns) 0 kx y).map (·.1) := by rw [hnames]; exact hnn
            obtain ⟨p, hp, e⟩ := List.mem_map.1 this
            exact ⟨p, hp, e⟩
          obtain ⟨p, hp, rfl⟩ := hx
          have hkd := memX_kind (nthN ns) kx 0 y p hp
          rw [hin p hp] at hcell ⊢
          cases hm : S2.mem p.1 <;> rw [hm] at hl <;> try exact hl.elim
          refine .inr ⟨rfl, ?_⟩
          rcases hkd with ⟨t, cs, e⟩ | ⟨t, e, xs, e'⟩
          · rw [e]; trivial
          · rw [e'] at hcell; exact hcell.elim
        · rw [(deads_mem ds S2 n).2 hnd'] at hdead
          rw [hdead]; exact .inl rfl
      · rw [hout n hnn, (deads_mem ds S2 n).2 hnd', locZ_out hnn]
        exact Alike.refl _ _
  have henvD : ∀ i, ∀ b ∈ blksV (S2.env i), b ∉ ds := fun i b hb => (hless i b hb).2
  have hmemD : ∀ n, ∀ b ∈ blkBlks (S2.mem n), b ∉ ds := fun n b hb => (hlessB n b hb).2
  refine ⟨locZ loc2 loc ns ss2, ⟨fun n => ?_, fun n n' g hn hn' hg hg' => ?_, fun n g hn hg => ?_, fun i => ?_, h.size, h.defers, ?_⟩, hv1⟩
  · by_cases hnn : n ∈ ns
    · have : n ∈ (memX (nthN ns) 0 kx y).map (·.1) := by rw [hnames]; exact hnn
      obtain ⟨p, hp, rfl⟩ := List.mem_map.1 this
      rw [hin p hp]
      exact hbr p hp
    · rw [hout n hnn]
      by_cases hnd' : n ∈ ds
      · rw [(deads_mem ds S2 n).1 hnd']; trivial
      · rw [(deads_mem ds S2 n).2 hnd']
        by_cases hdead : S2.mem n = .dead
        · rw [hdead]; trivial
        · exact (h2.blk n).monoD hleD (locZ_out hnn) (fun g hg => by
            have hlt := h2.lt hdead hg
            have := hk.block g (by rw [hw0]; exact hlt) (fun hf => by
              obtain ⟨b, hb, hbg⟩ := (hfoot g).1 hf
              have := h2.inj n b g hdead (hlent b hb) hg hbg
              subst this
              exact hother n hdead hnn hnd' hb)
            rw [hw0] at this
            exact this) (hmemD n)
  · have key : ∀ n n', live S'.mem n → live S'.mem n' → blkOf (locZ loc2 loc ns ss2 n) = some g → blkOf (locZ loc2 loc ns ss2 n') = some g → n ∈ ns → n' ∉ ns → False := fun n n' hn hn' hg hg' hnn hnn' => by
      obtain ⟨q, e, hq, _⟩ := hsrcat n hnn
      rw [e] at hg
      obtain ⟨p, _, hpl, hpg'⟩ := hq g hg
      rcases hS'live n' hn' with h4 | ⟨_, h5, h6⟩
      · exact hnn' h4
      · rw [locZ_out hnn'] at hg'
        rcases hpg p g hpl hpg' with ⟨b, hb, hbg⟩ | hge
        · have := h2.inj n' b g h6 (hlent b hb) hg' hbg
          subst this
          exact hother n' h6 hnn' h5 hb
        · have := h2.lt h6 hg'; omega
    by_cases hnn : n ∈ ns
    · by_cases hnn' : n' ∈ ns
      · obtain ⟨q, e, hq, j, ej, ej2⟩ := hsrcat n hnn
        obtain ⟨q', e', hq', j', ej', ej2'⟩ := hsrcat n' hnn'
        rw [e] at hg
        rw [e'] at hg'
        obtain ⟨p, hp, hpl, hpg1⟩ := hq g hg
        obtain ⟨p', hp', hpl', hpg2⟩ := hq' g hg'
        have := hr.inj p p' g hpl hpl' hpg1 hpg2
        subst this
        have := src_inj hnd2 ej2 ej2' hp hp'
        subst this
        rw [ej] at ej'
        exact Option.some.inj ej'
      · exact (key n n' hn hn' hg hg' hnn hnn').elim
    · by_cases hnn' : n' ∈ ns
      · exact (key n' n hn' hn hg' hg hnn' hnn).elim
      · rcases hS'live n hn with h4 | ⟨_, _, h6⟩
        · exact absurd h4 hnn
        · rcases hS'live n' hn' with h4' | ⟨_, _, h6'⟩
          · exact absurd h4' hnn'
          · rw [locZ_out hnn] at hg
            rw [locZ_out hnn'] at hg'
            exact h2.inj n n' g h6 h6' hg hg'
  · rcases hS'live n hn with h4 | ⟨hnn, _, h6⟩
    · obtain ⟨q, e, hq, _⟩ := hsrcat n h4
      rw [e] at hg
      obtain ⟨p, _, hpl, hpg'⟩ := hq g hg
      rcases hpg p g hpl hpg' with ⟨b, hb, hbg⟩ | hge
      · exact h2.low b g (hlent b hb) hbg
      · have := h.kept.size
        right; omega
    · rw [locZ_out hnn] at hg
      exact h2.low n g h6 hg
  · rw [henv]
    exact VR.monoD hleD _ _ (henvD i) (h2.env i)
  · have hos := hk.os; have htape := hk.tape; have hout' := hk.output
    rw [hw0] at hos htape hout'
    exact ⟨hos.trans h.kept.os, htape.trans h.kept.tape, hout'.trans h.kept.output, Nat.le_trans h.kept.size hsz, fun g hg hf => by
      have hlt : g < w.heap.size := Nat.lt_of_lt_of_le hg h.kept.size
      have := hk.block g (by rw [hw0]; exact hlt) (fun hff => by
        obtain ⟨b, hb, hbg⟩ := (hfoot g).1 hff
        rcases h.low b g (hlv b hb) hbg with h1 | h1
        · exact hf h1
        · omega)
      rw [hw0] at this
      rw [this]
      exact h.kept.block g hg hf⟩
end
end AM
namespace AM
open Go

/-- Kinds of one value. -/
def FK.one : FK → Bool
  | .unit | .pair _ _ => false
  | _ => true

section
variable {P : Program} {F : Fr} {c : Cfg} {R : Type} {r : R} {s s' s2 : St} {loc loc2 : Nat → Value} {a a2 : Act} {w w' : World} {aks rks : List FK} {pre : (chain aks).T → Bool} {f : (chain aks).T → (outX aks rks).T}

/-! ### 1. Slots that it does not look at; what it keeps -/
theorem kills_put {k : Nat} {v : V} : ∀ (l : List Nat) (s : St), (∀ b ∈ l, b ∉ blksV v) → (s.put (some k) v).kills l = (s.kills l).put (some k) v
  | [], s, _ => rfl
  | b :: r, s, h => by
    have : (s.put (some k) v).kill b = (s.kill b).put (some k) v := by
      refine St.ext (funext fun i => ?_) rfl
      show frz b .dead (upd s.env k v i) = upd (fun i => frz b .dead (s.env i)) k v i
      by_cases hi : i = k
      · subst hi; rw [upd_same, upd_same, frz_apart b .dead v (h b (List.mem_cons_self ..))]
      · rw [upd_other _ _ _ hi, upd_other _ _ _ hi]
    show ((s.put (some k) v).kill b).kills r = _
    rw [this]
    exact kills_put r (s.kill b) (fun c hc => h c (List.mem_cons_of_mem _ hc))
theorem deads_put {k : Nat} {v : V} : ∀ (l : List Nat) (s : St), (s.put (some k) v).deads l = (s.deads l).put (some k) v
  | [], s => rfl
  | b :: r, s => deads_put r (s.blk b .dead)
theorem blks_put {k : Nat} {v : V} (s : St) : ∀ (l : List (Nat × Blk)), (s.put (some k) v).blks l = (s.blks l).put (some k) v
  | [] => rfl
  | p :: r => by
    show ((s.put (some k) v).blks r).blk p.1 p.2 = _
    rw [blks_put s r]; rfl
theorem specX_put (args : List V) (s : St) (d k : Nat) (v : V) (hv : ∀ b ∈ (specX aks rks pre f).tw args s.mem d, b ∉ blksV v) :
    (specX aks rks pre f).run args (s.put (some k) v) d = ((specX aks rks pre f).run args s d).map (mp k v) := by
  simp only [specX, put_mem] at hv ⊢
  cases hd : decX s.mem false (chain aks) args with
  | none => rfl
  | some p =>
    obtain ⟨xs, rest, fs, ss⟩ := p
    cases rest with
    | cons _ _ => rfl
    | nil =>
      simp only [hd] at hv
      simp only
      have e1 : ((s.put (some k) v).frzIf (fzX aks rks) fs).kills (dsN (bkX (chain aks)) ss) = ((s.frzIf (fzX aks rks) fs).kills (dsN (bkX (chain aks)) ss)).put (some k) v := by
        have e0 : (s.put (some k) v).frzIf (fzX aks rks) fs = (s.frzIf (fzX aks rks) fs).put (some k) v := by
          cases fzX aks rks
          · rfl
          · exact put_freeze k fs s (fun b hb => hv b (by simp [hb]))
        rw [e0, kills_put _ _ (fun b hb => hv b (by simp [dsN_src _ _ b hb]))]
      have e2 : roomX aks rks (s.put (some k) v) d fs ss = roomX aks rks s d fs ss := by
        simp only [roomX, e1, deads_put]; rfl
      have e3 : backX aks rks (s.put (some k) v) d fs ss (f xs) = (backX aks rks s d fs ss (f xs)).put (some k) v := by
        simp only [backX, e1, deads_put, blks_put]
      rw [e2, e3]
      cases (Nat.beq args.length aks.length && roomX aks rks s d fs ss) <;> rfl

theorem KeepT.kills {tw : List Nat} : ∀ (l : List Nat) (s : St), (∀ b ∈ l, b ∈ tw) → KeepT tw s (s.kills l)
  | [], s, _ => KeepT.refl tw s
  | b :: r, s, h => (KeepT.kill s (h b (List.mem_cons_self ..))).trans (KeepT.kills r (s.kill b) (fun c hc => h c (List.mem_cons_of_mem _ hc)))
theorem KeepT.frzIf {tw : List Nat} (fz : Bool) (fs : List Nat) (s : St) (h : ∀ b ∈ fs, b ∈ tw) : KeepT tw s (s.frzIf fz fs) := by
  cases fz
  · exact KeepT.refl tw s
  · exact KeepT.freeze fs s h
theorem KeepT.deads {tw : List Nat} : ∀ (l : List Nat) (s : St), (∀ b ∈ l, b ∈ tw) → KeepT tw s (s.deads l)
  | [], s, _ => KeepT.refl tw s
  | b :: r, s, h => (KeepT.blk s .dead (h b (List.mem_cons_self ..))).trans (KeepT.deads r (s.blk b .dead) (fun c hc => h c (List.mem_cons_of_mem _ hc)))
theorem KeepT.blks {tw : List Nat} (s : St) : ∀ (l : List (Nat × Blk)), (∀ p ∈ l, p.1 ∈ tw) → KeepT tw s (s.blks l)
  | [], _ => KeepT.refl tw s
  | p :: r, h => (KeepT.blks s r (fun c hc => h c (List.mem_cons_of_mem _ hc))).trans (KeepT.blk (s.blks r) p.2 (h p (List.mem_cons_self ..)))
theorem specX_keep (args : List V) (s : St) (d : Nat) (g : Bool) (v : V) (s' : St) (h : (specX aks rks pre f).run args s d = some (g, v, s')) : KeepT ((specX aks rks pre f).tw args s.mem d) s s' := by
  simp only [specX] at h ⊢
  cases hd : decX s.mem false (chain aks) args with
  | none => rw [hd] at h; cases h
  | some p =>
    obtain ⟨xs, rest, fs, ss⟩ := p
    rw [hd] at h
    cases rest with
    | cons _ _ => cases h
    | nil =>
      simp only at h ⊢
      cases hc : (Nat.beq args.length aks.length && roomX aks rks s d fs ss)
      · rw [hc] at h; cases h
      · rw [hc] at h
        simp only [cond_true, Option.some.injEq, Prod.mk.injEq] at h
        obtain ⟨_, _, rfl⟩ := h
        simp only [Bool.and_eq_true, roomX] at hc
        refine (((KeepT.frzIf (fzX aks rks) fs s (fun b hb => by simp [hb])).trans (KeepT.kills _ _ (fun b hb => by simp [dsN_src _ _ b hb]))).trans (KeepT.deads _ _ (fun b hb => by simp [dsN_src _ _ b hb]))).trans (KeepT.blks _ _ (fun p hp => ?_))
        have : p.1 ∈ (memX (nthN (nsX aks rks d ss)) 0 (outX aks rks) (f xs)).map (·.1) := List.mem_map.2 ⟨p, hp, rfl⟩
        rw [memX_names, ← Nat.eq_of_beq_eq_true hc.2.1.2, map_nthN] at this
        simp [this]

/-! ### 2. Results -/
theorem ret_split {x : Cx} {n : Nat} {v : V} {u : Value} {vs : List V} (hu : unret n v = some vs) (hv : VR x v u) : ∃ us, VRs x vs us ∧ ∀ (x' : Cx) (ws : List V), ws.length = n → VRs x' ws us → VR x' (retV ws) u := by
  by_cases h1 : n = 1
  · subst h1
    have hu : vs = [v] := (Option.some.inj hu).symm
    subst hu
    refine ⟨[u], ⟨u, [], rfl, hv, rfl⟩, fun x' ws hl hw => ?_⟩
    match ws, hl with
    | [z], _ =>
      obtain ⟨u', q, e, hz, _⟩ := hw
      injection e with e _
      subst e
      exact hz
  · have hu' : v = .tuple vs := unret_ne h1 hu
    subst hu'
    obtain ⟨us, rfl, hs⟩ := hv
    refine ⟨us, hs, fun x' ws hl hw => ?_⟩
    have hr : retV ws = .tuple ws := by
      match ws, hl with
      | [], _ => rfl
      | [x], hn => exact absurd hn.symm h1
      | _ :: _ :: _, _ => rfl
    rw [hr]
    exact ⟨us, rfl, hw⟩

theorem chain_split (nm : Nat → Nat) : ∀ (l m : List FK) (i : Nat) (y : (chain (l ++ m)).T), (l.all FK.one = true) → ∃ (y1 : (chain l).T) (y2 : (chain m).T), encX nm false i (chain (l ++ m)) y = encX nm false i (chain l) y1 ++ encX nm false (i + (chain l).cnt) (chain m) y2 ∧ (encX nm false i (chain l) y1).length = l.length
  | [], m, i, y, _ => ⟨(), y, rfl, rfl⟩
  | k :: r, m, i, y, h => by
    simp only [List.all_cons, Bool.and_eq_true] at h
    obtain ⟨y1, y2, e, hl⟩ := chain_split nm r m (i + k.cnt) y.2 h.2
    refine ⟨(y.1, y1), y2, ?_, ?_⟩
    · show encX nm false i k y.1 ++ encX nm false (i + k.cnt) (chain (r ++ m)) y.2 = (encX nm false i k y.1 ++ encX nm false (i + k.cnt) (chain r) y1) ++ _
      rw [e, List.append_assoc]
      congr 2
      show encX nm false (i + k.cnt + (chain r).cnt) (chain m) y2 = encX nm false (i + (k.cnt + (chain r).cnt)) (chain m) y2
      rw [Nat.add_assoc]
    · show (encX nm false i k y.1 ++ encX nm false (i + k.cnt) (chain r) y1).length = _
      rw [List.length_append, hl, List.length_cons]
      have : (encX nm false i k y.1).length = 1 := by
        cases k <;> first | rfl | (simp [FK.one] at h)
      omega
theorem blX_obj : ∀ (k : FK), ∀ q ∈ blX k, ∃ t f, q = .obj true t f
  | .unit, q, h => by simp [blX] at h
  | .dat _, q, h => by simp [blX] at h
  | .nn _, q, h => by simp [blX] at h
  | .own _ _, q, h => by simp [blX] at h
  | .obj b t f, q, h => by
    cases b
    · simp [blX] at h
    · exact ⟨t, f, by simpa [blX] using h⟩
  | .fn _ c, q, h => blX_obj c q h
  | .pair a b, q, h => by
    rcases List.mem_append.1 h with h | h
    · exact blX_obj a q h
    · exact blX_obj b q h
theorem namB_len : ∀ (l : List FK) (bs : List Nat), (∀ q ∈ l, ∃ t f, q = .obj true t f) → l.length = bs.length → (namB l bs).length = (chain l).cnt
  | [], [], _, _ => rfl
  | [], _ :: _, _, h => by simp at h
  | _ :: _, [], _, h => by simp at h
  | k :: r, b :: bs, hq, h => by
    obtain ⟨t, f, rfl⟩ := hq k (List.mem_cons_self ..)
    simp only [namB, List.length_append, List.length_cons, List.length_map, List.length_range, chain, FK.cnt]
    rw [namB_len r bs (fun q h => hq q (List.mem_cons_of_mem _ h)) (by simpa using h)]
    omega
theorem namB_mem : ∀ (l : List FK) (bs : List Nat), l.length = bs.length → ∀ b ∈ bs, b ∈ namB l bs
  | [], [], _, b, hb => by simp at hb
  | [], _ :: _, h, _, _ => by simp at h
  | _ :: _, [], h, _, _ => by simp at h
  | k :: r, c :: bs, h, b, hb => by
    simp only [namB]
    rcases List.mem_cons.1 hb with rfl | hb
    · exact List.mem_append_left _ (List.mem_cons_self ..)
    · exact List.mem_append_right _ (namB_mem r bs (by simpa using h) b hb)
theorem roots {x' : Cx} {nm : Nat → Nat} : ∀ (l : List FK) (bs : List Nat) (i : Nat) (y : (chain l).T), (∀ q ∈ l, ∃ t f, q = .obj true t f) → VRs x' (encX nm false i (chain l) y) (bs.map loc) → (∀ (j n : Nat), (namB l bs)[j]? = some n → nm (i + j) = n) →
    ∀ b ∈ bs, isCell (x'.mem b) ∧ x'.loc b = loc b
  | [], bs, i, y, hq, hv, hn, b, hb => by
    have : bs.map loc = [] := hv
    rw [List.map_eq_nil_iff] at this
    subst this
    simp at hb
  | k :: r, [], i, y, hq, hv, hn, b, hb => by simp at hb
  | k :: r, c :: bs, i, y, hq, hv, hn, b, hb => by
    obtain ⟨t, f, rfl⟩ := hq k (List.mem_cons_self ..)
    obtain ⟨u, q, e, h1, h2⟩ := hv
    simp only [List.map_cons, List.cons.injEq] at e
    obtain ⟨e1, e2⟩ := e
    have hn0 : nm i = c := hn 0 c (by simp [namB])
    rcases List.mem_cons.1 hb with rfl | hb
    · obtain ⟨hc, g, hl, hu⟩ := h1
      rw [hn0] at hc hl
      exact ⟨hc, by rw [hl, e1, hu]⟩
    · refine roots r bs (i + (f.cnt + 1)) y.2 (fun q h => hq q (List.mem_cons_of_mem _ h)) (by rw [e2]; exact h2) (fun j n hj => ?_) b hb
      have := hn (f.cnt + 1 + j) n (by
        simp only [namB]
        rw [List.getElem?_append_right (by simp [FK.cnt])]
        rw [← hj]
        congr 1
        simp [FK.cnt])
      rwa [← Nat.add_assoc] at this
theorem VRs_map {x : Cx} {α : Type} {g : α → V} {h : α → Value} : ∀ (l : List α), (∀ j ∈ l, VR x (g j) (h j)) → VRs x (l.map g) (l.map h)
  | [], _ => rfl
  | j :: r, hj => ⟨_, _, rfl, hj j (List.mem_cons_self ..), VRs_map r (fun i hi => hj i (List.mem_cons_of_mem _ hi))⟩

/-! ### 3. A function that meets its contract -/
/-- What is asked of a function's runs. -/
def RunsX (P : Program) (g : FuncId) (nt : Nat) (aks rks : List FK) (xs : (chain aks).T) (y : (outX aks rks).T) : Prop :=
  ∀ (F' : Fr) (loc : Nat → Value) (us : List Value) (w : World), F'.nt = nt → us.length ≤ nt → RelL F' (stOf (argsAt 0 (encX calN false 0 (chain aks) xs) ++ gsX (chain aks)) (memX calN 0 (chain aks) xs)) loc { tmps := us.toArray ++ Array.replicate (nt - us.length) undef, defers := [] } w →
    Calls P g us.toArray w (fun e w' => ∃ u v s' loc' a', e = .returned u ∧ KX aks rks v s' = some y ∧ RelL F' s' loc' a' w' ∧ VR (cxOf F' s' loc' w') v u)
theorem specX_runs {nt : Nat} {fn : Func} {g : FuncId} (hf : P.funcs[g]? = some fn) (hname : (fn.name == "runtime.NumGoroutine") = false) (hbody : fn.body.isNone = false)
    (hnt : nt ≤ GH) (hlen : aks.length ≤ nt) (hone : rks.all FK.one = true)
    (hb : ∀ xs, pre xs = true → RunsX P g nt aks rks xs (f xs)) : SpecOk P g (specX aks rks pre f) := by
  refine ⟨specX_put, specX_keep, enter_of hf hname hbody, fun F s loc a w args us d v s' h hus hsp => ?_⟩
  simp only [specX] at hsp
  cases hd : decX s.mem false (chain aks) args with
  | none => rw [hd] at hsp; cases hsp
  | some p =>
    obtain ⟨xs, rest, fs, ss⟩ := p
    rw [hd] at hsp
    cases rest with
    | cons _ _ => cases hsp
    | nil =>
      simp only at hsp
      cases hc : (Nat.beq args.length aks.length && roomX aks rks s d fs ss)
      · rw [hc] at hsp; cases hsp
      rw [hc] at hsp
      simp only [cond_true, Option.some.injEq, Prod.mk.injEq] at hsp
      obtain ⟨hp, rfl, rfl⟩ := hsp
      simp only [Bool.and_eq_true, roomX] at hc
      obtain ⟨hcl, ⟨⟨⟨⟨hc1, hc2⟩, hc3⟩, hc4⟩, hc5⟩⟩ := hc
      have hnd := nodupB_iff hc1
      have hap := apartN_iff hc2
      have hl : us.length ≤ nt := by rw [VRs.len hus, Nat.eq_of_beq_eq_true hcl]; exact hlen
      obtain ⟨hs1, hs2, hs3⟩ := decX_src (chain aks) false hd
      have hfl : (bkX (chain aks)).length = ss.length := by rw [bkX_len, hs1]
      have hbl : (blX (chain aks)).length = (bsN (bkX (chain aks)) ss).length := by
        rw [blX_len, bsN_len _ _ hfl (fun j hj => let ⟨b, hb, _⟩ := hs3 j hj; ⟨b, hb⟩)]
      have hent := enterX h hnt hus hd hnd hap hl
      refine Calls.mono (hb xs hp _ _ us w rfl hl hent) ?_
      rintro e w' ⟨u, v2, s2, loc2, a2, rfl, hK, hr, hv⟩
      unfold KX at hK
      cases hu : unret rks.length v2 with
      | none => simp only [hu, reduceCtorEq] at hK
      | some vs =>
        simp only [hu] at hK
        cases hd2 : decX s2.mem false (outX aks rks) (vs ++ ghosts s2 (blX (chain aks)).length) with
        | none => simp only [hd2, reduceCtorEq] at hK
        | some p2 =>
          obtain ⟨y, rest, fs2, ss2⟩ := p2
          cases rest with
          | cons _ _ => simp only [hd2, reduceCtorEq] at hK
          | nil =>
            simp only [hd2] at hK
            cases hc' : (nodupB (srcN ss2) && apartN (srcN ss2) fs2 && Nat.beq vs.length rks.length)
            · rw [hc'] at hK; cases hK
            rw [hc'] at hK
            simp only [cond_true, Option.some.injEq] at hK
            subst hK
            simp only [Bool.and_eq_true] at hc'
            obtain ⟨⟨hk1, hk2⟩, hk3⟩ := hc'
            have hk3 := Nat.eq_of_beq_eq_true hk3
            obtain ⟨us2, hus2, hret⟩ := ret_split hu hv
            have hul : us2.length = rks.length := by rw [VRs.len hus2, hk3]
            have hgus : VRs (cxOf (frX F s loc w fs ss (bsN (bkX (chain aks)) ss) nt) s2 loc2 w') (ghosts s2 (blX (chain aks)).length) ((bsN (bkX (chain aks)) ss).map loc) := by
              have e : (bsN (bkX (chain aks)) ss).map loc = (List.range (blX (chain aks)).length).map fun j => slotV (frX F s loc w fs ss (bsN (bkX (chain aks)) ss) nt) a2 (GH + j) := by
                rw [hbl]
                apply List.ext_getElem?
                intro i
                rw [List.getElem?_map, List.getElem?_map]
                by_cases hi : i < (bsN (bkX (chain aks)) ss).length
                · rw [List.getElem?_range hi, List.getElem?_eq_getElem hi]
                  simp only [Option.map_some, slotV]
                  rw [if_pos ⟨Nat.le_add_right _ _, by show nt ≤ _; omega⟩]
                  simp only [frX, Nat.add_sub_cancel_left]
                  rw [List.getElem?_eq_getElem hi]
                · rw [List.getElem?_eq_none (by omega), List.getElem?_eq_none (by simp; omega)]; rfl
              rw [e]
              exact VRs_map _ (fun j _ => hr.env (GH + j))
            have hroom : ∀ n ∈ nsX aks rks d ss, n ∈ bsN (bkX (chain aks)) ss ∨ (((s.frzIf (fzX aks rks) fs).kills (dsN (bkX (chain aks)) ss)).deads (dsN (bkX (chain aks)) ss)).mem n = .dead := fun n hn => by
              have := List.all_eq_true.1 hc5 n hn
              cases hh : hasN (bsN (bkX (chain aks)) ss) n
              · rw [hh] at this
                exact .inr (free_dead this)
              · exact .inl (hasN_iff.1 hh)
            have hnslen := Nat.eq_of_beq_eq_true hc4
            obtain ⟨loc', hrel, hvs⟩ := leaveX h hd hnd hap hr (fz := fzX aks rks) (by cases hfl : (outX aks rks).flat <;> simp [fzX, hfl]) (VRs.append hus2 hgus) hd2 (nodupB_iff hk1) (apartN_iff hk2) (nodupB_iff hc3) hnslen hroom
              (fun b hb => List.mem_append_right _ (namB_mem _ _ hbl b hb))
              (fun x' hx b hb => by
                obtain ⟨y1, y2, ey, el⟩ := chain_split (nthN (nsX aks rks d ss)) rks (blX (chain aks)) 0 (f xs) hone
                have hx : VRs x' (encX (nthN (nsX aks rks d ss)) false 0 (chain (rks ++ blX (chain aks))) (f xs)) (us2 ++ (bsN (bkX (chain aks)) ss).map loc) := hx
                rw [ey] at hx
                have hx2 := VRs.drop rks.length hx
                rw [← el, List.drop_left, el, ← hul, List.drop_left] at hx2
                refine roots (nm := nthN (nsX aks rks d ss)) (blX (chain aks)) (bsN (bkX (chain aks)) ss) _ y2 (blX_obj _) hx2 (fun j n hj => ?_) b hb
                refine nthN_get ?_
                unfold nsX
                have e0 : (namR d (chain rks).cnt).length = (chain rks).cnt := by simp [namR]
                rw [List.getElem?_append_right (by omega), e0]
                rw [← hj]
                congr 1
                omega)
            refine ⟨u, loc', rfl, hrel, ?_⟩
            have ht := VRs.take rks.length hvs
            rw [← hul, List.take_left] at ht
            refine hret _ _ ?_ (by rw [← hul]; exact ht)
            have := VRs.len ht
            rw [hul] at this
            exact this.symm
theorem specX_ok (hm : P.follows .mixedOrders = true) {fn : Func} {g : FuncId} (hf : P.funcs[g]? = some fn) (hname : (fn.name == "runtime.NumGoroutine") = false) (hbody : fn.body.isNone = false) (hfn : fn.ntmps = c.nt) (htb : tabB P c.tb = true) (hT : TblOk P c.tbl) (hS : ∀ b, fn.body = some b → LoopsOk P c b)
    (hnt : c.nt ≤ GH) (hlen : aks.length ≤ c.nt) (hone : rks.all FK.one = true)
    (hb : ∀ xs, pre xs = true → execG c fn (encX calN false 0 (chain aks) xs) (gsX (chain aks)) (memX calN 0 (chain aks) xs) (KX aks rks) = some (f xs)) : SpecOk P g (specX aks rks pre f) :=
  specX_runs hf hname hbody hnt hlen hone (fun xs hp F' loc us w hF' hl hr => execF_sound hm hf hF' hfn htb hT hS hl hr (hb xs hp))
end
end AM
namespace AM
open Go

/-! ### 1. As it stands -/
def ghIx (k : FK) : List Nat := (List.range (blX k).length).map fun j => GH + j
def Norm.more (n : Norm) (l : List Nat) : Norm := { n with live := n.live ++ l }
def Ann.more (a : Ann) (l : List Nat) : Ann := ⟨a.head.more l, a.out.more l, a.ret.more l⟩
def cfgX (tb : Tab) (tbl : Tbl) (fn : Func) (aks : List FK) : Cfg := { tb := tb, tbl := tbl, nt := fn.ntmps, ann := fun i => (annAt (annsOf tb fn) i).more (ghIx (chain aks)), fuel := FUEL }
def runX (tb : Tab) (tbl : Tbl) (fn : Func) (aks rks : List FK) (xs : (chain aks).T) : Option (outX aks rks).T :=
  execG (cfgX tb tbl fn aks) fn (encX calN false 0 (chain aks) xs) (gsX (chain aks)) (memX calN 0 (chain aks) xs) (KX aks rks)
def FK.d : (k : FK) → k.T
  | .unit => ()
  | .dat t => t.d
  | .nn t => t.d
  | .own _ _ => []
  | .obj _ _ f => f.d
  | .fn _ c => c.d
  | .pair a b => (a.d, b.d)
def specRunX (tb : Tab) (tbl : Tbl) (fn : Func) (aks rks : List FK) : Spec := specX aks rks (fun xs => (runX tb tbl fn aks rks xs).isSome) (fun xs => (runX tb tbl fn aks rks xs).getD (outX aks rks).d)
theorem specRunX_ok {P : Program} {tb : Tab} {tbl : Tbl} (hm : P.follows .mixedOrders = true) {fn : Func} {f : FuncId} (hf : P.funcs[f]? = some fn) (hname : (fn.name == "runtime.NumGoroutine") = false) (hbody : fn.body.isNone = false) (htb : tabB P tb = true) (hT : TblOk P tbl)
    {aks rks : List FK} (hnt : Nat.ble fn.ntmps GH = true) (hlen : Nat.ble aks.length fn.ntmps = true) (hone : rks.all FK.one = true) : SpecOk P f (specRunX tb tbl fn aks rks) := by
  refine specX_ok (c := cfgX tb tbl fn aks) hm hf hname hbody rfl htb hT (fun b _ p _ L hL => by cases hL) (Nat.le_of_ble_eq_true hnt) (Nat.le_of_ble_eq_true hlen) hone (fun xs h => ?_)
  show runX tb tbl fn aks rks xs = _
  cases hr : runX tb tbl fn aks rks xs with
  | none => rw [hr] at h; cases h
  | some y => rfl

/-! ### 2. slices.Clone -/
section
variable {P : Program} {F : Fr} {c : Cfg} {R : Type} {r : R} {s s' s2 : St} {loc loc2 : Nat → Value} {a a2 : Act} {w w' : World}

def cloneR0 (t : TypeId) (p : String) : List Oper := [{ dst := some 2, op := .assign (.const (.slice none 0 0)), type := t, pos := p, after := #[], guard := none }]
def cloneO0 (t : TypeId) (p : String) : Oper := { dst := some 3, op := .move (.tmp 0), type := t, pos := p, after := #[], guard := none }
def cloneO1 (t b : TypeId) (p : String) : Oper := { dst := some 4, op := .binOp .eql t (.tmp 3) (.const (.slice none 0 0)) t, type := b, pos := p, after := #[{ on := 0, ground := .data }], guard := none }
/-- An end of a body. -/
theorem end_of {tb : Tab} (htb : tabB P tb = true) {fn : Func} {K : V → St → Option R} {r : R} {ex : Ex} {s' : St} {loc' : Nat → Value} {a' : Act} {w' : World} (hne : ∀ i, ex ≠ .exit i)
    (hK : (match resV s' tb fn.results.toList with | some vs => K (retV vs) s' | none => none) = some r) (hr : RelL F s' loc' a' w') :
    bodyPost P fn (fun e w' => ∃ u v s' loc' a', e = .returned u ∧ K v s' = some r ∧ RelL F s' loc' a' w' ∧ VR (cxOf F s' loc' w') v u) (exOf ex) a' w' := by
  have fin : (∃ vs, resV s' tb fn.results.toList = some vs ∧ K (retV vs) s' = some r) → a'.defers = [] ∧ ∃ v, (results fn a'.tmps).run P w' = .ok v w' ∧ ∃ u v' s'' loc' a', Ending.returned v = .returned u ∧ K v' s'' = some r ∧ RelL F s'' loc' a' w' ∧ VR (cxOf F s'' loc' w') v' u := by
    rintro ⟨vs, hv, hK⟩
    obtain ⟨u, h1, h2⟩ := results_sound htb hr hv
    exact ⟨hr.defers, u, h1, u, _, s', loc', a', rfl, hK, hr, h2⟩
  have hh : ∃ vs, resV s' tb fn.results.toList = some vs ∧ K (retV vs) s' = some r := by
    cases hv : resV s' tb fn.results.toList with
    | none => simp only [hv, reduceCtorEq] at hK
    | some vs => simp only [hv] at hK; exact ⟨vs, rfl, hK⟩
  cases ex with
  | exit i => exact absurd rfl (hne i)
  | normal => exact fin hh
  | ret => exact fin hh

theorem nil_eq {t te : TypeId} (hu : P.underlying t = some (.slice te)) (A : Option Addr) (n c : Nat) (w : World) : (binOp .eql t (.slice A n c) (.slice none 0 0)).run P w = .ok (.bool A.isNone) w := by
  have h0 : ∀ d : Nat, (Op.equalIn (d + 1) t (.slice A n c) (.slice none 0 0)).run P w = .ok A.isNone w := fun d => by cases A <;> simp [Op.equalIn, run_underlying hu]
  simp only [binOp]
  simp [Op.equal, Op.maxDepth, h0 9999]

/-- Of code: a comparison with nil, then two ways. -/
theorem clone_runs (hm : P.follows .mixedOrders = true) {fn : Func} {g : FuncId} (hf : P.funcs[g]? = some fn) {tb : Tab} {tbl : Tbl} (htb : tabB P tb = true) (hT : TblOk P tbl) {t te bt : TypeId} {e : Ty} {p0 p1 : String} {yes no : Code}
    (hb : fn.body = some ((Code.region 0 (cloneR0 t p0).toArray false).seq (((Code.region 1 [cloneO0 t p1, cloneO1 t bt p1].toArray false).seq (Code.cond (.tmp 4) yes .skip)).seq no)))
    (hu : P.underlying t = some (.slice te)) (hnt : fn.ntmps = 8) (hres : fn.results.toList = [.tmp 2])
    (hyes : ∀ (K : Ex → St → Option (List e.T × Unit)) (s : St), exec (cfgX tb tbl fn [.dat (.slice e)]) yes s K = K .ret (s.put (some 2) .nils))
    (xs : List e.T) (hno : exec (cfgX tb tbl fn [.dat (.slice e)]) no (((stOf [(0, .im e xs)] []).put (some 2) .nils |>.put (some 3) (.im e xs)).put (some 4) (.bool false)) (fun ex s => match ex with
      | .exit _ => none
      | _ => KX [.dat (.slice e)] [.own te e] (s.val (.tmp 2)) s) = some (xs, ())) :
    RunsX P g fn.ntmps [.dat (.slice e)] [.own te e] (xs, ()) (xs, ()) := by
  intro F' loc us w hF' hl hr
  have hx : RelL F' (stOf [(0, .im e xs)] []) loc { tmps := us.toArray ++ Array.replicate (fn.ntmps - us.length) undef, defers := [] } w := hr
  clear hr
  have hLs : ∀ b, LoopsOk P (cfgX tb tbl fn [.dat (.slice e)]) b := fun b p _ L hL => by cases hL
  refine calls_of_wp hf hb ?_
  have hsz : us.toArray.size = us.length := by simp
  rw [hsz]
  have hend : ∀ (ex : Ex) (s' : St) (a' : Act) (w' : World) (loc' : Nat → Value), (match ex with
      | .exit _ => none
      | _ => KX [.dat (.slice e)] [.own te e] (s'.val (.tmp 2)) s') = some (xs, ()) → RelL F' s' loc' a' w' → bodyPost P fn (fun e_1 w' => ∃ u v s' loc' a', e_1 = .returned u ∧ KX [.dat (.slice e)] [.own te e] v s' = some (xs, ()) ∧ RelL F' s' loc' a' w' ∧ VR (cxOf F' s' loc' w') v u) (exOf ex) a' w' := fun ex s' a' w' loc' hK hr => by
    refine end_of htb (fun i e => by subst e; cases hK) ?_ hr
    rw [hres]
    cases ex with
    | exit i => cases hK
    | normal => exact hK
    | ret => exact hK
  refine wp_seq ?_
  refine exec_sound (c := cfgX tb tbl fn [.dat (.slice e)]) (R := St) (r := (stOf [(0, .im e xs)] []).put (some 2) .nils) hm hF' htb hT _ (hLs _) (K := fun ex s' => match ex with | .normal => some s' | _ => none) ?_ hx (by
    simp only [exec, cond_false, List.toList_toArray, cloneR0, opsK, stepK, guardK, oneK, dstOk, dstOf, opK, opC, opA]
    show (bif Nat.blt 2 fn.ntmps then _ else _) = _
    rw [hnt]; rfl)
  intro ex s1 a1 w1 loc1 hK h1
  cases ex with
  | exit i => cases hK
  | ret => cases hK
  | normal =>
    injection hK with hK
    subst hK
    refine wp_seq (wp_seq (wp_region_list ?_))
    have hv0 : VR (cxOf F' _ loc1 w1) (.im e xs) (a1.eval (.tmp 0)) := h1.oper (.tmp 0)
    obtain ⟨A, cc, vs, hu0, hcc, hels, _⟩ := hv0
    have hu0 : a1.eval (.tmp 0) = .slice A xs.length cc := by injection hu0
    refine wpList_plain rfl (fun K hK => ?_)
    have hrun0 : (execOp a1.eval (cloneO0 t p1)).run P w1 = .ok (.value (.slice A xs.length cc)) w1 := by
      simp [execOp, cloneO0, hu0]
    unfold Oper.wp
    rw [hrun0]
    refine hK _ _ ?_
    have h2 := h1.put (some 3) (fun k hk => by injection hk with hk; subst hk; rw [hF', hnt]; decide) (v := .im e xs) (u := .slice A xs.length cc) (by
      have := h1.oper (.tmp 0)
      rw [hu0] at this
      exact this)
    refine wpList_plain rfl (fun K2 hK2 => ?_)
    have he3 : (a1.put (some 3) (.slice A xs.length cc)).eval (.tmp 3) = .slice A xs.length cc := by
      show (a1.tmps.setIfInBounds 3 _).getD 3 undef = _
      have : 3 < a1.tmps.size := by rw [h1.size, hF', hnt]; decide
      simp [Array.getD_eq_getD_getElem?, this]
    have hrun1 : (execOp (a1.put (some 3) (.slice A xs.length cc)).eval (cloneO1 t bt p1)).run P w1 = .ok (.value (.bool A.isNone)) w1 :=
      execOp_binOp (o := cloneO1 t bt p1) rfl he3 rfl (eqGuard_plain (fun cs ds => by simp) (by simp) w1) (nil_eq hu A _ _ w1)
    unfold Oper.wp
    rw [show (a1.put (cloneO0 t p1).dst (Value.slice A xs.length cc)) = a1.put (some 3) (.slice A xs.length cc) from rfl, hrun1]
    refine hK2 _ _ ?_
    have h3 := h2.put (some 4) (fun k hk => by injection hk with hk; subst hk; rw [hF', hnt]; decide) (v := .bool A.isNone) (u := .bool A.isNone) rfl
    refine wpList_nil ?_
    show (Code.cond (.tmp 4) yes .skip).wp P _ _ _
    refine wp_cond (t := A.isNone) (h3.oper (.tmp 4)) ?_
    cases hA : A with
    | none =>
      have hn : xs = [] := by
        subst hA
        cases xs with
        | nil => rfl
        | cons x r =>
          have := (h1.oper (.tmp 0))
          obtain ⟨A', c', vs', e1, _, _, hz⟩ := (this : VR (cxOf F' _ loc1 w1) (.im e (x :: r)) _)
          obtain ⟨ad, e2, _⟩ := hz (by simp)
          rw [hu0] at e1
          subst e2
          injection e1 with e1; cases e1
      subst hn
      subst hA
      simp only [Option.isNone_none, if_true]
      refine exec_sound (c := cfgX tb tbl fn [.dat (.slice e)]) (R := List e.T × Unit) (r := ([], ())) hm hF' htb hT yes (hLs _) (K := fun ex s' => match ex with
        | .ret => KX [.dat (.slice e)] [.own te e] (s'.val (.tmp 2)) s'
        | _ => none) ?_ h3 (by rw [hyes]; rfl)
      intro ex s2 a2 w2 loc2 hK h4
      cases ex with
      | exit i => cases hK
      | normal => cases hK
      | ret => exact hend .ret s2 a2 w2 loc2 hK h4
    | some ad =>
      subst hA
      simp only [Option.isNone_some, Bool.false_eq_true, if_false]
      refine wp_skip ?_
      show no.wp P _ _ _
      exact exec_sound (c := cfgX tb tbl fn [.dat (.slice e)]) (R := List e.T × Unit) (r := (xs, ())) hm hF' htb hT no (hLs _) (K := fun ex s => match ex with
        | .exit _ => none
        | _ => KX [.dat (.slice e)] [.own te e] (s.val (.tmp 2)) s) (fun ex s2 a2 w2 loc2 hK h4 => hend ex s2 a2 w2 loc2 hK h4) h3 hno
end
end AM
namespace AM
open Go

/-! ### 1. Kinds of slots and of blocks -/
inductive VK where
  | dat (t : Ty)
  | ptd (t : Ty)
  | con (v : V)
@[reducible] def VK.T : VK → Type
  | .dat t => t.T
  | .ptd t => t.T
  | .con _ => Unit
@[reducible] def VKs : List VK → Type
  | [] => Unit
  | k :: r => k.T × VKs r
inductive BK where
  | arr (t : TypeId) (e : Ty)
  | cells (t : TypeId) (ks : List VK)
  | iter
@[reducible] def BK.T : BK → Type
  | .arr _ e => List e.T
  | .cells _ ks => VKs ks
  | .iter => ByteArray × Nat
structure DS where
  env : List (Nat × VK)
  mem : List (Nat × BK)
@[reducible] def EnvT : List (Nat × VK) → Type
  | [] => Unit
  | p :: r => p.2.T × EnvT r
@[reducible] def MemT : List (Nat × BK) → Type
  | [] => Unit
  | p :: r => p.2.T × MemT r
@[reducible] def DS.T (d : DS) : Type := EnvT d.env × MemT d.mem
def VK.v : (k : VK) → k.T → V
  | .dat t, x => encV t x
  | .ptd t, x => .at_ t x
  | .con v, _ => v
def VK.cs : (k : VK) → k.T → List V
  | .dat t, x => enc t x
  | .ptd t, x => [.at_ t x]
  | .con v, _ => [v]
def vksL : (ks : List VK) → VKs ks → List V
  | [], _ => []
  | k :: r, x => k.cs x.1 ++ vksL r x.2
def BK.b : (k : BK) → k.T → Blk
  | .arr t e, x => .arr t e x
  | .cells t ks, x => .cells t (vksL ks x)
  | .iter, x => .iter x.1 x.2
def envD : (l : List (Nat × VK)) → EnvT l → List (Nat × V)
  | [], _ => []
  | p :: r, x => (p.1, p.2.v x.1) :: envD r x.2
def memD : (l : List (Nat × BK)) → MemT l → List (Nat × Blk)
  | [], _ => []
  | p :: r, x => (p.1, p.2.b x.1) :: memD r x.2
def DS.st (d : DS) (x : d.T) : St := stOf (envD d.env x.1) (memD d.mem x.2)

/-! ### 2. Reading them back -/
mutual
def eqC : V → V → Bool
  | .junk, .junk => true
  | .own b, .own c => Nat.beq b c
  | .ownsub b o l, .ownsub b' o' l' => Nat.beq b b' && Nat.beq o o' && Nat.beq l l'
  | .ptr b o, .ptr c p => Nat.beq b c && Nat.beq o p
  | .nilp, .nilp => true
  | .nils, .nils => true
  | .fn f cs, .fn g ds => Nat.beq f g && eqCs cs ds
  | .agg cs, .agg ds => eqCs cs ds
  | .tuple cs, .tuple ds => eqCs cs ds
  | _, _ => false
def eqCs : List V → List V → Bool
  | [], [] => true
  | v :: r, u :: q => eqC v u && eqCs r q
  | _, _ => false
end
mutual
theorem eqC_eq : ∀ (v u : V), eqC v u = true → v = u
  | .junk, u, h => by cases u <;> simp [eqC] at h <;> rfl
  | .int _ _, u, h => by cases u <;> simp [eqC] at h
  | .bool _, u, h => by cases u <;> simp [eqC] at h
  | .str _, u, h => by cases u <;> simp [eqC] at h
  | .im _ _, u, h => by cases u <;> simp [eqC] at h
  | .elt _ _ _, u, h => by cases u <;> simp [eqC] at h
  | .at_ _ _, u, h => by cases u <;> simp [eqC] at h
  | .own b, u, h => by cases u <;> simp [eqC] at h; rw [h]
  | .ownsub b o l, u, h => by cases u <;> simp [eqC] at h; rw [h.1.1, h.1.2, h.2]
  | .ptr b o, u, h => by cases u <;> simp [eqC] at h; rw [h.1, h.2]
  | .nilp, u, h => by cases u <;> simp [eqC] at h <;> rfl
  | .nils, u, h => by cases u <;> simp [eqC] at h <;> rfl
  | .fn f cs, u, h => by
    cases u <;> simp [eqC] at h
    rw [h.1, eqCs_eq cs _ h.2]
  | .agg cs, u, h => by
    cases u <;> simp [eqC] at h
    rw [eqCs_eq cs _ h]
  | .tuple cs, u, h => by
    cases u <;> simp [eqC] at h
    rw [eqCs_eq cs _ h]
theorem eqCs_eq : ∀ (vs us : List V), eqCs vs us = true → vs = us
  | [], us, h => by cases us <;> simp [eqCs] at h; rfl
  | v :: r, us, h => by
    cases us <;> simp [eqCs] at h
    rw [eqC_eq v _ h.1, eqCs_eq r _ h.2]
end
/-- … with pairs and vectors, and all else. -/
def getF : (t : Ty) → List V → Option (t.T × List V)
  | .int k, v :: r => match v with | .int k' n => if k' = k then some (n, r) else none | _ => none
  | .bool, v :: r => match v with | .bool b => some (b, r) | _ => none
  | .str, v :: r => match v with | .str s => some (s, r) | _ => none
  | .slice e, v :: r => match v with | .im e' xs => if h : e' = e then some (h ▸ xs, r) else none | _ => none
  | .pair a b, cs => match getF a cs with
    | some (x, r) => (match getF b r with
      | some (y, r') => some ((x, y), r')
      | none => none)
    | none => none
  | .last a, cs => getF a cs
  | .ref e, v :: r => match v with
    | .nilp => some (none, r)
    | .at_ e' x => if h : e' = e then some (some (h ▸ x), r) else none
    | _ => none
  | _, _ => none
theorem getF_spec : ∀ (t : Ty) {cs : List V} {x : t.T} {r : List V}, getF t cs = some (x, r) → cs = enc t x ++ r
  | .int k, [], x, r, h => by simp [getF] at h
  | .int k, v :: q, x, r, h => by
    cases v <;> simp only [getF, reduceCtorEq] at h
    split at h
    · rename_i hk
      subst hk
      simp only [Option.some.injEq, Prod.mk.injEq] at h
      obtain ⟨rfl, rfl⟩ := h
      rfl
    · cases h
  | .bool, [], x, r, h => by simp [getF] at h
  | .bool, v :: q, x, r, h => by
    cases v <;> simp only [getF, reduceCtorEq, Option.some.injEq, Prod.mk.injEq] at h
    obtain ⟨rfl, rfl⟩ := h
    rfl
  | .str, [], x, r, h => by simp [getF] at h
  | .str, v :: q, x, r, h => by
    cases v <;> simp only [getF, reduceCtorEq, Option.some.injEq, Prod.mk.injEq] at h
    obtain ⟨rfl, rfl⟩ := h
    rfl
  | .slice e, [], x, r, h => by simp [getF] at h
  | .slice e, v :: q, x, r, h => by
    cases v <;> simp only [getF, reduceCtorEq] at h
    split at h
    · rename_i hk
      subst hk
      simp only [Option.some.injEq, Prod.mk.injEq] at h
      obtain ⟨rfl, rfl⟩ := h
      rfl
    · cases h
  | .pair a b, cs, x, r, h => by
    simp only [getF] at h
    cases h1 : getF a cs with
    | none => simp only [h1, reduceCtorEq] at h
    | some p =>
      obtain ⟨y, q⟩ := p
      simp only [h1] at h
      cases h2 : getF b q with
      | none => simp only [h2, reduceCtorEq] at h
      | some p2 =>
        obtain ⟨z, q2⟩ := p2
        simp only [h2, Option.some.injEq, Prod.mk.injEq] at h
        obtain ⟨rfl, rfl⟩ := h
        rw [getF_spec a h1, getF_spec b h2]
        simp [enc]
  | .last a, cs, x, r, h => getF_spec a (by simpa only [getF] using h)
  | .ref e, [], x, r, h => by simp [getF] at h
  | .ref e, v :: q, x, r, h => by
    cases v <;> simp only [getF, reduceCtorEq] at h
    · split at h
      · rename_i hk
        subst hk
        simp only [Option.some.injEq, Prod.mk.injEq] at h
        obtain ⟨rfl, rfl⟩ := h
        rfl
      · cases h
    · simp only [Option.some.injEq, Prod.mk.injEq] at h
      obtain ⟨rfl, rfl⟩ := h
      rfl
  | .vec n e, cs, x, r, h => by cases cs <;> simp [getF] at h
def VK.get : (k : VK) → V → Option k.T
  | .dat t, v => match v with
    | .agg cs => bif t.agg then (match getF t cs with | some (x, []) => some x | _ => none) else none
    | v => bif t.agg then none else (match getF t [v] with | some (x, []) => some x | _ => none)
  | .ptd t, v => match v with
    | .at_ t' x => if h : t' = t then some (h ▸ x) else none
    | _ => none
  | .con u, v => bif eqC u v then some () else none
def vksGet : (ks : List VK) → List V → Option (VKs ks)
  | [], [] => some ()
  | [], _ :: _ => none
  | .dat t :: r, cs => match getF t cs with
    | some (x, q) => (match vksGet r q with | some y => some (x, y) | none => none)
    | none => none
  | .ptd t :: r, v :: cs => (match v with
    | .at_ t' x => if h : t' = t then (match vksGet r cs with | some y => some (h ▸ x, y) | none => none) else none
    | _ => none)
  | .ptd _ :: _, [] => none
  | .con u :: r, v :: cs => bif eqC u v then (match vksGet r cs with | some y => some ((), y) | none => none) else none
  | .con _ :: _, [] => none
def BK.get : (k : BK) → Blk → Option k.T
  | .arr t e, .arr t' e' xs => if h : e' = e then (bif Nat.beq t' t then some (h ▸ xs) else none) else none
  | .cells t ks, .cells t' cs => bif Nat.beq t' t then vksGet ks cs else none
  | .iter, .iter s p => some (s, p)
  | _, _ => none
def envGet : (l : List (Nat × VK)) → List (Nat × V) → Option (EnvT l)
  | [], [] => some ()
  | p :: r, q :: s => bif Nat.beq p.1 q.1 then (match p.2.get q.2, envGet r s with
    | some x, some y => some (x, y)
    | _, _ => none) else none
  | _, _ => none
def memGet : (l : List (Nat × BK)) → List (Nat × Blk) → Option (MemT l)
  | [], [] => some ()
  | p :: r, q :: s => bif Nat.beq p.1 q.1 then (match p.2.get q.2, memGet r s with
    | some x, some y => some (x, y)
    | _, _ => none) else none
  | _, _ => none

theorem VK.get_spec {k : VK} {v : V} {x : k.T} (h : k.get v = some x) : v = k.v x := by
  cases k with
  | dat t =>
    show v = mkV t.agg (enc t x)
    have one : ∀ {cs : List V}, (match getF t cs with | some (x, []) => some x | _ => none) = some x → cs = enc t x := fun {cs} h => by
      cases hg : getF t cs with
      | none => simp only [hg, reduceCtorEq] at h
      | some p =>
        obtain ⟨y, r⟩ := p
        cases r with
        | cons _ _ => simp only [hg, reduceCtorEq] at h
        | nil =>
          simp only [hg, Option.some.injEq] at h
          subst h
          have := getF_spec t hg
          rwa [List.append_nil] at this
    cases ha : t.agg
    · have nonagg : (∀ cs, v ≠ .agg cs) → v = mkV false (enc t x) := fun hn => by
        have hh : (bif t.agg then none else (match getF t [v] with | some (x, []) => some x | _ => none)) = some x := by
          cases v <;> first | exact h | exact absurd rfl (hn _)
        rw [ha] at hh
        simp only [cond_false] at hh
        have := one hh
        rw [← this]; rfl
      by_cases hv : ∃ cs, v = .agg cs
      · obtain ⟨cs, rfl⟩ := hv
        have hh : (bif t.agg then (match getF t cs with | some (x, []) => some x | _ => none) else none) = some x := h
        rw [ha] at hh
        cases hh
      · exact nonagg (fun cs e => hv ⟨cs, e⟩)
    · cases v <;> simp only [VK.get, ha, cond_true, cond_false, reduceCtorEq] at h
      rename_i cs
      rw [← one h]; rfl
  | ptd t =>
    cases v <;> simp only [VK.get, reduceCtorEq] at h
    split at h
    · rename_i hh
      subst hh
      have h := Option.some.inj h
      subst h; rfl
    · cases h
  | con u =>
    simp only [VK.get] at h
    cases hc : eqC u v
    · rw [hc] at h; cases h
    · exact (eqC_eq u v hc).symm
theorem vksGet_spec : ∀ {ks : List VK} {cs : List V} {x : VKs ks}, vksGet ks cs = some x → cs = vksL ks x
  | [], [], x, h => rfl
  | [], _ :: _, x, h => by simp [vksGet] at h
  | .dat t :: r, cs, x, h => by
    simp only [vksGet] at h
    cases hg : getF t cs with
    | none => simp only [hg, reduceCtorEq] at h
    | some p =>
      obtain ⟨y, q⟩ := p
      simp only [hg] at h
      cases h2 : vksGet r q with
      | none => simp only [h2, reduceCtorEq] at h
      | some z =>
        simp only [h2, Option.some.injEq] at h
        subst h
        rw [getF_spec t hg, vksGet_spec h2]
        rfl
  | .ptd t :: r, [], x, h => by simp [vksGet] at h
  | .ptd t :: r, v :: cs, x, h => by
    cases v <;> simp only [vksGet, reduceCtorEq] at h
    split at h
    · rename_i hh
      subst hh
      cases h2 : vksGet r cs with
      | none => simp only [h2, reduceCtorEq] at h
      | some z =>
        rw [vksGet_spec h2]
        simp only [h2, Option.some.injEq] at h
        subst h; rfl
    · cases h
  | .con u :: r, [], x, h => by simp [vksGet] at h
  | .con u :: r, v :: cs, x, h => by
    simp only [vksGet] at h
    cases hc : eqC u v
    · rw [hc] at h; cases h
    rw [hc] at h
    simp only [cond_true] at h
    cases h2 : vksGet r cs with
    | none => simp only [h2, reduceCtorEq] at h
    | some z =>
      rw [eqC_eq u v hc, vksGet_spec h2]
      simp only [h2, Option.some.injEq] at h
      subst h
      rw [← eqC_eq u v hc]
      rfl
theorem BK.get_spec {k : BK} {m : Blk} {x : k.T} (h : k.get m = some x) : m = k.b x := by
  cases k with
  | arr t e =>
    cases m <;> simp only [BK.get, reduceCtorEq] at h
    rename_i t' e' xs
    split at h
    · rename_i he
      subst he
      cases ht : Nat.beq t' t
      · rw [ht] at h; cases h
      · rw [ht] at h
        simp only [cond_true, Option.some.injEq] at h
        subst h
        rw [Nat.eq_of_beq_eq_true ht]; rfl
    · cases h
  | cells t ks =>
    cases m <;> simp only [BK.get, reduceCtorEq] at h
    rename_i t' cs
    cases ht : Nat.beq t' t
    · rw [ht] at h; cases h
    · rw [ht] at h
      rw [Nat.eq_of_beq_eq_true ht, vksGet_spec (ks := ks) h]; rfl
  | iter =>
    cases m <;> simp only [BK.get, reduceCtorEq, Option.some.injEq] at h
    subst h; rfl
theorem envGet_spec : ∀ {l : List (Nat × VK)} {m : List (Nat × V)} {x : EnvT l}, envGet l m = some x → m = envD l x
  | [], [], x, h => rfl
  | [], _ :: _, x, h => by simp [envGet] at h
  | _ :: _, [], x, h => by simp [envGet] at h
  | p :: r, q :: s, x, h => by
    simp only [envGet] at h
    cases hb : Nat.beq p.1 q.1
    · rw [hb] at h; cases h
    rw [hb] at h
    simp only [cond_true] at h
    cases h1 : p.2.get q.2 with
    | none => simp only [h1, reduceCtorEq] at h
    | some y =>
      cases h2 : envGet r s with
      | none => simp only [h1, h2, reduceCtorEq] at h
      | some z =>
        simp only [h1, h2, Option.some.injEq] at h
        subst h
        obtain ⟨k, v⟩ := q
        show (k, v) :: s = (p.1, p.2.v y) :: envD r z
        rw [Nat.eq_of_beq_eq_true hb, ← VK.get_spec h1, ← envGet_spec h2]
theorem memGet_spec : ∀ {l : List (Nat × BK)} {m : List (Nat × Blk)} {x : MemT l}, memGet l m = some x → m = memD l x
  | [], [], x, h => rfl
  | [], _ :: _, x, h => by simp [memGet] at h
  | _ :: _, [], x, h => by simp [memGet] at h
  | p :: r, q :: s, x, h => by
    simp only [memGet] at h
    cases hb : Nat.beq p.1 q.1
    · rw [hb] at h; cases h
    rw [hb] at h
    simp only [cond_true] at h
    cases h1 : p.2.get q.2 with
    | none => simp only [h1, reduceCtorEq] at h
    | some y =>
      cases h2 : memGet r s with
      | none => simp only [h1, h2, reduceCtorEq] at h
      | some z =>
        simp only [h1, h2, Option.some.injEq] at h
        subst h
        obtain ⟨k, v⟩ := q
        show (k, v) :: s = (p.1, p.2.b y) :: memD r z
        rw [Nat.eq_of_beq_eq_true hb, ← BK.get_spec h1, ← memGet_spec h2]

/-! ### 3. Loops -/
def Norm.envL (n : Norm) (s : St) : List (Nat × V) := n.live.map fun k => (k, only (n.namesAt (s.canon n.own)) ((s.canon n.own).env k))
def Norm.memL (n : Norm) (s : St) : List (Nat × Blk) := (n.namesAt (s.canon n.own)).map fun b => (b, onlyB (n.namesAt (s.canon n.own)) ((s.canon n.own).mem b))
theorem Norm.run_eq (n : Norm) (s : St) : n.run s = stOf (n.envL s) (n.memL s) := rfl
/-- A state, read by kinds. -/
def DS.get (d : DS) (n : Norm) (s : St) : Option d.T := match envGet d.env (n.envL s), memGet d.mem (n.memL s) with
  | some x, some y => some (x, y)
  | _, _ => none
theorem DS.get_spec {d : DS} {n : Norm} {s : St} {x : d.T} (h : d.get n s = some x) : n.run s = d.st x := by
  unfold DS.get at h
  cases h1 : envGet d.env (n.envL s) with
  | none => simp only [h1, reduceCtorEq] at h
  | some y =>
    cases h2 : memGet d.mem (n.memL s) with
    | none => simp only [h1, h2, reduceCtorEq] at h
    | some z =>
      simp only [h1, h2, Option.some.injEq] at h
      subst h
      rw [Norm.run_eq, envGet_spec h1, memGet_spec h2]; rfl

/-- The ends of a loop, with what lives there. -/
@[reducible] def EndT : (Ex × DS) → List (Ex × DS) → Type
  | e, [] => e.2.T
  | e, f :: r => e.2.T ⊕ EndT f r
def sumE {α β γ : Type} (f : α → γ) (g : β → γ) (z : α ⊕ β) : γ := match z with
  | .inl a => f a
  | .inr b => g b
def endK {R : Type} (K : Ex → St → Option R) : (e : Ex × DS) → (l : List (Ex × DS)) → EndT e l → Option R
  | e, [] => fun z => K e.1 (e.2.st z)
  | e, f :: r => sumE (fun z => K e.1 (e.2.st z)) (endK K f r)
/-- One round: what it does next for each way. -/
abbrev Round (X Z : Type) := {E : Type} → X → (X → Option E) → (Z → Option E) → Option E
def ParaR {X Z : Type} (f : Round X Z) : Prop :=
  ∀ {R E : Type} (x : X) (again : X → Option R) (K : Z → Option R) (again' : X → Option E) (K' : Z → Option E) (L : E → Option R), (∀ y, again y = (again' y).bind L) → (∀ z, K z = (K' z).bind L) → f x again K = (f x again' K').bind L
def bodyD {R : Type} (c : Cfg) (b : Code) (n : Ann) (s : St) (again : St → Option R) (K : Ex → St → Option R) : Option R :=
  exec c b s (fun ex s' => match ex with
    | .normal => again (n.head.run s')
    | .exit i => K (.exit i) (n.out.run s')
    | .ret => K .ret (n.ret.run s'))
def BodyD (c : Cfg) (b : Code) (h : DS) (e : Ex × DS) (l : List (Ex × DS)) (f : Round h.T (EndT e l)) : Prop :=
  ∀ {R : Type} (x : h.T) (again : St → Option R) (K : Ex → St → Option R), bodyD c b (c.ann (regId b)) (h.st x) again K = f x (fun y => again (h.st y)) (endK K e l)
def sumD (n : Ann) (h : DS) (e : Ex × DS) (l : List (Ex × DS)) (f : h.T → Option (EndT e l)) : LoopSum where
  sem := fun s K => (h.get n.head s).bind fun x => (f x).bind fun z => endK K e l z

theorem rounds_loop {c : Cfg} {b : Code} {h : DS} {e : Ex × DS} {l : List (Ex × DS)} {f : Round h.T (EndT e l)} (hb : BodyD c b h e l f) (hp : ParaR (X := h.T) (Z := EndT e l) f) {R : Type} (K : Ex → St → Option R) : ∀ (n : Nat) (x : h.T),
    loopK (fun s K => exec c b s K) (c.ann (regId b)) K n (h.st x) = (rounds (f (E := EndT e l)) n x).bind (endK K e l)
  | 0, x => rfl
  | n + 1, x => by
    have h1 : loopK (fun s K => exec c b s K) (c.ann (regId b)) K (n + 1) (h.st x) = bodyD c b (c.ann (regId b)) (h.st x) (fun s => loopK (fun s K => exec c b s K) (c.ann (regId b)) K n s) K := rfl
    rw [h1, hb]
    exact hp x _ _ (rounds (f (E := EndT e l)) n) some (endK K e l) (fun y => rounds_loop hb hp K n y) (fun z => rfl)

theorem loopOk_D {P : Program} {c : Cfg} (hm : P.follows .mixedOrders = true) (htb : tabB P c.tb = true) (hT : TblOk P c.tbl) {b : Code} (hS : LoopsOk P c b)
    {h : DS} {e : Ex × DS} {l : List (Ex × DS)} {f : Round h.T (EndT e l)} (hb : BodyD c b h e l f) (hp : ParaR (X := h.T) (Z := EndT e l) f) {g : h.T → Option (EndT e l)} (hg : ∀ x z, g x = some z → ∃ N, rounds (f (E := EndT e l)) N x = some z)
    (hsum : c.sum (regId b) = some (sumD (c.ann (regId b)) h e l g)) : LoopOk P c b := by
  refine loopOk_of hm htb hT hS (c.ann (regId b)) (fun L hL R s K r hk => ?_)
  rw [hsum] at hL
  have hL := Option.some.inj hL
  subst hL
  simp only [sumD] at hk
  cases hgt : h.get (c.ann (regId b)).head s with
  | none => rw [hgt] at hk; cases hk
  | some x =>
    rw [hgt] at hk
    simp only [Option.bind_some] at hk
    cases hgx : g x with
    | none => rw [hgx] at hk; cases hk
    | some z =>
      rw [hgx] at hk
      simp only [Option.bind_some] at hk
      obtain ⟨N, hN⟩ := hg x z hgx
      refine ⟨N, ?_⟩
      rw [DS.get_spec hgt, rounds_loop hb hp, hN]
      exact hk
/-- The rounds themselves. -/
def loopN {X Z : Type} (f : Round X Z) (n : Nat) (x : X) : Option Z := rounds (f (E := Z)) n x
theorem loopN_ex {X Z : Type} {f : Round X Z} {n : Nat} {x : X} {z : Z} (h : loopN f n x = some z) : ∃ N, rounds (f (E := Z)) N x = some z := ⟨n, h⟩
def loopD {X Z : Type} (f : Round X Z) (x : X) : Option Z := loopN f FUEL x
theorem loopD_ex {X Z : Type} {f : Round X Z} {x : X} {z : Z} (h : loopD f x = some z) : ∃ N, rounds (f (E := Z)) N x = some z := by
  unfold loopD at h
  exact loopN_ex h
theorem loopOk_R {P : Program} {c : Cfg} (hm : P.follows .mixedOrders = true) (htb : tabB P c.tb = true) (hT : TblOk P c.tbl) {b : Code} (hS : LoopsOk P c b)
    {h : DS} {e : Ex × DS} {l : List (Ex × DS)} {f : Round h.T (EndT e l)} (hb : BodyD c b h e l f) (hp : ParaR (X := h.T) (Z := EndT e l) f)
    (hsum : c.sum (regId b) = some (sumD (c.ann (regId b)) h e l (loopD f))) : LoopOk P c b :=
  loopOk_D hm htb hT hS hb hp (fun x z hz => loopD_ex hz) hsum

/-! ### 4. Rounds do not look at what is done next -/
theorem para_cond {R E : Type} {b : Bool} {A B : Option R} {A' B' : Option E} {L : E → Option R} (h1 : A = A'.bind L) (h2 : B = B'.bind L) : (bif b then A else B) = (bif b then A' else B').bind L := by cases b <;> assumption
theorem para_bind {α R E : Type} {o : Option α} {A : α → Option R} {A' : α → Option E} {L : E → Option R} (h : ∀ z, A z = (A' z).bind L) : o.bind A = (o.bind A').bind L := by
  cases o with
  | none => rfl
  | some z => exact h z
theorem para_sum {α β R E : Type} {z : α ⊕ β} {A : α → Option R} {B : β → Option R} {A' : α → Option E} {B' : β → Option E} {L : E → Option R} (h1 : ∀ a, A a = (A' a).bind L) (h2 : ∀ b, B b = (B' b).bind L) :
    (match z with | .inl a => A a | .inr b => B b) = (match z with | .inl a => A' a | .inr b => B' b).bind L := by
  cases z with
  | inl a => exact h1 a
  | inr b => exact h2 b
theorem para_opt {α R E : Type} {o : Option α} {A : R → Option R} {N : Option R} {B : α → Option R} {N' : Option E} {B' : α → Option E} {L : E → Option R} (h1 : N = N'.bind L) (h2 : ∀ b, B b = (B' b).bind L) :
    (match o with | none => N | some b => B b) = (match o with | none => N' | some b => B' b).bind L := by
  cases o with
  | none => exact h1
  | some b => exact h2 b
theorem para_none {R E : Type} {L : E → Option R} : (none : Option R) = (none : Option E).bind L := rfl
end AM
namespace AM
open Go

/-! ### Words of the printed texts -/
def w64 (n : Int) : Int := IntKind.wrap .i64 n
def bAnd (k : IntKind) (a b : Int) : Int := k.wrap ((BitVec.ofInt k.bits a &&& BitVec.ofInt k.bits b).toNat : Int)
def bOr (k : IntKind) (a b : Int) : Int := k.wrap ((BitVec.ofInt k.bits a ||| BitVec.ofInt k.bits b).toNat : Int)
def bXor (k : IntKind) (a b : Int) : Int := k.wrap ((BitVec.ofInt k.bits a ^^^ BitVec.ofInt k.bits b).toNat : Int)
def bAndNot (k : IntKind) (a b : Int) : Int := k.wrap ((BitVec.ofInt k.bits a &&& ~~~(BitVec.ofInt k.bits b)).toNat : Int)
/-- A call of a function whose runs are known. -/
def callF {α β : Type} (o : Option α) (d : α) (k : α → Option β) : Option β := bif o.isSome then k (o.getD d) else none
theorem callF_eq {α β : Type} (o : Option α) (d : α) (k : α → Option β) : callF o d k = o.bind k := by cases o <;> rfl
theorem para_callF {α R E : Type} {o : Option α} {d : α} {A : α → Option R} {A' : α → Option E} {L : E → Option R} (h : ∀ z, A z = (A' z).bind L) : callF o d A = (callF o d A').bind L := by
  rw [callF_eq, callF_eq]
  exact para_bind h

def sumAt : List (Nat × LoopSum) → Nat → Option LoopSum
  | [], _ => none
  | p :: r, i => bif Nat.beq i p.1 then some p.2 else sumAt r i
def cfgS (tb : Tab) (tbl : Tbl) (fn : Func) (aks : List FK) (sums : List (Nat × LoopSum)) : Cfg := { tb := tb, tbl := tbl, nt := fn.ntmps, sum := sumAt sums, ann := fun i => (annAt (annsOf tb fn) i).more (ghIx (chain aks)), fuel := FUEL }
def runS (tb : Tab) (tbl : Tbl) (fn : Func) (aks rks : List FK) (sums : List (Nat × LoopSum)) (xs : (chain aks).T) : Option (outX aks rks).T :=
  execG (cfgS tb tbl fn aks sums) fn (encX calN false 0 (chain aks) xs) (gsX (chain aks)) (memX calN 0 (chain aks) xs) (KX aks rks)
def annS (tb : Tab) (fn : Func) (aks : List FK) (i : Nat) : Ann := (annAt (annsOf tb fn) i).more (ghIx (chain aks))
/-- The loops of a function, the outer ones first. -/
def loopNo (fn : Func) (k : Nat) : Code := match fn.body with
  | some b => (match nth (loopsOf b) k with | some c => c | none => .skip)
  | none => .skip

/-- A loop within a loop comes behind it. -/
theorem loops_pre : ∀ (code : Code) (k : Nat) (b : Code), (loopsOf code)[k]? = some b → ∀ b' ∈ loopsOf b, ∃ j, k < j ∧ (loopsOf code)[j]? = some b'
  | .seq x y, k, b, h, b', hb => by
    simp only [loopsOf] at h ⊢
    by_cases hk : k < (loopsOf x).length
    · rw [List.getElem?_append_left hk] at h
      obtain ⟨j, h1, h2⟩ := loops_pre x k b h b' hb
      exact ⟨j, h1, by rw [List.getElem?_append_left (List.getElem?_eq_some_iff.1 h2).1]; exact h2⟩
    · rw [List.getElem?_append_right (by omega)] at h
      obtain ⟨j, h1, h2⟩ := loops_pre y _ b h b' hb
      exact ⟨(loopsOf x).length + j, by omega, by rw [List.getElem?_append_right (by omega)]; simpa using h2⟩
  | .cond _ x y, k, b, h, b', hb => by
    simp only [loopsOf] at h ⊢
    by_cases hk : k < (loopsOf x).length
    · rw [List.getElem?_append_left hk] at h
      obtain ⟨j, h1, h2⟩ := loops_pre x k b h b' hb
      exact ⟨j, h1, by rw [List.getElem?_append_left (List.getElem?_eq_some_iff.1 h2).1]; exact h2⟩
    · rw [List.getElem?_append_right (by omega)] at h
      obtain ⟨j, h1, h2⟩ := loops_pre y _ b h b' hb
      exact ⟨(loopsOf x).length + j, by omega, by rw [List.getElem?_append_right (by omega)]; simpa using h2⟩
  | .block _ x, k, b, h, b', hb => loops_pre x k b h b' hb
  | .scope x, k, b, h, b', hb => loops_pre x k b h b' hb
  | .loop x, k, b, h, b', hb => by
    simp only [loopsOf] at h ⊢
    cases k with
    | zero =>
      simp only [List.getElem?_cons_zero, Option.some.injEq] at h
      subst h
      obtain ⟨j, hj⟩ := List.mem_iff_getElem?.1 hb
      exact ⟨j + 1, by omega, by simpa using hj⟩
    | succ k =>
      obtain ⟨j, h1, h2⟩ := loops_pre x k b (by simpa using h) b' hb
      exact ⟨j + 1, by omega, by simpa using h2⟩
  | .skip, k, b, h, b', hb => by simp [loopsOf] at h
  | .region _ _ _, k, b, h, b', hb => by simp [loopsOf] at h
  | .exit _, k, b, h, b', hb => by simp [loopsOf] at h
  | .ret, k, b, h, b', hb => by simp [loopsOf] at h
  | .label _, k, b, h, b', hb => by simp [loopsOf] at h
  | .goto _, k, b, h, b', hb => by simp [loopsOf] at h

/-- The loops one by one, the inner ones first. -/
def loopCnt (fn : Func) : Nat := match fn.body with
  | some b => (loopsOf b).length
  | none => 0
theorem loops_all {P : Program} {c : Cfg} {fn : Func} (m : Nat) (hm : Nat.beq (loopCnt fn) m = true) (h : ∀ k, k < m → LoopsOk P c (loopNo fn k) → LoopOk P c (loopNo fn k)) : ∀ b, fn.body = some b → LoopsOk P c b := by
  intro b hb
  have hno : ∀ k q, (loopsOf b)[k]? = some q → loopNo fn k = q := fun k q hk => by
    simp only [loopNo, hb, nth_get, hk]
  have key : ∀ (n k : Nat) (q : Code), (loopsOf b).length ≤ k + n → (loopsOf b)[k]? = some q → LoopOk P c q := by
    intro n
    induction n with
    | zero =>
      intro k q hn hq
      have := (List.getElem?_eq_some_iff.1 hq).1
      omega
    | succ n ih =>
      intro k q hn hq
      have hc := Nat.eq_of_beq_eq_true hm
      unfold loopCnt at hc
      rw [hb] at hc
      simp only at hc
      have := h k (by have := (List.getElem?_eq_some_iff.1 hq).1; omega)
      rw [hno k q hq] at this
      refine this (fun q' hq' => ?_)
      obtain ⟨j, hj, hj'⟩ := loops_pre b k q hq q' hq'
      exact ih j q' (by omega) hj'
  intro q hq
  obtain ⟨k, hk⟩ := List.mem_iff_getElem?.1 hq
  exact key (loopsOf b).length k q (by omega) hk

/-- What a loop comes to, and that it does. -/
theorem loop_by {P : Program} {tb : Tab} {tbl : Tbl} {fn : Func} {aks : List FK} {sums : List (Nat × LoopSum)} (hm : P.follows .mixedOrders = true) (htb : tabB P tb = true) (hT : TblOk P tbl) {k i : Nat}
    {h : DS} {e : Ex × DS} {l : List (Ex × DS)} {f : Round h.T (EndT e l)} (hi : regId (loopNo fn k) = i) (hsum : sumAt sums i = some (sumD (annS tb fn aks i) h e l (loopD f)))
    (hb : BodyD (cfgS tb tbl fn aks sums) (loopNo fn k) h e l f) (hp : ParaR (X := h.T) (Z := EndT e l) f) (hS : LoopsOk P (cfgS tb tbl fn aks sums) (loopNo fn k)) : LoopOk P (cfgS tb tbl fn aks sums) (loopNo fn k) :=
  loopOk_R (c := cfgS tb tbl fn aks sums) hm htb hT hS hb hp (by rw [hi]; exact hsum)
/-- The contract of a function whose runs are known. -/
def specF (aks rks : List FK) (F : (chain aks).T → Option (outX aks rks).T) : Spec := specX aks rks (fun xs => (F xs).isSome) (fun xs => (F xs).getD (outX aks rks).d)
theorem specF_ok {P : Program} {tb : Tab} {tbl : Tbl} (hm : P.follows .mixedOrders = true) {fn : Func} {f : FuncId} (hf : P.funcs[f]? = some fn) (hname : (fn.name == "runtime.NumGoroutine") = false) (hbody : fn.body.isNone = false) (htb : tabB P tb = true) (hT : TblOk P tbl)
    {aks rks : List FK} (hnt : Nat.ble fn.ntmps GH = true) (hlen : Nat.ble aks.length fn.ntmps = true) (hone : rks.all FK.one = true) {sums : List (Nat × LoopSum)} (hS : ∀ b, fn.body = some b → LoopsOk P (cfgS tb tbl fn aks sums) b)
    {F : (chain aks).T → Option (outX aks rks).T} (hF : ∀ xs, runS tb tbl fn aks rks sums xs = F xs) : SpecOk P f (specF aks rks F) := by
  refine specX_ok (c := cfgS tb tbl fn aks sums) hm hf hname hbody rfl htb hT hS (Nat.le_of_ble_eq_true hnt) (Nat.le_of_ble_eq_true hlen) hone (fun xs h => ?_)
  show runS tb tbl fn aks rks sums xs = _
  rw [hF]
  cases hr : F xs with
  | none => rw [hr] at h; cases h
  | some y => rfl
/-- A contract in other words. -/
theorem specX_less {P : Program} {f : FuncId} {aks rks : List FK} {F : (chain aks).T → Option (outX aks rks).T} (h : SpecOk P f (specF aks rks F)) {pre : (chain aks).T → Bool} {g : (chain aks).T → (outX aks rks).T} (hg : ∀ xs, pre xs = true → F xs = some (g xs)) : SpecOk P f (specX aks rks pre g) := by
  refine ⟨specX_put, specX_keep, h.enter, fun F' s loc a w args us d v s' hr hus hsp => ?_⟩
  refine h.calls F' s loc a w args us d v s' hr hus ?_
  simp only [specX, specF] at hsp ⊢
  cases hd : decX s.mem false (chain aks) args with
  | none => rw [hd] at hsp; cases hsp
  | some p =>
    obtain ⟨xs, rest, fs, ss⟩ := p
    rw [hd] at hsp
    cases rest with
    | cons _ _ => cases hsp
    | nil =>
      simp only at hsp ⊢
      cases hc : (Nat.beq args.length aks.length && roomX aks rks s d fs ss)
      · rw [hc] at hsp; cases hsp
      · rw [hc] at hsp
        simp only [cond_true, Option.some.injEq, Prod.mk.injEq] at hsp ⊢
        obtain ⟨hp, rfl, rfl⟩ := hsp
        rw [hg xs hp]
        exact ⟨rfl, rfl, rfl⟩
end AM
namespace AM
open Go Go.Sort Go.Proofs

/-! ### 1. Cells of data that lie in no other block -/
def Ty.plain : Ty → Bool
  | .int _ | .bool | .str => true
  | .pair a b => a.plain && b.plain
  | .last a => a.plain
  | _ => false
def encU : (t : Ty) → t.T → List Value
  | .int k, n => [.int k n]
  | .bool, b => [.bool b]
  | .str, s => [.string s]
  | .pair a b, x => encU a x.1 ++ encU b x.2
  | .last a, x => encU a x
  | _, _ => []
theorem RdC_encU {ok : Nat → Prop} {w : World} : ∀ (t : Ty), t.plain = true → ∀ {x : t.T} {us : List Value}, RdC ok w t x us ↔ us = encU t x
  | .int _, _, _, _ => Iff.rfl
  | .bool, _, _, _ => Iff.rfl
  | .str, _, _, _ => Iff.rfl
  | .pair a b, hp, x, us => by
    simp only [Ty.plain, Bool.and_eq_true] at hp
    constructor
    · rintro ⟨p, q, rfl, h1, h2⟩
      rw [(RdC_encU a hp.1).1 h1, (RdC_encU b hp.2).1 h2]; rfl
    · rintro rfl
      exact ⟨_, _, rfl, (RdC_encU a hp.1).2 rfl, (RdC_encU b hp.2).2 rfl⟩
  | .last a, hp, _, _ => RdC_encU a hp
  | .slice _, hp, _, _ => by cases hp
  | .ref _, hp, _, _ => by cases hp
  | .vec _ _, hp, _, _ => by cases hp
theorem encU_len : ∀ (t : Ty), t.plain = true → ∀ (x : t.T), (encU t x).length = t.size
  | .int _, _, _ => rfl
  | .bool, _, _ => rfl
  | .str, _, _ => rfl
  | .pair a b, hp, x => by
    simp only [Ty.plain, Bool.and_eq_true] at hp
    simp [encU, Ty.size, encU_len a hp.1, encU_len b hp.2]
  | .last a, hp, x => encU_len a hp x
  | .slice _, hp, _ => by cases hp
  | .ref _, hp, _ => by cases hp
  | .vec _ _, hp, _ => by cases hp
theorem encU_one : ∀ (t : Ty), t.plain = true → ∀ (x : t.T), ∀ v ∈ encU t x, v.oneCell' = true
  | .int _, _, _, v, h => by rw [List.mem_singleton.1 h]; rfl
  | .bool, _, _, v, h => by rw [List.mem_singleton.1 h]; rfl
  | .str, _, _, v, h => by rw [List.mem_singleton.1 h]; rfl
  | .pair a b, hp, x, v, h => by
    simp only [Ty.plain, Bool.and_eq_true] at hp
    rcases List.mem_append.1 h with h | h
    · exact encU_one a hp.1 _ v h
    · exact encU_one b hp.2 _ v h
  | .last a, hp, x, v, h => encU_one a hp x v h
  | .slice _, hp, _, _, _ => by cases hp
  | .ref _, hp, _, _, _ => by cases hp
  | .vec _ _, hp, _, _, _ => by cases hp
theorem Els_flat {α : Type} {enc : α → List Value} {R : α → List Value → Prop} (h : ∀ x us, R x us ↔ us = enc x) : ∀ {xs : List α} {us : List Value}, Els R xs us ↔ us = xs.flatMap enc
  | [], us => Iff.rfl
  | x :: r, us => by
    constructor
    · rintro ⟨a, b, rfl, h1, h2⟩
      rw [(h x a).1 h1, (Els_flat h).1 h2]; rfl
    · rintro rfl
      exact ⟨enc x, r.flatMap enc, by simp, (h x _).2 rfl, (Els_flat h).2 rfl⟩

theorem flatMap_get {α : Type} [Inhabited α] {enc : α → List Value} {k : Nat} (hk : ∀ x, (enc x).length = k) (h0 : 0 < k) : ∀ (l : List α) (t : Nat), t < l.length * k → (l.flatMap enc)[t]? = some ((enc l[t / k]!)[t % k]!)
  | [], t, h => by simp at h
  | x :: r, t, h => by
    rw [List.flatMap_cons]
    by_cases ht : t < k
    · rw [List.getElem?_append_left (by rw [hk]; exact ht), Nat.div_eq_of_lt ht, Nat.mod_eq_of_lt ht]
      have : t < (enc x).length := by rw [hk]; exact ht
      simp [this]
    · rw [List.getElem?_append_right (by rw [hk]; omega), hk]
      have h' : t - k < r.length * k := by rw [List.length_cons, Nat.succ_mul] at h; omega
      rw [flatMap_get hk h0 r (t - k) h']
      have e1 : t / k = (t - k) / k + 1 := by
        have : t = t - k + k := by omega
        conv => lhs; rw [this]
        rw [Nat.add_div_right _ h0]
      have e2 : t % k = (t - k) % k := by rw [Nat.mod_eq_sub_mod (by omega)]
      rw [e1, e2]; rfl
theorem flatMap_len {α : Type} {enc : α → List Value} {k : Nat} (hk : ∀ x, (enc x).length = k) : ∀ (l : List α), (l.flatMap enc).length = l.length * k
  | [] => by simp
  | x :: r => by rw [List.flatMap_cons, List.length_append, hk, flatMap_len hk r, List.length_cons, Nat.succ_mul, Nat.add_comm]
theorem flatK_list {α : Type} [Inhabited α] {enc : α → List Value} {k : Nat} (hk : ∀ x, (enc x).length = k) (h0 : 0 < k) (d : Array α) : (flatK enc k d).toList = d.toList.flatMap enc := by
  apply List.ext_getElem?
  intro t
  by_cases ht : t < d.size * k
  · rw [flatMap_get hk h0 _ _ (by simpa using ht)]
    have : (flatK enc k d)[t]! = (enc d[t / k]!)[t % k]! := get_flatK enc k d t ht
    rw [getElem!_pos _ t (by simpa using ht)] at this
    rw [Array.getElem?_toList, Array.getElem?_eq_getElem (by simpa using ht), this]
    have e1 : d[t / k]! = d.toList[t / k]! := by
      rw [Array.getElem!_eq_getD, List.getElem!_eq_getElem?_getD, Array.getElem?_toList, Array.getD_eq_getD_getElem?]
    rw [e1]
  · rw [List.getElem?_eq_none (by simp; omega), List.getElem?_eq_none (by rw [flatMap_len hk]; simp; omega)]

/-! ### 2. The contract -/
def sortRun (te : TypeId) (e : Ty) (srt : List e.T → List e.T) (s : St) (b : Nat) : Blk → Option (Bool × V × St)
  | .arr t' e' xs => if h : e' = e then (bif Nat.beq t' te then some (decide ((h ▸ xs : List e.T).length < 4611686018427387904), .tuple [], s.blk b (.arr te e (srt (h ▸ xs)))) else none) else none
  | _ => none
def specSort (te : TypeId) (e : Ty) (g : FuncId) (srt : List e.T → List e.T) : Spec where
  run := fun args s d => match args with
    | [.own b, .fn f []] => bif Nat.beq f g then sortRun te e srt s b (s.mem b) else none
    | _ => none
  tw := fun args m d => match args with
    | .own b :: _ => [b]
    | _ => []

section
variable {P : Program} {te : TypeId} {e : Ty} {srt : List e.T → List e.T} {g : FuncId}
theorem specSort_inv {args : List V} {s s' : St} {d : Nat} {q : Bool} {v : V} (h : (specSort te e g srt).run args s d = some (q, v, s')) :
    ∃ b xs, args = [.own b, .fn g []] ∧ s.mem b = .arr te e xs ∧ q = decide (xs.length < 4611686018427387904) ∧ v = .tuple [] ∧ s' = s.blk b (.arr te e (srt xs)) := by
  simp only [specSort] at h
  split at h
  · rename_i b f
    cases hf : Nat.beq f g
    · rw [hf] at h; cases h
    rw [hf] at h
    simp only [cond_true] at h
    have hf := Nat.eq_of_beq_eq_true hf
    subst hf
    unfold sortRun at h
    cases hm : s.mem b <;> simp only [hm, reduceCtorEq] at h
    rename_i t' e' xs
    split at h
    · rename_i he
      subst he
      cases ht : Nat.beq t' te
      · rw [ht] at h; cases h
      · rw [ht] at h
        simp only [cond_true, Option.some.injEq, Prod.mk.injEq] at h
        obtain ⟨rfl, rfl, rfl⟩ := h
        have ht := Nat.eq_of_beq_eq_true ht
        subst ht
        exact ⟨b, xs, rfl, hm, rfl, rfl, rfl⟩
    · cases h
  · cases h
theorem specSort_ok [Inhabited e.T] {f : FuncId} (hpl : e.plain = true) (h0 : 0 < e.size) (henter : ∀ (args : Array Value) (w : World), (callFunc f args).run P w = .ok (.enter f args) w) (hlen : ∀ l, (srt l).length = l.length)
    (H0 : ∀ (p : Option Addr) (cap : Nat) (fv : Value) (w : World), Calls P f #[.slice p 0 cap, fv] w fun e w' => e = .returned (.tuple #[]) ∧ w' = w)
    (H1 : ∀ (blk cap : Nat) (d : Array e.T) (w : World), HoldsK (encU e) e.size w blk 0 d → blk < w.heap.size → d.size < 4611686018427387904 →
      Calls P f #[.slice (some ⟨blk, 0, none⟩) d.size cap, .func (.func g) #[] #[]] w fun e_1 w' => e_1 = .returned (.tuple #[]) ∧ ∃ n os, w' = sortWorldK (encU e) e.size w blk 0 n (srt d.toList).toArray os) :
    SpecOk P f (specSort te e g srt) := by
  refine ⟨fun args s d k v hv => ?_, fun args s d q v s' h => ?_, henter, fun F s loc a w args us d v s' h hus hsp => ?_⟩
  · simp only [specSort]
    split
    · rename_i b f
      simp only [put_mem]
      cases Nat.beq f g
      · rfl
      · simp only [cond_true]
        unfold sortRun
        cases s.mem b <;> try rfl
        rename_i t' e' xs
        simp only
        split
        · cases Nat.beq t' te <;> rfl
        · rfl
    · rfl
  · obtain ⟨b, xs, rfl, hm, rfl, rfl, rfl⟩ := specSort_inv h
    exact KeepT.blk s _ (by simp [specSort])
  · obtain ⟨b, xs, rfl, hm, hq, rfl, rfl⟩ := specSort_inv hsp
    obtain ⟨u1, q1, rfl, ⟨hu1, _⟩, u2, q2, rfl, hu2, hq2⟩ := hus
    have hq2 : q2 = [] := hq2
    subst hq2
    obtain ⟨cs, hu2, hcs⟩ := hu2
    have hcs : cs = [] := hcs
    subst hcs
    have hu1 : u1 = loc b := hu1
    subst hu1 hu2
    have hbr := h.blk b
    rw [hm] at hbr
    obtain ⟨flat, ho, hels⟩ := hbr
    have ho : w.ownsRow 0 te e.size (loc b) xs.length flat := ho
    have hflat := (Els_flat (R := fun y q => RdC (cxOf F s loc w).ok (cxOf F s loc w).w e y q) (fun x us => RdC_encU e hpl)).1 hels
    have hlv : live s.mem b := fun e => by rw [hm] at e; cases e
    rcases ho.2 with ⟨hl, hn⟩ | ⟨gb, cap, cur, hl, hb0, hg, hnc, hcm, hcs, htake⟩
    · have hx : xs = [] := List.length_eq_zero_iff.1 hn
      subst hx
      have hsx : srt [] = [] := List.length_eq_zero_iff.1 (hlen [])
      rw [hsx, hl]
      refine (H0 none 0 _ w).mono ?_
      rintro e' w' ⟨rfl, rfl⟩
      have hsame : s.blk b (.arr te e []) = s := St.ext rfl (funext fun i => by
        show upd s.mem b _ i = s.mem i
        by_cases hi : i = b
        · subst hi; rw [upd_same, hm]
        · rw [upd_other _ _ _ hi])
      rw [hsame]
      exact ⟨_, loc, rfl, h, ⟨[], rfl, rfl⟩⟩
    · have hgl : gb < w.heap.size := (Array.getElem?_eq_some_iff.1 hg).1
      have hfl2 : (flatK (encU e) e.size xs.toArray).toList = flat := by rw [flatK_list (encU_len e hpl) h0, hflat]
      have hH : HoldsK (encU e) e.size w gb 0 xs.toArray := by
        intro j hj
        have hj' : j < (flatK (encU e) e.size xs.toArray).toList.length := by simpa using hj
        have hv : flat[j]? = some (flatK (encU e) e.size xs.toArray)[j]! := by
          rw [← hfl2, Array.getElem?_toList, Array.getElem?_eq_getElem hj, getElem!_pos _ j hj]
        have hcell := ho.cells (g := gb) (by rw [hl]; rfl) j _ hv
        refine ⟨?_, ?_⟩
        · rw [Addr.add_lit] at hcell
          exact hcell
        · simp [World.frozen?, hg]
      have hsz : xs.toArray.size < 4611686018427387904 := by
        simpa using hq.symm
      have hc := H1 gb cap xs.toArray w hH hgl hsz
      rw [hl]
      have hxs : xs.toArray.size = xs.length := by simp
      rw [hxs] at hc
      refine hc.mono ?_
      rintro e' w' ⟨rfl, n, os, rfl⟩
      have hsl : (srt xs).length = xs.length := hlen xs
      unfold sortWorldK
      have hmod : ∀ k, k ≠ gb → (putRowK (encU e) e.size (ahead w n) gb 0 (srt xs.toArray.toList).toArray).heap[k]? = w.heap[k]? := fun k hk => by
        show (w.heap.modify gb _)[k]? = _
        rw [Array.getElem?_modify, if_neg (Ne.symm hk)]
      have hsz1 : (putRowK (encU e) e.size (ahead w n) gb 0 (srt xs.toArray.toList).toArray).heap.size = w.heap.size := by
        show (w.heap.modify gb _).size = _
        simp
      obtain ⟨hr, _⟩ := h.write (b := b) (g := gb) (w' := putRowK (encU e) e.size (ahead w n) gb 0 (srt xs.toArray.toList).toArray) hlv (by rw [hl]; rfl) rfl rfl rfl hsz1 hmod (.arr te e (srt xs))
        (by rw [hm]; exact .inr ⟨rfl, rfl, rfl, hsl⟩) (fun e => by cases e) (fun _ => by
          refine ⟨(srt xs).flatMap (encU e), ?_, (Els_flat (R := fun y q => RdC _ _ e y q) (fun x us => RdC_encU e hpl)).2 rfl⟩
          show (putRowK (encU e) e.size (ahead w n) gb 0 (srt xs.toArray.toList).toArray).ownsRow 0 te e.size (loc b) (srt xs).length _
          rw [hl, hsl]
          refine ⟨by rw [flatMap_len (encU_len e hpl), hsl], .inr ⟨gb, cap, putCells id 0 (flatK (encU e) e.size (srt xs.toArray.toList).toArray) cur, rfl, Nat.zero_le _, ?_, hnc, hcm, by simp [putCells, hcs], ?_⟩⟩
          · show (w.heap.modify gb _)[gb]? = _
            rw [Array.getElem?_modify, if_pos rfl, hg]; rfl
          · have hF := flatK_list (encU_len e hpl) h0 (srt xs.toArray.toList).toArray
            simp only [List.toList_toArray] at hF
            rw [← hF]
            have hFs : (flatK (encU e) e.size (srt xs).toArray).size = xs.length * e.size := by simp [hsl]
            apply List.ext_getElem?
            intro t
            rw [List.getElem?_take]
            by_cases ht : t < xs.length * e.size
            · rw [if_pos ht, Array.getElem?_toList, Array.getElem?_toList]
              have htc : t < cur.size := by
                rw [hcs]
                exact Nat.lt_of_lt_of_le ht (Nat.mul_le_mul_right _ hnc)
              simp only [putCells, Array.getElem?_mapIdx, Array.getElem?_eq_getElem htc, Option.map_some, List.toList_toArray]
              rw [if_pos ⟨Nat.zero_le _, by rw [hFs]; omega⟩, Nat.sub_zero, getElem!_pos _ t (by rw [hFs]; exact ht), Array.getElem?_eq_getElem (by rw [hFs]; exact ht)]
              rfl
            · rw [if_neg ht, List.getElem?_eq_none (by simp [hsl]; omega)])
      have hgr := hr.grow (w' := grow (putRowK (encU e) e.size (ahead w n) gb 0 (srt xs.toArray.toList).toArray) os) (fun k hk => by
        show (_ ++ os)[k]? = _
        rw [Array.getElem?_append_left hk]) (by show _ ≤ (_ ++ os).size; rw [Array.size_append]; omega) rfl rfl rfl
      exact ⟨_, loc, rfl, hgr, ⟨[], rfl, rfl⟩⟩
end
end AM
namespace AM
open Go

theorem rounds_spec {X Z : Type} {f : Round X Z} (inv : X → Prop) (m : X → Nat) (res : X → Z)
    (h : ∀ x, inv x → (∀ (again : X → Option Z) (K : Z → Option Z), f (E := Z) x again K = K (res x)) ∨ ∃ y, inv y ∧ m y < m x ∧ res y = res x ∧ ∀ (again : X → Option Z) (K : Z → Option Z), f (E := Z) x again K = again y) :
    ∀ (n : Nat) (x : X), inv x → m x < n → rounds (f (E := Z)) n x = some (res x)
  | 0, x, hi, hm => absurd hm (Nat.not_lt_zero _)
  | n + 1, x, hi, hm => by
    show f (E := Z) x (rounds (f (E := Z)) n) some = some (res x)
    rcases h x hi with h1 | ⟨y, hy, hlt, hr, h1⟩
    · rw [h1]
    · rw [h1, rounds_spec inv m res h n y hy (by omega), hr]
theorem fuel_big : (4611686018427387904 : Nat) ≤ FUEL := Nat.le_refl _
theorem loopN_spec {X Z : Type} {f : Round X Z} (inv : X → Prop) (m : X → Nat) (res : X → Z)
    (h : ∀ x, inv x → (∀ (again : X → Option Z) (K : Z → Option Z), f (E := Z) x again K = K (res x)) ∨ ∃ y, inv y ∧ m y < m x ∧ res y = res x ∧ ∀ (again : X → Option Z) (K : Z → Option Z), f (E := Z) x again K = again y)
    (n : Nat) (x : X) (hi : inv x) (hm : m x < n) : loopN f n x = some (res x) := rounds_spec inv m res h n x hi hm
theorem loopD_spec {X Z : Type} {f : Round X Z} (inv : X → Prop) (m : X → Nat) (res : X → Z)
    (h : ∀ x, inv x → (∀ (again : X → Option Z) (K : Z → Option Z), f (E := Z) x again K = K (res x)) ∨ ∃ y, inv y ∧ m y < m x ∧ res y = res x ∧ ∀ (again : X → Option Z) (K : Z → Option Z), f (E := Z) x again K = again y)
    (x : X) (hi : inv x) (hm : m x < 4611686018427387904) : loopD f x = some (res x) := by
  unfold loopD
  exact loopN_spec inv m res h FUEL x hi (Nat.lt_of_lt_of_le hm fuel_big)

theorem rounds_post {X Z : Type} {f : Round X Z} (inv : X → Prop) (m : X → Nat) (post : Z → Prop)
    (h : ∀ x, inv x → (∃ z, post z ∧ ∀ (again : X → Option Z) (K : Z → Option Z), f (E := Z) x again K = K z) ∨ ∃ y, inv y ∧ m y < m x ∧ ∀ (again : X → Option Z) (K : Z → Option Z), f (E := Z) x again K = again y) :
    ∀ (n : Nat) (x : X), inv x → m x < n → ∃ z, rounds (f (E := Z)) n x = some z ∧ post z
  | 0, x, hi, hm => absurd hm (Nat.not_lt_zero _)
  | n + 1, x, hi, hm => by
    show ∃ z, f (E := Z) x (rounds (f (E := Z)) n) some = some z ∧ post z
    rcases h x hi with ⟨z, hz, h1⟩ | ⟨y, hy, hlt, h1⟩
    · exact ⟨z, by rw [h1], hz⟩
    · rw [h1]
      exact rounds_post inv m post h n y hy (by omega)
theorem loopN_post {X Z : Type} {f : Round X Z} (inv : X → Prop) (m : X → Nat) (post : Z → Prop)
    (h : ∀ x, inv x → (∃ z, post z ∧ ∀ (again : X → Option Z) (K : Z → Option Z), f (E := Z) x again K = K z) ∨ ∃ y, inv y ∧ m y < m x ∧ ∀ (again : X → Option Z) (K : Z → Option Z), f (E := Z) x again K = again y)
    (n : Nat) (x : X) (hi : inv x) (hm : m x < n) : ∃ z, loopN f n x = some z ∧ post z := rounds_post inv m post h n x hi hm
/-- A loop keeps what its rounds keep, and ends. -/
theorem loopD_post {X Z : Type} {f : Round X Z} (inv : X → Prop) (m : X → Nat) (post : Z → Prop)
    (h : ∀ x, inv x → (∃ z, post z ∧ ∀ (again : X → Option Z) (K : Z → Option Z), f (E := Z) x again K = K z) ∨ ∃ y, inv y ∧ m y < m x ∧ ∀ (again : X → Option Z) (K : Z → Option Z), f (E := Z) x again K = again y)
    (x : X) (hi : inv x) (hm : m x < 4611686018427387904) : ∃ z, loopD f x = some z ∧ post z := by
  unfold loopD
  exact loopN_post inv m post h FUEL x hi (Nat.lt_of_lt_of_le hm fuel_big)

theorem w64_id {n : Int} (h1 : -9223372036854775808 ≤ n) (h2 : n < 9223372036854775808) : w64 n = n := by
  unfold w64
  simp [IntKind.wrap, IntKind.bits, IntKind.signed]
  omega
theorem idxOk_true {i : Int} {n : Nat} (h1 : 0 ≤ i) (h2 : i < (n : Int)) : idxOk i n = true := by
  simp [idxOk, h1, h2]
theorem sliceOk_true {l h : Int} {n : Nat} (h1 : 0 ≤ l) (h2 : l ≤ h) (h3 : h ≤ (n : Int)) : sliceOk l h n = true := by
  simp [sliceOk, h1, h2, h3]
theorem roomOk_true {n b : Nat} (h : n * b ≤ 140737488355328) : roomOk n b = true := by
  simp [roomOk, h]
theorem drop_at {α : Type} {l : List α} {k : Nat} (h : k < l.length) (d : α) : l.drop k = l.getD k d :: l.drop (k + 1) := by
  rw [List.drop_eq_getElem_cons h]
  simp [h]
theorem cond_decide_true {α : Type} {p : Prop} [Decidable p] (h : p) (a b : α) : (bif decide p then a else b) = a := by simp [h]
theorem cond_decide_false {α : Type} {p : Prop} [Decidable p] (h : ¬ p) (a b : α) : (bif decide p then a else b) = b := by simp [h]
theorem imax_eq (a b : Int) : imax a b = max a b := by unfold imax; split <;> omega
theorem imin_eq (a b : Int) : imin a b = min a b := by unfold imin; split <;> omega
end AM
namespace AM
open Go

mutual
/-- Is a type of the program of this code? -/
def codeB (P : Program) : Ty → TypeId → Bool
  | .int k, t => match P.underlying t with | some (.int k') => decide (k' = k) | _ => false
  | .bool, t => match P.underlying t with | some .bool => true | _ => false
  | .str, t => match P.underlying t with | some .string => true | _ => false
  | .slice e, t => match P.underlying t with
    | some (.slice et) => codeB P e et && Nat.beq (P.cellsOf et) e.size && Nat.ble 1 e.size
    | _ => false
  | .pair a b, t => match P.underlying t with
    | some (.struct fs) => Nat.beq (P.cellsOf t) (a.size + b.size) && (match fs.toList with
      | f :: r => Nat.beq f.offset 0 && codeB P a f.type && Nat.beq (P.cellsOf f.type) a.size && codeF P b a.size r
      | [] => false)
    | _ => false
  | .last a, t => match P.underlying t with
    | some (.struct fs) => Nat.beq (P.cellsOf t) a.size && (match fs.toList with
      | [f] => Nat.beq f.offset 0 && codeB P a f.type && Nat.beq (P.cellsOf f.type) a.size
      | _ => false)
    | _ => false
  | .vec n e, t => match P.underlying t with
    | some (.array n' et) => Nat.beq n' n && Nat.ble 1 n && codeB P e et && Nat.beq (P.cellsOf et) e.size && Nat.beq (P.cellsOf t) (n * e.size)
    | _ => false
  | .ref _, _ => false
def codeF (P : Program) : Ty → Nat → List Field → Bool
  | .pair a b, off, f :: r => Nat.beq f.offset off && codeB P a f.type && Nat.beq (P.cellsOf f.type) a.size && codeF P b (off + a.size) r
  | .last a, off, [f] => Nat.beq f.offset off && codeB P a f.type && Nat.beq (P.cellsOf f.type) a.size
  | _, _, _ => false
end
/-- Numbers that are numbers of their kinds. -/
def wfT : (t : Ty) → t.T → Prop
  | .int k, n => (Lit.int k n).wf = true
  | .bool, _ => True
  | .str, s => s.size ≤ maxLen
  | .slice e, xs => xs.length ≤ maxLen ∧ ∀ x ∈ xs, wfT e x
  | .pair a b, x => wfT a x.1 ∧ wfT b x.2
  | .last a, x => wfT a x
  | .ref e, x => match x with | none => True | some y => wfT e y
  | .vec n e, xs => (xs.length = n ∧ 0 < n) ∧ ∀ x ∈ xs, wfT e x

section
variable {H : Type} {en : TypeId × Value → H} {P : Program} {w : World} {spare : Nat → Bool} {held : Bool}

theorem els_of {α : Type} {R : α → List Value → Prop} {Q : α → Prop} {f : Nat → List Value} : ∀ (l : List Nat), (∀ i ∈ l, ∃ y, R y (f i) ∧ Q y) → ∃ ys : List α, ys.length = l.length ∧ Els R ys (l.flatMap f) ∧ ∀ y ∈ ys, Q y
  | [], _ => ⟨[], rfl, rfl, fun y hy => by simp at hy⟩
  | i :: r, h => by
    obtain ⟨y, hy, hq⟩ := h i (List.mem_cons_self ..)
    obtain ⟨ys, hl, he, hqs⟩ := els_of r (fun j hj => h j (List.mem_cons_of_mem _ hj))
    exact ⟨y :: ys, by simp [hl], ⟨f i, r.flatMap f, by simp, hy, he⟩, fun z hz => by
      rcases List.mem_cons.1 hz with rfl | hz
      · exact hq
      · exact hqs z hz⟩
theorem flat_chunks (f : Nat → List Value) (k : Nat) : ∀ (n i0 : Nat), (∀ i, i0 ≤ i → i < i0 + n → (f i).length = k) → ∀ (j : Nat) (u : Value), ((List.range' i0 n).flatMap f)[j]? = some u → ∃ i c, i0 ≤ i ∧ i < i0 + n ∧ c < k ∧ j = (i - i0) * k + c ∧ (f i)[c]? = some u
  | 0, i0, hl, j, u, h => by simp at h
  | n + 1, i0, hl, j, u, h => by
    rw [List.range'_succ, List.flatMap_cons] at h
    have h0 := hl i0 (Nat.le_refl _) (by omega)
    by_cases hj : j < k
    · rw [List.getElem?_append_left (by omega)] at h
      exact ⟨i0, j, Nat.le_refl _, by omega, hj, by simp, h⟩
    · rw [List.getElem?_append_right (by omega), h0] at h
      obtain ⟨i, c, h1, h2, h3, h4, h5⟩ := flat_chunks f k n (i0 + 1) (fun i a b => hl i (by omega) (by omega)) (j - k) u h
      refine ⟨i, c, by omega, by omega, h3, ?_, h5⟩
      have : i - i0 = (i - (i0 + 1)) + 1 := by omega
      rw [this, Nat.succ_mul]
      omega

mutual
theorem trod_code : ∀ (ty : Ty) (t : TypeId) (fuel : Nat) (cs : List Value) (x : DataW H × List MemPlace), codeB P ty t = true → DataW.trod en P w 0 spare held fuel t cs = some x → ∃ y : ty.T, RdC (fun g => g < w.heap.size) w ty y cs ∧ wfT ty y
  | .int k, t, fuel, cs, x, hc, h => by
    cases hu : P.underlying t with
    | none => simp [codeB, hu] at hc
    | some d =>
      cases d <;> simp [codeB, hu] at hc
      subst hc
      cases fuel with
      | zero => simp [DataW.trod] at h
      | succ n =>
        unfold DataW.trod at h
        rw [hu] at h
        rcases cs with _ | ⟨v, _ | ⟨v2, r⟩⟩
        · simp at h
        · cases v <;> simp only [reduceCtorEq] at h
          rename_i k' m
          split at h
          · rename_i hk
            obtain ⟨rfl, hw⟩ := hk
            exact ⟨m, rfl, hw⟩
          · cases h
        · cases v <;> simp at h
  | .bool, t, fuel, cs, x, hc, h => by
    cases hu : P.underlying t with
    | none => simp [codeB, hu] at hc
    | some d =>
      cases d <;> simp [codeB, hu] at hc
      cases fuel with
      | zero => simp [DataW.trod] at h
      | succ n =>
        unfold DataW.trod at h
        rw [hu] at h
        rcases cs with _ | ⟨v, _ | ⟨v2, r⟩⟩
        · simp at h
        · cases v <;> simp only [reduceCtorEq] at h
          rename_i b
          exact ⟨b, rfl, trivial⟩
        · cases v <;> simp at h
  | .str, t, fuel, cs, x, hc, h => by
    cases hu : P.underlying t with
    | none => simp [codeB, hu] at hc
    | some d =>
      cases d <;> simp [codeB, hu] at hc
      cases fuel with
      | zero => simp [DataW.trod] at h
      | succ n =>
        unfold DataW.trod at h
        rw [hu] at h
        rcases cs with _ | ⟨v, _ | ⟨v2, r⟩⟩
        · simp at h
        · cases v <;> simp only [reduceCtorEq] at h
          rename_i b
          split at h
          · rename_i hb
            exact ⟨b, rfl, hb⟩
          · cases h
        · cases v <;> simp at h
  | .slice e, t, fuel, cs, x, hc, h => by
    cases hu : P.underlying t with
    | none => simp [codeB, hu] at hc
    | some d =>
      cases d <;> simp [codeB, hu] at hc
      rename_i et
      obtain ⟨⟨hce, hcs⟩, h1⟩ := hc
      rcases Go.Deep.open_slice hu h with ⟨rfl, _⟩ | ⟨a, len, cap, m, n, D, Pl, rfl, _, hlc, hcm, hm, _, hel⟩
      · exact ⟨[], ⟨none, 0, [], rfl, Nat.le_refl _, rfl, fun hp => absurd hp (Nat.lt_irrefl _)⟩, Nat.zero_le _, fun x hx => by simp at hx⟩
      · have hlm : len ≤ m := by rw [hm]; split <;> omega
        have hcell : ∀ i, ∃ c : List Value, i < len → w.cells? 0 (a.add (i * P.cellsOf et)) (P.cellsOf et) = some c ∧ ∃ y : e.T, RdC (fun g => g < w.heap.size) w e y c ∧ wfT e y := fun i => by
          by_cases hi : i < len
          · obtain ⟨c, h2, h3⟩ := hel i (by omega)
            exact ⟨c, fun _ => ⟨h2, trod_code e et n c _ hce h3⟩⟩
          · exact ⟨[], fun h => absurd h hi⟩
        let f := fun i => Classical.choose (hcell i)
        have hf : ∀ i, i < len → w.cells? 0 (a.add (i * P.cellsOf et)) (P.cellsOf et) = some (f i) ∧ ∃ y : e.T, RdC (fun g => g < w.heap.size) w e y (f i) ∧ wfT e y := fun i => Classical.choose_spec (hcell i)
        obtain ⟨ys, hyl, hye, hyw⟩ := els_of (R := fun y q => RdC (fun g => g < w.heap.size) w e y q) (Q := wfT e) (f := f) (List.range len) (fun i hi => (hf i (List.mem_range.1 hi)).2)
        have hyl : ys.length = len := by simpa using hyl
        refine ⟨ys, ⟨some a, cap, (List.range len).flatMap f, by rw [hyl], by omega, hye, fun hp => ⟨a, rfl, ?_, fun j u hj => ?_⟩⟩, by rw [hyl]; omega, hyw⟩
        · have h0 := (hf 0 (by omega)).1
          have := World.cells?_block h0 (by rw [hcs]; omega)
          rwa [add_block] at this
        · rw [List.range_eq_range'] at hj
          obtain ⟨i, c, _, hi, hck, hjc, hu2⟩ := flat_chunks f (P.cellsOf et) len 0 (fun i _ hi => (World.cells?_some (hf i (by omega)).1).2.1) j u hj
          have h2 := (World.cells?_some (hf i (by omega)).1).2.2 c hck
          rw [Addr.add_add] at h2
          rw [hjc, Nat.sub_zero, h2, hu2]
  | .pair a b, t, fuel, cs, x, hc, h => by
    cases hu : P.underlying t with
    | none => simp [codeB, hu] at hc
    | some d =>
      cases d <;> simp only [codeB, hu, Bool.false_eq_true] at hc
      rename_i fs
      rw [Bool.and_eq_true] at hc
      obtain ⟨hsz, hc⟩ := hc
      have hsz := Nat.eq_of_beq_eq_true hsz
      cases hfs : fs.toList with
      | nil => rw [hfs] at hc; cases hc
      | cons f r =>
        rw [hfs] at hc
        simp only [Bool.and_eq_true] at hc
        obtain ⟨⟨⟨h0, ha⟩, has⟩, hb⟩ := hc
        have h0 := Nat.eq_of_beq_eq_true h0
        have has := Nat.eq_of_beq_eq_true has
        cases fuel with
        | zero => simp [DataW.trod] at h
        | succ n =>
          unfold DataW.trod at h
          rw [hu] at h
          simp only at h
          split at h
          · rename_i hl
            rw [hfs] at h
            cases hmm : (f :: r).mapM (fun f => DataW.trod en P w 0 spare held n f.type ((cs.drop f.offset).take (P.cellsOf f.type))) with
            | none => rw [hmm] at h; cases h
            | some xs =>
              rw [List.mapM_cons] at hmm
              simp only [Option.bind_eq_bind, Option.bind_eq_some_iff, Option.pure_def, Option.some.injEq] at hmm
              obtain ⟨x1, hx1, xr, hxr, rfl⟩ := hmm
              rw [h0, has, List.drop_zero] at hx1
              obtain ⟨y1, hy1, hw1⟩ := trod_code a f.type n _ _ ha hx1
              obtain ⟨y2, hy2, hw2⟩ := trod_codeF b a.size r n cs xr hb hxr (by rw [hl, hsz])
              exact ⟨(y1, y2), ⟨cs.take a.size, cs.drop a.size, (List.take_append_drop _ _).symm, hy1, hy2⟩, hw1, hw2⟩
          · cases h
  | .last a, t, fuel, cs, x, hc, h => by
    cases hu : P.underlying t with
    | none => simp [codeB, hu] at hc
    | some d =>
      cases d <;> simp only [codeB, hu, Bool.false_eq_true] at hc
      rename_i fs
      rw [Bool.and_eq_true] at hc
      obtain ⟨hsz, hc⟩ := hc
      have hsz := Nat.eq_of_beq_eq_true hsz
      cases hfs : fs.toList with
      | nil => rw [hfs] at hc; cases hc
      | cons f r =>
        cases r with
        | cons _ _ => rw [hfs] at hc; cases hc
        | nil =>
          rw [hfs] at hc
          simp only [Bool.and_eq_true] at hc
          obtain ⟨⟨h0, ha⟩, has⟩ := hc
          have h0 := Nat.eq_of_beq_eq_true h0
          have has := Nat.eq_of_beq_eq_true has
          cases fuel with
          | zero => simp [DataW.trod] at h
          | succ n =>
            unfold DataW.trod at h
            rw [hu] at h
            simp only at h
            split at h
            · rename_i hl
              rw [hfs] at h
              cases hmm : [f].mapM (fun f => DataW.trod en P w 0 spare held n f.type ((cs.drop f.offset).take (P.cellsOf f.type))) with
              | none => rw [hmm] at h; cases h
              | some xs =>
                rw [List.mapM_cons] at hmm
                simp only [Option.bind_eq_bind, Option.bind_eq_some_iff, Option.pure_def, Option.some.injEq] at hmm
                obtain ⟨x1, hx1, xr, hxr, rfl⟩ := hmm
                rw [h0, has, List.drop_zero, List.take_of_length_le (by rw [hl, hsz]; exact Nat.le_refl _)] at hx1
                exact trod_code a f.type n _ _ ha hx1
            · cases h
  | .vec n e, t, fuel, cs, x, hc, h => by
    cases hu : P.underlying t with
    | none => simp [codeB, hu] at hc
    | some d =>
      cases d <;> simp only [codeB, hu, Bool.false_eq_true] at hc
      rename_i n' et
      simp only [Bool.and_eq_true] at hc
      obtain ⟨⟨⟨⟨hn, hn1⟩, hce⟩, hcs⟩, hct⟩ := hc
      have hn1 := Nat.le_of_ble_eq_true hn1
      have hn := Nat.eq_of_beq_eq_true hn
      have hcs := Nat.eq_of_beq_eq_true hcs
      have hct := Nat.eq_of_beq_eq_true hct
      subst hn
      obtain ⟨xs, m, _, _, hl, hxl, hel⟩ := DataW.trod_array hu h
      obtain ⟨ys, hyl, hye, hyw⟩ := els_of (R := fun y q => RdC (fun g => g < w.heap.size) w e y q) (Q := wfT e) (f := fun i => (cs.drop (i * P.cellsOf et)).take (P.cellsOf et)) (List.range n') (fun i hi => by
        have hi := List.mem_range.1 hi
        have h2 := hel i hi
        rw [List.getElem?_eq_getElem (by omega)] at h2
        exact trod_code e et m _ _ hce h2)
      have hyl : ys.length = n' := by simpa using hyl
      refine ⟨ys, ⟨hyl, ?_⟩, ⟨hyl, hn1⟩, hyw⟩
      have key : ∀ (k i0 : Nat) (l : List Value), l.length = k * e.size → (List.range' i0 k).flatMap (fun i => (l.drop ((i - i0) * e.size)).take e.size) = l := by
        intro k
        induction k with
        | zero =>
          intro i0 l hl
          have : l = [] := List.length_eq_zero_iff.1 (by simpa using hl)
          subst this; rfl
        | succ k ih =>
          intro i0 l hl
          rw [Nat.succ_mul] at hl
          rw [List.range'_succ, List.flatMap_cons]
          have := ih (i0 + 1) (l.drop e.size) (by rw [List.length_drop]; omega)
          have e1 : ∀ i ∈ List.range' (i0 + 1) k, ((l.drop e.size).drop ((i - (i0 + 1)) * e.size)).take e.size = (l.drop ((i - i0) * e.size)).take e.size := fun i hi => by
            have hi := List.mem_range'_1.1 hi
            rw [List.drop_drop]
            congr 2
            have : i - i0 = (i - (i0 + 1)) + 1 := by omega
            rw [this, Nat.succ_mul]; omega
          have e2 : (List.range' (i0 + 1) k).flatMap (fun i => (l.drop ((i - i0) * e.size)).take e.size) = (List.range' (i0 + 1) k).flatMap (fun i => ((l.drop e.size).drop ((i - (i0 + 1)) * e.size)).take e.size) := by
            simp only [List.flatMap]
            congr 1
            exact List.map_congr_left (fun i hi => (e1 i hi).symm)
          rw [e2, this]
          simp
      have e3 := key n' 0 cs (by rw [hl, hct])
      simp only [Nat.sub_zero] at e3
      rw [List.range_eq_range', hcs, e3] at hye
      exact hye
  | .ref _, t, fuel, cs, x, hc, h => by simp [codeB] at hc
theorem trod_codeF : ∀ (ty : Ty) (off : Nat) (fs : List Field) (n : Nat) (cs : List Value) (xs : List (DataW H × List MemPlace)), codeF P ty off fs = true →
    fs.mapM (fun f => DataW.trod en P w 0 spare held n f.type ((cs.drop f.offset).take (P.cellsOf f.type))) = some xs → cs.length = off + ty.size → ∃ y : ty.T, RdC (fun g => g < w.heap.size) w ty y (cs.drop off) ∧ wfT ty y
  | .pair a b, off, [], n, cs, xs, hc, h, hl => by simp [codeF] at hc
  | .pair a b, off, f :: r, n, cs, xs, hc, h, hl => by
    simp only [codeF, Bool.and_eq_true] at hc
    obtain ⟨⟨⟨h0, ha⟩, has⟩, hb⟩ := hc
    have h0 := Nat.eq_of_beq_eq_true h0
    have has := Nat.eq_of_beq_eq_true has
    rw [List.mapM_cons] at h
    simp only [Option.bind_eq_bind, Option.bind_eq_some_iff, Option.pure_def, Option.some.injEq] at h
    obtain ⟨x1, hx1, xr, hxr, rfl⟩ := h
    rw [h0, has] at hx1
    have hl' : cs.length = off + a.size + b.size := by rw [hl]; simp only [Ty.size]; omega
    obtain ⟨y1, hy1, hw1⟩ := trod_code a f.type n _ _ ha hx1
    obtain ⟨y2, hy2, hw2⟩ := trod_codeF b (off + a.size) r n cs xr hb hxr hl'
    refine ⟨(y1, y2), ⟨(cs.drop off).take a.size, cs.drop (off + a.size), ?_, hy1, hy2⟩, hw1, hw2⟩
    rw [← List.drop_drop, List.take_append_drop]
  | .last a, off, [], n, cs, xs, hc, h, hl => by simp [codeF] at hc
  | .last a, off, _ :: _ :: _, n, cs, xs, hc, h, hl => by simp [codeF] at hc
  | .last a, off, [f], n, cs, xs, hc, h, hl => by
    simp only [codeF, Bool.and_eq_true] at hc
    obtain ⟨⟨h0, ha⟩, has⟩ := hc
    have h0 := Nat.eq_of_beq_eq_true h0
    have has := Nat.eq_of_beq_eq_true has
    rw [List.mapM_cons] at h
    simp only [Option.bind_eq_bind, Option.bind_eq_some_iff, Option.pure_def, Option.some.injEq] at h
    obtain ⟨x1, hx1, xr, hxr, rfl⟩ := h
    rw [h0, has, List.take_of_length_le (by rw [List.length_drop, hl]; simp only [Ty.size]; omega)] at hx1
    exact trod_code a f.type n _ _ ha hx1
  | .int _, off, fs, n, cs, xs, hc, h, hl => by cases fs <;> simp [codeF] at hc
  | .bool, off, fs, n, cs, xs, hc, h, hl => by cases fs <;> simp [codeF] at hc
  | .str, off, fs, n, cs, xs, hc, h, hl => by cases fs <;> simp [codeF] at hc
  | .slice _, off, fs, n, cs, xs, hc, h, hl => by cases fs <;> simp [codeF] at hc
  | .ref _, off, fs, n, cs, xs, hc, h, hl => by cases fs <;> simp [codeF] at hc
  | .vec _ _, off, fs, n, cs, xs, hc, h, hl => by cases fs <;> simp [codeF] at hc
end
end
end AM
namespace AM
open Go

theorem decN_enc {α : Type} {f : List V → Option (α × List V × List Nat)} {g : α → List V} (d : α) : ∀ (n : Nat) (xs : List α) (r : List V), (∀ x ∈ xs, ∀ r, f (g x ++ r) = some (x, r, [])) → xs.length = n → decN f n ((List.range n).flatMap (fun i => g (xs.getD i d)) ++ r) = some (xs, r, [])
  | 0, xs, r, h, hl => by rw [List.length_eq_zero_iff.1 hl]; rfl
  | n + 1, [], r, h, hl => by simp at hl
  | n + 1, x :: xs, r, h, hl => by
    rw [List.range_succ_eq_map, List.flatMap_cons, List.flatMap_map]
    have ih := decN_enc d n xs r (fun y hy => h y (List.mem_cons_of_mem _ hy)) (by simpa using hl)
    simp only [List.getD_cons_zero, List.getD_cons_succ, List.append_assoc, decN, h x (List.mem_cons_self ..), ih]
    rfl
theorem dec_enc {m : Nat → Blk} : ∀ (t : Ty) (x : t.T) (r : List V), wfT t x → dec m t (enc t x ++ r) = some (x, r, [])
  | .int k, x, r, h => by simp [enc, dec]
  | .bool, x, r, h => by simp [enc, dec]
  | .str, x, r, h => by simp [enc, dec]
  | .slice e, x, r, h => by simp [enc, dec]
  | .pair a b, x, r, h => by
    simp only [enc, dec, List.append_assoc, dec_enc a x.1 _ h.1, dec_enc b x.2 _ h.2]
    rfl
  | .last a, x, r, h => dec_enc a x r h
  | .ref e, none, r, h => by simp [enc, dec]
  | .ref e, some y, r, h => by simp [enc, dec]
  | .vec n e, xs, r, h => by
    obtain ⟨⟨hl, h0⟩, hall⟩ := h
    have hb : Nat.beq n 0 = false := beq_ne (by omega)
    simp only [enc, dec, hb, cond_false]
    exact decN_enc (g := enc e) e.d n xs r (fun y hy r => dec_enc e y r (hall y hy)) hl
theorem enc_single {t : Ty} (h : t.agg = false) (x : t.T) : enc t x = [(enc t x).headD .junk] := by
  cases t <;> first | rfl | (simp [Ty.agg] at h)
  case ref e => cases x <;> rfl
theorem enc_head : ∀ {t : Ty}, t.agg = false → ∀ (x : t.T) (cs : List V), (enc t x).headD .junk ≠ .agg cs
  | .int _, _, _, _ => by simp [enc]
  | .bool, _, _, _ => by simp [enc]
  | .str, _, _, _ => by simp [enc]
  | .slice _, _, _, _ => by simp [enc]
  | .ref _, _, none, _ => by simp [enc]
  | .ref _, _, some _, _ => by simp [enc]
  | .pair _ _, h, _, _ => by cases h
  | .last _, h, _, _ => by cases h
  | .vec _ _, h, _, _ => by cases h
theorem decV_encV {m : Nat → Blk} {t : Ty} {x : t.T} (h : wfT t x) : shape t (encV t x) = true ∧ decV m t (encV t x) = some (x, []) := by
  have hd := dec_enc (m := m) t x [] h
  rw [List.append_nil] at hd
  cases ha : t.agg
  · have hs := enc_single ha x
    have hh := enc_head ha x
    have he : encV t x = (enc t x).headD .junk := by unfold encV mkV; rw [ha]; rfl
    rw [he]
    generalize (enc t x).headD .junk = v at hs hh
    have hc : v.cellsOf = [v] := by cases v <;> first | rfl | exact absurd rfl (hh _)
    refine ⟨?_, ?_⟩
    · cases v <;> first | exact absurd rfl (hh _) | (simp [shape, ha])
    · unfold decV
      rw [hc, ← hs, hd]
  · have he : encV t x = .agg (enc t x) := by unfold encV mkV; rw [ha]; rfl
    rw [he]
    exact ⟨ha, by unfold decV; simp only [V.cellsOf, hd]⟩

/-- Arguments that are data. -/
def dats (ts : List Ty) : List FK := ts.map FK.dat
@[reducible] def ArgsT : List Ty → Type
  | [] => Unit
  | t :: r => t.T × ArgsT r
def wfA : (ts : List Ty) → (chain (dats ts)).T → Prop
  | [], _ => True
  | t :: r, x => wfT t x.1 ∧ wfA r x.2
theorem decX_dats {m : Nat → Blk} : ∀ (ts : List Ty) (xs : (chain (dats ts)).T) (nm : Nat → Nat) (i : Nat), wfA ts xs → decX m false (chain (dats ts)) (encX nm false i (chain (dats ts)) xs) = some (xs, [], [], []) ∧ (encX nm false i (chain (dats ts)) xs).length = ts.length
  | [], xs, nm, i, h => ⟨rfl, rfl⟩
  | t :: r, xs, nm, i, h => by
    obtain ⟨h1, h2⟩ := decV_encV (m := m) h.1
    obtain ⟨ih, il⟩ := decX_dats (m := m) r xs.2 nm (i + 0) h.2
    constructor
    · have e1 : encX nm false i (chain (dats (t :: r))) xs = encV t xs.1 :: encX nm false (i + 0) (chain (dats r)) xs.2 := rfl
      have e2 : chain (dats (t :: r)) = .pair (.dat t) (chain (dats r)) := rfl
      rw [e1]
      show decX m false (.pair (.dat t) (chain (dats r))) _ = _
      simp only [decX, h1, cond_true, h2]
      rw [ih]
      rfl
    · show ([encV t xs.1] ++ encX nm false (i + 0) (chain (dats r)) xs.2).length = _
      rw [List.length_append, il]; simp; omega

/-- The frame of a caller that owns nothing. -/
def fr0 (W : World) : Fr where
  w0 := W
  foot := fun _ => False
  nt := 0
  hide := fun _ => False
  ghost := fun _ => undef
  hl := fun g h => h.elim
def act0 : Act := { tmps := #[], defers := [] }
theorem rel0 (W : World) : RelL (fr0 W) (stOf [] []) (fun _ => undef) act0 W :=
  RelL.start (F' := fr0 W) (args := []) (us := []) rfl rfl (Nat.zero_le _) rfl
/-- Arguments, read. -/
theorem arg_vr {H : Type} {en : TypeId × Value → H} {P : Program} {W : World} {spare : Nat → Bool} {held : Bool} {base : Nat} {ty : Ty} {t : TypeId} {v : Value} {d : DataW H} {ps : List MemPlace} (hc : codeB P ty t = true)
    (h : DataW.Trod en P W 0 spare held t v d ps) (hv : Value.okWide P W .any base t v) : ∃ y : ty.T, VR (cxOf (fr0 W) (stOf [] []) (fun _ => undef) W) (encV ty y) v ∧ wfT ty y := by
  obtain ⟨fuel, hf⟩ := h
  obtain ⟨y, hy, hw⟩ := trod_code ty t fuel _ _ hc hf
  refine ⟨y, ?_, hw⟩
  have hok : ∀ g, g < W.heap.size → (cxOf (fr0 W) (stOf [] []) (fun _ => undef) W).ok g := fun g hg => ⟨⟨hg, fun h => h⟩, fun ⟨b, hb, _⟩ => hb rfl⟩
  have hy2 : RdC (cxOf (fr0 W) (stOf [] []) (fun _ => undef) W).ok W ty y v.cells.toList := RdC_ok' hok hy
  refine VR_mk (VRs_enc ty hy2) (RdC.one ty hy) ?_
  have isagg : ty.agg = true ↔ ∃ cs, v = .agg cs := by
    constructor
    · intro ha
      cases ty <;> simp only [Ty.agg, Bool.false_eq_true] at ha
      all_goals
        cases hu : P.underlying t with
        | none => simp [codeB, hu] at hc
        | some dd =>
          cases dd <;> simp only [codeB, hu, Bool.false_eq_true] at hc
          simp only [Value.okWide, hu] at hv
          obtain ⟨cs, h1, _⟩ := hv
          exact ⟨cs, h1⟩
    · rintro ⟨cs, rfl⟩
      cases ty <;> first | rfl | exfalso
      all_goals
        cases hu : P.underlying t with
        | none => simp [codeB, hu] at hc
        | some dd =>
          cases dd <;> simp [codeB, hu] at hc <;> simp [Value.okWide, hu, Cell.okWide, Cell.ok] at hv
  cases ha : ty.agg
  · have hna : ¬ ∃ cs, v = .agg cs := fun h => by rw [isagg.2 h] at ha; cases ha
    rw [if_neg (by simp)]
    cases v <;> first | exact absurd ⟨_, rfl⟩ hna | rfl
  · obtain ⟨cs, rfl⟩ := isagg.1 ha
    rw [if_pos rfl]
    simp [Value.cells]

theorem bkX_dats : ∀ (ts : List Ty), bkX (chain (dats ts)) = []
  | [] => rfl
  | _ :: r => bkX_dats r
theorem blX_dats : ∀ (ts : List Ty), blX (chain (dats ts)) = []
  | [] => rfl
  | _ :: r => blX_dats r
/-- A law that is true at these arguments. -/
theorem law_calls {P : Program} {f : FuncId} {ts : List Ty} {Fn : (chain (dats ts)).T → Option (outX (dats ts) [.dat .bool]).T} (h : SpecOk P f (specF (dats ts) [.dat .bool] Fn)) {W : World} {us : List Value} {xs : (chain (dats ts)).T} (hw : wfA ts xs)
    (hv : VRs (cxOf (fr0 W) (stOf [] []) (fun _ => undef) W) (encX (fun _ => 0) false 0 (chain (dats ts)) xs) us) {y : (outX (dats ts) [.dat .bool]).T} (hF : Fn xs = some y) (hy : ∀ nm : Nat → Nat, (encX nm false 0 (outX (dats ts) [.dat .bool]) y).take 1 = [.bool true]) :
    Calls P f us.toArray W (fun e W' => e = .returned (.bool true) ∧ RowKit.Below W.heap.size W W') := by
  obtain ⟨hd, hl⟩ := decX_dats (m := (stOf [] []).mem) ts xs (fun _ => 0) 0 hw
  have hbk := bkX_dats ts
  have hbl := blX_dats ts
  have hns : nsX (dats ts) [.dat .bool] 0 [] = [] := by
    unfold nsX
    rw [hbl]; rfl
  have hcnt : (outX (dats ts) [.dat .bool]).cnt = 0 := by unfold outX; rw [hbl]; rfl
  have hroom : roomX (dats ts) [.dat .bool] (stOf [] []) 0 [] [] = true := by
    unfold roomX
    rw [hns, hcnt]; rfl
  have hrun : (specF (dats ts) [.dat .bool] Fn).run (encX (fun _ => 0) false 0 (chain (dats ts)) xs) (stOf [] []) 0 = some (true, retV ((encX (nthN []) false 0 (outX (dats ts) [.dat .bool]) y).take 1), backX (dats ts) [.dat .bool] (stOf [] []) 0 [] [] y) := by
    unfold specF specX
    simp only [hd, hroom, hF]
    rw [hl, show (dats ts).length = ts.length by simp [dats], hns]
    simp
  have := h.calls (fr0 W) (stOf [] []) (fun _ => undef) act0 W _ us 0 _ _ (rel0 W) hv hrun
  refine this.mono ?_
  rintro e W' ⟨u, loc', rfl, hr, hu⟩
  rw [hy] at hu
  have hu : u = .bool true := hu
  subst hu
  have hk := hr.kept
  exact ⟨rfl, ⟨hk.os, hk.tape, hk.output, hk.size, fun k hk' => hk.block k hk' (fun h => h)⟩⟩
end AM
