/- For every two lists of bands and every place, PaintClips returns true and leaves its arguments as they were: no condition. -/
import Derived.Test.YtcecgmiecdjnoaaPaintE
import Derived.Test.YtcecgmiecdjnoaaAmC
import Derived.Test.YtcecgmiecdjnoaaRows
import Derived.WalkKit
import Derived.ProofKit
import Derived.ShutString
import Derived.SizedLaws
import Derived.Carry
set_option linter.unusedVariables false
namespace Go.Proofs.Ytcecgmiecdjnoaa.PaintC
open Go.ChangeShapes Go.WideShapes Go.ChangeAt Go.RowKit AM
theorem own : ownKnob Try.prog.godebug = none := by kernel_rfl
theorem laidOut : laidOutB Try.prog = true := by kernel_rfl
set_option maxRecDepth 100000 in
theorem lifted (os : Os) (started : os.Started) (H : Type) (enc : TypeId × Value → H) :
    ReturnsInHanded {} Try.checked os 4 .any (Rows.paintClipsSpec.pre6 enc Try.prog Try.f4 Rows.paintClipsRow.domain false) (Rows.paintClipsSpec.post enc Try.prog Try.f4 false true false false) := by
  refine returnsInHanded_of_change_sized (C := Try.checked) own started (by kernel_rfl) Try.func4
    (ChangeSpec.witness6 (enc := enc) (C := Try.checked) false ⟨#[], #[.slice none 0 0, .slice none 0 0, .agg #[.int .i64 0, .int .i64 0]], []⟩ 8 (by kernel_rfl) (by kernel_rfl) (by kernel_rfl) (by kernel_rfl)) ?_
  intro W base args ds gs before hval0 hW hcnd hsz0 _
  have hval : ∀ (j : Nat) t v, Try.f4.params[j]? = some t → args[j]? = some v → Value.okWide Try.prog W .any base t v := hval0
  have hW' := hW
  obtain ⟨p, q, hA0, hV, rfl, hfz, hnd⟩ := hW
  have hA : DataW.TrodAll enc Try.prog W 0 (fun _ => true) true Try.f4.params.toList args.toList ds p := hA0
  rw [Try.params4] at hA hval
  obtain ⟨v0, vs0, d0, ds0, p0, q0, hargs, rfl, rfl, h0, r0⟩ := trodAll_cons hA
  obtain ⟨v1, vs1, d1, ds1, p1, q1, rfl, rfl, rfl, h1, r1⟩ := trodAll_cons r0
  obtain ⟨v2, vs2, d2, ds2, p2, q2, rfl, rfl, rfl, h2, r2⟩ := trodAll_cons r1
  obtain ⟨rfl, rfl, rfl⟩ := trodAll_nil r2
  obtain rfl : args = #[v0, v1, v2] := by cases args; simp_all
  obtain ⟨rfl, rfl⟩ := trodVars_none hV
  obtain ⟨x0, hv0, w0⟩ := arg_vr (ty := .slice AM.T.TBand) (by kernel_rfl) h0 (hval 0 22 v0 rfl rfl)
  obtain ⟨x1, hv1, w1⟩ := arg_vr (ty := .slice AM.T.TBand) (by kernel_rfl) h1 (hval 1 22 v1 rfl rfl)
  obtain ⟨x2, hv2, w2⟩ := arg_vr (ty := .vec 2 (.int .i64)) (by kernel_rfl) h2 (hval 2 30 v2 rfl rfl)
  have lt : ∀ {t v d} {p : List MemPlace}, DataW.Trod enc Try.prog W 0 (fun _ => true) true t v d p → ∀ x ∈ p, x.block < W.heap.size := fun h => by obtain ⟨m, hm⟩ := h; exact DataW.trod_lt m _ _ _ hm
  have key := law_calls (ts := [.slice AM.T.TBand, .slice AM.T.TBand, .vec 2 (.int .i64)]) (Fn := AM.T.F4) AM.T.F4_c (W := W) (us := [v0, v1, v2]) (xs := (x0, x1, x2, ())) ⟨w0, w1, w2, trivial⟩ ⟨_, _, rfl, hv0, _, _, rfl, hv1, _, _, rfl, hv2, rfl⟩ (AM.T.PaintClips_true (x0, x1, x2, ())) (fun nm => rfl)
  refine key.mono fun e W' ⟨he, bel⟩ => ?_
  subst he
  exact ⟨_, rfl, _, _, _, [], _, [], hW', trodAll_mk1 (shut_bool Try.underlying4 _), trodAll_cons_mk (Below.trod laidOut (by kernel_rfl) (of_decide_eq_true (by kernel_rfl)) h0 bel (lt h0)) (trodAll_cons_mk (Below.trod laidOut (by kernel_rfl) (of_decide_eq_true (by kernel_rfl)) h1 bel (lt h1)) (trodAll_cons_mk (Below.trod laidOut (by kernel_rfl) (of_decide_eq_true (by kernel_rfl)) h2 bel (lt h2)) trodAll_mk0)), rfl, bel.frame _, fun h => by cases h⟩
theorem over : Rows.paintClipsRow.holds Try.pinned (OpenSpec.ofChange Rows.paintClipsSpec) :=
  OpenClaim.holds_of_wide 4 Try.f4 rfl rfl rfl rfl rfl rfl rfl ⟨rfl, rfl, rfl, rfl, rfl⟩ rfl rfl rfl rfl rfl (by kernel_rfl) Try.func4 (by kernel_rfl)
    (of_decide_eq_true (by kernel_rfl)) (by unfold Func.isWrapper; first | (rw [if_pos (by decide +kernel)]; kernel_rfl) | (rw [if_neg (by decide +kernel)]; exact ⟨rfl, rfl⟩))
    (fun os started H enc _ => lifted os started H enc)
end Go.Proofs.Ytcecgmiecdjnoaa.PaintC
namespace Go.Proofs.Ytcecgmiecdjnoaa
theorem paintClips_holds : Rows.PaintClipsSaid := PaintC.over
#print axioms paintClips_holds
end Go.Proofs.Ytcecgmiecdjnoaa
