/- The functions of the bands. -/
import Derived.Test.YtcecgmiecdjnoaaPaintA
set_option linter.unusedVariables false
namespace AM.T
open Go AM Go.Proofs
-- reglet/paint.Join$1
def F17 (x : (Int × Int × Int) × Unit) : Option (Bool × Unit) :=
  let a0 := x.1
  some ((decide (a0.2.1 ≥ a0.2.2), ()))
def F17_ak : List FK := [(.dat (.pair (.int .i64) (.pair (.int .i64) (.last (.int .i64)))))]
def F17_rk : List FK := [(.dat .bool)]
noncomputable def F17_s : List (Nat × LoopSum) := []
theorem F17_r (x) : runS tb b3 Try.f17 F17_ak F17_rk F17_s x = F17 x := by kernel_rfl
theorem F17_L : ∀ b, Try.f17.body = some b → LoopsOk Try.prog (cfgS tb b3 Try.f17 F17_ak F17_s) b := loops_all 0 (by kernel_rfl) (fun k hk => absurd hk (by omega))
theorem F17_c : SpecOk Try.prog 17 (specF F17_ak F17_rk F17) := specF_ok mixed (fn := Try.f17) (by kernel_rfl) (by kernel_rfl) (by kernel_rfl) tbOk b3_ok (by kernel_rfl) (by kernel_rfl) (by kernel_rfl) F17_L F17_r
noncomputable def t17 : Tbl := addT b3 17 (specF F17_ak F17_rk F17)
theorem t17_ok : TblOk Try.prog t17 := addT_ok b3_ok F17_c
-- slices.IndexFunc[[]reglet/paint.Band,reglet/paint.Band]
def F31_h0 : DS := ⟨[(7, .dat (.int .i64)), (1, .con (.fn 17 [])), (0, .dat (.slice (.pair (.int .i64) (.pair (.int .i64) (.last (.int .i64)))))), (8, .dat (.int .i64))], []⟩
def F31_e0_0 : Ex × DS := (.ret, ⟨[(4, .dat (.int .i64))], []⟩)
def F31_e0_1 : Ex × DS := (.exit 0, ⟨[], []⟩)
abbrev F31_X0 := (Int × Unit × (List (Int × Int × Int)) × Int × Unit) × (Unit)
abbrev F31_Z0 := ((Int × Unit) × (Unit)) ⊕ ((Unit) × (Unit))
def F31_b0 : Round F31_X0 F31_Z0 := fun {E} x again K =>
  let v7 := x.1.1
  let v0 := x.1.2.2.1
  let v8 := x.1.2.2.2.1
  bif decide (v8 < v7) then
    bif idxOk v8 ((List.length v0)) then
    let e1 := (v0.getD ((Int.toNat v8)) (((0 : Int), ((0 : Int), (0 : Int))) : Int × Int × Int))
    callF (F17 ((e1, ()))) (false, ()) fun y2 =>
    bif y2.1 then
      K (.inl ((v8, ()), (())))
    else
      let t3 := (w64 (v8 + (1 : Int)))
      again ((v7, (), v0, t3, ()), (()))
    else none
  else
    K (.inr ((()), (())))
def F31 (x : (List (Int × Int × Int)) × Unit × Unit) : Option (Int × Unit) :=
  let a0 := x.1
  (loopD F31_b0 (((List.length a0 : Int), (), a0, (0 : Int), ()), (()))).bind fun z4 =>
  match z4 with
  | .inl z5 =>
    some ((z5.1.1, ()))
  | .inr z6 =>
    some (((-1 : Int), ()))
def F31_ak : List FK := [(.dat (.slice (.pair (.int .i64) (.pair (.int .i64) (.last (.int .i64)))))), (.fn 17 .unit)]
def F31_rk : List FK := [(.dat (.int .i64))]
noncomputable def F31_s : List (Nat × LoopSum) := [(2, sumD (annS tb Try.f31 F31_ak 2) F31_h0 F31_e0_0 [F31_e0_1] (loopD (X := F31_X0) (Z := F31_Z0) F31_b0))]
theorem F31_p0 : ParaR (X := F31_X0) (Z := F31_Z0) F31_b0 := by
  intro R E x again K again' K' L h1 h2
  unfold F31_b0
  dsimp only
  repeat' first | exact para_none | exact h1 _ | exact h2 _ | refine para_cond ?_ ?_ | (refine para_callF ?_; intro _) | (refine para_bind ?_; intro _) | (refine para_sum ?_ ?_ <;> intro _) | (refine para_opt ?_ ?_; rotate_left; intro _)
theorem F31_l0 : BodyD (cfgS tb t17 Try.f31 F31_ak F31_s) (loopNo Try.f31 0) F31_h0 F31_e0_0 [F31_e0_1] F31_b0 := by
  intro R x again K
  kernel_rfl
theorem F31_r (x) : runS tb t17 Try.f31 F31_ak F31_rk F31_s x = F31 x := by kernel_rfl
theorem F31_L : ∀ b, Try.f31.body = some b → LoopsOk Try.prog (cfgS tb t17 Try.f31 F31_ak F31_s) b := loops_all 1 (by kernel_rfl) (fun k hk => match k, hk with | 0, _ => fun hS => loop_by mixed tbOk t17_ok (k := 0) (i := 2) (by kernel_rfl) (by kernel_rfl) F31_l0 F31_p0 hS | n + 1, h => absurd h (by omega))
theorem F31_c : SpecOk Try.prog 31 (specF F31_ak F31_rk F31) := specF_ok mixed (fn := Try.f31) (by kernel_rfl) (by kernel_rfl) (by kernel_rfl) tbOk t17_ok (by kernel_rfl) (by kernel_rfl) (by kernel_rfl) F31_L F31_r
noncomputable def t31 : Tbl := addT t17 31 (specF F31_ak F31_rk F31)
theorem t31_ok : TblOk Try.prog t31 := addT_ok t17_ok F31_c
-- slices.DeleteFunc[[]reglet/paint.Band,reglet/paint.Band]
def F15_h0 : DS := ⟨[(1, .con (.fn 17 [])), (6, .dat (.int .i64)), (0, .con (.own 1152921504606846976)), (5, .dat (.int .i64))], [(1152921504606846976, .arr 54 (.pair (.int .i64) (.pair (.int .i64) (.last (.int .i64)))))]⟩
def F15_e0_0 : Ex × DS := (.exit 0, ⟨[(0, .con (.own 1152921504606846976)), (5, .dat (.int .i64))], [(1152921504606846976, .arr 54 (.pair (.int .i64) (.pair (.int .i64) (.last (.int .i64)))))]⟩)
abbrev F15_X0 := (Unit × Int × Unit × Int × Unit) × ((List (Int × Int × Int)) × Unit)
abbrev F15_Z0 := ((Unit × Int × Unit) × ((List (Int × Int × Int)) × Unit))
def F15_b0 : Round F15_X0 F15_Z0 := fun {E} x again K =>
  let v6 := x.1.2.1
  let v5 := x.1.2.2.2.1
  let m0 := x.2.1
  bif decide (v6 < (List.length m0 : Int)) then
    bif idxOk v6 ((List.length m0)) then
    let e3 := (m0.getD ((Int.toNat v6)) (((0 : Int), ((0 : Int), (0 : Int))) : Int × Int × Int))
    callF (F17 ((e3, ()))) (false, ()) fun y4 =>
    bif (!y4.1) then
      bif idxOk v5 ((List.length m0)) then
      let l5 := (m0.set ((Int.toNat v5)) e3)
      let t6 := (w64 (v5 + (1 : Int)))
      let t7 := (w64 (v6 + (1 : Int)))
      again (((), t7, (), t6, ()), (l5, ()))
      else none
    else
      let t8 := (w64 (v6 + (1 : Int)))
      again (((), t8, (), v5, ()), (m0, ()))
    else none
  else
    K (((), v5, ()), (m0, ()))
def F15 (x : (List (Int × Int × Int)) × Unit × Unit) : Option ((List (Int × Int × Int)) × Unit) :=
  let a0 := x.1
  callF (F31 ((a0, ((), ())))) ((0 : Int), ()) fun y1 =>
  bif (y1.1 == (-1 : Int)) then
    some ((a0, ()))
  else
    let t2 := (w64 (y1.1 + (1 : Int)))
    (loopD F15_b0 (((), t2, (), y1.1, ()), (a0, ()))).bind fun z9 =>
    bif sliceOk z9.1.2.1 ((List.length z9.2.1 : Int)) (List.length z9.2.1) then
    let l10 := (z9.2.1.take ((Int.toNat z9.1.2.1)) ++ List.replicate (((Int.toNat ((List.length z9.2.1 : Int))) - (Int.toNat z9.1.2.1))) (((0 : Int), ((0 : Int), (0 : Int))) : Int × Int × Int) ++ z9.2.1.drop (((Int.toNat z9.1.2.1) + ((Int.toNat ((List.length z9.2.1 : Int))) - (Int.toNat z9.1.2.1)))))
    bif sliceOk ((0 : Int)) z9.1.2.1 (List.length l10) then
    some (((l10.take (((Int.toNat z9.1.2.1) - 0))), ()))
    else none
    else none
def F15_ak : List FK := [(.own 54 (.pair (.int .i64) (.pair (.int .i64) (.last (.int .i64))))), (.fn 17 .unit)]
def F15_rk : List FK := [(.own 54 (.pair (.int .i64) (.pair (.int .i64) (.last (.int .i64)))))]
noncomputable def F15_s : List (Nat × LoopSum) := [(5, sumD (annS tb Try.f15 F15_ak 5) F15_h0 F15_e0_0 [] (loopD (X := F15_X0) (Z := F15_Z0) F15_b0))]
theorem F15_p0 : ParaR (X := F15_X0) (Z := F15_Z0) F15_b0 := by
  intro R E x again K again' K' L h1 h2
  unfold F15_b0
  dsimp only
  repeat' first | exact para_none | exact h1 _ | exact h2 _ | refine para_cond ?_ ?_ | (refine para_callF ?_; intro _) | (refine para_bind ?_; intro _) | (refine para_sum ?_ ?_ <;> intro _) | (refine para_opt ?_ ?_; rotate_left; intro _)
theorem F15_l0 : BodyD (cfgS tb t31 Try.f15 F15_ak F15_s) (loopNo Try.f15 0) F15_h0 F15_e0_0 [] F15_b0 := by
  intro R x again K
  kernel_rfl
theorem F15_r (x) : runS tb t31 Try.f15 F15_ak F15_rk F15_s x = F15 x := by kernel_rfl
theorem F15_L : ∀ b, Try.f15.body = some b → LoopsOk Try.prog (cfgS tb t31 Try.f15 F15_ak F15_s) b := loops_all 1 (by kernel_rfl) (fun k hk => match k, hk with | 0, _ => fun hS => loop_by mixed tbOk t31_ok (k := 0) (i := 5) (by kernel_rfl) (by kernel_rfl) F15_l0 F15_p0 hS | n + 1, h => absurd h (by omega))
theorem F15_c : SpecOk Try.prog 15 (specF F15_ak F15_rk F15) := specF_ok mixed (fn := Try.f15) (by kernel_rfl) (by kernel_rfl) (by kernel_rfl) tbOk t31_ok (by kernel_rfl) (by kernel_rfl) (by kernel_rfl) F15_L F15_r
noncomputable def t15 : Tbl := addT t31 15 (specF F15_ak F15_rk F15)
theorem t15_ok : TblOk Try.prog t15 := addT_ok t31_ok F15_c
-- reglet/regletlaw21.bands
def F6_h0 : DS := ⟨[(0, .dat (.slice (.pair (.int .i64) (.pair (.int .i64) (.last (.int .i64)))))), (4, .dat (.int .i64)), (3, .con (.own 3))], [(3, .arr 55 (.pair (.int .i64) (.pair (.int .i64) (.last (.int .i64)))))]⟩
def F6_e0_0 : Ex × DS := (.exit 0, ⟨[(3, .con (.own 3))], [(3, .arr 55 (.pair (.int .i64) (.pair (.int .i64) (.last (.int .i64)))))]⟩)
abbrev F6_X0 := ((List (Int × Int × Int)) × Int × Unit × Unit) × ((List (Int × Int × Int)) × Unit)
abbrev F6_Z0 := ((Unit × Unit) × ((List (Int × Int × Int)) × Unit))
def F6_b0 : Round F6_X0 F6_Z0 := fun {E} x again K =>
  let v0 := x.1.1
  let v4 := x.1.2.1
  let m0 := x.2.1
  bif decide (v4 < (List.length v0 : Int)) then
    bif idxOk v4 ((List.length v0)) then
    let e1 := (v0.getD ((Int.toNat v4)) (((0 : Int), ((0 : Int), (0 : Int))) : Int × Int × Int))
    bif idxOk v4 ((List.length v0)) then
    let e2 := (v0.getD ((Int.toNat v4)) (((0 : Int), ((0 : Int), (0 : Int))) : Int × Int × Int))
    bif idxOk v4 ((List.length v0)) then
    let e3 := (v0.getD ((Int.toNat v4)) (((0 : Int), ((0 : Int), (0 : Int))) : Int × Int × Int))
    bif roomOk ((List.length m0 + List.length (([(e1.1, (e2.2.1, e3.2.2))] : List (Int × Int × Int))))) 24 then
    let l4 := (m0 ++ ([(e1.1, (e2.2.1, e3.2.2))] : List (Int × Int × Int)))
    let t5 := (w64 (v4 + (1 : Int)))
    again ((v0, t5, (), ()), (l4, ()))
    else none
    else none
    else none
    else none
  else
    K (((), ()), (m0, ()))
def F6 (x : (List (Int × Int × Int)) × Unit) : Option ((List (Int × Int × Int)) × Unit) :=
  let a0 := x.1
  (loopD F6_b0 ((a0, (0 : Int), (), ()), (([] : List (Int × Int × Int)), ()))).bind fun z6 =>
  some ((z6.2.1, ()))
def F6_ak : List FK := [(.dat (.slice (.pair (.int .i64) (.pair (.int .i64) (.last (.int .i64))))))]
def F6_rk : List FK := [(.own 55 (.pair (.int .i64) (.pair (.int .i64) (.last (.int .i64)))))]
noncomputable def F6_s : List (Nat × LoopSum) := [(3, sumD (annS tb Try.f6 F6_ak 3) F6_h0 F6_e0_0 [] (loopD (X := F6_X0) (Z := F6_Z0) F6_b0))]
theorem F6_p0 : ParaR (X := F6_X0) (Z := F6_Z0) F6_b0 := by
  intro R E x again K again' K' L h1 h2
  unfold F6_b0
  dsimp only
  repeat' first | exact para_none | exact h1 _ | exact h2 _ | refine para_cond ?_ ?_ | (refine para_callF ?_; intro _) | (refine para_bind ?_; intro _) | (refine para_sum ?_ ?_ <;> intro _) | (refine para_opt ?_ ?_; rotate_left; intro _)
theorem F6_l0 : BodyD (cfgS tb t15 Try.f6 F6_ak F6_s) (loopNo Try.f6 0) F6_h0 F6_e0_0 [] F6_b0 := by
  intro R x again K
  kernel_rfl
theorem F6_r (x) : runS tb t15 Try.f6 F6_ak F6_rk F6_s x = F6 x := by kernel_rfl
theorem F6_L : ∀ b, Try.f6.body = some b → LoopsOk Try.prog (cfgS tb t15 Try.f6 F6_ak F6_s) b := loops_all 1 (by kernel_rfl) (fun k hk => match k, hk with | 0, _ => fun hS => loop_by mixed tbOk t15_ok (k := 0) (i := 3) (by kernel_rfl) (by kernel_rfl) F6_l0 F6_p0 hS | n + 1, h => absurd h (by omega))
theorem F6_c : SpecOk Try.prog 6 (specF F6_ak F6_rk F6) := specF_ok mixed (fn := Try.f6) (by kernel_rfl) (by kernel_rfl) (by kernel_rfl) tbOk t15_ok (by kernel_rfl) (by kernel_rfl) (by kernel_rfl) F6_L F6_r
noncomputable def t6 : Tbl := addT t15 6 (specF F6_ak F6_rk F6)
theorem t6_ok : TblOk Try.prog t6 := addT_ok t15_ok F6_c
-- reglet/regletref21.Tidy
def F8_h0 : DS := ⟨[(0, .dat (.slice (.pair (.int .i64) (.pair (.int .i64) (.last (.int .i64)))))), (3, .dat (.int .i64))], []⟩
def F8_e0_0 : Ex × DS := (.ret, ⟨[(2, .dat .bool)], []⟩)
def F8_e0_1 : Ex × DS := (.exit 0, ⟨[], []⟩)
abbrev F8_X0 := ((List (Int × Int × Int)) × Int × Unit) × (Unit)
abbrev F8_Z0 := ((Bool × Unit) × (Unit)) ⊕ ((Unit) × (Unit))
def F8_b0 : Round F8_X0 F8_Z0 := fun {E} x again K =>
  let v0 := x.1.1
  let v3 := x.1.2.1
  bif decide (v3 < (List.length v0 : Int)) then
    bif idxOk v3 ((List.length v0)) then
    let e1 := (v0.getD ((Int.toNat v3)) (((0 : Int), ((0 : Int), (0 : Int))) : Int × Int × Int))
    bif idxOk v3 ((List.length v0)) then
    let e2 := (v0.getD ((Int.toNat v3)) (((0 : Int), ((0 : Int), (0 : Int))) : Int × Int × Int))
    bif decide (e1.2.1 ≥ e2.2.2) then
      K (.inl ((false, ()), (())))
    else
      bif decide (v3 > (0 : Int)) then
        bif idxOk v3 ((List.length v0)) then
        let e3 := (v0.getD ((Int.toNat v3)) (((0 : Int), ((0 : Int), (0 : Int))) : Int × Int × Int))
        let t4 := (w64 (v3 - (1 : Int)))
        bif idxOk t4 ((List.length v0)) then
        let e5 := (v0.getD ((Int.toNat t4)) (((0 : Int), ((0 : Int), (0 : Int))) : Int × Int × Int))
        bif decide (e3.1 < e5.1) then
          K (.inl ((false, ()), (())))
        else
          bif idxOk v3 ((List.length v0)) then
          let e6 := (v0.getD ((Int.toNat v3)) (((0 : Int), ((0 : Int), (0 : Int))) : Int × Int × Int))
          let t7 := (w64 (v3 - (1 : Int)))
          bif idxOk t7 ((List.length v0)) then
          let e8 := (v0.getD ((Int.toNat t7)) (((0 : Int), ((0 : Int), (0 : Int))) : Int × Int × Int))
          bif (e6.1 == e8.1) then
            bif idxOk v3 ((List.length v0)) then
            let e9 := (v0.getD ((Int.toNat v3)) (((0 : Int), ((0 : Int), (0 : Int))) : Int × Int × Int))
            let t10 := (w64 (v3 - (1 : Int)))
            bif idxOk t10 ((List.length v0)) then
            let e11 := (v0.getD ((Int.toNat t10)) (((0 : Int), ((0 : Int), (0 : Int))) : Int × Int × Int))
            bif decide (e9.2.1 ≤ e11.2.2) then
              K (.inl ((false, ()), (())))
            else
              let t12 := (w64 (v3 + (1 : Int)))
              again ((v0, t12, ()), (()))
            else none
            else none
          else
            let t13 := (w64 (v3 + (1 : Int)))
            again ((v0, t13, ()), (()))
          else none
          else none
        else none
        else none
      else
        let t14 := (w64 (v3 + (1 : Int)))
        again ((v0, t14, ()), (()))
    else none
    else none
  else
    K (.inr ((()), (())))
def F8 (x : (List (Int × Int × Int)) × Unit) : Option (Bool × Unit) :=
  let a0 := x.1
  (loopD F8_b0 ((a0, (0 : Int), ()), (()))).bind fun z15 =>
  match z15 with
  | .inl z16 =>
    some ((z16.1.1, ()))
  | .inr z17 =>
    some ((true, ()))
def F8_ak : List FK := [(.dat (.slice (.pair (.int .i64) (.pair (.int .i64) (.last (.int .i64))))))]
def F8_rk : List FK := [(.dat .bool)]
noncomputable def F8_s : List (Nat × LoopSum) := [(2, sumD (annS tb Try.f8 F8_ak 2) F8_h0 F8_e0_0 [F8_e0_1] (loopD (X := F8_X0) (Z := F8_Z0) F8_b0))]
theorem F8_p0 : ParaR (X := F8_X0) (Z := F8_Z0) F8_b0 := by
  intro R E x again K again' K' L h1 h2
  unfold F8_b0
  dsimp only
  repeat' first | exact para_none | exact h1 _ | exact h2 _ | refine para_cond ?_ ?_ | (refine para_callF ?_; intro _) | (refine para_bind ?_; intro _) | (refine para_sum ?_ ?_ <;> intro _) | (refine para_opt ?_ ?_; rotate_left; intro _)
theorem F8_l0 : BodyD (cfgS tb t6 Try.f8 F8_ak F8_s) (loopNo Try.f8 0) F8_h0 F8_e0_0 [F8_e0_1] F8_b0 := by
  intro R x again K
  kernel_rfl
theorem F8_r (x) : runS tb t6 Try.f8 F8_ak F8_rk F8_s x = F8 x := by kernel_rfl
theorem F8_L : ∀ b, Try.f8.body = some b → LoopsOk Try.prog (cfgS tb t6 Try.f8 F8_ak F8_s) b := loops_all 1 (by kernel_rfl) (fun k hk => match k, hk with | 0, _ => fun hS => loop_by mixed tbOk t6_ok (k := 0) (i := 2) (by kernel_rfl) (by kernel_rfl) F8_l0 F8_p0 hS | n + 1, h => absurd h (by omega))
theorem F8_c : SpecOk Try.prog 8 (specF F8_ak F8_rk F8) := specF_ok mixed (fn := Try.f8) (by kernel_rfl) (by kernel_rfl) (by kernel_rfl) tbOk t6_ok (by kernel_rfl) (by kernel_rfl) (by kernel_rfl) F8_L F8_r
noncomputable def t8 : Tbl := addT t6 8 (specF F8_ak F8_rk F8)
theorem t8_ok : TblOk Try.prog t8 := addT_ok t6_ok F8_c
-- reglet/regletref21.In
def F9_h0 : DS := ⟨[(1, .dat (.int .i64)), (2, .dat (.int .i64)), (0, .dat (.slice (.pair (.int .i64) (.pair (.int .i64) (.last (.int .i64)))))), (7, .dat (.int .i64))], []⟩
def F9_e0_0 : Ex × DS := (.ret, ⟨[(6, .dat .bool)], []⟩)
def F9_e0_1 : Ex × DS := (.exit 0, ⟨[], []⟩)
abbrev F9_X0 := (Int × Int × (List (Int × Int × Int)) × Int × Unit) × (Unit)
abbrev F9_Z0 := ((Bool × Unit) × (Unit)) ⊕ ((Unit) × (Unit))
def F9_b0 : Round F9_X0 F9_Z0 := fun {E} x again K =>
  let v1 := x.1.1
  let v2 := x.1.2.1
  let v0 := x.1.2.2.1
  let v7 := x.1.2.2.2.1
  bif decide (v7 < (List.length v0 : Int)) then
    bif idxOk v7 ((List.length v0)) then
    let e1 := (v0.getD ((Int.toNat v7)) (((0 : Int), ((0 : Int), (0 : Int))) : Int × Int × Int))
    bif (e1.1 == v1) then
      bif idxOk v7 ((List.length v0)) then
      let e2 := (v0.getD ((Int.toNat v7)) (((0 : Int), ((0 : Int), (0 : Int))) : Int × Int × Int))
      bif decide (e2.2.1 ≤ v2) then
        bif idxOk v7 ((List.length v0)) then
        let e3 := (v0.getD ((Int.toNat v7)) (((0 : Int), ((0 : Int), (0 : Int))) : Int × Int × Int))
        bif decide (v2 < e3.2.2) then
          K (.inl ((true, ()), (())))
        else
          let t4 := (w64 (v7 + (1 : Int)))
          again ((v1, v2, v0, t4, ()), (()))
        else none
      else
        let t5 := (w64 (v7 + (1 : Int)))
        again ((v1, v2, v0, t5, ()), (()))
      else none
    else
      let t6 := (w64 (v7 + (1 : Int)))
      again ((v1, v2, v0, t6, ()), (()))
    else none
  else
    K (.inr ((()), (())))
def F9 (x : (List (Int × Int × Int)) × Int × Int × Unit) : Option (Bool × Unit) :=
  let a0 := x.1
  let a1 := x.2.1
  let a2 := x.2.2.1
  (loopD F9_b0 ((a1, a2, a0, (0 : Int), ()), (()))).bind fun z7 =>
  match z7 with
  | .inl z8 =>
    some ((z8.1.1, ()))
  | .inr z9 =>
    some ((false, ()))
def F9_ak : List FK := [(.dat (.slice (.pair (.int .i64) (.pair (.int .i64) (.last (.int .i64)))))), (.dat (.int .i64)), (.dat (.int .i64))]
def F9_rk : List FK := [(.dat .bool)]
noncomputable def F9_s : List (Nat × LoopSum) := [(2, sumD (annS tb Try.f9 F9_ak 2) F9_h0 F9_e0_0 [F9_e0_1] (loopD (X := F9_X0) (Z := F9_Z0) F9_b0))]
theorem F9_p0 : ParaR (X := F9_X0) (Z := F9_Z0) F9_b0 := by
  intro R E x again K again' K' L h1 h2
  unfold F9_b0
  dsimp only
  repeat' first | exact para_none | exact h1 _ | exact h2 _ | refine para_cond ?_ ?_ | (refine para_callF ?_; intro _) | (refine para_bind ?_; intro _) | (refine para_sum ?_ ?_ <;> intro _) | (refine para_opt ?_ ?_; rotate_left; intro _)
theorem F9_l0 : BodyD (cfgS tb t8 Try.f9 F9_ak F9_s) (loopNo Try.f9 0) F9_h0 F9_e0_0 [F9_e0_1] F9_b0 := by
  intro R x again K
  kernel_rfl
theorem F9_r (x) : runS tb t8 Try.f9 F9_ak F9_rk F9_s x = F9 x := by kernel_rfl
theorem F9_L : ∀ b, Try.f9.body = some b → LoopsOk Try.prog (cfgS tb t8 Try.f9 F9_ak F9_s) b := loops_all 1 (by kernel_rfl) (fun k hk => match k, hk with | 0, _ => fun hS => loop_by mixed tbOk t8_ok (k := 0) (i := 2) (by kernel_rfl) (by kernel_rfl) F9_l0 F9_p0 hS | n + 1, h => absurd h (by omega))
theorem F9_c : SpecOk Try.prog 9 (specF F9_ak F9_rk F9) := specF_ok mixed (fn := Try.f9) (by kernel_rfl) (by kernel_rfl) (by kernel_rfl) tbOk t8_ok (by kernel_rfl) (by kernel_rfl) (by kernel_rfl) F9_L F9_r
noncomputable def t9 : Tbl := addT t8 9 (specF F9_ak F9_rk F9)
theorem t9_ok : TblOk Try.prog t9 := addT_ok t8_ok F9_c
-- reglet/paint.Join
def F7_h0 : DS := ⟨[(14, .dat (.int .i64)), (13, .con (.own 13)), (15, .dat (.int .i64)), (4, .con (.own 4))], [(13, .arr 54 (.pair (.int .i64) (.pair (.int .i64) (.last (.int .i64))))), (4, .arr 54 (.pair (.int .i64) (.pair (.int .i64) (.last (.int .i64)))))]⟩
def F7_e0_0 : Ex × DS := (.exit 0, ⟨[(4, .con (.own 4))], [(4, .arr 54 (.pair (.int .i64) (.pair (.int .i64) (.last (.int .i64)))))]⟩)
abbrev F7_X0 := (Int × Unit × Int × Unit × Unit) × ((List (Int × Int × Int)) × (List (Int × Int × Int)) × Unit)
abbrev F7_Z0 := ((Unit × Unit) × ((List (Int × Int × Int)) × Unit))
def F7_b0 : Round F7_X0 F7_Z0 := fun {E} x again K =>
  let v14 := x.1.1
  let v15 := x.1.2.2.1
  let m0 := x.2.1
  let m1 := x.2.2.1
  bif decide (v15 < v14) then
    bif idxOk v15 ((List.length m0)) then
    let e4 := (m0.getD ((Int.toNat v15)) (((0 : Int), ((0 : Int), (0 : Int))) : Int × Int × Int))
    let t5 := (w64 ((List.length m1 : Int) - (1 : Int)))
    bif decide (t5 ≥ (0 : Int)) then
      bif idxOk t5 ((List.length m1)) then
      let e6 := (m1.getD ((Int.toNat t5)) (((0 : Int), ((0 : Int), (0 : Int))) : Int × Int × Int))
      bif (e6.1 == e4.1) then
        bif idxOk t5 ((List.length m1)) then
        let e7 := (m1.getD ((Int.toNat t5)) (((0 : Int), ((0 : Int), (0 : Int))) : Int × Int × Int))
        bif decide (e4.2.1 ≤ e7.2.2) then
          bif idxOk t5 ((List.length m1)) then
          let e8 := (m1.getD ((Int.toNat t5)) (((0 : Int), ((0 : Int), (0 : Int))) : Int × Int × Int))
          let t9 := (imax e8.2.2 e4.2.2)
          bif idxOk t5 ((List.length m1)) then
          let l10 := (m1.set ((Int.toNat t5)) ((((m1.getD ((Int.toNat t5)) (((0 : Int), ((0 : Int), (0 : Int))) : Int × Int × Int))).1, ((((m1.getD ((Int.toNat t5)) (((0 : Int), ((0 : Int), (0 : Int))) : Int × Int × Int))).2).1, t9))))
          let t11 := (w64 (v15 + (1 : Int)))
          again ((v14, (), t11, (), ()), (m0, l10, ()))
          else none
          else none
        else
          bif roomOk ((List.length m1 + List.length (([e4] : List (Int × Int × Int))))) 24 then
          let l12 := (m1 ++ ([e4] : List (Int × Int × Int)))
          let t13 := (w64 (v15 + (1 : Int)))
          again ((v14, (), t13, (), ()), (m0, l12, ()))
          else none
        else none
      else
        bif roomOk ((List.length m1 + List.length (([e4] : List (Int × Int × Int))))) 24 then
        let l14 := (m1 ++ ([e4] : List (Int × Int × Int)))
        let t15 := (w64 (v15 + (1 : Int)))
        again ((v14, (), t15, (), ()), (m0, l14, ()))
        else none
      else none
    else
      bif roomOk ((List.length m1 + List.length (([e4] : List (Int × Int × Int))))) 24 then
      let l16 := (m1 ++ ([e4] : List (Int × Int × Int)))
      let t17 := (w64 (v15 + (1 : Int)))
      again ((v14, (), t17, (), ()), (m0, l16, ()))
      else none
    else none
  else
    K (((), ()), (m1, ()))
def F7 (x : (List (Int × Int × Int)) × Unit) : Option ((List (Int × Int × Int)) × Unit) :=
  let a0 := x.1
  bif preClone ((a0, ())) then
  let y1 := (cloneR ((a0, ())))
  callF (F15 ((y1.1, ((), ())))) ([], ()) fun y2 =>
  bif decide (List.length y2.1 < 4611686018427387904) then
  let l3 := (sortB y2.1)
  (loopD F7_b0 (((List.length l3 : Int), (), (0 : Int), (), ()), (l3, ([] : List (Int × Int × Int)), ()))).bind fun z18 =>
  some ((z18.2.1, ()))
  else none
  else none
def F7_ak : List FK := [(.dat (.slice (.pair (.int .i64) (.pair (.int .i64) (.last (.int .i64))))))]
def F7_rk : List FK := [(.own 54 (.pair (.int .i64) (.pair (.int .i64) (.last (.int .i64)))))]
noncomputable def F7_s : List (Nat × LoopSum) := [(5, sumD (annS tb Try.f7 F7_ak 5) F7_h0 F7_e0_0 [] (loopD (X := F7_X0) (Z := F7_Z0) F7_b0))]
theorem F7_p0 : ParaR (X := F7_X0) (Z := F7_Z0) F7_b0 := by
  intro R E x again K again' K' L h1 h2
  unfold F7_b0
  dsimp only
  repeat' first | exact para_none | exact h1 _ | exact h2 _ | refine para_cond ?_ ?_ | (refine para_callF ?_; intro _) | (refine para_bind ?_; intro _) | (refine para_sum ?_ ?_ <;> intro _) | (refine para_opt ?_ ?_; rotate_left; intro _)
theorem F7_l0 : BodyD (cfgS tb t9 Try.f7 F7_ak F7_s) (loopNo Try.f7 0) F7_h0 F7_e0_0 [] F7_b0 := by
  intro R x again K
  kernel_rfl
theorem F7_r (x) : runS tb t9 Try.f7 F7_ak F7_rk F7_s x = F7 x := by kernel_rfl
theorem F7_L : ∀ b, Try.f7.body = some b → LoopsOk Try.prog (cfgS tb t9 Try.f7 F7_ak F7_s) b := loops_all 1 (by kernel_rfl) (fun k hk => match k, hk with | 0, _ => fun hS => loop_by mixed tbOk t9_ok (k := 0) (i := 5) (by kernel_rfl) (by kernel_rfl) F7_l0 F7_p0 hS | n + 1, h => absurd h (by omega))
theorem F7_c : SpecOk Try.prog 7 (specF F7_ak F7_rk F7) := specF_ok mixed (fn := Try.f7) (by kernel_rfl) (by kernel_rfl) (by kernel_rfl) tbOk t9_ok (by kernel_rfl) (by kernel_rfl) (by kernel_rfl) F7_L F7_r
noncomputable def t7 : Tbl := addT t9 7 (specF F7_ak F7_rk F7)
theorem t7_ok : TblOk Try.prog t7 := addT_ok t9_ok F7_c
-- reglet/paint.Clip
def F10_h1 : DS := ⟨[(20, .dat (.int .i64)), (19, .con (.own 19)), (7, .con (.ptr 7 0)), (21, .dat (.int .i64)), (14, .dat (.int .i64)), (13, .dat (.int .i64)), (12, .con (.own 12)), (1, .dat (.slice (.pair (.int .i64) (.pair (.int .i64) (.last (.int .i64)))))), (5, .con (.own 5))], [(19, .arr 54 (.pair (.int .i64) (.pair (.int .i64) (.last (.int .i64))))), (7, .cells 54 [.dat (.int .i64), .dat (.int .i64), .dat (.int .i64)]), (12, .arr 54 (.pair (.int .i64) (.pair (.int .i64) (.last (.int .i64))))), (5, .arr 54 (.pair (.int .i64) (.pair (.int .i64) (.last (.int .i64)))))]⟩
def F10_e1_0 : Ex × DS := (.exit 2, ⟨[(14, .dat (.int .i64)), (13, .dat (.int .i64)), (12, .con (.own 12)), (1, .dat (.slice (.pair (.int .i64) (.pair (.int .i64) (.last (.int .i64)))))), (5, .con (.own 5))], [(12, .arr 54 (.pair (.int .i64) (.pair (.int .i64) (.last (.int .i64))))), (5, .arr 54 (.pair (.int .i64) (.pair (.int .i64) (.last (.int .i64)))))]⟩)
abbrev F10_X1 := (Int × Unit × Unit × Int × Int × Int × Unit × (List (Int × Int × Int)) × Unit × Unit) × ((List (Int × Int × Int)) × (Int × Int × Int × Unit) × (List (Int × Int × Int)) × (List (Int × Int × Int)) × Unit)
abbrev F10_Z1 := ((Int × Int × Unit × (List (Int × Int × Int)) × Unit × Unit) × ((List (Int × Int × Int)) × (List (Int × Int × Int)) × Unit))
def F10_b1 : Round F10_X1 F10_Z1 := fun {E} x again K =>
  let v20 := x.1.1
  let v21 := x.1.2.2.2.1
  let v14 := x.1.2.2.2.2.1
  let v13 := x.1.2.2.2.2.2.1
  let v1 := x.1.2.2.2.2.2.2.2.1
  let m0 := x.2.1
  let m1 := x.2.2.1
  let m2 := x.2.2.2.1
  let m3 := x.2.2.2.2.1
  bif decide (v21 < v20) then
    bif idxOk v21 ((List.length m0)) then
    let e4 := (m0.getD ((Int.toNat v21)) (((0 : Int), ((0 : Int), (0 : Int))) : Int × Int × Int))
    bif (m1.1 != e4.1) then
      let t5 := (w64 (v21 + (1 : Int)))
      again ((v20, (), (), t5, v14, v13, (), v1, (), ()), (m0, (m1.1, m1.2.1, m1.2.2.1, ()), m2, m3, ()))
    else
      let t6 := (imax m1.2.1 e4.2.1)
      let t7 := (imin m1.2.2.1 e4.2.2)
      bif decide (t6 < t7) then
        bif roomOk ((List.length m3 + List.length (([(m1.1, (t6, t7))] : List (Int × Int × Int))))) 24 then
        let l8 := (m3 ++ ([(m1.1, (t6, t7))] : List (Int × Int × Int)))
        let t9 := (w64 (v21 + (1 : Int)))
        again ((v20, (), (), t9, v14, v13, (), v1, (), ()), (m0, (m1.1, m1.2.1, m1.2.2.1, ()), m2, l8, ()))
        else none
      else
        let t10 := (w64 (v21 + (1 : Int)))
        again ((v20, (), (), t10, v14, v13, (), v1, (), ()), (m0, (m1.1, m1.2.1, m1.2.2.1, ()), m2, m3, ()))
    else none
  else
    K ((v14, v13, (), v1, (), ()), (m2, m3, ()))
def F10_h0 : DS := ⟨[(13, .dat (.int .i64)), (12, .con (.own 12)), (1, .dat (.slice (.pair (.int .i64) (.pair (.int .i64) (.last (.int .i64)))))), (14, .dat (.int .i64)), (5, .con (.own 5))], [(12, .arr 54 (.pair (.int .i64) (.pair (.int .i64) (.last (.int .i64))))), (5, .arr 54 (.pair (.int .i64) (.pair (.int .i64) (.last (.int .i64)))))]⟩
def F10_e0_0 : Ex × DS := (.exit 0, ⟨[(5, .con (.own 5))], [(5, .arr 54 (.pair (.int .i64) (.pair (.int .i64) (.last (.int .i64)))))]⟩)
abbrev F10_X0 := (Int × Unit × (List (Int × Int × Int)) × Int × Unit × Unit) × ((List (Int × Int × Int)) × (List (Int × Int × Int)) × Unit)
abbrev F10_Z0 := ((Unit × Unit) × ((List (Int × Int × Int)) × Unit))
def F10_b0 : Round F10_X0 F10_Z0 := fun {E} x again K =>
  let v13 := x.1.1
  let v1 := x.1.2.2.1
  let v14 := x.1.2.2.2.1
  let m0 := x.2.1
  let m1 := x.2.2.1
  bif decide (v14 < v13) then
    bif idxOk v14 ((List.length m0)) then
    let e2 := (m0.getD ((Int.toNat v14)) (((0 : Int), ((0 : Int), (0 : Int))) : Int × Int × Int))
    callF (F7 ((v1, ()))) ([], ()) fun y3 =>
    (loopD F10_b1 (((List.length y3.1 : Int), (), (), (0 : Int), v14, v13, (), v1, (), ()), (y3.1, (e2.1, e2.2.1, e2.2.2, ()), m0, m1, ()))).bind fun z11 =>
    let t12 := (w64 (z11.1.1 + (1 : Int)))
    again ((z11.1.2.1, (), z11.1.2.2.2.1, t12, (), ()), (z11.2.1, z11.2.2.1, ()))
    else none
  else
    K (((), ()), (m1, ()))
def F10 (x : (List (Int × Int × Int)) × (List (Int × Int × Int)) × Unit) : Option ((List (Int × Int × Int)) × Unit) :=
  let a0 := x.1
  let a1 := x.2.1
  callF (F7 ((a0, ()))) ([], ()) fun y1 =>
  (loopD F10_b0 (((List.length y1.1 : Int), (), a1, (0 : Int), (), ()), (y1.1, ([] : List (Int × Int × Int)), ()))).bind fun z13 =>
  some ((z13.2.1, ()))
def F10_ak : List FK := [(.dat (.slice (.pair (.int .i64) (.pair (.int .i64) (.last (.int .i64)))))), (.dat (.slice (.pair (.int .i64) (.pair (.int .i64) (.last (.int .i64))))))]
def F10_rk : List FK := [(.own 54 (.pair (.int .i64) (.pair (.int .i64) (.last (.int .i64)))))]
noncomputable def F10_s : List (Nat × LoopSum) := [(6, sumD (annS tb Try.f10 F10_ak 6) F10_h1 F10_e1_0 [] (loopD (X := F10_X1) (Z := F10_Z1) F10_b1)),
  (3, sumD (annS tb Try.f10 F10_ak 3) F10_h0 F10_e0_0 [] (loopD (X := F10_X0) (Z := F10_Z0) F10_b0))]
theorem F10_p1 : ParaR (X := F10_X1) (Z := F10_Z1) F10_b1 := by
  intro R E x again K again' K' L h1 h2
  unfold F10_b1
  dsimp only
  repeat' first | exact para_none | exact h1 _ | exact h2 _ | refine para_cond ?_ ?_ | (refine para_callF ?_; intro _) | (refine para_bind ?_; intro _) | (refine para_sum ?_ ?_ <;> intro _) | (refine para_opt ?_ ?_; rotate_left; intro _)
theorem F10_l1 : BodyD (cfgS tb t7 Try.f10 F10_ak F10_s) (loopNo Try.f10 1) F10_h1 F10_e1_0 [] F10_b1 := by
  intro R x again K
  kernel_rfl
theorem F10_p0 : ParaR (X := F10_X0) (Z := F10_Z0) F10_b0 := by
  intro R E x again K again' K' L h1 h2
  unfold F10_b0
  dsimp only
  repeat' first | exact para_none | exact h1 _ | exact h2 _ | refine para_cond ?_ ?_ | (refine para_callF ?_; intro _) | (refine para_bind ?_; intro _) | (refine para_sum ?_ ?_ <;> intro _) | (refine para_opt ?_ ?_; rotate_left; intro _)
theorem F10_l0 : BodyD (cfgS tb t7 Try.f10 F10_ak F10_s) (loopNo Try.f10 0) F10_h0 F10_e0_0 [] F10_b0 := by
  intro R x again K
  kernel_rfl
theorem F10_r (x) : runS tb t7 Try.f10 F10_ak F10_rk F10_s x = F10 x := by kernel_rfl
theorem F10_L : ∀ b, Try.f10.body = some b → LoopsOk Try.prog (cfgS tb t7 Try.f10 F10_ak F10_s) b := loops_all 2 (by kernel_rfl) (fun k hk => match k, hk with | 0, _ => fun hS => loop_by mixed tbOk t7_ok (k := 0) (i := 3) (by kernel_rfl) (by kernel_rfl) F10_l0 F10_p0 hS | 1, _ => fun hS => loop_by mixed tbOk t7_ok (k := 1) (i := 6) (by kernel_rfl) (by kernel_rfl) F10_l1 F10_p1 hS | n + 2, h => absurd h (by omega))
theorem F10_c : SpecOk Try.prog 10 (specF F10_ak F10_rk F10) := specF_ok mixed (fn := Try.f10) (by kernel_rfl) (by kernel_rfl) (by kernel_rfl) tbOk t7_ok (by kernel_rfl) (by kernel_rfl) (by kernel_rfl) F10_L F10_r
noncomputable def t10 : Tbl := addT t7 10 (specF F10_ak F10_rk F10)
theorem t10_ok : TblOk Try.prog t10 := addT_ok t7_ok F10_c
-- reglet/regletlaw21.PaintJoins
def F3 (x : (List (Int × Int × Int)) × Int × Int × Unit) : Option (Bool × Unit) :=
  let a0 := x.1
  let a1 := x.2.1
  let a2 := x.2.2.1
  let y1 := (awakeR (()))
  bif (!y1.1) then
    some ((false, ()))
  else
    bif decide ((List.length a0 : Int) > (200 : Int)) then
      some ((true, ()))
    else
      callF (F7 ((a0, ()))) ([], ()) fun y2 =>
      callF (F6 ((y2.1, ()))) ([], ()) fun y3 =>
      callF (F8 ((y3.1, ()))) (false, ()) fun y4 =>
      bif y4.1 then
        callF (F9 ((y3.1, (a1, (a2, ()))))) (false, ()) fun y5 =>
        callF (F6 ((a0, ()))) ([], ()) fun y6 =>
        callF (F9 ((y6.1, (a1, (a2, ()))))) (false, ()) fun y7 =>
        some (((y5.1 == y7.1), ()))
      else
        some ((false, ()))
def F3_ak : List FK := [(.dat (.slice (.pair (.int .i64) (.pair (.int .i64) (.last (.int .i64)))))), (.dat (.int .i64)), (.dat (.int .i64))]
def F3_rk : List FK := [(.dat .bool)]
noncomputable def F3_s : List (Nat × LoopSum) := []
theorem F3_r (x) : runS tb t10 Try.f3 F3_ak F3_rk F3_s x = F3 x := by kernel_rfl
theorem F3_L : ∀ b, Try.f3.body = some b → LoopsOk Try.prog (cfgS tb t10 Try.f3 F3_ak F3_s) b := loops_all 0 (by kernel_rfl) (fun k hk => absurd hk (by omega))
theorem F3_c : SpecOk Try.prog 3 (specF F3_ak F3_rk F3) := specF_ok mixed (fn := Try.f3) (by kernel_rfl) (by kernel_rfl) (by kernel_rfl) tbOk t10_ok (by kernel_rfl) (by kernel_rfl) (by kernel_rfl) F3_L F3_r
noncomputable def t3 : Tbl := addT t10 3 (specF F3_ak F3_rk F3)
theorem t3_ok : TblOk Try.prog t3 := addT_ok t10_ok F3_c
-- reglet/regletlaw21.PaintClips
def F4 (x : (List (Int × Int × Int)) × (List (Int × Int × Int)) × (List (Int)) × Unit) : Option (Bool × Unit) :=
  let a0 := x.1
  let a1 := x.2.1
  let a2 := x.2.2.1
  let y1 := (awakeR (()))
  bif (!y1.1) then
    some ((false, ()))
  else
    bif decide ((List.length a0 : Int) > (100 : Int)) then
      some ((true, ()))
    else
      bif decide ((List.length a1 : Int) > (100 : Int)) then
        some ((true, ()))
      else
        callF (F10 ((a0, (a1, ())))) ([], ()) fun y2 =>
        callF (F6 ((y2.1, ()))) ([], ()) fun y3 =>
        callF (F8 ((y3.1, ()))) (false, ()) fun y4 =>
        bif y4.1 then
          callF (F9 ((y3.1, ((a2.getD 0 (0 : Int)), ((a2.getD 1 (0 : Int)), ()))))) (false, ()) fun y5 =>
          callF (F6 ((a0, ()))) ([], ()) fun y6 =>
          callF (F9 ((y6.1, ((a2.getD 0 (0 : Int)), ((a2.getD 1 (0 : Int)), ()))))) (false, ()) fun y7 =>
          bif y7.1 then
            callF (F6 ((a1, ()))) ([], ()) fun y8 =>
            callF (F9 ((y8.1, ((a2.getD 0 (0 : Int)), ((a2.getD 1 (0 : Int)), ()))))) (false, ()) fun y9 =>
            some (((y5.1 == y9.1), ()))
          else
            some (((y5.1 == false), ()))
        else
          some ((false, ()))
def F4_ak : List FK := [(.dat (.slice (.pair (.int .i64) (.pair (.int .i64) (.last (.int .i64)))))), (.dat (.slice (.pair (.int .i64) (.pair (.int .i64) (.last (.int .i64)))))), (.dat (.vec 2 (.int .i64)))]
def F4_rk : List FK := [(.dat .bool)]
noncomputable def F4_s : List (Nat × LoopSum) := []
theorem F4_r (x) : runS tb t3 Try.f4 F4_ak F4_rk F4_s x = F4 x := by kernel_rfl
theorem F4_L : ∀ b, Try.f4.body = some b → LoopsOk Try.prog (cfgS tb t3 Try.f4 F4_ak F4_s) b := loops_all 0 (by kernel_rfl) (fun k hk => absurd hk (by omega))
theorem F4_c : SpecOk Try.prog 4 (specF F4_ak F4_rk F4) := specF_ok mixed (fn := Try.f4) (by kernel_rfl) (by kernel_rfl) (by kernel_rfl) tbOk t3_ok (by kernel_rfl) (by kernel_rfl) (by kernel_rfl) F4_L F4_r
noncomputable def t4 : Tbl := addT t3 4 (specF F4_ak F4_rk F4)
theorem t4_ok : TblOk Try.prog t4 := addT_ok t3_ok F4_c
end AM.T
