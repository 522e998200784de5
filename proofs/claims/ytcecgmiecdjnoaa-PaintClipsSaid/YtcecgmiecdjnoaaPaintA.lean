/- The sort of bands, laid at this program. -/
import Derived.Test.YtcecgmiecdjnoaaAmC
import Derived.Shelf.SlGeneric
import Derived.Test.YtcecgmiecdjnoaaProg
set_option linter.unusedVariables false
namespace Go.Proofs
open Go.Shelf Go.RowKit Go.Lib Go.Sort
def Try.sortB_ren : Go.Shelf.Ren := ⟨fun | 6 => 18 | 15 => 33 | 14 => 32 | 28 => 51 | 29 => 52 | 20 => 43 | 21 => 44 | 22 => 45 | 23 => 46 | 24 => 47 | 25 => 48 | 26 => 49 | 27 => 50 | 46 => 61 | 47 => 62 | 48 => 63 | 49 => 64 | 50 => 65 | 57 => 68 | n => n, fun | 22 => 22 | 24 => 54 | 25 => 59 | 3 => 3 | 39 => 81 | 0 => 0 | 53 => 98 | 55 => 100 | 4 => 4 | 46 => 92 | 45 => 91 | 50 => 76 | 5 => 5 | 9 => 9 | 66 => 112 | 70 => 116 | 76 => 120 | 77 => 60 | n => n, fun | n => n⟩
theorem Try.sortB : Go.Proofs.SlLaysF0.n6 Try.prog Try.sortB_ren := {
  mixed := by kernel_rfl,
  f6 := ⟨Try.f18.name, by decide, Try.func18.trans (congrArg some (by kernel_rfl))⟩,
  f14 := ⟨Try.f32.name, by decide, Try.func32.trans (congrArg some (by kernel_rfl))⟩,
  f15 := Try.func33.trans (congrArg some (by kernel_rfl)),
  f20 := ⟨Try.f43.name, by decide, Try.func43.trans (congrArg some (by kernel_rfl))⟩,
  f21 := ⟨Try.f44.name, by decide, Try.func44.trans (congrArg some (by kernel_rfl))⟩,
  f22 := ⟨Try.f45.name, by decide, Try.func45.trans (congrArg some (by kernel_rfl))⟩,
  f23 := ⟨Try.f46.name, by decide, Try.func46.trans (congrArg some (by kernel_rfl))⟩,
  f24 := ⟨Try.f47.name, by decide, Try.func47.trans (congrArg some (by kernel_rfl))⟩,
  f25 := ⟨Try.f48.name, by decide, Try.func48.trans (congrArg some (by kernel_rfl))⟩,
  f26 := ⟨Try.f49.name, by decide, Try.func49.trans (congrArg some (by kernel_rfl))⟩,
  f27 := ⟨Try.f50.name, by decide, Try.func50.trans (congrArg some (by kernel_rfl))⟩,
  f28 := Try.func51.trans (congrArg some (by kernel_rfl)),
  f29 := Try.func52.trans (congrArg some (by kernel_rfl)),
  f46 := ⟨Try.f61.name, by decide, Try.func61.trans (congrArg some (by kernel_rfl))⟩,
  f47 := Try.func62.trans (congrArg some (by kernel_rfl)),
  f48 := Try.func63.trans (congrArg some (by kernel_rfl)),
  f49 := ⟨Try.f64.name, by decide, Try.func64.trans (congrArg some (by kernel_rfl))⟩,
  f50 := ⟨Try.f65.name, by decide, Try.func65.trans (congrArg some (by kernel_rfl))⟩,
  f57 := ⟨Try.f68.name, by decide, Try.func68.trans (congrArg some (by kernel_rfl))⟩,
  t0 := Try.underlying0,
  a0 := Try.isAgg0,
  z0 := Try.sizeOf0,
  v0 := Try.zeroValue0,
  t3 := Try.underlying3,
  a3 := Try.isAgg3,
  z3 := Try.sizeOf3,
  v3 := Try.zeroValue3,
  t4 := Try.underlying4,
  a4 := Try.isAgg4,
  z4 := Try.sizeOf4,
  v4 := Try.zeroValue4,
  t5 := Try.underlying5,
  a5 := Try.isAgg5,
  z5 := Try.sizeOf5,
  v5 := Try.zeroValue5,
  t9 := Try.underlying9,
  a9 := Try.isAgg9,
  z9 := Try.sizeOf9,
  v9 := Try.zeroValue9,
  t22 := Try.underlying22,
  a22 := Try.isAgg22,
  z22 := Try.sizeOf22,
  v22 := Try.zeroValue22,
  t25 := Try.underlying59,
  a25 := Try.isAgg59,
  z25 := Try.sizeOf59,
  v25 := Try.zeroValue59,
  t39 := Try.underlying81,
  a39 := Try.isAgg81,
  z39 := Try.sizeOf81,
  v39 := Try.zeroValue81,
  t45 := Try.underlying91,
  a45 := Try.isAgg91,
  z45 := Try.sizeOf91,
  v45 := Try.zeroValue91,
  t46 := Try.underlying92,
  a46 := Try.isAgg92,
  z46 := Try.sizeOf92,
  v46 := Try.zeroValue92,
  t50 := Try.underlying76,
  a50 := Try.isAgg76,
  z50 := Try.sizeOf76,
  v50 := Try.zeroValue76,
  t53 := Try.underlying98,
  a53 := Try.isAgg98,
  z53 := Try.sizeOf98,
  v53 := Try.zeroValue98,
  t55 := Try.underlying100,
  a55 := Try.isAgg100,
  z55 := Try.sizeOf100,
  v55 := Try.zeroValue100,
  t66 := Try.underlying112,
  a66 := Try.isAgg112,
  z66 := Try.sizeOf112,
  v66 := Try.zeroValue112,
  t70 := Try.underlying116,
  a70 := Try.isAgg116,
  z70 := Try.sizeOf116,
  v70 := Try.zeroValue116,
  t76 := Try.underlying120,
  a76 := Try.isAgg120,
  z76 := Try.sizeOf120,
  v76 := Try.zeroValue120,
  t77 := Try.underlying60,
  a77 := Try.isAgg60,
  z77 := Try.sizeOf60,
  v77 := Try.zeroValue60 }

/-- Bands by page, top, end. -/
def Try.cfB (x y : Int × Int × Int) : Int := if (x.1 ≠ y.1 ∧ x.1 < y.1) ∨ (x.1 = y.1 ∧ x.2.1 < y.2.1) then -1 else if x = y then 0 else if x.1 = y.1 ∧ x.2.1 = y.2.1 then (if x.2.2 < y.2.2 then -1 else 1) else 1

theorem Try.closure19 (x y : Int × Int × Int) (W : World) : Calls Try.prog 19 #[.agg #[.int .i64 x.1, .int .i64 x.2.1, .int .i64 x.2.2], .agg #[.int .i64 y.1, .int .i64 y.2.1, .int .i64 y.2.2]] W fun e w' => e = .returned (.int .i64 (Try.cfB x y)) ∧ ∃ q os', w' = grow (W.drewN q) os' := by
  obtain ⟨x1, x2, x3⟩ := x
  obtain ⟨y1, y2, y3⟩ := y
  generalize hr : Try.cfB (x1, x2, x3) (y1, y2, y3) = r
  go_enter Try.func19, Try.ntmps19
  go_wp2
  all_goals go_ret
  all_goals refine ⟨?_, 0, _, by rw [alloc_eq_grow, alloc_eq_grow, grow_grow]; rfl⟩
  all_goals congr 2; rw [← hr]; unfold Try.cfB
  all_goals simp_all
  all_goals omega

theorem Try.ltB (x y : Int × Int × Int) : ltOf Try.cfB x y = decide (x.1 < y.1 ∨ (x.1 = y.1 ∧ (x.2.1 < y.2.1 ∨ (x.2.1 = y.2.1 ∧ x.2.2 < y.2.2)))) := by
  obtain ⟨x1, x2, x3⟩ := x
  obtain ⟨y1, y2, y3⟩ := y
  unfold ltOf Try.cfB
  simp only [Prod.mk.injEq]
  rw [decide_eq_decide]
  split
  · simp; omega
  · split
    · simp; omega
    · split
      · split
        · simp; omega
        · simp; omega
      · simp; omega
theorem Try.swoB : SWO (ltOf Try.cfB) where
  irrefl x := by rw [Try.ltB]; simp
  trans x y z h1 h2 := by rw [Try.ltB] at *; simp at *; omega
  ntrans x y z h1 h2 := by rw [Try.ltB] at *; simp at *; omega
theorem Try.totB (x y : Int × Int × Int) (h1 : ltOf Try.cfB x y = false) (h2 : ltOf Try.cfB y x = false) : x = y := by
  rw [Try.ltB] at h1 h2
  obtain ⟨x1, x2, x3⟩ := x
  obtain ⟨y1, y2, y3⟩ := y
  simp at h1 h2
  simp only [Prod.mk.injEq]
  omega
end Go.Proofs

namespace AM.T
open Go AM Go.Proofs Go.Sort
abbrev TBand : Ty := .pair (.int .i64) (.pair (.int .i64) (.last (.int .i64)))
def sortB (l : List (Int × Int × Int)) : List (Int × Int × Int) := l.mergeSort fun x y => !(ltOf Try.cfB) y x
theorem sort_c : SpecOk Try.prog 18 (specSort 54 TBand 19 sortB) := by
  haveI : Inhabited (Ty.T TBand) := ⟨((0 : Int), (0 : Int), (0 : Int))⟩
  refine specSort_ok rfl (by decide) (enters_of Try.func18 (by kernel_rfl) rfl) (fun l => by simp [sortB]) (fun p cap fv w => AnyF.slices_SortFunc_none (P := Try.prog) (ρ := Try.sortB_ren) { Try.sortB with } p cap fv w) (fun blk cap d w hH hblk hsz => ?_)
  exact AnyQ.slices_SortFunc_total Try.sortB 3 Try.isAgg54 Try.sizeOf54 (encU TBand) (fun x => encU_len TBand rfl x) (fun x v hv => encU_one TBand rfl x v hv) Try.cfB Try.swoB 19 #[] blk 0 cap d w (enters_of Try.func19 (by kernel_rfl) rfl) (fun _ _ _ _ x y => Try.closure19 x y _) hH hblk hsz Try.totB
end AM.T
namespace AM.T
open Go AM Go.Proofs
def tb : Tab := [⟨1, .other, 1, 8, none, [.junk], false⟩,
 ⟨2, .int .i64, 1, 8, some (.int .i64), [.int .i64 0], false⟩,
 ⟨3, .int .i64, 1, 8, some (.int .i64), [.int .i64 0], false⟩,
 ⟨4, .bool, 1, 1, some .bool, [.bool false], false⟩,
 ⟨5, .int .u8, 1, 1, some (.int .u8), [.int .u8 0], false⟩,
 ⟨6, .int .u8, 1, 1, some (.int .u8), [.int .u8 0], false⟩,
 ⟨7, .struct [(0, 2), (1, 3), (2, 4), (3, 6)], 4, 24, some (.pair (.int .i64) (.pair (.int .i64) (.pair .bool (.last (.int .u8))))), [.int .i64 0, .int .i64 0, .bool false, .int .u8 0], true⟩,
 ⟨9, .str, 1, 16, some .str, [.str ByteArray.empty], false⟩,
 ⟨15, .ptr 131, 1, 8, none, [.nilp], false⟩,
 ⟨16, .ptr 134, 1, 8, none, [.nilp], false⟩,
 ⟨17, .ptr 142, 1, 8, none, [.nilp], false⟩,
 ⟨18, .struct [(0, 17)], 1, 8, none, [.nilp], false⟩,
 ⟨19, .struct [(0, 17)], 1, 8, none, [.nilp], false⟩,
 ⟨21, .int .i32, 1, 4, some (.int .i32), [.int .i32 0], false⟩,
 ⟨22, .slice 54, 1, 24, some (.slice (.pair (.int .i64) (.pair (.int .i64) (.last (.int .i64))))), [.nils], false⟩,
 ⟨23, .other, 1, 8, none, [.junk], false⟩,
 ⟨24, .slice 55, 1, 24, some (.slice (.pair (.int .i64) (.pair (.int .i64) (.last (.int .i64))))), [.nils], false⟩,
 ⟨25, .other, 1, 8, none, [.junk], false⟩,
 ⟨26, .other, 1, 8, none, [.junk], false⟩,
 ⟨27, .other, 1, 8, none, [.junk], false⟩,
 ⟨28, .other, 1, 8, none, [.junk], false⟩,
 ⟨29, .other, 1, 8, none, [.junk], false⟩,
 ⟨30, .array 2 3, 2, 16, some (.vec 2 (.int .i64)), [.int .i64 0, .int .i64 0], false⟩,
 ⟨31, .other, 1, 8, none, [.junk], false⟩,
 ⟨32, .other, 1, 8, none, [.junk], false⟩,
 ⟨33, .ptr 84, 1, 8, some (.ref (.last (.slice (.pair (.int .i64) (.pair (.int .i64) (.pair (.int .i64) (.pair (.int .i64) (.pair (.int .i64) (.pair (.int .i64) (.pair (.slice (.pair (.int .i64) (.pair (.int .i64) (.last (.int .i64))))) (.last .bool))))))))))), [.nilp], false⟩,
 ⟨34, .other, 1, 8, none, [.junk], false⟩,
 ⟨35, .slice 104, 1, 24, some (.slice (.pair (.int .i64) (.pair (.int .i64) (.last (.int .i64))))), [.nils], false⟩,
 ⟨36, .struct [(0, 3), (1, 3), (2, 3), (3, 3), (4, 3), (5, 3), (6, 35), (7, 4)], 8, 80, some (.pair (.int .i64) (.pair (.int .i64) (.pair (.int .i64) (.pair (.int .i64) (.pair (.int .i64) (.pair (.int .i64) (.pair (.slice (.pair (.int .i64) (.pair (.int .i64) (.last (.int .i64))))) (.last .bool)))))))), [.int .i64 0, .int .i64 0, .int .i64 0, .int .i64 0, .int .i64 0, .int .i64 0, .nils, .bool false], false⟩,
 ⟨37, .struct [(0, 3), (1, 3), (2, 3), (3, 3), (4, 3), (5, 3), (6, 35), (7, 4)], 8, 80, some (.pair (.int .i64) (.pair (.int .i64) (.pair (.int .i64) (.pair (.int .i64) (.pair (.int .i64) (.pair (.int .i64) (.pair (.slice (.pair (.int .i64) (.pair (.int .i64) (.last (.int .i64))))) (.last .bool)))))))), [.int .i64 0, .int .i64 0, .int .i64 0, .int .i64 0, .int .i64 0, .int .i64 0, .nils, .bool false], false⟩,
 ⟨38, .slice 37, 1, 24, some (.slice (.pair (.int .i64) (.pair (.int .i64) (.pair (.int .i64) (.pair (.int .i64) (.pair (.int .i64) (.pair (.int .i64) (.pair (.slice (.pair (.int .i64) (.pair (.int .i64) (.last (.int .i64))))) (.last .bool))))))))), [.nils], false⟩,
 ⟨39, .slice 52, 1, 24, some (.slice (.pair (.int .i64) (.pair (.int .i64) (.pair (.int .i64) (.pair .str (.last (.int .i64))))))), [.nils], false⟩,
 ⟨40, .other, 1, 8, none, [.junk], false⟩,
 ⟨41, .struct [(0, 3), (1, 3)], 2, 16, some (.pair (.int .i64) (.last (.int .i64))), [.int .i64 0, .int .i64 0], true⟩,
 ⟨42, .struct [(0, 3), (1, 3)], 2, 16, some (.pair (.int .i64) (.last (.int .i64))), [.int .i64 0, .int .i64 0], true⟩,
 ⟨43, .slice 42, 1, 24, some (.slice (.pair (.int .i64) (.last (.int .i64)))), [.nils], false⟩,
 ⟨44, .struct [(0, 9), (1, 43), (2, 3), (3, 3), (4, 3), (5, 4), (6, 3), (7, 4), (8, 4)], 9, 88, some (.pair .str (.pair (.slice (.pair (.int .i64) (.last (.int .i64)))) (.pair (.int .i64) (.pair (.int .i64) (.pair (.int .i64) (.pair .bool (.pair (.int .i64) (.pair .bool (.last .bool))))))))), [.str ByteArray.empty, .nils, .int .i64 0, .int .i64 0, .int .i64 0, .bool false, .int .i64 0, .bool false, .bool false], false⟩,
 ⟨45, .struct [(0, 9), (1, 43), (2, 3), (3, 3), (4, 3), (5, 4), (6, 3), (7, 4), (8, 4)], 9, 88, some (.pair .str (.pair (.slice (.pair (.int .i64) (.last (.int .i64)))) (.pair (.int .i64) (.pair (.int .i64) (.pair (.int .i64) (.pair .bool (.pair (.int .i64) (.pair .bool (.last .bool))))))))), [.str ByteArray.empty, .nils, .int .i64 0, .int .i64 0, .int .i64 0, .bool false, .int .i64 0, .bool false, .bool false], false⟩,
 ⟨46, .struct [(0, 3), (1, 3), (2, 3)], 3, 24, some (.pair (.int .i64) (.pair (.int .i64) (.last (.int .i64)))), [.int .i64 0, .int .i64 0, .int .i64 0], true⟩,
 ⟨47, .struct [(0, 3), (1, 3), (2, 3)], 3, 24, some (.pair (.int .i64) (.pair (.int .i64) (.last (.int .i64)))), [.int .i64 0, .int .i64 0, .int .i64 0], true⟩,
 ⟨48, .other, 1, 8, none, [.junk], false⟩,
 ⟨50, .other, 1, 8, none, [.junk], false⟩,
 ⟨51, .struct [(0, 3), (1, 3), (2, 3), (3, 9), (4, 3)], 5, 48, some (.pair (.int .i64) (.pair (.int .i64) (.pair (.int .i64) (.pair .str (.last (.int .i64)))))), [.int .i64 0, .int .i64 0, .int .i64 0, .str ByteArray.empty, .int .i64 0], true⟩,
 ⟨52, .struct [(0, 3), (1, 3), (2, 3), (3, 9), (4, 3)], 5, 48, some (.pair (.int .i64) (.pair (.int .i64) (.pair (.int .i64) (.pair .str (.last (.int .i64)))))), [.int .i64 0, .int .i64 0, .int .i64 0, .str ByteArray.empty, .int .i64 0], true⟩,
 ⟨53, .struct [(0, 3), (1, 3), (2, 3)], 3, 24, some (.pair (.int .i64) (.pair (.int .i64) (.last (.int .i64)))), [.int .i64 0, .int .i64 0, .int .i64 0], true⟩,
 ⟨54, .struct [(0, 3), (1, 3), (2, 3)], 3, 24, some (.pair (.int .i64) (.pair (.int .i64) (.last (.int .i64)))), [.int .i64 0, .int .i64 0, .int .i64 0], true⟩,
 ⟨55, .struct [(0, 3), (1, 3), (2, 3)], 3, 24, some (.pair (.int .i64) (.pair (.int .i64) (.last (.int .i64)))), [.int .i64 0, .int .i64 0, .int .i64 0], true⟩,
 ⟨56, .other, 1, 8, none, [.junk], false⟩,
 ⟨57, .other, 1, 8, none, [.junk], false⟩,
 ⟨58, .other, 1, 8, none, [.junk], false⟩,
 ⟨59, .other, 1, 8, none, [.junk], false⟩,
 ⟨61, .other, 1, 8, none, [.junk], false⟩,
 ⟨62, .int .i64, 1, 8, some (.int .i64), [.int .i64 0], false⟩,
 ⟨64, .other, 1, 8, none, [.junk], false⟩,
 ⟨65, .slice 68, 1, 24, some (.slice (.pair (.int .i64) (.last (.int .i64)))), [.nils], false⟩,
 ⟨66, .other, 1, 8, none, [.junk], false⟩,
 ⟨67, .struct [(0, 3), (1, 3)], 2, 16, some (.pair (.int .i64) (.last (.int .i64))), [.int .i64 0, .int .i64 0], true⟩,
 ⟨68, .struct [(0, 3), (1, 3)], 2, 16, some (.pair (.int .i64) (.last (.int .i64))), [.int .i64 0, .int .i64 0], true⟩,
 ⟨69, .other, 1, 8, none, [.junk], false⟩,
 ⟨70, .other, 1, 8, none, [.junk], false⟩,
 ⟨71, .other, 1, 8, none, [.junk], false⟩,
 ⟨72, .other, 1, 8, none, [.junk], false⟩,
 ⟨73, .other, 1, 8, none, [.junk], false⟩,
 ⟨74, .other, 1, 8, none, [.junk], false⟩,
 ⟨75, .other, 1, 8, none, [.junk], false⟩,
 ⟨77, .other, 1, 8, none, [.junk], false⟩,
 ⟨78, .other, 1, 8, none, [.junk], false⟩,
 ⟨79, .other, 1, 8, none, [.junk], false⟩,
 ⟨80, .other, 1, 8, none, [.junk], false⟩,
 ⟨81, .int .u64, 1, 8, some (.int .u64), [.int .u64 0], false⟩,
 ⟨82, .other, 1, 8, none, [.junk], false⟩,
 ⟨83, .struct [(0, 38)], 1, 24, some (.last (.slice (.pair (.int .i64) (.pair (.int .i64) (.pair (.int .i64) (.pair (.int .i64) (.pair (.int .i64) (.pair (.int .i64) (.pair (.slice (.pair (.int .i64) (.pair (.int .i64) (.last (.int .i64))))) (.last .bool)))))))))), [.nils], false⟩,
 ⟨84, .struct [(0, 38)], 1, 24, some (.last (.slice (.pair (.int .i64) (.pair (.int .i64) (.pair (.int .i64) (.pair (.int .i64) (.pair (.int .i64) (.pair (.int .i64) (.pair (.slice (.pair (.int .i64) (.pair (.int .i64) (.last (.int .i64))))) (.last .bool)))))))))), [.nils], false⟩,
 ⟨85, .other, 1, 8, none, [.junk], false⟩,
 ⟨86, .other, 1, 8, none, [.junk], false⟩,
 ⟨87, .other, 1, 8, none, [.junk], false⟩,
 ⟨88, .other, 1, 8, none, [.junk], false⟩,
 ⟨89, .other, 1, 8, none, [.junk], false⟩,
 ⟨90, .other, 1, 8, none, [.junk], false⟩,
 ⟨91, .int .i64, 1, 8, some (.int .i64), [.int .i64 0], false⟩,
 ⟨93, .other, 1, 8, none, [.junk], false⟩,
 ⟨94, .other, 1, 8, none, [.junk], false⟩,
 ⟨95, .other, 1, 8, none, [.junk], false⟩,
 ⟨96, .other, 1, 8, none, [.junk], false⟩,
 ⟨97, .other, 1, 8, none, [.junk], false⟩,
 ⟨98, .int .u32, 1, 4, some (.int .u32), [.int .u32 0], false⟩,
 ⟨99, .other, 1, 8, none, [.junk], false⟩,
 ⟨100, .int .u64, 1, 8, some (.int .u64), [.int .u64 0], false⟩,
 ⟨101, .slice 3, 1, 24, some (.slice (.int .i64)), [.nils], false⟩,
 ⟨102, .other, 1, 8, none, [.junk], false⟩,
 ⟨103, .struct [(0, 3), (1, 3), (2, 3)], 3, 24, some (.pair (.int .i64) (.pair (.int .i64) (.last (.int .i64)))), [.int .i64 0, .int .i64 0, .int .i64 0], true⟩,
 ⟨104, .struct [(0, 3), (1, 3), (2, 3)], 3, 24, some (.pair (.int .i64) (.pair (.int .i64) (.last (.int .i64)))), [.int .i64 0, .int .i64 0, .int .i64 0], true⟩,
 ⟨106, .other, 1, 8, none, [.junk], false⟩,
 ⟨107, .other, 1, 8, none, [.junk], false⟩,
 ⟨109, .other, 1, 8, none, [.junk], false⟩,
 ⟨110, .other, 1, 8, none, [.junk], false⟩,
 ⟨111, .other, 1, 8, none, [.junk], false⟩,
 ⟨112, .int .u64, 1, 8, some (.int .u64), [.int .u64 0], false⟩,
 ⟨113, .other, 1, 8, none, [.junk], false⟩,
 ⟨114, .other, 1, 8, none, [.junk], false⟩,
 ⟨115, .other, 1, 8, none, [.junk], false⟩,
 ⟨116, .ptr 3, 1, 8, none, [.nilp], false⟩,
 ⟨117, .other, 1, 8, none, [.junk], false⟩,
 ⟨118, .other, 1, 8, none, [.junk], false⟩,
 ⟨119, .other, 1, 8, none, [.junk], false⟩,
 ⟨120, .ptr 112, 1, 8, none, [.nilp], false⟩,
 ⟨121, .other, 1, 8, none, [.junk], false⟩,
 ⟨123, .other, 1, 8, none, [.junk], false⟩,
 ⟨124, .other, 1, 8, none, [.junk], false⟩,
 ⟨125, .other, 1, 8, none, [.junk], false⟩,
 ⟨126, .other, 1, 8, none, [.junk], false⟩,
 ⟨129, .other, 1, 8, none, [.junk], false⟩,
 ⟨130, .struct [(0, 17), (1, 17), (2, 17), (3, 9)], 4, 40, none, [.nilp, .nilp, .nilp, .str ByteArray.empty], false⟩,
 ⟨135, .int .u8, 1, 1, some (.int .u8), [.int .u8 0], false⟩,
 ⟨136, .int .u8, 1, 1, some (.int .u8), [.int .u8 0], false⟩,
 ⟨137, .other, 1, 8, none, [.junk], false⟩,
 ⟨138, .ptr 5, 1, 8, none, [.nilp], false⟩,
 ⟨139, .int .i32, 1, 4, some (.int .i32), [.int .i32 0], false⟩,
 ⟨140, .int .i32, 1, 4, some (.int .i32), [.int .i32 0], false⟩,
 ⟨142, .struct [(0, 12), (1, 12), (2, 98), (3, 135), (4, 5), (5, 5), (6, 136), (7, 137), (8, 138), (9, 139), (10, 140)], 11, 48, none, [.int .u64 0, .int .u64 0, .int .u32 0, .int .u8 0, .int .u8 0, .int .u8 0, .int .u8 0, .junk, .nilp, .int .i32 0, .int .i32 0], false⟩]
theorem tbOk : tabB Try.prog tb = true := by kernel_rfl
theorem mixed : Try.prog.follows .mixedOrders = true := by kernel_rfl
end AM.T
namespace AM.T.A
open Go AM Go.Proofs AM.T
def t0 : Tbl := fun _ => none
theorem t0_ok : TblOk Try.prog t0 := fun _ _ h => by cases h
-- reglet/regletref04.fits
noncomputable def t53 : Tbl := addT t0 53 (specRun tb t0 Try.f53 [(.int .i64), (.int .i64)] [.dat .bool])
theorem t53_ok : TblOk Try.prog t53 := addT_ok t0_ok (specRun_ok mixed (fn := Try.f53) (by kernel_rfl) (by kernel_rfl) (by kernel_rfl) tbOk t0_ok (by kernel_rfl) (by kernel_rfl))
-- reglet/regletref04.Style
noncomputable def t34 : Tbl := addT t53 34 (specRun tb t53 Try.f34 [(.pair (.int .i64) (.pair (.int .i64) (.pair (.int .i64) (.pair (.int .i64) (.pair (.int .i64) (.pair (.int .i64) (.pair (.slice (.pair (.int .i64) (.pair (.int .i64) (.last (.int .i64))))) (.last .bool))))))))] [.dat (.int .i64)])
theorem t34_ok : TblOk Try.prog t34 := addT_ok t53_ok (specRun_ok mixed (fn := Try.f34) (by kernel_rfl) (by kernel_rfl) (by kernel_rfl) tbOk t53_ok (by kernel_rfl) (by kernel_rfl))
-- reglet/regletref04.Check
noncomputable def t20 : Tbl := addT t34 20 (specRun tb t34 Try.f20 [(.slice (.pair (.int .i64) (.pair (.int .i64) (.pair (.int .i64) (.pair (.int .i64) (.pair (.int .i64) (.pair (.int .i64) (.pair (.slice (.pair (.int .i64) (.pair (.int .i64) (.last (.int .i64))))) (.last .bool)))))))))] [.dat (.int .i64), .dat (.int .i64)])
theorem t20_ok : TblOk Try.prog t20 := addT_ok t34_ok (specRun_ok mixed (fn := Try.f20) (by kernel_rfl) (by kernel_rfl) (by kernel_rfl) tbOk t34_ok (by kernel_rfl) (by kernel_rfl))
-- reglet/metrics.unit
noncomputable def t54 : Tbl := addT t20 54 (specRun tb t20 Try.f54 [(.int .i64), (.int .i64)] [.dat .bool])
theorem t54_ok : TblOk Try.prog t54 := addT_ok t20_ok (specRun_ok mixed (fn := Try.f54) (by kernel_rfl) (by kernel_rfl) (by kernel_rfl) tbOk t20_ok (by kernel_rfl) (by kernel_rfl))
-- reglet/metrics.check
noncomputable def t35 : Tbl := addT t54 35 (specRun tb t54 Try.f35 [(.pair (.int .i64) (.pair (.int .i64) (.pair (.int .i64) (.pair (.int .i64) (.pair (.int .i64) (.pair (.int .i64) (.pair (.slice (.pair (.int .i64) (.pair (.int .i64) (.last (.int .i64))))) (.last .bool))))))))] [.dat (.int .i64)])
theorem t35_ok : TblOk Try.prog t35 := addT_ok t54_ok (specRun_ok mixed (fn := Try.f35) (by kernel_rfl) (by kernel_rfl) (by kernel_rfl) tbOk t54_ok (by kernel_rfl) (by kernel_rfl))
-- reglet/metrics.New
noncomputable def t21 : Tbl := addT t35 21 (specRun tb t35 Try.f21 [(.slice (.pair (.int .i64) (.pair (.int .i64) (.pair (.int .i64) (.pair (.int .i64) (.pair (.int .i64) (.pair (.int .i64) (.pair (.slice (.pair (.int .i64) (.pair (.int .i64) (.last (.int .i64))))) (.last .bool)))))))))] [.dat (.ref (.last (.slice (.pair (.int .i64) (.pair (.int .i64) (.pair (.int .i64) (.pair (.int .i64) (.pair (.int .i64) (.pair (.int .i64) (.pair (.slice (.pair (.int .i64) (.pair (.int .i64) (.last (.int .i64))))) (.last .bool))))))))))), .dat (.int .i64), .dat (.int .i64)])
theorem t21_ok : TblOk Try.prog t21 := addT_ok t35_ok (specRun_ok mixed (fn := Try.f21) (by kernel_rfl) (by kernel_rfl) (by kernel_rfl) tbOk t35_ok (by kernel_rfl) (by kernel_rfl))
-- reglet/regletlaw21.table
noncomputable def t11 : Tbl := addT t21 11 (specRun tb t21 Try.f11 [(.slice (.pair (.int .i64) (.pair (.int .i64) (.pair (.int .i64) (.pair (.int .i64) (.pair (.int .i64) (.pair (.int .i64) (.pair (.slice (.pair (.int .i64) (.pair (.int .i64) (.last (.int .i64))))) (.last .bool)))))))))] [.dat (.ref (.last (.slice (.pair (.int .i64) (.pair (.int .i64) (.pair (.int .i64) (.pair (.int .i64) (.pair (.int .i64) (.pair (.int .i64) (.pair (.slice (.pair (.int .i64) (.pair (.int .i64) (.last (.int .i64))))) (.last .bool)))))))))))])
theorem t11_ok : TblOk Try.prog t11 := addT_ok t21_ok (specRun_ok mixed (fn := Try.f11) (by kernel_rfl) (by kernel_rfl) (by kernel_rfl) tbOk t21_ok (by kernel_rfl) (by kernel_rfl))
-- reglet/runes.Kind
noncomputable def t24 : Tbl := addT t11 24 (specRun tb t11 Try.f24 [(.int .i32)] [.dat (.int .i64)])
theorem t24_ok : TblOk Try.prog t24 := addT_ok t11_ok (specRun_ok mixed (fn := Try.f24) (by kernel_rfl) (by kernel_rfl) (by kernel_rfl) tbOk t11_ok (by kernel_rfl) (by kernel_rfl))
-- reglet/runes.size
noncomputable def t66 : Tbl := addT t24 66 (specRun tb t24 Try.f66 [.str, (.int .i64)] [.dat (.int .i64)])
theorem t66_ok : TblOk Try.prog t66 := addT_ok t24_ok (specRun_ok mixed (fn := Try.f66) (by kernel_rfl) (by kernel_rfl) (by kernel_rfl) tbOk t24_ok (by kernel_rfl) (by kernel_rfl))
-- reglet/runes.First
noncomputable def t55 : Tbl := addT t66 55 (specRun tb t66 Try.f55 [.str] [.dat (.int .i32), .dat (.int .i64)])
theorem t55_ok : TblOk Try.prog t55 := addT_ok t66_ok (specRun_ok mixed (fn := Try.f55) (by kernel_rfl) (by kernel_rfl) (by kernel_rfl) tbOk t66_ok (by kernel_rfl) (by kernel_rfl))
-- reglet/locate.shown
noncomputable def t36 : Tbl := addT t55 36 (specRun tb t55 Try.f36 [.str] [.dat (.int .i64)])
theorem t36_ok : TblOk Try.prog t36 := addT_ok t55_ok (specRun_ok mixed (fn := Try.f36) (by kernel_rfl) (by kernel_rfl) (by kernel_rfl) tbOk t55_ok (by kernel_rfl) (by kernel_rfl))
-- reglet/locate.styleAt
noncomputable def t37 : Tbl := addT t36 37 (specRun tb t36 Try.f37 [(.slice (.pair (.int .i64) (.last (.int .i64)))), (.int .i64)] [.dat (.int .i64)])
theorem t37_ok : TblOk Try.prog t37 := addT_ok t36_ok (specRun_ok mixed (fn := Try.f37) (by kernel_rfl) (by kernel_rfl) (by kernel_rfl) tbOk t36_ok (by kernel_rfl) (by kernel_rfl))
-- reglet/scaled.Clamp
noncomputable def t56 : Tbl := addT t37 56 (specRun tb t37 Try.f56 [(.int .i64)] [.dat (.int .i64)])
theorem t56_ok : TblOk Try.prog t56 := addT_ok t37_ok (specRun_ok mixed (fn := Try.f56) (by kernel_rfl) (by kernel_rfl) (by kernel_rfl) tbOk t37_ok (by kernel_rfl) (by kernel_rfl))
-- reglet/scaled.Add
noncomputable def t38 : Tbl := addT t56 38 (specRun tb t56 Try.f38 [(.int .i64), (.int .i64)] [.dat (.int .i64)])
theorem t38_ok : TblOk Try.prog t38 := addT_ok t56_ok (specRun_ok mixed (fn := Try.f38) (by kernel_rfl) (by kernel_rfl) (by kernel_rfl) tbOk t56_ok (by kernel_rfl) (by kernel_rfl))
-- (*reglet/metrics.Table).Check
noncomputable def t60 : Tbl := addT t38 60 (specRun tb t38 Try.f60 [(.ref (.last (.slice (.pair (.int .i64) (.pair (.int .i64) (.pair (.int .i64) (.pair (.int .i64) (.pair (.int .i64) (.pair (.int .i64) (.pair (.slice (.pair (.int .i64) (.pair (.int .i64) (.last (.int .i64))))) (.last .bool))))))))))), (.int .i64)] [.dat (.int .i64)])
theorem t60_ok : TblOk Try.prog t60 := addT_ok t38_ok (specRun_ok mixed (fn := Try.f60) (by kernel_rfl) (by kernel_rfl) (by kernel_rfl) tbOk t38_ok (by kernel_rfl) (by kernel_rfl))
-- (*reglet/metrics.Table).of
noncomputable def t42 : Tbl := addT t60 42 (specRun tb t60 Try.f42 [(.ref (.last (.slice (.pair (.int .i64) (.pair (.int .i64) (.pair (.int .i64) (.pair (.int .i64) (.pair (.int .i64) (.pair (.int .i64) (.pair (.slice (.pair (.int .i64) (.pair (.int .i64) (.last (.int .i64))))) (.last .bool))))))))))), (.int .i64)] [.dat (.pair (.int .i64) (.pair (.int .i64) (.pair (.int .i64) (.pair (.int .i64) (.pair (.int .i64) (.pair (.int .i64) (.pair (.slice (.pair (.int .i64) (.pair (.int .i64) (.last (.int .i64))))) (.last .bool))))))))])
theorem t42_ok : TblOk Try.prog t42 := addT_ok t60_ok (specRun_ok mixed (fn := Try.f42) (by kernel_rfl) (by kernel_rfl) (by kernel_rfl) tbOk t60_ok (by kernel_rfl) (by kernel_rfl))
-- reglet/metrics.lookup
noncomputable def t57 : Tbl := addT t42 57 (specRun tb t42 Try.f57 [(.pair (.int .i64) (.pair (.int .i64) (.pair (.int .i64) (.pair (.int .i64) (.pair (.int .i64) (.pair (.int .i64) (.pair (.slice (.pair (.int .i64) (.pair (.int .i64) (.last (.int .i64))))) (.last .bool)))))))), (.int .i64)] [.dat (.int .i64)])
theorem t57_ok : TblOk Try.prog t57 := addT_ok t42_ok (specRun_ok mixed (fn := Try.f57) (by kernel_rfl) (by kernel_rfl) (by kernel_rfl) tbOk t42_ok (by kernel_rfl) (by kernel_rfl))
-- (*reglet/metrics.Table).Width
noncomputable def t39 : Tbl := addT t57 39 (specRun tb t57 Try.f39 [(.ref (.last (.slice (.pair (.int .i64) (.pair (.int .i64) (.pair (.int .i64) (.pair (.int .i64) (.pair (.int .i64) (.pair (.int .i64) (.pair (.slice (.pair (.int .i64) (.pair (.int .i64) (.last (.int .i64))))) (.last .bool))))))))))), (.int .i64), (.int .i32)] [.dat (.int .i64)])
theorem t39_ok : TblOk Try.prog t39 := addT_ok t57_ok (specRun_ok mixed (fn := Try.f39) (by kernel_rfl) (by kernel_rfl) (by kernel_rfl) tbOk t57_ok (by kernel_rfl) (by kernel_rfl))
-- (*reglet/metrics.Table).Space
noncomputable def t58 : Tbl := addT t39 58 (specRun tb t39 Try.f58 [(.ref (.last (.slice (.pair (.int .i64) (.pair (.int .i64) (.pair (.int .i64) (.pair (.int .i64) (.pair (.int .i64) (.pair (.int .i64) (.pair (.slice (.pair (.int .i64) (.pair (.int .i64) (.last (.int .i64))))) (.last .bool))))))))))), (.int .i64)] [.dat (.int .i64), .dat (.int .i64), .dat (.int .i64)])
theorem t58_ok : TblOk Try.prog t58 := addT_ok t39_ok (specRun_ok mixed (fn := Try.f58) (by kernel_rfl) (by kernel_rfl) (by kernel_rfl) tbOk t39_ok (by kernel_rfl) (by kernel_rfl))
-- math/bits.Mul64
noncomputable def t69 : Tbl := addT t58 69 (specRun tb t58 Try.f69 [(.int .u64), (.int .u64)] [.dat (.int .u64), .dat (.int .u64)])
theorem t69_ok : TblOk Try.prog t69 := addT_ok t58_ok (specRun_ok mixed (fn := Try.f69) (by kernel_rfl) (by kernel_rfl) (by kernel_rfl) tbOk t58_ok (by kernel_rfl) (by kernel_rfl))
-- reglet/scaled.size
noncomputable def t70 : Tbl := addT t69 70 (specRun tb t69 Try.f70 [(.int .i64)] [.dat (.int .u64)])
theorem t70_ok : TblOk Try.prog t70 := addT_ok t69_ok (specRun_ok mixed (fn := Try.f70) (by kernel_rfl) (by kernel_rfl) (by kernel_rfl) tbOk t69_ok (by kernel_rfl) (by kernel_rfl))
-- reglet/scaled.signed
noncomputable def t71 : Tbl := addT t70 71 (specRun tb t70 Try.f71 [.bool, (.int .u64), (.int .u64)] [.dat (.int .i64)])
theorem t71_ok : TblOk Try.prog t71 := addT_ok t70_ok (specRun_ok mixed (fn := Try.f71) (by kernel_rfl) (by kernel_rfl) (by kernel_rfl) tbOk t70_ok (by kernel_rfl) (by kernel_rfl))
-- math/bits.Len64
noncomputable def t52 : Tbl := addT t71 52 (specRun tb t71 Try.f52 [(.int .u64)] [.dat (.int .i64)])
theorem t52_ok : TblOk Try.prog t52 := addT_ok t71_ok (specRun_ok mixed (fn := Try.f52) (by kernel_rfl) (by kernel_rfl) (by kernel_rfl) tbOk t71_ok (by kernel_rfl) (by kernel_rfl))
-- math/bits.LeadingZeros64
noncomputable def t73 : Tbl := addT t52 73 (specRun tb t52 Try.f73 [(.int .u64)] [.dat (.int .i64)])
theorem t73_ok : TblOk Try.prog t73 := addT_ok t52_ok (specRun_ok mixed (fn := Try.f73) (by kernel_rfl) (by kernel_rfl) (by kernel_rfl) tbOk t52_ok (by kernel_rfl) (by kernel_rfl))
-- math/bits.Div64
noncomputable def t72 : Tbl := addT t73 72 (specRun tb t73 Try.f72 [(.int .u64), (.int .u64), (.int .u64)] [.dat (.int .u64), .dat (.int .u64)])
theorem t72_ok : TblOk Try.prog t72 := addT_ok t73_ok (specRun_ok mixed (fn := Try.f72) (by kernel_rfl) (by kernel_rfl) (by kernel_rfl) tbOk t73_ok (by kernel_rfl) (by kernel_rfl))
-- reglet/scaled.MulDiv
noncomputable def t67 : Tbl := addT t72 67 (specRun tb t72 Try.f67 [(.int .i64), (.int .i64), (.int .i64)] [.dat (.int .i64), .dat .bool])
theorem t67_ok : TblOk Try.prog t67 := addT_ok t72_ok (specRun_ok mixed (fn := Try.f67) (by kernel_rfl) (by kernel_rfl) (by kernel_rfl) tbOk t72_ok (by kernel_rfl) (by kernel_rfl))
-- reglet/scaled.Scale
noncomputable def t59 : Tbl := addT t67 59 (specRun tb t67 Try.f59 [(.int .i64), (.int .i64), (.int .i64)] [.dat (.int .i64)])
theorem t59_ok : TblOk Try.prog t59 := addT_ok t67_ok (specRun_ok mixed (fn := Try.f59) (by kernel_rfl) (by kernel_rfl) (by kernel_rfl) tbOk t67_ok (by kernel_rfl) (by kernel_rfl))
-- reglet/locate.space
noncomputable def t40 : Tbl := addT t59 40 (specRun tb t59 Try.f40 [(.ref (.last (.slice (.pair (.int .i64) (.pair (.int .i64) (.pair (.int .i64) (.pair (.int .i64) (.pair (.int .i64) (.pair (.int .i64) (.pair (.slice (.pair (.int .i64) (.pair (.int .i64) (.last (.int .i64))))) (.last .bool))))))))))), (.pair .str (.pair (.slice (.pair (.int .i64) (.last (.int .i64)))) (.pair (.int .i64) (.pair (.int .i64) (.pair (.int .i64) (.pair .bool (.pair (.int .i64) (.pair .bool (.last .bool))))))))), (.int .i64)] [.dat (.int .i64)])
theorem t40_ok : TblOk Try.prog t40 := addT_ok t59_ok (specRun_ok mixed (fn := Try.f40) (by kernel_rfl) (by kernel_rfl) (by kernel_rfl) tbOk t59_ok (by kernel_rfl) (by kernel_rfl))
-- reglet/locate.Stops
noncomputable def t22 : Tbl := addT t40 22 (specRun tb t40 Try.f22 [(.ref (.last (.slice (.pair (.int .i64) (.pair (.int .i64) (.pair (.int .i64) (.pair (.int .i64) (.pair (.int .i64) (.pair (.int .i64) (.pair (.slice (.pair (.int .i64) (.pair (.int .i64) (.last (.int .i64))))) (.last .bool))))))))))), (.pair .str (.pair (.slice (.pair (.int .i64) (.last (.int .i64)))) (.pair (.int .i64) (.pair (.int .i64) (.pair (.int .i64) (.pair .bool (.pair (.int .i64) (.pair .bool (.last .bool)))))))))] [.dat (.slice (.pair (.int .i64) (.last (.int .i64))))])
theorem t22_ok : TblOk Try.prog t22 := addT_ok t40_ok (specRun_ok mixed (fn := Try.f22) (by kernel_rfl) (by kernel_rfl) (by kernel_rfl) tbOk t40_ok (by kernel_rfl) (by kernel_rfl))
-- reglet/paint.drawn
noncomputable def t23 : Tbl := addT t22 23 (specRun tb t22 Try.f23 [(.int .i32)] [.dat .bool])
theorem t23_ok : TblOk Try.prog t23 := addT_ok t22_ok (specRun_ok mixed (fn := Try.f23) (by kernel_rfl) (by kernel_rfl) (by kernel_rfl) tbOk t22_ok (by kernel_rfl) (by kernel_rfl))
-- reglet/paint.styleAt
noncomputable def t25 : Tbl := addT t23 25 (specRun tb t23 Try.f25 [(.slice (.pair (.int .i64) (.last (.int .i64)))), (.int .i64)] [.dat (.int .i64)])
theorem t25_ok : TblOk Try.prog t25 := addT_ok t23_ok (specRun_ok mixed (fn := Try.f25) (by kernel_rfl) (by kernel_rfl) (by kernel_rfl) tbOk t23_ok (by kernel_rfl) (by kernel_rfl))
-- reglet/scaled.Neg
noncomputable def t41 : Tbl := addT t25 41 (specRun tb t25 Try.f41 [(.int .i64)] [.dat (.int .i64)])
theorem t41_ok : TblOk Try.prog t41 := addT_ok t25_ok (specRun_ok mixed (fn := Try.f41) (by kernel_rfl) (by kernel_rfl) (by kernel_rfl) tbOk t25_ok (by kernel_rfl) (by kernel_rfl))
-- reglet/scaled.Sub
noncomputable def t26 : Tbl := addT t41 26 (specRun tb t41 Try.f26 [(.int .i64), (.int .i64)] [.dat (.int .i64)])
theorem t26_ok : TblOk Try.prog t26 := addT_ok t41_ok (specRun_ok mixed (fn := Try.f26) (by kernel_rfl) (by kernel_rfl) (by kernel_rfl) tbOk t41_ok (by kernel_rfl) (by kernel_rfl))
-- reglet/paint.lastStyle
noncomputable def t27 : Tbl := addT t26 27 (specRun tb t26 Try.f27 [(.pair .str (.pair (.slice (.pair (.int .i64) (.last (.int .i64)))) (.pair (.int .i64) (.pair (.int .i64) (.pair (.int .i64) (.pair .bool (.pair (.int .i64) (.pair .bool (.last .bool)))))))))] [.dat (.int .i64)])
theorem t27_ok : TblOk Try.prog t27 := addT_ok t26_ok (specRun_ok mixed (fn := Try.f27) (by kernel_rfl) (by kernel_rfl) (by kernel_rfl) tbOk t26_ok (by kernel_rfl) (by kernel_rfl))
-- (*reglet/metrics.Table).Hyphen
noncomputable def t28 : Tbl := addT t27 28 (specRun tb t27 Try.f28 [(.ref (.last (.slice (.pair (.int .i64) (.pair (.int .i64) (.pair (.int .i64) (.pair (.int .i64) (.pair (.int .i64) (.pair (.int .i64) (.pair (.slice (.pair (.int .i64) (.pair (.int .i64) (.last (.int .i64))))) (.last .bool))))))))))), (.int .i64)] [.dat (.int .i64)])
theorem t28_ok : TblOk Try.prog t28 := addT_ok t27_ok (specRun_ok mixed (fn := Try.f28) (by kernel_rfl) (by kernel_rfl) (by kernel_rfl) tbOk t27_ok (by kernel_rfl) (by kernel_rfl))
-- reglet/paint.Line
noncomputable def t12 : Tbl := addT t28 12 (specRun tb t28 Try.f12 [(.ref (.last (.slice (.pair (.int .i64) (.pair (.int .i64) (.pair (.int .i64) (.pair (.int .i64) (.pair (.int .i64) (.pair (.int .i64) (.pair (.slice (.pair (.int .i64) (.pair (.int .i64) (.last (.int .i64))))) (.last .bool))))))))))), (.pair .str (.pair (.slice (.pair (.int .i64) (.last (.int .i64)))) (.pair (.int .i64) (.pair (.int .i64) (.pair (.int .i64) (.pair .bool (.pair (.int .i64) (.pair .bool (.last .bool)))))))))] [.dat (.slice (.pair (.int .i64) (.pair (.int .i64) (.pair (.int .i64) (.pair .str (.last (.int .i64)))))))])
theorem t12_ok : TblOk Try.prog t12 := addT_ok t28_ok (specRun_ok mixed (fn := Try.f12) (by kernel_rfl) (by kernel_rfl) (by kernel_rfl) tbOk t28_ok (by kernel_rfl) (by kernel_rfl))
-- (reglet/paint.Window).Size
noncomputable def t29 : Tbl := addT t12 29 (specRun tb t12 Try.f29 [(.pair (.int .i64) (.pair (.int .i64) (.last (.int .i64))))] [.dat (.int .i64)])
theorem t29_ok : TblOk Try.prog t29 := addT_ok t12_ok (specRun_ok mixed (fn := Try.f29) (by kernel_rfl) (by kernel_rfl) (by kernel_rfl) tbOk t12_ok (by kernel_rfl) (by kernel_rfl))
-- (reglet/paint.Window).Top
noncomputable def t30 : Tbl := addT t29 30 (specRun tb t29 Try.f30 [(.pair (.int .i64) (.pair (.int .i64) (.last (.int .i64)))), (.int .i64)] [.dat (.int .i64), .dat .bool])
theorem t30_ok : TblOk Try.prog t30 := addT_ok t29_ok (specRun_ok mixed (fn := Try.f30) (by kernel_rfl) (by kernel_rfl) (by kernel_rfl) tbOk t29_ok (by kernel_rfl) (by kernel_rfl))
-- (reglet/paint.Window).Seen
noncomputable def t13 : Tbl := addT t30 13 (specRun tb t30 Try.f13 [(.pair (.int .i64) (.pair (.int .i64) (.last (.int .i64)))), (.int .i64), (.int .i64)] [.dat (.slice (.pair (.int .i64) (.pair (.int .i64) (.last (.int .i64)))))])
theorem t13_ok : TblOk Try.prog t13 := addT_ok t30_ok (specRun_ok mixed (fn := Try.f13) (by kernel_rfl) (by kernel_rfl) (by kernel_rfl) tbOk t30_ok (by kernel_rfl) (by kernel_rfl))
-- (reglet/paint.Window).At
noncomputable def t14 : Tbl := addT t13 14 (specRun tb t13 Try.f14 [(.pair (.int .i64) (.pair (.int .i64) (.last (.int .i64)))), (.int .i64)] [.dat (.int .i64), .dat (.int .i64), .dat .bool])
theorem t14_ok : TblOk Try.prog t14 := addT_ok t13_ok (specRun_ok mixed (fn := Try.f14) (by kernel_rfl) (by kernel_rfl) (by kernel_rfl) tbOk t13_ok (by kernel_rfl) (by kernel_rfl))
-- reglet/regletlaw21.awake

theorem run5 : execG (cfgOf tb t14 Try.f5) Try.f5 (encX calN false 0 (chain []) ()) (gsX (chain [])) (memX calN 0 (chain []) ()) (KX [] [.dat .bool]) = some (true, ()) := by kernel_rfl
theorem awake_c : SpecOk Try.prog 5 (specX [] [.dat .bool] (fun _ => true) (fun _ => (true, ()))) :=
  specX_ok (c := cfgOf tb t14 Try.f5) mixed (fn := Try.f5) (by kernel_rfl) (by kernel_rfl) (by kernel_rfl) rfl tbOk t14_ok (fun b _ p _ L hL => by cases hL) (Nat.le_of_ble_eq_true (by kernel_rfl)) (Nat.zero_le _) rfl (fun _ _ => run5)
end AM.T.A
namespace AM.T
open Go AM Go.Proofs
def F16_ak : List FK := [.dat (.slice TBand)]
def F16_rk : List FK := [.own 54 TBand]
def preClone (x : List (Int × Int × Int) × Unit) : Bool := roomOk (0 + x.1.length) 24
def cloneR (x : List (Int × Int × Int) × Unit) : List (Int × Int × Int) × Unit := (x.1, ())
def t00 : Tbl := fun _ => none
theorem t00_ok : TblOk Try.prog t00 := fun _ _ h => by cases h
noncomputable def yes16 : Code := match Try.f16.body with
  | some (.seq _ (.seq (.seq _ (.cond _ y _)) _)) => y
  | _ => .skip
noncomputable def no16 : Code := match Try.f16.body with
  | some (.seq _ (.seq _ n)) => n
  | _ => .skip
theorem clone_c : SpecOk Try.prog 16 (specX F16_ak F16_rk preClone cloneR) := by
  refine specX_runs (nt := Try.f16.ntmps) (fn := Try.f16) (by kernel_rfl) (by kernel_rfl) (by kernel_rfl) (Nat.le_of_ble_eq_true (by kernel_rfl)) (Nat.le_of_ble_eq_true (by kernel_rfl)) rfl (fun xs hp => ?_)
  obtain ⟨l, u⟩ := xs
  have hp : roomOk (0 + l.length) 24 = true := hp
  refine clone_runs (tb := tb) (tbl := t00) (yes := yes16) (no := no16) (bt := 4) (p0 := "slices.go:355") (p1 := "slices.go:357") mixed (by kernel_rfl) tbOk t00_ok (by kernel_rfl) Try.underlying22 (by kernel_rfl) (by kernel_rfl) (fun K s => by kernel_rfl) l ?_
  have h : exec (cfgX tb t00 Try.f16 [.dat (.slice TBand)]) no16 (((stOf [(0, .im TBand l)] []).put (some 2) .nils |>.put (some 3) (.im TBand l)).put (some 4) (.bool false)) (fun ex s => match ex with
      | .exit _ => none
      | _ => KX [.dat (.slice TBand)] [.own 54 TBand] (s.val (.tmp 2)) s) = bif roomOk (0 + l.length) 24 then some (l, ()) else none := by kernel_rfl
  exact h.trans (by rw [hp]; rfl)
noncomputable def b1 : Tbl := addT t00 5 (specX [] [.dat .bool] (fun _ => true) (fun _ => (true, ())))
theorem b1_ok : TblOk Try.prog b1 := addT_ok t00_ok A.awake_c
noncomputable def b2 : Tbl := addT b1 16 (specX F16_ak F16_rk preClone cloneR)
theorem b2_ok : TblOk Try.prog b2 := addT_ok b1_ok clone_c
noncomputable def b3 : Tbl := addT b2 18 (specSort 54 TBand 19 sortB)
theorem b3_ok : TblOk Try.prog b3 := addT_ok b2_ok sort_c
def awakeR (_ : Unit) : Bool × Unit := (true, ())
end AM.T
