/-
  An evaluator by value of the model of the program, proved sound, and what it shows of this law: part NoneA.
-/
import Derived.Test.YtadhiimkcdnfkaaGreatDoorSeB
import Derived.Test.YtadhiimkcdnfkaaGreatDoorEvG
import Derived.Test.YtadhiimkcdnfkaaGreatDoorCards
import Derived.Test.YtadhiimkcdnfkaaGreatDoorTie
import Derived.Deep.DeepHandedRow
namespace Go.Proofs.YtadhiimkcdnfkaaGreatDoor.sn
open Go.ChangeShapes Go.WideShapes Go.ChangeAt Go.RowKit Go.Proofs.Ev
set_option linter.unusedVariables false
set_option maxRecDepth 100000
/-! ### the types -/
theorem tysOk : TysOk door := by
  intro e τ h
  simp only [door, tyT] at h
  split at h
  case h_40 => cases h
  all_goals (
    cases h
    refine ⟨by simp, by kernel_rfl, by simp [Ty.size], 4, by kernel_rfl⟩)
theorem laidOut : laidOutB Tryz.prog = true := by kernel_rfl
theorem own : ownKnob Tryz.prog.godebug = none := by kernel_rfl
theorem bytesOk : ∀ e τ, door.ty e = some τ → τ.bytes ≤ door.P.bytesOf e := by
  intro e τ h
  simp only [door, tyT] at h
  split at h
  case h_40 => cases h
  all_goals (
    cases h
    exact of_decide_eq_true (by kernel_rfl))
/-! ### the tables -/
theorem gCombs : Tryz.prog.globalNamed "gouache/selector.combs" = some 0 := by kernel_rfl
theorem gOps : Tryz.prog.globalNamed "gouache/selector.ops" = some 4 := by kernel_rfl
theorem globals {W : World} (h : laidMet Tryz.prog Rows.sheetNoneRow.laid W) : Glob door (env0 W) := by
  obtain ⟨ps, h, _⟩ := h
  simp only [Rows.sheetNoneRow, DataW.LaidVars] at h
  obtain ⟨g0, t0, cs0, fu0, p0, q0, a1, a2, a3, a4, ⟨g1, t1, cs1, fu1, p1, q1, b1, b2, b3, b4, ⟨g2, t2, cs2, fu2, p2, q2, c1, c2, c3, c4, _⟩, _⟩, _⟩ := h
  obtain rfl := Option.some.inj (gCombs.symm.trans b1)
  obtain rfl := Option.some.inj (gOps.symm.trans c1)
  obtain rfl := Option.some.inj ((show (Tryz.prog.globals[0]?).map (·.type) = some 210 by kernel_rfl).symm.trans b2)
  obtain rfl := Option.some.inj ((show (Tryz.prog.globals[4]?).map (·.type) = some 235 by kernel_rfl).symm.trans c2)
  obtain ⟨T0, fr0, hb0⟩ := var_heap b1 b3
  obtain ⟨T1, fr1, hb1⟩ := var_heap c1 c3
  have s0 := trod_strs (C := door) (te := 9) (t := 210) (n := 5) (L := [[], [32], [62], [43], [126]]) (show Tryz.prog.underlying 210 = some (.array 5 9) by kernel_rfl) (show Tryz.prog.underlying 9 = some .string by kernel_rfl) (show Tryz.prog.cellsOf 9 = 1 by kernel_rfl) b4
  have s1 := trod_strs (C := door) (te := 9) (t := 235) (n := 7) (L := [[], [61], [126, 61], [124, 61], [94, 61], [36, 61], [42, 61]]) (show Tryz.prog.underlying 235 = some (.array 7 9) by kernel_rfl) (show Tryz.prog.underlying 9 = some .string by kernel_rfl) (show Tryz.prog.cellsOf 9 = 1 by kernel_rfl) c4
  intro g p hg
  simp only [door, globT] at hg
  split at hg
  · cases hg
    refine glob_strs hb0 fun i s hi => ?_
    match i, hi with
    | 0, hi => cases hi; have := s0.2 0 _ rfl; simpa [bs] using this
    | 1, hi => cases hi; have := s0.2 1 _ rfl; simpa [bs] using this
    | 2, hi => cases hi; have := s0.2 2 _ rfl; simpa [bs] using this
    | 3, hi => cases hi; have := s0.2 3 _ rfl; simpa [bs] using this
    | 4, hi => cases hi; have := s0.2 4 _ rfl; simpa [bs] using this
  · cases hg
    refine glob_strs hb1 fun i s hi => ?_
    match i, hi with
    | 0, hi => cases hi; have := s1.2 0 _ rfl; simpa [bs] using this
    | 1, hi => cases hi; have := s1.2 1 _ rfl; simpa [bs] using this
    | 2, hi => cases hi; have := s1.2 2 _ rfl; simpa [bs] using this
    | 3, hi => cases hi; have := s1.2 3 _ rfl; simpa [bs] using this
    | 4, hi => cases hi; have := s1.2 4 _ rfl; simpa [bs] using this
    | 5, hi => cases hi; have := s1.2 5 _ rfl; simpa [bs] using this
    | 6, hi => cases hi; have := s1.2 6 _ rfl; simpa [bs] using this
  · cases hg
end Go.Proofs.YtadhiimkcdnfkaaGreatDoor.sn
