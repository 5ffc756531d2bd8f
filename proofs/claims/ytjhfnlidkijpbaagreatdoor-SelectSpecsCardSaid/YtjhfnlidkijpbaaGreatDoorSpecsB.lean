/-
  An evaluator by value of the model of the program, proved sound, and what it shows of this law: part SpecsB.
-/
import Derived.Test.YtjhfnlidkijpbaaGreatDoorSpecsA
namespace Go.Proofs.YtjhfnlidkijpbaaGreatDoor.sp
open Go.ChangeShapes Go.WideShapes Go.ChangeAt Go.RowKit Go.Proofs.Ev Go.Proofs.Ev.Md
set_option linter.unusedVariables false
set_option maxRecDepth 100000
theorem ls40 : leaves door.P door.ty 4 40 = some [.rows (.rows .simple), .rows (.int .i64)] := by kernel_rfl
theorem contract (H : Type) (enc : TypeId × Value → H) (W : World) (base : Nat) (args : Array Value) (ds gs : List (DataW H)) (before : List MemPlace)
    (hval : ∀ (j : Nat) t v, Tryz.f5.params[j]? = some t → args[j]? = some v → Value.okWide Tryz.prog W .any base t v)
    (hW : DataW.Whole enc Tryz.prog Tryz.f5.params.toList Rows.selectSpecsSpec.vars false W args.toList ds gs before) (hL : laidMetH Tryz.prog Rows.selectSpecsRow.laid W)
    (hk : (DataW.weightsEach Tryz.prog (Tryz.f5.params.toList ++ (OpenSpec.ofChange Rows.selectSpecsSpec).bare.plain.varTypes Tryz.prog) (ds ++ gs)).all (· ≤ reachBytes) = true) :
    Calls Tryz.prog 5 args W fun e W' => ∃ v, e = .returned v ∧ Rows.selectSpecsSpec.post enc Tryz.prog Tryz.f5 false true false false W args v W' := by
  have hW' := hW
  obtain ⟨p, q, hA0, hV, rfl, hfz, hnd⟩ := hW
  have hA : DataW.TrodAll enc Tryz.prog W 0 (fun _ => true) true Tryz.f5.params.toList args.toList ds p := hA0
  rw [Tryz.params5] at hA hval
  obtain ⟨v0, vs0, d0, ds0, p0, q0, hargs, rfl, rfl, h0, r0⟩ := trodAll_cons hA
  obtain ⟨v1, vs1, d1, ds1, p1, q1, rfl, rfl, rfl, h1, r1⟩ := trodAll_cons r0
  obtain ⟨rfl, rfl, rfl⟩ := trodAll_nil r1
  obtain rfl : args = #[v0, v1] := by cases args; simp_all
  obtain ⟨rfl, rfl⟩ := trodVars_none hV
  have hbulk : (d0.weights Tryz.prog 23).all (· ≤ reachBytes) = true ∧ (d1.weights Tryz.prog 40).all (· ≤ reachBytes) = true := by
    rw [Tryz.params5] at hk
    simp only [List.append_nil, List.cons_append, List.nil_append, DataW.weightsEach, List.all_append, Bool.and_eq_true] at hk
    exact ⟨hk.1, hk.2.1⟩
  obtain ⟨l, hl, fl⟩ := arg_slice (C := door) (τ := .cx) (reach_ok bytesOk) tysOk (show Tryz.prog.underlying 23 = some (.slice 40) by kernel_rfl) rfl (hval 0 23 v0 rfl rfl) h0 hbulk.1
  obtain ⟨fs, hfs⟩ : ∃ fs, Tryz.prog.underlying 40 = some (.struct fs) := ⟨_, Tryz.underlying40⟩
  obtain ⟨lfs, e1, hc, fc⟩ := arg_struct (C := door) (reach_ok bytesOk) tysOk (show door.P.underlying 40 = some (.struct fs) from hfs) ls40 (hval 1 40 v1 rfl rfl) h1 hbulk.2
  simp only [List.map_eq_cons_iff, List.map_eq_nil_iff] at e1
  obtain ⟨⟨_, P⟩, _, rfl, rfl, ⟨_, Q⟩, _, rfl, rfl, rfl⟩ := e1
  have f1 := FitLf.rows_inv fl
  have f2 := FitLf.rows_inv (fc ⟨.rows (.rows .simple), P⟩ (by simp))
  have hR : reachBytes < 4611686018427387904 := by decide
  have fitc : fitC (P, Q) := fitC_of hR (P, Q) (by simpa [cells, lr] using fc)
  have f3 : P.length * 24 ≤ reachBytes := f2.1
  have f4 : ∀ n : Nat, n * 24 ≤ reachBytes → (n + 1) * 24 ≤ 140737488355328 := fun n h => by
    have : reachBytes = 140737488351232 := by decide
    omega
  have hs := specs_sound l (P, Q) (Nat.lt_of_le_of_lt fl.rows_len hR) (fitL_of hR l f1.2) fitc (f4 _ f3)
  have hd := hs (env0 W) W [v0, v1] (env0_mr door W) (by simp only [VRs]; exact ⟨hl, hc, trivial⟩) (globals hL)
  refine (Does.calls (P := Tryz.prog) (fn := Tryz.f5) (by exact Tryz.func5) (by kernel_rfl) (by kernel_rfl) hd).mono fun e W' he => ?_
  obtain ⟨v, rfl, hp⟩ := he
  have hb := hp.below
  obtain ⟨E', hv, _⟩ := hp
  simp only [VR] at hv
  subst hv
  exact ⟨_, rfl, post_true (C := door) laidOut rfl hW' hb (by
    intro t ht
    rw [Tryz.params5] at ht
    have ht : t = 23 ∨ t = 40 := by simpa using ht
    rcases ht with rfl | rfl <;> exact ⟨by kernel_rfl, of_decide_eq_true (by kernel_rfl)⟩) (tb := 4) (by kernel_rfl) (show Tryz.prog.underlying 4 = some .bool by kernel_rfl) rfl rfl rfl⟩
/-- A WORLD FOR THE WITNESS: the listed tables hold what their initialisers lay. -/
noncomputable def laidWorld (os : Os) : World :=
  let put (g : Nat) (cs : List Value) (h : Array Obj) : Array Obj := h.modify g fun
    | .cells _ t frozen => .cells cs.toArray t frozen
    | o => o
  let strs (L : List (List UInt8)) : List Value := L.map fun l => .string ⟨l.toArray⟩
  let w := World.holding Tryz.prog os ⟨#[], #[], []⟩
  { w with heap := put 0 (strs [[], [32], [62], [43], [126]]) (put 1 (strs [[], [61], [126, 61], [124, 61], [94, 61], [36, 61], [42, 61]])
      (put 3 (Pinned.utf8FirstZ.map fun (n : Nat) => Value.int .u8 (n : Int)) (put 4 (([128, 191, 160, 191, 128, 159, 144, 191, 128, 143] ++ List.replicate 22 0 : List Nat).map fun (n : Nat) => Value.int .u8 (n : Int)) w.heap))) }
def args0 : Array Value := #[.slice none 0 0, .agg #[.slice none 0 0, .slice none 0 0]]
theorem laid_met (os : Os) : laidMet Tryz.prog Rows.selectSpecsRow.laid ((laidWorld os).forCall (fun _ _ => 0) ⟨#[], args0, []⟩).memory :=
  laidMet_of_run' 8 (by kernel_rfl) (by kernel_rfl)
theorem reads (os : Os) {H : Type} (enc : TypeId × Value → H) : ∃ places, DataW.whole enc Tryz.prog ((laidWorld os).forCall (fun _ _ => 0) ⟨#[], args0, []⟩).memory Tryz.f5.params.toList Rows.selectSpecsSpec.vars false args0.toList 8 = some ([.nil, .agg [.nil, .nil]], [], places) :=
  ⟨[], by kernel_rfl⟩
theorem lifted (os : Os) (started : os.Started) (H : Type) (enc : TypeId × Value → H) (F : Stop.Interp) :
    ReturnsInHanded {} Tryz.checked os 5 .any ((OpenSpec.ofChange Rows.selectSpecsSpec).preRow enc Tryz.prog Tryz.f5 Rows.selectSpecsRow.domain false Rows.selectSpecsRow.laid) (((OpenSpec.ofChange Rows.selectSpecsSpec).at F).post enc Tryz.prog Tryz.f5 false true false false) := by
  obtain ⟨places, hx⟩ := reads os enc
  refine returnsInHanded_of_row (C := Tryz.checked) (s := OpenSpec.ofChange Rows.selectSpecsSpec) own started (by kernel_rfl) Tryz.func5
    (witness_row_at (enc := enc) (C := Tryz.checked) false (laidWorld os) args0 rfl (by kernel_rfl) (by kernel_rfl) (by kernel_rfl)
      (OpenSpec.preRow_of_cond 8 hx (by kernel_rfl) (fun k hk => by cases hk) (by kernel_rfl) (laid_met os))) ?_
  intro W base args ds gs before hval hW _ _ hz hL _ _
  exact contract H enc W base args ds gs before hval hW hL hz
theorem said : Rows.SelectSpecsSaid :=
  OpenClaim.holds_of_cond 5 Tryz.f5 rfl rfl rfl rfl rfl rfl rfl ⟨rfl, rfl, rfl, rfl, rfl⟩ rfl rfl rfl rfl rfl (by kernel_rfl) Tryz.func5 (by kernel_rfl)
    (of_decide_eq_true (by kernel_rfl)) (by unfold Func.isWrapper; first | (rw [if_pos (by decide +kernel)]; kernel_rfl) | (rw [if_neg (by decide +kernel)]; exact ⟨rfl, rfl⟩))
    (fun os started H enc _ F => by rw [OpenClaim.pre_eq_preRow]; exact lifted os started H enc F)
theorem plain (f : FuncId) (fn : Func) (hf : Tryz.pinned.checked.prog.funcNamed "gouache/gouachelaw05.SelectSpecs" = some f) (hfn : Tryz.pinned.checked.prog.funcs[f]? = some fn) :
    false = Tryz.pinned.checked.prog.looks [] ∧ ∀ (j : Nat) t, fn.params[j]? = some t → Tryz.pinned.checked.prog.wantsStandIn t = false := by
  obtain rfl : f = 5 := Option.some.inj ((show Tryz.prog.funcNamed "gouache/gouachelaw05.SelectSpecs" = some 5 by kernel_rfl).symm.trans hf) |>.symm
  obtain rfl : fn = Tryz.f5 := (Option.some.inj (Tryz.func5.symm.trans hfn)).symm
  refine ⟨by kernel_rfl, fun j t ht => ?_⟩
  rw [Tryz.params5] at ht
  have ht : t = 23 ∨ t = 40 := by simpa using Array.mem_of_getElem? ht
  rcases ht with rfl | rfl
  · exact (show Tryz.prog.wantsStandIn 23 = false by kernel_rfl)
  · exact (show Tryz.prog.wantsStandIn 40 = false by kernel_rfl)
/-- THE CARD. -/
theorem card : Rows.SelectSpecsCardSaid :=
  Claim7.holds_tied_plain_at .later [] _ _ _ _ said (fun _ h => by cases h) (by kernel_rfl) (fun _ h => by cases h) selectSpecs_row_tie rfl ⟨rfl, rfl⟩ (by kernel_rfl) rfl plain (by kernel_rfl)

end Go.Proofs.YtjhfnlidkijpbaaGreatDoor.sp
