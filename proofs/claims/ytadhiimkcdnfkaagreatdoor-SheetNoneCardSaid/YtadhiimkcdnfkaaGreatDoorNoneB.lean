/-
  Whatever the action, gouachelaw11.SheetNone answers true, where the tables that the row lists hold what their initialisers lay.
-/
import Derived.Test.YtadhiimkcdnfkaaGreatDoorNoneA
namespace Go.Proofs.YtadhiimkcdnfkaaGreatDoor.sn
open Go.ChangeShapes Go.WideShapes Go.ChangeAt Go.RowKit Go.Proofs.Ev
set_option linter.unusedVariables false
set_option maxRecDepth 100000
theorem ls61 : leaves door.P door.ty 4 61 = some [.int .i64, .int .i64, .int .i64, .str] := by kernel_rfl
theorem contract (H : Type) (enc : TypeId × Value → H) (W : World) (base : Nat) (args : Array Value) (ds gs : List (DataW H)) (before : List MemPlace)
    (hval : ∀ (j : Nat) t v, Tryz.f8.params[j]? = some t → args[j]? = some v → Value.okWide Tryz.prog W .any base t v)
    (hW : DataW.Whole enc Tryz.prog Tryz.f8.params.toList Rows.sheetNoneSpec.vars false W args.toList ds gs before) (hL : laidMetH Tryz.prog Rows.sheetNoneRow.laid W)
    (hk : (DataW.weightsEach Tryz.prog (Tryz.f8.params.toList ++ (OpenSpec.ofChange Rows.sheetNoneSpec).bare.plain.varTypes Tryz.prog) (ds ++ gs)).all (· ≤ reachBytes) = true) :
    Calls Tryz.prog 8 args W fun e W' => ∃ v, e = .returned v ∧ Rows.sheetNoneSpec.post enc Tryz.prog Tryz.f8 false true false false W args v W' := by
  have hW' := hW
  obtain ⟨p, q, hA0, hV, rfl, hfz, hnd⟩ := hW
  have hA : DataW.TrodAll enc Tryz.prog W 0 (fun _ => true) true Tryz.f8.params.toList args.toList ds p := hA0
  rw [Tryz.params8] at hA hval
  obtain ⟨v0, vs0, d0, ds0, p0, q0, hargs, rfl, rfl, h0, r0⟩ := trodAll_cons hA
  obtain ⟨rfl, rfl, rfl⟩ := trodAll_nil r0
  obtain rfl : args = #[v0] := by cases args; simp_all
  obtain ⟨rfl, rfl⟩ := trodVars_none hV
  have hbulk : (d0.weights Tryz.prog 61).all (· ≤ reachBytes) = true := by
    rw [Tryz.params8] at hk
    simp only [List.append_nil, List.cons_append, List.nil_append, DataW.weightsEach, List.all_append, Bool.and_eq_true] at hk
    exact hk.1
  obtain ⟨fs, hfs⟩ : ∃ fs, Tryz.prog.underlying 61 = some (.struct fs) := ⟨_, Tryz.underlying61⟩
  obtain ⟨lfs, e1, hc, fc⟩ := arg_struct (C := door) (reach_ok bytesOk) tysOk (show door.P.underlying 61 = some (.struct fs) from hfs) ls61 (hval 0 61 v0 rfl rfl) h0 hbulk
  simp only [List.map_eq_cons_iff, List.map_eq_nil_iff] at e1
  obtain ⟨⟨_, k⟩, _, rfl, rfl, ⟨_, A⟩, _, rfl, rfl, ⟨_, B⟩, _, rfl, rfl, ⟨_, s⟩, _, rfl, rfl, rfl⟩ := e1
  have hs := none_sound k A B s
  have hd := hs (env0 W) W [v0] (env0_mr door W) (by simp only [VRs]; exact ⟨hc, trivial⟩) (globals hL)
  refine (Does.calls (P := Tryz.prog) (fn := Tryz.f8) (by exact Tryz.func8) (by kernel_rfl) (by kernel_rfl) hd).mono fun e W' he => ?_
  obtain ⟨v, rfl, hp⟩ := he
  have hb := hp.below
  obtain ⟨E', hv, _⟩ := hp
  simp only [VR] at hv
  subst hv
  exact ⟨_, rfl, post_true (C := door) laidOut rfl hW' hb (by
    intro t ht
    rw [Tryz.params8] at ht
    have ht : t = 61 := by simpa using ht
    subst ht
    exact ⟨by kernel_rfl, of_decide_eq_true (by kernel_rfl)⟩) (tb := 4) (by kernel_rfl) (show Tryz.prog.underlying 4 = some .bool by kernel_rfl) rfl rfl rfl⟩
/-- A WORLD FOR THE WITNESS: the listed tables hold what their initialisers lay. -/
noncomputable def laidWorld (os : Os) : World :=
  let put (g : Nat) (cs : List Value) (h : Array Obj) : Array Obj := h.modify g fun
    | .cells _ t frozen => .cells cs.toArray t frozen
    | o => o
  let strs (L : List (List UInt8)) : List Value := L.map fun l => .string ⟨l.toArray⟩
  let w := World.holding Tryz.prog os ⟨#[], #[], []⟩
  { w with heap := put 0 (strs [[], [32], [62], [43], [126]]) (put 4 (strs [[], [61], [126, 61], [124, 61], [94, 61], [36, 61], [42, 61]])
      (put 1 (Pinned.utf8FirstZ.map fun (n : Nat) => Value.int .u8 (n : Int)) (put 2 (([128, 191, 160, 191, 128, 159, 144, 191, 128, 143] ++ List.replicate 22 0 : List Nat).map fun (n : Nat) => Value.int .u8 (n : Int)) w.heap))) }
def args0 : Array Value := #[.agg #[.int .i64 0, .int .i64 0, .int .i64 0, .string .empty]]
theorem laid_met (os : Os) : laidMet Tryz.prog Rows.sheetNoneRow.laid ((laidWorld os).forCall (fun _ _ => 0) ⟨#[], args0, []⟩).memory :=
  laidMet_of_run' 8 (by kernel_rfl) (by kernel_rfl)
theorem reads (os : Os) {H : Type} (enc : TypeId × Value → H) : ∃ places, DataW.whole enc Tryz.prog ((laidWorld os).forCall (fun _ _ => 0) ⟨#[], args0, []⟩).memory Tryz.f8.params.toList Rows.sheetNoneSpec.vars false args0.toList 8 = some ([.agg [.lit (.int .i64 0), .lit (.int .i64 0), .lit (.int .i64 0), .lit (.string [])]], [], places) :=
  ⟨[], by kernel_rfl⟩
theorem lifted (os : Os) (started : os.Started) (H : Type) (enc : TypeId × Value → H) (F : Stop.Interp) :
    ReturnsInHanded {} Tryz.checked os 8 .any ((OpenSpec.ofChange Rows.sheetNoneSpec).preRow enc Tryz.prog Tryz.f8 Rows.sheetNoneRow.domain false Rows.sheetNoneRow.laid) (((OpenSpec.ofChange Rows.sheetNoneSpec).at F).post enc Tryz.prog Tryz.f8 false true false false) := by
  obtain ⟨places, hx⟩ := reads os enc
  refine returnsInHanded_of_row (C := Tryz.checked) (s := OpenSpec.ofChange Rows.sheetNoneSpec) own started (by kernel_rfl) Tryz.func8
    (witness_row_at (enc := enc) (C := Tryz.checked) false (laidWorld os) args0 rfl (by kernel_rfl) (by kernel_rfl) (by kernel_rfl)
      (OpenSpec.preRow_of_cond 8 hx (by kernel_rfl) (fun k hk => by cases hk) (by kernel_rfl) (laid_met os))) ?_
  intro W base args ds gs before hval hW _ _ hz hL _ _
  exact contract H enc W base args ds gs before hval hW hL hz
theorem said : Rows.SheetNoneSaid :=
  OpenClaim.holds_of_cond 8 Tryz.f8 rfl rfl rfl rfl rfl rfl rfl ⟨rfl, rfl, rfl, rfl, rfl⟩ rfl rfl rfl rfl rfl (by kernel_rfl) Tryz.func8 (by kernel_rfl)
    (of_decide_eq_true (by kernel_rfl)) (by unfold Func.isWrapper; first | (rw [if_pos (by decide +kernel)]; kernel_rfl) | (rw [if_neg (by decide +kernel)]; exact ⟨rfl, rfl⟩))
    (fun os started H enc _ F => by rw [OpenClaim.pre_eq_preRow]; exact lifted os started H enc F)
theorem plain (f : FuncId) (fn : Func) (hf : Tryz.pinned.checked.prog.funcNamed "gouache/gouachelaw11.SheetNone" = some f) (hfn : Tryz.pinned.checked.prog.funcs[f]? = some fn) :
    false = Tryz.pinned.checked.prog.looks [] ∧ ∀ (j : Nat) t, fn.params[j]? = some t → Tryz.pinned.checked.prog.wantsStandIn t = false := by
  obtain rfl : f = 8 := Option.some.inj ((show Tryz.prog.funcNamed "gouache/gouachelaw11.SheetNone" = some 8 by kernel_rfl).symm.trans hf) |>.symm
  obtain rfl : fn = Tryz.f8 := (Option.some.inj (Tryz.func8.symm.trans hfn)).symm
  refine ⟨by kernel_rfl, fun j t ht => ?_⟩
  rw [Tryz.params8] at ht
  have ht : t = 61 := by simpa using Array.mem_of_getElem? ht
  subst ht
  exact (show Tryz.prog.wantsStandIn 61 = false by kernel_rfl)
/-- THE CARD. -/
theorem card : Rows.SheetNoneCardSaid :=
  Claim7.holds_tied_plain_at .later [] _ _ _ _ said (fun _ h => by cases h) (by kernel_rfl) (fun _ h => by cases h) sheetNone_row_tie rfl ⟨rfl, rfl⟩ (by kernel_rfl) rfl plain (by kernel_rfl)

end Go.Proofs.YtadhiimkcdnfkaaGreatDoor.sn
