/-
  An evaluator by value of the model of the program, proved sound, and what it shows of this law: part SeB.
-/
import Derived.Test.YtadhiimkcdnfkaaGreatDoorSeA
namespace Go.Proofs.Ev
open Go
set_option linter.unusedVariables false
set_option maxRecDepth 100000
theorem lives_ev : ev door 300 60 9 [] [] = some (.v (.bool true), []) := by kernel_rfl
noncomputable def noneT : Tab := fun f args fr => bif Nat.beq f 9 then (match args, fr with
  | [], [] => some (.v (.bool true), [])
  | _, _ => none) else ev door 300 40 f args fr
theorem noneT_sound : ∀ f args fr res, noneT f args fr = some res → CallSound door f args fr res := by
  intro f args fr res h
  simp only [noneT] at h
  cases hf : Nat.beq f 9 with
  | true =>
    rw [hf] at h
    obtain rfl := Nat.eq_of_beq_eq_true hf
    simp only [cond_true] at h
    split at h
    · cases h
      exact ev_sound door_mixed door_leaf 300 60 9 _ _ _ lives_ev
    · cases h
  | false =>
    rw [hf] at h
    exact ev_sound door_mixed door_leaf 300 40 f args fr res h
theorem none_ev (k A B : Int) (s : ByteArray) : evF door ⟨fun _ _ _ => true, noneT⟩ noLoops 300 8 [.agg [.v (.int .i64 k), .v (.int .i64 A), .v (.int .i64 B), .v (.string s)]] [] = some (.v (.bool true), []) := by kernel_rfl
theorem none_sound (k A B : Int) (s : ByteArray) : CallSound door 8 [.agg [.v (.int .i64 k), .v (.int .i64 A), .v (.int .i64 B), .v (.string s)]] [] (.v (.bool true), []) :=
  fun_sound (call := ⟨fun _ _ _ => true, noneT⟩) (fun f args fr res _ => noneT_sound f args fr res) door_mixed (fun fn c _ _ id st res _ hl => by cases hl) (none_ev k A B s)
end Go.Proofs.Ev
