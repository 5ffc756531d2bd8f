/-
  An evaluator by value of the model of the program, proved sound, and what it shows of this law: part SeC.
-/
import Derived.Test.YtjhfnlidkijpbaaGreatDoorSeA
namespace Go.Proofs.Ev
open Go
set_option linter.unusedVariables false
set_option maxRecDepth 100000
def txt0 : ByteArray := ⟨#[97, 35, 98, 32, 62, 32, 46, 99, 58, 110, 111, 116, 40, 100, 41]⟩
def txtOut0 : AV × List Res := ((.tup [(.d ⟨(.rows .cx), [(([[(⟨1, (⟨#[97]⟩ : ByteArray), 0, (⟨#[]⟩ : ByteArray), 0, 0, []⟩ : Simple), (⟨3, (⟨#[98]⟩ : ByteArray), 0, (⟨#[]⟩ : ByteArray), 0, 0, []⟩ : Simple)], [(⟨2, (⟨#[99]⟩ : ByteArray), 0, (⟨#[]⟩ : ByteArray), 0, 0, []⟩ : Simple), (⟨5, (⟨#[]⟩ : ByteArray), 0, (⟨#[]⟩ : ByteArray), 0, 0, [(([[(⟨1, (⟨#[100]⟩ : ByteArray), 0, (⟨#[]⟩ : ByteArray), 0, 0, []⟩ : Simple)]], []) : Cx)]⟩ : Simple)]], [2]) : Cx)]⟩), (.v (.int .i64 0))]), [])
theorem txt0_ev : ev door 300 60 8 [.v (.string txt0)] [] = some txtOut0 := by kernel_rfl
def txt1 : ByteArray := ⟨#[58, 110, 116, 104, 45, 99, 104, 105, 108, 100, 40, 111, 100, 100, 41]⟩
def txtOut1 : AV × List Res := ((.tup [(.d ⟨(.rows .cx), [(([[(⟨8, (⟨#[]⟩ : ByteArray), 0, (⟨#[]⟩ : ByteArray), 2, 1, []⟩ : Simple)]], []) : Cx)]⟩), (.v (.int .i64 0))]), [])
theorem txt1_ev : ev door 300 60 8 [.v (.string txt1)] [] = some txtOut1 := by kernel_rfl
def txt2 : ByteArray := ⟨#[97, 44, 44, 98]⟩
def txtOut2 : AV × List Res := ((.tup [(.d ⟨(.rows .cx), []⟩), (.v (.int .i64 4))]), [])
theorem txt2_ev : ev door 300 60 8 [.v (.string txt2)] [] = some txtOut2 := by kernel_rfl
def eqBytes : List UInt8 → List UInt8 → Bool
  | [], [] => true
  | a :: l, b :: m => Nat.beq a.toNat b.toNat && eqBytes l m
  | _, _ => false
theorem eqBytes_eq : ∀ {l m : List UInt8}, eqBytes l m = true → l = m
  | [], [], _ => rfl
  | [], _ :: _, h => by simp [eqBytes] at h
  | _ :: _, [], h => by simp [eqBytes] at h
  | a :: l, b :: m, h => by
    simp only [eqBytes, Bool.and_eq_true] at h
    rw [eqBytes_eq h.2, UInt8.toNat_inj.1 (Nat.eq_of_beq_eq_true h.1)]
def memoText : List AV → List Res → Option (AV × List Res)
  | [.v (.string s)], [] => bif eqBytes s.data.toList txt0.data.toList then some txtOut0 else bif eqBytes s.data.toList txt1.data.toList then some txtOut1 else bif eqBytes s.data.toList txt2.data.toList then some txtOut2 else none
  | _, _ => none
noncomputable def callLives : Tab := fun f args fr => bif Nat.beq f 8 then memoText args fr else ev door 300 40 f args fr
theorem bytes_ext {a b : ByteArray} (h : a.data.toList = b.data.toList) : a = b := by
  cases a; cases b; congr 1; exact Array.toList_inj.1 h
theorem callLives_sound : ∀ f args fr res, callLives f args fr = some res → CallSound door f args fr res := by
  intro f args fr res h
  simp only [callLives] at h
  cases hf : Nat.beq f 8 with
  | true =>
    rw [hf] at h
    obtain rfl := Nat.eq_of_beq_eq_true hf
    simp only [cond_true, memoText] at h
    split at h
    · rename_i s
      cases h0 : eqBytes s.data.toList txt0.data.toList with
      | true =>
        rw [h0] at h; cases h
        rw [bytes_ext (eqBytes_eq h0)]
        exact ev_sound door_mixed door_leaf 300 60 8 _ _ _ txt0_ev
      | false =>
        rw [h0] at h
        cases h1 : eqBytes s.data.toList txt1.data.toList with
        | true =>
          rw [h1] at h; cases h
          rw [bytes_ext (eqBytes_eq h1)]
          exact ev_sound door_mixed door_leaf 300 60 8 _ _ _ txt1_ev
        | false =>
          rw [h1] at h
          cases h2 : eqBytes s.data.toList txt2.data.toList with
          | true =>
            rw [h2] at h; cases h
            rw [bytes_ext (eqBytes_eq h2)]
            exact ev_sound door_mixed door_leaf 300 60 8 _ _ _ txt2_ev
          | false => rw [h2] at h; cases h
    · cases h
  | false =>
    rw [hf] at h
    exact ev_sound door_mixed door_leaf 300 40 f args fr res h
theorem lives_ev : evF door ⟨fun _ _ _ => true, callLives⟩ noLoops 300 7 [] [] = some (.v (.bool true), []) := by kernel_rfl
theorem lives_sound : CallSound door 7 [] [] (.v (.bool true), []) :=
  fun_sound (call := ⟨fun _ _ _ => true, callLives⟩) (fun f args fr res _ => callLives_sound f args fr res) door_mixed (fun fn c _ _ id st res _ hl => by cases hl) lives_ev
end Go.Proofs.Ev
