/-
  An evaluator by value of the model of the program, proved sound, and what it shows of this law: part SeD.
-/
import Derived.Test.YtjhfnlidkijpbaaGreatDoorSeB
import Derived.Test.YtjhfnlidkijpbaaGreatDoorSeC
namespace Go.Proofs.Ev
open Go Md
set_option linter.unusedVariables false
set_option maxRecDepth 100000
namespace Md
def within (k : Int) (l : List Cx) : Spec := ofC ([[(⟨k, ByteArray.mk #[], 0, ByteArray.mk #[], 0, 0, l⟩ : Simple)]], [])
end Md
abbrev sp0 : Spec := ⟨0, 0, 0⟩
abbrev one7 (k : Int) (l : List Cx) : Simple := ⟨k, ByteArray.mk #[], 0, ByteArray.mk #[], 0, 0, l⟩
/-- The calls of SelectSpecs. -/
def tX (g : List Cx → Bool) : Tab := fun f a r => match f with
  | 15 => match a with
    | [.d ⟨.rows .cx, l⟩] => some (.v (.bool (g l)), [])
    | _ => none
  | 7 => some (.v (.bool true), [])
  | 17 => match a with
    | [.v (.int .i64 k), .d ⟨.rows .cx, l⟩] => some (aS (within k l), [])
    | _ => none
  | f => tS f a r
abbrev hd5_0 (l : List Cx) (c : Cx) (m : Spec) (i : Int) : AS := { s := [(0, .d ⟨.rows .cx, l⟩), (3, .ptr 0 0), (5, .ptr 1 0), (35, .d ⟨.rows .cx, l⟩), (36, aI l.length), (37, aI i)], t := [(0, .box 40 [.d ⟨.rows (.rows .simple), c.1⟩, .d ⟨.rows (.int .i64), c.2⟩]), (1, bS m)], m := 5, n := 78 }
abbrev ex5_0 (l : List Cx) (c : Cx) (m : Spec) : Ex × AS := (.exit 0, { s := [(0, .d ⟨.rows .cx, l⟩), (3, .ptr 0 0), (5, .ptr 1 0)], t := [(0, .box 40 [.d ⟨.rows (.rows .simple), c.1⟩, .d ⟨.rows (.int .i64), c.2⟩]), (1, bS m)], m := 5, n := 78 })
end Go.Proofs.Ev
namespace Go.Proofs.Ev
open Go Md
set_option maxRecDepth 100000
theorem ss0_eq (G : GT) (H : HT) (g : List Cx → Bool) (r : Ex × AS) (l : List Cx) (c : Cx) (m : Spec) (i : Nat) : evRound door ⟨G, tX g⟩ ⟨H, lW r⟩ 0 10 5 0 (hd5_0 l c m i) =
    bif decide ((↑i : Int) < (↑l.length : Int)) then
      match l[(↑i : Int).toNat]? with
      | none => none
      | some y0 =>
        bif G 19 [AV.agg [AV.d (Sigma.mk Ty.simple.rows.rows y0.1), AV.d (Sigma.mk (Ty.int IntKind.i64).rows y0.2)]] [] then
          bif G 18 [AV.agg [AV.v (Value.int IntKind.i64 m.1), AV.v (Value.int IntKind.i64 m.2), AV.v (Value.int IntKind.i64 m.3)], AV.agg [AV.v (Value.int IntKind.i64 (ofC (y0.fst, y0.snd)).1), AV.v (Value.int IntKind.i64 (ofC (y0.fst, y0.snd)).2), AV.v (Value.int IntKind.i64 (ofC (y0.fst, y0.snd)).3)]] [] then
            bif less (Spec.mk m.1 m.2 m.3) (Spec.mk (ofC (y0.fst, y0.snd)).1 (ofC (y0.fst, y0.snd)).2 (ofC (y0.fst, y0.snd)).3) then
              some (Sum.inr (Ex.ret, AS.mk [(4, AV.v (Value.bool false))] [] 5 78))
            else
              some (Sum.inl (AS.mk [(0, AV.d (Sigma.mk Ty.cx.rows l)), (3, AV.ptr 0 0), (5, AV.ptr 1 0), (35, AV.d (Sigma.mk Ty.cx.rows l)), (36, AV.v (Value.int IntKind.i64 (↑l.length : Int))), (37, AV.v (Value.int IntKind.i64 (IntKind.i64.wrap ((↑i : Int) + 1))))] [(0, Res.box 40 [AV.d (Sigma.mk Ty.simple.rows.rows c.1), AV.d (Sigma.mk (Ty.int IntKind.i64).rows c.2)]), (1, Res.box 43 [AV.v (Value.int IntKind.i64 m.1), AV.v (Value.int IntKind.i64 m.2), AV.v (Value.int IntKind.i64 m.3)])] 5 78))
          else
            none
        else
          none
    else
      some (Sum.inr (Ex.exit 0, AS.mk [(0, AV.d (Sigma.mk Ty.cx.rows l)), (3, AV.ptr 0 0), (5, AV.ptr 1 0)] [(0, Res.box 40 [AV.d (Sigma.mk Ty.simple.rows.rows c.1), AV.d (Sigma.mk (Ty.int IntKind.i64).rows c.2)]), (1, Res.box 43 [AV.v (Value.int IntKind.i64 m.1), AV.v (Value.int IntKind.i64 m.2), AV.v (Value.int IntKind.i64 m.3)])] 5 78)) := by kernel_rfl
theorem ss_eq (G : GT) (H : HT) (g : List Cx → Bool) (m : Spec) (l : List Cx) (c : Cx) : evF door ⟨G, tX g⟩ ⟨H, lW (ex5_0 l c m)⟩ 10 5 [.d ⟨.rows .cx, l⟩, aCx c] [] =
    bif G 15 [AV.d (Sigma.mk Ty.cx.rows l)] [] then
      bif g l then
        bif G 7 [] [] then
          some (AV.v (Value.bool true), [])
        else
          none
      else
        bif G 15 [AV.d (Sigma.mk Ty.cx.rows [(c.1, c.2)])] [] then
          bif g [(c.1, c.2)] then
            bif G 7 [] [] then
              some (AV.v (Value.bool true), [])
            else
              none
          else
            bif G 16 [AV.d (Sigma.mk Ty.cx.rows l)] [] then
              bif G 17 [AV.v (Value.int IntKind.i64 6), AV.d (Sigma.mk Ty.cx.rows l)] [] then
                bif !(cap1 (IntKind.i64.wrap (0 + (wgt (Simple.mk 6 (ByteArray.mk #[]) 0 (ByteArray.mk #[]) 0 0 l)).1)) == (mostL (Spec.mk 0 0 0) l).1 && (cap1 (IntKind.i64.wrap (0 + (wgt (Simple.mk 6 (ByteArray.mk #[]) 0 (ByteArray.mk #[]) 0 0 l)).2)) == (mostL (Spec.mk 0 0 0) l).2 && (cap1 (IntKind.i64.wrap (0 + (wgt (Simple.mk 6 (ByteArray.mk #[]) 0 (ByteArray.mk #[]) 0 0 l)).3)) == (mostL (Spec.mk 0 0 0) l).3 && true))) then
                  some (AV.v (Value.bool false), [])
                else
                  bif G 17 [AV.v (Value.int IntKind.i64 5), AV.d (Sigma.mk Ty.cx.rows l)] [] then
                    bif !(cap1 (IntKind.i64.wrap (0 + (wgt (Simple.mk 5 (ByteArray.mk #[]) 0 (ByteArray.mk #[]) 0 0 l)).1)) == (mostL (Spec.mk 0 0 0) l).1 && (cap1 (IntKind.i64.wrap (0 + (wgt (Simple.mk 5 (ByteArray.mk #[]) 0 (ByteArray.mk #[]) 0 0 l)).2)) == (mostL (Spec.mk 0 0 0) l).2 && (cap1 (IntKind.i64.wrap (0 + (wgt (Simple.mk 5 (ByteArray.mk #[]) 0 (ByteArray.mk #[]) 0 0 l)).3)) == (mostL (Spec.mk 0 0 0) l).3 && true))) then
                      some (AV.v (Value.bool false), [])
                    else
                      bif G 17 [AV.v (Value.int IntKind.i64 7), AV.d (Sigma.mk Ty.cx.rows l)] [] then
                        bif H 5 0 (AS.mk [(0, AV.d (Sigma.mk Ty.cx.rows l)), (3, AV.ptr 0 0), (5, AV.ptr 1 0), (35, AV.d (Sigma.mk Ty.cx.rows l)), (36, AV.v (Value.int IntKind.i64 (↑l.length : Int))), (37, AV.v (Value.int IntKind.i64 0))] [(0, Res.box 40 [AV.d (Sigma.mk Ty.simple.rows.rows c.1), AV.d (Sigma.mk (Ty.int IntKind.i64).rows c.2)]), (1, Res.box 43 [AV.v (Value.int IntKind.i64 (mostL (Spec.mk 0 0 0) l).1), AV.v (Value.int IntKind.i64 (mostL (Spec.mk 0 0 0) l).2), AV.v (Value.int IntKind.i64 (mostL (Spec.mk 0 0 0) l).3)])] 5 78) then
                          bif Nat.beq 50 50 && (Nat.beq 1 1 && ((Value.slice none 0 0).cells.size.beq 1 && (Nat.blt 0 1 && Nat.ble 24 128)) && (((([] : List Nat).length + c.fst.length) * 24).ble 140737488355328 && (([] : List Nat).length + c.fst.length).ble 140737488355328)) then
                            bif Nat.beq 50 50 && (Nat.beq 1 1 && ((Value.slice none 0 0).cells.size.beq 1 && (Nat.blt 0 1 && Nat.ble 24 128)) && (((([] ++ c.fst).length + [[Simple.mk 6 (ByteArray.mk #[]) 0 (ByteArray.mk #[]) 0 0 l]].length) * 24).ble 140737488355328 && (([] ++ c.fst).length + [[Simple.mk 6 (ByteArray.mk #[]) 0 (ByteArray.mk #[]) 0 0 l]].length).ble 140737488355328)) then
                              bif G 19 [AV.agg [AV.d (Sigma.mk Ty.simple.rows.rows ([] ++ c.fst ++ [[Simple.mk 6 (ByteArray.mk #[]) 0 (ByteArray.mk #[]) 0 0 l]])), AV.d (Sigma.mk (Ty.int IntKind.i64).rows [])]] [] then
                                bif G 19 [AV.agg [AV.d (Sigma.mk Ty.simple.rows.rows c.1), AV.d (Sigma.mk (Ty.int IntKind.i64).rows c.2)]] [] then
                                  bif G 18 [AV.agg [AV.v (Value.int IntKind.i64 (ofC ([] ++ c.fst ++ [[Simple.mk 6 (ByteArray.mk #[]) 0 (ByteArray.mk #[]) 0 0 l]], [])).1), AV.v (Value.int IntKind.i64 (ofC ([] ++ c.fst ++ [[Simple.mk 6 (ByteArray.mk #[]) 0 (ByteArray.mk #[]) 0 0 l]], [])).2), AV.v (Value.int IntKind.i64 (ofC ([] ++ c.fst ++ [[Simple.mk 6 (ByteArray.mk #[]) 0 (ByteArray.mk #[]) 0 0 l]], [])).3)], AV.agg [AV.v (Value.int IntKind.i64 (ofC (c.fst, c.snd)).1), AV.v (Value.int IntKind.i64 (ofC (c.fst, c.snd)).2), AV.v (Value.int IntKind.i64 (ofC (c.fst, c.snd)).3)]] [] then
                                    bif !less (Spec.mk (ofC ([] ++ c.fst ++ [[Simple.mk 6 (ByteArray.mk #[]) 0 (ByteArray.mk #[]) 0 0 l]], [])).1 (ofC ([] ++ c.fst ++ [[Simple.mk 6 (ByteArray.mk #[]) 0 (ByteArray.mk #[]) 0 0 l]], [])).2 (ofC ([] ++ c.fst ++ [[Simple.mk 6 (ByteArray.mk #[]) 0 (ByteArray.mk #[]) 0 0 l]], [])).3) (Spec.mk (ofC (c.fst, c.snd)).1 (ofC (c.fst, c.snd)).2 (ofC (c.fst, c.snd)).3) then
                                      bif G 19 [AV.agg [AV.d (Sigma.mk Ty.simple.rows.rows ([] ++ c.fst ++ [[Simple.mk 6 (ByteArray.mk #[]) 0 (ByteArray.mk #[]) 0 0 l]])), AV.d (Sigma.mk (Ty.int IntKind.i64).rows [])]] [] then
                                        bif G 18 [AV.agg [AV.v (Value.int IntKind.i64 (ofC ([] ++ c.fst ++ [[Simple.mk 6 (ByteArray.mk #[]) 0 (ByteArray.mk #[]) 0 0 l]], [])).1), AV.v (Value.int IntKind.i64 (ofC ([] ++ c.fst ++ [[Simple.mk 6 (ByteArray.mk #[]) 0 (ByteArray.mk #[]) 0 0 l]], [])).2), AV.v (Value.int IntKind.i64 (ofC ([] ++ c.fst ++ [[Simple.mk 6 (ByteArray.mk #[]) 0 (ByteArray.mk #[]) 0 0 l]], [])).3)], AV.agg [AV.v (Value.int IntKind.i64 m.1), AV.v (Value.int IntKind.i64 m.2), AV.v (Value.int IntKind.i64 m.3)]] [] then
                                          bif !less (Spec.mk (ofC ([] ++ c.fst ++ [[Simple.mk 6 (ByteArray.mk #[]) 0 (ByteArray.mk #[]) 0 0 l]], [])).1 (ofC ([] ++ c.fst ++ [[Simple.mk 6 (ByteArray.mk #[]) 0 (ByteArray.mk #[]) 0 0 l]], [])).2 (ofC ([] ++ c.fst ++ [[Simple.mk 6 (ByteArray.mk #[]) 0 (ByteArray.mk #[]) 0 0 l]], [])).3) (Spec.mk m.1 m.2 m.3) then
                                            bif G 18 [AV.agg [AV.v (Value.int IntKind.i64 m.1), AV.v (Value.int IntKind.i64 m.2), AV.v (Value.int IntKind.i64 m.3)], AV.agg [AV.v (Value.int IntKind.i64 m.1), AV.v (Value.int IntKind.i64 m.2), AV.v (Value.int IntKind.i64 m.3)]] [] then
                                              bif !less (Spec.mk m.1 m.2 m.3) (Spec.mk m.1 m.2 m.3) then
                                                bif G 7 [] [] then
                                                  some (AV.v (Value.bool true), [])
                                                else
                                                  none
                                              else
                                                some (AV.v (Value.bool false), [])
                                            else
                                              none
                                          else
                                            some (AV.v (Value.bool false), [])
                                        else
                                          none
                                      else
                                        none
                                    else
                                      some (AV.v (Value.bool false), [])
                                  else
                                    none
                                else
                                  none
                              else
                                none
                            else
                              none
                          else
                            none
                        else
                          none
                      else
                        none
                  else
                    none
              else
                none
            else
              none
        else
          none
    else
      none := by kernel_rfl
end Go.Proofs.Ev
namespace Go.Proofs.Ev
open Go Md
set_option linter.unusedVariables false
set_option maxRecDepth 100000
/-! ### the plain law -/
def okSp (x : Spec) : Prop := (0 ≤ x.a ∧ x.a ≤ 65535) ∧ (0 ≤ x.b ∧ x.b ≤ 65535) ∧ (0 ≤ x.c ∧ x.c ≤ 65535)
theorem less_iff (x y : Spec) : less x y = true ↔ x.a < y.a ∨ (x.a = y.a ∧ (x.b < y.b ∨ (x.b = y.b ∧ x.c < y.c))) := by
  unfold less
  by_cases h1 : x.a = y.a
  · by_cases h2 : x.b = y.b
    · simp [h1, h2]
    · simp [h1, h2]
  · simp [h1]
theorem less_false (x y : Spec) : less x y = false ↔ ¬ (x.a < y.a ∨ (x.a = y.a ∧ (x.b < y.b ∨ (x.b = y.b ∧ x.c < y.c)))) := by
  rw [← less_iff]; simp
theorem less_self (x : Spec) : less x x = false := by rw [less_false]; omega
theorem less_trans' {x y z : Spec} (h1 : less x y = false) (h2 : less y z = false) : less x z = false := by
  rw [less_false] at *; omega
theorem cap_wrap {a b : Int} (h1 : 0 ≤ a) (h2 : a ≤ 65535) (h3 : 0 ≤ b) (h4 : b ≤ 65535) : cap1 (IntKind.i64.wrap (a + b)) = if 65535 < a + b then 65535 else a + b := by
  rw [wrap_id (by omega) (by omega)]; rfl
theorem plus_ok {x y : Spec} (hx : okSp x) (hy : okSp y) : okSp (plus x y) ∧ (x.a ≤ (plus x y).a ∧ x.b ≤ (plus x y).b ∧ x.c ≤ (plus x y).c) ∧ (y.a ≤ (plus x y).a ∧ y.b ≤ (plus x y).b ∧ y.c ≤ (plus x y).c) := by
  obtain ⟨⟨a1, a2⟩, ⟨a3, a4⟩, a5, a6⟩ := hx
  obtain ⟨⟨b1, b2⟩, ⟨b3, b4⟩, b5, b6⟩ := hy
  simp only [okSp, plus, cap_wrap a1 a2 b1 b2, cap_wrap a3 a4 b3 b4, cap_wrap a5 a6 b5 b6]
  refine ⟨⟨⟨?_, ?_⟩, ⟨?_, ?_⟩, ?_, ?_⟩, ⟨?_, ?_, ?_⟩, ?_, ?_, ?_⟩ <;> split <;> omega
theorem plus_zero {y : Spec} (hy : okSp y) : plus ⟨0, 0, 0⟩ y = y := by
  obtain ⟨⟨b1, b2⟩, ⟨b3, b4⟩, b5, b6⟩ := hy
  obtain ⟨a, b, c⟩ := y
  dsimp only at *
  simp only [plus, cap_wrap (by omega : (0 : Int) ≤ 0) (by omega) b1 b2, cap_wrap (by omega : (0 : Int) ≤ 0) (by omega) b3 b4, cap_wrap (by omega : (0 : Int) ≤ 0) (by omega) b5 b6]
  rw [if_neg (by omega), if_neg (by omega), if_neg (by omega)]
  simp
theorem ok0 : okSp ⟨0, 0, 0⟩ := by simp [okSp]
mutual
theorem wgt_ok (s : Simple) : okSp (wgt s) :=
  match s with
  | ⟨k, n, o, v, a, b, l⟩ => by
    have hl := mostL_ok l ⟨0, 0, 0⟩ ok0
    unfold wgt
    cases (k == 3) <;> cases (k == 1) <;> cases (!n.toList == (ByteArray.mk #[42]).toList) <;> cases (k == 5 || k == 6) <;> cases isB k <;> first | exact hl | simp [okSp]
  termination_by structural s
theorem mostL_ok (l : List (List (List Simple) × List Int)) : ∀ m, okSp m → okSp (mostL m l) :=
  match l with
  | [] => fun m h => by unfold mostL; exact h
  | c :: l => fun m h => by
    have hc := ofC_ok c
    have ih := mostL_ok l
    unfold mostL
    refine ih _ ?_
    cases less m (ofC c)
    · exact h
    · exact hc
  termination_by structural l
theorem ofC_ok (c : List (List Simple) × List Int) : okSp (ofC c) :=
  match c with
  | (p, q) => by
    have := ofPs_ok p ⟨0, 0, 0⟩ ok0
    unfold ofC
    exact this
  termination_by structural c
theorem ofPs_ok (P : List (List Simple)) : ∀ m, okSp m → okSp (ofPs m P) :=
  match P with
  | [] => fun m h => by unfold ofPs; exact h
  | p :: P => fun m h => by
    have hp := ofP_ok p m h
    have ih := ofPs_ok P
    unfold ofPs
    exact ih _ hp
  termination_by structural P
theorem ofP_ok (p : List Simple) : ∀ m, okSp m → okSp (ofP m p) :=
  match p with
  | [] => fun m h => by unfold ofP; exact h
  | s :: p => fun m h => by
    have hs := wgt_ok s
    have ih := ofP_ok p
    unfold ofP
    exact ih _ (plus_ok h hs).1
  termination_by structural p
end
theorem mostL_ge : ∀ (l : List Cx) (m : Spec), less (mostL m l) m = false ∧ ∀ c ∈ l, less (mostL m l) (ofC c) = false
  | [], m => by
    unfold mostL
    exact ⟨less_self m, fun c hc => by cases hc⟩
  | c :: l, m => by
    unfold mostL
    obtain ⟨h1, h2⟩ := mostL_ge l (bif less m (ofC c) then ofC c else m)
    have h3 : less (bif less m (ofC c) then ofC c else m) m = false ∧ less (bif less m (ofC c) then ofC c else m) (ofC c) = false := by
      cases h : less m (ofC c) with
      | true =>
        simp only [cond_true]
        refine ⟨?_, less_self _⟩
        rw [less_iff] at h
        rw [less_false]; omega
      | false => exact ⟨less_self m, h⟩
    refine ⟨less_trans' h1 h3.1, fun d hd => ?_⟩
    rcases List.mem_cons.1 hd with rfl | hd
    · exact less_trans' h1 h3.2
    · exact h2 d hd
theorem ofPs_append (m : Spec) : ∀ (P Q : List (List Simple)), ofPs m (P ++ Q) = ofPs (ofPs m P) Q := by
  intro P
  induction P generalizing m with
  | nil => intro Q; simp [ofPs]
  | cons p P ih => intro Q; simp only [List.cons_append, ofPs, ih]
theorem within_is (k : Int) (hk : k = 6 ∨ k = 5) (l : List Cx) : wgt (one7 k l) = mostL ⟨0, 0, 0⟩ l := by
  rcases hk with rfl | rfl <;> (unfold wgt; rfl)
theorem within_where (l : List Cx) : wgt (one7 7 l) = ⟨0, 0, 0⟩ := by unfold wgt; rfl
theorem more_ge (l : List Cx) (c : Cx) : less (ofC ([] ++ c.1 ++ [[one7 6 l]], [])) (ofC (c.1, c.2)) = false ∧ less (ofC ([] ++ c.1 ++ [[one7 6 l]], [])) (mostL ⟨0, 0, 0⟩ l) = false := by
  have h : ofC ([] ++ c.1 ++ [[one7 6 l]], []) = plus (ofC (c.1, c.2)) (mostL ⟨0, 0, 0⟩ l) := by
    simp only [ofC, List.nil_append, ofPs_append, ofPs, ofP, within_is 6 (.inl rfl)]
  rw [h]
  obtain ⟨_, ⟨h1, h2, h3⟩, h4, h5, h6⟩ := plus_ok (ofC_ok (c.1, c.2)) (mostL_ok l ⟨0, 0, 0⟩ ok0)
  constructor <;> rw [less_false] <;> omega
end Go.Proofs.Ev
namespace Go.Proofs.Ev
open Go Md
set_option linter.unusedVariables false
set_option maxRecDepth 100000
theorem within_sound (k : Int) (l : List Cx) (hl : l.length < 4611686018427387904) (hf : fitL l) : CallSound door 17 [aI k, .d ⟨.rows .cx, l⟩] [] (aS (within k l), []) := by
  have h : CallSound door 19 [aCx ([[one7 k l]], [])] [] (aS (ofC ([[one7 k l]], [])), []) := ofC_all ([[one7 k l]], []) (by simp [fitC, fitPs, fitP, fitS, hl, hf])
  have e := within_eq (gC door tS) (gL door lS 0) k l
  refine fun_walk door_mixed _ _ 0 rfl (e.trans ((bif_true (gC_mk (T := tS) (by kernel_rfl) h)).trans ?_))
  show _ = _
  unfold within ofC ofPs ofPs ofP ofP
  kernel_rfl
noncomputable def gB (l : List Cx) : Bool := by
  classical exact if h : ∃ b : Bool, CallSound door 15 [.d ⟨.rows .cx, l⟩] [] (.v (.bool b), []) then h.choose else false
theorem gB_sound (l : List Cx) (hl : l.length < 4611686018427387904) (hf : fitL l) : CallSound door 15 [.d ⟨.rows .cx, l⟩] [] (.v (.bool (gB l)), []) := by
  have h := great_sound l hl hf
  unfold gB
  rw [dif_pos h]
  exact h.choose_spec
theorem ss_loop (l : List Cx) (c : Cx) (hl : l.length < 4611686018427387904) (hw : ∀ x ∈ l, CallSound door 19 [aCx x] [] (aS (ofC x), [])) (m : Spec) (hm : ∀ x ∈ l, less m (ofC x) = false) :
    ∀ (k i : Nat), i + k = l.length → LoopIs door 5 0 0 (hd5_0 l c m i) (ex5_0 l c m) := by
  intro k
  induction k with
  | zero =>
    intro i hi
    have e := ss0_eq (gC door (tX gB)) (gL door (lW r0) 0) gB r0 l c m i
    rw [decide_eq_false (by omega)] at e
    exact LoopIs.last door_mixed e
  | succ k ih =>
    intro i hi
    have hlt : i < l.length := by omega
    obtain ⟨x, h1, h2, h3⟩ := list_at hlt
    have e := ss0_eq (gC door (tX gB)) (gL door (lW r0) 0) gB r0 l c m i
    rw [decide_eq_true (by omega)] at e
    simp only [cond_true, Int.toNat_natCast, h1] at e
    have g1 := gC_mk (T := tX gB) (by kernel_rfl) (hw x h2)
    have g2 := gC_mk (T := tX gB) (by kernel_rfl) (less_sound m (ofC x))
    have hm' : less (Spec.mk m.1 m.2 m.3) (Spec.mk (ofC (x.fst, x.snd)).1 (ofC (x.fst, x.snd)).2 (ofC (x.fst, x.snd)).3) = false := hm x h2
    rw [g1, show gC door (tX gB) 18 _ [] = true from g2, hm', wrap_nat (by omega)] at e
    exact LoopIs.next door_mixed e (ih (i + 1) (by omega))
theorem specs_sound (l : List Cx) (c : Cx) (hl : l.length < 4611686018427387904) (hf : fitL l) (hc : fitC c) (hlen : (c.1.length + 1) * 24 ≤ 140737488355328) : CallSound door 5 [.d ⟨.rows .cx, l⟩, aCx c] [] (.v (.bool true), []) := by
  have e := ss_eq (gC door (tX gB)) (gL door (lW (ex5_0 l c (mostL ⟨0, 0, 0⟩ l))) 0) gB (mostL ⟨0, 0, 0⟩ l) l c
  have hp : c.1.length < 4611686018427387904 := by omega
  have one : fitL [c] := by simp [fitL, hc]
  have a1 := gC_mk (T := tX gB) (by kernel_rfl) (gB_sound l hl hf)
  have a2 := gC_mk (T := tX gB) (by kernel_rfl) (gB_sound [c] (by simp) one)
  have a3 := gC_mk (T := tX gB) (by kernel_rfl) lives_sound
  have a4 := gC_mk (T := tX gB) (by kernel_rfl) (most_sound l hl (mostL_all l hf))
  have a5 := gC_mk (T := tX gB) (by kernel_rfl) (within_sound 6 l hl hf)
  have a6 := gC_mk (T := tX gB) (by kernel_rfl) (within_sound 5 l hl hf)
  have a7 := gC_mk (T := tX gB) (by kernel_rfl) (within_sound 7 l hl hf)
  have a8 := gL_mk (L := lW (ex5_0 l c (mostL ⟨0, 0, 0⟩ l))) rfl (ss_loop l c hl (mostL_all l hf) _ (mostL_ge l ⟨0, 0, 0⟩).2 l.length 0 (by omega))
  have d1 : fitC ([] ++ c.1 ++ [[one7 6 l]], []) := by
    obtain ⟨P, q⟩ := c
    simp only [fitC] at hc ⊢
    have app : ∀ P : List (List Simple), fitPs P → fitPs (P ++ [[one7 6 l]]) := by
      intro P
      induction P with
      | nil => intro _; simp [fitPs, fitP, fitS, hl, hf]
      | cons p P ih => intro h; simp only [fitPs, List.cons_append] at h ⊢; exact ⟨h.1, ih h.2⟩
    refine ⟨⟨?_, by simp⟩, by simpa using app P hc.2⟩
    simp at hlen ⊢; omega
  have a9 := gC_mk (T := tX gB) (by kernel_rfl) (ofC_all ([] ++ c.1 ++ [[one7 6 l]], []) d1)
  have a10 := gC_mk (T := tX gB) (by kernel_rfl) (ofC_all c hc)
  have a11 := gC_mk (T := tX gB) (by kernel_rfl) (less_sound (ofC ([] ++ c.1 ++ [[one7 6 l]], [])) (ofC (c.1, c.2)))
  have a12 := gC_mk (T := tX gB) (by kernel_rfl) (less_sound (ofC ([] ++ c.1 ++ [[one7 6 l]], [])) (mostL ⟨0, 0, 0⟩ l))
  have a13 := gC_mk (T := tX gB) (by kernel_rfl) (less_sound (mostL ⟨0, 0, 0⟩ l) (mostL ⟨0, 0, 0⟩ l))
  have z : ∀ {x y : Spec}, x = y → (!(x.a == y.a && (x.b == y.b && (x.c == y.c && true)))) = false := fun h => by rw [h]; simp
  have hm := mostL_ok l ⟨0, 0, 0⟩ ok0
  refine fun_walk door_mixed _ _ 0 rfl (e.trans ((bif_true a1).trans ?_))
  cases gB l with
  | true => exact bif_true a3
  | false =>
  refine (bif_true a2).trans ?_
  cases gB [(c.1, c.2)] with
  | true => exact bif_true a3
  | false =>
  refine (bif_true a4).trans ((bif_true a5).trans ((bif_false ?_).trans ?_))
  · exact z (x := plus ⟨0, 0, 0⟩ (wgt (one7 6 l))) (by rw [within_is 6 (.inl rfl), plus_zero hm])
  refine (bif_true a6).trans ((bif_false ?_).trans ?_)
  · exact z (x := plus ⟨0, 0, 0⟩ (wgt (one7 5 l))) (by rw [within_is 5 (.inr rfl), plus_zero hm])
  refine (bif_true a7).trans ?_
  refine (bif_true a8).trans ((bif_true ?_).trans ((bif_true ?_).trans ?_))
  · exact (show (Nat.ble ((0 + c.1.length) * 24) 140737488355328 && Nat.ble (0 + c.1.length) 140737488355328) = true by rw [Nat.ble_eq_true_of_le (by omega), Nat.ble_eq_true_of_le (by omega)]; rfl)
  · exact (show (Nat.ble ((c.1.length + 1) * 24) 140737488355328 && Nat.ble (c.1.length + 1) 140737488355328) = true by rw [Nat.ble_eq_true_of_le (by omega), Nat.ble_eq_true_of_le (by omega)]; rfl)
  refine (bif_true a9).trans ((bif_true a10).trans ((bif_true a11).trans ((bif_true ?_).trans ?_)))
  · have := (more_ge l c).1
    exact congrArg not this
  refine (bif_true a9).trans ((bif_true a12).trans ((bif_true ?_).trans ?_))
  · exact congrArg not (more_ge l c).2
  refine (bif_true a13).trans ((bif_true ?_).trans ?_)
  · exact congrArg not (less_self _)
  exact bif_true a3
end Go.Proofs.Ev
