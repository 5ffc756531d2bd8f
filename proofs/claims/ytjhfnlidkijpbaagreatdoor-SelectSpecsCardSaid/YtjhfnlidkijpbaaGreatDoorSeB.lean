/-
  An evaluator by value of the model of the program, proved sound, and what it shows of this law: part SeB.
-/
import Derived.Test.YtjhfnlidkijpbaaGreatDoorSeA
namespace Go.Proofs.Ev
open Go Md
set_option maxRecDepth 100000
theorem less_eq (G : GT) (H : HT) (x y : Spec) : evF door ⟨G, tS⟩ ⟨H, lS⟩ 10 18 [aS x, aS y] [] =
    bif x.1 != y.1 then
      some (AV.v (Value.bool (decide (x.a < y.a))), [])
    else
      bif x.2 != y.2 then
        some (AV.v (Value.bool (decide (x.b < y.b))), [])
      else
        some (AV.v (Value.bool (decide (x.c < y.c))), []) := by kernel_rfl
theorem weight_eq (G : GT) (H : HT) (x : Simple) : evF door ⟨G, tS⟩ ⟨H, lS⟩ 10 36 [aSim x] [] =
    bif x.1 == 3 then
      some (AV.agg [AV.v (Value.int IntKind.i64 1), AV.v (Value.int IntKind.i64 0), AV.v (Value.int IntKind.i64 0)], [])
    else
      bif x.1 == 1 then
        bif !x.2.toList == (ByteArray.mk #[42]).toList then
          some (AV.agg [AV.v (Value.int IntKind.i64 0), AV.v (Value.int IntKind.i64 0), AV.v (Value.int IntKind.i64 1)], [])
        else
          some (AV.agg [AV.v (Value.int IntKind.i64 0), AV.v (Value.int IntKind.i64 0), AV.v (Value.int IntKind.i64 0)], [])
      else
        bif x.1 == 5 then
          bif G 16 [AV.d (Sigma.mk Ty.cx.rows x.7)] [] then
            some (AV.agg [AV.v (Value.int IntKind.i64 (mostL (Spec.mk 0 0 0) x.list).1), AV.v (Value.int IntKind.i64 (mostL (Spec.mk 0 0 0) x.list).2), AV.v (Value.int IntKind.i64 (mostL (Spec.mk 0 0 0) x.list).3)], [])
          else
            none
        else
          bif x.1 == 6 then
            bif G 16 [AV.d (Sigma.mk Ty.cx.rows x.7)] [] then
              some (AV.agg [AV.v (Value.int IntKind.i64 (mostL (Spec.mk 0 0 0) x.list).1), AV.v (Value.int IntKind.i64 (mostL (Spec.mk 0 0 0) x.list).2), AV.v (Value.int IntKind.i64 (mostL (Spec.mk 0 0 0) x.list).3)], [])
            else
              none
          else
            bif x.1 == 2 then
              some (AV.agg [AV.v (Value.int IntKind.i64 0), AV.v (Value.int IntKind.i64 1), AV.v (Value.int IntKind.i64 0)], [])
            else
              bif x.1 == 4 then
                some (AV.agg [AV.v (Value.int IntKind.i64 0), AV.v (Value.int IntKind.i64 1), AV.v (Value.int IntKind.i64 0)], [])
              else
                bif x.1 == 8 then
                  some (AV.agg [AV.v (Value.int IntKind.i64 0), AV.v (Value.int IntKind.i64 1), AV.v (Value.int IntKind.i64 0)], [])
                else
                  bif x.1 == 9 then
                    some (AV.agg [AV.v (Value.int IntKind.i64 0), AV.v (Value.int IntKind.i64 1), AV.v (Value.int IntKind.i64 0)], [])
                  else
                    bif x.1 == 10 then
                      some (AV.agg [AV.v (Value.int IntKind.i64 0), AV.v (Value.int IntKind.i64 1), AV.v (Value.int IntKind.i64 0)], [])
                    else
                      bif x.1 == 11 then
                        some (AV.agg [AV.v (Value.int IntKind.i64 0), AV.v (Value.int IntKind.i64 1), AV.v (Value.int IntKind.i64 0)], [])
                      else
                        some (AV.agg [AV.v (Value.int IntKind.i64 0), AV.v (Value.int IntKind.i64 0), AV.v (Value.int IntKind.i64 0)], []) := by kernel_rfl
theorem of2_eq (G : GT) (H : HT) (P : List (List Simple)) (i : Nat) (p : List Simple) (j : Nat) (m : Spec) : evRound door ⟨G, tS⟩ ⟨H, lS⟩ 0 10 19 2 (hd19_2 P i p j m) =
    bif decide ((↑j : Int) < (↑p.length : Int)) then
      match p[(↑j : Int).toNat]? with
      | none => none
      | some y0 =>
        bif G 36 [AV.agg [AV.v (Value.int IntKind.i64 y0.1), AV.v (Value.string y0.2), AV.v (Value.int IntKind.i64 y0.3), AV.v (Value.string y0.4), AV.v (Value.int IntKind.i64 y0.5), AV.v (Value.int IntKind.i64 y0.6), AV.d (Sigma.mk Ty.cx.rows y0.7)]] [] then
          some (Sum.inl (AS.mk [(2, AV.ptr 0 0), (3, AV.ptr 1 0), (10, AV.d (Sigma.mk Ty.simple.rows.rows P)), (11, AV.v (Value.int IntKind.i64 (↑P.length : Int))), (12, AV.v (Value.int IntKind.i64 (↑i : Int))), (16, AV.d (Sigma.mk Ty.simple.rows p)), (17, AV.v (Value.int IntKind.i64 (↑p.length : Int))), (18, AV.v (Value.int IntKind.i64 (IntKind.i64.wrap ((↑j : Int) + 1))))] [(0, Res.box 43 [AV.v (Value.int IntKind.i64 0), AV.v (Value.int IntKind.i64 0), AV.v (Value.int IntKind.i64 0)]), (1, Res.box 43 [AV.v (Value.int IntKind.i64 (if 65535 < IntKind.i64.wrap (m.a + (wgt (Simple.mk y0.kind y0.name y0.op y0.value y0.a y0.b y0.list)).a) then 65535 else IntKind.i64.wrap (m.1 + (wgt (Simple.mk y0.kind y0.name y0.op y0.value y0.a y0.b y0.list)).1))), AV.v (Value.int IntKind.i64 (if 65535 < IntKind.i64.wrap (m.b + (wgt (Simple.mk y0.kind y0.name y0.op y0.value y0.a y0.b y0.list)).b) then 65535 else IntKind.i64.wrap (m.2 + (wgt (Simple.mk y0.kind y0.name y0.op y0.value y0.a y0.b y0.list)).2))), AV.v (Value.int IntKind.i64 (if 65535 < IntKind.i64.wrap (m.c + (wgt (Simple.mk y0.kind y0.name y0.op y0.value y0.a y0.b y0.list)).c) then 65535 else IntKind.i64.wrap (m.3 + (wgt (Simple.mk y0.kind y0.name y0.op y0.value y0.a y0.b y0.list)).3)))])] 19 48))
        else
          none
    else
      some (Sum.inr (Ex.exit 2, AS.mk [(2, AV.ptr 0 0), (3, AV.ptr 1 0), (10, AV.d (Sigma.mk Ty.simple.rows.rows P)), (11, AV.v (Value.int IntKind.i64 (↑P.length : Int))), (12, AV.v (Value.int IntKind.i64 (↑i : Int)))] [(0, Res.box 43 [AV.v (Value.int IntKind.i64 0), AV.v (Value.int IntKind.i64 0), AV.v (Value.int IntKind.i64 0)]), (1, Res.box 43 [AV.v (Value.int IntKind.i64 m.1), AV.v (Value.int IntKind.i64 m.2), AV.v (Value.int IntKind.i64 m.3)])] 19 48)) := by kernel_rfl
theorem of0_eq (G : GT) (H : HT) (P : List (List Simple)) (i : Nat) (m : Spec) : evRound door ⟨G, tS⟩ ⟨H, lS⟩ 0 10 19 0 (hd19_0 P i m) =
    bif decide ((↑i : Int) < (↑P.length : Int)) then
      match P[(↑i : Int).toNat]? with
      | none => none
      | some y0 =>
        bif H 19 2 (AS.mk [(2, AV.ptr 0 0), (3, AV.ptr 1 0), (10, AV.d (Sigma.mk Ty.simple.rows.rows P)), (11, AV.v (Value.int IntKind.i64 (↑P.length : Int))), (12, AV.v (Value.int IntKind.i64 (↑i : Int))), (16, AV.d (Sigma.mk Ty.simple.rows y0)), (17, AV.v (Value.int IntKind.i64 (↑y0.length : Int))), (18, AV.v (Value.int IntKind.i64 0))] [(0, Res.box 43 [AV.v (Value.int IntKind.i64 0), AV.v (Value.int IntKind.i64 0), AV.v (Value.int IntKind.i64 0)]), (1, Res.box 43 [AV.v (Value.int IntKind.i64 m.1), AV.v (Value.int IntKind.i64 m.2), AV.v (Value.int IntKind.i64 m.3)])] 19 48) then
          some (Sum.inl (AS.mk [(2, AV.ptr 0 0), (3, AV.ptr 1 0), (10, AV.d (Sigma.mk Ty.simple.rows.rows P)), (11, AV.v (Value.int IntKind.i64 (↑P.length : Int))), (12, AV.v (Value.int IntKind.i64 (IntKind.i64.wrap ((↑i : Int) + 1))))] [(0, Res.box 43 [AV.v (Value.int IntKind.i64 0), AV.v (Value.int IntKind.i64 0), AV.v (Value.int IntKind.i64 0)]), (1, Res.box 43 [AV.v (Value.int IntKind.i64 (ofP (Spec.mk m.a m.b m.c) y0).1), AV.v (Value.int IntKind.i64 (ofP (Spec.mk m.a m.b m.c) y0).2), AV.v (Value.int IntKind.i64 (ofP (Spec.mk m.a m.b m.c) y0).3)])] 19 48))
        else
          none
    else
      some (Sum.inr (Ex.exit 0, AS.mk [(2, AV.ptr 0 0), (3, AV.ptr 1 0)] [(0, Res.box 43 [AV.v (Value.int IntKind.i64 0), AV.v (Value.int IntKind.i64 0), AV.v (Value.int IntKind.i64 0)]), (1, Res.box 43 [AV.v (Value.int IntKind.i64 m.1), AV.v (Value.int IntKind.i64 m.2), AV.v (Value.int IntKind.i64 m.3)])] 19 48)) := by kernel_rfl
theorem of_eq (G : GT) (H : HT) (c : Cx) : evF door ⟨G, tS⟩ ⟨H, lS⟩ 10 19 [aCx c] [] =
    bif H 19 0 (AS.mk [(2, AV.ptr 0 0), (3, AV.ptr 1 0), (10, AV.d (Sigma.mk Ty.simple.rows.rows c.1)), (11, AV.v (Value.int IntKind.i64 (↑c.fst.length : Int))), (12, AV.v (Value.int IntKind.i64 0))] [(0, Res.box 43 [AV.v (Value.int IntKind.i64 0), AV.v (Value.int IntKind.i64 0), AV.v (Value.int IntKind.i64 0)]), (1, Res.box 43 [AV.v (Value.int IntKind.i64 0), AV.v (Value.int IntKind.i64 0), AV.v (Value.int IntKind.i64 0)])] 19 48) then
      some (AV.agg [AV.v (Value.int IntKind.i64 (ofPs (Spec.mk 0 0 0) c.fst).1), AV.v (Value.int IntKind.i64 (ofPs (Spec.mk 0 0 0) c.fst).2), AV.v (Value.int IntKind.i64 (ofPs (Spec.mk 0 0 0) c.fst).3)], [])
    else
      none := by kernel_rfl
theorem most0_eq (G : GT) (H : HT) (l : List Cx) (i : Nat) (m : Spec) : evRound door ⟨G, tS⟩ ⟨H, lS⟩ 0 10 16 0 (hd16_0 l i m) =
    bif decide ((↑i : Int) < (↑l.length : Int)) then
      match l[(↑i : Int).toNat]? with
      | none => none
      | some y0 =>
        bif G 19 [AV.agg [AV.d (Sigma.mk Ty.simple.rows.rows y0.1), AV.d (Sigma.mk (Ty.int IntKind.i64).rows y0.2)]] [] then
          bif G 18 [AV.agg [AV.v (Value.int IntKind.i64 m.1), AV.v (Value.int IntKind.i64 m.2), AV.v (Value.int IntKind.i64 m.3)], AV.agg [AV.v (Value.int IntKind.i64 (ofC (y0.fst, y0.snd)).1), AV.v (Value.int IntKind.i64 (ofC (y0.fst, y0.snd)).2), AV.v (Value.int IntKind.i64 (ofC (y0.fst, y0.snd)).3)]] [] then
            bif less (Spec.mk m.1 m.2 m.3) (Spec.mk (ofC (y0.fst, y0.snd)).1 (ofC (y0.fst, y0.snd)).2 (ofC (y0.fst, y0.snd)).3) then
              some (Sum.inl (AS.mk [(2, AV.ptr 0 0), (3, AV.ptr 1 0), (7, AV.d (Sigma.mk Ty.cx.rows l)), (8, AV.v (Value.int IntKind.i64 (↑l.length : Int))), (9, AV.v (Value.int IntKind.i64 (IntKind.i64.wrap ((↑i : Int) + 1))))] [(0, Res.box 43 [AV.v (Value.int IntKind.i64 0), AV.v (Value.int IntKind.i64 0), AV.v (Value.int IntKind.i64 0)]), (1, Res.box 43 [AV.v (Value.int IntKind.i64 (ofC (y0.fst, y0.snd)).1), AV.v (Value.int IntKind.i64 (ofC (y0.fst, y0.snd)).2), AV.v (Value.int IntKind.i64 (ofC (y0.fst, y0.snd)).3)])] 16 21))
            else
              some (Sum.inl (AS.mk [(2, AV.ptr 0 0), (3, AV.ptr 1 0), (7, AV.d (Sigma.mk Ty.cx.rows l)), (8, AV.v (Value.int IntKind.i64 (↑l.length : Int))), (9, AV.v (Value.int IntKind.i64 (IntKind.i64.wrap ((↑i : Int) + 1))))] [(0, Res.box 43 [AV.v (Value.int IntKind.i64 0), AV.v (Value.int IntKind.i64 0), AV.v (Value.int IntKind.i64 0)]), (1, Res.box 43 [AV.v (Value.int IntKind.i64 m.1), AV.v (Value.int IntKind.i64 m.2), AV.v (Value.int IntKind.i64 m.3)])] 16 21))
          else
            none
        else
          none
    else
      some (Sum.inr (Ex.exit 0, AS.mk [(2, AV.ptr 0 0), (3, AV.ptr 1 0)] [(0, Res.box 43 [AV.v (Value.int IntKind.i64 0), AV.v (Value.int IntKind.i64 0), AV.v (Value.int IntKind.i64 0)]), (1, Res.box 43 [AV.v (Value.int IntKind.i64 m.1), AV.v (Value.int IntKind.i64 m.2), AV.v (Value.int IntKind.i64 m.3)])] 16 21)) := by kernel_rfl
theorem most_eq (G : GT) (H : HT) (l : List Cx) : evF door ⟨G, tS⟩ ⟨H, lS⟩ 10 16 [.d ⟨.rows .cx, l⟩] [] =
    bif H 16 0 (AS.mk [(2, AV.ptr 0 0), (3, AV.ptr 1 0), (7, AV.d (Sigma.mk Ty.cx.rows l)), (8, AV.v (Value.int IntKind.i64 (↑l.length : Int))), (9, AV.v (Value.int IntKind.i64 0))] [(0, Res.box 43 [AV.v (Value.int IntKind.i64 0), AV.v (Value.int IntKind.i64 0), AV.v (Value.int IntKind.i64 0)]), (1, Res.box 43 [AV.v (Value.int IntKind.i64 0), AV.v (Value.int IntKind.i64 0), AV.v (Value.int IntKind.i64 0)])] 16 21) then
      some (AV.agg [AV.v (Value.int IntKind.i64 (mostL (Spec.mk 0 0 0) l).1), AV.v (Value.int IntKind.i64 (mostL (Spec.mk 0 0 0) l).2), AV.v (Value.int IntKind.i64 (mostL (Spec.mk 0 0 0) l).3)], [])
    else
      none := by kernel_rfl
theorem within_eq (G : GT) (H : HT) (k : Int) (l : List Cx) : evF door ⟨G, tS⟩ ⟨H, lS⟩ 10 17 [aI k, .d ⟨.rows .cx, l⟩] [] =
    bif G 19 [AV.agg [AV.d (Sigma.mk Ty.simple.rows.rows [[Simple.mk k (ByteArray.mk #[]) 0 (ByteArray.mk #[]) 0 0 l]]), AV.d (Sigma.mk (Ty.int IntKind.i64).rows [])]] [] then
      some (AV.agg [AV.v (Value.int IntKind.i64 (cap1 (IntKind.i64.wrap (0 + (wgt (Simple.mk k (ByteArray.mk #[]) 0 (ByteArray.mk #[]) 0 0 l)).1)))), AV.v (Value.int IntKind.i64 (cap1 (IntKind.i64.wrap (0 + (wgt (Simple.mk k (ByteArray.mk #[]) 0 (ByteArray.mk #[]) 0 0 l)).2)))), AV.v (Value.int IntKind.i64 (cap1 (IntKind.i64.wrap (0 + (wgt (Simple.mk k (ByteArray.mk #[]) 0 (ByteArray.mk #[]) 0 0 l)).3))))], [])
    else
      none := by kernel_rfl
end Go.Proofs.Ev
namespace Go.Proofs.Ev
open Go Md
set_option linter.unusedVariables false
set_option maxRecDepth 100000
theorem wrap_id {n : Int} (h : 0 ≤ n) (h2 : n < 9223372036854775808) : IntKind.i64.wrap n = n := by
  rw [show IntKind.i64.wrap n = (if n % 18446744073709551616 ≥ 9223372036854775808 then n % 18446744073709551616 - 18446744073709551616 else n % 18446744073709551616) by simp [IntKind.wrap, IntKind.bits, IntKind.signed]]
  rw [Int.emod_eq_of_lt h (by omega), if_neg (by omega)]
theorem wrap_nat {n : Nat} (h : n < 9223372036854775807) : IntKind.i64.wrap ((n : Int) + 1) = ((n + 1 : Nat) : Int) := by
  rw [wrap_id (by omega) (by omega)]; rfl
mutual
def fitS : Simple → Prop
  | ⟨_, _, _, _, _, _, l⟩ => l.length < 4611686018427387904 ∧ fitL l
def fitL : List (List (List Simple) × List Int) → Prop
  | [] => True
  | c :: l => fitC c ∧ fitL l
def fitC : List (List Simple) × List Int → Prop
  | (p, q) => (p.length < 4611686018427387904 ∧ q.length < 4611686018427387904) ∧ fitPs p
def fitPs : List (List Simple) → Prop
  | [] => True
  | p :: l => (p.length < 4611686018427387904 ∧ fitP p) ∧ fitPs l
def fitP : List Simple → Prop
  | [] => True
  | s :: l => fitS s ∧ fitP l
end
theorem list_at {α : Type} {l : List α} {j : Nat} (h : j < l.length) : ∃ s, l[j]? = some s ∧ s ∈ l ∧ l.drop j = s :: l.drop (j + 1) :=
  ⟨l[j], List.getElem?_eq_getElem h, List.getElem_mem h, List.drop_eq_getElem_cons h⟩
theorem less_sound (x y : Spec) : CallSound door 18 [aS x, aS y] [] (.v (.bool (less x y)), []) := by
  refine fun_walk door_mixed tS lS (n := 10) 0 rfl ?_
  rw [less_eq]
  unfold less
  cases (x.a != y.a) <;> cases (x.b != y.b) <;> kernel_rfl
theorem weight_sound (x : Simple) (h : CallSound door 16 [.d ⟨.rows .cx, x.list⟩] [] (aS (mostL ⟨0, 0, 0⟩ x.list), [])) : CallSound door 36 [aSim x] [] (aS (wgt x), []) := by
  refine fun_walk door_mixed tS lS (n := 10) 0 rfl ?_
  rw [weight_eq, gC_mk (T := tS) (by kernel_rfl) h]
  obtain ⟨k, n, o, v, a, b, l⟩ := x
  unfold wgt isB
  dsimp only
  cases (k == 3) <;> cases (k == 1) <;> cases (k == 5) <;> cases (k == 6) <;> cases (k == 2) <;> cases (k == 4) <;> cases (k == 8) <;> cases (k == 9) <;> cases (k == 10) <;> cases (k == 11) <;> cases (!n.toList == (ByteArray.mk #[42]).toList) <;> kernel_rfl
theorem ofP_loop (P : List (List Simple)) (i : Nat) (p : List Simple) (hp : p.length < 4611686018427387904) (hw : ∀ s ∈ p, CallSound door 36 [aSim s] [] (aS (wgt s), [])) :
    ∀ (k j : Nat) (m : Spec), j + k = p.length → LoopIs door 19 2 0 (hd19_2 P i p j m) (.exit 2, hd19_0 P i (ofP m (p.drop j))) := by
  intro k
  induction k with
  | zero =>
    intro j m hj
    refine LoopIs.last door_mixed (T := tS) (L := lS) (n := 10) ?_
    rw [of2_eq, decide_eq_false (by omega), List.drop_of_length_le (by omega)]
    kernel_rfl
  | succ k ih =>
    intro j m hj
    have hlt : j < p.length := by omega
    obtain ⟨s, h1, h2, h3⟩ := list_at hlt
    have hs := hw s h2
    rw [h3]
    refine LoopIs.next door_mixed (T := tS) (L := lS) (n := 10) (st2 := hd19_2 P i p (j + 1 : Nat) (plus m (wgt s))) ?_ ?_
    · rw [of2_eq, decide_eq_true (by omega)]
      simp only [cond_true, Int.toNat_natCast, h1]
      cases s
      rw [gC_mk (T := tS) (by kernel_rfl) hs, wrap_nat (by omega)]
      kernel_rfl
    · simpa only [ofP] using ih (j + 1) (plus m (wgt s)) (by omega)
theorem ofPs_loop (P : List (List Simple)) (hP : P.length < 4611686018427387904) (hw : ∀ p ∈ P, p.length < 4611686018427387904 ∧ ∀ s ∈ p, CallSound door 36 [aSim s] [] (aS (wgt s), [])) :
    ∀ (k i : Nat) (m : Spec), i + k = P.length → LoopIs door 19 0 0 (hd19_0 P i m) (.exit 0, ex19_0 (ofPs m (P.drop i))) := by
  intro k
  induction k with
  | zero =>
    intro i m hi
    refine LoopIs.last door_mixed (T := tS) (L := lS) (n := 10) ?_
    rw [of0_eq, decide_eq_false (by omega), List.drop_of_length_le (by omega)]
    kernel_rfl
  | succ k ih =>
    intro i m hi
    have hlt : i < P.length := by omega
    obtain ⟨p, h1, h2, h3⟩ := list_at hlt
    have hp := hw p h2
    rw [h3]
    refine LoopIs.next door_mixed (T := tS) (L := lS) (n := 10) (st2 := hd19_0 P (i + 1 : Nat) (ofP m p)) ?_ ?_
    · have h0 : LoopIs door 19 2 0 (hd19_2 P i p 0 m) (.exit 2, hd19_0 P i (ofP m p)) := ofP_loop P i p hp.1 hp.2 p.length 0 m (by omega)
      rw [of0_eq, decide_eq_true (by omega)]
      simp only [cond_true, Int.toNat_natCast, h1]
      rw [gL_mk (L := lS) (by kernel_rfl) h0, wrap_nat (by omega)]
      show _ = _
      kernel_rfl
    · simpa only [ofPs] using ih (i + 1) (ofP m p) (by omega)
theorem of_sound (c : Cx) (hP : c.1.length < 4611686018427387904) (hw : ∀ p ∈ c.1, p.length < 4611686018427387904 ∧ ∀ s ∈ p, CallSound door 36 [aSim s] [] (aS (wgt s), [])) : CallSound door 19 [aCx c] [] (aS (ofC c), []) := by
  refine fun_walk door_mixed tS lS (n := 10) 0 rfl ?_
  have h0 : LoopIs door 19 0 0 (hd19_0 c.1 0 ⟨0, 0, 0⟩) (.exit 0, ex19_0 (ofPs ⟨0, 0, 0⟩ c.1)) := ofPs_loop c.1 hP hw c.1.length 0 ⟨0, 0, 0⟩ (by omega)
  rw [of_eq, gL_mk (L := lS) (by kernel_rfl) h0]
  unfold ofC
  show _ = _
  kernel_rfl
theorem most_loop (l : List Cx) (hl : l.length < 4611686018427387904) (hw : ∀ c ∈ l, CallSound door 19 [aCx c] [] (aS (ofC c), [])) :
    ∀ (k i : Nat) (m : Spec), i + k = l.length → LoopIs door 16 0 0 (hd16_0 l i m) (.exit 0, ex16_0 (mostL m (l.drop i))) := by
  intro k
  induction k with
  | zero =>
    intro i m hi
    refine LoopIs.last door_mixed (T := tS) (L := lS) (n := 10) ?_
    rw [most0_eq, decide_eq_false (by omega), List.drop_of_length_le (by omega)]
    kernel_rfl
  | succ k ih =>
    intro i m hi
    have hlt : i < l.length := by omega
    obtain ⟨c, h1, h2, h3⟩ := list_at hlt
    have hc := hw c h2
    rw [h3]
    refine LoopIs.next door_mixed (T := tS) (L := lS) (n := 10) (st2 := hd16_0 l (i + 1 : Nat) (bif less m (ofC c) then ofC c else m)) ?_ ?_
    · rw [most0_eq, decide_eq_true (by omega)]
      simp only [cond_true, Int.toNat_natCast, h1]
      rw [gC_mk (T := tS) (by kernel_rfl) hc, gC_mk (T := tS) (by kernel_rfl) (less_sound m (ofC c)), wrap_nat (by omega)]
      show (bif less m (ofC c) then _ else _) = _
      cases less m (ofC c) <;> kernel_rfl
    · simpa only [mostL] using ih (i + 1) (bif less m (ofC c) then ofC c else m) (by omega)
theorem most_sound (l : List Cx) (hl : l.length < 4611686018427387904) (hw : ∀ c ∈ l, CallSound door 19 [aCx c] [] (aS (ofC c), [])) : CallSound door 16 [.d ⟨.rows .cx, l⟩] [] (aS (mostL ⟨0, 0, 0⟩ l), []) := by
  refine fun_walk door_mixed tS lS (n := 10) 0 rfl ?_
  have h0 : LoopIs door 16 0 0 (hd16_0 l 0 ⟨0, 0, 0⟩) (.exit 0, ex16_0 (mostL ⟨0, 0, 0⟩ l)) := most_loop l hl hw l.length 0 ⟨0, 0, 0⟩ (by omega)
  rw [most_eq, gL_mk (L := lS) (by kernel_rfl) h0]
  show _ = _
  kernel_rfl
mutual
theorem wgt_all (s : Simple) (h : fitS s) : CallSound door 36 [aSim s] [] (aS (wgt s), []) :=
  match s, h with
  | ⟨k, n, o, v, a, b, l⟩, h => weight_sound ⟨k, n, o, v, a, b, l⟩ (most_sound l (by simp only [fitS] at h; exact h.1) (mostL_all l (by simp only [fitS] at h; exact h.2)))
  termination_by structural s
theorem mostL_all (l : List (List (List Simple) × List Int)) (h : fitL l) : ∀ c ∈ l, CallSound door 19 [aCx c] [] (aS (ofC c), []) :=
  match l, h with
  | [], _ => fun c hc => by cases hc
  | d :: l, h => fun c hc => (List.mem_cons.1 hc).elim (fun e => e ▸ ofC_all d (by simp only [fitL] at h; exact h.1)) (fun hc => mostL_all l (by simp only [fitL] at h; exact h.2) c hc)
  termination_by structural l
theorem ofC_all (c : List (List Simple) × List Int) (h : fitC c) : CallSound door 19 [aCx c] [] (aS (ofC c), []) :=
  match c, h with
  | (p, q), h => of_sound (p, q) (by simp only [fitC] at h; exact h.1.1) (ofPs_all p (by simp only [fitC] at h; exact h.2))
  termination_by structural c
theorem ofPs_all (P : List (List Simple)) (h : fitPs P) : ∀ p ∈ P, p.length < 4611686018427387904 ∧ ∀ s ∈ p, CallSound door 36 [aSim s] [] (aS (wgt s), []) :=
  match P, h with
  | [], _ => fun p hp => by cases hp
  | q :: P, h => fun p hp => (List.mem_cons.1 hp).elim (fun e => e ▸ ⟨by simp only [fitPs] at h; exact h.1.1, ofP_all q (by simp only [fitPs] at h; exact h.1.2)⟩) (fun hp => ofPs_all P (by simp only [fitPs] at h; exact h.2) p hp)
  termination_by structural P
theorem ofP_all (p : List Simple) (h : fitP p) : ∀ s ∈ p, CallSound door 36 [aSim s] [] (aS (wgt s), []) :=
  match p, h with
  | [], _ => fun s hs => by cases hs
  | t :: p, h => fun s hs => (List.mem_cons.1 hs).elim (fun e => e ▸ wgt_all t (by simp only [fitP] at h; exact h.1)) (fun hs => ofP_all p (by simp only [fitP] at h; exact h.2) s hs)
  termination_by structural p
end
end Go.Proofs.Ev
namespace Go.Proofs.Ev
open Go Md
set_option linter.unusedVariables false
abbrev hd35_0 (most : Int) (l : List Cx) (i : Int) (n : Int) : AS := { s := [(1, aI most), (5, aI n), (12, .d ⟨.rows .cx, l⟩), (13, aI l.length), (14, aI i)], t := [], m := 35, n := 68 }
abbrev hd35_2 (most : Int) (l : List Cx) (i : Int) (P : List (List Simple)) (k : Int) (n : Int) : AS := { s := [(1, aI most), (5, aI n), (12, .d ⟨.rows .cx, l⟩), (13, aI l.length), (14, aI i), (25, .d ⟨.rows (.rows .simple), P⟩), (26, aI P.length), (27, aI k)], t := [], m := 35, n := 68 }
abbrev hd35_4 (most : Int) (l : List Cx) (i : Int) (P : List (List Simple)) (k : Int) (p : List Simple) (j : Int) (n : Int) : AS :=
  { s := [(1, aI most), (5, aI n), (12, .d ⟨.rows .cx, l⟩), (13, aI l.length), (14, aI i), (25, .d ⟨.rows (.rows .simple), P⟩), (26, aI P.length), (27, aI k), (33, .d ⟨.rows .simple, p⟩), (34, aI p.length), (35, aI j)], t := [], m := 35, n := 68 }
abbrev ret35 (n : Int) : Ex × AS := (.ret, { s := [(4, aI n)], t := [], m := 35, n := 68 })
abbrev ex35_0 (n : Int) : Ex × AS := (.exit 0, { s := [(5, aI n)], t := [], m := 35, n := 68 })
def tW (x : Int) : Tab := fun f _ _ => match f with
  | 35 => some (aI x, [])
  | _ => none
def lW (r : Ex × AS) : LTab := fun _ _ _ => some r
end Go.Proofs.Ev
namespace Go.Proofs.Ev
open Go Md
set_option maxRecDepth 100000
theorem w4_eq (G : GT) (H : HT) (x : Int) (r : Ex × AS) (most : Int) (l : List Cx) (i : Nat) (P : List (List Simple)) (k : Nat) (p : List Simple) (j : Nat) (n : Int) : evRound door ⟨G, tW x⟩ ⟨H, lW r⟩ 0 10 35 4 (hd35_4 most l i P k p j n) =
    bif decide ((↑j : Int) < (↑p.length : Int)) then
      match p[(↑j : Int).toNat]? with
      | none => none
      | some y0 =>
        bif decide (IntKind.i64.wrap (n + IntKind.i64.wrap (1 + IntKind.i64.wrap ((IntKind.i64.wrap ((↑y0.name.size : Int) + (↑y0.value.size : Int))).tdiv 20))) > most) then
          some (Sum.inr (Ex.ret, AS.mk [(4, AV.v (Value.int IntKind.i64 (IntKind.i64.wrap (n + IntKind.i64.wrap (1 + IntKind.i64.wrap ((IntKind.i64.wrap ((↑y0.2.size : Int) + (↑y0.4.size : Int))).tdiv 20))))))] [] 35 68))
        else
          bif G 35 [AV.d (Sigma.mk Ty.cx.rows y0.7), AV.v (Value.int IntKind.i64 most)] [] then
            some (Sum.inl (AS.mk [(1, AV.v (Value.int IntKind.i64 most)), (5, AV.v (Value.int IntKind.i64 (IntKind.i64.wrap (IntKind.i64.wrap (n + IntKind.i64.wrap (1 + IntKind.i64.wrap ((IntKind.i64.wrap ((↑y0.2.size : Int) + (↑y0.4.size : Int))).tdiv 20))) + x)))), (12, AV.d (Sigma.mk Ty.cx.rows l)), (13, AV.v (Value.int IntKind.i64 (↑l.length : Int))), (14, AV.v (Value.int IntKind.i64 (↑i : Int))), (25, AV.d (Sigma.mk Ty.simple.rows.rows P)), (26, AV.v (Value.int IntKind.i64 (↑P.length : Int))), (27, AV.v (Value.int IntKind.i64 (↑k : Int))), (33, AV.d (Sigma.mk Ty.simple.rows p)), (34, AV.v (Value.int IntKind.i64 (↑p.length : Int))), (35, AV.v (Value.int IntKind.i64 (IntKind.i64.wrap ((↑j : Int) + 1))))] [] 35 68))
          else
            none
    else
      some (Sum.inr (Ex.exit 4, AS.mk [(1, AV.v (Value.int IntKind.i64 most)), (5, AV.v (Value.int IntKind.i64 n)), (12, AV.d (Sigma.mk Ty.cx.rows l)), (13, AV.v (Value.int IntKind.i64 (↑l.length : Int))), (14, AV.v (Value.int IntKind.i64 (↑i : Int))), (25, AV.d (Sigma.mk Ty.simple.rows.rows P)), (26, AV.v (Value.int IntKind.i64 (↑P.length : Int))), (27, AV.v (Value.int IntKind.i64 (↑k : Int)))] [] 35 68)) := by kernel_rfl
theorem w2a_eq (G : GT) (H : HT) (x : Int) (most : Int) (l : List Cx) (i : Nat) (P : List (List Simple)) (k : Nat) (n n' : Int) : evRound door ⟨G, tW x⟩ ⟨H, lW (ret35 n')⟩ 0 10 35 2 (hd35_2 most l i P k n) =
    bif decide ((↑k : Int) < (↑P.length : Int)) then
      match P[(↑k : Int).toNat]? with
      | none => none
      | some y0 =>
        bif H 35 4 (AS.mk [(1, AV.v (Value.int IntKind.i64 most)), (5, AV.v (Value.int IntKind.i64 (IntKind.i64.wrap (n + 1)))), (12, AV.d (Sigma.mk Ty.cx.rows l)), (13, AV.v (Value.int IntKind.i64 (↑l.length : Int))), (14, AV.v (Value.int IntKind.i64 (↑i : Int))), (25, AV.d (Sigma.mk Ty.simple.rows.rows P)), (26, AV.v (Value.int IntKind.i64 (↑P.length : Int))), (27, AV.v (Value.int IntKind.i64 (↑k : Int))), (33, AV.d (Sigma.mk Ty.simple.rows y0)), (34, AV.v (Value.int IntKind.i64 (↑y0.length : Int))), (35, AV.v (Value.int IntKind.i64 0))] [] 35 68) then
          some (Sum.inr (Ex.ret, AS.mk [(4, AV.v (Value.int IntKind.i64 n'))] [] 35 68))
        else
          none
    else
      some (Sum.inr (Ex.exit 2, AS.mk [(1, AV.v (Value.int IntKind.i64 most)), (5, AV.v (Value.int IntKind.i64 n)), (12, AV.d (Sigma.mk Ty.cx.rows l)), (13, AV.v (Value.int IntKind.i64 (↑l.length : Int))), (14, AV.v (Value.int IntKind.i64 (↑i : Int)))] [] 35 68)) := by kernel_rfl
theorem w2b_eq (G : GT) (H : HT) (x : Int) (most : Int) (l : List Cx) (i : Nat) (P : List (List Simple)) (k : Nat) (n n' : Int) : evRound door ⟨G, tW x⟩ ⟨H, lW (.exit 4, hd35_2 most l i P k n')⟩ 0 10 35 2 (hd35_2 most l i P k n) =
    bif decide ((↑k : Int) < (↑P.length : Int)) then
      match P[(↑k : Int).toNat]? with
      | none => none
      | some y0 =>
        bif H 35 4 (AS.mk [(1, AV.v (Value.int IntKind.i64 most)), (5, AV.v (Value.int IntKind.i64 (IntKind.i64.wrap (n + 1)))), (12, AV.d (Sigma.mk Ty.cx.rows l)), (13, AV.v (Value.int IntKind.i64 (↑l.length : Int))), (14, AV.v (Value.int IntKind.i64 (↑i : Int))), (25, AV.d (Sigma.mk Ty.simple.rows.rows P)), (26, AV.v (Value.int IntKind.i64 (↑P.length : Int))), (27, AV.v (Value.int IntKind.i64 (↑k : Int))), (33, AV.d (Sigma.mk Ty.simple.rows y0)), (34, AV.v (Value.int IntKind.i64 (↑y0.length : Int))), (35, AV.v (Value.int IntKind.i64 0))] [] 35 68) then
          some (Sum.inl (AS.mk [(1, AV.v (Value.int IntKind.i64 most)), (5, AV.v (Value.int IntKind.i64 n')), (12, AV.d (Sigma.mk Ty.cx.rows l)), (13, AV.v (Value.int IntKind.i64 (↑l.length : Int))), (14, AV.v (Value.int IntKind.i64 (↑i : Int))), (25, AV.d (Sigma.mk Ty.simple.rows.rows P)), (26, AV.v (Value.int IntKind.i64 (↑P.length : Int))), (27, AV.v (Value.int IntKind.i64 (IntKind.i64.wrap ((↑k : Int) + 1))))] [] 35 68))
        else
          none
    else
      some (Sum.inr (Ex.exit 2, AS.mk [(1, AV.v (Value.int IntKind.i64 most)), (5, AV.v (Value.int IntKind.i64 n)), (12, AV.d (Sigma.mk Ty.cx.rows l)), (13, AV.v (Value.int IntKind.i64 (↑l.length : Int))), (14, AV.v (Value.int IntKind.i64 (↑i : Int)))] [] 35 68)) := by kernel_rfl
theorem w0a_eq (G : GT) (H : HT) (x : Int) (most : Int) (l : List Cx) (i : Nat) (n n' : Int) : evRound door ⟨G, tW x⟩ ⟨H, lW (ret35 n')⟩ 0 10 35 0 (hd35_0 most l i n) =
    bif decide ((↑i : Int) < (↑l.length : Int)) then
      match l[(↑i : Int).toNat]? with
      | none => none
      | some y0 =>
        bif H 35 2 (AS.mk [(1, AV.v (Value.int IntKind.i64 most)), (5, AV.v (Value.int IntKind.i64 (IntKind.i64.wrap (n + IntKind.i64.wrap (1 + (↑y0.snd.length : Int)))))), (12, AV.d (Sigma.mk Ty.cx.rows l)), (13, AV.v (Value.int IntKind.i64 (↑l.length : Int))), (14, AV.v (Value.int IntKind.i64 (↑i : Int))), (25, AV.d (Sigma.mk Ty.simple.rows.rows y0.1)), (26, AV.v (Value.int IntKind.i64 (↑y0.fst.length : Int))), (27, AV.v (Value.int IntKind.i64 0))] [] 35 68) then
          some (Sum.inr (Ex.ret, AS.mk [(4, AV.v (Value.int IntKind.i64 n'))] [] 35 68))
        else
          none
    else
      some (Sum.inr (Ex.exit 0, AS.mk [(5, AV.v (Value.int IntKind.i64 n))] [] 35 68)) := by kernel_rfl
theorem w0b_eq (G : GT) (H : HT) (x : Int) (most : Int) (l : List Cx) (i : Nat) (n n' : Int) : evRound door ⟨G, tW x⟩ ⟨H, lW (.exit 2, hd35_0 most l i n')⟩ 0 10 35 0 (hd35_0 most l i n) =
    bif decide ((↑i : Int) < (↑l.length : Int)) then
      match l[(↑i : Int).toNat]? with
      | none => none
      | some y0 =>
        bif H 35 2 (AS.mk [(1, AV.v (Value.int IntKind.i64 most)), (5, AV.v (Value.int IntKind.i64 (IntKind.i64.wrap (n + IntKind.i64.wrap (1 + (↑y0.snd.length : Int)))))), (12, AV.d (Sigma.mk Ty.cx.rows l)), (13, AV.v (Value.int IntKind.i64 (↑l.length : Int))), (14, AV.v (Value.int IntKind.i64 (↑i : Int))), (25, AV.d (Sigma.mk Ty.simple.rows.rows y0.1)), (26, AV.v (Value.int IntKind.i64 (↑y0.fst.length : Int))), (27, AV.v (Value.int IntKind.i64 0))] [] 35 68) then
          bif decide (n' > most) then
            some (Sum.inr (Ex.ret, AS.mk [(4, AV.v (Value.int IntKind.i64 n'))] [] 35 68))
          else
            some (Sum.inl (AS.mk [(1, AV.v (Value.int IntKind.i64 most)), (5, AV.v (Value.int IntKind.i64 n')), (12, AV.d (Sigma.mk Ty.cx.rows l)), (13, AV.v (Value.int IntKind.i64 (↑l.length : Int))), (14, AV.v (Value.int IntKind.i64 (IntKind.i64.wrap ((↑i : Int) + 1))))] [] 35 68))
        else
          none
    else
      some (Sum.inr (Ex.exit 0, AS.mk [(5, AV.v (Value.int IntKind.i64 n))] [] 35 68)) := by kernel_rfl
theorem wa_eq (G : GT) (H : HT) (x : Int) (most : Int) (l : List Cx) (n' : Int) : evF door ⟨G, tW x⟩ ⟨H, lW (ret35 n')⟩ 10 35 [.d ⟨.rows .cx, l⟩, aI most] [] =
    bif H 35 0 (AS.mk [(1, AV.v (Value.int IntKind.i64 most)), (5, AV.v (Value.int IntKind.i64 0)), (12, AV.d (Sigma.mk Ty.cx.rows l)), (13, AV.v (Value.int IntKind.i64 (↑l.length : Int))), (14, AV.v (Value.int IntKind.i64 0))] [] 35 68) then
      some (AV.v (Value.int IntKind.i64 n'), [])
    else
      none := by kernel_rfl
theorem wb_eq (G : GT) (H : HT) (x : Int) (most : Int) (l : List Cx) (n' : Int) : evF door ⟨G, tW x⟩ ⟨H, lW (ex35_0 n')⟩ 10 35 [.d ⟨.rows .cx, l⟩, aI most] [] =
    bif H 35 0 (AS.mk [(1, AV.v (Value.int IntKind.i64 most)), (5, AV.v (Value.int IntKind.i64 0)), (12, AV.d (Sigma.mk Ty.cx.rows l)), (13, AV.v (Value.int IntKind.i64 (↑l.length : Int))), (14, AV.v (Value.int IntKind.i64 0))] [] 35 68) then
      some (AV.v (Value.int IntKind.i64 n'), [])
    else
      none := by kernel_rfl
theorem great_eq (G : GT) (H : HT) (x : Int) (r : Ex × AS) (l : List Cx) : evF door ⟨G, tW x⟩ ⟨H, lW r⟩ 10 15 [.d ⟨.rows .cx, l⟩] [] =
    bif G 35 [AV.d (Sigma.mk Ty.cx.rows l), AV.v (Value.int IntKind.i64 400)] [] then
      some (AV.v (Value.bool (decide (x > 400))), [])
    else
      none := by kernel_rfl
end Go.Proofs.Ev
namespace Go.Proofs.Ev
open Go Md
set_option linter.unusedVariables false
set_option maxRecDepth 100000
abbrev r0 : Ex × AS := (.ret, ⟨[], [], 0, 0⟩)
theorem w_loop4 (most : Int) (l : List Cx) (i : Nat) (P : List (List Simple)) (k : Nat) (p : List Simple) (hp : p.length < 4611686018427387904) (hw : ∀ s ∈ p, ∃ x, CallSound door 35 [.d ⟨.rows .cx, s.list⟩, aI most] [] (aI x, [])) :
    ∀ (q j : Nat) (n : Int), j + q = p.length → ∃ n', LoopIs door 35 4 0 (hd35_4 most l i P k p j n) (.exit 4, hd35_2 most l i P k n') ∨ LoopIs door 35 4 0 (hd35_4 most l i P k p j n) (ret35 n') := by
  intro q
  induction q with
  | zero =>
    intro j n hj
    have e := w4_eq (gC door (tW 0)) (gL door (lW r0) 0) 0 r0 most l i P k p j n
    rw [decide_eq_false (by omega)] at e
    exact ⟨_, .inl (LoopIs.last door_mixed e)⟩
  | succ q ih =>
    intro j n hj
    have hlt : j < p.length := by omega
    obtain ⟨s, h1, h2, h3⟩ := list_at hlt
    obtain ⟨x, hx⟩ := hw s h2
    have e := w4_eq (gC door (tW x)) (gL door (lW r0) 0) x r0 most l i P k p j n
    rw [decide_eq_true (by omega)] at e
    simp only [cond_true, Int.toNat_natCast, h1] at e
    rw [gC_mk (T := tW x) (by kernel_rfl) hx, wrap_nat (by omega)] at e
    generalize hb : decide (IntKind.i64.wrap (n + _) > most) = b at e
    cases b with
    | true => exact ⟨_, .inr (LoopIs.last door_mixed e)⟩
    | false =>
      obtain ⟨n', h | h⟩ := ih (j + 1) _ (by omega)
      · exact ⟨n', .inl (LoopIs.next door_mixed e h)⟩
      · exact ⟨n', .inr (LoopIs.next door_mixed e h)⟩
theorem w_loop2 (most : Int) (l : List Cx) (i : Nat) (P : List (List Simple)) (hP : P.length < 4611686018427387904) (hw : ∀ p ∈ P, p.length < 4611686018427387904 ∧ ∀ s ∈ p, ∃ x, CallSound door 35 [.d ⟨.rows .cx, s.list⟩, aI most] [] (aI x, [])) :
    ∀ (q k : Nat) (n : Int), k + q = P.length → ∃ n', LoopIs door 35 2 0 (hd35_2 most l i P k n) (.exit 2, hd35_0 most l i n') ∨ LoopIs door 35 2 0 (hd35_2 most l i P k n) (ret35 n') := by
  intro q
  induction q with
  | zero =>
    intro k n hk
    have e := w2a_eq (gC door (tW 0)) (gL door (lW (ret35 0)) 0) 0 most l i P k n 0
    rw [decide_eq_false (by omega)] at e
    exact ⟨_, .inl (LoopIs.last door_mixed e)⟩
  | succ q ih =>
    intro k n hk
    have hlt : k < P.length := by omega
    obtain ⟨p, h1, h2, h3⟩ := list_at hlt
    obtain ⟨hp, hs⟩ := hw p h2
    obtain ⟨n1, h | h⟩ := w_loop4 most l i P k p hp hs p.length 0 (IntKind.i64.wrap (n + 1)) (by omega)
    · have e := w2b_eq (gC door (tW 0)) (gL door (lW (.exit 4, hd35_2 most l i P k n1)) 0) 0 most l i P k n n1
      rw [decide_eq_true (by omega)] at e
      simp only [cond_true, Int.toNat_natCast, h1] at e
      have hg := gL_mk (L := lW (.exit 4, hd35_2 most l i P k n1)) rfl h
      rw [show (((0 : Nat) : Int)) = 0 from rfl] at hg
      rw [hg, wrap_nat (by omega)] at e
      obtain ⟨n2, h | h⟩ := ih (k + 1) n1 (by omega)
      · exact ⟨n2, .inl (LoopIs.next door_mixed e h)⟩
      · exact ⟨n2, .inr (LoopIs.next door_mixed e h)⟩
    · have e := w2a_eq (gC door (tW 0)) (gL door (lW (ret35 n1)) 0) 0 most l i P k n n1
      rw [decide_eq_true (by omega)] at e
      simp only [cond_true, Int.toNat_natCast, h1] at e
      have hg := gL_mk (L := lW (ret35 n1)) rfl h
      rw [show (((0 : Nat) : Int)) = 0 from rfl] at hg
      rw [hg] at e
      exact ⟨n1, .inr (LoopIs.last door_mixed e)⟩
theorem w_loop0 (most : Int) (l : List Cx) (hl : l.length < 4611686018427387904) (hw : ∀ c ∈ l, c.1.length < 4611686018427387904 ∧ ∀ p ∈ c.1, p.length < 4611686018427387904 ∧ ∀ s ∈ p, ∃ x, CallSound door 35 [.d ⟨.rows .cx, s.list⟩, aI most] [] (aI x, [])) :
    ∀ (q i : Nat) (n : Int), i + q = l.length → ∃ n', LoopIs door 35 0 0 (hd35_0 most l i n) (ex35_0 n') ∨ LoopIs door 35 0 0 (hd35_0 most l i n) (ret35 n') := by
  intro q
  induction q with
  | zero =>
    intro i n hi
    have e := w0a_eq (gC door (tW 0)) (gL door (lW (ret35 0)) 0) 0 most l i n 0
    rw [decide_eq_false (by omega)] at e
    exact ⟨_, .inl (LoopIs.last door_mixed e)⟩
  | succ q ih =>
    intro i n hi
    have hlt : i < l.length := by omega
    obtain ⟨c, h1, h2, h3⟩ := list_at hlt
    obtain ⟨hp, hs⟩ := hw c h2
    obtain ⟨n1, h | h⟩ := w_loop2 most l i c.1 hp hs c.1.length 0 (IntKind.i64.wrap (n + IntKind.i64.wrap (1 + (c.2.length : Int)))) (by omega)
    · have e := w0b_eq (gC door (tW 0)) (gL door (lW (.exit 2, hd35_0 most l i n1)) 0) 0 most l i n n1
      rw [decide_eq_true (by omega)] at e
      simp only [cond_true, Int.toNat_natCast, h1] at e
      have hg := gL_mk (L := lW (.exit 2, hd35_0 most l i n1)) rfl h
      rw [show (((0 : Nat) : Int)) = 0 from rfl] at hg
      rw [hg, wrap_nat (by omega)] at e
      generalize hb : decide (n1 > most) = b at e
      cases b with
      | true => exact ⟨_, .inr (LoopIs.last door_mixed e)⟩
      | false =>
        obtain ⟨n2, h | h⟩ := ih (i + 1) n1 (by omega)
        · exact ⟨n2, .inl (LoopIs.next door_mixed e h)⟩
        · exact ⟨n2, .inr (LoopIs.next door_mixed e h)⟩
    · have e := w0a_eq (gC door (tW 0)) (gL door (lW (ret35 n1)) 0) 0 most l i n n1
      rw [decide_eq_true (by omega)] at e
      simp only [cond_true, Int.toNat_natCast, h1] at e
      have hg := gL_mk (L := lW (ret35 n1)) rfl h
      rw [show (((0 : Nat) : Int)) = 0 from rfl] at hg
      rw [hg] at e
      exact ⟨n1, .inr (LoopIs.last door_mixed e)⟩
theorem w_sound (most : Int) (l : List Cx) (hl : l.length < 4611686018427387904) (hw : ∀ c ∈ l, c.1.length < 4611686018427387904 ∧ ∀ p ∈ c.1, p.length < 4611686018427387904 ∧ ∀ s ∈ p, ∃ x, CallSound door 35 [.d ⟨.rows .cx, s.list⟩, aI most] [] (aI x, [])) :
    ∃ x, CallSound door 35 [.d ⟨.rows .cx, l⟩, aI most] [] (aI x, []) := by
  obtain ⟨n1, h | h⟩ := w_loop0 most l hl hw l.length 0 0 (by omega)
  · have e := wb_eq (gC door (tW 0)) (gL door (lW (ex35_0 n1)) 0) 0 most l n1
    have hg := gL_mk (L := lW (ex35_0 n1)) rfl h
    rw [show (((0 : Nat) : Int)) = 0 from rfl] at hg
    rw [hg] at e
    exact ⟨n1, fun_walk door_mixed _ _ 0 rfl e⟩
  · have e := wa_eq (gC door (tW 0)) (gL door (lW (ret35 n1)) 0) 0 most l n1
    have hg := gL_mk (L := lW (ret35 n1)) rfl h
    rw [show (((0 : Nat) : Int)) = 0 from rfl] at hg
    rw [hg] at e
    exact ⟨n1, fun_walk door_mixed _ _ 0 rfl e⟩
mutual
theorem wS_all (most : Int) (s : Simple) (h : fitS s) : ∃ x, CallSound door 35 [.d ⟨.rows .cx, s.list⟩, aI most] [] (aI x, []) :=
  match s, h with
  | ⟨k, n, o, v, a, b, l⟩, h => w_sound most l (by simp only [fitS] at h; exact h.1) (wL_all most l (by simp only [fitS] at h; exact h.2))
  termination_by structural s
theorem wL_all (most : Int) (l : List (List (List Simple) × List Int)) (h : fitL l) : ∀ c ∈ l, c.1.length < 4611686018427387904 ∧ ∀ p ∈ c.1, p.length < 4611686018427387904 ∧ ∀ s ∈ p, ∃ x, CallSound door 35 [.d ⟨.rows .cx, s.list⟩, aI most] [] (aI x, []) :=
  match l, h with
  | [], _ => fun c hc => by cases hc
  | d :: l, h => fun c hc => (List.mem_cons.1 hc).elim (fun e => e ▸ wC_all most d (by simp only [fitL] at h; exact h.1)) (fun hc => wL_all most l (by simp only [fitL] at h; exact h.2) c hc)
  termination_by structural l
theorem wC_all (most : Int) (c : List (List Simple) × List Int) (h : fitC c) : c.1.length < 4611686018427387904 ∧ ∀ p ∈ c.1, p.length < 4611686018427387904 ∧ ∀ s ∈ p, ∃ x, CallSound door 35 [.d ⟨.rows .cx, s.list⟩, aI most] [] (aI x, []) :=
  match c, h with
  | (p, q), h => ⟨by simp only [fitC] at h; exact h.1.1, wPs_all most p (by simp only [fitC] at h; exact h.2)⟩
  termination_by structural c
theorem wPs_all (most : Int) (P : List (List Simple)) (h : fitPs P) : ∀ p ∈ P, p.length < 4611686018427387904 ∧ ∀ s ∈ p, ∃ x, CallSound door 35 [.d ⟨.rows .cx, s.list⟩, aI most] [] (aI x, []) :=
  match P, h with
  | [], _ => fun p hp => by cases hp
  | q :: P, h => fun p hp => (List.mem_cons.1 hp).elim (fun e => e ▸ ⟨by simp only [fitPs] at h; exact h.1.1, wP_all most q (by simp only [fitPs] at h; exact h.1.2)⟩) (fun hp => wPs_all most P (by simp only [fitPs] at h; exact h.2) p hp)
  termination_by structural P
theorem wP_all (most : Int) (p : List Simple) (h : fitP p) : ∀ s ∈ p, ∃ x, CallSound door 35 [.d ⟨.rows .cx, s.list⟩, aI most] [] (aI x, []) :=
  match p, h with
  | [], _ => fun s hs => by cases hs
  | t :: p, h => fun s hs => (List.mem_cons.1 hs).elim (fun e => e ▸ wS_all most t (by simp only [fitP] at h; exact h.1)) (fun hs => wP_all most p (by simp only [fitP] at h; exact h.2) s hs)
  termination_by structural p
end
theorem great_sound (l : List Cx) (hl : l.length < 4611686018427387904) (hf : fitL l) : ∃ b : Bool, CallSound door 15 [.d ⟨.rows .cx, l⟩] [] (.v (.bool b), []) := by
  obtain ⟨x, hx⟩ := w_sound 400 l hl (wL_all 400 l hf)
  have e := great_eq (gC door (tW x)) (gL door (lW r0) 0) x r0 l
  rw [gC_mk (T := tW x) (by kernel_rfl) hx] at e
  exact ⟨_, fun_walk door_mixed _ _ 0 rfl e⟩
end Go.Proofs.Ev
