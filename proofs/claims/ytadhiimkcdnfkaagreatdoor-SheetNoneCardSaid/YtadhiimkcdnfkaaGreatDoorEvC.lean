/-
  An evaluator by value of the model of the program, proved sound, and what it shows of this law: part EvC.
-/
import Derived.Test.YtadhiimkcdnfkaaGreatDoorEvB
import Derived.Laws.Tables
import Derived.Lib.Builder
namespace Go.Proofs.Ev
open Go
set_option linter.unusedVariables false
set_option linter.unusedSimpArgs false
variable {ρ : Type}
theorem LR.rows_inv {Φ : Phi} {e : Ty} {xs : List e.T} {v : Value} (h : LR Φ ⟨.rows e, xs⟩ v) : (∃ A c, v = .slice A xs.length c) ∧
    ∀ i y, xs[i]? = some y → ∃ b off c, v = .slice (some ⟨b, off, none⟩) xs.length c ∧ xs.length ≤ c ∧ PR Φ e y b (off + i * e.size) := by
  generalize hlf : (⟨.rows e, xs⟩ : Lf) = lf at h
  cases h <;> cases hlf
  case row0 A c => exact ⟨⟨A, c, rfl⟩, fun i y hy => by simp at hy⟩
  case row b off c f h0 hc h1 h2 =>
    refine ⟨⟨_, c, rfl⟩, fun i y hy => ⟨b, off, c, rfl, hc, f i, fun j lf hj => ?_, fun j lf hj => h2 i j y lf hy hj⟩⟩
    have := h1 i j y lf hy hj
    rwa [Nat.add_assoc]
theorem rowOf_sound {C : Cfg} {E : Env} {st : AS} {w : World} (hM : MR C E w (lk st.t)) {x : AV} {v : Value} {e : Ty} {xs : List e.T} (hp : rowOf st.t x = some ⟨e, xs⟩) (hx : VR E x v) : LR E.Φ ⟨.rows e, xs⟩ v := by
  obtain ⟨p, hpe⟩ : ∃ p : (e : Ty) × List e.T, p = ⟨e, xs⟩ := ⟨_, rfl⟩
  rw [← hpe] at hp
  suffices LR E.Φ ⟨.rows p.1, p.2⟩ v by rw [hpe] at this; exact this
  clear hpe
  cases x with
  | d lf =>
    obtain ⟨τ, y⟩ := lf
    cases τ <;> simp [rowOf] at hp
    subst hp
    simpa only [VR] using hx
  | full e xs =>
    simp [rowOf] at hp
    subst hp
    simp only [VR] at hx
    exact hx.2
  | sl r =>
    simp only [rowOf] at hp
    split at hp
    · rename_i te e xs hr
      simp at hp
      subst hp
      obtain ⟨_, _, A, cap, h1, h2, _⟩ := hM.res r _ hr
      simp only [VR] at hx
      rw [hx.1] at h1
      injection h1 with h1
      rw [h1]
      exact h2
    · cases hp
  | _ => simp [rowOf] at hp
section
variable {C : Cfg} {E : Env} {st : AS} {a : Act} {w : World} {o : Oper} {K : AV → AS → Option ρ} {r : ρ}
theorem LR.ptr_inv {Φ : Phi} {e : Ty} {p : Option e.T} {v : Value} (h : LR Φ ⟨.ptr e, p⟩ v) : (p = none ∧ v = .pointer none) ∨ ∃ y b off, p = some y ∧ v = .pointer (some ⟨b, off, none⟩) ∧ PR Φ e y b off := by
  generalize hlf : (⟨.ptr e, p⟩ : Lf) = lf at h
  cases h <;> cases hlf
  case nil => exact .inl ⟨rfl, rfl⟩
  case ptr => exact .inr ⟨_, _, _, rfl, rfl, _, by assumption, by assumption⟩
theorem q_nilCheck (h : St C E st a w) (x : Operand) (hop : o.op = .nilCheck x) (hk : (match evO C st x with
    | .d ⟨.ptr e, p⟩ => match (p : Option e.T) with
      | some y => K (.dp e y 0) st
      | none => none
    | .ptr r off => K (.ptr r off) st
    | .dp e y j => K (.dp e y j) st
    | .ga e y => K (.ga e y) st
    | .ep r s i j => K (.ep r s i j) st
    | .clo f a b => K (.clo f a b) st
    | .v (.func f a b) => match f with
      | .func g => K (.v (.func (.func g) a b)) st
      | _ => none
    | _ => none) = some r) : Quiet C E st a w o K r := by
  have hx := h.eval x
  split at hk
  · rename_i e p hxe
    rw [hxe] at hx
    simp only [VR] at hx
    rcases LR.ptr_inv hx with ⟨rfl, _⟩ | ⟨y, b, off, rfl, hv, hp⟩
    · cases hk
    · refine ⟨_, _, hk, ?_, fun w' _ => by simp [execOp, hop, hv]; rfl⟩
      simp only [VR]
      exact ⟨b, off, rfl, hp⟩
  · rename_i k off hxe
    rw [hxe] at hx
    refine ⟨_, _, hk, hx, fun w' _ => ?_⟩
    simp only [VR] at hx
    obtain ⟨b, _, hv⟩ := hx
    simp [execOp, hop, hv]
  · rename_i e y j hxe
    rw [hxe] at hx
    refine ⟨_, _, hk, hx, fun w' _ => ?_⟩
    simp only [VR] at hx
    obtain ⟨b, off, hv, _⟩ := hx
    simp [execOp, hop, hv]
  · rename_i e y hxe
    rw [hxe] at hx
    refine ⟨_, _, hk, hx, fun w' _ => ?_⟩
    simp only [VR] at hx
    obtain ⟨b, off, hv, _⟩ := hx
    simp [execOp, hop, hv]
  · rename_i r s i j hxe
    rw [hxe] at hx
    refine ⟨_, _, hk, hx, fun w' _ => ?_⟩
    simp only [VR] at hx
    obtain ⟨b, n, c, _, hv⟩ := hx
    simp [execOp, hop, hv]
  · rename_i f p q hxe
    rw [hxe] at hx
    refine ⟨_, _, hk, hx, fun w' _ => ?_⟩
    simp only [VR] at hx
    obtain ⟨xs, ys, hv, _⟩ := hx
    simp [execOp, hop, hv]
  · rename_i f p q hxe
    rw [hxe] at hx
    split at hk
    · rename_i g
      refine ⟨_, _, hk, hx, fun w' _ => ?_⟩
      simp only [VR] at hx
      simp [execOp, hop, hx]
    · cases hk
  · cases hk
theorem known_info {P : Program} {t : TypeId} (h : known P t = true) : ∃ i d, P.info? t = some i ∧ P.underlying t = some d := by
  simp only [known, Bool.and_eq_true, Option.isSome_iff_exists] at h
  obtain ⟨⟨i, hi⟩, ⟨d, hd⟩⟩ := h
  exact ⟨i, d, hi, hd⟩
theorem cellsOf_info {P : Program} {t : TypeId} {n : Nat} (h : P.cellsOf t = n + 1) : ∃ i, P.info? t = some i := by
  unfold Program.cellsOf at h
  cases hi : P.info? t with
  | none => rw [hi] at h; simp at h
  | some i => exact ⟨i, rfl⟩
theorem add_off (b o n : Nat) : (⟨b, o, none⟩ : Addr).add n = ⟨b, o + n, none⟩ := by unfold Addr.add; split <;> simp_all
theorem fieldAt?_some {P : Program} {s : TypeId} {f off ft n : Nat} (h : fieldAt? P s f = some (off, ft, n)) : ∃ fs x, P.underlying s = some (.struct fs) ∧ fs[f]? = some x ∧ x.offset = off ∧ x.type = ft ∧ P.cellsOf ft = n := by
  unfold fieldAt? at h
  split at h
  · rename_i fs hu
    split at h
    · rename_i x hx
      simp only [Option.some.injEq, Prod.mk.injEq] at h
      obtain ⟨rfl, rfl, rfl⟩ := h
      exact ⟨fs, x, hu, hx, rfl, rfl, rfl⟩
    · cases h
  · cases h
theorem q_fieldAddr (h : St C E st a w) (s : TypeId) (x : Operand) (f : Nat) (hop : o.op = .fieldAddr s x f) (hk : (match fieldAt? C.P s f with
    | some (off, _, n + 1) => match evO C st x with
      | .ptr r j => K (.ptr r (j + off)) st
      | .dp e y j => K (.dp e y (j + off)) st
      | .ep r s i j => K (.ep r s i (j + off)) st
      | _ => none
    | _ => none) = some r) : Quiet C E st a w o K r := by
  have hx := h.eval x
  split at hk
  · rename_i off ft n hf
    obtain ⟨fs, fx, e1, e2, e3, e4, e5⟩ := fieldAt?_some hf
    obtain ⟨i, hi⟩ := cellsOf_info e5
    have run : ∀ w' b j, a.eval x = .pointer (some ⟨b, j, none⟩) → (execOp a.eval o).run C.P w' = .ok (.value (.pointer (some ⟨b, j + off, none⟩))) w' := fun w' b j hv => by
      have hs := run_sizeOf' (P := C.P) (t := ft) hi w'
      simp [execOp, hop, hv, Instr.fieldAt, run_underlying' e1, e2, Instr.sureAddr, fieldPlace, e3, e4, hs, e5, add_off]
    split at hk
    · rename_i k j hxe
      rw [hxe] at hx
      simp only [VR] at hx
      obtain ⟨b, h1, h2⟩ := hx
      exact ⟨_, _, hk, by simp only [VR]; exact ⟨b, h1, rfl⟩, fun w' _ => run w' b j h2⟩
    · rename_i e y j hxe
      rw [hxe] at hx
      simp only [VR] at hx
      obtain ⟨b, off', h1, h2⟩ := hx
      refine ⟨_, _, hk, by simp only [VR]; exact ⟨b, off', rfl, h2⟩, fun w' _ => ?_⟩
      rw [run w' b _ h1]
      simp [Nat.add_assoc]
    · rename_i k s i j hxe
      rw [hxe] at hx
      simp only [VR] at hx
      obtain ⟨b, n', c, h1, h2⟩ := hx
      refine ⟨_, _, hk, by simp only [VR]; exact ⟨b, n', c, h1, rfl⟩, fun w' _ => ?_⟩
      rw [run w' b _ h2]
      simp [Nat.add_assoc]
    · cases hk
  · cases hk
theorem elemIs_run {P : Program} {te : TypeId} {e : Ty} (h : elemIs P te e = true) (w : World) : (sizeOf te).run P w = .ok e.size w := by
  simp only [elemIs, Bool.and_eq_true] at h
  obtain ⟨i, d, h1, h2⟩ := known_info h.1
  rw [run_sizeOf' h1, Nat.eq_of_beq_eq_true h.2]
theorem sliceElem_some {P : Program} {t : TypeId} {e : Ty} (h : sliceElem P t e = true) : ∃ te, P.underlying t = some (.slice te) ∧ elemIs P te e = true := by
  unfold sliceElem at h
  split at h
  · rename_i te hu; exact ⟨te, hu, h⟩
  · cases h
theorem arrElem_some {P : Program} {t : TypeId} {e : Ty} {n : Nat} (h : arrElem P t e n = true) : ∃ te, P.underlying t = some (.array n te) ∧ elemIs P te e = true := by
  unfold arrElem at h
  split at h
  · rename_i m te hu
    simp only [Bool.and_eq_true] at h
    rw [Nat.eq_of_beq_eq_true h.2] at hu
    exact ⟨te, hu, h.1⟩
  · cases h
end
end Go.Proofs.Ev
namespace Go.Proofs.Ev
open Go
set_option linter.unusedVariables false
set_option linter.unusedSimpArgs false
variable {ρ : Type}
section
variable {C : Cfg} {E : Env} {st : AS} {a : Act} {w : World} {o : Oper} {K : AV → AS → Option ρ} {r : ρ}
theorem intOf?_some {E : Env} {x : AV} {v : Value} {n : Int} (h : intOf? x = some n) (hx : VR E x v) : ∃ k, v = .int k n := by
  cases x with
  | v y =>
    cases y <;> simp [intOf?] at h
    subst h
    simp only [VR] at hx
    exact ⟨_, hx⟩
  | _ => simp [intOf?] at h
theorem arrOf_some {t : List (Nat × Res)} {x : AV} {k : Nat} {e : Ty} {xs : List e.T} (h : arrOf t x = some (k, ⟨e, xs⟩)) : x = .sl k ∧ ∃ te, lk t k = some (.arr te e xs) := by
  unfold arrOf at h
  split at h
  · split at h
    · rename_i r te e' xs' hr
      simp only [Option.some.injEq, Prod.mk.injEq] at h
      obtain ⟨rfl, h⟩ := h
      cases h
      exact ⟨rfl, te, hr⟩
    · cases h
  · cases h
theorem q_indexAddr (h : St C E st a w) (t : TypeId) (x i : Operand) (hop : o.op = .indexAddr t x i) (hk : (match intOf? (evO C st i) with
    | some n => match evO C st x with
      | .ga e xs => bif arrElem C.P t e xs.length && decide (0 ≤ n) then match xs[n.toNat]? with
          | some y => K (.dp e y 0) st
          | none => none
        else none
      | x' => match rowOf st.t x' with
        | some ⟨e, xs⟩ => bif sliceElem C.P t e && decide (0 ≤ n) then match xs[n.toNat]? with
            | some y => K (.dp e y 0) st
            | none => none
          else none
        | none => match arrOf st.t x' with
          | some (r, ⟨e, xs⟩) => bif sliceElem C.P t e && (decide (0 ≤ n) && decide (n.toNat < xs.length)) then K (.ep r e.size n.toNat 0) st else none
          | none => match x' with
            | .ptr r off => match arrStep C.P t n with
              | some o => K (.ptr r (off + o)) st
              | none => none
            | _ => none
    | none => none) = some r) : Quiet C E st a w o K r := by
  have hx := h.eval x
  have hi := h.eval i
  split at hk
  · rename_i n hn
    obtain ⟨k, hi⟩ := intOf?_some hn hi
    split at hk
    · rename_i e xs hxe
      rw [hxe] at hx
      obtain ⟨h1, h2⟩ := bif_some hk
      simp only [Bool.and_eq_true, decide_eq_true_eq] at h1
      obtain ⟨he, h0⟩ := h1
      split at h2
      · rename_i y hy
        obtain ⟨te, hu, hel⟩ := arrElem_some he
        have hlt : n.toNat < xs.length := (List.getElem?_eq_some_iff.1 hy).1
        simp only [VR] at hx
        obtain ⟨b, off, hv, hl⟩ := hx
        obtain ⟨_, hg⟩ := hl.rows_inv
        obtain ⟨b', off', c', e1, _, hp⟩ := hg _ _ hy
        simp only [Value.slice.injEq, Option.some.injEq, Addr.mk.injEq] at e1
        obtain ⟨⟨rfl, rfl, _⟩, _, _⟩ := e1
        refine ⟨_, .pointer (some ⟨b, off + n.toNat * e.size, none⟩), h2, by simp only [VR]; exact ⟨b, _, rfl, hp⟩, fun w' _ => ?_⟩
        have hin : 0 ≤ n ∧ n < (xs.length : Int) := ⟨h0, by omega⟩
        simp [execOp, hop, hv, hi, Instr.indexAt, asIntOf, run_underlying' hu, Instr.sureAddr, hin, elemIs_run hel, add_off]
      · cases h2
    · split at hk
      · rename_i e xs hr
        obtain ⟨h1, h2⟩ := bif_some hk
        simp only [Bool.and_eq_true, decide_eq_true_eq] at h1
        obtain ⟨he, h0⟩ := h1
        split at h2
        · rename_i y hy
          obtain ⟨te, hu, hel⟩ := sliceElem_some he
          have hlt : n.toNat < xs.length := (List.getElem?_eq_some_iff.1 hy).1
          have hl := rowOf_sound h.mr hr hx
          obtain ⟨_, hg⟩ := hl.rows_inv
          obtain ⟨b, off, c, hv, _, hp⟩ := hg _ _ hy
          refine ⟨_, .pointer (some ⟨b, off + n.toNat * e.size, none⟩), h2, by simp only [VR]; exact ⟨b, _, rfl, hp⟩, fun w' _ => ?_⟩
          have hin : 0 ≤ n ∧ n < (xs.length : Int) := ⟨h0, by omega⟩
          simp [execOp, hop, hv, hi, Instr.indexAt, asIntOf, run_underlying' hu, hin, elemIs_run hel, add_off]
        · cases h2
      · split at hk
        · rename_i k e xs hr
          obtain ⟨he, h2⟩ := bif_some hk
          simp only [Bool.and_eq_true, decide_eq_true_eq] at he
          obtain ⟨te, hu, hel⟩ := sliceElem_some he.1
          obtain ⟨hxe, te', hb⟩ := arrOf_some hr
          rw [hxe] at hx
          simp only [VR] at hx
          obtain ⟨_, _, g, cap, cur, vs, f1, _⟩ := h.mr.res _ _ hb
          have hv : a.eval x = .slice (some ⟨g, 0, none⟩) xs.length cap := by
            have := hx.1
            rw [f1] at this
            exact (Option.some.inj this).symm
          refine ⟨_, .pointer (some ⟨g, n.toNat * e.size + 0, none⟩), h2, by simp only [VR]; exact ⟨g, _, _, f1, rfl⟩, fun w' _ => ?_⟩
          have hin : 0 ≤ n ∧ n < (xs.length : Int) := ⟨he.2.1, by omega⟩
          simp [execOp, hop, hv, hi, Instr.indexAt, asIntOf, run_underlying' hu, hin, elemIs_run hel, add_off]
        · split at hk
          · rename_i r1 off hxe
            split at hk
            · rename_i d hd
              rw [hxe] at hx
              simp only [VR] at hx
              obtain ⟨b, hb1, hv⟩ := hx
              unfold arrStep at hd
              split at hd
              · rename_i m te hu
                obtain ⟨h1, hd⟩ := bif_some hd
                cases hd
                simp only [Bool.and_eq_true, decide_eq_true_eq] at h1
                obtain ⟨hkn, h0, hm⟩ := h1
                simp only [known, Bool.and_eq_true, Option.isSome_iff_exists] at hkn
                obtain ⟨⟨i0, hi0⟩, _⟩ := hkn
                refine ⟨_, .pointer (some ⟨b, off + n.toNat * C.P.cellsOf te, none⟩), hk, by simp only [VR]; exact ⟨b, hb1, rfl⟩, fun w' _ => ?_⟩
                have hin : 0 ≤ n ∧ n < (m : Int) := ⟨h0, hm⟩
                simp [execOp, hop, hv, hi, Instr.indexAt, asIntOf, run_underlying' hu, Instr.sureAddr, hin, run_sizeOf' hi0, add_off]
              · cases hd
            · cases hk
          · cases hk
  · cases hk
theorem ba_get? (s : ByteArray) (i : Nat) : s[i]? = s.data[i]? := by
  by_cases h : i < s.size
  · have h' : i < s.data.size := h
    rw [getElem?_pos s i h, getElem?_pos s.data i h']
    rfl
  · have h' : ¬ i < s.data.size := h
    rw [getElem?_neg s i h, getElem?_neg s.data i h']
theorem q_index (h : St C E st a w) (t : TypeId) (x i : Operand) (hop : o.op = .index t x i) (hk : (match evO C st x, intOf? (evO C st i) with
    | .v (.string s), some n => bif isStr C.P t && decide (0 ≤ n) then match s.data[n.toNat]? with
        | some b => K (.v (.int .u8 b.toNat)) st
        | none => none
      else none
    | _, _ => none) = some r) : Quiet C E st a w o K r := by
  have hx := h.eval x
  have hi := h.eval i
  split at hk
  · rename_i s n hxe hn
    obtain ⟨k, hi⟩ := intOf?_some hn hi
    rw [hxe] at hx
    simp only [VR] at hx
    obtain ⟨h1, h2⟩ := bif_some hk
    simp only [Bool.and_eq_true, decide_eq_true_eq] at h1
    obtain ⟨hs, h0⟩ := h1
    split at h2
    · rename_i b hb
      refine ⟨_, .int .u8 b.toNat, h2, by simp only [VR], fun w' _ => ?_⟩
      have hu : C.P.underlying t = some .string := by
        unfold isStr at hs
        split at hs
        · assumption
        · cases hs
      have hb' : s[n.toNat]? = some b := by rw [ba_get?, hb]
      simp [execOp, hop, hx, hi, Instr.index, asIntOf, run_underlying' hu, h0, hb']
    · cases h2
  · cases hk
theorem q_len (h : St C E st a w) (c : Go.Call) (x : Operand) (hop : o.op = .call c) (hb : c.callee = .builtin .len) (hargs : c.args = #[x]) {T : TypeId} (hT : c.argTypes[0]? = some T) {p : (e : Ty) × List e.T} (hsl : isSliceT C.P T = true)
    (hp : rowOf st.t (evO C st x) = some p) (hk : K (.v (.int .i64 p.2.length)) st = some r) : Quiet C E st a w o K r := by
  have hl := rowOf_sound h.mr hp (h.eval x)
  obtain ⟨⟨A, cap, hv⟩, _⟩ := hl.rows_inv
  refine ⟨_, .int .i64 p.2.length, hk, by simp only [VR], fun w' _ => ?_⟩
  obtain ⟨te, hu⟩ : ∃ te, C.P.underlying T = some (.slice te) := by
    unfold isSliceT at hsl
    split at hsl
    · exact ⟨_, by assumption⟩
    · cases hsl
  simp [execOp, hop, resolve, hb, hargs, invoke, builtin, Builtin.len_, hT, run_underlying' hu, hv, goInt]
theorem q_lenArr (h : St C E st a w) (c : Go.Call) (x : Operand) (hop : o.op = .call c) (hb : c.callee = .builtin .len) (hargs : c.args = #[x]) {T : TypeId} (hT : c.argTypes[0]? = some T) {k : Nat} {e : Ty} {xs : List e.T} (hsl : isSliceT C.P T = true)
    (hp : arrOf st.t (evO C st x) = some (k, ⟨e, xs⟩)) (hk : K (.v (.int .i64 xs.length)) st = some r) : Quiet C E st a w o K r := by
  obtain ⟨hxe, te', hbb⟩ := arrOf_some hp
  have hx := h.eval x
  rw [hxe] at hx
  simp only [VR] at hx
  obtain ⟨_, _, g, cap, cur, vs, f1, _⟩ := h.mr.res _ _ hbb
  have hv : a.eval x = .slice (some ⟨g, 0, none⟩) xs.length cap := by
    have := hx.1
    rw [f1] at this
    exact (Option.some.inj this).symm
  refine ⟨_, .int .i64 xs.length, hk, by simp only [VR], fun w' _ => ?_⟩
  obtain ⟨te, hu⟩ : ∃ te, C.P.underlying T = some (.slice te) := by
    unfold isSliceT at hsl
    split at hsl
    · exact ⟨_, by assumption⟩
    · cases hsl
  simp [execOp, hop, resolve, hb, hargs, invoke, builtin, Builtin.len_, hT, run_underlying' hu, hv, goInt]
theorem run_sliceBound {P : Program} {w : World} {k : IntKind} {n : Int} {y : Nat} {c : BoundsCode} (h : 0 ≤ n ∧ n ≤ y) : (Instr.sliceBound (.int k n) y c).run P w = .ok n.toNat w := by
  simp [Instr.sliceBound, asIntOf, h]
theorem optInt_some {x? : Option Operand} {n? : Option Int} (h : St C E st a w) (hx : optInt C st x? = some n?) : (x? = none ∧ n? = none) ∨ ∃ x n k, x? = some x ∧ n? = some n ∧ a.eval x = .int k n := by
  cases x? with
  | none => simp [optInt] at hx; exact .inl ⟨rfl, hx.symm⟩
  | some x =>
    simp only [optInt, Option.map_eq_some_iff] at hx
    obtain ⟨n, h1, rfl⟩ := hx
    obtain ⟨k, h2⟩ := intOf?_some h1 (h.eval x)
    exact .inr ⟨x, n, k, rfl, rfl, h2⟩
theorem run_sliceBounds {P : Program} {w1 : World} (isS : Bool) {len cap : Nat} {lo hi : Option Operand} {l? h? : Option Int} (h : St C E st a w) (hl : optInt C st lo = some l?) (hh : optInt C st hi = some h?)
    (h1 : 0 ≤ l?.getD 0) (h2 : l?.getD 0 ≤ h?.getD len) (h3 : h?.getD len ≤ cap) :
    (Instr.sliceBounds isS len cap (lo.map a.eval) (hi.map a.eval) none).run P w1 = .ok ((l?.getD 0).toNat, (h?.getD len).toNat, cap) w1 := by
  rcases optInt_some h hl with ⟨rfl, rfl⟩ | ⟨x, n, k, rfl, rfl, e1⟩ <;> rcases optInt_some h hh with ⟨rfl, rfl⟩ | ⟨y, m, k', rfl, rfl, e2⟩ <;> simp only [Option.getD_none, Option.getD_some] at h1 h2 h3 <;>
    simp [Instr.sliceBounds, *]
  · rw [run_sliceBound ⟨by omega, h3⟩]; simp
  · rw [run_sliceBound ⟨h1, h2⟩]; simp
  · rw [run_sliceBound ⟨by omega, h3⟩]
    simp only [Result.andThen_ok, Sem.run_bind, Sem.run_pure]
    rw [run_sliceBound ⟨h1, by omega⟩]; simp
theorem LR.cut {Φ : Phi} {e : Ty} {xs : List e.T} {A : Option Addr} {c : Nat} (h : LR Φ ⟨.rows e, xs⟩ (.slice A xs.length c)) (l k : Nat) (h1 : l ≤ k) (h2 : k ≤ xs.length) :
    LR Φ ⟨.rows e, (xs.take k).drop l⟩ (.slice (if c = l then A else A.map (·.add (l * e.size))) (k - l) (c - l)) := by
  have hlen : ((xs.take k).drop l).length = k - l := by simp; omega
  by_cases h0 : k = l
  · subst h0
    have : (xs.take k).drop k = [] := List.drop_of_length_le (by simp; omega)
    rw [this, Nat.sub_self]
    exact .row0 _ _ _
  · obtain ⟨_, hg⟩ := h.rows_inv
    have hlt : l < xs.length := by omega
    obtain ⟨b, off, c', e1, hc, _⟩ := hg l xs[l] (List.getElem?_eq_getElem hlt)
    simp only [Value.slice.injEq] at e1
    obtain ⟨rfl, _, rfl⟩ := e1
    rw [if_neg (by omega), ← hlen]
    simp only [Option.map_some, add_off]
    have hx : ∀ i y, ((xs.take k).drop l)[i]? = some y → xs[l + i]? = some y := fun i y hy => by
      rw [List.getElem?_drop, List.getElem?_take] at hy
      split at hy
      · exact hy
      · cases hy
    generalize hys : (xs.take k).drop l = ys at hx hlen
    have key : ∀ i y, xs[l + i]? = some y → PR Φ e y b (off + (l + i) * e.size) := fun i y hy => by
      obtain ⟨b', off', c'', e1, _, hp⟩ := hg _ _ hy
      simp only [Value.slice.injEq, Option.some.injEq, Addr.mk.injEq] at e1
      obtain ⟨⟨rfl, rfl, _⟩, _⟩ := e1
      exact hp
    classical
    let f : Nat → Nat → Value := fun i j => match ys[i]? with
      | some y => (Φ b (off + (l + i) * e.size + j)).getD undef
      | none => undef
    refine .row e ys b _ _ f (by omega) (by omega) (fun i j y lf hy hj => ?_) (fun i j y lf hy hj => ?_)
    · obtain ⟨g, g1, g2⟩ := key i y (hx i y hy)
      have := g1 j lf hj
      simp only [f, hy]
      rw [this, Option.getD_some, show off + l * e.size + (i * e.size + j) = off + (l + i) * e.size + j by rw [Nat.add_mul]; omega, this]
    · obtain ⟨g, g1, g2⟩ := key i y (hx i y hy)
      have := g1 j lf hj
      simp only [f, hy]
      rw [this, Option.getD_some]
      exact g2 j lf hj
end
end Go.Proofs.Ev
namespace Go.Proofs.Ev
open Go
set_option linter.unusedVariables false
set_option linter.unusedSimpArgs false
variable {ρ : Type}
section
variable {C : Cfg} {E : Env} {st : AS} {a : Act} {w : World} {o : Oper} {K : AV → AS → Option ρ} {r : ρ}
theorem q_sliceStr (h : St C E st a w) (t : TypeId) (x : Operand) (lo hi mx : Option Operand) (hop : o.op = .slice t x lo hi mx) {l? h? : Option Int} (hl : optInt C st lo = some l?) (hh : optInt C st hi = some h?)
    (hm : mx = none) {s : ByteArray} (hx : evO C st x = .v (.string s)) (ht : isStr C.P t = true)
    (h1 : 0 ≤ l?.getD 0) (h2 : l?.getD 0 ≤ h?.getD s.size) (h3 : h?.getD s.size ≤ s.size) (hk : K (.v (.string (s.extract (l?.getD 0).toNat (h?.getD s.size).toNat))) st = some r) : Quiet C E st a w o K r := by
  subst hm
  have hv := h.eval x
  rw [hx] at hv
  simp only [VR] at hv
  have hu : C.P.underlying t = some .string := by
    unfold isStr at ht
    split at ht
    · assumption
    · cases ht
  refine ⟨_, .string (s.extract (l?.getD 0).toNat (h?.getD s.size).toNat), hk, by simp only [VR], fun w' _ => ?_⟩
  simp only [execOp, hop, hv, Instr.sliceAt, Instr.slice, Sem.run_bind, run_underlying' hu, Result.andThen_ok, Option.map_none, Option.isSome_none, Bool.false_eq_true, if_false]
  rw [run_sliceBounds false h hl hh h1 h2 h3]
  simp
theorem q_sliceRow (h : St C E st a w) (t : TypeId) (x : Operand) (lo hi mx : Option Operand) (hop : o.op = .slice t x lo hi mx) {l? h? : Option Int} (hl : optInt C st lo = some l?) (hh : optInt C st hi = some h?)
    (hm : mx = none) {e : Ty} {xs : List e.T} (hx : rowOf st.t (evO C st x) = some ⟨e, xs⟩) (ht : sliceElem C.P t e = true)
    (h1 : 0 ≤ l?.getD 0) (h2 : l?.getD 0 ≤ h?.getD xs.length) (h3 : h?.getD xs.length ≤ xs.length) (hk : K (.d ⟨.rows e, (xs.take (h?.getD xs.length).toNat).drop (l?.getD 0).toNat⟩) st = some r) : Quiet C E st a w o K r := by
  subst hm
  have hlr := rowOf_sound h.mr hx (h.eval x)
  obtain ⟨⟨A, c, hv⟩, hg⟩ := hlr.rows_inv
  obtain ⟨te, hu, hel⟩ := sliceElem_some ht
  have hc : xs.length ≤ c ∨ xs = [] := by
    cases xs with
    | nil => exact .inr rfl
    | cons y ys =>
      obtain ⟨b, off, c', e1, hc, _⟩ := hg 0 y rfl
      rw [hv] at e1
      simp only [Value.slice.injEq] at e1
      exact .inl (by omega)
  have hc' : xs.length ≤ c := by
    rcases hc with hc | rfl
    · exact hc
    · simp
  rw [hv] at hlr
  refine ⟨_, .slice (if c = (l?.getD 0).toNat then A else A.map (·.add ((l?.getD 0).toNat * e.size))) ((h?.getD xs.length).toNat - (l?.getD 0).toNat) (c - (l?.getD 0).toNat), hk, ?_, fun w' _ => ?_⟩
  rotate_left
  · simp only [execOp, hop, hv, Instr.sliceAt, Instr.slice, Sem.run_bind, run_underlying' hu, Result.andThen_ok, Option.map_none]
    rw [run_sliceBounds true h hl hh h1 h2 (by omega)]
    simp only [Result.andThen_ok, Sem.run_bind, elemIs_run hel, Sem.run_pure]
  · simp only [VR]
    exact hlr.cut _ _ (by omega) (by omega)
theorem q_sliceGa (h : St C E st a w) (t : TypeId) (x : Operand) (hop : o.op = .slice t x none none none)
    {e : Ty} {xs : List e.T} (hx : evO C st x = .ga e xs) (ht : arrElem C.P t e xs.length = true) (hk : K (.full e xs) st = some r) : Quiet C E st a w o K r := by
  have hv := h.eval x
  rw [hx] at hv
  simp only [VR] at hv
  obtain ⟨b, off, hv, hl⟩ := hv
  obtain ⟨te, hu, hel⟩ := arrElem_some ht
  refine ⟨_, .slice (some ⟨b, off, none⟩) xs.length xs.length, hk, ?_, fun w' _ => ?_⟩
  rotate_left
  · simp only [execOp, hop, hv, Instr.sliceAt, Sem.run_bind, run_underlying' hu, Result.andThen_ok, Instr.sureAddr, Sem.run_pure, Option.map_none, Instr.sliceBounds, elemIs_run hel]
    simp [Addr.add]
  · simp only [VR]
    exact ⟨⟨_, rfl⟩, hl⟩
theorem q_sliceFull (h : St C E st a w) (t : TypeId) (x : Operand) (lo hi mx : Option Operand) (hop : o.op = .slice t x lo hi mx) {l? h? : Option Int} {m : Int} (hl : optInt C st lo = some l?) (hh : optInt C st hi = some h?)
    (hm : optInt C st mx = some (some m)) (hhi : hi ≠ none) {e : Ty} {xs : List e.T} (hx : rowOf st.t (evO C st x) = some ⟨e, xs⟩) (ht : sliceElem C.P t e = true)
    (h0 : m = h?.getD xs.length) (h1 : 0 ≤ l?.getD 0) (h2 : l?.getD 0 ≤ h?.getD xs.length) (h3 : h?.getD xs.length ≤ xs.length) (hk : K (.full e ((xs.take (h?.getD xs.length).toNat).drop (l?.getD 0).toNat)) st = some r) : Quiet C E st a w o K r := by
  have hlr := rowOf_sound h.mr hx (h.eval x)
  obtain ⟨⟨A, c, hv⟩, hg⟩ := hlr.rows_inv
  obtain ⟨te, hu, hel⟩ := sliceElem_some ht
  have hc' : xs.length ≤ c := by
    cases xs with
    | nil => simp
    | cons y ys =>
      obtain ⟨b, off, c', e1, hc, _⟩ := hg 0 y rfl
      rw [hv] at e1
      simp only [Value.slice.injEq] at e1
      omega
  rw [hv] at hlr
  obtain ⟨rfl, hn⟩ | ⟨xm, m', km, rfl, hm1, em⟩ := optInt_some h hm
  · cases hn
  injection hm1 with hm1
  subst hm1
  obtain ⟨rfl, _⟩ | ⟨xh, n, kh, rfl, rfl, eh⟩ := optInt_some h hh
  · exact absurd rfl hhi
  simp only [Option.getD_some] at h0 h2 h3 hk
  subst h0
  have hb : ∀ w', (Instr.sliceBounds true xs.length c (lo.map a.eval) (some (a.eval xh)) (some (a.eval xm))).run C.P w' = .ok ((l?.getD 0).toNat, m.toNat, m.toNat) w' := fun w' => by
    rcases optInt_some h hl with ⟨rfl, rfl⟩ | ⟨xl, n', kl, rfl, rfl, el⟩
    · simp [Instr.sliceBounds, em, eh]
      rw [run_sliceBound ⟨by simpa using (by omega : 0 ≤ m), by omega⟩]
      simp only [Result.andThen_ok, Sem.run_bind, Sem.run_pure]
      rw [run_sliceBound ⟨by omega, by omega⟩]; simp
    · simp only [Option.getD_some] at h1 h2
      simp [Instr.sliceBounds, em, eh, el]
      rw [run_sliceBound ⟨by omega, by omega⟩]
      simp only [Result.andThen_ok, Sem.run_bind, Sem.run_pure]
      rw [run_sliceBound ⟨by omega, by omega⟩]
      simp only [Result.andThen_ok, Sem.run_bind, Sem.run_pure]
      rw [run_sliceBound ⟨h1, by omega⟩]; simp
  have hcut := hlr.cut (l?.getD 0).toNat m.toNat (by omega) (by omega)
  have hlen : ((xs.take m.toNat).drop (l?.getD 0).toNat).length = m.toNat - (l?.getD 0).toNat := by simp; omega
  refine ⟨_, .slice (if m.toNat = (l?.getD 0).toNat then A else A.map (·.add ((l?.getD 0).toNat * e.size))) (m.toNat - (l?.getD 0).toNat) (m.toNat - (l?.getD 0).toNat), hk, ?_, fun w' _ => ?_⟩
  · simp only [VR]
    refine ⟨⟨_, by rw [hlen]⟩, ?_⟩
    by_cases h00 : m.toNat = (l?.getD 0).toNat
    · have : (xs.take m.toNat).drop (l?.getD 0).toNat = [] := List.drop_of_length_le (by simp; omega)
      rw [this, h00, Nat.sub_self]
      exact .row0 _ _ _
    · rw [if_neg h00]
      rw [if_neg (by omega)] at hcut
      obtain ⟨_, hg'⟩ := hcut.rows_inv
      rw [← hlen]
      generalize (xs.take m.toNat).drop (l?.getD 0).toNat = ys at *
      have hpos : 0 < ys.length := by omega
      obtain ⟨b, off, c'', e1, _, _⟩ := hg' 0 ys[0] (List.getElem?_eq_getElem hpos)
      simp only [Value.slice.injEq] at e1
      obtain ⟨e1, _, _⟩ := e1
      rw [e1]
      have key : ∀ i y, ys[i]? = some y → PR E.Φ e y b (off + i * e.size) := fun i y hy => by
        obtain ⟨b', off', c3, e2, _, hp⟩ := hg' _ _ hy
        rw [e1] at e2
        simp only [Value.slice.injEq, Option.some.injEq, Addr.mk.injEq] at e2
        obtain ⟨⟨rfl, rfl, _⟩, _⟩ := e2
        exact hp
      classical
      refine .row e ys b _ _ (fun i j => match ys[i]? with
        | some y => (E.Φ b (off + i * e.size + j)).getD undef
        | none => undef) hpos (Nat.le_refl _) (fun i j y lf hy hj => ?_) (fun i j y lf hy hj => ?_)
      · obtain ⟨g, g1, g2⟩ := key i y hy
        have := g1 j lf hj
        simp only [hy]
        rw [this, Option.getD_some, ← Nat.add_assoc, this]
      · obtain ⟨g, g1, g2⟩ := key i y hy
        have := g1 j lf hj
        simp only [hy]
        rw [this, Option.getD_some]
        exact g2 j lf hj
  · simp only [execOp, hop, hv, Instr.sliceAt, Instr.slice, Sem.run_bind, run_underlying' hu, Result.andThen_ok, Option.map_some]
    rw [hb w']
    simp only [Result.andThen_ok, Sem.run_bind, elemIs_run hel, Sem.run_pure]
theorem q_sliceNil (h : St C E st a w) (t : TypeId) (x : Operand) (lo hi mx : Option Operand) (hop : o.op = .slice t x lo hi mx) {l? h? : Option Int} (hl : optInt C st lo = some l?) (hh : optInt C st hi = some h?)
    (hm : mx = none) (hx : evO C st x = .v (.slice none 0 0)) (ht : nilCut C.P t = true) (h1 : l?.getD 0 = 0) (h2 : h?.getD 0 = 0) (hk : K (.v (.slice none 0 0)) st = some r) : Quiet C E st a w o K r := by
  subst hm
  have hv := h.eval x
  rw [hx] at hv
  simp only [VR] at hv
  obtain ⟨te, i, hu, hi⟩ : ∃ te i, C.P.underlying t = some (.slice te) ∧ C.P.info? te = some i := by
    unfold nilCut at ht
    split at ht
    · rename_i te hu
      obtain ⟨i, hi⟩ := Option.isSome_iff_exists.1 ht
      exact ⟨te, i, hu, hi⟩
    · cases ht
  have h2' : h?.getD ((0 : Nat) : Int) = 0 := h2
  refine ⟨_, .slice none 0 0, hk, by simp only [VR], fun w' _ => ?_⟩
  simp only [execOp, hop, hv, Instr.sliceAt, Instr.slice, Sem.run_bind, run_underlying' hu, Result.andThen_ok, Option.map_none]
  rw [run_sliceBounds true (len := 0) (cap := 0) h hl hh (by omega) (by omega) (by omega), h1, h2']
  simp [run_sizeOf' hi]
end
end Go.Proofs.Ev
namespace Go.Proofs.Ev
open Go
set_option linter.unusedVariables false
set_option linter.unusedSimpArgs false
variable {ρ : Type}
theorem VRs.exact (E : Env) : ∀ (l : List Value), VRs E (l.map .v) l
  | [] => by simp only [List.map_nil, VRs]
  | x :: l => by
    simp only [List.map_cons, VRs, VR]
    exact ⟨trivial, VRs.exact E l⟩
theorem aggOf?_sound {E : Env} {x : AV} {v : Value} {c : List AV} (h : aggOf? x = some c) (hx : VR E x v) : ∃ vs, v = .agg vs.toArray ∧ VRs E c vs := by
  cases x with
  | agg l =>
    simp only [aggOf?, Option.some.injEq] at h
    subst h
    simpa only [VR] using hx
  | v y =>
    cases y <;> simp [aggOf?] at h
    subst h
    simp only [VR] at hx
    subst hx
    exact ⟨_, by simp, VRs.exact E _⟩
  | _ => simp [aggOf?] at h
theorem cellsOf?_sound {E : Env} {x : AV} {v : Value} {c : List AV} (h : cellsOf? x = some c) (hx : VR E x v) : VRs E c v.cells.toList := by
  cases x with
  | agg l =>
    simp only [cellsOf?, Option.some.injEq] at h
    subst h
    simp only [VR] at hx
    obtain ⟨vs, rfl, h2⟩ := hx
    simpa [Value.cells] using h2
  | v y =>
    simp only [VR] at hx
    subst hx
    cases v <;> simp only [cellsOf?, Option.some.injEq] at h <;> first | (subst h; simp only [Value.cells, VRs, VR]; exact ⟨trivial, trivial⟩) | (subst h; simpa only [Value.cells] using VRs.exact E _) | cases h
  | d lf =>
    simp only [cellsOf?, Option.some.injEq] at h
    subst h
    have : v.cells = #[v] := by
      simp only [VR] at hx
      cases hx <;> rfl
    rw [this]
    simp only [VRs, and_true]
    exact hx
  | ep k s i j =>
    simp only [cellsOf?, Option.some.injEq] at h
    subst h
    have hx' := hx
    simp only [VR] at hx'
    obtain ⟨b, n, c, _, rfl⟩ := hx'
    simp only [Value.cells, VRs, and_true]
    exact hx
  | dp e y j =>
    simp only [cellsOf?, Option.some.injEq] at h
    subst h
    have hx' := hx
    simp only [VR] at hx'
    obtain ⟨b, off, rfl, _⟩ := hx'
    simp only [Value.cells, VRs, and_true]
    exact hx
  | full e xs =>
    simp only [cellsOf?, Option.some.injEq] at h
    subst h
    have hx' := hx
    simp only [VR] at hx'
    obtain ⟨⟨A, rfl⟩, _⟩ := hx'
    simp only [Value.cells, VRs, and_true]
    exact hx
  | ga e xs =>
    simp only [cellsOf?, Option.some.injEq] at h
    subst h
    have hx' := hx
    simp only [VR] at hx'
    obtain ⟨b, off, rfl, _⟩ := hx'
    simp only [Value.cells, VRs, and_true]
    exact hx
  | sl r =>
    simp only [cellsOf?, Option.some.injEq] at h
    subst h
    have hx' := hx
    simp only [VR] at hx'
    obtain ⟨_, A, n, cp, rfl⟩ := hx'
    simp only [Value.cells, VRs, and_true]
    exact hx
  | ptr r o =>
    simp only [cellsOf?, Option.some.injEq] at h
    subst h
    have hx' := hx
    simp only [VR] at hx'
    obtain ⟨b, _, rfl⟩ := hx'
    simp only [Value.cells, VRs, and_true]
    exact hx
  | clo f fs cs =>
    simp only [cellsOf?, Option.some.injEq] at h
    subst h
    have hx' := hx
    simp only [VR] at hx'
    obtain ⟨xs, ys, rfl, _⟩ := hx'
    simp only [Value.cells, VRs, and_true]
    exact hx
  | tup l => simp [cellsOf?] at h
  | bad => simp [cellsOf?] at h
/-! ### cells in an array -/
theorem fold_set : ∀ (vs : List Value) (off k : Nat) (cs : Array Value), off + k + vs.length ≤ cs.size →
    ((vs.zipIdx k).foldl (fun cs p => cs.setIfInBounds (off + p.2) p.1) cs).toList = cs.toList.take (off + k) ++ vs ++ cs.toList.drop (off + k + vs.length)
  | [], off, k, cs, _ => by simp
  | v :: vs, off, k, cs, h => by
    simp only [List.length_cons] at h
    simp only [List.zipIdx_cons, List.foldl_cons]
    rw [fold_set vs off (k + 1) _ (by simp; omega)]
    simp only [Array.toList_setIfInBounds, List.length_cons]
    rw [List.set_eq_take_append_cons_drop, if_pos (by simp; omega)]
    have hl : (cs.toList.take (off + k)).length = off + k := by simp; omega
    rw [show off + (k + 1) = off + k + 1 by omega]
    have e1 : (cs.toList.take (off + k) ++ v :: cs.toList.drop (off + k + 1)).take (off + k + 1) = cs.toList.take (off + k) ++ [v] := by
      rw [List.take_append, List.take_of_length_le (by omega), hl]
      simp
    have e2 : (cs.toList.take (off + k) ++ v :: cs.toList.drop (off + k + 1)).drop (off + k + 1 + vs.length) = cs.toList.drop (off + k + (vs.length + 1)) := by
      rw [List.drop_append, List.drop_of_length_le (by omega), hl]
      simp only [List.nil_append]
      rw [show off + k + 1 + vs.length - (off + k) = vs.length + 1 by omega]
      simp only [List.drop_succ_cons, List.drop_drop]
      congr 1; omega
    rw [e1, e2]
    simp
theorem putCells_sound {E : Env} {off : Nat} {new c c' : List AV} {ns vs : List Value} (h : putCells off new c = some c') (hn : VRs E new ns) (hc : VRs E c vs) :
    off + ns.length ≤ vs.length ∧ VRs E c' (vs.take off ++ ns ++ vs.drop (off + ns.length)) := by
  unfold putCells at h
  cases hb : Nat.ble (off + new.length) c.length with
  | false => rw [hb] at h; cases h
  | true =>
    rw [hb] at h
    simp only [cond_true, Option.some.injEq] at h
    subst h
    have := Nat.le_of_ble_eq_true hb
    have l1 := hn.length
    have l2 := hc.length
    refine ⟨by omega, ?_⟩
    rw [l1]
    exact ((hc.take off).append hn).append (hc.drop _)
section
variable {C : Cfg} {E : Env} {st : AS} {a : Act} {w : World} {o : Oper} {K : AV → AS → Option ρ} {r : ρ}
theorem fillF_sound (h : St C E st a w) {t : TypeId} {places : Nat → Option (Nat × Nat)} (hpl : ∀ i off ft n, placeAt? C.P t i = some (off, ft, n) → known C.P ft = true → places i = some (off, n)) :
    ∀ (parts : List (Nat × Operand)) (c c' : List AV) (vs : List Value), VRs E c vs → fillF C.P t (evO C st) parts c = some c' →
    ∃ vs', Instr.fill places vs.toArray (parts.map fun p => (p.1, a.eval p.2)) = some vs'.toArray ∧ VRs E c' vs'
  | [], c, c', vs, hc, hf => by
    simp only [fillF, Option.some.injEq] at hf
    subst hf
    exact ⟨vs, by simp [Instr.fill], hc⟩
  | (i, x) :: parts, c, c', vs, hc, hf => by
    simp only [fillF] at hf
    split at hf
    · rename_i off ft n hfa
      split at hf
      · rename_i cs hcs
        obtain ⟨h1, h2⟩ := bif_some hf
        simp only [Bool.and_eq_true] at h1
        split at h2
        · rename_i c1 hp
          have hv := cellsOf?_sound hcs (h.eval x)
          obtain ⟨g1, g2⟩ := putCells_sound hp hv hc
          obtain ⟨vs', k1, k2⟩ := fillF_sound h hpl parts c1 c' _ g2 h2
          refine ⟨vs', ?_, k2⟩
          have hsz : (a.eval x).cells.size = n := by
            have := hv.length
            rw [Array.length_toList] at this
            rw [this]
            exact Nat.eq_of_beq_eq_true h1.2
          simp only [List.map_cons, Instr.fill, hpl i off ft n hfa h1.1, hsz, ne_eq, not_true_eq_false, decide_false, Bool.false_or, decide_eq_true_eq]
          have g1' : ¬ (off + n > vs.toArray.size) := by
            have : (a.eval x).cells.toList.length = n := by rw [Array.length_toList, hsz]
            simp only [List.size_toArray]; omega
          rw [if_neg g1', ← k1]
          congr 1
          apply Array.ext'
          rw [← Array.foldl_toList, Array.toList_zipIdx]
          have := fold_set (a.eval x).cells.toList off 0 vs.toArray (by simp only [List.size_toArray]; omega)
          simpa using this
        · cases h2
      · cases hf
    · cases hf
theorem zeroCells?_sound {t : TypeId} {c : List AV} (hz : zeroCells? C.P t = some c) : ∃ i z, C.P.info? t = some i ∧ i.zero = some z ∧ VRs E c z.cells.toList := by
  unfold zeroCells? at hz
  split at hz
  · rename_i i hi
    split at hz
    · rename_i z hz'
      simp only [Option.some.injEq] at hz
      subst hz
      exact ⟨i, z, hi, hz', VRs.exact E _⟩
    · cases hz
  · cases hz
theorem mapM_places {P : Program} : ∀ (fs : List Go.Field), (fs.all fun f => known P f.type) = true → ∃ pl : List (Nat × Nat), fs.mapM (fun (f : Go.Field) => (P.info? f.type).map fun i => (f.offset, i.size)) = some pl ∧ ∀ (i : Nat) (f : Go.Field), fs[i]? = some f → pl[i]? = some (f.offset, P.cellsOf f.type)
  | [], _ => ⟨[], rfl, by simp⟩
  | f :: fs, h => by
    simp only [List.all_cons, Bool.and_eq_true] at h
    obtain ⟨i, d, h1, h2⟩ := known_info h.1
    obtain ⟨pl, k1, k2⟩ := mapM_places fs h.2
    refine ⟨(f.offset, i.size) :: pl, by simp [List.mapM_cons, h1, k1], fun j g hg => ?_⟩
    cases j with
    | zero => simp at hg; subst hg; simp [Program.cellsOf, h1]
    | succ j => simpa using k2 j g (by simpa using hg)
theorem placeAt?_struct {P : Program} {t : TypeId} {fs : Array Go.Field} (hu : P.underlying t = some (.struct fs)) (i : Nat) : placeAt? P t i = fieldAt? P t i := by
  unfold placeAt?
  rw [hu]
theorem placeAt?_array {P : Program} {t te : TypeId} {n : Nat} (hu : P.underlying t = some (.array n te)) (i : Nat) : placeAt? P t i = some (i * P.cellsOf te, te, P.cellsOf te) := by
  unfold placeAt?
  rw [hu]
theorem q_build (h : St C E st a w) (t : TypeId) (parts : Array (Nat × Operand)) (hop : o.op = .build t parts) {c c' : List AV} (hz : zeroCells? C.P t = some c) (hf : fillF C.P t (evO C st) parts.toList c = some c')
    (hk' : allKnown C.P t = true) (hk : K (.agg c') st = some r) : Quiet C E st a w o K r := by
  obtain ⟨i, z, hi, hzz, hvz⟩ := zeroCells?_sound (E := E) hz
  unfold allKnown at hk'
  split at hk'
  · rename_i fs hu
    obtain ⟨pl, p1, p2⟩ := mapM_places fs.toList hk'
    obtain ⟨vs', k1, k2⟩ := fillF_sound h (places := (pl.toArray[·]?)) (fun j off ft n hfa hkn => by
      rw [placeAt?_struct hu] at hfa
      obtain ⟨fs', fx, e1, e2, e3, e4, e5⟩ := fieldAt?_some hfa
      rw [hu] at e1
      injection e1 with e1
      injection e1 with e1
      subst e1
      have := p2 j fx (by simpa using e2)
      simp only [List.getElem?_toArray]
      rw [this, e3, e4, e5]) parts.toList c c' _ hvz hf
    refine ⟨_, .agg vs'.toArray, hk, by simp only [VR]; exact ⟨_, rfl, k2⟩, fun w' _ => ?_⟩
    have hb : C.P.built t (parts.map fun (i, x) => (i, a.eval x)).toList = some vs'.toArray := by
      unfold Program.built
      simp only [hi, hu, hzz, p1]
      rw [Array.toList_map]
      simpa using k1
    simp only [execOp, hop, Sem.run_bind, run_build w' t _ _ hb, Result.andThen_ok, Sem.run_pure]
  · rename_i m te hu
    obtain ⟨vs', k1, k2⟩ := fillF_sound h (places := fun i => some (i * C.P.cellsOf te, C.P.cellsOf te)) (fun j off ft n hfa hkn => by
      rw [placeAt?_array hu] at hfa
      simp only [Option.some.injEq, Prod.mk.injEq] at hfa
      obtain ⟨rfl, rfl, rfl⟩ := hfa
      rfl) parts.toList c c' _ hvz hf
    obtain ⟨ie, d, hie, hd⟩ := known_info hk'
    refine ⟨_, .agg vs'.toArray, hk, by simp only [VR]; exact ⟨_, rfl, k2⟩, fun w' _ => ?_⟩
    have k1' : Instr.fill (fun i => some (i * C.P.cellsOf te, C.P.cellsOf te)) z.cells (parts.map fun (i, x) => (i, a.eval x)).toList = some vs'.toArray := by
      rw [Array.toList_map]
      simpa using k1
    have hzv : (zeroValue t).run C.P w' = .ok z w' := by simp [zeroValue, run_typeInfo hi, hzz]
    simp only [execOp, hop, Instr.build, Sem.run_bind, hzv, Result.andThen_ok, run_underlying' hu, run_sizeOf' hie, k1', Sem.run_pure]
  · cases hk'
theorem q_extract (h : St C E st a w) (x : Operand) (i : Nat) (hop : o.op = .extract x i) {l : List AV} {y : AV} (hx : evO C st x = .tup l) (hi : l[i]? = some y) (hk : K y st = some r) : Quiet C E st a w o K r := by
  have hv := h.eval x
  rw [hx] at hv
  simp only [VR] at hv
  obtain ⟨vs, hv, hl⟩ := hv
  obtain ⟨v, h1, h2⟩ := hl.get i y hi
  refine ⟨_, v, hk, h2, fun w' _ => ?_⟩
  simp [execOp, hop, hv, Instr.extract, h1]
theorem VRs.map {E : Env} (h : St C E st a w) : ∀ (l : List Operand), VRs E (l.map (evO C st)) (l.map a.eval)
  | [] => by simp only [List.map_nil, VRs]
  | x :: l => by
    simp only [List.map_cons, VRs]
    exact ⟨h.eval x, VRs.map h l⟩
theorem q_makeFunc (h : St C E st a w) (f : FuncId) (xs ys : Array Operand) (hop : o.op = .makeFunc (.func f) xs ys) (hk : K (.clo f (xs.toList.map (evO C st)) (ys.toList.map (evO C st))) st = some r) : Quiet C E st a w o K r := by
  refine ⟨_, .func (.func f) (xs.map a.eval) (ys.map a.eval), hk, ?_, fun w' _ => by simp [execOp, hop, Instr.makeFunc]⟩
  simp only [VR]
  exact ⟨xs.toList.map a.eval, ys.toList.map a.eval, by rw [← Array.toList_map, ← Array.toList_map], VRs.map h _, VRs.map h _⟩
theorem q_field (h : St C E st a w) (t : TypeId) (x : Operand) (f : Nat) (hop : o.op = .field t x f) {off ft n : Nat} (hf : fieldAt? C.P t f = some (off, ft, n)) {c : List AV} (hx : aggOf? (evO C st x) = some c) (hok : oneOk C.P ft = true)
    {y : AV} (hp : pickCells (isAggT C.P ft) off n c = some y) (hk : K y st = some r) : Quiet C E st a w o K r := by
  obtain ⟨vs, hv, hl⟩ := aggOf?_sound hx (h.eval x)
  obtain ⟨fs, fx, e1, e2, e3, e4, e5⟩ := fieldAt?_some hf
  simp only [oneOk, Bool.and_eq_true, Bool.or_eq_true] at hok
  have hn : isAggT C.P ft = false → n = 1 := fun hff => by
    rcases hok.2 with h | h
    · rw [hff] at h; cases h
    · rw [Nat.beq_eq] at h; rw [← e5, h]
  obtain ⟨i, d, hi, hd⟩ := known_info hok.1
  obtain ⟨g1, g2⟩ := pickCells_sound hl hp hn
  refine ⟨_, _, hk, g2, fun w' _ => ?_⟩
  simp only [execOp, hop, hv, Instr.field, Sem.run_bind, run_underlying' e1, Result.andThen_ok, e2, asAgg, Sem.run_pure, part, e3, e4, run_isAgg hd]
  cases hag : isAggT C.P ft with
  | true => simp [run_sizeOf' hi, e5]
  | false =>
    have hn1 := hn hag
    have hlt : off < vs.length := by omega
    have e : ((vs.drop off).take n).headD undef = vs[off] := by rw [hn1, List.drop_eq_getElem_cons hlt]; rfl
    simp only [Bool.false_eq_true, if_false, e]
    simp [List.getElem?_eq_getElem hlt]
theorem q_indexArr (h : St C E st a w) (t : TypeId) (x i : Operand) (hop : o.op = .index t x i) {n : Int} (hn : intOf? (evO C st i) = some n) {c : List AV} (hc : aggOf? (evO C st x) = some c) {m : Nat} {te : TypeId} (hu : C.P.underlying t = some (.array m te))
    (hok : oneOk C.P te = true) (h0 : 0 ≤ n) (hm : n < m) {y : AV} (hp : pickCells (isAggT C.P te) (n.toNat * C.P.cellsOf te) (C.P.cellsOf te) c = some y) (hk : K y st = some r) : Quiet C E st a w o K r := by
  obtain ⟨vs, hv, hl⟩ := aggOf?_sound hc (h.eval x)
  obtain ⟨k, hi⟩ := intOf?_some hn (h.eval i)
  simp only [oneOk, Bool.and_eq_true, Bool.or_eq_true] at hok
  have hn : isAggT C.P te = false → C.P.cellsOf te = 1 := fun hff => by
    rcases hok.2 with h | h
    · rw [hff] at h; cases h
    · rw [Nat.beq_eq] at h; rw [← h]
  obtain ⟨ie, d, hie, hd⟩ := known_info hok.1
  obtain ⟨g1, g2⟩ := pickCells_sound hl hp hn
  refine ⟨_, _, hk, g2, fun w' _ => ?_⟩
  have hin : 0 ≤ n ∧ n < (m : Int) := ⟨h0, hm⟩
  simp only [execOp, hop, hv, hi, Instr.index, asIntOf, Sem.run_bind, Sem.run_pure, run_underlying' hu, Result.andThen_ok, if_pos hin, run_sizeOf' hie, part, run_isAgg hd]
  cases hag : isAggT C.P te with
  | true => simp [run_sizeOf' hie]
  | false =>
    have hn1 := hn hag
    generalize C.P.cellsOf te = sz at *
    generalize n.toNat * sz = off at *
    have hlt : off < vs.length := by omega
    have e : ((vs.drop off).take sz).headD undef = vs[off] := by rw [hn1, List.drop_eq_getElem_cons hlt]; rfl
    simp only [Bool.false_eq_true, if_false, e]
    simp [List.getElem?_eq_getElem hlt]
theorem q_indexA (h : St C E st a w) (t : TypeId) (x i : Operand) (hop : o.op = .index t x i) (hk : (match evO C st x, intOf? (evO C st i) with
    | .v (.string s), some n => bif isStr C.P t && decide (0 ≤ n) then match s.data[n.toNat]? with
        | some b => K (.v (.int .u8 b.toNat)) st
        | none => none
      else none
    | x', some n => match aggOf? x', C.P.underlying t with
      | some c, some (.array m te) => bif oneOk C.P te && (decide (0 ≤ n) && decide (n < m)) then match pickCells (isAggT C.P te) (n.toNat * C.P.cellsOf te) (C.P.cellsOf te) c with
          | some a => K a st
          | none => none
        else none
      | _, _ => none
    | _, _ => none) = some r) : Quiet C E st a w o K r := by
  split at hk
  · rename_i s n hxe hn
    exact q_index h t x i hop (by rw [hxe, hn]; exact hk)
  · rename_i x' n hxe hn _
    split at hk
    · rename_i c m te hc hu
      obtain ⟨h1, h2⟩ := bif_some hk
      simp only [Bool.and_eq_true, decide_eq_true_eq] at h1
      split at h2
      · rename_i y hp
        exact q_indexArr h t x i hop hn hc hu h1.1 h1.2.1 h1.2.2 hp h2
      · cases h2
    · cases hk
  · cases hk
end
end Go.Proofs.Ev
namespace Go.Proofs.Ev
open Go
set_option linter.unusedVariables false
set_option linter.unusedSimpArgs false
variable {ρ : Type}
section
variable {C : Cfg} {E : Env} {st : AS} {a : Act} {w : World} {o : Oper} {K : AV → AS → Option ρ} {r : ρ}
theorem equalIn_ptr {P : Program} {T el : TypeId} (hu : P.underlying T = some (.pointer el)) (d : Nat) (q : Option Addr) (w : World) : (Op.equalIn (d + 1) T (.pointer q) (.pointer none)).run P w = .ok q.isNone w := by
  cases q <;> simp [Op.equalIn, run_underlying' hu]
theorem equalIn_clo {P : Program} {T : TypeId} {p q : Array TypeId} {b : Bool} (hu : P.underlying T = some (.func p q b)) (d : Nat) (f : Fn) (xs ys : Array Value) (w : World) : (Op.equalIn (d + 1) T (.func f xs ys) .nilFunc).run P w = .ok false w := by
  simp [Op.equalIn, run_underlying' hu]
theorem equalIn_nilf {P : Program} {T : TypeId} {p q : Array TypeId} {b : Bool} (hu : P.underlying T = some (.func p q b)) (d : Nat) (w : World) : (Op.equalIn (d + 1) T .nilFunc .nilFunc).run P w = .ok true w := by
  simp [Op.equalIn, run_underlying' hu]
theorem run_nilEq {P : Program} {T : TypeId} {u v : Value} {b : Bool} (hop : ∀ op x y, eqGuard op T x y u v = pure ()) (hb : ∀ w, (Op.equal T u v).run P w = .ok b w) (he : binOp .eql T u v = (do pure (.bool (← Op.equal T u v)))) (hn : binOp .neq T u v = (do pure (.bool (!(← Op.equal T u v))))) (ox oy : Operand) (w : World) :
    (do eqGuard .eql T ox oy u v; binOp .eql T u v : Sem Value).run P w = .ok (.bool b) w ∧ (do eqGuard .neq T ox oy u v; binOp .neq T u v : Sem Value).run P w = .ok (.bool (!b)) w := by
  rw [hop, hop, he, hn]
  simp [hb]
theorem run_part_one {P : Program} {t : TypeId} {d : TypeDesc} (hu : P.underlying t = some d) (hd : (∀ fs, d ≠ .struct fs) ∧ ∀ n e, d ≠ .array n e) {cs : Array Value} {off : Nat} {v : Value} (hv : cs[off]? = some v) (w : World) : (part t cs off).run P w = .ok v w := by
  have ha : (isAgg t).run P w = .ok false w := by
    simp only [isAgg, Sem.run_bind, run_underlying' hu, Result.andThen_ok]
    cases d <;> first | rfl | exact absurd rfl (hd.1 _) | exact absurd rfl (hd.2 _ _)
  simp only [part, Sem.run_bind, ha, Result.andThen_ok, Bool.false_eq_true, if_false, hv, Sem.run_pure]
theorem eqFlds_sound {P : Program} {E : Env} {c1 c2 : List AV} {xs ys : List Value} (h1 : VRs E c1 xs) (h2 : VRs E c2 ys) (d : Nat) (w : World) : ∀ (fs : List Go.Field) (b : Bool), eqFlds P c1 c2 fs = some b → (Op.eqFields (d + 1) xs.toArray ys.toArray fs).run P w = .ok b w
  | [], b, h => by
    simp only [eqFlds, Option.some.injEq] at h; subst h
    simp only [Op.eqFields, Sem.run_pure]
  | f :: fs, b, h => by
    simp only [eqFlds] at h
    have get : ∀ {l : List AV} {vs : List Value} {x : Value}, VRs E l vs → l[f.offset]? = some (.v x) → vs.toArray[f.offset]? = some x := fun {l vs x} hl hx => by
      obtain ⟨v, e1, e2⟩ := hl.get _ _ hx
      simp only [VR] at e2
      subst e2
      simpa using e1
    split at h
    · rename_i k0 k a k' c r hn hu e1 e2 hr
      obtain ⟨hk, h⟩ := bif_some h
      cases h
      have hk := of_decide_eq_true hk
      subst hk
      have ih := eqFlds_sound h1 h2 d w fs r hr
      simp only [Op.eqFields, if_pos (of_decide_eq_false hn), Sem.run_bind, run_part_one hu ⟨fun _ h => (by cases h), fun _ _ h => (by cases h)⟩ (get h1 e1) w, run_part_one hu ⟨fun _ h => (by cases h), fun _ _ h => (by cases h)⟩ (get h2 e2) w, Result.andThen_ok, run_equalIn_int w d f.type k k0 a c hu]
      cases hab : (a == c) <;> simp [ih]
    · rename_i a c r hn hu e1 e2 hr
      cases h
      have ih := eqFlds_sound h1 h2 d w fs r hr
      simp only [Op.eqFields, if_pos (of_decide_eq_false hn), Sem.run_bind, run_part_one hu ⟨fun _ h => (by cases h), fun _ _ h => (by cases h)⟩ (get h1 e1) w, run_part_one hu ⟨fun _ h => (by cases h), fun _ _ h => (by cases h)⟩ (get h2 e2) w, Result.andThen_ok, run_equalIn_string w d f.type a c hu]
      cases hab : (a.toList == c.toList) <;> simp [ih]
    · rename_i a c r hn hu e1 e2 hr
      cases h
      have ih := eqFlds_sound h1 h2 d w fs r hr
      simp only [Op.eqFields, if_pos (of_decide_eq_false hn), Sem.run_bind, run_part_one hu ⟨fun _ h => (by cases h), fun _ _ h => (by cases h)⟩ (get h1 e1) w, run_part_one hu ⟨fun _ h => (by cases h), fun _ _ h => (by cases h)⟩ (get h2 e2) w, Result.andThen_ok, run_equalIn_bool' w d f.type a c hu]
      cases hab : (a == c) <;> simp [ih]
    · cases h
theorem eqStr_sound {P : Program} {E : Env} {T : TypeId} {x y : AV} {u v : Value} {b : Bool} (h : eqStr P T x y = some b) (hx : VR E x u) (hy : VR E y v) (ox oy : Operand) (w : World) :
    (do eqGuard .eql T ox oy u v; binOp .eql T u v : Sem Value).run P w = .ok (.bool b) w ∧ (do eqGuard .neq T ox oy u v; binOp .neq T u v : Sem Value).run P w = .ok (.bool (!b)) w := by
  unfold eqStr at h
  split at h
  · rename_i fs c1 c2 hu e1 e2
    obtain ⟨hg, h⟩ := bif_some h
    simp only [Bool.and_eq_true, Bool.not_eq_true'] at hg
    obtain ⟨xs, rfl, hxs⟩ := aggOf?_sound e1 hx
    obtain ⟨ys, rfl, hys⟩ := aggOf?_sound e2 hy
    have hf : P.fieldsOf T = fs := by simp only [Program.fieldsOf, hu]
    have hr := run_equalIn_struct (P := P) w 9999 T xs.toArray ys.toArray (by rw [hf]; exact hu) hg.1
    rw [hf, eqFlds_sound hxs hys 9998 w fs.toList b h] at hr
    constructor
    · rw [Sem.run_bind, run_eqGuard_agg w _ _ _ _ _ _ hg.2, Result.andThen_ok, run_eql_struct, hr]
      rfl
    · rw [Sem.run_bind, run_eqGuard_agg w _ _ _ _ _ _ hg.2, Result.andThen_ok, run_neq_struct, hr]
      rfl
  · cases h
theorem nilEq_sound {P : Program} {T : TypeId} {x y : AV} {u v : Value} {b : Bool} (h : nilEq P T x y = some b) (hx : VR E x u) (hy : VR E y v) (ox oy : Operand) (w : World) :
    (do eqGuard .eql T ox oy u v; binOp .eql T u v : Sem Value).run P w = .ok (.bool b) w ∧ (do eqGuard .neq T ox oy u v; binOp .neq T u v : Sem Value).run P w = .ok (.bool (!b)) w := by
  unfold nilEq at h
  split at h
  · rename_i el hu
    simp only [VR] at hy
    subst hy
    have fin : ∀ q : Option Addr, q.isNone = b → (do eqGuard .eql T ox oy (.pointer q) (.pointer none); binOp .eql T (.pointer q) (.pointer none) : Sem Value).run P w = .ok (.bool b) w ∧ (do eqGuard .neq T ox oy (.pointer q) (.pointer none); binOp .neq T (.pointer q) (.pointer none) : Sem Value).run P w = .ok (.bool (!b)) w := fun q hq => by
      exact run_nilEq (fun op x y => eqGuard_at_pointer ..) (fun w => by rw [← hq]; exact equalIn_ptr hu 9999 q w) (by cases q <;> rfl) (by cases q <;> rfl) ox oy w
    split at h
    · rename_i e p
      simp only [Option.some.injEq] at h
      simp only [VR] at hx
      rcases LR.ptr_inv hx with ⟨rfl, rfl⟩ | ⟨z, bb, off, rfl, rfl, _⟩
      · exact fin _ h
      · exact fin _ h
    · simp only [Option.some.injEq] at h
      simp only [VR] at hx
      obtain ⟨bb, off, rfl, _⟩ := hx
      exact fin _ h
    · simp only [Option.some.injEq] at h
      simp only [VR] at hx
      obtain ⟨bb, _, rfl⟩ := hx
      exact fin _ h
    · simp only [Option.some.injEq] at h
      simp only [VR] at hx
      subst hx
      exact fin _ h
    · cases h
  · exact eqStr_sound h hx hy ox oy w
  · rename_i f1 f2 f3 hu
    simp only [VR] at hy
    subst hy
    split at h
    · simp only [Option.some.injEq] at h
      simp only [VR] at hx
      obtain ⟨xs, ys, rfl, _⟩ := hx
      exact run_nilEq (fun op x y => eqGuard_at_func ..) (fun w => by rw [← h]; exact equalIn_clo hu 9999 _ _ _ w) rfl rfl ox oy w
    · simp only [Option.some.injEq] at h
      simp only [VR] at hx
      subst hx
      exact run_nilEq (fun op x y => eqGuard_at_nilFunc ..) (fun w => by rw [← h]; exact equalIn_nilf hu 9999 w) rfl rfl ox oy w
    · simp only [Option.some.injEq] at h
      simp only [VR] at hx
      subst hx
      exact run_nilEq (fun op x y => eqGuard_at_func ..) (fun w => by rw [← h]; exact equalIn_clo hu 9999 _ _ _ w) rfl rfl ox oy w
    · cases h
  · cases h
end
end Go.Proofs.Ev
namespace Go.Proofs.Ev
open Go
set_option linter.unusedVariables false
set_option linter.unusedSimpArgs false
theorem mk_cells (τ : Ty) (l : List Lf) (x : τ.T) (h : mk τ l = some x) : cells τ x = l := by
  revert x
  unfold mk
  split
  · rename_i k k' n
    intro x h
    by_cases hk : k = k'
    · subst hk
      simp only [decide_true, cond_true, Option.some.injEq] at h
      subst h; rfl
    · simp only [hk, decide_false, cond_false] at h
      cases h
  all_goals
    intro x h
    first
    | (cases h; rfl)
    | cases h
    | skip
  · split at h
    · rename_i he; subst he; cases h; rfl
    · cases h
  · split at h
    · rename_i he; subst he; cases h; rfl
    · cases h
section
variable {C : Cfg} {E : Env} {w : World} {t : List (Nat × Res)}
theorem toLf_sound (hM : MR C E w (lk t)) {τ : Ty} {a : AV} {v : Value} {lf : Lf} (h : toLf t τ a = some lf) (hv : VR E a v) : LR E.Φ lf v := by
  unfold toLf at h
  split at h
  · simp only [Option.some.injEq] at h; subst h
    simp only [VR] at hv; subst hv; exact .int _ _
  · simp only [Option.some.injEq] at h; subst h
    simp only [VR] at hv; subst hv; exact .bool _
  · simp only [Option.some.injEq] at h; subst h
    simp only [VR] at hv; subst hv; exact .str _
  · simp only [Option.some.injEq] at h; subst h
    simp only [VR] at hv; subst hv; exact .row0 _ _ _
  · simp only [Option.some.injEq] at h; subst h
    simp only [VR] at hv; subst hv; exact .nil _
  · simp only [Option.some.injEq] at h; subst h
    simp only [VR] at hv; exact hv.2
  · split at h
    · rename_i te e xs hr
      simp only [Option.some.injEq] at h; subst h
      simp only [VR] at hv
      obtain ⟨_, _, A, cap, h2, h3, _⟩ := hM.res _ _ hr
      rw [hv.1] at h2
      injection h2 with h2
      rw [h2]; exact h3
    · cases h
  · simp only [Option.some.injEq] at h; subst h
    simp only [VR] at hv
    obtain ⟨b, off, rfl, f, h1, h2⟩ := hv
    exact .ptr _ _ b _ f (by simpa using h1) h2
  · simp only [Option.some.injEq] at h; subst h
    exact hv
  · cases h
theorem toLfs_sound (hM : MR C E w (lk t)) : ∀ {ts : List Ty} {l : List AV} {vs : List Value} {ls : List Lf}, toLfs t ts l = some ls → VRs E l vs → LRs E.Φ ls vs
  | [], [], [], ls, h, _ => by simp only [toLfs, Option.some.injEq] at h; subst h; simp only [LRs]
  | [], [], _ :: _, _, _, h => by simp only [VRs] at h
  | _ :: _, [], _, _, h, _ => by simp [toLfs] at h
  | [], _ :: _, _, _, h, _ => by simp [toLfs] at h
  | _ :: _, _ :: _, [], _, _, h => by simp only [VRs] at h
  | τ :: ts, a :: l, v :: vs, ls, h, hv => by
    simp only [toLfs] at h
    simp only [VRs] at hv
    split at h
    · rename_i x y h1 h2
      simp only [Option.some.injEq] at h; subst h
      simp only [LRs]
      exact ⟨toLf_sound hM h1 hv.1, toLfs_sound hM h2 hv.2⟩
    · cases h
theorem mkAV_sound (hM : MR C E w (lk t)) {τ : Ty} {a : AV} {v : Value} {x : τ.T} (h : mkAV t τ a = some x) (hv : VR E a v) : LRs E.Φ (cells τ x) v.cells.toList := by
  unfold mkAV at h
  split at h
  · rename_i c hc
    split at h
    · rename_i l hl
      rw [mk_cells τ l x h]
      exact toLfs_sound hM hl (cellsOf?_sound hc hv)
    · cases h
  · cases h
/-- Elements, one behind the other. -/
theorem mkAVs_sound (hM : MR C E w (lk t)) {τ : Ty} : ∀ {l : List AV} {vs : List Value} {xs : List τ.T}, mkAVs t τ l = some xs → VRs E l vs → xs.length = l.length ∧ LRs E.Φ (xs.flatMap (cells τ)) (vs.flatMap fun v => v.cells.toList) ∧ ∀ v ∈ vs, v.cells.size = τ.size
  | [], [], xs, h, _ => by simp only [mkAVs, Option.some.injEq] at h; subst h; simp [LRs]
  | [], _ :: _, _, _, h => by simp only [VRs] at h
  | _ :: _, [], _, _, h => by simp only [VRs] at h
  | a :: l, v :: vs, xs, h, hv => by
    simp only [mkAVs] at h
    simp only [VRs] at hv
    split at h
    · rename_i x y h1 h2
      simp only [Option.some.injEq] at h; subst h
      obtain ⟨g1, g2, g3⟩ := mkAVs_sound hM h2 hv.2
      have g := mkAV_sound hM h1 hv.1
      refine ⟨by simp [g1], by simpa using g.append g2, fun u hu => ?_⟩
      rcases List.mem_cons.1 hu with rfl | hu
      · have := g.length
        rw [cells_length] at this
        simpa using this
      · exact g3 u hu
    · cases h
theorem flat_get {τ : Ty} : ∀ (xs : List τ.T) (i j : Nat) (x : τ.T) (lf : Lf), xs[i]? = some x → (cells τ x)[j]? = some lf → (xs.flatMap (cells τ))[i * τ.size + j]? = some lf
  | [], i, j, x, lf, h, _ => by simp at h
  | y :: xs, 0, j, x, lf, h, hj => by
    simp at h; subst h
    simp only [List.flatMap_cons, Nat.zero_mul, Nat.zero_add]
    rw [List.getElem?_append_left (List.getElem?_eq_some_iff.1 hj).1, hj]
  | y :: xs, i + 1, j, x, lf, h, hj => by
    simp only [List.flatMap_cons]
    have hl := cells_length τ y
    rw [List.getElem?_append_right (by rw [hl, Nat.add_mul]; omega), hl]
    have := flat_get xs i j x lf (by simpa using h) hj
    rwa [show (i + 1) * τ.size + j - τ.size = i * τ.size + j by rw [Nat.add_mul]; omega]
theorem flat_length {τ : Ty} (xs : List τ.T) : (xs.flatMap (cells τ)).length = xs.length * τ.size := by
  induction xs with
  | nil => simp
  | cons y xs ih => simp only [List.flatMap_cons, List.length_append, cells_length, ih, List.length_cons, Nat.add_mul]; omega
/-- A row of a block's cells reads as a slice. -/
theorem LR.ofFlat {Φ : Phi} {e : Ty} {xs : List e.T} {vs : List Value} (h : LRs Φ (xs.flatMap (cells e)) vs) {b off c : Nat} (hc : xs.length ≤ c) (hΦ : ∀ k v, vs[k]? = some v → Φ b (off + k) = some v) :
    LR Φ ⟨.rows e, xs⟩ (.slice (some ⟨b, off, none⟩) xs.length c) := by
  by_cases h0 : xs.length = 0
  · have : xs = [] := List.eq_nil_of_length_eq_zero h0
    subst this
    exact .row0 e _ c
  · refine .row e xs b off c (fun i j => vs.getD (i * e.size + j) undef) (by omega) hc ?_ ?_
    · intro i j x lf hx hj
      obtain ⟨v, h1, h2⟩ := h.get _ _ (flat_get xs i j x lf hx hj)
      rw [hΦ _ _ h1]
      simp [List.getD_eq_getElem?_getD, h1]
    · intro i j x lf hx hj
      obtain ⟨v, h1, h2⟩ := h.get _ _ (flat_get xs i j x lf hx hj)
      simpa [List.getD_eq_getElem?_getD, h1] using h2
/-- What a slice reads as lies flat in memory. -/
theorem LR.flat {Φ : Phi} {e : Ty} : ∀ {xs : List e.T} {b off : Nat} {f : Nat → Nat → Value}, (∀ i j x lf, xs[i]? = some x → (cells e x)[j]? = some lf → Φ b (off + (i * e.size + j)) = some (f i j)) →
    (∀ i j x lf, xs[i]? = some x → (cells e x)[j]? = some lf → LR Φ lf (f i j)) → ∃ vs, LRs Φ (xs.flatMap (cells e)) vs ∧ ∀ k v, vs[k]? = some v → Φ b (off + k) = some v
  | [], b, off, f, _, _ => ⟨[], by simp [LRs], by simp⟩
  | x :: xs, b, off, f, h1, h2 => by
    obtain ⟨us, g1, g2⟩ := LR.flat (xs := xs) (b := b) (off := off + e.size) (f := fun i j => f (i + 1) j) (fun i j y lf hy hj => by
      have := h1 (i + 1) j y lf (by simpa using hy) hj
      rwa [show off + ((i + 1) * e.size + j) = off + e.size + (i * e.size + j) by rw [Nat.add_mul]; omega] at this) (fun i j y lf hy hj => h2 (i + 1) j y lf (by simpa using hy) hj)
    have hx : ∀ (l : List Lf) (o : Nat) (g : Nat → Value), (∀ j lf, l[j]? = some lf → Φ b (o + j) = some (g j)) → (∀ j lf, l[j]? = some lf → LR Φ lf (g j)) → ∃ vs, LRs Φ l vs ∧ ∀ k v, vs[k]? = some v → Φ b (o + k) = some v := by
      intro l
      induction l with
      | nil => intro o g _ _; exact ⟨[], by simp [LRs], by simp⟩
      | cons lf l ih =>
        intro o g k1 k2
        obtain ⟨vs, q1, q2⟩ := ih (o + 1) (fun j => g (j + 1)) (fun j lf' hj => by have := k1 (j + 1) lf' (by simpa using hj); rwa [show o + (j + 1) = o + 1 + j by omega] at this) (fun j lf' hj => k2 (j + 1) lf' (by simpa using hj))
        refine ⟨g 0 :: vs, ?_, fun k v hv => ?_⟩
        · simp only [LRs]; exact ⟨k2 0 lf rfl, q1⟩
        · cases k with
          | zero => simp at hv; subst hv; exact k1 0 lf rfl
          | succ k => have := q2 k v (by simpa using hv); rwa [show o + 1 + k = o + (k + 1) by omega] at this
    obtain ⟨vs, q1, q2⟩ := hx (cells e x) off (f 0) (fun j lf hj => by have := h1 0 j x lf rfl hj; simpa using this) (fun j lf hj => h2 0 j x lf rfl hj)
    refine ⟨vs ++ us, by simpa using q1.append g1, fun k v hv => ?_⟩
    have hl : vs.length = e.size := by rw [q1.length, cells_length]
    by_cases hk : k < vs.length
    · rw [List.getElem?_append_left hk] at hv
      exact q2 k v hv
    · rw [List.getElem?_append_right (by omega)] at hv
      have := g2 _ v hv
      rwa [show off + e.size + (k - vs.length) = off + k by omega] at this
end
end Go.Proofs.Ev
namespace Go.Proofs.Ev
open Go
set_option linter.unusedVariables false
set_option linter.unusedSimpArgs false
variable {ρ : Type}
section
variable {C : Cfg} {E : Env} {st : AS} {a : Act} {w : World} {o : Oper} {K : AV → AS → Option ρ} {r : ρ}
theorem q_div (h : St C E st a w) (T : TypeId) (x y : Operand) (yT : TypeId) (rem : Bool) (hop : o.op = .binOp (if rem then .rem else .quo) T x y yT) {k k' : IntKind} {m n : Int} (hx : evO C st x = .v (.int k m)) (hy : evO C st y = .v (.int k' n))
    (hc : (decide (k = k') && !decide (n = 0)) = true) (hk : K (.v (.int k (if rem then Int.tmod m n else k.wrap (Int.tdiv m n)))) st = some r) : Quiet C E st a w o K r := by
  have h1 := h.eval x
  have h2 := h.eval y
  rw [hx] at h1
  rw [hy] at h2
  simp only [VR] at h1 h2
  simp only [Bool.and_eq_true, decide_eq_true_eq, Bool.not_eq_true', decide_eq_false_iff_not] at hc
  obtain ⟨rfl, hn⟩ := hc
  refine ⟨_, .int k (if rem then Int.tmod m n else k.wrap (Int.tdiv m n)), hk, by simp only [VR], fun w' _ => ?_⟩
  cases rem <;> simp [execOp, hop, h1, h2, eqGuard, binOp, Op.intDiv, hn]
theorem q_cat (h : St C E st a w) (T : TypeId) (x y : Operand) (yT : TypeId) (hop : o.op = .binOp .add T x y yT) {m n : ByteArray} (hx : evO C st x = .v (.string m)) (hy : evO C st y = .v (.string n))
    (hc : m.size + n.size ≤ 1099511627776) (hk : K (.v (.string (m ++ n))) st = some r) : Quiet C E st a w o K r := by
  have h1 := h.eval x
  have h2 := h.eval y
  rw [hx] at h1
  rw [hy] at h2
  simp only [VR] at h1 h2
  refine ⟨_, .string (m ++ n), hk, by simp only [VR], fun w' _ => ?_⟩
  have hm : ¬ (((m.size + n.size : Nat) : Int) > IntKind.i64.max) := by
    have : IntKind.i64.max = 9223372036854775807 := by decide
    rw [this]; omega
  simp only [execOp, hop, h1, h2, eqGuard, binOp, Op.stringOp, if_neg hm]
  rfl
theorem q_nilEq (h : St C E st a w) (T : TypeId) (x y : Operand) (yT : TypeId) (ne : Bool) (hop : o.op = .binOp (if ne then .neq else .eql) T x y yT) {b : Bool} (hb : nilEq C.P T (evO C st x) (evO C st y) = some b)
    (hk : K (.v (.bool (if ne then !b else b))) st = some r) : Quiet C E st a w o K r := by
  refine ⟨_, .bool (if ne then !b else b), hk, by simp only [VR], fun w' _ => ?_⟩
  have := nilEq_sound hb (h.eval x) (h.eval y) x y w'
  cases ne
  · simp only [execOp, hop, Bool.false_eq_true, if_false, Sem.run_bind, Result.andThen_ok, Sem.run_pure] at this ⊢
    rw [this.1]; rfl
  · simp only [execOp, hop, if_true, Sem.run_bind, Result.andThen_ok, Sem.run_pure] at this ⊢
    rw [this.2]; rfl
theorem equalIn_sl {P : Program} {T te : TypeId} (hu : P.underlying T = some (.slice te)) (d : Nat) (A : Addr) (n c : Nat) (w : World) : (Op.equalIn (d + 1) T (.slice (some A) n c) (.slice none 0 0)).run P w = .ok false w := by
  simp [Op.equalIn, run_underlying' hu]
theorem equal_sl {P : Program} {T te : TypeId} (hu : P.underlying T = some (.slice te)) (A : Addr) (n c : Nat) (w : World) : (Op.equal T (.slice (some A) n c) (.slice none 0 0)).run P w = .ok false w := equalIn_sl hu 9999 A n c w
theorem fullRow_sound (h : St C E st a w) {x : AV} {v : Value} (hf : fullRow st.t x = true) (hx : VR E x v) : ∃ A n c, v = .slice (some A) n c := by
  have key : ∀ (e : Ty) (z : e.T) (xs : List e.T) (u : Value), LR E.Φ ⟨.rows e, (z :: xs : List e.T)⟩ u → ∃ A n c, u = .slice (some A) n c := fun e z xs u hl => by
    obtain ⟨_, hg⟩ := hl.rows_inv
    obtain ⟨b, off, c, hv, _, _⟩ := hg 0 z rfl
    exact ⟨_, _, _, hv⟩
  unfold fullRow at hf
  split at hf
  · rename_i e l
    split at hf
    · rename_i z xs
      simp only [VR] at hx
      exact key e z xs v hx
    · cases hf
  · rename_i e z xs
    simp only [VR] at hx
    exact key e z xs v hx.2
  · rename_i k
    split at hf
    · rename_i te e z xs hr
      obtain ⟨_, _, A, cap, h1, h2, _⟩ := h.mr.res _ _ hr
      simp only [VR] at hx
      rw [hx.1] at h1
      injection h1 with h1
      rw [h1]
      exact key e z xs _ h2
    · rename_i te e xs hr
      obtain ⟨_, _, g, cap, cur, vs, h1, _⟩ := h.mr.res _ _ hr
      simp only [VR] at hx
      rw [hx.1] at h1
      injection h1 with h1
      exact ⟨_, _, _, h1⟩
    · cases hf
  · cases hf
theorem q_slNil (h : St C E st a w) (T : TypeId) (x y : Operand) (yT : TypeId) (ne : Bool) (hop : o.op = .binOp (if ne then .neq else .eql) T x y yT) (hs : slNil C.P st.t T (evO C st x) (evO C st y) = true)
    (hk : K (.v (.bool ne)) st = some r) : Quiet C E st a w o K r := by
  unfold slNil at hs
  split at hs
  · rename_i te hu hy
    obtain ⟨A, n, c, hv⟩ := fullRow_sound h hs (h.eval x)
    have hy := (show VR E (evO C st y) (a.eval y) from h.eval y)
    rename_i hy0
    rw [hy0] at hy
    simp only [VR] at hy
    refine ⟨_, .bool ne, hk, by simp only [VR], fun w' _ => ?_⟩
    have := run_nilEq (P := C.P) (T := T) (u := .slice (some A) n c) (v := .slice none 0 0) (b := false) (fun op x y => eqGuard_at_slice ..) (fun w => equal_sl hu A n c w) rfl rfl x y w'
    cases ne
    · simp only [execOp, hop, hv, hy, Bool.false_eq_true, if_false, Sem.run_bind, Result.andThen_ok, Sem.run_pure] at this ⊢
      rw [this.1]; rfl
    · simp only [execOp, hop, hv, hy, if_true, Sem.run_bind, Result.andThen_ok, Sem.run_pure] at this ⊢
      rw [this.2]; rfl
  · cases hs
theorem q_samePtr (h : St C E st a w) (T : TypeId) (x y : Operand) (yT : TypeId) (hop : o.op = .binOp .neq T x y yT) (hs : samePtr (evO C st x) (evO C st y) = true) (hk' : ptrKnown C.P T = true) (hk : K (.v (.bool false)) st = some r) : Quiet C E st a w o K r := by
  have h1 := h.eval x
  have h2 := h.eval y
  unfold samePtr at hs
  split at hs
  · rename_i k o1 k' o2 e1 e2
    rw [e1] at h1
    rw [e2] at h2
    simp only [Bool.and_eq_true, Nat.beq_eq] at hs
    obtain ⟨rfl, rfl⟩ := hs
    simp only [VR] at h1 h2
    obtain ⟨b, p1, p2⟩ := h1
    obtain ⟨b', p3, p4⟩ := h2
    rw [p1] at p3
    injection p3 with p3
    subst p3
    unfold ptrKnown at hk'
    split at hk'
    · rename_i e he
      obtain ⟨j, hj⟩ := Option.isSome_iff_exists.1 hk'
      refine ⟨_, .bool false, hk, by simp only [VR], fun w' _ => ?_⟩
      have hg : eqGuard .neq T x y (.pointer (some ⟨b, o1, none⟩)) (.pointer (some ⟨b, o1, none⟩)) = pure () := eqGuard_at_pointer ..
      have hr := Lib.run_neq_ptr_same (P := C.P) w' ⟨b, o1, none⟩ he hj
      simp only [execOp, hop, p2, p4, hg, Sem.run_bind, Sem.run_pure, Result.andThen_ok, hr]
    · cases hk'
  · cases hs
theorem quiet_sound {call : Call} (h : St C E st a w) (hq : quietOp o = true) (hcut : cutArr C st o = false) (hk : evOp C call st o K = some r) : Quiet C E st a w o K r := by
  unfold evOp at hk
  simp only at hk
  split at hk
  case h_1 x hop => exact q_copy h x (.inl hop) hk
  case h_2 x hop => exact q_copy h x (.inr hop) hk
  case h_3 c x y hop =>
    split at hk
    · rename_i b hc
      exact q_pick h c x y hop hc hk
    · cases hk
  case h_6 t parts hop =>
    cases hb : (allEx C st o.op.operands.toList && notStruct C.P t) with
    | true =>
      rw [hb] at hk
      exact pureOp_quiet h (fun cs b he => by rw [hop] at he; cases he) hk
    | false =>
      rw [hb] at hk
      simp only [cond_false] at hk
      split at hk
      · rename_i c hz
        split at hk
        · rename_i c' hf
          obtain ⟨h1, h2⟩ := bif_some hk
          exact q_build h t parts hop hz hf h1 h2
        · cases hk
      · cases hk
  case h_4 hop => simp [quietOp, hop] at hq
  case h_5 hop => simp [quietOp, hop] at hq
  case h_7 hop => simp [quietOp, hop] at hq
  case h_9 hop => simp [quietOp, hop] at hq
  case h_12 hop => simp [quietOp, hop] at hq
  case h_15 hop => simp [quietOp, hop] at hq
  case h_20 hop => simp [quietOp, hop] at hq
  case h_21 hop => simp [quietOp, hop] at hq
  case h_8 t x hop =>
    obtain ⟨h1, h2⟩ := bif_some hk
    exact q_load h t x hop h1 h2
  case h_10 x hop => exact q_nilCheck h x hop hk
  case h_11 op T x y yT hop =>
    have pur : pureOp C st o K = some r → Quiet C E st a w o K r := pureOp_quiet h (fun cs b he => by rw [hop] at he; cases he)
    cases hsn : slNil C.P st.t T (evO C st x) (evO C st y) with
    | true =>
      rw [hsn] at hk
      simp only [cond_true] at hk
      split at hk
      · exact q_slNil h T x y yT false hop hsn hk
      · exact q_slNil h T x y yT true hop hsn hk
      · cases hk
    | false =>
    rw [hsn] at hk
    simp only [cond_false] at hk
    split at hk
    · split at hk
      · rename_i k m k' n hx hy
        obtain ⟨h1, h2⟩ := bif_some hk
        exact q_div h T x y yT false hop hx hy h1 h2
      · cases hk
    · split at hk
      · rename_i k m k' n hx hy
        obtain ⟨h1, h2⟩ := bif_some hk
        exact q_div h T x y yT true hop hx hy h1 h2
      · cases hk
    · split at hk
      · rename_i m n hx hy
        obtain ⟨h1, h2⟩ := guard'_some hk
        exact q_cat h T x y yT hop hx hy (Nat.le_of_ble_eq_true h1) h2
      · exact pur hk
    · split at hk
      · rename_i b hb
        exact q_nilEq h T x y yT false hop hb hk
      · exact pur hk
    · split at hk
      · rename_i b hb
        exact q_nilEq h T x y yT true hop hb hk
      · cases hs : (samePtr (evO C st x) (evO C st y) && ptrKnown C.P T) with
        | true =>
          rw [hs] at hk
          simp only [Bool.and_eq_true] at hs
          exact q_samePtr h T x y yT hop hs.1 hs.2 hk
        | false => rw [hs] at hk; exact pur hk
    · exact pur hk
  case h_13 f xs ys hop => exact q_makeFunc h f xs ys hop hk
  case h_14 t x lo hi mx hop =>
    have cut : ∀ {l? h? m? : Option Int}, optInt C st lo = some l? → optInt C st hi = some h? → optInt C st mx = some m? → cutRow C.P t st.t (evO C st x) l? h? m? (fun v => K v st) = some r → Quiet C E st a w o K r := fun {l? h? m?} hl hh hm hk => by
        unfold cutRow at hk
        split at hk
        · rename_i e xs hx
          split at hk
          · obtain ⟨h1, h2⟩ := guard'_some hk
            have nn : ∀ y : Option Operand, optInt C st y = some none → y = none := fun y hy => by
              cases y with
              | none => rfl
              | some y => simp only [optInt, Option.map_eq_some_iff] at hy; obtain ⟨_, _, h⟩ := hy; cases h
            rw [nn _ hl, nn _ hh, nn _ hm] at hop
            exact q_sliceGa h t x hop hx h1 h2
          · cases hk
        · have : mx = none := by
            cases mx with
            | none => rfl
            | some y => simp only [optInt, Option.map_eq_some_iff] at hm; obtain ⟨_, _, h⟩ := hm; cases h
          split at hk
          · rename_i e xs hx
            obtain ⟨h1, h2⟩ := guard'_some hk
            simp only [Bool.and_eq_true, decide_eq_true_eq] at h1
            exact q_sliceRow h t x lo hi mx hop hl hh this hx h1.1 h1.2.1 h1.2.2.1 h1.2.2.2 h2
          · cases hk
        · rename_i m _
          split at hk
          · rename_i e xs hx
            obtain ⟨h1, h2⟩ := guard'_some hk
            simp only [Bool.and_eq_true, decide_eq_true_eq] at h1
            have : hi ≠ none := by
              rintro rfl
              simp only [optInt, Option.some.injEq] at hh
              rw [← hh] at h1
              simp at h1
            exact q_sliceFull h t x lo hi mx hop hl hh hm this hx h1.2.1 h1.2.2.1 h1.2.2.2.1 h1.2.2.2.2.1 h1.2.2.2.2.2 h2
          · cases hk
    split at hk
    · rename_i l? h? m? hl hh hm
      split at hk
      · rename_i s hx
        split at hk
        · obtain ⟨h1, h2⟩ := guard'_some hk
          simp only [Bool.and_eq_true, decide_eq_true_eq] at h1
          have : mx = none := by
            cases mx with
            | none => rfl
            | some y => simp only [optInt, Option.map_eq_some_iff] at hm; obtain ⟨_, _, h⟩ := hm; cases h
          exact q_sliceStr h t x lo hi mx hop hl hh this hx h1.1 h1.2.1 h1.2.2.1 h1.2.2.2 h2
        · cases hk
      · rename_i hx
        split at hk
        · rename_i hm'
          obtain ⟨h1, h2⟩ := guard'_some hk
          simp only [Bool.and_eq_true, decide_eq_true_eq] at h1
          have : mx = none := by
            cases mx with
            | none => rfl
            | some y => simp only [optInt, Option.map_eq_some_iff] at hm; obtain ⟨_, _, h⟩ := hm; cases h
          exact q_sliceNil h t x lo hi mx hop hl hh this hx h1.1 h1.2.1 h1.2.2 h2
        · cases hk
      · rename_i k hx
        split at hk
        · rename_i te e xs hb
          exfalso
          unfold cutArr at hcut
          rw [hop] at hcut
          simp only [hx, hb] at hcut
          cases hcut
        · rw [← hx] at hk
          exact cut hl hh hm hk
      · exact cut hl hh hm hk
    · cases hk
  case h_16 s x f hop => exact q_fieldAddr h s x f hop hk
  case h_17 t x f hop =>
    split at hk
    · rename_i off ft n hf
      split at hk
      · rename_i c hx
        obtain ⟨h1, h2⟩ := bif_some hk
        split at h2
        · rename_i y hp
          exact q_field h t x f hop hf hx h1 hp h2
        · cases h2
      · cases hk
    · cases hk
  case h_18 t x i hop => exact q_indexAddr h t x i hop hk
  case h_19 t x i hop => exact q_indexA h t x i hop hk
  case h_22 x i hop =>
    split at hk
    · rename_i l hx
      split at hk
      · rename_i y hy
        exact q_extract h x i hop hx hy hk
      · cases hk
    · exact pureOp_quiet h (fun cs b he => by rw [hop] at he; cases he) hk
  case h_23 c hop =>
    have pur : pureOp C st o K = some r → Quiet C E st a w o K r := pureOp_quiet h (fun cs b he => by rw [hop] at he; cases he)
    split at hk
    · rename_i hb
      split at hk
      · rename_i x T hargs hT
        split at hk
        · rename_i p hp
          obtain ⟨h1, h2⟩ := bif_some hk
          exact q_len h c x hop hb (Array.toList_inj.1 (by simpa using hargs)) hT h1 hp h2
        · split at hk
          · rename_i p hp
            obtain ⟨k, e, xs⟩ := p
            obtain ⟨h1, h2⟩ := bif_some hk
            exact q_lenArr h c x hop hb (Array.toList_inj.1 (by simpa using hargs)) hT h1 hp h2
          · exact pur hk
      · cases hk
    · rename_i hb
      simp [quietOp, hop, hb] at hq
    · rename_i hb
      simp [quietOp, hop, hb] at hq
    · rename_i hb
      simp [quietOp, hop, hb] at hq
    · exact pur hk
    · rename_i f hb
      simp [quietOp, hop, hb] at hq
    · cases hk
  case h_24 op xT x hop => exact pureOp_quiet h (fun cs b he => by rw [hop] at he; cases he) hk
  case h_25 => cases hk
end
end Go.Proofs.Ev
