/-
  An evaluator by value of the model of the program, proved sound, and what it shows of this law: part EvD.
-/
import Derived.Test.YtadhiimkcdnfkaaGreatDoorEvC
import Derived.Laws.AppendOwn
import Derived.Great.FillDense
import Derived.Laws.MakeOwn
import Derived.Laws.BytesString
import Derived.Laws.Cover4
import Derived.Great.BuildSlice
namespace Go.Proofs.Ev
open Go
set_option linter.unusedVariables false
set_option linter.unusedSimpArgs false
variable {ρ : Type}
section
variable {C : Cfg} {E E0 : Env} {st : AS} {a : Act} {w w0 : World} {o : Oper} {K : AV → AS → Option ρ} {r : ρ} {S : Nat → Prop} {m : Nat}
/-- What may turn. -/
def Res.mut : Res → Bool
  | .box _ _ => true
  | .arr _ _ _ => true
  | _ => false
/-- Which boxes are as they were. -/
def Keeps (W : List Nat) (st : AS) (E : Env) (w : World) (st' : AS) (E' : Env) (w' : World) : Prop :=
  ∀ k x, lk st.t k = some x → x.mut = true → k ∉ W → (∃ x', lk st'.t k = some x' ∧ x'.mut = true) ∧ ∀ b, E.own k b → E'.own k b ∧ w'.heap[b]? = w.heap[b]?
theorem Keeps.same {W : List Nat} : Keeps W st E w st E w := fun k x h hm _ => ⟨⟨x, h, hm⟩, fun b hb => ⟨hb, rfl⟩⟩
theorem Keeps.cons {W : List Nat} {k : Nat} {x : Res} {st1 : AS} {E' : Env} {w' : World} (h : Keeps W st E w { st1 with t := setr st1.t k x } E' w') : Keeps W st E w { st1 with t := (k, x) :: st1.t } E' w' := fun j y hj hm hW => by
  obtain ⟨⟨x', h1, h1'⟩, h2⟩ := h j y hj hm hW
  refine ⟨⟨x', ?_, h1'⟩, h2⟩
  rw [← h1]
  show lk ((k, x) :: st1.t) j = lk (setr st1.t k x) j
  rw [lk_cons, lk_setr]
theorem Keeps.newObj (h : St C E st a w) {W : List Nat} {k : Nat} (hk : lk st.t k = none) (ob : Obj) (x : Res) : Keeps W st E w { st with t := (k, x) :: st.t } (E.addB k w.heap.size) (w.alloc ob) := fun j y hj hm _ => by
  have hne : j ≠ k := fun e => by subst e; rw [hk] at hj; cases hj
  refine ⟨⟨y, ?_, hm⟩, fun b hb => ⟨by simpa [Env.addB, hne] using hb, heap_alloc_lt (h.mr.lt j b hb)⟩⟩
  show lk ((k, x) :: st.t) j = _
  rw [lk_cons, if_neg hne, hj]
theorem Keeps.turn (h : St C E st a w) {W : List Nat} {k b : Nat} (hob : E.own k b) (hW : k ∈ W) (x' : Res) {w' : World} (hw : ∀ j, j ≠ b → w'.heap[j]? = w.heap[j]?) : Keeps W st E w { st with t := setr st.t k x' } E w' := fun j y hj hm hjW => by
  have hne : j ≠ k := fun e => hjW (by rw [e]; exact hW)
  refine ⟨⟨y, ?_, hm⟩, fun d hd => ⟨hd, hw d fun e => by subst e; exact hne (h.mr.sep _ _ _ hd hob)⟩⟩
  show lk (setr st.t k x') j = _
  rw [lk_setr, if_neg hne, hj]
/-- What is shown of an operation that may turn memory. -/
def Loud (C : Cfg) (S : Nat → Prop) (E0 : Env) (w0 : World) (m : Nat) (E : Env) (st : AS) (a : Act) (w : World) (o : Oper) (K : AV → AS → Option ρ) (r : ρ) : Prop :=
  ∀ (next : Act → World → Prop) (Q : Exit → Act → World → Prop),
    (∀ av v st' E' w', K av st' = some r → VR E' av v → St C E' st' a w' → Inv S E0 w0 m E' w' → E.Φ.le E'.Φ → Keeps (writes C st o) st E w st' E' w' → next (a.put o.dst v) w') → o.wp C.P a w next Q
theorem loud_of_run {av : AV} {v : Value} {st' : AS} {E' : Env} {w' : World} (hk : K av st' = some r) (hr : (execOp a.eval o).run C.P w = .ok (.value v) w') (hv : VR E' av v) (hs : St C E' st' a w') (hi : Inv S E0 w0 m E' w') (hle : E.Φ.le E'.Φ) (hkp : Keeps (writes C st o) st E w st' E' w') :
    Loud C S E0 w0 m E st a w o K r := fun next Q h => by
  unfold Oper.wp
  rw [hr]
  exact h av v st' E' w' hk hv hs hi hle hkp
theorem loud_of_skip {av : AV} {st' : AS} {E' : Env} {w' : World} (hk : K av st' = some r) (hr : (execOp a.eval o).run C.P w = .ok .skip w') (hv : VR E' av undef) (hs : St C E' st' a w') (hi : Inv S E0 w0 m E' w') (hle : E.Φ.le E'.Φ) (hkp : Keeps (writes C st o) st E w st' E' w') :
    Loud C S E0 w0 m E st a w o K r := fun next Q h => by
  unfold Oper.wp
  rw [hr]
  exact h av undef st' E' w' hk hv hs hi hle hkp
theorem addRes_some {r' : Nat} {x : Res} {K : AS → Option ρ} (h : addRes st r' x K = some r) : lk st.t r' = none ∧ K { st with t := (r', x) :: st.t } = some r := by
  unfold addRes at h
  split at h
  · exact ⟨‹_›, h⟩
  · cases h
/-- What is known stays known. -/
theorem St.of (h : St C E st a w) {F : Env} {w' : World} {t' : List (Nat × Res)} {R : Nat → Prop} (mr : MR C F w' (lk t')) (le : E.le F R) (hR : ∀ t x, lk st.s t = some x → ∀ r ∈ x.sls, R r) : St C F { st with t := t' } a w' where
  mr := mr
  sl := fun t x hx => by
    obtain ⟨v, h1, h2⟩ := h.sl t x hx
    exact ⟨v, h1, VR.mono le x v (hR t x hx) h2⟩
  n := h.n
  df := h.df
  gl := fun g p hp => VR.mono le _ _ (by simp [AV.sls]) (h.gl g p hp)
theorem site_ge (d : Option Tmp) (j : Nat) : 40 ≤ site d j := by
  unfold site
  split <;> omega
theorem St.fresh (h : St C E st a w) {k : Nat} (hk : lk st.t k = none) : ∀ t x, lk st.s t = some x → ∀ r ∈ x.sls, r ≠ k := fun t x hx r hr e => by
  subst e
  obtain ⟨v, h1, h2⟩ := h.sl t x hx
  obtain ⟨u, hu⟩ := VR.sls_def x v h2 r hr
  rw [(h.mr.dom r hk).2.1] at hu
  cases hu
/-- A new box, iterator .. -/
theorem St.newObj (h : St C E st a w) {k : Nat} (hk : lk st.t k = none) (ob : Obj) (x : Res) (hx : ResOk C (E.addB k w.heap.size) (w.alloc ob) k x) :
    St C (E.addB k w.heap.size) { st with t := (k, x) :: st.t } a (w.alloc ob) :=
  h.of (R := fun _ => True) ((h.mr.newObj hk ob x hx).congr fun r => lk_cons ..) (Env.addB_le (h.mr.dom k hk).1 _) (fun _ _ _ _ _ => trivial)
theorem VR.addB {k b : Nat} : VR (E.addB k b) (.ptr k 0) (.pointer (some ⟨b, 0, none⟩)) := by
  simp only [VR, Env.addB, if_true]
  exact ⟨b, rfl, rfl⟩
theorem ResOk.newBox (h : St C E st a w) {k : Nat} (hk : lk st.t k = none) {T : TypeId} {c : List AV} {cs : Array Value} (hc : VRs E c cs.toList) : ResOk C (E.addB k w.heap.size) (w.alloc (.cells cs T)) k (.box T c) := by
  obtain ⟨h1, h2, h3⟩ := h.mr.dom k hk
  refine ⟨h2, w.heap.size, cs.toList, by simp [Env.addB], by simp [Env.addB], by rw [heap_alloc, if_pos rfl], VRs.mono (Env.addB_le h1 (fun _ => True)) c _ (fun _ _ => trivial) hc, fun o => h.mr.phi.none (Nat.le_refl _) o⟩
theorem l_alloc (h : St C E st a w) (hi : Inv S E0 w0 m E w) (T : TypeId) (hop : o.op = .alloc T) {c : List AV} (hz : zeroCells? C.P T = some c) (hk : addRes st (site o.dst 0) (.box T c) (K (.ptr (site o.dst 0) 0)) = some r) : Loud C S E0 w0 m E st a w o K r := by
  obtain ⟨h1, h2⟩ := addRes_some hk
  obtain ⟨i, z, g1, g2, g3⟩ := zeroCells?_sound (E := E) hz
  refine loud_of_run h2 ?_ VR.addB (h.newObj h1 _ _ (ResOk.newBox h h1 g3)) (hi.alloc (by have := hi.m40; have := site_ge o.dst 0; omega) _) (Phi.le_refl _) (Keeps.newObj h ‹_› _ _)
  simp [execOp, hop, Instr.alloc, zeroValue, typeInfo, g1, g2, newVar, newRow]
theorem l_box (h : St C E st a w) (hi : Inv S E0 w0 m E w) (T : TypeId) (x : Operand) (hop : o.op = .box T x) {c : List AV} (hz : cellsOf? (evO C st x) = some c) (hk : addRes st (site o.dst 0) (.box T c) (K (.ptr (site o.dst 0) 0)) = some r) : Loud C S E0 w0 m E st a w o K r := by
  obtain ⟨h1, h2⟩ := addRes_some hk
  refine loud_of_run h2 ?_ VR.addB (h.newObj h1 _ _ (ResOk.newBox h h1 (cellsOf?_sound hz (h.eval x)))) (hi.alloc (by have := hi.m40; have := site_ge o.dst 0; omega) _) (Phi.le_refl _) (Keeps.newObj h ‹_› _ _)
  simp [execOp, hop, Instr.box, newVar, newRow]
theorem l_bld (h : St C E st a w) (hi : Inv S E0 w0 m E w) (T : TypeId) (hop : o.op = .alloc T) (hz : zeroCells? C.P T = some [.v (.pointer none), .v (.slice none 0 0)]) (hk : addRes st (site o.dst 0) (.bld T .empty) (K (.ptr (site o.dst 0) 0)) = some r) : Loud C S E0 w0 m E st a w o K r := by
  obtain ⟨h1, h2⟩ := addRes_some hk
  obtain ⟨i, z, g1, g2, g3⟩ := zeroCells?_sound (E := E) hz
  have g4 : z.cells = #[.pointer none, .slice none 0 0] := by
    have hl := g3.length
    match hz : z.cells.toList, hl with
    | [x, y], _ =>
      rw [hz] at g3
      simp only [VRs, VR] at g3
      apply Array.toList_inj.1
      rw [hz, g3.1, g3.2.1]
  obtain ⟨k1, k2, k3⟩ := h.mr.dom _ h1
  refine loud_of_run h2 ?_ VR.addB (h.newObj h1 (.cells #[.pointer none, .slice none 0 0] T) _ ?_) (hi.alloc (by have := hi.m40; have := site_ge o.dst 0; omega) _) (Phi.le_refl _) (Keeps.newObj h ‹_› _ _)
  · simp [execOp, hop, Instr.alloc, zeroValue, typeInfo, g1, g2, newVar, newRow, g4]
  · refine ⟨k2, w.heap.size, none, 0, .pointer none, by simp [Env.addB], by simp [Env.addB], by rw [heap_alloc, if_pos rfl]; rfl, fun o => h.mr.phi.none (Nat.le_refl _) o, .inl rfl, .inl ⟨rfl, rfl, rfl⟩⟩
theorem l_range (h : St C E st a w) (hi : Inv S E0 w0 m E w) (T : TypeId) (x : Operand) (hop : o.op = .range T x) {s : ByteArray} (hx : evO C st x = .v (.string s)) (ht : isStr C.P T = true)
    (hk : addRes st (site o.dst 0) (.iter s 0) (K (.ptr (site o.dst 0) 0)) = some r) : Loud C S E0 w0 m E st a w o K r := by
  obtain ⟨h1, h2⟩ := addRes_some hk
  obtain ⟨k1, k2, k3⟩ := h.mr.dom _ h1
  have hv := h.eval x
  rw [hx] at hv
  simp only [VR] at hv
  have hu : C.P.underlying T = some .string := by
    unfold isStr at ht
    split at ht
    · assumption
    · cases ht
  refine loud_of_run h2 ?_ VR.addB (h.newObj h1 (.stringIter s 0) _ ⟨k2, w.heap.size, by simp [Env.addB], by simp [Env.addB], by rw [heap_alloc, if_pos rfl], fun o => h.mr.phi.none (Nat.le_refl _) o⟩) (hi.alloc (by have := hi.m40; have := site_ge o.dst 0; omega) _) (Phi.le_refl _) (Keeps.newObj h ‹_› _ _)
  simp [execOp, hop, Instr.range, hv, run_underlying' hu]
/-- One block turns. -/
def World.setAt (w : World) (b : Nat) (ob : Obj) : World := { w with heap := w.heap.setIfInBounds b ob }
theorem heap_setAt {w : World} {b : Nat} {ob : Obj} (k : Nat) : (World.setAt w b ob).heap[k]? = if k = b ∧ b < w.heap.size then some ob else w.heap[k]? := by
  simp only [World.setAt, Array.getElem?_setIfInBounds]
  by_cases h : b = k
  · subst h
    simp
    split <;> simp_all
  · rw [if_neg h, if_neg (by omega)]
theorem phi_other {Φ : Phi} {w w' : World} (h : PhiOk Φ w) {b : Nat} (hb : ∀ o, Φ b o = none) (hw : ∀ k, k ≠ b → w'.heap[k]? = w.heap[k]?) : PhiOk Φ w' := fun k i v hv => by
  obtain ⟨c, T, fr, h1, h2⟩ := h k i v hv
  refine ⟨c, T, fr, ?_, h2⟩
  rw [hw k (fun e => by subst e; rw [hb] at hv; cases hv), h1]
/-- A block that k owns, and that nothing is read of for good, turns. -/
theorem St.turn (h : St C E st a w) (hi : Inv S E0 w0 m E w) {k b : Nat} (x' : Res) (hob : E.own k b) (hΦ : ∀ o, E.Φ b o = none) {w' : World} (hw : ∀ j, j ≠ b → w'.heap[j]? = w.heap[j]?) (hsz : w'.heap.size = w.heap.size)
    (hos : w'.os = w.os) (htp : w'.tape = w.tape) (hout : w'.output = w.output) (hr : ResOk C E w' k x') : St C E { st with t := setr st.t k x' } a w' ∧ Inv S E0 w0 m E w' := by
  constructor
  · refine h.of (R := fun _ => True) ((h.mr.upd k x' (R := fun _ => True) ⟨fun _ _ h => h, fun _ _ _ h => h, fun _ _ _ h => h⟩ (fun _ _ _ _ _ _ => trivial) (fun _ _ => rfl) (fun _ _ => rfl) (fun _ _ _ => Iff.rfl) ?_ (phi_other h.mr.phi hΦ hw) hr ?_ (by omega) ?_).congr fun r => lk_setr ..) ⟨fun _ _ h => h, fun _ _ _ h => h, fun _ _ _ h => h⟩ (fun _ _ _ _ _ => trivial)
    · intro j c hj hjc
      refine ⟨hw c (fun e => ?_), fun _ => rfl⟩
      subst e
      exact hj (h.mr.sep _ _ _ hjc hob)
    · intro c hc
      rw [hsz]
      exact h.mr.lt k c hc
    · intro j c hj h1 h2
      exact hj (h.mr.sep _ _ _ h1 h2)
  · refine ⟨hi.m40, hos.trans hi.os, htp.trans hi.tape, hout.trans hi.output, by rw [hsz]; exact hi.size, fun c hc hS => ?_, hi.own, hi.phi, hi.new, hi.fb⟩
    rw [hw c (fun e => by subst e; rcases hi.own k c hob with h | h; exact hS h; omega)]
    exact hi.keep c hc hS
theorem oneCell_one {x : AV} {v : Value} (h : oneCell x = true) (hv : VR E x v) : oneV v = true := by
  cases x with
  | v y => simp only [VR] at hv; subst hv; exact h
  | d lf => exact LR.cellsOf1 hv
  | dp e x j => simp only [VR] at hv; obtain ⟨b, off, rfl, _⟩ := hv; rfl
  | full e xs => simp only [VR] at hv; obtain ⟨⟨A, rfl⟩, _⟩ := hv; rfl
  | ga e xs => simp only [VR] at hv; obtain ⟨b, off, rfl, _⟩ := hv; rfl
  | sl r => simp only [VR] at hv; obtain ⟨_, A, n, c, rfl⟩ := hv; rfl
  | ep r s i j => simp only [VR] at hv; obtain ⟨b, n, c, _, rfl⟩ := hv; rfl
  | ptr r o => simp only [VR] at hv; obtain ⟨b, _, rfl⟩ := hv; rfl
  | clo f fs cs => simp only [VR] at hv; obtain ⟨xs, ys, rfl, _⟩ := hv; rfl
  | agg l => simp [oneCell] at h
  | tup l => simp [oneCell] at h
  | bad => simp [oneCell] at h
theorem oneCells {E : Env} : ∀ {l : List AV} {vs : List Value}, l.all oneCell = true → VRs E l vs → ∀ v ∈ vs, oneV v = true
  | [], [], _, _, v, hv => by simp at hv
  | [], _ :: _, _, h, _, _ => by simp only [VRs] at h
  | _ :: _, [], _, h, _, _ => by simp only [VRs] at h
  | x :: l, u :: vs, ha, h, v, hv => by
    simp only [VRs] at h
    simp only [List.all_cons, Bool.and_eq_true] at ha
    rcases List.mem_cons.1 hv with rfl | hv
    · exact oneCell_one ha.1 h.1
    · exact oneCells ha.2 h.2 v hv
theorem l_store (h : St C E st a w) (hi : Inv S E0 w0 m E w) (t : TypeId) (x y : Operand) (hop : o.op = .store t x y) {k off : Nat} (hx : evO C st x = .ptr k off) {T : TypeId} {c cs c' : List AV} (hb : lk st.t k = some (.box T c))
    (hc : cellsOf? (evO C st y) = some cs) (hkn : known C.P t = true) (hl : cs.length = C.P.cellsOf t) (h1 : cs.all oneCell = true) (hp : putCells off cs c = some c')
    (hk : K (.v undef) { st with t := setr st.t k (.box T c') } = some r) : Loud C S E0 w0 m E st a w o K r := by
  have hv := h.eval x
  rw [hx] at hv
  simp only [VR] at hv
  obtain ⟨b, e1, e2⟩ := hv
  obtain ⟨f0, b', vs, f1, f2, f3, f4, f5⟩ := h.mr.res _ _ hb
  rw [e1] at f1
  injection f1 with f1
  subst f1
  have hcs := cellsOf?_sound hc (h.eval y)
  obtain ⟨g1, g2⟩ := putCells_sound hp hcs f4
  have hrun := run_storeVar hkn w b off (a.eval y) (by rw [hcs.length, hl]) (oneCells h1 hcs) f3 (by simpa using g1)
  have hat := heap_putCells_same (off := off) (vs := (a.eval y).cells.toList) f3
  obtain ⟨s1, s2⟩ := h.turn hi (k := k) (b := b) (.box T c') f2 f5 (w' := World.putCells w b off (a.eval y).cells.toList) (fun j hj => heap_putCells j hj) size_putCells rfl rfl rfl
    ⟨f0, b, _, e1, f2, hat, by simpa using g2, f5⟩
  refine loud_of_skip hk ?_ (by simp only [VR]) s1 s2 (Phi.le_refl _) (Keeps.turn h f2 (by simp [writes, hop, hx, AV.refs]) _ (fun j hj => heap_putCells j hj))
  simp [execOp, hop, e2, Instr.storeAt, Instr.sureAddr, hrun]
theorem LRs.append_inv {Φ : Phi} : ∀ {A B : List Lf} {vs : List Value}, LRs Φ (A ++ B) vs → ∃ va vb, vs = va ++ vb ∧ LRs Φ A va ∧ LRs Φ B vb
  | [], B, vs, h => ⟨[], vs, rfl, by simp only [LRs], h⟩
  | x :: A, B, [], h => by simp only [List.cons_append, LRs] at h
  | x :: A, B, v :: vs, h => by
    simp only [List.cons_append, LRs] at h
    obtain ⟨va, vb, rfl, h1, h2⟩ := LRs.append_inv h.2
    exact ⟨v :: va, vb, rfl, by simp only [LRs]; exact ⟨h.1, h1⟩, h2⟩
theorem flat_split {τ : Ty} : ∀ {xs : List τ.T} {i : Nat} {y : τ.T}, xs[i]? = some y → ∃ A D : List Lf, A.length = i * τ.size ∧ xs.flatMap (cells τ) = A ++ cells τ y ++ D ∧ ∀ y', (xs.set i y').flatMap (cells τ) = A ++ cells τ y' ++ D
  | [], i, y, h => by simp at h
  | x :: xs, 0, y, h => by
    simp at h; subst h
    exact ⟨[], xs.flatMap (cells τ), by simp, by simp, fun y' => by simp⟩
  | x :: xs, i + 1, y, h => by
    obtain ⟨A, D, h1, h2, h3⟩ := flat_split (xs := xs) (i := i) (y := y) (by simpa using h)
    exact ⟨cells τ x ++ A, D, by rw [List.length_append, cells_length, h1, Nat.succ_mul]; omega, by simp [h2], fun y' => by simp [h3]⟩
theorem put_sub {vs cur u : List Value} {off : Nat} (hlen : off + u.length ≤ vs.length) (h : ∀ (k : Nat) (v : Value), vs[k]? = some v → cur[k]? = some v) (k : Nat) (v : Value)
    (hv : (vs.take off ++ u ++ vs.drop (off + u.length))[k]? = some v) : (cur.take off ++ u ++ cur.drop (off + u.length))[k]? = some v := by
  have hcl : vs.length ≤ cur.length := by
    by_cases h0 : vs.length = 0
    · omega
    · have := h (vs.length - 1) vs[vs.length - 1] (List.getElem?_eq_getElem (by omega))
      have := (List.getElem?_eq_some_iff.1 this).1
      omega
  by_cases h1 : k < off
  · rw [List.append_assoc, List.getElem?_append_left (by simp; omega), List.getElem?_take, if_pos h1] at hv ⊢
    exact h k v hv
  · by_cases h2 : k < off + u.length
    · rw [List.append_assoc, List.getElem?_append_right (by simp; omega), List.getElem?_append_left (by simp; omega)] at hv ⊢
      simp only [List.length_take, Nat.min_eq_left (by omega : off ≤ vs.length)] at hv
      simp only [List.length_take, Nat.min_eq_left (by omega : off ≤ cur.length)]
      exact hv
    · rw [List.getElem?_append_right (by simp; omega), List.getElem?_drop] at hv ⊢
      simp only [List.length_append, List.length_take, Nat.min_eq_left (by omega : off ≤ vs.length)] at hv
      simp only [List.length_append, List.length_take, Nat.min_eq_left (by omega : off ≤ cur.length)]
      exact h _ v hv
theorem l_storeEp (h : St C E st a w) (hi : Inv S E0 w0 m E w) (t : TypeId) (x y : Operand) (hop : o.op = .store t x y) {k s i j : Nat} (hx : evO C st x = .ep k s i j) {te : TypeId} {e : Ty} {xs : List e.T} (hb : lk st.t k = some (.arr te e xs))
    {z z' : e.T} (hz : xs[i]? = some z) {cs c' : List AV} (hc : cellsOf? (evO C st y) = some cs) (hs : s = e.size) (hkn : known C.P t = true) (hl : cs.length = C.P.cellsOf t) (h1 : cs.all oneCell = true) (hp : putCells j cs ((cells e z).map ofLf) = some c')
    {l : List Lf} (htl : toLfs st.t ((cells e z).map (·.1)) c' = some l) (hm : mk e l = some z') (hk : K (.v undef) { st with t := setr st.t k (.arr te e (xs.set i z')) } = some r) : Loud C S E0 w0 m E st a w o K r := by
  subst hs
  have hv := h.eval x
  rw [hx] at hv
  simp only [VR] at hv
  obtain ⟨b, n0, c0, e1, e2⟩ := hv
  obtain ⟨d1, d2, g, cap, cur, vs, q1, q2, q3, q4, q5, q6, q7, q8⟩ := h.mr.res _ _ hb
  rw [e1] at q1
  simp only [Option.some.injEq, Value.slice.injEq, Addr.mk.injEq] at q1
  obtain ⟨⟨rfl, _, _⟩, rfl, rfl⟩ := q1
  have hcs := cellsOf?_sound hc (h.eval y)
  obtain ⟨A, D, a1, a2, a3⟩ := flat_split hz
  have q6' := q6
  rw [a2] at q6'
  obtain ⟨vab, vd, rfl, r1, r2⟩ := LRs.append_inv q6'
  obtain ⟨va, vb, rfl, r3, r4⟩ := LRs.append_inv r1
  obtain ⟨g1, g2⟩ := putCells_sound hp hcs (LRs.toVRs (E := E) r4)
  have g3 := toLfs_sound h.mr htl g2
  have hcell := mk_cells e l z' hm
  rw [← hcell] at g3
  have hva : va.length = i * e.size := by rw [r3.length, a1]
  generalize hu : (a.eval y).cells.toList = u at hcs g1 g2 g3
  have hoff : i * e.size + j + u.length ≤ (va ++ vb ++ vd).length := by simp only [List.length_append]; omega
  have hcl : (va ++ vb ++ vd).length ≤ cur.size := by
    by_cases h0 : (va ++ vb ++ vd).length = 0
    · omega
    · have := q7 ((va ++ vb ++ vd).length - 1) (va ++ vb ++ vd)[(va ++ vb ++ vd).length - 1] (List.getElem?_eq_getElem (by omega))
      have := (Array.getElem?_eq_some_iff.1 this).1
      omega
  have hnew : va ++ (vb.take j ++ u ++ vb.drop (j + u.length)) ++ vd = (va ++ vb ++ vd).take (i * e.size + j) ++ u ++ (va ++ vb ++ vd).drop (i * e.size + j + u.length) := by
    rw [← hva, List.append_assoc va vb vd, Nat.add_assoc, List.take_append, List.drop_append, List.take_append, List.drop_append]
    have t1 : va.take (va.length + j) = va := List.take_of_length_le (by omega)
    have t2 : va.drop (va.length + (j + u.length)) = [] := List.drop_of_length_le (by omega)
    have t3 : va.length + j - va.length = j := by omega
    have t4 : va.length + (j + u.length) - va.length = j + u.length := by omega
    rw [t1, t2, t3, t4, show j - vb.length = 0 by omega, show j + u.length - vb.length = 0 by omega]
    simp [List.append_assoc]
  have hrun := run_storeVar hkn w b (i * e.size + j) (a.eval y) (by rw [hu, hcs.length, hl]) (by rw [hu]; exact oneCells h1 hcs) q3 (by rw [hu]; omega)
  rw [hu] at hrun
  have hat := heap_putCells_same (off := i * e.size + j) (vs := u) q3
  obtain ⟨s1, s2⟩ := h.turn hi (k := k) (b := b) (.arr te e (xs.set i z')) q2 q8 (w' := World.putCells w b (i * e.size + j) u) (fun j hj => heap_putCells j hj) size_putCells rfl rfl rfl
    ⟨d1, d2, b, _, _, va ++ (vb.take j ++ u ++ vb.drop (j + u.length)) ++ vd, by rw [List.length_set]; exact e1, q2, hat, by simp only [List.size_toArray, List.length_append, List.length_take, List.length_drop, Array.length_toList]; omega, by rw [List.length_set]; exact q5,
      by rw [a3]; exact (r3.append g3).append r2, fun k v hkv => by
        rw [hnew] at hkv
        have := put_sub (cur := cur.toList) hoff (fun k v hv => by simpa using q7 k v hv) k v hkv
        simpa using this, q8⟩
  refine loud_of_skip hk ?_ (by simp only [VR]) s1 s2 (Phi.le_refl _) (Keeps.turn h q2 (by simp [writes, hop, hx, AV.refs]) _ (fun j hj => heap_putCells j hj))
  simp [execOp, hop, e2, Instr.storeAt, Instr.sureAddr, hrun]
theorem run_getIter {P : Program} {w : World} {b pos : Nat} {s : ByteArray} (h : w.heap[b]? = some (.stringIter s pos)) : (getObj b).run P w = .ok (.stringIter s pos) w := by
  simp only [getObj, Sem.run, h]
theorem run_setIter {P : Program} {w : World} {b pos : Nat} {s : ByteArray} (h : w.heap[b]? = some (.stringIter s pos)) (ob : Obj) : (setObj b ob).run P w = .ok () (World.setAt w b ob) := by
  simp only [setObj, Sem.run, h, World.setAt]
theorem l_next (h : St C E st a w) (hi : Inv S E0 w0 m E w) (x : Operand) (hop : o.op = .next x true) {k : Nat} (hx : evO C st x = .ptr k 0) {s : ByteArray} {pos : Nat} (hb : lk st.t k = some (.iter s pos))
    (hk : (bif decide (pos < s.size) then
          K (.tup [.v (.bool true), .v (.int .i64 pos), .v (.int .i32 (Utf8.decode s pos).1)]) { st with t := setr st.t k (.iter s (pos + (Utf8.decode s pos).2)) }
        else K (.tup [.v (.bool false)]) st) = some r) : Loud C S E0 w0 m E st a w o K r := by
  have hv := h.eval x
  rw [hx] at hv
  simp only [VR] at hv
  obtain ⟨b, e1, e2⟩ := hv
  obtain ⟨f0, b', f1, f2, f3, f4⟩ := h.mr.res _ _ hb
  rw [e1] at f1
  injection f1 with f1
  subst f1
  have hlt := size_lt f3
  by_cases hp : pos < s.size
  · rw [decide_eq_true hp] at hk
    simp only [cond_true] at hk
    obtain ⟨s1, s2⟩ := h.turn hi (k := k) (b := b) (.iter s (pos + (Utf8.decode s pos).2)) f2 f4 (w' := World.setAt w b (.stringIter s (pos + (Utf8.decode s pos).2))) (fun j hj => by rw [heap_setAt, if_neg (by omega)]) (by simp [World.setAt]) rfl rfl rfl
      ⟨f0, b, e1, f2, by rw [heap_setAt, if_pos ⟨rfl, hlt⟩], f4⟩
    refine loud_of_run hk (v := .tuple #[.bool true, goInt pos, .int .i32 (Utf8.decode s pos).1]) ?_ ?_ s1 s2 (Phi.le_refl _) (Keeps.turn h f2 (by simp [writes, hop, hx, AV.refs]) _ (fun j hj => by rw [heap_setAt, if_neg (by omega)]))
    · simp only [execOp, hop, e2, Instr.next, Sem.run_bind, run_getIter f3, Result.andThen_ok, if_pos hp, run_setIter f3, Sem.run_pure]
    · simp only [VR]
      exact ⟨[.bool true, goInt pos, .int .i32 (Utf8.decode s pos).1], rfl, by simp [VRs, VR, goInt]⟩
  · rw [decide_eq_false hp] at hk
    simp only [cond_false] at hk
    refine loud_of_run hk (v := .tuple #[.bool false]) (w' := w) ?_ ?_ h hi (Phi.le_refl _) Keeps.same
    · simp only [execOp, hop, e2, Instr.next, Sem.run_bind, run_getIter f3, Result.andThen_ok, if_neg hp, Sem.run_pure]
    · simp only [VR]
      exact ⟨[.bool false], rfl, by simp [VRs, VR]⟩
end
end Go.Proofs.Ev
namespace Go.Proofs.Ev
open Go
set_option linter.unusedVariables false
set_option linter.unusedSimpArgs false
variable {ρ : Type}
def Phi.add (Φ : Phi) (g : Nat) (vs : List Value) : Phi := fun b o => if b = g then vs[o]? else Φ b o
theorem Phi.add_le {Φ : Phi} {g : Nat} {vs : List Value} (h : ∀ o v, Φ g o = some v → vs[o]? = some v) : Φ.le (Φ.add g vs) := fun b o v hv => by
  unfold Phi.add
  split
  · rename_i e; subst e; exact h o v hv
  · exact hv
theorem Phi.add_at {Φ : Phi} {g : Nat} {vs : List Value} {k : Nat} {v : Value} (h : vs[k]? = some v) : Φ.add g vs g (0 + k) = some v := by
  simp [Phi.add, h]
section
variable {C : Cfg} {E E0 : Env} {st : AS} {a : Act} {w w0 : World} {o : Oper} {K : AV → AS → Option ρ} {r : ρ} {S : Nat → Prop} {m : Nat}
def Env.phi (E : Env) (Φ : Phi) : Env := { E with Φ := Φ }
theorem Env.phi_le {E : Env} {Φ : Phi} (h : E.Φ.le Φ) (R : Nat → Prop) : E.le (E.phi Φ) R := ⟨fun _ _ h => h, fun _ _ _ h => h, h⟩
/-- Memory that never turns is new. -/
theorem St.addPhi (h : St C E st a w) (hi : Inv S E0 w0 m E w) {w' : World} {vs : List Value} {cur : Array Value} {T : TypeId} {fr : Nat × Nat} (hw : ∀ j, j < w.heap.size → w'.heap[j]? = w.heap[j]?)
    (hg : w'.heap[w.heap.size]? = some (.cells cur T fr)) (hvs : ∀ (k : Nat) (v : Value), vs[k]? = some v → cur[k]? = some v)
    (hos : w'.os = w.os) (htp : w'.tape = w.tape) (hout : w'.output = w.output) : St C (E.phi (E.Φ.add w.heap.size vs)) st a w' ∧ Inv S E0 w0 m (E.phi (E.Φ.add w.heap.size vs)) w' ∧ E.Φ.le (E.Φ.add w.heap.size vs) := by
  have hle : E.Φ.le (E.Φ.add w.heap.size vs) := Phi.add_le fun o v hv => by rw [h.mr.phi.none (Nat.le_refl _)] at hv; cases hv
  have hsz : w.heap.size < w'.heap.size := size_lt hg
  have mr : MR C (E.phi (E.Φ.add w.heap.size vs)) w' (lk st.t) := {
    phi := fun b o v hv => by
      simp only [Env.phi, Phi.add] at hv
      split at hv
      · rename_i e; subst e
        exact ⟨cur, T, fr, hg, hvs o v hv⟩
      · obtain ⟨c, T', fr', h1, h2⟩ := h.mr.phi b o v hv
        exact ⟨c, T', fr', by rw [hw b (size_lt h1), h1], h2⟩
    res := fun k x hx => (h.mr.res k x hx).mono (R := fun _ => True) (Env.phi_le hle _) rfl rfl (fun _ _ => trivial) fun b hb => ⟨hb, hw b (h.mr.lt k b hb), fun o => by
      have := h.mr.lt k b hb
      simp only [Env.phi, Phi.add]
      rw [if_neg (by omega)]⟩
    dom := h.mr.dom
    lt := fun k b hb => by have := h.mr.lt k b hb; omega
    sep := h.mr.sep }
  refine ⟨h.of (t' := st.t) (R := fun _ => True) mr (Env.phi_le hle _) (fun _ _ _ _ _ => trivial), ⟨hi.m40, hos.trans hi.os, htp.trans hi.tape, hout.trans hi.output, by have := hi.size; omega, fun b hb hS => ?_, hi.own, Phi.le_trans hi.phi hle, fun b o v hv => ?_, hi.fb⟩, hle⟩
  · rw [hw b (by have := hi.size; omega)]
    exact hi.keep b hb hS
  · simp only [Env.phi, Phi.add] at hv
    split at hv
    · rename_i e; subst e; exact .inr (.inr hi.size)
    · exact hi.new b o v hv
theorem Keeps.addPhi (h : St C E st a w) {W : List Nat} {w' : World} {Φ : Phi} (hw : ∀ j, j < w.heap.size → w'.heap[j]? = w.heap[j]?) : Keeps W st E w st (E.phi Φ) w' := fun j x hj hm _ => ⟨⟨x, hj, hm⟩, fun b hb => ⟨hb, hw b (h.mr.lt j b hb)⟩⟩
def Env.setRow (E : Env) (k g : Nat) (v : Value) (Φ : Phi) : Env := { E with rowv := fun j => if j = k then some v else E.rowv j, own := fun j b => if j = k then b = g else E.own j b, Φ := Φ }
theorem Keeps.setRow (h : St C E st a w) {W : List Nat} {k g : Nat} {v : Value} {Φ : Phi} {x' : Res} {w' : World} (hnb : (∀ x, lk st.t k = some x → x.mut = false) ∨ k ∈ W) (hw : ∀ j, j ≠ g → j < w.heap.size → w'.heap[j]? = w.heap[j]?) (hown : E.own k g ∨ w.heap.size ≤ g) :
    Keeps W st E w { st with t := setr st.t k x' } (E.setRow k g v Φ) w' := fun j x hj hm hjW => by
  have hne : j ≠ k := fun e => by
    subst e
    rcases hnb with h | h
    · rw [h x hj] at hm; cases hm
    · exact hjW h
  refine ⟨⟨x, ?_, hm⟩, fun d hd => ⟨by simpa [Env.setRow, hne] using hd, hw d (fun e => ?_) (h.mr.lt j d hd)⟩⟩
  · show lk (setr st.t k x') j = _
    rw [lk_setr, if_neg hne, hj]
  · subst e
    rcases hown with ho | ho
    · exact hne (h.mr.sep _ _ _ hd ho)
    · have := h.mr.lt j d hd; omega
/-- A row of one's own is new, or turns. -/
theorem St.setRow (h : St C E st a w) (hi : Inv S E0 w0 m E w) {k g : Nat} {te : TypeId} {e : Ty} {xs : List e.T} {cap : Nat} {cur : Array Value} {vs : List Value} {w' : World}
    (hty : C.ty te = some e) (hb : E.blk k = none) (hnm : ∀ t x, lk st.s t = some x → k ∉ x.sls) (hnt : ∀ j x, lk st.t j = some x → j ≠ k → k ∉ x.sls)
    (hg : w'.heap[g]? = some (.cells cur te (0, 0))) (hcur : cur.size = cap * e.size) (hcap : xs.length ≤ cap)
    (hxs : LRs E.Φ (xs.flatMap (cells e)) vs) (hvs : ∀ (k : Nat) (v : Value), vs[k]? = some v → cur[k]? = some v) (hold : ∀ (o : Nat) (v : Value), E.Φ g o = some v → vs[o]? = some v)
    (hw : ∀ j, j ≠ g → j < w.heap.size → w'.heap[j]? = w.heap[j]?) (hsz : w.heap.size ≤ w'.heap.size) (hown : E.own k g ∨ w.heap.size ≤ g)
    (hos : w'.os = w.os) (htp : w'.tape = w.tape) (hout : w'.output = w.output) :
    St C (E.setRow k g (.slice (some ⟨g, 0, none⟩) xs.length cap) (E.Φ.add g vs)) { st with t := setr st.t k (.row te e xs) } a w' ∧
    Inv S E0 w0 m (E.setRow k g (.slice (some ⟨g, 0, none⟩) xs.length cap) (E.Φ.add g vs)) w' := by
  have hle : E.Φ.le (E.Φ.add g vs) := Phi.add_le hold
  have le : E.le (E.setRow k g (.slice (some ⟨g, 0, none⟩) xs.length cap) (E.Φ.add g vs)) (· ≠ k) := ⟨fun _ _ h => h, fun j v hj hv => by simp only [Env.setRow]; rw [if_neg hj]; exact hv, hle⟩
  have hother : ∀ j b, j ≠ k → E.own j b → b ≠ g := fun j b hj hjb e => by
    subst e
    rcases hown with ho | ho
    · exact hj (h.mr.sep _ _ _ hjb ho)
    · have := h.mr.lt j b hjb; omega
  have hlen : vs.length = xs.length * e.size := by rw [hxs.length, flat_length]
  refine ⟨h.of (R := (· ≠ k)) ((h.mr.upd k (.row te e xs) le (fun j x hj hjk i hi e => hnt j x hj hjk (e ▸ hi)) (fun _ _ => rfl) (fun j hj => by simp [Env.setRow, hj]) (fun j b hj => by simp [Env.setRow, hj]) ?_ ?_ ?_ ?_ hsz ?_).congr fun r => lk_setr ..) le (fun t x hx j hj => by rintro rfl; exact hnm t x hx hj), ?_⟩
  · intro j b hj hjb
    have hne := hother j b hj hjb
    refine ⟨hw b hne (h.mr.lt j b hjb), fun o => ?_⟩
    simp only [Env.setRow, Phi.add]
    rw [if_neg hne]
  · intro b o v hv
    simp only [Env.setRow, Phi.add] at hv
    split at hv
    · rename_i e; subst e
      exact ⟨cur, te, (0, 0), hg, hvs o v hv⟩
    · rename_i e
      obtain ⟨c, T', fr', h1, h2⟩ := h.mr.phi b o v hv
      exact ⟨c, T', fr', by rw [hw b e (size_lt h1), h1], h2⟩
  · refine ⟨hb, hty, some ⟨g, 0, none⟩, cap, by simp [Env.setRow], LR.ofFlat (hxs.mono hle) hcap (fun k v hv => Phi.add_at hv), .inr ⟨g, cur, rfl, by simp [Env.setRow], hg, hcur, hcap, fun o ho => ?_⟩⟩
    simp only [Env.setRow, Phi.add, if_true]
    rw [List.getElem?_eq_none (by omega)]
  · intro b hbo
    simp only [Env.setRow, if_true] at hbo
    subst hbo
    exact size_lt hg
  · intro j b hj hjb hbg
    simp only [Env.setRow, if_true] at hbg
    exact hother j b hj hjb hbg
  · have hgS : S g ∨ w0.heap.size ≤ g := by
      rcases hown with ho | ho
      · exact hi.own _ _ ho
      · exact .inr (Nat.le_trans hi.size ho)
    refine ⟨hi.m40, hos.trans hi.os, htp.trans hi.tape, hout.trans hi.output, Nat.le_trans hi.size hsz, fun b hb hS => ?_, fun j b hjb => ?_, Phi.le_trans hi.phi hle, fun b o v hv => ?_, hi.fb⟩
    · rw [hw b (fun e => by subst e; rcases hgS with h | h; exact hS h; omega) (by have := hi.size; omega)]
      exact hi.keep b hb hS
    · simp only [Env.setRow] at hjb
      split at hjb
      · subst hjb; exact hgS
      · exact hi.own j b hjb
    · simp only [Env.setRow, Phi.add] at hv
      split at hv
      · rename_i e; subst e; exact .inr hgS
      · exact hi.new b o v hv
/-- A row that is written in place is new, or turns. -/
theorem St.setArr (h : St C E st a w) (hi : Inv S E0 w0 m E w) {k g : Nat} {te : TypeId} {e : Ty} {xs : List e.T} {cap : Nat} {cur : Array Value} {vs : List Value} {w' : World}
    (hty : C.ty te = some e) (hb : E.blk k = none) (hnm : ∀ t x, lk st.s t = some x → k ∉ x.sls) (hnt : ∀ j x, lk st.t j = some x → j ≠ k → k ∉ x.sls)
    (hg : w'.heap[g]? = some (.cells cur te (0, 0))) (hcur : cur.size = cap * e.size) (hcap : xs.length ≤ cap)
    (hxs : LRs E.Φ (xs.flatMap (cells e)) vs) (hvs : ∀ (k : Nat) (v : Value), vs[k]? = some v → cur[k]? = some v) (hΦ : ∀ o, E.Φ g o = none)
    (hw : ∀ j, j ≠ g → j < w.heap.size → w'.heap[j]? = w.heap[j]?) (hsz : w.heap.size ≤ w'.heap.size) (hown : E.own k g ∨ w.heap.size ≤ g)
    (hos : w'.os = w.os) (htp : w'.tape = w.tape) (hout : w'.output = w.output) :
    St C (E.setRow k g (.slice (some ⟨g, 0, none⟩) xs.length cap) E.Φ) { st with t := setr st.t k (.arr te e xs) } a w' ∧
    Inv S E0 w0 m (E.setRow k g (.slice (some ⟨g, 0, none⟩) xs.length cap) E.Φ) w' := by
  have le : E.le (E.setRow k g (.slice (some ⟨g, 0, none⟩) xs.length cap) E.Φ) (· ≠ k) := ⟨fun _ _ h => h, fun j v hj hv => by simp only [Env.setRow]; rw [if_neg hj]; exact hv, Phi.le_refl _⟩
  have hother : ∀ j b, j ≠ k → E.own j b → b ≠ g := fun j b hj hjb e => by
    subst e
    rcases hown with ho | ho
    · exact hj (h.mr.sep _ _ _ hjb ho)
    · have := h.mr.lt j b hjb; omega
  refine ⟨h.of (R := (· ≠ k)) ((h.mr.upd k (.arr te e xs) le (fun j x hj hjk i hi e => hnt j x hj hjk (e ▸ hi)) (fun _ _ => rfl) (fun j hj => by simp [Env.setRow, hj]) (fun j b hj => by simp [Env.setRow, hj]) ?_ ?_ ?_ ?_ hsz ?_).congr fun r => lk_setr ..) le (fun t x hx j hj => by rintro rfl; exact hnm t x hx hj), ?_⟩
  · intro j b hj hjb
    exact ⟨hw b (hother j b hj hjb) (h.mr.lt j b hjb), fun _ => rfl⟩
  · intro b o v hv
    have hv' : E.Φ b o = some v := hv
    obtain ⟨c, T', fr', h1, h2⟩ := h.mr.phi b o v hv'
    exact ⟨c, T', fr', by rw [hw b (fun e => by subst e; rw [hΦ] at hv'; cases hv') (size_lt h1), h1], h2⟩
  · exact ⟨hb, hty, g, cap, cur, vs, by simp [Env.setRow], by simp [Env.setRow], hg, hcur, hcap, hxs, hvs, hΦ⟩
  · intro b hbo
    simp only [Env.setRow, if_true] at hbo
    subst hbo
    exact size_lt hg
  · intro j b hj hjb hbg
    simp only [Env.setRow, if_true] at hbg
    exact hother j b hj hjb hbg
  · have hgS : S g ∨ w0.heap.size ≤ g := by
      rcases hown with ho | ho
      · exact hi.own _ _ ho
      · exact .inr (Nat.le_trans hi.size ho)
    refine ⟨hi.m40, hos.trans hi.os, htp.trans hi.tape, hout.trans hi.output, Nat.le_trans hi.size hsz, fun b hb hS => ?_, fun j b hjb => ?_, hi.phi, hi.new, hi.fb⟩
    · rw [hw b (fun e => by subst e; rcases hgS with h | h; exact hS h; omega) (by have := hi.size; omega)]
      exact hi.keep b hb hS
    · simp only [Env.setRow] at hjb
      split at hjb
      · subst hjb; exact hgS
      · exact hi.own j b hjb
/-- It will be written no more. -/
theorem St.settle1 (h : St C E st a w) (hi : Inv S E0 w0 m E w) {k : Nat} {te : TypeId} {e : Ty} {xs : List e.T} (hk : lk st.t k = some (.arr te e xs)) :
    ∃ E', St C E' { st with t := setr st.t k (.row te e xs) } a w ∧ Inv S E0 w0 m E' w ∧ E.le E' (fun _ => True) ∧ ∀ j b, E.own j b → E'.own j b := by
  obtain ⟨d1, d2, g, cap, cur, vs, q1, q2, q3, q4, q5, q6, q7, q8⟩ := h.mr.res _ _ hk
  have hle : E.Φ.le (E.Φ.add g vs) := Phi.add_le fun o v hv => by rw [q8] at hv; cases hv
  have le : E.le (E.phi (E.Φ.add g vs)) (fun _ => True) := Env.phi_le hle _
  have hlen : vs.length = xs.length * e.size := by rw [q6.length, flat_length]
  refine ⟨E.phi (E.Φ.add g vs), h.of (R := fun _ => True) ((h.mr.upd k (.row te e xs) le (fun _ _ _ _ _ _ => trivial) (fun _ _ => rfl) (fun _ _ => rfl) (fun _ _ _ => Iff.rfl) ?_ ?_ ?_ (fun b hb => h.mr.lt k b hb) (Nat.le_refl _) ?_).congr fun r => lk_setr ..) le (fun _ _ _ _ _ => trivial), ?_, le, fun _ _ h => h⟩
  · intro j b hj hjb
    refine ⟨rfl, fun o => ?_⟩
    simp only [Env.phi, Phi.add]
    rw [if_neg fun e => by subst e; exact hj (h.mr.sep _ _ _ hjb q2)]
  · intro b o v hv
    simp only [Env.phi, Phi.add] at hv
    split at hv
    · rename_i e; subst e
      exact ⟨cur, te, (0, 0), q3, q7 o v hv⟩
    · exact h.mr.phi b o v hv
  · refine ⟨d1, d2, some ⟨g, 0, none⟩, cap, q1, LR.ofFlat (q6.mono hle) q5 (fun k v hv => Phi.add_at hv), .inr ⟨g, cur, rfl, q2, q3, q4, q5, fun o ho => ?_⟩⟩
    simp only [Env.phi, Phi.add, if_true]
    rw [List.getElem?_eq_none (by omega)]
  · intro j b hj h1 h2
    exact hj (h.mr.sep _ _ _ h1 h2)
  · refine ⟨hi.m40, hi.os, hi.tape, hi.output, hi.size, hi.keep, hi.own, Phi.le_trans hi.phi hle, fun b o v hv => ?_, hi.fb⟩
    simp only [Env.phi, Phi.add] at hv
    split at hv
    · rename_i e; subst e; exact .inr (hi.own k b q2)
    · exact hi.new b o v hv
theorem Env.le_trans {E F G : Env} (h : E.le F (fun _ => True)) (h' : F.le G (fun _ => True)) : E.le G (fun _ => True) := ⟨fun r b hb => h'.blk r b (h.blk r b hb), fun r v _ hv => h'.rowv r v trivial (h.rowv r v trivial hv), Phi.le_trans h.phi h'.phi⟩
theorem St.settle : ∀ (L : List Nat) {st : AS} {E : Env}, St C E st a w → Inv S E0 w0 m E w → ∃ E', St C E' { st with t := Ev.settle st.t L } a w ∧ Inv S E0 w0 m E' w ∧ E.le E' (fun _ => True) ∧ (∀ j b, E.own j b → E'.own j b) ∧ ∀ j, j ∉ L → lk (Ev.settle st.t L) j = lk st.t j
  | [], st, E, h, hi => ⟨E, h, hi, ⟨fun _ _ h => h, fun _ _ _ h => h, Phi.le_refl _⟩, fun _ _ h => h, fun _ _ => rfl⟩
  | r :: L, st, E, h, hi => by
    simp only [Ev.settle]
    split
    · rename_i te e xs hr
      obtain ⟨E1, s1, s2, s3, s4⟩ := h.settle1 hi hr
      obtain ⟨E2, t1, t2, t3, t4, t5⟩ := St.settle L s1 s2
      refine ⟨E2, t1, t2, Env.le_trans s3 t3, fun j b hb => t4 j b (s4 j b hb), fun j hj => ?_⟩
      simp only [List.mem_cons, not_or] at hj
      rw [t5 j hj.2, lk_setr, if_neg hj.1]
    · obtain ⟨E2, t1, t2, t3, t4, t5⟩ := St.settle L h hi
      exact ⟨E2, t1, t2, t3, t4, fun j hj => t5 j (fun h => hj (by simp [h]))⟩
end
end Go.Proofs.Ev
namespace Go.Proofs.Ev
open Go
set_option linter.unusedVariables false
set_option linter.unusedSimpArgs false
variable {ρ : Type}
section
variable {C : Cfg} {E E0 : Env} {st : AS} {a : Act} {w w0 : World} {o : Oper} {K : AV → AS → Option ρ} {r : ρ} {S : Nat → Prop} {m : Nat}
theorem elemOf?_some {P : Program} {t te : TypeId} (h : elemOf? P t = some te) : P.underlying t = some (.slice te) := by
  unfold elemOf? at h
  split at h
  · simp only [Option.some.injEq] at h; subst h; assumption
  · cases h
theorem rowTy_some {P : Program} {te : TypeId} {e : Ty} (h : rowTy P te e = true) : ∃ i z, P.info? te = some i ∧ i.zero = some z ∧ i.size = e.size ∧ z.cells.size = e.size ∧ 0 < e.size ∧ i.bytes ≤ 128 := by
  unfold rowTy at h
  split at h
  · rename_i i hi
    split at h
    · rename_i z hz
      simp only [Bool.and_eq_true, Nat.beq_eq] at h
      exact ⟨i, z, hi, hz, h.1, h.2.1, by have := h.2.2.1; simpa [Nat.blt_eq] using this, Nat.le_of_ble_eq_true h.2.2.2⟩
    · cases h
  · cases h
theorem site_m (hi : Inv S E0 w0 m E w) (d : Option Tmp) : m ≤ site d 0 := by have := hi.m40; have := site_ge d 0; omega
/-- A row of one's own in a block of its own. -/
theorem l_newRow (h : St C E st a w) (hi : Inv S E0 w0 m E w) {k : Nat} (hk : lk st.t k = none) {te : TypeId} {e : Ty} {xs : List e.T} {cap : Nat} {cur : Array Value} {vs : List Value} (hty : C.ty te = some e)
    (hcur : cur.size = cap * e.size) (hcap : xs.length ≤ cap) (hxs : LRs E.Φ (xs.flatMap (cells e)) vs) (hvs : ∀ (k : Nat) (v : Value), vs[k]? = some v → cur[k]? = some v) {w' : World} (hw' : w' = w ∨ w' = w.drew) :
    ∃ E', St C E' { st with t := setr st.t k (.row te e xs) } a (w'.alloc (.cells cur te)) ∧ Inv S E0 w0 m E' (w'.alloc (.cells cur te)) ∧ VR E' (.sl k) (.slice (some ⟨w.heap.size, 0, none⟩) xs.length cap) ∧ E.Φ.le E'.Φ ∧ ∀ W, Keeps W st E w { st with t := setr st.t k (.row te e xs) } E' (w'.alloc (.cells cur te)) := by
  have hh : w'.heap = w.heap := by rcases hw' with rfl | rfl <;> rfl
  obtain ⟨d1, d2, d3⟩ := h.mr.dom k hk
  obtain ⟨s1, s2⟩ := h.setRow hi (k := k) (g := w.heap.size) (te := te) (e := e) (xs := xs) (cap := cap) (cur := cur) (vs := vs) (w' := w'.alloc (.cells cur te)) hty d1
    (fun t x hx hm => h.fresh hk t x hx k hm rfl) (fun j x hj _ hm => h.mr.fresh hk j x hj (fun e => by subst e; rw [hk] at hj; cases hj) hm)
    (by rw [heap_alloc, hh, if_pos rfl]) hcur hcap hxs hvs (fun o v hv => by rw [h.mr.phi.none (Nat.le_refl _)] at hv; cases hv)
    (fun j hj hlt => by rw [heap_alloc, hh, if_neg hj]) (by simp [hh]) (.inr (Nat.le_refl _)) (by rcases hw' with rfl | rfl <;> rfl) (by rcases hw' with rfl | rfl <;> rfl) (by rcases hw' with rfl | rfl <;> rfl)
  exact ⟨_, s1, s2, by simp only [VR, Env.setRow, if_true]; exact ⟨trivial, _, _, _, rfl⟩, Phi.add_le (fun o v hv => by rw [h.mr.phi.none (Nat.le_refl _)] at hv; cases hv), fun W => Keeps.setRow h (.inl fun x e => by rw [hk] at e; cases e) (fun j hj hlt => by rw [heap_alloc, hh, if_neg hj]) (.inr (Nat.le_refl _))⟩
/-- A row that is written in place, in a block of its own. -/
theorem l_newArr (h : St C E st a w) (hi : Inv S E0 w0 m E w) {k : Nat} (hk : lk st.t k = none) {te : TypeId} {e : Ty} {xs : List e.T} {cap : Nat} {cur : Array Value} {vs : List Value} (hty : C.ty te = some e)
    (hcur : cur.size = cap * e.size) (hcap : xs.length ≤ cap) (hxs : LRs E.Φ (xs.flatMap (cells e)) vs) (hvs : ∀ (k : Nat) (v : Value), vs[k]? = some v → cur[k]? = some v) {w' : World} (hw' : w' = w ∨ w' = w.drew) :
    ∃ E', St C E' { st with t := setr st.t k (.arr te e xs) } a (w'.alloc (.cells cur te)) ∧ Inv S E0 w0 m E' (w'.alloc (.cells cur te)) ∧ VR E' (.sl k) (.slice (some ⟨w.heap.size, 0, none⟩) xs.length cap) ∧ E.Φ.le E'.Φ ∧ ∀ W, Keeps W st E w { st with t := setr st.t k (.arr te e xs) } E' (w'.alloc (.cells cur te)) := by
  have hh : w'.heap = w.heap := by rcases hw' with rfl | rfl <;> rfl
  obtain ⟨d1, d2, d3⟩ := h.mr.dom k hk
  obtain ⟨s1, s2⟩ := h.setArr hi (k := k) (g := w.heap.size) (te := te) (e := e) (xs := xs) (cap := cap) (cur := cur) (vs := vs) (w' := w'.alloc (.cells cur te)) hty d1
    (fun t x hx hm => h.fresh hk t x hx k hm rfl) (fun j x hj _ hm => h.mr.fresh hk j x hj (fun e => by subst e; rw [hk] at hj; cases hj) hm)
    (by rw [heap_alloc, hh, if_pos rfl]) hcur hcap hxs hvs (fun o => h.mr.phi.none (Nat.le_refl _) o)
    (fun j hj hlt => by rw [heap_alloc, hh, if_neg hj]) (by simp [hh]) (.inr (Nat.le_refl _)) (by rcases hw' with rfl | rfl <;> rfl) (by rcases hw' with rfl | rfl <;> rfl) (by rcases hw' with rfl | rfl <;> rfl)
  exact ⟨_, s1, s2, by simp only [VR, Env.setRow, if_true]; exact ⟨trivial, _, _, _, rfl⟩, Phi.le_refl _, fun W => Keeps.setRow h (.inl fun x e => by rw [hk] at e; cases e) (fun j hj hlt => by rw [heap_alloc, hh, if_neg hj]) (.inr (Nat.le_refl _))⟩
theorem St.congr (h : St C E st a w) {t' : List (Nat × Res)} (ht : ∀ j, lk t' j = lk st.t j) : St C E { st with t := t' } a w := ⟨h.mr.congr ht, h.sl, h.n, h.df, h.gl⟩
theorem St.cons {k : Nat} {x : Res} (h : St C E { st with t := setr st.t k x } a w) : St C E { st with t := (k, x) :: st.t } a w :=
  h.congr fun j => by
    show lk ((k, x) :: st.t) j = lk (setr st.t k x) j
    rw [lk_cons, lk_setr]
theorem l_makeSlice (h : St C E st a w) (hi : Inv S E0 w0 m E w) (t : TypeId) (l c : Operand) (hop : o.op = .makeSlice t l c) {te : TypeId} {e : Ty} {n : Int} (ht : elemOf? C.P t = some te) (hl : evO C st l = .v (.int .i64 0)) (hc : intOf? (evO C st c) = some n)
    (hty : C.ty te = some e) (hr : rowTy C.P te e = true) (h0 : 0 ≤ n) (hn : n ≤ 1099511627776) (hk : addRes st (site o.dst 0) (.row te e []) (K (.sl (site o.dst 0))) = some r) : Loud C S E0 w0 m E st a w o K r := by
  obtain ⟨k1, k2⟩ := addRes_some hk
  obtain ⟨i, z, e1, e2, e3, e4, e5, e6⟩ := rowTy_some hr
  have hu := elemOf?_some ht
  have vl := h.eval l
  rw [hl] at vl
  simp only [VR] at vl
  obtain ⟨kc, vc⟩ := intOf?_some hc (h.eval c)
  have hrun := run_make (P := C.P) w t te i z hu e1 e2 .i64 kc 0 n (Int.le_refl _) h0 (by
    have : (i.bytes : Int) * n ≤ 128 * n := Int.mul_le_mul_of_nonneg_right (by omega) h0
    omega) (by omega)
  obtain ⟨E', s1, s2, s3, s4, s5⟩ := l_newRow h hi k1 (xs := []) (cap := n.toNat) (cur := madeCells z.cells (n.toNat * i.size)) (vs := []) hty (by rw [size_madeCells, e3]) (by simp) (by simp [LRs]) (by simp) (.inl rfl)
  refine loud_of_run k2 ?_ s3 s1.cons s2 s4 (s5 _).cons
  simp only [execOp, hop, vl, vc, Sem.run_bind, hrun, Result.andThen_ok, Sem.run_pure]
  rfl
theorem inOrder_zip {α : Type} (f : Operand → α) : ∀ (l : List (Nat × Operand)) (i : Nat), inOrder i l = true → l.map (fun p => (p.1, f p.2)) = ((l.map fun p => f p.2).zipIdx i).map fun x => (x.2, x.1)
  | [], i, _ => rfl
  | (j, x) :: l, i, h => by
    simp only [inOrder, Bool.and_eq_true, Nat.beq_eq] at h
    simp only [List.map_cons, List.zipIdx_cons]
    rw [inOrder_zip f l (i + 1) h.2, h.1]
theorem l_buildSlice (h : St C E st a w) (hi : Inv S E0 w0 m E w) (t : TypeId) (len : Nat) (parts : Array (Nat × Operand)) (hop : o.op = .buildSlice t len parts) {te : TypeId} {e : Ty} (ht : elemOf? C.P t = some te) (hty : C.ty te = some e)
    (ho : inOrder 0 parts.toList = true) (hlen : len = parts.toList.length) (hr : rowTy C.P te e = true) (hn : len * e.size ≤ 16777216) {xs : List e.T} (hm : mkAVs st.t e (parts.toList.map fun p => evO C st p.2) = some xs)
    (hk : addRes st (site o.dst 0) (.row te e xs) (K (.sl (site o.dst 0))) = some r) : Loud C S E0 w0 m E st a w o K r := by
  obtain ⟨k1, k2⟩ := addRes_some hk
  obtain ⟨i, z, e1, e2, e3, e4, e5, e6⟩ := rowTy_some hr
  have hu := elemOf?_some ht
  have hvs : VRs E (parts.toList.map fun p => evO C st p.2) (parts.toList.map fun p => a.eval p.2) := by
    have := VRs.map h (parts.toList.map fun p => p.2)
    simpa [List.map_map, Function.comp_def] using this
  obtain ⟨g1, g2, g3⟩ := mkAVs_sound h.mr hm hvs
  simp only [List.length_map] at g1
  have hfl := g2.length
  rw [flat_length, g1, ← hlen] at hfl
  obtain ⟨E', s1, s2, s3, s4, s5⟩ := l_newRow h hi k1 (xs := xs) (cap := len) (cur := ((parts.toList.map fun p => a.eval p.2).flatMap fun v => v.cells.toList).toArray) (vs := (parts.toList.map fun p => a.eval p.2).flatMap fun v => v.cells.toList) hty
    (by simpa using hfl) (by omega) g2 (by simp) (.inl rfl)
  refine loud_of_run k2 (v := .slice (some ⟨w.heap.size, 0, none⟩) xs.length len) ?_ s3 s1.cons s2 s4 (s5 _).cons
  have hxl : xs.length = len := by omega
  by_cases hz : len = 0
  · have hp : parts = #[] := by
      apply Array.toList_inj.1
      exact List.eq_nil_of_length_eq_zero (by omega)
    subst hp
    simp [hz] at hxl ⊢
    simp [execOp, hop, hz, Instr.buildSlice, run_underlying' hu, sizeOf, typeInfo, e1, Instr.fill, newRow, hxl, Array.range_zero']
  · have hpos : ¬ len * i.size = 0 := by rw [e3]; exact Nat.mul_ne_zero hz (by omega)
    have hrun := run_buildSlice (P := C.P) w t te len (parts.map fun (i, x) => (i, a.eval x)) (((parts.toList.map fun p => a.eval p.2).flatMap fun v => v.cells.toList).toArray) i z hu e1 e2 (by rw [e3]; omega) hpos (by
      have e0 : (parts.map fun (x : Nat × Operand) => (x.1, a.eval x.2)).toList = (((parts.toList.map fun p => a.eval p.2).zipIdx 0).map fun x => (x.2, x.1)) := by
        rw [Array.toList_map]; exact inOrder_zip a.eval _ 0 ho
      show Instr.fill _ _ (parts.map fun (x : Nat × Operand) => (x.1, a.eval x.2)).toList = _
      rw [e0, e3]
      exact Great.fill_whole e5 _ _ g3 (by simp [hlen]))
    simp only [execOp, hop, Sem.run_bind, hrun, Result.andThen_ok, Sem.run_pure, hxl]
end
end Go.Proofs.Ev
namespace Go.Proofs.Ev
open Go
set_option linter.unusedVariables false
set_option linter.unusedSimpArgs false
variable {ρ : Type}
section
variable {C : Cfg} {E E0 : Env} {st : AS} {a : Act} {w w0 : World} {o : Oper} {K : AV → AS → Option ρ} {r : ρ} {S : Nat → Prop} {m : Nat}
theorem l_pure (h : St C E st a w) (hi : Inv S E0 w0 m E w) (hs : ∀ cs b, o.op ≠ .select cs b) (hp : pureOp C st o K = some r) : Loud C S E0 w0 m E st a w o K r := by
  obtain ⟨av, v, h1, h2, h3⟩ := pureOp_quiet h hs hp
  exact loud_of_run h1 (h3 w ⟨h.mr.phi, fun _ _ _ _ => rfl⟩) h2 h hi (Phi.le_refl _) Keeps.same
theorem l_quiet (h : St C E st a w) (hi : Inv S E0 w0 m E w) (hq : Quiet C E st a w o K r) : Loud C S E0 w0 m E st a w o K r := by
  obtain ⟨av, v, h1, h2, h3⟩ := hq
  exact loud_of_run h1 (h3 w ⟨h.mr.phi, fun _ _ _ _ => rfl⟩) h2 h hi (Phi.le_refl _) Keeps.same
theorem LRs.ints {Φ : Phi} {k : IntKind} : ∀ {l : List (Ty.int k).T} {vs : List Value}, LRs Φ (l.flatMap (cells (.int k))) vs → vs = l.map (fun n => .int k n)
  | [], [], _ => rfl
  | [], _ :: _, h => by simp only [List.flatMap_nil, LRs] at h
  | n :: l, [], h => by simp only [List.flatMap_cons, cells, List.cons_append, List.nil_append, LRs] at h
  | n :: l, v :: vs, h => by
    simp only [List.flatMap_cons, cells, List.cons_append, List.nil_append, LRs] at h
    rw [LRs.ints h.2]
    cases h.1
    rfl
theorem LRs.ofInts {Φ : Phi} (k : IntKind) : ∀ (l : List (Ty.int k).T), LRs Φ (l.flatMap (cells (.int k))) (l.map (fun n => .int k n))
  | [] => by show LRs Φ [] []; simp only [LRs]
  | n :: l => by
    simp only [List.flatMap_cons, cells, List.cons_append, List.nil_append, LRs, List.map_cons]
    exact ⟨.int k n, LRs.ofInts k l⟩
/-- The cells that a slice names. -/
theorem LR.rowCells {Φ : Phi} {e : Ty} {xs : List e.T} {v : Value} (h : LR Φ ⟨.rows e, xs⟩ v) : ∃ A c vs, v = .slice A xs.length c ∧ LRs Φ (xs.flatMap (cells e)) vs ∧
    (xs = [] ∨ ∃ b off, A = some ⟨b, off, none⟩ ∧ xs.length ≤ c ∧ ∀ (k : Nat) (u : Value), vs[k]? = some u → Φ b (off + k) = some u) := by
  cases h with
  | row0 e A c => exact ⟨A, c, [], rfl, by simp [LRs], .inl rfl⟩
  | row e xs b off c f h0 hc h1 h2 =>
    obtain ⟨vs, g1, g2⟩ := LR.flat h1 h2
    exact ⟨_, c, vs, rfl, g1, .inr ⟨b, off, rfl, hc, g2⟩⟩
theorem LR.intRow {Φ : Phi} {k : IntKind} {l : List Int} {v : Value} (h : LR Φ ⟨.rows (.int k), l⟩ v) : ∃ A c, v = .slice A l.length c ∧
    (l = [] ∨ ∃ b off, A = some ⟨b, off, none⟩ ∧ ∀ (j : Nat) (u : Value), (l.map (Value.int k))[j]? = some u → Φ b (off + j) = some u) := by
  obtain ⟨A, c, vs, hv, hl, hc⟩ := h.rowCells
  have hvs : vs = l.map (Value.int k) := hl.ints
  refine ⟨A, c, hv, ?_⟩
  rcases hc with h | ⟨b, off, h1, _, h2⟩
  · exact .inl h
  · exact .inr ⟨b, off, h1, by rw [← hvs]; exact h2⟩
theorem phi_cell {Φ : Phi} {w' : World} (hp : PhiOk Φ w') {b off : Nat} {vs : List Value} (h : ∀ (k : Nat) (u : Value), vs[k]? = some u → Φ b (off + k) = some u) (P : Program) : (loadCells ⟨b, off, none⟩ vs.length).run P w' = .ok vs.toArray w' :=
  run_loadCells P w' b off vs fun j v hv => hp _ _ _ (h j v hv)
theorem encAll_eq (l : List Int) : encAll l = runesBytes l := rfl
theorem ofBytes_push (l : List Int) : ∀ s : ByteArray, l.foldl (fun r n => r.push (UInt8.ofNat n.toNat)) s = s ++ ofBytes l := by
  induction l with
  | nil => intro s; apply ByteArray.ext; simp [ofBytes]
  | cons n l ih =>
    intro s
    simp only [List.foldl_cons, ih]
    apply ByteArray.ext
    simp [ofBytes, ByteArray.push]
theorem loadCells_zero (P : Program) (w' : World) (A : Addr) : (loadCells A 0).run P w' = .ok #[] w' := by simp [loadCells, loadCellsFrom]
theorem l_toStr (h : St C E st a w) (hi : Inv S E0 w0 m E w) (src dst : TypeId) (x : Operand) (hop : o.op = .convert src dst x) {te : TypeId} (k : IntKind) (hk : k = .i32 ∨ k = .u8) {l : List Int} (hx : rowOrArr st.t (evO C st x) = some ⟨.int k, l⟩)
    (hs : C.P.underlying src = some (.slice te)) (hd : C.P.underlying dst = some .string) (he : C.P.underlying te = some (.int k)) (hkk : K (.v (.string (if k = .i32 then encAll l else ofBytes l))) st = some r) : Loud C S E0 w0 m E st a w o K r := by
  obtain ⟨A, c, hv, hload⟩ : ∃ A c, a.eval x = .slice A l.length c ∧ (∀ A', A = some A' → (loadCells A' l.length).run C.P w = .ok (l.map (Value.int k)).toArray w) ∧ (A = none → l = []) := by
    unfold rowOrArr at hx
    split at hx
    · rename_i p hp
      simp only [Option.some.injEq] at hx; subst hx
      obtain ⟨A, c, hv, hc⟩ := (rowOf_sound h.mr hp (h.eval x)).intRow
      refine ⟨A, c, hv, ?_, ?_⟩
      · intro A' hA
        rcases hc with h0 | ⟨b, off, hA', hcell⟩
        · rw [h0]; exact loadCells_zero C.P w A'
        · rw [hA'] at hA
          injection hA with hA
          subst hA
          have := phi_cell h.mr.phi hcell C.P
          rwa [List.length_map] at this
      · intro hA
        rcases hc with h | ⟨b, off, hA', _⟩
        · exact h
        · rw [hA] at hA'; cases hA'
    · split at hx
      · rename_i p hp
        simp only [Option.some.injEq] at hx
        obtain ⟨kk, e', xs'⟩ := p
        simp only at hx
        cases hx
        obtain ⟨hxe, te', hbb⟩ := arrOf_some hp
        have hv := h.eval x
        rw [hxe] at hv
        simp only [VR] at hv
        obtain ⟨_, _, g, cap, cur, vs, f1, f2, f3, f4, f5, f6, f7, f8⟩ := h.mr.res _ _ hbb
        have hv : a.eval x = .slice (some ⟨g, 0, none⟩) l.length cap := by
          have := hv.1
          rw [f1] at this
          exact (Option.some.inj this).symm
        refine ⟨_, _, hv, ?_, fun h => by cases h⟩
        intro A' hA
        simp only [Option.some.injEq] at hA; subst hA
        have hvs : vs = l.map (Value.int k) := f6.ints
        have := run_loadCells C.P w g 0 vs fun j v hv => ⟨cur, te', (0, 0), f3, by rw [Nat.zero_add]; exact f7 j v hv⟩
        rw [hvs, List.length_map] at this
        exact this
      · cases hx
  obtain ⟨hload, hnil⟩ := hload
  refine loud_of_run hkk (v := .string (if k = .i32 then encAll l else ofBytes l)) (w' := w) ?_ (by simp only [VR]) h hi (Phi.le_refl _) Keeps.same
  rcases hk with rfl | rfl
  · have : (convert src dst (a.eval x)).run C.P w = .ok (.string (encAll l)) w := by
      rw [hv, run_convert_runes_string w src dst te A _ c hs he hd]
      cases hA : A with
      | none => rw [hnil hA]; simp [Conv.runesToString, encAll]
      | some A' => rw [run_runesToString w A' l.length c l (hload A' hA), encAll_eq]
    simp only [execOp, hop, Sem.run_bind, this, Result.andThen_ok, Sem.run_pure, if_true]
  · have : (convert src dst (a.eval x)).run C.P w = .ok (.string (ofBytes l)) w := by
      have hcv : (convert src dst (.slice A l.length c)).run C.P w = (Conv.bytesToString (.slice A l.length c)).run C.P w := by
        simp [convert, run_underlying hs, run_underlying hd, run_underlying he]
      rw [hv, hcv]
      cases hA : A with
      | none => rw [hnil hA]; simp [Conv.bytesToString, ofBytes]; rfl
      | some A' =>
        rw [run_bytesToString w A' l.length c l (hload A' hA), ofBytes_push]
        congr 2
    simp only [execOp, hop, Sem.run_bind, this, Result.andThen_ok, Sem.run_pure]
    rfl
/-- The world behind a string's turn into a row. -/
theorem heap_freeze (w : World) (A : Addr) (n j : Nat) : (w.freeze A n).heap[j]? = if n ≠ 0 ∧ j = A.block then (w.heap[j]?).map (fun
      | .cells c elem (lo, hi) => .cells c elem (if lo == hi then (A.off, A.off + n) else (min lo A.off, max hi (A.off + n)))
      | o => o) else w.heap[j]? := by
  unfold World.freeze
  split
  · rename_i h; simp [h]
  · rename_i h
    simp only [Array.getElem?_modify, h, ne_eq, not_false_eq_true, true_and]
    by_cases hj : A.block = j
    · subst hj; rw [if_pos rfl, if_pos rfl]; rfl
    · rw [if_neg hj, if_neg (fun e => hj e.symm)]
theorem l_fromStr (h : St C E st a w) (hi : Inv S E0 w0 m E w) {k : IntKind} {l : List Int} {te : TypeId} {cur : Array Value} (hcur : ∀ (j : Nat) (u : Value), (l.map (Value.int k))[j]? = some u → cur[j]? = some u) {w' : World} {cap : Nat} (hcap : l.length ≤ cap)
    (hw : w' = w.drew.alloc (.cells cur te) ∨ ∃ n, w' = (w.drew.alloc (.cells cur te)).freeze { block := w.heap.size, off := n } 1) (hrun : (execOp a.eval o).run C.P w = .ok (.value (.slice (some ⟨w.heap.size, 0, none⟩) l.length cap)) w')
    (hkk : K (.d ⟨.rows (.int k), l⟩) st = some r) : Loud C S E0 w0 m E st a w o K r := by
  have hat : ∃ fr, w'.heap[w.heap.size]? = some (.cells cur te fr) := by
    rcases hw with rfl | ⟨n, rfl⟩
    · exact ⟨(0, 0), by rw [heap_alloc]; exact if_pos rfl⟩
    · refine ⟨(n, n + 1), ?_⟩
      rw [heap_freeze, if_pos ⟨by simp, rfl⟩, heap_alloc, show w.drew.heap.size = w.heap.size from rfl, if_pos rfl]
      rfl
  obtain ⟨fr, hat⟩ := hat
  have hold : ∀ j, j < w.heap.size → w'.heap[j]? = w.heap[j]? := by
    intro j hj
    rcases hw with rfl | ⟨n, rfl⟩
    · rw [heap_alloc_lt (show j < w.drew.heap.size from hj)]; rfl
    · rw [heap_freeze, if_neg (by simp; omega), heap_alloc_lt (show j < w.drew.heap.size from hj)]; rfl
  have hf : ∀ (u : World) (A : Addr), (u.freeze A 1).os = u.os ∧ (u.freeze A 1).tape = u.tape ∧ (u.freeze A 1).output = u.output := fun u A => by simp [World.freeze]
  obtain ⟨s1, s2, s3⟩ := h.addPhi hi hold hat hcur (by rcases hw with rfl | ⟨n, rfl⟩; rfl; exact (hf _ _).1) (by rcases hw with rfl | ⟨n, rfl⟩; rfl; exact (hf _ _).2.1) (by rcases hw with rfl | ⟨n, rfl⟩; rfl; exact (hf _ _).2.2)
  refine loud_of_run hkk hrun ?_ s1 s2 s3 (Keeps.addPhi h hold)
  simp only [VR]
  exact LR.ofFlat (e := .int k) (xs := l) ((LRs.ofInts k l).mono s3) hcap fun k v hv => Phi.add_at hv
theorem bytesOf_map (s : ByteArray) : (s.data.map fun b : UInt8 => Value.int .u8 b.toNat).toList = (bytesOf s).map (Value.int .u8) := by
  rw [Array.toList_map, bytesOf, List.map_map]; rfl
theorem shape_alloc (w : World) (cur : Array Value) (te : TypeId) : (w.alloc (.cells cur te)).shape? w.heap.size = some (te, cur.size) := by
  have : (w.alloc (.cells cur te)).heap[w.heap.size]? = some (.cells cur te (0, 0)) := by rw [heap_alloc, if_pos rfl]
  simp only [World.shape?, this]
theorem l_toRow (h : St C E st a w) (hi : Inv S E0 w0 m E w) {src dst : TypeId} {x : Operand} (hop : o.op = .convert src dst x) {k : IntKind} {te : TypeId} {l : List Int} {n : Nat} (hn : n = l.length) {conv : Sem Value}
    (hc : (convert src dst (a.eval x)).run C.P w = conv.run C.P w) (elems : Array Value) (hel : elems.toList = l.map (Value.int k)) (z : Value) (mk : Addr → Sem Unit) (hmk : (mk = fun _ => pure ()) ∨ mk = markStringish)
    (hcv : conv = do
      let cap ← choose (.appendCap n 0 te)
      let a ← newRow te (elems ++ Array.replicate (cap - n) z)
      mk a
      pure (.slice (some a) n cap))
    (hkk : K (.d ⟨.rows (.int k), l⟩) st = some r) : Loud C S E0 w0 m E st a w o K r := by
  subst hn
  have hes : elems.size = l.length := by have := congrArg List.length hel; simpa using this
  have hrun : ∀ w', (mk ⟨w.heap.size, 0, none⟩).run C.P (w.drew.alloc (.cells (elems ++ Array.replicate (grownCap w l.length 0 te - l.length) z) te)) = .ok () w' →
      (execOp a.eval o).run C.P w = .ok (.value (.slice (some ⟨w.heap.size, 0, none⟩) l.length (grownCap w l.length 0 te))) w' := fun w' hw' => by
    simp only [execOp, hop, Sem.run_bind, hc, hcv, run_choose_drew, Question.forced, Bool.false_eq_true, if_false, Result.andThen_ok, newRow, run_newObj_alloc, Sem.run_pure]
    show ((((mk ⟨w.heap.size, 0, none⟩).run C.P (w.drew.alloc (.cells (elems ++ Array.replicate (grownCap w l.length 0 te - l.length) z) te))).andThen _).andThen _) = _
    rw [hw']
    rfl
  have hcur : ∀ (j : Nat) (u : Value), (l.map (Value.int k))[j]? = some u → (elems ++ Array.replicate (grownCap w l.length 0 te - l.length) z)[j]? = some u := by
    intro j u hu
    rw [← hel] at hu
    have hlt : j < elems.size := by have := (List.getElem?_eq_some_iff.1 hu).1; simpa using this
    rw [Array.getElem?_append_left hlt]
    simpa using hu
  have hcap : l.length ≤ grownCap w l.length 0 te := by simp [grownCap, Question.cut]
  rcases hmk with rfl | rfl
  · exact l_fromStr h hi hcur hcap (.inl rfl) (hrun _ rfl) hkk
  · refine l_fromStr h hi (te := te) hcur hcap (.inr ⟨(elems ++ Array.replicate (grownCap w l.length 0 te - l.length) z).size, rfl⟩) (hrun _ ?_) hkk
    · simp only [markStringish, Sem.run_bind, run_shape]
      rw [show (w.drew.alloc (.cells (elems ++ Array.replicate (grownCap w l.length 0 te - l.length) z) te)).shape? w.heap.size = some (te, (elems ++ Array.replicate (grownCap w l.length 0 te - l.length) z).size) from shape_alloc w.drew _ te]
      simp only [Result.andThen_ok, run_freeze]
theorem l_toBytes (h : St C E st a w) (hi : Inv S E0 w0 m E w) (src dst : TypeId) (x : Operand) (hop : o.op = .convert src dst x) {te : TypeId} {s : ByteArray} (hx : evO C st x = .v (.string s))
    (hs : (C.P.underlying src).isSome = true) (hd : C.P.underlying dst = some (.slice te)) (he : C.P.underlying te = some (.int .u8)) (hkk : K (.d ⟨.rows (.int .u8), bytesOf s⟩) st = some r) : Loud C S E0 w0 m E st a w o K r := by
  obtain ⟨ds, hs⟩ := Option.isSome_iff_exists.1 hs
  have hv := h.eval x
  rw [hx] at hv
  simp only [VR] at hv
  refine l_toRow h hi hop (n := s.size) (by rw [bytesOf, List.length_map]; rfl) (conv := Conv.stringToBytes te s) ?_ (s.data.map fun b : UInt8 => Value.int .u8 b.toNat) (bytesOf_map s) (.int .u8 0) markStringish (.inr rfl) rfl hkk
  simp only [convert, hv, Sem.run_bind, run_underlying hs, run_underlying hd, Result.andThen_ok]
  cases ds <;> simp [run_underlying he]
theorem runesFrom_ints (s : ByteArray) : ∀ (n i : Nat) (acc : Array Value), (∀ v ∈ acc.toList, ∃ k : Int, v = .int .i32 k) → ∀ v ∈ (Conv.runesFrom s n i acc).toList, ∃ k : Int, v = .int .i32 k
  | 0, i, acc, h => h
  | n + 1, i, acc, h => by
    simp only [Conv.runesFrom]
    split
    · refine runesFrom_ints s n _ _ fun v hv => ?_
      simp only [Array.toList_push, List.mem_append, List.mem_singleton] at hv
      rcases hv with hv | rfl
      · exact h v hv
      · exact ⟨_, rfl⟩
    · exact h
theorem runesOf_map (s : ByteArray) : (Conv.runesFrom s s.size 0 #[]).toList = (runesOf s).map (Value.int .i32) := by
  have h := runesFrom_ints s s.size 0 #[] (by simp)
  unfold runesOf
  generalize (Conv.runesFrom s s.size 0 #[]).toList = l at h
  induction l with
  | nil => rfl
  | cons v l ih =>
    obtain ⟨k, rfl⟩ := h v (by simp)
    simp only [List.map_cons]
    rw [← ih fun u hu => h u (by simp [hu])]
theorem l_toRunes (h : St C E st a w) (hi : Inv S E0 w0 m E w) (src dst : TypeId) (x : Operand) (hop : o.op = .convert src dst x) {te : TypeId} {s : ByteArray} (hx : evO C st x = .v (.string s))
    (hs : (C.P.underlying src).isSome = true) (hd : C.P.underlying dst = some (.slice te)) (he : C.P.underlying te = some (.int .i32)) (hkk : K (.d ⟨.rows (.int .i32), runesOf s⟩) st = some r) : Loud C S E0 w0 m E st a w o K r := by
  obtain ⟨ds, hs⟩ := Option.isSome_iff_exists.1 hs
  have hv := h.eval x
  rw [hx] at hv
  simp only [VR] at hv
  refine l_toRow h hi hop (n := (Conv.runesFrom s s.size 0 #[]).size) (by have := congrArg List.length (runesOf_map s); simpa using this) (conv := Conv.stringToRunes te s) ?_ (Conv.runesFrom s s.size 0 #[]) (runesOf_map s) (.int .i32 0) (fun _ => pure ()) (.inl rfl) rfl hkk
  simp only [convert, hv, Sem.run_bind, run_underlying hs, run_underlying hd, Result.andThen_ok]
  cases ds <;> simp [run_underlying he]
end
end Go.Proofs.Ev
