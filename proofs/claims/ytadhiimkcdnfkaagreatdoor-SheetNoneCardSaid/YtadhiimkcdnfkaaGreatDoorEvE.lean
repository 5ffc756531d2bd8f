/-
  An evaluator by value of the model of the program, proved sound, and what it shows of this law: part EvE.
-/
import Derived.Test.YtadhiimkcdnfkaaGreatDoorEvD
import Derived.Lib.UnsafeStr
import Derived.Lib.Builder
namespace Go.Proofs.Ev
open Go
set_option linter.unusedVariables false
set_option linter.unusedSimpArgs false
variable {ρ : Type}
section
variable {C : Cfg} {E E0 : Env} {st : AS} {a : Act} {w w0 : World} {o : Oper} {K : AV → AS → Option ρ} {r : ρ} {S : Nat → Prop} {m : Nat}
/-- What is appended. -/
structure Src (P : Program) (w : World) (size : Nat) (x : Value) (k : Nat) (news : List Value) : Prop where
  first : ∀ w', w'.heap = w.heap → (Builtin.firstCells size k x).run P w' = .ok news.toArray w'
  len : ∀ w', (Builtin.lenOf x).run P w' = .ok k w'
  length : news.length = k * size
  one : ∀ u ∈ news, oneV u = true
theorem LRs.one {Φ : Phi} : ∀ {l : List Lf} {vs : List Value}, LRs Φ l vs → ∀ u ∈ vs, oneV u = true
  | [], [], _, u, h => by simp at h
  | [], _ :: _, h, _, _ => by simp only [LRs] at h
  | _ :: _, [], h, _, _ => by simp only [LRs] at h
  | x :: l, v :: vs, h, u, hu => by
    simp only [LRs] at h
    rcases List.mem_cons.1 hu with rfl | hu
    · exact LR.cellsOf1 h.1
    · exact LRs.one h.2 u hu
theorem phi_heap {Φ : Phi} {w w' : World} (h : PhiOk Φ w) (e : w'.heap = w.heap) : PhiOk Φ w' := fun b o v hv => by rw [e]; exact h b o v hv
theorem src_row {P : Program} {Φ : Phi} {w : World} (hp : PhiOk Φ w) {e : Ty} {ys : List e.T} {x : Value} (h : LR Φ ⟨.rows e, ys⟩ x) : ∃ news, LRs Φ (ys.flatMap (cells e)) news ∧ Src P w e.size x ys.length news := by
  obtain ⟨A, c, vs, rfl, hl, hc⟩ := h.rowCells
  have hlen : vs.length = ys.length * e.size := by rw [hl.length, flat_length]
  refine ⟨vs, hl, fun w' hw' => ?_, fun w' => rfl, hlen, hl.one⟩
  rcases hc with h0 | ⟨b, off, rfl, _, hcell⟩
  · have : vs = [] := List.eq_nil_of_length_eq_zero (by rw [hlen, h0]; simp)
    subst this
    rw [h0]
    cases A with
    | none => rfl
    | some A => simp [Builtin.firstCells, loadCells, loadCellsFrom]
  · have := phi_cell (phi_heap hp hw') hcell P
    simp only [Builtin.firstCells]
    rwa [hlen] at this
theorem src_str {P : Program} {w : World} (s : ByteArray) : Src P w 1 (.string s) s.size ((bytesOf s).map (Value.int .u8)) where
  first := fun w' _ => by
    rw [← bytesOf_map]
    simp only [Builtin.firstCells, Sem.run_pure]
    have : (s.extract 0 s.size) = s := by
      apply ByteArray.ext
      simp
    rw [this]
  len := fun w' => rfl
  length := by rw [List.length_map, bytesOf, List.length_map, Nat.mul_one]; rfl
  one := fun u hu => by
    obtain ⟨n, _, rfl⟩ := List.mem_map.1 hu
    rfl
theorem notInt_some {P : Program} {u : TypeId} (h : notInt P u = true) : P.underlying u = some .string ∨ ∃ e, P.underlying u = some (.slice e) := by
  unfold notInt at h
  split at h
  · exact .inr ⟨_, ‹_›⟩
  · exact .inl ‹_›
  · cases h
section
variable {P : Program} {t u ty te : TypeId} {i : TypeInfo} {z : Value} {x : Value} {k : Nat} {news : List Value}
theorem append_room (ht : P.underlying t = some (.slice te)) (hu : notInt P u = true) (hi : P.info? te = some i) (hs : Src P w i.size x k news) {g n cap : Nat} {cur : Array Value} (hg : w.heap[g]? = some (.cells cur te (0, 0)))
    (hroom : n + k ≤ cap) (hcur : cur.size = cap * i.size) : (Builtin.append_ #[t, u] ty #[.slice (some ⟨g, 0, none⟩) n cap, x]).run P w = .ok (.slice (some ⟨g, 0, none⟩) (n + k) cap) (World.putCells w g (n * i.size) news) := by
  have hfit : n * i.size + news.length ≤ cur.size := by rw [hs.length, hcur, ← Nat.add_mul]; exact Nat.mul_le_mul_right _ hroom
  have hst := run_storeCells P g (n * i.size) te (0, 0) news 0 w cur hg hs.one (by omega) (by simp)
  simp only [Nat.add_zero] at hst
  rcases notInt_some hu with hd | ⟨d, hd⟩ <;>
    simp [Builtin.append_, run_underlying ht, run_underlying hd, sizeOf, typeInfo, hi, hs.len, hroom, hs.first w rfl, add_off, hst]
theorem append_none (ht : P.underlying t = some (.slice te)) (hu : notInt P u = true) (hi : P.info? te = some i) (hs : Src P w i.size x 0 news) (A : Option Addr) (cap : Nat) : (Builtin.append_ #[t, u] ty #[.slice A 0 cap, x]).run P w = .ok (.slice A 0 cap) w := by
  have : news = [] := List.eq_nil_of_length_eq_zero (by rw [hs.length]; simp)
  subst this
  have hf := hs.first w rfl
  rcases notInt_some hu with hd | ⟨d, hd⟩ <;>
    cases A <;> simp [Builtin.append_, run_underlying ht, run_underlying hd, sizeOf, typeInfo, hi, hs.len, hf, storeCells]
theorem fitsB_some {P : Program} {te : TypeId} {i : TypeInfo} {n : Nat} (hi : P.info? te = some i) (h : fitsB P te n = true) : n * i.bytes ≤ 140737488355328 ∧ n ≤ 140737488355328 := by
  simp only [fitsB, hi, Bool.and_eq_true] at h
  exact ⟨Nat.le_of_ble_eq_true h.1, Nat.le_of_ble_eq_true h.2⟩
theorem append_grow (ht : P.underlying t = some (.slice te)) (hu : notInt P u = true) (hi : P.info? te = some i) (hz : i.zero = some z) (hs : Src P w i.size x k news) {A : Option Addr} {n cap : Nat} {olds : List Value}
    (hold : ∀ w', w'.heap = w.heap → (Builtin.firstCells i.size n (.slice A n cap)).run P w' = .ok olds.toArray w') (hroom : cap < n + k) (hb : i.bytes ≤ 128) (hsm : fitsB P te (n + k) = true) :
    (Builtin.append_ #[t, u] ty #[.slice A n cap, x]).run P w = .ok (.slice (some ⟨w.heap.size, 0, none⟩) (n + k) (grownCap w (n + k) cap te))
      (w.drew.alloc (.cells (olds.toArray ++ (news.toArray ++ Builtin.zeroCells z.cells (grownCap w (n + k) cap te - (n + k)))) te)) := by
  obtain ⟨hsm1, hsm⟩ := fitsB_some hi hsm
  have hfit : Builtin.nextslicecap (n + k) cap * i.bytes ≤ 281474976710656 := growslice_fits hroom hsm1
  have h1 : ¬ (n + k ≤ cap) := by omega
  have h63 : ¬ (9223372036854775807 < ((n : Int) + (k : Int))) := by omega
  have h48 : ¬ (281474976710656 < Builtin.nextslicecap (n + k) cap * i.bytes) := by omega
  have hf := hs.first w.drew rfl
  have hfo := hold w.drew rfl
  rcases notInt_some hu with hd | ⟨d, hd⟩ <;>
    simp [Builtin.append_, run_underlying ht, run_underlying hd, sizeOf, typeInfo, zeroValue, hi, hz, hs.len, h1, h63, h48, Question.forced, hf, hfo, newRow, grownCap]
end
theorem killS_s (L : List Nat) (st : AS) (t : Nat) : lk (killS L st).s t = (lk st.s t).map (AV.kill L) := lk_map _ _ _
theorem killS_t (L : List Nat) (st : AS) (t : Nat) : lk (killS L st).t t = (lk st.t t).map (Res.kill L) := lk_map _ _ _
theorem St.kill (h : St C E st a w) (L : List Nat) : St C E (killS L st) a w where
  mr := (h.mr.kill L).congr fun r => killS_t L st r
  sl := fun t x hx => by
    rw [killS_s] at hx
    obtain ⟨y, hy, rfl⟩ := Option.map_eq_some_iff.1 hx
    obtain ⟨v, h1, h2⟩ := h.sl t y hy
    exact ⟨v, h1, (VR.kill L y v h2).1⟩
  n := h.n
  df := h.df
  gl := h.gl
theorem St.kill_s (h : St C E st a w) (L : List Nat) : ∀ t x, lk (killS L st).s t = some x → ∀ r ∈ x.sls, r ∉ L := fun t x hx => by
  rw [killS_s] at hx
  obtain ⟨y, hy, rfl⟩ := Option.map_eq_some_iff.1 hx
  obtain ⟨v, h1, h2⟩ := h.sl t y hy
  exact (VR.kill L y v h2).2
theorem St.kill_t (h : St C E st a w) (L : List Nat) : ∀ t x, lk (killS L st).t t = some x → ∀ r ∈ x.sls, r ∉ L := fun t x hx => by
  rw [killS_t] at hx
  obtain ⟨y, hy, rfl⟩ := Option.map_eq_some_iff.1 hx
  exact (Res.kill_sls (h.mr.res t y hy)).2
theorem Keeps.kill {W L : List Nat} {st' : AS} {E' : Env} {w' : World} (h : Keeps W (killS L st) E w st' E' w') : Keeps W st E w st' E' w' := fun k x hk hm hW => h k (x.kill L) (by rw [killS_t, hk]; rfl) (by cases x <;> first | rfl | cases hm) hW
/-- A row that is and stays empty. -/
theorem St.row0 (h : St C E st a w) (hi : Inv S E0 w0 m E w) {k : Nat} {te : TypeId} {e : Ty} (hty : C.ty te = some e) (hb : E.blk k = none) (hnm : ∀ t x, lk st.s t = some x → k ∉ x.sls) (hnt : ∀ j x, lk st.t j = some x → j ≠ k → k ∉ x.sls) (A : Option Addr) :
    ∃ E', St C E' { st with t := setr st.t k (.row te e []) } a w ∧ Inv S E0 w0 m E' w ∧ VR E' (.sl k) (.slice A 0 0) ∧ E.Φ.le E'.Φ ∧ ((∀ x, lk st.t k = some x → x.mut = false) → ∀ W, Keeps W st E w { st with t := setr st.t k (.row te e []) } E' w) := by
  refine ⟨{ E with rowv := fun j => if j = k then some (.slice A 0 0) else E.rowv j, own := fun j b => j ≠ k ∧ E.own j b }, ?_, ?_, ?_, Phi.le_refl _, fun hnb W j x hj hm _ => ?_⟩
  · have le : E.le { E with rowv := fun j => if j = k then some (.slice A 0 0) else E.rowv j, own := fun j b => j ≠ k ∧ E.own j b } (· ≠ k) := ⟨fun _ _ h => h, fun j v hj hv => by simp only; rw [if_neg hj]; exact hv, Phi.le_refl _⟩
    refine h.of (R := (· ≠ k)) ((h.mr.upd k (.row te e []) le (fun j x hj hjk i hi e => hnt j x hj hjk (e ▸ hi)) (fun _ _ => rfl) (fun j hj => by simp [hj]) (fun j b hj => by simp [hj]) (fun _ _ _ _ => ⟨rfl, fun _ => rfl⟩) h.mr.phi ?_ ?_ (Nat.le_refl _) ?_).congr fun r => lk_setr ..) le (fun t x hx j hj => by rintro rfl; exact hnm t x hx hj)
    · exact ⟨hb, hty, A, 0, by simp, .row0 _ _ _, .inl rfl⟩
    · intro b hb; exact absurd rfl hb.1
    · intro j b hj _ hb; exact absurd rfl hb.1
  · exact ⟨hi.m40, hi.os, hi.tape, hi.output, hi.size, hi.keep, fun j b hj => hi.own j b hj.2, hi.phi, hi.new, hi.fb⟩
  · simp only [VR, if_true]
    exact ⟨trivial, _, _, _, rfl⟩
  · have hne : j ≠ k := fun e => by subst e; rw [hnb x hj] at hm; cases hm
    refine ⟨⟨x, ?_, hm⟩, fun d hd => ⟨⟨hne, hd⟩, rfl⟩⟩
    show lk (setr st.t k (.row te e [])) j = _
    rw [lk_setr, if_neg hne, hj]
theorem size_zeroCells' (z : Array Value) (n : Nat) : (Builtin.zeroCells z n).size = n * z.size := size_zeroCells z n
theorem append_core (h : St C E st a w) (hi : Inv S E0 w0 m E w) {k : Nat} {te : TypeId} {e : Ty} {xs ys : List e.T} {A : Option Addr} {cap : Nat} {vs news : List Value} {t u ty : TypeId} {x : Value}
    (ht : C.P.underlying t = some (.slice te)) (hu : notInt C.P u = true) (hr : rowTy C.P te e = true) (hty : C.ty te = some e) (hsm : fitsB C.P te (xs.length + ys.length) = true)
    (hb : E.blk k = none) (hnm : ∀ t x, lk st.s t = some x → k ∉ x.sls) (hnt : ∀ j x, lk st.t j = some x → j ≠ k → k ∉ x.sls) (hnb : ∀ x, lk st.t k = some x → x.mut = false)
    (hvs : LRs E.Φ (xs.flatMap (cells e)) vs) (hns : LRs E.Φ (ys.flatMap (cells e)) news) (hs : Src C.P w e.size x ys.length news)
    (hA : (xs = [] ∧ cap = 0) ∨ ∃ g cur, A = some ⟨g, 0, none⟩ ∧ E.own k g ∧ w.heap[g]? = some (.cells cur te (0, 0)) ∧ cur.size = cap * e.size ∧ xs.length ≤ cap ∧ (∀ o, xs.length * e.size ≤ o → E.Φ g o = none) ∧
      ∀ (j : Nat) (v : Value), vs[j]? = some v → E.Φ g j = some v) :
    ∃ v E' w', (Builtin.append_ #[t, u] ty #[.slice A xs.length cap, x]).run C.P w = .ok v w' ∧ St C E' { st with t := setr st.t k (.row te e (xs ++ ys)) } a w' ∧ Inv S E0 w0 m E' w' ∧ VR E' (.sl k) v ∧ E.Φ.le E'.Φ ∧ ∀ W, Keeps W st E w { st with t := setr st.t k (.row te e (xs ++ ys)) } E' w' := by
  obtain ⟨i, z, e1, e2, e3, e4, e5, e6⟩ := rowTy_some hr
  have hlv : vs.length = xs.length * e.size := by rw [hvs.length, flat_length]
  have hl : LRs E.Φ ((xs ++ ys).flatMap (cells e)) (vs ++ news) := by rw [List.flatMap_append]; exact hvs.append hns
  have fin : ∀ (g cap' : Nat) (Φ : Phi), VR (E.setRow k g (.slice (some ⟨g, 0, none⟩) (xs ++ ys).length cap') Φ) (.sl k) (.slice (some ⟨g, 0, none⟩) (xs.length + ys.length) cap') := fun g cap' Φ => by
    simp only [VR, Env.setRow, if_true, List.length_append]
    exact ⟨trivial, _, _, _, rfl⟩
  have grow : ∀ (hold : ∀ w', w'.heap = w.heap → (Builtin.firstCells i.size xs.length (.slice A xs.length cap)).run C.P w' = .ok vs.toArray w') (hroom : cap < xs.length + ys.length),
      ∃ v E' w', (Builtin.append_ #[t, u] ty #[.slice A xs.length cap, x]).run C.P w = .ok v w' ∧ St C E' { st with t := setr st.t k (.row te e (xs ++ ys)) } a w' ∧ Inv S E0 w0 m E' w' ∧ VR E' (.sl k) v ∧ E.Φ.le E'.Φ ∧ ∀ W, Keeps W st E w { st with t := setr st.t k (.row te e (xs ++ ys)) } E' w' := by
    intro hold hroom
    have hrun := append_grow (ty := ty) ht hu e1 e2 (by rw [e3]; exact hs) hold hroom e6 hsm
    have hge := grownCap_ge w (xs.length + ys.length) cap te
    obtain ⟨s1, s2⟩ := h.setRow hi (k := k) (g := w.heap.size) (te := te) (e := e) (xs := xs ++ ys) (cap := grownCap w (xs.length + ys.length) cap te) (vs := vs ++ news)
      (w' := w.drew.alloc (.cells (vs.toArray ++ (news.toArray ++ Builtin.zeroCells z.cells (grownCap w (xs.length + ys.length) cap te - (xs.length + ys.length)))) te)) (cur := vs.toArray ++ (news.toArray ++ Builtin.zeroCells z.cells (grownCap w (xs.length + ys.length) cap te - (xs.length + ys.length))))
      hty hb hnm hnt (by rw [heap_alloc]; exact if_pos rfl) (by
        simp only [Array.size_append, List.size_toArray, size_zeroCells, e4, hlv, hs.length, ← Nat.add_mul]
        congr 1; omega) (by rw [List.length_append]; exact hge) hl
      (fun j v hv => by
        have : (vs.toArray ++ (news.toArray ++ Builtin.zeroCells z.cells (grownCap w (xs.length + ys.length) cap te - (xs.length + ys.length)))).toList[j]? = some v := by
          simp only [Array.toList_append, ← List.append_assoc]
          rw [List.getElem?_append_left (List.getElem?_eq_some_iff.1 hv).1]
          exact hv
        rwa [Array.getElem?_toList] at this)
      (fun o v hv => by rw [h.mr.phi.none (Nat.le_refl _)] at hv; cases hv) (fun j hj hlt => by rw [heap_alloc]; exact if_neg hj) (by simp) (.inr (Nat.le_refl _)) rfl rfl rfl
    exact ⟨_, _, _, hrun, s1, s2, fin _ _ _, Phi.add_le (fun o v hv => by rw [h.mr.phi.none (Nat.le_refl _)] at hv; cases hv), fun W => Keeps.setRow h (.inl hnb) (fun j hj hlt => by rw [heap_alloc]; exact if_neg hj) (.inr (Nat.le_refl _))⟩
  rcases hA with ⟨rfl, rfl⟩ | ⟨g, cur, rfl, ho, hg, hcs, hcap, hΦn, hΦ⟩
  · have hv0 : vs = [] := List.eq_nil_of_length_eq_zero (by rw [hlv]; simp)
    subst hv0
    by_cases hy : ys = []
    · subst hy
      have hrun := append_none (ty := ty) (P := C.P) (w := w) ht hu e1 (by rw [e3]; exact hs) A 0
      obtain ⟨E', s1, s2, s3, s4, s5⟩ := h.row0 hi hty hb hnm hnt A
      exact ⟨_, E', w, hrun, s1, s2, s3, s4, s5 hnb⟩
    · refine grow (fun w' _ => ?_) ?_
      · cases A <;> simp [Builtin.firstCells, loadCells, loadCellsFrom]
      · have := List.length_pos_iff.2 hy
        simp; omega
  · have hcell : ∀ (j : Nat) (v : Value), vs[j]? = some v → cur[j]? = some v := fun j v hv => by
      obtain ⟨c, T, fr, q1, q2⟩ := h.mr.phi g j v (hΦ j v hv)
      rw [hg] at q1
      injection q1 with q1
      injection q1 with q1
      subst q1
      exact q2
    by_cases hroom : xs.length + ys.length ≤ cap
    · have hrun := append_room (ty := ty) ht hu e1 (by rw [e3]; exact hs) hg hroom (by rw [e3]; exact hcs)
      rw [e3] at hrun
      have hput := heap_putCells_same (off := xs.length * e.size) (vs := news) hg
      have hfit : xs.length * e.size + news.length ≤ cur.size := by rw [hs.length, hcs, ← Nat.add_mul]; exact Nat.mul_le_mul_right _ hroom
      have htake : cur.toList.take (xs.length * e.size) = vs := by
        apply List.ext_getElem?
        intro j
        rw [List.getElem?_take]
        split
        · rename_i hj
          have hj' : j < vs.length := by omega
          have := hcell j vs[j] (List.getElem?_eq_getElem hj')
          rw [List.getElem?_eq_getElem hj']
          simpa using this
        · rw [List.getElem?_eq_none (by omega)]
      have hold' : ∀ (j : Nat) (v : Value), E.Φ g j = some v → (vs ++ news)[j]? = some v := fun j v hv => by
          by_cases hj : j < vs.length
          · rw [List.getElem?_append_left hj]
            have := hΦ j vs[j] (List.getElem?_eq_getElem hj)
            rw [hv] at this
            rw [List.getElem?_eq_getElem hj, this]
          · rw [hΦn j (by omega)] at hv; cases hv
      obtain ⟨s1, s2⟩ := h.setRow hi (k := k) (g := g) (te := te) (e := e) (xs := xs ++ ys) (cap := cap) (vs := vs ++ news) (w' := World.putCells w g (xs.length * e.size) news) hty hb hnm hnt hput
        (by simp only [List.size_toArray, List.length_append, List.length_take, List.length_drop, Array.length_toList]; omega) (by rw [List.length_append]; exact hroom) hl
        (fun j v hv => by
          rw [htake]
          have : (vs ++ news ++ cur.toList.drop (xs.length * e.size + news.length))[j]? = some v := by
            rw [List.getElem?_append_left (List.getElem?_eq_some_iff.1 hv).1]
            exact hv
          simpa using this)
        hold' (fun j hj _ => heap_putCells j hj) (by rw [size_putCells]; exact Nat.le_refl _) (.inl ho) rfl rfl rfl
      exact ⟨_, _, _, hrun, s1, s2, fin _ _ _, Phi.add_le hold', fun W => Keeps.setRow h (.inl hnb) (fun j hj _ => heap_putCells j hj) (.inl ho)⟩
    · refine grow (fun w' hw' => ?_) (by omega)
      simp only [Builtin.firstCells]
      rw [e3, ← hlv]
      exact run_loadCells C.P w' g 0 vs fun j v hv => ⟨cur, te, (0, 0), by rw [hw', hg], by rw [Nat.zero_add]; exact hcell j v hv⟩
/-- The same of a row that is written in place. -/
theorem append_coreA (h : St C E st a w) (hi : Inv S E0 w0 m E w) {k : Nat} {te : TypeId} {e : Ty} {xs ys : List e.T} {A : Option Addr} {cap : Nat} {vs news : List Value} {t u ty : TypeId} {x : Value} {W : List Nat}
    (ht : C.P.underlying t = some (.slice te)) (hu : notInt C.P u = true) (hr : rowTy C.P te e = true) (hty : C.ty te = some e) (hsm : fitsB C.P te (xs.length + ys.length) = true)
    (hb : E.blk k = none) (hnm : ∀ t x, lk st.s t = some x → k ∉ x.sls) (hnt : ∀ j x, lk st.t j = some x → j ≠ k → k ∉ x.sls) (hnb : (∀ x, lk st.t k = some x → x.mut = false) ∨ k ∈ W)
    (hvs : LRs E.Φ (xs.flatMap (cells e)) vs) (hns : LRs E.Φ (ys.flatMap (cells e)) news) (hs : Src C.P w e.size x ys.length news)
    (hA : (xs = [] ∧ cap = 0 ∧ ys ≠ []) ∨ ∃ g cur, A = some ⟨g, 0, none⟩ ∧ E.own k g ∧ w.heap[g]? = some (.cells cur te (0, 0)) ∧ cur.size = cap * e.size ∧ xs.length ≤ cap ∧ (∀ o, E.Φ g o = none) ∧
      ∀ (j : Nat) (v : Value), vs[j]? = some v → cur[j]? = some v) :
    ∃ v E' w', (Builtin.append_ #[t, u] ty #[.slice A xs.length cap, x]).run C.P w = .ok v w' ∧ St C E' { st with t := setr st.t k (.arr te e (xs ++ ys)) } a w' ∧ Inv S E0 w0 m E' w' ∧ VR E' (.sl k) v ∧ E.Φ.le E'.Φ ∧ Keeps W st E w { st with t := setr st.t k (.arr te e (xs ++ ys)) } E' w' := by
  obtain ⟨i, z, e1, e2, e3, e4, e5, e6⟩ := rowTy_some hr
  have hlv : vs.length = xs.length * e.size := by rw [hvs.length, flat_length]
  have hl : LRs E.Φ ((xs ++ ys).flatMap (cells e)) (vs ++ news) := by rw [List.flatMap_append]; exact hvs.append hns
  have fin : ∀ (g cap' : Nat), VR (E.setRow k g (.slice (some ⟨g, 0, none⟩) (xs ++ ys).length cap') E.Φ) (.sl k) (.slice (some ⟨g, 0, none⟩) (xs.length + ys.length) cap') := fun g cap' => by
    simp only [VR, Env.setRow, if_true, List.length_append]
    exact ⟨trivial, _, _, _, rfl⟩
  have grow : ∀ (hold : ∀ w', w'.heap = w.heap → (Builtin.firstCells i.size xs.length (.slice A xs.length cap)).run C.P w' = .ok vs.toArray w') (hroom : cap < xs.length + ys.length),
      ∃ v E' w', (Builtin.append_ #[t, u] ty #[.slice A xs.length cap, x]).run C.P w = .ok v w' ∧ St C E' { st with t := setr st.t k (.arr te e (xs ++ ys)) } a w' ∧ Inv S E0 w0 m E' w' ∧ VR E' (.sl k) v ∧ E.Φ.le E'.Φ ∧ Keeps W st E w { st with t := setr st.t k (.arr te e (xs ++ ys)) } E' w' := by
    intro hold hroom
    have hrun := append_grow (ty := ty) ht hu e1 e2 (by rw [e3]; exact hs) hold hroom e6 hsm
    have hge := grownCap_ge w (xs.length + ys.length) cap te
    obtain ⟨s1, s2⟩ := h.setArr hi (k := k) (g := w.heap.size) (te := te) (e := e) (xs := xs ++ ys) (cap := grownCap w (xs.length + ys.length) cap te) (vs := vs ++ news)
      (w' := w.drew.alloc (.cells (vs.toArray ++ (news.toArray ++ Builtin.zeroCells z.cells (grownCap w (xs.length + ys.length) cap te - (xs.length + ys.length)))) te)) (cur := vs.toArray ++ (news.toArray ++ Builtin.zeroCells z.cells (grownCap w (xs.length + ys.length) cap te - (xs.length + ys.length))))
      hty hb hnm hnt (by rw [heap_alloc]; exact if_pos rfl) (by
        simp only [Array.size_append, List.size_toArray, size_zeroCells, e4, hlv, hs.length, ← Nat.add_mul]
        congr 1; omega) (by rw [List.length_append]; exact hge) hl
      (fun j v hv => by
        have : (vs.toArray ++ (news.toArray ++ Builtin.zeroCells z.cells (grownCap w (xs.length + ys.length) cap te - (xs.length + ys.length)))).toList[j]? = some v := by
          simp only [Array.toList_append, ← List.append_assoc]
          rw [List.getElem?_append_left (List.getElem?_eq_some_iff.1 hv).1]
          exact hv
        rwa [Array.getElem?_toList] at this)
      (fun o => h.mr.phi.none (Nat.le_refl _) o) (fun j hj hlt => by rw [heap_alloc]; exact if_neg hj) (by simp) (.inr (Nat.le_refl _)) rfl rfl rfl
    exact ⟨_, _, _, hrun, s1, s2, fin _ _, Phi.le_refl _, Keeps.setRow h hnb (fun j hj hlt => by rw [heap_alloc]; exact if_neg hj) (.inr (Nat.le_refl _))⟩
  rcases hA with ⟨rfl, rfl, hy⟩ | ⟨g, cur, rfl, ho, hg, hcs, hcap, hΦn, hcell⟩
  · have hv0 : vs = [] := List.eq_nil_of_length_eq_zero (by rw [hlv]; simp)
    subst hv0
    refine grow (fun w' _ => ?_) ?_
    · cases A <;> simp [Builtin.firstCells, loadCells, loadCellsFrom]
    · have := List.length_pos_iff.2 hy
      simp; omega
  · by_cases hroom : xs.length + ys.length ≤ cap
    · have hrun := append_room (ty := ty) ht hu e1 (by rw [e3]; exact hs) hg hroom (by rw [e3]; exact hcs)
      rw [e3] at hrun
      have hput := heap_putCells_same (off := xs.length * e.size) (vs := news) hg
      have hfit : xs.length * e.size + news.length ≤ cur.size := by rw [hs.length, hcs, ← Nat.add_mul]; exact Nat.mul_le_mul_right _ hroom
      have htake : cur.toList.take (xs.length * e.size) = vs := by
        apply List.ext_getElem?
        intro j
        rw [List.getElem?_take]
        split
        · rename_i hj
          have hj' : j < vs.length := by omega
          have := hcell j vs[j] (List.getElem?_eq_getElem hj')
          rw [List.getElem?_eq_getElem hj']
          simpa using this
        · rw [List.getElem?_eq_none (by omega)]
      obtain ⟨s1, s2⟩ := h.setArr hi (k := k) (g := g) (te := te) (e := e) (xs := xs ++ ys) (cap := cap) (vs := vs ++ news) (w' := World.putCells w g (xs.length * e.size) news) hty hb hnm hnt hput
        (by simp only [List.size_toArray, List.length_append, List.length_take, List.length_drop, Array.length_toList]; omega) (by rw [List.length_append]; exact hroom) hl
        (fun j v hv => by
          rw [htake]
          have : (vs ++ news ++ cur.toList.drop (xs.length * e.size + news.length))[j]? = some v := by
            rw [List.getElem?_append_left (List.getElem?_eq_some_iff.1 hv).1]
            exact hv
          simpa using this)
        hΦn (fun j hj _ => heap_putCells j hj) (by rw [size_putCells]; exact Nat.le_refl _) (.inl ho) rfl rfl rfl
      exact ⟨_, _, _, hrun, s1, s2, fin _ _, Phi.le_refl _, Keeps.setRow h hnb (fun j hj _ => heap_putCells j hj) (.inl ho)⟩
    · refine grow (fun w' hw' => ?_) (by omega)
      simp only [Builtin.firstCells]
      rw [e3, ← hlv]
      exact run_loadCells C.P w' g 0 vs fun j v hv => ⟨cur, te, (0, 0), by rw [hw', hg], by rw [Nat.zero_add]; exact hcell j v hv⟩
end
end Go.Proofs.Ev
namespace Go.Proofs.Ev
open Go
set_option linter.unusedVariables false
set_option linter.unusedSimpArgs false
variable {ρ : Type}
section
variable {C : Cfg} {E E0 : Env} {st : AS} {a : Act} {w w0 : World} {o : Oper} {K : AV → AS → Option ρ} {r : ρ} {S : Nat → Prop} {m : Nat}
theorem srcRow_sound (hM : MR C E w (lk st.t)) {e : Ty} {x : AV} {v : Value} {ys : List e.T} (h : srcRow st.t e x = some ys) (hv : VR E x v) : ∃ news, LRs E.Φ (ys.flatMap (cells e)) news ∧ Src C.P w e.size v ys.length news := by
  unfold srcRow at h
  split at h
  · simp only [Option.some.injEq] at h; subst h
    simp only [VR] at hv; subst hv
    exact src_row hM.phi (.row0 e none 0)
  · rename_i b
    split at h
    · rename_i he
      subst he
      have h : bytesOf b = ys := Option.some.inj h
      subst h
      simp only [VR] at hv; subst hv
      have hl : (bytesOf b).length = b.size := by rw [bytesOf, List.length_map]; rfl
      refine ⟨(bytesOf b).map (Value.int .u8), LRs.ofInts .u8 (bytesOf b), ?_⟩
      have := src_str (P := C.P) (w := w) b
      rw [← hl] at this
      exact this
    · cases h
  · split at h
    · rename_i e' l hr
      split at h
      · rename_i he
        subst he
        simp only [Option.some.injEq] at h; subst h
        exact src_row hM.phi (rowOf_sound hM hr hv)
      · cases h
    · cases h
theorem l_append (h : St C E st a w) (hi : Inv S E0 w0 m E w) (c : Go.Call) (s x : Operand) (hop : o.op = .call c) (hb : c.callee = .builtin .append) (hargs : c.args = #[s, x]) {T U : TypeId} (hT : c.argTypes = #[T, U]) (hu : notInt C.P U = true)
    (hk : doAppend C st o.dst T (evO C st s) (evO C st x) K = some r) : Loud C S E0 w0 m E st a w o K r := by
  have run : ∀ v w', (Builtin.append_ #[T, U] o.type #[a.eval s, a.eval x]).run C.P w = .ok v w' → (execOp a.eval o).run C.P w = .ok (.value v) w' := fun v w' hr => by
    simp only [execOp, hop, resolve, hb, hargs, hT, invoke, builtin, Sem.run_bind, Sem.run_pure, Result.andThen_ok, List.map_toArray, List.map_cons, List.map_nil, hr]
  unfold doAppend at hk
  split at hk
  · cases hk
  rename_i te ht
  have ht := elemOf?_some ht
  split at hk
  · cases hk
  rename_i e hty
  split at hk
  · cases hk
  rename_i ys hys
  obtain ⟨news, n1, n2⟩ := srcRow_sound h.mr hys (h.eval x)
  have hs := h.eval s
  have new : ∀ (A : Option Addr), a.eval s = .slice A 0 0 → guard' (rowTy C.P te e && fitsB C.P te ys.length) (addRes st (site o.dst 0) (newRow' C st o.dst te e ys) (K (.sl (site o.dst 0)))) = some r → Loud C S E0 w0 m E st a w o K r := by
    intro A hA hg
    obtain ⟨g1, g2⟩ := guard'_some hg
    simp only [Bool.and_eq_true] at g1
    obtain ⟨k1, k2⟩ := addRes_some g2
    obtain ⟨d1, d2, d3⟩ := h.mr.dom _ k1
    have rowCase : K (.sl (site o.dst 0)) { st with t := (site o.dst 0, .row te e ys) :: st.t } = some r → Loud C S E0 w0 m E st a w o K r := fun k2 => by
      obtain ⟨v, E', w', q1, q2, q3, q4, q5, q6⟩ := append_core h hi (k := site o.dst 0) (xs := ([] : List e.T)) (ys := ys) (A := A) (cap := 0) (vs := []) (ty := o.type) ht hu g1.1 hty (by have := g1.2; simpa using this) d1
        (fun t x hx hm => h.fresh k1 t x hx _ hm rfl) (fun j x hj _ hm => h.mr.fresh k1 j x hj (fun e => by subst e; rw [k1] at hj; cases hj) hm) (fun x e => by rw [k1] at e; cases e) (by simp [LRs]) n1 n2 (.inl ⟨rfl, rfl⟩)
      have q1 : (Builtin.append_ #[T, U] o.type #[.slice A 0 0, a.eval x]).run C.P w = .ok v w' := q1
      rw [← hA] at q1
      exact loud_of_run k2 (run _ _ q1) q4 q2.cons q3 q5 (q6 _).cons
    unfold newRow' at k2
    cases hmt : mutAt C st o.dst with
    | false => rw [hmt] at k2; exact rowCase k2
    | true =>
      rw [hmt] at k2
      simp only [cond_true] at k2
      cases ys with
      | nil => exact rowCase k2
      | cons y0 ys0 =>
        obtain ⟨v, E', w', q1, q2, q3, q4, q5, q6⟩ := append_coreA h hi (k := site o.dst 0) (xs := ([] : List e.T)) (ys := y0 :: ys0) (A := A) (cap := 0) (vs := []) (ty := o.type) (W := writes C st o) ht hu g1.1 hty (by have := g1.2; simpa using this) d1
          (fun t x hx hm => h.fresh k1 t x hx _ hm rfl) (fun j x hj _ hm => h.mr.fresh k1 j x hj (fun e => by subst e; rw [k1] at hj; cases hj) hm) (.inl fun x e => by rw [k1] at e; cases e) (by simp [LRs]) n1 n2 (.inl ⟨rfl, rfl, by simp⟩)
        have q1 : (Builtin.append_ #[T, U] o.type #[.slice A 0 0, a.eval x]).run C.P w = .ok v w' := q1
        rw [← hA] at q1
        exact loud_of_run k2 (run _ _ q1) q4 q2.cons q3 q5 q6.cons
  split at hk
  · rename_i hse
    rw [hse] at hs
    simp only [VR] at hs
    exact new none hs hk
  · rename_i e' l hse
    split at hk
    · rw [hse] at hs
      simp only [VR] at hs
      obtain ⟨⟨A, hA⟩, _⟩ := hs
      exact new A hA hk
    · cases hk
  · rename_i k hse
    split at hk
    · rename_i te' e' xs hrow
      split at hk
      · rename_i he
        subst he
        obtain ⟨g1, g2⟩ := guard'_some hk
        simp only [Bool.and_eq_true] at g1
        rw [hse] at hs
        simp only [VR] at hs
        obtain ⟨d1, d2, A, cap, d3, d4, d5⟩ := h.mr.res _ _ hrow
        have hv : a.eval s = .slice A xs.length cap := by
          have := hs.1
          rw [d3] at this
          injection this with this
          exact this.symm
        have hte : te' = te := Nat.beq_eq ▸ g1.1
        subst hte
        obtain ⟨A', c', vs, q1, q2, q3⟩ := d4.rowCells
        simp only [Value.slice.injEq, true_and] at q1
        obtain ⟨rfl, rfl⟩ := q1
        have hkl := h.kill [k]
        have rowCase : K (.sl k) { (killS [k] st) with t := setr (killS [k] st).t k (.row te' e' (xs ++ ys)) } = some r → Loud C S E0 w0 m E st a w o K r := fun g2 => by
          obtain ⟨v, E', w', p1, p2, p3, p4, p5, p6⟩ := append_core hkl hi (k := k) (xs := xs) (ys := ys) (A := A) (cap := cap) (vs := vs) (ty := o.type) ht hu g1.2.1 hty g1.2.2 d1
            (fun t x hx hm => h.kill_s [k] t x hx k hm (by simp)) (fun j x hj _ hm => h.kill_t [k] j x hj k hm (by simp)) (fun x e => by rw [killS_t, hrow] at e; injection e with e; subst e; rfl) q2 n1 n2 (by
              have hlv : vs.length = xs.length * e'.size := by rw [q2.length, flat_length]
              have hx0 : xs = [] → vs = [] := fun hx => List.eq_nil_of_length_eq_zero (by rw [hlv, hx]; simp)
              rcases d5 with rfl | ⟨g, cur, rfl, o1, o2, o3, o4, o5⟩
              · refine .inl ⟨?_, rfl⟩
                rcases q3 with h | ⟨b, off, _, hl, _⟩
                · exact h
                · exact List.eq_nil_of_length_eq_zero (by omega)
              · refine .inr ⟨g, cur, rfl, o1, o2, o3, o4, o5, fun j v hv => ?_⟩
                rcases q3 with h | ⟨b, off, hA, _, hc⟩
                · rw [hx0 h] at hv; simp at hv
                · simp only [Option.some.injEq, Addr.mk.injEq] at hA
                  obtain ⟨rfl, rfl, _⟩ := hA
                  have := hc j v hv
                  rwa [Nat.zero_add] at this)
          rw [← hv] at p1
          exact loud_of_run g2 (run _ _ p1) p4 p2 p3 p5 (p6 _).kill
        have g2' : K (.sl k) { (killS [k] st) with t := setr (killS [k] st).t k (appRow C st o.dst te' e' xs ys) } = some r := g2
        unfold appRow at g2'
        cases hmt : mutAt C st o.dst with
        | false => rw [hmt] at g2'; exact rowCase g2'
        | true =>
          rw [hmt] at g2'
          simp only [cond_true] at g2'
          cases xs with
          | cons _ _ => exact rowCase g2'
          | nil => cases ys with
            | nil => exact rowCase g2'
            | cons y0 ys0 =>
              have hv0 : vs = [] := List.eq_nil_of_length_eq_zero (by rw [q2.length]; simp)
              subst hv0
              obtain ⟨v, E', w', p1, p2, p3, p4, p5, p6⟩ := append_coreA hkl hi (k := k) (xs := ([] : List e'.T)) (ys := y0 :: ys0) (A := A) (cap := cap) (vs := []) (ty := o.type) (W := writes C st o) ht hu g1.2.1 hty g1.2.2 d1
                (fun t x hx hm => h.kill_s [k] t x hx k hm (by simp)) (fun j x hj _ hm => h.kill_t [k] j x hj k hm (by simp)) (.inl fun x e => by rw [killS_t, hrow] at e; injection e with e; subst e; rfl) q2 n1 n2 (by
                  rcases d5 with rfl | ⟨g, cur, rfl, o1, o2, o3, o4, o5⟩
                  · exact .inl ⟨rfl, rfl, by simp⟩
                  · exact .inr ⟨g, cur, rfl, o1, o2, o3, o4, fun o => o5 o (by simp), fun j v hv => by simp at hv⟩)
              have p1 : (Builtin.append_ #[T, U] o.type #[.slice A 0 cap, a.eval x]).run C.P w = .ok v w' := p1
              rw [← show a.eval s = .slice A 0 cap from hv] at p1
              exact loud_of_run g2' (run _ _ p1) p4 p2 p3 p5 p6.kill
      · cases hk
    · rename_i te' e' xs hrow
      split at hk
      · rename_i he
        subst he
        obtain ⟨g1, g2⟩ := guard'_some hk
        simp only [Bool.and_eq_true] at g1
        rw [hse] at hs
        simp only [VR] at hs
        obtain ⟨d1, d2, g, cap, cur, vs, f1, f2, f3, f4, f5, f6, f7, f8⟩ := h.mr.res _ _ hrow
        have hv : a.eval s = .slice (some ⟨g, 0, none⟩) xs.length cap := by
          have := hs.1
          rw [f1] at this
          injection this with this
          exact this.symm
        have hte : te' = te := Nat.beq_eq ▸ g1.1
        subst hte
        have hkl := h.kill [k]
        obtain ⟨v, E', w', p1, p2, p3, p4, p5, p6⟩ := append_coreA hkl hi (k := k) (xs := xs) (ys := ys) (A := some ⟨g, 0, none⟩) (cap := cap) (vs := vs) (ty := o.type) (W := writes C st o) ht hu g1.2.1 hty g1.2.2 d1
          (fun t x hx hm => h.kill_s [k] t x hx k hm (by simp)) (fun j x hj _ hm => h.kill_t [k] j x hj k hm (by simp)) (.inr (by simp [writes, hop, hb, hargs, hse, AV.refsL, AV.refs])) f6 n1 n2 (.inr ⟨g, cur, rfl, f2, f3, f4, f5, f8, f7⟩)
        rw [← hv] at p1
        exact loud_of_run g2 (run _ _ p1) p4 p2 p3 p5 p6.kill
      · cases hk
    · cases hk
  · cases hk
theorem zeroCells_succ (z : Array Value) (n : Nat) : Builtin.zeroCells z (n + 1) = Builtin.zeroCells z n ++ z := by
  apply Array.ext
  · simp only [Array.size_append, size_zeroCells]; exact Nat.succ_mul ..
  · intro i h1 h2
    rw [size_zeroCells, Nat.succ_mul] at h1
    rw [Array.getElem_append]
    split
    · simp [Builtin.zeroCells]
    · rename_i h3
      rw [size_zeroCells] at h3
      have hs : i - n * z.size < z.size := by omega
      have hm : i % z.size = i - n * z.size := by
        have hi : i = (i - n * z.size) + n * z.size := by omega
        conv => lhs; rw [hi]
        rw [Nat.add_mul_mod_self_right, Nat.mod_eq_of_lt hs]
      simp [Builtin.zeroCells, hm, hs, size_zeroCells]
theorem LRs.zeros {Φ : Phi} {e : Ty} {y : e.T} {z : Array Value} (h : LRs Φ (cells e y) z.toList) : ∀ n, LRs Φ ((List.replicate n y).flatMap (cells e)) (Builtin.zeroCells z n).toList
  | 0 => by simp [Builtin.zeroCells, LRs]
  | n + 1 => by
    rw [zeroCells_succ, Array.toList_append, List.replicate_succ', List.flatMap_append]
    exact (LRs.zeros h n).append (by simpa using h)
theorem append_zeros {P : Program} {t u ty te : TypeId} {i : TypeInfo} {z : Value} {ik : IntKind} (ht : P.underlying t = some (.slice te)) (hu : P.underlying u = some (.int ik)) (hi : P.info? te = some i) (hz : i.zero = some z) (hb : i.bytes ≤ 128) (hs : 0 < i.size) {n : Nat} (h0 : 0 < n) (h1 : n ≤ 65536) :
    (Builtin.append_ #[t, u] ty #[.slice none 0 0, .int .i64 n]).run P w = .ok (.slice (some ⟨w.heap.size, 0, none⟩) n (grownCap w n 0 te))
      (w.drew.alloc (.cells (Builtin.zeroCells z.cells n ++ Builtin.zeroCells z.cells (grownCap w n 0 te - n)) te)) := by
  have hfit : Builtin.nextslicecap n 0 * i.bytes ≤ 281474976710656 := growslice_fits h0 (by
    have := Nat.mul_le_mul h1 hb
    omega)
  have hw : IntKind.i64.wrap (n : Int) = n := wrap_small _ (by omega) (by omega)
  have h2 : ¬ (n ≤ 0) := by omega
  have h63 : ¬ (9223372036854775807 < (n : Int)) := by omega
  have h48 : ¬ (281474976710656 < Builtin.nextslicecap n 0 * i.bytes) := by omega
  have hl : ¬ ((281474976710656 : Int) < (n : Int) * (i.bytes : Int)) := by
    have := Nat.mul_le_mul h1 hb
    have : ((n * i.bytes : Nat) : Int) ≤ 8388608 := by omega
    rw [Int.natCast_mul] at this
    omega
  have hn0 : n ≠ 0 := by omega
  have hs0 : i.size ≠ 0 := by omega
  have hne : n * i.size ≠ 0 := Nat.mul_ne_zero hn0 hs0
  simp [Builtin.append_, run_underlying ht, run_underlying hu, sizeOf, typeInfo, zeroValue, hi, hz, asInt, asIntOf, hw, h2, h63, h48, hl, hn0, hs0, hne, Question.forced, newRow, grownCap, Builtin.firstCells]
  intro hneg
  omega
theorem l_zeros (h : St C E st a w) (hi : Inv S E0 w0 m E w) (c : Go.Call) (s x : Operand) (hop : o.op = .call c) (hb : c.callee = .builtin .append) (hargs : c.args = #[s, x]) {T U : TypeId} (hT : c.argTypes = #[T, U]) (hu : isIntT C.P U = true)
    (hk : doZeros C st o.dst T (evO C st s) (evO C st x) K = some r) : Loud C S E0 w0 m E st a w o K r := by
  have run : ∀ v w', (Builtin.append_ #[T, U] o.type #[a.eval s, a.eval x]).run C.P w = .ok v w' → (execOp a.eval o).run C.P w = .ok (.value v) w' := fun v w' hr => by
    simp only [execOp, hop, resolve, hb, hargs, hT, invoke, builtin, Sem.run_bind, Sem.run_pure, Result.andThen_ok, List.map_toArray, List.map_cons, List.map_nil, hr]
  obtain ⟨ik, hu⟩ : ∃ ik, C.P.underlying U = some (.int ik) := by
    unfold isIntT at hu
    split at hu
    · exact ⟨_, by assumption⟩
    · cases hu
  unfold doZeros at hk
  split at hk
  · cases hk
  rename_i te ht
  have ht := elemOf?_some ht
  split at hk
  · cases hk
  rename_i e hty
  split at hk
  · cases hk
  rename_i z hz
  split at hk
  · rename_i y n hy hse hxe
    obtain ⟨g1, g2⟩ := guard'_some hk
    simp only [Bool.and_eq_true, decide_eq_true_eq] at g1
    obtain ⟨⟨_, hr⟩, hn0, hn1⟩ := g1
    obtain ⟨k1, k2⟩ := addRes_some g2
    obtain ⟨d1, d2, d3⟩ := h.mr.dom _ k1
    have hs := h.eval s
    have hx := h.eval x
    rw [hse] at hs
    rw [hxe] at hx
    simp only [VR] at hs hx
    obtain ⟨i, zv, e1, e2, e3, e4, e5, e6⟩ := rowTy_some hr
    obtain ⟨i', zv', f1, f2, f3⟩ := zeroCells?_sound (E := E) hz
    rw [e1] at f1
    injection f1 with f1
    subst f1
    rw [e2] at f2
    injection f2 with f2
    subst f2
    have hyl : LRs E.Φ (cells e y) zv.cells.toList := by
      have := mkAV_sound h.mr (v := .agg zv.cells.toList.toArray) hy (by simp only [VR]; exact ⟨_, rfl, f3⟩)
      simpa [Value.cells] using this
    obtain ⟨n', rfl⟩ : ∃ n' : Nat, n = n' := ⟨n.toNat, by omega⟩
    simp only [Int.toNat_natCast] at k2
    have hrun := append_zeros (ty := o.type) (w := w) ht hu e1 e2 e6 (by omega) (n := n') (by omega) (by omega)
    have hge := grownCap_ge w n' 0 te
    obtain ⟨s1, s2⟩ := h.setArr hi (k := site o.dst 0) (g := w.heap.size) (te := te) (e := e) (xs := List.replicate n' y) (cap := grownCap w n' 0 te) (vs := (Builtin.zeroCells zv.cells n').toList)
      (w' := w.drew.alloc (.cells (Builtin.zeroCells zv.cells n' ++ Builtin.zeroCells zv.cells (grownCap w n' 0 te - n')) te)) (cur := Builtin.zeroCells zv.cells n' ++ Builtin.zeroCells zv.cells (grownCap w n' 0 te - n'))
      hty d1 (fun t x hx hm => h.fresh k1 t x hx _ hm rfl) (fun j x hj _ hm => h.mr.fresh k1 j x hj (fun e => by subst e; rw [k1] at hj; cases hj) hm) (by rw [heap_alloc]; exact if_pos rfl) (by
        simp only [Array.size_append, size_zeroCells, e4, ← Nat.add_mul]
        congr 1; omega) (by rw [List.length_replicate]; exact hge) (LRs.zeros hyl n')
      (fun j v hv => by
        have : (Builtin.zeroCells zv.cells n' ++ Builtin.zeroCells zv.cells (grownCap w n' 0 te - n')).toList[j]? = some v := by
          rw [Array.toList_append, List.getElem?_append_left (List.getElem?_eq_some_iff.1 hv).1]
          exact hv
        rwa [Array.getElem?_toList] at this)
      (fun o => h.mr.phi.none (Nat.le_refl _) o) (fun j hj hlt => by rw [heap_alloc]; exact if_neg hj) (by simp) (.inr (Nat.le_refl _)) rfl rfl rfl
    rw [← hs, ← hx] at hrun
    refine loud_of_run k2 (run _ _ hrun) ?_ s1.cons s2 (Phi.le_refl _) (Keeps.setRow h (.inl fun x e => by rw [k1] at e; cases e) (fun j hj hlt => by rw [heap_alloc]; exact if_neg hj) (.inr (Nat.le_refl _))).cons
    simp only [VR, Env.setRow, if_true, List.length_replicate]
    exact ⟨trivial, _, _, _, rfl⟩
  · cases hk
theorem l_cut (h : St C E st a w) (hi : Inv S E0 w0 m E w) (t : TypeId) (x : Operand) (lo hi' mx : Option Operand) (hop : o.op = .slice t x lo hi' mx) {l? h? m? : Option Int} (hl : optInt C st lo = some l?) (hh : optInt C st hi' = some h?) (hm : optInt C st mx = some m?)
    {k : Nat} (hx : evO C st x = .sl k) {te : TypeId} {e : Ty} {xs : List e.T} (hb : lk st.t k = some (.arr te e xs)) (hk : doCut C st t k te e xs l? h? m? K = some r) : Loud C S E0 w0 m E st a w o K r := by
  unfold doCut at hk
  split at hk
  · rename_i n
    obtain ⟨g1, g2⟩ := guard'_some hk
    simp only [Bool.and_eq_true, decide_eq_true_eq] at g1
    obtain ⟨he, h0, h1, h2⟩ := g1
    have hmx : mx = none := by
      cases mx with
      | none => rfl
      | some y => simp only [optInt, Option.map_eq_some_iff] at hm; obtain ⟨_, _, h⟩ := hm; cases h
    subst hmx
    obtain ⟨te', hu, hel⟩ := sliceElem_some he
    have hs := h.eval x
    rw [hx] at hs
    simp only [VR] at hs
    obtain ⟨d1, d2, g, cap, cur, vs, f1, f2, f3, f4, f5, f6, f7, f8⟩ := h.mr.res _ _ hb
    have hv : a.eval x = .slice (some ⟨g, 0, none⟩) xs.length cap := by
      have := hs.1
      rw [f1] at this
      injection this with this
      exact this.symm
    have hkl := h.kill [k]
    obtain ⟨n', rfl⟩ : ∃ n' : Nat, n = n' := ⟨n.toNat, by omega⟩
    simp only [Int.toNat_natCast] at g2
    have hlen : (xs.take n').length = n' := by simp; omega
    have hsp : LRs E.Φ ((xs.take n').flatMap (cells e)) (vs.take ((xs.take n').flatMap (cells e)).length) := (LRs.split (l' := (xs.drop n').flatMap (cells e)) (by rw [← List.flatMap_append, List.take_append_drop]; exact f6)).1
    obtain ⟨s1, s2⟩ := hkl.setArr hi (k := k) (g := g) (te := te) (e := e) (xs := xs.take n') (cap := cap) (cur := cur) (w' := w)
      d2 d1 (fun t x hx hm => h.kill_s [k] t x hx k hm (by simp)) (fun j x hj _ hm => h.kill_t [k] j x hj k hm (by simp)) f3 f4 (by omega) hsp
      (fun j v hv => by
        rw [List.getElem?_take] at hv
        split at hv
        · exact f7 j v hv
        · cases hv) f8 (fun _ _ _ => rfl) (Nat.le_refl _) (.inl f2) rfl rfl rfl
    have hrun : (execOp a.eval o).run C.P w = .ok (.value (.slice (some ⟨g, 0, none⟩) n' cap)) w := by
      simp only [execOp, hop, hv, Instr.sliceAt, Instr.slice, Sem.run_bind, run_underlying' hu, Result.andThen_ok, Option.map_none]
      rw [run_sliceBounds true h hl hh (by omega) (by simp only [Option.getD_some]; omega) (by simp only [Option.getD_some]; omega)]
      simp only [Result.andThen_ok, Sem.run_bind, elemIs_run hel, Sem.run_pure, h0, Option.getD_some]
      simp [Addr.add]
    refine loud_of_run g2 hrun ?_ s1 s2 (Phi.le_refl _) (Keeps.setRow hkl (.inr (by simp [writes, hop, hx, AV.refs])) (fun _ _ _ => rfl) (.inl f2)).kill
    simp only [VR, Env.setRow, if_true, hlen]
    exact ⟨trivial, _, _, _, rfl⟩
  · cases hk
end
end Go.Proofs.Ev
namespace Go.Proofs.Ev
open Go
set_option linter.unusedVariables false
set_option linter.unusedSimpArgs false
variable {ρ : Type}
section
variable {C : Cfg} {E E0 : Env} {st : AS} {a : Act} {w w0 : World} {o : Oper} {K : AV → AS → Option ρ} {r : ρ} {S : Nat → Prop} {m : Nat}
theorem row_full (hM : MR C E w (lk st.t)) {k : Nat} {te : TypeId} {e : Ty} {y : e.T} {ys : List e.T} (hb : lk st.t k = some (.row te e (y :: ys))) :
    ∃ g cap cur vs, E.rowv k = some (.slice (some ⟨g, 0, none⟩) (y :: ys).length cap) ∧ cap ≠ 0 ∧ E.own k g ∧ w.heap[g]? = some (.cells cur te (0, 0)) ∧ cur.size = cap * e.size ∧ (y :: ys).length ≤ cap ∧ LRs E.Φ ((y :: ys).flatMap (cells e)) vs ∧ (∀ (j : Nat) (v : Value), vs[j]? = some v → cur[j]? = some v) ∧ E.blk k = none := by
  obtain ⟨d1, d2, A, cap, d3, d4, d5⟩ := hM.res _ _ hb
  obtain ⟨A', c', vs, q1, q2, q3⟩ := d4.rowCells
  simp only [Value.slice.injEq, true_and] at q1
  obtain ⟨rfl, rfl⟩ := q1
  rcases q3 with h | ⟨b, off, rfl, hl, hc⟩
  · cases h
  · rcases d5 with rfl | ⟨g, cur, hA, o1, o2, o3, o4, o5⟩
    · simp at hl
    · simp only [Option.some.injEq, Addr.mk.injEq] at hA
      obtain ⟨rfl, rfl, _⟩ := hA
      refine ⟨b, cap, cur, vs, d3, by simp at hl; omega, o1, o2, o3, o4, q2, fun j v hv => ?_, d1⟩
      obtain ⟨c, T, fr, p1, p2⟩ := hM.phi _ _ _ (hc j v hv)
      rw [o2] at p1
      injection p1 with p1
      injection p1 with p1
      subst p1
      rwa [Nat.zero_add] at p2
theorem l_sliceData (h : St C E st a w) (hi : Inv S E0 w0 m E w) (c : Go.Call) (x : Operand) (hop : o.op = .call c) (hb : c.callee = .builtin .unsafeSliceData) (hargs : c.args = #[x]) {k : Nat} (hx : evO C st x = .sl k)
    {te : TypeId} {e : Ty} {y : e.T} {ys : List e.T} (hr : lk st.t k = some (.row te e (y :: ys))) (hk : K (.ep k e.size 0 0) st = some r) : Loud C S E0 w0 m E st a w o K r := by
  obtain ⟨g, cap, cur, vs, f1, f2, _⟩ := row_full h.mr hr
  have hv := h.eval x
  rw [hx] at hv
  simp only [VR] at hv
  have hv : a.eval x = .slice (some ⟨g, 0, none⟩) (y :: ys).length cap := by
    have := hv.1
    rw [f1] at this
    exact (Option.some.inj this).symm
  refine loud_of_run hk (v := .pointer (some ⟨g, 0 * e.size + 0, none⟩)) (w' := w) ?_ (by simp only [VR]; exact ⟨g, _, _, f1, rfl⟩) h hi (Phi.le_refl _) Keeps.same
  have := Lib.run_unsafeSliceData_row (P := C.P) (w := w) c.argTypes o.type ⟨g, 0, none⟩ (y :: ys).length cap f2
  simp only [execOp, hop, resolve, hb, hargs, invoke, builtin, Sem.run_bind, Sem.run_pure, Result.andThen_ok, List.map_toArray, List.map_cons, List.map_nil, hv, this, Nat.zero_mul, Nat.zero_add]
theorem l_ptrConv (h : St C E st a w) (hi : Inv S E0 w0 m E w) (src dst : TypeId) (x : Operand) (hop : o.op = .convert src dst x) {k : Nat} (hx : evO C st x = .ptr k 0) {y : Res} (hy : lk st.t k = some y) (hc : ptrConv C.P src dst y = true) (hk : K (.ptr k 0) st = some r) : Loud C S E0 w0 m E st a w o K r := by
  have hv := h.eval x
  rw [hx] at hv
  have hvv := hv
  simp only [VR] at hv
  obtain ⟨b, e1, e2⟩ := hv
  have hres := h.mr.res _ _ hy
  have hrun : (convert src dst (.pointer (some ⟨b, 0, none⟩))).run C.P w = .ok (.pointer (some ⟨b, 0, none⟩)) w := by
    unfold ptrConv at hc
    split at hc
    · rename_i T x0 l
      obtain ⟨_, b', vs, f1, f2, f3, f4, _⟩ := hres
      rw [e1] at f1
      injection f1 with f1
      subst f1
      have hlen := f4.length
      have hsh : w.shape? b = some (T, (x0 :: l).length) := by simp only [World.shape?, f3]; rw [← hlen]; simp
      split at hc
      · rename_i t hs hd
        split at hc
        · rename_i j hj
          simp only [Bool.not_eq_true'] at hc
          exact Lib.run_to_unsafe w ⟨b, 0, none⟩ hs hd hj (fun e => by rw [e] at hc; cases hc) hsh (by simp)
        · cases hc
      · rename_i u hs hd
        split at hc
        · rename_i j hj
          exact Lib.run_from_unsafe w ⟨b, 0, none⟩ hs hd hj hsh hc
        · cases hc
      · cases hc
    · cases hc
  refine loud_of_run hk (v := .pointer (some ⟨b, 0, none⟩)) (w' := w) ?_ (by rw [← e2]; exact hvv) h hi (Phi.le_refl _) Keeps.same
  simp only [execOp, hop, e2, Sem.run_bind, hrun, Result.andThen_ok, Sem.run_pure]
theorem allBytes_mem : ∀ (l : List Int), allBytes l = true → ∀ n ∈ l, 0 ≤ n ∧ n < 256
  | [], _, n, hn => by simp at hn
  | x :: l, h, n, hn => by
    simp only [allBytes, Bool.and_eq_true, decide_eq_true_eq] at h
    rcases List.mem_cons.1 hn with rfl | hn
    · exact ⟨h.1, h.2.1⟩
    · exact allBytes_mem l h.2.2 n hn
theorem l_unsafeStr (h : St C E st a w) (hi : Inv S E0 w0 m E w) (c : Go.Call) (x n : Operand) (hop : o.op = .call c) (hb : c.callee = .builtin .unsafeString) (hargs : c.args = #[x, n]) {T U : TypeId} (hT : c.argTypes = #[T, U]) {k : Nat} (hx : evO C st x = .ep k 1 0 0) {ni : Int} (hn : evO C st n = .v (.int .i64 ni))
    {te : TypeId} {y : Int} {ys : List Int} (hr : lk st.t k = some (.row te (.int .u8) (y :: ys : List Int))) (hni : ni = (y :: ys).length) (hbd : ni ≤ 1099511627776) (hp : ptrTo C.P T te = true) (hc1 : C.P.cellsOf te = 1) (hby : allBytes (y :: ys) = true)
    (hk : K (.v (.string (ofBytes (y :: ys)))) { (killS [k] st) with t := setr (killS [k] st).t k .gone } = some r) : Loud C S E0 w0 m E st a w o K r := by
  obtain ⟨g, cap, cur, vs, f1, f2, f3, f4, f5, f6, f7, f8, f9⟩ := row_full (e := .int .u8) (y := y) (ys := ys) h.mr hr
  have hv := h.eval x
  rw [hx] at hv
  simp only [VR] at hv
  obtain ⟨b, n', c', e1, e2⟩ := hv
  rw [f1] at e1
  simp only [Option.some.injEq, Value.slice.injEq, Addr.mk.injEq] at e1
  obtain ⟨⟨rfl, _⟩, _, _⟩ := e1
  have hvn := h.eval n
  rw [hn] at hvn
  simp only [VR] at hvn
  have hpt : C.P.underlying T = some (.pointer te) := by
    unfold ptrTo at hp
    split at hp
    · rename_i e he
      rw [Nat.beq_eq] at hp
      rw [he, hp]
    · cases hp
  have hvs : vs = (y :: ys).map (Value.int .u8) := f7.ints
  have hl : ((y :: ys).map fun n => UInt8.ofNat n.toNat).length = (y :: ys).length := List.length_map _
  have hcap : (y :: ys).length ≤ cap := f6
  have hcs : cur.size = cap := by rw [f5]; exact Nat.mul_one _
  have hlim : (y :: ys).length ≤ 9223372036854775807 := by rw [hni] at hbd; omega
  have hrun := Lib.run_unsafeString_row (P := C.P) w T U o.type te hpt hc1 g cur.size (by simp only [World.shape?, f4]) ((y :: ys).map fun n => UInt8.ofNat n.toNat) (by simp) (by rw [hl, hcs]; exact hcap) (by rw [hl]; exact hlim) (fun j u hu => by
    rw [List.getElem?_map, Option.map_eq_some_iff] at hu
    obtain ⟨q, hq, rfl⟩ := hu
    have h1 := f8 j (.int .u8 q) (by rw [hvs, List.getElem?_map, hq]; rfl)
    obtain ⟨b0, b1⟩ := allBytes_mem _ hby q (List.mem_of_getElem? hq)
    have h2 : ((UInt8.ofNat q.toNat).toNat : Int) = q := by
      rw [UInt8.toNat_ofNat']
      omega
    rw [h2, add_off]
    simp only [World.cell?, f4, Nat.zero_add]
    simpa using h1)
  rw [hl] at hrun
  have hle : E.le { E with rowv := fun j => if j = k then none else E.rowv j } (· ≠ k) := ⟨fun _ _ h => h, fun j v hj hv => by simp only; rw [if_neg hj]; exact hv, Phi.le_refl _⟩
  have hheap : ∀ j, j ≠ g → (w.freeze ⟨g, 0, none⟩ (y :: ys).length).heap[j]? = w.heap[j]? := fun j hj => by rw [heap_freeze, if_neg (fun hh => hj hh.2)]
  have hat : ∃ fr, (w.freeze ⟨g, 0, none⟩ (y :: ys).length).heap[g]? = some (.cells cur te fr) := by
    rw [heap_freeze]
    split
    · exact ⟨_, by rw [f4]; rfl⟩
    · exact ⟨_, f4⟩
  have hsz : (w.freeze ⟨g, 0, none⟩ (y :: ys).length).heap.size = w.heap.size := by
    unfold World.freeze; split <;> simp
  have hkl := h.kill [k]
  have hst : St C { E with rowv := fun j => if j = k then none else E.rowv j } { (killS [k] st) with t := setr (killS [k] st).t k .gone } a (w.freeze ⟨g, 0, none⟩ (y :: ys).length) := by
    refine hkl.of (R := (· ≠ k)) ((hkl.mr.upd k .gone hle (fun j x hj _ i hi' e => h.kill_t [k] j x hj i hi' (by simp [e])) (fun _ _ => rfl) (fun j hj => by simp [hj]) (fun _ _ _ => Iff.rfl) ?_ ?_ ⟨f9, by simp⟩ ?_ (by omega) ?_).congr fun r => lk_setr ..) hle (fun t x hx j hj e => h.kill_s [k] t x hx j hj (by simp [e]))
    · intro j b hj hjb
      exact ⟨hheap b (fun e => by subst e; exact hj (h.mr.sep _ _ _ hjb f3)), fun _ => rfl⟩
    · intro b o' v hv
      obtain ⟨cc, T', fr', h1, h2⟩ := h.mr.phi b o' v hv
      by_cases hbg : b = g
      · subst hbg
        obtain ⟨fr, hfr⟩ := hat
        rw [f4] at h1
        injection h1 with h1
        injection h1 with h1
        subst h1
        exact ⟨cur, te, fr, hfr, h2⟩
      · exact ⟨cc, T', fr', by rw [hheap b hbg, h1], h2⟩
    · intro b hbo
      rw [hsz]
      exact h.mr.lt k b hbo
    · intro j b hj h1 h2
      exact hj (h.mr.sep _ _ _ h1 h2)
  have hin : Inv S E0 w0 m { E with rowv := fun j => if j = k then none else E.rowv j } (w.freeze ⟨g, 0, none⟩ (y :: ys).length) := by
    have hf : ∀ (u : World) (A : Addr) (q : Nat), (u.freeze A q).os = u.os ∧ (u.freeze A q).tape = u.tape ∧ (u.freeze A q).output = u.output := fun u A q => by unfold World.freeze; split <;> exact ⟨rfl, rfl, rfl⟩
    obtain ⟨p1, p2, p3⟩ := hf w ⟨g, 0, none⟩ (y :: ys).length
    refine ⟨hi.m40, p1.trans hi.os, p2.trans hi.tape, p3.trans hi.output, by rw [hsz]; exact hi.size, fun b hb hS => ?_, hi.own, hi.phi, hi.new, hi.fb⟩
    rw [hheap b (fun e => by subst e; rcases hi.own k b f3 with h | h; exact hS h; omega)]
    exact hi.keep b hb hS
  refine loud_of_run hk (v := .string (ofBytes (y :: ys))) ?_ (by simp only [VR]) hst hin (Phi.le_refl _) ?_
  · simp only [Nat.zero_mul, Nat.zero_add] at e2
    simp only [execOp, hop, resolve, hb, hargs, hT, invoke, builtin, Sem.run_bind, Sem.run_pure, Result.andThen_ok, List.map_toArray, List.map_cons, List.map_nil, e2, hvn, hni, hrun]
    rfl
  · refine Keeps.kill (L := [k]) fun j x hj hm _ => ?_
    have hne : j ≠ k := fun e => by
      subst e
      rw [killS_t, hr] at hj
      injection hj with hj
      subst hj
      cases hm
    refine ⟨⟨x, ?_, hm⟩, fun b hb => ⟨hb, hheap b fun e => by subst e; exact hne (h.mr.sep _ _ _ hb f3)⟩⟩
    show lk (setr (killS [k] st).t k .gone) j = _
    rw [lk_setr, if_neg hne, hj]
end
end Go.Proofs.Ev
namespace Go.Proofs.Ev
open Go
set_option linter.unusedVariables false
set_option linter.unusedSimpArgs false
variable {ρ : Type}
theorem nodup_iff : ∀ L : List Nat, Ev.nodup L = true ↔ L.Nodup
  | [] => by simp [Ev.nodup]
  | r :: L => by
    simp only [Ev.nodup, Bool.and_eq_true, Bool.not_eq_true', List.nodup_cons, nodup_iff L]
    have : mem r L = false ↔ r ∉ L := by
      rw [← Bool.not_eq_true, mem_iff]
    rw [this]
theorem sub_iff (L : List Nat) : ∀ M : List Nat, sub L M = true ↔ ∀ r ∈ M, r ∈ L
  | [] => by simp [sub]
  | r :: M => by simp [sub, mem_iff, sub_iff L M]
theorem idx_mem : ∀ {L : List Nat} {r : Nat}, r ∈ L → L[idx L r]? = some r
  | [], r, h => by simp at h
  | k :: L, r, h => by
    simp only [idx]
    cases hb : Nat.beq k r with
    | true => rw [Nat.beq_eq] at hb; subst hb; rfl
    | false =>
      have hne : k ≠ r := fun e => by subst e; rw [Nat.beq_refl] at hb; cases hb
      simp only [cond_false, List.getElem?_cons_succ]
      exact idx_mem ((List.mem_cons.1 h).resolve_left (fun e => hne e.symm))
theorem idx_get {L : List Nat} (hn : L.Nodup) {j r : Nat} (h : L[j]? = some r) : idx L r = j := by
  have h1 := idx_mem (List.mem_of_getElem? h)
  have hj := (List.getElem?_eq_some_iff.1 h).1
  have hi := (List.getElem?_eq_some_iff.1 h1).1
  rw [List.getElem?_eq_getElem hj] at h
  rw [List.getElem?_eq_getElem hi] at h1
  have hp := List.pairwise_iff_getElem.1 hn
  have he : L[idx L r] = L[j] := by rw [Option.some.inj h, Option.some.inj h1]
  rcases Nat.lt_trichotomy (idx L r) j with hlt | heq | hlt
  · exact absurd he (hp _ _ hi hj hlt)
  · exact heq
  · exact absurd he.symm (hp _ _ hj hi hlt)
theorem idx_lt {L : List Nat} {r : Nat} (h : r ∈ L) : idx L r < L.length := (List.getElem?_eq_some_iff.1 (idx_mem h)).1
theorem at_lt : ∀ {L : List Nat} {j r b : Nat}, L[j]? = some r → at' L j b = r
  | [], j, r, b, h => by simp at h
  | k :: L, 0, r, b, h => by simpa [at'] using h
  | k :: L, j + 1, r, b, h => by simpa [at'] using at_lt (b := b) (by simpa using h)
theorem at_ge : ∀ {L : List Nat} {j b : Nat}, L.length ≤ j → at' L j b = b + (j - L.length)
  | [], j, b, h => by simp [at']
  | k :: L, 0, b, h => by simp at h
  | k :: L, j + 1, b, h => by
    simp only [at']
    rw [at_ge (by simpa using h)]
    simp
theorem lk_enum {α : Type} : ∀ (l : List α) (i j : Nat), lk (enum i l) j = if j < i then none else l[j - i]?
  | [], i, j => by simp [enum, lk]
  | a :: l, i, j => by
    simp only [enum, lk_cons, lk_enum l (i + 1) j]
    by_cases h : j = i
    · subst h; simp
    · rw [if_neg h]
      by_cases h' : j < i
      · rw [if_pos h', if_pos (by omega)]
      · rw [if_neg h', if_neg (by omega)]
        rw [show j - i = (j - (i + 1)) + 1 by omega]
        simp
theorem lk_enum0 {α : Type} (l : List α) (j : Nat) : lk (enum 0 l) j = l[j]? := by rw [lk_enum]; simp
theorem getAll_some {t : List (Nat × Res)} : ∀ {L : List Nat} {fr : List Res}, getAll t L = some fr → fr.length = L.length ∧ ∀ (j r : Nat), L[j]? = some r → ∃ x, lk t r = some x ∧ fr[j]? = some x
  | [], fr, h => by simp only [getAll, Option.some.injEq] at h; subst h; simp
  | r :: L, fr, h => by
    simp only [getAll] at h
    split at h
    · rename_i x y h1 h2
      simp only [Option.some.injEq] at h; subst h
      obtain ⟨g1, g2⟩ := getAll_some h2
      refine ⟨by simp [g1], fun j k hj => ?_⟩
      cases j with
      | zero => simp at hj; subst hj; exact ⟨x, h1, rfl⟩
      | succ j => simpa using g2 j k (by simpa using hj)
    · cases h
theorem freshAll_iff (t : List (Nat × Res)) (b : Nat) : ∀ n, freshAll t b n = true → ∀ k, k < n → lk t (b + k) = none
  | 0, _, k, hk => by omega
  | n + 1, h, k, hk => by
    simp only [freshAll, Bool.and_eq_true] at h
    by_cases e : k = n
    · subst e
      cases hl : lk t (b + k) with
      | none => rfl
      | some x => rw [hl] at h; simp at h
    · exact freshAll_iff t b n h.2 k (by omega)
theorem rowRefs_iff (t : List (Nat × Res)) : ∀ (L : List Nat) (r : Nat), r ∈ rowRefs t L ↔ r ∈ L ∧ ∃ x, lk t r = some x ∧ isRowR x = true
  | [], r => by simp [rowRefs]
  | k :: L, r => by
    simp only [rowRefs]
    cases hk : lk t k with
    | none =>
      simp only [rowRefs_iff t L r, List.mem_cons]
      constructor
      · rintro ⟨h1, h2⟩; exact ⟨.inr h1, h2⟩
      · rintro ⟨h1 | h1, x, h2, h3⟩
        · subst h1; rw [hk] at h2; cases h2
        · exact ⟨h1, x, h2, h3⟩
    | some x =>
      dsimp only
      cases hx : isRowR x with
      | true =>
        simp only [cond_true, List.mem_cons, rowRefs_iff t L r]
        constructor
        · rintro (h | ⟨h1, h2⟩)
          · subst h; exact ⟨.inl rfl, x, hk, hx⟩
          · exact ⟨.inr h1, h2⟩
        · rintro ⟨h1 | h1, h2⟩
          · exact .inl h1
          · exact .inr ⟨h1, h2⟩
      | false =>
        simp only [cond_false, List.mem_cons, rowRefs_iff t L r]
        constructor
        · rintro ⟨h1, h2⟩; exact ⟨.inr h1, h2⟩
        · rintro ⟨h1 | h1, y, h2, h3⟩
          · subst h1; rw [hk] at h2; injection h2 with h2; subst h2; rw [hx] at h3; cases h3
          · exact ⟨h1, y, h2, h3⟩
theorem lk_setAll_ne (τ : Nat → Nat) (r : Nat) : ∀ (out : List Res) (i : Nat) (t : List (Nat × Res)), (∀ j, j < out.length → τ (i + j) ≠ r) → lk (setAll τ i out t) r = lk t r
  | [], i, t, _ => rfl
  | x :: out, i, t, h => by
    simp only [setAll]
    rw [lk_setAll_ne τ r out (i + 1) _ (fun j hj => by have := h (j + 1) (by simpa using hj); rwa [show i + (j + 1) = i + 1 + j by omega] at this), lk_setr, if_neg]
    have := h 0 (by simp)
    exact fun e => this (by simpa using e.symm)
theorem lk_setAll_at (τ : Nat → Nat) : ∀ (out : List Res) (i : Nat) (t : List (Nat × Res)) (j : Nat) (y : Res), out[j]? = some y → (∀ k, k < out.length → τ (i + k) = τ (i + j) → k = j) → lk (setAll τ i out t) (τ (i + j)) = some (y.ren τ)
  | [], i, t, j, y, h, _ => by simp at h
  | x :: out, i, t, 0, y, h, hu => by
    simp only [setAll]
    simp at h; subst h
    rw [lk_setAll_ne, lk_setr, if_pos (by simp)]
    intro k hk e
    have := hu (k + 1) (by simpa using hk) (by rw [show i + (k + 1) = i + 1 + k by omega, e])
    omega
  | x :: out, i, t, j + 1, y, h, hu => by
    simp only [setAll]
    have := lk_setAll_at τ out (i + 1) (setr t (τ i) (x.ren τ)) j y (by simpa using h) (fun k hk e => by
      have := hu (k + 1) (by simpa using hk) (by rw [show i + (k + 1) = i + 1 + k by omega, e, show i + 1 + j = i + (j + 1) by omega])
      omega)
    rwa [show i + 1 + j = i + (j + 1) by omega] at this
def Glob (C : Cfg) (E : Env) : Prop := ∀ g p, C.glob g = some p → VR E (.ga p.1 p.2) (.pointer (some ⟨g, 0, none⟩))
/-- What comes of a call. -/
def Does (P : Program) (f : FuncId) (vs : Array Value) (w : World) (R : Value → World → Prop) : Prop :=
  match (callFunc f vs).run P w with
  | .ok (.enter f' args) w' => Calls P f' args w' fun e w'' => match e with
    | .returned v => R v w''
    | _ => False
  | .ok (.value v) w' => R v w'
  | _ => False
def Post (C : Cfg) (E : Env) (w : World) (m : Nat) (res : AV × List Res) (v : Value) (w' : World) : Prop :=
  ∃ E', VR E' res.1 v ∧ MR C E' w' (lk (enum 0 res.2)) ∧ Glob C E' ∧ Inv (fun b => ∃ r, E.own r b) E w m E' w'
/-- An entry of a table is true. -/
def CallSound (C : Cfg) (f : FuncId) (args : List AV) (fr : List Res) (res : AV × List Res) : Prop :=
  ∀ (E : Env) (w : World) (vs : List Value), MR C E w (lk (enum 0 fr)) → VRs E args vs → Glob C E → Does C.P f vs.toArray w (Post C E w fr.length res)
/-! ### what is reached, told anew -/
def Env.part (E : Env) (L : List Nat) : Env := { blk := fun j => (L[j]?).bind E.blk, rowv := fun j => (L[j]?).bind E.rowv, own := fun j b => ∃ r, L[j]? = some r ∧ E.own r b, Φ := E.Φ }
theorem Env.part_idx {E : Env} {L : List Nat} {r : Nat} (h : r ∈ L) : (E.part L).blk (idx L r) = E.blk r ∧ (E.part L).rowv (idx L r) = E.rowv r := by
  simp [Env.part, idx_mem h]
theorem VR.part {E : Env} {L : List Nat} {a : AV} {v : Value} (h : VR E a v) (hr : ∀ r ∈ a.refs, r ∈ L) : VR (E.part L) (a.ren (idx L)) v :=
  VR.ren (F := E) (E := E.part L) (idx L) (Phi.le_refl _) a v (fun r hx => by
    obtain ⟨h1, h2⟩ := Env.part_idx (E := E) (hr r hx)
    rw [h1, h2]
    exact ⟨fun _ h => h, fun _ h => h⟩) h
theorem VRs.part {E : Env} {L : List Nat} {a : List AV} {v : List Value} (h : VRs E a v) (hr : ∀ r ∈ AV.refsL a, r ∈ L) : VRs (E.part L) (AV.renL (idx L) a) v :=
  VRs.ren (F := E) (E := E.part L) (idx L) (Phi.le_refl _) a v (fun r hx => by
    obtain ⟨h1, h2⟩ := Env.part_idx (E := E) (hr r hx)
    rw [h1, h2]
    exact ⟨fun _ h => h, fun _ h => h⟩) h
theorem ResOk.part {C : Cfg} {E : Env} {w : World} {L : List Nat} (hn : L.Nodup) {j r : Nat} {x : Res} (h : ResOk C E w r x) (hj : L[j]? = some r) (hr : ∀ k ∈ x.refs, k ∈ L) : ResOk C (E.part L) w j (x.ren (idx L)) := by
  have e1 : (E.part L).blk j = E.blk r := by simp [Env.part, hj]
  have e2 : (E.part L).rowv j = E.rowv r := by simp [Env.part, hj]
  have e3 : ∀ b, E.own r b → (E.part L).own j b := fun b hb => ⟨r, hj, hb⟩
  cases x with
  | box T c =>
    obtain ⟨h0, b, vs, h1, h2, h3, h4, h5⟩ := h
    exact ⟨by rw [e2, h0], b, vs, by rw [e1, h1], e3 _ h2, h3, h4.part hr, h5⟩
  | row te e xs =>
    obtain ⟨h0, h1, A, cap, h2, h3, h4⟩ := h
    refine ⟨by rw [e1, h0], h1, A, cap, by rw [e2, h2], h3, ?_⟩
    rcases h4 with h4 | ⟨g, cur, q1, q2, q3⟩
    · exact .inl h4
    · exact .inr ⟨g, cur, q1, e3 _ q2, q3⟩
  | arr te e xs =>
    obtain ⟨h0, h1, g, cap, cur, vs, q1, q2, q3⟩ := h
    exact ⟨by rw [e1, h0], h1, g, cap, cur, vs, by rw [e2, q1], e3 _ q2, q3⟩
  | gone => exact ⟨by rw [e1, h.1], by rw [e2, h.2]⟩
  | iter s pos =>
    obtain ⟨h0, b, h1, h2, h3⟩ := h
    exact ⟨by rw [e2, h0], b, by rw [e1, h1], e3 _ h2, h3⟩
  | bld T s =>
    obtain ⟨h0, b, A, cap, sf, h1, h2, h3, h4, h5, h6⟩ := h
    refine ⟨by rw [e2, h0], b, A, cap, sf, by rw [e1, h1], e3 _ h2, h3, h4, h5, ?_⟩
    rcases h6 with h6 | ⟨g, cur, te, hi, q1, q2, q3, q4⟩
    · exact .inl h6
    · exact .inr ⟨g, cur, te, hi, q1, q2, e3 _ q3, q4⟩
theorem resRefs_get : ∀ {fr : List Res} {j : Nat} {x : Res}, fr[j]? = some x → ∀ k ∈ x.refs, k ∈ resRefs fr
  | [], j, x, h, _, _ => by simp at h
  | y :: fr, 0, x, h, k, hk => by simp at h; subst h; simp [resRefs, hk]
  | y :: fr, j + 1, x, h, k, hk => by
    simp only [resRefs, List.mem_append]
    exact .inr (resRefs_get (by simpa using h) k hk)
/-- The part of memory that is reached. -/
theorem MR.part {C : Cfg} {E : Env} {w : World} {t : List (Nat × Res)} (h : MR C E w (lk t)) {L : List Nat} (hn : L.Nodup) {fr : List Res} (hf : getAll t L = some fr) (hr : ∀ k ∈ resRefs fr, k ∈ L) :
    MR C (E.part L) w (lk (enum 0 (fr.map (Res.ren (idx L))))) := by
  obtain ⟨f1, f2⟩ := getAll_some hf
  constructor
  · exact h.phi
  · intro j x hx
    rw [lk_enum0, List.getElem?_map, Option.map_eq_some_iff] at hx
    obtain ⟨y, hy, rfl⟩ := hx
    have hj := (List.getElem?_eq_some_iff.1 hy).1
    rw [f1] at hj
    obtain ⟨z, g1, g2⟩ := f2 j _ (List.getElem?_eq_getElem hj)
    rw [hy] at g2
    injection g2 with g2
    subst g2
    exact (h.res _ _ g1).part hn (List.getElem?_eq_getElem hj) (fun k hk => hr k (resRefs_get hy k hk))
  · intro j hj
    rw [lk_enum0, List.getElem?_map, Option.map_eq_none_iff, List.getElem?_eq_none_iff, f1] at hj
    have : L[j]? = none := List.getElem?_eq_none hj
    simp [Env.part, this]
  · rintro j b ⟨r, _, hb⟩
    exact h.lt r b hb
  · rintro j j' b ⟨r, h1, h2⟩ ⟨r', h3, h4⟩
    have := h.sep r r' b h2 h4
    subst this
    rw [← idx_get hn h1, ← idx_get hn h3]
theorem Glob.part {C : Cfg} {E : Env} (h : Glob C E) (L : List Nat) : Glob C (E.part L) := fun g p hp => by
  have := h g p hp
  simp only [VR] at this ⊢
  exact this
theorem Glob.mono {C : Cfg} {E F : Env} (h : Glob C E) (hp : E.Φ.le F.Φ) : Glob C F := fun g p hg => by
  have := h g p hg
  simp only [VR] at this ⊢
  obtain ⟨b, off, e1, e2⟩ := this
  exact ⟨b, off, e1, e2.mono hp⟩
end Go.Proofs.Ev
namespace Go.Proofs.Ev
open Go
set_option linter.unusedVariables false
set_option linter.unusedSimpArgs false
variable {ρ : Type}
def backTo (L : List Nat) (b n r : Nat) : Option Nat := if r ∈ L then some (idx L r) else if b ≤ r ∧ r < b + n then some (L.length + (r - b)) else none
theorem backTo_some {L : List Nat} {b n r j : Nat} (h : backTo L b n r = some j) : j < L.length + n ∧ at' L j b = r := by
  unfold backTo at h
  split at h
  · rename_i hr
    simp only [Option.some.injEq] at h; subst h
    exact ⟨by have := idx_lt hr; omega, at_lt (idx_mem hr)⟩
  · split at h
    · simp only [Option.some.injEq] at h; subst h
      refine ⟨by omega, ?_⟩
      rw [at_ge (by omega)]; omega
    · cases h
theorem backTo_at {L : List Nat} (hn : L.Nodup) {b n j : Nat} (hf : ∀ k, k < n → b + k ∉ L) (hj : j < L.length + n) : backTo L b n (at' L j b) = some j := by
  by_cases h : j < L.length
  · have hg := List.getElem?_eq_getElem h
    rw [at_lt hg]
    unfold backTo
    rw [if_pos (List.getElem_mem h), idx_get hn hg]
  · rw [at_ge (by omega)]
    unfold backTo
    rw [if_neg (hf _ (by omega)), if_pos (by omega)]
    congr 1; omega
def Env.back (E E2 : Env) (inv : Nat → Option Nat) : Env where
  blk := fun r => match inv r with
    | some j => E2.blk j
    | none => E.blk r
  rowv := fun r => match inv r with
    | some j => E2.rowv j
    | none => E.rowv r
  own := fun r c => match inv r with
    | some j => E2.own j c
    | none => E.own r c
  Φ := E2.Φ
section
variable {C : Cfg} {E E0 E2 : Env} {st : AS} {a : Act} {w w0 w2 : World} {S : Nat → Prop} {m : Nat}
theorem noRow {C : Cfg} {E : Env} {w : World} {r : Nat} {x : Res} (h : ResOk C E w r x) (hx : isRowR x = false) : E.rowv r = none := by
  cases x with
  | box T c => exact h.1
  | row te e xs => simp [isRowR] at hx
  | arr te e xs => simp [isRowR] at hx
  | gone => exact h.2
  | iter s pos => exact h.1
  | bld T s => exact h.1
theorem ResOk.back {C : Cfg} {E2 F : Env} {w : World} {j r : Nat} {τ : Nat → Nat} {x : Res} (h : ResOk C E2 w j x) (hΦ : F.Φ = E2.Φ) (hb : F.blk r = E2.blk j) (hr : F.rowv r = E2.rowv j) (ho : ∀ c, E2.own j c → F.own r c)
    (hk : ∀ k, (∀ c, E2.blk k = some c → F.blk (τ k) = some c) ∧ ∀ u, E2.rowv k = some u → F.rowv (τ k) = some u) : ResOk C F w r (x.ren τ) := by
  cases x with
  | box T c =>
    obtain ⟨h0, b, vs, h1, h2, h3, h4, h5⟩ := h
    exact ⟨by rw [hr, h0], b, vs, by rw [hb, h1], ho _ h2, h3, VRs.ren τ (by rw [hΦ]; exact Phi.le_refl _) c vs (fun k _ => hk k) h4, by rw [hΦ]; exact h5⟩
  | row te e xs =>
    obtain ⟨h0, h1, A, cap, h2, h3, h4⟩ := h
    refine ⟨by rw [hb, h0], h1, A, cap, by rw [hr, h2], by rw [hΦ]; exact h3, ?_⟩
    rcases h4 with h4 | ⟨g, cur, q1, q2, q3⟩
    · exact .inl h4
    · exact .inr ⟨g, cur, q1, ho _ q2, by rw [hΦ]; exact q3⟩
  | arr te e xs =>
    obtain ⟨h0, h1, g, cap, cur, vs, q1, q2, q3, q4, q5, q6, q7, q8⟩ := h
    exact ⟨by rw [hb, h0], h1, g, cap, cur, vs, by rw [hr, q1], ho _ q2, q3, q4, q5, by rw [hΦ]; exact q6, q7, by rw [hΦ]; exact q8⟩
  | gone => exact ⟨by rw [hb, h.1], by rw [hr, h.2]⟩
  | iter s pos =>
    obtain ⟨h0, b, h1, h2, h3, h4⟩ := h
    exact ⟨by rw [hr, h0], b, by rw [hb, h1], ho _ h2, h3, by rw [hΦ]; exact h4⟩
  | bld T s =>
    obtain ⟨h0, b, A, cap, sf, h1, h2, h3, h4, h5, h6⟩ := h
    refine ⟨by rw [hr, h0], b, A, cap, sf, by rw [hb, h1], ho _ h2, h3, by rw [hΦ]; exact h4, h5, ?_⟩
    rcases h6 with h6 | ⟨g, cur, te, hi, q1, q2, q3, q4, q5, q6, q7, q8, q9, q10⟩
    · exact .inl h6
    · exact .inr ⟨g, cur, te, hi, q1, q2, ho _ q3, q4, q5, q6, q7, q8, q9, by rw [hΦ]; exact q10⟩
/-- What a call leaves. -/
theorem St.back (h : St C E st a w) (hi : Inv S E0 w0 m E w) {L : List Nat} (hn : L.Nodup) (hL : ∀ r ∈ L, ∃ x, lk st.t r = some x) {out : List Res} {b n : Nat} (hlen : out.length = L.length + n) (hfr : ∀ k, k < n → lk st.t (b + k) = none) (hb : m ≤ b)
    (mr : MR C E2 w2 (lk (enum 0 out))) (gl : Glob C E2) (iv : Inv (fun c => ∃ r, (E.part L).own r c) (E.part L) w L.length E2 w2) {res : AV} {v : Value} (hv : VR E2 res v) :
    ∃ E3, VR E3 (res.ren fun j => at' L j b) v ∧ St C E3 { (killS (rowRefs st.t L) st) with t := setAll (fun j => at' L j b) 0 out (killS (rowRefs st.t L) st).t } a w2 ∧ Inv S E0 w0 m E3 w2 ∧ E.Φ.le E3.Φ ∧
      Keeps L st E w { (killS (rowRefs st.t L) st) with t := setAll (fun j => at' L j b) 0 out (killS (rowRefs st.t L) st).t } E3 w2 := by
  have hfL : ∀ k, k < n → b + k ∉ L := fun k hk hm => by obtain ⟨x, hx⟩ := hL _ hm; rw [hfr k hk] at hx; cases hx
  have hat : ∀ j, j < out.length → backTo L b n (at' L j b) = some j := fun j hj => backTo_at hn hfL (by omega)
  have hdom : ∀ j, out.length ≤ j → E2.blk j = none ∧ E2.rowv j = none ∧ ∀ c, ¬ E2.own j c := fun j hj => mr.dom j (by rw [lk_enum0]; exact List.getElem?_eq_none hj)
  have hki : ∀ k, (∀ c, E2.blk k = some c → (E.back E2 (backTo L b n)).blk (at' L k b) = some c) ∧ ∀ u, E2.rowv k = some u → (E.back E2 (backTo L b n)).rowv (at' L k b) = some u := fun k => by
    by_cases hk : k < out.length
    · simp only [Env.back, hat k hk]
      exact ⟨fun _ h => h, fun _ h => h⟩
    · obtain ⟨d1, d2, _⟩ := hdom k (by omega)
      rw [d1, d2]
      exact ⟨fun _ h => (by cases h), fun _ h => (by cases h)⟩
  have hsite : ∀ r j, backTo L b n r = some j → r ∉ L → lk st.t r = none := fun r j hj hr => by
    unfold backTo at hj
    rw [if_neg hr] at hj
    split at hj
    · have := hfr (r - b) (by omega)
      rwa [show b + (r - b) = r by omega] at this
    · cases hj
  have hj : ∀ r j, backTo L b n r = some j → r ∈ L → L[j]? = some r ∧ j < L.length := fun r j hj hr => by
    unfold backTo at hj
    rw [if_pos hr] at hj
    simp only [Option.some.injEq] at hj; subst hj
    exact ⟨idx_mem hr, idx_lt hr⟩
  have le : E.le (E.back E2 (backTo L b n)) (fun r => r ∉ rowRefs st.t L) := by
    constructor
    · intro r c hc
      cases hbk : backTo L b n r with
      | none => simpa only [Env.back, hbk] using hc
      | some j =>
        simp only [Env.back, hbk]
        by_cases hr : r ∈ L
        · obtain ⟨g1, g2⟩ := hj r j hbk hr
          rw [iv.fb j g2]
          simpa [Env.part, g1] using hc
        · rw [(h.mr.dom r (hsite r j hbk hr)).1] at hc; cases hc
    · intro r u hnr hu
      cases hbk : backTo L b n r with
      | none => simpa only [Env.back, hbk] using hu
      | some j =>
        exfalso
        by_cases hr : r ∈ L
        · obtain ⟨x, hx⟩ := hL r hr
          cases hrow : isRowR x with
          | true => exact hnr ((rowRefs_iff _ _ _).2 ⟨hr, x, hx, hrow⟩)
          | false => rw [noRow (h.mr.res r x hx) hrow] at hu; cases hu
        · rw [(h.mr.dom r (hsite r j hbk hr)).2.1] at hu; cases hu
    · exact iv.phi
  have hnone : ∀ r, backTo L b n r = none → r ∉ L := fun r hr hm => by
    unfold backTo at hr
    rw [if_pos hm] at hr; cases hr
  have hcalS : ∀ r c, backTo L b n r = none → E.own r c → ¬ ∃ k, (E.part L).own k c := by
    rintro r c hr ho ⟨k, r', h1, h2⟩
    have := h.mr.sep r r' c ho h2
    subst this
    exact hnone r hr (List.mem_of_getElem? h1)
  have hkeep : ∀ r c, backTo L b n r = none → E.own r c → w2.heap[c]? = w.heap[c]? ∧ ∀ o, E2.Φ c o = E.Φ c o := fun r c hr ho => by
    have hlt := h.mr.lt r c ho
    refine ⟨iv.keep c hlt (hcalS r c hr ho), fun o => ?_⟩
    cases ho2 : E2.Φ c o with
    | none =>
      cases ho1 : E.Φ c o with
      | none => rfl
      | some u => rw [iv.phi c o u ho1] at ho2; cases ho2
    | some u =>
      rcases iv.new c o u ho2 with h1 | h1 | h1
      · exact h1.symm
      · exact absurd h1 (hcalS r c hr ho)
      · omega
  have hlk : ∀ r, lk (setAll (fun j => at' L j b) 0 out (killS (rowRefs st.t L) st).t) r = match backTo L b n r with
      | some j => (out[j]?).map (Res.ren fun j => at' L j b)
      | none => (lk st.t r).map (Res.kill (rowRefs st.t L)) := fun r => by
    cases hbk : backTo L b n r with
    | none =>
      simp only
      rw [lk_setAll_ne, killS_t]
      intro j hjl e
      have := hat j hjl
      rw [Nat.zero_add] at e
      rw [e, hbk] at this; cases this
    | some j =>
      obtain ⟨g1, g2⟩ := backTo_some hbk
      have hjo : j < out.length := by omega
      simp only [List.getElem?_eq_getElem hjo, Option.map_some]
      have := lk_setAll_at (fun j => at' L j b) out 0 (killS (rowRefs st.t L) st).t j _ (List.getElem?_eq_getElem hjo) (fun k hk e => by
        have h1 := hat k hk
        simp only [Nat.zero_add] at e
        rw [e, hat j hjo] at h1
        exact (Option.some.inj h1).symm)
      simp only [Nat.zero_add] at this
      rw [g2] at this
      exact this
  have mr3 : MR C (E.back E2 (backTo L b n)) w2 (lk (setAll (fun j => at' L j b) 0 out (killS (rowRefs st.t L) st).t)) := by
    constructor
    · exact mr.phi
    · intro r x hx
      rw [hlk r] at hx
      cases hbk : backTo L b n r with
      | none =>
        simp only [hbk] at hx
        obtain ⟨y, hy, rfl⟩ := Option.map_eq_some_iff.1 hx
        obtain ⟨k1, k2⟩ := Res.kill_sls (L := rowRefs st.t L) (h.mr.res r y hy)
        exact k1.mono le (by simp only [Env.back, hbk]) (by simp only [Env.back, hbk]) k2 fun c hc => ⟨by simpa only [Env.back, hbk] using hc, hkeep r c hbk hc⟩
      | some j =>
        simp only [hbk] at hx
        obtain ⟨y, hy, rfl⟩ := Option.map_eq_some_iff.1 hx
        exact (mr.res j y (by rw [lk_enum0, hy])).back rfl (by simp only [Env.back, hbk]) (by simp only [Env.back, hbk]) (fun c hc => by simpa only [Env.back, hbk] using hc) hki
    · intro r hr
      rw [hlk r] at hr
      cases hbk : backTo L b n r with
      | none =>
        simp only [hbk, Option.map_eq_none_iff] at hr
        simpa only [Env.back, hbk] using h.mr.dom r hr
      | some j =>
        simp only [hbk, Option.map_eq_none_iff, List.getElem?_eq_none_iff] at hr
        simpa only [Env.back, hbk] using hdom j hr
    · intro r c hc
      cases hbk : backTo L b n r with
      | none =>
        simp only [Env.back, hbk] at hc
        have := h.mr.lt r c hc
        have := iv.size
        omega
      | some j =>
        simp only [Env.back, hbk] at hc
        exact mr.lt j c hc
    · intro r r' c h1 h2
      have key : ∀ r r' j, backTo L b n r = some j → backTo L b n r' = none → E2.own j c → E.own r' c → False := fun r r' j hr hr' ho ho' => by
        rcases iv.own j c ho with hs | hs
        · exact hcalS r' c hr' ho' hs
        · have := h.mr.lt r' c ho'; omega
      cases hr : backTo L b n r with
      | none =>
        simp only [Env.back, hr] at h1
        cases hr' : backTo L b n r' with
        | none =>
          simp only [Env.back, hr'] at h2
          exact h.mr.sep r r' c h1 h2
        | some j' =>
          simp only [Env.back, hr'] at h2
          exact (key r' r j' hr' hr h2 h1).elim
      | some j =>
        simp only [Env.back, hr] at h1
        cases hr' : backTo L b n r' with
        | none =>
          simp only [Env.back, hr'] at h2
          exact (key r r' j hr hr' h1 h2).elim
        | some j' =>
          simp only [Env.back, hr'] at h2
          have := mr.sep j j' c h1 h2
          subst this
          rw [← (backTo_some hr).2, (backTo_some hr').2]
  refine ⟨E.back E2 (backTo L b n), VR.ren (F := E2) (E := E.back E2 (backTo L b n)) _ (Phi.le_refl _) res v (fun k _ => hki k) hv, ?_, ?_, iv.phi, fun k x hk hm hkL => ?_⟩
  · have hk := h.kill (rowRefs st.t L)
    exact ⟨mr3, fun t x hx => by
      obtain ⟨u, h1, h2⟩ := hk.sl t x hx
      exact ⟨u, h1, VR.mono le x u (h.kill_s (rowRefs st.t L) t x hx) h2⟩, h.n, h.df, fun g p hg => by
      have := gl g p hg
      simp only [VR] at this ⊢
      exact this⟩
  · have hcS : ∀ c, (∃ k, (E.part L).own k c) → S c ∨ w0.heap.size ≤ c := by
      rintro c ⟨k, r, _, ho⟩
      exact hi.own r c ho
    refine ⟨hi.m40, iv.os.trans hi.os, iv.tape.trans hi.tape, iv.output.trans hi.output, Nat.le_trans hi.size iv.size, fun c hc hS => ?_, fun r c ho => ?_, Phi.le_trans hi.phi iv.phi, fun c o u hu => ?_, fun r hr => ?_⟩
    · rw [iv.keep c (by have := hi.size; omega) (fun hs => by rcases hcS c hs with h | h; exact hS h; omega)]
      exact hi.keep c hc hS
    · cases hbk : backTo L b n r with
      | none =>
        simp only [Env.back, hbk] at ho
        exact hi.own r c ho
      | some j =>
        simp only [Env.back, hbk] at ho
        rcases iv.own j c ho with hs | hs
        · exact hcS c hs
        · exact .inr (Nat.le_trans hi.size hs)
    · rcases iv.new c o u hu with h1 | h1 | h1
      · exact hi.new c o u h1
      · exact .inr (hcS c h1)
      · exact .inr (.inr (Nat.le_trans hi.size h1))
    · cases hbk : backTo L b n r with
      | none => simp only [Env.back, hbk]; exact hi.fb r hr
      | some j =>
        simp only [Env.back, hbk]
        by_cases hrL : r ∈ L
        · obtain ⟨g1, g2⟩ := hj r j hbk hrL
          rw [iv.fb j g2, ← hi.fb r hr]
          simp [Env.part, g1]
        · exfalso
          unfold backTo at hbk
          rw [if_neg hrL] at hbk
          split at hbk
          · omega
          · cases hbk
  · have hbk : backTo L b n k = none := by
      unfold backTo
      rw [if_neg hkL]
      split
      · have := hfr (k - b) (by omega)
        rw [show b + (k - b) = k by omega, hk] at this
        cases this
      · rfl
    refine ⟨⟨x.kill (rowRefs st.t L), ?_, by cases x <;> first | rfl | cases hm⟩, fun d hd => ⟨by simpa only [Env.back, hbk] using hd, (hkeep k d hbk hd).1⟩⟩
    show lk (setAll (fun j => at' L j b) 0 out (killS (rowRefs st.t L) st).t) k = _
    rw [hlk k, hbk]
    simp only [hk, Option.map_some]
end
end Go.Proofs.Ev
namespace Go.Proofs.Ev
open Go
set_option linter.unusedVariables false
set_option linter.unusedSimpArgs false
variable {ρ : Type}
section
variable {C : Cfg} {E E0 : Env} {st : AS} {a : Act} {w w0 : World} {o : Oper} {K : AV → AS → Option ρ} {r : ρ} {S : Nat → Prop} {m : Nat}
theorem argAV_sound (hM : MR C E w (lk st.t)) {T : Option TypeId} {x : AV} {v : Value} (h : VR E x v) : VR E (argAV C st T x) v := by
  unfold argAV
  split
  · rename_i r
    split
    · rename_i te e xs hr
      simp only [VR] at h ⊢
      obtain ⟨_, _, A, cap, h2, h3, _⟩ := hM.res _ _ hr
      rw [h.1] at h2
      injection h2 with h2
      rw [h2]; exact h3
    · simp only [VR]
  · simp only [VR] at h ⊢; exact h.2
  · split
    · split
      · simp only [VR] at h ⊢; subst h; exact .row0 _ _ _
      · exact h
    · exact h
  · split
    · rename_i τ l _ hl
      split
      · rename_i lfs hlf
        obtain ⟨vs, e1, e2⟩ := aggOf?_sound hl h
        simp only [VR]
        exact ⟨vs, e1, (toLfs_sound hM hlf e2).toVRs⟩
      · exact h
    · exact h
theorem argAVs_sound (hM : MR C E w (lk st.t)) : ∀ {l : List AV} {vs : List Value} {Ts : List TypeId}, VRs E l vs → VRs E (argAVs C st Ts l) vs
  | [], [], Ts, h => by cases Ts <;> simp only [argAVs, VRs]
  | [], _ :: _, _, h => by simp only [VRs] at h
  | _ :: _, [], _, h => by simp only [VRs] at h
  | x :: l, v :: vs, [], h => by
    simp only [VRs] at h
    simp only [argAVs, VRs]
    exact ⟨argAV_sound hM h.1, argAVs_sound hM h.2⟩
  | x :: l, v :: vs, T :: Ts, h => by
    simp only [VRs] at h
    simp only [argAVs, VRs]
    exact ⟨argAV_sound hM h.1, argAVs_sound hM h.2⟩
theorem St.glob (h : St C E st a w) : Glob C E := h.gl
theorem l_doCall {call : Call} (hcall : ∀ f args fr res, call.g f args fr = true → call.f f args fr = some res → CallSound C f args fr res) (h : St C E st a w) (hi : Inv S E0 w0 m E w) (f : FuncId) {args : List AV} {vs : List Value} (hv : VRs E args vs)
    (hrun : (execOp a.eval o).run C.P w = (callFunc f vs.toArray).run C.P w) (hW : ∀ fn, C.P.funcs[f]? = some fn → writes C st o = AV.refsL args ++ reached (settled st args) (passed C (settled st args) f fn args)) (hk : doCall C call st o.dst f args K = some r) : Loud C S E0 w0 m E st a w o K r := by
  unfold doCall at hk
  split at hk
  · cases hk
  rename_i fn hfn
  have hW := hW fn hfn
  obtain ⟨E1, h1, hi1, le1, own1, same1⟩ := h.settle (AV.refsL args) hi
  have hv1 : VRs E1 args vs := VRs.mono le1 _ _ (fun _ _ => trivial) hv
  have h1 : St C E1 (settled st args) a w := h1
  have same1 : ∀ j, j ∉ AV.refsL args → lk (settled st args).t j = lk st.t j := same1
  generalize settled st args = st1 at hk h1 same1 hW
  have hv2 : VRs E1 (passed C st1 f fn args) vs := by
    unfold passed
    cases C.own f with
    | true => exact hv1
    | false => exact argAVs_sound h1.mr hv1
  generalize passed C st1 f fn args = as at hk hv2 hW
  generalize reached st1 as = L at hk hW
  unfold doCall1 at hk
  split at hk
  · cases hk
  rename_i fr hfr
  obtain ⟨hcl, hk⟩ := bif_some hk
  obtain ⟨hgd, hk⟩ := bif_some hk
  split at hk
  · cases hk
  rename_i res out hc
  obtain ⟨hb, hk⟩ := bif_some hk
  simp only [Bool.and_eq_true] at hb
  simp only [closed, Bool.and_eq_true] at hcl
  have hn := (nodup_iff L).1 hcl.1
  have hLd : ∀ r ∈ L, ∃ x, lk st1.t r = some x := fun r hr => by
    obtain ⟨x, h1, _⟩ := (getAll_some hfr).2 _ _ (idx_mem hr)
    exact ⟨x, h1⟩
  have hs := hcall _ _ _ _ hgd hc (E1.part L) w vs (h1.mr.part hn hfr ((sub_iff _ _).1 hcl.2.2)) (hv2.part ((sub_iff _ _).1 hcl.2.1)) (h1.glob.part L)
  have hlen : out.length = L.length + (out.length - L.length) := by have := Nat.le_of_ble_eq_true hb.2; omega
  have fin : ∀ v w2, Post C (E1.part L) w (fr.map (Res.ren (idx L))).length (res, out) v w2 → ∀ (next : Act → World → Prop),
      (∀ av v st' E' w', K av st' = some r → VR E' av v → St C E' st' a w' → Inv S E0 w0 m E' w' → E.Φ.le E'.Φ → Keeps (writes C st o) st E w st' E' w' → next (a.put o.dst v) w') → next (a.put o.dst v) w2 := by
    rintro v w2 ⟨E2, p1, p2, p3, p4⟩ next hnext
    rw [List.length_map, (getAll_some hfr).1] at p4
    obtain ⟨E3, q1, q2, q3, q4, q5⟩ := h1.back hi1 hn hLd hlen (freshAll_iff _ _ _ hb.1) (site_m hi1 o.dst) p2 p3 p4 p1
    refine hnext _ v _ _ w2 hk q1 q2 q3 (Phi.le_trans le1.phi q4) ?_
    intro k x hkx hm hkW
    rw [hW, List.mem_append, not_or] at hkW
    obtain ⟨g1, g2⟩ := q5 k x (by rw [same1 k hkW.1]; exact hkx) hm hkW.2
    exact ⟨g1, fun b hb => g2 b (own1 k b hb)⟩
  intro next Q hnext
  unfold Oper.wp
  rw [hrun]
  unfold Does at hs
  split at hs
  · rename_i f' args' w' hr
    rw [hr]
    rw [Oper.upon_enter]
    refine hs.mono fun e w'' he => ?_
    cases e with
    | returned v => exact fin v w'' he next hnext
    | panicked chain => exact he.elim
    | outgrown => exact he.elim
  · rename_i v w' hr
    rw [hr, Oper.upon_value]
    exact fin v w' hs next hnext
  · exact hs.elim
theorem VRs.arr {l : List AV} {vs : Array Value} (h : VRs E l vs.toList) : VRs E l vs.toList := h
theorem l_call {call : Call} (hcall : ∀ f args fr res, call.g f args fr = true → call.f f args fr = some res → CallSound C f args fr res) (h : St C E st a w) (hi : Inv S E0 w0 m E w) (c : Go.Call) (f : Operand) (hop : o.op = .call c) (hb : c.callee = .value f)
    (hk : callVal C call st o.dst (evO C st f) (c.args.toList.map (evO C st)) K = some r) : Loud C S E0 w0 m E st a w o K r := by
  have hf := h.eval f
  have ha : VRs E (c.args.toList.map (evO C st)) (c.args.toList.map a.eval) := VRs.map h _
  have run : ∀ (g : FuncId) (fs cs : List Value), a.eval f = .func (.func g) fs.toArray cs.toArray → (execOp a.eval o).run C.P w = (callFunc g (fs ++ c.args.toList.map a.eval ++ cs).toArray).run C.P w := fun g fs cs hv => by
    simp only [execOp, hop, resolve, hb, hv, Deferred.ofValue, Sem.run_bind, Sem.run_pure, Result.andThen_ok, invoke]
    congr 2
    apply Array.toList_inj.1
    simp
  unfold callVal at hk
  split at hk
  · rename_i g fs cs hfe
    rw [hfe] at hf
    simp only [VR] at hf
    exact l_doCall hcall h hi g (((VRs.exact E fs.toList).append ha).append (VRs.exact E cs.toList)) (run g fs.toList cs.toList (by simpa using hf)) (fun fn hfn => by simp only [writes, hop, hb, hfe, callRefs, hfn]) hk
  · rename_i g fs cs hfe
    rw [hfe] at hf
    simp only [VR] at hf
    obtain ⟨xs, ys, h1, h2, h3⟩ := hf
    exact l_doCall hcall h hi g ((h2.append ha).append h3) (run g xs ys h1) (fun fn hfn => by simp only [writes, hop, hb, hfe, callRefs, hfn]) hk
  · cases hk
/-- ANY OPERATION. -/
theorem op_sound {call : Call} (hcall : ∀ f args fr res, call.g f args fr = true → call.f f args fr = some res → CallSound C f args fr res) (h : St C E st a w) (hi : Inv S E0 w0 m E w) (hk : evOp C call st o K = some r) : Loud C S E0 w0 m E st a w o K r := by
  cases hc : cutArr C st o with
  | true =>
    unfold cutArr at hc
    split at hc
    · rename_i t x lo hi' mx hop
      split at hc
      · rename_i k hx
        split at hc
        · rename_i te e xs hb
          have hk' : (match optInt C st lo, optInt C st hi', optInt C st mx with
            | some l, some u, some x => doCut C st t k te e xs l u x K
            | _, _, _ => none) = some r := by
            unfold evOp at hk
            simp only [hop, hx, hb] at hk
            exact hk
          split at hk'
          · rename_i h1 h2 h3
            exact l_cut h hi t x lo hi' mx hop h1 h2 h3 hx hb hk'
          · cases hk'
        · cases hc
      · cases hc
    · cases hc
  | false =>
  cases hq : quietOp o with
  | true => exact l_quiet h hi (quiet_sound h hq hc hk)
  | false =>
  unfold evOp at hk
  simp only at hk
  split at hk
  case h_1 x hop => simp [quietOp, hop] at hq
  case h_2 x hop => simp [quietOp, hop] at hq
  case h_3 c x y hop => simp [quietOp, hop] at hq
  case h_4 T hop =>
    cases hb : C.bld T with
    | true =>
      rw [hb] at hk
      simp only [cond_true] at hk
      split at hk
      · rename_i hz
        exact l_bld h hi T hop hz hk
      · cases hk
    | false =>
      rw [hb] at hk
      simp only [cond_false] at hk
      split at hk
      · rename_i c hz
        exact l_alloc h hi T hop hz hk
      · cases hk
  case h_5 T x hop =>
    split at hk
    · rename_i c hc
      exact l_box h hi T x hop hc hk
    · cases hk
  case h_6 hop => simp [quietOp, hop] at hq
  case h_7 t len parts hop =>
    split at hk
    · rename_i te ht
      split at hk
      · rename_i e hty
        obtain ⟨h1, h2⟩ := bif_some hk
        simp only [Bool.and_eq_true, Nat.beq_eq] at h1
        split at h2
        · rename_i xs hm
          exact l_buildSlice h hi t len parts hop ht hty h1.1 h1.2.1 h1.2.2.1 (Nat.le_of_ble_eq_true h1.2.2.2) hm h2
        · cases h2
      · cases hk
    · cases hk
  case h_8 hop => simp [quietOp, hop] at hq
  case h_9 t x y hop =>
    split at hk
    · rename_i k off hx
      split at hk
      · rename_i T c hb
        split at hk
        · rename_i cs hc
          obtain ⟨h1, h2⟩ := bif_some hk
          simp only [Bool.and_eq_true, Nat.beq_eq] at h1
          split at h2
          · rename_i c' hp
            exact l_store h hi t x y hop hx hb hc h1.1 h1.2.1 h1.2.2 hp h2
          · cases h2
        · cases hk
      · cases hk
    · rename_i k s i j hx
      split at hk
      · rename_i te e xs hb
        split at hk
        · rename_i z cs hz hc
          obtain ⟨h1, h2⟩ := bif_some hk
          simp only [Bool.and_eq_true, Nat.beq_eq] at h1
          split at h2
          · rename_i c' hp
            split at h2
            · rename_i l htl
              split at h2
              · rename_i z' hm
                exact l_storeEp h hi t x y hop hx hb hz hc h1.1 h1.2.1 h1.2.2.1 h1.2.2.2 hp htl hm h2
              · cases h2
            · cases h2
          · cases h2
        · cases hk
      · cases hk
    · cases hk
  case h_10 hop => simp [quietOp, hop] at hq
  case h_11 hop => simp [quietOp, hop] at hq
  case h_12 src dst x hop =>
    split at hk
    · rename_i s hx
      split at hk
      · rename_i te hd
        obtain ⟨h1, h2⟩ := bif_some hk
        split at h2
        · rename_i he
          exact l_toBytes h hi src dst x hop hx h1 hd he h2
        · rename_i he
          exact l_toRunes h hi src dst x hop hx h1 hd he h2
        · cases h2
      · exact l_pure h hi (fun cs b he => by rw [hop] at he; cases he) hk
    · exact l_pure h hi (fun cs b he => by rw [hop] at he; cases he) hk
    · rename_i k hx
      split at hk
      · rename_i y hy
        obtain ⟨h1, h2⟩ := bif_some hk
        exact l_ptrConv h hi src dst x hop hx hy h1 h2
      · cases hk
    · split at hk
      · rename_i l te hr hs hd
        split at hk
        · rename_i he
          exact l_toStr h hi src dst x hop .i32 (.inl rfl) hr hs hd he hk
        · cases hk
      · rename_i l te hr hs hd
        split at hk
        · rename_i he
          exact l_toStr h hi src dst x hop .u8 (.inr rfl) hr hs hd he hk
        · cases hk
      · cases hk
  case h_13 hop => simp [quietOp, hop] at hq
  case h_14 hop => simp [quietOp, hop] at hq
  case h_15 t l c hop =>
    split at hk
    · rename_i te n ht hl hc
      split at hk
      · rename_i e hty
        obtain ⟨h1, h2⟩ := guard'_some hk
        simp only [Bool.and_eq_true, decide_eq_true_eq] at h1
        exact l_makeSlice h hi t l c hop ht hl hc hty h1.1 h1.2.1 h1.2.2 h2
      · cases hk
    · cases hk
  case h_16 hop => simp [quietOp, hop] at hq
  case h_17 hop => simp [quietOp, hop] at hq
  case h_18 hop => simp [quietOp, hop] at hq
  case h_19 hop => simp [quietOp, hop] at hq
  case h_20 t x hop =>
    split at hk
    · rename_i s hx
      obtain ⟨h1, h2⟩ := bif_some hk
      exact l_range h hi t x hop hx h1 h2
    · cases hk
  case h_21 x hop =>
    split at hk
    · rename_i k hx
      split at hk
      · rename_i s pos hb
        exact l_next h hi x hop hx hb hk
      · cases hk
    · cases hk
  case h_22 hop => simp [quietOp, hop] at hq
  case h_23 c hop =>
    split at hk
    · rename_i hb
      simp [quietOp, hop, hb] at hq
    · rename_i hb
      split at hk
      · rename_i s x T U hargs hT
        cases hnI : notInt C.P U with
        | true =>
          rw [hnI] at hk
          exact l_append h hi c s x hop hb (Array.toList_inj.1 (by simpa using hargs)) (Array.toList_inj.1 (by simpa using hT)) hnI hk
        | false =>
          rw [hnI] at hk
          simp only [cond_false] at hk
          obtain ⟨h1, h2⟩ := bif_some hk
          exact l_zeros h hi c s x hop hb (Array.toList_inj.1 (by simpa using hargs)) (Array.toList_inj.1 (by simpa using hT)) h1 h2
      · cases hk
    · rename_i hb
      split at hk
      · rename_i x hargs
        split at hk
        · rename_i k hx
          split at hk
          · rename_i te e y ys hr
            exact l_sliceData h hi c x hop hb (Array.toList_inj.1 (by simpa using hargs)) hx hr hk
          · cases hk
        · exact l_pure h hi (fun cs b he => by rw [hop] at he; cases he) hk
      · cases hk
    · rename_i hb
      split at hk
      · rename_i x n T U hargs hT
        split at hk
        · rename_i k ni hx hn
          split at hk
          · rename_i te y ys hr
            obtain ⟨h1, h2⟩ := bif_some hk
            simp only [Bool.and_eq_true, decide_eq_true_eq, Nat.beq_eq] at h1
            exact l_unsafeStr h hi c x n hop hb (Array.toList_inj.1 (by simpa using hargs)) (Array.toList_inj.1 (by simpa using hT)) hx hn hr h1.1.1 h1.1.2 h1.2.1 h1.2.2.1 h1.2.2.2 h2
          · cases hk
        · exact l_pure h hi (fun cs b he => by rw [hop] at he; cases he) hk
      · cases hk
    · exact l_pure h hi (fun cs b he => by rw [hop] at he; cases he) hk
    · rename_i f hb
      exact l_call hcall h hi c f hop hb hk
    · cases hk
  case h_24 hop => simp [quietOp, hop] at hq
  case h_25 => cases hk
end
end Go.Proofs.Ev
