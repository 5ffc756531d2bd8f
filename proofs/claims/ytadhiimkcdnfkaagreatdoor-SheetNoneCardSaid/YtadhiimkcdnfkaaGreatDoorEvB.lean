/-
  An evaluator by value of the model of the program, proved sound, and what it shows of this law: part EvB.
-/
import Derived.Test.YtadhiimkcdnfkaaGreatDoorEvA
import Derived.WalkKit
namespace Go.Proofs.Ev
open Go
set_option linter.unusedVariables false
abbrev Phi := Nat → Nat → Option Value
/-- What a cell's value reads as, out of memory that never turns. -/
inductive LR (Φ : Phi) : Lf → Value → Prop
  | int (k : IntKind) (n : Int) : LR Φ ⟨.int k, n⟩ (.int k n)
  | bool (b : Bool) : LR Φ ⟨.bool, b⟩ (.bool b)
  | str (s : ByteArray) : LR Φ ⟨.str, s⟩ (.string s)
  | row0 (e : Ty) (A : Option Addr) (c : Nat) : LR Φ ⟨.rows e, []⟩ (.slice A 0 c)
  | row (e : Ty) (xs : List e.T) (b off c : Nat) (f : Nat → Nat → Value) (h0 : 0 < xs.length) (hc : xs.length ≤ c)
      (h1 : ∀ i j x lf, xs[i]? = some x → (cells e x)[j]? = some lf → Φ b (off + (i * e.size + j)) = some (f i j))
      (h2 : ∀ i j x lf, xs[i]? = some x → (cells e x)[j]? = some lf → LR Φ lf (f i j)) : LR Φ ⟨.rows e, xs⟩ (.slice (some ⟨b, off, none⟩) xs.length c)
  | nil (e : Ty) : LR Φ ⟨.ptr e, none⟩ (.pointer none)
  | ptr (e : Ty) (x : e.T) (b off : Nat) (f : Nat → Value) (h1 : ∀ j lf, (cells e x)[j]? = some lf → Φ b (off + j) = some (f j))
      (h2 : ∀ j lf, (cells e x)[j]? = some lf → LR Φ lf (f j)) : LR Φ ⟨.ptr e, some x⟩ (.pointer (some ⟨b, off, none⟩))
def Phi.le (Φ Ψ : Phi) : Prop := ∀ b o v, Φ b o = some v → Ψ b o = some v
theorem Phi.le_refl (Φ : Phi) : Φ.le Φ := fun _ _ _ h => h
theorem Phi.le_trans {Φ Ψ Χ : Phi} (h : Φ.le Ψ) (h' : Ψ.le Χ) : Φ.le Χ := fun b o v k => h' b o v (h b o v k)
theorem LR.mono {Φ Ψ : Phi} (h : Φ.le Ψ) {lf : Lf} {v : Value} (hl : LR Φ lf v) : LR Ψ lf v := by
  induction hl with
  | int k n => exact .int k n
  | bool b => exact .bool b
  | str s => exact .str s
  | row0 e A c => exact .row0 e A c
  | row e xs b off c f h0 hc h1 h2 ih => exact .row e xs b off c f h0 hc (fun i j x lf a b => h _ _ _ (h1 i j x lf a b)) ih
  | nil e => exact .nil e
  | ptr e x b off f h1 h2 ih => exact .ptr e x b off f (fun j lf a => h _ _ _ (h1 j lf a)) ih
/-- A pointer into such memory. -/
def PR (Φ : Phi) (e : Ty) (x : e.T) (b off : Nat) : Prop := ∃ f : Nat → Value, (∀ j lf, (cells e x)[j]? = some lf → Φ b (off + j) = some (f j)) ∧ ∀ j lf, (cells e x)[j]? = some lf → LR Φ lf (f j)
theorem PR.mono {Φ Ψ : Phi} (h : Φ.le Ψ) {e : Ty} {x : e.T} {b off : Nat} (hp : PR Φ e x b off) : PR Ψ e x b off := by
  obtain ⟨f, h1, h2⟩ := hp
  exact ⟨f, fun j lf a => h _ _ _ (h1 j lf a), fun j lf a => (h2 j lf a).mono h⟩
structure Env where
  blk : Nat → Option Nat
  rowv : Nat → Option Value
  own : Nat → Nat → Prop
  Φ : Phi
mutual
def VR (E : Env) : AV → Value → Prop
  | .v x, v => v = x
  | .d lf, v => LR E.Φ lf v
  | .dp e x j, v => ∃ b off, v = .pointer (some ⟨b, off + j, none⟩) ∧ PR E.Φ e x b off
  | .full e xs, v => (∃ A, v = .slice A xs.length xs.length) ∧ LR E.Φ ⟨.rows e, xs⟩ v
  | .ga e xs, v => ∃ b off, v = .pointer (some ⟨b, off, none⟩) ∧ LR E.Φ ⟨.rows e, xs⟩ (.slice (some ⟨b, off, none⟩) xs.length xs.length)
  | .sl r, v => E.rowv r = some v ∧ ∃ A n c, v = .slice A n c
  | .ep r s i j, v => ∃ b n c, E.rowv r = some (.slice (some ⟨b, 0, none⟩) n c) ∧ v = .pointer (some ⟨b, i * s + j, none⟩)
  | .ptr r o, v => ∃ b, E.blk r = some b ∧ v = .pointer (some ⟨b, o, none⟩)
  | .clo f fs cs, v => ∃ xs ys, v = .func (.func f) xs.toArray ys.toArray ∧ VRs E fs xs ∧ VRs E cs ys
  | .agg l, v => ∃ xs, v = .agg xs.toArray ∧ VRs E l xs
  | .tup l, v => ∃ xs, v = .tuple xs.toArray ∧ VRs E l xs
  | .bad, _ => True
def VRs (E : Env) : List AV → List Value → Prop
  | [], [] => True
  | a :: l, x :: xs => VR E a x ∧ VRs E l xs
  | [], _ :: _ => False
  | _ :: _, [] => False
end
mutual
/-- The own rows that a value names. -/
def AV.sls : AV → List Nat
  | .sl r => [r]
  | .ep r _ _ _ => [r]
  | .clo _ a b => AV.slsL a ++ AV.slsL b
  | .agg l => AV.slsL l
  | .tup l => AV.slsL l
  | _ => []
def AV.slsL : List AV → List Nat
  | [] => []
  | a :: l => a.sls ++ AV.slsL l
end
/-- What one environment knows another one knows, too: as far as some own rows go. -/
structure Env.le (E F : Env) (R : Nat → Prop) : Prop where
  blk : ∀ r b, E.blk r = some b → F.blk r = some b
  rowv : ∀ r v, R r → E.rowv r = some v → F.rowv r = some v
  phi : E.Φ.le F.Φ
mutual
theorem VR.mono {E F : Env} {R : Nat → Prop} (h : E.le F R) : ∀ (a : AV) (v : Value), (∀ r ∈ a.sls, R r) → VR E a v → VR F a v
  | .v x, v, _, hv => hv
  | .d lf, v, _, hv => LR.mono h.phi hv
  | .dp e x j, v, _, hv => by
    simp only [VR] at hv ⊢
    obtain ⟨b, off, e1, e2⟩ := hv
    exact ⟨b, off, e1, e2.mono h.phi⟩
  | .full e xs, v, _, hv => by
    simp only [VR] at hv ⊢
    exact ⟨hv.1, hv.2.mono h.phi⟩
  | .ga e xs, v, _, hv => by
    simp only [VR] at hv ⊢
    obtain ⟨b, off, e1, e2⟩ := hv
    exact ⟨b, off, e1, e2.mono h.phi⟩
  | .sl r, v, hR, hv => by
    simp only [VR] at hv ⊢
    exact ⟨h.rowv r v (hR r (by simp [AV.sls])) hv.1, hv.2⟩
  | .ep r s i j, v, hR, hv => by
    simp only [VR] at hv ⊢
    obtain ⟨b, n, c, e1, e2⟩ := hv
    exact ⟨b, n, c, h.rowv r _ (hR r (by simp [AV.sls])) e1, e2⟩
  | .ptr r o, v, _, hv => by
    simp only [VR] at hv ⊢
    obtain ⟨b, e1, e2⟩ := hv
    exact ⟨b, h.blk r b e1, e2⟩
  | .clo f fs cs, v, hR, hv => by
    simp only [VR] at hv ⊢
    obtain ⟨xs, ys, e1, e2, e3⟩ := hv
    exact ⟨xs, ys, e1, VRs.mono h fs xs (fun r hr => hR r (by simp [AV.sls, hr])) e2, VRs.mono h cs ys (fun r hr => hR r (by simp [AV.sls, hr])) e3⟩
  | .agg l, v, hR, hv => by
    simp only [VR] at hv ⊢
    obtain ⟨xs, e1, e2⟩ := hv
    exact ⟨xs, e1, VRs.mono h l xs (fun r hr => hR r (by simpa [AV.sls] using hr)) e2⟩
  | .tup l, v, hR, hv => by
    simp only [VR] at hv ⊢
    obtain ⟨xs, e1, e2⟩ := hv
    exact ⟨xs, e1, VRs.mono h l xs (fun r hr => hR r (by simpa [AV.sls] using hr)) e2⟩
  | .bad, v, _, _ => by simp only [VR]
theorem VRs.mono {E F : Env} {R : Nat → Prop} (h : E.le F R) : ∀ (l : List AV) (vs : List Value), (∀ r ∈ AV.slsL l, R r) → VRs E l vs → VRs F l vs
  | [], [], _, hv => by simp only [VRs]
  | [], _ :: _, _, hv => by simp only [VRs] at hv
  | _ :: _, [], _, hv => by simp only [VRs] at hv
  | a :: l, x :: xs, hR, hv => by
    simp only [VRs] at hv ⊢
    exact ⟨VR.mono h a x (fun r hr => hR r (by simp [AV.slsL, hr])) hv.1, VRs.mono h l xs (fun r hr => hR r (by simp [AV.slsL, hr])) hv.2⟩
end
theorem VRs.length {E : Env} : ∀ {l : List AV} {vs : List Value}, VRs E l vs → vs.length = l.length
  | [], [], _ => rfl
  | [], _ :: _, h => by simp only [VRs] at h
  | _ :: _, [], h => by simp only [VRs] at h
  | a :: l, x :: xs, h => by
    simp only [VRs] at h
    simp [VRs.length h.2]
theorem mem_iff (n : Nat) : ∀ L : List Nat, mem n L = true ↔ n ∈ L
  | [] => by simp [mem]
  | k :: L => by
    have hb : (Nat.beq k n = true) ↔ k = n := by rw [Nat.beq_eq]
    simp only [mem, Bool.or_eq_true, mem_iff n L, List.mem_cons, hb]
    constructor
    · rintro (h | h)
      · exact .inl h.symm
      · exact .inr h
    · rintro (h | h)
      · exact .inl h.symm
      · exact .inr h
/-! ### killing -/
mutual
theorem VR.kill {E : Env} (L : List Nat) : ∀ (a : AV) (v : Value), VR E a v → VR E (a.kill L) v ∧ ∀ r ∈ (a.kill L).sls, r ∉ L
  | .v x, v, h => by simp only [AV.kill]; exact ⟨h, by simp [AV.sls]⟩
  | .d lf, v, h => by simp only [AV.kill]; exact ⟨h, by simp [AV.sls]⟩
  | .dp e x j, v, h => by simp only [AV.kill]; exact ⟨h, by simp [AV.sls]⟩
  | .full e xs, v, h => by simp only [AV.kill]; exact ⟨h, by simp [AV.sls]⟩
  | .ga e xs, v, h => by simp only [AV.kill]; exact ⟨h, by simp [AV.sls]⟩
  | .ptr r o, v, h => by simp only [AV.kill]; exact ⟨h, by simp [AV.sls]⟩
  | .bad, v, h => by simp only [AV.kill]; exact ⟨h, by simp [AV.sls]⟩
  | .sl r, v, h => by
    simp only [AV.kill]
    cases hm : mem r L with
    | true => exact ⟨by simp only [cond_true, VR], by simp [AV.sls]⟩
    | false =>
      refine ⟨h, fun k hk => ?_⟩
      simp [AV.sls] at hk
      subst hk
      exact fun hr => by rw [(mem_iff k L).2 hr] at hm; cases hm
  | .ep r s i j, v, h => by
    simp only [AV.kill]
    cases hm : mem r L with
    | true => exact ⟨by simp only [cond_true, VR], by simp [AV.sls]⟩
    | false =>
      refine ⟨h, fun k hk => ?_⟩
      simp [AV.sls] at hk
      subst hk
      exact fun hr => by rw [(mem_iff k L).2 hr] at hm; cases hm
  | .clo f fs cs, v, h => by
    simp only [AV.kill]
    simp only [VR] at h ⊢
    obtain ⟨xs, ys, e1, e2, e3⟩ := h
    obtain ⟨g1, g2⟩ := VRs.kill L fs xs e2
    obtain ⟨k1, k2⟩ := VRs.kill L cs ys e3
    exact ⟨⟨xs, ys, e1, g1, k1⟩, fun r hr => by
      simp only [AV.sls, List.mem_append] at hr
      exact hr.elim (g2 r) (k2 r)⟩
  | .agg l, v, h => by
    simp only [AV.kill]
    simp only [VR] at h ⊢
    obtain ⟨xs, e1, e2⟩ := h
    obtain ⟨g1, g2⟩ := VRs.kill L l xs e2
    exact ⟨⟨xs, e1, g1⟩, fun r hr => g2 r (by simpa [AV.sls] using hr)⟩
  | .tup l, v, h => by
    simp only [AV.kill]
    simp only [VR] at h ⊢
    obtain ⟨xs, e1, e2⟩ := h
    obtain ⟨g1, g2⟩ := VRs.kill L l xs e2
    exact ⟨⟨xs, e1, g1⟩, fun r hr => g2 r (by simpa [AV.sls] using hr)⟩
theorem VRs.kill {E : Env} (L : List Nat) : ∀ (l : List AV) (vs : List Value), VRs E l vs → VRs E (AV.killL L l) vs ∧ ∀ r ∈ AV.slsL (AV.killL L l), r ∉ L
  | [], [], h => by simp only [AV.killL]; exact ⟨h, by simp [AV.slsL]⟩
  | [], _ :: _, h => by simp only [VRs] at h
  | _ :: _, [], h => by simp only [VRs] at h
  | a :: l, x :: xs, h => by
    simp only [AV.killL]
    simp only [VRs] at h ⊢
    obtain ⟨g1, g2⟩ := VR.kill L a x h.1
    obtain ⟨k1, k2⟩ := VRs.kill L l xs h.2
    exact ⟨⟨g1, k1⟩, fun r hr => by
      simp only [AV.slsL, List.mem_append] at hr
      exact hr.elim (g2 r) (k2 r)⟩
end
/-! ### renaming -/
def Env.pull (E : Env) (σ : Nat → Nat) : Env := { blk := fun r => E.blk (σ r), rowv := fun r => E.rowv (σ r), own := fun r => E.own (σ r), Φ := E.Φ }
mutual
/-- A renamed value reads in E as the value itself in F, if F knows under the old names what E knows under the new ones. -/
theorem VR.ren {E F : Env} (σ : Nat → Nat) (hp : F.Φ.le E.Φ) : ∀ (a : AV) (v : Value), (∀ r ∈ a.refs, (∀ b, F.blk r = some b → E.blk (σ r) = some b) ∧ ∀ u, F.rowv r = some u → E.rowv (σ r) = some u) → VR F a v → VR E (a.ren σ) v
  | .v x, v, _, h => by simp only [AV.ren]; exact h
  | .d lf, v, _, h => by simp only [AV.ren, VR] at h ⊢; exact h.mono hp
  | .dp e x j, v, _, h => by
    simp only [AV.ren, VR] at h ⊢
    obtain ⟨b, off, e1, e2⟩ := h
    exact ⟨b, off, e1, e2.mono hp⟩
  | .full e xs, v, _, h => by simp only [AV.ren, VR] at h ⊢; exact ⟨h.1, h.2.mono hp⟩
  | .ga e xs, v, _, h => by
    simp only [AV.ren, VR] at h ⊢
    obtain ⟨b, off, e1, e2⟩ := h
    exact ⟨b, off, e1, e2.mono hp⟩
  | .bad, v, _, h => by simp only [AV.ren, VR]
  | .sl r, v, hr, h => by
    simp only [AV.ren, VR] at h ⊢
    exact ⟨(hr r (by simp [AV.refs])).2 v h.1, h.2⟩
  | .ep r s i j, v, hr, h => by
    simp only [AV.ren, VR] at h ⊢
    obtain ⟨b, n, c, e1, e2⟩ := h
    exact ⟨b, n, c, (hr r (by simp [AV.refs])).2 _ e1, e2⟩
  | .ptr r o, v, hr, h => by
    simp only [AV.ren, VR] at h ⊢
    obtain ⟨b, e1, e2⟩ := h
    exact ⟨b, (hr r (by simp [AV.refs])).1 b e1, e2⟩
  | .clo f fs cs, v, hr, h => by
    simp only [AV.ren, VR] at h ⊢
    obtain ⟨xs, ys, e1, e2, e3⟩ := h
    exact ⟨xs, ys, e1, VRs.ren σ hp fs xs (fun r h => hr r (by simp [AV.refs, h])) e2, VRs.ren σ hp cs ys (fun r h => hr r (by simp [AV.refs, h])) e3⟩
  | .agg l, v, hr, h => by
    simp only [AV.ren, VR] at h ⊢
    obtain ⟨xs, e1, e2⟩ := h
    exact ⟨xs, e1, VRs.ren σ hp l xs (fun r h => hr r (by simpa [AV.refs] using h)) e2⟩
  | .tup l, v, hr, h => by
    simp only [AV.ren, VR] at h ⊢
    obtain ⟨xs, e1, e2⟩ := h
    exact ⟨xs, e1, VRs.ren σ hp l xs (fun r h => hr r (by simpa [AV.refs] using h)) e2⟩
theorem VRs.ren {E F : Env} (σ : Nat → Nat) (hp : F.Φ.le E.Φ) : ∀ (l : List AV) (vs : List Value), (∀ r ∈ AV.refsL l, (∀ b, F.blk r = some b → E.blk (σ r) = some b) ∧ ∀ u, F.rowv r = some u → E.rowv (σ r) = some u) → VRs F l vs → VRs E (AV.renL σ l) vs
  | [], [], _, h => by simp only [AV.renL]; exact h
  | [], _ :: _, _, h => by simp only [VRs] at h
  | _ :: _, [], _, h => by simp only [VRs] at h
  | a :: l, x :: xs, hr, h => by
    simp only [AV.renL]
    simp only [VRs] at h ⊢
    exact ⟨VR.ren σ hp a x (fun r h => hr r (by simp [AV.refsL, h])) h.1, VRs.ren σ hp l xs (fun r h => hr r (by simp [AV.refsL, h])) h.2⟩
end
end Go.Proofs.Ev
namespace Go.Proofs.Ev
open Go
set_option linter.unusedVariables false
def LRs (Φ : Phi) : List Lf → List Value → Prop
  | [], [] => True
  | a :: l, v :: vs => LR Φ a v ∧ LRs Φ l vs
  | [], _ :: _ => False
  | _ :: _, [] => False
theorem LRs.length {Φ : Phi} : ∀ {l : List Lf} {vs : List Value}, LRs Φ l vs → vs.length = l.length
  | [], [], _ => rfl
  | [], _ :: _, h => by simp only [LRs] at h
  | _ :: _, [], h => by simp only [LRs] at h
  | _ :: _, _ :: _, h => by simp only [LRs] at h; simp [LRs.length h.2]
theorem LRs.mono {Φ Ψ : Phi} (hp : Φ.le Ψ) : ∀ {l : List Lf} {vs : List Value}, LRs Φ l vs → LRs Ψ l vs
  | [], [], _ => by simp only [LRs]
  | [], _ :: _, h => by simp only [LRs] at h
  | _ :: _, [], h => by simp only [LRs] at h
  | _ :: _, _ :: _, h => by simp only [LRs] at h ⊢; exact ⟨h.1.mono hp, LRs.mono hp h.2⟩
theorem LRs.get {Φ : Phi} : ∀ {l : List Lf} {vs : List Value}, LRs Φ l vs → ∀ (i : Nat) (lf : Lf), l[i]? = some lf → ∃ v, vs[i]? = some v ∧ LR Φ lf v
  | [], _, _, i, lf, h => by simp at h
  | _ :: _, [], h, _, _, _ => by simp only [LRs] at h
  | a :: l, v :: vs, h, 0, lf, hi => by
    simp only [LRs] at h
    simp at hi; subst hi
    exact ⟨v, rfl, h.1⟩
  | a :: l, v :: vs, h, i + 1, lf, hi => by
    simp only [LRs] at h
    simpa using LRs.get h.2 i lf (by simpa using hi)
theorem LRs.append {Φ : Phi} : ∀ {l l' : List Lf} {vs vs' : List Value}, LRs Φ l vs → LRs Φ l' vs' → LRs Φ (l ++ l') (vs ++ vs')
  | [], l', [], vs', _, h => h
  | [], _, _ :: _, _, h, _ => by simp only [LRs] at h
  | _ :: _, _, [], _, h, _ => by simp only [LRs] at h
  | a :: l, l', x :: xs, vs', h, h' => by
    simp only [LRs] at h
    simp only [List.cons_append, LRs]
    exact ⟨h.1, LRs.append h.2 h'⟩
theorem lk_cons {α : Type} (t : List (Nat × α)) (n k : Nat) (x : α) : lk ((n, x) :: t) k = if k = n then some x else lk t k := by
  simp only [lk]
  by_cases h : k = n
  · subst h
    have : Nat.beq k k = true := by rw [Nat.beq_eq]
    rw [if_pos rfl, this]; rfl
  · have : Nat.beq n k = false := by
      cases hb : Nat.beq n k
      · rfl
      · rw [Nat.beq_eq] at hb; exact absurd hb.symm h
    rw [if_neg h, this]; rfl
theorem lk_setr {α : Type} (n : Nat) (y : α) : ∀ (t : List (Nat × α)) (k : Nat), lk (setr t n y) k = if k = n then some y else lk t k
  | [], k => by rw [setr, lk_cons]
  | (m, x) :: t, k => by
    simp only [setr]
    by_cases h : m = n
    · subst h
      have : Nat.beq m m = true := by rw [Nat.beq_eq]
      rw [this]; simp only [cond_true, lk_cons]
      split <;> rfl
    · have hb : Nat.beq m n = false := by
        cases hb : Nat.beq m n
        · rfl
        · rw [Nat.beq_eq] at hb; exact absurd hb h
      rw [hb]; simp only [cond_false, lk_cons, lk_setr n y t k]
      by_cases hk : k = m
      · subst hk; rw [if_pos rfl, if_neg h, if_pos rfl]
      · rw [if_neg hk, if_neg hk]
/-! ### memory -/
def PhiOk (Φ : Phi) (w : World) : Prop := ∀ b o v, Φ b o = some v → ∃ c T fr, w.heap[b]? = some (.cells c T fr) ∧ c[o]? = some v
def Res.sls : Res → List Nat
  | .box _ c => AV.slsL c
  | _ => []
def ResOk (C : Cfg) (E : Env) (w : World) (r : Nat) : Res → Prop
  | .box T c => E.rowv r = none ∧ ∃ b vs, E.blk r = some b ∧ E.own r b ∧ w.heap[b]? = some (.cells vs.toArray T (0, 0)) ∧ VRs E c vs ∧ ∀ o, E.Φ b o = none
  | .row te e xs => E.blk r = none ∧ C.ty te = some e ∧ ∃ A cap, E.rowv r = some (.slice A xs.length cap) ∧ LR E.Φ ⟨.rows e, xs⟩ (.slice A xs.length cap) ∧
      (cap = 0 ∨ ∃ g cur, A = some ⟨g, 0, none⟩ ∧ E.own r g ∧ w.heap[g]? = some (.cells cur te (0, 0)) ∧ cur.size = cap * e.size ∧ xs.length ≤ cap ∧ ∀ o, xs.length * e.size ≤ o → E.Φ g o = none)
  | .arr te e xs => E.blk r = none ∧ C.ty te = some e ∧ ∃ g cap cur vs, E.rowv r = some (.slice (some ⟨g, 0, none⟩) xs.length cap) ∧ E.own r g ∧ w.heap[g]? = some (.cells cur te (0, 0)) ∧ cur.size = cap * e.size ∧ xs.length ≤ cap ∧
      LRs E.Φ (xs.flatMap (cells e)) vs ∧ (∀ (k : Nat) (v : Value), vs[k]? = some v → cur[k]? = some v) ∧ ∀ o, E.Φ g o = none
  | .gone => E.blk r = none ∧ E.rowv r = none
  | .iter s pos => E.rowv r = none ∧ ∃ b, E.blk r = some b ∧ E.own r b ∧ w.heap[b]? = some (.stringIter s pos) ∧ ∀ o, E.Φ b o = none
  | .bld T s => E.rowv r = none ∧ ∃ b A cap sf, E.blk r = some b ∧ E.own r b ∧ w.heap[b]? = some (.cells #[sf, .slice A s.size cap] T (0, 0)) ∧ (∀ o, E.Φ b o = none) ∧
      (sf = .pointer none ∨ sf = .pointer (some ⟨b, 0, none⟩)) ∧ (A = none ∧ cap = 0 ∧ s.size = 0 ∨
        ∃ g cur te hi, A = some ⟨g, 0, none⟩ ∧ g ≠ b ∧ E.own r g ∧ w.heap[g]? = some (.cells cur te (0, hi)) ∧ hi ≤ s.size ∧ C.P.underlying te = some (.int .u8) ∧ cur.size = cap ∧ s.size ≤ cap ∧
          (∀ i, (h : i < s.size) → cur[i]? = some (.int .u8 (s[i]'h).toNat)) ∧ ∀ o, E.Φ g o = none)
structure MR (C : Cfg) (E : Env) (w : World) (T : Nat → Option Res) : Prop where
  phi : PhiOk E.Φ w
  res : ∀ r x, T r = some x → ResOk C E w r x
  dom : ∀ r, T r = none → E.blk r = none ∧ E.rowv r = none ∧ ∀ b, ¬ E.own r b
  lt : ∀ r b, E.own r b → b < w.heap.size
  sep : ∀ r r' b, E.own r b → E.own r' b → r = r'
theorem ResOk.mono {C : Cfg} {E F : Env} {w w' : World} {r : Nat} {x : Res} {R : Nat → Prop} (h : ResOk C E w r x) (le : E.le F R) (hb : F.blk r = E.blk r) (hr : F.rowv r = E.rowv r)
    (hs : ∀ k ∈ x.sls, R k) (ho : ∀ b, E.own r b → F.own r b ∧ w'.heap[b]? = w.heap[b]? ∧ ∀ o, F.Φ b o = E.Φ b o) : ResOk C F w' r x := by
  cases x with
  | box T c =>
    obtain ⟨h0, b, vs, h1, h2, h3, h4, h5⟩ := h
    obtain ⟨k1, k2, k3⟩ := ho b h2
    exact ⟨by rw [hr, h0], b, vs, le.blk r b h1, k1, by rw [k2, h3], VRs.mono le c vs hs h4, fun o => by rw [k3, h5]⟩
  | row te e xs =>
    obtain ⟨h0, h1, A, cap, h2, h3, h4⟩ := h
    refine ⟨by rw [hb, h0], h1, A, cap, by rw [hr, h2], h3.mono le.phi, ?_⟩
    rcases h4 with h4 | ⟨g, cur, e1, e2, e3, e4, e5, e6⟩
    · exact .inl h4
    · obtain ⟨k1, k2, k3⟩ := ho g e2
      exact .inr ⟨g, cur, e1, k1, by rw [k2, e3], e4, e5, fun o h => by rw [k3, e6 o h]⟩
  | arr te e xs =>
    obtain ⟨h0, h1, g, cap, cur, vs, q1, q2, q3, q4, q5, q6, q7, q8⟩ := h
    obtain ⟨k1, k2, k3⟩ := ho g q2
    exact ⟨by rw [hb, h0], h1, g, cap, cur, vs, by rw [hr, q1], k1, by rw [k2, q3], q4, q5, q6.mono le.phi, q7, fun o => by rw [k3, q8]⟩
  | gone => exact ⟨by rw [hb, h.1], by rw [hr, h.2]⟩
  | iter s pos =>
    obtain ⟨h0, b, h1, h2, h3, h4⟩ := h
    obtain ⟨k1, k2, k3⟩ := ho b h2
    exact ⟨by rw [hr, h0], b, le.blk r b h1, k1, by rw [k2, h3], fun o => by rw [k3, h4]⟩
  | bld T s =>
    obtain ⟨h0, b, A, cap, sf, h1, h2, h3, h4, h5, h6⟩ := h
    obtain ⟨k1, k2, k3⟩ := ho b h2
    refine ⟨by rw [hr, h0], b, A, cap, sf, le.blk r b h1, k1, by rw [k2, h3], fun o => by rw [k3, h4], h5, ?_⟩
    rcases h6 with h6 | ⟨g, cur, te, hi, e1, e2, e3, e4, e5, e6, e7, e8, e9, e10⟩
    · exact .inl h6
    · obtain ⟨q1, q2, q3⟩ := ho g e3
      exact .inr ⟨g, cur, te, hi, e1, e2, q1, by rw [q2, e4], e5, e6, e7, e8, e9, fun o => by rw [q3, e10]⟩
/-- One block, or row, is new or turns. -/
theorem MR.upd {C : Cfg} {E F : Env} {w w' : World} {T : Nat → Option Res} (hM : MR C E w T) (r : Nat) (x' : Res) {R : Nat → Prop} (le : E.le F R) (hs : ∀ k x, T k = some x → k ≠ r → ∀ j ∈ x.sls, R j)
    (hb : ∀ k, k ≠ r → F.blk k = E.blk k) (hr : ∀ k, k ≠ r → F.rowv k = E.rowv k) (ho : ∀ k b, k ≠ r → (F.own k b ↔ E.own k b))
    (fr : ∀ k b, k ≠ r → E.own k b → w'.heap[b]? = w.heap[b]? ∧ ∀ o, F.Φ b o = E.Φ b o) (phi : PhiOk F.Φ w') (new : ResOk C F w' r x')
    (lt : ∀ b, F.own r b → b < w'.heap.size) (sz : w.heap.size ≤ w'.heap.size) (sep : ∀ k b, k ≠ r → E.own k b → ¬ F.own r b) :
    MR C F w' (fun k => if k = r then some x' else T k) where
  phi := phi
  res := fun k x hk => by
    by_cases hkr : k = r
    · subst hkr
      rw [if_pos rfl] at hk
      injection hk with hk
      subst hk
      exact new
    · rw [if_neg hkr] at hk
      exact (hM.res k x hk).mono le (hb k hkr) (hr k hkr) (hs k x hk hkr) (fun b hob => ⟨(ho k b hkr).2 hob, fr k b hkr hob⟩)
  dom := fun k hk => by
    by_cases hkr : k = r
    · subst hkr; rw [if_pos rfl] at hk; cases hk
    · rw [if_neg hkr] at hk
      obtain ⟨h1, h2, h3⟩ := hM.dom k hk
      exact ⟨by rw [hb k hkr, h1], by rw [hr k hkr, h2], fun b hob => h3 b ((ho k b hkr).1 hob)⟩
  lt := fun k b hob => by
    by_cases hkr : k = r
    · subst hkr; exact lt b hob
    · exact Nat.lt_of_lt_of_le (hM.lt k b ((ho k b hkr).1 hob)) sz
  sep := fun k k' b h1 h2 => by
    by_cases hk : k = r
    · by_cases hk' : k' = r
      · rw [hk, hk']
      · subst hk; exact absurd h1 (sep k' b hk' ((ho k' b hk').1 h2))
    · by_cases hk' : k' = r
      · subst hk'; exact absurd h2 (sep k b hk ((ho k b hk).1 h1))
      · exact hM.sep k k' b ((ho k b hk).1 h1) ((ho k' b hk').1 h2)
mutual
theorem VR.sls_def {E : Env} : ∀ (a : AV) (v : Value), VR E a v → ∀ r ∈ a.sls, ∃ u, E.rowv r = some u
  | .v x, v, h, r, hr => by simp [AV.sls] at hr
  | .d lf, v, h, r, hr => by simp [AV.sls] at hr
  | .dp e x j, v, h, r, hr => by simp [AV.sls] at hr
  | .full e xs, v, h, r, hr => by simp [AV.sls] at hr
  | .ga e xs, v, h, r, hr => by simp [AV.sls] at hr
  | .ptr k o, v, h, r, hr => by simp [AV.sls] at hr
  | .bad, v, h, r, hr => by simp [AV.sls] at hr
  | .sl k, v, h, r, hr => by
    simp [AV.sls] at hr
    subst hr
    simp only [VR] at h
    exact ⟨v, h.1⟩
  | .ep k s i j, v, h, r, hr => by
    simp [AV.sls] at hr
    subst hr
    simp only [VR] at h
    obtain ⟨b, n, c, h1, _⟩ := h
    exact ⟨_, h1⟩
  | .clo f fs cs, v, h, r, hr => by
    simp only [VR] at h
    obtain ⟨xs, ys, e1, e2, e3⟩ := h
    simp only [AV.sls, List.mem_append] at hr
    exact hr.elim (VRs.sls_def fs xs e2 r) (VRs.sls_def cs ys e3 r)
  | .agg l, v, h, r, hr => by
    simp only [VR] at h
    obtain ⟨xs, e1, e2⟩ := h
    exact VRs.sls_def l xs e2 r (by simpa [AV.sls] using hr)
  | .tup l, v, h, r, hr => by
    simp only [VR] at h
    obtain ⟨xs, e1, e2⟩ := h
    exact VRs.sls_def l xs e2 r (by simpa [AV.sls] using hr)
theorem VRs.sls_def {E : Env} : ∀ (l : List AV) (vs : List Value), VRs E l vs → ∀ r ∈ AV.slsL l, ∃ u, E.rowv r = some u
  | [], [], h, r, hr => by simp [AV.slsL] at hr
  | [], _ :: _, h, r, hr => by simp only [VRs] at h
  | _ :: _, [], h, r, hr => by simp only [VRs] at h
  | a :: l, x :: xs, h, r, hr => by
    simp only [VRs] at h
    simp only [AV.slsL, List.mem_append] at hr
    exact hr.elim (VR.sls_def a x h.1 r) (VRs.sls_def l xs h.2 r)
end
theorem MR.sls_def {C : Cfg} {E : Env} {w : World} {T : Nat → Option Res} (hM : MR C E w T) {k : Nat} {x : Res} (hk : T k = some x) : ∀ r ∈ x.sls, ∃ u, E.rowv r = some u := by
  have h := hM.res k x hk
  cases x with
  | box S c => obtain ⟨_, b, vs, _, _, _, h4, _⟩ := h; exact VRs.sls_def c vs h4
  | _ => intro r hr; simp [Res.sls] at hr
end Go.Proofs.Ev
namespace Go.Proofs.Ev
open Go
set_option linter.unusedVariables false
set_option linter.unusedSimpArgs false
/-- How things stand behind some steps of a call: S: the blocks that it may write. -/
structure Inv (S : Nat → Prop) (E0 : Env) (w0 : World) (m : Nat) (E : Env) (w : World) : Prop where
  m40 : m ≤ 40
  os : w.os = w0.os
  tape : w.tape = w0.tape
  output : w.output = w0.output
  size : w0.heap.size ≤ w.heap.size
  keep : ∀ b, b < w0.heap.size → ¬ S b → w.heap[b]? = w0.heap[b]?
  own : ∀ r b, E.own r b → S b ∨ w0.heap.size ≤ b
  phi : E0.Φ.le E.Φ
  new : ∀ b o v, E.Φ b o = some v → E0.Φ b o = some v ∨ S b ∨ w0.heap.size ≤ b
  fb : ∀ r, r < m → E.blk r = E0.blk r
theorem heap_alloc (w : World) (o : Obj) (b : Nat) : (w.alloc o).heap[b]? = if b = w.heap.size then some o else w.heap[b]? := by
  show (w.heap.push o)[b]? = _
  rw [Array.getElem?_push]
theorem heap_alloc_lt {w : World} {o : Obj} {b : Nat} (h : b < w.heap.size) : (w.alloc o).heap[b]? = w.heap[b]? := by rw [heap_alloc, if_neg (by omega)]
theorem size_lt {w : World} {b : Nat} {o : Obj} (h : w.heap[b]? = some o) : b < w.heap.size := (Array.getElem?_eq_some_iff.1 h).1
theorem PhiOk.alloc {Φ : Phi} {w : World} (h : PhiOk Φ w) (o : Obj) : PhiOk Φ (w.alloc o) := fun b i v hv => by
  obtain ⟨c, T, fr, h1, h2⟩ := h b i v hv
  exact ⟨c, T, fr, by rw [heap_alloc_lt (size_lt h1), h1], h2⟩
theorem PhiOk.none {Φ : Phi} {w : World} (h : PhiOk Φ w) {b : Nat} (hb : w.heap.size ≤ b) (o : Nat) : Φ b o = none := by
  cases hv : Φ b o with
  | none => rfl
  | some v =>
    obtain ⟨c, T, fr, h1, _⟩ := h b o v hv
    have := size_lt h1
    omega
def Env.addB (E : Env) (r b : Nat) : Env := { E with blk := fun k => if k = r then some b else E.blk k, own := fun k c => if k = r then c = b else E.own k c }
theorem Env.addB_le {E : Env} {r b : Nat} (h : E.blk r = none) (R : Nat → Prop) : E.le (E.addB r b) R where
  blk := fun k c hk => by
    simp only [Env.addB]
    rw [if_neg (fun e => by subst e; rw [h] at hk; cases hk)]
    exact hk
  rowv := fun k v _ hk => hk
  phi := fun _ _ _ hv => hv
theorem MR.fresh {C : Cfg} {E : Env} {w : World} {T : Nat → Option Res} (hM : MR C E w T) {r : Nat} (hr : T r = none) : ∀ k x, T k = some x → k ≠ r → r ∉ x.sls := fun k x hk _ hm => by
  obtain ⟨u, hu⟩ := hM.sls_def hk r hm
  rw [(hM.dom r hr).2.1] at hu
  cases hu
/-- A new block that one box, iterator .. is. -/
theorem MR.newObj {C : Cfg} {E : Env} {w : World} {T : Nat → Option Res} (hM : MR C E w T) {r : Nat} (hr : T r = none) (o : Obj) (x : Res)
    (hx : ResOk C (E.addB r w.heap.size) (w.alloc o) r x) : MR C (E.addB r w.heap.size) (w.alloc o) (fun k => if k = r then some x else T k) := by
  obtain ⟨h1, h2, h3⟩ := hM.dom r hr
  refine hM.upd r x (R := fun _ => True) (Env.addB_le h1 _) (fun _ _ _ _ _ _ => trivial) ?_ (fun _ _ => rfl) ?_ ?_ (hM.phi.alloc o) hx ?_ (by simp) ?_
  · intro k hk; simp [Env.addB, hk]
  · intro k b hk; simp [Env.addB, hk]
  · intro k b hk hob
    exact ⟨heap_alloc_lt (hM.lt k b hob), fun _ => rfl⟩
  · intro b hb
    simp [Env.addB] at hb
    subst hb
    simp
  · intro k b hk hob hb
    simp [Env.addB] at hb
    have := hM.lt k b hob
    omega
theorem Inv.alloc {S : Nat → Prop} {E0 E : Env} {w0 w : World} {m : Nat} (h : Inv S E0 w0 m E w) {r : Nat} (hr : m ≤ r) (o : Obj) : Inv S E0 w0 m (E.addB r w.heap.size) (w.alloc o) where
  m40 := h.m40
  os := h.os
  tape := h.tape
  output := h.output
  size := by have := h.size; simp; omega
  keep := fun b hb hS => by rw [heap_alloc_lt (by have := h.size; omega)]; exact h.keep b hb hS
  own := fun k b hk => by
    simp only [Env.addB] at hk
    split at hk
    · subst hk; exact .inr h.size
    · exact h.own k b hk
  phi := h.phi
  new := h.new
  fb := fun k hk => by
    simp only [Env.addB]
    rw [if_neg (by omega)]
    exact h.fb k hk
/-- Only draws. -/
theorem MR.drew {C : Cfg} {E : Env} {w : World} {T : Nat → Option Res} (hM : MR C E w T) {w' : World} (hh : w'.heap = w.heap) : MR C E w' T where
  phi := fun b o v hv => by rw [hh]; exact hM.phi b o v hv
  res := fun r x hx => by
    refine (hM.res r x hx).mono (R := fun _ => True) ⟨fun _ _ h => h, fun _ _ _ h => h, fun _ _ _ h => h⟩ rfl rfl (fun _ _ => trivial) (fun b hb => ⟨hb, by rw [hh], fun _ => rfl⟩)
  dom := hM.dom
  lt := fun r b hb => by rw [hh]; exact hM.lt r b hb
  sep := hM.sep
theorem Inv.drew {S : Nat → Prop} {E0 E : Env} {w0 w : World} {m : Nat} (h : Inv S E0 w0 m E w) : Inv S E0 w0 m E w.drew := ⟨h.m40, h.os, h.tape, h.output, h.size, h.keep, h.own, h.phi, h.new, h.fb⟩
theorem MR.congr {C : Cfg} {E : Env} {w : World} {T T' : Nat → Option Res} (hM : MR C E w T) (h : ∀ r, T' r = T r) : MR C E w T' := by
  have : T' = T := funext h
  rw [this]; exact hM
/-! ### killing what names a row -/
theorem lk_map {α β : Type} (f : α → β) : ∀ (t : List (Nat × α)) (k : Nat), lk (t.map fun x => (x.1, f x.2)) k = (lk t k).map f
  | [], k => rfl
  | (n, x) :: t, k => by
    simp only [List.map_cons, lk]
    cases Nat.beq n k
    · exact lk_map f t k
    · rfl
theorem Res.kill_sls {L : List Nat} {C : Cfg} {E : Env} {w : World} {r : Nat} {x : Res} (h : ResOk C E w r x) : ResOk C E w r (x.kill L) ∧ ∀ k ∈ (x.kill L).sls, k ∉ L := by
  cases x with
  | box T c =>
    obtain ⟨h0, b, vs, h1, h2, h3, h4, h5⟩ := h
    obtain ⟨g1, g2⟩ := VRs.kill L c vs h4
    exact ⟨⟨h0, b, vs, h1, h2, h3, g1, h5⟩, g2⟩
  | row te e xs => exact ⟨h, by simp [Res.kill, Res.sls]⟩
  | arr te e xs => exact ⟨h, by simp [Res.kill, Res.sls]⟩
  | gone => exact ⟨h, by simp [Res.kill, Res.sls]⟩
  | iter s pos => exact ⟨h, by simp [Res.kill, Res.sls]⟩
  | bld T s => exact ⟨h, by simp [Res.kill, Res.sls]⟩
theorem MR.kill {C : Cfg} {E : Env} {w : World} {T : Nat → Option Res} (hM : MR C E w T) (L : List Nat) : MR C E w (fun r => (T r).map (Res.kill L)) where
  phi := hM.phi
  res := fun r x hx => by
    obtain ⟨y, hy, rfl⟩ := Option.map_eq_some_iff.1 hx
    exact (Res.kill_sls (hM.res r y hy)).1
  dom := fun r hr => hM.dom r (by cases h : T r <;> simp [h] at hr ⊢)
  lt := hM.lt
  sep := hM.sep
/-! ### a store into a box -/
theorem VRs.append {E : Env} : ∀ {l l' : List AV} {vs vs' : List Value}, VRs E l vs → VRs E l' vs' → VRs E (l ++ l') (vs ++ vs')
  | [], l', [], vs', _, h => h
  | [], _, _ :: _, _, h, _ => by simp only [VRs] at h
  | _ :: _, _, [], _, h, _ => by simp only [VRs] at h
  | a :: l, l', x :: xs, vs', h, h' => by
    simp only [VRs] at h
    simp only [List.cons_append, VRs]
    exact ⟨h.1, h.2.append h'⟩
theorem VRs.take {E : Env} : ∀ (n : Nat) {l : List AV} {vs : List Value}, VRs E l vs → VRs E (l.take n) (vs.take n)
  | 0, _, _, _ => by simp only [List.take_zero, VRs]
  | n + 1, [], [], _ => by simp only [List.take_nil, VRs]
  | n + 1, [], _ :: _, h => by simp only [VRs] at h
  | n + 1, _ :: _, [], h => by simp only [VRs] at h
  | n + 1, a :: l, x :: xs, h => by
    simp only [VRs] at h
    simp only [List.take_succ_cons, VRs]
    exact ⟨h.1, h.2.take n⟩
theorem VRs.drop {E : Env} : ∀ (n : Nat) {l : List AV} {vs : List Value}, VRs E l vs → VRs E (l.drop n) (vs.drop n)
  | 0, _, _, h => h
  | n + 1, [], [], h => by simp only [List.drop_nil, VRs]
  | n + 1, [], _ :: _, h => by simp only [VRs] at h
  | n + 1, _ :: _, [], h => by simp only [VRs] at h
  | n + 1, a :: l, x :: xs, h => by
    simp only [VRs] at h
    simp only [List.drop_succ_cons]
    exact h.2.drop n
theorem VRs.get {E : Env} : ∀ {l : List AV} {vs : List Value}, VRs E l vs → ∀ (i : Nat) (a : AV), l[i]? = some a → ∃ v, vs[i]? = some v ∧ VR E a v
  | [], _, _, i, a, h => by simp at h
  | _ :: _, [], h, _, _, _ => by simp only [VRs] at h
  | b :: l, x :: xs, h, 0, a, hi => by
    simp only [VRs] at h
    simp at hi
    subst hi
    exact ⟨x, rfl, h.1⟩
  | b :: l, x :: xs, h, i + 1, a, hi => by
    simp only [VRs] at h
    simp only [List.getElem?_cons_succ] at hi ⊢
    exact h.2.get i a hi
/-- A row of cells in a block: what is behind storeCells. -/
def putObj (off : Nat) (vs : List Value) : Obj → Obj
  | .cells c T fr => .cells ((c.toList.take off ++ vs ++ c.toList.drop (off + vs.length)).toArray) T fr
  | o => o
def World.putCells (w : World) (b off : Nat) (vs : List Value) : World := { w with heap := w.heap.modify b (putObj off vs) }
theorem heap_putCells {w : World} {b off : Nat} {vs : List Value} (k : Nat) (h : k ≠ b) : (World.putCells w b off vs).heap[k]? = w.heap[k]? := by
  simp only [World.putCells, Array.getElem?_modify]
  rw [if_neg (by omega)]
theorem heap_putCells_same {w : World} {b off : Nat} {vs : List Value} {c : Array Value} {T : TypeId} {fr : Nat × Nat} (h : w.heap[b]? = some (.cells c T fr)) :
    (World.putCells w b off vs).heap[b]? = some (.cells ((c.toList.take off ++ vs ++ c.toList.drop (off + vs.length)).toArray) T fr) := by
  simp only [World.putCells, Array.getElem?_modify, if_true, h, Option.map_some, putObj]
theorem size_putCells {w : World} {b off : Nat} {vs : List Value} : (World.putCells w b off vs).heap.size = w.heap.size := by simp [World.putCells]
theorem oneCell'_of {v : Value} (h : oneV v = true) : v.oneCell' = true := by cases v <;> simp_all [oneV, Value.oneCell']
theorem run_store_at (P : Program) (w : World) (b o : Nat) (v : Value) (hv : oneV v = true) (c : Array Value) (T : TypeId) (fr : Nat × Nat) (hb : w.heap[b]? = some (.cells c T fr)) (ho : o < c.size) (hf : ¬ (fr.1 ≤ o ∧ o < fr.2)) :
    (store ⟨b, o, none⟩ v).run P w = .ok () (World.putCells w b o [v]) := by
  have hc : w.cell? ⟨b, o, none⟩ = some c[o] := by simp [World.cell?, hb, Array.getElem?_eq_getElem ho]
  have hz : w.frozen? ⟨b, o, none⟩ = false := by
    simp only [World.frozen?, hb]
    simp only [Bool.and_eq_false_iff, decide_eq_false_iff_not]
    omega
  rw [run_store P w _ v _ (oneCell'_of hv)]
  simp only [hc, hz, Bool.false_eq_true, if_false]
  congr 1
  simp only [World.setCell, World.putCells]
  congr 1
  have : b < w.heap.size := size_lt hb
  apply Array.ext
  · simp
  · intro i h1 h2
    simp only [Array.getElem_modify]
    by_cases hi : b = i
    · subst hi
      simp only [if_true]
      have hbb : w.heap[b] = .cells c T fr := by
        have := Array.getElem?_eq_getElem this
        rw [this] at hb
        exact Option.some.inj hb
      simp only [hbb, Option.isSome_none, Bool.false_eq_true, if_false, putObj]
      congr 1
      apply Array.ext'
      simp only [Array.toList_setIfInBounds, List.length_singleton]
      rw [List.set_eq_take_append_cons_drop, if_pos (by simpa using ho)]
      simp
    · simp only [if_neg hi]
end Go.Proofs.Ev
namespace Go.Proofs.Ev
open Go
set_option linter.unusedVariables false
set_option linter.unusedSimpArgs false
theorem putCells_nil (w : World) (b o : Nat) {c : Array Value} {T : TypeId} {fr : Nat × Nat} (hb : w.heap[b]? = some (.cells c T fr)) : World.putCells w b o [] = w := by
  have hlt := size_lt hb
  have hbb : w.heap[b] = .cells c T fr := by
    rw [Array.getElem?_eq_getElem hlt] at hb
    exact Option.some.inj hb
  simp only [World.putCells]
  have : w.heap.modify b (putObj o []) = w.heap := by
    apply Array.ext
    · simp
    · intro i h1 h2
      simp only [Array.getElem_modify]
      split
      · rename_i h; subst h
        rw [hbb]; simp [putObj]
      · rfl
  rw [this]
theorem putCells_cons (w : World) (b o : Nat) (v : Value) (vs : List Value) {c : Array Value} {T : TypeId} {fr : Nat × Nat} (hb : w.heap[b]? = some (.cells c T fr)) (ho : o < c.size) :
    World.putCells (World.putCells w b o [v]) b (o + 1) vs = World.putCells w b o (v :: vs) := by
  have hlt := size_lt hb
  have hbb : w.heap[b] = .cells c T fr := by
    rw [Array.getElem?_eq_getElem hlt] at hb
    exact Option.some.inj hb
  simp only [World.putCells]
  congr 1
  apply Array.ext
  · simp
  · intro i h1 h2
    simp only [Array.getElem_modify]
    split
    · rename_i h; subst h
      rw [hbb]
      simp only [putObj]
      congr 1
      apply Array.ext'
      simp only [List.length_singleton, List.length_cons, List.length_nil, Nat.zero_add]
      have hl : (c.toList.take o).length = o := by simp; omega
      have e1 : (c.toList.take o ++ [v] ++ c.toList.drop (o + 1)).take (o + 1) = c.toList.take o ++ [v] := by
        rw [List.take_append_of_le_length (by simp; omega), List.take_of_length_le (by simp; omega)]
      have e2 : (c.toList.take o ++ [v] ++ c.toList.drop (o + 1)).drop (o + 1 + vs.length) = c.toList.drop (o + (vs.length + 1)) := by
        rw [List.drop_append, List.drop_of_length_le (by simp; omega)]
        simp only [List.nil_append, List.drop_drop, List.length_append, hl, List.length_singleton]
        congr 1; omega
      rw [e1, e2]
      simp
    · rfl
theorem run_storeCells (P : Program) (b off : Nat) (T : TypeId) (fr : Nat × Nat) : ∀ (vs : List Value) (i : Nat) (w : World) (c : Array Value), w.heap[b]? = some (.cells c T fr) → (∀ v ∈ vs, oneV v = true) →
    off + i + vs.length ≤ c.size → (fr.2 ≤ off + i ∨ c.size ≤ fr.1) → (storeCells ⟨b, off, none⟩ vs i).run P w = .ok () (World.putCells w b (off + i) vs)
  | [], i, w, c, hb, _, hl, _ => by rw [putCells_nil w b _ hb]; simp [storeCells]
  | v :: vs, i, w, c, hb, hv, hl, hf => by
    have ha : (⟨b, off, none⟩ : Addr).add i = ⟨b, off + i, none⟩ := by unfold Addr.add; split <;> simp_all
    simp only [List.length_cons] at hl
    have h1 := run_store_at P w b (off + i) v (hv v (by simp)) c T fr hb (by omega) (by omega)
    have h2 := run_storeCells P b off T fr vs (i + 1) (World.putCells w b (off + i) [v]) _ (heap_putCells_same hb) (fun u hu => hv u (by simp [hu])) (by simp; omega) (by simp; omega)
    simp only [storeCells, Sem.run_bind, ha, h1, Result.andThen_ok, h2]
    congr 1
    exact putCells_cons w b (off + i) v vs hb (by omega)
theorem run_load_at (P : Program) (w : World) (b o : Nat) (v : Value) (hv : ∃ c T fr, w.heap[b]? = some (.cells c T fr) ∧ c[o]? = some v) : (load ⟨b, o, none⟩).run P w = .ok v w := by
  obtain ⟨c, T, fr, hb, hc⟩ := hv
  have : w.cell? ⟨b, o, none⟩ = some v := by simp [World.cell?, hb, hc]
  simp [this]
theorem run_loadCellsFrom (P : Program) (w : World) (b off : Nat) : ∀ (vs : List Value) (i : Nat) (acc : Array Value),
    (∀ j v, vs[j]? = some v → ∃ c T fr, w.heap[b]? = some (.cells c T fr) ∧ c[off + i + j]? = some v) → (loadCellsFrom ⟨b, off, none⟩ i vs.length acc).run P w = .ok (acc ++ vs.toArray) w
  | [], i, acc, _ => by simp [loadCellsFrom]
  | v :: vs, i, acc, h => by
    have ha : (⟨b, off, none⟩ : Addr).add i = ⟨b, off + i, none⟩ := by unfold Addr.add; split <;> simp_all
    have h1 := run_load_at P w b (off + i) v (by simpa using h 0 v rfl)
    have h2 := run_loadCellsFrom P w b off vs (i + 1) (acc.push v) (fun j u hu => by
      have := h (j + 1) u (by simpa using hu)
      rwa [show off + i + (j + 1) = off + (i + 1) + j by omega] at this)
    simp only [List.length_cons, loadCellsFrom, Sem.run_bind, ha, h1, Result.andThen_ok, h2]
    congr 1
    apply Array.ext'
    simp
theorem run_loadCells (P : Program) (w : World) (b off : Nat) (vs : List Value) (h : ∀ j v, vs[j]? = some v → ∃ c T fr, w.heap[b]? = some (.cells c T fr) ∧ c[off + j]? = some v) :
    (loadCells ⟨b, off, none⟩ vs.length).run P w = .ok vs.toArray w := by
  have := run_loadCellsFrom P w b off vs 0 #[] (by simpa using h)
  simpa [loadCells] using this
/-! ### what a type says -/
theorem run_typeInfo {P : Program} {t : TypeId} {i : TypeInfo} (h : P.info? t = some i) (w : World) : (typeInfo t).run P w = .ok i w := by simp [typeInfo, h]
theorem run_sizeOf' {P : Program} {t : TypeId} {i : TypeInfo} (h : P.info? t = some i) (w : World) : (sizeOf t).run P w = .ok (P.cellsOf t) w := by simp [sizeOf, run_typeInfo h, Program.cellsOf, h]
theorem run_underlying' {P : Program} {t : TypeId} {d : TypeDesc} (h : P.underlying t = some d) (w : World) : (underlying t).run P w = .ok d w := by simp [underlying, h]
theorem run_isAgg {P : Program} {t : TypeId} {d : TypeDesc} (h : P.underlying t = some d) (w : World) : (isAgg t).run P w = .ok (isAggT P t) w := by
  simp only [isAgg, Sem.run_bind, run_underlying' h, Result.andThen_ok, isAggT, h]
  cases d <;> rfl
theorem run_loadVar {P : Program} {t : TypeId} (hk : known P t = true) (w : World) (b off : Nat) (vs : List Value) (hn : vs.length = P.cellsOf t) (h1 : isAggT P t = false → vs.length = 1)
    (h : ∀ j v, vs[j]? = some v → ∃ c T fr, w.heap[b]? = some (.cells c T fr) ∧ c[off + j]? = some v) :
    (loadVar t ⟨b, off, none⟩).run P w = .ok (if isAggT P t then .agg vs.toArray else vs.headD undef) w := by
  simp only [known, Bool.and_eq_true, Option.isSome_iff_exists] at hk
  obtain ⟨⟨i, hi⟩, ⟨d, hd⟩⟩ := hk
  simp only [loadVar, Sem.run_bind, run_isAgg hd, Result.andThen_ok]
  cases ha : isAggT P t with
  | true => simp only [if_true, Sem.run_bind, run_sizeOf' hi, Result.andThen_ok, ← hn, run_loadCells P w b off vs h, Sem.run_pure]
  | false =>
    have := h1 ha
    match vs, this with
    | [v], _ => simpa using run_load_at P w b off v (by simpa using h 0 v rfl)
theorem run_storeVar {P : Program} {t : TypeId} (hk : known P t = true) (w : World) (b off : Nat) (x : Value) (hn : x.cells.toList.length = P.cellsOf t) (hv : ∀ v ∈ x.cells.toList, oneV v = true)
    {c : Array Value} {T : TypeId} (hb : w.heap[b]? = some (.cells c T (0, 0))) (hl : off + x.cells.toList.length ≤ c.size) : (storeVar t ⟨b, off, none⟩ x).run P w = .ok () (World.putCells w b off x.cells.toList) := by
  simp only [known, Bool.and_eq_true, Option.isSome_iff_exists] at hk
  obtain ⟨⟨i, hi⟩, ⟨d, hd⟩⟩ := hk
  have hn' : x.cells.size = P.cellsOf t := by simpa using hn
  simp only [storeVar, Sem.run_bind, run_sizeOf' hi, Result.andThen_ok, hn', ne_eq, not_true_eq_false, if_false]
  have := run_storeCells P b off T (0, 0) x.cells.toList 0 w c hb hv (by omega) (by simp)
  simpa using this
end Go.Proofs.Ev
namespace Go.Proofs.Ev
open Go
set_option linter.unusedVariables false
set_option linter.unusedSimpArgs false
/-- Slots, blocks and memory fit what is known of them. -/
structure St (C : Cfg) (E : Env) (st : AS) (a : Act) (w : World) : Prop where
  mr : MR C E w (lk st.t)
  sl : ∀ t x, lk st.s t = some x → ∃ v, a.tmps[t]? = some v ∧ VR E x v
  n : a.tmps.size = st.n
  df : a.defers = []
  gl : ∀ g p, C.glob g = some p → VR E (.ga p.1 p.2) (.pointer (some ⟨g, 0, none⟩))
theorem St.eval {C : Cfg} {E : Env} {st : AS} {a : Act} {w : World} (h : St C E st a w) (x : Operand) : VR E (evO C st x) (a.eval x) := by
  cases x with
  | tmp t =>
    simp only [evO, Act.eval]
    cases hs : lk st.s t with
    | none => simp only [Option.getD_none, VR]
    | some x =>
      obtain ⟨v, h1, h2⟩ := h.sl t x hs
      simp only [Option.getD_some, Array.getD_eq_getD_getElem?, h1]
      exact h2
  | const x => simp only [evO, Act.eval, VR]
  | global g =>
    simp only [evO, Act.eval]
    cases hg : C.glob g with
    | none => simp only [VR]
    | some p => exact h.gl g p hg
  | func f => simp only [evO, Act.eval, VR]
mutual
theorem VR.toV {E : Env} : ∀ (a : AV) (v u : Value), VR E a v → Ev.toV a = some u → v = u
  | .v x, v, u, h, hu => by
    simp only [Ev.toV, Option.some.injEq] at hu
    simp only [VR] at h
    rw [h, hu]
  | .agg l, v, u, h, hu => by
    simp only [Ev.toV] at hu
    simp only [VR] at h
    obtain ⟨xs, e1, e2⟩ := h
    cases hv : toVs l with
    | none => rw [hv] at hu; cases hu
    | some vs =>
      rw [hv] at hu
      injection hu with hu
      rw [e1, ← hu, VRs.toVs l xs vs e2 hv]
  | .tup l, v, u, h, hu => by
    simp only [Ev.toV] at hu
    simp only [VR] at h
    obtain ⟨xs, e1, e2⟩ := h
    cases hv : toVs l with
    | none => rw [hv] at hu; cases hu
    | some vs =>
      rw [hv] at hu
      injection hu with hu
      rw [e1, ← hu, VRs.toVs l xs vs e2 hv]
  | .d _, _, _, _, hu => by simp [Ev.toV] at hu
  | .dp _ _ _, _, _, _, hu => by simp [Ev.toV] at hu
  | .full _ _, _, _, _, hu => by simp [Ev.toV] at hu
  | .ga _ _, _, _, _, hu => by simp [Ev.toV] at hu
  | .sl _, _, _, _, hu => by simp [Ev.toV] at hu
  | .ptr _ _, _, _, _, hu => by simp [Ev.toV] at hu
  | .ep _ _ _ _, _, _, _, hu => by simp [Ev.toV] at hu
  | .clo _ _ _, _, _, _, hu => by simp [Ev.toV] at hu
  | .bad, _, _, _, hu => by simp [Ev.toV] at hu
theorem VRs.toVs {E : Env} : ∀ (l : List AV) (xs vs : List Value), VRs E l xs → Ev.toVs l = some vs → xs = vs
  | [], [], vs, _, hv => by simp only [Ev.toVs, Option.some.injEq] at hv; exact hv
  | [], _ :: _, _, h, _ => by simp only [VRs] at h
  | _ :: _, [], _, h, _ => by simp only [VRs] at h
  | a :: l, x :: xs, vs, h, hv => by
    simp only [Ev.toVs] at hv
    simp only [VRs] at h
    cases h1 : Ev.toV a with
    | none => rw [h1] at hv; cases hv
    | some u =>
      cases h2 : Ev.toVs l with
      | none => rw [h1, h2] at hv; cases hv
      | some us =>
        rw [h1, h2] at hv
        injection hv with hv
        rw [← hv, VR.toV a x u h.1 h1, VRs.toVs l xs us h.2 h2]
end
theorem allEx_eval {C : Cfg} {E : Env} {st : AS} {a : Act} {w : World} (h : St C E st a w) : ∀ (l : List Operand), allEx C st l = true → ∀ x ∈ l, a.eval x = exV C st x
  | [], _, x, hx => by cases hx
  | y :: l, hl, x, hx => by
    simp only [allEx, Bool.and_eq_true] at hl
    rcases List.mem_cons.1 hx with rfl | hx
    · obtain ⟨u, hu⟩ := Option.isSome_iff_exists.1 hl.1
      rw [exV, hu]
      exact VR.toV _ _ _ (h.eval x) hu
    · exact allEx_eval h l hl.2 x hx
variable {ρ : Type}
/-- What a quiet operation may look at is as it is in w. -/
def Sees (E : Env) (R : List Nat) (w w' : World) : Prop := PhiOk E.Φ w' ∧ ∀ r ∈ R, ∀ b, E.own r b → w'.heap[b]? = w.heap[b]?
/-- What is shown of a quiet operation. -/
def Quiet (C : Cfg) (E : Env) (st : AS) (a : Act) (w : World) (o : Oper) (K : AV → AS → Option ρ) (r : ρ) : Prop :=
  ∃ av v, K av st = some r ∧ VR E av v ∧ ∀ w', Sees E (reads C st o) w w' → (execOp a.eval o).run C.P w' = .ok (.value v) w'
theorem pureOp_quiet {C : Cfg} {E : Env} {st : AS} {a : Act} {w : World} {o : Oper} {K : AV → AS → Option ρ} {r : ρ} (h : St C E st a w) (hs : ∀ cs b, o.op ≠ .select cs b)
    (hp : pureOp C st o K = some r) : Quiet C E st a w o K r := by
  unfold pureOp at hp
  cases hl : allEx C st o.op.operands.toList with
  | false => rw [hl] at hp; cases hp
  | true =>
    rw [hl] at hp
    simp only [cond_true] at hp
    have he : execOp a.eval o = execOp (exV C st) o := execOp_congr o hs (fun x hx => allEx_eval h _ hl x (by simpa using hx))
    cases hr : pureRun C.P (execOp (exV C st) o) with
    | none => rw [hr] at hp; cases hp
    | some n =>
      rw [hr] at hp
      cases n with
      | value x => exact ⟨.v x, x, hp, by simp only [VR], fun w' _ => by rw [he]; exact pureRun_ok _ _ hr w'⟩
      | _ => cases hp
theorem guard'_some {c : Bool} {k : Option ρ} {r : ρ} (h : guard' c k = some r) : c = true ∧ k = some r := by
  unfold guard' at h
  cases c with
  | true => exact ⟨rfl, h⟩
  | false => cases h
theorem bif_some {c : Bool} {k : Option ρ} {r : ρ} (h : (bif c then k else none) = some r) : c = true ∧ k = some r := by
  cases c with
  | true => exact ⟨rfl, h⟩
  | false => cases h
section
variable {C : Cfg} {E : Env} {st : AS} {a : Act} {w : World} {o : Oper} {K : AV → AS → Option ρ} {r : ρ}
theorem q_copy (h : St C E st a w) (x : Operand) (hop : o.op = .move x ∨ o.op = .assign x) (hk : K (evO C st x) st = some r) : Quiet C E st a w o K r :=
  ⟨_, _, hk, h.eval x, fun w' _ => by rcases hop with hop | hop <;> simp [execOp, hop]⟩
theorem q_pick (h : St C E st a w) (c x y : Operand) (hop : o.op = .pick c x y) {b : Bool} (hc : evO C st c = .v (.bool b)) (hk : (match evO C st x, evO C st y with
      | .v (.bool p), .v (.bool q) => K (.v (.bool (bif b then p else q))) st
      | _, _ => bif b then K (evO C st x) st else K (evO C st y) st) = some r) : Quiet C E st a w o K r := by
  have h0 := h.eval c
  rw [hc] at h0
  simp only [VR] at h0
  have hx := h.eval x
  have hy := h.eval y
  have run : ∀ w', (execOp a.eval o).run C.P w' = .ok (.value (if b then a.eval x else a.eval y)) w' := fun w' => by
    simp only [execOp, hop, h0, asBool, Sem.run_bind, Sem.run_pure, Result.andThen_ok]
  split at hk
  · rename_i p q e1 e2
    rw [e1] at hx; rw [e2] at hy
    simp only [VR] at hx hy
    refine ⟨_, _, hk, ?_, fun w' _ => run w'⟩
    simp only [VR, hx, hy]
    cases b <;> rfl
  · cases b with
    | true => exact ⟨_, _, hk, by simpa using hx, fun w' _ => by simpa using run w'⟩
    | false => exact ⟨_, _, hk, by simpa using hy, fun w' _ => by simpa using run w'⟩
end
end Go.Proofs.Ev
namespace Go.Proofs.Ev
open Go
set_option linter.unusedVariables false
set_option linter.unusedSimpArgs false
variable {ρ : Type}
/-! ### leaves -/
theorem VR.ofLf {E : Env} {lf : Lf} {v : Value} (h : LR E.Φ lf v) : VR E (ofLf lf) v := by
  cases h <;> simp only [Ev.ofLf, VR] <;> constructor <;> assumption
theorem LR.cellsOf1 {Φ : Phi} {lf : Lf} {v : Value} (h : LR Φ lf v) : oneV v = true := by cases h <;> rfl
/-- The cells of a datum, laid out. -/
theorem PR.laid {E : Env} {e : Ty} {x : e.T} {b off : Nat} (h : PR E.Φ e x b off) : ∃ vs, VRs E ((cells e x).map Ev.ofLf) vs ∧ ∀ j v, vs[j]? = some v → E.Φ b (off + j) = some v := by
  obtain ⟨f, h1, h2⟩ := h
  generalize cells e x = l at h1 h2
  induction l generalizing f off with
  | nil => exact ⟨[], by simp only [List.map_nil, VRs], by simp⟩
  | cons lf l ih =>
    obtain ⟨vs, g1, g2⟩ := ih (off := off + 1) (fun j => f (j + 1)) (fun j u hu => by have := h1 (j + 1) u (by simpa using hu); rwa [show off + (j + 1) = off + 1 + j by omega] at this) (fun j u hu => h2 (j + 1) u (by simpa using hu))
    refine ⟨f 0 :: vs, ?_, fun j v hv => ?_⟩
    · simp only [List.map_cons, VRs]
      exact ⟨VR.ofLf (h2 0 lf rfl), g1⟩
    · cases j with
      | zero => simp at hv; subst hv; exact h1 0 lf rfl
      | succ j => have := g2 j v (by simpa using hv); rwa [show off + 1 + j = off + (j + 1) by omega] at this
theorem VRs.slice {E : Env} {l : List AV} {vs : List Value} (h : VRs E l vs) (j n : Nat) : VRs E ((l.drop j).take n) ((vs.drop j).take n) := (h.drop j).take n
/-- What is loaded. -/
theorem pickCells_sound {E : Env} {agg : Bool} {off n : Nat} {c : List AV} {x : AV} {vs : List Value} (h : VRs E c vs) (hp : pickCells agg off n c = some x) (hn : agg = false → n = 1) :
    off + n ≤ vs.length ∧ VR E x (if agg then .agg ((vs.drop off).take n).toArray else ((vs.drop off).take n).headD undef) := by
  unfold pickCells at hp
  obtain ⟨h1, h2⟩ := bif_some hp
  have hlen := h.length
  have h1' : off + n ≤ c.length := Nat.le_of_ble_eq_true h1
  refine ⟨by omega, ?_⟩
  cases agg with
  | true =>
    simp only [cond_true, Option.some.injEq] at h2
    subst h2
    simp only [if_true, VR]
    exact ⟨_, rfl, h.slice off n⟩
  | false =>
    simp only [cond_false] at h2
    have := hn rfl
    subst this
    have hd := h.drop off
    revert h2 hd
    cases c.drop off with
    | nil => intro h2; cases h2
    | cons y l =>
      intro h2 hd
      simp only [Option.some.injEq] at h2
      subst h2
      match hv : vs.drop off with
      | [] => rw [hv] at hd; simp only [VRs] at hd
      | u :: us =>
        rw [hv] at hd
        simp only [VRs] at hd
        simpa using hd.1
theorem LRs.toVRs {E : Env} : ∀ {l : List Lf} {vs : List Value}, LRs E.Φ l vs → VRs E (l.map Ev.ofLf) vs
  | [], [], _ => by simp only [List.map_nil, VRs]
  | [], _ :: _, h => by simp only [LRs] at h
  | _ :: _, [], h => by simp only [LRs] at h
  | a :: l, v :: vs, h => by
    simp only [LRs] at h
    simp only [List.map_cons, VRs]
    exact ⟨VR.ofLf h.1, LRs.toVRs h.2⟩
theorem LRs.split {Φ : Phi} : ∀ {l l' : List Lf} {vs : List Value}, LRs Φ (l ++ l') vs → LRs Φ l (vs.take l.length) ∧ LRs Φ l' (vs.drop l.length)
  | [], l', vs, h => ⟨by simp only [List.length_nil, List.take_zero, LRs], by simpa using h⟩
  | a :: l, l', [], h => by simp only [List.cons_append, LRs] at h
  | a :: l, l', v :: vs, h => by
    simp only [List.cons_append, LRs] at h
    obtain ⟨h1, h2⟩ := LRs.split h.2
    simp only [List.length_cons, List.take_succ_cons, List.drop_succ_cons, LRs]
    exact ⟨⟨h.1, h1⟩, h2⟩
/-- One element's cells. -/
theorem LRs.elem {Φ : Phi} {e : Ty} : ∀ {xs : List e.T} {vs : List Value} {i : Nat} {y : e.T}, LRs Φ (xs.flatMap (cells e)) vs → xs[i]? = some y → ∃ us, LRs Φ (cells e y) us ∧ ∀ (k : Nat) (v : Value), us[k]? = some v → vs[i * e.size + k]? = some v
  | [], vs, i, y, _, hy => by simp at hy
  | x :: xs, vs, 0, y, h, hy => by
    simp at hy; subst hy
    rw [List.flatMap_cons] at h
    obtain ⟨h1, _⟩ := h.split
    refine ⟨_, h1, fun k v hv => ?_⟩
    rw [List.getElem?_take] at hv
    split at hv
    · simpa using hv
    · cases hv
  | x :: xs, vs, i + 1, y, h, hy => by
    rw [List.flatMap_cons] at h
    obtain ⟨_, h2⟩ := h.split
    obtain ⟨us, g1, g2⟩ := LRs.elem h2 (by simpa using hy)
    refine ⟨us, g1, fun k v hv => ?_⟩
    have := g2 k v hv
    rw [List.getElem?_drop, cells_length] at this
    rwa [show (i + 1) * e.size + k = e.size + (i * e.size + k) by rw [Nat.add_mul]; omega]
theorem q_load {C : Cfg} {E : Env} {st : AS} {a : Act} {w : World} {o : Oper} {K : AV → AS → Option ρ} {r : ρ} (h : St C E st a w) (t : TypeId) (x : Operand) (hop : o.op = .load t x) (hok : oneOk C.P t = true)
    (hk : (match evO C st x with
    | .ptr r off => match lk st.t r with
      | some (.box _ c) => match pickCells (isAggT C.P t) off (C.P.cellsOf t) c with
        | some x => K x st
        | none => none
      | _ => none
    | .dp e x j => match pickCells (isAggT C.P t) j (C.P.cellsOf t) ((cells e x).map ofLf) with
      | some x => K x st
      | none => none
    | .ep r s i j => match lk st.t r with
      | some (.arr _ e xs) => match xs[i]? with
        | some y => bif Nat.beq s e.size then match pickCells (isAggT C.P t) j (C.P.cellsOf t) ((cells e y).map ofLf) with
            | some x => K x st
            | none => none
          else none
        | none => none
      | _ => none
    | _ => none) = some r) : Quiet C E st a w o K r := by
  simp only [oneOk, Bool.and_eq_true, Bool.or_eq_true] at hok
  have hn : isAggT C.P t = false → C.P.cellsOf t = 1 := fun hf => by
    rcases hok.2 with h | h
    · rw [hf] at h; cases h
    · rwa [Nat.beq_eq] at h
  have hx := h.eval x
  split at hk
  · rename_i k off hxe
    rw [hxe] at hx
    split at hk
    · rename_i T c hb
      split at hk
      · rename_i y hp
        simp only [VR] at hx
        obtain ⟨b, e1, e2⟩ := hx
        obtain ⟨_, b', vs, f1, f2, f3, f4, _⟩ := h.mr.res _ _ hb
        rw [e1] at f1
        injection f1 with f1
        subst f1
        obtain ⟨g1, g2⟩ := pickCells_sound f4 hp hn
        have hlen : ((vs.drop off).take (C.P.cellsOf t)).length = C.P.cellsOf t := by simp; omega
        refine ⟨y, _, hk, g2, fun w' hw' => ?_⟩
        have hb' : w'.heap[b]? = some (.cells vs.toArray T (0, 0)) := by
          rw [hw'.2 k (by simp [reads, hop, hxe, hb]) b f2, f3]
        have := run_loadVar hok.1 w' b off ((vs.drop off).take (C.P.cellsOf t)) hlen (fun hf => by rw [hlen, hn hf]) (fun j v hv => ⟨_, T, (0, 0), hb', by
          rw [List.getElem?_take] at hv
          split at hv
          · simpa using hv
          · cases hv⟩)
        simp [execOp, hop, e2, Instr.loadAt, Instr.sureAddr, this]
      · cases hk
    · cases hk
  · rename_i e y j hxe
    rw [hxe] at hx
    split at hk
    · rename_i z hp
      simp only [VR] at hx
      obtain ⟨b, off, e2, hpr⟩ := hx
      obtain ⟨vs, f1, f2⟩ := hpr.laid
      obtain ⟨g1, g2⟩ := pickCells_sound f1 hp hn
      have hlen : ((vs.drop j).take (C.P.cellsOf t)).length = C.P.cellsOf t := by simp; omega
      refine ⟨z, _, hk, g2, fun w' hw' => ?_⟩
      have := run_loadVar hok.1 w' b (off + j) ((vs.drop j).take (C.P.cellsOf t)) hlen (fun hf => by rw [hlen, hn hf]) (fun i v hv => by
        rw [List.getElem?_take] at hv
        split at hv
        · rw [List.getElem?_drop] at hv
          have := hw'.1 _ _ _ (f2 _ _ hv)
          rwa [show off + (j + i) = off + j + i by omega] at this
        · cases hv)
      simp [execOp, hop, e2, Instr.loadAt, Instr.sureAddr, this]
    · cases hk
  · rename_i k s i j hxe
    rw [hxe] at hx
    split at hk
    · rename_i te e xs hb
      split at hk
      · rename_i y hy
        obtain ⟨hs, hk2⟩ := bif_some hk
        rw [Nat.beq_eq] at hs
        split at hk2
        · rename_i z hp
          simp only [VR] at hx
          obtain ⟨b, n', c', e1, e2⟩ := hx
          obtain ⟨_, _, g, cap, cur, vs, f1, f2, f3, f4, f5, f6, f7, f8⟩ := h.mr.res _ _ hb
          rw [f1] at e1
          simp only [Option.some.injEq, Value.slice.injEq, Addr.mk.injEq] at e1
          obtain ⟨⟨rfl, _⟩, _, _⟩ := e1
          subst hs
          obtain ⟨us, u1, u2⟩ := LRs.elem f6 hy
          obtain ⟨g1, g2⟩ := pickCells_sound (u1.toVRs) hp hn
          have hlen : ((us.drop j).take (C.P.cellsOf t)).length = C.P.cellsOf t := by simp; omega
          refine ⟨z, _, hk2, g2, fun w' hw' => ?_⟩
          have hb' : w'.heap[g]? = some (.cells cur te (0, 0)) := by
            rw [hw'.2 k (by simp [reads, hop, hxe, hb]) g f2, f3]
          have := run_loadVar hok.1 w' g (i * e.size + j) ((us.drop j).take (C.P.cellsOf t)) hlen (fun hf => by rw [hlen, hn hf]) (fun i' v hv => ⟨_, te, (0, 0), hb', by
            rw [List.getElem?_take] at hv
            split at hv
            · rw [List.getElem?_drop] at hv
              have := f7 _ _ (u2 _ _ hv)
              rwa [show i * e.size + (j + i') = i * e.size + j + i' by omega] at this
            · cases hv⟩)
          simp [execOp, hop, e2, Instr.loadAt, Instr.sureAddr, this]
        · cases hk2
      · cases hk
    · cases hk
  · cases hk
end Go.Proofs.Ev
