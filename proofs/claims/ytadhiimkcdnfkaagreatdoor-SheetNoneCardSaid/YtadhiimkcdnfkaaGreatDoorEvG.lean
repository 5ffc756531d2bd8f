/-
  An evaluator by value of the model of the program, proved sound, and what it shows of this law: part EvG.
-/
import Derived.Test.YtadhiimkcdnfkaaGreatDoorEvF
import Derived.Lib.Bytealg
import Derived.Laws.Externs
import Derived.Lib.Builder
import Derived.ChangeArms
import Derived.DataReads
import Derived.WalkKit
import Derived.ProofKit
import Derived.OpenShut
import Derived.Carry
namespace Go.Proofs.Ev
open Go
set_option linter.unusedVariables false
/-- What has happened where nothing has. -/
theorem Inv.self {E : Env} {w : World} {m : Nat} (hm : m ≤ 40) : Inv (fun b => ∃ r, E.own r b) E w m E w := ⟨hm, rfl, rfl, rfl, Nat.le_refl _, fun _ _ _ => rfl, fun r b h => .inl ⟨r, h⟩, Phi.le_refl _, fun _ _ _ h => .inl h, fun _ _ => rfl⟩
theorem leaf_indexByte {C : Cfg} {f : FuncId} {fn : Func} (hf : C.P.funcs[f]? = some fn) (hname : (fn.name == "runtime.NumGoroutine") = false) (hb : fn.body.isNone = true) (hn : Extern.findNext fn = none)
    (he : Extern.find fn = some Extern.BytealgIndexByte.indexByte) (s : ByteArray) (c : Int) :
    CallSound C f [.v (.string s), .v (.int .u8 c)] [] (.v (.int .i64 (Lib.indexByte s.data.toList c.toNat.toUInt8)), []) := by
  intro E w vs hM hv hG
  obtain ⟨v1, v2, rfl⟩ : ∃ v1 v2, vs = [v1, v2] := by
    match vs, hv.length with
    | [v1, v2], _ => exact ⟨v1, v2, rfl⟩
  simp only [VRs, VR] at hv
  obtain ⟨rfl, rfl, _⟩ := hv
  unfold Does
  rw [run_callFunc_extern hf hname hb hn he, Lib.run_indexByteString]
  exact ⟨E, by simp only [VR], hM, hG, Inv.self (by simp)⟩
theorem leaf_noEscape {C : Cfg} {f : FuncId} {fn : Func} (hf : C.P.funcs[f]? = some fn) (hname : (fn.name == "runtime.NumGoroutine") = false) (hb : fn.body.isNone = true) (hn : Extern.findNext fn = none)
    (he : Extern.find fn = some Extern.AbiNoEscape.same) (fr : List Res) (hl : fr.length ≤ 40) : CallSound C f [.ptr 0 0] fr (.ptr 0 0, fr) := by
  intro E w vs hM hv hG
  obtain ⟨v1, rfl⟩ : ∃ v1, vs = [v1] := by
    match vs, hv.length with
    | [v1], _ => exact ⟨v1, rfl⟩
  simp only [VRs] at hv
  unfold Does
  rw [run_callFunc_extern hf hname hb hn he, Lib.run_noEscape]
  exact ⟨E, hv.1, hM, hG, Inv.self hl⟩
end Go.Proofs.Ev
namespace Go.Proofs.Ev
open Go
set_option linter.unusedVariables false
/-- Leaves of the right kinds make a datum. -/
theorem mk_leaf (τ : Ty) (hτ : τ ≠ .tn) (ls : List Lf) (h : ls.map (·.1) = leafTys τ) : ∃ x, mk τ ls = some x := by
  cases τ with
  | tn => exact absurd rfl hτ
  | int k =>
    simp only [leafTys, List.map_eq_cons_iff, List.map_eq_nil_iff] at h
    obtain ⟨⟨_, _⟩, _, rfl, rfl, rfl⟩ := h
    simp [mk]
  | rows e =>
    simp only [leafTys, List.map_eq_cons_iff, List.map_eq_nil_iff] at h
    obtain ⟨⟨_, _⟩, _, rfl, rfl, rfl⟩ := h
    simp [mk]
  | ptr e =>
    simp only [leafTys, List.map_eq_cons_iff, List.map_eq_nil_iff] at h
    obtain ⟨⟨_, _⟩, _, rfl, rfl, rfl⟩ := h
    simp [mk]
  | _ =>
    simp only [leafTys, List.map_eq_cons_iff, List.map_eq_nil_iff] at h
    repeat' (obtain ⟨⟨_, _⟩, _, rfl, rfl, h⟩ := h)
    all_goals first
      | exact ⟨_, rfl⟩
      | (subst h; exact ⟨_, rfl⟩)
end Go.Proofs.Ev
namespace Go.Proofs.Ev
open Go
set_option linter.unusedVariables false
def fieldsL (P : Program) (lv : TypeId → Option (List Ty)) : Nat → List Go.Field → Option (List Ty)
  | _, [] => some []
  | off, f :: fs => match lv f.type with
    | some l => bif Nat.beq f.offset off && Nat.beq (P.cellsOf f.type) l.length then match fieldsL P lv (off + l.length) fs with
        | some l' => some (l ++ l')
        | none => none
      else none
    | none => none
/-- The kinds of a type's cells, one by one. -/
def leaves (P : Program) (ty : TypeId → Option Ty) : Nat → TypeId → Option (List Ty)
  | 0, _ => none
  | n + 1, t => match P.underlying t with
    | some (.int k) => some [.int k]
    | some .bool => some [.bool]
    | some .string => some [.str]
    | some (.slice e) => match ty e with
      | some τ => some [.rows τ]
      | none => none
    | some (.struct fs) => match fieldsL P (leaves P ty n) 0 fs.toList with
      | some l => bif Nat.beq (P.cellsOf t) l.length then some l else none
      | none => none
    | _ => none
/-- What lies in the heap. -/
def heapPhi (W : World) : Phi := fun b o => match W.heap[b]? with
  | some (.cells c _ _) => c[o]?
  | _ => none
theorem heapPhi_ok (W : World) : PhiOk (heapPhi W) W := fun b o v h => by
  unfold heapPhi at h
  split at h
  · rename_i c T fr hb
    exact ⟨c, T, fr, hb, h⟩
  · cases h
theorem heapPhi_cell {W : World} {a : Addr} {v : Value} (h : W.cell? a = some v) : heapPhi W a.block a.off = some v := by
  unfold World.cell? at h
  unfold heapPhi
  split at h
  · rename_i c T fr hb
    simp only [hb]
    split at h
    · cases h
    · exact h
  · cases h
theorem addr_add_add (a : Addr) (m n : Nat) : (a.add m).add n = a.add (m + n) := by
  unfold Addr.add
  by_cases hm : m = 0
  · subst hm; simp
  · by_cases hn : n = 0
    · subst hn; simp [hm]
    · simp [hm, hn, Nat.add_assoc]
theorem addr_add_none (b o n : Nat) : (⟨b, o, none⟩ : Addr).add n = ⟨b, o + n, none⟩ := by
  unfold Addr.add
  by_cases hn : n = 0
  · subst hn; rfl
  · rw [if_neg hn]
/-- Numbers in their range, texts and rows not too long. -/
def Ty.bytes : Ty → Nat
  | .rows _ => 24
  | .str => 16
  | _ => 1
inductive FitLf (N : Nat) : Lf → Prop
  | int (k : IntKind) (n : Int) (h : k.min ≤ n ∧ n ≤ k.max) : FitLf N ⟨.int k, n⟩
  | bool (b : Bool) : FitLf N ⟨.bool, b⟩
  | str (s : ByteArray) (h : s.size ≤ N) : FitLf N ⟨.str, s⟩
  | rows (e : Ty) (xs : List e.T) (h : xs.length * e.bytes ≤ N) (hx : ∀ x ∈ xs, ∀ lf ∈ cells e x, FitLf N lf) : FitLf N ⟨.rows e, xs⟩
section
variable {C : Cfg} {H : Type} {enc : TypeId × Value → H} {W : World} {base : Nat} {spare : Nat → Bool} {held : Bool} {N : Nat} {B : TypeId → DataW H → Prop}
/-- A bound of data. -/
structure BdOk (C : Cfg) (N : Nat) (B : TypeId → DataW H → Prop) : Prop where
  str : ∀ (t : TypeId) (l : List UInt8), C.P.underlying t = some .string → B t (.lit (.string l)) → l.length ≤ N
  slice : ∀ (t e : TypeId) (τ : Ty) (es rest : List (DataW H)), C.P.underlying t = some (.slice e) → C.ty e = some τ → B t (.slice es rest) → es.length * τ.bytes ≤ N ∧ ∀ d ∈ es, B e d
  struct : ∀ (t : TypeId) (fs : Array Go.Field) (ds : List (DataW H)), C.P.underlying t = some (.struct fs) → B t (.agg ds) → ∀ (i : Nat) (f : Go.Field) (d : DataW H), fs[i]? = some f → ds[i]? = some d → B f.type d
def Opens (W : World) (N : Nat) (ls : List Ty) (cs : List Value) : Prop := ∃ lfs : List Lf, lfs.map (·.1) = ls ∧ LRs (heapPhi W) lfs cs ∧ ∀ lf ∈ lfs, FitLf N lf
theorem fields_opens {n m : Nat} {cs : List Value} (ih : ∀ (t : TypeId) (cs : List Value) (x : DataW H × List MemPlace) (ls : List Ty), leaves C.P C.ty n t = some ls → DataW.trod enc C.P W base spare held m t cs = some x → B t x.1 → Opens W N ls cs) :
    ∀ (fs : List Go.Field) (off : Nat) (ls : List Ty), fieldsL C.P (leaves C.P C.ty n) off fs = some ls →
      (∀ (i : Nat) (f : Go.Field), fs[i]? = some f → ∃ x, DataW.trod enc C.P W base spare held m f.type ((cs.drop f.offset).take (C.P.cellsOf f.type)) = some x ∧ B f.type x.1) → off + ls.length ≤ cs.length → Opens W N ls ((cs.drop off).take ls.length)
  | [], off, ls, hl, _, _ => by
    simp only [fieldsL, Option.some.injEq] at hl
    subst hl
    exact ⟨[], rfl, by simp [LRs], by simp⟩
  | f :: fs, off, ls, hl, hf, hlen => by
    simp only [fieldsL] at hl
    split at hl
    · rename_i l h1
      obtain ⟨hc, hl⟩ := bif_some hl
      simp only [Bool.and_eq_true, Nat.beq_eq] at hc
      split at hl
      · rename_i l' h2
        cases hl
        obtain ⟨x, h3, h4⟩ := hf 0 f rfl
        rw [hc.1, hc.2] at h3
        obtain ⟨lfs, a1, a2, a3⟩ := ih f.type _ x l h1 h3 h4
        simp only [List.length_append] at hlen
        obtain ⟨lfs', b1, b2, b3⟩ := fields_opens ih fs (off + l.length) l' h2 (fun i g hg => hf (i + 1) g (by simpa using hg)) (by omega)
        refine ⟨lfs ++ lfs', by simp [a1, b1], ?_, fun lf h => (List.mem_append.1 h).elim (a3 lf) (b3 lf)⟩
        have e : (cs.drop off).take (l ++ l').length = (cs.drop off).take l.length ++ (cs.drop (off + l.length)).take l'.length := by
          rw [List.length_append, List.take_add, List.drop_drop]
        rw [e]
        exact a2.append b2
      · cases hl
    · cases hl
theorem trod_opens (hs : BdOk C N B) (hTy : ∀ e τ, C.ty e = some τ → τ ≠ .tn ∧ C.P.cellsOf e = τ.size ∧ 0 < τ.size ∧ ∃ n, leaves C.P C.ty n e = some (leafTys τ)) :
    ∀ (fuel : Nat) (n : Nat) (t : TypeId) (cs : List Value) (x : DataW H × List MemPlace) (ls : List Ty), leaves C.P C.ty n t = some ls → DataW.trod enc C.P W base spare held fuel t cs = some x → B t x.1 → Opens W N ls cs := by
  intro fuel
  induction fuel with
  | zero => intro n t cs x ls _ h; simp [DataW.trod] at h
  | succ fuel ih =>
    intro n t cs x ls hl h hN
    cases n with
    | zero => simp [leaves] at hl
    | succ n =>
      unfold leaves at hl
      split at hl
      · rename_i k hu
        cases hl
        obtain ⟨m, rfl, rfl, hw⟩ := DataW.trod_int hu h
        simp only [Lit.wf, Bool.and_eq_true, decide_eq_true_eq] at hw
        exact ⟨[⟨.int k, m⟩], rfl, by simp only [LRs]; exact ⟨.int k m, trivial⟩, by simp only [List.mem_singleton]; rintro lf rfl; exact .int k m hw⟩
      · rename_i hu
        cases hl
        obtain ⟨b, rfl, rfl⟩ := DataW.trod_bool hu h
        exact ⟨[⟨.bool, b⟩], rfl, by simp only [LRs]; exact ⟨.bool b, trivial⟩, by simp only [List.mem_singleton]; rintro lf rfl; exact .bool b⟩
      · rename_i hu
        cases hl
        obtain ⟨s, rfl, rfl, _⟩ := DataW.trod_string hu h
        have h1 := hs.str t s.data.toList hu hN
        have h2 : s.data.toList.length = s.size := by rw [Array.length_toList]; rfl
        exact ⟨[⟨.str, s⟩], rfl, by simp only [LRs]; exact ⟨.str s, trivial⟩, by simp only [List.mem_singleton]; rintro lf rfl; exact .str s (by omega)⟩
      · rename_i e hu
        split at hl
        · rename_i τ hτ
          cases hl
          obtain ⟨ht, hcell, hpos, n', hlv⟩ := hTy e τ hτ
          rcases DataW.trod_slice hu h with ⟨rfl, rfl⟩ | ⟨a, len, cap, elems, rest, m, hm, rfl, rfl, hb, hlc, hcm, hlen, hel, _, _⟩
          · exact ⟨[⟨.rows τ, []⟩], rfl, by simp only [LRs]; exact ⟨.row0 τ none 0, trivial⟩, by simp only [List.mem_singleton]; rintro lf rfl; exact .rows τ [] (by simp) (by simp)⟩
          · simp only [Nat.add_right_cancel_iff] at hm
            subst hm
            obtain ⟨hbig, hmem⟩ := hs.slice t e τ (elems.map (·.1)) (rest.map (·.1)) hu hτ hN
            -- each element
            have each : ∀ i, i < len → ∃ (y : τ.T) (us : List Value), W.cells? base (a.add (i * C.P.cellsOf e)) (C.P.cellsOf e) = some us ∧ LRs (heapPhi W) (cells τ y) us ∧ ∀ lf ∈ cells τ y, FitLf N lf := by
              intro i hi
              have h1 := hel i hi
              have hget : elems[i]? = some elems[i] := List.getElem?_eq_getElem (by omega)
              rw [hget, Option.bind_eq_some_iff] at h1
              obtain ⟨us, h2, h3⟩ := h1
              obtain ⟨lfs, a1, a2, a3⟩ := ih n' e us _ _ hlv h3 (hmem _ (List.mem_map_of_mem (List.getElem_mem (by omega))))
              obtain ⟨y, hy⟩ := mk_leaf τ ht lfs a1
              have hc := mk_cells τ lfs y hy
              exact ⟨y, us, h2, by rw [hc]; exact a2, by rw [hc]; exact a3⟩
            have build : ∀ k, k ≤ len → ∃ (xs : List τ.T) (vs : List Value), xs.length = k ∧ LRs (heapPhi W) (xs.flatMap (cells τ)) vs ∧ (∀ j v, vs[j]? = some v → W.cell? (a.add j) = some v) ∧ ∀ x ∈ xs, ∀ lf ∈ cells τ x, FitLf N lf := by
              intro k
              induction k with
              | zero => intro _; exact ⟨[], [], rfl, by simp [LRs], by simp, by simp⟩
              | succ k ihk =>
                intro hk
                obtain ⟨xs, vs, b1, b2, b3, b4⟩ := ihk (by omega)
                obtain ⟨y, us, c1, c2, c3⟩ := each k (by omega)
                have hvl : vs.length = k * τ.size := by rw [b2.length, flat_length, b1]
                refine ⟨xs ++ [y], vs ++ us, by simp [b1], ?_, ?_, ?_⟩
                · rw [List.flatMap_append]
                  exact b2.append (by simpa using c2)
                · intro j v hv
                  by_cases hj : j < vs.length
                  · rw [List.getElem?_append_left hj] at hv; exact b3 j v hv
                  · rw [List.getElem?_append_right (by omega)] at hv
                    obtain ⟨_, _, q2⟩ := World.cells?_some c1
                    have hlt : j - vs.length < us.length := (List.getElem?_eq_some_iff.1 hv).1
                    have := q2 (j - vs.length) (by rw [c2.length, cells_length] at hlt; rw [hcell]; exact hlt)
                    rw [hv] at this
                    have ea : (a.add (k * C.P.cellsOf e)).add (j - vs.length) = a.add j := by
                      rw [addr_add_add]
                      congr 1
                      rw [hcell]; omega
                    rw [← this, ea]
                · intro x hx
                  rcases List.mem_append.1 hx with hx | hx
                  · exact b4 x hx
                  · simp only [List.mem_singleton] at hx; subst hx; exact c3
            obtain ⟨xs, vs, b1, b2, b3, b4⟩ := build len (Nat.le_refl _)
            have hfit : FitLf N ⟨.rows τ, xs⟩ := .rows τ xs (by rw [List.length_map, hlen] at hbig; rw [b1]; exact hbig) b4
            refine ⟨[⟨.rows τ, xs⟩], rfl, ?_, by simp only [List.mem_singleton]; rintro lf rfl; exact hfit⟩
            simp only [LRs]
            refine ⟨?_, trivial⟩
            cases hx0 : xs with
            | nil =>
              subst hx0
              simp at b1; subst b1
              exact .row0 τ (some a) cap
            | cons y ys =>
              have hv0 : 0 < vs.length := by rw [b2.length, flat_length, hx0]; simp only [List.length_cons, Nat.succ_mul]; omega
              have hsp : a.spot = none := World.cell?_spot (b3 0 vs[0] (List.getElem?_eq_getElem hv0))
              obtain ⟨ab, ao, as'⟩ := a
              simp only at hsp; subst hsp
              rw [← hx0, ← b1]
              exact LR.ofFlat b2 (by omega) fun k v hv => by have := heapPhi_cell (b3 k v hv); rwa [addr_add_none] at this
        · cases hl
      · rename_i fs hu
        split at hl
        · rename_i l hfl
          obtain ⟨hcl, hl⟩ := bif_some hl
          cases hl
          rw [Nat.beq_eq] at hcl
          obtain ⟨xs, m, hm, rfl, hlen, hxl, hget⟩ := DataW.trod_struct hu h
          simp only [Nat.add_right_cancel_iff] at hm
          subst hm
          have hagg := hs.struct t fs (xs.map (·.1)) hu hN
          have := fields_opens (C := C) (B := B) (N := N) (n := n) (cs := cs) (fun t cs x ls => ih n t cs x ls) fs.toList 0 ls hfl (fun i f hf => by
            have hi : i < xs.length := by rw [hxl]; have := (List.getElem?_eq_some_iff.1 hf).1; simpa using this
            have h1 := hget i f (by simpa using hf)
            rw [List.getElem?_eq_getElem hi] at h1
            exact ⟨_, h1, hagg i f _ (by simpa using hf) (by simp [List.getElem?_eq_getElem hi])⟩) (by omega)
          rw [List.drop_zero, List.take_of_length_le (by omega)] at this
          exact this
        · cases hl
      · cases hl
end
end Go.Proofs.Ev
namespace Go.Proofs.Ev
open Go Go.RowKit Go.ChangeShapes Go.WideShapes
set_option linter.unusedVariables false
/-- A law's world, when it is entered. -/
def env0 (W : World) : Env := { blk := fun _ => none, rowv := fun _ => none, own := fun _ _ => False, Φ := heapPhi W }
theorem env0_mr (C : Cfg) (W : World) : MR C (env0 W) W (lk (enum 0 [])) :=
  ⟨heapPhi_ok W, fun r x h => by simp [enum, lk] at h, fun r _ => ⟨rfl, rfl, fun b h => h⟩, fun r b h => h.elim, fun r r' b h => h.elim⟩
theorem Does.calls {P : Program} {f : FuncId} {fn : Func} (hf : P.funcs[f]? = some fn) (hb : fn.body.isSome = true) (hn : (fn.name == "runtime.NumGoroutine") = false) {vs : Array Value} {w : World} {R : Value → World → Prop} (h : Does P f vs w R) :
    Calls P f vs w fun e w' => ∃ v, e = .returned v ∧ R v w' := by
  obtain ⟨c, hc⟩ := Option.isSome_iff_exists.1 hb
  have hrun : (callFunc f vs).run P w = .ok (.enter f vs) w := by
    simp only [callFunc, Sem.run_bind, run_program, Result.andThen_ok, hf, hn, hc]
    rfl
  unfold Does at h
  rw [hrun] at h
  exact h.mono fun e w' he => by
    cases e with
    | returned v => exact ⟨v, rfl, he⟩
    | _ => exact he.elim
theorem Post.below {C : Cfg} {W : World} {res : AV × List Res} {v : Value} {W' : World} (h : Post C (env0 W) W 0 res v W') : Below W.heap.size W W' := by
  obtain ⟨E', _, _, _, hi⟩ := h
  exact ⟨hi.os, hi.tape, hi.output, hi.size, fun k hk => hi.keep k hk fun ⟨r, hr⟩ => hr⟩
section
variable {C : Cfg} {H : Type} {enc : TypeId × Value → H} {W : World} {N : Nat} {B : TypeId → DataW H → Prop}
theorem FitLf.rows_inv {N : Nat} {e : Ty} {xs : List e.T} (h : FitLf N ⟨.rows e, xs⟩) : xs.length * e.bytes ≤ N ∧ ∀ x ∈ xs, ∀ lf ∈ cells e x, FitLf N lf := by
  generalize hl : (⟨.rows e, xs⟩ : Lf) = lf at h
  cases h <;> cases hl
  case rows h hx => exact ⟨h, hx⟩
theorem FitLf.str_inv {N : Nat} {s : ByteArray} (h : FitLf N ⟨.str, s⟩) : s.size ≤ N := by
  generalize hl : (⟨.str, s⟩ : Lf) = lf at h
  cases h <;> cases hl
  assumption
theorem FitLf.int_inv {N : Nat} {k : IntKind} {n : Int} (h : FitLf N ⟨.int k, n⟩) : k.min ≤ n ∧ n ≤ k.max := by
  generalize hl : (⟨.int k, n⟩ : Lf) = lf at h
  cases h <;> cases hl
  assumption
theorem Ty.bytes_pos (τ : Ty) : 1 ≤ τ.bytes := by cases τ <;> simp [Ty.bytes]
theorem FitLf.rows_len {N : Nat} {e : Ty} {xs : List e.T} (h : FitLf N ⟨.rows e, xs⟩) : xs.length ≤ N := by
  have h1 := h.rows_inv.1
  have h2 := Nat.mul_le_mul_left xs.length (Ty.bytes_pos e)
  omega
def TysOk (C : Cfg) : Prop := ∀ e τ, C.ty e = some τ → τ ≠ .tn ∧ C.P.cellsOf e = τ.size ∧ 0 < τ.size ∧ ∃ n, leaves C.P C.ty n e = some (leafTys τ)
theorem lrs_one {Φ : Phi} {lf : Lf} {vs : List Value} (h : LRs Φ [lf] vs) : ∃ v, vs = [v] ∧ LR Φ lf v := by
  cases vs with
  | nil => simp [LRs] at h
  | cons v vs =>
    cases vs with
    | nil => simp only [LRs] at h; exact ⟨v, rfl, h.1⟩
    | cons u us => simp [LRs] at h
theorem arg_slice (hs : BdOk C N B) (hTy : TysOk C) {t e : TypeId} {τ : Ty} (hu : C.P.underlying t = some (.slice e)) (hτ : C.ty e = some τ) {r : Reach} {base : Nat} {v : Value} (hv : Value.okWide C.P W r base t v) {d : DataW H} {p : List MemPlace}
    (h : DataW.Trod enc C.P W 0 (fun _ => true) true t v d p) (hN : B t d) : ∃ l : List τ.T, VR (env0 W) (.d ⟨.rows τ, l⟩) v ∧ FitLf N ⟨.rows τ, l⟩ := by
  obtain ⟨a, len, cap, rfl⟩ := okWide_slice hu hv
  obtain ⟨fuel, h⟩ := h
  obtain ⟨lfs, h1, h2, h3⟩ := trod_opens hs hTy fuel 1 t _ _ [.rows τ] (by simp only [leaves, hu, hτ]) h hN
  simp only [List.map_eq_cons_iff, List.map_eq_nil_iff] at h1
  obtain ⟨⟨_, l⟩, _, rfl, rfl, rfl⟩ := h1
  obtain ⟨u, hu2, hlr⟩ := lrs_one h2
  simp only [Value.cells, List.cons.injEq, and_true] at hu2
  subst hu2
  exact ⟨l, by simp only [VR]; exact hlr, h3 _ (by simp)⟩
theorem arg_struct (hs : BdOk C N B) (hTy : TysOk C) {t : TypeId} {fs : Array Go.Field} {n : Nat} {ls : List Ty} (hu : C.P.underlying t = some (.struct fs)) (hl : leaves C.P C.ty n t = some ls) {r : Reach} {base : Nat} {v : Value} (hv : Value.okWide C.P W r base t v) {d : DataW H} {p : List MemPlace}
    (h : DataW.Trod enc C.P W 0 (fun _ => true) true t v d p) (hN : B t d) : ∃ lfs : List Lf, lfs.map (·.1) = ls ∧ VR (env0 W) (.agg (lfs.map ofLf)) v ∧ ∀ lf ∈ lfs, FitLf N lf := by
  obtain ⟨cs, rfl, _⟩ := okWide_struct hu hv
  obtain ⟨fuel, h⟩ := h
  obtain ⟨lfs, h1, h2, h3⟩ := trod_opens hs hTy fuel n t _ _ ls hl h hN
  refine ⟨lfs, h1, ?_, h3⟩
  simp only [VR]
  exact ⟨cs.toList, by simp, LRs.toVRs (E := env0 W) (by show LRs (heapPhi W) lfs cs.toList; simpa [Value.cells] using h2)⟩
/-- Each argument reads behind the call as before. -/
theorem trodAll_below (hl : laidOutB C.P = true) {W' : World} (hb : Below W.heap.size W W') : ∀ {ts : List TypeId} {vs : List Value} {ds : List (DataW H)} {ps : List MemPlace}, (∀ t ∈ ts, C.P.readableRec t = true ∧ t < C.P.types.size) → (∀ x ∈ ps, x.block < W.heap.size) →
    DataW.TrodAll enc C.P W 0 (fun _ => true) true ts vs ds ps → DataW.TrodAll enc C.P W' 0 (fun b => decide (b < W.heap.size)) true ts vs ds ps
  | [], vs, ds, ps, _, _, h => by
    obtain ⟨rfl, rfl, rfl⟩ := trodAll_nil h
    exact trodAll_mk0
  | t :: ts, vs, ds, ps, ht, hlt, h => by
    obtain ⟨v, vs', d, ds', p, q, rfl, rfl, rfl, h1, h2⟩ := trodAll_cons h
    exact trodAll_cons_mk (Below.trod hl (ht t (by simp)).1 (ht t (by simp)).2 h1 hb fun x hx => hlt x (by simp [hx])) (trodAll_below hl hb (fun t h => ht t (by simp [h])) (fun x hx => hlt x (by simp [hx])) h2)
/-- What the row's reach gives: each slice and text takes so many bytes at most. -/
theorem reach_ok (hb : ∀ e τ, C.ty e = some τ → τ.bytes ≤ C.P.bytesOf e) : BdOk (H := H) C reachBytes (fun t d => (d.weights C.P t).all (· ≤ reachBytes) = true) where
  str := fun t l _ h => by simpa [DataW.weights] using h
  slice := fun t e τ es rest hu hτ h => by
    simp only [DataW.weights, hu, List.all_cons, List.all_append, Bool.and_eq_true, decide_eq_true_eq] at h
    refine ⟨?_, fun d hd => ?_⟩
    · have h1 := Nat.mul_le_mul (Nat.le_add_right es.length rest.length) (hb e τ hτ)
      omega
    · have h2 := h.2.1
      clear h
      induction es with
      | nil => cases hd
      | cons x es ih =>
        simp only [DataW.weightsAll, List.all_append, Bool.and_eq_true] at h2
        rcases List.mem_cons.1 hd with rfl | hd
        · exact h2.1
        · exact ih hd h2.2
  struct := fun t fs ds hu h i f d hf hd => by
    simp only [DataW.weights, hu] at h
    have hf' : fs.toList[i]? = some f := by simpa using hf
    generalize fs.toList = l at h hf'
    clear hf hu
    induction l generalizing ds i with
    | nil => simp at hf'
    | cons g l ih =>
      cases ds with
      | nil => simp at hd
      | cons y ds =>
        simp only [List.map_cons, DataW.weightsEach, List.all_append, Bool.and_eq_true] at h
        cases i with
        | zero =>
          simp at hf' hd
          subst hf'; subst hd
          exact h.1
        | succ i => exact ih ds i (by simpa using hd) h.2 (by simpa using hf')
/-- A law that says true. -/
theorem post_true {f : Func} {s : ChangeSpec} {args : Array Value} {ds : List (DataW H)} {before : List MemPlace} (hl : laidOutB C.P = true) (hv : s.vars = []) (hW : DataW.Whole enc C.P f.params.toList s.vars false W args.toList ds [] before)
    {W' : World} (hb : Below W.heap.size W W') (ht : ∀ t ∈ f.params.toList, C.P.readableRec t = true ∧ t < C.P.types.size) {tb : TypeId} (hr : f.resultTypes = #[tb]) (hub : C.P.underlying tb = some .bool) (hsr : (s.fn H ds).results = [.lit (.bool true)]) (hsa : (s.fn H ds).args = ds) (hsv : (s.fn H ds).vars = []) :
    s.post enc C.P f false true false false W args (.bool true) W' := by
  have hW0 := hW
  obtain ⟨p, q, hA, hV, hpq, _, _⟩ := hW
  rw [hv] at hV
  obtain ⟨_, rfl⟩ := trodVars_none hV
  simp only [List.append_nil] at hpq
  refine ⟨ds, [], before, [], before, [], hW0, ?_, ?_, ?_, hb.frame _, fun h => by cases h⟩
  · rw [hr, List.append_nil, hsr]
    exact trodAll_mk1 (shut_bool hub true)
  · rw [List.append_nil, hsa, hpq]
    exact trodAll_below hl hb ht (fun x hx => hW0.lt x (by rw [hpq]; exact hx)) hA
  · rw [hv, List.append_nil, hsv]
    rfl
/-! ### tables of texts -/
theorem trod_array {P : Program} {te : TypeId} {t : TypeId} {n : Nat} (hu : P.underlying t = some (.array n te)) {w : World} {base : Nat} {spare : Nat → Bool} {held : Bool} {enc : TypeId × Value → H} {fuel : Nat} {cs : List Value} {x : DataW H × List MemPlace}
    (h : DataW.trod enc P w base spare held fuel t cs = some x) : ∃ (xs : List (DataW H × List MemPlace)) (m : Nat), fuel = m + 1 ∧ x = (.agg (xs.map (·.1)), xs.flatMap (·.2)) ∧ cs.length = P.cellsOf t ∧ xs.length = n ∧
      ∀ i, i < n → DataW.trod enc P w base spare held m te ((cs.drop (i * P.cellsOf te)).take (P.cellsOf te)) = xs[i]? := by
  cases fuel with
  | zero => simp [DataW.trod] at h
  | succ m =>
    unfold DataW.trod at h
    rw [hu] at h
    split at h <;> simp_all
    obtain ⟨hl, xs, hp, hd⟩ := h
    exact ⟨xs, hd.symm, by simpa using mapM_some_length hp, fun i hi => mapM_some_get hp i i (by simp [hi])⟩
theorem trod_strs {te : TypeId} {t : TypeId} {n : Nat} (hu : C.P.underlying t = some (.array n te)) (he : C.P.underlying te = some .string) (hc : C.P.cellsOf te = 1) {w : World} {base : Nat} {spare : Nat → Bool} {held : Bool} {enc : TypeId × Value → H} {fuel : Nat} {cs : List Value} {L : List (List UInt8)} {p : List MemPlace}
    (h : DataW.trod enc C.P w base spare held fuel t cs = some (.agg (L.map fun l => .lit (.string l)), p)) : L.length = n ∧ ∀ (i : Nat) (l : List UInt8), L[i]? = some l → cs[i]? = some (Value.string ⟨l.toArray⟩) := by
  obtain ⟨xs, m, rfl, hx, hl, hlen, hp⟩ := trod_array hu h
  simp only [Prod.mk.injEq, DataW.agg.injEq] at hx
  obtain ⟨hd, _⟩ := hx
  have hL : L.length = n := by have := congrArg List.length hd; simp at this; omega
  refine ⟨hL, fun i l hi => ?_⟩
  have hin : i < n := by have := (List.getElem?_eq_some_iff.1 hi).1; omega
  have h1 := hp i hin
  have h2 : xs[i]? = some xs[i] := List.getElem?_eq_getElem (by omega)
  rw [h2, hc, Nat.mul_one] at h1
  have h3 := congrArg (fun z => z[i]?) hd
  simp only [List.getElem?_map, hi, h2, Option.map_some, Option.some.injEq] at h3
  obtain ⟨s, e1, e2, _⟩ := DataW.trod_string he h1
  have e3 : xs[i].1 = .lit (.string s.data.toList) := by rw [e2]
  rw [e3] at h3
  simp only [DataW.lit.injEq, Lit.string.injEq] at h3
  have hci : cs[i]? = some (.string s) := by
    have := congrArg (fun z => z[0]?) e1
    simpa [List.getElem?_take] using this
  rw [hci, h3]
theorem glob_strs {g : Nat} {cs : Array Value} {T : TypeId} {fr : Nat × Nat} (hb : W.heap[g]? = some (.cells cs T fr)) {xs : List ByteArray} (hx : ∀ (i : Nat) (s : ByteArray), xs[i]? = some s → cs[i]? = some (Value.string s)) : VR (env0 W) (.ga .str xs) (.pointer (some ⟨g, 0, none⟩)) := by
  simp only [VR]
  refine ⟨g, 0, rfl, ?_⟩
  have hl : ∀ (l : List ByteArray), LRs (heapPhi W) (l.flatMap (cells .str)) (l.map Value.string) := by
    intro l
    induction l with
    | nil =>
      show LRs _ [] []
      simp only [LRs]
    | cons s l ih =>
      show LRs _ (⟨.str, s⟩ :: l.flatMap (cells .str)) (Value.string s :: l.map Value.string)
      simp only [LRs]
      exact ⟨.str s, ih⟩
  refine LR.ofFlat (e := .str) (xs := xs) (hl xs) (Nat.le_refl _) fun k v hv => ?_
  simp only [List.getElem?_map, Option.map_eq_some_iff] at hv
  obtain ⟨s, h1, rfl⟩ := hv
  show heapPhi W g (0 + k) = _
  unfold heapPhi
  simp only [hb, Nat.zero_add]
  exact hx k s h1
theorem var_heap {P : Program} {w : World} {name : String} {cs : Array Value} {g : Nat} (hg : P.globalNamed name = some g) (h : w.var? P name = some cs) : ∃ T fr, w.heap[g]? = some (.cells cs T fr) := by
  unfold World.var? at h
  rw [hg] at h
  simp only [Option.bind_some] at h
  split at h
  · rename_i c T fr hb
    cases h
    exact ⟨T, fr, hb⟩
  · cases h
end
end Go.Proofs.Ev
