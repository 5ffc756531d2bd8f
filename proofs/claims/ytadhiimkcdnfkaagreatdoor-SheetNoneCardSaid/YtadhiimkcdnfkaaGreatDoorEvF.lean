/-
  An evaluator by value of the model of the program, proved sound, and what it shows of this law: part EvF.
-/
import Derived.Test.YtadhiimkcdnfkaaGreatDoorEvE
import Derived.OrdersHeld
import Derived.Scope
namespace Go.Proofs.Ev
open Go
set_option linter.unusedVariables false
set_option linter.unusedSimpArgs false
variable {ρ : Type}
section
variable {C : Cfg} {E E0 : Env} {st : AS} {a : Act} {w w0 : World} {o : Oper} {r : ρ} {S : Nat → Prop} {m : Nat}
theorem upd_lk (s : List (Nat × AV)) (n k : Nat) (x : AV) : lk (upd s n x) k = if k = n then some x else lk s k := lk_cons ..
theorem St.put (h : St C E st a w) {d : Option Tmp} (hd : dstOk st d = true) {av : AV} {v : Value} (hv : VR E av v) : St C E (putS st d av) (a.put d v) w := by
  cases d with
  | none => exact h
  | some t =>
    have hlt : t < a.tmps.size := by
      simp only [dstOk, Nat.blt_eq] at hd
      rw [h.n]; exact hd
    refine ⟨h.mr, fun k x hx => ?_, by simp [Act.put, putS, h.n], h.df, h.gl⟩
    simp only [putS] at hx
    rw [upd_lk] at hx
    by_cases hk : k = t
    · subst hk
      rw [if_pos rfl] at hx
      simp only [Option.some.injEq] at hx; subst hx
      exact ⟨v, by simp [Act.put, hlt], hv⟩
    · rw [if_neg hk] at hx
      obtain ⟨u, h1, h2⟩ := h.sl k x hx
      refine ⟨u, ?_, h2⟩
      simp only [Act.put]
      rw [Array.getElem?_setIfInBounds_ne (fun e => hk e.symm), h1]
/-- What a guard says. -/
theorem guard_sound (h : St C E st a w) {ops : Array Oper} {o : Oper} {j : Nat} {want : Bool} (hg : o.guard = some (j, want)) {t : Tmp} (ht : (ops[j]?).bind (·.dst) = some t) :
    (∀ b, lk st.s t = some (.v (.bool b)) → (Region.wanted o (yielded ops a.tmps) = (b == want)) ∧ St C E { st with s := upd st.s t (.v (.bool b)) } a w) ∧
    (∀ vs, lk st.s t = some (.v (.tuple vs)) → Region.wanted o (yielded ops a.tmps) = false) := by
  constructor
  · intro b hb
    obtain ⟨v, h1, h2⟩ := h.sl t _ hb
    simp only [VR] at h2
    subst h2
    have hy : yielded ops a.tmps j = some b := by
      simp only [yielded, ht, Option.bind_some, h1]
    refine ⟨?_, ⟨h.mr, fun k x hx => ?_, h.n, h.df, h.gl⟩⟩
    · simp only [Region.wanted, hg, hy]
      cases b <;> cases want <;> rfl
    · rw [upd_lk] at hx
      by_cases hk : k = t
      · subst hk
        rw [if_pos rfl] at hx
        simp only [Option.some.injEq] at hx; subst hx
        exact ⟨_, h1, by simp only [VR]⟩
      · rw [if_neg hk] at hx
        exact h.sl k x hx
  · intro vs hb
    obtain ⟨v, h1, h2⟩ := h.sl t _ hb
    simp only [VR] at h2
    subst h2
    have hy : yielded ops a.tmps j = none := by
      simp only [yielded, ht, Option.bind_some, h1]
    simp only [Region.wanted, hg, hy]
    rfl
theorem upd_evO {st : AS} {t : Nat} {x : AV} (h : lk st.s t = some x) (C : Cfg) (y : Operand) : evO C { st with s := upd st.s t x } y = evO C st y := by
  cases y with
  | tmp k =>
    simp only [evO, upd_lk]
    by_cases hk : k = t
    · subst hk; rw [if_pos rfl, h]
    · rw [if_neg hk]
  | _ => rfl
theorem argAVs_t {C : Cfg} {s1 s2 : AS} (h : s1.t = s2.t) : ∀ (l : List AV) (Ts : List TypeId), argAVs C s1 Ts l = argAVs C s2 Ts l := by
  have h1 : ∀ T x, argAV C s1 T x = argAV C s2 T x := fun T x => by unfold argAV; rw [h]
  intro l
  induction l with
  | nil => intro Ts; cases Ts <;> rfl
  | cons x l ih => intro Ts; cases Ts <;> simp only [argAVs, h1, ih]
theorem callRefs_t {C : Cfg} {s1 s2 : AS} (h : s1.t = s2.t) (f : FuncId) (args : List AV) : callRefs C s1 f args = callRefs C s2 f args := by
  unfold callRefs
  have hs : (settled s1 args).t = (settled s2 args).t := by simp only [settled, h]
  split
  · rfl
  · unfold passed reached
    rw [argAVs_t hs, hs]
/-- One operation of a region. -/
theorem one_sound {call : Call} (hcall : ∀ f args fr res, call.g f args fr = true → call.f f args fr = some res → CallSound C f args fr res) {ops : Array Oper} {i : Nat} (hoi : ops[i]? = some o) {K : AS → Option ρ} (h : St C E st a w) (hi : Inv S E0 w0 m E w)
    (hk : evOne C call ops o st K = some r) {next : Act → World → Prop} {Q : Exit → Act → World → Prop}
    (hnext : ∀ st' E' a' w', K st' = some r → St C E' st' a' w' → Inv S E0 w0 m E' w' → E.Φ.le E'.Φ → Keeps (writes C st o) st E w st' E' w' → next a' w') : wpOp C.P ops Q i next a w := by
  unfold evOne at hk
  obtain ⟨hd, hk⟩ := bif_some hk
  unfold wpOp
  simp only [hoi]
  have fin : ∀ (st1 : AS), St C E st1 a w → st1.n = st.n → (∀ k, lk st1.t k = lk st.t k) → writes C st1 o = writes C st o → Region.wanted o (yielded ops a.tmps) = true → evOp C call st1 o (fun av st' => K (putS st' o.dst av)) = some r →
      (if Region.wanted o (yielded ops a.tmps) = true then o.wp C.P a w next Q ∨ (o.asks C.P a w ∧ LetsOut Q) else next (a.put o.dst undef) w) := by
    intro st1 h1 hn ht hWe hw hop
    rw [if_pos hw]
    refine .inl (op_sound hcall h1 hi hop next Q fun av v st' E' w' hk' hv hs hi' hle hkp => ?_)
    have hd' : dstOk st' o.dst = true := by
      cases hdst : o.dst with
      | none => rfl
      | some t =>
        rw [hdst] at hd
        simp only [dstOk] at hd ⊢
        rw [← hs.n, h.n]; exact hd
    refine hnext _ E' _ w' hk' (hs.put hd' hv) hi' hle fun k x hkk hm hW => ?_
    obtain ⟨q1, q2⟩ := hkp k x (by rw [ht, hkk]) hm (by rw [hWe]; exact hW)
    refine ⟨?_, q2⟩
    cases o.dst <;> exact q1
  have skip : ∀ (st1 : AS), St C E st1 a w → st1.n = st.n → (∀ k, lk st1.t k = lk st.t k) → Region.wanted o (yielded ops a.tmps) = false → K (putS st1 o.dst (.v undef)) = some r →
      (if Region.wanted o (yielded ops a.tmps) = true then o.wp C.P a w next Q ∨ (o.asks C.P a w ∧ LetsOut Q) else next (a.put o.dst undef) w) := by
    intro st1 h1 hn ht hw hop
    rw [if_neg (by rw [hw]; exact Bool.false_ne_true)]
    have hd' : dstOk st1 o.dst = true := by
      cases hdst : o.dst with
      | none => rfl
      | some t =>
        rw [hdst] at hd
        simp only [dstOk] at hd ⊢
        rw [hn]; exact hd
    refine hnext _ E _ w hop (h1.put hd' (by simp only [VR])) hi (Phi.le_refl _) fun k x hkk hm hW => ⟨⟨x, ?_, hm⟩, fun b hb => ⟨hb, rfl⟩⟩
    cases o.dst <;> exact (ht k).trans hkk
  split at hk
  · rename_i hg
    exact fin st h rfl (fun _ => rfl) rfl (by simp only [Region.wanted, hg]) hk
  · rename_i j want hg
    split at hk
    · rename_i t ht
      obtain ⟨g1, g2⟩ := guard_sound h hg ht
      split at hk
      · rename_i b hb
        obtain ⟨k1, k2⟩ := g1 b hb
        have hWe : writes C { st with s := upd st.s t (.v (.bool b)) } o = writes C st o := by
          have hev : evO C { st with s := upd st.s t (.v (.bool b)) } = evO C st := funext fun y => upd_evO hb C y
          unfold writes
          simp only [hev, callRefs_t (s1 := { st with s := upd st.s t (.v (.bool b)) }) (s2 := st) rfl]
        cases b with
        | true =>
          simp only [cond_true] at hk
          cases want with
          | true => exact fin _ k2 rfl (fun _ => rfl) hWe (by rw [k1]; rfl) hk
          | false => exact skip _ k2 rfl (fun _ => rfl) (by rw [k1]; rfl) hk
        | false =>
          simp only [cond_false] at hk
          cases want with
          | true => exact skip _ k2 rfl (fun _ => rfl) (by rw [k1]; rfl) hk
          | false => exact fin _ k2 rfl (fun _ => rfl) hWe (by rw [k1]; rfl) hk
      · rename_i vs hb
        exact skip st h rfl (fun _ => rfl) (g2 vs hb) hk
      · cases hk
    · cases hk
/-- A region in the order of the text. -/
theorem ops_sound {call : Call} (hcall : ∀ f args fr res, call.g f args fr = true → call.f f args fr = some res → CallSound C f args fr res) {ops : Array Oper} {K : AS → Option ρ} {Q : Exit → Act → World → Prop} :
    ∀ (l : List Oper) (n : Nat) (st : AS) (E : Env) (a : Act) (w : World), n + l.length = ops.size → (∀ j (x : Oper), l[j]? = some x → ops[n + j]? = some x) → St C E st a w → Inv S E0 w0 m E w → evOps C call ops l st K = some r →
    (∀ st' E' a' w', K st' = some r → St C E' st' a' w' → Inv S E0 w0 m E' w' → Q .normal a' w') → wpOps C.P ops Q (List.range' n l.length) a w
  | [], n, st, E, a, w, _, _, h, hi, hk, hq => by
    simp only [evOps] at hk
    simp only [List.length_nil, List.range'_zero, wpOps]
    exact hq st E a w hk h hi
  | o :: l, n, st, E, a, w, hn, hl, h, hi, hk, hq => by
    simp only [evOps] at hk
    rw [List.length_cons, List.range'_succ, wpOps_cons]
    refine one_sound hcall (by simpa using hl 0 o rfl) h hi hk fun st' E' a' w' hk' hs hi' _ _ => ?_
    exact ops_sound hcall l (n + 1) st' E' a' w' (by simp only [List.length_cons] at hn; omega) (fun j x hj => by have := hl (j + 1) x (by simpa using hj); rwa [show n + (j + 1) = n + 1 + j by omega] at this) hs hi' hk' hq
/-- A quiet operation may be taken first. -/
theorem quiet_one {call : Call} {ops : Array Oper} {i : Nat} (hoi : ops[i]? = some o) (hq : quietOp o = true) (hcut : cutArr C st o = false) {K : AS → Option ρ} (h : St C E st a w) (hk : evOne C call ops o st K = some r) :
    ∃ v st', K st' = some r ∧ St C E st' (a.put o.dst v) w ∧ st'.t = st.t ∧ YieldsIf C.P ops (Sees E (reads C st o) w) o v a := by
  unfold evOne at hk
  obtain ⟨hd, hk⟩ := bif_some hk
  have fin : ∀ (st1 : AS), St C E st1 a w → st1.n = st.n → st1.t = st.t → reads C st1 o = reads C st o ∧ cutArr C st1 o = cutArr C st o → Region.wanted o (yielded ops a.tmps) = true → evOp C call st1 o (fun av st' => K (putS st' o.dst av)) = some r →
      ∃ v st', K st' = some r ∧ St C E st' (a.put o.dst v) w ∧ st'.t = st.t ∧ YieldsIf C.P ops (Sees E (reads C st o) w) o v a := by
    intro st1 h1 hn ht hRC hw hop
    obtain ⟨hR, hC⟩ := hRC
    obtain ⟨av, v, q1, q2, q3⟩ := quiet_sound h1 hq (hC.trans hcut) hop
    have hd' : dstOk st1 o.dst = true := by
      cases hdst : o.dst with
      | none => rfl
      | some t => rw [hdst] at hd; simp only [dstOk] at hd ⊢; rw [hn]; exact hd
    refine ⟨v, _, q1, h1.put hd' q2, ?_, .inl ⟨hw, fun w' hw' => q3 w' (by rw [hR]; exact hw')⟩⟩
    cases o.dst <;> exact ht
  have skip : ∀ (st1 : AS), St C E st1 a w → st1.n = st.n → st1.t = st.t → Region.wanted o (yielded ops a.tmps) = false → K (putS st1 o.dst (.v undef)) = some r →
      ∃ v st', K st' = some r ∧ St C E st' (a.put o.dst v) w ∧ st'.t = st.t ∧ YieldsIf C.P ops (Sees E (reads C st o) w) o v a := by
    intro st1 h1 hn ht hw hop
    have hd' : dstOk st1 o.dst = true := by
      cases hdst : o.dst with
      | none => rfl
      | some t => rw [hdst] at hd; simp only [dstOk] at hd ⊢; rw [hn]; exact hd
    refine ⟨undef, _, hop, h1.put hd' (by simp only [VR]), ?_, .inr ⟨hw, rfl⟩⟩
    cases o.dst <;> exact ht
  split at hk
  · rename_i hg
    exact fin st h rfl rfl ⟨rfl, rfl⟩ (by simp only [Region.wanted, hg]) hk
  · rename_i j want hg
    split at hk
    · rename_i t ht
      obtain ⟨g1, g2⟩ := guard_sound h hg ht
      split at hk
      · rename_i b hb
        obtain ⟨k1, k2⟩ := g1 b hb
        have hR : reads C { st with s := upd st.s t (.v (.bool b)) } o = reads C st o ∧ cutArr C { st with s := upd st.s t (.v (.bool b)) } o = cutArr C st o := by
          have hev : evO C { st with s := upd st.s t (.v (.bool b)) } = evO C st := funext fun y => upd_evO hb C y
          unfold reads cutArr
          simp only [hev, and_self]
        cases b with
        | true =>
          simp only [cond_true] at hk
          cases want with
          | true => exact fin _ k2 rfl rfl hR (by rw [k1]; rfl) hk
          | false => exact skip _ k2 rfl rfl (by rw [k1]; rfl) hk
        | false =>
          simp only [cond_false] at hk
          cases want with
          | true => exact skip _ k2 rfl rfl (by rw [k1]; rfl) hk
          | false => exact fin _ k2 rfl rfl hR (by rw [k1]; rfl) hk
      · rename_i vs hb
        exact skip st h rfl rfl (g2 vs hb) hk
      · cases hk
    · cases hk
end
end Go.Proofs.Ev
namespace Go.Proofs.Ev
open Go
set_option linter.unusedVariables false
set_option linter.unusedSimpArgs false
variable {ρ : Type}
section
variable {C : Cfg} {E E0 : Env} {st : AS} {a : Act} {w w0 : World} {o : Oper} {r : ρ} {S : Nat → Prop} {m : Nat}
inductive Waits (ops : Array Oper) : Nat → Nat → Prop
  | one {j i : Nat} {o : Oper} {e : Edge} (ho : ops[j]? = some o) (he : e ∈ o.after) (hb : Region.binds .any e = true) (h : e.on = i) : Waits ops j i
  | step {j i : Nat} {o : Oper} {e : Edge} (ho : ops[j]? = some o) (he : e ∈ o.after) (hb : Region.binds .any e = true) (h : Waits ops e.on i) : Waits ops j i
theorem Waits.trans {ops : Array Oper} {i j k : Nat} (h : Waits ops i j) (h' : Waits ops j k) : Waits ops i k := by
  induction h with
  | one ho he hb h => exact .step ho he hb (by rw [h]; exact h')
  | step ho he hb _ ih => exact .step ho he hb (ih h')
def Closed (ops : Array Oper) (listed : Array Bool) : Prop := ∀ j o, ops[j]? = some o → listed.getD j false = true → ∀ e ∈ o.after, Region.binds .any e = true → listed.getD e.on false = true
theorem Closed.waits {ops : Array Oper} {listed : Array Bool} (hc : Closed ops listed) {j i : Nat} (h : Waits ops j i) (hj : listed.getD j false = true) : listed.getD i false = true := by
  induction h with
  | one ho he hb h => rw [← h]; exact hc _ _ ho hj _ he hb
  | step ho he hb _ ih => exact ih (hc _ _ ho hj _ he hb)
theorem getD_set_ne' {listed : Array Bool} {i j : Nat} (d : Bool) (h : i ≠ j) : (listed.setIfInBounds i true).getD j d = listed.getD j d := getD_set_ne d h
theorem Closed.set {ops : Array Oper} {listed : Array Bool} (hc : Closed ops listed) {i : Nat} (hi : i ∈ Region.ready .any ops listed) : Closed ops (listed.setIfInBounds i true) := by
  intro j o ho hj e he hb
  by_cases hji : i = j
  · subst hji
    obtain ⟨_, o', ho', hall⟩ := mem_ready.1 hi
    rw [ho] at ho'
    injection ho' with ho'
    subst ho'
    exact getD_set_true (hall e he hb)
  · rw [getD_set_ne' false hji] at hj
    exact getD_set_true (hc j o ho hj e he hb)
def Loudly (ops : Array Oper) (j : Nat) : Prop := ∃ o, ops[j]? = some o ∧ quietOp o = false
/-- What is asked of the world behind so many operations: of each that was taken early: its condition, or one that turned memory waits for it. -/
def Kept (ops : Array Oper) (Ob : Nat → World → Prop) (listed : Array Bool) (w : World) : Prop := ∀ k, Ob k w ∨ ∃ j, listed.getD j false = true ∧ Loudly ops j ∧ Waits ops j k
def wpAnyK (P : Program) (ops : Array Oper) (Q : Exit → Act → World → Prop) (Ob : Nat → World → Prop) : Nat → Array Bool → Act → World → Prop
  | 0, listed, a, w => Region.ready .any ops listed = [] ∧ Q .normal a w
  | fuel + 1, listed, a, w =>
    (Region.ready .any ops listed = [] → Q .normal a w) ∧
    ∀ i ∈ Region.ready .any ops listed, wpOp P ops Q i (fun a' w' => Kept ops Ob (listed.setIfInBounds i true) w' ∧ wpAnyK P ops Q Ob fuel (listed.setIfInBounds i true) a' w') a w
theorem wpAny_of_kept {P : Program} {ops : Array Oper} {Q : Exit → Act → World → Prop} {Ob : Nat → World → Prop} : ∀ (fuel : Nat) (listed : Array Bool) (a : Act) (w : World), wpAnyK P ops Q Ob fuel listed a w → wpAny P .any ops Q fuel listed a w
  | 0, _, _, _, h => h
  | fuel + 1, _, _, _, h => ⟨h.1, fun i hi => wpOp_mono (fun a' w' h' => wpAny_of_kept fuel _ a' w' h'.2) (h.2 i hi)⟩
theorem Kept.mono {ops : Array Oper} {Ob Ob' : Nat → World → Prop} (h : ∀ k w, Ob' k w → Ob k w) {listed : Array Bool} {w : World} (hk : Kept ops Ob' listed w) : Kept ops Ob listed w := fun k => (hk k).imp (h k w) id
theorem wpAnyK_mono {P : Program} {ops : Array Oper} {Q : Exit → Act → World → Prop} {Ob Ob' : Nat → World → Prop} (hT : ∀ k w, Ob' k w → Ob k w) : ∀ (fuel : Nat) (listed : Array Bool) (a : Act) (w : World), wpAnyK P ops Q Ob' fuel listed a w → wpAnyK P ops Q Ob fuel listed a w
  | 0, _, _, _, h => h
  | fuel + 1, _, _, _, h => ⟨h.1, fun i hi => wpOp_mono (fun a' w' h' => ⟨h'.1.mono hT, wpAnyK_mono hT fuel _ a' w' h'.2⟩) (h.2 i hi)⟩
/-- Whether a quiet one has come up makes no difference. -/
theorem Kept.quiet {ops : Array Oper} {Ob : Nat → World → Prop} {listed : Array Bool} {w : World} {i : Nat} (hi : ¬ Loudly ops i) : Kept ops Ob (listed.setIfInBounds i true) w ↔ Kept ops Ob listed w := by
  constructor
  · intro h k
    refine (h k).imp id fun ⟨j, h1, h2, h3⟩ => ⟨j, ?_, h2, h3⟩
    rwa [getD_set_ne' false (fun e => hi (by rw [e]; exact h2))] at h1
  · intro h k
    exact (h k).imp id fun ⟨j, h1, h2, h3⟩ => ⟨j, getD_set_true h1, h2, h3⟩
/-- A quiet operation that may come up may be taken first. -/
theorem wpAnyK_first {P : Program} {ops : Array Oper} {Q : Exit → Act → World → Prop} {Ob : Nat → World → Prop} {i : Nat} {oi : Oper} {v : Value} (hi : ops[i]? = some oi) (hq : ¬ Loudly ops i) (hsel : ∀ (j : Nat) (o : Oper) cs b, ops[j]? = some o → o.op ≠ .select cs b)
    (hQ : ∀ c a w, Q (.panic c) (a.put oi.dst v) w → Q (.panic c) a w) :
    ∀ (fuel : Nat) (listed : Array Bool) (a : Act) (w : World),
      (∀ j oj, ops[j]? = some oj → j ≠ i → listed.getD j true = false → (∀ e ∈ oj.after, Region.binds .any e = true → e.on ≠ i) → oi.apart ops oj = true) →
      Closed ops listed → i ∈ Region.ready .any ops listed → YieldsIf P ops (Ob i) oi v a → Kept ops Ob listed w →
      wpAnyK P ops Q Ob fuel (listed.setIfInBounds i true) (a.put oi.dst v) w → wpAnyK P ops Q Ob (fuel + 1) listed a w := by
  have hob : ∀ (listed : Array Bool) (w : World), Closed ops listed → i ∈ Region.ready .any ops listed → Kept ops Ob listed w → Ob i w := by
    intro listed w hc hr hk
    rcases hk i with h | ⟨j, h1, h2, h3⟩
    · exact h
    · have h4 := hc.waits h3 h1
      have h0 := (mem_ready.1 hr).1
      rcases Nat.lt_or_ge i listed.size with h' | h'
      · simp [h'] at h0 h4; rw [h0] at h4; cases h4
      · simp [Array.getElem?_eq_none h'] at h4
  intro fuel
  induction fuel with
  | zero =>
    intro listed a w _ hc hr hy hS H
    refine ⟨fun h => (by rw [h] at hr; cases hr), fun j hj => ?_⟩
    by_cases hji : j = i
    · subst hji; exact hy.wpOp hi (hob listed w hc hr hS) ⟨(Kept.quiet hq).2 hS, H⟩
    · have := ready_mono hj hji
      rw [H.1] at this
      cases this
  | succ fuel ih =>
    intro listed a w hfree hc hr hy hS H
    refine ⟨fun h => (by rw [h] at hr; cases hr), fun j hj => ?_⟩
    by_cases hji : j = i
    · subst hji; exact hy.wpOp hi (hob listed w hc hr hS) ⟨(Kept.quiet hq).2 hS, H⟩
    · have h1 := H.2 j (ready_mono hj hji)
      obtain ⟨hjun, oj, hoj, hall⟩ := mem_ready.1 hj
      have hnot : ∀ e ∈ oj.after, Region.binds .any e = true → e.on ≠ i := fun e he hb heq => by
        have h1 := hall e he hb
        have h0 := (mem_ready.1 hr).1
        rw [heq] at h1
        rcases Nat.lt_or_ge i listed.size with h' | h'
        · simp [h'] at h0 h1; rw [h0] at h1; cases h1
        · simp [Array.getElem?_eq_none h'] at h1
      have h2 := wpOp_putIf hoj (hfree j oj hoj hji hjun hnot) (fun cs b => hsel i oi cs b hi) (fun cs b => hsel j oj cs b hoj) hQ hy h1
      have hfree' : ∀ k ok, ops[k]? = some ok → k ≠ i → (listed.setIfInBounds j true).getD k true = false →
          (∀ e ∈ ok.after, Region.binds .any e = true → e.on ≠ i) → oi.apart ops ok = true := fun k ok hk hki hun hno => by
        refine hfree k ok hk hki ?_ hno
        by_cases hjk : j = k
        · subst hjk; exact hjun
        · rw [getD_set_ne true hjk] at hun; exact hun
      refine wpOp_mono (fun a' w' h3 => ?_) h2
      obtain ⟨h3, h4, h5⟩ := h3
      rw [Array.setIfInBounds_comm _ _ (Ne.symm hji)] at h4 h5
      have hk := (Kept.quiet hq).1 h4
      exact ⟨hk, ih (listed.setIfInBounds j true) a' w' hfree' (hc.set hj) (ready_mono hr (Ne.symm hji)) h3 hk h5⟩
theorem wpAnyK_done {P : Program} {ops : Array Oper} {Q : Exit → Act → World → Prop} {Ob : Nat → World → Prop} {listed : Array Bool} {a : Act} {w : World} (hr : Region.ready .any ops listed = []) (h : Q .normal a w) :
    ∀ fuel, wpAnyK P ops Q Ob fuel listed a w
  | 0 => ⟨hr, h⟩
  | _ + 1 => ⟨fun _ => h, by rw [hr]; simp⟩
theorem onsOf_mem : ∀ (l : List Edge) (i : Nat), i ∈ onsOf l → ∃ e ∈ l, Region.binds .any e = true ∧ e.on = i
  | [], i, h => by simp [onsOf] at h
  | e :: l, i, h => by
    simp only [onsOf] at h
    cases hb : Region.binds .any e with
    | true =>
      rw [hb] at h
      simp only [cond_true, List.mem_cons] at h
      rcases h with h | h
      · exact ⟨e, by simp, hb, h.symm⟩
      · obtain ⟨e', h1, h2⟩ := onsOf_mem l i h
        exact ⟨e', by simp [h1], h2⟩
    | false =>
      rw [hb] at h
      obtain ⟨e', h1, h2⟩ := onsOf_mem l i h
      exact ⟨e', by simp [h1], h2⟩
theorem reach_waits {ops : Array Oper} {p : Nat} : ∀ (n : Nat) (todo seen : List Nat), (∀ k ∈ todo, Waits ops p k) → (∀ k ∈ seen, Waits ops p k) → ∀ k ∈ reach ops n todo seen, Waits ops p k
  | 0, todo, seen, _, h2, k, hk => h2 k hk
  | n + 1, [], seen, _, h2, k, hk => h2 k hk
  | n + 1, j :: todo, seen, h1, h2, k, hk => by
    simp only [reach] at hk
    cases hm : mem j seen with
    | true =>
      rw [hm] at hk
      exact reach_waits n todo seen (fun k hk => h1 k (by simp [hk])) h2 k hk
    | false =>
      rw [hm] at hk
      simp only [cond_false] at hk
      have hj := h1 j (by simp)
      split at hk
      · rename_i o ho
        refine reach_waits n _ _ (fun k hk => ?_) (fun k hk => ?_) k hk
        · rcases List.mem_append.1 hk with hk | hk
          · obtain ⟨e, g1, g2, g3⟩ := onsOf_mem _ _ hk
            exact hj.trans (.one ho (by simpa using g1) g2 g3)
          · exact h1 k (by simp [hk])
        · rcases List.mem_cons.1 hk with rfl | hk
          · exact hj
          · exact h2 k hk
      · exact reach_waits n todo seen (fun k hk => h1 k (by simp [hk])) h2 k hk
theorem yields_mono {P : Program} {ops : Array Oper} {T T' : World → Prop} {o : Oper} {v : Value} {a : Act} (hT : ∀ w, T' w → T w) (h : YieldsIf P ops T o v a) : YieldsIf P ops T' o v a :=
  h.imp (fun ⟨h1, h2⟩ => ⟨h1, fun w hw => h2 w (hT w hw)⟩) id
theorem firstQuiet_some {ops : Array Oper} {listed : Array Bool} : ∀ {l : List Nat} {j : Nat}, firstQuiet ops listed l = some j → j ∈ l ∧ ∃ o, ops[j]? = some o ∧ quietOp o = true ∧ Region.free .any ops listed j = true
  | [], j, h => by simp [firstQuiet] at h
  | i :: l, j, h => by
    simp only [firstQuiet] at h
    split at h
    · rename_i o ho
      cases hb : (quietOp o && Region.free .any ops listed i) with
      | true =>
        rw [hb] at h
        simp only [cond_true, Option.some.injEq] at h; subst h
        simp only [Bool.and_eq_true] at hb
        exact ⟨by simp, o, ho, hb.1, hb.2⟩
      | false =>
        rw [hb] at h
        obtain ⟨h1, h2⟩ := firstQuiet_some (l := l) h
        exact ⟨by simp [h1], h2⟩
    · obtain ⟨h1, h2⟩ := firstQuiet_some (l := l) h
      exact ⟨by simp [h1], h2⟩
theorem disj_iff : ∀ (L M : List Nat), disj L M = true → ∀ k ∈ M, k ∉ L
  | [], M, _, k, _ => by simp
  | x :: L, M, h, k, hk => by
    simp only [disj, Bool.and_eq_true, Bool.not_eq_true'] at h
    simp only [List.mem_cons, not_or]
    refine ⟨fun e => ?_, disj_iff L M h.2 k hk⟩
    subst e
    rw [(mem_iff k M).2 hk] at h
    cases h.1
theorem Sees.refl (h : St C E st a w) (R : List Nat) : Sees E R w w := ⟨h.mr.phi, fun _ _ _ _ => rfl⟩
theorem reads_box {C : Cfg} {st : AS} {o : Oper} : ∀ k ∈ reads C st o, ∃ y, lk st.t k = some y ∧ y.mut = true := by
  intro k hk
  unfold reads at hk
  split at hk
  · split at hk
    · split at hk
      · rename_i r off _ T c hb
        simp only [List.mem_singleton] at hk; subst hk
        exact ⟨_, hb, rfl⟩
      · cases hk
    · split at hk
      · rename_i hb
        simp only [List.mem_singleton] at hk; subst hk
        exact ⟨_, hb, rfl⟩
      · cases hk
    · cases hk
  · cases hk
theorem dropR_some {W : List Nat} {ops : Array Oper} {o : Oper} {p : Nat} (hp : ops[p]? = some o) : ∀ {R R' : List (Nat × List Nat)}, dropR W ops o R = some R' → ∀ k refs, (k, refs) ∈ R → ((k, refs) ∈ R' ∧ ∀ x ∈ refs, x ∉ W) ∨ Waits ops p k
  | [], R', h, k, refs, hm => by cases hm
  | (j, rs) :: R, R', h, k, refs, hm => by
    simp only [dropR] at h
    split at h
    · cases h
    rename_i R1 h1
    cases hd : disj W rs with
    | true =>
      rw [hd] at h
      simp only [cond_true, Option.some.injEq] at h; subst h
      rcases List.mem_cons.1 hm with hm | hm
      · injection hm with e1 e2
        subst e1; subst e2
        exact .inl ⟨by simp, disj_iff _ _ hd⟩
      · exact (dropR_some hp h1 k refs hm).imp (fun ⟨a, b⟩ => ⟨by simp [a], b⟩) id
    | false =>
      rw [hd] at h
      simp only [cond_false] at h
      obtain ⟨h2, h3⟩ := bif_some h
      simp only [Option.some.injEq] at h3; subst h3
      rcases List.mem_cons.1 hm with hm | hm
      · injection hm with e1 e2
        subst e1; subst e2
        refine .inr (reach_waits 1000 _ _ (fun k hk => ?_) (by simp) _ ((mem_iff _ _).1 h2))
        obtain ⟨e, g1, g2, g3⟩ := onsOf_mem _ _ hk
        exact .one hp (by simpa using g1) g2 g3
      · exact dropR_some hp h1 k refs hm
theorem dropR_sub {W : List Nat} {ops : Array Oper} {o : Oper} : ∀ {R R' : List (Nat × List Nat)}, dropR W ops o R = some R' → ∀ x ∈ R', x ∈ R ∧ ∀ y ∈ x.2, y ∉ W
  | [], R', h, x, hm => by simp only [dropR, Option.some.injEq] at h; subst h; cases hm
  | (j, rs) :: R, R', h, x, hm => by
    simp only [dropR] at h
    split at h
    · cases h
    rename_i R1 h1
    cases hd : disj W rs with
    | true =>
      rw [hd] at h
      simp only [cond_true, Option.some.injEq] at h; subst h
      rcases List.mem_cons.1 hm with hm | hm
      · subst hm; exact ⟨by simp, disj_iff _ _ hd⟩
      · obtain ⟨g1, g2⟩ := dropR_sub h1 x hm
        exact ⟨by simp [g1], g2⟩
    | false =>
      rw [hd] at h
      simp only [cond_false] at h
      obtain ⟨h2, h3⟩ := bif_some h
      simp only [Option.some.injEq] at h3; subst h3
      obtain ⟨g1, g2⟩ := dropR_sub h1 x hm
      exact ⟨by simp [g1], g2⟩
/-- A region whose order is drawn. -/
theorem drawn_sound {call : Call} (hcall : ∀ f args fr res, call.g f args fr = true → call.f f args fr = some res → CallSound C f args fr res) {ops : Array Oper} (hsel : Region.noSelect ops = true) {K : AS → Option ρ} {Q : Exit → Act → World → Prop} (hQ : ∀ c a w, ¬ Q (.panic c) a w)
    (hq : ∀ st' E' a' w', K st' = some r → St C E' st' a' w' → Inv S E0 w0 m E' w' → Q .normal a' w') :
    ∀ (n : Nat) (listed : Array Bool) (R : List (Nat × List Nat)) (st : AS) (E : Env) (a : Act) (w : World) (Ob : Nat → World → Prop), Closed ops listed →
      (∀ k, (∃ refs, (k, refs) ∈ R ∧ ∀ w', Sees E refs w w' → Ob k w') ∨ (∀ w', Ob k w') ∨ (∃ j, listed.getD j false = true ∧ Loudly ops j ∧ Waits ops j k)) →
      (∀ k, listed.getD k true = false → ∀ w', Ob k w') →
      (∀ x ∈ R, ∀ k ∈ x.2, ∃ y, lk st.t k = some y ∧ y.mut = true) → St C E st a w → Inv S E0 w0 m E w →
      evD C call ops n listed R st K = some r → wpAnyK C.P ops Q Ob n listed a w := by
  intro n
  induction n with
  | zero =>
    intro listed R st E a w Ob hc hT hU hR h hi hk
    simp only [evD] at hk
    split at hk
    · rename_i hr
      exact ⟨hr, hq st E a w hk h hi⟩
    · cases hk
  | succ n ih =>
    intro listed R st E a w Ob hc hT hU hR h hi hk
    have hkept : Kept ops Ob listed w := fun k => by
      rcases hT k with ⟨refs, _, h1⟩ | h1 | h1
      · exact .inl (h1 w (Sees.refl h _))
      · exact .inl (h1 w)
      · exact .inr h1
    simp only [evD] at hk
    split at hk
    · rename_i hr
      exact wpAnyK_done hr (hq st E a w hk h hi) _
    · rename_i i l hr
      split at hk
      · rename_i j hj
        obtain ⟨j1, o, j2, j3, j4⟩ := firstQuiet_some hj
        rw [j2] at hk
        have hcut : cutArr C st o = false := by
          cases hb : cutArr C st o with
          | true => simp only [hb, cond_true] at hk; cases hk
          | false => rfl
        simp only [hcut, cond_false] at hk
        obtain ⟨v, st', q1, q2, q3, q4⟩ := quiet_one j2 j3 hcut h hk
        have hjr : j ∈ Region.ready .any ops listed := by rw [hr]; exact j1
        have hnl : ¬ Loudly ops j := by rintro ⟨o', h1, h2⟩; rw [j2] at h1; injection h1 with h1; subst h1; rw [j3] at h2; cases h2
        have hju := (mem_ready.1 hjr).1
        refine wpAnyK_mono (Ob' := fun k => if k = j then Sees E (reads C st o) w else Ob k) (fun k w' hk' => ?_) _ _ _ _ ?_
        · by_cases hkj : k = j
          · subst hkj; exact hU k hju w'
          · rwa [if_neg hkj] at hk'
        have hkept' : Kept ops (fun k => if k = j then Sees E (reads C st o) w else Ob k) listed w := fun k => by
          by_cases hkj : k = j
          · subst hkj; refine .inl ?_; dsimp only; rw [if_pos rfl]; exact Sees.refl h _
          · dsimp only; rw [if_neg hkj]; exact hkept k
        refine wpAnyK_first j2 hnl (Region.noSelect_spec hsel) (fun c a w hp => absurd hp (hQ c _ w)) _ _ _ _ (Region.free_spec j2 j4) hc hjr (by rw [if_pos rfl]; exact q4) hkept' ?_
        refine ih _ _ st' E _ w _ (hc.set hjr) (fun k => ?_) (fun k hk => ?_) (fun x hx k hk => ?_) q2 hi q1
        · by_cases hkj : k = j
          · subst hkj
            exact .inl ⟨reads C st o, by simp, fun w' hw' => by rw [if_pos rfl]; exact hw'⟩
          · rw [if_neg hkj]
            rcases hT k with ⟨refs, h1, h2⟩ | h1 | ⟨p, h1, h2⟩
            · exact .inl ⟨refs, by simp [h1], h2⟩
            · exact .inr (.inl h1)
            · exact .inr (.inr ⟨p, getD_set_true h1, h2⟩)
        · by_cases hkj : k = j
          · subst hkj
            exfalso
            have hlt : k < listed.size := by
              rcases Nat.lt_or_ge k listed.size with h' | h'
              · exact h'
              · simp [Array.getElem?_eq_none h'] at hju
            simp [hlt] at hk
          · rw [getD_set_ne' true (fun e => hkj e.symm)] at hk
            rw [if_neg hkj]
            exact hU k hk
        · rw [q3]
          rcases List.mem_cons.1 hx with rfl | hx
          · exact reads_box k hk
          · exact hR x hx k hk
      · split at hk
        · rename_i hfq _ _ o ho _
          split at hk
          · rename_i R' hd
            have hlq : quietOp o = false := by
              cases hb : quietOp o with
              | true => rw [hb] at hk; cases hk
              | false => rfl
            rw [hlq] at hk
            simp only [cond_false] at hk
            have hir : i ∈ Region.ready .any ops listed := by rw [hr]; simp
            have hiu := (mem_ready.1 hir).1
            have hlt : i < listed.size := by
              rcases Nat.lt_or_ge i listed.size with h' | h'
              · exact h'
              · simp [Array.getElem?_eq_none h'] at hiu
            refine ⟨fun h0 => (by rw [hr] at h0; cases h0), fun k hki => ?_⟩
            rw [hr] at hki
            simp only [List.mem_singleton] at hki; subst hki
            refine one_sound hcall ho h hi hk fun st' E' a' w' hk' hs hi' hle hkp => ?_
            have hR' : ∀ x ∈ R', ∀ y ∈ x.2, (∃ z, lk st'.t y = some z ∧ z.mut = true) ∧ ∀ b, E.own y b → E'.own y b ∧ w'.heap[b]? = w.heap[b]? := fun x hx y hy => by
              obtain ⟨g1, g2⟩ := dropR_sub hd x hx
              obtain ⟨z, hb, hm⟩ := hR x g1 y hy
              exact hkp y z hb hm (g2 y hy)
            have hphi : ∀ w'', PhiOk E'.Φ w'' → PhiOk E.Φ w'' := fun w'' hp b o v hv => hp b o v (hle b o v hv)
            have hself : (listed.setIfInBounds k true).getD k false = true := by simp [hlt]
            have hT' : ∀ j, (∃ refs, (j, refs) ∈ R' ∧ ∀ w'', Sees E' refs w' w'' → Ob j w'') ∨ (∀ w', Ob j w') ∨ (∃ p, (listed.setIfInBounds k true).getD p false = true ∧ Loudly ops p ∧ Waits ops p j) := fun j => by
              rcases hT j with ⟨refs, h1, h2⟩ | h1 | ⟨p, h1, h2⟩
              · rcases dropR_some ho hd j refs h1 with ⟨h3, h4⟩ | h3
                · refine .inl ⟨refs, h3, fun w'' hw'' => h2 w'' ⟨hphi w'' hw''.1, fun y hy b hb => ?_⟩⟩
                  obtain ⟨g1, g2⟩ := (hR' _ h3 y hy).2 b hb
                  rw [hw''.2 y hy b g1, g2]
                · exact .inr (.inr ⟨k, hself, ⟨o, ho, hlq⟩, h3⟩)
              · exact .inr (.inl h1)
              · exact .inr (.inr ⟨p, getD_set_true h1, h2⟩)
            refine ⟨fun j => ?_, ?_⟩
            · rcases hT' j with ⟨refs, h1, h2⟩ | h1 | h1
              · exact .inl (h2 w' (Sees.refl hs _))
              · exact .inl (h1 w')
              · exact .inr h1
            · refine ih _ R' st' E' a' w' Ob (hc.set hir) hT' (fun j hj => ?_) (fun x hx y hy => (hR' x hx y hy).1) hs hi' hk'
              by_cases hjk : k = j
              · subst hjk; simp [hlt] at hj
              · rw [getD_set_ne' true hjk] at hj
                exact hU j hj
          · cases hk
        · cases hk
theorem region_sound {call : Call} (hcall : ∀ f args fr res, call.g f args fr = true → call.f f args fr = some res → CallSound C f args fr res) (hm : C.P.follows .mixedOrders = true) {ops : Array Oper} (hsel : Region.noSelect ops = true) {id : Nat} {K : AS → Option ρ} {Q : Exit → Act → World → Prop} (hQ : ∀ c a w, ¬ Q (.panic c) a w)
    (hq : ∀ st' E' a' w', K st' = some r → St C E' st' a' w' → Inv S E0 w0 m E' w' → Q .normal a' w') (h : St C E st a w) (hi : Inv S E0 w0 m E w) (hk : evD C call ops ops.size (Array.replicate ops.size false) [] st K = some r) : (Code.region id ops true).wp C.P Q a w := by
  refine wp_region_any hm (wpAny_of_kept (Ob := fun _ _ => True) _ _ _ _ ?_)
  have h' : St C E st a { w with drawn := w.drawn + 1 } := ⟨h.mr.drew rfl, h.sl, h.n, h.df, h.gl⟩
  refine drawn_sound hcall hsel hQ hq _ _ [] st E a _ _ (fun j o ho hj => ?_) (fun _ => .inr (.inl fun _ => trivial)) (fun _ _ _ => trivial) (by simp) h' hi.drew hk
  have : j < ops.size := (Array.getElem?_eq_some_iff.1 ho).1
  simp [this] at hj
end
end Go.Proofs.Ev
namespace Go.Proofs.Ev
open Go
set_option linter.unusedVariables false
set_option linter.unusedSimpArgs false
variable {ρ : Type}
section
variable {C : Cfg} {E E0 : Env} {st : AS} {a : Act} {w w0 : World} {S : Nat → Prop} {m : Nat}
def Env.fz (E : Env) (r b : Nat) (vs : List Value) : Env := { blk := fun k => if k = r then none else E.blk k, rowv := E.rowv, own := fun k d => k ≠ r ∧ E.own k d, Φ := E.Φ.add b vs }
mutual
theorem VR.fz {r b : Nat} {e : Ty} {x : e.T} {vs : List Value} (hb : E.blk r = some b) (hle : E.Φ.le (E.Φ.add b vs)) (hp : PR (E.Φ.add b vs) e x b 0) : ∀ (y : AV) (v : Value), VR E y v → VR (E.fz r b vs) (y.fz r e x) v
  | .v x, v, h => by simp only [AV.fz]; exact h
  | .d lf, v, h => by simp only [AV.fz, VR] at h ⊢; exact h.mono hle
  | .dp e x j, v, h => by
    simp only [AV.fz, VR] at h ⊢
    obtain ⟨b', off, e1, e2⟩ := h
    exact ⟨b', off, e1, e2.mono hle⟩
  | .full e xs, v, h => by simp only [AV.fz, VR] at h ⊢; exact ⟨h.1, h.2.mono hle⟩
  | .ga e xs, v, h => by
    simp only [AV.fz, VR] at h ⊢
    obtain ⟨b', off, e1, e2⟩ := h
    exact ⟨b', off, e1, e2.mono hle⟩
  | .sl k, v, h => by simp only [AV.fz]; exact h
  | .ep k s i j, v, h => by simp only [AV.fz]; exact h
  | .bad, v, h => by simp only [AV.fz, VR]
  | .ptr k o, v, h => by
    simp only [AV.fz]
    simp only [VR] at h
    obtain ⟨b', e1, e2⟩ := h
    cases hk : Nat.beq k r with
    | true =>
      rw [Nat.beq_eq] at hk
      subst hk
      rw [hb] at e1
      injection e1 with e1
      subst e1
      simp only [cond_true, VR]
      exact ⟨b, 0, by rw [e2, Nat.zero_add], hp⟩
    | false =>
      have hne : k ≠ r := fun e => by subst e; rw [Nat.beq_refl] at hk; cases hk
      simp only [cond_false, VR]
      exact ⟨b', by simp only [Env.fz]; rw [if_neg hne]; exact e1, e2⟩
  | .clo f fs cs, v, h => by
    simp only [AV.fz, VR] at h ⊢
    obtain ⟨xs, ys, e1, e2, e3⟩ := h
    exact ⟨xs, ys, e1, VRs.fz hb hle hp fs xs e2, VRs.fz hb hle hp cs ys e3⟩
  | .agg l, v, h => by
    simp only [AV.fz, VR] at h ⊢
    obtain ⟨xs, e1, e2⟩ := h
    exact ⟨xs, e1, VRs.fz hb hle hp l xs e2⟩
  | .tup l, v, h => by
    simp only [AV.fz, VR] at h ⊢
    obtain ⟨xs, e1, e2⟩ := h
    exact ⟨xs, e1, VRs.fz hb hle hp l xs e2⟩
theorem VRs.fz {r b : Nat} {e : Ty} {x : e.T} {vs : List Value} (hb : E.blk r = some b) (hle : E.Φ.le (E.Φ.add b vs)) (hp : PR (E.Φ.add b vs) e x b 0) : ∀ (l : List AV) (us : List Value), VRs E l us → VRs (E.fz r b vs) (AV.fzL r e x l) us
  | [], [], _ => by simp only [AV.fzL, VRs]
  | [], _ :: _, h => by simp only [VRs] at h
  | _ :: _, [], h => by simp only [VRs] at h
  | y :: l, u :: us, h => by
    simp only [AV.fzL, VRs] at h ⊢
    exact ⟨VR.fz hb hle hp y u h.1, VRs.fz hb hle hp l us h.2⟩
end
theorem lk_delR (r : Nat) : ∀ (t : List (Nat × Res)) (k : Nat), lk (delR r t) k = if k = r then none else lk t k
  | [], k => by simp [delR, lk]
  | (j, y) :: t, k => by
    simp only [delR]
    cases hj : Nat.beq j r with
    | true =>
      rw [Nat.beq_eq] at hj
      subst hj
      simp only [cond_true, lk_delR j t k, lk_cons]
      by_cases hk : k = j
      · rw [if_pos hk, if_pos hk]
      · rw [if_neg hk, if_neg hk, if_neg hk]
    | false =>
      have hne : j ≠ r := fun e => by subst e; rw [Nat.beq_refl] at hj; cases hj
      simp only [cond_false, lk_cons, lk_delR r t k]
      by_cases hk : k = j
      · subst hk; rw [if_pos rfl, if_neg hne, if_pos rfl]
      · rw [if_neg hk, if_neg hk]
theorem frzRef_sound {r : Nat} {st' : AS} (hf : frzRef C m st r = some st') (h : St C E st a w) (hi : Inv S E0 w0 m E w) : ∃ E', St C E' st' a w ∧ Inv S E0 w0 m E' w := by
  unfold frzRef at hf
  split at hf
  case h_2 => cases hf
  rename_i T c hb
  split at hf
  case h_2 => cases hf
  rename_i e he
  split at hf
  case h_2 => cases hf
  rename_i x hx
  obtain ⟨hm, hf⟩ := bif_some hf
  cases hf
  have hmr := Nat.le_of_ble_eq_true hm
  obtain ⟨f0, b, vs, f1, f2, f3, f4, f5⟩ := h.mr.res _ _ hb
  have hl := mkAV_sound h.mr hx (show VR E (.agg c) (.agg vs.toArray) by simp only [VR]; exact ⟨vs, rfl, f4⟩)
  simp only [Value.cells] at hl
  have hle : E.Φ.le (E.Φ.add b vs) := Phi.add_le fun o v hv => by rw [f5] at hv; cases hv
  have hp : PR (E.Φ.add b vs) e x b 0 := by
    refine ⟨fun j => vs.getD j undef, fun j lf hj => ?_, fun j lf hj => ?_⟩
    · obtain ⟨v, h1, h2⟩ := hl.get j lf hj
      rw [Phi.add_at (by simpa using h1)]
      simp [List.getD_eq_getElem?_getD, h1]
    · obtain ⟨v, h1, h2⟩ := hl.get j lf hj
      simpa [List.getD_eq_getElem?_getD, h1] using h2.mono hle
  have hadd : ∀ g o, g ≠ b → E.Φ.add b vs g o = E.Φ g o := fun g o hg => by simp only [Phi.add]; rw [if_neg hg]
  have hother : ∀ k d, k ≠ r → E.own k d → d ≠ b := fun k d hk hd e => by subst e; exact hk (h.mr.sep _ _ _ hd f2)
  have lkt : ∀ k y, lk ((delR r st.t).map fun p => (p.1, p.2.fz r e x)) k = some y → k ≠ r ∧ ∃ z, lk st.t k = some z ∧ y = z.fz r e x := fun k y hy => by
    rw [lk_map, lk_delR] at hy
    by_cases hk : k = r
    · rw [if_pos hk] at hy; cases hy
    · rw [if_neg hk] at hy
      obtain ⟨z, h1, h2⟩ := Option.map_eq_some_iff.1 hy
      exact ⟨hk, z, h1, h2.symm⟩
  have hres : ∀ k z, k ≠ r → ResOk C E w k z → ResOk C (E.fz r b vs) w k (z.fz r e x) := fun k z hk hz => by
    have hblk : ∀ d, E.blk k = d → (E.fz r b vs).blk k = d := fun d hd => by simp only [Env.fz]; rw [if_neg hk]; exact hd
    cases z with
    | box T c =>
      obtain ⟨g0, d, us, g1, g2, g3, g4, g5⟩ := hz
      exact ⟨g0, d, us, hblk _ g1, ⟨hk, g2⟩, g3, VRs.fz f1 hle hp c us g4, fun o => by show E.Φ.add b vs d o = none; rw [hadd d o (hother k d hk g2)]; exact g5 o⟩
    | row te e' xs =>
      obtain ⟨g0, g1, A, cap, g2, g3, g4⟩ := hz
      refine ⟨hblk _ g0, g1, A, cap, g2, g3.mono hle, ?_⟩
      rcases g4 with g4 | ⟨g, cur, q1, q2, q3, q4, q5, q6⟩
      · exact .inl g4
      · exact .inr ⟨g, cur, q1, ⟨hk, q2⟩, q3, q4, q5, fun o ho => by show E.Φ.add b vs g o = none; rw [hadd g o (hother k g hk q2)]; exact q6 o ho⟩
    | arr te e' xs =>
      obtain ⟨g0, g1, g, cap, cur, us, q1, q2, q3, q4, q5, q6, q7, q8⟩ := hz
      exact ⟨hblk _ g0, g1, g, cap, cur, us, q1, ⟨hk, q2⟩, q3, q4, q5, q6.mono hle, q7, fun o => by show E.Φ.add b vs g o = none; rw [hadd g o (hother k g hk q2)]; exact q8 o⟩
    | gone => exact ⟨hblk _ hz.1, hz.2⟩
    | iter s pos =>
      obtain ⟨g0, d, g1, g2, g3, g4⟩ := hz
      exact ⟨g0, d, hblk _ g1, ⟨hk, g2⟩, g3, fun o => by show E.Φ.add b vs d o = none; rw [hadd d o (hother k d hk g2)]; exact g4 o⟩
    | bld T s =>
      obtain ⟨g0, d, A, cap, sf, g1, g2, g3, g4, g5, g6⟩ := hz
      refine ⟨g0, d, A, cap, sf, hblk _ g1, ⟨hk, g2⟩, g3, fun o => by show E.Φ.add b vs d o = none; rw [hadd d o (hother k d hk g2)]; exact g4 o, g5, ?_⟩
      rcases g6 with g6 | ⟨g, cur, te, hi', q1, q2, q3, q4, q5, q6, q7, q8, q9, q10⟩
      · exact .inl g6
      · exact .inr ⟨g, cur, te, hi', q1, q2, ⟨hk, q3⟩, q4, q5, q6, q7, q8, q9, fun o => by show E.Φ.add b vs g o = none; rw [hadd g o (hother k g hk q3)]; exact q10 o⟩
  refine ⟨E.fz r b vs, ⟨⟨?_, ?_, ?_, ?_, ?_⟩, ?_, h.n, h.df, ?_⟩, ?_⟩
  · intro d o v hv
    by_cases hd : d = b
    · subst hd
      have hv' : vs[o]? = some v := by simpa only [Env.fz, Phi.add, if_true] using hv
      exact ⟨vs.toArray, T, (0, 0), f3, by simpa using hv'⟩
    · have hv' : E.Φ.add b vs d o = some v := hv
      rw [hadd d o hd] at hv'
      exact h.mr.phi d o v hv'
  · intro k y hy
    obtain ⟨hk, z, h1, rfl⟩ := lkt k y hy
    exact hres k z hk (h.mr.res k z h1)
  · intro k hk
    rw [lk_map, lk_delR] at hk
    by_cases hkr : k = r
    · subst hkr
      exact ⟨by simp [Env.fz], f0, fun d hd => hd.1 rfl⟩
    · rw [if_neg hkr] at hk
      have hk' : lk st.t k = none := by
        cases hl : lk st.t k with
        | none => rfl
        | some z => rw [hl] at hk; cases hk
      obtain ⟨d1, d2, d3⟩ := h.mr.dom k hk'
      exact ⟨by simp only [Env.fz]; rw [if_neg hkr]; exact d1, d2, fun d hd => d3 d hd.2⟩
  · exact fun k d hd => h.mr.lt k d hd.2
  · exact fun k k' d hd hd' => h.mr.sep k k' d hd.2 hd'.2
  · intro t y hy
    rw [lk_map] at hy
    obtain ⟨z, h1, rfl⟩ := Option.map_eq_some_iff.1 hy
    obtain ⟨v, g1, g2⟩ := h.sl t z h1
    exact ⟨v, g1, VR.fz f1 hle hp z v g2⟩
  · intro g p hg
    have := VR.fz f1 hle hp _ _ (h.gl g p hg)
    simpa only [AV.fz] using this
  · refine ⟨hi.m40, hi.os, hi.tape, hi.output, hi.size, hi.keep, fun k d hd => hi.own k d hd.2, Phi.le_trans hi.phi hle, fun d o v hv => ?_, fun k hk => ?_⟩
    · by_cases hd : d = b
      · subst hd; exact .inr (hi.own r d f2)
      · have hv' : E.Φ.add b vs d o = some v := hv
        rw [hadd d o hd] at hv'
        exact hi.new d o v hv'
    · simp only [Env.fz]
      rw [if_neg (by omega)]
      exact hi.fb k hk
theorem frzSlots_sound : ∀ (l : List Nat) {st st' : AS} {E : Env}, frzSlots C m l st = some st' → St C E st a w → Inv S E0 w0 m E w → ∃ E', St C E' st' a w ∧ Inv S E0 w0 m E' w
  | [], st, st', E, hf, h, hi => by
    simp only [frzSlots, Option.some.injEq] at hf
    subst hf
    exact ⟨E, h, hi⟩
  | s :: l, st, st', E, hf, h, hi => by
    simp only [frzSlots] at hf
    split at hf
    · split at hf
      · rename_i st1 h1
        obtain ⟨E1, s1, i1⟩ := frzRef_sound h1 h hi
        exact frzSlots_sound l hf s1 i1
      · cases hf
    · cases hf
end
end Go.Proofs.Ev
namespace Go.Proofs.Ev
open Go
set_option linter.unusedVariables false
set_option linter.unusedSimpArgs false
variable {ρ : Type}
theorem collect_prefix (t : List (Nat × Res)) : ∀ (k : Nat) (todo seen : List Nat), ∃ l, collect t k todo seen = seen ++ l
  | 0, todo, seen => ⟨[], by simp [collect]⟩
  | k + 1, [], seen => ⟨[], by simp [collect]⟩
  | k + 1, r :: todo, seen => by
    simp only [collect]
    cases mem r seen with
    | true => simp only [cond_true]; exact collect_prefix t k todo seen
    | false =>
      simp only [cond_false]
      split
      · obtain ⟨l, hl⟩ := collect_prefix t k (_ ++ todo) (seen ++ [r])
        exact ⟨[r] ++ l, by rw [hl, List.append_assoc]⟩
      · obtain ⟨l, hl⟩ := collect_prefix t k todo (seen ++ [r])
        exact ⟨[r] ++ l, by rw [hl, List.append_assoc]⟩
theorem upto_get : ∀ (m r : Nat), r < m → (upto m)[r]? = some r
  | 0, r, h => by omega
  | m + 1, r, h => by
    have hl : (upto m).length = m := by
      clear h
      induction m with
      | zero => rfl
      | succ m ih => simp [upto, ih]
    simp only [upto]
    by_cases hr : r < m
    · rw [List.getElem?_append_left (by omega)]
      exact upto_get m r hr
    · have : r = m := by omega
      subst this
      rw [List.getElem?_append_right (by omega), hl]
      simp
theorem collect_upto {t : List (Nat × Res)} {k m : Nat} {todo L : List Nat} (h : collect t k todo (upto m) = L) {r : Nat} (hr : r < m) : L[r]? = some r := by
  obtain ⟨l, hl⟩ := collect_prefix t k todo (upto m)
  rw [← h, hl, List.getElem?_append_left]
  · exact upto_get m r hr
  · exact (List.getElem?_eq_some_iff.1 (upto_get m r hr)).1
section
variable {C : Cfg} {E E0 : Env} {st : AS} {a : Act} {w w0 : World} {o : Oper} {r : ρ} {S : Nat → Prop} {m : Nat}
theorem Inv.part (h : Inv S E0 w0 m E w) {L : List Nat} (hL : ∀ r, r < m → L[r]? = some r) : Inv S E0 w0 m (E.part L) w where
  m40 := h.m40
  os := h.os
  tape := h.tape
  output := h.output
  size := h.size
  keep := h.keep
  own := fun j b hj => by
    obtain ⟨r, _, hr⟩ := hj
    exact h.own r b hr
  phi := h.phi
  new := h.new
  fb := fun r hr => by
    rw [← h.fb r hr]
    simp [Env.part, hL r hr]
theorem sel_lk (s : List (Nat × AV)) : ∀ (l : List Nat) (t : Nat) (x : AV), lk (sel s l) t = some x → lk s t = some x
  | [], t, x, h => by simp [sel, lk] at h
  | k :: l, t, x, h => by
    simp only [sel] at h
    split at h
    · rename_i y hy
      rw [lk_cons] at h
      split at h
      · rename_i e
        simp only [Option.some.injEq] at h; subst h; subst e
        exact hy
      · exact sel_lk s l t x h
    · exact sel_lk s l t x h
theorem lk_refs : ∀ (s : List (Nat × AV)) (t : Nat) (x : AV), lk s t = some x → ∀ r ∈ x.refs, r ∈ AV.refsL (s.map (·.2))
  | [], t, x, h, _, _ => by simp [lk] at h
  | (k, y) :: s, t, x, h, r, hr => by
    rw [lk_cons] at h
    simp only [List.map_cons, AV.refsL, List.mem_append]
    split at h
    · simp only [Option.some.injEq] at h; subst h
      exact .inl hr
    · exact .inr (lk_refs s t x h r hr)
theorem canon1_sound {live : List Nat} {st1 : AS} (hc : canon1 m live st = some st1) (h : St C E st a w) (hi : Inv S E0 w0 m E w) : ∃ E1, St C E1 st1 a w ∧ Inv S E0 w0 m E1 w := by
  unfold canon1 at hc
  simp only at hc
  generalize hL : collect st.t 200 (refsAt st.t (upto m) ++ AV.refsL ((sel st.s live).map (·.2))) (upto m) = L at hc
  split at hc
  · rename_i fr hfr
    obtain ⟨hcl, hc⟩ := bif_some hc
    simp only [closed, Bool.and_eq_true] at hcl
    simp only [Option.some.injEq] at hc
    subst hc
    have hn := (nodup_iff L).1 hcl.1
    refine ⟨E.part L, ⟨h.mr.part hn hfr ((sub_iff _ _).1 hcl.2.2), fun t x hx => ?_, h.n, h.df, Glob.part h.gl L⟩, hi.part fun r hr => collect_upto hL hr⟩
    rw [lk_map (AV.ren (idx L))] at hx
    obtain ⟨y, hy, rfl⟩ := Option.map_eq_some_iff.1 hx
    obtain ⟨v, h1, h2⟩ := h.sl t y (sel_lk _ _ _ _ hy)
    exact ⟨v, h1, h2.part fun r hr => (sub_iff _ _).1 hcl.2.1 r (lk_refs _ t y hy r hr)⟩
  · cases hc
theorem ownRows_sound : ∀ (l : List (Nat × TypeId)) (i : Nat) (st st1 : AS) (E : Env), 40 ≤ i → ownRows C l i st = some st1 → St C E st a w → Inv S E0 w0 m E w → ∃ E1, St C E1 st1 a w ∧ Inv S E0 w0 m E1 w
  | [], i, st, st1, E, _, hc, h, hi => by
    simp only [ownRows, Option.some.injEq] at hc; subst hc
    exact ⟨E, h, hi⟩
  | (t, te) :: l, i, st, st1, E, h40, hc, h, hi => by
    simp only [ownRows] at hc
    split at hc
    · rename_i ht
      split at hc
      · rename_i e hk hty
        obtain ⟨d1, d2, d3⟩ := h.mr.dom i hk
        obtain ⟨E', s1, s2, s3, _⟩ := h.row0 hi (k := i) hty d1 (fun t x hx hm => h.fresh hk t x hx i hm rfl) (fun j x hj _ hm => h.mr.fresh hk j x hj (fun e => by subst e; rw [hk] at hj; cases hj) hm) none
        refine ownRows_sound l (i + 1) _ st1 E' (by omega) hc ?_ s2
        have s1 := s1.cons
        refine ⟨s1.mr, fun k x hx => ?_, s1.n, s1.df, s1.gl⟩
        simp only at hx
        rw [upd_lk] at hx
        split at hx
        · rename_i e; subst e
          simp only [Option.some.injEq] at hx; subst hx
          obtain ⟨v, h1, h2⟩ := h.sl k _ ht
          simp only [VR] at h2; subst h2
          exact ⟨_, h1, s3⟩
        · exact s1.sl k x hx
      · cases hc
    · exact ownRows_sound l (i + 1) st st1 E (by omega) hc h hi
theorem canon_sound {f : FuncId} {id : Nat} {st1 : AS} (hc : canon C f id m st = some st1) (h : St C E st a w) (hi : Inv S E0 w0 m E w) : ∃ E1, St C E1 st1 a w ∧ Inv S E0 w0 m E1 w := by
  unfold canon at hc
  split at hc
  · rename_i st2 h2
    obtain ⟨E1, s1, s2⟩ := ownRows_sound _ 40 st st2 E (Nat.le_refl _) h2 h hi
    exact canon1_sound hc s1 s2
  · cases hc
/-! ### loops -/
def LoopWp (P : Program) (c : Code) (Q : Exit → Act → World → Prop) (a : Act) (w : World) : Prop :=
  ∀ (b : Frame) (k : List Item) (cs : List Frame), ∃ e a' w', Q e a' w' ∧ Arrives P (lone (b.at a (.code c :: .inLoop c :: k)) cs w) b k cs e a' w'
theorem LoopWp.wp {P : Program} {c : Code} {Q : Exit → Act → World → Prop} {a : Act} {w : World} (h : LoopWp P c Q a w) : (Code.loop c).wp P Q a w := fun b k cs => by
  obtain ⟨e, a', w', hq, harr⟩ := h b k cs
  exact ⟨e, a', w', hq, .of_steps (.one step_loop) harr⟩
theorem LoopWp.unroll {P : Program} {c : Code} {Q : Exit → Act → World → Prop} {a : Act} {w : World} (h : c.wp P (Exit.then (LoopWp P c Q) Q) a w) : LoopWp P c Q a w := fun b k cs => by
  obtain ⟨e, a₁, w₁, hq, harr⟩ := h b (.inLoop c :: k) cs
  cases e with
  | normal =>
    obtain ⟨e₂, a₂, w₂, hq₂, harr₂⟩ := hq b k cs
    exact ⟨e₂, a₂, w₂, hq₂, .of_steps (Steps.trans harr (.one step_inLoop)) harr₂⟩
  | exit id => exact ⟨_, a₁, w₁, hq, .pass (x := .inLoop c) rfl (fun _ _ => .inl (by simp)) harr⟩
  | goto l => exact ⟨_, a₁, w₁, hq, .pass (x := .inLoop c) rfl (fun _ _ => .inl (by simp)) harr⟩
  | ret => exact ⟨_, a₁, w₁, hq, .pass (x := .inLoop c) rfl (fun _ _ => .inl (by simp)) harr⟩
  | panic ch => exact ⟨_, a₁, w₁, hq, .pass (x := .inLoop c) rfl (fun _ _ => .inl (by simp)) harr⟩
  | outgrown => exact ⟨_, a₁, w₁, hq, .pass (x := .inLoop c) rfl (fun _ _ => .inl (by simp)) harr⟩
def exitOf : Ex → Exit
  | .normal => .normal
  | .exit id => .exit id
  | .ret => .ret
/-- A loop's entry of a table is true. -/
def LoopSound (C : Cfg) (m : Nat) (body : Code) (st : AS) (res : Ex × AS) : Prop :=
  ∀ (S : Nat → Prop) (E0 : Env) (w0 : World) (E : Env) (a : Act) (w : World) (Q : Exit → Act → World → Prop), (∀ c a w, ¬ Q (.panic c) a w) → St C E st a w → Inv S E0 w0 m E w →
    (∀ E' a' w', St C E' res.2 a' w' → Inv S E0 w0 m E' w' → Q (exitOf res.1) a' w') → LoopWp C.P body Q a w
/-- What one knows of a function's loops. -/
def LoopsSound (C : Cfg) (lp : Loops) (m : Nat) (f : FuncId) (all : List (Nat × Code)) : Prop := ∀ id st res, lp.g f id st = true → lp.f f id st = some res → ∀ body, lk all id = some body → LoopSound C m body st res
theorem noPanic_then {Q : Exit → Act → World → Prop} {X : Act → World → Prop} (hQ : ∀ c a w, ¬ Q (.panic c) a w) : ∀ c a w, ¬ Exit.then X Q (.panic c) a w := fun c a w h => hQ c a w h
theorem inBlk_sound {id : Nat} {K : Ex → AS → Option ρ} {Q : Exit → Act → World → Prop} (hq : ∀ e st' E' a' w', K e st' = some r → St C E' st' a' w' → Inv S E0 w0 m E' w' → Q (exitOf e) a' w') :
    ∀ e st' E' a' w', inBlk id K e st' = some r → St C E' st' a' w' → Inv S E0 w0 m E' w' → Exit.inBlock id Q (exitOf e) a' w' := fun e st' E' a' w' hk hs hi => by
  cases e with
  | normal => exact hq .normal st' E' a' w' hk hs hi
  | exit i =>
    simp only [inBlk] at hk
    simp only [exitOf, Exit.inBlock]
    by_cases h : i = id
    · subst h
      rw [Nat.beq_refl] at hk
      rw [if_pos rfl]
      exact hq .normal st' E' a' w' hk hs hi
    · have : Nat.beq i id = false := by
        cases hb : Nat.beq i id
        · rfl
        · rw [Nat.beq_eq] at hb; exact absurd hb h
      rw [this] at hk
      rw [if_neg h]
      exact hq (.exit i) st' E' a' w' hk hs hi
  | ret => exact hq .ret st' E' a' w' hk hs hi
theorem noPanic_inBlock {id : Nat} {Q : Exit → Act → World → Prop} (hQ : ∀ c a w, ¬ Q (.panic c) a w) : ∀ c a w, ¬ Exit.inBlock id Q (.panic c) a w := fun c a w h => hQ c a w h
theorem thenK_sound {X : AS → Option ρ} {K : Ex → AS → Option ρ} {Y : Act → World → Prop} {Q : Exit → Act → World → Prop} (hx : ∀ st' E' a' w', X st' = some r → St C E' st' a' w' → Inv S E0 w0 m E' w' → Y a' w')
    (hq : ∀ e st' E' a' w', K e st' = some r → St C E' st' a' w' → Inv S E0 w0 m E' w' → Q (exitOf e) a' w') :
    ∀ e st' E' a' w', thenK X K e st' = some r → St C E' st' a' w' → Inv S E0 w0 m E' w' → Exit.then Y Q (exitOf e) a' w' := fun e st' E' a' w' hk hs hi => by
  cases e with
  | normal => exact hx st' E' a' w' hk hs hi
  | exit i => exact hq (.exit i) st' E' a' w' hk hs hi
  | ret => exact hq .ret st' E' a' w' hk hs hi
/-- Of a code: what its reckoning says is so. -/
def CodeOk (C : Cfg) (call : Call) (lp : Loops) (f : FuncId) (all : List (Nat × Code)) (n : Nat) (r : ρ) (S : Nat → Prop) (E0 : Env) (w0 : World) (m : Nat) (c : Code) : Prop :=
  (∀ p ∈ loops c, lk all p.1 = some p.2) → ∀ (st : AS) (E : Env) (a : Act) (w : World) (K : Ex → AS → Option ρ) (Q : Exit → Act → World → Prop), (∀ c a w, ¬ Q (.panic c) a w) → St C E st a w → Inv S E0 w0 m E w → evC C call lp m n f c st K = some r →
      (∀ e st' E' a' w', K e st' = some r → St C E' st' a' w' → Inv S E0 w0 m E' w' → Q (exitOf e) a' w') → c.wp C.P Q a w
theorem loopK_sound {call : Call} {lp : Loops} {f : FuncId} {all : List (Nat × Code)} {n : Nat} {body : Code} (hb : CodeOk C call lp f all n r S E0 w0 m body) (hl : ∀ p ∈ loops body, lk all p.1 = some p.2) {id : Nat} {K : Ex → AS → Option ρ} {Q : Exit → Act → World → Prop} (hQ : ∀ c a w, ¬ Q (.panic c) a w)
    (hq : ∀ e st' E' a' w', K e st' = some r → St C E' st' a' w' → Inv S E0 w0 m E' w' → Q (exitOf e) a' w') : ∀ (k : Nat) (st : AS) (E : Env) (a : Act) (w : World), St C E st a w → Inv S E0 w0 m E w →
      loopK (canon C f id m) (fun st K => evC C call lp m n f body st K) k st K = some r → LoopWp C.P body Q a w
  | 0, st, E, a, w, _, _, hk => by simp [loopK] at hk
  | k + 1, st, E, a, w, h, hi, hk => by
    simp only [loopK] at hk
    refine LoopWp.unroll (hb hl st E a w _ _ (noPanic_then hQ) h hi hk fun e st' E' a' w' hk' hs hi' => ?_)
    cases e with
    | normal =>
      simp only at hk'
      split at hk'
      · rename_i st2 hc
        obtain ⟨E1, h1, hi1⟩ := canon_sound hc hs hi'
        exact loopK_sound hb hl hQ hq k st2 E1 a' w' h1 hi1 hk'
      · cases hk'
    | exit i => exact hq (.exit i) st' E' a' w' hk' hs hi'
    | ret => exact hq .ret st' E' a' w' hk' hs hi'
theorem setB_sound {st : AS} {E : Env} {a : Act} {w : World} (h : St C E st a w) {c : Operand} {b : Bool} (hc : evO C st c = .v (.bool b)) : St C E (setB st c b) a w := by
  cases c with
  | tmp t =>
    refine ⟨h.mr, fun t' x hx => ?_, h.n, h.df, h.gl⟩
    simp only [setB, upd, lk_cons] at hx
    split at hx
    · rename_i e
      subst e
      cases hx
      simp only [evO] at hc
      cases hl : lk st.s t' with
      | none => rw [hl] at hc; cases hc
      | some y =>
        rw [hl] at hc
        simp only [Option.getD_some] at hc
        subst hc
        exact h.sl t' _ hl
    · exact h.sl t' x hx
  | _ => exact h
/-- THE CODE. -/
theorem code_sound {call : Call} (hcall : ∀ f args fr res, call.g f args fr = true → call.f f args fr = some res → CallSound C f args fr res) (hm : C.P.follows .mixedOrders = true) {lp : Loops} {f : FuncId} {all : List (Nat × Code)} (hlp : LoopsSound C lp m f all) (n : Nat) :
    ∀ (c : Code), CodeOk C call lp f all n r S E0 w0 m c ∧ ∀ body, c = .loop body → CodeOk C call lp f all n r S E0 w0 m body := by
  intro c
  induction c with
  | skip =>
    refine ⟨?_, fun body hb => by cases hb⟩
    intro _ st E a w K Q hQ h hi hk hq
    simp only [evC] at hk
    exact wp_skip (hq .normal st E a w hk h hi)
  | region id ops draw =>
    refine ⟨?_, fun body hb => by cases hb⟩
    intro _ st E a w K Q hQ h hi hk hq
    cases draw with
    | false =>
      simp only [evC] at hk
      refine wp_region ?_
      have := ops_sound hcall (ops := ops) (Q := Q) ops.toList 0 st E a w (by simp) (fun j x hj => by simpa using hj) h hi hk (fun st' E' a' w' h1 h2 h3 => hq .normal st' E' a' w' h1 h2 h3)
      rwa [← List.range_eq_range', Array.length_toList] at this
    | true =>
      simp only [evC] at hk
      split at hk
      · rename_i st1 hz
        obtain ⟨E1, s1, i1⟩ := frzSlots_sound _ hz h hi
        obtain ⟨h1, h2⟩ := bif_some hk
        exact region_sound hcall hm h1 hQ (fun st' E' a' w' h1 h2 h3 => hq .normal st' E' a' w' h1 h2 h3) s1 i1 h2
      · cases hk
  | seq x y ihx ihy =>
    refine ⟨?_, fun body hb => by cases hb⟩
    intro hl st E a w K Q hQ h hi hk hq
    simp only [evC] at hk
    refine wp_seq (ihx.1 (fun p hp => hl p (by simp [loops, hp])) st E a w _ _ (noPanic_then hQ) h hi hk (thenK_sound (fun st' E' a' w' hk' h' hi' => ?_) hq))
    exact ihy.1 (fun p hp => hl p (by simp [loops, hp])) st' E' a' w' K Q hQ h' hi' hk' hq
  | cond c x y ihx ihy =>
    refine ⟨?_, fun body hb => by cases hb⟩
    intro hl st E a w K Q hQ h hi hk hq
    simp only [evC] at hk
    split at hk
    · rename_i b hc
      have hv := h.eval c
      rw [hc] at hv
      simp only [VR] at hv
      refine wp_cond hv ?_
      cases b with
      | true => exact ihx.1 (fun p hp => hl p (by simp [loops, hp])) _ E a w K Q hQ (setB_sound h hc) hi hk hq
      | false => exact ihy.1 (fun p hp => hl p (by simp [loops, hp])) _ E a w K Q hQ (setB_sound h hc) hi hk hq
    · cases hk
  | block id c ih =>
    refine ⟨?_, fun body hb => by cases hb⟩
    intro hl st E a w K Q hQ h hi hk hq
    refine wp_block ?_
    cases c with
    | loop body =>
      simp only [evC] at hk
      split at hk
      · cases hk
      rename_i st1 hc
      obtain ⟨E1, h1, hi1⟩ := canon_sound hc h hi
      refine LoopWp.wp ?_
      split at hk
      · rename_i e s' he
        obtain ⟨hgd, hk⟩ := bif_some hk
        exact hlp id st1 (e, s') hgd he body (hl (id, body) (by simp [loops])) S E0 w0 E1 a w _ (noPanic_inBlock hQ) h1 hi1 (fun E' a' w' g1 g2 => inBlk_sound hq e s' E' a' w' hk g1 g2)
      · exact loopK_sound (ih.2 body rfl) (fun p hp => hl p (by simp [loops, hp])) (noPanic_inBlock hQ) (inBlk_sound hq) n st1 E1 a w h1 hi1 hk
    | _ => exact ih.1 hl st E a w (inBlk id K) _ (noPanic_inBlock hQ) h hi (by simpa only [evC] using hk) (inBlk_sound hq)
  | loop c ih => exact ⟨fun _ st E a w K Q hQ h hi hk hq => by simp [evC] at hk, fun body hb => by cases hb; exact ih.1⟩
  | rangeFunc f ps x y ihx ihy =>
    refine ⟨?_, fun body hb => by cases hb⟩
    intro _ st E a w K Q hQ h hi hk hq; simp [evC] at hk
  | exit id =>
    refine ⟨?_, fun body hb => by cases hb⟩
    intro _ st E a w K Q hQ h hi hk hq
    simp only [evC] at hk
    exact wp_exit (hq (.exit id) st E a w hk h hi)
  | scope c ih =>
    refine ⟨?_, fun body hb => by cases hb⟩
    intro hl st E a w K Q hQ h hi hk hq
    simp only [evC] at hk
    refine wp_scope_straight (ih.1 hl st E a w K _ (fun c a w hp => hQ c a w hp) h hi hk fun e st' E' a' w' h1 h2 h3 => ?_)
    have := hq e st' E' a' w' h1 h2 h3
    cases e <;> exact this
  | label l =>
    refine ⟨?_, fun body hb => by cases hb⟩
    intro _ st E a w K Q hQ h hi hk hq
    simp only [evC] at hk
    exact wp_label (hq .normal st E a w hk h hi)
  | goto l =>
    refine ⟨?_, fun body hb => by cases hb⟩
    intro _ st E a w K Q hQ h hi hk hq; simp [evC] at hk
  | ret =>
    refine ⟨?_, fun body hb => by cases hb⟩
    intro _ st E a w K Q hQ h hi hk hq
    simp only [evC] at hk
    exact wp_ret (hq .ret st E a w hk h hi)
  | refuse s =>
    refine ⟨?_, fun body hb => by cases hb⟩
    intro _ st E a w K Q hQ h hi hk hq; simp [evC] at hk
end
end Go.Proofs.Ev
namespace Go.Proofs.Ev
open Go
set_option linter.unusedVariables false
set_option linter.unusedSimpArgs false
variable {ρ : Type}
section
variable {C : Cfg} {E E0 : Env} {st : AS} {a : Act} {w w0 : World} {o : Oper} {r : ρ} {S : Nat → Prop} {m : Nat}
def resultSem (tmps : Array Value) : ResultVar → Sem Value
  | .tmp t => pure (tmps.getD t undef)
  | .cell a t => do loadVar t (← asAddr (tmps.getD a undef))
theorem results_eq (fn : Func) (tmps : Array Value) : results fn tmps = (do
    let vs ← fn.results.mapM (resultSem tmps)
    pure (if h : vs.size = 1 then vs[0] else .tuple vs)) := by
  unfold results
  congr 2
theorem resAV_sound (h : St C E st a w) {rv : ResultVar} {x : AV} (hx : resAV C st rv = some x) : ∃ v, (resultSem a.tmps rv).run C.P w = .ok v w ∧ VR E x v := by
  cases rv with
  | tmp t =>
    simp only [resAV, Option.some.injEq] at hx; subst hx
    exact ⟨_, rfl, h.eval (.tmp t)⟩
  | cell t T =>
    simp only [resAV] at hx
    split at hx
    · rename_i k off ht
      split at hx
      · rename_i B c hb
        obtain ⟨h1, h2⟩ := bif_some hx
        simp only [oneOk, Bool.and_eq_true, Bool.or_eq_true] at h1
        have hn : isAggT C.P T = false → C.P.cellsOf T = 1 := fun hf => by
          rcases h1.2 with h | h
          · rw [hf] at h; cases h
          · rwa [Nat.beq_eq] at h
        obtain ⟨v, e0, e1⟩ := h.sl t _ ht
        simp only [VR] at e1
        obtain ⟨b, e1, e2⟩ := e1
        obtain ⟨_, b', vs, f1, f2, f3, f4, _⟩ := h.mr.res _ _ hb
        rw [e1] at f1
        injection f1 with f1
        subst f1
        obtain ⟨g1, g2⟩ := pickCells_sound f4 h2 hn
        have hlen : ((vs.drop off).take (C.P.cellsOf T)).length = C.P.cellsOf T := by simp; omega
        have hv : a.tmps.getD t undef = .pointer (some ⟨b, off, none⟩) := by
          rw [Array.getD_eq_getD_getElem?, e0]; exact e2
        have := run_loadVar h1.1 w b off ((vs.drop off).take (C.P.cellsOf T)) hlen (fun hf => by rw [hlen, hn hf]) (fun j v hv => ⟨_, B, (0, 0), f3, by
          rw [List.getElem?_take] at hv
          split at hv
          · simpa using hv
          · cases hv⟩)
        refine ⟨_, ?_, g2⟩
        simp only [resultSem, hv, asAddr, Sem.run_bind, Sem.run_pure, Result.andThen_ok, this]
      · cases hx
    · cases hx
theorem resAVs_sound (h : St C E st a w) : ∀ {l : List ResultVar} {xs : List AV}, resAVs C st l = some xs → ∃ vs, (l.mapM (resultSem a.tmps)).run C.P w = .ok vs w ∧ VRs E xs vs
  | [], xs, hx => by
    simp only [resAVs, Option.some.injEq] at hx; subst hx
    exact ⟨[], by simp, by simp only [VRs]⟩
  | rv :: l, xs, hx => by
    simp only [resAVs] at hx
    split at hx
    · rename_i x ys h1 h2
      simp only [Option.some.injEq] at hx; subst hx
      obtain ⟨v, g1, g2⟩ := resAV_sound h h1
      obtain ⟨vs, k1, k2⟩ := resAVs_sound h h2
      refine ⟨v :: vs, ?_, by simp only [VRs]; exact ⟨g2, k2⟩⟩
      simp only [List.mapM_cons, Sem.run_bind, g1, Result.andThen_ok, k1, Sem.run_pure]
    · cases hx
theorem tupled_sound {xs : List AV} {vs : List Value} (h : VRs E xs vs) : VR E (tupled xs) (if h : vs.toArray.size = 1 then vs.toArray[0] else .tuple vs.toArray) := by
  match xs, vs, h with
  | [], [], h => simp [tupled, VR, VRs]
  | [], _ :: _, h => simp only [VRs] at h
  | _ :: _, [], h => simp only [VRs] at h
  | [x], [v], h =>
    simp only [VRs] at h
    simpa [tupled] using h.1
  | [x], v :: u :: vs, h => simp only [VRs] at h; exact h.2.elim
  | x :: y :: xs, [v], h => simp only [VRs] at h; exact h.2.elim
  | x :: y :: xs, v :: u :: vs, h =>
    simp only [tupled, VR]
    exact ⟨v :: u :: vs, by simp, h⟩
/-- What is handed back for good. -/
theorem frz_sound (h : St C E st a w) : ∀ {xs : List AV} {vs : List Value}, VRs E xs vs → ∃ Φ : Phi, E.Φ.le Φ ∧ PhiOk Φ w ∧ (∀ b o v, Φ b o = some v → E.Φ b o = some v ∨ ∃ k ∈ frzRefs xs (xs.map (frzAV C m st)), E.own k b) ∧ VRs (E.phi Φ) (xs.map (frzAV C m st)) vs
  | [], [], _ => ⟨E.Φ, Phi.le_refl _, h.mr.phi, fun _ _ _ h => .inl h, by simp only [List.map_nil, VRs]⟩
  | [], _ :: _, h => by simp only [VRs] at h
  | _ :: _, [], h => by simp only [VRs] at h
  | x :: xs, v :: vs, hv => by
    simp only [VRs] at hv
    obtain ⟨Φ, p1, p2, p3, p4⟩ := frz_sound h hv.2
    have plain : frzAV C m st x = x → ∃ Φ : Phi, E.Φ.le Φ ∧ PhiOk Φ w ∧ (∀ b o v, Φ b o = some v → E.Φ b o = some v ∨ ∃ k ∈ frzRefs (x :: xs) ((x :: xs).map (frzAV C m st)), E.own k b) ∧ VRs (E.phi Φ) ((x :: xs).map (frzAV C m st)) (v :: vs) := fun hx => by
      refine ⟨Φ, p1, p2, fun b o u hu => ?_, ?_⟩
      · rcases p3 b o u hu with h | ⟨k, hk, ho⟩
        · exact .inl h
        · refine .inr ⟨k, ?_, ho⟩
          rw [List.map_cons, hx]
          cases x <;> simpa only [frzRefs] using hk
      · simp only [List.map_cons, VRs, hx]
        exact ⟨VR.mono (R := fun _ => True) (Env.phi_le p1 _) x v (fun _ _ => trivial) hv.1, p4⟩
    cases x with
    | ptr k off =>
      cases off with
      | succ off => exact plain rfl
      | zero =>
        cases hm : Nat.blt k m with
        | true => exact plain (by simp only [frzAV, hm, cond_true])
        | false =>
          cases ht : lk st.t k with
          | none => exact plain (by simp only [frzAV, hm, cond_false, ht])
          | some res =>
            cases res with
            | box T c =>
              cases hty : C.ty T with
              | none => exact plain (by simp only [frzAV, hm, cond_false, ht, hty])
              | some e =>
                cases hmk : mkAV st.t e (.agg c) with
                | none => exact plain (by simp only [frzAV, hm, cond_false, ht, hty, hmk])
                | some y =>
                  have hfz : frzAV C m st (.ptr k 0) = .dp e y 0 := by simp only [frzAV, hm, cond_false, ht, hty, hmk]
                  obtain ⟨_, b, us, f1, f2, f3, f4, f5⟩ := h.mr.res _ _ ht
                  have hl : LRs E.Φ (cells e y) us := by
                    have := mkAV_sound h.mr hmk (v := .agg us.toArray) (by simp only [VR]; exact ⟨us, rfl, f4⟩)
                    simpa [Value.cells] using this
                  have hle : Φ.le (Φ.add b us) := Phi.add_le fun o u hu => by
                    obtain ⟨c', T', fr', q1, q2⟩ := p2 b o u hu
                    rw [f3] at q1
                    injection q1 with q1
                    injection q1 with q1
                    subst q1
                    simpa using q2
                  have hvx := hv.1
                  simp only [VR] at hvx
                  obtain ⟨b', e1, e2⟩ := hvx
                  rw [f1] at e1
                  injection e1 with e1
                  subst e1
                  refine ⟨Φ.add b us, Phi.le_trans p1 hle, fun d o u hu => ?_, fun d o u hu => ?_, ?_⟩
                  · simp only [Phi.add] at hu
                    split at hu
                    · rename_i hd; subst hd
                      exact ⟨_, T, (0, 0), f3, by simpa using hu⟩
                    · exact p2 d o u hu
                  · rw [List.map_cons, hfz]
                    simp only [frzRefs, List.mem_cons]
                    simp only [Phi.add] at hu
                    split at hu
                    · rename_i hd; subst hd
                      exact .inr ⟨k, .inl rfl, f2⟩
                    · rcases p3 d o u hu with h | ⟨j, hj, ho⟩
                      · exact .inl h
                      · exact .inr ⟨j, .inr hj, ho⟩
                  · simp only [List.map_cons, VRs, hfz]
                    refine ⟨?_, VRs.mono (E := E.phi Φ) (F := E.phi (Φ.add b us)) (R := fun _ => True) ⟨fun _ _ h => h, fun _ _ _ h => h, hle⟩ _ _ (fun _ _ => trivial) p4⟩
                    simp only [VR]
                    refine ⟨b, 0, e2, fun j => us.getD j undef, fun j lf hj => ?_, fun j lf hj => ?_⟩
                    · obtain ⟨u, h1, h2⟩ := hl.get j lf hj
                      show Φ.add b us b (0 + j) = _
                      rw [Phi.add_at h1]; simp [List.getD_eq_getElem?_getD, h1]
                    · obtain ⟨u, h1, h2⟩ := hl.get j lf hj
                      have e3 : us.getD j undef = u := by simp [List.getD_eq_getElem?_getD, h1]
                      show LR _ lf (us.getD j undef)
                      rw [e3]
                      exact h2.mono (Phi.le_trans p1 hle)
            | _ => exact plain (by simp only [frzAV, hm, cond_false, ht])
    | _ => exact plain rfl
theorem disj_iff' (L M : List Nat) (h : disj L M = true) : ∀ k ∈ L, k ∉ M := fun k hk hm => disj_iff L M h k hm hk
/-- A function's end. -/
theorem finish1_sound {f : FuncId} {fn : Func} {res : AV × List Res} (h : St C E st a w) (hi : Inv S E0 w0 m E w) (hf : finish1 C m f fn st = some res) :
    ∃ v E', (results fn a.tmps).run C.P w = .ok v w ∧ VR E' res.1 v ∧ MR C E' w (lk (enum 0 res.2)) ∧ Glob C E' ∧ Inv S E0 w0 m E' w := by
  unfold finish1 at hf
  split at hf
  · cases hf
  rename_i as00 has
  simp only at hf
  obtain ⟨vs, r1, r20⟩ := resAVs_sound h has
  obtain ⟨as0, has0, r2⟩ : ∃ as0, (bif C.keep f then as00 else argAVs C st fn.resultTypes.toList as00) = as0 ∧ VRs E as0 vs := by
    cases C.keep f with
    | true => exact ⟨_, rfl, r20⟩
    | false => exact ⟨_, rfl, argAVs_sound h.mr r20⟩
  rw [has0] at hf
  have hrun : (results fn a.tmps).run C.P w = .ok (if h : vs.toArray.size = 1 then vs.toArray[0] else .tuple vs.toArray) w := by
    rw [results_eq]
    have e : fn.results.mapM (resultSem a.tmps) = List.toArray <$> (fn.results.toList.mapM (resultSem a.tmps)) := by
      rw [← List.mapM_toArray]
    simp only [Sem.run_bind, e, Sem.run_map, r1, Result.andThen_ok, Sem.run_pure]
  have key : ∃ (as : List AV) (Φ : Phi), (bif C.frz f then as0.map (frzAV C m st) else as0) = as ∧ E.Φ.le Φ ∧ PhiOk Φ w ∧ (∀ b o v, Φ b o = some v → E.Φ b o = some v ∨ ∃ k ∈ frzRefs as0 as, E.own k b) ∧ VRs (E.phi Φ) as vs := by
    cases C.frz f with
    | false => exact ⟨as0, E.Φ, rfl, Phi.le_refl _, h.mr.phi, fun _ _ _ h => .inl h, r2⟩
    | true =>
      obtain ⟨Φ, p1, p2, p3, p4⟩ := frz_sound (m := m) h r2
      exact ⟨_, Φ, rfl, p1, p2, p3, p4⟩
  obtain ⟨as, Φ, e0, p1, p2, p3, p4⟩ := key
  rw [e0] at hf
  generalize hL : collect st.t 200 (refsAt st.t (upto m) ++ (tupled as).refs) (upto m) = L at hf
  split at hf
  · rename_i out hout
    obtain ⟨hc, hf⟩ := bif_some hf
    simp only [Bool.and_eq_true, closed] at hc
    simp only [Option.some.injEq] at hf
    subst hf
    have hn := (nodup_iff L).1 hc.1.1
    have hdj := disj_iff' _ _ hc.2
    have mrp := h.mr.part hn hout ((sub_iff _ _).1 hc.1.2.2)
    have hle : (E.part L).le ((E.phi Φ).part L) (fun _ => True) := ⟨fun _ _ h => h, fun _ _ _ h => h, p1⟩
    have hΦ : ∀ k b, (E.part L).own k b → ∀ o, Φ b o = E.Φ b o := by
      rintro k b ⟨j, hj, ho⟩ o
      cases h1 : Φ b o with
      | none =>
        cases h2 : E.Φ b o with
        | none => rfl
        | some u => rw [p1 b o u h2] at h1; cases h1
      | some u =>
        rcases p3 b o u h1 with h2 | ⟨i, hi', ho'⟩
        · exact h2.symm
        · have := h.mr.sep _ _ _ ho ho'
          subst this
          exact absurd (List.mem_of_getElem? hj) (hdj j hi')
    refine ⟨_, (E.phi Φ).part L, hrun, ?_, ⟨p2, fun k x hx => (mrp.res k x hx).mono hle rfl rfl (fun _ _ => trivial) fun b hb => ⟨hb, rfl, fun o => hΦ k b hb o⟩, mrp.dom, mrp.lt, mrp.sep⟩, Glob.part (E := E.phi Φ) (Glob.mono (F := E.phi Φ) h.gl p1) L, ?_⟩
    · refine VR.part (tupled_sound p4) fun k hk => (sub_iff _ _).1 hc.1.2.1 k ?_
      simp only [AV.refsL, List.append_nil]
      exact hk
    · have hip := hi.part (L := L) fun r hr => collect_upto hL hr
      refine ⟨hip.m40, hip.os, hip.tape, hip.output, hip.size, hip.keep, hip.own, Phi.le_trans hi.phi p1, fun b o u hu => ?_, hip.fb⟩
      rcases p3 b o u hu with h1 | ⟨k, _, ho⟩
      · exact hi.new b o u h1
      · exact .inr (hi.own k b ho)
  · cases hf
theorem finish_sound {f : FuncId} {fn : Func} {res : AV × List Res} (h : St C E st a w) (hi : Inv S E0 w0 m E w) (hf : finish C m f fn st = some res) :
    ∃ v E', (results fn a.tmps).run C.P w = .ok v w ∧ VR E' res.1 v ∧ MR C E' w (lk (enum 0 res.2)) ∧ Glob C E' ∧ Inv S E0 w0 m E' w := by
  unfold finish at hf
  cases hkp : C.keep f with
  | true =>
    rw [hkp] at hf
    exact finish1_sound h hi hf
  | false =>
    rw [hkp] at hf
    obtain ⟨E1, h1, hi1, _⟩ := h.settle (keysOf st.t) hi
    exact finish1_sound h1 hi1 hf
/-- A FUNCTION. -/
theorem fun_sound {call : Call} (hcall : ∀ f args fr res, call.g f args fr = true → call.f f args fr = some res → CallSound C f args fr res) (hm : C.P.follows .mixedOrders = true) {lp : Loops} {n : Nat} {f : FuncId} {args : List AV} {fr : List Res} {res : AV × List Res}
    (hlp : ∀ fn c, C.P.funcs[f]? = some fn → fn.body = some c → LoopsSound C lp fr.length f (loops c)) (hk : evF C call lp n f args fr = some res) : CallSound C f args fr res := by
  intro E w vs hM hv hG
  unfold evF at hk
  split at hk
  case h_2 => cases hk
  rename_i fn hfn
  split at hk
  case h_2 => cases hk
  rename_i c hbody
  obtain ⟨hc, hk⟩ := bif_some hk
  simp only [Bool.and_eq_true, fnOk, Bool.not_eq_true'] at hc
  have hrun : (callFunc f vs.toArray).run C.P w = .ok (.enter f vs.toArray) w := by
    have h1 : (fn.name == "runtime.NumGoroutine") = false := hc.1.2
    simp only [callFunc, Sem.run_bind, run_program, Result.andThen_ok, hfn, h1, hbody]
    rfl
  unfold Does
  rw [hrun]
  have hlen := hv.length
  have hua : ∀ (l : List (Nat × Code)), uniq l = true → ∀ p ∈ l, lk l p.1 = some p.2 := by
    intro l
    induction l with
    | nil => intro _ p hp; cases hp
    | cons q l ih =>
      obtain ⟨k, b⟩ := q
      intro hu p hp
      simp only [uniq, Bool.and_eq_true] at hu
      rw [lk_cons]
      rcases List.mem_cons.1 hp with rfl | hp
      · rw [if_pos rfl]
      · have := ih hu.2 p hp
        by_cases hpk : p.1 = k
        · rw [← hpk, this] at hu; cases hu.1
        · rw [if_neg hpk, this]
  refine calls_of_wp hfn hbody ?_
  have hst : St C E { s := enum 0 args, t := enum 0 fr, m := f, n := fn.ntmps } { tmps := vs.toArray ++ Array.replicate (fn.ntmps - vs.toArray.size) undef, defers := [] } w := by
    refine ⟨hM, fun t x hx => ?_, ?_, rfl, hG⟩
    · rw [lk_enum0] at hx
      obtain ⟨v, h1, h2⟩ := hv.get t x hx
      refine ⟨v, ?_, h2⟩
      have hlt := (List.getElem?_eq_some_iff.1 h1).1
      rw [Array.getElem?_append_left (by simpa using hlt)]
      simpa using h1
    · have := Nat.le_of_ble_eq_true hc.2.2.1
      simp
      omega
  have hin : Inv (fun b => ∃ r, E.own r b) E w fr.length E w := ⟨Nat.le_of_ble_eq_true hc.2.2.2, rfl, rfl, rfl, Nat.le_refl _, fun _ _ _ => rfl, fun r b h => .inl ⟨r, h⟩, Phi.le_refl _, fun _ _ _ h => .inl h, fun _ _ => rfl⟩
  refine (code_sound hcall hm (hlp fn c hfn hbody) n c).1 (hua _ hc.2.1) _ E _ w _ _ (fun ch a w hp => hp.2) hst hin hk ?_
  intro e st' E' a' w' hk' hs' hi'
  have fin : finish C fr.length f fn st' = some res → a'.defers = [] ∧ ∃ v, (results fn a'.tmps).run C.P w' = .ok v w' ∧ Post C E w fr.length res v w' := fun hf => by
    obtain ⟨v, E2, q1, q2, q3, q4, q5⟩ := finish_sound hs' hi' hf
    exact ⟨hs'.df, v, q1, E2, q2, q3, q4, q5⟩
  cases e with
  | normal => exact fin hk'
  | ret => exact fin hk'
  | exit id => cases hk'
/-- RECKONED TO THE END. -/
theorem ev_sound (hm : C.P.follows .mixedOrders = true) (hleaf : ∀ f F args fr res, C.leaf f = some F → F args fr = some res → CallSound C f args fr res) (n : Nat) : ∀ (k : Nat) (f : FuncId) (args : List AV) (fr : List Res) (res : AV × List Res), ev C n k f args fr = some res → CallSound C f args fr res
  | 0, f, args, fr, res, h => by simp [ev] at h
  | k + 1, f, args, fr, res, h => by
    simp only [ev] at h
    split at h
    · rename_i F hF
      exact hleaf f F args fr res hF h
    · exact fun_sound (call := ⟨fun _ _ _ => true, ev C n k⟩) (fun f args fr res _ => ev_sound hm hleaf n k f args fr res) hm (fun fn c _ _ id st res _ hl => by cases hl) h
end
end Go.Proofs.Ev
namespace Go.Proofs.Ev
open Go
set_option linter.unusedVariables false
theorem bif_true {α : Type} {b : Bool} {x y : α} (h : b = true) : (bif b then x else y) = x := by rw [h]; rfl
theorem bif_false {α : Type} {b : Bool} {x y : α} (h : b = false) : (bif b then x else y) = y := by rw [h]; rfl
/-- Entries that are true. -/
noncomputable def gC (C : Cfg) (T : Tab) : FuncId → List AV → List Res → Bool := fun f a r => by
  classical exact decide (∀ res, T f a r = some res → CallSound C f a r res)
theorem gC_mk {C : Cfg} {T : Tab} {f : FuncId} {a : List AV} {r : List Res} {res : AV × List Res} (ht : T f a r = some res) (h : CallSound C f a r res) : gC C T f a r = true := by
  unfold gC
  simp only [decide_eq_true_eq]
  intro res' h'
  rw [ht] at h'; cases h'; exact h
theorem gC_ok (C : Cfg) (T : Tab) : ∀ f args fr res, (Call.mk (gC C T) T).g f args fr = true → (Call.mk (gC C T) T).f f args fr = some res → CallSound C f args fr res := by
  intro f args fr res hg hf
  simp only [gC, decide_eq_true_eq] at hg
  exact hg res hf
def bodyOf (C : Cfg) (f : FuncId) : List (Nat × Code) := match C.P.funcs[f]? with
  | some fn => match fn.body with
    | some c => loops c
    | none => []
  | none => []
/-- What is true of a loop that is entered so. -/
def LoopIs (C : Cfg) (f : FuncId) (id m : Nat) (st : AS) (res : Ex × AS) : Prop := ∀ body, lk (bodyOf C f) id = some body → LoopSound C m body st res
noncomputable def gL (C : Cfg) (L : LTab) (m : Nat) : FuncId → Nat → AS → Bool := fun f id st => by
  classical exact decide (∀ res, L f id st = some res → LoopIs C f id m st res)
theorem gL_mk {C : Cfg} {L : LTab} {m : Nat} {f : FuncId} {id : Nat} {st : AS} {res : Ex × AS} (ht : L f id st = some res) (h : LoopIs C f id m st res) : gL C L m f id st = true := by
  unfold gL
  simp only [decide_eq_true_eq]
  intro res' h'
  rw [ht] at h'; cases h'; exact h
theorem gL_ok (C : Cfg) (L : LTab) (m : Nat) (f : FuncId) : LoopsSound C ⟨gL C L m, L⟩ m f (bodyOf C f) := by
  intro id st res hg hf body hb
  simp only [gL, decide_eq_true_eq] at hg
  exact hg res hf body hb
/-- A FUNCTION, by tables whose entries are asked one by one. -/
theorem fun_walk {C : Cfg} (hm : C.P.follows .mixedOrders = true) (T : Tab) (L : LTab) {n : Nat} {f : FuncId} {args : List AV} {fr : List Res} {res : AV × List Res}
    (m : Nat := fr.length) (hfr : fr.length = m := by rfl) (h : evF C ⟨gC C T, T⟩ ⟨gL C L m, L⟩ n f args fr = some res) : CallSound C f args fr res := by
  subst hfr
  exact fun_sound (gC_ok C T) hm (fun fn c hfn hb => by
    have := gL_ok C L fr.length f
    simpa only [bodyOf, hfn, hb] using this) h
theorem loops_sub : ∀ (c : Code) (id : Nat) (body : Code), (id, body) ∈ loops c → ∀ p ∈ loops body, p ∈ loops c
  | .seq a b, id, body, h, p, hp => by
    simp only [loops, List.mem_append] at h ⊢
    exact h.imp (fun h => loops_sub a id body h p hp) (fun h => loops_sub b id body h p hp)
  | .cond _ a b, id, body, h, p, hp => by
    simp only [loops, List.mem_append] at h ⊢
    exact h.imp (fun h => loops_sub a id body h p hp) (fun h => loops_sub b id body h p hp)
  | .block i (.loop c), id, body, h, p, hp => by
    simp only [loops, List.mem_cons] at h ⊢
    rcases h with h | h
    · cases h; exact .inr hp
    · exact .inr (loops_sub c id body h p hp)
  | .block i .skip, id, body, h, p, hp => by simp [loops] at h
  | .block i (.region _ _ _), id, body, h, p, hp => by simp [loops] at h
  | .block i (.seq a b), id, body, h, p, hp => by
    simp only [loops] at h ⊢
    exact loops_sub (.seq a b) id body (by simpa only [loops] using h) p hp
  | .block i (.cond x a b), id, body, h, p, hp => by
    simp only [loops] at h ⊢
    exact loops_sub (.cond x a b) id body (by simpa only [loops] using h) p hp
  | .block i (.block j c), id, body, h, p, hp => by
    simp only [loops] at h ⊢
    exact loops_sub (.block j c) id body h p hp
  | .block i (.rangeFunc _ _ _ _), id, body, h, p, hp => by simp [loops] at h
  | .block i (.exit _), id, body, h, p, hp => by simp [loops] at h
  | .block i (.scope c), id, body, h, p, hp => by
    simp only [loops] at h ⊢
    exact loops_sub (.scope c) id body (by simpa only [loops] using h) p hp
  | .block i (.label _), id, body, h, p, hp => by simp [loops] at h
  | .block i (.goto _), id, body, h, p, hp => by simp [loops] at h
  | .block i .ret, id, body, h, p, hp => by simp [loops] at h
  | .block i (.refuse _), id, body, h, p, hp => by simp [loops] at h
  | .scope c, id, body, h, p, hp => by
    simp only [loops] at h ⊢
    exact loops_sub c id body h p hp
  | .skip, id, body, h, p, hp => by simp [loops] at h
  | .region _ _ _, id, body, h, p, hp => by simp [loops] at h
  | .loop _, id, body, h, p, hp => by simp [loops] at h
  | .rangeFunc _ _ _ _, id, body, h, p, hp => by simp [loops] at h
  | .exit _, id, body, h, p, hp => by simp [loops] at h
  | .label _, id, body, h, p, hp => by simp [loops] at h
  | .goto _, id, body, h, p, hp => by simp [loops] at h
  | .ret, id, body, h, p, hp => by simp [loops] at h
  | .refuse _, id, body, h, p, hp => by simp [loops] at h
theorem uniq_lk : ∀ {l : List (Nat × Code)}, uniq l = true → ∀ p ∈ l, lk l p.1 = some p.2
  | [], _, p, hp => by cases hp
  | (k, b) :: l, hu, p, hp => by
    simp only [uniq, Bool.and_eq_true] at hu
    rw [lk_cons]
    rcases List.mem_cons.1 hp with rfl | hp
    · rw [if_pos rfl]
    · have := uniq_lk hu.2 p hp
      by_cases hpk : p.1 = k
      · rw [← hpk, this] at hu; cases hu.1
      · rw [if_neg hpk, this]
theorem lk_mem {α : Type} : ∀ {l : List (Nat × α)} {k : Nat} {x : α}, lk l k = some x → (k, x) ∈ l
  | [], k, x, h => by simp [lk] at h
  | (m, y) :: l, k, x, h => by
    rw [lk_cons] at h
    split at h
    · rename_i e; subst e; cases h; simp
    · exact List.mem_cons_of_mem _ (lk_mem h)
/-- Behind one round. -/
def stop1 (C : Cfg) (f : FuncId) (id m : Nat) : Ex → AS → Option (AS ⊕ (Ex × AS))
  | .normal, st => match canon C f id m st with
    | some st2 => some (.inl st2)
    | none => none
  | .exit j, st => match canon1 m ((C.hints f (1000 + j)).getD (upto st.n)) st with
    | some st2 => some (.inr (.exit j, st2))
    | none => none
  | .ret, st => match canon1 m ((C.hints f 2000).getD (upto st.n)) st with
    | some st2 => some (.inr (.ret, st2))
    | none => none
/-- One round of a loop. -/
def evRound (C : Cfg) (call : Call) (lp : Loops) (m n : Nat) (f : FuncId) (id : Nat) (st : AS) : Option (AS ⊕ (Ex × AS)) := match C.P.funcs[f]? with
  | some fn => match fn.body with
    | some c => match lk (loops c) id with
      | some body => bif uniq (loops c) then evC C call lp m n f body st (stop1 C f id m) else none
      | none => none
    | none => none
  | none => none
theorem evRound_some {C : Cfg} {call : Call} {lp : Loops} {m n : Nat} {f : FuncId} {id : Nat} {st : AS} {r : AS ⊕ (Ex × AS)} (h : evRound C call lp m n f id st = some r) :
    ∃ body, lk (bodyOf C f) id = some body ∧ (∀ p ∈ loops body, lk (bodyOf C f) p.1 = some p.2) ∧ evC C call lp m n f body st (stop1 C f id m) = some r := by
  unfold evRound at h
  split at h
  case h_2 => cases h
  rename_i fn hfn
  split at h
  case h_2 => cases h
  rename_i c hc
  split at h
  case h_2 => cases h
  rename_i body hb
  obtain ⟨hu, h⟩ := bif_some h
  have e : bodyOf C f = loops c := by simp only [bodyOf, hfn, hc]
  rw [e]
  exact ⟨body, hb, fun p hp => uniq_lk hu p (loops_sub c id body (lk_mem hb) p hp), h⟩
/-- The loop goes on. -/
theorem LoopIs.next {C : Cfg} (hm : C.P.follows .mixedOrders = true) {T : Tab} {L : LTab} {m n : Nat} {f : FuncId} {id : Nat} {st st2 : AS} {res : Ex × AS} (h : evRound C ⟨gC C T, T⟩ ⟨gL C L m, L⟩ m n f id st = some (.inl st2)) (h2 : LoopIs C f id m st2 res) : LoopIs C f id m st res := by
  obtain ⟨body, hb, hl, h⟩ := evRound_some h
  intro body' hb'
  rw [hb] at hb'; cases hb'
  intro S E0 w0 E a w Q hQ hs hi hq
  refine LoopWp.unroll ((code_sound (gC_ok C T) hm (gL_ok C L m f) n body).1 hl st E a w _ _ (noPanic_then hQ) hs hi h fun e st' E' a' w' hk hs' hi' => ?_)
  cases e with
  | normal =>
    simp only [stop1] at hk
    split at hk
    · rename_i st3 hc
      cases hk
      obtain ⟨E1, h1, hi1⟩ := canon_sound hc hs' hi'
      exact h2 body hb S E0 w0 E1 a' w' Q hQ h1 hi1 hq
    · cases hk
  | exit i =>
    simp only [stop1] at hk
    split at hk <;> cases hk
  | ret =>
    simp only [stop1] at hk
    split at hk <;> cases hk
/-- The loop ends. -/
theorem LoopIs.last {C : Cfg} (hm : C.P.follows .mixedOrders = true) {T : Tab} {L : LTab} {m n : Nat} {f : FuncId} {id : Nat} {st : AS} {res : Ex × AS} (h : evRound C ⟨gC C T, T⟩ ⟨gL C L m, L⟩ m n f id st = some (.inr res)) : LoopIs C f id m st res := by
  obtain ⟨body, hb, hl, h⟩ := evRound_some h
  intro body' hb'
  rw [hb] at hb'; cases hb'
  intro S E0 w0 E a w Q hQ hs hi hq
  refine LoopWp.unroll ((code_sound (gC_ok C T) hm (gL_ok C L m f) n body).1 hl st E a w _ _ (noPanic_then hQ) hs hi h fun e st' E' a' w' hk hs' hi' => ?_)
  cases e with
  | normal =>
    simp only [stop1] at hk
    split at hk <;> cases hk
  | exit i =>
    simp only [stop1] at hk
    split at hk
    · rename_i st3 hc
      cases hk
      obtain ⟨E1, h1, hi1⟩ := canon1_sound hc hs' hi'
      exact hq E1 a' w' h1 hi1
    · cases hk
  | ret =>
    simp only [stop1] at hk
    split at hk
    · rename_i st3 hc
      cases hk
      obtain ⟨E1, h1, hi1⟩ := canon1_sound hc hs' hi'
      exact hq E1 a' w' h1 hi1
    · cases hk
end Go.Proofs.Ev
