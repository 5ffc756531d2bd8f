/-
  An evaluator by value of the model of the program, proved sound, and what it shows of this law: part EvA.
-/
import Derived.Orders
import Derived.KernelRfl
namespace Go.Proofs.Ev
open Go
/-! ### the data -/
structure Tok where
  kind : Int
  text : ByteArray
  unit : ByteArray
  whole : Bool
  flag : Bool
structure Val where
  tok : Tok
  kids : List Val
structure Simple where
  kind : Int
  name : ByteArray
  op : Int
  value : ByteArray
  a : Int
  b : Int
  list : List (List (List Simple) × List Int)
abbrev Cx := List (List Simple) × List Int
structure Spec where
  a : Int
  b : Int
  c : Int
structure Decl where
  name : ByteArray
  value : List Val
  important : Bool
structure Rule where
  sel : List Cx
  decls : List Decl
structure Block where
  prelude : List Val
  body : List Val
structure Attr where
  name : ByteArray
  value : ByteArray
structure Node where
  id : Int
  tag : ByteArray
  parent : Int
  kids : List Int
  attrs : List Attr
structure Act7 where
  kind : Int
  a : Int
  b : Int
  c : Int
  name : ByteArray
  value : ByteArray
structure Act11 where
  kind : Int
  a : Int
  b : Int
  text : ByteArray
structure Placed where
  sheet : Int
  origin : Int
  index : Int
  rule : Rule
structure One where
  id : Int
  origin : Int
  rules : List Rule
structure Sheets where
  l : List One
  last : Int
  is : Bool
structure Sheets11 where
  l : List One
  last : Int
structure Doc7 where
  l : List Node
  next : Int
structure TN where
  down : List (Option TN)
  here : List (Option Node)
  size : Int
structure Trie where
  root : Option TN
structure Doc where
  all : Option Trie
  next : Int
structure Bucket where
  kind : Int
  name : ByteArray
inductive Ty where
  | int (k : IntKind) | bool | str
  | tok | val | simple | cx | spec | decl | rule | block | attr | node | act7 | act11 | placed | one | sheets | sheets11 | doc7 | tn | trie | doc | bucket
  | rows (e : Ty) | ptr (e : Ty)
  deriving DecidableEq
def Ty.T : Ty → Type
  | .int _ => Int | .bool => Bool | .str => ByteArray
  | .tok => Tok | .val => Val | .simple => Simple | .cx => Cx | .spec => Spec | .decl => Decl | .rule => Rule | .block => Block | .attr => Attr | .node => Node
  | .act7 => Act7 | .act11 => Act11 | .placed => Placed | .one => One | .sheets => Sheets | .sheets11 => Sheets11 | .doc7 => Doc7 | .tn => TN | .trie => Trie | .doc => Doc | .bucket => Bucket
  | .rows e => List e.T | .ptr e => Option e.T
/-- A leaf: what one cell holds. -/
abbrev Lf := (τ : Ty) × τ.T
def li (n : Int) : Lf := ⟨.int .i64, n⟩
def ls (s : ByteArray) : Lf := ⟨.str, s⟩
def lb (b : Bool) : Lf := ⟨.bool, b⟩
def lr (e : Ty) (l : List e.T) : Lf := ⟨.rows e, l⟩
def lp (e : Ty) (l : Option e.T) : Lf := ⟨.ptr e, l⟩
def cells : (τ : Ty) → τ.T → List Lf
  | .int k, n => [⟨.int k, n⟩]
  | .bool, b => [⟨.bool, b⟩]
  | .str, s => [⟨.str, s⟩]
  | .tok, (t : Tok) => [li t.kind, ls t.text, ls t.unit, lb t.whole, lb t.flag]
  | .val, (v : Val) => [li v.tok.kind, ls v.tok.text, ls v.tok.unit, lb v.tok.whole, lb v.tok.flag, lr .val v.kids]
  | .simple, (x : Simple) => [li x.kind, ls x.name, li x.op, ls x.value, li x.a, li x.b, lr .cx x.list]
  | .cx, (x : Cx) => [lr (.rows .simple) x.1, lr (.int .i64) x.2]
  | .spec, (x : Spec) => [li x.a, li x.b, li x.c]
  | .decl, (x : Decl) => [ls x.name, lr .val x.value, lb x.important]
  | .rule, (x : Rule) => [lr .cx x.sel, lr .decl x.decls]
  | .block, (x : Block) => [lr .val x.prelude, lr .val x.body]
  | .attr, (x : Attr) => [ls x.name, ls x.value]
  | .node, (x : Node) => [li x.id, ls x.tag, li x.parent, lr (.int .i64) x.kids, lr .attr x.attrs]
  | .act7, (x : Act7) => [li x.kind, li x.a, li x.b, li x.c, ls x.name, ls x.value]
  | .act11, (x : Act11) => [li x.kind, li x.a, li x.b, ls x.text]
  | .placed, (x : Placed) => [li x.sheet, li x.origin, li x.index, lr .cx x.rule.sel, lr .decl x.rule.decls]
  | .one, (x : One) => [li x.id, li x.origin, lr .rule x.rules]
  | .sheets, (x : Sheets) => [lr .one x.l, li x.last, lb x.is]
  | .sheets11, (x : Sheets11) => [lr .one x.l, li x.last]
  | .doc7, (x : Doc7) => [lr .node x.l, li x.next]
  | .tn, (x : TN) => (List.range 16).map (fun i => lp .tn (x.down.getD i none)) ++ (List.range 16).map (fun i => lp .node (x.here.getD i none)) ++ [li x.size]
  | .trie, (x : Trie) => [lp .tn x.root]
  | .doc, (x : Doc) => [lp .trie x.all, li x.next]
  | .bucket, (x : Bucket) => [li x.kind, ls x.name]
  | .rows e, l => [⟨.rows e, l⟩]
  | .ptr e, l => [⟨.ptr e, l⟩]
def Ty.size : Ty → Nat
  | .tok => 5 | .val => 6 | .simple => 7 | .cx => 2 | .spec => 3 | .decl => 3 | .rule => 2 | .block => 2 | .attr => 2 | .node => 5 | .act7 => 6 | .act11 => 4 | .placed => 5 | .one => 3
  | .sheets => 3 | .sheets11 => 2 | .doc7 => 2 | .tn => 33 | .trie => 1 | .doc => 2 | .bucket => 2
  | _ => 1
theorem cells_length (τ : Ty) (x : τ.T) : (cells τ x).length = τ.size := by cases τ <;> simp [cells, Ty.size]
/-- Put together again. -/
def mk : (τ : Ty) → List Lf → Option τ.T
  | .int k, [⟨.int k', n⟩] => bif k = k' then some n else none
  | .bool, [⟨.bool, b⟩] => some b
  | .str, [⟨.str, s⟩] => some s
  | .tok, [⟨.int .i64, k⟩, ⟨.str, t⟩, ⟨.str, u⟩, ⟨.bool, w⟩, ⟨.bool, f⟩] => some (⟨k, t, u, w, f⟩ : Tok)
  | .val, [⟨.int .i64, k⟩, ⟨.str, t⟩, ⟨.str, u⟩, ⟨.bool, w⟩, ⟨.bool, f⟩, ⟨.rows .val, l⟩] => some (⟨⟨k, t, u, w, f⟩, l⟩ : Val)
  | .simple, [⟨.int .i64, k⟩, ⟨.str, n⟩, ⟨.int .i64, o⟩, ⟨.str, v⟩, ⟨.int .i64, a⟩, ⟨.int .i64, b⟩, ⟨.rows .cx, l⟩] => some (⟨k, n, o, v, a, b, l⟩ : Simple)
  | .cx, [⟨.rows (.rows .simple), p⟩, ⟨.rows (.int .i64), c⟩] => some ((p, c) : Cx)
  | .spec, [⟨.int .i64, a⟩, ⟨.int .i64, b⟩, ⟨.int .i64, c⟩] => some (⟨a, b, c⟩ : Spec)
  | .decl, [⟨.str, n⟩, ⟨.rows .val, v⟩, ⟨.bool, i⟩] => some (⟨n, v, i⟩ : Decl)
  | .rule, [⟨.rows .cx, s⟩, ⟨.rows .decl, d⟩] => some (⟨s, d⟩ : Rule)
  | .block, [⟨.rows .val, p⟩, ⟨.rows .val, b⟩] => some (⟨p, b⟩ : Block)
  | .attr, [⟨.str, n⟩, ⟨.str, v⟩] => some (⟨n, v⟩ : Attr)
  | .node, [⟨.int .i64, i⟩, ⟨.str, t⟩, ⟨.int .i64, p⟩, ⟨.rows (.int .i64), k⟩, ⟨.rows .attr, a⟩] => some (⟨i, t, p, k, a⟩ : Node)
  | .act7, [⟨.int .i64, k⟩, ⟨.int .i64, a⟩, ⟨.int .i64, b⟩, ⟨.int .i64, c⟩, ⟨.str, n⟩, ⟨.str, v⟩] => some (⟨k, a, b, c, n, v⟩ : Act7)
  | .act11, [⟨.int .i64, k⟩, ⟨.int .i64, a⟩, ⟨.int .i64, b⟩, ⟨.str, t⟩] => some (⟨k, a, b, t⟩ : Act11)
  | .placed, [⟨.int .i64, s⟩, ⟨.int .i64, o⟩, ⟨.int .i64, i⟩, ⟨.rows .cx, l⟩, ⟨.rows .decl, d⟩] => some (⟨s, o, i, ⟨l, d⟩⟩ : Placed)
  | .one, [⟨.int .i64, i⟩, ⟨.int .i64, o⟩, ⟨.rows .rule, r⟩] => some (⟨i, o, r⟩ : One)
  | .sheets, [⟨.rows .one, l⟩, ⟨.int .i64, n⟩, ⟨.bool, i⟩] => some (⟨l, n, i⟩ : Sheets)
  | .sheets11, [⟨.rows .one, l⟩, ⟨.int .i64, n⟩] => some (⟨l, n⟩ : Sheets11)
  | .doc7, [⟨.rows .node, l⟩, ⟨.int .i64, n⟩] => some (⟨l, n⟩ : Doc7)
  | .trie, [⟨.ptr .tn, r⟩] => some (⟨r⟩ : Trie)
  | .doc, [⟨.ptr .trie, a⟩, ⟨.int .i64, n⟩] => some (⟨a, n⟩ : Doc)
  | .bucket, [⟨.int .i64, k⟩, ⟨.str, n⟩] => some (⟨k, n⟩ : Bucket)
  | .rows e, [⟨.rows e', l⟩] => if h : e' = e then some (h ▸ l) else none
  | .ptr e, [⟨.ptr e', l⟩] => if h : e' = e then some (h ▸ l) else none
  | _, _ => none
end Go.Proofs.Ev
namespace Go.Proofs.Ev
open Go
/-! ### pure runs -/
def pureRun (P : Program) {α : Type} : Sem α → Option α
  | .pure a => some a
  | .program k => pureRun P (k P)
  | .mark _ k => pureRun P k
  | _ => none
theorem pureRun_ok (P : Program) {α : Type} (s : Sem α) : ∀ {a : α}, pureRun P s = some a → ∀ w, s.run P w = .ok a w := by
  induction s with
  | pure a => intro b h w; simp [pureRun] at h; simp [Sem.run, h]
  | program k ih => intro b h w; simp only [pureRun] at h; simp only [Sem.run]; exact ih P h w
  | mark m k ih => intro b h w; simp only [pureRun] at h; simp only [Sem.run]; exact ih h w
  | _ => intro b h; simp [pureRun] at h
/-! ### what slots hold -/
inductive AV where
  | v (x : Value)
  | d (lf : Lf)
  | dp (e : Ty) (x : e.T) (j : Nat)
  | full (e : Ty) (xs : List e.T)
  | ga (e : Ty) (xs : List e.T)
  | sl (r : Nat)
  | ep (r s i j : Nat)
  | ptr (r off : Nat)
  | clo (f : FuncId) (first caps : List AV)
  | agg (l : List AV)
  | tup (l : List AV)
  | bad
inductive Res where
  | box (T : TypeId) (c : List AV)
  | row (te : TypeId) (e : Ty) (xs : List e.T)
  | arr (te : TypeId) (e : Ty) (xs : List e.T)
  | gone
  | iter (s : ByteArray) (pos : Nat)
  | bld (T : TypeId) (s : ByteArray)
def lk {α : Type} : List (Nat × α) → Nat → Option α
  | [], _ => none
  | (k, x) :: l, n => bif Nat.beq k n then some x else lk l n
/-- The state: the slots of which something is known, the blocks, how many of these came in, how many slots there are. -/
structure AS where
  s : List (Nat × AV)
  t : List (Nat × Res)
  m : Nat
  n : Nat
def upd {α : Type} (l : List (Nat × α)) (n : Nat) (x : α) : List (Nat × α) := (n, x) :: l
def setr {α : Type} : List (Nat × α) → Nat → α → List (Nat × α)
  | [], n, y => [(n, y)]
  | (k, x) :: l, n, y => bif Nat.beq k n then (k, y) :: l else (k, x) :: setr l n y
mutual
def AV.refs : AV → List Nat
  | .sl r => [r]
  | .ep r _ _ _ => [r]
  | .ptr r _ => [r]
  | .clo _ a b => AV.refsL a ++ AV.refsL b
  | .agg l => AV.refsL l
  | .tup l => AV.refsL l
  | _ => []
def AV.refsL : List AV → List Nat
  | [] => []
  | a :: l => a.refs ++ AV.refsL l
end
mutual
def AV.ren (σ : Nat → Nat) : AV → AV
  | .sl r => .sl (σ r)
  | .ep r s i j => .ep (σ r) s i j
  | .ptr r o => .ptr (σ r) o
  | .clo f a b => .clo f (AV.renL σ a) (AV.renL σ b)
  | .agg l => .agg (AV.renL σ l)
  | .tup l => .tup (AV.renL σ l)
  | a => a
def AV.renL (σ : Nat → Nat) : List AV → List AV
  | [] => []
  | a :: l => a.ren σ :: AV.renL σ l
end
/-- Where a row that may have been written is named, nothing is known any more. -/
def mem (n : Nat) : List Nat → Bool
  | [] => false
  | k :: l => Nat.beq k n || mem n l
mutual
def AV.kill (L : List Nat) : AV → AV
  | .sl r => bif mem r L then .bad else .sl r
  | .ep r s i j => bif mem r L then .bad else .ep r s i j
  | .clo f a b => .clo f (AV.killL L a) (AV.killL L b)
  | .agg l => .agg (AV.killL L l)
  | .tup l => .tup (AV.killL L l)
  | a => a
def AV.killL (L : List Nat) : List AV → List AV
  | [] => []
  | a :: l => a.kill L :: AV.killL L l
end
mutual
/-- A pointer to a box that will be written no more. -/
def AV.fz (r : Nat) (e : Ty) (x : e.T) : AV → AV
  | .ptr k o => bif Nat.beq k r then .dp e x o else .ptr k o
  | .clo f a b => .clo f (AV.fzL r e x a) (AV.fzL r e x b)
  | .agg l => .agg (AV.fzL r e x l)
  | .tup l => .tup (AV.fzL r e x l)
  | a => a
def AV.fzL (r : Nat) (e : Ty) (x : e.T) : List AV → List AV
  | [] => []
  | a :: l => a.fz r e x :: AV.fzL r e x l
end
def Res.fz (r : Nat) (e : Ty) (x : e.T) : Res → Res
  | .box T c => .box T (AV.fzL r e x c)
  | y => y
def delR (r : Nat) : List (Nat × Res) → List (Nat × Res)
  | [] => []
  | (k, y) :: t => bif Nat.beq k r then delR r t else (k, y) :: delR r t
def Res.refs : Res → List Nat
  | .box _ c => AV.refsL c
  | _ => []
def Res.ren (σ : Nat → Nat) : Res → Res
  | .box T c => .box T (AV.renL σ c)
  | r => r
def Res.kill (L : List Nat) : Res → Res
  | .box T c => .box T (AV.killL L c)
  | r => r
def killS (L : List Nat) (st : AS) : AS :=
  { st with s := st.s.map fun x => (x.1, x.2.kill L), t := st.t.map fun x => (x.1, x.2.kill L) }
/-- The refs that are reached, in the order in which they are met. -/
def collect (t : List (Nat × Res)) : Nat → List Nat → List Nat → List Nat
  | 0, _, seen => seen
  | _, [], seen => seen
  | k + 1, r :: todo, seen =>
    bif mem r seen then collect t k todo seen
    else match lk t r with
      | some x => collect t k (x.refs ++ todo) (seen ++ [r])
      | none => collect t k todo (seen ++ [r])
def idx (L : List Nat) (r : Nat) : Nat :=
  match L with
  | [] => 0
  | k :: l => bif Nat.beq k r then 0 else idx l r + 1
def at' (L : List Nat) (i : Nat) (b : Nat) : Nat :=
  match L, i with
  | [], i => b + i
  | k :: _, 0 => k
  | _ :: l, i + 1 => at' l i b
/-- What is known of the program. 'hints': the slots that live at a loop's head; those that become own rows there (with the element's type). 'leaf': functions that are told otherwise. -/
structure Cfg where
  P : Program
  ty : TypeId → Option Ty
  glob : Nat → Option ((e : Ty) × List e.T)
  bld : TypeId → Bool
  wr : FuncId → Nat → Bool
  own : FuncId → Bool
  keep : FuncId → Bool
  frzAt : FuncId → Nat → List Nat
  frz : FuncId → Bool
  hints : FuncId → Nat → Option (List Nat)
  rows : FuncId → Nat → List (Nat × TypeId)
  leaf : FuncId → Option (List AV → List Res → Option (AV × List Res))
def ofLf : Lf → AV
  | ⟨.int k, n⟩ => .v (.int k n)
  | ⟨.bool, b⟩ => .v (.bool b)
  | ⟨.str, s⟩ => .v (.string s)
  | lf => .d lf
def leafTys : Ty → List Ty
  | .tok => [.int .i64, .str, .str, .bool, .bool]
  | .val => [.int .i64, .str, .str, .bool, .bool, .rows .val]
  | .simple => [.int .i64, .str, .int .i64, .str, .int .i64, .int .i64, .rows .cx]
  | .cx => [.rows (.rows .simple), .rows (.int .i64)]
  | .spec => [.int .i64, .int .i64, .int .i64]
  | .decl => [.str, .rows .val, .bool]
  | .rule => [.rows .cx, .rows .decl]
  | .block => [.rows .val, .rows .val]
  | .attr => [.str, .str]
  | .node => [.int .i64, .str, .int .i64, .rows (.int .i64), .rows .attr]
  | .act7 => [.int .i64, .int .i64, .int .i64, .int .i64, .str, .str]
  | .act11 => [.int .i64, .int .i64, .int .i64, .str]
  | .placed => [.int .i64, .int .i64, .int .i64, .rows .cx, .rows .decl]
  | .one => [.int .i64, .int .i64, .rows .rule]
  | .sheets => [.rows .one, .int .i64, .bool]
  | .sheets11 => [.rows .one, .int .i64]
  | .doc7 => [.rows .node, .int .i64]
  | .tn => []
  | .trie => [.ptr .tn]
  | .doc => [.ptr .trie, .int .i64]
  | .bucket => [.int .i64, .str]
  | τ => [τ]
def toLf (t : List (Nat × Res)) : Ty → AV → Option Lf
  | .int _, .v (.int k' n) => some ⟨.int k', n⟩
  | .bool, .v (.bool b) => some ⟨.bool, b⟩
  | .str, .v (.string s) => some ⟨.str, s⟩
  | .rows e, .v (.slice none 0 0) => some ⟨.rows e, []⟩
  | .ptr e, .v (.pointer none) => some ⟨.ptr e, none⟩
  | .rows _, .full e xs => some ⟨.rows e, xs⟩
  | .rows _, .sl r => match lk t r with
    | some (.row _ e xs) => some ⟨.rows e, xs⟩
    | _ => none
  | .ptr _, .dp e x 0 => some ⟨.ptr e, some x⟩
  | _, .d lf => some lf
  | _, _ => none
def toLfs (t : List (Nat × Res)) : List Ty → List AV → Option (List Lf)
  | [], [] => some []
  | τ :: ts, a :: l => match toLf t τ a, toLfs t ts l with
    | some x, some y => some (x :: y)
    | _, _ => none
  | _, _ => none
def aggOf? : AV → Option (List AV)
  | .agg l => some l
  | .v (.agg cs) => some (cs.toList.map .v)
  | _ => none
def cellsOf? : AV → Option (List AV)
  | .agg l => some l
  | .v (.agg cs) => some (cs.toList.map .v)
  | .v (.tuple _) => none
  | .tup _ => none
  | .bad => none
  | a => some [a]
def mkAV (t : List (Nat × Res)) (τ : Ty) (a : AV) : Option τ.T :=
  match cellsOf? a with
  | some c => match toLfs t (leafTys τ) c with
    | some l => mk τ l
    | none => none
  | none => none
def mkAVs (t : List (Nat × Res)) (τ : Ty) : List AV → Option (List τ.T)
  | [] => some []
  | a :: l => match mkAV t τ a, mkAVs t τ l with
    | some x, some y => some (x :: y)
    | _, _ => none
/-- What is read of a slice. -/
def rowOf (t : List (Nat × Res)) : AV → Option ((e : Ty) × List e.T)
  | .d ⟨.rows e, xs⟩ => some ⟨e, xs⟩
  | .full e xs => some ⟨e, xs⟩
  | .sl r => match lk t r with
    | some (.row _ e xs) => some ⟨e, xs⟩
    | _ => none
  | _ => none
mutual
def toV : AV → Option Value
  | .v x => some x
  | .agg l => match toVs l with
    | some vs => some (.agg vs.toArray)
    | none => none
  | .tup l => match toVs l with
    | some vs => some (.tuple vs.toArray)
    | none => none
  | _ => none
def toVs : List AV → Option (List Value)
  | [] => some []
  | a :: l => match toV a, toVs l with
    | some x, some y => some (x :: y)
    | _, _ => none
end
end Go.Proofs.Ev
namespace Go.Proofs.Ev
open Go
set_option linter.unusedVariables false
variable {ρ : Type}
def guard' (c : Bool) (k : Option ρ) : Option ρ := bif c then k else none
/-- An operand. -/
def evO (C : Cfg) (st : AS) : Operand → AV
  | .tmp t => (lk st.s t).getD .bad
  | .const x => .v x
  | .global g => match C.glob g with
    | some ⟨e, xs⟩ => .ga e xs
    | none => .bad
  | .func f => .v (.func (.func f) #[] #[])
def exV (C : Cfg) (st : AS) (x : Operand) : Value := (toV (evO C st x)).getD undef
def allEx (C : Cfg) (st : AS) (l : List Operand) : Bool :=
  match l with
  | [] => true
  | x :: l => (toV (evO C st x)).isSome && allEx C st l
/-- Whatever the model itself reckons without a look at memory. -/
def pureOp (C : Cfg) (st : AS) (o : Oper) (K : AV → AS → Option ρ) : Option ρ :=
  bif allEx C st o.op.operands.toList then
    match pureRun C.P (execOp (exV C st) o) with
    | some (.value x) => K (.v x) st
    | _ => none
  else none
def isAggT (P : Program) (t : TypeId) : Bool :=
  match P.underlying t with
  | some (.struct _) => true
  | some (.array _ _) => true
  | _ => false
/-- A type that the program knows. -/
def known (P : Program) (t : TypeId) : Bool := (P.info? t).isSome && (P.underlying t).isSome
/-- The size of a type that is no struct and no array is one cell: looked up, not proved. -/
def oneOk (P : Program) (t : TypeId) : Bool := known P t && (isAggT P t || Nat.beq (P.cellsOf t) 1)
/-- Has an element's type a zero, as wide as the kind, and no great room? -/
def rowTy (P : Program) (te : TypeId) (e : Ty) : Bool := match P.info? te with
  | some i => match i.zero with
    | some z => Nat.beq i.size e.size && (Nat.beq z.cells.size e.size && (Nat.blt 0 e.size && Nat.ble i.bytes 128))
    | none => false
  | none => false
/-- May so many elements be? -/
def fitsB (P : Program) (te : TypeId) (n : Nat) : Bool := match P.info? te with
  | some i => Nat.ble (n * i.bytes) 140737488355328 && Nat.ble n 140737488355328
  | none => false
/-- Are the elements of a slice's or array's type as wide as a kind's? -/
def elemIs (P : Program) (te : TypeId) (e : Ty) : Bool := known P te && Nat.beq (P.cellsOf te) e.size
def sliceElem (P : Program) (t : TypeId) (e : Ty) : Bool := match P.underlying t with
  | some (.slice te) => elemIs P te e
  | _ => false
def arrElem (P : Program) (t : TypeId) (e : Ty) (n : Nat) : Bool := match P.underlying t with
  | some (.array m te) => elemIs P te e && Nat.beq m n
  | _ => false
/-- How far an array's element stands behind its beginning. -/
def arrStep (P : Program) (t : TypeId) (n : Int) : Option Nat := match P.underlying t with
  | some (.array m te) => bif known P te && (decide (0 ≤ n) && decide (n < m)) then some (n.toNat * P.cellsOf te) else none
  | _ => none
def isSliceT (P : Program) (t : TypeId) : Bool := match P.underlying t with
  | some (.slice _) => true
  | _ => false
def notInt (P : Program) (t : TypeId) : Bool := match P.underlying t with
  | some (.slice _) => true
  | some .string => true
  | _ => false
def notStruct (P : Program) (t : TypeId) : Bool := match P.underlying t with
  | some (.struct _) => false
  | _ => true
def isIntT (P : Program) (t : TypeId) : Bool := match P.underlying t with
  | some (.int _) => true
  | _ => false
def isStr (P : Program) (t : TypeId) : Bool := match P.underlying t with
  | some .string => true
  | _ => false
/-- A row that is written in place. -/
def arrOf (t : List (Nat × Res)) : AV → Option (Nat × ((e : Ty) × List e.T))
  | .sl r => match lk t r with
    | some (.arr _ e xs) => some (r, ⟨e, xs⟩)
    | _ => none
  | _ => none
def rowOrArr (t : List (Nat × Res)) (x : AV) : Option ((e : Ty) × List e.T) := match rowOf t x with
  | some p => some p
  | none => match arrOf t x with
    | some p => some p.2
    | none => none
def pickCells (agg : Bool) (off n : Nat) (c : List AV) : Option AV :=
  bif Nat.ble (off + n) c.length then
    bif agg then some (.agg ((c.drop off).take n)) else match c.drop off with
      | x :: _ => some x
      | [] => none
  else none
def putCells (off : Nat) (new : List AV) (c : List AV) : Option (List AV) :=
  bif Nat.ble (off + new.length) c.length then some (c.take off ++ new ++ c.drop (off + new.length)) else none
def elemOf? (P : Program) (t : TypeId) : Option TypeId :=
  match P.underlying t with
  | some (.slice e) => some e
  | _ => none
def fieldAt? (P : Program) (t : TypeId) (f : Nat) : Option (Nat × TypeId × Nat) :=
  match P.underlying t with
  | some (.struct fs) => match fs[f]? with
    | some x => some (x.offset, x.type, P.cellsOf x.type)
    | none => none
  | _ => none
def oneV : Value → Bool
  | .agg _ => false
  | .tuple _ => false
  | _ => true
/-- May a cell hold it? -/
def oneCell : AV → Bool
  | .v x => oneV x
  | .agg _ => false
  | .tup _ => false
  | .bad => false
  | _ => true
def intOf? : AV → Option Int
  | .v (.int _ n) => some n
  | _ => none
/-- The refs of the new blocks that an operation makes, by its slot. -/
def site (d : Option Tmp) (j : Nat) : Nat := match d with
  | some t => 64 * (t + 1) + j
  | none => 63 + j
/-- A new row: written in place, or for good. -/
def mutAt (C : Cfg) (st : AS) : Option Tmp → Bool
  | some t => C.wr st.m t
  | none => false
def newRow' (C : Cfg) (st : AS) (d : Option Tmp) (te : TypeId) (e : Ty) (xs : List e.T) : Res := bif mutAt C st d then match xs with
    | [] => .row te e xs
    | _ :: _ => .arr te e xs
  else .row te e xs
/-- Behind an append: an empty row may become one that is written in place. -/
def appRow (C : Cfg) (st : AS) (d : Option Tmp) (te : TypeId) (e : Ty) (xs ys : List e.T) : Res := bif mutAt C st d then match xs, ys with
    | [], y :: l => .arr te e (y :: l)
    | _, _ => .row te e (xs ++ ys)
  else .row te e (xs ++ ys)
def addRes (st : AS) (r : Nat) (x : Res) (K : AS → Option ρ) : Option ρ :=
  match lk st.t r with
  | none => K { st with t := (r, x) :: st.t }
  | some _ => none
/-- The same pointer twice. -/
def samePtr : AV → AV → Bool
  | .ptr r o, .ptr r' o' => Nat.beq r r' && Nat.beq o o'
  | _, _ => false
def ptrKnown (P : Program) (T : TypeId) : Bool := match P.underlying T with
  | some (.pointer e) => (P.info? e).isSome
  | _ => false
/-- May a pointer to a box's first cell be turned? -/
def ptrConv (P : Program) (src dst : TypeId) : Res → Bool
  | .box T (x :: l) => match P.underlying src, P.underlying dst with
    | some (.pointer t), some .unsafePointer => match P.info? t with
      | some j => !Nat.beq j.size 0
      | none => false
    | some .unsafePointer, some (.pointer u) => match P.info? u with
      | some _ => liesAt P P.depth T ((x :: l).length / P.cellsOf T) 0 u 1
      | none => false
    | _, _ => false
  | _ => false
/-- Two structs of plain cells. -/
def eqFlds (P : Program) (c1 c2 : List AV) : List Go.Field → Option Bool
  | [] => some true
  | f :: fs => match decide (f.name = "_"), P.underlying f.type, c1[f.offset]?, c2[f.offset]?, eqFlds P c1 c2 fs with
    | false, some (.int _), some (.v (.int k a)), some (.v (.int k' b)), some r => bif decide (k = k') then some ((a == b) && r) else none
    | false, some .string, some (.v (.string a)), some (.v (.string b)), some r => some ((a.toList == b.toList) && r)
    | false, some .bool, some (.v (.bool a)), some (.v (.bool b)), some r => some ((a == b) && r)
    | _, _, _, _, _ => none
def eqStr (P : Program) (T : TypeId) (x y : AV) : Option Bool := match P.underlying T, aggOf? x, aggOf? y with
  | some (.struct fs), some c1, some c2 => bif !P.stoodInHeld T && !P.eqGuardType P.depth T then eqFlds P c1 c2 fs.toList else none
  | _, _, _ => none
/-- A slice that is not nil for sure. -/
def fullRow (t : List (Nat × Res)) : AV → Bool
  | .d ⟨.rows e, l⟩ => match (l : List e.T) with
    | _ :: _ => true
    | [] => false
  | .full _ (_ :: _) => true
  | .sl r => match lk t r with
    | some (.row _ _ (_ :: _)) => true
    | some (.arr _ _ _) => true
    | _ => false
  | _ => false
def slNil (P : Program) (t : List (Nat × Res)) (T : TypeId) (x y : AV) : Bool := match P.underlying T, y with
  | some (.slice _), .v (.slice none 0 0) => fullRow t x
  | _, _ => false
/-- x == nil. -/
def nilEq (P : Program) (T : TypeId) (x y : AV) : Option Bool :=
  match P.underlying T, y with
  | some (.pointer _), .v (.pointer none) => match x with
    | .d ⟨.ptr _, o⟩ => some o.isNone
    | .dp _ _ _ => some false
    | .ptr _ _ => some false
    | .v (.pointer none) => some true
    | _ => none
  | some (.struct _), _ => eqStr P T x y
  | some (.func _ _ _), .v .nilFunc => match x with
    | .clo _ _ _ => some false
    | .v .nilFunc => some true
    | .v (.func _ _ _) => some false
    | _ => none
  | _, _ => none
def bounds (lo hi : Option Int) (n : Nat) : Int × Int := (lo.getD 0, hi.getD n)
def optInt (C : Cfg) (st : AS) : Option Operand → Option (Option Int)
  | none => some none
  | some x => (intOf? (evO C st x)).map some
def cutRow (P : Program) (T : TypeId) (t : List (Nat × Res)) (x : AV) (lo hi mx : Option Int) (K : AV → Option ρ) : Option ρ :=
  match x, mx with
  | .ga e xs, none => match lo, hi with
    | none, none => guard' (arrElem P T e xs.length) (K (.full e xs))
    | _, _ => none
  | x, none => match rowOf t x with
    | some ⟨e, xs⟩ =>
      let l := lo.getD 0
      let h := hi.getD xs.length
      guard' (sliceElem P T e && (decide (0 ≤ l) && (decide (l ≤ h) && decide (h ≤ xs.length)))) (K (.d ⟨.rows e, (xs.take h.toNat).drop l.toNat⟩))
    | none => none
  | x, some m => match rowOf t x with
    | some ⟨e, xs⟩ =>
      let l := lo.getD 0
      let h := hi.getD xs.length
      guard' (hi.isSome && (sliceElem P T e && (decide (m = h) && (decide (0 ≤ l) && (decide (l ≤ h) && decide (h ≤ xs.length)))))) (K (.full e ((xs.take h.toNat).drop l.toNat)))
    | none => none
def zeroCells? (P : Program) (t : TypeId) : Option (List AV) :=
  match P.info? t with
  | some i => match i.zero with
    | some z => some (z.cells.toList.map .v)
    | none => none
  | none => none
def allKnown (P : Program) (t : TypeId) : Bool := match P.underlying t with
  | some (.struct fs) => fs.toList.all fun f => known P f.type
  | some (.array _ te) => known P te
  | _ => false
/-- Where a part of a struct or an array lies. -/
def placeAt? (P : Program) (t : TypeId) (i : Nat) : Option (Nat × TypeId × Nat) := match P.underlying t with
  | some (.array _ te) => some (i * P.cellsOf te, te, P.cellsOf te)
  | _ => fieldAt? P t i
def fillF (P : Program) (t : TypeId) (ev : Operand → AV) : List (Nat × Operand) → List AV → Option (List AV)
  | [], c => some c
  | (i, x) :: l, c => match placeAt? P t i with
    | some (off, ft, n) => match cellsOf? (ev x) with
      | some cs => bif known P ft && Nat.beq cs.length n then match putCells off cs c with
          | some c' => fillF P t ev l c'
          | none => none
        else none
      | none => none
    | none => none
def inOrder : Nat → List (Nat × Operand) → Bool
  | _, [] => true
  | i, (j, _) :: l => Nat.beq i j && inOrder (i + 1) l
def runesOf (s : ByteArray) : List Int := (Conv.runesFrom s s.size 0 #[]).toList.map fun | .int _ n => n | _ => 0
def encAll (l : List Int) : ByteArray := l.foldl (fun s n => s ++ Utf8.encode n) .empty
def bytesOf (s : ByteArray) : List Int := s.data.toList.map fun b => (b.toNat : Int)
def ofBytes (l : List Int) : ByteArray := ⟨(l.map fun n => UInt8.ofNat n.toNat).toArray⟩
def allBytes : List Int → Bool
  | [] => true
  | n :: l => decide (0 ≤ n) && (decide (n < 256) && allBytes l)
def ptrTo (P : Program) (T te : TypeId) : Bool := match P.underlying T with
  | some (.pointer e) => Nat.beq e te
  | _ => false
abbrev Tab := FuncId → List AV → List Res → Option (AV × List Res)
/-- A table of calls: which entries count, and what they say. -/
structure Call where
  g : FuncId → List AV → List Res → Bool
  f : Tab
/-- An argument as the callee sees it: a row of one's own is read there alone. -/
def argAV (C : Cfg) (st : AS) (T : Option TypeId) : AV → AV
  | .sl r => match lk st.t r with
    | some (.row _ e xs) => .d ⟨.rows e, xs⟩
    | _ => .bad
  | .full e xs => .d ⟨.rows e, xs⟩
  | .v (.slice none 0 0) => match T.bind (elemOf? C.P) with
    | some te => match C.ty te with
      | some e => .d ⟨.rows e, []⟩
      | none => .v (.slice none 0 0)
    | none => .v (.slice none 0 0)
  | a => match T.bind C.ty, aggOf? a with
    | some τ, some l => match toLfs st.t (leafTys τ) l with
      | some lfs => .agg (lfs.map ofLf)
      | none => a
    | _, _ => a
def argAVs (C : Cfg) (st : AS) : List TypeId → List AV → List AV
  | _, [] => []
  | [], a :: l => argAV C st none a :: argAVs C st [] l
  | T :: Ts, a :: l => argAV C st (some T) a :: argAVs C st Ts l
def getAll (t : List (Nat × Res)) : List Nat → Option (List Res)
  | [] => some []
  | r :: L => match lk t r, getAll t L with
    | some x, some y => some (x :: y)
    | _, _ => none
def sub (L : List Nat) : List Nat → Bool
  | [] => true
  | r :: M => mem r L && sub L M
def nodup : List Nat → Bool
  | [] => true
  | r :: L => !mem r L && nodup L
def resRefs : List Res → List Nat
  | [] => []
  | x :: l => x.refs ++ resRefs l
def refsAt (t : List (Nat × Res)) : List Nat → List Nat
  | [] => []
  | r :: L => (match lk t r with
    | some x => x.refs
    | none => []) ++ refsAt t L
/-- Whatever these name lies among L, each once. -/
def closed (L : List Nat) (as : List AV) (fr : List Res) : Bool := nodup L && (sub L (AV.refsL as) && sub L (resRefs fr))
def isRowR : Res → Bool
  | .row _ _ _ => true
  | .arr _ _ _ => true
  | _ => false
def rowRefs (t : List (Nat × Res)) : List Nat → List Nat
  | [] => []
  | r :: L => match lk t r with
    | some x => bif isRowR x then r :: rowRefs t L else rowRefs t L
    | none => rowRefs t L
def freshAll (t : List (Nat × Res)) (b : Nat) : Nat → Bool
  | 0 => true
  | n + 1 => (match lk t (b + n) with
    | none => true
    | some _ => false) && freshAll t b n
/-- Rows that were written in place, and will be no more. -/
def settle (t : List (Nat × Res)) : List Nat → List (Nat × Res)
  | [] => t
  | r :: L => match lk t r with
    | some (.arr te e xs) => settle (setr t r (.row te e xs)) L
    | _ => settle t L
def setAll (τ : Nat → Nat) : Nat → List Res → List (Nat × Res) → List (Nat × Res)
  | _, [], t => t
  | j, x :: l, t => setAll τ (j + 1) l (setr t (τ j) (x.ren τ))
def settled (st : AS) (args : List AV) : AS := { st with t := settle st.t (AV.refsL args) }
def passed (C : Cfg) (st : AS) (f : FuncId) (fn : Func) (args : List AV) : List AV := bif C.own f then args else argAVs C st fn.params.toList args
def reached (st : AS) (as : List AV) : List Nat := collect st.t 200 (AV.refsL as) []
def callRefs (C : Cfg) (st : AS) (f : FuncId) (args : List AV) : List Nat := match C.P.funcs[f]? with
  | none => []
  | some fn => AV.refsL args ++ reached (settled st args) (passed C (settled st args) f fn args)
def doCall1 (call : Call) (st : AS) (d : Option Tmp) (f : FuncId) (as : List AV) (L : List Nat) (K : AV → AS → Option ρ) : Option ρ :=
  match getAll st.t L with
  | none => none
  | some fr => bif closed L as fr then
    bif call.g f (AV.renL (idx L) as) (fr.map (Res.ren (idx L))) then match call.f f (AV.renL (idx L) as) (fr.map (Res.ren (idx L))) with
    | none => none
    | some (res, out) =>
      bif freshAll st.t (site d 0) (out.length - L.length) && Nat.ble L.length out.length then
        K (res.ren fun j => at' L j (site d 0)) { (killS (rowRefs st.t L) st) with t := setAll (fun j => at' L j (site d 0)) 0 out (killS (rowRefs st.t L) st).t }
      else none
    else none else none
def doCall (C : Cfg) (call : Call) (st : AS) (d : Option Tmp) (f : FuncId) (args : List AV) (K : AV → AS → Option ρ) : Option ρ :=
  match C.P.funcs[f]? with
  | none => none
  | some fn => doCall1 call (settled st args) d f (passed C (settled st args) f fn args) (reached (settled st args) (passed C (settled st args) f fn args)) K
def callVal (C : Cfg) (call : Call) (st : AS) (d : Option Tmp) (f : AV) (args : List AV) (K : AV → AS → Option ρ) : Option ρ :=
  match f with
  | .v (.func (.func g) fs cs) => doCall C call st d g (fs.toList.map .v ++ args ++ cs.toList.map .v) K
  | .clo g fs cs => doCall C call st d g (fs ++ args ++ cs) K
  | _ => none
/-- What is appended. -/
def srcRow (t : List (Nat × Res)) (e : Ty) (x : AV) : Option (List e.T) := match x with
  | .v (.slice none 0 0) => some []
  | .v (.string b) => if h : e = .int .u8 then some (h ▸ bytesOf b) else none
  | x => match rowOf t x with
    | some ⟨e', l⟩ => if h : e' = e then some (h ▸ l) else none
    | none => none
def doAppend (C : Cfg) (st : AS) (d : Option Tmp) (T : TypeId) (s x : AV) (K : AV → AS → Option ρ) : Option ρ :=
  match elemOf? C.P T with
  | none => none
  | some te => match C.ty te with
    | none => none
    | some e =>
      match srcRow st.t e x with
      | none => none
      | some ys => match s with
        | .v (.slice none 0 0) => guard' (rowTy C.P te e && fitsB C.P te ys.length) (addRes st (site d 0) (newRow' C st d te e ys) (K (.sl (site d 0))))
        | .full e' l => match l with
          | [] => guard' (rowTy C.P te e && fitsB C.P te ys.length) (addRes st (site d 0) (newRow' C st d te e ys) (K (.sl (site d 0))))
          | _ :: _ => none
        | .sl r => match lk st.t r with
          | some (.row te' e' xs) =>
            if h : e' = e then
              let st1 := killS [r] st
              guard' (Nat.beq te' te && (rowTy C.P te e && fitsB C.P te (xs.length + ys.length))) (K (.sl r) { st1 with t := setr st1.t r (appRow C st d te e (h ▸ xs) ys) })
            else none
          | some (.arr te' e' xs) =>
            if h : e' = e then
              let st1 := killS [r] st
              guard' (Nat.beq te' te && (rowTy C.P te e && fitsB C.P te (xs.length + ys.length))) (K (.sl r) { st1 with t := setr st1.t r (.arr te e ((h ▸ xs) ++ ys)) })
            else none
          | _ => none
        | _ => none
def nilCut (P : Program) (t : TypeId) : Bool := match P.underlying t with
  | some (.slice te) => (P.info? te).isSome
  | _ => false
/-- A row that is written in place, cut: s[:h]. -/
def doCut (C : Cfg) (st : AS) (t : TypeId) (r : Nat) (te : TypeId) (e : Ty) (xs : List e.T) (lo hi mx : Option Int) (K : AV → AS → Option ρ) : Option ρ :=
  match mx, hi with
  | none, some h => guard' (sliceElem C.P t e && (decide (lo.getD 0 = 0) && (decide (0 ≤ h) && decide (h ≤ xs.length))))
      (K (.sl r) { (killS [r] st) with t := setr (killS [r] st).t r (.arr te e (xs.take h.toNat)) })
  | _, _ => none
/-- append(nil, make([]T, n)...). -/
def doZeros (C : Cfg) (st : AS) (d : Option Tmp) (T : TypeId) (s x : AV) (K : AV → AS → Option ρ) : Option ρ :=
  match elemOf? C.P T with
  | none => none
  | some te => match C.ty te with
    | none => none
    | some e => match zeroCells? C.P te with
      | none => none
      | some z => match mkAV st.t e (.agg z), s, x with
        | some y, .v (.slice none 0 0), .v (.int .i64 n) => guard' ((mutAt C st d && rowTy C.P te e) && (decide (0 < n) && decide (n ≤ 65536))) (addRes st (site d 0) (.arr te e (List.replicate n.toNat y)) (K (.sl (site d 0))))
        | _, _, _ => none
def evOp (C : Cfg) (call : Call) (st : AS) (o : Oper) (K : AV → AS → Option ρ) : Option ρ :=
  let ev := evO C st
  match o.op with
  | .move x => K (ev x) st
  | .assign x => K (ev x) st
  | .pick c a b => match ev c with
    | .v (.bool c) => match ev a, ev b with
      | .v (.bool x), .v (.bool y) => K (.v (.bool (bif c then x else y))) st
      | _, _ => bif c then K (ev a) st else K (ev b) st
    | _ => none
  | .alloc T => bif C.bld T then match zeroCells? C.P T with
    | some [.v (.pointer none), .v (.slice none 0 0)] => addRes st (site o.dst 0) (.bld T .empty) (K (.ptr (site o.dst 0) 0))
    | _ => none else
    match zeroCells? C.P T with
    | some c => addRes st (site o.dst 0) (.box T c) (K (.ptr (site o.dst 0) 0))
    | none => none
  | .box T x => match cellsOf? (ev x) with
    | some c => addRes st (site o.dst 0) (.box T c) (K (.ptr (site o.dst 0) 0))
    | none => none
  | .build t parts => bif allEx C st o.op.operands.toList && notStruct C.P t then pureOp C st o K else
    match zeroCells? C.P t with
    | some c => match fillF C.P t ev parts.toList c with
      | some c' => bif allKnown C.P t then K (.agg c') st else none
      | none => none
    | none => none
  | .buildSlice t len parts => match elemOf? C.P t with
    | some te => match C.ty te with
      | some e => bif inOrder 0 parts.toList && (Nat.beq len parts.toList.length && (rowTy C.P te e && Nat.ble (len * e.size) 16777216)) then
          match mkAVs st.t e (parts.toList.map fun p => ev p.2) with
          | some xs => addRes st (site o.dst 0) (.row te e xs) (K (.sl (site o.dst 0)))
          | none => none
        else none
      | none => none
    | none => none
  | .load t a => bif oneOk C.P t then match ev a with
    | .ptr r off => match lk st.t r with
      | some (.box _ c) => match pickCells (isAggT C.P t) off (C.P.cellsOf t) c with
        | some x => K x st
        | none => none
      | _ => none
    | .dp e x j => match pickCells (isAggT C.P t) j (C.P.cellsOf t) ((cells e x).map ofLf) with
      | some x => K x st
      | none => none
    | .ep r s i j => match lk st.t r with
      | some (.arr _ e xs) => match xs[i]? with
        | some y => bif Nat.beq s e.size then match pickCells (isAggT C.P t) j (C.P.cellsOf t) ((cells e y).map ofLf) with
            | some x => K x st
            | none => none
          else none
        | none => none
      | _ => none
    | _ => none
    else none
  | .store t a x => match ev a with
    | .ptr r off => match lk st.t r with
      | some (.box T c) => match cellsOf? (ev x) with
        | some cs => bif known C.P t && (Nat.beq cs.length (C.P.cellsOf t) && cs.all oneCell) then
            match putCells off cs c with
            | some c' => K (.v undef) { st with t := setr st.t r (.box T c') }
            | none => none
          else none
        | none => none
      | _ => none
    | .ep r s i j => match lk st.t r with
      | some (.arr te e xs) => match xs[i]?, cellsOf? (ev x) with
        | some y, some cs => bif Nat.beq s e.size && (known C.P t && (Nat.beq cs.length (C.P.cellsOf t) && cs.all oneCell)) then
            match putCells j cs ((cells e y).map ofLf) with
            | some c' => match toLfs st.t ((cells e y).map (·.1)) c' with
              | some l => match mk e l with
                | some y' => K (.v undef) { st with t := setr st.t r (.arr te e (xs.set i y')) }
                | none => none
              | none => none
            | none => none
          else none
        | _, _ => none
      | _ => none
    | _ => none
  | .nilCheck x => match ev x with
    | .d ⟨.ptr e, p⟩ => match (p : Option e.T) with
      | some y => K (.dp e y 0) st
      | none => none
    | .ptr r off => K (.ptr r off) st
    | .dp e y j => K (.dp e y j) st
    | .ga e y => K (.ga e y) st
    | .ep r s i j => K (.ep r s i j) st
    | .clo f a b => K (.clo f a b) st
    | .v (.func f a b) => match f with
      | .func g => K (.v (.func (.func g) a b)) st
      | _ => none
    | _ => none
  | .binOp op T x y yT => bif slNil C.P st.t T (ev x) (ev y) then match op with
    | .eql => K (.v (.bool false)) st
    | .neq => K (.v (.bool true)) st
    | _ => none
    else match op with
    | .quo => match ev x, ev y with
      | .v (.int k a), .v (.int k' b) => bif decide (k = k') && !decide (b = 0) then K (.v (.int k (k.wrap (Int.tdiv a b)))) st else none
      | _, _ => none
    | .rem => match ev x, ev y with
      | .v (.int k a), .v (.int k' b) => bif decide (k = k') && !decide (b = 0) then K (.v (.int k (Int.tmod a b))) st else none
      | _, _ => none
    | .add => match ev x, ev y with
      | .v (.string a), .v (.string b) => guard' (Nat.ble (a.size + b.size) 1099511627776) (K (.v (.string (a ++ b))) st)
      | _, _ => pureOp C st o K
    | .eql => match nilEq C.P T (ev x) (ev y) with
      | some b => K (.v (.bool b)) st
      | none => pureOp C st o K
    | .neq => match nilEq C.P T (ev x) (ev y) with
      | some b => K (.v (.bool (!b))) st
      | none => bif samePtr (ev x) (ev y) && ptrKnown C.P T then K (.v (.bool false)) st else pureOp C st o K
    | _ => pureOp C st o K
  | .convert src dst x => match ev x with
    | .v (.string s) => match C.P.underlying dst with
      | some (.slice te) => bif (C.P.underlying src).isSome then match C.P.underlying te with
        | some (.int .u8) => K (.d ⟨.rows (.int .u8), bytesOf s⟩) st
        | some (.int .i32) => K (.d ⟨.rows (.int .i32), runesOf s⟩) st
        | _ => none
        else none
      | _ => pureOp C st o K
    | .v x => pureOp C st o K
    | .ptr k 0 => match lk st.t k with
      | some x => bif ptrConv C.P src dst x then K (.ptr k 0) st else none
      | none => none
    | x => match rowOrArr st.t x, C.P.underlying src, C.P.underlying dst with
      | some ⟨.int .i32, l⟩, some (.slice te), some .string => match C.P.underlying te with
        | some (.int .i32) => K (.v (.string (encAll l))) st
        | _ => none
      | some ⟨.int .u8, l⟩, some (.slice te), some .string => match C.P.underlying te with
        | some (.int .u8) => K (.v (.string (ofBytes l))) st
        | _ => none
      | _, _, _ => none
  | .makeFunc (.func f) first caps => K (.clo f (first.toList.map ev) (caps.toList.map ev)) st
  | .slice t x lo hi mx => match optInt C st lo, optInt C st hi, optInt C st mx with
    | some lo, some hi, some mx => match ev x with
      | .v (.string s) => match mx with
        | none =>
          let l := lo.getD 0
          let h := hi.getD s.size
          guard' (isStr C.P t && (decide (0 ≤ l) && (decide (l ≤ h) && decide (h ≤ s.size)))) (K (.v (.string (s.extract l.toNat h.toNat))) st)
        | _ => none
      | .v (.slice none 0 0) => match mx with
        | none => guard' (nilCut C.P t && (decide (lo.getD 0 = 0) && decide (hi.getD 0 = 0))) (K (.v (.slice none 0 0)) st)
        | some _ => none
      | .sl r => match lk st.t r with
        | some (.arr te e xs) => doCut C st t r te e xs lo hi mx K
        | _ => cutRow C.P t st.t (.sl r) lo hi mx fun v => K v st
      | a => cutRow C.P t st.t a lo hi mx fun v => K v st
    | _, _, _ => none
  | .makeSlice t l c => match elemOf? C.P t, ev l, intOf? (ev c) with
    | some te, .v (.int .i64 0), some n => match C.ty te with
      | some e => guard' (rowTy C.P te e && (decide (0 ≤ n) && decide (n ≤ 1099511627776))) (addRes st (site o.dst 0) (.row te e []) (K (.sl (site o.dst 0))))
      | none => none
    | _, _, _ => none
  | .fieldAddr s x f => match fieldAt? C.P s f with
    | some (off, _, n + 1) => match ev x with
      | .ptr r j => K (.ptr r (j + off)) st
      | .dp e y j => K (.dp e y (j + off)) st
      | .ep r s i j => K (.ep r s i (j + off)) st
      | _ => none
    | _ => none
  | .field t x f => match fieldAt? C.P t f with
    | some (off, ft, n) => match aggOf? (ev x) with
      | some c => bif oneOk C.P ft then match pickCells (isAggT C.P ft) off n c with
          | some a => K a st
          | none => none
        else none
      | none => none
    | none => none
  | .indexAddr t x i => match intOf? (ev i) with
    | some n => match ev x with
      | .ga e xs => bif arrElem C.P t e xs.length && decide (0 ≤ n) then match xs[n.toNat]? with
          | some y => K (.dp e y 0) st
          | none => none
        else none
      | x' => match rowOf st.t x' with
        | some ⟨e, xs⟩ => bif sliceElem C.P t e && decide (0 ≤ n) then match xs[n.toNat]? with
            | some y => K (.dp e y 0) st
            | none => none
          else none
        | none => match arrOf st.t x' with
          | some (r, ⟨e, xs⟩) => bif sliceElem C.P t e && (decide (0 ≤ n) && decide (n.toNat < xs.length)) then K (.ep r e.size n.toNat 0) st else none
          | none => match x' with
            | .ptr r off => match arrStep C.P t n with
              | some o => K (.ptr r (off + o)) st
              | none => none
            | _ => none
    | none => none
  | .index t x i => match ev x, intOf? (ev i) with
    | .v (.string s), some n => bif isStr C.P t && decide (0 ≤ n) then match s.data[n.toNat]? with
        | some b => K (.v (.int .u8 b.toNat)) st
        | none => none
      else none
    | x', some n => match aggOf? x', C.P.underlying t with
      | some c, some (.array m te) => bif oneOk C.P te && (decide (0 ≤ n) && decide (n < m)) then match pickCells (isAggT C.P te) (n.toNat * C.P.cellsOf te) (C.P.cellsOf te) c with
          | some a => K a st
          | none => none
        else none
      | _, _ => none
    | _, _ => none
  | .range t x => match ev x with
    | .v (.string s) => bif isStr C.P t then addRes st (site o.dst 0) (.iter s 0) (K (.ptr (site o.dst 0) 0)) else none
    | _ => none
  | .next x true => match ev x with
    | .ptr r 0 => match lk st.t r with
      | some (.iter s pos) => bif decide (pos < s.size) then
          K (.tup [.v (.bool true), .v (.int .i64 pos), .v (.int .i32 (Utf8.decode s pos).1)]) { st with t := setr st.t r (.iter s (pos + (Utf8.decode s pos).2)) }
        else K (.tup [.v (.bool false)]) st
      | _ => none
    | _ => none
  | .extract x i => match ev x with
    | .tup l => match l[i]? with
      | some a => K a st
      | none => none
    | _ => pureOp C st o K
  | .call c => match c.callee with
    | .builtin .len => match c.args.toList, c.argTypes[0]? with
      | [x], some T => match rowOf st.t (ev x) with
        | some p => bif isSliceT C.P T then K (.v (.int .i64 p.2.length)) st else none
        | none => match arrOf st.t (ev x) with
          | some p => bif isSliceT C.P T then K (.v (.int .i64 p.2.2.length)) st else none
          | none => pureOp C st o K
      | _, _ => none
    | .builtin .append => match c.args.toList, c.argTypes.toList with
      | [s, x], [T, U] => bif notInt C.P U then doAppend C st o.dst T (ev s) (ev x) K else bif isIntT C.P U then doZeros C st o.dst T (ev s) (ev x) K else none
      | _, _ => none
    | .builtin .unsafeSliceData => match c.args.toList with
      | [x] => match ev x with
        | .sl r => match lk st.t r with
          | some (.row _ e (_ :: _)) => K (.ep r e.size 0 0) st
          | _ => none
        | _ => pureOp C st o K
      | _ => none
    | .builtin .unsafeString => match c.args.toList, c.argTypes.toList with
      | [x, n], [T, _] => match ev x, ev n with
        | .ep r 1 0 0, .v (.int .i64 n) => match lk st.t r with
          | some (.row te (.int .u8) (y :: xs)) => bif decide (n = (y :: xs : List Int).length) && (decide (n ≤ 1099511627776)) && (ptrTo C.P T te && (Nat.beq (C.P.cellsOf te) 1 && allBytes (y :: xs))) then
              let st1 := killS [r] st
              K (.v (.string (ofBytes (y :: xs)))) { st1 with t := setr st1.t r .gone }
            else none
          | _ => none
        | _, _ => pureOp C st o K
      | _, _ => none
    | .builtin _ => pureOp C st o K
    | .value f => callVal C call st o.dst (ev f) (c.args.toList.map ev) K
    | _ => none
  | .unOp _ _ _ => pureOp C st o K
  | _ => none
def putS (st : AS) (d : Option Tmp) (a : AV) : AS := match d with
  | some t => { st with s := upd st.s t a }
  | none => st
def dstOk (st : AS) : Option Tmp → Bool
  | some t => Nat.blt t st.n
  | none => true
/-- One operation with its guard. -/
def evOne (C : Cfg) (call : Call) (ops : Array Oper) (o : Oper) (st : AS) (K : AS → Option ρ) : Option ρ :=
  bif dstOk st o.dst then match o.guard with
    | none => evOp C call st o fun a st' => K (putS st' o.dst a)
    | some (j, want) => match (ops[j]?).bind (·.dst) with
      | some t => match lk st.s t with
        | some (.v (.bool b)) =>
          bif b then
            let st := { st with s := upd st.s t (.v (.bool true)) }
            bif want then evOp C call st o fun a st' => K (putS st' o.dst a) else K (putS st o.dst (.v undef))
          else
            let st := { st with s := upd st.s t (.v (.bool false)) }
            bif want then K (putS st o.dst (.v undef)) else evOp C call st o fun a st' => K (putS st' o.dst a)
        | some (.v (.tuple vs)) => K (putS st o.dst (.v undef))
        | _ => none
      | none => none
  else none
/-- The operations of a region, in the order of the text. -/
def evOps (C : Cfg) (call : Call) (ops : Array Oper) : List Oper → AS → (AS → Option ρ) → Option ρ
  | [], st, K => K st
  | o :: rest, st, K => evOne C call ops o st fun st' => evOps C call ops rest st' K
/-- Does an operation look at memory at most, and leave it as it is? -/
def quietOp (o : Oper) : Bool := match o.op with
  | .move _ => true | .assign _ => true | .pick _ _ _ => true | .load _ _ => true | .nilCheck _ => true | .binOp _ _ _ _ _ => true | .unOp _ _ _ => true
  | .slice _ _ _ _ _ => true | .fieldAddr _ _ _ => true | .field _ _ _ => true | .indexAddr _ _ _ => true | .index _ _ _ => true | .extract _ _ => true | .build _ _ => true
  | .makeFunc _ _ _ => true
  | .call c => match c.callee with
    | .builtin .len => true
    | .builtin .min => true
    | .builtin .max => true
    | _ => false
  | _ => false
/-- The box that a quiet operation reads. -/
def reads (C : Cfg) (st : AS) (o : Oper) : List Nat := match o.op with
  | .load _ a => match evO C st a with
    | .ptr r _ => match lk st.t r with
      | some (.box _ _) => [r]
      | _ => []
    | .ep r _ _ _ => match lk st.t r with
      | some (.arr _ _ _) => [r]
      | _ => []
    | _ => []
  | _ => []
/-- The blocks that another operation may write. -/
def writes (C : Cfg) (st : AS) (o : Oper) : List Nat := match o.op with
  | .store _ a _ => (evO C st a).refs
  | .slice _ x _ _ _ => (evO C st x).refs
  | .next a _ => (evO C st a).refs
  | .call c => match c.callee with
    | .value f => match evO C st f with
      | .v (.func (.func g) fs cs) => callRefs C st g (fs.toList.map .v ++ c.args.toList.map (evO C st) ++ cs.toList.map .v)
      | .clo g fs cs => callRefs C st g (fs ++ c.args.toList.map (evO C st) ++ cs)
      | _ => []
    | .builtin _ => AV.refsL (c.args.toList.map (evO C st))
    | _ => []
  | _ => []
/-- A row that is written in place is cut: the row itself changes. -/
def cutArr (C : Cfg) (st : AS) (o : Oper) : Bool := match o.op with
  | .slice _ x _ _ _ => match evO C st x with
    | .sl r => match lk st.t r with
      | some (.arr _ _ _) => true
      | _ => false
    | _ => false
  | _ => false
def disj (L M : List Nat) : Bool := match L with
  | [] => true
  | r :: L => !mem r M && disj L M
def firstQuiet (ops : Array Oper) (listed : Array Bool) : List Nat → Option Nat
  | [] => none
  | i :: l => match ops[i]? with
    | some o => bif quietOp o && Region.free .any ops listed i then some i else firstQuiet ops listed l
    | none => firstQuiet ops listed l
def onsOf : List Edge → List Nat
  | [] => []
  | e :: l => bif Region.binds .any e then e.on :: onsOf l else onsOf l
/-- The operations that another one waits for. -/
def reach (ops : Array Oper) : Nat → List Nat → List Nat → List Nat
  | 0, _, seen => seen
  | _, [], seen => seen
  | n + 1, j :: todo, seen => bif mem j seen then reach ops n todo seen else match ops[j]? with
    | some o => reach ops n (onsOf o.after.toList ++ todo) (j :: seen)
    | none => reach ops n todo seen
/-- What was read stays as it is, or was read by an operation that the writer waits for. -/
def dropR (W : List Nat) (ops : Array Oper) (o : Oper) : List (Nat × List Nat) → Option (List (Nat × List Nat))
  | [] => some []
  | (k, refs) :: R => match dropR W ops o R with
    | none => none
    | some R' => bif disj W refs then some ((k, refs) :: R') else bif mem k (reach ops 1000 (onsOf o.after.toList) []) then some R' else none
/-- A region whose order is drawn: what only looks comes first; else what comes up alone. -/
def evD (C : Cfg) (call : Call) (ops : Array Oper) : Nat → Array Bool → List (Nat × List Nat) → AS → (AS → Option ρ) → Option ρ
  | 0, listed, _, st, K => match Region.ready .any ops listed with
    | [] => K st
    | _ :: _ => none
  | n + 1, listed, R, st, K => match Region.ready .any ops listed with
    | [] => K st
    | i :: l => match firstQuiet ops listed (i :: l) with
      | some j => match ops[j]? with
        | some o => bif cutArr C st o then none else evOne C call ops o st fun st' => evD C call ops n (listed.setIfInBounds j true) ((j, reads C st o) :: R) st' K
        | none => none
      | none => match l, ops[i]? with
        | [], some o => match dropR (writes C st o) ops o R with
          | some R' => bif quietOp o then none else evOne C call ops o st fun st' => evD C call ops n (listed.setIfInBounds i true) R' st' K
          | none => none
        | _, _ => none
inductive Ex where
  | normal
  | exit (id : Nat)
  | ret
def sel (s : List (Nat × AV)) : List Nat → List (Nat × AV)
  | [] => []
  | t :: l => match lk s t with
    | some a => (t, a) :: sel s l
    | none => sel s l
def upto : Nat → List Nat
  | 0 => []
  | n + 1 => upto n ++ [n]
def enum {α : Type} : Nat → List α → List (Nat × α)
  | _, [] => []
  | i, a :: l => (i, a) :: enum (i + 1) l
/-- At a loop's head a slice that is nil begins a row of one's own, where the hints say so. -/
def ownRows (C : Cfg) : List (Nat × TypeId) → Nat → AS → Option AS
  | [], _, st => some st
  | (t, te) :: l, i, st => match lk st.s t with
    | some (.v (.slice none 0 0)) => match lk st.t i, C.ty te with
      | none, some e => ownRows C l (i + 1) { st with s := upd st.s t (.sl i), t := (i, .row te e []) :: st.t }
      | _, _ => none
    | _ => ownRows C l (i + 1) st
/-- The state at a loop's head: the slots that live, the blocks that they reach, told anew. -/
def canon1 (m : Nat) (live : List Nat) (st : AS) : Option AS :=
  let s := sel st.s live
  let L := collect st.t 200 (refsAt st.t (upto m) ++ AV.refsL (s.map (·.2))) (upto m)
  match getAll st.t L with
  | some fr => bif closed L (s.map (·.2)) fr then some { s := s.map fun x => (x.1, x.2.ren (idx L)), t := enum 0 (fr.map (Res.ren (idx L))), m := st.m, n := st.n } else none
  | none => none
def canon (C : Cfg) (f : FuncId) (id m : Nat) (st : AS) : Option AS :=
  match ownRows C (C.rows f id) 40 st with
  | some st => canon1 m ((C.hints f id).getD (upto st.n)) st
  | none => none
def loopK (cn : AS → Option AS) (body : AS → (Ex → AS → Option ρ) → Option ρ) : Nat → AS → (Ex → AS → Option ρ) → Option ρ
  | 0, _, _ => none
  | n + 1, st, K => body st fun e st' => match e with
    | .normal => match cn st' with
      | some st2 => loopK cn body n st2 K
      | none => none
    | e => K e st'
def inBlk (id : Nat) (K : Ex → AS → Option ρ) : Ex → AS → Option ρ
  | .exit i, st => bif Nat.beq i id then K .normal st else K (.exit i) st
  | e, st => K e st
def thenK (X : AS → Option ρ) (K : Ex → AS → Option ρ) : Ex → AS → Option ρ
  | .normal, st => X st
  | e, st => K e st
abbrev LTab := FuncId → Nat → AS → Option (Ex × AS)
structure Loops where
  g : FuncId → Nat → AS → Bool
  f : LTab
def noLoops : Loops := ⟨fun _ _ _ => true, fun _ _ _ => none⟩
/-- Boxes that will be written no more: from now on they are known by value. -/
def frzRef (C : Cfg) (m : Nat) (st : AS) (r : Nat) : Option AS := match lk st.t r with
  | some (.box T c) => match C.ty T with
    | some e => match mkAV st.t e (.agg c) with
      | some x => bif Nat.ble m r then some { st with s := st.s.map fun p => (p.1, p.2.fz r e x), t := (delR r st.t).map fun p => (p.1, p.2.fz r e x) } else none
      | none => none
    | none => none
  | _ => none
def frzSlots (C : Cfg) (m : Nat) : List Nat → AS → Option AS
  | [], st => some st
  | s :: l, st => match lk st.s s with
    | some (.ptr r 0) => match frzRef C m st r with
      | some st' => frzSlots C m l st'
      | none => none
    | _ => none
/-- A slot that was asked. -/
def setB (st : AS) (c : Operand) (b : Bool) : AS := match c with
  | .tmp t => { st with s := upd st.s t (.v (.bool b)) }
  | _ => st
def evC (C : Cfg) (call : Call) (lp : Loops) (m n : Nat) (f : FuncId) : Code → AS → (Ex → AS → Option ρ) → Option ρ
  | .skip, st, K => K .normal st
  | .region _ ops false, st, K => evOps C call ops ops.toList st (K .normal)
  | .region id ops true, st, K => match frzSlots C m (C.frzAt f id) st with
    | some st => bif Region.noSelect ops then evD C call ops ops.size (Array.replicate ops.size false) [] st (K .normal) else none
    | none => none
  | .seq a b, st, K => evC C call lp m n f a st (thenK (fun st' => evC C call lp m n f b st' K) K)
  | .cond c x y, st, K => match evO C st c with
    | .v (.bool b) => bif b then evC C call lp m n f x (setB st c true) K else evC C call lp m n f y (setB st c false) K
    | _ => none
  | .block id (.loop body), st, K => match canon C f id m st with
    | none => none
    | some st1 => match lp.f f id st1 with
      | some (e, s') => bif lp.g f id st1 then inBlk id K e s' else none
      | none => loopK (canon C f id m) (fun st K => evC C call lp m n f body st K) n st1 (inBlk id K)
  | .block id c, st, K => evC C call lp m n f c st (inBlk id K)
  | .exit id, st, K => K (.exit id) st
  | .label _, st, K => K .normal st
  | .scope c, st, K => evC C call lp m n f c st K
  | .ret, st, K => K .ret st
  | _, _, _ => none
def resAV (C : Cfg) (st : AS) : ResultVar → Option AV
  | .tmp t => some ((lk st.s t).getD .bad)
  | .cell a T => match lk st.s a with
    | some (.ptr r off) => match lk st.t r with
      | some (.box _ c) => bif oneOk C.P T then pickCells (isAggT C.P T) off (C.P.cellsOf T) c else none
      | _ => none
    | _ => none
def resAVs (C : Cfg) (st : AS) : List ResultVar → Option (List AV)
  | [] => some []
  | r :: l => match resAV C st r, resAVs C st l with
    | some a, some b => some (a :: b)
    | _, _ => none
def tupled : List AV → AV
  | [a] => a
  | l => .tup l
/-- A new block that is handed back for good: what it holds never turns again. -/
def frzAV (C : Cfg) (m : Nat) (st : AS) : AV → AV
  | .ptr r 0 => bif Nat.blt r m then .ptr r 0 else match lk st.t r with
    | some (.box T c) => match C.ty T with
      | some e => match mkAV st.t e (.agg c) with
        | some x => .dp e x 0
        | none => .ptr r 0
      | none => .ptr r 0
    | _ => .ptr r 0
  | a => a
def frzRefs : List AV → List AV → List Nat
  | .ptr r _ :: l, .dp _ _ _ :: l' => r :: frzRefs l l'
  | _ :: l, _ :: l' => frzRefs l l'
  | _, _ => []
def keysOf : List (Nat × Res) → List Nat
  | [] => []
  | (k, _) :: l => k :: keysOf l
def finish1 (C : Cfg) (m : Nat) (f : FuncId) (fn : Func) (st : AS) : Option (AV × List Res) :=
  match resAVs C st fn.results.toList with
  | none => none
  | some as00 =>
    let as0 := bif C.keep f then as00 else argAVs C st fn.resultTypes.toList as00
    let as := bif C.frz f then as0.map (frzAV C m st) else as0
    let a := tupled as
    let L := collect st.t 200 (refsAt st.t (upto m) ++ a.refs) (upto m)
    match getAll st.t L with
    | some out => bif closed L [a] out && disj (frzRefs as0 as) L then some (a.ren (idx L), out.map (Res.ren (idx L))) else none
    | none => none
def finish (C : Cfg) (m : Nat) (f : FuncId) (fn : Func) (st : AS) : Option (AV × List Res) := bif C.keep f then finish1 C m f fn st else finish1 C m f fn { st with t := settle st.t (keysOf st.t) }
/-- The loops of a body. -/
def loops : Code → List (Nat × Code)
  | .seq a b => loops a ++ loops b
  | .cond _ a b => loops a ++ loops b
  | .block id (.loop body) => (id, body) :: loops body
  | .block _ c => loops c
  | .scope c => loops c
  | _ => []
def uniq : List (Nat × Code) → Bool
  | [] => true
  | (k, _) :: l => (match lk l k with
    | none => true
    | some _ => false) && uniq l
/-- A function that is entered. -/
def fnOk (fn : Func) : Bool := fn.body.isSome && !(fn.name == "runtime.NumGoroutine")
def evF (C : Cfg) (call : Call) (lp : Loops) (n : Nat) (f : FuncId) (args : List AV) (fr : List Res) : Option (AV × List Res) :=
  match C.P.funcs[f]? with
  | some fn => match fn.body with
    | some c => bif fnOk fn && (uniq (loops c) && (Nat.ble args.length fn.ntmps && Nat.ble fr.length 40)) then evC C call lp fr.length n f c { s := enum 0 args, t := enum 0 fr, m := f, n := fn.ntmps } fun e st => match e with
      | .normal => finish C fr.length f fn st
      | .ret => finish C fr.length f fn st
      | _ => none
      else none
    | none => none
  | none => none
/-- Calls of calls, so deep; loops so often. -/
def ev (C : Cfg) (n : Nat) : Nat → Tab
  | 0, _, _, _ => none
  | k + 1, f, args, fr => match C.leaf f with
    | some F => F args fr
    | none => evF C ⟨fun _ _ _ => true, ev C n k⟩ noLoops n f args fr
end Go.Proofs.Ev
