/-
  An evaluator by value of the model of the program, proved sound, and what it shows of this law: part SeA.
-/
import Derived.Test.YtjhfnlidkijpbaaGreatDoorEvG
import Derived.Test.YtjhfnlidkijpbaaGreatDoorEvF
import Derived.Test.YtjhfnlidkijpbaaGreatDoorProg
namespace Go.Proofs.Ev
open Go
set_option linter.unusedVariables false
set_option maxRecDepth 100000
def tyT : TypeId → Option Ty := fun t => match t with
  | 2 => some (.int .i64)
  | 3 => some (.int .i64)
  | 4 => some .bool
  | 5 => some (.int .u8)
  | 6 => some (.int .u8)
  | 9 => some .str
  | 10 => some .str
  | 11 => some .str
  | 12 => some (.int .u64)
  | 21 => some (.int .i32)
  | 23 => some (.rows .cx)
  | 24 => some (.int .i64)
  | 31 => some (.rows .val)
  | 37 => some (.rows (.rows .simple))
  | 38 => some (.rows (.int .i64))
  | 40 => some .cx
  | 43 => some .spec
  | 49 => some .simple
  | 50 => some (.rows .simple)
  | 53 => some (.rows .str)
  | 56 => some (.rows .tok)
  | 58 => some (.rows (.int .i32))
  | 60 => some (.rows (.int .u8))
  | 64 => some .tok
  | 66 => some .val
  | 73 => some (.rows (.rows .val))
  | 143 => some (.int .u64)
  | 150 => some (.int .u32)
  | 186 => some (.int .u8)
  | 187 => some (.int .u8)
  | 189 => some (.int .i32)
  | 190 => some (.int .i32)
  | _ => none
def bs (l : List UInt8) : ByteArray := ⟨l.toArray⟩
def globT : Nat → Option ((e : Ty) × List e.T) := fun g => match g with
  | 0 => some ⟨.str, [bs [], bs [32], bs [62], bs [43], bs [126]]⟩
  | 1 => some ⟨.str, [bs [], bs [61], bs [126, 61], bs [124, 61], bs [94, 61], bs [36, 61], bs [42, 61]]⟩
  | _ => none
def wrT : FuncId → Nat → Bool := fun _ _ => false
def ownT : FuncId → Bool := fun f => Nat.beq f 124 || Nat.beq f 141
def leafNoEscape : List AV → List Res → Option (AV × List Res)
  | [.ptr 0 0], r => bif Nat.ble r.length 40 then some (.ptr 0 0, r) else none
  | _, _ => none
def leafIndexByte : List AV → List Res → Option (AV × List Res)
  | [.v (.string s), .v (.int .u8 c)], [] => some (.v (.int .i64 (Lib.indexByte s.data.toList c.toNat.toUInt8)), [])
  | _, _ => none
def leafT : FuncId → Option (List AV → List Res → Option (AV × List Res)) := fun f => bif Nat.beq f 140 then some leafNoEscape else bif Nat.beq f 143 then some leafIndexByte else none
def hintT : FuncId → Nat → Option (List Nat) := fun f id => match f with
  | 5 => match id with
    | 0 => some [0, 3, 5, 35, 36, 37]
    | 1000 => some [0, 3, 5]
    | 1001 => some [0, 3, 5, 35, 36, 37]
    | 2000 => some [4]
    | _ => none
  | 6 => match id with
    | 0 => some [0, 1, 5, 28, 29, 30]
    | 1000 => some [0, 1, 5]
    | 1001 => some [0, 1, 5, 28, 29, 30]
    | 2 => some [0, 1, 5, 8, 9, 28, 29, 30]
    | 1002 => some [0, 1, 5, 28, 29, 30]
    | 1003 => some [0, 1, 5, 8, 9, 28, 29, 30]
    | 1004 => some [0, 1, 5, 8, 9, 28, 29, 30]
    | 2000 => some [6]
    | _ => none
  | 10 => match id with
    | 0 => some [0, 1, 13, 14]
    | 1000 => some []
    | 1001 => some [0, 1, 13, 14]
    | 2 => some [0, 1, 5, 13, 14, 49, 50]
    | 1002 => some [0, 1, 13, 14]
    | 1003 => some [0, 1, 5, 13, 14, 49, 50]
    | 2000 => some [4]
    | _ => none
  | 11 => match id with
    | 0 => some [1, 7, 8, 9]
    | 1000 => some []
    | 1001 => some [1, 7, 8, 9]
    | 2000 => some [4]
    | _ => none
  | 12 => match id with
    | 0 => some [3, 6, 7, 8]
    | 1000 => some [3]
    | 1001 => some [3, 6, 7, 8]
    | 2000 => some [2]
    | _ => none
  | 13 => match id with
    | 0 => some [4, 5]
    | 1000 => some [2, 3]
    | 1001 => some [4, 5]
    | 2000 => some [2, 3]
    | _ => none
  | 14 => match id with
    | 0 => some [4, 10, 11, 12]
    | 1000 => some [4]
    | 1001 => some [4, 10, 11, 12]
    | 2000 => some [2, 3]
    | _ => none
  | 16 => match id with
    | 0 => some [2, 3, 7, 8, 9]
    | 1000 => some [2, 3]
    | 1001 => some [2, 3, 7, 8, 9]
    | 2000 => some [2]
    | _ => none
  | 19 => match id with
    | 0 => some [2, 3, 10, 11, 12]
    | 1000 => some [2, 3]
    | 1001 => some [2, 3, 10, 11, 12]
    | 2 => some [2, 3, 10, 11, 12, 16, 17, 18]
    | 1002 => some [2, 3, 10, 11, 12]
    | 1003 => some [2, 3, 10, 11, 12, 16, 17, 18]
    | 2000 => some [2]
    | _ => none
  | 22 => match id with
    | 0 => some [3, 4]
    | 1000 => some [3]
    | 1001 => some [3, 4]
    | 2000 => some [2]
    | _ => none
  | 23 => match id with
    | 0 => some [3, 4, 13]
    | 1000 => some [3]
    | 1001 => some [3, 4, 13]
    | 1002 => some [3, 4, 13]
    | 2000 => some [2]
    | _ => none
  | 25 => match id with
    | 0 => some [0, 3, 4]
    | 1000 => some [3]
    | 1001 => some [0, 3, 4]
    | 2000 => some [2]
    | _ => none
  | 26 => match id with
    | 0 => some [3, 4, 9, 10, 11]
    | 1000 => some [3]
    | 1001 => some [3, 4, 9, 10, 11]
    | 1002 => some [3, 4, 6, 9, 10, 11]
    | 2000 => some [2]
    | _ => none
  | 27 => match id with
    | 0 => some [0, 1, 12, 13]
    | 1000 => some []
    | 1001 => some [0, 1, 12, 13]
    | 2000 => some [4]
    | _ => none
  | 28 => match id with
    | 0 => some [1, 13, 14, 15]
    | 1000 => some []
    | 1001 => some [1, 13, 14, 15]
    | 2000 => some [4]
    | _ => none
  | 29 => match id with
    | 0 => some [0, 2, 4]
    | 1000 => some [2, 3]
    | 1001 => some [0, 2, 4]
    | 2000 => some [2, 3]
    | _ => none
  | 32 => match id with
    | 0 => some [3, 7, 8, 9]
    | 1000 => some [3]
    | 1001 => some [3, 7, 8, 9]
    | 2000 => some [2]
    | _ => none
  | 33 => match id with
    | 0 => some [0, 2, 4]
    | 1000 => some [2, 3]
    | 1001 => some [0, 2, 4]
    | 2000 => some [2, 3]
    | _ => none
  | 34 => match id with
    | 0 => some [0]
    | 1000 => some [0]
    | 1001 => some [0]
    | 2 => some [0]
    | 1002 => some [0]
    | 1003 => some [0]
    | 2000 => some [2]
    | _ => none
  | 35 => match id with
    | 0 => some [1, 5, 12, 13, 14]
    | 1000 => some [5]
    | 1001 => some [1, 5, 12, 13, 14]
    | 2 => some [1, 5, 12, 13, 14, 25, 26, 27]
    | 1002 => some [1, 5, 12, 13, 14]
    | 1003 => some [1, 5, 12, 13, 14, 25, 26, 27]
    | 4 => some [1, 5, 12, 13, 14, 25, 26, 27, 33, 34, 35]
    | 1004 => some [1, 5, 12, 13, 14, 25, 26, 27]
    | 1005 => some [1, 5, 12, 13, 14, 25, 26, 27, 33, 34, 35]
    | 2000 => some [4]
    | _ => none
  | 36 => match id with
    | 1000 => some [2]
    | 2000 => some [2]
    | _ => none
  | 37 => match id with
    | 0 => some [1, 2, 15, 16, 17]
    | 1000 => some []
    | 1001 => some [1, 2, 15, 16, 17]
    | 2000 => some [6]
    | _ => none
  | 39 => match id with
    | 0 => some [0, 1, 12, 13]
    | 1000 => some []
    | 1001 => some [0, 1, 12, 13]
    | 2000 => some [4]
    | _ => none
  | 40 => match id with
    | 0 => some [1, 2, 15, 16, 17]
    | 1000 => some []
    | 1001 => some [1, 2, 15, 16, 17]
    | 2000 => some [6]
    | _ => none
  | 42 => match id with
    | 0 => some [1, 2, 15, 16, 17]
    | 1000 => some []
    | 1001 => some [1, 2, 15, 16, 17]
    | 2000 => some [6]
    | _ => none
  | 44 => match id with
    | 0 => some [0, 1, 2, 7]
    | 1000 => some [7]
    | 1001 => some [0, 1, 2, 7]
    | 2000 => some [6]
    | _ => none
  | 47 => match id with
    | 0 => some [0, 5, 9]
    | 1000 => some []
    | 1001 => some [0, 5, 9]
    | 2000 => some [4]
    | _ => none
  | 48 => match id with
    | 0 => some [0]
    | 1000 => some []
    | 1001 => some [0]
    | 2000 => some []
    | _ => none
  | 49 => match id with
    | 1000 => some []
    | 2000 => some [2]
    | _ => none
  | 50 => match id with
    | 0 => some [0, 1, 2, 8]
    | 1000 => some [8]
    | 1001 => some [0, 1, 2, 8]
    | 2000 => some [6, 7]
    | _ => none
  | 51 => match id with
    | 0 => some [0, 1, 10, 11, 12]
    | 1000 => some []
    | 1001 => some [0, 1, 10, 11, 12]
    | 2000 => some [6]
    | _ => none
  | 52 => match id with
    | 0 => some [0, 1]
    | 1000 => some [1]
    | 1001 => some [0, 1]
    | 2000 => some [4]
    | _ => none
  | 53 => match id with
    | 1000 => some [1, 4, 6]
    | 2000 => some [4, 5]
    | _ => none
  | 54 => match id with
    | 0 => some [0, 3]
    | 1000 => some [3]
    | 1001 => some [0, 3]
    | 2000 => some [2]
    | _ => none
  | 55 => match id with
    | 0 => some [0, 3]
    | 1000 => some [0, 3]
    | 1001 => some [0, 3]
    | 2000 => some [2]
    | _ => none
  | 56 => match id with
    | 1000 => some [0, 4]
    | 1 => some [0, 4]
    | 1001 => some [2, 3]
    | 1002 => some [0, 4]
    | 2000 => some [2, 3]
    | _ => none
  | 60 => match id with
    | 0 => some [0, 5]
    | 1000 => some [0, 5]
    | 1001 => some [0, 5]
    | 2000 => some [2, 3, 4]
    | _ => none
  | 61 => match id with
    | 1000 => some []
    | 2000 => some [2]
    | _ => none
  | 64 => match id with
    | 1000 => some []
    | 2000 => some [2]
    | _ => none
  | 69 => match id with
    | 0 => some [0, 2, 3, 4]
    | 1000 => some [2, 4]
    | 1001 => some [0, 2, 3, 4]
    | 1002 => some [0, 2, 3, 4]
    | 2000 => some [2]
    | _ => none
  | 74 => match id with
    | 1000 => some [2, 3]
    | 2000 => some [2]
    | _ => none
  | 81 => match id with
    | 1000 => some []
    | 2000 => some [2]
    | _ => none
  | 84 => match id with
    | 0 => some [0, 1]
    | 1000 => some [1]
    | 1001 => some [0, 1]
    | 2000 => some [4]
    | _ => none
  | 85 => match id with
    | 0 => some [0, 1, 4, 6, 7]
    | 1000 => some [4, 5]
    | 1001 => some [0, 1, 4, 6, 7]
    | 1002 => some [0, 1, 4, 6, 7]
    | 2000 => some [4, 5]
    | _ => none
  | 89 => match id with
    | 0 => some [0, 1, 6]
    | 1000 => some [4, 5]
    | 1001 => some [0, 1, 6]
    | 1002 => some [0, 1, 6]
    | 2000 => some [4, 5]
    | _ => none
  | 93 => match id with
    | 1000 => some []
    | 2000 => some [2]
    | _ => none
  | 94 => match id with
    | 1000 => some [0, 4, 5, 6]
    | 1 => some [4, 5, 6, 52, 53, 54]
    | 1001 => some [4, 5, 6]
    | 1002 => some [4, 5, 6, 52, 53, 54]
    | 2000 => some [2, 3]
    | _ => none
  | 95 => match id with
    | 0 => some [3, 8, 9]
    | 1000 => some [3]
    | 1001 => some [3, 8, 9]
    | 2000 => some [2]
    | _ => none
  | 97 => match id with
    | 1000 => some []
    | 2000 => some [2]
    | _ => none
  | 98 => match id with
    | 0 => some [0, 1, 7, 8]
    | 1000 => some []
    | 1001 => some [0, 1, 7, 8]
    | 2000 => some [4]
    | _ => none
  | 99 => match id with
    | 0 => some [3, 8, 9, 10]
    | 1000 => some [3]
    | 1001 => some [3, 8, 9, 10]
    | 2000 => some [2]
    | _ => none
  | 100 => match id with
    | 1000 => some []
    | 2000 => some [2, 3, 4]
    | _ => none
  | 101 => match id with
    | 0 => some [0, 1, 5]
    | 1000 => some [0, 5]
    | 1001 => some [0, 1, 5]
    | 2000 => some [4]
    | _ => none
  | 104 => match id with
    | 0 => some [0, 3, 4]
    | 1000 => some [0, 3, 4]
    | 1001 => some [0, 3, 4]
    | 2000 => some [2]
    | _ => none
  | 107 => match id with
    | 0 => some [0, 3]
    | 1000 => some [2]
    | 1001 => some [0, 3]
    | 1002 => some [0, 3]
    | 2000 => some [2]
    | _ => none
  | 109 => match id with
    | 0 => some [0, 2, 3]
    | 1000 => some [2, 3]
    | 1001 => some [0, 2, 3]
    | 1002 => some [0, 2, 3]
    | 2000 => some [2]
    | _ => none
  | 111 => match id with
    | 0 => some [0, 1, 6, 7]
    | 1000 => some [0, 1, 6]
    | 1001 => some [0, 1, 6, 7]
    | 2000 => some [4, 5]
    | _ => none
  | 115 => match id with
    | 0 => some [0, 1]
    | 1000 => some [1]
    | 1001 => some [0, 1]
    | 2000 => some [4]
    | _ => none
  | 116 => match id with
    | 0 => some [0, 1, 4, 6]
    | 1000 => some [4, 5]
    | 1001 => some [0, 1, 4, 6]
    | 1002 => some [0, 1, 4, 6]
    | 2000 => some [4, 5]
    | _ => none
  | 120 => match id with
    | 1000 => some []
    | 2000 => some [2, 3]
    | _ => none
  | 121 => match id with
    | 0 => some [0, 2, 4, 40, 41, 42]
    | 1000 => some [0, 2, 4]
    | 1001 => some [0, 2, 4, 40, 41, 42]
    | 2000 => some [2, 3]
    | _ => none
  | 122 => match id with
    | 1000 => some []
    | 1001 => some [5, 6]
    | 2000 => some [2, 3]
    | _ => none
  | 125 => match id with
    | 1000 => some []
    | 2000 => some [2]
    | _ => none
  | 126 => match id with
    | 1000 => some []
    | 2000 => some [2]
    | _ => none
  | 128 => match id with
    | 0 => some [0, 2]
    | 1000 => some [2]
    | 1001 => some [0, 2]
    | 2000 => some [2]
    | _ => none
  | 131 => match id with
    | 1000 => some []
    | 2000 => some [2]
    | _ => none
  | 134 => match id with
    | 0 => some [0, 1, 4]
    | 1000 => some [1, 4]
    | 1001 => some [0, 1, 4]
    | 2000 => some [4, 5]
    | _ => none
  | 136 => match id with
    | 0 => some [0, 3]
    | 1000 => some [0, 3]
    | 1001 => some [0, 3]
    | 2 => some [0, 3, 4]
    | 1002 => some [0, 4]
    | 1003 => some [0, 3, 4]
    | 2000 => some [2]
    | _ => none
  | 138 => match id with
    | 1000 => some [1, 6]
    | 2000 => some [4, 5]
    | _ => none
  | 139 => match id with
    | 1000 => some [5]
    | 1 => some [5, 9]
    | 1001 => some [5, 9]
    | 1002 => some [5, 9]
    | 2000 => some [2, 3, 4]
    | _ => none
  | 141 => match id with
    | 1000 => some [4]
    | 2000 => some [4]
    | _ => none
  | 146 => match id with
    | 1000 => some [5]
    | 2000 => some [2, 3, 4]
    | _ => none
  | 147 => match id with
    | 0 => some [4, 8, 9, 10]
    | 1000 => some [4]
    | 1001 => some [4, 8, 9, 10]
    | 1002 => some [4, 8, 9, 10]
    | 3 => some [4]
    | 1003 => some [4]
    | 1004 => some [4]
    | 5 => some [4]
    | 1005 => some [4]
    | 1006 => some [4]
    | 2000 => some [2, 3]
    | _ => none
  | 148 => match id with
    | 0 => some [0, 4, 5, 6]
    | 1000 => some [0, 4, 5]
    | 1001 => some [0, 4, 5, 6]
    | 2000 => some [2, 3]
    | _ => none
  | 150 => match id with
    | 0 => some [4, 5, 11, 12, 13]
    | 1000 => some [4]
    | 1001 => some [4, 5, 11, 12, 13]
    | 1002 => some [4, 5, 9, 11, 12, 13]
    | 2000 => some [2, 3]
    | _ => none
  | 152 => match id with
    | 0 => some [0, 5, 21]
    | 1000 => some [0, 5]
    | 1001 => some [0, 5, 21]
    | 2000 => some [2, 3]
    | _ => none
  | 161 => match id with
    | 0 => some [0, 1]
    | 1000 => some [0]
    | 1001 => some [0, 1]
    | 2000 => some [4]
    | _ => none
  | 162 => match id with
    | 0 => some [0, 1]
    | 1000 => some [0]
    | 1001 => some [0, 1]
    | 2000 => some [4]
    | _ => none
  | 163 => match id with
    | 0 => some [0, 2, 4]
    | 1000 => some [2]
    | 1001 => some [0, 2, 4]
    | 2000 => some [2, 3]
    | _ => none
  | 164 => match id with
    | 0 => some [0, 1]
    | 1000 => some [0]
    | 1001 => some [0, 1]
    | 2000 => some [4]
    | _ => none
  | 165 => match id with
    | 0 => some [0, 1]
    | 1000 => some [0]
    | 1001 => some [0, 1]
    | 2000 => some [4]
    | _ => none
  | 166 => match id with
    | 0 => some [0, 1]
    | 1000 => some [0]
    | 1001 => some [0, 1]
    | 2000 => some [4]
    | _ => none
  | 167 => match id with
    | 0 => some [0, 1]
    | 1000 => some [0]
    | 1001 => some [0, 1]
    | 2000 => some [4]
    | _ => none
  | 168 => match id with
    | 1000 => some [0, 1, 5]
    | 1 => some [0, 1, 5, 6, 7, 8, 9, 10]
    | 1001 => some []
    | 1002 => some [0, 1, 5, 6, 7, 8, 9, 10]
    | 2000 => some [4]
    | _ => none
  | 173 => match id with
    | 0 => some [0, 4, 5, 6]
    | 1000 => some [0, 4, 5]
    | 1001 => some [0, 4, 5, 6]
    | 2000 => some [2, 3]
    | _ => none
  | 176 => match id with
    | 0 => some [0, 1, 5, 6, 7, 8, 9]
    | 1000 => some [0, 1, 5, 6, 7, 8]
    | 1001 => some [0, 1, 5, 6, 7, 8, 9]
    | 2 => some [0, 1, 5, 6, 7, 8, 10]
    | 1002 => some []
    | 1003 => some [0, 1, 5, 6, 7, 8, 10]
    | 2000 => some [4]
    | _ => none
  | 179 => match id with
    | 1000 => some [4]
    | 9 => some [175]
    | 1009 => some []
    | 1010 => some [175]
    | 1 => some [0, 7, 8, 9]
    | 1001 => some []
    | 1002 => some [0, 7, 8, 9]
    | 3 => some [0, 7, 8, 9, 12]
    | 1003 => some [8, 9]
    | 1004 => some [0, 7, 8, 9, 12]
    | 5 => some [0, 7, 8, 9, 14, 15]
    | 1005 => some []
    | 1006 => some [0, 7, 8, 9, 14, 15]
    | 7 => some [0, 7, 8, 9, 14, 15, 16]
    | 1007 => some [8, 9]
    | 1008 => some [0, 7, 8, 9, 14, 15, 16]
    | 2000 => some [4]
    | _ => none
  | 181 => match id with
    | 0 => some [0, 4, 5]
    | 1000 => some [0, 4]
    | 1001 => some [0, 4, 5]
    | 2 => some [4, 6, 7, 8]
    | 1002 => some [4, 6]
    | 1003 => some [4, 6, 7, 8]
    | 2000 => some [2, 3]
    | _ => none
  | _ => none
noncomputable def door : Cfg := { P := Go.Proofs.Tryz.prog, ty := tyT, glob := globT, bld := fun _ => false, wr := wrT, own := ownT, keep := ownT, frz := fun _ => false, hints := hintT, rows := fun _ _ => [], leaf := leafT }
theorem door_mixed : door.P.follows .mixedOrders = true := by kernel_rfl
theorem leafNoEscape_sound {C : Cfg} {f : FuncId} {fn : Func} (hf : C.P.funcs[f]? = some fn) (hname : (fn.name == "runtime.NumGoroutine") = false) (hb : fn.body.isNone = true) (hn : Extern.findNext fn = none)
    (he : Extern.find fn = some Extern.AbiNoEscape.same) (args : List AV) (fr : List Res) (res : AV × List Res) (h : leafNoEscape args fr = some res) : CallSound C f args fr res := by
  unfold leafNoEscape at h
  split at h
  · obtain ⟨h1, h2⟩ := bif_some h
    cases h2
    exact leaf_noEscape hf hname hb hn he _ (Nat.le_of_ble_eq_true h1)
  · cases h
theorem leafIndexByte_sound {C : Cfg} {f : FuncId} {fn : Func} (hf : C.P.funcs[f]? = some fn) (hname : (fn.name == "runtime.NumGoroutine") = false) (hb : fn.body.isNone = true) (hn : Extern.findNext fn = none)
    (he : Extern.find fn = some Extern.BytealgIndexByte.indexByte) (args : List AV) (fr : List Res) (res : AV × List Res) (h : leafIndexByte args fr = some res) : CallSound C f args fr res := by
  unfold leafIndexByte at h
  split at h
  · cases h
    exact leaf_indexByte hf hname hb hn he _ _
  · cases h
theorem sound140 : ∀ args fr res, leafNoEscape args fr = some res → CallSound door 140 args fr res :=
  leafNoEscape_sound (C := door) (f := 140) (fn := Tryz.f140) (by exact Tryz.func140) (by kernel_rfl) (by kernel_rfl) (by kernel_rfl) (by kernel_rfl)
theorem sound143 : ∀ args fr res, leafIndexByte args fr = some res → CallSound door 143 args fr res :=
  leafIndexByte_sound (C := door) (f := 143) (fn := Tryz.f143) (by exact Tryz.func143) (by kernel_rfl) (by kernel_rfl) (by kernel_rfl) (by kernel_rfl)
theorem door_leaf : ∀ f F args fr res, door.leaf f = some F → F args fr = some res → CallSound door f args fr res := by
  intro f F args fr res h1 h2
  simp only [door, leafT] at h1
  cases h140 : Nat.beq f 140 with
  | true =>
    rw [h140] at h1; cases h1
    obtain rfl := Nat.eq_of_beq_eq_true h140
    exact sound140 args fr res h2
  | false =>
    rw [h140] at h1
    cases h143 : Nat.beq f 143 with
    | true =>
      rw [h143] at h1; cases h1
      obtain rfl := Nat.eq_of_beq_eq_true h143
      exact sound143 args fr res h2
    | false => rw [h143] at h1; cases h1
end Go.Proofs.Ev
namespace Go.Proofs.Ev.Md
open Go
def less (x y : Spec) : Bool := bif x.a != y.a then decide (x.a < y.a) else bif x.b != y.b then decide (x.b < y.b) else decide (x.c < y.c)
def w64 (n : Int) : Int := IntKind.i64.wrap n
def cap1 (n : Int) : Int := if 65535 < n then 65535 else n
def plus (x y : Spec) : Spec := ⟨cap1 (IntKind.i64.wrap (x.a + y.a)), cap1 (IntKind.i64.wrap (x.b + y.b)), cap1 (IntKind.i64.wrap (x.c + y.c))⟩
def isB (k : Int) : Bool := k == 2 || k == 4 || k == 8 || k == 9 || k == 10 || k == 11
mutual
def wgt : Simple → Spec
  | ⟨k, n, _, _, _, _, l⟩ => bif k == 3 then ⟨1, 0, 0⟩ else bif k == 1 then (bif !n.toList == (ByteArray.mk #[42]).toList then ⟨0, 0, 1⟩ else ⟨0, 0, 0⟩) else bif k == 5 || k == 6 then mostL ⟨0, 0, 0⟩ l else bif isB k then ⟨0, 1, 0⟩ else ⟨0, 0, 0⟩
def mostL (m : Spec) : List (List (List Simple) × List Int) → Spec
  | [] => m
  | c :: l => mostL (bif less m (ofC c) then ofC c else m) l
def ofC : List (List Simple) × List Int → Spec
  | (p, _) => ofPs ⟨0, 0, 0⟩ p
def ofPs (m : Spec) : List (List Simple) → Spec
  | [] => m
  | p :: l => ofPs (ofP m p) l
def ofP (m : Spec) : List Simple → Spec
  | [] => m
  | s :: l => ofP (plus m (wgt s)) l
end
end Go.Proofs.Ev.Md
namespace Go.Proofs.Ev
open Go Md
set_option linter.unusedVariables false
set_option maxRecDepth 100000
abbrev aI (n : Int) : AV := .v (.int .i64 n)
abbrev aS (x : Spec) : AV := .agg [aI x.a, aI x.b, aI x.c]
abbrev aSim (x : Simple) : AV := .agg [aI x.kind, .v (.string x.name), aI x.op, .v (.string x.value), aI x.a, aI x.b, .d ⟨.rows .cx, x.list⟩]
abbrev aCx (c : Cx) : AV := .agg [.d ⟨.rows (.rows .simple), c.1⟩, .d ⟨.rows (.int .i64), c.2⟩]
abbrev bS (x : Spec) : Res := .box 43 [aI x.a, aI x.b, aI x.c]
abbrev hd19_2 (P : List (List Simple)) (i : Int) (p : List Simple) (j : Int) (m : Spec) : AS :=
  { s := [(2, .ptr 0 0), (3, .ptr 1 0), (10, .d ⟨.rows (.rows .simple), P⟩), (11, aI P.length), (12, aI i), (16, .d ⟨.rows .simple, p⟩), (17, aI p.length), (18, aI j)], t := [(0, bS ⟨0, 0, 0⟩), (1, bS m)], m := 19, n := 48 }
abbrev hd19_0 (P : List (List Simple)) (i : Int) (m : Spec) : AS :=
  { s := [(2, .ptr 0 0), (3, .ptr 1 0), (10, .d ⟨.rows (.rows .simple), P⟩), (11, aI P.length), (12, aI i)], t := [(0, bS ⟨0, 0, 0⟩), (1, bS m)], m := 19, n := 48 }
abbrev ex19_0 (m : Spec) : AS := { s := [(2, .ptr 0 0), (3, .ptr 1 0)], t := [(0, bS ⟨0, 0, 0⟩), (1, bS m)], m := 19, n := 48 }
abbrev hd16_0 (l : List Cx) (i : Int) (m : Spec) : AS :=
  { s := [(2, .ptr 0 0), (3, .ptr 1 0), (7, .d ⟨.rows .cx, l⟩), (8, aI l.length), (9, aI i)], t := [(0, bS ⟨0, 0, 0⟩), (1, bS m)], m := 16, n := 21 }
abbrev ex16_0 (m : Spec) : AS := { s := [(2, .ptr 0 0), (3, .ptr 1 0)], t := [(0, bS ⟨0, 0, 0⟩), (1, bS m)], m := 16, n := 21 }
def tS : Tab := fun f a r => match f, a, r with
  | 16, [.d ⟨.rows .cx, l⟩], [] => some (aS (mostL ⟨0, 0, 0⟩ l), [])
  | 18, [.agg [.v (.int .i64 a), .v (.int .i64 b), .v (.int .i64 c)], .agg [.v (.int .i64 a'), .v (.int .i64 b'), .v (.int .i64 c')]], [] => some (.v (.bool (less ⟨a, b, c⟩ ⟨a', b', c'⟩)), [])
  | 19, [.agg [.d ⟨.rows (.rows .simple), p⟩, .d ⟨.rows (.int .i64), q⟩]], [] => some (aS (ofC (p, q)), [])
  | 36, [.agg [.v (.int .i64 k), .v (.string n), .v (.int .i64 o), .v (.string v), .v (.int .i64 a), .v (.int .i64 b), .d ⟨.rows .cx, l⟩]], [] => some (aS (wgt ⟨k, n, o, v, a, b, l⟩), [])
  | _, _, _ => none
def lS : LTab := fun f id st => match f, id, st with
  | 16, 0, ⟨[_, _, (_, .d ⟨.rows .cx, l⟩), _, _], [_, (_, .box _ [.v (.int .i64 a), .v (.int .i64 b), .v (.int .i64 c)])], _, _⟩ => some (.exit 0, ex16_0 (mostL ⟨a, b, c⟩ l))
  | 19, 0, ⟨[_, _, (_, .d ⟨.rows (.rows .simple), P⟩), _, _], [_, (_, .box _ [.v (.int .i64 a), .v (.int .i64 b), .v (.int .i64 c)])], _, _⟩ => some (.exit 0, ex19_0 (ofPs ⟨a, b, c⟩ P))
  | 19, 2, ⟨[_, _, (_, .d ⟨.rows (.rows .simple), P⟩), _, (_, .v (.int .i64 i)), (_, .d ⟨.rows .simple, p⟩), _, _], [_, (_, .box _ [.v (.int .i64 a), .v (.int .i64 b), .v (.int .i64 c)])], _, _⟩ => some (.exit 2, hd19_0 P i (ofP ⟨a, b, c⟩ p))
  | _, _, _ => none
abbrev GT := FuncId → List AV → List Res → Bool
abbrev HT := FuncId → Nat → AS → Bool
end Go.Proofs.Ev
