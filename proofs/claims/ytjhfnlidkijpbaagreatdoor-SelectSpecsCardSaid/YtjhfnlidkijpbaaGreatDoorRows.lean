/-
  NARROWER THAN 'FOR EVERY INPUT', by the rows' own cells (each row's printed sentence says how): SelectTexts: laid · SelectParses: loops, laid · SelectSpecs: loops, laid · SelectJoins: laid.
  DERIVED. THE GIVEN ROWS OF THIS SEAT. 4 by the template 'for every input the law returns true; each argument reads behind the call as it read before'; 0 by the template 'total and deterministic' (their statements: YtjhfnlidkijpbaaGreatDoorTotals.lean).
  GIVEN WITH THE SEED: the statements are not yours to turn. If you find one false, say at which input.
  Laid BY PROGRAM, IN A SANDBOX (cutbox-rows.mjs): the forced cells as the released guide's own fill.sh prints them over the translation 3918980a1ce9da01… (all of the seat's roots in one cut). By AI agents, Wed Nov 11 2026. No macro, syntax, notation, axiom, sorry.
-/
import Derived.Test.YtjhfnlidkijpbaaGreatDoorChecked
import GoSem.PinnedTables
import GoSem.Claim
import GoSem.ClaimJoined
import GoSem.ClaimMapViews
import Derived.JoinedTies
import Derived.KernelRfl
namespace Go.Proofs.YtjhfnlidkijpbaaGreatDoor
/- THE CELL 'sum', in the pinned program and in every row, IS THE sha256 OF THE DUMP (.gsa) THAT YtjhfnlidkijpbaaGreatDoorProg.lean LOADS. Nothing in Lean hashes anything: it is a label: what it is worth is what the hold of that sum in a sandbox is worth. -/
noncomputable def Tryz.pinned : Pinned := { name := "ytjhfnlidkijpbaagreatdoor", sum := "3918980a1ce9da018e65e611b3797929a50377f1899286126660e4369216e288", checked := Tryz.checked }
namespace Rows
def none {H : Type} : Left H := { results := [], args := [] }

/- WHAT THE LISTED PACKAGE-LEVEL VARIABLES READ AS WHEN THE CALL BEGINS. Each datum BY PROGRAM (the guide's laid-datum.mjs) off the statement by which the dump's own 'gosem.cut.vars' lays the variable. In a bare row this is a premise. The card (YtjhfnlidkijpbaaGreatDoorCards.lean) ties it to the program's text. -/
def laid_unicode_utf8_acceptRanges {H : Type} : DataW H := .agg [.agg [.lit (.int .u8 128), .lit (.int .u8 191)], .agg [.lit (.int .u8 160), .lit (.int .u8 191)], .agg [.lit (.int .u8 128), .lit (.int .u8 159)], .agg [.lit (.int .u8 144), .lit (.int .u8 191)], .agg [.lit (.int .u8 128), .lit (.int .u8 143)], .agg [.lit (.int .u8 0), .lit (.int .u8 0)], .agg [.lit (.int .u8 0), .lit (.int .u8 0)], .agg [.lit (.int .u8 0), .lit (.int .u8 0)], .agg [.lit (.int .u8 0), .lit (.int .u8 0)], .agg [.lit (.int .u8 0), .lit (.int .u8 0)], .agg [.lit (.int .u8 0), .lit (.int .u8 0)], .agg [.lit (.int .u8 0), .lit (.int .u8 0)], .agg [.lit (.int .u8 0), .lit (.int .u8 0)], .agg [.lit (.int .u8 0), .lit (.int .u8 0)], .agg [.lit (.int .u8 0), .lit (.int .u8 0)], .agg [.lit (.int .u8 0), .lit (.int .u8 0)]]
def laid_gouache_selector_combs {H : Type} : DataW H := .agg [.lit (.string []), .lit (.string [32]), .lit (.string [62]), .lit (.string [43]), .lit (.string [126])]
def laid_gouache_selector_ops {H : Type} : DataW H := .agg [.lit (.string []), .lit (.string [61]), .lit (.string [126, 61]), .lit (.string [124, 61]), .lit (.string [94, 61]), .lit (.string [36, 61]), .lit (.string [42, 61])]
/-- One of Go's own tables, pinned by name: the form's constant. -/
def laid_unicode_utf8_first : DataW Unit := Go.Pinned.utf8First

/-- 'gouachelaw05.SelectTexts': WHATEVER THE INPUT: true; the input reads as it did. -/
def selectTextsSpec : ChangeSpec := { name := "selectTexts", fn := fun _ => fun
  | [d] => { results := [.lit (.bool true)], args := [d] }
  | _ => none }
def selectTextsRow : OpenClaim := { program := "ytjhfnlidkijpbaagreatdoor", sum := "3918980a1ce9da018e65e611b3797929a50377f1899286126660e4369216e288", func := "gouache/gouachelaw05.SelectTexts", spec := "selectTexts", inPlace := ["internal/abi.NoEscape", "internal/bytealg.IndexByteString", "internal/bytealg.IndexString"], unfollowed := true, recurses := true, named := ["gouache/selector.ops", "unicode/utf8.first", "unicode/utf8.acceptRanges", "internal/bytealg.MaxLen", "gouache/selector.combs"], apart := false, laid := [("unicode/utf8.acceptRanges", laid_unicode_utf8_acceptRanges), ("gouache/selector.combs", laid_gouache_selector_combs), ("gouache/selector.ops", laid_gouache_selector_ops), ("unicode/utf8.first", laid_unicode_utf8_first)] }
def SelectTextsSaid : Prop := selectTextsRow.holds Tryz.pinned (OpenSpec.ofChange selectTextsSpec)

/-- ITS FALSE NEIGHBOUR: 'it returns false'. Refute it at one input. -/
def selectTextsWrong : ChangeSpec := { name := "selectTexts", fn := fun _ => fun
  | [d] => { results := [.lit (.bool false)], args := [d] }
  | _ => none }
def SelectTextsWrongFalsely : Prop := selectTextsRow.holds Tryz.pinned (OpenSpec.ofChange selectTextsWrong)

/-- 'gouachelaw05.SelectParses': WHATEVER THE INPUT: true; the input reads as it did. -/
def selectParsesSpec : ChangeSpec := { name := "selectParses", fn := fun _ => fun
  | [d] => { results := [.lit (.bool true)], args := [d] }
  | _ => none }
def selectParsesRow : OpenClaim := { program := "ytjhfnlidkijpbaagreatdoor", sum := "3918980a1ce9da018e65e611b3797929a50377f1899286126660e4369216e288", func := "gouache/gouachelaw05.SelectParses", spec := "selectParses", inPlace := ["internal/abi.NoEscape", "internal/bytealg.IndexByteString", "internal/bytealg.IndexString"], unfollowed := true, recurses := true, named := ["gouache/selector.ops", "unicode/utf8.first", "unicode/utf8.acceptRanges", "internal/bytealg.MaxLen", "gouache/selector.combs"], loops := true, apart := false, laid := [("unicode/utf8.acceptRanges", laid_unicode_utf8_acceptRanges), ("gouache/selector.combs", laid_gouache_selector_combs), ("gouache/selector.ops", laid_gouache_selector_ops), ("unicode/utf8.first", laid_unicode_utf8_first)] }
def SelectParsesSaid : Prop := selectParsesRow.holds Tryz.pinned (OpenSpec.ofChange selectParsesSpec)

/-- ITS FALSE NEIGHBOUR: 'it returns false'. Refute it at one input. -/
def selectParsesWrong : ChangeSpec := { name := "selectParses", fn := fun _ => fun
  | [d] => { results := [.lit (.bool false)], args := [d] }
  | _ => none }
def SelectParsesWrongFalsely : Prop := selectParsesRow.holds Tryz.pinned (OpenSpec.ofChange selectParsesWrong)

/-- 'gouachelaw05.SelectSpecs': WHATEVER THE INPUT: true; the input reads as it did. -/
def selectSpecsSpec : ChangeSpec := { name := "selectSpecs", fn := fun _ => fun
  | [d1, d2] => { results := [.lit (.bool true)], args := [d1, d2] }
  | _ => none }
def selectSpecsRow : OpenClaim := { program := "ytjhfnlidkijpbaagreatdoor", sum := "3918980a1ce9da018e65e611b3797929a50377f1899286126660e4369216e288", func := "gouache/gouachelaw05.SelectSpecs", spec := "selectSpecs", inPlace := ["internal/abi.NoEscape", "internal/bytealg.IndexByteString", "internal/bytealg.IndexString"], unfollowed := true, recurses := true, named := ["gouache/selector.ops", "unicode/utf8.first", "unicode/utf8.acceptRanges", "internal/bytealg.MaxLen", "gouache/selector.combs"], loops := true, apart := false, laid := [("unicode/utf8.acceptRanges", laid_unicode_utf8_acceptRanges), ("gouache/selector.combs", laid_gouache_selector_combs), ("gouache/selector.ops", laid_gouache_selector_ops), ("unicode/utf8.first", laid_unicode_utf8_first)] }
def SelectSpecsSaid : Prop := selectSpecsRow.holds Tryz.pinned (OpenSpec.ofChange selectSpecsSpec)

/-- ITS FALSE NEIGHBOUR: 'it returns false'. Refute it at one input. -/
def selectSpecsWrong : ChangeSpec := { name := "selectSpecs", fn := fun _ => fun
  | [d1, d2] => { results := [.lit (.bool false)], args := [d1, d2] }
  | _ => none }
def SelectSpecsWrongFalsely : Prop := selectSpecsRow.holds Tryz.pinned (OpenSpec.ofChange selectSpecsWrong)

/-- 'gouachelaw05.SelectJoins': WHATEVER THE INPUT: true; the input reads as it did. -/
def selectJoinsSpec : ChangeSpec := { name := "selectJoins", fn := fun _ => fun
  | [d1, d2, d3] => { results := [.lit (.bool true)], args := [d1, d2, d3] }
  | _ => none }
def selectJoinsRow : OpenClaim := { program := "ytjhfnlidkijpbaagreatdoor", sum := "3918980a1ce9da018e65e611b3797929a50377f1899286126660e4369216e288", func := "gouache/gouachelaw05.SelectJoins", spec := "selectJoins", inPlace := ["internal/abi.NoEscape", "internal/bytealg.IndexByteString", "internal/bytealg.IndexString"], unfollowed := true, recurses := true, named := ["gouache/selector.ops", "unicode/utf8.first", "unicode/utf8.acceptRanges", "internal/bytealg.MaxLen", "gouache/selector.combs"], apart := false, laid := [("unicode/utf8.acceptRanges", laid_unicode_utf8_acceptRanges), ("gouache/selector.combs", laid_gouache_selector_combs), ("gouache/selector.ops", laid_gouache_selector_ops), ("unicode/utf8.first", laid_unicode_utf8_first)] }
def SelectJoinsSaid : Prop := selectJoinsRow.holds Tryz.pinned (OpenSpec.ofChange selectJoinsSpec)

/-- ITS FALSE NEIGHBOUR: 'it returns false'. Refute it at one input. -/
def selectJoinsWrong : ChangeSpec := { name := "selectJoins", fn := fun _ => fun
  | [d1, d2, d3] => { results := [.lit (.bool false)], args := [d1, d2, d3] }
  | _ => none }
def SelectJoinsWrongFalsely : Prop := selectJoinsRow.holds Tryz.pinned (OpenSpec.ofChange selectJoinsWrong)

/- THE SECOND FORM. 'bulk': how many values and letters a reading holds, each counted each time it is reached (what is shared counts as often as it is met; a slice's spare places count too). A statement '..UptoSaid' is the law's where the arguments, and the package variables that the reading takes, are together of bulk at most 1048576: NARROWER than '..Said'. Prove '..Said' where nothing that the law and all that it calls make is longer than what came in: it says more and counts as full. Else prove '..UptoSaid'. A law counts once. -/
mutual
def uptoBulk {H : Type} : DataW H → Nat
  | .lit (.string bytes) => bytes.length + 1
  | .lit _ => 1
  | .nil => 1
  | .ptr d => uptoBulk d + 1
  | .slice elems spare => uptoBulkAll elems + uptoBulkAll spare + 1
  | .agg parts => uptoBulkAll parts + 1
  | .iface _ d => uptoBulk d + 1
  | .map entries => uptoBulkEntries entries + 1
  | .held _ => 1
def uptoBulkAll {H : Type} : List (DataW H) → Nat
  | [] => 0
  | d :: r => uptoBulk d + uptoBulkAll r
def uptoBulkEntries {H : Type} : List (Lit × DataW H) → Nat
  | [] => 0
  | x :: r => uptoBulkEntry x + uptoBulkEntries r
def uptoBulkEntry {H : Type} : Lit × DataW H → Nat
  | (.string bytes, d) => bytes.length + uptoBulk d + 1
  | (_, d) => uptoBulk d + 1
 end
def uptoSmall : (H : Type) → List (DataW H) → Bool := fun _ ds => decide (uptoBulkAll ds ≤ 1048576)
def OpenSpec.upto (s : _root_.Go.ChangeSpec) : _root_.Go.OpenSpec := { _root_.Go.OpenSpec.ofChange s with cond := some uptoSmall }

/-- 'gouachelaw05.SelectTexts', WHERE WHAT IT READS IS OF BULK AT MOST 1048576: true; the input reads as it did. -/
def selectTextsUptoRow : OpenClaim := { program := "ytjhfnlidkijpbaagreatdoor", sum := "3918980a1ce9da018e65e611b3797929a50377f1899286126660e4369216e288", func := "gouache/gouachelaw05.SelectTexts", spec := "selectTexts", inPlace := ["internal/abi.NoEscape", "internal/bytealg.IndexByteString", "internal/bytealg.IndexString"], unfollowed := true, recurses := true, named := ["gouache/selector.ops", "unicode/utf8.first", "unicode/utf8.acceptRanges", "internal/bytealg.MaxLen", "gouache/selector.combs"], apart := false, laid := [("unicode/utf8.acceptRanges", laid_unicode_utf8_acceptRanges), ("gouache/selector.combs", laid_gouache_selector_combs), ("gouache/selector.ops", laid_gouache_selector_ops), ("unicode/utf8.first", laid_unicode_utf8_first)], narrowed := true }
def SelectTextsUptoSaid : Prop := selectTextsUptoRow.holds Tryz.pinned (OpenSpec.upto selectTextsSpec)

/-- 'gouachelaw05.SelectParses', WHERE WHAT IT READS IS OF BULK AT MOST 1048576: true; the input reads as it did. -/
def selectParsesUptoRow : OpenClaim := { program := "ytjhfnlidkijpbaagreatdoor", sum := "3918980a1ce9da018e65e611b3797929a50377f1899286126660e4369216e288", func := "gouache/gouachelaw05.SelectParses", spec := "selectParses", inPlace := ["internal/abi.NoEscape", "internal/bytealg.IndexByteString", "internal/bytealg.IndexString"], unfollowed := true, recurses := true, named := ["gouache/selector.ops", "unicode/utf8.first", "unicode/utf8.acceptRanges", "internal/bytealg.MaxLen", "gouache/selector.combs"], loops := true, apart := false, laid := [("unicode/utf8.acceptRanges", laid_unicode_utf8_acceptRanges), ("gouache/selector.combs", laid_gouache_selector_combs), ("gouache/selector.ops", laid_gouache_selector_ops), ("unicode/utf8.first", laid_unicode_utf8_first)], narrowed := true }
def SelectParsesUptoSaid : Prop := selectParsesUptoRow.holds Tryz.pinned (OpenSpec.upto selectParsesSpec)

/-- 'gouachelaw05.SelectSpecs', WHERE WHAT IT READS IS OF BULK AT MOST 1048576: true; the input reads as it did. -/
def selectSpecsUptoRow : OpenClaim := { program := "ytjhfnlidkijpbaagreatdoor", sum := "3918980a1ce9da018e65e611b3797929a50377f1899286126660e4369216e288", func := "gouache/gouachelaw05.SelectSpecs", spec := "selectSpecs", inPlace := ["internal/abi.NoEscape", "internal/bytealg.IndexByteString", "internal/bytealg.IndexString"], unfollowed := true, recurses := true, named := ["gouache/selector.ops", "unicode/utf8.first", "unicode/utf8.acceptRanges", "internal/bytealg.MaxLen", "gouache/selector.combs"], loops := true, apart := false, laid := [("unicode/utf8.acceptRanges", laid_unicode_utf8_acceptRanges), ("gouache/selector.combs", laid_gouache_selector_combs), ("gouache/selector.ops", laid_gouache_selector_ops), ("unicode/utf8.first", laid_unicode_utf8_first)], narrowed := true }
def SelectSpecsUptoSaid : Prop := selectSpecsUptoRow.holds Tryz.pinned (OpenSpec.upto selectSpecsSpec)

/-- 'gouachelaw05.SelectJoins', WHERE WHAT IT READS IS OF BULK AT MOST 1048576: true; the input reads as it did. -/
def selectJoinsUptoRow : OpenClaim := { program := "ytjhfnlidkijpbaagreatdoor", sum := "3918980a1ce9da018e65e611b3797929a50377f1899286126660e4369216e288", func := "gouache/gouachelaw05.SelectJoins", spec := "selectJoins", inPlace := ["internal/abi.NoEscape", "internal/bytealg.IndexByteString", "internal/bytealg.IndexString"], unfollowed := true, recurses := true, named := ["gouache/selector.ops", "unicode/utf8.first", "unicode/utf8.acceptRanges", "internal/bytealg.MaxLen", "gouache/selector.combs"], apart := false, laid := [("unicode/utf8.acceptRanges", laid_unicode_utf8_acceptRanges), ("gouache/selector.combs", laid_gouache_selector_combs), ("gouache/selector.ops", laid_gouache_selector_ops), ("unicode/utf8.first", laid_unicode_utf8_first)], narrowed := true }
def SelectJoinsUptoSaid : Prop := selectJoinsUptoRow.holds Tryz.pinned (OpenSpec.upto selectJoinsSpec)

end Rows
end Go.Proofs.YtjhfnlidkijpbaaGreatDoor
