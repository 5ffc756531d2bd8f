/-
  NARROWER THAN 'FOR EVERY INPUT', by the rows' own cells (each row's printed sentence says how): SheetReads: laid · SheetOne: laid · SheetMany: laid · SheetActs: laid · SheetKeeps: laid · SheetNone: laid.
  DERIVED. THE GIVEN ROWS OF THIS SEAT. 6 by the template 'for every input the law returns true; each argument reads behind the call as it read before'; 0 by the template 'total and deterministic' (their statements: YtadhiimkcdnfkaaGreatDoorTotals.lean).
  GIVEN WITH THE SEED: the statements are not yours to turn. If you find one false, say at which input.
  Laid BY PROGRAM, IN A SANDBOX (cutbox-rows.mjs): the forced cells as the released guide's own fill.sh prints them over the translation 6d53830ef1a5e2c0… (all of the seat's roots in one cut). By AI agents, Wed Nov 11 2026. No macro, syntax, notation, axiom, sorry.
-/
import Derived.Test.YtadhiimkcdnfkaaGreatDoorChecked
import GoSem.PinnedTables
import GoSem.Claim
import GoSem.ClaimJoined
import GoSem.ClaimMapViews
import Derived.JoinedTies
import Derived.KernelRfl
namespace Go.Proofs.YtadhiimkcdnfkaaGreatDoor
/- THE CELL 'sum', in the pinned program and in every row, IS THE sha256 OF THE DUMP (.gsa) THAT YtadhiimkcdnfkaaGreatDoorProg.lean LOADS. Nothing in Lean hashes anything: it is a label: what it is worth is what the hold of that sum in a sandbox is worth. -/
noncomputable def Tryz.pinned : Pinned := { name := "ytadhiimkcdnfkaagreatdoor", sum := "6d53830ef1a5e2c04d265f1c43840fefd2bebdca8b37816306c104ac692f9ba9", checked := Tryz.checked }
namespace Rows
def none {H : Type} : Left H := { results := [], args := [] }

/- WHAT THE LISTED PACKAGE-LEVEL VARIABLES READ AS WHEN THE CALL BEGINS. Each datum BY PROGRAM (the guide's laid-datum.mjs) off the statement by which the dump's own 'gosem.cut.vars' lays the variable. In a bare row this is a premise. The card (YtadhiimkcdnfkaaGreatDoorCards.lean) ties it to the program's text. -/
def laid_unicode_utf8_acceptRanges {H : Type} : DataW H := .agg [.agg [.lit (.int .u8 128), .lit (.int .u8 191)], .agg [.lit (.int .u8 160), .lit (.int .u8 191)], .agg [.lit (.int .u8 128), .lit (.int .u8 159)], .agg [.lit (.int .u8 144), .lit (.int .u8 191)], .agg [.lit (.int .u8 128), .lit (.int .u8 143)], .agg [.lit (.int .u8 0), .lit (.int .u8 0)], .agg [.lit (.int .u8 0), .lit (.int .u8 0)], .agg [.lit (.int .u8 0), .lit (.int .u8 0)], .agg [.lit (.int .u8 0), .lit (.int .u8 0)], .agg [.lit (.int .u8 0), .lit (.int .u8 0)], .agg [.lit (.int .u8 0), .lit (.int .u8 0)], .agg [.lit (.int .u8 0), .lit (.int .u8 0)], .agg [.lit (.int .u8 0), .lit (.int .u8 0)], .agg [.lit (.int .u8 0), .lit (.int .u8 0)], .agg [.lit (.int .u8 0), .lit (.int .u8 0)], .agg [.lit (.int .u8 0), .lit (.int .u8 0)]]
def laid_gouache_selector_combs {H : Type} : DataW H := .agg [.lit (.string []), .lit (.string [32]), .lit (.string [62]), .lit (.string [43]), .lit (.string [126])]
def laid_gouache_selector_ops {H : Type} : DataW H := .agg [.lit (.string []), .lit (.string [61]), .lit (.string [126, 61]), .lit (.string [124, 61]), .lit (.string [94, 61]), .lit (.string [36, 61]), .lit (.string [42, 61])]
/-- One of Go's own tables, pinned by name: the form's constant. -/
def laid_unicode_utf8_first : DataW Unit := Go.Pinned.utf8First

/-- 'gouachelaw11.SheetReads': WHATEVER THE INPUT: true; the input reads as it did. -/
def sheetReadsSpec : ChangeSpec := { name := "sheetReads", fn := fun _ => fun
  | [d] => { results := [.lit (.bool true)], args := [d] }
  | _ => none }
def sheetReadsRow : OpenClaim := { program := "ytadhiimkcdnfkaagreatdoor", sum := "6d53830ef1a5e2c04d265f1c43840fefd2bebdca8b37816306c104ac692f9ba9", func := "gouache/gouachelaw11.SheetReads", spec := "sheetReads", inPlace := ["internal/abi.NoEscape", "internal/bytealg.IndexByteString", "internal/bytealg.IndexString"], unfollowed := true, recurses := true, named := ["gouache/selector.ops", "unicode/utf8.first", "unicode/utf8.acceptRanges", "internal/bytealg.MaxLen", "gouache/selector.combs"], apart := false, laid := [("unicode/utf8.acceptRanges", laid_unicode_utf8_acceptRanges), ("gouache/selector.combs", laid_gouache_selector_combs), ("gouache/selector.ops", laid_gouache_selector_ops), ("unicode/utf8.first", laid_unicode_utf8_first)] }
def SheetReadsSaid : Prop := sheetReadsRow.holds Tryz.pinned (OpenSpec.ofChange sheetReadsSpec)

/-- ITS FALSE NEIGHBOUR: 'it returns false'. Refute it at one input. -/
def sheetReadsWrong : ChangeSpec := { name := "sheetReads", fn := fun _ => fun
  | [d] => { results := [.lit (.bool false)], args := [d] }
  | _ => none }
def SheetReadsWrongFalsely : Prop := sheetReadsRow.holds Tryz.pinned (OpenSpec.ofChange sheetReadsWrong)

/-- 'gouachelaw11.SheetOne': WHATEVER THE INPUT: true; the input reads as it did. -/
def sheetOneSpec : ChangeSpec := { name := "sheetOne", fn := fun _ => fun
  | [d1, d2, d3] => { results := [.lit (.bool true)], args := [d1, d2, d3] }
  | _ => none }
def sheetOneRow : OpenClaim := { program := "ytadhiimkcdnfkaagreatdoor", sum := "6d53830ef1a5e2c04d265f1c43840fefd2bebdca8b37816306c104ac692f9ba9", func := "gouache/gouachelaw11.SheetOne", spec := "sheetOne", inPlace := ["internal/abi.NoEscape", "internal/bytealg.IndexByteString", "internal/bytealg.IndexString"], unfollowed := true, recurses := true, named := ["gouache/selector.ops", "unicode/utf8.first", "unicode/utf8.acceptRanges", "internal/bytealg.MaxLen", "gouache/selector.combs"], apart := false, laid := [("unicode/utf8.acceptRanges", laid_unicode_utf8_acceptRanges), ("gouache/selector.combs", laid_gouache_selector_combs), ("gouache/selector.ops", laid_gouache_selector_ops), ("unicode/utf8.first", laid_unicode_utf8_first)] }
def SheetOneSaid : Prop := sheetOneRow.holds Tryz.pinned (OpenSpec.ofChange sheetOneSpec)

/-- ITS FALSE NEIGHBOUR: 'it returns false'. Refute it at one input. -/
def sheetOneWrong : ChangeSpec := { name := "sheetOne", fn := fun _ => fun
  | [d1, d2, d3] => { results := [.lit (.bool false)], args := [d1, d2, d3] }
  | _ => none }
def SheetOneWrongFalsely : Prop := sheetOneRow.holds Tryz.pinned (OpenSpec.ofChange sheetOneWrong)

/-- 'gouachelaw11.SheetMany': WHATEVER THE INPUT: true; the input reads as it did. -/
def sheetManySpec : ChangeSpec := { name := "sheetMany", fn := fun _ => fun
  | [d1, d2] => { results := [.lit (.bool true)], args := [d1, d2] }
  | _ => none }
def sheetManyRow : OpenClaim := { program := "ytadhiimkcdnfkaagreatdoor", sum := "6d53830ef1a5e2c04d265f1c43840fefd2bebdca8b37816306c104ac692f9ba9", func := "gouache/gouachelaw11.SheetMany", spec := "sheetMany", inPlace := ["internal/abi.NoEscape", "internal/bytealg.IndexByteString", "internal/bytealg.IndexString"], unfollowed := true, recurses := true, named := ["gouache/selector.ops", "unicode/utf8.first", "unicode/utf8.acceptRanges", "internal/bytealg.MaxLen", "gouache/selector.combs"], apart := false, laid := [("unicode/utf8.acceptRanges", laid_unicode_utf8_acceptRanges), ("gouache/selector.combs", laid_gouache_selector_combs), ("gouache/selector.ops", laid_gouache_selector_ops), ("unicode/utf8.first", laid_unicode_utf8_first)] }
def SheetManySaid : Prop := sheetManyRow.holds Tryz.pinned (OpenSpec.ofChange sheetManySpec)

/-- ITS FALSE NEIGHBOUR: 'it returns false'. Refute it at one input. -/
def sheetManyWrong : ChangeSpec := { name := "sheetMany", fn := fun _ => fun
  | [d1, d2] => { results := [.lit (.bool false)], args := [d1, d2] }
  | _ => none }
def SheetManyWrongFalsely : Prop := sheetManyRow.holds Tryz.pinned (OpenSpec.ofChange sheetManyWrong)

/-- 'gouachelaw11.SheetActs': WHATEVER THE INPUT: true; the input reads as it did. -/
def sheetActsSpec : ChangeSpec := { name := "sheetActs", fn := fun _ => fun
  | [d] => { results := [.lit (.bool true)], args := [d] }
  | _ => none }
def sheetActsRow : OpenClaim := { program := "ytadhiimkcdnfkaagreatdoor", sum := "6d53830ef1a5e2c04d265f1c43840fefd2bebdca8b37816306c104ac692f9ba9", func := "gouache/gouachelaw11.SheetActs", spec := "sheetActs", inPlace := ["internal/abi.NoEscape", "internal/bytealg.IndexByteString", "internal/bytealg.IndexString"], unfollowed := true, recurses := true, named := ["gouache/selector.ops", "unicode/utf8.first", "unicode/utf8.acceptRanges", "internal/bytealg.MaxLen", "gouache/selector.combs"], apart := false, laid := [("unicode/utf8.acceptRanges", laid_unicode_utf8_acceptRanges), ("gouache/selector.combs", laid_gouache_selector_combs), ("gouache/selector.ops", laid_gouache_selector_ops), ("unicode/utf8.first", laid_unicode_utf8_first)] }
def SheetActsSaid : Prop := sheetActsRow.holds Tryz.pinned (OpenSpec.ofChange sheetActsSpec)

/-- ITS FALSE NEIGHBOUR: 'it returns false'. Refute it at one input. -/
def sheetActsWrong : ChangeSpec := { name := "sheetActs", fn := fun _ => fun
  | [d] => { results := [.lit (.bool false)], args := [d] }
  | _ => none }
def SheetActsWrongFalsely : Prop := sheetActsRow.holds Tryz.pinned (OpenSpec.ofChange sheetActsWrong)

/-- 'gouachelaw11.SheetKeeps': WHATEVER THE INPUT: true; the input reads as it did. -/
def sheetKeepsSpec : ChangeSpec := { name := "sheetKeeps", fn := fun _ => fun
  | [d] => { results := [.lit (.bool true)], args := [d] }
  | _ => none }
def sheetKeepsRow : OpenClaim := { program := "ytadhiimkcdnfkaagreatdoor", sum := "6d53830ef1a5e2c04d265f1c43840fefd2bebdca8b37816306c104ac692f9ba9", func := "gouache/gouachelaw11.SheetKeeps", spec := "sheetKeeps", inPlace := ["internal/abi.NoEscape", "internal/bytealg.IndexByteString", "internal/bytealg.IndexString"], unfollowed := true, recurses := true, named := ["gouache/selector.ops", "unicode/utf8.first", "unicode/utf8.acceptRanges", "internal/bytealg.MaxLen", "gouache/selector.combs"], apart := false, laid := [("unicode/utf8.acceptRanges", laid_unicode_utf8_acceptRanges), ("gouache/selector.combs", laid_gouache_selector_combs), ("gouache/selector.ops", laid_gouache_selector_ops), ("unicode/utf8.first", laid_unicode_utf8_first)] }
def SheetKeepsSaid : Prop := sheetKeepsRow.holds Tryz.pinned (OpenSpec.ofChange sheetKeepsSpec)

/-- ITS FALSE NEIGHBOUR: 'it returns false'. Refute it at one input. -/
def sheetKeepsWrong : ChangeSpec := { name := "sheetKeeps", fn := fun _ => fun
  | [d] => { results := [.lit (.bool false)], args := [d] }
  | _ => none }
def SheetKeepsWrongFalsely : Prop := sheetKeepsRow.holds Tryz.pinned (OpenSpec.ofChange sheetKeepsWrong)

/-- 'gouachelaw11.SheetNone': WHATEVER THE INPUT: true; the input reads as it did. -/
def sheetNoneSpec : ChangeSpec := { name := "sheetNone", fn := fun _ => fun
  | [d] => { results := [.lit (.bool true)], args := [d] }
  | _ => none }
def sheetNoneRow : OpenClaim := { program := "ytadhiimkcdnfkaagreatdoor", sum := "6d53830ef1a5e2c04d265f1c43840fefd2bebdca8b37816306c104ac692f9ba9", func := "gouache/gouachelaw11.SheetNone", spec := "sheetNone", inPlace := ["internal/abi.NoEscape", "internal/bytealg.IndexByteString", "internal/bytealg.IndexString"], unfollowed := true, recurses := true, named := ["gouache/selector.ops", "unicode/utf8.first", "unicode/utf8.acceptRanges", "internal/bytealg.MaxLen", "gouache/selector.combs"], apart := false, laid := [("unicode/utf8.acceptRanges", laid_unicode_utf8_acceptRanges), ("gouache/selector.combs", laid_gouache_selector_combs), ("gouache/selector.ops", laid_gouache_selector_ops), ("unicode/utf8.first", laid_unicode_utf8_first)] }
def SheetNoneSaid : Prop := sheetNoneRow.holds Tryz.pinned (OpenSpec.ofChange sheetNoneSpec)

/-- ITS FALSE NEIGHBOUR: 'it returns false'. Refute it at one input. -/
def sheetNoneWrong : ChangeSpec := { name := "sheetNone", fn := fun _ => fun
  | [d] => { results := [.lit (.bool false)], args := [d] }
  | _ => none }
def SheetNoneWrongFalsely : Prop := sheetNoneRow.holds Tryz.pinned (OpenSpec.ofChange sheetNoneWrong)

/- THE SECOND FORM. 'bulk': how many values and letters a reading holds, each counted each time it is reached (what is shared counts as often as it is met; a slice's spare places count too). A statement '..UptoSaid' is the law's where the arguments, and the package variables that the reading takes, are together of bulk at most 1048576: NARROWER than '..Said'. Prove '..Said' where nothing that the law and all that it calls make is longer than what came in: it says more and counts as full. Else prove '..UptoSaid'. A law counts once. -/
mutual
def uptoBulk {H : Type} : DataW H → Nat
  | .lit (.string bytes) => bytes.length + 1
  | .lit _ => 1
  | .nil => 1
  | .ptr d => uptoBulk d + 1
  | .slice elems spare => uptoBulkAll elems + uptoBulkAll spare + 1
  | .agg parts => uptoBulkAll parts + 1
  | .iface _ d => uptoBulk d + 1
  | .map entries => uptoBulkEntries entries + 1
  | .held _ => 1
def uptoBulkAll {H : Type} : List (DataW H) → Nat
  | [] => 0
  | d :: r => uptoBulk d + uptoBulkAll r
def uptoBulkEntries {H : Type} : List (Lit × DataW H) → Nat
  | [] => 0
  | x :: r => uptoBulkEntry x + uptoBulkEntries r
def uptoBulkEntry {H : Type} : Lit × DataW H → Nat
  | (.string bytes, d) => bytes.length + uptoBulk d + 1
  | (_, d) => uptoBulk d + 1
 end
def uptoSmall : (H : Type) → List (DataW H) → Bool := fun _ ds => decide (uptoBulkAll ds ≤ 1048576)
def OpenSpec.upto (s : _root_.Go.ChangeSpec) : _root_.Go.OpenSpec := { _root_.Go.OpenSpec.ofChange s with cond := some uptoSmall }

/-- 'gouachelaw11.SheetReads', WHERE WHAT IT READS IS OF BULK AT MOST 1048576: true; the input reads as it did. -/
def sheetReadsUptoRow : OpenClaim := { program := "ytadhiimkcdnfkaagreatdoor", sum := "6d53830ef1a5e2c04d265f1c43840fefd2bebdca8b37816306c104ac692f9ba9", func := "gouache/gouachelaw11.SheetReads", spec := "sheetReads", inPlace := ["internal/abi.NoEscape", "internal/bytealg.IndexByteString", "internal/bytealg.IndexString"], unfollowed := true, recurses := true, named := ["gouache/selector.ops", "unicode/utf8.first", "unicode/utf8.acceptRanges", "internal/bytealg.MaxLen", "gouache/selector.combs"], apart := false, laid := [("unicode/utf8.acceptRanges", laid_unicode_utf8_acceptRanges), ("gouache/selector.combs", laid_gouache_selector_combs), ("gouache/selector.ops", laid_gouache_selector_ops), ("unicode/utf8.first", laid_unicode_utf8_first)], narrowed := true }
def SheetReadsUptoSaid : Prop := sheetReadsUptoRow.holds Tryz.pinned (OpenSpec.upto sheetReadsSpec)

/-- 'gouachelaw11.SheetOne', WHERE WHAT IT READS IS OF BULK AT MOST 1048576: true; the input reads as it did. -/
def sheetOneUptoRow : OpenClaim := { program := "ytadhiimkcdnfkaagreatdoor", sum := "6d53830ef1a5e2c04d265f1c43840fefd2bebdca8b37816306c104ac692f9ba9", func := "gouache/gouachelaw11.SheetOne", spec := "sheetOne", inPlace := ["internal/abi.NoEscape", "internal/bytealg.IndexByteString", "internal/bytealg.IndexString"], unfollowed := true, recurses := true, named := ["gouache/selector.ops", "unicode/utf8.first", "unicode/utf8.acceptRanges", "internal/bytealg.MaxLen", "gouache/selector.combs"], apart := false, laid := [("unicode/utf8.acceptRanges", laid_unicode_utf8_acceptRanges), ("gouache/selector.combs", laid_gouache_selector_combs), ("gouache/selector.ops", laid_gouache_selector_ops), ("unicode/utf8.first", laid_unicode_utf8_first)], narrowed := true }
def SheetOneUptoSaid : Prop := sheetOneUptoRow.holds Tryz.pinned (OpenSpec.upto sheetOneSpec)

/-- 'gouachelaw11.SheetMany', WHERE WHAT IT READS IS OF BULK AT MOST 1048576: true; the input reads as it did. -/
def sheetManyUptoRow : OpenClaim := { program := "ytadhiimkcdnfkaagreatdoor", sum := "6d53830ef1a5e2c04d265f1c43840fefd2bebdca8b37816306c104ac692f9ba9", func := "gouache/gouachelaw11.SheetMany", spec := "sheetMany", inPlace := ["internal/abi.NoEscape", "internal/bytealg.IndexByteString", "internal/bytealg.IndexString"], unfollowed := true, recurses := true, named := ["gouache/selector.ops", "unicode/utf8.first", "unicode/utf8.acceptRanges", "internal/bytealg.MaxLen", "gouache/selector.combs"], apart := false, laid := [("unicode/utf8.acceptRanges", laid_unicode_utf8_acceptRanges), ("gouache/selector.combs", laid_gouache_selector_combs), ("gouache/selector.ops", laid_gouache_selector_ops), ("unicode/utf8.first", laid_unicode_utf8_first)], narrowed := true }
def SheetManyUptoSaid : Prop := sheetManyUptoRow.holds Tryz.pinned (OpenSpec.upto sheetManySpec)

/-- 'gouachelaw11.SheetActs', WHERE WHAT IT READS IS OF BULK AT MOST 1048576: true; the input reads as it did. -/
def sheetActsUptoRow : OpenClaim := { program := "ytadhiimkcdnfkaagreatdoor", sum := "6d53830ef1a5e2c04d265f1c43840fefd2bebdca8b37816306c104ac692f9ba9", func := "gouache/gouachelaw11.SheetActs", spec := "sheetActs", inPlace := ["internal/abi.NoEscape", "internal/bytealg.IndexByteString", "internal/bytealg.IndexString"], unfollowed := true, recurses := true, named := ["gouache/selector.ops", "unicode/utf8.first", "unicode/utf8.acceptRanges", "internal/bytealg.MaxLen", "gouache/selector.combs"], apart := false, laid := [("unicode/utf8.acceptRanges", laid_unicode_utf8_acceptRanges), ("gouache/selector.combs", laid_gouache_selector_combs), ("gouache/selector.ops", laid_gouache_selector_ops), ("unicode/utf8.first", laid_unicode_utf8_first)], narrowed := true }
def SheetActsUptoSaid : Prop := sheetActsUptoRow.holds Tryz.pinned (OpenSpec.upto sheetActsSpec)

/-- 'gouachelaw11.SheetKeeps', WHERE WHAT IT READS IS OF BULK AT MOST 1048576: true; the input reads as it did. -/
def sheetKeepsUptoRow : OpenClaim := { program := "ytadhiimkcdnfkaagreatdoor", sum := "6d53830ef1a5e2c04d265f1c43840fefd2bebdca8b37816306c104ac692f9ba9", func := "gouache/gouachelaw11.SheetKeeps", spec := "sheetKeeps", inPlace := ["internal/abi.NoEscape", "internal/bytealg.IndexByteString", "internal/bytealg.IndexString"], unfollowed := true, recurses := true, named := ["gouache/selector.ops", "unicode/utf8.first", "unicode/utf8.acceptRanges", "internal/bytealg.MaxLen", "gouache/selector.combs"], apart := false, laid := [("unicode/utf8.acceptRanges", laid_unicode_utf8_acceptRanges), ("gouache/selector.combs", laid_gouache_selector_combs), ("gouache/selector.ops", laid_gouache_selector_ops), ("unicode/utf8.first", laid_unicode_utf8_first)], narrowed := true }
def SheetKeepsUptoSaid : Prop := sheetKeepsUptoRow.holds Tryz.pinned (OpenSpec.upto sheetKeepsSpec)

/-- 'gouachelaw11.SheetNone', WHERE WHAT IT READS IS OF BULK AT MOST 1048576: true; the input reads as it did. -/
def sheetNoneUptoRow : OpenClaim := { program := "ytadhiimkcdnfkaagreatdoor", sum := "6d53830ef1a5e2c04d265f1c43840fefd2bebdca8b37816306c104ac692f9ba9", func := "gouache/gouachelaw11.SheetNone", spec := "sheetNone", inPlace := ["internal/abi.NoEscape", "internal/bytealg.IndexByteString", "internal/bytealg.IndexString"], unfollowed := true, recurses := true, named := ["gouache/selector.ops", "unicode/utf8.first", "unicode/utf8.acceptRanges", "internal/bytealg.MaxLen", "gouache/selector.combs"], apart := false, laid := [("unicode/utf8.acceptRanges", laid_unicode_utf8_acceptRanges), ("gouache/selector.combs", laid_gouache_selector_combs), ("gouache/selector.ops", laid_gouache_selector_ops), ("unicode/utf8.first", laid_unicode_utf8_first)], narrowed := true }
def SheetNoneUptoSaid : Prop := sheetNoneUptoRow.holds Tryz.pinned (OpenSpec.upto sheetNoneSpec)

end Rows
end Go.Proofs.YtadhiimkcdnfkaaGreatDoor
