/-
  NARROWER THAN 'FOR EVERY INPUT', by the rows' own cells (each row's printed sentence says how): ValDoes: laid · ValDivides: laid · ValDates: laid · ValEquals: laid · ValCompares: laid · ValOrders: laid · ValParts: laid · ValDays: laid · ValValidates: laid · ValSwaps: laid · ValNumbers: laid · ValTrims: laid · ValStamps: laid.
  DERIVED. THE GIVEN ROWS OF THIS SEAT. 13 by the template 'for every input the law returns true; each argument reads behind the call as it read before'; 0 by the template 'total and deterministic' (their statements: YtplbjaandkdhjaaDoorTotals.lean).
  GIVEN WITH THE SEED: the statements are not yours to turn. If you find one false, say at which input.
  Laid BY PROGRAM, IN A SANDBOX (cutbox-rows.mjs): the forced cells as the released guide's own fill.sh prints them over the translation 769deab79b098bac… (all of the seat's roots in one cut). By AI agents, Wed Nov 11 2026. No macro, syntax, notation, axiom, sorry.
-/
import Derived.Test.YtplbjaandkdhjaaDoorChecked
import GoSem.PinnedTables
import GoSem.Claim
import GoSem.ClaimJoined
import GoSem.ClaimMapViews
import Derived.JoinedTies
import Derived.KernelRfl
namespace Go.Proofs.YtplbjaandkdhjaaDoor
/- THE CELL 'sum', in the pinned program and in every row, IS THE sha256 OF THE DUMP (.gsa) THAT YtplbjaandkdhjaaDoorProg.lean LOADS. Nothing in Lean hashes anything: it is a label: what it is worth is what the hold of that sum in a sandbox is worth. -/
noncomputable def Tryd.pinned : Pinned := { name := "ytplbjaandkdhjaadoor", sum := "769deab79b098bacc383c502849c34e0fd3831e6abf9664175430f897300973e", checked := Tryd.checked }
namespace Rows
def none {H : Type} : Left H := { results := [], args := [] }

/- WHAT THE LISTED PACKAGE-LEVEL VARIABLES READ AS WHEN THE CALL BEGINS. Each datum BY PROGRAM (the guide's laid-datum.mjs) off the statement by which the dump's own 'gosem.cut.vars' lays the variable. In a bare row this is a premise. The card (YtplbjaandkdhjaaDoorCards.lean) ties it to the program's text. -/
def laid_unicode_utf8_acceptRanges {H : Type} : DataW H := .agg [.agg [.lit (.int .u8 128), .lit (.int .u8 191)], .agg [.lit (.int .u8 160), .lit (.int .u8 191)], .agg [.lit (.int .u8 128), .lit (.int .u8 159)], .agg [.lit (.int .u8 144), .lit (.int .u8 191)], .agg [.lit (.int .u8 128), .lit (.int .u8 143)], .agg [.lit (.int .u8 0), .lit (.int .u8 0)], .agg [.lit (.int .u8 0), .lit (.int .u8 0)], .agg [.lit (.int .u8 0), .lit (.int .u8 0)], .agg [.lit (.int .u8 0), .lit (.int .u8 0)], .agg [.lit (.int .u8 0), .lit (.int .u8 0)], .agg [.lit (.int .u8 0), .lit (.int .u8 0)], .agg [.lit (.int .u8 0), .lit (.int .u8 0)], .agg [.lit (.int .u8 0), .lit (.int .u8 0)], .agg [.lit (.int .u8 0), .lit (.int .u8 0)], .agg [.lit (.int .u8 0), .lit (.int .u8 0)], .agg [.lit (.int .u8 0), .lit (.int .u8 0)]]
/-- One of Go's own tables, pinned by name: the form's constant. -/
def laid_unicode_utf8_first : DataW Unit := Go.Pinned.utf8First

/-- 'cabinetrylaw01.ValDoes': WHATEVER THE INPUT: true; the input reads as it did. -/
def valDoesSpec : ChangeSpec := { name := "valDoes", fn := fun _ => fun
  | [d1, d2, d3] => { results := [.lit (.bool true)], args := [d1, d2, d3] }
  | _ => none }
def valDoesRow : OpenClaim := { program := "ytplbjaandkdhjaadoor", sum := "769deab79b098bacc383c502849c34e0fd3831e6abf9664175430f897300973e", func := "cabinetry/cabinetrylaw01.ValDoes", spec := "valDoes", inPlace := ["internal/bytealg.IndexByteString", "internal/bytealg.IndexString"], unfollowed := true, recurses := true, named := ["unicode/utf8.first", "unicode/utf8.acceptRanges", "internal/bytealg.MaxLen"], apart := false, laid := [("unicode/utf8.acceptRanges", laid_unicode_utf8_acceptRanges), ("unicode/utf8.first", laid_unicode_utf8_first)] }
def ValDoesSaid : Prop := valDoesRow.holds Tryd.pinned (OpenSpec.ofChange valDoesSpec)

/-- ITS FALSE NEIGHBOUR: 'it returns false'. Refute it at one input. -/
def valDoesWrong : ChangeSpec := { name := "valDoes", fn := fun _ => fun
  | [d1, d2, d3] => { results := [.lit (.bool false)], args := [d1, d2, d3] }
  | _ => none }
def ValDoesWrongFalsely : Prop := valDoesRow.holds Tryd.pinned (OpenSpec.ofChange valDoesWrong)

/-- 'cabinetrylaw01.ValDivides': WHATEVER THE INPUT: true; the input reads as it did. -/
def valDividesSpec : ChangeSpec := { name := "valDivides", fn := fun _ => fun
  | [d1, d2] => { results := [.lit (.bool true)], args := [d1, d2] }
  | _ => none }
def valDividesRow : OpenClaim := { program := "ytplbjaandkdhjaadoor", sum := "769deab79b098bacc383c502849c34e0fd3831e6abf9664175430f897300973e", func := "cabinetry/cabinetrylaw01.ValDivides", spec := "valDivides", inPlace := ["internal/bytealg.IndexByteString", "internal/bytealg.IndexString"], unfollowed := true, recurses := true, named := ["unicode/utf8.first", "unicode/utf8.acceptRanges", "internal/bytealg.MaxLen"], apart := false, laid := [("unicode/utf8.acceptRanges", laid_unicode_utf8_acceptRanges), ("unicode/utf8.first", laid_unicode_utf8_first)] }
def ValDividesSaid : Prop := valDividesRow.holds Tryd.pinned (OpenSpec.ofChange valDividesSpec)

/-- ITS FALSE NEIGHBOUR: 'it returns false'. Refute it at one input. -/
def valDividesWrong : ChangeSpec := { name := "valDivides", fn := fun _ => fun
  | [d1, d2] => { results := [.lit (.bool false)], args := [d1, d2] }
  | _ => none }
def ValDividesWrongFalsely : Prop := valDividesRow.holds Tryd.pinned (OpenSpec.ofChange valDividesWrong)

/-- 'cabinetrylaw01.ValDates': WHATEVER THE INPUT: true; the input reads as it did. -/
def valDatesSpec : ChangeSpec := { name := "valDates", fn := fun _ => fun
  | [d1, d2, d3] => { results := [.lit (.bool true)], args := [d1, d2, d3] }
  | _ => none }
def valDatesRow : OpenClaim := { program := "ytplbjaandkdhjaadoor", sum := "769deab79b098bacc383c502849c34e0fd3831e6abf9664175430f897300973e", func := "cabinetry/cabinetrylaw01.ValDates", spec := "valDates", inPlace := ["internal/bytealg.IndexByteString", "internal/bytealg.IndexString"], unfollowed := true, recurses := true, named := ["unicode/utf8.first", "unicode/utf8.acceptRanges", "internal/bytealg.MaxLen"], apart := false, laid := [("unicode/utf8.acceptRanges", laid_unicode_utf8_acceptRanges), ("unicode/utf8.first", laid_unicode_utf8_first)] }
def ValDatesSaid : Prop := valDatesRow.holds Tryd.pinned (OpenSpec.ofChange valDatesSpec)

/-- ITS FALSE NEIGHBOUR: 'it returns false'. Refute it at one input. -/
def valDatesWrong : ChangeSpec := { name := "valDates", fn := fun _ => fun
  | [d1, d2, d3] => { results := [.lit (.bool false)], args := [d1, d2, d3] }
  | _ => none }
def ValDatesWrongFalsely : Prop := valDatesRow.holds Tryd.pinned (OpenSpec.ofChange valDatesWrong)

/-- 'cabinetrylaw01.ValEquals': WHATEVER THE INPUT: true; the input reads as it did. -/
def valEqualsSpec : ChangeSpec := { name := "valEquals", fn := fun _ => fun
  | [d1, d2, d3] => { results := [.lit (.bool true)], args := [d1, d2, d3] }
  | _ => none }
def valEqualsRow : OpenClaim := { program := "ytplbjaandkdhjaadoor", sum := "769deab79b098bacc383c502849c34e0fd3831e6abf9664175430f897300973e", func := "cabinetry/cabinetrylaw01.ValEquals", spec := "valEquals", inPlace := ["internal/bytealg.IndexByteString", "internal/bytealg.IndexString"], unfollowed := true, recurses := true, named := ["unicode/utf8.first", "unicode/utf8.acceptRanges", "internal/bytealg.MaxLen"], apart := false, laid := [("unicode/utf8.acceptRanges", laid_unicode_utf8_acceptRanges), ("unicode/utf8.first", laid_unicode_utf8_first)] }
def ValEqualsSaid : Prop := valEqualsRow.holds Tryd.pinned (OpenSpec.ofChange valEqualsSpec)

/-- ITS FALSE NEIGHBOUR: 'it returns false'. Refute it at one input. -/
def valEqualsWrong : ChangeSpec := { name := "valEquals", fn := fun _ => fun
  | [d1, d2, d3] => { results := [.lit (.bool false)], args := [d1, d2, d3] }
  | _ => none }
def ValEqualsWrongFalsely : Prop := valEqualsRow.holds Tryd.pinned (OpenSpec.ofChange valEqualsWrong)

/-- 'cabinetrylaw01.ValCompares': WHATEVER THE INPUT: true; the input reads as it did. -/
def valComparesSpec : ChangeSpec := { name := "valCompares", fn := fun _ => fun
  | [d1, d2] => { results := [.lit (.bool true)], args := [d1, d2] }
  | _ => none }
def valComparesRow : OpenClaim := { program := "ytplbjaandkdhjaadoor", sum := "769deab79b098bacc383c502849c34e0fd3831e6abf9664175430f897300973e", func := "cabinetry/cabinetrylaw01.ValCompares", spec := "valCompares", inPlace := ["internal/bytealg.IndexByteString", "internal/bytealg.IndexString", "internal/bytealg.abigen_runtime_cmpstring"], unfollowed := true, recurses := true, named := ["unicode/utf8.first", "unicode/utf8.acceptRanges", "internal/bytealg.MaxLen"], apart := false, laid := [("unicode/utf8.acceptRanges", laid_unicode_utf8_acceptRanges), ("unicode/utf8.first", laid_unicode_utf8_first)] }
def ValComparesSaid : Prop := valComparesRow.holds Tryd.pinned (OpenSpec.ofChange valComparesSpec)

/-- ITS FALSE NEIGHBOUR: 'it returns false'. Refute it at one input. -/
def valComparesWrong : ChangeSpec := { name := "valCompares", fn := fun _ => fun
  | [d1, d2] => { results := [.lit (.bool false)], args := [d1, d2] }
  | _ => none }
def ValComparesWrongFalsely : Prop := valComparesRow.holds Tryd.pinned (OpenSpec.ofChange valComparesWrong)

/-- 'cabinetrylaw01.ValOrders': WHATEVER THE INPUT: true; the input reads as it did. -/
def valOrdersSpec : ChangeSpec := { name := "valOrders", fn := fun _ => fun
  | [d1, d2, d3] => { results := [.lit (.bool true)], args := [d1, d2, d3] }
  | _ => none }
def valOrdersRow : OpenClaim := { program := "ytplbjaandkdhjaadoor", sum := "769deab79b098bacc383c502849c34e0fd3831e6abf9664175430f897300973e", func := "cabinetry/cabinetrylaw01.ValOrders", spec := "valOrders", inPlace := ["internal/bytealg.IndexByteString", "internal/bytealg.IndexString", "internal/bytealg.abigen_runtime_cmpstring"], unfollowed := true, recurses := true, named := ["unicode/utf8.first", "unicode/utf8.acceptRanges", "internal/bytealg.MaxLen"], apart := false, laid := [("unicode/utf8.acceptRanges", laid_unicode_utf8_acceptRanges), ("unicode/utf8.first", laid_unicode_utf8_first)] }
def ValOrdersSaid : Prop := valOrdersRow.holds Tryd.pinned (OpenSpec.ofChange valOrdersSpec)

/-- ITS FALSE NEIGHBOUR: 'it returns false'. Refute it at one input. -/
def valOrdersWrong : ChangeSpec := { name := "valOrders", fn := fun _ => fun
  | [d1, d2, d3] => { results := [.lit (.bool false)], args := [d1, d2, d3] }
  | _ => none }
def ValOrdersWrongFalsely : Prop := valOrdersRow.holds Tryd.pinned (OpenSpec.ofChange valOrdersWrong)

/-- 'cabinetrylaw01.ValParts': WHATEVER THE INPUT: true; the input reads as it did. -/
def valPartsSpec : ChangeSpec := { name := "valParts", fn := fun _ => fun
  | [d1, d2, d3] => { results := [.lit (.bool true)], args := [d1, d2, d3] }
  | _ => none }
def valPartsRow : OpenClaim := { program := "ytplbjaandkdhjaadoor", sum := "769deab79b098bacc383c502849c34e0fd3831e6abf9664175430f897300973e", func := "cabinetry/cabinetrylaw01.ValParts", spec := "valParts", inPlace := ["internal/bytealg.IndexByteString", "internal/bytealg.IndexString"], unfollowed := true, recurses := true, named := ["unicode/utf8.first", "unicode/utf8.acceptRanges", "internal/bytealg.MaxLen"], apart := false, laid := [("unicode/utf8.acceptRanges", laid_unicode_utf8_acceptRanges), ("unicode/utf8.first", laid_unicode_utf8_first)] }
def ValPartsSaid : Prop := valPartsRow.holds Tryd.pinned (OpenSpec.ofChange valPartsSpec)

/-- ITS FALSE NEIGHBOUR: 'it returns false'. Refute it at one input. -/
def valPartsWrong : ChangeSpec := { name := "valParts", fn := fun _ => fun
  | [d1, d2, d3] => { results := [.lit (.bool false)], args := [d1, d2, d3] }
  | _ => none }
def ValPartsWrongFalsely : Prop := valPartsRow.holds Tryd.pinned (OpenSpec.ofChange valPartsWrong)

/-- 'cabinetrylaw01.ValDays': WHATEVER THE INPUT: true; the input reads as it did. -/
def valDaysSpec : ChangeSpec := { name := "valDays", fn := fun _ => fun
  | [d1, d2] => { results := [.lit (.bool true)], args := [d1, d2] }
  | _ => none }
def valDaysRow : OpenClaim := { program := "ytplbjaandkdhjaadoor", sum := "769deab79b098bacc383c502849c34e0fd3831e6abf9664175430f897300973e", func := "cabinetry/cabinetrylaw01.ValDays", spec := "valDays", inPlace := ["internal/abi.NoEscape", "internal/bytealg.MakeNoZero", "internal/bytealg.IndexByteString", "internal/bytealg.IndexString"], unfollowed := true, recurses := true, named := ["unicode/utf8.first", "unicode/utf8.acceptRanges", "internal/bytealg.MaxLen"], apart := false, laid := [("unicode/utf8.acceptRanges", laid_unicode_utf8_acceptRanges), ("unicode/utf8.first", laid_unicode_utf8_first)] }
def ValDaysSaid : Prop := valDaysRow.holds Tryd.pinned (OpenSpec.ofChange valDaysSpec)

/-- ITS FALSE NEIGHBOUR: 'it returns false'. Refute it at one input. -/
def valDaysWrong : ChangeSpec := { name := "valDays", fn := fun _ => fun
  | [d1, d2] => { results := [.lit (.bool false)], args := [d1, d2] }
  | _ => none }
def ValDaysWrongFalsely : Prop := valDaysRow.holds Tryd.pinned (OpenSpec.ofChange valDaysWrong)

/-- 'cabinetrylaw01.ValValidates': WHATEVER THE INPUT: true; the input reads as it did. -/
def valValidatesSpec : ChangeSpec := { name := "valValidates", fn := fun _ => fun
  | [d] => { results := [.lit (.bool true)], args := [d] }
  | _ => none }
def valValidatesRow : OpenClaim := { program := "ytplbjaandkdhjaadoor", sum := "769deab79b098bacc383c502849c34e0fd3831e6abf9664175430f897300973e", func := "cabinetry/cabinetrylaw01.ValValidates", spec := "valValidates", inPlace := ["internal/bytealg.IndexByteString", "internal/bytealg.IndexString", "internal/abi.NoEscape", "internal/bytealg.MakeNoZero"], unfollowed := true, recurses := true, named := ["unicode/utf8.first", "unicode/utf8.acceptRanges", "internal/bytealg.MaxLen"], apart := false, laid := [("unicode/utf8.acceptRanges", laid_unicode_utf8_acceptRanges), ("unicode/utf8.first", laid_unicode_utf8_first)] }
def ValValidatesSaid : Prop := valValidatesRow.holds Tryd.pinned (OpenSpec.ofChange valValidatesSpec)

/-- ITS FALSE NEIGHBOUR: 'it returns false'. Refute it at one input. -/
def valValidatesWrong : ChangeSpec := { name := "valValidates", fn := fun _ => fun
  | [d] => { results := [.lit (.bool false)], args := [d] }
  | _ => none }
def ValValidatesWrongFalsely : Prop := valValidatesRow.holds Tryd.pinned (OpenSpec.ofChange valValidatesWrong)

/-- 'cabinetrylaw01.ValSwaps': WHATEVER THE INPUT: true; the input reads as it did. -/
def valSwapsSpec : ChangeSpec := { name := "valSwaps", fn := fun _ => fun
  | [d1, d2, d3] => { results := [.lit (.bool true)], args := [d1, d2, d3] }
  | _ => none }
def valSwapsRow : OpenClaim := { program := "ytplbjaandkdhjaadoor", sum := "769deab79b098bacc383c502849c34e0fd3831e6abf9664175430f897300973e", func := "cabinetry/cabinetrylaw01.ValSwaps", spec := "valSwaps", inPlace := ["internal/bytealg.IndexByteString", "internal/bytealg.IndexString", "internal/bytealg.CountString", "internal/abi.NoEscape", "internal/bytealg.MakeNoZero"], unfollowed := true, recurses := true, named := ["unicode/utf8.first", "unicode/utf8.acceptRanges", "internal/bytealg.MaxLen"], apart := false, laid := [("unicode/utf8.acceptRanges", laid_unicode_utf8_acceptRanges), ("unicode/utf8.first", laid_unicode_utf8_first)] }
def ValSwapsSaid : Prop := valSwapsRow.holds Tryd.pinned (OpenSpec.ofChange valSwapsSpec)

/-- ITS FALSE NEIGHBOUR: 'it returns false'. Refute it at one input. -/
def valSwapsWrong : ChangeSpec := { name := "valSwaps", fn := fun _ => fun
  | [d1, d2, d3] => { results := [.lit (.bool false)], args := [d1, d2, d3] }
  | _ => none }
def ValSwapsWrongFalsely : Prop := valSwapsRow.holds Tryd.pinned (OpenSpec.ofChange valSwapsWrong)

/-- 'cabinetrylaw01.ValNumbers': WHATEVER THE INPUT: true; the input reads as it did. -/
def valNumbersSpec : ChangeSpec := { name := "valNumbers", fn := fun _ => fun
  | [d1, d2, d3] => { results := [.lit (.bool true)], args := [d1, d2, d3] }
  | _ => none }
def valNumbersRow : OpenClaim := { program := "ytplbjaandkdhjaadoor", sum := "769deab79b098bacc383c502849c34e0fd3831e6abf9664175430f897300973e", func := "cabinetry/cabinetrylaw01.ValNumbers", spec := "valNumbers", inPlace := ["internal/bytealg.IndexByteString", "internal/bytealg.IndexString", "internal/abi.NoEscape", "internal/bytealg.MakeNoZero"], unfollowed := true, recurses := true, named := ["unicode/utf8.first", "unicode/utf8.acceptRanges", "internal/bytealg.MaxLen"], apart := false, laid := [("unicode/utf8.acceptRanges", laid_unicode_utf8_acceptRanges), ("unicode/utf8.first", laid_unicode_utf8_first)] }
def ValNumbersSaid : Prop := valNumbersRow.holds Tryd.pinned (OpenSpec.ofChange valNumbersSpec)

/-- ITS FALSE NEIGHBOUR: 'it returns false'. Refute it at one input. -/
def valNumbersWrong : ChangeSpec := { name := "valNumbers", fn := fun _ => fun
  | [d1, d2, d3] => { results := [.lit (.bool false)], args := [d1, d2, d3] }
  | _ => none }
def ValNumbersWrongFalsely : Prop := valNumbersRow.holds Tryd.pinned (OpenSpec.ofChange valNumbersWrong)

/-- 'cabinetrylaw01.ValTrims': WHATEVER THE INPUT: true; the input reads as it did. -/
def valTrimsSpec : ChangeSpec := { name := "valTrims", fn := fun _ => fun
  | [d1, d2, d3] => { results := [.lit (.bool true)], args := [d1, d2, d3] }
  | _ => none }
def valTrimsRow : OpenClaim := { program := "ytplbjaandkdhjaadoor", sum := "769deab79b098bacc383c502849c34e0fd3831e6abf9664175430f897300973e", func := "cabinetry/cabinetrylaw01.ValTrims", spec := "valTrims", inPlace := ["internal/bytealg.IndexByteString", "internal/bytealg.IndexString", "internal/abi.NoEscape", "internal/bytealg.MakeNoZero"], unfollowed := true, recurses := true, named := ["unicode/utf8.first", "unicode/utf8.acceptRanges", "internal/bytealg.MaxLen"], apart := false, laid := [("unicode/utf8.acceptRanges", laid_unicode_utf8_acceptRanges), ("unicode/utf8.first", laid_unicode_utf8_first)] }
def ValTrimsSaid : Prop := valTrimsRow.holds Tryd.pinned (OpenSpec.ofChange valTrimsSpec)

/-- ITS FALSE NEIGHBOUR: 'it returns false'. Refute it at one input. -/
def valTrimsWrong : ChangeSpec := { name := "valTrims", fn := fun _ => fun
  | [d1, d2, d3] => { results := [.lit (.bool false)], args := [d1, d2, d3] }
  | _ => none }
def ValTrimsWrongFalsely : Prop := valTrimsRow.holds Tryd.pinned (OpenSpec.ofChange valTrimsWrong)

/-- 'cabinetrylaw01.ValStamps': WHATEVER THE INPUT: true; the input reads as it did. -/
def valStampsSpec : ChangeSpec := { name := "valStamps", fn := fun _ => fun
  | [d1, d2] => { results := [.lit (.bool true)], args := [d1, d2] }
  | _ => none }
def valStampsRow : OpenClaim := { program := "ytplbjaandkdhjaadoor", sum := "769deab79b098bacc383c502849c34e0fd3831e6abf9664175430f897300973e", func := "cabinetry/cabinetrylaw01.ValStamps", spec := "valStamps", inPlace := ["internal/bytealg.IndexByteString", "internal/bytealg.IndexString", "internal/abi.NoEscape", "internal/bytealg.MakeNoZero"], unfollowed := true, recurses := true, named := ["unicode/utf8.first", "unicode/utf8.acceptRanges", "internal/bytealg.MaxLen"], apart := false, laid := [("unicode/utf8.acceptRanges", laid_unicode_utf8_acceptRanges), ("unicode/utf8.first", laid_unicode_utf8_first)] }
def ValStampsSaid : Prop := valStampsRow.holds Tryd.pinned (OpenSpec.ofChange valStampsSpec)

/-- ITS FALSE NEIGHBOUR: 'it returns false'. Refute it at one input. -/
def valStampsWrong : ChangeSpec := { name := "valStamps", fn := fun _ => fun
  | [d1, d2] => { results := [.lit (.bool false)], args := [d1, d2] }
  | _ => none }
def ValStampsWrongFalsely : Prop := valStampsRow.holds Tryd.pinned (OpenSpec.ofChange valStampsWrong)

/- THE SECOND FORM. 'bulk': how many values and letters a reading holds, each counted each time it is reached (what is shared counts as often as it is met; a slice's spare places count too). A statement '..UptoSaid' is the law's where the arguments, and the package variables that the reading takes, are together of bulk at most 1048576: NARROWER than '..Said'. Prove '..Said' where nothing that the law and all that it calls make is longer than what came in: it says more and counts as full. Else prove '..UptoSaid'. A law counts once. -/
mutual
def uptoBulk {H : Type} : DataW H → Nat
  | .lit (.string bytes) => bytes.length + 1
  | .lit _ => 1
  | .nil => 1
  | .ptr d => uptoBulk d + 1
  | .slice elems spare => uptoBulkAll elems + uptoBulkAll spare + 1
  | .agg parts => uptoBulkAll parts + 1
  | .iface _ d => uptoBulk d + 1
  | .map entries => uptoBulkEntries entries + 1
  | .held _ => 1
def uptoBulkAll {H : Type} : List (DataW H) → Nat
  | [] => 0
  | d :: r => uptoBulk d + uptoBulkAll r
def uptoBulkEntries {H : Type} : List (Lit × DataW H) → Nat
  | [] => 0
  | x :: r => uptoBulkEntry x + uptoBulkEntries r
def uptoBulkEntry {H : Type} : Lit × DataW H → Nat
  | (.string bytes, d) => bytes.length + uptoBulk d + 1
  | (_, d) => uptoBulk d + 1
 end
def uptoSmall : (H : Type) → List (DataW H) → Bool := fun _ ds => decide (uptoBulkAll ds ≤ 1048576)
def OpenSpec.upto (s : _root_.Go.ChangeSpec) : _root_.Go.OpenSpec := { _root_.Go.OpenSpec.ofChange s with cond := some uptoSmall }

/-- 'cabinetrylaw01.ValDoes', WHERE WHAT IT READS IS OF BULK AT MOST 1048576: true; the input reads as it did. -/
def valDoesUptoRow : OpenClaim := { program := "ytplbjaandkdhjaadoor", sum := "769deab79b098bacc383c502849c34e0fd3831e6abf9664175430f897300973e", func := "cabinetry/cabinetrylaw01.ValDoes", spec := "valDoes", inPlace := ["internal/bytealg.IndexByteString", "internal/bytealg.IndexString"], unfollowed := true, recurses := true, named := ["unicode/utf8.first", "unicode/utf8.acceptRanges", "internal/bytealg.MaxLen"], apart := false, laid := [("unicode/utf8.acceptRanges", laid_unicode_utf8_acceptRanges), ("unicode/utf8.first", laid_unicode_utf8_first)], narrowed := true }
def ValDoesUptoSaid : Prop := valDoesUptoRow.holds Tryd.pinned (OpenSpec.upto valDoesSpec)

/-- 'cabinetrylaw01.ValDivides', WHERE WHAT IT READS IS OF BULK AT MOST 1048576: true; the input reads as it did. -/
def valDividesUptoRow : OpenClaim := { program := "ytplbjaandkdhjaadoor", sum := "769deab79b098bacc383c502849c34e0fd3831e6abf9664175430f897300973e", func := "cabinetry/cabinetrylaw01.ValDivides", spec := "valDivides", inPlace := ["internal/bytealg.IndexByteString", "internal/bytealg.IndexString"], unfollowed := true, recurses := true, named := ["unicode/utf8.first", "unicode/utf8.acceptRanges", "internal/bytealg.MaxLen"], apart := false, laid := [("unicode/utf8.acceptRanges", laid_unicode_utf8_acceptRanges), ("unicode/utf8.first", laid_unicode_utf8_first)], narrowed := true }
def ValDividesUptoSaid : Prop := valDividesUptoRow.holds Tryd.pinned (OpenSpec.upto valDividesSpec)

/-- 'cabinetrylaw01.ValDates', WHERE WHAT IT READS IS OF BULK AT MOST 1048576: true; the input reads as it did. -/
def valDatesUptoRow : OpenClaim := { program := "ytplbjaandkdhjaadoor", sum := "769deab79b098bacc383c502849c34e0fd3831e6abf9664175430f897300973e", func := "cabinetry/cabinetrylaw01.ValDates", spec := "valDates", inPlace := ["internal/bytealg.IndexByteString", "internal/bytealg.IndexString"], unfollowed := true, recurses := true, named := ["unicode/utf8.first", "unicode/utf8.acceptRanges", "internal/bytealg.MaxLen"], apart := false, laid := [("unicode/utf8.acceptRanges", laid_unicode_utf8_acceptRanges), ("unicode/utf8.first", laid_unicode_utf8_first)], narrowed := true }
def ValDatesUptoSaid : Prop := valDatesUptoRow.holds Tryd.pinned (OpenSpec.upto valDatesSpec)

/-- 'cabinetrylaw01.ValEquals', WHERE WHAT IT READS IS OF BULK AT MOST 1048576: true; the input reads as it did. -/
def valEqualsUptoRow : OpenClaim := { program := "ytplbjaandkdhjaadoor", sum := "769deab79b098bacc383c502849c34e0fd3831e6abf9664175430f897300973e", func := "cabinetry/cabinetrylaw01.ValEquals", spec := "valEquals", inPlace := ["internal/bytealg.IndexByteString", "internal/bytealg.IndexString"], unfollowed := true, recurses := true, named := ["unicode/utf8.first", "unicode/utf8.acceptRanges", "internal/bytealg.MaxLen"], apart := false, laid := [("unicode/utf8.acceptRanges", laid_unicode_utf8_acceptRanges), ("unicode/utf8.first", laid_unicode_utf8_first)], narrowed := true }
def ValEqualsUptoSaid : Prop := valEqualsUptoRow.holds Tryd.pinned (OpenSpec.upto valEqualsSpec)

/-- 'cabinetrylaw01.ValCompares', WHERE WHAT IT READS IS OF BULK AT MOST 1048576: true; the input reads as it did. -/
def valComparesUptoRow : OpenClaim := { program := "ytplbjaandkdhjaadoor", sum := "769deab79b098bacc383c502849c34e0fd3831e6abf9664175430f897300973e", func := "cabinetry/cabinetrylaw01.ValCompares", spec := "valCompares", inPlace := ["internal/bytealg.IndexByteString", "internal/bytealg.IndexString", "internal/bytealg.abigen_runtime_cmpstring"], unfollowed := true, recurses := true, named := ["unicode/utf8.first", "unicode/utf8.acceptRanges", "internal/bytealg.MaxLen"], apart := false, laid := [("unicode/utf8.acceptRanges", laid_unicode_utf8_acceptRanges), ("unicode/utf8.first", laid_unicode_utf8_first)], narrowed := true }
def ValComparesUptoSaid : Prop := valComparesUptoRow.holds Tryd.pinned (OpenSpec.upto valComparesSpec)

/-- 'cabinetrylaw01.ValOrders', WHERE WHAT IT READS IS OF BULK AT MOST 1048576: true; the input reads as it did. -/
def valOrdersUptoRow : OpenClaim := { program := "ytplbjaandkdhjaadoor", sum := "769deab79b098bacc383c502849c34e0fd3831e6abf9664175430f897300973e", func := "cabinetry/cabinetrylaw01.ValOrders", spec := "valOrders", inPlace := ["internal/bytealg.IndexByteString", "internal/bytealg.IndexString", "internal/bytealg.abigen_runtime_cmpstring"], unfollowed := true, recurses := true, named := ["unicode/utf8.first", "unicode/utf8.acceptRanges", "internal/bytealg.MaxLen"], apart := false, laid := [("unicode/utf8.acceptRanges", laid_unicode_utf8_acceptRanges), ("unicode/utf8.first", laid_unicode_utf8_first)], narrowed := true }
def ValOrdersUptoSaid : Prop := valOrdersUptoRow.holds Tryd.pinned (OpenSpec.upto valOrdersSpec)

/-- 'cabinetrylaw01.ValParts', WHERE WHAT IT READS IS OF BULK AT MOST 1048576: true; the input reads as it did. -/
def valPartsUptoRow : OpenClaim := { program := "ytplbjaandkdhjaadoor", sum := "769deab79b098bacc383c502849c34e0fd3831e6abf9664175430f897300973e", func := "cabinetry/cabinetrylaw01.ValParts", spec := "valParts", inPlace := ["internal/bytealg.IndexByteString", "internal/bytealg.IndexString"], unfollowed := true, recurses := true, named := ["unicode/utf8.first", "unicode/utf8.acceptRanges", "internal/bytealg.MaxLen"], apart := false, laid := [("unicode/utf8.acceptRanges", laid_unicode_utf8_acceptRanges), ("unicode/utf8.first", laid_unicode_utf8_first)], narrowed := true }
def ValPartsUptoSaid : Prop := valPartsUptoRow.holds Tryd.pinned (OpenSpec.upto valPartsSpec)

/-- 'cabinetrylaw01.ValDays', WHERE WHAT IT READS IS OF BULK AT MOST 1048576: true; the input reads as it did. -/
def valDaysUptoRow : OpenClaim := { program := "ytplbjaandkdhjaadoor", sum := "769deab79b098bacc383c502849c34e0fd3831e6abf9664175430f897300973e", func := "cabinetry/cabinetrylaw01.ValDays", spec := "valDays", inPlace := ["internal/abi.NoEscape", "internal/bytealg.MakeNoZero", "internal/bytealg.IndexByteString", "internal/bytealg.IndexString"], unfollowed := true, recurses := true, named := ["unicode/utf8.first", "unicode/utf8.acceptRanges", "internal/bytealg.MaxLen"], apart := false, laid := [("unicode/utf8.acceptRanges", laid_unicode_utf8_acceptRanges), ("unicode/utf8.first", laid_unicode_utf8_first)], narrowed := true }
def ValDaysUptoSaid : Prop := valDaysUptoRow.holds Tryd.pinned (OpenSpec.upto valDaysSpec)

/-- 'cabinetrylaw01.ValValidates', WHERE WHAT IT READS IS OF BULK AT MOST 1048576: true; the input reads as it did. -/
def valValidatesUptoRow : OpenClaim := { program := "ytplbjaandkdhjaadoor", sum := "769deab79b098bacc383c502849c34e0fd3831e6abf9664175430f897300973e", func := "cabinetry/cabinetrylaw01.ValValidates", spec := "valValidates", inPlace := ["internal/bytealg.IndexByteString", "internal/bytealg.IndexString", "internal/abi.NoEscape", "internal/bytealg.MakeNoZero"], unfollowed := true, recurses := true, named := ["unicode/utf8.first", "unicode/utf8.acceptRanges", "internal/bytealg.MaxLen"], apart := false, laid := [("unicode/utf8.acceptRanges", laid_unicode_utf8_acceptRanges), ("unicode/utf8.first", laid_unicode_utf8_first)], narrowed := true }
def ValValidatesUptoSaid : Prop := valValidatesUptoRow.holds Tryd.pinned (OpenSpec.upto valValidatesSpec)

/-- 'cabinetrylaw01.ValSwaps', WHERE WHAT IT READS IS OF BULK AT MOST 1048576: true; the input reads as it did. -/
def valSwapsUptoRow : OpenClaim := { program := "ytplbjaandkdhjaadoor", sum := "769deab79b098bacc383c502849c34e0fd3831e6abf9664175430f897300973e", func := "cabinetry/cabinetrylaw01.ValSwaps", spec := "valSwaps", inPlace := ["internal/bytealg.IndexByteString", "internal/bytealg.IndexString", "internal/bytealg.CountString", "internal/abi.NoEscape", "internal/bytealg.MakeNoZero"], unfollowed := true, recurses := true, named := ["unicode/utf8.first", "unicode/utf8.acceptRanges", "internal/bytealg.MaxLen"], apart := false, laid := [("unicode/utf8.acceptRanges", laid_unicode_utf8_acceptRanges), ("unicode/utf8.first", laid_unicode_utf8_first)], narrowed := true }
def ValSwapsUptoSaid : Prop := valSwapsUptoRow.holds Tryd.pinned (OpenSpec.upto valSwapsSpec)

/-- 'cabinetrylaw01.ValNumbers', WHERE WHAT IT READS IS OF BULK AT MOST 1048576: true; the input reads as it did. -/
def valNumbersUptoRow : OpenClaim := { program := "ytplbjaandkdhjaadoor", sum := "769deab79b098bacc383c502849c34e0fd3831e6abf9664175430f897300973e", func := "cabinetry/cabinetrylaw01.ValNumbers", spec := "valNumbers", inPlace := ["internal/bytealg.IndexByteString", "internal/bytealg.IndexString", "internal/abi.NoEscape", "internal/bytealg.MakeNoZero"], unfollowed := true, recurses := true, named := ["unicode/utf8.first", "unicode/utf8.acceptRanges", "internal/bytealg.MaxLen"], apart := false, laid := [("unicode/utf8.acceptRanges", laid_unicode_utf8_acceptRanges), ("unicode/utf8.first", laid_unicode_utf8_first)], narrowed := true }
def ValNumbersUptoSaid : Prop := valNumbersUptoRow.holds Tryd.pinned (OpenSpec.upto valNumbersSpec)

/-- 'cabinetrylaw01.ValTrims', WHERE WHAT IT READS IS OF BULK AT MOST 1048576: true; the input reads as it did. -/
def valTrimsUptoRow : OpenClaim := { program := "ytplbjaandkdhjaadoor", sum := "769deab79b098bacc383c502849c34e0fd3831e6abf9664175430f897300973e", func := "cabinetry/cabinetrylaw01.ValTrims", spec := "valTrims", inPlace := ["internal/bytealg.IndexByteString", "internal/bytealg.IndexString", "internal/abi.NoEscape", "internal/bytealg.MakeNoZero"], unfollowed := true, recurses := true, named := ["unicode/utf8.first", "unicode/utf8.acceptRanges", "internal/bytealg.MaxLen"], apart := false, laid := [("unicode/utf8.acceptRanges", laid_unicode_utf8_acceptRanges), ("unicode/utf8.first", laid_unicode_utf8_first)], narrowed := true }
def ValTrimsUptoSaid : Prop := valTrimsUptoRow.holds Tryd.pinned (OpenSpec.upto valTrimsSpec)

/-- 'cabinetrylaw01.ValStamps', WHERE WHAT IT READS IS OF BULK AT MOST 1048576: true; the input reads as it did. -/
def valStampsUptoRow : OpenClaim := { program := "ytplbjaandkdhjaadoor", sum := "769deab79b098bacc383c502849c34e0fd3831e6abf9664175430f897300973e", func := "cabinetry/cabinetrylaw01.ValStamps", spec := "valStamps", inPlace := ["internal/bytealg.IndexByteString", "internal/bytealg.IndexString", "internal/abi.NoEscape", "internal/bytealg.MakeNoZero"], unfollowed := true, recurses := true, named := ["unicode/utf8.first", "unicode/utf8.acceptRanges", "internal/bytealg.MaxLen"], apart := false, laid := [("unicode/utf8.acceptRanges", laid_unicode_utf8_acceptRanges), ("unicode/utf8.first", laid_unicode_utf8_first)], narrowed := true }
def ValStampsUptoSaid : Prop := valStampsUptoRow.holds Tryd.pinned (OpenSpec.upto valStampsSpec)

end Rows
end Go.Proofs.YtplbjaandkdhjaaDoor
