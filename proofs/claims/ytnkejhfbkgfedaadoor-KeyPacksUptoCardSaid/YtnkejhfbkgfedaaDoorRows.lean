/-
  NARROWER THAN 'FOR EVERY INPUT', by the rows' own cells (each row's printed sentence says how): KeyEncodes: laid · KeyOrders: laid · KeyRanges: laid · KeyShorts: laid · KeyPrefixes: laid · KeyAsks: laid · KeyBegins: laid · KeyPacks: laid · KeyDecodes: laid · KeyBack: laid · KeySplits: laid.
  DERIVED. THE GIVEN ROWS OF THIS SEAT. 11 by the template 'for every input the law returns true; each argument reads behind the call as it read before'; 0 by the template 'total and deterministic' (their statements: YtnkejhfbkgfedaaDoorTotals.lean).
  GIVEN WITH THE SEED: the statements are not yours to turn. If you find one false, say at which input.
  Laid BY PROGRAM, IN A SANDBOX (cutbox-rows.mjs): the forced cells as the released guide's own fill.sh prints them over the translation 855af332712649cf… (all of the seat's roots in one cut). By AI agents, Wed Nov 11 2026. No macro, syntax, notation, axiom, sorry.
-/
import Derived.Test.YtnkejhfbkgfedaaDoorChecked
import GoSem.PinnedTables
import GoSem.Claim
import GoSem.ClaimJoined
import GoSem.ClaimMapViews
import Derived.JoinedTies
import Derived.KernelRfl
namespace Go.Proofs.YtnkejhfbkgfedaaDoor
/- THE CELL 'sum', in the pinned program and in every row, IS THE sha256 OF THE DUMP (.gsa) THAT YtnkejhfbkgfedaaDoorProg.lean LOADS. Nothing in Lean hashes anything: it is a label: what it is worth is what the hold of that sum in a sandbox is worth. -/
noncomputable def Tryd.pinned : Pinned := { name := "ytnkejhfbkgfedaadoor", sum := "855af332712649cf8c0e0d37d07456a45daccdd74b6e5873e25371917bdccbf8", checked := Tryd.checked }
namespace Rows
def none {H : Type} : Left H := { results := [], args := [] }

/- WHAT THE LISTED PACKAGE-LEVEL VARIABLES READ AS WHEN THE CALL BEGINS. Each datum BY PROGRAM (the guide's laid-datum.mjs) off the statement by which the dump's own 'gosem.cut.vars' lays the variable. In a bare row this is a premise. The card (YtnkejhfbkgfedaaDoorCards.lean) ties it to the program's text. -/
def laid_unicode_utf8_acceptRanges {H : Type} : DataW H := .agg [.agg [.lit (.int .u8 128), .lit (.int .u8 191)], .agg [.lit (.int .u8 160), .lit (.int .u8 191)], .agg [.lit (.int .u8 128), .lit (.int .u8 159)], .agg [.lit (.int .u8 144), .lit (.int .u8 191)], .agg [.lit (.int .u8 128), .lit (.int .u8 143)], .agg [.lit (.int .u8 0), .lit (.int .u8 0)], .agg [.lit (.int .u8 0), .lit (.int .u8 0)], .agg [.lit (.int .u8 0), .lit (.int .u8 0)], .agg [.lit (.int .u8 0), .lit (.int .u8 0)], .agg [.lit (.int .u8 0), .lit (.int .u8 0)], .agg [.lit (.int .u8 0), .lit (.int .u8 0)], .agg [.lit (.int .u8 0), .lit (.int .u8 0)], .agg [.lit (.int .u8 0), .lit (.int .u8 0)], .agg [.lit (.int .u8 0), .lit (.int .u8 0)], .agg [.lit (.int .u8 0), .lit (.int .u8 0)], .agg [.lit (.int .u8 0), .lit (.int .u8 0)]]
/-- One of Go's own tables, pinned by name: the form's constant. -/
def laid_unicode_utf8_first : DataW Unit := Go.Pinned.utf8First

/-- 'cabinetrylaw09.KeyEncodes': WHATEVER THE INPUT: true; the input reads as it did. -/
def keyEncodesSpec : ChangeSpec := { name := "keyEncodes", fn := fun _ => fun
  | [d1, d2] => { results := [.lit (.bool true)], args := [d1, d2] }
  | _ => none }
def keyEncodesRow : OpenClaim := { program := "ytnkejhfbkgfedaadoor", sum := "855af332712649cf8c0e0d37d07456a45daccdd74b6e5873e25371917bdccbf8", func := "cabinetry/cabinetrylaw09.KeyEncodes", spec := "keyEncodes", inPlace := ["internal/bytealg.CountString", "internal/bytealg.IndexByteString", "internal/bytealg.IndexString", "internal/abi.NoEscape", "internal/bytealg.MakeNoZero"], unfollowed := true, recurses := true, named := ["internal/bytealg.MaxLen", "unicode/utf8.first", "unicode/utf8.acceptRanges"], apart := false, laid := [("unicode/utf8.acceptRanges", laid_unicode_utf8_acceptRanges), ("unicode/utf8.first", laid_unicode_utf8_first)] }
def KeyEncodesSaid : Prop := keyEncodesRow.holds Tryd.pinned (OpenSpec.ofChange keyEncodesSpec)

/-- ITS FALSE NEIGHBOUR: 'it returns false'. Refute it at one input. -/
def keyEncodesWrong : ChangeSpec := { name := "keyEncodes", fn := fun _ => fun
  | [d1, d2] => { results := [.lit (.bool false)], args := [d1, d2] }
  | _ => none }
def KeyEncodesWrongFalsely : Prop := keyEncodesRow.holds Tryd.pinned (OpenSpec.ofChange keyEncodesWrong)

/-- 'cabinetrylaw09.KeyOrders': WHATEVER THE INPUT: true; the input reads as it did. -/
def keyOrdersSpec : ChangeSpec := { name := "keyOrders", fn := fun _ => fun
  | [d1, d2, d3] => { results := [.lit (.bool true)], args := [d1, d2, d3] }
  | _ => none }
def keyOrdersRow : OpenClaim := { program := "ytnkejhfbkgfedaadoor", sum := "855af332712649cf8c0e0d37d07456a45daccdd74b6e5873e25371917bdccbf8", func := "cabinetry/cabinetrylaw09.KeyOrders", spec := "keyOrders", inPlace := ["internal/bytealg.CountString", "internal/bytealg.IndexByteString", "internal/bytealg.IndexString", "internal/abi.NoEscape", "internal/bytealg.MakeNoZero"], unfollowed := true, recurses := true, named := ["internal/bytealg.MaxLen", "unicode/utf8.first", "unicode/utf8.acceptRanges"], apart := false, laid := [("unicode/utf8.acceptRanges", laid_unicode_utf8_acceptRanges), ("unicode/utf8.first", laid_unicode_utf8_first)] }
def KeyOrdersSaid : Prop := keyOrdersRow.holds Tryd.pinned (OpenSpec.ofChange keyOrdersSpec)

/-- ITS FALSE NEIGHBOUR: 'it returns false'. Refute it at one input. -/
def keyOrdersWrong : ChangeSpec := { name := "keyOrders", fn := fun _ => fun
  | [d1, d2, d3] => { results := [.lit (.bool false)], args := [d1, d2, d3] }
  | _ => none }
def KeyOrdersWrongFalsely : Prop := keyOrdersRow.holds Tryd.pinned (OpenSpec.ofChange keyOrdersWrong)

/-- 'cabinetrylaw09.KeyRanges': WHATEVER THE INPUT: true; the input reads as it did. -/
def keyRangesSpec : ChangeSpec := { name := "keyRanges", fn := fun _ => fun
  | [d1, d2, d3] => { results := [.lit (.bool true)], args := [d1, d2, d3] }
  | _ => none }
def keyRangesRow : OpenClaim := { program := "ytnkejhfbkgfedaadoor", sum := "855af332712649cf8c0e0d37d07456a45daccdd74b6e5873e25371917bdccbf8", func := "cabinetry/cabinetrylaw09.KeyRanges", spec := "keyRanges", inPlace := ["internal/bytealg.CountString", "internal/bytealg.IndexByteString", "internal/bytealg.IndexString", "internal/abi.NoEscape", "internal/bytealg.MakeNoZero"], unfollowed := true, recurses := true, named := ["internal/bytealg.MaxLen", "unicode/utf8.first", "unicode/utf8.acceptRanges"], apart := false, laid := [("unicode/utf8.acceptRanges", laid_unicode_utf8_acceptRanges), ("unicode/utf8.first", laid_unicode_utf8_first)] }
def KeyRangesSaid : Prop := keyRangesRow.holds Tryd.pinned (OpenSpec.ofChange keyRangesSpec)

/-- ITS FALSE NEIGHBOUR: 'it returns false'. Refute it at one input. -/
def keyRangesWrong : ChangeSpec := { name := "keyRanges", fn := fun _ => fun
  | [d1, d2, d3] => { results := [.lit (.bool false)], args := [d1, d2, d3] }
  | _ => none }
def KeyRangesWrongFalsely : Prop := keyRangesRow.holds Tryd.pinned (OpenSpec.ofChange keyRangesWrong)

/-- 'cabinetrylaw09.KeyShorts': WHATEVER THE INPUT: true; the input reads as it did. -/
def keyShortsSpec : ChangeSpec := { name := "keyShorts", fn := fun _ => fun
  | [d1, d2] => { results := [.lit (.bool true)], args := [d1, d2] }
  | _ => none }
def keyShortsRow : OpenClaim := { program := "ytnkejhfbkgfedaadoor", sum := "855af332712649cf8c0e0d37d07456a45daccdd74b6e5873e25371917bdccbf8", func := "cabinetry/cabinetrylaw09.KeyShorts", spec := "keyShorts", inPlace := ["internal/bytealg.CountString", "internal/bytealg.IndexByteString", "internal/bytealg.IndexString", "internal/abi.NoEscape", "internal/bytealg.MakeNoZero"], unfollowed := true, recurses := true, named := ["internal/bytealg.MaxLen", "unicode/utf8.first", "unicode/utf8.acceptRanges"], apart := false, laid := [("unicode/utf8.acceptRanges", laid_unicode_utf8_acceptRanges), ("unicode/utf8.first", laid_unicode_utf8_first)] }
def KeyShortsSaid : Prop := keyShortsRow.holds Tryd.pinned (OpenSpec.ofChange keyShortsSpec)

/-- ITS FALSE NEIGHBOUR: 'it returns false'. Refute it at one input. -/
def keyShortsWrong : ChangeSpec := { name := "keyShorts", fn := fun _ => fun
  | [d1, d2] => { results := [.lit (.bool false)], args := [d1, d2] }
  | _ => none }
def KeyShortsWrongFalsely : Prop := keyShortsRow.holds Tryd.pinned (OpenSpec.ofChange keyShortsWrong)

/-- 'cabinetrylaw09.KeyPrefixes': WHATEVER THE INPUT: true; the input reads as it did. -/
def keyPrefixesSpec : ChangeSpec := { name := "keyPrefixes", fn := fun _ => fun
  | [d1, d2] => { results := [.lit (.bool true)], args := [d1, d2] }
  | _ => none }
def keyPrefixesRow : OpenClaim := { program := "ytnkejhfbkgfedaadoor", sum := "855af332712649cf8c0e0d37d07456a45daccdd74b6e5873e25371917bdccbf8", func := "cabinetry/cabinetrylaw09.KeyPrefixes", spec := "keyPrefixes", inPlace := ["internal/bytealg.CountString", "internal/bytealg.IndexByteString", "internal/bytealg.IndexString", "internal/abi.NoEscape", "internal/bytealg.MakeNoZero"], unfollowed := true, recurses := true, named := ["internal/bytealg.MaxLen", "unicode/utf8.first", "unicode/utf8.acceptRanges"], apart := false, laid := [("unicode/utf8.acceptRanges", laid_unicode_utf8_acceptRanges), ("unicode/utf8.first", laid_unicode_utf8_first)] }
def KeyPrefixesSaid : Prop := keyPrefixesRow.holds Tryd.pinned (OpenSpec.ofChange keyPrefixesSpec)

/-- ITS FALSE NEIGHBOUR: 'it returns false'. Refute it at one input. -/
def keyPrefixesWrong : ChangeSpec := { name := "keyPrefixes", fn := fun _ => fun
  | [d1, d2] => { results := [.lit (.bool false)], args := [d1, d2] }
  | _ => none }
def KeyPrefixesWrongFalsely : Prop := keyPrefixesRow.holds Tryd.pinned (OpenSpec.ofChange keyPrefixesWrong)

/-- 'cabinetrylaw09.KeyAsks': WHATEVER THE INPUT: true; the input reads as it did. -/
def keyAsksSpec : ChangeSpec := { name := "keyAsks", fn := fun _ => fun
  | [d1, d2, d3] => { results := [.lit (.bool true)], args := [d1, d2, d3] }
  | _ => none }
def keyAsksRow : OpenClaim := { program := "ytnkejhfbkgfedaadoor", sum := "855af332712649cf8c0e0d37d07456a45daccdd74b6e5873e25371917bdccbf8", func := "cabinetry/cabinetrylaw09.KeyAsks", spec := "keyAsks", inPlace := ["internal/bytealg.CountString", "internal/bytealg.IndexByteString", "internal/bytealg.IndexString", "internal/abi.NoEscape", "internal/bytealg.MakeNoZero"], unfollowed := true, recurses := true, named := ["internal/bytealg.MaxLen", "unicode/utf8.first", "unicode/utf8.acceptRanges"], apart := false, laid := [("unicode/utf8.acceptRanges", laid_unicode_utf8_acceptRanges), ("unicode/utf8.first", laid_unicode_utf8_first)] }
def KeyAsksSaid : Prop := keyAsksRow.holds Tryd.pinned (OpenSpec.ofChange keyAsksSpec)

/-- ITS FALSE NEIGHBOUR: 'it returns false'. Refute it at one input. -/
def keyAsksWrong : ChangeSpec := { name := "keyAsks", fn := fun _ => fun
  | [d1, d2, d3] => { results := [.lit (.bool false)], args := [d1, d2, d3] }
  | _ => none }
def KeyAsksWrongFalsely : Prop := keyAsksRow.holds Tryd.pinned (OpenSpec.ofChange keyAsksWrong)

/-- 'cabinetrylaw09.KeyBegins': WHATEVER THE INPUT: true; the input reads as it did. -/
def keyBeginsSpec : ChangeSpec := { name := "keyBegins", fn := fun _ => fun
  | [d1, d2, d3] => { results := [.lit (.bool true)], args := [d1, d2, d3] }
  | _ => none }
def keyBeginsRow : OpenClaim := { program := "ytnkejhfbkgfedaadoor", sum := "855af332712649cf8c0e0d37d07456a45daccdd74b6e5873e25371917bdccbf8", func := "cabinetry/cabinetrylaw09.KeyBegins", spec := "keyBegins", inPlace := ["internal/bytealg.CountString", "internal/bytealg.IndexByteString", "internal/bytealg.IndexString", "internal/abi.NoEscape", "internal/bytealg.MakeNoZero"], unfollowed := true, recurses := true, named := ["internal/bytealg.MaxLen", "unicode/utf8.first", "unicode/utf8.acceptRanges"], apart := false, laid := [("unicode/utf8.acceptRanges", laid_unicode_utf8_acceptRanges), ("unicode/utf8.first", laid_unicode_utf8_first)] }
def KeyBeginsSaid : Prop := keyBeginsRow.holds Tryd.pinned (OpenSpec.ofChange keyBeginsSpec)

/-- ITS FALSE NEIGHBOUR: 'it returns false'. Refute it at one input. -/
def keyBeginsWrong : ChangeSpec := { name := "keyBegins", fn := fun _ => fun
  | [d1, d2, d3] => { results := [.lit (.bool false)], args := [d1, d2, d3] }
  | _ => none }
def KeyBeginsWrongFalsely : Prop := keyBeginsRow.holds Tryd.pinned (OpenSpec.ofChange keyBeginsWrong)

/-- 'cabinetrylaw09.KeyPacks': WHATEVER THE INPUT: true; the input reads as it did. -/
def keyPacksSpec : ChangeSpec := { name := "keyPacks", fn := fun _ => fun
  | [d1, d2] => { results := [.lit (.bool true)], args := [d1, d2] }
  | _ => none }
def keyPacksRow : OpenClaim := { program := "ytnkejhfbkgfedaadoor", sum := "855af332712649cf8c0e0d37d07456a45daccdd74b6e5873e25371917bdccbf8", func := "cabinetry/cabinetrylaw09.KeyPacks", spec := "keyPacks", inPlace := ["internal/bytealg.CountString", "internal/bytealg.IndexByteString", "internal/bytealg.IndexString", "internal/abi.NoEscape", "internal/bytealg.MakeNoZero"], unfollowed := true, recurses := true, named := ["internal/bytealg.MaxLen", "unicode/utf8.first", "unicode/utf8.acceptRanges"], apart := false, laid := [("unicode/utf8.acceptRanges", laid_unicode_utf8_acceptRanges), ("unicode/utf8.first", laid_unicode_utf8_first)] }
def KeyPacksSaid : Prop := keyPacksRow.holds Tryd.pinned (OpenSpec.ofChange keyPacksSpec)

/-- ITS FALSE NEIGHBOUR: 'it returns false'. Refute it at one input. -/
def keyPacksWrong : ChangeSpec := { name := "keyPacks", fn := fun _ => fun
  | [d1, d2] => { results := [.lit (.bool false)], args := [d1, d2] }
  | _ => none }
def KeyPacksWrongFalsely : Prop := keyPacksRow.holds Tryd.pinned (OpenSpec.ofChange keyPacksWrong)

/-- 'cabinetrylaw09.KeyDecodes': WHATEVER THE INPUT: true; the input reads as it did. -/
def keyDecodesSpec : ChangeSpec := { name := "keyDecodes", fn := fun _ => fun
  | [d1, d2] => { results := [.lit (.bool true)], args := [d1, d2] }
  | _ => none }
def keyDecodesRow : OpenClaim := { program := "ytnkejhfbkgfedaadoor", sum := "855af332712649cf8c0e0d37d07456a45daccdd74b6e5873e25371917bdccbf8", func := "cabinetry/cabinetrylaw09.KeyDecodes", spec := "keyDecodes", inPlace := ["internal/bytealg.CountString", "internal/bytealg.IndexByteString", "internal/bytealg.IndexString", "internal/abi.NoEscape", "internal/bytealg.MakeNoZero"], unfollowed := true, recurses := true, named := ["internal/bytealg.MaxLen", "unicode/utf8.first", "unicode/utf8.acceptRanges"], apart := false, laid := [("unicode/utf8.acceptRanges", laid_unicode_utf8_acceptRanges), ("unicode/utf8.first", laid_unicode_utf8_first)] }
def KeyDecodesSaid : Prop := keyDecodesRow.holds Tryd.pinned (OpenSpec.ofChange keyDecodesSpec)

/-- ITS FALSE NEIGHBOUR: 'it returns false'. Refute it at one input. -/
def keyDecodesWrong : ChangeSpec := { name := "keyDecodes", fn := fun _ => fun
  | [d1, d2] => { results := [.lit (.bool false)], args := [d1, d2] }
  | _ => none }
def KeyDecodesWrongFalsely : Prop := keyDecodesRow.holds Tryd.pinned (OpenSpec.ofChange keyDecodesWrong)

/-- 'cabinetrylaw09.KeyBack': WHATEVER THE INPUT: true; the input reads as it did. -/
def keyBackSpec : ChangeSpec := { name := "keyBack", fn := fun _ => fun
  | [d1, d2, d3] => { results := [.lit (.bool true)], args := [d1, d2, d3] }
  | _ => none }
def keyBackRow : OpenClaim := { program := "ytnkejhfbkgfedaadoor", sum := "855af332712649cf8c0e0d37d07456a45daccdd74b6e5873e25371917bdccbf8", func := "cabinetry/cabinetrylaw09.KeyBack", spec := "keyBack", inPlace := ["internal/bytealg.CountString", "internal/bytealg.IndexByteString", "internal/bytealg.IndexString", "internal/abi.NoEscape", "internal/bytealg.MakeNoZero"], unfollowed := true, recurses := true, named := ["internal/bytealg.MaxLen", "unicode/utf8.first", "unicode/utf8.acceptRanges"], apart := false, laid := [("unicode/utf8.acceptRanges", laid_unicode_utf8_acceptRanges), ("unicode/utf8.first", laid_unicode_utf8_first)] }
def KeyBackSaid : Prop := keyBackRow.holds Tryd.pinned (OpenSpec.ofChange keyBackSpec)

/-- ITS FALSE NEIGHBOUR: 'it returns false'. Refute it at one input. -/
def keyBackWrong : ChangeSpec := { name := "keyBack", fn := fun _ => fun
  | [d1, d2, d3] => { results := [.lit (.bool false)], args := [d1, d2, d3] }
  | _ => none }
def KeyBackWrongFalsely : Prop := keyBackRow.holds Tryd.pinned (OpenSpec.ofChange keyBackWrong)

/-- 'cabinetrylaw09.KeySplits': WHATEVER THE INPUT: true; the input reads as it did. -/
def keySplitsSpec : ChangeSpec := { name := "keySplits", fn := fun _ => fun
  | [d1, d2] => { results := [.lit (.bool true)], args := [d1, d2] }
  | _ => none }
def keySplitsRow : OpenClaim := { program := "ytnkejhfbkgfedaadoor", sum := "855af332712649cf8c0e0d37d07456a45daccdd74b6e5873e25371917bdccbf8", func := "cabinetry/cabinetrylaw09.KeySplits", spec := "keySplits", inPlace := ["internal/bytealg.CountString", "internal/bytealg.IndexByteString", "internal/bytealg.IndexString", "internal/abi.NoEscape", "internal/bytealg.MakeNoZero"], unfollowed := true, recurses := true, named := ["internal/bytealg.MaxLen", "unicode/utf8.first", "unicode/utf8.acceptRanges"], apart := false, laid := [("unicode/utf8.acceptRanges", laid_unicode_utf8_acceptRanges), ("unicode/utf8.first", laid_unicode_utf8_first)] }
def KeySplitsSaid : Prop := keySplitsRow.holds Tryd.pinned (OpenSpec.ofChange keySplitsSpec)

/-- ITS FALSE NEIGHBOUR: 'it returns false'. Refute it at one input. -/
def keySplitsWrong : ChangeSpec := { name := "keySplits", fn := fun _ => fun
  | [d1, d2] => { results := [.lit (.bool false)], args := [d1, d2] }
  | _ => none }
def KeySplitsWrongFalsely : Prop := keySplitsRow.holds Tryd.pinned (OpenSpec.ofChange keySplitsWrong)

/- THE SECOND FORM. 'bulk': how many values and letters a reading holds, each counted each time it is reached (what is shared counts as often as it is met; a slice's spare places count too). A statement '..UptoSaid' is the law's where the arguments, and the package variables that the reading takes, are together of bulk at most 1048576: NARROWER than '..Said'. Prove '..Said' where nothing that the law and all that it calls make is longer than what came in: it says more and counts as full. Else prove '..UptoSaid'. A law counts once. -/
mutual
def uptoBulk {H : Type} : DataW H → Nat
  | .lit (.string bytes) => bytes.length + 1
  | .lit _ => 1
  | .nil => 1
  | .ptr d => uptoBulk d + 1
  | .slice elems spare => uptoBulkAll elems + uptoBulkAll spare + 1
  | .agg parts => uptoBulkAll parts + 1
  | .iface _ d => uptoBulk d + 1
  | .map entries => uptoBulkEntries entries + 1
  | .held _ => 1
def uptoBulkAll {H : Type} : List (DataW H) → Nat
  | [] => 0
  | d :: r => uptoBulk d + uptoBulkAll r
def uptoBulkEntries {H : Type} : List (Lit × DataW H) → Nat
  | [] => 0
  | x :: r => uptoBulkEntry x + uptoBulkEntries r
def uptoBulkEntry {H : Type} : Lit × DataW H → Nat
  | (.string bytes, d) => bytes.length + uptoBulk d + 1
  | (_, d) => uptoBulk d + 1
 end
def uptoSmall : (H : Type) → List (DataW H) → Bool := fun _ ds => decide (uptoBulkAll ds ≤ 1048576)
def OpenSpec.upto (s : _root_.Go.ChangeSpec) : _root_.Go.OpenSpec := { _root_.Go.OpenSpec.ofChange s with cond := some uptoSmall }

/-- 'cabinetrylaw09.KeyEncodes', WHERE WHAT IT READS IS OF BULK AT MOST 1048576: true; the input reads as it did. -/
def keyEncodesUptoRow : OpenClaim := { program := "ytnkejhfbkgfedaadoor", sum := "855af332712649cf8c0e0d37d07456a45daccdd74b6e5873e25371917bdccbf8", func := "cabinetry/cabinetrylaw09.KeyEncodes", spec := "keyEncodes", inPlace := ["internal/bytealg.CountString", "internal/bytealg.IndexByteString", "internal/bytealg.IndexString", "internal/abi.NoEscape", "internal/bytealg.MakeNoZero"], unfollowed := true, recurses := true, named := ["internal/bytealg.MaxLen", "unicode/utf8.first", "unicode/utf8.acceptRanges"], apart := false, laid := [("unicode/utf8.acceptRanges", laid_unicode_utf8_acceptRanges), ("unicode/utf8.first", laid_unicode_utf8_first)], narrowed := true }
def KeyEncodesUptoSaid : Prop := keyEncodesUptoRow.holds Tryd.pinned (OpenSpec.upto keyEncodesSpec)

/-- 'cabinetrylaw09.KeyOrders', WHERE WHAT IT READS IS OF BULK AT MOST 1048576: true; the input reads as it did. -/
def keyOrdersUptoRow : OpenClaim := { program := "ytnkejhfbkgfedaadoor", sum := "855af332712649cf8c0e0d37d07456a45daccdd74b6e5873e25371917bdccbf8", func := "cabinetry/cabinetrylaw09.KeyOrders", spec := "keyOrders", inPlace := ["internal/bytealg.CountString", "internal/bytealg.IndexByteString", "internal/bytealg.IndexString", "internal/abi.NoEscape", "internal/bytealg.MakeNoZero"], unfollowed := true, recurses := true, named := ["internal/bytealg.MaxLen", "unicode/utf8.first", "unicode/utf8.acceptRanges"], apart := false, laid := [("unicode/utf8.acceptRanges", laid_unicode_utf8_acceptRanges), ("unicode/utf8.first", laid_unicode_utf8_first)], narrowed := true }
def KeyOrdersUptoSaid : Prop := keyOrdersUptoRow.holds Tryd.pinned (OpenSpec.upto keyOrdersSpec)

/-- 'cabinetrylaw09.KeyRanges', WHERE WHAT IT READS IS OF BULK AT MOST 1048576: true; the input reads as it did. -/
def keyRangesUptoRow : OpenClaim := { program := "ytnkejhfbkgfedaadoor", sum := "855af332712649cf8c0e0d37d07456a45daccdd74b6e5873e25371917bdccbf8", func := "cabinetry/cabinetrylaw09.KeyRanges", spec := "keyRanges", inPlace := ["internal/bytealg.CountString", "internal/bytealg.IndexByteString", "internal/bytealg.IndexString", "internal/abi.NoEscape", "internal/bytealg.MakeNoZero"], unfollowed := true, recurses := true, named := ["internal/bytealg.MaxLen", "unicode/utf8.first", "unicode/utf8.acceptRanges"], apart := false, laid := [("unicode/utf8.acceptRanges", laid_unicode_utf8_acceptRanges), ("unicode/utf8.first", laid_unicode_utf8_first)], narrowed := true }
def KeyRangesUptoSaid : Prop := keyRangesUptoRow.holds Tryd.pinned (OpenSpec.upto keyRangesSpec)

/-- 'cabinetrylaw09.KeyShorts', WHERE WHAT IT READS IS OF BULK AT MOST 1048576: true; the input reads as it did. -/
def keyShortsUptoRow : OpenClaim := { program := "ytnkejhfbkgfedaadoor", sum := "855af332712649cf8c0e0d37d07456a45daccdd74b6e5873e25371917bdccbf8", func := "cabinetry/cabinetrylaw09.KeyShorts", spec := "keyShorts", inPlace := ["internal/bytealg.CountString", "internal/bytealg.IndexByteString", "internal/bytealg.IndexString", "internal/abi.NoEscape", "internal/bytealg.MakeNoZero"], unfollowed := true, recurses := true, named := ["internal/bytealg.MaxLen", "unicode/utf8.first", "unicode/utf8.acceptRanges"], apart := false, laid := [("unicode/utf8.acceptRanges", laid_unicode_utf8_acceptRanges), ("unicode/utf8.first", laid_unicode_utf8_first)], narrowed := true }
def KeyShortsUptoSaid : Prop := keyShortsUptoRow.holds Tryd.pinned (OpenSpec.upto keyShortsSpec)

/-- 'cabinetrylaw09.KeyPrefixes', WHERE WHAT IT READS IS OF BULK AT MOST 1048576: true; the input reads as it did. -/
def keyPrefixesUptoRow : OpenClaim := { program := "ytnkejhfbkgfedaadoor", sum := "855af332712649cf8c0e0d37d07456a45daccdd74b6e5873e25371917bdccbf8", func := "cabinetry/cabinetrylaw09.KeyPrefixes", spec := "keyPrefixes", inPlace := ["internal/bytealg.CountString", "internal/bytealg.IndexByteString", "internal/bytealg.IndexString", "internal/abi.NoEscape", "internal/bytealg.MakeNoZero"], unfollowed := true, recurses := true, named := ["internal/bytealg.MaxLen", "unicode/utf8.first", "unicode/utf8.acceptRanges"], apart := false, laid := [("unicode/utf8.acceptRanges", laid_unicode_utf8_acceptRanges), ("unicode/utf8.first", laid_unicode_utf8_first)], narrowed := true }
def KeyPrefixesUptoSaid : Prop := keyPrefixesUptoRow.holds Tryd.pinned (OpenSpec.upto keyPrefixesSpec)

/-- 'cabinetrylaw09.KeyAsks', WHERE WHAT IT READS IS OF BULK AT MOST 1048576: true; the input reads as it did. -/
def keyAsksUptoRow : OpenClaim := { program := "ytnkejhfbkgfedaadoor", sum := "855af332712649cf8c0e0d37d07456a45daccdd74b6e5873e25371917bdccbf8", func := "cabinetry/cabinetrylaw09.KeyAsks", spec := "keyAsks", inPlace := ["internal/bytealg.CountString", "internal/bytealg.IndexByteString", "internal/bytealg.IndexString", "internal/abi.NoEscape", "internal/bytealg.MakeNoZero"], unfollowed := true, recurses := true, named := ["internal/bytealg.MaxLen", "unicode/utf8.first", "unicode/utf8.acceptRanges"], apart := false, laid := [("unicode/utf8.acceptRanges", laid_unicode_utf8_acceptRanges), ("unicode/utf8.first", laid_unicode_utf8_first)], narrowed := true }
def KeyAsksUptoSaid : Prop := keyAsksUptoRow.holds Tryd.pinned (OpenSpec.upto keyAsksSpec)

/-- 'cabinetrylaw09.KeyBegins', WHERE WHAT IT READS IS OF BULK AT MOST 1048576: true; the input reads as it did. -/
def keyBeginsUptoRow : OpenClaim := { program := "ytnkejhfbkgfedaadoor", sum := "855af332712649cf8c0e0d37d07456a45daccdd74b6e5873e25371917bdccbf8", func := "cabinetry/cabinetrylaw09.KeyBegins", spec := "keyBegins", inPlace := ["internal/bytealg.CountString", "internal/bytealg.IndexByteString", "internal/bytealg.IndexString", "internal/abi.NoEscape", "internal/bytealg.MakeNoZero"], unfollowed := true, recurses := true, named := ["internal/bytealg.MaxLen", "unicode/utf8.first", "unicode/utf8.acceptRanges"], apart := false, laid := [("unicode/utf8.acceptRanges", laid_unicode_utf8_acceptRanges), ("unicode/utf8.first", laid_unicode_utf8_first)], narrowed := true }
def KeyBeginsUptoSaid : Prop := keyBeginsUptoRow.holds Tryd.pinned (OpenSpec.upto keyBeginsSpec)

/-- 'cabinetrylaw09.KeyPacks', WHERE WHAT IT READS IS OF BULK AT MOST 1048576: true; the input reads as it did. -/
def keyPacksUptoRow : OpenClaim := { program := "ytnkejhfbkgfedaadoor", sum := "855af332712649cf8c0e0d37d07456a45daccdd74b6e5873e25371917bdccbf8", func := "cabinetry/cabinetrylaw09.KeyPacks", spec := "keyPacks", inPlace := ["internal/bytealg.CountString", "internal/bytealg.IndexByteString", "internal/bytealg.IndexString", "internal/abi.NoEscape", "internal/bytealg.MakeNoZero"], unfollowed := true, recurses := true, named := ["internal/bytealg.MaxLen", "unicode/utf8.first", "unicode/utf8.acceptRanges"], apart := false, laid := [("unicode/utf8.acceptRanges", laid_unicode_utf8_acceptRanges), ("unicode/utf8.first", laid_unicode_utf8_first)], narrowed := true }
def KeyPacksUptoSaid : Prop := keyPacksUptoRow.holds Tryd.pinned (OpenSpec.upto keyPacksSpec)

/-- 'cabinetrylaw09.KeyDecodes', WHERE WHAT IT READS IS OF BULK AT MOST 1048576: true; the input reads as it did. -/
def keyDecodesUptoRow : OpenClaim := { program := "ytnkejhfbkgfedaadoor", sum := "855af332712649cf8c0e0d37d07456a45daccdd74b6e5873e25371917bdccbf8", func := "cabinetry/cabinetrylaw09.KeyDecodes", spec := "keyDecodes", inPlace := ["internal/bytealg.CountString", "internal/bytealg.IndexByteString", "internal/bytealg.IndexString", "internal/abi.NoEscape", "internal/bytealg.MakeNoZero"], unfollowed := true, recurses := true, named := ["internal/bytealg.MaxLen", "unicode/utf8.first", "unicode/utf8.acceptRanges"], apart := false, laid := [("unicode/utf8.acceptRanges", laid_unicode_utf8_acceptRanges), ("unicode/utf8.first", laid_unicode_utf8_first)], narrowed := true }
def KeyDecodesUptoSaid : Prop := keyDecodesUptoRow.holds Tryd.pinned (OpenSpec.upto keyDecodesSpec)

/-- 'cabinetrylaw09.KeyBack', WHERE WHAT IT READS IS OF BULK AT MOST 1048576: true; the input reads as it did. -/
def keyBackUptoRow : OpenClaim := { program := "ytnkejhfbkgfedaadoor", sum := "855af332712649cf8c0e0d37d07456a45daccdd74b6e5873e25371917bdccbf8", func := "cabinetry/cabinetrylaw09.KeyBack", spec := "keyBack", inPlace := ["internal/bytealg.CountString", "internal/bytealg.IndexByteString", "internal/bytealg.IndexString", "internal/abi.NoEscape", "internal/bytealg.MakeNoZero"], unfollowed := true, recurses := true, named := ["internal/bytealg.MaxLen", "unicode/utf8.first", "unicode/utf8.acceptRanges"], apart := false, laid := [("unicode/utf8.acceptRanges", laid_unicode_utf8_acceptRanges), ("unicode/utf8.first", laid_unicode_utf8_first)], narrowed := true }
def KeyBackUptoSaid : Prop := keyBackUptoRow.holds Tryd.pinned (OpenSpec.upto keyBackSpec)

/-- 'cabinetrylaw09.KeySplits', WHERE WHAT IT READS IS OF BULK AT MOST 1048576: true; the input reads as it did. -/
def keySplitsUptoRow : OpenClaim := { program := "ytnkejhfbkgfedaadoor", sum := "855af332712649cf8c0e0d37d07456a45daccdd74b6e5873e25371917bdccbf8", func := "cabinetry/cabinetrylaw09.KeySplits", spec := "keySplits", inPlace := ["internal/bytealg.CountString", "internal/bytealg.IndexByteString", "internal/bytealg.IndexString", "internal/abi.NoEscape", "internal/bytealg.MakeNoZero"], unfollowed := true, recurses := true, named := ["internal/bytealg.MaxLen", "unicode/utf8.first", "unicode/utf8.acceptRanges"], apart := false, laid := [("unicode/utf8.acceptRanges", laid_unicode_utf8_acceptRanges), ("unicode/utf8.first", laid_unicode_utf8_first)], narrowed := true }
def KeySplitsUptoSaid : Prop := keySplitsUptoRow.holds Tryd.pinned (OpenSpec.upto keySplitsSpec)

end Rows
end Go.Proofs.YtnkejhfbkgfedaaDoor
