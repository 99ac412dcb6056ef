/-
  NARROWER THAN 'FOR EVERY INPUT', by the rows' own cells (each row's printed sentence says how): AttrAsks: laid · AttrBelow: laid · AttrBack: laid · AttrEach: laid · AttrEnds: laid · IgnoreParses: laid · IgnoreTells: laid · IgnoreLast: laid · IgnoreElsewhere: laid · IgnoreBelow: laid.
  DERIVED. THE GIVEN ROWS OF THIS SEAT. 10 by the template 'for every input the law returns true; each argument reads behind the call as it read before'; 0 by the template 'total and deterministic' (their statements: YtcahaecjjochbaaDoorTotals.lean).
  GIVEN WITH THE SEED: the statements are not yours to turn. If you find one false, say at which input.
  Laid BY PROGRAM, IN A SANDBOX (cutbox-rows.mjs): the forced cells as the released guide's own fill.sh prints them over the translation 27c602d8f6244296… (all of the seat's roots in one cut). By AI agents, Wed Nov 11 2026. No macro, syntax, notation, axiom, sorry.
-/
import Derived.Test.YtcahaecjjochbaaDoorChecked
import GoSem.PinnedTables
import GoSem.Claim
import GoSem.ClaimJoined
import GoSem.ClaimMapViews
import Derived.JoinedTies
import Derived.KernelRfl
namespace Go.Proofs.YtcahaecjjochbaaDoor
/- THE CELL 'sum', in the pinned program and in every row, IS THE sha256 OF THE DUMP (.gsa) THAT YtcahaecjjochbaaDoorProg.lean LOADS. Nothing in Lean hashes anything: it is a label: what it is worth is what the hold of that sum in a sandbox is worth. -/
noncomputable def Tryd.pinned : Pinned := { name := "ytcahaecjjochbaadoor", sum := "27c602d8f6244296d7125e33d94ba21f35488c5abd7d1b1ee44935eaf880422f", checked := Tryd.checked }
namespace Rows
def none {H : Type} : Left H := { results := [], args := [] }

/- WHAT THE LISTED PACKAGE-LEVEL VARIABLES READ AS WHEN THE CALL BEGINS. Each datum BY PROGRAM (the guide's laid-datum.mjs) off the statement by which the dump's own 'gosem.cut.vars' lays the variable. In a bare row this is a premise. The card (YtcahaecjjochbaaDoorCards.lean) ties it to the program's text. -/
def laid_unicode_utf8_acceptRanges {H : Type} : DataW H := .agg [.agg [.lit (.int .u8 128), .lit (.int .u8 191)], .agg [.lit (.int .u8 160), .lit (.int .u8 191)], .agg [.lit (.int .u8 128), .lit (.int .u8 159)], .agg [.lit (.int .u8 144), .lit (.int .u8 191)], .agg [.lit (.int .u8 128), .lit (.int .u8 143)], .agg [.lit (.int .u8 0), .lit (.int .u8 0)], .agg [.lit (.int .u8 0), .lit (.int .u8 0)], .agg [.lit (.int .u8 0), .lit (.int .u8 0)], .agg [.lit (.int .u8 0), .lit (.int .u8 0)], .agg [.lit (.int .u8 0), .lit (.int .u8 0)], .agg [.lit (.int .u8 0), .lit (.int .u8 0)], .agg [.lit (.int .u8 0), .lit (.int .u8 0)], .agg [.lit (.int .u8 0), .lit (.int .u8 0)], .agg [.lit (.int .u8 0), .lit (.int .u8 0)], .agg [.lit (.int .u8 0), .lit (.int .u8 0)], .agg [.lit (.int .u8 0), .lit (.int .u8 0)]]
/-- One of Go's own tables, pinned by name: the form's constant. -/
def laid_unicode_utf8_first : DataW Unit := Go.Pinned.utf8First

/-- 'graftagelaw31.AttrAsks': WHATEVER THE INPUT: true; the input reads as it did. -/
def attrAsksSpec : ChangeSpec := { name := "attrAsks", fn := fun _ => fun
  | [d1, d2] => { results := [.lit (.bool true)], args := [d1, d2] }
  | _ => none }
def attrAsksRow : OpenClaim := { program := "ytcahaecjjochbaadoor", sum := "27c602d8f6244296d7125e33d94ba21f35488c5abd7d1b1ee44935eaf880422f", func := "graftage/graftagelaw31.AttrAsks", spec := "attrAsks", inPlace := ["internal/bytealg.IndexByteString", "internal/bytealg.IndexString", "internal/bytealg.CountString", "internal/abi.NoEscape", "internal/bytealg.MakeNoZero"], unfollowed := true, recurses := true, named := ["internal/bytealg.MaxLen", "unicode/utf8.first", "unicode/utf8.acceptRanges"], apart := false, laid := [("unicode/utf8.acceptRanges", laid_unicode_utf8_acceptRanges), ("unicode/utf8.first", laid_unicode_utf8_first)] }
def AttrAsksSaid : Prop := attrAsksRow.holds Tryd.pinned (OpenSpec.ofChange attrAsksSpec)

/-- ITS FALSE NEIGHBOUR: 'it returns false'. Refute it at one input. -/
def attrAsksWrong : ChangeSpec := { name := "attrAsks", fn := fun _ => fun
  | [d1, d2] => { results := [.lit (.bool false)], args := [d1, d2] }
  | _ => none }
def AttrAsksWrongFalsely : Prop := attrAsksRow.holds Tryd.pinned (OpenSpec.ofChange attrAsksWrong)

/-- 'graftagelaw31.AttrBelow': WHATEVER THE INPUT: true; the input reads as it did. -/
def attrBelowSpec : ChangeSpec := { name := "attrBelow", fn := fun _ => fun
  | [d1, d2, d3] => { results := [.lit (.bool true)], args := [d1, d2, d3] }
  | _ => none }
def attrBelowRow : OpenClaim := { program := "ytcahaecjjochbaadoor", sum := "27c602d8f6244296d7125e33d94ba21f35488c5abd7d1b1ee44935eaf880422f", func := "graftage/graftagelaw31.AttrBelow", spec := "attrBelow", inPlace := ["internal/bytealg.IndexByteString", "internal/bytealg.IndexString", "internal/bytealg.CountString", "internal/abi.NoEscape", "internal/bytealg.MakeNoZero"], unfollowed := true, recurses := true, named := ["internal/bytealg.MaxLen", "unicode/utf8.first", "unicode/utf8.acceptRanges"], apart := false, laid := [("unicode/utf8.acceptRanges", laid_unicode_utf8_acceptRanges), ("unicode/utf8.first", laid_unicode_utf8_first)] }
def AttrBelowSaid : Prop := attrBelowRow.holds Tryd.pinned (OpenSpec.ofChange attrBelowSpec)

/-- ITS FALSE NEIGHBOUR: 'it returns false'. Refute it at one input. -/
def attrBelowWrong : ChangeSpec := { name := "attrBelow", fn := fun _ => fun
  | [d1, d2, d3] => { results := [.lit (.bool false)], args := [d1, d2, d3] }
  | _ => none }
def AttrBelowWrongFalsely : Prop := attrBelowRow.holds Tryd.pinned (OpenSpec.ofChange attrBelowWrong)

/-- 'graftagelaw31.AttrBack': WHATEVER THE INPUT: true; the input reads as it did. -/
def attrBackSpec : ChangeSpec := { name := "attrBack", fn := fun _ => fun
  | [d1, d2] => { results := [.lit (.bool true)], args := [d1, d2] }
  | _ => none }
def attrBackRow : OpenClaim := { program := "ytcahaecjjochbaadoor", sum := "27c602d8f6244296d7125e33d94ba21f35488c5abd7d1b1ee44935eaf880422f", func := "graftage/graftagelaw31.AttrBack", spec := "attrBack", inPlace := ["internal/bytealg.IndexByteString", "internal/bytealg.IndexString", "internal/bytealg.CountString", "internal/abi.NoEscape", "internal/bytealg.MakeNoZero"], unfollowed := true, recurses := true, named := ["internal/bytealg.MaxLen", "unicode/utf8.first", "unicode/utf8.acceptRanges"], apart := false, laid := [("unicode/utf8.acceptRanges", laid_unicode_utf8_acceptRanges), ("unicode/utf8.first", laid_unicode_utf8_first)] }
def AttrBackSaid : Prop := attrBackRow.holds Tryd.pinned (OpenSpec.ofChange attrBackSpec)

/-- ITS FALSE NEIGHBOUR: 'it returns false'. Refute it at one input. -/
def attrBackWrong : ChangeSpec := { name := "attrBack", fn := fun _ => fun
  | [d1, d2] => { results := [.lit (.bool false)], args := [d1, d2] }
  | _ => none }
def AttrBackWrongFalsely : Prop := attrBackRow.holds Tryd.pinned (OpenSpec.ofChange attrBackWrong)

/-- 'graftagelaw31.AttrEach': WHATEVER THE INPUT: true; the input reads as it did. -/
def attrEachSpec : ChangeSpec := { name := "attrEach", fn := fun _ => fun
  | [d1, d2, d3] => { results := [.lit (.bool true)], args := [d1, d2, d3] }
  | _ => none }
def attrEachRow : OpenClaim := { program := "ytcahaecjjochbaadoor", sum := "27c602d8f6244296d7125e33d94ba21f35488c5abd7d1b1ee44935eaf880422f", func := "graftage/graftagelaw31.AttrEach", spec := "attrEach", inPlace := ["internal/bytealg.IndexByteString", "internal/bytealg.IndexString", "internal/bytealg.CountString", "internal/abi.NoEscape", "internal/bytealg.MakeNoZero"], unfollowed := true, recurses := true, named := ["internal/bytealg.MaxLen", "unicode/utf8.first", "unicode/utf8.acceptRanges"], apart := false, laid := [("unicode/utf8.acceptRanges", laid_unicode_utf8_acceptRanges), ("unicode/utf8.first", laid_unicode_utf8_first)] }
def AttrEachSaid : Prop := attrEachRow.holds Tryd.pinned (OpenSpec.ofChange attrEachSpec)

/-- ITS FALSE NEIGHBOUR: 'it returns false'. Refute it at one input. -/
def attrEachWrong : ChangeSpec := { name := "attrEach", fn := fun _ => fun
  | [d1, d2, d3] => { results := [.lit (.bool false)], args := [d1, d2, d3] }
  | _ => none }
def AttrEachWrongFalsely : Prop := attrEachRow.holds Tryd.pinned (OpenSpec.ofChange attrEachWrong)

/-- 'graftagelaw31.AttrEnds': WHATEVER THE INPUT: true; the input reads as it did. -/
def attrEndsSpec : ChangeSpec := { name := "attrEnds", fn := fun _ => fun
  | [d1, d2] => { results := [.lit (.bool true)], args := [d1, d2] }
  | _ => none }
def attrEndsRow : OpenClaim := { program := "ytcahaecjjochbaadoor", sum := "27c602d8f6244296d7125e33d94ba21f35488c5abd7d1b1ee44935eaf880422f", func := "graftage/graftagelaw31.AttrEnds", spec := "attrEnds", inPlace := ["internal/bytealg.IndexByteString", "internal/bytealg.IndexString", "internal/bytealg.CountString", "internal/abi.NoEscape", "internal/bytealg.MakeNoZero"], unfollowed := true, recurses := true, named := ["internal/bytealg.MaxLen", "unicode/utf8.first", "unicode/utf8.acceptRanges"], apart := false, laid := [("unicode/utf8.acceptRanges", laid_unicode_utf8_acceptRanges), ("unicode/utf8.first", laid_unicode_utf8_first)] }
def AttrEndsSaid : Prop := attrEndsRow.holds Tryd.pinned (OpenSpec.ofChange attrEndsSpec)

/-- ITS FALSE NEIGHBOUR: 'it returns false'. Refute it at one input. -/
def attrEndsWrong : ChangeSpec := { name := "attrEnds", fn := fun _ => fun
  | [d1, d2] => { results := [.lit (.bool false)], args := [d1, d2] }
  | _ => none }
def AttrEndsWrongFalsely : Prop := attrEndsRow.holds Tryd.pinned (OpenSpec.ofChange attrEndsWrong)

/-- 'graftagelaw30.IgnoreParses': WHATEVER THE INPUT: true; the input reads as it did. -/
def ignoreParsesSpec : ChangeSpec := { name := "ignoreParses", fn := fun _ => fun
  | [d1, d2] => { results := [.lit (.bool true)], args := [d1, d2] }
  | _ => none }
def ignoreParsesRow : OpenClaim := { program := "ytcahaecjjochbaadoor", sum := "27c602d8f6244296d7125e33d94ba21f35488c5abd7d1b1ee44935eaf880422f", func := "graftage/graftagelaw30.IgnoreParses", spec := "ignoreParses", inPlace := ["internal/bytealg.CountString", "internal/bytealg.IndexByteString", "internal/bytealg.IndexString"], unfollowed := true, recurses := true, named := ["unicode/utf8.first", "unicode/utf8.acceptRanges", "internal/bytealg.MaxLen"], apart := false, laid := [("unicode/utf8.acceptRanges", laid_unicode_utf8_acceptRanges), ("unicode/utf8.first", laid_unicode_utf8_first)] }
def IgnoreParsesSaid : Prop := ignoreParsesRow.holds Tryd.pinned (OpenSpec.ofChange ignoreParsesSpec)

/-- ITS FALSE NEIGHBOUR: 'it returns false'. Refute it at one input. -/
def ignoreParsesWrong : ChangeSpec := { name := "ignoreParses", fn := fun _ => fun
  | [d1, d2] => { results := [.lit (.bool false)], args := [d1, d2] }
  | _ => none }
def IgnoreParsesWrongFalsely : Prop := ignoreParsesRow.holds Tryd.pinned (OpenSpec.ofChange ignoreParsesWrong)

/-- 'graftagelaw30.IgnoreTells': WHATEVER THE INPUT: true; the input reads as it did. -/
def ignoreTellsSpec : ChangeSpec := { name := "ignoreTells", fn := fun _ => fun
  | [d1, d2, d3] => { results := [.lit (.bool true)], args := [d1, d2, d3] }
  | _ => none }
def ignoreTellsRow : OpenClaim := { program := "ytcahaecjjochbaadoor", sum := "27c602d8f6244296d7125e33d94ba21f35488c5abd7d1b1ee44935eaf880422f", func := "graftage/graftagelaw30.IgnoreTells", spec := "ignoreTells", inPlace := ["internal/bytealg.CountString", "internal/bytealg.IndexByteString", "internal/bytealg.IndexString"], unfollowed := true, recurses := true, named := ["unicode/utf8.first", "unicode/utf8.acceptRanges", "internal/bytealg.MaxLen"], apart := false, laid := [("unicode/utf8.acceptRanges", laid_unicode_utf8_acceptRanges), ("unicode/utf8.first", laid_unicode_utf8_first)] }
def IgnoreTellsSaid : Prop := ignoreTellsRow.holds Tryd.pinned (OpenSpec.ofChange ignoreTellsSpec)

/-- ITS FALSE NEIGHBOUR: 'it returns false'. Refute it at one input. -/
def ignoreTellsWrong : ChangeSpec := { name := "ignoreTells", fn := fun _ => fun
  | [d1, d2, d3] => { results := [.lit (.bool false)], args := [d1, d2, d3] }
  | _ => none }
def IgnoreTellsWrongFalsely : Prop := ignoreTellsRow.holds Tryd.pinned (OpenSpec.ofChange ignoreTellsWrong)

/-- 'graftagelaw30.IgnoreLast': WHATEVER THE INPUT: true; the input reads as it did. -/
def ignoreLastSpec : ChangeSpec := { name := "ignoreLast", fn := fun _ => fun
  | [d1, d2, d3] => { results := [.lit (.bool true)], args := [d1, d2, d3] }
  | _ => none }
def ignoreLastRow : OpenClaim := { program := "ytcahaecjjochbaadoor", sum := "27c602d8f6244296d7125e33d94ba21f35488c5abd7d1b1ee44935eaf880422f", func := "graftage/graftagelaw30.IgnoreLast", spec := "ignoreLast", inPlace := ["internal/bytealg.CountString", "internal/bytealg.IndexByteString", "internal/bytealg.IndexString"], unfollowed := true, recurses := true, named := ["unicode/utf8.first", "unicode/utf8.acceptRanges", "internal/bytealg.MaxLen"], apart := false, laid := [("unicode/utf8.acceptRanges", laid_unicode_utf8_acceptRanges), ("unicode/utf8.first", laid_unicode_utf8_first)] }
def IgnoreLastSaid : Prop := ignoreLastRow.holds Tryd.pinned (OpenSpec.ofChange ignoreLastSpec)

/-- ITS FALSE NEIGHBOUR: 'it returns false'. Refute it at one input. -/
def ignoreLastWrong : ChangeSpec := { name := "ignoreLast", fn := fun _ => fun
  | [d1, d2, d3] => { results := [.lit (.bool false)], args := [d1, d2, d3] }
  | _ => none }
def IgnoreLastWrongFalsely : Prop := ignoreLastRow.holds Tryd.pinned (OpenSpec.ofChange ignoreLastWrong)

/-- 'graftagelaw30.IgnoreElsewhere': WHATEVER THE INPUT: true; the input reads as it did. -/
def ignoreElsewhereSpec : ChangeSpec := { name := "ignoreElsewhere", fn := fun _ => fun
  | [d1, d2, d3] => { results := [.lit (.bool true)], args := [d1, d2, d3] }
  | _ => none }
def ignoreElsewhereRow : OpenClaim := { program := "ytcahaecjjochbaadoor", sum := "27c602d8f6244296d7125e33d94ba21f35488c5abd7d1b1ee44935eaf880422f", func := "graftage/graftagelaw30.IgnoreElsewhere", spec := "ignoreElsewhere", inPlace := ["internal/bytealg.CountString", "internal/bytealg.IndexByteString", "internal/bytealg.IndexString"], unfollowed := true, recurses := true, named := ["unicode/utf8.first", "unicode/utf8.acceptRanges", "internal/bytealg.MaxLen"], apart := false, laid := [("unicode/utf8.acceptRanges", laid_unicode_utf8_acceptRanges), ("unicode/utf8.first", laid_unicode_utf8_first)] }
def IgnoreElsewhereSaid : Prop := ignoreElsewhereRow.holds Tryd.pinned (OpenSpec.ofChange ignoreElsewhereSpec)

/-- ITS FALSE NEIGHBOUR: 'it returns false'. Refute it at one input. -/
def ignoreElsewhereWrong : ChangeSpec := { name := "ignoreElsewhere", fn := fun _ => fun
  | [d1, d2, d3] => { results := [.lit (.bool false)], args := [d1, d2, d3] }
  | _ => none }
def IgnoreElsewhereWrongFalsely : Prop := ignoreElsewhereRow.holds Tryd.pinned (OpenSpec.ofChange ignoreElsewhereWrong)

/-- 'graftagelaw30.IgnoreBelow': WHATEVER THE INPUT: true; the input reads as it did. -/
def ignoreBelowSpec : ChangeSpec := { name := "ignoreBelow", fn := fun _ => fun
  | [d] => { results := [.lit (.bool true)], args := [d] }
  | _ => none }
def ignoreBelowRow : OpenClaim := { program := "ytcahaecjjochbaadoor", sum := "27c602d8f6244296d7125e33d94ba21f35488c5abd7d1b1ee44935eaf880422f", func := "graftage/graftagelaw30.IgnoreBelow", spec := "ignoreBelow", inPlace := ["internal/bytealg.CountString", "internal/bytealg.IndexByteString", "internal/bytealg.IndexString"], unfollowed := true, recurses := true, named := ["unicode/utf8.first", "unicode/utf8.acceptRanges", "internal/bytealg.MaxLen"], apart := false, laid := [("unicode/utf8.acceptRanges", laid_unicode_utf8_acceptRanges), ("unicode/utf8.first", laid_unicode_utf8_first)] }
def IgnoreBelowSaid : Prop := ignoreBelowRow.holds Tryd.pinned (OpenSpec.ofChange ignoreBelowSpec)

/-- ITS FALSE NEIGHBOUR: 'it returns false'. Refute it at one input. -/
def ignoreBelowWrong : ChangeSpec := { name := "ignoreBelow", fn := fun _ => fun
  | [d] => { results := [.lit (.bool false)], args := [d] }
  | _ => none }
def IgnoreBelowWrongFalsely : Prop := ignoreBelowRow.holds Tryd.pinned (OpenSpec.ofChange ignoreBelowWrong)

/- THE SECOND FORM. 'bulk': how many values and letters a reading holds, each counted each time it is reached (what is shared counts as often as it is met; a slice's spare places count too). A statement '..UptoSaid' is the law's where the arguments, and the package variables that the reading takes, are together of bulk at most 1048576: NARROWER than '..Said'. Prove '..Said' where nothing that the law and all that it calls make is longer than what came in: it says more and counts as full. Else prove '..UptoSaid'. A law counts once. -/
mutual
def uptoBulk {H : Type} : DataW H → Nat
  | .lit (.string bytes) => bytes.length + 1
  | .lit _ => 1
  | .nil => 1
  | .ptr d => uptoBulk d + 1
  | .slice elems spare => uptoBulkAll elems + uptoBulkAll spare + 1
  | .agg parts => uptoBulkAll parts + 1
  | .iface _ d => uptoBulk d + 1
  | .map entries => uptoBulkEntries entries + 1
  | .held _ => 1
def uptoBulkAll {H : Type} : List (DataW H) → Nat
  | [] => 0
  | d :: r => uptoBulk d + uptoBulkAll r
def uptoBulkEntries {H : Type} : List (Lit × DataW H) → Nat
  | [] => 0
  | x :: r => uptoBulkEntry x + uptoBulkEntries r
def uptoBulkEntry {H : Type} : Lit × DataW H → Nat
  | (.string bytes, d) => bytes.length + uptoBulk d + 1
  | (_, d) => uptoBulk d + 1
 end
def uptoSmall : (H : Type) → List (DataW H) → Bool := fun _ ds => decide (uptoBulkAll ds ≤ 1048576)
def OpenSpec.upto (s : _root_.Go.ChangeSpec) : _root_.Go.OpenSpec := { _root_.Go.OpenSpec.ofChange s with cond := some uptoSmall }

/-- 'graftagelaw31.AttrAsks', WHERE WHAT IT READS IS OF BULK AT MOST 1048576: true; the input reads as it did. -/
def attrAsksUptoRow : OpenClaim := { program := "ytcahaecjjochbaadoor", sum := "27c602d8f6244296d7125e33d94ba21f35488c5abd7d1b1ee44935eaf880422f", func := "graftage/graftagelaw31.AttrAsks", spec := "attrAsks", inPlace := ["internal/bytealg.IndexByteString", "internal/bytealg.IndexString", "internal/bytealg.CountString", "internal/abi.NoEscape", "internal/bytealg.MakeNoZero"], unfollowed := true, recurses := true, named := ["internal/bytealg.MaxLen", "unicode/utf8.first", "unicode/utf8.acceptRanges"], apart := false, laid := [("unicode/utf8.acceptRanges", laid_unicode_utf8_acceptRanges), ("unicode/utf8.first", laid_unicode_utf8_first)], narrowed := true }
def AttrAsksUptoSaid : Prop := attrAsksUptoRow.holds Tryd.pinned (OpenSpec.upto attrAsksSpec)

/-- 'graftagelaw31.AttrBelow', WHERE WHAT IT READS IS OF BULK AT MOST 1048576: true; the input reads as it did. -/
def attrBelowUptoRow : OpenClaim := { program := "ytcahaecjjochbaadoor", sum := "27c602d8f6244296d7125e33d94ba21f35488c5abd7d1b1ee44935eaf880422f", func := "graftage/graftagelaw31.AttrBelow", spec := "attrBelow", inPlace := ["internal/bytealg.IndexByteString", "internal/bytealg.IndexString", "internal/bytealg.CountString", "internal/abi.NoEscape", "internal/bytealg.MakeNoZero"], unfollowed := true, recurses := true, named := ["internal/bytealg.MaxLen", "unicode/utf8.first", "unicode/utf8.acceptRanges"], apart := false, laid := [("unicode/utf8.acceptRanges", laid_unicode_utf8_acceptRanges), ("unicode/utf8.first", laid_unicode_utf8_first)], narrowed := true }
def AttrBelowUptoSaid : Prop := attrBelowUptoRow.holds Tryd.pinned (OpenSpec.upto attrBelowSpec)

/-- 'graftagelaw31.AttrBack', WHERE WHAT IT READS IS OF BULK AT MOST 1048576: true; the input reads as it did. -/
def attrBackUptoRow : OpenClaim := { program := "ytcahaecjjochbaadoor", sum := "27c602d8f6244296d7125e33d94ba21f35488c5abd7d1b1ee44935eaf880422f", func := "graftage/graftagelaw31.AttrBack", spec := "attrBack", inPlace := ["internal/bytealg.IndexByteString", "internal/bytealg.IndexString", "internal/bytealg.CountString", "internal/abi.NoEscape", "internal/bytealg.MakeNoZero"], unfollowed := true, recurses := true, named := ["internal/bytealg.MaxLen", "unicode/utf8.first", "unicode/utf8.acceptRanges"], apart := false, laid := [("unicode/utf8.acceptRanges", laid_unicode_utf8_acceptRanges), ("unicode/utf8.first", laid_unicode_utf8_first)], narrowed := true }
def AttrBackUptoSaid : Prop := attrBackUptoRow.holds Tryd.pinned (OpenSpec.upto attrBackSpec)

/-- 'graftagelaw31.AttrEach', WHERE WHAT IT READS IS OF BULK AT MOST 1048576: true; the input reads as it did. -/
def attrEachUptoRow : OpenClaim := { program := "ytcahaecjjochbaadoor", sum := "27c602d8f6244296d7125e33d94ba21f35488c5abd7d1b1ee44935eaf880422f", func := "graftage/graftagelaw31.AttrEach", spec := "attrEach", inPlace := ["internal/bytealg.IndexByteString", "internal/bytealg.IndexString", "internal/bytealg.CountString", "internal/abi.NoEscape", "internal/bytealg.MakeNoZero"], unfollowed := true, recurses := true, named := ["internal/bytealg.MaxLen", "unicode/utf8.first", "unicode/utf8.acceptRanges"], apart := false, laid := [("unicode/utf8.acceptRanges", laid_unicode_utf8_acceptRanges), ("unicode/utf8.first", laid_unicode_utf8_first)], narrowed := true }
def AttrEachUptoSaid : Prop := attrEachUptoRow.holds Tryd.pinned (OpenSpec.upto attrEachSpec)

/-- 'graftagelaw31.AttrEnds', WHERE WHAT IT READS IS OF BULK AT MOST 1048576: true; the input reads as it did. -/
def attrEndsUptoRow : OpenClaim := { program := "ytcahaecjjochbaadoor", sum := "27c602d8f6244296d7125e33d94ba21f35488c5abd7d1b1ee44935eaf880422f", func := "graftage/graftagelaw31.AttrEnds", spec := "attrEnds", inPlace := ["internal/bytealg.IndexByteString", "internal/bytealg.IndexString", "internal/bytealg.CountString", "internal/abi.NoEscape", "internal/bytealg.MakeNoZero"], unfollowed := true, recurses := true, named := ["internal/bytealg.MaxLen", "unicode/utf8.first", "unicode/utf8.acceptRanges"], apart := false, laid := [("unicode/utf8.acceptRanges", laid_unicode_utf8_acceptRanges), ("unicode/utf8.first", laid_unicode_utf8_first)], narrowed := true }
def AttrEndsUptoSaid : Prop := attrEndsUptoRow.holds Tryd.pinned (OpenSpec.upto attrEndsSpec)

/-- 'graftagelaw30.IgnoreParses', WHERE WHAT IT READS IS OF BULK AT MOST 1048576: true; the input reads as it did. -/
def ignoreParsesUptoRow : OpenClaim := { program := "ytcahaecjjochbaadoor", sum := "27c602d8f6244296d7125e33d94ba21f35488c5abd7d1b1ee44935eaf880422f", func := "graftage/graftagelaw30.IgnoreParses", spec := "ignoreParses", inPlace := ["internal/bytealg.CountString", "internal/bytealg.IndexByteString", "internal/bytealg.IndexString"], unfollowed := true, recurses := true, named := ["unicode/utf8.first", "unicode/utf8.acceptRanges", "internal/bytealg.MaxLen"], apart := false, laid := [("unicode/utf8.acceptRanges", laid_unicode_utf8_acceptRanges), ("unicode/utf8.first", laid_unicode_utf8_first)], narrowed := true }
def IgnoreParsesUptoSaid : Prop := ignoreParsesUptoRow.holds Tryd.pinned (OpenSpec.upto ignoreParsesSpec)

/-- 'graftagelaw30.IgnoreTells', WHERE WHAT IT READS IS OF BULK AT MOST 1048576: true; the input reads as it did. -/
def ignoreTellsUptoRow : OpenClaim := { program := "ytcahaecjjochbaadoor", sum := "27c602d8f6244296d7125e33d94ba21f35488c5abd7d1b1ee44935eaf880422f", func := "graftage/graftagelaw30.IgnoreTells", spec := "ignoreTells", inPlace := ["internal/bytealg.CountString", "internal/bytealg.IndexByteString", "internal/bytealg.IndexString"], unfollowed := true, recurses := true, named := ["unicode/utf8.first", "unicode/utf8.acceptRanges", "internal/bytealg.MaxLen"], apart := false, laid := [("unicode/utf8.acceptRanges", laid_unicode_utf8_acceptRanges), ("unicode/utf8.first", laid_unicode_utf8_first)], narrowed := true }
def IgnoreTellsUptoSaid : Prop := ignoreTellsUptoRow.holds Tryd.pinned (OpenSpec.upto ignoreTellsSpec)

/-- 'graftagelaw30.IgnoreLast', WHERE WHAT IT READS IS OF BULK AT MOST 1048576: true; the input reads as it did. -/
def ignoreLastUptoRow : OpenClaim := { program := "ytcahaecjjochbaadoor", sum := "27c602d8f6244296d7125e33d94ba21f35488c5abd7d1b1ee44935eaf880422f", func := "graftage/graftagelaw30.IgnoreLast", spec := "ignoreLast", inPlace := ["internal/bytealg.CountString", "internal/bytealg.IndexByteString", "internal/bytealg.IndexString"], unfollowed := true, recurses := true, named := ["unicode/utf8.first", "unicode/utf8.acceptRanges", "internal/bytealg.MaxLen"], apart := false, laid := [("unicode/utf8.acceptRanges", laid_unicode_utf8_acceptRanges), ("unicode/utf8.first", laid_unicode_utf8_first)], narrowed := true }
def IgnoreLastUptoSaid : Prop := ignoreLastUptoRow.holds Tryd.pinned (OpenSpec.upto ignoreLastSpec)

/-- 'graftagelaw30.IgnoreElsewhere', WHERE WHAT IT READS IS OF BULK AT MOST 1048576: true; the input reads as it did. -/
def ignoreElsewhereUptoRow : OpenClaim := { program := "ytcahaecjjochbaadoor", sum := "27c602d8f6244296d7125e33d94ba21f35488c5abd7d1b1ee44935eaf880422f", func := "graftage/graftagelaw30.IgnoreElsewhere", spec := "ignoreElsewhere", inPlace := ["internal/bytealg.CountString", "internal/bytealg.IndexByteString", "internal/bytealg.IndexString"], unfollowed := true, recurses := true, named := ["unicode/utf8.first", "unicode/utf8.acceptRanges", "internal/bytealg.MaxLen"], apart := false, laid := [("unicode/utf8.acceptRanges", laid_unicode_utf8_acceptRanges), ("unicode/utf8.first", laid_unicode_utf8_first)], narrowed := true }
def IgnoreElsewhereUptoSaid : Prop := ignoreElsewhereUptoRow.holds Tryd.pinned (OpenSpec.upto ignoreElsewhereSpec)

/-- 'graftagelaw30.IgnoreBelow', WHERE WHAT IT READS IS OF BULK AT MOST 1048576: true; the input reads as it did. -/
def ignoreBelowUptoRow : OpenClaim := { program := "ytcahaecjjochbaadoor", sum := "27c602d8f6244296d7125e33d94ba21f35488c5abd7d1b1ee44935eaf880422f", func := "graftage/graftagelaw30.IgnoreBelow", spec := "ignoreBelow", inPlace := ["internal/bytealg.CountString", "internal/bytealg.IndexByteString", "internal/bytealg.IndexString"], unfollowed := true, recurses := true, named := ["unicode/utf8.first", "unicode/utf8.acceptRanges", "internal/bytealg.MaxLen"], apart := false, laid := [("unicode/utf8.acceptRanges", laid_unicode_utf8_acceptRanges), ("unicode/utf8.first", laid_unicode_utf8_first)], narrowed := true }
def IgnoreBelowUptoSaid : Prop := ignoreBelowUptoRow.holds Tryd.pinned (OpenSpec.upto ignoreBelowSpec)

end Rows
end Go.Proofs.YtcahaecjjochbaaDoor
