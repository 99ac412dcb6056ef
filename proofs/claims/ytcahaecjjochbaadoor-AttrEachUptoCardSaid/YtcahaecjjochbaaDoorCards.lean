/-
  DERIVED. GIVEN WITH THE SEED: THE CARDS: each row of YtcahaecjjochbaaDoorRows.lean that lists a variable, with what it lists TIED to the program's text (the seventh form; the later family's looks); each row that meets fmt, with fmt's text TOLD by the authors' own Lean function (tested against real Go, not proved from fmt's source: count such statements apart). THE CARD IS WHAT COUNTS. Prove the row's statement (the work); the ties are given (YtcahaecjjochbaaDoorTie.lean); close each card by the builder's one call (the guide's Derived/Test/ToyasCard.lean, 'card_holds'). Laid BY PROGRAM, IN A SANDBOX (cutbox-door.mjs). By AI agents, Wed Nov 11 2026. No macro, syntax, notation, axiom, sorry.
-/
import Derived.Test.YtcahaecjjochbaaDoorRows
import GoSem.ClaimSeven
namespace Go.Proofs.YtcahaecjjochbaaDoor
namespace Rows

/-- THE TIED CARD OF 'graftagelaw31.AttrAsks'. -/
def attrAsksCard : Claim7 := { stood := { row := attrAsksRow, standIns := [], harness := (true, "70952d8c0ebea85c0dbe19e3781e354c8d144734829b7dfcc5e657a111ebfcbf"), looks := false }, kinds := [], alts := [], laidByText := true, laidKinds := [.data, .pinned], laidTests := true, laidLooks := .later }
def AttrAsksCardSaid : Prop := Claim7.holds Tryd.pinned (.plain (OpenSpec.ofChange attrAsksSpec)) attrAsksCard

/-- THE TIED CARD OF 'graftagelaw31.AttrBelow'. -/
def attrBelowCard : Claim7 := { stood := { row := attrBelowRow, standIns := [], harness := (true, "70952d8c0ebea85c0dbe19e3781e354c8d144734829b7dfcc5e657a111ebfcbf"), looks := false }, kinds := [], alts := [], laidByText := true, laidKinds := [.data, .pinned], laidTests := true, laidLooks := .later }
def AttrBelowCardSaid : Prop := Claim7.holds Tryd.pinned (.plain (OpenSpec.ofChange attrBelowSpec)) attrBelowCard

/-- THE TIED CARD OF 'graftagelaw31.AttrBack'. -/
def attrBackCard : Claim7 := { stood := { row := attrBackRow, standIns := [], harness := (true, "70952d8c0ebea85c0dbe19e3781e354c8d144734829b7dfcc5e657a111ebfcbf"), looks := false }, kinds := [], alts := [], laidByText := true, laidKinds := [.data, .pinned], laidTests := true, laidLooks := .later }
def AttrBackCardSaid : Prop := Claim7.holds Tryd.pinned (.plain (OpenSpec.ofChange attrBackSpec)) attrBackCard

/-- THE TIED CARD OF 'graftagelaw31.AttrEach'. -/
def attrEachCard : Claim7 := { stood := { row := attrEachRow, standIns := [], harness := (true, "70952d8c0ebea85c0dbe19e3781e354c8d144734829b7dfcc5e657a111ebfcbf"), looks := false }, kinds := [], alts := [], laidByText := true, laidKinds := [.data, .pinned], laidTests := true, laidLooks := .later }
def AttrEachCardSaid : Prop := Claim7.holds Tryd.pinned (.plain (OpenSpec.ofChange attrEachSpec)) attrEachCard

/-- THE TIED CARD OF 'graftagelaw31.AttrEnds'. -/
def attrEndsCard : Claim7 := { stood := { row := attrEndsRow, standIns := [], harness := (true, "70952d8c0ebea85c0dbe19e3781e354c8d144734829b7dfcc5e657a111ebfcbf"), looks := false }, kinds := [], alts := [], laidByText := true, laidKinds := [.data, .pinned], laidTests := true, laidLooks := .later }
def AttrEndsCardSaid : Prop := Claim7.holds Tryd.pinned (.plain (OpenSpec.ofChange attrEndsSpec)) attrEndsCard

/-- THE TIED CARD OF 'graftagelaw30.IgnoreParses'. -/
def ignoreParsesCard : Claim7 := { stood := { row := ignoreParsesRow, standIns := [], harness := (true, "70952d8c0ebea85c0dbe19e3781e354c8d144734829b7dfcc5e657a111ebfcbf"), looks := false }, kinds := [], alts := [], laidByText := true, laidKinds := [.data, .pinned], laidTests := true, laidLooks := .later }
def IgnoreParsesCardSaid : Prop := Claim7.holds Tryd.pinned (.plain (OpenSpec.ofChange ignoreParsesSpec)) ignoreParsesCard

/-- THE TIED CARD OF 'graftagelaw30.IgnoreTells'. -/
def ignoreTellsCard : Claim7 := { stood := { row := ignoreTellsRow, standIns := [], harness := (true, "70952d8c0ebea85c0dbe19e3781e354c8d144734829b7dfcc5e657a111ebfcbf"), looks := false }, kinds := [], alts := [], laidByText := true, laidKinds := [.data, .pinned], laidTests := true, laidLooks := .later }
def IgnoreTellsCardSaid : Prop := Claim7.holds Tryd.pinned (.plain (OpenSpec.ofChange ignoreTellsSpec)) ignoreTellsCard

/-- THE TIED CARD OF 'graftagelaw30.IgnoreLast'. -/
def ignoreLastCard : Claim7 := { stood := { row := ignoreLastRow, standIns := [], harness := (true, "70952d8c0ebea85c0dbe19e3781e354c8d144734829b7dfcc5e657a111ebfcbf"), looks := false }, kinds := [], alts := [], laidByText := true, laidKinds := [.data, .pinned], laidTests := true, laidLooks := .later }
def IgnoreLastCardSaid : Prop := Claim7.holds Tryd.pinned (.plain (OpenSpec.ofChange ignoreLastSpec)) ignoreLastCard

/-- THE TIED CARD OF 'graftagelaw30.IgnoreElsewhere'. -/
def ignoreElsewhereCard : Claim7 := { stood := { row := ignoreElsewhereRow, standIns := [], harness := (true, "70952d8c0ebea85c0dbe19e3781e354c8d144734829b7dfcc5e657a111ebfcbf"), looks := false }, kinds := [], alts := [], laidByText := true, laidKinds := [.data, .pinned], laidTests := true, laidLooks := .later }
def IgnoreElsewhereCardSaid : Prop := Claim7.holds Tryd.pinned (.plain (OpenSpec.ofChange ignoreElsewhereSpec)) ignoreElsewhereCard

/-- THE TIED CARD OF 'graftagelaw30.IgnoreBelow'. -/
def ignoreBelowCard : Claim7 := { stood := { row := ignoreBelowRow, standIns := [], harness := (true, "70952d8c0ebea85c0dbe19e3781e354c8d144734829b7dfcc5e657a111ebfcbf"), looks := false }, kinds := [], alts := [], laidByText := true, laidKinds := [.data, .pinned], laidTests := true, laidLooks := .later }
def IgnoreBelowCardSaid : Prop := Claim7.holds Tryd.pinned (.plain (OpenSpec.ofChange ignoreBelowSpec)) ignoreBelowCard

/-- THE SECOND FORM's CARD OF 'graftagelaw31.AttrAsks'. -/
def attrAsksUptoCard : Claim7 := { stood := { row := attrAsksUptoRow, standIns := [], harness := (true, "70952d8c0ebea85c0dbe19e3781e354c8d144734829b7dfcc5e657a111ebfcbf"), looks := false }, kinds := [], alts := [], laidByText := true, laidKinds := [.data, .pinned], laidTests := true, laidLooks := .later }
def AttrAsksUptoCardSaid : Prop := Claim7.holds Tryd.pinned (.plain (OpenSpec.upto attrAsksSpec)) attrAsksUptoCard

/-- THE SECOND FORM's CARD OF 'graftagelaw31.AttrBelow'. -/
def attrBelowUptoCard : Claim7 := { stood := { row := attrBelowUptoRow, standIns := [], harness := (true, "70952d8c0ebea85c0dbe19e3781e354c8d144734829b7dfcc5e657a111ebfcbf"), looks := false }, kinds := [], alts := [], laidByText := true, laidKinds := [.data, .pinned], laidTests := true, laidLooks := .later }
def AttrBelowUptoCardSaid : Prop := Claim7.holds Tryd.pinned (.plain (OpenSpec.upto attrBelowSpec)) attrBelowUptoCard

/-- THE SECOND FORM's CARD OF 'graftagelaw31.AttrBack'. -/
def attrBackUptoCard : Claim7 := { stood := { row := attrBackUptoRow, standIns := [], harness := (true, "70952d8c0ebea85c0dbe19e3781e354c8d144734829b7dfcc5e657a111ebfcbf"), looks := false }, kinds := [], alts := [], laidByText := true, laidKinds := [.data, .pinned], laidTests := true, laidLooks := .later }
def AttrBackUptoCardSaid : Prop := Claim7.holds Tryd.pinned (.plain (OpenSpec.upto attrBackSpec)) attrBackUptoCard

/-- THE SECOND FORM's CARD OF 'graftagelaw31.AttrEach'. -/
def attrEachUptoCard : Claim7 := { stood := { row := attrEachUptoRow, standIns := [], harness := (true, "70952d8c0ebea85c0dbe19e3781e354c8d144734829b7dfcc5e657a111ebfcbf"), looks := false }, kinds := [], alts := [], laidByText := true, laidKinds := [.data, .pinned], laidTests := true, laidLooks := .later }
def AttrEachUptoCardSaid : Prop := Claim7.holds Tryd.pinned (.plain (OpenSpec.upto attrEachSpec)) attrEachUptoCard

/-- THE SECOND FORM's CARD OF 'graftagelaw31.AttrEnds'. -/
def attrEndsUptoCard : Claim7 := { stood := { row := attrEndsUptoRow, standIns := [], harness := (true, "70952d8c0ebea85c0dbe19e3781e354c8d144734829b7dfcc5e657a111ebfcbf"), looks := false }, kinds := [], alts := [], laidByText := true, laidKinds := [.data, .pinned], laidTests := true, laidLooks := .later }
def AttrEndsUptoCardSaid : Prop := Claim7.holds Tryd.pinned (.plain (OpenSpec.upto attrEndsSpec)) attrEndsUptoCard

/-- THE SECOND FORM's CARD OF 'graftagelaw30.IgnoreParses'. -/
def ignoreParsesUptoCard : Claim7 := { stood := { row := ignoreParsesUptoRow, standIns := [], harness := (true, "70952d8c0ebea85c0dbe19e3781e354c8d144734829b7dfcc5e657a111ebfcbf"), looks := false }, kinds := [], alts := [], laidByText := true, laidKinds := [.data, .pinned], laidTests := true, laidLooks := .later }
def IgnoreParsesUptoCardSaid : Prop := Claim7.holds Tryd.pinned (.plain (OpenSpec.upto ignoreParsesSpec)) ignoreParsesUptoCard

/-- THE SECOND FORM's CARD OF 'graftagelaw30.IgnoreTells'. -/
def ignoreTellsUptoCard : Claim7 := { stood := { row := ignoreTellsUptoRow, standIns := [], harness := (true, "70952d8c0ebea85c0dbe19e3781e354c8d144734829b7dfcc5e657a111ebfcbf"), looks := false }, kinds := [], alts := [], laidByText := true, laidKinds := [.data, .pinned], laidTests := true, laidLooks := .later }
def IgnoreTellsUptoCardSaid : Prop := Claim7.holds Tryd.pinned (.plain (OpenSpec.upto ignoreTellsSpec)) ignoreTellsUptoCard

/-- THE SECOND FORM's CARD OF 'graftagelaw30.IgnoreLast'. -/
def ignoreLastUptoCard : Claim7 := { stood := { row := ignoreLastUptoRow, standIns := [], harness := (true, "70952d8c0ebea85c0dbe19e3781e354c8d144734829b7dfcc5e657a111ebfcbf"), looks := false }, kinds := [], alts := [], laidByText := true, laidKinds := [.data, .pinned], laidTests := true, laidLooks := .later }
def IgnoreLastUptoCardSaid : Prop := Claim7.holds Tryd.pinned (.plain (OpenSpec.upto ignoreLastSpec)) ignoreLastUptoCard

/-- THE SECOND FORM's CARD OF 'graftagelaw30.IgnoreElsewhere'. -/
def ignoreElsewhereUptoCard : Claim7 := { stood := { row := ignoreElsewhereUptoRow, standIns := [], harness := (true, "70952d8c0ebea85c0dbe19e3781e354c8d144734829b7dfcc5e657a111ebfcbf"), looks := false }, kinds := [], alts := [], laidByText := true, laidKinds := [.data, .pinned], laidTests := true, laidLooks := .later }
def IgnoreElsewhereUptoCardSaid : Prop := Claim7.holds Tryd.pinned (.plain (OpenSpec.upto ignoreElsewhereSpec)) ignoreElsewhereUptoCard

/-- THE SECOND FORM's CARD OF 'graftagelaw30.IgnoreBelow'. -/
def ignoreBelowUptoCard : Claim7 := { stood := { row := ignoreBelowUptoRow, standIns := [], harness := (true, "70952d8c0ebea85c0dbe19e3781e354c8d144734829b7dfcc5e657a111ebfcbf"), looks := false }, kinds := [], alts := [], laidByText := true, laidKinds := [.data, .pinned], laidTests := true, laidLooks := .later }
def IgnoreBelowUptoCardSaid : Prop := Claim7.holds Tryd.pinned (.plain (OpenSpec.upto ignoreBelowSpec)) ignoreBelowUptoCard
end Rows
end Go.Proofs.YtcahaecjjochbaaDoor
