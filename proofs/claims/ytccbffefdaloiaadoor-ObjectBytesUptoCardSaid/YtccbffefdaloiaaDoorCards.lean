/-
  DERIVED. GIVEN WITH THE SEED: THE CARDS: each row of YtccbffefdaloiaaDoorRows.lean that lists a variable, with what it lists TIED to the program's text (the seventh form; the later family's looks); each row that meets fmt, with fmt's text TOLD by the authors' own Lean function (tested against real Go, not proved from fmt's source: count such statements apart). THE CARD IS WHAT COUNTS. Prove the row's statement (the work); the ties are given (YtccbffefdaloiaaDoorTie.lean); close each card by the builder's one call (the guide's Derived/Test/ToyasCard.lean, 'card_holds'). Laid BY PROGRAM, IN A SANDBOX (cutbox-door.mjs). By AI agents, Wed Nov 11 2026. No macro, syntax, notation, axiom, sorry.
-/
import Derived.Test.YtccbffefdaloiaaDoorRows
import GoSem.ClaimSeven
namespace Go.Proofs.YtccbffefdaloiaaDoor
namespace Rows

/-- THE TIED CARD OF 'graftagelaw10.HunkApplies'. -/
def hunkAppliesCard : Claim7 := { stood := { row := hunkAppliesRow, standIns := [], harness := (true, "5fded5e119185ec63841d9fdee45812d07d1564e9154b467ac8d2dc2b52f5647"), looks := true }, kinds := [], alts := [], laidByText := true, laidKinds := [.data, .data, .data], laidTests := true, laidLooks := .later }
def HunkAppliesCardSaid : Prop := Claim7.holds Tryd.pinned (.plain (OpenSpec.ofChange hunkAppliesSpec)) hunkAppliesCard

/-- THE TIED CARD OF 'graftagelaw10.HunkElsewhere'. -/
def hunkElsewhereCard : Claim7 := { stood := { row := hunkElsewhereRow, standIns := [], harness := (true, "5fded5e119185ec63841d9fdee45812d07d1564e9154b467ac8d2dc2b52f5647"), looks := true }, kinds := [], alts := [], laidByText := true, laidKinds := [.data, .data, .data], laidTests := true, laidLooks := .later }
def HunkElsewhereCardSaid : Prop := Claim7.holds Tryd.pinned (.plain (OpenSpec.ofChange hunkElsewhereSpec)) hunkElsewhereCard

/-- THE TIED CARD OF 'graftagelaw14.ObjectBytes'. -/
def objectBytesCard : Claim7 := { stood := { row := objectBytesRow, standIns := [], harness := (true, "5fded5e119185ec63841d9fdee45812d07d1564e9154b467ac8d2dc2b52f5647"), looks := true }, kinds := [], alts := [], laidByText := true, laidKinds := [.data, .data, .data, .data], laidTests := true, laidLooks := .later }
def ObjectBytesCardSaid : Prop := Claim7.holds Tryd.pinned (.plain (OpenSpec.ofChange objectBytesSpec)) objectBytesCard

/-- THE TIED CARD OF 'graftagelaw14.ObjectParses'. -/
def objectParsesCard : Claim7 := { stood := { row := objectParsesRow, standIns := [], harness := (true, "5fded5e119185ec63841d9fdee45812d07d1564e9154b467ac8d2dc2b52f5647"), looks := true }, kinds := [], alts := [], laidByText := true, laidKinds := [.data, .data, .data, .data], laidTests := true, laidLooks := .later }
def ObjectParsesCardSaid : Prop := Claim7.holds Tryd.pinned (.plain (OpenSpec.ofChange objectParsesSpec)) objectParsesCard

/-- THE TIED CARD OF 'graftagelaw14.ObjectWords'. -/
def objectWordsCard : Claim7 := { stood := { row := objectWordsRow, standIns := [], harness := (true, "5fded5e119185ec63841d9fdee45812d07d1564e9154b467ac8d2dc2b52f5647"), looks := true }, kinds := [], alts := [], laidByText := true, laidKinds := [.data, .data, .data, .data], laidTests := true, laidLooks := .later }
def ObjectWordsCardSaid : Prop := Claim7.holds Tryd.pinned (.plain (OpenSpec.ofChange objectWordsSpec)) objectWordsCard

/-- THE TIED CARD OF 'graftagelaw10.HunkOf'. -/
def hunkOfCard : Claim7 := { stood := { row := hunkOfRow, standIns := [], harness := (true, "5fded5e119185ec63841d9fdee45812d07d1564e9154b467ac8d2dc2b52f5647"), looks := true }, kinds := [], alts := [], laidByText := true, laidKinds := [.data, .data, .data], laidTests := true, laidLooks := .later }
def HunkOfCardSaid : Prop := Claim7.holds Tryd.pinned (.plain (OpenSpec.ofChange hunkOfSpec)) hunkOfCard

/-- THE TIED CARD OF 'graftagelaw10.HunkThere'. -/
def hunkThereCard : Claim7 := { stood := { row := hunkThereRow, standIns := [], harness := (true, "5fded5e119185ec63841d9fdee45812d07d1564e9154b467ac8d2dc2b52f5647"), looks := true }, kinds := [], alts := [], laidByText := true, laidKinds := [.data, .data, .data], laidTests := true, laidLooks := .later }
def HunkThereCardSaid : Prop := Claim7.holds Tryd.pinned (.plain (OpenSpec.ofChange hunkThereSpec)) hunkThereCard

/-- THE TIED CARD OF 'graftagelaw10.HunkTells'. -/
def hunkTellsCard : Claim7 := { stood := { row := hunkTellsRow, standIns := [], harness := (true, "5fded5e119185ec63841d9fdee45812d07d1564e9154b467ac8d2dc2b52f5647"), looks := true }, kinds := [], alts := [], laidByText := true, laidKinds := [.data, .data, .data], laidTests := true, laidLooks := .later }
def HunkTellsCardSaid : Prop := Claim7.holds Tryd.pinned (.plain (OpenSpec.ofChange hunkTellsSpec)) hunkTellsCard

/-- THE TIED CARD OF 'graftagelaw10.HunkParses'. -/
def hunkParsesCard : Claim7 := { stood := { row := hunkParsesRow, standIns := [], harness := (true, "5fded5e119185ec63841d9fdee45812d07d1564e9154b467ac8d2dc2b52f5647"), looks := true }, kinds := [], alts := [], laidByText := true, laidKinds := [.data, .data, .data, .sentinel, .sentinel], laidTests := true, laidLooks := .later }
def HunkParsesCardSaid : Prop := Claim7.holds Tryd.pinned (.plain (OpenSpec.ofChange hunkParsesSpec)) hunkParsesCard

/-- THE TIED CARD OF 'graftagelaw10.HunkBack'. -/
def hunkBackCard : Claim7 := { stood := { row := hunkBackRow, standIns := [], harness := (true, "5fded5e119185ec63841d9fdee45812d07d1564e9154b467ac8d2dc2b52f5647"), looks := true }, kinds := [], alts := [], laidByText := true, laidKinds := [.data, .data, .data, .sentinel, .sentinel], laidTests := true, laidLooks := .later }
def HunkBackCardSaid : Prop := Claim7.holds Tryd.pinned (.plain (OpenSpec.ofChange hunkBackSpec)) hunkBackCard

/-- THE SECOND FORM's CARD OF 'graftagelaw10.HunkApplies'. -/
def hunkAppliesUptoCard : Claim7 := { stood := { row := hunkAppliesUptoRow, standIns := [], harness := (true, "5fded5e119185ec63841d9fdee45812d07d1564e9154b467ac8d2dc2b52f5647"), looks := true }, kinds := [], alts := [], laidByText := true, laidKinds := [.data, .data, .data], laidTests := true, laidLooks := .later }
def HunkAppliesUptoCardSaid : Prop := Claim7.holds Tryd.pinned (.plain (OpenSpec.upto hunkAppliesSpec)) hunkAppliesUptoCard

/-- THE SECOND FORM's CARD OF 'graftagelaw10.HunkElsewhere'. -/
def hunkElsewhereUptoCard : Claim7 := { stood := { row := hunkElsewhereUptoRow, standIns := [], harness := (true, "5fded5e119185ec63841d9fdee45812d07d1564e9154b467ac8d2dc2b52f5647"), looks := true }, kinds := [], alts := [], laidByText := true, laidKinds := [.data, .data, .data], laidTests := true, laidLooks := .later }
def HunkElsewhereUptoCardSaid : Prop := Claim7.holds Tryd.pinned (.plain (OpenSpec.upto hunkElsewhereSpec)) hunkElsewhereUptoCard

/-- THE SECOND FORM's CARD OF 'graftagelaw14.ObjectBytes'. -/
def objectBytesUptoCard : Claim7 := { stood := { row := objectBytesUptoRow, standIns := [], harness := (true, "5fded5e119185ec63841d9fdee45812d07d1564e9154b467ac8d2dc2b52f5647"), looks := true }, kinds := [], alts := [], laidByText := true, laidKinds := [.data, .data, .data, .data], laidTests := true, laidLooks := .later }
def ObjectBytesUptoCardSaid : Prop := Claim7.holds Tryd.pinned (.plain (OpenSpec.upto objectBytesSpec)) objectBytesUptoCard

/-- THE SECOND FORM's CARD OF 'graftagelaw14.ObjectParses'. -/
def objectParsesUptoCard : Claim7 := { stood := { row := objectParsesUptoRow, standIns := [], harness := (true, "5fded5e119185ec63841d9fdee45812d07d1564e9154b467ac8d2dc2b52f5647"), looks := true }, kinds := [], alts := [], laidByText := true, laidKinds := [.data, .data, .data, .data], laidTests := true, laidLooks := .later }
def ObjectParsesUptoCardSaid : Prop := Claim7.holds Tryd.pinned (.plain (OpenSpec.upto objectParsesSpec)) objectParsesUptoCard

/-- THE SECOND FORM's CARD OF 'graftagelaw14.ObjectWords'. -/
def objectWordsUptoCard : Claim7 := { stood := { row := objectWordsUptoRow, standIns := [], harness := (true, "5fded5e119185ec63841d9fdee45812d07d1564e9154b467ac8d2dc2b52f5647"), looks := true }, kinds := [], alts := [], laidByText := true, laidKinds := [.data, .data, .data, .data], laidTests := true, laidLooks := .later }
def ObjectWordsUptoCardSaid : Prop := Claim7.holds Tryd.pinned (.plain (OpenSpec.upto objectWordsSpec)) objectWordsUptoCard

/-- THE SECOND FORM's CARD OF 'graftagelaw10.HunkOf'. -/
def hunkOfUptoCard : Claim7 := { stood := { row := hunkOfUptoRow, standIns := [], harness := (true, "5fded5e119185ec63841d9fdee45812d07d1564e9154b467ac8d2dc2b52f5647"), looks := true }, kinds := [], alts := [], laidByText := true, laidKinds := [.data, .data, .data], laidTests := true, laidLooks := .later }
def HunkOfUptoCardSaid : Prop := Claim7.holds Tryd.pinned (.plain (OpenSpec.upto hunkOfSpec)) hunkOfUptoCard

/-- THE SECOND FORM's CARD OF 'graftagelaw10.HunkThere'. -/
def hunkThereUptoCard : Claim7 := { stood := { row := hunkThereUptoRow, standIns := [], harness := (true, "5fded5e119185ec63841d9fdee45812d07d1564e9154b467ac8d2dc2b52f5647"), looks := true }, kinds := [], alts := [], laidByText := true, laidKinds := [.data, .data, .data], laidTests := true, laidLooks := .later }
def HunkThereUptoCardSaid : Prop := Claim7.holds Tryd.pinned (.plain (OpenSpec.upto hunkThereSpec)) hunkThereUptoCard

/-- THE SECOND FORM's CARD OF 'graftagelaw10.HunkTells'. -/
def hunkTellsUptoCard : Claim7 := { stood := { row := hunkTellsUptoRow, standIns := [], harness := (true, "5fded5e119185ec63841d9fdee45812d07d1564e9154b467ac8d2dc2b52f5647"), looks := true }, kinds := [], alts := [], laidByText := true, laidKinds := [.data, .data, .data], laidTests := true, laidLooks := .later }
def HunkTellsUptoCardSaid : Prop := Claim7.holds Tryd.pinned (.plain (OpenSpec.upto hunkTellsSpec)) hunkTellsUptoCard

/-- THE SECOND FORM's CARD OF 'graftagelaw10.HunkParses'. -/
def hunkParsesUptoCard : Claim7 := { stood := { row := hunkParsesUptoRow, standIns := [], harness := (true, "5fded5e119185ec63841d9fdee45812d07d1564e9154b467ac8d2dc2b52f5647"), looks := true }, kinds := [], alts := [], laidByText := true, laidKinds := [.data, .data, .data, .sentinel, .sentinel], laidTests := true, laidLooks := .later }
def HunkParsesUptoCardSaid : Prop := Claim7.holds Tryd.pinned (.plain (OpenSpec.upto hunkParsesSpec)) hunkParsesUptoCard

/-- THE SECOND FORM's CARD OF 'graftagelaw10.HunkBack'. -/
def hunkBackUptoCard : Claim7 := { stood := { row := hunkBackUptoRow, standIns := [], harness := (true, "5fded5e119185ec63841d9fdee45812d07d1564e9154b467ac8d2dc2b52f5647"), looks := true }, kinds := [], alts := [], laidByText := true, laidKinds := [.data, .data, .data, .sentinel, .sentinel], laidTests := true, laidLooks := .later }
def HunkBackUptoCardSaid : Prop := Claim7.holds Tryd.pinned (.plain (OpenSpec.upto hunkBackSpec)) hunkBackUptoCard
end Rows
end Go.Proofs.YtccbffefdaloiaaDoor
