/-
  DERIVED. GIVEN WITH THE SEED: THE CARDS: each row of YtekjlpldooihhaaDoorRows.lean that lists a variable, with what it lists TIED to the program's text (the seventh form; the later family's looks); each row that meets fmt, with fmt's text TOLD by the authors' own Lean function (tested against real Go, not proved from fmt's source: count such statements apart). THE CARD IS WHAT COUNTS. Prove the row's statement (the work); the ties are given (YtekjlpldooihhaaDoorTie.lean); close each card by the builder's one call (the guide's Derived/Test/ToyasCard.lean, 'card_holds'). Laid BY PROGRAM, IN A SANDBOX (cutbox-door.mjs). By AI agents, Wed Nov 11 2026. No macro, syntax, notation, axiom, sorry.
-/
import Derived.Test.YtekjlpldooihhaaDoorRows
import GoSem.ClaimSeven
namespace Go.Proofs.YtekjlpldooihhaaDoor
namespace Rows

/-- THE TIED CARD OF 'skewbaldlaw01.PlankSpots'. -/
def plankSpotsCard : Claim7 := { stood := { row := plankSpotsRow, standIns := [], harness := (true, "f667e12669dde2efb7bd6d6682007b7b139b5dc8b8269ea7cd071a5aa8aa1b9d"), looks := false }, kinds := [], alts := [], laidByText := true, laidKinds := [.funcs, .data], laidTests := true, laidLooks := .later }
def PlankSpotsCardSaid : Prop := Claim7.holds Tryd.pinned (.plain (OpenSpec.ofChange plankSpotsSpec)) plankSpotsCard

/-- THE TIED CARD OF 'skewbaldlaw01.PlankLays'. -/
def plankLaysCard : Claim7 := { stood := { row := plankLaysRow, standIns := [], harness := (true, "f667e12669dde2efb7bd6d6682007b7b139b5dc8b8269ea7cd071a5aa8aa1b9d"), looks := false }, kinds := [], alts := [], laidByText := true, laidKinds := [.funcs, .data], laidTests := true, laidLooks := .later }
def PlankLaysCardSaid : Prop := Claim7.holds Tryd.pinned (.plain (OpenSpec.ofChange plankLaysSpec)) plankLaysCard

/-- THE TIED CARD OF 'skewbaldlaw01.PlankFewests'. -/
def plankFewestsCard : Claim7 := { stood := { row := plankFewestsRow, standIns := [], harness := (true, "f667e12669dde2efb7bd6d6682007b7b139b5dc8b8269ea7cd071a5aa8aa1b9d"), looks := false }, kinds := [], alts := [], laidByText := true, laidKinds := [.funcs, .data], laidTests := true, laidLooks := .later }
def PlankFewestsCardSaid : Prop := Claim7.holds Tryd.pinned (.plain (OpenSpec.ofChange plankFewestsSpec)) plankFewestsCard

/-- THE TIED CARD OF 'skewbaldlaw01.PlankTrue'. -/
def plankTrueCard : Claim7 := { stood := { row := plankTrueRow, standIns := [], harness := (true, "f667e12669dde2efb7bd6d6682007b7b139b5dc8b8269ea7cd071a5aa8aa1b9d"), looks := false }, kinds := [], alts := [], laidByText := true, laidKinds := [.funcs, .data], laidTests := true, laidLooks := .later }
def PlankTrueCardSaid : Prop := Claim7.holds Tryd.pinned (.plain (OpenSpec.ofChange plankTrueSpec)) plankTrueCard

/-- THE TIED CARD OF 'skewbaldlaw01.PlankSome'. -/
def plankSomeCard : Claim7 := { stood := { row := plankSomeRow, standIns := [], harness := (true, "f667e12669dde2efb7bd6d6682007b7b139b5dc8b8269ea7cd071a5aa8aa1b9d"), looks := false }, kinds := [], alts := [], laidByText := true, laidKinds := [.funcs, .data], laidTests := true, laidLooks := .later }
def PlankSomeCardSaid : Prop := Claim7.holds Tryd.pinned (.plain (OpenSpec.ofChange plankSomeSpec)) plankSomeCard

/-- THE TIED CARD OF 'skewbaldlaw01.PlankLay'. -/
def plankLayCard : Claim7 := { stood := { row := plankLayRow, standIns := [], harness := (true, "f667e12669dde2efb7bd6d6682007b7b139b5dc8b8269ea7cd071a5aa8aa1b9d"), looks := false }, kinds := [], alts := [], laidByText := true, laidKinds := [.funcs, .data], laidTests := true, laidLooks := .later }
def PlankLayCardSaid : Prop := Claim7.holds Tryd.pinned (.plain (OpenSpec.ofChange plankLaySpec)) plankLayCard

/-- THE TIED CARD OF 'skewbaldlaw01.PlankFewest'. -/
def plankFewestCard : Claim7 := { stood := { row := plankFewestRow, standIns := [], harness := (true, "f667e12669dde2efb7bd6d6682007b7b139b5dc8b8269ea7cd071a5aa8aa1b9d"), looks := false }, kinds := [], alts := [], laidByText := true, laidKinds := [.funcs, .data], laidTests := true, laidLooks := .later }
def PlankFewestCardSaid : Prop := Claim7.holds Tryd.pinned (.plain (OpenSpec.ofChange plankFewestSpec)) plankFewestCard

/-- THE TIED CARD OF 'skewbaldlaw01.PlankMost'. -/
def plankMostCard : Claim7 := { stood := { row := plankMostRow, standIns := [], harness := (true, "f667e12669dde2efb7bd6d6682007b7b139b5dc8b8269ea7cd071a5aa8aa1b9d"), looks := false }, kinds := [], alts := [], laidByText := true, laidKinds := [.funcs, .data], laidTests := true, laidLooks := .later }
def PlankMostCardSaid : Prop := Claim7.holds Tryd.pinned (.plain (OpenSpec.ofChange plankMostSpec)) plankMostCard

/-- THE TIED CARD OF 'skewbaldlaw01.PlankLacks'. -/
def plankLacksCard : Claim7 := { stood := { row := plankLacksRow, standIns := [], harness := (true, "f667e12669dde2efb7bd6d6682007b7b139b5dc8b8269ea7cd071a5aa8aa1b9d"), looks := false }, kinds := [], alts := [], laidByText := true, laidKinds := [.funcs, .data], laidTests := true, laidLooks := .later }
def PlankLacksCardSaid : Prop := Claim7.holds Tryd.pinned (.plain (OpenSpec.ofChange plankLacksSpec)) plankLacksCard

/-- THE TIED CARD OF 'skewbaldlaw01.PlankLook'. -/
def plankLookCard : Claim7 := { stood := { row := plankLookRow, standIns := [], harness := (true, "f667e12669dde2efb7bd6d6682007b7b139b5dc8b8269ea7cd071a5aa8aa1b9d"), looks := false }, kinds := [], alts := [], laidByText := true, laidKinds := [.funcs, .data], laidTests := true, laidLooks := .later }
def PlankLookCardSaid : Prop := Claim7.holds Tryd.pinned (.plain (OpenSpec.ofChange plankLookSpec)) plankLookCard

/-- THE TIED CARD OF 'skewbaldlaw01.PlankKnows'. -/
def plankKnowsCard : Claim7 := { stood := { row := plankKnowsRow, standIns := [], harness := (true, "f667e12669dde2efb7bd6d6682007b7b139b5dc8b8269ea7cd071a5aa8aa1b9d"), looks := false }, kinds := [], alts := [], laidByText := true, laidKinds := [.funcs, .data], laidTests := true, laidLooks := .later }
def PlankKnowsCardSaid : Prop := Claim7.holds Tryd.pinned (.plain (OpenSpec.ofChange plankKnowsSpec)) plankKnowsCard

/-- THE TIED CARD OF 'skewbaldlaw01.PlankTurn'. -/
def plankTurnCard : Claim7 := { stood := { row := plankTurnRow, standIns := [], harness := (true, "f667e12669dde2efb7bd6d6682007b7b139b5dc8b8269ea7cd071a5aa8aa1b9d"), looks := false }, kinds := [], alts := [], laidByText := true, laidKinds := [.funcs, .data], laidTests := true, laidLooks := .later }
def PlankTurnCardSaid : Prop := Claim7.holds Tryd.pinned (.plain (OpenSpec.ofChange plankTurnSpec)) plankTurnCard

/-- THE TIED CARD OF 'skewbaldlaw01.PlankKnown'. -/
def plankKnownCard : Claim7 := { stood := { row := plankKnownRow, standIns := [], harness := (true, "f667e12669dde2efb7bd6d6682007b7b139b5dc8b8269ea7cd071a5aa8aa1b9d"), looks := false }, kinds := [], alts := [], laidByText := true, laidKinds := [.funcs, .data], laidTests := true, laidLooks := .later }
def PlankKnownCardSaid : Prop := Claim7.holds Tryd.pinned (.plain (OpenSpec.ofChange plankKnownSpec)) plankKnownCard

/-- THE SECOND FORM's CARD OF 'skewbaldlaw01.PlankSpots'. -/
def plankSpotsUptoCard : Claim7 := { stood := { row := plankSpotsUptoRow, standIns := [], harness := (true, "f667e12669dde2efb7bd6d6682007b7b139b5dc8b8269ea7cd071a5aa8aa1b9d"), looks := false }, kinds := [], alts := [], laidByText := true, laidKinds := [.funcs, .data], laidTests := true, laidLooks := .later }
def PlankSpotsUptoCardSaid : Prop := Claim7.holds Tryd.pinned (.plain (OpenSpec.upto plankSpotsSpec)) plankSpotsUptoCard

/-- THE SECOND FORM's CARD OF 'skewbaldlaw01.PlankLays'. -/
def plankLaysUptoCard : Claim7 := { stood := { row := plankLaysUptoRow, standIns := [], harness := (true, "f667e12669dde2efb7bd6d6682007b7b139b5dc8b8269ea7cd071a5aa8aa1b9d"), looks := false }, kinds := [], alts := [], laidByText := true, laidKinds := [.funcs, .data], laidTests := true, laidLooks := .later }
def PlankLaysUptoCardSaid : Prop := Claim7.holds Tryd.pinned (.plain (OpenSpec.upto plankLaysSpec)) plankLaysUptoCard

/-- THE SECOND FORM's CARD OF 'skewbaldlaw01.PlankFewests'. -/
def plankFewestsUptoCard : Claim7 := { stood := { row := plankFewestsUptoRow, standIns := [], harness := (true, "f667e12669dde2efb7bd6d6682007b7b139b5dc8b8269ea7cd071a5aa8aa1b9d"), looks := false }, kinds := [], alts := [], laidByText := true, laidKinds := [.funcs, .data], laidTests := true, laidLooks := .later }
def PlankFewestsUptoCardSaid : Prop := Claim7.holds Tryd.pinned (.plain (OpenSpec.upto plankFewestsSpec)) plankFewestsUptoCard

/-- THE SECOND FORM's CARD OF 'skewbaldlaw01.PlankTrue'. -/
def plankTrueUptoCard : Claim7 := { stood := { row := plankTrueUptoRow, standIns := [], harness := (true, "f667e12669dde2efb7bd6d6682007b7b139b5dc8b8269ea7cd071a5aa8aa1b9d"), looks := false }, kinds := [], alts := [], laidByText := true, laidKinds := [.funcs, .data], laidTests := true, laidLooks := .later }
def PlankTrueUptoCardSaid : Prop := Claim7.holds Tryd.pinned (.plain (OpenSpec.upto plankTrueSpec)) plankTrueUptoCard

/-- THE SECOND FORM's CARD OF 'skewbaldlaw01.PlankSome'. -/
def plankSomeUptoCard : Claim7 := { stood := { row := plankSomeUptoRow, standIns := [], harness := (true, "f667e12669dde2efb7bd6d6682007b7b139b5dc8b8269ea7cd071a5aa8aa1b9d"), looks := false }, kinds := [], alts := [], laidByText := true, laidKinds := [.funcs, .data], laidTests := true, laidLooks := .later }
def PlankSomeUptoCardSaid : Prop := Claim7.holds Tryd.pinned (.plain (OpenSpec.upto plankSomeSpec)) plankSomeUptoCard

/-- THE SECOND FORM's CARD OF 'skewbaldlaw01.PlankLay'. -/
def plankLayUptoCard : Claim7 := { stood := { row := plankLayUptoRow, standIns := [], harness := (true, "f667e12669dde2efb7bd6d6682007b7b139b5dc8b8269ea7cd071a5aa8aa1b9d"), looks := false }, kinds := [], alts := [], laidByText := true, laidKinds := [.funcs, .data], laidTests := true, laidLooks := .later }
def PlankLayUptoCardSaid : Prop := Claim7.holds Tryd.pinned (.plain (OpenSpec.upto plankLaySpec)) plankLayUptoCard

/-- THE SECOND FORM's CARD OF 'skewbaldlaw01.PlankFewest'. -/
def plankFewestUptoCard : Claim7 := { stood := { row := plankFewestUptoRow, standIns := [], harness := (true, "f667e12669dde2efb7bd6d6682007b7b139b5dc8b8269ea7cd071a5aa8aa1b9d"), looks := false }, kinds := [], alts := [], laidByText := true, laidKinds := [.funcs, .data], laidTests := true, laidLooks := .later }
def PlankFewestUptoCardSaid : Prop := Claim7.holds Tryd.pinned (.plain (OpenSpec.upto plankFewestSpec)) plankFewestUptoCard

/-- THE SECOND FORM's CARD OF 'skewbaldlaw01.PlankMost'. -/
def plankMostUptoCard : Claim7 := { stood := { row := plankMostUptoRow, standIns := [], harness := (true, "f667e12669dde2efb7bd6d6682007b7b139b5dc8b8269ea7cd071a5aa8aa1b9d"), looks := false }, kinds := [], alts := [], laidByText := true, laidKinds := [.funcs, .data], laidTests := true, laidLooks := .later }
def PlankMostUptoCardSaid : Prop := Claim7.holds Tryd.pinned (.plain (OpenSpec.upto plankMostSpec)) plankMostUptoCard

/-- THE SECOND FORM's CARD OF 'skewbaldlaw01.PlankLacks'. -/
def plankLacksUptoCard : Claim7 := { stood := { row := plankLacksUptoRow, standIns := [], harness := (true, "f667e12669dde2efb7bd6d6682007b7b139b5dc8b8269ea7cd071a5aa8aa1b9d"), looks := false }, kinds := [], alts := [], laidByText := true, laidKinds := [.funcs, .data], laidTests := true, laidLooks := .later }
def PlankLacksUptoCardSaid : Prop := Claim7.holds Tryd.pinned (.plain (OpenSpec.upto plankLacksSpec)) plankLacksUptoCard

/-- THE SECOND FORM's CARD OF 'skewbaldlaw01.PlankLook'. -/
def plankLookUptoCard : Claim7 := { stood := { row := plankLookUptoRow, standIns := [], harness := (true, "f667e12669dde2efb7bd6d6682007b7b139b5dc8b8269ea7cd071a5aa8aa1b9d"), looks := false }, kinds := [], alts := [], laidByText := true, laidKinds := [.funcs, .data], laidTests := true, laidLooks := .later }
def PlankLookUptoCardSaid : Prop := Claim7.holds Tryd.pinned (.plain (OpenSpec.upto plankLookSpec)) plankLookUptoCard

/-- THE SECOND FORM's CARD OF 'skewbaldlaw01.PlankKnows'. -/
def plankKnowsUptoCard : Claim7 := { stood := { row := plankKnowsUptoRow, standIns := [], harness := (true, "f667e12669dde2efb7bd6d6682007b7b139b5dc8b8269ea7cd071a5aa8aa1b9d"), looks := false }, kinds := [], alts := [], laidByText := true, laidKinds := [.funcs, .data], laidTests := true, laidLooks := .later }
def PlankKnowsUptoCardSaid : Prop := Claim7.holds Tryd.pinned (.plain (OpenSpec.upto plankKnowsSpec)) plankKnowsUptoCard

/-- THE SECOND FORM's CARD OF 'skewbaldlaw01.PlankTurn'. -/
def plankTurnUptoCard : Claim7 := { stood := { row := plankTurnUptoRow, standIns := [], harness := (true, "f667e12669dde2efb7bd6d6682007b7b139b5dc8b8269ea7cd071a5aa8aa1b9d"), looks := false }, kinds := [], alts := [], laidByText := true, laidKinds := [.funcs, .data], laidTests := true, laidLooks := .later }
def PlankTurnUptoCardSaid : Prop := Claim7.holds Tryd.pinned (.plain (OpenSpec.upto plankTurnSpec)) plankTurnUptoCard

/-- THE SECOND FORM's CARD OF 'skewbaldlaw01.PlankKnown'. -/
def plankKnownUptoCard : Claim7 := { stood := { row := plankKnownUptoRow, standIns := [], harness := (true, "f667e12669dde2efb7bd6d6682007b7b139b5dc8b8269ea7cd071a5aa8aa1b9d"), looks := false }, kinds := [], alts := [], laidByText := true, laidKinds := [.funcs, .data], laidTests := true, laidLooks := .later }
def PlankKnownUptoCardSaid : Prop := Claim7.holds Tryd.pinned (.plain (OpenSpec.upto plankKnownSpec)) plankKnownUptoCard
end Rows
end Go.Proofs.YtekjlpldooihhaaDoor
