/-
  DERIVED. GIVEN WITH THE SEED: THE CARDS: each row of YtdllacjkacmghaaDoorRows.lean that lists a variable, with what it lists TIED to the program's text (the seventh form; the later family's looks); each row that meets fmt, with fmt's text TOLD by the authors' own Lean function (tested against real Go, not proved from fmt's source: count such statements apart). THE CARD IS WHAT COUNTS. Prove the row's statement (the work); the ties are given (YtdllacjkacmghaaDoorTie.lean); close each card by the builder's one call (the guide's Derived/Test/ToyasCard.lean, 'card_holds'). Laid BY PROGRAM, IN A SANDBOX (cutbox-door.mjs). By AI agents, Wed Nov 11 2026. No macro, syntax, notation, axiom, sorry.
-/
import Derived.Test.YtdllacjkacmghaaDoorRows
import GoSem.ClaimSeven
namespace Go.Proofs.YtdllacjkacmghaaDoor
namespace Rows

/-- THE TIED CARD OF 'skewbaldlaw07.DappleTurns'. -/
def dappleTurnsCard : Claim7 := { stood := { row := dappleTurnsRow, standIns := [], harness := (true, "9e6826d9d602024367de8b404c4cb915a007cd0e8e7aecc57e9977a3aaf3a178"), looks := false }, kinds := [], alts := [], laidByText := true, laidKinds := [.funcs, .data], laidTests := true, laidLooks := .later }
def DappleTurnsCardSaid : Prop := Claim7.holds Tryd.pinned (.plain (OpenSpec.ofChange dappleTurnsSpec)) dappleTurnsCard

/-- THE TIED CARD OF 'skewbaldlaw07.DappleRows'. -/
def dappleRowsCard : Claim7 := { stood := { row := dappleRowsRow, standIns := [], harness := (true, "9e6826d9d602024367de8b404c4cb915a007cd0e8e7aecc57e9977a3aaf3a178"), looks := false }, kinds := [], alts := [], laidByText := true, laidKinds := [.funcs, .data], laidTests := true, laidLooks := .later }
def DappleRowsCardSaid : Prop := Claim7.holds Tryd.pinned (.plain (OpenSpec.ofChange dappleRowsSpec)) dappleRowsCard

/-- THE TIED CARD OF 'skewbaldlaw07.DappleTrue'. -/
def dappleTrueCard : Claim7 := { stood := { row := dappleTrueRow, standIns := [], harness := (true, "9e6826d9d602024367de8b404c4cb915a007cd0e8e7aecc57e9977a3aaf3a178"), looks := false }, kinds := [], alts := [], laidByText := true, laidKinds := [.funcs, .data], laidTests := true, laidLooks := .later }
def DappleTrueCardSaid : Prop := Claim7.holds Tryd.pinned (.plain (OpenSpec.ofChange dappleTrueSpec)) dappleTrueCard

/-- THE TIED CARD OF 'skewbaldlaw07.DappleBack'. -/
def dappleBackCard : Claim7 := { stood := { row := dappleBackRow, standIns := [], harness := (true, "9e6826d9d602024367de8b404c4cb915a007cd0e8e7aecc57e9977a3aaf3a178"), looks := false }, kinds := [], alts := [], laidByText := true, laidKinds := [.funcs, .data], laidTests := true, laidLooks := .later }
def DappleBackCardSaid : Prop := Claim7.holds Tryd.pinned (.plain (OpenSpec.ofChange dappleBackSpec)) dappleBackCard

/-- THE TIED CARD OF 'skewbaldlaw07.DappleKnowing'. -/
def dappleKnowingCard : Claim7 := { stood := { row := dappleKnowingRow, standIns := [], harness := (true, "9e6826d9d602024367de8b404c4cb915a007cd0e8e7aecc57e9977a3aaf3a178"), looks := false }, kinds := [], alts := [], laidByText := true, laidKinds := [.funcs, .data], laidTests := true, laidLooks := .later }
def DappleKnowingCardSaid : Prop := Claim7.holds Tryd.pinned (.plain (OpenSpec.ofChange dappleKnowingSpec)) dappleKnowingCard

/-- THE TIED CARD OF 'skewbaldlaw07.DappleWhose'. -/
def dappleWhoseCard : Claim7 := { stood := { row := dappleWhoseRow, standIns := [], harness := (true, "9e6826d9d602024367de8b404c4cb915a007cd0e8e7aecc57e9977a3aaf3a178"), looks := false }, kinds := [], alts := [], laidByText := true, laidKinds := [.funcs, .data], laidTests := true, laidLooks := .later }
def DappleWhoseCardSaid : Prop := Claim7.holds Tryd.pinned (.plain (OpenSpec.ofChange dappleWhoseSpec)) dappleWhoseCard

/-- THE TIED CARD OF 'skewbaldlaw07.DappleNew'. -/
def dappleNewCard : Claim7 := { stood := { row := dappleNewRow, standIns := [], harness := (true, "9e6826d9d602024367de8b404c4cb915a007cd0e8e7aecc57e9977a3aaf3a178"), looks := false }, kinds := [], alts := [], laidByText := true, laidKinds := [.funcs, .data], laidTests := true, laidLooks := .later }
def DappleNewCardSaid : Prop := Claim7.holds Tryd.pinned (.plain (OpenSpec.ofChange dappleNewSpec)) dappleNewCard

/-- THE TIED CARD OF 'skewbaldlaw07.DappleDrop'. -/
def dappleDropCard : Claim7 := { stood := { row := dappleDropRow, standIns := [], harness := (true, "9e6826d9d602024367de8b404c4cb915a007cd0e8e7aecc57e9977a3aaf3a178"), looks := false }, kinds := [], alts := [], laidByText := true, laidKinds := [.funcs, .data], laidTests := true, laidLooks := .later }
def DappleDropCardSaid : Prop := Claim7.holds Tryd.pinned (.plain (OpenSpec.ofChange dappleDropSpec)) dappleDropCard

/-- THE TIED CARD OF 'skewbaldlaw07.DappleLook'. -/
def dappleLookCard : Claim7 := { stood := { row := dappleLookRow, standIns := [], harness := (true, "9e6826d9d602024367de8b404c4cb915a007cd0e8e7aecc57e9977a3aaf3a178"), looks := false }, kinds := [], alts := [], laidByText := true, laidKinds := [.funcs, .data], laidTests := true, laidLooks := .later }
def DappleLookCardSaid : Prop := Claim7.holds Tryd.pinned (.plain (OpenSpec.ofChange dappleLookSpec)) dappleLookCard

/-- THE TIED CARD OF 'skewbaldlaw07.DappleMore'. -/
def dappleMoreCard : Claim7 := { stood := { row := dappleMoreRow, standIns := [], harness := (true, "9e6826d9d602024367de8b404c4cb915a007cd0e8e7aecc57e9977a3aaf3a178"), looks := false }, kinds := [], alts := [], laidByText := true, laidKinds := [.funcs, .data], laidTests := true, laidLooks := .later }
def DappleMoreCardSaid : Prop := Claim7.holds Tryd.pinned (.plain (OpenSpec.ofChange dappleMoreSpec)) dappleMoreCard

/-- THE TIED CARD OF 'skewbaldlaw07.DappleRead'. -/
def dappleReadCard : Claim7 := { stood := { row := dappleReadRow, standIns := [], harness := (true, "9e6826d9d602024367de8b404c4cb915a007cd0e8e7aecc57e9977a3aaf3a178"), looks := false }, kinds := [], alts := [], laidByText := true, laidKinds := [.funcs, .data], laidTests := true, laidLooks := .later }
def DappleReadCardSaid : Prop := Claim7.holds Tryd.pinned (.plain (OpenSpec.ofChange dappleReadSpec)) dappleReadCard

/-- THE TIED CARD OF 'skewbaldlaw07.DappleFirsts'. -/
def dappleFirstsCard : Claim7 := { stood := { row := dappleFirstsRow, standIns := [], harness := (true, "9e6826d9d602024367de8b404c4cb915a007cd0e8e7aecc57e9977a3aaf3a178"), looks := false }, kinds := [], alts := [], laidByText := true, laidKinds := [.funcs, .data], laidTests := true, laidLooks := .later }
def DappleFirstsCardSaid : Prop := Claim7.holds Tryd.pinned (.plain (OpenSpec.ofChange dappleFirstsSpec)) dappleFirstsCard

/-- THE TIED CARD OF 'skewbaldlaw07.DappleClash'. -/
def dappleClashCard : Claim7 := { stood := { row := dappleClashRow, standIns := [], harness := (true, "9e6826d9d602024367de8b404c4cb915a007cd0e8e7aecc57e9977a3aaf3a178"), looks := false }, kinds := [], alts := [], laidByText := true, laidKinds := [.funcs, .data], laidTests := true, laidLooks := .later }
def DappleClashCardSaid : Prop := Claim7.holds Tryd.pinned (.plain (OpenSpec.ofChange dappleClashSpec)) dappleClashCard

/-- THE TIED CARD OF 'skewbaldlaw07.DappleKnown'. -/
def dappleKnownCard : Claim7 := { stood := { row := dappleKnownRow, standIns := [], harness := (true, "9e6826d9d602024367de8b404c4cb915a007cd0e8e7aecc57e9977a3aaf3a178"), looks := false }, kinds := [], alts := [], laidByText := true, laidKinds := [.funcs, .data], laidTests := true, laidLooks := .later }
def DappleKnownCardSaid : Prop := Claim7.holds Tryd.pinned (.plain (OpenSpec.ofChange dappleKnownSpec)) dappleKnownCard

/-- THE SECOND FORM's CARD OF 'skewbaldlaw07.DappleTurns'. -/
def dappleTurnsUptoCard : Claim7 := { stood := { row := dappleTurnsUptoRow, standIns := [], harness := (true, "9e6826d9d602024367de8b404c4cb915a007cd0e8e7aecc57e9977a3aaf3a178"), looks := false }, kinds := [], alts := [], laidByText := true, laidKinds := [.funcs, .data], laidTests := true, laidLooks := .later }
def DappleTurnsUptoCardSaid : Prop := Claim7.holds Tryd.pinned (.plain (OpenSpec.upto dappleTurnsSpec)) dappleTurnsUptoCard

/-- THE SECOND FORM's CARD OF 'skewbaldlaw07.DappleRows'. -/
def dappleRowsUptoCard : Claim7 := { stood := { row := dappleRowsUptoRow, standIns := [], harness := (true, "9e6826d9d602024367de8b404c4cb915a007cd0e8e7aecc57e9977a3aaf3a178"), looks := false }, kinds := [], alts := [], laidByText := true, laidKinds := [.funcs, .data], laidTests := true, laidLooks := .later }
def DappleRowsUptoCardSaid : Prop := Claim7.holds Tryd.pinned (.plain (OpenSpec.upto dappleRowsSpec)) dappleRowsUptoCard

/-- THE SECOND FORM's CARD OF 'skewbaldlaw07.DappleTrue'. -/
def dappleTrueUptoCard : Claim7 := { stood := { row := dappleTrueUptoRow, standIns := [], harness := (true, "9e6826d9d602024367de8b404c4cb915a007cd0e8e7aecc57e9977a3aaf3a178"), looks := false }, kinds := [], alts := [], laidByText := true, laidKinds := [.funcs, .data], laidTests := true, laidLooks := .later }
def DappleTrueUptoCardSaid : Prop := Claim7.holds Tryd.pinned (.plain (OpenSpec.upto dappleTrueSpec)) dappleTrueUptoCard

/-- THE SECOND FORM's CARD OF 'skewbaldlaw07.DappleBack'. -/
def dappleBackUptoCard : Claim7 := { stood := { row := dappleBackUptoRow, standIns := [], harness := (true, "9e6826d9d602024367de8b404c4cb915a007cd0e8e7aecc57e9977a3aaf3a178"), looks := false }, kinds := [], alts := [], laidByText := true, laidKinds := [.funcs, .data], laidTests := true, laidLooks := .later }
def DappleBackUptoCardSaid : Prop := Claim7.holds Tryd.pinned (.plain (OpenSpec.upto dappleBackSpec)) dappleBackUptoCard

/-- THE SECOND FORM's CARD OF 'skewbaldlaw07.DappleKnowing'. -/
def dappleKnowingUptoCard : Claim7 := { stood := { row := dappleKnowingUptoRow, standIns := [], harness := (true, "9e6826d9d602024367de8b404c4cb915a007cd0e8e7aecc57e9977a3aaf3a178"), looks := false }, kinds := [], alts := [], laidByText := true, laidKinds := [.funcs, .data], laidTests := true, laidLooks := .later }
def DappleKnowingUptoCardSaid : Prop := Claim7.holds Tryd.pinned (.plain (OpenSpec.upto dappleKnowingSpec)) dappleKnowingUptoCard

/-- THE SECOND FORM's CARD OF 'skewbaldlaw07.DappleWhose'. -/
def dappleWhoseUptoCard : Claim7 := { stood := { row := dappleWhoseUptoRow, standIns := [], harness := (true, "9e6826d9d602024367de8b404c4cb915a007cd0e8e7aecc57e9977a3aaf3a178"), looks := false }, kinds := [], alts := [], laidByText := true, laidKinds := [.funcs, .data], laidTests := true, laidLooks := .later }
def DappleWhoseUptoCardSaid : Prop := Claim7.holds Tryd.pinned (.plain (OpenSpec.upto dappleWhoseSpec)) dappleWhoseUptoCard

/-- THE SECOND FORM's CARD OF 'skewbaldlaw07.DappleNew'. -/
def dappleNewUptoCard : Claim7 := { stood := { row := dappleNewUptoRow, standIns := [], harness := (true, "9e6826d9d602024367de8b404c4cb915a007cd0e8e7aecc57e9977a3aaf3a178"), looks := false }, kinds := [], alts := [], laidByText := true, laidKinds := [.funcs, .data], laidTests := true, laidLooks := .later }
def DappleNewUptoCardSaid : Prop := Claim7.holds Tryd.pinned (.plain (OpenSpec.upto dappleNewSpec)) dappleNewUptoCard

/-- THE SECOND FORM's CARD OF 'skewbaldlaw07.DappleDrop'. -/
def dappleDropUptoCard : Claim7 := { stood := { row := dappleDropUptoRow, standIns := [], harness := (true, "9e6826d9d602024367de8b404c4cb915a007cd0e8e7aecc57e9977a3aaf3a178"), looks := false }, kinds := [], alts := [], laidByText := true, laidKinds := [.funcs, .data], laidTests := true, laidLooks := .later }
def DappleDropUptoCardSaid : Prop := Claim7.holds Tryd.pinned (.plain (OpenSpec.upto dappleDropSpec)) dappleDropUptoCard

/-- THE SECOND FORM's CARD OF 'skewbaldlaw07.DappleLook'. -/
def dappleLookUptoCard : Claim7 := { stood := { row := dappleLookUptoRow, standIns := [], harness := (true, "9e6826d9d602024367de8b404c4cb915a007cd0e8e7aecc57e9977a3aaf3a178"), looks := false }, kinds := [], alts := [], laidByText := true, laidKinds := [.funcs, .data], laidTests := true, laidLooks := .later }
def DappleLookUptoCardSaid : Prop := Claim7.holds Tryd.pinned (.plain (OpenSpec.upto dappleLookSpec)) dappleLookUptoCard

/-- THE SECOND FORM's CARD OF 'skewbaldlaw07.DappleMore'. -/
def dappleMoreUptoCard : Claim7 := { stood := { row := dappleMoreUptoRow, standIns := [], harness := (true, "9e6826d9d602024367de8b404c4cb915a007cd0e8e7aecc57e9977a3aaf3a178"), looks := false }, kinds := [], alts := [], laidByText := true, laidKinds := [.funcs, .data], laidTests := true, laidLooks := .later }
def DappleMoreUptoCardSaid : Prop := Claim7.holds Tryd.pinned (.plain (OpenSpec.upto dappleMoreSpec)) dappleMoreUptoCard

/-- THE SECOND FORM's CARD OF 'skewbaldlaw07.DappleRead'. -/
def dappleReadUptoCard : Claim7 := { stood := { row := dappleReadUptoRow, standIns := [], harness := (true, "9e6826d9d602024367de8b404c4cb915a007cd0e8e7aecc57e9977a3aaf3a178"), looks := false }, kinds := [], alts := [], laidByText := true, laidKinds := [.funcs, .data], laidTests := true, laidLooks := .later }
def DappleReadUptoCardSaid : Prop := Claim7.holds Tryd.pinned (.plain (OpenSpec.upto dappleReadSpec)) dappleReadUptoCard

/-- THE SECOND FORM's CARD OF 'skewbaldlaw07.DappleFirsts'. -/
def dappleFirstsUptoCard : Claim7 := { stood := { row := dappleFirstsUptoRow, standIns := [], harness := (true, "9e6826d9d602024367de8b404c4cb915a007cd0e8e7aecc57e9977a3aaf3a178"), looks := false }, kinds := [], alts := [], laidByText := true, laidKinds := [.funcs, .data], laidTests := true, laidLooks := .later }
def DappleFirstsUptoCardSaid : Prop := Claim7.holds Tryd.pinned (.plain (OpenSpec.upto dappleFirstsSpec)) dappleFirstsUptoCard

/-- THE SECOND FORM's CARD OF 'skewbaldlaw07.DappleClash'. -/
def dappleClashUptoCard : Claim7 := { stood := { row := dappleClashUptoRow, standIns := [], harness := (true, "9e6826d9d602024367de8b404c4cb915a007cd0e8e7aecc57e9977a3aaf3a178"), looks := false }, kinds := [], alts := [], laidByText := true, laidKinds := [.funcs, .data], laidTests := true, laidLooks := .later }
def DappleClashUptoCardSaid : Prop := Claim7.holds Tryd.pinned (.plain (OpenSpec.upto dappleClashSpec)) dappleClashUptoCard

/-- THE SECOND FORM's CARD OF 'skewbaldlaw07.DappleKnown'. -/
def dappleKnownUptoCard : Claim7 := { stood := { row := dappleKnownUptoRow, standIns := [], harness := (true, "9e6826d9d602024367de8b404c4cb915a007cd0e8e7aecc57e9977a3aaf3a178"), looks := false }, kinds := [], alts := [], laidByText := true, laidKinds := [.funcs, .data], laidTests := true, laidLooks := .later }
def DappleKnownUptoCardSaid : Prop := Claim7.holds Tryd.pinned (.plain (OpenSpec.upto dappleKnownSpec)) dappleKnownUptoCard
end Rows
end Go.Proofs.YtdllacjkacmghaaDoor
