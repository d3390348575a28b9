/-
  DERIVED. GIVEN WITH THE SEED: THE CARDS: each row of YtbgmmcngkdhpcaaDoorRows.lean that lists a variable, with what it lists TIED to the program's text (the seventh form; the later family's looks); each row that meets fmt, with fmt's text TOLD by the authors' own Lean function (tested against real Go, not proved from fmt's source: count such statements apart). THE CARD IS WHAT COUNTS. Prove the row's statement (the work); the ties are given (YtbgmmcngkdhpcaaDoorTie.lean); close each card by the builder's one call (the guide's Derived/Test/ToyasCard.lean, 'card_holds'). Laid BY PROGRAM, IN A SANDBOX (cutbox-door.mjs). By AI agents, Wed Nov 11 2026. No macro, syntax, notation, axiom, sorry.
-/
import Derived.Test.YtbgmmcngkdhpcaaDoorRows
import GoSem.ClaimSeven
namespace Go.Proofs.YtbgmmcngkdhpcaaDoor
namespace Rows

/-- THE TIED CARD OF 'quilllaw17.RegionBetween'. -/
def regionBetweenCard : Claim7 := { stood := { row := regionBetweenRow, standIns := [], harness := (true, "1e4177bd71dbe947419b58a0e8218e8a3c2919aaf71eadae0cd83bae543cebf6"), looks := false }, kinds := [], alts := [], laidByText := true, laidKinds := [.data, .pinned], laidTests := true, laidLooks := .later }
def RegionBetweenCardSaid : Prop := Claim7.holds Tryd.pinned (.plain (OpenSpec.ofChange regionBetweenSpec)) regionBetweenCard

/-- THE TIED CARD OF 'quilllaw16.MoveGoes'. -/
def moveGoesCard : Claim7 := { stood := { row := moveGoesRow, standIns := [], harness := (true, "1e4177bd71dbe947419b58a0e8218e8a3c2919aaf71eadae0cd83bae543cebf6"), looks := false }, kinds := [], alts := [], laidByText := true, laidKinds := [.data, .pinned], laidTests := true, laidLooks := .later }
def MoveGoesCardSaid : Prop := Claim7.holds Tryd.pinned (.plain (OpenSpec.ofChange moveGoesSpec)) moveGoesCard

/-- THE TIED CARD OF 'quilllaw16.MoveAgain'. -/
def moveAgainCard : Claim7 := { stood := { row := moveAgainRow, standIns := [], harness := (true, "1e4177bd71dbe947419b58a0e8218e8a3c2919aaf71eadae0cd83bae543cebf6"), looks := false }, kinds := [], alts := [], laidByText := true, laidKinds := [.data, .pinned], laidTests := true, laidLooks := .later }
def MoveAgainCardSaid : Prop := Claim7.holds Tryd.pinned (.plain (OpenSpec.ofChange moveAgainSpec)) moveAgainCard

/-- THE TIED CARD OF 'quilllaw16.MoveKeys'. -/
def moveKeysCard : Claim7 := { stood := { row := moveKeysRow, standIns := [], harness := (true, "1e4177bd71dbe947419b58a0e8218e8a3c2919aaf71eadae0cd83bae543cebf6"), looks := false }, kinds := [], alts := [], laidByText := true, laidKinds := [.data, .pinned], laidTests := true, laidLooks := .later }
def MoveKeysCardSaid : Prop := Claim7.holds Tryd.pinned (.plain (OpenSpec.ofChange moveKeysSpec)) moveKeysCard

/-- THE SECOND FORM's CARD OF 'quilllaw17.RegionBetween'. -/
def regionBetweenUptoCard : Claim7 := { stood := { row := regionBetweenUptoRow, standIns := [], harness := (true, "1e4177bd71dbe947419b58a0e8218e8a3c2919aaf71eadae0cd83bae543cebf6"), looks := false }, kinds := [], alts := [], laidByText := true, laidKinds := [.data, .pinned], laidTests := true, laidLooks := .later }
def RegionBetweenUptoCardSaid : Prop := Claim7.holds Tryd.pinned (.plain (OpenSpec.upto regionBetweenSpec)) regionBetweenUptoCard

/-- THE SECOND FORM's CARD OF 'quilllaw16.MoveGoes'. -/
def moveGoesUptoCard : Claim7 := { stood := { row := moveGoesUptoRow, standIns := [], harness := (true, "1e4177bd71dbe947419b58a0e8218e8a3c2919aaf71eadae0cd83bae543cebf6"), looks := false }, kinds := [], alts := [], laidByText := true, laidKinds := [.data, .pinned], laidTests := true, laidLooks := .later }
def MoveGoesUptoCardSaid : Prop := Claim7.holds Tryd.pinned (.plain (OpenSpec.upto moveGoesSpec)) moveGoesUptoCard

/-- THE SECOND FORM's CARD OF 'quilllaw16.MoveAgain'. -/
def moveAgainUptoCard : Claim7 := { stood := { row := moveAgainUptoRow, standIns := [], harness := (true, "1e4177bd71dbe947419b58a0e8218e8a3c2919aaf71eadae0cd83bae543cebf6"), looks := false }, kinds := [], alts := [], laidByText := true, laidKinds := [.data, .pinned], laidTests := true, laidLooks := .later }
def MoveAgainUptoCardSaid : Prop := Claim7.holds Tryd.pinned (.plain (OpenSpec.upto moveAgainSpec)) moveAgainUptoCard

/-- THE SECOND FORM's CARD OF 'quilllaw16.MoveKeys'. -/
def moveKeysUptoCard : Claim7 := { stood := { row := moveKeysUptoRow, standIns := [], harness := (true, "1e4177bd71dbe947419b58a0e8218e8a3c2919aaf71eadae0cd83bae543cebf6"), looks := false }, kinds := [], alts := [], laidByText := true, laidKinds := [.data, .pinned], laidTests := true, laidLooks := .later }
def MoveKeysUptoCardSaid : Prop := Claim7.holds Tryd.pinned (.plain (OpenSpec.upto moveKeysSpec)) moveKeysUptoCard
end Rows
end Go.Proofs.YtbgmmcngkdhpcaaDoor
