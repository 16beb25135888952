/-
  DERIVED. GIVEN WITH THE SEED: THE CARDS: each row of YtccjlcadbpinfaaGreatDoorRows.lean that lists a variable, with what it lists TIED to the program's text (the seventh form; the later family's looks); each row that meets fmt, with fmt's text TOLD by the authors' own Lean function (tested against real Go, not proved from fmt's source: count such statements apart). THE CARD IS WHAT COUNTS. Prove the row's statement (the work); the ties are given (YtccjlcadbpinfaaGreatDoorTie.lean); close each card by the builder's one call (the guide's Derived/Test/ToyasCard.lean, 'card_holds'). Laid BY PROGRAM, IN A SANDBOX (cutbox-door.mjs). By AI agents, Wed Nov 11 2026. No macro, syntax, notation, axiom, sorry.
-/
import Derived.Test.YtccjlcadbpinfaaGreatDoorRows
import GoSem.ClaimSeven
namespace Go.Proofs.YtccjlcadbpinfaaGreatDoor
namespace Rows

/-- THE TIED CARD OF 'avocettop.TopForms'. -/
def topFormsCard : Claim7 := { stood := { row := topFormsRow, standIns := [], harness := (true, "bf610396324232cf449c484aab6f5c68df55a28c8a732e4bd2806623264ae0fb"), looks := false }, kinds := [], alts := [], laidByText := true, laidKinds := [.data], laidTests := true, laidLooks := .later }
def TopFormsCardSaid : Prop := Claim7.holds Tryz.pinned (.plain (OpenSpec.ofChange topFormsSpec)) topFormsCard

/-- THE TIED CARD OF 'avocettop.TopChecks'. -/
def topChecksCard : Claim7 := { stood := { row := topChecksRow, standIns := [], harness := (true, "bf610396324232cf449c484aab6f5c68df55a28c8a732e4bd2806623264ae0fb"), looks := false }, kinds := [], alts := [], laidByText := true, laidKinds := [.data], laidTests := true, laidLooks := .later }
def TopChecksCardSaid : Prop := Claim7.holds Tryz.pinned (.plain (OpenSpec.ofChange topChecksSpec)) topChecksCard

/-- THE SECOND FORM's CARD OF 'avocettop.TopForms'. -/
def topFormsUptoCard : Claim7 := { stood := { row := topFormsUptoRow, standIns := [], harness := (true, "bf610396324232cf449c484aab6f5c68df55a28c8a732e4bd2806623264ae0fb"), looks := false }, kinds := [], alts := [], laidByText := true, laidKinds := [.data], laidTests := true, laidLooks := .later }
def TopFormsUptoCardSaid : Prop := Claim7.holds Tryz.pinned (.plain (OpenSpec.upto topFormsSpec)) topFormsUptoCard

/-- THE SECOND FORM's CARD OF 'avocettop.TopChecks'. -/
def topChecksUptoCard : Claim7 := { stood := { row := topChecksUptoRow, standIns := [], harness := (true, "bf610396324232cf449c484aab6f5c68df55a28c8a732e4bd2806623264ae0fb"), looks := false }, kinds := [], alts := [], laidByText := true, laidKinds := [.data], laidTests := true, laidLooks := .later }
def TopChecksUptoCardSaid : Prop := Claim7.holds Tryz.pinned (.plain (OpenSpec.upto topChecksSpec)) topChecksUptoCard
end Rows
end Go.Proofs.YtccjlcadbpinfaaGreatDoor
