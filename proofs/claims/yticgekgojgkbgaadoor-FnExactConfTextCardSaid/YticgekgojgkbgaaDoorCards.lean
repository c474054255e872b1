/-
  DERIVED. GIVEN WITH THE SEED: THE CARDS: each row of YticgekgojgkbgaaDoorRows.lean that lists a variable, with what it lists TIED to the program's text (the seventh form; the later family's looks); each row that meets fmt, with fmt's text TOLD by the authors' own Lean function (tested against real Go, not proved from fmt's source: count such statements apart). THE CARD IS WHAT COUNTS. Prove the row's statement (the work); the ties are given (YticgekgojgkbgaaDoorTie.lean); close each card by the builder's one call (the guide's Derived/Test/ToyasCard.lean, 'card_holds'). Laid BY PROGRAM, IN A SANDBOX (cutbox-door.mjs). By AI agents, Wed Nov 11 2026. No macro, syntax, notation, axiom, sorry.
-/
import Derived.Test.YticgekgojgkbgaaDoorRows
import GoSem.ClaimSeven
namespace Go.Proofs.YticgekgojgkbgaaDoor
namespace Rows

/-- THE TIED CARD OF 'laws.FnExactConfText'. -/
def fnExactConfTextCard : Claim7 := { stood := { row := fnExactConfTextRow, standIns := [], harness := (true, "7ef19ec874e513385477f4d1d1adf28bd27f31944a960b68266dfe5b463125b3"), looks := false }, kinds := [], alts := [], laidByText := true, laidKinds := [.data, .data, .data], laidTests := true, laidLooks := .later }
def FnExactConfTextCardSaid : Prop := Claim7.holds Tryd.pinned (.plain (OpenSpec.ofChange fnExactConfTextSpec)) fnExactConfTextCard

/-- THE SECOND FORM's CARD OF 'laws.FnExactConfText'. -/
def fnExactConfTextUptoCard : Claim7 := { stood := { row := fnExactConfTextUptoRow, standIns := [], harness := (true, "7ef19ec874e513385477f4d1d1adf28bd27f31944a960b68266dfe5b463125b3"), looks := false }, kinds := [], alts := [], laidByText := true, laidKinds := [.data, .data, .data], laidTests := true, laidLooks := .later }
def FnExactConfTextUptoCardSaid : Prop := Claim7.holds Tryd.pinned (.plain (OpenSpec.upto fnExactConfTextSpec)) fnExactConfTextUptoCard
end Rows
end Go.Proofs.YticgekgojgkbgaaDoor
