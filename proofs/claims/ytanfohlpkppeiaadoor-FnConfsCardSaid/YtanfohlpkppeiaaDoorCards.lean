/-
  DERIVED. GIVEN WITH THE SEED: THE CARDS: each row of YtanfohlpkppeiaaDoorRows.lean that lists a variable, with what it lists TIED to the program's text (the seventh form; the later family's looks); each row that meets fmt, with fmt's text TOLD by the authors' own Lean function (tested against real Go, not proved from fmt's source: count such statements apart). THE CARD IS WHAT COUNTS. Prove the row's statement (the work); the ties are given (YtanfohlpkppeiaaDoorTie.lean); close each card by the builder's one call (the guide's Derived/Test/ToyasCard.lean, 'card_holds'). Laid BY PROGRAM, IN A SANDBOX (cutbox-door.mjs). By AI agents, Wed Nov 11 2026. No macro, syntax, notation, axiom, sorry.
-/
import Derived.Test.YtanfohlpkppeiaaDoorRows
import GoSem.ClaimSeven
namespace Go.Proofs.YtanfohlpkppeiaaDoor
namespace Rows

/-- THE TIED CARD OF 'laws.FnConfs'. -/
def fnConfsCard : Claim7 := { stood := { row := fnConfsRow, standIns := [], harness := (true, "67286ba92a47b3a23ef63f5cd824fd23aea71d2a71cef2c66f5a6c7da7c2b85a"), looks := false }, kinds := [], alts := [], laidByText := true, laidKinds := [.data, .data, .data], laidTests := true, laidLooks := .later }
def FnConfsCardSaid : Prop := Claim7.holds Tryd.pinned (.plain (OpenSpec.ofChange fnConfsSpec)) fnConfsCard

/-- THE SECOND FORM's CARD OF 'laws.FnConfs'. -/
def fnConfsUptoCard : Claim7 := { stood := { row := fnConfsUptoRow, standIns := [], harness := (true, "67286ba92a47b3a23ef63f5cd824fd23aea71d2a71cef2c66f5a6c7da7c2b85a"), looks := false }, kinds := [], alts := [], laidByText := true, laidKinds := [.data, .data, .data], laidTests := true, laidLooks := .later }
def FnConfsUptoCardSaid : Prop := Claim7.holds Tryd.pinned (.plain (OpenSpec.upto fnConfsSpec)) fnConfsUptoCard
end Rows
end Go.Proofs.YtanfohlpkppeiaaDoor
