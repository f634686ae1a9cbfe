/-
  DERIVED. GIVEN WITH THE SEED: THE CARDS: each row of YtcflhinogpcadaaDoorRows.lean that lists a variable, with what it lists TIED to the program's text (the seventh form; the later family's looks); each row that meets fmt, with fmt's text TOLD by the authors' own Lean function (tested against real Go, not proved from fmt's source: count such statements apart). THE CARD IS WHAT COUNTS. Prove the row's statement (the work); the ties are given (YtcflhinogpcadaaDoorTie.lean); close each card by the builder's one call (the guide's Derived/Test/ToyasCard.lean, 'card_holds'). Laid BY PROGRAM, IN A SANDBOX (cutbox-door.mjs). By AI agents, Wed Nov 11 2026. No macro, syntax, notation, axiom, sorry.
-/
import Derived.Test.YtcflhinogpcadaaDoorRows
import GoSem.ClaimSeven
namespace Go.Proofs.YtcflhinogpcadaaDoor
namespace Rows

/-- THE TIED CARD OF 'laws.FnExactStartsFor'. -/
def fnExactStartsForCard : Claim7 := { stood := { row := fnExactStartsForRow, standIns := [], harness := (true, "00252bd6a2f767dd503ee7715ac20e9f0ec75279707e7ed625d3259266acbb12"), looks := false }, kinds := [], alts := [], laidByText := true, laidKinds := [.data, .pinned], laidTests := true, laidLooks := .later }
def FnExactStartsForCardSaid : Prop := Claim7.holds Tryd.pinned (.plain (OpenSpec.ofChange fnExactStartsForSpec)) fnExactStartsForCard

/-- THE SECOND FORM's CARD OF 'laws.FnExactStartsFor'. -/
def fnExactStartsForUptoCard : Claim7 := { stood := { row := fnExactStartsForUptoRow, standIns := [], harness := (true, "00252bd6a2f767dd503ee7715ac20e9f0ec75279707e7ed625d3259266acbb12"), looks := false }, kinds := [], alts := [], laidByText := true, laidKinds := [.data, .pinned], laidTests := true, laidLooks := .later }
def FnExactStartsForUptoCardSaid : Prop := Claim7.holds Tryd.pinned (.plain (OpenSpec.upto fnExactStartsForSpec)) fnExactStartsForUptoCard
end Rows
end Go.Proofs.YtcflhinogpcadaaDoor
