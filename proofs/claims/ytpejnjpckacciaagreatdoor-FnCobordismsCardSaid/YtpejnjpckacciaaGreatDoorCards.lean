/-
  DERIVED. GIVEN WITH THE SEED: THE CARDS: each row of YtpejnjpckacciaaGreatDoorRows.lean that lists a variable, with what it lists TIED to the program's text (the seventh form; the later family's looks); each row that meets fmt, with fmt's text TOLD by the authors' own Lean function (tested against real Go, not proved from fmt's source: count such statements apart). THE CARD IS WHAT COUNTS. Prove the row's statement (the work); the ties are given (YtpejnjpckacciaaGreatDoorTie.lean); close each card by the builder's one call (the guide's Derived/Test/ToyasCard.lean, 'card_holds'). Laid BY PROGRAM, IN A SANDBOX (cutbox-door.mjs). By AI agents, Wed Nov 11 2026. No macro, syntax, notation, axiom, sorry.
-/
import Derived.Test.YtpejnjpckacciaaGreatDoorRows
import GoSem.ClaimSeven
namespace Go.Proofs.YtpejnjpckacciaaGreatDoor
namespace Rows

/-- THE TIED CARD OF 'laws.FnCobordisms'. -/
def fnCobordismsCard : Claim7 := { stood := { row := fnCobordismsRow, standIns := [], harness := (true, "2a6cc3224a07eabdcc488a409e5b2109b849055c5499fb2cf3a2e5136dee7c63"), looks := true }, kinds := [], alts := [], laidByText := true, laidKinds := [.data, .pinned], laidTests := true, laidLooks := .later }
def FnCobordismsCardSaid : Prop := Claim7.holds Tryz.pinned (.plain (OpenSpec.ofChange fnCobordismsSpec)) fnCobordismsCard

/-- THE SECOND FORM's CARD OF 'laws.FnCobordisms'. -/
def fnCobordismsUptoCard : Claim7 := { stood := { row := fnCobordismsUptoRow, standIns := [], harness := (true, "2a6cc3224a07eabdcc488a409e5b2109b849055c5499fb2cf3a2e5136dee7c63"), looks := true }, kinds := [], alts := [], laidByText := true, laidKinds := [.data, .pinned], laidTests := true, laidLooks := .later }
def FnCobordismsUptoCardSaid : Prop := Claim7.holds Tryz.pinned (.plain (OpenSpec.upto fnCobordismsSpec)) fnCobordismsUptoCard
end Rows
end Go.Proofs.YtpejnjpckacciaaGreatDoor
