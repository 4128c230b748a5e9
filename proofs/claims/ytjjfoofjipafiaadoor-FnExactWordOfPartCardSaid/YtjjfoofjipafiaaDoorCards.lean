/-
  DERIVED. GIVEN WITH THE SEED: THE CARDS: each row of YtjjfoofjipafiaaDoorRows.lean that lists a variable, with what it lists TIED to the program's text (the seventh form; the later family's looks); each row that meets fmt, with fmt's text TOLD by the authors' own Lean function (tested against real Go, not proved from fmt's source: count such statements apart). THE CARD IS WHAT COUNTS. Prove the row's statement (the work); the ties are given (YtjjfoofjipafiaaDoorTie.lean); close each card by the builder's one call (the guide's Derived/Test/ToyasCard.lean, 'card_holds'). Laid BY PROGRAM, IN A SANDBOX (cutbox-door.mjs). By AI agents, Wed Nov 11 2026. No macro, syntax, notation, axiom, sorry.
-/
import Derived.Test.YtjjfoofjipafiaaDoorRows
import GoSem.ClaimSeven
namespace Go.Proofs.YtjjfoofjipafiaaDoor
namespace Rows

/-- THE TIED CARD OF 'laws.FnExactWordOfPart'. -/
def fnExactWordOfPartCard : Claim7 := { stood := { row := fnExactWordOfPartRow, standIns := [], harness := (true, "83fd06edd23fb41588f9131d5822d54dc283c17ec778d0e5dd7f5edc14d7c43f"), looks := false }, kinds := [], alts := [], laidByText := true, laidKinds := [.data, .pinned], laidTests := true, laidLooks := .later }
def FnExactWordOfPartCardSaid : Prop := Claim7.holds Tryd.pinned (.plain (OpenSpec.ofChange fnExactWordOfPartSpec)) fnExactWordOfPartCard

/-- THE SECOND FORM's CARD OF 'laws.FnExactWordOfPart'. -/
def fnExactWordOfPartUptoCard : Claim7 := { stood := { row := fnExactWordOfPartUptoRow, standIns := [], harness := (true, "83fd06edd23fb41588f9131d5822d54dc283c17ec778d0e5dd7f5edc14d7c43f"), looks := false }, kinds := [], alts := [], laidByText := true, laidKinds := [.data, .pinned], laidTests := true, laidLooks := .later }
def FnExactWordOfPartUptoCardSaid : Prop := Claim7.holds Tryd.pinned (.plain (OpenSpec.upto fnExactWordOfPartSpec)) fnExactWordOfPartUptoCard
end Rows
end Go.Proofs.YtjjfoofjipafiaaDoor
