/-
  DERIVED. GIVEN WITH THE SEED: THE CARDS: each row of YtgbhlflhgmcbdaaGreatDoorRows.lean that lists a variable, with what it lists TIED to the program's text (the seventh form; the later family's looks); each row that meets fmt, with fmt's text TOLD by the authors' own Lean function (tested against real Go, not proved from fmt's source: count such statements apart). THE CARD IS WHAT COUNTS. Prove the row's statement (the work); the ties are given (YtgbhlflhgmcbdaaGreatDoorTie.lean); close each card by the builder's one call (the guide's Derived/Test/ToyasCard.lean, 'card_holds'). Laid BY PROGRAM, IN A SANDBOX (cutbox-door.mjs). By AI agents, Wed Nov 11 2026. No macro, syntax, notation, axiom, sorry.
-/
import Derived.Test.YtgbhlflhgmcbdaaGreatDoorRows
import GoSem.ClaimSeven
namespace Go.Proofs.YtgbhlflhgmcbdaaGreatDoor
namespace Rows

/-- THE TIED CARD OF 'customhouselaw45.TradeCourses'. -/
def tradeCoursesCard : Claim7 := { stood := { row := tradeCoursesRow, standIns := [], harness := (true, "713cd7d630e6ec2896331e96b3ac697b52c51e56ae8f52164dbfd91d69bed77d"), looks := true }, kinds := [], alts := [], laidByText := true, laidKinds := [.data, .data, .data, .data, .sentinel, .sentinel, .pinned, .pinned], laidTests := true, laidLooks := .later }
def TradeCoursesCardSaid : Prop := Claim7.holds Tryz.pinned (.plain (OpenSpec.ofChange tradeCoursesSpec)) tradeCoursesCard

/-- THE SECOND FORM's CARD OF 'customhouselaw45.TradeCourses'. -/
def tradeCoursesUptoCard : Claim7 := { stood := { row := tradeCoursesUptoRow, standIns := [], harness := (true, "713cd7d630e6ec2896331e96b3ac697b52c51e56ae8f52164dbfd91d69bed77d"), looks := true }, kinds := [], alts := [], laidByText := true, laidKinds := [.data, .data, .data, .data, .sentinel, .sentinel, .pinned, .pinned], laidTests := true, laidLooks := .later }
def TradeCoursesUptoCardSaid : Prop := Claim7.holds Tryz.pinned (.plain (OpenSpec.upto tradeCoursesSpec)) tradeCoursesUptoCard
end Rows
end Go.Proofs.YtgbhlflhgmcbdaaGreatDoor
