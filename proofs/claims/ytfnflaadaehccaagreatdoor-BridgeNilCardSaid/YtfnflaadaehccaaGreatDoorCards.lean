/-
  DERIVED. GIVEN WITH THE SEED: THE CARDS: each row of YtfnflaadaehccaaGreatDoorRows.lean that lists a variable, with what it lists TIED to the program's text (the seventh form; the later family's looks); each row that meets fmt, with fmt's text TOLD by the authors' own Lean function (tested against real Go, not proved from fmt's source: count such statements apart). THE CARD IS WHAT COUNTS. Prove the row's statement (the work); the ties are given (YtfnflaadaehccaaGreatDoorTie.lean); close each card by the builder's one call (the guide's Derived/Test/ToyasCard.lean, 'card_holds'). Laid BY PROGRAM, IN A SANDBOX (cutbox-door.mjs). By AI agents, Wed Nov 11 2026. No macro, syntax, notation, axiom, sorry.
-/
import Derived.Test.YtfnflaadaehccaaGreatDoorRows
import GoSem.ClaimSeven
namespace Go.Proofs.YtfnflaadaehccaaGreatDoor
namespace Rows

/-- THE TIED CARD OF 'viaductlaw22.BridgeNil'. -/
def bridgeNilCard : Claim7 := { stood := { row := bridgeNilRow, standIns := [], harness := (true, "beb784026887b1edd6bebb12fd6c98050ea5bb39309fb36497dca2ec227837bc"), looks := false }, kinds := [], alts := [], laidByText := true, laidKinds := [.data, .pinned], laidTests := true, laidLooks := .later }
def BridgeNilCardSaid : Prop := Claim7.holds Tryz.pinned (.plain (OpenSpec.ofChange bridgeNilSpec)) bridgeNilCard

/-- THE TIED CARD OF 'viaductlaw24.NetNil'. -/
def netNilCard : Claim7 := { stood := { row := netNilRow, standIns := [], harness := (true, "beb784026887b1edd6bebb12fd6c98050ea5bb39309fb36497dca2ec227837bc"), looks := false }, kinds := [], alts := [], laidByText := true, laidKinds := [.data, .pinned], laidTests := true, laidLooks := .later }
def NetNilCardSaid : Prop := Claim7.holds Tryz.pinned (.plain (OpenSpec.ofChange netNilSpec)) netNilCard

/-- THE TIED CARD OF 'viaductlaw26.WatchNil'. -/
def watchNilCard : Claim7 := { stood := { row := watchNilRow, standIns := [], harness := (true, "beb784026887b1edd6bebb12fd6c98050ea5bb39309fb36497dca2ec227837bc"), looks := false }, kinds := [], alts := [], laidByText := true, laidKinds := [.data, .pinned], laidTests := true, laidLooks := .later }
def WatchNilCardSaid : Prop := Claim7.holds Tryz.pinned (.plain (OpenSpec.ofChange watchNilSpec)) watchNilCard

/-- THE SECOND FORM's CARD OF 'viaductlaw22.BridgeNil'. -/
def bridgeNilUptoCard : Claim7 := { stood := { row := bridgeNilUptoRow, standIns := [], harness := (true, "beb784026887b1edd6bebb12fd6c98050ea5bb39309fb36497dca2ec227837bc"), looks := false }, kinds := [], alts := [], laidByText := true, laidKinds := [.data, .pinned], laidTests := true, laidLooks := .later }
def BridgeNilUptoCardSaid : Prop := Claim7.holds Tryz.pinned (.plain (OpenSpec.upto bridgeNilSpec)) bridgeNilUptoCard

/-- THE SECOND FORM's CARD OF 'viaductlaw24.NetNil'. -/
def netNilUptoCard : Claim7 := { stood := { row := netNilUptoRow, standIns := [], harness := (true, "beb784026887b1edd6bebb12fd6c98050ea5bb39309fb36497dca2ec227837bc"), looks := false }, kinds := [], alts := [], laidByText := true, laidKinds := [.data, .pinned], laidTests := true, laidLooks := .later }
def NetNilUptoCardSaid : Prop := Claim7.holds Tryz.pinned (.plain (OpenSpec.upto netNilSpec)) netNilUptoCard

/-- THE SECOND FORM's CARD OF 'viaductlaw26.WatchNil'. -/
def watchNilUptoCard : Claim7 := { stood := { row := watchNilUptoRow, standIns := [], harness := (true, "beb784026887b1edd6bebb12fd6c98050ea5bb39309fb36497dca2ec227837bc"), looks := false }, kinds := [], alts := [], laidByText := true, laidKinds := [.data, .pinned], laidTests := true, laidLooks := .later }
def WatchNilUptoCardSaid : Prop := Claim7.holds Tryz.pinned (.plain (OpenSpec.upto watchNilSpec)) watchNilUptoCard
end Rows
end Go.Proofs.YtfnflaadaehccaaGreatDoor
