/-
  DERIVED. GIVEN WITH THE SEED: THE CARDS: each row of YtphojlkljlnfjaaDoorRows.lean that lists a variable, with what it lists TIED to the program's text (the seventh form; the later family's looks); each row that meets fmt, with fmt's text TOLD by the authors' own Lean function (tested against real Go, not proved from fmt's source: count such statements apart). THE CARD IS WHAT COUNTS. Prove the row's statement (the work); the ties are given (YtphojlkljlnfjaaDoorTie.lean); close each card by the builder's one call (the guide's Derived/Test/ToyasCard.lean, 'card_holds'). Laid BY PROGRAM, IN A SANDBOX (cutbox-door.mjs). By AI agents, Wed Nov 11 2026. No macro, syntax, notation, axiom, sorry.
-/
import Derived.Test.YtphojlkljlnfjaaDoorRows
import GoSem.ClaimSeven
namespace Go.Proofs.YtphojlkljlnfjaaDoor
namespace Rows

/-- THE TIED CARD OF 'laws.FnPacketCut'. -/
def fnPacketCutCard : Claim7 := { stood := { row := fnPacketCutRow, standIns := [], harness := (true, "63cee3945c415ce69a7960e1e150e1c135d502b8f7acaf364d0f4295c632432f"), looks := true }, kinds := [], alts := [], laidByText := true, laidKinds := [.data, .data, .data, .data, .sentinel, .sentinel, .sentinel, .pinned], laidTests := true, laidLooks := .later }
def FnPacketCutCardSaid : Prop := Claim7.holds Tryd.pinned (.plain (OpenSpec.ofChange fnPacketCutSpec)) fnPacketCutCard

/-- THE TIED CARD OF 'laws.FnExactPacketRead'. -/
def fnExactPacketReadCard : Claim7 := { stood := { row := fnExactPacketReadRow, standIns := [], harness := (true, "63cee3945c415ce69a7960e1e150e1c135d502b8f7acaf364d0f4295c632432f"), looks := true }, kinds := [], alts := [], laidByText := true, laidKinds := [.data, .data, .data, .data, .sentinel, .sentinel, .sentinel, .pinned], laidTests := true, laidLooks := .later }
def FnExactPacketReadCardSaid : Prop := Claim7.holds Tryd.pinned (.plain (OpenSpec.ofChange fnExactPacketReadSpec)) fnExactPacketReadCard

/-- THE TIED CARD OF 'laws.FnPacketStrict'. -/
def fnPacketStrictCard : Claim7 := { stood := { row := fnPacketStrictRow, standIns := [], harness := (true, "63cee3945c415ce69a7960e1e150e1c135d502b8f7acaf364d0f4295c632432f"), looks := true }, kinds := [], alts := [], laidByText := true, laidKinds := [.data, .data, .data, .data, .sentinel, .sentinel, .sentinel, .pinned], laidTests := true, laidLooks := .later }
def FnPacketStrictCardSaid : Prop := Claim7.holds Tryd.pinned (.plain (OpenSpec.ofChange fnPacketStrictSpec)) fnPacketStrictCard

/-- THE TIED CARD OF 'laws.FnExactPacketText'. -/
def fnExactPacketTextCard : Claim7 := { stood := { row := fnExactPacketTextRow, standIns := [], harness := (true, "63cee3945c415ce69a7960e1e150e1c135d502b8f7acaf364d0f4295c632432f"), looks := true }, kinds := [], alts := [], laidByText := true, laidKinds := [.data, .data, .data], laidTests := true, laidLooks := .later }
def FnExactPacketTextCardSaid : Prop := Claim7.holds Tryd.pinned (.plain (OpenSpec.ofChange fnExactPacketTextSpec)) fnExactPacketTextCard

/-- THE TIED CARD OF 'laws.FnPacketOne'. -/
def fnPacketOneCard : Claim7 := { stood := { row := fnPacketOneRow, standIns := [], harness := (true, "63cee3945c415ce69a7960e1e150e1c135d502b8f7acaf364d0f4295c632432f"), looks := true }, kinds := [], alts := [], laidByText := true, laidKinds := [.data, .data, .data], laidTests := true, laidLooks := .later }
def FnPacketOneCardSaid : Prop := Claim7.holds Tryd.pinned (.plain (OpenSpec.ofChange fnPacketOneSpec)) fnPacketOneCard

/-- THE TIED CARD OF 'laws.FnPacketBack'. -/
def fnPacketBackCard : Claim7 := { stood := { row := fnPacketBackRow, standIns := [], harness := (true, "63cee3945c415ce69a7960e1e150e1c135d502b8f7acaf364d0f4295c632432f"), looks := true }, kinds := [], alts := [], laidByText := true, laidKinds := [.data, .data, .data, .data, .sentinel, .sentinel, .sentinel, .pinned], laidTests := true, laidLooks := .later }
def FnPacketBackCardSaid : Prop := Claim7.holds Tryd.pinned (.plain (OpenSpec.ofChange fnPacketBackSpec)) fnPacketBackCard

/-- THE SECOND FORM's CARD OF 'laws.FnPacketCut'. -/
def fnPacketCutUptoCard : Claim7 := { stood := { row := fnPacketCutUptoRow, standIns := [], harness := (true, "63cee3945c415ce69a7960e1e150e1c135d502b8f7acaf364d0f4295c632432f"), looks := true }, kinds := [], alts := [], laidByText := true, laidKinds := [.data, .data, .data, .data, .sentinel, .sentinel, .sentinel, .pinned], laidTests := true, laidLooks := .later }
def FnPacketCutUptoCardSaid : Prop := Claim7.holds Tryd.pinned (.plain (OpenSpec.upto fnPacketCutSpec)) fnPacketCutUptoCard

/-- THE SECOND FORM's CARD OF 'laws.FnExactPacketRead'. -/
def fnExactPacketReadUptoCard : Claim7 := { stood := { row := fnExactPacketReadUptoRow, standIns := [], harness := (true, "63cee3945c415ce69a7960e1e150e1c135d502b8f7acaf364d0f4295c632432f"), looks := true }, kinds := [], alts := [], laidByText := true, laidKinds := [.data, .data, .data, .data, .sentinel, .sentinel, .sentinel, .pinned], laidTests := true, laidLooks := .later }
def FnExactPacketReadUptoCardSaid : Prop := Claim7.holds Tryd.pinned (.plain (OpenSpec.upto fnExactPacketReadSpec)) fnExactPacketReadUptoCard

/-- THE SECOND FORM's CARD OF 'laws.FnPacketStrict'. -/
def fnPacketStrictUptoCard : Claim7 := { stood := { row := fnPacketStrictUptoRow, standIns := [], harness := (true, "63cee3945c415ce69a7960e1e150e1c135d502b8f7acaf364d0f4295c632432f"), looks := true }, kinds := [], alts := [], laidByText := true, laidKinds := [.data, .data, .data, .data, .sentinel, .sentinel, .sentinel, .pinned], laidTests := true, laidLooks := .later }
def FnPacketStrictUptoCardSaid : Prop := Claim7.holds Tryd.pinned (.plain (OpenSpec.upto fnPacketStrictSpec)) fnPacketStrictUptoCard

/-- THE SECOND FORM's CARD OF 'laws.FnExactPacketText'. -/
def fnExactPacketTextUptoCard : Claim7 := { stood := { row := fnExactPacketTextUptoRow, standIns := [], harness := (true, "63cee3945c415ce69a7960e1e150e1c135d502b8f7acaf364d0f4295c632432f"), looks := true }, kinds := [], alts := [], laidByText := true, laidKinds := [.data, .data, .data], laidTests := true, laidLooks := .later }
def FnExactPacketTextUptoCardSaid : Prop := Claim7.holds Tryd.pinned (.plain (OpenSpec.upto fnExactPacketTextSpec)) fnExactPacketTextUptoCard

/-- THE SECOND FORM's CARD OF 'laws.FnPacketOne'. -/
def fnPacketOneUptoCard : Claim7 := { stood := { row := fnPacketOneUptoRow, standIns := [], harness := (true, "63cee3945c415ce69a7960e1e150e1c135d502b8f7acaf364d0f4295c632432f"), looks := true }, kinds := [], alts := [], laidByText := true, laidKinds := [.data, .data, .data], laidTests := true, laidLooks := .later }
def FnPacketOneUptoCardSaid : Prop := Claim7.holds Tryd.pinned (.plain (OpenSpec.upto fnPacketOneSpec)) fnPacketOneUptoCard

/-- THE SECOND FORM's CARD OF 'laws.FnPacketBack'. -/
def fnPacketBackUptoCard : Claim7 := { stood := { row := fnPacketBackUptoRow, standIns := [], harness := (true, "63cee3945c415ce69a7960e1e150e1c135d502b8f7acaf364d0f4295c632432f"), looks := true }, kinds := [], alts := [], laidByText := true, laidKinds := [.data, .data, .data, .data, .sentinel, .sentinel, .sentinel, .pinned], laidTests := true, laidLooks := .later }
def FnPacketBackUptoCardSaid : Prop := Claim7.holds Tryd.pinned (.plain (OpenSpec.upto fnPacketBackSpec)) fnPacketBackUptoCard
end Rows
end Go.Proofs.YtphojlkljlnfjaaDoor
