/-
  DERIVED. GIVEN WITH THE SEED: THE CARDS: each row of YtjppikolddklfaaDoorRows.lean that lists a variable, with what it lists TIED to the program's text (the seventh form; the later family's looks); each row that meets fmt, with fmt's text TOLD by the authors' own Lean function (tested against real Go, not proved from fmt's source: count such statements apart). THE CARD IS WHAT COUNTS. Prove the row's statement (the work); the ties are given (YtjppikolddklfaaDoorTie.lean); close each card by the builder's one call (the guide's Derived/Test/ToyasCard.lean, 'card_holds'). Laid BY PROGRAM, IN A SANDBOX (cutbox-door.mjs). By AI agents, Wed Nov 11 2026. No macro, syntax, notation, axiom, sorry.
-/
import Derived.Test.YtjppikolddklfaaDoorRows
import GoSem.ClaimSeven
namespace Go.Proofs.YtjppikolddklfaaDoor
namespace Rows

/-- THE TIED CARD OF 'laws.FnExactWideOf'. -/
def fnExactWideOfCard : Claim7 := { stood := { row := fnExactWideOfRow, standIns := [], harness := (true, "ea7e8d59a1f6bf7207fdb23a045396cc2a87f05f11288b42b815bc092ceadfe6"), looks := false }, kinds := [], alts := [], laidByText := true, laidKinds := [.data, .pinned], laidTests := true, laidLooks := .later }
def FnExactWideOfCardSaid : Prop := Claim7.holds Tryd.pinned (.plain (OpenSpec.ofChange fnExactWideOfSpec)) fnExactWideOfCard

/-- THE TIED CARD OF 'laws.FnExactIdFault'. -/
def fnExactIdFaultCard : Claim7 := { stood := { row := fnExactIdFaultRow, standIns := [], harness := (true, "ea7e8d59a1f6bf7207fdb23a045396cc2a87f05f11288b42b815bc092ceadfe6"), looks := false }, kinds := [], alts := [], laidByText := true, laidKinds := [.data, .pinned], laidTests := true, laidLooks := .later }
def FnExactIdFaultCardSaid : Prop := Claim7.holds Tryd.pinned (.plain (OpenSpec.ofChange fnExactIdFaultSpec)) fnExactIdFaultCard

/-- THE TIED CARD OF 'laws.FnExactLookAlike'. -/
def fnExactLookAlikeCard : Claim7 := { stood := { row := fnExactLookAlikeRow, standIns := [], harness := (true, "ea7e8d59a1f6bf7207fdb23a045396cc2a87f05f11288b42b815bc092ceadfe6"), looks := false }, kinds := [], alts := [], laidByText := true, laidKinds := [.data, .data, .pinned], laidTests := true, laidLooks := .later }
def FnExactLookAlikeCardSaid : Prop := Claim7.holds Tryd.pinned (.plain (OpenSpec.ofChange fnExactLookAlikeSpec)) fnExactLookAlikeCard

/-- THE SECOND FORM's CARD OF 'laws.FnExactWideOf'. -/
def fnExactWideOfUptoCard : Claim7 := { stood := { row := fnExactWideOfUptoRow, standIns := [], harness := (true, "ea7e8d59a1f6bf7207fdb23a045396cc2a87f05f11288b42b815bc092ceadfe6"), looks := false }, kinds := [], alts := [], laidByText := true, laidKinds := [.data, .pinned], laidTests := true, laidLooks := .later }
def FnExactWideOfUptoCardSaid : Prop := Claim7.holds Tryd.pinned (.plain (OpenSpec.upto fnExactWideOfSpec)) fnExactWideOfUptoCard

/-- THE SECOND FORM's CARD OF 'laws.FnExactIdFault'. -/
def fnExactIdFaultUptoCard : Claim7 := { stood := { row := fnExactIdFaultUptoRow, standIns := [], harness := (true, "ea7e8d59a1f6bf7207fdb23a045396cc2a87f05f11288b42b815bc092ceadfe6"), looks := false }, kinds := [], alts := [], laidByText := true, laidKinds := [.data, .pinned], laidTests := true, laidLooks := .later }
def FnExactIdFaultUptoCardSaid : Prop := Claim7.holds Tryd.pinned (.plain (OpenSpec.upto fnExactIdFaultSpec)) fnExactIdFaultUptoCard

/-- THE SECOND FORM's CARD OF 'laws.FnExactLookAlike'. -/
def fnExactLookAlikeUptoCard : Claim7 := { stood := { row := fnExactLookAlikeUptoRow, standIns := [], harness := (true, "ea7e8d59a1f6bf7207fdb23a045396cc2a87f05f11288b42b815bc092ceadfe6"), looks := false }, kinds := [], alts := [], laidByText := true, laidKinds := [.data, .data, .pinned], laidTests := true, laidLooks := .later }
def FnExactLookAlikeUptoCardSaid : Prop := Claim7.holds Tryd.pinned (.plain (OpenSpec.upto fnExactLookAlikeSpec)) fnExactLookAlikeUptoCard
end Rows
end Go.Proofs.YtjppikolddklfaaDoor
