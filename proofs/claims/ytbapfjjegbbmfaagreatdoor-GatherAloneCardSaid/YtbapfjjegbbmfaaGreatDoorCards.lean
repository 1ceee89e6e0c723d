/-
  DERIVED. GIVEN WITH THE SEED: THE CARDS: each row of YtbapfjjegbbmfaaGreatDoorRows.lean that lists a variable, with what it lists TIED to the program's text (the seventh form; the later family's looks); each row that meets fmt, with fmt's text TOLD by the authors' own Lean function (tested against real Go, not proved from fmt's source: count such statements apart). THE CARD IS WHAT COUNTS. Prove the row's statement (the work); the ties are given (YtbapfjjegbbmfaaGreatDoorTie.lean); close each card by the builder's one call (the guide's Derived/Test/ToyasCard.lean, 'card_holds'). Laid BY PROGRAM, IN A SANDBOX (cutbox-door.mjs). By AI agents, Wed Nov 11 2026. No macro, syntax, notation, axiom, sorry.
-/
import Derived.Test.YtbapfjjegbbmfaaGreatDoorRows
import GoSem.ClaimSeven
namespace Go.Proofs.YtbapfjjegbbmfaaGreatDoor
namespace Rows

/-- THE TIED CARD OF 'styluslaw23.OrderPages'. -/
def orderPagesCard : Claim7 := { stood := { row := orderPagesRow, standIns := [], harness := (true, "7441a79e037b90674e99e514002bfd94d03fbe9feb87572135f6b654f3d4d70f"), looks := false }, kinds := [], alts := [], laidByText := true, laidKinds := [.data, .pinned], laidTests := true, laidLooks := .later }
def OrderPagesCardSaid : Prop := Claim7.holds Tryz.pinned (.plain (OpenSpec.ofChange orderPagesSpec)) orderPagesCard

/-- THE TIED CARD OF 'styluslaw24.GatherAlone'. -/
def gatherAloneCard : Claim7 := { stood := { row := gatherAloneRow, standIns := [], harness := (true, "7441a79e037b90674e99e514002bfd94d03fbe9feb87572135f6b654f3d4d70f"), looks := false }, kinds := [], alts := [], laidByText := true, laidKinds := [.data, .pinned], laidTests := true, laidLooks := .later }
def GatherAloneCardSaid : Prop := Claim7.holds Tryz.pinned (.plain (OpenSpec.ofChange gatherAloneSpec)) gatherAloneCard

/-- THE SECOND FORM's CARD OF 'styluslaw23.OrderPages'. -/
def orderPagesUptoCard : Claim7 := { stood := { row := orderPagesUptoRow, standIns := [], harness := (true, "7441a79e037b90674e99e514002bfd94d03fbe9feb87572135f6b654f3d4d70f"), looks := false }, kinds := [], alts := [], laidByText := true, laidKinds := [.data, .pinned], laidTests := true, laidLooks := .later }
def OrderPagesUptoCardSaid : Prop := Claim7.holds Tryz.pinned (.plain (OpenSpec.upto orderPagesSpec)) orderPagesUptoCard

/-- THE SECOND FORM's CARD OF 'styluslaw24.GatherAlone'. -/
def gatherAloneUptoCard : Claim7 := { stood := { row := gatherAloneUptoRow, standIns := [], harness := (true, "7441a79e037b90674e99e514002bfd94d03fbe9feb87572135f6b654f3d4d70f"), looks := false }, kinds := [], alts := [], laidByText := true, laidKinds := [.data, .pinned], laidTests := true, laidLooks := .later }
def GatherAloneUptoCardSaid : Prop := Claim7.holds Tryz.pinned (.plain (OpenSpec.upto gatherAloneSpec)) gatherAloneUptoCard
end Rows
end Go.Proofs.YtbapfjjegbbmfaaGreatDoor
