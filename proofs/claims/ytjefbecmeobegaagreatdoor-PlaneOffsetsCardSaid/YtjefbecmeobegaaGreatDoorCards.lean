/-
  DERIVED. GIVEN WITH THE SEED: THE CARDS: each row of YtjefbecmeobegaaGreatDoorRows.lean that lists a variable, with what it lists TIED to the program's text (the seventh form; the later family's looks); each row that meets fmt, with fmt's text TOLD by the authors' own Lean function (tested against real Go, not proved from fmt's source: count such statements apart). THE CARD IS WHAT COUNTS. Prove the row's statement (the work); the ties are given (YtjefbecmeobegaaGreatDoorTie.lean); close each card by the builder's one call (the guide's Derived/Test/ToyasCard.lean, 'card_holds'). Laid BY PROGRAM, IN A SANDBOX (cutbox-door.mjs). By AI agents, Wed Nov 11 2026. No macro, syntax, notation, axiom, sorry.
-/
import Derived.Test.YtjefbecmeobegaaGreatDoorRows
import GoSem.ClaimSeven
namespace Go.Proofs.YtjefbecmeobegaaGreatDoor
namespace Rows

/-- THE TIED CARD OF 'voussoirlaw04.PointForms'. -/
def pointFormsCard : Claim7 := { stood := { row := pointFormsRow, standIns := [], harness := (true, "aa6a4fdf4c60225785df291a4967c3e22c317121f7278beca8305c370a93349f"), looks := false }, kinds := [], alts := [], laidByText := true, laidKinds := [.data, .data, .data, .data, .pinned], laidTests := true, laidLooks := .later }
def PointFormsCardSaid : Prop := Claim7.holds Tryz.pinned (.plain (OpenSpec.ofChange pointFormsSpec)) pointFormsCard

/-- THE TIED CARD OF 'voussoirlaw04.PointMoves'. -/
def pointMovesCard : Claim7 := { stood := { row := pointMovesRow, standIns := [], harness := (true, "aa6a4fdf4c60225785df291a4967c3e22c317121f7278beca8305c370a93349f"), looks := false }, kinds := [], alts := [], laidByText := true, laidKinds := [.data, .data, .data, .data, .pinned], laidTests := true, laidLooks := .later }
def PointMovesCardSaid : Prop := Claim7.holds Tryz.pinned (.plain (OpenSpec.ofChange pointMovesSpec)) pointMovesCard

/-- THE TIED CARD OF 'voussoirlaw04.PointRoundTrip'. -/
def pointRoundTripCard : Claim7 := { stood := { row := pointRoundTripRow, standIns := [], harness := (true, "aa6a4fdf4c60225785df291a4967c3e22c317121f7278beca8305c370a93349f"), looks := false }, kinds := [], alts := [], laidByText := true, laidKinds := [.data, .data, .data, .data, .pinned], laidTests := true, laidLooks := .later }
def PointRoundTripCardSaid : Prop := Claim7.holds Tryz.pinned (.plain (OpenSpec.ofChange pointRoundTripSpec)) pointRoundTripCard

/-- THE TIED CARD OF 'voussoirlaw04.PointOrder'. -/
def pointOrderCard : Claim7 := { stood := { row := pointOrderRow, standIns := [], harness := (true, "aa6a4fdf4c60225785df291a4967c3e22c317121f7278beca8305c370a93349f"), looks := false }, kinds := [], alts := [], laidByText := true, laidKinds := [.data, .data, .data, .data, .pinned], laidTests := true, laidLooks := .later }
def PointOrderCardSaid : Prop := Claim7.holds Tryz.pinned (.plain (OpenSpec.ofChange pointOrderSpec)) pointOrderCard

/-- THE TIED CARD OF 'voussoirlaw04.PointScaling'. -/
def pointScalingCard : Claim7 := { stood := { row := pointScalingRow, standIns := [], harness := (true, "aa6a4fdf4c60225785df291a4967c3e22c317121f7278beca8305c370a93349f"), looks := false }, kinds := [], alts := [], laidByText := true, laidKinds := [.data, .data, .data, .data, .pinned], laidTests := true, laidLooks := .later }
def PointScalingCardSaid : Prop := Claim7.holds Tryz.pinned (.plain (OpenSpec.ofChange pointScalingSpec)) pointScalingCard

/-- THE TIED CARD OF 'voussoirlaw05.PlaneCanonical'. -/
def planeCanonicalCard : Claim7 := { stood := { row := planeCanonicalRow, standIns := [], harness := (true, "aa6a4fdf4c60225785df291a4967c3e22c317121f7278beca8305c370a93349f"), looks := false }, kinds := [], alts := [], laidByText := true, laidKinds := [.data, .data, .data, .data, .pinned], laidTests := true, laidLooks := .later }
def PlaneCanonicalCardSaid : Prop := Claim7.holds Tryz.pinned (.plain (OpenSpec.ofChange planeCanonicalSpec)) planeCanonicalCard

/-- THE TIED CARD OF 'voussoirlaw04.PointLerp'. -/
def pointLerpCard : Claim7 := { stood := { row := pointLerpRow, standIns := [], harness := (true, "aa6a4fdf4c60225785df291a4967c3e22c317121f7278beca8305c370a93349f"), looks := false }, kinds := [], alts := [], laidByText := true, laidKinds := [.data, .data, .data, .data, .pinned], laidTests := true, laidLooks := .later }
def PointLerpCardSaid : Prop := Claim7.holds Tryz.pinned (.plain (OpenSpec.ofChange pointLerpSpec)) pointLerpCard

/-- THE TIED CARD OF 'voussoirlaw05.PlaneThrough'. -/
def planeThroughCard : Claim7 := { stood := { row := planeThroughRow, standIns := [], harness := (true, "aa6a4fdf4c60225785df291a4967c3e22c317121f7278beca8305c370a93349f"), looks := false }, kinds := [], alts := [], laidByText := true, laidKinds := [.data, .data, .data, .data, .pinned], laidTests := true, laidLooks := .later }
def PlaneThroughCardSaid : Prop := Claim7.holds Tryz.pinned (.plain (OpenSpec.ofChange planeThroughSpec)) planeThroughCard

/-- THE TIED CARD OF 'voussoirlaw05.PlaneSides'. -/
def planeSidesCard : Claim7 := { stood := { row := planeSidesRow, standIns := [], harness := (true, "aa6a4fdf4c60225785df291a4967c3e22c317121f7278beca8305c370a93349f"), looks := false }, kinds := [], alts := [], laidByText := true, laidKinds := [.data, .data, .data, .data, .pinned], laidTests := true, laidLooks := .later }
def PlaneSidesCardSaid : Prop := Claim7.holds Tryz.pinned (.plain (OpenSpec.ofChange planeSidesSpec)) planeSidesCard

/-- THE TIED CARD OF 'voussoirlaw05.PlaneScaling'. -/
def planeScalingCard : Claim7 := { stood := { row := planeScalingRow, standIns := [], harness := (true, "aa6a4fdf4c60225785df291a4967c3e22c317121f7278beca8305c370a93349f"), looks := false }, kinds := [], alts := [], laidByText := true, laidKinds := [.data, .data, .data, .data, .pinned], laidTests := true, laidLooks := .later }
def PlaneScalingCardSaid : Prop := Claim7.holds Tryz.pinned (.plain (OpenSpec.ofChange planeScalingSpec)) planeScalingCard

/-- THE TIED CARD OF 'voussoirlaw05.PlaneOrder'. -/
def planeOrderCard : Claim7 := { stood := { row := planeOrderRow, standIns := [], harness := (true, "aa6a4fdf4c60225785df291a4967c3e22c317121f7278beca8305c370a93349f"), looks := false }, kinds := [], alts := [], laidByText := true, laidKinds := [.data, .data, .data, .data, .pinned], laidTests := true, laidLooks := .later }
def PlaneOrderCardSaid : Prop := Claim7.holds Tryz.pinned (.plain (OpenSpec.ofChange planeOrderSpec)) planeOrderCard

/-- THE TIED CARD OF 'voussoirlaw05.PlaneProjection'. -/
def planeProjectionCard : Claim7 := { stood := { row := planeProjectionRow, standIns := [], harness := (true, "aa6a4fdf4c60225785df291a4967c3e22c317121f7278beca8305c370a93349f"), looks := false }, kinds := [], alts := [], laidByText := true, laidKinds := [.data, .data, .data, .data, .pinned], laidTests := true, laidLooks := .later }
def PlaneProjectionCardSaid : Prop := Claim7.holds Tryz.pinned (.plain (OpenSpec.ofChange planeProjectionSpec)) planeProjectionCard

/-- THE TIED CARD OF 'voussoirlaw05.PlaneOffsets'. -/
def planeOffsetsCard : Claim7 := { stood := { row := planeOffsetsRow, standIns := [], harness := (true, "aa6a4fdf4c60225785df291a4967c3e22c317121f7278beca8305c370a93349f"), looks := false }, kinds := [], alts := [], laidByText := true, laidKinds := [.data, .data, .data, .data, .pinned], laidTests := true, laidLooks := .later }
def PlaneOffsetsCardSaid : Prop := Claim7.holds Tryz.pinned (.plain (OpenSpec.ofChange planeOffsetsSpec)) planeOffsetsCard

/-- THE SECOND FORM's CARD OF 'voussoirlaw04.PointForms'. -/
def pointFormsUptoCard : Claim7 := { stood := { row := pointFormsUptoRow, standIns := [], harness := (true, "aa6a4fdf4c60225785df291a4967c3e22c317121f7278beca8305c370a93349f"), looks := false }, kinds := [], alts := [], laidByText := true, laidKinds := [.data, .data, .data, .data, .pinned], laidTests := true, laidLooks := .later }
def PointFormsUptoCardSaid : Prop := Claim7.holds Tryz.pinned (.plain (OpenSpec.upto pointFormsSpec)) pointFormsUptoCard

/-- THE SECOND FORM's CARD OF 'voussoirlaw04.PointMoves'. -/
def pointMovesUptoCard : Claim7 := { stood := { row := pointMovesUptoRow, standIns := [], harness := (true, "aa6a4fdf4c60225785df291a4967c3e22c317121f7278beca8305c370a93349f"), looks := false }, kinds := [], alts := [], laidByText := true, laidKinds := [.data, .data, .data, .data, .pinned], laidTests := true, laidLooks := .later }
def PointMovesUptoCardSaid : Prop := Claim7.holds Tryz.pinned (.plain (OpenSpec.upto pointMovesSpec)) pointMovesUptoCard

/-- THE SECOND FORM's CARD OF 'voussoirlaw04.PointRoundTrip'. -/
def pointRoundTripUptoCard : Claim7 := { stood := { row := pointRoundTripUptoRow, standIns := [], harness := (true, "aa6a4fdf4c60225785df291a4967c3e22c317121f7278beca8305c370a93349f"), looks := false }, kinds := [], alts := [], laidByText := true, laidKinds := [.data, .data, .data, .data, .pinned], laidTests := true, laidLooks := .later }
def PointRoundTripUptoCardSaid : Prop := Claim7.holds Tryz.pinned (.plain (OpenSpec.upto pointRoundTripSpec)) pointRoundTripUptoCard

/-- THE SECOND FORM's CARD OF 'voussoirlaw04.PointOrder'. -/
def pointOrderUptoCard : Claim7 := { stood := { row := pointOrderUptoRow, standIns := [], harness := (true, "aa6a4fdf4c60225785df291a4967c3e22c317121f7278beca8305c370a93349f"), looks := false }, kinds := [], alts := [], laidByText := true, laidKinds := [.data, .data, .data, .data, .pinned], laidTests := true, laidLooks := .later }
def PointOrderUptoCardSaid : Prop := Claim7.holds Tryz.pinned (.plain (OpenSpec.upto pointOrderSpec)) pointOrderUptoCard

/-- THE SECOND FORM's CARD OF 'voussoirlaw04.PointScaling'. -/
def pointScalingUptoCard : Claim7 := { stood := { row := pointScalingUptoRow, standIns := [], harness := (true, "aa6a4fdf4c60225785df291a4967c3e22c317121f7278beca8305c370a93349f"), looks := false }, kinds := [], alts := [], laidByText := true, laidKinds := [.data, .data, .data, .data, .pinned], laidTests := true, laidLooks := .later }
def PointScalingUptoCardSaid : Prop := Claim7.holds Tryz.pinned (.plain (OpenSpec.upto pointScalingSpec)) pointScalingUptoCard

/-- THE SECOND FORM's CARD OF 'voussoirlaw05.PlaneCanonical'. -/
def planeCanonicalUptoCard : Claim7 := { stood := { row := planeCanonicalUptoRow, standIns := [], harness := (true, "aa6a4fdf4c60225785df291a4967c3e22c317121f7278beca8305c370a93349f"), looks := false }, kinds := [], alts := [], laidByText := true, laidKinds := [.data, .data, .data, .data, .pinned], laidTests := true, laidLooks := .later }
def PlaneCanonicalUptoCardSaid : Prop := Claim7.holds Tryz.pinned (.plain (OpenSpec.upto planeCanonicalSpec)) planeCanonicalUptoCard

/-- THE SECOND FORM's CARD OF 'voussoirlaw04.PointLerp'. -/
def pointLerpUptoCard : Claim7 := { stood := { row := pointLerpUptoRow, standIns := [], harness := (true, "aa6a4fdf4c60225785df291a4967c3e22c317121f7278beca8305c370a93349f"), looks := false }, kinds := [], alts := [], laidByText := true, laidKinds := [.data, .data, .data, .data, .pinned], laidTests := true, laidLooks := .later }
def PointLerpUptoCardSaid : Prop := Claim7.holds Tryz.pinned (.plain (OpenSpec.upto pointLerpSpec)) pointLerpUptoCard

/-- THE SECOND FORM's CARD OF 'voussoirlaw05.PlaneThrough'. -/
def planeThroughUptoCard : Claim7 := { stood := { row := planeThroughUptoRow, standIns := [], harness := (true, "aa6a4fdf4c60225785df291a4967c3e22c317121f7278beca8305c370a93349f"), looks := false }, kinds := [], alts := [], laidByText := true, laidKinds := [.data, .data, .data, .data, .pinned], laidTests := true, laidLooks := .later }
def PlaneThroughUptoCardSaid : Prop := Claim7.holds Tryz.pinned (.plain (OpenSpec.upto planeThroughSpec)) planeThroughUptoCard

/-- THE SECOND FORM's CARD OF 'voussoirlaw05.PlaneSides'. -/
def planeSidesUptoCard : Claim7 := { stood := { row := planeSidesUptoRow, standIns := [], harness := (true, "aa6a4fdf4c60225785df291a4967c3e22c317121f7278beca8305c370a93349f"), looks := false }, kinds := [], alts := [], laidByText := true, laidKinds := [.data, .data, .data, .data, .pinned], laidTests := true, laidLooks := .later }
def PlaneSidesUptoCardSaid : Prop := Claim7.holds Tryz.pinned (.plain (OpenSpec.upto planeSidesSpec)) planeSidesUptoCard

/-- THE SECOND FORM's CARD OF 'voussoirlaw05.PlaneScaling'. -/
def planeScalingUptoCard : Claim7 := { stood := { row := planeScalingUptoRow, standIns := [], harness := (true, "aa6a4fdf4c60225785df291a4967c3e22c317121f7278beca8305c370a93349f"), looks := false }, kinds := [], alts := [], laidByText := true, laidKinds := [.data, .data, .data, .data, .pinned], laidTests := true, laidLooks := .later }
def PlaneScalingUptoCardSaid : Prop := Claim7.holds Tryz.pinned (.plain (OpenSpec.upto planeScalingSpec)) planeScalingUptoCard

/-- THE SECOND FORM's CARD OF 'voussoirlaw05.PlaneOrder'. -/
def planeOrderUptoCard : Claim7 := { stood := { row := planeOrderUptoRow, standIns := [], harness := (true, "aa6a4fdf4c60225785df291a4967c3e22c317121f7278beca8305c370a93349f"), looks := false }, kinds := [], alts := [], laidByText := true, laidKinds := [.data, .data, .data, .data, .pinned], laidTests := true, laidLooks := .later }
def PlaneOrderUptoCardSaid : Prop := Claim7.holds Tryz.pinned (.plain (OpenSpec.upto planeOrderSpec)) planeOrderUptoCard

/-- THE SECOND FORM's CARD OF 'voussoirlaw05.PlaneProjection'. -/
def planeProjectionUptoCard : Claim7 := { stood := { row := planeProjectionUptoRow, standIns := [], harness := (true, "aa6a4fdf4c60225785df291a4967c3e22c317121f7278beca8305c370a93349f"), looks := false }, kinds := [], alts := [], laidByText := true, laidKinds := [.data, .data, .data, .data, .pinned], laidTests := true, laidLooks := .later }
def PlaneProjectionUptoCardSaid : Prop := Claim7.holds Tryz.pinned (.plain (OpenSpec.upto planeProjectionSpec)) planeProjectionUptoCard

/-- THE SECOND FORM's CARD OF 'voussoirlaw05.PlaneOffsets'. -/
def planeOffsetsUptoCard : Claim7 := { stood := { row := planeOffsetsUptoRow, standIns := [], harness := (true, "aa6a4fdf4c60225785df291a4967c3e22c317121f7278beca8305c370a93349f"), looks := false }, kinds := [], alts := [], laidByText := true, laidKinds := [.data, .data, .data, .data, .pinned], laidTests := true, laidLooks := .later }
def PlaneOffsetsUptoCardSaid : Prop := Claim7.holds Tryz.pinned (.plain (OpenSpec.upto planeOffsetsSpec)) planeOffsetsUptoCard
end Rows
end Go.Proofs.YtjefbecmeobegaaGreatDoor
