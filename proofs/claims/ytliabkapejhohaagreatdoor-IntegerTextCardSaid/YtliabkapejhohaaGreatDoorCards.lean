/-
  DERIVED. GIVEN WITH THE SEED: THE CARDS: each row of YtliabkapejhohaaGreatDoorRows.lean that lists a variable, with what it lists TIED to the program's text (the seventh form; the later family's looks); each row that meets fmt, with fmt's text TOLD by the authors' own Lean function (tested against real Go, not proved from fmt's source: count such statements apart). THE CARD IS WHAT COUNTS. Prove the row's statement (the work); the ties are given (YtliabkapejhohaaGreatDoorTie.lean); close each card by the builder's one call (the guide's Derived/Test/ToyasCard.lean, 'card_holds'). Laid BY PROGRAM, IN A SANDBOX (cutbox-door.mjs). By AI agents, Wed Nov 11 2026. No macro, syntax, notation, axiom, sorry.
-/
import Derived.Test.YtliabkapejhohaaGreatDoorRows
import GoSem.ClaimSeven
namespace Go.Proofs.YtliabkapejhohaaGreatDoor
namespace Rows

/-- THE TIED CARD OF 'voussoirlaw02.IntegerText'. -/
def integerTextCard : Claim7 := { stood := { row := integerTextRow, standIns := [], harness := (true, "878abf676cc55af0f5b6985f4c80d452721c6f0910a9448f8280b8a49e604c11"), looks := false }, kinds := [], alts := [], laidByText := true, laidKinds := [.data, .data, .data, .data, .pinned], laidTests := true, laidLooks := .later }
def IntegerTextCardSaid : Prop := Claim7.holds Tryz.pinned (.plain (OpenSpec.ofChange integerTextSpec)) integerTextCard

/-- THE TIED CARD OF 'voussoirlaw03.RationalScaling'. -/
def rationalScalingCard : Claim7 := { stood := { row := rationalScalingRow, standIns := [], harness := (true, "878abf676cc55af0f5b6985f4c80d452721c6f0910a9448f8280b8a49e604c11"), looks := false }, kinds := [], alts := [], laidByText := true, laidKinds := [.data, .data, .data, .data, .pinned], laidTests := true, laidLooks := .later }
def RationalScalingCardSaid : Prop := Claim7.holds Tryz.pinned (.plain (OpenSpec.ofChange rationalScalingSpec)) rationalScalingCard

/-- THE TIED CARD OF 'voussoirlaw03.RationalCanonicalForm'. -/
def rationalCanonicalFormCard : Claim7 := { stood := { row := rationalCanonicalFormRow, standIns := [], harness := (true, "878abf676cc55af0f5b6985f4c80d452721c6f0910a9448f8280b8a49e604c11"), looks := false }, kinds := [], alts := [], laidByText := true, laidKinds := [.data, .data, .data, .data, .pinned], laidTests := true, laidLooks := .later }
def RationalCanonicalFormCardSaid : Prop := Claim7.holds Tryz.pinned (.plain (OpenSpec.ofChange rationalCanonicalFormSpec)) rationalCanonicalFormCard

/-- THE TIED CARD OF 'voussoirlaw03.RationalText'. -/
def rationalTextCard : Claim7 := { stood := { row := rationalTextRow, standIns := [], harness := (true, "878abf676cc55af0f5b6985f4c80d452721c6f0910a9448f8280b8a49e604c11"), looks := false }, kinds := [], alts := [], laidByText := true, laidKinds := [.data, .data, .data, .data, .pinned], laidTests := true, laidLooks := .later }
def RationalTextCardSaid : Prop := Claim7.holds Tryz.pinned (.plain (OpenSpec.ofChange rationalTextSpec)) rationalTextCard

/-- THE TIED CARD OF 'voussoirlaw03.RationalFloor'. -/
def rationalFloorCard : Claim7 := { stood := { row := rationalFloorRow, standIns := [], harness := (true, "878abf676cc55af0f5b6985f4c80d452721c6f0910a9448f8280b8a49e604c11"), looks := false }, kinds := [], alts := [], laidByText := true, laidKinds := [.data, .data, .data, .data, .pinned], laidTests := true, laidLooks := .later }
def RationalFloorCardSaid : Prop := Claim7.holds Tryz.pinned (.plain (OpenSpec.ofChange rationalFloorSpec)) rationalFloorCard

/-- THE TIED CARD OF 'voussoirlaw03.RationalFieldLaws'. -/
def rationalFieldLawsCard : Claim7 := { stood := { row := rationalFieldLawsRow, standIns := [], harness := (true, "878abf676cc55af0f5b6985f4c80d452721c6f0910a9448f8280b8a49e604c11"), looks := false }, kinds := [], alts := [], laidByText := true, laidKinds := [.data, .data, .data, .data, .pinned], laidTests := true, laidLooks := .later }
def RationalFieldLawsCardSaid : Prop := Claim7.holds Tryz.pinned (.plain (OpenSpec.ofChange rationalFieldLawsSpec)) rationalFieldLawsCard

/-- THE TIED CARD OF 'voussoirlaw03.RationalOrder'. -/
def rationalOrderCard : Claim7 := { stood := { row := rationalOrderRow, standIns := [], harness := (true, "878abf676cc55af0f5b6985f4c80d452721c6f0910a9448f8280b8a49e604c11"), looks := false }, kinds := [], alts := [], laidByText := true, laidKinds := [.data, .data, .data, .data, .pinned], laidTests := true, laidLooks := .later }
def RationalOrderCardSaid : Prop := Claim7.holds Tryz.pinned (.plain (OpenSpec.ofChange rationalOrderSpec)) rationalOrderCard

/-- THE TIED CARD OF 'voussoirlaw03.RationalArithmetic'. -/
def rationalArithmeticCard : Claim7 := { stood := { row := rationalArithmeticRow, standIns := [], harness := (true, "878abf676cc55af0f5b6985f4c80d452721c6f0910a9448f8280b8a49e604c11"), looks := false }, kinds := [], alts := [], laidByText := true, laidKinds := [.data, .data, .data, .data, .pinned], laidTests := true, laidLooks := .later }
def RationalArithmeticCardSaid : Prop := Claim7.holds Tryz.pinned (.plain (OpenSpec.ofChange rationalArithmeticSpec)) rationalArithmeticCard

/-- THE SECOND FORM's CARD OF 'voussoirlaw02.IntegerText'. -/
def integerTextUptoCard : Claim7 := { stood := { row := integerTextUptoRow, standIns := [], harness := (true, "878abf676cc55af0f5b6985f4c80d452721c6f0910a9448f8280b8a49e604c11"), looks := false }, kinds := [], alts := [], laidByText := true, laidKinds := [.data, .data, .data, .data, .pinned], laidTests := true, laidLooks := .later }
def IntegerTextUptoCardSaid : Prop := Claim7.holds Tryz.pinned (.plain (OpenSpec.upto integerTextSpec)) integerTextUptoCard

/-- THE SECOND FORM's CARD OF 'voussoirlaw03.RationalScaling'. -/
def rationalScalingUptoCard : Claim7 := { stood := { row := rationalScalingUptoRow, standIns := [], harness := (true, "878abf676cc55af0f5b6985f4c80d452721c6f0910a9448f8280b8a49e604c11"), looks := false }, kinds := [], alts := [], laidByText := true, laidKinds := [.data, .data, .data, .data, .pinned], laidTests := true, laidLooks := .later }
def RationalScalingUptoCardSaid : Prop := Claim7.holds Tryz.pinned (.plain (OpenSpec.upto rationalScalingSpec)) rationalScalingUptoCard

/-- THE SECOND FORM's CARD OF 'voussoirlaw03.RationalCanonicalForm'. -/
def rationalCanonicalFormUptoCard : Claim7 := { stood := { row := rationalCanonicalFormUptoRow, standIns := [], harness := (true, "878abf676cc55af0f5b6985f4c80d452721c6f0910a9448f8280b8a49e604c11"), looks := false }, kinds := [], alts := [], laidByText := true, laidKinds := [.data, .data, .data, .data, .pinned], laidTests := true, laidLooks := .later }
def RationalCanonicalFormUptoCardSaid : Prop := Claim7.holds Tryz.pinned (.plain (OpenSpec.upto rationalCanonicalFormSpec)) rationalCanonicalFormUptoCard

/-- THE SECOND FORM's CARD OF 'voussoirlaw03.RationalText'. -/
def rationalTextUptoCard : Claim7 := { stood := { row := rationalTextUptoRow, standIns := [], harness := (true, "878abf676cc55af0f5b6985f4c80d452721c6f0910a9448f8280b8a49e604c11"), looks := false }, kinds := [], alts := [], laidByText := true, laidKinds := [.data, .data, .data, .data, .pinned], laidTests := true, laidLooks := .later }
def RationalTextUptoCardSaid : Prop := Claim7.holds Tryz.pinned (.plain (OpenSpec.upto rationalTextSpec)) rationalTextUptoCard

/-- THE SECOND FORM's CARD OF 'voussoirlaw03.RationalFloor'. -/
def rationalFloorUptoCard : Claim7 := { stood := { row := rationalFloorUptoRow, standIns := [], harness := (true, "878abf676cc55af0f5b6985f4c80d452721c6f0910a9448f8280b8a49e604c11"), looks := false }, kinds := [], alts := [], laidByText := true, laidKinds := [.data, .data, .data, .data, .pinned], laidTests := true, laidLooks := .later }
def RationalFloorUptoCardSaid : Prop := Claim7.holds Tryz.pinned (.plain (OpenSpec.upto rationalFloorSpec)) rationalFloorUptoCard

/-- THE SECOND FORM's CARD OF 'voussoirlaw03.RationalFieldLaws'. -/
def rationalFieldLawsUptoCard : Claim7 := { stood := { row := rationalFieldLawsUptoRow, standIns := [], harness := (true, "878abf676cc55af0f5b6985f4c80d452721c6f0910a9448f8280b8a49e604c11"), looks := false }, kinds := [], alts := [], laidByText := true, laidKinds := [.data, .data, .data, .data, .pinned], laidTests := true, laidLooks := .later }
def RationalFieldLawsUptoCardSaid : Prop := Claim7.holds Tryz.pinned (.plain (OpenSpec.upto rationalFieldLawsSpec)) rationalFieldLawsUptoCard

/-- THE SECOND FORM's CARD OF 'voussoirlaw03.RationalOrder'. -/
def rationalOrderUptoCard : Claim7 := { stood := { row := rationalOrderUptoRow, standIns := [], harness := (true, "878abf676cc55af0f5b6985f4c80d452721c6f0910a9448f8280b8a49e604c11"), looks := false }, kinds := [], alts := [], laidByText := true, laidKinds := [.data, .data, .data, .data, .pinned], laidTests := true, laidLooks := .later }
def RationalOrderUptoCardSaid : Prop := Claim7.holds Tryz.pinned (.plain (OpenSpec.upto rationalOrderSpec)) rationalOrderUptoCard

/-- THE SECOND FORM's CARD OF 'voussoirlaw03.RationalArithmetic'. -/
def rationalArithmeticUptoCard : Claim7 := { stood := { row := rationalArithmeticUptoRow, standIns := [], harness := (true, "878abf676cc55af0f5b6985f4c80d452721c6f0910a9448f8280b8a49e604c11"), looks := false }, kinds := [], alts := [], laidByText := true, laidKinds := [.data, .data, .data, .data, .pinned], laidTests := true, laidLooks := .later }
def RationalArithmeticUptoCardSaid : Prop := Claim7.holds Tryz.pinned (.plain (OpenSpec.upto rationalArithmeticSpec)) rationalArithmeticUptoCard
end Rows
end Go.Proofs.YtliabkapejhohaaGreatDoor
