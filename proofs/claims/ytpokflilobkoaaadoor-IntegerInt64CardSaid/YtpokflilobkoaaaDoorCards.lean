/-
  DERIVED. GIVEN WITH THE SEED: THE CARDS: each row of YtpokflilobkoaaaDoorRows.lean that lists a variable, with what it lists TIED to the program's text (the seventh form; the later family's looks); each row that meets fmt, with fmt's text TOLD by the authors' own Lean function (tested against real Go, not proved from fmt's source: count such statements apart). THE CARD IS WHAT COUNTS. Prove the row's statement (the work); the ties are given (YtpokflilobkoaaaDoorTie.lean); close each card by the builder's one call (the guide's Derived/Test/ToyasCard.lean, 'card_holds'). Laid BY PROGRAM, IN A SANDBOX (cutbox-door.mjs). By AI agents, Wed Nov 11 2026. No macro, syntax, notation, axiom, sorry.
-/
import Derived.Test.YtpokflilobkoaaaDoorRows
import GoSem.ClaimSeven
namespace Go.Proofs.YtpokflilobkoaaaDoor
namespace Rows

/-- THE TIED CARD OF 'voussoirlaw01.NatGcds'. -/
def natGcdsCard : Claim7 := { stood := { row := natGcdsRow, standIns := [], harness := (true, "ba1c14a28be60e6a30f8d74bff09d3bdfbad6a0f11b20ff14b774e26a549e0bd"), looks := false }, kinds := [], alts := [], laidByText := true, laidKinds := [.data, .data, .data, .data, .pinned], laidTests := true, laidLooks := .later }
def NatGcdsCardSaid : Prop := Claim7.holds Tryd.pinned (.plain (OpenSpec.ofChange natGcdsSpec)) natGcdsCard

/-- THE TIED CARD OF 'voussoirlaw01.NatMuls'. -/
def natMulsCard : Claim7 := { stood := { row := natMulsRow, standIns := [], harness := (true, "ba1c14a28be60e6a30f8d74bff09d3bdfbad6a0f11b20ff14b774e26a549e0bd"), looks := false }, kinds := [], alts := [], laidByText := true, laidKinds := [.data, .data, .data, .data, .pinned], laidTests := true, laidLooks := .later }
def NatMulsCardSaid : Prop := Claim7.holds Tryd.pinned (.plain (OpenSpec.ofChange natMulsSpec)) natMulsCard

/-- THE TIED CARD OF 'voussoirlaw01.NatDivides'. -/
def natDividesCard : Claim7 := { stood := { row := natDividesRow, standIns := [], harness := (true, "ba1c14a28be60e6a30f8d74bff09d3bdfbad6a0f11b20ff14b774e26a549e0bd"), looks := false }, kinds := [], alts := [], laidByText := true, laidKinds := [.data, .data, .data, .data, .pinned], laidTests := true, laidLooks := .later }
def NatDividesCardSaid : Prop := Claim7.holds Tryd.pinned (.plain (OpenSpec.ofChange natDividesSpec)) natDividesCard

/-- THE TIED CARD OF 'voussoirlaw01.NatDivisors'. -/
def natDivisorsCard : Claim7 := { stood := { row := natDivisorsRow, standIns := [], harness := (true, "ba1c14a28be60e6a30f8d74bff09d3bdfbad6a0f11b20ff14b774e26a549e0bd"), looks := false }, kinds := [], alts := [], laidByText := true, laidKinds := [.data, .data, .data, .data, .pinned], laidTests := true, laidLooks := .later }
def NatDivisorsCardSaid : Prop := Claim7.holds Tryd.pinned (.plain (OpenSpec.ofChange natDivisorsSpec)) natDivisorsCard

/-- THE TIED CARD OF 'voussoirlaw01.NatSums'. -/
def natSumsCard : Claim7 := { stood := { row := natSumsRow, standIns := [], harness := (true, "ba1c14a28be60e6a30f8d74bff09d3bdfbad6a0f11b20ff14b774e26a549e0bd"), looks := false }, kinds := [], alts := [], laidByText := true, laidKinds := [.data, .data, .data, .data, .pinned], laidTests := true, laidLooks := .later }
def NatSumsCardSaid : Prop := Claim7.holds Tryd.pinned (.plain (OpenSpec.ofChange natSumsSpec)) natSumsCard

/-- THE TIED CARD OF 'voussoirlaw01.NatRing'. -/
def natRingCard : Claim7 := { stood := { row := natRingRow, standIns := [], harness := (true, "ba1c14a28be60e6a30f8d74bff09d3bdfbad6a0f11b20ff14b774e26a549e0bd"), looks := false }, kinds := [], alts := [], laidByText := true, laidKinds := [.data, .data, .data, .data, .pinned], laidTests := true, laidLooks := .later }
def NatRingCardSaid : Prop := Claim7.holds Tryd.pinned (.plain (OpenSpec.ofChange natRingSpec)) natRingCard

/-- THE TIED CARD OF 'voussoirlaw01.NatForm'. -/
def natFormCard : Claim7 := { stood := { row := natFormRow, standIns := [], harness := (true, "ba1c14a28be60e6a30f8d74bff09d3bdfbad6a0f11b20ff14b774e26a549e0bd"), looks := false }, kinds := [], alts := [], laidByText := true, laidKinds := [.data, .data, .data, .data, .pinned], laidTests := true, laidLooks := .later }
def NatFormCardSaid : Prop := Claim7.holds Tryd.pinned (.plain (OpenSpec.ofChange natFormSpec)) natFormCard

/-- THE TIED CARD OF 'voussoirlaw02.IntegerMultiplication'. -/
def integerMultiplicationCard : Claim7 := { stood := { row := integerMultiplicationRow, standIns := [], harness := (true, "ba1c14a28be60e6a30f8d74bff09d3bdfbad6a0f11b20ff14b774e26a549e0bd"), looks := false }, kinds := [], alts := [], laidByText := true, laidKinds := [.data, .data, .data, .data, .pinned], laidTests := true, laidLooks := .later }
def IntegerMultiplicationCardSaid : Prop := Claim7.holds Tryd.pinned (.plain (OpenSpec.ofChange integerMultiplicationSpec)) integerMultiplicationCard

/-- THE TIED CARD OF 'voussoirlaw02.IntegerAddition'. -/
def integerAdditionCard : Claim7 := { stood := { row := integerAdditionRow, standIns := [], harness := (true, "ba1c14a28be60e6a30f8d74bff09d3bdfbad6a0f11b20ff14b774e26a549e0bd"), looks := false }, kinds := [], alts := [], laidByText := true, laidKinds := [.data, .data, .data, .data, .pinned], laidTests := true, laidLooks := .later }
def IntegerAdditionCardSaid : Prop := Claim7.holds Tryd.pinned (.plain (OpenSpec.ofChange integerAdditionSpec)) integerAdditionCard

/-- THE TIED CARD OF 'voussoirlaw02.IntegerRing'. -/
def integerRingCard : Claim7 := { stood := { row := integerRingRow, standIns := [], harness := (true, "ba1c14a28be60e6a30f8d74bff09d3bdfbad6a0f11b20ff14b774e26a549e0bd"), looks := false }, kinds := [], alts := [], laidByText := true, laidKinds := [.data, .data, .data, .data, .pinned], laidTests := true, laidLooks := .later }
def IntegerRingCardSaid : Prop := Claim7.holds Tryd.pinned (.plain (OpenSpec.ofChange integerRingSpec)) integerRingCard

/-- THE TIED CARD OF 'voussoirlaw02.IntegerGcd'. -/
def integerGcdCard : Claim7 := { stood := { row := integerGcdRow, standIns := [], harness := (true, "ba1c14a28be60e6a30f8d74bff09d3bdfbad6a0f11b20ff14b774e26a549e0bd"), looks := false }, kinds := [], alts := [], laidByText := true, laidKinds := [.data, .data, .data, .data, .pinned], laidTests := true, laidLooks := .later }
def IntegerGcdCardSaid : Prop := Claim7.holds Tryd.pinned (.plain (OpenSpec.ofChange integerGcdSpec)) integerGcdCard

/-- THE TIED CARD OF 'voussoirlaw02.IntegerOrder'. -/
def integerOrderCard : Claim7 := { stood := { row := integerOrderRow, standIns := [], harness := (true, "ba1c14a28be60e6a30f8d74bff09d3bdfbad6a0f11b20ff14b774e26a549e0bd"), looks := false }, kinds := [], alts := [], laidByText := true, laidKinds := [.data, .data, .data, .data, .pinned], laidTests := true, laidLooks := .later }
def IntegerOrderCardSaid : Prop := Claim7.holds Tryd.pinned (.plain (OpenSpec.ofChange integerOrderSpec)) integerOrderCard

/-- THE TIED CARD OF 'voussoirlaw02.IntegerDivision'. -/
def integerDivisionCard : Claim7 := { stood := { row := integerDivisionRow, standIns := [], harness := (true, "ba1c14a28be60e6a30f8d74bff09d3bdfbad6a0f11b20ff14b774e26a549e0bd"), looks := false }, kinds := [], alts := [], laidByText := true, laidKinds := [.data, .data, .data, .data, .pinned], laidTests := true, laidLooks := .later }
def IntegerDivisionCardSaid : Prop := Claim7.holds Tryd.pinned (.plain (OpenSpec.ofChange integerDivisionSpec)) integerDivisionCard

/-- THE TIED CARD OF 'voussoirlaw01.NatStrings'. -/
def natStringsCard : Claim7 := { stood := { row := natStringsRow, standIns := [], harness := (true, "ba1c14a28be60e6a30f8d74bff09d3bdfbad6a0f11b20ff14b774e26a549e0bd"), looks := false }, kinds := [], alts := [], laidByText := true, laidKinds := [.data, .data, .data, .data, .pinned], laidTests := true, laidLooks := .later }
def NatStringsCardSaid : Prop := Claim7.holds Tryd.pinned (.plain (OpenSpec.ofChange natStringsSpec)) natStringsCard

/-- THE TIED CARD OF 'voussoirlaw02.IntegerInt64'. -/
def integerInt64Card : Claim7 := { stood := { row := integerInt64Row, standIns := [], harness := (true, "ba1c14a28be60e6a30f8d74bff09d3bdfbad6a0f11b20ff14b774e26a549e0bd"), looks := false }, kinds := [], alts := [], laidByText := true, laidKinds := [.data, .data, .data, .data, .pinned], laidTests := true, laidLooks := .later }
def IntegerInt64CardSaid : Prop := Claim7.holds Tryd.pinned (.plain (OpenSpec.ofChange integerInt64Spec)) integerInt64Card

/-- THE SECOND FORM's CARD OF 'voussoirlaw01.NatGcds'. -/
def natGcdsUptoCard : Claim7 := { stood := { row := natGcdsUptoRow, standIns := [], harness := (true, "ba1c14a28be60e6a30f8d74bff09d3bdfbad6a0f11b20ff14b774e26a549e0bd"), looks := false }, kinds := [], alts := [], laidByText := true, laidKinds := [.data, .data, .data, .data, .pinned], laidTests := true, laidLooks := .later }
def NatGcdsUptoCardSaid : Prop := Claim7.holds Tryd.pinned (.plain (OpenSpec.upto natGcdsSpec)) natGcdsUptoCard

/-- THE SECOND FORM's CARD OF 'voussoirlaw01.NatMuls'. -/
def natMulsUptoCard : Claim7 := { stood := { row := natMulsUptoRow, standIns := [], harness := (true, "ba1c14a28be60e6a30f8d74bff09d3bdfbad6a0f11b20ff14b774e26a549e0bd"), looks := false }, kinds := [], alts := [], laidByText := true, laidKinds := [.data, .data, .data, .data, .pinned], laidTests := true, laidLooks := .later }
def NatMulsUptoCardSaid : Prop := Claim7.holds Tryd.pinned (.plain (OpenSpec.upto natMulsSpec)) natMulsUptoCard

/-- THE SECOND FORM's CARD OF 'voussoirlaw01.NatDivides'. -/
def natDividesUptoCard : Claim7 := { stood := { row := natDividesUptoRow, standIns := [], harness := (true, "ba1c14a28be60e6a30f8d74bff09d3bdfbad6a0f11b20ff14b774e26a549e0bd"), looks := false }, kinds := [], alts := [], laidByText := true, laidKinds := [.data, .data, .data, .data, .pinned], laidTests := true, laidLooks := .later }
def NatDividesUptoCardSaid : Prop := Claim7.holds Tryd.pinned (.plain (OpenSpec.upto natDividesSpec)) natDividesUptoCard

/-- THE SECOND FORM's CARD OF 'voussoirlaw01.NatDivisors'. -/
def natDivisorsUptoCard : Claim7 := { stood := { row := natDivisorsUptoRow, standIns := [], harness := (true, "ba1c14a28be60e6a30f8d74bff09d3bdfbad6a0f11b20ff14b774e26a549e0bd"), looks := false }, kinds := [], alts := [], laidByText := true, laidKinds := [.data, .data, .data, .data, .pinned], laidTests := true, laidLooks := .later }
def NatDivisorsUptoCardSaid : Prop := Claim7.holds Tryd.pinned (.plain (OpenSpec.upto natDivisorsSpec)) natDivisorsUptoCard

/-- THE SECOND FORM's CARD OF 'voussoirlaw01.NatSums'. -/
def natSumsUptoCard : Claim7 := { stood := { row := natSumsUptoRow, standIns := [], harness := (true, "ba1c14a28be60e6a30f8d74bff09d3bdfbad6a0f11b20ff14b774e26a549e0bd"), looks := false }, kinds := [], alts := [], laidByText := true, laidKinds := [.data, .data, .data, .data, .pinned], laidTests := true, laidLooks := .later }
def NatSumsUptoCardSaid : Prop := Claim7.holds Tryd.pinned (.plain (OpenSpec.upto natSumsSpec)) natSumsUptoCard

/-- THE SECOND FORM's CARD OF 'voussoirlaw01.NatRing'. -/
def natRingUptoCard : Claim7 := { stood := { row := natRingUptoRow, standIns := [], harness := (true, "ba1c14a28be60e6a30f8d74bff09d3bdfbad6a0f11b20ff14b774e26a549e0bd"), looks := false }, kinds := [], alts := [], laidByText := true, laidKinds := [.data, .data, .data, .data, .pinned], laidTests := true, laidLooks := .later }
def NatRingUptoCardSaid : Prop := Claim7.holds Tryd.pinned (.plain (OpenSpec.upto natRingSpec)) natRingUptoCard

/-- THE SECOND FORM's CARD OF 'voussoirlaw01.NatForm'. -/
def natFormUptoCard : Claim7 := { stood := { row := natFormUptoRow, standIns := [], harness := (true, "ba1c14a28be60e6a30f8d74bff09d3bdfbad6a0f11b20ff14b774e26a549e0bd"), looks := false }, kinds := [], alts := [], laidByText := true, laidKinds := [.data, .data, .data, .data, .pinned], laidTests := true, laidLooks := .later }
def NatFormUptoCardSaid : Prop := Claim7.holds Tryd.pinned (.plain (OpenSpec.upto natFormSpec)) natFormUptoCard

/-- THE SECOND FORM's CARD OF 'voussoirlaw02.IntegerMultiplication'. -/
def integerMultiplicationUptoCard : Claim7 := { stood := { row := integerMultiplicationUptoRow, standIns := [], harness := (true, "ba1c14a28be60e6a30f8d74bff09d3bdfbad6a0f11b20ff14b774e26a549e0bd"), looks := false }, kinds := [], alts := [], laidByText := true, laidKinds := [.data, .data, .data, .data, .pinned], laidTests := true, laidLooks := .later }
def IntegerMultiplicationUptoCardSaid : Prop := Claim7.holds Tryd.pinned (.plain (OpenSpec.upto integerMultiplicationSpec)) integerMultiplicationUptoCard

/-- THE SECOND FORM's CARD OF 'voussoirlaw02.IntegerAddition'. -/
def integerAdditionUptoCard : Claim7 := { stood := { row := integerAdditionUptoRow, standIns := [], harness := (true, "ba1c14a28be60e6a30f8d74bff09d3bdfbad6a0f11b20ff14b774e26a549e0bd"), looks := false }, kinds := [], alts := [], laidByText := true, laidKinds := [.data, .data, .data, .data, .pinned], laidTests := true, laidLooks := .later }
def IntegerAdditionUptoCardSaid : Prop := Claim7.holds Tryd.pinned (.plain (OpenSpec.upto integerAdditionSpec)) integerAdditionUptoCard

/-- THE SECOND FORM's CARD OF 'voussoirlaw02.IntegerRing'. -/
def integerRingUptoCard : Claim7 := { stood := { row := integerRingUptoRow, standIns := [], harness := (true, "ba1c14a28be60e6a30f8d74bff09d3bdfbad6a0f11b20ff14b774e26a549e0bd"), looks := false }, kinds := [], alts := [], laidByText := true, laidKinds := [.data, .data, .data, .data, .pinned], laidTests := true, laidLooks := .later }
def IntegerRingUptoCardSaid : Prop := Claim7.holds Tryd.pinned (.plain (OpenSpec.upto integerRingSpec)) integerRingUptoCard

/-- THE SECOND FORM's CARD OF 'voussoirlaw02.IntegerGcd'. -/
def integerGcdUptoCard : Claim7 := { stood := { row := integerGcdUptoRow, standIns := [], harness := (true, "ba1c14a28be60e6a30f8d74bff09d3bdfbad6a0f11b20ff14b774e26a549e0bd"), looks := false }, kinds := [], alts := [], laidByText := true, laidKinds := [.data, .data, .data, .data, .pinned], laidTests := true, laidLooks := .later }
def IntegerGcdUptoCardSaid : Prop := Claim7.holds Tryd.pinned (.plain (OpenSpec.upto integerGcdSpec)) integerGcdUptoCard

/-- THE SECOND FORM's CARD OF 'voussoirlaw02.IntegerOrder'. -/
def integerOrderUptoCard : Claim7 := { stood := { row := integerOrderUptoRow, standIns := [], harness := (true, "ba1c14a28be60e6a30f8d74bff09d3bdfbad6a0f11b20ff14b774e26a549e0bd"), looks := false }, kinds := [], alts := [], laidByText := true, laidKinds := [.data, .data, .data, .data, .pinned], laidTests := true, laidLooks := .later }
def IntegerOrderUptoCardSaid : Prop := Claim7.holds Tryd.pinned (.plain (OpenSpec.upto integerOrderSpec)) integerOrderUptoCard

/-- THE SECOND FORM's CARD OF 'voussoirlaw02.IntegerDivision'. -/
def integerDivisionUptoCard : Claim7 := { stood := { row := integerDivisionUptoRow, standIns := [], harness := (true, "ba1c14a28be60e6a30f8d74bff09d3bdfbad6a0f11b20ff14b774e26a549e0bd"), looks := false }, kinds := [], alts := [], laidByText := true, laidKinds := [.data, .data, .data, .data, .pinned], laidTests := true, laidLooks := .later }
def IntegerDivisionUptoCardSaid : Prop := Claim7.holds Tryd.pinned (.plain (OpenSpec.upto integerDivisionSpec)) integerDivisionUptoCard

/-- THE SECOND FORM's CARD OF 'voussoirlaw01.NatStrings'. -/
def natStringsUptoCard : Claim7 := { stood := { row := natStringsUptoRow, standIns := [], harness := (true, "ba1c14a28be60e6a30f8d74bff09d3bdfbad6a0f11b20ff14b774e26a549e0bd"), looks := false }, kinds := [], alts := [], laidByText := true, laidKinds := [.data, .data, .data, .data, .pinned], laidTests := true, laidLooks := .later }
def NatStringsUptoCardSaid : Prop := Claim7.holds Tryd.pinned (.plain (OpenSpec.upto natStringsSpec)) natStringsUptoCard

/-- THE SECOND FORM's CARD OF 'voussoirlaw02.IntegerInt64'. -/
def integerInt64UptoCard : Claim7 := { stood := { row := integerInt64UptoRow, standIns := [], harness := (true, "ba1c14a28be60e6a30f8d74bff09d3bdfbad6a0f11b20ff14b774e26a549e0bd"), looks := false }, kinds := [], alts := [], laidByText := true, laidKinds := [.data, .data, .data, .data, .pinned], laidTests := true, laidLooks := .later }
def IntegerInt64UptoCardSaid : Prop := Claim7.holds Tryd.pinned (.plain (OpenSpec.upto integerInt64Spec)) integerInt64UptoCard
end Rows
end Go.Proofs.YtpokflilobkoaaaDoor
