import Derived.Test.YtjefbecmeobegaaGreatDoorSx2
import Derived.Test.YtjefbecmeobegaaGreatDoorSpN
import Derived.Test.YtjefbecmeobegaaGreatDoorTr1
namespace Go.Proofs.YtjefbecmeobegaaGreatDoor.Sp
open Go Go.RowKit Go.Proofs.YtjefbecmeobegaaGreatDoor.Sx
def runT (P : Program) (tb : Tb) (t : T) : Nat → Fct
 | 0 => fun _ => none
 | n + 1 => fun ds => match t.run P (aEi tb) 300 [] ds with
  | some r => some r
  | none => runT P tb t n ds
theorem aKA {P : Program} {tb : Tb} {t : T} {ds r : List D} : ∀ {n : Nat}, runT P tb t n ds = some r → t.run P (aEi tb) 300 [] ds = some r
 | 0, h => by cases h
 | n + 1, h => by
  unfold runT at h
  split at h
  ·rw [← h]
   assumption
  ·exact aKA h
theorem aA7 {P : Program} {G : World → Prop} {tb : Tb} (h : TbOk P G tb) (hG : ∀ w w', G w → Below w.heap.size w w' → G w') (N : Nat) {f : FuncId} {ct : Ct} {t : T} (hc : aFF P f = some ct) (ht : aHr P (tb.map (·.1)) N f = some t) : Sx.Good P G f ct (runT P tb t 1) := aAj h hG N hc ht fun _ _ h => ⟨300, aKA h⟩
def Ru0 (P : Program) : Fct := runT P ([] : Tb) aC8 1
def aO8 (P : Program) : Tb := (95, Ru0 P) :: ([] : Tb)
theorem okC0 : TbOk Tryz.prog X.G (aO8 Tryz.prog) := .cons (by kernel_rfl : _ = some (⟨[.one], .v1 .one⟩ : Ct)) (aA7 (tb := []) trivial (fun _ _ => X.G_below) 400 (by kernel_rfl) (by kernel_rfl : _ = some aC8)) trivial
def Ru1 (P : Program) : Fct := runT P (aO8 P) aDr 1
def aO9 (P : Program) : Tb := (142, Ru1 P) :: (aO8 P)
theorem okC1 : TbOk Tryz.prog X.G (aO9 Tryz.prog) := .cons (by kernel_rfl : _ = some (⟨[.one, .one], .v1 .one⟩ : Ct)) (aA7 okC0 (fun _ _ => X.G_below) 400 (by kernel_rfl) (by kernel_rfl : _ = some aDr)) okC0
def Ru2 (P : Program) : Fct := runT P (aO9 P) aCG 1
def aOA (P : Program) : Tb := (155, Ru2 P) :: (aO9 P)
theorem okC2 : TbOk Tryz.prog X.G (aOA Tryz.prog) := .cons (by kernel_rfl : _ = some (⟨[.one, .one], .v1 .one⟩ : Ct)) (aA7 okC1 (fun _ _ => X.G_below) 400 (by kernel_rfl) (by kernel_rfl : _ = some aCG)) okC1
def Ru3 (P : Program) : Fct := runT P (aOA P) aCH 1
def aOB (P : Program) : Tb := (144, Ru3 P) :: (aOA P)
theorem okC3 : TbOk Tryz.prog X.G (aOB Tryz.prog) := .cons (by kernel_rfl : _ = some (⟨[.one, .one], .v1 .one⟩ : Ct)) (aA7 okC2 (fun _ _ => X.G_below) 400 (by kernel_rfl) (by kernel_rfl : _ = some aCH)) okC2
def Ru4 (P : Program) : Fct := runT P (aOB P) aCJ 1
def aOC (P : Program) : Tb := (145, Ru4 P) :: (aOB P)
theorem okC4 : TbOk Tryz.prog X.G (aOC Tryz.prog) := .cons (by kernel_rfl : _ = some (⟨[.one, .one], .tup [.one, .one]⟩ : Ct)) (aA7 okC3 (fun _ _ => X.G_below) 400 (by kernel_rfl) (by kernel_rfl : _ = some aCJ)) okC3
def Ru5 (P : Program) : Fct := runT P (aOC P) aCI 1
def aOD (P : Program) : Tb := (97, Ru5 P) :: (aOC P)
theorem okC5 : TbOk Tryz.prog X.G (aOD Tryz.prog) := .cons (by kernel_rfl : _ = some (⟨[.one, .one], .v1 .one⟩ : Ct)) (aA7 okC4 (fun _ _ => X.G_below) 400 (by kernel_rfl) (by kernel_rfl : _ = some aCI)) okC4
def Ru6 (P : Program) : Fct := runT P (aOD P) aDq 1
def aOE (P : Program) : Tb := (111, Ru6 P) :: (aOD P)
theorem okC6 : TbOk Tryz.prog X.G (aOE Tryz.prog) := .cons (by kernel_rfl : _ = some (⟨[.one], .v1 .one⟩ : Ct)) (aA7 okC5 (fun _ _ => X.G_below) 400 (by kernel_rfl) (by kernel_rfl : _ = some aDq)) okC5
def Ru7 (P : Program) : Fct := runT P (aOE P) aCK 1
def aOF (P : Program) : Tb := (130, Ru7 P) :: (aOE P)
theorem okC7 : TbOk Tryz.prog X.G (aOF Tryz.prog) := .cons (by kernel_rfl : _ = some (⟨[.one, .one], .tup [.one, .one, .one]⟩ : Ct)) (aA7 okC6 (fun _ _ => X.G_below) 400 (by kernel_rfl) (by kernel_rfl : _ = some aCK)) okC6
def Ru8 (P : Program) : Fct := runT P (aOF P) aCL 1
def aOG (P : Program) : Tb := (129, Ru8 P) :: (aOF P)
theorem okC8 : TbOk Tryz.prog X.G (aOG Tryz.prog) := .cons (by kernel_rfl : _ = some (⟨[.one, .one], .v1 .one⟩ : Ct)) (aA7 okC7 (fun _ _ => X.G_below) 400 (by kernel_rfl) (by kernel_rfl : _ = some aCL)) okC7
def Ru9 (P : Program) : Fct := runT P (aOG P) aDp 1
def aOH (P : Program) : Tb := (96, Ru9 P) :: (aOG P)
theorem okC9 : TbOk Tryz.prog X.G (aOH Tryz.prog) := .cons (by kernel_rfl : _ = some (⟨[.one, .one], .v1 (.agg 2)⟩ : Ct)) (aA7 okC8 (fun _ _ => X.G_below) 400 (by kernel_rfl) (by kernel_rfl : _ = some aDp)) okC8
def Ru10 (P : Program) : Fct := runT P (aOH P) aC6 1
def aM0 (P : Program) : Tb := (76, Ru10 P) :: (aOH P)
theorem aPs : TbOk Tryz.prog X.G (aM0 Tryz.prog) := .cons (by kernel_rfl : _ = some (⟨[.agg 2], .v1 (.agg 2)⟩ : Ct)) (aA7 okC9 (fun _ _ => X.G_below) 400 (by kernel_rfl) (by kernel_rfl : _ = some aC6)) okC9
def Ru11 (P : Program) : Fct := runT P (aM0 P) aCB 1
def aM1 (P : Program) : Tb := (78, Ru11 P) :: (aM0 P)
theorem aPt : TbOk Tryz.prog X.G (aM1 Tryz.prog) := .cons (by kernel_rfl : _ = some (⟨[.agg 2], .v1 (.agg 2)⟩ : Ct)) (aA7 aPs (fun _ _ => X.G_below) 400 (by kernel_rfl) (by kernel_rfl : _ = some aCB)) aPs
def Ru12 (P : Program) : Fct := runT P (aM1 P) aC7 1
def aM2 (P : Program) : Tb := (35, Ru12 P) :: (aM1 P)
theorem aM3 : TbOk Tryz.prog X.G (aM2 Tryz.prog) := .cons (by kernel_rfl : _ = some (⟨[.agg 2], .v1 .one⟩ : Ct)) (aA7 aPt (fun _ _ => X.G_below) 400 (by kernel_rfl) (by kernel_rfl : _ = some aC7)) aPt
def aBb (P : Program) : Fct := runT P (aM2 P) aBM 1
def aM4 (P : Program) : Tb := (55, aBb P) :: (aM2 P)
theorem aPu : TbOk Tryz.prog X.G (aM4 Tryz.prog) := .cons (by kernel_rfl : _ = some (⟨[.one], .v1 (.agg 2)⟩ : Ct)) (aA7 aM3 (fun _ _ => X.G_below) 400 (by kernel_rfl) (by kernel_rfl : _ = some aBM)) aM3
def Ru14 (P : Program) : Fct := runT P (aM4 P) aCC 1
def aM5 (P : Program) : Tb := (110, Ru14 P) :: (aM4 P)
theorem aPv : TbOk Tryz.prog X.G (aM5 Tryz.prog) := .cons (by kernel_rfl : _ = some (⟨[.agg 2, .agg 2], .v1 (.agg 2)⟩ : Ct)) (aA7 aPu (fun _ _ => X.G_below) 400 (by kernel_rfl) (by kernel_rfl : _ = some aCC)) aPu
def Ru15 (P : Program) : Fct := runT P (aM5 P) aCD 1
def aM6 (P : Program) : Tb := (131, Ru15 P) :: (aM5 P)
theorem aPw : TbOk Tryz.prog X.G (aM6 Tryz.prog) := .cons (by kernel_rfl : _ = some (⟨[.agg 2, .agg 2], .v1 (.agg 2)⟩ : Ct)) (aA7 aPv (fun _ _ => X.G_below) 400 (by kernel_rfl) (by kernel_rfl : _ = some aCD)) aPv
def Ru16 (P : Program) : Fct := runT P (aM6 P) aCE 1
def aM7 (P : Program) : Tb := (79, Ru16 P) :: (aM6 P)
theorem aPx : TbOk Tryz.prog X.G (aM7 Tryz.prog) := .cons (by kernel_rfl : _ = some (⟨[.agg 2, .agg 2], .tup [.agg 2, .agg 2, .one]⟩ : Ct)) (aA7 aPw (fun _ _ => X.G_below) 400 (by kernel_rfl) (by kernel_rfl : _ = some aCE)) aPw
def Ru17 (P : Program) : Fct := runT P (aM7 P) aCF 1
def aM8 (P : Program) : Tb := (133, Ru17 P) :: (aM7 P)
theorem aM9 : TbOk Tryz.prog X.G (aM8 Tryz.prog) := .cons (by kernel_rfl : _ = some (⟨[], .v1 (.agg 2)⟩ : Ct)) (aA7 aPx (fun _ _ => X.G_below) 400 (by kernel_rfl) (by kernel_rfl : _ = some aCF)) aPx
def aCc (P : Program) : Fct := runT P (aM8 P) aBN 1
def aRm (P : Program) : Tb := (81, aCc P) :: (aM8 P)
theorem aRn : TbOk Tryz.prog X.G (aRm Tryz.prog) := .cons (by kernel_rfl : _ = some (⟨[.agg 2, .agg 2], .tup [.agg 3, .one]⟩ : Ct)) (aA7 aM9 (fun _ _ => X.G_below) 400 (by kernel_rfl) (by kernel_rfl : _ = some aBN)) aM9
theorem aC9 : aBb Tryz.prog [i_ 1] = some [b_ false, s_ (⟨#[1]⟩ : ByteArray)] := by kernel_rfl
theorem aGd : aBb Tryz.prog [i_ 2] = some [b_ false, s_ (⟨#[2]⟩ : ByteArray)] := by kernel_rfl
theorem aKB : aBb Tryz.prog [i_ 3] = some [b_ false, s_ (⟨#[3]⟩ : ByteArray)] := by kernel_rfl
theorem aQK : aBb Tryz.prog [i_ 4] = some [b_ false, s_ (⟨#[4]⟩ : ByteArray)] := by kernel_rfl
theorem aQL : aBb Tryz.prog [i_ 6] = some [b_ false, s_ (⟨#[6]⟩ : ByteArray)] := by kernel_rfl
theorem aIv : aCc Tryz.prog [b_ false, s_ (⟨#[1]⟩ : ByteArray), b_ false, s_ (⟨#[2]⟩ : ByteArray)] = some [b_ false, s_ (⟨#[1]⟩ : ByteArray), s_ (⟨#[2]⟩ : ByteArray), b_ true] := by kernel_rfl
theorem aQd : aCc Tryz.prog [b_ false, s_ (⟨#[1]⟩ : ByteArray), b_ false, s_ (⟨#[3]⟩ : ByteArray)] = some [b_ false, s_ (⟨#[1]⟩ : ByteArray), s_ (⟨#[3]⟩ : ByteArray), b_ true] := by kernel_rfl
theorem aQe : aCc Tryz.prog [b_ false, s_ (⟨#[1]⟩ : ByteArray), b_ false, s_ (⟨#[1]⟩ : ByteArray)] = some [b_ false, s_ (⟨#[1]⟩ : ByteArray), s_ (⟨#[]⟩ : ByteArray), b_ true] := by kernel_rfl
theorem aQf : aCc Tryz.prog [b_ false, s_ (⟨#[2]⟩ : ByteArray), b_ false, s_ (⟨#[1]⟩ : ByteArray)] = some [b_ false, s_ (⟨#[2]⟩ : ByteArray), s_ (⟨#[]⟩ : ByteArray), b_ true] := by kernel_rfl
theorem aQg : aCc Tryz.prog [b_ false, s_ (⟨#[3]⟩ : ByteArray), b_ false, s_ (⟨#[1]⟩ : ByteArray)] = some [b_ false, s_ (⟨#[3]⟩ : ByteArray), s_ (⟨#[]⟩ : ByteArray), b_ true] := by kernel_rfl
theorem aQh : aCc Tryz.prog [b_ false, s_ (⟨#[1]⟩ : ByteArray), b_ false, s_ (⟨#[4]⟩ : ByteArray)] = some [b_ false, s_ (⟨#[1]⟩ : ByteArray), s_ (⟨#[4]⟩ : ByteArray), b_ true] := by kernel_rfl
theorem aOI : Sx.Good Tryz.prog X.G 55 ⟨[.one], .v1 (.agg 2)⟩ (aBb Tryz.prog) := aA7 aM3 (fun _ _ => X.G_below) 400 (by kernel_rfl) (by kernel_rfl : _ = some aBM)
theorem run_make : Sx.Good Tryz.prog X.G 81 ⟨[.agg 2, .agg 2], .tup [.agg 3, .one]⟩ (aCc Tryz.prog) := aA7 aM9 (fun _ _ => X.G_below) 400 (by kernel_rfl) (by kernel_rfl : _ = some aBN)
end Go.Proofs.YtjefbecmeobegaaGreatDoor.Sp
