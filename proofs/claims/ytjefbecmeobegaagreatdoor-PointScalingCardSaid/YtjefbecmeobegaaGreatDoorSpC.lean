import Derived.Test.YtjefbecmeobegaaGreatDoorSx2
import Derived.Test.YtjefbecmeobegaaGreatDoorSpN
import Derived.Test.YtjefbecmeobegaaGreatDoorTr1
namespace Go.Proofs.YtjefbecmeobegaaGreatDoor.Sp
open Go Go.RowKit Sx
def runT (P : Program) (tb : Tb) (t : T) : Nat → Fct
 | 0 => fun _ => none
 | n + 1 => fun ds => match t.run P (aBY tb) 300 [] ds with
  | some r => some r
  | none => runT P tb t n ds
theorem aKr {P : Program} {tb : Tb} {t : T} {ds r : List D} : ∀ {n : Nat}, runT P tb t n ds = some r → t.run P (aBY tb) 300 [] ds = some r
 | 0, h => by cases h
 | n + 1, h => by
  unfold runT at h
  split at h
  ·rw [← h]
   assumption
  ·exact aKr h
theorem aA7 {P : Program} {G : World → Prop} {tb : Tb} (h : TbOk P G tb) (hG : ∀ w w', G w → Below w.heap.size w w' → G w') (N : Nat) {f : FuncId} {ct : Ct} {t : T} (hc : aFy P f = some ct) (ht : aGZ P (tb.map (·.1)) N f = some t) : Sx.Good P G f ct (runT P tb t 1) := aAg h hG N hc ht fun _ _ h => ⟨300, aKr h⟩
def Ru0 (P : Program) : Fct := runT P ([] : Tb) aBN 1
def aOl (P : Program) : Tb := (95, Ru0 P) :: ([] : Tb)
theorem okC0 : TbOk Tryz.prog X.G (aOl Tryz.prog) := .cons (by kernel_rfl : _ = some (⟨[.one], .v1 .one⟩ : Ct)) (aA7 (tb := []) trivial (fun _ _ => X.G_below) 400 (by kernel_rfl) (by kernel_rfl : _ = some aBN)) trivial
def Ru1 (P : Program) : Fct := runT P (aOl P) aCe 1
def aOm (P : Program) : Tb := (142, Ru1 P) :: (aOl P)
theorem okC1 : TbOk Tryz.prog X.G (aOm Tryz.prog) := .cons (by kernel_rfl : _ = some (⟨[.one, .one], .v1 .one⟩ : Ct)) (aA7 okC0 (fun _ _ => X.G_below) 400 (by kernel_rfl) (by kernel_rfl : _ = some aCe)) okC0
def Ru2 (P : Program) : Fct := runT P (aOm P) aCC 1
def aOn (P : Program) : Tb := (155, Ru2 P) :: (aOm P)
theorem okC2 : TbOk Tryz.prog X.G (aOn Tryz.prog) := .cons (by kernel_rfl : _ = some (⟨[.one, .one], .v1 .one⟩ : Ct)) (aA7 okC1 (fun _ _ => X.G_below) 400 (by kernel_rfl) (by kernel_rfl : _ = some aCC)) okC1
def Ru3 (P : Program) : Fct := runT P (aOn P) aCD 1
def aOo (P : Program) : Tb := (144, Ru3 P) :: (aOn P)
theorem okC3 : TbOk Tryz.prog X.G (aOo Tryz.prog) := .cons (by kernel_rfl : _ = some (⟨[.one, .one], .v1 .one⟩ : Ct)) (aA7 okC2 (fun _ _ => X.G_below) 400 (by kernel_rfl) (by kernel_rfl : _ = some aCD)) okC2
def Ru4 (P : Program) : Fct := runT P (aOo P) aCE 1
def aOp (P : Program) : Tb := (145, Ru4 P) :: (aOo P)
theorem okC4 : TbOk Tryz.prog X.G (aOp Tryz.prog) := .cons (by kernel_rfl : _ = some (⟨[.one, .one], .tup [.one, .one]⟩ : Ct)) (aA7 okC3 (fun _ _ => X.G_below) 400 (by kernel_rfl) (by kernel_rfl : _ = some aCE)) okC3
def Ru5 (P : Program) : Fct := runT P (aOp P) aBU 1
def aOq (P : Program) : Tb := (97, Ru5 P) :: (aOp P)
theorem okC5 : TbOk Tryz.prog X.G (aOq Tryz.prog) := .cons (by kernel_rfl : _ = some (⟨[.one, .one], .v1 .one⟩ : Ct)) (aA7 okC4 (fun _ _ => X.G_below) 400 (by kernel_rfl) (by kernel_rfl : _ = some aBU)) okC4
def Ru6 (P : Program) : Fct := runT P (aOq P) aDo 1
def aOr (P : Program) : Tb := (111, Ru6 P) :: (aOq P)
theorem okC6 : TbOk Tryz.prog X.G (aOr Tryz.prog) := .cons (by kernel_rfl : _ = some (⟨[.one], .v1 .one⟩ : Ct)) (aA7 okC5 (fun _ _ => X.G_below) 400 (by kernel_rfl) (by kernel_rfl : _ = some aDo)) okC5
def Ru7 (P : Program) : Fct := runT P (aOr P) aCF 1
def aOs (P : Program) : Tb := (130, Ru7 P) :: (aOr P)
theorem okC7 : TbOk Tryz.prog X.G (aOs Tryz.prog) := .cons (by kernel_rfl : _ = some (⟨[.one, .one], .tup [.one, .one, .one]⟩ : Ct)) (aA7 okC6 (fun _ _ => X.G_below) 400 (by kernel_rfl) (by kernel_rfl : _ = some aCF)) okC6
def Ru8 (P : Program) : Fct := runT P (aOs P) aCG 1
def aOt (P : Program) : Tb := (129, Ru8 P) :: (aOs P)
theorem okC8 : TbOk Tryz.prog X.G (aOt Tryz.prog) := .cons (by kernel_rfl : _ = some (⟨[.one, .one], .v1 .one⟩ : Ct)) (aA7 okC7 (fun _ _ => X.G_below) 400 (by kernel_rfl) (by kernel_rfl : _ = some aCG)) okC7
def Ru9 (P : Program) : Fct := runT P (aOt P) aCd 1
def aOu (P : Program) : Tb := (96, Ru9 P) :: (aOt P)
theorem okC9 : TbOk Tryz.prog X.G (aOu Tryz.prog) := .cons (by kernel_rfl : _ = some (⟨[.one, .one], .v1 (.agg 2)⟩ : Ct)) (aA7 okC8 (fun _ _ => X.G_below) 400 (by kernel_rfl) (by kernel_rfl : _ = some aCd)) okC8
def Ru10 (P : Program) : Fct := runT P (aOu P) aC5 1
def aMc (P : Program) : Tb := (76, Ru10 P) :: (aOu P)
theorem aPa : TbOk Tryz.prog X.G (aMc Tryz.prog) := .cons (by kernel_rfl : _ = some (⟨[.agg 2], .v1 (.agg 2)⟩ : Ct)) (aA7 okC9 (fun _ _ => X.G_below) 400 (by kernel_rfl) (by kernel_rfl : _ = some aC5)) okC9
def Ru11 (P : Program) : Fct := runT P (aMc P) aC7 1
def aMd (P : Program) : Tb := (78, Ru11 P) :: (aMc P)
theorem aPb : TbOk Tryz.prog X.G (aMd Tryz.prog) := .cons (by kernel_rfl : _ = some (⟨[.agg 2], .v1 (.agg 2)⟩ : Ct)) (aA7 aPa (fun _ _ => X.G_below) 400 (by kernel_rfl) (by kernel_rfl : _ = some aC7)) aPa
def Ru12 (P : Program) : Fct := runT P (aMd P) aBK 1
def aMe (P : Program) : Tb := (35, Ru12 P) :: (aMd P)
theorem aMf : TbOk Tryz.prog X.G (aMe Tryz.prog) := .cons (by kernel_rfl : _ = some (⟨[.agg 2], .v1 .one⟩ : Ct)) (aA7 aPb (fun _ _ => X.G_below) 400 (by kernel_rfl) (by kernel_rfl : _ = some aBK)) aPb
def aBy (P : Program) : Fct := runT P (aMe P) aBL 1
def aMg (P : Program) : Tb := (55, aBy P) :: (aMe P)
theorem aPc : TbOk Tryz.prog X.G (aMg Tryz.prog) := .cons (by kernel_rfl : _ = some (⟨[.one], .v1 (.agg 2)⟩ : Ct)) (aA7 aMf (fun _ _ => X.G_below) 400 (by kernel_rfl) (by kernel_rfl : _ = some aBL)) aMf
def Ru14 (P : Program) : Fct := runT P (aMg P) aC8 1
def aMh (P : Program) : Tb := (110, Ru14 P) :: (aMg P)
theorem aPd : TbOk Tryz.prog X.G (aMh Tryz.prog) := .cons (by kernel_rfl : _ = some (⟨[.agg 2, .agg 2], .v1 (.agg 2)⟩ : Ct)) (aA7 aPc (fun _ _ => X.G_below) 400 (by kernel_rfl) (by kernel_rfl : _ = some aC8)) aPc
def Ru15 (P : Program) : Fct := runT P (aMh P) aC9 1
def aMi (P : Program) : Tb := (131, Ru15 P) :: (aMh P)
theorem aPe : TbOk Tryz.prog X.G (aMi Tryz.prog) := .cons (by kernel_rfl : _ = some (⟨[.agg 2, .agg 2], .v1 (.agg 2)⟩ : Ct)) (aA7 aPd (fun _ _ => X.G_below) 400 (by kernel_rfl) (by kernel_rfl : _ = some aC9)) aPd
def Ru16 (P : Program) : Fct := runT P (aMi P) aCA 1
def aMj (P : Program) : Tb := (79, Ru16 P) :: (aMi P)
theorem aPf : TbOk Tryz.prog X.G (aMj Tryz.prog) := .cons (by kernel_rfl : _ = some (⟨[.agg 2, .agg 2], .tup [.agg 2, .agg 2, .one]⟩ : Ct)) (aA7 aPe (fun _ _ => X.G_below) 400 (by kernel_rfl) (by kernel_rfl : _ = some aCA)) aPe
def Ru17 (P : Program) : Fct := runT P (aMj P) aCB 1
def aMk (P : Program) : Tb := (133, Ru17 P) :: (aMj P)
theorem aMl : TbOk Tryz.prog X.G (aMk Tryz.prog) := .cons (by kernel_rfl : _ = some (⟨[], .v1 (.agg 2)⟩ : Ct)) (aA7 aPf (fun _ _ => X.G_below) 400 (by kernel_rfl) (by kernel_rfl : _ = some aCB)) aPf
def aC6 (P : Program) : Fct := runT P (aMk P) aBM 1
def aRn (P : Program) : Tb := (81, aC6 P) :: (aMk P)
theorem aRo : TbOk Tryz.prog X.G (aRn Tryz.prog) := .cons (by kernel_rfl : _ = some (⟨[.agg 2, .agg 2], .tup [.agg 3, .one]⟩ : Ct)) (aA7 aMl (fun _ _ => X.G_below) 400 (by kernel_rfl) (by kernel_rfl : _ = some aBM)) aMl
theorem aDS : aBy Tryz.prog [i_ 1] = some [b_ false, s_ (⟨#[1]⟩ : ByteArray)] := by kernel_rfl
theorem aHx : aBy Tryz.prog [i_ 2] = some [b_ false, s_ (⟨#[2]⟩ : ByteArray)] := by kernel_rfl
theorem aKs : aBy Tryz.prog [i_ 3] = some [b_ false, s_ (⟨#[3]⟩ : ByteArray)] := by kernel_rfl
theorem aQC : aBy Tryz.prog [i_ 6] = some [b_ false, s_ (⟨#[6]⟩ : ByteArray)] := by kernel_rfl
theorem aLk : aC6 Tryz.prog [b_ false, s_ (⟨#[1]⟩ : ByteArray), b_ false, s_ (⟨#[2]⟩ : ByteArray)] = some [b_ false, s_ (⟨#[1]⟩ : ByteArray), s_ (⟨#[2]⟩ : ByteArray), b_ true] := by kernel_rfl
theorem aPR : aC6 Tryz.prog [b_ false, s_ (⟨#[1]⟩ : ByteArray), b_ false, s_ (⟨#[3]⟩ : ByteArray)] = some [b_ false, s_ (⟨#[1]⟩ : ByteArray), s_ (⟨#[3]⟩ : ByteArray), b_ true] := by kernel_rfl
theorem aPS : aC6 Tryz.prog [b_ false, s_ (⟨#[1]⟩ : ByteArray), b_ false, s_ (⟨#[1]⟩ : ByteArray)] = some [b_ false, s_ (⟨#[1]⟩ : ByteArray), s_ (⟨#[]⟩ : ByteArray), b_ true] := by kernel_rfl
theorem aPT : aC6 Tryz.prog [b_ false, s_ (⟨#[2]⟩ : ByteArray), b_ false, s_ (⟨#[1]⟩ : ByteArray)] = some [b_ false, s_ (⟨#[2]⟩ : ByteArray), s_ (⟨#[]⟩ : ByteArray), b_ true] := by kernel_rfl
theorem aPU : aC6 Tryz.prog [b_ false, s_ (⟨#[3]⟩ : ByteArray), b_ false, s_ (⟨#[1]⟩ : ByteArray)] = some [b_ false, s_ (⟨#[3]⟩ : ByteArray), s_ (⟨#[]⟩ : ByteArray), b_ true] := by kernel_rfl
theorem aOv : Sx.Good Tryz.prog X.G 55 ⟨[.one], .v1 (.agg 2)⟩ (aBy Tryz.prog) := aA7 aMf (fun _ _ => X.G_below) 400 (by kernel_rfl) (by kernel_rfl : _ = some aBL)
theorem run_make : Sx.Good Tryz.prog X.G 81 ⟨[.agg 2, .agg 2], .tup [.agg 3, .one]⟩ (aC6 Tryz.prog) := aA7 aMl (fun _ _ => X.G_below) 400 (by kernel_rfl) (by kernel_rfl : _ = some aBM)
end Go.Proofs.YtjefbecmeobegaaGreatDoor.Sp
