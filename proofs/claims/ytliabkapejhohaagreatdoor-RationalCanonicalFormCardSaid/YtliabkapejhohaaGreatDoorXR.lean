import Derived.Test.YtliabkapejhohaaGreatDoorRows
import Derived.WalkKit
import Derived.ProofKit
import Derived.OpenShut
import Derived.ShutString
import Derived.ChangeOld
import Derived.Lib.SmallJoins
namespace Go.Proofs.YtliabkapejhohaaGreatDoor.X
open Go Go.ChangeShapes Go.WideShapes Go.ChangeAt Go.RowKit Go.Joins
variable {H : Type} {enc : TypeId × Value → H} {W : World} {base : Nat} {sp : Nat → Bool} {held : Bool}
set_option maxRecDepth 100000 in
theorem open_rat {r : Reach} {b0 : Nat} {v : Value} {d : DataW H} {p : List MemPlace} (hv : Value.okWide Tryz.prog W r b0 37 v) (h : DataW.Trod enc Tryz.prog W base sp held 37 v d p) :
    ∃ (b : Bool) (s t : ByteArray), v = .agg #[.bool b, .string s, .string t] ∧ d = .agg [.lit (.bool b), .lit (.string s.data.toList), .lit (.string t.data.toList)] ∧ p = [] ∧ s.size ≤ maxLen ∧ t.size ≤ maxLen := by
  obtain ⟨c0, c1, c2, y0, y1, y2, m, rfl, rfl, rfl, hy0, hy1, hy2⟩ := open_agg3 Tryz.underlying37 (by kernel_rfl) (by kernel_rfl) hv h
  obtain ⟨b, e0, rfl⟩ := DataW.trod_bool Tryz.underlying4 hy0
  obtain ⟨s, e1, rfl, hs⟩ := DataW.trod_string Tryz.underlying9 hy1
  obtain ⟨t, e2, rfl, ht⟩ := DataW.trod_string Tryz.underlying9 hy2
  simp at e0 e1 e2
  subst e0 e1 e2
  exact ⟨b, s, t, rfl, rfl, rfl, hs, ht⟩
set_option maxRecDepth 100000 in
theorem shut_rat {b : Bool} {s t : ByteArray} (hs : s.size ≤ maxLen ∧ t.size ≤ maxLen) : DataW.Trod enc Tryz.prog W base sp held 37 (.agg #[.bool b, .string s, .string t]) (.agg [.lit (.bool b), .lit (.string s.data.toList), .lit (.string t.data.toList)]) [] :=
  shut_agg3 (y0 := (.lit (.bool b), [])) (y1 := (.lit (.string s.data.toList), [])) (y2 := (.lit (.string t.data.toList), [])) Tryz.underlying37 (by kernel_rfl) (by kernel_rfl) ⟨1, by simp [DataW.trod, Tryz.underlying4]⟩ ⟨1, by simp [DataW.trod, Tryz.underlying9, hs.1]⟩ ⟨1, by simp [DataW.trod, Tryz.underlying9, hs.2]⟩
end Go.Proofs.YtliabkapejhohaaGreatDoor.X
