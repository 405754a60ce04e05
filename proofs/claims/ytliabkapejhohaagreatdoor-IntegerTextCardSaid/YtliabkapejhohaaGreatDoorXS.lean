import Derived.Test.YtliabkapejhohaaGreatDoorRows
import Derived.WalkKit
import Derived.ProofKit
import Derived.OpenShut
import Derived.ShutString
import Derived.ChangeOld
import Derived.Lib.SmallJoins
namespace Go.Proofs.YtliabkapejhohaaGreatDoor.X
open Go Go.ChangeShapes Go.WideShapes Go.ChangeAt Go.RowKit Go.Joins
variable {H : Type} {enc : TypeId × Value → H} {W : World} {base : Nat} {sp : Nat → Bool} {held : Bool}
set_option maxRecDepth 100000 in
theorem open_api {r : Reach} {b0 : Nat} {v : Value} {d : DataW H} {p : List MemPlace} (hv : Value.okWide Tryz.prog W r b0 23 v) (h : DataW.Trod enc Tryz.prog W base sp held 23 v d p) :
    ∃ (b : Bool) (s : ByteArray), v = .agg #[.bool b, .string s] ∧ d = .agg [.lit (.bool b), .lit (.string s.data.toList)] ∧ p = [] ∧ s.size ≤ maxLen := by
  obtain ⟨c0, c1, y0, y1, m, rfl, rfl, rfl, hy0, hy1⟩ := open_agg2 Tryz.underlying23 (by kernel_rfl) (by kernel_rfl) hv h
  obtain ⟨b, e0, rfl⟩ := DataW.trod_bool Tryz.underlying4 hy0
  obtain ⟨s, e1, rfl, hs⟩ := DataW.trod_string Tryz.underlying9 hy1
  simp at e0 e1
  subst e0 e1
  exact ⟨b, s, rfl, rfl, rfl, hs⟩
set_option maxRecDepth 100000 in
theorem shut_api {b : Bool} {s : ByteArray} (hs : s.size ≤ maxLen) : DataW.Trod enc Tryz.prog W base sp held 23 (.agg #[.bool b, .string s]) (.agg [.lit (.bool b), .lit (.string s.data.toList)]) [] :=
  shut_agg2 (y0 := (.lit (.bool b), [])) (y1 := (.lit (.string s.data.toList), [])) Tryz.underlying23 (by kernel_rfl) (by kernel_rfl) ⟨1, by simp [DataW.trod, Tryz.underlying4]⟩ ⟨1, by simp [DataW.trod, Tryz.underlying9, hs]⟩
end Go.Proofs.YtliabkapejhohaaGreatDoor.X
