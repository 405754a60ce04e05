/- Functions of Go's library in the form of the printed texts: what each answers, and that a call of it answers so. -/
import Derived.Test.YtgdkgoeegipghaaSh
import Derived.Test.YtgdkgoeegipghaaWMore
namespace Go.Proofs.Ytgdkgoeegipghaa.X
open Go Go.RowKit Go.Proofs.YtgdkgoeegipghaaW.PrintWords
/-- strings.Repeat, where the result is one allocation. -/
def strings_Repeat.f (s : ByteArray) (c : Int) : Option ByteArray := if 0 ≤ c ∧ c ≤ 9223372036854775807 ∧ s.size * c.toNat ≤ 140737488355328 then some ⟨(Lib.repeatL s.data.toList c.toNat).toArray⟩ else none
theorem strings_Repeat.calls (s : ByteArray) (c : Int) (r : ByteArray) (w : World) (h : strings_Repeat.f s c = some r) :
    Calls Try.prog 12 #[.string s, .int .i64 c] w fun e w' => e = .returned (.string r) ∧ Below w.heap.size w w' := by
  unfold strings_Repeat.f at h
  split at h
  · rename_i hc
    obtain ⟨h0, h1, h2⟩ := hc
    obtain ⟨n, rfl⟩ := Int.eq_ofNat_of_zero_le h0
    rw [Int.toNat_natCast] at h h2
    have := Go.Proofs.Try.strings_Repeat s n w (by omega) h2
    injection h with h
    rw [h] at this
    exact this
  · cases h
end Go.Proofs.Ytgdkgoeegipghaa.X
