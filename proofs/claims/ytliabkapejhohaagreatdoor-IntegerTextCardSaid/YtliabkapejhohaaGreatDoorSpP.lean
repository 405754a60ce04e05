import Derived.Test.YtliabkapejhohaaGreatDoorSpN
import Derived.Test.YtliabkapejhohaaGreatDoorNatR
import Derived.Test.YtliabkapejhohaaGreatDoorPxNatParse
namespace Go.Proofs.YtliabkapejhohaaGreatDoor.Sp
open Go Go.RowKit Go.Proofs.YtliabkapejhohaaGreatDoorW.PrintWords Go.Proofs.YtliabkapejhohaaGreatDoor.P Go.Proofs.YtliabkapejhohaaGreatDoor.Sx Go.Proofs.YtliabkapejhohaaGreatDoor.NatA Go.Proofs.YtliabkapejhohaaGreatDoor.NatB Go.Proofs.YtliabkapejhohaaGreatDoor.NatC Go.Proofs.YtliabkapejhohaaGreatDoor.NatD Go.Proofs.YtliabkapejhohaaGreatDoor.NatI Go.Proofs.YtliabkapejhohaaGreatDoor.NatJ Go.Proofs.YtliabkapejhohaaGreatDoor.NatN Go.Proofs.YtliabkapejhohaaGreatDoor.NatR
def F_parse : Fct
  | [.v (.string a)] => if a.size ≤ 1000 then some [s_ (parseR a).1, b_ (parseR a).2] else none
  | _ => none
theorem F_parse.eq {a : ByteArray} (h : a.size ≤ 1000) : F_parse [s_ a] = some [s_ (parseR a).1, b_ (parseR a).2] := if_pos h
theorem g_parse : Sx.Good Tryz.prog X.G 56 ⟨[.one], .tup [.one, .one]⟩ F_parse := good_walk fun ds rs h => by
  unfold F_parse at h
  split at h
  · rename_i a
    split at h
    · rename_i ha
      obtain rfl := (Option.some.inj h).symm
      obtain ⟨k, hk⟩ := (ev_parse a ha).rounds
      exact ⟨[.string a], [.string (parseR a).1, .bool (parseR a).2], rfl, rfl, rfl, rfl, fun w _ => (nat_Parse.calls k a _ _ w hk).mono fun e w' ⟨h1, h2⟩ => ⟨h1, h2⟩⟩
    · cases h
  · cases h
theorem F_parse.inv {ds rs : List D} (h : F_parse ds = some rs) : ∃ a : ByteArray, ds = [s_ a] ∧ a.size ≤ 1000 ∧ rs = [s_ (parseR a).1, b_ (parseR a).2] := by
  unfold F_parse at h
  split at h
  · split at h
    · exact ⟨_, rfl, ‹_›, (Option.some.inj h).symm⟩
    · cases h
  · cases h
end Go.Proofs.YtliabkapejhohaaGreatDoor.Sp
