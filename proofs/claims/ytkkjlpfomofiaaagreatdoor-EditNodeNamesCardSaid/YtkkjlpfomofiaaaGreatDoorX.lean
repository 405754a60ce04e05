import Derived.Test.YtkkjlpfomofiaaaGreatDoorSh
import Derived.Test.YtkkjlpfomofiaaaGreatDoorXWords
import Derived.Test.YtkkjlpfomofiaaaGreatDoorXF
import Derived.Shelf.Strings.SlTrimAscii
namespace Go.Proofs.YtkkjlpfomofiaaaGreatDoor.X
open Go Go.RowKit YtkkjlpfomofiaaaGreatDoorW.PrintWords
def strings_Repeat.f (s:ByteArray) (c:Int):Option ByteArray:=if 0≤c∧c≤9223372036854775807∧s.size*c.toNat≤140737488355328 then some ⟨(Lib.repeatL s.data.toList c.toNat).toArray⟩ else none
theorem strings_Repeat.calls (s:ByteArray) (c:Int) (r:ByteArray) (w:World) (h:strings_Repeat.f s c=some r) :
  Calls Tryz.prog 101 #[.string s,.int .i64 c] w fun e w'=>e=.returned (.string r)∧Below w.heap.size w w':=by
 unfold strings_Repeat.f at h
 split at h
 ·rename_i hc
  obtain ⟨h0,h1,h2⟩:=hc
  obtain ⟨n,rfl⟩:=Int.eq_ofNat_of_zero_le h0
  rw [Int.toNat_natCast] at h h2
  have:=Go.Proofs.Tryz.strings_Repeat s n w (by omega) h2
  injection h with h
  rw [h] at this
  exact this
 ·cases h
def bits_LeadingZeros32.f (x:Int):Option Int:=if 0≤x∧x≤4294967295 then some (32 - (Lib.bitLen x.toNat:Int)) else none
theorem bits_LeadingZeros32.calls (x:Int) (r:Int) (w:World) (h:bits_LeadingZeros32.f x=some r) :
  Calls Tryz.prog 222 #[.int .u32 x] w fun e w'=>e=.returned (.int .i64 r)∧Drawn0 w w':=by
 unfold bits_LeadingZeros32.f at h
 split at h
 ·rename_i hc
  injection h with h
  subst h
  refine (Go.Proofs.Tryz.bits_LeadingZeros32 x w hc.1 hc.2).mono ?_
  rintro e w' ⟨rfl,rfl⟩
  exact ⟨rfl,Drawn0.refl _⟩
 ·cases h
end Go.Proofs.YtkkjlpfomofiaaaGreatDoor.X
