import Derived.Test.YtkkjlpfomofiaaaGreatDoorProg
import Derived.Below
namespace Go.Proofs.YtkkjlpfomofiaaaGreatDoor.X
open Go Go.RowKit
def ErrAt (g:Nat) (w:World):Prop:=∃ t x,w.cell? ⟨g,0,none⟩=some (.iface t x)
theorem ErrAt.below {g:Nat} {w w':World} (h:ErrAt g w) (hb:Below w.heap.size w w'):ErrAt g w':=by
 obtain ⟨t,x,h⟩:=h
 refine ⟨t,x,?_⟩
 rw [hb.cell (p:=⟨g,0,none⟩) ?_]
 ·exact h
 ·rcases Nat.lt_or_ge g w.heap.size with h' | h'
  ·exact h'
  ·unfold World.cell? at h
   rw [Array.getElem?_eq_none h'] at h
   cases h
def GX (w:World):Prop:=ErrAt 2 w∧ErrAt 3 w
theorem GX.below {w w':World} (h:GX w) (hb:Below w.heap.size w w'):GX w':=⟨h.1.below hb,h.2.below hb⟩
end Go.Proofs.YtkkjlpfomofiaaaGreatDoor.X
