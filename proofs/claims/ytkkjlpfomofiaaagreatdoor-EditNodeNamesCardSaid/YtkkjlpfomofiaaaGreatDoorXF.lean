import Derived.Test.YtkkjlpfomofiaaaGreatDoorSh
import Derived.Test.YtkkjlpfomofiaaaGreatDoorXE
import Derived.Test.YtkkjlpfomofiaaaGreatDoorXWords
import Derived.Lib.Walk
import Derived.Lib.ItoaMem
import Derived.Lib.AppendIntMem
import Derived.WalkKit
import Derived.BigCall
import Derived.BigGuard
import Derived.Laws.Slices
import Derived.Lib.ConvBytes
namespace Go.Proofs.YtkkjlpfomofiaaaGreatDoor.X
open Go Go.Shelf Go.RowKit Go.Sort Go.Lib
def G0 (w : World) : Prop := Lib.TabIs Tryz.prog w "internal/strconv.uint64pow10" .u64 Lib.pow10Tab
theorem G0.below {w w':World} (h:G0 w) (hb:Below w.heap.size w w'):G0 w':=by
 have hg : Tryz.prog.globalNamed "internal/strconv.uint64pow10" = some 4 := by kernel_rfl
 unfold G0 Lib.TabIs World.var? at h ⊢
 rw [hg] at h ⊢
 simp only [Option.bind_some] at h ⊢
 have hlt:4 < w.heap.size:=by
  rcases Nat.lt_or_ge 4 w.heap.size with h' | h'
  ·exact h'
  ·rw [Array.getElem?_eq_none h'] at h;cases h
 rw [hb.block _ hlt]
 exact h
def G (w:World):Prop:=G0 w∧GX w
theorem G.below {w w':World} (h:G w) (hb:Below w.heap.size w w'):G w':=⟨h.1.below hb,h.2.below hb⟩
theorem holds_zero0 (w:World) (T:TypeId) (nd:Nat) (hs:nd≤24):Holds (fun (b:UInt8)=>Value.int .u8 (b.toNat:Int)) (w.alloc (.cells zeros24 T)) w.heap.size 0 (Array.replicate nd (0:UInt8)):=fun j hj=>by
 have hj':j < nd:=by simpa using hj
 refine ⟨?_,World.frozen?_alloc_new _ _ _ _⟩
 rw [World.cell?_alloc_new,zeros24_at _ (by omega),getElem!_pos _ j hj]
 simp
theorem aMO (w:World) (o:Obj) (dk:Array UInt8) (k:Nat):Below w.heap.size w ((putRow (fun (b:UInt8)=>Value.int .u8 (b.toNat:Int)) (w.alloc o) w.heap.size 0 dk).drewN k):=by
 rw [alloc_eq_grow]
 obtain ⟨os',_,e⟩:=putRow_grow_new (fun (b:UInt8)=>Value.int .u8 (b.toNat:Int)) w #[o] w.heap.size 0 dk (Nat.le_refl _)
 have e2:(putRow (fun (b:UInt8)=>Value.int .u8 (b.toNat:Int)) (grow w #[o]) w.heap.size 0 dk).drewN k=grow (w.drewN k) os':=by rw [e];rfl
 rw [e2]
 exact below_grow _ _ (Nat.le_refl _) k os'
set_option maxHeartbeats 6400000 in
set_option maxRecDepth 100000 in
theorem aGr (u:Nat) (hu64:u < 18446744073709551616) (w:World) (htab:G0 w) :
  Calls Tryz.prog 206 #[.int .u64 u,.int .i64 10] w fun e w'=>e=.returned (.string ⟨(Lib.decDigits u).toArray⟩)∧Below w.heap.size w w':=by
 by_cases hs:u < 100
 ·go_enter Tryz.func206,Tryz.ntmps206
  go_wp2_with (go_at_call 156;refine (Go.Proofs.Tryz.internal_strconv_small u hs _).mono ?_;rintro e w' ⟨rfl,rfl⟩)
  go_ret
  exact ⟨rfl,Below.refl _ _⟩
 ·have hu1:1≤u:=by omega
  have hnd20:Lib.nDigits u≤20:=by have:=Lib.numDigits_eq u hu1 hu64;split at this<;>omega
  have hb3:Lib.nDigits u≤24:=by omega
  have t91:=Tryz.underlying170
  have hal:Tryz.prog.arrayLen 170=24:=by simp [Program.arrayLen,t91]
  have hsl:∀ W,(Instr.sliceAt 170 (.pointer (some ⟨w.heap.size,0,none⟩)) none (some (.int .i64 (Lib.nDigits u:Int))) none).run Tryz.prog W=.ok (.slice (some ⟨w.heap.size,0,none⟩) (Lib.nDigits u) 24) W:=fun W=>by
   rw [run_sliceAt_array_h W 170 ⟨w.heap.size,0,none⟩ (by simp [Program.arrayLen,Program.elem,t91]) .i64 (Lib.nDigits u:Int) (by omega) (by rw [hal];omega)]
   go_simp
  have hH0:=holds_zero0 w 170 (Lib.nDigits u) (by omega)
  have hfmt:=Go.Proofs.Tryz.internal_strconv_formatBase10 w.heap.size 0 24 u (Array.replicate (Lib.nDigits u) 0) (w.alloc (.cells Lib.zeros24 170)) hH0 (by rw [Array.size_replicate];exact Lib.lt_pow_nDigits u) hu64 (by rw [Array.size_replicate];omega)
  rw [Array.size_replicate] at hfmt
  have HH0:=Lib.hid hH0
  have HTAB:=Lib.hid htab
  clear hH0 hal htab
  go_enter Tryz.func206,Tryz.ntmps206
  go_wp2_with (go_at_call 157;refine (Go.Proofs.Tryz.internal_strconv_numDigits u hu1 hu64 _ (Lib.tabIs_alloc HTAB.out _)).mono ?_;rintro e w' ⟨rfl,rfl⟩)
  go_at_call 158
  refine hfmt.mono ?_
  rintro e w' ⟨rfl,k,v',dk,rfl,hF⟩
  have hcv:(convert 47 9 (.slice (some ⟨w.heap.size,0,none⟩) (Lib.nDigits u) 24)).run Tryz.prog ((putRow (fun (b:UInt8)=>Value.int .u8 (b.toNat:Int)) (w.alloc (.cells Lib.zeros24 170)) w.heap.size 0 dk).drewN k)=.ok (.string ⟨(Lib.decDigits u).toArray⟩) ((putRow (fun (b:UInt8)=>Value.int .u8 (b.toNat:Int)) (w.alloc (.cells Lib.zeros24 170)) w.heap.size 0 dk).drewN k):=by
   have h:=run_convert_bytes_back (P:=Tryz.prog) ((putRow (fun (b:UInt8)=>Value.int .u8 (b.toNat:Int)) (w.alloc (.cells Lib.zeros24 170)) w.heap.size 0 dk).drewN k) 47 9 5 ⟨w.heap.size,0,none⟩ 24 (Lib.decDigits u) Tryz.underlying47 Tryz.underlying5 Tryz.underlying9 (fun j hj=>by
    rw [Lib.row_is_numeral hF j hj,Lib.add_plain,World.cell?_drewN]
    exact cell?_putRow (fun (b:UInt8)=>Value.int .u8 (b.toNat:Int)) _ w.heap.size 0 _ dk HH0.out (by rw [hF.size,Array.size_replicate]) j (by rw [hF.size];rw [Lib.decDigits_length] at hj;exact hj))
   rw [Lib.decDigits_length] at h
   exact h
  go_wp2
  go_ret
  exact ⟨rfl,aMO w (.cells Lib.zeros24 170) dk k⟩
def strconv_FormatUint.f (n b:Int):Option ByteArray:=if 0≤n∧n < 18446744073709551616∧b=10 then some ⟨(Lib.decDigits n.toNat).toArray⟩ else none
theorem strconv_FormatUint.calls (n b:Int) (r:ByteArray) (w:World) (hG:G w) (h:strconv_FormatUint.f n b=some r) :
  Calls Tryz.prog 166 #[.int .u64 n,.int .i64 b] w fun e w'=>e=.returned (.string r)∧Below w.heap.size w w':=by
 unfold strconv_FormatUint.f at h
 split at h
 ·rename_i hc
  obtain ⟨h0,h1,rfl⟩:=hc
  obtain ⟨u,rfl⟩:=Int.eq_ofNat_of_zero_le h0
  injection h with h
  rw [Int.toNat_natCast] at h
  subst h
  have hu:u < 18446744073709551616:=by omega
  clear h0 h1
  go_enter Tryz.func166,Tryz.ntmps166
  go_wp2_with (go_at_call 206;refine (aGr u hu _ hG.1).mono ?_;rintro e w' ⟨rfl,hb⟩)
  go_ret
  exact ⟨rfl,hb⟩
 ·cases h
end Go.Proofs.YtkkjlpfomofiaaaGreatDoor.X
