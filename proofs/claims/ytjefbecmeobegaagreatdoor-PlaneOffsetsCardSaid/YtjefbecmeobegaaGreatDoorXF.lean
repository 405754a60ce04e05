import Derived.Test.YtjefbecmeobegaaGreatDoorSh
import Derived.Test.YtjefbecmeobegaaGreatDoorXWords
import Derived.Lib.Walk
import Derived.Lib.ItoaMem
import Derived.Lib.AppendIntMem
import Derived.WalkKit
import Derived.BigCall
import Derived.BigGuard
import Derived.Laws.Slices
import Derived.Lib.ConvBytes
namespace Go.Proofs.YtjefbecmeobegaaGreatDoor.X
open Go Go.Shelf Go.RowKit Go.Sort Go.Lib
def G (w : World) : Prop := Lib.TabIs Tryz.prog w "internal/strconv.uint64pow10" .u64 Lib.pow10Tab
theorem G.below {w w':World} (h:G w) (hb:Below w.heap.size w w'):G w':=by
 have hg : Tryz.prog.globalNamed "internal/strconv.uint64pow10" = some 2 := by kernel_rfl
 unfold G Lib.TabIs World.var? at h ⊢
 rw [hg] at h ⊢
 simp only [Option.bind_some] at h ⊢
 have hlt:2 < w.heap.size:=by
  rcases Nat.lt_or_ge 2 w.heap.size with h' | h'
  ·exact h'
  ·rw [Array.getElem?_eq_none h'] at h;cases h
 rw [hb.block _ hlt]
 exact h
theorem holds_zero0 (w:World) (T:TypeId) (nd:Nat) (hs:nd<=24):Holds (λ (b:UInt8)=>Value.int .u8 (b.toNat:Int)) (w.alloc (.cells zeros24 T)) w.heap.size 0 (Array.replicate nd (0:UInt8)):=λ j hj=>by
 have hj':j < nd:=by simpa using hj
 refine ⟨?_,World.frozen?_alloc_new _ _ _ _⟩
 rw [World.cell?_alloc_new,zeros24_at _ kJ,getElem!_pos _ j hj]
 simp
theorem aPJ (w:World) (o:Obj) (dk:Array UInt8) (k:Nat):Below w.heap.size w ((putRow (λ (b:UInt8)=>Value.int .u8 (b.toNat:Int)) (w.alloc o) w.heap.size 0 dk).drewN k):=by
 rw [alloc_eq_grow]
 obtain ⟨os',_,e⟩:=putRow_grow_new (λ (b:UInt8)=>Value.int .u8 (b.toNat:Int)) w #[o] w.heap.size 0 dk (Nat.le_refl _)
 have e2:(putRow (λ (b:UInt8)=>Value.int .u8 (b.toNat:Int)) (grow w #[o]) w.heap.size 0 dk).drewN k=grow (w.drewN k) os':=by rw [e];rfl
 rw [e2]
 exact below_grow _ _ (Nat.le_refl _) k os'
set_option maxHeartbeats 6400000 in
set_option maxRecDepth 100000 in
theorem aIF (u:Nat) (hu64:u < 18446744073709551616) (w:World) (htab:G w) :
  Calls Tryz.prog 179 #[.int .u64 u,.int .i64 10] w λ e w'=>e=.returned (.string ⟨(Lib.decDigits u).toArray⟩)/\Below w.heap.size w w':=by
 by_cases hs:u < 100
 ·go_enter Tryz.func179,Tryz.ntmps179
  go_wp2_with (go_at_call 186;refine (Go.Proofs.Tryz.internal_strconv_small u hs _).mono ?_;rintro e w' ⟨rfl,rfl⟩)
  go_ret
  exact ⟨rfl,Below.refl _ _⟩
 ·have hu1:1<=u:=by omega
  have hnd20:Lib.nDigits u<=20:=by have:=Lib.numDigits_eq u hu1 hu64;split at this<;>omega
  have hb3:Lib.nDigits u<=24:=by omega
  have t91:=Tryz.underlying182
  have hal:Tryz.prog.arrayLen 182=24:=by simp [Program.arrayLen,t91]
  have hsl:∀ W,(Instr.sliceAt 182 (.pointer (some ⟨w.heap.size,0,none⟩)) none (some (.int .i64 (Lib.nDigits u:Int))) none).run Tryz.prog W=.ok (.slice (some ⟨w.heap.size,0,none⟩) (Lib.nDigits u) 24) W:=λ W=>by
   rw [run_sliceAt_array_h W 182 ⟨w.heap.size,0,none⟩ (by simp [Program.arrayLen,Program.elem,t91]) .i64 (Lib.nDigits u:Int) kJ (by rw [hal];omega)]
   go_simp
  have hH0:=holds_zero0 w 182 (Lib.nDigits u) kJ
  have hfmt:=Go.Proofs.Tryz.internal_strconv_formatBase10 w.heap.size 0 24 u (Array.replicate (Lib.nDigits u) 0) (w.alloc (.cells Lib.zeros24 182)) hH0 (by rw [Array.size_replicate];exact Lib.lt_pow_nDigits u) hu64 (by rw [Array.size_replicate];omega)
  rw [Array.size_replicate] at hfmt
  have HH0:=Lib.hid hH0
  have HTAB:=Lib.hid htab
  clear hH0 hal htab
  go_enter Tryz.func179,Tryz.ntmps179
  go_wp2_with (go_at_call 187;refine (Go.Proofs.Tryz.internal_strconv_numDigits u hu1 hu64 _ (Lib.tabIs_alloc HTAB.out _)).mono ?_;rintro e w' ⟨rfl,rfl⟩)
  go_at_call 188
  refine hfmt.mono ?_
  rintro e w' ⟨rfl,k,v',dk,rfl,hF⟩
  have hcv:(convert 130 9 (.slice (some ⟨w.heap.size,0,none⟩) (Lib.nDigits u) 24)).run Tryz.prog ((putRow (λ (b:UInt8)=>Value.int .u8 (b.toNat:Int)) (w.alloc (.cells Lib.zeros24 182)) w.heap.size 0 dk).drewN k)=.ok (.string ⟨(Lib.decDigits u).toArray⟩) ((putRow (λ (b:UInt8)=>Value.int .u8 (b.toNat:Int)) (w.alloc (.cells Lib.zeros24 182)) w.heap.size 0 dk).drewN k):=by
   have h:=run_convert_bytes_back (P:=Tryz.prog) ((putRow (λ (b:UInt8)=>Value.int .u8 (b.toNat:Int)) (w.alloc (.cells Lib.zeros24 182)) w.heap.size 0 dk).drewN k) 130 9 5 ⟨w.heap.size,0,none⟩ 24 (Lib.decDigits u) Tryz.underlying130 Tryz.underlying5 Tryz.underlying9 (λ j hj=>by
    rw [Lib.row_is_numeral hF j hj,Lib.add_plain,World.cell?_drewN]
    exact cell?_putRow (λ (b:UInt8)=>Value.int .u8 (b.toNat:Int)) _ w.heap.size 0 _ dk HH0.out (by rw [hF.size,Array.size_replicate]) j (by rw [hF.size];rw [Lib.decDigits_length] at hj;exact hj))
   rw [Lib.decDigits_length] at h
   exact h
  go_wp2
  go_ret
  exact ⟨rfl,aPJ w (.cells Lib.zeros24 182) dk k⟩
def strconv_FormatUint.f (n b:Int):Option ByteArray:=if 0<=n/\n < 18446744073709551616/\b=10 then some ⟨(Lib.decDigits n.toNat).toArray⟩ else none
theorem strconv_FormatUint.calls (n b:Int) (r:ByteArray) (w:World) (hG:G w) (h:strconv_FormatUint.f n b=some r) :
  Calls Tryz.prog 170 #[.int .u64 n,.int .i64 b] w λ e w'=>e=.returned (.string r)/\Below w.heap.size w w':=by
 unfold strconv_FormatUint.f at h
 split at h
 ·rename_i hc
  obtain ⟨h0,h1,rfl⟩:=hc
  obtain ⟨u,rfl⟩:=Int.eq_ofNat_of_zero_le h0
  injection h with h
  rw [Int.toNat_natCast] at h
  subst h
  have hu:u < 18446744073709551616:=by omega
  clear h0 h1
  go_enter Tryz.func170,Tryz.ntmps170
  go_wp2_with (go_at_call 179;refine (aIF u hu _ hG).mono ?_;rintro e w' ⟨rfl,hb⟩)
  go_ret
  exact ⟨rfl,hb⟩
 ·cases h
end Go.Proofs.YtjefbecmeobegaaGreatDoor.X
