import Derived.Test.YtkkjlpfomofiaaaGreatDoorNatJ
import Derived.Lib.SlTrimSet
namespace Go.Proofs.YtkkjlpfomofiaaaGreatDoor.NatN
open Go Go.RowKit YtkkjlpfomofiaaaGreatDoorW.PrintWords YtkkjlpfomofiaaaGreatDoorW.PrintLast P NatA NatB NatC NatD NatI NatJ
def dig (c:UInt8):Bool:=decide (48≤c.toNat) && decide (c.toNat≤57)
def dv (l:List UInt8):Nat:=l.foldl (fun n c=>10*n+(c.toNat - 48)) 0
theorem aFE (l:List UInt8) (c:UInt8):dv (l++[c])=10*dv l+(c.toNat - 48):=by unfold dv;rw [List.foldl_append];rfl
theorem aEo (c:UInt8):dig c=true ↔ 48≤c.toNat∧c.toNat≤57:=by unfold dig;rw [Bool.and_eq_true,decide_eq_true_iff,decide_eq_true_iff]
def num (l:List UInt8):Bool:=!l.isEmpty && l.all dig && (decide (l.length≤1) || l.head? != some 48)
theorem aFF {d:Nat} (h:d < 10):(UInt8.ofNat (48+d)).toNat=48+d:=by rw [UInt8.toNat_ofNat'];omega
theorem aHF (n:Nat):(Lib.decDigits n).all dig=true:=by
 induction n using Nat.strongRecOn with
 | _ n ih =>
  rw [Lib.decDigits]
  split
  ·rename_i h
   simp only [List.all_cons,List.all_nil,Bool.and_true]
   rw [aEo,aFF h]
   omega
  ·rw [List.all_append,ih (n / 10) (by omega)]
   simp only [List.all_cons,List.all_nil,Bool.and_true,Bool.true_and]
   rw [aEo,aFF (Nat.mod_lt _ (by decide))]
   omega
theorem aMT (n:Nat):dv (Lib.decDigits n)=n:=by
 induction n using Nat.strongRecOn with
 | _ n ih =>
  rw [Lib.decDigits]
  split
  ·rename_i h
   have:=aFE [] (UInt8.ofNat (48+n))
   rw [List.nil_append,aFF h] at this
   rw [this]
   simp [dv]
  ·rw [aFE,ih (n / 10) (by omega),aFF (Nat.mod_lt _ (by decide))]
   omega
theorem aMU (n:Nat):Lib.decDigits n≠[]:=fun e=>by
 have h:=Lib.decDigits_length n
 have h1:=Lib.nDigits_pos n
 rw [e,List.length_nil] at h
 omega
theorem aPm {P:List UInt8→Prop} (h0:P []) (h1:∀ l c,P l→P (l++[c])) (l:List UInt8):P l:=by
 have:∀ n,∀ l:List UInt8,l.length=n→P l:=fun n=>by
  induction n with
  | zero=>intro l h;rw [List.length_eq_zero_iff.1 h];exact h0
  | succ n ih =>
   intro l h
   have hne:l≠[]:=fun e=>by rw [e] at h;cases h
   rw [← List.dropLast_concat_getLast hne]
   exact h1 _ _ (ih _ (by rw [List.length_dropLast];omega))
 exact this _ l rfl
theorem aO6 (l:List UInt8):l.all dig=true→dv l < 10 ^ l.length:=by
 refine aPm (P:=fun l=>l.all dig=true→dv l < 10 ^ l.length) (fun _=>by simp [dv]) (fun l c ih hd=>?_) l
 rw [List.all_append,Bool.and_eq_true] at hd
 have hc:dig c=true:=by simpa using hd.2
 rw [aEo] at hc
 have:=ih hd.1
 rw [aFE,List.length_append,List.length_singleton,Nat.pow_succ]
 omega
def L (s:ByteArray):List UInt8:=s.data.toList
theorem aAs (s:ByteArray):(L s).length=s.size:=Array.length_toList
theorem aPY (s:ByteArray) (i:Nat) (h:i < s.size):(L s).take (i+1)=(L s).take i++[(L s)[i]'(by rw [aAs];exact h)]:=by
 rw [List.take_succ_eq_append_getElem (by rw [aAs];exact h)]
end Go.Proofs.YtkkjlpfomofiaaaGreatDoor.NatN
