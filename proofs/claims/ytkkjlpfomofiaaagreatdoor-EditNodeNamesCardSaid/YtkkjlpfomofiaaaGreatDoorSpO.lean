import Derived.Test.YtkkjlpfomofiaaaGreatDoorSpQ
import Derived.Test.YtkkjlpfomofiaaaGreatDoorSh
import Derived.Test.YtkkjlpfomofiaaaGreatDoorTr1
import Derived.Lib.Join
namespace Go.Proofs.YtkkjlpfomofiaaaGreatDoor.Sp
open Go Go.RowKit Sx NatA NatB NatC NatD NatI NatJ IntZ RatZ
def aHd (q:Rat):ByteArray:=if q.den=1 then aDN q.num else aDN q.num++(⟨#[47]⟩:ByteArray)++aDN (q.den:Int)
def aJR:Fct:=R1 3000 fun q=>[s_ (aHd q)]
theorem aHe {s:Nat} {z:Int} (h:Sz s z):(aDN z).size≤3*s+2:=by
 have hd:=aKU h
 unfold aDN
 split
 ·rw [ByteArray.size_append,aAR]
  have:(⟨#[45]⟩:ByteArray).size=1:=rfl
  omega
 ·rw [aAR]
  omega
theorem aKP {d:Nat} (h:d≠0):dnc d=(⟨#[]⟩:ByteArray) ↔ d=1:=by
 unfold dnc
 split
 ·exact ⟨fun _=>‹_›,fun _=>rfl⟩
 ·rw [N_nil]
  omega
theorem g_rfmt:Sx.Good Tryz.prog X.G 52 ⟨[.agg 3],.v1 .one⟩ aJR:=aAj aQE (fun _ _=>X.G_below) 400 (by kernel_rfl) (by kernel_rfl:_=some aFJ) fun ds rs h=>by
 obtain ⟨n,a,b,rfl,ha,hb,rfl⟩:=R1.inv h
 have hq:Sq 3000 (qv n a b):=.qv (by decide) ha hb
 refine ⟨0,aAo aGu rfl rfl (R1.eq (by omega) (by omega)) rfl (aAo aFH rfl rfl (R1.eq (by omega) (by omega)) rfl (aA4 rfl (aC1 _ _ _ _) ?_))⟩
 generalize qv n a b=q at *
 have z1:=aHe hq.1
 have z2:=aHe hq.2
 unfold aHd
 refine aDu rfl (fun e=>?_) (fun e=>?_)
 ·rw [if_pos ((aKP q.den_nz).1 (of_decide_eq_true e))]
  exact aAo aEp rfl rfl (I1.can (hq.1.le (by decide))) rfl (aAl rfl)
 ·rw [if_neg fun h=>of_decide_eq_false e ((aKP q.den_nz).2 h)]
  refine aAo aEp rfl rfl (I1.can (hq.1.le (by decide))) rfl (aA4 rfl (aCa _ _ _ _ ?_) (aAo aEp rfl rfl (I1.can (hq.2.le (by decide))) rfl (aA4 rfl (aCa _ _ _ _ ?_) (aAl rfl))))
  ·have:(⟨#[47]⟩:ByteArray).size=1:=rfl
   omega
  ·have:(⟨#[47]⟩:ByteArray).size=1:=rfl
   rw [ByteArray.size_append]
   omega
end Go.Proofs.YtkkjlpfomofiaaaGreatDoor.Sp
