import Derived.Test.YtjefbecmeobegaaGreatDoorSpA
import Derived.Test.YtjefbecmeobegaaGreatDoorSpC
namespace Go.Proofs.YtjefbecmeobegaaGreatDoor.Sp
open Go Go.RowKit Sx NatA NatB NatC NatD NatI NatJ IntZ RatZ PtZ
set_option maxHeartbeats 2000000 in
theorem g_alive:Sx.Good Tryz.prog X.G 16 ⟨[],.v1 .one⟩ aEP:=aAd (TbOk.app aTU okB6) (fun _ _=>X.G_below) 400 (by kernel_rfl) (by kernel_rfl:_=some aE7) fun ds rs h=>by
 unfold aEP at h
 split at h
 ·obtain rfl:=Option.some.inj h
  obtain ⟨q12,hq12⟩:∃ q,q=Rat.divInt 1 2:=⟨_,rfl⟩
  have r12:RI 1 q12 [b_ false,s_ (⟨#[1]⟩:ByteArray),s_ (⟨#[2]⟩:ByteArray)]:=by rw [hq12];exact aMc (x:=1) (y:=2) (by decide) (by decide) (by decide) (by decide) (by decide)
  have sq12:Sq 1 q12:=r12.sq (by decide)
  obtain ⟨q13,hq13⟩:∃ q,q=Rat.divInt 1 3:=⟨_,rfl⟩
  have r13:RI 1 q13 [b_ false,s_ (⟨#[1]⟩:ByteArray),s_ (⟨#[3]⟩:ByteArray)]:=by rw [hq13];exact aMc (x:=1) (y:=3) (by decide) (by decide) (by decide) (by decide) (by decide)
  have sq13:Sq 1 q13:=r13.sq (by decide)
  obtain ⟨q11,hq11⟩:∃ q,q=Rat.divInt 1 1:=⟨_,rfl⟩
  have r11:RI 1 q11 [b_ false,s_ (⟨#[1]⟩:ByteArray),s_ (⟨#[]⟩:ByteArray)]:=by rw [hq11];exact aMd (x:=1) (by decide) (by decide)
  have sq11:Sq 1 q11:=r11.sq (by decide)
  obtain ⟨q21,hq21⟩:∃ q,q=Rat.divInt 2 1:=⟨_,rfl⟩
  have r21:RI 1 q21 [b_ false,s_ (⟨#[2]⟩:ByteArray),s_ (⟨#[]⟩:ByteArray)]:=by rw [hq21];exact aMd (x:=2) (by decide) (by decide)
  have sq21:Sq 1 q21:=r21.sq (by decide)
  obtain ⟨q31,hq31⟩:∃ q,q=Rat.divInt 3 1:=⟨_,rfl⟩
  have r31:RI 1 q31 [b_ false,s_ (⟨#[3]⟩:ByteArray),s_ (⟨#[]⟩:ByteArray)]:=by rw [hq31];exact aMd (x:=3) (by decide) (by decide)
  have sq31:Sq 1 q31:=r31.sq (by decide)
  obtain ⟨q01,hq01⟩:∃ q,q=Rat.divInt 0 1:=⟨_,rfl⟩
  have r0:RI 1 q01 [b_ false,s_ (⟨#[]⟩:ByteArray),s_ (⟨#[]⟩:ByteArray)]:=by rw [hq01,← aT1];exact .raw false (by decide) (by decide)
  have sq01:Sq 1 q01:=r0.sq (by decide)
  have k1:aAN ([b_ false,s_ (⟨#[1]⟩:ByteArray),s_ (⟨#[2]⟩:ByteArray)]++([b_ false,s_ (⟨#[1]⟩:ByteArray),s_ (⟨#[3]⟩:ByteArray)]++[b_ false,s_ (⟨#[]⟩:ByteArray),s_ (⟨#[]⟩:ByteArray)]))=some (aAB (q12,q13,q01)):=aGC (VI.mk r12 r13 r0) (by decide)
  have k2:aAN ([b_ false,s_ (⟨#[]⟩:ByteArray),s_ (⟨#[]⟩:ByteArray)]++([b_ false,s_ (⟨#[]⟩:ByteArray),s_ (⟨#[]⟩:ByteArray)]++[b_ false,s_ (⟨#[]⟩:ByteArray),s_ (⟨#[]⟩:ByteArray)]))=some (aAB (q01,q01,q01)):=aGC (VI.mk r0 r0 r0) (by decide)
  have k3:aAN ([b_ false,s_ (⟨#[1]⟩:ByteArray),s_ (⟨#[]⟩:ByteArray)]++([b_ false,s_ (⟨#[2]⟩:ByteArray),s_ (⟨#[]⟩:ByteArray)]++[b_ false,s_ (⟨#[3]⟩:ByteArray),s_ (⟨#[]⟩:ByteArray)]))=some (aAB (q11,q21,q31)):=aGC (VI.mk r11 r21 r31) (by decide)
  have s2:Sv 1 (q01,q01,q01):=⟨sq01,sq01,sq01⟩
  have s3:Sv 1 (q11,q21,q31):=⟨sq11,sq21,sq31⟩
  have k4:aCC (aAB (q01,q01,q01)++(aAB (q11,q21,q31)++[b_ false,s_ (⟨#[1]⟩:ByteArray),s_ (⟨#[2]⟩:ByteArray)]))=some (aAB (vmid (q01,q01,q01) (q11,q21,q31) q12)):=aMf (PA.can s2) (PA.can s3) r12 (by decide) (by decide) (by decide)
  have s4:Sv 6 (vmid (q01,q01,q01) (q11,q21,q31) q12):=(Sv.vmid s2 s3 sq12).le (by decide)
  have k5:aDo (aAB (vmid (q01,q01,q01) (q11,q21,q31) q12))=some [s_ (aCb (vmid (q01,q01,q01) (q11,q21,q31) q12))]:=aNh (PA.can s4) (by decide)
  have ht:aCb (vmid (q01,q01,q01) (q11,q21,q31) q12)=(⟨#[40,49,47,50,44,32,49,44,32,51,47,50,41]⟩:ByteArray):=by rw [hq01,hq11,hq21,hq31,hq12,aPu];exact aOd
  rw [ht] at k5
  have hp:pt (q12,q13,q01)=(3,2,0,6):=by rw [hq12,hq13,hq01];exact aQs
  have k6:(Pu.bin .eql 25 false).run Tryz.prog [.agg (aAB (q12,q13,q01)),.agg ([b_ false,s_ (⟨#[3]⟩:ByteArray)]++([b_ false,s_ (⟨#[2]⟩:ByteArray)]++([b_ false,s_ (⟨#[]⟩:ByteArray)]++[b_ false,s_ (⟨#[6]⟩:ByteArray)])))]=some (b_ true):=by
   have e:=eq_4 false (pt (q12,q13,q01)) (3,2,0,6)
   rw [decide_eq_true hp] at e
   have e1:enc4 (3,2,0,6)=enc 3++(enc 2++(enc 0++enc 6)):=rfl
   have e3:enc 3=[b_ false,s_ (⟨#[3]⟩:ByteArray)]:=aH4 (n:=3) (by decide) (N_V (.inr (by decide)))
   have e2:enc 2=[b_ false,s_ (⟨#[2]⟩:ByteArray)]:=aH4 (n:=2) (by decide) (N_V (.inr (by decide)))
   have e6:enc 6=[b_ false,s_ (⟨#[6]⟩:ByteArray)]:=aH4 (n:=6) (by decide) (N_V (.inr (by decide)))
   rw [e1,aSo,e3,e2,e6] at e
   exact e
  clear hq12 hq13 hq11 hq21 hq31 hq01 hp ht
  generalize vmid (q01,q01,q01) (q11,q21,q31) q12=mid at *
  have e1:aAB (q12,q13,q01)=enc4 (pt (q12,q13,q01)):=rfl
  have e2:aAB (q01,q01,q01)=enc4 (pt (q01,q01,q01)):=rfl
  have e3:aAB (q11,q21,q31)=enc4 (pt (q11,q21,q31)):=rfl
  have e4:aAB mid=enc4 (pt mid):=rfl
  rw [e1] at k1 k6
  rw [e2] at k2 k4
  rw [e3] at k3 k4
  rw [e4] at k4 k5
  generalize pt (q12,q13,q01)=P1 at *
  generalize pt (q01,q01,q01)=P2 at *
  generalize pt (q11,q21,q31)=P3 at *
  generalize pt mid=P4 at *
  have k7:(Pu.bin .eql 9 true).run Tryz.prog [.one (s_ (⟨#[40,49,47,50,44,32,49,44,32,51,47,50,41]⟩:ByteArray)),.one (s_ (⟨#[40,49,47,50,44,32,49,44,32,51,47,50,41]⟩:ByteArray))]=some (b_ true):=by rw [aBN,decide_eq_true rfl]
  refine ⟨0,?_⟩
  refine gC (aBV Tryz.prog) aFk (gC (aBV Tryz.prog) aJh (gC (aDS Tryz.prog) aNi (gC (aBV Tryz.prog) aFk (gC (aBV Tryz.prog) aMh (gC (aDS Tryz.prog) aSr (gC aAN k1 (gC aAN k2 ?_)))))))
  refine gC (aBV Tryz.prog) aFk (gC (aBV Tryz.prog) aFk (gC (aDS Tryz.prog) aSs (gC (aBV Tryz.prog) aJh (gC (aBV Tryz.prog) aFk (gC (aDS Tryz.prog) aSt (gC (aBV Tryz.prog) aMh (gC (aBV Tryz.prog) aFk (gC (aDS Tryz.prog) aSu (gC aAN k3 ?_)))))))))
  refine gC (aBV Tryz.prog) aFk (gC (aBV Tryz.prog) aJh (gC (aDS Tryz.prog) aNi (gC aCC k4 (gC (aBV Tryz.prog) aMh (gC (aBV Tryz.prog) aJh (gC (aBV Tryz.prog) aT2 ?_))))))
  exact aAe (by kernel_rfl) k6 (aBj (by kernel_rfl) (gC aDo k5 (aAe (by kernel_rfl) k7 (aAc (by kernel_rfl)))))
 ·cases h
def aQr (P:Program):Tb:=[(16,aEP),(69,aCa),(18,aCB),(55,aBV P),(81,aDS P)]++tbB6
theorem okL1:TbOk Tryz.prog X.G (aQr Tryz.prog):=.cons (by kernel_rfl) g_alive (.cons (by kernel_rfl) g_great (.cons (by kernel_rfl) g_wide (.cons (by kernel_rfl) aQ6 (.cons (by kernel_rfl) run_make okB6))))
end Go.Proofs.YtjefbecmeobegaaGreatDoor.Sp
