/- MERGED by merge.py: TrLPlaneScaling PurePlaneScaling -/
import Derived.Test.YtjefbecmeobegaaGreatDoorSx1
import Derived.Test.YtjefbecmeobegaaGreatDoorSpPa
import Derived.Test.YtjefbecmeobegaaGreatDoorSpS
namespace Go.Proofs.YtjefbecmeobegaaGreatDoor.Sp
open Go Sx
def aEk:T:=.call 37 [] 1 (.pure (.un .not) [.one (.var 9)] (.ite 10 (.ret [.const (.bool .false)]) (.call 69 [.const (.bool .false),.const (.string ⟨#[]⟩),.const (.bool .false),.const (.string ⟨#[]⟩),.const (.bool .false),.const (.string ⟨#[]⟩),.const (.bool .false),.const (.string ⟨#[]⟩)] 1 (.pure (.bin .eql 3 .true) [.one (.var 11),.one (.const (.int .i64 1))] (.ite 12 (.ret [.const (.bool .true)]) (.call 101 [.var 0,.var 1,.var 2,.var 3,.var 4,.var 5,.var 6,.var 7] 1 (.pure (.bin .eql 3 .true) [.one (.var 13),.one (.const (.int .i64 1))] (.ite 14 (.ret [.const (.bool .true)]) (.pure (.bin .eql 70 .true) [.one (.var 8),.one (.const (.int .i8 0))] (.ite 15 (.ret [.const (.bool .true)]) (.pure (.conv 70 2) [.one (.var 8)] (.call 55 [.var 16] 2 (.call 36 [.var 0,.var 1,.var 17,.var 18] 2 (.call 36 [.var 2,.var 3,.var 17,.var 18] 2 (.call 36 [.var 4,.var 5,.var 17,.var 18] 2 (.call 36 [.var 6,.var 7,.var 17,.var 18] 2 (.call 40 [.var 0,.var 1,.var 2,.var 3,.var 4,.var 5,.var 6,.var 7] 9 (.call 40 [.var 19,.var 20,.var 21,.var 22,.var 23,.var 24,.var 25,.var 26] 9 (.pure (.un .not) [.one (.var 35)] (.ite 45 (.pure (.bin .eql 4 .false) [.one (.var 35),.one (.var 44)] (.ret [.var 46])) (.pure (.un .not) [.one (.var 44)] (.ite 46 (.pure (.bin .eql 4 .false) [.one (.var 35),.one (.var 44)] (.ret [.var 47])) (.pure (.bin .lss 70 .true) [.one (.var 8),.one (.const (.int .i8 0))] (.ite 47 (.call 51 [.var 36,.var 37,.var 38,.var 39,.var 40,.var 41,.var 42,.var 43] 8 (.pure (.bin .eql 53 .false) [.agg [.var 48,.var 49,.var 50,.var 51,.var 52,.var 53,.var 54,.var 55],.agg [.var 27,.var 28,.var 29,.var 30,.var 31,.var 32,.var 33,.var 34]] (.ret [.var 56]))) (.pure (.bin .eql 53 .false) [.agg [.var 36,.var 37,.var 38,.var 39,.var 40,.var 41,.var 42,.var 43],.agg [.var 27,.var 28,.var 29,.var 30,.var 31,.var 32,.var 33,.var 34]] (.ret [.var 48]))))))))))))))))))))))))))
end Go.Proofs.YtjefbecmeobegaaGreatDoor.Sp
namespace Go.Proofs.YtjefbecmeobegaaGreatDoor.Sp
open Go Go.RowKit Sx NatA NatB NatC NatD NatI NatJ IntZ RatZ PtZ PlZ
def tbL5:Tb:=[(36,aAd),(55,F_ifrom),(51,aFF)]++aQI
theorem okL5:TbOk Tryz.prog X.G tbL5:=(.cons (by kernel_rfl) aP6 (.cons (by kernel_rfl) aNj (.cons (by kernel_rfl) g_lflip okLb)))
def aQV:Fct
 | [.v (.bool _),.v (.string _),.v (.bool _),.v (.string _),.v (.bool _),.v (.string _),.v (.bool _),.v (.string _),.v (.int .i8 k)]=>if (Lit.int .i8 k).wf=true then some [b_ true] else none
 | _=>none
theorem wf_i8 {k:Int} (h:(Lit.int .i8 k).wf=true):-128≤k∧k≤127:=by
 unfold Lit.wf at h
 rw [Bool.and_eq_true,decide_eq_true_iff,decide_eq_true_iff] at h
 have h1:IntKind.i8.min=-128:=by decide
 have h2:IntKind.i8.max=127:=by decide
 omega
theorem aQW:Tryz.prog.underlying 70=some (.int .i8):=(by kernel_rfl)
theorem aMm {k:Int} (hk:k < 0) (p:Z4):plz (aCP k p)=(aC6 (plz p).1,(plz p).2):=by
 have e:aCP k p=aCP (-k) (aC6 p):=by
  unfold aCP aC6
  simp only [Int.neg_mul_neg]
 rw [e,aFu (by omega),aNf]
set_option maxHeartbeats 4000000 in
theorem g_PlaneScaling:Sx.Good Tryz.prog X.G 12 ⟨[.agg 8,.one],.v1 .one⟩ aQV:=aAf okL5 (fun _ _=>X.G_below) 400 (by kernel_rfl) (by kernel_rfl:_=some aEk) fun ds rs h=>by
 unfold aQV at h
 split at h
 ·rename_i n1 a1 n2 a2 n3 a3 n4 a4 k
  split at h
  ·rename_i hw
   obtain rfl:=Option.some.inj h
   obtain ⟨r1,r2⟩:=wf_i8 hw
   clear h hw
   refine ⟨0,?_⟩
   refine gC aEW awk (gP (aBs true) (aA7 (b:=!true) (by kernel_rfl) rfl ?_))
   refine gC aBg aOm (gP (aA9 _ _ .i64 0 1) (aA7 (b:=(0:Int) == 1) (by kernel_rfl) rfl ?_))
   rcases aGD n1 a1 n2 a2 n3 a3 n4 a4 with g1 | ⟨g1,i0⟩
   ·exact gC aBg g1 (gP (aA9 _ _ .i64 1 1) (aDK (b:=(1:Int) == 1) (by kernel_rfl) rfl (aAb (by kernel_rfl))))
   refine gC aBg g1 (gP (aA9 _ _ .i64 0 1) (aA7 (b:=(0:Int) == 1) (by kernel_rfl) rfl ?_))
   clear g1
   refine gP (aA9 _ _ .i8 k 0) (aAr (b:=k == 0) (by kernel_rfl) (fun _=>aAb (by kernel_rfl)) (fun hk=>?_))
   have hk:k≠0:=by simpa using hk
   obtain ⟨j1,j2,j3,j4⟩:=aQK i0
   obtain ⟨x,hx⟩:∃ v,v=Z n1 a1:=⟨_,rfl⟩
   have Ix:ZI 6 x [b_ n1,s_ a1]:=by rw [hx];exact ZI.raw n1 j1
   obtain ⟨y,hy⟩:∃ v,v=Z n2 a2:=⟨_,rfl⟩
   have Iy:ZI 6 y [b_ n2,s_ a2]:=by rw [hy];exact ZI.raw n2 j2
   obtain ⟨z,hz⟩:∃ v,v=Z n3 a3:=⟨_,rfl⟩
   have Iz:ZI 6 z [b_ n3,s_ a3]:=by rw [hz];exact ZI.raw n3 j3
   obtain ⟨w,hw⟩:∃ v,v=Z n4 a4:=⟨_,rfl⟩
   have Iw:ZI 6 w [b_ n4,s_ a4]:=by rw [hw];exact ZI.raw n4 j4
   have n0:aAv [b_ n1,s_ a1,b_ n2,s_ a2,b_ n3,s_ a3,b_ n4,s_ a4]=some (aBG (plz (x,y,z,w))):=by rw [hx,hy,hz,hw];exact aEj i0 (by decide)
   clear i0 hx hy hz hw
   have cv:(Pu.conv 70 2).run Tryz.prog [.one (.v (.int .i8 k))]=some (i_ k):=by
    rw [aCD aEp .i8 k aQW,IntKind.wrap_i64]
    have:(k+9223372036854775808) % 18446744073709551616 - 9223372036854775808=k:=by omega
    rw [this]
   have f0:F_ifrom [i_ k]=some (enc k):=F_ifrom.eq (by omega) (by omega)
   have sk:Sz 8 k:=aQ4 (by omega) (by omega) (by decide)
   obtain ⟨mx,qx⟩:∃ v,v=k*x:=⟨_,rfl⟩
   have tx:Sz 14 mx:=by rw [qx];exact (sk.mul Ix.sz)
   have cx:aAd ([b_ n1,s_ a1]++enc k)=some (enc mx):=by rw [qx,Int.mul_comm];exact I2.at Ix (ZI.can sk) (by decide) (by decide)
   obtain ⟨my,qy⟩:∃ v,v=k*y:=⟨_,rfl⟩
   have ty:Sz 14 my:=by rw [qy];exact (sk.mul Iy.sz)
   have cy:aAd ([b_ n2,s_ a2]++enc k)=some (enc my):=by rw [qy,Int.mul_comm];exact I2.at Iy (ZI.can sk) (by decide) (by decide)
   obtain ⟨mz,qz⟩:∃ v,v=k*z:=⟨_,rfl⟩
   have tz:Sz 14 mz:=by rw [qz];exact (sk.mul Iz.sz)
   have cz:aAd ([b_ n3,s_ a3]++enc k)=some (enc mz):=by rw [qz,Int.mul_comm];exact I2.at Iz (ZI.can sk) (by decide) (by decide)
   obtain ⟨mw,qw⟩:∃ v,v=k*w:=⟨_,rfl⟩
   have tw:Sz 14 mw:=by rw [qw];exact (sk.mul Iw.sz)
   have cw:aAd ([b_ n4,s_ a4]++enc k)=some (enc mw):=by rw [qw,Int.mul_comm];exact I2.at Iw (ZI.can sk) (by decide) (by decide)
   have hq:(mx,my,mz,mw)=aCP k (x,y,z,w):=by rw [qx,qy,qz,qw];rfl
   have m0:aAv (enc4 (mx,my,mz,mw))=some (aBG (plz (mx,my,mz,mw))):=aEj (PI.can ⟨tx,ty,tz,tw⟩) (by decide)
   rw [hq] at m0
   have m0:aAv (enc mx++(enc my++(enc mz++enc mw)))=some (aBG (plz (aCP k (x,y,z,w)))):=by rw [← m0,← hq]
   have S0:S4 6 (x,y,z,w):=⟨Ix.sz,Iy.sz,Iz.sz,Iw.sz⟩
   have hn:=fun h:k < 0=>aMm h (x,y,z,w)
   have hp:=fun h:0 < k=>aFu h (x,y,z,w)
   clear hq qx qy qz qw
   generalize aCP k (x,y,z,w)=M at *
   refine aAe (by kernel_rfl) cv (gC F_ifrom f0 (gC aAd cx (gC aAd cy (gC aAd cz (gC aAd cw ?_)))))
   rcases aFA (x,y,z,w) with e0 | ⟨q,e0⟩
   ·rw [e0] at n0 hn hp
    have hM:plz M=((0,0,0,0),false):=by
     rcases Int.lt_or_gt_of_ne hk with h | h
     ·rw [hn h];rfl
     ·exact hp h
    rw [hM] at m0
    rw [aDx] at n0 m0
    exact gC aAv n0 (gC aAv m0 (gP (aBs false) (aDK (b:=!false) (by kernel_rfl) rfl (gP (aJk _ _ false false aAE) (aAb (by kernel_rfl))))))
   rw [e0] at n0 hn hp
   have n0:aAv [b_ n1,s_ a1,b_ n2,s_ a2,b_ n3,s_ a3,b_ n4,s_ a4]=some (enc4 q++[b_ true]):=n0
   have Sq:S4 6 q:=aGC S0 e0
   clear e0 S0
   rcases Int.lt_or_gt_of_ne hk with h | h
   ·rw [hn h] at m0
    obtain ⟨f,hf⟩:∃ f,f=aC6 q:=⟨_,rfl⟩
    have m0:aAv (enc mx++(enc my++(enc mz++enc mw)))=some (enc4 f++[b_ true]):=by rw [hf];exact m0
    have k1:aFF (enc4 f)=some (enc4 q):=by rw [aQF (s:=6) (PI.can (by rw [hf];exact S4.neg Sq)) (by decide),hf,aP2]
    refine gC aAv n0 (gC aAv m0 (gP (aBs true) (aA7 (b:=!true) (by kernel_rfl) rfl (gP (aBs true) (aA7 (b:=!true) (by kernel_rfl) rfl ?_)))))
    refine gP (aAh _ _ .i8 k 0) (aDK (b:=decide (k < 0)) (by kernel_rfl) (decide_eq_true h) (gC aFF k1 (aAe (by kernel_rfl) (aEA _ q q) ?_)))
    rw [decide_eq_true (rfl:q=q)]
    exact aAb (by kernel_rfl)
   ·rw [hp h] at m0
    have m0:aAv (enc mx++(enc my++(enc mz++enc mw)))=some (enc4 q++[b_ true]):=m0
    refine gC aAv n0 (gC aAv m0 (gP (aBs true) (aA7 (b:=!true) (by kernel_rfl) rfl (gP (aBs true) (aA7 (b:=!true) (by kernel_rfl) rfl ?_)))))
    refine gP (aAh _ _ .i8 k 0) (aA7 (b:=decide (k < 0)) (by kernel_rfl) (decide_eq_false (by omega)) (aAe (by kernel_rfl) (aEA _ q q) ?_))
    rw [decide_eq_true (rfl:q=q)]
    exact aAb (by kernel_rfl)
  ·cases h
 ·cases h
theorem calls_PlaneScaling {k:Int} (hr:(Lit.int .i8 k).wf=true) {cs:List Value} (hk:oks kP cs=true) {W:World} (hw:X.G W) :
  Calls Tryz.prog 12 (blds [.agg 8,.one] (cs++[.int .i8 k])).toArray W fun e w'=>e=.returned (.bool true)∧Below W.heap.size W w':=by
 have hk':oks (kP++[]) cs=true:=hk
 obtain ⟨n1,a1,n2,a2,n3,a3,n4,a4,r,rfl,h1⟩:=aKL hk'
 obtain rfl:=aNn h1
 have hF:aQV ((([.bool n1,.string a1,.bool n2,.string a2,.bool n3,.string a3,.bool n4,.string a4]++[]++[.int .i8 k]:List Value)).map D.v)=some [b_ true]:=by
  show (if (Lit.int .i8 k).wf=true then some [b_ true] else none)=_
  exact if_pos hr
 exact aIY g_PlaneScaling hF rfl rfl hw
end Go.Proofs.YtjefbecmeobegaaGreatDoor.Sp
