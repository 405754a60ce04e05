/- MERGED by merge.py: TrLPlaneOffsets PurePlaneOffsets -/
import Derived.Test.YtjefbecmeobegaaGreatDoorSx1
import Derived.Test.YtjefbecmeobegaaGreatDoorSpPq
import Derived.Test.YtjefbecmeobegaaGreatDoorSpPa
namespace Go.Proofs.YtjefbecmeobegaaGreatDoor.Sp
open Go Sx
def aE0:T:=.call 37 [] 1 (.pure (.un .not) [.one (.var 19)] (.ite 20 (.ret [.const (.bool .false)]) (.call 69 [.var 8,.var 9,.var 10,.var 11,.var 12,.var 13,.var 14,.var 15] 1 (.pure (.bin .eql 3 .true) [.one (.var 21),.one (.const (.int .i64 1))] (.ite 22 (.ret [.const (.bool .true)]) (.call 101 [.var 0,.var 1,.var 2,.var 3,.var 4,.var 5,.var 6,.var 7] 1 (.pure (.bin .eql 3 .true) [.one (.var 23),.one (.const (.int .i64 1))] (.ite 24 (.ret [.const (.bool .true)]) (.pure (.blt .len 9) [.one (.var 17)] (.pure (.bin .gtr 3 .true) [.one (.var 25),.one (.const (.int .i64 6))] (.ite 26 (.ret [.const (.bool .true)]) (.pure (.blt .len 9) [.one (.var 18)] (.pure (.bin .gtr 3 .true) [.one (.var 27),.one (.const (.int .i64 6))] (.ite 28 (.ret [.const (.bool .true)]) (.call 41 [.var 0,.var 1,.var 2,.var 3,.var 4,.var 5,.var 6,.var 7] 9 (.pure (.un .not) [.one (.var 37)] (.ite 38 (.ret [.const (.bool .true)]) (.call 58 [.var 16,.var 17,.var 18] 3 (.call 20 [.var 8,.var 9,.var 10,.var 11,.var 12,.var 13,.var 14,.var 15] 8 (.call 61 [.var 29,.var 30,.var 31,.var 32,.var 33,.var 34,.var 35,.var 36,.var 42,.var 43,.var 44,.var 45,.var 46,.var 47,.var 48,.var 49] 8 (.call 63 [.var 29,.var 30,.var 31,.var 32,.var 33,.var 34,.var 35,.var 36,.var 39,.var 40,.var 41] 8 (.call 59 [.var 29,.var 30,.var 31,.var 32,.var 33,.var 34,.var 35,.var 36] 2 (.call 22 [.var 50,.var 51,.var 52,.var 53,.var 54,.var 55,.var 56,.var 57] 9 (.ite 67 (.isk 66 0 (.call 65 [.var 68,.var 69,.var 70,.var 39,.var 40,.var 41] 3 (.call 67 [.var 39,.var 40,.var 41] 3 (.call 63 [.var 58,.var 59,.var 60,.var 61,.var 62,.var 63,.var 64,.var 65,.var 80,.var 81,.var 82] 8 (.pure (.bin .eql 53 .false) [.agg [.var 83,.var 84,.var 85,.var 86,.var 87,.var 88,.var 89,.var 90],.agg [.var 29,.var 30,.var 31,.var 32,.var 33,.var 34,.var 35,.var 36]] (.ite 91 (.call 26 [.var 77,.var 78,.var 79,.var 71,.var 72,.var 73,.var 74,.var 75,.var 76] 8 (.call 52 [.var 58,.var 59,.var 60,.var 61,.var 62,.var 63,.var 64,.var 65,.var 92,.var 93,.var 94,.var 95,.var 96,.var 97,.var 98,.var 99] 1 (.pure (.bin .eql 3 .true) [.one (.var 100),.one (.const (.int .i64 0))] (.ite 101 (.call 52 [.var 58,.var 59,.var 60,.var 61,.var 62,.var 63,.var 64,.var 65,.var 50,.var 51,.var 52,.var 53,.var 54,.var 55,.var 56,.var 57] 1 (.call 68 [.var 39,.var 40,.var 41] 1 (.pure (.un .neg) [.one (.var 103)] (.pure (.bin .eql 3 .false) [.one (.var 102),.one (.var 104)] (.ite 105 (.call 51 [.var 29,.var 30,.var 31,.var 32,.var 33,.var 34,.var 35,.var 36] 8 (.call 67 [.var 39,.var 40,.var 41] 3 (.call 63 [.var 106,.var 107,.var 108,.var 109,.var 110,.var 111,.var 112,.var 113,.var 114,.var 115,.var 116] 8 (.call 51 [.var 58,.var 59,.var 60,.var 61,.var 62,.var 63,.var 64,.var 65] 8 (.pure (.bin .eql 53 .false) [.agg [.var 117,.var 118,.var 119,.var 120,.var 121,.var 122,.var 123,.var 124],.agg [.var 125,.var 126,.var 127,.var 128,.var 129,.var 130,.var 131,.var 132]] (.ret [.var 133])))))) (.ret [.const (.bool .false)])))))) (.ret [.const (.bool .false)]))))) (.ret [.const (.bool .false)])))))) (.isk 66 1 (.call 65 [.var 71,.var 72,.var 73,.var 39,.var 40,.var 41] 3 (.call 67 [.var 39,.var 40,.var 41] 3 (.call 63 [.var 58,.var 59,.var 60,.var 61,.var 62,.var 63,.var 64,.var 65,.var 80,.var 81,.var 82] 8 (.pure (.bin .eql 53 .false) [.agg [.var 83,.var 84,.var 85,.var 86,.var 87,.var 88,.var 89,.var 90],.agg [.var 29,.var 30,.var 31,.var 32,.var 33,.var 34,.var 35,.var 36]] (.ite 91 (.call 26 [.var 68,.var 69,.var 70,.var 77,.var 78,.var 79,.var 74,.var 75,.var 76] 8 (.call 52 [.var 58,.var 59,.var 60,.var 61,.var 62,.var 63,.var 64,.var 65,.var 92,.var 93,.var 94,.var 95,.var 96,.var 97,.var 98,.var 99] 1 (.pure (.bin .eql 3 .true) [.one (.var 100),.one (.const (.int .i64 0))] (.ite 101 (.call 52 [.var 58,.var 59,.var 60,.var 61,.var 62,.var 63,.var 64,.var 65,.var 50,.var 51,.var 52,.var 53,.var 54,.var 55,.var 56,.var 57] 1 (.call 68 [.var 39,.var 40,.var 41] 1 (.pure (.un .neg) [.one (.var 103)] (.pure (.bin .eql 3 .false) [.one (.var 102),.one (.var 104)] (.ite 105 (.call 51 [.var 29,.var 30,.var 31,.var 32,.var 33,.var 34,.var 35,.var 36] 8 (.call 67 [.var 39,.var 40,.var 41] 3 (.call 63 [.var 106,.var 107,.var 108,.var 109,.var 110,.var 111,.var 112,.var 113,.var 114,.var 115,.var 116] 8 (.call 51 [.var 58,.var 59,.var 60,.var 61,.var 62,.var 63,.var 64,.var 65] 8 (.pure (.bin .eql 53 .false) [.agg [.var 117,.var 118,.var 119,.var 120,.var 121,.var 122,.var 123,.var 124],.agg [.var 125,.var 126,.var 127,.var 128,.var 129,.var 130,.var 131,.var 132]] (.ret [.var 133])))))) (.ret [.const (.bool .false)])))))) (.ret [.const (.bool .false)]))))) (.ret [.const (.bool .false)])))))) (.isk 66 2 (.call 65 [.var 74,.var 75,.var 76,.var 39,.var 40,.var 41] 3 (.call 67 [.var 39,.var 40,.var 41] 3 (.call 63 [.var 58,.var 59,.var 60,.var 61,.var 62,.var 63,.var 64,.var 65,.var 80,.var 81,.var 82] 8 (.pure (.bin .eql 53 .false) [.agg [.var 83,.var 84,.var 85,.var 86,.var 87,.var 88,.var 89,.var 90],.agg [.var 29,.var 30,.var 31,.var 32,.var 33,.var 34,.var 35,.var 36]] (.ite 91 (.call 26 [.var 68,.var 69,.var 70,.var 71,.var 72,.var 73,.var 77,.var 78,.var 79] 8 (.call 52 [.var 58,.var 59,.var 60,.var 61,.var 62,.var 63,.var 64,.var 65,.var 92,.var 93,.var 94,.var 95,.var 96,.var 97,.var 98,.var 99] 1 (.pure (.bin .eql 3 .true) [.one (.var 100),.one (.const (.int .i64 0))] (.ite 101 (.call 52 [.var 58,.var 59,.var 60,.var 61,.var 62,.var 63,.var 64,.var 65,.var 50,.var 51,.var 52,.var 53,.var 54,.var 55,.var 56,.var 57] 1 (.call 68 [.var 39,.var 40,.var 41] 1 (.pure (.un .neg) [.one (.var 103)] (.pure (.bin .eql 3 .false) [.one (.var 102),.one (.var 104)] (.ite 105 (.call 51 [.var 29,.var 30,.var 31,.var 32,.var 33,.var 34,.var 35,.var 36] 8 (.call 67 [.var 39,.var 40,.var 41] 3 (.call 63 [.var 106,.var 107,.var 108,.var 109,.var 110,.var 111,.var 112,.var 113,.var 114,.var 115,.var 116] 8 (.call 51 [.var 58,.var 59,.var 60,.var 61,.var 62,.var 63,.var 64,.var 65] 8 (.pure (.bin .eql 53 .false) [.agg [.var 117,.var 118,.var 119,.var 120,.var 121,.var 122,.var 123,.var 124],.agg [.var 125,.var 126,.var 127,.var 128,.var 129,.var 130,.var 131,.var 132]] (.ret [.var 133])))))) (.ret [.const (.bool .false)])))))) (.ret [.const (.bool .false)]))))) (.ret [.const (.bool .false)])))))) .fail))) (.isk 66 0 (.call 66 [.var 68,.var 69,.var 70,.var 39,.var 40,.var 41] 3 (.call 67 [.var 39,.var 40,.var 41] 3 (.call 63 [.var 58,.var 59,.var 60,.var 61,.var 62,.var 63,.var 64,.var 65,.var 80,.var 81,.var 82] 8 (.pure (.bin .eql 53 .false) [.agg [.var 83,.var 84,.var 85,.var 86,.var 87,.var 88,.var 89,.var 90],.agg [.var 29,.var 30,.var 31,.var 32,.var 33,.var 34,.var 35,.var 36]] (.ite 91 (.call 26 [.var 77,.var 78,.var 79,.var 71,.var 72,.var 73,.var 74,.var 75,.var 76] 8 (.call 52 [.var 58,.var 59,.var 60,.var 61,.var 62,.var 63,.var 64,.var 65,.var 92,.var 93,.var 94,.var 95,.var 96,.var 97,.var 98,.var 99] 1 (.pure (.bin .eql 3 .true) [.one (.var 100),.one (.const (.int .i64 0))] (.ite 101 (.call 52 [.var 58,.var 59,.var 60,.var 61,.var 62,.var 63,.var 64,.var 65,.var 50,.var 51,.var 52,.var 53,.var 54,.var 55,.var 56,.var 57] 1 (.call 68 [.var 39,.var 40,.var 41] 1 (.pure (.un .neg) [.one (.var 103)] (.pure (.bin .eql 3 .false) [.one (.var 102),.one (.var 104)] (.ite 105 (.call 51 [.var 29,.var 30,.var 31,.var 32,.var 33,.var 34,.var 35,.var 36] 8 (.call 67 [.var 39,.var 40,.var 41] 3 (.call 63 [.var 106,.var 107,.var 108,.var 109,.var 110,.var 111,.var 112,.var 113,.var 114,.var 115,.var 116] 8 (.call 51 [.var 58,.var 59,.var 60,.var 61,.var 62,.var 63,.var 64,.var 65] 8 (.pure (.bin .eql 53 .false) [.agg [.var 117,.var 118,.var 119,.var 120,.var 121,.var 122,.var 123,.var 124],.agg [.var 125,.var 126,.var 127,.var 128,.var 129,.var 130,.var 131,.var 132]] (.ret [.var 133])))))) (.ret [.const (.bool .false)])))))) (.ret [.const (.bool .false)]))))) (.ret [.const (.bool .false)])))))) (.isk 66 1 (.call 66 [.var 71,.var 72,.var 73,.var 39,.var 40,.var 41] 3 (.call 67 [.var 39,.var 40,.var 41] 3 (.call 63 [.var 58,.var 59,.var 60,.var 61,.var 62,.var 63,.var 64,.var 65,.var 80,.var 81,.var 82] 8 (.pure (.bin .eql 53 .false) [.agg [.var 83,.var 84,.var 85,.var 86,.var 87,.var 88,.var 89,.var 90],.agg [.var 29,.var 30,.var 31,.var 32,.var 33,.var 34,.var 35,.var 36]] (.ite 91 (.call 26 [.var 68,.var 69,.var 70,.var 77,.var 78,.var 79,.var 74,.var 75,.var 76] 8 (.call 52 [.var 58,.var 59,.var 60,.var 61,.var 62,.var 63,.var 64,.var 65,.var 92,.var 93,.var 94,.var 95,.var 96,.var 97,.var 98,.var 99] 1 (.pure (.bin .eql 3 .true) [.one (.var 100),.one (.const (.int .i64 0))] (.ite 101 (.call 52 [.var 58,.var 59,.var 60,.var 61,.var 62,.var 63,.var 64,.var 65,.var 50,.var 51,.var 52,.var 53,.var 54,.var 55,.var 56,.var 57] 1 (.call 68 [.var 39,.var 40,.var 41] 1 (.pure (.un .neg) [.one (.var 103)] (.pure (.bin .eql 3 .false) [.one (.var 102),.one (.var 104)] (.ite 105 (.call 51 [.var 29,.var 30,.var 31,.var 32,.var 33,.var 34,.var 35,.var 36] 8 (.call 67 [.var 39,.var 40,.var 41] 3 (.call 63 [.var 106,.var 107,.var 108,.var 109,.var 110,.var 111,.var 112,.var 113,.var 114,.var 115,.var 116] 8 (.call 51 [.var 58,.var 59,.var 60,.var 61,.var 62,.var 63,.var 64,.var 65] 8 (.pure (.bin .eql 53 .false) [.agg [.var 117,.var 118,.var 119,.var 120,.var 121,.var 122,.var 123,.var 124],.agg [.var 125,.var 126,.var 127,.var 128,.var 129,.var 130,.var 131,.var 132]] (.ret [.var 133])))))) (.ret [.const (.bool .false)])))))) (.ret [.const (.bool .false)]))))) (.ret [.const (.bool .false)])))))) (.isk 66 2 (.call 66 [.var 74,.var 75,.var 76,.var 39,.var 40,.var 41] 3 (.call 67 [.var 39,.var 40,.var 41] 3 (.call 63 [.var 58,.var 59,.var 60,.var 61,.var 62,.var 63,.var 64,.var 65,.var 80,.var 81,.var 82] 8 (.pure (.bin .eql 53 .false) [.agg [.var 83,.var 84,.var 85,.var 86,.var 87,.var 88,.var 89,.var 90],.agg [.var 29,.var 30,.var 31,.var 32,.var 33,.var 34,.var 35,.var 36]] (.ite 91 (.call 26 [.var 68,.var 69,.var 70,.var 71,.var 72,.var 73,.var 77,.var 78,.var 79] 8 (.call 52 [.var 58,.var 59,.var 60,.var 61,.var 62,.var 63,.var 64,.var 65,.var 92,.var 93,.var 94,.var 95,.var 96,.var 97,.var 98,.var 99] 1 (.pure (.bin .eql 3 .true) [.one (.var 100),.one (.const (.int .i64 0))] (.ite 101 (.call 52 [.var 58,.var 59,.var 60,.var 61,.var 62,.var 63,.var 64,.var 65,.var 50,.var 51,.var 52,.var 53,.var 54,.var 55,.var 56,.var 57] 1 (.call 68 [.var 39,.var 40,.var 41] 1 (.pure (.un .neg) [.one (.var 103)] (.pure (.bin .eql 3 .false) [.one (.var 102),.one (.var 104)] (.ite 105 (.call 51 [.var 29,.var 30,.var 31,.var 32,.var 33,.var 34,.var 35,.var 36] 8 (.call 67 [.var 39,.var 40,.var 41] 3 (.call 63 [.var 106,.var 107,.var 108,.var 109,.var 110,.var 111,.var 112,.var 113,.var 114,.var 115,.var 116] 8 (.call 51 [.var 58,.var 59,.var 60,.var 61,.var 62,.var 63,.var 64,.var 65] 8 (.pure (.bin .eql 53 .false) [.agg [.var 117,.var 118,.var 119,.var 120,.var 121,.var 122,.var 123,.var 124],.agg [.var 125,.var 126,.var 127,.var 128,.var 129,.var 130,.var 131,.var 132]] (.ret [.var 133])))))) (.ret [.const (.bool .false)])))))) (.ret [.const (.bool .false)]))))) (.ret [.const (.bool .false)])))))) .fail)))))))))))))))))))))))))))
end Go.Proofs.YtjefbecmeobegaaGreatDoor.Sp
namespace Go.Proofs.YtjefbecmeobegaaGreatDoor.Sp
open Go Go.RowKit Sx NatA NatB NatC NatD NatI NatJ IntZ RatZ PtZ PlZ
theorem aQk {p:Z4} {v:V3} (hp:S4 6 p) (hv:Sv 6 v):Sv 38 (prj p v):=by
 have a:=aBj kQ hp.1
 have b:=aBj kQ hp.2.1
 have c:=aBj kQ hp.2.2.1
 have d:=aBj kQ hp.2.2.2
 obtain ⟨v1,v2,v3⟩:=hv
 unfold prj
 rcases aDq p with e | e | e<;>rw [e]
 ·exact ⟨aGo kQ (aBx (aBx d (Sq.mul kQ b v2)) (Sq.mul kQ c v3)) a,v2.le kQ,v3.le kQ⟩
 ·exact ⟨v1.le kQ,aGo kQ (aBx (aBx d (Sq.mul kQ a v1)) (Sq.mul kQ c v3)) b,v3.le kQ⟩
 ·exact ⟨v1.le kQ,v2.le kQ,aGo kQ (aBx (aBx d (Sq.mul kQ a v1)) (Sq.mul kQ b v2)) c⟩
theorem aQl {s t:Nat} {z:Z4} {u:V3} {a:List D} (h:PI s z a) (g:Sv t u) (hs:s<=40) (ht:3*t<=120):aFQ (a++aAB u)=some (aAB (prj z u)):=by
 have:=Fo.eq (g:=λ p:Z4 × Z4=>aAB (prj p.1 (pv4 p.2))) (v:=(z,pt u)) (aKq 40 120) (And2.mk' (h.le hs) ((S18 g).le ht))
 dsimp only at this
 rw [aOQ] at this
 exact this
theorem aQm {q:Z4} (h:¬ Flat q):0 < aAR q:=Rat.intCast_pos.2 (by have:=aPW h;omega)
theorem aQn (q:Z4):aAR (aBy q)=aAR q:=by
 unfold aAR
 rw [aTv,aTw,Int.natAbs_neg]
theorem aQo {q far:Z4} {t:Rat} (hq:Pc q) (h:off q t=(far,true)):off far (-t)=(q,true):=by
 obtain ⟨far',h',-,R,hR,e1,e2,e3,e4,-,ab⟩:=aKn hq.nflat t
 obtain rfl:far'=far:=(Prod.mk.inj (h'.symm.trans h)).1
 have:plz q=plv ((far'.1:Rat),(far'.2.1:Rat),(far'.2.2.1:Rat),(far'.2.2.2:Rat)+-t*aAR far'):=aJ2 hR e1 e2 e3 (by
  rw [ab] at e4
  dsimp only
  grind)
 unfold off
 rw [<- this]
 exact hq
theorem aLq {q far:Z4} {t:Rat} (hq:¬ Flat q) (h:off q t=(far,true)):∃ R:Rat,0 < R/\∀ v:V3,R*sdv (rv far) v=sdv (rv q) v - t*aAR q:=by
 obtain ⟨far',h',-,R,hR,e1,e2,e3,e4,-,-⟩:=aKn hq t
 obtain rfl:far'=far:=(Prod.mk.inj (h'.symm.trans h)).1
 refine ⟨R,hR,λ v=>?_⟩
 unfold sdv
 dsimp only
 rw [e1,e2,e3]
 generalize aAR q=a at *
 grind
theorem aQp {R a s t:Rat} (hR:0 < R) (ha:0 < a) (e:R*s=0 - t*a):sgn s.num=-sgn t.num:=by
 have p1:=aIu s
 have n1:=aIv s
 have p2:=aIu t
 have n2:=aIv t
 have r1:=aHM s.num
 have r2:=aHM t.num
 by_cases h1:0 < t
 ·have h2:=Rat.mul_pos h1 ha
  have h3:s < 0:=by
   have:¬ 0<=s:=λ g=>by
    have:=Rat.mul_nonneg (show 0<=R by grind) g
    grind
   grind
  have:=p2.2 h1
  have:=n1.2 h3
  omega
 ·by_cases h2:t < 0
  ·have h4:=Rat.mul_pos (show 0 < -t by grind) ha
   have h3:0 < s:=by
    have:¬ 0<=-s:=λ g=>by
     have:=Rat.mul_nonneg (show 0<=R by grind) g
     grind
    grind
   have:=n2.2 h2
   have:=p1.2 h3
   omega
  ·have t0:t=0:=by grind
   have s0:s=0:=by
    have h3:R*s=0:=by rw [e,t0];grind
    rcases Rat.mul_eq_zero.1 h3 with h4 | h4
    ·grind
    ·exact h4
   rw [t0,s0]
   rfl
theorem aU1 {q far:Z4} {t:Rat} (hq:¬ Flat q) (h:off q t=(far,true)) (u:V3):sgn (sdz far (pt (prj q u)))=-sgn t.num:=by
 obtain ⟨R,hR,e⟩:=aLq hq h
 rw [aNC]
 have e:=e (prj q u)
 rw [aPX hq] at e
 exact aQp hR (aQm hq) e
theorem aU2 {q far:Z4} {t:Rat} (hq:¬ Flat q) (h:off q t=(far,true)) {v:V3} (hv:sdv (rv q) v=t*aAR q):sgn (sdz far (pt v))=0:=by
 obtain ⟨R,hR,e⟩:=aLq hq h
 rw [aNC]
 have e:=e v
 rw [hv] at e
 have h3:R*sdv (rv far) v=0:=by grind
 rcases Rat.mul_eq_zero.1 h3 with h4 | h4
 ·grind
 ·rw [h4]
  rfl
theorem aS5 {q:Z4} (h:sgn (ix3 q (axz q)) > 0):aAR q=((ix3 q (axz q):Int):Rat):=by
 rw [gt_iff_lt,<- gt_iff_lt,aGp] at h
 unfold aAR
 congr 1
 omega
theorem aS6 {q:Z4} (h:¬ sgn (ix3 q (axz q)) > 0):aAR q=-((ix3 q (axz q):Int):Rat):=by
 rw [aGp] at h
 unfold aAR
 rw [<- Rat.intCast_neg]
 congr 1
 omega
theorem aQq {q far:Z4} {t:Rat} (h:off q t=(far,true)):off (aBy q) (-t)=(aBy far,true):=by
 have e:=aTr ((q.1:Rat),(q.2.1:Rat),(q.2.2.1:Rat),(q.2.2.2:Rat)+t*aAR q)
 unfold off at h
 rw [h] at e
 unfold off
 rw [aQn]
 have e2:(((aBy q).1:Rat),((aBy q).2.1:Rat),((aBy q).2.2.1:Rat),((aBy q).2.2.2:Rat)+-t*aAR q)=aHJ ((q.1:Rat),(q.2.1:Rat),(q.2.2.1:Rat),(q.2.2.2:Rat)+t*aAR q):=by
  unfold aBy aHJ
  dsimp only
  rw [Rat.intCast_neg,Rat.intCast_neg,Rat.intCast_neg,Rat.intCast_neg]
  have:-(q.2.2.2:Rat)+-t*aAR q=-((q.2.2.2:Rat)+t*aAR q):=by grind
  rw [this]
 rw [e2]
 exact e
theorem aS7 {q:Z4} (h:S4 6 q):Sq 6 (aAR q):=by
 have a:Sz 6 ((ix3 q (axz q)).natAbs:Int):=by
  rcases aDq q with e | e | e<;>rw [e]
  ·exact h.1.abs (by show (q.1.natAbs:Int).natAbs<=_;omega)
  ·exact h.2.1.abs (by show (q.2.1.natAbs:Int).natAbs<=_;omega)
  ·exact h.2.2.1.abs (by show (q.2.2.1.natAbs:Int).natAbs<=_;omega)
 exact aBj kQ a
theorem aQr {q far:Z4} {t:Rat} (hq:S4 6 q) (ht:Sq 6 t) (h:off q t=(far,true)):S4 76 far:=by
 have a:=(aBj kQ hq.1).le (t:=19) kQ
 have b:=(aBj kQ hq.2.1).le (t:=19) kQ
 have c:=(aBj kQ hq.2.2.1).le (t:=19) kQ
 have d:=Sq.add (aBj kQ hq.2.2.2) (Sq.mul kQ ht (aS7 hq))
 exact aMA (S4.hc4 (s:=19) a b c d) h
def tbL5:Tb:=[(41,aB8),(20,aBd),(58,aCO),(61,aFQ),(59,aBc),(22,aA3),(65,aBb),(66,aAL),(67,aB1),(68,aBW),(26,aA2),(51,aB0)]++tbLb
theorem okL5:TbOk Tryz.prog X.G tbL5:=(.cons kK aS8 (.cons kK aKo (.cons kK aNF (.cons kK g_lproj (.cons kK g_laxis (.cons kK aPY (.cons kK aPZ (.cons kK aQb (.cons kK aQa (.cons kK aNG (.cons kK aTz (.cons kK g_lflip okLb))))))))))))
set_option maxHeartbeats 4000000 in
theorem g_PlaneOffsets:Sx.Good Tryz.prog X.G 15 ⟨[.agg 8,.agg 8,.agg 3],.v1 .one⟩ (F_true (kP++kP++kR++[])):=aAe okL5 (λ _ _=>X.G_below) 400 kK (by kernel_rfl:_=some aE0) λ ds rs h=>by
 obtain ⟨vs,h0,rfl,rfl⟩:=F_true.inv h
 obtain ⟨n01,a01,n02,a02,n03,a03,n04,a04,r1,rfl,h1⟩:=aSw (ks:=(kP++kR++[])) h0
 obtain ⟨n11,a11,n12,a12,n13,a13,n14,a14,r2,rfl,h2⟩:=aSw (ks:=(kR++[])) h1
 obtain ⟨n21,a21,b21,r3,rfl,h3⟩:=aUU (ks:=([])) h2
 obtain rfl:=aT8 h3
 clear h h0 h1 h2 h3
 refine ⟨0,?_⟩
 refine gC aGr awk (gP (aDR true) (aE4 (b:=!true) kK rfl ?_))
 rcases aMD n11 a11 n12 a12 n13 a13 n14 a14 with g1 | ⟨g1,i1⟩
 ·exact gC aBY g1 (gP (aAz _ _ .i64 1 1) (aBi (b:=(1:Int) == 1) kK rfl (aAc kK)))
 refine gC aBY g1 (gP (aAz _ _ .i64 0 1) (aE4 (b:=(0:Int) == 1) kK rfl ?_))
 clear g1
 rcases aMD n01 a01 n02 a02 n03 a03 n04 a04 with g1 | ⟨g1,i0⟩
 ·exact gC aBY g1 (gP (aAz _ _ .i64 1 1) (aBi (b:=(1:Int) == 1) kK rfl (aAc kK)))
 refine gC aBY g1 (gP (aAz _ _ .i64 0 1) (aE4 (b:=(0:Int) == 1) kK rfl ?_))
 clear g1
 obtain ⟨u1,hu1⟩:∃ v,v=pv4 (Z n11 a11,Z n12 a12,Z n13 a13,Z n14 a14):=⟨_,rfl⟩
 have Pu1:PA 6 u1 [b_ n11,s_ a11,b_ n12,s_ a12,b_ n13,s_ a13,b_ n14,s_ a14]:=by rw [hu1];exact PA.raw i1
 have s_u1:Sv 6 u1:=Pu1.sv kQ
 obtain ⟨z0,hz0⟩:∃ v,v=(Z n01 a01,Z n02 a02,Z n03 a03,Z n04 a04):=⟨_,rfl⟩
 have Iz0:PI 6 z0 [b_ n01,s_ a01,b_ n02,s_ a02,b_ n03,s_ a03,b_ n04,s_ a04]:=by rw [hz0];exact i0
 have Sz0:S4 6 z0:=Iz0.s4
 clear hz0 i0
 refine gP (aAu aBV a21) (gP (aA8 _ _ .i64 (a21.size:Int) 6) (aAw (b:=decide ((a21.size:Int) > 6)) kK (λ _=>aAc kK) (λ wa21=>?_)))
 have wa21:=aD6 (k:=6) wa21
 refine gP (aAu aBV b21) (gP (aA8 _ _ .i64 (b21.size:Int) 6) (aAw (b:=decide ((b21.size:Int) > 6)) kK (λ _=>aAc kK) (λ wb21=>?_)))
 have wb21:=aD6 (k:=6) wb21
 obtain ⟨t,ht⟩:∃ v,v=qv n21 a21 b21:=⟨_,rfl⟩
 have Rt:RI 6 t [b_ n21,s_ a21,s_ b21]:=by rw [ht];exact .raw n21 wa21 wb21
 clear ht
 have st:Sq 6 t:=Rt.sq kQ
 have n0:aB8 [b_ n01,s_ a01,b_ n02,s_ a02,b_ n03,s_ a03,b_ n04,s_ a04]=some (aC0 (plz z0)):=aMB Iz0 kQ
 rcases aPV z0 with e0 | ⟨q0,e0⟩
 ·rw [e0,aHm] at n0
  exact gC aB8 n0 (gP (aDR false) (aBi (b:=!false) kK rfl (aAc kK)))
 have Cq0:Pc q0:=(aM3 e0).1
 have Sq0:S4 6 q0:=aMA Sz0 e0
 rw [e0] at n0
 have n0:aB8 [b_ n01,s_ a01,b_ n02,s_ a02,b_ n03,s_ a03,b_ n04,s_ a04]=some (enc4 q0++[b_ true]):=n0
 clear e0
 refine gC aB8 n0 (gP (aDR true) (aE4 (b:=!true) kK rfl ?_))
 clear n0
 have N1:aBd ([b_ n11,s_ a11,b_ n12,s_ a12,b_ n13,s_ a13,b_ n14,s_ a14])=some (aAB u1):=aRu Pu1 kQ
 have N2:aCO [b_ n21,s_ a21,s_ b21]=some (encR t):=R1.at Rt kQ
 have nf:=Cq0.nflat
 obtain ⟨y,hy⟩:∃ y,y=prj q0 u1:=⟨_,rfl⟩
 have sy:Sv 38 y:=by rw [hy];exact aQk Sq0 s_u1
 have kp:aFQ (enc4 q0++aAB u1)=some (aAB y):=by rw [hy];exact aQl (PI.can Sq0) s_u1 kQ kQ
 obtain ⟨far,hf,-,-⟩:=aKn nf t
 have Sf:=aQr Sq0 st hf
 have k1:aBn (enc4 q0++encR t)=some (enc4 far):=by
  have h:=aIg (PI.can Sq0) (RI.can st) kQ kQ
  rw [hf] at h
  exact h
 obtain ⟨m,hm⟩:∃ m,m=-t:=⟨_,rfl⟩
 have sm:Sq 6 m:=by rw [hm];exact st.neg
 have k2:aB1 (encR t)=some (encR m):=by rw [hm];exact R1.can (st.le kQ)
 have k3:aBn (enc4 far++encR m)=some (enc4 q0):=by
  have h:=aIg (PI.can Sf) (RI.can sm) kQ kQ
  rw [hm,aQo Cq0 hf,<- hm] at h
  exact h
 have k4:aAD (enc4 far++aAB y)=some [i_ (-sgn t.num)]:=by
  have h:=aDr (PI.can Sf) (S18 sy) kQ kQ
  rw [hy,aU1 nf hf,<- hy] at h
  exact h
 have k5:aBW (encR t)=some [i_ (sgn t.num)]:=R1.can (st.le kQ)
 have rg:=aHM t.num
 obtain ⟨fq,hfq⟩:∃ f,f=aBy q0:=⟨_,rfl⟩
 have Sfq:S4 6 fq:=by rw [hfq];exact S4.neg Sq0
 have k6:aB0 (enc4 q0)=some (enc4 fq):=by rw [hfq];exact aMC (PI.can Sq0) kQ
 obtain ⟨ff,hff⟩:∃ f,f=aBy far:=⟨_,rfl⟩
 have k7:aB0 (enc4 far)=some (enc4 ff):=by rw [hff];exact aMC (PI.can Sf) kQ
 have k8:aBn (enc4 fq++encR m)=some (enc4 ff):=by
  have h:=aIg (PI.can Sfq) (RI.can sm) kQ kQ
  rw [hfq,hm,aQq hf,<- hfq,<- hm,<- hff] at h
  exact h
 have ka:aBc (enc4 q0)=some [i_ (axz q0:Int),b_ (decide (sgn (ix3 q0 (axz q0)) > 0))]:=Fo.eq (aAv 2000) (PI.can (Sq0.le kQ))
 have on:sdv (rv q0) y=0:=by rw [hy];exact aPX nf u1
 have fv:=λ v=>aU2 (v:=v) nf hf
 have au:=aS5 (q:=q0)
 have ad:=aS6 (q:=q0)
 have c2:aA3 (aAB y)=some (aC1 y):=aOH (PA.can sy) kQ
 obtain ⟨X,hX⟩:∃ X,X=pt u1:=⟨_,rfl⟩
 obtain ⟨Y,hY⟩:∃ Y,Y=pt y:=⟨_,rfl⟩
 have ex:aAB u1=enc4 X:=by rw [hX]
 have ey:aAB y=enc4 Y:=by rw [hY]
 rw [ex] at N1 kp
 rw [ey] at kp k4 c2
 obtain ⟨y1,y2,y3⟩:=y
 obtain ⟨Sy1,Sy2,Sy3⟩:=sy
 dsimp only at Sy1 Sy2 Sy3
 have c2:aA3 (enc4 Y)=some (encR y1++(encR y2++encR y3)):=c2
 clear hX hY ex ey hy hm hfq hff hf
 have ew:(-sgn t.num == IntKind.i64.wrap (0 - sgn t.num))=true:=by rw [IntKind.wrap_i64,beq_iff_eq];omega
 generalize sgn t.num=S at *
 refine gC aCO N2 (gC aBd N1 (gC aFQ kp (gC aBn k1 ?_)))
 rcases aDq q0 with e | e | e
 ·rw [e] at ka au ad
  have ka:aBc (enc4 q0)=some [i_ 0,b_ (decide (sgn q0.1 > 0))]:=ka
  have au:sgn q0.1 > 0->aAR q0=((q0.1:Int):Rat):=au
  have ad:¬ sgn q0.1 > 0->aAR q0=-((q0.1:Int):Rat):=ad
  refine gC aBc ka (gC aA3 c2 (aAw (b:=decide (sgn q0.1 > 0)) kK (λ hu=>?_) (λ hu=>?_)))
  ·obtain ⟨w,hw⟩:∃ w,w=y1+t:=⟨_,rfl⟩
   have sw:Sq 45 w:=by rw [hw];exact Sq.add Sy1 st
   have cw:aBb (encR y1++encR t)=some (encR w):=by rw [hw];exact R2.can (Sy1.le kQ) (st.le kQ)
   have hv1:sdv (rv q0) (w,y2,y3)=t*aAR q0:=by
    rw [au (of_decide_eq_true hu),hw]
    unfold sdv at on ⊢
    dsimp only at on ⊢
    grind
   have zv:=fv (w,y2,y3) hv1
   have mv:aA2 (aC1 (w,y2,y3))=some (aAB (w,y2,y3)):=aEz (s:=45) (VI.can ⟨sw.le kQ,Sy2.le kQ,Sy3.le kQ⟩) kQ
   have sv:aAD (enc4 far++aAB (w,y2,y3))=some [i_ 0]:=by
    rw [<- zv]
    exact aDr (PI.can Sf) (S18 (s:=45) ⟨sw.le kQ,Sy2.le kQ,Sy3.le kQ⟩) kQ kQ
   have mv:aA2 (encR w++(encR y2++encR y3))=some (enc4 (pt (w,y2,y3))):=mv
   have sv:aAD (enc4 far++enc4 (pt (w,y2,y3)))=some [i_ 0]:=sv
   generalize pt (w,y2,y3)=P at *
   clear zv hv1 hw on fv au ad
   refine aD7 (k:=.i64) (i:=66) (j:=0) kK ?_
   refine gC aBb cw ?_
   refine gC aB1 k2 (gC aBn k3 (aAf kK (aEy _ q0 q0) (aBi (b:=decide (q0=q0)) kK (decide_eq_true rfl) ?_)))
   refine gC aA2 mv (gC aAD sv (gP (aAz _ _ .i64 0 0) (aBi (b:=(0:Int) == 0) kK rfl ?_)))
   refine gC aAD k4 (gC aBW k5 (gP (aDe .i64 S) (gP (aAz _ _ .i64 (-S) (IntKind.i64.wrap (0 - S))) (aBi (b:=-S == IntKind.i64.wrap (0 - S)) kK ew ?_))))
   refine gC aB0 k6 (gC aB1 k2 (gC aBn k8 (gC aB0 k7 (aAf kK (aEy _ ff ff) ?_))))
   rw [decide_eq_true (rfl:ff=ff)]
   exact aAc kK
  ·obtain ⟨w,hw⟩:∃ w,w=y1 - t:=⟨_,rfl⟩
   have sw:Sq 45 w:=by rw [hw];exact aBx Sy1 st
   have cw:aAL (encR y1++encR t)=some (encR w):=by rw [hw];exact R2.can (Sy1.le kQ) (st.le kQ)
   have hv1:sdv (rv q0) (w,y2,y3)=t*aAR q0:=by
    rw [ad (of_decide_eq_false hu),hw]
    unfold sdv at on ⊢
    dsimp only at on ⊢
    grind
   have zv:=fv (w,y2,y3) hv1
   have mv:aA2 (aC1 (w,y2,y3))=some (aAB (w,y2,y3)):=aEz (s:=45) (VI.can ⟨sw.le kQ,Sy2.le kQ,Sy3.le kQ⟩) kQ
   have sv:aAD (enc4 far++aAB (w,y2,y3))=some [i_ 0]:=by
    rw [<- zv]
    exact aDr (PI.can Sf) (S18 (s:=45) ⟨sw.le kQ,Sy2.le kQ,Sy3.le kQ⟩) kQ kQ
   have mv:aA2 (encR w++(encR y2++encR y3))=some (enc4 (pt (w,y2,y3))):=mv
   have sv:aAD (enc4 far++enc4 (pt (w,y2,y3)))=some [i_ 0]:=sv
   generalize pt (w,y2,y3)=P at *
   clear zv hv1 hw on fv au ad
   refine aD7 (k:=.i64) (i:=66) (j:=0) kK ?_
   refine gC aAL cw ?_
   refine gC aB1 k2 (gC aBn k3 (aAf kK (aEy _ q0 q0) (aBi (b:=decide (q0=q0)) kK (decide_eq_true rfl) ?_)))
   refine gC aA2 mv (gC aAD sv (gP (aAz _ _ .i64 0 0) (aBi (b:=(0:Int) == 0) kK rfl ?_)))
   refine gC aAD k4 (gC aBW k5 (gP (aDe .i64 S) (gP (aAz _ _ .i64 (-S) (IntKind.i64.wrap (0 - S))) (aBi (b:=-S == IntKind.i64.wrap (0 - S)) kK ew ?_))))
   refine gC aB0 k6 (gC aB1 k2 (gC aBn k8 (gC aB0 k7 (aAf kK (aEy _ ff ff) ?_))))
   rw [decide_eq_true (rfl:ff=ff)]
   exact aAc kK
 ·rw [e] at ka au ad
  have ka:aBc (enc4 q0)=some [i_ 1,b_ (decide (sgn q0.2.1 > 0))]:=ka
  have au:sgn q0.2.1 > 0->aAR q0=((q0.2.1:Int):Rat):=au
  have ad:¬ sgn q0.2.1 > 0->aAR q0=-((q0.2.1:Int):Rat):=ad
  refine gC aBc ka (gC aA3 c2 (aAw (b:=decide (sgn q0.2.1 > 0)) kK (λ hu=>?_) (λ hu=>?_)))
  ·obtain ⟨w,hw⟩:∃ w,w=y2+t:=⟨_,rfl⟩
   have sw:Sq 45 w:=by rw [hw];exact Sq.add Sy2 st
   have cw:aBb (encR y2++encR t)=some (encR w):=by rw [hw];exact R2.can (Sy2.le kQ) (st.le kQ)
   have hv1:sdv (rv q0) (y1,w,y3)=t*aAR q0:=by
    rw [au (of_decide_eq_true hu),hw]
    unfold sdv at on ⊢
    dsimp only at on ⊢
    grind
   have zv:=fv (y1,w,y3) hv1
   have mv:aA2 (aC1 (y1,w,y3))=some (aAB (y1,w,y3)):=aEz (s:=45) (VI.can ⟨Sy1.le kQ,sw.le kQ,Sy3.le kQ⟩) kQ
   have sv:aAD (enc4 far++aAB (y1,w,y3))=some [i_ 0]:=by
    rw [<- zv]
    exact aDr (PI.can Sf) (S18 (s:=45) ⟨Sy1.le kQ,sw.le kQ,Sy3.le kQ⟩) kQ kQ
   have mv:aA2 (encR y1++(encR w++encR y3))=some (enc4 (pt (y1,w,y3))):=mv
   have sv:aAD (enc4 far++enc4 (pt (y1,w,y3)))=some [i_ 0]:=sv
   generalize pt (y1,w,y3)=P at *
   clear zv hv1 hw on fv au ad
   refine aCe (k:=.i64) (n:=1) (i:=66) (j:=0) kK kQ (?_)
   refine aD7 (k:=.i64) (i:=66) (j:=1) kK ?_
   refine gC aBb cw ?_
   refine gC aB1 k2 (gC aBn k3 (aAf kK (aEy _ q0 q0) (aBi (b:=decide (q0=q0)) kK (decide_eq_true rfl) ?_)))
   refine gC aA2 mv (gC aAD sv (gP (aAz _ _ .i64 0 0) (aBi (b:=(0:Int) == 0) kK rfl ?_)))
   refine gC aAD k4 (gC aBW k5 (gP (aDe .i64 S) (gP (aAz _ _ .i64 (-S) (IntKind.i64.wrap (0 - S))) (aBi (b:=-S == IntKind.i64.wrap (0 - S)) kK ew ?_))))
   refine gC aB0 k6 (gC aB1 k2 (gC aBn k8 (gC aB0 k7 (aAf kK (aEy _ ff ff) ?_))))
   rw [decide_eq_true (rfl:ff=ff)]
   exact aAc kK
  ·obtain ⟨w,hw⟩:∃ w,w=y2 - t:=⟨_,rfl⟩
   have sw:Sq 45 w:=by rw [hw];exact aBx Sy2 st
   have cw:aAL (encR y2++encR t)=some (encR w):=by rw [hw];exact R2.can (Sy2.le kQ) (st.le kQ)
   have hv1:sdv (rv q0) (y1,w,y3)=t*aAR q0:=by
    rw [ad (of_decide_eq_false hu),hw]
    unfold sdv at on ⊢
    dsimp only at on ⊢
    grind
   have zv:=fv (y1,w,y3) hv1
   have mv:aA2 (aC1 (y1,w,y3))=some (aAB (y1,w,y3)):=aEz (s:=45) (VI.can ⟨Sy1.le kQ,sw.le kQ,Sy3.le kQ⟩) kQ
   have sv:aAD (enc4 far++aAB (y1,w,y3))=some [i_ 0]:=by
    rw [<- zv]
    exact aDr (PI.can Sf) (S18 (s:=45) ⟨Sy1.le kQ,sw.le kQ,Sy3.le kQ⟩) kQ kQ
   have mv:aA2 (encR y1++(encR w++encR y3))=some (enc4 (pt (y1,w,y3))):=mv
   have sv:aAD (enc4 far++enc4 (pt (y1,w,y3)))=some [i_ 0]:=sv
   generalize pt (y1,w,y3)=P at *
   clear zv hv1 hw on fv au ad
   refine aCe (k:=.i64) (n:=1) (i:=66) (j:=0) kK kQ (?_)
   refine aD7 (k:=.i64) (i:=66) (j:=1) kK ?_
   refine gC aAL cw ?_
   refine gC aB1 k2 (gC aBn k3 (aAf kK (aEy _ q0 q0) (aBi (b:=decide (q0=q0)) kK (decide_eq_true rfl) ?_)))
   refine gC aA2 mv (gC aAD sv (gP (aAz _ _ .i64 0 0) (aBi (b:=(0:Int) == 0) kK rfl ?_)))
   refine gC aAD k4 (gC aBW k5 (gP (aDe .i64 S) (gP (aAz _ _ .i64 (-S) (IntKind.i64.wrap (0 - S))) (aBi (b:=-S == IntKind.i64.wrap (0 - S)) kK ew ?_))))
   refine gC aB0 k6 (gC aB1 k2 (gC aBn k8 (gC aB0 k7 (aAf kK (aEy _ ff ff) ?_))))
   rw [decide_eq_true (rfl:ff=ff)]
   exact aAc kK
 ·rw [e] at ka au ad
  have ka:aBc (enc4 q0)=some [i_ 2,b_ (decide (sgn q0.2.2.1 > 0))]:=ka
  have au:sgn q0.2.2.1 > 0->aAR q0=((q0.2.2.1:Int):Rat):=au
  have ad:¬ sgn q0.2.2.1 > 0->aAR q0=-((q0.2.2.1:Int):Rat):=ad
  refine gC aBc ka (gC aA3 c2 (aAw (b:=decide (sgn q0.2.2.1 > 0)) kK (λ hu=>?_) (λ hu=>?_)))
  ·obtain ⟨w,hw⟩:∃ w,w=y3+t:=⟨_,rfl⟩
   have sw:Sq 45 w:=by rw [hw];exact Sq.add Sy3 st
   have cw:aBb (encR y3++encR t)=some (encR w):=by rw [hw];exact R2.can (Sy3.le kQ) (st.le kQ)
   have hv1:sdv (rv q0) (y1,y2,w)=t*aAR q0:=by
    rw [au (of_decide_eq_true hu),hw]
    unfold sdv at on ⊢
    dsimp only at on ⊢
    grind
   have zv:=fv (y1,y2,w) hv1
   have mv:aA2 (aC1 (y1,y2,w))=some (aAB (y1,y2,w)):=aEz (s:=45) (VI.can ⟨Sy1.le kQ,Sy2.le kQ,sw.le kQ⟩) kQ
   have sv:aAD (enc4 far++aAB (y1,y2,w))=some [i_ 0]:=by
    rw [<- zv]
    exact aDr (PI.can Sf) (S18 (s:=45) ⟨Sy1.le kQ,Sy2.le kQ,sw.le kQ⟩) kQ kQ
   have mv:aA2 (encR y1++(encR y2++encR w))=some (enc4 (pt (y1,y2,w))):=mv
   have sv:aAD (enc4 far++enc4 (pt (y1,y2,w)))=some [i_ 0]:=sv
   generalize pt (y1,y2,w)=P at *
   clear zv hv1 hw on fv au ad
   refine aCe (k:=.i64) (n:=2) (i:=66) (j:=0) kK kQ (aCe (k:=.i64) (n:=2) (i:=66) (j:=1) kK kQ (?_))
   refine aD7 (k:=.i64) (i:=66) (j:=2) kK ?_
   refine gC aBb cw ?_
   refine gC aB1 k2 (gC aBn k3 (aAf kK (aEy _ q0 q0) (aBi (b:=decide (q0=q0)) kK (decide_eq_true rfl) ?_)))
   refine gC aA2 mv (gC aAD sv (gP (aAz _ _ .i64 0 0) (aBi (b:=(0:Int) == 0) kK rfl ?_)))
   refine gC aAD k4 (gC aBW k5 (gP (aDe .i64 S) (gP (aAz _ _ .i64 (-S) (IntKind.i64.wrap (0 - S))) (aBi (b:=-S == IntKind.i64.wrap (0 - S)) kK ew ?_))))
   refine gC aB0 k6 (gC aB1 k2 (gC aBn k8 (gC aB0 k7 (aAf kK (aEy _ ff ff) ?_))))
   rw [decide_eq_true (rfl:ff=ff)]
   exact aAc kK
  ·obtain ⟨w,hw⟩:∃ w,w=y3 - t:=⟨_,rfl⟩
   have sw:Sq 45 w:=by rw [hw];exact aBx Sy3 st
   have cw:aAL (encR y3++encR t)=some (encR w):=by rw [hw];exact R2.can (Sy3.le kQ) (st.le kQ)
   have hv1:sdv (rv q0) (y1,y2,w)=t*aAR q0:=by
    rw [ad (of_decide_eq_false hu),hw]
    unfold sdv at on ⊢
    dsimp only at on ⊢
    grind
   have zv:=fv (y1,y2,w) hv1
   have mv:aA2 (aC1 (y1,y2,w))=some (aAB (y1,y2,w)):=aEz (s:=45) (VI.can ⟨Sy1.le kQ,Sy2.le kQ,sw.le kQ⟩) kQ
   have sv:aAD (enc4 far++aAB (y1,y2,w))=some [i_ 0]:=by
    rw [<- zv]
    exact aDr (PI.can Sf) (S18 (s:=45) ⟨Sy1.le kQ,Sy2.le kQ,sw.le kQ⟩) kQ kQ
   have mv:aA2 (encR y1++(encR y2++encR w))=some (enc4 (pt (y1,y2,w))):=mv
   have sv:aAD (enc4 far++enc4 (pt (y1,y2,w)))=some [i_ 0]:=sv
   generalize pt (y1,y2,w)=P at *
   clear zv hv1 hw on fv au ad
   refine aCe (k:=.i64) (n:=2) (i:=66) (j:=0) kK kQ (aCe (k:=.i64) (n:=2) (i:=66) (j:=1) kK kQ (?_))
   refine aD7 (k:=.i64) (i:=66) (j:=2) kK ?_
   refine gC aAL cw ?_
   refine gC aB1 k2 (gC aBn k3 (aAf kK (aEy _ q0 q0) (aBi (b:=decide (q0=q0)) kK (decide_eq_true rfl) ?_)))
   refine gC aA2 mv (gC aAD sv (gP (aAz _ _ .i64 0 0) (aBi (b:=(0:Int) == 0) kK rfl ?_)))
   refine gC aAD k4 (gC aBW k5 (gP (aDe .i64 S) (gP (aAz _ _ .i64 (-S) (IntKind.i64.wrap (0 - S))) (aBi (b:=-S == IntKind.i64.wrap (0 - S)) kK ew ?_))))
   refine gC aB0 k6 (gC aB1 k2 (gC aBn k8 (gC aB0 k7 (aAf kK (aEy _ ff ff) ?_))))
   rw [decide_eq_true (rfl:ff=ff)]
   exact aAc kK
end Go.Proofs.YtjefbecmeobegaaGreatDoor.Sp
