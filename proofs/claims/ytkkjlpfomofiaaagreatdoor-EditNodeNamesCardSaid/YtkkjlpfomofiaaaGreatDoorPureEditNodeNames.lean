import Derived.Test.YtkkjlpfomofiaaaGreatDoorSpE1
import Derived.Test.YtkkjlpfomofiaaaGreatDoorSpG
namespace Go.Proofs.YtkkjlpfomofiaaaGreatDoor.Sp
open Go Go.RowKit YtkkjlpfomofiaaaGreatDoorW.PrintWords Sx NatA NatJ NatN
theorem aIL (a b:ByteArray) (m n:Int):aA7 [.string a,.int .i64 m] [.string b,.int .i64 n]=decide (a=b∧m=n):=by
 have e:aA7 [.string a,.int .i64 m] [.string b,.int .i64 n]=(aEx (.string a) (.string b) && ((m == n) && true)):=rfl
 rw [e,aON,Bool.eq_iff_iff,Bool.and_true,Bool.and_eq_true,beq_iff_eq,decide_eq_true_iff,decide_eq_true_iff]
theorem aNc (k:Bool) (a b:ByteArray) (m n:Int):(Pu.bin .eql 23 k).run Tryz.prog [.agg [s_ a,i_ m],.agg [s_ b,i_ n]]=some (b_ (decide (a=b∧m=n))):=by
 rw [← aIL]
 exact (aGB (P:=Tryz.prog) (t:=23) k (ks:=[.s,.i .i64]) (by kernel_rfl) (by kernel_rfl) (xs:=[.string a,.int .i64 m]) (ys:=[.string b,.int .i64 n]) rfl rfl).1
theorem aNd (k:Bool) (a b:ByteArray) (m n:Int):(Pu.bin .neq 23 k).run Tryz.prog [.agg [s_ a,i_ m],.agg [s_ b,i_ n]]=some (b_ (decide ¬ (a=b∧m=n))):=by
 rw [decide_not,← aIL]
 exact (aGB (P:=Tryz.prog) (t:=23) k (ks:=[.s,.i .i64]) (by kernel_rfl) (by kernel_rfl) (xs:=[.string a,.int .i64 m]) (ys:=[.string b,.int .i64 n]) rfl rfl).2
def tbN1:Tb:=[(30,F_name),(31,F_pid),(33,F_name),(32,F_pid),(28,aDO)]
theorem okN1:TbOk Tryz.prog X.G tbN1:=.cons (by kernel_rfl) g_fmtid (.cons (by kernel_rfl) g_pid (.cons (by kernel_rfl) aPy (.cons (by kernel_rfl) aQl (.cons (by kernel_rfl) g_awake37 trivial))))
def aKn:Fct
 | [.v (.string _),.v (.int .i64 _),.v (.string _)]=>some [b_ true]
 | _=>none
theorem aNe (o:Option (ByteArray × Int)):∃ y k ok,pid o=[s_ y,i_ k,b_ ok]∧(ok=true→o=some (y,k)):=by
 cases o with
 | none=>exact ⟨_,_,_,rfl,fun h=>by cases h⟩
 | some p=>exact ⟨_,_,_,rfl,fun _=>rfl⟩
theorem aPu:ps (⟨#[]⟩:ByteArray)=none:=aDg fun a n _ e=>by
 have h:=(aDX (a:=a) (n:=n)).1
 rw [← e] at h
 exact absurd h (Nat.not_lt_zero _)
theorem g_EditNodeNames:Sx.Good Tryz.prog X.G 9 ⟨[.agg 2,.one],.v1 .one⟩ aKn:=aAj okN1 (fun _ _=>X.G_below) 400 (by kernel_rfl) (by kernel_rfl:_=some aCy) fun ds rs h=>by
 unfold aKn at h
 split at h
 ·rename_i a n s
  obtain rfl:=Option.some.inj h
  have aw:aDO []=some [b_ true]:=rfl
  refine rp (aAG aA3 a) ?_
  by_cases h1:(a.size:Int) > 200
  ·exact rT h1 (aAC 3 true .i64 a.size 200) (rc aDO aw rr)
  refine rF h1 (aAC 3 true .i64 a.size 200) (rp (aAG aA3 s) ?_)
  by_cases h2:(s.size:Int) > 200
  ·exact rT h2 (aAC 3 true .i64 s.size 200) (rc aDO aw rr)
  refine rF h2 (aAC 3 true .i64 s.size 200) ?_
  have cn:F_name [s_ a,i_ n]=some [s_ (aBj a n)]:=F_name.eq (by omega)
  obtain ⟨y,k,ok,ep,hok⟩:=aNe (ps s)
  have cs:F_pid [s_ s]=some [s_ y,i_ k,b_ ok]:=by rw [F_pid.eq (by omega),ep]
  have hx:(aBj a n).size≤1000000:=by
   unfold aBj
   split
   ·rename_i hk
    have:=aDV hk
    have:=aDp (n:=n) (by omega) (by omega)
    unfold nm
    rw [ByteArray.size_append,ByteArray.size_append,show (⟨#[46]⟩:ByteArray).size=1 from rfl]
    omega
   ·decide
  have cx:∃ z m so,F_pid [s_ (aBj a n)]=some [s_ z,i_ m,b_ so]∧(decide (aBj a n=(⟨#[]⟩:ByteArray))=!so)∧(so=true→z=a∧m=n):=by
   rw [F_pid.eq hx]
   cases hk:aBh a n with
   | true =>
    have en:aBj a n=nm a n:=by unfold aBj;rw [if_pos hk]
    rw [en,aEL.2 ⟨hk,rfl⟩]
    refine ⟨a,n,true,rfl,?_,fun _=>⟨rfl,rfl⟩⟩
    rw [decide_eq_false]
    ·rfl
    ·intro e
     have h:=(aDX (a:=a) (n:=n)).1
     rw [e] at h
     exact absurd h (Nat.not_lt_zero _)
   | false =>
    have en:aBj a n=(⟨#[]⟩:ByteArray):=by unfold aBj;rw [hk,if_neg (by decide)]
    rw [en,aPu]
    exact ⟨_,_,false,rfl,decide_eq_true rfl,fun h=>by cases h⟩
  obtain ⟨z,m,so,cx,hso,hz⟩:=cx
  have cy:ok=true→F_name [s_ y,i_ k]=some [s_ s]:=fun h=>by
   obtain ⟨h3,h4⟩:=aEL.1 (hok h)
   have hy:y.size < s.size:=by rw [h4];exact aDX.1
   rw [F_name.eq (by omega)]
   unfold aBj
   rw [if_pos h3,← h4]
  clear ep hok hx
  generalize aBj a n=x at *
  refine rc F_name cn (rc F_pid cs (rc F_pid cs (rc F_name cn ?_)))
  refine rF (by simp) (aDY 9 false x x) (rF (by simp) (aNd false y y k k) ?_)
  refine rp (aK6 4 false ok ok aE9) ?_
  rw [show (!(ok == ok))=false by cases ok<;>rfl]
  refine rn (rc F_pid cx (rp (aC1 9 true x ⟨#[]⟩) (rp (aCN so) (rp (aOM 4 false (decide (x=(⟨#[]⟩:ByteArray))) (!so) aE9) ?_))))
  rw [hso,show ((!so) == (!so))=true by cases so<;>rfl]
  refine ry (rp (aCN so) ?_)
  cases so with
  | false =>
   refine ry (rp (aCN ok) ?_)
   cases ok with
   | false=>exact ry (rc aDO aw rr)
   | true=>exact rn (rc F_name (cy rfl) (rT rfl (aC1 9 false s s) (rc aDO aw rr)))
  | true =>
   obtain ⟨rfl,rfl⟩:=hz rfl
   refine rn (rT ⟨rfl,rfl⟩ (aNc false z z m m) (rp (aCN ok) ?_))
   cases ok with
   | false=>exact ry (rc aDO aw rr)
   | true=>exact rn (rc F_name (cy rfl) (rT rfl (aC1 9 false s s) (rc aDO aw rr)))
 ·cases h
theorem aPv {cs:List Value} (h:oks [.s,.i .i64] cs=true):∃ a n,cs=[.string a,.int .i64 n]:=by
 match cs,h with
 | [.string a,.int k n],h =>
  have h:decide (IntKind.i64=k)=true:=by
   have h2:(true && (decide (IntKind.i64=k) && true))=true:=h
   simpa using h2
  obtain rfl:=of_decide_eq_true h
  exact ⟨a,n,rfl⟩
 | .string _::.int k _::c::r,h =>
  have h2:(true && (decide (IntKind.i64=k) && false))=true:=h
  rw [Bool.and_false,Bool.and_false] at h2
  cases h2
theorem calls_EditNodeNames {cs:List Value} {s:ByteArray} (h:oks [.s,.i .i64] cs=true) {w:World} (hw:X.G w) :
  Calls Tryz.prog 9 (blds [.agg 2,.one] (cs++[.string s])).toArray w fun e w'=>e=.returned (.bool true)∧Below w.heap.size w w':=by
 obtain ⟨a,n,rfl⟩:=aPv h
 exact aLW g_EditNodeNames rfl rfl rfl hw
end Go.Proofs.YtkkjlpfomofiaaaGreatDoor.Sp
