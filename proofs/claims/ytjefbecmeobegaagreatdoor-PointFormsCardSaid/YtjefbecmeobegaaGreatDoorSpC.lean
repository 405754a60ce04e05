import Derived.Test.YtjefbecmeobegaaGreatDoorSx2
import Derived.Test.YtjefbecmeobegaaGreatDoorSpN
import Derived.Test.YtjefbecmeobegaaGreatDoorTr1
namespace Go.Proofs.YtjefbecmeobegaaGreatDoor.Sp
open Go Go.RowKit Sx
def runT (P:Program) (tb:Tb) (t:T):Nat→Fct
 | 0=>fun _=>none
 | n+1=>fun ds=>match t.run P (aBa tb) 300 [] ds with
  | some r=>some r
  | none=>runT P tb t n ds
theorem aMg {P:Program} {tb:Tb} {t:T} {ds r:List D}:∀ {n:Nat},runT P tb t n ds=some r→t.run P (aBa tb) 300 [] ds=some r
 | 0,h=>by cases h
 | n+1,h=>by
  unfold runT at h
  split at h
  ·rw [← h]
   assumption
  ·exact aMg h
theorem aAJ {P:Program} {G:World→Prop} {tb:Tb} (h:TbOk P G tb) (hG:∀ w w',G w→Below w.heap.size w w'→G w') (N:Nat) {f:FuncId} {ct:Ct} {t:T} (hc:aHl P f=some ct) (ht:aIH P (tb.map (·.1)) N f=some t):Sx.Good P G f ct (runT P tb t 1):=aAd h hG N hc ht fun _ _ h=>⟨300,aMg h⟩
def Ru0 (P:Program):Fct:=runT P ([]:Tb) aC5 1
def aQw (P:Program):Tb:=(95,Ru0 P)::([]:Tb)
theorem okC0:TbOk Tryz.prog X.G (aQw Tryz.prog):=.cons (by kernel_rfl:_=some (⟨[.one],.v1 .one⟩:Ct)) (aAJ (tb:=[]) trivial (fun _ _=>X.G_below) 400 (by kernel_rfl) (by kernel_rfl:_=some aC5)) trivial
def Ru1 (P:Program):Fct:=runT P (aQw P) aDc 1
def aQx (P:Program):Tb:=(142,Ru1 P)::(aQw P)
theorem okC1:TbOk Tryz.prog X.G (aQx Tryz.prog):=.cons (by kernel_rfl:_=some (⟨[.one,.one],.v1 .one⟩:Ct)) (aAJ okC0 (fun _ _=>X.G_below) 400 (by kernel_rfl) (by kernel_rfl:_=some aDc)) okC0
def Ru2 (P:Program):Fct:=runT P (aQx P) aCK 1
def aQy (P:Program):Tb:=(155,Ru2 P)::(aQx P)
theorem okC2:TbOk Tryz.prog X.G (aQy Tryz.prog):=.cons (by kernel_rfl:_=some (⟨[.one,.one],.v1 .one⟩:Ct)) (aAJ okC1 (fun _ _=>X.G_below) 400 (by kernel_rfl) (by kernel_rfl:_=some aCK)) okC1
def Ru3 (P:Program):Fct:=runT P (aQy P) aCL 1
def aQz (P:Program):Tb:=(144,Ru3 P)::(aQy P)
theorem okC3:TbOk Tryz.prog X.G (aQz Tryz.prog):=.cons (by kernel_rfl:_=some (⟨[.one,.one],.v1 .one⟩:Ct)) (aAJ okC2 (fun _ _=>X.G_below) 400 (by kernel_rfl) (by kernel_rfl:_=some aCL)) okC2
def Ru4 (P:Program):Fct:=runT P (aQz P) aCN 1
def aQ0 (P:Program):Tb:=(145,Ru4 P)::(aQz P)
theorem okC4:TbOk Tryz.prog X.G (aQ0 Tryz.prog):=.cons (by kernel_rfl:_=some (⟨[.one,.one],.tup [.one,.one]⟩:Ct)) (aAJ okC3 (fun _ _=>X.G_below) 400 (by kernel_rfl) (by kernel_rfl:_=some aCN)) okC3
def Ru5 (P:Program):Fct:=runT P (aQ0 P) aCM 1
def aQ1 (P:Program):Tb:=(97,Ru5 P)::(aQ0 P)
theorem okC5:TbOk Tryz.prog X.G (aQ1 Tryz.prog):=.cons (by kernel_rfl:_=some (⟨[.one,.one],.v1 .one⟩:Ct)) (aAJ okC4 (fun _ _=>X.G_below) 400 (by kernel_rfl) (by kernel_rfl:_=some aCM)) okC4
def Ru6 (P:Program):Fct:=runT P (aQ1 P) aDb 1
def aQ2 (P:Program):Tb:=(111,Ru6 P)::(aQ1 P)
theorem okC6:TbOk Tryz.prog X.G (aQ2 Tryz.prog):=.cons (by kernel_rfl:_=some (⟨[.one],.v1 .one⟩:Ct)) (aAJ okC5 (fun _ _=>X.G_below) 400 (by kernel_rfl) (by kernel_rfl:_=some aDb)) okC5
def Ru7 (P:Program):Fct:=runT P (aQ2 P) aCO 1
def aQ3 (P:Program):Tb:=(130,Ru7 P)::(aQ2 P)
theorem okC7:TbOk Tryz.prog X.G (aQ3 Tryz.prog):=.cons (by kernel_rfl:_=some (⟨[.one,.one],.tup [.one,.one,.one]⟩:Ct)) (aAJ okC6 (fun _ _=>X.G_below) 400 (by kernel_rfl) (by kernel_rfl:_=some aCO)) okC6
def Ru8 (P:Program):Fct:=runT P (aQ3 P) aCP 1
def aQ4 (P:Program):Tb:=(129,Ru8 P)::(aQ3 P)
theorem okC8:TbOk Tryz.prog X.G (aQ4 Tryz.prog):=.cons (by kernel_rfl:_=some (⟨[.one,.one],.v1 .one⟩:Ct)) (aAJ okC7 (fun _ _=>X.G_below) 400 (by kernel_rfl) (by kernel_rfl:_=some aCP)) okC7
def Ru9 (P:Program):Fct:=runT P (aQ4 P) aDa 1
def aQ5 (P:Program):Tb:=(96,Ru9 P)::(aQ4 P)
theorem okC9:TbOk Tryz.prog X.G (aQ5 Tryz.prog):=.cons (by kernel_rfl:_=some (⟨[.one,.one],.v1 (.agg 2)⟩:Ct)) (aAJ okC8 (fun _ _=>X.G_below) 400 (by kernel_rfl) (by kernel_rfl:_=some aDa)) okC8
def Ru10 (P:Program):Fct:=runT P (aQ5 P) aC3 1
def aOe (P:Program):Tb:=(76,Ru10 P)::(aQ5 P)
theorem aRp:TbOk Tryz.prog X.G (aOe Tryz.prog):=.cons (by kernel_rfl:_=some (⟨[.agg 2],.v1 (.agg 2)⟩:Ct)) (aAJ okC9 (fun _ _=>X.G_below) 400 (by kernel_rfl) (by kernel_rfl:_=some aC3)) okC9
def Ru11 (P:Program):Fct:=runT P (aOe P) aCF 1
def aOf (P:Program):Tb:=(78,Ru11 P)::(aOe P)
theorem aRq:TbOk Tryz.prog X.G (aOf Tryz.prog):=.cons (by kernel_rfl:_=some (⟨[.agg 2],.v1 (.agg 2)⟩:Ct)) (aAJ aRp (fun _ _=>X.G_below) 400 (by kernel_rfl) (by kernel_rfl:_=some aCF)) aRp
def Ru12 (P:Program):Fct:=runT P (aOf P) aC4 1
def aOg (P:Program):Tb:=(35,Ru12 P)::(aOf P)
theorem aOh:TbOk Tryz.prog X.G (aOg Tryz.prog):=.cons (by kernel_rfl:_=some (⟨[.agg 2],.v1 .one⟩:Ct)) (aAJ aRq (fun _ _=>X.G_below) 400 (by kernel_rfl) (by kernel_rfl:_=some aC4)) aRq
def aBV (P:Program):Fct:=runT P (aOg P) aBJ 1
def aOi (P:Program):Tb:=(55,aBV P)::(aOg P)
theorem aRr:TbOk Tryz.prog X.G (aOi Tryz.prog):=.cons (by kernel_rfl:_=some (⟨[.one],.v1 (.agg 2)⟩:Ct)) (aAJ aOh (fun _ _=>X.G_below) 400 (by kernel_rfl) (by kernel_rfl:_=some aBJ)) aOh
def Ru14 (P:Program):Fct:=runT P (aOi P) aCG 1
def aOj (P:Program):Tb:=(110,Ru14 P)::(aOi P)
theorem aRs:TbOk Tryz.prog X.G (aOj Tryz.prog):=.cons (by kernel_rfl:_=some (⟨[.agg 2,.agg 2],.v1 (.agg 2)⟩:Ct)) (aAJ aRr (fun _ _=>X.G_below) 400 (by kernel_rfl) (by kernel_rfl:_=some aCG)) aRr
def Ru15 (P:Program):Fct:=runT P (aOj P) aCH 1
def aOk (P:Program):Tb:=(131,Ru15 P)::(aOj P)
theorem aRt:TbOk Tryz.prog X.G (aOk Tryz.prog):=.cons (by kernel_rfl:_=some (⟨[.agg 2,.agg 2],.v1 (.agg 2)⟩:Ct)) (aAJ aRs (fun _ _=>X.G_below) 400 (by kernel_rfl) (by kernel_rfl:_=some aCH)) aRs
def Ru16 (P:Program):Fct:=runT P (aOk P) aCI 1
def aOl (P:Program):Tb:=(79,Ru16 P)::(aOk P)
theorem aRu:TbOk Tryz.prog X.G (aOl Tryz.prog):=.cons (by kernel_rfl:_=some (⟨[.agg 2,.agg 2],.tup [.agg 2,.agg 2,.one]⟩:Ct)) (aAJ aRt (fun _ _=>X.G_below) 400 (by kernel_rfl) (by kernel_rfl:_=some aCI)) aRt
def Ru17 (P:Program):Fct:=runT P (aOl P) aCJ 1
def aOm (P:Program):Tb:=(133,Ru17 P)::(aOl P)
theorem aOn:TbOk Tryz.prog X.G (aOm Tryz.prog):=.cons (by kernel_rfl:_=some (⟨[],.v1 (.agg 2)⟩:Ct)) (aAJ aRu (fun _ _=>X.G_below) 400 (by kernel_rfl) (by kernel_rfl:_=some aCJ)) aRu
def aDS (P:Program):Fct:=runT P (aOm P) aBK 1
def aTT (P:Program):Tb:=(81,aDS P)::(aOm P)
theorem aTU:TbOk Tryz.prog X.G (aTT Tryz.prog):=.cons (by kernel_rfl:_=some (⟨[.agg 2,.agg 2],.tup [.agg 3,.one]⟩:Ct)) (aAJ aOn (fun _ _=>X.G_below) 400 (by kernel_rfl) (by kernel_rfl:_=some aBK)) aOn
theorem aFk:aBV Tryz.prog [i_ 1]=some [b_ false,s_ (⟨#[1]⟩:ByteArray)]:=by kernel_rfl
theorem aJh:aBV Tryz.prog [i_ 2]=some [b_ false,s_ (⟨#[2]⟩:ByteArray)]:=by kernel_rfl
theorem aMh:aBV Tryz.prog [i_ 3]=some [b_ false,s_ (⟨#[3]⟩:ByteArray)]:=by kernel_rfl
theorem aT2:aBV Tryz.prog [i_ 6]=some [b_ false,s_ (⟨#[6]⟩:ByteArray)]:=by kernel_rfl
theorem aNi:aDS Tryz.prog [b_ false,s_ (⟨#[1]⟩:ByteArray),b_ false,s_ (⟨#[2]⟩:ByteArray)]=some [b_ false,s_ (⟨#[1]⟩:ByteArray),s_ (⟨#[2]⟩:ByteArray),b_ true]:=by kernel_rfl
theorem aSr:aDS Tryz.prog [b_ false,s_ (⟨#[1]⟩:ByteArray),b_ false,s_ (⟨#[3]⟩:ByteArray)]=some [b_ false,s_ (⟨#[1]⟩:ByteArray),s_ (⟨#[3]⟩:ByteArray),b_ true]:=by kernel_rfl
theorem aSs:aDS Tryz.prog [b_ false,s_ (⟨#[1]⟩:ByteArray),b_ false,s_ (⟨#[1]⟩:ByteArray)]=some [b_ false,s_ (⟨#[1]⟩:ByteArray),s_ (⟨#[]⟩:ByteArray),b_ true]:=by kernel_rfl
theorem aSt:aDS Tryz.prog [b_ false,s_ (⟨#[2]⟩:ByteArray),b_ false,s_ (⟨#[1]⟩:ByteArray)]=some [b_ false,s_ (⟨#[2]⟩:ByteArray),s_ (⟨#[]⟩:ByteArray),b_ true]:=by kernel_rfl
theorem aSu:aDS Tryz.prog [b_ false,s_ (⟨#[3]⟩:ByteArray),b_ false,s_ (⟨#[1]⟩:ByteArray)]=some [b_ false,s_ (⟨#[3]⟩:ByteArray),s_ (⟨#[]⟩:ByteArray),b_ true]:=by kernel_rfl
theorem aQ6:Sx.Good Tryz.prog X.G 55 ⟨[.one],.v1 (.agg 2)⟩ (aBV Tryz.prog):=aAJ aOh (fun _ _=>X.G_below) 400 (by kernel_rfl) (by kernel_rfl:_=some aBJ)
theorem run_make:Sx.Good Tryz.prog X.G 81 ⟨[.agg 2,.agg 2],.tup [.agg 3,.one]⟩ (aDS Tryz.prog):=aAJ aOn (fun _ _=>X.G_below) 400 (by kernel_rfl) (by kernel_rfl:_=some aBK)
end Go.Proofs.YtjefbecmeobegaaGreatDoor.Sp
