import Derived.Test.YtjefbecmeobegaaGreatDoorSx2
import Derived.Test.YtjefbecmeobegaaGreatDoorSpN
import Derived.Test.YtjefbecmeobegaaGreatDoorTr1
namespace Go.Proofs.YtjefbecmeobegaaGreatDoor.Sp
open Go Go.RowKit Sx
def runT (P:Program) (tb:Tb) (t:T):Nat→Fct
 | 0=>fun _=>none
 | n+1=>fun ds=>match t.run P (aBs tb) 300 [] ds with
  | some r=>some r
  | none=>runT P tb t n ds
theorem aMB {P:Program} {tb:Tb} {t:T} {ds r:List D}:∀ {n:Nat},runT P tb t n ds=some r→t.run P (aBs tb) 300 [] ds=some r
 | 0,h=>by cases h
 | n+1,h=>by
  unfold runT at h
  split at h
  ·rw [← h]
   assumption
  ·exact aMB h
theorem aAZ {P:Program} {G:World→Prop} {tb:Tb} (h:TbOk P G tb) (hG:∀ w w',G w→Below w.heap.size w w'→G w') (N:Nat) {f:FuncId} {ct:Ct} {t:T} (hc:aHs P f=some ct) (ht:aJb P (tb.map (·.1)) N f=some t):Sx.Good P G f ct (runT P tb t 1):=aAe h hG N hc ht fun _ _ h=>⟨300,aMB h⟩
def Ru0 (P:Program):Fct:=runT P ([]:Tb) aCH 1
def aRf (P:Program):Tb:=(95,Ru0 P)::([]:Tb)
theorem okC0:TbOk Tryz.prog X.G (aRf Tryz.prog):=.cons (by kernel_rfl:_=some (⟨[.one],.v1 .one⟩:Ct)) (aAZ (tb:=[]) trivial (fun _ _=>X.G_below) 400 (by kernel_rfl) (by kernel_rfl:_=some aCH)) trivial
def Ru1 (P:Program):Fct:=runT P (aRf P) aDj 1
def aRg (P:Program):Tb:=(142,Ru1 P)::(aRf P)
theorem okC1:TbOk Tryz.prog X.G (aRg Tryz.prog):=.cons (by kernel_rfl:_=some (⟨[.one,.one],.v1 .one⟩:Ct)) (aAZ okC0 (fun _ _=>X.G_below) 400 (by kernel_rfl) (by kernel_rfl:_=some aDj)) okC0
def Ru2 (P:Program):Fct:=runT P (aRg P) aCS 1
def aRh (P:Program):Tb:=(155,Ru2 P)::(aRg P)
theorem okC2:TbOk Tryz.prog X.G (aRh Tryz.prog):=.cons (by kernel_rfl:_=some (⟨[.one,.one],.v1 .one⟩:Ct)) (aAZ okC1 (fun _ _=>X.G_below) 400 (by kernel_rfl) (by kernel_rfl:_=some aCS)) okC1
def Ru3 (P:Program):Fct:=runT P (aRh P) aCT 1
def aRi (P:Program):Tb:=(144,Ru3 P)::(aRh P)
theorem okC3:TbOk Tryz.prog X.G (aRi Tryz.prog):=.cons (by kernel_rfl:_=some (⟨[.one,.one],.v1 .one⟩:Ct)) (aAZ okC2 (fun _ _=>X.G_below) 400 (by kernel_rfl) (by kernel_rfl:_=some aCT)) okC2
def Ru4 (P:Program):Fct:=runT P (aRi P) aCV 1
def aRj (P:Program):Tb:=(145,Ru4 P)::(aRi P)
theorem okC4:TbOk Tryz.prog X.G (aRj Tryz.prog):=.cons (by kernel_rfl:_=some (⟨[.one,.one],.tup [.one,.one]⟩:Ct)) (aAZ okC3 (fun _ _=>X.G_below) 400 (by kernel_rfl) (by kernel_rfl:_=some aCV)) okC3
def Ru5 (P:Program):Fct:=runT P (aRj P) aCU 1
def aRk (P:Program):Tb:=(97,Ru5 P)::(aRj P)
theorem okC5:TbOk Tryz.prog X.G (aRk Tryz.prog):=.cons (by kernel_rfl:_=some (⟨[.one,.one],.v1 .one⟩:Ct)) (aAZ okC4 (fun _ _=>X.G_below) 400 (by kernel_rfl) (by kernel_rfl:_=some aCU)) okC4
def Ru6 (P:Program):Fct:=runT P (aRk P) aDi 1
def aRl (P:Program):Tb:=(111,Ru6 P)::(aRk P)
theorem okC6:TbOk Tryz.prog X.G (aRl Tryz.prog):=.cons (by kernel_rfl:_=some (⟨[.one],.v1 .one⟩:Ct)) (aAZ okC5 (fun _ _=>X.G_below) 400 (by kernel_rfl) (by kernel_rfl:_=some aDi)) okC5
def Ru7 (P:Program):Fct:=runT P (aRl P) aCW 1
def aRm (P:Program):Tb:=(130,Ru7 P)::(aRl P)
theorem okC7:TbOk Tryz.prog X.G (aRm Tryz.prog):=.cons (by kernel_rfl:_=some (⟨[.one,.one],.tup [.one,.one,.one]⟩:Ct)) (aAZ okC6 (fun _ _=>X.G_below) 400 (by kernel_rfl) (by kernel_rfl:_=some aCW)) okC6
def Ru8 (P:Program):Fct:=runT P (aRm P) aCX 1
def aRn (P:Program):Tb:=(129,Ru8 P)::(aRm P)
theorem okC8:TbOk Tryz.prog X.G (aRn Tryz.prog):=.cons (by kernel_rfl:_=some (⟨[.one,.one],.v1 .one⟩:Ct)) (aAZ okC7 (fun _ _=>X.G_below) 400 (by kernel_rfl) (by kernel_rfl:_=some aCX)) okC7
def Ru9 (P:Program):Fct:=runT P (aRn P) aDh 1
def aRo (P:Program):Tb:=(96,Ru9 P)::(aRn P)
theorem okC9:TbOk Tryz.prog X.G (aRo Tryz.prog):=.cons (by kernel_rfl:_=some (⟨[.one,.one],.v1 (.agg 2)⟩:Ct)) (aAZ okC8 (fun _ _=>X.G_below) 400 (by kernel_rfl) (by kernel_rfl:_=some aDh)) okC8
def Ru10 (P:Program):Fct:=runT P (aRo P) aCD 1
def aOD (P:Program):Tb:=(76,Ru10 P)::(aRo P)
theorem aSd:TbOk Tryz.prog X.G (aOD Tryz.prog):=.cons (by kernel_rfl:_=some (⟨[.agg 2],.v1 (.agg 2)⟩:Ct)) (aAZ okC9 (fun _ _=>X.G_below) 400 (by kernel_rfl) (by kernel_rfl:_=some aCD)) okC9
def Ru11 (P:Program):Fct:=runT P (aOD P) aCN 1
def aOE (P:Program):Tb:=(78,Ru11 P)::(aOD P)
theorem aSe:TbOk Tryz.prog X.G (aOE Tryz.prog):=.cons (by kernel_rfl:_=some (⟨[.agg 2],.v1 (.agg 2)⟩:Ct)) (aAZ aSd (fun _ _=>X.G_below) 400 (by kernel_rfl) (by kernel_rfl:_=some aCN)) aSd
def Ru12 (P:Program):Fct:=runT P (aOE P) aCE 1
def aOF (P:Program):Tb:=(35,Ru12 P)::(aOE P)
theorem aSf:TbOk Tryz.prog X.G (aOF Tryz.prog):=.cons (by kernel_rfl:_=some (⟨[.agg 2],.v1 .one⟩:Ct)) (aAZ aSe (fun _ _=>X.G_below) 400 (by kernel_rfl) (by kernel_rfl:_=some aCE)) aSe
def Ru13 (P:Program):Fct:=runT P (aOF P) aCF 1
def aOG (P:Program):Tb:=(55,Ru13 P)::(aOF P)
theorem aSg:TbOk Tryz.prog X.G (aOG Tryz.prog):=.cons (by kernel_rfl:_=some (⟨[.one],.v1 (.agg 2)⟩:Ct)) (aAZ aSf (fun _ _=>X.G_below) 400 (by kernel_rfl) (by kernel_rfl:_=some aCF)) aSf
def Ru14 (P:Program):Fct:=runT P (aOG P) aCO 1
def aOH (P:Program):Tb:=(110,Ru14 P)::(aOG P)
theorem aSh:TbOk Tryz.prog X.G (aOH Tryz.prog):=.cons (by kernel_rfl:_=some (⟨[.agg 2,.agg 2],.v1 (.agg 2)⟩:Ct)) (aAZ aSg (fun _ _=>X.G_below) 400 (by kernel_rfl) (by kernel_rfl:_=some aCO)) aSg
def Ru15 (P:Program):Fct:=runT P (aOH P) aCP 1
def aOI (P:Program):Tb:=(131,Ru15 P)::(aOH P)
theorem aSi:TbOk Tryz.prog X.G (aOI Tryz.prog):=.cons (by kernel_rfl:_=some (⟨[.agg 2,.agg 2],.v1 (.agg 2)⟩:Ct)) (aAZ aSh (fun _ _=>X.G_below) 400 (by kernel_rfl) (by kernel_rfl:_=some aCP)) aSh
def Ru16 (P:Program):Fct:=runT P (aOI P) aCQ 1
def aOJ (P:Program):Tb:=(79,Ru16 P)::(aOI P)
theorem aSj:TbOk Tryz.prog X.G (aOJ Tryz.prog):=.cons (by kernel_rfl:_=some (⟨[.agg 2,.agg 2],.tup [.agg 2,.agg 2,.one]⟩:Ct)) (aAZ aSi (fun _ _=>X.G_below) 400 (by kernel_rfl) (by kernel_rfl:_=some aCQ)) aSi
def Ru17 (P:Program):Fct:=runT P (aOJ P) aCR 1
def aSk (P:Program):Tb:=(133,Ru17 P)::(aOJ P)
theorem aU6:TbOk Tryz.prog X.G (aSk Tryz.prog):=.cons (by kernel_rfl:_=some (⟨[],.v1 (.agg 2)⟩:Ct)) (aAZ aSj (fun _ _=>X.G_below) 400 (by kernel_rfl) (by kernel_rfl:_=some aCR)) aSj
def Ru18 (P:Program):Fct:=runT P (aSk P) aCG 1
theorem run_make:Sx.Good Tryz.prog X.G 81 ⟨[.agg 2,.agg 2],.tup [.agg 3,.one]⟩ (Ru18 Tryz.prog):=aAZ aU6 (fun _ _=>X.G_below) 400 (by kernel_rfl) (by kernel_rfl:_=some aCG)
end Go.Proofs.YtjefbecmeobegaaGreatDoor.Sp
