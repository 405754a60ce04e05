import Derived.Test.YtjefbecmeobegaaGreatDoorSx2
import Derived.Test.YtjefbecmeobegaaGreatDoorSpN
import Derived.Test.YtjefbecmeobegaaGreatDoorTr1
namespace Go.Proofs.YtjefbecmeobegaaGreatDoor.Sp
open Go Go.RowKit Sx
def runT (P:Program) (tb:Tb) (t:T):Nat→Fct
 | 0=>fun _=>none
 | n+1=>fun ds=>match t.run P (aBh tb) 300 [] ds with
  | some r=>some r
  | none=>runT P tb t n ds
theorem aMi {P:Program} {tb:Tb} {t:T} {ds r:List D}:∀ {n:Nat},runT P tb t n ds=some r→t.run P (aBh tb) 300 [] ds=some r
 | 0,h=>by cases h
 | n+1,h=>by
  unfold runT at h
  split at h
  ·rw [← h]
   assumption
  ·exact aMi h
theorem aAU {P:Program} {G:World→Prop} {tb:Tb} (h:TbOk P G tb) (hG:∀ w w',G w→Below w.heap.size w w'→G w') (N:Nat) {f:FuncId} {ct:Ct} {t:T} (hc:aHe P f=some ct) (ht:aIA P (tb.map (·.1)) N f=some t):Sx.Good P G f ct (runT P tb t 1):=aAf h hG N hc ht fun _ _ h=>⟨300,aMi h⟩
def Ru0 (P:Program):Fct:=runT P ([]:Tb) aC5 1
def aQL (P:Program):Tb:=(95,Ru0 P)::([]:Tb)
theorem okC0:TbOk Tryz.prog X.G (aQL Tryz.prog):=.cons (by kernel_rfl:_=some (⟨[.one],.v1 .one⟩:Ct)) (aAU (tb:=[]) trivial (fun _ _=>X.G_below) 400 (by kernel_rfl) (by kernel_rfl:_=some aC5)) trivial
def Ru1 (P:Program):Fct:=runT P (aQL P) aDd 1
def aQM (P:Program):Tb:=(142,Ru1 P)::(aQL P)
theorem okC1:TbOk Tryz.prog X.G (aQM Tryz.prog):=.cons (by kernel_rfl:_=some (⟨[.one,.one],.v1 .one⟩:Ct)) (aAU okC0 (fun _ _=>X.G_below) 400 (by kernel_rfl) (by kernel_rfl:_=some aDd)) okC0
def Ru2 (P:Program):Fct:=runT P (aQM P) aCJ 1
def aQN (P:Program):Tb:=(155,Ru2 P)::(aQM P)
theorem okC2:TbOk Tryz.prog X.G (aQN Tryz.prog):=.cons (by kernel_rfl:_=some (⟨[.one,.one],.v1 .one⟩:Ct)) (aAU okC1 (fun _ _=>X.G_below) 400 (by kernel_rfl) (by kernel_rfl:_=some aCJ)) okC1
def Ru3 (P:Program):Fct:=runT P (aQN P) aCK 1
def aQO (P:Program):Tb:=(144,Ru3 P)::(aQN P)
theorem okC3:TbOk Tryz.prog X.G (aQO Tryz.prog):=.cons (by kernel_rfl:_=some (⟨[.one,.one],.v1 .one⟩:Ct)) (aAU okC2 (fun _ _=>X.G_below) 400 (by kernel_rfl) (by kernel_rfl:_=some aCK)) okC2
def Ru4 (P:Program):Fct:=runT P (aQO P) aCM 1
def aQP (P:Program):Tb:=(145,Ru4 P)::(aQO P)
theorem okC4:TbOk Tryz.prog X.G (aQP Tryz.prog):=.cons (by kernel_rfl:_=some (⟨[.one,.one],.tup [.one,.one]⟩:Ct)) (aAU okC3 (fun _ _=>X.G_below) 400 (by kernel_rfl) (by kernel_rfl:_=some aCM)) okC3
def Ru5 (P:Program):Fct:=runT P (aQP P) aCL 1
def aQQ (P:Program):Tb:=(97,Ru5 P)::(aQP P)
theorem okC5:TbOk Tryz.prog X.G (aQQ Tryz.prog):=.cons (by kernel_rfl:_=some (⟨[.one,.one],.v1 .one⟩:Ct)) (aAU okC4 (fun _ _=>X.G_below) 400 (by kernel_rfl) (by kernel_rfl:_=some aCL)) okC4
def Ru6 (P:Program):Fct:=runT P (aQQ P) aDc 1
def aQR (P:Program):Tb:=(111,Ru6 P)::(aQQ P)
theorem okC6:TbOk Tryz.prog X.G (aQR Tryz.prog):=.cons (by kernel_rfl:_=some (⟨[.one],.v1 .one⟩:Ct)) (aAU okC5 (fun _ _=>X.G_below) 400 (by kernel_rfl) (by kernel_rfl:_=some aDc)) okC5
def Ru7 (P:Program):Fct:=runT P (aQR P) aCN 1
def aQS (P:Program):Tb:=(130,Ru7 P)::(aQR P)
theorem okC7:TbOk Tryz.prog X.G (aQS Tryz.prog):=.cons (by kernel_rfl:_=some (⟨[.one,.one],.tup [.one,.one,.one]⟩:Ct)) (aAU okC6 (fun _ _=>X.G_below) 400 (by kernel_rfl) (by kernel_rfl:_=some aCN)) okC6
def Ru8 (P:Program):Fct:=runT P (aQS P) aCO 1
def aQT (P:Program):Tb:=(129,Ru8 P)::(aQS P)
theorem okC8:TbOk Tryz.prog X.G (aQT Tryz.prog):=.cons (by kernel_rfl:_=some (⟨[.one,.one],.v1 .one⟩:Ct)) (aAU okC7 (fun _ _=>X.G_below) 400 (by kernel_rfl) (by kernel_rfl:_=some aCO)) okC7
def Ru9 (P:Program):Fct:=runT P (aQT P) aDb 1
def aQU (P:Program):Tb:=(96,Ru9 P)::(aQT P)
theorem okC9:TbOk Tryz.prog X.G (aQU Tryz.prog):=.cons (by kernel_rfl:_=some (⟨[.one,.one],.v1 (.agg 2)⟩:Ct)) (aAU okC8 (fun _ _=>X.G_below) 400 (by kernel_rfl) (by kernel_rfl:_=some aDb)) okC8
def Ru10 (P:Program):Fct:=runT P (aQU P) aC2 1
def aOn (P:Program):Tb:=(76,Ru10 P)::(aQU P)
theorem aRJ:TbOk Tryz.prog X.G (aOn Tryz.prog):=.cons (by kernel_rfl:_=some (⟨[.agg 2],.v1 (.agg 2)⟩:Ct)) (aAU okC9 (fun _ _=>X.G_below) 400 (by kernel_rfl) (by kernel_rfl:_=some aC2)) okC9
def Ru11 (P:Program):Fct:=runT P (aOn P) aCF 1
def aOo (P:Program):Tb:=(78,Ru11 P)::(aOn P)
theorem aRK:TbOk Tryz.prog X.G (aOo Tryz.prog):=.cons (by kernel_rfl:_=some (⟨[.agg 2],.v1 (.agg 2)⟩:Ct)) (aAU aRJ (fun _ _=>X.G_below) 400 (by kernel_rfl) (by kernel_rfl:_=some aCF)) aRJ
def Ru12 (P:Program):Fct:=runT P (aOo P) aC3 1
def aOp (P:Program):Tb:=(35,Ru12 P)::(aOo P)
theorem aRL:TbOk Tryz.prog X.G (aOp Tryz.prog):=.cons (by kernel_rfl:_=some (⟨[.agg 2],.v1 .one⟩:Ct)) (aAU aRK (fun _ _=>X.G_below) 400 (by kernel_rfl) (by kernel_rfl:_=some aC3)) aRK
def Ru13 (P:Program):Fct:=runT P (aOp P) aC4 1
def aOq (P:Program):Tb:=(55,Ru13 P)::(aOp P)
theorem aRM:TbOk Tryz.prog X.G (aOq Tryz.prog):=.cons (by kernel_rfl:_=some (⟨[.one],.v1 (.agg 2)⟩:Ct)) (aAU aRL (fun _ _=>X.G_below) 400 (by kernel_rfl) (by kernel_rfl:_=some aC4)) aRL
def Ru14 (P:Program):Fct:=runT P (aOq P) aCG 1
def aOr (P:Program):Tb:=(110,Ru14 P)::(aOq P)
theorem aRN:TbOk Tryz.prog X.G (aOr Tryz.prog):=.cons (by kernel_rfl:_=some (⟨[.agg 2,.agg 2],.v1 (.agg 2)⟩:Ct)) (aAU aRM (fun _ _=>X.G_below) 400 (by kernel_rfl) (by kernel_rfl:_=some aCG)) aRM
def Ru15 (P:Program):Fct:=runT P (aOr P) aCH 1
def aOs (P:Program):Tb:=(131,Ru15 P)::(aOr P)
theorem aRO:TbOk Tryz.prog X.G (aOs Tryz.prog):=.cons (by kernel_rfl:_=some (⟨[.agg 2,.agg 2],.v1 (.agg 2)⟩:Ct)) (aAU aRN (fun _ _=>X.G_below) 400 (by kernel_rfl) (by kernel_rfl:_=some aCH)) aRN
def Ru16 (P:Program):Fct:=runT P (aOs P) aCI 1
def aOt (P:Program):Tb:=(79,Ru16 P)::(aOs P)
theorem aRP:TbOk Tryz.prog X.G (aOt Tryz.prog):=.cons (by kernel_rfl:_=some (⟨[.agg 2,.agg 2],.tup [.agg 2,.agg 2,.one]⟩:Ct)) (aAU aRO (fun _ _=>X.G_below) 400 (by kernel_rfl) (by kernel_rfl:_=some aCI)) aRO
def Ru17 (P:Program):Fct:=runT P (aOt P) aDM 1
def aRQ (P:Program):Tb:=(133,Ru17 P)::(aOt P)
theorem aTW:TbOk Tryz.prog X.G (aRQ Tryz.prog):=.cons (by kernel_rfl:_=some (⟨[],.v1 (.agg 2)⟩:Ct)) (aAU aRP (fun _ _=>X.G_below) 400 (by kernel_rfl) (by kernel_rfl:_=some aDM)) aRP
def Ru18 (P:Program):Fct:=runT P (aRQ P) aDI 1
theorem run_make:Sx.Good Tryz.prog X.G 81 ⟨[.agg 2,.agg 2],.tup [.agg 3,.one]⟩ (Ru18 Tryz.prog):=aAU aTW (fun _ _=>X.G_below) 400 (by kernel_rfl) (by kernel_rfl:_=some aDI)
end Go.Proofs.YtjefbecmeobegaaGreatDoor.Sp
