import Derived.Test.YtjefbecmeobegaaGreatDoorSx2
import Derived.Test.YtjefbecmeobegaaGreatDoorSpN
import Derived.Test.YtjefbecmeobegaaGreatDoorTr1
namespace Go.Proofs.YtjefbecmeobegaaGreatDoor.Sp
open Go Go.RowKit Sx
def runT (P:Program) (tb:Tb) (t:T):Nat->Fct
 | 0=>λ _=>none
 | n+1=>λ ds=>match t.run P (aBu tb) 300 [] ds with
  | some r=>some r
  | none=>runT P tb t n ds
theorem aMA {P:Program} {tb:Tb} {t:T} {ds r:List D}:∀ {n:Nat},runT P tb t n ds=some r->t.run P (aBu tb) 300 [] ds=some r
 | 0,h=>by cases h
 | n+1,h=>by
  unfold runT at h
  split at h
  ·rw [<- h]
   assumption
  ·exact aMA h
theorem aBa {P:Program} {G:World->Prop} {tb:Tb} (h:TbOk P G tb) (hG:∀ w w',G w->Below w.heap.size w w'->G w') (N:Nat) {f:FuncId} {ct:Ct} {t:T} (hc:aH3 P f=some ct) (ht:aJb P (tb.map (·.1)) N f=some t):Sx.Good P G f ct (runT P tb t 1):=aAe h hG N hc ht λ _ _ h=>⟨300,aMA h⟩
def Ru0 (P:Program):Fct:=runT P ([]:Tb) aCK 1
def aRh (P:Program):Tb:=(95,Ru0 P)::([]:Tb)
theorem okC0:TbOk Tryz.prog X.G (aRh Tryz.prog):=.cons (by kernel_rfl:_=some (⟨[.one],.v1 .one⟩:Ct)) (aBa (tb:=[]) trivial (λ _ _=>X.G_below) 400 kK (by kernel_rfl:_=some aCK)) trivial
def Ru1 (P:Program):Fct:=runT P (aRh P) aDq 1
def aRi (P:Program):Tb:=(142,Ru1 P)::(aRh P)
theorem okC1:TbOk Tryz.prog X.G (aRi Tryz.prog):=.cons (by kernel_rfl:_=some (⟨[.one,.one],.v1 .one⟩:Ct)) (aBa okC0 (λ _ _=>X.G_below) 400 kK (by kernel_rfl:_=some aDq)) okC0
def Ru2 (P:Program):Fct:=runT P (aRi P) aCX 1
def aRj (P:Program):Tb:=(155,Ru2 P)::(aRi P)
theorem okC2:TbOk Tryz.prog X.G (aRj Tryz.prog):=.cons (by kernel_rfl:_=some (⟨[.one,.one],.v1 .one⟩:Ct)) (aBa okC1 (λ _ _=>X.G_below) 400 kK (by kernel_rfl:_=some aCX)) okC1
def Ru3 (P:Program):Fct:=runT P (aRj P) aCY 1
def aRk (P:Program):Tb:=(144,Ru3 P)::(aRj P)
theorem okC3:TbOk Tryz.prog X.G (aRk Tryz.prog):=.cons (by kernel_rfl:_=some (⟨[.one,.one],.v1 .one⟩:Ct)) (aBa okC2 (λ _ _=>X.G_below) 400 kK (by kernel_rfl:_=some aCY)) okC2
def Ru4 (P:Program):Fct:=runT P (aRk P) aDa 1
def aRl (P:Program):Tb:=(145,Ru4 P)::(aRk P)
theorem okC4:TbOk Tryz.prog X.G (aRl Tryz.prog):=.cons (by kernel_rfl:_=some (⟨[.one,.one],.tup [.one,.one]⟩:Ct)) (aBa okC3 (λ _ _=>X.G_below) 400 kK (by kernel_rfl:_=some aDa)) okC3
def Ru5 (P:Program):Fct:=runT P (aRl P) aCZ 1
def aRm (P:Program):Tb:=(97,Ru5 P)::(aRl P)
theorem okC5:TbOk Tryz.prog X.G (aRm Tryz.prog):=.cons (by kernel_rfl:_=some (⟨[.one,.one],.v1 .one⟩:Ct)) (aBa okC4 (λ _ _=>X.G_below) 400 kK (by kernel_rfl:_=some aCZ)) okC4
def Ru6 (P:Program):Fct:=runT P (aRm P) aDp 1
def aRn (P:Program):Tb:=(111,Ru6 P)::(aRm P)
theorem okC6:TbOk Tryz.prog X.G (aRn Tryz.prog):=.cons (by kernel_rfl:_=some (⟨[.one],.v1 .one⟩:Ct)) (aBa okC5 (λ _ _=>X.G_below) 400 kK (by kernel_rfl:_=some aDp)) okC5
def Ru7 (P:Program):Fct:=runT P (aRn P) aDb 1
def aRo (P:Program):Tb:=(130,Ru7 P)::(aRn P)
theorem okC7:TbOk Tryz.prog X.G (aRo Tryz.prog):=.cons (by kernel_rfl:_=some (⟨[.one,.one],.tup [.one,.one,.one]⟩:Ct)) (aBa okC6 (λ _ _=>X.G_below) 400 kK (by kernel_rfl:_=some aDb)) okC6
def Ru8 (P:Program):Fct:=runT P (aRo P) aDc 1
def aRp (P:Program):Tb:=(129,Ru8 P)::(aRo P)
theorem okC8:TbOk Tryz.prog X.G (aRp Tryz.prog):=.cons (by kernel_rfl:_=some (⟨[.one,.one],.v1 .one⟩:Ct)) (aBa okC7 (λ _ _=>X.G_below) 400 kK (by kernel_rfl:_=some aDc)) okC7
def Ru9 (P:Program):Fct:=runT P (aRp P) aDo 1
def aRq (P:Program):Tb:=(96,Ru9 P)::(aRp P)
theorem okC9:TbOk Tryz.prog X.G (aRq Tryz.prog):=.cons (by kernel_rfl:_=some (⟨[.one,.one],.v1 (.agg 2)⟩:Ct)) (aBa okC8 (λ _ _=>X.G_below) 400 kK (by kernel_rfl:_=some aDo)) okC8
def Ru10 (P:Program):Fct:=runT P (aRq P) aCG 1
def aOC (P:Program):Tb:=(76,Ru10 P)::(aRq P)
theorem aSi:TbOk Tryz.prog X.G (aOC Tryz.prog):=.cons (by kernel_rfl:_=some (⟨[.agg 2],.v1 (.agg 2)⟩:Ct)) (aBa okC9 (λ _ _=>X.G_below) 400 kK (by kernel_rfl:_=some aCG)) okC9
def Ru11 (P:Program):Fct:=runT P (aOC P) aCS 1
def aOD (P:Program):Tb:=(78,Ru11 P)::(aOC P)
theorem aSj:TbOk Tryz.prog X.G (aOD Tryz.prog):=.cons (by kernel_rfl:_=some (⟨[.agg 2],.v1 (.agg 2)⟩:Ct)) (aBa aSi (λ _ _=>X.G_below) 400 kK (by kernel_rfl:_=some aCS)) aSi
def Ru12 (P:Program):Fct:=runT P (aOD P) aCH 1
def aOE (P:Program):Tb:=(35,Ru12 P)::(aOD P)
theorem aSk:TbOk Tryz.prog X.G (aOE Tryz.prog):=.cons (by kernel_rfl:_=some (⟨[.agg 2],.v1 .one⟩:Ct)) (aBa aSj (λ _ _=>X.G_below) 400 kK (by kernel_rfl:_=some aCH)) aSj
def Ru13 (P:Program):Fct:=runT P (aOE P) aCI 1
def aOF (P:Program):Tb:=(55,Ru13 P)::(aOE P)
theorem aSl:TbOk Tryz.prog X.G (aOF Tryz.prog):=.cons (by kernel_rfl:_=some (⟨[.one],.v1 (.agg 2)⟩:Ct)) (aBa aSk (λ _ _=>X.G_below) 400 kK (by kernel_rfl:_=some aCI)) aSk
def Ru14 (P:Program):Fct:=runT P (aOF P) aCT 1
def aOG (P:Program):Tb:=(110,Ru14 P)::(aOF P)
theorem aSm:TbOk Tryz.prog X.G (aOG Tryz.prog):=.cons (by kernel_rfl:_=some (⟨[.agg 2,.agg 2],.v1 (.agg 2)⟩:Ct)) (aBa aSl (λ _ _=>X.G_below) 400 kK (by kernel_rfl:_=some aCT)) aSl
def Ru15 (P:Program):Fct:=runT P (aOG P) aCU 1
def aOH (P:Program):Tb:=(131,Ru15 P)::(aOG P)
theorem aSn:TbOk Tryz.prog X.G (aOH Tryz.prog):=.cons (by kernel_rfl:_=some (⟨[.agg 2,.agg 2],.v1 (.agg 2)⟩:Ct)) (aBa aSm (λ _ _=>X.G_below) 400 kK (by kernel_rfl:_=some aCU)) aSm
def Ru16 (P:Program):Fct:=runT P (aOH P) aCV 1
def aOI (P:Program):Tb:=(79,Ru16 P)::(aOH P)
theorem aSo:TbOk Tryz.prog X.G (aOI Tryz.prog):=.cons (by kernel_rfl:_=some (⟨[.agg 2,.agg 2],.tup [.agg 2,.agg 2,.one]⟩:Ct)) (aBa aSn (λ _ _=>X.G_below) 400 kK (by kernel_rfl:_=some aCV)) aSn
def Ru17 (P:Program):Fct:=runT P (aOI P) aCW 1
def aSp (P:Program):Tb:=(133,Ru17 P)::(aOI P)
theorem aUJ:TbOk Tryz.prog X.G (aSp Tryz.prog):=.cons (by kernel_rfl:_=some (⟨[],.v1 (.agg 2)⟩:Ct)) (aBa aSo (λ _ _=>X.G_below) 400 kK (by kernel_rfl:_=some aCW)) aSo
def Ru18 (P:Program):Fct:=runT P (aSp P) aCJ 1
theorem run_make:Sx.Good Tryz.prog X.G 81 ⟨[.agg 2,.agg 2],.tup [.agg 3,.one]⟩ (Ru18 Tryz.prog):=aBa aUJ (λ _ _=>X.G_below) 400 kK (by kernel_rfl:_=some aCJ)
end Go.Proofs.YtjefbecmeobegaaGreatDoor.Sp
