import Derived.Test.YtjefbecmeobegaaGreatDoorSx2
import Derived.Test.YtjefbecmeobegaaGreatDoorSpN
import Derived.Test.YtjefbecmeobegaaGreatDoorTr1
namespace Go.Proofs.YtjefbecmeobegaaGreatDoor.Sp
open Go Go.RowKit Sx
def runT (P:Program) (tb:Tb) (t:T):Nat->Fct
 | 0=>λ _=>none
 | n+1=>λ ds=>match t.run P (aBp tb) 300 [] ds with
  | some r=>some r
  | none=>runT P tb t n ds
theorem aMF {P:Program} {tb:Tb} {t:T} {ds r:List D}:∀ {n:Nat},runT P tb t n ds=some r->t.run P (aBp tb) 300 [] ds=some r
 | 0,h=>by cases h
 | n+1,h=>by
  unfold runT at h
  split at h
  ·rw [<- h]
   assumption
  ·exact aMF h
theorem aAX {P:Program} {G:World->Prop} {tb:Tb} (h:TbOk P G tb) (hG:∀ w w',G w->Below w.heap.size w w'->G w') (N:Nat) {f:FuncId} {ct:Ct} {t:T} (hc:aH0 P f=some ct) (ht:aJf P (tb.map (·.1)) N f=some t):Sx.Good P G f ct (runT P tb t 1):=aAe h hG N hc ht λ _ _ h=>⟨300,aMF h⟩
def Ru0 (P:Program):Fct:=runT P ([]:Tb) aCK 1
def aRv (P:Program):Tb:=(95,Ru0 P)::([]:Tb)
theorem okC0:TbOk Tryz.prog X.G (aRv Tryz.prog):=.cons (by kernel_rfl:_=some (⟨[.one],.v1 .one⟩:Ct)) (aAX (tb:=[]) trivial (λ _ _=>X.G_below) 400 kK (by kernel_rfl:_=some aCK)) trivial
def Ru1 (P:Program):Fct:=runT P (aRv P) aDo 1
def aRw (P:Program):Tb:=(142,Ru1 P)::(aRv P)
theorem okC1:TbOk Tryz.prog X.G (aRw Tryz.prog):=.cons (by kernel_rfl:_=some (⟨[.one,.one],.v1 .one⟩:Ct)) (aAX okC0 (λ _ _=>X.G_below) 400 kK (by kernel_rfl:_=some aDo)) okC0
def Ru2 (P:Program):Fct:=runT P (aRw P) aCW 1
def aRx (P:Program):Tb:=(155,Ru2 P)::(aRw P)
theorem okC2:TbOk Tryz.prog X.G (aRx Tryz.prog):=.cons (by kernel_rfl:_=some (⟨[.one,.one],.v1 .one⟩:Ct)) (aAX okC1 (λ _ _=>X.G_below) 400 kK (by kernel_rfl:_=some aCW)) okC1
def Ru3 (P:Program):Fct:=runT P (aRx P) aCX 1
def aRy (P:Program):Tb:=(144,Ru3 P)::(aRx P)
theorem okC3:TbOk Tryz.prog X.G (aRy Tryz.prog):=.cons (by kernel_rfl:_=some (⟨[.one,.one],.v1 .one⟩:Ct)) (aAX okC2 (λ _ _=>X.G_below) 400 kK (by kernel_rfl:_=some aCX)) okC2
def Ru4 (P:Program):Fct:=runT P (aRy P) aCZ 1
def aRz (P:Program):Tb:=(145,Ru4 P)::(aRy P)
theorem okC4:TbOk Tryz.prog X.G (aRz Tryz.prog):=.cons (by kernel_rfl:_=some (⟨[.one,.one],.tup [.one,.one]⟩:Ct)) (aAX okC3 (λ _ _=>X.G_below) 400 kK (by kernel_rfl:_=some aCZ)) okC3
def Ru5 (P:Program):Fct:=runT P (aRz P) aCY 1
def aR0 (P:Program):Tb:=(97,Ru5 P)::(aRz P)
theorem okC5:TbOk Tryz.prog X.G (aR0 Tryz.prog):=.cons (by kernel_rfl:_=some (⟨[.one,.one],.v1 .one⟩:Ct)) (aAX okC4 (λ _ _=>X.G_below) 400 kK (by kernel_rfl:_=some aCY)) okC4
def Ru6 (P:Program):Fct:=runT P (aR0 P) aDn 1
def aR1 (P:Program):Tb:=(111,Ru6 P)::(aR0 P)
theorem okC6:TbOk Tryz.prog X.G (aR1 Tryz.prog):=.cons (by kernel_rfl:_=some (⟨[.one],.v1 .one⟩:Ct)) (aAX okC5 (λ _ _=>X.G_below) 400 kK (by kernel_rfl:_=some aDn)) okC5
def Ru7 (P:Program):Fct:=runT P (aR1 P) aDa 1
def aR2 (P:Program):Tb:=(130,Ru7 P)::(aR1 P)
theorem okC7:TbOk Tryz.prog X.G (aR2 Tryz.prog):=.cons (by kernel_rfl:_=some (⟨[.one,.one],.tup [.one,.one,.one]⟩:Ct)) (aAX okC6 (λ _ _=>X.G_below) 400 kK (by kernel_rfl:_=some aDa)) okC6
def Ru8 (P:Program):Fct:=runT P (aR2 P) aDb 1
def aR3 (P:Program):Tb:=(129,Ru8 P)::(aR2 P)
theorem okC8:TbOk Tryz.prog X.G (aR3 Tryz.prog):=.cons (by kernel_rfl:_=some (⟨[.one,.one],.v1 .one⟩:Ct)) (aAX okC7 (λ _ _=>X.G_below) 400 kK (by kernel_rfl:_=some aDb)) okC7
def Ru9 (P:Program):Fct:=runT P (aR3 P) aDm 1
def aR4 (P:Program):Tb:=(96,Ru9 P)::(aR3 P)
theorem okC9:TbOk Tryz.prog X.G (aR4 Tryz.prog):=.cons (by kernel_rfl:_=some (⟨[.one,.one],.v1 (.agg 2)⟩:Ct)) (aAX okC8 (λ _ _=>X.G_below) 400 kK (by kernel_rfl:_=some aDm)) okC8
def Ru10 (P:Program):Fct:=runT P (aR4 P) aCG 1
def aOI (P:Program):Tb:=(76,Ru10 P)::(aR4 P)
theorem aSx:TbOk Tryz.prog X.G (aOI Tryz.prog):=.cons (by kernel_rfl:_=some (⟨[.agg 2],.v1 (.agg 2)⟩:Ct)) (aAX okC9 (λ _ _=>X.G_below) 400 kK (by kernel_rfl:_=some aCG)) okC9
def Ru11 (P:Program):Fct:=runT P (aOI P) aCR 1
def aOJ (P:Program):Tb:=(78,Ru11 P)::(aOI P)
theorem aSy:TbOk Tryz.prog X.G (aOJ Tryz.prog):=.cons (by kernel_rfl:_=some (⟨[.agg 2],.v1 (.agg 2)⟩:Ct)) (aAX aSx (λ _ _=>X.G_below) 400 kK (by kernel_rfl:_=some aCR)) aSx
def Ru12 (P:Program):Fct:=runT P (aOJ P) aCH 1
def aOK (P:Program):Tb:=(35,Ru12 P)::(aOJ P)
theorem aSz:TbOk Tryz.prog X.G (aOK Tryz.prog):=.cons (by kernel_rfl:_=some (⟨[.agg 2],.v1 .one⟩:Ct)) (aAX aSy (λ _ _=>X.G_below) 400 kK (by kernel_rfl:_=some aCH)) aSy
def Ru13 (P:Program):Fct:=runT P (aOK P) aCI 1
def aOL (P:Program):Tb:=(55,Ru13 P)::(aOK P)
theorem aS0:TbOk Tryz.prog X.G (aOL Tryz.prog):=.cons (by kernel_rfl:_=some (⟨[.one],.v1 (.agg 2)⟩:Ct)) (aAX aSz (λ _ _=>X.G_below) 400 kK (by kernel_rfl:_=some aCI)) aSz
def Ru14 (P:Program):Fct:=runT P (aOL P) aCS 1
def aOM (P:Program):Tb:=(110,Ru14 P)::(aOL P)
theorem aS1:TbOk Tryz.prog X.G (aOM Tryz.prog):=.cons (by kernel_rfl:_=some (⟨[.agg 2,.agg 2],.v1 (.agg 2)⟩:Ct)) (aAX aS0 (λ _ _=>X.G_below) 400 kK (by kernel_rfl:_=some aCS)) aS0
def Ru15 (P:Program):Fct:=runT P (aOM P) aCT 1
def aON (P:Program):Tb:=(131,Ru15 P)::(aOM P)
theorem aS2:TbOk Tryz.prog X.G (aON Tryz.prog):=.cons (by kernel_rfl:_=some (⟨[.agg 2,.agg 2],.v1 (.agg 2)⟩:Ct)) (aAX aS1 (λ _ _=>X.G_below) 400 kK (by kernel_rfl:_=some aCT)) aS1
def Ru16 (P:Program):Fct:=runT P (aON P) aCU 1
def aOO (P:Program):Tb:=(79,Ru16 P)::(aON P)
theorem aS3:TbOk Tryz.prog X.G (aOO Tryz.prog):=.cons (by kernel_rfl:_=some (⟨[.agg 2,.agg 2],.tup [.agg 2,.agg 2,.one]⟩:Ct)) (aAX aS2 (λ _ _=>X.G_below) 400 kK (by kernel_rfl:_=some aCU)) aS2
def Ru17 (P:Program):Fct:=runT P (aOO P) aCV 1
def aS4 (P:Program):Tb:=(133,Ru17 P)::(aOO P)
theorem aUV:TbOk Tryz.prog X.G (aS4 Tryz.prog):=.cons (by kernel_rfl:_=some (⟨[],.v1 (.agg 2)⟩:Ct)) (aAX aS3 (λ _ _=>X.G_below) 400 kK (by kernel_rfl:_=some aCV)) aS3
def Ru18 (P:Program):Fct:=runT P (aS4 P) aCJ 1
theorem run_make:Sx.Good Tryz.prog X.G 81 ⟨[.agg 2,.agg 2],.tup [.agg 3,.one]⟩ (Ru18 Tryz.prog):=aAX aUV (λ _ _=>X.G_below) 400 kK (by kernel_rfl:_=some aCJ)
end Go.Proofs.YtjefbecmeobegaaGreatDoor.Sp
