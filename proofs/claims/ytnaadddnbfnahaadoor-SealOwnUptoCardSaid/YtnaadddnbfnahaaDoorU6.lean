/- The laws over scripts of calls. Printed by gen.py. -/
import Derived.Test.YtnaadddnbfnahaaDoorU5
import Derived.Test.YtnaadddnbfnahaaDoorRead
set_option linter.unusedVariables false
set_option linter.unusedSimpArgs false
set_option maxRecDepth 100000
namespace Go.Proofs.YtnaadddnbfnahaaDoor
open Go Go.RowKit Go.Proofs
structure Opr where
  kd : Int
  wh : Int
  at_ : Int
  a : Int
  m : Sl Int
  sl : List Int
  tw : Int
  lg : Bool
def Opr.cells (o : Opr) : List Value := opC o.kd o.wh o.at_ o.a o.m.b o.m.xs.length o.m.c o.sl o.tw o.lg
def OprOK (w : World) (o : Opr) : Prop := Row w o.m.b (ints .u8 o.m.xs) ∧ IsB o.m.xs ∧ o.sl.length = 16
def opsC (l : List Opr) : List Value := l.flatMap Opr.cells
def ScriptOK (w : World) (base : Option Addr) (l : List Opr) : Prop := Row w base (opsC l) ∧ ∀ o ∈ l, OprOK w o
theorem opsC_at {l : List Opr} (hl : ∀ o ∈ l, o.sl.length = 16) {i : Nat} {o : Opr} (hi : l[i]? = some o) (j : Nat) (v : Value) (hj : o.cells[j]? = some v) : (opsC l)[i * 23 + j]? = some v :=
  rows_at (fun x hx => opC_length (hl x hx)) hi j v hj
end Go.Proofs.YtnaadddnbfnahaaDoor
