import Derived.Test.YtheihmlgnldijaatTy
namespace Go.Vai
open Go.Proofs Go.Vai
set_option linter.unusedSimpArgs false
set_option linter.unusedVariables false
def impF : List FuncId := [73, 74, 75, 76, 77]
def nsF : List FuncId := [8, 9, 16, 18, 20, 26, 28, 29, 31, 32, 34, 36, 37, 38, 43, 44, 46, 50, 51, 57]
def xfF : List FuncId := [51]
def cfg : Cfg := { pure := fun f => !(impF.contains f), xfer := fun f => xfF.contains f, scalar := fun f => !(nsF.contains f) && !(impF.contains f) }
def cfgG : Cfg := { cfg with glob := fun _ => true }
def cfgP : Cfg := { cfg with pure := fun _ => true }
def cfg1 : Cfg := { cfg with move := fun t => t == 1 }
def cfg2 : Cfg := { cfg with move := fun t => t == 2 }
def cfg3 : Cfg := { cfg with move := fun t => t == 3 }
def cfg4 : Cfg := { cfg with move := fun t => t == 4 }
def cfg5 : Cfg := { cfg with move := fun t => t == 5 }
def cfg6 : Cfg := { cfg with move := fun t => t == 6 }
def cfgN : Cfg := cfg6
theorem gl0 {d : Tmp} : cfg.glob d = false := rfl
theorem glG {d : Tmp} : cfgG.glob d = true := rfl
theorem glP {d : Tmp} : cfgP.glob d = false := rfl
theorem gl1 {d : Tmp} : cfg1.glob d = false := rfl
theorem gl2 {d : Tmp} : cfg2.glob d = false := rfl
theorem gl3 {d : Tmp} : cfg3.glob d = false := rfl
theorem gl4 {d : Tmp} : cfg4.glob d = false := rfl
theorem gl5 {d : Tmp} : cfg5.glob d = false := rfl
theorem gl6 {d : Tmp} : cfg6.glob d = false := rfl
attribute [go_sem] gl0 glG glP gl1 gl2 gl3 gl4 gl5 gl6
end Go.Vai
