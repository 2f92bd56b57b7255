import Derived.Test.YtblgcekomnnfmaagTy
import Derived.Test.YtblgcekomnnfmaaVaiD
namespace Go.Vai
open Go.Proofs Go.Vai
set_option linter.unusedSimpArgs false
set_option linter.unusedVariables false
def impF : List FuncId := [33, 34, 35, 36, 76, 77, 90, 92, 110, 111, 112, 113, 114]
def nsF : List FuncId := [10, 11, 13, 19, 20, 21, 23, 24, 25, 26, 31, 32, 33, 35, 38, 40, 41, 42, 46, 48, 50, 52, 53, 54, 57, 58, 59, 68, 69, 70, 72, 74, 76, 79, 81, 84, 85, 90, 98]
def cfg : Cfg := { pure := fun f => !(impF.contains f), xfer := fun _ => false, scalar := fun f => !(nsF.contains f) && !(impF.contains f) }
def cfgG : Cfg := { cfg with glob := fun _ => true }
def cfgP : Cfg := { cfg with pure := fun _ => true }
def cfg1 : Cfg := { cfg with move := fun t => t == 1 }
def cfg2 : Cfg := { cfg with move := fun t => t == 2 }
def cfg3 : Cfg := { cfg with move := fun t => t == 3 }
def cfg4 : Cfg := { cfg with move := fun t => t == 4 }
def cfg5 : Cfg := { cfg with move := fun t => t == 5 }
def cfg6 : Cfg := { cfg with move := fun t => t == 6 }
def cfgN : Cfg := cfg6
end Go.Vai
