import Derived.Test.YtpmgmlbpbnefeaahTy
import Derived.Test.YtpmgmlbpbnefeaaVaiD
namespace Go.Vai
open Go.Proofs Go.Vai
set_option linter.unusedSimpArgs false
set_option linter.unusedVariables false

def impF : List FuncId := [70, 71, 72, 73, 74]
def nsF : List FuncId := [7, 8, 9, 11, 12, 13, 14, 16, 18, 22, 23, 24, 25, 27, 28, 31, 32, 33, 35, 36, 37, 40, 41, 44, 45, 47, 52]
def cfg : Cfg := { pure := fun f => !(impF.contains f), xfer := fun _ => false, scalar := fun f => !(nsF.contains f) && !(impF.contains f) }
def cfgG : Cfg := { cfg with glob := fun _ => true }
def cfgP : Cfg := { cfg with pure := fun _ => true }
def cfg1 : Cfg := { cfg with move := fun t => t == 1 }
def cfg2 : Cfg := { cfg with move := fun t => t == 2 }
def cfg3 : Cfg := { cfg with move := fun t => t == 3 }
def cfg4 : Cfg := { cfg with move := fun t => t == 4 }
def cfg5 : Cfg := { cfg with move := fun t => t == 5 }
def cfg6 : Cfg := { cfg with move := fun t => t == 6 }
def cfgN : Cfg := cfg6
end Go.Vai
