import Derived.Test.YtompjoadhhjddaabTy
namespace Go.Vai
open Go.Proofs Go.Vai
set_option linter.unusedSimpArgs false
set_option linter.unusedVariables false

def impF : List FuncId := [22, 23, 25, 67, 68, 77, 78, 84, 97, 115, 116, 117, 118, 119]
def nsF : List FuncId := [18, 21, 22, 23, 26, 27, 36, 38, 39, 41, 43, 44, 46, 53, 55, 56, 60, 62, 63, 64, 66, 69, 70, 77, 79, 80, 82, 84, 91, 92, 94, 95, 97, 99, 103, 106]
def cfg : Cfg := { pure := fun f => !(impF.contains f), xfer := fun _ => false, scalar := fun f => !(nsF.contains f) && !(impF.contains f) }
def cfgG : Cfg := { cfg with glob := fun _ => true }
def cfgP : Cfg := { cfg with pure := fun _ => true }
def cfg1 : Cfg := { cfg with move := fun t => t == 1 }
def cfg2 : Cfg := { cfg with move := fun t => t == 2 }
def cfg3 : Cfg := { cfg with move := fun t => t == 3 }
def cfg4 : Cfg := { cfg with move := fun t => t == 4 }
def cfg5 : Cfg := { cfg with move := fun t => t == 5 }
def cfg6 : Cfg := { cfg with move := fun t => t == 6 }
def cfgN : Cfg := cfg6
end Go.Vai
