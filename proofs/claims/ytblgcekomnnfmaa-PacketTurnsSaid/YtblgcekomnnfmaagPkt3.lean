import Derived.Test.YtblgcekomnnfmaagPkt2
import Derived.Test.YtblgcekomnnfmaaVaiD
namespace Go.Vai.P
open Go.Proofs Go.Vai Go.Vai.G Go.Vai.L Go.Vai.O Go.Vai.U Go.Vai.Z
set_option linter.unusedSimpArgs false
set_option linter.unusedVariables false

def pkEq7 (p q : Pkt) : Bool := (((((decide (p.kind = q.kind) && decide (p.fr = q.fr)) && decide (p.boot = q.boot)) && decide (p.to = q.to)) && decide (p.tb = q.tb)) && decide (p.ep = q.ep)) && decide (p.te = q.te)
def pkEq (p q : Pkt) : Bool := ((pkEq7 p q && decide (p.hs = q.hs)) && decide (p.xs = q.xs)) && eqAll lsaEq p.ls q.ls
end Go.Vai.P
