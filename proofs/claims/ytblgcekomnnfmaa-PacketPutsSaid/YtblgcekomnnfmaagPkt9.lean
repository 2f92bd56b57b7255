import Derived.Test.YtblgcekomnnfmaagPkt6
import Derived.Test.YtblgcekomnnfmaagPkt8
import Derived.Test.YtblgcekomnnfmaagPkt4
namespace Go.Vai.P
open Go.Proofs Go.Vai Go.Vai.G Go.Vai.L Go.Vai.O Go.Vai.U Go.Vai.Z
set_option linter.unusedSimpArgs false
set_option linter.unusedVariables false

def rfP (l : List (BitVec 8)) : Option Pkt := if (l.length : Int) < 15 then none else (rEnd l).bind fun s => if pktOK (rMk l s) && decide (pktS (rMk l s) = l) then some (rMk l s) else none
def rS (kind : Int) (b : List (BitVec 8)) (a0 k : Nat) : Sr := (rloop kind b a0 k).getD ⟨[], [], [], a0⟩
def rM3 (l : List (BitVec 8)) : Int := if at1 l 0 = 3 then 0 else at1 l 11
theorem okp_way (p : Pkt) : pktOK p = false ∨ pktOK p = true := by cases pktOK p <;> simp
end Go.Vai.P
