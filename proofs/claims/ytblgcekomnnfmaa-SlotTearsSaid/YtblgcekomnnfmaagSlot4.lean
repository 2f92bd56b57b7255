import Derived.Test.YtblgcekomnnfmaagSlot3
namespace Go.Vai.S7
open Go.Proofs Go.Vai Go.Vai.G Go.Vai.L Go.Vai.O Go.Vai.R Go.Vai.U Go.Vai.Z
set_option linter.unusedSimpArgs false
set_option linter.unusedVariables false

def bet (x y : List Page) : Bool := slotOK y && (!slotOK x || decide (slotG y > slotG x))
def betG (x y : List Page) : Int := if bet x y then slotG y else slotG x
def betB (x y : List Page) : List (BitVec 8) := if bet x y then slotB y else slotB x
def betOK (x y : List Page) : Bool := slotOK x || slotOK y
end Go.Vai.S7
