import Derived.Test.YtheihmlgnldijaaItPl
set_option linter.unusedSimpArgs false
set_option linter.unusedVariables false
namespace Go.Vai.I
def mxF (t : Int) (m : Int) (y : It) : Int := if t = y.o then max m y.s else m
def idxI (x : List It) (ts : List (BitVec 8)) (i : Nat) : Int := if i < ts.length then ((ts.getD i 0).toNat : Int) % (x.length : Int) else (x.length : Int) - 1 - ((i : Int) - (ts.length : Int))
def zs (x : List It) (ts : List (BitVec 8)) : List It := if 0 < x.length then (List.range (ts.length + x.length)).map fun i => x.getD (idxI x ts i).toNat default else []
end Go.Vai.I
