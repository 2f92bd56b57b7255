import Derived.Test.YtheihmlgnldijaaLsaPl
set_option linter.unusedSimpArgs false
set_option linter.unusedVariables false
namespace Go.Vai.L
open Go.Vai.O
def lsaEq (a b : Lsa) : Bool := decide (a.o = b.o) && (decide (a.s = b.s) && decide (a.ls = b.ls))
def newer (a b : Lsa) : Bool := decide (a.o = b.o) && decide (a.s > b.s)
def costOf (ls : List LinkS) (to : Int) : Int := match ls.find? (fun x => decide (x.to = to)) with | some x => x.co | none => 0
end Go.Vai.L
