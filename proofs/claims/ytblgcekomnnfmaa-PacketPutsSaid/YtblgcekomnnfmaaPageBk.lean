import Derived.Test.YtblgcekomnnfmaaPagePl
set_option linter.unusedSimpArgs false
set_option linter.unusedVariables false
set_option linter.constructorNameAsVariable false
namespace Go.Vai.G
open Go.Vai.O Go.Vai.L
/-- The page that the bytes ahead of a check seem to be. -/
def at1 (i : List (BitVec 8)) (k : Nat) : Int := ((i.getD k default).toNat : Int)
def at4 (i : List (BitVec 8)) (k : Nat) : Int := rV i k false 4
def pgN (i : List (BitVec 8)) : Int := rV i 18 false 2
def pgP (i : List (BitVec 8)) : Page := ⟨at1 i 3, at4 i 4, at4 i 8, at4 i 12, at1 i 16, at1 i 17, false, (i.drop 20).take (pgN i).toNat⟩
end Go.Vai.G
