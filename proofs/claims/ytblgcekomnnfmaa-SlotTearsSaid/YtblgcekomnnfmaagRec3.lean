import Derived.Test.YtblgcekomnnfmaagRec2
import Derived.Test.YtblgcekomnnfmaaRecBk
namespace Go.Vai.R
open Go.Proofs Go.Vai Go.Vai.G Go.Vai.L Go.Vai.O Go.Vai.U Go.Vai.Z
set_option linter.unusedSimpArgs false
set_option linter.unusedVariables false

theorem chunk_len (b : List (BitVec 8)) (k : Nat) : (chunk b k).length ≤ 488 := by simp [chunk]; omega
end Go.Vai.R
