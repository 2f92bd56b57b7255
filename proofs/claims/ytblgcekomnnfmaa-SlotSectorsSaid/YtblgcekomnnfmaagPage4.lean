import Derived.Test.YtblgcekomnnfmaagPage3
namespace Go.Vai.G
open Go.Proofs Go.Vai Go.Vai.L Go.Vai.O Go.Vai.U Go.Vai.Z
set_option linter.unusedSimpArgs false
set_option linter.unusedVariables false

open Go.Vai.Z (sealS okO okV body seal_open sealS_len ckB)
theorem pgV_no {l : List (BitVec 8)} (h : pgGood l = false) : pgV l = page0 := by rw [pgV, h]; rfl
theorem pgV_is {l : List (BitVec 8)} (h : pgGood l = true) : pgV l = pgP l := by rw [pgV, h]; rfl
end Go.Vai.G
