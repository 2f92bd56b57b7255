import Derived.Test.YtmjnimnnlogomaarDb4
namespace Go.Vai.DB
open Go.Proofs Go.Vai Go.Vai.D Go.Vai.I Go.Vai.L Go.Vai.N Go.Vai.O
set_option linter.unusedSimpArgs false
set_option linter.unusedVariables false
theorem itm_take {l : List Lsa} {k : Nat} (hk : k < l.length) : (l.take (k + 1)).map itm = (l.take k).map itm ++ [itm l[k]] := by
 rw [List.take_succ_eq_append_getElem hk, List.map_append]; rfl
end Go.Vai.DB
