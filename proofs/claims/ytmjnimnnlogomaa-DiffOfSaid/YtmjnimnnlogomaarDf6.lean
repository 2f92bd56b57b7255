import Derived.Test.YtmjnimnnlogomaarDf5
namespace Go.Vai.DB
open Go.Proofs Go.Vai Go.Vai.D Go.Vai.I Go.Vai.L Go.Vai.N Go.Vai.O
set_option linter.unusedSimpArgs false
set_option linter.unusedVariables false
set_option maxHeartbeats 4000000
set_option maxRecDepth 100000
theorem nw_len (a b : List Lsa) : (nwL a b).length ≤ b.length := List.length_filter_le _ _
end Go.Vai.DB
