import Derived.Test.YtblgcekomnnfmaagLsa2
namespace Go.Vai.L
open Go.Proofs Go.Vai Go.Vai.O
set_option linter.unusedSimpArgs false
set_option linter.unusedVariables false

end Go.Vai.L
