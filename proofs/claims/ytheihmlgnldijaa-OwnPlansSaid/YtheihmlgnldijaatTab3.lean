import Derived.Test.YtheihmlgnldijaatTab2
import Derived.Shelf.Spec.SlicesInsert
namespace Go.Vai.T
open Go.Proofs Go.Vai Go.Vai.N
set_option linter.unusedSimpArgs false
set_option linter.unusedVariables false
end Go.Vai.T
