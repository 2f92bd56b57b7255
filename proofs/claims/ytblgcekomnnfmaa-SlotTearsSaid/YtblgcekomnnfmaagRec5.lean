import Derived.Test.YtblgcekomnnfmaagRec4
import Derived.Test.YtblgcekomnnfmaaVaiD
namespace Go.Vai.R
open Go.Proofs Go.Vai Go.Vai.G Go.Vai.L Go.Vai.O Go.Vai.U Go.Vai.Z
set_option linter.unusedSimpArgs false
set_option linter.unusedVariables false

end Go.Vai.R
