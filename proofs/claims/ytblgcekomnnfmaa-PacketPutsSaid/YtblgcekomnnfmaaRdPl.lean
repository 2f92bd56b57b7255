import Derived.Test.YtblgcekomnnfmaaPageBk
set_option linter.unusedSimpArgs false
set_option linter.unusedVariables false
set_option linter.constructorNameAsVariable false
namespace Go.Vai.L
open Go.Vai.O Go.Vai.G
end Go.Vai.L
