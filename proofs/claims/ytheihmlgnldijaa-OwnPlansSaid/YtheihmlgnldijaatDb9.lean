import Derived.Test.YtheihmlgnldijaatDb8
import Derived.Test.YtheihmlgnldijaaVaiE
import Derived.Test.YtheihmlgnldijaaDbPl2
namespace Go.Vai.DB
open Go.Proofs Go.Vai Go.Vai.D Go.Vai.I Go.Vai.L Go.Vai.N Go.Vai.O
set_option linter.unusedSimpArgs false
set_option linter.unusedVariables false
theorem itm_o (x : Lsa) : (itm x).o = x.o := rfl
theorem itm_s (x : Lsa) : (itm x).s = x.s := rfl
attribute [go_sem] itm_o
attribute [go_sem] itm_s
end Go.Vai.DB
