import Derived.Test.YtheihmlgnldijaatDb5
namespace Go.Vai.DB
open Go.Proofs Go.Vai Go.Vai.D Go.Vai.I Go.Vai.L Go.Vai.N Go.Vai.O
set_option linter.unusedSimpArgs false
set_option linter.unusedVariables false
theorem dfS_len {p : It → Bool} {l : List It} {a k : Nat} : (dfS p l a k).1.length = l.length := (df_len p l a k).1
attribute [simp] dfS_len
attribute [go_sem] dfS_len
end Go.Vai.DB
