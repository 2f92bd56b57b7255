import Derived.Test.YtmjnimnnlogomaarDb8
import Derived.Test.YtmjnimnnlogomaaVaiE
import Derived.Test.YtmjnimnnlogomaaDbPl2
namespace Go.Vai.DB
open Go.Proofs Go.Vai Go.Vai.D Go.Vai.I Go.Vai.L Go.Vai.N Go.Vai.O
set_option linter.unusedSimpArgs false
set_option linter.unusedVariables false
theorem itm_o (x : Lsa) : (itm x).o = x.o := rfl
theorem itm_s (x : Lsa) : (itm x).s = x.s := rfl
theorem xS_fit {a b : List Lsa} {k : Nat} (pa : ∀ y ∈ a, fit y) (pb : ∀ y ∈ b, fit y) : ∀ y ∈ xS a (fA a b) k, fit y := fun y hy => by
 rcases xS_mem k y hy with h | h
 ·exact pa y h
 ·exact pb y (List.mem_filter.1 h).1
theorem xS_len {a b : List Lsa} (ha : dbOK a = true) (hb : dbOK b = true) (k : Nat) : (xS a (fA a b) k).length ≤ 64 := db_len (xS_ok ha (fun y hy => (fA_mem ha hb hy).2.1) k)
attribute [go_sem] itm_o
attribute [go_sem] itm_s
end Go.Vai.DB
