import Derived.Test.YtheihmlgnldijaatDb7
namespace Go.Vai.DB
open Go.Proofs Go.Vai Go.Vai.D Go.Vai.I Go.Vai.L Go.Vai.N Go.Vai.O
set_option linter.unusedSimpArgs false
set_option linter.unusedVariables false
theorem def_fit : (default : Lsa).ls.length ≤ 9223372036854775807 := by decide
theorem gd_fit {l : List Lsa} {t : Int} (pl : ∀ x ∈ l, fit x) : fit ((gK Lsa.o l t).getD default) := by
 cases h : gK Lsa.o l t with
 | none => exact ⟨by decide, fun _ => rfl⟩
 | some x => exact pl x (gK_mem h).1
end Go.Vai.DB
