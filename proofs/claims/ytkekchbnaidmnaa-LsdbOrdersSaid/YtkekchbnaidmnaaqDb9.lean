import Derived.Test.YtkekchbnaidmnaaqDb8
import Derived.Test.YtkekchbnaidmnaaVaiE
import Derived.Test.YtkekchbnaidmnaaDbPl2
namespace Go.Vai.DB
open Go.Proofs Go.Vai Go.Vai.D Go.Vai.I Go.Vai.L Go.Vai.N Go.Vai.O
set_option linter.unusedSimpArgs false
set_option linter.unusedVariables false
theorem itm_o (x : Lsa) : (itm x).o = x.o := rfl
theorem itm_s (x : Lsa) : (itm x).s = x.s := rfl
theorem ord_y {s : List Lsa} {x : Lsa} (hs : dbOK s = true) (h : (putR s x).2.2 = 0) : (putR s x).1 = false ∧ ordF s x = (putR s x).2.1 := by
 refine ⟨?_, by rw [ordF, if_pos h]⟩
 cases h1 : lsaOK x with
 | false => rw [putR_xno h1] at h; exact absurd h (by decide)
 | true =>
  by_cases h2 : sqL s x.o ≥ x.s
  ·rw [putR_ge hs h1 h2] at h; exact absurd h (by decide)
  ·rw [putR_lt hs h1 h2]
theorem ord_n {s : List Lsa} {x : Lsa} (h : ¬ (putR s x).2.2 = 0) : ordF s x = s := by rw [ordF, if_neg h]
theorem i64_byte (b : BitVec 8) : IntKind.i64.wrap (b.toNat : Int) = (b.toNat : Int) := IntWalk.i64_in _ (by have := b.isLt; omega)
attribute [go_sem] itm_o
attribute [go_sem] itm_s
end Go.Vai.DB
