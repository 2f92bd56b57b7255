import Derived.Test.YtblgcekomnnfmaagRec5
import Derived.Test.YtblgcekomnnfmaaRecLaw
namespace Go.Vai.R
open Go.Proofs Go.Vai Go.Vai.G Go.Vai.L Go.Vai.O Go.Vai.U Go.Vai.Z
set_option linter.unusedSimpArgs false
set_option linter.unusedVariables false

def rq : Page := ⟨1, 0, 0, 3, 0, 0, true, []⟩
def rz : List (BitVec 8) := List.replicate 489 0#8
def rq0 : Page := pageAt rq false rz 2 0
def rq1 : Page := pageAt rq false rz 2 1
theorem sp_pos {b : List (BitVec 8)} (h : ¬ parts (b.length : Int) = 0) : (((parts (b.length : Int)).toNat : Nat) : Int) = parts (b.length : Int) ∧ 0 < (parts (b.length : Int)).toNat ∧ (parts (b.length : Int)).toNat ≤ 16 := by
  have := parts_is (n := (b.length : Int)) (fun hc => h (parts_no hc))
  omega
end Go.Vai.R
