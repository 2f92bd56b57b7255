import Derived.Test.YtblgcekomnnfmaagChk
import Derived.Test.YtblgcekomnnfmaaChkT
namespace Go.Vai.U
open Go.Proofs Go.Vai
set_option linter.unusedSimpArgs false
set_option linter.unusedVariables false

theorem shr_bit (X : BitVec 32) (k : Nat) : decide ((((X >>> k) % 2#32).toNat : Int) = 1) = X.getLsbD k := by
  have h : (X >>> k) % 2#32 = bit1 (X.getLsbD k) := by
    rw [low2, bit1_shift X k]
    apply BitVec.eq_of_getLsbD_eq
    intro i hi
    simp only [BitVec.getLsbD_and, BitVec.getLsbD_xor, BitVec.getLsbD_shiftLeft, BitVec.getLsbD_one]
    cases i with
    | zero => simp
    | succ i => cases hX : X.getLsbD k <;> simp [bit1]
  rw [h]
  cases X.getLsbD k <;> decide
theorem told_toNat (a b : BitVec 32) : decide ((a.toNat : Int) ≠ (b.toNat : Int)) = decide (a ≠ b) := by
  apply decide_eq_decide.2
  constructor
  · exact fun h e => h (by rw [e])
  · exact fun h e => h (BitVec.eq_of_toNat_eq (by omega))
end Go.Vai.U
