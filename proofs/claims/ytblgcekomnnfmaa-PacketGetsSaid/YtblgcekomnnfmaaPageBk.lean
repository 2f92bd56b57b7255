import Derived.Test.YtblgcekomnnfmaaPagePl
set_option linter.unusedSimpArgs false
set_option linter.unusedVariables false
namespace Go.Vai.G
open Go.Vai.O Go.Vai.L
theorem numV_inj : ∀ (n : Nat) (a b : List (BitVec 8)), a.length = n → b.length = n → numV a = numV b → a = b
 | 0, a, b, ha, hb, _ => by rw [List.eq_nil_of_length_eq_zero ha, List.eq_nil_of_length_eq_zero hb]
 | n + 1, a, b, ha, hb, h => by
  have ea : a = a.take n ++ [a[n]] := by rw [← List.take_succ_eq_append_getElem (by omega), List.take_of_length_le (by omega)]
  have eb : b = b.take n ++ [b[n]] := by rw [← List.take_succ_eq_append_getElem (by omega), List.take_of_length_le (by omega)]
  rw [ea, eb, numV_snoc, numV_snoc] at h
  have h1 := (a[n]).isLt
  have h2 := (b[n]).isLt
  have h3 := numV_inj n (a.take n) (b.take n) (by simp; omega) (by simp; omega) (by omega)
  have h4 : a[n] = b[n] := BitVec.eq_of_toNat_eq (by omega)
  rw [ea, eb, h3, h4]
theorem numR_numV {k : Nat} {x : List (BitVec 8)} (h : x.length = k) : numR (numV x) k = x := by
 obtain ⟨h1, h2⟩ := numV_range k x h
 refine numV_inj k _ _ (numR_length _ _) h ?_
 rw [numV_numR h1, pow_256]
 exact Int.emod_eq_of_lt h1 h2
def at1 (i : List (BitVec 8)) (k : Nat) : Int := ((i.getD k default).toNat : Int)
def at4 (i : List (BitVec 8)) (k : Nat) : Int := rV i k false 4
def pgN (i : List (BitVec 8)) : Int := rV i 18 false 2
def pgP (i : List (BitVec 8)) : Page := ⟨at1 i 3, at4 i 4, at4 i 8, at4 i 12, at1 i 16, at1 i 17, false, (i.drop 20).take (pgN i).toNat⟩
theorem rV_is {l : List (BitVec 8)} {a : Nat} {k : Int} (hk : 1 ≤ k ∧ k ≤ 8) (h : (a : Int) + k ≤ l.length) : rV l a false k = numV ((l.drop a).take k.toNat) := by
 rw [rV, (rA_ok hk h).1, if_neg (by decide)]
end Go.Vai.G
