import Derived.Test.YtblgcekomnnfmaaLsaPl2
import Derived.Test.YtblgcekomnnfmaaOctBk
set_option linter.unusedSimpArgs false
set_option linter.unusedVariables false
set_option linter.constructorNameAsVariable false
namespace Go.Vai.L
open Go.Vai.O
/-! Both readers. -/
theorem rA_ok {l : List (BitVec 8)} {a : Nat} {k : Int} (hk : 1 ≤ k ∧ k ≤ 8) (h : (a : Int) + k ≤ l.length) : rBad l a false k = false ∧ rA l a false k = a + k.toNat := by
  have : rBad l a false k = false := by simp [rBad]; omega
  exact ⟨this, by simp [rA, this]⟩
theorem rV_one {l : List (BitVec 8)} {a : Nat} (h : a < l.length) : rV l a false 1 = ((l.getD a default).toNat : Int) := by
  obtain ⟨e, _⟩ := rA_ok (l := l) (a := a) (k := 1) (by omega) (by omega)
  rw [rV, e, if_neg (by decide)]
  have : (l.drop a).take (1 : Int).toNat = [l[a]] := by
    rw [show (1 : Int).toNat = 1 from rfl, List.drop_eq_getElem_cons h]; rfl
  rw [this, ← getD_get h]
  simp [numV]
theorem drop_nums {l : List (BitVec 8)} {a : Nat} {k : Int} (hk : 1 ≤ k ∧ k ≤ 8) (h : (a : Int) + k ≤ l.length) : rnV (l.drop a) false k = rV l a false k ∧ rnL (l.drop a) false k = l.drop (a + k.toNat) ∧ rnW (l.drop a) false k = false := by
  obtain ⟨e1, e2, e3⟩ := num_ok (l := l) (a := a) (by omega) false k
  obtain ⟨f1, f2⟩ := rA_ok hk h
  rw [e1, e2, e3, f1, f2]; exact ⟨rfl, rfl, rfl⟩
end Go.Vai.L
namespace Go.Vai.L
open Go.Vai.O
end Go.Vai.L
