import Derived.Test.YtblgcekomnnfmaaRecPl
import Derived.Test.YtblgcekomnnfmaaVaiD
set_option linter.unusedSimpArgs false
set_option linter.unusedVariables false
set_option linter.constructorNameAsVariable false
namespace Go.Vai.R
open Go.Vai.O Go.Vai.L Go.Vai.G
theorem getD0 {l : List Page} {k : Nat} (h : k < l.length) : l.getD k page0 = l[k] := by rw [List.getD_eq_getElem?_getD, List.getElem?_eq_getElem h]; rfl
theorem join_f {l : List Page} (h : joinOK l = false) : joinOK l = false ∧ joinB l = [] ∧ joinN l = 0 := ⟨h, by rw [joinB, h]; rfl, by rw [joinN, h]; rfl⟩
theorem join_t {l : List Page} (h : joinOK l = true) : joinOK l = true ∧ joinB l = jB l ∧ joinN l = (jN l : Int) := ⟨h, by rw [joinB, h]; rfl, by rw [joinN, h]; rfl⟩
theorem join_no0 {l : List Page} (h : l.length = 0) : joinOK l = false := by
  obtain rfl := List.eq_nil_of_length_eq_zero h; rfl
theorem join_no1 {l : List Page} (h0 : 0 < l.length) (h : pageOK l[0] = false) : joinOK l = false := by
  rw [joinOK, headOK, getD0 h0, h]; simp
theorem join_no2 {l : List Page} (h0 : 0 < l.length) (h : (l.length : Int) < (l[0]).parts) : joinOK l = false := by
  have : decide ((l[0]).parts ≤ (l.length : Int)) = false := decide_eq_false (by omega)
  rw [joinOK, headOK, getD0 h0, this]; simp
theorem head_yes {l : List Page} (h0 : 0 < l.length) (h1 : pageOK l[0] = true) (h2 : ¬ (l.length : Int) < (l[0]).parts) : headOK l = true := by
  have h3 : decide ((l[0]).parts ≤ (l.length : Int)) = true := decide_eq_true (by omega)
  rw [headOK, getD0 h0, h1, h3]
  cases l with
  | nil => simp at h0
  | cons a l => rfl
theorem allF_stop {l : List Page} {k : Nat} (hk : follows (l.getD 0 page0) (l.getD k page0) k = false) : ∀ {n : Nat}, k < n → allF l n = false
  | 0, h => by omega
  | n + 1, h => by
    rw [allF_succ]
    by_cases e : k = n
    · subst e; rw [hk, Bool.and_false]
    · rw [allF_stop hk (by omega), Bool.false_and]
theorem join_no3 {l : List Page} {k : Nat} (h0 : 0 < l.length) (hl : k < l.length) (hk : k < jN l) (h : follows l[0] l[k] k = false) : joinOK l = false := by
  rw [joinOK, allF_stop (by rw [getD0 h0, getD0 hl]; exact h) hk]; simp
theorem join_no4 {l : List Page} (h : ¬ parts ((jB l).length : Int) = (jN l : Int)) : joinOK l = false := by
  rw [joinOK, decide_eq_false h]; simp
theorem join_yes {l : List Page} (h : headOK l = true) (h1 : allF l (jN l) = true) (h2 : parts ((jB l).length : Int) = (jN l : Int)) : joinOK l = true := by
  rw [joinOK, h, h1, decide_eq_true h2]; rfl
theorem allF_one {l : List Page} {k : Nat} (h0 : 0 < l.length) (hl : k < l.length) (h : allF l k = true) (h1 : follows l[0] l[k] k = true) : allF l (k + 1) = true := by
  rw [allF_succ, h, getD0 h0, getD0 hl, h1]; rfl
theorem jN_is {l : List Page} (h0 : 0 < l.length) (h1 : pageOK l[0] = true) : (jN l : Int) = (l[0]).parts ∧ 1 ≤ jN l ∧ jN l ≤ 16 := by
  have := page_bd h1
  unfold jN
  rw [getD0 h0]; omega
theorem cat_le {l : List Page} {k : Nat} (hk : k ≤ l.length) {c : Nat} (h : ∀ x ∈ l, x.b.length ≤ c) : (catB (l.take k)).length ≤ c * k := by
  induction k with
  | zero => simp [catB]
  | succ k ih =>
    rw [catB_succ (by omega), List.length_append]
    have h1 := ih (by omega)
    have h2 := h l[k] (List.getElem_mem _)
    rw [Nat.mul_succ]; omega
theorem emp_app {a b : List (BitVec 8)} : (a.isEmpty && (b.map u8).isEmpty) = (a ++ b).isEmpty := by cases a <;> cases b <;> rfl
def lightP (l : List Page) : Bool := ((l.take 21).all fun p => decide ((p.b.length : Int) ≤ 600)) && decide ((l.length : Int) ≤ 20)
end Go.Vai.R
