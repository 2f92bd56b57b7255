import Derived.Test.YtblgcekomnnfmaagSlot6
namespace Go.Vai.S7
open Go.Proofs Go.Vai Go.Vai.G Go.Vai.L Go.Vai.O Go.Vai.R Go.Vai.U Go.Vai.Z
set_option linter.unusedSimpArgs false
set_option linter.unusedVariables false

theorem secR_sm {g mark most : Int} {b : List (BitVec 8)} : (secR g mark most b).length ≤ 16 ∧ ∀ x ∈ secR g mark most b, x.1 = false ∧ x.2.length = 512 := by
  by_cases h : secE g mark most b = 0
  · obtain ⟨h1, h2, h3, h4⟩ := sec_is h
    have hn := sp_pos h4
    rw [h3]
    refine ⟨by rw [secL_len]; exact hn.2.2, fun x hx => ?_⟩
    obtain ⟨q, hq, rfl⟩ := List.mem_map.1 hx
    obtain ⟨i, hi, rfl⟩ := List.mem_iff_getElem.1 hq
    have hi2 : i < secN b := by simpa [splitP_len] using hi
    rw [splitP_get hi2]
    exact ⟨rfl, pgPut_len (splitOK_at (nil := false) h1 hi2)⟩
  · have e : secOK g mark most b = false := by
      cases e : secOK g mark most b with
      | false => rfl
      | true =>
        simp only [secOK, Bool.and_eq_true, decide_eq_true_eq] at e
        exfalso
        rcases split0E (p := secP g mark) (b := b) with ⟨h3, _, h4⟩ | ⟨_, h3⟩
        · exact h (by rw [secE, if_neg (by omega), h3])
        · rw [h3] at e; cases e.2
    rw [secR, e]
    exact ⟨by simp, fun x hx => by cases hx⟩
theorem secR_ok {g mark most : Int} {b : List (BitVec 8)} : ∀ x ∈ secR g mark most b, x.2.length ≤ 140737488355000 ∧ (x.1 = true → x.2 = []) := fun x hx => by
  obtain ⟨h1, h2⟩ := secR_sm.2 x hx
  exact ⟨by omega, fun h => by rw [h1] at h; cases h⟩
end Go.Vai.S7
