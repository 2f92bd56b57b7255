import Derived.Test.YtblgcekomnnfmaagSlot6
namespace Go.Vai.S7
open Go.Proofs Go.Vai Go.Vai.G Go.Vai.L Go.Vai.O Go.Vai.R Go.Vai.U Go.Vai.Z
set_option linter.unusedSimpArgs false
set_option linter.unusedVariables false

theorem slotB_le {l : List Page} (h : ∀ x ∈ l, x.b.length ≤ 488) (hl : l.length ≤ 1000) : (slotB l).length ≤ 600000 := by
  cases e : joinOK l with
  | false => rw [(slot_f0 e).2.1]; simp
  | true =>
    have e2 := e
    simp only [joinOK, Bool.and_eq_true] at e2
    have h3 := (head_is e2.1).2.2.2.1
    have := cat_le (l := l) h3 h
    have h5 : (joinB l).length ≤ 488 * jN l := by rw [joinB, e, if_pos rfl, jB]; exact this
    have h6 : 488 * jN l ≤ 488 * 1000 := Nat.mul_le_mul_left _ (by omega)
    rw [slotB]
    split
    · omega
    · simp
theorem slotB_pg {l : List PS} (hl : l.length ≤ 1000) : (slotB (pagesOf okS valS l)).length ≤ 600000 := slotB_le (pg_small l) (by have := pg_le l; omega)
theorem betB_pg {a b : List PS} (ha : a.length ≤ 1000) (hb : b.length ≤ 1000) : (betB (pagesOf okS valS a) (pagesOf okS valS b)).length ≤ 600000 := by
  rw [betB]
  split
  · exact slotB_pg hb
  · exact slotB_pg ha
theorem light_3 {a b : List PS} (h : (!lightS a) = false ∧ (!lightS b) = false) : lightS a = true ∧ lightS b = true := by
  cases ha : lightS a <;> cases hb : lightS b <;> simp [ha, hb] at h ⊢
theorem light_sm {l : List PS} (h : ∀ x ∈ l, x.2.length ≤ 600) (pl : ∀ x ∈ l, x.2.length ≤ 9223372036854775807 ∧ (x.1 = true → x.2 = [])) : ∀ x ∈ l, x.2.length ≤ 140737488355000 ∧ (x.1 = true → x.2 = []) := fun x hx => ⟨by have := h x hx; omega, (pl x hx).2⟩
end Go.Vai.S7
