import Derived.Test.YtheihmlgnldijaatTabS2
namespace Go.Vai.T
open Go.Proofs Go.Vai Go.Vai.N
set_option linter.unusedSimpArgs false
set_option linter.unusedVariables false
theorem th_len {α : Type} (p : Nr → Bool) (t : Nr → α) (l : List Nr) : (thL p t l).length ≤ l.length := by
 rw [thL, List.length_map]; exact List.length_filter_le _ _
def x0 : Nr := ⟨3, 7, 1, 0, true, true, 0, false⟩
theorem tab_mem {l : List Nr} (h : tabOK l = true) : ∀ x ∈ l, bad x = false ∧ 0 < x.of := by
 simp only [tabOK, Bool.and_eq_true] at h
 have h1 := h.1
 rw [chN_chn] at h1
 exact fun x hx => ⟨by simpa using (chn_ok h1 x hx).1, (chn_ok h1 x hx).2⟩
theorem find_pos {l : List Nr} {t : Int} (h : tabOK l = true) : isK Nr.of l t = decide (((gK Nr.of l t).getD default).of > 0) := by
 rw [isK_gK]
 cases e : gK Nr.of l t with
 | none => rfl
 | some x =>
  have := (tab_mem h x (gK_mem e).1).2
  simp [this]
end Go.Vai.T
