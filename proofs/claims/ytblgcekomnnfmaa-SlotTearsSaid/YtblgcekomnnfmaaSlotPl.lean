import Derived.Test.YtblgcekomnnfmaaRecLaw
set_option linter.unusedSimpArgs false
set_option linter.unusedVariables false
set_option linter.constructorNameAsVariable false
namespace Go.Vai.S7
open Go.Vai.O Go.Vai.L Go.Vai.G Go.Vai.R
variable {α : Type} (ok : α → Bool) (val : α → Page)
/-- The pages that sectors begin with. -/
def pagesOf (ss : List α) : List Page := (ss.takeWhile ok).map val
theorem pages_stop {ss : List α} {k : Nat} (hk : k < ss.length) (h : (ss.take k).all ok = true) (h1 : ok ss[k] = false) : pagesOf ok val ss = (ss.take k).map val := by
  rw [pagesOf]
  congr 1
  induction ss generalizing k with
  | nil => simp at hk
  | cons x t ih =>
    cases k with
    | zero => simp at h1; simp [List.takeWhile, h1]
    | succ k =>
      simp only [List.take_succ_cons, List.all_cons, Bool.and_eq_true] at h
      simp only [List.takeWhile, h.1, List.take_succ_cons]
      rw [ih (by simpa using hk) h.2 (by simpa using h1)]
theorem pages_full {ss : List α} (h : ss.all ok = true) : pagesOf ok val ss = ss.map val := by
  rw [pagesOf]
  congr 1
  induction ss with
  | nil => rfl
  | cons x t ih =>
    simp only [List.all_cons, Bool.and_eq_true] at h
    simp only [List.takeWhile, h.1, ih h.2]
/-- Whether pages are a slot's base. -/
def slotOK (l : List Page) : Bool := joinOK l && (decide ((l.getD 0 page0).kind = 1) && decide ((l.getD 0 page0).idx = 0))
def slotB (l : List Page) : List (BitVec 8) := if slotOK l then joinB l else []
def slotG (l : List Page) : Int := if slotOK l then (l.getD 0 page0).gen else 0
/-- The greatest mark. -/
def markOf (ss : List α) : Int := ss.foldl (fun n s => if ok s then (if (val s).mark > n then (val s).mark else n) else n) 0
theorem markOf_take {ss : List α} {k : Nat} (hk : k < ss.length) : markOf ok val (ss.take (k + 1)) = (if ok ss[k] then (if (val ss[k]).mark > markOf ok val (ss.take k) then (val ss[k]).mark else markOf ok val (ss.take k)) else markOf ok val (ss.take k)) := by
  rw [List.take_succ_eq_append_getElem hk]
  rw [markOf, List.foldl_append]; rfl
/-! Tears. -/
theorem torn_cut {p : Page} {nil : Bool} {b : List (BitVec 8)} {N k : Nat} (hN : N = (parts (b.length : Int)).toNat) (hk : k < N) : joinOK ((splitP p nil b N).take k) = false := by
  have hlen : ((splitP p nil b N).take k).length = k := by rw [List.length_take, splitP_len]; omega
  by_cases h0 : k = 0
  · exact join_no0 (by rw [hlen, h0])
  · have hl0 : 0 < ((splitP p nil b N).take k).length := by omega
    refine join_no2 hl0 ?_
    rw [hlen, List.getElem_take, splitP_get (by omega)]
    show (k : Int) < parts (b.length : Int)
    omega
theorem torn_set {p q : Page} {nil : Bool} {b : List (BitVec 8)} {N k : Nat} (hN : N = (parts (b.length : Int)).toNat) (hk : k < N) (hq : ¬ (q.gen = p.gen ∧ q.mark = p.mark)) :
    joinOK ((splitP p nil b N).set k q) = false ∨ (k = 0 ∧ q.parts = 1) := by
  obtain ⟨l, hl⟩ : ∃ l, l = (splitP p nil b N).set k q := ⟨_, rfl⟩
  rw [← hl]
  have hlen : l.length = N := by rw [hl, List.length_set, splitP_len]
  have hl0 : 0 < l.length := by omega
  have hg : ∀ i (hi : i < l.length), i ≠ k → l[i] = pageAt p nil b (parts (b.length : Int)) i := fun i hi e => by
    simp only [hl]
    rw [List.getElem_set_ne (Ne.symm e), splitP_get (by omega)]
  have hgk : l[k]'(by omega) = q := by simp only [hl, List.getElem_set_self]
  cases e : joinOK l with
  | false => exact .inl rfl
  | true =>
    right
    have e' := e
    simp only [joinOK, Bool.and_eq_true] at e
    obtain ⟨e1, e2, _⟩ := e
    obtain ⟨_, _, e3, e4, e5, _⟩ := head_is e1
    rw [getD0 hl0] at e3
    simp only [allF, List.all_eq_true, List.mem_range] at e2
    by_cases h0 : k = 0
    · subst h0
      refine ⟨rfl, ?_⟩
      rw [hgk] at e3
      by_cases h1 : q.parts = 1
      · exact h1
      · exfalso
        have h2 : 1 < jN l := by omega
        have f := follows_iff.1 (e2 1 h2)
        rw [getD0 hl0, getD0 (show 1 < l.length by omega), hgk, hg 1 (by omega) (by omega)] at f
        exact hq ⟨f.2.2.1.symm, f.2.2.2.1.symm⟩
    · exfalso
      rw [hg 0 hl0 (Ne.symm h0)] at e3
      have e6 : (jN l : Int) = parts (b.length : Int) := e3
      have f := follows_iff.1 (e2 k (by omega))
      rw [getD0 hl0, getD0 (show k < l.length by omega), hgk, hg 0 hl0 (Ne.symm h0)] at f
      exact hq ⟨f.2.2.1, f.2.2.2.1⟩
end Go.Vai.S7
