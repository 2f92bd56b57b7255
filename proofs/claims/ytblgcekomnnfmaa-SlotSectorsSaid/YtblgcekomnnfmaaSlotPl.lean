import Derived.Test.YtblgcekomnnfmaaRecLaw
set_option linter.unusedSimpArgs false
set_option linter.unusedVariables false
set_option linter.constructorNameAsVariable false
namespace Go.Vai.S7
open Go.Vai.O Go.Vai.L Go.Vai.G Go.Vai.R
variable {α : Type} (ok : α → Bool) (val : α → Page)
/-- The pages that sectors begin with. -/
def pagesOf (ss : List α) : List Page := (ss.takeWhile ok).map val
theorem pages_stop {ss : List α} {k : Nat} (hk : k < ss.length) (h : (ss.take k).all ok = true) (h1 : ok ss[k] = false) : pagesOf ok val ss = (ss.take k).map val := by
  rw [pagesOf]
  congr 1
  induction ss generalizing k with
  | nil => simp at hk
  | cons x t ih =>
    cases k with
    | zero => simp at h1; simp [List.takeWhile, h1]
    | succ k =>
      simp only [List.take_succ_cons, List.all_cons, Bool.and_eq_true] at h
      simp only [List.takeWhile, h.1, List.take_succ_cons]
      rw [ih (by simpa using hk) h.2 (by simpa using h1)]
theorem pages_full {ss : List α} (h : ss.all ok = true) : pagesOf ok val ss = ss.map val := by
  rw [pagesOf]
  congr 1
  induction ss with
  | nil => rfl
  | cons x t ih =>
    simp only [List.all_cons, Bool.and_eq_true] at h
    simp only [List.takeWhile, h.1, ih h.2]
/-- Whether pages are a slot's base. -/
def slotOK (l : List Page) : Bool := joinOK l && (decide ((l.getD 0 page0).kind = 1) && decide ((l.getD 0 page0).idx = 0))
def slotB (l : List Page) : List (BitVec 8) := if slotOK l then joinB l else []
def slotG (l : List Page) : Int := if slotOK l then (l.getD 0 page0).gen else 0
/-- The greatest mark. -/
def markOf (ss : List α) : Int := ss.foldl (fun n s => if ok s then (if (val s).mark > n then (val s).mark else n) else n) 0
theorem markOf_take {ss : List α} {k : Nat} (hk : k < ss.length) : markOf ok val (ss.take (k + 1)) = (if ok ss[k] then (if (val ss[k]).mark > markOf ok val (ss.take k) then (val ss[k]).mark else markOf ok val (ss.take k)) else markOf ok val (ss.take k)) := by
  rw [List.take_succ_eq_append_getElem hk]
  rw [markOf, List.foldl_append]; rfl
/-! Tears. -/
end Go.Vai.S7
