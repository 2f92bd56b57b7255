import Derived.Test.YtblgcekomnnfmaaPagePl
set_option linter.unusedSimpArgs false
set_option linter.unusedVariables false
set_option linter.constructorNameAsVariable false
namespace Go.Vai.R
open Go.Vai.O Go.Vai.L Go.Vai.G
def parts (n : Int) : Int := if n < 0 ∨ n > 7808 then 0 else if n ≤ 488 then 1 else (n + 487) / 488
theorem parts_no {n : Int} (h : n < 0 ∨ n > 7808) : parts n = 0 := if_pos h
theorem parts_is {n : Int} (h : ¬ (n < 0 ∨ n > 7808)) : 1 ≤ parts n ∧ parts n ≤ 16 ∧ n ≤ 488 * parts n ∧ (2 ≤ parts n → 488 * (parts n - 1) < n) := by
  unfold parts; rw [if_neg h]; split <;> omega
theorem parts_max {n : Int} (h : ¬ (n < 0 ∨ n > 7808)) : (if (n + 487) / 488 > 1 then (n + 487) / 488 else 1) = parts n := by
  unfold parts; rw [if_neg h]; split <;> split <;> omega
/-- A record's page. -/
def chunk (b : List (BitVec 8)) (i : Nat) : List (BitVec 8) := (b.drop (488 * i)).take 488
def pageAt (p : Page) (nil : Bool) (b : List (BitVec 8)) (n : Int) (i : Nat) : Page := ⟨p.kind, p.gen, p.mark, p.idx + i, i, n, nil, chunk b i⟩
def splitP (p : Page) (nil : Bool) (b : List (BitVec 8)) (k : Nat) : List Page := (List.range k).map (pageAt p nil b (parts b.length))
theorem splitP_succ (p : Page) (nil : Bool) (b : List (BitVec 8)) (k : Nat) : splitP p nil b (k + 1) = splitP p nil b k ++ [pageAt p nil b (parts b.length) k] := by simp [splitP, List.range_succ]
theorem splitP_len (p : Page) (nil : Bool) (b : List (BitVec 8)) (k : Nat) : (splitP p nil b k).length = k := by simp [splitP]
theorem splitP_get {p : Page} {nil : Bool} {b : List (BitVec 8)} {k i : Nat} (h : i < k) : (splitP p nil b k)[i]'(by rw [splitP_len]; exact h) = pageAt p nil b (parts b.length) i := by simp [splitP]
def catB (l : List Page) : List (BitVec 8) := l.flatMap (·.b)
theorem catB_succ {l : List Page} {k : Nat} (h : k < l.length) : catB (l.take (k + 1)) = catB (l.take k) ++ l[k].b := by
  rw [List.take_succ_eq_append_getElem h]; simp only [catB, List.flatMap_append, List.flatMap_cons, List.flatMap_nil, List.append_nil]
/-- Is a page the part of a record behind others, of which the first one is told? -/
def follows (f p : Page) (i : Int) : Bool := pageOK p && (decide (p.kind = f.kind) && (decide (p.gen = f.gen) && (decide (p.mark = f.mark) && (decide (p.idx - i = f.idx) && (decide (p.part = i) && (decide (p.parts = f.parts) && (decide (i = f.parts - 1) || decide ((p.b.length : Int) = 488))))))))
theorem follows_iff {f p : Page} {i : Int} : follows f p i = true ↔ pageOK p = true ∧ p.kind = f.kind ∧ p.gen = f.gen ∧ p.mark = f.mark ∧ p.idx - i = f.idx ∧ p.part = i ∧ p.parts = f.parts ∧ (i = f.parts - 1 ∨ (p.b.length : Int) = 488) := by
  simp only [follows, Bool.and_eq_true, Bool.or_eq_true, decide_eq_true_eq]
def allF (l : List Page) (k : Nat) : Bool := (List.range k).all fun i => follows (l.getD 0 page0) (l.getD i page0) i
theorem allF_succ (l : List Page) (k : Nat) : allF l (k + 1) = (allF l k && follows (l.getD 0 page0) (l.getD k page0) k) := by simp [allF, List.range_succ]
/-- The record that pages begin with. -/
def headOK (l : List Page) : Bool := !l.isEmpty && (pageOK (l.getD 0 page0) && decide ((l.getD 0 page0).parts ≤ (l.length : Int)))
def jN (l : List Page) : Nat := (l.getD 0 page0).parts.toNat
def jB (l : List Page) : List (BitVec 8) := catB (l.take (jN l))
def joinOK (l : List Page) : Bool := headOK l && (allF l (jN l) && decide (parts ((jB l).length : Int) = (jN l : Int)))
def joinB (l : List Page) : List (BitVec 8) := if joinOK l then jB l else []
def joinN (l : List Page) : Int := if joinOK l then (jN l : Int) else 0
def allPages (l : List Page) : Bool := l.all pageOK
/-- The document's way. -/
def refOK (l : List Page) : Bool := headOK l && ((decide (parts ((jB l).length : Int) = (jN l : Int)) && allPages (l.take (jN l))) && (List.range (jN l)).all fun i => pageEq ((splitP (l.getD 0 page0) false (jB l) (jN l)).getD i page0) (l.getD i page0))
theorem head_is {l : List Page} (h : headOK l = true) : 0 < l.length ∧ pageOK (l.getD 0 page0) = true ∧ (jN l : Int) = (l.getD 0 page0).parts ∧ jN l ≤ l.length ∧ 1 ≤ jN l ∧ jN l ≤ 16 := by
  simp only [headOK, Bool.and_eq_true, decide_eq_true_eq, Bool.not_eq_true', List.isEmpty_eq_false_iff] at h
  obtain ⟨h1, h2, h3⟩ := h
  have := page_bd h2
  have hl : 0 < l.length := List.length_pos_iff.2 h1
  unfold jN
  exact ⟨hl, h2, by omega, by omega, by omega, by omega⟩
end Go.Vai.R
