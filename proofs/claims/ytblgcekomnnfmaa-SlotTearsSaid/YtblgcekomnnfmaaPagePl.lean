import Derived.Test.YtblgcekomnnfmaaLsaBk
set_option linter.unusedSimpArgs false
set_option linter.unusedVariables false
set_option linter.constructorNameAsVariable false
namespace Go.Vai.G
open Go.Vai.O Go.Vai.L
structure Page where
  kind : Int
  gen : Int
  mark : Int
  idx : Int
  part : Int
  parts : Int
  nil : Bool
  b : List (BitVec 8)
def pageA (p : Page) : AV := .agg [.i .i64 p.kind, .i .i64 p.gen, .i .i64 p.mark, .i .i64 p.idx, .i .i64 p.part, .i .i64 p.parts, .sl 1 p.nil (bsl p.b)]
theorem cellsOf_page (p : Page) : cellsOf (pageA p) = [.i .i64 p.kind, .i .i64 p.gen, .i .i64 p.mark, .i .i64 p.idx, .i .i64 p.part, .i .i64 p.parts, .sl 1 p.nil (bsl p.b)] := rfl
@[simp] theorem noPtr_page (p : Page) : noPtr (pageA p) = true := by simp [pageA, noPtr, noPtrL, noPtrL_bsl]
@[simp] theorem noPtrL_pages (ps : List Page) : noPtrL (ps.map pageA) = true := noPtrL_map noPtr_page _
def page0 : Page := ⟨0, 0, 0, 0, 0, 0, true, []⟩
def wi (n lo hi : Int) : Bool := decide (n ≥ lo) && decide (n ≤ hi)
def pageOK (p : Page) : Bool := wi p.kind 1 9 && (wi p.gen 0 2147483648 && (wi p.mark 0 2147483648 && (wi p.idx 0 2147483648 && (wi p.parts 1 16 && (wi p.part 0 (p.parts - 1) && decide ((p.b.length : Int) ≤ 488))))))
def inn (n most : Int) : Bool := decide (n ≥ 0) && decide (n ≤ most)
def pageEq (p q : Page) : Bool := decide (p.kind = q.kind) && (decide (p.gen = q.gen) && (decide (p.mark = q.mark) && (decide (p.idx = q.idx) && (decide (p.part = q.part) && (decide (p.parts = q.parts) && decide (p.b = q.b))))))
theorem page_bd {p : Page} (h : pageOK p = true) : (1 ≤ p.kind ∧ p.kind ≤ 9) ∧ (0 ≤ p.gen ∧ p.gen ≤ 2147483648) ∧ (0 ≤ p.mark ∧ p.mark ≤ 2147483648) ∧ (0 ≤ p.idx ∧ p.idx ≤ 2147483648) ∧ (1 ≤ p.parts ∧ p.parts ≤ 16) ∧ (0 ≤ p.part ∧ p.part < p.parts) ∧ p.b.length ≤ 488 := by
  simp only [pageOK, wi, Bool.and_eq_true, decide_eq_true_eq] at h
  omega
/-- What a page's sector has ahead of its check. -/
def pageH (p : Page) : List (BitVec 8) := [87#8, 65#8, 89#8] ++ (numR p.kind 1 ++ (numR p.gen 4 ++ (numR p.mark 4 ++ (numR p.idx 4 ++ (numR p.part 1 ++ (numR p.parts 1 ++ (numR (p.b.length : Int) 2 ++ p.b)))))))
def pageB (p : Page) : List (BitVec 8) := pageH p ++ List.replicate (488 - p.b.length) 0#8
theorem pageH_len (p : Page) : (pageH p).length = 20 + p.b.length := by
  simp only [pageH, List.length_append, numR_length, List.length_cons, List.length_nil]; omega
theorem pageB_len {p : Page} (h : p.b.length ≤ 488) : (pageB p).length = 508 := by
  simp only [pageB, List.length_append, pageH_len, List.length_replicate]; omega
end Go.Vai.G
