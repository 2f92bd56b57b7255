import Derived.Test.YtblgcekomnnfmaaLsaBk
set_option linter.unusedSimpArgs false
set_option linter.unusedVariables false
namespace Go.Vai.G
open Go.Vai.O Go.Vai.L
structure Page where
 kind : Int
 gen : Int
 mark : Int
 idx : Int
 part : Int
 parts : Int
 nil : Bool
 b : List (BitVec 8)
def pageA (p : Page) : AV := .agg [.i .i64 p.kind, .i .i64 p.gen, .i .i64 p.mark, .i .i64 p.idx, .i .i64 p.part, .i .i64 p.parts, .sl 1 p.nil (bsl p.b)]
@[simp] theorem noPtr_page (p : Page) : noPtr (pageA p) = true := by simp [pageA, noPtr, noPtrL, noPtrL_bsl]
@[simp] theorem noPtrL_pages (ps : List Page) : noPtrL (ps.map pageA) = true := noPtrL_map noPtr_page _
def page0 : Page := ⟨0, 0, 0, 0, 0, 0, true, []⟩
def wi (n lo hi : Int) : Bool := decide (n ≥ lo) && decide (n ≤ hi)
def pageOK (p : Page) : Bool := wi p.kind 1 9 && (wi p.gen 0 2147483648 && (wi p.mark 0 2147483648 && (wi p.idx 0 2147483648 && (wi p.parts 1 16 && (wi p.part 0 (p.parts - 1) && decide ((p.b.length : Int) ≤ 488))))))
def inn (n most : Int) : Bool := decide (n ≥ 0) && decide (n ≤ most)
def pageEq (p q : Page) : Bool := decide (p.kind = q.kind) && (decide (p.gen = q.gen) && (decide (p.mark = q.mark) && (decide (p.idx = q.idx) && (decide (p.part = q.part) && (decide (p.parts = q.parts) && decide (p.b = q.b))))))
def pageH (p : Page) : List (BitVec 8) := [87#8, 65#8, 89#8] ++ (numR p.kind 1 ++ (numR p.gen 4 ++ (numR p.mark 4 ++ (numR p.idx 4 ++ (numR p.part 1 ++ (numR p.parts 1 ++ (numR (p.b.length : Int) 2 ++ p.b)))))))
def pageB (p : Page) : List (BitVec 8) := pageH p ++ List.replicate (488 - p.b.length) 0#8
end Go.Vai.G
