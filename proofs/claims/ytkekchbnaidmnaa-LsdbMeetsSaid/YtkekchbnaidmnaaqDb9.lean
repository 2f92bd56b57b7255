import Derived.Test.YtkekchbnaidmnaaqDb8
import Derived.Test.YtkekchbnaidmnaaVaiE
import Derived.Test.YtkekchbnaidmnaaDbPl2
namespace Go.Vai.DB
open Go.Proofs Go.Vai Go.Vai.D Go.Vai.I Go.Vai.L Go.Vai.N Go.Vai.O
set_option linter.unusedSimpArgs false
set_option linter.unusedVariables false
theorem itm_o (x : Lsa) : (itm x).o = x.o := rfl
theorem itm_s (x : Lsa) : (itm x).s = x.s := rfl
theorem xS_nil {n : Bool} {a F : List Lsa} {k : Nat} (hz : n = true → a = []) (h : (n && decide (k = 0)) = true) : xS a F k = [] := by
 simp only [Bool.and_eq_true, decide_eq_true_eq] at h
 rw [h.2, hz h.1]; rfl
theorem xS_fit {a b : List Lsa} {k : Nat} (pa : ∀ y ∈ a, fit y) (pb : ∀ y ∈ b, fit y) : ∀ y ∈ xS a (fA a b) k, fit y := fun y hy => by
 rcases xS_mem k y hy with h | h
 ·exact pa y h
 ·exact pb y (List.mem_filter.1 h).1
theorem xS_len {a b : List Lsa} (ha : dbOK a = true) (hb : dbOK b = true) (k : Nat) : (xS a (fA a b) k).length ≤ 64 := db_len (xS_ok ha (fun y hy => (fA_mem ha hb hy).2.1) k)
theorem fA_fit {a b : List Lsa} {k : Nat} (pb : ∀ y ∈ b, fit y) (hk : k < (fA a b).length) : fit (fA a b)[k] := pb _ (List.mem_filter.1 (List.getElem_mem hk)).1
theorem fA_lle {a b : List Lsa} (ha : dbOK a = true) (hb : dbOK b = true) : (lacksR b (itemsR a)).length = (fA a b).length := by rw [fA_lacks ha hb, List.length_map]
theorem fA_at {a b : List Lsa} (ha : dbOK a = true) (hb : dbOK b = true) {k : Nat} (hk : k < (lacksR b (itemsR a)).length) (hf : k < (fA a b).length) : (lacksR b (itemsR a))[k].o = (fA a b)[k].o := by
 have e := fA_lacks ha hb
 simp only [e, List.getElem_map]; rfl
theorem fA_len (a b : List Lsa) : (fA a b).length ≤ b.length := List.length_filter_le _ _
attribute [go_sem] itm_o
attribute [go_sem] itm_s
end Go.Vai.DB
