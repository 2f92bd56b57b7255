import Derived.Test.YtblgcekomnnfmaaVaiD
set_option linter.unusedSimpArgs false
set_option linter.unusedVariables false
namespace Go.Vai.O
def mayW (w : Int) : Bool := decide (w ≥ 1) && decide (w ≤ 8)
def byteAt (n : Int) (i : Nat) : BitVec 8 := BitVec.ofInt 8 (n / 2 ^ (8 * i))
def numB (w : Nat) (n : Int) (k : Nat) : List (BitVec 8) := (List.range k).map fun j => byteAt n (w - 1 - j)
def numS (w n : Int) : List (BitVec 8) := if mayW w then numB w.toNat n w.toNat else []
theorem numB_length (w : Nat) (n : Int) (k : Nat) : (numB w n k).length = k := by simp [numB]
theorem numB_succ (w : Nat) (n : Int) (k : Nat) : numB w n (k + 1) = numB w n k ++ [byteAt n (w - 1 - k)] := by simp [numB, List.range_succ]
def numR (n : Int) : Nat → List (BitVec 8)
 | 0 => []
 | k + 1 => byteAt n k :: numR n k
theorem numR_length (n : Int) : ∀ k, (numR n k).length = k
 | 0 => rfl
 | k + 1 => by simp [numR, numR_length n k]
theorem numR_get (n : Int) : ∀ (k j : Nat), j < k → (numR n k)[j]? = some (byteAt n (k - 1 - j))
 | 0, j, h => by omega
 | k + 1, 0, h => by simp [numR]
 | k + 1, j + 1, h => by
  simp only [numR, List.getElem?_cons_succ]
  rw [numR_get n k j (by omega), show k + 1 - 1 - (j + 1) = k - 1 - j by omega]
theorem numB_numR (n : Int) (k : Nat) : numB k n k = numR n k := by
 apply List.ext_getElem?
 intro j
 by_cases h : j < k
 ·rw [numR_get n k j h, numB, List.getElem?_map, List.getElem?_range h]; rfl
 ·rw [List.getElem?_eq_none (by rw [numB_length]; omega), List.getElem?_eq_none (by rw [numR_length]; omega)]
def numV (b : List (BitVec 8)) : Int := b.foldl (fun a c => a * 256 + (c.toNat : Int)) 0
theorem numV_snoc (b : List (BitVec 8)) (c : BitVec 8) : numV (b ++ [c]) = numV b * 256 + (c.toNat : Int) := by simp [numV, List.foldl_append]
theorem numV_range : ∀ (k : Nat) (b : List (BitVec 8)), b.length = k → 0 ≤ numV b ∧ numV b < 256 ^ k
 | 0, b, h => by rw [List.eq_nil_of_length_eq_zero h]; simp [numV]
 | k + 1, b, h => by
  have e : b = b.take k ++ [b[k]] := by rw [← List.take_succ_eq_append_getElem (by omega), List.take_of_length_le (by omega)]
  have hl : (b.take k).length = k := by simp; omega
  obtain ⟨h1, h2⟩ := numV_range k (b.take k) hl
  rw [e, numV_snoc]
  have := (b[k]).isLt
  rw [Int.pow_succ]
  omega
def tkF (nil : Bool) (l : List (BitVec 8)) (w : Bool) (n : Int) : Bool := if w then true else if n > (l.length : Int) then true else nil
def tkV (l : List (BitVec 8)) (w : Bool) (n : Int) : List (BitVec 8) := if w then [] else if n > (l.length : Int) then [] else l.take n.toNat
def tkL (l : List (BitVec 8)) (w : Bool) (n : Int) : List (BitVec 8) := if w then l else if n > (l.length : Int) then l else l.drop n.toNat
def tkW (l : List (BitVec 8)) (w : Bool) (n : Int) : Bool := if w then true else decide (n > (l.length : Int))
def rnV (l : List (BitVec 8)) (w : Bool) (k : Int) : Int := if mayW k then numV (tkV l w k) else 0
def rnL (l : List (BitVec 8)) (w : Bool) (k : Int) : List (BitVec 8) := if mayW k then tkL l w k else l
def rnW (l : List (BitVec 8)) (w : Bool) (k : Int) : Bool := if mayW k then tkW l w k else true
theorem tkV_length (l : List (BitVec 8)) (w : Bool) (n : Int) : (tkV l w n).length ≤ n.toNat := by
 unfold tkV; split
 ·simp
 ·split <;> simp <;> omega
theorem pow256 {a b : Nat} (h : a ≤ b) : (256 : Int) ^ a ≤ 256 ^ b := by
 have := Nat.pow_le_pow_right (n := 256) (by omega) h
 rw [show (256 : Int) = ((256 : Nat) : Int) from rfl, ← Int.natCast_pow, ← Int.natCast_pow]
 exact Int.ofNat_le.2 this
theorem rnV_range (l : List (BitVec 8)) (w : Bool) (k : Int) : 0 ≤ rnV l w k ∧ rnV l w k < 18446744073709551616 := by
 unfold rnV
 split
 ·rename_i h
  simp only [mayW, Bool.and_eq_true, decide_eq_true_eq] at h
  obtain ⟨h1, h2⟩ := numV_range _ (tkV l w k) rfl
  refine ⟨h1, Int.lt_of_lt_of_le h2 ?_⟩
  have := tkV_length l w k
  have h3 : (256 : Int) ^ (tkV l w k).length ≤ 256 ^ 8 := pow256 (by omega)
  exact Int.le_trans h3 (by decide)
 ·omega
theorem numV_lt {b : List (BitVec 8)} (h : b.length ≤ 7) : 0 ≤ numV b ∧ numV b < 72057594037927936 := by
 obtain ⟨h1, h2⟩ := numV_range _ b rfl
 exact ⟨h1, Int.lt_of_lt_of_le h2 (Int.le_trans (pow256 h) (by decide))⟩
theorem numV_take {b : List (BitVec 8)} {j : Nat} (h : j < b.length) : numV (b.take (j + 1)) = numV (b.take j) * 256 + ((b[j]).toNat : Int) := by
 rw [List.take_succ_eq_append_getElem h, numV_snoc]
theorem rnL_len (l : List (BitVec 8)) (w : Bool) (k : Int) : (rnL l w k).length ≤ l.length := by
 unfold rnL tkL; split
 ·split
  ·omega
  ·split <;> simp
 ·omega
theorem rnL_nil {l : List (BitVec 8)} (h : l = []) (w : Bool) (k : Int) : rnL l w k = [] := by
 have := rnL_len l w k
 rw [h] at this
 exact List.eq_nil_of_length_eq_zero (by simpa [h] using this)
def txW (l : List (BitVec 8)) (w : Bool) : Bool := if w then true else tkW (rnL l false 2) (rnW l false 2) (rnV l false 2)
def txL (l : List (BitVec 8)) (w : Bool) : List (BitVec 8) := if txW l w then l else tkL (rnL l false 2) (rnW l false 2) (rnV l false 2)
def txV (l : List (BitVec 8)) (w : Bool) : List (BitVec 8) := if txW l w then [] else tkV (rnL l false 2) (rnW l false 2) (rnV l false 2)
def txF (nil : Bool) (l : List (BitVec 8)) (w : Bool) : Bool := if txW l w then true else nil
def rBad (l : List (BitVec 8)) (at_ : Nat) (w : Bool) (k : Int) : Bool := ((w || decide (k < 1)) || decide (k > 8)) || decide (k > (l.length : Int) - (at_ : Int))
def rV (l : List (BitVec 8)) (at_ : Nat) (w : Bool) (k : Int) : Int := if rBad l at_ w k then 0 else numV ((l.drop at_).take k.toNat)
def rA (l : List (BitVec 8)) (at_ : Nat) (w : Bool) (k : Int) : Nat := if rBad l at_ w k then at_ else at_ + k.toNat
theorem rV_range (l : List (BitVec 8)) (at_ : Nat) (w : Bool) (k : Int) : 0 ≤ rV l at_ w k ∧ rV l at_ w k < 18446744073709551616 := by
 unfold rV
 split
 ·omega
 ·rename_i h
  simp [rBad] at h
  obtain ⟨h1, h2⟩ := numV_range _ ((l.drop at_).take k.toNat) rfl
  refine ⟨h1, Int.lt_of_lt_of_le h2 (Int.le_trans (pow256 (b := 8) ?_) (by decide))⟩
  simp; omega
def sBad (l : List (BitVec 8)) (at_ : Nat) (w : Bool) : Bool := rBad l at_ w 2 || decide (rV l at_ w 2 > (l.length : Int) - (rA l at_ w 2 : Int))
def sA (l : List (BitVec 8)) (at_ : Nat) (w : Bool) : Nat := if sBad l at_ w then at_ else rA l at_ w 2 + (rV l at_ w 2).toNat
def sV (l : List (BitVec 8)) (at_ : Nat) (w : Bool) : List (BitVec 8) := if sBad l at_ w then [] else (l.drop (rA l at_ w 2)).take (rV l at_ w 2).toNat
theorem drop_len {l : List (BitVec 8)} {a : Nat} (h : a ≤ l.length) : ((l.drop a).length : Int) = (l.length : Int) - (a : Int) := by simp; omega
theorem num_ok {l : List (BitVec 8)} {a : Nat} (h : a ≤ l.length) (w : Bool) (k : Int) : rnV (l.drop a) w k = rV l a w k ∧ rnL (l.drop a) w k = l.drop (rA l a w k) ∧ rnW (l.drop a) w k = rBad l a w k := by
 have hd := drop_len h
 by_cases hk : k < 1 ∨ k > 8
 ·have hm : mayW k = false := by simp [mayW]; omega
  have hb : rBad l a w k = true := by simp [rBad]; omega
  simp [rnV, rnL, rnW, hm, rV, rA, hb]
 ·have hm : mayW k = true := by simp [mayW]; omega
  cases w with
  | true =>
   have hb : rBad l a true k = true := by simp [rBad]
   simp [rnV, rnL, rnW, hm, rV, rA, hb, tkV, tkL, tkW, numV]
  | false =>
   by_cases hl : k > (l.length : Int) - (a : Int)
   ·have hb : rBad l a false k = true := by simp [rBad]; omega
    have hl2 : k > ((l.drop a).length : Int) := by omega
    simp only [rnV, rnL, rnW, hm, rV, rA, hb, tkV, tkL, tkW, if_true, if_pos hl2, Bool.false_eq_true, if_false]
    simp [numV]; omega
   ·have hb : rBad l a false k = false := by simp [rBad]; omega
    have hl2 : ¬ k > ((l.drop a).length : Int) := by omega
    simp only [rnV, rnL, rnW, hm, rV, rA, hb, tkV, tkL, tkW, if_true, if_neg hl2, Bool.false_eq_true, if_false]
    refine ⟨?_, ?_, ?_⟩ <;> first | rfl | trivial | (rw [List.drop_drop]; done) | exact decide_eq_false hl2 | exact hl2
end Go.Vai.O
