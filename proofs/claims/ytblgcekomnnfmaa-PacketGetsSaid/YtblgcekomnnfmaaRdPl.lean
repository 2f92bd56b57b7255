import Derived.Test.YtblgcekomnnfmaaPageBk
set_option linter.unusedSimpArgs false
set_option linter.unusedVariables false
namespace Go.Vai.L
open Go.Vai.O Go.Vai.G
theorem rn_cons {l : List (BitVec 8)} {w : Bool} {k : Int} (hk : 1 ≤ k ∧ k ≤ 8) (h : rnW l w k = false) : w = false ∧ l = numR (rnV l w k) k.toNat ++ rnL l w k := by
 have hm : mayW k = true := by simp [mayW]; omega
 simp only [rnW, hm, if_true, tkW] at h
 cases w with
 | true => simp at h
 | false =>
  refine ⟨rfl, ?_⟩
  simp only [Bool.false_eq_true, if_false, decide_eq_false_iff_not] at h
  simp only [rnV, rnL, hm, if_true, tkV, tkL, Bool.false_eq_true, if_false, if_neg h]
  rw [numR_numV (by simp; omega), List.take_append_drop]
theorem rdLinks_cons {l : List (BitVec 8)} {w : Bool} : ∀ {k : Nat} {xs : List LinkS} {l' : List (BitVec 8)}, rdLinks l w k = (xs, l', false) → w = false ∧ l = linksB xs ++ l' ∧ xs.length = k
 | 0, xs, l', h => by
  simp only [rdLinks, Prod.mk.injEq] at h
  obtain ⟨rfl, rfl, rfl⟩ := h
  exact ⟨rfl, rfl, rfl⟩
 | k + 1, xs, l', h => by
  rw [rdLinks] at h
  obtain ⟨ys, m, v, e⟩ : ∃ ys m v, rdLinks l w k = (ys, m, v) := ⟨_, _, _, rfl⟩
  rw [e] at h
  cases v with
  | true => simp [rdStep] at h
  | false =>
   simp only [rdStep, Bool.false_eq_true, if_false, Prod.mk.injEq] at h
   obtain ⟨h1, h2, h3⟩ := h
   obtain ⟨i1, i2, i3⟩ := rdLinks_cons e
   obtain ⟨j1, j2⟩ := rn_cons (k := 4) (by omega) h3
   obtain ⟨k1, k2⟩ := rn_cons (k := 1) (by omega) j1
   refine ⟨i1, ?_, by rw [← h1]; simp [i3]⟩
   rw [i2, k2, ← h1]
   simp only [linksB, List.flatMap_append, List.flatMap_cons, List.flatMap_nil, List.append_nil, linkB, List.append_assoc, List.append_cancel_left_eq]
   rw [← h2]
   exact congrArg _ j2
theorem numR_wrap (x : Int) : numR (IntKind.i64.wrap x) 8 = numR x 8 := by
 have h : ∃ q : Int, IntKind.i64.wrap x = x + q * 18446744073709551616 := by
  exact ⟨-((x + 9223372036854775808) / 18446744073709551616), by rw [IntKind.wrap_i64]; omega⟩
 obtain ⟨q, e⟩ := h
 rw [e]
 apply List.ext_getElem?
 intro j
 by_cases hj : j < 8
 ·rw [numR_get _ 8 j hj, numR_get _ 8 j hj]
  congr 1
  apply BitVec.eq_of_toNat_eq
  have h1 := byteAt_toNat (x + q * 18446744073709551616) (8 - 1 - j)
  have h2 := byteAt_toNat x (8 - 1 - j)
  have : (x + q * 18446744073709551616) / 2 ^ (8 * (8 - 1 - j)) % 256 = x / 2 ^ (8 * (8 - 1 - j)) % 256 := by
   have : j = 0 ∨ j = 1 ∨ j = 2 ∨ j = 3 ∨ j = 4 ∨ j = 5 ∨ j = 6 ∨ j = 7 := by omega
   rcases this with rfl | rfl | rfl | rfl | rfl | rfl | rfl | rfl <;> simp only [Nat.reduceSub, Nat.reduceMul, Int.reducePow] <;> omega
  omega
 ·rw [List.getElem?_eq_none (by rw [numR_length]; omega), List.getElem?_eq_none (by rw [numR_length]; omega)]
theorem rd_cons {l : List (BitVec 8)} {w : Bool} (h : rdOK l w = true) : w = false ∧ l = lsaB (rdL l w) ++ rdR l w ∧ lsaOK (rdL l w) = true ∧ rdW l w = false := by
 have hl : rdL l w = rdRaw l w := by rw [rdL, h, if_pos rfl]
 simp only [rdOK, Bool.and_eq_true, Bool.not_eq_true'] at h
 obtain ⟨h1, h2⟩ := h
 obtain ⟨xs, m, v, e⟩ : ∃ xs m v, rdP l w = (xs, m, v) := ⟨_, _, _, rfl⟩
 have hv : v = false := by rw [rdW, e] at h1; exact h1
 subst hv
 obtain ⟨i1, i2, i3⟩ := rdLinks_cons e
 obtain ⟨j1, j2⟩ := rn_cons (k := 1) (by omega) i1
 obtain ⟨k1, k2⟩ := rn_cons (k := 8) (by omega) j1
 obtain ⟨m1, m2⟩ := rn_cons (k := 1) (by omega) k1
 have hn : 0 ≤ hdN l w := (rnV_range _ _ 1).1
 refine ⟨m1, ?_, by rw [hl]; exact h2, h1⟩
 rw [hl]
 have er : rdR l w = m := by rw [rdR, e]
 have e2 : (rdRaw l w).ls = xs := by rw [rdRaw, e]
 have e3 : ((xs.length : Nat) : Int) = hdN l w := by rw [i3]; omega
 rw [er, lsaB, e2, e3]
 show l = numR (rnV l w 1) 1 ++ (numR (IntKind.i64.wrap (rnV (rnL l w 1) (rnW l w 1) 8)) 8 ++ (numR (hdN l w) 1 ++ linksB xs)) ++ m
 rw [numR_wrap]
 simp only [List.append_assoc]
 rw [← i2]
 conv => lhs; rw [m2, k2, j2]
 rfl
end Go.Vai.L
