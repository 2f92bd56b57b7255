import Derived.Test.YtompjoadhhjddaaChPl
set_option linter.unusedSimpArgs false
set_option linter.unusedVariables false
set_option linter.constructorNameAsVariable false
namespace Go.Vai.C
open Go.Vai.O Go.Vai.L Go.Vai.G
theorem norm_B (c : Ch) : chB (norm c) = chB c := rfl
theorem norm_OK (c : Ch) : chOK (norm c) = chOK c := rfl
theorem norms_B (xs : List Ch) : putB (xs.map norm) = putB xs := by
  simp only [putB, chsB, List.length_map, List.flatMap_map]; rfl
theorem norms_OK (xs : List Ch) : allCh (xs.map norm) = allCh xs := by
  simp only [allCh, List.all_map]; rfl
/-- Changes that are read one behind the other. -/
def rdK (l : List (BitVec 8)) : Nat → Option (List Ch × List (BitVec 8))
  | 0 => some ([], l)
  | k + 1 => match rdK l k with
    | some p => if (rdC p.2 false).ok then some (p.1 ++ [(rdC p.2 false).c], (rdC p.2 false).l) else none
    | none => none
def getN (b : List (BitVec 8)) : Int := rnV b false 1
def chGet (b : List (BitVec 8)) : Option (List Ch) :=
  if wi (getN b) 1 40 then match rdK (rnL b false 1) (getN b).toNat with
    | some p => if p.2.isEmpty then some p.1 else none
    | none => none
  else none
theorem rdK_none {l : List (BitVec 8)} {k : Nat} (h : rdK l k = none) : ∀ {n : Nat}, k ≤ n → rdK l n = none
  | 0, hn => by obtain rfl : k = 0 := by omega
                exact h
  | n + 1, hn => by
    by_cases e : k = n + 1
    · subst e; exact h
    · rw [rdK, rdK_none h (by omega)]
theorem rdK_some {l m : List (BitVec 8)} {xs : List Ch} {k : Nat} (h : rdK l k = some (xs, m)) : rdK l (k + 1) = if (rdC m false).ok then some (xs ++ [(rdC m false).c], (rdC m false).l) else none := by
  rw [rdK, h]
theorem rdK_cons {l : List (BitVec 8)} : ∀ {k : Nat} {xs : List Ch} {m : List (BitVec 8)}, rdK l k = some (xs, m) → l = chsB xs ++ m ∧ allCh xs = true ∧ xs.length = k
  | 0, xs, m, h => by
    simp only [rdK, Option.some.injEq, Prod.mk.injEq] at h
    obtain ⟨rfl, rfl⟩ := h
    exact ⟨rfl, rfl, rfl⟩
  | k + 1, xs, m, h => by
    cases e : rdK l k with
    | none => rw [rdK, e] at h; cases h
    | some p =>
      obtain ⟨ys, m1⟩ := p
      rw [rdK_some e] at h
      split at h
      · rename_i hok
        simp only [Option.some.injEq, Prod.mk.injEq] at h
        obtain ⟨h1, h2⟩ := h
        obtain ⟨i1, i2, i3⟩ := rdK_cons e
        obtain ⟨j1, j2, j3, j4⟩ := rdC_cons hok
        refine ⟨?_, ?_, by rw [← h1]; simp [i3]⟩
        · rw [i1, ← h1, ← h2]
          simp only [chsB, List.flatMap_append, List.flatMap_cons, List.flatMap_nil, List.append_nil, List.append_assoc, List.append_cancel_left_eq]
          exact j2
        · rw [← h1]
          simp only [allCh, List.all_append, List.all_cons, List.all_nil, Bool.and_true, Bool.and_eq_true] at i2 ⊢
          exact ⟨i2, j3⟩
      · cases h
theorem chsB_drop {l : List Ch} {k : Nat} (h : k < l.length) : chsB (l.drop k) = chB l[k] ++ chsB (l.drop (k + 1)) := by
  rw [List.drop_eq_getElem_cons h]; simp only [chsB, List.flatMap_cons]
theorem rdK_back {xs : List Ch} (h : allCh xs = true) : ∀ k, k ≤ xs.length → rdK (chsB xs) k = some ((xs.map norm).take k, chsB (xs.drop k))
  | 0, _ => by simp [rdK]
  | k + 1, hk => by
    have ok : chOK xs[k] = true := by
      simp only [allCh, List.all_eq_true] at h; exact h _ (List.getElem_mem _)
    rw [rdK_some (rdK_back h k (by omega)), chsB_drop (by omega), rdC_back ok]
    simp only [if_true]
    rw [List.take_succ_eq_append_getElem (l := xs.map norm) (by simp; omega), List.getElem_map]
theorem get_in {b : List (BitVec 8)} (h : wi (getN b) 1 40 = true) : rnW b false 1 = false := by
  cases hw : rnW b false 1 with
  | false => rfl
  | true =>
    simp only [rnW, mayW, tkW] at hw
    have : b = [] := List.eq_nil_of_length_eq_zero (by simp at hw; omega)
    subst this
    simp [getN, rnV, mayW, tkV, numV, wi] at h
theorem chGet_cons {b : List (BitVec 8)} {xs : List Ch} (h : chGet b = some xs) : b = putB xs ∧ allCh xs = true ∧ many xs = true := by
  unfold chGet at h
  split at h
  · rename_i hn
    split at h
    · rename_i p hp
      split at h
      · rename_i he
        simp only [Option.some.injEq] at h
        obtain ⟨ys, m⟩ := p
        simp only at h he
        subst h
        obtain rfl : m = [] := by simpa using he
        obtain ⟨i1, i2, i3⟩ := rdK_cons hp
        obtain ⟨_, j2⟩ := rn_cons (k := 1) (by omega) (get_in hn)
        simp only [wi, Bool.and_eq_true, decide_eq_true_eq] at hn
        have e : ((ys.length : Nat) : Int) = getN b := by rw [i3]; omega
        refine ⟨?_, i2, ?_⟩
        · rw [putB, e]
          rw [List.append_nil] at i1
          rw [← i1]; exact j2
        · simp only [many, Bool.and_eq_true, decide_eq_true_eq]; omega
      · cases h
    · cases h
  · cases h
theorem many_bd {xs : List Ch} (h : many xs = true) : 1 ≤ xs.length ∧ xs.length ≤ 40 := by
  simpa only [many, Bool.and_eq_true, decide_eq_true_eq] using h
theorem chGet_back {xs : List Ch} (h : allCh xs = true) (hm : many xs = true) : chGet (putB xs) = some (xs.map norm) := by
  have hb := many_bd hm
  obtain ⟨e1, e2, e3⟩ := back1 (n := (xs.length : Int)) (by omega) (chsB xs)
  have hn : getN (putB xs) = (xs.length : Int) := e1
  have hw : wi (getN (putB xs)) 1 40 = true := by simp only [wi, hn, Bool.and_eq_true, decide_eq_true_eq]; omega
  have e2' : rnL (putB xs) false 1 = chsB xs := e2
  rw [chGet, hw, if_pos rfl, e2', hn, Int.toNat_natCast, rdK_back h _ (Nat.le_refl _)]
  simp [chsB, List.take_of_length_le]
/-! The document's way: what bytes seem to begin with, and whether its own bytes stand there. -/
def gsC (b : List (BitVec 8)) : Ch :=
  if b.isEmpty then ⟨0, lsa0, 0, 0⟩
  else if at1 b 0 = 1 then ⟨1, rfL (b.drop 1), 0, 0⟩
  else if at1 b 0 = 2 then ⟨2, lsa0, IntKind.i64.wrap (rV b 1 false 8), 0⟩
  else if at1 b 0 = 3 then ⟨3, lsa0, rV b 1 false 4, 0⟩
  else if at1 b 0 = 4 then ⟨4, lsa0, rV b (rA b 1 false 1) (rBad b 1 false 1) 4, rV b 1 false 1⟩
  else ⟨at1 b 0, lsa0, 0, 0⟩
theorem gsC_back {c : Ch} (h : chOK c = true) (r : List (BitVec 8)) : gsC (chB c ++ r) = norm c := by
  obtain ⟨t, ht⟩ : ∃ t, chB c ++ r = numR c.kind 1 ++ t := ⟨_, by rw [chB, List.append_assoc]⟩
  have hk : 0 ≤ c.kind ∧ c.kind < 256 := by rcases ch_kind h with ⟨h, _⟩ | ⟨h, _⟩ | ⟨h, _⟩ | ⟨h, _⟩ <;> omega
  have hne : (chB c ++ r).isEmpty = false := by rw [ht, numR_one]; rfl
  have hl : 1 ≤ (chB c ++ r).length := by rw [ht, numR_one]; simp
  have h0 : at1 (chB c ++ r) 0 = c.kind := by
    obtain ⟨e1, _, _⟩ := back1 hk t
    obtain ⟨f1, _, _⟩ := num_ok (l := numR c.kind 1 ++ t) (a := 0) (Nat.zero_le _) false 1
    rw [List.drop_zero, e1] at f1
    rw [at1, ← rV_one (by omega), ht, ← f1]
  have hd : (chB c ++ r).drop 1 = t := by rw [ht, List.drop_left' (numR_length _ _)]
  have hv : ∀ w : Int, rV (chB c ++ r) 1 false w = rnV t false w := fun w => by
    obtain ⟨f1, _, _⟩ := num_ok (l := chB c ++ r) (a := 1) hl false w
    rw [hd] at f1; exact f1.symm
  rw [gsC, hne, h0]
  simp only [Bool.false_eq_true, if_false]
  rcases ch_kind h with ⟨hk, h1, h2, h3⟩ | ⟨hk, h1, h2, h3⟩ | ⟨hk, h1, h2, h3⟩ | ⟨hk, h1, h2, h3⟩
  · have et : t = lsaB c.l ++ r := by
      have : chB c ++ r = numR c.kind 1 ++ (lsaB c.l ++ r) := by simp only [chB, hk, if_true, List.append_assoc]
      exact List.append_cancel_left (ht.symm.trans this)
    rw [if_pos hk, hd, et, ← (rd_rf (lsaB c.l ++ r)).2.1, (rd_backs h1 r).1]
    simp only [norm, hk, h2, h3, if_true]
  · obtain ⟨b1, b2, b3⟩ := bare_l h1
    have et : t = numR c.n 8 ++ r := by
      have : chB c ++ r = numR c.kind 1 ++ (numR c.n 8 ++ r) := by simp only [chB, hk, show ¬ ((2 : Int) = 1) by decide, if_false, if_true, List.append_assoc]
      exact List.append_cancel_left (ht.symm.trans this)
    rw [if_neg (by omega), if_pos hk, hv, et, (back8 (n := c.n) (by omega) r).1, wrap_seq h2]
    simp only [norm, hk, h3, b1, b2, b3, lsa0, show ¬ ((2 : Int) = 1) by decide, if_false]
  · obtain ⟨b1, b2, b3⟩ := bare_l h1
    have et : t = numR c.n 4 ++ r := by
      have : chB c ++ r = numR c.kind 1 ++ (numR c.n 4 ++ r) := by simp only [chB, hk, show ¬ ((3 : Int) = 1) by decide, show ¬ ((3 : Int) = 2) by decide, show ¬ ((3 : Int) = 4) by decide, if_false, List.append_assoc]
      exact List.append_cancel_left (ht.symm.trans this)
    rw [if_neg (by omega), if_neg (by omega), if_pos hk, hv, et, (back4 (n := c.n) (by omega) r).1]
    simp only [norm, hk, h3, b1, b2, b3, lsa0, show ¬ ((3 : Int) = 1) by decide, if_false]
  · obtain ⟨b1, b2, b3⟩ := bare_l h1
    have et : t = numR c.of 1 ++ (numR c.n 4 ++ r) := by
      have : chB c ++ r = numR c.kind 1 ++ (numR c.of 1 ++ (numR c.n 4 ++ r)) := by simp only [chB, hk, show ¬ ((4 : Int) = 1) by decide, show ¬ ((4 : Int) = 2) by decide, if_false, if_true, List.append_assoc]
      exact List.append_cancel_left (ht.symm.trans this)
    obtain ⟨q1, q2, q3⟩ := back1 (n := c.of) (by omega) (numR c.n 4 ++ r)
    obtain ⟨f1, f2, f3⟩ := num_ok (l := chB c ++ r) (a := 1) hl false 1
    rw [hd, et] at f1 f2 f3
    have ha := rA_le (l := chB c ++ r) (at_ := 1) hl false 1
    obtain ⟨g1, g2, g3⟩ := num_ok (l := chB c ++ r) (a := rA (chB c ++ r) 1 false 1) ha (rBad (chB c ++ r) 1 false 1) 4
    rw [← f2, ← f3, q2, q3] at g1
    rw [if_neg (by omega), if_neg (by omega), if_neg (by omega), if_pos hk, f3.symm.trans q3, ← g1, ← f1, q1, (back4 (n := c.n) (by omega) r).1]
    simp only [norm, hk, b1, b2, b3, lsa0, show ¬ ((4 : Int) = 1) by decide, if_false]
def rfK (l : List (BitVec 8)) : Nat → Option (List Ch × List (BitVec 8))
  | 0 => some ([], l)
  | k + 1 => match rfK l k with
    | some p => if chOK (gsC p.2) && decide ((chB (gsC p.2)).length ≤ p.2.length) then some (p.1 ++ [gsC p.2], p.2.drop (chB (gsC p.2)).length) else none
    | none => none
def rfC (b : List (BitVec 8)) : Nat := min (b.getD 0 default).toNat 41
def rfGet (b : List (BitVec 8)) : Option (List Ch) :=
  if b.isEmpty then none else match rfK (b.drop 1) (rfC b) with
    | some p => if allCh p.1 && many p.1 && decide (putB p.1 = b) then some p.1 else none
    | none => none
theorem rfK_none {l : List (BitVec 8)} {k : Nat} (h : rfK l k = none) : ∀ {n : Nat}, k ≤ n → rfK l n = none
  | 0, hn => by obtain rfl : k = 0 := by omega
                exact h
  | n + 1, hn => by
    by_cases e : k = n + 1
    · subst e; exact h
    · rw [rfK, rfK_none h (by omega)]
theorem rfK_some {l m : List (BitVec 8)} {xs : List Ch} {k : Nat} (h : rfK l k = some (xs, m)) : rfK l (k + 1) = if chOK (gsC m) && decide ((chB (gsC m)).length ≤ m.length) then some (xs ++ [gsC m], m.drop (chB (gsC m)).length) else none := by
  rw [rfK, h]
theorem rfK_back {xs : List Ch} (h : allCh xs = true) : ∀ k, k ≤ xs.length → rfK (chsB xs) k = some ((xs.map norm).take k, chsB (xs.drop k))
  | 0, _ => by simp [rfK]
  | k + 1, hk => by
    have ok : chOK xs[k] = true := by
      simp only [allCh, List.all_eq_true] at h; exact h _ (List.getElem_mem _)
    rw [rfK_some (rfK_back h k (by omega)), chsB_drop (by omega), gsC_back ok, norm_OK, norm_B, ok]
    rw [if_pos (by simp), List.drop_left' rfl, List.take_succ_eq_append_getElem (l := xs.map norm) (by simp; omega), List.getElem_map]
theorem rfGet_back {xs : List Ch} (h : allCh xs = true) (hm : many xs = true) : rfGet (putB xs) = some (xs.map norm) := by
  have hb := many_bd hm
  have hne : (putB xs).isEmpty = false := by rw [putB, numR_one]; rfl
  have hd : (putB xs).drop 1 = chsB xs := by rw [putB, List.drop_left' (numR_length _ _)]
  have hc : rfC (putB xs) = xs.length := by
    have : (putB xs).getD 0 default = BitVec.ofInt 8 (xs.length : Int) := by rw [putB, numR_one]; rfl
    rw [rfC, this]
    simp; omega
  rw [rfGet, hne, hd, hc, rfK_back h _ (Nat.le_refl _)]
  have hm2 : many (xs.map norm) = true := by simpa [many] using hm
  have e : ((xs.map norm).take xs.length) = xs.map norm := List.take_of_length_le (by simp)
  simp only [Bool.false_eq_true, if_false, e, norms_OK, h, hm2, norms_B, decide_true, Bool.and_true, if_true]
theorem rfGet_cons {b : List (BitVec 8)} {xs : List Ch} (h : rfGet b = some xs) : b = putB xs ∧ allCh xs = true ∧ many xs = true := by
  unfold rfGet at h
  split at h
  · cases h
  · split at h
    · split at h
      · rename_i p hp hc
        simp only [Option.some.injEq] at h
        subst h
        simp only [Bool.and_eq_true, decide_eq_true_eq] at hc
        exact ⟨hc.2.symm, hc.1.1, hc.1.2⟩
      · cases h
    · cases h
theorem get_ref (b : List (BitVec 8)) : chGet b = rfGet b := by
  cases h : chGet b with
  | some ys =>
    obtain ⟨e, h1, h2⟩ := chGet_cons h
    have k1 := chGet_back h1 h2
    have k2 := rfGet_back h1 h2
    rw [← e] at k1 k2
    rw [k2, ← k1, h]
  | none =>
    cases h' : rfGet b with
    | none => rfl
    | some ys =>
      obtain ⟨e, h1, h2⟩ := rfGet_cons h'
      have k1 := chGet_back h1 h2
      rw [← e, h] at k1; cases k1
end Go.Vai.C
