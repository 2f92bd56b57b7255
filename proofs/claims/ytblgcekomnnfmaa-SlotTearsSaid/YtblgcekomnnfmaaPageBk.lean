import Derived.Test.YtblgcekomnnfmaaPagePl
set_option linter.unusedSimpArgs false
set_option linter.unusedVariables false
set_option linter.constructorNameAsVariable false
namespace Go.Vai.G
open Go.Vai.O Go.Vai.L
theorem numV_inj : ∀ (n : Nat) (a b : List (BitVec 8)), a.length = n → b.length = n → numV a = numV b → a = b
  | 0, a, b, ha, hb, _ => by rw [List.eq_nil_of_length_eq_zero ha, List.eq_nil_of_length_eq_zero hb]
  | n + 1, a, b, ha, hb, h => by
    have ea : a = a.take n ++ [a[n]] := by rw [← List.take_succ_eq_append_getElem (by omega), List.take_of_length_le (by omega)]
    have eb : b = b.take n ++ [b[n]] := by rw [← List.take_succ_eq_append_getElem (by omega), List.take_of_length_le (by omega)]
    rw [ea, eb, numV_snoc, numV_snoc] at h
    have h1 := (a[n]).isLt
    have h2 := (b[n]).isLt
    have h3 := numV_inj n (a.take n) (b.take n) (by simp; omega) (by simp; omega) (by omega)
    have h4 : a[n] = b[n] := BitVec.eq_of_toNat_eq (by omega)
    rw [ea, eb, h3, h4]
theorem numR_numV {k : Nat} {x : List (BitVec 8)} (h : x.length = k) : numR (numV x) k = x := by
  obtain ⟨h1, h2⟩ := numV_range k x h
  refine numV_inj k _ _ (numR_length _ _) h ?_
  rw [numV_numR h1, pow_256]
  exact Int.emod_eq_of_lt h1 h2
/-- The page that the bytes ahead of a check seem to be. -/
def at1 (i : List (BitVec 8)) (k : Nat) : Int := ((i.getD k default).toNat : Int)
def at4 (i : List (BitVec 8)) (k : Nat) : Int := rV i k false 4
def pgN (i : List (BitVec 8)) : Int := rV i 18 false 2
def pgP (i : List (BitVec 8)) : Page := ⟨at1 i 3, at4 i 4, at4 i 8, at4 i 12, at1 i 16, at1 i 17, false, (i.drop 20).take (pgN i).toNat⟩
theorem rV_is {l : List (BitVec 8)} {a : Nat} {k : Int} (hk : 1 ≤ k ∧ k ≤ 8) (h : (a : Int) + k ≤ l.length) : rV l a false k = numV ((l.drop a).take k.toNat) := by
  rw [rV, (rA_ok hk h).1, if_neg (by decide)]
theorem cut_add {α : Type} (l : List α) (a k : Nat) : l.drop a = (l.drop a).take k ++ l.drop (a + k) := by
  rw [← List.drop_drop, List.take_append_drop]
theorem pg_split {i : List (BitVec 8)} (h : i.length = 508) : pageH (pgP i) = [87#8, 65#8, 89#8] ++ ((i.drop 3).take 17 ++ (i.drop 20).take (pgN i).toNat) ∨ ¬ pgN i ≤ 488 := by
  by_cases hn : pgN i ≤ 488
  · left
    have n0 : 0 ≤ pgN i := (rV_range i 18 false 2).1
    have hl : ((i.drop 20).take (pgN i).toNat).length = (pgN i).toNat := by simp; omega
    have e1 : ∀ k, k < 508 → numR (at1 i k) 1 = (i.drop k).take 1 := fun k hk => by
      rw [at1, ← rV_one (by omega), rV_is (by omega) (by omega)]
      exact numR_numV (by simp; omega)
    have e4 : ∀ k, k + 4 ≤ 508 → numR (at4 i k) 4 = (i.drop k).take 4 := fun k hk => by
      rw [at4, rV_is (by omega) (by omega)]
      exact numR_numV (by simp; omega)
    have e2 : numR (pgN i) 2 = (i.drop 18).take 2 := by
      rw [pgN, rV_is (by omega) (by omega)]
      exact numR_numV (by simp; omega)
    have hb : (((pgP i).b.length : Nat) : Int) = pgN i := by
      show ((((i.drop 20).take (pgN i).toNat).length : Nat) : Int) = pgN i
      rw [hl]; omega
    rw [pageH, hb]
    show [87#8, 65#8, 89#8] ++ (numR (at1 i 3) 1 ++ (numR (at4 i 4) 4 ++ (numR (at4 i 8) 4 ++ (numR (at4 i 12) 4 ++ (numR (at1 i 16) 1 ++ (numR (at1 i 17) 1 ++ (numR (pgN i) 2 ++ (i.drop 20).take (pgN i).toNat))))))) = _
    rw [e1 3 (by omega), e4 4 (by omega), e4 8 (by omega), e4 12 (by omega), e1 16 (by omega), e1 17 (by omega), e2]
    have c : ∀ a b : Nat, (i.drop 3).take (a + b) = (i.drop 3).take a ++ (i.drop (3 + a)).take b := fun a b => by
      rw [List.take_add, List.drop_drop]
    rw [show (17 : Nat) = 1 + (4 + (4 + (4 + (1 + (1 + 2))))) from rfl]
    have d : ∀ a b k : Nat, (i.drop k).take (a + b) = (i.drop k).take a ++ (i.drop (k + a)).take b := fun a b k => by
      rw [List.take_add, List.drop_drop]
    rw [d, d, d, d, d, d]
    simp only [List.append_assoc, Nat.reduceAdd]
  · exact .inr hn
theorem pg_whole {i : List (BitVec 8)} (h : i.length = 508) (hn : pgN i ≤ 488) : pageB (pgP i) = i ↔ i.take 3 = [87#8, 65#8, 89#8] ∧ i.drop (20 + (pgN i).toNat) = List.replicate (488 - (pgN i).toNat) 0#8 := by
  have hs := (pg_split h).resolve_right (fun f => f hn)
  have n0 : 0 ≤ pgN i := (rV_range i 18 false 2).1
  have hl : ((i.drop 20).take (pgN i).toNat).length = (pgN i).toNat := by simp; omega
  have hi : i = i.take 3 ++ ((i.drop 3).take 17 ++ ((i.drop 20).take (pgN i).toNat ++ i.drop (20 + (pgN i).toNat))) := by
    rw [← cut_add, ← cut_add i 3 17, List.take_append_drop]
  have hb : pageB (pgP i) = [87#8, 65#8, 89#8] ++ ((i.drop 3).take 17 ++ ((i.drop 20).take (pgN i).toNat ++ List.replicate (488 - (pgN i).toNat) 0#8)) := by
    rw [pageB, hs]
    show _ ++ List.replicate (488 - ((i.drop 20).take (pgN i).toNat).length) 0#8 = _
    rw [hl]; simp only [List.append_assoc]
  constructor
  · intro e
    rw [hb] at e
    have e' := e.trans hi
    have l3 : ([87#8, 65#8, 89#8] : List (BitVec 8)).length = (i.take 3).length := by simp; omega
    obtain ⟨a1, a2⟩ := List.append_inj e' l3
    obtain ⟨_, a3⟩ := List.append_inj a2 rfl
    obtain ⟨_, a4⟩ := List.append_inj a3 rfl
    exact ⟨a1.symm, a4.symm⟩
  · rintro ⟨a1, a2⟩
    rw [hb]
    conv => rhs; rw [hi]
    rw [a1, a2]
end Go.Vai.G
