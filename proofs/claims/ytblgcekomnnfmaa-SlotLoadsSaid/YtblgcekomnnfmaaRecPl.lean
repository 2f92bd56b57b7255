import Derived.Test.YtblgcekomnnfmaaPagePl
set_option linter.unusedSimpArgs false
set_option linter.unusedVariables false
set_option linter.constructorNameAsVariable false
namespace Go.Vai.R
open Go.Vai.O Go.Vai.L Go.Vai.G
def parts (n : Int) : Int := if n < 0 ∨ n > 7808 then 0 else if n ≤ 488 then 1 else (n + 487) / 488
theorem parts_no {n : Int} (h : n < 0 ∨ n > 7808) : parts n = 0 := if_pos h
theorem parts_is {n : Int} (h : ¬ (n < 0 ∨ n > 7808)) : 1 ≤ parts n ∧ parts n ≤ 16 ∧ n ≤ 488 * parts n ∧ (2 ≤ parts n → 488 * (parts n - 1) < n) := by
  unfold parts; rw [if_neg h]; split <;> omega
theorem parts_max {n : Int} (h : ¬ (n < 0 ∨ n > 7808)) : (if (n + 487) / 488 > 1 then (n + 487) / 488 else 1) = parts n := by
  unfold parts; rw [if_neg h]; split <;> split <;> omega
/-- A record's page. -/
def chunk (b : List (BitVec 8)) (i : Nat) : List (BitVec 8) := (b.drop (488 * i)).take 488
def pageAt (p : Page) (nil : Bool) (b : List (BitVec 8)) (n : Int) (i : Nat) : Page := ⟨p.kind, p.gen, p.mark, p.idx + i, i, n, nil, chunk b i⟩
def splitP (p : Page) (nil : Bool) (b : List (BitVec 8)) (k : Nat) : List Page := (List.range k).map (pageAt p nil b (parts b.length))
theorem splitP_succ (p : Page) (nil : Bool) (b : List (BitVec 8)) (k : Nat) : splitP p nil b (k + 1) = splitP p nil b k ++ [pageAt p nil b (parts b.length) k] := by simp [splitP, List.range_succ]
theorem splitP_len (p : Page) (nil : Bool) (b : List (BitVec 8)) (k : Nat) : (splitP p nil b k).length = k := by simp [splitP]
theorem splitP_get {p : Page} {nil : Bool} {b : List (BitVec 8)} {k i : Nat} (h : i < k) : (splitP p nil b k)[i]'(by rw [splitP_len]; exact h) = pageAt p nil b (parts b.length) i := by simp [splitP]
def catB (l : List Page) : List (BitVec 8) := l.flatMap (·.b)
theorem catB_succ {l : List Page} {k : Nat} (h : k < l.length) : catB (l.take (k + 1)) = catB (l.take k) ++ l[k].b := by
  rw [List.take_succ_eq_append_getElem h]; simp only [catB, List.flatMap_append, List.flatMap_cons, List.flatMap_nil, List.append_nil]
/-- Is a page the part of a record behind others, of which the first one is told? -/
def follows (f p : Page) (i : Int) : Bool := pageOK p && (decide (p.kind = f.kind) && (decide (p.gen = f.gen) && (decide (p.mark = f.mark) && (decide (p.idx - i = f.idx) && (decide (p.part = i) && (decide (p.parts = f.parts) && (decide (i = f.parts - 1) || decide ((p.b.length : Int) = 488))))))))
theorem follows_iff {f p : Page} {i : Int} : follows f p i = true ↔ pageOK p = true ∧ p.kind = f.kind ∧ p.gen = f.gen ∧ p.mark = f.mark ∧ p.idx - i = f.idx ∧ p.part = i ∧ p.parts = f.parts ∧ (i = f.parts - 1 ∨ (p.b.length : Int) = 488) := by
  simp only [follows, Bool.and_eq_true, Bool.or_eq_true, decide_eq_true_eq]
def allF (l : List Page) (k : Nat) : Bool := (List.range k).all fun i => follows (l.getD 0 page0) (l.getD i page0) i
theorem allF_succ (l : List Page) (k : Nat) : allF l (k + 1) = (allF l k && follows (l.getD 0 page0) (l.getD k page0) k) := by simp [allF, List.range_succ]
/-- The record that pages begin with. -/
def headOK (l : List Page) : Bool := !l.isEmpty && (pageOK (l.getD 0 page0) && decide ((l.getD 0 page0).parts ≤ (l.length : Int)))
def jN (l : List Page) : Nat := (l.getD 0 page0).parts.toNat
def jB (l : List Page) : List (BitVec 8) := catB (l.take (jN l))
def joinOK (l : List Page) : Bool := headOK l && (allF l (jN l) && decide (parts ((jB l).length : Int) = (jN l : Int)))
def joinB (l : List Page) : List (BitVec 8) := if joinOK l then jB l else []
def joinN (l : List Page) : Int := if joinOK l then (jN l : Int) else 0
def allPages (l : List Page) : Bool := l.all pageOK
/-- The document's way. -/
def refOK (l : List Page) : Bool := headOK l && ((decide (parts ((jB l).length : Int) = (jN l : Int)) && allPages (l.take (jN l))) && (List.range (jN l)).all fun i => pageEq ((splitP (l.getD 0 page0) false (jB l) (jN l)).getD i page0) (l.getD i page0))
theorem head_is {l : List Page} (h : headOK l = true) : 0 < l.length ∧ pageOK (l.getD 0 page0) = true ∧ (jN l : Int) = (l.getD 0 page0).parts ∧ jN l ≤ l.length ∧ 1 ≤ jN l ∧ jN l ≤ 16 := by
  simp only [headOK, Bool.and_eq_true, decide_eq_true_eq, Bool.not_eq_true', List.isEmpty_eq_false_iff] at h
  obtain ⟨h1, h2, h3⟩ := h
  have := page_bd h2
  have hl : 0 < l.length := List.length_pos_iff.2 h1
  unfold jN
  exact ⟨hl, h2, by omega, by omega, by omega, by omega⟩
theorem page_eq {p q : Page} : pageEq p q = true ↔ p.kind = q.kind ∧ p.gen = q.gen ∧ p.mark = q.mark ∧ p.idx = q.idx ∧ p.part = q.part ∧ p.parts = q.parts ∧ p.b = q.b := by
  simp only [pageEq, Bool.and_eq_true, decide_eq_true_eq]
theorem cat_full {l : List Page} {k : Nat} (hk : k ≤ l.length) (h : ∀ i, i < k → (l.getD i page0).b.length = 488) : (catB (l.take k)).length = 488 * k := by
  induction k with
  | zero => simp [catB]
  | succ k ih =>
    rw [catB_succ (by omega), List.length_append, ih (by omega) (fun i hi => h i (by omega))]
    have := h k (by omega)
    rw [List.getD_eq_getElem?_getD, List.getElem?_eq_getElem (by omega)] at this
    simp only [Option.getD_some] at this
    omega
theorem cat_drop {l : List Page} {k n : Nat} (hk : k ≤ n) (hn : n ≤ l.length) (h : ∀ i, i < k → (l.getD i page0).b.length = 488) : (catB (l.take n)).drop (488 * k) = catB ((l.take n).drop k) := by
  have e : catB (l.take n) = catB (l.take k) ++ catB ((l.take n).drop k) := by
    have : l.take n = l.take k ++ (l.take n).drop k := by
      have h2 : l.take k = (l.take n).take k := by rw [List.take_take, Nat.min_eq_left hk]
      rw [h2, List.take_append_drop]
    conv => lhs; rw [this]
    simp only [catB, List.flatMap_append]
  rw [e, ← cat_full (by omega) h, List.drop_left']
  rfl
theorem join_ref (l : List Page) : joinOK l = refOK l := by
  cases hh : headOK l with
  | false => simp [joinOK, refOK, hh]
  | true =>
    obtain ⟨h0, h1, h2, h3, h4, h5⟩ := head_is hh
    cases hp : decide (parts ((jB l).length : Int) = (jN l : Int)) with
    | false => simp [joinOK, refOK, hh, hp]
    | true =>
      rw [decide_eq_true_eq] at hp
      have hb := parts_is (n := ((jB l).length : Int)) (by intro hc; rw [parts_no hc] at hp; omega)
      rw [hp] at hb
      simp only [joinOK, refOK, hh, hp, decide_true, Bool.true_and, Bool.and_true]
      rw [Bool.eq_iff_iff]
      constructor
      · intro ha
        simp only [allF, List.all_eq_true, List.mem_range] at ha
        have hf := fun i (hi : i < jN l) => follows_iff.1 (ha i hi)
        have hfull : ∀ i, i < jN l - 1 → (l.getD i page0).b.length = 488 := fun i hi => by
          obtain ⟨_, _, _, _, _, _, _, h⟩ := hf i (by omega)
          rcases h with h | h <;> omega
        simp only [Bool.and_eq_true, allPages, List.all_eq_true, List.mem_range]
        constructor
        · intro x hx
          obtain ⟨i, hi, rfl⟩ := List.mem_take_iff_getElem.1 hx
          have := (hf i (by omega)).1
          rw [List.getD_eq_getElem?_getD, List.getElem?_eq_getElem (by omega)] at this
          exact this
        · intro i hi
          rw [List.getD_eq_getElem?_getD (l := splitP _ _ _ _), List.getElem?_eq_getElem (by rw [splitP_len]; exact hi), splitP_get hi, Option.getD_some]
          obtain ⟨k1, k2, k3, k4, k5, k6, k7, k8⟩ := hf i hi
          refine page_eq.2 ⟨k2.symm, k3.symm, k4.symm, ?_, k6.symm, ?_, ?_⟩
          · show (l.getD 0 page0).idx + (i : Int) = _; omega
          · show parts _ = _; rw [hp, k7]; exact h2
          · show chunk (jB l) i = _
            have hd := cat_drop (l := l) (k := i) (n := jN l) (by omega) h3 (fun j hj => hfull j (by omega))
            have hi2 : i < (l.take (jN l)).length := by simp; omega
            have hg : l[i]'(by omega) = l.getD i page0 := by rw [List.getD_eq_getElem?_getD, List.getElem?_eq_getElem (by omega)]; rfl
            have hdd : catB ((l.take (jN l)).drop i) = (l.getD i page0).b ++ catB ((l.take (jN l)).drop (i + 1)) := by
              rw [List.drop_eq_getElem_cons hi2]
              simp only [catB, List.flatMap_cons, List.getElem_take, hg]
            unfold chunk jB
            rw [hd, hdd]
            by_cases hlast : i < jN l - 1
            · rw [List.take_left' (hfull i hlast)]
            · have : (l.take (jN l)).drop (i + 1) = [] := List.drop_of_length_le (by simp; omega)
              rw [this]
              have := page_bd k1
              simp only [catB, List.flatMap_nil, List.append_nil]
              exact List.take_of_length_le (by omega)
      · intro ha
        simp only [Bool.and_eq_true, allPages, List.all_eq_true, List.mem_range] at ha
        obtain ⟨ha, hs⟩ := ha
        simp only [allF, List.all_eq_true, List.mem_range]
        intro i hi
        have he := hs i hi
        rw [List.getD_eq_getElem?_getD (l := splitP _ _ _ _), List.getElem?_eq_getElem (by rw [splitP_len]; exact hi), splitP_get hi, Option.getD_some] at he
        obtain ⟨e1, e2, e3, e4, e5, e6, e7⟩ := page_eq.1 he
        have hok : pageOK (l.getD i page0) = true := by
          rw [List.getD_eq_getElem?_getD, List.getElem?_eq_getElem (by omega)]
          exact ha _ (List.mem_take_iff_getElem.2 ⟨i, by omega, rfl⟩)
        refine follows_iff.2 ⟨hok, e1.symm, e2.symm, e3.symm, ?_, e5.symm, ?_, ?_⟩
        · have : (l.getD 0 page0).idx + (i : Int) = (l.getD i page0).idx := e4
          omega
        · have : parts _ = (l.getD i page0).parts := e6
          rw [← this, hp]; exact h2
        · by_cases hlast : (i : Int) = (l.getD 0 page0).parts - 1
          · exact .inl hlast
          · right
            have : chunk (jB l) i = (l.getD i page0).b := e7
            rw [← this]
            unfold chunk
            simp
            omega
end Go.Vai.R
