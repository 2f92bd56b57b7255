import Derived.Test.YtompjoadhhjddaaRecBk
set_option linter.unusedSimpArgs false
set_option linter.unusedVariables false
set_option linter.constructorNameAsVariable false
namespace Go.Vai.R
open Go.Vai.O Go.Vai.L Go.Vai.G
theorem cat_split (p : Page) (nil : Bool) (b : List (BitVec 8)) : ∀ k, catB (splitP p nil b k) = b.take (488 * k)
  | 0 => by simp [splitP, catB]
  | k + 1 => by
    rw [splitP_succ]
    have ih := cat_split p nil b k
    simp only [catB, List.flatMap_append, List.flatMap_cons, List.flatMap_nil, List.append_nil] at ih ⊢
    rw [ih]
    show b.take (488 * k) ++ chunk b k = b.take (488 * (k + 1))
    rw [chunk, Nat.mul_succ, List.take_add]
theorem all_split {p : Page} {b : List (BitVec 8)} {n : Nat} (h : allPages (splitP p false b n) = true) {i : Nat} (hi : i < n) (nil : Bool) : pageOK (pageAt p nil b (parts (b.length : Int)) i) = true := by
  simp only [allPages, List.all_eq_true] at h
  have := h (pageAt p false b (parts (b.length : Int)) i) (by rw [← splitP_get (p := p) (nil := false) (b := b) hi]; exact List.getElem_mem _)
  exact this
theorem split_join {p : Page} {nil : Bool} {b : List (BitVec 8)} {more : List Page} (h0 : parts (b.length : Int) ≠ 0) (h : allPages (splitP p false b (parts (b.length : Int)).toNat) = true) :
    joinOK (splitP p nil b (parts (b.length : Int)).toNat ++ more) = true ∧ joinB (splitP p nil b (parts (b.length : Int)).toNat ++ more) = b ∧ joinN (splitP p nil b (parts (b.length : Int)).toNat ++ more) = parts (b.length : Int) := by
  have hp := parts_is (n := (b.length : Int)) (fun hc => h0 (parts_no hc))
  obtain ⟨n, hn⟩ : ∃ n, n = (parts (b.length : Int)).toNat := ⟨_, rfl⟩
  rw [← hn] at h ⊢
  obtain ⟨l, hl⟩ : ∃ l, l = splitP p nil b n ++ more := ⟨_, rfl⟩
  rw [← hl]
  have hnn : (n : Int) = parts (b.length : Int) := by omega
  have hlen : n ≤ l.length := by rw [hl, List.length_append, splitP_len]; omega
  have hg : ∀ i (hi : i < n), l[i]'(by omega) = pageAt p nil b (parts (b.length : Int)) i := fun i hi => by
    have : i < (splitP p nil b n).length := by rw [splitP_len]; exact hi
    simp only [hl]
    rw [List.getElem_append_left this, splitP_get hi]
  have hn0 : 0 < n := by omega
  have hl0 : 0 < l.length := by omega
  have h1 : pageOK l[0] = true := by rw [hg 0 hn0]; exact all_split h hn0 nil
  have hp0 : (l[0]).parts = parts (b.length : Int) := by rw [hg 0 hn0]; rfl
  have hj : jN l = n := by rw [jN, getD0 hl0, hp0]; exact hn.symm
  have hh : headOK l = true := head_yes hl0 h1 (by rw [hp0]; omega)
  have ht : l.take n = splitP p nil b n := by rw [hl, List.take_left' (splitP_len _ _ _ _)]
  have hb : jB l = b := by
    rw [jB, hj, ht, cat_split]
    exact List.take_of_length_le (by omega)
  have hf : allF l (jN l) = true := by
    rw [hj]
    simp only [allF, List.all_eq_true, List.mem_range]
    intro i hi
    rw [getD0 hl0, getD0 (show i < l.length by omega), hg 0 hn0, hg i hi]
    refine follows_iff.2 ⟨all_split h hi nil, rfl, rfl, rfl, ?_, rfl, rfl, ?_⟩
    · show p.idx + (i : Int) - (i : Int) = p.idx + ((0 : Nat) : Int); omega
    · by_cases e : (i : Int) = parts (b.length : Int) - 1
      · exact .inl e
      · right
        show ((chunk b i).length : Int) = 488
        have h4 := hp.2.2.2 (by omega)
        rw [chunk]; simp; omega
  have hy := join_yes hh hf (by rw [hb, hj, hnn])
  obtain ⟨_, e2, e3⟩ := join_t hy
  exact ⟨hy, by rw [e2, hb], by rw [e3, hj, hnn]⟩
theorem mix_no {p q : Page} {n1 n2 : Bool} {a b : List (BitVec 8)} {N M k : Nat} (hN : N = (parts (a.length : Int)).toNat) (hp : 2 ≤ N) (hk : 1 ≤ k ∧ k < N) (h : ¬ (p.gen = q.gen ∧ p.mark = q.mark)) :
    joinOK ((splitP p n1 a N).take k ++ (splitP q n2 b M).drop k) = false := by
  obtain ⟨l, hl⟩ : ∃ l, l = (splitP p n1 a N).take k ++ (splitP q n2 b M).drop k := ⟨_, rfl⟩
  rw [← hl]
  have hlen : l.length = k + (M - k) := by rw [hl]; simp [splitP_len]; omega
  have hl0 : 0 < l.length := by omega
  have h0 : l[0] = pageAt p n1 a (parts (a.length : Int)) 0 := by
    simp only [hl]
    rw [List.getElem_append_left (by simp [splitP_len]; omega), List.getElem_take, splitP_get (by omega)]
  cases e : joinOK l with
  | false => rfl
  | true =>
    exfalso
    have e' := e
    simp only [joinOK, Bool.and_eq_true] at e
    obtain ⟨e1, e2, _⟩ := e
    obtain ⟨_, _, e3, e4, _, _⟩ := head_is e1
    rw [getD0 hl0, h0] at e3
    have e5 : (jN l : Int) = parts (a.length : Int) := e3
    have hkj : k < jN l := by omega
    have hkl : k < l.length := by omega
    have hk2 : l[k] = pageAt q n2 b (parts (b.length : Int)) k := by
      simp only [hl]
      rw [List.getElem_append_right (by simp [splitP_len]; omega)]
      rw [List.getElem_drop]
      have : k + (k - ((splitP p n1 a N).take k).length) = k := by simp [splitP_len]; omega
      simp only [this]
      exact splitP_get (by omega)
    simp only [allF, List.all_eq_true, List.mem_range] at e2
    have f := follows_iff.1 (e2 k hkj)
    rw [getD0 hl0, getD0 hkl, h0, hk2] at f
    exact h ⟨f.2.2.1.symm, f.2.2.2.1.symm⟩
theorem pages_nil (p : Page) (n1 n2 : Bool) (b : List (BitVec 8)) (k : Nat) : eqAll pageEq (splitP p n1 b k) (splitP p n2 b k) = true := by
  rw [eqAll, decide_eq_true (by rw [splitP_len, splitP_len])]
  simp only [Bool.true_and, List.all_eq_true]
  intro x hx
  obtain ⟨i, hi, rfl⟩ := List.mem_iff_getElem.1 hx
  have h1 : i < k := by simpa [splitP_len] using hi
  rw [List.getElem_zip, splitP_get h1, splitP_get h1]
  exact page_eq.2 ⟨rfl, rfl, rfl, rfl, rfl, rfl, rfl⟩
end Go.Vai.R
