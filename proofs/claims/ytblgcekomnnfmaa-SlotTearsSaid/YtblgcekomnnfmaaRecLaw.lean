import Derived.Test.YtblgcekomnnfmaaRecBk
set_option linter.unusedSimpArgs false
set_option linter.unusedVariables false
set_option linter.constructorNameAsVariable false
namespace Go.Vai.R
open Go.Vai.O Go.Vai.L Go.Vai.G
theorem cat_split (p : Page) (nil : Bool) (b : List (BitVec 8)) : ∀ k, catB (splitP p nil b k) = b.take (488 * k)
  | 0 => by simp [splitP, catB]
  | k + 1 => by
    rw [splitP_succ]
    have ih := cat_split p nil b k
    simp only [catB, List.flatMap_append, List.flatMap_cons, List.flatMap_nil, List.append_nil] at ih ⊢
    rw [ih]
    show b.take (488 * k) ++ chunk b k = b.take (488 * (k + 1))
    rw [chunk, Nat.mul_succ, List.take_add]
theorem all_split {p : Page} {b : List (BitVec 8)} {n : Nat} (h : allPages (splitP p false b n) = true) {i : Nat} (hi : i < n) (nil : Bool) : pageOK (pageAt p nil b (parts (b.length : Int)) i) = true := by
  simp only [allPages, List.all_eq_true] at h
  have := h (pageAt p false b (parts (b.length : Int)) i) (by rw [← splitP_get (p := p) (nil := false) (b := b) hi]; exact List.getElem_mem _)
  exact this
theorem split_join {p : Page} {nil : Bool} {b : List (BitVec 8)} {more : List Page} (h0 : parts (b.length : Int) ≠ 0) (h : allPages (splitP p false b (parts (b.length : Int)).toNat) = true) :
    joinOK (splitP p nil b (parts (b.length : Int)).toNat ++ more) = true ∧ joinB (splitP p nil b (parts (b.length : Int)).toNat ++ more) = b ∧ joinN (splitP p nil b (parts (b.length : Int)).toNat ++ more) = parts (b.length : Int) := by
  have hp := parts_is (n := (b.length : Int)) (fun hc => h0 (parts_no hc))
  obtain ⟨n, hn⟩ : ∃ n, n = (parts (b.length : Int)).toNat := ⟨_, rfl⟩
  rw [← hn] at h ⊢
  obtain ⟨l, hl⟩ : ∃ l, l = splitP p nil b n ++ more := ⟨_, rfl⟩
  rw [← hl]
  have hnn : (n : Int) = parts (b.length : Int) := by omega
  have hlen : n ≤ l.length := by rw [hl, List.length_append, splitP_len]; omega
  have hg : ∀ i (hi : i < n), l[i]'(by omega) = pageAt p nil b (parts (b.length : Int)) i := fun i hi => by
    have : i < (splitP p nil b n).length := by rw [splitP_len]; exact hi
    simp only [hl]
    rw [List.getElem_append_left this, splitP_get hi]
  have hn0 : 0 < n := by omega
  have hl0 : 0 < l.length := by omega
  have h1 : pageOK l[0] = true := by rw [hg 0 hn0]; exact all_split h hn0 nil
  have hp0 : (l[0]).parts = parts (b.length : Int) := by rw [hg 0 hn0]; rfl
  have hj : jN l = n := by rw [jN, getD0 hl0, hp0]; exact hn.symm
  have hh : headOK l = true := head_yes hl0 h1 (by rw [hp0]; omega)
  have ht : l.take n = splitP p nil b n := by rw [hl, List.take_left' (splitP_len _ _ _ _)]
  have hb : jB l = b := by
    rw [jB, hj, ht, cat_split]
    exact List.take_of_length_le (by omega)
  have hf : allF l (jN l) = true := by
    rw [hj]
    simp only [allF, List.all_eq_true, List.mem_range]
    intro i hi
    rw [getD0 hl0, getD0 (show i < l.length by omega), hg 0 hn0, hg i hi]
    refine follows_iff.2 ⟨all_split h hi nil, rfl, rfl, rfl, ?_, rfl, rfl, ?_⟩
    · show p.idx + (i : Int) - (i : Int) = p.idx + ((0 : Nat) : Int); omega
    · by_cases e : (i : Int) = parts (b.length : Int) - 1
      · exact .inl e
      · right
        show ((chunk b i).length : Int) = 488
        have h4 := hp.2.2.2 (by omega)
        rw [chunk]; simp; omega
  have hy := join_yes hh hf (by rw [hb, hj, hnn])
  obtain ⟨_, e2, e3⟩ := join_t hy
  exact ⟨hy, by rw [e2, hb], by rw [e3, hj, hnn]⟩
end Go.Vai.R
